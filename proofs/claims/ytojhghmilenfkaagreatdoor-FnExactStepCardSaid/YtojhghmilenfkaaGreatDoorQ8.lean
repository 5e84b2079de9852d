/- A part of the proof of the claim that the last text states: no condition of its own. -/
import Derived.Test.YtojhghmilenfkaaGreatDoorQ7
import Derived.Recover
set_option linter.unusedVariables false
set_option linter.unusedSimpArgs false
namespace Go.V
open Go Go.Proofs Go.Proofs.Tryz
theorem Xl{X:Cx}{S:St}{F F':Cw}{N:Nat}{ops:Array Oper}{i:Nat}{o:Oper}{os:List Oper}{x y:AV}{bs:List Nat}{em:Nat}{Hs:List St}{pend:List Jc}{KK:Cw→St→Prop}
 (k:Drv X N ops bs em os (i+1) F' S Hs pend KK)(ho:ops[i]?=some o:=by rfl)(hw:Bc ops F o=some true:=by rfl)(h:∀bx tk,Kx X F ⟨bx,tk⟩ o.op=some (x,⟨bx,tk⟩):=by intro _ _;rfl) [hr:RinC [] [] x y]
 (hF:Oz N o.dst y F=some F':=by rfl):Drv X N ops bs em (o::os) i F S Hs pend KK:=by
 obtain⟨h1,rfl⟩:=Gd hF;exact Kw (fun⟨bx,tk⟩=>Al3 (Me ho hw (h bx tk))) h1 k
theorem A2l(f:Nat)(i1:∀g,g<f→Aw2 g):As6 f:=by
 intro r e ho hw hb hf;obtain⟨g,rfl⟩:∃g,f=g+1:=⟨f-1,by omega⟩
 refine GoesI.run func367 ?_;have hM:Ev (g+1) r=Ii g (Fw g r).1 (Fw g r).2:=by simp_all [Ev]
 rw[hM];have ih:=i1 g (by omega) r e ho hw hb (by omega);have af:=(F4 g).1 r ho;have lf:=Bm af;generalize Fw g r=q at ih af lf⊢;obtain⟨x,q⟩:=q;simp only at ih af lf⊢;by_cases g1:q.bad=false
 ·refine Af [0] [] (ih.ok g1) ?_;generalize hT:Ii g x q=T;refine Ar (ι:=Nat×Nd×RS) 3 0 (fun i=>i.2.2.ok∧i.2.2.wk∧i.2.2.bad=false∧4*i.2.2.left+1≤i.1∧i.1≤g∧T=Ii i.1 i.2.1 i.2.2) (fun _=>[(0,.ptr 0 0 0),(2,.ptr 1 0 0),(3,.ptr 2 0 0)])
   (fun i=>⟨[[pc i.2.2 e],[zN],[Ag i.2.1]],[]⟩) (fun i=>i.1) ?_ (g,x,q) ⟨af.ok ho,af.wk hw,g1,by simp only;omega,Bt _,hT.symm⟩ ⟨rfl,rfl,rfl,trivial⟩
  rintro⟨n,y,q⟩ ⟨hqo,hqw,hqb,hfu,hng,hTn⟩ IH;simp only at hqo hqw hqb hfu hng hTn IH⊢;obtain⟨m,rfl⟩:∃m,n=m+1:=⟨n-1,by omega⟩
  have hL:T=if q.takes [42]then Ii m (.mk 8 [] 0 [y,(Fw m q.step).1]) (Fw m q.step).2 else(y,q):=by grind [Ii]
  refine Ba 100 rfl ?_;refine Af [0] [] (Jk q e [42] hqb (by simp)) ?_;refine Ai (fun h=>?_) (fun h=>?_)
  ·have h':q.takes [42]=true:=h;have hl:=(A2 h' (by simp)).1;have ls:=Ch hl;have s:=Ak hl;rw[if_pos h']at hL;rw[E5 h'];have ih2:=i1 m (by omega) q.step e (s.ok hqo) (s.wk hqw) hqb (by omega);have af2:=(F4 m).1 q.step (s.ok hqo);have lf2:=Bm af2;by_cases g2:(Fw m q.step).2.bad=false
   ·refine Hb 36 2 ?_;refine Er (H0 [0] [] (ih2.ok g2)) ?_ ?_
    ·exact Aq (Cy rfl rfl rfl) G6
    refine Xl ?_;refine A0 ?_;refine C4 (Bg rfl rfl rfl rfl rfl rfl rfl) ?_;refine Bu ?_;refine IH (m,.mk 8 [] 0 [y,(Fw m q.step).1],(Fw m q.step).2) ⟨(s.trans af2).ok hqo,(s.trans af2).wk hqw,g2,by simp only;omega,by simp only;omega,hL⟩ (by simp only;omega) _ _ ⟨rfl,rfl,rfl,trivial⟩ ?_ rfl rfl;simp[St.drop,upd,Ag,Ax]
   ·have g2:=Cc g2;rw[Abb g2]at hL;rw[hL,Dh g2];refine L1 (S1:=?S1) 2 36 2 func367 ?hk ?hS
    case hk=>
     refine Ma ?_;exact Thr.hd [0] [] (ih2.bad g2)
    case hS=>rfl
  ·have h':q.takes [42]=false:=h;rw[if_neg (by simp[h'])]at hL;rw[F6 h',hL,Kn hqb];exact Bz func367 rfl rfl
 ·have g1:=Cc g1;rw[Abb g1,Dh g1];exact F9 func367 (Thr.hd [0] [] (ih.bad g1)) rfl
theorem A2f(f:Nat)(i2:∀g,g<f→As6 g):As4 f:=by
 intro r e ho hw hb hf;obtain⟨g,rfl⟩:∃g,f=g+1:=⟨f-1,by omega⟩
 refine GoesI.run func352 ?_;have hM:Fa (g+1) r=Hn g (Ev g r).1 (Ev g r).2:=by simp_all [Fa]
 rw[hM];have ih:=i2 g (by omega) r e ho hw hb (by omega);have af:=(F4 g).2.1 r ho;have lf:=Bm af;generalize Ev g r=q at ih af lf⊢;obtain⟨x,q⟩:=q;simp only at ih af lf⊢;by_cases g1:q.bad=false
 ·refine Af [0] [] (ih.ok g1) ?_;generalize hT:Hn g x q=T;refine Ar (ι:=Nat×Nd×RS) 3 0 (fun i=>i.2.2.ok∧i.2.2.wk∧i.2.2.bad=false∧4*i.2.2.left+2≤i.1∧i.1≤g∧T=Hn i.1 i.2.1 i.2.2) (fun _=>[(0,.ptr 0 0 0),(2,.ptr 1 0 0),(3,.ptr 2 0 0)])
   (fun i=>⟨[[pc i.2.2 e],[zN],[Ag i.2.1]],[]⟩) (fun i=>i.1) ?_ (g,x,q) ⟨af.ok ho,af.wk hw,g1,by simp only;omega,Bt _,hT.symm⟩ ⟨rfl,rfl,rfl,trivial⟩
  rintro⟨n,y,q⟩ ⟨hqo,hqw,hqb,hfu,hng,hTn⟩ IH;simp only at hqo hqw hqb hfu hng hTn IH⊢;obtain⟨m,rfl⟩:∃m,n=m+1:=⟨n-1,by omega⟩
  have hL:T=if q.takes [43]then Hn m (.mk 6 [] 0 [y,(Ev m q.step).1]) (Ev m q.step).2
   else if q.takes [45]then Hn m (.mk 7 [] 0 [y,(Ev m q.step).1]) (Ev m q.step).2 else(y,q):=by grind [Hn]
  refine Ba 100 rfl ?_;refine Af [0] [] (A2g q e [45]) ?_;refine Ai (fun h=>?_) (fun h=>?_)
  ·have h':q.takes [45]=true:=by grind [Kd]
   rw[if_neg (by grind [Rs]),if_pos h']at hL;have hl:=(A2 h' (by simp)).1;have ls:=Ch hl;have s:=Ak hl;have ih2:=i2 m (by omega) q.step e (s.ok hqo) (s.wk hqw) hqb (by omega);have af2:=(F4 m).2.1 q.step (s.ok hqo);have lf2:=Bm af2;refine Af [0] [] (Aao q e hl) ?_;by_cases g2:(Ev m q.step).2.bad=false
   ·refine Hb 72 3 ?_;refine Er (H0 [0] [] (ih2.ok g2)) ?_ ?_
    ·exact Aq (Cy rfl rfl rfl) G6
    refine Xl ?_;refine A0 ?_;refine C4 (Bg rfl rfl rfl rfl rfl rfl rfl) ?_;refine Bu ?_;refine IH (m,.mk 7 [] 0 [y,(Ev m q.step).1],(Ev m q.step).2) ⟨(s.trans af2).ok hqo,(s.trans af2).wk hqw,g2,by simp only;omega,by simp only;omega,hL⟩ (by simp only;omega) _ _ ⟨rfl,rfl,rfl,trivial⟩ ?_ rfl rfl;simp[St.drop,upd,Ag,Ax]
   ·have g2:=Cc g2;rw[V9 g2]at hL;rw[hL,Dh g2];refine L1 (S1:=?S1) 3 72 3 func352 ?hk ?hS
    case hk=>
     refine Ma ?_;exact Thr.hd [0] [] (ih2.bad g2)
    case hS=>rfl
  ·have h0:q.takes [45]=false:=by grind [Kd]
   refine Af [0] [] (A2g q e [43]) ?_;refine Ai (fun h2=>?_) (fun h2=>?_)
   ·have h':q.takes [43]=false:=by grind [Kd]
    rw[if_neg (by simp[h']),if_neg (by simp[h0])]at hL;rw[hL,Kn hqb];exact Bz func352 rfl rfl
   ·have h':q.takes [43]=true:=by grind [Kd]
    rw[if_pos h']at hL;have hl:=(A2 h' (by simp)).1;have ls:=Ch hl;have s:=Ak hl;have ih2:=i2 m (by omega) q.step e (s.ok hqo) (s.wk hqw) hqb (by omega);have af2:=(F4 m).2.1 q.step (s.ok hqo);have lf2:=Bm af2;refine Af [0] [] (Aao q e hl) ?_;by_cases g2:(Ev m q.step).2.bad=false
    ·refine Hb 72 3 ?_;refine Er (H0 [0] [] (ih2.ok g2)) ?_ ?_
     ·exact Aq (Cy rfl rfl rfl) G6
     refine Xl ?_;refine A0 ?_;refine C4 (Bg rfl rfl rfl rfl rfl rfl rfl) ?_;refine Bu ?_;refine IH (m,.mk 6 [] 0 [y,(Ev m q.step).1],(Ev m q.step).2) ⟨(s.trans af2).ok hqo,(s.trans af2).wk hqw,g2,by simp only;omega,by simp only;omega,hL⟩ (by simp only;omega) _ _ ⟨rfl,rfl,rfl,trivial⟩ ?_ rfl rfl;simp[St.drop,upd,Ag,Ax]
    ·have g2:=Cc g2;rw[V9 g2]at hL;rw[hL,Dh g2];refine L1 (S1:=?S1) 3 72 3 func352 ?hk ?hS
     case hk=>
      refine Ma ?_;exact Thr.hd [0] [] (ih2.bad g2)
     case hS=>rfl
 ·have g1:=Cc g1;rw[V9 g1,Dh g1];exact F9 func352 (Thr.hd [0] [] (ih.bad g1)) rfl
theorem Ayb:∀f:Nat,Aw2 f∧As6 f∧As4 f:=by
 intro f
 induction f using Nat.strongRecOn<;>grind [A49,A2l,A2f]
theorem Sz(r:RS)(e:Nat)(ho:r.ok)(hw:r.wk)(hb:r.bad=false):GoesI 352 (Cd r) r e:=
 (Ayb 6010).2.2 r e ho hw hb (by have:=ho.1;grind [RS.left])
abbrev Avv:List Ad:=[[60],[60,61],[62],[62,61],[61,61],[33,61]]
theorem Avu(s:Ad):Fe 0 Avv s=if relS s=0 then -1 else relS s-11:=by
 grind [Fe,relS]
theorem As7{X:Cx}{S:St}{F:Cw}{N t n e:Nat}{ops:Array Oper}{i:Nat}{o:Oper}{p:Operand}{cs:An}{y ye:Ty}{rows:A7}(hrows:cs.map (fun x=>[x])=rows)(ho:ops[i]?=some o:=by rfl)(hw:Bc ops F o=some true:=by rfl)
 (hop:o.op=.slice t p none none none:=by rfl)(hp:Dv X F p=some (.cptr cs):=by rfl)(hy:X.ty t=some y:=by rfl)(hyk:y.k=.arr n e:=by rfl)(hye:X.ty e=some ye:=by rfl)(h1:ye.size=1:=by rfl)
 (hl:cs.length=n:=by rfl)(hx:Nat.ble n 1000=true:=by rfl):Ndo X N ops i o F (.sl rows .no) S S:=by
 subst hrows;refine Dp ho hw fun F' E w a hc hI hF=>?_;rw[hop]at hc;have r1:=Am hI hF ((hc p (by simp[Op.operands])).trans hp);obtain⟨d,hdd,hd2⟩:=(X.ty_ok t y hy).agg;simp only[hyk]at hd2;obtain⟨rfl,ye',hye',hne0⟩:=hd2;rw[hye]at hye';cases hye';have hn:=J5 hx;generalize hv:a.eval p=u at r1;cases r1 with
 |cptr _ b o' vals hm hcl hr=>
  refine⟨.slice (some ⟨b,o',none⟩) n n,?_,?_⟩
  ·simp_all [execOp,Instr.sliceAt,run_underlying,Dx,Instr.sureAddr,Instr.sliceBounds,Gq]
  ·refine .sl _ .no _ n n b o' 1 (fun i' _=>vals i') (by simp[hl]) (by grind [P1]) (fun _=>rfl) (fun r hr=>?_) (fun i' j' hi hj=>?_) (fun i' j' hi hj=>?_) (fun i' j' r x hi hj=>?_) trivial (Bt _)
   ·grind
   ·simp_all
   ·simp_all
   grind
theorem Amp(r:RS)(e:Nat)(ho:r.ok)(hw:r.wk)(hb:r.bad=false):GoesI 350 (Dr r) r e:=by
 refine GoesI.run func350 ?_;have ih:=Sz r e ho hw hb;have af:=Cg ho;simp only[Dr];generalize Cd r=q at ih af⊢;obtain⟨x,q⟩:=q;simp only at ih af⊢;by_cases g1:q.bad=false
 ·refine Af [0] [] (ih.ok g1) ?_;have hidx:=Avu q.text;refine Hb 0 0 ?_;refine D6 (fun S'=>As7 (cs:=condG) (rows:=Eu Avv) rfl) ?_;refine Hy 1 ?_;refine A4 (H0 [0] [] (Ta q e)) ?_;refine C9 ?_;refine Hz (Acp Avv q.text (by decide)) ?_;refine C9 ?_;refine Bu ?_;rw[hidx];by_cases hz:relS q.text=0
  ·rw[if_pos hz,if_pos (by simp[hz]),Dh (show q.spoil.bad=true from rfl)];refine Ay ?_;exact F9 func350 (Thr.hd [0] [] (Y6 q e)) rfl
  ·have hrr:=Aed hz;rw[if_neg hz,if_neg (by simp_all)];have hl:=Wo hz;have s:=af.trans (Ak hl);have ih2:=Sz q.step e (s.ok ho) (s.wk hw) g1;refine Ah ?_ (ht:=Ks (by omega));refine Af [0] [] (Aao q e hl) ?_;have hwr:IntKind.i64.wrap (11+(relS q.text-11))=relS q.text:=(Ac (by omega) (by omega)).trans (by omega);by_cases g2:(Cd q.step).2.bad=false
   ·rw[Kn g2];refine Hb 144 4 ?_;refine Er (H0 [0] [] (ih2.ok g2)) ?_ ?_
    ·exact Aq (Cy rfl rfl rfl) G6
    refine Ac0 ?_;refine A0 ?_;refine C4 (Bg rfl rfl rfl rfl rfl rfl rfl) ?_;refine Bu ?_;refine Bz func350 ?_ rfl;rw[hwr,Lr];rfl
   ·have g2:=Cc g2;rw[Dh g2];refine L1 (S1:=?S1) 4 144 4 func350 ?hk ?hS
    case hk=>
     refine Ma ?_;exact Thr.hd [0] [] (ih2.bad g2)
    case hS=>rfl
 ·have g1:=Cc g1;rw[if_pos (by simp[g1]),Dh (show q.spoil.bad=true from rfl)];have e1:q.spoil=q:=by
   obtain⟨ws,a,b⟩:=q;simp only at g1;subst g1;rfl
  rw[e1];exact F9 func350 (Thr.hd [0] [] (ih.bad g1)) rfl
end Go.V
namespace Go.V
open Go
section
variable {X:Cx}{B:Bx}{E:Env}{S:St}{w:World}{F:Cw}{a:Act}{N:Nat}{ops:Array Oper}{i:Nat}{o:Oper}{p q:Operand}
theorem Aw6{t n e:Nat}{ps:Array (Nat×Operand)}{y ye:Ty}{rows:A7}{bx:B3}{b:Nat}(ho:ops[i]?=some o:=by rfl)(hw:Bc ops F o=some true:=by rfl)(hop:o.op=.buildSlice t n ps:=by rfl)
 (hy:X.ty t=some y:=by rfl)(hk:y.k=.slc e:=by rfl)(hye:X.ty e=some ye:=by rfl)(hble:Nat.ble (n*ye.size) 1000000=true:=by rfl)
 (hr:U9 X F ye.size ps.toList (List.replicate n ye.zero)=some (.sl rows .tight):=by rfl)(hb:Aat S.boxes=b:=by rfl)(hbx:S.boxes++[rows]=bx:=by rfl):Ndo X N ops i o F (.bsl b n) S ⟨bx,S.toks⟩:=by
 subst hbx;rw[Kj]at hb;subst hb;intro F' E w a hl hI hF;have hlr:U9 X F' ye.size ps.toList (List.replicate n ye.zero)=some (.sl rows .tight):=by
  have hc:=Hi hl;rw[hop]at hc;have:∀(l:List (Nat×Operand)) (rs:A7),(∀x,x∈l→∀k,x.2=.tmp k→lk F' k=lk F k)→U9 X F' ye.size l rs=U9 X F ye.size l rs:=by
   intro l
   induction l with
   |nil=>intro rs _;rfl
   |cons z l ih=>
    intro rs h;obtain⟨j,z⟩:=z;simp only[U9];rw[Dq (F':=F') (F:=F) fun k hk=>h (j,z) (by simp) k hk];cases Dv X F z with
    |none=>rfl
    |some v=>
     simp only;cases cellsOf v with
     |none=>rfl
     |some xs=>
      simp only;cases Nat.beq xs.length ye.size with
      |false=>rfl
      |true=>
       simp only;have:∀(l2:A7) (j:Nat) (x:An) (k1 k2:A7→Option AV),(∀r,k1 r=k2 r)→Ya l2 j x k1=Ya l2 j x k2:=by
        intro l2
        induction l2 with
        |nil=>intro j x k1 k2 h;cases j<;>rfl
        |cons c l2 ih2=>
         intro j x k1 k2 h;cases j with
         |zero=>simp only[Ya];exact h _
         |succ j=>simp only[Ya];exact ih2 j x _ _ fun r=>h _
       exact this _ _ _ _ _ fun r=>ih r fun x hx=>h x (by simp[hx])
  rw[this]
  ·exact hr
  ·intro x hx k hk;exact hc k (by simp only[Op.operands];simp;exact⟨x.1,by rw[←hk];simpa using hx⟩)
 have hle:n*ye.size≤1000000:=J5 hble;obtain⟨d,hd,hdd⟩:=(X.ty_ok t y hy).agg;simp only[hk]at hdd;obtain⟨rfl,ye',hye',hne⟩:=hdd;rw[hye]at hye';cases hye';obtain⟨z,hz,hzc,hzl,i',hi,hiz,his,hib⟩:=Ke hye w;have hzs:z.cells.size=ye.size:=by rw[←hzl,←hzc];simp
 have hg0:Sb E w ye.size ((Array.range (n*ye.size)).map (z.cells[·%z.cells.size]!)) (List.replicate n ye.zero):=by
  refine Wh hzc hzl _ (by simp) (fun i hi=>?_);have hm:i%ye.size<z.cells.size:=by rw[hzs];exact Nat.mod_lt _ (Ali hne)
  have hr0:(Array.range (n*ye.size))[i]?=some i:=by simp[hi]
  rw[Array.getElem?_map,hr0];simp only[K4];rw[hzs,getElem!_pos z.cells (i%ye.size) hm,Ag4 hm]
 obtain⟨cells',rows',hf',hg',hl',hrr⟩:=X1 hI hF ps.toList _ _ _ hg0 hlr;cases hrr;have hn:rows.length=n:=by simpa using hl'
 obtain⟨ev,hI'⟩:=hI.newBox (w':=w.alloc (.cells cells' e)) (cs:=cells') (e:=e) (sz:=ye.size) (rows:=rows) rfl rfl rfl rfl hg'.1 hg'.2.1 hg'.2.2;refine Does.val ho (Cu hF (by rw[Dc hl];exact hw)) (v:=.slice (some ⟨w.heap.size,0,none⟩) n n) ?_ (.inl rfl) ⟨_,hI',ev,?_⟩
 ·have hsz:=Dx hye w;have hpp:(ps.map fun(x:Nat×Operand)=>(x.1,a.eval x.2)).toList=ps.toList.map fun p=>(p.1,a.eval p.2):=by simp
  have h24:¬(n*ye.size>16777216):=by omega
  simp only[execOp,hop,Instr.buildSlice,Sem.run_bind,run_underlying hd,Result.andThen_ok,hsz];by_cases h0:n*ye.size=0
  ·have hn0:n=0:=by
    rcases Nat.mul_eq_zero.1 h0 with h|h
    ·exact h
    ·exact absurd h hne
   subst hn0;have e1:∀f:Nat→Value,(Array.range 0).map f=#[]:=fun f=>by rw[←Vv];simp
   have hf2:=hf';simp only[Nat.zero_mul,e1]at hf2;simp[hf2,newRow,hn,e1]
  ·simp[h24,h0,hz,hf',newRow,hn]
 ·exact .bsl S.boxes.length w.heap.size ye.size n n (by rw[←hI.nb];exact getElem?_snoc_new _ _) (Bt _)
theorem Gp{t e b n:Nat}{ik:IntKind}{j:Nat}{y ye:Ty}{rows:A7}{r:An}(ho:ops[i]?=some o:=by rfl)(hw:Bc ops F o=some true:=by rfl)(hop:o.op=.indexAddr t p q:=by rfl)(hp:Dv X F p=some (.bsl b n):=by rfl)
 (hq:Dv X F q=some (.val (.int ik j)):=by rfl)(hy:X.ty t=some y:=by rfl)(hyk:y.k=.slc e:=by rfl)(hye:X.ty e=some ye:=by rfl)(hj:Nat.blt j n=true:=by rfl)(hb:S.boxes[b]?=some rows:=by rfl)(hr:rows[j]?=some r:=by rfl)(hl:r.length=ye.size:=by rfl):Ndo X N ops i o F (.ptr b j 0) S S:=by
 refine Dp ho hw fun F' E w a hc hI hF=>?_;rw[hop]at hc;have h1:=Am hI hF ((hc p (by simp[Op.operands])).trans hp);have h2:=Am hI hF ((hc q (by simp[Op.operands])).trans hq);obtain⟨d,hdd,hd2⟩:=(X.ty_ok t y hy).agg;simp only[hyk]at hd2;obtain⟨rfl,ye',hye',hne⟩:=hd2;rw[hye]at hye';cases hye';have hlt:j<n:=by simpa[Hp]using hj
 cases hh2:a.eval q<;>rw[hh2]at h2<;>cases h2;generalize hh1:a.eval p=u at h1;cases h1 with
 |bsl _ blk sz _ cap hB hcap=>
  obtain⟨arr,e',hh,hs,hlen,hrel⟩:=hI.box b blk sz rows hB hb;have hsz:sz=ye.size:=by rw[←hl,hlen r (Bn hr)]
  subst hsz;refine⟨.pointer (some ⟨blk,j*ye.size,none⟩),?_,?_⟩
  ·have hin:(j:Int)<(n:Int):=by omega
   simp[execOp,hop,hh1,hh2,Instr.indexAt,asIntOf,run_underlying hdd,hin,Dx hye,Gq];intro h;omega
  ·have:=Rel.ptr (E:=E) (w:=w) b j 0 blk ye.size hB;simpa using this
class BoxC (bx:List (List (List AV)))(b:Nat)(rows:outParam (List (List AV))):Prop where
 h:bx[b]?=some rows
instance{x:A7}{l:B3}:BoxC (x::l) 0 x:=⟨rfl⟩
instance{x y:A7}{l:B3}{b:Nat} [h:BoxC l b y]:BoxC (x::l) (b+1) y:=⟨by simpa using h.h⟩
class LeC (n b:Nat):Prop where
 h:n≤b
instance{b:Nat}:LeC 0 b:=⟨Cb _⟩
instance{n b:Nat} [h:LeC n b]:LeC (n+1) (b+1):=⟨Nat.succ_le_succ h.h⟩
class LenC (l:List (List AV))(k:Nat):Prop where
 h:k=l.length∧k≤P1
instance{a b c:An}:LenC [a,b,c] 3:=⟨rfl,by decide⟩
instance{bx:B3}{tk:List Nat}{n m b k:Nat}{rows rows':A7} [h1:BoxC bx b rows] [h2:LeC n b] [h3:LenC rows k] [h4:FzRC ⟨bx,tk⟩ n m rows rows']:FzC ⟨bx,tk⟩ n m (.bsl b k) (.sl rows' .no):=
 ⟨.bsl b k rows rows' h2.h h1.h (Nat.le_of_eq h3.h.1) h3.h.2 (h4.s.get.1.trans h3.h.1.symm) (fun i r r' h1 h2=>(h4.s.get.2 i r r' h1 h2).get.1) (fun i j r r' x y h1 h2 h3 h5=>(h4.s.get.2 i r r' h1 h2).get.2 j x y h3 h5)⟩
end
end Go.V
namespace Go.V
open Go Go.Proofs Go.Proofs.Tryz
theorem Akm{f:Nat}{r:RS}(h:r.bad=true):(Fw f r).2=r:=by
 cases f with
 |zero=>rfl
 |succ f=>simp only[Fw];rw[if_pos h]
theorem Agv{f:Nat}{r:RS}(h:r.bad=true):(Ev f r).2=r:=by
 cases f with
 |zero=>rfl
 |succ f=>simp only[Ev];rw[Abb (by rw[Akm h];exact h),Akm h]
theorem Aqu{f:Nat}{r:RS}(h:r.bad=true):(Fa f r).2=r:=by
 cases f with
 |zero=>rfl
 |succ f=>simp only[Fa];rw[V9 (by rw[Agv h];exact h),Agv h]
theorem Im{r:RS}(h:r.bad=true):(Cd r).2=r:=Aqu h
theorem Ar7{r:RS}(h:r.bad=true):r.spoil=r:=by
 obtain⟨ws,a,b⟩:=r;simp only at h;subst h;rfl
theorem Rh{f:Nat}{acc:List Nd}{r:RS}(h:r.bad=true):El f acc r=(acc,r):=by
 cases f with
 |zero=>rfl
 |succ f=>simp only[El];rw[if_neg (by simp[h])]
theorem Lb{f:Nat}{r:RS}(h:r.bad=true):(Cz f r).2=r:=by
 cases f with
 |zero=>rfl
 |succ f=>simp only[Cz];rw[Cq h,Rh h];exact Cq h _
theorem Ar9{f:Nat}{r:RS}(hb:r.bad=false)(h:r.ws.length≤r.at_):(Dm (f+1) r).2=r.spoil:=by
 have ht:r.text=[]:=by simp[RS.text,Oo h]
 have hk:r.kind=0:=by simp[RS.kind,Oo h]
 have no:∀s:Ad,s≠[]→r.takes s=false:=fun s hs=>by
  rw[Kd hb,ht];simpa using Ne.symm hs
 have hn:r.nameR=r.spoil:=by simp[RS.nameR,RS.named,hb,hk]
 have hsb:r.spoil.bad=true:=rfl;simp only[Dm];rw[if_neg (by simp[no]),if_neg (by simp[no]),if_neg (by simp[no])];simp only[C8];rw[if_neg (by simp[no]),if_neg (by simp[no]),if_neg (by simp[no]),if_neg (by simp[no])];simp only[Ro];rw[hn,if_neg (by simp[Ee hsb]),Cq hsb];simp only[Im hsb];exact Cq hsb _
def As5(f:Nat):Prop:=∀(r:RS)(e:Nat),r.ok→r.wk→r.bad=false→3*r.left+1≤f→f≤100000→GoesI 327 (Dm f r) r e
def Alv(f:Nat):Prop:=∀(r:RS)(e:Nat),r.ok→r.wk→r.bad=false→3*r.left+3≤f→f≤100000→GoesI 351 (Cz f r) r e
theorem Ax9(f:Nat)(ih:∀g,g<f→As5 g):Alv f:=by
 intro r e ho hw hb hf hF;obtain⟨g,rfl⟩:∃g,f=g+1:=⟨f-1,by omega⟩
 refine GoesI.run func351 ?_;simp only[Cz];by_cases g1:(r.need [123]).bad=false
 ·obtain⟨n1,n2,n3⟩:=Gf g1;have hl:=(A2 n1 (by simp)).1;have ls:=Ch hl;have s:=Ak hl;refine Af [0] [] (Mj r e [123] (by simp) hb g1) ?_;rw[n2];generalize hT:El g [] r.step=T;refine E6 2 0 3 rfl rfl rfl rfl rfl rfl ?_;refine Ar (ι:=Nat×List Nd×RS) 3 1 (fun i=>i.2.2.ok∧i.2.2.wk∧i.2.2.bad=false∧i.2.1.length+i.1≤g∧3*i.2.2.left+2≤i.1∧T=El i.1 i.2.1 i.2.2) (fun _=>[(0,.ptr 0 0 0),(2,.ptr 1 0 0),(3,.ptr 2 0 0)])
   (fun i=>⟨[[pc i.2.2 e],[zN],[[vi 30,str [],vi 0,.sl (Av i.2.1) (.tok 0)]]],[i.2.1.length]⟩) (fun i=>i.1) ?_ (g,[],r.step) ⟨s.ok ho,s.wk hw,hb,by simp,by simp only;omega,hT.symm⟩ ⟨rfl,rfl,rfl,trivial⟩
  rintro⟨n,acc,q⟩ ⟨hqo,hqw,hqb,hlen,hfu,hTn⟩ IH;simp only at hqo hqw hqb hlen hfu hTn IH⊢;obtain⟨m,rfl⟩:∃m,n=m+1:=⟨n-1,by omega⟩
  have hL:T=if !q.bad&&decide (q.at_<q.ws.length)&&!(q.text==[125])then El m (acc++[(Dm m q).1]) (Dm m q).2 else(acc,q):=by rw[hTn];simp only[El]
  refine Ba 100 rfl ?_;refine Af [0] [] (Jk q e [125] hqb (by simp)) ?_;refine Ai (fun h=>?_) (fun h=>?_)
  ·have h':q.takes [125]=false:=by have:(!q.takes [125])=true:=h;simpa using this
   have h'':(q.text==[125])=false:=by rw[←Kd hqb];exact h'
   rw[F6 h'];have ih2:=ih m (by omega) q e hqo hqw hqb (by omega) (by omega);by_cases hlt:q.at_<q.ws.length
   ·rw[if_pos (by simp[hqb,hlt,h''])]at hL;have af:=(Gh m).1 q hqo;have lf:=Bm af;by_cases g2:(Dm m q).2.bad=false
    ·have hon:q.at_<(Dm m q).2.at_:=by
      obtain⟨p,rfl⟩:∃p,m=p+1:=⟨m-1,by omega⟩
      rcases Zp p hqo with h|h
      ·rw[g2]at h;cases h
      ·exact h
     have hll:(Dm m q).2.left+1≤q.left:=by
      have e1:=af.1;have e2:=af.2.2;simp only[RS.left,e1]at *;omega
     refine Hb 168 3 ?_;refine Er (H0 [0] [] (ih2.ok g2)) ?_ ?_
     ·exact Aq (Cy rfl rfl rfl) G6
     refine Ac0 ?_;refine C4 (Cn (res:=Av (acc++[(Dm m q).1])) rfl rfl rfl rfl rfl rfl rfl rfl rfl rfl rfl rfl rfl rfl (Ae acc) (E9 acc) rfl rfl rfl ?_ ?_ rfl) ?_
     ·rw[Ae];simp;omega
     ·rw[Ax,Ax,Jp];rfl
     refine A0 ?_;refine C4 (Bg rfl rfl rfl rfl rfl rfl rfl) ?_;refine Bu ?_;refine IH (m,acc++[(Dm m q).1],(Dm m q).2) ⟨af.ok hqo,af.wk hqw,g2,by simp;omega,by simp only;omega,hL⟩ (by simp only;omega) _ _ ⟨rfl,rfl,rfl,trivial⟩ ?_ rfl rfl;simp[St.drop,Ae,upd]
    ·have g2:=Cc g2;rw[Rh g2]at hL;rw[hL,Cq g2,Dh g2];refine L1 (S1:=?S1) 3 168 3 func351 ?hk ?hS
     case hk=>
      refine Ma ?_;exact Thr.hd [0] [] (ih2.bad g2)
     case hS=>rfl
   ·rw[if_neg (by simp[hlt])]at hL;obtain⟨p,rfl⟩:∃p,m=p+1:=⟨m-1,by omega⟩
    have hE:=Ar9 (f:=p) hqb (by omega);have hN:q.need [125]=q.spoil:=by simp[RS.need,h']
    have g2:(Dm (p+1) q).2.bad=true:=by rw[hE];rfl
    have ihb:=ih2.bad g2;rw[hE]at ihb;rw[hL,hN,Dh (show q.spoil.bad=true from rfl)];refine L1 (S1:=?S2) 3 168 3 func351 ?hk ?hS
    case hk=>
     refine Ma ?_;exact Thr.hd [0] [] ihb
    case hS=>rfl
  ·have h':q.takes [125]=true:=by have:(!q.takes [125])=false:=h;simpa using this
   have h'':(q.text==[125])=true:=by rw[←Kd hqb];exact h'
   have hN:q.need [125]=q.step:=by simp[RS.need,h']
   rw[if_neg (by simp[h''])]at hL;rw[hL,hN,E5 h',Kn (show q.step.bad=false from hqb),Lr];refine Bz func351 ?_ rfl;rw[Ax]
 ·have g1:=Cc g1;rw[Rh g1,Cq g1,Dh g1];exact F9 func351 (Thr.hd [0] [] (Kb r e [123] (by simp) hb g1)) rfl
theorem A00(r:RS)(s t:Ad):r.needs [s,t]=(r.need s).need t:=rfl
theorem Aqs(r:RS)(e:Nat)(n:Nd){x:AV}(hx:nd n=x)(hb:r.bad=false)(h:(r.need [59]).bad=false):Hands X 349 [.ptr 0 0 0,x] ⟨[[pc r e]],[]⟩ x ⟨[[pc (r.need [59]) e]],[]⟩:=by
 subst hx;exact Aya r e n hb h
theorem Aqr(r:RS)(e:Nat)(n:Nd){x:AV}(hx:nd n=x)(hb:r.bad=false)(h:(r.need [59]).bad=true):Throws X 349 [.ptr 0 0 0,x] ⟨[[pc r e]],[]⟩ (pan ((r.need [59]).place e)) ⟨[[pc (r.need [59]) e]],[]⟩:=by
 subst hx;exact At7 r e n hb h
theorem nd1(k:Int)(s:Ad)(m:Int)(a:Nd):nd (.mk k s m [a])=.agg [vi k,str s,vi m,.sl [Ag a] .no]:=by rw[Lr];rfl
theorem nd2(k:Int)(s:Ad)(m:Int)(a b:Nd):nd (.mk k s m [a,b])=.agg [vi k,str s,vi m,.sl [Ag a,Ag b] .no]:=by rw[Lr];rfl
theorem nd3(k:Int)(s:Ad)(m:Int)(a b c:Nd):nd (.mk k s m [a,b,c])=.agg [vi k,str s,vi m,.sl [Ag a,Ag b,Ag c] .no]:=by rw[Lr];rfl
theorem Aio(k:Int)(s:Ad)(m:Int):nd (.mk k s m [])=.agg [vi k,str s,vi m,.sl [] .no]:=by rw[Lr];rfl
theorem Bl{X:Cx}{B:Bx}{F:Cw}{S:St}{R:AE→St→Prop}{K:List Item}(S':St)(hk:AK X B K F S' R)(h:S=S':=by rfl):AK X B K F S R:=by
 subst h;exact hk
theorem A5a(r:RS)(e:Nat)(ho:r.ok)(hw:r.wk)(hb:r.bad=false) :
 AK X ⟨327,f327,1,0⟩ (J6 false 23 f327) [(0,.ptr 0 0 0),(2,.ptr 1 0 0)] ⟨[[pc r e],[zN]],[]⟩ (Rp ((Ro r).1,(Ro r).2.need [59]) e):=by
 refine Dj ?_;refine Ba 100 rfl ?_;simp only[Ro];by_cases g1:r.nameR.bad=false
 ·have an:=C5 ho;refine Af [0] [] (Xx r e hb g1) ?_;refine Af [0] [] (Jk r.nameR e [91] g1 (by simp)) ?_;refine Ai (fun h=>?_) (fun h=>?_)
  ·have h':r.nameR.takes [91]=true:=h;have hl:=(A2 h' (by simp)).1;have s:=an.trans (Ak hl);have hsb:r.nameR.step.bad=false:=g1;have ih:=Sz r.nameR.step e (s.ok ho) (s.wk hw) hsb;have a1:=s.trans (Cg (s.ok ho));rw[if_pos h',E5 h'];simp only;by_cases g2:(Cd r.nameR.step).2.bad=false
   ·refine Af [0] [] (ih.ok g2) ?_;rw[←A00];by_cases g3:((Cd r.nameR.step).2.needs [[93],[61]]).bad=false
    ·refine Af [0] [] (Amq (Cd r.nameR.step).2 e [[93],[61]] (by simp) (by simp) g2 g3) ?_;have a3:r.after ((Cd r.nameR.step).2.needs [[93],[61]]):=by
      have b1:=a1.trans (Bh (s:=[93]) (a1.ok ho) (by simp));exact b1.trans (Bh (s:=[61]) (b1.ok ho) (by simp))
     have ih2:=Sz _ e (a3.ok ho) (a3.wk hw) g3;generalize (Cd r.nameR.step).2.needs [[93],[61]]=u at g3 ih2 a3⊢;by_cases g4:(Cd u).2.bad=false
     ·by_cases g5:((Cd u).2.need [59]).bad=false
      ·rw[Kn g5];refine Hb 400 4 ?_;refine Er (H0 [0] [] (ih2.ok g4)) ?_ ?_
       ·exact Aq (Cy rfl rfl rfl) G6
       refine Xl ?_;refine A0 ?_;refine C4 (H0 [0] [] (Aqs (Cd u).2 e (.mk 22 r.name 0 [(Cd r.nameR.step).1,(Cd u).1]) (nd2 22 r.name 0 _ _) g4 g5)) ?_;refine C4 (Bg rfl rfl rfl rfl rfl rfl rfl) ?_;refine Bu ?_;rw[nd2];exact Bz func327 rfl rfl
      ·have g5:=Cc g5;rw[Dh g5];refine L1 (S1:=?S1) 7 400 4 func327 ?hk ?hS
       case hk=>
        refine Er (H0 [0] [] (ih2.ok g4)) ?_ ?_
        ·exact Aq (Cy rfl rfl rfl) G6
        refine Xl ?_;refine A0 ?_;refine Ma ?_;exact Thr.hd [0] [] (Aqr (Cd u).2 e (.mk 22 r.name 0 [(Cd r.nameR.step).1,(Cd u).1]) (nd2 22 r.name 0 _ _) g4 g5)
       case hS=>rfl
     ·have g4:=Cc g4;rw[Cq g4,Dh g4];refine L1 (S1:=?S2) 4 400 4 func327 ?hk ?hS
      case hk=>
       refine Ma ?_;exact Thr.hd [0] [] (ih2.bad g4)
      case hS=>rfl
    ·have g3:=Cc g3;rw[Im g3,Cq g3,Dh g3];exact F9 func327 (Thr.hd [0] [] (Aib (Cd r.nameR.step).2 e [[93],[61]] (by simp) (by simp) g2 g3)) rfl
   ·have g2:=Cc g2;rw[Cq g2,Cq g2,Im g2,Cq g2,Dh g2];exact F9 func327 (Thr.hd [0] [] (ih.bad g2)) rfl
  ·have h':r.nameR.takes [91]=false:=h;rw[if_neg (by simp[h']),F6 h'];simp only;by_cases g2:(r.nameR.need [61]).bad=false
   ·have a2:=an.trans (Bh (s:=[61]) (an.ok ho) (by simp));refine Af [0] [] (Mj r.nameR e [61] (by simp) g1 g2) ?_;have ih2:=Sz _ e (a2.ok ho) (a2.wk hw) g2;generalize r.nameR.need [61]=u at g2 ih2 a2⊢;by_cases g4:(Cd u).2.bad=false
    ·refine Alp 0 [0] [] (ih2.ok g4) ?_;refine Bs (Al3 (Me rfl rfl rfl)) ?_;by_cases g5:((Cd u).2.need [59]).bad=false
     ·rw[Kn g5];refine Af [0] [] (Aqs (Cd u).2 e (.mk 21 r.name 0 [(Cd u).1]) (nd1 21 r.name 0 _) g4 g5) ?_;rw[nd1];exact Bz func327 rfl rfl
     ·have g5:=Cc g5;rw[Dh g5];exact F9 func327 (Thr.hd [0] [] (Aqr (Cd u).2 e (.mk 21 r.name 0 [(Cd u).1]) (nd1 21 r.name 0 _) g4 g5)) rfl
    ·have g4:=Cc g4;rw[Cq g4,Dh g4];exact F9 func327 (Thr.hd [0] [] (ih2.bad g4)) rfl
   ·have g2:=Cc g2;rw[Im g2,Cq g2,Dh g2];exact F9 func327 (Thr.hd [0] [] (Kb r.nameR e [61] (by simp) g1 g2)) rfl
 ·have g1:=Cc g1;rw[if_neg (by simp[Ee g1])];simp only;rw[Cq g1,Im g1,Cq g1,Dh g1];exact F9 func327 (Thr.hd [0] [] (S9 r e hb g1)) rfl
theorem A2j(f:Nat)(ih:∀g,g<f→Alv g):As5 f:=by
 intro r e ho hw hb hf hF;obtain⟨g,rfl⟩:∃g,f=g+1:=⟨f-1,by omega⟩
 have hset:=A5a r e ho hw hb;refine GoesI.run func327 ?_;have hM:Dm (g+1) r=if r.takes Wv then
  (if (Cz g (Dr r.step).2).2.takes I9 then
    (.mk 24 [] 0 [(Dr r.step).1,(Cz g (Dr r.step).2).1,(Cz g (Cz g (Dr r.step).2).2.step).1],(Cz g (Cz g (Dr r.step).2).2.step).2)
  else(.mk 24 [] 0 [(Dr r.step).1,(Cz g (Dr r.step).2).1,.mk 30 [] 0 []],(Cz g (Dr r.step).2).2))
  else if r.takes G1 then(.mk 25 [] 0 [(Dr r.step).1,(Cz g (Dr r.step).2).1],(Cz g (Dr r.step).2).2)
  else if r.takes Mr then
   (.mk 26 r.step.name 0 [(Cd (Y4 r.step)).1,(Cd (Aak r.step)).1,(Cz g (Cd (Aak r.step)).2).1],(Cz g (Cd (Aak r.step)).2).2)
  else((C8 r).1,(C8 r).2.need [59]):=by simp only[Dm]
 have hS:C8 r=if r.takes Gl then(.mk 27 [] 0 [(Dr r.step).1],(Dr r.step).2)
  else if r.takes Ja then(.mk 23 r.step.name 0 [],r.step.nameR)
  else if r.takes Jg then(.mk 28 [] 0 [],r.step)
  else if r.takes Jn then(.mk 29 [] 0 [],r.step)
  else Ro r:=by simp only[C8]
 rw[hM];refine Af [0] [] (Jk r e Ja hb (by simp)) ?_;refine Ai (fun h1=>?_) (fun h1=>?_)
 ·have h1':r.takes Ja=true:=h1;have s:=Ak (A2 h1' (by simp)).1;have hsb:r.step.bad=false:=hb;rw[if_neg (by simp[Rs (s':=Wv) h1' (by simp)]),if_neg (by simp[Rs (s':=G1) h1' (by simp)]),if_neg (by simp[Rs (s':=Mr) h1' (by simp)]),hS,if_neg (by simp[Rs (s':=Gl) h1' (by simp)]),if_pos h1',E5 h1'];simp only;by_cases g1:r.step.nameR.bad=false
  ·refine Af [0] [] (Xx r.step e hsb g1) ?_;by_cases g2:(r.step.nameR.need [59]).bad=false
   ·rw[Kn g2];refine Af [0] [] (Aqs r.step.nameR e (.mk 23 r.step.name 0 []) (Aio 23 r.step.name 0) g1 g2) ?_;rw[Aio];exact Bz func327 rfl rfl
   ·have g2:=Cc g2;rw[Dh g2];exact F9 func327 (Thr.hd [0] [] (Aqr r.step.nameR e (.mk 23 r.step.name 0 []) (Aio 23 r.step.name 0) g1 g2)) rfl
  ·have g1:=Cc g1;rw[Cq g1,Dh g1];exact F9 func327 (Thr.hd [0] [] (S9 r.step e hsb g1)) rfl
 have n1:r.takes Ja=false:=h1;rw[F6 n1];refine Af [0] [] (Jk r e Wv hb (by simp)) ?_;refine Ai (fun h2=>?_) (fun h2=>?_)
 ·have h2':r.takes Wv=true:=h2;have hl:=(A2 h2' (by simp)).1;have ls:=Ch hl;have s:=Ak hl;have hsb:r.step.bad=false:=hb;rw[if_pos h2',E5 h2'];have ic:=Amp r.step e (s.ok ho) (s.wk hw) hsb;have c:=s.trans (D7 (s.ok ho));have lc:=Bm (D7 (s.ok ho));generalize Dr r.step=q at ic c lc⊢;obtain⟨x,q⟩:=q;simp only at ic c lc⊢;by_cases g1:q.bad=false
  ·refine Af [0] [] (ic.ok g1) ?_;have ib:=ih g (by omega) q e (c.ok ho) (c.wk hw) g1 (by omega) (by omega);have d:=c.trans ((Gh g).2.1 q (c.ok ho));have ld:=Bm ((Gh g).2.1 q (c.ok ho));generalize Cz g q=u at ib d ld⊢;obtain⟨y,u⟩:=u;simp only at ib d ld⊢;by_cases g2:u.bad=false
   ·refine Alp 1 [0] [] (ib.ok g2) ?_;refine Ajd 23 ?_;refine Bs (Aw6 (b:=2)) ?_;refine Af [0] [] (Jk u e I9 g2 (by simp)) ?_;refine Ai (fun h3=>?_) (fun h3=>?_)
    ·have h3':u.takes I9=true:=h3;have hl2:=(A2 h3' (by simp)).1;have ls2:=Ch hl2;have s2:=d.trans (Ak hl2);rw[if_pos h3',E5 h3'];have ib2:=ih g (by omega) u.step e (s2.ok ho) (s2.wk hw) g2 (by omega) (by omega);generalize Cz g u.step=v at ib2⊢;obtain⟨z,v⟩:=v;simp only at ib2⊢;by_cases g3:v.bad=false
     ·rw[Kn g3];refine Hb 40 3 ?_;refine Er (H0 [0] [] (ib2.ok g3)) ?_ ?_
      ·exact Aq (Cy rfl rfl rfl) G6
      refine Qt (Aq (Gp (j:=2)) (Aq (Gp (j:=2)) G6)) rfl ?_;refine C4 (Bg rfl rfl rfl rfl rfl rfl rfl) ?_;refine Bu ?_;refine Bl ⟨[[pc v e],[[vi 24,str [],vi 0,.bsl 2 3]],[Ag x,Ag y,Ag z],[[vi 24,str [],vi 0,.bsl 2 3]]],[]⟩ ?_;rw[nd3];exact Bz func327 rfl rfl
     ·have g3:=Cc g3;rw[Dh g3];refine L1 (S1:=?S1) 3 40 3 func327 ?hk ?hS
      case hk=>
       refine Ma ?_;exact Thr.hd [0] [] (ib2.bad g3)
      case hS=>rfl
    ·have h3':u.takes I9=false:=h3;rw[if_neg (by simp[h3']),F6 h3',Kn g2];refine Bl ⟨[[pc u e],[[vi 24,str [],vi 0,.bsl 2 3]],[Ag x,Ag y,Ag (.mk 30 [] 0 [])],[[vi 24,str [],vi 0,.bsl 2 3]]],[]⟩ ?_;rw[nd3];exact Bz func327 rfl rfl
   ·have g2:=Cc g2;rw[if_neg (by simp[Ee g2]),Dh g2];exact F9 func327 (Thr.hd [0] [] (ib.bad g2)) rfl
  ·have g1:=Cc g1;have e1:=Lb (f:=g) g1;rw[e1,if_neg (by simp[Ee g1]),Dh g1];exact F9 func327 (Thr.hd [0] [] (ic.bad g1)) rfl
 have n2:r.takes Wv=false:=h2;rw[if_neg (by simp[n2]),F6 n2];refine Af [0] [] (Jk r e G1 hb (by simp)) ?_;refine Ai (fun h3=>?_) (fun h3=>?_)
 ·have h3':r.takes G1=true:=h3;have hl:=(A2 h3' (by simp)).1;have ls:=Ch hl;have s:=Ak hl;have hsb:r.step.bad=false:=hb;rw[if_pos h3',E5 h3'];have ic:=Amp r.step e (s.ok ho) (s.wk hw) hsb;have c:=s.trans (D7 (s.ok ho));have lc:=Bm (D7 (s.ok ho));generalize Dr r.step=q at ic c lc⊢;obtain⟨x,q⟩:=q;simp only at ic c lc⊢;by_cases g1:q.bad=false
  ·refine Af [0] [] (ic.ok g1) ?_;have ib:=ih g (by omega) q e (c.ok ho) (c.wk hw) g1 (by omega) (by omega);generalize Cz g q=u at ib⊢;obtain⟨y,u⟩:=u;simp only at ib⊢;by_cases g2:u.bad=false
   ·rw[Kn g2];refine Af [0] [] (ib.ok g2) ?_;rw[nd2];exact Bz func327 rfl rfl
   ·have g2:=Cc g2;rw[Dh g2];exact F9 func327 (Thr.hd [0] [] (ib.bad g2)) rfl
  ·have g1:=Cc g1;rw[Lb g1,Dh g1];exact F9 func327 (Thr.hd [0] [] (ic.bad g1)) rfl
 have n3:r.takes G1=false:=h3;rw[if_neg (by simp[n3]),F6 n3];refine Af [0] [] (Jk r e Mr hb (by simp)) ?_;refine Ai (fun h4=>?_) (fun h4=>?_)
 ·have h4':r.takes Mr=true:=h4;have hl:=(A2 h4' (by simp)).1;have ls:=Ch hl;have s:=Ak hl;have hsb:r.step.bad=false:=hb;rw[if_pos h4',E5 h4'];have fa:=Sx (s.ok ho);have fb:=Ld (s.ok ho);have lb:=Bm fb;simp only[Aak,Y4]at fb lb⊢;simp only[Y4]at fa;by_cases g1:r.step.nameR.bad=false
  ·refine Af [0] [] (Xx r.step e hsb g1) ?_;by_cases g2:(r.step.nameR.need J4).bad=false
   ·refine Af [0] [] (Mj r.step.nameR e J4 (by simp) g1 g2) ?_;have f1:=s.trans fa;have i1:=Sz _ e (f1.ok ho) (f1.wk hw) g2;generalize r.step.nameR.need J4=q1 at g2 i1 fb lb⊢;generalize Cd q1=t1 at i1 fb lb⊢;obtain⟨x1,u1⟩:=t1;simp only at i1 fb lb⊢;by_cases g3:u1.bad=false
    ·refine Af [0] [] (i1.ok g3) ?_;by_cases g4:(u1.need wTo).bad=false
     ·refine Af [0] [] (Mj u1 e wTo (by simp) g3 g4) ?_;have f2:=s.trans fb;have i2:=Sz _ e (f2.ok ho) (f2.wk hw) g4;have f3:=f2.trans (Cg (f2.ok ho));have l3:=Bm (Cg (f2.ok ho));generalize u1.need wTo=q2 at g4 i2 f2 f3 l3 lb⊢;generalize Cd q2=t2 at i2 f3 l3⊢;obtain⟨x2,u2⟩:=t2;simp only at i2 f3 l3⊢;by_cases g5:u2.bad=false
      ·have ib:=ih g (by omega) u2 e (f3.ok ho) (f3.wk hw) g5 (by omega) (by omega);generalize Cz g u2=v at ib⊢;obtain⟨y,v⟩:=v;simp only at ib⊢;by_cases g6:v.bad=false
       ·rw[Kn g6];refine Hb 148 2 ?_;refine Er (H0 [0] [] (i2.ok g5)) ?_ ?_
        ·exact Aq (Cy rfl rfl rfl) G6
        refine A0 ?_;refine Er (H0 [0] [] (ib.ok g6)) ?_ ?_
        ·intro p hp;replace hp:=(zzq35.1 hp).1;revert p;exact Aq (Cy rfl rfl rfl) G6
        refine Ac0 ?_;refine A0 ?_;refine C4 (Bg rfl rfl rfl rfl rfl rfl rfl) ?_;refine Bu ?_;rw[nd3];exact Bz func327 rfl rfl
       ·have g6:=Cc g6;rw[Dh g6];refine L1 (S1:=?S2) 4 148 2 func327 ?hk ?hS
        case hk=>
         refine Er (H0 [0] [] (i2.ok g5)) ?_ ?_
         ·exact Aq (Cy rfl rfl rfl) G6
         refine A0 ?_;refine Ma ?_;exact Thr.hd [0] [] (ib.bad g6)
        case hS=>rfl
      ·have g5:=Cc g5;rw[Lb g5,Dh g5];refine L1 (S1:=?S3) 2 148 2 func327 ?hk ?hS
       case hk=>
        refine Ma ?_;exact Thr.hd [0] [] (i2.bad g5)
       case hS=>rfl
     ·have g4:=Cc g4;have eb:(Cd (u1.need wTo)).2=u1.need wTo:=Im g4;rw[eb,Lb g4,Dh g4];exact F9 func327 (Thr.hd [0] [] (Kb u1 e wTo (by simp) g3 g4)) rfl
    ·have g3:=Cc g3;rw[Cq g3,Im g3,Lb g3,Dh g3];exact F9 func327 (Thr.hd [0] [] (i1.bad g3)) rfl
   ·have g2:=Cc g2;rw[Im g2,Cq g2,Im g2,Lb g2,Dh g2];exact F9 func327 (Thr.hd [0] [] (Kb r.step.nameR e J4 (by simp) g1 g2)) rfl
  ·have g1:=Cc g1;rw[Cq g1,Im g1,Cq g1,Im g1,Lb g1,Dh g1];exact F9 func327 (Thr.hd [0] [] (S9 r.step e hsb g1)) rfl
 have n4:r.takes Mr=false:=h4;rw[if_neg (by simp[n4]),F6 n4];refine Af [0] [] (Jk r e Gl hb (by simp)) ?_;refine Ai (fun h5=>?_) (fun h5=>?_)
 ·have h5':r.takes Gl=true:=h5;have hl:=(A2 h5' (by simp)).1;have s:=Ak hl;have hsb:r.step.bad=false:=hb;rw[hS,if_pos h5',E5 h5'];simp only;have ic:=Amp r.step e (s.ok ho) (s.wk hw) hsb;generalize Dr r.step=q at ic⊢;obtain⟨x,q⟩:=q;simp only at ic⊢;by_cases g1:q.bad=false
  ·refine Alp 0 [0] [] (ic.ok g1) ?_;refine Bs (Al3 (Me rfl rfl rfl)) ?_;by_cases g2:(q.need [59]).bad=false
   ·rw[Kn g2];refine Af [0] [] (Aqs q e (.mk 27 [] 0 [x]) (nd1 27 [] 0 x) g1 g2) ?_;rw[nd1];exact Bz func327 rfl rfl
   ·have g2:=Cc g2;rw[Dh g2];exact F9 func327 (Thr.hd [0] [] (Aqr q e (.mk 27 [] 0 [x]) (nd1 27 [] 0 x) g1 g2)) rfl
  ·have g1:=Cc g1;rw[Cq g1,Dh g1];exact F9 func327 (Thr.hd [0] [] (ic.bad g1)) rfl
 have n5:r.takes Gl=false:=h5;rw[hS,if_neg (by simp[n5]),if_neg (by simp[n1]),F6 n5];refine Af [0] [] (Jk r e Jg hb (by simp)) ?_;refine Ai (fun h6=>?_) (fun h6=>?_)
 ·have h6':r.takes Jg=true:=h6;have hsb:r.step.bad=false:=hb;rw[if_pos h6',E5 h6'];simp only;by_cases g2:(r.step.need [59]).bad=false
  ·rw[Kn g2];refine Af [0] [] (Aqs r.step e (.mk 28 [] 0 []) (Aio 28 [] 0) hsb g2) ?_;rw[Aio];exact Bz func327 rfl rfl
  ·have g2:=Cc g2;rw[Dh g2];exact F9 func327 (Thr.hd [0] [] (Aqr r.step e (.mk 28 [] 0 []) (Aio 28 [] 0) hsb g2)) rfl
 have n6:r.takes Jg=false:=h6;rw[if_neg (by simp[n6]),F6 n6];refine Af [0] [] (Jk r e Jn hb (by simp)) ?_;refine Ec 0 23 (fun h6=>?_) (fun h6=>?_)
 ·have h6':r.takes Jn=true:=h6;have hsb:r.step.bad=false:=hb;rw[if_pos h6',E5 h6'];simp only;refine Ba 100 rfl ?_;by_cases g2:(r.step.need [59]).bad=false
  ·rw[Kn g2];refine Af [0] [] (Aqs r.step e (.mk 29 [] 0 []) (Aio 29 [] 0) hsb g2) ?_;rw[Aio];exact Bz func327 rfl rfl
  ·have g2:=Cc g2;rw[Dh g2];exact F9 func327 (Thr.hd [0] [] (Aqr r.step e (.mk 29 [] 0 []) (Aio 29 [] 0) hsb g2)) rfl
 ·have h6':r.takes Jn=false:=h6;rw[if_neg (by simp[h6']),F6 h6'];exact Br 2 0 hset ⟨rfl,rfl,trivial⟩ rfl rfl rfl rfl rfl
theorem Ayc:∀f:Nat,As5 f∧Alv f:=by
 intro f
 induction f using Nat.strongRecOn with
 |ind f ih=>exact⟨A2j f (fun g hg=>(ih g hg).2),Ax9 f (fun g hg=>(ih g hg).1)⟩
theorem Ak5{f:Nat}{r:RS}(hb:r.bad=false)(hw:r.wk)(ht:r.text=[125]):(Dm (f+1) r).2=r.spoil:=by
 have hk:(r.kind==1)=false:=by
  by_cases h0:r.kind=0
  ·simp[h0]
  ·have hkt:=Pb hw h0;rw[hkt,ht];decide
 have no:∀s:Ad,s≠[125]→r.takes s=false:=fun s hs=>by
  rw[Kd hb,ht];simpa using Ne.symm hs
 have hn:r.nameR=r.spoil:=by simp[RS.nameR,RS.named,hb,hk]
 have hsb:r.spoil.bad=true:=rfl;simp only[Dm];rw[if_neg (by simp[no]),if_neg (by simp[no]),if_neg (by simp[no])];simp only[C8];rw[if_neg (by simp[no]),if_neg (by simp[no]),if_neg (by simp[no]),if_neg (by simp[no])];simp only[Ro];rw[hn,if_neg (by simp[Ee hsb]),Cq hsb];simp only[Im hsb];exact Cq hsb _
theorem M6{f:Nat}{acc:List Nd}{r:RS}(h:r.bad=true):Fl f acc r=(acc,r):=by
 cases f with
 |zero=>rfl
 |succ f=>simp only[Fl];rw[if_neg (by simp[Ie,Ee h])]
theorem Ajx{r:RS}(h:r.bad=true):r.ends=r:=by
 simp only[RS.ends];split
 ·exact Ar7 h
 ·rfl
def Abx(T:List Nd×RS):Nd×RS:=(.mk 40 [] 0 (T.1++[.mk 30 [] 0 (El 5000 [] T.2).1]),(El 5000 [] T.2).2.ends)
theorem Am9(r:RS):Ex r=Abx (Fl 2000 [] r):=rfl
theorem Asa{acc:List Nd}{r:RS}(h:r.bad=true):(Abx (acc,r)).2=r:=by
 simp only[Abx,Rh h];exact Ajx h
abbrev gI:Cw:=[(0,.ptr 0 0 0),(2,.ptr 1 0 0),(3,.ptr 2 0 0)]
abbrev sI(q:RS)(e:Nat)(acc:List Nd):St:=⟨[[pc q e],[zN],[[vi 40,str [],vi 0,.sl (Av acc) (.tok 0)]]],[acc.length]⟩
theorem A2k(q:RS)(e:Nat)(acc:List Nd)(ho:q.ok)(hw:q.wk)(hb:q.bad=false)(hl:acc.length≤2000) :
 AK X ⟨302,f302,1,0⟩ (J6 false 13 f302) gI (sI q e acc) (Rp (Abx (acc,q)) e):=by
 refine Dj ?_;refine Ba 100 rfl ?_;have hq1:=ho.1;have hleft:q.left≤1500:=by simp only[RS.left];omega
 generalize hT:Abx (acc,q)=T;refine E6 3 0 3 rfl rfl rfl rfl rfl rfl ?_;refine Ar (ι:=Nat×List Nd×RS) 4 2 (fun i=>i.2.2.ok∧i.2.2.wk∧i.2.2.bad=false∧i.2.1.length+i.1≤5000∧3*i.2.2.left+2≤i.1∧T=(.mk 40 [] 0 (acc++[Nd.mk 30 [] 0 (El i.1 i.2.1 i.2.2).1]),(El i.1 i.2.1 i.2.2).2.ends)) (fun _=>(5,.ptr 3 0 0)::gI)
  (fun i=>⟨[[pc i.2.2 e],[zN],[[vi 40,str [],vi 0,.sl (Av acc) (.tok 0)]],[[vi 30,str [],vi 0,.sl (Av i.2.1) (.tok 1)]]],[acc.length,i.2.1.length]⟩) (fun i=>i.1) ?_ (5000,[],q) ⟨ho,hw,hb,by simp,by simp only;omega,hT.symm⟩ ⟨rfl,rfl,rfl,rfl,trivial⟩
 rintro⟨n,ks,u⟩ ⟨huo,huw,hub,hlen,hfu,hTn⟩ IH;simp only at huo huw hub hlen hfu hTn IH⊢;obtain⟨m,rfl⟩:∃m,n=m+1:=⟨n-1,by omega⟩
 have hL:El (m+1) ks u=if !u.bad&&decide (u.at_<u.ws.length)&&!(u.text==[125])then El m (ks++[(Dm m u).1]) (Dm m u).2 else(ks,u):=by simp only[El]
 have hu1:=huo.1;refine Cp (fun h=>?_) (fun h=>?_)
 ·have hlt:u.at_<u.ws.length:=by
   have h1:=A6 h;rw[Ef,Anu]at h1;omega
  have ih2:=(Ayc m).1 u e huo huw hub (by omega) (by omega);by_cases ht:u.text=[125]
  ·obtain⟨p,rfl⟩:∃p,m=p+1:=⟨m-1,by omega⟩
   have hC:=Ak5 (f:=p) hub huw ht;have g2:(Dm (p+1) u).2.bad=true:=by rw[hC];rfl
   have ihb:=ih2.bad g2;rw[hC]at ihb;rw[if_neg (by simp[ht])]at hL;rw[hL]at hTn;have he:u.ends=u.spoil:=by simp only[RS.ends];rw[if_pos hlt]
   rw[he]at hTn;rw[hTn,Dh (show u.spoil.bad=true from rfl)];refine L1 (S1:=?S1) 3 168 3 func302 ?hk ?hS
   case hk=>
    refine Ma ?_;exact Thr.hd [0] [] ihb
   case hS=>rfl
  ·rw[if_pos (by simp[hub,hlt,ht])]at hL;rw[hL]at hTn;have af:=(Gh m).1 u huo;have lf:=Bm af;by_cases g2:(Dm m u).2.bad=false
   ·have hon:u.at_<(Dm m u).2.at_:=by
     obtain⟨p,rfl⟩:∃p,m=p+1:=⟨m-1,by omega⟩
     rcases Zp p huo with h|h
     ·rw[g2]at h;cases h
     ·exact h
    have hll:(Dm m u).2.left+1≤u.left:=by
     have e1:=af.1;have e2:=af.2.2;simp only[RS.left,e1]at *;omega
    refine Hb 168 3 ?_;refine Er (H0 [0] [] (ih2.ok g2)) ?_ ?_
    ·exact Aq (Cy rfl rfl rfl) G6
    refine Ac0 ?_;refine C4 (Cn (res:=Av (ks++[(Dm m u).1])) rfl rfl rfl rfl rfl rfl rfl rfl rfl rfl rfl rfl rfl rfl (Ae ks) (E9 ks) rfl rfl rfl ?_ ?_ rfl) ?_
    ·rw[Ae];simp;omega
    ·rw[Ax,Ax,Jp];rfl
    refine A0 ?_;refine C4 (Bg rfl rfl rfl rfl rfl rfl rfl) ?_;refine Bu ?_;refine IH (m,ks++[(Dm m u).1],(Dm m u).2) ⟨af.ok huo,af.wk huw,g2,by simp;omega,by simp only;omega,hTn⟩ (by simp only;omega) _ _ ⟨rfl,rfl,rfl,rfl,trivial⟩ ?_ rfl rfl;simp[St.drop,Ae,upd]
   ·have g2:=Cc g2;rw[Rh g2,Ajx g2]at hTn;rw[hTn,Dh g2];refine L1 (S1:=?S2) 3 168 3 func302 ?hk ?hS
    case hk=>
     refine Ma ?_;exact Thr.hd [0] [] (ih2.bad g2)
    case hS=>rfl
 ·have hge:u.ws.length≤u.at_:=by
   have h1:=Bd h;rw[Ef,Anu]at h1;omega
  rw[if_neg (by simp;omega)]at hL;rw[hL]at hTn;have he:u.ends=u:=by simp only[RS.ends];rw[if_neg (by omega)]
  rw[he]at hTn;rw[hTn,Kn hub];refine Ba 100 rfl ?_;refine Ajd 62 ?_;refine Bs (Cn (res:=Av (acc++[Nd.mk 30 [] 0 ks])) rfl rfl rfl rfl rfl rfl rfl rfl rfl rfl rfl rfl rfl rfl (Ae acc) (E9 acc) rfl rfl rfl ?_ ?_ rfl) ?_
  ·rw[Ae];simp;omega
  ·rw[Ax acc,Ax (acc++_),Jp];rfl
  rw[Lr];refine Bz func302 ?_ rfl;rw[Ax]
theorem Aqm(f:Nat)(acc:List Nd)(r:RS):Fl (f+1) acc r=if Ie r then Fl f (acc++[(J0 r).1]) ((J0 r).2.need [59])else(acc,r):=rfl
theorem Ar4{q:RS}(hb:q.bad=false)(hk:q.kind=2):Jf q=(D8 q.text,q.step):=by simp only[Jf];rw[if_pos (by simp[hb,hk])]
theorem Ago{q:RS}(hk:q.kind≠2):Jf q=(-1,q.need [63]):=by simp only[Jf];rw[if_neg (by simp[hk])]
theorem Agp{q:RS}(h:q.bad=true):(Jf q).2=q:=by simp only[Jf];rw[if_neg (by simp[h])];exact Cq h _
theorem V5{acc:List Nd}{q:RS}{e:Nat}(h:q.bad=true):Rp (Abx (acc,q)) e=fun ae S=>ae=.panic (pan (q.place e))∧S=⟨[[pc q e]],[]⟩:=by
 have hq:=Asa (acc:=acc) h;generalize Abx (acc,q)=T at hq⊢;obtain⟨n,u⟩:=T;simp only at hq;subst hq;exact Dh h
set_option maxHeartbeats 800000 in
theorem A2i(r:RS)(e:Nat)(hr:r.ok)(hw:r.wk)(hb:r.bad=false):GoesI 302 (Ex r) r e:=by
 refine GoesI.run func302 ?_;rw[Am9];generalize hTT:Fl 2000 [] r=T;have hleft:r.left≤1500:=by have:=hr.1;simp only[RS.left];omega
 refine E6 2 0 3 rfl rfl rfl rfl rfl rfl ?_;refine Ar (ι:=Nat×List Nd×RS) 3 1 (fun i=>i.2.2.ok∧i.2.2.wk∧i.2.2.bad=false∧i.2.1.length+i.1≤2000∧i.2.2.left+1≤i.1∧T=Fl i.1 i.2.1 i.2.2) (fun _=>gI) (fun i=>sI i.2.2 e i.2.1) (fun i=>i.1) ?_ (2000,[],r)
  ⟨hr,hw,hb,by simp,by simp only;omega,hTT.symm⟩ ⟨rfl,rfl,rfl,trivial⟩
 rintro⟨n,acc,q⟩ ⟨hq,hqw,hqb,hlen,hfu,hTn⟩ IH;simp only at hq hqw hqb hlen hfu hTn IH⊢;obtain⟨m,rfl⟩:∃m,n=m+1:=⟨n-1,by omega⟩
 rw[Aqm]at hTn;refine Ba 100 rfl ?_;refine Af [0] [] (Jk q e N3 hqb (by simp)) ?_;refine Ai (fun h1=>?_) (fun h1=>?_)
 ·have h1':q.takes N3=true:=h1;have hD:Ie q=true:=by simp[Ie,h1']
  have hR:J0 q=(.mk 31 q.step.name 0 [],q.step.nameR):=by simp only[J0];rw[if_pos h1']
  obtain⟨af,hlt⟩:=Lj hq hD;have a:=Ak hlt;have l1:=Ch hlt;rw[if_pos hD,hR]at hTn;rw[hR]at af;simp only at hTn af;rw[E5 h1'];have hsb:q.step.bad=false:=hqb;by_cases g1:q.step.nameR.bad=false
  ·refine Hb 328 3 ?_;refine Er (H0 [0] [] (Xx q.step e hsb g1)) ?_ ?_
   ·exact Aq (Cy rfl rfl rfl) G6
   refine A0 ?_;refine Xl ?_;refine C4 (Cn (res:=Av (acc++[.mk 31 q.step.name 0 []])) rfl rfl rfl rfl rfl rfl rfl rfl rfl rfl rfl rfl rfl rfl (Ae acc) (E9 acc) rfl rfl rfl ?_ ?_ rfl) ?_
   ·rw[Ae];simp;omega
   ·rw[Ax acc,Ax (acc++_),Jp];rfl
   refine A0 ?_;refine C4 (Bg rfl rfl rfl rfl rfl rfl rfl) ?_;refine Bu ?_;by_cases g2:(q.step.nameR.need [59]).bad=false
   ·refine Af [0] [] (Mj q.step.nameR e [59] (by simp) g1 g2) ?_;have an:=af.trans (Bh (s:=[59]) (af.ok (a.ok hq)) (by simp));have ln:=Bm an;have at':=a.trans an;refine IH (m,acc++[.mk 31 q.step.name 0 []],q.step.nameR.need [59]) ⟨at'.ok hq,at'.wk hqw,g2,by simp;omega,by simp only;omega,hTn⟩ (by simp only;omega) _ _ ⟨rfl,rfl,rfl,trivial⟩ ?_ rfl rfl;simp[St.drop,Ae,upd]
   ·have g2:=Cc g2;rw[M6 g2]at hTn;rw[hTn,V5 g2];exact F9 func302 (Thr.hd [0] [] (Kb q.step.nameR e [59] (by simp) g1 g2)) rfl
  ·have g1:=Cc g1;rw[Cq g1,M6 g1]at hTn;rw[hTn,V5 g1];refine L1 (S1:=?S1) 3 328 3 func302 ?hk ?hS
   case hk=>
    refine Ma ?_;exact Thr.hd [0] [] (S9 q.step e hsb g1)
   case hS=>rfl
 have h1':q.takes N3=false:=h1;rw[F6 h1'];refine Af [0] [] (Jk q e Fx hqb (by simp)) ?_;refine Ec 0 13 (fun h2=>?_) (fun h2=>?_)
 ·have h2':q.takes Fx=true:=h2;have hD:Ie q=true:=by simp[Ie,h2']
  have hR:J0 q=(.mk 32 q.step.name (Jf (q.step.nameR.need [91])).1 [],(Jf (q.step.nameR.need [91])).2.need [93]):=by simp only[J0];rw[if_neg (by simp[h1'])]
  obtain⟨af,hlt⟩:=Lj hq hD;have a:=Ak hlt;have l1:=Ch hlt;rw[if_pos hD,hR]at hTn;rw[hR]at af;simp only at hTn af;rw[E5 h2'];have hsb:q.step.bad=false:=hqb;by_cases g1:q.step.nameR.bad=false
  ·have b:=a.trans (C5 (a.ok hq));refine Af [0] [] (Xx q.step e hsb g1) ?_;by_cases g2:(q.step.nameR.need [91]).bad=false
   ·have c:=b.trans (Bh (s:=[91]) (b.ok hq) (by simp));refine Af [0] [] (Mj q.step.nameR e [91] (by simp) g1 g2) ?_;generalize q.step.nameR.need [91]=u at g2 c hTn af⊢;have fin:∀(v:Int) (u':RS),Jf u=(v,u')→u'.bad=false→AK X ⟨302,f302,1,0⟩ (J6 false 11 f302) ((4,.ptr 3 0 0)::gI)
     ⟨[[pc u' e],[zN],[[vi 40,str [],vi 0,.sl (Av acc) (.tok 0)]],[[vi 32,str q.step.name,vi v,.sl [] .tight]]],[acc.length]⟩ (Rp (Abx T) e):=fun v u' hv hub=>by
     rw[hv]at hTn af;simp only at hTn af;rw[←A00]at hTn;refine Dj ?_;refine Ba 100 rfl ?_;by_cases g4:(u'.needs [[93],[59]]).bad=false
     ·refine Af [0] [] (Amq u' e [[93],[59]] (by simp) (by simp) hub g4) ?_;refine Ajd 42 ?_;refine Bs (Cn (res:=Av (acc++[.mk 32 q.step.name v []])) rfl rfl rfl rfl rfl rfl rfl rfl rfl rfl rfl rfl rfl rfl (Ae acc) (E9 acc) rfl rfl rfl ?_ ?_ rfl) ?_
      ·rw[Ae];simp;omega
      ·rw[Ax acc,Ax (acc++_),Jp];rfl
      have an:q.step.after (u'.needs [[93],[59]]):=af.trans (Bh (s:=[59]) (af.ok (a.ok hq)) (by simp));have ln:=Bm an;have at':=a.trans an;refine IH (m,acc++[.mk 32 q.step.name v []],u'.needs [[93],[59]]) ⟨at'.ok hq,at'.wk hqw,g4,by simp;omega,by simp only;omega,hTn⟩ (by simp only;omega) _ _ ⟨rfl,rfl,rfl,trivial⟩ ?_ rfl rfl;simp[St.drop,Ae,upd]
     ·have g4:=Cc g4;rw[M6 g4]at hTn;rw[hTn,V5 g4];exact F9 func302 (Thr.hd [0] [] (Aib u' e [[93],[59]] (by simp) (by simp) hub g4)) rfl
    refine Af [0] [] (Jk u e [63] g2 (by simp)) ?_;refine Ec 11 0 (fun h3=>?_) (fun h3=>?_)
    ·have h3':u.takes [63]=true:=h3;have hk:u.kind≠2:=fun hk=>by
      have hkt:=Pb (c.wk hqw) (by omega);have ht:u.text=[63]:=by rw[Kd g2]at h3';simpa using h3'
      rw[hk,ht]at hkt;revert hkt;decide
     have hN:u.need [63]=u.step:=by simp[RS.need,h3']
     rw[E5 h3'];exact Br 4 1 (fin (-1) u.step (by rw[Ago hk,hN]) g2) ⟨rfl,rfl,rfl,rfl,trivial⟩ rfl rfl rfl rfl rfl
    ·have h3':u.takes [63]=false:=h3;rw[F6 h3'];by_cases hk:u.kind=2
     ·refine Ahd 11 [0] [] (A0x u e (c.wk hqw) hk) ?_;exact Br 4 1 (fin (D8 u.text) u.step (Ar4 g2 hk) g2) ⟨rfl,rfl,rfl,rfl,trivial⟩ rfl rfl rfl rfl rfl
     ·have hs:(u.need [63]).bad=true:=by simp[RS.need,h3',RS.spoil]
      have hp:(u.need [63]).place e=u.place e:=Ad6 h3' e;have hpc:pc (u.need [63]) e=pc u e:=Apj h3' e;rw[Ago hk]at hTn;simp only at hTn;rw[Cq hs,Cq hs,M6 hs]at hTn;rw[hTn,V5 hs,hp,hpc];exact F9 func302 (Thr.hd [0] [] (A2h u e hk)) rfl
   ·have g2:=Cc g2;rw[Agp g2,Cq g2,Cq g2,M6 g2]at hTn;rw[hTn,V5 g2];exact F9 func302 (Thr.hd [0] [] (Kb q.step.nameR e [91] (by simp) g1 g2)) rfl
  ·have g1:=Cc g1;rw[Cq g1,Agp g1,Cq g1,Cq g1,M6 g1]at hTn;rw[hTn,V5 g1];exact F9 func302 (Thr.hd [0] [] (S9 q.step e hsb g1)) rfl
 ·have h2':q.takes Fx=false:=h2;rw[F6 h2'];rw[if_neg (by simp[Ie,h1',h2'])]at hTn;rw[hTn];exact Br 3 1 (A2k q e acc hq hqw hqb (by omega)) ⟨rfl,rfl,rfl,trivial⟩ rfl rfl rfl rfl rfl
end Go.V
namespace Go.V
open Go
section
variable {X:Cx}{B:Bx}{E:Env}{S S':St}{w:World}{F F':Cw}{a:Act}{N:Nat}{R:AE→St→Prop}{K K':List Item}
def Env.dfs(E:Env)(D:List Deferred):Env:={ E with df:=D }
theorem Rel.dfE(D:List Deferred){v:Value}{x:AV}(h:Rel E w v x):Rel (E.dfs D) w v x:=
 Rel.move (E:=E) (E':=E.dfs D) (n:=E.boxes.length) (m:=E.toks.length) (fun i _ hl=>⟨hl,fun _ h=>h⟩) (fun t _ k h=>⟨k,h,.inl rfl⟩) (fun _ _ _ _ h=>h) (fun _ _ _ h=>h) (fun _ _ h=>h) (fun _ _ _ _ _ _ _ _ _ h=>h) h h.ok
theorem Inv.dfE(D:List Deferred)(hI:Inv X E S w):Inv X (E.dfs D) S w where
 nb:=hI.nb
 nt:=hI.nt
 np:=hI.np
 box i b sz rows h1 h2:=by
  obtain⟨cs,e,hh,hs,hl,hr⟩:=hI.box i b sz rows h1 h2;exact⟨cs,e,hh,hs,hl,fun k r j x v h3 h4 h5=>(hr k r j x v h3 h4 h5).dfE D⟩
 tok:=hI.tok
 bb:=hI.bb
 bt:=hI.bt
 tt:=hI.tt
 frlt:=hI.frlt
 lo:=hI.lo
 frlo:=hI.frlo
 sz:=hI.sz
 glob:=hI.glob
theorem Evol.dfE{D:List Deferred}{E':Env}{w':World}{n m:Nat}(h:Evol (E.dfs D) w E' w' n m):Evol E w (E'.dfs E.df) w' n m:=
 ⟨h.fr,h.boxes,h.toks,h.os,h.tape,h.output,h.size,h.block,h.cell,h.mt,h.own,rfl,h.ty,h.pv⟩
theorem Ae9(C:List Frame→Frame→Env→World→Machine→Prop)(he:Go.V.ev X B.fn.ntmps 200 K F S=(K',F',S'))
 (hc:∀(cs:List Frame)(b:Frame)(E:Env)(w:World)(E':Env)(w':World)(st st':Machine),Steps X.P st st'→Evol E w E' w' B.n B.m→C cs b E' w' st'→C cs b E w st)
 (h:∀(E:Env)(w:World)(a:Act)(b:Frame)(cs:List Frame),Inv X E S' w→FR E w F' a B.fn.ntmps→B.n≤S'.boxes.length→b.fn=B.f→C cs b E w (lone (b.at a K') cs w))
 (hI:Inv X E S w)(hF:FR E w F a B.fn.ntmps)(hn:B.n≤S.boxes.length)(hm:B.m≤S.toks.length){b:Frame}(hb:b.fn=B.f)(cs:List Frame):C cs b E w (lone (b.at a K) cs w):=by
 have hAK:AK X B K F S fun e _=>e=.hook C:=Ba 200 he fun E w a b cs hI hF hn hm hb=>.inr ⟨C,rfl,fun E w E' w' st st'=>hc cs b E w E' w' st st',h E w a b cs hI hF hn hb⟩;rcases hAK E w a b cs hI hF hn hm hb with⟨e,w',fr,⟨E2,S2,_,_,h3⟩,_⟩|⟨C',h1,_,h3⟩
 ·cases e with
  |returned v=>obtain⟨_,_,h⟩:=h3;cases h
  |panicked ch=>cases h3
  |outgrown=>exact h3.elim
 ·cases h1;exact h3
theorem ACalls.defers{f g:FuncId}{fn:Func}{c:Code}{args caps:An}{o:Oper}{cl:Call}{ops:Array Oper}{i:Nat}{l:List Nat}{k:List Item}{t:Nat}(hf:X.P.funcs[f]?=some fn)(hb:fn.body=some c)(hl:args.length≤fn.ntmps)
 (he:Go.V.ev X fn.ntmps 200 [.code c] (Pg 0 args) ⟨[],[]⟩=(.inRegion ops (i::l)::k,F',S'))(ho:ops[i]?=some o)(hw:Bc ops F' o=some true)(hop:o.op=.defer cl)(hcal:cl.callee=.value (.tmp t))(hca:cl.args=#[])
 (hod:o.dst=none)(ht:lk F' t=some (.fn g caps))
 (h:∀(E:Env)(w:World)(a:Act)(b:Frame)(cs:List Frame)(us:Array Value),Inv X E S' w→FR E w F' a fn.ntmps→E.df=[⟨.fn (.func g) us,#[]⟩]→us.size=caps.length →
   (∀(j:Nat)(v:Value)(x:AV),us[j]?=some v→caps[j]?=some x→Rel E w v x)→b.fn=f→b.kind=.normal →
   ∃e w' fr,Aje X E w 0 0 R e w'∧Comes X.P (lone (b.at a (.inRegion ops l::k)) cs w) (lone fr cs w') e∧fr.fn=f∧fr.leaving X.P w' e):ACalls X f args ⟨[],[]⟩ R:=by
 intro E w vs hdf hI hs hr cs
 let b:Frame:={ (default:Frame)with fn:=f,kind:=.normal }
 let a:Act:={ tmps:=vs++Array.replicate (fn.ntmps-vs.size) undef,defers:=[] }
 have henter:Frame.enter X.P f vs .normal=b.at a [.code c]:=by simp[Frame.enter,Frame.at,hf,hb,b,a]
 have hF:FR E w (Pg 0 args) a fn.ntmps:=by
  refine⟨by simp[a];omega,hdf.symm,fun k x hk=>?_⟩;obtain⟨_,h2⟩:=Acj args 0 k x hk;simp only[Nat.sub_zero]at h2;have hlt:k<vs.size:=by rw[hs];exact Aa h2
  exact⟨vs[k],by simp only[a];rw[Alm hlt];simp[hlt],hr k _ x (by simp[hlt]) h2⟩
 rw[henter];have:=Ae9 (X:=X) (B:=⟨f,fn,0,0⟩) (fun cs b E w st=>E.df=[]→b.fn=f→b.kind=.normal→∃e w' fr,Aje X E w 0 0 R e w'∧Comes X.P st (lone fr cs w') e∧fr.fn=f∧fr.leaving X.P w' e) he
  (fun cs b E w E' w' st st' hst ev hC hE hb hk=>by
    obtain⟨e,w2,fr,⟨E2,S2,d1,d2,d3⟩,k2,k3⟩:=hC (ev.df.trans hE) hb hk;exact⟨e,w2,fr,⟨E2,S2,d1,ev.trans d2,d3⟩,Comes.of_steps hst k2,k3⟩)
  (fun E w a b cs hI hF _ _ hE hb hk=>by
    obtain⟨v,hv,hr⟩:=hF.rel _ _ ht;cases hr with
    |fn _ us _ hul hur=>
     have hg:=stepG_op (P:=X.P) (b:=b) (k:=k) (cs:=cs) (w:=w) (rest:=l) ho (Cu hF hw);have hev:a.eval (.tmp t)=.func (.func g) #[] us:=by simp[Act.eval,hv]
     have hrun:(execOp a.eval o).run X.P w=.ok (.defer ⟨.fn (.func g) us,#[]⟩) w:=by
      simp[execOp,hop,resolve,hcal,hca,hev,Deferred.ofValue]
     have hfin:({ b.at a (.inRegion ops (i::l)::k)with defers:=⟨.fn (.func g) us,#[]⟩::a.defers }:Frame).finish undef=b.at { a with defers:=⟨.fn (.func g) us,#[]⟩::a.defers } (.inRegion ops l::k):=by
      have:=Frame.finish_at b { a with defers:=⟨.fn (.func g) us,#[]⟩::a.defers } ops i l k undef;rw[ho]at this;simp only[Option.bind_some,hod]at this;exact this
     have hnil:a.defers=[]:=hF.nod.trans hE;have hstep:Go.step X.P (lone (b.at a (.inRegion ops (i::l)::k)) cs w)=.next (lone (b.at { a with defers:=[⟨.fn (.func g) us,#[]⟩] } (.inRegion ops l::k)) cs w):=by
      refine step_lone_go ?_;rw[hg];simp only[stepG.apply,Sem.runT_eq,hrun,GStep.bare_after];rw[hnil]at hfin;rw[←hfin];simp only[Frame.at,hnil];rfl
     have hI2:=hI.dfE [⟨.fn (.func g) us,#[]⟩];have hF2:FR (E.dfs [⟨.fn (.func g) us,#[]⟩]) w F' { a with defers:=[⟨.fn (.func g) us,#[]⟩] } fn.ntmps:=
      ⟨hF.size,rfl,fun k x hk=>let ⟨v,h1,h2⟩:=hF.rel k x hk;⟨v,h1,h2.dfE _⟩⟩
     obtain⟨e,w',fr,⟨E2,S2,d1,d2,d3⟩,k2,k3,k4⟩:=h _ w _ b cs us hI2 hF2 rfl hul (fun j v x hv hx=>(hur j v x hv hx).dfE _) hb hk;refine⟨e,w',fr,⟨E2.dfs E.df,S2,d1.dfE _,d2.dfE,?_⟩,Comes.of_steps (.one hstep) k2,k3,k4⟩;cases e with
     |returned v=>obtain⟨r,h1,h2⟩:=d3;exact⟨r,h1.dfE _,h2⟩
     |panicked ch=>exact d3
     |outgrown=>exact d3)
  hI hF (Cb _) (Cb _) (b:=b) rfl cs
 exact this hdf rfl rfl
theorem Aqh{g:FuncId}{gn:Func}{c:Code}{args:An}{o:Oper}{cl:Call}{ops:Array Oper}{i d n:Nat}{l:List Nat}{k:List Item}{r:AV}{S2:St}{u u':FrameMode}{v0:Value}(hf:X.P.funcs[g]?=some gn)(hb:gn.body=some c)
 (hl:args.length≤gn.ntmps)(he:Go.V.ev X gn.ntmps 200 [.code c] (Pg 0 args) S=(.inRegion ops (i::l)::k,F',S'))(ho:ops[i]?=some o)(hw:Bc ops F' o=some true)(hop:o.op=.call cl)(hcal:cl.callee=.builtin .recover)
 (hca:cl.args=#[])(hod:o.dst=some d)(hd:d<gn.ntmps)(hn:n=S.boxes.length)(htk:S.toks=[])
 (hrec:∀(c0:Frame)(cs:List Frame),c0.mode=u→(match recoverD (c0::cs)with|some q=>q|none=>(.nilIface,c0::cs))=(v0,{ c0 with mode:=u' }::cs))
 (hk:AK X ⟨g,gn,n,0⟩ (.inRegion ops l::k) ((d,.val v0)::F') S' fun e S'=>e=.ret r∧S'=S2)(hdf:E.df=[])(hI:Inv X E S w){vs:Array Value}(hs:vs.size=args.length)
 (hr:∀(j:Nat)(v:Value)(x:AV),vs[j]?=some v→args[j]?=some x→Rel E w v x) :
 CallsD X.P g vs u w fun e u2 w'=>u2=u'∧(∃v,e=.returned v)∧∃E',Inv X E' S2 w'∧Evol E w E' w' n 0:=by
 intro c0 cs hu
 let b:Frame:={ (default:Frame)with fn:=g,kind:=.deferred }
 let a:Act:={ tmps:=vs++Array.replicate (gn.ntmps-vs.size) undef,defers:=[] }
 have henter:Frame.enter X.P g vs .deferred=b.at a [.code c]:=by simp[Frame.enter,Frame.at,hf,hb,b,a]
 have hF:FR E w (Pg 0 args) a gn.ntmps:=by
  refine⟨by simp[a];omega,hdf.symm,fun k x hk=>?_⟩;obtain⟨_,h2⟩:=Acj args 0 k x hk;simp only[Nat.sub_zero]at h2;have hlt:k<vs.size:=by rw[hs];exact Aa h2
  exact⟨vs[k],by simp only[a];rw[Alm hlt];simp[hlt],hr k _ x (by simp[hlt]) h2⟩
 rw[henter];subst hn;have:=Ae9 (X:=X) (B:=⟨g,gn,S.boxes.length,0⟩) (fun cs b E w st=>E.df=[]→b.fn=g→b.kind=.deferred→b.roundOf=none→∀(c0:Frame) (cs0:List Frame),cs=c0::cs0→c0.mode=u →
  ∃e w' fr,((∃v,e=.returned v)∧∃E',Inv X E' S2 w'∧Evol E w E' w' S.boxes.length 0)∧Comes X.P st (lone fr ({ c0 with mode:=u' }::cs0) w') e∧fr.kind=.deferred∧fr.going X.P w' e) he
  (fun cs b E w E' w' st st' hst ev hC hE hb hk hr c0 cs0 hc hu=>by
    obtain⟨e,w2,fr,⟨d1,E2,d2,d3⟩,k2,k3⟩:=hC (ev.df.trans hE) hb hk hr c0 cs0 hc hu;exact⟨e,w2,fr,⟨d1,E2,d2,ev.trans d3⟩,Comes.of_steps hst k2,k3⟩)
  (fun E w a b cs hI hF hn hb hE _ hkd hro c0 cs0 hcs hu=>by
    subst hcs;have hg:=stepG_op (P:=X.P) (b:=b) (k:=k) (cs:=c0::cs0) (w:=w) (rest:=l) ho (Cu hF hw);have hrun:(execOp a.eval o).run X.P w=.ok .recover w:=by
     simp[execOp,hop,resolve,hcal,hca,invoke];rfl
    have hfin:∀v,(b.at a (.inRegion ops (i::l)::k)).finish v=b.at (a.put (some d) v) (.inRegion ops l::k):=fun v=>by
     rw[Frame.finish_at,ho];simp only[Option.bind_some,hod]
    have htr:=tryRecover_deferred (fr:=b.at a (.inRegion ops (i::l)::k)) hkd (c0::cs0);have hstep:Go.step X.P (lone (b.at a (.inRegion ops (i::l)::k)) (c0::cs0) w)=.next (lone (b.at (a.put (some d) v0) (.inRegion ops l::k)) ({ c0 with mode:=u' }::cs0) w):=by
     refine step_lone_go ?_;have hrec:=hrec c0 cs0 hu;rw[hg,←hfin];simp only[Frame.at]at htr⊢;cases hR:recoverD (c0::cs0)with
     |none=>
      rw[hR]at hrec;obtain⟨h1,h2⟩:=Prod.mk.inj hrec;subst h1;rw[←h2];simp[stepG.apply,hrun,htr,hR,hro]
     |some q=>
      obtain⟨q1,q2⟩:=q;rw[hR]at hrec;obtain⟨h1,h2⟩:=Prod.mk.inj hrec;subst h1;subst h2;simp[stepG.apply,hrun,htr,hR,hro]
    have hF2:FR E w ((d,.val v0)::F') (a.put (some d) v0) gn.ntmps:=hF.put hd (.val v0);rcases hk E w _ b ({ c0 with mode:=u' }::cs0) hI hF2 hn (Cb _) hb with⟨e,w',fr,⟨E2,S3,d1,d2,d3⟩,k2,k3,k4⟩|⟨C,h1,_⟩
    ·cases e with
     |returned v=>
      obtain⟨q,q1,q2,rfl⟩:=d3;rw[hE,hkd]at k4;obtain⟨m1,m2,m3,m4⟩:=k4;exact⟨_,w',fr,⟨⟨v,rfl⟩,E2,d1,d2⟩,Comes.of_steps (.one hstep) k2,m3,m1,m2,m4⟩
     |panicked ch=>obtain⟨h,_⟩:=d3;cases h
     |outgrown=>exact d3.elim
    ·cases h1.1)
  hI hF (Bt _) (by rw[htk];exact Bt _) (b:=b) rfl (c0::cs)
 obtain⟨e,w',fr,d,k2,k3⟩:=this hdf rfl rfl rfl c0 cs rfl hu;exact⟨e,u',w',fr,⟨rfl,d⟩,k2,k3⟩
theorem Ae2{f g:FuncId}{fn:Func}{us:Array Value}{u u':FrameMode}{fr:Frame}{cs:List Frame}{xs:An}{r:AV}{S2:St}(hI:Inv X E S w)(hF:FR E w F a fn.ntmps)(htk:S.toks=[])(hu:u≠.run)(hm:fr.mode=u)
 (hd:fr.defers=[⟨.fn (.func g) us,#[]⟩])(htm:fr.tmps=a.tmps)(hkd:fr.kind=.normal)(hfr:fr.fn=f)(hf:X.P.funcs[f]?=some fn)(hE:N8 X.P g)(hset:settle u'=.returning)
 (hc:CallsD X.P g us u w fun e u2 w'=>u2=u'∧(∃v,e=.returned v)∧∃E',Inv X E' S2 w'∧Evol (E.dfs []) w E' w' S.boxes.length 0)(hres:Oc X F S2 fn.results.toList=some xs)(hr0:De xs=r)(hz:Ok 0 0 r) :
 ∃e w' fr',Aje X E w 0 0 (fun e S=>e=.ret r∧S=⟨[],[]⟩) e w'∧Comes X.P (lone fr cs w) (lone fr' cs w') e∧fr'.fn=f∧fr'.leaving X.P w' e:=by
 subst hr0;have hle:Leaves X.P fn fr.tmps (fun e w'=>Aje X E w 0 0 (fun e S=>e=.ret (De xs)∧S=⟨[],[]⟩) e w') [⟨.fn (.func g) us,#[]⟩] u w:=by
  obtain⟨gn,hgn,hname,hbody⟩:=hE;have hi:(invoke (.fn (.func g) us) #[]).run X.P w=.ok (.enter g us) w:=by
   have hne:¬(gn.name = "runtime.NumGoroutine"):=fun h=>by rw[h]at hname;simp at hname
   simp[invoke,callFunc,hgn,hne,hbody];intro hbn;rw[hbn]at hbody;cases hbody
  refine leaves_cons hu hi (hc.mono fun e u2 w' h=>?_);obtain⟨rfl,⟨v,rfl⟩,E2,h2,h3⟩:=h;have nt:E.toks.length=0:=by have:=hI.nt;rw[htk]at this;simpa using congrArg List.length this
  have ev:Evol (E.dfs []) w E2 w' E.boxes.length E.toks.length:=by rw[nt,hI.nb];exact h3
  have hF2:FR E2 w' F { a with defers:=E2.df } fn.ntmps:=⟨hF.size,rfl,fun k x hk=>let ⟨v,q1,q2⟩:=hF.rel k x hk;⟨v,q1,(q2.dfE []).step ev⟩⟩
  obtain⟨v',q1,q2⟩:=Nq h2 hF2 hres;show Leaves X.P fn fr.tmps _ [] (settle u2) w';rw[hset];refine⟨v',by rw[htm];exact q1,(E2.drop 0 0).dfs E.df,⟨[],[]⟩,?_,?_,De xs,?_,rfl,rfl⟩
  ·have:=(h2.drop (n:=0) (m:=0) (fun rows hr=>by simp at hr)).dfE E.df;simpa[St.drop]using this
  ·exact((h3.weaken (Cb _) (Cb _)).trans (Evol.drop E2 w' 0 0)).dfE
  ·exact(q2.drop hz).dfE _
 obtain⟨e,w',fr',h1,h2,h3,h4⟩:=leaves_steps [⟨.fn (.func g) us,#[]⟩] u w fr cs hm hd rfl (by rw[hfr];exact hf) hkd hle;exact⟨e,w',fr',h1,h2,h3.trans hfr,h4⟩
def DefC(X:Cx)(f g:FuncId)(us:Array Value)(caps:An)(R:AE→St→Prop):List Frame→Frame→Env→World→Machine→Prop:=fun cs b E w st=>
 E.df=[⟨.fn (.func g) us,#[]⟩]→(∀(j:Nat) (v:Value) (x:AV),us[j]?=some v→caps[j]?=some x→Rel E w v x)→b.fn=f→b.kind=.normal →
  ∃e w' fr,Aje X E w 0 0 R e w'∧Comes X.P st (lone fr cs w') e∧fr.fn=f∧fr.leaving X.P w' e
theorem DefC.closed{f g:FuncId}{us:Array Value}{caps:An}{n m:Nat}(hcap:∀x,x∈caps→Ok n m x)(cs:List Frame)(b:Frame)(E:Env)(w:World)(E':Env)(w':World)(st st':Machine)(hs:Steps X.P st st')(ev:Evol E w E' w' n m)
 (h:DefC X f g us caps R cs b E' w' st'):DefC X f g us caps R cs b E w st:=fun hd hu hb hk=>by
 obtain⟨e,w2,fr,⟨E2,S2,d1,d2,d3⟩,k2,k3⟩:=h (ev.df.trans hd) (fun j v x hv hx=>(hu j v x hv hx).mono ev (hcap x (Bn hx))) hb hk;exact⟨e,w2,fr,⟨E2,S2,d1,(ev.weaken (Cb _) (Cb _)).trans d2,d3⟩,Comes.of_steps hs k2,k3⟩
theorem ACalls.defer{f g:FuncId}{fn:Func}{c:Code}{args caps:An}{o:Oper}{cl:Call}{ops:Array Oper}{i n:Nat}{l:List Nat}{k:List Item}{t:Nat}(hf:X.P.funcs[f]?=some fn)
 (h:∀us:Array Value,us.size=caps.length→AK X ⟨f,fn,n,0⟩ (.inRegion ops l::k) F' S' fun e _=>e=.hook (DefC X f g us caps R))(hb:fn.body=some c:=by rfl)(hl:Nat.ble args.length fn.ntmps=true:=by rfl)
 (he:Go.V.ev X fn.ntmps 200 [.code c] (Pg 0 args) ⟨[],[]⟩=(.inRegion ops (i::l)::k,F',S'):=by rfl)(ho:ops[i]?=some o:=by rfl)(hw:Bc ops F' o=some true:=by rfl)(hop:o.op=.defer cl:=by rfl)
 (hcal:cl.callee=.value (.tmp t):=by rfl)(hca:cl.args=#[]:=by rfl)(hod:o.dst=none:=by rfl)(ht:lk F' t=some (.fn g caps):=by rfl)(hn:Aat S'.boxes=n:=by rfl) [hcap:OKL n 0 caps]:ACalls X f args ⟨[],[]⟩ R:=by
 refine ACalls.defers hf hb (J5 hl) he ho hw hop hcal hca hod ht fun E w a b cs us hI hF hdf hul hur hbf hbk=>?_;rw[←Kj]at *;rcases h us hul E w a b cs hI hF (by rw[←hn,←Kj];exact Bt _) (Cb _) hbf with⟨e,w',fr,⟨E2,S2,_,_,h3⟩,_⟩|⟨C',h1,_,h3⟩
 ·cases e with
  |returned v=>obtain⟨_,_,h⟩:=h3;cases h
  |panicked ch=>cases h3
  |outgrown=>exact h3.elim
 ·cases h1;exact h3 hdf hur hbf hbk
def DefOk(X:Cx)(g:FuncId)(caps:An)(S:St)(u u':FrameMode)(S2:St):Prop:=
 N8 X.P g∧∀(E:Env) (w:World) (us:Array Value),E.df=[]→Inv X E S w→us.size=caps.length→(∀(j:Nat) (v:Value) (x:AV),us[j]?=some v→caps[j]?=some x→Rel E w v x) →
  CallsD X.P g us u w fun e u2 w'=>u2=u'∧(∃v,e=.returned v)∧∃E',Inv X E' S2 w'∧Evol E w E' w' S.boxes.length 0
theorem DefOk.run{g:FuncId}{gn:Func}{c:Code}{caps:An}{o:Oper}{cl:Call}{ops:Array Oper}{i d n:Nat}{l:List Nat}{k:List Item}{r:AV}{bx:B3}{S2:St}{u u':FrameMode}{v0:Value}(hf:X.P.funcs[g]?=some gn)
 (hrec:∀(c0:Frame)(cs:List Frame),c0.mode=u→(match recoverD (c0::cs)with|some q=>q|none=>(.nilIface,c0::cs))=(v0,{ c0 with mode:=u' }::cs))
 (hk:AK X ⟨g,gn,n,0⟩ (.inRegion ops l::k) ((d,.val v0)::F') S' fun e S'=>e=.ret r∧S'=S2)(hn:Aat bx=n:=by rfl)(hb:gn.body=some c:=by rfl)(hl:Nat.ble caps.length gn.ntmps=true:=by rfl)
 (hnm:(gn.name == "runtime.NumGoroutine")=false:=by kernel_rfl)(he:Go.V.ev X gn.ntmps 200 [.code c] (Pg 0 caps) ⟨bx,[]⟩=(.inRegion ops (i::l)::k,F',S'):=by rfl)(ho:ops[i]?=some o:=by rfl)(hw:Bc ops F' o=some true:=by rfl)(hop:o.op=.call cl:=by rfl)(hcal:cl.callee=.builtin .recover:=by rfl)
 (hca:cl.args=#[]:=by rfl)(hod:o.dst=some d:=by rfl)(hd:Nat.blt d gn.ntmps=true:=by rfl):DefOk X g caps ⟨bx,[]⟩ u u' S2:=by
 subst hn;rw[Kj]at hk;exact⟨⟨gn,hf,hnm,by rw[hb];rfl⟩,fun E w us hdf hI hs hr=>Aqh hf hb (J5 hl) he ho hw hop hcal hca hod (by simpa[Hp]using hd) rfl rfl hrec hk hdf hI hs hr⟩
theorem An0{f g:FuncId}{fn:Func}{n:Nat}{us:Array Value}{caps:An}{bx:B3}{u u':FrameMode}{xs:An}{r:AV}{S2:St}(hus:us.size=caps.length)(hf:X.P.funcs[f]?=some fn)(hcap:∀x,x∈caps→Ok n 0 x)(hu:u≠.run)
 (hset:settle u'=.returning)(hD:DefOk X g caps ⟨bx,[]⟩ u u' S2)(hres:Oc X F S2 fn.results.toList=some xs)(hr0:De xs=r)(hz:Ok 0 0 r)
 (h:∀(E:Env)(w:World)(a:Act)(b:Frame)(cs:List Frame),Inv X E S w→FR E w F a fn.ntmps→b.fn=f→∃E' w' fr,Inv X E' ⟨bx,[]⟩ w'∧Evol E w E' w' E.boxes.length E.toks.length∧fr.fn=b.fn∧fr.mode=u∧fr.defers=a.defers∧fr.tmps=a.tmps∧fr.kind=b.kind ∧
   Steps X.P (lone (b.at a K) cs w) (lone fr cs w')):AK X ⟨f,fn,n,0⟩ K F S fun e _=>e=.hook (DefC X f g us caps fun e S=>e=.ret r∧S=⟨[],[]⟩):=by
 intro E w a b cs hI hF hn hm hb;refine .inr ⟨_,rfl,fun E w E' w' st st' hs ev h=>DefC.closed hcap cs b E w E' w' st st' hs ev h,fun hdf hur hbf hbk=>?_⟩;obtain⟨E',w',fr,h1,h2,h3,h4,h5,h6,h7,h8⟩:=h E w a b cs hI hF hb;have hF':FR E' w' F a fn.ntmps:=hF.step h2;obtain⟨hE,hc⟩:=hD;have hcall:=hc (E'.dfs []) w' us rfl (h1.dfE []) hus (fun j v x hv hx=>((hur j v x hv hx).step h2).dfE []);obtain⟨e,w2,fr2,⟨E3,S3,d1,d2,d3⟩,k2,k3,k4⟩:=Ae2 (cs:=cs) h1 hF' rfl hu h4 (by rw[h5];exact hF.nod.trans hdf) h6 (h7.trans hbk) (h3.trans hbf) hf hE hset hcall hres hr0 hz;exact⟨e,w2,fr2,⟨E3,S3,d1,(h2.weaken (Cb _) (Cb _)).trans d2,d3⟩,Comes.of_steps h8 k2,k3,k4⟩
theorem Awv{f g:FuncId}{fn:Func}{n:Nat}{us:Array Value}{caps:An}{bx:B3}{k:List Item}{xs:An}{r:AV}{S2:St}(hus:us.size=caps.length)(hf:X.P.funcs[f]?=some fn)(hD:DefOk X g caps ⟨bx,[]⟩ .returning .returning S2)
 (hres:Oc X F S2 fn.results.toList=some xs:=by rfl)(hr0:De xs=r:=by rfl) [hz:OK 0 0 r] [hcap:OKL n 0 caps](hS:S=⟨bx,[]⟩:=by rfl) :
 AK X ⟨f,fn,n,0⟩ (.code .ret::k) F S fun e _=>e=.hook (DefC X f g us caps fun e S=>e=.ret r∧S=⟨[],[]⟩):=
 An0 hus hf hcap.ok (by simp) rfl hD hres hr0 hz.ok fun E w a b cs hI hF hb=>⟨E,w,{ b.at a (.code .ret::k)with mode:=.returning },by rw[←hS];exact hI,Evol.refl _ _ _ _,rfl,rfl,rfl,rfl,rfl,.one step_ret⟩
theorem Aww{f g:FuncId}{fn:Func}{n:Nat}{us:Array Value}{caps:An}{bx:B3}{k:List Item}{l:List Nat}{ops:Array Oper}{i:Nat}{o:Oper}{xs:An}{r:AV}{S2:St}{ch:List PanicEntry}{u':FrameMode}(hus:us.size=caps.length)
 (hf:X.P.funcs[f]?=some fn)(ht:Thr X fn.ntmps ops i o F S ch ⟨bx,[]⟩)(hset:settle u'=.returning)(hD:DefOk X g caps ⟨bx,[]⟩ (.panicking ch) u' S2)(hres:Oc X F S2 fn.results.toList=some xs:=by rfl)(hr0:De xs=r:=by rfl) [hz:OK 0 0 r] [hcap:OKL n 0 caps] :
 AK X ⟨f,fn,n,0⟩ (.inRegion ops (i::l)::k) F S fun e _=>e=.hook (DefC X f g us caps fun e S=>e=.ret r∧S=⟨[],[]⟩):=
 An0 hus hf hcap.ok (by simp) hset hD hres hr0 hz.ok fun E w a b cs hI hF hb=>ht F E w a (fun _ _=>rfl) hI hF b k cs l
theorem Aji{ops:Array Oper}{i:Nat}{o:Oper}{p:Operand}{xt t:TypeId}{v:Value}{x:AV}{td:TypeDesc}(htd:X.P.underlying t=some td)(hni:∀ms,td≠.interface ms)(hv:∀(E:Env)(w:World),Rel E w v x)(ho:ops[i]?=some o:=by rfl)
 (hw:Bc ops F o=some true:=by rfl)(hop:o.op=.typeAssert p xt t true:=by rfl)(hp:Dv X F p=some (.val (.iface t v)):=by rfl):Ndo X N ops i o F (.tup [x,.val (.bool true)]) S S:=by
 refine Dp ho hw fun F' E w a hc hI hF=>?_;rw[hop]at hc;have r1:=Am hI hF ((hc p (by simp[Op.operands])).trans hp);generalize hx:a.eval p=y at r1;cases r1;refine⟨.tuple #[v,.bool true],?_,.tup _ _ rfl fun j u z hu hz=>?_⟩
 ·cases td with
  |interface ms=>exact absurd rfl (hni ms)
  |_=>simp[execOp,hop,hx,Instr.typeAssert,run_underlying htd]
 ·cases j with
  |zero=>simp at hu hz;subst hu;subst hz;exact hv E w
  |succ j=>cases j with
   |zero=>simp at hu hz;subst hu;subst hz;exact .val _
   |succ j=>simp at hz
theorem Aqd{ops:Array Oper}{i:Nat}{o:Oper}{p:Operand}{t t':TypeId}(hu:X.P.underlying t=some (.interface (X.P.methodsAt t)))(ho:ops[i]?=some o:=by rfl)(hw:Bc ops F o=some true:=by rfl)(hop:o.op=.binOp .neq t p (.const .nilIface) t':=by rfl)
 (hp:Dv X F p=some (.val .nilIface):=by rfl):Ndo X N ops i o F (.val (.bool false)) S S:=by
 refine Dp ho hw fun F' E w a hc hI hF=>?_;rw[hop]at hc;have r1:=Am hI hF ((hc p (by simp[Op.operands])).trans hp);generalize hx:a.eval p=x at r1;cases r1;exact⟨.bool false,by simp[execOp,hop,hx,show a.eval (.const .nilIface)=.nilIface from rfl,eqGuard,run_neq_nil_nil w t hu],.val _⟩
theorem Al2{ops:Array Oper}{i:Nat}{o:Oper}{p:Operand}{t t' u:TypeId}{v:Value}(hu:X.P.underlying t=some (.interface (X.P.methodsAt t)))(ho:ops[i]?=some o:=by rfl)(hw:Bc ops F o=some true:=by rfl)(hop:o.op=.binOp .neq t p (.const .nilIface) t':=by rfl)
 (hp:Dv X F p=some (.val (.iface u v)):=by rfl):Ndo X N ops i o F (.val (.bool true)) S S:=by
 refine Dp ho hw fun F' E w a hc hI hF=>?_;rw[hop]at hc;have r1:=Am hI hF ((hc p (by simp[Op.operands])).trans hp);generalize hx:a.eval p=x at r1;cases r1;exact⟨.bool true,by simp[execOp,hop,hx,show a.eval (.const .nilIface)=.nilIface from rfl,eqGuard,run_neq_held_nil w t u v hu],.val _⟩
end
end Go.V
namespace Go.V
open Go Go.Proofs Go.Proofs.Tryz
theorem Azf(n:Nd)(hn:Al n≤4000000000):Pure X 293 [nd n] (vi (Dn n)):=by
 induction n using Nd.ind with
 |h n ih=>
 refine Pure.run func293 ?_;have hc:=Co n;have hll:=Bq n.kids;have hd:=Us n;rw[Kg]at hd⊢;refine Ar (ι:=Nat) 1 0 (fun i=>i≤n.kids.length) (fun i=>[(9,vi i),(8,vi n.kids.length),(7,.sl (Av n.kids) .no),(3,vi (G7 (n.kids.take i):Nat))]) (fun _=>⟨[[Ag n]],[]⟩) (fun i=>n.kids.length-i) ?_ 0 (Cb _)
  ⟨rfl,by rw[←Ae];rfl,rfl,rfl,trivial⟩
 intro i hi IH;refine Cp (fun h=>?_) (fun h=>?_)
 ·have hlt:i<n.kids.length:=by have:=A6 h;omega
  obtain⟨kid,hkid⟩:=Ab n.kids hlt;have hsn:=Abk hkid;have hcs:=P5 hkid;have hle:=Q5 (l:=n.kids) (i:=i+1);refine Bv i (by omega) (Ap hkid) ?_;refine Aj (ih kid (Bn hkid) (by omega)) ?_;refine IH (i+1) hlt (by omega) _ _ ⟨vsx (by omega),rfl,rfl,Ci ?_,trivial⟩ rfl rfl rfl;split<;>omega
 ·have:i=n.kids.length:=by have:=Bd h;omega
  subst this;refine Az func293 ?_;rw[Jh];exact congrArg (fun x=>AV.val (.int .i64 x)) ((Ac (by omega) (by omega)).trans (by omega))
theorem Aze(n:Nd)(hn:Al n≤4000000000):Pure X 292 [nd n] (vi (Al n)):=t1 n hn
def Pm(n:Nd):Bool:=decide (500<Al n∨24<Dn n)
theorem Age(n:Nd)(hn:Al n≤4000000000):Pure X 264 [nd n] (vb (Pm n)):=by
 refine Pure.run func264 ?_;refine Aj (Aze n hn) ?_;refine Db (fun h=>?_) (fun h=>?_)
 ·have h':500<Al n:=by have:=A6 h;omega
  refine Ao func264 ?_;simp[Pm,h']
 ·have h':¬500<Al n:=by have:=Bd h;omega
  refine Aj (Azf n hn) ?_;refine Ao func264 ?_;simp[Pm,h'];omega
theorem Ap3:X.P.underlying 20=some (.interface (X.P.methodsAt 20)):=by kernel_rfl
theorem Atr(x:AV)(u:RS)(e:Nat)(n:Nd)(i:Int):DefOk X 321 [.ptr 0 0 0,.ptr 1 0 0] ⟨[[Ag n],[[vi i]],[pc u e]],[]⟩ .returning .returning ⟨[[Ag n],[[vi i]],[pc u e]],[]⟩:=by
 refine DefOk.run func321 (r:=.tup []) (v0:=.nilIface) (fun c0 cs h=>by simp[recoverD,h];obtain⟨_,_,_,_,_,_,_⟩:=c0;simp at h;subst h;rfl) ?_;refine Ba 100 rfl ?_;refine Bs (Aqd Ap3) ?_;refine Ah ?_;exact Ek func321 rfl rfl
theorem Axr(u:RS)(e p:Nat):DefOk X 321 [.ptr 0 0 0,.ptr 1 0 0] ⟨[[zN],[[vi 0]],[pc u e]],[]⟩ (.panicking (pan p)) (.panicking [{ v:=.iface 345 (.agg ⟨[.int .i64 p]⟩),recovered:=true }]) ⟨[[zN],[[vi p]],[pc u e]],[]⟩:=by
 obtain⟨d,hd,hk⟩:=(X.ty_ok 345 _ rfl).agg;obtain⟨fields,rfl,_⟩:=hk;refine DefOk.run func321 (r:=.tup []) (v0:=.iface 345 (.agg ⟨[.int .i64 p]⟩)) (fun c0 cs h=>by simp[recoverD,h,pan]) ?_;refine Ba 100 rfl ?_;refine Bs (Al2 Ap3) ?_;refine Ay ?_;refine Bs (Aji (x:=.agg [vi p]) hd (by simp) (fun E w=>.agg _ _ rfl fun j v x hv hx=>?_)) ?_
 ·cases j with
  |zero=>simp at hv hx;subst hv;subst hx;exact .val _
  |succ j=>simp at hx
 refine Ah ?_;refine Eo 24 ?_;refine Er (Bg rfl rfl rfl rfl rfl rfl rfl) ?_ ?_
 ·exact Aq (Cy rfl rfl rfl) G6
 refine C4 (Bg rfl rfl rfl rfl rfl rfl rfl) ?_;refine Bu ?_;exact Ek func321 rfl rfl
theorem Pure.less{X:Cx}{f:FuncId}{args:An}{r y:AV}(h:Pure X f args r) [hw:RinC [] [] r y]:Pure X f args y:=by
 refine⟨h.1,fun E w vs hd hI hs hr=>(h.2 E w vs hd hI hs hr).mono fun e w' he=>?_⟩;obtain⟨E1,S1,d1,d2,d3⟩:=he;cases e with
 |returned v=>
  obtain⟨r',hr',hre,rfl⟩:=d3;cases hre;exact⟨E1,_,d1,d2,y,hw.s.less hr',rfl,rfl⟩
 |panicked ch=>obtain⟨h,_⟩:=d3;cases h
 |outgrown=>exact d3.elim
def Apo(r:RS)(e:Nat):Nd×Int:=if (Ex r).2.bad then(Cm,(Ex r).2.place e)else((Ex r).1,-1)
theorem Aro{r:RS}(h:(Ex r).2.bad=false):(Ex r).2.ws.length≤(Ex r).2.at_:=by
 simp only[Ex,RS.ends]at h⊢;split at h
 ·simp[RS.spoil]at h
 ·rename_i hn;rw[if_neg hn];omega
theorem A3f(ws:List Wd)(e:Nat)(ho:(RS.mk ws 0 false).ok)(hw:(RS.mk ws 0 false).wk) :
 Pure X 301 [.sl (H8 ws) .no,vi e,.fn 302 []] (.tup [nd (Apo ⟨ws,0,false⟩ e).1,vi (Apo ⟨ws,0,false⟩ e).2]):=by
 have hp:=A2i ⟨ws,0,false⟩ e ho hw rfl;have he:=Aro (r:=⟨ws,0,false⟩);unfold Apo;generalize Ex ⟨ws,0,false⟩=T at hp he⊢;obtain⟨n,q⟩:=T;simp only at hp he⊢;by_cases g:q.bad=false
 ·rw[if_neg (by simp[g])];have he:=he g;refine⟨⟨_,func301,by kernel_rfl,rfl⟩,ACalls.defer (g:=321) (caps:=[.ptr 0 0 0,.ptr 1 0 0]) (n:=2) func301 fun us hus=>?_⟩;refine Ba 100 rfl ?_;refine Ix 8 (.ptr 2 0 0) ?_;refine Ix 15 (.ptr 2 0 0) ?_;refine Af [2] [] (hp.ok g) ?_;refine Ah ?_ (ht:=by rw[Ef,Anu];simp;omega);exact Awv hus func301 (Atr .junk q e n (-1))
 ·have g:=Cc g;rw[if_pos (by simp[g])];have:Pure X 301 [.sl (H8 ws) .no,vi e,.fn 302 []] (.tup [.agg zN,vi (q.place e)]):=by
   refine⟨⟨_,func301,by kernel_rfl,rfl⟩,ACalls.defer (g:=321) (caps:=[.ptr 0 0 0,.ptr 1 0 0]) (n:=2) func301 fun us hus=>?_⟩;refine Ba 100 rfl ?_;refine Ix 15 (.ptr 2 0 0) ?_;exact Aww hus func301 (Thr.hd [2] [] (hp.bad g)) rfl (Axr q e (q.place e))
  exact Pure.less this
theorem Ag1:∀(f a:Nat)(r:Ad)(out:List Wd),(H6 f a r out).2.1=0→(H6 f a r out).2.2=0
 |0,a,r,out,h=>rfl
 |f+1,a,[],out,h=>rfl
 |f+1,a,c::l,out,h=>by
  simp only[H6]at h⊢;split at h
  ·simp at h
  ·rename_i h1;rw[if_neg h1];split at h
   ·simp at h
   ·rename_i h2;rw[if_neg h2];exact Ag1 f _ _ _ h
theorem Asi{s:Ad}(h:(Da s).2.1=0):(Da s).2.2=0:=by
 unfold Da at h⊢;split at h
 ·simp at h
 ·rename_i h1;rw[if_neg h1];exact Ag1 _ _ _ _ h
theorem Azl(s:Ad)(hs:s.length≤900000000):Pure X 268 [str s] (.tup [nd (Fp s).1,.agg [vi (Fp s).2.1,vi (Fp s).2.2]]):=by
 have hw:Pure X 300 [str s] (.tup [.sl (H8 (Da s).1) .no,.agg [vi (Da s).2.1,vi (Da s).2.2]]):=Azo s hs;have hat:=Asi (s:=s);have ho:=Ai2 s;have hk:=Ai3 s;have hgood:=X4 ho hk;have hP:Fp s=if (Da s).2.1=0 then
  (if (Ex ⟨(Da s).1,0,false⟩).2.bad then(Cm,4,((Ex ⟨(Da s).1,0,false⟩).2.place s.length:Int))
  else if 500<Al (Ex ⟨(Da s).1,0,false⟩).1∨24<Dn (Ex ⟨(Da s).1,0,false⟩).1 then(Cm,5,0)else((Ex ⟨(Da s).1,0,false⟩).1,0,0))
  else(Cm,(Da s).2.1,((Da s).2.2:Int)):=rfl
 rw[hP];simp only[rs0]at ho hk hgood;generalize Da s=T at hw hat ho hk hgood⊢;obtain⟨ws,c,at_⟩:=T;simp only at hw hat ho hk hgood⊢;have hfl:Sw X.P 268=some [0,0]:=by kernel_rfl
 refine Pure.run func268 ?_;refine Aj hw ?_;refine Bs (Vz (r:=!((c==0)&&(((at_:Int)==0)&&true))) rfl rfl rfl rfl rfl hfl rfl (.inr ⟨rfl,rfl⟩)) ?_;refine Ai (fun h=>?_) (fun h=>?_)
 ·have h':c≠0:=by
   intro h0;have:=hat h0;simp[h0,this]at h
  rw[if_neg h'];refine Eo 12 ?_;refine Er (Bg rfl rfl rfl rfl rfl rfl rfl) ?_ ?_
  ·exact Aq (Cy rfl rfl rfl) G6
  refine C4 (Bg rfl rfl rfl rfl rfl rfl rfl) ?_;refine Bu ?_;refine Ao func268 ?_;rfl
 have h':c=0:=by simp at h;exact h.1
 rw[if_pos h'];have hR:=A3f ws s.length ho hk;unfold Apo at hR;generalize Ex ⟨ws,0,false⟩=q at hR hgood⊢;obtain⟨n,u⟩:=q;simp only at hR hgood⊢;by_cases g:u.bad=true
 ·rw[if_pos g]at hR;rw[if_pos g];refine Aj hR ?_;refine Ay ?_ (ht:=by simp);refine Ao func268 ?_;rfl
 ·rw[if_neg g]at hR;rw[if_neg g];have g':u.bad=false:=by simpa using g
  obtain⟨g1,g2,g3⟩:=hgood g';have hl0:=ho.1;simp only at hl0 g2;have hc:Al n≤4000000000:=by omega
  refine Aj hR ?_;refine Ah ?_;refine Aj (Age n hc) ?_;refine Ai (fun h2=>?_) (fun h2=>?_)
  ·have h2':500<Al n∨24<Dn n:=by simpa[Pm]using h2
   rw[if_pos h2'];refine Ao func268 ?_;rfl
  ·have h2':¬(500<Al n∨24<Dn n):=by simpa[Pm]using h2
   rw[if_neg h2'];refine Ao func268 ?_;rfl
end Go.V
