/- A part of the proof of the claim that the last text states: no condition of its own. -/
import Derived.Test.YtojhghmilenfkaaGreatDoorQ13
import Derived.Carry
import Derived.ChangeArms
import Derived.ChangeVars
import Derived.Deep.DeepHandedRow
import Derived.Lib.LaidTab
import Derived.Lib.LaidU8
import Derived.OpenShut
import Derived.ProofKit
import Derived.Test.YtojhghmilenfkaaGreatDoorCards
import Derived.Test.YtojhghmilenfkaaGreatDoorTie
import Derived.WalkKit
set_option linter.unusedVariables false
set_option linter.unusedSimpArgs false
namespace Go.V
open Go Go.Proofs Go.Proofs.Tryz
instance{n m:Nat}{f:Eg→Int}{l:List Eg}{pts:Nat}:OKR n m (Va f l pts):=⟨fun r hr x hx=>by
 obtain⟨p,_,rfl⟩:=zzq50.1 hr;simp at hx;subst hx;exact(inferInstance:OK n m (.sl (T4 (Ki f l p)) .no)).ok⟩
instance{n m:Nat}{x:Nd}:OKL n m (Oj x):=⟨(inferInstance:OKL n m (vi (D9 (A1 x)).pts::.sl (Fg (Ia (A1 x))) .no::.sl (Eu (A3 x 31)) .no::.sl (Eu (A3 x 32)) .no::.sl (Fh (Fq x)) .no ::
 .sl (Va Eg.f (Ia (A1 x)) (D9 (A1 x)).pts) .no::.sl (Va Eg.t (Ia (A1 x)) (D9 (A1 x)).pts) .no::Ag (Be x))).ok⟩
theorem Ht(n:Nd)(k:Int):(A3 n k).length≤n.kids.length:=by rw[Ahu,Py];exact Adg n k
section
variable (n:Nd)(hl:n.kids.length≤100000)
theorem X6(s:Ad)(hl:n.kids.length≤100000):Pure X 188 [.cptr (Oj n),str s] (vi (Fe 0 (A3 n 31) s)):=by
 have:=Ht n 31;refine Pure.run func188 ?_;refine Aj (Acp (A3 n 31) s (by omega)) ?_;exact Ao func188 rfl
theorem Aiv(s:Ad)(hl:n.kids.length≤100000):Pure X 55 [.cptr (Oj n),str s] (vi (Fe 0 (A3 n 32) s)):=by
 have:=Ht n 32;refine Pure.run func55 ?_;refine Aj (Acp (A3 n 32) s (by omega)) ?_;exact Ao func55 rfl
end
def Lw(n:Nd):An:=[.sl (Eu (A3 n 31)) .no,.sl (Eu (A3 n 32)) .no,.sl (Fh (Fq n)) .no,vi (D9 (A1 n)).pts,.sl (Fg (Ia (A1 n))) .no]
instance{n m:Nat}{x:Nd}:OKL n m (Lw x):=⟨(inferInstance:OKL n m [.sl (Eu (A3 x 31)) .no,.sl (Eu (A3 x 32)) .no,.sl (Fh (Fq x)) .no,vi (D9 (A1 x)).pts,.sl (Fg (Ia (A1 x))) .no]).ok⟩
theorem Au4(n:Nd)(hr:H4 n=true):Pure X 48 [nd n] (.agg (Lw n)):=by
 obtain⟨fp,_,hw,_,_⟩:=Kc hr;refine Pure.run func48 ?_;refine Eo 512 ?_;refine B2 (Tj n 31 (by omega)) ?_;refine B2 (Tj n 32 (by omega)) ?_;refine B2 (Ay4 n (by omega)) ?_;refine B2 (Ax1 n fp (by omega)) ?_;refine C4 (Bg rfl rfl rfl rfl rfl rfl rfl) ?_;refine Bu ?_;exact Ao func48 rfl
end Go.V
namespace Go.V
open Go
section
variable {X:Cx}{B:Bx}{S:St}{F:Cw}{N:Nat}{ops:Array Oper}{i:Nat}{o:Oper}{p q:Operand}
theorem Ac2{t e m b r o1 o2:Nat}{ik:IntKind}{n:Int}{y ye:Ty}(h0:0≤n)(h1:n<(m:Int))(ho:ops[i]?=some o:=by rfl)(hw:Bc ops F o=some true:=by rfl)(hop:o.op=.indexAddr t p q:=by rfl)
 (hp:Dv X F p=some (.ptr b r o1):=by rfl)(hq:Dv X F q=some (.val (.int ik n)):=by rfl)(hy:X.ty t=some y:=by rfl)(hyk:y.k=.arr m e:=by rfl)(hye:X.ty e=some ye:=by rfl)(he:Aqg o1 (n.toNat*ye.size)=o2:=by rfl) :
 Ndo X N ops i o F (.ptr b r o2) S S:=by
 subst he;rw[Acg];refine Dp ho hw fun F' E w a hc hI hF=>?_;rw[hop]at hc;have r1:=Am hI hF ((hc p (by simp[Op.operands])).trans hp);have r2:=Am hI hF ((hc q (by simp[Op.operands])).trans hq);obtain⟨d,hdd,hd2⟩:=(X.ty_ok t y hy).agg;simp only[hyk]at hd2;obtain⟨rfl,ye',hye',_⟩:=hd2;rw[hye]at hye';cases hye';generalize hu:a.eval p=u at r1;generalize hv:a.eval q=v at r2;cases r2;cases r1 with
 |ptr _ _ _ blk sz h=>
  refine⟨.pointer (some ⟨blk,r*sz+o1+n.toNat*ye.size,none⟩),?_,?_⟩
  ·simp[execOp,hop,hu,hv,Instr.indexAt,asIntOf,run_underlying hdd,Instr.sureAddr,h0,h1,Dx hye,Gq]
  ·rw[Qi];exact .ptr b r _ blk sz h
theorem Xq{t:TypeId}{m e:Nat}{y:Ty}(ho:ops[i]?=some o:=by rfl)(hw:Bc ops F o=some true:=by rfl)(hop:o.op=.build t #[]:=by rfl)(hy:X.ty t=some y:=by rfl)(hk:y.k=.arr m e:=by rfl):Ndo X N ops i o F (.agg y.zero) S S:=by
 refine Dp ho hw fun F' E w a hc hI hF=>?_;obtain⟨d,hd,hdd⟩:=(X.ty_ok t y hy).agg;simp only[hk]at hdd;obtain⟨rfl,ye,hye,_⟩:=hdd;obtain⟨ie,_,hie,_⟩:=(X.ty_ok e ye hye).info;obtain⟨z,_,hzc,hl,i,hi,hiz,his,_⟩:=Ke hy w;have hrun:=run_build (P:=X.P) w t #[] z.cells (by simp[Program.built,hi,hd,hiz,hie,Instr.fill]);refine⟨.agg z.cells,by simp[execOp,hop,hrun],?_⟩;refine .agg z.cells _ (by rw[←hzc];simp) (fun j v x hv hx=>?_);rw[←hzc]at hx;simp only[Hd,Ab6,hv,K4]at hx;cases hx;exact Nc v
end
end Go.V
namespace Go.V
open Go Go.Proofs Go.Proofs.Tryz
inductive LnI:Nd→Prop where
 |mk (k:Int) (s:List UInt8) (m:Int) (ks:List Nd) (hs:s.length≤9223372036854775807) (hl:ks.length≤9223372036854775807) (hk:∀x,x∈ks→LnI x):LnI (.mk k s m ks)
theorem LnI.get{n:Nd}(h:LnI n):n.name.length≤9223372036854775807∧n.kids.length≤9223372036854775807∧∀x,x∈n.kids→LnI x:=by
 cases h with|mk k s m ks h0 h1 hk=>exact⟨h0,h1,hk⟩
mutual
def swN:Nd→Nat
 |.mk _ s _ ks=>s.length+(ks.length+swL ks)
def swL:List Nd→Nat
 |[]=>0
 |x::l=>swN x+swL l
end
theorem A3y(n:Nd):swN n=n.name.length+(n.kids.length+swL n.kids):=by cases n;rw[swN];rfl
theorem A6a:(∀n:Nd,wN n≤1+swN n)∧∀l:List Nd,wL l≤l.length+swL l:=by
 refine Sd (fun k s m ks ih=>?_) (Bt _) (fun x l hx hl=>?_)
 ·simp only[wN,swN];omega
 ·simp only[wL,swL,N6];omega
def N2(w:Nat)(left:Int):Int:=if (w:Int)≤left then left-w else -1
theorem Wt{a b:Nat}{left:Int}(h:(a:Int)≤left):N2 (a+b) left=N2 b (left-a):=by
 unfold N2;by_cases h2:((a+b:Nat):Int)≤left
 ·rw[if_pos h2,if_pos (by omega)];omega
 ·rw[if_neg h2,if_neg (by omega)]
theorem Aa9{a b:Nat}{left:Int}(h:left<a):N2 (a+b) left=-1:=by
 unfold N2;rw[if_neg (by omega)]
theorem Zr{w:Nat}{left:Int}(h0:0≤left)(h:N2 w left<0):N2 w left=-1∧left<w:=by
 unfold N2 at h⊢;split at h
 ·rename_i h2;rw[if_pos h2];omega
 ·rename_i h2;rw[if_neg h2];omega
theorem Zs{w:Nat}{left:Int}(h:0≤N2 w left):N2 w left=left-w∧(w:Int)≤left:=by
 unfold N2 at h⊢;split at h
 ·rename_i h2;rw[if_pos h2];omega
 ·omega
theorem A56(l:List Nd)(left:Int)(h0:0≤left)(h1:left≤1048576)(hl:l.length≤9223372036854775807)(ih:∀x,x∈l→∀lf:Int,0≤lf→lf≤1048576→Pure X 10 [nd x,vi lf] (vi (N2 (swN x) lf))) :
 Pure X 46 [.sl (Av l) .no,vi left] (vi (N2 (l.length+swL l) left)):=by
 have hw:IntKind.i64.wrap (left-(Av l).length)=left-l.length:=by rw[Ae];exact Ac (by omega) (by omega)
 refine Pure.run func46 ?_;refine Ai (fun g=>?_) (fun g=>?_)
 ·have g':=A6 g;rw[hw]at g';refine Ao func46 ?_;rw[Aa9 (by omega)]
 have g':=Bd g;rw[hw]at g';have e0:N2 (l.length+swL l) left=N2 (swL l) (IntKind.i64.wrap (left-(Av l).length)):=by rw[hw,Wt (by omega)]
 rw[e0];have hb:0≤IntKind.i64.wrap (left-(Av l).length)∧IntKind.i64.wrap (left-(Av l).length)≤1048576:=by rw[hw];omega
 generalize IntKind.i64.wrap (left-(Av l).length)=lf0 at hb;refine Ar (ι:=Nat×Int) 0 0 (fun i=>i.1≤l.length∧0≤i.2∧i.2≤1048576∧N2 (swL l) lf0=N2 (swL (l.drop i.1)) i.2) (fun i=>[(5,vi i.1),(1,vi i.2),(0,.sl (Av l) .no)]) (fun _=>⟨[],[]⟩) (fun i=>l.length-i.1) ?_ (0,lf0) ⟨Cb _,hb.1,hb.2,rfl⟩
  ⟨rfl,rfl,rfl,trivial⟩
 rintro⟨i,lf⟩ ⟨hi,hp0,hp1,hT⟩ IH;simp only at hi hp0 hp1 hT IH⊢;refine Cp (fun h=>?_) (fun h=>?_)
 ·have hlt:i<l.length:=by have:=A6 h;rw[Ae]at this;omega
  obtain⟨x,hx⟩:=Ab l hlt;rw[Bp hx]at hT;simp only[swL]at hT;refine Bv i (by omega) (Ap hx) ?_;refine Aj (ih x (Bn hx) lf hp0 hp1) ?_;refine Ai (fun g2=>?_) (fun g2=>?_)
  ·have g2':=Zr hp0 (A6 g2);refine Ao func46 ?_;rw[hT,Aa9 g2'.2]
  ·have g2':=Zs (show 0≤N2 (swN x) lf by have:=Bd g2;omega);refine IH (i+1,N2 (swN x) lf) ⟨hlt,?_,?_,?_⟩ (by simp only;omega) _ _ ⟨Ci ((Ac (by omega) (by omega)).trans (by simp)),rfl,rfl,trivial⟩ rfl rfl rfl
   ·show 0≤N2 (swN x) lf;omega
   ·show N2 (swN x) lf≤_;omega
   ·rw[hT,Wt g2'.2,g2'.1]
 ·have:i=l.length:=by have:=Bd h;rw[Ae]at this;omega
  subst this;rw[Hr]at hT;refine Ao func46 ?_;rw[hT];unfold N2 swL;rw[if_pos (by simpa using hp0)];simp
theorem A6y(n:Nd)(hln:LnI n):∀left:Int,0≤left→left≤1048576→Pure X 10 [nd n,vi left] (vi (N2 (swN n) left)):=by
 induction n using Nd.ind with
 |h n ih=>
 intro left h0 h1;obtain⟨ha,hb,hk⟩:=hln.get;have hw:IntKind.i64.wrap (left-(⟨⟨n.name⟩⟩:ByteArray).size)=left-n.name.length:=by rw[Gj];exact Ac (by omega) (by omega)
 rw[A3y];refine Pure.run func10 ?_;refine Ai (fun g=>?_) (fun g=>?_)
 ·have g':=A6 g;rw[hw]at g';refine Ao func10 ?_;rw[Aa9 (by omega)]
 have g':=Bd g;rw[hw]at g';have e0:N2 (n.name.length+(n.kids.length+swL n.kids)) left=N2 (n.kids.length+swL n.kids) (IntKind.i64.wrap (left-(⟨⟨n.name⟩⟩:ByteArray).size)):=by rw[hw,Wt (by omega)]
 rw[e0];have hb2:0≤IntKind.i64.wrap (left-(⟨⟨n.name⟩⟩:ByteArray).size)∧IntKind.i64.wrap (left-(⟨⟨n.name⟩⟩:ByteArray).size)≤1048576:=by rw[hw];omega
 refine Aj (A56 n.kids _ hb2.1 hb2.2 hb (fun x hx lf=>ih x hx (hk x hx) lf)) ?_;generalize IntKind.i64.wrap (left-(⟨⟨n.name⟩⟩:ByteArray).size)=lf at hb2⊢;refine Ai (fun g2=>?_) (fun g2=>?_)
 ·have g2':=Zr hb2.1 (A6 g2);refine Ao func10 ?_;rw[g2'.1]
 ·exact Ao func10 rfl
theorem Azp{l:List Nd}{i:Nat}{x:Nd}(h:l[i]?=some x):(rB (l.take i) (l.length-i)).set i (Ag x)=rB (l.take (i+1)) (l.length-(i+1)):=by
 have hi:=Aa h;obtain⟨c,hc⟩:∃c,l.length-i=c+1:=⟨l.length-i-1,by omega⟩
 have hc2:l.length-(i+1)=c:=by omega
 rw[hc,hc2,rB,rB,Hq,h,Aha,Aa0,Awk];have:(Av (l.take i)).length=i:=by rw[Ae,Zz];omega
 rw[Jb _ _ (by omega),this,Iw,List.set_cons_zero,Gv];rw[Ax [x]];rfl
theorem A58(l:List Nd)(hl:l.length≤1000000000)(ih:∀x,x∈l→Pure X 12 [nd x] (nd x)):Pure X 51 [.sl (Av l) .no] (.sl (Av l) .no):=by
 refine Pure.run func51 ?_;refine Bs (Jz (n:=(Av l).length) (b:=0) (by rw[Ae];exact hl) rfl rfl rfl rfl rfl rfl rfl rfl rfl rfl) ?_;refine Ar (ι:=Nat) 1 0 (fun i=>i≤l.length) (fun i=>[(4,vi i),(3,.bsl 0 l.length),(0,.sl (Av l) .no)]) (fun i=>⟨[rB (l.take i) (l.length-i)],[]⟩) (fun i=>l.length-i) ?_ 0 (Cb _)
  ⟨rfl,by rw[←Ae l];rfl,rfl,trivial⟩ (by rw[←Ae l];rfl)
 intro i hi IH;refine Cp (fun h=>?_) (fun h=>?_)
 ·have hlt:i<l.length:=by have:=A6 h;rw[Ae]at this;omega
  obtain⟨x,hx⟩:=Ab l hlt;have hr:(rB (l.take i) (l.length-i))[i]?=some zN:=by
   have:(Av (l.take i)).length=i:=by rw[Ae,Zz];omega
   rw[rB,Gz (by omega),this,Iw,Aln,if_pos (by omega)]
  refine Bv i (by omega) (Ap hx) ?_;refine Aj (ih x (Bn hx)) ?_;refine R4 i hlt hr ?_;refine Xk hr ?_;refine IH (i+1) hlt (by omega) _ _ ⟨vsx (by omega),rfl,rfl,trivial⟩ ?_ rfl rfl;rw[←Azp hx];rfl
 ·have:i=l.length:=by have:=Bd h;rw[Ae]at this;omega
  subst this;refine An2 func51 (b:=0) (l:=l) (c:=l.length-l.length) ?_ hl;rw[Jh];rfl
theorem A0f(n:Nd)(hn:Al n≤1000000000):Pure X 12 [nd n] (nd n):=by
 induction n using Nd.ind with
 |h n ih=>
 have hcn:=Co n;have hll:=Bq n.kids;refine Pure.run func12 ?_;refine Aj (A58 n.kids (by omega) (fun x hx=>ih x hx (by have:=Fc hx;omega))) ?_;exact Ao func12 rfl
theorem A53(l:List Nd)(hl:l.length≤1000000000)(ih:∀x,x∈l→Pure X 15 [nd x,nd x] (vb true)):Pure X 58 [.sl (Av l) .no,.sl (Av l) .no] (vb true):=by
 refine Pure.run func58 ?_;refine Ah ?_ (ht:=by simp);refine Ar (ι:=Nat) 0 0 (fun i=>i≤l.length) (fun i=>[(5,vi i),(0,.sl (Av l) .no),(1,.sl (Av l) .no)]) (fun i=>⟨[],[]⟩) (fun i=>l.length-i) ?_ 0 (Cb _)
  ⟨rfl,rfl,rfl,trivial⟩
 intro i hi IH;refine Cp (fun h=>?_) (fun h=>?_)
 ·have hlt:i<l.length:=by have:=A6 h;rw[Ae]at this;omega
  obtain⟨x,hx⟩:=Ab l hlt;refine Eo 0 ?_;refine Dk i (by omega) (Ap hx) ?_;refine Dk i (by omega) (Ap hx) ?_;refine B2 (ih x (Bn hx)) ?_;refine Bu ?_;refine Ah ?_;exact IH (i+1) hlt (by omega) _ _ ⟨vsx (by omega),rfl,rfl,trivial⟩ rfl rfl rfl
 ·exact Ao func58 rfl
theorem A6x(n:Nd)(hn:Al n≤1000000000):Pure X 15 [nd n,nd n] (vb true):=by
 induction n using Nd.ind with
 |h n ih=>
 have hcn:=Co n;have hll:=Bq n.kids;refine Pure.run func15 ?_;refine Ah ?_ (ht:=by simp);refine Ah ?_ (ht:=by simp);refine Ah ?_ (ht:=by simp);refine Aj (A53 n.kids (by omega) (fun x hx=>ih x hx (by have:=Fc hx;omega))) ?_;refine Ah ?_;exact Ao func15 rfl
def E0:Env:=⟨[],[],fun _ _=>False,[]⟩
theorem A4r(b o:Nat):¬E0.mt b o:=by
 rintro(h|⟨i,sz,h⟩|⟨t,l,c,sz,h,_⟩)
 ·exact h
 ·simp[E0]at h
 ·simp[E0]at h
theorem A5d{α:Type}{l:List α}(h:l.length=4):∃a b c d,l=[a,b,c,d]:=by
 rcases l with _|⟨a,_|⟨b,_|⟨c,_|⟨d,_|⟨e,l⟩⟩⟩⟩⟩<;>simp at h;exact⟨a,b,c,d,rfl⟩
def RelL(w:World)(cs:List Value)(l:An):Prop:=cs.length=l.length∧∀(j:Nat)(v:Value)(x:AV),cs[j]?=some v→l[j]?=some x→Rel E0 w v x
theorem RelL.one{w:World}{v:Value}{x:AV}(h:Rel E0 w v x):RelL w [v] [x]:=⟨rfl,fun j v' x' h1 h2=>by
 cases j with
 |zero=>simp at h1 h2;subst h1;subst h2;exact h
 |succ j=>simp at h1⟩
theorem RelL.get1{w:World}{v:Value}{x:AV}(h:RelL w [v] [x]):Rel E0 w v x:=h.2 0 v x rfl rfl
theorem RelL.nil{w:World}:RelL w [] []:=⟨rfl,fun j v x h=>by simp at h⟩
theorem RelL.cons{w:World}{v:Value}{x:AV}{cs:List Value}{l:An}(h:Rel E0 w v x)(t:RelL w cs l):RelL w (v::cs) (x::l):=
 ⟨by simp[t.1],fun j v' x' h1 h2=>by
   cases j with
   |zero=>simp at h1 h2;subst h1;subst h2;exact h
   |succ j=>exact t.2 j v' x' (by simpa using h1) (by simpa using h2)⟩
theorem RelL.agg{w:World}{cs:Array Value}{l:An}(h:RelL w cs.toList l):Rel E0 w (.agg cs) (.agg l):=.agg cs l (by simpa using h.1) (fun j v x h1 h2=>h.2 j v x (by simpa using h1) h2)
theorem Ao1{α:Type}{Q:Nat→α→Prop}:∀n:Nat,(∀i,i<n→∃x,Q i x)→∃l:List α,l.length=n∧∀i x,l[i]?=some x→Q i x
 |0,_=>⟨[],rfl,fun i x h=>by simp at h⟩
 |n+1,h=>by
  obtain⟨l,hl,hq⟩:=Ao1 n (fun i hi=>h i (by omega));obtain⟨x,hx⟩:=h n (by omega);refine⟨l++[x],by simp[hl],fun i y hy=>?_⟩;rcases Ga i n with hi|hi
  ·rw[Dd (by omega)]at hy;exact hq i y hy
  ·rw[Gz (by omega)]at hy;have:i=n:=by
    have:=Aa hy;simp at this;omega
   subst this;simp[hl]at hy;subst hy;exact hx
section
variable {H:Type}{enc:TypeId×Value→H}{P:Program}{w:World}{sp:Nat→Bool}{held:Bool}
theorem Aae{a:Addr}{n:Nat}{cs:List Value}(h:w.cells? 0 a n=some cs):cs.length=n∧∀(j:Nat)(v:Value),cs[j]?=some v→w.cell? (a.add j)=some v:=by
 unfold World.cells? at h;rw[if_pos (Cb _)]at h;have key:∀(l:List Nat) (cs:List Value),(l.mapM fun i=>w.cell? (a.add i))=some cs→cs.length=l.length∧∀(j:Nat) (v:Value),cs[j]?=some v→∃k:Nat,l[j]?=some k∧w.cell? (a.add k)=some v:=by
  intro l
  induction l with
  |nil=>intro cs h;simp at h;subst h;exact⟨rfl,fun j v h=>by simp at h⟩
  |cons k l ih=>
   intro cs h;simp only[List.mapM_cons,Option.bind_eq_bind,Option.bind_eq_some_iff,Option.pure_def,Option.some.injEq]at h;obtain⟨v,hv,cs',hcs,rfl⟩:=h;obtain⟨h1,h2⟩:=ih cs' hcs;refine⟨by simp[h1],fun j u hu=>?_⟩;cases j with
   |zero=>simp at hu;subst hu;exact⟨k,rfl,hv⟩
   |succ j=>simpa using h2 j u (by simpa using hu)
 obtain⟨h1,h2⟩:=key _ _ h;refine⟨by simpa using h1,fun j v hv=>?_⟩;obtain⟨k,hk,hc⟩:=h2 j v hv;have:j<(List.range n).length:=Aa hk;simp at this;rw[Ab2 this]at hk;cases hk;exact hc
theorem Yq{b o n:Nat}:(Addr.mk b o none).add n=⟨b,o+n,none⟩:=by
 unfold Addr.add;split
 ·rename_i h;subst h;rfl
 ·rfl
theorem Wp{α:Type}{t e sz fuel:Nat}{cs:List Value}{x:DataW H×List MemPlace}(cells:α→An)(Q:α→Prop)(ht:P.underlying t=some (.slice e))(hc:P.cellsOf e=sz)(hsz:0<sz)(hcell:∀y,(cells y).length=sz)
 (hel:∀n,fuel=n+1→∀(cs:List Value)(x:DataW H×List MemPlace),DataW.trod enc P w 0 sp held n e cs=some x→∃y:α,Q y∧RelL w cs (cells y))(h:DataW.trod enc P w 0 sp held fuel t cs=some x) :
 ∃l:List α,(∀y,y∈l→Q y)∧l.length≤9223372036854775807∧RelL w cs [.sl (l.map cells) .no]:=by
 rcases DataW.trod_slice ht h with⟨rfl,_⟩|⟨a,len,cap,elems,rest,n,hn,rfl,_,_,hcap,hmax,hlen,hall,_,_⟩
 ·refine⟨[],(fun y hy=>by cases hy),by simp,RelL.one ?_⟩;exact .sl [] .no none 0 0 0 0 0 (fun _ _=>default) rfl (Cb _) (fun h=>absurd rfl h) (fun r hr=>by cases hr) (fun i j h=>by omega) (fun i j h=>by omega) (fun i j r x h=>by simp at h) trivial (Bt _)
 ·have hml:maxLen=9223372036854775807:=by decide
  have hel':∀i,i<len→∃y:α,Q y∧∃cs',w.cells? 0 (a.add (i*sz)) sz=some cs'∧RelL w cs' (cells y):=fun i hi=>by
   have h1:=hall i hi;obtain⟨z,hz⟩:=Ab elems (i:=i) (by omega);rw[hz,hc]at h1;obtain⟨cs',h2,h3⟩:=Option.bind_eq_some_iff.1 h1;obtain⟨y,hq,hr⟩:=hel n hn cs' z h3;exact⟨y,hq,cs',h2,hr⟩
  obtain⟨l,hll,hl⟩:=Ao1 len hel';have hQ:∀y,y∈l→Q y:=fun y hy=>by obtain⟨i,hi⟩:=B9 hy;exact(hl i y hi).1
  refine⟨l,hQ,by omega,RelL.one ?_⟩;have ha:len≠0→a=⟨a.block,a.off,none⟩:=fun h0=>by
   obtain⟨y,hy⟩:=Ab l (i:=0) (by omega);obtain⟨_,cs',h1,h2⟩:=hl 0 y hy;obtain⟨h3,h4⟩:=Aae h1;obtain⟨v,hv⟩:=Ab cs' (i:=0) (by omega);have h5:=h4 0 v hv;have h6:(a.add (0*sz)).add 0=a:=by simp[Addr.add]
   rw[h6]at h5;obtain⟨b,o,s⟩:=a;unfold World.cell? at h5;simp only at h5;split at h5
   ·split at h5
    ·cases h5
    ·rename_i hs;cases s with
     |none=>rfl
     |some s=>simp at hs
   ·cases h5
  have hcl:∀i j:Nat,i<len→j<sz→∃v,w.cell? ⟨a.block,a.off+i*sz+j,none⟩=some v:=fun i j hi hj=>by
   obtain⟨y,hy⟩:=Ab l (i:=i) (by omega);obtain⟨_,cs',h1,h2⟩:=hl i y hy;obtain⟨h3,h4⟩:=Aae h1;obtain⟨v,hv⟩:=Ab cs' (i:=j) (by omega);have h5:=h4 j v hv;rw[ha (by omega),Yq,Yq]at h5;exact⟨v,h5⟩
  refine .sl _ .no (some a) len cap a.block a.off sz (fun i j=>(w.cell? ⟨a.block,a.off+i*sz+j,none⟩).getD default) (by simp[hll]) (by unfold P1;omega) (fun h0=>congrArg some (ha h0)) (fun r hr=>?_) (fun i j _ _=>A4r _ _) (fun i j hi hj=>?_) (fun i j r z h1 h2=>?_) trivial hcap
  ·obtain⟨y,_,rfl⟩:=zzq50.1 hr;exact hcell y
  ·obtain⟨v,hv⟩:=hcl i j hi hj;rw[hv];rfl
  ·simp only[Hd,Option.map_eq_some_iff]at h1;obtain⟨y,hy,rfl⟩:=h1;obtain⟨_,cs',h3,h4⟩:=hl i y hy;have hi:i<len:=by have:=Aa hy;omega
   have hj:j<sz:=by have:=Aa h2;rw[hcell]at this;exact this
   obtain⟨h5,h6⟩:=Aae h3;obtain⟨v,hv⟩:=Ab cs' (i:=j) (by omega);have h7:=h6 j v hv;rw[ha (by omega),Yq,Yq]at h7;show Rel E0 w ((w.cell? ⟨a.block,a.off+i*sz+j,none⟩).getD default) z;rw[h7];exact h4.2 j v z hv h2
theorem Qo{t fuel:Nat}{k:IntKind}{cs:List Value}{x:DataW H×List MemPlace}(ht:P.underlying t=some (.int k))(h:DataW.trod enc P w 0 sp held fuel t cs=some x):∃n:Int,k.min≤n∧n≤k.max∧cs=[.int k n]:=by
 obtain⟨n,rfl,_,h2⟩:=DataW.trod_int ht h;simp only[Lit.wf,Du,Mz]at h2;exact⟨n,h2.1,h2.2,rfl⟩
theorem A37{t fuel:Nat}{cs:List Value}{x:DataW H×List MemPlace}(ht:P.underlying t=some .string)(h:DataW.trod enc P w 0 sp held fuel t cs=some x):∃s:Ad,s.length≤9223372036854775807∧cs=[.string ⟨⟨s⟩⟩]:=by
 obtain⟨s,rfl,_,h2⟩:=DataW.trod_string ht h;obtain⟨⟨s⟩⟩:=s
 exact⟨s,by have:maxLen=9223372036854775807:=by decide
            have h3:s.length≤maxLen:=h2;omega,rfl⟩
end
theorem Ax4{n:Int}(h0:IntKind.i64.min≤n)(h1:n≤IntKind.i64.max):-9223372036854775808≤n∧n≤9223372036854775807:=by
 have a:IntKind.i64.min=-9223372036854775808:=by decide
 have b:IntKind.i64.max=9223372036854775807:=by decide
 omega
section
variable {H:Type}{enc:TypeId×Value→H}{w:World}{sp:Nat→Bool}{held:Bool}
theorem A0k:∀(fuel:Nat)(cs:List Value)(x:DataW H×List MemPlace),DataW.trod enc prog w 0 sp held fuel 24 cs=some x→∃n:Nd,(PrI n∧LnI n)∧RelL w cs (Ag n):=by
 intro fuel
 induction fuel using Nat.strongRecOn with
 |ind fuel ih=>
  intro cs x h;obtain⟨xs,n1,rfl,_,hl,hxs,hf⟩:=DataW.trod_struct underlying24 h;have hl4:cs.length=4:=hl.trans (by kernel_rfl);have hx4:xs.length=4:=hxs;obtain⟨c0,c1,c2,c3,rfl⟩:=A5d hl4;obtain⟨x0,hx0⟩:=Ab xs (i:=0) (by omega);obtain⟨x1,hx1⟩:=Ab xs (i:=1) (by omega);obtain⟨x2,hx2⟩:=Ab xs (i:=2) (by omega);obtain⟨x3,hx3⟩:=Ab xs (i:=3) (by omega);have c3e:prog.cellsOf 3=1:=by kernel_rfl
  have c9e:prog.cellsOf 9=1:=by kernel_rfl
  have cse:prog.cellsOf 22=1:=by kernel_rfl
  have f0:DataW.trod enc prog w 0 sp held n1 3 (([c0,c1,c2,c3].drop 0).take (prog.cellsOf 3))=some x0:=(hf 0 _ rfl).trans hx0;have f1:DataW.trod enc prog w 0 sp held n1 9 (([c0,c1,c2,c3].drop 1).take (prog.cellsOf 9))=some x1:=(hf 1 _ rfl).trans hx1;have f2:DataW.trod enc prog w 0 sp held n1 3 (([c0,c1,c2,c3].drop 2).take (prog.cellsOf 3))=some x2:=(hf 2 _ rfl).trans hx2;have f3:DataW.trod enc prog w 0 sp held n1 22 (([c0,c1,c2,c3].drop 3).take (prog.cellsOf 22))=some x3:=(hf 3 _ rfl).trans hx3;rw[c3e]at f0 f2;rw[c9e]at f1;rw[cse]at f3;obtain⟨k,k0,k1,e0⟩:=Qo underlying3 f0;obtain⟨s,s0,e1⟩:=A37 underlying9 f1;obtain⟨m,m0,m1,e2⟩:=Qo underlying3 f2;obtain⟨l,hq,hll,e3⟩:=Wp Ag (fun n=>PrI n∧LnI n) underlying22 (show prog.cellsOf 24=4 by kernel_rfl) (by decide) (fun y=>rfl) (fun n2 hn2 cs' x' hx'=>ih n2 (by omega) cs' x' hx') f3;have e0':c0=.int .i64 k:=(List.cons.inj e0).1;have e1':c1=.string ⟨⟨s⟩⟩:=(List.cons.inj e1).1;have e2':c2=.int .i64 m:=(List.cons.inj e2).1;have e3':RelL w [c3] [.sl (l.map Ag) .no]:=e3;subst e0';subst e1';subst e2';obtain⟨m0,m1⟩:=Ax4 m0 m1;refine⟨.mk k s m l,⟨.mk k s m l m0 m1 fun x hx=>(hq x hx).1,.mk k s m l s0 hll fun x hx=>(hq x hx).2⟩,?_⟩;show RelL w _ [_,_,_,.sl (Av l) .no];rw[Ax];exact .cons (.val _) (.cons (.val _) (.cons (.val _) e3'))
end
end Go.V
namespace Go.V
open Go Go.Proofs Go.ChangeShapes Go.WideShapes Go.ChangeAt Go.RowKit Go.Proofs.Tryz
section
variable {H:Type}{enc:TypeId×Value→H}{P:Program}{w:World}{sp:Nat→Bool}{held:Bool}
theorem Awe{t e n fuel:Nat}{cs:List Value}{d:DataW H}{ps:List MemPlace}(ht:P.underlying t=some (.array n e))(h:DataW.trod enc P w 0 sp held fuel t cs=some (d,ps)) :
 ∃(xs:List (DataW H×List MemPlace)) (f:Nat),d=.agg (xs.map (·.1))∧cs.length=P.cellsOf t∧∀i,i<n→DataW.trod enc P w 0 sp held f e ((cs.drop (i*P.cellsOf e)).take (P.cellsOf e))=xs[i]?:=by
 cases fuel with
 |zero=>simp[DataW.trod]at h
 |succ f=>
  unfold DataW.trod at h;rw[ht]at h;split at h<;>simp_all;obtain⟨hl,xs,hp,hd,_⟩:=h;exact⟨xs,hd.symm,f,fun i hi=>mapM_some_get hp i i (by simp[hi])⟩
theorem Awf{t fuel:Nat}{ms:Array (String×TypeId)}{cs:List Value}{x:DataW H×List MemPlace}(ht:P.underlying t=some (.interface ms))(h:DataW.trod enc P w 0 sp held fuel t cs=some x):∃v,cs=[v]∧(v=.nilIface∨∃te pe,v=.iface te pe):=by
 cases fuel with
 |zero=>simp[DataW.trod]at h
 |succ f=>
  unfold DataW.trod at h;rw[ht]at h;split at h<;>simp_all
theorem Xd(hl:laidOutB P=true){W W':World}{sp':Nat→Bool}:∀{ts:List TypeId}{vs:List Value}{ds:List (DataW H)}{ps:List MemPlace},(∀t,t∈ts→P.readableRec t=true∧t<P.types.size) →
 DataW.TrodAll enc P W 0 (fun _=>true) true ts vs ds ps→(∀p∈ps,W.sameAt W' p)→(∀p∈ps,sp' p.block=true)→DataW.TrodAll enc P W' 0 sp' true ts vs ds ps
 |[],[],[],_,_,h,_,_=>h
 |t::ts,v::vs,d::ds,_,hr,⟨p,q,h1,h2,rfl⟩,hs,hb=>
  ⟨p,q,WideElems.Trod_stays hl (hr t (by simp)).1 (hr t (by simp)).2 h1 (fun x hx=>hs x (by simp[hx])) (fun x hx=>hb x (by simp[hx])),Xd hl (fun x hx=>hr x (by simp[hx])) h2 (fun x hx=>hs x (by simp[hx])) (fun x hx=>hb x (by simp[hx])),rfl⟩
 |[],_::_,_,_,_,h,_,_=>h.elim
 |[],[],_::_,_,_,h,_,_=>h.elim
 |_::_,[],_,_,_,h,_,_=>h.elim
 |_::_,_::_,[],_,_,h,_,_=>h.elim
theorem Ae6(hl:laidOutB P=true){W W':World}{sp':Nat→Bool}{n:String}{gs:List (DataW H)}{ps:List MemPlace}{g t:Nat}(hg:P.globalNamed n=some g)(ht:(P.globals[g]?).map (·.type)=some t)(hr:P.readableRec t=true)(hlt:t<P.types.size)
 (hb:Below W.heap.size W W')(h:DataW.TrodVars enc P W (fun _=>true) [n] gs ps)(hs:∀p∈ps,W.sameAt W' p)(hsp:∀p∈ps,sp' p.block=true):DataW.TrodVars enc P W' sp' [n] gs ps:=by
 obtain⟨g',t',cs,fuel,d,p,rfl,h1,h2,h3,h4,rfl⟩:=trodVars_one h;obtain rfl:=Option.some.inj (hg.symm.trans h1);obtain rfl:=Option.some.inj (ht.symm.trans h2);have h5:DataW.Trod enc P W 0 (fun _=>true) true t (.agg cs) d p:=⟨fuel,h4⟩
 obtain⟨fuel',h6⟩:=WideElems.Trod_stays (sp':=sp') hl hr hlt h5 (fun x hx=>hs x (by simp[hx])) (fun x hx=>hsp x (by simp[hx]));refine trodVars_mk1 hg ht ?_ h6;unfold World.var? at h3⊢;rw[hg]at h3⊢;simp only[Option.bind_some]at h3⊢;have hgl:g<W.heap.size:=by
  rcases Ga g W.heap.size with h'|h'
  ·exact h'
  ·simp[Array.getElem?_eq_none h']at h3
 rw[hb.block g hgl];exact h3
end
def laidL:List (String×DataW Unit):=[("math/bits.deBruijn32tab",YtojhghmilenfkaaGreatDoor.Rows.laid_math_bits_deBruijn32tab),("math/bits.deBruijn64tab",YtojhghmilenfkaaGreatDoor.Rows.laid_math_bits_deBruijn64tab),("internal/strconv.uint64pow10",YtojhghmilenfkaaGreatDoor.Rows.laid_internal_strconv_uint64pow10),
 ("strconv.ErrRange",YtojhghmilenfkaaGreatDoor.Rows.laid_strconv_ErrRange),("strconv.ErrSyntax",YtojhghmilenfkaaGreatDoor.Rows.laid_strconv_ErrSyntax),("loop.example/g00093/impl.condWords",YtojhghmilenfkaaGreatDoor.Rows.laid_loop_example_g00093_impl_condWords)
 ]
theorem Aq2{W:World}(h:laidMetH prog laidL W):laidMet prog laidL W:=by
 have e:(laidL.filter fun x=>x.2.handleName?.isSome)=[]:=by kernel_rfl
 unfold laidMetH at h;rw[e]at h;exact h
def condB:List Ad:=[[60],[60,61],[62],[62,61],[61,61],[33,61]]
theorem Amg:condG=condB.map fun b=>.val (.string ⟨⟨b⟩⟩):=rfl
theorem Aql:(YtojhghmilenfkaaGreatDoor.Rows.laid_loop_example_g00093_impl_condWords:DataW Unit)=.agg (condB.map fun b=>.lit (.string b)):=rfl
theorem At8{W:World}{n:String}{d:DataW Unit}{g:Nat}(hg:prog.globalNamed n=some g)(ht:(prog.globals[g]?).map (·.type)=some 340)(h:Lib.VarReads prog W n d):IfaceV W g:=by
 obtain⟨g',t',cs,fuel,p,h1,h2,h3,h4⟩:=h;obtain rfl:=Option.some.inj (hg.symm.trans h1);obtain rfl:=Option.some.inj (ht.symm.trans h2);obtain⟨v,h5,h6⟩:=Awf underlying340 h4;refine⟨v,?_,h6⟩;rw[World.var?_cell hg h3 0,←Ab6,h5];rfl
theorem A2a{W:World}(h:laidMetH prog laidL W):gOk W:=by
 have hm:=Aq2 h;constructor
 ·intro j x hx;obtain⟨g',t',cs,fuel,p,h1,h2,h3,h4⟩:=Lib.laidMet.reads hm (n := "loop.example/g00093/impl.condWords") (d:=YtojhghmilenfkaaGreatDoor.Rows.laid_loop_example_g00093_impl_condWords) (by unfold laidL;simp);have hg:prog.globalNamed "loop.example/g00093/impl.condWords" = some 1:=by kernel_rfl
  have ht:(prog.globals[1]?).map (·.type)=some 338:=by kernel_rfl
  obtain rfl:=Option.some.inj (hg.symm.trans h1);obtain rfl:=Option.some.inj (ht.symm.trans h2);obtain⟨xs,f,hd,hl,hall⟩:=Awe underlying338 h4;have c9e:prog.cellsOf 9=1:=by kernel_rfl
  have cae:prog.cellsOf 338=6:=by kernel_rfl
  rw[cae]at hl;rw[Aql]at hd;have hd':condB.map (fun b=>(DataW.lit (.string b):DataW Unit))=xs.map (·.1):=DataW.agg.inj hd;rw[Amg]at hx;simp only[Hd,Option.map_eq_some_iff]at hx;obtain⟨b,hb,rfl⟩:=hx;have hj:j<6:=Aa hb;have h5:=hall j hj;rw[c9e,Nat.mul_one]at h5;have h6:=congrArg (fun l=>l[j]?) hd';simp only[Hd,hb,K4]at h6;cases hxj:xs[j]? with
  |none=>rw[hxj]at h6;cases h6
  |some z=>
   rw[hxj]at h5 h6;obtain⟨s,h7,h8,_⟩:=DataW.trod_string underlying9 h5;have h9:DataW.lit (.string b)=z.1:=Option.some.inj h6;rw[h8]at h9;have h10:b=s.data.toList:=Lit.string.inj (DataW.lit.inj h9);obtain⟨v,hv⟩:=Ab cs.toList (i:=j) (by omega);have h11:cs.toList.drop j=v::cs.toList.drop (j+1):=Bp hv;rw[h11]at h7;have h12:v=.string s:=(List.cons.inj h7).1;refine⟨.string s,?_,?_⟩
   ·rw[World.var?_cell hg h3 j,←Ab6,hv,h12]
   ·rw[h10]
 ·obtain⟨g',t',cs,fuel,p,h1,h2,h3,h4⟩:=Lib.laidMet.reads hm (n := "internal/strconv.uint64pow10") (d:=YtojhghmilenfkaaGreatDoor.Rows.laid_internal_strconv_uint64pow10) (by unfold laidL;simp);have hg:prog.globalNamed "internal/strconv.uint64pow10" = some 2:=by kernel_rfl
  have ht:(prog.globals[2]?).map (·.type)=some 375:=by kernel_rfl
  obtain rfl:=Option.some.inj (hg.symm.trans h1);obtain rfl:=Option.some.inj (ht.symm.trans h2);have hd:(YtojhghmilenfkaaGreatDoor.Rows.laid_internal_strconv_uint64pow10:DataW Unit)=Lib.tabData .u64 Lib.pow10Tab:=by kernel_rfl
  rw[hd]at h4;have h5:=Lib.cells_of_tab underlying375 underlying361 (by kernel_rfl) (by kernel_rfl) h4;unfold World.var? at h3;rw[hg]at h3;simp only[Option.bind_some]at h3;split at h3
  ·rename_i c e z hh;refine⟨e,z,?_⟩;rw[hh];cases h3;rw[←Array.toArray_toList (xs:=cs),h5]
  ·cases h3
 ·exact At8 (by kernel_rfl) (by kernel_rfl) (Lib.laidMet.reads hm (n := "strconv.ErrSyntax") (d:=YtojhghmilenfkaaGreatDoor.Rows.laid_strconv_ErrSyntax) (by unfold laidL;simp))
 ·exact At8 (by kernel_rfl) (by kernel_rfl) (Lib.laidMet.reads hm (n := "strconv.ErrRange") (d:=YtojhghmilenfkaaGreatDoor.Rows.laid_strconv_ErrRange) (by unfold laidL;simp))
theorem A46{W:World}(h:W.ShapedOpen prog):gK≤W.heap.size:=by
 obtain⟨o,_,h1,_⟩:=h.2 prog.globals.size (Bt _) (A6 (by kernel_rfl));have:=Wj h1;unfold gK;omega
theorem A6l{W:World}(h1:gK≤W.heap.size)(h2:gOk W):Inv X E0 ⟨[],[]⟩ W where
 nb:=rfl
 nt:=rfl
 np i h:=by simp[E0]at h
 box i b sz rows h:=by simp[E0]at h
 tok t l b c sz h:=by simp[E0]at h
 bb i j b s s' h:=by simp[E0]at h
 bt i t b s l c sz h:=by simp[E0]at h
 tt i j b l c s l' c' s' h:=by simp[E0]at h
 frlt b o h:=h.elim
 lo b h:=by
  rcases h with⟨i,sz,h⟩|⟨t,l,c,sz,h⟩
  ·simp[E0]at h
  ·simp[E0]at h
 frlo b o h:=h.elim
 sz:=h1
 glob:=h2
theorem Az2{f:FuncId}{xs:An}{W:World}{args:Array Value}(hP:Pure X f xs (vb true))(hs:W.ShapedOpen prog)(hL:laidMetH prog laidL W)(hA:RelL W args.toList xs) :
 Calls prog f args W fun e W'=>e=.returned (.bool true)∧Below W.heap.size W W':=by
 refine(hP.2 E0 W args rfl (A6l (A46 hs) (A2a hL)) (by simpa using hA.1) (fun j v x h1 h2=>hA.2 j v x (by simpa using h1) h2)).mono fun e W' he=>?_;obtain⟨E',S',h1,h2,h3⟩:=he;have ho:∀b,¬E0.own b:=fun b h=>by
  rcases h with⟨i,sz,h⟩|⟨t,l,c,sz,h⟩
  ·simp[E0]at h
  ·simp[E0]at h
 refine⟨?_,⟨h2.os,h2.tape,h2.output,h2.size,fun k hk=>h2.block k hk (ho k)⟩⟩;cases e with
 |returned v=>
  obtain⟨r,h4,h5,_⟩:=h3;injection h5 with h5;subst h5;cases h4;rfl
 |panicked ch=>exact absurd h3.1 (by intro h;cases h)
 |outgrown=>exact h3.elim
set_option maxRecDepth 100000
theorem Arn{H:Type}{enc:TypeId×Value→H}{P:Program}{fn:Func}{s:ChangeSpec}{apart fresh handsOn:Bool}{W W':World}{args:Array Value}{ds gs:List (DataW H)}{before:List MemPlace}{n:String}{g t:Nat}
 (hl:laidOutB P=true)(hp:∀t,t∈fn.params.toList→P.readableRec t=true∧t<P.types.size)(hn:s.vars=[n])(hg:P.globalNamed n=some g)(ht:(P.globals[g]?).map (·.type)=some t)(hr:P.readableRec t=true)(hlt:t<P.types.size)
 (hW:DataW.Whole enc P fn.params.toList s.vars apart W args.toList ds gs before)(hb:Below W.heap.size W W')
 (hargs:∀g1,gs=[g1]→s.fn H (ds++gs)={ results:=[.lit (.bool true)],args:=ds,vars:=gs }){tb:Nat}(hres:fn.resultTypes=#[tb])(htb:P.underlying tb=some .bool) :
 s.post enc P fn apart fresh handsOn false W args (.bool true) W':=by
 have hW':=hW;obtain⟨p,q,hA,hV,rfl,hfz,hnd⟩:=hW;have hlt':∀x,x∈p++q→x.block<W.heap.size:=fun x hx=>hW'.lt x hx;rw[hn]at hV;have hgs:∃g1,gs=[g1]:=by
  obtain⟨_,_,_,_,d,_,h,_⟩:=trodVars_one hV;exact⟨d,h⟩
 obtain⟨g1,hg1⟩:=hgs;have e:=hargs g1 hg1;refine⟨ds,gs,p++q,[],p,q,hW',?_,?_,?_,hb.frame _,fun h=>by cases h⟩
 ·rw[e,hres];exact trodAll_cons_mk (shut_bool htb _) trodAll_mk0
 ·rw[e];exact Xd hl hp hA (fun x hx=>hb.same (hlt' x (by simp[hx]))) (fun x hx=>by simpa using hlt' x (by simp[hx]))
 ·rw[e,hn];exact Ae6 hl hg ht hr hlt hb hV (fun x hx=>hb.same (hlt' x (by simp[hx]))) (fun x hx=>by simpa using hlt' x (by simp[hx]))
theorem Ayu{H:Type}{enc:TypeId×Value→H}{W:World}{base:Nat}{v:Value}{d:DataW H}{ps:List MemPlace}(hv:Value.okWide prog W .any base 24 v)(h:DataW.Trod enc prog W 0 (fun _=>true) true 24 v d ps) :
 ∃n:Nd,PrI n∧LnI n∧Rel E0 W v (nd n):=by
 unfold Value.okWide at hv;rw[underlying24]at hv;obtain⟨cs,rfl,_⟩:=hv;obtain⟨fuel,h⟩:=h;obtain⟨n,⟨h1,h2⟩,h3⟩:=A0k fuel _ _ h;exact⟨n,h1,h2,h3.agg⟩
noncomputable def low:Nat:=(World.holding prog default ⟨#[],#[],[]⟩).heap.size
def A6p:DataW Unit→Value
 |.lit (.int k n)=>.int k n
 |.lit (.string s)=>.string ⟨⟨s⟩⟩
 |_=>.nilIface
def Axh:DataW Unit→Array Value
 |.agg l=>(l.map A6p).toArray
 |_=>#[]
def A1a:DataW Unit→Value
 |.iface _ (.ptr (.agg [.lit (.string s)]))=>.string ⟨⟨s⟩⟩
 |_=>.nilIface
def Arq(cs:Array Value):Obj→Obj
 |.cells _ t frozen=>.cells cs t frozen
 |o=>o
noncomputable def Aud(os:Os):World:=
 let w0:=World.holding prog os ⟨#[.cells #[A1a YtojhghmilenfkaaGreatDoor.Rows.laid_strconv_ErrSyntax] 400,.cells #[A1a YtojhghmilenfkaaGreatDoor.Rows.laid_strconv_ErrRange] 400],#[],[]⟩
 let h0:=(((((w0.heap.modify 1 (Arq (Axh YtojhghmilenfkaaGreatDoor.Rows.laid_loop_example_g00093_impl_condWords))).modify 6 (Arq #[.iface 398 (.pointer (some ⟨low,0,none⟩))])).modify 7 (Arq #[.iface 398 (.pointer (some ⟨low+1,0,none⟩))])).modify
  2 (Arq (Axh YtojhghmilenfkaaGreatDoor.Rows.laid_internal_strconv_uint64pow10))).modify 4 (Arq (Axh YtojhghmilenfkaaGreatDoor.Rows.laid_math_bits_deBruijn32tab))).modify 5 (Arq (Axh YtojhghmilenfkaaGreatDoor.Rows.laid_math_bits_deBruijn64tab))
 { w0 with heap:=h0 }
abbrev Ayt:Value:=.agg #[.int .i64 0,.string ⟨#[]⟩,.int .i64 0,.slice none 0 0]
theorem A6s:ownKnob prog.godebug=none:=by kernel_rfl
theorem Auc:laidOutB prog=true:=by kernel_rfl
theorem Axm:prog.globalNamed "loop.example/g00093/impl.condWords" = some 1:=by kernel_rfl
theorem A15:(prog.globals[1]?).map (·.type)=some 338:=by kernel_rfl
theorem A14:prog.readableRec 338=true:=by kernel_rfl
theorem A13:338<prog.types.size:=A6 (by kernel_rfl)
end Go.V
namespace Go.V
open Go Go.Proofs Go.Proofs.Tryz
def cpR{α:Type}(f:α→An)(z:An)(l:List α)(i:Nat):A7:=(l.take i).map f++List.replicate (l.length-i) z
theorem Yt{α:Type}(f:α→An)(z:An){l:List α}{i:Nat}(h:i<l.length):(cpR f z l i)[i]?=some z:=by
 have:((l.take i).map f).length=i:=by simp;omega
 rw[cpR,Gz (by omega),this,Iw,Aln,if_pos (by omega)]
theorem Yv{α:Type}(f:α→An)(z:An){l:List α}{i:Nat}{x:α}(h:l[i]?=some x):(cpR f z l i).set i (f x)=cpR f z l (i+1):=by
 have hi:=Aa h;obtain⟨c,hc⟩:∃c,l.length-i=c+1:=⟨l.length-i-1,by omega⟩
 have hc2:l.length-(i+1)=c:=by omega
 rw[cpR,cpR,hc,hc2,Hq,h,Aha,Jp,Awk];have:((l.take i).map f).length=i:=by simp;omega
 rw[Jb _ _ (by omega),this,Iw,List.set_cons_zero,Gv];rfl
theorem Ys{α:Type}(f:α→An)(z:An)(l:List α):cpR f z l l.length=l.map f:=by simp[cpR]
theorem Yu{α:Type}(f:α→An)(z:An)(l:List α):cpR f z l 0=List.replicate (l.map f).length z:=by simp[cpR]
theorem Alq{f:FuncId}{fn:Func}{F:Cw}{bx:B3}{b n:Nat}{rows:A7}{k:List Item}(hf:X.P.funcs[f]?=some fn)(hb:bx[b]?=some rows)(hn:rows.length=n)(hl:n≤1000000000) [hok:OKR 0 0 rows]
 (h:Oc X F ⟨bx,[]⟩ fn.results.toList=some [.bsl b n]:=by rfl):AK X ⟨f,fn,0,0⟩ (.code .ret::k) F ⟨bx,[]⟩ fun e S'=>e=.ret (.sl rows .no)∧S'=⟨[],[]⟩:=by
 subst hn;refine F3 (B:=⟨f,fn,0,0⟩) hf h 0 (Bt _) (r:=.sl rows .no) ?_ (fun rows hr=>by simp at hr) ⟨rfl,rfl⟩;refine .bsl b rows.length rows rows (Cb _) hb (Bt _) (by unfold P1;omega) rfl (fun i r r' h1 h2=>?_) (fun i j r r' x y h1 h2 h3 h4=>?_)
 ·rw[h1]at h2;cases h2;rfl
 ·rw[h1]at h2;cases h2;rw[h3]at h4;cases h4;exact .same x (hok.ok r (Bn h1) x (Bn h3))
theorem Dl{α:Type}{f:α→An}{l:List α}{i:Nat}{x:α}(h:l[i]?=some x):(l.map f)[i]?=some (f x):=by simp[h]
abbrev Lq(n:Int):An:=[vi n]
instance{n m i:Nat}{l:List Int}:OKR n m (cpR Lq [vi 0] l i):=⟨fun r hr x hx=>by
 rcases zzq26.1 hr with h|h
 ·exact(inferInstance:OKR n m (Fh (l.take i))).ok r h x hx
 ·rw[Z3 h]at hx;simp at hx;subst hx;exact .val _⟩
theorem Ala(l:List (Int))(hl:l.length≤1000000000)  : Pure X 20 [.sl (Fh l) .no] (.sl (Fh l) .no):=by
 have hlen:(Fh l).length=l.length:=by simp[Fh]
 refine Pure.run func20 ?_;refine Bs (Jz (n:=(Fh l).length) (b:=0) (by rw[hlen];exact hl) rfl rfl rfl rfl rfl rfl rfl rfl rfl rfl) ?_;refine Ar (ι:=Nat) 1 0 (fun i=>i≤l.length) (fun i=>[(4,vi i),(3,.bsl 0 l.length),(0,.sl (Fh l) .no)]) (fun i=>⟨[cpR Lq [vi 0] l i],[]⟩) (fun i=>l.length-i) ?_ 0 (Cb _)
  ⟨rfl,by rw[←hlen];rfl,rfl,trivial⟩ (congrArg (fun b=>St.mk [b] []) (Yu Lq [vi 0] l).symm)
 intro i hi IH;refine Cp (fun h=>?_) (fun h=>?_)
 ·have hlt:i<l.length:=by have:=A6 h;rw[hlen]at this;omega
  obtain⟨x,hx⟩:=Ab l hlt;have hr:=Yt Lq [vi 0] hlt;refine Bv i (by omega) (Dl (f:=Lq) hx) ?_
  skip
  refine R4 i hlt hr ?_;refine Xk hr ?_;refine IH (i+1) hlt (by omega) _ _ ⟨vsx (by omega),rfl,rfl,trivial⟩ ?_ rfl rfl;exact congrArg (fun b=>St.mk [b] []) (Yv Lq [vi 0] hx)
 ·have:i=l.length:=by have:=Bd h;rw[hlen]at this;omega
  subst this;refine Alq func20 (b:=0) ?_ hlen hl;show some (cpR Lq [vi 0] l l.length)=_;rw[Ys];rfl
theorem A09(l:List (Int))(hl:l.length≤1000000000)  : Pure X 23 [.sl (Fh l) .no,.sl (Fh l) .no] (vb true):=by
 have hlen:(Fh l).length=l.length:=by simp[Fh]
 refine Pure.run func23 ?_;refine Ah ?_ (ht:=by simp);refine Ar (ι:=Nat) 0 0 (fun i=>i≤l.length) (fun i=>[(5,vi i),(0,.sl (Fh l) .no),(1,.sl (Fh l) .no)]) (fun i=>⟨[],[]⟩) (fun i=>l.length-i) ?_ 0 (Cb _)
  ⟨rfl,rfl,rfl,trivial⟩
 intro i hi IH;refine Cp (fun h=>?_) (fun h=>?_)
 ·have hlt:i<l.length:=by have:=A6 h;rw[hlen]at this;omega
  obtain⟨x,hx⟩:=Ab l hlt;refine Eo 0 ?_;refine Dk i (by omega) (Dl (f:=Lq) hx) ?_;refine Dk i (by omega) (Dl (f:=Lq) hx) ?_
  skip
  refine Bu ?_;refine Ah ?_ (ht:=by simp);exact IH (i+1) hlt (by omega) _ _ ⟨vsx (by omega),rfl,rfl,trivial⟩ rfl rfl rfl
 ·exact Ao func23 rfl
theorem A55(rows:A7) [h:OKR 0 0 rows](left:Int)(h0:0≤left)(h1:left≤1048576)(hl:rows.length≤9223372036854775807):Pure X 72 [.sl rows .no,vi left] (vi (N2 rows.length left)):=by
 have hw:IntKind.i64.wrap (left-rows.length)=left-rows.length:=Ac (by omega) (by omega);have e0:N2 rows.length left=if left-rows.length<0 then -1 else left-rows.length:=by unfold N2;split<;>split<;>omega
 rw[e0,←hw];refine Pure.run func72 ?_;refine Ai (fun g=>?_) (fun g=>?_)
 ·refine Ao func72 ?_;rw[if_pos (A6 g)]
 ·refine Ao func72 ?_;rw[if_neg (Bd g)]
def Mv(x:Int):Bool:=A8 x (-1000000) 1000000
theorem Apg(x:Int):Pure X 121 [vi x] (vb (Mv x)):=by
 refine Pure.run func121 ?_;refine Aj (Gg x (-1000000) 1000000) ?_;exact Ao func121 rfl
structure Cf where
 pt:Int
 vars:List Int
 cells:List (List (Bool×Int))
 used:Int
 steps:Int
 trap:Int
 edge:Int
 acc:Int
abbrev Hc(c:Bool×Int):An:=[vb c.1,vi c.2]
def G5(l:List (Bool×Int)):A7:=l.map Hc
abbrev Oa(l:List (Bool×Int)):An:=[.sl (G5 l) .no]
def H9(l:List (List (Bool×Int))):A7:=l.map Oa
abbrev G3(c:Cf):An:=[vi c.pt,.sl (Fh c.vars) .no,.sl (H9 c.cells) .no,vi c.used,vi c.steps,vi c.trap,vi c.edge,vi c.acc]
abbrev cf(c:Cf):AV:=.agg (G3 c)
instance{n m:Nat}{l:List (Bool×Int)}:OKR n m (G5 l):=⟨fun r hr x hx=>by
 obtain⟨e,_,rfl⟩:=zzq50.1 hr;simp at hx;rcases hx with rfl|rfl<;>exact .val _⟩
instance{n m:Nat}{l:List (List (Bool×Int))}:OKR n m (H9 l):=⟨fun r hr x hx=>by
 obtain⟨e,_,rfl⟩:=zzq50.1 hr;simp at hx;subst hx;exact(inferInstance:OK n m (.sl (G5 e) .no)).ok⟩
theorem Gs(l:List (Bool×Int)):(G5 l).length=l.length:=by simp[G5]
theorem Mi(l:List (List (Bool×Int))):(H9 l).length=l.length:=by simp[H9]
instance{n m i:Nat}{l:List (Bool×Int)}:OKR n m (cpR Hc [vb false,vi 0] l i):=⟨fun r hr x hx=>by
 rcases zzq26.1 hr with h|h
 ·exact(inferInstance:OKR n m (G5 (l.take i))).ok r h x hx
 ·rw[Z3 h]at hx;simp at hx;rcases hx with rfl|rfl<;>exact .val _⟩
instance{n m i:Nat}{l:List (List (Bool×Int))}:OKR n m (cpR Oa [.sl [] .tight] l i):=⟨fun r hr x hx=>by
 rcases zzq26.1 hr with h|h
 ·exact(inferInstance:OKR n m (H9 (l.take i))).ok r h x hx
 ·rw[Z3 h]at hx;simp at hx;subst hx;exact(inferInstance:OK n m (.sl [] .tight)).ok⟩
theorem Ak9(c:Bool×Int):Pure X 183 [.agg (Hc c)] (.agg (Hc c)):=by
 refine Pure.run func183 ?_;exact Ao func183 rfl
theorem A57(l:List (Bool×Int))(hl:l.length≤1000000000)  : Pure X 126 [.sl (G5 l) .no] (.sl (G5 l) .no):=by
 have hlen:(G5 l).length=l.length:=by simp[G5]
 refine Pure.run func126 ?_;refine Bs (Jz (n:=(G5 l).length) (b:=0) (by rw[hlen];exact hl) rfl rfl rfl rfl rfl rfl rfl rfl rfl rfl) ?_;refine Ar (ι:=Nat) 1 0 (fun i=>i≤l.length) (fun i=>[(4,vi i),(3,.bsl 0 l.length),(0,.sl (G5 l) .no)]) (fun i=>⟨[cpR Hc [vb false,vi 0] l i],[]⟩) (fun i=>l.length-i) ?_ 0 (Cb _)
  ⟨rfl,by rw[←hlen];rfl,rfl,trivial⟩ (congrArg (fun b=>St.mk [b] []) (Yu Hc [vb false,vi 0] l).symm)
 intro i hi IH;refine Cp (fun h=>?_) (fun h=>?_)
 ·have hlt:i<l.length:=by have:=A6 h;rw[hlen]at this;omega
  obtain⟨x,hx⟩:=Ab l hlt;have hr:=Yt Hc [vb false,vi 0] hlt;refine Bv i (by omega) (Dl (f:=Hc) hx) ?_;refine Aj (Ak9 x) ?_;refine R4 i hlt hr ?_;refine Xk hr ?_;refine IH (i+1) hlt (by omega) _ _ ⟨vsx (by omega),rfl,rfl,trivial⟩ ?_ rfl rfl;exact congrArg (fun b=>St.mk [b] []) (Yv Hc [vb false,vi 0] hx)
 ·have:i=l.length:=by have:=Bd h;rw[hlen]at this;omega
  subst this;refine Alq func126 (b:=0) ?_ hlen hl;show some (cpR Hc [vb false,vi 0] l l.length)=_;rw[Ys];rfl
theorem A33(l:List (List (Bool×Int)))(hl:l.length≤1000000000)(h1:∀x,x∈l→x.length≤1000000000):Pure X 77 [.sl (H9 l) .no] (.sl (H9 l) .no):=by
 have hlen:(H9 l).length=l.length:=by simp[H9]
 refine Pure.run func77 ?_;refine Bs (Jz (n:=(H9 l).length) (b:=0) (by rw[hlen];exact hl) rfl rfl rfl rfl rfl rfl rfl rfl rfl rfl) ?_;refine Ar (ι:=Nat) 1 0 (fun i=>i≤l.length) (fun i=>[(4,vi i),(3,.bsl 0 l.length),(0,.sl (H9 l) .no)]) (fun i=>⟨[cpR Oa [.sl [] .tight] l i],[]⟩) (fun i=>l.length-i) ?_ 0 (Cb _)
  ⟨rfl,by rw[←hlen];rfl,rfl,trivial⟩ (congrArg (fun b=>St.mk [b] []) (Yu Oa [.sl [] .tight] l).symm)
 intro i hi IH;refine Cp (fun h=>?_) (fun h=>?_)
 ·have hlt:i<l.length:=by have:=A6 h;rw[hlen]at this;omega
  obtain⟨x,hx⟩:=Ab l hlt;have hr:=Yt Oa [.sl [] .tight] hlt;refine Bv i (by omega) (Dl (f:=Oa) hx) ?_;refine Aj (A57 x (h1 x (Bn hx))) ?_;refine R4 i hlt hr ?_;refine Xk hr ?_;refine IH (i+1) hlt (by omega) _ _ ⟨vsx (by omega),rfl,rfl,trivial⟩ ?_ rfl rfl;exact congrArg (fun b=>St.mk [b] []) (Yv Oa [.sl [] .tight] hx)
 ·have:i=l.length:=by have:=Bd h;rw[hlen]at this;omega
  subst this;refine Alq func77 (b:=0) ?_ hlen hl;show some (cpR Oa [.sl [] .tight] l l.length)=_;rw[Ys];rfl
theorem Av7(c:Bool×Int):Pure X 169 [.agg (Hc c),.agg (Hc c)] (vb true):=by
 refine Pure.run func169 ?_;refine Ah ?_ (ht:=by simp);refine Ah ?_ (ht:=by simp);exact Ao func169 rfl
theorem A52(l:List (Bool×Int))(hl:l.length≤1000000000)  : Pure X 110 [.sl (G5 l) .no,.sl (G5 l) .no] (vb true):=by
 have hlen:(G5 l).length=l.length:=by simp[G5]
 refine Pure.run func110 ?_;refine Ah ?_ (ht:=by simp);refine Ar (ι:=Nat) 0 0 (fun i=>i≤l.length) (fun i=>[(5,vi i),(0,.sl (G5 l) .no),(1,.sl (G5 l) .no)]) (fun i=>⟨[],[]⟩) (fun i=>l.length-i) ?_ 0 (Cb _)
  ⟨rfl,rfl,rfl,trivial⟩
 intro i hi IH;refine Cp (fun h=>?_) (fun h=>?_)
 ·have hlt:i<l.length:=by have:=A6 h;rw[hlen]at this;omega
  obtain⟨x,hx⟩:=Ab l hlt;refine Eo 0 ?_;refine Dk i (by omega) (Dl (f:=Hc) hx) ?_;refine Dk i (by omega) (Dl (f:=Hc) hx) ?_;refine B2 (Av7 x) ?_;refine Bu ?_;refine Ah ?_ (ht:=by simp);exact IH (i+1) hlt (by omega) _ _ ⟨vsx (by omega),rfl,rfl,trivial⟩ rfl rfl rfl
 ·exact Ao func110 rfl
theorem A3z(l:List (List (Bool×Int)))(hl:l.length≤1000000000)(h1:∀x,x∈l→x.length≤1000000000):Pure X 64 [.sl (H9 l) .no,.sl (H9 l) .no] (vb true):=by
 have hlen:(H9 l).length=l.length:=by simp[H9]
 refine Pure.run func64 ?_;refine Ah ?_ (ht:=by simp);refine Ar (ι:=Nat) 0 0 (fun i=>i≤l.length) (fun i=>[(5,vi i),(0,.sl (H9 l) .no),(1,.sl (H9 l) .no)]) (fun i=>⟨[],[]⟩) (fun i=>l.length-i) ?_ 0 (Cb _)
  ⟨rfl,rfl,rfl,trivial⟩
 intro i hi IH;refine Cp (fun h=>?_) (fun h=>?_)
 ·have hlt:i<l.length:=by have:=A6 h;rw[hlen]at this;omega
  obtain⟨x,hx⟩:=Ab l hlt;refine Eo 0 ?_;refine Dk i (by omega) (Dl (f:=Oa) hx) ?_;refine Dk i (by omega) (Dl (f:=Oa) hx) ?_;refine B2 (A52 x (h1 x (Bn hx))) ?_;refine Bu ?_;refine Ah ?_ (ht:=by simp);exact IH (i+1) hlt (by omega) _ _ ⟨vsx (by omega),rfl,rfl,trivial⟩ rfl rfl rfl
 ·exact Ao func64 rfl
theorem A54(rows:A7) [h:OKR 0 0 rows](left:Int)(h0:0≤left)(h1:left≤1048576)(hl:rows.length≤9223372036854775807):Pure X 119 [.sl rows .no,vi left] (vi (N2 rows.length left)):=by
 have hw:IntKind.i64.wrap (left-rows.length)=left-rows.length:=Ac (by omega) (by omega);have e0:N2 rows.length left=if left-rows.length<0 then -1 else left-rows.length:=by unfold N2;split<;>split<;>omega
 rw[e0,←hw];refine Pure.run func119 ?_;refine Ai (fun g=>?_) (fun g=>?_)
 ·refine Ao func119 ?_;rw[if_pos (A6 g)]
 ·refine Ao func119 ?_;rw[if_neg (Bd g)]
def swC:List (List (Bool×Int))→Nat
 |[]=>0
 |x::l=>x.length+swC l
theorem A31(l:List (List (Bool×Int)))(left:Int)(h0:0≤left)(h1:left≤1048576)(hl:l.length≤9223372036854775807)(hx:∀x,x∈l→x.length≤9223372036854775807) :
 Pure X 73 [.sl (H9 l) .no,vi left] (vi (N2 (l.length+swC l) left)):=by
 have hlen:(H9 l).length=l.length:=by simp[H9]
 have hw:IntKind.i64.wrap (left-(H9 l).length)=left-l.length:=by rw[hlen];exact Ac (by omega) (by omega)
 refine Pure.run func73 ?_;refine Ai (fun g=>?_) (fun g=>?_)
 ·have g':=A6 g;rw[hw]at g';refine Ao func73 ?_;rw[Aa9 (by omega)]
 have g':=Bd g;rw[hw]at g';have e0:N2 (l.length+swC l) left=N2 (swC l) (IntKind.i64.wrap (left-(H9 l).length)):=by rw[hw,Wt (by omega)]
 rw[e0];have hb:0≤IntKind.i64.wrap (left-(H9 l).length)∧IntKind.i64.wrap (left-(H9 l).length)≤1048576:=by rw[hw];omega
 generalize IntKind.i64.wrap (left-(H9 l).length)=lf0 at hb;refine Ar (ι:=Nat×Int) 0 0 (fun i=>i.1≤l.length∧0≤i.2∧i.2≤1048576∧N2 (swC l) lf0=N2 (swC (l.drop i.1)) i.2) (fun i=>[(5,vi i.1),(1,vi i.2),(0,.sl (H9 l) .no)]) (fun _=>⟨[],[]⟩) (fun i=>l.length-i.1) ?_ (0,lf0) ⟨Cb _,hb.1,hb.2,rfl⟩
  ⟨rfl,rfl,rfl,trivial⟩
 rintro⟨i,lf⟩ ⟨hi,hp0,hp1,hT⟩ IH;simp only at hi hp0 hp1 hT IH⊢;refine Cp (fun h=>?_) (fun h=>?_)
 ·have hlt:i<l.length:=by have:=A6 h;rw[hlen]at this;omega
  obtain⟨x,hx1⟩:=Ab l hlt;rw[Bp hx1]at hT;simp only[swC]at hT;have hs:=A54 (G5 x) lf hp0 hp1 (by rw[Gs];exact hx x (Bn hx1));rw[Gs]at hs;refine Bv i (by omega) (Dl (f:=Oa) hx1) ?_;refine Aj hs ?_;refine Ai (fun g2=>?_) (fun g2=>?_)
  ·have g2':=Zr hp0 (A6 g2);refine Ao func73 ?_;rw[hT,Aa9 g2'.2]
  ·have g2':=Zs (show 0≤N2 x.length lf by have:=Bd g2;omega);refine IH (i+1,N2 x.length lf) ⟨hlt,?_,?_,?_⟩ (by simp only;omega) _ _ ⟨Ci ((Ac (by omega) (by omega)).trans (by simp)),rfl,rfl,trivial⟩ rfl rfl rfl
   ·show 0≤N2 x.length lf;omega
   ·show N2 x.length lf≤_;omega
   ·rw[hT,Wt g2'.2,g2'.1]
 ·have:i=l.length:=by have:=Bd h;rw[hlen]at this;omega
  subst this;rw[Hr]at hT;refine Ao func73 ?_;rw[hT];unfold N2 swC;rw[if_pos (by simpa using hp0)];simp
def Gy(c:Bool×Int):Bool:=Mv c.2&&(c.1||(c.2==0))
def Ud(x:List (Bool×Int))(s:Int):Bool:=decide (x.length≤60)&&((!decide (s≥0)||((x.length:Int)==s))&&x.all Gy)
def Lt:List (List (Bool×Int))→List Int→Bool
 |x::l,s::ss=>Ud x s&&Lt l ss
 |_,_=>true
def Mx(es:List Eg)(c:Cf):Bool:=
 if c.trap=0 then(c.edge==0)&&(c.acc==0)else A8 c.edge 0 ((es.length:Int)-1)&&(((es.map Eg.f).getD c.edge.toNat (-1)==c.pt)&&A8 c.acc 0 500)
def Ade(pts nv na:Nat)(ss:List Int)(es:List Eg)(c:Cf):Bool:=
 A8 c.pt 0 ((pts:Int)-1)&&((c.vars.length==nv)&&((c.cells.length==na)&&(A8 c.used 0 100&&(A8 c.steps 0 5000&&(A8 c.trap 0 5&&(c.vars.all Mv&&(Lt c.cells ss&&Mx es c)))))))
theorem Avd(c:Bool×Int):Pure X 129 [.agg (Hc c)] (vb (Gy c)):=by
 obtain⟨w,m⟩:=c;refine Pure.run func129 ?_;cases w with
 |true=>
  refine Ep ?_;refine Aj (Acr m) ?_;refine Db (fun g=>?_) (fun g=>?_)
  ·have g':Mv m=true:=g;refine Ao func129 ?_;simp[Gy,g']
  ·have g':Mv m=false:=g;refine Gm ?_;refine Ao func129 ?_;simp[Gy,g']
 |false=>
  refine Gm ?_;refine Gm ?_;refine Ep ?_;refine Ao func129 ?_;by_cases h:m=0
  ·subst h;rfl
  ·simp[Gy,h]
def M7{α:Type}(p:α→Bool):Nat→List α→Int
 |_,[]=>-1
 |i,x::l=>if p x then i else M7 p (i+1) l
theorem U5{α:Type}(p:α→Bool):∀(l:List α)(i:Nat),decide (M7 p i l≥0)=l.any p
 |[],i=>by simp[M7]
 |x::l,i=>by
  have hb:(x::l).any p=(p x||l.any p):=rfl;rw[hb,←U5 p l (i+1)];by_cases h:p x=true
  ·simp[M7,h]
  ·have h':p x=false:=by simpa using h
   have:M7 p i (x::l)=M7 p (i+1) l:=by simp only[M7];rw[if_neg h]
   rw[this,h'];rfl
theorem A5r(c:Bool×Int):Pure X 128 [.agg (Hc c)] (vb (!Gy c)):=by
 refine Pure.run func128 ?_;refine Aj (Avd c) ?_;exact Ao func128 rfl
theorem A5s(x:Int):Pure X 131 [vi x] (vb (!Mv x)):=by
 refine Pure.run func131 ?_;refine Aj (Acr x) ?_;exact Ao func131 rfl
theorem A3c(l:List (Bool×Int))(hl:l.length≤1000000000)  : Pure X 184 [.sl (G5 l) .no,.fn 128 []] (vi (M7 (fun x=>!Gy x) 0 l)):=by
 have hlen:(G5 l).length=l.length:=by simp[G5]
 refine Pure.run func184 ?_;refine Ar (ι:=Nat) 0 0 (fun i=>i≤l.length∧M7 (fun x=>!Gy x) 0 l=M7 (fun x=>!Gy x) i (l.drop i)) (fun i=>[(8,vi i),(7,vi l.length),(0,.sl (G5 l) .no),(1,.fn 128 [])]) (fun _=>⟨[],[]⟩) (fun i=>l.length-i) ?_ 0 ⟨Cb _,rfl⟩
  ⟨rfl,by rw[←hlen];rfl,rfl,rfl,trivial⟩
 intro i hi IH;refine Cp (fun h=>?_) (fun h=>?_)
 ·have hlt:i<l.length:=by have:=A6 h;omega
  obtain⟨x,hx⟩:=Ab l hlt;have hd:M7 (fun x=>!Gy x) i (l.drop i)=if ((fun x=>!Gy x)) x then(i:Int)else M7 (fun x=>!Gy x) (i+1) (l.drop (i+1)):=by rw[Bp hx];rfl
  refine Bv i (by omega) (Dl (f:=Hc) hx) ?_;refine Aj (A5r x) ?_;refine Ai (fun h2=>?_) (fun h2=>?_)
  ·refine Az func184 ?_;have h3:((fun x=>!Gy x)) x=true:=h2;rw[hi.2,hd,h3];rfl
  ·have h3:((fun x=>!Gy x)) x=false:=h2;exact IH (i+1) ⟨hlt,by rw[hi.2,hd,h3];rfl⟩ (by omega) _ _ ⟨vsx (by omega),rfl,rfl,rfl,trivial⟩ rfl rfl rfl
 ·have:i=l.length:=by have:=Bd h;omega
  refine Az func184 ?_;rw[hi.2,this,Hr];rfl
theorem Azg(l:List (Int))(hl:l.length≤1000000000)  : Pure X 185 [.sl (Fh l) .no,.fn 131 []] (vi (M7 (fun x=>!Mv x) 0 l)):=by
 have hlen:(Fh l).length=l.length:=by simp[Fh]
 refine Pure.run func185 ?_;refine Ar (ι:=Nat) 0 0 (fun i=>i≤l.length∧M7 (fun x=>!Mv x) 0 l=M7 (fun x=>!Mv x) i (l.drop i)) (fun i=>[(8,vi i),(7,vi l.length),(0,.sl (Fh l) .no),(1,.fn 131 [])]) (fun _=>⟨[],[]⟩) (fun i=>l.length-i) ?_ 0 ⟨Cb _,rfl⟩
  ⟨rfl,by rw[←hlen];rfl,rfl,rfl,trivial⟩
 intro i hi IH;refine Cp (fun h=>?_) (fun h=>?_)
 ·have hlt:i<l.length:=by have:=A6 h;omega
  obtain⟨x,hx⟩:=Ab l hlt;have hd:M7 (fun x=>!Mv x) i (l.drop i)=if ((fun x=>!Mv x)) x then(i:Int)else M7 (fun x=>!Mv x) (i+1) (l.drop (i+1)):=by rw[Bp hx];rfl
  refine Bv i (by omega) (Dl (f:=Lq) hx) ?_;refine Aj (A5s x) ?_;refine Ai (fun h2=>?_) (fun h2=>?_)
  ·refine Az func185 ?_;have h3:((fun x=>!Mv x)) x=true:=h2;rw[hi.2,hd,h3];rfl
  ·have h3:((fun x=>!Mv x)) x=false:=h2;exact IH (i+1) ⟨hlt,by rw[hi.2,hd,h3];rfl⟩ (by omega) _ _ ⟨vsx (by omega),rfl,rfl,rfl,trivial⟩ rfl rfl rfl
 ·have:i=l.length:=by have:=Bd h;omega
  refine Az func185 ?_;rw[hi.2,this,Hr];rfl
theorem A3d(l:List (Int))(hl:l.length≤1000000000)(v:Int):Pure X 186 [.sl (Fh l) .no,vi v] (vi (M7 (fun x=>v==x) 0 l)):=by
 have hlen:(Fh l).length=l.length:=by simp[Fh]
 refine Pure.run func186 ?_;refine Ar (ι:=Nat) 0 0 (fun i=>i≤l.length∧M7 (fun x=>v==x) 0 l=M7 (fun x=>v==x) i (l.drop i)) (fun i=>[(8,vi i),(7,vi l.length),(0,.sl (Fh l) .no),(1,vi v)]) (fun _=>⟨[],[]⟩) (fun i=>l.length-i) ?_ 0 ⟨Cb _,rfl⟩
  ⟨rfl,by rw[←hlen];rfl,rfl,rfl,trivial⟩
 intro i hi IH;refine Cp (fun h=>?_) (fun h=>?_)
 ·have hlt:i<l.length:=by have:=A6 h;omega
  obtain⟨x,hx⟩:=Ab l hlt;have hd:M7 (fun x=>v==x) i (l.drop i)=if ((fun x=>v==x)) x then(i:Int)else M7 (fun x=>v==x) (i+1) (l.drop (i+1)):=by rw[Bp hx];rfl
  refine Bv i (by omega) (Dl (f:=Lq) hx) ?_
  skip
  refine Ai (fun h2=>?_) (fun h2=>?_)
  ·refine Az func186 ?_;have h3:((fun x=>v==x)) x=true:=h2;rw[hi.2,hd,h3];rfl
  ·have h3:((fun x=>v==x)) x=false:=h2;exact IH (i+1) ⟨hlt,by rw[hi.2,hd,h3];rfl⟩ (by omega) _ _ ⟨vsx (by omega),rfl,rfl,rfl,trivial⟩ rfl rfl rfl
 ·have:i=l.length:=by have:=Bd h;omega
  refine Az func186 ?_;rw[hi.2,this,Hr];rfl
theorem Avg(l:List (Bool×Int))(hl:l.length≤1000000000):Pure X 127 [.sl (G5 l) .no,.fn 128 []] (vb (!(l.all Gy))):=by
 have e:(!(l.all Gy))=l.any fun x=>!Gy x:=List.not_all_eq_any_not;rw[e];refine Pure.run func127 ?_;refine Aj (A3c l hl) ?_;refine Az func127 ?_;rw[←U5 _ l 0];rfl
theorem Azc(l:List Int)(hl:l.length≤1000000000):Pure X 130 [.sl (Fh l) .no,.fn 131 []] (vb (!(l.all Mv))):=by
 have e:(!(l.all Mv))=l.any fun x=>!Mv x:=List.not_all_eq_any_not;rw[e];refine Pure.run func130 ?_;refine Aj (Azg l hl) ?_;refine Az func130 ?_;rw[←U5 _ l 0];rfl
theorem A3b(l:List Int)(hl:l.length≤1000000000)(v:Int):Pure X 133 [.sl (Fh l) .no,vi v] (vb (l.any fun x=>v==x)):=by
 refine Pure.run func133 ?_;refine Aj (A3d l hl v) ?_;refine Az func133 ?_;rw[←U5 _ l 0];rfl
theorem Ayk(es:List Eg)(p:Nat)(v:Int):∀k:Nat,((P0 Eg.f p k es).any fun x=>v==(x:Int))=(decide ((k:Int)≤v)&&(decide (v<(k:Int)+es.length)&&((es.map Eg.f).getD (v-k).toNat (-1)==p))):=by
 induction es with
 |nil=>intro k;simp[P0]
 |cons e es ih=>
  intro k;have hrec:=ih (k+1);by_cases hv:v=k
  ·subst hv;have h0:((es.map Eg.f))=es.map Eg.f:=rfl;simp only[P0];by_cases he:e.f=p
   ·simp[he];omega
   ·rw[if_neg he,hrec];have a:decide (((k+1:Nat):Int)≤(k:Int))=false:=by simp;omega
    rw[a];simp[he]
  ·have hne:(v==(k:Int))=false:=by simpa using hv
   have hg:((e::es).map Eg.f).getD (v-k).toNat (-1)=if v<k then e.f else(es.map Eg.f).getD (v-(k+1:Nat)).toNat (-1):=by
    by_cases hlt:v<k
    ·rw[if_pos hlt,show (v-(k:Int)).toNat=0 by omega];rfl
    ·rw[if_neg hlt,show (v-(k:Int)).toNat=(v-((k+1:Nat):Int)).toNat+1 by omega];rfl
   have hstep:((P0 Eg.f p k (e::es)).any fun x=>v==(x:Int))=((P0 Eg.f p (k+1) es).any fun x=>v==(x:Int)):=by
    simp only[P0];split
    ·simp[hne]
    ·rfl
   rw[hstep,hrec,hg];by_cases hlt:v<k
   ·have a:decide ((k:Int)≤v)=false:=by simpa using hlt
    have b:decide (((k+1:Nat):Int)≤v)=false:=by simp;omega
    rw[a,b];rfl
   ·have a:decide ((k:Int)≤v)=true:=by simp;omega
    have b:decide (((k+1:Nat):Int)≤v)=true:=by simp;omega
    have c:decide (v<(k:Int)+((e::es).length:Nat))=decide (v<((k+1:Nat):Int)+(es.length:Nat)):=by
     simp only[N6];exact decide_eq_decide.2 (by omega)
    rw[a,b,if_neg hlt,c]
theorem Ayg(l:List Nat):T4 l=Fh (l.map fun(i:Nat)=>(i:Int)):=by simp[T4,Fh]
theorem Adv(f:Eg→Int)(l:List Eg){pts j:Nat}(h:j<pts):(Va f l pts)[j]?=some [.sl (T4 (Ki f l j)) .no]:=by simp[Va,h]
theorem A2r(es:List Eg)(p:Nat)(v:Int):((Ki Eg.f es p).map fun(i:Nat)=>(i:Int)).any (fun x=>v==x)=(A8 v 0 ((es.length:Int)-1)&&((es.map Eg.f).getD v.toNat (-1)==p)):=by
 rw[List.any_map];have:=Ayk es p v 0;unfold Ki;rw[show ((fun x=>v==x)∘fun(i:Nat)=>(i:Int))=fun(x:Nat)=>v==(x:Int)from rfl,this,←Bool.and_assoc];congr 1
 ·unfold A8;congr 1;exact decide_eq_decide.2 (by omega)
 ·simp
abbrev Add(n:Nd)(c:Cf):Bool:=Ade (D9 (A1 n)).pts (A3 n 31).length (A3 n 32).length (Fq n) (Ia (A1 n)) c
structure CfOk (c:Cf):Prop where
 vars:c.vars.length≤1000000000
 cells:c.cells.length≤1000000000
 rows:∀x,x∈c.cells→x.length≤1000000000
theorem Yb(n:Nd):(Fq n).length=(A3 n 32).length:=by rw[Ahu,Fq,Py,Py]
theorem Aaf{n:Nd}(hr:H4 n=true):(D9 (A1 n)).pts≤2000000∧(Ia (A1 n)).length≤2000000:=by
 obtain⟨fp,hc,hw,hne,hkl⟩:=Kc hr;obtain⟨ds,hpl,_,hps,hwl⟩:=Acc fp;have hpw:=(Qe n).1;have hps2:=M4 hps Cm ⟨1,0,[],[],[],0⟩ (by decide);have hl:=Mm 6 Cm hps2.pt;have hA:=hps2.trans hl (Bt _);obtain⟨es,e1,e2,e3⟩:=hA.es;have hpp:=hA.pts;simp only[bG]at e2 hpp;have hes:(D9 (A1 n)).es=es:=by unfold D9;rw[e1];rfl
 refine⟨by show _≤_;unfold D9;have:(1:Nat)=(⟨1,0,[],[],[],0⟩:Gr).pts:=rfl;omega,by unfold Ia;rw[hes,Py];omega⟩
theorem A3a(n:Nd)(c:Cf)(hE:(Ia (A1 n)).length≤2000000)(h0:0≤c.pt)(h1:c.pt<(D9 (A1 n)).pts)(ht:¬c.trap=0)(h6:A8 c.trap 1 5=true) :
 AK X ⟨78,f78,0,0⟩ (J6 false 13 f78) [(0,.cptr (Oj n)),(3,.ptr 0 0 0)] ⟨[[G3 c]],[]⟩ (fun e S=>e=.ret (vb (Mx (Ia (A1 n)) c))∧S=⟨[],[]⟩):=by
 obtain⟨j,hj⟩:=Int.eq_ofNat_of_zero_le h0;have hl:=Y9 Eg.f j (Ia (A1 n)) 0;have hc:=A3b ((Ki Eg.f (Ia (A1 n)) j).map fun(i:Nat)=>(i:Int)) (by rw[Py];unfold Ki;omega) c.edge;rw[←Ayg,A2r,←hj]at hc;have hg:(Va Eg.f (Ia (A1 n)) (D9 (A1 n)).pts)[c.pt.toNat]?=some [.sl (T4 (Ki Eg.f (Ia (A1 n)) j)) .no]:=by rw[hj];exact Adv Eg.f _ (by omega)
 have e0:Mx (Ia (A1 n)) c=((A8 c.edge 0 (((Ia (A1 n)).length:Int)-1)&&((((Ia (A1 n))).map Eg.f).getD c.edge.toNat (-1)==c.pt))&&A8 c.acc 0 500):=by unfold Mx;rw[if_neg ht,Bool.and_assoc]
 rw[e0];refine Dj ?_;refine Hb 0 2 ?_;refine Hz (Nb c.trap 1 5) ?_;rw[h6];refine Hm true ?_;refine C9 ?_;refine D6 (fun S'=>Ca rfl rfl rfl rfl rfl rfl rfl rfl rfl h0 hg) ?_;refine C9 ?_;refine Hz hc ?_;refine Hy 1 ?_;cases hb:(A8 c.edge 0 (((Ia (A1 n)).length:Int)-1)&&((((Ia (A1 n))).map Eg.f).getD c.edge.toNat (-1)==c.pt))with
 |false=>
  refine Hm false ?_;refine C9 ?_;refine Bu ?_;exact Ao func78 rfl
 |true=>
  refine Hm true ?_;refine C9 ?_;refine B2 (Nb c.acc 0 500) ?_;refine Bu ?_;exact Ao func78 rfl
set_option maxHeartbeats 2000000 in
theorem A5q(n:Nd)(c:Cf)(hc:CfOk c)(hE:(Ia (A1 n)).length≤2000000)(h0:0≤c.pt)(h1:c.pt<(D9 (A1 n)).pts) :
 AK X ⟨78,f78,0,0⟩ (J6 false 9 f78) [(0,.cptr (Oj n)),(3,.ptr 0 0 0)] ⟨[[G3 c]],[]⟩
  (fun e S=>e=.ret (vb (A8 c.used 0 100&&(A8 c.steps 0 5000&&(A8 c.trap 0 5&&(c.vars.all Mv&&Mx (Ia (A1 n)) c)))))∧S=⟨[],[]⟩):=by
 refine Dj ?_;refine Ba 100 rfl ?_;refine Aj (Azc c.vars hc.vars) ?_;cases hv:c.vars.all Mv with
 |false=>
  refine Ep ?_;refine Ep ?_;refine Ay ?_;refine Ao func78 ?_;simp
 |true=>
  refine Gm ?_;refine Aj (Nb c.used 0 100) ?_;cases hu:A8 c.used 0 100 with
  |false=>
   refine Ep ?_;refine Ay ?_;refine Ao func78 ?_;simp
  |true=>
   refine Gm ?_;refine Aj (Nb c.steps 0 5000) ?_;cases hs:A8 c.steps 0 5000 with
   |false=>
    refine Ay ?_;refine Ao func78 ?_;simp
   |true=>
    refine Ah ?_;refine Ec 0 13 (fun ht=>?_) (fun ht=>?_)
    ·have ht':c.trap=0:=by simpa using(show (c.trap==0)=true from ht)
     have e0:Mx (Ia (A1 n)) c=((c.edge==0)&&(c.acc==0)):=by unfold Mx;rw[if_pos ht']
     have e1:A8 c.trap 0 5=true:=by rw[ht'];rfl
     rw[e0,e1];refine Ba 100 rfl ?_;refine Db (fun g=>?_) (fun g=>?_)
     ·have g':(c.edge==0)=true:=g;refine Ao func78 ?_;rw[g'];simp
     ·have g':(c.edge==0)=false:=g;refine Ao func78 ?_;rw[g'];rfl
    ·have ht':¬c.trap=0:=by simpa using(show (c.trap==0)=false from ht)
     cases h6:A8 c.trap 1 5 with
     |true=>
      have e1:A8 c.trap 0 5=true:=by rw[Ck]at h6⊢;omega
      rw[e1];have:=A3a n c hE h0 h1 ht' h6;simp only[N5];exact Br 1 0 this ⟨rfl,rfl,trivial⟩ rfl rfl rfl rfl rfl
     |false=>
      have e1:A8 c.trap 0 5=false:=by
       cases h7:A8 c.trap 0 5 with
       |false=>rfl
       |true=>
        rw[Ck]at h7;rw[Ck.2 (by omega)]at h6;cases h6
      rw[e1];refine Hb 0 2 ?_;refine Hz (Nb c.trap 1 5) ?_;rw[h6];refine Hm false ?_;refine Hy 12 ?_;refine Hm false ?_;refine C9 ?_;refine Bu ?_;exact Ao func78 rfl
theorem Aeh{l:List (List (Bool×Int))}{ss:List Int}{i:Nat}{x:List (Bool×Int)}{s:Int}(hx:l[i]?=some x)(hs:ss[i]?=some s):Lt (l.drop i) (ss.drop i)=(Ud x s&&Lt (l.drop (i+1)) (ss.drop (i+1))):=by rw[Bp hx,Bp hs];rfl
theorem Avh(n:Nd)(hr:H4 n=true)(c:Cf)(hc:CfOk c):Pure X 78 [.cptr (Oj n),cf c] (vb (Add n c)):=by
 obtain⟨hP,hE⟩:=Aaf hr;obtain⟨fp,_,hw,hne,hkl⟩:=Kc hr;have hd1:=Ht n 31;have hd2:=Ht n 32;have hsz:=Yb n;have l1:((Fh c.vars).length:Int)=c.vars.length:=by rw[Fb]
 have l2:((H9 c.cells).length:Int)=c.cells.length:=by rw[Mi]
 have l3:((Eu (A3 n 31)).length:Int)=(A3 n 31).length:=by rw[Ft]
 have l4:((Eu (A3 n 32)).length:Int)=(A3 n 32).length:=by rw[Ft]
 show Pure X _ _ (vb (Ade _ _ _ _ _ _));unfold Ade;refine Pure.run func78 ?_;refine Hb 0 7 ?_;refine Hz (Agg c.pt (D9 (A1 n)).pts (by omega) (by omega)) ?_;refine Hy 1 ?_;cases h1:A8 c.pt 0 (((D9 (A1 n)).pts:Int)-1)with
 |false=>
  refine Hm true ?_;refine Hy 10 ?_;refine Hm true ?_;refine C9 ?_;refine Bu ?_;refine Ay ?_;exact Ao func78 rfl
 |true=>
  have h1':=Ck.1 h1;refine Hm false ?_;refine Hy 10 ?_;cases h2:(c.vars.length==(A3 n 31).length)with
  |false=>
   have h2':¬c.vars.length=(A3 n 31).length:=by simpa using h2
   refine Hm true ?_ (hb:=by rw[l1,l3];simp;omega);refine C9 ?_;refine Bu ?_;refine Ay ?_;exact Ao func78 rfl
  |true=>
   have h2':c.vars.length=(A3 n 31).length:=by simpa using h2
   refine Hm false ?_ (hb:=by rw[l1,l3];simp;omega);refine C9 ?_;refine Bu ?_;cases h3:(c.cells.length==(A3 n 32).length)with
   |false=>
    have h3':¬c.cells.length=(A3 n 32).length:=by simpa using h3
    refine Ay ?_ (ht:=by rw[l2,l4];simp;omega);exact Ao func78 rfl
   |true=>
    have h3':c.cells.length=(A3 n 32).length:=by simpa using h3
    refine Ah ?_ (ht:=by rw[l2,l4];simp;omega);have L9:=A5q n c hc hE h1'.1 (by omega);simp only[N5];generalize hG:(A8 c.used 0 100&&(A8 c.steps 0 5000&&(A8 c.trap 0 5&&(c.vars.all Mv&&Mx (Ia (A1 n)) c))))=G at L9;have hG2:(A8 c.used 0 100&&(A8 c.steps 0 5000&&(A8 c.trap 0 5&&(c.vars.all Mv&&(Lt c.cells (Fq n)&&Mx (Ia (A1 n)) c)))))=(Lt c.cells (Fq n)&&G):=by
     rw[←hG];cases Lt c.cells (Fq n)<;>simp
    rw[hG2];refine Ar (ι:=Nat) 1 0 (fun i=>i≤c.cells.length∧Lt c.cells (Fq n)=Lt (c.cells.drop i) ((Fq n).drop i)) (fun i=>[(41,vi i),(40,vi c.cells.length),(39,.sl (H9 c.cells) .no),(0,.cptr (Oj n)),(3,.ptr 0 0 0)])
     (fun _=>⟨[[G3 c]],[]⟩) (fun i=>c.cells.length-i) ?_ 0 ⟨Cb _,rfl⟩ ⟨rfl,by rw[←l2];rfl,rfl,rfl,rfl,trivial⟩
    rintro i ⟨hi,hT⟩ IH;refine Ba 100 rfl ?_;refine Ec 0 9 (fun h=>?_) (fun h=>?_)
    ·have hlt:i<c.cells.length:=by have:=A6 h;omega
     obtain⟨x,hx⟩:=Ab c.cells hlt;obtain⟨s,hs⟩:=Ab (Fq n) (i:=i) (by omega);rw[Aeh hx hs]at hT;have hxl:=hc.rows x (Bn hx);have l5:((G5 x).length:Int)=x.length:=by rw[Gs]
     have bad:Ud x s=false→(Lt c.cells (Fq n)&&G)=false:=fun hb=>by rw[hT,hb];rfl
     refine Bv i (by omega) (Dl (f:=Oa) hx) ?_;refine Bv i (by omega) (Nr hs) ?_;refine Db (fun g=>?_) (fun g=>?_)
     ·have g':=A6 g;refine Bv i (by omega) (Nr hs) ?_;refine Db (fun g2=>?_) (fun g2=>?_)
      ·have g2':¬(x.length:Int)=s:=by rw[l5]at g2;simpa using g2
       refine Ep ?_;refine Ay ?_;refine Ao func78 ?_;rw[bad (by simp[Ud,g2'];omega)]
      ·have g2':(x.length:Int)=s:=by rw[l5]at g2;simpa using g2
       have SZ:(!decide (s≥0)||((x.length:Int)==s))=true:=by simp[g2']
       refine Db (fun g3=>?_) (fun g3=>?_)
       ·have g3':¬x.length≤60:=by have:=A6 g3;rw[l5]at this;omega
        refine Ay ?_;refine Ao func78 ?_;rw[bad (by simp[Ud,g3'])]
       ·have g3':x.length≤60:=by have:=Bd g3;rw[l5]at this;omega
        refine Aj (Avg x hxl) ?_;refine Ai (fun g4=>?_) (fun g4=>?_)
        ·have g4':x.all Gy=false:=by simpa using(show (!x.all Gy)=true from g4)
         refine Ao func78 ?_;rw[bad (by unfold Ud;rw[g4'];simp)]
        ·have g4':x.all Gy=true:=by simpa using(show (!x.all Gy)=false from g4)
         have hrow:Ud x s=true:=by unfold Ud;rw[g4',SZ];simp[g3']
         refine IH (i+1) ⟨hlt,by rw[hT,hrow];rfl⟩ (by omega) _ _ ⟨vsx (by omega),rfl,rfl,rfl,rfl,trivial⟩ rfl rfl rfl
     ·have g':=Bd g;have SZ:(!decide (s≥0)||((x.length:Int)==s))=true:=by rw[Ks (show ¬s≥0 by omega)];rfl
      refine Gm ?_;refine Db (fun g3=>?_) (fun g3=>?_)
      ·have g3':¬x.length≤60:=by have:=A6 g3;rw[l5]at this;omega
       refine Ay ?_;refine Ao func78 ?_;rw[bad (by simp[Ud,g3'])]
      ·have g3':x.length≤60:=by have:=Bd g3;rw[l5]at this;omega
       refine Aj (Avg x hxl) ?_;refine Ai (fun g4=>?_) (fun g4=>?_)
       ·have g4':x.all Gy=false:=by simpa using(show (!x.all Gy)=true from g4)
        refine Ao func78 ?_;rw[bad (by unfold Ud;rw[g4'];simp)]
       ·have g4':x.all Gy=true:=by simpa using(show (!x.all Gy)=false from g4)
        have hrow:Ud x s=true:=by unfold Ud;rw[g4',SZ];simp[g3']
        refine IH (i+1) ⟨hlt,by rw[hT,hrow];rfl⟩ (by omega) _ _ ⟨vsx (by omega),rfl,rfl,rfl,rfl,trivial⟩ rfl rfl rfl
    ·have hie:i=c.cells.length:=by have:=Bd h;omega
     have hr1:Lt c.cells (Fq n)=true:=by rw[hT,hie,Hr];rfl
     rw[hr1,N5];exact Br 1 0 L9 ⟨rfl,rfl,trivial⟩ rfl rfl rfl rfl rfl
abbrev Fsp(n:Nd):Cw:=[(2,.ptr 0 0 0),(3,.ptr 1 0 0)]
abbrev Ssp(n:Nd)(c:Cf):St:=⟨[[Lw n],[G3 c]],[]⟩
theorem A23(n:Nd)(c:Cf)(hE:(Ia (A1 n)).length≤2000000)(ht:¬c.trap=0) :
 AK X ⟨120,f120,0,0⟩ (J6 false 21 f120) (Fsp n) (Ssp n c) (fun e S=>e=.ret (vb (Mx (Ia (A1 n)) c))∧S=⟨[],[]⟩):=by
 have l1:((Fg (Ia (A1 n))).length:Int)=(Ia (A1 n)).length:=by rw[Kh]
 have hw:IntKind.i64.wrap ((Fg (Ia (A1 n))).length-1)=(Ia (A1 n)).length-1:=by rw[l1];exact Ac (by omega) (by omega)
 have hb:=Gg c.edge 0 (IntKind.i64.wrap ((Fg (Ia (A1 n))).length-1));rw[hw]at hb;have e0:Mx (Ia (A1 n)) c=((A8 c.edge 0 (((Ia (A1 n)).length:Int)-1)&&((((Ia (A1 n))).map Eg.f).getD c.edge.toNat (-1)==c.pt))&&A8 c.acc 0 500):=by unfold Mx;rw[if_neg ht,Bool.and_assoc]
 rw[e0];refine Dj ?_;refine Hb 0 7 ?_;refine Hz (Gg c.edge 0 (IntKind.i64.wrap ((Fg (Ia (A1 n))).length-1))) ?_;rw[hw];cases h1:A8 c.edge 0 (((Ia (A1 n)).length:Int)-1)with
 |false=>
  refine Hm false ?_;refine Hy 12 ?_;refine Hm false ?_;refine C9 ?_;refine Bu ?_;exact Ao func120 rfl
 |true=>
  have h1':=Ck.1 h1;obtain⟨e,he⟩:=Ab (Ia (A1 n)) (i:=c.edge.toNat) (by omega);have hg:((Ia (A1 n)).map Eg.f).getD c.edge.toNat (-1)=e.f:=by simp[List.getD,he]
  rw[hg];refine Hm true ?_;refine C9 ?_;refine D6 (fun S'=>Ca rfl rfl rfl rfl rfl rfl rfl rfl rfl h1'.1 (Ge he)) ?_;refine Hy 6 ?_;cases h2:(e.f==c.pt)with
  |false=>
   refine Hm false ?_;refine C9 ?_;refine Bu ?_;exact Ao func120 rfl
  |true=>
   refine Hm true ?_;refine C9 ?_;refine B2 (Gg c.acc 0 500) ?_;refine Bu ?_;exact Ao func120 rfl
theorem A22(n:Nd)(c:Cf)(hE:(Ia (A1 n)).length≤2000000) :
 AK X ⟨120,f120,0,0⟩ (J6 false 19 f120) (Fsp n) (Ssp n c) (fun e S=>e=.ret (vb (Mx (Ia (A1 n)) c))∧S=⟨[],[]⟩):=by
 refine Dj ?_;refine Ba 100 rfl ?_;refine Ec 0 21 (fun ht=>?_) (fun ht=>?_)
 ·have ht':c.trap=0:=by simpa using(show (c.trap==0)=true from ht)
  have e0:Mx (Ia (A1 n)) c=((c.edge==0)&&(c.acc==0)):=by unfold Mx;rw[if_pos ht']
  rw[e0];refine Ba 100 rfl ?_;refine Db (fun g=>?_) (fun g=>?_)
  ·have g':(c.edge==0)=true:=g;refine Ao func120 ?_;rw[g'];rfl
  ·have g':(c.edge==0)=false:=g;refine Ao func120 ?_;rw[g'];rfl
 ·have ht':¬c.trap=0:=by simpa using(show (c.trap==0)=false from ht)
  exact Br 2 0 (A23 n c hE ht') ⟨rfl,rfl,trivial⟩ rfl rfl rfl rfl rfl
theorem Aqi(l:List (Bool×Int)){i:Nat}{x:Bool×Int}(h:l[i]?=some x):(l.drop i).all Gy=(Gy x&&(l.drop (i+1)).all Gy):=by rw[Bp h];rfl
theorem A5i(n:Nd)(c:Cf)(hc:CfOk c)(hE:(Ia (A1 n)).length≤2000000)(hss:(Fq n).length=c.cells.length) :
 AK X ⟨120,f120,0,0⟩ (J6 false 8 f120) (Fsp n) (Ssp n c) (fun e S=>e=.ret (vb (Lt c.cells (Fq n)&&Mx (Ia (A1 n)) c))∧S=⟨[],[]⟩):=by
 have L19:=A22 n c hE;have hcc:=hc.cells;generalize Mx (Ia (A1 n)) c=G at L19⊢;refine Dj ?_;refine Ba 100 rfl ?_;refine Ar (ι:=Nat) 2 0 (fun i=>i≤c.cells.length∧Lt c.cells (Fq n)=Lt (c.cells.drop i) ((Fq n).drop i)) (fun i=>[(6,vi i),(2,.ptr 0 0 0),(3,.ptr 1 0 0)])
  (fun _=>Ssp n c) (fun i=>c.cells.length-i) ?_ 0 ⟨Cb _,rfl⟩ ⟨rfl,rfl,rfl,trivial⟩
 rintro i ⟨hi,hT⟩ IH;refine Ba 100 rfl ?_;refine Ec 0 19 (fun h=>?_) (fun h=>?_)
 ·have hlt:i<c.cells.length:=by have:=A6 h;rw[Mi]at this;omega
  obtain⟨x,hx⟩:=Ab c.cells hlt;obtain⟨s,hs⟩:=Ab (Fq n) (i:=i) (by omega);rw[Aeh hx hs]at hT;have hxl:=hc.rows x (Bn hx);have l5:((G5 x).length:Int)=x.length:=by rw[Gs]
  have bad:Ud x s=false→(Lt c.cells (Fq n)&&G)=false:=fun hb=>by rw[hT,hb];rfl
  have inner:x.length≤60→(!decide (s≥0)||((x.length:Int)==s))=true→AK X ⟨120,f120,0,0⟩ (J6 false 13 f120) [(6,vi i),(2,.ptr 0 0 0),(3,.ptr 1 0 0)] (Ssp n c) (fun e S=>e=.ret (vb (Lt c.cells (Fq n)&&G))∧S=⟨[],[]⟩):=fun k1 k2=>by
   have hrow:Ud x s=x.all Gy:=by unfold Ud;rw[k2,Ry k1];rfl
   refine Dj ?_;refine Ba 100 rfl ?_;refine Ar (ι:=Nat) 2 0 (fun j=>j≤x.length∧x.all Gy=(x.drop j).all Gy) (fun j=>[(7,vi j),(6,vi i),(2,.ptr 0 0 0),(3,.ptr 1 0 0)])
    (fun _=>Ssp n c) (fun j=>x.length-j) ?_ 0 ⟨Cb _,rfl⟩ ⟨rfl,rfl,rfl,rfl,trivial⟩
   rintro j ⟨hj,hU⟩ JH;refine Ba 100 rfl ?_;refine Bv i (by omega) (Dl (f:=Oa) hx) ?_;refine Ai (fun g=>?_) (fun g=>?_)
   ·have hjl:j<x.length:=by have:=A6 g;rw[l5]at this;omega
    obtain⟨y,hy⟩:=Ab x hjl;rw[Aqi x hy]at hU;obtain⟨w,m⟩:=y;have bad2:Gy (w,m)=false→(Lt c.cells (Fq n)&&G)=false:=fun hb=>bad (by rw[hrow,hU,hb];rfl);refine Bv i (by omega) (Dl (f:=Oa) hx) ?_;refine Bv j (by omega) (Dl (f:=Hc) hy) ?_;refine Aj (Apg m) ?_;cases hm:Mv m with
    |false=>
     refine Ep ?_;refine Ay ?_;refine Ao func120 ?_;rw[bad2 (by unfold Gy;rw[hm];rfl)]
    |true=>
     refine Gm ?_;cases w with
     |true=>
      refine Gm ?_;refine Ah ?_;exact JH (j+1) ⟨hjl,by rw[hU];simp[Gy,hm]⟩ (by omega) _ _ ⟨vsx (by omega),rfl,rfl,rfl,trivial⟩ rfl rfl rfl
     |false=>
      refine Ep ?_;refine Ai (fun g4=>?_) (fun g4=>?_)
      ·have g4':¬m=0:=by simpa using(show (m != 0)=true from g4)
       refine Ao func120 ?_;rw[bad2 (by simp[Gy,g4'])]
      ·have g4':m=0:=by simpa using(show (m != 0)=false from g4)
       have h1:Gy (false,m)=true:=by unfold Gy;rw[hm,g4'];rfl
       exact JH (j+1) ⟨hjl,by rw[hU,h1];rfl⟩ (by omega) _ _ ⟨vsx (by omega),rfl,rfl,rfl,trivial⟩ rfl rfl rfl
   ·have hje:j=x.length:=by have:=Bd g;rw[l5]at this;omega
    have hxa:x.all Gy=true:=by rw[hU,hje,Hr];rfl
    exact IH (i+1) ⟨hlt,by rw[hT,hrow,hxa];rfl⟩ (by omega) _ _ ⟨vsx (by omega),rfl,rfl,trivial⟩ rfl rfl rfl
  refine Hb 0 3 ?_;refine D6 (fun S'=>Ca rfl rfl rfl rfl rfl rfl rfl rfl rfl (by omega) (Dl (f:=Oa) hx)) ?_;refine Hy 3 ?_;by_cases k1:x.length≤60
  ·refine Hm false ?_ (hb:=Ks (by rw[l5];omega));refine C9 ?_;refine D6 (fun S'=>Ca rfl rfl rfl rfl rfl rfl rfl rfl rfl (by omega) (Nr hs)) ?_;refine Hy 2 ?_;by_cases k2:s≥0
   ·refine Hm true ?_ (hb:=Ry k2);refine C9 ?_;refine D6 (fun S'=>Ca rfl rfl rfl rfl rfl rfl rfl rfl rfl (by omega) (Dl (f:=Oa) hx)) ?_;refine C9 ?_;refine D6 (fun S'=>Ca rfl rfl rfl rfl rfl rfl rfl rfl rfl (by omega) (Nr hs)) ?_;refine C9 ?_;refine Bu ?_;refine Ec 0 13 (fun g=>?_) (fun g=>?_)
    ·have g':¬(x.length:Int)=s:=by rw[l5]at g;simpa using g
     refine Ba 100 rfl ?_;refine Ao func120 ?_;rw[bad (by simp[Ud,g'];omega)]
    ·have g':(x.length:Int)=s:=by rw[l5]at g;simpa using g
     exact Br 2 0 (inner k1 (by rw[zzq34.2 g',Bool.or_true])) ⟨rfl,rfl,rfl,trivial⟩ rfl rfl rfl rfl rfl
   ·refine Hm false ?_ (hb:=Ks k2);refine C9 ?_;refine Bu ?_;refine Ec (e:=false) 0 13 (fun g=>nomatch g) (fun g=>?_);exact Br 2 0 (inner k1 (by rw[Ks k2];rfl)) ⟨rfl,rfl,rfl,trivial⟩ rfl rfl rfl rfl rfl
  ·refine Hm true ?_ (hb:=Ry (by rw[l5];omega));refine C9 ?_;refine Bu ?_;refine Ay ?_;refine Ao func120 ?_;rw[bad (by simp[Ud,k1])]
 ·have hie:i=c.cells.length:=by have:=Bd h;rw[Mi]at this;omega
  have hr1:Lt c.cells (Fq n)=true:=by rw[hT,hie,Hr];rfl
  rw[hr1,N5];exact Br 2 0 L19 ⟨rfl,rfl,trivial⟩ rfl rfl rfl rfl rfl
theorem Auu(n:Nd)(hr:H4 n=true)(c:Cf)(hc:CfOk c):Pure X 120 [.agg (Lw n),cf c] (vb (Add n c)):=by
 obtain⟨hP,hE⟩:=Aaf hr;obtain⟨fp,_,hw,hne,hkl⟩:=Kc hr;have hd1:=Ht n 31;have hd2:=Ht n 32;have hsz:=Yb n;have hcv:=hc.vars;have l1:((Fh c.vars).length:Int)=c.vars.length:=by rw[Fb]
 have l2:((H9 c.cells).length:Int)=c.cells.length:=by rw[Mi]
 have l3:((Eu (A3 n 31)).length:Int)=(A3 n 31).length:=by rw[Ft]
 have l4:((Eu (A3 n 32)).length:Int)=(A3 n 32).length:=by rw[Ft]
 have hwp:IntKind.i64.wrap ((D9 (A1 n)).pts-1)=(D9 (A1 n)).pts-1:=Ac (by omega) (by omega);have hT:Add n c=Ade (D9 (A1 n)).pts (A3 n 31).length (A3 n 32).length (Fq n) (Ia (A1 n)) c:=rfl;unfold Ade at hT;refine Pure.run func120 ?_;refine Aj (Gg c.pt 0 (IntKind.i64.wrap ((D9 (A1 n)).pts-1))) ?_;rw[hwp];cases h1:A8 c.pt 0 (((D9 (A1 n)).pts:Int)-1)with
 |false=>
  rw[h1]at hT;refine Ep ?_;refine Ep ?_;refine Ep ?_;refine Ep ?_;refine Ep ?_;refine Ay ?_;refine Ao func120 ?_;rw[hT];simp
 |true=>
  rw[h1]at hT;refine Gm ?_;cases h2:(c.vars.length==(A3 n 31).length)with
  |false=>
   have h2':¬c.vars.length=(A3 n 31).length:=by simpa using h2
   rw[h2]at hT;refine Ep ?_ (ht:=by rw[l1,l3];simp;omega);refine Ep ?_;refine Ep ?_;refine Ep ?_;refine Ay ?_;refine Ao func120 ?_;rw[hT];simp
  |true=>
   have h2':c.vars.length=(A3 n 31).length:=by simpa using h2
   rw[h2]at hT;refine Gm ?_ (ht:=by rw[l1,l3];simp;omega);cases h3:(c.cells.length==(A3 n 32).length)with
   |false=>
    have h3':¬c.cells.length=(A3 n 32).length:=by simpa using h3
    rw[h3]at hT;refine Ep ?_ (ht:=by rw[l2,l4];simp;omega);refine Ep ?_;refine Ep ?_;refine Ay ?_;refine Ao func120 ?_;rw[hT];simp
   |true=>
    have h3':c.cells.length=(A3 n 32).length:=by simpa using h3
    rw[h3]at hT;refine Gm ?_ (ht:=by rw[l2,l4];simp;omega);refine Aj (Gg c.used 0 100) ?_;cases h4:A8 c.used 0 100 with
    |false=>
     rw[h4]at hT;refine Ep ?_;refine Ep ?_;refine Ay ?_;refine Ao func120 ?_;rw[hT];simp
    |true=>
     rw[h4]at hT;refine Gm ?_;refine Aj (Gg c.steps 0 5000) ?_;cases h5:A8 c.steps 0 5000 with
     |false=>
      rw[h5]at hT;refine Ep ?_;refine Ay ?_;refine Ao func120 ?_;rw[hT];simp
     |true=>
      rw[h5]at hT;refine Gm ?_;refine Aj (Gg c.trap 0 5) ?_;cases h6:A8 c.trap 0 5 with
      |false=>
       rw[h6]at hT;refine Ay ?_;refine Ao func120 ?_;rw[hT];simp
      |true=>
       rw[h6]at hT;simp only[N5]at hT;rw[hT];refine Ah ?_;have L8:=A5i n c hc hE (by omega);refine Ar (ι:=Nat) 2 0 (fun i=>i≤c.vars.length∧c.vars.all Mv=(c.vars.drop i).all Mv) (fun i=>[(5,vi i),(2,.ptr 0 0 0),(3,.ptr 1 0 0)]) (fun _=>Ssp n c) (fun i=>c.vars.length-i) ?_ 0 ⟨Cb _,rfl⟩
        ⟨rfl,rfl,rfl,trivial⟩
       rintro i ⟨hi,hV⟩ IH;refine Ba 100 rfl ?_;refine Ec 0 8 (fun h=>?_) (fun h=>?_)
       ·have hlt:i<c.vars.length:=by have:=A6 h;rw[Fb]at this;omega
        obtain⟨x,hx⟩:=Ab c.vars hlt;rw[Bp hx,T7]at hV;refine Bv i (by omega) (Nr hx) ?_;refine Aj (Apg x) ?_;refine Ai (fun g=>?_) (fun g=>?_)
        ·have g':Mv x=false:=by simpa using(show (!Mv x)=true from g)
         refine Ao func120 ?_;rw[hV,g'];rfl
        ·have g':Mv x=true:=by simpa using(show (!Mv x)=false from g)
         exact IH (i+1) ⟨hlt,by rw[hV,g'];rfl⟩ (by omega) _ _ ⟨vsx (by omega),rfl,rfl,trivial⟩ rfl rfl rfl
       ·have hie:i=c.vars.length:=by have:=Bd h;rw[Fb]at this;omega
        have hv1:c.vars.all Mv=true:=by rw[hV,hie,Hr];rfl
        rw[hv1,N5];exact Br 2 0 L8 ⟨rfl,rfl,trivial⟩ rfl rfl rfl rfl rfl
def Nj(n:Nd)(c:Cf):Bool:=H4 n&&Add n c
theorem Arj(n:Nd)(hn:wN n≤100000000)(c:Cf)(hc:CfOk c):Pure X 74 [nd n,cf c] (vb (Nj n c)):=by
 refine Pure.run func74 ?_;refine Hb 0 1 ?_;refine Hz (Ay2 n hn) ?_;unfold Nj;cases hr:H4 n with
 |false=>
  refine Hm false ?_;refine C9 ?_;refine Bu ?_;exact Ao func74 rfl
 |true=>
  refine Hm true ?_;refine C9 ?_;refine B2 (Au4 n hr) ?_;refine B2 (Auu n hr c hc) ?_;refine Bu ?_;exact Ao func74 rfl
structure CfLn (c:Cf):Prop where
 vars:c.vars.length≤9223372036854775807
 cells:c.cells.length≤9223372036854775807
 rows:∀x,x∈c.cells→x.length≤9223372036854775807
def Anr(c:Cf):Nat:=c.vars.length+(c.cells.length+swC c.cells)
theorem A3x{l:List (List (Bool×Int))}{x:List (Bool×Int)}(h:x∈l):x.length≤swC l:=by
 induction l with
 |nil=>cases h
 |cons y l ih=>
  simp only[swC];rcases zzq8.1 h with rfl|h
  ·omega
  ·have:=ih h;omega
theorem A32(c:Cf)(h:CfLn c)(left:Int)(h0:0≤left)(h1:left≤1048576):Pure X 37 [cf c,vi left] (vi (N2 (Anr c) left)):=by
 have l1:(Fh c.vars).length=c.vars.length:=Fb _;have hI:=A55 (Fh c.vars) left h0 h1 (by rw[l1];exact h.vars);rw[l1]at hI;refine Pure.run func37 ?_;refine Aj hI ?_;refine Ai (fun g=>?_) (fun g=>?_)
 ·have g':=Zr h0 (A6 g);refine Ao func37 ?_;unfold Anr;rw[Aa9 g'.2]
 ·have g':=Zs (show 0≤N2 c.vars.length left by have:=Bd g;omega);have e0:N2 (Anr c) left=N2 (c.cells.length+swC c.cells) (N2 c.vars.length left):=by unfold Anr;rw[Wt g'.2,g'.1]
  rw[e0];have hb:0≤N2 c.vars.length left∧N2 c.vars.length left≤1048576:=by omega
  generalize N2 c.vars.length left=lf at hb⊢;refine Aj (A31 c.cells lf hb.1 hb.2 h.cells h.rows) ?_;refine Ai (fun g2=>?_) (fun g2=>?_)
  ·have g2':=Zr hb.1 (A6 g2);refine Ao func37 ?_;rw[g2'.1]
  ·exact Ao func37 rfl
theorem Ai8(c:Cf)(hc:CfOk c):Pure X 39 [cf c] (cf c):=by
 refine Pure.run func39 ?_;refine Aj (Ala c.vars hc.vars) ?_;refine Aj (A33 c.cells hc.cells hc.rows) ?_;exact Ao func39 rfl
theorem Ai7(c:Cf)(hc:CfOk c):Pure X 22 [cf c,cf c] (vb true):=by
 refine Pure.run func22 ?_;refine Ah ?_ (ht:=by simp);refine Aj (A09 c.vars hc.vars) ?_;refine Ah ?_;refine Aj (A3z c.cells hc.cells hc.rows) ?_;refine Ah ?_;refine Ah ?_ (ht:=by simp);refine Ah ?_ (ht:=by simp);refine Ah ?_ (ht:=by simp);refine Ah ?_ (ht:=by simp);refine Ah ?_ (ht:=by simp);exact Ao func22 rfl
set_option maxRecDepth 100000
section
variable {H:Type}{enc:TypeId×Value→H}{w:World}{sp:Nat→Bool}{held:Bool}
theorem Ase(fuel:Nat)(cs:List Value)(x:DataW H×List MemPlace)(h:DataW.trod enc prog w 0 sp held fuel 3 cs=some x):∃n:Int,True∧RelL w cs (Lq n):=by
 obtain⟨n,_,_,rfl⟩:=Qo underlying3 h;exact⟨n,trivial,.one (.val _)⟩
theorem Agx(fuel:Nat)(cs:List Value)(x:DataW H×List MemPlace)(h:DataW.trod enc prog w 0 sp held fuel 37 cs=some x):∃l:List Int,l.length≤9223372036854775807∧RelL w cs [.sl (Fh l) .no]:=by
 obtain⟨l,_,h1,h2⟩:=Wp Lq (fun _=>True) underlying37 (show prog.cellsOf 3=1 by kernel_rfl) (by decide) (fun y=>rfl) (fun n _ cs' x' hx'=>Ase n cs' x' hx') h;exact⟨l,h1,h2⟩
theorem Asd(fuel:Nat)(cs:List Value)(x:DataW H×List MemPlace)(h:DataW.trod enc prog w 0 sp held fuel 238 cs=some x):∃c:Bool×Int,True∧RelL w cs (Hc c):=by
 obtain⟨xs,n1,rfl,_,hl,hxs,hf⟩:=DataW.trod_struct underlying238 h;have hl2:cs.length=2:=hl.trans (by kernel_rfl);have hx2:xs.length=2:=hxs;obtain⟨c0,c1,rfl⟩:∃a b,cs=[a,b]:=by
  rcases cs with _|⟨a,_|⟨b,_|⟨c,l⟩⟩⟩<;>simp at hl2;exact⟨a,b,rfl⟩
 obtain⟨x0,hx0⟩:=Ab xs (i:=0) (by omega);obtain⟨x1,hx1⟩:=Ab xs (i:=1) (by omega);have c3e:prog.cellsOf 3=1:=by kernel_rfl
 have c4e:prog.cellsOf 4=1:=by kernel_rfl
 have f0:DataW.trod enc prog w 0 sp held n1 4 (([c0,c1].drop 0).take (prog.cellsOf 4))=some x0:=(hf 0 _ rfl).trans hx0;have f1:DataW.trod enc prog w 0 sp held n1 3 (([c0,c1].drop 1).take (prog.cellsOf 3))=some x1:=(hf 1 _ rfl).trans hx1;rw[c4e]at f0;rw[c3e]at f1;obtain⟨b,e0,_⟩:=DataW.trod_bool underlying4 f0;obtain⟨m,_,_,e1⟩:=Qo underlying3 f1;have e0':c0=.bool b:=(List.cons.inj e0).1;have e1':c1=.int .i64 m:=(List.cons.inj e1).1;subst e0';subst e1';exact⟨(b,m),trivial,.cons (.val _) (.one (.val _))⟩
theorem Ans(fuel:Nat)(cs:List Value)(x:DataW H×List MemPlace)(h:DataW.trod enc prog w 0 sp held fuel 178 cs=some x):∃l:List (Bool×Int),l.length≤9223372036854775807∧RelL w cs (Oa l):=by
 obtain⟨l,_,h1,h2⟩:=Wp Hc (fun _=>True) underlying178 (show prog.cellsOf 238=2 by kernel_rfl) (by decide) (fun y=>rfl) (fun n _ cs' x' hx'=>Asd n cs' x' hx') h;exact⟨l,h1,h2⟩
theorem Alc(fuel:Nat)(cs:List Value)(x:DataW H×List MemPlace)(h:DataW.trod enc prog w 0 sp held fuel 57 cs=some x):∃l:List (List (Bool×Int)),(∀y,y∈l→y.length≤9223372036854775807)∧l.length≤9223372036854775807∧RelL w cs [.sl (H9 l) .no]:=
 Wp Oa (fun y=>y.length≤9223372036854775807) underlying57 (show prog.cellsOf 178=1 by kernel_rfl) (by decide) (fun y=>rfl) (fun n _ cs' x' hx'=>Ans n cs' x' hx') h
theorem A0y{α:Type}{l:List α}(h:l.length=8):∃a b c d e f g i,l=[a,b,c,d,e,f,g,i]:=by
 rcases l with _|⟨a,_|⟨b,_|⟨c,_|⟨d,_|⟨e,_|⟨f,_|⟨g,_|⟨i,_|⟨j,l⟩⟩⟩⟩⟩⟩⟩⟩⟩<;>simp at h;exact⟨a,b,c,d,e,f,g,i,rfl⟩
theorem A0j(fuel:Nat)(cs:List Value)(x:DataW H×List MemPlace)(h:DataW.trod enc prog w 0 sp held fuel 59 cs=some x):∃c:Cf,CfLn c∧RelL w cs (G3 c):=by
 obtain⟨xs,n1,rfl,_,hl,hxs,hf⟩:=DataW.trod_struct underlying59 h;have hl8:cs.length=8:=hl.trans (by kernel_rfl);have hx8:xs.length=8:=hxs;obtain⟨c0,c1,c2,c3,c4,c5,c6,c7,rfl⟩:=A0y hl8;obtain⟨x0,x1,x2,x3,x4,x5,x6,x7,rfl⟩:=A0y hx8;have c3e:prog.cellsOf 3=1:=by kernel_rfl
 have cie:prog.cellsOf 37=1:=by kernel_rfl
 have cse:prog.cellsOf 57=1:=by kernel_rfl
 have f0:DataW.trod enc prog w 0 sp held n1 3 (([c0,c1,c2,c3,c4,c5,c6,c7].drop 0).take (prog.cellsOf 3))=some x0:=hf 0 _ rfl;rw[c3e]at f0;obtain⟨m0,_,_,e0⟩:=Qo underlying3 f0;have e0':c0=.int .i64 m0:=(List.cons.inj e0).1;have f3:DataW.trod enc prog w 0 sp held n1 3 (([c0,c1,c2,c3,c4,c5,c6,c7].drop 3).take (prog.cellsOf 3))=some x3:=hf 3 _ rfl;rw[c3e]at f3;obtain⟨m3,_,_,e3⟩:=Qo underlying3 f3;have e3':c3=.int .i64 m3:=(List.cons.inj e3).1;have f4:DataW.trod enc prog w 0 sp held n1 3 (([c0,c1,c2,c3,c4,c5,c6,c7].drop 4).take (prog.cellsOf 3))=some x4:=hf 4 _ rfl;rw[c3e]at f4;obtain⟨m4,_,_,e4⟩:=Qo underlying3 f4;have e4':c4=.int .i64 m4:=(List.cons.inj e4).1;have f5:DataW.trod enc prog w 0 sp held n1 3 (([c0,c1,c2,c3,c4,c5,c6,c7].drop 5).take (prog.cellsOf 3))=some x5:=hf 5 _ rfl;rw[c3e]at f5;obtain⟨m5,_,_,e5⟩:=Qo underlying3 f5;have e5':c5=.int .i64 m5:=(List.cons.inj e5).1;have f6:DataW.trod enc prog w 0 sp held n1 3 (([c0,c1,c2,c3,c4,c5,c6,c7].drop 6).take (prog.cellsOf 3))=some x6:=hf 6 _ rfl;rw[c3e]at f6;obtain⟨m6,_,_,e6⟩:=Qo underlying3 f6;have e6':c6=.int .i64 m6:=(List.cons.inj e6).1;have f7:DataW.trod enc prog w 0 sp held n1 3 (([c0,c1,c2,c3,c4,c5,c6,c7].drop 7).take (prog.cellsOf 3))=some x7:=hf 7 _ rfl;rw[c3e]at f7;obtain⟨m7,_,_,e7⟩:=Qo underlying3 f7;have e7':c7=.int .i64 m7:=(List.cons.inj e7).1;have f1:DataW.trod enc prog w 0 sp held n1 37 (([c0,c1,c2,c3,c4,c5,c6,c7].drop 1).take (prog.cellsOf 37))=some x1:=hf 1 _ rfl;rw[cie]at f1;obtain⟨vs,v1,v2⟩:=Agx n1 _ _ f1;have v2':RelL w [c1] [.sl (Fh vs) .no]:=v2;have f2:DataW.trod enc prog w 0 sp held n1 57 (([c0,c1,c2,c3,c4,c5,c6,c7].drop 2).take (prog.cellsOf 57))=some x2:=hf 2 _ rfl;rw[cse]at f2;obtain⟨ls,l1,l2,l3⟩:=Alc n1 _ _ f2;have l3':RelL w [c2] [.sl (H9 ls) .no]:=l3;subst e0';subst e3';subst e4';subst e5';subst e6';subst e7';exact⟨⟨m0,vs,ls,m3,m4,m5,m6,m7⟩,⟨v1,l2,l1⟩,.cons (.val _) (.cons v2'.get1 (.cons l3'.get1 (.cons (.val _) (.cons (.val _) (.cons (.val _) (.cons (.val _) (.one (.val _))))))))⟩
end
theorem Axn{H:Type}{enc:TypeId×Value→H}{W:World}{base:Nat}{v:Value}{d:DataW H}{ps:List MemPlace}(hv:Value.okWide prog W .any base 59 v)(h:DataW.Trod enc prog W 0 (fun _=>true) true 59 v d ps) :
 ∃c:Cf,CfLn c∧Rel E0 W v (cf c):=by
 unfold Value.okWide at hv;rw[underlying59]at hv;obtain⟨cs,rfl,_⟩:=hv;obtain⟨fuel,h⟩:=h;obtain⟨c,h1,h3⟩:=A0j fuel _ _ h;exact⟨c,h1,h3.agg⟩
abbrev Axl:Value:=.agg #[.int .i64 0,.slice none 0 0,.slice none 0 0,.int .i64 0,.int .i64 0,.int .i64 0,.int .i64 0,.int .i64 0]
end Go.V
