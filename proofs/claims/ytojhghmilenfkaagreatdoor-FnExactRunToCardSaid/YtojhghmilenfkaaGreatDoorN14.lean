/- A part of the proof of the claim that the last text states: no condition of its own. -/
import Derived.Test.YtojhghmilenfkaaGreatDoorN13
import Derived.Carry
import Derived.ChangeArms
import Derived.ChangeVars
import Derived.Deep.DeepHandedRow
import Derived.Lib.LaidTab
import Derived.Lib.LaidU8
import Derived.OpenShut
import Derived.ProofKit
import Derived.Test.YtojhghmilenfkaaGreatDoorCards
import Derived.Test.YtojhghmilenfkaaGreatDoorTie
import Derived.WalkKit
set_option linter.unusedVariables false
set_option linter.unusedSimpArgs false
namespace Go.V
open Go Go.Proofs Go.Proofs.Tryz
theorem X8{n:Nd}(h:Fy n=true):E4 n=(0,[])∧Dq n=true∧Dq (A6 n)=true:=by
 unfold Fy at h;have h0:(E4 n).1=0:=by simpa using h
 unfold E4 at h0⊢;split at h0
 ·rename_i h1;rw[if_pos h1];split at h0
  ·simp at h0
  ·rename_i h2;rw[if_neg h2];split at h0
   ·simp at h0
   ·rename_i h3;rw[if_neg h3];split at h0
    ·simp at h0
    ·rename_i h4;split at h0
     ·simp at h0
     ·rename_i h5;split at h0
      ·simp at h0
      ·rename_i h6;split at h0
       ·rename_i h7;simp[h1,h5,h6,h7]
       ·simp at h0
 ·simp at h0
theorem Iz{n:Nd}(h:Fy n=true):FP n∧Ai n≤500∧wN n≤4500∧n.kids≠[]∧n.kids.length≤4500:=by
 obtain⟨fp,hc,_⟩:=Ss (X8 h).2.1;have hw:=Aau n (Zl fp);have hk:=G7 n;have hne:n.kids≠[]:=by cases fp;simp
 exact⟨fp,hc,by omega,hne,by omega⟩
def We(f:Eg→Int)(p:Nat)(k:Nat):List Eg→List Nat
 |[]=>[]
 |e::l=>if f e=p then k::We f p (k+1) l else We f p (k+1) l
def L3(f:Eg→Int)(l:List Eg)(p:Nat):List Nat:=We f p 0 l
theorem Afm(f:Eg→Int)(p:Nat)(e:Eg):∀(l:List Eg)(k:Nat),We f p k (l++[e])=We f p k l++(if f e=p then[k+l.length]else[])
 |[],k=>by simp[We]
 |x::l,k=>by
  simp only[Pz,We,Nn];rw[Afm f p e l (k+1),show k+1+l.length=k+(l.length+1) by omega];split<;>simp
theorem Adf(f:Eg→Int)(p:Nat):∀(l:List Eg)(k:Nat),(We f p k l).length≤l.length
 |[],k=>by simp[We]
 |x::l,k=>by
  simp only[We,Nn];have:=Adf f p l (k+1);split<;>simp<;>omega
def Wq(m:Nat)(f:Eg→Int)(l:List Eg)(pts:Nat):List (List AV):=(List.range pts).map fun p=>[AV.sl (Uh (L3 f l p)) (.tok (m+p))]
def Ri(f:Eg→Int)(l:List Eg)(pts:Nat):List Nat:=(List.range pts).map fun p=>(L3 f l p).length
theorem Ta(m:Nat)(f:Eg→Int)(l:List Eg)(pts:Nat):(Wq m f l pts).length=pts:=by simp[Wq]
theorem Jm(f:Eg→Int)(l:List Eg)(pts:Nat):(Ri f l pts).length=pts:=by simp[Ri]
theorem Hf(m:Nat)(f:Eg→Int)(l:List Eg){pts j:Nat}(h:j<pts):(Wq m f l pts)[j]?=some [AV.sl (Uh (L3 f l j)) (.tok (m+j))]:=by simp[Wq,h]
theorem Y4(f:Eg→Int)(l:List Eg){pts j:Nat}(h:j<pts):(Ri f l pts)[j]?=some (L3 f l j).length:=by simp[Ri,h]
theorem Yo(f:Eg→Int){l:List Eg}{i:Nat}{e:Eg}(h:l[i]?=some e)(p:Nat):L3 f (l.take (i+1)) p=L3 f (l.take i) p++(if f e=p then[i]else[]):=by
 have hi:=Aa h;unfold L3;rw[G8,h];simp only[Aav];rw[Afm,Jy,Vd,Nat.min_eq_left (by omega)]
theorem Apb(m:Nat)(f:Eg→Int){l:List Eg}{i j pts:Nat}{e:Eg}(h:l[i]?=some e)(hj:f e=j):(Wq m f (l.take i) pts).set j [AV.sl (Uh (L3 f (l.take i) j++[i])) (.tok (m+j))]=Wq m f (l.take (i+1)) pts:=by
 apply Abp;intro k;rw[Vb,Ta];by_cases hk:j=k
 ·subst hk;rw[if_pos rfl];by_cases hp:j<pts
  ·rw[if_pos hp,Hf _ _ _ hp,Yo f h,if_pos hj]
  ·rw[if_neg hp,U9 (by rw[Ta];omega)]
 ·rw[if_neg hk];by_cases hp:k<pts
  ·rw[Hf _ _ _ hp,Hf _ _ _ hp,Yo f h,if_neg (by rw[hj];omega),H0]
  ·rw[U9 (by rw[Ta];omega),U9 (by rw[Ta];omega)]
theorem Apa(f:Eg→Int){l:List Eg}{i j pts:Nat}{e:Eg}(h:l[i]?=some e)(hj:f e=j):(Ri f (l.take i) pts).set j ((L3 f (l.take i) j).length+1)=Ri f (l.take (i+1)) pts:=by
 apply Abp;intro k;rw[Vb,Jm];by_cases hk:j=k
 ·subst hk;rw[if_pos rfl];by_cases hp:j<pts
  ·rw[if_pos hp,Y4 _ _ hp,Yo f h,if_pos hj];simp
  ·rw[if_neg hp,U9 (by rw[Jm];omega)]
 ·rw[if_neg hk];by_cases hp:k<pts
  ·rw[Y4 _ _ hp,Y4 _ _ hp,Yo f h,if_neg (by rw[hj];omega),H0]
  ·rw[U9 (by rw[Jm];omega),U9 (by rw[Jm];omega)]
theorem Avk{n M m pts:Nat}(f:Eg→Int)(l:List Eg)(h:m+pts≤M):He n M (Wq m f l pts):=fun r hr x hx=>by
 obtain⟨p,hp,rfl⟩:=zzq66.1 hr;simp at hx;subst hx;have:=zzq53.1 hp;exact .sl _ _ ((inferInstance:OKR n M (Uh (L3 f l p))).ok) (fun t ht=>by cases ht;omega)
def Wg(f:Eg→Int)(l:List Eg)(pts:Nat):List (List AV):=(List.range pts).map fun p=>[.sl (Uh (L3 f l p)) .no]
def Mh(n:Nd):List AV:=
 vi (D6 (A9 n)).pts::.sl (Fv (Lx (A9 n))) .no::.sl (Dl (Ax n 31)) .no::.sl (Dl (Ax n 32)) .no::.sl (Fe (Ei n)) .no ::
  .sl (Wg Eg.f (Lx (A9 n)) (D6 (A9 n)).pts) .no::.sl (Wg Eg.t (Lx (A9 n)) (D6 (A9 n)).pts) .no::Af (A6 n)
theorem Ato{S:St}{m b pts:Nat}(f:Eg→Int)(l:List Eg)(hS:S.boxes[b]?=some (Wq m f l pts))(hp:pts≤Pg):Fz S 0 0 (.bsl b pts) (.sl (Wg f l pts) .no):=by
 refine .bsl b pts (Wq m f l pts) (Wg f l pts) (B3 _) hS (by rw[Ta];exact Bo _) hp (by simp[Wg]) (fun i r r' h1 h2=>?_) (fun i j r r' x y h1 h2 h3 h4=>?_)
 ·have hi:=Aa h1;rw[Ta]at hi;rw[Hf _ _ _ hi]at h1;simp only[Wg,Gl,Abn hi,Lk]at h2;cases h1;cases h2;rfl
 ·have hi:=Aa h1;rw[Ta]at hi;rw[Hf _ _ _ hi]at h1;simp only[Wg,Gl,Abn hi,Lk]at h2;cases h1;cases h2;cases j with
  |zero=>simp at h3 h4;subst h3;subst h4;exact Azw (FzR.same ((inferInstance:OKR 0 0 (Uh (L3 f l i))).ok))
  |succ j=>simp at h3
set_option maxHeartbeats 2000000 in
theorem Aid(n:Nd)(hn:Ai n≤1000000000)(hnum:PrI n) :
 Pure X 52 [nd n] (if Fy n=true then .tup [.cptr (Mh n),vb true]else .tup [.val (.pointer none),vb false]):=by
 have hfl:R6 X.P 150=some [0,1]:=by kernel_rfl
 refine Pure.run func52 ?_;refine Al (Ayh n hn hnum) ?_;refine Bn (Vi (r:=!(((E4 n).1==0)&&(((E4 n).2==[])&&true))) rfl rfl rfl rfl rfl hfl rfl (.inr ⟨rfl,rfl⟩)) ?_;by_cases hr:Fy n=true
 ·obtain⟨hC,h1,h2⟩:=X8 hr;obtain⟨fp,hc,hw,hne,hkl⟩:=Iz hr;rw[if_pos hr];have hpv:Uv n=A6 n:=by unfold Uv;rw[hC];rfl
  rw[hC,hpv];refine Ag ?_;obtain⟨ds,hpl,_,hps,hwl⟩:=Abw fp;have hpw:=(Ps n).1;have hkp:=G7 (A6 n);have hgr:Pure X 105 [nd (A6 n)] (.agg [vi (D6 (A9 n)).pts,.sl (Fv (Lx (A9 n))) .no]):=Aqa (A6 n) (by rw[hpl];simp) hps (show wL (A9 n)≤_ by omega) (by omega);refine D8 1024 ?_;refine Ce hgr ?_;refine Ce (Afw n 31 hne (by omega)) ?_;refine Ce (Afw n 32 hne (by omega)) ?_;refine Ce (Aq2 n hne (by omega)) ?_;refine Ch (Lu rfl rfl rfl) ?_;refine Av ?_;refine B2 ?_;have hps2:=Mq hps Cg ⟨1,0,[],[],[],0⟩ (by decide);have hpts:(D6 (A9 n)).pts≤2000000∧(Lx (A9 n)).length≤2000000∧∀e,e∈Lx (A9 n)→(0≤e.f∧e.f<(D6 (A9 n)).pts)∧0≤e.t∧e.t<(D6 (A9 n)).pts:=by
   have hl:=L1 6 Cg hps2.pt;have hA:=hps2.trans hl (Bo _);obtain⟨es,e1,e2,e3⟩:=hA.es;have hpp:=hA.pts;simp only[bG]at e2 hpp;have hes:(D6 (A9 n)).es=es:=by unfold D6;rw[e1];rfl
   have hpt:(D6 (A9 n)).pt<(D6 (A9 n)).pts:=hA.pt;refine⟨by show _≤_;unfold D6;have:(1:Nat)=(⟨1,0,[],[],[],0⟩:Gr).pts:=rfl;omega,by unfold Lx;rw[hes,Py];omega,fun e he=>?_⟩;unfold Lx at he;rw[hes]at he;obtain⟨e0,h0,rfl⟩:=zzq66.1 he;obtain⟨q1,q2⟩:=e3 e0 h0;have q1':0≤e0.f∧e0.f<(D6 (A9 n)).pts:=q1;have q2':e0.t=-1∨(0≤e0.t∧e0.t<(D6 (A9 n)).pts):=q2;unfold D1;split
   ·exact⟨q1',by simp;omega⟩
   ·exact⟨q1',by omega⟩
  obtain⟨hp1,hp2,hp3⟩:=hpts;unfold Mh;generalize Lx (A9 n)=es at *;generalize (D6 (A9 n)).pts=pts at *
  let prow (x y:AV):List AV:=vi pts::.sl (Fv es) .no::.sl (Dl (Ax n 31)) .no::.sl (Dl (Ax n 32)) .no::.sl (Fe (Ei n)) .no::x::y::Af (A6 n)
  let bxs (x y:AV):List (List (List AV)):=[[Af n],[Af (A6 n)],[[vi 0,str []]],[prow x y],List.replicate pts [.sl [] .tight],List.replicate pts [.sl [] .tight]]
  have L6:AK X ⟨52,f52,0,0⟩ (Lm false 6 f52) [(6,.ptr 3 0 0)] ⟨bxs (.bsl 4 pts) (.bsl 5 pts),[]⟩
   (fun e S=>e=.ret (.tup [.cptr (vi pts::.sl (Fv es) .no::.sl (Dl (Ax n 31)) .no::.sl (Dl (Ax n 32)) .no::.sl (Fe (Ei n)) .no::.sl (Wg Eg.f es pts) .no::.sl (Wg Eg.t es pts) .no::Af (A6 n)),vb true])∧S=⟨[],[]⟩):=by
   refine D5 ?_;refine Aci (bx:=[[Af n],[Af (A6 n)],[[vi 0,str []]],[prow (.bsl 4 pts) (.bsl 5 pts)],Wq 0 Eg.f [] pts,List.replicate pts [.sl [] .tight]]) (tk:=List.replicate pts 0) 4 pts 0 rfl rfl rfl rfl ?_;refine Aci (bx:=[[Af n],[Af (A6 n)],[[vi 0,str []]],[prow (.bsl 4 pts) (.bsl 5 pts)],Wq 0 Eg.f [] pts,Wq pts Eg.t [] pts]) (tk:=List.replicate pts 0++List.replicate pts 0) 5 pts pts rfl (by simp) rfl rfl ?_;refine Be ⟨[[Af n],[Af (A6 n)],[[vi 0,str []]],[prow (.bsl 4 pts) (.bsl 5 pts)],Wq 0 Eg.f (es.take 0) pts,Wq pts Eg.t (es.take 0) pts],Ri Eg.f (es.take 0) pts++Ri Eg.t (es.take 0) pts⟩ ?_ (by
    have:∀f:Eg→Int,Ri f (es.take 0) pts=List.replicate pts 0:=fun f=>List.eq_replicate_iff.2 ⟨Jm f _ pts,fun b hb=>by obtain⟨p,_,rfl⟩:=zzq66.1 hb;rfl⟩;rw[this,this];rfl)
   refine Bi 100 rfl ?_;refine Ar (ι:=Nat) 6 (pts+pts) (fun i=>i≤es.length) (fun i=>[(52,vi i),(51,vi es.length),(50,.sl (Fv es) .no),(6,.ptr 3 0 0)])
    (fun i=>⟨[[Af n],[Af (A6 n)],[[vi 0,str []]],[prow (.bsl 4 pts) (.bsl 5 pts)],Wq 0 Eg.f (es.take i) pts,Wq pts Eg.t (es.take i) pts],Ri Eg.f (es.take i) pts++Ri Eg.t (es.take i) pts⟩) (fun i=>es.length-i) ?_ 0
    (B3 _) ⟨rfl,by rw[←Lc es];rfl,rfl,rfl,trivial⟩ ?_ rfl (by simp) rfl ?_ (fun _=>inferInstance) (fun i=>⟨?_⟩)
   ·intro i hi IH;refine C7 (fun h=>?_) (fun h=>?_)
    ·have hlt:i<es.length:=by have:=A5 h;omega
     obtain⟨⟨ef,et,ek,ey,en⟩,he⟩:=Ab es hlt;obtain⟨⟨q1,q2⟩,q3,q4⟩:=hp3 _ (Bh he);simp only at q1 q2 q3 q4;obtain⟨j,rfl⟩:=Int.eq_ofNat_of_zero_le q1;obtain⟨j',rfl⟩:=Int.eq_ofNat_of_zero_le q3;have hj:j<pts:=by omega
     have hj':j'<pts:=by omega
     refine B4 i (by omega) (Gm he) ?_;refine D8 327680 ?_;refine A2 (Gd (j:=j) rfl rfl rfl rfl rfl rfl rfl rfl (by simpa[Fw]using hj) rfl (Hf 0 Eg.f _ hj) rfl) ?_;refine A2 (Qd rfl (Hf 0 Eg.f _ hj) rfl rfl rfl rfl rfl rfl rfl) ?_;refine Fx ?_;have hlf:=Adf Eg.f j (es.take i) 0;have hlt':=Adf Eg.t j' (es.take i) 0;have htk:(es.take i).length=i:=by simp;omega
     have hlF:(Ri Eg.f (es.take i) pts).length=pts:=Jm _ _ _;have hkF:(Ri Eg.f (es.take i) pts++Ri Eg.t (es.take i) pts)[0+j]?=some (L3 Eg.f (es.take i) j).length:=by
      rw[Jy,Cs (by omega)];exact Y4 _ _ hj
     refine Dz (S':=⟨[[Af n],[Af (A6 n)],[[vi 0,str []]],[prow (.bsl 4 pts) (.bsl 5 pts)],Wq 0 Eg.f (es.take i) pts,Wq pts Eg.t (es.take i) pts,[H5 ⟨j,j',ek,ey,en⟩]],Ri Eg.f (es.take (i+1)) pts++Ri Eg.t (es.take i) pts⟩)
      (Bu (res:=Uh (L3 Eg.f (es.take i) j++[i])) rfl rfl rfl rfl rfl rfl rfl rfl rfl rfl rfl rfl rfl hkF (N8 _) (Al3 _) rfl rfl rfl ?_ (Ada _ i) ?_) ?_ ?_
     ·rw[N8];unfold L3;show _+1≤_;omega
     ·show (Ri Eg.f (es.take i) pts++Ri Eg.t (es.take i) pts).set (0+j) ((Uh (L3 Eg.f (es.take i) j)).length+1)=_;rw[Jy,N8,List.set_append_left _ _ (by omega),Apa Eg.f he rfl]
     ·refine An (Qd rfl (Hf 0 Eg.f _ hj) rfl rfl rfl rfl rfl rfl rfl) (An (Gd (j:=j) rfl rfl rfl rfl rfl rfl rfl rfl (by simpa[Fw]using hj) rfl (Hf 0 Eg.f _ hj) rfl) ?_);exact An (Ck rfl rfl rfl) (An (Ck rfl rfl rfl) (An (Ck rfl rfl rfl) (An (Ck rfl rfl rfl) Gy)))
     refine P8 (An (Gd (j:=j) rfl rfl rfl rfl rfl rfl rfl rfl (by simpa[Fw]using hj) rfl (Hf 0 Eg.f _ hj) rfl) (An (Gd (j:=j) rfl rfl rfl rfl rfl rfl rfl rfl (by simpa[Fw]using hj) rfl (Hf 0 Eg.f _ hj) rfl) Gy)) rfl ?_;refine Ch (A7 rfl rfl rfl rfl rfl rfl (Xr rfl (Hf 0 Eg.f _ hj) rfl rfl rfl)) ?_;refine B2 ?_;refine Be ⟨[[Af n],[Af (A6 n)],[[vi 0,str []]],[prow (.bsl 4 pts) (.bsl 5 pts)],Wq 0 Eg.f (es.take (i+1)) pts,Wq pts Eg.t (es.take i) pts,[H5 ⟨j,j',ek,ey,en⟩]],Ri Eg.f (es.take (i+1)) pts++Ri Eg.t (es.take i) pts⟩ ?_ (by
      rw[←Apb 0 Eg.f he rfl];rfl)
     refine D8 327680 ?_;refine A2 (Gd (j:=j') rfl rfl rfl rfl rfl rfl rfl rfl (by simpa[Fw]using hj') rfl (Hf pts Eg.t _ hj') rfl) ?_;refine A2 (Qd rfl (Hf pts Eg.t _ hj') rfl rfl rfl rfl rfl rfl rfl) ?_;refine Fx ?_;have hkT:(Ri Eg.f (es.take (i+1)) pts++Ri Eg.t (es.take i) pts)[pts+j']?=some (L3 Eg.t (es.take i) j').length:=by
      rw[Gk (by rw[Jm];omega),Jm,Nat.add_sub_cancel_left];exact Y4 _ _ hj'
     refine Dz (S':=⟨[[Af n],[Af (A6 n)],[[vi 0,str []]],[prow (.bsl 4 pts) (.bsl 5 pts)],Wq 0 Eg.f (es.take (i+1)) pts,Wq pts Eg.t (es.take i) pts,[H5 ⟨j,j',ek,ey,en⟩]],Ri Eg.f (es.take (i+1)) pts++Ri Eg.t (es.take (i+1)) pts⟩)
      (Bu (res:=Uh (L3 Eg.t (es.take i) j'++[i])) rfl rfl rfl rfl rfl rfl rfl rfl rfl rfl rfl rfl rfl hkT (N8 _) (Al3 _) rfl rfl rfl ?_ (Ada _ i) ?_) ?_ ?_
     ·rw[N8];unfold L3;show _+1≤_;omega
     ·show (Ri Eg.f (es.take (i+1)) pts++Ri Eg.t (es.take i) pts).set (pts+j') ((Uh (L3 Eg.t (es.take i) j')).length+1)=_;rw[N8,Iw _ _ (by rw[Jm];omega),Jm,Nat.add_sub_cancel_left,Apa Eg.t he rfl]
     ·refine An (Qd rfl (Hf pts Eg.t _ hj') rfl rfl rfl rfl rfl rfl rfl) (An (Gd (j:=j') rfl rfl rfl rfl rfl rfl rfl rfl (by simpa[Fw]using hj') rfl (Hf pts Eg.t _ hj') rfl) ?_);exact An (Ck rfl rfl rfl) (An (Ck rfl rfl rfl) (An (Ck rfl rfl rfl) (An (Ck rfl rfl rfl) Gy)))
     refine P8 (An (Gd (j:=j') rfl rfl rfl rfl rfl rfl rfl rfl (by simpa[Fw]using hj') rfl (Hf pts Eg.t _ hj') rfl) (An (Gd (j:=j') rfl rfl rfl rfl rfl rfl rfl rfl (by simpa[Fw]using hj') rfl (Hf pts Eg.t _ hj') rfl) Gy)) rfl ?_;refine Ch (A7 rfl rfl rfl rfl rfl rfl (Xr rfl (Hf pts Eg.t _ hj') rfl rfl rfl)) ?_;refine B2 ?_;refine Be ⟨[[Af n],[Af (A6 n)],[[vi 0,str []]],[prow (.bsl 4 pts) (.bsl 5 pts)],Wq 0 Eg.f (es.take (i+1)) pts,Wq pts Eg.t (es.take (i+1)) pts,[H5 ⟨j,j',ek,ey,en⟩]],Ri Eg.f (es.take (i+1)) pts++Ri Eg.t (es.take (i+1)) pts⟩ ?_ (by
      rw[←Apb pts Eg.t he rfl];rfl)
     refine IH (i+1) hlt (by omega) _ _ ⟨vsx (by omega),rfl,rfl,rfl,trivial⟩ ?_ rfl ?_
     ·exact congrArg (St.mk _) (List.take_of_length_le (by simp[Jm]))
     ·show Nat.ble (pts+pts) (Ri Eg.f (es.take (i+1)) pts++Ri Eg.t (es.take (i+1)) pts).length=true;simp[Jm]
    ·have:i=es.length:=by have:=Ba h;omega
     subst this;rw[I2];have f1:=Ato (S:=⟨[[Af n],[Af (A6 n)],[[vi 0,str []]],[prow (.bsl 4 pts) (.bsl 5 pts)],Wq 0 Eg.f es pts,Wq pts Eg.t es pts],Ri Eg.f es pts++Ri Eg.t es pts⟩) (b:=4) (m:=0) (pts:=pts) Eg.f es rfl (by unfold Pg;omega);have f2:=Ato (S:=⟨[[Af n],[Af (A6 n)],[[vi 0,str []]],[prow (.bsl 4 pts) (.bsl 5 pts)],Wq 0 Eg.f es pts,Wq pts Eg.t es pts],Ri Eg.f es pts++Ri Eg.t es pts⟩) (b:=5) (m:=pts) (pts:=pts) Eg.t es rfl (by unfold Pg;omega)
     haveI i1:FzC ⟨[[Af n],[Af (A6 n)],[[vi 0,str []]],[prow (.bsl 4 pts) (.bsl 5 pts)],Wq 0 Eg.f es pts,Wq pts Eg.t es pts],Ri Eg.f es pts++Ri Eg.t es pts⟩ 0 0 (.bsl 4 pts) (.sl (Wg Eg.f es pts) .no):=⟨f1⟩
     haveI i2:FzC ⟨[[Af n],[Af (A6 n)],[[vi 0,str []]],[prow (.bsl 4 pts) (.bsl 5 pts)],Wq 0 Eg.f es pts,Wq pts Eg.t es pts],Ri Eg.f es pts++Ri Eg.t es pts⟩ 0 0 (.bsl 5 pts) (.sl (Wg Eg.t es pts) .no):=⟨f2⟩
     exact As func52 rfl
   ·exact congrArg (St.mk _) (List.take_of_length_le (by simp[Jm]))
   ·show Nat.ble (pts+pts) (Ri Eg.f (es.take 0) pts++Ri Eg.t (es.take 0) pts).length=true;simp[Jm]
   ·intro rows hrows;simp only[zzq13,Ww,or_false]at hrows;rcases hrows with rfl|rfl|rfl|rfl|rfl|rfl
    ·exact(inferInstance:OKR 6 (pts+pts) [Af n]).ok
    ·exact(inferInstance:OKR 6 (pts+pts) [Af (A6 n)]).ok
    ·exact(inferInstance:OKR 6 (pts+pts) [[vi 0,str []]]).ok
    ·exact(inferInstance:OKR 6 (pts+pts) [vi pts::.sl (Fv es) .no::.sl (Dl (Ax n 31)) .no::.sl (Dl (Ax n 32)) .no::.sl (Fe (Ei n)) .no::.bsl 4 pts::.bsl 5 pts::Af (A6 n)]).ok
    ·exact Avk Eg.f _ (by omega)
    ·exact Avk Eg.t _ (by omega)
  refine Be ⟨[[Af n],[Af (A6 n)],[[vi 0,str []]],[prow (.sl [] .tight) (.sl [] .tight)]],[]⟩ ?_;refine If 6 (.ptr 3 0 0) ?_;refine Av5 fun l hord=>?_;rcases Arr (show 7≠13 by decide) l (fun _=>false)with h1|h1
  ·rcases Arr (show 13≠16 by decide) l (fun _=>false)with h2|h2
   ·refine Alg [0,1,2,3,4,5,6,8,9,10,11,12,7,13,14,15,16,17,18,19] [(7,13),(13,16)] 598144 ?_ rfl ?_
    ·intro ab hab;simp only[zzq13,Ww,or_false]at hab;rcases hab with rfl|rfl
     ·exact h1
     ·exact h2
    refine Agv 12 ?_;refine Ak4 (Il (n:=pts) (b:=4) (by omega) rfl rfl rfl rfl rfl rfl rfl rfl rfl rfl) ?_ ?_
    ·exact An (Ck rfl rfl rfl) (An (Ck rfl rfl rfl) Gy)
    refine N3 (Il (n:=pts) (b:=5) (by omega) rfl rfl rfl rfl rfl rfl rfl rfl rfl rfl) ?_;refine Nq ?_;refine Nq ?_;refine N3 (A7 rfl rfl rfl rfl rfl rfl rfl) ?_;refine Nq ?_;refine Nq ?_;refine N3 (A7 rfl rfl rfl rfl rfl rfl rfl) ?_;refine Agw 6 ?_;refine Be ⟨bxs (.bsl 4 pts) (.bsl 5 pts),[]⟩ ?_;refine Ts (G:=[(6,.ptr 3 0 0)]) ⟨rfl,trivial⟩ ?_;exact L6
   ·refine Alg [0,1,2,3,4,5,6,8,9,10,11,12,7,14,15,16,13,17,18,19] [(7,13),(16,13)] 598144 ?_ rfl ?_
    ·intro ab hab;simp only[zzq13,Ww,or_false]at hab;rcases hab with rfl|rfl
     ·exact h1
     ·exact h2
    refine Agv 12 ?_;refine Ak4 (Il (n:=pts) (b:=4) (by omega) rfl rfl rfl rfl rfl rfl rfl rfl rfl rfl) ?_ ?_
    ·exact An (Ck rfl rfl rfl) (An (Ck rfl rfl rfl) Gy)
    refine Nq ?_;refine Nq ?_;refine N3 (A7 rfl rfl rfl rfl rfl rfl rfl) ?_;refine N3 (Il (n:=pts) (b:=5) (by omega) rfl rfl rfl rfl rfl rfl rfl rfl rfl rfl) ?_;refine Nq ?_;refine Nq ?_;refine N3 (A7 rfl rfl rfl rfl rfl rfl rfl) ?_;refine Agw 6 ?_;refine Be ⟨bxs (.bsl 4 pts) (.bsl 5 pts),[]⟩ ?_;refine Ts (G:=[(6,.ptr 3 0 0)]) ⟨rfl,trivial⟩ ?_;exact L6
  ·have h2:AB 13 16 l (fun _=>false):=Azu (b:=7) (by decide) (by kernel_rfl) l _ hord h1 (fun h=>by cases h);refine Alg [0,1,2,3,4,5,6,8,9,10,11,12,13,7,14,15,16,17,18,19] [(13,7),(13,16)] 598144 ?_ rfl ?_
   ·intro ab hab;simp only[zzq13,Ww,or_false]at hab;rcases hab with rfl|rfl
    ·exact h1
    ·exact h2
   refine Agv 12 ?_;refine Ak4 (Il (n:=pts) (b:=4) (by omega) rfl rfl rfl rfl rfl rfl rfl rfl rfl rfl) ?_ ?_
   ·exact An (Ck rfl rfl rfl) (An (Ck rfl rfl rfl) Gy)
   refine N3 (Il (n:=pts) (b:=5) (by omega) rfl rfl rfl rfl rfl rfl rfl rfl rfl rfl) ?_;refine Nq ?_;refine Nq ?_;refine N3 (A7 rfl rfl rfl rfl rfl rfl rfl) ?_;refine Nq ?_;refine Nq ?_;refine N3 (A7 rfl rfl rfl rfl rfl rfl rfl) ?_;refine Agw 6 ?_;refine Be ⟨bxs (.bsl 5 pts) (.bsl 4 pts),[]⟩ ?_;refine Av2 (G:=[(6,.ptr 3 0 0)]) (bx3:=[[Af n],[Af (A6 n)],[[vi 0,str []]],[vi pts::.sl (Fv es) .no::.sl (Dl (Ax n 31)) .no::.sl (Dl (Ax n 32)) .no::.sl (Fe (Ei n)) .no::.bsl 5 pts::.bsl 4 pts::Af (A6 n)],List.replicate pts [.sl [] .tight],List.replicate pts [.sl [] .tight]]) (bx2:=[[Af n],[Af (A6 n)],[[vi 0,str []]],[vi pts::.sl (Fv es) .no::.sl (Dl (Ax n 31)) .no::.sl (Dl (Ax n 32)) .no::.sl (Fe (Ei n)) .no::.bsl 4 pts::.bsl 5 pts::Af (A6 n)],List.replicate pts [.sl [] .tight],List.replicate pts [.sl [] .tight]]) [0,1,2,3,5,4] ?_ (.cons rfl inferInstance .nil) rfl rfl rfl rfl rfl;exact L6
 ·rw[if_neg hr];have h0:((E4 n).1==0)=false:=by unfold Fy at hr;simpa using hr
  refine A0 ?_ (ht:=by rw[h0];rfl);exact As func52 rfl
instance{n m:Nat}{f:Eg→Int}{l:List Eg}{pts:Nat}:OKR n m (Wg f l pts):=⟨fun r hr x hx=>by
 obtain⟨p,_,rfl⟩:=zzq66.1 hr;simp at hx;subst hx;exact(inferInstance:OK n m (.sl (Uh (L3 f l p)) .no)).ok⟩
instance{n m:Nat}{x:Nd}:OKL n m (Mh x):=⟨(inferInstance:OKL n m (vi (D6 (A9 x)).pts::.sl (Fv (Lx (A9 x))) .no::.sl (Dl (Ax x 31)) .no::.sl (Dl (Ax x 32)) .no::.sl (Fe (Ei x)) .no ::
 .sl (Wg Eg.f (Lx (A9 x)) (D6 (A9 x)).pts) .no::.sl (Wg Eg.t (Lx (A9 x)) (D6 (A9 x)).pts) .no::Af (A6 x))).ok⟩
theorem G9(n:Nd)(k:Int):(Ax n k).length≤n.kids.length:=by rw[Ag9,Py];exact Ac0 n k
section
variable (n:Nd)(hl:n.kids.length≤100000)
theorem Xk(s:List UInt8)(hl:n.kids.length≤100000):Pure X 188 [.cptr (Mh n),str s] (vi (E6 0 (Ax n 31) s)):=by
 have:=G9 n 31;refine Pure.run func188 ?_;refine Al (Acb (Ax n 31) s (by omega)) ?_;exact As func188 rfl
theorem Aia(s:List UInt8)(hl:n.kids.length≤100000):Pure X 55 [.cptr (Mh n),str s] (vi (E6 0 (Ax n 32) s)):=by
 have:=G9 n 32;refine Pure.run func55 ?_;refine Al (Acb (Ax n 32) s (by omega)) ?_;exact As func55 rfl
end
def Kp(n:Nd):List AV:=[.sl (Dl (Ax n 31)) .no,.sl (Dl (Ax n 32)) .no,.sl (Fe (Ei n)) .no,vi (D6 (A9 n)).pts,.sl (Fv (Lx (A9 n))) .no]
instance{n m:Nat}{x:Nd}:OKL n m (Kp x):=⟨(inferInstance:OKL n m [.sl (Dl (Ax x 31)) .no,.sl (Dl (Ax x 32)) .no,.sl (Fe (Ei x)) .no,vi (D6 (A9 x)).pts,.sl (Fv (Lx (A9 x))) .no]).ok⟩
theorem A15(n:Nd)(hr:Fy n=true):Pure X 48 [nd n] (.agg (Kp n)):=by
 obtain⟨fp,_,hw,_,_⟩:=Iz hr;refine Pure.run func48 ?_;refine D8 512 ?_;refine Ce (Sk n 31 (by omega)) ?_;refine Ce (Sk n 32 (by omega)) ?_;refine Ce (Ax9 n (by omega)) ?_;refine Ce (Aw7 n fp (by omega)) ?_;refine Ch (A7 rfl rfl rfl rfl rfl rfl rfl) ?_;refine B2 ?_;exact As func48 rfl
end Go.V
namespace Go.V
open Go
section
variable {X:Cx}{B:Bx}{S:St}{F:C5}{N:Nat}{ops:Array Oper}{i:Nat}{o:Oper}{p q:Operand}
theorem Acl{t e m b r o1 o2:Nat}{ik:IntKind}{n:Int}{y ye:Ty}(h0:0≤n)(h1:n<(m:Int))(ho:ops[i]?=some o:=by rfl)(hw:A8 ops F o=some true:=by rfl)(hop:o.op=.indexAddr t p q:=by rfl)
 (hp:Dw X F p=some (.ptr b r o1):=by rfl)(hq:Dw X F q=some (.val (.int ik n)):=by rfl)(hy:X.ty t=some y:=by rfl)(hyk:y.k=.arr m e:=by rfl)(hye:X.ty e=some ye:=by rfl)(he:Aps o1 (n.toNat*ye.size)=o2:=by rfl) :
 Ndo X N ops i o F (.ptr b r o2) S S:=by
 subst he;rw[Ab0];refine Dj ho hw fun F' E w a hc hI hF=>?_;rw[hop]at hc;have r1:=Ak hI hF ((hc p (by simp[Op.operands])).trans hp);have r2:=Ak hI hF ((hc q (by simp[Op.operands])).trans hq);obtain⟨d,hdd,hd2⟩:=(X.ty_ok t y hy).agg;simp only[hyk]at hd2;obtain⟨rfl,ye',hye',_⟩:=hd2;rw[hye]at hye';cases hye';generalize hu:a.eval p=u at r1;generalize hv:a.eval q=v at r2;cases r2;cases r1 with
 |ptr _ _ _ blk sz h=>
  refine⟨.pointer (some ⟨blk,r*sz+o1+n.toNat*ye.size,none⟩),?_,?_⟩
  ·simp[execOp,hop,hu,hv,Instr.indexAt,asIntOf,run_underlying hdd,Instr.sureAddr,h0,h1,Dr hye,Ge]
  ·rw[Mj];exact .ptr b r _ blk sz h
theorem W5{t:TypeId}{m e:Nat}{y:Ty}(ho:ops[i]?=some o:=by rfl)(hw:A8 ops F o=some true:=by rfl)(hop:o.op=.build t #[]:=by rfl)(hy:X.ty t=some y:=by rfl)(hk:y.k=.arr m e:=by rfl):Ndo X N ops i o F (.agg y.zero) S S:=by
 refine Dj ho hw fun F' E w a hc hI hF=>?_;obtain⟨d,hd,hdd⟩:=(X.ty_ok t y hy).agg;simp only[hk]at hdd;obtain⟨rfl,ye,hye,_⟩:=hdd;obtain⟨ie,_,hie,_⟩:=(X.ty_ok e ye hye).info;obtain⟨z,_,hzc,hl,i,hi,hiz,his,_⟩:=Jx hy w;have hrun:=run_build (P:=X.P) w t #[] z.cells (by simp[Program.built,hi,hd,hiz,hie,Instr.fill]);refine⟨.agg z.cells,by simp[execOp,hop,hrun],?_⟩;refine .agg z.cells _ (by rw[←hzc];simp) (fun j v x hv hx=>?_);rw[←hzc]at hx;simp only[Gl,Td,hv,Lk]at hx;cases hx;exact Mx v
end
end Go.V
namespace Go.V
open Go Go.Proofs Go.Proofs.Tryz
inductive LnI:Nd→Prop where
 |mk (k:Int) (s:List UInt8) (m:Int) (ks:List Nd) (hs:s.length≤9223372036854775807) (hl:ks.length≤9223372036854775807) (hk:∀x,x∈ks→LnI x):LnI (.mk k s m ks)
theorem LnI.get{n:Nd}(h:LnI n):n.name.length≤9223372036854775807∧n.kids.length≤9223372036854775807∧∀x,x∈n.kids→LnI x:=by
 cases h with|mk k s m ks h0 h1 hk=>exact⟨h0,h1,hk⟩
mutual
def swN:Nd→Nat
 |.mk _ s _ ks=>s.length+(ks.length+swL ks)
def swL:List Nd→Nat
 |[]=>0
 |x::l=>swN x+swL l
end
theorem A2r(n:Nd):swN n=n.name.length+(n.kids.length+swL n.kids):=by cases n;rw[swN];rfl
theorem A4v:(∀n:Nd,wN n≤1+swN n)∧∀l:List Nd,wL l≤l.length+swL l:=by
 refine Ro (fun k s m ks ih=>?_) (Bo _) (fun x l hx hl=>?_)
 ·simp only[wN,swN];omega
 ·simp only[wL,swL,Nn];omega
def szR(w:Nat)(left:Int):Int:=if (w:Int)≤left then left-w else -1
theorem Aim{a b:Nat}{left:Int}(h:(a:Int)≤left):szR (a+b) left=szR b (left-a):=by
 unfold szR;by_cases h2:((a+b:Nat):Int)≤left
 ·rw[if_pos h2,if_pos (by omega)];omega
 ·rw[if_neg h2,if_neg (by omega)]
theorem Am2{a b:Nat}{left:Int}(h:left<a):szR (a+b) left=-1:=by
 unfold szR;rw[if_neg (by omega)]
theorem Ao7{w:Nat}{left:Int}(h0:0≤left)(h:szR w left<0):szR w left=-1∧left<w:=by
 unfold szR at h⊢;split at h
 ·rename_i h2;rw[if_pos h2];omega
 ·rename_i h2;rw[if_neg h2];omega
theorem Ao8{w:Nat}{left:Int}(h:0≤szR w left):szR w left=left-w∧(w:Int)≤left:=by
 unfold szR at h⊢;split at h
 ·rename_i h2;rw[if_pos h2];omega
 ·omega
theorem A4s(l:List Nd)(left:Int)(h0:0≤left)(h1:left≤1048576)(hl:l.length≤9223372036854775807)(ih:∀x,x∈l→∀lf:Int,0≤lf→lf≤1048576→Pure X 10 [nd x,vi lf] (vi (szR (swN x) lf))) :
 Pure X 46 [.sl (Ap l) .no,vi left] (vi (szR (l.length+swL l) left)):=by
 have hw:IntKind.i64.wrap (left-(Ap l).length)=left-l.length:=by rw[Ad];exact Ac (by omega) (by omega)
 refine Pure.run func46 ?_;refine Ah (fun g=>?_) (fun g=>?_)
 ·have g':=A5 g;rw[hw]at g';refine As func46 ?_;rw[Am2 (by omega)]
 have g':=Ba g;rw[hw]at g';have e0:szR (l.length+swL l) left=szR (swL l) (IntKind.i64.wrap (left-(Ap l).length)):=by rw[hw,Aim (by omega)]
 rw[e0];have hb:0≤IntKind.i64.wrap (left-(Ap l).length)∧IntKind.i64.wrap (left-(Ap l).length)≤1048576:=by rw[hw];omega
 generalize IntKind.i64.wrap (left-(Ap l).length)=lf0 at hb;refine Ar (ι:=Nat×Int) 0 0 (fun i=>i.1≤l.length∧0≤i.2∧i.2≤1048576∧szR (swL l) lf0=szR (swL (l.drop i.1)) i.2) (fun i=>[(5,vi i.1),(1,vi i.2),(0,.sl (Ap l) .no)]) (fun _=>⟨[],[]⟩) (fun i=>l.length-i.1) ?_ (0,lf0) ⟨B3 _,hb.1,hb.2,rfl⟩
  ⟨rfl,rfl,rfl,trivial⟩
 rintro⟨i,lf⟩ ⟨hi,hp0,hp1,hT⟩ IH;simp only at hi hp0 hp1 hT IH⊢;refine C7 (fun h=>?_) (fun h=>?_)
 ·have hlt:i<l.length:=by have:=A5 h;rw[Ad]at this;omega
  obtain⟨x,hx⟩:=Ab l hlt;rw[B6 hx]at hT;simp only[swL]at hT;refine B4 i (by omega) (Am hx) ?_;refine Al (ih x (Bh hx) lf hp0 hp1) ?_;refine Ah (fun g2=>?_) (fun g2=>?_)
  ·have g2':=Ao7 hp0 (A5 g2);refine As func46 ?_;rw[hT,Am2 g2'.2]
  ·have g2':=Ao8 (show 0≤szR (swN x) lf by have:=Ba g2;omega);refine IH (i+1,szR (swN x) lf) ⟨hlt,?_,?_,?_⟩ (by simp only;omega) _ _ ⟨Ci ((Ac (by omega) (by omega)).trans (by simp)),rfl,rfl,trivial⟩ rfl rfl rfl
   ·show 0≤szR (swN x) lf;omega
   ·show szR (swN x) lf≤_;omega
   ·rw[hT,Aim g2'.2,g2'.1]
 ·have:i=l.length:=by have:=Ba h;rw[Ad]at this;omega
  subst this;rw[Hz]at hT;refine As func46 ?_;rw[hT];unfold szR swL;rw[if_pos (by simpa using hp0)];simp
theorem A5h(n:Nd)(hln:LnI n):∀left:Int,0≤left→left≤1048576→Pure X 10 [nd n,vi left] (vi (szR (swN n) left)):=by
 induction n using Nd.ind with
 |h n ih=>
 intro left h0 h1;obtain⟨ha,hb,hk⟩:=hln.get;have hw:IntKind.i64.wrap (left-(⟨⟨n.name⟩⟩:ByteArray).size)=left-n.name.length:=by rw[F9];exact Ac (by omega) (by omega)
 rw[A2r];refine Pure.run func10 ?_;refine Ah (fun g=>?_) (fun g=>?_)
 ·have g':=A5 g;rw[hw]at g';refine As func10 ?_;rw[Am2 (by omega)]
 have g':=Ba g;rw[hw]at g';have e0:szR (n.name.length+(n.kids.length+swL n.kids)) left=szR (n.kids.length+swL n.kids) (IntKind.i64.wrap (left-(⟨⟨n.name⟩⟩:ByteArray).size)):=by rw[hw,Aim (by omega)]
 rw[e0];have hb2:0≤IntKind.i64.wrap (left-(⟨⟨n.name⟩⟩:ByteArray).size)∧IntKind.i64.wrap (left-(⟨⟨n.name⟩⟩:ByteArray).size)≤1048576:=by rw[hw];omega
 refine Al (A4s n.kids _ hb2.1 hb2.2 hb (fun x hx lf=>ih x hx (hk x hx) lf)) ?_;generalize IntKind.i64.wrap (left-(⟨⟨n.name⟩⟩:ByteArray).size)=lf at hb2⊢;refine Ah (fun g2=>?_) (fun g2=>?_)
 ·have g2':=Ao7 hb2.1 (A5 g2);refine As func10 ?_;rw[g2'.1]
 ·exact As func10 rfl
theorem Ayu{l:List Nd}{i:Nat}{x:Nd}(h:l[i]?=some x):(rB (l.take i) (l.length-i)).set i (Af x)=rB (l.take (i+1)) (l.length-(i+1)):=by
 have hi:=Aa h;obtain⟨c,hc⟩:∃c,l.length-i=c+1:=⟨l.length-i-1,by omega⟩
 have hc2:l.length-(i+1)=c:=by omega
 rw[hc,hc2,rB,rB,G8,h,Aav,Aag,List.replicate_succ];have:(Ap (l.take i)).length=i:=by rw[Ad,Vd];omega
 rw[Iw _ _ (by omega),this,Ik,List.set_cons_zero,Fp];rw[Au [x]];rfl
theorem A4t(l:List Nd)(hl:l.length≤1000000000)(ih:∀x,x∈l→Pure X 12 [nd x] (nd x)):Pure X 51 [.sl (Ap l) .no] (.sl (Ap l) .no):=by
 refine Pure.run func51 ?_;refine Bn (Il (n:=(Ap l).length) (b:=0) (by rw[Ad];exact hl) rfl rfl rfl rfl rfl rfl rfl rfl rfl rfl) ?_;refine Ar (ι:=Nat) 1 0 (fun i=>i≤l.length) (fun i=>[(4,vi i),(3,.bsl 0 l.length),(0,.sl (Ap l) .no)]) (fun i=>⟨[rB (l.take i) (l.length-i)],[]⟩) (fun i=>l.length-i) ?_ 0 (B3 _)
  ⟨rfl,by rw[←Ad l];rfl,rfl,trivial⟩ (by rw[←Ad l];rfl)
 intro i hi IH;refine C7 (fun h=>?_) (fun h=>?_)
 ·have hlt:i<l.length:=by have:=A5 h;rw[Ad]at this;omega
  obtain⟨x,hx⟩:=Ab l hlt;have hr:(rB (l.take i) (l.length-i))[i]?=some zN:=by
   have:(Ap (l.take i)).length=i:=by rw[Ad,Vd];omega
   rw[rB,Gk (by omega),this,Ik,Aph,if_pos (by omega)]
  refine B4 i (by omega) (Am hx) ?_;refine Al (ih x (Bh hx)) ?_;refine Zh i hlt hr ?_;refine Ags hr ?_;refine IH (i+1) hlt (by omega) _ _ ⟨vsx (by omega),rfl,rfl,trivial⟩ ?_ rfl rfl;rw[←Ayu hx];rfl
 ·have:i=l.length:=by have:=Ba h;rw[Ad]at this;omega
  subst this;refine Anf func51 (b:=0) (l:=l) (c:=l.length-l.length) ?_ hl;rw[I2];rfl
theorem A2t(n:Nd)(hn:Ai n≤1000000000):Pure X 12 [nd n] (nd n):=by
 induction n using Nd.ind with
 |h n ih=>
 have hcn:=Cj n;have hll:=Bm n.kids;refine Pure.run func12 ?_;refine Al (A4t n.kids (by omega) (fun x hx=>ih x hx (by have:=E5 hx;omega))) ?_;exact As func12 rfl
theorem A4r(l:List Nd)(hl:l.length≤1000000000)(ih:∀x,x∈l→Pure X 15 [nd x,nd x] (vb true)):Pure X 58 [.sl (Ap l) .no,.sl (Ap l) .no] (vb true):=by
 refine Pure.run func58 ?_;refine Ag ?_ (ht:=by simp);refine Ar (ι:=Nat) 0 0 (fun i=>i≤l.length) (fun i=>[(5,vi i),(0,.sl (Ap l) .no),(1,.sl (Ap l) .no)]) (fun i=>⟨[],[]⟩) (fun i=>l.length-i) ?_ 0 (B3 _)
  ⟨rfl,rfl,rfl,trivial⟩
 intro i hi IH;refine C7 (fun h=>?_) (fun h=>?_)
 ·have hlt:i<l.length:=by have:=A5 h;rw[Ad]at this;omega
  obtain⟨x,hx⟩:=Ab l hlt;refine D8 0 ?_;refine Db i (by omega) (Am hx) ?_;refine Db i (by omega) (Am hx) ?_;refine Ce (ih x (Bh hx)) ?_;refine B2 ?_;refine Ag ?_;exact IH (i+1) hlt (by omega) _ _ ⟨vsx (by omega),rfl,rfl,trivial⟩ rfl rfl rfl
 ·exact As func58 rfl
theorem A5g(n:Nd)(hn:Ai n≤1000000000):Pure X 15 [nd n,nd n] (vb true):=by
 induction n using Nd.ind with
 |h n ih=>
 have hcn:=Cj n;have hll:=Bm n.kids;refine Pure.run func15 ?_;refine Ag ?_ (ht:=by simp);refine Ag ?_ (ht:=by simp);refine Ag ?_ (ht:=by simp);refine Al (A4r n.kids (by omega) (fun x hx=>ih x hx (by have:=E5 hx;omega))) ?_;refine Ag ?_;exact As func15 rfl
def E0:Env:=⟨[],[],fun _ _=>False,[]⟩
theorem A3f(b o:Nat):¬E0.mt b o:=by
 rintro(h|⟨i,sz,h⟩|⟨t,l,c,sz,h,_⟩)
 ·exact h
 ·simp[E0]at h
 ·simp[E0]at h
theorem A32{α:Type}{l:List α}(h:l.length=4):∃a b c d,l=[a,b,c,d]:=by
 rcases l with _|⟨a,_|⟨b,_|⟨c,_|⟨d,_|⟨e,l⟩⟩⟩⟩⟩<;>simp at h;exact⟨a,b,c,d,rfl⟩
def RelL(w:World)(cs:List Value)(l:List AV):Prop:=cs.length=l.length∧∀(j:Nat)(v:Value)(x:AV),cs[j]?=some v→l[j]?=some x→Rel E0 w v x
theorem RelL.one{w:World}{v:Value}{x:AV}(h:Rel E0 w v x):RelL w [v] [x]:=⟨rfl,fun j v' x' h1 h2=>by
 cases j with
 |zero=>simp at h1 h2;subst h1;subst h2;exact h
 |succ j=>simp at h1⟩
theorem App{w:World}{v:Value}{x:AV}(h:RelL w [v] [x]):Rel E0 w v x:=h.2 0 v x rfl rfl
theorem RelL.nil{w:World}:RelL w [] []:=⟨rfl,fun j v x h=>by simp at h⟩
theorem RelL.cons{w:World}{v:Value}{x:AV}{cs:List Value}{l:List AV}(h:Rel E0 w v x)(t:RelL w cs l):RelL w (v::cs) (x::l):=
 ⟨by simp[t.1],fun j v' x' h1 h2=>by
   cases j with
   |zero=>simp at h1 h2;subst h1;subst h2;exact h
   |succ j=>exact t.2 j v' x' (by simpa using h1) (by simpa using h2)⟩
theorem RelL.agg{w:World}{cs:Array Value}{l:List AV}(h:RelL w cs.toList l):Rel E0 w (.agg cs) (.agg l):=.agg cs l (by simpa using h.1) (fun j v x h1 h2=>h.2 j v x (by simpa using h1) h2)
theorem Aoc{α:Type}{Q:Nat→α→Prop}:∀n:Nat,(∀i,i<n→∃x,Q i x)→∃l:List α,l.length=n∧∀i x,l[i]?=some x→Q i x
 |0,_=>⟨[],rfl,fun i x h=>by simp at h⟩
 |n+1,h=>by
  obtain⟨l,hl,hq⟩:=Aoc n (fun i hi=>h i (by omega));obtain⟨x,hx⟩:=h n (by omega);refine⟨l++[x],by simp[hl],fun i y hy=>?_⟩;rcases Gs i n with hi|hi
  ·rw[Cs (by omega)]at hy;exact hq i y hy
  ·rw[Gk (by omega)]at hy;have:i=n:=by
    have:=Aa hy;simp at this;omega
   subst this;simp[hl]at hy;subst hy;exact hx
section
variable {H:Type}{enc:TypeId×Value→H}{P:Program}{w:World}{sp:Nat→Bool}{held:Bool}
theorem Zs{a:Addr}{n:Nat}{cs:List Value}(h:w.cells? 0 a n=some cs):cs.length=n∧∀(j:Nat)(v:Value),cs[j]?=some v→w.cell? (a.add j)=some v:=by
 unfold World.cells? at h;rw[if_pos (B3 _)]at h;have key:∀(l:List Nat) (cs:List Value),(l.mapM fun i=>w.cell? (a.add i))=some cs→cs.length=l.length∧∀(j:Nat) (v:Value),cs[j]?=some v→∃k:Nat,l[j]?=some k∧w.cell? (a.add k)=some v:=by
  intro l
  induction l with
  |nil=>intro cs h;simp at h;subst h;exact⟨rfl,fun j v h=>by simp at h⟩
  |cons k l ih=>
   intro cs h;simp only[List.mapM_cons,Option.bind_eq_bind,Option.bind_eq_some_iff,Option.pure_def,Option.some.injEq]at h;obtain⟨v,hv,cs',hcs,rfl⟩:=h;obtain⟨h1,h2⟩:=ih cs' hcs;refine⟨by simp[h1],fun j u hu=>?_⟩;cases j with
   |zero=>simp at hu;subst hu;exact⟨k,rfl,hv⟩
   |succ j=>simpa using h2 j u (by simpa using hu)
 obtain⟨h1,h2⟩:=key _ _ h;refine⟨by simpa using h1,fun j v hv=>?_⟩;obtain⟨k,hk,hc⟩:=h2 j v hv;have:j<(List.range n).length:=Aa hk;simp at this;rw[Abn this]at hk;cases hk;exact hc
theorem X5{b o n:Nat}:(Addr.mk b o none).add n=⟨b,o+n,none⟩:=by
 unfold Addr.add;split
 ·rename_i h;subst h;rfl
 ·rfl
theorem Af1{α:Type}{t e sz fuel:Nat}{cs:List Value}{x:DataW H×List MemPlace}(cells:α→List AV)(Q:α→Prop)(ht:P.underlying t=some (.slice e))(hc:P.cellsOf e=sz)(hsz:0<sz)(hcell:∀y,(cells y).length=sz)
 (hel:∀n,fuel=n+1→∀(cs:List Value)(x:DataW H×List MemPlace),DataW.trod enc P w 0 sp held n e cs=some x→∃y:α,Q y∧RelL w cs (cells y))(h:DataW.trod enc P w 0 sp held fuel t cs=some x) :
 ∃l:List α,(∀y,y∈l→Q y)∧l.length≤9223372036854775807∧RelL w cs [.sl (l.map cells) .no]:=by
 rcases DataW.trod_slice ht h with⟨rfl,_⟩|⟨a,len,cap,elems,rest,n,hn,rfl,_,_,hcap,hmax,hlen,hall,_,_⟩
 ·refine⟨[],(fun y hy=>by cases hy),by simp,RelL.one ?_⟩;exact .sl [] .no none 0 0 0 0 0 (fun _ _=>default) rfl (B3 _) (fun h=>absurd rfl h) (fun r hr=>by cases hr) (fun i j h=>by omega) (fun i j h=>by omega) (fun i j r x h=>by simp at h) trivial (Bo _)
 ·have hml:maxLen=9223372036854775807:=by decide
  have hel':∀i,i<len→∃y:α,Q y∧∃cs',w.cells? 0 (a.add (i*sz)) sz=some cs'∧RelL w cs' (cells y):=fun i hi=>by
   have h1:=hall i hi;obtain⟨z,hz⟩:=Ab elems (i:=i) (by omega);rw[hz,hc]at h1;obtain⟨cs',h2,h3⟩:=Option.bind_eq_some_iff.1 h1;obtain⟨y,hq,hr⟩:=hel n hn cs' z h3;exact⟨y,hq,cs',h2,hr⟩
  obtain⟨l,hll,hl⟩:=Aoc len hel';have hQ:∀y,y∈l→Q y:=fun y hy=>by obtain⟨i,hi⟩:=Bs hy;exact(hl i y hi).1
  refine⟨l,hQ,by omega,RelL.one ?_⟩;have ha:len≠0→a=⟨a.block,a.off,none⟩:=fun h0=>by
   obtain⟨y,hy⟩:=Ab l (i:=0) (by omega);obtain⟨_,cs',h1,h2⟩:=hl 0 y hy;obtain⟨h3,h4⟩:=Zs h1;obtain⟨v,hv⟩:=Ab cs' (i:=0) (by omega);have h5:=h4 0 v hv;have h6:(a.add (0*sz)).add 0=a:=by simp[Addr.add]
   rw[h6]at h5;obtain⟨b,o,s⟩:=a;unfold World.cell? at h5;simp only at h5;split at h5
   ·split at h5
    ·cases h5
    ·rename_i hs;cases s with
     |none=>rfl
     |some s=>simp at hs
   ·cases h5
  have hcl:∀i j:Nat,i<len→j<sz→∃v,w.cell? ⟨a.block,a.off+i*sz+j,none⟩=some v:=fun i j hi hj=>by
   obtain⟨y,hy⟩:=Ab l (i:=i) (by omega);obtain⟨_,cs',h1,h2⟩:=hl i y hy;obtain⟨h3,h4⟩:=Zs h1;obtain⟨v,hv⟩:=Ab cs' (i:=j) (by omega);have h5:=h4 j v hv;rw[ha (by omega),X5,X5]at h5;exact⟨v,h5⟩
  refine .sl _ .no (some a) len cap a.block a.off sz (fun i j=>(w.cell? ⟨a.block,a.off+i*sz+j,none⟩).getD default) (by simp[hll]) (by unfold Pg;omega) (fun h0=>congrArg some (ha h0)) (fun r hr=>?_) (fun i j _ _=>A3f _ _) (fun i j hi hj=>?_) (fun i j r z h1 h2=>?_) trivial hcap
  ·obtain⟨y,_,rfl⟩:=zzq66.1 hr;exact hcell y
  ·obtain⟨v,hv⟩:=hcl i j hi hj;rw[hv];rfl
  ·simp only[Gl,zzq102]at h1;obtain⟨y,hy,rfl⟩:=h1;obtain⟨_,cs',h3,h4⟩:=hl i y hy;have hi:i<len:=by have:=Aa hy;omega
   have hj:j<sz:=by have:=Aa h2;rw[hcell]at this;exact this
   obtain⟨h5,h6⟩:=Zs h3;obtain⟨v,hv⟩:=Ab cs' (i:=j) (by omega);have h7:=h6 j v hv;rw[ha (by omega),X5,X5]at h7;show Rel E0 w ((w.cell? ⟨a.block,a.off+i*sz+j,none⟩).getD default) z;rw[h7];exact h4.2 j v z hv h2
theorem Am4{t fuel:Nat}{k:IntKind}{cs:List Value}{x:DataW H×List MemPlace}(ht:P.underlying t=some (.int k))(h:DataW.trod enc P w 0 sp held fuel t cs=some x):∃n:Int,k.min≤n∧n≤k.max∧cs=[.int k n]:=by
 obtain⟨n,rfl,_,h2⟩:=DataW.trod_int ht h;simp only[Lit.wf,Dd,Ke]at h2;exact⟨n,h2.1,h2.2,rfl⟩
theorem A2w{t fuel:Nat}{cs:List Value}{x:DataW H×List MemPlace}(ht:P.underlying t=some .string)(h:DataW.trod enc P w 0 sp held fuel t cs=some x):∃s:List UInt8,s.length≤9223372036854775807∧cs=[.string ⟨⟨s⟩⟩]:=by
 obtain⟨s,rfl,_,h2⟩:=DataW.trod_string ht h;obtain⟨⟨s⟩⟩:=s
 exact⟨s,by have:maxLen=9223372036854775807:=by decide
            have h3:s.length≤maxLen:=h2;omega,rfl⟩
end
theorem Axa{n:Int}(h0:IntKind.i64.min≤n)(h1:n≤IntKind.i64.max):-9223372036854775808≤n∧n≤9223372036854775807:=by
 have a:IntKind.i64.min=-9223372036854775808:=by decide
 have b:IntKind.i64.max=9223372036854775807:=by decide
 omega
section
variable {H:Type}{enc:TypeId×Value→H}{w:World}{sp:Nat→Bool}{held:Bool}
theorem Azn:∀(fuel:Nat)(cs:List Value)(x:DataW H×List MemPlace),DataW.trod enc prog w 0 sp held fuel 24 cs=some x→∃n:Nd,(PrI n∧LnI n)∧RelL w cs (Af n):=by
 intro fuel
 induction fuel using Nat.strongRecOn with
 |ind fuel ih=>
  intro cs x h;obtain⟨xs,n1,rfl,_,hl,hxs,hf⟩:=DataW.trod_struct underlying24 h;have hl4:cs.length=4:=hl.trans (by kernel_rfl);have hx4:xs.length=4:=hxs;obtain⟨c0,c1,c2,c3,rfl⟩:=A32 hl4;obtain⟨x0,hx0⟩:=Ab xs (i:=0) (by omega);obtain⟨x1,hx1⟩:=Ab xs (i:=1) (by omega);obtain⟨x2,hx2⟩:=Ab xs (i:=2) (by omega);obtain⟨x3,hx3⟩:=Ab xs (i:=3) (by omega);have c3e:prog.cellsOf 3=1:=by kernel_rfl
  have c9e:prog.cellsOf 9=1:=by kernel_rfl
  have cse:prog.cellsOf 22=1:=by kernel_rfl
  have f0:DataW.trod enc prog w 0 sp held n1 3 (([c0,c1,c2,c3].drop 0).take (prog.cellsOf 3))=some x0:=(hf 0 _ rfl).trans hx0;have f1:DataW.trod enc prog w 0 sp held n1 9 (([c0,c1,c2,c3].drop 1).take (prog.cellsOf 9))=some x1:=(hf 1 _ rfl).trans hx1;have f2:DataW.trod enc prog w 0 sp held n1 3 (([c0,c1,c2,c3].drop 2).take (prog.cellsOf 3))=some x2:=(hf 2 _ rfl).trans hx2;have f3:DataW.trod enc prog w 0 sp held n1 22 (([c0,c1,c2,c3].drop 3).take (prog.cellsOf 22))=some x3:=(hf 3 _ rfl).trans hx3;rw[c3e]at f0 f2;rw[c9e]at f1;rw[cse]at f3;obtain⟨k,k0,k1,e0⟩:=Am4 underlying3 f0;obtain⟨s,s0,e1⟩:=A2w underlying9 f1;obtain⟨m,m0,m1,e2⟩:=Am4 underlying3 f2;obtain⟨l,hq,hll,e3⟩:=Af1 Af (fun n=>PrI n∧LnI n) underlying22 (show prog.cellsOf 24=4 by kernel_rfl) (by decide) (fun y=>rfl) (fun n2 hn2 cs' x' hx'=>ih n2 (by omega) cs' x' hx') f3;have e0':c0=.int .i64 k:=(List.cons.inj e0).1;have e1':c1=.string ⟨⟨s⟩⟩:=(List.cons.inj e1).1;have e2':c2=.int .i64 m:=(List.cons.inj e2).1;have e3':RelL w [c3] [.sl (l.map Af) .no]:=e3;subst e0';subst e1';subst e2';obtain⟨m0,m1⟩:=Axa m0 m1;refine⟨.mk k s m l,⟨.mk k s m l m0 m1 fun x hx=>(hq x hx).1,.mk k s m l s0 hll fun x hx=>(hq x hx).2⟩,?_⟩;show RelL w _ [_,_,_,.sl (Ap l) .no];rw[Au];exact .cons (.val _) (.cons (.val _) (.cons (.val _) e3'))
end
end Go.V
namespace Go.V
open Go Go.Proofs Go.ChangeShapes Go.WideShapes Go.ChangeAt Go.RowKit Go.Proofs.Tryz
section
variable {H:Type}{enc:TypeId×Value→H}{P:Program}{w:World}{sp:Nat→Bool}{held:Bool}
theorem Avl{t e n fuel:Nat}{cs:List Value}{d:DataW H}{ps:List MemPlace}(ht:P.underlying t=some (.array n e))(h:DataW.trod enc P w 0 sp held fuel t cs=some (d,ps)) :
 ∃(xs:List (DataW H×List MemPlace)) (f:Nat),d=.agg (xs.map (·.1))∧cs.length=P.cellsOf t∧∀i,i<n→DataW.trod enc P w 0 sp held f e ((cs.drop (i*P.cellsOf e)).take (P.cellsOf e))=xs[i]?:=by
 cases fuel with
 |zero=>simp[DataW.trod]at h
 |succ f=>
  unfold DataW.trod at h;rw[ht]at h;split at h<;>simp_all;obtain⟨hl,xs,hp,hd,_⟩:=h;exact⟨xs,hd.symm,f,fun i hi=>mapM_some_get hp i i (by simp[hi])⟩
theorem Avm{t fuel:Nat}{ms:Array (String×TypeId)}{cs:List Value}{x:DataW H×List MemPlace}(ht:P.underlying t=some (.interface ms))(h:DataW.trod enc P w 0 sp held fuel t cs=some x):∃v,cs=[v]∧(v=.nilIface∨∃te pe,v=.iface te pe):=by
 cases fuel with
 |zero=>simp[DataW.trod]at h
 |succ f=>
  unfold DataW.trod at h;rw[ht]at h;split at h<;>simp_all
theorem Wr(hl:laidOutB P=true){W W':World}{sp':Nat→Bool}:∀{ts:List TypeId}{vs:List Value}{ds:List (DataW H)}{ps:List MemPlace},(∀t,t∈ts→P.readableRec t=true∧t<P.types.size) →
 DataW.TrodAll enc P W 0 (fun _=>true) true ts vs ds ps→(∀p∈ps,W.sameAt W' p)→(∀p∈ps,sp' p.block=true)→DataW.TrodAll enc P W' 0 sp' true ts vs ds ps
 |[],[],[],_,_,h,_,_=>h
 |t::ts,v::vs,d::ds,_,hr,⟨p,q,h1,h2,rfl⟩,hs,hb=>
  ⟨p,q,WideElems.Trod_stays hl (hr t (by simp)).1 (hr t (by simp)).2 h1 (fun x hx=>hs x (by simp[hx])) (fun x hx=>hb x (by simp[hx])),Wr hl (fun x hx=>hr x (by simp[hx])) h2 (fun x hx=>hs x (by simp[hx])) (fun x hx=>hb x (by simp[hx])),rfl⟩
 |[],_::_,_,_,_,h,_,_=>h.elim
 |[],[],_::_,_,_,h,_,_=>h.elim
 |_::_,[],_,_,_,h,_,_=>h.elim
 |_::_,_::_,[],_,_,h,_,_=>h.elim
theorem Aep(hl:laidOutB P=true){W W':World}{sp':Nat→Bool}{n:String}{gs:List (DataW H)}{ps:List MemPlace}{g t:Nat}(hg:P.globalNamed n=some g)(ht:(P.globals[g]?).map (·.type)=some t)(hr:P.readableRec t=true)(hlt:t<P.types.size)
 (hb:Below W.heap.size W W')(h:DataW.TrodVars enc P W (fun _=>true) [n] gs ps)(hs:∀p∈ps,W.sameAt W' p)(hsp:∀p∈ps,sp' p.block=true):DataW.TrodVars enc P W' sp' [n] gs ps:=by
 obtain⟨g',t',cs,fuel,d,p,rfl,h1,h2,h3,h4,rfl⟩:=trodVars_one h;obtain rfl:=Option.some.inj (hg.symm.trans h1);obtain rfl:=Option.some.inj (ht.symm.trans h2);have h5:DataW.Trod enc P W 0 (fun _=>true) true t (.agg cs) d p:=⟨fuel,h4⟩
 obtain⟨fuel',h6⟩:=WideElems.Trod_stays (sp':=sp') hl hr hlt h5 (fun x hx=>hs x (by simp[hx])) (fun x hx=>hsp x (by simp[hx]));refine trodVars_mk1 hg ht ?_ h6;unfold World.var? at h3⊢;rw[hg]at h3⊢;simp only[Option.bind_some]at h3⊢;have hgl:g<W.heap.size:=by
  rcases Gs g W.heap.size with h'|h'
  ·exact h'
  ·simp[Abv h']at h3
 rw[hb.block g hgl];exact h3
end
def laidL:List (String×DataW Unit):=[("math/bits.deBruijn32tab",YtojhghmilenfkaaGreatDoor.Rows.laid_math_bits_deBruijn32tab),("math/bits.deBruijn64tab",YtojhghmilenfkaaGreatDoor.Rows.laid_math_bits_deBruijn64tab),("internal/strconv.uint64pow10",YtojhghmilenfkaaGreatDoor.Rows.laid_internal_strconv_uint64pow10),
 ("strconv.ErrRange",YtojhghmilenfkaaGreatDoor.Rows.laid_strconv_ErrRange),("strconv.ErrSyntax",YtojhghmilenfkaaGreatDoor.Rows.laid_strconv_ErrSyntax),("loop.example/g00093/impl.condWords",YtojhghmilenfkaaGreatDoor.Rows.laid_loop_example_g00093_impl_condWords)
 ]
theorem Aqc{W:World}(h:laidMetH prog laidL W):laidMet prog laidL W:=by
 have e:(laidL.filter fun x=>x.2.handleName?.isSome)=[]:=by kernel_rfl
 unfold laidMetH at h;rw[e]at h;exact h
def condB:List (List UInt8):=[[60],[60,61],[62],[62,61],[61,61],[33,61]]
theorem Alr:condG=condB.map fun b=>.val (.string ⟨⟨b⟩⟩):=rfl
theorem Apv:(YtojhghmilenfkaaGreatDoor.Rows.laid_loop_example_g00093_impl_condWords:DataW Unit)=.agg (condB.map fun b=>.lit (.string b)):=rfl
theorem Atg{W:World}{n:String}{d:DataW Unit}{g:Nat}(hg:prog.globalNamed n=some g)(ht:(prog.globals[g]?).map (·.type)=some 340)(h:Lib.VarReads prog W n d):IfaceV W g:=by
 obtain⟨g',t',cs,fuel,p,h1,h2,h3,h4⟩:=h;obtain rfl:=Option.some.inj (hg.symm.trans h1);obtain rfl:=Option.some.inj (ht.symm.trans h2);obtain⟨v,h5,h6⟩:=Avm underlying340 h4;refine⟨v,?_,h6⟩;rw[World.var?_cell hg h3 0,←Td,h5];rfl
theorem A1b{W:World}(h:laidMetH prog laidL W):gOk W:=by
 have hm:=Aqc h;constructor
 ·intro j x hx;obtain⟨g',t',cs,fuel,p,h1,h2,h3,h4⟩:=Lib.laidMet.reads hm (n := "loop.example/g00093/impl.condWords") (d:=YtojhghmilenfkaaGreatDoor.Rows.laid_loop_example_g00093_impl_condWords) (by unfold laidL;simp);have hg:prog.globalNamed "loop.example/g00093/impl.condWords" = some 1:=by kernel_rfl
  have ht:(prog.globals[1]?).map (·.type)=some 338:=by kernel_rfl
  obtain rfl:=Option.some.inj (hg.symm.trans h1);obtain rfl:=Option.some.inj (ht.symm.trans h2);obtain⟨xs,f,hd,hl,hall⟩:=Avl underlying338 h4;have c9e:prog.cellsOf 9=1:=by kernel_rfl
  have cae:prog.cellsOf 338=6:=by kernel_rfl
  rw[cae]at hl;rw[Apv]at hd;have hd':condB.map (fun b=>(DataW.lit (.string b):DataW Unit))=xs.map (·.1):=DataW.agg.inj hd;rw[Alr]at hx;simp only[Gl,zzq102]at hx;obtain⟨b,hb,rfl⟩:=hx;have hj:j<6:=Aa hb;have h5:=hall j hj;rw[c9e,Nat.mul_one]at h5;have h6:=congrArg (fun l=>l[j]?) hd';simp only[Gl,hb,Lk]at h6;cases hxj:xs[j]? with
  |none=>rw[hxj]at h6;cases h6
  |some z=>
   rw[hxj]at h5 h6;obtain⟨s,h7,h8,_⟩:=DataW.trod_string underlying9 h5;have h9:DataW.lit (.string b)=z.1:=Option.some.inj h6;rw[h8]at h9;have h10:b=s.data.toList:=Lit.string.inj (DataW.lit.inj h9);obtain⟨v,hv⟩:=Ab cs.toList (i:=j) (by omega);have h11:cs.toList.drop j=v::cs.toList.drop (j+1):=B6 hv;rw[h11]at h7;have h12:v=.string s:=(List.cons.inj h7).1;refine⟨.string s,?_,?_⟩
   ·rw[World.var?_cell hg h3 j,←Td,hv,h12]
   ·rw[h10]
 ·obtain⟨g',t',cs,fuel,p,h1,h2,h3,h4⟩:=Lib.laidMet.reads hm (n := "internal/strconv.uint64pow10") (d:=YtojhghmilenfkaaGreatDoor.Rows.laid_internal_strconv_uint64pow10) (by unfold laidL;simp);have hg:prog.globalNamed "internal/strconv.uint64pow10" = some 2:=by kernel_rfl
  have ht:(prog.globals[2]?).map (·.type)=some 375:=by kernel_rfl
  obtain rfl:=Option.some.inj (hg.symm.trans h1);obtain rfl:=Option.some.inj (ht.symm.trans h2);have hd:(YtojhghmilenfkaaGreatDoor.Rows.laid_internal_strconv_uint64pow10:DataW Unit)=Lib.tabData .u64 Lib.pow10Tab:=by kernel_rfl
  rw[hd]at h4;have h5:=Lib.cells_of_tab underlying375 underlying361 (by kernel_rfl) (by kernel_rfl) h4;unfold World.var? at h3;rw[hg]at h3;simp only[Option.bind_some]at h3;split at h3
  ·rename_i c e z hh;refine⟨e,z,?_⟩;rw[hh];cases h3;rw[←Array.toArray_toList (xs:=cs),h5]
  ·cases h3
 ·exact Atg (by kernel_rfl) (by kernel_rfl) (Lib.laidMet.reads hm (n := "strconv.ErrSyntax") (d:=YtojhghmilenfkaaGreatDoor.Rows.laid_strconv_ErrSyntax) (by unfold laidL;simp))
 ·exact Atg (by kernel_rfl) (by kernel_rfl) (Lib.laidMet.reads hm (n := "strconv.ErrRange") (d:=YtojhghmilenfkaaGreatDoor.Rows.laid_strconv_ErrRange) (by unfold laidL;simp))
theorem A3v{W:World}(h:W.ShapedOpen prog):gK≤W.heap.size:=by
 obtain⟨o,_,h1,_⟩:=h.2 prog.globals.size (Bo _) (A5 (by kernel_rfl));have:=N7 h1;unfold gK;omega
theorem A44{W:World}(h1:gK≤W.heap.size)(h2:gOk W):Inv X E0 ⟨[],[]⟩ W where
 nb:=rfl
 nt:=rfl
 np i h:=by simp[E0]at h
 box i b sz rows h:=by simp[E0]at h
 tok t l b c sz h:=by simp[E0]at h
 bb i j b s s' h:=by simp[E0]at h
 bt i t b s l c sz h:=by simp[E0]at h
 tt i j b l c s l' c' s' h:=by simp[E0]at h
 frlt b o h:=h.elim
 lo b h:=by
  rcases h with⟨i,sz,h⟩|⟨t,l,c,sz,h⟩
  ·simp[E0]at h
  ·simp[E0]at h
 frlo b o h:=h.elim
 sz:=h1
 glob:=h2
theorem Ay7{f:FuncId}{xs:List AV}{W:World}{args:Array Value}(hP:Pure X f xs (vb true))(hs:W.ShapedOpen prog)(hL:laidMetH prog laidL W)(hA:RelL W args.toList xs) :
 Calls prog f args W fun e W'=>e=.returned (.bool true)∧Below W.heap.size W W':=by
 refine(hP.2 E0 W args rfl (A44 (A3v hs) (A1b hL)) (by simpa using hA.1) (fun j v x h1 h2=>hA.2 j v x (by simpa using h1) h2)).mono fun e W' he=>?_;obtain⟨E',S',h1,h2,h3⟩:=he;have ho:∀b,¬E0.own b:=fun b h=>by
  rcases h with⟨i,sz,h⟩|⟨t,l,c,sz,h⟩
  ·simp[E0]at h
  ·simp[E0]at h
 refine⟨?_,⟨h2.os,h2.tape,h2.output,h2.size,fun k hk=>h2.block k hk (ho k)⟩⟩;cases e with
 |returned v=>
  obtain⟨r,h4,h5,_⟩:=h3;injection h5 with h5;subst h5;cases h4;rfl
 |panicked ch=>exact absurd h3.1 (by intro h;cases h)
 |outgrown=>exact h3.elim
set_option maxRecDepth 100000
theorem Aqu{H:Type}{enc:TypeId×Value→H}{P:Program}{fn:Func}{s:ChangeSpec}{apart fresh handsOn:Bool}{W W':World}{args:Array Value}{ds gs:List (DataW H)}{before:List MemPlace}{n:String}{g t:Nat}
 (hl:laidOutB P=true)(hp:∀t,t∈fn.params.toList→P.readableRec t=true∧t<P.types.size)(hn:s.vars=[n])(hg:P.globalNamed n=some g)(ht:(P.globals[g]?).map (·.type)=some t)(hr:P.readableRec t=true)(hlt:t<P.types.size)
 (hW:DataW.Whole enc P fn.params.toList s.vars apart W args.toList ds gs before)(hb:Below W.heap.size W W')
 (hargs:∀g1,gs=[g1]→s.fn H (ds++gs)={ results:=[.lit (.bool true)],args:=ds,vars:=gs }){tb:Nat}(hres:fn.resultTypes=#[tb])(htb:P.underlying tb=some .bool) :
 s.post enc P fn apart fresh handsOn false W args (.bool true) W':=by
 have hW':=hW;obtain⟨p,q,hA,hV,rfl,hfz,hnd⟩:=hW;have hlt':∀x,x∈p++q→x.block<W.heap.size:=fun x hx=>hW'.lt x hx;rw[hn]at hV;have hgs:∃g1,gs=[g1]:=by
  obtain⟨_,_,_,_,d,_,h,_⟩:=trodVars_one hV;exact⟨d,h⟩
 obtain⟨g1,hg1⟩:=hgs;have e:=hargs g1 hg1;refine⟨ds,gs,p++q,[],p,q,hW',?_,?_,?_,hb.frame _,fun h=>by cases h⟩
 ·rw[e,hres];exact trodAll_cons_mk (shut_bool htb _) trodAll_mk0
 ·rw[e];exact Wr hl hp hA (fun x hx=>hb.same (hlt' x (by simp[hx]))) (fun x hx=>by simpa using hlt' x (by simp[hx]))
 ·rw[e,hn];exact Aep hl hg ht hr hlt hb hV (fun x hx=>hb.same (hlt' x (by simp[hx]))) (fun x hx=>by simpa using hlt' x (by simp[hx]))
theorem Axx{H:Type}{enc:TypeId×Value→H}{W:World}{base:Nat}{v:Value}{d:DataW H}{ps:List MemPlace}(hv:Value.okWide prog W .any base 24 v)(h:DataW.Trod enc prog W 0 (fun _=>true) true 24 v d ps) :
 ∃n:Nd,PrI n∧LnI n∧Rel E0 W v (nd n):=by
 unfold Value.okWide at hv;rw[underlying24]at hv;obtain⟨cs,rfl,_⟩:=hv;obtain⟨fuel,h⟩:=h;obtain⟨n,⟨h1,h2⟩,h3⟩:=Azn fuel _ _ h;exact⟨n,h1,h2,h3.agg⟩
noncomputable def low:Nat:=(World.holding prog default ⟨#[],#[],[]⟩).heap.size
def A48:DataW Unit→Value
 |.lit (.int k n)=>.int k n
 |.lit (.string s)=>.string ⟨⟨s⟩⟩
 |_=>.nilIface
def Awn:DataW Unit→Array Value
 |.agg l=>(l.map A48).toArray
 |_=>#[]
def A0d:DataW Unit→Value
 |.iface _ (.ptr (.agg [.lit (.string s)]))=>.string ⟨⟨s⟩⟩
 |_=>.nilIface
def Aqx(cs:Array Value):Obj→Obj
 |.cells _ t frozen=>.cells cs t frozen
 |o=>o
noncomputable def Atl(os:Os):World:=
 let w0:=World.holding prog os ⟨#[.cells #[A0d YtojhghmilenfkaaGreatDoor.Rows.laid_strconv_ErrSyntax] 400,.cells #[A0d YtojhghmilenfkaaGreatDoor.Rows.laid_strconv_ErrRange] 400],#[],[]⟩
 let h0:=(((((w0.heap.modify 1 (Aqx (Awn YtojhghmilenfkaaGreatDoor.Rows.laid_loop_example_g00093_impl_condWords))).modify 6 (Aqx #[.iface 398 (.pointer (some ⟨low,0,none⟩))])).modify 7 (Aqx #[.iface 398 (.pointer (some ⟨low+1,0,none⟩))])).modify
  2 (Aqx (Awn YtojhghmilenfkaaGreatDoor.Rows.laid_internal_strconv_uint64pow10))).modify 4 (Aqx (Awn YtojhghmilenfkaaGreatDoor.Rows.laid_math_bits_deBruijn32tab))).modify 5 (Aqx (Awn YtojhghmilenfkaaGreatDoor.Rows.laid_math_bits_deBruijn64tab))
 { w0 with heap:=h0 }
abbrev Axw:Value:=.agg #[.int .i64 0,.string ⟨#[]⟩,.int .i64 0,.slice none 0 0]
theorem A5b:ownKnob prog.godebug=none:=by kernel_rfl
theorem Atk:laidOutB prog=true:=by kernel_rfl
theorem Awt:prog.globalNamed "loop.example/g00093/impl.condWords" = some 1:=by kernel_rfl
theorem A06:(prog.globals[1]?).map (·.type)=some 338:=by kernel_rfl
theorem A05:prog.readableRec 338=true:=by kernel_rfl
theorem A04:338<prog.types.size:=A5 (by kernel_rfl)
end Go.V
namespace Go.V
open Go Go.Proofs Go.Proofs.Tryz
def cpR{α:Type}(f:α→List AV)(z:List AV)(l:List α)(i:Nat):List (List AV):=(l.take i).map f++List.replicate (l.length-i) z
theorem Anp{α:Type}(f:α→List AV)(z:List AV){l:List α}{i:Nat}(h:i<l.length):(cpR f z l i)[i]?=some z:=by
 have:((l.take i).map f).length=i:=by simp;omega
 rw[cpR,Gk (by omega),this,Ik,Aph,if_pos (by omega)]
theorem Anr{α:Type}(f:α→List AV)(z:List AV){l:List α}{i:Nat}{x:α}(h:l[i]?=some x):(cpR f z l i).set i (f x)=cpR f z l (i+1):=by
 have hi:=Aa h;obtain⟨c,hc⟩:∃c,l.length-i=c+1:=⟨l.length-i-1,by omega⟩
 have hc2:l.length-(i+1)=c:=by omega
 rw[cpR,cpR,hc,hc2,G8,h,Aav,Kr,List.replicate_succ];have:((l.take i).map f).length=i:=by simp;omega
 rw[Iw _ _ (by omega),this,Ik,List.set_cons_zero,Fp];rfl
theorem Ano{α:Type}(f:α→List AV)(z:List AV)(l:List α):cpR f z l l.length=l.map f:=by simp[cpR]
theorem Anq{α:Type}(f:α→List AV)(z:List AV)(l:List α):cpR f z l 0=List.replicate (l.map f).length z:=by simp[cpR]
theorem A0j{f:FuncId}{fn:Func}{F:C5}{bx:List (List (List AV))}{b n:Nat}{rows:List (List AV)}{k:List Item}(hf:X.P.funcs[f]?=some fn)(hb:bx[b]?=some rows)(hn:rows.length=n)(hl:n≤1000000000) [hok:OKR 0 0 rows]
 (h:Mf X F ⟨bx,[]⟩ fn.results.toList=some [.bsl b n]:=by rfl):AK X ⟨f,fn,0,0⟩ (.code .ret::k) F ⟨bx,[]⟩ fun e S'=>e=.ret (.sl rows .no)∧S'=⟨[],[]⟩:=by
 subst hn;refine E8 (B:=⟨f,fn,0,0⟩) hf h 0 (Bo _) (r:=.sl rows .no) ?_ (fun rows hr=>by simp at hr) ⟨rfl,rfl⟩;refine .bsl b rows.length rows rows (B3 _) hb (Bo _) (by unfold Pg;omega) rfl (fun i r r' h1 h2=>?_) (fun i j r r' x y h1 h2 h3 h4=>?_)
 ·rw[h1]at h2;cases h2;rfl
 ·rw[h1]at h2;cases h2;rw[h3]at h4;cases h4;exact .same x (hok.ok r (Bh h1) x (Bh h3))
theorem Ev{α:Type}{f:α→List AV}{l:List α}{i:Nat}{x:α}(h:l[i]?=some x):(l.map f)[i]?=some (f x):=by simp[h]
abbrev Jk(n:Int):List AV:=[vi n]
instance{n m i:Nat}{l:List Int}:OKR n m (cpR Jk [vi 0] l i):=⟨fun r hr x hx=>by
 rcases zzq45.1 hr with h|h
 ·exact(inferInstance:OKR n m (Fe (l.take i))).ok r h x hx
 ·rw[Abk h]at hx;simp at hx;subst hx;exact .val _⟩
theorem Agb(l:List (Int))(hl:l.length≤1000000000)  : Pure X 20 [.sl (Fe l) .no] (.sl (Fe l) .no):=by
 have hlen:(Fe l).length=l.length:=by simp[Fe]
 refine Pure.run func20 ?_;refine Bn (Il (n:=(Fe l).length) (b:=0) (by rw[hlen];exact hl) rfl rfl rfl rfl rfl rfl rfl rfl rfl rfl) ?_;refine Ar (ι:=Nat) 1 0 (fun i=>i≤l.length) (fun i=>[(4,vi i),(3,.bsl 0 l.length),(0,.sl (Fe l) .no)]) (fun i=>⟨[cpR Jk [vi 0] l i],[]⟩) (fun i=>l.length-i) ?_ 0 (B3 _)
  ⟨rfl,by rw[←hlen];rfl,rfl,trivial⟩ (congrArg (fun b=>St.mk [b] []) (Anq Jk [vi 0] l).symm)
 intro i hi IH;refine C7 (fun h=>?_) (fun h=>?_)
 ·have hlt:i<l.length:=by have:=A5 h;rw[hlen]at this;omega
  obtain⟨x,hx⟩:=Ab l hlt;have hr:=Anp Jk [vi 0] hlt;refine B4 i (by omega) (Ev (f:=Jk) hx) ?_
  skip
  refine Zh i hlt hr ?_;refine Ags hr ?_;refine IH (i+1) hlt (by omega) _ _ ⟨vsx (by omega),rfl,rfl,trivial⟩ ?_ rfl rfl;exact congrArg (fun b=>St.mk [b] []) (Anr Jk [vi 0] hx)
 ·have:i=l.length:=by have:=Ba h;rw[hlen]at this;omega
  subst this;refine A0j func20 (b:=0) ?_ hlen hl;show some (cpR Jk [vi 0] l l.length)=_;rw[Ano];rfl
theorem Avd(l:List (Int))(hl:l.length≤1000000000)  : Pure X 23 [.sl (Fe l) .no,.sl (Fe l) .no] (vb true):=by
 have hlen:(Fe l).length=l.length:=by simp[Fe]
 refine Pure.run func23 ?_;refine Ag ?_ (ht:=by simp);refine Ar (ι:=Nat) 0 0 (fun i=>i≤l.length) (fun i=>[(5,vi i),(0,.sl (Fe l) .no),(1,.sl (Fe l) .no)]) (fun i=>⟨[],[]⟩) (fun i=>l.length-i) ?_ 0 (B3 _)
  ⟨rfl,rfl,rfl,trivial⟩
 intro i hi IH;refine C7 (fun h=>?_) (fun h=>?_)
 ·have hlt:i<l.length:=by have:=A5 h;rw[hlen]at this;omega
  obtain⟨x,hx⟩:=Ab l hlt;refine D8 0 ?_;refine Db i (by omega) (Ev (f:=Jk) hx) ?_;refine Db i (by omega) (Ev (f:=Jk) hx) ?_
  skip
  refine B2 ?_;refine Ag ?_ (ht:=by simp);exact IH (i+1) hlt (by omega) _ _ ⟨vsx (by omega),rfl,rfl,trivial⟩ rfl rfl rfl
 ·exact As func23 rfl
def Zg(x:Int):Bool:=Bl x (-1000000) 1000000
theorem Az9(x:Int):Pure X 121 [vi x] (vb (Zg x)):=by
 refine Pure.run func121 ?_;refine Al (H4 x (-1000000) 1000000) ?_;exact As func121 rfl
structure Cf where
 pt:Int
 vars:List Int
 cells:List (List (Bool×Int))
 used:Int
 steps:Int
 trap:Int
 edge:Int
 acc:Int
abbrev Nv(c:Bool×Int):List AV:=[vb c.1,vi c.2]
def I9(l:List (Bool×Int)):List (List AV):=l.map Nv
abbrev Alu(l:List (Bool×Int)):List AV:=[.sl (I9 l) .no]
def Ov(l:List (List (Bool×Int))):List (List AV):=l.map Alu
abbrev G4(c:Cf):List AV:=[vi c.pt,.sl (Fe c.vars) .no,.sl (Ov c.cells) .no,vi c.used,vi c.steps,vi c.trap,vi c.edge,vi c.acc]
abbrev cf(c:Cf):AV:=.agg (G4 c)
instance{n m:Nat}{l:List (Bool×Int)}:OKR n m (I9 l):=⟨fun r hr x hx=>by
 obtain⟨e,_,rfl⟩:=zzq66.1 hr;simp at hx;rcases hx with rfl|rfl<;>exact .val _⟩
instance{n m:Nat}{l:List (List (Bool×Int))}:OKR n m (Ov l):=⟨fun r hr x hx=>by
 obtain⟨e,_,rfl⟩:=zzq66.1 hr;simp at hx;subst hx;exact(inferInstance:OK n m (.sl (I9 e) .no)).ok⟩
theorem G5(l:List (Bool×Int)):(I9 l).length=l.length:=by simp[I9]
theorem X9(l:List (List (Bool×Int))):(Ov l).length=l.length:=by simp[Ov]
theorem Avc(c:Bool×Int):Pure X 169 [.agg (Nv c),.agg (Nv c)] (vb true):=by
 refine Pure.run func169 ?_;refine Ag ?_ (ht:=by simp);refine Ag ?_ (ht:=by simp);exact As func169 rfl
theorem A4q(l:List (Bool×Int))(hl:l.length≤1000000000)  : Pure X 110 [.sl (I9 l) .no,.sl (I9 l) .no] (vb true):=by
 have hlen:(I9 l).length=l.length:=by simp[I9]
 refine Pure.run func110 ?_;refine Ag ?_ (ht:=by simp);refine Ar (ι:=Nat) 0 0 (fun i=>i≤l.length) (fun i=>[(5,vi i),(0,.sl (I9 l) .no),(1,.sl (I9 l) .no)]) (fun i=>⟨[],[]⟩) (fun i=>l.length-i) ?_ 0 (B3 _)
  ⟨rfl,rfl,rfl,trivial⟩
 intro i hi IH;refine C7 (fun h=>?_) (fun h=>?_)
 ·have hlt:i<l.length:=by have:=A5 h;rw[hlen]at this;omega
  obtain⟨x,hx⟩:=Ab l hlt;refine D8 0 ?_;refine Db i (by omega) (Ev (f:=Nv) hx) ?_;refine Db i (by omega) (Ev (f:=Nv) hx) ?_;refine Ce (Avc x) ?_;refine B2 ?_;refine Ag ?_ (ht:=by simp);exact IH (i+1) hlt (by omega) _ _ ⟨vsx (by omega),rfl,rfl,trivial⟩ rfl rfl rfl
 ·exact As func110 rfl
theorem A2s(l:List (List (Bool×Int)))(hl:l.length≤1000000000)(h1:∀x,x∈l→x.length≤1000000000):Pure X 64 [.sl (Ov l) .no,.sl (Ov l) .no] (vb true):=by
 have hlen:(Ov l).length=l.length:=by simp[Ov]
 refine Pure.run func64 ?_;refine Ag ?_ (ht:=by simp);refine Ar (ι:=Nat) 0 0 (fun i=>i≤l.length) (fun i=>[(5,vi i),(0,.sl (Ov l) .no),(1,.sl (Ov l) .no)]) (fun i=>⟨[],[]⟩) (fun i=>l.length-i) ?_ 0 (B3 _)
  ⟨rfl,rfl,rfl,trivial⟩
 intro i hi IH;refine C7 (fun h=>?_) (fun h=>?_)
 ·have hlt:i<l.length:=by have:=A5 h;rw[hlen]at this;omega
  obtain⟨x,hx⟩:=Ab l hlt;refine D8 0 ?_;refine Db i (by omega) (Ev (f:=Alu) hx) ?_;refine Db i (by omega) (Ev (f:=Alu) hx) ?_;refine Ce (A4q x (h1 x (Bh hx))) ?_;refine B2 ?_;refine Ag ?_ (ht:=by simp);exact IH (i+1) hlt (by omega) _ _ ⟨vsx (by omega),rfl,rfl,trivial⟩ rfl rfl rfl
 ·exact As func64 rfl
def Abu{α:Type}(p:α→Bool):Nat→List α→Int
 |_,[]=>-1
 |i,x::l=>if p x then i else Abu p (i+1) l
theorem Ajj{α:Type}(p:α→Bool):∀(l:List α)(i:Nat),decide (Abu p i l≥0)=l.any p
 |[],i=>by simp[Abu]
 |x::l,i=>by
  have hb:(x::l).any p=(p x||l.any p):=rfl;rw[hb,←Ajj p l (i+1)];by_cases h:p x=true
  ·simp[Abu,h]
  ·have h':p x=false:=by simpa using h
   have:Abu p i (x::l)=Abu p (i+1) l:=by simp only[Abu];rw[if_neg h]
   rw[this,h'];rfl
theorem Ajo(f:Eg→Int)(l:List Eg){pts j:Nat}(h:j<pts):(Wg f l pts)[j]?=some [.sl (Uh (L3 f l j)) .no]:=by simp[Wg,h]
structure CfOk (c:Cf):Prop where
 vars:c.vars.length≤1000000000
 cells:c.cells.length≤1000000000
 rows:∀x,x∈c.cells→x.length≤1000000000
theorem Xp(n:Nd):(Ei n).length=(Ax n 32).length:=by rw[Ag9,Ei,Py,Py]
theorem Zu{n:Nd}(hr:Fy n=true):(D6 (A9 n)).pts≤2000000∧(Lx (A9 n)).length≤2000000:=by
 obtain⟨fp,hc,hw,hne,hkl⟩:=Iz hr;obtain⟨ds,hpl,_,hps,hwl⟩:=Abw fp;have hpw:=(Ps n).1;have hps2:=Mq hps Cg ⟨1,0,[],[],[],0⟩ (by decide);have hl:=L1 6 Cg hps2.pt;have hA:=hps2.trans hl (Bo _);obtain⟨es,e1,e2,e3⟩:=hA.es;have hpp:=hA.pts;simp only[bG]at e2 hpp;have hes:(D6 (A9 n)).es=es:=by unfold D6;rw[e1];rfl
 refine⟨by show _≤_;unfold D6;have:(1:Nat)=(⟨1,0,[],[],[],0⟩:Gr).pts:=rfl;omega,by unfold Lx;rw[hes,Py];omega⟩
structure CfLn (c:Cf):Prop where
 vars:c.vars.length≤9223372036854775807
 cells:c.cells.length≤9223372036854775807
 rows:∀x,x∈c.cells→x.length≤9223372036854775807
theorem Am3(c:Cf)(hc:CfOk c):Pure X 22 [cf c,cf c] (vb true):=by
 refine Pure.run func22 ?_;refine Ag ?_ (ht:=by simp);refine Al (Avd c.vars hc.vars) ?_;refine Ag ?_;refine Al (A2s c.cells hc.cells hc.rows) ?_;refine Ag ?_;refine Ag ?_ (ht:=by simp);refine Ag ?_ (ht:=by simp);refine Ag ?_ (ht:=by simp);refine Ag ?_ (ht:=by simp);refine Ag ?_ (ht:=by simp);exact As func22 rfl
set_option maxRecDepth 100000
section
variable {H:Type}{enc:TypeId×Value→H}{w:World}{sp:Nat→Bool}{held:Bool}
theorem Arj(fuel:Nat)(cs:List Value)(x:DataW H×List MemPlace)(h:DataW.trod enc prog w 0 sp held fuel 3 cs=some x):∃n:Int,True∧RelL w cs (Jk n):=by
 obtain⟨n,_,_,rfl⟩:=Am4 underlying3 h;exact⟨n,trivial,.one (.val _)⟩
theorem Ark(fuel:Nat)(cs:List Value)(x:DataW H×List MemPlace)(h:DataW.trod enc prog w 0 sp held fuel 37 cs=some x):∃l:List Int,l.length≤9223372036854775807∧RelL w cs [.sl (Fe l) .no]:=by
 obtain⟨l,_,h1,h2⟩:=Af1 Jk (fun _=>True) underlying37 (show prog.cellsOf 3=1 by kernel_rfl) (by decide) (fun y=>rfl) (fun n _ cs' x' hx'=>Arj n cs' x' hx') h;exact⟨l,h1,h2⟩
end
end Go.V
namespace Go.V
open Go Go.Proofs Go.ChangeShapes Go.WideShapes Go.ChangeAt Go.RowKit Go.Proofs.Tryz
set_option maxRecDepth 100000
abbrev inl(l:List Int):AV:=.sl (Fe l) .no
abbrev Aa8:Value:=.slice none 0 0
theorem An7{H:Type}{enc:TypeId×Value→H}{W:World}{base:Nat}{v:Value}{d:DataW H}{ps:List MemPlace}(hv:Value.okWide prog W .any base 37 v)(h:DataW.Trod enc prog W 0 (fun _=>true) true 37 v d ps) :
 ∃l:List Int,l.length≤9223372036854775807∧Rel E0 W v (inl l):=by
 obtain⟨a0,len,cap,rfl⟩:=okWide_slice underlying37 hv;obtain⟨fuel,h⟩:=h;obtain⟨l,h0,h2⟩:=Ark fuel _ _ h;exact⟨l,h0,App h2⟩
theorem A1p{H:Type}{enc:TypeId×Value→H}{W:World}{base:Nat}{v:Value}{d:DataW H}{ps:List MemPlace}(hv:Value.okWide prog W .any base 3 v)(_:DataW.Trod enc prog W 0 (fun _=>true) true 3 v d ps) :
 ∃k:Int,True∧Rel E0 W v (vi k):=by
 obtain⟨n,rfl⟩:=okWide_int underlying3 hv;exact⟨n,trivial,.val _⟩
end Go.V
namespace Go.V
open Go Go.Proofs
def Fr(p:Nat)(l:List Eg):List Eg:=l.filter fun e=>e.f==(p:Int)
theorem Lt(p:Nat)(a b:List Eg):Fr p (a++b)=Fr p a++Fr p b:=Aeg ..
theorem Ar4(p:Nat)(e:Eg):Fr p [e]=if e.f=(p:Int)then[e]else[]:=by
 by_cases h:e.f=(p:Int)
 ·simp[Fr,h]
 ·simp[Fr,h]
theorem W2{p:Nat}{e:Eg}(h:e.f=(p:Int)):Fr p [e]=[e]:=by rw[Ar4,if_pos h]
theorem Aew{p:Nat}{e:Eg}(h:¬e.f=(p:Int)):Fr p [e]=[]:=by rw[Ar4,if_neg h]
def Xy(p:Nat)(l:List Eg):Prop:=(∃e,l=[e]∧¬e.k=4)∨∃t1 t2 c,l=[⟨p,t1,4,true,c⟩,⟨p,t2,4,false,c⟩]
structure Pc (lo hi a b:Nat)(l:List Eg):Prop where
 none:∀p,p≠a→p<lo∨hi≤p→Fr p l=[]
 last:Fr b l=[]
 done:(l=[]∧lo=hi∧b=a)∨(lo≤b∧b<hi∧Xy a (Fr a l)∧∀p,lo≤p→p<hi→p≠b→Xy p (Fr p l))
theorem Pc.trans{lo mid hi a b c:Nat}{l1 l2:List Eg}(h1:Pc lo mid a b l1)(h2:Pc mid hi b c l2)(ha:a<lo)(h3:lo≤mid)(h4:mid≤hi):Pc lo hi a c (l1++l2):=by
 have hb:b=a∨(lo≤b∧b<mid):=by rcases h1.done with⟨_,_,h⟩|⟨h,h',_⟩<;>omega
 have hc:c=b∨(mid≤c∧c<hi):=by rcases h2.done with⟨_,_,h⟩|⟨h,h',_⟩<;>omega
 refine⟨fun p hp hr=>?_,?_,?_⟩
 ·rw[Lt,h1.none p hp (by omega),h2.none p (by omega) (by omega)];rfl
 ·rw[Lt,h2.last,H0];rcases h2.done with⟨_,_,rfl⟩|⟨q1,q2,_⟩
  ·exact h1.last
  ·exact h1.none c (by omega) (by omega)
 ·rcases h1.done with⟨rfl,rfl,rfl⟩|⟨p1,p2,p3,p4⟩
  ·exact h2.done
  ·rcases h2.done with⟨rfl,rfl,rfl⟩|⟨q1,q2,q3,q4⟩
   ·rw[H0];exact .inr ⟨p1,p2,p3,p4⟩
   ·refine .inr ⟨by omega,q2,?_,fun p g1 g2 g3=>?_⟩
    ·rw[Lt,h2.none a (by omega) (by omega),H0];exact p3
    ·rw[Lt];rcases Gs p mid with hm|hm
     ·by_cases hpb:p=b
      ·subst hpb;rw[h1.last];exact q3
      ·rw[h2.none p hpb (.inl hm),H0];exact p4 p g1 hm hpb
     ·rw[h1.none p (by omega) (.inr hm)];exact q4 p hm g2 g3
structure Cl (lo hi a:Nat)(l:List Eg):Prop where
 none:∀p,p≠a→p<lo∨hi≤p→Fr p l=[]
 at_:Xy a (Fr a l)
 done:∀p,lo≤p→p<hi→Xy p (Fr p l)
theorem Pc.close{lo hi a b:Nat}{l:List Eg}{e:Eg}(h:Pc lo hi a b l)(ha:a<lo)(he:e.f=(b:Int))(hk:¬e.k=4):Cl lo hi a (l++[e]):=by
 have key:∀p,p≠b→Fr p (l++[e])=Fr p l:=fun p hp=>by rw[Lt,Aew (by rw[he];omega),H0]
 have kb:Fr b (l++[e])=[e]:=by rw[Lt,h.last,W2 he];rfl
 rcases h.done with⟨rfl,rfl,rfl⟩|⟨p1,p2,p3,p4⟩
 ·exact⟨fun p hp _=>by rw[key p hp];rfl,by rw[kb];exact .inl ⟨e,rfl,hk⟩,fun p _ _=>by omega⟩
 ·refine⟨fun p hp hr=>by rw[key p (by omega)];exact h.none p hp hr,by rw[key a (by omega)];exact p3,fun p g1 g2=>?_⟩;by_cases hpb:p=b
  ·subst hpb;rw[kb];exact .inl ⟨e,rfl,hk⟩
  ·rw[key p hpb];exact p4 p g1 g2 hpb
structure Out (g g':Gr):Prop where
 es:∃l,g'.es=g.es++l∧Pc g.pts g'.pts g.pt g'.pt l
 pts:g.pts≤g'.pts
 pt:g'.pt<g'.pts
theorem Out.refl{g:Gr}(h:g.pt<g.pts):Out g g:=⟨⟨[],by simp,⟨fun _ _ _=>rfl,rfl,.inl ⟨rfl,rfl,rfl⟩⟩⟩,Bo _,h⟩
theorem Out.trans{g g' g'':Gr}(hp:g.pt<g.pts)(h:Out g g')(h':Out g' g''):Out g g'':=by
 obtain⟨l1,e1,p1⟩:=h.es;obtain⟨l2,e2,p2⟩:=h'.es;exact⟨⟨l1++l2,by rw[e2,e1,Fp],p1.trans p2 hp h.pts h'.pts⟩,Pb h.pts h'.pts,h'.pt⟩
theorem Aoj{g:Gr}(hp:g.pt<g.pts){e:Eg}(he:e.f=(g.pt:Int))(hk:¬e.k=4):Pc g.pts (g.pts+1) g.pt g.pts [e]:=
 ⟨fun p h _=>Aew (by rw[he];omega),Aew (by rw[he];omega),.inr ⟨Bo _,by omega,by rw[W2 he];exact .inl ⟨e,rfl,hk⟩,fun p h1 h2 h3=>by omega⟩⟩
theorem Qo(k:Int)(n:Nd){g:Gr}(hp:g.pt<g.pts)(hk:¬k=4):Out g (Dn k n g):=⟨⟨_,rfl,Aoj hp rfl hk⟩,by simp[Dn],by simp[Dn]⟩
theorem Ava{g:Gr}(hp:g.pt<g.pts):Out g (Ox g):=⟨⟨_,rfl,Aoj hp rfl (by simp)⟩,by simp[Ox],by simp[Ox]⟩
theorem A1n{c:Nd}{f1 f2:Gr→Gr}(h1:∀g:Gr,g.pt<g.pts→Out g (f1 g))(h2:∀g:Gr,g.pt<g.pts→Out g (f2 g)){g:Gr}(hp:g.pt<g.pts):Out g (gIf c f1 f2 g):=by
 have o1:=h1 (D7 g.pt c true g) (by simp[D7]);have o2:=h2 (D7 g.pt c false (f1 (D7 g.pt c true g))) (by simp[D7]);obtain⟨l1,e1,p1⟩:=o1.es;obtain⟨l2,e2,p2⟩:=o2.es;have b1:=o1.pts;have b2:=o2.pts;have c1:=o1.pt;have c2:=o2.pt;unfold gIf;generalize hA:f1 (D7 g.pt c true g)=A at *;generalize hB:f2 (D7 g.pt c false A)=B at *;simp only[D7]at e1 p1 b1 c1 e2 p2 b2;refine⟨⟨[⟨g.pt,g.pts,4,true,c⟩]++(l1++([⟨g.pt,A.pts,4,false,c⟩]++(l2++([⟨A.pt,B.pts,6,false,Cg⟩]++[⟨B.pt,B.pts,6,false,Cg⟩])))),by simp[Ny,Ix,e2,e1],?_⟩,by simp[Ny,Ix];omega,by simp[Ny,Ix]⟩;have k1:=p1.close (e:=⟨A.pt,B.pts,6,false,Cg⟩) (by omega) rfl (by simp);have k2:=p2.close (e:=⟨B.pt,B.pts,6,false,Cg⟩) (by omega) rfl (by simp);have hAp:A.pt=g.pts∨(g.pts+1≤A.pt∧A.pt<A.pts):=by rcases p1.done with⟨_,_,h⟩|⟨h,h',_⟩<;>omega
 have hBp:B.pt=A.pts∨(A.pts+1≤B.pt∧B.pt<B.pts):=by rcases p2.done with⟨_,_,h⟩|⟨h,h',_⟩<;>omega
 show Pc g.pts (B.pts+1) g.pt B.pts _;have tot:∀p,Fr p ([⟨g.pt,g.pts,4,true,c⟩]++(l1++([⟨g.pt,A.pts,4,false,c⟩]++(l2++([⟨A.pt,B.pts,6,false,Cg⟩]++[⟨B.pt,B.pts,6,false,Cg⟩]))))) =
  Fr p [⟨g.pt,g.pts,4,true,c⟩]++(Fr p l1++(Fr p [⟨g.pt,A.pts,4,false,c⟩]++(Fr p l2++(Fr p [⟨A.pt,B.pts,6,false,Cg⟩]++Fr p [⟨B.pt,B.pts,6,false,Cg⟩])))):=fun p=>by simp only[Lt]
 have n1:∀p,p≠g.pt→∀t y,Fr p [⟨g.pt,t,4,y,c⟩]=[]:=fun p hp t y=>Aew (by simp only;omega);have atA:∀p,(p=g.pts∨(g.pts+1≤p∧p<A.pts))→Xy p (Fr p (l1++[⟨A.pt,B.pts,6,false,Cg⟩])):=fun p hp=>by
  rcases hp with rfl|⟨h,h'⟩
  ·exact k1.at_
  ·exact k1.done p h h'
 have atB:∀p,(p=A.pts∨(A.pts+1≤p∧p<B.pts))→Xy p (Fr p (l2++[⟨B.pt,B.pts,6,false,Cg⟩])):=fun p hp=>by
  rcases hp with rfl|⟨h,h'⟩
  ·exact k2.at_
  ·exact k2.done p h h'
 have zA:∀p,p≠g.pts→p<g.pts+1∨A.pts≤p→Fr p l1=[]∧Fr p [⟨A.pt,B.pts,6,false,Cg⟩]=[]:=fun p h h'=>by
  have:=k1.none p h h';rw[Lt,List.append_eq_nil_iff]at this;exact this
 have zB:∀p,p≠A.pts→p<A.pts+1∨B.pts≤p→Fr p l2=[]∧Fr p [⟨B.pt,B.pts,6,false,Cg⟩]=[]:=fun p h h'=>by
  have:=k2.none p h h';rw[Lt,List.append_eq_nil_iff]at this;exact this
 refine⟨fun p h h'=>?_,?_,.inr ⟨by omega,by omega,?_,fun p h h' h''=>?_⟩⟩
 ·rw[tot,n1 p h,n1 p h,(zA p (by omega) (by omega)).1,(zA p (by omega) (by omega)).2,(zB p (by omega) (by omega)).1,(zB p (by omega) (by omega)).2];rfl
 ·rw[tot,n1 _ (by omega),n1 _ (by omega),(zA _ (by omega) (by omega)).1,(zA _ (by omega) (by omega)).2,(zB _ (by omega) (by omega)).1,(zB _ (by omega) (by omega)).2];rfl
 ·rw[tot,(zA _ (by omega) (by omega)).1,(zA _ (by omega) (by omega)).2,(zB _ (by omega) (by omega)).1,(zB _ (by omega) (by omega)).2,W2 rfl,W2 rfl];exact .inr ⟨_,_,_,rfl⟩
 ·rw[tot,n1 p (by omega),n1 p (by omega)];rcases Gs p A.pts with hA'|hA'
  ·rw[(zB p (by omega) (by omega)).1,(zB p (by omega) (by omega)).2];have:=atA p (by omega);rw[Lt]at this;simpa using this
  ·rw[(zA p (by omega) (by omega)).1,(zA p (by omega) (by omega)).2];have:=atB p (by omega);rw[Lt]at this;simpa using this
theorem A26{n a c:Nd}{f:Gr→Gr}(h1:∀g:Gr,g.pt<g.pts→Out g (f g)){g:Gr}(hp:g.pt<g.pts):Out g (gWh n a c f g):=by
 have o1:=h1 (D7 g.pts c true (Hp a n (Dn 6 Cg g))) (by simp[D7]);obtain⟨l1,e1,p1⟩:=o1.es;have b1:=o1.pts;have c1:=o1.pt;unfold gWh;generalize hA:f (D7 g.pts c true (Hp a n (Dn 6 Cg g)))=A at *;simp only[D7,Hp,Dn]at e1 p1 b1 c1;refine⟨⟨[⟨g.pt,g.pts,6,false,Cg⟩]++([⟨g.pts,(g.pts+1:Nat),4,true,c⟩]++(l1++([⟨A.pt,g.pts,6,false,Cg⟩]++[⟨g.pts,A.pts,4,false,c⟩]))),by simp[Ud,D7,Lf,Ix,e1],?_⟩,by simp[Ud,D7,Lf,Ix];omega,by simp[Ud,D7,Lf,Ix]⟩;have k1:=p1.close (e:=⟨A.pt,g.pts,6,false,Cg⟩) (by omega) rfl (by simp);show Pc g.pts (A.pts+1) g.pt A.pts _;have tot:∀p,Fr p ([⟨g.pt,g.pts,6,false,Cg⟩]++([⟨g.pts,(g.pts+1:Nat),4,true,c⟩]++(l1++([⟨A.pt,g.pts,6,false,Cg⟩]++[⟨g.pts,A.pts,4,false,c⟩])))) =
  Fr p [⟨g.pt,g.pts,6,false,Cg⟩]++(Fr p [⟨g.pts,(g.pts+1:Nat),4,true,c⟩]++(Fr p l1++(Fr p [⟨A.pt,g.pts,6,false,Cg⟩]++Fr p [⟨g.pts,A.pts,4,false,c⟩]))):=fun p=>by simp only[Lt]
 have n0:∀p,p≠g.pt→Fr p [⟨g.pt,g.pts,6,false,Cg⟩]=[]:=fun p hp=>Aew (by simp only;omega);have n1:∀p,p≠g.pts→∀t y,Fr p [⟨g.pts,t,4,y,c⟩]=[]:=fun p hp t y=>Aew (by simp only;omega);have zA:∀p,p≠g.pts+1→p<g.pts+1+1∨A.pts≤p→Fr p l1=[]∧Fr p [⟨A.pt,g.pts,6,false,Cg⟩]=[]:=fun p h h'=>by
  have:=k1.none p h h';rw[Lt,List.append_eq_nil_iff]at this;exact this
 refine⟨fun p h h'=>?_,?_,.inr ⟨by omega,by omega,?_,fun p h h' h''=>?_⟩⟩
 ·rw[tot,n0 p h,n1 p (by omega),n1 p (by omega),(zA p (by omega) (by omega)).1,(zA p (by omega) (by omega)).2];rfl
 ·rw[tot,n0 _ (by omega),n1 _ (by omega),n1 _ (by omega),(zA _ (by omega) (by omega)).1,(zA _ (by omega) (by omega)).2];rfl
 ·rw[tot,n1 _ (by omega),n1 _ (by omega),(zA _ (by omega) (by omega)).1,(zA _ (by omega) (by omega)).2,W2 rfl];exact .inl ⟨_,rfl,by simp⟩
 ·rw[tot,n0 p (by omega)];by_cases hg:p=g.pts
  ·subst hg;rw[(zA _ (by omega) (by omega)).1,(zA _ (by omega) (by omega)).2,W2 rfl,W2 rfl];exact .inr ⟨_,_,_,rfl⟩
  ·rw[n1 p hg,n1 p hg];have:Xy p (Fr p (l1++[⟨A.pt,g.pts,6,false,Cg⟩])):=by
    by_cases hb:p=g.pts+1
    ·subst hb;exact k1.at_
    ·exact k1.done p (by omega) (by omega)
   rw[Lt]at this;simpa using this
theorem Ahi{l:List Nd}(h:∀x,x∈l→∀(a:Nd)(g:Gr),g.pt<g.pts→Out g (gS x a g)):∀(a:Nd)(g:Gr),g.pt<g.pts→Out g (gL l a g):=by
 induction l with
 |nil=>intro a g hp;exact .refl hp
 |cons x l ih=>
  intro a g hp;rw[Yi];have h1:=h x (by simp) a g hp;exact h1.trans hp (ih (fun y hy=>h y (by simp[hy])) x _ h1.pt)
theorem A0o{n:Nd}(h:PS n):∀(a:Nd)(g:Gr),g.pt<g.pts→Out g (gS n a g):=by
 induction h with
 |set s b h hb=>intro a g hp;rw[Z1];exact Qo _ _ hp (by omega)
 |put s b c h hb hc=>intro a g hp;rw[Z0];exact Qo _ _ hp (by omega)
 |read s h=>intro a g hp;rw[Vq];exact Qo _ _ hp (by omega)
 |ifs c l l' hc hl hl' ihl ihl'=>intro a g hp;rw[Afe];exact A1n (Ahi ihl Cg) (Ahi ihl' Cg) hp
 |whil c l hc hl ihl=>intro a g hp;rw[Aff];exact A26 (Ahi ihl Cg) hp
 |check c hc=>intro a g hp;rw[Ql];exact Qo _ _ hp (by omega)
 |skip=>intro a g hp;rw[Vr];exact Qo _ _ hp (by omega)
 |stop=>intro a g hp;rw[Vs];exact Ava hp
theorem Ajf{l:List Nd}(h:∀x,x∈l→PS x):(D6 l).pt+1=(D6 l).pts∧∀p:Nat,p<(D6 l).pt→Xy p (Fr p (D6 l).es):=by
 have hp:(⟨1,0,[],[],[],0⟩:Gr).pt<(⟨1,0,[],[],[],0⟩:Gr).pts:=by simp
 have o1:=Ahi (fun x hx=>A0o (h x hx)) Cg _ hp;have o2:=Qo 6 Cg o1.pt (by omega);have o:=o1.trans hp o2;refine⟨rfl,fun p hp'=>?_⟩;obtain⟨es,he,hP⟩:=o.es;have hes:(D6 l).es=es:=by unfold D6;rw[he];rfl
 rw[hes];simp only at hP;rcases hP.done with⟨_,h1,_⟩|⟨_,_,h3,h4⟩
 ·have:=o1.pts;simp[Dn]at h1 this;omega
 ·by_cases h0:p=0
  ·subst h0;exact h3
  ·exact h4 p (by omega) (by have:(D6 l).pts=_:=rfl;unfold D6 at hp';simp[Dn]at hp'⊢;omega) (by unfold D6 at hp';simp[Dn]at hp'⊢;omega)
theorem Av7(p:Nat)(x:Int)(l:List Eg):Fr p (l.map (D1 x))=(Fr p l).map (D1 x):=by
 unfold Fr;rw[List.filter_map];congr 1;apply List.filter_congr;intro e _;simp only[Function.comp,D1];split<;>rfl
theorem Aw3{l:List Nd}(h:∀x,x∈l→PS x){p:Nat}(hp:(p:Int)<(D6 l).pts-1):Xy p (Fr p (Lx l)):=by
 obtain⟨h1,h2⟩:=Ajf h;unfold Lx;rw[Av7];rcases h2 p (by omega)with⟨e,h3,h4⟩|⟨t1,t2,c,h3⟩
 ·rw[h3];exact .inl ⟨_,rfl,by unfold D1;split<;>exact h4⟩
 ·rw[h3];have ht:∀(x:Int) (e:Eg),D1 x e=⟨e.f,(D1 x e).t,e.k,e.y,e.n⟩:=fun x e=>by unfold D1;split<;>rfl
  refine .inr ⟨(D1 (D6 l).pt ⟨p,t1,4,true,c⟩).t,(D1 (D6 l).pt ⟨p,t2,4,false,c⟩).t,c,?_⟩;rw[N0,N0,List.map_nil,ht,ht _ ⟨p,t2,4,false,c⟩]
def Uj(vars arrs:List (List UInt8))(n:Nd):Bool:=
 if Gq n.kind=31 then decide (E6 0 vars n.name≥0)else if Gq n.kind=32 then decide (E6 0 arrs n.name≥0)else true
mutual
def Ff(vars arrs:List (List UInt8)):Nd→Bool
 |.mk k s m ks=>Uj vars arrs (.mk k s m ks)&&Qn vars arrs ks
def Qn(vars arrs:List (List UInt8)):List Nd→Bool
 |[]=>true
 |x::l=>Ff vars arrs x&&Qn vars arrs l
end
theorem L0(vars arrs:List (List UInt8))(n:Nd):Ff vars arrs n=(Uj vars arrs n&&Qn vars arrs n.kids):=by cases n;rw[Ff];rfl
theorem Aob(vars arrs:List (List UInt8))(n:Nd):Uj vars arrs n=!Hv vars arrs 8 n.kind n.name:=by
 unfold Uj Hv;rcases O9 n.kind with⟨h1,h2⟩|⟨h1,h2⟩|⟨h1,h2⟩<;>simp[h1,h2]
theorem A1s(vars arrs:List (List UInt8))(n:Nd)(h:Uj vars arrs n=true):Hv vars arrs 7 n.kind n.name=false:=by
 unfold Uj at h;unfold Hv;rcases O9 n.kind with⟨h1,h2⟩|⟨h1,h2⟩|⟨h1,h2⟩<;>simp[h1]at h<;>simp[h2,h]
theorem Al5(vars arrs:List (List UInt8)):(∀n:Nd,Ff vars arrs n=(!(G2 vars arrs 7 n).2&&!(G2 vars arrs 8 n).2))∧∀l:List Nd,Qn vars arrs l=(!(My vars arrs 7 l).2&&!(My vars arrs 8 l).2):=by
 refine Ro (fun k s m ks ih=>?_) rfl (fun x l hx hl=>?_)
 ·rw[L0,Ra,Ra];cases h:Uj vars arrs (.mk k s m ks)with
  |true=>
   have h7:=A1s _ _ _ h;have h8:=Aob vars arrs (.mk k s m ks);rw[h]at h8;have h8':Hv vars arrs 8 (Nd.mk k s m ks).kind (Nd.mk k s m ks).name=false:=by simpa using h8.symm
   rw[if_neg (by rw[h7];simp),if_neg (by rw[h8'];simp)];simpa using ih
  |false=>
   have h8:=Aob vars arrs (.mk k s m ks);rw[h]at h8;have h8':Hv vars arrs 8 (Nd.mk k s m ks).kind (Nd.mk k s m ks).name=true:=by simpa using h8.symm
   rw[if_pos h8'];simp
 ·simp only[Qn,My];rw[hx,hl];cases h7:(G2 vars arrs 7 x).2<;>cases h8:(G2 vars arrs 8 x).2<;>simp[h7,h8]
theorem Ahv{vs ars:List (List UInt8)}{k:Int}{s:List UInt8}{m:Int}{x:Nd}(h:Ff vs ars (.mk k s m [x])=true):Ff vs ars x=true:=by
 rw[L0]at h;simp[Qn]at h;exact h.2
theorem Z7{vs ars:List (List UInt8)}{k:Int}{s:List UInt8}{m:Int}{x y:Nd}(h:Ff vs ars (.mk k s m [x,y])=true):Ff vs ars x=true∧Ff vs ars y=true:=by
 rw[L0]at h;simp[Qn]at h;exact h.2
theorem Wo{vs ars:List (List UInt8)}{k:Int}{s:List UInt8}{m:Int}{l:List Nd}(h:Ff vs ars (.mk k s m l)=true):(Gq k=31→E6 0 vs s≥0)∧(Gq k=32→E6 0 ars s≥0):=by
 rw[L0,Dd]at h;have h1:=h.1;replace h1:(if Gq k=31 then decide (E6 0 vs s≥0)else if Gq k=32 then decide (E6 0 ars s≥0)else true)=true:=h1;constructor
 ·intro hw;rw[if_pos hw]at h1;exact A5 h1
 ·intro hw;rw[if_neg (by omega),if_pos hw]at h1;exact A5 h1
inductive PK (vs ars:List (List UInt8)):Nd→Prop
 |set (s:List UInt8) (a:Nd) (h:E6 0 vs s≥0) (ha:FE a) (ka:Ff vs ars a=true):PK vs ars (.mk 21 s 0 [a])
 |put (s:List UInt8) (a b:Nd) (h:E6 0 ars s≥0) (ha:FE a) (ka:Ff vs ars a=true) (hb:FE b) (kb:Ff vs ars b=true):PK vs ars (.mk 22 s 0 [a,b])
 |read (s:List UInt8) (h:E6 0 vs s≥0):PK vs ars (.mk 23 s 0 [])
 |ifs (c:Nd) (l l':List Nd) (hc:FC c) (kc:Ff vs ars c=true) (hl:∀x,x∈l→PK vs ars x) (hl':∀x,x∈l'→PK vs ars x):PK vs ars (.mk 24 [] 0 [c,.mk 30 [] 0 l,.mk 30 [] 0 l'])
 |whil (c:Nd) (l:List Nd) (hc:FC c) (kc:Ff vs ars c=true) (hl:∀x,x∈l→PK vs ars x):PK vs ars (.mk 25 [] 0 [c,.mk 30 [] 0 l])
 |check (c:Nd) (hc:FC c) (kc:Ff vs ars c=true):PK vs ars (.mk 27 [] 0 [c])
 |skip:PK vs ars (.mk 28 [] 0 [])
 |stop:PK vs ars (.mk 29 [] 0 [])
section
variable {vs ars:List (List UInt8)}
theorem Aqb{l:List Nd}(h:Qn vs ars l=true):∀x,x∈l→Ff vs ars x=true:=by
 induction l with
 |nil=>intro x hx;cases hx
 |cons y l ih=>
  simp only[Qn,Dd]at h;intro x hx;rcases zzq13.1 hx with rfl|hx
  ·exact h.1
  ·exact ih h.2 x hx
theorem Gz{n x:Nd}(h:Ff vs ars n=true)(hx:x∈n.kids):Ff vs ars x=true:=by
 rw[L0,Dd]at h;exact Aqb h.2 x hx
theorem O4{l:List Nd}(h:∀x,x∈l→∀y,y∈G1 x→PK vs ars y):∀y,y∈Br l→PK vs ars y:=by
 induction l with
 |nil=>intro y hy;rw[A4]at hy;cases hy
 |cons x l ih=>
  intro y hy;rw[Ao]at hy;rcases zzq45.1 hy with hy|hy
  ·exact h x (by simp) y hy
  ·exact ih (fun z hz=>h z (by simp[hz])) y hy
theorem A3g{n:Nd}(h:FS n):Ff vs ars n=true→∀y,y∈G1 n→PK vs ars y:=by
 induction h with
 |set s a h ha=>
  intro hk y hy;rw[Bf (by simp),Bd,Ao,A4,Ir ha]at hy;simp at hy;subst hy;exact .set s a ((Wo hk).1 rfl) ha (Gz hk (by simp))
 |put s a b h ha hb=>
  intro hk y hy;rw[Bf (by simp),Bd,Ao,Ao,A4,Ir ha,Ir hb]at hy;simp at hy;subst hy;exact .put s a b ((Wo hk).2 rfl) ha (Gz hk (by simp)) hb (Gz hk (by simp))
 |read s h=>
  intro hk y hy;rw[Bf (by simp),Bd,A4]at hy;simp at hy;subst hy;exact .read s ((Wo hk).1 rfl)
 |ifs c l l' hc hl hl' ihl ihl'=>
  intro hk y hy;rw[Bf (by simp),Bd,Ao,Ao,Ao,A4,Qu hc,Li,Li]at hy;simp at hy;subst hy;have k1:Ff vs ars (.mk 30 [] 0 l)=true:=Gz hk (by simp);have k2:Ff vs ars (.mk 30 [] 0 l')=true:=Gz hk (by simp);exact .ifs c _ _ hc (Gz hk (by simp)) (O4 fun x hx=>ihl x hx (Gz k1 (by simpa using hx))) (O4 fun x hx=>ihl' x hx (Gz k2 (by simpa using hx)))
 |whil c l hc hl ihl=>
  intro hk y hy;rw[Bf (by simp),Bd,Ao,Ao,A4,Qu hc,Li]at hy;simp at hy;subst hy;have k1:Ff vs ars (.mk 30 [] 0 l)=true:=Gz hk (by simp);exact .whil c _ hc (Gz hk (by simp)) (O4 fun x hx=>ihl x hx (Gz k1 (by simpa using hx)))
 |for_ s a b l h ha hb hl ihl=>
  intro hk y hy;rw[K6,Ao,Ao,Ao,A4,Ir ha,Ir hb,Li]at hy;simp only[Pz,Tj,Aem,zzq13,Ww,or_false]at hy;have hi:E6 0 vs s≥0:=(Wo hk).1 rfl;have kv:Ff vs ars (.mk 2 s 0 [])=true:=by rw[L0];simp[Qn,Uj,Gq,Nd.kind,Nd.name,hi]
  have k1:Ff vs ars (.mk 1 [] 1 [])=true:=by rw[L0];simp[Qn,Uj,Gq,Nd.kind]
  have kb:=Gz hk (x:=b) (by simp);rcases hy with rfl|rfl
  ·exact .set s a hi ha (Gz hk (by simp))
  ·refine .whil _ _ (.mk 11 _ _ (by omega) (by omega) (.var s h) hb) (by rw[L0];simp[Qn,Uj,Gq,Nd.kind,kv,kb]) fun y hy=>?_;have k3:Ff vs ars (.mk 30 [] 0 l)=true:=Gz hk (by simp);rcases zzq45.1 hy with hy|hy
   ·exact O4 (fun x hx=>ihl x hx (Gz k3 (by simpa using hx))) y hy
   ·simp at hy;subst hy;exact .set s _ hi (.two 6 _ _ (.inl rfl) (.var s h) (.num 1 (by omega) (by omega))) (by rw[L0];simp[Qn,Uj,Gq,Nd.kind,kv,k1])
 |check c hc=>
  intro hk y hy;rw[Bf (by simp),Bd,Ao,A4,Qu hc]at hy;simp at hy;subst hy;exact .check c hc (Gz hk (by simp))
 |skip=>intro _ y hy;rw[Bf (by simp),Bd,A4]at hy;simp at hy;subst hy;exact .skip
 |stop=>intro _ y hy;rw[Bf (by simp),Bd,A4]at hy;simp at hy;subst hy;exact .stop
inductive EdK (vs ars:List (List UInt8)):Eg→Prop
 |set (f t:Int) (y:Bool) (s:List UInt8) (a:Nd) (h:E6 0 vs s≥0) (ha:FE a) (ka:Ff vs ars a=true):EdK vs ars ⟨f,t,1,y,.mk 21 s 0 [a]⟩
 |put (f t:Int) (y:Bool) (s:List UInt8) (a b:Nd) (h:E6 0 ars s≥0) (ha:FE a) (ka:Ff vs ars a=true) (hb:FE b) (kb:Ff vs ars b=true):EdK vs ars ⟨f,t,2,y,.mk 22 s 0 [a,b]⟩
 |read (f t:Int) (y:Bool) (s:List UInt8) (h:E6 0 vs s≥0):EdK vs ars ⟨f,t,3,y,.mk 23 s 0 []⟩
 |guard (f t:Int) (y:Bool) (c:Nd) (hc:FC c) (kc:Ff vs ars c=true):EdK vs ars ⟨f,t,4,y,c⟩
 |check (f t:Int) (y:Bool) (c:Nd) (hc:FC c) (kc:Ff vs ars c=true):EdK vs ars ⟨f,t,5,y,c⟩
 |skip (f t:Int) (y:Bool) (n:Nd):EdK vs ars ⟨f,t,6,y,n⟩
 |stop (f t:Int) (y:Bool) (n:Nd):EdK vs ars ⟨f,t,7,y,n⟩
def EsK(vs ars:List (List UInt8))(g:Gr):Prop:=∀e,e∈g.es→EdK vs ars e
theorem EsK.snoc{g:Gr}{e:Eg}(h:EsK vs ars g)(he:EdK vs ars e){es:List Eg}(hes:es=g.es++[e]):∀x,x∈es→EdK vs ars x:=by
 subst hes;intro x hx;rcases zzq45.1 hx with hx|hx
 ·exact h x hx
 ·simp at hx;subst hx;exact he
theorem Ahh{l:List Nd}(h:∀x,x∈l→∀(a:Nd)(g:Gr),EsK vs ars g→EsK vs ars (gS x a g)):∀(a:Nd)(g:Gr),EsK vs ars g→EsK vs ars (gL l a g):=by
 induction l with
 |nil=>intro a g hg;exact hg
 |cons x l ih=>
  intro a g hg;rw[Yi];exact ih (fun y hy=>h y (by simp[hy])) x _ (h x (by simp) a g hg)
theorem A0n{n:Nd}(h:PK vs ars n):∀(a:Nd)(g:Gr),EsK vs ars g→EsK vs ars (gS n a g):=by
 induction h with
 |set s b h hb kb=>intro a g hg;rw[Z1];exact hg.snoc (.set _ _ _ s b h hb kb) rfl
 |put s b c h hb kb hc kc=>intro a g hg;rw[Z0];exact hg.snoc (.put _ _ _ s b c h hb kb hc kc) rfl
 |read s h=>intro a g hg;rw[Vq];exact hg.snoc (.read _ _ _ s h) rfl
 |ifs c l l' hc kc hl hl' ihl ihl'=>
  intro a g hg;rw[Afe];have h1:EsK vs ars (gL l Cg (D7 g.pt c true g)):=Ahh ihl Cg _ (hg.snoc (.guard _ _ _ c hc kc) rfl);have h2:EsK vs ars (gL l' Cg (D7 g.pt c false (gL l Cg (D7 g.pt c true g)))):=Ahh ihl' Cg _ (h1.snoc (.guard _ _ _ c hc kc) rfl);have h3:EsK vs ars (Ix (gL l Cg (D7 g.pt c true g)).pt (gL l' Cg (D7 g.pt c false (gL l Cg (D7 g.pt c true g)))).pts (gL l' Cg (D7 g.pt c false (gL l Cg (D7 g.pt c true g))))):=h2.snoc (.skip _ _ _ _) rfl;exact h3.snoc (.skip _ _ _ _) rfl
 |whil c l hc kc hl ihl=>
  intro a g hg;rw[Aff];have h1:EsK vs ars (Hp a (.mk 25 [] 0 [c,.mk 30 [] 0 l]) (Dn 6 Cg g)):=hg.snoc (.skip _ _ _ _) rfl;have h2:EsK vs ars (gL l Cg (D7 g.pts c true (Hp a (.mk 25 [] 0 [c,.mk 30 [] 0 l]) (Dn 6 Cg g)))):=Ahh ihl Cg _ (h1.snoc (.guard _ _ _ c hc kc) rfl);have h3:EsK vs ars (Lf g.pts (gL l Cg (D7 g.pts c true (Hp a (.mk 25 [] 0 [c,.mk 30 [] 0 l]) (Dn 6 Cg g))))):=h2.snoc (.skip _ _ _ _) rfl;exact h3.snoc (.guard _ _ _ c hc kc) rfl
 |check c hc kc=>intro a g hg;rw[Ql];exact hg.snoc (.check _ _ _ c hc kc) rfl
 |skip=>intro a g hg;rw[Vr];exact hg.snoc (.skip _ _ _ _) rfl
 |stop=>intro a g hg;rw[Vs];exact hg.snoc (.stop _ _ _ _) rfl
end
theorem EdK.exit{vs ars:List (List UInt8)}{e:Eg}(h:EdK vs ars e)(x:Int):EdK vs ars (D1 x e):=by
 unfold D1;split
 ·cases h<;>constructor<;>assumption
 ·exact h
theorem Ai7{n:Nd}(hr:Fy n=true):(∀x,x∈A9 n→PS x)∧∀e,e∈Lx (A9 n)→EdK (Ax n 31) (Ax n 32) e:=by
 have hF:=(Iz hr).1;obtain⟨ds,hpl,hdl,hPS,_⟩:=Abw hF;refine⟨hPS,?_⟩;have hk:Ff (Ax n 31) (Ax n 32) (Dt n)=true:=by
  have h0:=(X8 hr).1;rw[(Al5 _ _).1];unfold E4 at h0;split at h0
  ·split at h0
   ·simp at h0
   ·split at h0
    ·simp at h0
    ·split at h0
     ·simp at h0
     ·split at h0
      ·simp at h0
      ·rename_i h7;split at h0
       ·simp at h0
       ·rename_i h8;simp[h7,h8]
  ·simp at h0
 have hPK:∀x,x∈A9 n→PK (Ax n 31) (Ax n 32) x:=by
  cases hF with
  |mk ds' l hd hl=>
   have e1:A9 (.mk 40 [] 0 (ds'++[.mk 30 [] 0 l]))=Br l:=by unfold A9 Dt;rw[Yx hd];simp[Nd.kids]
   have e2:Dt (.mk 40 [] 0 (ds'++[.mk 30 [] 0 l]))=.mk 30 [] 0 l:=by unfold Dt;simp[Nd.kids]
   rw[e2]at hk;rw[e1];exact O4 fun x hx=>A3g (hl x hx) (Gz hk (by simpa[Nd.kids]using hx))
 intro e he;unfold Lx at he;obtain⟨e0,h0,rfl⟩:=zzq66.1 he;refine EdK.exit ?_ _;have hg:EsK (Ax n 31) (Ax n 32) (D6 (A9 n)):=by
  have h1:EsK (Ax n 31) (Ax n 32) (gL (A9 n) Cg ⟨1,0,[],[],[],0⟩):=Ahh (fun x hx=>A0n (hPK x hx)) Cg _ (fun e h=>by cases h);exact h1.snoc (.skip _ _ _ _) rfl
 exact hg e0 h0
end Go.V
