/- A part of the proof of the claim that the last text states: no condition of its own. -/
import Derived.Test.YtfpfmkljakiedaaGreatDoorC13
import Derived.Carry
import Derived.ChangeArms
import Derived.ChangeVars
import Derived.Deep.DeepHandedRow
import Derived.Lib.LaidTab
import Derived.Lib.LaidU8
import Derived.OpenShut
import Derived.ProofKit
import Derived.Test.YtfpfmkljakiedaaGreatDoorCards
import Derived.Test.YtfpfmkljakiedaaGreatDoorTie
import Derived.WalkKit
set_option linter.unusedVariables false
set_option linter.unusedSimpArgs false
namespace Go.V
open Go Go.Proofs
theorem checkS_0 {n:Nd}(h:rightS n=true):checkS n=(0,[])∧progOkS n=true∧progOkS (plainM n)=true:=by
 unfold rightS at h
 have h0:(checkS n).1=0:=by simpa using h
 unfold checkS at h0 ⊢
 split at h0
 ·rename_i h1
  rw [if_pos h1]
  split at h0
  ·simp at h0
  ·rename_i h2
   rw [if_neg h2]
   split at h0
   ·simp at h0
   ·rename_i h3
    rw [if_neg h3]
    split at h0
    ·simp at h0
    ·rename_i h4
     split at h0
     ·simp at h0
     ·rename_i h5
      split at h0
      ·simp at h0
      ·rename_i h6
       split at h0
       ·rename_i h7
        simp [h1,h5,h6,h7]
       ·simp at h0
 ·simp at h0
theorem right_facts {n:Nd}(h:rightS n=true):FP n∧countN n≤500∧wN n≤4500∧n.kids≠[]∧n.kids.length≤4500:=by
 obtain ⟨fp,hc,_⟩:=progOkS_FP (checkS_0 h).2.1
 have hw:=wN_formed n (FP_formed fp)
 have hk:=kids_le_w n
 have hne:n.kids≠[]:=by cases fp;simp
 exact ⟨fp,hc,by omega,hne,by omega⟩
def ledI (f:Eg→Int)(p:Nat)(k:Nat):List Eg→List Nat
 | []=>[]
 | e::l=>if f e=p then k::ledI f p (k+1) l else ledI f p (k+1) l
def ledL (f:Eg→Int)(l:List Eg)(p:Nat):List Nat:=ledI f p 0 l
theorem ledI_snoc (f:Eg→Int)(p:Nat)(e:Eg):∀ (l:List Eg)(k:Nat),ledI f p k (l++[e])=ledI f p k l++(if f e=p then [k+l.length] else [])
 | [],k=>by simp [ledI]
 | x::l,k=>by
   simp only [List.cons_append,ledI,List.length_cons]
   rw [ledI_snoc f p e l (k+1),show k+1+l.length=k+(l.length+1) by omega]
   split<;>simp
theorem ledI_len (f:Eg→Int)(p:Nat):∀ (l:List Eg)(k:Nat),(ledI f p k l).length≤l.length
 | [],k=>by simp [ledI]
 | x::l,k=>by
   simp only [ledI,List.length_cons]
   have:=ledI_len f p l (k+1)
   split<;>simp<;>omega
def tkR (m:Nat)(f:Eg→Int)(l:List Eg)(pts:Nat):List (List AV):=(List.range pts).map fun p=>[AV.sl (irs (ledL f l p)) (.tok (m+p))]
def tkL (f:Eg→Int)(l:List Eg)(pts:Nat):List Nat:=(List.range pts).map fun p=>(ledL f l p).length
theorem tkR_len (m:Nat)(f:Eg→Int)(l:List Eg)(pts:Nat):(tkR m f l pts).length=pts:=by simp [tkR]
theorem tkL_len (f:Eg→Int)(l:List Eg)(pts:Nat):(tkL f l pts).length=pts:=by simp [tkL]
theorem tkR_get (m:Nat)(f:Eg→Int)(l:List Eg){pts j:Nat}(h:j<pts):(tkR m f l pts)[j]?=some [AV.sl (irs (ledL f l j)) (.tok (m+j))]:=by simp [tkR,h]
theorem tkL_get (f:Eg→Int)(l:List Eg){pts j:Nat}(h:j<pts):(tkL f l pts)[j]?=some (ledL f l j).length:=by simp [tkL,h]
theorem led_snoc (f:Eg→Int){l:List Eg}{i:Nat}{e:Eg}(h:l[i]?=some e)(p:Nat):ledL f (l.take (i+1)) p=ledL f (l.take i) p++(if f e=p then [i] else []):=by
 have hi:=lt_of_get h
 unfold ledL
 rw [List.take_add_one,h]
 simp only [Option.toList_some]
 rw [ledI_snoc,Nat.zero_add,List.length_take,Nat.min_eq_left (by omega)]
theorem tkR_set (m:Nat)(f:Eg→Int){l:List Eg}{i j pts:Nat}{e:Eg}(h:l[i]?=some e)(hj:f e=j):(tkR m f (l.take i) pts).set j [AV.sl (irs (ledL f (l.take i) j++[i])) (.tok (m+j))]=tkR m f (l.take (i+1)) pts:=by
 apply List.ext_getElem?
 intro k
 rw [List.getElem?_set,tkR_len]
 by_cases hk:j=k
 ·subst hk
  rw [if_pos rfl]
  by_cases hp:j<pts
  ·rw [if_pos hp,tkR_get _ _ _ hp,led_snoc f h,if_pos hj]
  ·rw [if_neg hp,List.getElem?_eq_none (by rw [tkR_len];omega)]
 ·rw [if_neg hk]
  by_cases hp:k<pts
  ·rw [tkR_get _ _ _ hp,tkR_get _ _ _ hp,led_snoc f h,if_neg (by rw [hj];omega),List.append_nil]
  ·rw [List.getElem?_eq_none (by rw [tkR_len];omega),List.getElem?_eq_none (by rw [tkR_len];omega)]
theorem tkL_set (f:Eg→Int){l:List Eg}{i j pts:Nat}{e:Eg}(h:l[i]?=some e)(hj:f e=j):(tkL f (l.take i) pts).set j ((ledL f (l.take i) j).length+1)=tkL f (l.take (i+1)) pts:=by
 apply List.ext_getElem?
 intro k
 rw [List.getElem?_set,tkL_len]
 by_cases hk:j=k
 ·subst hk
  rw [if_pos rfl]
  by_cases hp:j<pts
  ·rw [if_pos hp,tkL_get _ _ hp,led_snoc f h,if_pos hj];simp
  ·rw [if_neg hp,List.getElem?_eq_none (by rw [tkL_len];omega)]
 ·rw [if_neg hk]
  by_cases hp:k<pts
  ·rw [tkL_get _ _ hp,tkL_get _ _ hp,led_snoc f h,if_neg (by rw [hj];omega),List.append_nil]
  ·rw [List.getElem?_eq_none (by rw [tkL_len];omega),List.getElem?_eq_none (by rw [tkL_len];omega)]
theorem tkR_ok {n M m pts:Nat}(f:Eg→Int)(l:List Eg)(h:m+pts≤M):RowsOk n M (tkR m f l pts):=fun r hr x hx=>by
 obtain ⟨p,hp,rfl⟩:=List.mem_map.1 hr
 simp at hx;subst hx
 have:=List.mem_range.1 hp
 exact .sl _ _ ((inferInstance:OKR n M (irs (ledL f l p))).ok) (fun t ht=>by cases ht;omega)
def ledR (f:Eg→Int)(l:List Eg)(pts:Nat):List (List AV):=(List.range pts).map fun p=>[.sl (irs (ledL f l p)) .no]
def progC (n:Nd):List AV :=
 vi (gAll (planL n)).pts::.sl (erows (gEs (planL n))) .no::.sl (strR (declS n 31)) .no::.sl (strR (declS n 32)) .no::.sl (zrs (sizesT n)) .no ::
  .sl (ledR Eg.f (gEs (planL n)) (gAll (planL n)).pts) .no::.sl (ledR Eg.t (gEs (planL n)) (gAll (planL n)).pts) .no::ncells (plainM n)
theorem led_fz {S:St}{m b pts:Nat}(f:Eg→Int)(l:List Eg)(hS:S.boxes[b]?=some (tkR m f l pts))(hp:pts≤maxN):Fz S 0 0 (.bsl b pts) (.sl (ledR f l pts) .no):=by
 refine .bsl b pts (tkR m f l pts) (ledR f l pts) (Nat.zero_le _) hS (by rw [tkR_len];exact Nat.le_refl _) hp (by simp [ledR]) (fun i r r' h1 h2=>?_) (fun i j r r' x y h1 h2 h3 h4=>?_)
 ·have hi:=lt_of_get h1
  rw [tkR_len] at hi
  rw [tkR_get _ _ _ hi] at h1
  simp only [ledR,List.getElem?_map,List.getElem?_range hi,Option.map_some] at h2
  cases h1;cases h2;rfl
 ·have hi:=lt_of_get h1
  rw [tkR_len] at hi
  rw [tkR_get _ _ _ hi] at h1
  simp only [ledR,List.getElem?_map,List.getElem?_range hi,Option.map_some] at h2
  cases h1;cases h2
  cases j with
  | zero=>simp at h3 h4;subst h3;subst h4;exact Fz_sl (FzR.same ((inferInstance:OKR 0 0 (irs (ledL f l i))).ok))
  | succ j=>simp at h3
set_option maxHeartbeats 2000000 in
theorem q_newProgram (n:Nd)(hn:countN n≤1000000000)(hnum:PrI n) :
 Pure X 57 [nd n] (if rightS n=true then .tup [.cptr (progC n),vb true] else .tup [.val (.pointer none),vb false]):=by
 have hfl:flatTy X.P 63=some [0,1]:=by kernel_rfl
 refine Pure.run Tryz.func57 ?_
 refine AK.pc (q_check n hn hnum) ?_
 refine AK.op (Ndo.eqs (r:=!(((checkS n).1==0)&&(((checkS n).2==[])&&true))) rfl rfl rfl rfl rfl hfl rfl (.inr ⟨rfl,rfl⟩)) ?_
 by_cases hr:rightS n=true
 ·obtain ⟨hC,h1,h2⟩:=checkS_0 hr
  obtain ⟨fp,hc,hw,hne,hkl⟩:=right_facts hr
  rw [if_pos hr]
  have hpv:planV n=plainM n:=by unfold planV;rw [hC];rfl
  rw [hC,hpv]
  refine AK.no ?_
  obtain ⟨ds,hpl,_,hps,hwl⟩:=FP_plan fp
  have hpw:=(plain_w n).1
  have hkp:=kids_le_w (plainM n)
  have hgr:Pure X 82 [nd (plainM n)] (.agg [vi (gAll (planL n)).pts,.sl (erows (gEs (planL n))) .no]):=j_graphOf (plainM n) (by rw [hpl];simp) hps (show wL (planL n)≤_ by omega) (by omega)
  refine AK.db 1024 ?_
  refine Drv.pg hgr ?_
  refine Drv.pg (q_namesOf n 31 hne (by omega)) ?_
  refine Drv.pg (q_namesOf n 32 hne (by omega)) ?_
  refine Drv.pg (q_sizesOf n hne (by omega)) ?_
  refine Drv.w (Ndo.mem rfl rfl rfl) ?_
  refine Drv.e ?_
  refine Drv.z ?_
  have hps2:=PSL_le hps nd0 ⟨1,0,[],[],[],0⟩ (by decide)
  have hpts:(gAll (planL n)).pts≤2000000∧(gEs (planL n)).length≤2000000∧∀ e,e∈gEs (planL n)→(0≤e.f∧e.f<(gAll (planL n)).pts)∧0≤e.t∧e.t<(gAll (planL n)).pts:=by
   have hl:=leaf_le 6 nd0 hps2.pt
   have hA:=hps2.trans hl (Nat.le_refl _)
   obtain ⟨es,e1,e2,e3⟩:=hA.es
   have hpp:=hA.pts
   simp only [bG] at e2 hpp
   have hes:(gAll (planL n)).es=es:=by unfold gAll;rw [e1];rfl
   have hpt:(gAll (planL n)).pt<(gAll (planL n)).pts:=hA.pt
   refine ⟨by show _≤_;unfold gAll;have:(1:Nat)=(⟨1,0,[],[],[],0⟩:Gr).pts:=rfl;omega,by unfold gEs;rw [hes,List.length_map];omega,fun e he=>?_⟩
   unfold gEs at he
   rw [hes] at he
   obtain ⟨e0,h0,rfl⟩:=List.mem_map.1 he
   obtain ⟨q1,q2⟩:=e3 e0 h0
   have q1':0≤e0.f∧e0.f<(gAll (planL n)).pts:=q1
   have q2':e0.t=-1∨(0≤e0.t∧e0.t<(gAll (planL n)).pts):=q2
   unfold toExit
   split
   ·exact ⟨q1',by simp;omega⟩
   ·exact ⟨q1',by omega⟩
  obtain ⟨hp1,hp2,hp3⟩:=hpts
  unfold progC
  generalize gEs (planL n)=es at *
  generalize (gAll (planL n)).pts=pts at *
  let prow (x y:AV):List AV:=vi pts::.sl (erows es) .no::.sl (strR (declS n 31)) .no::.sl (strR (declS n 32)) .no::.sl (zrs (sizesT n)) .no::x::y::ncells (plainM n)
  let bxs (x y:AV):List (List (List AV)):=[[ncells n],[ncells (plainM n)],[[vi 0,str []]],[prow x y],List.replicate pts [.sl [] .tight],List.replicate pts [.sl [] .tight]]
  have L6:AK X ⟨57,Tryz.f57,0,0⟩ (locG false 6 Tryz.f57) [(6,.ptr 3 0 0)] ⟨bxs (.bsl 4 pts) (.bsl 5 pts),[]⟩
   (fun e S=>e=.ret (.tup [.cptr (vi pts::.sl (erows es) .no::.sl (strR (declS n 31)) .no::.sl (strR (declS n 32)) .no::.sl (zrs (sizesT n)) .no::.sl (ledR Eg.f es pts) .no::.sl (ledR Eg.t es pts) .no::ncells (plainM n)),vb true])∧S=⟨[],[]⟩):=by
   refine AK.at_ ?_
   refine AK.mintAll (bx:=[[ncells n],[ncells (plainM n)],[[vi 0,str []]],[prow (.bsl 4 pts) (.bsl 5 pts)],tkR 0 Eg.f [] pts,List.replicate pts [.sl [] .tight]]) (tk:=List.replicate pts 0) 4 pts 0 rfl rfl rfl rfl ?_
   refine AK.mintAll (bx:=[[ncells n],[ncells (plainM n)],[[vi 0,str []]],[prow (.bsl 4 pts) (.bsl 5 pts)],tkR 0 Eg.f [] pts,tkR pts Eg.t [] pts]) (tk:=List.replicate pts 0++List.replicate pts 0) 5 pts pts rfl (by simp) rfl rfl ?_
   refine AK.sto ⟨[[ncells n],[ncells (plainM n)],[[vi 0,str []]],[prow (.bsl 4 pts) (.bsl 5 pts)],tkR 0 Eg.f (es.take 0) pts,tkR pts Eg.t (es.take 0) pts],tkL Eg.f (es.take 0) pts++tkL Eg.t (es.take 0) pts⟩ ?_ (by
    have:∀ f:Eg→Int,tkL f (es.take 0) pts=List.replicate pts 0:=fun f=>List.eq_replicate_iff.2 ⟨tkL_len f _ pts,fun b hb=>by obtain ⟨p,_,rfl⟩:=List.mem_map.1 hb;rfl⟩
    rw [this,this];rfl)
   refine AK.ev 100 rfl ?_
   refine AK.while_ (ι:=Nat) 6 (pts+pts) (fun i=>i≤es.length) (fun i=>[(52,vi i),(51,vi es.length),(50,.sl (erows es) .no),(6,.ptr 3 0 0)])
    (fun i=>⟨[[ncells n],[ncells (plainM n)],[[vi 0,str []]],[prow (.bsl 4 pts) (.bsl 5 pts)],tkR 0 Eg.f (es.take i) pts,tkR pts Eg.t (es.take i) pts],tkL Eg.f (es.take i) pts++tkL Eg.t (es.take i) pts⟩) (fun i=>es.length-i) ?_ 0
    (Nat.zero_le _) ⟨rfl,by rw [← erows_len es];rfl,rfl,rfl,trivial⟩ ?_ rfl (by simp) rfl ?_ (fun _=>inferInstance) (fun i=>⟨?_⟩)
   ·intro i hi IH
    refine AK.ev 100 rfl ?_
    refine AK.if_ (fun h=>?_) (fun h=>?_)
    ·have hlt:i<es.length:=by have:=of_decide_eq_true h;omega
     obtain ⟨⟨ef,et,ek,ey,en⟩,he⟩:=lget_of_lt es hlt
     obtain ⟨⟨q1,q2⟩,q3,q4⟩:=hp3 _ (List.mem_of_getElem? he)
     simp only at q1 q2 q3 q4
     obtain ⟨j,rfl⟩:=Int.eq_ofNat_of_zero_le q1
     obtain ⟨j',rfl⟩:=Int.eq_ofNat_of_zero_le q3
     have hj:j<pts:=by omega
     have hj':j'<pts:=by omega
     refine AK.ix i (by omega) (erows_get he) ?_
     refine AK.db 327680 ?_
     refine Drv.lo (Ndo.atB (j:=j) rfl rfl rfl rfl rfl rfl rfl rfl (by simpa [Nat.blt_eq] using hj) rfl (tkR_get 0 Eg.f _ hj) rfl) ?_
     refine Drv.lo (Ndo.loadB rfl (tkR_get 0 Eg.f _ hj) rfl rfl rfl rfl rfl rfl rfl) ?_
     refine Drv.go ?_
     have hlf:=ledI_len Eg.f j (es.take i) 0
     have hlt':=ledI_len Eg.t j' (es.take i) 0
     have htk:(es.take i).length=i:=by simp;omega
     have hlF:(tkL Eg.f (es.take i) pts).length=pts:=tkL_len _ _ _
     have hkF:(tkL Eg.f (es.take i) pts++tkL Eg.t (es.take i) pts)[0+j]?=some (ledL Eg.f (es.take i) j).length:=by
      rw [Nat.zero_add,List.getElem?_append_left (by omega)];exact tkL_get _ _ hj
     refine Drv.wl (S':=⟨[[ncells n],[ncells (plainM n)],[[vi 0,str []]],[prow (.bsl 4 pts) (.bsl 5 pts)],tkR 0 Eg.f (es.take i) pts,tkR pts Eg.t (es.take i) pts,[erow ⟨j,j',ek,ey,en⟩]],tkL Eg.f (es.take (i+1)) pts++tkL Eg.t (es.take i) pts⟩)
      (Ndo.append (res:=irs (ledL Eg.f (es.take i) j++[i])) rfl rfl rfl rfl rfl rfl rfl rfl rfl rfl rfl rfl rfl hkF (irs_len _) (irs_al _) rfl rfl rfl ?_ (irs_snoc _ i) ?_) ?_ ?_
     ·rw [irs_len];unfold ledL;show _+1≤_;omega
     ·show (tkL Eg.f (es.take i) pts++tkL Eg.t (es.take i) pts).set (0+j) ((irs (ledL Eg.f (es.take i) j)).length+1)=_
      rw [Nat.zero_add,irs_len,List.set_append_left _ _ (by omega),tkL_set Eg.f he rfl]
     ·refine strip_eq (Ndo.loadB rfl (tkR_get 0 Eg.f _ hj) rfl rfl rfl rfl rfl rfl rfl) (strip_eq (Ndo.atB (j:=j) rfl rfl rfl rfl rfl rfl rfl rfl (by simpa [Nat.blt_eq] using hj) rfl (tkR_get 0 Eg.f _ hj) rfl) ?_)
      exact strip_eq (Ndo.ev rfl rfl rfl) (strip_eq (Ndo.ev rfl rfl rfl) (strip_eq (Ndo.ev rfl rfl rfl) (strip_eq (Ndo.ev rfl rfl rfl) allN)))
     refine Drv.look (strip_eq (Ndo.atB (j:=j) rfl rfl rfl rfl rfl rfl rfl rfl (by simpa [Nat.blt_eq] using hj) rfl (tkR_get 0 Eg.f _ hj) rfl) (strip_eq (Ndo.atB (j:=j) rfl rfl rfl rfl rfl rfl rfl rfl (by simpa [Nat.blt_eq] using hj) rfl (tkR_get 0 Eg.f _ hj) rfl) allN)) rfl ?_
     refine Drv.w (Ndo.store rfl rfl rfl rfl rfl rfl (storeA_row rfl (tkR_get 0 Eg.f _ hj) rfl rfl rfl)) ?_
     refine Drv.z ?_
     refine AK.sto ⟨[[ncells n],[ncells (plainM n)],[[vi 0,str []]],[prow (.bsl 4 pts) (.bsl 5 pts)],tkR 0 Eg.f (es.take (i+1)) pts,tkR pts Eg.t (es.take i) pts,[erow ⟨j,j',ek,ey,en⟩]],tkL Eg.f (es.take (i+1)) pts++tkL Eg.t (es.take i) pts⟩ ?_ (by
      rw [← tkR_set 0 Eg.f he rfl];rfl)
     refine AK.db 327680 ?_
     refine Drv.lo (Ndo.atB (j:=j') rfl rfl rfl rfl rfl rfl rfl rfl (by simpa [Nat.blt_eq] using hj') rfl (tkR_get pts Eg.t _ hj') rfl) ?_
     refine Drv.lo (Ndo.loadB rfl (tkR_get pts Eg.t _ hj') rfl rfl rfl rfl rfl rfl rfl) ?_
     refine Drv.go ?_
     have hkT:(tkL Eg.f (es.take (i+1)) pts++tkL Eg.t (es.take i) pts)[pts+j']?=some (ledL Eg.t (es.take i) j').length:=by
      rw [List.getElem?_append_right (by rw [tkL_len];omega),tkL_len,Nat.add_sub_cancel_left];exact tkL_get _ _ hj'
     refine Drv.wl (S':=⟨[[ncells n],[ncells (plainM n)],[[vi 0,str []]],[prow (.bsl 4 pts) (.bsl 5 pts)],tkR 0 Eg.f (es.take (i+1)) pts,tkR pts Eg.t (es.take i) pts,[erow ⟨j,j',ek,ey,en⟩]],tkL Eg.f (es.take (i+1)) pts++tkL Eg.t (es.take (i+1)) pts⟩)
      (Ndo.append (res:=irs (ledL Eg.t (es.take i) j'++[i])) rfl rfl rfl rfl rfl rfl rfl rfl rfl rfl rfl rfl rfl hkT (irs_len _) (irs_al _) rfl rfl rfl ?_ (irs_snoc _ i) ?_) ?_ ?_
     ·rw [irs_len];unfold ledL;show _+1≤_;omega
     ·show (tkL Eg.f (es.take (i+1)) pts++tkL Eg.t (es.take i) pts).set (pts+j') ((irs (ledL Eg.t (es.take i) j')).length+1)=_
      rw [irs_len,List.set_append_right _ _ (by rw [tkL_len];omega),tkL_len,Nat.add_sub_cancel_left,tkL_set Eg.t he rfl]
     ·refine strip_eq (Ndo.loadB rfl (tkR_get pts Eg.t _ hj') rfl rfl rfl rfl rfl rfl rfl) (strip_eq (Ndo.atB (j:=j') rfl rfl rfl rfl rfl rfl rfl rfl (by simpa [Nat.blt_eq] using hj') rfl (tkR_get pts Eg.t _ hj') rfl) ?_)
      exact strip_eq (Ndo.ev rfl rfl rfl) (strip_eq (Ndo.ev rfl rfl rfl) (strip_eq (Ndo.ev rfl rfl rfl) (strip_eq (Ndo.ev rfl rfl rfl) allN)))
     refine Drv.look (strip_eq (Ndo.atB (j:=j') rfl rfl rfl rfl rfl rfl rfl rfl (by simpa [Nat.blt_eq] using hj') rfl (tkR_get pts Eg.t _ hj') rfl) (strip_eq (Ndo.atB (j:=j') rfl rfl rfl rfl rfl rfl rfl rfl (by simpa [Nat.blt_eq] using hj') rfl (tkR_get pts Eg.t _ hj') rfl) allN)) rfl ?_
     refine Drv.w (Ndo.store rfl rfl rfl rfl rfl rfl (storeA_row rfl (tkR_get pts Eg.t _ hj') rfl rfl rfl)) ?_
     refine Drv.z ?_
     refine AK.sto ⟨[[ncells n],[ncells (plainM n)],[[vi 0,str []]],[prow (.bsl 4 pts) (.bsl 5 pts)],tkR 0 Eg.f (es.take (i+1)) pts,tkR pts Eg.t (es.take (i+1)) pts,[erow ⟨j,j',ek,ey,en⟩]],tkL Eg.f (es.take (i+1)) pts++tkL Eg.t (es.take (i+1)) pts⟩ ?_ (by
      rw [← tkR_set pts Eg.t he rfl];rfl)
     refine IH (i+1) hlt (by omega) _ _ ⟨vint ((wrap_small (by omega) (by omega)).trans (by omega)),rfl,rfl,rfl,trivial⟩ ?_ rfl ?_
     ·exact congrArg (St.mk _) (List.take_of_length_le (by simp [tkL_len]))
     ·show Nat.ble (pts+pts) (tkL Eg.f (es.take (i+1)) pts++tkL Eg.t (es.take (i+1)) pts).length=true
      simp [tkL_len]
    ·have:i=es.length:=by have:=of_decide_eq_false h;omega
     subst this
     rw [List.take_length]
     have f1:=led_fz (S:=⟨[[ncells n],[ncells (plainM n)],[[vi 0,str []]],[prow (.bsl 4 pts) (.bsl 5 pts)],tkR 0 Eg.f es pts,tkR pts Eg.t es pts],tkL Eg.f es pts++tkL Eg.t es pts⟩) (b:=4) (m:=0) (pts:=pts) Eg.f es rfl (by unfold maxN;omega)
     have f2:=led_fz (S:=⟨[[ncells n],[ncells (plainM n)],[[vi 0,str []]],[prow (.bsl 4 pts) (.bsl 5 pts)],tkR 0 Eg.f es pts,tkR pts Eg.t es pts],tkL Eg.f es pts++tkL Eg.t es pts⟩) (b:=5) (m:=pts) (pts:=pts) Eg.t es rfl (by unfold maxN;omega)
     haveI i1:FzC ⟨[[ncells n],[ncells (plainM n)],[[vi 0,str []]],[prow (.bsl 4 pts) (.bsl 5 pts)],tkR 0 Eg.f es pts,tkR pts Eg.t es pts],tkL Eg.f es pts++tkL Eg.t es pts⟩ 0 0 (.bsl 4 pts) (.sl (ledR Eg.f es pts) .no):=⟨f1⟩
     haveI i2:FzC ⟨[[ncells n],[ncells (plainM n)],[[vi 0,str []]],[prow (.bsl 4 pts) (.bsl 5 pts)],tkR 0 Eg.f es pts,tkR pts Eg.t es pts],tkL Eg.f es pts++tkL Eg.t es pts⟩ 0 0 (.bsl 5 pts) (.sl (ledR Eg.t es pts) .no):=⟨f2⟩
     exact AK.rz Tryz.func57 rfl
   ·exact congrArg (St.mk _) (List.take_of_length_le (by simp [tkL_len]))
   ·show Nat.ble (pts+pts) (tkL Eg.f (es.take 0) pts++tkL Eg.t (es.take 0) pts).length=true
    simp [tkL_len]
   ·intro rows hrows
    simp only [List.mem_cons,List.not_mem_nil,or_false] at hrows
    rcases hrows with rfl | rfl | rfl | rfl | rfl | rfl
    ·exact (inferInstance:OKR 6 (pts+pts) [ncells n]).ok
    ·exact (inferInstance:OKR 6 (pts+pts) [ncells (plainM n)]).ok
    ·exact (inferInstance:OKR 6 (pts+pts) [[vi 0,str []]]).ok
    ·exact (inferInstance:OKR 6 (pts+pts) [vi pts::.sl (erows es) .no::.sl (strR (declS n 31)) .no::.sl (strR (declS n 32)) .no::.sl (zrs (sizesT n)) .no::.bsl 4 pts::.bsl 5 pts::ncells (plainM n)]).ok
    ·exact tkR_ok Eg.f _ (by omega)
    ·exact tkR_ok Eg.t _ (by omega)
  refine AK.sto ⟨[[ncells n],[ncells (plainM n)],[[vi 0,str []]],[prow (.sl [] .tight) (.sl [] .tight)]],[]⟩ ?_
  refine AK.as_ 6 (.ptr 3 0 0) ?_
  refine AK.ways fun l hord=>?_
  rcases AB_or (show 7≠13 by decide) l (fun _=>false) with h1 | h1
  ·rcases AB_or (show 13≠16 by decide) l (fun _=>false) with h2 | h2
   ·refine Way.mk [0,1,2,3,4,5,6,8,9,10,11,12,7,13,14,15,16,17,18,19] [(7,13),(13,16)] 598144 ?_ rfl ?_
    ·intro ab hab
     simp only [List.mem_cons,List.not_mem_nil,or_false] at hab
     rcases hab with rfl | rfl
     ·exact h1
     ·exact h2
    refine DrvP.go 12 ?_
    refine DrvP.w (Ndo.mkS (n:=pts) (b:=4) (by omega) rfl rfl rfl rfl rfl rfl rfl rfl rfl rfl) ?_ ?_
    ·exact strip_eq (Ndo.ev rfl rfl rfl) (strip_eq (Ndo.ev rfl rfl rfl) allN)
    refine DrvP.w0 (Ndo.mkS (n:=pts) (b:=5) (by omega) rfl rfl rfl rfl rfl rfl rfl rfl rfl rfl) ?_
    refine DrvP.e ?_
    refine DrvP.e ?_
    refine DrvP.w0 (Ndo.store rfl rfl rfl rfl rfl rfl rfl) ?_
    refine DrvP.e ?_
    refine DrvP.e ?_
    refine DrvP.w0 (Ndo.store rfl rfl rfl rfl rfl rfl rfl) ?_
    refine DrvP.zj 6 ?_
    refine AK.sto ⟨bxs (.bsl 4 pts) (.bsl 5 pts),[]⟩ ?_
    refine AK.sub (G:=[(6,.ptr 3 0 0)]) ⟨rfl,trivial⟩ ?_
    exact L6
   ·refine Way.mk [0,1,2,3,4,5,6,8,9,10,11,12,7,14,15,16,13,17,18,19] [(7,13),(16,13)] 598144 ?_ rfl ?_
    ·intro ab hab
     simp only [List.mem_cons,List.not_mem_nil,or_false] at hab
     rcases hab with rfl | rfl
     ·exact h1
     ·exact h2
    refine DrvP.go 12 ?_
    refine DrvP.w (Ndo.mkS (n:=pts) (b:=4) (by omega) rfl rfl rfl rfl rfl rfl rfl rfl rfl rfl) ?_ ?_
    ·exact strip_eq (Ndo.ev rfl rfl rfl) (strip_eq (Ndo.ev rfl rfl rfl) allN)
    refine DrvP.e ?_
    refine DrvP.e ?_
    refine DrvP.w0 (Ndo.store rfl rfl rfl rfl rfl rfl rfl) ?_
    refine DrvP.w0 (Ndo.mkS (n:=pts) (b:=5) (by omega) rfl rfl rfl rfl rfl rfl rfl rfl rfl rfl) ?_
    refine DrvP.e ?_
    refine DrvP.e ?_
    refine DrvP.w0 (Ndo.store rfl rfl rfl rfl rfl rfl rfl) ?_
    refine DrvP.zj 6 ?_
    refine AK.sto ⟨bxs (.bsl 4 pts) (.bsl 5 pts),[]⟩ ?_
    refine AK.sub (G:=[(6,.ptr 3 0 0)]) ⟨rfl,trivial⟩ ?_
    exact L6
  ·have h2:AB 13 16 l (fun _=>false):=AB_of (b:=7) (by decide) (by kernel_rfl) l _ hord h1 (fun h=>by cases h)
   refine Way.mk [0,1,2,3,4,5,6,8,9,10,11,12,13,7,14,15,16,17,18,19] [(13,7),(13,16)] 598144 ?_ rfl ?_
   ·intro ab hab
    simp only [List.mem_cons,List.not_mem_nil,or_false] at hab
    rcases hab with rfl | rfl
    ·exact h1
    ·exact h2
   refine DrvP.go 12 ?_
   refine DrvP.w (Ndo.mkS (n:=pts) (b:=4) (by omega) rfl rfl rfl rfl rfl rfl rfl rfl rfl rfl) ?_ ?_
   ·exact strip_eq (Ndo.ev rfl rfl rfl) (strip_eq (Ndo.ev rfl rfl rfl) allN)
   refine DrvP.w0 (Ndo.mkS (n:=pts) (b:=5) (by omega) rfl rfl rfl rfl rfl rfl rfl rfl rfl rfl) ?_
   refine DrvP.e ?_
   refine DrvP.e ?_
   refine DrvP.w0 (Ndo.store rfl rfl rfl rfl rfl rfl rfl) ?_
   refine DrvP.e ?_
   refine DrvP.e ?_
   refine DrvP.w0 (Ndo.store rfl rfl rfl rfl rfl rfl rfl) ?_
   refine DrvP.zj 6 ?_
   refine AK.sto ⟨bxs (.bsl 5 pts) (.bsl 4 pts),[]⟩ ?_
   refine AK.perm (G:=[(6,.ptr 3 0 0)]) (bx3:=[[ncells n],[ncells (plainM n)],[[vi 0,str []]],[vi pts::.sl (erows es) .no::.sl (strR (declS n 31)) .no::.sl (strR (declS n 32)) .no::.sl (zrs (sizesT n)) .no::.bsl 5 pts::.bsl 4 pts::ncells (plainM n)],List.replicate pts [.sl [] .tight],List.replicate pts [.sl [] .tight]]) (bx2:=[[ncells n],[ncells (plainM n)],[[vi 0,str []]],[vi pts::.sl (erows es) .no::.sl (strR (declS n 31)) .no::.sl (strR (declS n 32)) .no::.sl (zrs (sizesT n)) .no::.bsl 4 pts::.bsl 5 pts::ncells (plainM n)],List.replicate pts [.sl [] .tight],List.replicate pts [.sl [] .tight]]) [0,1,2,3,5,4] ?_ (.cons rfl inferInstance .nil) rfl rfl rfl rfl rfl
   exact L6
 ·rw [if_neg hr]
  have h0:((checkS n).1==0)=false:=by unfold rightS at hr;simpa using hr
  refine AK.yes ?_ (ht:=by rw [h0];rfl)
  exact AK.rz Tryz.func57 rfl
instance {n m:Nat}{f:Eg→Int}{l:List Eg}{pts:Nat}:OKR n m (ledR f l pts):=⟨fun r hr x hx=>by
 obtain ⟨p,_,rfl⟩:=List.mem_map.1 hr
 simp at hx;subst hx
 exact (inferInstance:OK n m (.sl (irs (ledL f l p)) .no)).ok⟩
instance {n m:Nat}{x:Nd}:OKL n m (progC x):=⟨(inferInstance:OKL n m (vi (gAll (planL x)).pts::.sl (erows (gEs (planL x))) .no::.sl (strR (declS x 31)) .no::.sl (strR (declS x 32)) .no::.sl (zrs (sizesT x)) .no ::
 .sl (ledR Eg.f (gEs (planL x)) (gAll (planL x)).pts) .no::.sl (ledR Eg.t (gEs (planL x)) (gAll (planL x)).pts) .no::ncells (plainM x))).ok⟩
theorem declS_le (n:Nd)(k:Int):(declS n k).length≤n.kids.length:=by rw [declS_K,List.length_map];exact declK_le n k
def takeC (n:Nd):List AV:=[.sl (strR (declS n 31)) .no,.sl (strR (declS n 32)) .no,.sl (zrs (sizesT n)) .no,vi (gAll (planL n)).pts,.sl (erows (gEs (planL n))) .no]
instance {n m:Nat}{x:Nd}:OKL n m (takeC x):=⟨(inferInstance:OKL n m [.sl (strR (declS x 31)) .no,.sl (strR (declS x 32)) .no,.sl (zrs (sizesT x)) .no,vi (gAll (planL x)).pts,.sl (erows (gEs (planL x))) .no]).ok⟩
theorem p_take (n:Nd)(hr:rightS n=true):Pure X 53 [nd n] (.agg (takeC n)):=by
 obtain ⟨fp,_,hw,_,_⟩:=right_facts hr
 refine Pure.run Tryz.func53 ?_
 refine AK.db 512 ?_
 refine Drv.pg (p_declared n 31 (by omega)) ?_
 refine Drv.pg (p_declared n 32 (by omega)) ?_
 refine Drv.pg (p_sizes n (by omega)) ?_
 refine Drv.pg (g_graph n fp (by omega)) ?_
 refine Drv.w (Ndo.store rfl rfl rfl rfl rfl rfl rfl) ?_
 refine Drv.z ?_
 exact AK.rz Tryz.func53 rfl
end Go.V
namespace Go.V
open Go
end Go.V
namespace Go.V
open Go Go.Proofs
inductive LnI:Nd→Prop where
 | mk (k:Int) (s:List UInt8) (m:Int) (ks:List Nd) (hs:s.length≤9223372036854775807) (hl:ks.length≤9223372036854775807) (hk:∀ x,x∈ks→LnI x):LnI (.mk k s m ks)
theorem LnI.get {n:Nd}(h:LnI n):n.name.length≤9223372036854775807∧n.kids.length≤9223372036854775807∧∀ x,x∈n.kids→LnI x:=by
 cases h with | mk k s m ks h0 h1 hk=>exact ⟨h0,h1,hk⟩
mutual
def swN:Nd→Nat
 | .mk _ s _ ks=>s.length+(ks.length+swL ks)
def swL:List Nd→Nat
 | []=>0
 | x::l=>swN x+swL l
end
theorem swN_eq (n:Nd):swN n=n.name.length+(n.kids.length+swL n.kids):=by cases n;rw [swN];rfl
theorem wN_sw:(∀ n:Nd,wN n≤1+swN n)∧∀ l:List Nd,wL l≤l.length+swL l:=by
 refine Nd.ind2 (fun k s m ks ih=>?_) (Nat.le_refl _) (fun x l hx hl=>?_)
 ·simp only [wN,swN];omega
 ·simp only [wL,swL,List.length_cons];omega
def szR (w:Nat)(left:Int):Int:=if (w:Int)≤left then left-w else -1
theorem szR_add {a b:Nat}{left:Int}(h:(a:Int)≤left):szR (a+b) left=szR b (left-a):=by
 unfold szR
 by_cases h2:((a+b:Nat):Int)≤left
 ·rw [if_pos h2,if_pos (by omega)];omega
 ·rw [if_neg h2,if_neg (by omega)]
theorem szR_lt {a b:Nat}{left:Int}(h:left<a):szR (a+b) left=-1:=by
 unfold szR
 rw [if_neg (by omega)]
theorem szR_neg {w:Nat}{left:Int}(h0:0≤left)(h:szR w left<0):szR w left=-1∧left<w:=by
 unfold szR at h ⊢
 split at h
 ·rename_i h2;rw [if_pos h2];omega
 ·rename_i h2;rw [if_neg h2];omega
theorem szR_pos {w:Nat}{left:Int}(h:0≤szR w left):szR w left=left-w∧(w:Int)≤left:=by
 unfold szR at h ⊢
 split at h
 ·rename_i h2;rw [if_pos h2];omega
 ·omega
theorem t_szS (l:List Nd)(left:Int)(h0:0≤left)(h1:left≤1048576)(hl:l.length≤9223372036854775807)(ih:∀ x,x∈l→∀ lf:Int,0≤lf→lf≤1048576→Pure X 9 [nd x,vi lf] (vi (szR (swN x) lf))) :
 Pure X 50 [.sl (nrows l) .no,vi left] (vi (szR (l.length+swL l) left)):=by
 have hw:IntKind.i64.wrap (left-(nrows l).length)=left-l.length:=by rw [nrows_len];exact wrap_small (by omega) (by omega)
 refine Pure.run Tryz.func50 ?_
 refine AK.if_ (fun g=>?_) (fun g=>?_)
 ·have g':=of_decide_eq_true g
  rw [hw] at g'
  refine AK.rz Tryz.func50 ?_
  rw [szR_lt (by omega)]
 have g':=of_decide_eq_false g
 rw [hw] at g'
 have e0:szR (l.length+swL l) left=szR (swL l) (IntKind.i64.wrap (left-(nrows l).length)):=by rw [hw,szR_add (by omega)]
 rw [e0]
 have hb:0≤IntKind.i64.wrap (left-(nrows l).length)∧IntKind.i64.wrap (left-(nrows l).length)≤1048576:=by rw [hw];omega
 generalize IntKind.i64.wrap (left-(nrows l).length)=lf0 at hb
 refine AK.while_ (ι:=Nat × Int) 0 0 (fun i=>i.1≤l.length∧0≤i.2∧i.2≤1048576∧szR (swL l) lf0=szR (swL (l.drop i.1)) i.2) (fun i=>[(5,vi i.1),(1,vi i.2),(0,.sl (nrows l) .no)]) (fun _=>⟨[],[]⟩) (fun i=>l.length-i.1) ?_ (0,lf0) ⟨Nat.zero_le _,hb.1,hb.2,rfl⟩
  ⟨rfl,rfl,rfl,trivial⟩ rfl rfl rfl rfl rfl (fun _=>inferInstance) (fun _=>inferInstance)
 rintro ⟨i,lf⟩ ⟨hi,hp0,hp1,hT⟩ IH
 simp only at hi hp0 hp1 hT IH ⊢
 refine AK.ev 100 rfl ?_
 refine AK.if_ (fun h=>?_) (fun h=>?_)
 ·have hlt:i<l.length:=by have:=of_decide_eq_true h;rw [nrows_len] at this;omega
  obtain ⟨x,hx⟩:=lget_of_lt l hlt
  rw [drop_cons hx] at hT
  simp only [swL] at hT
  refine AK.ix i (by omega) (nrows_get hx) ?_
  refine AK.pc (ih x (List.mem_of_getElem? hx) lf hp0 hp1) ?_
  refine AK.if_ (fun g2=>?_) (fun g2=>?_)
  ·have g2':=szR_neg hp0 (of_decide_eq_true g2)
   refine AK.rz Tryz.func50 ?_
   rw [hT,szR_lt g2'.2]
  ·have g2':=szR_pos (show 0≤szR (swN x) lf by have:=of_decide_eq_false g2;omega)
   refine IH (i+1,szR (swN x) lf) ⟨hlt,?_,?_,?_⟩ (by simp only;omega) _ _ ⟨vint ((wrap_small (by omega) (by omega)).trans (by simp)),rfl,rfl,trivial⟩ rfl rfl rfl
   ·show 0≤szR (swN x) lf;omega
   ·show szR (swN x) lf≤_;omega
   ·rw [hT,szR_add g2'.2,g2'.1]
 ·have:i=l.length:=by have:=of_decide_eq_false h;rw [nrows_len] at this;omega
  subst this
  rw [List.drop_length] at hT
  refine AK.rz Tryz.func50 ?_
  rw [hT]
  unfold szR swL
  rw [if_pos (by simpa using hp0)];simp
theorem t_sz (n:Nd)(hln:LnI n):∀ left:Int,0≤left→left≤1048576→Pure X 9 [nd n,vi left] (vi (szR (swN n) left)):=by
 induction n using Nd.ind with
 | h n ih =>
 intro left h0 h1
 obtain ⟨ha,hb,hk⟩:=hln.get
 have hw:IntKind.i64.wrap (left-(⟨⟨n.name⟩⟩:ByteArray).size)=left-n.name.length:=by rw [sz_str];exact wrap_small (by omega) (by omega)
 rw [swN_eq]
 refine Pure.run Tryz.func9 ?_
 refine AK.if_ (fun g=>?_) (fun g=>?_)
 ·have g':=of_decide_eq_true g
  rw [hw] at g'
  refine AK.rz Tryz.func9 ?_
  rw [szR_lt (by omega)]
 have g':=of_decide_eq_false g
 rw [hw] at g'
 have e0:szR (n.name.length+(n.kids.length+swL n.kids)) left=szR (n.kids.length+swL n.kids) (IntKind.i64.wrap (left-(⟨⟨n.name⟩⟩:ByteArray).size)):=by rw [hw,szR_add (by omega)]
 rw [e0]
 have hb2:0≤IntKind.i64.wrap (left-(⟨⟨n.name⟩⟩:ByteArray).size)∧IntKind.i64.wrap (left-(⟨⟨n.name⟩⟩:ByteArray).size)≤1048576:=by rw [hw];omega
 refine AK.pc (t_szS n.kids _ hb2.1 hb2.2 hb (fun x hx lf=>ih x hx (hk x hx) lf)) ?_
 generalize IntKind.i64.wrap (left-(⟨⟨n.name⟩⟩:ByteArray).size)=lf at hb2 ⊢
 refine AK.if_ (fun g2=>?_) (fun g2=>?_)
 ·have g2':=szR_neg hb2.1 (of_decide_eq_true g2)
  refine AK.rz Tryz.func9 ?_
  rw [g2'.1]
 ·exact AK.rz Tryz.func9 rfl
theorem rB_step {l:List Nd}{i:Nat}{x:Nd}(h:l[i]?=some x):(rB (l.take i) (l.length-i)).set i (ncells x)=rB (l.take (i+1)) (l.length-(i+1)):=by
 have hi:=lt_of_get h
 obtain ⟨c,hc⟩:∃ c,l.length-i=c+1:=⟨l.length-i-1,by omega⟩
 have hc2:l.length-(i+1)=c:=by omega
 rw [hc,hc2,rB,rB,List.take_add_one,h,Option.toList_some,nrows_app,List.replicate_succ]
 have:(nrows (l.take i)).length=i:=by rw [nrows_len,List.length_take];omega
 rw [List.set_append_right _ _ (by omega),this,Nat.sub_self,List.set_cons_zero,List.append_assoc]
 rw [nrows_map [x]];rfl
theorem t_toS (l:List Nd)(hl:l.length≤1000000000)(ih:∀ x,x∈l→Pure X 11 [nd x] (nd x)):Pure X 56 [.sl (nrows l) .no] (.sl (nrows l) .no):=by
 refine Pure.run Tryz.func56 ?_
 refine AK.op (Ndo.mkS (n:=(nrows l).length) (b:=0) (by rw [nrows_len];exact hl) rfl rfl rfl rfl rfl rfl rfl rfl rfl rfl) ?_
 refine AK.while_ (ι:=Nat) 1 0 (fun i=>i≤l.length) (fun i=>[(4,vi i),(3,.bsl 0 l.length),(0,.sl (nrows l) .no)]) (fun i=>⟨[rB (l.take i) (l.length-i)],[]⟩) (fun i=>l.length-i) ?_ 0 (Nat.zero_le _)
  ⟨rfl,by rw [← nrows_len l];rfl,rfl,trivial⟩ (by rw [← nrows_len l];rfl) rfl rfl rfl rfl (fun _=>inferInstance) (fun _=>inferInstance)
 intro i hi IH
 refine AK.ev 100 rfl ?_
 refine AK.if_ (fun h=>?_) (fun h=>?_)
 ·have hlt:i<l.length:=by have:=of_decide_eq_true h;rw [nrows_len] at this;omega
  obtain ⟨x,hx⟩:=lget_of_lt l hlt
  have hr:(rB (l.take i) (l.length-i))[i]?=some zN:=by
   have:(nrows (l.take i)).length=i:=by rw [nrows_len,List.length_take];omega
   rw [rB,List.getElem?_append_right (by omega),this,Nat.sub_self,List.getElem?_replicate,if_pos (by omega)]
  refine AK.ix i (by omega) (nrows_get hx) ?_
  refine AK.pc (ih x (List.mem_of_getElem? hx)) ?_
  refine AK.atB i hlt hr ?_
  refine AK.stB hr ?_
  refine IH (i+1) hlt (by omega) _ _ ⟨vint ((wrap_small (by omega) (by omega)).trans (by omega)),rfl,rfl,trivial⟩ ?_ rfl rfl
  rw [← rB_step hx];rfl
 ·have:i=l.length:=by have:=of_decide_eq_false h;rw [nrows_len] at this;omega
  subst this
  refine AK.rbsl Tryz.func56 (b:=0) (l:=l) (c:=l.length-l.length) ?_ hl
  rw [List.take_length];rfl
theorem t_to (n:Nd)(hn:countN n≤1000000000):Pure X 11 [nd n] (nd n):=by
 induction n using Nd.ind with
 | h n ih =>
 have hcn:=countN_eq n
 have hll:=length_le_countL n.kids
 refine Pure.run Tryz.func11 ?_
 refine AK.pc (t_toS n.kids (by omega) (fun x hx=>ih x hx (by have:=countL_mem hx;omega))) ?_
 exact AK.rz Tryz.func11 rfl
theorem t_eqS (l:List Nd)(hl:l.length≤1000000000)(ih:∀ x,x∈l→Pure X 14 [nd x,nd x] (vb true)):Pure X 61 [.sl (nrows l) .no,.sl (nrows l) .no] (vb true):=by
 refine Pure.run Tryz.func61 ?_
 refine AK.no ?_ (ht:=by simp)
 refine AK.while_ (ι:=Nat) 0 0 (fun i=>i≤l.length) (fun i=>[(5,vi i),(0,.sl (nrows l) .no),(1,.sl (nrows l) .no)]) (fun i=>⟨[],[]⟩) (fun i=>l.length-i) ?_ 0 (Nat.zero_le _)
  ⟨rfl,rfl,rfl,trivial⟩ rfl rfl rfl rfl rfl (fun _=>inferInstance) (fun _=>inferInstance)
 intro i hi IH
 refine AK.ev 100 rfl ?_
 refine AK.if_ (fun h=>?_) (fun h=>?_)
 ·have hlt:i<l.length:=by have:=of_decide_eq_true h;rw [nrows_len] at this;omega
  obtain ⟨x,hx⟩:=lget_of_lt l hlt
  refine AK.db 0 ?_
  refine Drv.ig i (by omega) (nrows_get hx) ?_
  refine Drv.ig i (by omega) (nrows_get hx) ?_
  refine Drv.pg (ih x (List.mem_of_getElem? hx)) ?_
  refine Drv.z ?_
  refine AK.no ?_
  exact IH (i+1) hlt (by omega) _ _ ⟨vint ((wrap_small (by omega) (by omega)).trans (by omega)),rfl,rfl,trivial⟩ rfl rfl rfl
 ·exact AK.rz Tryz.func61 rfl
theorem t_eq (n:Nd)(hn:countN n≤1000000000):Pure X 14 [nd n,nd n] (vb true):=by
 induction n using Nd.ind with
 | h n ih =>
 have hcn:=countN_eq n
 have hll:=length_le_countL n.kids
 refine Pure.run Tryz.func14 ?_
 refine AK.no ?_ (ht:=by simp)
 refine AK.no ?_ (ht:=by simp)
 refine AK.no ?_ (ht:=by simp)
 refine AK.pc (t_eqS n.kids (by omega) (fun x hx=>ih x hx (by have:=countL_mem hx;omega))) ?_
 refine AK.no ?_
 exact AK.rz Tryz.func14 rfl
def E0:Env:=⟨[],[],fun _ _=>False,[]⟩
theorem E0_mt (b o:Nat):¬ E0.mt b o:=by
 rintro (h | ⟨i,sz,h⟩ | ⟨t,l,c,sz,h,_⟩)
 ·exact h
 ·simp [E0] at h
 ·simp [E0] at h
theorem list4 {α:Type}{l:List α}(h:l.length=4):∃ a b c d,l=[a,b,c,d]:=by
 rcases l with _ | ⟨a,_ | ⟨b,_ | ⟨c,_ | ⟨d,_ | ⟨e,l⟩⟩⟩⟩⟩<;>simp at h
 exact ⟨a,b,c,d,rfl⟩
def RelL (w:World)(cs:List Value)(l:List AV):Prop:=cs.length=l.length∧∀ (j:Nat)(v:Value)(x:AV),cs[j]?=some v→l[j]?=some x→Rel E0 w v x
theorem RelL.one {w:World}{v:Value}{x:AV}(h:Rel E0 w v x):RelL w [v] [x]:=⟨rfl,fun j v' x' h1 h2=>by
 cases j with
 | zero=>simp at h1 h2;subst h1;subst h2;exact h
 | succ j=>simp at h1⟩
theorem RelL.get1 {w:World}{v:Value}{x:AV}(h:RelL w [v] [x]):Rel E0 w v x:=h.2 0 v x rfl rfl
theorem RelL.nil {w:World}:RelL w [] []:=⟨rfl,fun j v x h=>by simp at h⟩
theorem RelL.cons {w:World}{v:Value}{x:AV}{cs:List Value}{l:List AV}(h:Rel E0 w v x)(t:RelL w cs l):RelL w (v::cs) (x::l) :=
 ⟨by simp [t.1],fun j v' x' h1 h2=>by
   cases j with
   | zero=>simp at h1 h2;subst h1;subst h2;exact h
   | succ j=>exact t.2 j v' x' (by simpa using h1) (by simpa using h2)⟩
theorem RelL.agg {w:World}{cs:Array Value}{l:List AV}(h:RelL w cs.toList l):Rel E0 w (.agg cs) (.agg l):=.agg cs l (by simpa using h.1) (fun j v x h1 h2=>h.2 j v x (by simpa using h1) h2)
theorem list_of {α:Type}{Q:Nat→α→Prop}:∀ n:Nat,(∀ i,i<n→∃ x,Q i x)→∃ l:List α,l.length=n∧∀ i x,l[i]?=some x→Q i x
 | 0,_=>⟨[],rfl,fun i x h=>by simp at h⟩
 | n+1,h=>by
   obtain ⟨l,hl,hq⟩:=list_of n (fun i hi=>h i (by omega))
   obtain ⟨x,hx⟩:=h n (by omega)
   refine ⟨l++[x],by simp [hl],fun i y hy=>?_⟩
   rcases Nat.lt_or_ge i n with hi | hi
   ·rw [List.getElem?_append_left (by omega)] at hy;exact hq i y hy
   ·rw [List.getElem?_append_right (by omega)] at hy
    have:i=n:=by
     have:=lt_of_get hy
     simp at this;omega
    subst this
    simp [hl] at hy;subst hy;exact hx
section
variable {H:Type}{enc:TypeId × Value→H}{P:Program}{w:World}{sp:Nat→Bool}{held:Bool}
theorem cells_get {a:Addr}{n:Nat}{cs:List Value}(h:w.cells? 0 a n=some cs):cs.length=n∧∀ (j:Nat)(v:Value),cs[j]?=some v→w.cell? (a.add j)=some v:=by
 unfold World.cells? at h
 rw [if_pos (Nat.zero_le _)] at h
 have key:∀ (l:List Nat) (cs:List Value),(l.mapM fun i=>w.cell? (a.add i))=some cs→cs.length=l.length∧∀ (j:Nat) (v:Value),cs[j]?=some v→∃ k:Nat,l[j]?=some k∧w.cell? (a.add k)=some v:=by
  intro l
  induction l with
  | nil=>intro cs h;simp at h;subst h;exact ⟨rfl,fun j v h=>by simp at h⟩
  | cons k l ih =>
    intro cs h
    simp only [List.mapM_cons,Option.bind_eq_bind,Option.bind_eq_some_iff,Option.pure_def,Option.some.injEq] at h
    obtain ⟨v,hv,cs',hcs,rfl⟩:=h
    obtain ⟨h1,h2⟩:=ih cs' hcs
    refine ⟨by simp [h1],fun j u hu=>?_⟩
    cases j with
    | zero=>simp at hu;subst hu;exact ⟨k,rfl,hv⟩
    | succ j=>simpa using h2 j u (by simpa using hu)
 obtain ⟨h1,h2⟩:=key _ _ h
 refine ⟨by simpa using h1,fun j v hv=>?_⟩
 obtain ⟨k,hk,hc⟩:=h2 j v hv
 have:j<(List.range n).length:=lt_of_get hk
 simp at this
 rw [List.getElem?_range this] at hk
 cases hk
 exact hc
theorem add_none {b o n:Nat}:(Addr.mk b o none).add n=⟨b,o+n,none⟩:=by
 unfold Addr.add
 split
 ·rename_i h;subst h;rfl
 ·rfl
theorem rel_slice {α:Type}{t e sz fuel:Nat}{cs:List Value}{x:DataW H × List MemPlace}(cells:α→List AV)(Q:α→Prop)(ht:P.underlying t=some (.slice e))(hc:P.cellsOf e=sz)(hsz:0<sz)(hcell:∀ y,(cells y).length=sz)
 (hel:∀ n,fuel=n+1→∀ (cs:List Value)(x:DataW H × List MemPlace),DataW.trod enc P w 0 sp held n e cs=some x→∃ y:α,Q y∧RelL w cs (cells y))(h:DataW.trod enc P w 0 sp held fuel t cs=some x) :
 ∃ l:List α,(∀ y,y∈l→Q y)∧l.length≤9223372036854775807∧RelL w cs [.sl (l.map cells) .no]:=by
 rcases DataW.trod_slice ht h with ⟨rfl,_⟩ | ⟨a,len,cap,elems,rest,n,hn,rfl,_,_,hcap,hmax,hlen,hall,_,_⟩
 ·refine ⟨[],(fun y hy=>by cases hy),by simp,RelL.one ?_⟩
  exact .sl [] .no none 0 0 0 0 0 (fun _ _=>default) rfl (Nat.zero_le _) (fun h=>absurd rfl h) (fun r hr=>by cases hr) (fun i j h=>by omega) (fun i j h=>by omega) (fun i j r x h=>by simp at h) trivial (Nat.le_refl _)
 ·have hml:maxLen=9223372036854775807:=by decide
  have hel':∀ i,i<len→∃ y:α,Q y∧∃ cs',w.cells? 0 (a.add (i*sz)) sz=some cs'∧RelL w cs' (cells y):=fun i hi=>by
   have h1:=hall i hi
   obtain ⟨z,hz⟩:=lget_of_lt elems (i:=i) (by omega)
   rw [hz,hc] at h1
   obtain ⟨cs',h2,h3⟩:=Option.bind_eq_some_iff.1 h1
   obtain ⟨y,hq,hr⟩:=hel n hn cs' z h3
   exact ⟨y,hq,cs',h2,hr⟩
  obtain ⟨l,hll,hl⟩:=list_of len hel'
  have hQ:∀ y,y∈l→Q y:=fun y hy=>by obtain ⟨i,hi⟩:=lget_of_mem hy;exact (hl i y hi).1
  refine ⟨l,hQ,by omega,RelL.one ?_⟩
  have ha:len≠0→a=⟨a.block,a.off,none⟩:=fun h0=>by
   obtain ⟨y,hy⟩:=lget_of_lt l (i:=0) (by omega)
   obtain ⟨_,cs',h1,h2⟩:=hl 0 y hy
   obtain ⟨h3,h4⟩:=cells_get h1
   obtain ⟨v,hv⟩:=lget_of_lt cs' (i:=0) (by omega)
   have h5:=h4 0 v hv
   have h6:(a.add (0*sz)).add 0=a:=by simp [Addr.add]
   rw [h6] at h5
   obtain ⟨b,o,s⟩:=a
   unfold World.cell? at h5
   simp only at h5
   split at h5
   ·split at h5
    ·cases h5
    ·rename_i hs
     cases s with
     | none=>rfl
     | some s=>simp at hs
   ·cases h5
  have hcl:∀ i j:Nat,i<len→j<sz→∃ v,w.cell? ⟨a.block,a.off+i*sz+j,none⟩=some v:=fun i j hi hj=>by
   obtain ⟨y,hy⟩:=lget_of_lt l (i:=i) (by omega)
   obtain ⟨_,cs',h1,h2⟩:=hl i y hy
   obtain ⟨h3,h4⟩:=cells_get h1
   obtain ⟨v,hv⟩:=lget_of_lt cs' (i:=j) (by omega)
   have h5:=h4 j v hv
   rw [ha (by omega),add_none,add_none] at h5
   exact ⟨v,h5⟩
  refine .sl _ .no (some a) len cap a.block a.off sz (fun i j=>(w.cell? ⟨a.block,a.off+i*sz+j,none⟩).getD default) (by simp [hll]) (by unfold maxN;omega) (fun h0=>congrArg some (ha h0)) (fun r hr=>?_) (fun i j _ _=>E0_mt _ _) (fun i j hi hj=>?_) (fun i j r z h1 h2=>?_) trivial hcap
  ·obtain ⟨y,_,rfl⟩:=List.mem_map.1 hr;exact hcell y
  ·obtain ⟨v,hv⟩:=hcl i j hi hj
   rw [hv];rfl
  ·simp only [List.getElem?_map,Option.map_eq_some_iff] at h1
   obtain ⟨y,hy,rfl⟩:=h1
   obtain ⟨_,cs',h3,h4⟩:=hl i y hy
   have hi:i<len:=by have:=lt_of_get hy;omega
   have hj:j<sz:=by have:=lt_of_get h2;rw [hcell] at this;exact this
   obtain ⟨h5,h6⟩:=cells_get h3
   obtain ⟨v,hv⟩:=lget_of_lt cs' (i:=j) (by omega)
   have h7:=h6 j v hv
   rw [ha (by omega),add_none,add_none] at h7
   show Rel E0 w ((w.cell? ⟨a.block,a.off+i*sz+j,none⟩).getD default) z
   rw [h7]
   exact h4.2 j v z hv h2
theorem trod_i {t fuel:Nat}{k:IntKind}{cs:List Value}{x:DataW H × List MemPlace}(ht:P.underlying t=some (.int k))(h:DataW.trod enc P w 0 sp held fuel t cs=some x):∃ n:Int,k.min≤n∧n≤k.max∧cs=[.int k n]:=by
 obtain ⟨n,rfl,_,h2⟩:=DataW.trod_int ht h
 simp only [Lit.wf,Bool.and_eq_true,decide_eq_true_eq] at h2
 exact ⟨n,h2.1,h2.2,rfl⟩
theorem trod_s {t fuel:Nat}{cs:List Value}{x:DataW H × List MemPlace}(ht:P.underlying t=some .string)(h:DataW.trod enc P w 0 sp held fuel t cs=some x):∃ s:List UInt8,s.length≤9223372036854775807∧cs=[.string ⟨⟨s⟩⟩]:=by
 obtain ⟨s,rfl,_,h2⟩:=DataW.trod_string ht h
 obtain ⟨⟨s⟩⟩:=s
 exact ⟨s,by have:maxLen=9223372036854775807:=by decide
             have h3:s.length≤maxLen:=h2
             omega,rfl⟩
end
theorem i64_rng {n:Int}(h0:IntKind.i64.min≤n)(h1:n≤IntKind.i64.max):-9223372036854775808≤n∧n≤9223372036854775807:=by
 have a:IntKind.i64.min=-9223372036854775808:=by decide
 have b:IntKind.i64.max=9223372036854775807:=by decide
 omega
section
variable {H:Type}{enc:TypeId × Value→H}{w:World}{sp:Nat→Bool}{held:Bool}
theorem trod_nd:∀ (fuel:Nat)(cs:List Value)(x:DataW H × List MemPlace),DataW.trod enc Tryz.prog w 0 sp held fuel 24 cs=some x→∃ n:Nd,(PrI n∧LnI n)∧RelL w cs (ncells n):=by
 intro fuel
 induction fuel using Nat.strongRecOn with
 | ind fuel ih =>
   intro cs x h
   obtain ⟨xs,n1,rfl,_,hl,hxs,hf⟩:=DataW.trod_struct Tryz.underlying24 h
   have hl4:cs.length=4:=hl.trans (by kernel_rfl)
   have hx4:xs.length=4:=hxs
   obtain ⟨c0,c1,c2,c3,rfl⟩:=list4 hl4
   obtain ⟨x0,hx0⟩:=lget_of_lt xs (i:=0) (by omega)
   obtain ⟨x1,hx1⟩:=lget_of_lt xs (i:=1) (by omega)
   obtain ⟨x2,hx2⟩:=lget_of_lt xs (i:=2) (by omega)
   obtain ⟨x3,hx3⟩:=lget_of_lt xs (i:=3) (by omega)
   have c3e:Tryz.prog.cellsOf 3=1:=by kernel_rfl
   have c9e:Tryz.prog.cellsOf 9=1:=by kernel_rfl
   have cse:Tryz.prog.cellsOf 22=1:=by kernel_rfl
   have f0:DataW.trod enc Tryz.prog w 0 sp held n1 3 (([c0,c1,c2,c3].drop 0).take (Tryz.prog.cellsOf 3))=some x0:=(hf 0 _ rfl).trans hx0
   have f1:DataW.trod enc Tryz.prog w 0 sp held n1 9 (([c0,c1,c2,c3].drop 1).take (Tryz.prog.cellsOf 9))=some x1:=(hf 1 _ rfl).trans hx1
   have f2:DataW.trod enc Tryz.prog w 0 sp held n1 3 (([c0,c1,c2,c3].drop 2).take (Tryz.prog.cellsOf 3))=some x2:=(hf 2 _ rfl).trans hx2
   have f3:DataW.trod enc Tryz.prog w 0 sp held n1 22 (([c0,c1,c2,c3].drop 3).take (Tryz.prog.cellsOf 22))=some x3:=(hf 3 _ rfl).trans hx3
   rw [c3e] at f0 f2
   rw [c9e] at f1
   rw [cse] at f3
   obtain ⟨k,k0,k1,e0⟩:=trod_i Tryz.underlying3 f0
   obtain ⟨s,s0,e1⟩:=trod_s Tryz.underlying9 f1
   obtain ⟨m,m0,m1,e2⟩:=trod_i Tryz.underlying3 f2
   obtain ⟨l,hq,hll,e3⟩:=rel_slice ncells (fun n=>PrI n∧LnI n) Tryz.underlying22 (show Tryz.prog.cellsOf 24=4 by kernel_rfl) (by decide) (fun y=>rfl) (fun n2 hn2 cs' x' hx'=>ih n2 (by omega) cs' x' hx') f3
   have e0':c0=.int .i64 k:=(List.cons.inj e0).1
   have e1':c1=.string ⟨⟨s⟩⟩:=(List.cons.inj e1).1
   have e2':c2=.int .i64 m:=(List.cons.inj e2).1
   have e3':RelL w [c3] [.sl (l.map ncells) .no]:=e3
   subst e0';subst e1';subst e2'
   obtain ⟨m0,m1⟩:=i64_rng m0 m1
   refine ⟨.mk k s m l,⟨.mk k s m l m0 m1 fun x hx=>(hq x hx).1,.mk k s m l s0 hll fun x hx=>(hq x hx).2⟩,?_⟩
   show RelL w _ [_,_,_,.sl (nrows l) .no]
   rw [nrows_map]
   exact .cons (.val _) (.cons (.val _) (.cons (.val _) e3'))
end
end Go.V
namespace Go.V
open Go Go.Proofs Go.ChangeShapes Go.WideShapes Go.ChangeAt Go.RowKit
section
variable {H:Type}{enc:TypeId × Value→H}{P:Program}{w:World}{sp:Nat→Bool}{held:Bool}
theorem trod_arr {t e n fuel:Nat}{cs:List Value}{d:DataW H}{ps:List MemPlace}(ht:P.underlying t=some (.array n e))(h:DataW.trod enc P w 0 sp held fuel t cs=some (d,ps)) :
 ∃ (xs:List (DataW H × List MemPlace)) (f:Nat),d=.agg (xs.map (·.1))∧cs.length=P.cellsOf t∧∀ i,i<n→DataW.trod enc P w 0 sp held f e ((cs.drop (i*P.cellsOf e)).take (P.cellsOf e))=xs[i]?:=by
 cases fuel with
 | zero=>simp [DataW.trod] at h
 | succ f =>
   unfold DataW.trod at h
   rw [ht] at h
   split at h<;>simp_all
   obtain ⟨hl,xs,hp,hd,_⟩:=h
   exact ⟨xs,hd.symm,f,fun i hi=>mapM_some_get hp i i (by simp [hi])⟩
theorem trod_ifc {t fuel:Nat}{ms:Array (String × TypeId)}{cs:List Value}{x:DataW H × List MemPlace}(ht:P.underlying t=some (.interface ms))(h:DataW.trod enc P w 0 sp held fuel t cs=some x):∃ v,cs=[v]∧(v=.nilIface∨∃ te pe,v=.iface te pe):=by
 cases fuel with
 | zero=>simp [DataW.trod] at h
 | succ f =>
   unfold DataW.trod at h
   rw [ht] at h
   split at h<;>simp_all
theorem trodAll_stays (hl:laidOutB P=true){W W':World}{sp':Nat→Bool}:∀ {ts:List TypeId}{vs:List Value}{ds:List (DataW H)}{ps:List MemPlace},(∀ t,t∈ts→P.readableRec t=true∧t<P.types.size) →
 DataW.TrodAll enc P W 0 (fun _=>true) true ts vs ds ps→(∀ p∈ps,W.sameAt W' p)→(∀ p∈ps,sp' p.block=true)→DataW.TrodAll enc P W' 0 sp' true ts vs ds ps
 | [],[],[],_,_,h,_,_=>h
 | t::ts,v::vs,d::ds,_,hr,⟨p,q,h1,h2,rfl⟩,hs,hb =>
   ⟨p,q,WideElems.Trod_stays hl (hr t (by simp)).1 (hr t (by simp)).2 h1 (fun x hx=>hs x (by simp [hx])) (fun x hx=>hb x (by simp [hx])),trodAll_stays hl (fun x hx=>hr x (by simp [hx])) h2 (fun x hx=>hs x (by simp [hx])) (fun x hx=>hb x (by simp [hx])),rfl⟩
 | [],_::_,_,_,_,h,_,_=>h.elim
 | [],[],_::_,_,_,h,_,_=>h.elim
 | _::_,[],_,_,_,h,_,_=>h.elim
 | _::_,_::_,[],_,_,h,_,_=>h.elim
theorem trodVar_stays (hl:laidOutB P=true){W W':World}{sp':Nat→Bool}{n:String}{gs:List (DataW H)}{ps:List MemPlace}{g t:Nat}(hg:P.globalNamed n=some g)(ht:(P.globals[g]?).map (·.type)=some t)(hr:P.readableRec t=true)(hlt:t<P.types.size)
 (hb:Below W.heap.size W W')(h:DataW.TrodVars enc P W (fun _=>true) [n] gs ps)(hs:∀ p∈ps,W.sameAt W' p)(hsp:∀ p∈ps,sp' p.block=true):DataW.TrodVars enc P W' sp' [n] gs ps:=by
 obtain ⟨g',t',cs,fuel,d,p,rfl,h1,h2,h3,h4,rfl⟩:=trodVars_one h
 obtain rfl:=Option.some.inj (hg.symm.trans h1)
 obtain rfl:=Option.some.inj (ht.symm.trans h2)
 have h5:DataW.Trod enc P W 0 (fun _=>true) true t (.agg cs) d p:=⟨fuel,h4⟩
 obtain ⟨fuel',h6⟩:=WideElems.Trod_stays (sp':=sp') hl hr hlt h5 (fun x hx=>hs x (by simp [hx])) (fun x hx=>hsp x (by simp [hx]))
 refine trodVars_mk1 hg ht ?_ h6
 unfold World.var? at h3 ⊢
 rw [hg] at h3 ⊢
 simp only [Option.bind_some] at h3 ⊢
 have hgl:g<W.heap.size:=by
  rcases Nat.lt_or_ge g W.heap.size with h' | h'
  ·exact h'
  ·simp [Array.getElem?_eq_none h'] at h3
 rw [hb.block g hgl];exact h3
end
def laidL:List (String × DataW Unit):=[("math/bits.deBruijn32tab",YtfpfmkljakiedaaGreatDoor.Rows.laid_math_bits_deBruijn32tab),("math/bits.deBruijn64tab",YtfpfmkljakiedaaGreatDoor.Rows.laid_math_bits_deBruijn64tab),("internal/strconv.uint64pow10",YtfpfmkljakiedaaGreatDoor.Rows.laid_internal_strconv_uint64pow10),
 ("strconv.ErrRange",YtfpfmkljakiedaaGreatDoor.Rows.laid_strconv_ErrRange),("strconv.ErrSyntax",YtfpfmkljakiedaaGreatDoor.Rows.laid_strconv_ErrSyntax),("loop.example/g00093/impl.condWords",YtfpfmkljakiedaaGreatDoor.Rows.laid_loop_example_g00093_impl_condWords)]
theorem laidL_met {W:World}(h:laidMetH Tryz.prog laidL W):laidMet Tryz.prog laidL W:=by
 have e:(laidL.filter fun x=>x.2.handleName?.isSome)=[]:=by kernel_rfl
 unfold laidMetH at h
 rw [e] at h
 exact h
def condB:List (List UInt8):=[[60],[60,61],[62],[62,61],[61,61],[33,61]]
theorem cond_bytes:condG=condB.map fun b=>.val (.string ⟨⟨b⟩⟩):=rfl
theorem cond_data:(YtfpfmkljakiedaaGreatDoor.Rows.laid_loop_example_g00093_impl_condWords:DataW Unit)=.agg (condB.map fun b=>.lit (.string b)):=rfl
theorem ifc_of {W:World}{n:String}{d:DataW Unit}{g:Nat}(hg:Tryz.prog.globalNamed n=some g)(ht:(Tryz.prog.globals[g]?).map (·.type)=some 260)(h:Lib.VarReads Tryz.prog W n d):IfaceV W g:=by
 obtain ⟨g',t',cs,fuel,p,h1,h2,h3,h4⟩:=h
 obtain rfl:=Option.some.inj (hg.symm.trans h1)
 obtain rfl:=Option.some.inj (ht.symm.trans h2)
 obtain ⟨v,h5,h6⟩:=trod_ifc Tryz.underlying260 h4
 refine ⟨v,?_,h6⟩
 rw [World.var?_cell hg h3 0,← Array.getElem?_toList,h5];rfl
theorem gOk_of {W:World}(h:laidMetH Tryz.prog laidL W):gOk W:=by
 have hm:=laidL_met h
 constructor
 ·intro j x hx
  obtain ⟨g',t',cs,fuel,p,h1,h2,h3,h4⟩:=Lib.laidMet.reads hm (n := "loop.example/g00093/impl.condWords") (d:=YtfpfmkljakiedaaGreatDoor.Rows.laid_loop_example_g00093_impl_condWords) (by unfold laidL;simp)
  have hg:Tryz.prog.globalNamed "loop.example/g00093/impl.condWords" = some 0:=by kernel_rfl
  have ht:(Tryz.prog.globals[0]?).map (·.type)=some 266:=by kernel_rfl
  obtain rfl:=Option.some.inj (hg.symm.trans h1)
  obtain rfl:=Option.some.inj (ht.symm.trans h2)
  obtain ⟨xs,f,hd,hl,hall⟩:=trod_arr Tryz.underlying266 h4
  have c9e:Tryz.prog.cellsOf 9=1:=by kernel_rfl
  have cae:Tryz.prog.cellsOf 266=6:=by kernel_rfl
  rw [cae] at hl
  rw [cond_data] at hd
  have hd':condB.map (fun b=>(DataW.lit (.string b):DataW Unit))=xs.map (·.1):=DataW.agg.inj hd
  rw [cond_bytes] at hx
  simp only [List.getElem?_map,Option.map_eq_some_iff] at hx
  obtain ⟨b,hb,rfl⟩:=hx
  have hj:j<6:=lt_of_get hb
  have h5:=hall j hj
  rw [c9e,Nat.mul_one] at h5
  have h6:=congrArg (fun l=>l[j]?) hd'
  simp only [List.getElem?_map,hb,Option.map_some] at h6
  cases hxj:xs[j]? with
  | none=>rw [hxj] at h6;cases h6
  | some z =>
    rw [hxj] at h5 h6
    obtain ⟨s,h7,h8,_⟩:=DataW.trod_string Tryz.underlying9 h5
    have h9:DataW.lit (.string b)=z.1:=Option.some.inj h6
    rw [h8] at h9
    have h10:b=s.data.toList:=Lit.string.inj (DataW.lit.inj h9)
    obtain ⟨v,hv⟩:=lget_of_lt cs.toList (i:=j) (by omega)
    have h11:cs.toList.drop j=v::cs.toList.drop (j+1):=drop_cons hv
    rw [h11] at h7
    have h12:v=.string s:=(List.cons.inj h7).1
    refine ⟨.string s,?_,?_⟩
    ·rw [World.var?_cell hg h3 j,← Array.getElem?_toList,hv,h12]
    ·rw [h10]
 ·obtain ⟨g',t',cs,fuel,p,h1,h2,h3,h4⟩:=Lib.laidMet.reads hm (n := "internal/strconv.uint64pow10") (d:=YtfpfmkljakiedaaGreatDoor.Rows.laid_internal_strconv_uint64pow10) (by unfold laidL;simp)
  have hg:Tryz.prog.globalNamed "internal/strconv.uint64pow10" = some 4:=by kernel_rfl
  have ht:(Tryz.prog.globals[4]?).map (·.type)=some 300:=by kernel_rfl
  obtain rfl:=Option.some.inj (hg.symm.trans h1)
  obtain rfl:=Option.some.inj (ht.symm.trans h2)
  have hd:(YtfpfmkljakiedaaGreatDoor.Rows.laid_internal_strconv_uint64pow10:DataW Unit)=Lib.tabData .u64 Lib.pow10Tab:=by kernel_rfl
  rw [hd] at h4
  have h5:=Lib.cells_of_tab Tryz.underlying300 Tryz.underlying241 (by kernel_rfl) (by kernel_rfl) h4
  unfold World.var? at h3
  rw [hg] at h3
  simp only [Option.bind_some] at h3
  split at h3
  ·rename_i c e z hh
   refine ⟨e,z,?_⟩
   rw [hh]
   cases h3
   rw [← Array.toArray_toList (xs:=cs),h5]
  ·cases h3
 ·exact ifc_of (by kernel_rfl) (by kernel_rfl) (Lib.laidMet.reads hm (n := "strconv.ErrSyntax") (d:=YtfpfmkljakiedaaGreatDoor.Rows.laid_strconv_ErrSyntax) (by unfold laidL;simp))
 ·exact ifc_of (by kernel_rfl) (by kernel_rfl) (Lib.laidMet.reads hm (n := "strconv.ErrRange") (d:=YtfpfmkljakiedaaGreatDoor.Rows.laid_strconv_ErrRange) (by unfold laidL;simp))
theorem gK_le {W:World}(h:W.ShapedOpen Tryz.prog):gK≤W.heap.size:=by
 obtain ⟨o,_,h1,_⟩:=h.2 Tryz.prog.globals.size (Nat.le_refl _) (of_decide_eq_true (by kernel_rfl))
 have:=heap_lt h1
 unfold gK
 omega
theorem inv0 {W:World}(h1:gK≤W.heap.size)(h2:gOk W):Inv X E0 ⟨[],[]⟩ W where
 nb:=rfl
 nt:=rfl
 np i h:=by simp [E0] at h
 box i b sz rows h:=by simp [E0] at h
 tok t l b c sz h:=by simp [E0] at h
 bb i j b s s' h:=by simp [E0] at h
 bt i t b s l c sz h:=by simp [E0] at h
 tt i j b l c s l' c' s' h:=by simp [E0] at h
 frlt b o h:=h.elim
 lo b h:=by
  rcases h with ⟨i,sz,h⟩ | ⟨t,l,c,sz,h⟩
  ·simp [E0] at h
  ·simp [E0] at h
 frlo b o h:=h.elim
 sz:=h1
 glob:=h2
theorem run_law {f:FuncId}{xs:List AV}{W:World}{args:Array Value}(hP:Pure X f xs (vb true))(hs:W.ShapedOpen Tryz.prog)(hL:laidMetH Tryz.prog laidL W)(hA:RelL W args.toList xs) :
 Calls Tryz.prog f args W fun e W'=>e=.returned (.bool true)∧Below W.heap.size W W':=by
 refine (hP.2 E0 W args rfl (inv0 (gK_le hs) (gOk_of hL)) (by simpa using hA.1) (fun j v x h1 h2=>hA.2 j v x (by simpa using h1) h2)).mono fun e W' he=>?_
 obtain ⟨E',S',h1,h2,h3⟩:=he
 have ho:∀ b,¬ E0.own b:=fun b h=>by
  rcases h with ⟨i,sz,h⟩ | ⟨t,l,c,sz,h⟩
  ·simp [E0] at h
  ·simp [E0] at h
 refine ⟨?_,⟨h2.os,h2.tape,h2.output,h2.size,fun k hk=>h2.block k hk (ho k)⟩⟩
 cases e with
 | returned v =>
   obtain ⟨r,h4,h5,_⟩:=h3
   injection h5 with h5
   subst h5
   cases h4;rfl
 | panicked ch=>exact absurd h3.1 (by intro h;cases h)
 | outgrown=>exact h3.elim
set_option maxRecDepth 100000
theorem post_pure {H:Type}{enc:TypeId × Value→H}{P:Program}{fn:Func}{s:ChangeSpec}{apart fresh handsOn:Bool}{W W':World}{args:Array Value}{ds gs:List (DataW H)}{before:List MemPlace}{n:String}{g t:Nat}
 (hl:laidOutB P=true)(hp:∀ t,t∈fn.params.toList→P.readableRec t=true∧t<P.types.size)(hn:s.vars=[n])(hg:P.globalNamed n=some g)(ht:(P.globals[g]?).map (·.type)=some t)(hr:P.readableRec t=true)(hlt:t<P.types.size)
 (hW:DataW.Whole enc P fn.params.toList s.vars apart W args.toList ds gs before)(hb:Below W.heap.size W W')
 (hargs:∀ g1,gs=[g1]→s.fn H (ds++gs)={ results:=[.lit (.bool true)],args:=ds,vars:=gs }){tb:Nat}(hres:fn.resultTypes=#[tb])(htb:P.underlying tb=some .bool) :
 s.post enc P fn apart fresh handsOn false W args (.bool true) W':=by
 have hW':=hW
 obtain ⟨p,q,hA,hV,rfl,hfz,hnd⟩:=hW
 have hlt':∀ x,x∈p++q→x.block<W.heap.size:=fun x hx=>hW'.lt x hx
 rw [hn] at hV
 have hgs:∃ g1,gs=[g1]:=by
  obtain ⟨_,_,_,_,d,_,h,_⟩:=trodVars_one hV
  exact ⟨d,h⟩
 obtain ⟨g1,hg1⟩:=hgs
 have e:=hargs g1 hg1
 refine ⟨ds,gs,p++q,[],p,q,hW',?_,?_,?_,hb.frame _,fun h=>by cases h⟩
 ·rw [e,hres];exact trodAll_cons_mk (shut_bool htb _) trodAll_mk0
 ·rw [e]
  exact trodAll_stays hl hp hA (fun x hx=>hb.same (hlt' x (by simp [hx]))) (fun x hx=>by simpa using hlt' x (by simp [hx]))
 ·rw [e,hn]
  exact trodVar_stays hl hg ht hr hlt hb hV (fun x hx=>hb.same (hlt' x (by simp [hx]))) (fun x hx=>by simpa using hlt' x (by simp [hx]))
theorem node_of {H:Type}{enc:TypeId × Value→H}{W:World}{base:Nat}{v:Value}{d:DataW H}{ps:List MemPlace}(hv:Value.okWide Tryz.prog W .any base 24 v)(h:DataW.Trod enc Tryz.prog W 0 (fun _=>true) true 24 v d ps) :
 ∃ n:Nd,PrI n∧LnI n∧Rel E0 W v (nd n):=by
 unfold Value.okWide at hv
 rw [Tryz.underlying24] at hv
 obtain ⟨cs,rfl,_⟩:=hv
 obtain ⟨fuel,h⟩:=h
 obtain ⟨n,⟨h1,h2⟩,h3⟩:=trod_nd fuel _ _ h
 exact ⟨n,h1,h2,h3.agg⟩
noncomputable def low:Nat:=(World.holding Tryz.prog default ⟨#[],#[],[]⟩).heap.size
def litV:DataW Unit→Value
 | .lit (.int k n)=>.int k n
 | .lit (.string s)=>.string ⟨⟨s⟩⟩
 | _=>.nilIface
def aggV:DataW Unit→Array Value
 | .agg l=>(l.map litV).toArray
 | _=>#[]
def textV:DataW Unit→Value
 | .iface _ (.ptr (.agg [.lit (.string s)]))=>.string ⟨⟨s⟩⟩
 | _=>.nilIface
def putV (cs:Array Value):Obj→Obj
 | .cells _ t frozen=>.cells cs t frozen
 | o=>o
noncomputable def laidW (os:Os):World :=
 let w0:=World.holding Tryz.prog os ⟨#[.cells #[textV YtfpfmkljakiedaaGreatDoor.Rows.laid_strconv_ErrSyntax] 307,.cells #[textV YtfpfmkljakiedaaGreatDoor.Rows.laid_strconv_ErrRange] 307],#[],[]⟩
 { w0 with heap:=(((((w0.heap.modify 0 (putV (aggV YtfpfmkljakiedaaGreatDoor.Rows.laid_loop_example_g00093_impl_condWords))).modify 2 (putV #[.iface 305 (.pointer (some ⟨low,0,none⟩))])).modify 3 (putV #[.iface 305 (.pointer (some ⟨low+1,0,none⟩))])).modify
    4 (putV (aggV YtfpfmkljakiedaaGreatDoor.Rows.laid_internal_strconv_uint64pow10))).modify 5 (putV (aggV YtfpfmkljakiedaaGreatDoor.Rows.laid_math_bits_deBruijn32tab))).modify 6 (putV (aggV YtfpfmkljakiedaaGreatDoor.Rows.laid_math_bits_deBruijn64tab)) }
abbrev nd0V:Value:=.agg #[.int .i64 0,.string ⟨#[]⟩,.int .i64 0,.slice none 0 0]
theorem own0:ownKnob Tryz.prog.godebug=none:=by kernel_rfl
theorem laidOut0:laidOutB Tryz.prog=true:=by kernel_rfl
theorem condVar:Tryz.prog.globalNamed "loop.example/g00093/impl.condWords" = some 0:=by kernel_rfl
theorem condTy:(Tryz.prog.globals[0]?).map (·.type)=some 266:=by kernel_rfl
theorem condRd:Tryz.prog.readableRec 266=true:=by kernel_rfl
theorem condLt:266<Tryz.prog.types.size:=of_decide_eq_true (by kernel_rfl)
end Go.V
namespace Go.V
open Go Go.Proofs
def cpR {α:Type}(f:α→List AV)(z:List AV)(l:List α)(i:Nat):List (List AV):=(l.take i).map f++List.replicate (l.length-i) z
theorem cpR_get {α:Type}(f:α→List AV)(z:List AV){l:List α}{i:Nat}(h:i<l.length):(cpR f z l i)[i]?=some z:=by
 have:((l.take i).map f).length=i:=by simp;omega
 rw [cpR,List.getElem?_append_right (by omega),this,Nat.sub_self,List.getElem?_replicate,if_pos (by omega)]
theorem cpR_set {α:Type}(f:α→List AV)(z:List AV){l:List α}{i:Nat}{x:α}(h:l[i]?=some x):(cpR f z l i).set i (f x)=cpR f z l (i+1):=by
 have hi:=lt_of_get h
 obtain ⟨c,hc⟩:∃ c,l.length-i=c+1:=⟨l.length-i-1,by omega⟩
 have hc2:l.length-(i+1)=c:=by omega
 rw [cpR,cpR,hc,hc2,List.take_add_one,h,Option.toList_some,List.map_append,List.replicate_succ]
 have:((l.take i).map f).length=i:=by simp;omega
 rw [List.set_append_right _ _ (by omega),this,Nat.sub_self,List.set_cons_zero,List.append_assoc];rfl
theorem cpR_all {α:Type}(f:α→List AV)(z:List AV)(l:List α):cpR f z l l.length=l.map f:=by simp [cpR]
theorem cpR_nil {α:Type}(f:α→List AV)(z:List AV)(l:List α):cpR f z l 0=List.replicate (l.map f).length z:=by simp [cpR]
theorem AK.rbs {f:FuncId}{fn:Func}{F:Frm}{bx:List (List (List AV))}{b n:Nat}{rows:List (List AV)}{k:List Item}(hf:X.P.funcs[f]?=some fn)(hb:bx[b]?=some rows)(hn:rows.length=n)(hl:n≤1000000000) [hok:OKR 0 0 rows]
 (h:resF X F ⟨bx,[]⟩ fn.results.toList=some [.bsl b n]:=by rfl):AK X ⟨f,fn,0,0⟩ (.code .ret::k) F ⟨bx,[]⟩ fun e S'=>e=.ret (.sl rows .no)∧S'=⟨[],[]⟩:=by
 subst hn
 refine AK.retZ (B:=⟨f,fn,0,0⟩) hf h 0 (Nat.le_refl _) (r:=.sl rows .no) ?_ (fun rows hr=>by simp at hr) ⟨rfl,rfl⟩
 refine .bsl b rows.length rows rows (Nat.zero_le _) hb (Nat.le_refl _) (by unfold maxN;omega) rfl (fun i r r' h1 h2=>?_) (fun i j r r' x y h1 h2 h3 h4=>?_)
 ·rw [h1] at h2;cases h2;rfl
 ·rw [h1] at h2;cases h2
  rw [h3] at h4;cases h4
  exact .same x (hok.ok r (List.mem_of_getElem? h1) x (List.mem_of_getElem? h3))
theorem map_get {α:Type}{f:α→List AV}{l:List α}{i:Nat}{x:α}(h:l[i]?=some x):(l.map f)[i]?=some (f x):=by simp [h]
structure Cf where
 pt:Int
 vars:List Int
 cells:List (List (Bool × Int))
 used:Int
 steps:Int
 trap:Int
 edge:Int
 acc:Int
abbrev icell (n:Int):List AV:=[vi n]
abbrev ccell (c:Bool × Int):List AV:=[vb c.1,vi c.2]
def crs (l:List (Bool × Int)):List (List AV):=l.map ccell
abbrev crow (l:List (Bool × Int)):List AV:=[.sl (crs l) .no]
def crss (l:List (List (Bool × Int))):List (List AV):=l.map crow
abbrev cfcells (c:Cf):List AV:=[vi c.pt,.sl (zrs c.vars) .no,.sl (crss c.cells) .no,vi c.used,vi c.steps,vi c.trap,vi c.edge,vi c.acc]
abbrev cf (c:Cf):AV:=.agg (cfcells c)
instance {n m:Nat}{l:List (Bool × Int)}:OKR n m (crs l):=⟨fun r hr x hx=>by
 obtain ⟨e,_,rfl⟩:=List.mem_map.1 hr
 simp at hx
 rcases hx with rfl | rfl<;>exact .val _⟩
instance {n m:Nat}{l:List (List (Bool × Int))}:OKR n m (crss l):=⟨fun r hr x hx=>by
 obtain ⟨e,_,rfl⟩:=List.mem_map.1 hr
 simp at hx;subst hx
 exact (inferInstance:OK n m (.sl (crs e) .no)).ok⟩
theorem crs_len (l:List (Bool × Int)):(crs l).length=l.length:=by simp [crs]
theorem crss_len (l:List (List (Bool × Int))):(crss l).length=l.length:=by simp [crss]
instance {n m i:Nat}{l:List Int}:OKR n m (cpR icell [vi 0] l i):=⟨fun r hr x hx=>by
 rcases List.mem_append.1 hr with h | h
 ·exact (inferInstance:OKR n m (zrs (l.take i))).ok r h x hx
 ·rw [List.eq_of_mem_replicate h] at hx;simp at hx;subst hx;exact .val _⟩
instance {n m i:Nat}{l:List (Bool × Int)}:OKR n m (cpR ccell [vb false,vi 0] l i):=⟨fun r hr x hx=>by
 rcases List.mem_append.1 hr with h | h
 ·exact (inferInstance:OKR n m (crs (l.take i))).ok r h x hx
 ·rw [List.eq_of_mem_replicate h] at hx;simp at hx;rcases hx with rfl | rfl<;>exact .val _⟩
instance {n m i:Nat}{l:List (List (Bool × Int))}:OKR n m (cpR crow [.sl [] .tight] l i):=⟨fun r hr x hx=>by
 rcases List.mem_append.1 hr with h | h
 ·exact (inferInstance:OKR n m (crss (l.take i))).ok r h x hx
 ·rw [List.eq_of_mem_replicate h] at hx;simp at hx;subst hx;exact (inferInstance:OK n m (.sl [] .tight)).ok⟩
theorem t_toI (l:List (Int))(hl:l.length≤1000000000)  : Pure X 39 [.sl (zrs l) .no] (.sl (zrs l) .no):=by
 have hlen:(zrs l).length=l.length:=by simp [zrs]
 refine Pure.run Tryz.func39 ?_
 refine AK.op (Ndo.mkS (n:=(zrs l).length) (b:=0) (by rw [hlen];exact hl) rfl rfl rfl rfl rfl rfl rfl rfl rfl rfl) ?_
 refine AK.while_ (ι:=Nat) 1 0 (fun i=>i≤l.length) (fun i=>[(4,vi i),(3,.bsl 0 l.length),(0,.sl (zrs l) .no)]) (fun i=>⟨[cpR icell [vi 0] l i],[]⟩) (fun i=>l.length-i) ?_ 0 (Nat.zero_le _)
  ⟨rfl,by rw [← hlen];rfl,rfl,trivial⟩ (congrArg (fun b=>St.mk [b] []) (cpR_nil icell [vi 0] l).symm) rfl rfl rfl rfl (fun _=>inferInstance) (fun _=>inferInstance)
 intro i hi IH
 refine AK.ev 100 rfl ?_
 refine AK.if_ (fun h=>?_) (fun h=>?_)
 ·have hlt:i<l.length:=by have:=of_decide_eq_true h;rw [hlen] at this;omega
  obtain ⟨x,hx⟩:=lget_of_lt l hlt
  have hr:=cpR_get icell [vi 0] hlt
  refine AK.ix i (by omega) (map_get (f:=icell) hx) ?_
  skip
  refine AK.atB i hlt hr ?_
  refine AK.stB hr ?_
  refine IH (i+1) hlt (by omega) _ _ ⟨vint ((wrap_small (by omega) (by omega)).trans (by omega)),rfl,rfl,trivial⟩ ?_ rfl rfl
  exact congrArg (fun b=>St.mk [b] []) (cpR_set icell [vi 0] hx)
 ·have:i=l.length:=by have:=of_decide_eq_false h;rw [hlen] at this;omega
  subst this
  refine AK.rbs Tryz.func39 (b:=0) ?_ hlen hl
  show some (cpR icell [vi 0] l l.length)=_
  rw [cpR_all];rfl
theorem t_toCell (c:Bool × Int):Pure X 165 [.agg (ccell c)] (.agg (ccell c)):=by
 refine Pure.run Tryz.func165 ?_
 exact AK.rz Tryz.func165 rfl
theorem t_toC (l:List (Bool × Int))(hl:l.length≤1000000000)  : Pure X 123 [.sl (crs l) .no] (.sl (crs l) .no):=by
 have hlen:(crs l).length=l.length:=by simp [crs]
 refine Pure.run Tryz.func123 ?_
 refine AK.op (Ndo.mkS (n:=(crs l).length) (b:=0) (by rw [hlen];exact hl) rfl rfl rfl rfl rfl rfl rfl rfl rfl rfl) ?_
 refine AK.while_ (ι:=Nat) 1 0 (fun i=>i≤l.length) (fun i=>[(4,vi i),(3,.bsl 0 l.length),(0,.sl (crs l) .no)]) (fun i=>⟨[cpR ccell [vb false,vi 0] l i],[]⟩) (fun i=>l.length-i) ?_ 0 (Nat.zero_le _)
  ⟨rfl,by rw [← hlen];rfl,rfl,trivial⟩ (congrArg (fun b=>St.mk [b] []) (cpR_nil ccell [vb false,vi 0] l).symm) rfl rfl rfl rfl (fun _=>inferInstance) (fun _=>inferInstance)
 intro i hi IH
 refine AK.ev 100 rfl ?_
 refine AK.if_ (fun h=>?_) (fun h=>?_)
 ·have hlt:i<l.length:=by have:=of_decide_eq_true h;rw [hlen] at this;omega
  obtain ⟨x,hx⟩:=lget_of_lt l hlt
  have hr:=cpR_get ccell [vb false,vi 0] hlt
  refine AK.ix i (by omega) (map_get (f:=ccell) hx) ?_
  refine AK.pc (t_toCell x) ?_
  refine AK.atB i hlt hr ?_
  refine AK.stB hr ?_
  refine IH (i+1) hlt (by omega) _ _ ⟨vint ((wrap_small (by omega) (by omega)).trans (by omega)),rfl,rfl,trivial⟩ ?_ rfl rfl
  exact congrArg (fun b=>St.mk [b] []) (cpR_set ccell [vb false,vi 0] hx)
 ·have:i=l.length:=by have:=of_decide_eq_false h;rw [hlen] at this;omega
  subst this
  refine AK.rbs Tryz.func123 (b:=0) ?_ hlen hl
  show some (cpR ccell [vb false,vi 0] l l.length)=_
  rw [cpR_all];rfl
theorem t_toCC (l:List (List (Bool × Int)))(hl:l.length≤1000000000)(h1:∀ x,x∈l→x.length≤1000000000):Pure X 75 [.sl (crss l) .no] (.sl (crss l) .no):=by
 have hlen:(crss l).length=l.length:=by simp [crss]
 refine Pure.run Tryz.func75 ?_
 refine AK.op (Ndo.mkS (n:=(crss l).length) (b:=0) (by rw [hlen];exact hl) rfl rfl rfl rfl rfl rfl rfl rfl rfl rfl) ?_
 refine AK.while_ (ι:=Nat) 1 0 (fun i=>i≤l.length) (fun i=>[(4,vi i),(3,.bsl 0 l.length),(0,.sl (crss l) .no)]) (fun i=>⟨[cpR crow [.sl [] .tight] l i],[]⟩) (fun i=>l.length-i) ?_ 0 (Nat.zero_le _)
  ⟨rfl,by rw [← hlen];rfl,rfl,trivial⟩ (congrArg (fun b=>St.mk [b] []) (cpR_nil crow [.sl [] .tight] l).symm) rfl rfl rfl rfl (fun _=>inferInstance) (fun _=>inferInstance)
 intro i hi IH
 refine AK.ev 100 rfl ?_
 refine AK.if_ (fun h=>?_) (fun h=>?_)
 ·have hlt:i<l.length:=by have:=of_decide_eq_true h;rw [hlen] at this;omega
  obtain ⟨x,hx⟩:=lget_of_lt l hlt
  have hr:=cpR_get crow [.sl [] .tight] hlt
  refine AK.ix i (by omega) (map_get (f:=crow) hx) ?_
  refine AK.pc (t_toC x (h1 x (List.mem_of_getElem? hx))) ?_
  refine AK.atB i hlt hr ?_
  refine AK.stB hr ?_
  refine IH (i+1) hlt (by omega) _ _ ⟨vint ((wrap_small (by omega) (by omega)).trans (by omega)),rfl,rfl,trivial⟩ ?_ rfl rfl
  exact congrArg (fun b=>St.mk [b] []) (cpR_set crow [.sl [] .tight] hx)
 ·have:i=l.length:=by have:=of_decide_eq_false h;rw [hlen] at this;omega
  subst this
  refine AK.rbs Tryz.func75 (b:=0) ?_ hlen hl
  show some (cpR crow [.sl [] .tight] l l.length)=_
  rw [cpR_all];rfl
theorem t_eqI (l:List (Int))(hl:l.length≤1000000000)  : Pure X 41 [.sl (zrs l) .no,.sl (zrs l) .no] (vb true):=by
 have hlen:(zrs l).length=l.length:=by simp [zrs]
 refine Pure.run Tryz.func41 ?_
 refine AK.no ?_ (ht:=by simp)
 refine AK.while_ (ι:=Nat) 0 0 (fun i=>i≤l.length) (fun i=>[(5,vi i),(0,.sl (zrs l) .no),(1,.sl (zrs l) .no)]) (fun i=>⟨[],[]⟩) (fun i=>l.length-i) ?_ 0 (Nat.zero_le _)
  ⟨rfl,rfl,rfl,trivial⟩ rfl rfl rfl rfl rfl (fun _=>inferInstance) (fun _=>inferInstance)
 intro i hi IH
 refine AK.ev 100 rfl ?_
 refine AK.if_ (fun h=>?_) (fun h=>?_)
 ·have hlt:i<l.length:=by have:=of_decide_eq_true h;rw [hlen] at this;omega
  obtain ⟨x,hx⟩:=lget_of_lt l hlt
  refine AK.db 0 ?_
  refine Drv.ig i (by omega) (map_get (f:=icell) hx) ?_
  refine Drv.ig i (by omega) (map_get (f:=icell) hx) ?_
  skip
  refine Drv.z ?_
  refine AK.no ?_ (ht:=by simp)
  exact IH (i+1) hlt (by omega) _ _ ⟨vint ((wrap_small (by omega) (by omega)).trans (by omega)),rfl,rfl,trivial⟩ rfl rfl rfl
 ·exact AK.rz Tryz.func41 rfl
theorem t_eqCell (c:Bool × Int):Pure X 169 [.agg (ccell c),.agg (ccell c)] (vb true):=by
 refine Pure.run Tryz.func169 ?_
 refine AK.no ?_ (ht:=by simp)
 refine AK.no ?_ (ht:=by simp)
 exact AK.rz Tryz.func169 rfl
theorem t_eqC (l:List (Bool × Int))(hl:l.length≤1000000000)  : Pure X 131 [.sl (crs l) .no,.sl (crs l) .no] (vb true):=by
 have hlen:(crs l).length=l.length:=by simp [crs]
 refine Pure.run Tryz.func131 ?_
 refine AK.no ?_ (ht:=by simp)
 refine AK.while_ (ι:=Nat) 0 0 (fun i=>i≤l.length) (fun i=>[(5,vi i),(0,.sl (crs l) .no),(1,.sl (crs l) .no)]) (fun i=>⟨[],[]⟩) (fun i=>l.length-i) ?_ 0 (Nat.zero_le _)
  ⟨rfl,rfl,rfl,trivial⟩ rfl rfl rfl rfl rfl (fun _=>inferInstance) (fun _=>inferInstance)
 intro i hi IH
 refine AK.ev 100 rfl ?_
 refine AK.if_ (fun h=>?_) (fun h=>?_)
 ·have hlt:i<l.length:=by have:=of_decide_eq_true h;rw [hlen] at this;omega
  obtain ⟨x,hx⟩:=lget_of_lt l hlt
  refine AK.db 0 ?_
  refine Drv.ig i (by omega) (map_get (f:=ccell) hx) ?_
  refine Drv.ig i (by omega) (map_get (f:=ccell) hx) ?_
  refine Drv.pg (t_eqCell x) ?_
  refine Drv.z ?_
  refine AK.no ?_ (ht:=by simp)
  exact IH (i+1) hlt (by omega) _ _ ⟨vint ((wrap_small (by omega) (by omega)).trans (by omega)),rfl,rfl,trivial⟩ rfl rfl rfl
 ·exact AK.rz Tryz.func131 rfl
theorem t_eqCC (l:List (List (Bool × Int)))(hl:l.length≤1000000000)(h1:∀ x,x∈l→x.length≤1000000000):Pure X 77 [.sl (crss l) .no,.sl (crss l) .no] (vb true):=by
 have hlen:(crss l).length=l.length:=by simp [crss]
 refine Pure.run Tryz.func77 ?_
 refine AK.no ?_ (ht:=by simp)
 refine AK.while_ (ι:=Nat) 0 0 (fun i=>i≤l.length) (fun i=>[(5,vi i),(0,.sl (crss l) .no),(1,.sl (crss l) .no)]) (fun i=>⟨[],[]⟩) (fun i=>l.length-i) ?_ 0 (Nat.zero_le _)
  ⟨rfl,rfl,rfl,trivial⟩ rfl rfl rfl rfl rfl (fun _=>inferInstance) (fun _=>inferInstance)
 intro i hi IH
 refine AK.ev 100 rfl ?_
 refine AK.if_ (fun h=>?_) (fun h=>?_)
 ·have hlt:i<l.length:=by have:=of_decide_eq_true h;rw [hlen] at this;omega
  obtain ⟨x,hx⟩:=lget_of_lt l hlt
  refine AK.db 0 ?_
  refine Drv.ig i (by omega) (map_get (f:=crow) hx) ?_
  refine Drv.ig i (by omega) (map_get (f:=crow) hx) ?_
  refine Drv.pg (t_eqC x (h1 x (List.mem_of_getElem? hx))) ?_
  refine Drv.z ?_
  refine AK.no ?_ (ht:=by simp)
  exact IH (i+1) hlt (by omega) _ _ ⟨vint ((wrap_small (by omega) (by omega)).trans (by omega)),rfl,rfl,trivial⟩ rfl rfl rfl
 ·exact AK.rz Tryz.func77 rfl
theorem t_szI (rows:List (List AV)) [h:OKR 0 0 rows](left:Int)(h0:0≤left)(h1:left≤1048576)(hl:rows.length≤9223372036854775807):Pure X 72 [.sl rows .no,vi left] (vi (szR rows.length left)):=by
 have hw:IntKind.i64.wrap (left-rows.length)=left-rows.length:=wrap_small (by omega) (by omega)
 have e0:szR rows.length left=if left-rows.length<0 then -1 else left-rows.length:=by unfold szR;split<;>split<;>omega
 rw [e0,← hw]
 refine Pure.run Tryz.func72 ?_
 refine AK.if_ (fun g=>?_) (fun g=>?_)
 ·refine AK.rz Tryz.func72 ?_
  rw [if_pos (of_decide_eq_true g)]
 ·refine AK.rz Tryz.func72 ?_
  rw [if_neg (of_decide_eq_false g)]
theorem t_szC (rows:List (List AV)) [h:OKR 0 0 rows](left:Int)(h0:0≤left)(h1:left≤1048576)(hl:rows.length≤9223372036854775807):Pure X 121 [.sl rows .no,vi left] (vi (szR rows.length left)):=by
 have hw:IntKind.i64.wrap (left-rows.length)=left-rows.length:=wrap_small (by omega) (by omega)
 have e0:szR rows.length left=if left-rows.length<0 then -1 else left-rows.length:=by unfold szR;split<;>split<;>omega
 rw [e0,← hw]
 refine Pure.run Tryz.func121 ?_
 refine AK.if_ (fun g=>?_) (fun g=>?_)
 ·refine AK.rz Tryz.func121 ?_
  rw [if_pos (of_decide_eq_true g)]
 ·refine AK.rz Tryz.func121 ?_
  rw [if_neg (of_decide_eq_false g)]
def swC:List (List (Bool × Int))→Nat
 | []=>0
 | x::l=>x.length+swC l
theorem t_szCC (l:List (List (Bool × Int)))(left:Int)(h0:0≤left)(h1:left≤1048576)(hl:l.length≤9223372036854775807)(hx:∀ x,x∈l→x.length≤9223372036854775807) :
 Pure X 73 [.sl (crss l) .no,vi left] (vi (szR (l.length+swC l) left)):=by
 have hlen:(crss l).length=l.length:=by simp [crss]
 have hw:IntKind.i64.wrap (left-(crss l).length)=left-l.length:=by rw [hlen];exact wrap_small (by omega) (by omega)
 refine Pure.run Tryz.func73 ?_
 refine AK.if_ (fun g=>?_) (fun g=>?_)
 ·have g':=of_decide_eq_true g
  rw [hw] at g'
  refine AK.rz Tryz.func73 ?_
  rw [szR_lt (by omega)]
 have g':=of_decide_eq_false g
 rw [hw] at g'
 have e0:szR (l.length+swC l) left=szR (swC l) (IntKind.i64.wrap (left-(crss l).length)):=by rw [hw,szR_add (by omega)]
 rw [e0]
 have hb:0≤IntKind.i64.wrap (left-(crss l).length)∧IntKind.i64.wrap (left-(crss l).length)≤1048576:=by rw [hw];omega
 generalize IntKind.i64.wrap (left-(crss l).length)=lf0 at hb
 refine AK.while_ (ι:=Nat × Int) 0 0 (fun i=>i.1≤l.length∧0≤i.2∧i.2≤1048576∧szR (swC l) lf0=szR (swC (l.drop i.1)) i.2) (fun i=>[(5,vi i.1),(1,vi i.2),(0,.sl (crss l) .no)]) (fun _=>⟨[],[]⟩) (fun i=>l.length-i.1) ?_ (0,lf0) ⟨Nat.zero_le _,hb.1,hb.2,rfl⟩
  ⟨rfl,rfl,rfl,trivial⟩ rfl rfl rfl rfl rfl (fun _=>inferInstance) (fun _=>inferInstance)
 rintro ⟨i,lf⟩ ⟨hi,hp0,hp1,hT⟩ IH
 simp only at hi hp0 hp1 hT IH ⊢
 refine AK.ev 100 rfl ?_
 refine AK.if_ (fun h=>?_) (fun h=>?_)
 ·have hlt:i<l.length:=by have:=of_decide_eq_true h;rw [hlen] at this;omega
  obtain ⟨x,hx1⟩:=lget_of_lt l hlt
  rw [drop_cons hx1] at hT
  simp only [swC] at hT
  have hs:=t_szC (crs x) lf hp0 hp1 (by rw [crs_len];exact hx x (List.mem_of_getElem? hx1))
  rw [crs_len] at hs
  refine AK.ix i (by omega) (map_get (f:=crow) hx1) ?_
  refine AK.pc hs ?_
  refine AK.if_ (fun g2=>?_) (fun g2=>?_)
  ·have g2':=szR_neg hp0 (of_decide_eq_true g2)
   refine AK.rz Tryz.func73 ?_
   rw [hT,szR_lt g2'.2]
  ·have g2':=szR_pos (show 0≤szR x.length lf by have:=of_decide_eq_false g2;omega)
   refine IH (i+1,szR x.length lf) ⟨hlt,?_,?_,?_⟩ (by simp only;omega) _ _ ⟨vint ((wrap_small (by omega) (by omega)).trans (by simp)),rfl,rfl,trivial⟩ rfl rfl rfl
   ·show 0≤szR x.length lf;omega
   ·show szR x.length lf≤_;omega
   ·rw [hT,szR_add g2'.2,g2'.1]
 ·have:i=l.length:=by have:=of_decide_eq_false h;rw [hlen] at this;omega
  subst this
  rw [List.drop_length] at hT
  refine AK.rz Tryz.func73 ?_
  rw [hT]
  unfold szR swC
  rw [if_pos (by simpa using hp0)];simp
def isV (x:Int):Bool:=between x (-1000000) 1000000
def cellB (c:Bool × Int):Bool:=isV c.2&&(c.1||(c.2==0))
def rowB (x:List (Bool × Int))(s:Int):Bool:=decide (x.length≤60)&&((!decide (s≥0)||((x.length:Int)==s))&&x.all cellB)
def rowsB:List (List (Bool × Int))→List Int→Bool
 | x::l,s::ss=>rowB x s&&rowsB l ss
 | _,_=>true
def tailB (es:List Eg)(c:Cf):Bool :=
 if c.trap=0 then (c.edge==0)&&(c.acc==0) else between c.edge 0 ((es.length:Int)-1)&&(((es.map Eg.f).getD c.edge.toNat (-1)==c.pt)&&between c.acc 0 500)
def confS (pts nv na:Nat)(ss:List Int)(es:List Eg)(c:Cf):Bool :=
 between c.pt 0 ((pts:Int)-1)&&((c.vars.length==nv)&&((c.cells.length==na)&&(between c.used 0 100&&(between c.steps 0 5000&&(between c.trap 0 5&&(c.vars.all isV&&(rowsB c.cells ss&&tailB es c)))))))
theorem p_val (x:Int):Pure X 122 [vi x] (vb (isV x)):=by
 refine Pure.run Tryz.func122 ?_
 refine AK.pc (p_between x (-1000000) 1000000) ?_
 exact AK.rz Tryz.func122 rfl
theorem q_cellOk (c:Bool × Int):Pure X 126 [.agg (ccell c)] (vb (cellB c)):=by
 obtain ⟨w,m⟩:=c
 refine Pure.run Tryz.func126 ?_
 cases w with
 | true =>
   refine AK.gy ?_
   refine AK.pc (q_isVal m) ?_
   refine AK.gd (fun g=>?_) (fun g=>?_)
   ·have g':isV m=true:=g
    refine AK.rz Tryz.func126 ?_
    simp [cellB,g']
   ·have g':isV m=false:=g
    refine AK.gn ?_
    refine AK.rz Tryz.func126 ?_
    simp [cellB,g']
 | false =>
   refine AK.gn ?_
   refine AK.gn ?_
   refine AK.gy ?_
   refine AK.rz Tryz.func126 ?_
   by_cases h:m=0
   ·subst h;rfl
   ·simp [cellB,h]
def idxG {α:Type}(p:α→Bool):Nat→List α→Int
 | _,[]=>-1
 | i,x::l=>if p x then i else idxG p (i+1) l
theorem idxG_any {α:Type}(p:α→Bool):∀ (l:List α)(i:Nat),decide (idxG p i l≥0)=l.any p
 | [],i=>by simp [idxG]
 | x::l,i=>by
   have hb:(x::l).any p=(p x||l.any p):=rfl
   rw [hb,← idxG_any p l (i+1)]
   by_cases h:p x=true
   ·simp [idxG,h]
   ·have h':p x=false:=by simpa using h
    have:idxG p i (x::l)=idxG p (i+1) l:=by simp only [idxG];rw [if_neg h]
    rw [this,h'];rfl
theorem q_cfC (c:Bool × Int):Pure X 125 [.agg (ccell c)] (vb (!cellB c)):=by
 refine Pure.run Tryz.func125 ?_
 refine AK.pc (q_cellOk c) ?_
 exact AK.rz Tryz.func125 rfl
theorem q_cfI (x:Int):Pure X 128 [vi x] (vb (!isV x)):=by
 refine Pure.run Tryz.func128 ?_
 refine AK.pc (q_isVal x) ?_
 exact AK.rz Tryz.func128 rfl
theorem q_idxC (l:List (Bool × Int))(hl:l.length≤1000000000)  : Pure X 166 [.sl (crs l) .no,.fn 125 []] (vi (idxG (fun x=>!cellB x) 0 l)):=by
 have hlen:(crs l).length=l.length:=by simp [crs]
 refine Pure.run Tryz.func166 ?_
 refine AK.while_ (ι:=Nat) 0 0 (fun i=>i≤l.length∧idxG (fun x=>!cellB x) 0 l=idxG (fun x=>!cellB x) i (l.drop i)) (fun i=>[(8,vi i),(7,vi l.length),(0,.sl (crs l) .no),(1,.fn 125 [])]) (fun _=>⟨[],[]⟩) (fun i=>l.length-i) ?_ 0 ⟨Nat.zero_le _,rfl⟩
  ⟨rfl,by rw [← hlen];rfl,rfl,rfl,trivial⟩ rfl rfl rfl rfl rfl (fun _=>inferInstance) (fun _=>inferInstance)
 intro i hi IH
 refine AK.ev 100 rfl ?_
 refine AK.if_ (fun h=>?_) (fun h=>?_)
 ·have hlt:i<l.length:=by have:=of_decide_eq_true h;omega
  obtain ⟨x,hx⟩:=lget_of_lt l hlt
  have hd:idxG (fun x=>!cellB x) i (l.drop i)=if ((fun x=>!cellB x)) x then (i:Int) else idxG (fun x=>!cellB x) (i+1) (l.drop (i+1)):=by rw [drop_cons hx];rfl
  refine AK.ix i (by omega) (map_get (f:=ccell) hx) ?_
  refine AK.pc (q_cfC x) ?_
  refine AK.if_ (fun h2=>?_) (fun h2=>?_)
  ·refine AK.rt Tryz.func166 ?_
   have h3:((fun x=>!cellB x)) x=true:=h2
   rw [hi.2,hd,h3];rfl
  ·have h3:((fun x=>!cellB x)) x=false:=h2
   exact IH (i+1) ⟨hlt,by rw [hi.2,hd,h3];rfl⟩ (by omega) _ _ ⟨vint ((wrap_small (by omega) (by omega)).trans (by omega)),rfl,rfl,rfl,trivial⟩ rfl rfl rfl
 ·have:i=l.length:=by have:=of_decide_eq_false h;omega
  refine AK.rt Tryz.func166 ?_
  rw [hi.2,this,List.drop_length];rfl
theorem q_idxIF (l:List (Int))(hl:l.length≤1000000000)  : Pure X 167 [.sl (zrs l) .no,.fn 128 []] (vi (idxG (fun x=>!isV x) 0 l)):=by
 have hlen:(zrs l).length=l.length:=by simp [zrs]
 refine Pure.run Tryz.func167 ?_
 refine AK.while_ (ι:=Nat) 0 0 (fun i=>i≤l.length∧idxG (fun x=>!isV x) 0 l=idxG (fun x=>!isV x) i (l.drop i)) (fun i=>[(8,vi i),(7,vi l.length),(0,.sl (zrs l) .no),(1,.fn 128 [])]) (fun _=>⟨[],[]⟩) (fun i=>l.length-i) ?_ 0 ⟨Nat.zero_le _,rfl⟩
  ⟨rfl,by rw [← hlen];rfl,rfl,rfl,trivial⟩ rfl rfl rfl rfl rfl (fun _=>inferInstance) (fun _=>inferInstance)
 intro i hi IH
 refine AK.ev 100 rfl ?_
 refine AK.if_ (fun h=>?_) (fun h=>?_)
 ·have hlt:i<l.length:=by have:=of_decide_eq_true h;omega
  obtain ⟨x,hx⟩:=lget_of_lt l hlt
  have hd:idxG (fun x=>!isV x) i (l.drop i)=if ((fun x=>!isV x)) x then (i:Int) else idxG (fun x=>!isV x) (i+1) (l.drop (i+1)):=by rw [drop_cons hx];rfl
  refine AK.ix i (by omega) (map_get (f:=icell) hx) ?_
  refine AK.pc (q_cfI x) ?_
  refine AK.if_ (fun h2=>?_) (fun h2=>?_)
  ·refine AK.rt Tryz.func167 ?_
   have h3:((fun x=>!isV x)) x=true:=h2
   rw [hi.2,hd,h3];rfl
  ·have h3:((fun x=>!isV x)) x=false:=h2
   exact IH (i+1) ⟨hlt,by rw [hi.2,hd,h3];rfl⟩ (by omega) _ _ ⟨vint ((wrap_small (by omega) (by omega)).trans (by omega)),rfl,rfl,rfl,trivial⟩ rfl rfl rfl
 ·have:i=l.length:=by have:=of_decide_eq_false h;omega
  refine AK.rt Tryz.func167 ?_
  rw [hi.2,this,List.drop_length];rfl
theorem q_idxI (l:List (Int))(hl:l.length≤1000000000)(v:Int):Pure X 168 [.sl (zrs l) .no,vi v] (vi (idxG (fun x=>v==x) 0 l)):=by
 have hlen:(zrs l).length=l.length:=by simp [zrs]
 refine Pure.run Tryz.func168 ?_
 refine AK.while_ (ι:=Nat) 0 0 (fun i=>i≤l.length∧idxG (fun x=>v==x) 0 l=idxG (fun x=>v==x) i (l.drop i)) (fun i=>[(8,vi i),(7,vi l.length),(0,.sl (zrs l) .no),(1,vi v)]) (fun _=>⟨[],[]⟩) (fun i=>l.length-i) ?_ 0 ⟨Nat.zero_le _,rfl⟩
  ⟨rfl,by rw [← hlen];rfl,rfl,rfl,trivial⟩ rfl rfl rfl rfl rfl (fun _=>inferInstance) (fun _=>inferInstance)
 intro i hi IH
 refine AK.ev 100 rfl ?_
 refine AK.if_ (fun h=>?_) (fun h=>?_)
 ·have hlt:i<l.length:=by have:=of_decide_eq_true h;omega
  obtain ⟨x,hx⟩:=lget_of_lt l hlt
  have hd:idxG (fun x=>v==x) i (l.drop i)=if ((fun x=>v==x)) x then (i:Int) else idxG (fun x=>v==x) (i+1) (l.drop (i+1)):=by rw [drop_cons hx];rfl
  refine AK.ix i (by omega) (map_get (f:=icell) hx) ?_
  skip
  refine AK.if_ (fun h2=>?_) (fun h2=>?_)
  ·refine AK.rt Tryz.func168 ?_
   have h3:((fun x=>v==x)) x=true:=h2
   rw [hi.2,hd,h3];rfl
  ·have h3:((fun x=>v==x)) x=false:=h2
   exact IH (i+1) ⟨hlt,by rw [hi.2,hd,h3];rfl⟩ (by omega) _ _ ⟨vint ((wrap_small (by omega) (by omega)).trans (by omega)),rfl,rfl,rfl,trivial⟩ rfl rfl rfl
 ·have:i=l.length:=by have:=of_decide_eq_false h;omega
  refine AK.rt Tryz.func168 ?_
  rw [hi.2,this,List.drop_length];rfl
theorem q_conC (l:List (Bool × Int))(hl:l.length≤1000000000):Pure X 124 [.sl (crs l) .no,.fn 125 []] (vb (!(l.all cellB))):=by
 have e:(!(l.all cellB))=l.any fun x=>!cellB x:=List.not_all_eq_any_not
 rw [e]
 refine Pure.run Tryz.func124 ?_
 refine AK.pc (q_idxC l hl) ?_
 refine AK.rt Tryz.func124 ?_
 rw [← idxG_any _ l 0];rfl
theorem q_conIF (l:List Int)(hl:l.length≤1000000000):Pure X 127 [.sl (zrs l) .no,.fn 128 []] (vb (!(l.all isV))):=by
 have e:(!(l.all isV))=l.any fun x=>!isV x:=List.not_all_eq_any_not
 rw [e]
 refine Pure.run Tryz.func127 ?_
 refine AK.pc (q_idxIF l hl) ?_
 refine AK.rt Tryz.func127 ?_
 rw [← idxG_any _ l 0];rfl
theorem q_conI (l:List Int)(hl:l.length≤1000000000)(v:Int):Pure X 130 [.sl (zrs l) .no,vi v] (vb (l.any fun x=>v==x)):=by
 refine Pure.run Tryz.func130 ?_
 refine AK.pc (q_idxI l hl v) ?_
 refine AK.rt Tryz.func130 ?_
 rw [← idxG_any _ l 0];rfl
theorem led_any (es:List Eg)(p:Nat)(v:Int):∀ k:Nat,((ledI Eg.f p k es).any fun x=>v==(x:Int))=(decide ((k:Int)≤v)&&(decide (v<(k:Int)+es.length)&&((es.map Eg.f).getD (v-k).toNat (-1)==p))):=by
 induction es with
 | nil=>intro k;simp [ledI]
 | cons e es ih =>
   intro k
   have hrec:=ih (k+1)
   by_cases hv:v=k
   ·subst hv
    have h0:((es.map Eg.f))=es.map Eg.f:=rfl
    simp only [ledI]
    by_cases he:e.f=p
    ·simp [he];omega
    ·rw [if_neg he,hrec]
     have a:decide (((k+1:Nat):Int)≤(k:Int))=false:=by simp;omega
     rw [a];simp [he]
   ·have hne:(v==(k:Int))=false:=by simpa using hv
    have hg:((e::es).map Eg.f).getD (v-k).toNat (-1)=if v<k then e.f else (es.map Eg.f).getD (v-(k+1:Nat)).toNat (-1):=by
     by_cases hlt:v<k
     ·rw [if_pos hlt,show (v-(k:Int)).toNat=0 by omega];rfl
     ·rw [if_neg hlt,show (v-(k:Int)).toNat=(v-((k+1:Nat):Int)).toNat+1 by omega];rfl
    have hstep:((ledI Eg.f p k (e::es)).any fun x=>v==(x:Int))=((ledI Eg.f p (k+1) es).any fun x=>v==(x:Int)):=by
     simp only [ledI]
     split
     ·simp [hne]
     ·rfl
    rw [hstep,hrec,hg]
    by_cases hlt:v<k
    ·have a:decide ((k:Int)≤v)=false:=by simpa using hlt
     have b:decide (((k+1:Nat):Int)≤v)=false:=by simp;omega
     rw [a,b];rfl
    ·have a:decide ((k:Int)≤v)=true:=by simp;omega
     have b:decide (((k+1:Nat):Int)≤v)=true:=by simp;omega
     have c:decide (v<(k:Int)+((e::es).length:Nat))=decide (v<((k+1:Nat):Int)+(es.length:Nat)):=by
      simp only [List.length_cons]
      exact decide_eq_decide.2 (by omega)
     rw [a,b,if_neg hlt,c]
theorem irs_zrs (l:List Nat):irs l=zrs (l.map fun (i:Nat)=>(i:Int)):=by simp [irs,zrs]
theorem ledR_get (f:Eg→Int)(l:List Eg){pts j:Nat}(h:j<pts):(ledR f l pts)[j]?=some [.sl (irs (ledL f l j)) .no]:=by simp [ledR,h]
theorem led_in (es:List Eg)(p:Nat)(v:Int):((ledL Eg.f es p).map fun (i:Nat)=>(i:Int)).any (fun x=>v==x)=(between v 0 ((es.length:Int)-1)&&((es.map Eg.f).getD v.toNat (-1)==p)):=by
 rw [List.any_map]
 have:=led_any es p v 0
 unfold ledL
 rw [show ((fun x=>v==x) ∘ fun (i:Nat)=>(i:Int))=fun (x:Nat)=>v==(x:Int) from rfl,this,← Bool.and_assoc]
 congr 1
 ·unfold between
  congr 1
  exact decide_eq_decide.2 (by omega)
 ·simp
abbrev confN (n:Nd)(c:Cf):Bool:=confS (gAll (planL n)).pts (declS n 31).length (declS n 32).length (sizesT n) (gEs (planL n)) c
structure CfOk (c:Cf):Prop where
 vars:c.vars.length≤1000000000
 cells:c.cells.length≤1000000000
 rows:∀ x,x∈c.cells→x.length≤1000000000
theorem sizesT_len (n:Nd):(sizesT n).length=(declS n 32).length:=by rw [declS_K,sizesT,List.length_map,List.length_map]
theorem es_len {n:Nd}(hr:rightS n=true):(gAll (planL n)).pts≤2000000∧(gEs (planL n)).length≤2000000:=by
 obtain ⟨fp,hc,hw,hne,hkl⟩:=right_facts hr
 obtain ⟨ds,hpl,_,hps,hwl⟩:=FP_plan fp
 have hpw:=(plain_w n).1
 have hps2:=PSL_le hps nd0 ⟨1,0,[],[],[],0⟩ (by decide)
 have hl:=leaf_le 6 nd0 hps2.pt
 have hA:=hps2.trans hl (Nat.le_refl _)
 obtain ⟨es,e1,e2,e3⟩:=hA.es
 have hpp:=hA.pts
 simp only [bG] at e2 hpp
 have hes:(gAll (planL n)).es=es:=by unfold gAll;rw [e1];rfl
 refine ⟨by show _≤_;unfold gAll;have:(1:Nat)=(⟨1,0,[],[],[],0⟩:Gr).pts:=rfl;omega,by unfold gEs;rw [hes,List.length_map];omega⟩
theorem q_cf13 (n:Nd)(c:Cf)(hE:(gEs (planL n)).length≤2000000)(h0:0≤c.pt)(h1:c.pt<(gAll (planL n)).pts)(ht:¬ c.trap=0)(h6:between c.trap 1 5=true) :
 AK X ⟨76,Tryz.f76,0,0⟩ (locG false 13 Tryz.f76) [(0,.cptr (progC n)),(3,.ptr 0 0 0)] ⟨[[cfcells c]],[]⟩ (fun e S=>e=.ret (vb (tailB (gEs (planL n)) c))∧S=⟨[],[]⟩):=by
 obtain ⟨j,hj⟩:=Int.eq_ofNat_of_zero_le h0
 have hl:=ledI_len Eg.f j (gEs (planL n)) 0
 have hc:=q_conI ((ledL Eg.f (gEs (planL n)) j).map fun (i:Nat)=>(i:Int)) (by rw [List.length_map];unfold ledL;omega) c.edge
 rw [← irs_zrs,led_in,← hj] at hc
 have hg:(ledR Eg.f (gEs (planL n)) (gAll (planL n)).pts)[c.pt.toNat]?=some [.sl (irs (ledL Eg.f (gEs (planL n)) j)) .no]:=by rw [hj];exact ledR_get Eg.f _ (by omega)
 have e0:tailB (gEs (planL n)) c=((between c.edge 0 (((gEs (planL n)).length:Int)-1)&&((((gEs (planL n))).map Eg.f).getD c.edge.toNat (-1)==c.pt))&&between c.acc 0 500):=by unfold tailB;rw [if_neg ht,Bool.and_assoc]
 rw [e0]
 refine AK.at_ ?_
 refine AK.dn 0 2 ?_
 refine Drv.pc (q_inRange c.trap 1 5) ?_
 rw [h6]
 refine Drv.t true ?_
 refine Drv.go ?_
 refine Drv.ru (fun S'=>Ndo.index rfl rfl rfl rfl rfl rfl rfl rfl rfl h0 hg) ?_
 refine Drv.go ?_
 refine Drv.pc hc ?_
 refine Drv.gon 1 ?_
 cases hb:(between c.edge 0 (((gEs (planL n)).length:Int)-1)&&((((gEs (planL n))).map Eg.f).getD c.edge.toNat (-1)==c.pt)) with
 | false =>
   refine Drv.t false ?_
   refine Drv.go ?_
   refine Drv.z ?_
   exact AK.rz Tryz.func76 rfl
 | true =>
   refine Drv.t true ?_
   refine Drv.go ?_
   refine Drv.pg (q_inRange c.acc 0 500) ?_
   refine Drv.z ?_
   exact AK.rz Tryz.func76 rfl
set_option maxHeartbeats 2000000 in
theorem q_cf9 (n:Nd)(c:Cf)(hc:CfOk c)(hE:(gEs (planL n)).length≤2000000)(h0:0≤c.pt)(h1:c.pt<(gAll (planL n)).pts) :
 AK X ⟨76,Tryz.f76,0,0⟩ (locG false 9 Tryz.f76) [(0,.cptr (progC n)),(3,.ptr 0 0 0)] ⟨[[cfcells c]],[]⟩
  (fun e S=>e=.ret (vb (between c.used 0 100&&(between c.steps 0 5000&&(between c.trap 0 5&&(c.vars.all isV&&tailB (gEs (planL n)) c)))))∧S=⟨[],[]⟩):=by
 refine AK.at_ ?_
 refine AK.ev 100 rfl ?_
 refine AK.pc (q_conIF c.vars hc.vars) ?_
 cases hv:c.vars.all isV with
 | false =>
   refine AK.gy ?_
   refine AK.gy ?_
   refine AK.yes ?_
   refine AK.rz Tryz.func76 ?_
   simp
 | true =>
   refine AK.gn ?_
   refine AK.pc (q_inRange c.used 0 100) ?_
   cases hu:between c.used 0 100 with
   | false =>
     refine AK.gy ?_
     refine AK.yes ?_
     refine AK.rz Tryz.func76 ?_
     simp
   | true =>
     refine AK.gn ?_
     refine AK.pc (q_inRange c.steps 0 5000) ?_
     cases hs:between c.steps 0 5000 with
     | false =>
       refine AK.yes ?_
       refine AK.rz Tryz.func76 ?_
       simp
     | true =>
       refine AK.no ?_
       refine AK.ifj 0 13 (fun ht=>?_) (fun ht=>?_)
       ·have ht':c.trap=0:=by simpa using (show (c.trap==0)=true from ht)
        have e0:tailB (gEs (planL n)) c=((c.edge==0)&&(c.acc==0)):=by unfold tailB;rw [if_pos ht']
        have e1:between c.trap 0 5=true:=by rw [ht'];rfl
        rw [e0,e1]
        refine AK.ev 100 rfl ?_
        refine AK.gd (fun g=>?_) (fun g=>?_)
        ·have g':(c.edge==0)=true:=g
         refine AK.rz Tryz.func76 ?_
         rw [g'];simp
        ·have g':(c.edge==0)=false:=g
         refine AK.rz Tryz.func76 ?_
         rw [g'];rfl
       ·have ht':¬ c.trap=0:=by simpa using (show (c.trap==0)=false from ht)
        cases h6:between c.trap 1 5 with
        | true =>
          have e1:between c.trap 0 5=true:=by rw [between_iff] at h6 ⊢;omega
          rw [e1]
          have:=q_cf13 n c hE h0 h1 ht' h6
          simp only [Bool.true_and]
          exact AK.back' 1 0 this ⟨rfl,rfl,trivial⟩ rfl rfl rfl rfl rfl
        | false =>
          have e1:between c.trap 0 5=false:=by
           cases h7:between c.trap 0 5 with
           | false=>rfl
           | true =>
             rw [between_iff] at h7
             rw [between_iff.2 (by omega)] at h6;cases h6
          rw [e1]
          refine AK.dn 0 2 ?_
          refine Drv.pc (q_inRange c.trap 1 5) ?_
          rw [h6]
          refine Drv.t false ?_
          refine Drv.gon 12 ?_
          refine Drv.t false ?_
          refine Drv.go ?_
          refine Drv.z ?_
          exact AK.rz Tryz.func76 rfl
theorem rowsB_drop {l:List (List (Bool × Int))}{ss:List Int}{i:Nat}{x:List (Bool × Int)}{s:Int}(hx:l[i]?=some x)(hs:ss[i]?=some s):rowsB (l.drop i) (ss.drop i)=(rowB x s&&rowsB (l.drop (i+1)) (ss.drop (i+1))):=by rw [drop_cons hx,drop_cons hs];rfl
theorem q_confOk (n:Nd)(hr:rightS n=true)(c:Cf)(hc:CfOk c):Pure X 76 [.cptr (progC n),cf c] (vb (confN n c)):=by
 obtain ⟨hP,hE⟩:=es_len hr
 obtain ⟨fp,_,hw,hne,hkl⟩:=right_facts hr
 have hd1:=declS_le n 31
 have hd2:=declS_le n 32
 have hsz:=sizesT_len n
 have l1:((zrs c.vars).length:Int)=c.vars.length:=by rw [zrs_len]
 have l2:((crss c.cells).length:Int)=c.cells.length:=by rw [crss_len]
 have l3:((strR (declS n 31)).length:Int)=(declS n 31).length:=by rw [strR_len]
 have l4:((strR (declS n 32)).length:Int)=(declS n 32).length:=by rw [strR_len]
 show Pure X _ _ (vb (confS _ _ _ _ _ _))
 unfold confS
 refine Pure.run Tryz.func76 ?_
 refine AK.dn 0 7 ?_
 refine Drv.pc (q_isPlace c.pt (gAll (planL n)).pts (by omega) (by omega)) ?_
 refine Drv.gon 1 ?_
 cases h1:between c.pt 0 (((gAll (planL n)).pts:Int)-1) with
 | false =>
   refine Drv.t true ?_
   refine Drv.gon 10 ?_
   refine Drv.t true ?_
   refine Drv.go ?_
   refine Drv.z ?_
   refine AK.yes ?_
   exact AK.rz Tryz.func76 rfl
 | true =>
   have h1':=between_iff.1 h1
   refine Drv.t false ?_
   refine Drv.gon 10 ?_
   cases h2:(c.vars.length==(declS n 31).length) with
   | false =>
     have h2':¬ c.vars.length=(declS n 31).length:=by simpa using h2
     refine Drv.t true ?_ (hb:=by rw [l1,l3];simp;omega)
     refine Drv.go ?_
     refine Drv.z ?_
     refine AK.yes ?_
     exact AK.rz Tryz.func76 rfl
   | true =>
     have h2':c.vars.length=(declS n 31).length:=by simpa using h2
     refine Drv.t false ?_ (hb:=by rw [l1,l3];simp;omega)
     refine Drv.go ?_
     refine Drv.z ?_
     cases h3:(c.cells.length==(declS n 32).length) with
     | false =>
       have h3':¬ c.cells.length=(declS n 32).length:=by simpa using h3
       refine AK.yes ?_ (ht:=by rw [l2,l4];simp;omega)
       exact AK.rz Tryz.func76 rfl
     | true =>
       have h3':c.cells.length=(declS n 32).length:=by simpa using h3
       refine AK.no ?_ (ht:=by rw [l2,l4];simp;omega)
       have L9:=q_cf9 n c hc hE h1'.1 (by omega)
       simp only [Bool.true_and]
       generalize hG:(between c.used 0 100&&(between c.steps 0 5000&&(between c.trap 0 5&&(c.vars.all isV&&tailB (gEs (planL n)) c))))=G at L9
       have hG2:(between c.used 0 100&&(between c.steps 0 5000&&(between c.trap 0 5&&(c.vars.all isV&&(rowsB c.cells (sizesT n)&&tailB (gEs (planL n)) c)))))=(rowsB c.cells (sizesT n)&&G):=by
        rw [← hG]
        cases rowsB c.cells (sizesT n)<;>simp
       rw [hG2]
       refine AK.while_ (ι:=Nat) 1 0 (fun i=>i≤c.cells.length∧rowsB c.cells (sizesT n)=rowsB (c.cells.drop i) ((sizesT n).drop i)) (fun i=>[(41,vi i),(40,vi c.cells.length),(39,.sl (crss c.cells) .no),(0,.cptr (progC n)),(3,.ptr 0 0 0)])
        (fun _=>⟨[[cfcells c]],[]⟩) (fun i=>c.cells.length-i) ?_ 0 ⟨Nat.zero_le _,rfl⟩ ⟨rfl,by rw [← l2];rfl,rfl,rfl,rfl,trivial⟩ rfl rfl rfl rfl rfl (fun _=>inferInstance) (fun _=>inferInstance)
       rintro i ⟨hi,hT⟩ IH
       refine AK.ev 100 rfl ?_
       refine AK.ifj 0 9 (fun h=>?_) (fun h=>?_)
       ·have hlt:i<c.cells.length:=by have:=of_decide_eq_true h;omega
        obtain ⟨x,hx⟩:=lget_of_lt c.cells hlt
        obtain ⟨s,hs⟩:=lget_of_lt (sizesT n) (i:=i) (by omega)
        rw [rowsB_drop hx hs] at hT
        have hxl:=hc.rows x (List.mem_of_getElem? hx)
        have l5:((crs x).length:Int)=x.length:=by rw [crs_len]
        have bad:rowB x s=false→(rowsB c.cells (sizesT n)&&G)=false:=fun hb=>by rw [hT,hb];rfl
        refine AK.ix i (by omega) (map_get (f:=crow) hx) ?_
        refine AK.ix i (by omega) (zrs_get hs) ?_
        refine AK.gd (fun g=>?_) (fun g=>?_)
        ·have g':=of_decide_eq_true g
         refine AK.ix i (by omega) (zrs_get hs) ?_
         refine AK.gd (fun g2=>?_) (fun g2=>?_)
         ·have g2':¬ (x.length:Int)=s:=by rw [l5] at g2;simpa using g2
          refine AK.gy ?_
          refine AK.yes ?_
          refine AK.rz Tryz.func76 ?_
          rw [bad (by simp [rowB,g2'];omega)]
         ·have g2':(x.length:Int)=s:=by rw [l5] at g2;simpa using g2
          have SZ:(!decide (s≥0)||((x.length:Int)==s))=true:=by simp [g2']
          refine AK.gd (fun g3=>?_) (fun g3=>?_)
          ·have g3':¬ x.length≤60:=by have:=of_decide_eq_true g3;rw [l5] at this;omega
           refine AK.yes ?_
           refine AK.rz Tryz.func76 ?_
           rw [bad (by simp [rowB,g3'])]
          ·have g3':x.length≤60:=by have:=of_decide_eq_false g3;rw [l5] at this;omega
           refine AK.pc (q_conC x hxl) ?_
           refine AK.if_ (fun g4=>?_) (fun g4=>?_)
           ·have g4':x.all cellB=false:=by simpa using (show (!x.all cellB)=true from g4)
            refine AK.rz Tryz.func76 ?_
            rw [bad (by unfold rowB;rw [g4'];simp)]
           ·have g4':x.all cellB=true:=by simpa using (show (!x.all cellB)=false from g4)
            have hrow:rowB x s=true:=by unfold rowB;rw [g4',SZ];simp [g3']
            refine IH (i+1) ⟨hlt,by rw [hT,hrow];rfl⟩ (by omega) _ _ ⟨vint ((wrap_small (by omega) (by omega)).trans (by omega)),rfl,rfl,rfl,rfl,trivial⟩ rfl rfl rfl
        ·have g':=of_decide_eq_false g
         have SZ:(!decide (s≥0)||((x.length:Int)==s))=true:=by rw [decide_eq_false (show ¬ s≥0 by omega)];rfl
         refine AK.gn ?_
         refine AK.gd (fun g3=>?_) (fun g3=>?_)
         ·have g3':¬ x.length≤60:=by have:=of_decide_eq_true g3;rw [l5] at this;omega
          refine AK.yes ?_
          refine AK.rz Tryz.func76 ?_
          rw [bad (by simp [rowB,g3'])]
         ·have g3':x.length≤60:=by have:=of_decide_eq_false g3;rw [l5] at this;omega
          refine AK.pc (q_conC x hxl) ?_
          refine AK.if_ (fun g4=>?_) (fun g4=>?_)
          ·have g4':x.all cellB=false:=by simpa using (show (!x.all cellB)=true from g4)
           refine AK.rz Tryz.func76 ?_
           rw [bad (by unfold rowB;rw [g4'];simp)]
          ·have g4':x.all cellB=true:=by simpa using (show (!x.all cellB)=false from g4)
           have hrow:rowB x s=true:=by unfold rowB;rw [g4',SZ];simp [g3']
           refine IH (i+1) ⟨hlt,by rw [hT,hrow];rfl⟩ (by omega) _ _ ⟨vint ((wrap_small (by omega) (by omega)).trans (by omega)),rfl,rfl,rfl,rfl,trivial⟩ rfl rfl rfl
       ·have hie:i=c.cells.length:=by have:=of_decide_eq_false h;omega
        have hr1:rowsB c.cells (sizesT n)=true:=by rw [hT,hie,List.drop_length];rfl
        rw [hr1,Bool.true_and]
        exact AK.back' 1 0 L9 ⟨rfl,rfl,trivial⟩ rfl rfl rfl rfl rfl
end Go.V
