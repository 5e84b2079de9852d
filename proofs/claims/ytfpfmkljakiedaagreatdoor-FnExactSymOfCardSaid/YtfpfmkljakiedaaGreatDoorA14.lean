/- A part of the proof of the claim that the last text states: no condition of its own. -/
import Derived.Test.YtfpfmkljakiedaaGreatDoorA13
set_option linter.unusedVariables false
set_option linter.unusedSimpArgs false
namespace Go.V
open Go Go.Proofs
theorem checkS_0 {n:Nd} (h:rightS n = true) : checkS n = (0,[])∧progOkS n = true∧progOkS (plainM n) = true := by
 unfold rightS at h
 have h0 : (checkS n).1 = 0 := by simpa using h
 unfold checkS at h0 ⊢
 split at h0
 ·rename_i h1
  rw [if_pos h1]
  split at h0
  ·simp at h0
  ·rename_i h2
   rw [if_neg h2]
   split at h0
   ·simp at h0
   ·rename_i h3
    rw [if_neg h3]
    split at h0
    ·simp at h0
    ·rename_i h4
     split at h0
     ·simp at h0
     ·rename_i h5
      split at h0
      ·simp at h0
      ·rename_i h6
       split at h0
       ·rename_i h7
        simp [h1,h5,h6,h7]
       ·simp at h0
 ·simp at h0
theorem right_facts {n:Nd} (h:rightS n = true) : FP n∧countN n≤500∧wN n≤4500∧n.kids≠[]∧n.kids.length≤4500 := by
 obtain ⟨fp,hc,_⟩ := progOkS_FP (checkS_0 h).2.1
 have hw := wN_formed n (FP_formed fp)
 have hk := kids_le_w n
 have hne : n.kids≠[] := by cases fp; simp
 exact ⟨fp,hc,by omega,hne,by omega⟩
def ledI (f:Eg→Int) (p:Nat) (k:Nat) : List Eg→List Nat
 | []=>[]
 | e::l=>if f e = p then k::ledI f p (k+1) l else ledI f p (k+1) l
def ledL (f:Eg→Int) (l:List Eg) (p:Nat) : List Nat := ledI f p 0 l
theorem ledI_snoc (f : Eg → Int) (p : Nat) (e : Eg) : ∀ (l : List Eg) (k : Nat), ledI f p k (l ++ [e]) = ledI f p k l ++ (if f e = p then [k + l.length] else [])
  | [], k => by simp [ledI]
  | x :: l, k => by
    simp only [List.cons_append, ledI, List.length_cons]
    rw [ledI_snoc f p e l (k + 1), show k + 1 + l.length = k + (l.length + 1) by omega]
    split <;> simp
theorem ledI_len (f : Eg → Int) (p : Nat) : ∀ (l : List Eg) (k : Nat), (ledI f p k l).length ≤ l.length
  | [], k => by simp [ledI]
  | x :: l, k => by
    simp only [ledI, List.length_cons]
    have := ledI_len f p l (k + 1)
    split <;> simp <;> omega
def tkR (m:Nat) (f:Eg→Int) (l:List Eg) (pts:Nat) : List (List AV) := (List.range pts).map fun p=>[AV.sl (irs (ledL f l p)) (.tok (m+p))]
def tkL (f:Eg→Int) (l:List Eg) (pts:Nat) : List Nat := (List.range pts).map fun p=>(ledL f l p).length
theorem tkR_len (m:Nat) (f:Eg→Int) (l:List Eg) (pts:Nat) : (tkR m f l pts).length = pts := by simp [tkR]
theorem tkL_len (f:Eg→Int) (l:List Eg) (pts:Nat) : (tkL f l pts).length = pts := by simp [tkL]
theorem tkR_get (m:Nat) (f:Eg→Int) (l:List Eg) {pts j:Nat} (h:j < pts) : (tkR m f l pts)[j]? = some [AV.sl (irs (ledL f l j)) (.tok (m+j))] := by simp [tkR,h]
theorem tkL_get (f:Eg→Int) (l:List Eg) {pts j:Nat} (h:j < pts) : (tkL f l pts)[j]? = some (ledL f l j).length := by simp [tkL,h]
theorem led_snoc (f:Eg→Int) {l:List Eg} {i:Nat} {e:Eg} (h:l[i]? = some e) (p:Nat) : ledL f (l.take (i+1)) p = ledL f (l.take i) p++(if f e = p then [i] else []) := by
 have hi := lt_of_get h
 unfold ledL
 rw [List.take_add_one,h]
 simp only [Option.toList_some]
 rw [ledI_snoc,Nat.zero_add,List.length_take,Nat.min_eq_left (by omega)]
theorem tkR_set (m:Nat) (f:Eg→Int) {l:List Eg} {i j pts:Nat} {e:Eg} (h:l[i]? = some e) (hj:f e = j) : (tkR m f (l.take i) pts).set j [AV.sl (irs (ledL f (l.take i) j++[i])) (.tok (m+j))] = tkR m f (l.take (i+1)) pts := by
 apply List.ext_getElem?
 intro k
 rw [List.getElem?_set,tkR_len]
 by_cases hk : j = k
 ·subst hk
  rw [if_pos rfl]
  by_cases hp : j < pts
  ·rw [if_pos hp,tkR_get _ _ _ hp,led_snoc f h,if_pos hj]
  ·rw [if_neg hp,List.getElem?_eq_none (by rw [tkR_len]; omega)]
 ·rw [if_neg hk]
  by_cases hp : k < pts
  ·rw [tkR_get _ _ _ hp,tkR_get _ _ _ hp,led_snoc f h,if_neg (by rw [hj]; omega),List.append_nil]
  ·rw [List.getElem?_eq_none (by rw [tkR_len]; omega),List.getElem?_eq_none (by rw [tkR_len]; omega)]
theorem tkL_set (f:Eg→Int) {l:List Eg} {i j pts:Nat} {e:Eg} (h:l[i]? = some e) (hj:f e = j) : (tkL f (l.take i) pts).set j ((ledL f (l.take i) j).length+1) = tkL f (l.take (i+1)) pts := by
 apply List.ext_getElem?
 intro k
 rw [List.getElem?_set,tkL_len]
 by_cases hk : j = k
 ·subst hk
  rw [if_pos rfl]
  by_cases hp : j < pts
  ·rw [if_pos hp,tkL_get _ _ hp,led_snoc f h,if_pos hj]; simp
  ·rw [if_neg hp,List.getElem?_eq_none (by rw [tkL_len]; omega)]
 ·rw [if_neg hk]
  by_cases hp : k < pts
  ·rw [tkL_get _ _ hp,tkL_get _ _ hp,led_snoc f h,if_neg (by rw [hj]; omega),List.append_nil]
  ·rw [List.getElem?_eq_none (by rw [tkL_len]; omega),List.getElem?_eq_none (by rw [tkL_len]; omega)]
theorem tkR_ok {n M m pts:Nat} (f:Eg→Int) (l:List Eg) (h:m+pts≤M) : RowsOk n M (tkR m f l pts) := fun r hr x hx=>by
 obtain ⟨p,hp,rfl⟩ := List.mem_map.1 hr
 simp at hx; subst hx
 have := List.mem_range.1 hp
 exact .sl _ _ ((inferInstance:OKR n M (irs (ledL f l p))).ok) (fun t ht=>by cases ht; omega)
def ledR (f:Eg→Int) (l:List Eg) (pts:Nat) : List (List AV) := (List.range pts).map fun p=>[.sl (irs (ledL f l p)) .no]
def progC (n:Nd) : List AV :=
 vi (gAll (planL n)).pts::.sl (erows (gEs (planL n))) .no::.sl (strR (declS n 31)) .no::.sl (strR (declS n 32)) .no::.sl (zrs (sizesT n)) .no ::
  .sl (ledR Eg.f (gEs (planL n)) (gAll (planL n)).pts) .no::.sl (ledR Eg.t (gEs (planL n)) (gAll (planL n)).pts) .no::ncells (plainM n)
theorem led_fz {S:St} {m b pts:Nat} (f:Eg→Int) (l:List Eg) (hS:S.boxes[b]? = some (tkR m f l pts)) (hp:pts≤maxN) : Fz S 0 0 (.bsl b pts) (.sl (ledR f l pts) .no) := by
 refine .bsl b pts (tkR m f l pts) (ledR f l pts) (Nat.zero_le _) hS (by rw [tkR_len]; exact Nat.le_refl _) hp (by simp [ledR]) (fun i r r' h1 h2=>?_) (fun i j r r' x y h1 h2 h3 h4=>?_)
 ·have hi := lt_of_get h1
  rw [tkR_len] at hi
  rw [tkR_get _ _ _ hi] at h1
  simp only [ledR,List.getElem?_map,List.getElem?_range hi,Option.map_some] at h2
  cases h1; cases h2; rfl
 ·have hi := lt_of_get h1
  rw [tkR_len] at hi
  rw [tkR_get _ _ _ hi] at h1
  simp only [ledR,List.getElem?_map,List.getElem?_range hi,Option.map_some] at h2
  cases h1; cases h2
  cases j with
  | zero=>simp at h3 h4; subst h3; subst h4; exact Fz_sl (FzR.same ((inferInstance:OKR 0 0 (irs (ledL f l i))).ok))
  | succ j=>simp at h3
set_option maxHeartbeats 2000000 in
theorem q_newProgram (n:Nd) (hn:countN n≤1000000000) (hnum:PrI n) :
  Pure X 57 [nd n] (if rightS n = true then .tup [.cptr (progC n),vb true] else .tup [.val (.pointer none),vb false]) := by
 have hfl : flatTy X.P 63 = some [0,1] := by kernel_rfl
 refine Pure.run Tryz.func57 ?_
 refine AK.pc (q_check n hn hnum) ?_
 refine AK.op (Ndo.eqs (r := !(((checkS n).1 == 0) && (((checkS n).2 == []) && true))) rfl rfl rfl rfl rfl hfl rfl (.inr ⟨rfl,rfl⟩)) ?_
 by_cases hr : rightS n = true
 ·obtain ⟨hC,h1,h2⟩ := checkS_0 hr
  obtain ⟨fp,hc,hw,hne,hkl⟩ := right_facts hr
  rw [if_pos hr]
  have hpv : planV n = plainM n := by unfold planV; rw [hC]; rfl
  rw [hC,hpv]
  refine AK.no ?_
  obtain ⟨ds,hpl,_,hps,hwl⟩ := FP_plan fp
  have hpw := (plain_w n).1
  have hkp := kids_le_w (plainM n)
  have hgr : Pure X 82 [nd (plainM n)] (.agg [vi (gAll (planL n)).pts,.sl (erows (gEs (planL n))) .no]) := j_graphOf (plainM n) (by rw [hpl]; simp) hps (show wL (planL n)≤_ by omega) (by omega)
  refine AK.db 1024 ?_
  refine Drv.pg hgr ?_
  refine Drv.pg (q_namesOf n 31 hne (by omega)) ?_
  refine Drv.pg (q_namesOf n 32 hne (by omega)) ?_
  refine Drv.pg (q_sizesOf n hne (by omega)) ?_
  refine Drv.w (Ndo.mem rfl rfl rfl) ?_
  refine Drv.e ?_
  refine Drv.z ?_
  have hps2 := PSL_le hps nd0 ⟨1,0,[],[],[],0⟩ (by decide)
  have hpts : (gAll (planL n)).pts≤2000000∧(gEs (planL n)).length≤2000000∧∀ e,e∈gEs (planL n)→(0≤e.f∧e.f < (gAll (planL n)).pts)∧0≤e.t∧e.t < (gAll (planL n)).pts := by
   have hl := leaf_le 6 nd0 hps2.pt
   have hA := hps2.trans hl (Nat.le_refl _)
   obtain ⟨es,e1,e2,e3⟩ := hA.es
   have hpp := hA.pts
   simp only [bG] at e2 hpp
   have hes : (gAll (planL n)).es = es := by unfold gAll; rw [e1]; rfl
   have hpt : (gAll (planL n)).pt < (gAll (planL n)).pts := hA.pt
   refine ⟨by show _≤_; unfold gAll; have : (1:Nat) = (⟨1,0,[],[],[],0⟩ : Gr).pts := rfl; omega,by unfold gEs; rw [hes,List.length_map]; omega,fun e he=>?_⟩
   unfold gEs at he
   rw [hes] at he
   obtain ⟨e0,h0,rfl⟩ := List.mem_map.1 he
   obtain ⟨q1,q2⟩ := e3 e0 h0
   have q1' : 0≤e0.f∧e0.f < (gAll (planL n)).pts := q1
   have q2' : e0.t = -1∨(0≤e0.t∧e0.t < (gAll (planL n)).pts) := q2
   unfold toExit
   split
   ·exact ⟨q1',by simp; omega⟩
   ·exact ⟨q1',by omega⟩
  obtain ⟨hp1,hp2,hp3⟩ := hpts
  unfold progC
  generalize gEs (planL n) = es at *
  generalize (gAll (planL n)).pts = pts at *
  let prow (x y:AV) : List AV := vi pts::.sl (erows es) .no::.sl (strR (declS n 31)) .no::.sl (strR (declS n 32)) .no::.sl (zrs (sizesT n)) .no::x::y::ncells (plainM n)
  let bxs (x y:AV) : List (List (List AV)) := [[ncells n],[ncells (plainM n)],[[vi 0,str []]],[prow x y],List.replicate pts [.sl [] .tight],List.replicate pts [.sl [] .tight]]
  have L6 : AK X ⟨57,Tryz.f57,0,0⟩ (locG false 6 Tryz.f57) [(6,.ptr 3 0 0)] ⟨bxs (.bsl 4 pts) (.bsl 5 pts),[]⟩
    (fun e S=>e = .ret (.tup [.cptr (vi pts::.sl (erows es) .no::.sl (strR (declS n 31)) .no::.sl (strR (declS n 32)) .no::.sl (zrs (sizesT n)) .no::.sl (ledR Eg.f es pts) .no::.sl (ledR Eg.t es pts) .no::ncells (plainM n)),vb true])∧S = ⟨[],[]⟩) := by
   refine AK.at_ ?_
   refine AK.mintAll (bx := [[ncells n],[ncells (plainM n)],[[vi 0,str []]],[prow (.bsl 4 pts) (.bsl 5 pts)],tkR 0 Eg.f [] pts,List.replicate pts [.sl [] .tight]]) (tk := List.replicate pts 0) 4 pts 0 rfl rfl rfl rfl ?_
   refine AK.mintAll (bx := [[ncells n],[ncells (plainM n)],[[vi 0,str []]],[prow (.bsl 4 pts) (.bsl 5 pts)],tkR 0 Eg.f [] pts,tkR pts Eg.t [] pts]) (tk := List.replicate pts 0++List.replicate pts 0) 5 pts pts rfl (by simp) rfl rfl ?_
   refine AK.sto ⟨[[ncells n],[ncells (plainM n)],[[vi 0,str []]],[prow (.bsl 4 pts) (.bsl 5 pts)],tkR 0 Eg.f (es.take 0) pts,tkR pts Eg.t (es.take 0) pts],tkL Eg.f (es.take 0) pts++tkL Eg.t (es.take 0) pts⟩ ?_ (by
    have : ∀ f : Eg→Int,tkL f (es.take 0) pts = List.replicate pts 0 := fun f=>List.eq_replicate_iff.2 ⟨tkL_len f _ pts,fun b hb=>by obtain ⟨p,_,rfl⟩ := List.mem_map.1 hb; rfl⟩
    rw [this,this]; rfl)
   refine AK.ev 100 rfl ?_
   refine AK.while_ (ι := Nat) 6 (pts+pts) (fun i=>i≤es.length) (fun i=>[(52,vi i),(51,vi es.length),(50,.sl (erows es) .no),(6,.ptr 3 0 0)])
    (fun i=>⟨[[ncells n],[ncells (plainM n)],[[vi 0,str []]],[prow (.bsl 4 pts) (.bsl 5 pts)],tkR 0 Eg.f (es.take i) pts,tkR pts Eg.t (es.take i) pts],tkL Eg.f (es.take i) pts++tkL Eg.t (es.take i) pts⟩) (fun i=>es.length - i) ?_ 0
    (Nat.zero_le _) ⟨rfl,by rw [← erows_len es]; rfl,rfl,rfl,trivial⟩ ?_ rfl (by simp) rfl ?_ (fun _=>inferInstance) (fun i=>⟨?_⟩)
   ·intro i hi IH
    refine AK.ev 100 rfl ?_
    refine AK.if_ (fun h=>?_) (fun h=>?_)
    ·have hlt : i < es.length := by have := of_decide_eq_true h; omega
     obtain ⟨⟨ef,et,ek,ey,en⟩,he⟩ := lget_of_lt es hlt
     obtain ⟨⟨q1,q2⟩,q3,q4⟩ := hp3 _ (List.mem_of_getElem? he)
     simp only at q1 q2 q3 q4
     obtain ⟨j,rfl⟩ := Int.eq_ofNat_of_zero_le q1
     obtain ⟨j',rfl⟩ := Int.eq_ofNat_of_zero_le q3
     have hj : j < pts := by omega
     have hj' : j' < pts := by omega
     refine AK.ix i (by omega) (erows_get he) ?_
     refine AK.db 327680 ?_
     refine Drv.lo (Ndo.atB (j := j) rfl rfl rfl rfl rfl rfl rfl rfl (by simpa [Nat.blt_eq] using hj) rfl (tkR_get 0 Eg.f _ hj) rfl) ?_
     refine Drv.lo (Ndo.loadB rfl (tkR_get 0 Eg.f _ hj) rfl rfl rfl rfl rfl rfl rfl) ?_
     refine Drv.go ?_
     have hlf := ledI_len Eg.f j (es.take i) 0
     have hlt' := ledI_len Eg.t j' (es.take i) 0
     have htk : (es.take i).length = i := by simp; omega
     have hlF : (tkL Eg.f (es.take i) pts).length = pts := tkL_len _ _ _
     have hkF : (tkL Eg.f (es.take i) pts++tkL Eg.t (es.take i) pts)[0+j]? = some (ledL Eg.f (es.take i) j).length := by
      rw [Nat.zero_add,List.getElem?_append_left (by omega)]; exact tkL_get _ _ hj
     refine Drv.wl (S' := ⟨[[ncells n],[ncells (plainM n)],[[vi 0,str []]],[prow (.bsl 4 pts) (.bsl 5 pts)],tkR 0 Eg.f (es.take i) pts,tkR pts Eg.t (es.take i) pts,[erow ⟨j,j',ek,ey,en⟩]],tkL Eg.f (es.take (i+1)) pts++tkL Eg.t (es.take i) pts⟩)
      (Ndo.append (res := irs (ledL Eg.f (es.take i) j++[i])) rfl rfl rfl rfl rfl rfl rfl rfl rfl rfl rfl rfl rfl hkF (irs_len _) (irs_al _) rfl rfl rfl ?_ (irs_snoc _ i) ?_) ?_ ?_
     ·rw [irs_len]; unfold ledL; show _+1≤_; omega
     ·show (tkL Eg.f (es.take i) pts++tkL Eg.t (es.take i) pts).set (0+j) ((irs (ledL Eg.f (es.take i) j)).length+1) = _
      rw [Nat.zero_add,irs_len,List.set_append_left _ _ (by omega),tkL_set Eg.f he rfl]
     ·refine strip_eq (Ndo.loadB rfl (tkR_get 0 Eg.f _ hj) rfl rfl rfl rfl rfl rfl rfl) (strip_eq (Ndo.atB (j := j) rfl rfl rfl rfl rfl rfl rfl rfl (by simpa [Nat.blt_eq] using hj) rfl (tkR_get 0 Eg.f _ hj) rfl) ?_)
      exact strip_eq (Ndo.ev rfl rfl rfl) (strip_eq (Ndo.ev rfl rfl rfl) (strip_eq (Ndo.ev rfl rfl rfl) (strip_eq (Ndo.ev rfl rfl rfl) allN)))
     refine Drv.look (strip_eq (Ndo.atB (j := j) rfl rfl rfl rfl rfl rfl rfl rfl (by simpa [Nat.blt_eq] using hj) rfl (tkR_get 0 Eg.f _ hj) rfl) (strip_eq (Ndo.atB (j := j) rfl rfl rfl rfl rfl rfl rfl rfl (by simpa [Nat.blt_eq] using hj) rfl (tkR_get 0 Eg.f _ hj) rfl) allN)) rfl ?_
     refine Drv.w (Ndo.store rfl rfl rfl rfl rfl rfl (storeA_row rfl (tkR_get 0 Eg.f _ hj) rfl rfl rfl)) ?_
     refine Drv.z ?_
     refine AK.sto ⟨[[ncells n],[ncells (plainM n)],[[vi 0,str []]],[prow (.bsl 4 pts) (.bsl 5 pts)],tkR 0 Eg.f (es.take (i+1)) pts,tkR pts Eg.t (es.take i) pts,[erow ⟨j,j',ek,ey,en⟩]],tkL Eg.f (es.take (i+1)) pts++tkL Eg.t (es.take i) pts⟩ ?_ (by
      rw [← tkR_set 0 Eg.f he rfl]; rfl)
     refine AK.db 327680 ?_
     refine Drv.lo (Ndo.atB (j := j') rfl rfl rfl rfl rfl rfl rfl rfl (by simpa [Nat.blt_eq] using hj') rfl (tkR_get pts Eg.t _ hj') rfl) ?_
     refine Drv.lo (Ndo.loadB rfl (tkR_get pts Eg.t _ hj') rfl rfl rfl rfl rfl rfl rfl) ?_
     refine Drv.go ?_
     have hkT : (tkL Eg.f (es.take (i+1)) pts++tkL Eg.t (es.take i) pts)[pts+j']? = some (ledL Eg.t (es.take i) j').length := by
      rw [List.getElem?_append_right (by rw [tkL_len]; omega),tkL_len,Nat.add_sub_cancel_left]; exact tkL_get _ _ hj'
     refine Drv.wl (S' := ⟨[[ncells n],[ncells (plainM n)],[[vi 0,str []]],[prow (.bsl 4 pts) (.bsl 5 pts)],tkR 0 Eg.f (es.take (i+1)) pts,tkR pts Eg.t (es.take i) pts,[erow ⟨j,j',ek,ey,en⟩]],tkL Eg.f (es.take (i+1)) pts++tkL Eg.t (es.take (i+1)) pts⟩)
      (Ndo.append (res := irs (ledL Eg.t (es.take i) j'++[i])) rfl rfl rfl rfl rfl rfl rfl rfl rfl rfl rfl rfl rfl hkT (irs_len _) (irs_al _) rfl rfl rfl ?_ (irs_snoc _ i) ?_) ?_ ?_
     ·rw [irs_len]; unfold ledL; show _+1≤_; omega
     ·show (tkL Eg.f (es.take (i+1)) pts++tkL Eg.t (es.take i) pts).set (pts+j') ((irs (ledL Eg.t (es.take i) j')).length+1) = _
      rw [irs_len,List.set_append_right _ _ (by rw [tkL_len]; omega),tkL_len,Nat.add_sub_cancel_left,tkL_set Eg.t he rfl]
     ·refine strip_eq (Ndo.loadB rfl (tkR_get pts Eg.t _ hj') rfl rfl rfl rfl rfl rfl rfl) (strip_eq (Ndo.atB (j := j') rfl rfl rfl rfl rfl rfl rfl rfl (by simpa [Nat.blt_eq] using hj') rfl (tkR_get pts Eg.t _ hj') rfl) ?_)
      exact strip_eq (Ndo.ev rfl rfl rfl) (strip_eq (Ndo.ev rfl rfl rfl) (strip_eq (Ndo.ev rfl rfl rfl) (strip_eq (Ndo.ev rfl rfl rfl) allN)))
     refine Drv.look (strip_eq (Ndo.atB (j := j') rfl rfl rfl rfl rfl rfl rfl rfl (by simpa [Nat.blt_eq] using hj') rfl (tkR_get pts Eg.t _ hj') rfl) (strip_eq (Ndo.atB (j := j') rfl rfl rfl rfl rfl rfl rfl rfl (by simpa [Nat.blt_eq] using hj') rfl (tkR_get pts Eg.t _ hj') rfl) allN)) rfl ?_
     refine Drv.w (Ndo.store rfl rfl rfl rfl rfl rfl (storeA_row rfl (tkR_get pts Eg.t _ hj') rfl rfl rfl)) ?_
     refine Drv.z ?_
     refine AK.sto ⟨[[ncells n],[ncells (plainM n)],[[vi 0,str []]],[prow (.bsl 4 pts) (.bsl 5 pts)],tkR 0 Eg.f (es.take (i+1)) pts,tkR pts Eg.t (es.take (i+1)) pts,[erow ⟨j,j',ek,ey,en⟩]],tkL Eg.f (es.take (i+1)) pts++tkL Eg.t (es.take (i+1)) pts⟩ ?_ (by
      rw [← tkR_set pts Eg.t he rfl]; rfl)
     refine IH (i+1) hlt (by omega) _ _ ⟨vint ((wrap_small (by omega) (by omega)).trans (by omega)),rfl,rfl,rfl,trivial⟩ ?_ rfl ?_
     ·exact congrArg (St.mk _) (List.take_of_length_le (by simp [tkL_len]))
     ·show Nat.ble (pts+pts) (tkL Eg.f (es.take (i+1)) pts++tkL Eg.t (es.take (i+1)) pts).length = true
      simp [tkL_len]
    ·have : i = es.length := by have := of_decide_eq_false h; omega
     subst this
     rw [List.take_length]
     have f1 := led_fz (S := ⟨[[ncells n],[ncells (plainM n)],[[vi 0,str []]],[prow (.bsl 4 pts) (.bsl 5 pts)],tkR 0 Eg.f es pts,tkR pts Eg.t es pts],tkL Eg.f es pts++tkL Eg.t es pts⟩) (b := 4) (m := 0) (pts := pts) Eg.f es rfl (by unfold maxN; omega)
     have f2 := led_fz (S := ⟨[[ncells n],[ncells (plainM n)],[[vi 0,str []]],[prow (.bsl 4 pts) (.bsl 5 pts)],tkR 0 Eg.f es pts,tkR pts Eg.t es pts],tkL Eg.f es pts++tkL Eg.t es pts⟩) (b := 5) (m := pts) (pts := pts) Eg.t es rfl (by unfold maxN; omega)
     haveI i1 : FzC ⟨[[ncells n],[ncells (plainM n)],[[vi 0,str []]],[prow (.bsl 4 pts) (.bsl 5 pts)],tkR 0 Eg.f es pts,tkR pts Eg.t es pts],tkL Eg.f es pts++tkL Eg.t es pts⟩ 0 0 (.bsl 4 pts) (.sl (ledR Eg.f es pts) .no) := ⟨f1⟩
     haveI i2 : FzC ⟨[[ncells n],[ncells (plainM n)],[[vi 0,str []]],[prow (.bsl 4 pts) (.bsl 5 pts)],tkR 0 Eg.f es pts,tkR pts Eg.t es pts],tkL Eg.f es pts++tkL Eg.t es pts⟩ 0 0 (.bsl 5 pts) (.sl (ledR Eg.t es pts) .no) := ⟨f2⟩
     exact AK.rz Tryz.func57 rfl
   ·exact congrArg (St.mk _) (List.take_of_length_le (by simp [tkL_len]))
   ·show Nat.ble (pts+pts) (tkL Eg.f (es.take 0) pts++tkL Eg.t (es.take 0) pts).length = true
    simp [tkL_len]
   ·intro rows hrows
    simp only [List.mem_cons,List.not_mem_nil,or_false] at hrows
    rcases hrows with rfl | rfl | rfl | rfl | rfl | rfl
    ·exact (inferInstance:OKR 6 (pts+pts) [ncells n]).ok
    ·exact (inferInstance:OKR 6 (pts+pts) [ncells (plainM n)]).ok
    ·exact (inferInstance:OKR 6 (pts+pts) [[vi 0,str []]]).ok
    ·exact (inferInstance:OKR 6 (pts+pts) [vi pts::.sl (erows es) .no::.sl (strR (declS n 31)) .no::.sl (strR (declS n 32)) .no::.sl (zrs (sizesT n)) .no::.bsl 4 pts::.bsl 5 pts::ncells (plainM n)]).ok
    ·exact tkR_ok Eg.f _ (by omega)
    ·exact tkR_ok Eg.t _ (by omega)
  refine AK.sto ⟨[[ncells n],[ncells (plainM n)],[[vi 0,str []]],[prow (.sl [] .tight) (.sl [] .tight)]],[]⟩ ?_
  refine AK.as_ 6 (.ptr 3 0 0) ?_
  refine AK.ways fun l hord=>?_
  rcases AB_or (show 7≠13 by decide) l (fun _=>false) with h1 | h1
  ·rcases AB_or (show 13≠16 by decide) l (fun _=>false) with h2 | h2
   ·refine Way.mk [0,1,2,3,4,5,6,8,9,10,11,12,7,13,14,15,16,17,18,19] [(7,13),(13,16)] 598144 ?_ rfl ?_
    ·intro ab hab
     simp only [List.mem_cons,List.not_mem_nil,or_false] at hab
     rcases hab with rfl | rfl
     ·exact h1
     ·exact h2
    refine DrvP.go 12 ?_
    refine DrvP.w (Ndo.mkS (n := pts) (b := 4) (by omega) rfl rfl rfl rfl rfl rfl rfl rfl rfl rfl) ?_ ?_
    ·exact strip_eq (Ndo.ev rfl rfl rfl) (strip_eq (Ndo.ev rfl rfl rfl) allN)
    refine DrvP.w0 (Ndo.mkS (n := pts) (b := 5) (by omega) rfl rfl rfl rfl rfl rfl rfl rfl rfl rfl) ?_
    refine DrvP.e ?_
    refine DrvP.e ?_
    refine DrvP.w0 (Ndo.store rfl rfl rfl rfl rfl rfl rfl) ?_
    refine DrvP.e ?_
    refine DrvP.e ?_
    refine DrvP.w0 (Ndo.store rfl rfl rfl rfl rfl rfl rfl) ?_
    refine DrvP.zj 6 ?_
    refine AK.sto ⟨bxs (.bsl 4 pts) (.bsl 5 pts),[]⟩ ?_
    refine AK.sub (G := [(6,.ptr 3 0 0)]) ⟨rfl,trivial⟩ ?_
    exact L6
   ·refine Way.mk [0,1,2,3,4,5,6,8,9,10,11,12,7,14,15,16,13,17,18,19] [(7,13),(16,13)] 598144 ?_ rfl ?_
    ·intro ab hab
     simp only [List.mem_cons,List.not_mem_nil,or_false] at hab
     rcases hab with rfl | rfl
     ·exact h1
     ·exact h2
    refine DrvP.go 12 ?_
    refine DrvP.w (Ndo.mkS (n := pts) (b := 4) (by omega) rfl rfl rfl rfl rfl rfl rfl rfl rfl rfl) ?_ ?_
    ·exact strip_eq (Ndo.ev rfl rfl rfl) (strip_eq (Ndo.ev rfl rfl rfl) allN)
    refine DrvP.e ?_
    refine DrvP.e ?_
    refine DrvP.w0 (Ndo.store rfl rfl rfl rfl rfl rfl rfl) ?_
    refine DrvP.w0 (Ndo.mkS (n := pts) (b := 5) (by omega) rfl rfl rfl rfl rfl rfl rfl rfl rfl rfl) ?_
    refine DrvP.e ?_
    refine DrvP.e ?_
    refine DrvP.w0 (Ndo.store rfl rfl rfl rfl rfl rfl rfl) ?_
    refine DrvP.zj 6 ?_
    refine AK.sto ⟨bxs (.bsl 4 pts) (.bsl 5 pts),[]⟩ ?_
    refine AK.sub (G := [(6,.ptr 3 0 0)]) ⟨rfl,trivial⟩ ?_
    exact L6
  ·have h2 : AB 13 16 l (fun _=>false) := AB_of (b := 7) (by decide) (by kernel_rfl) l _ hord h1 (fun h=>by cases h)
   refine Way.mk [0,1,2,3,4,5,6,8,9,10,11,12,13,7,14,15,16,17,18,19] [(13,7),(13,16)] 598144 ?_ rfl ?_
   ·intro ab hab
    simp only [List.mem_cons,List.not_mem_nil,or_false] at hab
    rcases hab with rfl | rfl
    ·exact h1
    ·exact h2
   refine DrvP.go 12 ?_
   refine DrvP.w (Ndo.mkS (n := pts) (b := 4) (by omega) rfl rfl rfl rfl rfl rfl rfl rfl rfl rfl) ?_ ?_
   ·exact strip_eq (Ndo.ev rfl rfl rfl) (strip_eq (Ndo.ev rfl rfl rfl) allN)
   refine DrvP.w0 (Ndo.mkS (n := pts) (b := 5) (by omega) rfl rfl rfl rfl rfl rfl rfl rfl rfl rfl) ?_
   refine DrvP.e ?_
   refine DrvP.e ?_
   refine DrvP.w0 (Ndo.store rfl rfl rfl rfl rfl rfl rfl) ?_
   refine DrvP.e ?_
   refine DrvP.e ?_
   refine DrvP.w0 (Ndo.store rfl rfl rfl rfl rfl rfl rfl) ?_
   refine DrvP.zj 6 ?_
   refine AK.sto ⟨bxs (.bsl 5 pts) (.bsl 4 pts),[]⟩ ?_
   refine AK.perm (G := [(6,.ptr 3 0 0)]) (bx3 := [[ncells n],[ncells (plainM n)],[[vi 0,str []]],[vi pts::.sl (erows es) .no::.sl (strR (declS n 31)) .no::.sl (strR (declS n 32)) .no::.sl (zrs (sizesT n)) .no::.bsl 5 pts::.bsl 4 pts::ncells (plainM n)],List.replicate pts [.sl [] .tight],List.replicate pts [.sl [] .tight]]) (bx2 := [[ncells n],[ncells (plainM n)],[[vi 0,str []]],[vi pts::.sl (erows es) .no::.sl (strR (declS n 31)) .no::.sl (strR (declS n 32)) .no::.sl (zrs (sizesT n)) .no::.bsl 4 pts::.bsl 5 pts::ncells (plainM n)],List.replicate pts [.sl [] .tight],List.replicate pts [.sl [] .tight]]) [0,1,2,3,5,4] ?_ (.cons rfl inferInstance .nil) rfl rfl rfl rfl rfl
   exact L6
 ·rw [if_neg hr]
  have h0 : ((checkS n).1 == 0) = false := by unfold rightS at hr; simpa using hr
  refine AK.yes ?_ (ht := by rw [h0]; rfl)
  exact AK.rz Tryz.func57 rfl
instance {n m:Nat} {f:Eg→Int} {l:List Eg} {pts:Nat} : OKR n m (ledR f l pts) := ⟨fun r hr x hx=>by
 obtain ⟨p,_,rfl⟩ := List.mem_map.1 hr
 simp at hx; subst hx
 exact (inferInstance:OK n m (.sl (irs (ledL f l p)) .no)).ok⟩
instance {n m:Nat} {x:Nd} : OKL n m (progC x) := ⟨(inferInstance:OKL n m (vi (gAll (planL x)).pts::.sl (erows (gEs (planL x))) .no::.sl (strR (declS x 31)) .no::.sl (strR (declS x 32)) .no::.sl (zrs (sizesT x)) .no ::
  .sl (ledR Eg.f (gEs (planL x)) (gAll (planL x)).pts) .no::.sl (ledR Eg.t (gEs (planL x)) (gAll (planL x)).pts) .no::ncells (plainM x))).ok⟩
theorem declS_le (n:Nd) (k:Int) : (declS n k).length≤n.kids.length := by rw [declS_K,List.length_map]; exact declK_le n k
section
variable (n:Nd) (hl:n.kids.length≤100000)
theorem q_variable (s:List UInt8) (hl:n.kids.length≤100000) : Pure X 111 [.cptr (progC n),str s] (vi (idxS 0 (declS n 31) s)) := by
 have := declS_le n 31
 refine Pure.run Tryz.func111 ?_
 refine AK.pc (q_index (declS n 31) s (by omega)) ?_
 exact AK.rz Tryz.func111 rfl
theorem q_array (s:List UInt8) (hl:n.kids.length≤100000) : Pure X 66 [.cptr (progC n),str s] (vi (idxS 0 (declS n 32) s)) := by
 have := declS_le n 32
 refine Pure.run Tryz.func66 ?_
 refine AK.pc (q_index (declS n 32) s (by omega)) ?_
 exact AK.rz Tryz.func66 rfl
end
def vSym (n:Nd) (s:List UInt8) : Int := IntKind.i64.wrap (1+idxS 0 (declS n 31) s)
def lSym (n:Nd) (s:List UInt8) : Int := IntKind.i64.wrap (IntKind.i64.wrap (1+(declS n 31).length)+idxS 0 (declS n 32) s)
def sSym (n:Nd) : Int := IntKind.i64.wrap (IntKind.i64.wrap (1+(declS n 31).length)+(declS n 32).length)
theorem q_varSym (n:Nd) (s:List UInt8) (hl:n.kids.length≤100000) : Pure X 114 [.cptr (progC n),str s] (vi (vSym n s)) := by
 refine Pure.run Tryz.func114 ?_
 refine AK.pc (q_variable n s hl) ?_
 exact AK.rz Tryz.func114 rfl
theorem q_lenSym (n:Nd) (k:Int) : Pure X 115 [.cptr (progC n),vi k] (vi (IntKind.i64.wrap (IntKind.i64.wrap (1+(declS n 31).length)+k))) := by
 refine Pure.run Tryz.func115 ?_
 refine AK.rz Tryz.func115 ?_
 rw [← strR_len (declS n 31)]
theorem q_size (n:Nd) : Pure X 117 [.cptr (progC n)] (vi (sSym n)) := by
 refine Pure.run Tryz.func117 ?_
 refine AK.dr ?_
 refine AK.rz Tryz.func117 ?_
 unfold sSym
 rw [← strR_len (declS n 31),← strR_len (declS n 32)]
def symOkS (size v c:Int) : Bool := between size 1 13 && between v 0 (size - 1) && between c (-1000) 1000
theorem q_symOk (size v c:Int) (h0:-1000000≤size) (h1:size≤1000000) : Pure X 116 [vi size,.agg [vi v,vi c]] (vb (symOkS size v c)) := by
 refine Pure.run Tryz.func116 ?_
 refine AK.pc (q_inRange size 1 13) ?_
 refine AK.gd (fun g1=>?_) (fun g1=>?_)
 ·have g1' : between size 1 13 = true := g1
  refine AK.pc (q_isPlace v size (by omega) (by omega)) ?_
  refine AK.gd (fun g2=>?_) (fun g2=>?_)
  ·have g2' : between v 0 (size - 1) = true := by have : (true && between v 0 (size - 1)) = true := g2; simpa using this
   refine AK.pc (q_inRange c (-1000) 1000) ?_
   refine AK.rz Tryz.func116 ?_
   simp [symOkS,g1',g2']
  ·have g2' : between v 0 (size - 1) = false := by have : (true && between v 0 (size - 1)) = false := g2; simpa using this
   refine AK.rz Tryz.func116 ?_
   simp [symOkS,g1',g2']
 ·have g1' : between size 1 13 = false := g1
  refine AK.gn ?_
  refine AK.rz Tryz.func116 ?_
  simp [symOkS,g1']
theorem p_symOk (size v c:Int) (h0:-1000000≤size) (h1:size≤1000000) : Pure X 104 [vi size,.agg [vi v,vi c]] (vb (symOkS size v c)) := by
 have hw : IntKind.i64.wrap (size - 1) = size - 1 := wrap_small (by omega) (by omega)
 refine Pure.run Tryz.func104 ?_
 refine AK.pc (p_between size 1 13) ?_
 refine AK.gd (fun g1=>?_) (fun g1=>?_)
 ·have g1' : between size 1 13 = true := g1
  have hb := p_between v 0 (IntKind.i64.wrap (size - 1))
  rw [hw] at hb
  refine AK.pc (p_between v 0 (IntKind.i64.wrap (size - 1))) ?_
  rw [hw]
  refine AK.gd (fun g2=>?_) (fun g2=>?_)
  ·have g2' : between v 0 (size - 1) = true := by have : (true && between v 0 (size - 1)) = true := g2; simpa using this
   refine AK.pc (p_between c (-1000) 1000) ?_
   refine AK.rz Tryz.func104 ?_
   simp [symOkS,g1',g2']
  ·have g2' : between v 0 (size - 1) = false := by have : (true && between v 0 (size - 1)) = false := g2; simpa using this
   refine AK.rz Tryz.func104 ?_
   simp [symOkS,g1',g2']
 ·have g1' : between size 1 13 = false := g1
  refine AK.gn ?_
  refine AK.rz Tryz.func104 ?_
  simp [symOkS,g1']
def takeC (n:Nd) : List AV := [.sl (strR (declS n 31)) .no,.sl (strR (declS n 32)) .no,.sl (zrs (sizesT n)) .no,vi (gAll (planL n)).pts,.sl (erows (gEs (planL n))) .no]
instance {n m:Nat} {x:Nd} : OKL n m (takeC x) := ⟨(inferInstance:OKL n m [.sl (strR (declS x 31)) .no,.sl (strR (declS x 32)) .no,.sl (zrs (sizesT x)) .no,vi (gAll (planL x)).pts,.sl (erows (gEs (planL x))) .no]).ok⟩
theorem p_take (n:Nd) (hr:rightS n = true) : Pure X 53 [nd n] (.agg (takeC n)) := by
 obtain ⟨fp,_,hw,_,_⟩ := right_facts hr
 refine Pure.run Tryz.func53 ?_
 refine AK.db 512 ?_
 refine Drv.pg (p_declared n 31 (by omega)) ?_
 refine Drv.pg (p_declared n 32 (by omega)) ?_
 refine Drv.pg (p_sizes n (by omega)) ?_
 refine Drv.pg (g_graph n fp (by omega)) ?_
 refine Drv.w (Ndo.store rfl rfl rfl rfl rfl rfl rfl) ?_
 refine Drv.z ?_
 exact AK.rz Tryz.func53 rfl
theorem p_length (n:Nd) (k:Int) : Pure X 103 [.agg (takeC n),vi k] (vi (IntKind.i64.wrap (IntKind.i64.wrap (1+(declS n 31).length)+k))) := by
 refine Pure.run Tryz.func103 ?_
 refine AK.rz Tryz.func103 ?_
 rw [← strR_len (declS n 31)]
theorem p_size (n:Nd) : Pure X 105 [.agg (takeC n)] (vi (sSym n)) := by
 refine Pure.run Tryz.func105 ?_
 refine AK.rz Tryz.func105 ?_
 unfold sSym
 rw [← strR_len (declS n 31),← strR_len (declS n 32)]
def finS (n:Nd) (v c:Int) : Option (Int × Int) := if symOkS (sSym n) v c = true then some (v,c) else none
def symR (o:Option (Int × Int)) : AV :=
 match o with
 | some (v,c)=>.tup [.agg [vi v,vi c],vb true]
 | none=>.tup [.agg [vi 0,vi 0],vb false]
def symK (n : Nd) (k : Int) (s : List UInt8) (m : Int) (rs : List (Option (Int × Int))) : Option (Int × Int) :=
  if k = 1 then finS n 0 m else if k = 2 then finS n (vSym n s) 0 else if k = 4 then finS n (lSym n s) 0
  else if k = 5 then match rs with
    | [some a] => if a.1 = 0 then finS n 0 (IntKind.i64.wrap (-a.2)) else none
    | _ => none
  else match rs with
    | [some a, some b] =>
      if k = 6 then (if a.1 = 0 ∨ b.1 = 0 then finS n (IntKind.i64.wrap (a.1 + b.1)) (IntKind.i64.wrap (a.2 + b.2)) else none)
      else if k = 7 then (if b.1 = 0 then finS n a.1 (IntKind.i64.wrap (a.2 - b.2)) else if a.1 = b.1 then finS n 0 (IntKind.i64.wrap (a.2 - b.2)) else none)
      else if k = 8 then (if a.1 = 0 ∧ b.1 = 0 then finS n 0 (IntKind.i64.wrap (a.2 * b.2)) else none)
      else none
    | _ => none
mutual
def symM (n:Nd) : Nd→Option (Int × Int)
 | .mk k s m ks=>symK n k s m (symL n ks)
def symL (n:Nd) : List Nd→List (Option (Int × Int))
 | []=>[]
 | x::l=>symM n x::symL n l
end
theorem symM_mk (n:Nd) (k:Int) (s:List UInt8) (m:Int) (ks:List Nd) : symM n (.mk k s m ks) = symK n k s m (symL n ks) := by rw [symM]
theorem symL1 (n a:Nd) : symL n [a] = [symM n a] := by rw [symL,symL]
theorem symL2 (n a b:Nd) : symL n [a,b] = [symM n a,symM n b] := by rw [symL,symL,symL]
abbrev SP (n e:Nd) (v c:Int) : St := ⟨[[takeC n],[ncells e],[[vi 0,vi 0]],[[vi v,vi c]]],[]⟩
abbrev FP' : Frm := [(2,.ptr 0 0 0),(3,.ptr 1 0 0),(4,.ptr 2 0 0),(6,.ptr 3 0 0)]
theorem sSym_small {n:Nd} (hl:n.kids.length≤4500) : 0≤sSym n∧sSym n≤100000 := by
 have h1 := declS_le n 31
 have h2 := declS_le n 32
 unfold sSym
 rw [wrap_small (n := 1+((declS n 31).length : Int)) (by omega) (by omega),wrap_small (by omega) (by omega)]
 omega
theorem s_fin (n e:Nd) (hl:n.kids.length≤4500) (v c:Int) : AK X ⟨55,Tryz.f55,0,0⟩ (locG false 31 Tryz.f55) FP' (SP n e v c) (fun r S=>r = .ret (symR (finS n v c))∧S = ⟨[],[]⟩) := by
 obtain ⟨h0,h1⟩ := sSym_small hl
 refine AK.at_ ?_
 refine AK.db 0 ?_
 refine Drv.pg (p_size n) ?_
 refine Drv.pg (p_symOk (sSym n) v c (by omega) (by omega)) ?_
 refine Drv.z ?_
 refine AK.if_ (fun g=>?_) (fun g=>?_)
 ·have g' : symOkS (sSym n) v c = false := by have : (!symOkS (sSym n) v c) = true := g; simpa using this
  refine AK.rz Tryz.func55 ?_
  unfold finS; rw [if_neg (by simp [g'])]; rfl
 ·have g' : symOkS (sSym n) v c = true := by have : (!symOkS (sSym n) v c) = false := g; simpa using this
  refine AK.rz Tryz.func55 ?_
  unfold finS; rw [if_pos g']; rfl
def pvO (o:Option (Int × Int)) : Int × Int := o.getD (0,0)
theorem symR_eq (o:Option (Int × Int)) : symR o = .tup [.agg [vi (pvO o).1,vi (pvO o).2],vb o.isSome] := by
 cases o with
 | none=>rfl
 | some q=>rfl
abbrev S20 (n e:Nd) (o q:Option (Int × Int)) : St := ⟨[[takeC n],[ncells e],[[vi 0,vi 0]],[[vi 0,vi 0]],[[vi (pvO o).1,vi (pvO o).2]],[[vi (pvO q).1,vi (pvO q).2]]],[]⟩
abbrev F20 (o q:Option (Int × Int)) : Frm := [(2,.ptr 0 0 0),(3,.ptr 1 0 0),(4,.ptr 2 0 0),(6,.ptr 3 0 0),(9,.ptr 4 0 0),(10,vb o.isSome),(11,.ptr 5 0 0),(12,vb q.isSome)]
theorem s_two6 (n a b:Nd) (hl:n.kids.length≤4500) (v c v' c':Int) :
  AK X ⟨55,Tryz.f55,0,0⟩ (locG false 23 Tryz.f55) (F20 (some (v,c)) (some (v',c'))) (S20 n (.mk 6 [] 0 [a,b]) (some (v,c)) (some (v',c'))) (fun r S=>r = .ret (symR (symK n 6 [] 0 [some (v,c),some (v',c')]))∧S = ⟨[],[]⟩) := by
 refine AK.at_ ?_
 refine AK.ev 100 rfl ?_
 refine AK.gy ?_
 refine AK.gd (fun g=>?_) (fun g=>?_)
 ·have g' : v = 0 := by simpa [pvO] using g
  have e1 : symK n 6 [] 0 [some (v,c),some (v',c')] = finS n (IntKind.i64.wrap (v+v')) (IntKind.i64.wrap (c+c')) := by simp [symK,g']
  rw [e1]
  refine AK.yes ?_
  exact AK.back' 4 0 (s_fin n _ hl (IntKind.i64.wrap (v+v')) (IntKind.i64.wrap (c+c'))) ⟨rfl,rfl,rfl,rfl,trivial⟩ rfl rfl rfl rfl rfl
 ·have g' : ¬ v = 0 := by simpa [pvO] using g
  refine AK.if_ (fun g2=>?_) (fun g2=>?_)
  ·have g2' : v' = 0 := by simpa [pvO] using g2
   have e1 : symK n 6 [] 0 [some (v,c),some (v',c')] = finS n (IntKind.i64.wrap (v+v')) (IntKind.i64.wrap (c+c')) := by simp [symK,g2']
   rw [e1]
   exact AK.back' 4 0 (s_fin n _ hl (IntKind.i64.wrap (v+v')) (IntKind.i64.wrap (c+c'))) ⟨rfl,rfl,rfl,rfl,trivial⟩ rfl rfl rfl rfl rfl
  ·have g2' : ¬ v' = 0 := by simpa [pvO] using g2
   have e1 : symK n 6 [] 0 [some (v,c),some (v',c')] = none := by simp [symK,g',g2']
   rw [e1]
   refine AK.gn ?_
   refine AK.no ?_
   refine AK.gn ?_
   refine AK.no ?_
   refine AK.gn ?_
   refine AK.gn ?_
   refine AK.no ?_
   exact AK.rz Tryz.func55 rfl
theorem s_two7 (n a b:Nd) (hl:n.kids.length≤4500) (v c v' c':Int) :
  AK X ⟨55,Tryz.f55,0,0⟩ (locG false 23 Tryz.f55) (F20 (some (v,c)) (some (v',c'))) (S20 n (.mk 7 [] 0 [a,b]) (some (v,c)) (some (v',c'))) (fun r S=>r = .ret (symR (symK n 7 [] 0 [some (v,c),some (v',c')]))∧S = ⟨[],[]⟩) := by
 refine AK.at_ ?_
 refine AK.ev 100 rfl ?_
 refine AK.gn ?_
 refine AK.no ?_
 refine AK.gy ?_
 refine AK.if_ (fun g=>?_) (fun g=>?_)
 ·have g' : v' = 0 := by simpa [pvO] using g
  have e1 : symK n 7 [] 0 [some (v,c),some (v',c')] = finS n v (IntKind.i64.wrap (c - c')) := by simp [symK,g']
  rw [e1]
  exact AK.back' 4 0 (s_fin n _ hl v (IntKind.i64.wrap (c - c'))) ⟨rfl,rfl,rfl,rfl,trivial⟩ rfl rfl rfl rfl rfl
 ·have g' : ¬ v' = 0 := by simpa [pvO] using g
  refine AK.gy ?_
  refine AK.if_ (fun g2=>?_) (fun g2=>?_)
  ·have g2' : v = v' := by simpa [pvO] using g2
   have e1 : symK n 7 [] 0 [some (v,c),some (v',c')] = finS n 0 (IntKind.i64.wrap (c - c')) := by simp [symK,g',g2']
   rw [e1]
   exact AK.back' 4 0 (s_fin n _ hl 0 (IntKind.i64.wrap (c - c'))) ⟨rfl,rfl,rfl,rfl,trivial⟩ rfl rfl rfl rfl rfl
  ·have g2' : ¬ v = v' := by simpa [pvO] using g2
   have e1 : symK n 7 [] 0 [some (v,c),some (v',c')] = none := by simp [symK,g',g2']
   rw [e1]
   refine AK.gn ?_
   refine AK.gn ?_
   refine AK.no ?_
   exact AK.rz Tryz.func55 rfl
theorem s_two8 (n a b:Nd) (hl:n.kids.length≤4500) (v c v' c':Int) :
  AK X ⟨55,Tryz.f55,0,0⟩ (locG false 23 Tryz.f55) (F20 (some (v,c)) (some (v',c'))) (S20 n (.mk 8 [] 0 [a,b]) (some (v,c)) (some (v',c'))) (fun r S=>r = .ret (symR (symK n 8 [] 0 [some (v,c),some (v',c')]))∧S = ⟨[],[]⟩) := by
 refine AK.at_ ?_
 refine AK.ev 100 rfl ?_
 refine AK.gn ?_
 refine AK.no ?_
 refine AK.gn ?_
 refine AK.no ?_
 refine AK.gn ?_
 refine AK.no ?_
 refine AK.gy ?_
 refine AK.gd (fun g=>?_) (fun g=>?_)
 ·have g' : v = 0 := by simpa [pvO] using g
  refine AK.if_ (fun g2=>?_) (fun g2=>?_)
  ·have g2' : v' = 0 := by simpa [pvO] using g2
   have e1 : symK n 8 [] 0 [some (v,c),some (v',c')] = finS n 0 (IntKind.i64.wrap (c * c')) := by simp [symK,g',g2']
   rw [e1]
   exact AK.back' 4 0 (s_fin n _ hl 0 (IntKind.i64.wrap (c * c'))) ⟨rfl,rfl,rfl,rfl,trivial⟩ rfl rfl rfl rfl rfl
  ·have g2' : ¬ v' = 0 := by simpa [pvO] using g2
   have e1 : symK n 8 [] 0 [some (v,c),some (v',c')] = none := by simp [symK,g',g2']
   rw [e1]
   exact AK.rz Tryz.func55 rfl
 ·have g' : ¬ v = 0 := by simpa [pvO] using g
  have e1 : symK n 8 [] 0 [some (v,c),some (v',c')] = none := by simp [symK,g']
  rw [e1]
  refine AK.no ?_
  exact AK.rz Tryz.func55 rfl
theorem s_two (n : Nd) (k : Int) (a b : Nd) (hk : k = 6 ∨ k = 7 ∨ k = 8) (hl : n.kids.length ≤ 4500) (o q : Option (Int × Int)) :
    AK X ⟨55, Tryz.f55, 0, 0⟩ (locG false 20 Tryz.f55) (F20 o q) (S20 n (.mk k [] 0 [a, b]) o q) (fun r S => r = .ret (symR (symK n k [] 0 [o, q])) ∧ S = ⟨[], []⟩) := by
  have e0 : symK n k [] 0 [none, q] = none := by rcases hk with rfl | rfl | rfl <;> cases q <;> simp [symK]
  have e1 : symK n k [] 0 [o, none] = none := by rcases hk with rfl | rfl | rfl <;> cases o <;> simp [symK]
  cases o with
  | none =>
    rw [e0]
    refine AK.at_ ?_
    refine AK.ev 100 rfl ?_
    refine AK.gy ?_
    refine AK.yes ?_
    exact AK.rz Tryz.func55 rfl
  | some o =>
    cases q with
    | none =>
      rw [e1]
      refine AK.at_ ?_
      refine AK.ev 100 rfl ?_
      refine AK.gn ?_
      refine AK.yes ?_
      exact AK.rz Tryz.func55 rfl
    | some q =>
      obtain ⟨v, c⟩ := o
      obtain ⟨v', c'⟩ := q
      refine AK.at_ ?_
      refine AK.ev 100 rfl ?_
      refine AK.gn ?_
      refine AK.ifj (e := false) 0 23 (fun h => nomatch h) (fun _ => ?_)
      rcases hk with rfl | rfl | rfl
      · exact AK.back' 6 0 (s_two6 n a b hl v c v' c') ⟨rfl, rfl, rfl, rfl, rfl, rfl, rfl, rfl, trivial⟩ rfl rfl rfl rfl rfl
      · exact AK.back' 6 0 (s_two7 n a b hl v c v' c') ⟨rfl, rfl, rfl, rfl, rfl, rfl, rfl, rfl, trivial⟩ rfl rfl rfl rfl rfl
      · exact AK.back' 6 0 (s_two8 n a b hl v c v' c') ⟨rfl, rfl, rfl, rfl, rfl, rfl, rfl, rfl, trivial⟩ rfl rfl rfl rfl rfl
theorem p_sym (n : Nd) (hl : n.kids.length ≤ 4500) {e : Nd} (h : FE e) : Pure X 55 [.agg (takeC n), nd e] (symR (symM n e)) := by
  have hd1 := declS_le n 31
  have hd2 := declS_le n 32
  induction h with
  | num m h0 h1 =>
    rw [symM_mk]
    refine Pure.run Tryz.func55 ?_
    refine AK.ifj (e := true) 0 31 (fun _ => ?_) (fun h => nomatch h)
    exact AK.back' 4 0 (s_fin n _ hl 0 m) ⟨rfl, rfl, rfl, rfl, trivial⟩ rfl rfl rfl rfl rfl
  | var s h =>
    rw [symM_mk]
    refine Pure.run Tryz.func55 ?_
    refine AK.no ?_
    refine AK.yes ?_
    refine AK.pcj 31 (p_find (declS n 31) s (by omega)) ?_
    exact AK.back' 4 0 (s_fin n _ hl (vSym n s) 0) ⟨rfl, rfl, rfl, rfl, trivial⟩ rfl rfl rfl rfl rfl
  | cell s a h ha ih =>
    rw [symM_mk]
    refine Pure.run Tryz.func55 ?_
    refine AK.no ?_
    refine AK.no ?_
    refine AK.no ?_
    refine AK.no ?_
    refine AK.no ?_
    refine AK.no ?_
    refine AK.no ?_
    refine AK.rz Tryz.func55 ?_
    rw [symL1]
    cases symM n a <;> rfl
  | len s h =>
    rw [symM_mk]
    refine Pure.run Tryz.func55 ?_
    refine AK.no ?_
    refine AK.no ?_
    refine AK.yes ?_
    refine AK.db 256 ?_
    refine Drv.pg (p_find (declS n 32) s (by omega)) ?_
    refine Drv.pg (p_length n (idxS 0 (declS n 32) s)) ?_
    refine Drv.w (Ndo.store rfl rfl rfl rfl rfl rfl rfl) ?_
    refine Drv.zj 31 ?_
    exact AK.back' 4 0 (s_fin n _ hl (lSym n s) 0) ⟨rfl, rfl, rfl, rfl, trivial⟩ rfl rfl rfl rfl rfl
  | neg a ha ih =>
    rw [symM_mk, symL1]
    refine Pure.run Tryz.func55 ?_
    refine AK.no ?_
    refine AK.no ?_
    refine AK.no ?_
    refine AK.yes ?_
    cases hs : symM n a with
    | none =>
      simp only [hs, symR] at ih
      refine AK.db 1536 ?_
      refine Drv.ig 0 (by omega) (nrows_get (l := [a]) rfl) ?_
      refine Drv.pg ih ?_
      refine Drv.wl (Ndo.mem rfl rfl rfl) ?_ ?_
      · exact strip_eq (Ndo.ev rfl rfl rfl) (strip_eq (Ndo.ev rfl rfl rfl) (strip_eq (Ndo.ev rfl rfl rfl) allN))
      refine Drv.w (Ndo.store rfl rfl rfl rfl rfl rfl rfl) ?_
      refine Drv.e ?_
      refine Drv.z ?_
      refine AK.gy ?_
      refine AK.yes ?_
      exact AK.rz Tryz.func55 rfl
    | some o =>
      obtain ⟨v, c⟩ := o
      simp only [hs, symR] at ih
      refine AK.db 1536 ?_
      refine Drv.ig 0 (by omega) (nrows_get (l := [a]) rfl) ?_
      refine Drv.pg ih ?_
      refine Drv.wl (Ndo.mem rfl rfl rfl) ?_ ?_
      · exact strip_eq (Ndo.ev rfl rfl rfl) (strip_eq (Ndo.ev rfl rfl rfl) (strip_eq (Ndo.ev rfl rfl rfl) allN))
      refine Drv.w (Ndo.store rfl rfl rfl rfl rfl rfl rfl) ?_
      refine Drv.e ?_
      refine Drv.z ?_
      refine AK.gn ?_
      refine AK.ifj 0 31 (fun g => ?_) (fun g => ?_)
      · have g' : ¬ v = 0 := by have : (v != 0) = true := g; simpa using this
        refine AK.ev 100 rfl ?_
        refine AK.rz Tryz.func55 ?_
        simp [symK, g', symR]
      · have g' : v = 0 := by have : (v != 0) = false := g; simpa using this
        have e1 : symK n 5 [] 0 [some (v, c)] = finS n 0 (IntKind.i64.wrap (-c)) := by simp [symK, g']
        rw [e1]
        exact AK.back' 4 0 (s_fin n _ hl 0 (IntKind.i64.wrap (-c))) ⟨rfl, rfl, rfl, rfl, trivial⟩ rfl rfl rfl rfl rfl
  | two k a b hk ha hb iha ihb =>
    rw [symM_mk, symL2]
    have L := s_two n k a b hk hl (symM n a) (symM n b)
    rw [symR_eq] at iha ihb
    refine Pure.run Tryz.func55 ?_
    refine AK.no ?_ (ht := by rcases hk with rfl | rfl | rfl <;> rfl)
    refine AK.no ?_ (ht := by rcases hk with rfl | rfl | rfl <;> rfl)
    refine AK.no ?_ (ht := by rcases hk with rfl | rfl | rfl <;> rfl)
    refine AK.no ?_ (ht := by rcases hk with rfl | rfl | rfl <;> rfl)
    have h18 : AK X ⟨55, Tryz.f55, 0, 0⟩ (locG false 18 Tryz.f55) FP' (SP n (.mk k [] 0 [a, b]) 0 0) (fun r S => r = .ret (symR (symK n k [] 0 [symM n a, symM n b])) ∧ S = ⟨[], []⟩) := by
      refine AK.at_ ?_
      refine AK.db 1536 ?_
      refine Drv.ig 0 (by omega) (nrows_get (l := [a, b]) rfl) ?_
      refine Drv.pg iha ?_
      refine Drv.wl (Ndo.mem rfl rfl rfl) ?_ ?_
      · exact strip_eq (Ndo.ev rfl rfl rfl) (strip_eq (Ndo.ev rfl rfl rfl) (strip_eq (Ndo.ev rfl rfl rfl) allN))
      refine Drv.w (Ndo.store rfl rfl rfl rfl rfl rfl rfl) ?_
      refine Drv.e ?_
      refine Drv.zj 19 ?_
      refine AK.sto ⟨[[takeC n], [ncells (.mk k [] 0 [a, b])], [[vi 0, vi 0]], [[vi 0, vi 0]], [[vi (pvO (symM n a)).1, vi (pvO (symM n a)).2]]], []⟩ ?_
      refine AK.sub (G := [(2, .ptr 0 0 0), (3, .ptr 1 0 0), (4, .ptr 2 0 0), (6, .ptr 3 0 0), (9, .ptr 4 0 0), (10, vb (symM n a).isSome)]) ⟨rfl, rfl, rfl, rfl, rfl, rfl, trivial⟩ ?_
      refine AK.db 1536 ?_
      refine Drv.ig 1 (by omega) (nrows_get (l := [a, b]) rfl) ?_
      refine Drv.pg ihb ?_
      refine Drv.wl (Ndo.mem rfl rfl rfl) ?_ ?_
      · exact strip_eq (Ndo.ev rfl rfl rfl) (strip_eq (Ndo.ev rfl rfl rfl) (strip_eq (Ndo.ev rfl rfl rfl) allN))
      refine Drv.w (Ndo.store rfl rfl rfl rfl rfl rfl rfl) ?_
      refine Drv.e ?_
      refine Drv.zj 20 ?_
      refine AK.sto (S20 n (.mk k [] 0 [a, b]) (symM n a) (symM n b)) ?_
      refine AK.sub (G := F20 (symM n a) (symM n b)) ⟨rfl, rfl, rfl, rfl, rfl, rfl, rfl, rfl, trivial⟩ ?_
      exact L
    rcases hk with rfl | rfl | rfl
    · refine AK.yes ?_
      exact AK.back' 4 0 h18 ⟨rfl, rfl, rfl, rfl, trivial⟩ rfl rfl rfl rfl rfl
    · refine AK.no ?_
      refine AK.yes ?_
      exact AK.back' 4 0 h18 ⟨rfl, rfl, rfl, rfl, trivial⟩ rfl rfl rfl rfl rfl
    · refine AK.no ?_
      refine AK.no ?_
      refine AK.yes ?_
      exact AK.back' 4 0 h18 ⟨rfl, rfl, rfl, rfl, trivial⟩ rfl rfl rfl rfl rfl
theorem kindS_is (s : List UInt8) : (kindS s == 1) = nameS s := by
  cases h : nameS s with
  | true =>
    have hk : has keys s = false := by
      cases s with
      | nil => simp [nameS] at h
      | cons c l =>
        simp only [nameS, Bool.and_eq_true, Bool.not_eq_true'] at h
        exact h.1.2
    unfold kindS
    rw [if_neg (by simp [hk]), if_pos h]; rfl
  | false =>
    cases h2 : (kindS s == 1) with
    | false => rfl
    | true => rw [kindS_name (by simpa using h2)] at h; cases h
def onlyS (nm num:Bool) (len:Int) (n:Nd) : Bool := ((nm && (kindS n.name == 1)) || (!nm && (n.name == []))) && ((num || (n.num == 0)) && ((n.kids.length : Int) == len))
def headI (n:Nd) : Bool :=
 if n.kind = 1 then onlyS false true 0 n && between n.num 0 1000000
 else if n.kind = 2∨n.kind = 4 then onlyS true false 0 n
 else if n.kind = 3 then onlyS true false 1 n
 else if n.kind = 5 then onlyS false false 1 n
 else if n.kind = 6∨n.kind = 7∨n.kind = 8 then onlyS false false 2 n
 else false
mutual
def exprI : Nd→Bool
 | .mk k s m ks=>headI (.mk k s m ks) && exprIL ks
def exprIL : List Nd→Bool
 | []=>true
 | x::l=>exprI x && exprIL l
end
theorem exprI_eq (n:Nd) : exprI n = (headI n && exprIL n.kids) := by cases n; rw [exprI]; rfl
theorem exprIL_any : ∀ l : List Nd, (!(l.any fun x => !exprI x)) = exprIL l
  | [] => rfl
  | x :: l => by
    simp only [exprIL, List.any_cons]
    rw [← exprIL_any l]
    cases exprI x <;> simp
theorem name_ne' {s:List UInt8} : ((true == !(s == [])) && nameS s) = nameS s := by
 cases s with
 | nil=>rfl
 | cons c l=>simp
theorem headI_is (n : Nd) (h : isExprK n.kind = true) : headI n = headS n.kind n.name n.num n.kids.length := by
  obtain ⟨k, s, m, ks⟩ := n
  simp only [kind_mk, isExprK, between_iff] at h
  simp only [kind_mk, name_mk, num_mk, kids_mk]
  have hn := @name_ne' s
  have hk := kindS_is s
  have : k = 1 ∨ k = 2 ∨ k = 3 ∨ k = 4 ∨ k = 5 ∨ k = 6 ∨ k = 7 ∨ k = 8 := by omega
  rcases this with rfl | rfl | rfl | rfl | rfl | rfl | rfl | rfl
  all_goals
    rw [Bool.eq_iff_iff]
    simp only [headI, onlyS, headS, shapeS, numOkS, kind_mk, name_mk, num_mk, kids_mk, hk]
    simp [between]
  all_goals first
    | (constructor
       · rintro ⟨h1, h2, h3⟩
         have := name_ne h1
         simp_all
       · rintro h1
         simp_all)
    | (intro _ _; exact And.comm)
    | (constructor <;> intro h1 <;> simp_all)
theorem headI_no (n:Nd) (h:isExprK n.kind = false) : headI n = false := by
 have h' : ¬ (1≤n.kind∧n.kind≤8) := by
  intro hh
  rw [show isExprK n.kind = true from between_iff.2 hh] at h; cases h
 unfold headI
 rw [if_neg (by omega),if_neg (by omega),if_neg (by omega),if_neg (by omega),if_neg (by omega)]
theorem exprI_is : (∀ n : Nd, exprI n = (isExprK n.kind && formedN n)) ∧ ∀ l : List Nd, ∀ (p : Nd) (i : Nat), p.kind < 24 → formedL p i l = exprIL l := by
  refine Nd.ind2 (fun k s m ks ih => ?_) (fun p i hp => rfl) (fun x l hx hl p i hp => ?_)
  · rw [exprI_eq, formedN_eq]
    cases hk : isExprK (Nd.mk k s m ks).kind with
    | false => rw [headI_no _ hk]; rfl
    | true =>
      rw [headI_is _ hk, Bool.true_and]
      have h2 : 1 ≤ (Nd.mk k s m ks).kind ∧ (Nd.mk k s m ks).kind ≤ 8 := between_iff.1 hk
      show _ = (_ && formedL (Nd.mk k s m ks) 0 ks)
      rw [ih _ _ (by omega)]; rfl
  · simp only [formedL, exprIL]
    rw [hl p (i + 1) hp, kidS_e hp, hx]
    cases isExprK x.kind <;> simp
theorem exprOk_is (n:Nd) : (!largeN n && exprI n) = exprOkS n := by
 rw [exprI_is.1,exprOkS,fitsS,largeN]
 rw [Bool.eq_iff_iff]
 simp only [Bool.and_eq_true,Bool.not_eq_true',decide_eq_true_eq,decide_eq_false_iff_not]
 constructor
 ·rintro ⟨h1,h2,h3⟩; exact ⟨h2,⟨by omega,by omega⟩,h3⟩
 ·rintro ⟨h2,⟨h1,h3⟩,h4⟩; exact ⟨by omega,h2,h4⟩
def knowH (vars arrs:List (List UInt8)) (n:Nd) : Bool :=
 if wantsI n.kind = 31 then decide (idxS 0 vars n.name≥0) else if wantsI n.kind = 32 then decide (idxS 0 arrs n.name≥0) else true
mutual
def knowN (vars arrs:List (List UInt8)) : Nd→Bool
 | .mk k s m ks=>knowH vars arrs (.mk k s m ks) && knowL vars arrs ks
def knowL (vars arrs:List (List UInt8)) : List Nd→Bool
 | []=>true
 | x::l=>knowN vars arrs x && knowL vars arrs l
end
theorem knowN_eq (vars arrs:List (List UInt8)) (n:Nd) : knowN vars arrs n = (knowH vars arrs n && knowL vars arrs n.kids) := by cases n; rw [knowN]; rfl
theorem knowL_any (vars arrs : List (List UInt8)) : ∀ l : List Nd, (!(l.any fun x => !knowN vars arrs x)) = knowL vars arrs l
  | [] => rfl
  | x :: l => by
    simp only [knowL, List.any_cons]
    rw [← knowL_any vars arrs l]
    cases knowN vars arrs x <;> simp
theorem knowH_8 (vars arrs:List (List UInt8)) (n:Nd) : knowH vars arrs n = !wrongAt vars arrs 8 n.kind n.name := by
 unfold knowH wrongAt
 rcases wants_both n.kind with ⟨h1,h2⟩ | ⟨h1,h2⟩ | ⟨h1,h2⟩ <;> simp [h1,h2]
theorem know_7 (vars arrs:List (List UInt8)) (n:Nd) (h:knowH vars arrs n = true) : wrongAt vars arrs 7 n.kind n.name = false := by
 unfold knowH at h
 unfold wrongAt
 rcases wants_both n.kind with ⟨h1,h2⟩ | ⟨h1,h2⟩ | ⟨h1,h2⟩ <;> simp [h1] at h <;> simp [h2,h]
theorem know_wrong (vars arrs : List (List UInt8)) : (∀ n : Nd, knowN vars arrs n = (!(wrongN vars arrs 7 n).2 && !(wrongN vars arrs 8 n).2)) ∧ ∀ l : List Nd, knowL vars arrs l = (!(wrongL vars arrs 7 l).2 && !(wrongL vars arrs 8 l).2) := by
  refine Nd.ind2 (fun k s m ks ih => ?_) rfl (fun x l hx hl => ?_)
  · rw [knowN_eq, wrongN_eq, wrongN_eq]
    cases h : knowH vars arrs (.mk k s m ks) with
    | true =>
      have h7 := know_7 _ _ _ h
      have h8 := knowH_8 vars arrs (.mk k s m ks)
      rw [h] at h8
      have h8' : wrongAt vars arrs 8 (Nd.mk k s m ks).kind (Nd.mk k s m ks).name = false := by simpa using h8.symm
      rw [if_neg (by rw [h7]; simp), if_neg (by rw [h8']; simp)]
      simpa using ih
    | false =>
      have h8 := knowH_8 vars arrs (.mk k s m ks)
      rw [h] at h8
      have h8' : wrongAt vars arrs 8 (Nd.mk k s m ks).kind (Nd.mk k s m ks).name = true := by simpa using h8.symm
      rw [if_pos h8']
      simp
  · simp only [knowL, wrongL]
    rw [hx, hl]
    cases h7 : (wrongN vars arrs 7 x).2 <;> cases h8 : (wrongN vars arrs 8 x).2 <;> simp [h7, h8]
theorem q_hasOnly (n : Nd) (nm num : Bool) (len : Int) (hn : countN n ≤ 1000000000) (hs : n.name.length ≤ 1000000000) : Pure X 162 [nd n, vb nm, vb num, vi len] (vb (onlyS nm num len n)) := by
  have hkl := length_le_countL n.kids
  have hcn := countN_eq n
  have hlen : ((nrows n.kids).length : Int) = n.kids.length := by rw [nrows_len]
  refine Pure.run Tryz.func162 ?_
  cases nm with
  | true =>
    refine AK.gy ?_
    refine AK.pc (q_kindOf n.name hs) ?_
    refine AK.gd (fun h => ?_) (fun h => ?_)
    · have hA : (kindS n.name == 1) = true := h
      refine AK.gy ?_
      cases num with
      | true =>
        refine AK.gy ?_
        refine AK.gy ?_
        refine AK.rz Tryz.func162 ?_
        rw [hlen]; unfold onlyS; rw [hA]; rfl
      | false =>
        refine AK.gn ?_
        refine AK.gd (fun g => ?_) (fun g => ?_)
        · have g' : (n.num == 0) = true := g
          refine AK.rz Tryz.func162 ?_
          rw [hlen]; unfold onlyS; rw [hA, g']; rfl
        · have g' : (n.num == 0) = false := g
          refine AK.rz Tryz.func162 ?_
          unfold onlyS; rw [hA, g']; rfl
    · have hA : (kindS n.name == 1) = false := h
      refine AK.gn ?_
      refine AK.gn ?_
      refine AK.gn ?_
      refine AK.rz Tryz.func162 ?_
      unfold onlyS; rw [hA]; rfl
  | false =>
    refine AK.gn ?_
    refine AK.gn ?_
    refine AK.gy ?_
    refine AK.gd (fun h => ?_) (fun h => ?_)
    · have hA : (n.name == []) = true := h
      cases num with
      | true =>
        refine AK.gy ?_
        refine AK.gy ?_
        refine AK.rz Tryz.func162 ?_
        rw [hlen]; unfold onlyS; rw [hA]; rfl
      | false =>
        refine AK.gn ?_
        refine AK.gd (fun g => ?_) (fun g => ?_)
        · have g' : (n.num == 0) = true := g
          refine AK.rz Tryz.func162 ?_
          rw [hlen]; unfold onlyS; rw [hA, g']; rfl
        · have g' : (n.num == 0) = false := g
          refine AK.rz Tryz.func162 ?_
          unfold onlyS; rw [hA, g']; rfl
    · have hA : (n.name == []) = false := h
      refine AK.gn ?_
      refine AK.rz Tryz.func162 ?_
      unfold onlyS; rw [hA]; rfl
theorem q_isExpr (n : Nd) (hn : wN n ≤ 1000000000) : Pure X 109 [nd n] (vb (exprI n)) := by
  induction n using Nd.ind with
  | h n ih =>
  have hkl := kids_le_w n
  have hnm := name_lt_w n
  have hcw := count_le_w n
  have hq := q_containsF n.kids 163 [] (fun x => !exprI x) (by omega) (fun x hx => by
    have hw := wN_kid hx
    refine Pure.run Tryz.func163 ?_
    refine AK.pc (ih x hx (by omega)) ?_
    exact AK.rz Tryz.func163 rfl) cat0
  have hfin : ∀ ok : Bool, headI n = ok → AK X ⟨109, Tryz.f109, 0, 0⟩ (locG false 16 Tryz.f109) [(1, .ptr 0 0 0), (3, vb ok)] ⟨[[ncells n]], []⟩ (fun e S => e = .ret (vb (exprI n)) ∧ S = ⟨[], []⟩) := fun ok hok => by
    rw [exprI_eq, hok]
    refine AK.at_ ?_
    cases ok with
    | true =>
      refine AK.ev 100 rfl ?_
      refine AK.gy ?_
      refine AK.pc hq ?_
      refine AK.rz Tryz.func109 ?_
      rw [← exprIL_any]; rfl
    | false =>
      refine AK.ev 100 rfl ?_
      refine AK.gn ?_
      exact AK.rz Tryz.func109 rfl
  refine Pure.run Tryz.func109 ?_
  refine AK.if_ (fun h => ?_) (fun h => ?_)
  · have h' : n.kind = 1 := by simpa using (show (n.kind == 1) = true from h)
    refine AK.pc (q_hasOnly n false true 0 (by omega) (by omega)) ?_
    refine AK.gd (fun g => ?_) (fun g => ?_)
    · have g' : onlyS false true 0 n = true := g
      refine AK.pcj 16 (q_inRange n.num 0 1000000) ?_
      exact AK.back' 1 0 (hfin (between n.num 0 1000000) (by simp [headI, h', g'])) ⟨rfl, rfl, trivial⟩ rfl rfl rfl rfl rfl
    · have g' : onlyS false true 0 n = false := g
      refine AK.gn ?_
      refine AK.rz Tryz.func109 ?_
      rw [exprI_eq]
      simp [headI, h', g']
  have n1 : ¬ n.kind = 1 := by simpa using (show (n.kind == 1) = false from h)
  refine AK.if_ (fun h => ?_) (fun h => ?_)
  · have h' : n.kind = 2 := by simpa using (show (n.kind == 2) = true from h)
    refine AK.pcj 16 (q_hasOnly n true false 0 (by omega) (by omega)) ?_
    exact AK.back' 1 0 (hfin (onlyS true false 0 n) (by simp [headI, h'])) ⟨rfl, rfl, trivial⟩ rfl rfl rfl rfl rfl
  have n2 : ¬ n.kind = 2 := by simpa using (show (n.kind == 2) = false from h)
  refine AK.if_ (fun h => ?_) (fun h => ?_)
  · have h' : n.kind = 4 := by simpa using (show (n.kind == 4) = true from h)
    refine AK.pcj 16 (q_hasOnly n true false 0 (by omega) (by omega)) ?_
    exact AK.back' 1 0 (hfin (onlyS true false 0 n) (by simp [headI, h'])) ⟨rfl, rfl, trivial⟩ rfl rfl rfl rfl rfl
  have n4 : ¬ n.kind = 4 := by simpa using (show (n.kind == 4) = false from h)
  refine AK.if_ (fun h => ?_) (fun h => ?_)
  · have h' : n.kind = 3 := by simpa using (show (n.kind == 3) = true from h)
    refine AK.pcj 16 (q_hasOnly n true false 1 (by omega) (by omega)) ?_
    exact AK.back' 1 0 (hfin (onlyS true false 1 n) (by simp [headI, h'])) ⟨rfl, rfl, trivial⟩ rfl rfl rfl rfl rfl
  have n3 : ¬ n.kind = 3 := by simpa using (show (n.kind == 3) = false from h)
  refine AK.if_ (fun h => ?_) (fun h => ?_)
  · have h' : n.kind = 5 := by simpa using (show (n.kind == 5) = true from h)
    refine AK.pcj 16 (q_hasOnly n false false 1 (by omega) (by omega)) ?_
    exact AK.back' 1 0 (hfin (onlyS false false 1 n) (by simp [headI, h'])) ⟨rfl, rfl, trivial⟩ rfl rfl rfl rfl rfl
  have n5 : ¬ n.kind = 5 := by simpa using (show (n.kind == 5) = false from h)
  refine AK.if_ (fun h => ?_) (fun h => ?_)
  · have h' : n.kind = 6 := by simpa using (show (n.kind == 6) = true from h)
    refine AK.pcj 16 (q_hasOnly n false false 2 (by omega) (by omega)) ?_
    exact AK.back' 1 0 (hfin (onlyS false false 2 n) (by simp [headI, h'])) ⟨rfl, rfl, trivial⟩ rfl rfl rfl rfl rfl
  have n6 : ¬ n.kind = 6 := by simpa using (show (n.kind == 6) = false from h)
  refine AK.if_ (fun h => ?_) (fun h => ?_)
  · have h' : n.kind = 7 := by simpa using (show (n.kind == 7) = true from h)
    refine AK.pcj 16 (q_hasOnly n false false 2 (by omega) (by omega)) ?_
    exact AK.back' 1 0 (hfin (onlyS false false 2 n) (by simp [headI, h'])) ⟨rfl, rfl, trivial⟩ rfl rfl rfl rfl rfl
  have n7 : ¬ n.kind = 7 := by simpa using (show (n.kind == 7) = false from h)
  refine AK.if_ (fun h => ?_) (fun h => ?_)
  · have h' : n.kind = 8 := by simpa using (show (n.kind == 8) = true from h)
    refine AK.pcj 16 (q_hasOnly n false false 2 (by omega) (by omega)) ?_
    exact AK.back' 1 0 (hfin (onlyS false false 2 n) (by simp [headI, h'])) ⟨rfl, rfl, trivial⟩ rfl rfl rfl rfl rfl
  have n8 : ¬ n.kind = 8 := by simpa using (show (n.kind == 8) = false from h)
  refine AK.gn ?_
  refine AK.rz Tryz.func109 ?_
  rw [exprI_eq]
  simp [headI, n1, n2, n3, n4, n5, n6, n7, n8]
theorem q_exprOk (n:Nd) (hn:wN n≤1000000000) : Pure X 58 [nd n] (vb (exprOkS n)) := by
 have hcw := count_le_w n
 rw [← exprOk_is]
 refine Pure.run Tryz.func58 ?_
 refine AK.pc (q_isLarge n (by omega)) ?_
 refine AK.gd (fun g=>?_) (fun g=>?_)
 ·have g' : largeN n = false := by simpa using (show (!largeN n) = true from g)
  refine AK.pc (q_isExpr n hn) ?_
  refine AK.rz Tryz.func58 ?_
  simp [g']
 ·have g' : largeN n = true := by simpa using (show (!largeN n) = false from g)
  refine AK.rz Tryz.func58 ?_
  simp [g']
theorem q_knows (n:Nd) (hl:n.kids.length≤100000) (e:Nd) (he:wN e≤1000000000) : Pure X 59 [.cptr (progC n),nd e] (vb (knowN (declS n 31) (declS n 32) e)) := by
 induction e using Nd.ind with
 | h e ih =>
 have hkl := kids_le_w e
 have hq := q_containsF e.kids 113 [.cptr [.cptr (progC n)]] (fun x=>!knowN (declS n 31) (declS n 32) x) (by omega) (fun x hx=>by
  have hw := wN_kid hx
  refine Pure.run Tryz.func113 ?_
  refine AK.pc (ih x hx (by omega)) ?_
  exact AK.rz Tryz.func113 rfl) (cat1 _)
 have hfin : knowH (declS n 31) (declS n 32) e = true→AK X ⟨59,Tryz.f59,0,0⟩ (locG false 8 Tryz.f59) [(2,.cptr [.cptr (progC n)]),(3,.ptr 0 0 0)] ⟨[[ncells e]],[]⟩
   (fun r S=>r = .ret (vb (knowN (declS n 31) (declS n 32) e))∧S = ⟨[],[]⟩) := fun hk=>by
  rw [knowN_eq,hk]
  refine AK.at_ ?_
  refine AK.ev 100 rfl ?_
  refine AK.pc hq ?_
  refine AK.rz Tryz.func59 ?_
  rw [← knowL_any]; rfl
 refine Pure.mk Tryz.func59 rfl rfl (by kernel_rfl) ?_
 refine AK.evj 0 100 rfl ?_
 refine AK.ev 1 rfl ?_
 refine AK.op (Ndo.boxC (x := .cptr (progC n))) ?_
 refine AK.pc (q_wants e) ?_
 refine AK.if_ (fun h=>?_) (fun h=>?_)
 ·have h' : wantsI e.kind = 31 := by simpa using (show (wantsI e.kind == 31) = true from h)
  refine AK.pc (q_variable n e.name hl) ?_
  refine AK.ifj 0 8 (fun g=>?_) (fun g=>?_)
  ·have g' := of_decide_eq_true g
   refine AK.ev 100 rfl ?_
   refine AK.rz Tryz.func59 ?_
   rw [knowN_eq]
   simp [knowH,h']; omega
  ·have g' := of_decide_eq_false g
   exact AK.back' 1 0 (hfin (by simp only [knowH,h',if_true]; exact decide_eq_true (by omega))) ⟨rfl,rfl,trivial⟩ rfl rfl rfl rfl rfl
 ·have h' : ¬ wantsI e.kind = 31 := by simpa using (show (wantsI e.kind == 31) = false from h)
  refine AK.if_ (fun h2=>?_) (fun h2=>?_)
  ·have h2' : wantsI e.kind = 32 := by simpa using (show (wantsI e.kind == 32) = true from h2)
   refine AK.pc (q_array n e.name hl) ?_
   refine AK.ifj 0 8 (fun g=>?_) (fun g=>?_)
   ·have g' := of_decide_eq_true g
    refine AK.ev 100 rfl ?_
    refine AK.rz Tryz.func59 ?_
    rw [knowN_eq]
    simp [knowH,h2']; omega
   ·have g' := of_decide_eq_false g
    exact AK.back' 1 0 (hfin (by unfold knowH; rw [if_neg h',if_pos h2']; exact decide_eq_true (by omega))) ⟨rfl,rfl,trivial⟩ rfl rfl rfl rfl rfl
  ·have h2' : ¬ wantsI e.kind = 32 := by simpa using (show (wantsI e.kind == 32) = false from h2)
   refine AK.pc hq ?_
   refine AK.rz Tryz.func59 ?_
   rw [knowN_eq,← knowL_any]
   unfold knowH
   rw [if_neg h',if_neg h2']; rfl
theorem p_knows (n:Nd) (hl:n.kids.length≤100000) (e:Nd) (he:wN e≤1000000000) : Pure X 54 [.agg (takeC n),nd e] (vb (knowN (declS n 31) (declS n 32) e)) := by
 have h1 := declS_le n 31
 have h2 := declS_le n 32
 rw [(know_wrong (declS n 31) (declS n 32)).1 e]
 refine Pure.run Tryz.func54 ?_
 refine AK.pc (p_wrong (declS n 31) (declS n 32) 7 (.inl rfl) (by omega) (by omega) e he) ?_
 refine AK.pc (p_wrong (declS n 31) (declS n 32) 8 (.inr rfl) (by omega) (by omega) e he) ?_
 refine AK.gd (fun g=>?_) (fun g=>?_)
 ·have g' : (!(wrongN (declS n 31) (declS n 32) 7 e).2) = true := g
  refine AK.rz Tryz.func54 ?_
  rw [g']; rfl
 ·have g' : (!(wrongN (declS n 31) (declS n 32) 7 e).2) = false := g
  refine AK.rz Tryz.func54 ?_
  rw [g']; rfl
end Go.V
namespace Go.V
open Go
section
variable {X:Cx} {B:Bx} {S:St} {F:Frm} {N:Nat} {ops:Array Oper} {i:Nat} {o:Oper} {p q:Operand}
theorem Ndo.aixB {t e m b r o1 o2 : Nat} {ik : IntKind} {n : Int} {y ye : Ty} (h0 : 0 ≤ n) (h1 : n < (m : Int)) (ho : ops[i]? = some o := by rfl) (hw : wantA ops F o = some true := by rfl) (hop : o.op = .indexAddr t p q := by rfl)
    (hp : opr X F p = some (.ptr b r o1) := by rfl) (hq : opr X F q = some (.val (.int ik n)) := by rfl) (hy : X.ty t = some y := by rfl) (hyk : y.k = .arr m e := by rfl) (hye : X.ty e = some ye := by rfl) (he : addN o1 (n.toNat * ye.size) = o2 := by rfl) :
    Ndo X N ops i o F (.ptr b r o2) S S := by
  subst he
  rw [addN_eq]
  refine Ndo.val ho hw fun F' E w a hc hI hF => ?_
  rw [hop] at hc
  have r1 := opr_sound hI hF ((hc p (by simp [Op.operands])).trans hp)
  have r2 := opr_sound hI hF ((hc q (by simp [Op.operands])).trans hq)
  obtain ⟨d, hdd, hd2⟩ := (X.ty_ok t y hy).agg
  simp only [hyk] at hd2
  obtain ⟨rfl, ye', hye', _⟩ := hd2
  rw [hye] at hye'; cases hye'
  generalize hu : a.eval p = u at r1
  generalize hv : a.eval q = v at r2
  cases r2
  cases r1 with
  | ptr _ _ _ blk sz h =>
    refine ⟨.pointer (some ⟨blk, r * sz + o1 + n.toNat * ye.size, none⟩), ?_, ?_⟩
    · simp [execOp, hop, hu, hv, Instr.indexAt, asIntOf, run_underlying hdd, Instr.sureAddr, h0, h1, sizeOf_run hye, addr_add]
    · rw [Nat.add_assoc]
      exact .ptr b r _ blk sz h
theorem Ndo.buildA {t:TypeId} {m e:Nat} {y:Ty} (ho:ops[i]? = some o := by rfl) (hw:wantA ops F o = some true := by rfl) (hop:o.op = .build t #[] := by rfl) (hy:X.ty t = some y := by rfl) (hk:y.k = .arr m e := by rfl) : Ndo X N ops i o F (.agg y.zero) S S := by
 refine Ndo.val ho hw fun F' E w a hc hI hF=>?_
 obtain ⟨d,hd,hdd⟩ := (X.ty_ok t y hy).agg
 simp only [hk] at hdd
 obtain ⟨rfl,ye,hye,_⟩ := hdd
 obtain ⟨ie,_,hie,_⟩ := (X.ty_ok e ye hye).info
 obtain ⟨z,_,hzc,hl,i,hi,hiz,his,_⟩ := zero_run hy w
 have hrun := run_build (P := X.P) w t #[] z.cells (by simp [Program.built,hi,hd,hiz,hie,Instr.fill])
 refine ⟨.agg z.cells,by simp [execOp,hop,hrun],?_⟩
 refine .agg z.cells _ (by rw [← hzc]; simp) (fun j v x hv hx=>?_)
 rw [← hzc] at hx
 simp only [List.getElem?_map,Array.getElem?_toList,hv,Option.map_some] at hx
 cases hx
 exact rel_ofVal v
end
end Go.V
namespace Go.V
open Go Go.Proofs
abbrev S12 (e:Nd) (a b:Int × Int) : St := ⟨[[ncells e],[[vi 0,vi 0]],[[vi a.1,vi a.2,vi b.1,vi b.2]],[[vi a.1,vi a.2]],[[vi b.1,vi b.2]]],[]⟩
abbrev S14 (e:Nd) (a b:Int × Int) (v c:Int) : St := ⟨[[ncells e],[[vi 0,vi 0]],[[vi a.1,vi a.2,vi b.1,vi b.2]],[[vi a.1,vi a.2]],[[vi b.1,vi b.2]],[[vi v,vi c]]],[]⟩
abbrev F12 (n:Nd) : Frm := [(0,.cptr (progC n)),(3,.ptr 0 0 0),(4,.ptr 1 0 0),(11,.ptr 3 0 0),(12,.ptr 4 0 0)]
theorem q_fin (n e : Nd) (hl : n.kids.length ≤ 4500) (a b : Int × Int) (ok : Bool) (v c : Int) : AK X ⟨60, Tryz.f60, 0, 0⟩ (locG false 31 Tryz.f60) [(0, .cptr (progC n)), (4, .ptr 1 0 0), (13, .ptr 5 0 0), (14, vb ok)]
    (S14 e a b v c) (fun r S => r = .ret (symR (if ok then finS n v c else none)) ∧ S = ⟨[], []⟩) := by
  obtain ⟨h0, h1⟩ := sSym_small hl
  refine AK.at_ ?_
  cases ok with
  | false =>
    refine AK.dn 0 2 ?_
    refine Drv.t true ?_
    refine Drv.go ?_
    refine Drv.z ?_
    refine AK.yes ?_
    exact AK.rz Tryz.func60 rfl
  | true =>
    refine AK.dn 0 2 ?_
    refine Drv.t false ?_
    refine Drv.go ?_
    refine Drv.pg (q_size n) ?_
    refine Drv.pg (q_symOk (sSym n) v c (by omega) (by omega)) ?_
    refine Drv.z ?_
    refine AK.if_ (fun g => ?_) (fun g => ?_)
    · have g' : symOkS (sSym n) v c = false := by have : (!symOkS (sSym n) v c) = true := g; simpa using this
      refine AK.rz Tryz.func60 ?_
      unfold finS; rw [if_pos rfl, if_neg (by simp [g'])]; rfl
    · have g' : symOkS (sSym n) v c = true := by have : (!symOkS (sSym n) v c) = false := g; simpa using this
      refine AK.rz Tryz.func60 ?_
      unfold finS; rw [if_pos rfl, if_pos g']; rfl
theorem q13_num (n:Nd) (hl:n.kids.length≤4500) (m:Int) : AK X ⟨60,Tryz.f60,0,0⟩ (locG false 13 Tryz.f60) (F12 n) (S12 (.mk 1 [] m []) (0,0) (0,0))
  (fun r S=>r = .ret (symR (symK n 1 [] m []))∧S = ⟨[],[]⟩) := by
 refine AK.at_ ?_
 refine AK.ev 100 rfl ?_
 refine AK.ifj (e := true) 31 0 (fun _=>?_) (fun h=>nomatch h)
 exact AK.back' 6 0 (q_fin n _ hl (0,0) (0,0) true 0 m) ⟨rfl,rfl,rfl,rfl,trivial⟩ rfl rfl rfl rfl rfl
theorem q13_var (n:Nd) (hl:n.kids.length≤4500) (s:List UInt8) : AK X ⟨60,Tryz.f60,0,0⟩ (locG false 13 Tryz.f60) (F12 n) (S12 (.mk 2 s 0 []) (0,0) (0,0))
  (fun r S=>r = .ret (symR (symK n 2 s 0 []))∧S = ⟨[],[]⟩) := by
 refine AK.at_ ?_
 refine AK.ev 100 rfl ?_
 refine AK.no ?_
 refine AK.yes ?_
 refine AK.pcj 31 (q_varSym n s (by omega)) ?_
 exact AK.back' 6 0 (q_fin n _ hl (0,0) (0,0) true (vSym n s) 0) ⟨rfl,rfl,rfl,rfl,trivial⟩ rfl rfl rfl rfl rfl
theorem q13_len (n:Nd) (hl:n.kids.length≤4500) (s:List UInt8) : AK X ⟨60,Tryz.f60,0,0⟩ (locG false 13 Tryz.f60) (F12 n) (S12 (.mk 4 s 0 []) (0,0) (0,0))
  (fun r S=>r = .ret (symR (symK n 4 s 0 []))∧S = ⟨[],[]⟩) := by
 refine AK.at_ ?_
 refine AK.ev 100 rfl ?_
 refine AK.no ?_
 refine AK.no ?_
 refine AK.yes ?_
 refine AK.pc (q_array n s (by omega)) ?_
 refine AK.pcj 31 (q_lenSym n (idxS 0 (declS n 32) s)) ?_
 exact AK.back' 6 0 (q_fin n _ hl (0,0) (0,0) true (lSym n s) 0) ⟨rfl,rfl,rfl,rfl,trivial⟩ rfl rfl rfl rfl rfl
theorem q13_neg (n x:Nd) (hl:n.kids.length≤4500) (a:Int × Int) : AK X ⟨60,Tryz.f60,0,0⟩ (locG false 13 Tryz.f60) (F12 n) (S12 (.mk 5 [] 0 [x]) a (0,0))
  (fun r S=>r = .ret (symR (symK n 5 [] 0 [some a]))∧S = ⟨[],[]⟩) := by
 have e1 : symK n 5 [] 0 [some a] = if (a.1 == 0) then finS n 0 (IntKind.i64.wrap (-a.2)) else none := by simp [symK]
 rw [e1]
 refine AK.at_ ?_
 refine AK.ev 100 rfl ?_
 refine AK.no ?_
 refine AK.no ?_
 refine AK.no ?_
 refine AK.yes ?_
 refine AK.db 128 ?_
 refine Drv.go ?_
 refine Drv.wl (Ndo.store rfl rfl rfl rfl rfl rfl rfl) ?_ ?_
 ·exact strip_eq (Ndo.ev rfl rfl rfl) (strip_eq (Ndo.ev rfl rfl rfl) allN)
 refine Drv.e ?_
 refine Drv.zj 31 ?_
 exact AK.back' 6 0 (q_fin n _ hl a (0,0) (a.1 == 0) 0 (IntKind.i64.wrap (-a.2))) ⟨rfl,rfl,rfl,rfl,trivial⟩ rfl rfl rfl rfl rfl
theorem q13_add (n x y : Nd) (hl : n.kids.length ≤ 4500) (a b : Int × Int) : AK X ⟨60, Tryz.f60, 0, 0⟩ (locG false 13 Tryz.f60) (F12 n) (S12 (.mk 6 [] 0 [x, y]) a b)
    (fun r S => r = .ret (symR (symK n 6 [] 0 [some a, some b])) ∧ S = ⟨[], []⟩) := by
  have e1 : symK n 6 [] 0 [some a, some b] = if (a.1 == 0) || (b.1 == 0) then finS n (IntKind.i64.wrap (a.1 + b.1)) (IntKind.i64.wrap (a.2 + b.2)) else none := by simp [symK]
  rw [e1]
  refine AK.at_ ?_
  refine AK.ev 100 rfl ?_
  refine AK.no ?_
  refine AK.no ?_
  refine AK.no ?_
  refine AK.no ?_
  refine AK.yes ?_
  refine AK.dn 524288 14 ?_
  cases hv : (a.1 == 0) with
  | true =>
    refine Drv.t true ?_
    refine Drv.go ?_
    refine Drv.wl (Ndo.store rfl rfl rfl rfl rfl rfl rfl) ?_ ?_
    · repeat (first | exact allN | refine strip_eq (Ndo.ev rfl rfl rfl) ?_)
    refine Drv.e ?_
    refine Drv.zj 31 ?_
    exact AK.back' 6 0 (q_fin n _ hl a b true (IntKind.i64.wrap (a.1 + b.1)) (IntKind.i64.wrap (a.2 + b.2))) ⟨rfl, rfl, rfl, rfl, trivial⟩ rfl rfl rfl rfl rfl
  | false =>
    refine Drv.t false ?_
    refine Drv.go ?_
    refine Drv.wl (Ndo.store rfl rfl rfl rfl rfl rfl rfl) ?_ ?_
    · repeat (first | exact allN | refine strip_eq (Ndo.ev rfl rfl rfl) ?_)
    refine Drv.e ?_
    refine Drv.zj 31 ?_
    exact AK.back' 6 0 (q_fin n _ hl a b (b.1 == 0) (IntKind.i64.wrap (a.1 + b.1)) (IntKind.i64.wrap (a.2 + b.2))) ⟨rfl, rfl, rfl, rfl, trivial⟩ rfl rfl rfl rfl rfl
theorem q13_sub (n x y : Nd) (hl : n.kids.length ≤ 4500) (a b : Int × Int) : AK X ⟨60, Tryz.f60, 0, 0⟩ (locG false 13 Tryz.f60) (F12 n) (S12 (.mk 7 [] 0 [x, y]) a b)
    (fun r S => r = .ret (symR (symK n 7 [] 0 [some a, some b])) ∧ S = ⟨[], []⟩) := by
  have e1 : symK n 7 [] 0 [some a, some b] = if (b.1 == 0) || (a.1 == b.1) then finS n (if a.1 = b.1 then 0 else a.1) (IntKind.i64.wrap (a.2 - b.2)) else none := by
    have : symK n 7 [] 0 [some a, some b] = if b.1 = 0 then finS n a.1 (IntKind.i64.wrap (a.2 - b.2)) else if a.1 = b.1 then finS n 0 (IntKind.i64.wrap (a.2 - b.2)) else none := by simp [symK]
    rw [this]
    by_cases h1 : b.1 = 0
    · by_cases h2 : a.1 = b.1
      · rw [if_pos h1, if_pos (by simp [h1]), if_pos h2, h2, h1]
      · rw [if_pos h1, if_pos (by simp [h1]), if_neg h2]
    · by_cases h2 : a.1 = b.1
      · rw [if_neg h1, if_pos h2, if_pos (by simp [h2]), if_pos h2]
      · rw [if_neg h1, if_neg h2, if_neg (by simp [h1, h2])]
  rw [e1]
  refine AK.at_ ?_
  refine AK.ev 100 rfl ?_
  refine AK.no ?_
  refine AK.no ?_
  refine AK.no ?_
  refine AK.no ?_
  refine AK.no ?_
  refine AK.yes ?_
  refine AK.dn 262144 11 ?_
  cases hv : (b.1 == 0) with
  | true =>
    refine Drv.t true ?_
    refine Drv.go ?_
    refine Drv.wl (Ndo.store rfl rfl rfl rfl rfl rfl rfl) ?_ ?_
    · repeat (first | exact allN | refine strip_eq (Ndo.ev rfl rfl rfl) ?_)
    refine Drv.e ?_
    refine Drv.z ?_
    refine AK.ifj 31 31 (fun g => ?_) (fun g => ?_)
    · have g' : a.1 = b.1 := by simpa using (show (a.1 == b.1) = true from g)
      rw [if_pos g']
      exact AK.back' 6 0 (q_fin n _ hl a b true 0 (IntKind.i64.wrap (a.2 - b.2))) ⟨rfl, rfl, rfl, rfl, trivial⟩ rfl rfl rfl rfl rfl
    · have g' : ¬ a.1 = b.1 := by simpa using (show (a.1 == b.1) = false from g)
      rw [if_neg g']
      exact AK.back' 6 0 (q_fin n _ hl a b true a.1 (IntKind.i64.wrap (a.2 - b.2))) ⟨rfl, rfl, rfl, rfl, trivial⟩ rfl rfl rfl rfl rfl
  | false =>
    refine Drv.t false ?_
    refine Drv.go ?_
    refine Drv.wl (Ndo.store rfl rfl rfl rfl rfl rfl rfl) ?_ ?_
    · repeat (first | exact allN | refine strip_eq (Ndo.ev rfl rfl rfl) ?_)
    refine Drv.e ?_
    refine Drv.z ?_
    refine AK.ifj 31 31 (fun g => ?_) (fun g => ?_)
    · have g' : a.1 = b.1 := by simpa using (show (a.1 == b.1) = true from g)
      rw [if_pos g']
      exact AK.back' 6 0 (q_fin n _ hl a b (a.1 == b.1) 0 (IntKind.i64.wrap (a.2 - b.2))) ⟨rfl, rfl, rfl, rfl, trivial⟩ rfl rfl rfl rfl rfl
    · have g' : ¬ a.1 = b.1 := by simpa using (show (a.1 == b.1) = false from g)
      rw [if_neg g']
      exact AK.back' 6 0 (q_fin n _ hl a b (a.1 == b.1) a.1 (IntKind.i64.wrap (a.2 - b.2))) ⟨rfl, rfl, rfl, rfl, trivial⟩ rfl rfl rfl rfl rfl
theorem q13_mul (n x y : Nd) (hl : n.kids.length ≤ 4500) (a b : Int × Int) : AK X ⟨60, Tryz.f60, 0, 0⟩ (locG false 13 Tryz.f60) (F12 n) (S12 (.mk 8 [] 0 [x, y]) a b)
    (fun r S => r = .ret (symR (symK n 8 [] 0 [some a, some b])) ∧ S = ⟨[], []⟩) := by
  have e1 : symK n 8 [] 0 [some a, some b] = if (a.1 == 0) && (b.1 == 0) then finS n 0 (IntKind.i64.wrap (a.2 * b.2)) else none := by simp [symK]
  rw [e1]
  refine AK.at_ ?_
  refine AK.ev 100 rfl ?_
  refine AK.no ?_
  refine AK.no ?_
  refine AK.no ?_
  refine AK.no ?_
  refine AK.no ?_
  refine AK.no ?_
  refine AK.yes ?_
  refine AK.dn 16384 8 ?_
  cases hv : (a.1 == 0) with
  | true =>
    refine Drv.t true ?_
    refine Drv.go ?_
    refine Drv.wl (Ndo.store rfl rfl rfl rfl rfl rfl rfl) ?_ ?_
    · repeat (first | exact allN | refine strip_eq (Ndo.ev rfl rfl rfl) ?_)
    refine Drv.e ?_
    refine Drv.zj 31 ?_
    exact AK.back' 6 0 (q_fin n _ hl a b (b.1 == 0) 0 (IntKind.i64.wrap (a.2 * b.2))) ⟨rfl, rfl, rfl, rfl, trivial⟩ rfl rfl rfl rfl rfl
  | false =>
    refine Drv.t false ?_
    refine Drv.go ?_
    refine Drv.wl (Ndo.store rfl rfl rfl rfl rfl rfl rfl) ?_ ?_
    · repeat (first | exact allN | refine strip_eq (Ndo.ev rfl rfl rfl) ?_)
    refine Drv.e ?_
    refine Drv.zj 31 ?_
    exact AK.back' 6 0 (q_fin n _ hl a b false 0 (IntKind.i64.wrap (a.2 * b.2))) ⟨rfl, rfl, rfl, rfl, trivial⟩ rfl rfl rfl rfl rfl
abbrev S11 (e:Nd) (a b:Int × Int) : St := ⟨[[ncells e],[[vi 0,vi 0]],[[vi a.1,vi a.2,vi b.1,vi b.2]]],[]⟩
theorem q12 (n e:Nd) (a b:Int × Int) (T:Option (Int × Int)) (h:AK X ⟨60,Tryz.f60,0,0⟩ (locG false 13 Tryz.f60) (F12 n) (S12 e a b) (fun r S=>r = .ret (symR T)∧S = ⟨[],[]⟩)) :
  AK X ⟨60,Tryz.f60,0,0⟩ (locG false 12 Tryz.f60) [(0,.cptr (progC n)),(3,.ptr 0 0 0),(4,.ptr 1 0 0),(6,.ptr 2 0 0)] (S11 e a b) (fun r S=>r = .ret (symR T)∧S = ⟨[],[]⟩) := by
 refine AK.at_ ?_
 refine AK.ways fun l hord=>?_
 rcases AB_or (show 4≠5 by decide) l (fun _=>false) with h1 | h1
 ·refine Way.mk [0,1,2,3,4,5,6,7] [(4,5)] 240 ?_ rfl ?_
  ·intro ab hab
   simp only [List.mem_cons,List.not_mem_nil,or_false] at hab
   subst hab
   exact h1
  refine DrvP.go 4 ?_
  refine DrvP.w (Ndo.mem rfl rfl rfl) ?_ ?_
  ·exact strip_eq (Ndo.ev rfl rfl rfl) (strip_eq (Ndo.ev rfl rfl rfl) allN)
  refine DrvP.w (Ndo.mem rfl rfl rfl) ?_ ?_
  ·intro p hp
   replace hp := (List.mem_filter.1 hp).1
   revert p
   exact strip_eq (Ndo.ev rfl rfl rfl) (strip_eq (Ndo.ev rfl rfl rfl) allN)
  refine DrvP.w (Ndo.store rfl rfl rfl rfl rfl rfl rfl) ?_ ?_
  ·intro p hp
   replace hp := (List.mem_filter.1 (List.mem_filter.1 hp).1).1
   revert p
   exact strip_eq (Ndo.ev rfl rfl rfl) (strip_eq (Ndo.ev rfl rfl rfl) allN)
  refine DrvP.w0 (Ndo.store rfl rfl rfl rfl rfl rfl rfl) ?_
  refine DrvP.zj 13 ?_
  exact AK.back' 5 0 h ⟨rfl,rfl,rfl,rfl,rfl,trivial⟩ rfl rfl rfl rfl rfl
 ·refine Way.mk [0,1,2,3,5,4,6,7] [(5,4)] 240 ?_ rfl ?_
  ·intro ab hab
   simp only [List.mem_cons,List.not_mem_nil,or_false] at hab
   subst hab
   exact h1
  refine DrvP.go 4 ?_
  refine DrvP.w (Ndo.mem rfl rfl rfl) ?_ ?_
  ·exact strip_eq (Ndo.ev rfl rfl rfl) (strip_eq (Ndo.ev rfl rfl rfl) allN)
  refine DrvP.w (Ndo.mem rfl rfl rfl) ?_ ?_
  ·intro p hp
   replace hp := (List.mem_filter.1 hp).1
   revert p
   exact strip_eq (Ndo.ev rfl rfl rfl) (strip_eq (Ndo.ev rfl rfl rfl) allN)
  refine DrvP.w (Ndo.store rfl rfl rfl rfl rfl rfl rfl) ?_ ?_
  ·intro p hp
   replace hp := (List.mem_filter.1 (List.mem_filter.1 hp).1).1
   revert p
   exact strip_eq (Ndo.ev rfl rfl rfl) (strip_eq (Ndo.ev rfl rfl rfl) allN)
  refine DrvP.w0 (Ndo.store rfl rfl rfl rfl rfl rfl rfl) ?_
  refine DrvP.zj 13 ?_
  refine AK.sto ⟨[[ncells e],[[vi 0,vi 0]],[[vi a.1,vi a.2,vi b.1,vi b.2]],[[vi b.1,vi b.2]],[[vi a.1,vi a.2]]],[]⟩ ?_
  refine AK.sub (G := [(0,.cptr (progC n)),(3,.ptr 0 0 0),(4,.ptr 1 0 0),(11,.ptr 4 0 0),(12,.ptr 3 0 0)]) ⟨rfl,rfl,rfl,rfl,rfl,trivial⟩ ?_
  refine AK.perm (G := F12 n) (bx3 := [[ncells e],[[vi 0,vi 0]],[[vi a.1,vi a.2,vi b.1,vi b.2]],[[vi a.1,vi a.2]],[[vi b.1,vi b.2]]]) (bx2 := [[ncells e],[[vi 0,vi 0]],[[vi a.1,vi a.2,vi b.1,vi b.2]],[[vi a.1,vi a.2]],[[vi b.1,vi b.2]]]) [0,1,2,4,3] h
   (.cons rfl inferInstance (.cons rfl inferInstance (.cons rfl inferInstance (.cons rfl inferInstance (.cons rfl inferInstance .nil))))) rfl rfl rfl rfl rfl
theorem q_parts0 (n:Nd) (k:Int) (s:List UInt8) (m:Int) (hk:(k == 3) = false) (T:Option (Int × Int))
  (h:AK X ⟨60,Tryz.f60,0,0⟩ (locG false 12 Tryz.f60) [(0,.cptr (progC n)),(3,.ptr 0 0 0),(4,.ptr 1 0 0),(6,.ptr 2 0 0)] (S11 (.mk k s m []) (0,0) (0,0)) (fun r S=>r = .ret (symR T)∧S = ⟨[],[]⟩)) :
  Pure X 60 [.cptr (progC n),nd (.mk k s m [])] (symR T) := by
 refine Pure.run Tryz.func60 ?_
 refine AK.op Ndo.buildA ?_
 refine AK.no ?_ (ht := hk)
 refine AK.loop ?_
 refine AK.ev 100 rfl ?_
 refine AK.ifj (e := false) 0 12 (fun h=>nomatch h) (fun _=>?_)
 exact AK.back' 3 0 h ⟨rfl,rfl,rfl,rfl,trivial⟩ rfl rfl rfl rfl rfl
theorem q_parts1 (n:Nd) (k:Int) (s:List UInt8) (m:Int) (x:Nd) (hk:(k == 3) = false) (T:Option (Int × Int)) (hno:∀ y,y∈[x]→symM n y = none→T = none)
  (ihx:Pure X 60 [.cptr (progC n),nd x] (symR (symM n x)))
  (h:∀ a,symM n x = some a→AK X ⟨60,Tryz.f60,0,0⟩ (locG false 12 Tryz.f60) [(0,.cptr (progC n)),(3,.ptr 0 0 0),(4,.ptr 1 0 0),(6,.ptr 2 0 0)] (S11 (.mk k s m [x]) a (0,0)) (fun r S=>r = .ret (symR T)∧S = ⟨[],[]⟩)) :
  Pure X 60 [.cptr (progC n),nd (.mk k s m [x])] (symR T) := by
 rw [symR_eq (symM n x)] at ihx
 refine Pure.run Tryz.func60 ?_
 refine AK.op Ndo.buildA ?_
 refine AK.no ?_ (ht := hk)
 refine AK.loop ?_
 refine AK.ev 100 rfl ?_
 refine AK.yes ?_
 refine AK.ix 0 (by decide) (nrows_get (l := [x]) rfl) ?_
 refine AK.pc ihx ?_
 refine AK.if_ (fun g=>?_) (fun g=>?_)
 ·have g' : symM n x = none := by
   have : (!(symM n x).isSome) = true := g
   cases hs : symM n x with
   | none=>rfl
   | some q=>rw [hs] at this; cases this
  rw [hno x (by simp) g']
  exact AK.rz Tryz.func60 rfl
 have g1 : ∃ q,symM n x = some q := by
  have : (!(symM n x).isSome) = false := g
  cases hs : symM n x with
  | none=>rw [hs] at this; cases this
  | some q=>exact ⟨q,rfl⟩
 refine AK.op (Ndo.aixB (m := 2) (n := 0) (by decide) (by decide)) ?_
 obtain ⟨a,ha⟩ := g1
 have ha' : pvO (symM n x) = a := by rw [ha]; rfl
 rw [ha']
 refine AK.back' 3 0 (G := [(0,.cptr (progC n)),(3,.ptr 0 0 0),(4,.ptr 1 0 0),(6,.ptr 2 0 0),(21,.sl (nrows [x]) .no),(22,vi 1),(23,vi 1)]) (bx := (S11 (.mk k s m [x]) a (0,0)).boxes) (tk := []) ?_ ⟨rfl,rfl,rfl,rfl,rfl,rfl,rfl,trivial⟩ rfl rfl rfl rfl rfl
 refine AK.again ?_
 refine AK.ev 100 rfl ?_
 refine AK.ifj (e := false) 0 12 (fun h=>nomatch h) (fun _=>?_)
 exact AK.back' 3 0 (h a ha) ⟨rfl,rfl,rfl,rfl,trivial⟩ rfl rfl rfl rfl rfl
theorem q_parts2 (n:Nd) (k:Int) (s:List UInt8) (m:Int) (x y:Nd) (hk:(k == 3) = false) (T:Option (Int × Int)) (hno:∀ z,z∈[x,y]→symM n z = none→T = none)
  (ihx:Pure X 60 [.cptr (progC n),nd x] (symR (symM n x))) (ihy:Pure X 60 [.cptr (progC n),nd y] (symR (symM n y)))
  (h:∀ a b,symM n x = some a→symM n y = some b→AK X ⟨60,Tryz.f60,0,0⟩ (locG false 12 Tryz.f60) [(0,.cptr (progC n)),(3,.ptr 0 0 0),(4,.ptr 1 0 0),(6,.ptr 2 0 0)] (S11 (.mk k s m [x,y]) a b) (fun r S=>r = .ret (symR T)∧S = ⟨[],[]⟩)) :
  Pure X 60 [.cptr (progC n),nd (.mk k s m [x,y])] (symR T) := by
 rw [symR_eq (symM n x)] at ihx
 rw [symR_eq (symM n y)] at ihy
 refine Pure.run Tryz.func60 ?_
 refine AK.op Ndo.buildA ?_
 refine AK.no ?_ (ht := hk)
 refine AK.loop ?_
 refine AK.ev 100 rfl ?_
 refine AK.yes ?_
 refine AK.ix 0 (by decide) (nrows_get (l := [x,y]) rfl) ?_
 refine AK.pc ihx ?_
 refine AK.if_ (fun g=>?_) (fun g=>?_)
 ·have g' : symM n x = none := by
   have : (!(symM n x).isSome) = true := g
   cases hs : symM n x with
   | none=>rfl
   | some q=>rw [hs] at this; cases this
  rw [hno x (by simp) g']
  exact AK.rz Tryz.func60 rfl
 have g1 : ∃ q,symM n x = some q := by
  have : (!(symM n x).isSome) = false := g
  cases hs : symM n x with
  | none=>rw [hs] at this; cases this
  | some q=>exact ⟨q,rfl⟩
 refine AK.op (Ndo.aixB (m := 2) (n := 0) (by decide) (by decide)) ?_
 obtain ⟨a,ha⟩ := g1
 have ha' : pvO (symM n x) = a := by rw [ha]; rfl
 rw [ha']
 refine AK.back' 3 0 (G := [(0,.cptr (progC n)),(3,.ptr 0 0 0),(4,.ptr 1 0 0),(6,.ptr 2 0 0),(21,.sl (nrows [x,y]) .no),(22,vi 2),(23,vi 1)]) (bx := (S11 (.mk k s m [x,y]) a (0,0)).boxes) (tk := []) ?_ ⟨rfl,rfl,rfl,rfl,rfl,rfl,rfl,trivial⟩ rfl rfl rfl rfl rfl
 refine AK.again ?_
 refine AK.ev 100 rfl ?_
 refine AK.yes ?_
 refine AK.ix 1 (by decide) (nrows_get (l := [x,y]) rfl) ?_
 refine AK.pc ihy ?_
 refine AK.if_ (fun g=>?_) (fun g=>?_)
 ·have g' : symM n y = none := by
   have : (!(symM n y).isSome) = true := g
   cases hs : symM n y with
   | none=>rfl
   | some q=>rw [hs] at this; cases this
  rw [hno y (by simp) g']
  exact AK.rz Tryz.func60 rfl
 have g1 : ∃ q,symM n y = some q := by
  have : (!(symM n y).isSome) = false := g
  cases hs : symM n y with
  | none=>rw [hs] at this; cases this
  | some q=>exact ⟨q,rfl⟩
 refine AK.op (Ndo.aixB (m := 2) (n := 1) (by decide) (by decide)) ?_
 obtain ⟨b,hb⟩ := g1
 have hb' : pvO (symM n y) = b := by rw [hb]; rfl
 rw [hb']
 refine AK.back' 3 0 (G := [(0,.cptr (progC n)),(3,.ptr 0 0 0),(4,.ptr 1 0 0),(6,.ptr 2 0 0),(21,.sl (nrows [x,y]) .no),(22,vi 2),(23,vi 2)]) (bx := (S11 (.mk k s m [x,y]) a b).boxes) (tk := []) ?_ ⟨rfl,rfl,rfl,rfl,rfl,rfl,rfl,trivial⟩ rfl rfl rfl rfl rfl
 refine AK.again ?_
 refine AK.ev 100 rfl ?_
 refine AK.ifj (e := false) 0 12 (fun h=>nomatch h) (fun _=>?_)
 exact AK.back' 3 0 (h a b ha hb) ⟨rfl,rfl,rfl,rfl,trivial⟩ rfl rfl rfl rfl rfl
theorem q_sym (n : Nd) (hl : n.kids.length ≤ 4500) {e : Nd} (h : FE e) : Pure X 60 [.cptr (progC n), nd e] (symR (symM n e)) := by
  induction h with
  | num m h0 h1 =>
    rw [symM_mk]
    exact q_parts0 n 1 [] m rfl _ (q12 n _ _ _ _ (q13_num n hl m))
  | var s h =>
    rw [symM_mk]
    exact q_parts0 n 2 s 0 rfl _ (q12 n _ _ _ _ (q13_var n hl s))
  | cell s a h ha ih =>
    rw [symM_mk, symL1]
    have : symK n 3 s 0 [symM n a] = none := by cases symM n a <;> simp [symK]
    rw [this]
    refine Pure.run Tryz.func60 ?_
    refine AK.op Ndo.buildA ?_
    refine AK.yes ?_
    exact AK.rz Tryz.func60 rfl
  | len s h =>
    rw [symM_mk]
    exact q_parts0 n 4 s 0 rfl _ (q12 n _ _ _ _ (q13_len n hl s))
  | neg a ha ih =>
    rw [symM_mk, symL1]
    refine q_parts1 n 5 [] 0 a rfl _ (fun y hy h0 => ?_) ih fun v hv => ?_
    · simp at hy; subst hy; rw [h0]; simp [symK]
    · rw [hv]; exact q12 n _ _ _ _ (q13_neg n a hl v)
  | two k a b hk ha hb iha ihb =>
    rw [symM_mk, symL2]
    refine q_parts2 n k [] 0 a b (by rcases hk with rfl | rfl | rfl <;> rfl) _ (fun y hy h0 => ?_) iha ihb fun v w hv hw => ?_
    · simp at hy
      rcases hy with rfl | rfl <;> rw [h0] <;> rcases hk with rfl | rfl | rfl
      all_goals (first | (cases symM n a <;> simp [symK]; done) | (cases symM n b <;> simp [symK]; done))
    · rw [hv, hw]
      rcases hk with rfl | rfl | rfl
      · exact q12 n _ _ _ _ (q13_add n a b hl v w)
      · exact q12 n _ _ _ _ (q13_sub n a b hl v w)
      · exact q12 n _ _ _ _ (q13_mul n a b hl v w)
def symOfM (n e:Nd) : Option (Int × Int) := if rightS n && (exprOkS e && knowN (declS n 31) (declS n 32) e) then symM n e else none
theorem exprOk_FE {e:Nd} (h:exprOkS e = true) : FE e := by
 simp only [exprOkS,fitsS,Bool.and_eq_true] at h
 exact FE_of e h.2.2 h.1
theorem p_symOf (n e : Nd) (hn : wN n ≤ 100000000) (he : wN e ≤ 100000000) : Pure X 10 [nd n, nd e] (symR (symOfM n e)) := by
  refine Pure.run Tryz.func10 ?_
  refine AK.dn 0 1 ?_
  refine Drv.pc (p_right n hn) ?_
  refine Drv.gon 1 ?_
  cases hr : rightS n with
  | false =>
    refine Drv.t true ?_
    refine Drv.gon 4 ?_
    refine Drv.t true ?_
    refine Drv.go ?_
    refine Drv.z ?_
    refine AK.yes ?_
    refine AK.rz Tryz.func10 ?_
    simp [symOfM, hr]; rfl
  | true =>
    obtain ⟨fp, hc, hw, hne, hkl⟩ := right_facts hr
    refine Drv.t false ?_
    refine Drv.go ?_
    refine Drv.pc (p_exprOk e (by omega)) ?_
    refine Drv.gon 2 ?_
    cases hx : exprOkS e with
    | false =>
      refine Drv.t true ?_
      refine Drv.go ?_
      refine Drv.z ?_
      refine AK.yes ?_
      refine AK.rz Tryz.func10 ?_
      simp [symOfM, hx]; rfl
    | true =>
      have hs := p_sym n hkl (exprOk_FE hx)
      rw [symR_eq] at hs
      refine Drv.t false ?_
      refine Drv.go ?_
      refine Drv.pg (p_take n hr) ?_
      refine Drv.pg (p_knows n (by omega) e (by omega)) ?_
      refine Drv.z ?_
      refine AK.if_ (fun g => ?_) (fun g => ?_)
      · have g' : knowN (declS n 31) (declS n 32) e = false := by simpa using (show (!knowN (declS n 31) (declS n 32) e) = true from g)
        refine AK.rz Tryz.func10 ?_
        simp [symOfM, g']; rfl
      · have g' : knowN (declS n 31) (declS n 32) e = true := by simpa using (show (!knowN (declS n 31) (declS n 32) e) = false from g)
        refine AK.db 64 ?_
        refine Drv.pg (p_take n hr) ?_
        refine Drv.pg hs ?_
        refine Drv.w (Ndo.store rfl rfl rfl rfl rfl rfl rfl) ?_
        refine Drv.e ?_
        refine Drv.z ?_
        refine AK.rz Tryz.func10 ?_
        rw [symR_eq]
        simp [symOfM, hr, hx, g']
theorem q_symOf (n e : Nd) (hn : wN n ≤ 100000000) (he : wN e ≤ 100000000) (hnum : PrI n) : Pure X 12 [nd n, nd e] (symR (symOfM n e)) := by
  have hcw := count_le_w n
  have hp := q_newProgram n (by omega) hnum
  refine Pure.run Tryz.func12 ?_
  cases hr : rightS n with
  | false =>
    rw [if_neg (by simp [hr])] at hp
    refine AK.pc hp ?_
    refine AK.gy ?_
    refine AK.gy ?_
    refine AK.yes ?_
    refine AK.rz Tryz.func12 ?_
    simp [symOfM, hr]; rfl
  | true =>
    obtain ⟨fp, hc, hw, hne, hkl⟩ := right_facts hr
    rw [if_pos hr] at hp
    refine AK.pc hp ?_
    refine AK.gn ?_
    refine AK.pc (q_exprOk e (by omega)) ?_
    cases hx : exprOkS e with
    | false =>
      refine AK.gy ?_
      refine AK.yes ?_
      refine AK.rz Tryz.func12 ?_
      simp [symOfM, hx]; rfl
    | true =>
      have hs := q_sym n hkl (exprOk_FE hx)
      rw [symR_eq] at hs
      refine AK.gn ?_
      refine AK.pc (q_knows n (by omega) e (by omega)) ?_
      refine AK.if_ (fun g => ?_) (fun g => ?_)
      · have g' : knowN (declS n 31) (declS n 32) e = false := by simpa using (show (!knowN (declS n 31) (declS n 32) e) = true from g)
        refine AK.rz Tryz.func12 ?_
        simp [symOfM, g']; rfl
      · have g' : knowN (declS n 31) (declS n 32) e = true := by simpa using (show (!knowN (declS n 31) (declS n 32) e) = false from g)
        refine AK.pc hs ?_
        refine AK.rz Tryz.func12 ?_
        rw [symR_eq]
        simp [symOfM, hr, hx, g']
inductive LnI : Nd→Prop where
 | mk (k:Int) (s:List UInt8) (m:Int) (ks:List Nd) (hs:s.length≤9223372036854775807) (hl:ks.length≤9223372036854775807) (hk:∀ x,x∈ks→LnI x) : LnI (.mk k s m ks)
theorem LnI.get {n:Nd} (h:LnI n) : n.name.length≤9223372036854775807∧n.kids.length≤9223372036854775807∧∀ x,x∈n.kids→LnI x := by
 cases h with | mk k s m ks h0 h1 hk=>exact ⟨h0,h1,hk⟩
mutual
def swN : Nd→Nat
 | .mk _ s _ ks=>s.length+(ks.length+swL ks)
def swL : List Nd→Nat
 | []=>0
 | x::l=>swN x+swL l
end
theorem swN_eq (n:Nd) : swN n = n.name.length+(n.kids.length+swL n.kids) := by cases n; rw [swN]; rfl
theorem wN_sw : (∀ n : Nd,wN n≤1+swN n)∧∀ l : List Nd,wL l≤l.length+swL l := by
 refine Nd.ind2 (fun k s m ks ih=>?_) (Nat.le_refl _) (fun x l hx hl=>?_)
 ·simp only [wN,swN]; omega
 ·simp only [wL,swL,List.length_cons]; omega
def szR (w:Nat) (left:Int) : Int := if (w:Int)≤left then left - w else -1
theorem szR_add {a b:Nat} {left:Int} (h:(a:Int)≤left) : szR (a+b) left = szR b (left - a) := by
 unfold szR
 by_cases h2 : ((a+b : Nat) : Int)≤left
 ·rw [if_pos h2,if_pos (by omega)]; omega
 ·rw [if_neg h2,if_neg (by omega)]
theorem szR_lt {a b:Nat} {left:Int} (h:left < a) : szR (a+b) left = -1 := by
 unfold szR
 rw [if_neg (by omega)]
theorem szR_neg {w:Nat} {left:Int} (h0:0≤left) (h:szR w left < 0) : szR w left = -1∧left < w := by
 unfold szR at h ⊢
 split at h
 ·rename_i h2; rw [if_pos h2]; omega
 ·rename_i h2; rw [if_neg h2]; omega
theorem szR_pos {w:Nat} {left:Int} (h:0≤szR w left) : szR w left = left - w∧(w:Int)≤left := by
 unfold szR at h ⊢
 split at h
 ·rename_i h2; rw [if_pos h2]; omega
 ·omega
theorem t_szS (l:List Nd) (left:Int) (h0:0≤left) (h1:left≤1048576) (hl:l.length≤9223372036854775807) (ih:∀ x,x∈l→∀ lf : Int,0≤lf→lf≤1048576→Pure X 9 [nd x,vi lf] (vi (szR (swN x) lf))) :
  Pure X 50 [.sl (nrows l) .no,vi left] (vi (szR (l.length+swL l) left)) := by
 have hw : IntKind.i64.wrap (left - (nrows l).length) = left - l.length := by rw [nrows_len]; exact wrap_small (by omega) (by omega)
 refine Pure.run Tryz.func50 ?_
 refine AK.if_ (fun g=>?_) (fun g=>?_)
 ·have g' := of_decide_eq_true g
  rw [hw] at g'
  refine AK.rz Tryz.func50 ?_
  rw [szR_lt (by omega)]
 have g' := of_decide_eq_false g
 rw [hw] at g'
 have e0 : szR (l.length+swL l) left = szR (swL l) (IntKind.i64.wrap (left - (nrows l).length)) := by rw [hw,szR_add (by omega)]
 rw [e0]
 have hb : 0≤IntKind.i64.wrap (left - (nrows l).length)∧IntKind.i64.wrap (left - (nrows l).length)≤1048576 := by rw [hw]; omega
 generalize IntKind.i64.wrap (left - (nrows l).length) = lf0 at hb
 refine AK.while_ (ι := Nat × Int) 0 0 (fun i=>i.1≤l.length∧0≤i.2∧i.2≤1048576∧szR (swL l) lf0 = szR (swL (l.drop i.1)) i.2) (fun i=>[(5,vi i.1),(1,vi i.2),(0,.sl (nrows l) .no)]) (fun _=>⟨[],[]⟩) (fun i=>l.length - i.1) ?_ (0,lf0) ⟨Nat.zero_le _,hb.1,hb.2,rfl⟩
  ⟨rfl,rfl,rfl,trivial⟩ rfl rfl rfl rfl rfl (fun _=>inferInstance) (fun _=>inferInstance)
 rintro ⟨i,lf⟩ ⟨hi,hp0,hp1,hT⟩ IH
 simp only at hi hp0 hp1 hT IH ⊢
 refine AK.ev 100 rfl ?_
 refine AK.if_ (fun h=>?_) (fun h=>?_)
 ·have hlt : i < l.length := by have := of_decide_eq_true h; rw [nrows_len] at this; omega
  obtain ⟨x,hx⟩ := lget_of_lt l hlt
  rw [drop_cons hx] at hT
  simp only [swL] at hT
  refine AK.ix i (by omega) (nrows_get hx) ?_
  refine AK.pc (ih x (List.mem_of_getElem? hx) lf hp0 hp1) ?_
  refine AK.if_ (fun g2=>?_) (fun g2=>?_)
  ·have g2' := szR_neg hp0 (of_decide_eq_true g2)
   refine AK.rz Tryz.func50 ?_
   rw [hT,szR_lt g2'.2]
  ·have g2' := szR_pos (show 0≤szR (swN x) lf by have := of_decide_eq_false g2; omega)
   refine IH (i+1,szR (swN x) lf) ⟨hlt,?_,?_,?_⟩ (by simp only; omega) _ _ ⟨vint ((wrap_small (by omega) (by omega)).trans (by simp)),rfl,rfl,trivial⟩ rfl rfl rfl
   ·show 0≤szR (swN x) lf; omega
   ·show szR (swN x) lf≤_; omega
   ·rw [hT,szR_add g2'.2,g2'.1]
 ·have : i = l.length := by have := of_decide_eq_false h; rw [nrows_len] at this; omega
  subst this
  rw [List.drop_length] at hT
  refine AK.rz Tryz.func50 ?_
  rw [hT]
  unfold szR swL
  rw [if_pos (by simpa using hp0)]; simp
theorem t_sz (n:Nd) (hln:LnI n) : ∀ left : Int,0≤left→left≤1048576→Pure X 9 [nd n,vi left] (vi (szR (swN n) left)) := by
 induction n using Nd.ind with
 | h n ih =>
 intro left h0 h1
 obtain ⟨ha,hb,hk⟩ := hln.get
 have hw : IntKind.i64.wrap (left - (⟨⟨n.name⟩⟩ : ByteArray).size) = left - n.name.length := by rw [sz_str]; exact wrap_small (by omega) (by omega)
 rw [swN_eq]
 refine Pure.run Tryz.func9 ?_
 refine AK.if_ (fun g=>?_) (fun g=>?_)
 ·have g' := of_decide_eq_true g
  rw [hw] at g'
  refine AK.rz Tryz.func9 ?_
  rw [szR_lt (by omega)]
 have g' := of_decide_eq_false g
 rw [hw] at g'
 have e0 : szR (n.name.length+(n.kids.length+swL n.kids)) left = szR (n.kids.length+swL n.kids) (IntKind.i64.wrap (left - (⟨⟨n.name⟩⟩ : ByteArray).size)) := by rw [hw,szR_add (by omega)]
 rw [e0]
 have hb2 : 0≤IntKind.i64.wrap (left - (⟨⟨n.name⟩⟩ : ByteArray).size)∧IntKind.i64.wrap (left - (⟨⟨n.name⟩⟩ : ByteArray).size)≤1048576 := by rw [hw]; omega
 refine AK.pc (t_szS n.kids _ hb2.1 hb2.2 hb (fun x hx lf=>ih x hx (hk x hx) lf)) ?_
 generalize IntKind.i64.wrap (left - (⟨⟨n.name⟩⟩ : ByteArray).size) = lf at hb2 ⊢
 refine AK.if_ (fun g2=>?_) (fun g2=>?_)
 ·have g2' := szR_neg hb2.1 (of_decide_eq_true g2)
  refine AK.rz Tryz.func9 ?_
  rw [g2'.1]
 ·exact AK.rz Tryz.func9 rfl
theorem rB_step {l:List Nd} {i:Nat} {x:Nd} (h:l[i]? = some x) : (rB (l.take i) (l.length - i)).set i (ncells x) = rB (l.take (i+1)) (l.length - (i+1)) := by
 have hi := lt_of_get h
 obtain ⟨c,hc⟩ : ∃ c,l.length - i = c+1 := ⟨l.length - i - 1,by omega⟩
 have hc2 : l.length - (i+1) = c := by omega
 rw [hc,hc2,rB,rB,List.take_add_one,h,Option.toList_some,nrows_app,List.replicate_succ]
 have : (nrows (l.take i)).length = i := by rw [nrows_len,List.length_take]; omega
 rw [List.set_append_right _ _ (by omega),this,Nat.sub_self,List.set_cons_zero,List.append_assoc]
 rw [nrows_map [x]]; rfl
theorem t_toS (l:List Nd) (hl:l.length≤1000000000) (ih:∀ x,x∈l→Pure X 11 [nd x] (nd x)) : Pure X 56 [.sl (nrows l) .no] (.sl (nrows l) .no) := by
 refine Pure.run Tryz.func56 ?_
 refine AK.op (Ndo.mkS (n := (nrows l).length) (b := 0) (by rw [nrows_len]; exact hl) rfl rfl rfl rfl rfl rfl rfl rfl rfl rfl) ?_
 refine AK.while_ (ι := Nat) 1 0 (fun i=>i≤l.length) (fun i=>[(4,vi i),(3,.bsl 0 l.length),(0,.sl (nrows l) .no)]) (fun i=>⟨[rB (l.take i) (l.length - i)],[]⟩) (fun i=>l.length - i) ?_ 0 (Nat.zero_le _)
  ⟨rfl,by rw [← nrows_len l]; rfl,rfl,trivial⟩ (by rw [← nrows_len l]; rfl) rfl rfl rfl rfl (fun _=>inferInstance) (fun _=>inferInstance)
 intro i hi IH
 refine AK.ev 100 rfl ?_
 refine AK.if_ (fun h=>?_) (fun h=>?_)
 ·have hlt : i < l.length := by have := of_decide_eq_true h; rw [nrows_len] at this; omega
  obtain ⟨x,hx⟩ := lget_of_lt l hlt
  have hr : (rB (l.take i) (l.length - i))[i]? = some zN := by
   have : (nrows (l.take i)).length = i := by rw [nrows_len,List.length_take]; omega
   rw [rB,List.getElem?_append_right (by omega),this,Nat.sub_self,List.getElem?_replicate,if_pos (by omega)]
  refine AK.ix i (by omega) (nrows_get hx) ?_
  refine AK.pc (ih x (List.mem_of_getElem? hx)) ?_
  refine AK.atB i hlt hr ?_
  refine AK.stB hr ?_
  refine IH (i+1) hlt (by omega) _ _ ⟨vint ((wrap_small (by omega) (by omega)).trans (by omega)),rfl,rfl,trivial⟩ ?_ rfl rfl
  rw [← rB_step hx]; rfl
 ·have : i = l.length := by have := of_decide_eq_false h; rw [nrows_len] at this; omega
  subst this
  refine AK.rbsl Tryz.func56 (b := 0) (l := l) (c := l.length - l.length) ?_ hl
  rw [List.take_length]; rfl
theorem t_to (n:Nd) (hn:countN n≤1000000000) : Pure X 11 [nd n] (nd n) := by
 induction n using Nd.ind with
 | h n ih =>
 have hcn := countN_eq n
 have hll := length_le_countL n.kids
 refine Pure.run Tryz.func11 ?_
 refine AK.pc (t_toS n.kids (by omega) (fun x hx=>ih x hx (by have := countL_mem hx; omega))) ?_
 exact AK.rz Tryz.func11 rfl
theorem t_eqS (l:List Nd) (hl:l.length≤1000000000) (ih:∀ x,x∈l→Pure X 14 [nd x,nd x] (vb true)) : Pure X 61 [.sl (nrows l) .no,.sl (nrows l) .no] (vb true) := by
 refine Pure.run Tryz.func61 ?_
 refine AK.no ?_ (ht := by simp)
 refine AK.while_ (ι := Nat) 0 0 (fun i=>i≤l.length) (fun i=>[(5,vi i),(0,.sl (nrows l) .no),(1,.sl (nrows l) .no)]) (fun i=>⟨[],[]⟩) (fun i=>l.length - i) ?_ 0 (Nat.zero_le _)
  ⟨rfl,rfl,rfl,trivial⟩ rfl rfl rfl rfl rfl (fun _=>inferInstance) (fun _=>inferInstance)
 intro i hi IH
 refine AK.ev 100 rfl ?_
 refine AK.if_ (fun h=>?_) (fun h=>?_)
 ·have hlt : i < l.length := by have := of_decide_eq_true h; rw [nrows_len] at this; omega
  obtain ⟨x,hx⟩ := lget_of_lt l hlt
  refine AK.db 0 ?_
  refine Drv.ig i (by omega) (nrows_get hx) ?_
  refine Drv.ig i (by omega) (nrows_get hx) ?_
  refine Drv.pg (ih x (List.mem_of_getElem? hx)) ?_
  refine Drv.z ?_
  refine AK.no ?_
  exact IH (i+1) hlt (by omega) _ _ ⟨vint ((wrap_small (by omega) (by omega)).trans (by omega)),rfl,rfl,trivial⟩ rfl rfl rfl
 ·exact AK.rz Tryz.func61 rfl
theorem t_eq (n:Nd) (hn:countN n≤1000000000) : Pure X 14 [nd n,nd n] (vb true) := by
 induction n using Nd.ind with
 | h n ih =>
 have hcn := countN_eq n
 have hll := length_le_countL n.kids
 refine Pure.run Tryz.func14 ?_
 refine AK.no ?_ (ht := by simp)
 refine AK.no ?_ (ht := by simp)
 refine AK.no ?_ (ht := by simp)
 refine AK.pc (t_eqS n.kids (by omega) (fun x hx=>ih x hx (by have := countL_mem hx; omega))) ?_
 refine AK.no ?_
 exact AK.rz Tryz.func14 rfl
theorem t_eqSym (v c:Int) : Pure X 13 [.agg [vi v,vi c],.agg [vi v,vi c]] (vb true) := by
 refine Pure.run Tryz.func13 ?_
 refine AK.no ?_ (ht := by simp)
 refine AK.no ?_ (ht := by simp)
 exact AK.rz Tryz.func13 rfl
theorem t_symOf (n e:Nd) (hpn:PrI n) (hln:LnI n) (hle:LnI e) : Pure X 3 [nd n,nd e] (vb true) := by
 refine Pure.run Tryz.func3 ?_
 refine AK.pc (t_sz n hln 1048576 (by omega) (by omega)) ?_
 refine AK.if_ (fun g=>?_) (fun g=>?_)
 ·exact AK.rz Tryz.func3 rfl
 have g1 := szR_pos (show 0≤szR (swN n) 1048576 by have := of_decide_eq_false g; omega)
 refine AK.pc (t_sz e hle (szR (swN n) 1048576) (by omega) (by omega)) ?_
 refine AK.if_ (fun g2=>?_) (fun g2=>?_)
 ·exact AK.rz Tryz.func3 rfl
 have g3 := szR_pos (show 0≤szR (swN e) (szR (swN n) 1048576) by have := of_decide_eq_false g2; omega)
 have w1 := wN_sw.1 n
 have w2 := wN_sw.1 e
 have c1 := count_le_w n
 have c2 := count_le_w e
 have hp := p_symOf n e (by omega) (by omega)
 have hq := q_symOf n e (by omega) (by omega) hpn
 rw [symR_eq] at hp hq
 refine AK.db 768 ?_
 refine Drv.pg (t_to n (by omega)) ?_
 refine Drv.pg (t_to e (by omega)) ?_
 refine Drv.pg hp ?_
 refine Drv.wl (Ndo.mem rfl rfl rfl) ?_ ?_
 ·repeat (first | exact allN | refine strip_eq (Ndo.ev rfl rfl rfl) ?_)
 refine Drv.w (Ndo.store rfl rfl rfl rfl rfl rfl rfl) ?_
 refine Drv.e ?_
 refine Drv.z ?_
 refine AK.pc (t_to n (by omega)) ?_
 refine AK.pc (t_to e (by omega)) ?_
 refine AK.pc hq ?_
 refine AK.pc (t_eqSym _ _) ?_
 refine AK.gn ?_
 refine AK.no ?_ (ht := by simp)
 refine AK.db 0 ?_
 refine Drv.pg (t_to n (by omega)) ?_
 refine Drv.pg (t_eq n (by omega)) ?_
 refine Drv.z ?_
 refine AK.no ?_
 refine AK.db 0 ?_
 refine Drv.pg (t_to e (by omega)) ?_
 refine Drv.pg (t_eq e (by omega)) ?_
 refine Drv.z ?_
 refine AK.no ?_
 exact AK.rz Tryz.func3 rfl
end Go.V
