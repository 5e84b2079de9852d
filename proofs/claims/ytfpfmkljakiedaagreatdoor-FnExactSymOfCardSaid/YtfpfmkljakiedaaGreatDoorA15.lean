/- A part of the proof of the claim that the last text states: no condition of its own. -/
import Derived.Test.YtfpfmkljakiedaaGreatDoorA14
import Derived.Carry
import Derived.ChangeArms
import Derived.ChangeVars
import Derived.Deep.DeepHandedRow
import Derived.Lib.LaidTab
import Derived.Lib.LaidU8
import Derived.OpenShut
import Derived.ProofKit
import Derived.Test.YtfpfmkljakiedaaGreatDoorCards
import Derived.Test.YtfpfmkljakiedaaGreatDoorTie
import Derived.WalkKit
set_option linter.unusedVariables false
set_option linter.unusedSimpArgs false
namespace Go.V
open Go Go.Proofs
def E0 : Env := ⟨[],[],fun _ _=>False,[]⟩
theorem E0_mt (b o:Nat) : ¬ E0.mt b o := by
 rintro (h | ⟨i,sz,h⟩ | ⟨t,l,c,sz,h,_⟩)
 ·exact h
 ·simp [E0] at h
 ·simp [E0] at h
theorem list4 {α:Type} {l:List α} (h:l.length = 4) : ∃ a b c d,l = [a,b,c,d] := by
 rcases l with _ | ⟨a,_ | ⟨b,_ | ⟨c,_ | ⟨d,_ | ⟨e,l⟩⟩⟩⟩⟩ <;> simp at h
 exact ⟨a,b,c,d,rfl⟩
def RelL (w:World) (cs:List Value) (l:List AV) : Prop := cs.length = l.length∧∀ (j:Nat) (v:Value) (x:AV),cs[j]? = some v→l[j]? = some x→Rel E0 w v x
theorem RelL.one {w:World} {v:Value} {x:AV} (h:Rel E0 w v x) : RelL w [v] [x] := ⟨rfl,fun j v' x' h1 h2=>by
 cases j with
 | zero=>simp at h1 h2; subst h1; subst h2; exact h
 | succ j=>simp at h1⟩
theorem RelL.nil {w:World} : RelL w [] [] := ⟨rfl,fun j v x h=>by simp at h⟩
theorem RelL.cons {w:World} {v:Value} {x:AV} {cs:List Value} {l:List AV} (h:Rel E0 w v x) (t:RelL w cs l) : RelL w (v::cs) (x::l) :=
 ⟨by simp [t.1],fun j v' x' h1 h2=>by
  cases j with
  | zero=>simp at h1 h2; subst h1; subst h2; exact h
  | succ j=>exact t.2 j v' x' (by simpa using h1) (by simpa using h2)⟩
theorem RelL.agg {w:World} {cs:Array Value} {l:List AV} (h:RelL w cs.toList l) : Rel E0 w (.agg cs) (.agg l) := .agg cs l (by simpa using h.1) (fun j v x h1 h2=>h.2 j v x (by simpa using h1) h2)
theorem list_of {α : Type} {Q : Nat → α → Prop} : ∀ n : Nat, (∀ i, i < n → ∃ x, Q i x) → ∃ l : List α, l.length = n ∧ ∀ i x, l[i]? = some x → Q i x
  | 0, _ => ⟨[], rfl, fun i x h => by simp at h⟩
  | n + 1, h => by
    obtain ⟨l, hl, hq⟩ := list_of n (fun i hi => h i (by omega))
    obtain ⟨x, hx⟩ := h n (by omega)
    refine ⟨l ++ [x], by simp [hl], fun i y hy => ?_⟩
    rcases Nat.lt_or_ge i n with hi | hi
    · rw [List.getElem?_append_left (by omega)] at hy; exact hq i y hy
    · rw [List.getElem?_append_right (by omega)] at hy
      have : i = n := by
        have := lt_of_get hy
        simp at this; omega
      subst this
      simp [hl] at hy; subst hy; exact hx
section
variable {H:Type} {enc:TypeId × Value→H} {P:Program} {w:World} {sp:Nat→Bool} {held:Bool}
theorem cells_get {a : Addr} {n : Nat} {cs : List Value} (h : w.cells? 0 a n = some cs) : cs.length = n ∧ ∀ (j : Nat) (v : Value), cs[j]? = some v → w.cell? (a.add j) = some v := by
  unfold World.cells? at h
  rw [if_pos (Nat.zero_le _)] at h
  have key : ∀ (l : List Nat) (cs : List Value), (l.mapM fun i => w.cell? (a.add i)) = some cs → cs.length = l.length ∧ ∀ (j : Nat) (v : Value), cs[j]? = some v → ∃ k : Nat, l[j]? = some k ∧ w.cell? (a.add k) = some v := by
    intro l
    induction l with
    | nil => intro cs h; simp at h; subst h; exact ⟨rfl, fun j v h => by simp at h⟩
    | cons k l ih =>
      intro cs h
      simp only [List.mapM_cons, Option.bind_eq_bind, Option.bind_eq_some_iff, Option.pure_def, Option.some.injEq] at h
      obtain ⟨v, hv, cs', hcs, rfl⟩ := h
      obtain ⟨h1, h2⟩ := ih cs' hcs
      refine ⟨by simp [h1], fun j u hu => ?_⟩
      cases j with
      | zero => simp at hu; subst hu; exact ⟨k, rfl, hv⟩
      | succ j => simpa using h2 j u (by simpa using hu)
  obtain ⟨h1, h2⟩ := key _ _ h
  refine ⟨by simpa using h1, fun j v hv => ?_⟩
  obtain ⟨k, hk, hc⟩ := h2 j v hv
  have : j < (List.range n).length := lt_of_get hk
  simp at this
  rw [List.getElem?_range this] at hk
  cases hk
  exact hc
theorem add_none {b o n:Nat} : (Addr.mk b o none).add n = ⟨b,o+n,none⟩ := by
 unfold Addr.add
 split
 ·rename_i h; subst h; rfl
 ·rfl
theorem rel_slice {α:Type} {t e sz fuel:Nat} {cs:List Value} {x:DataW H × List MemPlace} (cells:α→List AV) (Q:α→Prop) (ht:P.underlying t = some (.slice e)) (hc:P.cellsOf e = sz) (hsz:0 < sz) (hcell:∀ y,(cells y).length = sz)
  (hel:∀ n,fuel = n+1→∀ (cs:List Value) (x:DataW H × List MemPlace),DataW.trod enc P w 0 sp held n e cs = some x→∃ y : α,Q y∧RelL w cs (cells y)) (h:DataW.trod enc P w 0 sp held fuel t cs = some x) :
  ∃ l : List α,(∀ y,y∈l→Q y)∧l.length≤9223372036854775807∧RelL w cs [.sl (l.map cells) .no] := by
 rcases DataW.trod_slice ht h with ⟨rfl,_⟩ | ⟨a,len,cap,elems,rest,n,hn,rfl,_,_,hcap,hmax,hlen,hall,_,_⟩
 ·refine ⟨[],(fun y hy=>by cases hy),by simp,RelL.one ?_⟩
  exact .sl [] .no none 0 0 0 0 0 (fun _ _=>default) rfl (Nat.zero_le _) (fun h=>absurd rfl h) (fun r hr=>by cases hr) (fun i j h=>by omega) (fun i j h=>by omega) (fun i j r x h=>by simp at h) trivial (Nat.le_refl _)
 ·have hml : maxLen = 9223372036854775807 := by decide
  have hel' : ∀ i,i < len→∃ y : α,Q y∧∃ cs',w.cells? 0 (a.add (i * sz)) sz = some cs'∧RelL w cs' (cells y) := fun i hi=>by
   have h1 := hall i hi
   obtain ⟨z,hz⟩ := lget_of_lt elems (i := i) (by omega)
   rw [hz,hc] at h1
   obtain ⟨cs',h2,h3⟩ := Option.bind_eq_some_iff.1 h1
   obtain ⟨y,hq,hr⟩ := hel n hn cs' z h3
   exact ⟨y,hq,cs',h2,hr⟩
  obtain ⟨l,hll,hl⟩ := list_of len hel'
  have hQ : ∀ y,y∈l→Q y := fun y hy=>by obtain ⟨i,hi⟩ := lget_of_mem hy; exact (hl i y hi).1
  refine ⟨l,hQ,by omega,RelL.one ?_⟩
  have ha : len≠0→a = ⟨a.block,a.off,none⟩ := fun h0=>by
   obtain ⟨y,hy⟩ := lget_of_lt l (i := 0) (by omega)
   obtain ⟨_,cs',h1,h2⟩ := hl 0 y hy
   obtain ⟨h3,h4⟩ := cells_get h1
   obtain ⟨v,hv⟩ := lget_of_lt cs' (i := 0) (by omega)
   have h5 := h4 0 v hv
   have h6 : (a.add (0 * sz)).add 0 = a := by simp [Addr.add]
   rw [h6] at h5
   obtain ⟨b,o,s⟩ := a
   unfold World.cell? at h5
   simp only at h5
   split at h5
   ·split at h5
    ·cases h5
    ·rename_i hs
     cases s with
     | none=>rfl
     | some s=>simp at hs
   ·cases h5
  have hcl : ∀ i j : Nat,i < len→j < sz→∃ v,w.cell? ⟨a.block,a.off+i * sz+j,none⟩ = some v := fun i j hi hj=>by
   obtain ⟨y,hy⟩ := lget_of_lt l (i := i) (by omega)
   obtain ⟨_,cs',h1,h2⟩ := hl i y hy
   obtain ⟨h3,h4⟩ := cells_get h1
   obtain ⟨v,hv⟩ := lget_of_lt cs' (i := j) (by omega)
   have h5 := h4 j v hv
   rw [ha (by omega),add_none,add_none] at h5
   exact ⟨v,h5⟩
  refine .sl _ .no (some a) len cap a.block a.off sz (fun i j=>(w.cell? ⟨a.block,a.off+i * sz+j,none⟩).getD default) (by simp [hll]) (by unfold maxN; omega) (fun h0=>congrArg some (ha h0)) (fun r hr=>?_) (fun i j _ _=>E0_mt _ _) (fun i j hi hj=>?_) (fun i j r z h1 h2=>?_) trivial hcap
  ·obtain ⟨y,_,rfl⟩ := List.mem_map.1 hr; exact hcell y
  ·obtain ⟨v,hv⟩ := hcl i j hi hj
   rw [hv]; rfl
  ·simp only [List.getElem?_map,Option.map_eq_some_iff] at h1
   obtain ⟨y,hy,rfl⟩ := h1
   obtain ⟨_,cs',h3,h4⟩ := hl i y hy
   have hi : i < len := by have := lt_of_get hy; omega
   have hj : j < sz := by have := lt_of_get h2; rw [hcell] at this; exact this
   obtain ⟨h5,h6⟩ := cells_get h3
   obtain ⟨v,hv⟩ := lget_of_lt cs' (i := j) (by omega)
   have h7 := h6 j v hv
   rw [ha (by omega),add_none,add_none] at h7
   show Rel E0 w ((w.cell? ⟨a.block,a.off+i * sz+j,none⟩).getD default) z
   rw [h7]
   exact h4.2 j v z hv h2
theorem trod_i {t fuel:Nat} {k:IntKind} {cs:List Value} {x:DataW H × List MemPlace} (ht:P.underlying t = some (.int k)) (h:DataW.trod enc P w 0 sp held fuel t cs = some x) : ∃ n : Int,k.min≤n∧n≤k.max∧cs = [.int k n] := by
 obtain ⟨n,rfl,_,h2⟩ := DataW.trod_int ht h
 simp only [Lit.wf,Bool.and_eq_true,decide_eq_true_eq] at h2
 exact ⟨n,h2.1,h2.2,rfl⟩
theorem trod_s {t fuel : Nat} {cs : List Value} {x : DataW H × List MemPlace} (ht : P.underlying t = some .string) (h : DataW.trod enc P w 0 sp held fuel t cs = some x) : ∃ s : List UInt8, s.length ≤ 9223372036854775807 ∧ cs = [.string ⟨⟨s⟩⟩] := by
  obtain ⟨s, rfl, _, h2⟩ := DataW.trod_string ht h
  obtain ⟨⟨s⟩⟩ := s
  exact ⟨s, by have : maxLen = 9223372036854775807 := by decide
               have h3 : s.length ≤ maxLen := h2
               omega, rfl⟩
end
theorem i64_rng {n:Int} (h0:IntKind.i64.min≤n) (h1:n≤IntKind.i64.max) : -9223372036854775808≤n∧n≤9223372036854775807 := by
 have a : IntKind.i64.min = -9223372036854775808 := by decide
 have b : IntKind.i64.max = 9223372036854775807 := by decide
 omega
section
variable {H:Type} {enc:TypeId × Value→H} {w:World} {sp:Nat→Bool} {held:Bool}
theorem trod_nd : ∀ (fuel : Nat) (cs : List Value) (x : DataW H × List MemPlace), DataW.trod enc Tryz.prog w 0 sp held fuel 24 cs = some x → ∃ n : Nd, (PrI n ∧ LnI n) ∧ RelL w cs (ncells n) := by
  intro fuel
  induction fuel using Nat.strongRecOn with
  | ind fuel ih =>
    intro cs x h
    obtain ⟨xs, n1, rfl, _, hl, hxs, hf⟩ := DataW.trod_struct Tryz.underlying24 h
    have hl4 : cs.length = 4 := hl.trans (by kernel_rfl)
    have hx4 : xs.length = 4 := hxs
    obtain ⟨c0, c1, c2, c3, rfl⟩ := list4 hl4
    obtain ⟨x0, hx0⟩ := lget_of_lt xs (i := 0) (by omega)
    obtain ⟨x1, hx1⟩ := lget_of_lt xs (i := 1) (by omega)
    obtain ⟨x2, hx2⟩ := lget_of_lt xs (i := 2) (by omega)
    obtain ⟨x3, hx3⟩ := lget_of_lt xs (i := 3) (by omega)
    have c3e : Tryz.prog.cellsOf 3 = 1 := by kernel_rfl
    have c9e : Tryz.prog.cellsOf 9 = 1 := by kernel_rfl
    have cse : Tryz.prog.cellsOf 22 = 1 := by kernel_rfl
    have f0 : DataW.trod enc Tryz.prog w 0 sp held n1 3 (([c0, c1, c2, c3].drop 0).take (Tryz.prog.cellsOf 3)) = some x0 := (hf 0 _ rfl).trans hx0
    have f1 : DataW.trod enc Tryz.prog w 0 sp held n1 9 (([c0, c1, c2, c3].drop 1).take (Tryz.prog.cellsOf 9)) = some x1 := (hf 1 _ rfl).trans hx1
    have f2 : DataW.trod enc Tryz.prog w 0 sp held n1 3 (([c0, c1, c2, c3].drop 2).take (Tryz.prog.cellsOf 3)) = some x2 := (hf 2 _ rfl).trans hx2
    have f3 : DataW.trod enc Tryz.prog w 0 sp held n1 22 (([c0, c1, c2, c3].drop 3).take (Tryz.prog.cellsOf 22)) = some x3 := (hf 3 _ rfl).trans hx3
    rw [c3e] at f0 f2
    rw [c9e] at f1
    rw [cse] at f3
    obtain ⟨k, k0, k1, e0⟩ := trod_i Tryz.underlying3 f0
    obtain ⟨s, s0, e1⟩ := trod_s Tryz.underlying9 f1
    obtain ⟨m, m0, m1, e2⟩ := trod_i Tryz.underlying3 f2
    obtain ⟨l, hq, hll, e3⟩ := rel_slice ncells (fun n => PrI n ∧ LnI n) Tryz.underlying22 (show Tryz.prog.cellsOf 24 = 4 by kernel_rfl) (by decide) (fun y => rfl) (fun n2 hn2 cs' x' hx' => ih n2 (by omega) cs' x' hx') f3
    have e0' : c0 = .int .i64 k := (List.cons.inj e0).1
    have e1' : c1 = .string ⟨⟨s⟩⟩ := (List.cons.inj e1).1
    have e2' : c2 = .int .i64 m := (List.cons.inj e2).1
    have e3' : RelL w [c3] [.sl (l.map ncells) .no] := e3
    subst e0'; subst e1'; subst e2'
    obtain ⟨m0, m1⟩ := i64_rng m0 m1
    refine ⟨.mk k s m l, ⟨.mk k s m l m0 m1 fun x hx => (hq x hx).1, .mk k s m l s0 hll fun x hx => (hq x hx).2⟩, ?_⟩
    show RelL w _ [_, _, _, .sl (nrows l) .no]
    rw [nrows_map]
    exact .cons (.val _) (.cons (.val _) (.cons (.val _) e3'))
end
end Go.V
namespace Go.V
open Go Go.Proofs Go.ChangeShapes Go.WideShapes Go.ChangeAt Go.RowKit
section
variable {H:Type} {enc:TypeId × Value→H} {P:Program} {w:World} {sp:Nat→Bool} {held:Bool}
theorem trod_arr {t e n fuel : Nat} {cs : List Value} {d : DataW H} {ps : List MemPlace} (ht : P.underlying t = some (.array n e)) (h : DataW.trod enc P w 0 sp held fuel t cs = some (d, ps)) :
    ∃ (xs : List (DataW H × List MemPlace)) (f : Nat), d = .agg (xs.map (·.1)) ∧ cs.length = P.cellsOf t ∧ ∀ i, i < n → DataW.trod enc P w 0 sp held f e ((cs.drop (i * P.cellsOf e)).take (P.cellsOf e)) = xs[i]? := by
  cases fuel with
  | zero => simp [DataW.trod] at h
  | succ f =>
    unfold DataW.trod at h
    rw [ht] at h
    split at h <;> simp_all
    obtain ⟨hl, xs, hp, hd, _⟩ := h
    exact ⟨xs, hd.symm, f, fun i hi => mapM_some_get hp i i (by simp [hi])⟩
theorem trod_ifc {t fuel : Nat} {ms : Array (String × TypeId)} {cs : List Value} {x : DataW H × List MemPlace} (ht : P.underlying t = some (.interface ms)) (h : DataW.trod enc P w 0 sp held fuel t cs = some x) : ∃ v, cs = [v] ∧ (v = .nilIface ∨ ∃ te pe, v = .iface te pe) := by
  cases fuel with
  | zero => simp [DataW.trod] at h
  | succ f =>
    unfold DataW.trod at h
    rw [ht] at h
    split at h <;> simp_all
theorem trodAll_stays (hl : laidOutB P = true) {W W' : World} {sp' : Nat → Bool} : ∀ {ts : List TypeId} {vs : List Value} {ds : List (DataW H)} {ps : List MemPlace}, (∀ t, t ∈ ts → P.readableRec t = true ∧ t < P.types.size) →
    DataW.TrodAll enc P W 0 (fun _ => true) true ts vs ds ps → (∀ p ∈ ps, W.sameAt W' p) → (∀ p ∈ ps, sp' p.block = true) → DataW.TrodAll enc P W' 0 sp' true ts vs ds ps
  | [], [], [], _, _, h, _, _ => h
  | t :: ts, v :: vs, d :: ds, _, hr, ⟨p, q, h1, h2, rfl⟩, hs, hb =>
    ⟨p, q, WideElems.Trod_stays hl (hr t (by simp)).1 (hr t (by simp)).2 h1 (fun x hx => hs x (by simp [hx])) (fun x hx => hb x (by simp [hx])), trodAll_stays hl (fun x hx => hr x (by simp [hx])) h2 (fun x hx => hs x (by simp [hx])) (fun x hx => hb x (by simp [hx])), rfl⟩
  | [], _ :: _, _, _, _, h, _, _ => h.elim
  | [], [], _ :: _, _, _, h, _, _ => h.elim
  | _ :: _, [], _, _, _, h, _, _ => h.elim
  | _ :: _, _ :: _, [], _, _, h, _, _ => h.elim
theorem trodVar_stays (hl:laidOutB P = true) {W W':World} {sp':Nat→Bool} {n:String} {gs:List (DataW H)} {ps:List MemPlace} {g t:Nat} (hg:P.globalNamed n = some g) (ht:(P.globals[g]?).map (·.type) = some t) (hr:P.readableRec t = true) (hlt:t < P.types.size)
  (hb:Below W.heap.size W W') (h:DataW.TrodVars enc P W (fun _=>true) [n] gs ps) (hs:∀ p∈ps,W.sameAt W' p) (hsp:∀ p∈ps,sp' p.block = true) : DataW.TrodVars enc P W' sp' [n] gs ps := by
 obtain ⟨g',t',cs,fuel,d,p,rfl,h1,h2,h3,h4,rfl⟩ := trodVars_one h
 obtain rfl := Option.some.inj (hg.symm.trans h1)
 obtain rfl := Option.some.inj (ht.symm.trans h2)
 have h5 : DataW.Trod enc P W 0 (fun _=>true) true t (.agg cs) d p := ⟨fuel,h4⟩
 obtain ⟨fuel',h6⟩ := WideElems.Trod_stays (sp' := sp') hl hr hlt h5 (fun x hx=>hs x (by simp [hx])) (fun x hx=>hsp x (by simp [hx]))
 refine trodVars_mk1 hg ht ?_ h6
 unfold World.var? at h3 ⊢
 rw [hg] at h3 ⊢
 simp only [Option.bind_some] at h3 ⊢
 have hgl : g < W.heap.size := by
  rcases Nat.lt_or_ge g W.heap.size with h' | h'
  ·exact h'
  ·simp [Array.getElem?_eq_none h'] at h3
 rw [hb.block g hgl]; exact h3
end
def laidL : List (String × DataW Unit) := [("math/bits.deBruijn32tab", YtfpfmkljakiedaaGreatDoor.Rows.laid_math_bits_deBruijn32tab),("math/bits.deBruijn64tab", YtfpfmkljakiedaaGreatDoor.Rows.laid_math_bits_deBruijn64tab),("internal/strconv.uint64pow10", YtfpfmkljakiedaaGreatDoor.Rows.laid_internal_strconv_uint64pow10),
 ("strconv.ErrRange", YtfpfmkljakiedaaGreatDoor.Rows.laid_strconv_ErrRange),("strconv.ErrSyntax", YtfpfmkljakiedaaGreatDoor.Rows.laid_strconv_ErrSyntax),("loop.example/g00093/impl.condWords", YtfpfmkljakiedaaGreatDoor.Rows.laid_loop_example_g00093_impl_condWords)]
theorem laidL_met {W:World} (h:laidMetH Tryz.prog laidL W) : laidMet Tryz.prog laidL W := by
 have e : (laidL.filter fun x=>x.2.handleName?.isSome) = [] := by kernel_rfl
 unfold laidMetH at h
 rw [e] at h
 exact h
def condB : List (List UInt8) := [[60],[60,61],[62],[62,61],[61,61],[33,61]]
theorem cond_bytes : condG = condB.map fun b=>.val (.string ⟨⟨b⟩⟩) := rfl
theorem cond_data : (YtfpfmkljakiedaaGreatDoor.Rows.laid_loop_example_g00093_impl_condWords : DataW Unit) = .agg (condB.map fun b=>.lit (.string b)) := rfl
theorem ifc_of {W:World} {n:String} {d:DataW Unit} {g:Nat} (hg:Tryz.prog.globalNamed n = some g) (ht:(Tryz.prog.globals[g]?).map (·.type) = some 260) (h:Lib.VarReads Tryz.prog W n d) : IfaceV W g := by
 obtain ⟨g',t',cs,fuel,p,h1,h2,h3,h4⟩ := h
 obtain rfl := Option.some.inj (hg.symm.trans h1)
 obtain rfl := Option.some.inj (ht.symm.trans h2)
 obtain ⟨v,h5,h6⟩ := trod_ifc Tryz.underlying260 h4
 refine ⟨v,?_,h6⟩
 rw [World.var?_cell hg h3 0,← Array.getElem?_toList,h5]; rfl
theorem gOk_of {W : World} (h : laidMetH Tryz.prog laidL W) : gOk W := by
  have hm := laidL_met h
  constructor
  · intro j x hx
    obtain ⟨g', t', cs, fuel, p, h1, h2, h3, h4⟩ := Lib.laidMet.reads hm (n := "loop.example/g00093/impl.condWords") (d := YtfpfmkljakiedaaGreatDoor.Rows.laid_loop_example_g00093_impl_condWords) (by unfold laidL; simp)
    have hg : Tryz.prog.globalNamed "loop.example/g00093/impl.condWords" = some 0 := by kernel_rfl
    have ht : (Tryz.prog.globals[0]?).map (·.type) = some 266 := by kernel_rfl
    obtain rfl := Option.some.inj (hg.symm.trans h1)
    obtain rfl := Option.some.inj (ht.symm.trans h2)
    obtain ⟨xs, f, hd, hl, hall⟩ := trod_arr Tryz.underlying266 h4
    have c9e : Tryz.prog.cellsOf 9 = 1 := by kernel_rfl
    have cae : Tryz.prog.cellsOf 266 = 6 := by kernel_rfl
    rw [cae] at hl
    rw [cond_data] at hd
    have hd' : condB.map (fun b => (DataW.lit (.string b) : DataW Unit)) = xs.map (·.1) := DataW.agg.inj hd
    rw [cond_bytes] at hx
    simp only [List.getElem?_map, Option.map_eq_some_iff] at hx
    obtain ⟨b, hb, rfl⟩ := hx
    have hj : j < 6 := lt_of_get hb
    have h5 := hall j hj
    rw [c9e, Nat.mul_one] at h5
    have h6 := congrArg (fun l => l[j]?) hd'
    simp only [List.getElem?_map, hb, Option.map_some] at h6
    cases hxj : xs[j]? with
    | none => rw [hxj] at h6; cases h6
    | some z =>
      rw [hxj] at h5 h6
      obtain ⟨s, h7, h8, _⟩ := DataW.trod_string Tryz.underlying9 h5
      have h9 : DataW.lit (.string b) = z.1 := Option.some.inj h6
      rw [h8] at h9
      have h10 : b = s.data.toList := Lit.string.inj (DataW.lit.inj h9)
      obtain ⟨v, hv⟩ := lget_of_lt cs.toList (i := j) (by omega)
      have h11 : cs.toList.drop j = v :: cs.toList.drop (j + 1) := drop_cons hv
      rw [h11] at h7
      have h12 : v = .string s := (List.cons.inj h7).1
      refine ⟨.string s, ?_, ?_⟩
      · rw [World.var?_cell hg h3 j, ← Array.getElem?_toList, hv, h12]
      · rw [h10]
  · obtain ⟨g', t', cs, fuel, p, h1, h2, h3, h4⟩ := Lib.laidMet.reads hm (n := "internal/strconv.uint64pow10") (d := YtfpfmkljakiedaaGreatDoor.Rows.laid_internal_strconv_uint64pow10) (by unfold laidL; simp)
    have hg : Tryz.prog.globalNamed "internal/strconv.uint64pow10" = some 4 := by kernel_rfl
    have ht : (Tryz.prog.globals[4]?).map (·.type) = some 300 := by kernel_rfl
    obtain rfl := Option.some.inj (hg.symm.trans h1)
    obtain rfl := Option.some.inj (ht.symm.trans h2)
    have hd : (YtfpfmkljakiedaaGreatDoor.Rows.laid_internal_strconv_uint64pow10 : DataW Unit) = Lib.tabData .u64 Lib.pow10Tab := by kernel_rfl
    rw [hd] at h4
    have h5 := Lib.cells_of_tab Tryz.underlying300 Tryz.underlying241 (by kernel_rfl) (by kernel_rfl) h4
    unfold World.var? at h3
    rw [hg] at h3
    simp only [Option.bind_some] at h3
    split at h3
    · rename_i c e z hh
      refine ⟨e, z, ?_⟩
      rw [hh]
      cases h3
      rw [← Array.toArray_toList (xs := cs), h5]
    · cases h3
  · exact ifc_of (by kernel_rfl) (by kernel_rfl) (Lib.laidMet.reads hm (n := "strconv.ErrSyntax") (d := YtfpfmkljakiedaaGreatDoor.Rows.laid_strconv_ErrSyntax) (by unfold laidL; simp))
  · exact ifc_of (by kernel_rfl) (by kernel_rfl) (Lib.laidMet.reads hm (n := "strconv.ErrRange") (d := YtfpfmkljakiedaaGreatDoor.Rows.laid_strconv_ErrRange) (by unfold laidL; simp))
theorem gK_le {W:World} (h:W.ShapedOpen Tryz.prog) : gK≤W.heap.size := by
 obtain ⟨o,_,h1,_⟩ := h.2 Tryz.prog.globals.size (Nat.le_refl _) (of_decide_eq_true (by kernel_rfl))
 have := heap_lt h1
 unfold gK
 omega
theorem inv0 {W:World} (h1:gK≤W.heap.size) (h2:gOk W) : Inv X E0 ⟨[],[]⟩ W where
 nb := rfl
 nt := rfl
 np i h := by simp [E0] at h
 box i b sz rows h := by simp [E0] at h
 tok t l b c sz h := by simp [E0] at h
 bb i j b s s' h := by simp [E0] at h
 bt i t b s l c sz h := by simp [E0] at h
 tt i j b l c s l' c' s' h := by simp [E0] at h
 frlt b o h := h.elim
 lo b h := by
  rcases h with ⟨i,sz,h⟩ | ⟨t,l,c,sz,h⟩
  ·simp [E0] at h
  ·simp [E0] at h
 frlo b o h := h.elim
 sz := h1
 glob := h2
theorem run_law {f : FuncId} {xs : List AV} {W : World} {args : Array Value} (hP : Pure X f xs (vb true)) (hs : W.ShapedOpen Tryz.prog) (hL : laidMetH Tryz.prog laidL W) (hA : RelL W args.toList xs) :
    Calls Tryz.prog f args W fun e W' => e = .returned (.bool true) ∧ Below W.heap.size W W' := by
  refine (hP.2 E0 W args rfl (inv0 (gK_le hs) (gOk_of hL)) (by simpa using hA.1) (fun j v x h1 h2 => hA.2 j v x (by simpa using h1) h2)).mono fun e W' he => ?_
  obtain ⟨E', S', h1, h2, h3⟩ := he
  have ho : ∀ b, ¬ E0.own b := fun b h => by
    rcases h with ⟨i, sz, h⟩ | ⟨t, l, c, sz, h⟩
    · simp [E0] at h
    · simp [E0] at h
  refine ⟨?_, ⟨h2.os, h2.tape, h2.output, h2.size, fun k hk => h2.block k hk (ho k)⟩⟩
  cases e with
  | returned v =>
    obtain ⟨r, h4, h5, _⟩ := h3
    injection h5 with h5
    subst h5
    cases h4; rfl
  | panicked ch => exact absurd h3.1 (by intro h; cases h)
  | outgrown => exact h3.elim
end Go.V
namespace Go.V
open Go Go.Proofs Go.ChangeShapes Go.WideShapes Go.ChangeAt Go.RowKit
set_option maxRecDepth 100000
theorem post_pure {H:Type} {enc:TypeId × Value→H} {P:Program} {fn:Func} {s:ChangeSpec} {apart fresh handsOn:Bool} {W W':World} {args:Array Value} {ds gs:List (DataW H)} {before:List MemPlace} {n:String} {g t:Nat}
  (hl:laidOutB P = true) (hp:∀ t,t∈fn.params.toList→P.readableRec t = true∧t < P.types.size) (hn:s.vars = [n]) (hg:P.globalNamed n = some g) (ht:(P.globals[g]?).map (·.type) = some t) (hr:P.readableRec t = true) (hlt:t < P.types.size)
  (hW:DataW.Whole enc P fn.params.toList s.vars apart W args.toList ds gs before) (hb:Below W.heap.size W W')
  (hargs:∀ g1,gs = [g1]→s.fn H (ds++gs) = { results := [.lit (.bool true)],args := ds,vars := gs }) {tb:Nat} (hres:fn.resultTypes = #[tb]) (htb:P.underlying tb = some .bool) :
  s.post enc P fn apart fresh handsOn false W args (.bool true) W' := by
 have hW' := hW
 obtain ⟨p,q,hA,hV,rfl,hfz,hnd⟩ := hW
 have hlt' : ∀ x,x∈p++q→x.block < W.heap.size := fun x hx=>hW'.lt x hx
 rw [hn] at hV
 have hgs : ∃ g1,gs = [g1] := by
  obtain ⟨_,_,_,_,d,_,h,_⟩ := trodVars_one hV
  exact ⟨d,h⟩
 obtain ⟨g1,hg1⟩ := hgs
 have e := hargs g1 hg1
 refine ⟨ds,gs,p++q,[],p,q,hW',?_,?_,?_,hb.frame _,fun h=>by cases h⟩
 ·rw [e,hres]; exact trodAll_cons_mk (shut_bool htb _) trodAll_mk0
 ·rw [e]
  exact trodAll_stays hl hp hA (fun x hx=>hb.same (hlt' x (by simp [hx]))) (fun x hx=>by simpa using hlt' x (by simp [hx]))
 ·rw [e,hn]
  exact trodVar_stays hl hg ht hr hlt hb hV (fun x hx=>hb.same (hlt' x (by simp [hx]))) (fun x hx=>by simpa using hlt' x (by simp [hx]))
theorem node_of {H:Type} {enc:TypeId × Value→H} {W:World} {base:Nat} {v:Value} {d:DataW H} {ps:List MemPlace} (hv:Value.okWide Tryz.prog W .any base 24 v) (h:DataW.Trod enc Tryz.prog W 0 (fun _=>true) true 24 v d ps) :
  ∃ n : Nd,PrI n∧LnI n∧Rel E0 W v (nd n) := by
 unfold Value.okWide at hv
 rw [Tryz.underlying24] at hv
 obtain ⟨cs,rfl,_⟩ := hv
 obtain ⟨fuel,h⟩ := h
 obtain ⟨n,⟨h1,h2⟩,h3⟩ := trod_nd fuel _ _ h
 exact ⟨n,h1,h2,h3.agg⟩
noncomputable def low : Nat := (World.holding Tryz.prog default ⟨#[],#[],[]⟩).heap.size
def litV : DataW Unit→Value
 | .lit (.int k n)=>.int k n
 | .lit (.string s)=>.string ⟨⟨s⟩⟩
 | _=>.nilIface
def aggV : DataW Unit→Array Value
 | .agg l=>(l.map litV).toArray
 | _=>#[]
def textV : DataW Unit→Value
 | .iface _ (.ptr (.agg [.lit (.string s)]))=>.string ⟨⟨s⟩⟩
 | _=>.nilIface
def putV (cs:Array Value) : Obj→Obj
 | .cells _ t frozen=>.cells cs t frozen
 | o=>o
noncomputable def laidW (os:Os) : World :=
 let w0 := World.holding Tryz.prog os ⟨#[.cells #[textV YtfpfmkljakiedaaGreatDoor.Rows.laid_strconv_ErrSyntax] 307,.cells #[textV YtfpfmkljakiedaaGreatDoor.Rows.laid_strconv_ErrRange] 307],#[],[]⟩
 { w0 with heap := (((((w0.heap.modify 0 (putV (aggV YtfpfmkljakiedaaGreatDoor.Rows.laid_loop_example_g00093_impl_condWords))).modify 2 (putV #[.iface 305 (.pointer (some ⟨low,0,none⟩))])).modify 3 (putV #[.iface 305 (.pointer (some ⟨low+1,0,none⟩))])).modify
   4 (putV (aggV YtfpfmkljakiedaaGreatDoor.Rows.laid_internal_strconv_uint64pow10))).modify 5 (putV (aggV YtfpfmkljakiedaaGreatDoor.Rows.laid_math_bits_deBruijn32tab))).modify 6 (putV (aggV YtfpfmkljakiedaaGreatDoor.Rows.laid_math_bits_deBruijn64tab)) }
abbrev nd0V : Value := .agg #[.int .i64 0,.string ⟨#[]⟩,.int .i64 0,.slice none 0 0]
theorem own0 : ownKnob Tryz.prog.godebug = none := by kernel_rfl
theorem laidOut0 : laidOutB Tryz.prog = true := by kernel_rfl
theorem condVar : Tryz.prog.globalNamed "loop.example/g00093/impl.condWords" = some 0 := by kernel_rfl
theorem condTy : (Tryz.prog.globals[0]?).map (·.type) = some 266 := by kernel_rfl
theorem condRd : Tryz.prog.readableRec 266 = true := by kernel_rfl
theorem condLt : 266 < Tryz.prog.types.size := of_decide_eq_true (by kernel_rfl)
end Go.V
namespace Go.Proofs.YtfpfmkljakiedaaGreatDoor.symOf
open Go Go.Proofs Go.V Go.ChangeShapes Go.WideShapes Go.ChangeAt Go.RowKit
set_option maxRecDepth 100000
theorem contract (H:Type) (enc:TypeId × Value→H) (W:World) (base:Nat) (args:Array Value) (ds gs:List (DataW H)) (before:List MemPlace)
  (hval:∀ (j:Nat) t v,Tryz.f3.params[j]? = some t→args[j]? = some v→Value.okWide Tryz.prog W .any base t v)
  (hW:DataW.Whole enc Tryz.prog Tryz.f3.params.toList Rows.fnExactSymOfSpec.vars false W args.toList ds gs before) (hL:laidMetH Tryz.prog Rows.fnExactSymOfRow.laid W) (hs:W.ShapedOpen Tryz.prog) :
  Calls Tryz.prog 3 args W fun e W'=>∃ v,e = .returned v∧Rows.fnExactSymOfSpec.post enc Tryz.prog Tryz.f3 false true false false W args v W' := by
 have hW' := hW
 obtain ⟨p,q,hA0,_,_,_,_⟩ := hW
 have hA : DataW.TrodAll enc Tryz.prog W 0 (fun _=>true) true [24,24] args.toList ds p := hA0
 obtain ⟨v0,vs0,d0,ds0,p0,q0,hargs,rfl,rfl,h0,r0⟩ := trodAll_cons hA
 obtain ⟨v1,vs1,d1,ds1,p1,q1,hargs1,rfl,rfl,h1,r1⟩ := trodAll_cons r0
 obtain ⟨rfl,rfl,rfl⟩ := trodAll_nil r1
 subst hargs1
 have ha0 : args[0]? = some v0 := by rw [← Array.getElem?_toList,hargs]; rfl
 have ha1 : args[1]? = some v1 := by rw [← Array.getElem?_toList,hargs]; rfl
 obtain ⟨n,n1,n2,n3⟩ := node_of (hval 0 24 v0 rfl ha0) h0
 obtain ⟨e,e1,e2,e3⟩ := node_of (hval 1 24 v1 rfl ha1) h1
 have hR : RelL W args.toList [nd n,nd e] := by rw [hargs]; exact .cons n3 (.cons e3 .nil)
 refine (run_law (t_symOf n e n1 n2 e2) hs hL hR).mono fun r W' ⟨he,hb⟩=>?_
 refine ⟨_,he,post_pure laidOut0 (fun t ht=>?_) rfl condVar condTy condRd condLt hW' hb (fun g1 hg=>?_) rfl Tryz.underlying4⟩
 ·have : t = 24 := by
   have h : t∈[24,24] := ht
   simpa using h
  subst this
  exact ⟨by kernel_rfl,of_decide_eq_true (by kernel_rfl)⟩
 ·subst hg; rfl
end Go.Proofs.YtfpfmkljakiedaaGreatDoor.symOf
namespace Go.Proofs.YtfpfmkljakiedaaGreatDoor.symOf
open Go Go.Proofs Go.V Go.ChangeShapes Go.WideShapes Go.ChangeAt Go.RowKit
set_option maxRecDepth 100000
theorem ab {a b:Bool} (h:a = true) (g:b = true) : (a && b) = true := by rw [h,g]; rfl
set_option maxHeartbeats 100000000 in
theorem closed : joinedFacts Tryz.pinned.checked.prog 3 Tryz.f3 (OpenSpec.ofChange Rows.fnExactSymOfSpec).bare Rows.fnExactSymOfRow = true := by
 unfold joinedFacts
 iterate 31 refine ab ?_ ?_
 all_goals as_aux_lemma=>kernel_rfl
end Go.Proofs.YtfpfmkljakiedaaGreatDoor.symOf
