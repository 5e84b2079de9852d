/- A part of the proof of the claim that the last text states: no condition of its own. -/
import Derived.Test.YtkbnfpldnpeliaaGreatDoorG12
import Derived.Laws.MakeOwn
set_option linter.unusedVariables false
set_option linter.unusedSimpArgs false
namespace Go.V
open Go
section
variable {X:Cx}{B:Bx}{E E':Env}{S S':St}{w w':World}{F F':Frm}{a:Act}{N:Nat}{R:AE→St→Prop}{ops:Array Oper}{i:Nat}{o:Oper}{p q:Operand}
theorem Ndo.stP {t tk v j o' b r g:Nat}{y:Ty}{x:AV}{xs row cs:List AV}{rows brows:List (List AV)}{bx:List (List (List AV))}{tk':List Nat}(hS:S.toks[tk]?=some v)(hrow:rows[j]?=some row)(hl:o'+xs.length≤row.length)
 (hflat:∀ z,z∈xs→Flat z)(hb:S.boxes[b]?=some brows)(hr:brows[r]?=some cs)(hg:cs[g]?=some (.psl rows tk v))
 (hbx:S.boxes.set b (brows.set r (cs.set g (.psl (rows.set j (row.take o'++xs++row.drop (o'+xs.length))) tk (v+1))))=bx)(htk:S.toks.set tk (v+1)=tk')(ho:ops[i]?=some o)(hw:wantA ops F o=some true)
 (hop:o.op=.store t p q)(hp:opr X F p=some (.pp rows tk v j o'))(hq:opr X F q=some x)(hy:X.ty t=some y)(hxs:cellsOf x=some xs)(hxl:xs.length=y.size):Ndo X N ops i o F .junk S ⟨bx,tk'⟩:=by
 subst hbx;subst htk
 intro F' E w a hlk hI hF
 have hlo:=looks_of hlk
 rw [hop] at hlo
 have r1:=opr_sound hI hF ((opr_congr (X:=X) (F:=F) (F':=F') (o:=p) fun s hs=>hlo s (by simp [Op.operands,hs])).trans hp)
 have r2:=opr_sound hI hF ((opr_congr (X:=X) (F:=F) (F':=F') (o:=q) fun s hs=>hlo s (by simp [Op.operands,hs])).trans hq)
 generalize hva:a.eval q=u2 at r2
 obtain ⟨blk,sz,n,cap,hu,hrel,hi,hsz⟩:=r1.pp_inv
 obtain ⟨hs,hrx,hone⟩:=cellsOf_sound r2 hxs
 generalize hU:Value.slice (some ⟨blk,0,none⟩) n cap=U at hrel
 have hrel0:=hrel
 cases hrel with
 | psl _ _ _ a0 n0 cap0 k sz' vals hm hx hcap hk hv hsz' hpv hrr hf =>
   cases hU
   have hcur:=tok_cur hI hk hS
   have hpv:=hpv hcur
   obtain ⟨kl,ksp⟩:=k
   cases ksp with
   | none=>obtain ⟨h,_⟩:=hpv;omega
   | some q' =>
     obtain ⟨b',c,s⟩:=q'
     obtain ⟨hn0,rfl,rfl,hab,arr,e,hh,hcs,hcl⟩:=hpv
     simp only [Option.some.injEq,Addr.mk.injEq,and_true] at hab
     subst hab
     have hrl:=hsz row (List.mem_of_getElem? hrow)
     have:sz'=sz:=by rw [← hsz' row (List.mem_of_getElem? hrow),hrl]
     subst this
     simp only at hcur
     subst hcur
     have hjl:=lt_of_get hrow
     have hvl:u2.cells.toList.length=xs.length:=by simpa using hs
     have hin:j*sz'+o'+xs.length≤arr.toList.length:=by
      have:(j+1)*sz'≤c*sz':=Nat.mul_le_mul_right sz' (by omega)
      rw [Nat.add_mul,Nat.one_mul] at this
      simp;omega
     have hst:=run_storeCells_at X.P blk (j*sz'+o') e u2.cells.toList 0 arr w hh (by simp at hin ⊢;omega) (fun u hu=>hone u (by simpa using hu))
     simp only [Nat.add_zero] at hst
     generalize harr:(arr.toList.take (j*sz'+o')++u2.cells.toList++arr.toList.drop (j*sz'+o'+u2.cells.toList.length)).toArray=arr' at hst
     have hasz:arr'.size=arr.size:=by
      subst harr
      have:=splice_len arr.toList u2.cells.toList (j*sz'+o') (by omega)
      rw [List.size_toArray,this];simp
     have hat:=setRow_heap w blk arr arr' e _ hh
     have hoth:∀ q,q≠blk→(w.setRow blk arr').heap[q]?=w.heap[q]?:=fun q hq=>setRow_other w blk q _ (by omega)
     have hbw:blk<w.heap.size:=hI.own_lt (.inr ⟨tk,_,c,0,hk⟩)
     obtain ⟨ev,hI',_⟩:=tok_step (w':=w.setRow blk arr') hI (t:=tk) (n:=v) (m:=v+1) (b:=blk) (c:=c) (sz:=0) hk rfl (by omega) (fun h=>absurd rfl h) rfl rfl rfl (by simp) (fun q _ hq=>hoth q hq) (.inr rfl) (by simpa using hbw)
      (fun o v ho h=>by omega) ⟨_,_,hat,fun h=>absurd rfl h⟩ (fun q e he=>typeAt_same (fun h=>by subst h;exact ⟨_,_,_,_,hh,hat⟩) (hoth q) he)
     have hsz2:u2.cells.size=y.size:=by omega
     refine Does.val (v:=undef) ho (wanted_of hF (by rw [wantA_congr hlk];exact hw)) (by simp [execOp,hop,hu,hva,Instr.storeAt,Instr.sureAddr,storeVar,sizeOf_run hy,hsz2,hst]) (.inr ⟨rfl,rfl⟩)
      ⟨E.setTok tk ⟨v+1,some (blk,c,0)⟩,?_,ev,.junk _⟩
     refine hI.setZ hI' rfl (fun i b s h=>hoth b fun hb'=>hI.bt i tk b s v c 0 h (hb'▸hk)) hb hr hg fun u0 hu0=>?_
     have hu0':=hu0
     cases hu0 with
     | psl _ _ _ a1 n1 cap1 k1 sz1 vals1 hm1 hx1 hcap1 hk1 hv1 hsz1 hpv1 hrr1 hf1 =>
       rw [hk] at hk1;cases hk1
       obtain ⟨_,_,rfl,rfl,arr1,e1,hh1,hcs1,hcl1⟩:=hpv1 rfl
       rw [hh] at hh1;cases hh1
       have:sz1=sz':=by rw [← hsz1 row (List.mem_of_getElem? hrow),hrl]
       subst this
       have hrowlen:(row.take o'++xs++row.drop (o'+xs.length)).length=sz1:=by rw [splice_len row xs o' hl,hrl]
       have hget:∀ i' j',i'<n1→j'<sz1→i'*sz1+j'<arr'.size:=fun i' j' hi' hj'=>by
        have h1:=row_in (n:=n1) hi' hj'
        have h2:n1*sz1≤c*sz1:=Nat.mul_le_mul_right _ (by omega)
        omega
       refine .psl _ tk (v+1) _ n1 c ⟨v+1,some (blk,c,0)⟩ sz1 (fun i' j'=>arr'.getD (i'*sz1+j') default) (by simpa using hm1) hx1 hcap1 (by simp [Env.setTok,lt_of_get hk]) (Nat.le_refl _) (fun r' hr'=>?_)
        (fun _=>⟨by omega,rfl,rfl,rfl,arr',e,hat,by rw [hasz];exact hcs,fun i' j' hi' hj'=>by simp [Array.getD,hget i' j' hi' hj']⟩) (fun i' j' r' x' hi' hj'=>?_) (fun r' hr' z hz=>?_)
       ·rcases List.mem_or_eq_of_mem_set hr' with h | rfl
        ·exact hsz1 r' h
        ·exact hrowlen
       ·have hil:i'<rows.length:=by have:=lt_of_get hi';simpa using this
        have hjl':j'<sz1:=by
         have:=lt_of_get hj'
         rcases get_set hi' with ⟨_,rfl⟩ | ⟨_,h⟩
         ·omega
         ·have:=hsz1 r' (List.mem_of_getElem? h);omega
        have hlt:=hget i' j' (by omega) hjl'
        have hval:arr'.getD (i'*sz1+j') default=arr'[i'*sz1+j']:=by simp [Array.getD,hlt]
        rw [hval]
        have hu':(arr.toList.take (j*sz1+o')++u2.cells.toList++arr.toList.drop (j*sz1+o'+u2.cells.toList.length))[i'*sz1+j']?=some arr'[i'*sz1+j']:=by
         rw [← List.getElem?_toArray,harr];simp [hlt]
        rw [splice_get _ _ _ _ (by omega)] at hu'
        have hold:∀ (r0:List AV),rows[i']?=some r0→r0[j']?=some x'→arr.toList[i'*sz1+j']?=some arr'[i'*sz1+j']→Rel (E.setTok tk ⟨v+1,some (blk,c,0)⟩) (w.setRow blk arr') arr'[i'*sz1+j'] x':=fun r0 h1 h2 h3=>by
         have h4:=hcl1 i' j' (by omega) hjl'
         rw [Array.getElem?_toList,h4] at h3
         rw [← Option.some.inj h3]
         exact (hrr1 i' j' r0 x' h1 h2).step ev
        rcases get_set hi' with ⟨rfl,rfl⟩ | ⟨hne,h⟩
        ·rw [splice_get _ _ _ _ hl] at hj'
         split at hj'
         ·rename_i hjj
          rw [if_pos (by omega),show i'*sz1+j'-(i'*sz1+o')=j'-o' by omega] at hu'
          exact (hrx (j'-o') _ x' (by simpa using hu') hj').step ev
         ·rename_i hjj
          rw [if_neg (by omega)] at hu'
          exact hold row hrow hj' hu'
        ·have:=row_apart hjl' hne
         rw [if_neg (by omega)] at hu'
         exact hold r' h hj' hu'
       ·rcases List.mem_or_eq_of_mem_set hr' with h | rfl
        ·exact hf1 r' h z hz
        ·rcases List.mem_append.1 hz with hz | hz
         ·rcases List.mem_append.1 hz with hz | hz
          ·exact hf1 row (List.mem_of_getElem? hrow) z (List.mem_of_mem_take hz)
          ·exact hflat z hz
         ·exact hf1 row (List.mem_of_getElem? hrow) z (List.mem_of_mem_drop hz)
end
section
variable {X:Cx}{B:Bx}{E E':Env}{S S':St}{w w':World}{F F':Frm}{a:Act}{N:Nat}{R:AE→St→Prop}{ops:Array Oper}{i:Nat}{o:Oper}{p q:Operand}
theorem appendP_sound (hI:Inv X E S w){t ver:Nat}{tt tx ty e e':TypeId}{ye:Ty}(hu:X.P.underlying tt=some (.slice e))(hk:X.P.underlying tx=some (.slice e'))(hye:X.ty e=some ye)(hne0:ye.size≠0)
 {rows new:List (List AV)}{sp:Sp}{u v:Value}(hp:Rel E w u (.psl rows t ver))(hq:Rel E w v (.sl new sp))(hS:S.toks[t]?=some ver)(hflat:∀ r,r∈new→∀ x,x∈r→Flat x)
 (hz:∀ r,r∈rows→r.length=ye.size)(hz':∀ r,r∈new→r.length=ye.size)(hc:∀ r,r∈new→∀ x,x∈r→cellish x=true)(hne:new≠[])(hb:rows.length+new.length≤100000000000) :
 ∃ r E' w',(Builtin.append_ #[tt,tx] ty #[u,v]).run X.P w=.ok r w'∧Inv X E' ⟨S.boxes,S.toks.set t (ver+1)⟩ w'∧Evol E w E' w' E.boxes.length E.toks.length ∧
  Rel E' w' r (.psl (rows++new) t (ver+1)):=by
 obtain ⟨i,z,hi,hsz,hby,hzv,hzc,hzl,_⟩:=(X.ty_ok e ye hye).info
 have hnew:0<new.length:=List.length_pos_iff.2 hne
 obtain ⟨vals2,hsrc,hr2⟩:=src_of hk hq hz' hc hne
 rw [← hsz] at hsrc
 generalize hR:rows=rows0 at hp
 cases hp with
 | psl _ _ _ a n cap k sz vals hn hx hcap hk1 hv hszr hpv hr hf =>
 subst hR
 subst hn
 have hcur:=tok_cur hI hk1 hS
 have hpv:=hpv hcur
 have hkt:=lt_of_get hk1
 have hvals:∀ (vals':Nat→Nat→Value),(∀ i j,i<rows.length→vals' i j=vals i j)→(∀ i j,rows.length≤i→vals' i j=vals2 (i-rows.length) j)→∀ {E':Env} {w':World},Evol E w E' w' E.boxes.length E.toks.length →
  ∀ (i j:Nat) (r:List AV) (x:AV),(rows++new)[i]?=some r→r[j]?=some x→Rel E' w' (vals' i j) x:=fun vals' h1 h2 {E' w'} ev i j r x hi hj=>by
  rcases Nat.lt_or_ge i rows.length with h | h
  ·rw [List.getElem?_append_left h] at hi
   rw [h1 i j h];exact (hr i j r x hi hj).step ev
  ·rw [List.getElem?_append_right h] at hi
   rw [h2 i j h];exact (hr2 _ j r x hi hj).step ev
 have hall:∀ r,r∈rows++new→r.length=ye.size:=fun r h=>by
  rcases List.mem_append.1 h with h | h
  ·exact hz r h
  ·exact hz' r h
 have hfl':∀ r,r∈rows++new→∀ x,x∈r→Flat x:=fun r h x hx'=>by
  rcases List.mem_append.1 h with h | h
  ·exact hf r h x hx'
  ·exact hflat r h x hx'
 have hlen:(rows++new).length=rows.length+new.length:=by simp
 have hszeq:rows.length≠0→sz=i.size:=fun h=>by
  obtain ⟨r0,hr0⟩:=lget_of_lt rows (i:=0) (by omega)
  rw [← hszr r0 (List.mem_of_getElem? hr0),hz r0 (List.mem_of_getElem? hr0),hsz]
 have grow:cap<rows.length+new.length→∃ r E' w',(Builtin.append_ #[tt,tx] ty #[.slice a rows.length cap,v]).run X.P w=.ok r w'∧Inv X E' ⟨S.boxes,S.toks.set t (ver+1)⟩ w'∧Evol E w E' w' E.boxes.length E.toks.length ∧
  Rel E' w' r (.psl (rows++new) t (ver+1)):=fun hg=>by
  have hold:(Builtin.firstCells i.size rows.length (.slice a rows.length cap)).run X.P w.drew=.ok (flatv rows.length i.size vals).toArray w.drew:=by
   rcases Nat.eq_zero_or_pos rows.length with h0 | h0
   ·rw [h0]
    have:flatv 0 i.size vals=[]:=by simp [flatv]
    rw [this]
    cases a with
    | none=>exact run_firstCells_none _ _ _ _ _
    | some a0=>exact run_firstCells_some _ _ _ _ _ _ _ (by simp) (fun j v hj=>by simp at hj)
   ·have hs':=hszeq (by omega)
    subst hs'
    obtain ⟨kl,ksp⟩:=k
    cases ksp with
    | none=>obtain ⟨h,_⟩:=hpv;omega
    | some q' =>
      obtain ⟨b,c,s⟩:=q'
      obtain ⟨_,rfl,rfl,rfl,arr,e1,hh,hcs,hcl⟩:=hpv
      refine run_firstCells_some _ _ _ _ _ _ _ (flatv_len _ _ _) (fun q v hq=>?_)
      obtain ⟨i',j',hi',hj',rfl,he⟩:=flatv_at (vals:=vals) (by have:=lt_of_get hq;rw [flatv_len] at this;exact this)
      rw [he] at hq;cases hq
      rw [addr_add,Nat.zero_add]
      have:=hcl i' j' hi' hj'
      have hdr:w.drew.heap[b]?=w.heap[b]?:=rfl
      simp only [World.cell?,hdr,hh]
      exact this
  have hby':(rows.length+new.length)*i.bytes≤140737488355328:=Nat.le_trans (Nat.mul_le_mul_left _ hby) (by omega)
  have hrun:=run_append_grow_src w tt tx ty e i z hu hi hzv a rows.length cap _ hold v new.length _ hsrc hg (by omega) (growslice_fits hg hby')
  have hcc:=grownCap_ge w (rows.length+new.length) cap e
  generalize grownCap w (rows.length+new.length) cap e=cc at hrun hcc
  have hfl:∀ (i' j':Nat),i'<rows.length+new.length→j'<ye.size→(flatv rows.length i.size vals++flatv new.length i.size vals2)[i'*ye.size+j']?=some (if i'<rows.length then vals i' j' else vals2 (i'-rows.length) j'):=fun i' j' hi' hj'=>by
   rw [hsz]
   by_cases h:i'<rows.length
   ·have:=row_in h hj'
    rw [List.getElem?_append_left (by rw [flatv_len];exact this),if_pos h]
    exact flatv_get h hj'
   ·have hle:rows.length*ye.size≤i'*ye.size:=Nat.mul_le_mul_right _ (by omega)
    rw [List.getElem?_append_right (by rw [flatv_len];omega),if_neg h,flatv_len]
    rw [show i'*ye.size+j'-rows.length*ye.size=(i'-rows.length)*ye.size+j' by rw [Nat.sub_mul];omega]
    exact flatv_get (by omega) hj'
  have hcs:((flatv rows.length i.size vals++flatv new.length i.size vals2).toArray++Builtin.zeroCells z.cells (cc-(rows.length+new.length))).size=cc*ye.size:=by
   have hzs:z.cells.size=ye.size:=by rw [← hzl,← hzc];simp
   have:(Builtin.zeroCells z.cells (cc-(rows.length+new.length))).size=(cc-(rows.length+new.length))*ye.size:=by
    simp [Builtin.zeroCells,hzs]
   rw [Array.size_append,this,List.size_toArray,List.length_append,flatv_len,flatv_len,hsz,← Nat.add_mul,← Nat.add_mul]
   congr 1;omega
  have hpush:∀ o:Obj,(w.drew.alloc o).heap=w.heap.push o:=fun _=>rfl
  have hheap:(w.drew.alloc (.cells ((flatv rows.length i.size vals++flatv new.length i.size vals2).toArray++Builtin.zeroCells z.cells (cc-(rows.length+new.length))) e)).heap[w.heap.size]? =
   some (.cells ((flatv rows.length i.size vals++flatv new.length i.size vals2).toArray++Builtin.zeroCells z.cells (cc-(rows.length+new.length))) e (0,0)):=by rw [hpush];simp
  obtain ⟨ev,hI',_⟩:=tok_step (w':=w.drew.alloc (.cells ((flatv rows.length i.size vals++flatv new.length i.size vals2).toArray++Builtin.zeroCells z.cells (cc-(rows.length+new.length))) e)) hI (t:=t) (n:=ver) (m:=ver+1)
   (b:=w.heap.size) (c:=cc) (sz:=0) hk1 hcur.symm (by omega) (fun h=>absurd rfl h) rfl rfl rfl (by rw [hpush];simp) (fun q hq _=>by rw [hpush,Array.getElem?_push_lt hq];simp [hq]) (.inl rfl) (by rw [hpush];simp)
   (fun o v _ h=>by have:=cell_lt h;omega) ⟨_,e,hheap,fun h=>absurd rfl h⟩ (Evol.push (E:=E) (w:=w) ⟨_,hpush _⟩ rfl rfl rfl 0 0).ty
  refine ⟨_,_,_,hrun,hI',ev,?_⟩
  refine .psl (rows++new) t (ver+1) _ _ cc ⟨ver+1,some (w.heap.size,cc,0)⟩ ye.size (fun i j=>if i<rows.length then vals i j else vals2 (i-rows.length) j) hlen (by unfold maxN;omega) hcc (by simp [Env.setTok,hkt]) (Nat.le_refl _) hall
   (fun _=>⟨by omega,rfl,rfl,rfl,_,e,hheap,hcs,fun i' j' hi' hj'=>?_⟩) (hvals _ (fun i' j' h=>if_pos h) (fun i' j' h=>if_neg (by omega)) ev) hfl'
  have h:=hfl i' j' hi' hj'
  have hlt:=lt_of_get h
  rw [Array.getElem?_append_left (by simpa using hlt),List.getElem?_toArray]
  exact h
 by_cases hg:cap<rows.length+new.length
 ·exact grow hg
 ·obtain ⟨kl,ksp⟩:=k
  cases ksp with
  | none=>obtain ⟨h1,h2⟩:=hpv;omega
  | some q =>
    obtain ⟨b',c',s'⟩:=q
    obtain ⟨hn0,rfl,rfl,rfl,cur,te,hh,hcs,hcl⟩:=hpv
    have hs':=hszeq hn0
    subst hs'
    simp only at hcur
    subst hcur
    have hsub:(rows.length+new.length)*i.size≤c'*i.size:=Nat.mul_le_mul_right _ (by omega)
    rw [Nat.add_mul] at hsub
    have hfit:rows.length*i.size+(flatv new.length i.size vals2).length≤cur.size:=by rw [flatv_len,hcs];exact hsub
    have hrun:=run_append_at tt tx ty e i hu hi b' rows.length c' v new.length _ hsrc (by omega) hh hfit
    have hfl:=flatv_len new.length i.size vals2
    have hat:=setRow_heap w b' cur (cur.toList.take (rows.length*i.size)++flatv new.length i.size vals2++cur.toList.drop (rows.length*i.size+(flatv new.length i.size vals2).length)).toArray te _ hh
    have hoth:∀ q,q≠b'→(w.setRow b' (cur.toList.take (rows.length*i.size)++flatv new.length i.size vals2++cur.toList.drop (rows.length*i.size+(flatv new.length i.size vals2).length)).toArray).heap[q]?=w.heap[q]? :=
     fun q hq=>setRow_other w b' q _ (by omega)
    have hspl:=fun q=>splice_get cur.toList (flatv new.length i.size vals2) (rows.length*i.size) q (by simpa using hfit)
    have hbw:b'<w.heap.size:=hI.own_lt (.inr ⟨t,_,c',0,hk1⟩)
    obtain ⟨ev,hI',_⟩:=tok_step (w':=w.setRow b' (cur.toList.take (rows.length*i.size)++flatv new.length i.size vals2++cur.toList.drop (rows.length*i.size+(flatv new.length i.size vals2).length)).toArray) hI (t:=t) (n:=ver) (m:=ver+1)
     (b:=b') (c:=c') (sz:=0) hk1 rfl (by omega) (fun h=>absurd rfl h) rfl rfl rfl (by simp) (fun q _ hq=>hoth q hq) (.inr rfl) (by simpa using hbw)
     (fun o v ho h=>by omega) ⟨_,_,hat,fun h=>absurd rfl h⟩ (fun q e he=>typeAt_same (fun h=>by subst h;exact ⟨_,_,_,_,hh,hat⟩) (hoth q) he)
    refine ⟨_,_,_,hrun,hI',ev,?_⟩
    have hnm:∀ i' j',i'<rows.length+new.length→j'<i.size→i'*i.size+j'<(rows.length+new.length)*i.size:=fun i' j' hi' hj'=>row_in hi' hj'
    refine .psl (rows++new) t (ver+1) _ _ c' ⟨ver+1,some (b',c',0)⟩ i.size (fun i j=>if i<rows.length then vals i j else vals2 (i-rows.length) j) hlen (by unfold maxN;omega) (by omega) (by simp [Env.setTok,hkt]) (Nat.le_refl _) (fun r hr=>by rw [hall r hr,hsz])
     (fun _=>⟨by omega,rfl,rfl,rfl,_,te,hat,by rw [List.size_toArray,splice_len _ _ _ (by simpa using hfit)];simpa using hcs,fun i' j' hi' hj'=>?_⟩) (hvals _ (fun i' j' h=>if_pos h) (fun i' j' h=>if_neg (by omega)) ev) hfl'
    rw [List.getElem?_toArray,hspl]
    have h4:=hnm i' j' hi' hj'
    rw [Nat.add_mul] at h4
    by_cases h:i'<rows.length
    ·have h5:=row_in h hj'
     dsimp only
     rw [if_neg (by omega),if_pos h,Array.getElem?_toList]
     exact hcl i' j' h hj'
    ·have hle:rows.length*i.size≤i'*i.size:=Nat.mul_le_mul_right _ (by omega)
     dsimp only
     rw [if_pos ⟨by omega,by omega⟩,if_neg h]
     rw [show i'*i.size+j'-rows.length*i.size=(i'-rows.length)*i.size+j' by rw [Nat.sub_mul];omega]
     exact flatv_get (by omega) hj'
theorem Ndo.appP {c:Call}{t ver tt tx e e':Nat}{y yx ye:Ty}{rows new:List (List AV)}{sp:Sp}{res:List (List AV)}{tk:List Nat}(hS:S.toks[t]?=some ver)(hl:∀ r,r∈rows→r.length=ye.size)(hflat:∀ r,r∈new→∀ x,x∈r→Flat x)
 (hb:rows.length+new.length≤100000000000)(hres:rows++new=res)(htk:S.toks.set t (ver+1)=tk)(ho:ops[i]?=some o)(hw:wantA ops F o=some true)(hop:o.op=.call c)(hcal:c.callee=.builtin .append)(hargs:c.args.toList=[p,q])(htys:c.argTypes.toList=[tt,tx])
 (hp:opr X F p=some (.psl rows t ver))(hq:opr X F q=some (.sl new sp))(hy:X.ty tt=some y)(hyk:y.k=.slc e)(hye:X.ty e=some ye)(hyx:X.ty tx=some yx)(hyxk:yx.k=.slc e')
 (hl':allLen ye.size new=true)(hc:allCellR new=true)(hne:Nat.ble 1 new.length=true):Ndo X N ops i o F (.psl res t (ver+1)) S ⟨S.boxes,tk⟩:=by
 subst hres;subst htk
 intro F' E w a hlk hI hF
 obtain ⟨callee,args,argTypes⟩:=c
 simp only at hcal hargs htys
 subst hcal
 have ha:args=#[p,q]:=by rw [← Array.toList_inj];exact hargs
 have ht:argTypes=#[tt,tx]:=by rw [← Array.toList_inj];exact htys
 subst ha;subst ht
 have hlo:=looks_of hlk
 rw [hop] at hlo
 have r1:=opr_sound hI hF ((opr_congr (X:=X) (F:=F) (F':=F') (o:=p) fun s hs=>hlo s (by simp [Op.operands,Call.operands,hs])).trans hp)
 have r2:=opr_sound hI hF ((opr_congr (X:=X) (F:=F) (F':=F') (o:=q) fun s hs=>hlo s (by simp [Op.operands,Call.operands,hs])).trans hq)
 obtain ⟨d1,hd1,hk1⟩:=(X.ty_ok tt y hy).agg
 simp only [hyk] at hk1
 obtain ⟨rfl,ye',hye',hne0⟩:=hk1
 rw [hye] at hye';cases hye'
 obtain ⟨d2,hd2,hk2⟩:=(X.ty_ok tx yx hyx).agg
 simp only [hyxk] at hk2
 obtain ⟨rfl,_⟩:=hk2
 obtain ⟨v,E',w',h1,h2,h3,h4⟩:=appendP_sound hI (ty:=o.type) hd1 hd2 hye hne0 r1 r2 hS hflat hl (allLen_eq.1 hl') (allCellR_eq.1 hc) (fun h=>by rw [h] at hne;simp at hne) hb
 exact Does.val ho (wanted_of hF (by rw [wantA_congr hlk];exact hw)) (by simp [execOp,hop,resolve,invoke,builtin,h1]) (.inl rfl) ⟨E',h2,h3,h4⟩
class TokC (tk:List Nat)(t v:Nat):Prop where
 h:tk[t]?=some v
instance {v:Nat}{l:List Nat}:TokC (v::l) 0 v:=⟨rfl⟩
instance {x v t:Nat}{l:List Nat} [h:TokC l t v]:TokC (x::l) (t+1) v:=⟨by simpa using h.h⟩
instance {bx:List (List (List AV))}{tk:List Nat}{n m t v:Nat}{rows:List (List AV)} [h1:TokC tk t v] [h2:LeC m t]:FzC ⟨bx,tk⟩ n m (.psl rows t v) (.sl rows .no):=⟨.psl rows t v h2.h h1.h⟩
end
end Go.V
namespace Go.V
open Go Go.Proofs
def erow (e:Eg):List AV:=vi e.f::vi e.t::vi e.k::vb e.y::ncells e.n
def erows (l:List Eg):List (List AV):=l.map erow
theorem erows_len (l:List Eg):(erows l).length=l.length:=by simp [erows]
theorem erows_sz (l:List Eg):∀ r,r∈erows l→r.length=8:=fun r h=>by obtain ⟨e,_,rfl⟩:=List.mem_map.1 h;rfl
theorem erows_snoc (l:List Eg)(e:Eg):erows l++[erow e]=erows (l++[e]):=by simp [erows]
theorem ncells_flat (n:Nd):∀ x,x∈ncells n→Flat x:=fun x hx=>by
 have h:OKL 0 0 (ncells n):=inferInstance
 exact (h.ok x hx).flat rfl rfl
theorem erow_flat (e:Eg):∀ x,x∈erow e→Flat x:=fun x hx=>by
 simp only [erow,List.mem_cons] at hx
 rcases hx with rfl | rfl | rfl | rfl | hx
 ·exact .val _
 ·exact .val _
 ·exact .val _
 ·exact .val _
 ·exact ncells_flat _ x hx
theorem erow1_flat (e:Eg):∀ r,r∈[erow e]→∀ x,x∈r→Flat x:=fun r hr x hx=>by simp at hr;subst hr;exact erow_flat e x hx
instance {n m:Nat}{l:List Eg}:OKR n m (erows l):=⟨fun r hr x hx=>by obtain ⟨e,_,rfl⟩:=List.mem_map.1 hr;exact (erow_flat e x hx).ok⟩
abbrev mbx (p:Nat)(l:List Eg):List (List AV):=[[vi p,.psl (erows l) 0 l.length]]
theorem g_point (p:Nat)(l:List Eg)(h:p≤1000000000000):Hands X 87 [.ptr 0 0 0] ⟨[mbx p l],[l.length]⟩ (vi p) ⟨[mbx (p+1) l],[l.length]⟩:=by
 refine Hands.run Tryz.func87 ?_
 have e1:IntKind.i64.wrap ((p:Int)+1)=((p+1:Nat):Int):=(wrap_small (by omega) (by omega)).trans (by omega)
 have e2:IntKind.i64.wrap (IntKind.i64.wrap ((p:Int)+1)-1)=(p:Int):=by rw [e1];exact (wrap_small (by omega) (by omega)).trans (by omega)
 refine AK.as_ 2 (vi p) ?_ (vint e2)
 refine AK.sto ⟨[mbx (p+1) l],[l.length]⟩ ?_ (by rw [mbx,← e1])
 exact AK.rb Tryz.func87 rfl rfl
theorem g_edge (p:Nat)(l:List Eg)(e:Eg)(hw:wN e.n≤1000000000)(hl:l.length≤1000000000) :
 Hands X 88 [.ptr 0 0 0,vi e.f,vi e.t,vi e.k,vb e.y,.agg (ncells e.n)] ⟨[mbx p l],[l.length]⟩ (.tup []) ⟨[mbx p (l++[e])],[(l++[e]).length]⟩:=by
 refine Hands.run Tryz.func88 ?_
 refine AK.db 73728 ?_
 refine Drv.pg (p_copy e.n hw) ?_
 refine Drv.w (Ndo.appP (ver:=l.length) rfl (erows_sz l) (erow1_flat e) ?_ (erows_snoc l e) rfl rfl rfl rfl rfl rfl rfl rfl rfl rfl rfl rfl rfl rfl rfl rfl rfl) ?_
 ·rw [erows_len];simp;omega
 refine Drv.e ?_
 refine Drv.e ?_
 refine Drv.w (Ndo.store rfl rfl rfl rfl rfl rfl rfl) ?_
 refine Drv.z ?_
 refine AK.sto ⟨[mbx p (l++[e]),[ncells e.n]],[(l++[e]).length]⟩ ?_ (by simp)
 exact AK.fb Tryz.func88 rfl rfl
structure Gb (g:Gr)(k:Nat):Prop where
 pt:g.pt<g.pts
 pts:g.pts+24*k≤100000000000
 es:g.es.length+24*k≤1000000000
theorem Gb.step {g g':Gr}{j k m:Nat}(h:Gb g m)(hl:g.le g' (bG j))(hm:j+k≤m):Gb g' k:=by
 obtain ⟨l,h1,h2,_⟩:=hl.es
 have:=hl.pts
 have:=h.pts
 have:=h.es
 simp only [bG] at h2 this
 refine ⟨hl.pt,?_,?_⟩
 ·have:=hl.pts.2;simp only [bG] at this;omega
 ·rw [h1,List.length_append];omega
theorem Gb.step1 {g g':Gr}{j k m:Nat}(h:Gb g m)(hl:g.le g' j)(hj:j≤6*m)(hm:j+6*k≤6*m):Gb g' k:=by
 obtain ⟨l,h1,h2,_⟩:=hl.es
 have:=hl.pts
 have:=h.pts
 have:=h.es
 refine ⟨hl.pt,by omega,?_⟩
 rw [h1,List.length_append];omega
abbrev gSt (g:Gr):St:=⟨[mbx g.pts g.es],[g.es.length]⟩
def HSt (n:Nd):Prop:=∀ (a:Nd)(g:Gr),Gb g (wN n)→Hands X 132 [.ptr 0 0 0,nd n,vi g.pt] (gSt g) (vi (gS n a g).pt) (gSt (gS n a g))
def HLs (l:List Nd):Prop:=∀ (a:Nd)(g:Gr),Gb g (wL l)→Hands X 86 [.ptr 0 0 0,nd (.mk 30 [] 0 l),vi g.pt] (gSt g) (vi (gL l a g).pt) (gSt (gL l a g))
theorem gL_take {l:List Nd}{i:Nat}{x:Nd}(hx:l[i]?=some x)(a:Nd)(g:Gr):gL (l.take (i+1)) a g=gS x ((l.take i).getLastD a) (gL (l.take i) a g):=by
 rw [List.take_add_one,hx]
 simp only [Option.toList_some]
 rw [gL_app];rfl
theorem wL_take {l:List Nd}{i:Nat}{x:Nd}(hx:l[i]?=some x):wL (l.take i)+wN x≤wL l:=by
 have h:l.take (i+1)=l.take i++[x]:=by rw [List.take_add_one,hx];rfl
 have h1:wL (l.take (i+1))+wL (l.drop (i+1))=wL l:=by rw [← wL_app,List.take_append_drop]
 rw [h,wL_app] at h1
 simp only [wL] at h1;omega
theorem g_list {l:List Nd}(hp:∀ x,x∈l→PS x)(hs:∀ x,x∈l→HSt x):HLs l:=by
 intro a g hb
 have hlw:=len_le_wL l
 have hbe:=hb.es
 refine Hands.run Tryz.func86 ?_
 refine AK.while_ (ι:=Nat) 2 1 (fun i=>i≤l.length) (fun i=>[(7,vi i),(0,.ptr 0 0 0),(2,vi (gL (l.take i) a g).pt),(4,.ptr 1 0 0)])
  (fun i=>⟨[mbx (gL (l.take i) a g).pts (gL (l.take i) a g).es,[ncells (.mk 30 [] 0 l)]],[(gL (l.take i) a g).es.length]⟩) (fun i=>l.length-i) ?_ 0
  (Nat.zero_le _) ⟨rfl,rfl,rfl,rfl,trivial⟩ rfl rfl rfl rfl rfl (fun _=>inferInstance) (fun _=>inferInstance)
 intro i hi IH
 have hgi:g.le (gL (l.take i) a g) (bG (wL (l.take i))):=PSL_le (fun x hx=>hp x (List.mem_of_mem_take hx)) a g hb.pt
 refine AK.ev 100 rfl ?_
 refine AK.if_ (fun h=>?_) (fun h=>?_)
 ·have hlt:i<l.length:=by have:=of_decide_eq_true h;rw [nrows_len] at this;simp at this;omega
  obtain ⟨x,hx⟩:=lget_of_lt l hlt
  have hwt:=wL_take hx
  have hbi:Gb (gL (l.take i) a g) (wN x):=hb.step hgi hwt
  refine AK.ix i (by omega) (nrows_get (l:=l) hx) ?_
  refine AK.hc (τ':=[0]) [0] [0] (hs x (List.mem_of_getElem? hx) ((l.take i).getLastD a) _ hbi) ?_
  rw [← gL_take hx]
  exact IH (i+1) hlt (by omega) _ _ ⟨vint ((wrap_small (by omega) (by omega)).trans (by omega)),rfl,rfl,rfl,trivial⟩ rfl rfl rfl
 ·have:i=l.length:=by have:=of_decide_eq_false h;rw [nrows_len] at this;simp at this;omega
  subst this
  rw [List.take_length] at hgi ⊢
  exact AK.rb Tryz.func86 rfl rfl
theorem g_edge' (p:Nat)(l:List Eg)(f t k:Int)(y:Bool)(n:Nd)(hw:wN n≤1000000000)(hl:l.length≤1000000000) :
 Hands X 88 [.ptr 0 0 0,vi f,vi t,vi k,vb y,nd n] ⟨[mbx p l],[l.length]⟩ (.tup []) ⟨[mbx p (l++[⟨f,t,k,y,n⟩])],[(l++[(⟨f,t,k,y,n⟩:Eg)]).length]⟩:=g_edge p l ⟨f,t,k,y,n⟩ hw hl
theorem g_edge0 (p:Nat)(l:List Eg)(f t k:Int)(y:Bool)(hl:l.length≤1000000000) :
 Hands X 88 [.ptr 0 0 0,vi f,vi t,vi k,vb y,.agg [vi 0,str [],vi 0,.sl [] .no]] ⟨[mbx p l],[l.length]⟩ (.tup []) ⟨[mbx p (l++[⟨f,t,k,y,nd0⟩])],[(l++[(⟨f,t,k,y,nd0⟩:Eg)]).length]⟩:=g_edge p l ⟨f,t,k,y,nd0⟩ (by show wN nd0≤1000000000;decide) hl
abbrev gS3 (p:Nat)(es:List Eg)(n:Nd):St:=⟨[mbx p es,[ncells n],[zN]],[es.length]⟩
set_option maxHeartbeats 2000000 in
theorem g_stmt {n:Nd}(h:PS n):HSt n:=by
 induction h with
 | set s x h hx =>
   intro a g hb
   have b1:=hb.pts
   have b2:=hb.es
   refine Hands.run Tryz.func132 ?_
   rw [gS_set]
   refine AK.no ?_
   refine AK.no ?_
   refine AK.no ?_
   refine AK.hc (τ':=[0]) [0] [0] (g_point g.pts g.es (by omega)) ?_
   refine AK.yes ?_
   refine AK.hc (τ':=[0]) [0] [0] (g_edge' (g.pts+1) g.es g.pt g.pts 1 false (.mk 21 s 0 [x]) (by omega) (by omega)) ?_
   exact AK.rb Tryz.func132 rfl rfl
 | put s x y h hx hy =>
   intro a g hb
   have b1:=hb.pts
   have b2:=hb.es
   refine Hands.run Tryz.func132 ?_
   rw [gS_put]
   refine AK.no ?_
   refine AK.no ?_
   refine AK.no ?_
   refine AK.hc (τ':=[0]) [0] [0] (g_point g.pts g.es (by omega)) ?_
   refine AK.no ?_
   refine AK.yes ?_
   refine AK.hc (τ':=[0]) [0] [0] (g_edge' (g.pts+1) g.es g.pt g.pts 2 false (.mk 22 s 0 [x,y]) (by omega) (by omega)) ?_
   exact AK.rb Tryz.func132 rfl rfl
 | read s h =>
   intro a g hb
   have b1:=hb.pts
   have b2:=hb.es
   refine Hands.run Tryz.func132 ?_
   rw [gS_read]
   refine AK.no ?_
   refine AK.no ?_
   refine AK.no ?_
   refine AK.hc (τ':=[0]) [0] [0] (g_point g.pts g.es (by omega)) ?_
   refine AK.no ?_
   refine AK.no ?_
   refine AK.yes ?_
   refine AK.hc (τ':=[0]) [0] [0] (g_edge' (g.pts+1) g.es g.pt g.pts 3 false (.mk 23 s 0 []) (by omega) (by omega)) ?_
   exact AK.rb Tryz.func132 rfl rfl
 | ifs c l l' hc hl hl' ihl ihl' =>
   intro a g hb
   have b1:=hb.pts
   have b2:=hb.es
   refine Hands.run Tryz.func132 ?_
   have hwc:wN c<wN (.mk 24 [] 0 [c,.mk 30 [] 0 l,.mk 30 [] 0 l']):=wN_kid (n:=.mk 24 [] 0 [c,.mk 30 [] 0 l,.mk 30 [] 0 l']) (by simp)
   have hws:wN (.mk 24 [] 0 [c,.mk 30 [] 0 l,.mk 30 [] 0 l'])=3+wN c+wL l+wL l':=by simp only [wN,wL,List.length_nil];omega
   rw [gS_if]
   unfold gIf
   refine AK.no ?_
   refine AK.yes ?_
   refine AK.hc (τ':=[0]) [0] [0] (g_point g.pts g.es (by omega)) ?_
   refine AK.sto (gS3 (g.pts+1) g.es (.mk 24 [] 0 [c,.mk 30 [] 0 l,.mk 30 [] 0 l'])) ?_
   refine AK.ix 0 (by omega) (nrows_get (l:=[c,.mk 30 [] 0 l,.mk 30 [] 0 l']) rfl) ?_
   refine AK.hc (τ':=[0]) [0] [0] (g_edge' (g.pts+1) g.es g.pt g.pts 4 true c (by omega) (by omega)) ?_
   refine AK.sto (gS3 (g.pts+1) (g.es++[⟨g.pt,g.pts,4,true,c⟩]) (.mk 24 [] 0 [c,.mk 30 [] 0 l,.mk 30 [] 0 l'])) ?_
   have l1:=way_le g.pt c true hb.pt
   have c1:Gb (gWay g.pt c true g) (wL l):=hb.step1 l1 (by omega) (by omega)
   have a2:=PSL_le hl nd0 _ c1.pt
   have i1:Hands X 86 [.ptr 0 0 0,nd (.mk 30 [] 0 l),vi g.pts] ⟨[mbx (g.pts+1) (g.es++[⟨g.pt,g.pts,4,true,c⟩])],[(g.es++[(⟨g.pt,g.pts,4,true,c⟩:Eg)]).length]⟩ (vi (gL l nd0 (gWay g.pt c true g)).pt) (gSt (gL l nd0 (gWay g.pt c true g))):=g_list hl ihl nd0 (gWay g.pt c true g) c1
   refine AK.ix 1 (by omega) (nrows_get (l:=[c,.mk 30 [] 0 l,.mk 30 [] 0 l']) rfl) ?_
   refine AK.hc (τ':=[0]) [0] [0] i1 ?_
   refine AK.sto (gS3 (gL l nd0 (gWay g.pt c true g)).pts (gL l nd0 (gWay g.pt c true g)).es (.mk 24 [] 0 [c,.mk 30 [] 0 l,.mk 30 [] 0 l'])) ?_
   have l12:=l1.trans a2 (Nat.le_refl _)
   generalize gL l nd0 (gWay g.pt c true g)=g2 at *
   have c2:Gb g2 (wL l'+1):=hb.step1 l12 (by simp only [bG];omega) (by simp only [bG];omega)
   have b3:=c2.pts
   have b4:=c2.es
   refine AK.hc (τ':=[0]) [0] [0] (g_point g2.pts g2.es (by omega)) ?_
   refine AK.sto (gS3 (g2.pts+1) g2.es (.mk 24 [] 0 [c,.mk 30 [] 0 l,.mk 30 [] 0 l'])) ?_
   refine AK.ix 0 (by omega) (nrows_get (l:=[c,.mk 30 [] 0 l,.mk 30 [] 0 l']) rfl) ?_
   refine AK.hc (τ':=[0]) [0] [0] (g_edge' (g2.pts+1) g2.es g.pt g2.pts 4 false c (by omega) (by omega)) ?_
   refine AK.sto (gS3 (g2.pts+1) (g2.es++[⟨g.pt,g2.pts,4,false,c⟩]) (.mk 24 [] 0 [c,.mk 30 [] 0 l,.mk 30 [] 0 l'])) ?_
   have hp2:g.pt<g2.pts:=Nat.lt_of_lt_of_le hb.pt l12.pts.1
   have l3:=way_le g.pt c false hp2
   have c3:Gb (gWay g.pt c false g2) (wL l'):=c2.step1 l3 (by omega) (by omega)
   have a4:=PSL_le hl' nd0 _ c3.pt
   have i3:Hands X 86 [.ptr 0 0 0,nd (.mk 30 [] 0 l'),vi g2.pts] ⟨[mbx (g2.pts+1) (g2.es++[⟨g.pt,g2.pts,4,false,c⟩])],[(g2.es++[(⟨g.pt,g2.pts,4,false,c⟩:Eg)]).length]⟩ (vi (gL l' nd0 (gWay g.pt c false g2)).pt) (gSt (gL l' nd0 (gWay g.pt c false g2))):=g_list hl' ihl' nd0 (gWay g.pt c false g2) c3
   refine AK.ix 2 (by omega) (nrows_get (l:=[c,.mk 30 [] 0 l,.mk 30 [] 0 l']) rfl) ?_
   refine AK.hc (τ':=[0]) [0] [0] i3 ?_
   refine AK.sto (gS3 (gL l' nd0 (gWay g.pt c false g2)).pts (gL l' nd0 (gWay g.pt c false g2)).es (.mk 24 [] 0 [c,.mk 30 [] 0 l,.mk 30 [] 0 l'])) ?_
   have l34:=l3.trans a4 (Nat.le_refl _)
   generalize gL l' nd0 (gWay g.pt c false g2)=g4 at *
   have c4:Gb g4 0:=c2.step1 l34 (by simp only [bG];omega) (by simp only [bG];omega)
   have b5:=c4.pts
   have b6:=c4.es
   have b7:=l34.es
   refine AK.hc (τ':=[0]) [0] [0] (g_point g4.pts g4.es (by omega)) ?_
   refine AK.sto (gS3 (g4.pts+1) g4.es (.mk 24 [] 0 [c,.mk 30 [] 0 l,.mk 30 [] 0 l'])) ?_
   refine AK.hc (τ':=[0]) [0] [0] (g_edge0 (g4.pts+1) g4.es g2.pt g4.pts 6 false (by omega)) ?_
   refine AK.sto (gS3 (g4.pts+1) (g4.es++[⟨g2.pt,g4.pts,6,false,nd0⟩]) (.mk 24 [] 0 [c,.mk 30 [] 0 l,.mk 30 [] 0 l'])) ?_
   refine AK.hc (τ':=[0]) [0] [0] (g_edge0 (g4.pts+1) (g4.es++[⟨g2.pt,g4.pts,6,false,nd0⟩]) g4.pt g4.pts 6 false ?_) ?_
   ·obtain ⟨e1,e2,e3,_⟩:=l34.es
    have:=c2.es
    simp only [bG] at e3
    rw [List.length_append,e2,List.length_append]
    simp only [List.length_singleton];omega
   exact AK.rb Tryz.func132 rfl rfl
 | whil c l hc hl ihl =>
   intro a g hb
   have b1:=hb.pts
   have b2:=hb.es
   refine Hands.run Tryz.func132 ?_
   have hwc:wN c<wN (.mk 25 [] 0 [c,.mk 30 [] 0 l]):=wN_kid (n:=.mk 25 [] 0 [c,.mk 30 [] 0 l]) (by simp)
   have hws:wN (.mk 25 [] 0 [c,.mk 30 [] 0 l])=2+wN c+wL l:=by simp only [wN,wL,List.length_nil];omega
   have hwn:=wN_eq c
   rw [gS_wh]
   unfold gWh
   refine AK.no ?_
   refine AK.no ?_
   refine AK.yes ?_
   refine AK.hc (τ':=[0]) [0] [0] (g_point g.pts g.es (by omega)) ?_
   refine AK.sto (gS3 (g.pts+1) g.es (.mk 25 [] 0 [c,.mk 30 [] 0 l])) ?_
   refine AK.hc (τ':=[0]) [0] [0] (g_edge0 (g.pts+1) g.es g.pt g.pts 6 false (by omega)) ?_
   refine AK.sto (gS3 (g.pts+1) (g.es++[⟨g.pt,g.pts,6,false,nd0⟩]) (.mk 25 [] 0 [c,.mk 30 [] 0 l])) ?_
   refine AK.hc (τ':=[0]) [0] [0] (g_point (g.pts+1) _ (by omega)) ?_
   refine AK.sto (gS3 (g.pts+1+1) (g.es++[⟨g.pt,g.pts,6,false,nd0⟩]) (.mk 25 [] 0 [c,.mk 30 [] 0 l])) ?_
   refine AK.ix 0 (by omega) (nrows_get (l:=[c,.mk 30 [] 0 l]) rfl) ?_
   refine AK.hc (τ':=[0]) [0] [0] (g_edge' (g.pts+1+1) (g.es++[⟨g.pt,g.pts,6,false,nd0⟩]) g.pts (g.pts+1:Nat) 4 true c (by omega) (by simp;omega)) ?_
   refine AK.sto (gS3 (g.pts+1+1) (g.es++[⟨g.pt,g.pts,6,false,nd0⟩]++[⟨g.pts,(g.pts+1:Nat),4,true,c⟩]) (.mk 25 [] 0 [c,.mk 30 [] 0 l])) ?_
   have l1:=leaf_le 6 nd0 hb.pt
   have l2:=loop_le a (.mk 25 [] 0 [c,.mk 30 [] 0 l]) l1.pt
   have l12:=l1.trans l2 (Nat.le_refl _)
   have hh:g.pts<(gLoop a (.mk 25 [] 0 [c,.mk 30 [] 0 l]) (gLeaf 6 nd0 g)).pts:=by simp [gLoop,gLeaf]
   have l3:=way_le g.pts c true hh
   have l123:=l12.trans l3 (Nat.le_refl _)
   have c1:Gb (gWay g.pts c true (gLoop a (.mk 25 [] 0 [c,.mk 30 [] 0 l]) (gLeaf 6 nd0 g))) (wL l+1):=hb.step1 l123 (by omega) (by omega)
   have c1':Gb (gWay g.pts c true (gLoop a (.mk 25 [] 0 [c,.mk 30 [] 0 l]) (gLeaf 6 nd0 g))) (wL l):=⟨c1.pt,by have:=c1.pts;omega,by have:=c1.es;omega⟩
   have a2:=PSL_le hl nd0 _ c1'.pt
   have i1:Hands X 86 [.ptr 0 0 0,nd (.mk 30 [] 0 l),vi (g.pts+1:Nat)] ⟨[mbx (g.pts+1+1) (g.es++[⟨g.pt,g.pts,6,false,nd0⟩]++[⟨g.pts,(g.pts+1:Nat),4,true,c⟩])],[(g.es++[(⟨g.pt,g.pts,6,false,nd0⟩:Eg)]++[(⟨g.pts,(g.pts+1:Nat),4,true,c⟩:Eg)]).length]⟩
    (vi (gL l nd0 (gWay g.pts c true (gLoop a (.mk 25 [] 0 [c,.mk 30 [] 0 l]) (gLeaf 6 nd0 g)))).pt) (gSt (gL l nd0 (gWay g.pts c true (gLoop a (.mk 25 [] 0 [c,.mk 30 [] 0 l]) (gLeaf 6 nd0 g))))):=g_list hl ihl nd0 _ c1'
   refine AK.ix 1 (by omega) (nrows_get (l:=[c,.mk 30 [] 0 l]) rfl) ?_
   refine AK.hc (τ':=[0]) [0] [0] i1 ?_
   refine AK.sto (gS3 (gL l nd0 (gWay g.pts c true (gLoop a (.mk 25 [] 0 [c,.mk 30 [] 0 l]) (gLeaf 6 nd0 g)))).pts (gL l nd0 (gWay g.pts c true (gLoop a (.mk 25 [] 0 [c,.mk 30 [] 0 l]) (gLeaf 6 nd0 g)))).es (.mk 25 [] 0 [c,.mk 30 [] 0 l])) ?_
   have l1234:=l123.trans a2 (Nat.le_refl _)
   generalize gL l nd0 (gWay g.pts c true (gLoop a (.mk 25 [] 0 [c,.mk 30 [] 0 l]) (gLeaf 6 nd0 g)))=g2 at *
   have c2:Gb g2 0:=c1.step1 a2 (by simp only [bG];omega) (by simp only [bG];omega)
   have b3:=c2.pts
   have b4:=c2.es
   have b5:g2.es.length+1≤1000000000:=by
    obtain ⟨e1,e2,e3,_⟩:=a2.es
    have:=c1.es
    simp only [bG] at e3
    rw [e2,List.length_append];omega
   refine AK.hc (τ':=[0]) [0] [0] (g_edge0 g2.pts g2.es g2.pt g.pts 6 false (by omega)) ?_
   refine AK.sto (gS3 g2.pts (g2.es++[⟨g2.pt,g.pts,6,false,nd0⟩]) (.mk 25 [] 0 [c,.mk 30 [] 0 l])) ?_
   refine AK.hc (τ':=[0]) [0] [0] (g_point g2.pts _ (by omega)) ?_
   refine AK.sto (gS3 (g2.pts+1) (g2.es++[⟨g2.pt,g.pts,6,false,nd0⟩]) (.mk 25 [] 0 [c,.mk 30 [] 0 l])) ?_
   refine AK.ix 0 (by omega) (nrows_get (l:=[c,.mk 30 [] 0 l]) rfl) ?_
   refine AK.hc (τ':=[0]) [0] [0] (g_edge' (g2.pts+1) (g2.es++[⟨g2.pt,g.pts,6,false,nd0⟩]) g.pts g2.pts 4 false c (by omega) (by simp;omega)) ?_
   exact AK.rb Tryz.func132 rfl rfl
 | check c hc =>
   intro a g hb
   have b1:=hb.pts
   have b2:=hb.es
   refine Hands.run Tryz.func132 ?_
   have hwc:wN c<wN (.mk 27 [] 0 [c]):=wN_kid (n:=.mk 27 [] 0 [c]) (by simp)
   rw [gS_check]
   refine AK.no ?_
   refine AK.no ?_
   refine AK.no ?_
   refine AK.hc (τ':=[0]) [0] [0] (g_point g.pts g.es (by omega)) ?_
   refine AK.no ?_
   refine AK.no ?_
   refine AK.no ?_
   refine AK.yes ?_
   refine AK.ix 0 (by omega) (nrows_get (l:=[c]) rfl) ?_
   refine AK.hc (τ':=[0]) [0] [0] (g_edge' (g.pts+1) g.es g.pt g.pts 5 false c (by omega) (by omega)) ?_
   exact AK.rb Tryz.func132 rfl rfl
 | skip =>
   intro a g hb
   have b1:=hb.pts
   have b2:=hb.es
   refine Hands.run Tryz.func132 ?_
   rw [gS_skip]
   refine AK.no ?_
   refine AK.no ?_
   refine AK.no ?_
   refine AK.hc (τ':=[0]) [0] [0] (g_point g.pts g.es (by omega)) ?_
   refine AK.no ?_
   refine AK.no ?_
   refine AK.no ?_
   refine AK.no ?_
   refine AK.hc (τ':=[0]) [0] [0] (g_edge0 (g.pts+1) g.es g.pt g.pts 6 false (by omega)) ?_
   exact AK.rb Tryz.func132 rfl rfl
 | stop =>
   intro a g hb
   have b1:=hb.pts
   have b2:=hb.es
   refine Hands.run Tryz.func132 ?_
   rw [gS_stop]
   refine AK.yes ?_
   refine AK.hc (τ':=[0]) [0] [0] (g_edge0 g.pts g.es g.pt (-1) 7 false (by omega)) ?_
   refine AK.hc (τ':=[0]) [0] [0] (g_point g.pts _ (by omega)) ?_
   exact AK.rb Tryz.func132 rfl rfl
def toExit (x:Int)(e:Eg):Eg:=if e.t<0 then { e with t:=x } else e
def mixE (x:Int)(l:List Eg)(i:Nat):List Eg:=(l.take i).map (toExit x)++l.drop i
def verE (l:List Eg)(i:Nat):Nat:=l.length+((l.take i).filter fun e=>decide (e.t<0)).length
theorem mixE_len (x:Int)(l:List Eg)(i:Nat):(mixE x l i).length=l.length:=by simp [mixE];omega
theorem mixE_zero (x:Int)(l:List Eg):mixE x l 0=l:=by simp [mixE]
theorem mixE_all (x:Int)(l:List Eg):mixE x l l.length=l.map (toExit x):=by simp [mixE]
theorem verE_zero (l:List Eg):verE l 0=l.length:=by simp [verE]
theorem mixE_get {x:Int}{l:List Eg}{i:Nat}{e:Eg}(h:l[i]?=some e):(mixE x l i)[i]?=some e:=by
 have hi:=lt_of_get h
 simp only [mixE]
 rw [List.getElem?_append_right (by simp;omega),List.getElem?_drop]
 simp [show i+(i-min i l.length)=i by omega,h]
theorem mixE_set {x:Int}{l:List Eg}{i:Nat}{e:Eg}(h:l[i]?=some e):(mixE x l i).set i (toExit x e)=mixE x l (i+1):=by
 have hi:=lt_of_get h
 simp only [mixE]
 rw [List.set_append_right _ _ (by simp;omega),List.take_add_one,h,List.map_append,drop_cons h]
 simp [show i-min i l.length=0 by omega]
theorem mixE_keep {x:Int}{l:List Eg}{i:Nat}{e:Eg}(h:l[i]?=some e)(ht:¬ e.t<0):mixE x l (i+1)=mixE x l i:=by
 rw [← mixE_set h]
 have:toExit x e=e:=by simp [toExit,ht]
 rw [this]
 apply List.ext_getElem?
 intro j
 rw [List.getElem?_set]
 split
 ·rename_i hj;subst hj
  rw [mixE_get h];simp [mixE_len,lt_of_get h]
 ·rfl
theorem verE_neg {l:List Eg}{i:Nat}{e:Eg}(h:l[i]?=some e)(ht:e.t<0):verE l (i+1)=verE l i+1:=by
 simp only [verE];rw [List.take_add_one,h];simp [ht];omega
theorem verE_pos {l:List Eg}{i:Nat}{e:Eg}(h:l[i]?=some e)(ht:¬ e.t<0):verE l (i+1)=verE l i:=by
 simp only [verE];rw [List.take_add_one,h];simp [ht]
def gAll (l:List Nd):Gr:=gLeaf 6 nd0 (gL l nd0 ⟨1,0,[],[],[],0⟩)
def gEs (l:List Nd):List Eg:=(gAll l).es.map (toExit (gAll l).pt)
def planL (n:Nd):List Nd:=(lastN (plainM n)).kids
theorem FP_plan {n:Nd}(h:FP n):∃ ds,plainM n=.mk 40 [] 0 (ds++[.mk 30 [] 0 (planL n)])∧n.kids.dropLast=ds∧(∀ x,x∈planL n→PS x)∧wL (planL n)≤10*wN n:=by
 have hw:=(plain_w n).1
 cases h with
 | mk ds l hd hl =>
   have e1:planL (.mk 40 [] 0 (ds++[.mk 30 [] 0 l]))=plainML l:=by
    unfold planL lastN
    rw [plain_P hd,kids_mk]
    simp [kids_mk]
   rw [e1]
   refine ⟨ds,plain_P hd,by rw [kids_mk];simp,plainML_PS fun x hx=>FS_PS (hl x hx),?_⟩
   rw [plain_P hd] at hw
   simp only [wN,wL,wL_app] at hw ⊢
   omega
theorem erow_set (e:Eg)(x:Int)(h:e.t<0):(erow e).take 1++[vi x]++(erow e).drop (1+[vi x].length)=erow (toExit x e):=by simp [erow,toExit,h]
theorem erows_set (l:List Eg)(i:Nat)(e:Eg):(erows l).set i (erow e)=erows (l.set i e):=by simp [erows,List.map_set]
theorem erows_get {l:List Eg}{i:Nat}{e:Eg}(h:l[i]?=some e):(erows l)[i]?=some (erow e):=by simp [erows,h]
abbrev gBx (n:Nd)(p:Nat)(rows:List (List AV))(v:Nat):List (List (List AV)):=[[ncells n],[[vi 0,.sl [] .tight]],[ncells (plainM n)],[[vi p,.psl rows 0 v]]]
theorem g_graph (n:Nd)(h:FP n)(hw:wN n≤1000000):Pure X 53 [nd n] (.agg [vi (gAll (planL n)).pts,.sl (erows (gEs (planL n))) .no]):=by
 obtain ⟨ds,hpl,_,hps,hwl⟩:=FP_plan h
 have hpw:=(plain_w n).1
 have hdl:IntKind.i64.wrap (((nrows (plainM n).kids).length:Int)-1)=ds.length:=by
  have hkl:=kids_le_w (plainM n)
  have e:(nrows (plainM n).kids).length=ds.length+1:=by rw [nrows_len,hpl,kids_mk];simp
  rw [nrows_len] at e
  rw [nrows_len,wrap_small (by omega) (by omega)];omega
 have hlast:(nrows (plainM n).kids)[(IntKind.i64.wrap (((nrows (plainM n).kids).length:Int)-1)).toNat]?=some (ncells (.mk 30 [] 0 (planL n))):=by
  rw [hdl,hpl,kids_mk]
  exact nrows_get (by simp)
 have h0:0≤IntKind.i64.wrap (((nrows (plainM n).kids).length:Int)-1):=by rw [hdl];omega
 refine Pure.run Tryz.func53 ?_
 refine AK.pc (p_plainProg n h (by omega)) ?_
 refine AK.mintP (bx:=gBx n 0 [] 0) (tk:=[0]) 3 0 1 ?_
 refine AK.as_ 4 (.ptr 3 0 0) ?_
 refine AK.db 3072 ?_
 refine Drv.ig _ h0 hlast ?_
 refine Drv.wl (Ndo.hd (τ':=[0]) [3] [0] (g_point 0 [] (by omega))) ?_ ?_
 ·exact strip_eq (Ndo.ev rfl rfl rfl) (strip_eq (Ndo.ev rfl rfl rfl) (strip_eq (Ndo.ev rfl rfl rfl) allN))
 have c0:Gb ⟨1,0,[],[],[],0⟩ (wL (planL n)):=⟨by decide,by show 1+_≤_;omega,by show 0+_≤_;omega⟩
 have l0:=PSL_le hps nd0 _ c0.pt
 have i0:Hands X 86 [.ptr 0 0 0,nd (.mk 30 [] 0 (planL n)),vi (0:Nat)] ⟨[mbx (0+1) []],[([]:List Eg).length]⟩ (vi (gL (planL n) nd0 ⟨1,0,[],[],[],0⟩).pt) (gSt (gL (planL n) nd0 ⟨1,0,[],[],[],0⟩)) :=
  g_list hps (fun x hx=>g_stmt (hps x hx)) nd0 _ c0
 have c1:Gb (gL (planL n) nd0 ⟨1,0,[],[],[],0⟩) 0:=c0.step l0 (by omega)
 generalize hg:gL (planL n) nd0 ⟨1,0,[],[],[],0⟩=g at *
 refine Drv.w (Ndo.hd (τ':=[0]) [3] [0] i0) ?_
 refine Drv.e ?_
 refine Drv.z ?_
 have b1:=c1.pts
 have b2:=c1.es
 refine AK.hc (τ':=[0]) [3] [0] (g_point g.pts g.es (by omega)) ?_
 refine AK.hc (τ':=[0]) [3] [0] (g_edge0 (g.pts+1) g.es g.pt g.pts 6 false (by omega)) ?_
 have hG:gAll (planL n)=gLeaf 6 nd0 g:=by unfold gAll;rw [hg]
 have hE:gEs (planL n)=(g.es++[(⟨g.pt,g.pts,6,false,nd0⟩:Eg)]).map (toExit g.pts):=by unfold gEs;rw [hG];rfl
 rw [hE,hG]
 show AK X _ _ _ _ fun e S=>e=.ret (.agg [vi (g.pts+1:Nat),.sl (erows ((g.es++[(⟨g.pt,g.pts,6,false,nd0⟩:Eg)]).map (toExit g.pts))) .no])∧S=⟨[],[]⟩
 have hel:(g.es++[(⟨g.pt,g.pts,6,false,nd0⟩:Eg)]).length≤1000000001:=by simp;omega
 generalize g.es++[(⟨g.pt,g.pts,6,false,nd0⟩:Eg)]=es at *
 refine AK.sto ⟨gBx n (g.pts+1) (erows (mixE g.pts es 0)) (verE es 0),[verE es 0]⟩ ?_ (by rw [mixE_zero,verE_zero];rfl)
 refine AK.while_ (ι:=Nat) 4 1 (fun i=>i≤es.length) (fun i=>[(7,vi i),(4,.ptr 3 0 0),(6,vi g.pts),(2,.ptr 1 0 0)])
  (fun i=>⟨gBx n (g.pts+1) (erows (mixE g.pts es i)) (verE es i),[verE es i]⟩) (fun i=>es.length-i) ?_ 0
  (Nat.zero_le _) ⟨rfl,rfl,rfl,rfl,trivial⟩ rfl rfl rfl rfl rfl (fun _=>inferInstance) (fun _=>inferInstance)
 intro i hi IH
 refine AK.ev 100 rfl ?_
 refine AK.if_ (fun h=>?_) (fun h=>?_)
 ·have hlt:i<es.length:=by have:=of_decide_eq_true h;rw [erows_len,mixE_len] at this;omega
  obtain ⟨e,he⟩:=lget_of_lt es hlt
  have hil:i<(erows (mixE g.pts es i)).length:=by rw [erows_len,mixE_len];exact hlt
  have hrow:=erows_get (mixE_get (x:=g.pts) he)
  refine AK.op (Ndo.ixP (n:=i) hil rfl (erows_sz _) rfl rfl rfl rfl rfl rfl rfl rfl) ?_
  refine AK.op (Ndo.ldP (x:=vi e.t) hrow rfl (by show 1+1≤8;omega) rfl rfl rfl rfl rfl rfl) ?_
  refine AK.if_ (fun h2=>?_) (fun h2=>?_)
  ·have h2':e.t<0:=of_decide_eq_true h2
   refine AK.op (Ndo.ixP (n:=i) hil rfl (erows_sz _) rfl rfl rfl rfl rfl rfl rfl rfl) ?_
   refine AK.op (Ndo.stP (b:=3) (r:=0) (g:=1) (xs:=[vi g.pts]) (bx:=gBx n (g.pts+1) (erows (mixE g.pts es (i+1))) (verE es (i+1))) (tk':=[verE es (i+1)]) rfl hrow (by show 1+1≤8;omega) (fun z hz=>by simp at hz;subst hz;exact .val _) rfl rfl rfl
    ?_ ?_ rfl rfl rfl rfl rfl rfl rfl rfl) ?_
   ·show gBx n (g.pts+1) ((erows (mixE g.pts es i)).set i ((erow e).take 1++[vi g.pts]++(erow e).drop (1+[vi g.pts].length))) (verE es i+1)=_
    rw [erow_set e _ h2',erows_set,mixE_set he,← verE_neg he h2']
   ·show [verE es i+1]=_
    rw [← verE_neg he h2']
   exact IH (i+1) hlt (by omega) _ _ ⟨vint ((wrap_small (by omega) (by omega)).trans (by omega)),rfl,rfl,rfl,trivial⟩ rfl rfl rfl
  ·have h2':¬ e.t<0:=of_decide_eq_false h2
   rw [← mixE_keep (x:=g.pts) he h2',← verE_pos he h2']
   exact IH (i+1) hlt (by omega) _ _ ⟨vint ((wrap_small (by omega) (by omega)).trans (by omega)),rfl,rfl,rfl,trivial⟩ rfl rfl rfl
 ·have:i=es.length:=by have:=of_decide_eq_false h;rw [erows_len,mixE_len] at this;omega
  subst this
  rw [mixE_all]
  refine AK.db 512 ?_
  refine Drv.w (Ndo.store rfl rfl rfl rfl rfl rfl rfl) ?_
  refine Drv.z ?_
  exact AK.rz Tryz.func53 rfl
def irs (l:List Nat):List (List AV):=l.map fun (i:Nat)=>[vi i]
theorem irs_len (l:List Nat):(irs l).length=l.length:=by simp [irs]
theorem irs_al (l:List Nat):allLen 1 (irs l)=true:=allLen_map (f:=fun (i:Nat)=>[vi i]) (fun _=>rfl) l
theorem irs_snoc (l:List Nat)(i:Nat):irs l++[[vi i]]=irs (l++[i]):=by simp [irs]
instance {n m:Nat}{l:List Nat}:OKR n m (irs l):=⟨fun r hr x hx=>by obtain ⟨e,_,rfl⟩:=List.mem_map.1 hr;simp at hx;subst hx;exact .val _⟩
def lrow (l:Lp):List AV:=ncells l.a++ncells l.l++[vi l.h,vi l.x]
def lrows (l:List Lp):List (List AV):=l.map lrow
theorem lrows_len (l:List Lp):(lrows l).length=l.length:=by simp [lrows]
theorem lrows_sz (l:List Lp):∀ r,r∈lrows l→r.length=10:=fun r h=>by obtain ⟨e,_,rfl⟩:=List.mem_map.1 h;rfl
theorem lrows_snoc (l:List Lp)(e:Lp):lrows l++[lrow e]=lrows (l++[e]):=by simp [lrows]
theorem lrow_flat (e:Lp):∀ x,x∈lrow e→Flat x:=fun x hx=>by
 simp only [lrow,List.mem_append,List.mem_cons,List.not_mem_nil,or_false] at hx
 rcases hx with (hx | hx) | rfl | rfl
 ·exact ncells_flat _ x hx
 ·exact ncells_flat _ x hx
 ·exact .val _
 ·exact .val _
theorem lrow1_flat (e:Lp):∀ r,r∈[lrow e]→∀ x,x∈r→Flat x:=fun r hr x hx=>by simp at hr;subst hr;exact lrow_flat e x hx
instance {n m:Nat}{l:List Lp}:OKR n m (lrows l):=⟨fun r hr x hx=>by obtain ⟨e,_,rfl⟩:=List.mem_map.1 hr;exact (lrow_flat e x hx).ok⟩
abbrev mx (p:Nat)(es:List Eg)(at_:Nat)(sts:List Nat)(lps:List Lp)(v:Nat):List (List AV):=[[vi p,.psl (erows es) 0 es.length,vi at_,.sl (irs sts) (.tok 1),.psl (lrows lps) 2 v]]
abbrev mS (p:Nat)(es:List Eg)(at_:Nat)(sts:List Nat)(lps:List Lp)(v:Nat):St:=⟨[mx p es at_ sts lps v],[es.length,sts.length,v]⟩
def iE (g:Gr):List Eg:=g.es.map (toExit 0)
abbrev gM (g:Gr):St:=mS g.pts (iE g) g.pt g.sts g.lps g.ver
theorem iE_len (g:Gr):(iE g).length=g.es.length:=by simp [iE]
theorem iE_leaf (k:Int)(n:Nd)(g:Gr):iE (gLeaf k n g)=iE g++[⟨g.pt,g.pts,k,false,n⟩]:=by simp [iE,gLeaf,toExit];intro h;omega
theorem iE_way (p:Nat)(c:Nd)(y:Bool)(g:Gr):iE (gWay p c y g)=iE g++[⟨p,g.pts,4,y,c⟩]:=by simp [iE,gWay,toExit];intro h;omega
theorem iE_stop (g:Gr):iE (gStop g)=iE g++[⟨g.pt,0,7,false,nd0⟩]:=by simp [iE,gStop,toExit]
theorem iE_back (h:Nat)(g:Gr):iE (gBack h g)=iE g++[⟨g.pt,h,6,false,nd0⟩]:=by simp [iE,gBack,gEdge,toExit];intro h;omega
theorem iE_join (p:Nat)(g:Gr):iE (gJoin p g)=iE g++[⟨p,g.pts,6,false,nd0⟩]++[⟨g.pt,g.pts,6,false,nd0⟩]:=by simp [iE,gJoin,gEdge,toExit];intro h;omega
section
variable (p:Nat)(es:List Eg)(a:Nat)(sts:List Nat)(lps:List Lp)(v:Nat)
theorem j_point (h:p≤1000000000000):Hands X 242 [.ptr 0 0 0] (mS p es a sts lps v) (vi p) (mS (p+1) es a sts lps v):=by
 refine Hands.run Tryz.func242 ?_
 have e1:IntKind.i64.wrap ((p:Int)+1)=((p+1:Nat):Int):=(wrap_small (by omega) (by omega)).trans (by omega)
 have e2:IntKind.i64.wrap (IntKind.i64.wrap ((p:Int)+1)-1)=(p:Int):=by rw [e1];exact (wrap_small (by omega) (by omega)).trans (by omega)
 refine AK.as_ 2 (vi p) ?_ (vint e2)
 refine AK.sto (mS (p+1) es a sts lps v) ?_ (by rw [mS,mx,← e1])
 exact AK.rb Tryz.func242 rfl rfl
theorem j_edge (e:Eg)(hp:PlO e.n)(hpl:plainM e.n=e.n)(hw:wN e.n≤1000000000)(hl:es.length≤1000000000) :
 Hands X 243 [.ptr 0 0 0,vi e.f,vi e.t,vi e.k,vb e.y,nd e.n] (mS p es a sts lps v) (.tup []) (mS p (es++[e]) a sts lps v):=by
 have hq:=q_plainOf e.n hp hw
 rw [hpl] at hq
 refine Hands.run Tryz.func243 ?_
 refine AK.db 278528 ?_
 refine Drv.pg hq ?_
 refine Drv.w (Ndo.appP (ver:=es.length) rfl (erows_sz es) (erow1_flat e) ?_ (erows_snoc es e) rfl rfl rfl rfl rfl rfl rfl rfl rfl rfl rfl rfl rfl rfl rfl rfl rfl) ?_
 ·rw [erows_len];simp;omega
 refine Drv.e ?_
 refine Drv.e ?_
 refine Drv.e ?_
 refine Drv.w (Ndo.store rfl rfl rfl rfl rfl rfl rfl) ?_
 refine Drv.z ?_
 refine AK.sto ⟨[mx p (es++[e]) a sts lps v,[ncells e.n]],[(es++[e]).length,sts.length,v]⟩ ?_ (by simp)
 exact AK.fb Tryz.func243 rfl rfl
theorem j_edge' (f t k:Int)(y:Bool)(n:Nd)(hp:PlO n)(hpl:plainM n=n)(hw:wN n≤1000000000)(hl:es.length≤1000000000) :
 Hands X 243 [.ptr 0 0 0,vi f,vi t,vi k,vb y,nd n] (mS p es a sts lps v) (.tup []) (mS p (es++[⟨f,t,k,y,n⟩]) a sts lps v):=j_edge p es a sts lps v ⟨f,t,k,y,n⟩ hp hpl hw hl
theorem j_edge0 (f t k:Int)(y:Bool)(hl:es.length≤1000000000) :
 Hands X 243 [.ptr 0 0 0,vi f,vi t,vi k,vb y,.agg [vi 0,str [],vi 0,.sl [] .no]] (mS p es a sts lps v) (.tup []) (mS p (es++[⟨f,t,k,y,nd0⟩]) a sts lps v) :=
 j_edge p es a sts lps v ⟨f,t,k,y,nd0⟩ .leaf (by show plainM nd0=nd0;rw [nd0,plainM_mk,plainML_nil]) (by show wN nd0≤1000000000;decide) hl
end
theorem j_goOn (g:Gr)(k:Int)(n:Nd)(hp:PlO n)(hpl:plainM n=n)(hw:wN n≤1000000000)(h1:g.pts≤1000000000000)(hl:g.es.length≤1000000000) :
 Hands X 196 [.ptr 0 0 0,vi k,nd n] (gM g) (.tup []) (gM (gLeaf k n g)):=by
 refine Hands.run Tryz.func196 ?_
 refine AK.hc (τ':=[0,1,2]) [0] [0,1,2] (j_point g.pts (iE g) g.pt g.sts g.lps g.ver h1) ?_
 refine AK.db 256 ?_
 refine Drv.w (Ndo.hd (τ':=[0,1,2]) [0] [0,1,2] (j_edge' (g.pts+1) (iE g) g.pt g.sts g.lps g.ver g.pt g.pts k false n hp hpl hw (by rw [iE_len];exact hl))) ?_
 refine Drv.z ?_
 rw [← iE_leaf]
 exact AK.fb Tryz.func196 rfl rfl
theorem j_way (g:Gr)(q:Nat)(c:Nd)(y:Bool)(hp:PlO c)(hpl:plainM c=c)(hw:wN c≤1000000000)(h1:g.pts≤1000000000000)(hl:g.es.length≤1000000000) :
 Hands X 271 [.ptr 0 0 0,vi q,nd c,vb y] (gM g) (.tup []) (gM (gWay q c y g)):=by
 refine Hands.run Tryz.func271 ?_
 refine AK.hc (τ':=[0,1,2]) [0] [0,1,2] (j_point g.pts (iE g) g.pt g.sts g.lps g.ver h1) ?_
 refine AK.db 256 ?_
 refine Drv.w (Ndo.hd (τ':=[0,1,2]) [0] [0,1,2] (j_edge' (g.pts+1) (iE g) g.pts g.sts g.lps g.ver q g.pts 4 y c hp hpl hw (by rw [iE_len];exact hl))) ?_
 refine Drv.z ?_
 rw [← iE_way]
 exact AK.fb Tryz.func271 rfl rfl
structure Gc (g:Gr)(k:Nat):Prop where
 b:Gb g k
 lps:g.lps.length+24*k≤1000000000
 sts:g.sts.length+24*k≤1000000000
theorem Gc.step1 {g g':Gr}{j k m:Nat}(h:Gc g m)(hl:g.le g' j)(hj:j≤6*m)(hm:j+6*k≤6*m):Gc g' k:=by
 obtain ⟨l,h1,h2⟩:=hl.lps
 obtain ⟨s,h3,h4⟩:=hl.sts
 have:=h.lps
 have:=h.sts
 refine ⟨h.b.step1 hl hj hm,?_,?_⟩
 ·rw [h1,List.length_append];omega
 ·rw [h3,List.length_append];omega
def JSt (n:Nd):Prop:=∀ (a:Nd)(g:Gr),Gc g (wN n)→Hands X 241 [.ptr 0 0 0,nd n,nd a] (gM g) (.tup []) (gM (gS n a g))
def JLs (l:List Nd):Prop:=∀ (g:Gr),Gc g (wL l)→Hands X 195 [.ptr 0 0 0,.sl (nrows l) .no] (gM g) (.tup []) (gM (gL l nd0 g))
theorem j_list {l:List Nd}(hp:∀ x,x∈l→PS x)(hs:∀ x,x∈l→JSt x):JLs l:=by
 intro g hb
 have hlw:=len_le_wL l
 have hbe:=hb.b.es
 refine Hands.run Tryz.func195 ?_
 refine AK.wkB 1 0 3 (.sl [] .no) ?_
 refine AK.while_ (ι:=Nat) 2 3 (fun i=>i≤l.length) (fun i=>[(10,vi i),(9,vi l.length),(8,.sl (nrows l) .no),(0,.ptr 0 0 0),(4,.ptr 1 0 0)])
  (fun i=>⟨[mx (gL (l.take i) nd0 g).pts (iE (gL (l.take i) nd0 g)) (gL (l.take i) nd0 g).pt (gL (l.take i) nd0 g).sts (gL (l.take i) nd0 g).lps (gL (l.take i) nd0 g).ver,[ncells ((l.take i).getLastD nd0)]],[(iE (gL (l.take i) nd0 g)).length,(gL (l.take i) nd0 g).sts.length,(gL (l.take i) nd0 g).ver]⟩) (fun i=>l.length-i) ?_ 0
  (Nat.zero_le _) ⟨rfl,by rw [← nrows_len l];rfl,rfl,rfl,rfl,trivial⟩ rfl rfl rfl rfl rfl (fun _=>inferInstance) (fun _=>inferInstance)
 intro i hi IH
 have hgi:g.le (gL (l.take i) nd0 g) (bG (wL (l.take i))):=PSL_le (fun x hx=>hp x (List.mem_of_mem_take hx)) nd0 g hb.b.pt
 refine AK.ev 100 rfl ?_
 refine AK.if_ (fun h=>?_) (fun h=>?_)
 ·have hlt:i<l.length:=by have:=of_decide_eq_true h;omega
  obtain ⟨x,hx⟩:=lget_of_lt l hlt
  have hwt:=wL_take hx
  have hbi:Gc (gL (l.take i) nd0 g) (wN x):=hb.step1 hgi (by simp only [bG];omega) (by simp only [bG];omega)
  refine AK.ix i (by omega) (nrows_get (l:=l) hx) ?_
  refine AK.hc (τ':=[0,1,2]) [0] [0,1,2] (hs x (List.mem_of_getElem? hx) ((l.take i).getLastD nd0) _ hbi) ?_
  rw [← gL_take hx]
  have hla:(l.take (i+1)).getLastD nd0=x:=by rw [List.take_add_one,hx];simp
  refine IH (i+1) hlt (by omega) _ _ ⟨vint ((wrap_small (by omega) (by omega)).trans (by omega)),rfl,rfl,rfl,rfl,trivial⟩ ?_ rfl rfl
  simp only
  rw [hla];rfl
 ·have:i=l.length:=by have:=of_decide_eq_false h;omega
  subst this
  rw [List.take_length] at hgi ⊢
  exact AK.fb Tryz.func195 rfl rfl
theorem j_goOn0 (g:Gr)(h1:g.pts≤1000000000000)(hl:g.es.length≤1000000000) :
 Hands X 196 [.ptr 0 0 0,vi 6,.agg [vi 0,str [],vi 0,.sl [] .no]] (gM g) (.tup []) (gM (gLeaf 6 nd0 g)) :=
 j_goOn g 6 nd0 .leaf (by rw [nd0,plainM_mk,plainML_nil]) (by decide) h1 hl
theorem plain_set (s:List UInt8){a:Nd}(ha:FE a):plainM (.mk 21 s 0 [a])=.mk 21 s 0 [a]:=by rw [plainM_mk,plainML_cons,plainML_nil,plain1_E ha];rfl
theorem plain_put (s:List UInt8){a b:Nd}(ha:FE a)(hb:FE b):plainM (.mk 22 s 0 [a,b])=.mk 22 s 0 [a,b]:=by rw [plainM_mk,plainML_cons,plainML_cons,plainML_nil,plain1_E ha,plain1_E hb];rfl
theorem plain_read (s:List UInt8):plainM (.mk 23 s 0 [])=.mk 23 s 0 []:=by rw [plainM_mk,plainML_nil]
theorem lrow_set (l:Lp)(x:Int):(lrow l).take 9++[vi x]++(lrow l).drop (9+[vi x].length)=lrow { l with x:=x }:=by simp [lrow,ncells]
theorem lrows_set (l:List Lp)(i:Nat)(e:Lp):(lrows l).set i (lrow e)=lrows (l.set i e):=by simp [lrows,List.map_set]
theorem lrows_get {l:List Lp}{i:Nat}{e:Lp}(h:l[i]?=some e):(lrows l)[i]?=some (lrow e):=by simp [lrows,h]
theorem modify_at {l:List Lp}{i:Nat}{e:Lp}(h:l[i]?=some e)(f:Lp→Lp):l.modify i f=l.set i (f e):=by
 apply List.ext_getElem?
 intro j
 rw [List.getElem?_modify,List.getElem?_set]
 by_cases hj:i=j
 ·subst hj;rw [h];simp [lt_of_get h]
 ·simp [hj]
abbrev mS3 (p:Nat)(es:List Eg)(at_:Nat)(sts:List Nat)(lps:List Lp)(v:Nat)(n a:Nd):St:=⟨[mx p es at_ sts lps v,[ncells n],[ncells a]],[es.length,sts.length,v]⟩
abbrev gM3 (g:Gr)(n a:Nd):St:=mS3 g.pts (iE g) g.pt g.sts g.lps g.ver n a
set_option maxHeartbeats 4000000 in
theorem j_stmt {n:Nd}(h:PS n):JSt n:=by
 induction h with
 | set s x h hx =>
   intro a g hb
   have b1:=hb.b.pts
   have b2:=hb.b.es
   have b3:=hb.lps
   have b4:=hb.sts
   refine Hands.run Tryz.func241 ?_
   rw [gS_set]
   refine AK.yes ?_
   refine AK.hc (τ':=[0,1,2]) [0] [0,1,2] (j_goOn g 1 (.mk 21 s 0 [x]) (FS_PlO (.set s x h hx)) (plain_set s hx) (by omega) (by omega) (by omega)) ?_
   exact AK.fb Tryz.func241 rfl rfl
 | put s x y h hx hy =>
   intro a g hb
   have b1:=hb.b.pts
   have b2:=hb.b.es
   have b3:=hb.lps
   have b4:=hb.sts
   refine Hands.run Tryz.func241 ?_
   rw [gS_put]
   refine AK.no ?_
   refine AK.yes ?_
   refine AK.hc (τ':=[0,1,2]) [0] [0,1,2] (j_goOn g 2 (.mk 22 s 0 [x,y]) (FS_PlO (.put s x y h hx hy)) (plain_put s hx hy) (by omega) (by omega) (by omega)) ?_
   exact AK.fb Tryz.func241 rfl rfl
 | read s h =>
   intro a g hb
   have b1:=hb.b.pts
   have b2:=hb.b.es
   have b3:=hb.lps
   have b4:=hb.sts
   refine Hands.run Tryz.func241 ?_
   rw [gS_read]
   refine AK.no ?_
   refine AK.no ?_
   refine AK.yes ?_
   refine AK.hc (τ':=[0,1,2]) [0] [0,1,2] (j_goOn g 3 (.mk 23 s 0 []) (FS_PlO (.read s h)) (plain_read s) (by omega) (by omega) (by omega)) ?_
   exact AK.fb Tryz.func241 rfl rfl
 | check c hc =>
   intro a g hb
   have b1:=hb.b.pts
   have b2:=hb.b.es
   have b3:=hb.lps
   have b4:=hb.sts
   refine Hands.run Tryz.func241 ?_
   have hwc:wN c<wN (.mk 27 [] 0 [c]):=wN_kid (n:=.mk 27 [] 0 [c]) (by simp)
   rw [gS_check]
   refine AK.no ?_
   refine AK.no ?_
   refine AK.no ?_
   refine AK.yes ?_
   refine AK.ix 0 (by omega) (nrows_get (l:=[c]) rfl) ?_
   refine AK.hc (τ':=[0,1,2]) [0] [0,1,2] (j_goOn g 5 c (FC_PlO hc) (plainC hc) (by omega) (by omega) (by omega)) ?_
   exact AK.fb Tryz.func241 rfl rfl
 | skip =>
   intro a g hb
   have b1:=hb.b.pts
   have b2:=hb.b.es
   have b3:=hb.lps
   have b4:=hb.sts
   refine Hands.run Tryz.func241 ?_
   rw [gS_skip]
   refine AK.no ?_
   refine AK.no ?_
   refine AK.no ?_
   refine AK.no ?_
   refine AK.yes ?_
   refine AK.hc (τ':=[0,1,2]) [0] [0,1,2] (j_goOn0 g (by omega) (by omega)) ?_
   exact AK.fb Tryz.func241 rfl rfl
 | stop =>
   intro a g hb
   have b1:=hb.b.pts
   have b2:=hb.b.es
   have b3:=hb.lps
   have b4:=hb.sts
   refine Hands.run Tryz.func241 ?_
   rw [gS_stop]
   refine AK.no ?_
   refine AK.no ?_
   refine AK.no ?_
   refine AK.no ?_
   refine AK.no ?_
   refine AK.yes ?_
   refine AK.db 36864 ?_
   refine Drv.w (Ndo.append (res:=irs (g.sts++[g.es.length])) rfl rfl rfl rfl rfl rfl rfl rfl rfl rfl rfl rfl rfl rfl (irs_len _) (irs_al _) rfl rfl rfl ?_ ?_ rfl) ?_
   ·rw [irs_len];show g.sts.length+1≤_;omega
   ·show irs g.sts++[[vi (erows (iE g)).length]]=_;rw [erows_len,iE_len,irs_snoc]
   refine Drv.e ?_
   refine Drv.e ?_
   refine Drv.w (Ndo.store rfl rfl rfl rfl rfl rfl rfl) ?_
   refine Drv.z ?_
   refine AK.sto ⟨[mx g.pts (iE g) g.pt (g.sts++[g.es.length]) g.lps g.ver,[ncells (.mk 29 [] 0 [])],[ncells a]],[(iE g).length,(g.sts++[g.es.length]).length,g.ver]⟩ ?_ (by simp [irs])
   refine AK.hc (τ':=[0,1,2]) [0] [0,1,2] (j_edge0 g.pts (iE g) g.pt (g.sts++[g.es.length]) g.lps g.ver g.pt 0 7 false (by rw [iE_len];omega)) ?_
   refine AK.hc (τ':=[0,1,2]) [0] [0,1,2] (j_point g.pts _ g.pt (g.sts++[g.es.length]) g.lps g.ver (by omega)) ?_
   rw [← iE_stop]
   exact AK.fb Tryz.func241 rfl rfl
 | ifs c l l' hc hl hl' ihl ihl' =>
   intro a g hb
   have b1:=hb.b.pts
   have b2:=hb.b.es
   have b3:=hb.lps
   have b4:=hb.sts
   refine Hands.run Tryz.func241 ?_
   have hwc:wN c<wN (.mk 24 [] 0 [c,.mk 30 [] 0 l,.mk 30 [] 0 l']):=wN_kid (n:=.mk 24 [] 0 [c,.mk 30 [] 0 l,.mk 30 [] 0 l']) (by simp)
   have hws:wN (.mk 24 [] 0 [c,.mk 30 [] 0 l,.mk 30 [] 0 l'])=3+wN c+wL l+wL l':=by simp only [wN,wL,List.length_nil];omega
   rw [gS_if]
   unfold gIf
   refine AK.no ?_
   refine AK.no ?_
   refine AK.no ?_
   refine AK.no ?_
   refine AK.no ?_
   refine AK.no ?_
   refine AK.yes ?_
   refine AK.ix 0 (by omega) (nrows_get (l:=[c,.mk 30 [] 0 l,.mk 30 [] 0 l']) rfl) ?_
   refine AK.hc (τ':=[0,1,2]) [0] [0,1,2] (j_way g g.pt c true (FC_PlO hc) (plainC hc) (by omega) (by omega) (by omega)) ?_
   refine AK.sto (gM3 (gWay g.pt c true g) (.mk 24 [] 0 [c,.mk 30 [] 0 l,.mk 30 [] 0 l']) a) ?_
   have l1:=way_le g.pt c true hb.b.pt
   have c1:Gc (gWay g.pt c true g) (wL l):=hb.step1 l1 (by omega) (by omega)
   have a2:=PSL_le hl nd0 _ c1.b.pt
   refine AK.ix 1 (by omega) (nrows_get (l:=[c,.mk 30 [] 0 l,.mk 30 [] 0 l']) rfl) ?_
   refine AK.hc (τ':=[0,1,2]) [0] [0,1,2] (j_list hl ihl (gWay g.pt c true g) c1) ?_
   refine AK.sto (gM3 (gL l nd0 (gWay g.pt c true g)) (.mk 24 [] 0 [c,.mk 30 [] 0 l,.mk 30 [] 0 l']) a) ?_
   have l12:=l1.trans a2 (Nat.le_refl _)
   generalize gL l nd0 (gWay g.pt c true g)=g2 at *
   have c2:Gc g2 (wL l'+1):=hb.step1 l12 (by simp only [bG];omega) (by simp only [bG];omega)
   have b5:=c2.b.pts
   have b6:=c2.b.es
   refine AK.ix 0 (by omega) (nrows_get (l:=[c,.mk 30 [] 0 l,.mk 30 [] 0 l']) rfl) ?_
   refine AK.hc (τ':=[0,1,2]) [0] [0,1,2] (j_way g2 g.pt c false (FC_PlO hc) (plainC hc) (by omega) (by omega) (by omega)) ?_
   refine AK.sto (gM3 (gWay g.pt c false g2) (.mk 24 [] 0 [c,.mk 30 [] 0 l,.mk 30 [] 0 l']) a) ?_
   have hp2:g.pt<g2.pts:=Nat.lt_of_lt_of_le hb.b.pt l12.pts.1
   have l3:=way_le g.pt c false hp2
   have c3:Gc (gWay g.pt c false g2) (wL l'):=c2.step1 l3 (by omega) (by omega)
   have a4:=PSL_le hl' nd0 _ c3.b.pt
   refine AK.ix 2 (by omega) (nrows_get (l:=[c,.mk 30 [] 0 l,.mk 30 [] 0 l']) rfl) ?_
   refine AK.hc (τ':=[0,1,2]) [0] [0,1,2] (j_list hl' ihl' (gWay g.pt c false g2) c3) ?_
   refine AK.sto (gM3 (gL l' nd0 (gWay g.pt c false g2)) (.mk 24 [] 0 [c,.mk 30 [] 0 l,.mk 30 [] 0 l']) a) ?_
   have l34:=l3.trans a4 (Nat.le_refl _)
   generalize gL l' nd0 (gWay g.pt c false g2)=g4 at *
   have c4:Gc g4 0:=c2.step1 l34 (by simp only [bG];omega) (by simp only [bG];omega)
   have b7:=c4.b.pts
   have b8:=c4.b.es
   refine AK.hc (τ':=[0,1,2]) [0] [0,1,2] (j_point g4.pts (iE g4) g4.pt g4.sts g4.lps g4.ver (by omega)) ?_
   refine AK.sto (mS3 (g4.pts+1) (iE g4) g4.pt g4.sts g4.lps g4.ver (.mk 24 [] 0 [c,.mk 30 [] 0 l,.mk 30 [] 0 l']) a) ?_
   refine AK.hc (τ':=[0,1,2]) [0] [0,1,2] (j_edge0 (g4.pts+1) (iE g4) g4.pt g4.sts g4.lps g4.ver g2.pt g4.pts 6 false (by rw [iE_len];omega)) ?_
   refine AK.sto (mS3 (g4.pts+1) (iE g4++[⟨g2.pt,g4.pts,6,false,nd0⟩]) g4.pt g4.sts g4.lps g4.ver (.mk 24 [] 0 [c,.mk 30 [] 0 l,.mk 30 [] 0 l']) a) ?_
   refine AK.hc (τ':=[0,1,2]) [0] [0,1,2] (j_edge0 (g4.pts+1) (iE g4++[⟨g2.pt,g4.pts,6,false,nd0⟩]) g4.pt g4.sts g4.lps g4.ver g4.pt g4.pts 6 false ?_) ?_
   ·obtain ⟨e1,e2,e3,_⟩:=l34.es
    have:=c2.b.es
    simp only [bG] at e3
    rw [List.length_append,iE_len,e2,List.length_append]
    simp only [List.length_singleton];omega
   rw [← iE_join]
   exact AK.fb Tryz.func241 rfl rfl
 | whil c l hc hl ihl =>
   intro a g hb
   have b1:=hb.b.pts
   have b2:=hb.b.es
   have b3:=hb.lps
   have b4:=hb.sts
   refine Hands.run Tryz.func241 ?_
   have hwc:wN c<wN (.mk 25 [] 0 [c,.mk 30 [] 0 l]):=wN_kid (n:=.mk 25 [] 0 [c,.mk 30 [] 0 l]) (by simp)
   have hws:wN (.mk 25 [] 0 [c,.mk 30 [] 0 l])=2+wN c+wL l:=by simp only [wN,wL,List.length_nil];omega
   have hwn:=wN_eq c
   rw [gS_wh]
   unfold gWh
   refine AK.no ?_
   refine AK.no ?_
   refine AK.no ?_
   refine AK.no ?_
   refine AK.no ?_
   refine AK.no ?_
   refine AK.no ?_
   refine AK.yes ?_
   refine AK.hc (τ':=[0,1,2]) [0] [0,1,2] (j_goOn0 g (by omega) (by omega)) ?_
   refine AK.sto (gM3 (gLeaf 6 nd0 g) (.mk 25 [] 0 [c,.mk 30 [] 0 l]) a) ?_
   refine AK.dr ?_
   refine AK.db 9216 ?_
   refine Drv.w (Ndo.appP (ver:=g.ver) rfl (lrows_sz g.lps) (lrow1_flat ⟨a,(.mk 25 [] 0 [c,.mk 30 [] 0 l]),g.pts,0⟩) ?_ (lrows_snoc g.lps ⟨a,(.mk 25 [] 0 [c,.mk 30 [] 0 l]),g.pts,0⟩) rfl rfl rfl rfl rfl rfl rfl rfl rfl rfl rfl rfl rfl rfl rfl rfl rfl) ?_
   ·rw [lrows_len];simp;omega
   refine Drv.e ?_
   refine Drv.e ?_
   refine Drv.w (Ndo.store rfl rfl rfl rfl rfl rfl rfl) ?_
   refine Drv.z ?_
   have l1:=leaf_le 6 nd0 hb.b.pt
   have l2:=loop_le a (.mk 25 [] 0 [c,.mk 30 [] 0 l]) l1.pt
   have l12:=l1.trans l2 (Nat.le_refl _)
   have c0:Gc (gLoop a (.mk 25 [] 0 [c,.mk 30 [] 0 l]) (gLeaf 6 nd0 g)) (wL l+1):=hb.step1 l12 (by omega) (by omega)
   refine AK.sto (gM3 (gLoop a (.mk 25 [] 0 [c,.mk 30 [] 0 l]) (gLeaf 6 nd0 g)) (.mk 25 [] 0 [c,.mk 30 [] 0 l]) a) ?_
   refine AK.as_ 9 (vi g.pts) ?_
   refine AK.as_ 10 (vi g.lps.length) ?_ (by show lk _ 10=_;rw [← lrows_len];rfl)
   refine AK.ix 0 (by omega) (nrows_get (l:=[c,.mk 30 [] 0 l]) rfl) ?_
   have hh:g.pts<(gLoop a (.mk 25 [] 0 [c,.mk 30 [] 0 l]) (gLeaf 6 nd0 g)).pts:=by simp [gLoop,gLeaf]
   have hlk:(gLoop a (.mk 25 [] 0 [c,.mk 30 [] 0 l]) (gLeaf 6 nd0 g)).lps[g.lps.length]?=some ⟨a,(.mk 25 [] 0 [c,.mk 30 [] 0 l]),g.pts,0⟩:=by simp [gLoop,gLeaf]
   generalize gLoop a (.mk 25 [] 0 [c,.mk 30 [] 0 l]) (gLeaf 6 nd0 g)=g1 at *
   have b5:=c0.b.pts
   have b6:=c0.b.es
   refine AK.hc (τ':=[0,1,2]) [0] [0,1,2] (j_way g1 g.pts c true (FC_PlO hc) (plainC hc) (by omega) (by omega) (by omega)) ?_
   refine AK.sto (gM3 (gWay g.pts c true g1) (.mk 25 [] 0 [c,.mk 30 [] 0 l]) a) ?_
   have l3:=way_le g.pts c true hh
   have c1:Gc (gWay g.pts c true g1) (wL l):=c0.step1 l3 (by omega) (by omega)
   have a2:=PSL_le hl nd0 _ c1.b.pt
   refine AK.ix 1 (by omega) (nrows_get (l:=[c,.mk 30 [] 0 l]) rfl) ?_
   refine AK.hc (τ':=[0,1,2]) [0] [0,1,2] (j_list hl ihl (gWay g.pts c true g1) c1) ?_
   refine AK.sto (gM3 (gL l nd0 (gWay g.pts c true g1)) (.mk 25 [] 0 [c,.mk 30 [] 0 l]) a) ?_
   have l34:=l3.trans a2 (Nat.le_refl _)
   have hh2:=Nat.lt_of_lt_of_le hh l34.pts.1
   obtain ⟨lx,hlx,_⟩:=l34.lps
   have hlk2:(gL l nd0 (gWay g.pts c true g1)).lps[g.lps.length]?=some ⟨a,(.mk 25 [] 0 [c,.mk 30 [] 0 l]),g.pts,0⟩:=by rw [hlx,List.getElem?_append_left (lt_of_get hlk)];exact hlk
   generalize gL l nd0 (gWay g.pts c true g1)=g2 at *
   have c2:Gc g2 0:=c0.step1 l34 (by simp only [bG];omega) (by simp only [bG];omega)
   have b7:=c2.b.pts
   have b8:=c2.b.es
   have b9:g2.es.length+1≤1000000000:=by
    obtain ⟨e1,e2,e3,_⟩:=l34.es
    have:=c0.b.es
    simp only [bG] at e3
    rw [e2,List.length_append];omega
   refine AK.hc (τ':=[0,1,2]) [0] [0,1,2] (j_edge0 g2.pts (iE g2) g2.pt g2.sts g2.lps g2.ver g2.pt g.pts 6 false (by rw [iE_len];omega)) ?_
   rw [← iE_back]
   refine AK.sto (gM3 (gBack g.pts g2) (.mk 25 [] 0 [c,.mk 30 [] 0 l]) a) ?_
   refine AK.ix 0 (by omega) (nrows_get (l:=[c,.mk 30 [] 0 l]) rfl) ?_
   refine AK.hc (τ':=[0,1,2]) [0] [0,1,2] (j_way (gBack g.pts g2) g.pts c false (FC_PlO hc) (plainC hc) (by omega) (by show g2.pts≤_;omega) (by simp only [gBack,gEdge];rw [List.length_append];simp;omega)) ?_
   refine AK.sto (gM3 (gWay g.pts c false (gBack g.pts g2)) (.mk 25 [] 0 [c,.mk 30 [] 0 l]) a) ?_
   have hlk3:(gWay g.pts c false (gBack g.pts g2)).lps[g.lps.length]?=some ⟨a,(.mk 25 [] 0 [c,.mk 30 [] 0 l]),g.pts,0⟩:=hlk2
   generalize gWay g.pts c false (gBack g.pts g2)=g3 at *
   have hll:g.lps.length<(lrows g3.lps).length:=by rw [lrows_len];exact lt_of_get hlk3
   have hlr:=lrows_get hlk3
   have hmod:=modify_at hlk3 fun l=>{ l with x:=g3.pt }
   refine AK.db 2048 ?_
   refine Drv.lo (Ndo.ixP (n:=g.lps.length) hll rfl (lrows_sz _) rfl rfl rfl rfl rfl rfl rfl rfl) ?_
   refine Drv.e ?_
   refine Drv.w (Ndo.stP (b:=0) (r:=0) (g:=4) (xs:=[vi g3.pt]) (bx:=[mx g3.pts (iE g3) g3.pt g3.sts (g3.lps.modify g.lps.length fun l=>{ l with x:=g3.pt }) (g3.ver+1),[ncells (.mk 25 [] 0 [c,.mk 30 [] 0 l])],[ncells a]]) (tk':=[(iE g3).length,g3.sts.length,g3.ver+1])
    rfl hlr (by show 9+1≤10;omega) (fun z hz=>by simp at hz;subst hz;exact .val _) rfl rfl rfl ?_ rfl rfl rfl rfl rfl rfl rfl rfl rfl) ?_
   ·show [[[vi g3.pts,.psl (erows (iE g3)) 0 (iE g3).length,vi g3.pt,.sl (irs g3.sts) (.tok 1),.psl ((lrows g3.lps).set g.lps.length ((lrow ⟨a,(.mk 25 [] 0 [c,.mk 30 [] 0 l]),g.pts,0⟩).take 9++[vi g3.pt]++(lrow ⟨a,(.mk 25 [] 0 [c,.mk 30 [] 0 l]),g.pts,0⟩).drop (9+[vi g3.pt].length))) 2 (g3.ver+1)]],[ncells (.mk 25 [] 0 [c,.mk 30 [] 0 l])],[ncells a]]=_
    rw [lrow_set,lrows_set,hmod]
   refine Drv.z ?_
   exact AK.fb Tryz.func241 rfl rfl
def stI (k:Nat):List Eg→List Nat
 | []=>[]
 | e::l=>if e.t<0 then k::stI (k+1) l else stI (k+1) l
theorem stI_app:∀ (l l':List Eg)(k:Nat),stI k (l++l')=stI k l++stI (k+l.length) l'
 | [],l',k=>by simp [stI]
 | e::l,l',k=>by
   simp only [List.cons_append,stI,List.length_cons]
   rw [stI_app l l' (k+1),show k+1+l.length=k+(l.length+1) by omega]
   split<;>simp
theorem stI_none {l:List Eg}(h:∀ e,e∈l→0≤e.t)(k:Nat):stI k l=[]:=by
 induction l generalizing k with
 | nil=>rfl
 | cons e l ih =>
   have:=h e (by simp)
   simp only [stI];rw [if_neg (by omega)]
   exact ih (fun x hx=>h x (by simp [hx])) (k+1)
theorem stI_lt:∀ (l:List Eg)(k i:Nat),i∈stI k l→i<k+l.length
 | [],k,i,h=>by simp [stI] at h
 | e::l,k,i,h=>by
   simp only [stI] at h
   simp only [List.length_cons]
   split at h
   ·rcases List.mem_cons.1 h with rfl | h
    ·omega
    ·have:=stI_lt l (k+1) i h;omega
   ·have:=stI_lt l (k+1) i h;omega
theorem stI_len:∀ (l:List Eg)(k:Nat),(stI k l).length≤l.length
 | [],k=>by simp [stI]
 | e::l,k=>by
   simp only [stI,List.length_cons]
   have:=stI_len l (k+1)
   split<;>simp<;>omega
def SI (g:Gr):Prop:=g.sts=stI 0 g.es
theorem SI_add {g g':Gr}(h:SI g)(l:List Eg)(he:g'.es=g.es++l)(hl:∀ e,e∈l→0≤e.t)(hs:g'.sts=g.sts):SI g':=by
 unfold SI at h ⊢
 rw [he,hs,h,stI_app,stI_none hl];simp
theorem SI_leaf {g:Gr}(k:Int)(n:Nd)(h:SI g):SI (gLeaf k n g):=SI_add h _ rfl (fun e he=>by simp at he;subst he;simp) rfl
theorem SI_way {g:Gr}(p:Nat)(c:Nd)(y:Bool)(h:SI g):SI (gWay p c y g):=SI_add h _ rfl (fun e he=>by simp at he;subst he;simp) rfl
theorem SI_back {g:Gr}(p:Nat)(h:SI g):SI (gBack p g):=SI_add h _ rfl (fun e he=>by simp at he;subst he;simp) rfl
theorem SI_join {g:Gr}(p:Nat)(h:SI g):SI (gJoin p g):=SI_add h [⟨p,g.pts,6,false,nd0⟩,⟨g.pt,g.pts,6,false,nd0⟩] (by simp [gJoin,gEdge]) (fun e he=>by simp at he;rcases he with rfl | rfl<;>simp) rfl
theorem SI_stop {g:Gr}(h:SI g):SI (gStop g):=by
 unfold SI at h ⊢
 simp only [gStop]
 rw [h,stI_app]
 simp [stI]
theorem SI_loop {g:Gr}(a n:Nd)(h:SI g):SI (gLoop a n g):=h
theorem SI_exit {g:Gr}(i:Nat)(h:SI g):SI (gExit i g):=h
theorem SI_L {l:List Nd}(h:∀ x,x∈l→∀ (a:Nd)(g:Gr),SI g→SI (gS x a g)):∀ (a:Nd)(g:Gr),SI g→SI (gL l a g):=by
 induction l with
 | nil=>intro a g hg;exact hg
 | cons x l ih=>intro a g hg;rw [gL_cons];exact ih (fun y hy=>h y (by simp [hy])) x _ (h x (by simp) a g hg)
theorem PS_SI {n:Nd}(h:PS n):∀ (a:Nd)(g:Gr),SI g→SI (gS n a g):=by
 induction h with
 | set s b h hb=>intro a g hg;rw [gS_set];exact SI_leaf _ _ hg
 | put s b c h hb hc=>intro a g hg;rw [gS_put];exact SI_leaf _ _ hg
 | read s h=>intro a g hg;rw [gS_read];exact SI_leaf _ _ hg
 | ifs c l l' hc hl hl' ihl ihl'=>intro a g hg;rw [gS_if];unfold gIf;exact SI_join _ (SI_L ihl' _ _ (SI_way _ _ _ (SI_L ihl _ _ (SI_way _ _ _ hg))))
 | whil c l hc hl ihl=>intro a g hg;rw [gS_wh];unfold gWh;exact SI_exit _ (SI_way _ _ _ (SI_back _ (SI_L ihl _ _ (SI_way _ _ _ (SI_loop _ _ (SI_leaf 6 nd0 hg))))))
 | check c hc=>intro a g hg;rw [gS_check];exact SI_leaf _ _ hg
 | skip=>intro a g hg;rw [gS_skip];exact SI_leaf _ _ hg
 | stop=>intro a g hg;rw [gS_stop];exact SI_stop hg
def setTo (x:Int):List Eg→List Nat→List Eg
 | l,[]=>l
 | l,i::s=>setTo x (l.modify i fun e=>{ e with t:=x }) s
theorem setTo_snoc (x:Int):∀ (l:List Eg)(s:List Nat)(i:Nat),setTo x l (s++[i])=(setTo x l s).modify i fun e=>{ e with t:=x }
 | l,[],i=>rfl
 | l,j::s,i=>setTo_snoc x _ s i
theorem setTo_len (x:Int):∀ (l:List Eg)(s:List Nat),(setTo x l s).length=l.length
 | l,[]=>rfl
 | l,j::s=>by simp only [setTo];rw [setTo_len];simp
theorem setTo_all (x:Int):∀ (l pre:List Eg),setTo x (pre++l.map (toExit 0)) (stI pre.length l)=pre++l.map (toExit x)
 | [],pre=>by simp [stI,setTo]
 | e::l,pre=>by
   simp only [stI,List.map_cons]
   have ih:=setTo_all x l (pre++[toExit x e])
   have e1:(pre++[toExit x e]).length=pre.length+1:=by simp
   rw [e1] at ih
   split
   ·rename_i ht
    simp only [setTo]
    rw [modify_app]
    have:(toExit 0 e::l.map (toExit 0)).modify 0 (fun e=>{ e with t:=x })=toExit x e::l.map (toExit 0):=by simp [toExit,ht]
    rw [this]
    simpa using ih
   ·rename_i ht
    have:toExit 0 e=toExit x e:=by simp [toExit,ht]
    rw [this]
    simpa using ih
theorem erow_setT (e:Eg)(x:Int):(erow e).take 1++[vi x]++(erow e).drop (1+[vi x].length)=erow { e with t:=x }:=by simp [erow]
theorem modify_atE {l:List Eg}{i:Nat}{e:Eg}(h:l[i]?=some e)(f:Eg→Eg):l.modify i f=l.set i (f e):=by
 apply List.ext_getElem?
 intro j
 rw [List.getElem?_modify,List.getElem?_set]
 by_cases hj:i=j
 ·subst hj;rw [h];simp [lt_of_get h]
 ·simp [hj]
abbrev madeC (l:List Nd):List AV:=[vi (gAll l).pts,.sl (erows (gEs l)) .no,vi (gAll l).pt,.sl (irs (gAll l).sts) .no,.sl (lrows (gAll l).lps) .no]
theorem j_made (P:Nd)(hne:P.kids≠[])(hps:∀ x,x∈(lastN P).kids→PS x)(hw:wL (lastN P).kids≤10000000)(hk:P.kids.length≤1000000000) :
 Pure X 146 [nd P] (.cptr (madeC (lastN P).kids)):=by
 show Pure X 146 [nd P] (.cptr [vi (gAll (lastN P).kids).pts,.sl (erows ((gAll (lastN P).kids).es.map (toExit (gAll (lastN P).kids).pt))) .no,vi (gAll (lastN P).kids).pt,.sl (irs (gAll (lastN P).kids).sts) .no,.sl (lrows (gAll (lastN P).kids).lps) .no])
 refine Pure.run Tryz.func146 ?_
 refine AK.mintP (bx:=[[ncells P],[[vi 1,.psl [] 0 0,vi 0,.sl [] .tight,.sl [] .tight]]]) (tk:=[0]) 1 0 1 ?_
 refine AK.mintB (bx:=[[ncells P],[[vi 1,.psl [] 0 0,vi 0,.sl [] (.tok 1),.sl [] .tight]]]) (tk:=[0,0]) 1 0 3 rfl rfl rfl rfl rfl rfl ?_
 refine AK.mintP (bx:=[[ncells P],mx 1 (iE ⟨1,0,[],[],[],0⟩) 0 [] [] 0]) (tk:=[0,0,0]) 1 0 4 ?_
 refine AK.as_ 3 (.ptr 1 0 0) ?_
 refine AK.as_ 9 (.ptr 1 0 0) ?_
 have c0:Gc ⟨1,0,[],[],[],0⟩ (wL (lastN P).kids):=⟨⟨by decide,by show 1+_≤_;omega,by show 0+_≤_;omega⟩,by show 0+_≤_;omega,by show 0+_≤_;omega⟩
 have l0:=PSL_le hps nd0 _ c0.b.pt
 have s0:SI (gL (lastN P).kids nd0 ⟨1,0,[],[],[],0⟩):=SI_L (fun x hx=>PS_SI (hps x hx)) _ _ rfl
 refine AK.pc (q_body P hne hk) ?_
 refine AK.hc (τ':=[0,1,2]) [1] [0,1,2] (j_list hps (fun x hx=>j_stmt (hps x hx)) _ c0) ?_
 have c1:Gc (gL (lastN P).kids nd0 ⟨1,0,[],[],[],0⟩) 0:=c0.step1 l0 (by simp only [bG];omega) (by simp only [bG];omega)
 have hA:gAll (lastN P).kids=gLeaf 6 nd0 (gL (lastN P).kids nd0 ⟨1,0,[],[],[],0⟩):=rfl
 rw [hA]
 generalize gL (lastN P).kids nd0 ⟨1,0,[],[],[],0⟩=g at *
 have b1:=c1.b.pts
 have b2:=c1.b.es
 refine AK.sto ⟨[[ncells P],mx g.pts (iE g) g.pt g.sts g.lps g.ver],[(iE g).length,g.sts.length,g.ver]⟩ ?_
 refine AK.hc (τ':=[0,1,2]) [1] [0,1,2] (j_goOn0 g (by omega) (by omega)) ?_
 have s1:SI (gLeaf 6 nd0 g):=SI_leaf 6 nd0 s0
 have b3:(gLeaf 6 nd0 g).es.length≤1000000001:=by simp [gLeaf];omega
 generalize gLeaf 6 nd0 g=h at *
 have hst:setTo h.pt (iE h) h.sts=h.es.map (toExit h.pt):=by
  rw [s1];exact setTo_all h.pt h.es []
 have hsl:h.sts.length≤h.es.length:=by rw [s1];exact stI_len _ _
 have hslt:∀ i,i∈h.sts→i<(iE h).length:=fun i hi=>by
  rw [s1] at hi
  have:=stI_lt _ _ _ hi
  rw [iE_len];omega
 refine AK.sto ⟨[[ncells P],[[vi h.pts,.psl (erows (setTo h.pt (iE h) (h.sts.take 0))) 0 ((iE h).length+0),vi h.pt,.sl (irs h.sts) (.tok 1),.psl (lrows h.lps) 2 h.ver]]],[(iE h).length+0,h.sts.length,h.ver]⟩ ?_
 refine AK.while_ (ι:=Nat) 2 3 (fun i=>i≤h.sts.length) (fun i=>[(22,vi i),(21,vi h.sts.length),(20,.sl (irs h.sts) (.tok 1)),(3,.ptr 1 0 0)])
  (fun i=>⟨[[ncells P],[[vi h.pts,.psl (erows (setTo h.pt (iE h) (h.sts.take i))) 0 ((iE h).length+i),vi h.pt,.sl (irs h.sts) (.tok 1),.psl (lrows h.lps) 2 h.ver]]],[(iE h).length+i,h.sts.length,h.ver]⟩) (fun i=>h.sts.length-i) ?_ 0
  (Nat.zero_le _) ⟨rfl,by rw [← irs_len h.sts];rfl,rfl,rfl,trivial⟩ rfl rfl rfl rfl rfl (fun _=>inferInstance) (fun _=>inferInstance)
 intro i hi IH
 refine AK.ev 100 rfl ?_
 refine AK.if_ (fun h2=>?_) (fun h2=>?_)
 ·have hlt:i<h.sts.length:=by have:=of_decide_eq_true h2;omega
  obtain ⟨k,hk⟩:=lget_of_lt h.sts hlt
  have hkl:=hslt k (List.mem_of_getElem? hk)
  have hgk:(irs h.sts)[i]?=some [vi k]:=by simp [irs,hk]
  have hkr:k<(erows (setTo h.pt (iE h) (h.sts.take i))).length:=by rw [erows_len,setTo_len];exact hkl
  obtain ⟨e,he⟩:=lget_of_lt (setTo h.pt (iE h) (h.sts.take i)) (i:=k) (by rw [setTo_len];exact hkl)
  have hrow:=erows_get he
  have hsn:setTo h.pt (iE h) (h.sts.take (i+1))=(setTo h.pt (iE h) (h.sts.take i)).modify k fun e=>{ e with t:=h.pt }:=by
   rw [List.take_add_one,hk];exact setTo_snoc _ _ _ _
  refine AK.ix i (by omega) hgk ?_
  refine AK.db 4096 ?_
  refine Drv.lo (Ndo.ixP (n:=k) hkr rfl (erows_sz _) rfl rfl rfl rfl rfl rfl rfl rfl) ?_
  refine Drv.e ?_
  refine Drv.w (Ndo.stP (b:=1) (r:=0) (g:=1) (xs:=[vi h.pt]) (bx:=[[ncells P],[[vi h.pts,.psl (erows (setTo h.pt (iE h) (h.sts.take (i+1)))) 0 ((iE h).length+(i+1)),vi h.pt,.sl (irs h.sts) (.tok 1),.psl (lrows h.lps) 2 h.ver]]]) (tk':=[(iE h).length+(i+1),h.sts.length,h.ver])
   rfl hrow (by show 1+1≤8;omega) (fun z hz=>by simp at hz;subst hz;exact .val _) rfl rfl rfl ?_ rfl rfl rfl rfl rfl rfl rfl rfl rfl) ?_
  ·show [[ncells P],[[vi h.pts,.psl ((erows (setTo h.pt (iE h) (h.sts.take i))).set k ((erow e).take 1++[vi h.pt]++(erow e).drop (1+[vi h.pt].length))) 0 ((iE h).length+i+1),vi h.pt,.sl (irs h.sts) (.tok 1),.psl (lrows h.lps) 2 h.ver]]]=_
   rw [erow_setT,erows_set,hsn,modify_atE he];rfl
  refine Drv.z ?_
  exact IH (i+1) hlt (by omega) _ _ ⟨vint ((wrap_small (by omega) (by omega)).trans (by omega)),rfl,rfl,rfl,trivial⟩ rfl rfl rfl
 ·have:i=h.sts.length:=by have:=of_decide_eq_false h2;omega
  subst this
  rw [List.take_length,hst]
  exact AK.rz Tryz.func146 rfl
theorem j_graphOf (P:Nd)(hne:P.kids≠[])(hps:∀ x,x∈(lastN P).kids→PS x)(hw:wL (lastN P).kids≤10000000)(hk:P.kids.length≤1000000000) :
 Pure X 100 [nd P] (.agg [vi (gAll (lastN P).kids).pts,.sl (erows (gEs (lastN P).kids)) .no]):=by
 refine Pure.run Tryz.func100 ?_
 refine AK.pc (j_made P hne hps hw hk) ?_
 exact AK.rz Tryz.func100 rfl
end Go.V
namespace Go.V
open Go
section
variable {X:Cx}{E:Env}{S:St}{w:World}{F:Frm}{N:Nat}{ops:Array Oper}{i:Nat}{o:Oper}{p q:Operand}
theorem Ndo.mkS {t e n b:Nat}{ik ik':IntKind}{y ye:Ty}{bx:List (List (List AV))}(hn:n≤1000000000)(hb:S.boxes.length=b)(hbx:S.boxes++[List.replicate n ye.zero]=bx)(ho:ops[i]?=some o)(hw:wantA ops F o=some true)(hop:o.op=.makeSlice t p q)
 (hp:opr X F p=some (.val (.int ik n)))(hq:opr X F q=some (.val (.int ik' n)))(hy:X.ty t=some y)(hk:y.k=.slc e)(hye:X.ty e=some ye):Ndo X N ops i o F (.bsl b n) S ⟨bx,S.toks⟩:=by
 subst hbx;subst hb
 intro F' E w a hl hI hF
 have hlo:=looks_of hl
 rw [hop] at hlo
 have r1:=opr_sound hI hF ((opr_congr (X:=X) (F:=F) (F':=F') (o:=p) fun s hs=>hlo s (by simp [Op.operands,hs])).trans hp)
 have r2:=opr_sound hI hF ((opr_congr (X:=X) (F:=F) (F':=F') (o:=q) fun s hs=>hlo s (by simp [Op.operands,hs])).trans hq)
 cases hh1:a.eval p<;>rw [hh1] at r1<;>cases r1
 cases hh2:a.eval q<;>rw [hh2] at r2<;>cases r2
 obtain ⟨d,hd,hdd⟩:=(X.ty_ok t y hy).agg
 simp only [hk] at hdd
 obtain ⟨rfl,ye',hye',hne⟩:=hdd
 rw [hye] at hye';cases hye'
 obtain ⟨z,hz,hzc,hzl,i',hi,hiz,his,hib⟩:=zero_run hye w
 have hzs:z.cells.size=ye.size:=by rw [← hzl,← hzc];simp
 have hbn:i'.bytes*n≤1024*n:=Nat.mul_le_mul_right _ hib
 have hrun:=run_make (P:=X.P) w t e i' z hd hi hiz ik ik' (n:Int) (n:Int) (by omega) (Int.le_refl _) (by
  have:((i'.bytes*n:Nat):Int)≤281474976710656:=by omega
  rwa [Int.natCast_mul] at this) (by omega)
 simp only [Int.toNat_natCast] at hrun
 have hg0:Grid E w ye.size (madeCells z.cells (n*i'.size)) (List.replicate n ye.zero):=by
  refine grid_zero hzc hzl _ (by rw [size_madeCells,his]) (fun j hj=>?_)
  have hm:j % ye.size<z.cells.size:=by rw [hzs];exact Nat.mod_lt _ (Nat.pos_of_ne_zero hne)
  unfold madeCells
  rw [his]
  have hr0:(Array.range (n*ye.size))[j]?=some j:=by simp [hj]
  rw [Array.getElem?_map,hr0]
  simp only [Option.map_some]
  rw [hzs,getElem!_pos z.cells (j % ye.size) hm,Array.getElem?_eq_getElem hm]
 obtain ⟨ev,hI'⟩:=hI.newBox (w':=w.alloc (.cells (madeCells z.cells (n*i'.size)) e)) (cs:=madeCells z.cells (n*i'.size)) (e:=e) (sz:=ye.size) (rows:=List.replicate n ye.zero) rfl rfl rfl rfl hg0.1 hg0.2.1 hg0.2.2
 refine Does.val ho (wanted_of hF (by rw [wantA_congr hl];exact hw)) (v:=.slice (some ⟨w.heap.size,0,none⟩) n n) (by simp [execOp,hop,hh1,hh2,hrun]) (.inl rfl) ⟨_,hI',ev,?_⟩
 exact .bsl S.boxes.length w.heap.size ye.size n n (by rw [← hI.nb];exact getElem?_snoc_new _ _) (Nat.le_refl _)
end
end Go.V
namespace Go.V
open Go Go.Proofs
def zrs (l:List Int):List (List AV):=l.map fun m=>[vi m]
theorem zrs_len (l:List Int):(zrs l).length=l.length:=by simp [zrs]
theorem zrs_al (l:List Int):allLen 1 (zrs l)=true:=allLen_map (f:=fun (i:Int)=>[vi i]) (fun _=>rfl) l
theorem zrs_get {l:List Int}{i:Nat}{m:Int}(h:l[i]?=some m):(zrs l)[i]?=some [vi m]:=by simp [zrs,h]
instance {n m:Nat}{l:List Int}:OKR n m (zrs l):=⟨fun r hr x hx=>by obtain ⟨e,_,rfl⟩:=List.mem_map.1 hr;simp at hx;subst hx;exact .val _⟩
def sizesT (n:Nd):List Int:=(declK n 32).map Nd.num
theorem declS_K (n:Nd)(k:Int):declS n k=(declK n k).map Nd.name:=rfl
theorem declK_le (n:Nd)(k:Int):(declK n k).length≤n.kids.length:=by
 unfold declK
 exact Nat.le_trans (List.length_filter_le _ _) (by simp)
theorem q_namesOf (n:Nd)(k:Int)(hne:n.kids≠[])(hl:n.kids.length≤1000000000):Pure X 101 [nd n,vi k] (.sl (strR (declS n k)) .no):=by
 have hdl:=declK_le n k
 rw [declS_K]
 refine Pure.run Tryz.func101 ?_
 refine AK.pc (q_declared n k hne hl) ?_
 generalize declK n k=ds at *
 refine AK.mint (d:=5) rfl rfl rfl ?_
 refine AK.while_ (ι:=Nat) 1 1 (fun i=>i≤ds.length) (fun i=>[(13,vi i),(12,vi ds.length),(11,.sl (nrows ds) .no),(5,.sl (strR ((ds.take i).map Nd.name)) (.tok 0))]) (fun i=>⟨[[ncells n]],[i]⟩) (fun i=>ds.length-i) ?_ 0
  (Nat.zero_le _) ⟨rfl,by rw [← nrows_len ds];rfl,rfl,rfl,trivial⟩ rfl rfl rfl rfl rfl (fun _=>inferInstance) (fun _=>inferInstance)
 intro i hi IH
 have htl:(strR ((ds.take i).map Nd.name)).length=i:=by rw [strR_len];simp;omega
 refine AK.ev 100 rfl ?_
 refine AK.if_ (fun h=>?_) (fun h=>?_)
 ·have hlt:i<ds.length:=by have:=of_decide_eq_true h;omega
  obtain ⟨x,hx⟩:=lget_of_lt ds hlt
  refine AK.ix i (by omega) (nrows_get hx) ?_
  refine AK.op (Ndo.append (res:=strR ((ds.take (i+1)).map Nd.name)) rfl rfl rfl rfl rfl rfl rfl rfl rfl rfl rfl rfl rfl rfl htl (strR_al _) rfl rfl rfl ?_ ?_ rfl) ?_
  ·rw [htl];simp;omega
  ·rw [List.take_add_one,hx];simp [strR]
  refine IH (i+1) hlt (by omega) _ _ ⟨vint ((wrap_small (by omega) (by omega)).trans (by omega)),rfl,rfl,rfl,trivial⟩ ?_ rfl rfl
  show St.mk [[ncells n]] [_+1]=St.mk [[ncells n]] [i+1]
  rw [htl]
 ·have:i=ds.length:=by have:=of_decide_eq_false h;omega
  subst this
  rw [List.take_length]
  exact AK.rz Tryz.func101 rfl
theorem q_sizesOf (n:Nd)(hne:n.kids≠[])(hl:n.kids.length≤1000000000):Pure X 102 [nd n] (.sl (zrs (sizesT n)) .no):=by
 have hdl:=declK_le n 32
 unfold sizesT
 refine Pure.run Tryz.func102 ?_
 refine AK.pc (q_declared n 32 hne hl) ?_
 generalize declK n 32=ds at *
 refine AK.mint (d:=3) rfl rfl rfl ?_
 refine AK.while_ (ι:=Nat) 1 1 (fun i=>i≤ds.length) (fun i=>[(10,vi i),(9,vi ds.length),(8,.sl (nrows ds) .no),(3,.sl (zrs ((ds.take i).map Nd.num)) (.tok 0))]) (fun i=>⟨[[ncells n]],[i]⟩) (fun i=>ds.length-i) ?_ 0
  (Nat.zero_le _) ⟨rfl,by rw [← nrows_len ds];rfl,rfl,rfl,trivial⟩ rfl rfl rfl rfl rfl (fun _=>inferInstance) (fun _=>inferInstance)
 intro i hi IH
 have htl:(zrs ((ds.take i).map Nd.num)).length=i:=by rw [zrs_len];simp;omega
 refine AK.ev 100 rfl ?_
 refine AK.if_ (fun h=>?_) (fun h=>?_)
 ·have hlt:i<ds.length:=by have:=of_decide_eq_true h;omega
  obtain ⟨x,hx⟩:=lget_of_lt ds hlt
  refine AK.ix i (by omega) (nrows_get hx) ?_
  refine AK.op (Ndo.append (res:=zrs ((ds.take (i+1)).map Nd.num)) rfl rfl rfl rfl rfl rfl rfl rfl rfl rfl rfl rfl rfl rfl htl (zrs_al _) rfl rfl rfl ?_ ?_ rfl) ?_
  ·rw [htl];simp;omega
  ·rw [List.take_add_one,hx];simp [zrs]
  refine IH (i+1) hlt (by omega) _ _ ⟨vint ((wrap_small (by omega) (by omega)).trans (by omega)),rfl,rfl,rfl,trivial⟩ ?_ rfl rfl
  show St.mk [[ncells n]] [_+1]=St.mk [[ncells n]] [i+1]
  rw [htl]
 ·have:i=ds.length:=by have:=of_decide_eq_false h;omega
  subst this
  rw [List.take_length]
  exact AK.rz Tryz.func102 rfl
theorem p_sizes (n:Nd)(hn:wN n≤1000000000):Pure X 52 [nd n] (.sl (zrs (sizesT n)) .no):=by
 let sz (l:List Nd):List Int:=(l.filter fun x=>x.kind==32).map Nd.num
 have szle:∀ l:List Nd,(sz l).length≤l.length:=fun l=>by simp only [sz,List.length_map];exact List.length_filter_le _ _
 refine Pure.run Tryz.func52 ?_
 have hkl:=kids_le_w n
 have hw:IntKind.i64.wrap ((nrows n.kids).length-1:Int)=n.kids.length-1:=by rw [nrows_len];exact wrap_small (by omega) (by omega)
 refine AK.mint (d:=3) rfl rfl rfl ?_
 refine AK.while_ (ι:=Nat) 1 1 (fun i=>i≤n.kids.length-1) (fun i=>[(4,vi i),(3,.sl (zrs (sz (n.kids.take i))) (.tok 0)),(1,.ptr 0 0 0)]) (fun i=>⟨[[ncells n]],[(sz (n.kids.take i)).length]⟩) (fun i=>n.kids.length-i) ?_ 0
  (Nat.zero_le _) ⟨rfl,rfl,rfl,trivial⟩ rfl rfl rfl rfl rfl (fun _=>inferInstance) (fun _=>inferInstance)
 intro i hi IH
 refine AK.ev 100 rfl ?_
 refine AK.if_ (fun h=>?_) (fun h=>?_)
 ·have hlt:i<n.kids.length-1:=by have:=of_decide_eq_true h;rw [hw] at this;omega
  obtain ⟨x,hx⟩:=lget_of_lt n.kids (i:=i) (by omega)
  have hle:=szle (n.kids.take i)
  have htl:(n.kids.take i).length=i:=by simp;omega
  refine AK.ix i (by omega) (nrows_get hx) ?_
  refine AK.if_ (fun h2=>?_) (fun h2=>?_)
  ·have h2':(x.kind==32)=true:=h2
   have hs:sz (n.kids.take (i+1))=sz (n.kids.take i)++[x.num]:=by simp [sz,List.take_add_one,hx,List.filter_append,List.filter_cons,h2']
   refine AK.ix i (by omega) (nrows_get hx) ?_
   refine AK.op (Ndo.append (res:=zrs (sz (n.kids.take i)++[x.num])) rfl rfl rfl rfl rfl rfl rfl rfl rfl rfl rfl rfl rfl rfl (zrs_len _) (zrs_al _) rfl rfl rfl ?_ ?_ rfl) ?_
   ·rw [zrs_len];simp;omega
   ·simp [zrs]
   refine IH (i+1) (by omega) (by omega) _ _ ⟨vint ((wrap_small (by omega) (by omega)).trans (by omega)),?_,rfl,trivial⟩ ?_ rfl rfl
   ·rw [hs];rfl
   ·rw [hs];simp [St.drop,zrs_len]
  ·have h2':(x.kind==32)=false:=h2
   have hs:sz (n.kids.take (i+1))=sz (n.kids.take i):=by simp [sz,List.take_add_one,hx,List.filter_append,List.filter_cons,h2']
   refine IH (i+1) (by omega) (by omega) _ _ ⟨vint ((wrap_small (by omega) (by omega)).trans (by omega)),?_,rfl,trivial⟩ ?_ rfl rfl
   ·rw [hs];rfl
   ·rw [hs];rfl
 ·have:i=n.kids.length-1:=by have:=of_decide_eq_false h;rw [hw] at this;omega
  refine AK.rz Tryz.func52 ?_
  rw [this,sizesT,declK,List.dropLast_eq_take]
end Go.V
