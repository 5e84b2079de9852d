/- A part of the proof of the claim that the last text states: no condition of its own. -/
import Derived.Test.YtojhghmilenfkaaGreatDoorQ2
import Derived.Laws.IdiomStrings
import Derived.Laws.StructEq
set_option linter.unusedVariables false
set_option linter.unusedSimpArgs false
namespace Go.V
open Go
section
variable {X:Cx}{B:Bx}{E:Env}{S:St}{w w':World}{F:Cw}{a:Act}{N:Nat}{R:AE→St→Prop}
def Env.setTok(E:Env)(t:Nat)(k:Tk):Env:={ E with toks:=E.toks.set t k }
theorem E8{α:Type}{l:List α}{i j:Nat}{x y:α}(h:(l.set i x)[j]?=some y):(j=i∧y=x)∨(j≠i∧l[j]?=some y):=by
 grind
theorem Qh{w w':World}{b q:Nat}{e:TypeId}(h1:q=b→∃cs cs' te z,w.heap[q]?=some (.cells cs te z)∧w'.heap[q]?=some (.cells cs' te z))(h2:q≠b→w'.heap[q]?=w.heap[q]?)(h:Gk w q=some e):Gk w' q=some e:=by
 grind [Gk]
theorem Pv(hI:Inv X E S w){t n m b c sz:Nat}{k:Tk}(hk:E.toks[t]?=some k)(hkn:k.len=n)(hlt:n<m)(hmc:sz≠0→m≤c)
 (hos:w'.os=w.os)(htp:w'.tape=w.tape)(hout:w'.output=w.output)(hsize:w.heap.size≤w'.heap.size)(hoth:∀q,q<w.heap.size→q≠b→w'.heap[q]?=w.heap[q]?)
 (hb:b=w.heap.size∨k.sp=some (b,c,sz))(hbs:b<w'.heap.size)(hcell:∀o v,o<n*sz→w.cell? ⟨b,o,none⟩=some v→w'.cell? ⟨b,o,none⟩=some v)
 (hnew:∃cs e,w'.heap[b]?=some (.cells cs e (0,0))∧(sz≠0→cs.size=c*sz))(hty:∀q e,Gk w q=some e→Gk w' q=some e) :
 Evol E w (E.setTok t ⟨m,some (b,c,sz)⟩) w' E.boxes.length E.toks.length∧Inv X (E.setTok t ⟨m,some (b,c,sz)⟩) ⟨S.boxes,S.toks.set t m⟩ w' ∧
  ∀o,o<m*sz→¬(E.setTok t ⟨m,some (b,c,sz)⟩).mt b o:=by
 have hkt:=Aa hk;obtain⟨kl,ksp⟩:=k;simp only at hkn hb;subst hkn;have hwas:∀{l' c' s':Nat} {q:Nat},E.toks[q]?=some (Tk.mk l' (some (b,c',s')))→q=t:=fun{l' c' s' q} h=>by
  rcases hb with hb|hb
  ·exact absurd (.inr ⟨q,l',c',s',hb▸h⟩) (Wb hI)
  ·subst hb;exact hI.tt q t b l' c' s' kl c sz h hk
 have nobox:∀{i s:Nat},E.boxes[i]?=some (some (b,s))→False:=fun{i s} h=>by
  rcases hb with hb|hb
  ·exact absurd (.inl ⟨i,s,hb▸h⟩) (Wb hI)
  ·subst hb;exact hI.bt i t b s kl c sz h hk
 have nofr:∀o,¬E.fr b o:=fun o h=>by
  rcases hb with hb|hb
  ·have:=(hI.frlt b o h).2;omega
  ·subst hb;exact(hI.frlt b o h).1 (.inr ⟨t,kl,c,sz,hk⟩)
 have hown:∀q,(E.setTok t ⟨m,some (b,c,sz)⟩).own q→E.own q∨q=b:=fun q h=>by
  rcases h with⟨i,s,h⟩|⟨i,l,c',s,h⟩
  ·exact .inl (.inl ⟨i,s,h⟩)
  ·rcases E8 h with⟨_,h⟩|⟨_,h⟩
   ·grind
   ·exact .inl (.inr ⟨i,l,c',s,h⟩)
 have hbown:b<w.heap.size→E.own b:=fun h=>by
  rcases hb with hb|hb
  ·omega
  ·subst hb;exact .inr ⟨t,kl,c,sz,hk⟩
 have hmt:∀q o,q<w.heap.size→(E.setTok t ⟨m,some (b,c,sz)⟩).mt q o→E.mt q o:=fun q o hq h=>by
  rcases h with h|⟨i,s,h⟩|⟨i,l,c',s,h,ho⟩
  ·exact .inl h
  ·exact .inr (.inl ⟨i,s,h⟩)
  ·rcases E8 h with⟨_,h⟩|⟨_,h⟩
   ·cases h;rcases hb with hb|hb
    ·omega
    ·subst hb;have:=Uf sz (Nat.le_of_lt hlt);exact .inr (.inr ⟨t,kl,c,sz,hk,by omega⟩)
   ·exact .inr (.inr ⟨i,l,c',s,h,ho⟩)
 have ev:Evol E w (E.setTok t ⟨m,some (b,c,sz)⟩) w' E.boxes.length E.toks.length:=by
  refine⟨rfl,fun _ _ h=>⟨h,fun _ h=>h⟩,fun q hq k' hk'=>?_,hos,htp,hout,hsize,fun q hq ho=>?_,fun q o v hm hc=>?_,fun q o hq h=>hmt q o hq h,fun q hq h=>?_,rfl,hty,fun q _ k' b1 c1 g1 g2 g3 o ho=>?_⟩
  ·by_cases hqt:q=t
   ·grind [Env.setTok]
   ·exact⟨k',by grind [Env.setTok],.inl rfl⟩
  ·grind
  ·by_cases hqb:q=b
   ·subst hqb;refine hcell o v ?_ hc;rcases hb with hb|hb
    ·grind [Ni]
    ·subst hb;rcases Ga o (kl*sz)with h|h
     ·exact h
     ·exact absurd (.inr (.inr ⟨t,kl,c,sz,hk,h⟩)) hm
   grind [World.cell?]
  ·grind
  ·obtain⟨kl',ksp'⟩:=k'
   grind [Env.setTok]
 refine⟨ev,?_,fun o ho h=>?_⟩
 ·exact{
   nb:=hI.nb
   nt:=by simp only[Env.setTok,Z1,hI.nt]
   np:=hI.np
   box:=fun i b' s rr h1 h2=>by
    obtain⟨cs',e',hh',hs',hl',hr'⟩:=hI.box i b' s rr h1 h2;have hne:b'≠b:=fun h=>nobox (h▸h1);exact⟨cs',e',(hoth b' (hI.own_lt (.inl ⟨i,s,h1⟩)) hne).trans hh',hs',hl',fun k r j x v h3 h4 h5=>(hr' k r j x v h3 h4 h5).step ev⟩
   tok:=fun q l b' c' s h=>by
    rcases E8 h with⟨_,h⟩|⟨hq,h⟩
    ·grind
    ·obtain⟨h1,h0,cs,e,hh',hs'⟩:=hI.tok q l b' c' s h
     grind
   bb:=hI.bb
   bt:=fun i q b' s l c' s' h1 h2=>by
    rcases E8 h2 with⟨_,h2⟩|⟨_,h2⟩
    ·cases h2;exact nobox h1
    ·exact hI.bt i q b' s l c' s' h1 h2
   tt:=fun i j b' l c1 s l' c' s' h1 h2=>by
    rcases E8 h1 with⟨hi,h1⟩|⟨hi,h1⟩<;>rcases E8 h2 with⟨hj,h2⟩|⟨hj,h2⟩
    ·omega
    ·grind
    ·grind
    ·exact hI.tt i j b' l c1 s l' c' s' h1 h2
   frlt:=fun q o h=>⟨fun h'=>by
    rcases hown q h' with h'|h'
    ·exact(hI.frlt q o h).1 h'
    ·subst h';exact nofr o h,Ng (hI.frlt q o h).2 hsize⟩
   lo:=fun q h=>by
    rcases hown q h with h|h
    ·exact hI.lo q h
    ·subst h;rcases hb with hb|hb
     ·rw[hb];exact hI.sz
     ·subst hb;exact hI.lo _ (.inr ⟨t,kl,c,sz,hk⟩)
   frlo:=hI.frlo
   sz:=Vt hI.sz hsize
   glob:=X.glob_st w w' (fun q hq=>ev.block q (Ng hq hI.sz) (fun ho=>by have:=hI.lo q ho;omega)) hI.sz hos hI.glob }
 ·rcases h with h|⟨i,s,h⟩|⟨i,l,c',s,h,ho'⟩
  ·exact nofr o h
  ·exact nobox h
  ·rcases E8 h with⟨_,h⟩|⟨hq,h⟩
   ·grind
   grind
def Et(n sz:Nat)(vals:Nat→Nat→Value):List Value:=(List.range (n*sz)).map fun q=>vals (q/sz) (q%sz)
theorem Ew(n sz:Nat)(vals:Nat→Nat→Value):(Et n sz vals).length=n*sz:=by simp[Et]
theorem Ll{n sz:Nat}{vals:Nat→Nat→Value}{i j:Nat}(hi:i<n)(hj:j<sz):(Et n sz vals)[i*sz+j]?=some (vals i j):=by
 have:=Jv hi hj;simp only[Et,Hd];rw[Ab2 this];simp only[K4];rw[Nat.mul_comm i sz,Nat.mul_add_div (by omega),Nat.mul_add_mod,Nat.mod_eq_of_lt hj,Nat.div_eq_of_lt hj,Rx]
theorem Y3{n sz:Nat}{vals:Nat→Nat→Value}{q:Nat}(hq:q<n*sz):∃i j,i<n∧j<sz∧q=i*sz+j∧(Et n sz vals)[q]?=some (vals i j):=by
 have hs:0<sz:=by
  grind
 have hdm:=Nat.div_add_mod q sz;rw[Nat.mul_comm]at hdm;have hi:q/sz<n:=(Nat.div_lt_iff_lt_mul hs).2 hq;have hj:=Nat.mod_lt q hs;refine⟨q/sz,q%sz,hi,hj,hdm.symm,?_⟩
 grind [Ll]
theorem Ano{tx e':TypeId}(hk:X.P.underlying tx=some (.slice e')){size:Nat}{new:A7}{sp:Sp}{u:Value}(hu:Rel E w u (.sl new sp))(hz:∀r,r∈new→r.length=size)
 (hc:∀r,r∈new→∀x,x∈r→Jj x=true)(hne:new≠[]) :
 ∃vals:Nat→Nat→Value,Src X.P size tx u new.length (Et new.length size vals) w∧∀(i j:Nat) (r:An) (x:AV),new[i]?=some r→r[j]?=some x→Rel E w (vals i j) x:=by
 cases hu with
 |sl _ _ a n cap b o sz vals hn hx ha hsz hm hcl hr hs hcap=>
  subst hn;obtain⟨r0,l0,rfl⟩:∃r0 l0,new=r0::l0:=by
   cases new<;>grind
  have hs0:sz=size:=by simp_all
  subst hs0;have ha':=ha (by simp);subst ha';refine⟨vals,Src.ofSlice w hk ⟨b,o,none⟩ _ cap _ (Ew _ _ _) (fun q v hq=>?_) (fun v hv=>?_),hr⟩
  ·obtain⟨i,j,hi,hj,rfl,he⟩:=Y3 (vals:=vals) (by have:=Aa hq;rw[Ew]at this;exact this)
   grind [Gq]
  ·obtain⟨q,hq⟩:=B9 hv;obtain⟨i,j,hi,hj,rfl,he⟩:=Y3 (vals:=vals) (by have:=Aa hq;rw[Ew]at this;exact this);rw[he]at hq;cases hq;obtain⟨r,hri⟩:=Ab (r0::l0) hi;have hrl:=hz r (Bn hri);obtain⟨x,hxj⟩:=Ab r (i:=j) (by omega);exact Mn (hr i j r x hri hxj) (hc r (Bn hri) x (Bn hxj))
theorem Ql(t tx ty e:TypeId)(i:TypeInfo)(ht:X.P.underlying t=some (.slice e))(hi:X.P.info? e=some i)(b sLen sCap:Nat)(x:Value)(n:Nat)(news:List Value)(hs:Src X.P i.size tx x n news w)
 (hroom:sLen+n≤sCap){cur:Array Value}{te:TypeId}(hb:w.heap[b]?=some (.cells cur te (0,0)))(hfit:sLen*i.size+news.length≤cur.size) :
 (Builtin.append_ #[t,tx] ty #[.slice (some ⟨b,0,none⟩) sLen sCap,x]).run X.P w=.ok (.slice (some ⟨b,0,none⟩) (sLen+n) sCap)
   (w.setRow b (cur.toList.take (sLen*i.size)++news++cur.toList.drop (sLen*i.size+news.length)).toArray):=by
 have hst:=run_storeCells_at X.P b (sLen*i.size) te news 0 cur w hb (by omega) hs.one;simp only[Rx]at hst;rcases hs.kind with⟨e',hk⟩|hk<;>simp[Builtin.append_,run_underlying ht,run_underlying hk,sizeOf,typeInfo,hi,hs.len,hroom,hs.cells,Gq,hst]
theorem Al9(hI:Inv X E S w){t:Nat}{tt tx ty e:TypeId}{ye:Ty}(hu:X.P.underlying tt=some (.slice e))(hye:X.ty e=some ye)(hne0:ye.size≠0)
 {rows new:A7}{u v:Value}{vals2:Nat→Nat→Value}(hp:Rel E w u (.sl rows (.tok t)))(hsrc:Src X.P ye.size tx v new.length (Et new.length ye.size vals2) w)
 (hr2:∀(i j:Nat)(r:An)(x:AV),new[i]?=some r→r[j]?=some x→Rel E w (vals2 i j) x)(hS:S.toks[t]?=some rows.length)
 (hz:∀r,r∈rows→r.length=ye.size)(hz':∀r,r∈new→r.length=ye.size)(hne:new≠[])(hb:rows.length+new.length≤100000000000) :
 ∃r E' w',(Builtin.append_ #[tt,tx] ty #[u,v]).run X.P w=.ok r w'∧Inv X E' ⟨S.boxes,S.toks.set t (rows.length+new.length)⟩ w'∧Evol E w E' w' E.boxes.length E.toks.length ∧
  Rel E' w' r (.sl (rows++new) (.tok t)):=by
 obtain⟨i,z,hi,hsz,hby,hzv,hzc,hzl,_⟩:=(X.ty_ok e ye hye).info;have hnew:0<new.length:=zzq45.2 hne;rw[←hsz]at hsrc;generalize hR:rows=rows0 at hp;cases hp with
 |sl _ _ a n cap b o sz vals hn hx ha hszr hm hcl hr hs hcap=>
 subst hR;subst hn;obtain⟨k,hk1,hk2,hk3⟩:=hs;have hkl:k.len=rows.length:=by
  have h1:=hI.nt
  grind
 have hk4:=hk3 hkl.symm;have hvals:∀(vals':Nat→Nat→Value),(∀i j,i<rows.length→vals' i j=vals i j)→(∀i j,rows.length≤i→vals' i j=vals2 (i-rows.length) j)→∀{E':Env} {w':World},Evol E w E' w' E.boxes.length E.toks.length →
  ∀(i j:Nat) (r:An) (x:AV),(rows++new)[i]?=some r→r[j]?=some x→Rel E' w' (vals' i j) x:=fun vals' h1 h2 {E' w'} ev i j r x hi hj=>by
  rcases Ga i rows.length with h|h
  ·rw[Dd h]at hi;rw[h1 i j h];exact(hr i j r x hi hj).step ev
  ·rw[Gz h]at hi;rw[h2 i j h];exact(hr2 _ j r x hi hj).step ev
 have hall:∀r,r∈rows++new→r.length=ye.size:=fun r h=>by
  grind
 have hlen:(rows++new).length=rows.length+new.length:=by simp
 have grow:cap<rows.length+new.length→∃r E' w',(Builtin.append_ #[tt,tx] ty #[.slice a rows.length cap,v]).run X.P w=.ok r w'∧Inv X E' ⟨S.boxes,S.toks.set t (rows.length+new.length)⟩ w'∧Evol E w E' w' E.boxes.length E.toks.length ∧
  Rel E' w' r (.sl (rows++new) (.tok t)):=fun hg=>by
  have hold:(Builtin.firstCells i.size rows.length (.slice a rows.length cap)).run X.P w.drew=.ok (Et rows.length i.size vals).toArray w.drew:=by
   rcases Nat.eq_zero_or_pos rows.length with h0|h0
   ·rw[h0];have:Et 0 i.size vals=[]:=by simp[Et]
    rw[this];cases a<;>grind [run_firstCells_none,run_firstCells_some]
   ·have ha':=ha (by omega);subst ha';obtain⟨r0,hr0⟩:=Ab rows h0;have:sz=i.size:=by rw[←hszr r0 (Bn hr0),hz r0 (Bn hr0),hsz]
    subst this;refine run_firstCells_some _ _ _ _ _ _ _ (Ew _ _ _) (fun q v hq=>?_);obtain⟨i',j',hi',hj',rfl,he⟩:=Y3 (vals:=vals) (by have:=Aa hq;rw[Ew]at this;exact this);simp_all [Gq,Qi]
  have hby':(rows.length+new.length)*i.bytes≤140737488355328:=Vt (Nat.mul_le_mul_left _ hby) (by omega);have hrun:=run_append_grow_src w tt tx ty e i z hu hi hzv a rows.length cap _ hold v new.length _ hsrc hg (by omega) (growslice_fits hg hby');have hcc:=grownCap_ge w (rows.length+new.length) cap e;generalize grownCap w (rows.length+new.length) cap e=cc at hrun hcc;have hfl:∀(i' j':Nat),i'<rows.length+new.length→j'<ye.size→(Et rows.length i.size vals++Et new.length i.size vals2)[i'*ye.size+j']?=some (if i'<rows.length then vals i' j' else vals2 (i'-rows.length) j'):=fun i' j' hi' hj'=>by
   rw[hsz];by_cases h:i'<rows.length
   ·have:=Jv h hj';rw[Dd (by grind [Ew]),if_pos h];simp_all [Ll]
   ·have hle:rows.length*ye.size≤i'*ye.size:=Uf _ (by omega);rw[Gz (by rw[Ew];omega),if_neg h,Ew];rw[show i'*ye.size+j'-rows.length*ye.size=(i'-rows.length)*ye.size+j' by rw[Nat.sub_mul];omega]
    grind [Ll]
  have hcs:((Et rows.length i.size vals++Et new.length i.size vals2).toArray++Builtin.zeroCells z.cells (cc-(rows.length+new.length))).size=cc*ye.size:=by
   have hzs:z.cells.size=ye.size:=by grind
   have:(Builtin.zeroCells z.cells (cc-(rows.length+new.length))).size=(cc-(rows.length+new.length))*ye.size:=by
    simp[Builtin.zeroCells,hzs]
   rw[Array.size_append,this,Ag6,F5,Ew,Ew,hsz,←Rz,←Rz];simp_all
  have hpush:∀o:Obj,(w.drew.alloc o).heap=w.heap.push o:=fun _=>rfl;obtain⟨ev,hI',hmt⟩:=Pv (w':=w.drew.alloc (.cells ((Et rows.length i.size vals++Et new.length i.size vals2).toArray++Builtin.zeroCells z.cells (cc-(rows.length+new.length))) e)) hI (t:=t) (n:=rows.length) (m:=rows.length+new.length)
   (b:=w.heap.size) (c:=cc) (sz:=ye.size) hk1 hkl (by omega) (fun _=>hcc) rfl rfl rfl (by simp) (fun q hq _=>by grind) (.inl rfl) (by simp)
   (fun o v _ h=>by have:=Ni h;omega) ⟨_,e,by simp_all,fun _=>hcs⟩ (Evol.push (E:=E) (w:=w) ⟨_,hpush _⟩ rfl rfl rfl 0 0).ty
  refine⟨_,_,_,hrun,hI',ev,?_⟩;have hkt:=Aa hk1;refine .sl (rows++new) (.tok t) _ _ cc w.heap.size 0 ye.size (fun i j=>if i<rows.length then vals i j else vals2 (i-rows.length) j) hlen (by grind [P1]) (fun _=>rfl) hall (fun i' j' hi' hj'=>?_) (fun i' j' hi' hj'=>?_)
   (hvals _ (fun i' j' h=>if_pos h) (fun i' j' h=>if_neg (by omega)) ev) ⟨⟨rows.length+new.length,some (w.heap.size,cc,ye.size)⟩,by simp[Env.setTok,hkt],Bt _,fun _=>⟨rfl,rfl,rfl⟩⟩ hcc
  ·grind [Jv]
  ·have h:=hfl i' j' hi' hj';have hlt:=Aa h;simp only[Kr]
   grind [World.cell?]
 by_cases hg:cap<rows.length+new.length
 ·simp_all
 ·obtain⟨kl,ksp⟩:=k;cases ksp with
  |none=>omega
  |some q=>
   obtain⟨b',c',s'⟩:=q;simp only at hk4 hkl;obtain⟨rfl,rfl,rfl⟩:=hk4;subst hkl;obtain⟨h1,h00,cur,te,hh,hcs⟩:=hI.tok t _ b' cap s' hk1;have h0:s'≠0:=fun hs0=>by
    obtain⟨r0,hr0⟩:=Ab rows (i:=0) (by omega);have g1:=hszr r0 (Bn hr0)
    grind
   have h1:=h1 h0;have hcs:=hcs h0;have hab:=ha (by omega);simp only[Option.some.injEq,Addr.mk.injEq,and_true]at hab;obtain⟨rfl,rfl⟩:=hab;obtain⟨r0,hr0⟩:=Ab rows (i:=0) (by omega);have:s'=i.size:=by rw[←hszr r0 (Bn hr0),hz r0 (Bn hr0),hsz]
   subst this;have hsub:(rows.length+new.length)*i.size≤cap*i.size:=Uf _ (by omega);rw[Rz]at hsub;have hfit:rows.length*i.size+(Et new.length i.size vals2).length≤cur.size:=by grind [Ew]
   have hrun:=Ql tt tx ty e i hu hi b' rows.length cap v new.length _ hsrc (by omega) hh hfit;have hfl:=Ew new.length i.size vals2;have hat:=setRow_heap w b' cur (cur.toList.take (rows.length*i.size)++Et new.length i.size vals2++cur.toList.drop (rows.length*i.size+(Et new.length i.size vals2).length)).toArray te _ hh;have hoth:∀q,q≠b'→(w.setRow b' (cur.toList.take (rows.length*i.size)++Et new.length i.size vals2++cur.toList.drop (rows.length*i.size+(Et new.length i.size vals2).length)).toArray).heap[q]?=w.heap[q]?:=
    fun q hq=>setRow_other w b' q _ (by omega)
   have hspl:=fun q=>Lh cur.toList (Et new.length i.size vals2) (rows.length*i.size) q (by omega);have hsp1:∀q,q<rows.length*i.size→(cur.toList.take (rows.length*i.size)++Et new.length i.size vals2++cur.toList.drop (rows.length*i.size+(Et new.length i.size vals2).length))[q]?=cur.toList[q]?:=fun q h=>by
    grind
   have hsp2:∀q,rows.length*i.size≤q→q<rows.length*i.size+(Et new.length i.size vals2).length →
    (cur.toList.take (rows.length*i.size)++Et new.length i.size vals2++cur.toList.drop (rows.length*i.size+(Et new.length i.size vals2).length))[q]?=(Et new.length i.size vals2)[q-rows.length*i.size]?:=fun q h1 h2=>by
    simp_all
   have hbw:b'<w.heap.size:=hI.own_lt (.inr ⟨t,_,cap,i.size,hk1⟩);obtain⟨ev,hI',hmt⟩:=Pv (w':=w.setRow b' (cur.toList.take (rows.length*i.size)++Et new.length i.size vals2++cur.toList.drop (rows.length*i.size+(Et new.length i.size vals2).length)).toArray) hI (t:=t) (n:=rows.length) (m:=rows.length+new.length)
    (b:=b') (c:=cap) (sz:=i.size) hk1 rfl (by omega) (fun _=>by omega) rfl rfl rfl (by simp) (fun q _ hq=>hoth q hq) (.inr rfl) (by simp_all)
    (fun o v ho h=>by
      grind [World.cell?])
    ⟨_,_,hat,fun _=>by grind⟩
    (fun q e he=>Qh (fun h=>by grind) (hoth q) he)
   refine⟨_,_,_,hrun,hI',ev,?_⟩;have hkt:=Aa hk1;have hnm:∀i' j',i'<rows.length+new.length→j'<i.size→i'*i.size+j'<(rows.length+new.length)*i.size:=fun i' j' hi' hj'=>Jv hi' hj';refine .sl (rows++new) (.tok t) _ _ cap b' 0 i.size (fun i j=>if i<rows.length then vals i j else vals2 (i-rows.length) j) hlen (by grind [P1]) (fun _=>rfl) (fun r hr=>by simp_all) (fun i' j' hi' hj'=>?_) (fun i' j' hi' hj'=>?_)
    (hvals _ (fun i' j' h=>if_pos h) (fun i' j' h=>if_neg (by omega)) ev) ⟨⟨rows.length+new.length,some (b',cap,i.size)⟩,by simp[Env.setTok,hkt],Bt _,fun _=>⟨rfl,rfl,rfl⟩⟩ (by omega)
   ·simp_all
   ·simp only[Kr];by_cases h:i'<rows.length
    ·have h3:=hcl i' j' h hj';simp only[Kr]at h3;rw[if_pos h];exact ev.cell _ _ _ (by simp_all) h3
    ·rw[if_neg h];simp only[World.cell?,hat,Vu];have hle:rows.length*i.size≤i'*i.size:=Uf _ (by omega);have h4:=hnm i' j' hi' hj';rw[Rz]at h4;rw[hsp2 _ (by omega) (by omega)];rw[show i'*i.size+j'-rows.length*i.size=(i'-rows.length)*i.size+j' by grind]
     grind [Ll]
theorem Ahp(hI:Inv X E S w){t:Nat}{tt tx ty e e':TypeId}{ye:Ty}(hu:X.P.underlying tt=some (.slice e))(hk:X.P.underlying tx=some (.slice e'))(hye:X.ty e=some ye)(hne0:ye.size≠0)
 {rows new:A7}{sp:Sp}{u v:Value}(hp:Rel E w u (.sl rows (.tok t)))(hq:Rel E w v (.sl new sp))(hS:S.toks[t]?=some rows.length)
 (hz:∀r,r∈rows→r.length=ye.size)(hz':∀r,r∈new→r.length=ye.size)(hc:∀r,r∈new→∀x,x∈r→Jj x=true)(hne:new≠[])(hb:rows.length+new.length≤100000000000) :
 ∃r E' w',(Builtin.append_ #[tt,tx] ty #[u,v]).run X.P w=.ok r w'∧Inv X E' ⟨S.boxes,S.toks.set t (rows.length+new.length)⟩ w'∧Evol E w E' w' E.boxes.length E.toks.length ∧
  Rel E' w' r (.sl (rows++new) (.tok t)):=by
 obtain⟨vals2,hsrc,hr2⟩:=Ano hk hq hz' hc hne;exact Al9 hI hu hye hne0 hp hsrc hr2 hS hz hz' hne hb
end
abbrev str(s:Ad):AV:=.val (.string ⟨⟨s⟩⟩)
def Mf(n:Nat):A7→Bool
 |[]=>true
 |r::l=>match Nat.beq r.length n with
  |true=>Mf n l
  |false=>false
def Nt:A7→Bool
 |[]=>true
 |r::l=>match J9 r with
  |true=>Nt l
  |false=>false
theorem I7{n:Nat}:∀{l:A7},Mf n l=true↔∀r,r∈l→r.length=n
 |[]=>by simp[Mf]
 |r::l=>by
  simp only[Mf];constructor
  ·intro h;split at h
   ·simp_all [I7]
   ·cases h
  ·intro h;have h1:=h r (by simp);have:Nat.beq r.length n=true:=by rw[h1];exact Nat.beq_refl n
   rw[this];exact I7.2 fun q hq=>h q (by simp[hq])
theorem Nh:∀{l:An},J9 l=true↔∀x,x∈l→Jj x=true
 |[]=>by simp[J9]
 |x::l=>by
  simp only[J9];constructor
  ·intro h;split at h
   ·simp_all [Nh]
   ·cases h
  ·intro h;rw[h x (by simp)];exact Nh.2 fun q hq=>h q (by simp[hq])
theorem Li:∀{l:A7},Nt l=true↔∀r,r∈l→∀x,x∈r→Jj x=true
 |[]=>by simp[Nt]
 |r::l=>by
  simp only[Nt];constructor
  ·intro h;split at h
   ·rename_i hb;intro q hq;rcases zzq8.1 hq with rfl|hq
    ·exact Nh.1 hb
    ·exact Li.1 h q hq
   ·cases h
  ·intro h;rw[Nh.2 (h r (by simp))];exact Li.2 fun q hq=>h q (by simp[hq])
theorem Pf{α:Type}{n:Nat}{f:α→An}(h:∀a,(f a).length=n)(l:List α):Mf n (l.map f)=true:=
 I7.2 fun r hr=>by grind
section
variable {X:Cx}{B:Bx}{E:Env}{S:St}{w w':World}{F:Cw}{a:Act}{N:Nat}{R:AE→St→Prop}
def Env.mint(E:Env)(n:Nat):Env:={ E with toks:=E.toks++[⟨n,none⟩] }
theorem Adx{n b:Nat}:(E.mint n).own b↔E.own b:=by
 constructor
 ·rintro(h|⟨t,l,c,sz,h⟩)
  ·exact .inl h
  ·rcases getElem?_snoc h with h|⟨_,h⟩
   ·exact .inr ⟨t,l,c,sz,h⟩
   ·cases h
 ·rintro(h|⟨t,l,c,sz,h⟩)
  ·exact .inl h
  ·exact .inr ⟨t,l,c,sz,getElem?_snoc_left h⟩
theorem Ayp{n b o:Nat}:(E.mint n).mt b o↔E.mt b o:=by
 constructor
 ·rintro(h|h|⟨t,l,c,sz,h,h'⟩)
  ·exact .inl h
  ·exact .inr (.inl h)
  ·rcases getElem?_snoc h with h|⟨_,h⟩
   ·exact .inr (.inr ⟨t,l,c,sz,h,h'⟩)
   ·cases h
 ·rintro(h|h|⟨t,l,c,sz,h,h'⟩)
  ·exact .inl h
  ·exact .inr (.inl h)
  ·exact .inr (.inr ⟨t,l,c,sz,getElem?_snoc_left h,h'⟩)
theorem Np(E:Env)(w:World)(n:Nat):Evol E w (E.mint n) w E.boxes.length E.toks.length where
 fr:=rfl
 boxes _ _ h:=⟨h,fun _ h=>h⟩
 toks t _ k hk:=⟨k,getElem?_snoc_left hk,.inl rfl⟩
 os:=rfl
 tape:=rfl
 output:=rfl
 size:=Bt _
 block _ _ _:=rfl
 cell _ _ _ _ h:=h
 mt _ _ _ h:=Ayp.1 h
 own _ _ h:=Adx.1 h
 df:=rfl
 ty _ _ h:=h
 pv _ _ _ _ _ _ _ _ _ h:=h
theorem Inv.mint(hI:Inv X E S w)(n:Nat):Inv X (E.mint n) ⟨S.boxes,S.toks++[n]⟩ w where
 nb:=hI.nb
 nt:=by simp[Env.mint,hI.nt]
 np:=hI.np
 box i b sz rows h1 h2:=by
  obtain⟨cs,e,hh,hs,hl,hr⟩:=hI.box i b sz rows h1 h2;exact⟨cs,e,hh,hs,hl,fun k r j x v h3 h4 h5=>(hr k r j x v h3 h4 h5).step (Np E w n)⟩
 tok t l b c sz h:=by
  rcases getElem?_snoc h with h|⟨_,h⟩
  ·exact hI.tok t l b c sz h
  ·cases h
 bb:=hI.bb
 bt i t b s l c sz h1 h2:=by
  rcases getElem?_snoc h2 with h|⟨_,h⟩
  ·exact hI.bt i t b s l c sz h1 h
  ·cases h
 tt i j b l c s l' c' s' h1 h2:=by
  rcases getElem?_snoc h1 with h1|⟨_,h1⟩
  ·rcases getElem?_snoc h2 with h2|⟨_,h2⟩
   ·exact hI.tt i j b l c s l' c' s' h1 h2
   ·cases h2
  ·cases h1
 frlt b o h:=⟨fun h'=>(hI.frlt b o h).1 (Adx.1 h'),(hI.frlt b o h).2⟩
 lo b h:=hI.lo b (Adx.1 h)
 frlo:=hI.frlo
 sz:=hI.sz
 glob:=hI.glob
theorem Rel.mint(hI:Inv X E S w){v:Value}{rows:A7}(h:Rel E w v (.sl rows .tight)):Rel (E.mint rows.length) w v (.sl rows (.tok S.toks.length)):=by
 have h':=h.step (Np E w rows.length);have hl:S.toks.length=E.toks.length:=by rw[←hI.nt];simp
 cases h' with
 |sl _ _ a n cap b o sz vals hn hx ha hsz hm hc hr hs hcap=>
  refine .sl rows _ a n cap b o sz vals hn hx ha hsz hm hc hr ⟨⟨rows.length,none⟩,?_,by simp[hn],fun _=>hs⟩ hcap;rw[hl];exact getElem?_snoc_new _ _
theorem FR.mint(hF:FR E w F a N)(n:Nat):FR (E.mint n) w F a N:=hF.step (Np E w n)
theorem R6{K:List Item}{d m:Nat}{rows:A7}{tk:List Nat}(hd:lk F d=some (.sl rows .tight))(hn:S.toks.length=m)(htk:S.toks++[rows.length]=tk)
 (hk:AK X B K ((d,.sl rows (.tok m))::F) ⟨S.boxes,tk⟩ R):AK X B K F S R:=by
 subst hn;subst htk;intro E w a b cs hI hF hn hm hb;have ev:=Np E w rows.length;have hI':=hI.mint rows.length;have hF':FR (E.mint rows.length) w ((d,.sl rows (.tok S.toks.length))::F) a B.fn.ntmps:=by
  have h0:=hF.mint rows.length;refine⟨h0.size,h0.nod,fun k x hx=>?_⟩;rw[Kk]at hx;split at hx
  ·rename_i hdk;subst hdk;cases hx;obtain⟨v,hv,hr⟩:=hF.rel d _ hd
   grind [Rel.mint]
  ·exact h0.rel k x hx
 have nt:E.toks.length=S.toks.length:=by rw[←hI.nt];simp
 exact Fin.from (Steps.refl _ _) (ev.weaken (by rw[hI.nb];exact hn) (by omega)) (hk (E.mint rows.length) w a b cs hI' hF' hn (by simp;omega) hb)
theorem Cn{ops:Array Oper}{i:Nat}{o:Oper}{c:Call}{p q:Operand}{t tt tx e e':Nat}{y yx ye:Ty}{rows new:A7}{sp:Sp}{n:Nat}{res:A7}{tk:List Nat}
 (ho:ops[i]?=some o)(hw:Bc ops F o=some true)(hop:o.op=.call c)(hcal:c.callee=.builtin .append)(hargs:c.args.toList=[p,q])(htys:c.argTypes.toList=[tt,tx])
 (hp:Dv X F p=some (.sl rows (.tok t)))(hq:Dv X F q=some (.sl new sp))(hy:X.ty tt=some y)(hyk:y.k=.slc e)(hye:X.ty e=some ye)(hyx:X.ty tx=some yx)(hyxk:yx.k=.slc e')
 (hS:S.toks[t]?=some n)(hn:rows.length=n)(hl:Mf ye.size rows=true)(hl':Mf ye.size new=true)(hc:Nt new=true)(hne:Nat.ble 1 new.length=true)(hb:rows.length+new.length≤100000000000)
 (hres:rows++new=res)(htk:S.toks.set t (rows.length+new.length)=tk):Ndo X N ops i o F (.sl res (.tok t)) S ⟨S.boxes,tk⟩:=by
 subst hres;subst htk;subst hn;intro F' E w a hlk hI hF;obtain⟨callee,args,argTypes⟩:=c;simp only at hcal hargs htys;subst hcal;have ha:args=#[p,q]:=by grind
 have ht:argTypes=#[tt,tx]:=by grind
 subst ha;subst ht;have hlo:=Hi hlk;rw[hop]at hlo;have r1:=Am hI hF ((Dq (X:=X) (F:=F) (F':=F') (o:=p) fun s hs=>hlo s (by simp[Op.operands,Call.operands,hs])).trans hp);have r2:=Am hI hF ((Dq (X:=X) (F:=F) (F':=F') (o:=q) fun s hs=>hlo s (by simp[Op.operands,Call.operands,hs])).trans hq);obtain⟨d1,hd1,hk1⟩:=(X.ty_ok tt y hy).agg;simp only[hyk]at hk1;obtain⟨rfl,ye',hye',hne0⟩:=hk1;rw[hye]at hye';cases hye';obtain⟨d2,hd2,hk2⟩:=(X.ty_ok tx yx hyx).agg;simp only[hyxk]at hk2;obtain⟨rfl,_⟩:=hk2;obtain⟨v,E',w',h1,h2,h3,h4⟩:=Ahp hI (ty:=o.type) hd1 hd2 hye hne0 r1 r2 hS (I7.1 hl) (I7.1 hl') (Li.1 hc) (fun h=>by simp_all) hb;exact Does.val ho (Cu hF (by grind [Dc])) (by simp_all [execOp,resolve,invoke,builtin]) (.inl rfl) ⟨E',h2,h3,h4⟩
def T9(X:Cx)(F:Cw):Option Operand→Int→Option Int
 |none,d=>some d
 |some x,_=>match Dv X F x with
  |some (.val (.int _ n))=>some n
  |_=>none
theorem Yr(hI:Inv X E S w)(hF:FR E w F a N){lo:Option Operand}{d l:Int}(h:T9 X F lo d=some l):(lo=none∧l=d)∨∃x k,lo=some x∧a.eval x=.int k l:=by
 cases lo with
 |none=>simp_all [T9]
 |some x=>
  simp only[T9]at h;split at h
  ·rename_i k n hx;cases h;have:=Am hI hF hx;generalize hv:a.eval x=v at this;cases this;simp_all
  ·cases h
theorem Q0{F':Cw}{lo:Option Operand}{d:Int}(h:∀x,lo=some x→Dv X F' x=Dv X F x):T9 X F' lo d=T9 X F lo d:=by
 cases lo with
 |none=>rfl
 |some x=>simp_all [T9]
theorem K8{isS:Bool}{len cap:Nat}{lo hi:Option Value}{l h:Int}(hlo:(lo=none∧l=0)∨∃k,lo=some (.int k l))(hhi:(hi=none∧h=(len:Int))∨∃k,hi=some (.int k h))
 (h0:0≤l)(h1:l≤h)(h2:h≤(len:Int))(hc:len≤cap)(w:World):(Instr.sliceBounds isS len cap lo hi none).run X.P w=.ok (l.toNat,h.toNat,cap) w:=by
 have hh:(0:Int)≤h:=by omega
 have hhc:h≤(cap:Int):=by omega
 have hlh:l≤(h.toNat:Int):=by omega
 have hmx:max h 0=h:=by omega
 rcases hlo with⟨rfl,rfl⟩|⟨k,rfl⟩<;>rcases hhi with⟨rfl,rfl⟩|⟨k',rfl⟩ <;>
  simp[Instr.sliceBounds,Instr.sliceBound,asIntOf,h0,h1,hh,hhc,hlh,hmx]
theorem Aj1(s:Ad){l h:Nat}(hl:l≤h)(hs:h≤s.length):(⟨⟨s⟩⟩:ByteArray).extract l h=⟨⟨(s.take h).drop l⟩⟩:=by
 simp_all [ByteArray.extract,ByteArray.copySlice,List.drop_take]
theorem P3{ops:Array Oper}{i:Nat}{o:Oper}{t:Nat}{p:Operand}{lo hi:Option Operand}{s r:Ad}{l h:Int}{y:Ty}
 (ho:ops[i]?=some o)(hw:Bc ops F o=some true)(hop:o.op=.slice t p lo hi none)(hp:Dv X F p=some (str s))(hlo:T9 X F lo 0=some l)(hhi:T9 X F hi (s.length:Int)=some h)
 (hy:X.ty t=some y)(hyk:y.k=.string)(h0:0≤l)(h1:l≤h)(h2:h≤(s.length:Int))(hr:(s.take h.toNat).drop l.toNat=r):Ndo X N ops i o F (str r) S S:=by
 subst hr;refine Dp ho hw fun F' E w a hc hI hF=>?_;rw[hop]at hc;have r1:=Am hI hF ((hc p (by simp[Op.operands])).trans hp);have b1:=Yr hI hF (show T9 X F' lo 0=some l by grind [Q0,Op.operands]);have b2:=Yr hI hF (show T9 X F' hi (s.length:Int)=some h by grind [Q0,Op.operands]);obtain⟨d,hdd,hd2⟩:=(X.ty_ok t y hy).agg;simp only[hyk]at hd2;subst hd2;generalize hu:a.eval p=u at r1;cases r1;have hb:=K8 (X:=X) (isS:=false) (len:=s.length) (cap:=s.length) (lo:=lo.map a.eval) (hi:=hi.map a.eval) (l:=l) (h:=h)
  (by grind)
  (by grind) h0 h1 h2 (Bt _) w
 have hsz:(⟨⟨s⟩⟩:ByteArray).size=s.length:=rfl;refine⟨.string ⟨⟨(s.take h.toNat).drop l.toNat⟩⟩,?_,.val _⟩;have he:=Aj1 s (l:=l.toNat) (h:=h.toNat) (by omega) (by omega);simp_all [execOp,Instr.sliceAt,Instr.slice,run_underlying]
theorem Ace{ops:Array Oper}{i:Nat}{o:Oper}{t:Nat}{p:Operand}{lo hi:Option Operand}{rows r:A7}{sp:Sp}{l h:Int}{y ye:Ty}{e:Nat}
 (ho:ops[i]?=some o)(hw:Bc ops F o=some true)(hop:o.op=.slice t p lo hi none)(hp:Dv X F p=some (.sl rows sp))(hlo:T9 X F lo 0=some l)(hhi:T9 X F hi (rows.length:Int)=some h)
 (hy:X.ty t=some y)(hyk:y.k=.slc e)(hye:X.ty e=some ye)(h0:0≤l)(h1:l≤h)(h2:h≤(rows.length:Int))(hl:Mf ye.size rows=true)(hr:(rows.take h.toNat).drop l.toNat=r):Ndo X N ops i o F (.sl r .no) S S:=by
 subst hr;refine Dp ho hw fun F' E w a hc hI hF=>?_;rw[hop]at hc;have r1:=Am hI hF ((hc p (by simp[Op.operands])).trans hp);have b1:=Yr hI hF (show T9 X F' lo 0=some l by grind [Q0,Op.operands]);have b2:=Yr hI hF (show T9 X F' hi (rows.length:Int)=some h by grind [Q0,Op.operands]);obtain⟨d,hdd,hd2⟩:=(X.ty_ok t y hy).agg;simp only[hyk]at hd2;obtain⟨rfl,ye',hye',hne0⟩:=hd2;rw[hye]at hye';cases hye';generalize hu:a.eval p=u at r1;cases r1 with
 |sl _ _ a' n cap b o' sz vals hn hx ha hsz hm hcl hrr hs hcap=>
 subst hn;have hb:=K8 (X:=X) (isS:=true) (len:=rows.length) (cap:=cap) (lo:=lo.map a.eval) (hi:=hi.map a.eval) (l:=l) (h:=h)
  (by grind)
  (by grind) h0 h1 h2 hcap w
 refine⟨.slice (if cap=l.toNat then a' else a'.map (·.add (l.toNat*ye.size))) (h.toNat-l.toNat) (cap-l.toNat),?_,?_⟩
 ·simp_all [execOp,Instr.sliceAt,Instr.slice,run_underlying,Dx]
 ·have hlen:((rows.take h.toNat).drop l.toNat).length=h.toNat-l.toNat:=by simp;omega
  have hget:∀i' r,((rows.take h.toNat).drop l.toNat)[i']?=some r→rows[l.toNat+i']?=some r:=fun i' r hi=>by
   grind
  refine .sl _ .no _ _ _ b (o'+l.toNat*ye.size) ye.size (fun i' j'=>vals (l.toNat+i') j') hlen (by omega) (fun hne=>?_) (fun r hr=>I7.1 hl r (Ag7 (List.mem_of_mem_drop hr))) (fun i' j' hi hj=>?_) (fun i' j' hi hj=>?_)
   (fun i' j' r x hi hj=>hrr _ _ r x (hget i' r hi) hj) trivial (by omega)
  ·rw[if_neg (by omega),ha (by omega)];simp[Gq]
  ·obtain⟨r0,hr0⟩:=Ab rows (i:=0) (by omega);have:sz=ye.size:=by rw[←hsz r0 (Bn hr0),I7.1 hl r0 (Bn hr0)]
   subst this;have:=hm (l.toNat+i') j' (by omega) hj
   grind
  ·obtain⟨r0,hr0⟩:=Ab rows (i:=0) (by omega);have:sz=ye.size:=by rw[←hsz r0 (Bn hr0),I7.1 hl r0 (Bn hr0)]
   grind
theorem Se{ops:Array Oper}{i:Nat}{o:Oper}{t t':Nat}{p q:Operand}{s s' r:Ad}(ho:ops[i]?=some o)(hw:Bc ops F o=some true)(hop:o.op=.binOp .add t p q t')
 (hp:Dv X F p=some (str s))(hq:Dv X F q=some (str s'))(hl:s.length+s'.length≤1000000000000)(hr:s++s'=r):Ndo X N ops i o F (str r) S S:=by
 subst hr;refine Dp ho hw fun F' E w a hc hI hF=>?_;rw[hop]at hc;have r1:=Am hI hF ((hc p (by simp[Op.operands])).trans hp);have r2:=Am hI hF ((hc q (by simp[Op.operands])).trans hq);generalize hu:a.eval p=u at r1;generalize hv:a.eval q=v at r2;cases r1;cases r2;have hcat:(⟨⟨s⟩⟩:ByteArray)++⟨⟨s'⟩⟩=⟨⟨s++s'⟩⟩:=by
  have:∀(x y:ByteArray),x.data.toList=y.data.toList→x=y:=fun x y h=>by
   cases x;simp_all
  apply this;simp
 have h1:(⟨⟨s⟩⟩:ByteArray).size=s.length:=rfl;have h2:(⟨⟨s'⟩⟩:ByteArray).size=s'.length:=rfl;refine⟨.string ⟨⟨s++s'⟩⟩,?_,.val _⟩;have hm:¬(IntKind.i64.max<(s.length:Int)+(s'.length:Int)):=by simp[IntKind.max,IntKind.bits,IntKind.signed];omega
 simp_all [execOp,eqGuard,binOp,Op.stringOp]
end
def Nl:List Nat→An→An→Option Bool
 |[],[],[]=>some true
 |0::ks,.val (.int k a)::l,.val (.int k' b)::l'=>match Nl ks l l' with
  |some r=>match decide (k=k')with
   |true=>some ((a==b)&&r)
   |false=>none
  |none=>none
 |1::ks,.val (.string a)::l,.val (.string b)::l'=>match Nl ks l l' with
  |some r=>some ((a.data.toList==b.data.toList)&&r)
  |none=>none
 |2::ks,.val (.bool a)::l,.val (.bool b)::l'=>match Nl ks l l' with
  |some r=>some ((a==b)&&r)
  |none=>none
 |_,_,_=>none
def Aaj(P:Program):List Field→Nat→Option (List Nat)
 |[],_=>some []
 |f::l,j=>match f.name != "_" && Nat.beq f.offset j with
  |true=>match Aaj P l (j+1)with
   |some ks=>match P.underlying f.type with
    |some (.int _)=>some (0::ks)
    |some .string=>some (1::ks)
    |some .bool=>some (2::ks)
    |_=>none
   |none=>none
  |false=>none
def Sw(P:Program)(t:Nat):Option (List Nat):=
 match !P.stoodInHeld t&&!P.eqGuardType P.depth t with
 |true=>match P.underlying t with
  |some (.struct fs)=>Aaj P fs.toList 0
  |_=>none
 |false=>none
theorem Aml{P:Program}{t:Nat}{ks:List Nat}(h:Sw P t=some ks):P.underlying t=some (.struct (P.fieldsOf t))∧P.stoodInHeld t=false∧P.eqGuardType P.depth t=false∧Aaj P (P.fieldsOf t).toList 0=some ks:=by
 unfold Sw at h;split at h
 ·rename_i hb;simp only[Du,N4]at hb;split at h
  ·rename_i fs hfs;have:P.fieldsOf t=fs:=by unfold Program.fieldsOf;rw[hfs]
   rw[this];exact⟨hfs,hb.1,hb.2,h⟩
  ·cases h
 ·cases h
section
variable {X:Cx}{B:Bx}{E:Env}{S:St}{w w':World}{F:Cw}{a:Act}{N:Nat}{R:AE→St→Prop}
theorem O7{f:Field}{P:Program}{d:TypeDesc}(hf:P.underlying f.type=some d)(h1:∀fs,d≠.struct fs)(h2:∀n e,d≠.array n e){xs:Array Value}{v:Value}(hv:xs[f.offset]?=some v)(w:World) :
 (part f.type xs f.offset).run P w=.ok v w:=by
 have:(isAgg f.type).run P w=.ok false w:=by
  unfold isAgg;simp only[Sem.run_bind,run_underlying hf,Result.andThen_ok];cases d<;>first|(exact absurd rfl (h1 _))|(exact absurd rfl (h2 _ _))|simp
 simp[part,this,hv]
theorem Yz{P:Program}(w:World)(d:Nat)(xs ys:Array Value)(E:Env):∀(fs:List Field)(j:Nat)(ks:List Nat)(cs ds:An)(r:Bool),Aaj P fs j=some ks→Nl ks cs ds=some r →
 (∀(i:Nat)(x:AV),cs[i]?=some x→∃v,xs[j+i]?=some v∧Rel E w v x)→(∀(i:Nat)(x:AV),ds[i]?=some x→∃v,ys[j+i]?=some v∧Rel E w v x) →
 (Op.eqFields (d+1) xs ys fs).run P w=.ok r w
 |[],j,ks,cs,ds,r,hf,he,_,_=>by
  simp only[Aaj]at hf;cases hf;unfold Nl at he;split at he
  ·cases he;simp[Op.eqFields]
  ·cases ‹([]:List Nat)=_›
  ·cases ‹([]:List Nat)=_›
  ·cases ‹([]:List Nat)=_›
  ·cases he
 |f::fs,j,ks,cs,ds,r,hf,he,hx,hy=>by
  simp only[Aaj]at hf;split at hf
  case h_2=>cases hf
  rename_i hno;simp only[Du,bne_iff_ne,ne_eq]at hno;obtain⟨hn,ho⟩:=hno;have ho':=Ab1 ho;split at hf
  case h_2=>cases hf
  rename_i ks' hrest;have shift:∀{zs:Array Value} {c:AV} {cs:An},(∀(i:Nat) (x:AV),(c::cs)[i]?=some x→∃v,zs[j+i]?=some v∧Rel E w v x) →
   (∃v,zs[f.offset]?=some v∧Rel E w v c)∧∀(i:Nat)(x:AV),cs[i]?=some x→∃v,zs[j+1+i]?=some v∧Rel E w v x:=fun{zs c cs} h=>by
   refine⟨by rw[ho'];exact h 0 c rfl,fun i x hi=>?_⟩;have:=h (i+1) x (by simpa using hi);rwa[show j+(i+1)=j+1+i by omega]at this
  have fin:∀{cs ds:An} {u v:Value} {b r':Bool},Nl ks' cs ds=some r'→(∀(i:Nat) (x:AV),cs[i]?=some x→∃v,xs[j+1+i]?=some v∧Rel E w v x) →
   (∀(i:Nat)(x:AV),ds[i]?=some x→∃v,ys[j+1+i]?=some v∧Rel E w v x)→(part f.type xs f.offset).run P w=.ok v w→(part f.type ys f.offset).run P w=.ok u w →
   (Op.equalIn (d+1) f.type v u).run P w=.ok b w→r=(b&&r')→(Op.eqFields (d+1) xs ys (f::fs)).run P w=.ok r w:=fun{cs ds u v b r'} h1 hx' hy' p1 p2 h2 h3=>by
   have ih:=Yz w d xs ys E fs (j+1) ks' cs ds r' hrest h1 hx' hy';simp only[Op.eqFields,hn,not_false_eq_true,if_true,Sem.run_bind,p1,p2,h2,Result.andThen_ok,ne_eq];subst h3;cases b
   ·simp
   ·simpa using ih
  split at hf
  ·rename_i k0 hu;cases hf;unfold Nl at he;split at he
   ·cases ‹(0::ks':List Nat)=_›
   ·cases ‹(0::ks':List Nat)=_›;split at he
    ·rename_i r' hr';split at he
     ·rename_i hk;cases he;obtain rfl:=A6 hk;obtain⟨⟨v,hv,hrv⟩,hx'⟩:=shift hx;obtain⟨⟨u,hu',hru⟩,hy'⟩:=shift hy;cases hrv;cases hru;exact fin hr' hx' hy' (O7 hu (fun _ h=>by cases h) (fun _ _ h=>by cases h) hv w) (O7 hu (fun _ h=>by cases h) (fun _ _ h=>by cases h) hu' w) (run_equalIn_int w d f.type _ _ _ _ hu) rfl
     ·cases he
    ·cases he
   ·cases ‹(0::ks':List Nat)=_›
   ·cases ‹(0::ks':List Nat)=_›
   ·cases he
  ·rename_i hu;cases hf;unfold Nl at he;split at he
   ·cases ‹(1::ks':List Nat)=_›
   ·cases ‹(1::ks':List Nat)=_›
   ·cases ‹(1::ks':List Nat)=_›;split at he
    ·rename_i r' hr';cases he;obtain⟨⟨v,hv,hrv⟩,hx'⟩:=shift hx;obtain⟨⟨u,hu',hru⟩,hy'⟩:=shift hy;cases hrv;cases hru;exact fin hr' hx' hy' (O7 hu (fun _ h=>by cases h) (fun _ _ h=>by cases h) hv w) (O7 hu (fun _ h=>by cases h) (fun _ _ h=>by cases h) hu' w) (run_equalIn_string w d f.type _ _ hu) (by rw[ByteArray.toList_eq,ByteArray.toList_eq])
    ·cases he
   ·cases ‹(1::ks':List Nat)=_›
   ·cases he
  ·rename_i hu;cases hf;unfold Nl at he;split at he
   ·cases ‹(2::ks':List Nat)=_›
   ·cases ‹(2::ks':List Nat)=_›
   ·cases ‹(2::ks':List Nat)=_›
   ·cases ‹(2::ks':List Nat)=_›;split at he
    ·rename_i r' hr';cases he;obtain⟨⟨v,hv,hrv⟩,hx'⟩:=shift hx;obtain⟨⟨u,hu',hru⟩,hy'⟩:=shift hy;cases hrv;cases hru;exact fin hr' hx' hy' (O7 hu (fun _ h=>by cases h) (fun _ _ h=>by cases h) hv w) (O7 hu (fun _ h=>by cases h) (fun _ _ h=>by cases h) hu' w) (run_equalIn_bool w d f.type _ _ hu) rfl
    ·cases he
   ·cases he
  ·cases hf
theorem Vz{ops:Array Oper}{i:Nat}{o:Oper}{op:BinOp}{t t':Nat}{p q:Operand}{cs ds:An}{ks:List Nat}{e r:Bool}(ho:ops[i]?=some o)(hw:Bc ops F o=some true)(hop:o.op=.binOp op t p q t')
 (hp:Dv X F p=some (.agg cs))(hq:Dv X F q=some (.agg ds))(hfl:Sw X.P t=some ks)(he:Nl ks cs ds=some e)(hr:(op=.eql∧e=r)∨(op=.neq∧(!e)=r)):Ndo X N ops i o F (.val (.bool r)) S S:=by
 refine Dp ho hw fun F' E w a hc hI hF=>?_;rw[hop]at hc;have r1:=Am hI hF ((hc p (by simp[Op.operands])).trans hp);have r2:=Am hI hF ((hc q (by simp[Op.operands])).trans hq);obtain⟨h1,h2,h3,h4⟩:=Aml hfl;generalize hu:a.eval p=u at r1;generalize hv:a.eval q=v at r2;cases r1 with
 |agg xs _ hl hr1=>
 cases r2 with
 |agg ys _ hl' hr2=>
 have hrun:=Yz (P:=X.P) w 9998 xs ys E (X.P.fieldsOf t).toList 0 ks cs ds e h4 he
  (fun i x hi=>by obtain⟨v,hv⟩:=La xs (i:=i) (by rw[hl];exact Aa hi);exact⟨v,by simpa using hv,hr1 i v x hv hi⟩)
  (fun i x hi=>by obtain⟨v,hv⟩:=La ys (i:=i) (by rw[hl'];exact Aa hi);exact⟨v,by simpa using hv,hr2 i v x hv hi⟩)
 have heq:=run_equalIn_struct (P:=X.P) w 9999 t xs ys h1 h2;rw[hrun]at heq;have hg:=run_eqGuard_agg (P:=X.P) w op t p q xs ys h3;rcases hr with⟨rfl,rfl⟩|⟨rfl,rfl⟩
 ·exact⟨_,by simp[execOp,hop,hu,hv,hg,run_eql_struct,heq],.val _⟩
 ·exact⟨_,by simp[execOp,hop,hu,hv,hg,run_neq_struct,heq],.val _⟩
end
def Ha:List Oper→List Nat→List Nat
 |[],bs=>bs
 |o::os,bs=>Ha os (bs++[Atk bs o.after.toList])
def Amf(s:Ad):A7:=s.map fun c=>[AV.val (.int .u8 c.toNat)]
theorem Aq{α:Type}{P:α→Prop}{l:List α}{x:α}(h:P x)(t:∀y,y∈l→P y):∀y,y∈x::l→P y:=fun y hy=>by
 rcases zzq8.1 hy with rfl|hy
 ·exact h
 ·exact t y hy
theorem G6{α:Type}{P:α→Prop}:∀y,y∈([]:List α)→P y:=fun y hy=>by cases hy
section
variable {X:Cx}{B:Bx}{E:Env}{S S':St}{w w':World}{F:Cw}{a:Act}{N:Nat}{R:AE→St→Prop}{ops:Array Oper}{bs:List Nat}{em:Nat}{os:List Oper}{i:Nat}{o:Oper}{x:AV}{Hs:List St}{pend:List Jc}{K:Cw→St→Prop}
theorem Di{id:Nat}{k:List Item}(em:Nat)(hst:Sr ops (Ha ops.toList []) em=true)
 (h:Drv X B.fn.ntmps ops (Ha ops.toList []) em ops.toList 0 F S [S] [] fun F' S'=>AK X B k F' S' R):AK X B (.code (.region id ops true)::k) F S R:=
 Awt _ em hst h
theorem Kw(h:∀S',Ndo X N ops i o F x S' S')(hd:Eh N o.dst=true)(k:Drv X N ops bs em os (i+1) (putF o.dst x F) S Hs pend K):Drv X N ops bs em (o::os) i F S Hs pend K:=
 .inl ⟨x,hd,h,k⟩
theorem Alr(ho:ops[i]?=some o)(hw:Bc ops F o=some true)(h:∀S',Es X F S' o.op=some x)(hd:Eh N o.dst=true)(k:Drv X N ops bs em os (i+1) (putF o.dst x F) S Hs pend K) :
 Drv X N ops bs em (o::os) i F S Hs pend K:=
 Kw (fun S'=>Cy ho hw (h S')) hd k
theorem Ahf(ho:ops[i]?=some o)(hw:Bc ops F o=some true)(h:∀bx tk,Kx X F ⟨bx,tk⟩ o.op=some (x,⟨bx,tk⟩))(hd:Eh N o.dst=true)(k:Drv X N ops bs em os (i+1) (putF o.dst x F) S Hs pend K) :
 Drv X N ops bs em (o::os) i F S Hs pend K:=
 Kw (fun⟨bx,tk⟩=>Me ho hw (h bx tk)) hd k
theorem Qt(h:∀S',S'∈Hs→Ndo X N ops i o F x S' S')(hd:Eh N o.dst=true)(k:Drv X N ops bs em os (i+1) (putF o.dst x F) S Hs ((i,o,F,x)::pend) K):Drv X N ops bs em (o::os) i F S Hs pend K:=
 .inr (.inl ⟨x,hd,h,k⟩)
theorem Afb{S0:St}(ho:ops[i]?=some o)(hw:Bc ops F o=some true)(h:Es X F S0 o.op=some x)(hd:Eh N o.dst=true)(k:Drv X N ops bs em os (i+1) (putF o.dst x F) S [S0] ((i,o,F,x)::pend) K) :
 Drv X N ops bs em (o::os) i F S [S0] pend K:=
 Qt (Aq (Cy ho hw h) G6) hd k
theorem An4{pend':List Jc}(h:Ndo X N ops i o F x S S')(he:em.testBit i=true)(hd:Eh N o.dst=true)(hp:pend.filter (fun p=>!bitOf bs p.1 i)=pend')
 (hr:∀p,p∈pend'→Ndo X N ops p.1 p.2.1 p.2.2.1 p.2.2.2 S' S')(k:Drv X N ops bs em os (i+1) (putF o.dst x F) S' (S'::Hs) pend' K):Drv X N ops bs em (o::os) i F S Hs pend K:=
 .inr (.inr ⟨x,S',pend',he,hd,h,hp,hr,k⟩)
theorem Ass(h:Ndo X N ops i o F x S S')(he:em.testBit i=true)(hd:Eh N o.dst=true)(hp:pend.filter (fun p=>!bitOf bs p.1 i)=[])
 (k:Drv X N ops bs em os (i+1) (putF o.dst x F) S' (S'::Hs) [] K):Drv X N ops bs em (o::os) i F S Hs pend K:=
 An4 h he hd hp G6 k
theorem Asr(h:K F S):Drv X N ops bs em [] i F S Hs pend K:=h
theorem Bg{t:Nat}{p q:Operand}{y:Ty}{u v:AV}(ho:ops[i]?=some o)(hw:Bc ops F o=some true)(hop:o.op=.store t p q)(hy:X.ty t=some y)(hp:Dv X F p=some u)(hq:Dv X F q=some v)
 (h:Vp S y.size u v=some S'):Ndo X N ops i o F .junk S S':=by
 intro F' E w a hl hI hF;have hlo:=Hi hl;rw[hop]at hlo;have r1:=Am hI hF ((Dq (X:=X) (F:=F) (F':=F') (o:=p) fun s hs=>hlo s (by simp[Op.operands,hs])).trans hp);have r2:=Am hI hF ((Dq (X:=X) (F:=F) (F':=F') (o:=q) fun s hs=>hlo s (by simp[Op.operands,hs])).trans hq);obtain⟨w',h1,h2,h3⟩:=Zq hI hy r1 r2 h;exact Does.val (v:=undef) ho (Cu hF (by rw[Dc hl];exact hw)) (by simp[execOp,hop,h1]) (.inr ⟨rfl,rfl⟩) ⟨E,h2,h3,.junk _⟩
theorem Ym(ho:ops[i]?=some o)(hw:Bc ops F o=some false):Ndo X N ops i o F (.val (.tuple #[])) S S:=by
 intro F' E w a hl hI hF b k cs rest;exact⟨undef,w,⟨E,hI,Evol.refl _ _ _ _,.val undef⟩,.one (by rw[ho];exact Yc ho (Cu hF (by rw[Dc hl];exact hw)))⟩
theorem Aw5{b:Bool}(h:Ndo X N ops i o F (.val (.bool b)) S S'):Ndo X N ops i o F (.lit b) S S':=by
 intro F' E w a hl hI hF;intro b' k cs rest;obtain⟨v,w',⟨E',h1,h2,h3⟩,h4⟩:=h F' E w a hl hI hF b' k cs rest;refine⟨v,w',⟨E',h1,h2,?_⟩,h4⟩;cases h3;exact .lit b
theorem M3{t e m:Nat}{p q:Operand}{cs r:An}{ik:IntKind}{n:Int}{y ye:Ty}(ho:ops[i]?=some o)(hw:Bc ops F o=some true)(hop:o.op=.indexAddr t p q)
 (hp:Dv X F p=some (.cptr cs))(hq:Dv X F q=some (.val (.int ik n)))(hy:X.ty t=some y)(hyk:y.k=.arr m e)(hye:X.ty e=some ye)(h0:0≤n)(h1:n<(m:Int))(hl:n.toNat*ye.size≤cs.length)
 (hr:cs.drop (n.toNat*ye.size)=r):Ndo X N ops i o F (.cptr r) S S:=by
 subst hr;refine Dp ho hw fun F' E w a hc hI hF=>?_;rw[hop]at hc;have r1:=Am hI hF ((hc p (by simp[Op.operands])).trans hp);have r2:=Am hI hF ((hc q (by simp[Op.operands])).trans hq);obtain⟨d,hdd,hd2⟩:=(X.ty_ok t y hy).agg;simp only[hyk]at hd2;obtain⟨rfl,ye',hye',_⟩:=hd2;rw[hye]at hye';cases hye';generalize hu:a.eval p=u at r1;generalize hv:a.eval q=v at r2;cases r2;cases r1 with
 |cptr _ b o' vals hm hcl hrr=>
  refine⟨.pointer (some ⟨b,o'+n.toNat*ye.size,none⟩),?_,?_⟩
  ·simp[execOp,hop,hu,hv,Instr.indexAt,asIntOf,run_underlying hdd,Instr.sureAddr,h0,h1,Dx hye,Gq]
  ·refine .cptr _ b _ (fun j=>vals (n.toNat*ye.size+j)) (fun j hj=>?_) (fun j hj=>?_) (fun j x hx=>hrr _ x (by simpa using hx))
   ·have:=hm (n.toNat*ye.size+j) (by simp at hj;omega);rwa[←Qi]at this
   ·have:=hcl (n.toNat*ye.size+j) (by simp at hj;omega);rwa[←Qi]at this
theorem Xp{t e m:Nat}{p q:Operand}{cs:An}{ik:IntKind}{n:Int}{y ye:Ty}(ho:ops[i]?=some o)(hw:Bc ops F o=some true)(hop:o.op=.index t p q)
 (hp:Dv X F p=some (.agg cs))(hq:Dv X F q=some (.val (.int ik n)))(hy:X.ty t=some y)(hyk:y.k=.arr m e)(hye:X.ty e=some ye)(hone:G9 ye.k=false)(h0:0≤n)(h1:n<(m:Int))
 (hr:cs[n.toNat]?=some x):Ndo X N ops i o F x S S:=by
 refine Dp ho hw fun F' E w a hc hI hF=>?_;rw[hop]at hc;have r1:=Am hI hF ((hc p (by simp[Op.operands])).trans hp);have r2:=Am hI hF ((hc q (by simp[Op.operands])).trans hq);obtain⟨d,hdd,hd2⟩:=(X.ty_ok t y hy).agg;simp only[hyk]at hd2;obtain⟨rfl,ye',hye',_⟩:=hd2;rw[hye]at hye';cases hye';obtain⟨_,_,_,_,_,_,_,_,hs1⟩:=(X.ty_ok e ye hye).info;have hs:=hs1 hone;generalize hu:a.eval p=u at r1;generalize hv:a.eval q=v at r2;cases r2;cases r1 with
 |agg vs _ hl hrr=>
  obtain⟨v,hv'⟩:=La vs (i:=n.toNat) (by rw[hl];exact Aa hr);exact⟨v,by simp[execOp,hop,hu,hv,Instr.index,asIntOf,run_underlying hdd,h0,h1,Dx hye,hs,part,Aaq hye,hone,hv'],hrr _ v x hv' hr⟩
theorem Ac5{src dst e:Nat}{p:Operand}{rows:A7}{sp:Sp}{s:Ad}{y ye yd:Ty}(ho:ops[i]?=some o)(hw:Bc ops F o=some true)(hop:o.op=.convert src dst p)
 (hp:Dv X F p=some (.sl rows sp))(hy:X.ty src=some y)(hyk:y.k=.slc e)(hye:X.ty e=some ye)(hyek:ye.k=.int .u8)(hyd:X.ty dst=some yd)(hydk:yd.k=.string)(hr:rows=Amf s):Ndo X N ops i o F (str s) S S:=by
 subst hr;refine Dp ho hw fun F' E w a hc hI hF=>?_;rw[hop]at hc;have r1:=Am hI hF ((hc p (by simp[Op.operands])).trans hp);obtain⟨d,hdd,hd2⟩:=(X.ty_ok src y hy).agg;simp only[hyk]at hd2;obtain⟨rfl,_⟩:=hd2;obtain⟨d,hde,hd2⟩:=(X.ty_ok e ye hye).agg;simp only[hyek]at hd2;subst hd2;obtain⟨d,hds,hd2⟩:=(X.ty_ok dst yd hyd).agg;simp only[hydk]at hd2;subst hd2;generalize hu:a.eval p=u at r1;cases r1 with
 |sl _ _ a' n cap b o' sz vals hn hx ha hsz hm hcl hrr hs hcap=>
  have hlen:n=s.length:=by rw[←hn];simp[Amf]
  subst hlen;refine⟨.string ⟨⟨s⟩⟩,?_,.val _⟩;simp only[execOp,hop,hu];cases s with
  |nil=>
   cases a' with
   |none=>simp[run_convert_bytes_string w src dst e _ _ _ hdd hde hds,Conv.bytesToString];rfl
   |some a0=>
    have:=run_convert_bytes_back w src dst e a0 cap [] hdd hde hds (fun j hj=>by simp at hj);simp at this⊢;rw[this];rfl
  |cons c l=>
   have ha':=ha (by simp);subst ha';have hs1:sz=1:=by rw[←hsz _ (zzq50.2 ⟨c,by simp,rfl⟩)];rfl
   subst hs1;have:=run_convert_bytes_back w src dst e ⟨b,o',none⟩ cap (c::l) hdd hde hds (fun j hj=>by
    have h1:=hcl j 0 hj (by omega);have h2:=hrr j 0 [AV.val (.int .u8 ((c::l)[j]).toNat)] (.val (.int .u8 ((c::l)[j]).toNat)) (by simp only[Amf];rw[Hd,Xg hj];rfl) rfl;rw[Gq];simp only[Nat.mul_one,Rx]at h1;rw[h1];generalize vals j 0=u at h2;cases h2;rfl)
   simp only[Sem.run_bind,this,Result.andThen_ok];rfl
end
def upd{α:Type}:List α→List Nat→List α→List α
 |l,t::ts,x::xs=>upd (l.set t x) ts xs
 |l,_,_=>l
theorem Acx{α:Type}:∀(l:List α)(ts:List Nat)(xs:List α),(upd l ts xs).length=l.length
 |l,t::ts,x::xs=>by simp[upd,Acx]
 |l,[],_=>by simp[upd]
 |l,_::_,[]=>by simp[upd]
theorem Zw{α:Type}:∀(l:List α)(ts:List Nat)(xs:List α)(i:Nat),i∉ts→(upd l ts xs)[i]?=l[i]?
 |l,t::ts,x::xs,i,h=>by
  simp only[upd];rw[Zw _ ts xs i (fun h'=>h (by simp[h']))];have:t≠i:=fun e=>h (by simp[e]);simp[Aer,this]
 |l,[],_,i,_=>by simp[upd]
 |l,_::_,[],i,_=>by simp[upd]
theorem Ai9{α:Type}:∀(l:List α)(ts:List Nat)(xs:List α)(j i:Nat),ts.Nodup→ts[j]?=some i→i<l.length→j<xs.length→(upd l ts xs)[i]?=xs[j]?
 |l,t::ts,x::xs,0,i,hn,h,hi,_=>by
  simp at h;subst h;simp only[upd];rw[Zw _ ts xs t (List.nodup_cons.1 hn).1];simp[hi]
 |l,t::ts,x::xs,j+1,i,hn,h,hi,hj=>by
  simp only[upd];rw[Ai9 _ ts xs j i (List.nodup_cons.1 hn).2 (by simpa using h) (by simpa using hi) (by simpa using hj)];simp
 |l,[],_,j,i,_,h,_,_=>by simp at h
 |l,_::_,[],j,i,_,_,_,hj=>by simp at hj
theorem Ao2{α β:Type}(f:α→β):∀(l:List α)(ts:List Nat)(xs:List α),(upd l ts xs).map f=upd (l.map f) ts (xs.map f)
 |l,t::ts,x::xs=>by simp only[upd,Om];rw[Ao2 f,Z1]
 |l,[],_=>by simp[upd]
 |l,_::_,[]=>by simp[upd]
def A1l(d:Bool)(τ:List Nat)(sp sp':Sp):Prop:=
 (d=true∧sp'=.no)∨(d=false∧sp=.no)∨(sp=.no∧sp'=.no)∨(sp=.tight∧sp'=.tight)∨∃t t',sp=.tok t∧sp'=.tok t'∧τ[t']?=some t
inductive Ren (d:Bool)(σ τ:List Nat):AV→AV→Prop where
 |flat (x:AV) (h:Ok 0 0 x):Ren d σ τ x x
 |ptr (b b' r o:Nat) (h:σ[b']?=some b):Ren d σ τ (.ptr b r o) (.ptr b' r o)
 |bsl (b b' k:Nat) (h:σ[b']?=some b):Ren d σ τ (.bsl b k) (.bsl b' k)
 |tagN (te b b':Nat) (h:σ[b']?=some b):Ren d σ τ (.tagN te b) (.tagN te b')
 |buf (te:Nat) (s:List UInt8) (t t':Nat) (h:τ[t']?=some t):Ren d σ τ (.buf te s t) (.buf te s t')
 |psl (rows:List (List AV)) (t t' v:Nat) (h:τ[t']?=some t) (hl:H3 0 0 rows):Ren d σ τ (.psl rows t v) (.psl rows t' v)
 |sl (rows rows':List (List AV)) (sp sp':Sp) (hl:rows'.length=rows.length) (hll:∀(i:Nat) (r r':List AV),rows[i]?=some r→rows'[i]?=some r'→r'.length=r.length)
   (hz:∀(i j:Nat)(r r':List AV)(x y:AV),rows[i]?=some r→rows'[i]?=some r'→r[j]?=some x→r'[j]?=some y→Ren d σ τ x y)(hs:A1l d τ sp sp'):Ren d σ τ (.sl rows sp) (.sl rows' sp')
 |cptr (cs cs':List AV) (hl:cs'.length=cs.length) (hz:∀(j:Nat) (x y:AV),cs[j]?=some x→cs'[j]?=some y→Ren d σ τ x y):Ren d σ τ (.cptr cs) (.cptr cs')
 |agg (cs cs':List AV) (hl:cs'.length=cs.length) (hz:∀(j:Nat) (x y:AV),cs[j]?=some x→cs'[j]?=some y→Ren d σ τ x y):Ren d σ τ (.agg cs) (.agg cs')
 |tup (cs cs':List AV) (hl:cs'.length=cs.length) (hz:∀(j:Nat) (x y:AV),cs[j]?=some x→cs'[j]?=some y→Ren d σ τ x y):Ren d σ τ (.tup cs) (.tup cs')
 |fn (f:FuncId) (cs cs':List AV) (hl:cs'.length=cs.length) (hz:∀(j:Nat) (x y:AV),cs[j]?=some x→cs'[j]?=some y→Ren d σ τ x y):Ren d σ τ (.fn f cs) (.fn f cs')
inductive RenL (d:Bool)(σ τ:List Nat):List AV→List AV→Prop where
 |nil:RenL d σ τ [] []
 |cons {x y:AV} {l l':List AV} (h:Ren d σ τ x y) (t:RenL d σ τ l l'):RenL d σ τ (x::l) (y::l')
inductive RenR (d:Bool)(σ τ:List Nat):List (List AV)→List (List AV)→Prop where
 |nil:RenR d σ τ [] []
 |cons {x y:List AV} {l l':List (List AV)} (h:RenL d σ τ x y) (t:RenR d σ τ l l'):RenR d σ τ (x::l) (y::l')
inductive RenB (d:Bool)(σ τ:List Nat):List (List (List AV))→List (List (List AV))→Prop where
 |nil:RenB d σ τ [] []
 |cons {x y:List (List AV)} {l l':List (List (List AV))} (h:RenR d σ τ x y) (t:RenB d σ τ l l'):RenB d σ τ (x::l) (y::l')
section
variable {d:Bool}{σ τ:List Nat}
theorem RenL.get{l l':An}(h:RenL d σ τ l l'):l'.length=l.length∧∀(j:Nat)(x y:AV),l[j]?=some x→l'[j]?=some y→Ren d σ τ x y:=by
 induction h with
 |nil=>exact⟨rfl,fun j x y h=>by simp at h⟩
 |cons h t ih=>
  refine⟨by simp[ih.1],fun j x y hx hy=>?_⟩;cases j with
  |zero=>simp at hx hy;subst hx;subst hy;exact h
  |succ j=>exact ih.2 j x y (by simpa using hx) (by simpa using hy)
theorem RenR.get{l l':A7}(h:RenR d σ τ l l'):l'.length=l.length∧∀(j:Nat)(x y:An),l[j]?=some x→l'[j]?=some y→RenL d σ τ x y:=by
 induction h with
 |nil=>exact⟨rfl,fun j x y h=>by simp at h⟩
 |cons h t ih=>
  refine⟨by simp[ih.1],fun j x y hx hy=>?_⟩;cases j with
  |zero=>simp at hx hy;subst hx;subst hy;exact h
  |succ j=>exact ih.2 j x y (by simpa using hx) (by simpa using hy)
theorem RenB.get{l l':B3}(h:RenB d σ τ l l'):l'.length=l.length∧∀(j:Nat)(x y:A7),l[j]?=some x→l'[j]?=some y→RenR d σ τ x y:=by
 induction h with
 |nil=>exact⟨rfl,fun j x y h=>by simp at h⟩
 |cons h t ih=>
  refine⟨by simp[ih.1],fun j x y hx hy=>?_⟩;cases j with
  |zero=>simp at hx hy;subst hx;subst hy;exact h
  |succ j=>exact ih.2 j x y (by simpa using hx) (by simpa using hy)
theorem RenL.flat:∀{l:An},(∀x,x∈l→Ok 0 0 x)→RenL d σ τ l l
 |[],_=>.nil
 |x::l,h=>.cons (.flat x (h x (by simp))) (RenL.flat fun y hy=>h y (by simp[hy]))
theorem RenR.flat:∀{l:A7},H3 0 0 l→RenR d σ τ l l
 |[],_=>.nil
 |x::l,h=>.cons (RenL.flat (h x (by simp))) (RenR.flat fun y hy=>h y (by simp[hy]))
theorem Z9{rows rows':A7}{sp sp':Sp}(h:RenR d σ τ rows rows')(hs:A1l d τ sp sp'):Ren d σ τ (.sl rows sp) (.sl rows' sp'):=
 .sl rows rows' sp sp' h.get.1 (fun i r r' h1 h2=>(h.get.2 i r r' h1 h2).get.1) (fun i j r r' x y h1 h2 h3 h4=>(h.get.2 i r r' h1 h2).get.2 j x y h3 h4) hs
theorem An8{l l':An}(h:RenL d σ τ l l'):Ren d σ τ (.agg l) (.agg l'):=.agg l l' h.get.1 h.get.2
theorem An9{l l':An}(h:RenL d σ τ l l'):Ren d σ τ (.tup l) (.tup l'):=.tup l l' h.get.1 h.get.2
theorem Atc{l l':An}(h:RenL d σ τ l l'):Ren d σ τ (.cptr l) (.cptr l'):=.cptr l l' h.get.1 h.get.2
theorem A1m{f:FuncId}{l l':An}(h:RenL d σ τ l l'):Ren d σ τ (.fn f l) (.fn f l'):=.fn f l l' h.get.1 h.get.2
end
section
variable {X:Cx}{B:Bx}{E:Env}{S:St}{w w':World}{F:Cw}{a:Act}{N:Nat}{R:AE→St→Prop}{σ τ:List Nat}
theorem Ren.fwd{Ea Eb:Env}(hmt:∀b o,Eb.mt b o→Ea.mt b o)(hbox:∀(i j:Nat)(q:Nat×Nat),σ[j]?=some i→Ea.boxes[i]?=some (some q)→Eb.boxes[j]?=some (some q))
 (htok:∀(i j:Nat)(k:Tk),τ[j]?=some i→Ea.toks[i]?=some k→Eb.toks[j]?=some k){x y:AV}(h:Ren true σ τ x y):∀{v:Value},Rel Ea w v x→Rel Eb w v y:=by
 induction h with
 |flat x h=>exact fun hx=>hx.env h hmt
 |ptr b b' r o h=>
  intro v hx;cases hx with
  |ptr _ _ _ blk sz hB=>exact .ptr b' r o blk sz (hbox _ _ _ h hB)
 |bsl b b' k h=>
  intro v hx;cases hx with
  |bsl _ blk sz _ cap hB hcap=>exact .bsl b' blk sz k cap (hbox _ _ _ h hB) hcap
 |tagN te b b' h=>
  intro v hx;cases hx with
  |tagN _ _ blk sz hB ht=>exact .tagN te b' blk sz (hbox _ _ _ h hB) ht
 |buf te s t t' h=>
  intro v hx;cases hx with
  |buf _ _ _ a cap k hk hn hx hs hc=>exact .buf te s t' a cap k (htok _ _ _ h hk) hn hx (fun hl=>(hs hl).move (fun _ _ _ _ h=>h) (fun b o _ h=>hmt b o h) (fun _ _ h=>h)) hc
 |psl rows t t' ver h hl=>
  intro v hx;cases hx with
  |psl _ _ _ a n cap k sz vals hn hx hcap hk hv hsz hp hr hf=>
   exact .psl rows t' ver a n cap k sz vals hn hx hcap (htok _ _ _ h hk) hv hsz hp (fun i j r x h1 h2=>(hr i j r x h1 h2).env (hl r (Bn h1) x (Bn h2)) hmt) hf
 |sl rows rows' sp sp' hl hll hz hs ih=>
  intro v hx;cases hx with
  |sl _ _ a n cap b o sz vals hn hx ha hsz hm hc hr hsp hcap=>
   refine .sl rows' sp' a n cap b o sz vals (by omega) hx ha (fun r hr'=>?_) (fun i j hi hj hh=>hm i j hi hj (hmt _ _ hh)) hc (fun i j r' y hi hj=>?_) ?_ hcap
   ·obtain⟨i,hi⟩:=B9 hr';obtain⟨r0,hr0⟩:=Ab rows (i:=i) (by have:=Aa hi;omega);rw[hll i r0 r hr0 hi];exact hsz r0 (Bn hr0)
   ·obtain⟨r0,hr0⟩:=Ab rows (i:=i) (by have:=Aa hi;omega);obtain⟨x,hx'⟩:=Ab r0 (i:=j) (by have:=Aa hj;have:=hll i r0 r' hr0 hi;omega);exact ih i j r0 r' x y hr0 hi hx' hj (hr i j r0 x hr0 hx')
   ·rcases hs with⟨_,rfl⟩|⟨h,_⟩|⟨_,rfl⟩|⟨rfl,rfl⟩|⟨t,t',rfl,rfl,ht⟩
    ·trivial
    ·cases h
    ·trivial
    ·exact hsp
    ·obtain⟨k,hk,h1,h2⟩:=hsp;exact⟨k,htok _ _ _ ht hk,h1,h2⟩
 |cptr cs cs' hl hz ih=>
  intro v hx;cases hx with
  |cptr _ b o vals hm hc hr=>
   refine .cptr cs' b o vals (fun j hj hh=>hm j (by omega) (hmt _ _ hh)) (fun j hj=>hc j (by omega)) (fun j y hy=>?_);obtain⟨x,hx⟩:=Ab cs (i:=j) (by have:=Aa hy;omega);exact ih j x y hx hy (hr j x hx)
 |agg cs cs' hl hz ih=>
  intro v hx;cases hx with
  |agg vs _ hl' hr=>
   refine .agg vs cs' (by omega) (fun j v y hv hy=>?_);obtain⟨x,hx⟩:=Ab cs (i:=j) (by have:=Aa hy;omega);exact ih j x y hx hy (hr j v x hv hx)
 |tup cs cs' hl hz ih=>
  intro v hx;cases hx with
  |tup vs _ hl' hr=>
   refine .tup vs cs' (by omega) (fun j v y hv hy=>?_);obtain⟨x,hx⟩:=Ab cs (i:=j) (by have:=Aa hy;omega);exact ih j x y hx hy (hr j v x hv hx)
 |fn f cs cs' hl hz ih=>
  intro v hx;cases hx with
  |fn _ vs _ hl' hr=>
   refine .fn f vs cs' (by omega) (fun j v y hv hy=>?_);obtain⟨x,hx⟩:=Ab cs (i:=j) (by have:=Aa hy;omega);exact ih j x y hx hy (hr j v x hv hx)
theorem Ren.bwd{Ea Eb:Env}(hmt:∀b o,Eb.mt b o→Ea.mt b o)(hbox:∀(i j:Nat)(q:Nat×Nat),σ[j]?=some i→Ea.boxes[j]?=some (some q)→Eb.boxes[i]?=some (some q))
 (htok:∀(i j:Nat)(k:Tk),τ[j]?=some i→Ea.toks[j]?=some k→Eb.toks[i]?=some k){x y:AV}(h:Ren false σ τ x y):∀{v:Value},Rel Ea w v y→Rel Eb w v x:=by
 induction h with
 |flat x h=>exact fun hx=>hx.env h hmt
 |ptr b b' r o h=>
  intro v hx;cases hx with
  |ptr _ _ _ blk sz hB=>exact .ptr b r o blk sz (hbox _ _ _ h hB)
 |bsl b b' k h=>
  intro v hx;cases hx with
  |bsl _ blk sz _ cap hB hcap=>exact .bsl b blk sz k cap (hbox _ _ _ h hB) hcap
 |tagN te b b' h=>
  intro v hx;cases hx with
  |tagN _ _ blk sz hB ht=>exact .tagN te b blk sz (hbox _ _ _ h hB) ht
 |buf te s t t' h=>
  intro v hx;cases hx with
  |buf _ _ _ a cap k hk hn hx hs hc=>exact .buf te s t a cap k (htok _ _ _ h hk) hn hx (fun hl=>(hs hl).move (fun _ _ _ _ h=>h) (fun b o _ h=>hmt b o h) (fun _ _ h=>h)) hc
 |psl rows t t' ver h hl=>
  intro v hx;cases hx with
  |psl _ _ _ a n cap k sz vals hn hx hcap hk hv hsz hp hr hf=>
   exact .psl rows t ver a n cap k sz vals hn hx hcap (htok _ _ _ h hk) hv hsz hp (fun i j r x h1 h2=>(hr i j r x h1 h2).env (hl r (Bn h1) x (Bn h2)) hmt) hf
 |sl rows rows' sp sp' hl hll hz hs ih=>
  intro v hx;cases hx with
  |sl _ _ a n cap b o sz vals hn hx ha hsz hm hc hr hsp hcap=>
   refine .sl rows sp a n cap b o sz vals (by omega) hx ha (fun r hr'=>?_) (fun i j hi hj hh=>hm i j hi hj (hmt _ _ hh)) hc (fun i j r' y hi hj=>?_) ?_ hcap
   ·obtain⟨i,hi⟩:=B9 hr';obtain⟨r0,hr0⟩:=Ab rows' (i:=i) (by have:=Aa hi;omega);rw[←hll i r r0 hi hr0];exact hsz r0 (Bn hr0)
   ·obtain⟨r0,hr0⟩:=Ab rows' (i:=i) (by have:=Aa hi;omega);obtain⟨x,hx'⟩:=Ab r0 (i:=j) (by have:=Aa hj;have:=hll i r' r0 hi hr0;omega);exact ih i j r' r0 y x hi hr0 hj hx' (hr i j r0 x hr0 hx')
   ·rcases hs with⟨h,_⟩|⟨_,rfl⟩|⟨rfl,_⟩|⟨rfl,rfl⟩|⟨t,t',rfl,rfl,ht⟩
    ·cases h
    ·trivial
    ·trivial
    ·exact hsp
    ·obtain⟨k,hk,h1,h2⟩:=hsp;exact⟨k,htok _ _ _ ht hk,h1,h2⟩
 |cptr cs cs' hl hz ih=>
  intro v hx;cases hx with
  |cptr _ b o vals hm hc hr=>
   refine .cptr cs b o vals (fun j hj hh=>hm j (by omega) (hmt _ _ hh)) (fun j hj=>hc j (by omega)) (fun j y hy=>?_);obtain⟨x,hx⟩:=Ab cs' (i:=j) (by have:=Aa hy;omega);exact ih j y x hy hx (hr j x hx)
 |agg cs cs' hl hz ih=>
  intro v hx;cases hx with
  |agg vs _ hl' hr=>
   refine .agg vs cs (by omega) (fun j v y hv hy=>?_);obtain⟨x,hx⟩:=Ab cs' (i:=j) (by have:=Aa hy;omega);exact ih j y x hy hx (hr j v x hv hx)
 |tup cs cs' hl hz ih=>
  intro v hx;cases hx with
  |tup vs _ hl' hr=>
   refine .tup vs cs (by omega) (fun j v y hv hy=>?_);obtain⟨x,hx⟩:=Ab cs' (i:=j) (by have:=Aa hy;omega);exact ih j y x hy hx (hr j v x hv hx)
 |fn f cs cs' hl hz ih=>
  intro v hx;cases hx with
  |fn _ vs _ hl' hr=>
   refine .fn f vs cs (by omega) (fun j v y hv hy=>?_);obtain⟨x,hx⟩:=Ab cs' (i:=j) (by have:=Aa hy;omega);exact ih j y x hy hx (hr j v x hv hx)
def Env.ownS(E:Env)(σ τ:List Nat)(b:Nat):Prop:=
 (∃(i s:Nat),i∈σ∧E.boxes[i]?=some (some (b,s)))∨(∃(t l c sz:Nat),t∈τ∧E.toks[t]?=some (Tk.mk l (some (b,c,sz))))
def Env.sub(E:Env)(σ τ:List Nat):Env:=
 ⟨σ.map fun i=>E.boxes.getD i none,τ.map fun t=>E.toks.getD t ⟨0,none⟩,fun b o=>E.mt b o∧¬E.ownS σ τ b,[]⟩
theorem Jm{j:Nat}{q:Nat×Nat}:(E.sub σ τ).boxes[j]?=some (some q)↔∃i,σ[j]?=some i∧E.boxes[i]?=some (some q):=by
 simp only[Env.sub,Hd];constructor
 ·intro h;cases hj:σ[j]? with
  |none=>rw[hj]at h;simp at h
  |some i=>
   rw[hj]at h;simp only[K4,Option.some.injEq]at h;refine⟨i,rfl,?_⟩;cases hb:E.boxes[i]? with
   |none=>simp[List.getD,hb]at h
   |some x=>simp[List.getD,hb]at h;rw[h]
 ·rintro⟨i,h1,h2⟩;rw[h1];simp[List.getD,h2]
theorem Km{j:Nat}{k:Tk}(ht:∀t,t∈τ→t<E.toks.length):(E.sub σ τ).toks[j]?=some k↔∃t,τ[j]?=some t∧E.toks[t]?=some k:=by
 simp only[Env.sub,Hd];constructor
 ·intro h;cases hj:τ[j]? with
  |none=>rw[hj]at h;simp at h
  |some i=>
   rw[hj]at h;simp only[K4,Option.some.injEq]at h;have hlt:=ht i (Bn hj);refine⟨i,rfl,?_⟩;simp[List.getD,hlt]at h⊢;exact h
 ·rintro⟨i,h1,h2⟩;rw[h1];simp[List.getD,h2]
theorem Qg(ht:∀t,t∈τ→t<E.toks.length){b:Nat}:(E.sub σ τ).own b↔E.ownS σ τ b:=by
 constructor
 ·rintro(⟨j,s,h⟩|⟨j,l,c,sz,h⟩)
  ·obtain⟨i,h1,h2⟩:=Jm.1 h;exact .inl ⟨i,s,Bn h1,h2⟩
  ·obtain⟨t,h1,h2⟩:=(Km ht).1 h;exact .inr ⟨t,l,c,sz,Bn h1,h2⟩
 ·rintro(⟨i,s,hi,h⟩|⟨t,l,c,sz,hi,h⟩)
  ·obtain⟨j,hj⟩:=B9 hi;exact .inl ⟨j,s,Jm.2 ⟨i,hj,h⟩⟩
  ·obtain⟨j,hj⟩:=B9 hi;exact .inr ⟨j,l,c,sz,(Km ht).2 ⟨t,hj,h⟩⟩
theorem Pq{b:Nat}(h:E.ownS σ τ b):E.own b:=by
 rcases h with⟨i,s,_,h⟩|⟨t,l,c,sz,_,h⟩
 ·exact .inl ⟨i,s,h⟩
 ·exact .inr ⟨t,l,c,sz,h⟩
theorem Tv(ht:∀t,t∈τ→t<E.toks.length){b o:Nat}(h:(E.sub σ τ).mt b o):E.mt b o:=by
 rcases h with h|⟨j,s,h⟩|⟨j,l,c,sz,h,h'⟩
 ·exact h.1
 ·obtain⟨i,h1,h2⟩:=Jm.1 h;exact .inr (.inl ⟨i,s,h2⟩)
 ·obtain⟨t,h1,h2⟩:=(Km ht).1 h;exact .inr (.inr ⟨t,l,c,sz,h2,h'⟩)
theorem Aaz{α:Type}{l:List α}(hn:l.Nodup){i j:Nat}{x:α}(hi:l[i]?=some x)(hj:l[j]?=some x):i=j:=by
 have h1:=Aa hi;have h2:=Aa hj;rw[Xg h1]at hi;rw[Xg h2]at hj;exact(List.getElem_inj hn).1 ((Option.some.inj hi).trans (Option.some.inj hj).symm)
theorem Inv.sub(hI:Inv X E S w)(hσ:σ.Nodup)(hτ:τ.Nodup)(hτl:∀t,t∈τ→t<E.toks.length){Sc:St}(hb:RenB true σ τ (σ.map fun i=>S.boxes.getD i []) Sc.boxes)
 (hσl:∀i,i∈σ→i<S.boxes.length)(ht:τ.map (fun t=>S.toks.getD t 0)=Sc.toks):Inv X (E.sub σ τ) Sc w where
 nb:=by have:=hb.get.1;simp only[Py]at this;simp[Env.sub,this]
 nt:=by
  rw[←ht,←hI.nt];simp only[Env.sub,Z2];apply List.map_congr_left;intro t htm;have:=hτl t htm;simp[List.getD,this]
 np j hj:=by
  obtain⟨i,hi⟩:=Ab σ (i:=j) (by simpa[Env.sub]using hj);obtain⟨q,hq⟩:=hI.np i (by rw[hI.nb];exact hσl i (Bn hi));exact⟨q,Jm.2 ⟨i,hi,hq⟩⟩
 box j b sz rows' h1 h2:=by
  obtain⟨i,h3,h4⟩:=Jm.1 h1;have hi:=hσl i (Bn h3);obtain⟨rows,hrows⟩:=Ab S.boxes hi;have hR:=hb.get.2 j rows rows' (by simp[h3,List.getD,hrows]) h2;obtain⟨cs,e,hh,hs,hl,hr⟩:=hI.box i b sz rows h4 hrows;refine⟨cs,e,hh,by rw[hR.get.1];exact hs,fun r' hr'=>?_,fun k r' q y v hk hq hv=>?_⟩
  ·obtain⟨k,hk⟩:=B9 hr';obtain⟨r,hr0⟩:=Ab rows (i:=k) (by have:=Aa hk;have:=hR.get.1;omega);rw[(hR.get.2 k r r' hr0 hk).get.1];exact hl r (Bn hr0)
  ·obtain⟨r,hr0⟩:=Ab rows (i:=k) (by have:=Aa hk;have:=hR.get.1;omega);have hL:=hR.get.2 k r r' hr0 hk;obtain⟨x,hx⟩:=Ab r (i:=q) (by have:=Aa hq;have:=hL.get.1;omega);exact(hL.get.2 q x y hx hq).fwd (fun b o=>Tv hτl) (fun i j q h1 h2=>Jm.2 ⟨i,h1,h2⟩) (fun i j k h1 h2=>(Km hτl).2 ⟨i,h1,h2⟩) (hr k r q x v hr0 hx hv)
 tok t l b c sz h:=by
  obtain⟨i,h1,h2⟩:=(Km hτl).1 h;exact hI.tok i l b c sz h2
 bb i j b s s' h1 h2:=by
  obtain⟨i',h3,h4⟩:=Jm.1 h1;obtain⟨j',h5,h6⟩:=Jm.1 h2;have:=hI.bb i' j' b s s' h4 h6;subst this;exact Aaz hσ h3 h5
 bt i t b s l c sz h1 h2:=by
  obtain⟨i',h3,h4⟩:=Jm.1 h1;obtain⟨j',h5,h6⟩:=(Km hτl).1 h2;exact hI.bt i' j' b s l c sz h4 h6
 tt i j b l c s l' c' s' h1 h2:=by
  obtain⟨i',h3,h4⟩:=(Km hτl).1 h1;obtain⟨j',h5,h6⟩:=(Km hτl).1 h2;have:=hI.tt i' j' b l c s l' c' s' h4 h6;subst this;exact Aaz hτ h3 h5
 frlt b o h:=⟨fun h'=>h.2 ((Qg hτl).1 h'),by
  rcases Aax hI h.1 with h|h
  ·exact hI.own_lt h
  ·exact(hI.frlt b o h).2⟩
 lo b h:=hI.lo b (Pq ((Qg hτl).1 h))
 frlo b o h:=by
  rcases Aax hI h.1 with h|h
  ·exact hI.lo b h
  ·exact hI.frlo b o h
 sz:=hI.sz
 glob:=hI.glob
end
section
variable {X:Cx}{B:Bx}{E E1:Env}{S S1:St}{w w':World}{F:Cw}{a:Act}{N:Nat}{R:AE→St→Prop}{σ τ:List Nat}
def Env.back(E E1:Env)(τ:List Nat):Env:=⟨E.boxes,upd E.toks τ E1.toks++E1.toks.drop τ.length,E.fr,E.df⟩
def Il(τ:List Nat)(m k:Nat):List Nat:=τ++(List.range k).map (·+m)
theorem Ath(hτ:τ.Nodup)(hτl:∀t,t∈τ→t<E.toks.length)(hl:τ.length≤E1.toks.length){t:Nat}{k:Tk} :
 (E.back E1 τ).toks[t]?=some k↔(t∉τ∧E.toks[t]?=some k)∨∃j:Nat,((Il τ E.toks.length (E1.toks.length-τ.length)):List Nat)[j]?=some t∧E1.toks[j]?=some k:=by
 have hlen:=Acx E.toks τ E1.toks;constructor
 ·intro h;simp only[Env.back]at h;rcases Ga t E.toks.length with ht|ht
  ·rw[Dd (by omega)]at h;by_cases hm:t∈τ
   ·obtain⟨j,hj⟩:=B9 hm;have hjl:=Aa hj;rw[Ai9 _ _ _ j t hτ hj ht (by omega)]at h;refine .inr ⟨j,?_,h⟩;simp only[Il];rw[Dd hjl];exact hj
   ·rw[Zw _ _ _ _ hm]at h;exact .inl ⟨hm,h⟩
  ·rw[Gz (by omega),hlen,R0]at h;refine .inr ⟨τ.length+(t-E.toks.length),?_,h⟩;have:=Aa h;simp only[Il];rw[Gz (by omega),Hd,Ab2 (by omega)];simp;omega
 ·rintro(⟨hm,h⟩|⟨j,hj,h⟩)
  ·simp only[Env.back];rw[Dd (by rw[hlen];exact Aa h),Zw _ _ _ _ hm];exact h
  ·simp only[Env.back,Il]at hj⊢;rcases Ga j τ.length with hjl|hjl
   ·rw[Dd hjl]at hj;have ht:=hτl t (Bn hj);rw[Dd (by omega),Ai9 _ _ _ j t hτ hj ht (by omega)];exact h
   ·rw[Gz hjl,Hd]at hj;have hlt:=Aa h;rw[Ab2 (by omega)]at hj;simp only[K4,Option.some.injEq]at hj;rw[Gz (by omega),hlen,R0];rw[show τ.length+(t-E.toks.length)=j by omega];exact h
theorem Anv(hτ:τ.Nodup){m k:Nat}(hτl:∀t,t∈τ→t<m){i j t:Nat}(hi:(Il τ m k)[i]?=some t)(hj:(Il τ m k)[j]?=some t):i=j:=by
 have key:∀{i t:Nat},(Il τ m k)[i]?=some t→(i<τ.length∧τ[i]?=some t)∨(τ.length≤i∧t=i-τ.length+m):=fun{i t} h=>by
  simp only[Il]at h;rcases Ga i τ.length with hl|hl
  ·rw[Dd hl]at h;exact .inl ⟨hl,h⟩
  ·rw[Gz hl,Hd]at h;have hlt:i-τ.length<k:=by
    rcases Ga (i-τ.length) k with h'|h'
    ·exact h'
    ·rw[Oo (by simpa using h')]at h;simp at h
   rw[Ab2 hlt]at h;simp only[K4,Option.some.injEq]at h;exact .inr ⟨hl,h.symm⟩
 rcases key hi with⟨h1,h2⟩|⟨h1,h2⟩<;>rcases key hj with⟨h3,h4⟩|⟨h3,h4⟩
 ·exact Aaz hτ h2 h4
 ·have:=hτl t (Bn h2);omega
 ·have:=hτl t (Bn h4);omega
 ·omega
theorem Aod(hI:Inv X E S w)(hI1:Inv X E1 S1 w')(ev:Evol (E.sub σ τ) w E1 w' σ.length τ.length)(hσ:σ.Nodup)(hτ:τ.Nodup)(hσl:∀i,i∈σ→i<S.boxes.length)(hτl:∀t,t∈τ→t<E.toks.length)
 (hb1:S1.boxes.length=σ.length)(ht1:τ.length≤S1.toks.length){bx2:B3}(hR:RenB false σ (Il τ S.toks.length (S1.toks.length-τ.length)) bx2 S1.boxes) :
 Evol E w (E.back E1 τ) w' E.boxes.length E.toks.length∧Inv X (E.back E1 τ) ⟨upd S.boxes σ bx2,upd S.toks τ S1.toks++S1.toks.drop τ.length⟩ w' ∧
  ∀{x y:AV} {v:Value},Ren false σ (Il τ S.toks.length (S1.toks.length-τ.length)) x y→Rel E1 w' v y→Rel (E.back E1 τ) w' v x:=by
 have nt:E.toks.length=S.toks.length:=by rw[←hI.nt];simp
 have nt1:E1.toks.length=S1.toks.length:=by rw[←hI1.nt];simp
 have nb1:E1.boxes.length=σ.length:=by rw[hI1.nb,hb1]
 have hl:τ.length≤E1.toks.length:=by omega
 have bt:=@Ath E E1 τ hτ hτl hl;rw[nt,nt1]at bt;have boxS:∀{i b s:Nat},i∈σ→E.boxes[i]?=some (some (b,s))→∃j,σ[j]?=some i∧E1.boxes[j]?=some (some (b,s)):=fun{i b s} hi h=>by
  obtain⟨j,hj⟩:=B9 hi;have hs:=Jm (E:=E) (τ:=τ).2 ⟨i,hj,h⟩;have hjl:=Aa hj;exact⟨j,hj,(ev.boxes j hjl (by simpa[Env.sub]using hjl)).2 _ hs⟩
 have apartB:∀{i b s:Nat},i∉σ→E.boxes[i]?=some (some (b,s))→¬E.ownS σ τ b:=fun{i b s} hi h ho=>by
  rcases ho with⟨i',s',hi',h'⟩|⟨t,l,c,sz,_,h'⟩
  ·have:=hI.bb _ _ _ _ _ h h';subst this;exact hi hi'
  ·exact hI.bt _ _ _ _ _ _ _ h h'
 have apartT:∀{t l b c sz:Nat},t∉τ→E.toks[t]?=some (Tk.mk l (some (b,c,sz)))→¬E.ownS σ τ b:=fun{t l b c sz} hi h ho=>by
  rcases ho with⟨i',s',hi',h'⟩|⟨t',l',c',sz',ht',h'⟩
  ·exact hI.bt _ _ _ _ _ _ _ h' h
  ·have:=hI.tt _ _ _ _ _ _ _ _ _ h h';subst this;exact hi ht'
 have frE:∀{b o:Nat},E.mt b o→¬E.ownS σ τ b→E1.fr b o:=fun{b o} h1 h2=>by rw[ev.fr];exact⟨h1,h2⟩
 have hmt:∀b o,(E.back E1 τ).mt b o→E1.mt b o:=fun b o h=>by
  rcases h with h|⟨i,s,h⟩|⟨t,l,c,s,h,ho⟩
  ·exact .inl (frE (.inl h) (fun ho=>(hI.frlt b o h).1 (Pq ho)))
  ·by_cases hi:i∈σ
   ·obtain⟨j,_,hj⟩:=boxS hi h;exact .inr (.inl ⟨j,s,hj⟩)
   ·exact .inl (frE (.inr (.inl ⟨i,s,h⟩)) (apartB hi h))
  ·rcases bt.1 h with⟨ht,h⟩|⟨j,_,h⟩
   ·exact .inl (frE (.inr (.inr ⟨t,l,c,s,h,ho⟩)) (apartT ht h))
   ·exact .inr (.inr ⟨j,l,c,s,h,ho⟩)
 have howns:∀{b:Nat},E1.own b→b<w.heap.size→E.own b:=fun{b} h hb=>Pq ((Qg hτl).1 (ev.own b hb h));have hown:∀{b:Nat},(E.back E1 τ).own b→E.own b∨E1.own b:=fun{b} h=>by
  rcases h with⟨i,s,h⟩|⟨t,l,c,s,h⟩
  ·exact .inl (.inl ⟨i,s,h⟩)
  ·rcases bt.1 h with⟨ht,h⟩|⟨j,_,h⟩
   ·exact .inl (.inr ⟨t,l,c,s,h⟩)
   ·exact .inr (.inr ⟨j,l,c,s,h⟩)
 have ev2:Evol E w (E.back E1 τ) w' E.boxes.length E.toks.length:=by
  refine⟨rfl,fun _ _ h=>⟨h,fun _ h=>h⟩,fun t ht k hk=>?_,ev.os,ev.tape,ev.output,ev.size,fun b hb ho=>ev.block b hb (fun h=>ho (Pq ((Qg hτl).1 h))),
   fun b o v hm hc=>ev.cell b o v (fun h=>hm (Tv hτl h)) hc,fun b o hb h=>Tv hτl (ev.mt b o hb (hmt b o h)),fun b hb h=>?_,rfl,ev.ty,fun t ht k b c h1 h2 h3 o ho=>?_⟩
  ·by_cases hm:t∈τ
   ·obtain⟨j,hj⟩:=B9 hm;obtain⟨k',hk',h'⟩:=ev.toks j (Aa hj) k ((Km hτl).2 ⟨t,hj,hk⟩);exact⟨k',bt.2 (.inr ⟨j,by simp only[Il];rw[Dd (Aa hj)];exact hj,hk'⟩),h'⟩
   ·exact⟨k,bt.2 (.inl ⟨hm,hk⟩),.inl rfl⟩
  ·rcases hown h with h|h
   ·exact h
   ·exact howns h hb
  ·by_cases hm:t∈τ
   ·rcases bt.1 h3 with⟨h4,_⟩|⟨j',hj',h5⟩
    ·exact absurd hm h4
    ·obtain⟨j,hj⟩:=B9 hm;have hjj:j'=j:=Anv hτ (fun t h=>by have:=hτl t h;omega) hj' (by simp only[Il];rw[Dd (Aa hj)];exact hj);subst hjj;exact ev.pv j' (Aa hj) k b c ((Km hτl).2 ⟨t,hj,h1⟩) h2 h5 o ho
   ·obtain⟨kl,ksp⟩:=k;simp only at h2;subst h2;rw[ev.block b (Wj ho) (fun h=>apartT hm h1 ((Qg hτl).1 h))];exact ho
 have hbwd:∀{x y:AV} {v:Value},Ren false σ (Il τ S.toks.length (S1.toks.length-τ.length)) x y→Rel E1 w' v y→Rel (E.back E1 τ) w' v x:=fun{x y v} h hv=>
  h.bwd hmt (fun i j q h1 h2=>by
   have hil:=hσl i (Bn h1);have hil':i<E.boxes.length:=by rw[hI.nb];exact hil
   obtain⟨q',hq'⟩:=hI.np i hil'
   ·have:=(ev.boxes j (Aa h1) (by have:=Aa h1;simpa[Env.sub]using this)).2 q' (Jm.2 ⟨i,h1,hq'⟩);rw[h2]at this;cases this;exact hq') (fun i j k h1 h2=>bt.2 (.inr ⟨j,h1,h2⟩)) hv
 refine⟨ev2,?_,hbwd⟩;have hfar:∀{b:Nat},E.own b→¬E.ownS σ τ b→w'.heap[b]?=w.heap[b]?:=fun{b} h1 h2=>ev.block b (hI.own_lt h1) (fun h=>h2 ((Qg hτl).1 h));have hl2:=hR.get.1;exact{
  nb:=by simp[Env.back,Acx,hI.nb]
  nt:=by simp only[Env.back,Jp,Ao2,hI.nt,hI1.nt,List.map_drop]
  np:=hI.np
  box:=fun i b sz rows h1 h2=>by
   have hil:i<S.boxes.length:=by have:=Aa h2;simpa[Acx]using this
   by_cases hi:i∈σ
   ·obtain⟨j,hj,hB⟩:=boxS hi h1;have hjl:=Aa hj;rw[Ai9 _ _ _ j i hσ hj hil (by omega)]at h2;obtain⟨rows1,hrows1⟩:=Ab S1.boxes (i:=j) (by omega);have hr:=hR.get.2 j rows rows1 h2 hrows1;obtain⟨cs,e,hh,hs,hll,hrel⟩:=hI1.box j b sz rows1 hB hrows1;refine⟨cs,e,hh,by rw[←hr.get.1];exact hs,fun r hr'=>?_,fun k r q x v hk hq hv=>?_⟩
    ·obtain⟨k,hk⟩:=B9 hr';obtain⟨r1,hr1⟩:=Ab rows1 (i:=k) (by have:=Aa hk;have:=hr.get.1;omega);rw[←(hr.get.2 k r r1 hk hr1).get.1];exact hll r1 (Bn hr1)
    ·obtain⟨r1,hr1⟩:=Ab rows1 (i:=k) (by have:=Aa hk;have:=hr.get.1;omega);have hL:=hr.get.2 k r r1 hk hr1;obtain⟨y,hy⟩:=Ab r1 (i:=q) (by have:=Aa hq;have:=hL.get.1;omega);exact hbwd (hL.get.2 q x y hq hy) (hrel k r1 q y v hr1 hy hv)
   ·rw[Zw _ _ _ _ hi]at h2;obtain⟨cs,e,hh,hs,hll,hrel⟩:=hI.box i b sz rows h1 h2;exact⟨cs,e,(hfar (.inl ⟨i,sz,h1⟩) (apartB hi h1)).trans hh,hs,hll,fun k r q x v hk hq hv=>(hrel k r q x v hk hq hv).step ev2⟩
  tok:=fun t l b c sz h=>by
   rcases bt.1 h with⟨ht,h⟩|⟨j,_,h⟩
   ·obtain⟨h1,h0,cs,e,hh,hs⟩:=hI.tok t l b c sz h;exact⟨h1,h0,cs,e,(hfar (.inr ⟨t,l,c,sz,h⟩) (apartT ht h)).trans hh,hs⟩
   ·exact hI1.tok j l b c sz h
  bb:=hI.bb
  bt:=fun i t b s l c sz h1 h2=>by
   rcases bt.1 h2 with⟨ht,h⟩|⟨j,_,h⟩
   ·exact hI.bt i t b s l c sz h1 h
   ·by_cases hi:i∈σ
    ·obtain⟨j',_,hB⟩:=boxS hi h1;exact hI1.bt j' j b s l c sz hB h
    ·exact(hI1.frlt b 0 (frE (.inr (.inl ⟨i,s,h1⟩)) (apartB hi h1))).1 (.inr ⟨j,l,c,sz,h⟩)
  tt:=fun i j b l c s l' c' s' h1 h2=>by
   rcases bt.1 h1 with⟨ht1,h1⟩|⟨i1,hi1,h1⟩<;>rcases bt.1 h2 with⟨ht2,h2⟩|⟨j1,hj1,h2⟩
   ·exact hI.tt i j b l c s l' c' s' h1 h2
   ·exact absurd (.inr ⟨j1,l',c',s',h2⟩) (hI1.frlt b (l*s) (frE (.inr (.inr ⟨i,l,c,s,h1,Bt _⟩)) (apartT ht1 h1))).1
   ·exact absurd (.inr ⟨i1,l,c,s,h1⟩) (hI1.frlt b (l'*s') (frE (.inr (.inr ⟨j,l',c',s',h2,Bt _⟩)) (apartT ht2 h2))).1
   ·have:=hI1.tt i1 j1 b l c s l' c' s' h1 h2;subst this;rw[hi1]at hj1;exact Option.some.inj hj1
  frlt:=fun b o h=>by
   have h1:=frE (.inl h) (fun ho=>(hI.frlt b o h).1 (Pq ho));refine⟨fun h'=>?_,(hI1.frlt b o h1).2⟩;rcases hown h' with h'|h'
   ·exact(hI.frlt b o h).1 h'
   ·exact(hI1.frlt b o h1).1 h'
  lo:=fun b h=>by
   rcases hown h with h|h
   ·exact hI.lo b h
   ·exact hI1.lo b h
  frlo:=hI.frlo
  sz:=hI1.sz
  glob:=hI1.glob }
theorem Ajj{ops:Array Oper}{i:Nat}{o:Oper}{c:Call}{fo:Operand}{f:FuncId}{caps xs zs ys:An}{r y:AV}{Sc S':St}{bx1 bx2:B3}{tk1:List Nat}
 (hE:N8 X.P f)(hc:ACalls X f ys Sc fun e S1=>e=.ret y∧S1=⟨bx1,tk1⟩)(σ τ:List Nat)(ho:ops[i]?=some o)(hw:Bc ops F o=some true)(hop:o.op=.call c)(hcal:c.callee=.value fo)
 (hfo:Dv X F fo=some (.fn f caps))(hx:Hv X F c.args.toList=some xs)(hzs:xs++caps=zs)(hσ:σ.Nodup)(hτ:τ.Nodup)(hσl:∀i,i∈σ→i<S.boxes.length)(hτl:∀t,t∈τ→t<S.toks.length)
 (hsb:σ.map (fun i=>S.boxes.getD i [])=bx2){bxc:B3}(hb:RenB true σ τ bx2 bxc)(ht:τ.map (fun t=>S.toks.getD t 0)=Sc.toks)(hSc:Sc.boxes=bxc)(ha:RenL true σ τ zs ys)
 (hb1:bx1.length=σ.length)(ht1:τ.length≤tk1.length){bx3:B3}(hR:RenB false σ (Il τ S.toks.length (tk1.length-τ.length)) bx3 bx1)(hr:Ren false σ (Il τ S.toks.length (tk1.length-τ.length)) r y)
 (hS':St.mk (upd S.boxes σ bx3) (upd S.toks τ tk1++tk1.drop τ.length)=S'):Ndo X N ops i o F r S S':=by
 subst hS';subst hzs;subst hsb;subst hSc;intro F' E w a hl hI hF;have nt:E.toks.length=S.toks.length:=by rw[←hI.nt];simp
 have hτl':∀t,t∈τ→t<E.toks.length:=fun t h=>by rw[nt];exact hτl t h
 obtain⟨l1,l2⟩:=Sj (X:=X) hop hcal hl;obtain⟨vs,h1,h2,h3⟩:=Q4 hop hcal hE hI hF (l1.trans hfo) (l2.trans hx);have hsl:Sc.boxes.length=σ.length:=by have:=hb.get.1;simpa using this
 have htl:Sc.toks.length=τ.length:=by rw[←ht];simp
 refine Does.call ho (Cu hF (by rw[Dc hl];exact hw)) h1 ((hc (E.sub σ τ) w vs rfl (hI.sub hσ hτ hτl' hb hσl ht) (by rw[h2,ha.get.1]) (fun j v y hv hy=>?_)).mono fun e w' he=>?_)
 ·obtain⟨x,hx⟩:=Ab (xs++caps) (i:=j) (by have:=Aa hy;rw[ha.get.1]at this;exact this);exact(ha.get.2 j x y hx hy).fwd (fun b o=>Tv hτl') (fun i j q h1 h2=>Jm.2 ⟨i,h1,h2⟩) (fun i j k h1 h2=>(Km hτl').2 ⟨i,h1,h2⟩) (h3 j v x hv hx)
 ·obtain⟨E1,S1,d1,d2,d3⟩:=he;rw[hsl,htl]at d2;cases e with
  |returned v=>
   obtain⟨r',hr',hre,rfl⟩:=d3;cases hre;obtain⟨b1,b2,b3⟩:=Aod hI d1 d2 hσ hτ hσl hτl' hb1 ht1 hR;exact⟨v,rfl,E.back E1 τ,b2,b1,b3 hr hr'⟩
  |panicked ch=>obtain⟨h,_⟩:=d3;cases h
  |outgrown=>exact d3.elim
end
class IdxC (l:List Nat)(x:Nat)(j:outParam Nat):Prop where
 h:l[j]?=some x
instance{l:List Nat}{x:Nat}:IdxC (x::l) x 0:=⟨rfl⟩
instance(priority:=low){l:List Nat}{x y j:Nat} [h:IdxC l x j]:IdxC (y::l) x (j+1):=⟨by simpa using h.h⟩
class GetC (l:List Nat)(j:Nat)(x:outParam Nat):Prop where
 h:l[j]?=some x
instance{l:List Nat}{x:Nat}:GetC (x::l) 0 x:=⟨rfl⟩
instance{l:List Nat}{x y j:Nat} [h:GetC l j x]:GetC (y::l) (j+1) x:=⟨by simpa using h.h⟩
class RinC (σ τ:List Nat)(x:AV)(y:outParam AV):Prop where
 s:Ren true σ τ x y
class RinL (σ τ:List Nat)(x:List AV)(y:outParam (List AV)):Prop where
 s:RenL true σ τ x y
class RinR (σ τ:List Nat)(x:List (List AV))(y:outParam (List (List AV))):Prop where
 s:RenR true σ τ x y
class RinB (σ τ:List Nat)(x:List (List (List AV)))(y:outParam (List (List (List AV)))):Prop where
 s:RenB true σ τ x y
class RinS (τ:List Nat)(x:Sp)(y:outParam Sp):Prop where
 s:A1l true τ x y
class RoutC (σ τ:List Nat)(x:outParam AV)(y:AV):Prop where
 s:Ren false σ τ x y
class RoutL (σ τ:List Nat)(x:outParam (List AV))(y:List AV):Prop where
 s:RenL false σ τ x y
class RoutR (σ τ:List Nat)(x:outParam (List (List AV)))(y:List (List AV)):Prop where
 s:RenR false σ τ x y
class RoutB (σ τ:List Nat)(x:outParam (List (List (List AV))))(y:List (List (List AV))):Prop where
 s:RenB false σ τ x y
section
variable {σ τ:List Nat}
instance:RinS τ .no .no:=⟨.inl ⟨rfl,rfl⟩⟩
instance:RinS τ .tight .no:=⟨.inl ⟨rfl,rfl⟩⟩
instance{t t':Nat} [h:IdxC τ t t']:RinS τ (.tok t) (.tok t'):=⟨.inr (.inr (.inr (.inr ⟨t,t',rfl,rfl,h.h⟩)))⟩
instance(priority:=low){t:Nat}:RinS τ (.tok t) .no:=⟨.inl ⟨rfl,rfl⟩⟩
instance{v:Value}:RinC σ τ (.val v) (.val v):=⟨.flat _ (.val v)⟩
instance{b b' r o:Nat} [h:IdxC σ b b']:RinC σ τ (.ptr b r o) (.ptr b' r o):=⟨.ptr b b' r o h.h⟩
instance{b b' k:Nat} [h:IdxC σ b b']:RinC σ τ (.bsl b k) (.bsl b' k):=⟨.bsl b b' k h.h⟩
instance{te b b':Nat} [h:IdxC σ b b']:RinC σ τ (.tagN te b) (.tagN te b'):=⟨.tagN te b b' h.h⟩
instance{te t t':Nat}{s:Ad} [h:IdxC τ t t']:RinC σ τ (.buf te s t) (.buf te s t'):=⟨.buf te s t t' h.h⟩
instance{rows:A7}{t t' v:Nat} [h:IdxC τ t t'] [hl:OKR 0 0 rows]:RinC σ τ (.psl rows t v) (.psl rows t' v):=⟨.psl rows t t' v h.h hl.ok⟩
instance{rows rows':A7}{sp sp':Sp} [h:RinR σ τ rows rows'] [hs:RinS τ sp sp']:RinC σ τ (.sl rows sp) (.sl rows' sp'):=⟨Z9 h.s hs.s⟩
instance{l l':An} [h:RinL σ τ l l']:RinC σ τ (.agg l) (.agg l'):=⟨An8 h.s⟩
instance{l l':An} [h:RinL σ τ l l']:RinC σ τ (.tup l) (.tup l'):=⟨An9 h.s⟩
instance{l l':An} [h:RinL σ τ l l']:RinC σ τ (.cptr l) (.cptr l'):=⟨Atc h.s⟩
instance{f:FuncId}{l l':An} [h:RinL σ τ l l']:RinC σ τ (.fn f l) (.fn f l'):=⟨A1m h.s⟩
instance:RinL σ τ [] []:=⟨.nil⟩
instance{x y:AV}{l l':An} [h:RinC σ τ x y] [t:RinL σ τ l l']:RinL σ τ (x::l) (y::l'):=⟨.cons h.s t.s⟩
instance(priority:=low){l:An} [h:OKL 0 0 l]:RinL σ τ l l:=⟨RenL.flat h.ok⟩
instance:RinR σ τ [] []:=⟨.nil⟩
instance{x y:An}{l l':A7} [h:RinL σ τ x y] [t:RinR σ τ l l']:RinR σ τ (x::l) (y::l'):=⟨.cons h.s t.s⟩
instance(priority:=low){l:A7} [h:OKR 0 0 l]:RinR σ τ l l:=⟨RenR.flat h.ok⟩
instance:RinB σ τ [] []:=⟨.nil⟩
instance{x y:A7}{l l':B3} [h:RinR σ τ x y] [t:RinB σ τ l l']:RinB σ τ (x::l) (y::l'):=⟨.cons h.s t.s⟩
instance{v:Value}:RoutC σ τ (.val v) (.val v):=⟨.flat _ (.val v)⟩
instance{b b' r o:Nat} [h:GetC σ b' b]:RoutC σ τ (.ptr b r o) (.ptr b' r o):=⟨.ptr b b' r o h.h⟩
instance{b b' k:Nat} [h:GetC σ b' b]:RoutC σ τ (.bsl b k) (.bsl b' k):=⟨.bsl b b' k h.h⟩
instance{te t t':Nat}{s:Ad} [h:GetC τ t' t]:RoutC σ τ (.buf te s t) (.buf te s t'):=⟨.buf te s t t' h.h⟩
instance{rows:A7}{t t' v:Nat} [h:GetC τ t' t] [hl:OKR 0 0 rows]:RoutC σ τ (.psl rows t v) (.psl rows t' v):=⟨.psl rows t t' v h.h hl.ok⟩
instance{rows rows':A7} [h:RoutR σ τ rows rows']:RoutC σ τ (.sl rows .no) (.sl rows' .no):=⟨Z9 h.s (.inr (.inl ⟨rfl,rfl⟩))⟩
instance{rows rows':A7} [h:RoutR σ τ rows rows']:RoutC σ τ (.sl rows .tight) (.sl rows' .tight):=⟨Z9 h.s (.inr (.inr (.inr (.inl ⟨rfl,rfl⟩))))⟩
instance{rows rows':A7}{t t':Nat} [h:RoutR σ τ rows rows'] [ht:GetC τ t' t]:RoutC σ τ (.sl rows (.tok t)) (.sl rows' (.tok t')):=⟨Z9 h.s (.inr (.inr (.inr (.inr ⟨t,t',rfl,rfl,ht.h⟩))))⟩
instance{l l':An} [h:RoutL σ τ l l']:RoutC σ τ (.agg l) (.agg l'):=⟨An8 h.s⟩
instance{l l':An} [h:RoutL σ τ l l']:RoutC σ τ (.tup l) (.tup l'):=⟨An9 h.s⟩
instance:RoutL σ τ [] []:=⟨.nil⟩
instance{x y:AV}{l l':An} [h:RoutC σ τ x y] [t:RoutL σ τ l l']:RoutL σ τ (x::l) (y::l'):=⟨.cons h.s t.s⟩
instance(priority:=low){l:An} [h:OKL 0 0 l]:RoutL σ τ l l:=⟨RenL.flat h.ok⟩
instance:RoutR σ τ [] []:=⟨.nil⟩
instance{x y:An}{l l':A7} [h:RoutL σ τ x y] [t:RoutR σ τ l l']:RoutR σ τ (x::l) (y::l'):=⟨.cons h.s t.s⟩
instance(priority:=low){l:A7} [h:OKR 0 0 l]:RoutR σ τ l l:=⟨RenR.flat h.ok⟩
instance:RoutB σ τ [] []:=⟨.nil⟩
instance{x y:A7}{l l':B3} [h:RoutR σ τ x y] [t:RoutB σ τ l l']:RoutB σ τ (x::l) (y::l'):=⟨.cons h.s t.s⟩
end
def Hands(X:Cx)(f:FuncId)(args:An)(S:St)(y:AV)(S1:St):Prop:=
 N8 X.P f∧ACalls X f args S fun e S'=>e=.ret y∧S'=S1
theorem Hands.mk{X:Cx}{f:FuncId}{fn:Func}{c:Code}{args:An}{r:AV}{bx bx':B3}{tk tk':List Nat}{n m:Nat}(hf:X.P.funcs[f]?=some fn)(hb:fn.body=some c)
 (hl:Nat.ble args.length fn.ntmps=true)(hnm:(fn.name == "runtime.NumGoroutine")=false)(hn:bx.length=n)(hm:tk.length=m)
 (h:AK X ⟨f,fn,n,m⟩ [.code c] (Pg 0 args) ⟨bx,tk⟩ fun e S=>e=.ret r∧S=⟨bx',tk'⟩):Hands X f args ⟨bx,tk⟩ r ⟨bx',tk'⟩:=
 ⟨⟨fn,hf,hnm,by rw[hb];rfl⟩,J8 hf hb hl hn hm h⟩
def Kt:List Nat→Bool
 |[]=>true
 |x::l=>(l.all fun y=>!Nat.beq x y)&&Kt l
theorem O5:∀{l:List Nat},Kt l=true→l.Nodup
 |[],_=>List.nodup_nil
 |x::l,h=>by
  simp only[Kt,Du,zzq32,N4]at h;refine List.nodup_cons.2 ⟨fun hm=>?_,O5 h.2⟩;have:=h.1 x hm;rw[show Nat.beq x x=true from Nat.beq_refl x]at this;cases this
theorem Aho{l:List Nat}{n:Nat}(h:(l.all fun i=>Nat.blt i n)=true):∀i,i∈l→i<n:=fun i hi=>by
 have:=zzq32.1 h i hi;simpa[Hp]using this
def Ae4{α:Type}:List Nat→List α→Option (List α)
 |[],_=>some []
 |i::σ,l=>match Ub l i with
  |some x=>match Ae4 σ l with
   |some xs=>some (x::xs)
   |none=>none
  |none=>none
theorem Ah6{α:Type}(d:α):∀{σ:List Nat}{l xs:List α},Ae4 σ l=some xs→σ.map (fun i=>l.getD i d)=xs
 |[],l,xs,h=>by simp only[Ae4]at h;cases h;rfl
 |i::σ,l,xs,h=>by
  simp only[Ae4]at h;split at h
  ·rename_i x hx;split at h
   ·rename_i ys hys;cases h;rw[I5]at hx;rw[Om,Ah6 d hys];simp[List.getD,hx]
   ·cases h
  ·cases h
section
variable {X:Cx}{S:St}{F:Cw}{N:Nat}
theorem V4{ops:Array Oper}{i:Nat}{o:Oper}{c:Call}{fo:Operand}{f:FuncId}{caps xs zs ys:An}{r y:AV}{S':St}{bx1 bx2 bxc bx3:B3}{tkc tk1:List Nat}
 (σ τ:List Nat)(hc:Hands X f ys ⟨bxc,tkc⟩ y ⟨bx1,tk1⟩)(ho:ops[i]?=some o)(hw:Bc ops F o=some true)(hop:o.op=.call c)(hcal:c.callee=.value fo)(hfo:Dv X F fo=some (.fn f caps))
 (hx:Hv X F c.args.toList=some xs)(hzs:Jt xs caps=some zs)(hσ:Kt σ=true)(hτ:Kt τ=true)(hσl:(σ.all fun i=>Nat.blt i S.boxes.length)=true)(hτl:(τ.all fun t=>Nat.blt t S.toks.length)=true)
 (hsb:Ae4 σ S.boxes=some bx2) [hb:RinB σ τ bx2 bxc](ht:τ.map (fun t=>S.toks.getD t 0)=tkc) [ha:RinL σ τ zs ys]
 (hb1:bx1.length=σ.length)(ht1:Nat.ble τ.length tk1.length=true){τ':List Nat}(hτ':Il τ S.toks.length (tk1.length-τ.length)=τ') [hR:RoutB σ τ' bx3 bx1] [hr:RoutC σ τ' r y]
 (hS':St.mk (upd S.boxes σ bx3) (upd S.toks τ tk1++tk1.drop τ.length)=S'):Ndo X N ops i o F r S S':=by
 subst hτ';exact Ajj hc.1 hc.2 σ τ ho hw hop hcal hfo hx (Sk hzs) (O5 hσ) (O5 hτ) (Aho hσl) (Aho hτl) (Ah6 [] hsb) hb.s ht rfl ha.s hb1 (J5 ht1) hR.s hr.s hS'
end
end Go.V
