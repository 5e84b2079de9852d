/- A part of the proof of the claim that the last text states: no condition of its own. -/
import Derived.Test.YtojhghmilenfkaaGreatDoorQ8
import Derived.Lib.ItoaLen
import Derived.Lib.UnsafeStr
set_option linter.unusedVariables false
set_option linter.unusedSimpArgs false
namespace Go.V
open Go
section
variable {X:Cx}{B:Bx}{E:Env}{S:St}{w:World}{F:Cw}{a:Act}{N:Nat}{ops:Array Oper}{i:Nat}{o:Oper}
def Rt(s:Ad):List Value:=s.map fun b=>.int .u8 b.toNat
theorem Wu(s:Ad):(Rt s).length=s.length:=by simp[Rt]
theorem Ap2{s:Ad}{j:Nat}{x:UInt8}(h:s[j]?=some x):(Rt s)[j]?=some (.int .u8 x.toNat):=by simp[Rt,h]
theorem A38{s:Ad}{j:Nat}{v:Value}(h:(Rt s)[j]?=some v):∃x,s[j]?=some x∧v=.int .u8 x.toNat:=by
 simp only[Rt,Hd]at h;cases hs:s[j]? with
 |none=>simp[hs]at h
 |some x=>simp[hs]at h;exact⟨x,rfl,h.symm⟩
theorem Az7{tx:TypeId}(hk:X.P.underlying tx=some .string)(s:Ad):Src X.P 1 tx (.string ⟨⟨s⟩⟩) s.length (Rt s) w:=by
 have:=Src.ofString (P:=X.P) w hk ⟨⟨s⟩⟩;exact this
theorem Av2{l:List Nat}{t x:Nat}(h:l[t]?=some x):l.set t x=l:=by
 apply Ab4;intro j;rw[Aer];split
 ·rename_i hj;subst hj;split
  ·exact h.symm
  ·rename_i hl;exact absurd (Aa h) hl
 ·rfl
theorem Al8(hI:Inv X E S w){t:Nat}{tt tx ty te:TypeId}{ye:Ty}(hu:X.P.underlying tt=some (.slice te))(hye:X.ty te=some ye)(h1:ye.size=1)
 {s s':Ad}{u x:Value}(hsrc:Src X.P 1 tx x s'.length (Rt s') w)(hp:Rel E w u (.buf te s t))(hS:S.toks[t]?=some s.length)(hb:s.length+s'.length≤100000000000) :
 ∃r E' w',(Builtin.append_ #[tt,tx] ty #[u,x]).run X.P w=.ok r w'∧Inv X E' ⟨S.boxes,S.toks.set t (s.length+s'.length)⟩ w'∧Evol E w E' w' E.boxes.length E.toks.length ∧
  Rel E' w' r (.buf te (s++s') t):=by
 obtain⟨i,z,hi,hsz,hby,hzv,hzc,hzl,_⟩:=(X.ty_ok te ye hye).info;rw[h1]at hsz hzl;rw[←hsz]at hsrc;cases hp with
 |buf _ _ _ a cap k hk1 hk2 hx hs hc=>
 have hkl:k.len=s.length:=by
  have h1:=hI.nt;have h2:(E.toks.map Tk.len)[t]?=some k.len:=by simp[hk1]
  rw[h1,hS]at h2;exact(Option.some.inj h2).symm
 have hba:=hs hkl.symm;by_cases h0:s'=[]
 ·subst h0;refine⟨.slice a s.length cap,E,w,?_,?_,Evol.refl _ _ _ _,?_⟩
  ·have hn:s.length+0≤cap:=hc;have hl:(Builtin.lenOf x).run X.P w=.ok 0 w:=hsrc.len w;have hf:(Builtin.firstCells i.size 0 x).run X.P w=.ok #[] w:=hsrc.cells;rcases hsrc.kind with⟨e',hk⟩|hk
   all_goals cases a with
   |none=>simp[Builtin.append_,run_underlying hu,run_underlying hk,sizeOf,typeInfo,hi,hl,hf,hc]
   |some a=>simp[Builtin.append_,run_underlying hu,run_underlying hk,sizeOf,typeInfo,hi,hl,hf,hc,storeCells]
  ·rw[show s.length+([]:Ad).length=s.length from rfl,Av2 hS];exact hI
  ·rw[I4];exact .buf te s t a cap k hk1 hk2 hx hs hc
 have hnew:0<s'.length:=zzq45.2 h0;have hlen:(s++s').length=s.length+s'.length:=by simp
 by_cases hg:cap<s.length+s'.length
 ·have hold:(Builtin.firstCells i.size s.length (.slice a s.length cap)).run X.P w.drew=.ok (Rt s).toArray w.drew:=by
   rcases Nat.eq_zero_or_pos s.length with h0|h0
   ·have hs0:s=[]:=zzq84.1 h0;rw[h0,hs0];cases a with
    |none=>exact run_firstCells_none _ _ _ _ _
    |some a0=>exact run_firstCells_some _ _ _ _ _ _ _ (by simp[Rt]) (fun j v hj=>by simp[Rt]at hj)
   ·unfold BufAt at hba;split at hba
    ·rw[hba.1]at h0;simp at h0
    ·obtain⟨rfl,rfl,rfl,q4,q5,q6⟩:=hba;refine run_firstCells_some _ _ _ _ _ _ _ (by rw[Wu,hsz,Nat.mul_one]) (fun q v hq=>?_);obtain⟨x,hx,rfl⟩:=A38 hq;rw[Gq,Kr];exact q6 q x hx
  have hby':(s.length+s'.length)*i.bytes≤140737488355328:=Vt (Nat.mul_le_mul_left _ hby) (by omega);have hrun:=run_append_grow_src w tt tx ty te i z hu hi hzv a s.length cap _ hold x s'.length _ hsrc hg (by omega) (growslice_fits hg hby');have hcc:=grownCap_ge w (s.length+s'.length) cap te;generalize grownCap w (s.length+s'.length) cap te=cc at hrun hcc;have hcs:((Rt s++Rt s').toArray++Builtin.zeroCells z.cells (cc-(s.length+s'.length))).size=cc*1:=by
   have hzs:z.cells.size=1:=by rw[←hzl,←hzc];simp
   have:(Builtin.zeroCells z.cells (cc-(s.length+s'.length))).size=(cc-(s.length+s'.length))*1:=by
    simp[Builtin.zeroCells,hzs]
   rw[Array.size_append,this,Ag6,F5,Wu,Wu];omega
  have hpush:∀o:Obj,(w.drew.alloc o).heap=w.heap.push o:=fun _=>rfl;obtain⟨ev,hI',hmt⟩:=Pv (w':=w.drew.alloc (.cells ((Rt s++Rt s').toArray++Builtin.zeroCells z.cells (cc-(s.length+s'.length))) te)) hI (t:=t) (n:=s.length) (m:=s.length+s'.length)
   (b:=w.heap.size) (c:=cc) (sz:=1) hk1 hkl (by omega) (fun _=>hcc) rfl rfl rfl (by rw[hpush];simp) (fun q hq _=>by rw[hpush,Array.getElem?_push_lt hq];simp[hq]) (.inl rfl) (by rw[hpush];simp)
   (fun o v _ h=>by have:=Ni h;omega) ⟨_,te,by rw[hpush];simp,fun _=>hcs⟩ (Evol.push (E:=E) (w:=w) ⟨_,hpush _⟩ rfl rfl rfl 0 0).ty
  refine⟨_,_,_,hrun,hI',ev,?_⟩;have hkt:=Aa hk1;have hheap:(w.drew.alloc (.cells ((Rt s++Rt s').toArray++Builtin.zeroCells z.cells (cc-(s.length+s'.length))) te)).heap[w.heap.size]? =
   some (.cells ((Rt s++Rt s').toArray++Builtin.zeroCells z.cells (cc-(s.length+s'.length))) te (0,0)):=by rw[hpush];simp
  refine(fun hsl:∀n,n=(s++s').length→Rel (E.setTok t ⟨s.length+s'.length,some (w.heap.size,cc,1)⟩) (w.drew.alloc (.cells ((Rt s++Rt s').toArray++Builtin.zeroCells z.cells (cc-(s.length+s'.length))) te)) (.slice (some ⟨w.heap.size,0,none⟩) n cc) (.buf te (s++s') t)=>hsl _ hlen.symm) ?_;rintro n rfl;refine .buf te (s++s') t _ cc ⟨s.length+s'.length,some (w.heap.size,cc,1)⟩ (by simp[Env.setTok,hkt]) (by rw[hlen];exact Bt _) (by unfold P1;omega) (fun _=>?_) (by omega);refine⟨rfl,rfl,rfl,by simp only[Gk,hheap],fun j hj=>hmt j (by omega),fun j x hx=>?_⟩;have hj:=Aa hx;simp only[World.cell?,hheap];rw[Alm (by simp[Wu];omega),Vu];rw[show Rt s++Rt s'=Rt (s++s') by simp[Rt]];exact Ap2 hx
 ·obtain⟨kl,ksp⟩:=k;cases ksp with
  |none=>simp only[BufAt]at hba;omega
  |some q=>
   obtain⟨b',c',s1⟩:=q;simp only[BufAt]at hba;simp only at hkl;obtain⟨rfl,rfl,rfl,q4,q5,q6⟩:=hba;subst hkl;obtain⟨h1,h00,cur,te',hh,hcs⟩:=hI.tok t _ b' cap 1 hk1;have h1:=h1 (by decide);have hcs:=hcs (by decide);have hte:te'=te:=by simpa[Gk,hh]using q4
   subst hte;have hfit:s.length*i.size+(Rt s').length≤cur.size:=by rw[Wu,hcs,hsz];omega
   have hrun:=Ql tt tx ty te' i hu hi b' s.length cap x s'.length _ hsrc (by omega) hh hfit;rw[hsz,Nat.mul_one]at hrun hfit;have hl':=Wu s';have hat:=setRow_heap w b' cur (cur.toList.take s.length++Rt s'++cur.toList.drop (s.length+(Rt s').length)).toArray te' _ hh;have hoth:∀q,q≠b'→(w.setRow b' (cur.toList.take s.length++Rt s'++cur.toList.drop (s.length+(Rt s').length)).toArray).heap[q]?=w.heap[q]?:=
    fun q hq=>setRow_other w b' q _ (by omega)
   have hspl:=fun q=>Lh cur.toList (Rt s') s.length q (by simpa using hfit);have hsp1:∀q,q<s.length→(cur.toList.take s.length++Rt s'++cur.toList.drop (s.length+(Rt s').length))[q]?=cur.toList[q]?:=fun q h=>by
    rw[hspl,if_neg (by omega)]
   have hsp2:∀q,s.length≤q→q<s.length+(Rt s').length→(cur.toList.take s.length++Rt s'++cur.toList.drop (s.length+(Rt s').length))[q]?=(Rt s')[q-s.length]?:=fun q h1 h2=>by
    rw[hspl,if_pos ⟨h1,h2⟩]
   have hbw:b'<w.heap.size:=hI.own_lt (.inr ⟨t,_,cap,1,hk1⟩);obtain⟨ev,hI',hmt⟩:=Pv (w':=w.setRow b' (cur.toList.take s.length++Rt s'++cur.toList.drop (s.length+(Rt s').length)).toArray) hI (t:=t) (n:=s.length) (m:=s.length+s'.length)
    (b:=b') (c:=cap) (sz:=1) hk1 rfl (by omega) (fun _=>by omega) rfl rfl rfl (by simp) (fun q _ hq=>hoth q hq) (.inr rfl) (by simpa using hbw)
    (fun o v ho h=>by
      simp only[World.cell?,hh]at h;simp only[World.cell?,hat,Vu];rw[hsp1 o (by omega)];simpa using h)
    ⟨_,_,hat,fun _=>by rw[Ag6,Tu _ _ _ (by simpa using hfit)];simpa using hcs⟩
    (fun q e he=>Qh (fun h=>by subst h;exact⟨_,_,_,_,hh,hat⟩) (hoth q) he)
   refine⟨_,_,_,hrun,hI',ev,?_⟩;have hkt:=Aa hk1;refine(fun hsl:∀n,n=(s++s').length→Rel (E.setTok t ⟨s.length+s'.length,some (b',cap,1)⟩) (w.setRow b' (cur.toList.take s.length++Rt s'++cur.toList.drop (s.length+(Rt s').length)).toArray) (.slice (some ⟨b',0,none⟩) n cap) (.buf te' (s++s') t)=>hsl _ hlen.symm) ?_;rintro n rfl;refine .buf te' (s++s') t _ cap ⟨s.length+s'.length,some (b',cap,1)⟩ (by simp[Env.setTok,hkt]) (by rw[hlen];exact Bt _) (by unfold P1;omega) (fun _=>?_) (by omega);refine⟨rfl,rfl,rfl,ev.ty _ _ q4,fun j hj=>hmt j (by omega),fun j x hx=>?_⟩;have hj:=Aa hx;by_cases hjs:j<s.length
   ·rw[Dd hjs]at hx;exact ev.cell _ _ _ (q5 j hjs) (q6 j x hx)
   ·rw[Gz (by omega)]at hx;simp only[World.cell?,hat,Vu];rw[hsp2 j (by omega) (by omega)];exact Ap2 hx
theorem Yk{c:Call}{p q:Operand}{t tt tx te:Nat}{y yx ye:Ty}{s s':Ad}{tk:List Nat}(ho:ops[i]?=some o)(hw:Bc ops F o=some true)(hop:o.op=.call c)(hcal:c.callee=.builtin .append)(hargs:c.args.toList=[p,q])
 (htys:c.argTypes.toList=[tt,tx])(hp:Dv X F p=some (.buf te s t))(hq:Dv X F q=some (str s'))(hy:X.ty tt=some y)(hyk:y.k=.slc te)(hye:X.ty te=some ye)(h1:ye.size=1)(hyx:X.ty tx=some yx)(hyxk:yx.k=.string)
 (hS:S.toks[t]?=some s.length)(hb:s.length+s'.length≤100000000000)(htk:S.toks.set t (s.length+s'.length)=tk):Ndo X N ops i o F (.buf te (s++s') t) S ⟨S.boxes,tk⟩:=by
 subst htk;intro F' E w a hlk hI hF;obtain⟨callee,args,argTypes⟩:=c;simp only at hcal hargs htys;subst hcal;have ha:args=#[p,q]:=by rw[←Vv];exact hargs
 have ht:argTypes=#[tt,tx]:=by rw[←Vv];exact htys
 subst ha;subst ht;have hlo:=Hi hlk;rw[hop]at hlo;have r1:=Am hI hF ((Dq (X:=X) (F:=F) (F':=F') (o:=p) fun s hs=>hlo s (by simp[Op.operands,Call.operands,hs])).trans hp);have r2:=Am hI hF ((Dq (X:=X) (F:=F) (F':=F') (o:=q) fun s hs=>hlo s (by simp[Op.operands,Call.operands,hs])).trans hq);obtain⟨d1,hd1,hk1⟩:=(X.ty_ok tt y hy).agg;simp only[hyk]at hk1;obtain⟨rfl,ye',hye',hne0⟩:=hk1;obtain⟨d2,hd2,hk2⟩:=(X.ty_ok tx yx hyx).agg;simp only[hyxk]at hk2;subst hk2;generalize hv:a.eval q=v at r2;cases r2;obtain⟨v,E',w',g1,g2,g3,g4⟩:=Al8 hI (ty:=o.type) hd1 hye h1 (Az7 hd2 s') r1 hS hb;exact Does.val ho (Cu hF (by rw[Dc hlk];exact hw)) (by simp[execOp,hop,resolve,invoke,builtin,hv,g1]) (.inl rfl) ⟨E',g2,g3,g4⟩
theorem Yl{c:Call}{p:Operand}{te t tt:Nat}{s:Ad}{y:Ty}{e:Nat}(ho:ops[i]?=some o:=by rfl)(hw:Bc ops F o=some true:=by rfl)(hop:o.op=.call c:=by rfl)(hcal:c.callee=.builtin .len:=by rfl)(hargs:c.args=#[p]:=by rfl)
 (htys:c.argTypes=#[tt]:=by rfl)(hp:Dv X F p=some (.buf te s t):=by rfl)(hy:X.ty tt=some y:=by rfl)(hyk:y.k=.slc e:=by rfl):Ndo X N ops i o F (.val (.int .i64 s.length)) S S:=by
 refine Dp ho hw fun F' E w a hc hI hF=>?_;rw[hop]at hc;simp only[Op.operands,Call.operands,hcal,hargs,Ag8,zzq26]at hc;have r1:=Am hI hF ((hc p (.inr (by simp))).trans hp);obtain⟨d,hd,hk⟩:=(X.ty_ok tt y hy).agg;simp only[hyk]at hk;obtain⟨rfl,_⟩:=hk;generalize hv:a.eval p=v at r1;cases r1;exact⟨_,by simp[execOp,hop,resolve,hcal,hargs,htys,hv,invoke,builtin,Builtin.len_,run_underlying hd,goInt],.val _⟩
theorem BufAt.nil{te:Nat}{k:Tk}{p:Option Addr}{cap:Nat}(h:BufAt E w te [] k p cap)(hc:cap=0)(hI:Inv X E S w){t:Nat}(hk:E.toks[t]?=some k):p=none:=by
 unfold BufAt at h;split at h
 ·exact h.2.2
 ·rename_i b c sz hsp;obtain⟨kl,ksp⟩:=k;simp only at hsp;subst hsp;obtain⟨h1,h2,_⟩:=hI.tok _ _ _ _ _ hk;have:=h1 (by rw[h.2.2.1];decide);have:=h.1;omega
theorem Vy{c:Call}{p:Operand}{te t:Nat}{s:Ad}(hS:S.toks[t]?=some s.length)(ho:ops[i]?=some o:=by rfl)(hw:Bc ops F o=some true:=by rfl)(hop:o.op=.call c:=by rfl)(hcal:c.callee=.builtin .unsafeSliceData:=by rfl)(hargs:c.args=#[p]:=by rfl)
 (hp:Dv X F p=some (.buf te s t):=by rfl):Ndo X N ops i o F (.dat te s t) S S:=by
 refine Dp ho hw fun F' E w a hc hI hF=>?_;rw[hop]at hc;simp only[Op.operands,Call.operands,hcal,hargs,Ag8,zzq26]at hc;have r1:=Am hI hF ((hc p (.inr (by simp))).trans hp);generalize hv:a.eval p=v at r1;cases r1 with
 |buf _ _ _ ad cap k hk1 hk2 hx hs hcp=>
 have hkl:k.len=s.length:=by
  have h1:=hI.nt;have h2:(E.toks.map Tk.len)[t]?=some k.len:=by simp[hk1]
  rw[h1,hS]at h2;exact(Option.some.inj h2).symm
 have hba:=hs hkl.symm;refine⟨.pointer ad,?_,.dat te s t ad k hk1 hk2 fun _ _=>⟨cap,hba⟩⟩;have hrun:(Builtin.unsafeSliceData_ c.argTypes o.type #[.slice ad s.length cap]).run X.P w=.ok (.pointer ad) w:=by
  cases ad with
  |none=>rfl
  |some ad=>
   refine Lib.run_unsafeSliceData_row w _ _ ad s.length cap fun h0=>?_;have hs0:s=[]:=by rw[h0]at hcp;exact zzq84.1 (by omega)
   subst hs0;have:=hba.nil h0 hI hk1;cases this
 simp[execOp,hop,resolve,hcal,hargs,hv,invoke,builtin,hrun]
theorem Afw(w:World)(ad:Addr)(n q:Nat):(w.freeze ad n).heap[q]?=w.heap[q]?∨∃cs e z z',w.heap[q]?=some (.cells cs e z)∧(w.freeze ad n).heap[q]?=some (.cells cs e z'):=by
 unfold World.freeze;by_cases hn:n=0
 ·simp[hn]
 ·simp only[hn,if_false];rw[Array.getElem?_modify];by_cases hq:ad.block=q
  ·rw[if_pos hq];cases hh:w.heap[q]? with
   |none=>exact .inl rfl
   |some ob=>cases ob with
    |cells cs e z=>exact .inr ⟨cs,e,z,_,rfl,rfl⟩
    |_=>exact .inl rfl
  ·rw[if_neg hq];exact .inl rfl
theorem Ae7(w:World)(ad:Addr)(n:Nat){q:Nat}{e:TypeId}(h:Gk w q=some e):Gk (w.freeze ad n) q=some e:=by
 unfold Gk at *;rcases Afw w ad n q with h1|⟨cs,e',z,z',h1,h2⟩
 ·rw[h1];exact h
 ·rw[h1]at h;rw[h2];exact h
theorem Ah1(w:World)(ad:Addr)(n q:Nat)(h:q≠ad.block):(w.freeze ad n).heap[q]?=w.heap[q]?:=by
 unfold World.freeze;by_cases hn:n=0
 ·simp[hn]
 ·simp only[hn,if_false];rw[Array.getElem?_modify,if_neg (fun he=>h he.symm)]
theorem Aj2(w:World)(ad p:Addr)(n:Nat):(w.freeze ad n).cell? p=w.cell? p:=by
 unfold World.cell?;rcases Afw w ad n p.block with h1|⟨cs,e',z,z',h1,h2⟩
 ·rw[h1]
 ·rw[h1,h2]
theorem Aj3(w:World)(ad:Addr)(n:Nat):(w.freeze ad n).heap.size=w.heap.size:=by
 unfold World.freeze;by_cases hn:n=0
 ·simp[hn]
 ·simp[hn]
theorem A6k(hI:Inv X E S w){t l:Nat}{k:Tk}{w':World}(hk:E.toks[t]?=some k)(hkl:k.len=l)(hos:w'.os=w.os)(htp:w'.tape=w.tape)(hout:w'.output=w.output)(hsize:w'.heap.size=w.heap.size)
 (hoth:∀q,(∀c sz,k.sp≠some (q,c,sz))→w'.heap[q]?=w.heap[q]?)(hcell:∀p,w'.cell? p=w.cell? p)(hty:∀q e,Gk w q=some e→Gk w' q=some e) :
 Evol E w (E.setTok t ⟨l+1,none⟩) w' E.boxes.length E.toks.length∧Inv X (E.setTok t ⟨l+1,none⟩) ⟨S.boxes,S.toks.set t (l+1)⟩ w':=by
 subst hkl;have hkt:=Aa hk;have htok:∀{q l b c sz:Nat},(E.setTok t ⟨k.len+1,none⟩).toks[q]?=some (Tk.mk l (some (b,c,sz)))→E.toks[q]?=some (Tk.mk l (some (b,c,sz)))∧q≠t:=fun{q l b c sz} h=>by
  rcases E8 h with⟨_,h⟩|⟨hq,h⟩
  ·cases h
  ·exact⟨h,hq⟩
 have hown:∀q,(E.setTok t ⟨k.len+1,none⟩).own q→E.own q:=fun q h=>by
  rcases h with h|⟨i,l,c,s,h⟩
  ·exact .inl h
  ·exact .inr ⟨i,l,c,s,(htok h).1⟩
 have hmt:∀q o,(E.setTok t ⟨k.len+1,none⟩).mt q o→E.mt q o:=fun q o h=>by
  rcases h with h|h|⟨i,l,c,s,h,h'⟩
  ·exact .inl h
  ·exact .inr (.inl h)
  ·exact .inr (.inr ⟨i,l,c,s,(htok h).1,h'⟩)
 have hfar:∀q,¬E.own q→w'.heap[q]?=w.heap[q]?:=fun q hq=>hoth q fun c sz he=>hq (.inr ⟨t,k.len,c,sz,by rw[hk];obtain⟨kl,ks⟩:=k;simp only at he;subst he;rfl⟩);have ev:Evol E w (E.setTok t ⟨k.len+1,none⟩) w' E.boxes.length E.toks.length:=by
  refine⟨rfl,fun _ _ h=>⟨h,fun _ h=>h⟩,fun q hq k' hk'=>?_,hos,htp,hout,by rw[hsize];exact Bt _,fun q _ hq=>hfar q hq,fun b o v _ hc=>by rw[hcell];exact hc,fun b o _ h=>hmt b o h,fun b _ h=>hown b h,rfl,hty,fun q _ k' b1 c1 g1 g2 g3 o ho=>?_⟩;by_cases hqt:q=t
  ·subst hqt;rw[hk]at hk';cases hk';exact⟨⟨k.len+1,none⟩,by simp[Env.setTok,hkt],.inr (Aeq _)⟩
  ·exact⟨k',by simp only[Env.setTok];rw[Fi (by omega)];exact hk',.inl rfl⟩
  ·obtain⟨kl',ksp'⟩:=k';simp only at g2;subst g2;rw[hoth b1 fun c' sz' he=>?_]
   ·exact ho
   ·have hqt:=hI.tt q t b1 kl' c1 0 k.len c' sz' g1 (by rw[hk];obtain⟨kl,ks⟩:=k;simp only at he;subst he;rfl);subst hqt;have:=(htok g3).2;exact this rfl
 refine⟨ev,?_⟩;exact{
  nb:=hI.nb
  nt:=by simp only[Env.setTok,Z1,hI.nt]
  np:=hI.np
  box:=fun i b sz rows h1 h2=>by
   obtain⟨cs,e,hh,hs,hl,hr⟩:=hI.box i b sz rows h1 h2;have:w'.heap[b]?=w.heap[b]?:=hoth b fun c sz' he=>hI.bt i t b sz k.len c sz' h1 (by rw[hk];obtain⟨kl,ks⟩:=k;simp only at he;subst he;rfl);exact⟨cs,e,by rw[this];exact hh,hs,hl,fun k r j x v h3 h4 h5=>(hr k r j x v h3 h4 h5).step ev⟩
  tok:=fun q l b c sz h=>by
   obtain⟨h1,hq⟩:=htok h;obtain⟨h2,h3,cs,e,hh,hs⟩:=hI.tok q l b c sz h1;have:w'.heap[b]?=w.heap[b]?:=hoth b fun c' sz' he=>hq (hI.tt q t b l c sz k.len c' sz' h1 (by rw[hk];obtain⟨kl,ks⟩:=k;simp only at he;subst he;rfl));exact⟨h2,h3,cs,e,by rw[this];exact hh,hs⟩
  bb:=hI.bb
  bt:=fun i q b s l c sz h1 h2=>hI.bt i q b s l c sz h1 (htok h2).1
  tt:=fun i j b l c s l' c' s' h1 h2=>hI.tt i j b l c s l' c' s' (htok h1).1 (htok h2).1
  frlt:=fun b o h=>⟨fun h'=>(hI.frlt b o h).1 (hown b h'),by rw[hsize];exact(hI.frlt b o h).2⟩
  lo:=fun b h=>hI.lo b (hown b h)
  frlo:=hI.frlo
  sz:=by rw[hsize];exact hI.sz
  glob:=X.glob_st w w' (fun q hq=>hfar q fun h=>by have:=hI.lo q h;omega) hI.sz hos hI.glob }
theorem Yn{c:Call}{p q:Operand}{te t:Nat}{s:Ad}{pt it:TypeId}{tk:List Nat}(hte:X.P.cellsOf te=1)(hpt:X.P.underlying pt=some (.pointer te))(hS:S.toks[t]?=some s.length)(hb:s.length≤100000000000)
 (htk:S.toks.set t (s.length+1)=tk)(ho:ops[i]?=some o:=by rfl)(hw:Bc ops F o=some true:=by rfl)(hop:o.op=.call c:=by rfl)(hcal:c.callee=.builtin .unsafeString:=by rfl)(hargs:c.args=#[p,q]:=by rfl)(htys:c.argTypes=#[pt,it]:=by rfl)
 (hp:Dv X F p=some (.dat te s t):=by rfl)(hq:Dv X F q=some (.val (.int .i64 s.length)):=by rfl):Ndo X N ops i o F (str s) S ⟨S.boxes,tk⟩:=by
 subst htk;intro F' E w a hlk hI hF;have hlo:=Hi hlk;rw[hop]at hlo;simp only[Op.operands,Call.operands,hcal,hargs,Ag8,zzq26]at hlo;have r1:=Am hI hF ((Dq (X:=X) (F:=F) (F':=F') (o:=p) fun s hs=>hlo s (.inr (by simp[hs]))).trans hp);have r2:=Am hI hF ((Dq (X:=X) (F:=F) (F':=F') (o:=q) fun s hs=>hlo s (.inr (by simp[hs]))).trans hq);generalize hu:a.eval p=u at r1;generalize hv:a.eval q=v at r2;cases r2;cases r1 with
 |dat _ _ _ ad k hk1 hk2 hs=>
 have hkl:k.len=s.length:=by
  have h1:=hI.nt;have h2:(E.toks.map Tk.len)[t]?=some k.len:=by simp[hk1]
  rw[h1,hS]at h2;exact(Option.some.inj h2).symm
 have fin:∀w',(Builtin.unsafeString_ #[pt,it] o.type #[.pointer ad,.int .i64 s.length]).run X.P w=.ok (.string ⟨⟨s⟩⟩) w'→w'.os=w.os→w'.tape=w.tape→w'.output=w.output→w'.heap.size=w.heap.size →
  (∀q,(∀c sz,k.sp≠some (q,c,sz))→w'.heap[q]?=w.heap[q]?)→(∀p,w'.cell? p=w.cell? p)→(∀q e,Gk w q=some e→Gk w' q=some e) →
  Does X ops i a w fun v w'=>∃E',Inv X E' ⟨S.boxes,S.toks.set t (s.length+1)⟩ w'∧Evol E w E' w' E.boxes.length E.toks.length∧Rel E' w' v (str s):=fun w' hr h1 h2 h3 h4 h5 h6 h7=>by
  obtain⟨ev,hI'⟩:=A6k hI hk1 hkl h1 h2 h3 h4 h5 h6 h7;exact Does.val ho (Cu hF (by rw[Dc hlk];exact hw)) (by simp[execOp,hop,resolve,hcal,hargs,htys,hu,hv,invoke,builtin,hr]) (.inl rfl) ⟨_,hI',ev,.val _⟩
 by_cases h0:s=[]
 ·subst h0;exact fin w (Lib.run_unsafeString_none w pt it o.type ad) rfl rfl rfl rfl (fun _ _=>rfl) (fun _=>rfl) (fun _ _ h=>h)
 ·obtain⟨cap,hba⟩:=hs hkl.symm h0;unfold BufAt at hba;split at hba
  ·exact absurd hba.1 h0
  ·rename_i b cc sz hsp;obtain⟨rfl,rfl,rfl,q4,q5,q6⟩:=hba;obtain⟨kl,ksp⟩:=k;simp only at hsp hkl;subst hsp;subst hkl;obtain⟨g1,g2,cur,te',hh,hcs⟩:=hI.tok t _ b cap 1 hk1;have g1:=g1 (by decide);have hcs:=hcs (by decide);have hte':te'=te:=by simpa[Gk,hh]using q4
   subst hte';have hsh:w.shape? b=some (te',cur.size):=by simp[World.shape?,hh]
   refine fin (w.freeze ⟨b,0,none⟩ s.length) (Lib.run_unsafeString_row w pt it o.type te' hpt hte b cur.size hsh s h0 (by omega) (by omega) (fun j x hx=>?_)) ?_ ?_ ?_ (Aj3 _ _ _) (fun q hq=>Ah1 _ _ _ _ fun he=>hq cap 1 (by rw[he])) (fun p=>Aj2 _ _ _ _)
    (fun q e h=>Ae7 _ _ _ h)
   ·rw[Gq,Kr];exact q6 j x hx
   ·unfold World.freeze;split<;>rfl
   ·unfold World.freeze;split<;>rfl
   ·unfold World.freeze;split<;>rfl
end
section
variable {X:Cx}{B:Bx}{E:Env}{S:St}{w:World}{F:Cw}{a:Act}{N:Nat}{ops:Array Oper}{i:Nat}{o:Oper}
theorem Ari{u v:Value}(h:Iu u=Iu v):u=v:=by
 unfold Iu at h;split at h<;>split at h
 ·rfl
 ·cases h
 ·cases h
 ·cases h;rfl
theorem X2:∀{l l':List Value},l.map Iu=l'.map Iu→l=l'
 |[],[],_=>rfl
 |[],_::_,h=>by simp at h
 |_::_,[],h=>by simp at h
 |x::l,y::l',h=>by
  simp only[Om,List.cons.injEq]at h;rw[Ari h.1,X2 h.2]
theorem Inv.recell(hI:Inv X E S w){b:Nat}{rows rows':A7}(hS:S.boxes[b]?=some rows)(hl:rows'.length=rows.length)(hll:∀r,r∈rows'→∃r0,r0∈rows∧r.length=r0.length)
 (hr:∀(blk sz:Nat)(cs:Array Value)(te:TypeId),E.boxes[b]?=some (some (blk,sz))→w.heap[blk]?=some (.cells cs te (0,0))→∀(k:Nat)(r:An)(j:Nat)(x:AV)(v:Value),rows'[k]?=some r→r[j]?=some x→cs[k*sz+j]?=some v→Rel E w v x) :
 Inv X E ⟨S.boxes.set b rows',S.toks⟩ w:=
 { hI with
   nb:=by simp[hI.nb]
   box:=fun i blk sz q h1 h2=>by
    rcases E8 h2 with⟨rfl,rfl⟩|⟨_,h2⟩
    ·obtain⟨cs,e,hh,hs,hlen,_⟩:=hI.box i blk sz rows h1 hS;exact⟨cs,e,hh,by rw[hl];exact hs,fun r hm=>by obtain⟨r0,h0,he⟩:=hll r hm;rw[he];exact hlen r0 h0,hr blk sz cs e h1 hh⟩
    ·exact hI.box i blk sz q h1 h2 }
theorem Ad0(hI:Inv X E S w)(t te:TypeId){v:Value}{rest:List Value}(hv:v.cells.toList=.pointer none::.slice none 0 0::rest) :
 ∃E' w',(newVar t v).run X.P w=.ok ⟨w.heap.size,0,none⟩ w'∧Inv X E' ⟨S.boxes++[[.tagN t S.boxes.length::.buf te [] S.toks.length::rest.map Iu]],S.toks++[0]⟩ w'∧Evol E w E' w' E.boxes.length E.toks.length ∧
  Rel E' w' (.pointer (some ⟨w.heap.size,0,none⟩)) (.ptr S.boxes.length 0 0):=by
 have hlen:v.cells.size=rest.length+2:=by have:=congrArg List.length hv;simpa using this
 obtain⟨ev,hI'⟩:=hI.newBox (w':=w.alloc (.cells v.cells t)) (cs:=v.cells) (e:=t) (sz:=rest.length+2) (rows:=[v.cells.toList.map Iu]) rfl rfl rfl rfl (by simp[hlen])
  (fun r hr=>by simp at hr;subst hr;simp[hlen]) (fun k r j x u h1 h2 h3=>by
    cases k with
    |zero=>
     simp at h1;subst h1;simp at h2 h3;obtain⟨u',h2,rfl⟩:=h2;rw[h3]at h2;cases h2;exact Nc u
    |succ k=>simp at h1)
 have hI2:=hI'.mint 0;have evm:=Np (E.addBox w.heap.size (rest.length+2)) (w.alloc (.cells v.cells t)) 0;have hl:=ev.len;have ev2:=ev.trans (evm.weaken hl.1 hl.2);have hnb:E.boxes.length=S.boxes.length:=hI.nb;have hnt:E.toks.length=S.toks.length:=by rw[←hI.nt];simp
 have hbx:((E.addBox w.heap.size (rest.length+2)).mint 0).boxes[S.boxes.length]?=some (some (w.heap.size,rest.length+2)):=by
  show (E.addBox w.heap.size (rest.length+2)).boxes[S.boxes.length]?=_;rw[←hnb];exact getElem?_snoc_new _ _
 have hnew:(w.alloc (.cells v.cells t)).heap[w.heap.size]?=some (.cells v.cells t (0,0)):=by
  have:(w.alloc (.cells v.cells t)).heap=w.heap.push (.cells v.cells t (0,0)):=rfl;rw[this];simp
 have hty:Gk (w.alloc (.cells v.cells t)) w.heap.size=some t:=by simp only[Gk,hnew]
 refine⟨_,_,by simp[newVar,newRow],?_,ev2,?_⟩
 ·have hget:(S.boxes++[[v.cells.toList.map Iu]])[S.boxes.length]?=some [v.cells.toList.map Iu]:=by simp
  have:=hI2.recell (b:=S.boxes.length) (rows':=[.tagN t S.boxes.length::.buf te [] S.toks.length::rest.map Iu]) hget rfl (fun r hr=>⟨v.cells.toList.map Iu,by simp,by simp at hr;subst hr;simp[hlen]⟩) (fun blk sz cs e h1 h2 k r j x u h3 h4 h5=>by
   rw[hbx]at h1;cases h1;have hcs:cs=v.cells:=by
    rw[hnew]at h2;cases h2;rfl
   subst hcs;cases k with
   |succ k=>simp at h3
   |zero=>
    simp at h3;subst h3;have h5':v.cells.toList[j]?=some u:=by simpa using h5
    rw[hv]at h5';cases j with
    |zero=>simp at h4 h5';subst h4;subst h5';exact .tagN t _ _ _ hbx hty
    |succ j=>cases j with
     |zero=>
      simp at h4 h5';subst h4;subst h5';exact .buf te [] _ none 0 ⟨0,none⟩ (by simp only[Env.mint];rw[←hnt];exact getElem?_snoc_new _ _) (Bt _) (Cb _) (fun _=>⟨rfl,rfl,rfl⟩) (Bt _)
     |succ j=>
      simp at h4 h5';obtain⟨u',h4,rfl⟩:=h4;rw[h5']at h4;cases h4;exact Nc u)
  simpa using this
 ·have:=Rel.ptr (E:=(E.addBox w.heap.size (rest.length+2)).mint 0) (w:=w.alloc (.cells v.cells t)) S.boxes.length 0 0 w.heap.size (rest.length+2) hbx;simpa using this
theorem Alx{t:TypeId}{y:Ty}{rest:List Value}{bx:B3}{tk:List Nat}{b m:Nat}(te:TypeId)(ho:ops[i]?=some o)(hw:Bc ops F o=some true)(hop:o.op=.alloc t)(hy:X.ty t=some y)
 (hz:y.zero=(.pointer none::.slice none 0 0::rest).map Iu)(hb:Aat S.boxes=b)(hm:Aat S.toks=m)(hbx:S.boxes++[[.tagN t b::.buf te [] m::rest.map Iu]]=bx)(htk:S.toks++[0]=tk):Ndo X N ops i o F (.ptr b 0 0) S ⟨bx,tk⟩:=by
 subst hbx;subst htk;rw[Kj]at hb hm;subst hb;subst hm;intro F' E w a hl hI hF;obtain⟨z,hzr,hzc,_⟩:=Ke hy w;rw[hz]at hzc;obtain⟨E',w',h1,h2,h3,h4⟩:=Ad0 hI t te (v:=z) (X2 hzc);exact Does.val ho (Cu hF (by rw[Dc hl];exact hw)) (by simp[execOp,hop,Instr.alloc,hzr,h1]) (.inl rfl) ⟨E',h2,h3,h4⟩
theorem Alz{t:TypeId}{y:Ty}{cs:List Value}{fs:List (Nat×Nat)}(ho:ops[i]?=some o)(hw:Bc ops F o=some true)(hop:o.op=.build t #[])(hy:X.ty t=some y)(hk:y.k=.str fs)(hz:y.zero=cs.map Iu) :
 Ndo X N ops i o F (.val (.agg ⟨cs⟩)) S S:=by
 refine Dp ho hw fun F' E w a hc hI hF=>?_;obtain⟨d,hd,hdd⟩:=(X.ty_ok t y hy).agg;simp only[hk]at hdd;obtain⟨fields,rfl,hm,_⟩:=hdd;obtain⟨z,_,hzc,hl,i,hi,hiz,his,_⟩:=Ke hy w;rw[hz]at hzc;have hcs:=X2 hzc;have hrun:=run_build (P:=X.P) w t #[] z.cells (by simp[Program.built,hi,hd,hiz,hm,Instr.fill]);refine⟨.agg z.cells,by simp[execOp,hop,hrun],?_⟩;have:z.cells=⟨cs⟩:=by rw[←Vv];exact hcs
 rw[this];exact .val _
theorem As8{t:TypeId}{p:Operand}{rest:List Value}{bx:B3}{tk:List Nat}{b m:Nat}(te:TypeId)(ho:ops[i]?=some o)(hw:Bc ops F o=some true)(hop:o.op=.box t p)(hp:Dv X F p=some (.val (.agg ⟨.pointer none::.slice none 0 0::rest⟩)))
 (hb:Aat S.boxes=b)(hm:Aat S.toks=m)(hbx:S.boxes++[[.tagN t b::.buf te [] m::rest.map Iu]]=bx)(htk:S.toks++[0]=tk):Ndo X N ops i o F (.ptr b 0 0) S ⟨bx,tk⟩:=by
 subst hbx;subst htk;rw[Kj]at hb hm;subst hb;subst hm;intro F' E w a hl hI hF;have hlo:=Hi hl;rw[hop]at hlo;have r1:=Am hI hF ((Dq (X:=X) (F:=F) (F':=F') (o:=p) fun s hs=>hlo s (by simp[Op.operands,hs])).trans hp);generalize hv:a.eval p=v at r1;cases r1;obtain⟨E',w',h1,h2,h3,h4⟩:=Ad0 hI t te (v:=.agg ⟨.pointer none::.slice none 0 0::rest⟩) rfl;exact Does.val ho (Cu hF (by rw[Dc hl];exact hw)) (by simp[execOp,hop,Instr.box,hv,h1]) (.inl rfl) ⟨E',h2,h3,h4⟩
theorem Afm(hI:Inv X E S w){b r off blk sz:Nat}{rows:A7}{row:An}(hS:S.boxes[b]?=some rows)(hr:rows[r]?=some row)(ho:off<row.length)(hB:E.boxes[b]?=some (some (blk,sz))) :
 ∃cs e,w.heap[blk]?=some (.cells cs e (0,0))∧cs.size=rows.length*sz∧sz=row.length∧r*sz+off<cs.size:=by
 obtain⟨cs,e,hh,hs,hl,_⟩:=hI.box b blk sz rows hB hS;have hsz:=hl row (Bn hr);have hrl:=Aa hr;refine⟨cs,e,hh,hs,hsz.symm,?_⟩;rw[hs];exact Jv hrl (by omega)
theorem Ad1{blk:Nat}{cs:Array Value}{e:TypeId}(h:w.heap[blk]?=some (.cells cs e (0,0))):(viewAt blk).run X.P w=.ok none w:=by
 have hsh:w.shape? blk=some (e,cs.size):=by simp[World.shape?,h]
 simp[viewAt,hsh]
theorem An7{src dst t:TypeId}{p:Operand}{b r off:Nat}{y:Ty}{rows:A7}{row:An}(hu:X.P.underlying src=some (.pointer t))(hv:X.P.underlying dst=some .unsafePointer)(hy:X.ty t=some y)(hy0:y.size≠0)
 (ho:ops[i]?=some o:=by rfl)(hw:Bc ops F o=some true:=by rfl)(hop:o.op=.convert src dst p:=by rfl)(hp:Dv X F p=some (.ptr b r off):=by rfl)(hS:S.boxes[b]?=some rows:=by rfl)(hr:rows[r]?=some row:=by rfl)
 (hof:Nat.blt off row.length=true:=by rfl):Ndo X N ops i o F (.ptr b r off) S S:=by
 refine Dp ho hw fun F' E w a hc hI hF=>?_;rw[hop]at hc;have r1:=Am hI hF ((hc p (by simp[Op.operands])).trans hp);generalize hx:a.eval p=x at r1;cases r1 with
 |ptr _ _ _ blk sz hB=>
  obtain⟨cs,e,hh,hs,hsz,hin⟩:=Afm hI hS hr (by simpa[Hp]using hof) hB;have hsh:w.shape? blk=some (e,cs.size):=by simp[World.shape?,hh]
  refine⟨.pointer (some ⟨blk,r*sz+off,none⟩),?_,.ptr b r off blk sz hB⟩;have hnv:=Ad1 (X:=X) hh;have hlt:¬cs.size≤r*sz+off:=by omega
  simp[execOp,hop,hx,convert,run_underlying hu,run_underlying hv,Conv.unsafePointer,Conv.seenAt,hnv,cellsIn,hsh,Dx hy,hy0,hlt]
theorem Aff{src dst t te:TypeId}{p:Operand}{b r off j:Nat}{rows:A7}{row:An}{y:Ty}(hu:X.P.underlying src=some .unsafePointer)(hv:X.P.underlying dst=some (.pointer t))(hy:X.ty t=some y)
 (hlies:∀n,n=rows.length*row.length→liesAt X.P X.P.depth te (n/X.P.cellsOf te) (r*row.length+off) t 1=true)(ho:ops[i]?=some o:=by rfl)(hw:Bc ops F o=some true:=by rfl)(hop:o.op=.convert src dst p:=by rfl)
 (hp:Dv X F p=some (.ptr b r off):=by rfl)(hS:S.boxes[b]?=some rows:=by rfl)(hr:rows[r]?=some row:=by rfl)(hof:Nat.blt off row.length=true:=by rfl)(hj:row[j]?=some (.tagN te b):=by rfl):Ndo X N ops i o F (.ptr b r off) S S:=by
 refine Dp ho hw fun F' E w a hc hI hF=>?_;rw[hop]at hc;have r1:=Am hI hF ((hc p (by simp[Op.operands])).trans hp);generalize hx:a.eval p=x at r1;cases r1 with
 |ptr _ _ _ blk sz hB=>
  obtain⟨cs,e,hh,hs,hsz,hin⟩:=Afm hI hS hr (by simpa[Hp]using hof) hB;have hte:e=te:=by
   obtain⟨cs',e',hh',_,hl,hrel⟩:=hI.box b blk sz rows hB hS;rw[hh]at hh';cases hh';have hjl:=Aa hj;obtain⟨v,hv⟩:∃v,cs[r*sz+j]?=some v:=⟨cs[r*sz+j]'(by rw[hs];exact Jv (Aa hr) (by omega)),by simp⟩
   have:=hrel r row j _ v hr hj hv;cases this with
   |tagN _ _ blk' sz' hB' ht=>
    rw[hB]at hB';cases hB';simpa[Gk,hh]using ht
  subst hte;have hsh:w.shape? blk=some (e,cs.size):=by simp[World.shape?,hh]
  refine⟨.pointer (some ⟨blk,r*sz+off,none⟩),?_,.ptr b r off blk sz hB⟩;have hnv:=Ad1 (X:=X) hh;have hl:=hlies cs.size (by rw[hs,hsz]);rw[←hsz]at hl;have hva:(variablesAt ⟨blk,r*sz+off,none⟩ t 1).run X.P w=.ok true w:=by simp[variablesAt,hsh,hl]
  by_cases h0:y.size=0
  ·simp[execOp,hop,hx,convert,run_underlying hu,run_underlying hv,Conv.unsafePointer,Conv.seenAt,hnv,Dx hy,h0,hva]
  ·simp[execOp,hop,hx,convert,run_underlying hu,run_underlying hv,Conv.unsafePointer,Conv.seenAt,hnv,Dx hy,h0,hva]
theorem Y1{t e:TypeId}(hd:X.P.underlying t=some (.pointer e))(d:Nat)(p:Option Addr)(w:World):(Op.equalIn (d+1) t (.pointer p) (.pointer none)).run X.P w=.ok p.isNone w:=by
 unfold Op.equalIn;cases p<;>simp[run_underlying hd]
theorem Ae1{t e:TypeId}{y:Ty}(hd:X.P.underlying t=some (.pointer e))(hy:X.ty e=some y)(hy0:y.size≠0)(d:Nat)(p:Addr)(w:World):(Op.equalIn (d+1) t (.pointer (some p)) (.pointer (some p))).run X.P w=.ok true w:=by
 unfold Op.equalIn;simp[run_underlying hd,Dx hy,hy0,sameAddr]
theorem Ajk{t t' e te b:TypeId}{p:Operand}(hu:X.P.underlying t=some (.pointer e))(ho:ops[i]?=some o:=by rfl)(hw:Bc ops F o=some true:=by rfl)(hop:o.op=.binOp .eql t p (.const (.pointer none)) t':=by rfl)
 (hp:Dv X F p=some (.tagN te b):=by rfl):Ndo X N ops i o F (.val (.bool true)) S S:=by
 refine Dp ho hw fun F' E w a hc hI hF=>?_;rw[hop]at hc;have r1:=Am hI hF ((hc p (by simp[Op.operands])).trans hp);generalize hx:a.eval p=x at r1;cases r1;have e1:=Y1 hu 9999 none w;exact⟨.bool true,by simp only[execOp,hop,hx,show a.eval (.const (.pointer none))=.pointer none from rfl,eqGuard,binOp,Op.equal,Op.maxDepth];simp[e1],.val _⟩
theorem Afi{t t' e b r off:TypeId}{p:Operand}(hu:X.P.underlying t=some (.pointer e))(ho:ops[i]?=some o:=by rfl)(hw:Bc ops F o=some true:=by rfl)(hop:o.op=.binOp .eql t p (.const (.pointer none)) t':=by rfl)
 (hp:Dv X F p=some (.ptr b r off):=by rfl):Ndo X N ops i o F (.val (.bool false)) S S:=by
 refine Dp ho hw fun F' E w a hc hI hF=>?_;rw[hop]at hc;have r1:=Am hI hF ((hc p (by simp[Op.operands])).trans hp);generalize hx:a.eval p=x at r1;cases r1;have e1:=fun q=>Y1 hu 9999 (some q) w;exact⟨.bool false,by simp only[execOp,hop,hx,show a.eval (.const (.pointer none))=.pointer none from rfl,eqGuard,binOp,Op.equal,Op.maxDepth];simp[e1],.val _⟩
theorem Afh{t t' e b r off:TypeId}{p q:Operand}{y:Ty}(hu:X.P.underlying t=some (.pointer e))(hy:X.ty e=some y)(hy0:y.size≠0)(ho:ops[i]?=some o:=by rfl)(hw:Bc ops F o=some true:=by rfl)(hop:o.op=.binOp .neq t p q t':=by rfl)
 (hp:Dv X F p=some (.ptr b r off):=by rfl)(hq:Dv X F q=some (.ptr b r off):=by rfl):Ndo X N ops i o F (.val (.bool false)) S S:=by
 refine Dp ho hw fun F' E w a hc hI hF=>?_;rw[hop]at hc;have r1:=Am hI hF ((hc p (by simp[Op.operands])).trans hp);have r2:=Am hI hF ((hc q (by simp[Op.operands])).trans hq);generalize hx:a.eval p=x at r1;generalize hz:a.eval q=z at r2;cases r1 with
 |ptr _ _ _ blk sz hB=>
 cases r2 with
 |ptr _ _ _ blk' sz' hB'=>
 rw[hB]at hB';cases hB';have e1:=fun q=>Ae1 hu hy hy0 9999 q w;exact⟨.bool false,by simp only[execOp,hop,hx,hz,eqGuard,binOp,Op.equal,Op.maxDepth];simp[e1],.val _⟩
theorem Afg{c:Call}{fo p:Operand}{f:FuncId}{x:AV}(hr:∀v w,(callFunc f #[v]).run X.P w=.ok (.value v) w)(ho:ops[i]?=some o:=by rfl)(hw:Bc ops F o=some true:=by rfl)
 (hop:o.op=.call c:=by rfl)(hcal:c.callee=.value fo:=by rfl)(hargs:c.args=#[p]:=by rfl)(hfo:Dv X F fo=some (.fn f []):=by rfl)(hp:Dv X F p=some x:=by rfl):Ndo X N ops i o F x S S:=by
 refine Dp ho hw fun F' E w a hc hI hF=>?_;rw[hop]at hc;simp only[Op.operands,Call.operands,hcal,hargs,Ag8,zzq26]at hc;have h1:=Am hI hF ((hc fo (.inl (by simp))).trans hfo);have h2:=Am hI hF ((hc p (.inr (by simp))).trans hp);cases hh:a.eval fo<;>rw[hh]at h1<;>cases h1;rename_i caps hcl hcr;have hcaps:caps=#[]:=by apply Array.eq_empty_of_size_eq_zero;simpa using hcl
 subst hcaps;exact⟨a.eval p,by simp[execOp,hop,resolve,hcal,hargs,hh,Deferred.ofValue,invoke,hr],h2⟩
end
end Go.V
namespace Go.V
open Go Go.Proofs Go.Proofs.Tryz
section
variable {X:Cx}{B:Bx}{E:Env}{S:St}{w:World}{F:Cw}{R:AE→St→Prop}{N:Nat}{ops:Array Oper}{i:Nat}{o:Oper}{k:List Item}
theorem Ac3{t t':TypeId}{p q:Operand}{κ:IntKind}{a b r:Int}(hr:κ.wrap ((BitVec.ofInt κ.bits a &&& BitVec.ofInt κ.bits b).toNat)=r)(ho:ops[i]?=some o:=by rfl)(hw:Bc ops F o=some true:=by rfl)(hop:o.op=.binOp .and t p q t':=by rfl)
 (hp:Dv X F p=some (.val (.int κ a)):=by rfl)(hq:Dv X F q=some (.val (.int κ b)):=by rfl):Ndo X N ops i o F (.val (.int κ r)) S S:=by
 subst hr;refine Dp ho hw fun F' E w ac hc hI hF=>?_;rw[hop]at hc;have r1:=Am hI hF ((hc p (by simp[Op.operands])).trans hp);have r2:=Am hI hF ((hc q (by simp[Op.operands])).trans hq);generalize hu:ac.eval p=u at r1;generalize hv:ac.eval q=v at r2;cases r1;cases r2;exact⟨_,by simp[execOp,hop,hu,hv,eqGuard,binOp,Op.intBits],.val _⟩
theorem Un{t t':TypeId}{p q:Operand}{κ κ':IntKind}{a b r:Int}(h0:0≤b)(hr:a.fdiv (2^(min b.toNat κ.bits))=r)(ho:ops[i]?=some o:=by rfl)(hw:Bc ops F o=some true:=by rfl)(hop:o.op=.binOp .shr t p q t':=by rfl)
 (hp:Dv X F p=some (.val (.int κ a)):=by rfl)(hq:Dv X F q=some (.val (.int κ' b)):=by rfl):Ndo X N ops i o F (.val (.int κ r)) S S:=by
 subst hr;refine Dp ho hw fun F' E w ac hc hI hF=>?_;rw[hop]at hc;have r1:=Am hI hF ((hc p (by simp[Op.operands])).trans hp);have r2:=Am hI hF ((hc q (by simp[Op.operands])).trans hq);generalize hu:ac.eval p=u at r1;generalize hv:ac.eval q=v at r2;cases r1;cases r2;have hn:¬b<0:=by omega
 exact⟨_,by simp[execOp,hop,hu,hv,eqGuard,binOp,Op.shift,hn],.val _⟩
theorem A4p{e:Bool}{x y:Code}{K:List Item}{F':Cw}{S2:St}(hk:AK X B K F' S2 R)(he:Go.V.ev X B.fn.ntmps 200 (.code (if e then x else y)::k) F S=(K,F',S2):=by rfl):AK X B (.code (.cond (.const (.bool e)) x y)::k) F S R:=
 K5 (Ba 200 he hk) fun w a b cs=>step_cond (t:=e) rfl
end
theorem Azj(y:Nat)(hy:y<64):Pure X 361 [.val (.int .u64 2),.val (.int .u64 y)] (.tup [.val (.int .u64 0),.val (.int .u64 (2*y:Nat))]):=by
 have b2:IntKind.u64.wrap ((BitVec.ofInt IntKind.u64.bits 2 &&& BitVec.ofInt IntKind.u64.bits 4294967295).toNat)=2:=by decide
 have b0:IntKind.u64.wrap ((BitVec.ofInt IntKind.u64.bits 0 &&& BitVec.ofInt IntKind.u64.bits 4294967295).toNat)=0:=by decide
 have s2:(2:Int).fdiv (2^(min (32:Int).toNat IntKind.u64.bits))=0:=by decide
 have s0:(0:Int).fdiv (2^(min (32:Int).toNat IntKind.u64.bits))=0:=by decide
 have hand:∀y:Nat,y<64→IntKind.u64.wrap ((BitVec.ofInt IntKind.u64.bits (y:Int) &&& BitVec.ofInt IntKind.u64.bits 4294967295).toNat)=(y:Int):=by decide
 have hshr:∀y:Nat,y<64→(y:Int).fdiv (2^(min (32:Int).toNat IntKind.u64.bits))=0:=by decide
 have hshr2:∀y:Nat,y<64→(IntKind.u64.wrap ((2:Int)*(y:Int))).fdiv (2^(min (32:Int).toNat IntKind.u64.bits))=0:=by decide
 have hmul:∀y:Nat,y<64→IntKind.u64.wrap ((2:Int)*(y:Int))=((2*y:Nat):Int):=by decide
 have hz:∀y:Nat,y<64→IntKind.u64.wrap ((BitVec.ofInt IntKind.u64.bits (IntKind.u64.wrap (IntKind.u64.wrap ((0:Int)*(y:Int))+0)) &&& BitVec.ofInt IntKind.u64.bits 4294967295).toNat)=0:=by decide
 have hz2:∀y:Nat,y<64→(IntKind.u64.wrap (IntKind.u64.wrap ((0:Int)*(y:Int))+0)).fdiv (2^(min (32:Int).toNat IntKind.u64.bits))=0:=by decide
 have s4:(IntKind.u64.wrap (0+IntKind.u64.wrap (2*0))).fdiv (2^(min (32:Int).toNat IntKind.u64.bits))=0:=by decide
 refine Pure.run func361 ?_;refine Bs (Ac3 b2) ?_;refine Bs (Un (by decide) s2) ?_;refine Bs (Ac3 (hand y hy)) ?_;refine Bs (Un (by decide) (hshr y hy)) ?_;refine Bs (Un (by decide) (hshr2 y hy)) ?_;refine Bs (Ac3 (hz y hy)) ?_;refine Bs (Un (by decide) (hz2 y hy)) ?_;refine Bs (Un (by decide) s4) ?_;refine Ao func361 ?_;rw[hmul y hy];rfl
theorem A5v(y:Nat)(hy:y<64):Pure X 334 [.val (.int .u64 2),.val (.int .u64 y)] (.tup [.val (.int .u64 0),.val (.int .u64 (2*y:Nat))]):=by
 refine Pure.run func334 ?_;refine A4p ?_;refine Aj (Azj y hy) ?_;exact Ao func334 rfl
def Aiu(s p:Ad):Bool:=s.take p.length==p
theorem Agd(s p:Ad)(hs:s.length≤1000000000000)(hp:p.length≤1000000000000):Pure X 362 [str s,str p] (vb (Aiu s p)):=by
 refine Pure.run func362 ?_;refine Db (fun h=>?_) (fun h=>?_)
 ·have h':p.length≤s.length:=by have:=A6 h;rw[Gj,Gj]at this;omega
  refine Bs (P3 (l:=0) (h:=(p.length:Int)) (r:=s.take p.length) rfl rfl rfl rfl rfl ?_ rfl rfl ?_ ?_ ?_ ?_) ?_
  ·show some _=_;rw[Gj]
  ·omega
  ·omega
  ·omega
  ·simp
  refine Ao func362 ?_;rfl
 ·have h':s.length<p.length:=by have:=Bd h;rw[Gj,Gj]at this;omega
  refine Ao func362 ?_;have:Aiu s p=false:=by
   simp only[Aiu,beq_eq_false_iff_ne];intro he;have:=congrArg List.length he;simp at this;omega
  rw[this]
theorem Avj(s p:Ad)(hs:s.length≤1000000000000)(hp:p.length≤1000000000000):Pure X 335 [str s,str p] (vb (Aiu s p)):=by
 refine Pure.run func335 ?_;refine Aj (Agd s p hs hp) ?_;exact Ao func335 rfl
def Kq(s p:Ad):Ad:=if Aiu s p then s.drop p.length else s
theorem Azm(s p:Ad)(hs:s.length≤1000000000000)(hp:p.length≤1000000000000):Pure X 364 [str s,str p] (str (Kq s p)):=by
 refine Pure.run func364 ?_;refine Aj (Agd s p hs hp) ?_;refine Ai (fun h=>?_) (fun h=>?_)
 ·have h':Aiu s p=true:=h;have hl:p.length≤s.length:=by
   have:=congrArg List.length (zzq34.1 h');simp at this;omega
  refine Bs (P3 (l:=(p.length:Int)) (h:=(s.length:Int)) (r:=s.drop p.length) rfl rfl rfl rfl ?_ rfl rfl rfl ?_ ?_ ?_ ?_) ?_
  ·show some _=_;rw[Gj]
  ·omega
  ·omega
  ·omega
  ·rw[I3,I3,Jh]
  refine Ao func364 ?_;simp only[Kq,h',if_true]
 ·have h':Aiu s p=false:=h;refine Ao func364 ?_;simp[Kq,h']
theorem Avp(s p:Ad)(hs:s.length≤1000000000000)(hp:p.length≤1000000000000):Pure X 339 [str s,str p] (str (Kq s p)):=by
 refine Pure.run func339 ?_;refine Aj (Azm s p hs hp) ?_;exact Ao func339 rfl
theorem Avn(k:Nat)(hk:k≤60):Pure X 317 [str [32,32],vi k] (str (List.replicate (2*k) 32)):=by
 have wk:∀k:Nat,k≤60→IntKind.u64.wrap (k:Int)=(k:Int):=by decide
 have wk2:∀k:Nat,k≤60→IntKind.i64.wrap ((2*k:Nat):Int)=((2*k:Nat):Int):=by decide
 have hm:Pure X 334 [.val (.int .u64 2),.val (.int .u64 (IntKind.u64.wrap (k:Int)))] (.tup [.val (.int .u64 0),.val (.int .u64 (2*k:Nat))]):=by
  rw[wk k hk];exact A5v k (by omega)
 refine Pure.run func317 ?_;refine Ai (fun h=>?_) (fun h=>?_)
 ·have h':k=0:=by simpa using h
  subst h';exact Ao func317 rfl
 refine Ai (fun h1=>?_) (fun h1=>?_)
 ·have h':k=1:=by simp at h1;omega
  subst h';exact Ao func317 rfl
 refine Ah ?_ (ht:=by simp);refine Aj hm ?_;refine Gm ?_ (ht:=by simp);refine Ah ?_ (ht:=by simp;omega);refine Ah ?_;refine Jy 0 (by omega) (b:=32) rfl ?_;refine Ay ?_;refine Ep ?_ (ht:=by rw[wk2 k hk];simp;omega);refine Aj (Avj (List.replicate 128 32) [32,32] (by simp) (by simp)) ?_;refine Ay ?_;refine Bs (P3 (s:=List.replicate 128 32) (l:=0) (h:=IntKind.i64.wrap ((2*k:Nat):Int)) (r:=List.replicate (2*k) 32) rfl rfl rfl rfl rfl rfl rfl rfl ?_ ?_ ?_ ?_) ?_
 ·omega
 ·rw[wk2 k hk];omega
 ·rw[wk2 k hk];simp;omega
 ·rw[wk2 k hk,I3,List.take_replicate];simp;omega
 exact Ao func317 rfl
theorem Ae8:X.P.underlying 308=some (.pointer 310):=by kernel_rfl
theorem A0m:X.P.underlying 366=some .unsafePointer:=by kernel_rfl
theorem Aym:liesAt X.P X.P.depth 310 (2/X.P.cellsOf 310) 0 310 1=true:=by kernel_rfl
theorem Ayn:liesAt X.P X.P.depth 312 (4/X.P.cellsOf 312) 0 310 1=true:=by kernel_rfl
theorem A01(v:Value)(w:World):(callFunc 359 #[v]).run X.P w=.ok (.value v) w:=
 (run_callFunc_extern func359 (by kernel_rfl) (by kernel_rfl) (by kernel_rfl) (e:=Extern.AbiNoEscape.same) (by kernel_rfl) _ w).trans rfl
abbrev bA(A:AV)(s:Ad):An:=[A,.buf 5 s 0]
abbrev bQ(A:AV)(s:Ad)(ws:List Ad)(h:Int):An:=[A,.buf 5 s 0,.sl (Eu ws) .no,vi h]
abbrev bP(A:AV)(s:Ad)(ws:List Ad)(h:Int):An:=[A,.buf 5 s 0,.sl (Eu ws) (.tok 1),vi h]
abbrev bN(A:AV)(s:Ad)(h:Int):An:=[A,.buf 5 s 0,.sl [] .tight,vi h]
theorem A1w(s:Ad):Hands X 333 [.ptr 0 0 0] ⟨[[bA (.tagN 310 0) s]],[s.length]⟩ (.tup []) ⟨[[bA (.ptr 0 0 0) s]],[s.length]⟩:=by
 refine Hands.run (n:=1) (m:=1) func333 ?_;refine Bs (Ajk Ae8) ?_;refine Ay ?_;refine Bs (An7 Ae8 A0m rfl (by simp)) ?_;refine Bs (Afg A01) ?_;refine Bs (Aff (te:=310) (j:=0) A0m Ae8 rfl ?_) ?_
 ·intro n hn;subst hn;exact Aym
 exact Ek func333 rfl rfl
theorem A1x(s:Ad):Hands X 333 [.ptr 0 0 0] ⟨[[bA (.ptr 0 0 0) s]],[s.length]⟩ (.tup []) ⟨[[bA (.ptr 0 0 0) s]],[s.length]⟩:=by
 refine Hands.run (n:=1) (m:=1) func333 ?_;refine Bs (Afi Ae8) ?_;refine Ah ?_;refine Bs (Afh Ae8 rfl (by simp)) ?_;refine Ah ?_;exact Ek func333 rfl rfl
theorem A1z(s:Ad) (ws:List Ad) (h:Int):Hands X 333 [.ptr 0 0 0] ⟨[[bQ (.tagN 312 0) s ws h]],[s.length]⟩ (.tup []) ⟨[[bQ (.ptr 0 0 0) s ws h]],[s.length]⟩:=by
 refine Hands.run (n:=1) (m:=1) func333 ?_;refine Bs (Ajk Ae8) ?_;refine Ay ?_;refine Bs (An7 Ae8 A0m rfl (by simp)) ?_;refine Bs (Afg A01) ?_;refine Bs (Aff (te:=312) (j:=0) A0m Ae8 rfl ?_) ?_
 ·intro n hn;subst hn;exact Ayn
 exact Ek func333 rfl rfl
theorem A10(s:Ad) (ws:List Ad) (h:Int):Hands X 333 [.ptr 0 0 0] ⟨[[bQ (.ptr 0 0 0) s ws h]],[s.length]⟩ (.tup []) ⟨[[bQ (.ptr 0 0 0) s ws h]],[s.length]⟩:=by
 refine Hands.run (n:=1) (m:=1) func333 ?_;refine Bs (Afi Ae8) ?_;refine Ah ?_;refine Bs (Afh Ae8 rfl (by simp)) ?_;refine Ah ?_;exact Ek func333 rfl rfl
theorem A4e(s:Ad)(x:Ad)(hb:s.length+x.length≤100000000000):Hands X 316 [.ptr 0 0 0,str x] ⟨[[bA (.tagN 310 0) s]],[s.length]⟩ (.tup [vi x.length,.val .nilIface]) ⟨[[bA (.ptr 0 0 0) (s++x)]],[(s++x).length]⟩:=by
 refine Hands.run (n:=1) (m:=1) func316 ?_;refine Af (τ':=[0]) [0] [0] (A1w s) ?_;refine Bs (Yk rfl rfl rfl rfl rfl rfl rfl rfl rfl rfl rfl rfl rfl rfl rfl hb rfl) ?_;rw[F5];exact Bz func316 rfl rfl
theorem A4f(s:Ad)(x:Ad)(hb:s.length+x.length≤100000000000):Hands X 316 [.ptr 0 0 0,str x] ⟨[[bA (.ptr 0 0 0) s]],[s.length]⟩ (.tup [vi x.length,.val .nilIface]) ⟨[[bA (.ptr 0 0 0) (s++x)]],[(s++x).length]⟩:=by
 refine Hands.run (n:=1) (m:=1) func316 ?_;refine Af (τ':=[0]) [0] [0] (A1x s) ?_;refine Bs (Yk rfl rfl rfl rfl rfl rfl rfl rfl rfl rfl rfl rfl rfl rfl rfl hb rfl) ?_;rw[F5];exact Bz func316 rfl rfl
theorem A4g(s:Ad) (ws:List Ad) (h:Int)(x:Ad)(hb:s.length+x.length≤100000000000):Hands X 316 [.ptr 0 0 0,str x] ⟨[[bQ (.tagN 312 0) s ws h]],[s.length]⟩ (.tup [vi x.length,.val .nilIface]) ⟨[[bQ (.ptr 0 0 0) (s++x) ws h]],[(s++x).length]⟩:=by
 refine Hands.run (n:=1) (m:=1) func316 ?_;refine Af (τ':=[0]) [0] [0] (A1z s ws h) ?_;refine Bs (Yk rfl rfl rfl rfl rfl rfl rfl rfl rfl rfl rfl rfl rfl rfl rfl hb rfl) ?_;rw[F5];exact Bz func316 rfl rfl
theorem A4h(s:Ad) (ws:List Ad) (h:Int)(x:Ad)(hb:s.length+x.length≤100000000000):Hands X 316 [.ptr 0 0 0,str x] ⟨[[bQ (.ptr 0 0 0) s ws h]],[s.length]⟩ (.tup [vi x.length,.val .nilIface]) ⟨[[bQ (.ptr 0 0 0) (s++x) ws h]],[(s++x).length]⟩:=by
 refine Hands.run (n:=1) (m:=1) func316 ?_;refine Af (τ':=[0]) [0] [0] (A10 s ws h) ?_;refine Bs (Yk rfl rfl rfl rfl rfl rfl rfl rfl rfl rfl rfl rfl rfl rfl rfl hb rfl) ?_;rw[F5];exact Bz func316 rfl rfl
theorem A0l:X.P.underlying 330=some (.pointer 5):=by kernel_rfl
theorem c5:X.P.cellsOf 5=1:=by kernel_rfl
theorem A3q(s:Ad)(hb:s.length≤100000000000):Hands X 267 [.ptr 0 0 0] ⟨[[bA (.tagN 310 0) s]],[s.length]⟩ (str s) ⟨[[bA (.tagN 310 0) s]],[s.length+1]⟩:=by
 refine Hands.run (n:=1) (m:=1) func267 ?_;refine Hb 1024 4 ?_;refine A4 (Vy rfl) ?_;refine C9 ?_ rfl;refine D6 (fun S'=>Yl) ?_;refine C4 (Yn c5 A0l rfl hb rfl) ?_;refine A0 ?_;refine Bu ?_;exact Bz func267 rfl rfl
theorem A3r(s:Ad)(hb:s.length≤100000000000):Hands X 267 [.ptr 0 0 0] ⟨[[bA (.ptr 0 0 0) s]],[s.length]⟩ (str s) ⟨[[bA (.ptr 0 0 0) s]],[s.length+1]⟩:=by
 refine Hands.run (n:=1) (m:=1) func267 ?_;refine Hb 1024 4 ?_;refine A4 (Vy rfl) ?_;refine C9 ?_ rfl;refine D6 (fun S'=>Yl) ?_;refine C4 (Yn c5 A0l rfl hb rfl) ?_;refine A0 ?_;refine Bu ?_;exact Bz func267 rfl rfl
theorem A3s(s:Ad) (h:Int)(hb:s.length≤100000000000):Hands X 267 [.ptr 0 0 0] ⟨[[bN (.tagN 312 0) s h]],[s.length]⟩ (str s) ⟨[[bN (.tagN 312 0) s h]],[s.length+1]⟩:=by
 refine Hands.run (n:=1) (m:=1) func267 ?_;refine Hb 1024 4 ?_;refine A4 (Vy rfl) ?_;refine C9 ?_ rfl;refine D6 (fun S'=>Yl) ?_;refine C4 (Yn c5 A0l rfl hb rfl) ?_;refine A0 ?_;refine Bu ?_;exact Bz func267 rfl rfl
theorem A3t(s:Ad) (h:Int)(hb:s.length≤100000000000):Hands X 267 [.ptr 0 0 0] ⟨[[bN (.ptr 0 0 0) s h]],[s.length]⟩ (str s) ⟨[[bN (.ptr 0 0 0) s h]],[s.length+1]⟩:=by
 refine Hands.run (n:=1) (m:=1) func267 ?_;refine Hb 1024 4 ?_;refine A4 (Vy rfl) ?_;refine C9 ?_ rfl;refine D6 (fun S'=>Yl) ?_;refine C4 (Yn c5 A0l rfl hb rfl) ?_;refine A0 ?_;refine Bu ?_;exact Bz func267 rfl rfl
def N7(te k:Nat):Bool→AV
 |true=>.tagN te k
 |false=>.ptr k 0 0
instance{n m te k:Nat}{b:Bool} [h:LtC k n]:OK n m (N7 te k b):=⟨by cases b;exact .ptr k 0 0 h.lt;exact .tagN te k h.lt⟩
instance{σ τ:List Nat}{te k k':Nat}{b:Bool} [h:IdxC σ k k']:RinC σ τ (N7 te k b) (N7 te k' b):=⟨by cases b;exact .ptr k k' 0 0 h.h;exact .tagN te k k' h.h⟩
instance{σ τ:List Nat}{te k k':Nat}{b:Bool} [h:GetC σ k' k]:RoutC σ τ (N7 te k b) (N7 te k' b):=⟨by cases b;exact .ptr k k' 0 0 h.h;exact .tagN te k k' h.h⟩
theorem wA(b:Bool)(s x:Ad)(hb:s.length+x.length≤100000000000):Hands X 316 [.ptr 0 0 0,str x] ⟨[[bA (N7 310 0 b) s]],[s.length]⟩ (.tup [vi x.length,.val .nilIface]) ⟨[[bA (.ptr 0 0 0) (s++x)]],[(s++x).length]⟩:=by
 cases b
 ·exact A4f s x hb
 ·exact A4e s x hb
theorem wQ(b:Bool)(s:Ad)(ws:List Ad)(h:Int)(x:Ad)(hb:s.length+x.length≤100000000000) :
 Hands X 316 [.ptr 0 0 0,str x] ⟨[[bQ (N7 312 0 b) s ws h]],[s.length]⟩ (.tup [vi x.length,.val .nilIface]) ⟨[[bQ (.ptr 0 0 0) (s++x) ws h]],[(s++x).length]⟩:=by
 cases b
 ·exact A4h s ws h x hb
 ·exact A4g s ws h x hb
theorem sA(b:Bool)(s:Ad)(hb:s.length≤100000000000):Hands X 267 [.ptr 0 0 0] ⟨[[bA (N7 310 0 b) s]],[s.length]⟩ (str s) ⟨[[bA (N7 310 0 b) s]],[s.length+1]⟩:=by
 cases b
 ·exact A3r s hb
 ·exact A3q s hb
theorem sN(b:Bool)(s:Ad)(h:Int)(hb:s.length≤100000000000):Hands X 267 [.ptr 0 0 0] ⟨[[bN (N7 312 0 b) s h]],[s.length]⟩ (str s) ⟨[[bN (N7 312 0 b) s h]],[s.length+1]⟩:=by
 cases b
 ·exact A3t s h hb
 ·exact A3s s h hb
abbrev Mh:List Ad:=[[59],[91],[93],[41]]
abbrev Mo:List Ad:=[[40],[91],[108,101,110],[32,45]]
def Ua(a b:Ad):Ad:=if has Mh b||has Mo a then[]else[32]
theorem A5t(a b:Ad):Pure X 338 [str a,str b] (str (Ua a b)):=by
 have h1:Pure X 344 [.sl (Eu Mh) .no,str b] (vb (has Mh b)):=Tq Mh b (by decide);have h2:Pure X 344 [.sl (Eu Mo) .no,str a] (vb (has Mo a)):=Tq Mo a (by decide);refine Pure.run func338 ?_;refine Aj h1 ?_;refine Db (fun h=>?_) (fun h=>?_)
 ·refine Ay ?_;refine Ao func338 ?_;rw[Ua,if_pos (by simp[h])]
 ·refine Aj h2 ?_;refine Ai (fun h3=>?_) (fun h3=>?_)
  ·have h3':has Mo a=true:=h3;refine Ao func338 ?_;rw[Ua,if_pos (by simp[h3'])]
  ·have h3':has Mo a=false:=h3;refine Ao func338 ?_;rw[Ua,if_neg (by simp[h,h3'])]
def Hu:Ad→List Ad→Ad
 |_,[]=>[]
 |a,b::ws=>Ua a b++Kq b [32]++Hu b ws
def P8:List Ad→Ad
 |[]=>[]
 |b::ws=>Kq b [32]++Hu b ws
def Aeg(ws:List Ad):Nat→Ad
 |0=>P8 ws
 |i+1=>Hu (ws.getD i []) (ws.drop (i+1))
theorem Anh{ws:List Ad}{i:Nat}{b:Ad}(h:ws[i]?=some b):Aeg ws i=(match i with|0=>[]|j+1=>Ua (ws.getD j []) b)++(Kq b [32]++Aeg ws (i+1)):=by
 cases i with
 |zero=>
  cases ws with
  |nil=>simp at h
  |cons c ws=>simp at h;subst h;simp[Aeg,P8]
 |succ i=>
  have hd:=Bp h;simp only[Aeg];rw[hd];simp only[Hu];rw[show ws.getD (i+1) []=b by simp[List.getD,h]];simp
theorem Ar2(ws:List Ad):Aeg ws ws.length=[]:=by
 cases h:ws.length with
 |zero=>rw[zzq84.1 h];rfl
 |succ n=>simp only[Aeg];rw[Aet (by omega)];rfl
theorem A2c(b:Bool)(s:Ad)(ws:List Ad)(h:Int)(hw:ws.length≤1000000)(hl:(P8 ws).length≤10000000000)(hwl:∀x,x∈ws→x.length≤1000000) :
 Hands X 318 [.ptr 0 0 0] ⟨[[bQ (N7 312 0 b) s ws h]],[s.length]⟩ (str (P8 ws)) ⟨[[bQ (N7 312 0 b) s ws h]],[s.length]⟩:=by
 refine Hands.mk (n:=1) (m:=1) func318 rfl rfl (by kernel_rfl) rfl rfl ?_;refine K9 1 100 rfl ?_;refine Ba 1 rfl ?_;refine Bs (Alx (y:=⟨2,.str [(0,1),(1,1)],[.val (.pointer none),.sl [] .tight],[false,false]⟩) (rest:=[]) 5 rfl rfl rfl rfl rfl rfl rfl rfl rfl) ?_;refine Ar (ι:=Nat×Ad×Bool) 2 2 (fun i=>i.1≤ws.length∧i.2.1++Aeg ws i.1=P8 ws) (fun i=>[(11,vi i.1),(10,vi ws.length),(9,.sl (Eu ws) .no),(3,.ptr 1 0 0),(0,.ptr 0 0 0)])
  (fun i=>⟨[[bQ (N7 312 0 b) s ws h],[[N7 310 1 i.2.2,.buf 5 i.2.1 1]]],[s.length,i.2.1.length]⟩) (fun i=>ws.length-i.1) ?_ (0,[],true) ⟨Cb _,rfl⟩ ⟨rfl,by rw[←Ft];rfl,rfl,rfl,rfl,trivial⟩
 rintro⟨i,out,c⟩ ⟨hi,hT⟩ IH;simp only at hi hT IH⊢;have hol:out.length≤10000000000:=by have:=congrArg List.length hT;simp at this;omega
 refine Cp (fun h1=>?_) (fun h1=>?_)
 ·have hlt:i<ws.length:=by have:=A6 h1;omega
  obtain⟨x,hx⟩:=Ab ws hlt;have hst:=Anh hx;have hxl:=hwl x (Bn hx);refine Bv i (by omega) (Rr hx) ?_;refine Ai (fun h2=>?_) (fun h2=>?_)
  ·obtain⟨j,rfl⟩:∃j,i=j+1:=⟨i-1,by have:=A6 h2;omega⟩
   obtain⟨a,ha⟩:=Ab ws (i:=j) (by omega);have hga:ws.getD j []=a:=by simp[List.getD,ha]
   simp only[hga]at hst;rw[hst]at hT;have hl2:=congrArg List.length hT;simp only[F5]at hl2;have hj:IntKind.i64.wrap (((j+1:Nat):Int)-1)=(j:Int):=(Ac (by omega) (by omega)).trans (by omega);refine Bv (IntKind.i64.wrap (((j+1:Nat):Int)-1)) (by rw[hj];omega) (by rw[hj];exact Rr ha) ?_;refine Aj (A5t a x) ?_;refine Af (τ':=[1]) [1] [1] (wA c out (Ua a x) (by omega)) ?_;refine Aj (Avp x [32] (by omega) (by simp)) ?_;refine Af (τ':=[1]) [1] [1] (wA false (out++Ua a x) (Kq x [32]) (by simp;omega)) ?_;exact IH (j+1+1,out++Ua a x++Kq x [32],false) ⟨hlt,by rw[←hT];simp⟩ (by simp only;omega) _ _ ⟨vsx (by omega),rfl,rfl,rfl,rfl,trivial⟩ rfl rfl rfl
  ·have hi0:i=0:=by have:=Bd h2;omega
   subst hi0;simp only[T8]at hst;rw[hst]at hT;have hl2:=congrArg List.length hT;simp only[F5]at hl2;refine Aj (Avp x [32] (by omega) (by simp)) ?_;refine Af (τ':=[1]) [1] [1] (wA c out (Kq x [32]) (by omega)) ?_;exact IH (0+1,out++Kq x [32],false) ⟨hlt,by rw[←hT];simp⟩ (by simp only;omega) _ _ ⟨vsx (by omega),rfl,rfl,rfl,rfl,trivial⟩ rfl rfl rfl
 ·have hie:i=ws.length:=by have:=Bd h1;omega
  subst hie;rw[Ar2,I4]at hT;subst hT;refine Af (τ':=[1]) [1] [1] (sA c (P8 ws) (by omega)) ?_;exact Bz func318 rfl rfl
def Ey(ws:List Ad)(h:Nat):Ad:=List.replicate (2*h) 32++P8 ws++[10]
theorem Pk(b:Bool)(s:Ad)(ws:List Ad)(h:Nat)(hh:h≤60)(hw:ws.length≤1000000)(hl:(P8 ws).length≤10000000000)(hs:s.length≤10000000000)(hwl:∀x,x∈ws→x.length≤1000000) :
 Hands X 299 [.ptr 0 0 0] ⟨[[bQ (N7 312 0 b) s ws h]],[s.length]⟩ (.tup []) ⟨[[bN (.ptr 0 0 0) (s++Ey ws h) h]],[(s++Ey ws h).length]⟩:=by
 have hlen:(Ey ws h).length≤20000000000:=by simp[Ey];omega
 refine Hands.run (n:=1) (m:=1) func299 ?_;refine Hb 4096 7 ?_;refine Hz (Avn h hh) ?_;refine C9 ?_ rfl;refine A4 (H0 (τ':=[0]) [0] [0] (A2c b s ws h hw hl hwl)) ?_;refine D6 (fun S'=>Se rfl rfl rfl rfl rfl (by simp;omega) rfl) ?_;refine D6 (fun S'=>Se rfl rfl rfl rfl rfl (by simp;omega) rfl) ?_;refine C4 (H0 (τ':=[0]) [0] [0] (wQ b s ws h (Ey ws h) (by omega))) ?_;refine Bu ?_;exact Ek func299 rfl rfl
theorem Ags:∀l:List Ad,Nt (Eu l)=true
 |[]=>rfl
 |s::l=>Ags l
theorem Aj7(b:Bool)(s:Ad)(ws xs:List Ad)(h:Int)(hw:ws.length+xs.length≤100000000000)(h0:Nat.ble 1 (Eu xs).length=true) :
 Hands X 294 [.ptr 0 0 0,.sl (Eu xs) .no] ⟨[[bP (N7 312 0 b) s ws h]],[s.length,ws.length]⟩ (.tup []) ⟨[[bP (N7 312 0 b) s (ws++xs) h]],[s.length,(ws++xs).length]⟩:=by
 refine Hands.run (n:=1) (m:=2) func294 ?_;refine Bs (Cn (res:=Eu (ws++xs)) rfl rfl rfl rfl rfl rfl rfl rfl rfl rfl rfl rfl rfl rfl (Ft _) (Acw _) (Acw _) (Ags _) h0 ?_ ?_ rfl) ?_
 ·rw[Ft,Ft];exact hw
 ·simp[Eu]
 rw[Ft,Ft,F5];exact Ek func294 rfl rfl
inductive PrN:Nd→Prop where
 |mk (k:Int) (s:List UInt8) (m:Int) (ks:List Nd) (hs:s.length≤8) (h0:-9223372036854775808≤m) (h1:m≤9223372036854775807) (hk:∀x,x∈ks→PrN x):PrN (.mk k s m ks)
def B6(n:Nd)(i:Nat):Nd:=n.kids.getD i Cm
theorem PrN.kid{n:Nd}(h:PrN n)(i:Nat):PrN (B6 n i):=by
 cases h with
 |mk k s m ks hs h0 h1 hk=>
  unfold B6;cases hx:ks[i]? with
  |none=>simp[Nd.kids,List.getD,hx];exact .mk 0 [] 0 [] (by simp) (by omega) (by omega) (fun x hx=>by cases hx)
  |some x=>simp[Nd.kids,List.getD,hx];exact hk x (Bn hx)
theorem Fc{l:List Nd}{x:Nd}(h:x∈l):Al x≤Bb l:=by
 induction l with
 |nil=>cases h
 |cons y l ih=>
  simp only[Bb];rcases zzq8.1 h with rfl|h
  ·omega
  ·have:=ih h;omega
theorem M8(n:Nd)(i:Nat):B6 n i∈n.kids∨B6 n i=Cm:=by
 unfold B6;cases hx:n.kids[i]? with
 |none=>right;simp[List.getD,hx]
 |some x=>left;simp[List.getD,hx];exact Bn hx
theorem Ad9(n:Nd)(i:Nat)(hi:i≤1000000000)(hl:n.kids.length≤4000000000):Pure X 297 [nd n,vi i] (nd (B6 n i)):=by
 by_cases h:i<n.kids.length
 ·obtain⟨x,hx⟩:=Ab n.kids h;have hk:B6 n i=x:=by simp[B6,List.getD,hx]
  rw[hk];refine Pure.run func297 ?_;refine Ah ?_ (ht:=by simp[Ae];omega);refine Bv i (by omega) (Ap hx) ?_;exact Ao func297 rfl
 ·have hk:B6 n i=Cm:=by simp[B6,List.getD,Oo (Nat.le_of_not_lt h)]
  rw[hk];refine Pure.run func297 ?_;refine Ay ?_ (ht:=by simp[Ae];omega);exact Ao func297 rfl
abbrev Mu:=List Ad
def eW(c:List (Int×Mu))(i:Nat):Mu:=(c.getD i (0,[])).2
def Pz(a b:Bool)(k:Int)(w:Mu):Mu:=if (a&&(k==6||k==7))||(b&&k==8)then[[40]]++w++[[41]]else w
def iW(c:List (Int×Mu))(i:Nat)(a b:Bool):Mu:=Pz a b (c.getD i (0,[])).1 (c.getD i (0,[])).2
def Gt(k:Int)(s:Ad)(m:Int)(c:List (Int×Mu)):Mu:=
 if k=1 then[Lib.itoa m]
 else if k=2 then[s]
 else if k=3 then[s,[91]]++eW c 0++[[93]]
 else if k=4 then[[108,101,110],[40],s,[41]]
 else if k=5 then[[32,45]]++iW c 0 true true
 else if k=6∨k=7 then eW c 0++[if k=6 then[43]else[45]]++iW c 1 true false
 else if k=8 then iW c 0 true false++[[42]]++iW c 1 true true
 else if 11≤k∧k≤16 then eW c 0++[Vn k]++eW c 1
 else[]
mutual
def A5:Nd→Mu
 |.mk k s m ks=>Gt k s m (B8 ks)
def B8:List Nd→List (Int×Mu)
 |[]=>[]
 |x::l=>(x.kind,A5 x)::B8 l
end
theorem Af5(l:List Nd):B8 l=l.map fun x=>(x.kind,A5 x):=by
 induction l with
 |nil=>rfl
 |cons x l ih=>simp[B8,ih]
theorem Afu:A5 Cm=[]:=rfl
theorem Af4(n:Nd)(i:Nat):(B8 n.kids).getD i (0,[])=((B6 n i).kind,A5 (B6 n i)):=by
 rw[Af5];unfold B6;cases hx:n.kids[i]? with
 |none=>simp[List.getD,hx,Afu];rfl
 |some x=>simp[List.getD,hx]
theorem Gi(n:Nd)(i:Nat):eW (B8 n.kids) i=A5 (B6 n i):=by rw[eW,Af4]
theorem Aan(n:Nd)(i:Nat)(a b:Bool):iW (B8 n.kids) i a b=Pz a b (B6 n i).kind (A5 (B6 n i)):=by rw[iW,Af4]
theorem Adj(n:Nd):A5 n=Gt n.kind n.name n.num (B8 n.kids):=by cases n;rfl
theorem Aka(ks:List Nd)(ih:∀x,x∈ks→(A5 x).length+2≤8*Al x):(eW (B8 ks) 0).length+(eW (B8 ks) 1).length+4≤8*Bb ks+4∧∀a b c d,(iW (B8 ks) 0 a b).length+(iW (B8 ks) 1 c d).length≤8*Bb ks:=by
 have hin:∀a b k w,(Pz a b k w).length≤w.length+2:=fun a b k w=>by unfold Pz;split<;>simp
 cases ks with
 |nil=>refine⟨by simp[eW,B8],fun a b c d=>by simp[iW,Pz,B8]⟩
 |cons x l=>
  have hx:=ih x (by simp);cases l with
  |nil=>
   refine⟨by simp[eW,B8,Bb];omega,fun a b c d=>?_⟩;have:=hin a b x.kind (A5 x);simp[iW,B8,Bb];have h2:(Pz c d 0 []).length=0:=by simp[Pz]
   rw[h2];omega
  |cons y l=>
   have hy:=ih y (by simp);refine⟨by simp[eW,B8,Bb];omega,fun a b c d=>?_⟩;have h1:=hin a b x.kind (A5 x);have h2:=hin c d y.kind (A5 y);simp[iW,B8,Bb];omega
theorem Aft(n:Nd):(A5 n).length+2≤8*Al n:=by
 induction n using Nd.ind with
 |h n ih=>
 have hc:=Co n;rw[Adj];obtain⟨h1,h2⟩:=Aka n.kids ih;have h3:=h2 true true true true;have h4:=h2 true false true true;have h5:(iW (B8 n.kids) 1 true false).length≤8*Bb n.kids-(eW (B8 n.kids) 0).length:=by
  have:=h2 false false true false;have e:iW (B8 n.kids) 0 false false=eW (B8 n.kids) 0:=by simp[iW,Pz,eW]
  rw[e]at this;omega
 unfold Gt
 repeat' split
 all_goals simp
 all_goals omega
abbrev PutC(r:A7)(xs:Mu):Prop:=∀(b:Bool)(s:Ad)(ws:Mu)(h:Int),ws.length≤1000000000 →
 Hands X 294 [.ptr 0 0 0,.sl r .no] ⟨[[bP (N7 312 0 b) s ws h]],[s.length,ws.length]⟩ (.tup []) ⟨[[bP (N7 312 0 b) s (ws++xs) h]],[s.length,(ws++xs).length]⟩
theorem Ju(x:Ad):PutC [[str x]] [x]:=fun b s ws h hw=>Aj7 b s ws [x] h (by simp;omega) rfl
theorem Arp(x y:Ad):PutC [[str x],[str y]] [x,y]:=fun b s ws h hw=>Aj7 b s ws [x,y] h (by simp;omega) rfl
theorem A6t(x y z:Ad):PutC [[str x],[str y],[str z]] [x,y,z]:=fun b s ws h hw=>Aj7 b s ws [x,y,z] h (by simp;omega) rfl
theorem A6u(x y z u:Ad):PutC [[str x],[str y],[str z],[str u]] [x,y,z,u]:=fun b s ws h hw=>Aj7 b s ws [x,y,z,u] h (by simp;omega) rfl
theorem A5p(x y z u v:Ad):PutC [[str x],[str y],[str z],[str u],[str v]] [x,y,z,u,v]:=fun b s ws h hw=>Aj7 b s ws [x,y,z,u,v] h (by simp;omega) rfl
def HE(n:Nd):Prop:=∀(b:Bool)(s:Ad)(ws:Mu)(h:Int),ws.length+(A5 n).length≤1000000 →
 Hands X 296 [.ptr 0 0 0,nd n] ⟨[[bP (N7 312 0 b) s ws h]],[s.length,ws.length]⟩ (.tup []) ⟨[[bP (N7 312 0 b) s (ws++A5 n) h]],[s.length,(ws++A5 n).length]⟩
theorem U3(n:Nd)(he:HE n)(c b:Bool)(s:Ad)(ws:Mu)(h:Int)(hw:ws.length+(Pz true c n.kind (A5 n)).length≤1000000) :
 Hands X 314 [.ptr 0 0 0,nd n,vb true,vb c] ⟨[[bP (N7 312 0 b) s ws h]],[s.length,ws.length]⟩ (.tup []) ⟨[[bP (N7 312 0 b) s (ws++Pz true c n.kind (A5 n)) h]],[s.length,(ws++Pz true c n.kind (A5 n)).length]⟩:=by
 refine Hands.run (n:=1) (m:=2) func314 ?_;refine Ep ?_;refine Db (fun h6=>?_) (fun h6=>?_)
 ·have h6':n.kind=6:=by simpa using h6
  refine Ep ?_;refine Ay ?_;have hI:Pz true c n.kind (A5 n)=[[40]]++A5 n++[[41]]:=by unfold Pz;rw[if_pos (by simp[h6'])]
  rw[hI]at hw⊢;simp at hw;refine Af (τ':=[0,1]) [0] [0,1] (Ju [40] b s ws h (by omega)) ?_;refine Af (τ':=[0,1]) [0] [0,1] (he b s (ws++[[40]]) h (by simp;omega)) ?_;refine Af (τ':=[0,1]) [0] [0,1] (Ju [41] b s (ws++[[40]]++A5 n) h (by simp;omega)) ?_;rw[←Gv,←Gv];exact Bz func314 rfl rfl
 have h6':n.kind≠6:=by simpa using h6
 refine Db (fun h7=>?_) (fun h7=>?_)
 ·have h7':n.kind=7:=by simpa using h7
  refine Ay ?_;have hI:Pz true c n.kind (A5 n)=[[40]]++A5 n++[[41]]:=by unfold Pz;rw[if_pos (by simp[h7'])]
  rw[hI]at hw⊢;simp at hw;refine Af (τ':=[0,1]) [0] [0,1] (Ju [40] b s ws h (by omega)) ?_;refine Af (τ':=[0,1]) [0] [0,1] (he b s (ws++[[40]]) h (by simp;omega)) ?_;refine Af (τ':=[0,1]) [0] [0,1] (Ju [41] b s (ws++[[40]]++A5 n) h (by simp;omega)) ?_;rw[←Gv,←Gv];exact Bz func314 rfl rfl
 have h7':n.kind≠7:=by simpa using h7
 cases c
 ·refine Gm ?_;refine Ah ?_;have hI:Pz true false n.kind (A5 n)=A5 n:=by unfold Pz;rw[if_neg (by simp[h6',h7'])]
  rw[hI]at hw⊢;refine Af (τ':=[0,1]) [0] [0,1] (he b s ws h (by omega)) ?_;exact Ek func314 rfl rfl
 ·refine Ep ?_;refine Ai (fun h8=>?_) (fun h8=>?_)
  ·have h8':n.kind=8:=by simpa using h8
   have hI:Pz true true n.kind (A5 n)=[[40]]++A5 n++[[41]]:=by unfold Pz;rw[if_pos (by simp[h8'])]
   rw[hI]at hw⊢;simp at hw;refine Af (τ':=[0,1]) [0] [0,1] (Ju [40] b s ws h (by omega)) ?_;refine Af (τ':=[0,1]) [0] [0,1] (he b s (ws++[[40]]) h (by simp;omega)) ?_;refine Af (τ':=[0,1]) [0] [0,1] (Ju [41] b s (ws++[[40]]++A5 n) h (by simp;omega)) ?_;rw[←Gv,←Gv];exact Bz func314 rfl rfl
  ·have h8':n.kind≠8:=by simpa using h8
   have hI:Pz true true n.kind (A5 n)=A5 n:=by unfold Pz;rw[if_neg (by simp[h6',h7',h8'])]
   rw[hI]at hw⊢;refine Af (τ':=[0,1]) [0] [0,1] (he b s ws h (by omega)) ?_;exact Ek func314 rfl rfl
theorem Att(k:Int)(s:Ad)(m:Int)(c:List (Int×Mu))(h:k≠1∧k≠2∧k≠3∧k≠4∧k≠5∧k≠6∧k≠7∧k≠8):Gt k s m c=if 11≤k∧k≤16 then eW c 0++[Vn k]++eW c 1 else[]:=by
 obtain⟨h1,h2,h3,h4,h5,h6,h7,h8⟩:=h;unfold Gt;rw[if_neg h1,if_neg h2,if_neg h3,if_neg h4,if_neg h5,if_neg (by simp[h6,h7]),if_neg h8]
theorem Ac6{X:Cx}{S:St}{F:Cw}{N:Nat}{ops:Array Oper}{i:Nat}{o:Oper}{t:TypeId}{ps:Array (Nat×Operand)}{vals:List (Nat×Value)}{cs:Array Value}(h:X.P.built t vals=some cs)(ho:ops[i]?=some o:=by rfl)(hw:Bc ops F o=some true:=by rfl)
 (hop:o.op=.build t ps:=by rfl)(hv:∀a:Act,ps.toList.map (fun x=>(x.1,a.eval x.2))=vals:=by intro a;rfl):Ndo X N ops i o F (.agg (cs.toList.map Iu)) S S:=by
 refine Dp ho hw fun F' E w a hc hI hF=>?_;refine⟨.agg cs,?_,.agg _ _ (by simp) fun j v x hv hx=>?_⟩
 ·have hrun:=run_build (P:=X.P) w t (ps.map fun x=>(x.1,a.eval x.2)) cs (by rw[Array.toList_map,hv a];exact h);simp[execOp,hop,hrun]
 ·simp[hv]at hx;subst hx;exact Nc v
theorem Ajp:X.P.built 337 [(0,.string ⟨#[43]⟩),(1,.string ⟨#[45]⟩)]=some #[.string ⟨#[43]⟩,.string ⟨#[45]⟩]:=by kernel_rfl
theorem Aoq(n:Nd)(hp:PrN n)(hsz:Al n≤100000)(ih:n.kind≠0→∀i,HE (B6 n i)):HE n:=by
 intro b s ws h hw;have hkl:n.kids.length≤4000000000:=by have:=Bq n.kids;have:=Co n;omega
 have q0:=Ad9 n 0 (by omega) hkl;have q1:=Ad9 n 1 (by omega) hkl;have hE:A5 n=Gt n.kind n.name n.num (B8 n.kids):=Adj n;rw[hE]at hw⊢;have pn:n.name.length≤8∧-9223372036854775808≤n.num∧n.num≤9223372036854775807:=by cases hp with|mk k s m ks hs h0 h1 hk=>exact⟨hs,h0,h1⟩
 refine Hands.run (n:=1) (m:=2) func296 ?_;refine Ai (fun h1=>?_) (fun h1=>?_)
 ·have h1':n.kind=1:=by simpa using h1
  have hT:Gt n.kind n.name n.num (B8 n.kids)=[Lib.itoa n.num]:=by unfold Gt;rw[if_pos h1']
  rw[hT]at hw⊢;refine Aj (Am4 n.num pn.2.1 pn.2.2) ?_;refine Af (τ':=[0,1]) [0] [0,1] (Ju (Lib.itoa n.num) b s ws h (by omega)) ?_;exact Ek func296 rfl rfl
 have h1':n.kind≠1:=by simpa using h1
 refine Ai (fun h2=>?_) (fun h2=>?_)
 ·have h2':n.kind=2:=by simpa using h2
  have hT:Gt n.kind n.name n.num (B8 n.kids)=[n.name]:=by unfold Gt;rw[if_neg h1',if_pos h2']
  rw[hT]at hw⊢;refine Af (τ':=[0,1]) [0] [0,1] (Ju n.name b s ws h (by omega)) ?_;exact Ek func296 rfl rfl
 have h2':n.kind≠2:=by simpa using h2
 refine Ai (fun h3=>?_) (fun h3=>?_)
 ·have h3':n.kind=3:=by simpa using h3
  have hT:Gt n.kind n.name n.num (B8 n.kids)=[n.name,[91]]++A5 (B6 n 0)++[[93]]:=by unfold Gt;rw[if_neg h1',if_neg h2',if_pos h3',Gi]
  rw[hT]at hw⊢;simp at hw;have e0:=ih (by omega) 0;refine Af (τ':=[0,1]) [0] [0,1] (Arp n.name [91] b s ws h (by omega)) ?_;refine Aj q0 ?_;refine Af (τ':=[0,1]) [0] [0,1] (e0 b s (ws++[n.name,[91]]) h (by simp;omega)) ?_;refine Af (τ':=[0,1]) [0] [0,1] (Ju [93] b s (ws++[n.name,[91]]++A5 (B6 n 0)) h (by simp;omega)) ?_;rw[←Gv,←Gv];exact Ek func296 rfl rfl
 have h3':n.kind≠3:=by simpa using h3
 refine Ai (fun h4=>?_) (fun h4=>?_)
 ·have h4':n.kind=4:=by simpa using h4
  have hT:Gt n.kind n.name n.num (B8 n.kids)=[[108,101,110],[40],n.name,[41]]:=by unfold Gt;rw[if_neg h1',if_neg h2',if_neg h3',if_pos h4']
  rw[hT]at hw⊢;refine Af (τ':=[0,1]) [0] [0,1] (A6u [108,101,110] [40] n.name [41] b s ws h (by omega)) ?_;exact Ek func296 rfl rfl
 have h4':n.kind≠4:=by simpa using h4
 refine Ai (fun h5=>?_) (fun h5=>?_)
 ·have h5':n.kind=5:=by simpa using h5
  have hT:Gt n.kind n.name n.num (B8 n.kids)=[[32,45]]++Pz true true (B6 n 0).kind (A5 (B6 n 0)):=by unfold Gt;rw[if_neg h1',if_neg h2',if_neg h3',if_neg h4',if_pos h5',Aan]
  rw[hT]at hw⊢;simp at hw;have e0:=ih (by omega) 0;refine Af (τ':=[0,1]) [0] [0,1] (Ju [32,45] b s ws h (by omega)) ?_;refine Aj q0 ?_;refine Af (τ':=[0,1]) [0] [0,1] (U3 (B6 n 0) e0 true b s (ws++[[32,45]]) h (by simp;omega)) ?_;rw[←Gv];exact Ek func296 rfl rfl
 have h5':n.kind≠5:=by simpa using h5
 refine Ai (fun h6=>?_) (fun h6=>?_)
 ·have h6':n.kind=6:=by simpa using h6
  have hT:Gt n.kind n.name n.num (B8 n.kids)=A5 (B6 n 0)++[[43]]++Pz true false (B6 n 1).kind (A5 (B6 n 1)):=by
   unfold Gt;rw[if_neg h1',if_neg h2',if_neg h3',if_neg h4',if_neg h5',if_pos (by simp[h6']),Gi,Aan];simp[h6']
  rw[hT]at hw⊢;simp at hw;have e0:=ih (by omega) 0;have e1:=ih (by omega) 1;refine Aj q0 ?_;refine Af (τ':=[0,1]) [0] [0,1] (e0 b s ws h (by omega)) ?_;refine Bs (Ac6 Ajp) ?_;have hwk:IntKind.i64.wrap (n.kind-6)=0:=by rw[h6'];rfl
  refine Bs (Xp (n:=IntKind.i64.wrap (n.kind-6)) (x:=str [43]) rfl rfl rfl rfl rfl rfl rfl rfl rfl (by omega) (by omega) (by rw[hwk];rfl)) ?_;refine Af (τ':=[0,1]) [0] [0,1] (Ju [43] b s (ws++A5 (B6 n 0)) h (by simp;omega)) ?_;refine Aj q1 ?_;refine Af (τ':=[0,1]) [0] [0,1] (U3 (B6 n 1) e1 false b s (ws++A5 (B6 n 0)++[[43]]) h (by simp;omega)) ?_;rw[←Gv,←Gv];exact Ek func296 rfl rfl
 have h6':n.kind≠6:=by simpa using h6
 refine Ai (fun h7=>?_) (fun h7=>?_)
 ·have h7':n.kind=7:=by simpa using h7
  have hT:Gt n.kind n.name n.num (B8 n.kids)=A5 (B6 n 0)++[[45]]++Pz true false (B6 n 1).kind (A5 (B6 n 1)):=by
   unfold Gt;rw[if_neg h1',if_neg h2',if_neg h3',if_neg h4',if_neg h5',if_pos (by simp[h7']),Gi,Aan];simp[h7']
  rw[hT]at hw⊢;simp at hw;have e0:=ih (by omega) 0;have e1:=ih (by omega) 1;refine Aj q0 ?_;refine Af (τ':=[0,1]) [0] [0,1] (e0 b s ws h (by omega)) ?_;refine Bs (Ac6 Ajp) ?_;have hwk:IntKind.i64.wrap (n.kind-6)=1:=by rw[h7'];rfl
  refine Bs (Xp (n:=IntKind.i64.wrap (n.kind-6)) (x:=str [45]) rfl rfl rfl rfl rfl rfl rfl rfl rfl (by omega) (by omega) (by rw[hwk];rfl)) ?_;refine Af (τ':=[0,1]) [0] [0,1] (Ju [45] b s (ws++A5 (B6 n 0)) h (by simp;omega)) ?_;refine Aj q1 ?_;refine Af (τ':=[0,1]) [0] [0,1] (U3 (B6 n 1) e1 false b s (ws++A5 (B6 n 0)++[[45]]) h (by simp;omega)) ?_;rw[←Gv,←Gv];exact Ek func296 rfl rfl
 have h7':n.kind≠7:=by simpa using h7
 refine Ai (fun h8=>?_) (fun h8=>?_)
 ·have h8':n.kind=8:=by simpa using h8
  have hT:Gt n.kind n.name n.num (B8 n.kids)=Pz true false (B6 n 0).kind (A5 (B6 n 0))++[[42]]++Pz true true (B6 n 1).kind (A5 (B6 n 1)):=by
   unfold Gt;rw[if_neg h1',if_neg h2',if_neg h3',if_neg h4',if_neg h5',if_neg (by simp[h6',h7']),if_pos h8',Aan,Aan]
  rw[hT]at hw⊢;simp at hw;have e0:=ih (by omega) 0;have e1:=ih (by omega) 1;refine Aj q0 ?_;refine Af (τ':=[0,1]) [0] [0,1] (U3 (B6 n 0) e0 false b s ws h (by omega)) ?_;refine Af (τ':=[0,1]) [0] [0,1] (Ju [42] b s (ws++Pz true false (B6 n 0).kind (A5 (B6 n 0))) h (by simp;omega)) ?_;refine Aj q1 ?_;refine Af (τ':=[0,1]) [0] [0,1] (U3 (B6 n 1) e1 true b s (ws++Pz true false (B6 n 0).kind (A5 (B6 n 0))++[[42]]) h (by simp;omega)) ?_;rw[←Gv,←Gv];exact Ek func296 rfl rfl
 have h8':n.kind≠8:=by simpa using h8
 have hlo:=Att n.kind n.name n.num (B8 n.kids) ⟨h1',h2',h3',h4',h5',h6',h7',h8'⟩;refine Ai (fun h11=>?_) (fun h11=>?_)
 ·have hk:n.kind=11:=by simpa using h11
  have hT:Gt n.kind n.name n.num (B8 n.kids)=A5 (B6 n 0)++[[60]]++A5 (B6 n 1):=by
   rw[hlo,if_pos (by omega),Gi,Gi,hk];rfl
  rw[hT]at hw⊢;simp at hw;have e0:=ih (by omega) 0;have e1:=ih (by omega) 1;refine Aj q0 ?_;refine Af (τ':=[0,1]) [0] [0,1] (e0 b s ws h (by omega)) ?_;have hwk:IntKind.i64.wrap (n.kind-11)=0:=by rw[hk];rfl
  refine Bs (M3 (n:=IntKind.i64.wrap (n.kind-11)) (r:=str [60]::condG.drop 1) rfl rfl rfl rfl rfl rfl rfl rfl (by rw[hwk];omega) (by rw[hwk];omega) (by rw[hwk];decide) (by rw[hwk];rfl)) ?_;refine Af (τ':=[0,1]) [0] [0,1] (Ju [60] b s (ws++A5 (B6 n 0)) h (by simp;omega)) ?_;refine Aj q1 ?_;refine Af (τ':=[0,1]) [0] [0,1] (e1 b s (ws++A5 (B6 n 0)++[[60]]) h (by simp;omega)) ?_;rw[←Gv,←Gv];exact Ek func296 rfl rfl
 have h11':n.kind≠11:=by simpa using h11
 refine Ai (fun h12=>?_) (fun h12=>?_)
 ·have hk:n.kind=12:=by simpa using h12
  have hT:Gt n.kind n.name n.num (B8 n.kids)=A5 (B6 n 0)++[[60,61]]++A5 (B6 n 1):=by
   rw[hlo,if_pos (by omega),Gi,Gi,hk];rfl
  rw[hT]at hw⊢;simp at hw;have e0:=ih (by omega) 0;have e1:=ih (by omega) 1;refine Aj q0 ?_;refine Af (τ':=[0,1]) [0] [0,1] (e0 b s ws h (by omega)) ?_;have hwk:IntKind.i64.wrap (n.kind-11)=1:=by rw[hk];rfl
  refine Bs (M3 (n:=IntKind.i64.wrap (n.kind-11)) (r:=str [60,61]::condG.drop 2) rfl rfl rfl rfl rfl rfl rfl rfl (by rw[hwk];omega) (by rw[hwk];omega) (by rw[hwk];decide) (by rw[hwk];rfl)) ?_;refine Af (τ':=[0,1]) [0] [0,1] (Ju [60,61] b s (ws++A5 (B6 n 0)) h (by simp;omega)) ?_;refine Aj q1 ?_;refine Af (τ':=[0,1]) [0] [0,1] (e1 b s (ws++A5 (B6 n 0)++[[60,61]]) h (by simp;omega)) ?_;rw[←Gv,←Gv];exact Ek func296 rfl rfl
 have h12':n.kind≠12:=by simpa using h12
 refine Ai (fun h13=>?_) (fun h13=>?_)
 ·have hk:n.kind=13:=by simpa using h13
  have hT:Gt n.kind n.name n.num (B8 n.kids)=A5 (B6 n 0)++[[62]]++A5 (B6 n 1):=by
   rw[hlo,if_pos (by omega),Gi,Gi,hk];rfl
  rw[hT]at hw⊢;simp at hw;have e0:=ih (by omega) 0;have e1:=ih (by omega) 1;refine Aj q0 ?_;refine Af (τ':=[0,1]) [0] [0,1] (e0 b s ws h (by omega)) ?_;have hwk:IntKind.i64.wrap (n.kind-11)=2:=by rw[hk];rfl
  refine Bs (M3 (n:=IntKind.i64.wrap (n.kind-11)) (r:=str [62]::condG.drop 3) rfl rfl rfl rfl rfl rfl rfl rfl (by rw[hwk];omega) (by rw[hwk];omega) (by rw[hwk];decide) (by rw[hwk];rfl)) ?_;refine Af (τ':=[0,1]) [0] [0,1] (Ju [62] b s (ws++A5 (B6 n 0)) h (by simp;omega)) ?_;refine Aj q1 ?_;refine Af (τ':=[0,1]) [0] [0,1] (e1 b s (ws++A5 (B6 n 0)++[[62]]) h (by simp;omega)) ?_;rw[←Gv,←Gv];exact Ek func296 rfl rfl
 have h13':n.kind≠13:=by simpa using h13
 refine Ai (fun h14=>?_) (fun h14=>?_)
 ·have hk:n.kind=14:=by simpa using h14
  have hT:Gt n.kind n.name n.num (B8 n.kids)=A5 (B6 n 0)++[[62,61]]++A5 (B6 n 1):=by
   rw[hlo,if_pos (by omega),Gi,Gi,hk];rfl
  rw[hT]at hw⊢;simp at hw;have e0:=ih (by omega) 0;have e1:=ih (by omega) 1;refine Aj q0 ?_;refine Af (τ':=[0,1]) [0] [0,1] (e0 b s ws h (by omega)) ?_;have hwk:IntKind.i64.wrap (n.kind-11)=3:=by rw[hk];rfl
  refine Bs (M3 (n:=IntKind.i64.wrap (n.kind-11)) (r:=str [62,61]::condG.drop 4) rfl rfl rfl rfl rfl rfl rfl rfl (by rw[hwk];omega) (by rw[hwk];omega) (by rw[hwk];decide) (by rw[hwk];rfl)) ?_;refine Af (τ':=[0,1]) [0] [0,1] (Ju [62,61] b s (ws++A5 (B6 n 0)) h (by simp;omega)) ?_;refine Aj q1 ?_;refine Af (τ':=[0,1]) [0] [0,1] (e1 b s (ws++A5 (B6 n 0)++[[62,61]]) h (by simp;omega)) ?_;rw[←Gv,←Gv];exact Ek func296 rfl rfl
 have h14':n.kind≠14:=by simpa using h14
 refine Ai (fun h15=>?_) (fun h15=>?_)
 ·have hk:n.kind=15:=by simpa using h15
  have hT:Gt n.kind n.name n.num (B8 n.kids)=A5 (B6 n 0)++[[61,61]]++A5 (B6 n 1):=by
   rw[hlo,if_pos (by omega),Gi,Gi,hk];rfl
  rw[hT]at hw⊢;simp at hw;have e0:=ih (by omega) 0;have e1:=ih (by omega) 1;refine Aj q0 ?_;refine Af (τ':=[0,1]) [0] [0,1] (e0 b s ws h (by omega)) ?_;have hwk:IntKind.i64.wrap (n.kind-11)=4:=by rw[hk];rfl
  refine Bs (M3 (n:=IntKind.i64.wrap (n.kind-11)) (r:=str [61,61]::condG.drop 5) rfl rfl rfl rfl rfl rfl rfl rfl (by rw[hwk];omega) (by rw[hwk];omega) (by rw[hwk];decide) (by rw[hwk];rfl)) ?_;refine Af (τ':=[0,1]) [0] [0,1] (Ju [61,61] b s (ws++A5 (B6 n 0)) h (by simp;omega)) ?_;refine Aj q1 ?_;refine Af (τ':=[0,1]) [0] [0,1] (e1 b s (ws++A5 (B6 n 0)++[[61,61]]) h (by simp;omega)) ?_;rw[←Gv,←Gv];exact Ek func296 rfl rfl
 have h15':n.kind≠15:=by simpa using h15
 refine Ai (fun h16=>?_) (fun h16=>?_)
 ·have hk:n.kind=16:=by simpa using h16
  have hT:Gt n.kind n.name n.num (B8 n.kids)=A5 (B6 n 0)++[[33,61]]++A5 (B6 n 1):=by
   rw[hlo,if_pos (by omega),Gi,Gi,hk];rfl
  rw[hT]at hw⊢;simp at hw;have e0:=ih (by omega) 0;have e1:=ih (by omega) 1;refine Aj q0 ?_;refine Af (τ':=[0,1]) [0] [0,1] (e0 b s ws h (by omega)) ?_;have hwk:IntKind.i64.wrap (n.kind-11)=5:=by rw[hk];rfl
  refine Bs (M3 (n:=IntKind.i64.wrap (n.kind-11)) (r:=str [33,61]::condG.drop 6) rfl rfl rfl rfl rfl rfl rfl rfl (by rw[hwk];omega) (by rw[hwk];omega) (by rw[hwk];decide) (by rw[hwk];rfl)) ?_;refine Af (τ':=[0,1]) [0] [0,1] (Ju [33,61] b s (ws++A5 (B6 n 0)) h (by simp;omega)) ?_;refine Aj q1 ?_;refine Af (τ':=[0,1]) [0] [0,1] (e1 b s (ws++A5 (B6 n 0)++[[33,61]]) h (by simp;omega)) ?_;rw[←Gv,←Gv];exact Ek func296 rfl rfl
 have h16':n.kind≠16:=by simpa using h16
 have hT:Gt n.kind n.name n.num (B8 n.kids)=[]:=by rw[hlo,if_neg (by omega)]
 rw[hT,I4];exact Ek func296 rfl rfl
theorem A48:HE Cm:=Aoq Cm (.mk 0 [] 0 [] (by simp) (by omega) (by omega) (fun x hx=>by cases hx)) (by decide) fun h=>absurd rfl h
theorem Ah9(n:Nd)(hp:PrN n)(hsz:Al n≤100000):HE n:=by
 induction n using Nd.ind with
 |h n ih=>
  refine Aoq n hp hsz fun _ i=>?_;rcases M8 n i with h|h
  ·have hc:=Fc h;have:=Co n;exact ih _ h (hp.kid i) (by omega)
  ·rw[h];exact A48
end Go.V
