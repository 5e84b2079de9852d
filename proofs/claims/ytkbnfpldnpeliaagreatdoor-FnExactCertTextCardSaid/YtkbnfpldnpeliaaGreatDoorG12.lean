/- A part of the proof of the claim that the last text states: no condition of its own. -/
import Derived.Test.YtkbnfpldnpeliaaGreatDoorG11
set_option linter.unusedVariables false
set_option linter.unusedSimpArgs false
namespace Go.V
open Go Go.Proofs
theorem bN_in1 (b:Bool)(s:List UInt8)(h:Int):RinB [1] [0] [[bN (adr 270 1 b) s h]] [[bN (adr 270 0 b) s h]] :=
 have h1:RinC [1] [0] (adr 270 1 b) (adr 270 0 b):=inferInstance
 have h2:RinC [1] [0] (.buf 5 s 0) (.buf 5 s 0):=inferInstance
 have h3:Ren true [1] [0] (.sl [] .tight) (.sl [] .tight):=Ren_sl .nil (.inr (.inr (.inr (.inl ⟨rfl,rfl⟩))))
 have h4:RinC [1] [0] (vi h) (vi h):=inferInstance
 ⟨.cons (.cons (.cons h1.s (.cons h2.s (.cons h3 (.cons h4.s .nil)))) .nil) .nil⟩
theorem parseS_at {s:List UInt8}(h:(parseS s).2.1=0):(parseS s).2.2=0:=by
 unfold parseS at h ⊢
 split at h
 ·rename_i h0
  rw [if_pos h0]
  split at h
  ·simp at h
  ·rename_i hb
   rw [if_neg hb]
   split at h
   ·simp at h
   ·rename_i hl
    rw [if_neg hl]
 ·rename_i h0
  exact absurd h h0
theorem parseS_count (s:List UInt8):countN (parseS s).1≤500:=by
 unfold parseS
 split
 ·split
  ·show countN nd0≤500;decide
  ·split
   ·show countN nd0≤500;decide
   ·rename_i h;simp only;omega
 ·show countN nd0≤500;decide
inductive PrI:Nd→Prop where
 | mk (k:Int) (s:List UInt8) (m:Int) (ks:List Nd) (h0:-9223372036854775808≤m) (h1:m≤9223372036854775807) (hk:∀ x,x∈ks→PrI x):PrI (.mk k s m ks)
theorem PrI.short {n:Nd}(h:PrI n)(hl:longN n=false):PrN n:=by
 induction h with
 | mk k s m ks h0 h1 hk ih =>
   rw [longN_eq,Bool.or_eq_false_iff] at hl
   obtain ⟨h2,h3⟩:=hl
   simp only [List.any_eq_false] at h3
   exact .mk k s m ks (by have:=of_decide_eq_false h2;simp at this;omega) h0 h1 fun x hx=>ih x hx (by have:=h3 x hx;simpa using this)
theorem nrows_dropLast (l:List Nd):((nrows l).take (l.length-1)).drop 0=nrows l.dropLast:=by
 rw [nrows_map,nrows_map,List.drop_zero,← List.map_take,List.dropLast_eq_take]
set_option maxHeartbeats 1000000 in
theorem q_printed (n:Nd)(hn:countN n≤1000000000)(hnum:PrI n):Pure X 186 [nd n] (.tup [str (printedS n).1,vb (printedS n).2]):=by
 have hcn:=countN_eq n
 have hll:=length_le_countL n.kids
 have hfl:flatTy X.P 182=some [0,0]:=by kernel_rfl
 refine Pure.run Tryz.func186 ?_
 refine AK.pc (q_isLarge n (by omega)) ?_
 refine AK.gd (fun h1=>?_) (fun h1=>?_)
 ·have h1':largeN n=true:=h1
  refine AK.gy ?_
  refine AK.yes ?_
  have hP:printedS n=([],false):=by unfold printedS;rw [if_pos (by simp [h1'])]
  rw [hP]
  exact AK.rz Tryz.func186 rfl
 have h1':largeN n=false:=h1
 refine AK.gd (fun h2=>?_) (fun h2=>?_)
 ·have h2':n.kids.isEmpty=true:=by
   rw [nrows_len] at h2
   simp at h2;simp [h2]
  refine AK.yes ?_
  have hP:printedS n=([],false):=by unfold printedS;rw [if_pos (by simp [h2'])]
  rw [hP]
  exact AK.rz Tryz.func186 rfl
 have h2':n.kids.isEmpty=false:=by
  rw [nrows_len] at h2
  simp at h2;simpa using h2
 refine AK.pc (q_long n hn) ?_
 refine AK.if_ (fun h3=>?_) (fun h3=>?_)
 ·have h3':longN n=true:=h3
  have hP:printedS n=([],false):=by unfold printedS;rw [if_pos (by simp [h3'])]
  rw [hP]
  exact AK.rz Tryz.func186 rfl
 have h3':longN n=false:=h3
 have hsm:countN n≤500∧depthN n≤24:=by
  simp only [largeN,decide_eq_false_iff_not] at h1'
  omega
 have hp:PrN n:=hnum.short h3'
 have hkne:n.kids≠[]:=by intro e;rw [e] at h2';simp at h2'
 have hpos:0<n.kids.length:=List.length_pos_iff.2 hkne
 obtain ⟨lst,hlst⟩:=lget_of_lt n.kids (i:=n.kids.length-1) (by omega)
 have hL:n.kids.getLastD nd0=lst:=by
  rw [List.getLastD_eq_getLast?,List.getLast?_eq_getElem?,hlst];rfl
 have hlm:lst∈n.kids:=List.mem_of_getElem? hlst
 have hlp:=hp.get.2.2.2 lst hlm
 have hdn:=depthN_eq n
 have hlc:=countL_mem hlm
 have hlcn:=countN_eq lst
 have hw1:IntKind.i64.wrap (((nrows n.kids).length:Int)-1)=((n.kids.length-1:Nat):Int):=by rw [nrows_len];exact (wrap_small (by omega) (by omega)).trans (by omega)
 have hP:printedS n=(prtT n,!(prtT n==[])&&((parseS (prtT n)).2.1==0&&sameN (parseS (prtT n)).1 n)):=by unfold printedS;rw [if_neg (by simp [h1',h2',h3'])]
 have hT:prtT n=outL n.kids.dropLast 0++outL lst.kids 0:=by rw [prtT,hL]
 have hS1:∀ x,x∈n.kids.dropLast→HS x∧0+depthN x≤60∧(outS x 0).length≤1000*countN x:=fun x hx=>by
  have hm:=(List.dropLast_sublist _).subset hx
  have h1:=countL_mem hm
  have h2:=depth_mem hm
  have hx':=hp.get.2.2.2 x hm
  exact ⟨(h_stmts x hx' (by omega)).1,by omega,outS_le x 0 hx' (by omega)⟩
 have hS2:∀ x,x∈lst.kids→HS x∧0+depthN x≤60∧(outS x 0).length≤1000*countN x:=fun x hx=>by
  have h1:=countL_mem hx
  have h2:=depth_mem hx
  have h3:=depth_mem hlm
  have h4:=depthN_eq lst
  have hx':=hlp.get.2.2.2 x hx
  exact ⟨(h_stmts x hx' (by omega)).1,by omega,outS_le x 0 hx' (by omega)⟩
 have hcd:countL n.kids.dropLast≤countL n.kids:=by rw [List.dropLast_eq_take];exact countL_le
 have hb1:=outL_le (l:=n.kids.dropLast) (h:=0) fun x hx=>(hS1 x hx).2.2
 have hb2:=outL_le (l:=lst.kids) (h:=0) fun x hx=>(hS2 x hx).2.2
 have hTl:(prtT n).length≤1000000:=by rw [hT];simp;omega
 have hdl:n.kids.dropLast.length≤1000:=by rw [List.length_dropLast];omega
 have hll2:=length_le_countL lst.kids
 rw [hP]
 refine AK.dn 2 0 ?_
 refine Drv.ru (fun S'=>Ndo.buildZ (cs:=[.pointer none,.slice none 0 0,.slice none 0 0,.int .i64 0]) rfl rfl rfl rfl rfl rfl) ?_
 refine Drv.w (Ndo.boxB 5 rfl rfl rfl rfl rfl rfl rfl rfl) ?_
 refine Drv.e ?_
 refine Drv.look (strip_eq (Ndo.ev rfl rfl rfl) (strip_eq (Ndo.ev rfl rfl rfl) allN)) rfl ?_
 refine Drv.e ?_
 refine Drv.e ?_
 refine Drv.e ?_
 refine Drv.e ?_
 refine Drv.z ?_
 refine AK.as_ 5 (vi (n.kids.length-1:Nat)) ?_ (vint hw1)
 refine AK.as_ 33 (vi (n.kids.length-1:Nat)) ?_ (vint hw1)
 refine AK.op (Ndo.cut (l:=0) (h:=((n.kids.length-1:Nat):Int)) (r:=nrows n.kids.dropLast) rfl rfl rfl rfl rfl rfl rfl rfl rfl (by omega) (by omega) (by rw [nrows_len];omega) (nrows_al _) (by rw [Int.toNat_natCast];exact nrows_dropLast _)) ?_
 refine AK.while_ (ι:=Nat × List UInt8 × Bool) 2 1 (fun i=>i.1≤n.kids.dropLast.length∧i.2.1++outL (n.kids.dropLast.drop i.1) 0=outL n.kids.dropLast 0)
  (fun i=>[(36,vi i.1),(35,vi n.kids.dropLast.length),(34,.sl (nrows n.kids.dropLast) .no),(4,.ptr 1 0 0),(1,.ptr 0 0 0),(5,vi (n.kids.length-1:Nat))])
  (fun i=>⟨[[ncells n],[bN (adr 270 1 i.2.2) i.2.1 0]],[i.2.1.length]⟩) (fun i=>n.kids.dropLast.length-i.1) ?_ (0,[],true) ⟨Nat.zero_le _,rfl⟩ ⟨rfl,by rw [← nrows_len n.kids.dropLast];rfl,rfl,rfl,rfl,rfl,trivial⟩ rfl rfl rfl rfl rfl
  (fun _=>inferInstance) (fun _=>inferInstance)
 rintro ⟨i,out,c⟩ ⟨hi,hO⟩ IH
 simp only at hi hO IH ⊢
 have hol:=congrArg List.length hO
 simp only [List.length_append] at hol
 refine AK.ev 100 rfl ?_
 refine AK.if_ (fun g1=>?_) (fun g1=>?_)
 ·have hlt:i<n.kids.dropLast.length:=by have:=of_decide_eq_true g1;omega
  obtain ⟨y,hy⟩:=lget_of_lt n.kids.dropLast hlt
  obtain ⟨hs1,hs2,hs3⟩:=hS1 y (List.mem_of_getElem? hy)
  rw [drop_cons hy] at hO hol
  simp only [outL,List.length_append] at hO hol
  refine AK.ix i (by omega) (nrows_get hy) ?_
  refine AK.hc (hb:=bN_in1 c out 0) (τ':=[0]) [1] [0] (hs1 c out 0 hs2 (by omega)) ?_
  exact IH (i+1,out++outS y 0,false) ⟨hlt,by simpa using hO⟩ (by simp only;omega) _ _ ⟨vint ((wrap_small (by omega) (by omega)).trans (by omega)),rfl,rfl,rfl,rfl,rfl,trivial⟩ rfl rfl rfl
 have hie:i=n.kids.dropLast.length:=by have:=of_decide_eq_false g1;omega
 subst hie
 rw [List.drop_eq_nil_of_le (Nat.le_refl _)] at hO
 simp only [outL,List.append_nil] at hO
 subst hO
 refine AK.ix ((n.kids.length-1:Nat):Int) (by omega) (by rw [Int.toNat_natCast];exact nrows_get hlst) ?_
 refine AK.while_ (ι:=Nat × List UInt8 × Bool) 2 1 (fun i=>i.1≤lst.kids.length∧i.2.1++outL (lst.kids.drop i.1) 0=prtT n)
  (fun i=>[(51,vi i.1),(50,vi lst.kids.length),(49,.sl (nrows lst.kids) .no),(4,.ptr 1 0 0),(1,.ptr 0 0 0)])
  (fun i=>⟨[[ncells n],[bN (adr 270 1 i.2.2) i.2.1 0]],[i.2.1.length]⟩) (fun i=>lst.kids.length-i.1) ?_ (0,outL n.kids.dropLast 0,c) ⟨Nat.zero_le _,hT.symm⟩ ⟨rfl,by rw [← nrows_len lst.kids];rfl,rfl,rfl,rfl,trivial⟩ rfl rfl rfl rfl rfl
  (fun _=>inferInstance) (fun _=>inferInstance)
 rintro ⟨i,out,c⟩ ⟨hi,hO⟩ IH
 simp only at hi hO IH ⊢
 have hol:=congrArg List.length hO
 simp only [List.length_append] at hol
 refine AK.ev 100 rfl ?_
 refine AK.if_ (fun g1=>?_) (fun g1=>?_)
 ·have hlt:i<lst.kids.length:=by have:=of_decide_eq_true g1;omega
  obtain ⟨y,hy⟩:=lget_of_lt lst.kids hlt
  obtain ⟨hs1,hs2,hs3⟩:=hS2 y (List.mem_of_getElem? hy)
  rw [drop_cons hy] at hO hol
  simp only [outL,List.length_append] at hO hol
  refine AK.ix i (by omega) (nrows_get hy) ?_
  refine AK.hc (hb:=bN_in1 c out 0) (τ':=[0]) [1] [0] (hs1 c out 0 hs2 (by omega)) ?_
  exact IH (i+1,out++outS y 0,false) ⟨hlt,by simpa using hO⟩ (by simp only;omega) _ _ ⟨vint ((wrap_small (by omega) (by omega)).trans (by omega)),rfl,rfl,rfl,rfl,trivial⟩ rfl rfl rfl
 have hie:i=lst.kids.length:=by have:=of_decide_eq_false g1;omega
 subst hie
 rw [List.drop_eq_nil_of_le (Nat.le_refl _)] at hO
 simp only [outL,List.append_nil] at hO
 subst hO
 generalize prtT n=out at *
 have hpc:=parseS_count out
 have hpa:=parseS_at (s:=out)
 refine AK.hc (hb:=bN_in1 c out 0) (τ':=[0]) [1] [0] (sN c out 0 (by omega)) ?_
 refine AK.pc (q_parse out (by omega)) ?_
 generalize parseS out=T at hpc hpa ⊢
 obtain ⟨m,cd,at_⟩:=T
 simp only at hpc hpa ⊢
 refine AK.gd (fun g1=>?_) (fun g1=>?_)
 ·have g1':(out==[])=false:=by have:(!(out==[]))=true:=g1;simpa using this
  rw [g1',Bool.not_false,Bool.true_and]
  refine AK.op (Ndo.eqs (r:=((cd==0)&&((at_==0)&&true))) rfl rfl rfl rfl rfl hfl rfl (.inl ⟨rfl,rfl⟩)) ?_
  refine AK.gd (fun g2=>?_) (fun g2=>?_)
  ·have g2':cd=0:=by simp at g2;exact g2.1
   refine AK.pc (q_same m n (by omega) hn) ?_
   refine AK.rz Tryz.func186 ?_
   simp [g2']
  ·have g2':¬ cd=0:=by
    intro h0
    have:=hpa h0
    simp [h0,this] at g2
   refine AK.rz Tryz.func186 ?_
   simp [g2']
 ·have g1':(out==[])=true:=by have:(!(out==[]))=false:=g1;simpa using this
  refine AK.gn ?_
  refine AK.rz Tryz.func186 ?_
  simp [g1']
theorem q_progOk (n:Nd)(hn:countN n≤1000000000)(hnum:PrI n):Pure X 137 [nd n] (vb (progOkS n)):=by
 refine Pure.run Tryz.func137 ?_
 refine AK.pc (q_printed n hn hnum) ?_
 refine AK.rz Tryz.func137 ?_
 rw [(printed_ok n).1]
end Go.V
namespace Go.V
open Go
section
variable {X:Cx}{B:Bx}{E E1:Env}{S S1:St}{w w':World}{F:Frm}{a:Act}{N:Nat}{R:AE→St→Prop}{ops:Array Oper}{i:Nat}{o:Oper}
theorem AK.retK {k:List Item}{xs:List AV}(hf:X.P.funcs[B.f]?=some B.fn)(hR:R (.ret (retA xs)) S)(h:resF X F S B.fn.results.toList=some xs:=by rfl):AK X B (.code .ret::k) F S R:=by
 intro E w a b cs hI hF hn hm hb
 obtain ⟨v,h1,h2⟩:=results_sound hI hF h
 have nt:E.toks.length=S.toks.length:=by rw [← hI.nt];simp
 refine .inl ⟨.returned v,w,{ b.at a (.code .ret::k) with mode:=.returning },⟨E,S,hI,Evol.refl _ _ _ _,_,h2,hR⟩,.one step_ret,hb,⟨rfl,hF.nod,rfl,B.fn,by rw [← hf];exact congrArg (X.P.funcs[·]?) hb,h1⟩⟩
def Fresh (X:Cx)(f:FuncId)(args:List AV)(n:Nat)(P:List (List AV)→Prop):Prop :=
 Enters X.P f∧ACalls X f args ⟨[],[]⟩ fun e S'=>∃ rows,e=.ret (.bsl 0 n)∧S'=⟨[rows],[]⟩∧P rows
theorem back_new (hI:Inv X E S w){rows:List (List AV)}(hflat:RowsOk 0 0 rows)(hI1:Inv X E1 ⟨[rows],[]⟩ w')(ev:Evol (E.sub [] []) w E1 w' 0 0) :
 ∃ blk sz,E1.boxes[0]?=some (some (blk,sz))∧Evol E w (E.addBox blk sz) w' E.boxes.length E.toks.length∧Inv X (E.addBox blk sz) ⟨S.boxes++[rows],S.toks⟩ w':=by
 have hτl:∀ t,t∈([]:List Nat)→t<E.toks.length:=fun t h=>by cases h
 have nb1:E1.boxes.length=1:=hI1.nb
 obtain ⟨⟨blk,sz⟩,hB⟩:=hI1.np 0 (by omega)
 have nt1:E1.toks=[]:=by have:=hI1.nt;simpa using this
 have own1:∀ b,E1.own b→b=blk:=fun b h=>by
  rcases h with ⟨j,s,h⟩ | ⟨t,l,c,s,h⟩
  ·have:=lt_of_get h
   have:j=0:=by omega
   subst this
   rw [hB] at h;cases h;rfl
  ·rw [nt1] at h;simp at h
 have ownb:E1.own blk:=.inl ⟨0,sz,hB⟩
 have nown:∀ b,¬ (E.sub [] []).own b:=fun b h=>by
  rcases (sub_own hτl).1 h with ⟨j,s,hj,_⟩ | ⟨t,l,c,s,ht,_⟩
  ·cases hj
  ·cases ht
 have hge:w.heap.size≤blk:=by
  rcases Nat.lt_or_ge blk w.heap.size with h | h
  ·exact absurd (ev.own blk h ownb) (nown blk)
  ·exact h
 have hlt1:blk<w'.heap.size:=hI1.own_lt ownb
 have frE:∀ {b o:Nat},E.mt b o→E1.fr b o:=fun {b o} h=>by
  rw [ev.fr]
  refine ⟨h,fun ho=>?_⟩
  rcases ho with ⟨j,s,hj,_⟩ | ⟨t,l,c,s,ht,_⟩
  ·cases hj
  ·cases ht
 have hfar:∀ {b:Nat},b<w.heap.size→w'.heap[b]?=w.heap[b]?:=fun {b} h=>ev.block b h (nown b)
 have hmtx:∀ {b o:Nat},(E.addBox blk sz).mt b o→E.mt b o∨b=blk:=fun {b o} h=>by
  rcases h with h | ⟨j,s,h⟩ | h
  ·exact .inl (.inl h)
  ·rcases getElem?_snoc h with h | ⟨_,h⟩
   ·exact .inl (.inr (.inl ⟨j,s,h⟩))
   ·cases h;exact .inr rfl
  ·exact .inl (.inr (.inr h))
 have hownx:∀ {b:Nat},(E.addBox blk sz).own b→E.own b∨b=blk:=fun {b} h=>by
  rcases h with ⟨j,s,h⟩ | h
  ·rcases getElem?_snoc h with h | ⟨_,h⟩
   ·exact .inl (.inl ⟨j,s,h⟩)
   ·cases h;exact .inr rfl
  ·exact .inl (.inr h)
 have hne:∀ {b:Nat},E.own b→b≠blk:=fun {b} h e=>by have:=hI.own_lt h;omega
 have ev2:Evol E w (E.addBox blk sz) w' E.boxes.length E.toks.length:=by
  refine ⟨rfl,fun j hj hl=>⟨by simp [Env.addBox];omega,fun x hx=>getElem?_snoc_left hx⟩,fun t ht k hk=>⟨k,hk,.inl rfl⟩,ev.os,ev.tape,ev.output,ev.size,fun b hb _=>hfar hb,
   fun b o v hm hc=>ev.cell b o v (fun h=>hm (sub_mt hτl h)) hc,fun b o hb h=>?_,fun b hb h=>?_,rfl,ev.ty,fun _ _ _ b _ _ _ _ o ho=>by rw [hfar (heap_lt ho)];exact ho⟩
  ·rcases hmtx h with h | h
   ·exact h
   ·omega
  ·rcases hownx h with h | h
   ·exact h
   ·omega
 refine ⟨blk,sz,hB,ev2,?_⟩
 obtain ⟨cs1,e1,hh1,hs1,hl1,hr1⟩:=hI1.box 0 blk sz rows hB rfl
 have hmt1:∀ b o,(E.addBox blk sz).mt b o→E1.mt b o:=fun b o h=>by
  rcases hmtx h with h | rfl
  ·exact .inl (frE h)
  ·exact .inr (.inl ⟨0,sz,hB⟩)
 exact {
  nb:=by simp [Env.addBox,hI.nb]
  nt:=hI.nt
  np:=fun j hj=>by
   simp only [Env.addBox,List.length_append,List.length_singleton] at hj ⊢
   rcases Nat.lt_or_ge j E.boxes.length with h | h
   ·rw [List.getElem?_append_left h];exact hI.np j h
   ·have:j=E.boxes.length:=by omega
    subst this;exact ⟨_,getElem?_snoc_new _ _⟩
  box:=fun j b s rows' h1 h2=>by
   rcases getElem?_snoc h1 with h1 | ⟨hj,h1⟩
   ·have h2':S.boxes[j]?=some rows':=by
     rcases getElem?_snoc h2 with h2 | ⟨hj,_⟩
     ·exact h2
     ·have:=lt_of_get h1;rw [hI.nb] at this;omega
    obtain ⟨cs',e',hh',hs',hl',hr'⟩:=hI.box j b s rows' h1 h2'
    exact ⟨cs',e',(hfar (hI.own_lt (.inl ⟨j,s,h1⟩))).trans hh',hs',hl',fun k r q x v h3 h4 h5=>(hr' k r q x v h3 h4 h5).step ev2⟩
   ·cases h1
    have h2':rows'=rows:=by
     rcases getElem?_snoc h2 with h2 | ⟨_,h2⟩
     ·have:=lt_of_get h2;rw [← hI.nb] at this;omega
     ·exact h2
    subst h2'
    exact ⟨cs1,e1,hh1,hs1,hl1,fun k r q x v h3 h4 h5=>(hr1 k r q x v h3 h4 h5).env (hflat r (List.mem_of_getElem? h3) x (List.mem_of_getElem? h4)) hmt1⟩
  tok:=fun t l b c s h=>by
   obtain ⟨h1,h0,cs,e,hh,hs⟩:=hI.tok t l b c s h
   exact ⟨h1,h0,cs,e,(hfar (hI.own_lt (.inr ⟨t,l,c,s,h⟩))).trans hh,hs⟩
  bb:=fun i j b s s' h1 h2=>by
   rcases getElem?_snoc h1 with h1 | ⟨hi,h1⟩<;>rcases getElem?_snoc h2 with h2 | ⟨hj,h2⟩
   ·exact hI.bb i j b s s' h1 h2
   ·cases h2;exact absurd rfl (hne (.inl ⟨i,s,h1⟩))
   ·cases h1;exact absurd rfl (hne (.inl ⟨j,s',h2⟩))
   ·omega
  bt:=fun i t b s l c sz' h1 h2=>by
   rcases getElem?_snoc h1 with h1 | ⟨hi,h1⟩
   ·exact hI.bt i t b s l c sz' h1 h2
   ·cases h1;exact absurd rfl (hne (.inr ⟨t,l,c,sz',h2⟩))
  tt:=hI.tt
  frlt:=fun b o h=>⟨fun h'=>by
   rcases hownx h' with h' | h'
   ·exact (hI.frlt b o h).1 h'
   ·have:=(hI.frlt b o h).2;omega,Nat.lt_of_lt_of_le (hI.frlt b o h).2 ev.size⟩
  lo:=fun b h=>by
   rcases hownx h with h | h
   ·exact hI.lo b h
   ·rw [h];exact hI1.lo blk ownb
  frlo:=hI.frlo
  sz:=hI1.sz
  glob:=hI1.glob }
theorem AK.fr {l:List Nat}{k:List Item}{c:Call}{fo:Operand}{f:FuncId}{caps xs zs ys:List AV}{n:Nat}{P:List (List AV)→Prop}(hc:Fresh X f ys n P)(hflat:∀ rows,P rows→RowsOk 0 0 rows)
 (hk:∀ rows,P rows→AK X B (.inRegion ops l::k) (putF o.dst (.bsl S.boxes.length n) F) ⟨S.boxes++[rows],S.toks⟩ R)(ho:ops[i]?=some o:=by rfl)(hw:wantA ops F o=some true:=by rfl)(hop:o.op=.call c:=by rfl)
 (hcal:c.callee=.value fo:=by rfl)(hfo:opr X F fo=some (.fn f caps):=by rfl)(hx:oprs X F c.args.toList=some xs:=by rfl)(hzs:catA xs caps=some zs:=by rfl)(hd:dstOk B.fn.ntmps o.dst=true:=by rfl) [ha:RinL [] [] zs ys] :
 AK X B (.inRegion ops (i::l)::k) F S R:=by
 intro E w a b cs hI hF hn hm hb
 have nt:E.toks.length=S.toks.length:=by rw [← hI.nt];simp
 have hτl:∀ t,t∈([]:List Nat)→t<E.toks.length:=fun t h=>by cases h
 have hz:=catA_eq hzs
 obtain ⟨vs,h1,h2,h3⟩:=call_run hop hcal hc.1 hI hF hfo hx
 have hsub:Inv X (E.sub [] []) ⟨[],[]⟩ w:=hI.sub (σ:=[]) (τ:=[]) List.nodup_nil List.nodup_nil hτl (Sc:=⟨[],[]⟩) .nil (fun j h=>by cases h) rfl
 have hcalls:=hc.2 (E.sub [] []) w vs rfl hsub (by rw [h2,hz,ha.s.get.1]) (fun j v y hv hy=>by
  obtain ⟨x,hxj⟩:=lget_of_lt zs (i:=j) (by have:=lt_of_get hy;rw [ha.s.get.1] at this;exact this)
  exact (ha.s.get.2 j x y hxj hy).fwd (fun b o=>sub_mt hτl) (fun i j q h1 h2=>sub_box.2 ⟨i,h1,h2⟩) (fun i j k h1 h2=>(sub_tok hτl).2 ⟨i,h1,h2⟩) (h3 j v x hv (by rw [hz];exact hxj)))
 have hdo:Does X ops i a w fun v w'=>∃ rows,P rows∧∃ E',Inv X E' ⟨S.boxes++[rows],S.toks⟩ w'∧Evol E w E' w' E.boxes.length E.toks.length∧Rel E' w' v (.bsl S.boxes.length n):=by
  refine Does.call ho (wanted_of hF hw) h1 (hcalls.mono fun e w' he=>?_)
  obtain ⟨E1,S1,d1,d2,d3⟩:=he
  cases e with
  | returned v =>
    obtain ⟨r',hr',rows,hre,rfl,hP⟩:=d3
    cases hre
    obtain ⟨blk,sz,hB,ev2,hI2⟩:=back_new hI (hflat rows hP) d1 d2
    refine ⟨v,rfl,rows,hP,_,hI2,ev2,?_⟩
    cases hr' with
    | bsl _ blk' sz' _ cap hB' hcap =>
      rw [hB] at hB';cases hB'
      exact .bsl _ blk sz n cap (by rw [← hI.nb];exact getElem?_snoc_new _ _) hcap
  | panicked ch=>obtain ⟨rows,h,_⟩:=d3;cases h
  | outgrown=>exact d3.elim
 obtain ⟨v',w2,⟨rows,hP,E',g1,g2,g3⟩,g4⟩:=hdo b k cs l
 have hF':=(hF.step g2).putF hd g3
 have g4':=g4
 rw [ho] at g4'
 exact Fin.from g4' (g2.weaken (by rw [hI.nb];exact hn) (by omega)) (hk rows hP E' w2 _ b cs g1 hF' (by simp;omega) hm hb)
theorem Fresh.mk {f:FuncId}{fn:Func}{c:Code}{args:List AV}{n:Nat}{P:List (List AV)→Prop}(hf:X.P.funcs[f]?=some fn)(hb:fn.body=some c)(hl:Nat.ble args.length fn.ntmps=true)(hnm:(fn.name == "runtime.NumGoroutine")=false)
 (h:AK X ⟨f,fn,0,0⟩ [.code c] (argF 0 args) ⟨[],[]⟩ fun e S'=>∃ rows,e=.ret (.bsl 0 n)∧S'=⟨[rows],[]⟩∧P rows):Fresh X f args n P :=
 ⟨⟨fn,hf,hnm,by rw [hb];rfl⟩,ACalls.of' (n:=0) (m:=0) (hh:=fun C S' hx=>by obtain ⟨rows,hx,_⟩:=hx;cases hx) hf hb hl rfl rfl h⟩
theorem Ndo.app0 {c:Call}{p q:Operand}{tt tx e e':Nat}{y yx ye:Ty}{rows:List (List AV)}{sp sp':Sp}(ho:ops[i]?=some o:=by rfl)(hw:wantA ops F o=some true:=by rfl)(hop:o.op=.call c:=by rfl)(hcal:c.callee=.builtin .append:=by rfl)
 (hargs:c.args.toList=[p,q]:=by rfl)(htys:c.argTypes.toList=[tt,tx]:=by rfl)(hp:opr X F p=some (.sl rows sp):=by rfl)(hq:opr X F q=some (.sl [] sp'):=by rfl)(hy:X.ty tt=some y:=by rfl)(hyk:y.k=.slc e:=by rfl)(hye:X.ty e=some ye:=by rfl)
 (hyx:X.ty tx=some yx:=by rfl)(hyxk:yx.k=.slc e':=by rfl):Ndo X N ops i o F (.sl rows sp) S S:=by
 refine Ndo.val ho hw fun F' E w a hc hI hF=>?_
 rw [hop] at hc
 obtain ⟨callee,args,argTypes⟩:=c
 simp only at hcal hargs htys
 subst hcal
 have ha:args=#[p,q]:=by rw [← Array.toList_inj];exact hargs
 have ht:argTypes=#[tt,tx]:=by rw [← Array.toList_inj];exact htys
 subst ha;subst ht
 have r1:=opr_sound hI hF ((hc p (by simp [Op.operands,Call.operands])).trans hp)
 have r2:=opr_sound hI hF ((hc q (by simp [Op.operands,Call.operands])).trans hq)
 obtain ⟨d1,hd1,hk1⟩:=(X.ty_ok tt y hy).agg
 simp only [hyk] at hk1
 obtain ⟨rfl,ye',hye',hne0⟩:=hk1
 rw [hye] at hye';cases hye'
 obtain ⟨d2,hd2,hk2⟩:=(X.ty_ok tx yx hyx).agg
 simp only [hyxk] at hk2
 obtain ⟨rfl,_⟩:=hk2
 generalize hu:a.eval p=u at r1
 generalize hv:a.eval q=v at r2
 have r1':=r1
 cases r2 with
 | sl _ _ a2 n2 cap2 b2 o2 sz2 vals2 hn2 hx2 ha2 hszr2 hm2 hcl2 hr2 hs2 hcap2 =>
   have h0:n2=0:=by simpa using hn2.symm
   subst h0
   cases r1 with
   | sl _ _ a1 n1 cap1 b1 o1 sz1 vals1 hn1 hx1 ha1 hszr1 hm1 hcl1 hr1 hs1 hcap1 =>
     refine ⟨.slice a1 n1 cap1,?_,r1'⟩
     have hf:(Builtin.firstCells ye.size 0 (.slice a2 0 cap2)).run X.P w=.ok ([]:List Value).toArray w:=by
      cases a2 with
      | none=>exact run_firstCells_none _ _ _ _ _
      | some a0=>exact run_firstCells_some _ _ _ _ _ _ _ (by simp) (fun j v hj=>by simp at hj)
     cases a1 with
     | none=>simp [execOp,hop,resolve,invoke,builtin,hu,hv,Builtin.append_,run_underlying hd1,run_underlying hd2,sizeOf_run hye,Builtin.lenOf,hcap1,hf]
     | some a0=>simp [execOp,hop,resolve,invoke,builtin,hu,hv,Builtin.append_,run_underlying hd1,run_underlying hd2,sizeOf_run hye,Builtin.lenOf,hcap1,hf,storeCells]
end
end Go.V
namespace Go.V
open Go Go.Proofs
instance {n m c:Nat}:OKR n m (List.replicate c zN):=⟨fun r hr x hx=>by
 rw [List.eq_of_mem_replicate hr] at hx
 exact (inferInstance:OKL n m zN).ok x hx⟩
abbrev rB (l:List Nd)(c:Nat):List (List AV):=nrows l++List.replicate c zN
theorem rB_get {l:List Nd}{i c:Nat}{x:Nd}(h:l[i]?=some x):(rB l c)[i]?=some (ncells x):=by
 rw [List.getElem?_append_left (by rw [nrows_len];exact lt_of_get h)];exact nrows_get h
theorem rB_set (l:List Nd)(c i:Nat)(x:Nd)(h:i<l.length):(rB l c).set i (ncells x)=rB (l.set i x) c:=by
 rw [rB,rB,List.set_append_left _ _ (by rw [nrows_len];exact h),nrows_map,nrows_map,List.map_set]
theorem rB_len (l:List Nd)(c:Nat):(rB l c).length=l.length+c:=by simp [nrows_len]
theorem nrows_app (a b:List Nd):nrows (a++b)=nrows a++nrows b:=by rw [nrows_map,nrows_map,nrows_map,List.map_append]
theorem rB_al (l:List Nd)(c:Nat):∀ r,r∈rB l c→r.length=4:=fun r hr=>by
 rcases List.mem_append.1 hr with h | h
 ·exact allLen_eq.1 (nrows_al l) r h
 ·rw [List.eq_of_mem_replicate h];rfl
section
variable {X:Cx}{B:Bx}{S:St}{F F':Frm}{R:AE→St→Prop}{N:Nat}{ops:Array Oper}{i:Nat}{l:List Nat}{k K:List Item}{o:Oper}{p q:Operand}
theorem AK.ldB {t b r:Nat}{y:Ty}{cs:List AV}{rows:List (List AV)}{x:AV}{S2:St}(hr:rows[r]?=some cs)(hk:AK X B K F' S2 R)(ho:ops[i]?=some o:=by rfl)(hw:wantA ops F o=some true:=by rfl)(hop:o.op=.load t p:=by rfl)
 (hp:opr X F p=some (.ptr b r 0):=by rfl)(hy:X.ty t=some y:=by rfl)(hb:S.boxes[b]?=some rows:=by rfl)(hl:cs.length=y.size:=by rfl)(hx:finA (isAggK y.k) cs=some x:=by rfl)(hd:dstOk B.fn.ntmps o.dst=true:=by rfl)
 (he:Go.V.ev X B.fn.ntmps 200 (.inRegion ops l::k) (putF o.dst x F) S=(K,F',S2):=by rfl):AK X B (.inRegion ops (i::l)::k) F S R :=
 AK.op (Ndo.loadB hb hr hl ho hw hop hp hy hx) hk ho hd he
theorem AK.atB {t e b n:Nat}{ik:IntKind}{y ye:Ty}{rows:List (List AV)}{r:List AV}(j:Nat)(hj:j<n)(hr:rows[j]?=some r)(hk:AK X B (.inRegion ops l::k) (putF o.dst (.ptr b j 0) F) S R)(ho:ops[i]?=some o:=by rfl)(hw:wantA ops F o=some true:=by rfl)
 (hop:o.op=.indexAddr t p q:=by rfl)(hp:opr X F p=some (.bsl b n):=by rfl)(hq:opr X F q=some (.val (.int ik j)):=by rfl)(hy:X.ty t=some y:=by rfl)(hyk:y.k=.slc e:=by rfl)(hye:X.ty e=some ye:=by rfl)(hb:S.boxes[b]?=some rows:=by rfl)(hl:r.length=ye.size:=by rfl)
 (hd:dstOk B.fn.ntmps o.dst=true:=by rfl):AK X B (.inRegion ops (i::l)::k) F S R :=
 AK.nd (Ndo.atB (j:=j) ho hw hop hp hq hy hyk hye (by simpa [Nat.blt_eq] using hj) hb hr hl) ho hd hk
theorem AK.stB {t b r:Nat}{y:Ty}{x:AV}{xs cs:List AV}{rows:List (List AV)}{bx:List (List (List AV))}{S2:St}(hr:rows[r]?=some cs)(hk:AK X B K F' S2 R)(ho:ops[i]?=some o:=by rfl)(hw:wantA ops F o=some true:=by rfl)(hop:o.op=.store t p q:=by rfl)
 (hp:opr X F p=some (.ptr b r 0):=by rfl)(hq:opr X F q=some x:=by rfl)(hy:X.ty t=some y:=by rfl)(hb:S.boxes[b]?=some rows:=by rfl)(hc:cellsOf x=some xs:=by rfl)(hl:xs.length=y.size:=by rfl)(hl':cs.length=y.size:=by rfl)
 (hbx:S.boxes.set b (rows.set r xs)=bx:=by rfl)(hd:dstOk B.fn.ntmps o.dst=true:=by rfl)(he:Go.V.ev X B.fn.ntmps 200 (.inRegion ops l::k) (putF o.dst .junk F) ⟨bx,S.toks⟩=(K,F',S2):=by rfl):AK X B (.inRegion ops (i::l)::k) F S R:=by
 subst hbx
 exact AK.op (Ndo.store ho hw hop hy hp hq (storeA_row hb hr hc hl hl')) hk ho hd he
end
theorem q_clone (l:List Nd)(hne:l≠[])(hl:l.length≤1000000000):Fresh X 188 [.sl (nrows l) .no] l.length fun rows=>∃ c,rows=rB l c:=by
 have hu:X.P.underlying 34=some (.slice 36):=by kernel_rfl
 refine Fresh.mk Tryz.func188 rfl rfl (by kernel_rfl) ?_
 refine AK.ev 100 rfl ?_
 refine AK.nilS hu (fun c hc=>?_)
 have hc':=hc (by rw [nrows_map];simpa using hne)
 subst hc'
 refine AK.ev 100 rfl ?_
 refine AK.no ?_
 have hn:nrows l≠[]:=by rw [nrows_map];simpa using hne
 refine AK.cloneB (fun cc=>?_) (allLen_eq.1 (nrows_al l)) (allCellR_eq.1 (nrows_ac l)) hn (by rw [nrows_len];omega)
 refine AK.ev 100 rfl ?_
 refine AK.retK Tryz.func188 ?_
 exact ⟨rB l cc,by rw [nrows_len];rfl,rfl,cc,rfl⟩
theorem q_clone0:Pure X 188 [.sl [] .no] (.sl [] .no):=by
 have hu:X.P.underlying 34=some (.slice 36):=by kernel_rfl
 refine Pure.mk Tryz.func188 rfl rfl (by kernel_rfl) ?_
 refine AK.ev 100 rfl ?_
 refine AK.nilS hu (fun c hc=>?_)
 refine AK.ev 100 rfl ?_
 refine AK.if_ (fun h=>?_) (fun h=>?_)
 ·refine AK.as_ 2 (.sl [] .tight) ?_
  exact AK.rz Tryz.func188 rfl
 ·refine AK.op Ndo.app0 ?_
  exact AK.rz Tryz.func188 rfl
theorem h_indexF (l:List Nd)(c:Nat)(f:FuncId)(caps:List AV)(p:Nd→Bool)(hl:l.length≤1000000000) [hok:OKL 0 0 caps](hp:∀ x,x∈l→Pure X f (nd x::caps) (vb (p x)))(hcat:∀ xs,catA xs caps=some (xs++caps)) :
 Hands X 190 [.bsl 0 l.length,.fn f caps] ⟨[rB l c],[]⟩ (vi (idxP p 0 l)) ⟨[rB l c],[]⟩:=by
 have:OKL 1 0 caps:=⟨fun x hx=>(hok.ok x hx).mono (by omega) (by omega)⟩
 refine Hands.run (n:=1) (m:=0) Tryz.func190 ?_
 refine AK.while_ (ι:=Nat) 1 0 (fun i=>i≤l.length∧idxP p 0 l=idxP p i (l.drop i)) (fun i=>[(8,vi i),(7,vi l.length),(0,.bsl 0 l.length),(1,.fn f caps)]) (fun _=>⟨[rB l c],[]⟩) (fun i=>l.length-i) ?_ 0 ⟨Nat.zero_le _,rfl⟩
  ⟨rfl,rfl,rfl,rfl,trivial⟩ rfl rfl rfl rfl rfl (fun _=>inferInstance) (fun _=>inferInstance)
 intro i hi IH
 refine AK.ev 100 rfl ?_
 refine AK.if_ (fun h=>?_) (fun h=>?_)
 ·have hlt:i<l.length:=by have:=of_decide_eq_true h;omega
  obtain ⟨x,hx⟩:=lget_of_lt l hlt
  have hd:idxP p i (l.drop i)=if p x then (i:Int) else idxP p (i+1) (l.drop (i+1)):=by rw [drop_cons hx];rfl
  refine AK.atB i hlt (rB_get (c:=c) hx) ?_
  refine AK.ldB (rB_get (c:=c) hx) ?_
  refine AK.pc (hp x (List.mem_of_getElem? hx)) ?_ (hzs:=hcat _)
  refine AK.if_ (fun h2=>?_) (fun h2=>?_)
  ·refine AK.rb Tryz.func190 ?_ rfl
   have h3:p x=true:=h2
   rw [hi.2,hd,h3];rfl
  ·have h3:p x=false:=h2
   exact IH (i+1) ⟨hlt,by rw [hi.2,hd,h3];rfl⟩ (by omega) _ _ ⟨vint ((wrap_small (by omega) (by omega)).trans (by omega)),rfl,rfl,rfl,trivial⟩ rfl rfl rfl
 ·have:i=l.length:=by have:=of_decide_eq_false h;omega
  refine AK.rb Tryz.func190 ?_ rfl
  rw [hi.2,this,List.drop_length];rfl
theorem idxP_none {p:Nd→Bool}:∀ {l:List Nd}{i:Nat},idxP p i l=-1→l.filter (fun x=>!p x)=l
 | [],i,_=>rfl
 | x::l,i,h=>by
   simp only [idxP] at h
   split at h
   ·omega
   ·rename_i hx
    have:=idxP_none h
    have hx':p x=false:=by simpa using hx
    rw [List.filter_cons,hx',Bool.not_false,if_pos rfl,this]
theorem idxP_some {p:Nd→Bool}:∀ {l:List Nd}{i:Nat},idxP p i l≠-1→∃ j x,idxP p i l=((i+j:Nat):Int)∧l[j]?=some x∧p x=true∧(l.take j).filter (fun x=>!p x)=l.take j
 | [],i,h=>by simp [idxP] at h
 | x::l,i,h=>by
   simp only [idxP] at h ⊢
   by_cases hx:p x=true
   ·rw [if_pos hx]
    exact ⟨0,x,by simp,rfl,hx,rfl⟩
   ·rw [if_neg hx] at h ⊢
    obtain ⟨j,y,h1,h2,h3,h4⟩:=idxP_some h
    have hx':p x=false:=by simpa using hx
    refine ⟨j+1,y,by rw [h1];omega,by simpa using h2,h3,?_⟩
    rw [List.take_succ_cons,List.filter_cons,hx',Bool.not_false,if_pos rfl,h4]
theorem cur_step {l cur:List Nd}{q:Nd→Bool}{i j:Nat}{x:Nd}(hij:i<j)(hj:l[j]?=some x)(hlen:cur.length=l.length)(h1:cur.take i=(l.take j).filter q)(h2:cur.drop j=l.drop j) :
 cur[j]?=some x∧(q x=false→cur.take i=(l.take (j+1)).filter q∧cur.drop (j+1)=l.drop (j+1)) ∧
  (q x=true→(cur.set i x).take (i+1)=(l.take (j+1)).filter q∧(cur.set i x).drop (j+1)=l.drop (j+1)):=by
 have hjl:=lt_of_get hj
 have hcj:cur[j]?=some x:=by
  have:=congrArg (fun t:List Nd=>t[0]?) h2
  simp only [List.getElem?_drop,Nat.add_zero] at this
  rw [this];exact hj
 have hd:cur.drop (j+1)=l.drop (j+1):=by
  have:=congrArg List.tail h2
  simpa [List.tail_drop] using this
 have ht:(l.take (j+1)).filter q=(l.take j).filter q++[x].filter q:=by rw [List.take_add_one,hj,List.filter_append];rfl
 refine ⟨hcj,fun hq=>⟨?_,hd⟩,fun hq=>⟨?_,?_⟩⟩
 ·rw [ht,h1];simp [hq]
 ·rw [ht,← h1]
  have hi:i<cur.length:=by omega
  rw [List.take_add_one,List.take_set_of_le (Nat.le_refl _)]
  simp [hi,hq]
 ·rw [List.drop_set_of_lt (by omega)];exact hd
theorem h_deleteF (l:List Nd)(c:Nat)(f:FuncId)(caps:List AV)(p:Nd→Bool)(hl:l.length≤1000000000) [hok:OKL 0 0 caps](hp:∀ x,x∈l→Pure X f (nd x::caps) (vb (p x)))(hcat:∀ xs,catA xs caps=some (xs++caps)) :
 Hands X 187 [.bsl 0 l.length,.fn f caps] ⟨[rB l c],[]⟩ (.bsl 0 (l.filter fun x=>!p x).length)
  ⟨[rB (l.filter fun x=>!p x) (l.length-(l.filter fun x=>!p x).length+c)],[]⟩:=by
 have:OKL 1 0 caps:=⟨fun x hx=>(hok.ok x hx).mono (by omega) (by omega)⟩
 have hf:=h_indexF l c f caps p hl hp hcat
 refine Hands.run (n:=1) (m:=0) Tryz.func187 ?_
 refine AK.hc [0] [] hf ?_
 refine AK.if_ (fun h1=>?_) (fun h1=>?_)
 ·have h1':idxP p 0 l=-1:=by simpa using h1
  rw [idxP_none h1',Nat.sub_self,Nat.zero_add]
  exact AK.ret (n:=1) (tk:=[]) Tryz.func187 rfl rfl rfl rfl
 have h1':idxP p 0 l≠-1:=by simpa using h1
 obtain ⟨j0,x0,e0,e1,e2,e3⟩:=idxP_some h1'
 rw [Nat.zero_add] at e0
 have hj0:=lt_of_get e1
 have hwj:IntKind.i64.wrap (idxP p 0 l+1)=((j0+1:Nat):Int):=by rw [e0];exact (wrap_small (by omega) (by omega)).trans (by omega)
 have hstart:l.take j0=(l.take (j0+1)).filter fun x=>!p x:=by
  rw [List.take_add_one,e1,List.filter_append,e3];simp [e2]
 refine AK.while_ (ι:=Nat × Nat × List Nd) 1 0 (fun s=>s.1<s.2.1∧s.2.1≤l.length∧s.2.2.length=l.length∧s.2.2.take s.1=(l.take s.2.1).filter (fun x=>!p x)∧s.2.2.drop s.2.1=l.drop s.2.1)
  (fun s=>[(6,vi s.2.1),(5,vi s.1),(0,.bsl 0 l.length),(1,.fn f caps)]) (fun s=>⟨[rB s.2.2 c],[]⟩) (fun s=>l.length-s.2.1) ?_ (j0,j0+1,l) ⟨Nat.lt_succ_self _,hj0,rfl,hstart,rfl⟩
  ⟨vint hwj,vint e0,rfl,rfl,trivial⟩ rfl rfl rfl rfl rfl (fun _=>inferInstance) (fun _=>inferInstance)
 rintro ⟨i,j,cur⟩ ⟨g1,g2,g3,g4,g5⟩ IH
 simp only at g1 g2 g3 g4 g5 IH ⊢
 refine AK.ev 100 rfl ?_
 refine AK.if_ (fun h2=>?_) (fun h2=>?_)
 ·have hlt:j<l.length:=by have:=of_decide_eq_true h2;omega
  have hj1:IntKind.i64.wrap ((j:Int)+1)=((j+1:Nat):Int):=(wrap_small (by omega) (by omega)).trans (by omega)
  have hi1:IntKind.i64.wrap ((i:Int)+1)=((i+1:Nat):Int):=(wrap_small (by omega) (by omega)).trans (by omega)
  obtain ⟨x,hx⟩:=lget_of_lt l hlt
  obtain ⟨s1,s2,s3⟩:=cur_step (q:=fun x=>!p x) g1 hx g3 g4 g5
  refine AK.atB j hlt (rB_get (c:=c) s1) ?_
  refine AK.ldB (rB_get (c:=c) s1) ?_
  refine AK.pc (hp x (List.mem_of_getElem? hx)) ?_ (hzs:=hcat _)
  refine AK.if_ (fun h3=>?_) (fun h3=>?_)
  ·have hpx:p x=false:=by have:(!p x)=true:=h3;simpa using this
   obtain ⟨t1,t2⟩:=s3 (by simp [hpx])
   have hil:i<cur.length:=by omega
   obtain ⟨y,hy⟩:=lget_of_lt cur hil
   refine AK.atB i (show i<l.length by omega) (rB_get (c:=c) hy) ?_
   refine AK.stB (bx:=[rB (cur.set i x) c,[ncells x]]) (rB_get (c:=c) hy) ?_ (hbx:=by rw [← rB_set _ _ _ _ hil];rfl)
   refine IH (i+1,j+1,cur.set i x) ⟨by simp only;omega,hlt,by simpa using g3,t1,t2⟩ (by simp only;omega) _ _ ⟨vint hj1,vint hi1,rfl,rfl,trivial⟩ rfl rfl rfl
  ·have hpx:p x=true:=by have:(!p x)=false:=h3;simpa using this
   obtain ⟨t1,t2⟩:=s2 (by simp [hpx])
   exact IH (i,j+1,cur) ⟨by simp only;omega,hlt,g3,t1,t2⟩ (by simp only;omega) _ _ ⟨vint hj1,rfl,rfl,rfl,trivial⟩ rfl rfl rfl
 ·have hje:j=l.length:=by have:=of_decide_eq_false h2;omega
  subst hje
  rw [List.take_length] at g4
  have hfl:(l.filter fun x=>!p x).length=i:=by
   have:=congrArg List.length g4
   rw [List.length_take] at this
   omega
  have hrows:rB cur c≠[]:=by
   intro h
   have:cur.length+c=0:=by rw [← rB_len,h];rfl
   omega
  have hz:(rB cur c).take i++(List.replicate (l.length-i) zN++(rB cur c).drop (i+(l.length-i)))=rB (cur.take i) (l.length-i+c):=by
   rw [show i+(l.length-i)=l.length by omega,rB,rB,List.take_append_of_le_length (by rw [nrows_len];omega),← g3,show cur.length=(nrows cur).length by rw [nrows_len],List.drop_left,nrows_map,nrows_map,← List.map_take,
    ← List.replicate_append_replicate,List.length_map]
  refine AK.op (Ndo.tailB (l:=i) (rows:=rB cur c) g1 rfl rfl rfl rfl rfl rfl rfl rfl rfl (rB_al _ _) hrows) ?_
  refine AK.op (Ndo.clearB (s:=i) (n:=l.length-i) (rows:=rB cur c) (by omega) rfl (by rw [rB_len];omega) (rB_al _ _) (by exact congrArg (fun r=>[r]) hz) (by intro x hx;simp at hx;rcases hx with rfl | rfl | rfl | rfl<;>rfl) rfl rfl rfl rfl rfl rfl rfl rfl rfl rfl) ?_
  refine AK.op (Ndo.headB (h:=(i:Int)) (by omega) (by omega) rfl rfl rfl rfl rfl rfl rfl rfl) ?_
  rw [hfl,← g4]
  exact AK.ret (n:=1) (tk:=[]) Tryz.func187 rfl rfl rfl rfl
theorem q_decls (n:Nd)(hne:n.kids≠[])(hl:n.kids.length≤1000000000):Pure X 138 [nd n] (.sl (nrows n.kids.dropLast) .no):=by
 have hpos:0<n.kids.length:=List.length_pos_iff.2 hne
 have hw1:IntKind.i64.wrap (((nrows n.kids).length:Int)-1)=((n.kids.length-1:Nat):Int):=by rw [nrows_len];exact (wrap_small (by omega) (by omega)).trans (by omega)
 refine Pure.run Tryz.func138 ?_
 refine AK.as_ 8 (vi (n.kids.length-1:Nat)) ?_ (vint hw1)
 refine AK.op (Ndo.cut (l:=0) (h:=((n.kids.length-1:Nat):Int)) (r:=nrows n.kids.dropLast) rfl rfl rfl rfl rfl rfl rfl rfl rfl (by omega) (by omega) (by rw [nrows_len];omega) (nrows_al _) (by rw [Int.toNat_natCast];exact nrows_dropLast _)) ?_
 exact AK.rz Tryz.func138 rfl
theorem q_body (n:Nd)(hne:n.kids≠[])(hl:n.kids.length≤1000000000):Pure X 144 [nd n] (nd (lastN n)):=by
 have hpos:0<n.kids.length:=List.length_pos_iff.2 hne
 have hw1:IntKind.i64.wrap (((nrows n.kids).length:Int)-1)=((n.kids.length-1:Nat):Int):=by rw [nrows_len];exact (wrap_small (by omega) (by omega)).trans (by omega)
 obtain ⟨lst,hlst⟩:=lget_of_lt n.kids (i:=n.kids.length-1) (by omega)
 have hL:lastN n=lst:=by rw [lastN,List.getLastD_eq_getLast?,List.getLast?_eq_getElem?,hlst];rfl
 rw [hL]
 refine Pure.run Tryz.func144 ?_
 refine AK.as_ 8 (vi (n.kids.length-1:Nat)) ?_ (vint hw1)
 refine AK.ix ((n.kids.length-1:Nat):Int) (by omega) (by rw [Int.toNat_natCast];exact nrows_get hlst) ?_
 exact AK.rz Tryz.func144 rfl
theorem AK.rbsl {f:FuncId}{fn:Func}{F:Frm}{bx:List (List (List AV))}{b c:Nat}{l:List Nd}{k:List Item}(hf:X.P.funcs[f]?=some fn)(hb:bx[b]?=some (rB l c))(hl:l.length≤1000000000)(h:resF X F ⟨bx,[]⟩ fn.results.toList=some [.bsl b l.length]:=by rfl) :
 AK X ⟨f,fn,0,0⟩ (.code .ret::k) F ⟨bx,[]⟩ fun e S'=>e=.ret (.sl (nrows l) .no)∧S'=⟨[],[]⟩:=by
 refine AK.retZ (B:=⟨f,fn,0,0⟩) hf h 0 (Nat.le_refl _) (r:=.sl (nrows l) .no) ?_ (fun rows hr=>by simp at hr) ⟨rfl,rfl⟩
 have hget:∀ (i:Nat) (r:List AV),(nrows l)[i]?=some r→(rB l c)[i]?=some r:=fun i r h=>by rw [List.getElem?_append_left (lt_of_get h)];exact h
 refine .bsl b l.length (rB l c) (nrows l) (Nat.zero_le _) hb (by rw [rB_len];omega) (by unfold maxN;omega) (nrows_len l) (fun i r r' h1 h2=>?_) (fun i j r r' x y h1 h2 h3 h4=>?_)
 ·rw [hget i r' h2] at h1;cases h1;rfl
 ·rw [hget i r' h2] at h1;cases h1
  rw [h3] at h4;cases h4
  refine .same x ((inferInstance:OKR 0 0 (nrows l)).ok r (List.mem_of_getElem? h2) x (List.mem_of_getElem? h3))
theorem q_declaredF (x:Nd)(k:Int):Pure X 189 [nd x,.cptr [vi k]] (vb (!(x.kind==k))):=by
 refine Pure.run Tryz.func189 ?_
 exact AK.rz Tryz.func189 rfl
theorem q_delete0 (f:FuncId)(caps:List AV) [hok:OKL 0 0 caps](hcat:∀ xs,catA xs caps=some (xs++caps)):Pure X 187 [.sl [] .no,.fn f caps] (.sl [] .no):=by
 have hi:Pure X 190 [.sl [] .no,.fn f caps] (vi (-1)):=q_indexF [] f caps (fun _=>true) (by simp) (fun x hx=>by cases hx) hcat
 refine Pure.run Tryz.func187 ?_
 refine AK.pc hi ?_
 refine AK.yes ?_
 exact AK.rz Tryz.func187 rfl
def declK (n:Nd)(k:Int):List Nd:=n.kids.dropLast.filter fun x=>x.kind==k
theorem q_declared (n:Nd)(k:Int)(hne:n.kids≠[])(hl:n.kids.length≤1000000000):Pure X 139 [nd n,vi k] (.sl (nrows (declK n k)) .no):=by
 have hd:=q_decls n hne hl
 have hdl:n.kids.dropLast.length≤1000000000:=by rw [List.length_dropLast];omega
 refine Pure.mk Tryz.func139 rfl rfl (by kernel_rfl) ?_
 refine AK.evj 0 100 rfl ?_
 refine AK.ev 2 rfl ?_
 refine AK.op (Ndo.boxC (x:=vi k)) ?_
 refine AK.pc hd ?_
 by_cases h0:n.kids.dropLast=[]
 ·have hK:declK n k=[]:=by rw [declK,h0];rfl
  rw [hK,h0]
  refine AK.pc q_clone0 ?_
  refine AK.pc (q_delete0 189 [.cptr [vi k]] (cat1 _)) ?_
  exact AK.rz Tryz.func139 rfl
 ·refine AK.fr (q_clone n.kids.dropLast h0 hdl) (fun rows ⟨c,hr⟩=>by subst hr;exact (inferInstance:OKR 0 0 (rB n.kids.dropLast c)).ok) (fun rows ⟨c,hr⟩=>?_)
  subst hr
  have hD:=h_deleteF n.kids.dropLast c 189 [.cptr [vi k]] (fun x=>!(x.kind==k)) hdl (fun x _=>q_declaredF x k) (cat1 _)
  have hfe:(n.kids.dropLast.filter fun x=>!(!(x.kind==k)))=declK n k:=by simp only [Bool.not_not];rfl
  rw [hfe] at hD
  refine AK.ev 100 rfl ?_
  refine AK.hc [1] [] hD ?_
  refine AK.rbsl Tryz.func139 (b:=1) rfl (Nat.le_trans (List.length_filter_le _ _) hdl)
def wantsI (k:Int):Int:=if k=2∨k=21∨k=23∨k=26 then 31 else if k=3∨k=4∨k=22 then 32 else 0
theorem q_wants (n:Nd):Pure X 240 [nd n] (vi (wantsI n.kind)):=by
 refine Pure.run Tryz.func240 ?_
 repeat' (refine AK.if_ (fun _=>?_) (fun _=>?_))
 all_goals first | refine AK.rt Tryz.func240 ?_ | (refine AK.yes ?_;refine AK.rt Tryz.func240 ?_)
 all_goals (simp_all [wantsI,retA])
theorem q_isName (s:List UInt8):Pure X 142 [str s] (.fn 191 [.cptr [str s]]):=by
 refine Pure.mk Tryz.func142 rfl rfl (by kernel_rfl) ?_
 refine AK.evj 0 100 rfl ?_
 refine AK.ev 1 rfl ?_
 refine AK.op (Ndo.boxC (x:=str s)) ?_
 exact AK.rz Tryz.func142 rfl
theorem q_isNameF (x:Nd)(s:List UInt8):Pure X 191 [nd x,.cptr [str s]] (vb (x.name==s)):=by
 refine Pure.run Tryz.func191 ?_
 exact AK.rz Tryz.func191 rfl
def idxN (l:List Nd)(s:List UInt8):Int:=idxP (fun d=>d.name==s) 0 l
mutual
def firN (hit:Nd→Bool):Nd→Option (List UInt8)
 | .mk k s m ks=>if hit (.mk k s m ks) then some s else firL hit ks
def firL (hit:Nd→Bool):List Nd→Option (List UInt8)
 | []=>none
 | x::l=>match firN hit x with
   | some s=>some s
   | none=>firL hit l
end
theorem firN_eq (hit:Nd→Bool)(n:Nd):firN hit n=if hit n then some n.name else firL hit n.kids:=by cases n;rw [firN];rfl
def trC (code:Int)(o:Option (List UInt8)):Int:=match o with
 | some _=>code
 | none=>0
abbrev trV (code:Int)(o:Option (List UInt8)):AV:=.agg [vi (trC code o),str (o.getD [])]
set_option maxHeartbeats 1000000 in
theorem q_first (l:List Nd)(code:Int)(hc:code≠0)(g:FuncId)(caps:List AV)(hit:Nd→Bool)(Q:Nd→Prop)(hl:l.length≤1000000000) [hok:OKL 0 0 caps](hcat:∀ xs,catA xs caps=some (xs++caps))
 (hQ:∀ x,Q x→(wantsI x.kind=0→hit x=false)∧(wantsI x.kind≠0→Pure X g (vi (wantsI x.kind)::vi (idxN l x.name)::caps) (vb (hit x)))∧∀ k,k∈x.kids→hit x=false→Q k)(n:Nd)(hn:countN n≤1000000000)(hq:Q n) :
 Pure X 192 [.sl (nrows l) .no,nd n,vi code,.fn g caps] (trV code (firN hit n)):=by
 have hok2:OKL 2 0 caps:=⟨fun x hx=>(hok.ok x hx).mono (by omega) (by omega)⟩
 have hfl:flatTy X.P 107=some [0,1]:=by kernel_rfl
 induction n using Nd.ind with
 | h n ih =>
   have hcn:=countN_eq n
   have hll:=length_le_countL n.kids
   obtain ⟨hq0,hq1,hq2⟩:=hQ n hq
   have hloop:hit n=false→AK X ⟨192,Tryz.f192,0,0⟩ (locG false 4 Tryz.f192) [(0,.sl (nrows l) .no),(2,vi code),(3,.fn g caps),(5,.ptr 0 0 0),(8,.ptr 1 0 0)] ⟨[[ncells n],[[vi 0,str []]]],[]⟩
    (fun e S=>e=.ret (trV code (firN hit n))∧S=⟨[],[]⟩):=fun hf=>by
    rw [firN_eq,if_neg (by simp [hf])]
    refine AK.at_ ?_
    refine AK.ev 100 rfl ?_
    refine AK.while_ (ι:=Nat) 2 0 (fun i=>i≤n.kids.length∧firL hit n.kids=firL hit (n.kids.drop i)) (fun i=>[(34,vi i),(33,vi n.kids.length),(32,.sl (nrows n.kids) .no),(0,.sl (nrows l) .no),(2,vi code),(3,.fn g caps),(5,.ptr 0 0 0),(8,.ptr 1 0 0)])
     (fun _=>⟨[[ncells n],[[vi 0,str []]]],[]⟩) (fun i=>n.kids.length-i) ?_ 0 ⟨Nat.zero_le _,rfl⟩ ⟨rfl,by rw [← nrows_len n.kids];rfl,rfl,rfl,rfl,rfl,rfl,rfl,trivial⟩ rfl rfl rfl rfl rfl (fun _=>inferInstance) (fun _=>inferInstance)
    rintro i ⟨hi,hTi⟩ IH
    refine AK.ev 100 rfl ?_
    refine AK.if_ (fun h=>?_) (fun h=>?_)
    ·have hlt:i<n.kids.length:=by have:=of_decide_eq_true h;omega
     obtain ⟨x,hx⟩:=lget_of_lt n.kids hlt
     have hm:=List.mem_of_getElem? hx
     rw [drop_cons hx] at hTi
     simp only [firL] at hTi
     refine AK.ix i (by omega) (nrows_get hx) ?_
     refine AK.pc (ih x hm (by have:=countL_mem hm;omega) (hq2 x hm hf)) ?_
     generalize firN hit x=o at hTi ⊢
     refine AK.op (Ndo.eqs (r:=!((trC code o==0)&&((o.getD []==[])&&true))) rfl rfl rfl rfl rfl hfl rfl (.inr ⟨rfl,rfl⟩)) ?_
     cases o with
     | some s =>
       simp only at hTi
       refine AK.yes ?_ (ht:=by simp [trC,hc])
       refine AK.rz Tryz.func192 ?_
       rw [hTi]
     | none =>
       simp only at hTi
       refine AK.no ?_
       exact IH (i+1) ⟨hlt,hTi⟩ (by omega) _ _ ⟨vint ((wrap_small (by omega) (by omega)).trans (by omega)),rfl,rfl,rfl,rfl,rfl,rfl,rfl,trivial⟩ rfl rfl rfl
    ·have hie:i=n.kids.length:=by have:=of_decide_eq_false h;omega
     rw [hie,List.drop_length] at hTi
     refine AK.rz Tryz.func192 ?_
     rw [hTi];rfl
   refine Pure.run Tryz.func192 ?_
   refine AK.pc (q_wants n) ?_
   refine AK.gd (fun h1=>?_) (fun h1=>?_)
   ·have h1':wantsI n.kind≠0:=by have:(!(wantsI n.kind==0))=true:=h1;simpa using this
    refine AK.pc (q_isName n.name) ?_
    refine AK.pc (q_indexF l 191 [.cptr [str n.name]] (fun d=>d.name==n.name) hl (fun x _=>q_isNameF x n.name) (cat1 _)) ?_
    refine AK.pc (hq1 h1') ?_ (hzs:=hcat _)
    refine AK.ifj 0 4 (fun h2=>?_) (fun h2=>?_)
    ·have h2':hit n=true:=h2
     rw [firN_eq,if_pos h2']
     exact AK.rz Tryz.func192 rfl
    ·exact AK.back' 2 0 (hloop h2) ⟨rfl,rfl,rfl,rfl,rfl,trivial⟩ rfl rfl rfl rfl rfl
   ·have h1':wantsI n.kind=0:=by have:(!(wantsI n.kind==0))=false:=h1;simpa using this
    refine AK.ifj (e:=false) 0 4 (fun h2=>nomatch h2) (fun _=>?_)
    exact AK.back' 2 0 (hloop (hq0 h1')) ⟨rfl,rfl,rfl,rfl,rfl,trivial⟩ rfl rfl rfl rfl rfl
def hit7 (l:List Nd)(x:Nd):Bool:=!(wantsI x.kind==0)&&decide (idxN l x.name<0)
def hit8 (l:List Nd)(x:Nd):Bool:=!(wantsI x.kind==0)&&!((l.getD (idxN l x.name).toNat nd0).kind==wantsI x.kind)
theorem q_names7 (a b:Int):Pure X 193 [vi a,vi b] (vb (decide (b<0))):=by
 refine Pure.run Tryz.func193 ?_
 exact AK.rz Tryz.func193 rfl
theorem q_names8 (l:List Nd)(a b:Int)(h0:0≤b)(h1:b<l.length):Pure X 194 [vi a,vi b,.cptr [.sl (nrows l) .no]] (vb (!((l.getD b.toNat nd0).kind==a))):=by
 obtain ⟨x,hx⟩:=lget_of_lt l (i:=b.toNat) (by omega)
 have:l.getD b.toNat nd0=x:=by simp [List.getD,hx]
 rw [this]
 refine Pure.run Tryz.func194 ?_
 refine AK.ix b h0 (nrows_get hx) ?_
 exact AK.rz Tryz.func194 rfl
theorem idxP_lt {p:Nd→Bool}:∀ {l:List Nd}{i:Nat},idxP p i l<((i+l.length:Nat):Int)
 | [],i=>by simp only [idxP];omega
 | x::l,i=>by
   simp only [idxP,List.length_cons]
   split
   ·omega
   ·have:=idxP_lt (p:=p) (l:=l) (i:=i+1)
    omega
def namesT (l:List Nd)(n:Nd):Int × List UInt8:=match firN (hit7 l) n with
 | some s=>(7,s)
 | none=>(trC 8 (firN (hit8 l) n),(firN (hit8 l) n).getD [])
theorem firL_none {hit:Nd→Bool}:∀ {l:List Nd},firL hit l=none→∀ x,x∈l→firN hit x=none
 | [],_,x,hx=>by cases hx
 | y::l,h,x,hx=>by
   simp only [firL] at h
   split at h
   ·cases h
   ·rename_i hy
    rcases List.mem_cons.1 hx with rfl | hx
    ·exact hy
    ·exact firL_none h x hx
theorem q_checkNames (l:List Nd)(n:Nd)(hl:l.length≤1000000000)(hn:countN n≤1000000000):Pure X 143 [.sl (nrows l) .no,nd n] (.agg [vi (namesT l n).1,str (namesT l n).2]):=by
 have hfl:flatTy X.P 107=some [0,1]:=by kernel_rfl
 have h7:=q_first l 7 (by decide) 193 [] (hit7 l) (fun _=>True) hl cat0 (fun x _=>⟨fun h=>by simp [hit7,h],fun h=>by
  have:hit7 l x=decide (idxN l x.name<0):=by simp [hit7,h]
  rw [this];exact q_names7 _ _,fun _ _ _=>trivial⟩) n hn trivial
 have h8:firN (hit7 l) n=none→Pure X 192 [.sl (nrows l) .no,nd n,vi 8,.fn 194 [.cptr [.sl (nrows l) .no]]] (trV 8 (firN (hit8 l) n)):=fun h0 =>
  q_first l 8 (by decide) 194 [.cptr [.sl (nrows l) .no]] (hit8 l) (fun x=>firN (hit7 l) x=none) hl (cat1 _) (fun x hx=>by
   rw [firN_eq] at hx
   have hx7:hit7 l x=false:=by
    cases h:hit7 l x with
    | false=>rfl
    | true=>rw [h] at hx;simp at hx
   rw [hx7] at hx
   refine ⟨fun h=>by simp [hit8,h],fun h=>?_,fun k hk _=>firL_none (by simpa using hx) k hk⟩
   have:hit8 l x=!((l.getD (idxN l x.name).toNat nd0).kind==wantsI x.kind):=by simp [hit8,h]
   rw [this]
   have hlt:=idxP_lt (p:=fun d=>d.name==x.name) (l:=l) (i:=0)
   have h0:¬ idxN l x.name<0:=by
    intro hh
    simp [hit7,h,hh] at hx7
   exact q_names8 l _ _ (by omega) (by simpa [idxN] using hlt)) n hn h0
 unfold namesT
 refine Pure.mk Tryz.func143 rfl rfl (by kernel_rfl) ?_
 refine AK.evj 0 100 rfl ?_
 refine AK.ev 1 rfl ?_
 refine AK.op (Ndo.boxC (x:=.sl (nrows l) .no)) ?_
 refine AK.pc h7 ?_
 generalize firN (hit7 l) n=o at h8 ⊢
 refine AK.op (Ndo.eqs (r:=!((trC 7 o==0)&&((o.getD []==[])&&true))) rfl rfl rfl rfl rfl hfl rfl (.inr ⟨rfl,rfl⟩)) ?_
 cases o with
 | some s =>
   refine AK.yes ?_
   exact AK.rz Tryz.func143 rfl
 | none =>
   refine AK.no ?_
   refine AK.pc (h8 rfl) ?_
   exact AK.rz Tryz.func143 rfl
inductive PlO:Nd→Prop where
 | mk (k:Int) (s:List UInt8) (m:Int) (ks:List Nd) (hk:∀ x,x∈ks→PlO x)
    (hf:∀ x,x∈ks→x.kind=26→∃ a b k' s' m' l,x.kids=[a,b,.mk k' s' m' l]∧a.kind≠26∧b.kind≠26∧k'≠26):PlO (.mk k s m ks)
theorem PlO.kids {n:Nd}(h:PlO n):(∀ x,x∈n.kids→PlO x)∧∀ x,x∈n.kids→x.kind=26→∃ a b k' s' m' l,x.kids=[a,b,.mk k' s' m' l]∧a.kind≠26∧b.kind≠26∧k'≠26:=by
 cases h with | mk k s m ks hk hf=>exact ⟨hk,hf⟩
theorem PlO.leaf {k:Int}{s:List UInt8}{m:Int}:PlO (.mk k s m []):=.mk k s m [] (fun x h=>by cases h) (fun x h=>by cases h)
theorem FE_PlO {n:Nd}(h:FE n):PlO n:=by
 induction h with
 | num m h0 h1=>exact .leaf
 | var s h=>exact .leaf
 | cell s a h ha ih=>exact .mk _ _ _ _ (fun x hx=>by simp at hx;subst hx;exact ih) (fun x hx h26=>by simp at hx;subst hx;have:=FE_kind ha;omega)
 | len s h=>exact .leaf
 | neg a ha ih=>exact .mk _ _ _ _ (fun x hx=>by simp at hx;subst hx;exact ih) (fun x hx h26=>by simp at hx;subst hx;have:=FE_kind ha;omega)
 | two k a b hk ha hb iha ihb =>
   exact .mk _ _ _ _ (fun x hx=>by simp at hx;rcases hx with rfl | rfl;exact iha;exact ihb) (fun x hx h26=>by
    simp at hx
    rcases hx with rfl | rfl
    ·have:=FE_kind ha;omega
    ·have:=FE_kind hb;omega)
theorem FC_PlO {n:Nd}(h:FC n):PlO n:=by
 cases h with
 | mk k a b h0 h1 ha hb =>
   exact .mk _ _ _ _ (fun x hx=>by simp at hx;rcases hx with rfl | rfl;exact FE_PlO ha;exact FE_PlO hb) (fun x hx h26=>by
    simp at hx
    rcases hx with rfl | rfl
    ·have:=FE_kind ha;omega
    ·have:=FE_kind hb;omega)
theorem block_PlO {l:List Nd}(hl:∀ x,x∈l→FS x)(h:∀ x,x∈l→PlO x):PlO (.mk 30 [] 0 l) :=
 .mk _ _ _ _ h fun x hx h26=>by
  have:=hl x hx
  cases this with
  | for_ s a b l' hs ha hb hl'=>exact ⟨a,b,30,[],0,l',rfl,by have:=FE_kind ha;omega,by have:=FE_kind hb;omega,by omega⟩
  | _=>simp at h26
theorem FS_PlO {n:Nd}(h:FS n):PlO n:=by
 induction h with
 | set s a h ha=>exact .mk _ _ _ _ (fun x hx=>by simp at hx;subst hx;exact FE_PlO ha) (fun x hx h26=>by simp at hx;subst hx;have:=FE_kind ha;omega)
 | put s a b h ha hb =>
   exact .mk _ _ _ _ (fun x hx=>by simp at hx;rcases hx with rfl | rfl;exact FE_PlO ha;exact FE_PlO hb) (fun x hx h26=>by
    simp at hx
    rcases hx with rfl | rfl
    ·have:=FE_kind ha;omega
    ·have:=FE_kind hb;omega)
 | read s h=>exact .leaf
 | ifs c l l' hc hl hl' ihl ihl' =>
   exact .mk _ _ _ _ (fun x hx=>by simp at hx;rcases hx with rfl | rfl | rfl;exact FC_PlO hc;exact block_PlO hl ihl;exact block_PlO hl' ihl') (fun x hx h26=>by
    simp at hx
    rcases hx with rfl | rfl | rfl
    ·have:=FC_kind hc;omega
    ·simp at h26
    ·simp at h26)
 | whil c l hc hl ihl =>
   exact .mk _ _ _ _ (fun x hx=>by simp at hx;rcases hx with rfl | rfl;exact FC_PlO hc;exact block_PlO hl ihl) (fun x hx h26=>by
    simp at hx
    rcases hx with rfl | rfl
    ·have:=FC_kind hc;omega
    ·simp at h26)
 | for_ s a b l h ha hb hl ihl =>
   exact .mk _ _ _ _ (fun x hx=>by simp at hx;rcases hx with rfl | rfl | rfl;exact FE_PlO ha;exact FE_PlO hb;exact block_PlO hl ihl) (fun x hx h26=>by
    simp at hx
    rcases hx with rfl | rfl | rfl
    ·have:=FE_kind ha;omega
    ·have:=FE_kind hb;omega
    ·simp at h26)
 | check c hc=>exact .mk _ _ _ _ (fun x hx=>by simp at hx;subst hx;exact FC_PlO hc) (fun x hx h26=>by simp at hx;subst hx;have:=FC_kind hc;omega)
 | skip=>exact .leaf
 | stop=>exact .leaf
theorem FP_PlO {n:Nd}(h:FP n):PlO n:=by
 cases h with
 | mk ds l hd hl =>
   refine .mk _ _ _ _ (fun x hx=>?_) (fun x hx h26=>?_)
   ·rcases List.mem_append.1 hx with h | h
    ·cases hd x h with
     | var s h=>exact .leaf
     | arr s m h h0 h1=>exact .leaf
    ·simp at h;subst h;exact block_PlO hl fun x hx=>FS_PlO (hl x hx)
   ·rcases List.mem_append.1 hx with h | h
    ·have:=FV_kind (hd x h);omega
    ·simp at h;subst h;simp at h26
abbrev incN (s:List UInt8):Nd:=.mk 21 s 0 [.mk 6 [] 0 [.mk 2 s 0 [],.mk 1 [] 1 []]]
def HPl (n:Nd):Prop:=Hands X 145 [nd n] ⟨[],[]⟩ (.agg [vi n.kind,str n.name,vi n.num,.sl (nrows (plainML n.kids)) (.tok 0)]) ⟨[],[(plainML n.kids).length]⟩
theorem HPl.pure {n:Nd}(h:HPl n):Pure X 145 [nd n] (nd (plainM n)):=by
 have:=Hands.pure h
 obtain ⟨k,s,m,ks⟩:=n
 rw [plainM_mk]
 exact this
theorem rows_for (xs:List UInt8)(a' b':Nd)(k':Int)(s':List UInt8)(m':Int)(l':List Nd):nrows [.mk 21 xs 0 [a'],.mk 25 [] 0 [.mk 11 [] 0 [.mk 2 xs 0 [],b'],.mk k' s' m' l']] =
 [[vi 21,str xs,vi 0,.sl [ncells a'] .no],[vi 25,str [],vi 0,.sl [[vi 11,str [],vi 0,.sl [[vi 2,str xs,vi 0,.sl [] .no],ncells b'] .no],[vi k',str s',vi m',.sl (nrows l') .no]] .no]]:=by
 have e1:nrows [a']=[ncells a']:=nrows_map _
 have e2:nrows [.mk 2 xs 0 [],b']=[ncells (.mk 2 xs 0 []),ncells b']:=nrows_map _
 have e3:nrows [.mk 11 [] 0 [.mk 2 xs 0 [],b'],.mk k' s' m' l']=[ncells (.mk 11 [] 0 [.mk 2 xs 0 [],b']),ncells (.mk k' s' m' l')]:=nrows_map _
 have e4:nrows [.mk 21 xs 0 [a'],.mk 25 [] 0 [.mk 11 [] 0 [.mk 2 xs 0 [],b'],.mk k' s' m' l']]=[ncells (.mk 21 xs 0 [a']),ncells (.mk 25 [] 0 [.mk 11 [] 0 [.mk 2 xs 0 [],b'],.mk k' s' m' l'])]:=nrows_map _
 rw [e4]
 simp only [ncells,kind_mk,name_mk,num_mk,kids_mk,e1,e3,e2]
 rfl
set_option maxHeartbeats 2000000 in
theorem h_plainO (n:Nd)(ih:∀ x,x∈n.kids→PlO x→wN x≤1000000000→HPl x)(ih2:∀ x,x∈n.kids→∀ y,y∈x.kids→PlO y→wN y≤1000000000→HPl y)(hp:PlO n)(hw:wN n≤1000000000):HPl n:=by
 have hkl:=kids_le_w n
 obtain ⟨hk,hf⟩:=hp.kids
 unfold HPl
 refine Hands.run Tryz.func145 ?_
 refine AK.mintB 2 0 3 rfl rfl rfl rfl rfl rfl ?_
 refine AK.while_ (ι:=Nat) 3 1 (fun i=>i≤n.kids.length) (fun i=>[(20,vi i),(19,vi n.kids.length),(18,.sl (nrows n.kids) .no),(1,.ptr 0 0 0),(2,.ptr 1 0 0),(3,.ptr 2 0 0)])
  (fun i=>⟨[[ncells n],[zN],[[vi n.kind,str n.name,vi n.num,.sl (nrows (plainML (n.kids.take i))) (.tok 0)]]],[(plainML (n.kids.take i)).length]⟩) (fun i=>n.kids.length-i) ?_ 0
  (Nat.zero_le _) ⟨rfl,by rw [← nrows_len n.kids];rfl,rfl,rfl,rfl,rfl,trivial⟩ (by simp [plainML_nil];rfl) rfl rfl rfl rfl (fun _=>inferInstance) (fun _=>inferInstance)
 intro i hi IH
 refine AK.ev 100 rfl ?_
 refine AK.if_ (fun h=>?_) (fun h=>?_)
 ·have hlt:i<n.kids.length:=by have:=of_decide_eq_true h;omega
  obtain ⟨x,hxg⟩:=lget_of_lt n.kids hlt
  have hm:=List.mem_of_getElem? hxg
  have hwx:wN x<wN n:=wN_kid hm
  have hsn:plainML (n.kids.take (i+1))=plainML (n.kids.take i)++plain1 x:=by rw [List.take_add_one,hxg,plainML_app];simp [plainML_cons,plainML_nil]
  have hl1:=len_le_wL (plainML (n.kids.take i))
  have hl2:=plainML_w (n.kids.take i)
  have hwk:wL n.kids≤wN n:=by rw [wN_eq];omega
  have hl3:wL (n.kids.take i)≤wL n.kids:=by
   have:=wL_app (n.kids.take i) (n.kids.drop i)
   rw [List.take_append_drop] at this;omega
  refine AK.ix i (by omega) (nrows_get hxg) ?_
  refine AK.ifj 0 8 (fun h2=>?_) (fun h2=>?_)
  ·have h2':x.kind≠26:=by have:(!(x.kind==26))=true:=h2;simpa using this
   have hr:=(ih x hm (hk x hm) (by omega)).pure
   rw [plain1_no h2'] at hsn
   refine AK.dn 160 3 ?_
   refine Drv.pg hr ?_
   refine Drv.w (Ndo.append (res:=nrows (plainML (n.kids.take (i+1)))) rfl rfl rfl rfl rfl rfl rfl rfl rfl rfl rfl rfl rfl rfl (nrows_len _) (nrows_al _) rfl rfl rfl ?_ ?_ rfl) ?_
   ·rw [nrows_len];simp;omega
   ·rw [hsn,nrows_map,nrows_map,List.map_append];rfl
   refine Drv.e ?_
   refine Drv.w (Ndo.store rfl rfl rfl rfl rfl rfl rfl) ?_
   refine Drv.z ?_
   refine IH (i+1) hlt (by omega) _ _ ⟨vint ((wrap_small (by omega) (by omega)).trans (by omega)),rfl,rfl,rfl,rfl,rfl,trivial⟩ ?_ rfl rfl
   simp [St.drop,nrows_len,hsn]
  ·have h2':x.kind=26:=by have:(!(x.kind==26))=false:=h2;simpa using this
   obtain ⟨a,b,k',s',m',l,hkx,ha,hb,hc⟩:=hf x hm h2'
   obtain ⟨xk,xs,xm,xks⟩:=x
   simp only [kind_mk,kids_mk] at h2' hkx
   subst h2';subst hkx
   have hpx:=hk _ hm
   have ma:a∈(Nd.mk 26 xs xm [a,b,.mk k' s' m' l]).kids:=by simp
   have mb:b∈(Nd.mk 26 xs xm [a,b,.mk k' s' m' l]).kids:=by simp
   have mc:Nd.mk k' s' m' l∈(Nd.mk 26 xs xm [a,b,.mk k' s' m' l]).kids:=by simp
   have wa:=wN_kid ma
   have wb:=wN_kid mb
   have wc:=wN_kid mc
   have ra:=(ih2 _ hm a ma (hpx.kids.1 a ma) (by omega)).pure
   have rb:=(ih2 _ hm b mb (hpx.kids.1 b mb) (by omega)).pure
   have rc:=ih2 _ hm _ mc (hpx.kids.1 _ mc) (by omega)
   have hlc:=len_le_wL (plainML l)
   have hlc2:=plainML_w l
   have hlc3:wL l≤1000000000:=by
    have:=wN_eq (Nd.mk k' s' m' l)
    simp only [kids_mk] at this
    omega
   have hp1:plain1 (.mk 26 xs xm [a,b,.mk k' s' m' l])=[.mk 21 xs 0 [plainM a],.mk 25 [] 0 [.mk 11 [] 0 [.mk 2 xs 0 [],plainM b],.mk k' s' m' (plainML l++[incN xs])]]:=by
    rw [plain1_for,plainML_cons,plainML_cons,plainML_cons,plainML_nil,plain1_no ha,plain1_no hb,plain1_no (x:=.mk k' s' m' l) hc,plainM_mk k'];rfl
   rw [hp1] at hsn
   refine AK.wkB 4 0 3 (.sl [] .no) ?_
   refine AK.evj 9 100 rfl ?_
   refine AK.wkB 5 0 3 (.sl (nrows [.mk 2 xs 0 [],.mk 1 [] 1 []]) .no) ?_
   refine AK.ev 100 rfl ?_
   refine AK.ix 2 (by omega) (rows:=nrows [a,b,.mk k' s' m' l]) (r:=ncells (.mk k' s' m' l)) rfl ?_
   refine AK.hc (τ':=[1]) [] [] rc ?_
   refine AK.wk 53 ?_
   refine AK.op (Ndo.append (res:=nrows (plainML l++[incN xs])) rfl rfl rfl rfl rfl rfl rfl rfl rfl rfl rfl rfl rfl rfl (nrows_len _) (nrows_al _) rfl rfl rfl ?_ ?_ rfl) ?_
   ·rw [nrows_len];simp;omega
   ·show nrows (plainML l)++nrows [incN xs]=_
    rw [nrows_app]
   refine AK.dn 768 3 ?_
   refine Drv.ig 1 (by omega) (row1 a b _) ?_
   refine Drv.pg rb ?_
   refine Drv.wl (Ndo.mem rfl rfl rfl) ?_ ?_
   ·exact strip_eq (Ndo.ev rfl rfl rfl) (strip_eq (Ndo.ev rfl rfl rfl) (strip_eq (Ndo.ev rfl rfl rfl) allN))
   refine Drv.w (Ndo.store rfl rfl rfl rfl rfl rfl rfl) ?_
   refine Drv.zj 12 ?_
   refine AK.wkB 7 0 3 (.sl [[vi 2,str xs,vi 0,.sl [] .no],ncells (plainM b)] .no) ?_
   refine AK.dn 327680 6 ?_
   refine Drv.ig 0 (by omega) (row0 a _) ?_
   refine Drv.pc ra ?_
   refine Drv.gon 6 ?_
   refine Drv.mw ?_
   refine Drv.w (Ndo.append (res:=nrows (plainML (n.kids.take (i+1)))) rfl rfl rfl rfl rfl rfl rfl rfl rfl rfl rfl rfl rfl rfl (nrows_len _) (nrows_al _) rfl rfl rfl ?_ ?_ rfl) ?_
   ·rw [nrows_len];simp;omega
   ·rw [hsn,nrows_app (plainML (n.kids.take i)),rows_for];rfl
   refine Drv.e ?_
   refine Drv.w (Ndo.store rfl rfl rfl rfl rfl rfl rfl) ?_
   refine Drv.z ?_
   refine IH (i+1) hlt (by omega) _ _ ⟨vint ((wrap_small (by omega) (by omega)).trans (by omega)),rfl,rfl,rfl,rfl,rfl,trivial⟩ ?_ rfl rfl
   show St.mk [[ncells n],[zN],[[vi n.kind,str n.name,vi n.num,.sl (nrows (plainML (n.kids.take (i+1)))) (.tok 0)]]] [(nrows (plainML (n.kids.take i))).length+2]=_
   rw [nrows_len,hsn];simp
 ·have hie:i=n.kids.length:=by have:=of_decide_eq_false h;omega
  subst hie
  rw [List.take_length]
  exact AK.ret Tryz.func145 rfl rfl rfl rfl
theorem h_plainN (n:Nd)(hp:PlO n)(hw:wN n≤1000000000):HPl n:=by
 have:∀ n:Nd,(PlO n→wN n≤1000000000→HPl n)∧∀ y,y∈n.kids→PlO y→wN y≤1000000000→HPl y:=by
  intro n
  induction n using Nd.ind with
  | h n ih=>exact ⟨h_plainO n (fun x hx=>(ih x hx).1) (fun x hx y hy=>(ih x hx).2 y hy),fun y hy=>(ih y hy).1⟩
 exact (this n).1 hp hw
theorem q_plainOf (n:Nd)(hp:PlO n)(hw:wN n≤1000000000):Pure X 145 [nd n] (nd (plainM n)):=(h_plainN n hp hw).pure
theorem PrI.get {n:Nd}(h:PrI n):-9223372036854775808≤n.num∧n.num≤9223372036854775807∧∀ x,x∈n.kids→PrI x:=by
 cases h with | mk k s m ks h0 h1 hk=>exact ⟨h0,h1,hk⟩
theorem PrI.num1 {k:Int}{s:List UInt8}{m:Int}{ks:List Nd}(h0:0≤m)(h1:m≤1)(hk:∀ x,x∈ks→PrI x):PrI (.mk k s m ks):=.mk k s m ks (by omega) (by omega) hk
theorem pr_one {x:Nd}(h:PrI x):∀ y,y∈[x]→PrI y:=fun y hy=>by simp at hy;subst hy;exact h
theorem pr_two {a b:Nd}(ha:PrI a)(hb:PrI b):∀ y,y∈[a,b]→PrI y:=fun y hy=>by
 simp at hy
 rcases hy with rfl | rfl
 ·exact ha
 ·exact hb
theorem pr_inc (s:List UInt8):PrI (incN s):=.num1 (by omega) (by omega) (pr_one (.num1 (by omega) (by omega) (pr_two (.num1 (by omega) (by omega) (fun x h=>by cases h)) (.num1 (by omega) (by omega) (fun x h=>by cases h)))))
theorem pr_forT (s:List UInt8)(l:List Nd)(h:∀ x,x∈l→PrI x):∀ y,y∈forT s l→PrI y:=by
 unfold forT
 split
 ·rename_i a b k' s' m' l'
  have ha:=h a (by simp)
  have hb:=h b (by simp)
  have hc:=(h (.mk k' s' m' l') (by simp)).get
  refine pr_two (.num1 (by omega) (by omega) (pr_one ha)) (.num1 (by omega) (by omega) (pr_two (.num1 (by omega) (by omega) (pr_two (.num1 (by omega) (by omega) (fun x h=>by cases h)) hb)) (.mk k' s' m' _ hc.1 hc.2.1 fun x hx=>?_)))
  rcases List.mem_append.1 hx with hx | hx
  ·exact hc.2.2 x hx
  ·simp at hx;subst hx;exact pr_inc s
 ·intro y hy;cases hy
theorem pr_plain:(∀ n:Nd,PrI n→PrI (plainM n)∧∀ y,y∈plain1 n→PrI y)∧∀ l:List Nd,(∀ x,x∈l→PrI x)→∀ y,y∈plainML l→PrI y:=by
 refine Nd.ind2 (fun k s m ks ih hp=>?_) (fun _ y hy=>by rw [plainML_nil] at hy;cases hy) (fun x l hx hl hp y hy=>?_)
 ·have hg:=hp.get
  have h1:PrI (plainM (.mk k s m ks)):=by rw [plainM_mk];exact .mk k s m _ hg.1 hg.2.1 (ih hg.2.2)
  refine ⟨h1,fun y hy=>?_⟩
  by_cases hk:k=26
  ·subst hk
   rw [plain1_for] at hy
   exact pr_forT s _ (ih hg.2.2) y hy
  ·rw [plain1_no (x:=.mk k s m ks) hk] at hy
   simp at hy;subst hy;exact h1
 ·rw [plainML_cons] at hy
  rcases List.mem_append.1 hy with hy | hy
  ·exact (hx (hp x (by simp))).2 y hy
  ·exact hl (fun z hz=>hp z (by simp [hz])) y hy
theorem PrI.plain {n:Nd}(h:PrI n):PrI (plainM n):=(pr_plain.1 n h).1
theorem twG_none:∀ {l:List Nd}{pre:List (List UInt8)},twG pre l=none→(∀ d,d∈l→has pre d.name=false)∧∀ x,x∈l→∀ y,y∈l→x.name=y.name→x=y
 | [],pre,_=>⟨fun d h=>(by cases h),fun x h _ _ _=>(by cases h)⟩
 | d::l,pre,h=>by
   simp only [twG] at h
   split at h
   ·cases h
   ·rename_i hd
    obtain ⟨h1,h2⟩:=twG_none h
    have h3:∀ e,e∈l→has pre e.name=false∧d.name≠e.name:=fun e he=>by
     have:=h1 e he
     rw [has_app,Bool.or_eq_false_iff] at this
     refine ⟨this.1,fun hh=>?_⟩
     have:=this.2
     simp [has,hh] at this
    refine ⟨fun e he=>?_,fun x hx y hy hxy=>?_⟩
    ·rcases List.mem_cons.1 he with rfl | he
     ·simpa using hd
     ·exact (h3 e he).1
    ·rcases List.mem_cons.1 hx with rfl | hx<;>rcases List.mem_cons.1 hy with rfl | hy
     ·rfl
     ·exact absurd hxy (h3 y hy).2
     ·exact absurd hxy.symm (h3 x (by assumption)).2
     ·exact h2 x hx y hy hxy
theorem has_names (l:List Nd)(k:Int)(s:List UInt8):has (namesK l k) s=l.any fun d=>(d.kind==k)&&(d.name==s):=by
 induction l with
 | nil=>rfl
 | cons d l ih =>
   simp only [namesK,has,List.filter_cons] at ih ⊢
   by_cases h:(d.kind==k)=true
   ·rw [if_pos h];simp only [List.map_cons,List.any_cons,h,Bool.true_and,ih]
   ·rw [if_neg h]
    have h':(d.kind==k)=false:=by simpa using h
    simp only [List.any_cons,h',Bool.false_and,Bool.false_or,ih]
theorem idxN_any (l:List Nd)(s:List UInt8):decide (idxN l s<0)=!(l.any fun d=>d.name==s):=by
 rw [← idxP_any _ l 0]
 show decide (idxN l s<0)=!decide (idxN l s≥0)
 by_cases h:idxN l s<0
 ·rw [decide_eq_true h,decide_eq_false (show ¬ idxN l s≥0 by omega)];rfl
 ·rw [decide_eq_false h,decide_eq_true (show idxN l s≥0 by omega)];rfl
theorem wants_both (k:Int):(wantsI k=31∧wantsS k=1)∨(wantsI k=32∧wantsS k=2)∨(wantsI k=0∧wantsS k=0):=by
 unfold wantsI wantsS
 repeat' split
 all_goals simp
theorem has_both {l:List Nd}(hk:∀ d,d∈l→d.kind=31∨d.kind=32)(s:List UInt8):(l.any fun d=>d.name==s)=(has (namesK l 31) s||has (namesK l 32) s):=by
 rw [has_names,has_names]
 induction l with
 | nil=>rfl
 | cons d l ih =>
   simp only [List.any_cons]
   rw [ih fun e he=>hk e (by simp [he])]
   rcases hk d (by simp) with h | h<;>simp [h]
   ·cases (d.name==s)<;>simp
   ·cases (d.name==s)<;>simp [Bool.or_comm,Bool.or_left_comm]
theorem hit7_eq {l:List Nd}(hk:∀ d,d∈l→d.kind=31∨d.kind=32)(x:Nd):hit7 l x=wrongAt (namesK l 31) (namesK l 32) 7 x.kind x.name:=by
 unfold hit7 wrongAt
 rw [idxN_any,has_both hk,idxS_has,idxS_has]
 rcases wants_both x.kind with ⟨h1,h2⟩ | ⟨h1,h2⟩ | ⟨h1,h2⟩<;>simp [h1,h2]
theorem idxP_at {p:Nd→Bool}{l:List Nd}(h:(l.any p)=true):∃ d,d∈l∧p d=true∧l.getD (idxP p 0 l).toNat nd0=d:=by
 have h0:idxP p 0 l≠-1:=by
  intro e
  have:=idxP_any p l 0
  rw [h,e] at this
  simp at this
 obtain ⟨j,d,h1,h2,h3,_⟩:=idxP_some h0
 refine ⟨d,List.mem_of_getElem? h2,h3,?_⟩
 rw [h1]
 simp [List.getD,h2]
theorem hit8_eq {l:List Nd}(hk:∀ d,d∈l→d.kind=31∨d.kind=32)(hu:∀ x,x∈l→∀ y,y∈l→x.name=y.name→x=y)(x:Nd)(h7:hit7 l x=false):hit8 l x=wrongAt (namesK l 31) (namesK l 32) 8 x.kind x.name:=by
 unfold hit7 at h7
 unfold hit8 wrongAt
 rw [idxN_any] at h7
 rw [idxS_has,idxS_has,has_names,has_names]
 by_cases hw:wantsI x.kind=0
 ·rcases wants_both x.kind with ⟨h1,h2⟩ | ⟨h1,h2⟩ | ⟨h1,h2⟩<;>simp [h1,h2]<;>omega
 ·have ha:(l.any fun d=>d.name==x.name)=true:=by
   simp [hw] at h7
   simpa using h7
  obtain ⟨d,hd,hn,hg⟩:=idxP_at ha
  have hn':d.name=x.name:=by simpa using hn
  have one:∀ k:Int,(l.any fun e=>(e.kind==k)&&(e.name==x.name))=(d.kind==k):=fun k=>by
   cases hdk:(d.kind==k) with
   | true=>exact List.any_eq_true.2 ⟨d,hd,by simp [hdk,hn']⟩
   | false =>
     rw [List.any_eq_false]
     intro e he hh
     simp at hh
     have:=hu e he d hd (by rw [hh.2,hn'])
     subst this
     simp at hdk
     exact hdk hh.1
  have hgk:(l.getD (idxN l x.name).toNat nd0).kind=d.kind:=by rw [idxN,hg]
  rw [one,one,hgk]
  rcases wants_both x.kind with ⟨h1,h2⟩ | ⟨h1,h2⟩ | ⟨h1,h2⟩<;>rcases hk d hd with h3 | h3<;>simp [h1,h2,h3]
def oV (o:Option (List UInt8)):List UInt8 × Bool:=match o with
 | some s=>(s,true)
 | none=>([],false)
theorem wrong7 {l:List Nd}(hk:∀ d,d∈l→d.kind=31∨d.kind=32):(∀ n:Nd,wrongN (namesK l 31) (namesK l 32) 7 n=oV (firN (hit7 l) n))∧∀ ks:List Nd,wrongL (namesK l 31) (namesK l 32) 7 ks=oV (firL (hit7 l) ks):=by
 refine Nd.ind2 (fun k s m ks ih=>?_) rfl (fun x ks hx hl=>?_)
 ·rw [wrongN_eq,firN_eq,hit7_eq hk]
  by_cases hh:wrongAt (namesK l 31) (namesK l 32) 7 (Nd.mk k s m ks).kind (Nd.mk k s m ks).name=true
  ·rw [if_pos hh,if_pos hh];rfl
  ·rw [if_neg hh,if_neg hh];exact ih
 ·simp only [wrongL,firL]
  rw [hx]
  cases firN (hit7 l) x with
  | some s=>rfl
  | none=>simp [oV];exact hl
theorem wrong8 {l:List Nd}(hk:∀ d,d∈l→d.kind=31∨d.kind=32)(hu:∀ x,x∈l→∀ y,y∈l→x.name=y.name→x=y) :
 (∀ n:Nd,firN (hit7 l) n=none→wrongN (namesK l 31) (namesK l 32) 8 n=oV (firN (hit8 l) n))∧∀ ks:List Nd,firL (hit7 l) ks=none→wrongL (namesK l 31) (namesK l 32) 8 ks=oV (firL (hit8 l) ks):=by
 refine Nd.ind2 (fun k s m ks ih h0=>?_) (fun _=>rfl) (fun x ks hx hl h0=>?_)
 ·rw [firN_eq] at h0
  have h7:hit7 l (.mk k s m ks)=false:=by
   cases h:hit7 l (.mk k s m ks) with
   | false=>rfl
   | true=>rw [h] at h0;simp at h0
  rw [h7] at h0
  rw [wrongN_eq,firN_eq,hit8_eq hk hu _ h7]
  by_cases hh:wrongAt (namesK l 31) (namesK l 32) 8 (Nd.mk k s m ks).kind (Nd.mk k s m ks).name=true
  ·rw [if_pos hh,if_pos hh];rfl
  ·rw [if_neg hh,if_neg hh];exact ih (by simpa using h0)
 ·have h1:=firL_none h0 x (by simp)
  have h2:firL (hit7 l) ks=none:=by simp only [firL,h1] at h0;exact h0
  simp only [wrongL,firL]
  rw [hx h1]
  cases firN (hit8 l) x with
  | some s=>rfl
  | none=>simp [oV];exact hl h2
theorem q_checkF (x:Nd):Pure X 141 [nd x] (vb (decide (60<x.num))):=by
 refine Pure.run Tryz.func141 ?_
 exact AK.rz Tryz.func141 rfl
theorem declK_names (n:Nd)(k:Int):(declK n k).length=(declS n k).length:=by simp [declK,declS,namesK]
theorem big_arrays {n:Nd}(hd:∀ d,d∈n.kids.dropLast→FV d):((declK n 32).any fun d=>decide (60<d.num))=bigS n.kids.dropLast:=by
 unfold declK bigS
 rw [Bool.eq_iff_iff]
 simp only [List.any_eq_true,List.mem_filter,decide_eq_true_eq,beq_iff_eq]
 constructor
 ·rintro ⟨d,⟨h1,_⟩,h3⟩;exact ⟨d,h1,h3⟩
 ·rintro ⟨d,h1,h3⟩
  refine ⟨d,⟨h1,?_⟩,h3⟩
  have:=hd d h1
  cases this with
  | var s h=>simp at h3
  | arr s m h h0 h1=>rfl
theorem FP_decls {n:Nd}(h:FP n):n.kids≠[]∧∀ d,d∈n.kids.dropLast→FV d:=by
 cases h with
 | mk ds l hd hl=>exact ⟨by simp,by simpa using hd⟩
def planV (n:Nd):Nd:=if (checkS n).1=0 then plainM n else nd0
set_option maxHeartbeats 1000000 in
theorem q_check (n:Nd)(hn:countN n≤1000000000)(hnum:PrI n):Pure X 99 [nd n] (.tup [nd (planV n),.agg [vi (checkS n).1,str (checkS n).2]]):=by
 have hfl:flatTy X.P 107=some [0,1]:=by kernel_rfl
 refine Pure.run Tryz.func99 ?_
 refine AK.pc (q_progOk n hn hnum) ?_
 refine AK.if_ (fun h1=>?_) (fun h1=>?_)
 ·have h1':progOkS n=false:=by have:(!progOkS n)=true:=h1;simpa using this
  have hC:checkS n=(4,[]):=by unfold checkS;rw [if_neg (by simp [h1'])]
  unfold planV
  rw [hC]
  exact AK.rz Tryz.func99 rfl
 have h1':progOkS n=true:=by have:(!progOkS n)=false:=h1;simpa using this
 obtain ⟨fp,hc,hdp⟩:=progOkS_FP h1'
 obtain ⟨hkn,hFV⟩:=FP_decls fp
 have hw9:wN n≤4500:=by
  have:=wN_formed n (FP_formed fp)
  omega
 have hcn:=countN_eq n
 have hll:=length_le_countL n.kids
 have hdl:n.kids.dropLast.length≤1000:=by rw [List.length_dropLast];omega
 have hkind:∀ d,d∈n.kids.dropLast→d.kind=31∨d.kind=32:=fun d hd=>FV_kind (hFV d hd)
 have hfK:∀ k,(declK n k).length≤1000:=fun k=>Nat.le_trans (List.length_filter_le _ _) hdl
 have e0:checkS n=checkS n:=rfl
 conv at e0=>rhs;rw [checkS,if_pos h1']
 refine AK.dn 0 1 ?_
 refine Drv.pg (q_decls n hkn (by omega)) ?_
 refine Drv.pg (q_declared n 32 hkn (by omega)) ?_
 refine Drv.z ?_
 refine AK.pc (q_declared n 31 hkn (by omega)) ?_
 refine AK.gd (fun h2=>?_) (fun h2=>?_)
 ·have h2':8<(declS n 31).length:=by have:=of_decide_eq_true h2;rw [nrows_len,declK_names] at this;omega
  have hC:checkS n=(3,[]):=by rw [e0,if_pos (by simp [manyS,h2'])]
  refine AK.gy ?_
  refine AK.yes ?_
  unfold planV
  rw [hC]
  exact AK.rz Tryz.func99 rfl
 have h2':¬ 8<(declS n 31).length:=by have:=of_decide_eq_false h2;rw [nrows_len,declK_names] at this;omega
 refine AK.gd (fun h3=>?_) (fun h3=>?_)
 ·have h3':4<(declS n 32).length:=by have:=of_decide_eq_true h3;rw [nrows_len,declK_names] at this;omega
  have hC:checkS n=(3,[]):=by rw [e0,if_pos (by simp [manyS,h3'])]
  refine AK.yes ?_
  unfold planV
  rw [hC]
  exact AK.rz Tryz.func99 rfl
 have h3':¬ 4<(declS n 32).length:=by have:=of_decide_eq_false h3;rw [nrows_len,declK_names] at this;omega
 have hmany:¬ manyS n=true:=by simp [manyS]<;>omega
 rw [if_neg hmany] at e0
 have hbig:=q_containsF (declK n 32) 141 [] (fun d=>decide (60<d.num)) (by have:=hfK 32;omega) (fun x _=>q_checkF x) cat0
 rw [big_arrays hFV] at hbig
 refine AK.pc hbig ?_
 refine AK.if_ (fun h4=>?_) (fun h4=>?_)
 ·have h4':bigS n.kids.dropLast=true:=h4
  have hC:checkS n=(3,[]):=by rw [e0,if_pos h4']
  unfold planV
  rw [hC]
  exact AK.rz Tryz.func99 rfl
 have h4':¬ bigS n.kids.dropLast=true:=by have:bigS n.kids.dropLast=false:=h4;simp [this]
 rw [if_neg h4'] at e0
 have htw:∀ i,twG ((n.kids.dropLast.take i).map Nd.name) (n.kids.dropLast.drop i)=twG [] n.kids.dropLast→True:=fun _ _=>trivial
 refine AK.while_ (ι:=Nat) 3 0 (fun i=>i≤n.kids.dropLast.length∧twG ((n.kids.dropLast.take i).map Nd.name) (n.kids.dropLast.drop i)=twG [] n.kids.dropLast)
  (fun i=>[(36,vi i),(35,vi n.kids.dropLast.length),(34,.sl (nrows n.kids.dropLast) .no),(4,.sl (nrows n.kids.dropLast) .no),(1,.ptr 0 0 0),(2,.ptr 1 0 0),(3,.ptr 2 0 0)])
  (fun i=>⟨[[ncells n],[zN],[[vi 0,str []]]],[]⟩) (fun i=>n.kids.dropLast.length-i) ?_ 0 ⟨Nat.zero_le _,rfl⟩ ⟨rfl,by rw [← nrows_len n.kids.dropLast];rfl,rfl,rfl,rfl,rfl,rfl,trivial⟩ rfl rfl rfl rfl rfl
  (fun _=>inferInstance) (fun _=>inferInstance)
 rintro i ⟨hi,hT⟩ IH
 refine AK.ev 100 rfl ?_
 refine AK.if_ (fun h5=>?_) (fun h5=>?_)
 ·have hlt:i<n.kids.dropLast.length:=by have:=of_decide_eq_true h5;omega
  obtain ⟨d,hd⟩:=lget_of_lt n.kids.dropLast hlt
  rw [drop_cons hd] at hT
  simp only [twG] at hT
  have hin:((nrows n.kids.dropLast).take i).drop 0=nrows (n.kids.dropLast.take i):=by rw [nrows_map,nrows_map,List.drop_zero,List.map_take]
  have hany:((n.kids.dropLast.take i).any fun e=>e.name==d.name)=has ((n.kids.dropLast.take i).map Nd.name) d.name:=by rw [has,List.any_map];rfl
  refine AK.ix i (by omega) (nrows_get hd) ?_
  refine AK.dn 0 2 ?_
  refine Drv.rg (fun S'=>Ndo.cut (l:=0) (h:=(i:Int)) (r:=nrows (n.kids.dropLast.take i)) rfl rfl rfl rfl rfl rfl rfl rfl rfl (by omega) (by omega) (by rw [nrows_len];omega) (nrows_al _) (by rw [Int.toNat_natCast];exact hin)) ?_
  refine Drv.pg (q_isName d.name) ?_
  refine Drv.pg (q_containsF (n.kids.dropLast.take i) 191 [.cptr [str d.name]] (fun e=>e.name==d.name) (by rw [List.length_take];omega) (fun x _=>q_isNameF x d.name) (cat1 _)) ?_
  refine Drv.z ?_
  refine AK.if_ (fun h6=>?_) (fun h6=>?_)
  ·have h6':has ((n.kids.dropLast.take i).map Nd.name) d.name=true:=by rw [← hany];exact h6
   rw [if_pos h6'] at hT
   have hC:checkS n=(6,d.name):=by rw [e0,← hT]
   refine AK.dn 48 4 ?_
   refine Drv.wl (Ndo.store rfl rfl rfl rfl rfl rfl rfl) ?_ ?_
   ·exact strip_eq (Ndo.ev rfl rfl rfl) allN
   refine Drv.w (Ndo.store rfl rfl rfl rfl rfl rfl rfl) ?_
   refine Drv.z ?_
   unfold planV
   rw [hC]
   exact AK.rz Tryz.func99 rfl
  ·have h6':¬ has ((n.kids.dropLast.take i).map Nd.name) d.name=true:=by rw [← hany];simp [show _=false from h6]
   rw [if_neg h6'] at hT
   exact IH (i+1) ⟨hlt,by rw [List.take_add_one,hd,List.map_append];exact hT⟩ (by omega) _ _ ⟨vint ((wrap_small (by omega) (by omega)).trans (by omega)),rfl,rfl,rfl,rfl,rfl,rfl,trivial⟩ rfl rfl rfl
 have hie:i=n.kids.dropLast.length:=by have:=of_decide_eq_false h5;omega
 rw [hie,List.drop_length] at hT
 have hT':twG [] n.kids.dropLast=none:=hT.symm
 rw [hT'] at e0
 simp only at e0
 obtain ⟨_,huq⟩:=twG_none hT'
 have w7:=(wrong7 hkind).1 (lastN n)
 have w8:=(wrong8 hkind huq).1 (lastN n)
 have hdS:∀ k,declS n k=namesK n.kids.dropLast k:=fun k=>rfl
 rw [hdS,hdS,w7] at e0
 have hlc:countN (lastN n)≤1000:=by
  unfold lastN
  cases hg:n.kids.getLast? with
  | none=>rw [List.getLastD_eq_getLast?,hg];decide
  | some b =>
    rw [List.getLastD_eq_getLast?,hg]
    have:=countL_mem (List.mem_of_getLast? hg)
    simp only [Option.getD_some];omega
 refine AK.pc (q_body n hkn (by omega)) ?_
 refine AK.pc (q_checkNames n.kids.dropLast (lastN n) (by omega) (by omega)) ?_
 have hnt:namesT n.kids.dropLast (lastN n)=match firN (hit7 n.kids.dropLast) (lastN n) with
  | some s=>(7,s)
  | none=>(trC 8 (firN (hit8 n.kids.dropLast) (lastN n)),(firN (hit8 n.kids.dropLast) (lastN n)).getD []):=rfl
 generalize namesT n.kids.dropLast (lastN n)=T at hnt ⊢
 refine AK.op (Ndo.eqs (r:=!((T.1==0)&&((T.2==[])&&true))) rfl rfl rfl rfl rfl hfl rfl (.inr ⟨rfl,rfl⟩)) ?_
 by_cases hz:firN (hit7 n.kids.dropLast) (lastN n)=none∧firN (hit8 n.kids.dropLast) (lastN n)=none
 ·rw [hz.1,hz.2] at hnt
  rw [w8 hz.1,hz.1,hz.2] at e0
  simp only [oV,trC] at hnt e0
  subst hnt
  refine AK.no ?_
  refine AK.pc (q_plainOf n (FP_PlO fp) (by omega)) ?_
  have hpw:=(plain_w n).1
  have hpc:=count_le_w (plainM n)
  refine AK.pc (q_progOk (plainM n) (by omega) hnum.plain) ?_
  refine AK.if_ (fun h7=>?_) (fun h7=>?_)
  ·have h7':progOkS (plainM n)=false:=by have:(!progOkS (plainM n))=true:=h7;simpa using this
   have hC:checkS n=(5,[]):=by rw [e0];simp [h7']
   unfold planV
   rw [hC]
   exact AK.rz Tryz.func99 rfl
  ·have h7':progOkS (plainM n)=true:=by have:(!progOkS (plainM n))=false:=h7;simpa using this
   have hC:checkS n=(0,[]):=by rw [e0];simp [h7']
   unfold planV
   rw [hC]
   exact AK.rz Tryz.func99 rfl
 ·have hC:checkS n=T∧T.1≠0:=by
   cases h7:firN (hit7 n.kids.dropLast) (lastN n) with
   | some s =>
     rw [h7] at hnt e0
     simp only [oV] at e0
     rw [hnt,e0];simp
   | none =>
     rw [w8 h7] at e0
     rw [h7] at hnt e0
     cases h8:firN (hit8 n.kids.dropLast) (lastN n) with
     | none=>exact absurd ⟨h7,h8⟩ hz
     | some s =>
       rw [h8] at hnt e0
       simp only [oV,trC] at e0 hnt
       rw [hnt,e0];simp
  obtain ⟨hC,hC0⟩:=hC
  refine AK.yes ?_ (ht:=by simp [hC0])
  refine AK.dn 12 2 ?_
  refine Drv.wl (Ndo.store rfl rfl rfl rfl rfl rfl rfl) ?_ ?_
  ·exact strip_eq (Ndo.ev rfl rfl rfl) allN
  refine Drv.w (Ndo.store rfl rfl rfl rfl rfl rfl rfl) ?_
  refine Drv.z ?_
  unfold planV
  rw [hC,if_neg hC0]
  exact AK.rz Tryz.func99 rfl
structure Eg where
 f:Int
 t:Int
 k:Int
 y:Bool
 n:Nd
structure Lp where
 a:Nd
 l:Nd
 h:Int
 x:Int
structure Gr where
 pts:Nat
 pt:Nat
 es:List Eg
 sts:List Nat
 lps:List Lp
 ver:Nat
def gStop (g:Gr):Gr:={ g with es:=g.es++[⟨g.pt,-1,7,false,nd0⟩],sts:=g.sts++[g.es.length],pts:=g.pts+1,pt:=g.pts }
def gLeaf (k:Int)(n:Nd)(g:Gr):Gr:={ g with es:=g.es++[⟨g.pt,g.pts,k,false,n⟩],pts:=g.pts+1,pt:=g.pts }
def gWay (p:Nat)(c:Nd)(y:Bool)(g:Gr):Gr:={ g with es:=g.es++[⟨p,g.pts,4,y,c⟩],pts:=g.pts+1,pt:=g.pts }
def gEdge (f t:Nat)(g:Gr):Gr:={ g with es:=g.es++[⟨f,t,6,false,nd0⟩] }
def gJoin (p:Nat)(g:Gr):Gr:={ gEdge g.pt g.pts (gEdge p g.pts g) with pts:=g.pts+1,pt:=g.pts }
def gIf (c:Nd)(f1 f2:Gr→Gr)(g:Gr):Gr:=gJoin (f1 (gWay g.pt c true g)).pt (f2 (gWay g.pt c false (f1 (gWay g.pt c true g))))
def gLoop (a n:Nd)(g:Gr):Gr:={ g with lps:=g.lps++[⟨a,n,g.pt,0⟩],ver:=g.ver+1 }
def gExit (i:Nat)(g:Gr):Gr:={ g with lps:=g.lps.modify i fun l=>{ l with x:=g.pt },ver:=g.ver+1 }
def gBack (h:Nat)(g:Gr):Gr:=gEdge g.pt h g
def gWh (n a c:Nd)(f:Gr→Gr)(g:Gr):Gr :=
 gExit g.lps.length (gWay g.pts c false (gBack g.pts (f (gWay g.pts c true (gLoop a n (gLeaf 6 nd0 g))))))
def gKs (k:Int)(n:Nd)(ks:List Nd)(fs:List (Gr→Gr))(a:Nd)(g:Gr):Gr :=
 if k=21 then gLeaf 1 n g else if k=22 then gLeaf 2 n g else if k=23 then gLeaf 3 n g else if k=27 then gLeaf 5 (ks.headD nd0) g else if k=28 then gLeaf 6 nd0 g
 else if k=29 then gStop g else if k=24 then gIf (ks.headD nd0) (fs.getD 1 id) (fs.getD 2 id) g else gWh n a (ks.headD nd0) (fs.getD 1 id) g
def goL:List (Nd × (Nd→Gr→Gr) × (Gr→Gr))→Nd→Gr→Gr
 | [],_,g=>g
 | (x,f,_)::l,a,g=>goL l x (f a g)
mutual
def gN:Nd→Nd × (Nd→Gr→Gr) × (Gr→Gr)
 | .mk k s m ks=>(.mk k s m ks,gKs k (.mk k s m ks) ks ((gNs ks).map fun x=>x.2.2),goL (gNs ks) nd0)
def gNs:List Nd→List (Nd × (Nd→Gr→Gr) × (Gr→Gr))
 | []=>[]
 | x::l=>gN x::gNs l
end
def gS (n a:Nd)(g:Gr):Gr:=(gN n).2.1 a g
def gL:List Nd→Nd→Gr→Gr
 | [],_,g=>g
 | x::l,a,g=>gL l x (gS x a g)
theorem gN_mk (k:Int)(s:List UInt8)(m:Int)(ks:List Nd):gN (.mk k s m ks)=(.mk k s m ks,gKs k (.mk k s m ks) ks ((gNs ks).map fun x=>x.2.2),goL (gNs ks) nd0):=by rw [gN]
theorem gN_self (x:Nd):(gN x).1=x:=by obtain ⟨k,s,m,ks⟩:=x;rw [gN_mk]
theorem gNs_cons (x:Nd)(l:List Nd):gNs (x::l)=gN x::gNs l:=by rw [gNs]
theorem gNs_nil:gNs []=[]:=by rw [gNs]
theorem goL_eq:∀ (l:List Nd)(a:Nd)(g:Gr),goL (gNs l) a g=gL l a g
 | [],a,g=>by rw [gNs_nil];rfl
 | x::l,a,g=>by
   rw [gNs_cons]
   have h:gN x=(x,(gN x).2):=Prod.ext (gN_self x) rfl
   rw [h]
   simp only [goL,gL,gS]
   exact goL_eq l x _
theorem gL_cons (x:Nd)(l:List Nd)(a:Nd)(g:Gr):gL (x::l) a g=gL l x (gS x a g):=rfl
theorem gL_app:∀ (l l':List Nd)(a:Nd)(g:Gr),gL (l++l') a g=gL l' (l.getLastD a) (gL l a g)
 | [],l',a,g=>rfl
 | x::l,l',a,g=>by simp only [List.cons_append,gL_cons];rw [gL_app l l' x];cases l<;>simp [gL,List.getLastD]
theorem gS_set (s:List UInt8)(ks:List Nd)(a:Nd)(g:Gr):gS (.mk 21 s 0 ks) a g=gLeaf 1 (.mk 21 s 0 ks) g:=by unfold gS;rw [gN_mk];rfl
theorem gS_put (s:List UInt8)(ks:List Nd)(a:Nd)(g:Gr):gS (.mk 22 s 0 ks) a g=gLeaf 2 (.mk 22 s 0 ks) g:=by unfold gS;rw [gN_mk];rfl
theorem gS_read (s:List UInt8)(ks:List Nd)(a:Nd)(g:Gr):gS (.mk 23 s 0 ks) a g=gLeaf 3 (.mk 23 s 0 ks) g:=by unfold gS;rw [gN_mk];rfl
theorem gS_check (c a:Nd)(g:Gr):gS (.mk 27 [] 0 [c]) a g=gLeaf 5 c g:=by unfold gS;rw [gN_mk];rfl
theorem gS_skip (a:Nd)(g:Gr):gS (.mk 28 [] 0 []) a g=gLeaf 6 nd0 g:=by unfold gS;rw [gN_mk];rfl
theorem gS_stop (a:Nd)(g:Gr):gS (.mk 29 [] 0 []) a g=gStop g:=by unfold gS;rw [gN_mk];rfl
theorem gS_if (c a:Nd)(l l':List Nd)(g:Gr):gS (.mk 24 [] 0 [c,.mk 30 [] 0 l,.mk 30 [] 0 l']) a g=gIf c (gL l nd0) (gL l' nd0) g:=by
 unfold gS
 rw [gN_mk,gNs_cons,gNs_cons,gNs_cons,gNs_nil,gN_mk 30,gN_mk 30,funext fun g=>goL_eq l nd0 g,funext fun g=>goL_eq l' nd0 g];rfl
theorem gS_wh (c a:Nd)(l:List Nd)(g:Gr):gS (.mk 25 [] 0 [c,.mk 30 [] 0 l]) a g=gWh (.mk 25 [] 0 [c,.mk 30 [] 0 l]) a c (gL l nd0) g:=by
 unfold gS
 rw [gN_mk,gNs_cons,gNs_cons,gNs_nil,gN_mk 30,funext fun g=>goL_eq l nd0 g];rfl
inductive PS:Nd→Prop
 | set (s:List UInt8) (a:Nd) (h:nameS s=true) (ha:FE a):PS (.mk 21 s 0 [a])
 | put (s:List UInt8) (a b:Nd) (h:nameS s=true) (ha:FE a) (hb:FE b):PS (.mk 22 s 0 [a,b])
 | read (s:List UInt8) (h:nameS s=true):PS (.mk 23 s 0 [])
 | ifs (c:Nd) (l l':List Nd) (hc:FC c) (hl:∀ x,x∈l→PS x) (hl':∀ x,x∈l'→PS x):PS (.mk 24 [] 0 [c,.mk 30 [] 0 l,.mk 30 [] 0 l'])
 | whil (c:Nd) (l:List Nd) (hc:FC c) (hl:∀ x,x∈l→PS x):PS (.mk 25 [] 0 [c,.mk 30 [] 0 l])
 | check (c:Nd) (hc:FC c):PS (.mk 27 [] 0 [c])
 | skip:PS (.mk 28 [] 0 [])
 | stop:PS (.mk 29 [] 0 [])
theorem plainML_PS {l:List Nd}(h:∀ x,x∈l→∀ y,y∈plain1 x→PS y):∀ y,y∈plainML l→PS y:=by
 induction l with
 | nil=>intro y hy;rw [plainML_nil] at hy;cases hy
 | cons x l ih =>
   intro y hy
   rw [plainML_cons] at hy
   rcases List.mem_append.1 hy with hy | hy
   ·exact h x (by simp) y hy
   ·exact ih (fun z hz=>h z (by simp [hz])) y hy
theorem plainB_eq (l:List Nd):plain1 (.mk 30 [] 0 l)=[.mk 30 [] 0 (plainML l)]:=by rw [plain1_no (by simp),plainM_mk]
theorem plain1_E {a:Nd}(h:FE a):plain1 a=[a]:=by rw [plain1_no (by have:=FE_kind h;omega),plainE h]
theorem plain1_C {a:Nd}(h:FC a):plain1 a=[a]:=by rw [plain1_no (by have:=FC_kind h;omega),plainC h]
theorem FS_PS {n:Nd}(h:FS n):∀ y,y∈plain1 n→PS y:=by
 induction h with
 | set s a h ha=>intro y hy;rw [plain1_no (by simp),plainM_mk,plainML_cons,plainML_nil,plain1_E ha] at hy;simp at hy;subst hy;exact .set s a h ha
 | put s a b h ha hb=>intro y hy;rw [plain1_no (by simp),plainM_mk,plainML_cons,plainML_cons,plainML_nil,plain1_E ha,plain1_E hb] at hy;simp at hy;subst hy;exact .put s a b h ha hb
 | read s h=>intro y hy;rw [plain1_no (by simp),plainM_mk,plainML_nil] at hy;simp at hy;subst hy;exact .read s h
 | ifs c l l' hc hl hl' ihl ihl' =>
   intro y hy
   rw [plain1_no (by simp),plainM_mk,plainML_cons,plainML_cons,plainML_cons,plainML_nil,plain1_C hc,plainB_eq,plainB_eq] at hy;simp at hy;subst hy
   exact .ifs c _ _ hc (plainML_PS ihl) (plainML_PS ihl')
 | whil c l hc hl ihl =>
   intro y hy
   rw [plain1_no (by simp),plainM_mk,plainML_cons,plainML_cons,plainML_nil,plain1_C hc,plainB_eq] at hy;simp at hy;subst hy
   exact .whil c _ hc (plainML_PS ihl)
 | for_ s a b l h ha hb hl ihl =>
   intro y hy
   rw [plain1_for,plainML_cons,plainML_cons,plainML_cons,plainML_nil,plain1_E ha,plain1_E hb,plainB_eq] at hy
   simp only [List.cons_append,List.nil_append,forT,List.mem_cons,List.not_mem_nil,or_false] at hy
   rcases hy with rfl | rfl
   ·exact .set s a h ha
   ·refine .whil _ _ (.mk 11 _ _ (by omega) (by omega) (.var s h) hb) fun y hy=>?_
    rcases List.mem_append.1 hy with hy | hy
    ·exact plainML_PS ihl y hy
    ·simp at hy;subst hy
     exact .set s _ h (.two 6 _ _ (.inl rfl) (.var s h) (.num 1 (by omega) (by omega)))
 | check c hc=>intro y hy;rw [plain1_no (by simp),plainM_mk,plainML_cons,plainML_nil,plain1_C hc] at hy;simp at hy;subst hy;exact .check c hc
 | skip=>intro y hy;rw [plain1_no (by simp),plainM_mk,plainML_nil] at hy;simp at hy;subst hy;exact .skip
 | stop=>intro y hy;rw [plain1_no (by simp),plainM_mk,plainML_nil] at hy;simp at hy;subst hy;exact .stop
structure Gr.le (g g':Gr)(k:Nat):Prop where
 pts:g.pts≤g'.pts∧g'.pts≤g.pts+4*k
 pt:g'.pt<g'.pts
 es:∃ l,g'.es=g.es++l∧l.length≤4*k∧∀ e,e∈l→(0≤e.f∧e.f<g'.pts)∧(e.t=-1∨(0≤e.t∧e.t<g'.pts))
 lps:∃ l,g'.lps=g.lps++l∧l.length≤k
 ver:g.ver≤g'.ver∧g'.ver≤g.ver+2*k
 sts:∃ l,g'.sts=g.sts++l∧l.length≤k
theorem Gr.le.refl {g:Gr}(h:g.pt<g.pts):g.le g 0:=⟨by omega,h,⟨[],by simp,by simp,fun e he=>by cases he⟩,⟨[],by simp,by simp⟩,by omega,⟨[],by simp,by simp⟩⟩
theorem Gr.le.trans {a b c:Gr}{k l m:Nat}(h:a.le b k)(h':b.le c l)(hm:k+l≤m):a.le c m:=by
 obtain ⟨e1,h1,h2,h3⟩:=h.es
 obtain ⟨e2,h4,h5,h6⟩:=h'.es
 obtain ⟨l1,g1,g2⟩:=h.lps
 obtain ⟨l2,g3,g4⟩:=h'.lps
 obtain ⟨s1,g5,g6⟩:=h.sts
 obtain ⟨s2,g7,g8⟩:=h'.sts
 have:=h.pts
 have:=h'.pts
 have:=h.ver
 have:=h'.ver
 refine ⟨by omega,h'.pt,⟨e1++e2,by rw [h4,h1,List.append_assoc],by simp;omega,fun e he=>?_⟩,⟨l1++l2,by rw [g3,g1,List.append_assoc],by simp;omega⟩,by omega,⟨s1++s2,by rw [g7,g5,List.append_assoc],by simp;omega⟩⟩
 rcases List.mem_append.1 he with he | he
 ·obtain ⟨q1,q2⟩:=h3 e he
  refine ⟨by omega,?_⟩
  rcases q2 with q2 | q2
  ·exact .inl q2
  ·exact .inr (by omega)
 ·exact h6 e he
theorem Gr.le.up {a b:Gr}{k m:Nat}(h:a.le b k)(hm:k≤m):a.le b m:=h.trans (.refl h.pt) (by omega)
theorem leaf_le (k:Int)(n:Nd){g:Gr}(h:g.pt<g.pts):g.le (gLeaf k n g) 1 :=
 ⟨by simp [gLeaf],by simp [gLeaf],⟨_,rfl,by simp,fun e he=>by simp at he;subst he;simp [gLeaf];omega⟩,⟨[],by simp [gLeaf],by simp⟩,by simp [gLeaf],⟨[],by simp [gLeaf],by simp⟩⟩
theorem stop_le {g:Gr}(h:g.pt<g.pts):g.le (gStop g) 1 :=
 ⟨by simp [gStop],by simp [gStop],⟨_,rfl,by simp,fun e he=>by simp at he;subst he;simp [gStop];omega⟩,⟨[],by simp [gStop],by simp⟩,by simp [gStop],⟨_,rfl,by simp⟩⟩
theorem way_le (p:Nat)(c:Nd)(y:Bool){g:Gr}(h:p<g.pts):g.le (gWay p c y g) 1 :=
 ⟨by simp [gWay],by simp [gWay],⟨_,rfl,by simp,fun e he=>by simp at he;subst he;simp [gWay];omega⟩,⟨[],by simp [gWay],by simp⟩,by simp [gWay],⟨[],by simp [gWay],by simp⟩⟩
theorem edge_le (t:Nat){g:Gr}(h:g.pt<g.pts)(ht:t<g.pts):g.le (gBack t g) 1 :=
 ⟨by simp [gBack,gEdge],h,⟨_,rfl,by simp,fun e he=>by simp at he;subst he;simp [gBack,gEdge];omega⟩,⟨[],by simp [gBack,gEdge],by simp⟩,by simp [gBack,gEdge],⟨[],by simp [gBack,gEdge],by simp⟩⟩
theorem join_le (p:Nat){g:Gr}(h:g.pt<g.pts)(hp:p<g.pts):g.le (gJoin p g) 1 :=
 ⟨by simp [gJoin,gEdge],by simp [gJoin,gEdge],⟨[⟨p,g.pts,6,false,nd0⟩,⟨g.pt,g.pts,6,false,nd0⟩],by simp [gJoin,gEdge],by simp,fun e he=>by simp at he;rcases he with rfl | rfl<;>simp [gJoin,gEdge]<;>omega⟩,⟨[],by simp [gJoin,gEdge],by simp⟩,by simp [gJoin,gEdge],⟨[],by simp [gJoin,gEdge],by simp⟩⟩
theorem loop_le (a n:Nd){g:Gr}(h:g.pt<g.pts):g.le (gLoop a n g) 1 :=
 ⟨by simp [gLoop],h,⟨[],by simp [gLoop],by simp,fun e he=>by cases he⟩,⟨_,rfl,by simp⟩,by simp [gLoop],⟨[],by simp [gLoop],by simp⟩⟩
theorem modify_app {α:Type}(l l':List α)(f:α→α):(l++l').modify l.length f=l++l'.modify 0 f:=by
 apply List.ext_getElem?
 intro j
 rw [List.getElem?_modify]
 rcases Nat.lt_or_ge j l.length with h | h
 ·rw [List.getElem?_append_left h,List.getElem?_append_left h]
  simp [show l.length≠j by omega]
 ·rw [List.getElem?_append_right h,List.getElem?_append_right h,List.getElem?_modify]
  by_cases hj:l.length=j
  ·simp [hj]
  ·simp [hj,show ¬ 0=j-l.length by omega]
theorem exit_le {g g':Gr}{k:Nat}(h:g.le g' k):g.le (gExit g.lps.length g') (k+1):=by
 obtain ⟨l,h1,h2⟩:=h.lps
 obtain ⟨e,h3,h4,h5⟩:=h.es
 obtain ⟨s,h6,h7⟩:=h.sts
 have:=h.pts
 have:=h.ver
 exact ⟨by simp only [gExit];omega,h.pt,⟨e,by simp only [gExit];exact h3,by omega,h5⟩,⟨l.modify 0 fun x=>{ x with x:=g'.pt },by simp only [gExit];rw [h1,modify_app],by simp;omega⟩,by simp only [gExit];omega,⟨s,by simp only [gExit];exact h6,by omega⟩⟩
abbrev bG (k:Nat):Nat:=6*k
theorem gL_le {l:List Nd}(h:∀ x,x∈l→∀ (a:Nd)(g:Gr),g.pt<g.pts→g.le (gS x a g) (bG (wN x))):∀ (a:Nd)(g:Gr),g.pt<g.pts→g.le (gL l a g) (bG (wL l)):=by
 induction l with
 | nil=>intro a g hp;exact (Gr.le.refl hp).up (by simp [wL])
 | cons x l ih =>
   intro a g hp
   rw [gL_cons]
   have h1:=h x (by simp) a g hp
   exact h1.trans (ih (fun y hy=>h y (by simp [hy])) x _ h1.pt) (by simp only [wL,bG];omega)
theorem if_le {c:Nd}{f1 f2:Gr→Gr}{k1 k2:Nat}(h1:∀ g:Gr,g.pt<g.pts→g.le (f1 g) k1)(h2:∀ g:Gr,g.pt<g.pts→g.le (f2 g) k2){g:Gr}(hp:g.pt<g.pts):g.le (gIf c f1 f2 g) (k1+k2+3):=by
 unfold gIf
 have a1:=way_le g.pt c true hp
 have a2:=h1 _ a1.pt
 have a12:=a1.trans a2 (Nat.le_refl _)
 have hp2:g.pt<(f1 (gWay g.pt c true g)).pts:=Nat.lt_of_lt_of_le hp a12.pts.1
 have a3:=way_le g.pt c false hp2
 have a4:=h2 _ a3.pt
 have a34:=a3.trans a4 (Nat.le_refl _)
 have hq:(f1 (gWay g.pt c true g)).pt<(f2 (gWay g.pt c false (f1 (gWay g.pt c true g)))).pts:=Nat.lt_of_lt_of_le a2.pt a34.pts.1
 exact (a12.trans a34 (Nat.le_refl _)).trans (join_le _ a4.pt hq) (by omega)
theorem wh_le {n a c:Nd}{f:Gr→Gr}{k:Nat}(h1:∀ g:Gr,g.pt<g.pts→g.le (f g) k){g:Gr}(hp:g.pt<g.pts):g.le (gWh n a c f g) (k+6):=by
 unfold gWh
 have a1:=leaf_le 6 nd0 hp
 have a2:=loop_le a n a1.pt
 have a12:=a1.trans a2 (Nat.le_refl _)
 have hh:g.pts<(gLoop a n (gLeaf 6 nd0 g)).pts:=by simp [gLoop,gLeaf]
 have a3:=way_le g.pts c true hh
 have a4:=h1 _ a3.pt
 have a34:=a3.trans a4 (Nat.le_refl _)
 have hh2:=Nat.lt_of_lt_of_le hh a34.pts.1
 have a5:=edge_le g.pts a4.pt hh2
 have hh3:=Nat.lt_of_lt_of_le hh2 a5.pts.1
 have a6:=way_le g.pts c false hh3
 exact (exit_le ((a12.trans a34 (Nat.le_refl _)).trans (a5.trans a6 (Nat.le_refl _)) (Nat.le_refl _))).up (by omega)
theorem PS_le {n:Nd}(h:PS n):∀ (a:Nd)(g:Gr),g.pt<g.pts→g.le (gS n a g) (bG (wN n)):=by
 induction h with
 | set s b h hb=>intro a g hp;rw [gS_set];exact (leaf_le _ _ hp).up (by simp only [wN,bG];omega)
 | put s b c h hb hc=>intro a g hp;rw [gS_put];exact (leaf_le _ _ hp).up (by simp only [wN,bG];omega)
 | read s h=>intro a g hp;rw [gS_read];exact (leaf_le _ _ hp).up (by simp only [wN,bG];omega)
 | ifs c l l' hc hl hl' ihl ihl'=>intro a g hp;rw [gS_if];exact (if_le (gL_le ihl nd0) (gL_le ihl' nd0) hp).up (by simp only [wN,wL,bG,List.length_nil];omega)
 | whil c l hc hl ihl=>intro a g hp;rw [gS_wh];exact (wh_le (gL_le ihl nd0) hp).up (by simp only [wN,wL,bG,List.length_nil];omega)
 | check c hc=>intro a g hp;rw [gS_check];exact (leaf_le _ _ hp).up (by simp only [wN,bG];omega)
 | skip=>intro a g hp;rw [gS_skip];exact (leaf_le _ _ hp).up (by simp only [wN,wL,bG,List.length_nil];omega)
 | stop=>intro a g hp;rw [gS_stop];exact (stop_le hp).up (by simp only [wN,wL,bG,List.length_nil];omega)
theorem PSL_le {l:List Nd}(h:∀ x,x∈l→PS x)(a:Nd)(g:Gr)(hp:g.pt<g.pts):g.le (gL l a g) (bG (wL l)):=gL_le (fun x hx=>PS_le (h x hx)) a g hp
end Go.V
namespace Go.V
open Go
section
variable {X:Cx}{B:Bx}{E E':Env}{S S':St}{w w':World}{F F':Frm}{a:Act}{N:Nat}{R:AE→St→Prop}{ops:Array Oper}{i:Nat}{o:Oper}{p q:Operand}
theorem tok_cur (hI:Inv X E S w){t v:Nat}{k:Tk}(hk:E.toks[t]?=some k)(hS:S.toks[t]?=some v):v=k.len:=by
 have h1:=hI.nt
 have h2:(E.toks.map Tk.len)[t]?=some k.len:=by simp [hk]
 rw [h1,hS] at h2
 exact Option.some.inj h2
theorem Inv.setZ (hI:Inv X E S w){tk:List Nat}(h:Inv X E' ⟨S.boxes,tk⟩ w')(hbx:E'.boxes=E.boxes)(hsame:∀ (i b s:Nat),E.boxes[i]?=some (some (b,s))→w'.heap[b]?=w.heap[b]?){b r j:Nat}{rows:List (List AV)}{cs:List AV}{z z':AV}
 (hb:S.boxes[b]?=some rows)(hr:rows[r]?=some cs)(hc:cs[j]?=some z)(hz:∀ u,Rel E w u z→Rel E' w' u z'):Inv X E' ⟨S.boxes.set b (rows.set r (cs.set j z')),tk⟩ w' :=
 { h with
   nb:=by have:=h.nb;simpa using this
   box:=fun i blk sz rows' h1 h2=>by
    rcases get_set h2 with ⟨rfl,rfl⟩ | ⟨_,h2⟩
    ·have h1o:=h1
     rw [hbx] at h1o
     obtain ⟨arr,e,hh,hs,hl,hrel⟩:=hI.box i blk sz rows h1o hb
     obtain ⟨arr1,e1,hh1,hs1,hl1,hrel1⟩:=h.box i blk sz rows h1 hb
     have:=hsame _ _ _ h1o
     rw [hh,hh1] at this
     cases this
     refine ⟨arr,e,hh1,by simpa using hs,fun q hq=>?_,fun k q p x v hk hp hv=>?_⟩
     ·rcases List.mem_or_eq_of_mem_set hq with hq | rfl
      ·exact hl q hq
      ·simpa using hl cs (List.mem_of_getElem? hr)
     ·rcases get_set hk with ⟨rfl,rfl⟩ | ⟨_,hk⟩
      ·rcases get_set hp with ⟨rfl,rfl⟩ | ⟨_,hp⟩
       ·exact hz v (hrel k cs p _ v hr hc hv)
       ·exact hrel1 k cs p x v hr hp hv
      ·exact hrel1 k q p x v hk hp hv
    ·exact h.box i blk sz rows' h1 h2 }
theorem Rel.mintP (hI:Inv X E S w){v:Value}(h:Rel E w v (.sl [] .tight)):Rel (E.mint 0) w v (.psl [] S.toks.length 0):=by
 have hl:S.toks.length=E.toks.length:=by rw [← hI.nt];simp
 cases h with
 | sl _ _ a n cap b o sz vals hn hx ha hsz hm hc hr hs hcap =>
   subst hn
   exact .psl [] _ 0 a _ cap ⟨0,none⟩ sz vals rfl hx hcap (by rw [hl];exact getElem?_snoc_new _ _) (Nat.le_refl _) (fun r hr=>by cases hr) (fun _=>⟨rfl,hs⟩) (fun i j r x h=>by simp at h) (fun r hr=>by cases hr)
theorem AK.mintP {K:List Item}(b r j:Nat){m:Nat}{rows:List (List AV)}{cs:List AV}{bx:List (List (List AV))}{tk:List Nat}(hk:AK X B K F ⟨bx,tk⟩ R)(hb:S.boxes[b]?=some rows:=by rfl)(hr:rows[r]?=some cs:=by rfl)
 (hc:cs[j]?=some (.sl [] .tight):=by rfl)(hn:S.toks.length=m:=by rfl)(hbx:S.boxes.set b (rows.set r (cs.set j (.psl [] m 0)))=bx:=by rfl)(htk:S.toks++[0]=tk:=by rfl):AK X B K F S R:=by
 subst hn;subst hbx;subst htk
 intro E w a b' cs' hI hF hn hm hb'
 have ev:=mint_ev E w 0
 have nt:E.toks.length=S.toks.length:=by rw [← hI.nt];simp
 exact Fin.from (Steps.refl _ _) (ev.weaken (by rw [hI.nb];exact hn) (by omega)) (hk (E.mint 0) w a b' cs' (hI.setZ (hI.mint 0) rfl (fun _ _ _ _=>rfl) hb hr hc fun u hu=>Rel.mintP hI hu) (hF.mint 0) (by simpa using hn) (by simp;omega) hb')
theorem Ndo.ixP {t e tk v n:Nat}{ik:IntKind}{y ye:Ty}{rows:List (List AV)}(hn:n<rows.length)(hS:S.toks[tk]?=some v)(hl:∀ r,r∈rows→r.length=ye.size)(ho:ops[i]?=some o:=by rfl)(hw:wantA ops F o=some true:=by rfl)
 (hop:o.op=.indexAddr t p q:=by rfl)(hp:opr X F p=some (.psl rows tk v):=by rfl)(hq:opr X F q=some (.val (.int ik n)):=by rfl)(hy:X.ty t=some y:=by rfl)(hyk:y.k=.slc e:=by rfl)(hye:X.ty e=some ye:=by rfl) :
 Ndo X N ops i o F (.pp rows tk v n 0) S S:=by
 refine Ndo.val ho hw fun F' E w a hc hI hF=>?_
 rw [hop] at hc
 have h1:=opr_sound hI hF ((hc p (by simp [Op.operands])).trans hp)
 have h2:=opr_sound hI hF ((hc q (by simp [Op.operands])).trans hq)
 obtain ⟨d,hdd,hd2⟩:=(X.ty_ok t y hy).agg
 simp only [hyk] at hd2
 obtain ⟨rfl,ye',hye',hne⟩:=hd2
 rw [hye] at hye';cases hye'
 cases hh2:a.eval q<;>rw [hh2] at h2<;>cases h2
 generalize hh1:a.eval p=u at h1
 have h1':=h1
 cases h1 with
 | psl _ _ _ ad m cap k sz vals hm hx hcap hk hv hsz hpv hr hf =>
   have hpv:=hpv (tok_cur hI hk hS)
   obtain ⟨kl,ksp⟩:=k
   cases ksp with
   | none=>obtain ⟨h,_⟩:=hpv;omega
   | some q' =>
     obtain ⟨b,c,s⟩:=q'
     obtain ⟨_,rfl,rfl,rfl,_⟩:=hpv
     refine ⟨.pointer (some ⟨b,n*ye.size,none⟩),?_,?_⟩
     ·have hin:(n:Int)<(m:Int):=by omega
      simp [execOp,hop,hh1,hh2,Instr.indexAt,asIntOf,run_underlying hdd,hin,sizeOf_run hye,addr_add]
      intro h;omega
     ·have:=Rel.pp (E:=E) (w:=w) rows tk v n 0 b ye.size m c h1' hn hl
      simpa using this
theorem Ndo.ldP {t tk v j o':Nat}{y:Ty}{r:List AV}{rows:List (List AV)}{x:AV}(hr:rows[j]?=some r)(hS:S.toks[tk]?=some v)(hl:o'+y.size≤r.length)(ho:ops[i]?=some o:=by rfl)(hw:wantA ops F o=some true:=by rfl)
 (hop:o.op=.load t p:=by rfl)(hp:opr X F p=some (.pp rows tk v j o'):=by rfl)(hy:X.ty t=some y:=by rfl)(hx:finA (isAggK y.k) ((r.drop o').take y.size)=some x:=by rfl):Ndo X N ops i o F x S S:=by
 refine Ndo.val ho hw fun F' E w a hc hI hF=>?_
 rw [hop] at hc
 have h1:=opr_sound hI hF ((hc p (by simp [Op.operands])).trans hp)
 obtain ⟨b,sz,n,cap,hu,hrel,hi,hsz⟩:=h1.pp_inv
 generalize hU:Value.slice (some ⟨b,0,none⟩) n cap=U at hrel
 cases hrel with
 | psl _ _ _ a0 n0 cap0 k sz' vals hm hx hcap hk hv hsz' hpv hrr hf =>
   cases hU
   have hpv:=hpv (tok_cur hI hk hS)
   obtain ⟨kl,ksp⟩:=k
   cases ksp with
   | none=>obtain ⟨h,_⟩:=hpv;omega
   | some q' =>
     obtain ⟨b',c,s⟩:=q'
     obtain ⟨_,rfl,rfl,hab,arr,e,hh,hcs,hcl⟩:=hpv
     simp only [Option.some.injEq,Addr.mk.injEq,and_true] at hab
     subst hab
     have hrl:=hsz r (List.mem_of_getElem? hr)
     have:sz'=sz:=by rw [← hsz' r (List.mem_of_getElem? hr),hrl]
     subst this
     have hcell:∀ jj,jj<y.size→w.cell? ⟨b,j*sz'+o'+jj,none⟩=some (vals j (o'+jj)):=fun jj hjj=>by
      have:=hcl j (o'+jj) (by omega) (by omega)
      rw [← Nat.add_assoc] at this
      simp only [World.cell?,hh]
      exact this
     refine ⟨_,by simp [execOp,hop,hu,Instr.loadAt,Instr.sureAddr,loadVar_run hy _ hcell],fin_rel (y:=y) (vals:=fun jj=>vals j (o'+jj)) (cs:=(r.drop o').take y.size) (by simp;omega) (fun jj x hx=>?_) ‹_›⟩
     have hj:jj<y.size:=by have:=lt_of_get hx;simp at this;omega
     exact hrr j (o'+jj) r x hr (by simpa [List.getElem?_take,hj] using hx)
end
end Go.V
