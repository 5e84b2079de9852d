/- A part of the proof of the claim that the last text states: no condition of its own. -/
import Derived.Test.YtnkbifkbpdmchaaGreatDoorE15
set_option linter.unusedVariables false
set_option linter.unusedSimpArgs false
namespace Go.V
open Go Go.Proofs
abbrev HV (n:Nd)(c:Cf)(e:Nd)(d v t d1:Int):Prop:=Hands X 33 [.ptr 0 0 0,nd e] ⟨[[wk n c d]],[]⟩ (vR (v,t,d1)) ⟨[[wk n c d1]],[]⟩
abbrev AV10 (n:Nd)(c:Cf)(e:Nd)(a b d:Int)(T:VR):Prop:=AK X ⟨33,Tryz.f33,1,0⟩ (locG false 10 Tryz.f33) Fv (Sv n c e a b d) (fun e S=>e=.ret (vR T)∧S=⟨[[wk n c T.2.2]],[]⟩)
abbrev HVT (n:Nd)(c:Cf)(e:Nd)(d:Int)(T:VR):Prop:=Hands X 33 [.ptr 0 0 0,nd e] ⟨[[wk n c d]],[]⟩ (vR T) ⟨[[wk n c T.2.2]],[]⟩
theorem q_vp0 (n:Nd)(c:Cf)(k:Int)(s:List UInt8)(m d:Int)(T:VR)(h:AV10 n c (.mk k s m []) 0 0 d T):HVT n c (.mk k s m []) d T:=by
 refine Hands.run Tryz.func33 ?_
 refine AK.op Ndo.buildA ?_
 refine AK.loop ?_
 refine AK.ev 100 rfl ?_
 refine AK.ifj (e:=false) 0 10 (fun h=>nomatch h) (fun _=>?_)
 exact AK.back' 3 0 h ⟨rfl,rfl,rfl,trivial⟩ rfl rfl rfl rfl rfl
theorem q_vp1 (n:Nd)(c:Cf)(k:Int)(s:List UInt8)(m d:Int)(x:Nd)(v t d1:Int)(T:VR)(ihx:HV n c x d v t d1)(hno:¬ t=0→T=(0,t,d1))
 (h:t=0→AV10 n c (.mk k s m [x]) v 0 d1 T):HVT n c (.mk k s m [x]) d T:=by
 refine Hands.run Tryz.func33 ?_
 refine AK.op Ndo.buildA ?_
 refine AK.loop ?_
 refine AK.ev 100 rfl ?_
 refine AK.yes ?_
 refine AK.ix 0 (by decide) (nrows_get (l:=[x]) rfl) ?_
 refine AK.hc [0] [] ihx ?_
 refine AK.sto ⟨[[wk n c d1],[ncells (.mk k s m [x])],[[vi 0,vi 0]],[ncells x]],[]⟩ ?_
 refine AK.if_ (fun g=>?_) (fun g=>?_)
 ·have g':¬ t=0:=by simpa using (show (t != 0)=true from g)
  rw [hno g']
  exact AK.rb Tryz.func33 rfl rfl
 have gt:t=0:=by simpa using (show (t != 0)=false from g)
 refine AK.op (Ndo.aixB (m:=2) (n:=0) (by decide) (by decide)) ?_
 refine AK.back' 3 0 (G:=[(0,.ptr 0 0 0),(3,.ptr 1 0 0),(6,.ptr 2 0 0),(16,.sl (nrows [x]) .no),(17,vi 1),(18,vi 1)]) (bx:=(Sv n c (.mk k s m [x]) v 0 d1).boxes) (tk:=[]) ?_ ⟨rfl,rfl,rfl,rfl,rfl,rfl,trivial⟩ rfl rfl rfl rfl rfl
 refine AK.again ?_
 refine AK.ev 100 rfl ?_
 refine AK.ifj (e:=false) 0 10 (fun h=>nomatch h) (fun _=>?_)
 exact AK.back' 3 0 (h gt) ⟨rfl,rfl,rfl,trivial⟩ rfl rfl rfl rfl rfl
theorem q_vp2 (n:Nd)(c:Cf)(k:Int)(s:List UInt8)(m d:Int)(x y:Nd)(v t d1 v2 t2 d2:Int)(T:VR)(ihx:HV n c x d v t d1)(ihy:HV n c y d1 v2 t2 d2)(hno:¬ t=0→T=(0,t,d1))(hno2:t=0→¬ t2=0→T=(0,t2,d2))
 (h:t=0→t2=0→AV10 n c (.mk k s m [x,y]) v v2 d2 T):HVT n c (.mk k s m [x,y]) d T:=by
 refine Hands.run Tryz.func33 ?_
 refine AK.op Ndo.buildA ?_
 refine AK.loop ?_
 refine AK.ev 100 rfl ?_
 refine AK.yes ?_
 refine AK.ix 0 (by decide) (nrows_get (l:=[x,y]) rfl) ?_
 refine AK.hc [0] [] ihx ?_
 refine AK.sto ⟨[[wk n c d1],[ncells (.mk k s m [x,y])],[[vi 0,vi 0]],[ncells x]],[]⟩ ?_
 refine AK.if_ (fun g=>?_) (fun g=>?_)
 ·have g':¬ t=0:=by simpa using (show (t != 0)=true from g)
  rw [hno g']
  exact AK.rb Tryz.func33 rfl rfl
 have gt:t=0:=by simpa using (show (t != 0)=false from g)
 refine AK.op (Ndo.aixB (m:=2) (n:=0) (by decide) (by decide)) ?_
 refine AK.back' 3 0 (G:=[(0,.ptr 0 0 0),(3,.ptr 1 0 0),(6,.ptr 2 0 0),(16,.sl (nrows [x,y]) .no),(17,vi 2),(18,vi 1)]) (bx:=(Sv n c (.mk k s m [x,y]) v 0 d1).boxes) (tk:=[]) ?_ ⟨rfl,rfl,rfl,rfl,rfl,rfl,trivial⟩ rfl rfl rfl rfl rfl
 refine AK.again ?_
 have hno2':=hno2 gt
 refine AK.ev 100 rfl ?_
 refine AK.yes ?_
 refine AK.ix 1 (by decide) (nrows_get (l:=[x,y]) rfl) ?_
 refine AK.hc [0] [] ihy ?_
 refine AK.sto ⟨[[wk n c d2],[ncells (.mk k s m [x,y])],[[vi v,vi 0]],[ncells y]],[]⟩ ?_
 refine AK.if_ (fun g=>?_) (fun g=>?_)
 ·have g':¬ t2=0:=by simpa using (show (t2 != 0)=true from g)
  rw [hno2' g']
  exact AK.rb Tryz.func33 rfl rfl
 have gt2:t2=0:=by simpa using (show (t2 != 0)=false from g)
 refine AK.op (Ndo.aixB (m:=2) (n:=1) (by decide) (by decide)) ?_
 refine AK.back' 3 0 (G:=[(0,.ptr 0 0 0),(3,.ptr 1 0 0),(6,.ptr 2 0 0),(16,.sl (nrows [x,y]) .no),(17,vi 2),(18,vi 2)]) (bx:=(Sv n c (.mk k s m [x,y]) v v2 d2).boxes) (tk:=[]) ?_ ⟨rfl,rfl,rfl,rfl,rfl,rfl,trivial⟩ rfl rfl rfl rfl rfl
 refine AK.again ?_
 refine AK.ev 100 rfl ?_
 refine AK.ifj (e:=false) 0 10 (fun h=>nomatch h) (fun _=>?_)
 exact AK.back' 3 0 (h gt gt2) ⟨rfl,rfl,rfl,trivial⟩ rfl rfl rfl rfl rfl
theorem knowL1 {vs ars:List (List UInt8)}{k:Int}{s:List UInt8}{m:Int}{x:Nd}(h:knowN vs ars (.mk k s m [x])=true):knowN vs ars x=true:=by
 rw [knowN_eq] at h
 simp [knowL] at h
 exact h.2
theorem knowL2 {vs ars:List (List UInt8)}{k:Int}{s:List UInt8}{m:Int}{x y:Nd}(h:knowN vs ars (.mk k s m [x,y])=true):knowN vs ars x=true∧knowN vs ars y=true:=by
 rw [knowN_eq] at h
 simp [knowL] at h
 exact h.2
theorem knowI {vs ars:List (List UInt8)}{k:Int}{s:List UInt8}{m:Int}{l:List Nd}(h:knowN vs ars (.mk k s m l)=true):(wantsI k=31→idxS 0 vs s≥0)∧(wantsI k=32→idxS 0 ars s≥0):=by
 rw [knowN_eq,Bool.and_eq_true] at h
 have h1:=h.1
 replace h1:(if wantsI k=31 then decide (idxS 0 vs s≥0) else if wantsI k=32 then decide (idxS 0 ars s≥0) else true)=true:=h1
 constructor
 ·intro hw;rw [if_pos hw] at h1;exact of_decide_eq_true h1
 ·intro hw;rw [if_neg (by omega),if_pos hw] at h1;exact of_decide_eq_true h1
theorem q_value (n:Nd)(c:Cf)(hk:VOk n c){e:Nd}(h:FE e):knowN (declS n 31) (declS n 32) e=true→∀ d,HVT n c e d (valM n c e d):=by
 induction h with
 | num m h0 h1 =>
   intro _ d
   exact q_vp0 n c 1 [] m d (m,0,d) (q_v_num n c m d)
 | var s h =>
   intro hn d
   exact q_vp0 n c 2 s 0 d _ (q_v_var n c hk s ((knowI hn).1 rfl) d)
 | cell s a h ha ih =>
   intro hn d
   have hi:=ih (knowL1 hn) d
   rcases hv:valM n c a d with ⟨v,t,d1⟩
   rw [hv] at hi
   rw [valM1 hv]
   refine q_vp1 n c 3 s 0 d a v t d1 _ hi (fun g=>if_neg g) (fun g=>?_)
   rw [if_pos g]
   exact q_v_cell n c hk s ((knowI hn).2 rfl) a v d1
 | len s h =>
   intro hn d
   exact q_vp0 n c 4 s 0 d _ (q_v_len n c hk s ((knowI hn).2 rfl) d)
 | neg a ha ih =>
   intro hn d
   have hi:=ih (knowL1 hn) d
   rcases hv:valM n c a d with ⟨v,t,d1⟩
   rw [hv] at hi
   rw [valM1 hv]
   refine q_vp1 n c 5 [] 0 d a v t d1 _ hi (fun g=>if_neg g) (fun g=>?_)
   rw [if_pos g]
   have e1:(bndV (IntKind.i64.wrap (-v)) d1).2.2=d1:=by unfold bndV;split<;>rfl
   have hq:=q_v_neg n c a v d1
   show AK _ _ _ _ _ fun e S=>_∧S=⟨[[wk n c (bndV (IntKind.i64.wrap (-v)) d1).2.2]],[]⟩
   rw [e1]
   exact hq
 | two k a b hk' ha hb iha ihb =>
   intro hn d
   have hi:=iha (knowL2 hn).1 d
   rcases hv:valM n c a d with ⟨v,t,d1⟩
   rw [hv] at hi
   have hj:=ihb (knowL2 hn).2 d1
   rcases hw:valM n c b d1 with ⟨v2,t2,d2⟩
   rw [hw] at hj
   rw [valM2 hv hw]
   refine q_vp2 n c k [] 0 d a b v t d1 v2 t2 d2 _ hi hj (fun g=>if_neg g) (fun g g2=>by rw [if_pos g,if_neg g2]) (fun g g2=>?_)
   rw [if_pos g,if_pos g2]
   have e1:∀ z,(bndV z d2).2.2=d2:=fun z=>by unfold bndV;split<;>rfl
   show AK _ _ _ _ _ fun e S=>_∧S=⟨[[wk n c (bndV (IntKind.i64.wrap (if k=6 then v+v2 else if k=7 then v-v2 else v*v2)) d2).2.2]],[]⟩
   rw [e1]
   rcases hk' with rfl | rfl | rfl
   ·exact q_v_add n c a b v v2 d2
   ·exact q_v_sub n c a b v v2 d2
   ·exact q_v_mul n c a b v v2 d2
abbrev vR3 (r:VR):AV:=.tup [vi r.1,vi r.2.1,vi r.2.2]
abbrev SpV (n:Nd)(c:Cf)(e:Nd):St:=⟨[[takeC n],[ncells e],[cfcells c]],[]⟩
abbrev PVT (n:Nd)(c:Cf)(e:Nd)(d:Int)(T:VR):Prop:=Pure X 25 [.agg (takeC n),nd e,cf c,vi d] (vR3 T)
theorem p_v_cell (n:Nd)(c:Cf)(hk:VOk n c)(s:List UInt8)(hs:idxS 0 (declS n 32) s≥0)(x:Nd)(a d:Int):AK X ⟨25,Tryz.f25,0,0⟩ (locG false 11 Tryz.f25) [(3,vi d),(4,.ptr 0 0 0),(5,.ptr 1 0 0),(6,.ptr 2 0 0),(11,vi a)] (SpV n c (.mk 3 s 0 [x]))
 (fun e S=>e=.ret (vR3 (cellV (rowV n c s) a d))∧S=⟨[],[]⟩):=by
 obtain ⟨i,r,h1,h2,h3,h4⟩:=hk.row hs
 have kl:=hk.kl
 have hd:=declS_le n 32
 have hq:=p_find (declS n 32) s (by omega)
 rw [h1] at hq
 rw [h3]
 have hlen:((crs r).length:Int)=r.length:=by rw [crs_len]
 have hw:IntKind.i64.wrap (((crs r).length:Int)-1)=r.length-1:=by rw [hlen];exact wrap_small (by omega) (by omega)
 have hb0:=p_between a 0 (IntKind.i64.wrap (((crs r).length:Int)-1))
 rw [hw] at hb0
 refine AK.at_ ?_
 refine AK.ev 100 rfl ?_
 refine AK.yes ?_
 refine AK.db 0 ?_
 refine Drv.pg hq ?_
 refine Drv.ru (fun S'=>Ndo.index rfl rfl rfl rfl rfl rfl rfl rfl rfl (by omega) (map_get (f:=crow) h2)) ?_
 refine Drv.go ?_
 refine Drv.z ?_
 refine AK.pc (p_between a 0 (IntKind.i64.wrap (((crs r).length:Int)-1))) ?_
 rw [hw]
 cases hb:between a 0 ((r.length:Int)-1) with
 | false =>
   have e1:cellV r a d=(0,1,d):=by unfold cellV;rw [if_neg (by simp [hb])]
   rw [e1]
   refine AK.yes ?_
   exact AK.rz Tryz.func25 rfl
 | true =>
   have hb':=between_iff.1 hb
   obtain ⟨j,rfl⟩:∃ j:Nat,a=j:=⟨a.toNat,by omega⟩
   obtain ⟨y,hy⟩:=lget_of_lt r (i:=j) (by omega)
   obtain ⟨w,m⟩:=y
   have e1:cellV r j d=if w=true then (m,0,IntKind.i64.wrap (d+1)) else (0,2,d):=by unfold cellV;rw [if_pos hb];simp [List.getD,hy]
   rw [e1]
   refine AK.no ?_
   refine AK.ix j (by omega) (map_get (f:=ccell) hy) ?_
   cases w with
   | false =>
     refine AK.yes ?_
     exact AK.rz Tryz.func25 rfl
   | true =>
     refine AK.no ?_
     refine AK.ix j (by omega) (map_get (f:=ccell) hy) ?_
     exact AK.rz Tryz.func25 rfl
theorem p_v_fin (n:Nd)(c:Cf)(e:Nd)(x d:Int):AK X ⟨25,Tryz.f25,0,0⟩ (locG false 30 Tryz.f25) [(3,vi d),(4,.ptr 0 0 0),(5,.ptr 1 0 0),(6,.ptr 2 0 0),(14,vi x)] (SpV n c e)
 (fun e S=>e=.ret (vR3 (bndV x d))∧S=⟨[],[]⟩):=by
 refine AK.at_ ?_
 refine AK.ev 100 rfl ?_
 refine AK.pc (p_val x) ?_
 refine AK.if_ (fun g=>?_) (fun g=>?_)
 ·have g':isV x=false:=by simpa using (show (!isV x)=true from g)
  refine AK.rz Tryz.func25 ?_
  unfold bndV;rw [if_neg (by simp [g'])]
 ·have g':isV x=true:=by simpa using (show (!isV x)=false from g)
  refine AK.rz Tryz.func25 ?_
  unfold bndV;rw [if_pos g']
theorem p_v24 (n:Nd)(c:Cf)(k:Int)(a b:Nd)(hk':k=6∨k=7∨k=8)(v v2 d2:Int):AK X ⟨25,Tryz.f25,0,0⟩ (locG false 24 Tryz.f25) [(3,vi d2),(4,.ptr 0 0 0),(5,.ptr 1 0 0),(6,.ptr 2 0 0),(11,vi v),(15,vi v2)] (SpV n c (.mk k [] 0 [a,b]))
 (fun e S=>e=.ret (vR3 (valK n c k [] 0 ([v,v2],0,d2)))∧S=⟨[],[]⟩):=by
 rcases hk' with rfl | rfl | rfl
 ·refine AK.at_ ?_
  refine AK.ev 100 rfl ?_
  refine AK.ifj (e:=true) 30 0 (fun _=>?_) (fun h=>nomatch h)
  exact AK.back' 3 0 (p_v_fin n c _ (IntKind.i64.wrap (v+v2)) d2) ⟨rfl,rfl,rfl,rfl,rfl,trivial⟩ rfl rfl rfl rfl rfl
 ·refine AK.at_ ?_
  refine AK.ev 100 rfl ?_
  refine AK.no ?_
  refine AK.ifj (e:=true) 30 0 (fun _=>?_) (fun h=>nomatch h)
  exact AK.back' 3 0 (p_v_fin n c _ (IntKind.i64.wrap (v-v2)) d2) ⟨rfl,rfl,rfl,rfl,rfl,trivial⟩ rfl rfl rfl rfl rfl
 ·refine AK.at_ ?_
  refine AK.ev 100 rfl ?_
  refine AK.no ?_
  refine AK.ifj (e:=false) 0 30 (fun h=>nomatch h) (fun _=>?_)
  exact AK.back' 3 0 (p_v_fin n c _ (IntKind.i64.wrap (v*v2)) d2) ⟨rfl,rfl,rfl,rfl,rfl,trivial⟩ rfl rfl rfl rfl rfl
theorem p_v20 (n:Nd)(c:Cf)(k:Int)(a b:Nd)(hk':k=6∨k=7∨k=8)(v d1 v2 t2 d2:Int)(hj:PVT n c b d1 (v2,t2,d2)):AK X ⟨25,Tryz.f25,0,0⟩ (locG false 20 Tryz.f25) [(3,vi d1),(4,.ptr 0 0 0),(5,.ptr 1 0 0),(6,.ptr 2 0 0),(11,vi v)] (SpV n c (.mk k [] 0 [a,b]))
 (fun e S=>e=.ret (vR3 (if t2=0 then valK n c k [] 0 ([v,v2],0,d2) else (0,t2,d2)))∧S=⟨[],[]⟩):=by
 have L:=p_v24 n c k a b hk' v v2 d2
 refine AK.at_ ?_
 refine AK.db 0 ?_
 refine Drv.ig 1 (by omega) (nrows_get (l:=[a,b]) rfl) ?_
 refine Drv.pg hj ?_
 refine Drv.z ?_
 refine AK.ifj 0 24 (fun g2=>?_) (fun g2=>?_)
 ·have g':¬ t2=0:=by simpa using (show (t2 != 0)=true from g2)
  rw [if_neg g']
  refine AK.ev 100 rfl ?_
  exact AK.rz Tryz.func25 rfl
 have gt2:t2=0:=by simpa using (show (t2 != 0)=false from g2)
 rw [if_pos gt2]
 exact AK.back' 3 0 L ⟨rfl,rfl,rfl,rfl,rfl,rfl,trivial⟩ rfl rfl rfl rfl rfl
theorem p_value (n:Nd)(c:Cf)(hk:VOk n c){e:Nd}(h:FE e):knowN (declS n 31) (declS n 32) e=true→∀ d,PVT n c e d (valM n c e d):=by
 have kl:=hk.kl
 have hd1:=declS_le n 31
 have hd2:=declS_le n 32
 induction h with
 | num m h0 h1 =>
   intro _ d
   refine Pure.run Tryz.func25 ?_
   refine AK.yes ?_
   exact AK.rz Tryz.func25 rfl
 | var s h =>
   intro hn d
   obtain ⟨i,v,h1,h2,h3⟩:=hk.var ((knowI hn).1 rfl)
   have hq:=p_find (declS n 31) s (by omega)
   rw [h1] at hq
   have e1:valM n c (.mk 2 s 0 []) d=(c.vars.getD (idxS 0 (declS n 31) s).toNat 0,0,d):=rfl
   rw [e1,h3]
   refine Pure.run Tryz.func25 ?_
   refine AK.no ?_
   refine AK.yes ?_
   refine AK.db 0 ?_
   refine Drv.pg hq ?_
   refine Drv.ru (fun S'=>Ndo.index rfl rfl rfl rfl rfl rfl rfl rfl rfl (by omega) (zrs_get h2)) ?_
   refine Drv.go ?_
   refine Drv.z ?_
   exact AK.rz Tryz.func25 rfl
 | len s h =>
   intro hn d
   obtain ⟨i,r,h1,h2,h3,h4⟩:=hk.row ((knowI hn).2 rfl)
   have hq:=p_find (declS n 32) s (by omega)
   rw [h1] at hq
   have e1:valM n c (.mk 4 s 0 []) d=(((rowV n c s).length:Int),0,d):=rfl
   rw [e1,h3]
   refine Pure.run Tryz.func25 ?_
   refine AK.no ?_
   refine AK.no ?_
   refine AK.yes ?_
   refine AK.db 0 ?_
   refine Drv.pg hq ?_
   refine Drv.ru (fun S'=>Ndo.index rfl rfl rfl rfl rfl rfl rfl rfl rfl (by omega) (map_get (f:=crow) h2)) ?_
   refine Drv.go ?_
   refine Drv.z ?_
   refine AK.rz Tryz.func25 ?_
   rw [crs_len]
 | cell s a h ha ih =>
   intro hn d
   have hi:=ih (knowL1 hn) d
   rcases hv:valM n c a d with ⟨v,t,d1⟩
   rw [hv] at hi
   rw [PVT,valM1 hv]
   have L:=p_v_cell n c hk s ((knowI hn).2 rfl) a v d1
   refine Pure.run Tryz.func25 ?_
   refine AK.no ?_
   refine AK.no ?_
   refine AK.no ?_
   refine AK.db 0 ?_
   refine Drv.ig 0 (by omega) (nrows_get (l:=[a]) rfl) ?_
   refine Drv.pg hi ?_
   refine Drv.z ?_
   refine AK.ifj 0 11 (fun g=>?_) (fun g=>?_)
   ·have g':¬ t=0:=by simpa using (show (t != 0)=true from g)
    rw [if_neg g']
    refine AK.ev 100 rfl ?_
    exact AK.rz Tryz.func25 rfl
   have gt:t=0:=by simpa using (show (t != 0)=false from g)
   rw [if_pos gt]
   exact AK.back' 3 0 L ⟨rfl,rfl,rfl,rfl,rfl,trivial⟩ rfl rfl rfl rfl rfl
 | neg a ha ih =>
   intro hn d
   have hi:=ih (knowL1 hn) d
   rcases hv:valM n c a d with ⟨v,t,d1⟩
   rw [hv] at hi
   rw [PVT,valM1 hv]
   refine Pure.run Tryz.func25 ?_
   refine AK.no ?_
   refine AK.no ?_
   refine AK.no ?_
   refine AK.db 0 ?_
   refine Drv.ig 0 (by omega) (nrows_get (l:=[a]) rfl) ?_
   refine Drv.pg hi ?_
   refine Drv.z ?_
   refine AK.if_ (fun g=>?_) (fun g=>?_)
   ·have g':¬ t=0:=by simpa using (show (t != 0)=true from g)
    rw [if_neg g']
    exact AK.rz Tryz.func25 rfl
   have gt:t=0:=by simpa using (show (t != 0)=false from g)
   rw [if_pos gt]
   refine AK.no ?_
   refine AK.ifj (e:=false) 0 30 (fun h=>nomatch h) (fun _=>?_)
   exact AK.back' 3 0 (p_v_fin n c _ (IntKind.i64.wrap (-v)) d1) ⟨rfl,rfl,rfl,rfl,rfl,trivial⟩ rfl rfl rfl rfl rfl
 | two k a b hk' ha hb iha ihb =>
   intro hn d
   have hi:=iha (knowL2 hn).1 d
   rcases hv:valM n c a d with ⟨v,t,d1⟩
   rw [hv] at hi
   have hj:=ihb (knowL2 hn).2 d1
   rcases hw:valM n c b d1 with ⟨v2,t2,d2⟩
   rw [hw] at hj
   rw [PVT,valM2 hv hw]
   refine Pure.run Tryz.func25 ?_
   refine AK.no ?_ (ht:=by rcases hk' with rfl | rfl | rfl<;>rfl)
   refine AK.no ?_ (ht:=by rcases hk' with rfl | rfl | rfl<;>rfl)
   refine AK.no ?_ (ht:=by rcases hk' with rfl | rfl | rfl<;>rfl)
   refine AK.db 0 ?_
   refine Drv.ig 0 (by omega) (nrows_get (l:=[a,b]) rfl) ?_
   refine Drv.pg hi ?_
   refine Drv.z ?_
   refine AK.if_ (fun g=>?_) (fun g=>?_)
   ·have g':¬ t=0:=by simpa using (show (t != 0)=true from g)
    rw [if_neg g']
    exact AK.rz Tryz.func25 rfl
   have gt:t=0:=by simpa using (show (t != 0)=false from g)
   rw [if_pos gt]
   refine AK.no ?_ (ht:=by rcases hk' with rfl | rfl | rfl<;>rfl)
   refine AK.ifj (e:=!(k==5)) 20 0 (fun _=>?_) (fun h=>?_)
   ·exact AK.back' 3 0 (p_v20 n c k a b hk' v d1 v2 t2 d2 hj) ⟨rfl,rfl,rfl,rfl,rfl,trivial⟩ rfl rfl rfl rfl rfl
   ·exfalso;rcases hk' with rfl | rfl | rfl<;>cases h
def valOfM (n:Nd)(c:Cf)(e:Nd):Int × Int:=if confOkM n c&&(exprOkS e&&knowN (declS n 31) (declS n 32) e) then ((valM n c e 0).1,(valM n c e 0).2.1) else (0,9)
theorem rowsB_all:∀ (l:List (List (Bool × Int)))(ss:List Int),l.length=ss.length→rowsB l ss=true→∀ x,x∈l→x.length≤60
 | [],_,_,_=>fun x hx=>by cases hx
 | y::l,[],h,_=>by simp at h
 | y::l,s::ss,h,hb=>fun x hx=>by
   simp only [rowsB,Bool.and_eq_true] at hb
   rcases List.mem_cons.1 hx with rfl | hx
   ·have:=hb.1
    simp only [rowB,Bool.and_eq_true,decide_eq_true_eq] at this
    exact this.1
   ·exact rowsB_all l ss (by simpa using h) hb.2 x hx
theorem VOk_of {n:Nd}{c:Cf}(h:confOkM n c=true):rightS n=true∧VOk n c:=by
 simp only [confOkM,Bool.and_eq_true] at h
 obtain ⟨hr,hc⟩:=h
 obtain ⟨fp,_,hw,hne,hkl⟩:=right_facts hr
 unfold confN confS at hc
 simp only [Bool.and_eq_true,beq_iff_eq] at hc
 obtain ⟨_,h1,h2,_,_,_,_,h3,_⟩:=hc
 exact ⟨hr,hkl,h1,h2,rowsB_all _ _ (by rw [sizesT_len];exact h2) h3⟩
theorem p_valueOf (n:Nd)(c:Cf)(e:Nd)(hn:wN n≤100000000)(he:wN e≤100000000)(hc:CfOk c):Pure X 7 [nd n,cf c,nd e] (.tup [vi (valOfM n c e).1,vi (valOfM n c e).2]):=by
 refine Pure.run Tryz.func7 ?_
 refine AK.pc (p_confOkP n hn c hc) ?_
 cases hq:confOkM n c with
 | false =>
   refine AK.gy ?_
   refine AK.yes ?_
   refine AK.rz Tryz.func7 ?_
   simp [valOfM,hq]
 | true =>
   obtain ⟨hr,hk⟩:=VOk_of hq
   have kl:=hk.kl
   have h1:=declS_le n 31
   have h2:=declS_le n 32
   refine AK.gn ?_
   refine AK.pc (p_exprOk e (by omega)) ?_
   cases hx:exprOkS e with
   | false =>
     refine AK.yes ?_
     refine AK.rz Tryz.func7 ?_
     simp [valOfM,hx]
   | true =>
     refine AK.no ?_
     refine AK.pc (p_take n hr) ?_
     refine AK.pc (p_wrong (declS n 31) (declS n 32) 7 (.inl rfl) (by omega) (by omega) e (by omega)) ?_
     refine AK.pc (p_wrong (declS n 31) (declS n 32) 8 (.inr rfl) (by omega) (by omega) e (by omega)) ?_
     have hkn:=(know_wrong (declS n 31) (declS n 32)).1 e
     cases h7:(wrongN (declS n 31) (declS n 32) 7 e).2 with
     | true =>
       refine AK.gy ?_
       refine AK.yes ?_
       refine AK.rz Tryz.func7 ?_
       simp [valOfM,hkn,h7]
     | false =>
       refine AK.gn ?_
       cases h8:(wrongN (declS n 31) (declS n 32) 8 e).2 with
       | true =>
         refine AK.yes ?_
         refine AK.rz Tryz.func7 ?_
         simp [valOfM,hkn,h8]
       | false =>
         have hkn':knowN (declS n 31) (declS n 32) e=true:=by rw [hkn,h7,h8];rfl
         refine AK.no ?_
         refine AK.pc (p_value n c hk (exprOk_FE hx) hkn' 0) ?_
         refine AK.rz Tryz.func7 ?_
         simp [valOfM,hq,hx,hkn']
theorem q_valueOf (n:Nd)(c:Cf)(e:Nd)(hn:wN n≤100000000)(he:wN e≤100000000)(hnum:PrI n)(hc:CfOk c):Pure X 10 [nd n,cf c,nd e] (.tup [vi (valOfM n c e).1,vi (valOfM n c e).2]):=by
 have hcw:=count_le_w n
 have hp:=q_newProgram n (by omega) hnum
 refine Pure.mk Tryz.func10 rfl rfl (by kernel_rfl) ?_
 refine AK.evj 0 100 rfl ?_
 refine AK.ev 2 rfl ?_
 refine AK.op (Ndo.boxC (x:=cf c)) ?_
 cases hr:rightS n with
 | false =>
   rw [if_neg (by simp [hr])] at hp
   refine AK.pc hp ?_
   refine AK.gy ?_
   refine AK.gy ?_
   refine AK.gy ?_
   refine AK.yes ?_
   refine AK.rz Tryz.func10 ?_
   simp [valOfM,confOkM,hr]
 | true =>
   rw [if_pos hr] at hp
   refine AK.pc hp ?_
   refine AK.gn ?_
   refine AK.pc (q_confOk n hr c hc) ?_
   cases hcn:confN n c with
   | false =>
     refine AK.gy ?_
     refine AK.gy ?_
     refine AK.yes ?_
     refine AK.rz Tryz.func10 ?_
     simp [valOfM,confOkM,hcn]
   | true =>
     have hq:confOkM n c=true:=by unfold confOkM;rw [hr,hcn];rfl
     obtain ⟨_,hk⟩:=VOk_of hq
     have kl:=hk.kl
     refine AK.gn ?_
     refine AK.pc (q_exprOk e (by omega)) ?_
     cases hx:exprOkS e with
     | false =>
       refine AK.gy ?_
       refine AK.yes ?_
       refine AK.rz Tryz.func10 ?_
       simp [valOfM,hx]
     | true =>
       refine AK.gn ?_
       refine AK.pc (q_knows n (by omega) e (by omega)) ?_
       refine AK.if_ (fun g=>?_) (fun g=>?_)
       ·have g':knowN (declS n 31) (declS n 32) e=false:=by simpa using (show (!knowN (declS n 31) (declS n 32) e)=true from g)
        refine AK.rz Tryz.func10 ?_
        simp [valOfM,g']
       ·have g':knowN (declS n 31) (declS n 32) e=true:=by simpa using (show (!knowN (declS n 31) (declS n 32) e)=false from g)
        refine AK.as_ 36 (.ptr 2 0 0) ?_
        refine AK.hc [2] [] (q_value n c hk (exprOk_FE hx) g' 0) ?_
        refine AK.rz Tryz.func10 ?_
        simp [valOfM,hq,hx,g']
theorem t_valueOf (n:Nd)(c:Cf)(e:Nd)(hpn:PrI n)(hln:LnI n)(hlc:CfLn c)(hle:LnI e):Pure X 3 [nd n,cf c,nd e] (vb true):=by
 refine Pure.run Tryz.func3 ?_
 refine AK.pc (t_sz n hln 1048576 (by omega) (by omega)) ?_
 refine AK.if_ (fun g=>?_) (fun g=>?_)
 ·exact AK.rz Tryz.func3 rfl
 have g1:=szR_pos (show 0≤szR (swN n) 1048576 by have:=of_decide_eq_false g;omega)
 refine AK.pc (t_szCf c hlc (szR (swN n) 1048576) (by omega) (by omega)) ?_
 refine AK.if_ (fun g2=>?_) (fun g2=>?_)
 ·exact AK.rz Tryz.func3 rfl
 have g3:=szR_pos (show 0≤szR (swCf c) (szR (swN n) 1048576) by have:=of_decide_eq_false g2;omega)
 refine AK.pc (t_sz e hle (szR (swCf c) (szR (swN n) 1048576)) (by omega) (by omega)) ?_
 refine AK.if_ (fun g4=>?_) (fun g4=>?_)
 ·exact AK.rz Tryz.func3 rfl
 have g5:=szR_pos (show 0≤szR (swN e) (szR (swCf c) (szR (swN n) 1048576)) by have:=of_decide_eq_false g4;omega)
 have w1:=wN_sw.1 n
 have w2:=wN_sw.1 e
 have c1:=count_le_w n
 have c2:=count_le_w e
 have g6:swCf c≤1048576:=by omega
 unfold swCf at g6
 have hc:CfOk c:=⟨by omega,by omega,fun x hx=>by have:=swC_le hx;omega⟩
 refine AK.db 0 ?_
 refine Drv.pg (t_to n (by omega)) ?_
 refine Drv.pg (t_toCf c hc) ?_
 refine Drv.pg (t_to e (by omega)) ?_
 refine Drv.pg (p_valueOf n c e (by omega) (by omega) hc) ?_
 refine Drv.z ?_
 refine AK.pc (t_to n (by omega)) ?_
 refine AK.pc (t_toCf c hc) ?_
 refine AK.pc (t_to e (by omega)) ?_
 refine AK.pc (q_valueOf n c e (by omega) (by omega) hpn hc) ?_
 refine AK.gn ?_ (ht:=by simp)
 refine AK.no ?_ (ht:=by simp)
 refine AK.db 0 ?_
 refine Drv.pg (t_to n (by omega)) ?_
 refine Drv.pg (t_eq n (by omega)) ?_
 refine Drv.z ?_
 refine AK.no ?_
 refine AK.db 0 ?_
 refine Drv.pg (t_toCf c hc) ?_
 refine Drv.pg (t_eqCf c hc) ?_
 refine Drv.z ?_
 refine AK.no ?_
 refine AK.db 0 ?_
 refine Drv.pg (t_to e (by omega)) ?_
 refine Drv.pg (t_eq e (by omega)) ?_
 refine Drv.z ?_
 refine AK.no ?_
 exact AK.rz Tryz.func3 rfl
end Go.V
namespace Go.Proofs.YtnkbifkbpdmchaaGreatDoor.valueOf
open Go Go.Proofs Go.V Go.ChangeShapes Go.WideShapes Go.ChangeAt Go.RowKit
set_option maxRecDepth 100000
theorem contract (H:Type)(enc:TypeId × Value→H)(W:World)(base:Nat)(args:Array Value)(ds gs:List (DataW H))(before:List MemPlace)
 (hval:∀ (j:Nat) t v,Tryz.f3.params[j]?=some t→args[j]?=some v→Value.okWide Tryz.prog W .any base t v)
 (hW:DataW.Whole enc Tryz.prog Tryz.f3.params.toList Rows.fnExactValueOfSpec.vars false W args.toList ds gs before)(hL:laidMetH Tryz.prog Rows.fnExactValueOfRow.laid W)(hs:W.ShapedOpen Tryz.prog) :
 Calls Tryz.prog 3 args W fun e W'=>∃ v,e=.returned v∧Rows.fnExactValueOfSpec.post enc Tryz.prog Tryz.f3 false true false false W args v W':=by
 have hW':=hW
 obtain ⟨p,q,hA0,_,_,_,_⟩:=hW
 have hA:DataW.TrodAll enc Tryz.prog W 0 (fun _=>true) true [24,28,24] args.toList ds p:=hA0
 obtain ⟨v0,vs0,d0,ds0,p0,q0,hargs,rfl,rfl,h0,r0⟩:=trodAll_cons hA
 obtain ⟨v1,vs1,d1,ds1,p1,q1,hargs1,rfl,rfl,h1,r1⟩:=trodAll_cons r0
 obtain ⟨v2,vs2,d2,ds2,p2,q2,hargs2,rfl,rfl,h2,r2⟩:=trodAll_cons r1
 obtain ⟨rfl,rfl,rfl⟩:=trodAll_nil r2
 subst hargs2
 subst hargs1
 have ha0:args[0]?=some v0:=by rw [← Array.getElem?_toList,hargs];rfl
 have ha1:args[1]?=some v1:=by rw [← Array.getElem?_toList,hargs];rfl
 have ha2:args[2]?=some v2:=by rw [← Array.getElem?_toList,hargs];rfl
 obtain ⟨n,n1,n2,n3⟩:=node_of (hval 0 24 v0 rfl ha0) h0
 obtain ⟨c,c2,c3⟩:=conf_of (hval 1 28 v1 rfl ha1) h1
 obtain ⟨e,e1,e2,e3⟩:=node_of (hval 2 24 v2 rfl ha2) h2
 have hR:RelL W args.toList [nd n,cf c,nd e]:=by rw [hargs];exact .cons n3 (.cons c3 (.cons e3 .nil))
 refine (run_law (t_valueOf n c e n1 n2 c2 e2) hs hL hR).mono fun r W' ⟨he,hb⟩=>?_
 refine ⟨_,he,post_pure laidOut0 (fun t ht=>?_) rfl condVar condTy condRd condLt hW' hb (fun g1 hg=>?_) rfl Tryz.underlying4⟩
 ·have h:t∈[24,28,24]:=ht
  simp only [List.mem_cons,List.not_mem_nil,or_false] at h
  rcases h with rfl | rfl | rfl
  ·exact ⟨by kernel_rfl,of_decide_eq_true (by kernel_rfl)⟩
  ·exact ⟨by kernel_rfl,of_decide_eq_true (by kernel_rfl)⟩
  ·exact ⟨by kernel_rfl,of_decide_eq_true (by kernel_rfl)⟩
 ·subst hg;rfl
set_option maxRecDepth 100000
theorem ab {a b:Bool}(h:a=true)(g:b=true):(a&&b)=true:=by rw [h,g];rfl
set_option maxHeartbeats 100000000 in
theorem closed:joinedFacts Tryz.pinned.checked.prog 3 Tryz.f3 (OpenSpec.ofChange Rows.fnExactValueOfSpec).bare Rows.fnExactValueOfRow=true:=by
 unfold joinedFacts
 iterate 31 refine ab ?_ ?_
 all_goals as_aux_lemma=>kernel_rfl
end Go.Proofs.YtnkbifkbpdmchaaGreatDoor.valueOf
