/- A part of the proof of the claim that the last text states: no condition of its own. -/
import Derived.Test.YtfpfmkljakiedaaGreatDoorC10
import Derived.Laws.Cover3
set_option linter.unusedVariables false
set_option linter.unusedSimpArgs false
namespace Go.V
open Go Go.Proofs
theorem trimS_len (s p:List UInt8):(trimS s p).length≤s.length:=by unfold trimS;split<;>simp
theorem gapS_len (a b:List UInt8):(gapS a b).length≤1:=by unfold gapS;split<;>simp
theorem flatT_len:∀ (ws:Wds)(a:List UInt8),(∀ w,w∈ws→w.length≤21)→(flatT a ws).length≤22*ws.length
 | [],a,_=>by simp [flatT]
 | b::ws,a,h=>by
   have h1:=flatT_len ws b fun w hw=>h w (by simp [hw])
   have h2:=gapS_len a b
   have h3:=trimS_len b [32]
   have h4:=h b (by simp)
   simp only [flatT,List.length_append,List.length_cons];omega
def okW (ws:Wds):Prop:=∀ w,w∈ws→w.length≤21
theorem flatS_len (ws:Wds)(h:okW ws):(flatS ws).length≤22*ws.length:=by
 cases ws with
 | nil=>simp [flatS]
 | cons b ws =>
   have h1:=flatT_len ws b fun w hw=>h w (by simp [hw])
   have h3:=trimS_len b [32]
   have h4:=h b (by simp)
   simp only [flatS,List.length_append,List.length_cons];omega
theorem okW_app {a b:Wds}(ha:okW a)(hb:okW b):okW (a++b):=fun w hw=>(List.mem_append.1 hw).elim (ha w) (hb w)
theorem okW_one {a:List UInt8}(h:a.length≤21):okW [a]:=fun w hw=>by simp at hw;subst hw;exact h
theorem okW_cons {a:List UInt8}{l:Wds}(h:a.length≤21)(hl:okW l):okW (a::l):=fun w hw=>by
 rcases List.mem_cons.1 hw with rfl | hw
 ·exact h
 ·exact hl w hw
theorem okW_nil:okW []:=fun w hw=>by cases hw
theorem lineT_len (ws:Wds)(h:Nat)(hw:okW ws):(lineT ws h).length≤2*h+22*ws.length+1:=by
 have:=flatS_len ws hw
 simp [lineT];omega
theorem PrN.get {n:Nd}(h:PrN n):n.name.length≤8∧-9223372036854775808≤n.num∧n.num≤9223372036854775807∧∀ x,x∈n.kids→PrN x:=by
 cases h with | mk k s m ks hs h0 h1 hk=>exact ⟨hs,h0,h1,hk⟩
theorem itoa_ok {m:Int}(h0:-9223372036854775808≤m)(h1:m≤9223372036854775807):(Lib.itoa m).length≤21:=Lib.itoa_length_le m h0 h1
theorem relT_ok (k:Int):(relT k).length≤21:=by have:=relT_len k;omega
theorem inW_ok {a b:Bool}{k:Int}{w:Wds}(h:okW w):okW (inW a b k w):=by
 unfold inW
 split
 ·exact okW_app (okW_app (okW_one (by simp)) h) (okW_one (by simp))
 ·exact h
theorem exprW_ok (n:Nd)(h:PrN n):okW (exprW n):=by
 induction n using Nd.ind with
 | h n ih =>
   obtain ⟨hs,h0,h1,hk⟩:=h.get
   have K:∀ i,okW (exprW (kidN n i)):=fun i=>by
    rcases kidN_cases n i with h | h
    ·exact ih _ h (hk _ h)
    ·rw [h,exprW_nd0];exact okW_nil
   have E:∀ i,okW (eW (kidsW n.kids) i):=fun i=>by rw [eW_kid];exact K i
   have I:∀ i a b,okW (iW (kidsW n.kids) i a b):=fun i a b=>by rw [iW_kid];exact inW_ok (K i)
   rw [exprW_eq]
   unfold exprK
   repeat' split
   ·exact okW_one (itoa_ok h0 h1)
   ·exact okW_one (by omega)
   ·exact okW_app (okW_app (okW_cons (by omega) (okW_one (by simp))) (E 0)) (okW_one (by simp))
   ·exact okW_cons (by simp) (okW_cons (by simp) (okW_cons (by omega) (okW_one (by simp))))
   ·exact okW_app (okW_one (by simp)) (I 0 _ _)
   ·exact okW_app (okW_app (E 0) (okW_one (by simp))) (I 1 _ _)
   ·exact okW_app (okW_app (E 0) (okW_one (by simp))) (I 1 _ _)
   ·exact okW_app (okW_app (I 0 _ _) (okW_one (by simp))) (I 1 _ _)
   ·exact okW_app (okW_app (E 0) (okW_one (relT_ok _))) (E 1)
   ·exact okW_nil
theorem kidsB_map (l:List Nd)(h:Nat):kidsB l h=l.map fun x=>bodyO x h:=by
 induction l with
 | nil=>simp [kidsB]
 | cons x l ih=>simp [kidsB,ih]
theorem bodyO_eq (n:Nd)(h:Nat):bodyO n h=(outL n.kids (h+1),!n.kids.isEmpty):=by cases n;simp [bodyO,Nd.kids]
theorem bTQ_kid (n:Nd)(h i:Nat):bT (kidsB n.kids h) i=outL (kidN n i).kids (h+1)∧bQ' (kidsB n.kids h) i=!(kidN n i).kids.isEmpty:=by
 have:(kidsB n.kids h).getD i ([],false)=bodyO (kidN n i) h:=by
  rw [kidsB_map]
  unfold kidN
  cases hx:n.kids[i]? with
  | none=>simp [List.getD,hx,bodyO_eq,nd0,outL]
  | some x=>simp [List.getD,hx]
 rw [bT,bQ',this,bodyO_eq];exact ⟨rfl,rfl⟩
theorem outS_eq (n:Nd)(h:Nat):outS n h=outK n.kind n.name n.num (kidsW n.kids) (kidsB n.kids h) h:=by cases n;simp [outS,Nd.kind,Nd.name,Nd.num,Nd.kids]
theorem stW_ok (n:Nd)(h:PrN n):okW (stW n.kind n.name n.num (kidsW n.kids)):=by
 obtain ⟨hs,h0,h1,hk⟩:=h.get
 have E:∀ i,okW (eW (kidsW n.kids) i):=fun i=>by rw [eW_kid];exact exprW_ok _ (h.kid i)
 unfold stW
 repeat' split
 ·exact okW_cons (by simp) (okW_one (by omega))
 ·exact okW_cons (by simp) (okW_cons (by omega) (okW_cons (by simp) (okW_cons (by simp) (okW_one (by simp)))))
 ·exact okW_cons (by simp) (okW_cons (by omega) (okW_cons (by simp) (okW_cons (itoa_ok h0 h1) (okW_one (by simp)))))
 ·exact okW_app (okW_cons (by omega) (okW_one (by simp))) (E 0)
 ·exact okW_app (okW_app (okW_app (okW_cons (by omega) (okW_one (by simp))) (E 0)) (okW_cons (by simp) (okW_one (by simp)))) (E 1)
 ·exact okW_cons (by simp) (okW_one (by omega))
 ·exact okW_app (okW_one (by simp)) (E 0)
 ·exact okW_one (by simp)
 ·exact okW_one (by simp)
theorem eW_two (ks:List Nd):(eW (kidsW ks) 0).length+(eW (kidsW ks) 1).length≤8*countL ks:=by
 have:=(kids_len ks fun x _=>exprW_len x).1
 omega
theorem stW_len (n:Nd):(stW n.kind n.name n.num (kidsW n.kids)).length≤8*countL n.kids+5:=by
 have:=eW_two n.kids
 unfold stW
 repeat' split
 all_goals simp
 all_goals omega
theorem outL_le {l:List Nd}{h:Nat}(hx:∀ x,x∈l→(outS x h).length≤1000*countN x):(outL l h).length≤1000*countL l:=by
 induction l with
 | nil=>simp [outL]
 | cons x l ih =>
   have h1:=hx x (by simp)
   have h2:=ih fun y hy=>hx y (by simp [hy])
   simp only [outL,countL,List.length_append];omega
def cK (ks:List Nd)(i:Nat):Nat:=match ks[i]? with
 | some x=>countN x
 | none=>0
theorem cK_sum (ks:List Nd):cK ks 0+cK ks 1+cK ks 2≤countL ks:=by
 match ks with
 | []=>simp [cK]
 | [a]=>simp [cK,countL]
 | [a,b]=>simp [cK,countL]
 | a::b::c::l=>simp [cK,countL];omega
theorem eW_cK (ks:List Nd)(i:Nat):(eW (kidsW ks) i).length≤8*cK ks i:=by
 rw [eW,kidsW_map]
 unfold cK
 cases hx:ks[i]? with
 | none=>simp [List.getD,hx]
 | some x=>have:=exprW_len x;simp [List.getD,hx];omega
theorem bT_cK (ks:List Nd)(h i:Nat)(hx:∀ y,y∈ks→∀ x,x∈y.kids→(outS x (h+1)).length≤1000*countN x):(bT (kidsB ks h) i).length≤1000*cK ks i:=by
 rw [bT,kidsB_map]
 unfold cK
 cases hy:ks[i]? with
 | none=>simp [List.getD,hy]
 | some y =>
   have:=outL_le (hx y (List.mem_of_getElem? hy))
   have:=countN_eq y
   simp [List.getD,hy,bodyO_eq];omega
theorem outS_le (n:Nd):∀ h:Nat,PrN n→h+depthN n≤60→(outS n h).length≤1000*countN n:=by
 have:∀ n:Nd,(∀ h:Nat,PrN n→h+depthN n≤60→(outS n h).length≤1000*countN n)∧∀ y,y∈n.kids→∀ h:Nat,PrN y→h+depthN y≤60→(outS y h).length≤1000*countN y:=by
  intro n
  induction n using Nd.ind with
  | h n ih =>
    refine ⟨fun h hp hd=>?_,fun y hy=>(ih y hy).1⟩
    have hdn:=depthN_eq n
    have hcn:=countN_eq n
    have hb:=fun i=>bT_cK n.kids h i fun y hy x hx=>(ih y hy).2 x hx (h+1) ((hp.get.2.2.2 y hy).get.2.2.2 x hx) (by
     have h1:=depth_mem hy
     have h2:=depth_mem hx
     have h3:=depthN_eq y
     omega)
    have he:=eW_two n.kids
    have b1:=hb 1
    have b2:=hb 2
    have e0:=eW_cK n.kids 0
    have e1:=eW_cK n.kids 1
    have cs:=cK_sum n.kids
    have E:∀ i,okW (eW (kidsW n.kids) i):=fun i=>by rw [eW_kid];exact exprW_ok _ (hp.kid i)
    have hs:=hp.get.1
    rw [outS_eq]
    unfold outK
    split
    ·have h1:=lineT_len (stW n.kind n.name n.num (kidsW n.kids)++[[59]]) h (okW_app (stW_ok n hp) (okW_one (by simp)))
     have h2:=stW_len n
     simp at h1;omega
    ·have l1:=lineT_len [[125]] h (okW_one (by simp))
     have l2:=lineT_len [[125],wElse,[123]] h (okW_cons (by simp) (okW_cons (by simp) (okW_one (by simp))))
     have l0:=lineT_len [] h okW_nil
     have a1:=lineT_len ([wIf]++eW (kidsW n.kids) 0++[[123]]) h (okW_app (okW_app (okW_one (by simp)) (E 0)) (okW_one (by simp)))
     have a2:=lineT_len ([wWhile]++eW (kidsW n.kids) 0++[[123]]) h (okW_app (okW_app (okW_one (by simp)) (E 0)) (okW_one (by simp)))
     have a3:=lineT_len ([wFor,n.name,wFrom]++eW (kidsW n.kids) 0++[wTo]++eW (kidsW n.kids) 1++[[123]]) h
      (okW_app (okW_app (okW_app (okW_app (okW_cons (by simp) (okW_cons (by omega) (okW_one (by simp)))) (E 0)) (okW_one (by simp))) (E 1)) (okW_one (by simp)))
     simp at l1 l2 l0 a1 a2 a3
     unfold cpT
     repeat' split
     all_goals simp
     all_goals omega
 exact (this n).1
abbrev bK (A:AV)(s:List UInt8)(ws:Wds)(h:Int):List AV:=[A,.buf 5 s 0,.sl (strR ws) (.tok 2),vi h]
def HS (x:Nd):Prop:=∀ (b:Bool)(s:List UInt8)(h:Nat),h+depthN x≤60→s.length+(outS x h).length≤1000000000 →
 Hands X 216 [.ptr 0 0 0,nd x] ⟨[[bN (adr 231 0 b) s h]],[s.length]⟩ (.tup []) ⟨[[bN (.ptr 0 0 0) (s++outS x h) h]],[(s++outS x h).length]⟩
def blkT (x:Nd)(ws:Wds)(h:Nat):List UInt8:=lineT (ws++[[123]]) h++outL x.kids (h+1)
def HBk (x:Nd):Prop:=∀ (b:Bool)(s:List UInt8)(ws:Wds)(h:Nat),h+depthN x≤60→okW ws→ws.length≤900000→s.length+(blkT x ws h).length≤1000000000 →
 Hands X 268 [.ptr 0 0 0,nd x] ⟨[[bP (adr 231 0 b) s ws h]],[s.length,ws.length]⟩ (.tup [])
  ⟨[[bK (.ptr 0 0 0) (s++blkT x ws h) [[125]] h]],[(s++blkT x ws h).length,(ws++[[123]]).length,1]⟩
theorem PutC.f {r:List (List AV)}{xs:Wds}(hp:PutC r xs)(s:List UInt8)(ws:Wds)(h:Int)(hw:ws.length≤1000000000) :
 Hands X 250 [.ptr 0 0 0,.sl r .no] ⟨[[bP (.ptr 0 0 0) s ws h]],[s.length,ws.length]⟩ (.tup []) ⟨[[bP (.ptr 0 0 0) s (ws++xs) h]],[s.length,(ws++xs).length]⟩:=hp false s ws h hw
theorem PutC.n {r:List (List AV)}{xs:Wds}(hp:PutC r xs)(b:Bool)(s:List UInt8)(h:Int) :
 Hands X 250 [.ptr 0 0 0,.sl r .no] ⟨[[[adr 231 0 b,.buf 5 s 0,.sl [] (.tok 1),vi h]]],[s.length,0]⟩ (.tup []) ⟨[[bP (adr 231 0 b) s xs h]],[s.length,xs.length]⟩:=hp b s [] h (by simp)
theorem PutC.m {r:List (List AV)}{xs:Wds}(hp:PutC r xs)(s:List UInt8)(h:Int) :
 Hands X 250 [.ptr 0 0 0,.sl r .no] ⟨[[[.ptr 0 0 0,.buf 5 s 0,.sl [] (.tok 1),vi h]]],[s.length,0]⟩ (.tup []) ⟨[[bP (.ptr 0 0 0) s xs h]],[s.length,xs.length]⟩:=hp false s [] h (by simp)
theorem bN_in (b:Bool)(s:List UInt8)(h:Int):RinB [0] [0] [[bN (adr 231 0 b) s h]] [[bN (adr 231 0 b) s h]] :=
 have h1:RinC [0] [0] (adr 231 0 b) (adr 231 0 b):=inferInstance
 have h2:RinC [0] [0] (.buf 5 s 0) (.buf 5 s 0):=inferInstance
 have h3:Ren true [0] [0] (.sl [] .tight) (.sl [] .tight):=Ren_sl .nil (.inr (.inr (.inr (.inl ⟨rfl,rfl⟩))))
 have h4:RinC [0] [0] (vi h) (vi h):=inferInstance
 ⟨.cons (.cons (.cons h1.s (.cons h2.s (.cons h3 (.cons h4.s .nil)))) .nil) .nil⟩
theorem bN_on (s:List UInt8)(h:Int):RinB [0] [0] [[bN (.ptr 0 0 0) s h]] [[bN (.ptr 0 0 0) s h]]:=bN_in false s h
theorem HS.f {x:Nd}(hx:HS x)(s:List UInt8)(h:Nat)(hd:h+depthN x≤60)(hl:s.length+(outS x h).length≤1000000000) :
 Hands X 216 [.ptr 0 0 0,nd x] ⟨[[bN (.ptr 0 0 0) s h]],[s.length]⟩ (.tup []) ⟨[[bN (.ptr 0 0 0) (s++outS x h) h]],[(s++outS x h).length]⟩:=hx false s h hd hl
theorem HBk.f {x:Nd}(hx:HBk x)(s:List UInt8)(ws:Wds)(h:Nat)(hd:h+depthN x≤60)(hw:okW ws)(hwl:ws.length≤900000)(hl:s.length+(blkT x ws h).length≤1000000000) :
 Hands X 268 [.ptr 0 0 0,nd x] ⟨[[bP (.ptr 0 0 0) s ws h]],[s.length,ws.length]⟩ (.tup [])
  ⟨[[bK (.ptr 0 0 0) (s++blkT x ws h) [[125]] h]],[(s++blkT x ws h).length,(ws++[[123]]).length,1]⟩:=hx false s ws h hd hw hwl hl
theorem lineT_flat (ws:Wds)(h:Nat):(lineT ws h).length=2*h+(flatS ws).length+1:=by simp [lineT];omega
theorem okW_m {ws:Wds}(h:okW ws):∀ x,x∈ws→x.length≤1000000:=fun x hx=>by have:=h x hx;omega
theorem h_block (x:Nd)(hy:∀ y,y∈x.kids→HS y)(hl:x.kids.length≤100000):HBk x:=by
 intro b s ws h hd hw hwl hb
 have dx:=depthN_eq x
 have e1:(blkT x ws h).length=(lineT (ws++[[123]]) h).length+(outL x.kids (h+1)).length:=by simp [blkT]
 have e2:=lineT_flat (ws++[[123]]) h
 have hi1:IntKind.i64.wrap ((h:Int)+1)=((h+1:Nat):Int):=(wrap_small (by omega) (by omega)).trans (by omega)
 have hi2:IntKind.i64.wrap (((h+1:Nat):Int)-1)=(h:Int):=(wrap_small (by omega) (by omega)).trans (by omega)
 refine Hands.run (n:=1) (m:=2) Tryz.func268 ?_
 refine AK.hc (τ':=[0,1]) [0] [0,1] (put1 [123] b s ws h (by omega)) ?_
 refine AK.hc (τ':=[0]) [0] [0] (h_line b s (ws++[[123]]) h (by omega) (by simp<;>omega) (by omega) (by omega) (okW_m (okW_app hw (okW_one (by simp))))) ?_
 refine AK.sto ⟨[[bN (.ptr 0 0 0) (s++lineT (ws++[[123]]) h) ((h+1:Nat):Int)],[ncells x]],[(s++lineT (ws++[[123]]) h).length,(ws++[[123]]).length]⟩ ?_ (by rw [← hi1]<;>rfl)
 refine AK.while_ (ι:=Nat × List UInt8) 2 2 (fun i=>i.1≤x.kids.length∧i.2++outL (x.kids.drop i.1) (h+1)=s++blkT x ws h) (fun i=>[(21,vi i.1),(20,vi x.kids.length),(19,.sl (nrows x.kids) .no),(0,.ptr 0 0 0)])
  (fun i=>⟨[[bN (.ptr 0 0 0) i.2 ((h+1:Nat):Int)],[ncells x]],[i.2.length,(ws++[[123]]).length]⟩) (fun i=>x.kids.length-i.1) ?_ (0,s++lineT (ws++[[123]]) h) ⟨Nat.zero_le _,by simp [blkT]⟩ ⟨rfl,by rw [← nrows_len];rfl,rfl,rfl,trivial⟩ rfl rfl rfl rfl rfl
  (fun _=>inferInstance) (fun _=>inferInstance)
 rintro ⟨i,out⟩ ⟨hi,hT⟩ IH
 simp only at hi hT IH ⊢
 have hol:=congrArg List.length hT
 simp only [List.length_append] at hol
 refine AK.ev 100 rfl ?_
 refine AK.if_ (fun h1=>?_) (fun h1=>?_)
 ·have hlt:i<x.kids.length:=by have:=of_decide_eq_true h1;omega
  obtain ⟨y,hyi⟩:=lget_of_lt x.kids hlt
  have hmem:=List.mem_of_getElem? hyi
  have hdr:=drop_cons hyi
  rw [hdr] at hT hol
  simp only [outL,List.length_append] at hT hol
  refine AK.ix i (by omega) (nrows_get hyi) ?_
  refine AK.hc (hb:=bN_on out ((h+1:Nat):Int)) (τ':=[0]) [0] [0] ((hy y hmem).f out (h+1) (by have:=depth_mem hmem;omega) (by omega)) ?_
  exact IH (i+1,out++outS y (h+1)) ⟨hlt,by simpa using hT⟩ (by simp only;omega) _ _ ⟨vint ((wrap_small (by omega) (by omega)).trans (by omega)),rfl,rfl,rfl,trivial⟩ rfl rfl rfl
 ·have hie:i=x.kids.length:=by have:=of_decide_eq_false h1;omega
  subst hie
  rw [List.drop_eq_nil_of_le (Nat.le_refl _)] at hT
  simp only [outL,List.append_nil] at hT
  subst hT
  refine AK.sto ⟨[[bN (.ptr 0 0 0) (s++blkT x ws h) h],[ncells x]],[(s++blkT x ws h).length,(ws++[[123]]).length]⟩ ?_ (by rw [← hi2]<;>rfl)
  refine AK.mintB 0 0 2 (bx:=[[[.ptr 0 0 0,.buf 5 (s++blkT x ws h) 0,.sl [] (.tok 2),vi h]],[ncells x]]) (tk:=[(s++blkT x ws h).length,(ws++[[123]]).length,0]) rfl rfl rfl rfl rfl rfl ?_
  refine AK.hc (τ':=[0,2]) [0] [0,2] ((put1 [125]).m (s++blkT x ws h) h) ?_
  exact AK.fb Tryz.func268 rfl rfl
def cpP (k:Int)(s:List UInt8)(c:List (Int × Wds))(b:List (List UInt8 × Bool))(h:Nat):List UInt8 :=
 if k=24 then lineT ([wIf]++eW c 0++[[123]]) h++bT b 1++(if bQ' b 2 then lineT [[125],wElse,[123]] h++bT b 2 else [])
 else if k=25 then lineT ([wWhile]++eW c 0++[[123]]) h++bT b 1
 else if k=26 then lineT ([wFor,s,wFrom]++eW c 0++[wTo]++eW c 1++[[123]]) h++bT b 2
 else []
def cpW (k:Int):Wds:=if k=24 then [[125]] else if k=25 then [[125]] else if k=26 then [[125]] else []
def cpB (k:Int)(b:Bool):Bool:=if k=24 then false else if k=25 then false else if k=26 then false else b
theorem cpT_eq (k:Int)(s:List UInt8)(c:List (Int × Wds))(b:List (List UInt8 × Bool))(h:Nat):cpT k s c b h=cpP k s c b h++lineT (cpW k) h:=by
 unfold cpT cpP cpW
 repeat' split
 all_goals simp
theorem bT_kid (n:Nd)(h i:Nat):bT (kidsB n.kids h) i=outL (kidN n i).kids (h+1):=(bTQ_kid n h i).1
theorem bQ_kid (n:Nd)(h i:Nat):bQ' (kidsB n.kids h) i=!(kidN n i).kids.isEmpty:=(bTQ_kid n h i).2
theorem kid_depth (n:Nd)(i:Nat){h:Nat}(hd:h+depthN n≤60):h+depthN (kidN n i)≤60:=by
 have:=depthN_eq n
 rcases kidN_cases n i with h | h
 ·have:=depth_mem h;omega
 ·rw [h];show _+1≤60;omega
set_option maxHeartbeats 2000000 in
theorem h_compound (n:Nd)(hp:PrN n)(hsz:countN n≤1000)(hk:∀ i,HBk (kidN n i))(b:Bool)(s:List UInt8)(h:Nat)(hd:h+depthN n≤60)(hl:s.length+(cpP n.kind n.name (kidsW n.kids) (kidsB n.kids h) h).length≤1000000000) :
 Hands X 254 [.ptr 0 0 0,nd n] ⟨[[bN (adr 231 0 b) s h]],[s.length]⟩ (.tup [])
  ⟨[[bQ (adr 231 0 (cpB n.kind b)) (s++cpP n.kind n.name (kidsW n.kids) (kidsB n.kids h) h) (cpW n.kind) h]],[(s++cpP n.kind n.name (kidsW n.kids) (kidsB n.kids h) h).length]⟩:=by
 have hkl:n.kids.length≤4000000000:=by have:=length_le_countL n.kids;have:=countN_eq n;omega
 have q0:=q_kid n 0 (by omega) hkl
 have q1:=q_kid n 1 (by omega) hkl
 have q2:=q_kid n 2 (by omega) hkl
 have e0:=h_expr (kidN n 0) (hp.kid 0)
 have e1:=h_expr (kidN n 1) (hp.kid 1)
 have w0:=exprW_ok (kidN n 0) (hp.kid 0)
 have w1:=exprW_ok (kidN n 1) (hp.kid 1)
 have he:=eW_two n.kids
 have hcn:=countN_eq n
 rw [eW_kid,eW_kid] at he
 have kc:∀ i,countN (kidN n i)≤1000:=fun i=>by
  rcases kidN_cases n i with h | h
  ·have:=countL_mem h;omega
  ·rw [h];decide
 have c0:=kc 0
 have c1:=kc 1
 have d1:=kid_depth n 1 hd
 have d2:=kid_depth n 2 hd
 have hs8:=hp.get.1
 refine Hands.run (n:=1) (m:=1) Tryz.func254 ?_
 refine AK.if_ (fun h1=>?_) (fun h1=>?_)
 ·have h1':n.kind=24:=by simpa using h1
  have hB:cpB n.kind b=false:=by unfold cpB;rw [if_pos h1']
  have hW:cpW n.kind=[[125]]:=by unfold cpW;rw [if_pos h1']
  have hP:cpP n.kind n.name (kidsW n.kids) (kidsB n.kids h) h=blkT (kidN n 1) ([wIf]++exprW (kidN n 0)) h++(if !(kidN n 2).kids.isEmpty then blkT (kidN n 2) ([[125]]++[wElse]) h else []):=by
   unfold cpP;rw [if_pos h1',eW_kid,bT_kid,bQ_kid,bT_kid];simp [blkT]
  rw [hB,hW]
  rw [hP] at hl ⊢
  simp only [List.length_append] at hl
  refine AK.mintB 0 0 2 (bx:=[[[adr 231 0 b,.buf 5 s 0,.sl [] (.tok 1),vi h]],[ncells n]]) (tk:=[s.length,0]) rfl rfl rfl rfl rfl rfl ?_
  refine AK.hc (τ':=[0,1]) [0] [0,1] ((put1 wIf).n b s h) ?_
  refine AK.pc q0 ?_
  refine AK.hc (τ':=[0,1]) [0] [0,1] (e0 (by omega) b s ([wIf]) h (by simp<;>omega)) ?_
  refine AK.pc q1 ?_
  refine AK.hc (τ':=[0,1,2]) [0] [0,1] (hk 1 b s ([wIf]++exprW (kidN n 0)) h d1 (okW_app ((okW_one (by simp))) w0) (by simp<;>omega) (by omega)) ?_
  refine AK.pc q2 ?_
  refine AK.if_ (fun h2=>?_) (fun h2=>?_)
  ·have h2':(!(kidN n 2).kids.isEmpty)=true:=by
    have:=of_decide_eq_true h2
    rw [nrows_len] at this
    cases hh:(kidN n 2).kids with
    | nil=>rw [hh] at this;simp at this
    | cons y l=>rfl
   rw [if_pos h2'] at hl ⊢
   rw [← List.append_assoc]
   refine AK.hc (τ':=[0,2]) [0] [0,2] ((put1 wElse).f (s++blkT (kidN n 1) ([wIf]++exprW (kidN n 0)) h) [[125]] h (by simp)) ?_
   refine AK.pc q2 ?_
   refine AK.hc (τ':=[0,2,3]) [0] [0,2] ((hk 2).f (s++blkT (kidN n 1) ([wIf]++exprW (kidN n 0)) h) ([[125]]++[wElse]) h d2 (okW_app (okW_one (by simp)) (okW_one (by simp))) (by simp) (by simp only [List.length_append];omega)) ?_
   refine AK.wkB 0 0 2 (.sl (strR [[125]]) .no) ?_
   exact AK.fb Tryz.func254 rfl rfl
  ·have h2':¬ (!(kidN n 2).kids.isEmpty)=true:=by
    have:=of_decide_eq_false h2
    rw [nrows_len] at this
    cases hh:(kidN n 2).kids with
    | nil=>simp
    | cons y l=>rw [hh] at this;simp at this
   rw [if_neg h2',List.append_nil] at *
   refine AK.wkB 0 0 2 (.sl (strR [[125]]) .no) ?_
   exact AK.fb Tryz.func254 rfl rfl
 have h1':n.kind≠24:=by simpa using h1
 refine AK.if_ (fun h2=>?_) (fun h2=>?_)
 ·have h2':n.kind=25:=by simpa using h2
  have hB:cpB n.kind b=false:=by unfold cpB;rw [if_neg h1',if_pos h2']
  have hW:cpW n.kind=[[125]]:=by unfold cpW;rw [if_neg h1',if_pos h2']
  have hP:cpP n.kind n.name (kidsW n.kids) (kidsB n.kids h) h=blkT (kidN n 1) ([wWhile]++exprW (kidN n 0)) h:=by
   unfold cpP;rw [if_neg h1',if_pos h2',eW_kid,bT_kid];simp [blkT]
  rw [hB,hW]
  rw [hP] at hl ⊢
  refine AK.mintB 0 0 2 (bx:=[[[adr 231 0 b,.buf 5 s 0,.sl [] (.tok 1),vi h]],[ncells n]]) (tk:=[s.length,0]) rfl rfl rfl rfl rfl rfl ?_
  refine AK.hc (τ':=[0,1]) [0] [0,1] ((put1 wWhile).n b s h) ?_
  refine AK.pc q0 ?_
  refine AK.hc (τ':=[0,1]) [0] [0,1] (e0 (by omega) b s ([wWhile]) h (by simp<;>omega)) ?_
  refine AK.pc q1 ?_
  refine AK.hc (τ':=[0,1,2]) [0] [0,1] (hk 1 b s ([wWhile]++exprW (kidN n 0)) h d1 (okW_app ((okW_one (by simp))) w0) (by simp<;>omega) (by omega)) ?_
  refine AK.wkB 0 0 2 (.sl (strR [[125]]) .no) ?_
  exact AK.fb Tryz.func254 rfl rfl
 have h2':n.kind≠25:=by simpa using h2
 refine AK.if_ (fun h3=>?_) (fun h3=>?_)
 ·have h3':n.kind=26:=by simpa using h3
  have hB:cpB n.kind b=false:=by unfold cpB;rw [if_neg h1',if_neg h2',if_pos h3']
  have hW:cpW n.kind=[[125]]:=by unfold cpW;rw [if_neg h1',if_neg h2',if_pos h3']
  have hP:cpP n.kind n.name (kidsW n.kids) (kidsB n.kids h) h=blkT (kidN n 2) ([wFor,n.name,wFrom]++exprW (kidN n 0)++[wTo]++exprW (kidN n 1)) h:=by
   unfold cpP;rw [if_neg h1',if_neg h2',if_pos h3',eW_kid,eW_kid,bT_kid];simp [blkT]
  rw [hB,hW]
  rw [hP] at hl ⊢
  refine AK.mintB 0 0 2 (bx:=[[[adr 231 0 b,.buf 5 s 0,.sl [] (.tok 1),vi h]],[ncells n]]) (tk:=[s.length,0]) rfl rfl rfl rfl rfl rfl ?_
  refine AK.hc (τ':=[0,1]) [0] [0,1] ((put3 wFor n.name wFrom).n b s h) ?_
  refine AK.pc q0 ?_
  refine AK.hc (τ':=[0,1]) [0] [0,1] (e0 (by omega) b s ([wFor,n.name,wFrom]) h (by simp<;>omega)) ?_
  refine AK.hc (τ':=[0,1]) [0] [0,1] (put1 wTo b s ([wFor,n.name,wFrom]++exprW (kidN n 0)) h (by simp<;>omega)) ?_
  refine AK.pc q1 ?_
  refine AK.hc (τ':=[0,1]) [0] [0,1] (e1 (by omega) b s ([wFor,n.name,wFrom]++exprW (kidN n 0)++[wTo]) h (by simp<;>omega)) ?_
  refine AK.pc q2 ?_
  refine AK.hc (τ':=[0,1,2]) [0] [0,1] (hk 2 b s ([wFor,n.name,wFrom]++exprW (kidN n 0)++[wTo]++exprW (kidN n 1)) h d2
   (okW_app (okW_app (okW_app (okW_cons (by simp) (okW_cons (by omega) (okW_one (by simp)))) w0) (okW_one (by simp))) w1) (by simp<;>omega) (by omega)) ?_
  refine AK.wkB 0 0 2 (.sl (strR [[125]]) .no) ?_
  exact AK.fb Tryz.func254 rfl rfl
 have h3':n.kind≠26:=by simpa using h3
 have hB:cpB n.kind b=b:=by unfold cpB;rw [if_neg h1',if_neg h2',if_neg h3']
 have hW:cpW n.kind=[]:=by unfold cpW;rw [if_neg h1',if_neg h2',if_neg h3']
 have hP:cpP n.kind n.name (kidsW n.kids) (kidsB n.kids h) h=[]:=by unfold cpP;rw [if_neg h1',if_neg h2',if_neg h3']
 rw [hB,hW,hP,List.append_nil]
 refine AK.wkB 0 0 2 (.sl (strR []) .no) ?_
 exact AK.fb Tryz.func254 rfl rfl
set_option maxHeartbeats 2000000 in
theorem h_stmt (n:Nd)(hp:PrN n)(hsz:countN n≤1000)(hk:∀ i,HBk (kidN n i)):HS n:=by
 intro b s h hd hl
 have hkl:n.kids.length≤4000000000:=by have:=length_le_countL n.kids;have:=countN_eq n;omega
 have q0:=q_kid n 0 (by omega) hkl
 have q1:=q_kid n 1 (by omega) hkl
 have e0:=h_expr (kidN n 0) (hp.kid 0)
 have e1:=h_expr (kidN n 1) (hp.kid 1)
 have he:=eW_two n.kids
 have hcn:=countN_eq n
 rw [eW_kid,eW_kid] at he
 have kc:∀ i,countN (kidN n i)≤1000:=fun i=>by
  rcases kidN_cases n i with h | h
  ·have:=countL_mem h;omega
  ·rw [h];decide
 have c0:=kc 0
 have c1:=kc 1
 have hn:=hp.get
 have hst:=stW_ok n hp
 have hO:outS n h=if isSt n.kind then lineT (stW n.kind n.name n.num (kidsW n.kids)++[[59]]) h else cpP n.kind n.name (kidsW n.kids) (kidsB n.kids h) h++lineT (cpW n.kind) h:=by
  rw [outS_eq];unfold outK;split
  ·rfl
  ·rw [cpT_eq]
 refine Hands.run (n:=1) (m:=1) Tryz.func216 ?_
 refine AK.if_ (fun h31=>?_) (fun h31=>?_)
 ·have h31':n.kind=31:=by simpa using h31
  have hT:stW n.kind n.name n.num (kidsW n.kids)=[wVar,n.name]:=by unfold stW;rw [if_pos h31']<;>rfl
  rw [if_pos (by simp [isSt,h31']),hT] at hO
  rw [hT] at hst
  rw [hO] at hl ⊢
  have hfl:=lineT_flat ([wVar,n.name]++[[59]]) h
  have hwl:=lineT_len ([wVar,n.name]++[[59]]) h (okW_app hst (okW_one (by simp)))
  refine AK.mintB 0 0 2 (bx:=[[[adr 231 0 b,.buf 5 s 0,.sl [] (.tok 1),vi h]],[ncells n]]) (tk:=[s.length,0]) rfl rfl rfl rfl rfl rfl ?_
  refine AK.hc (τ':=[0,1]) [0] [0,1] ((put2 wVar n.name).n b s h) ?_
  refine AK.hc (τ':=[0,1]) [0] [0,1] (put1 [59] b s ([wVar,n.name]) h (by simp<;>omega)) ?_
  refine AK.hc (τ':=[0]) [0] [0] (h_line b s ([wVar,n.name]++[[59]]) h (by omega) (by simp<;>omega) (by omega) (by omega) (okW_m (okW_app hst (okW_one (by simp))))) ?_
  exact AK.fb Tryz.func216 rfl rfl
 have h31':n.kind≠31:=by simpa using h31
 refine AK.if_ (fun h32=>?_) (fun h32=>?_)
 ·have h32':n.kind=32:=by simpa using h32
  refine AK.pc (p_itoa n.num hn.2.1 hn.2.2.1) ?_
  refine AK.if_ (fun hm=>?_) (fun hm=>?_)
  ·have hm':n.num=-1:=by simpa using hm
   have hT:stW n.kind n.name n.num (kidsW n.kids)=[wArray,n.name,[91],[63],[93]]:=by unfold stW;rw [if_neg h31',if_pos h32',if_pos hm']<;>rfl
   rw [if_pos (by simp [isSt,h32']),hT] at hO
   rw [hT] at hst
   rw [hO] at hl ⊢
   have hfl:=lineT_flat ([wArray,n.name,[91],[63],[93]]++[[59]]) h
   have hwl:=lineT_len ([wArray,n.name,[91],[63],[93]]++[[59]]) h (okW_app hst (okW_one (by simp)))
   refine AK.mintB 0 0 2 (bx:=[[[adr 231 0 b,.buf 5 s 0,.sl [] (.tok 1),vi h]],[ncells n]]) (tk:=[s.length,0]) rfl rfl rfl rfl rfl rfl ?_
   refine AK.hc (τ':=[0,1]) [0] [0,1] ((put5 wArray n.name [91] [63] [93]).n b s h) ?_
   refine AK.hc (τ':=[0,1]) [0] [0,1] (put1 [59] b s ([wArray,n.name,[91],[63],[93]]) h (by simp<;>omega)) ?_
   refine AK.hc (τ':=[0]) [0] [0] (h_line b s ([wArray,n.name,[91],[63],[93]]++[[59]]) h (by omega) (by simp<;>omega) (by omega) (by omega) (okW_m (okW_app hst (okW_one (by simp))))) ?_
   exact AK.fb Tryz.func216 rfl rfl
  ·have hm':¬ n.num=-1:=by simpa using hm
   have hT:stW n.kind n.name n.num (kidsW n.kids)=[wArray,n.name,[91],Lib.itoa n.num,[93]]:=by unfold stW;rw [if_neg h31',if_pos h32',if_neg hm']<;>rfl
   rw [if_pos (by simp [isSt,h32']),hT] at hO
   rw [hT] at hst
   rw [hO] at hl ⊢
   have hfl:=lineT_flat ([wArray,n.name,[91],Lib.itoa n.num,[93]]++[[59]]) h
   have hwl:=lineT_len ([wArray,n.name,[91],Lib.itoa n.num,[93]]++[[59]]) h (okW_app hst (okW_one (by simp)))
   refine AK.mintB 0 0 2 (bx:=[[[adr 231 0 b,.buf 5 s 0,.sl [] (.tok 1),vi h]],[ncells n]]) (tk:=[s.length,0]) rfl rfl rfl rfl rfl rfl ?_
   refine AK.hc (τ':=[0,1]) [0] [0,1] ((put5 wArray n.name [91] (Lib.itoa n.num) [93]).n b s h) ?_
   refine AK.hc (τ':=[0,1]) [0] [0,1] (put1 [59] b s ([wArray,n.name,[91],Lib.itoa n.num,[93]]) h (by simp<;>omega)) ?_
   refine AK.hc (τ':=[0]) [0] [0] (h_line b s ([wArray,n.name,[91],Lib.itoa n.num,[93]]++[[59]]) h (by omega) (by simp<;>omega) (by omega) (by omega) (okW_m (okW_app hst (okW_one (by simp))))) ?_
   exact AK.fb Tryz.func216 rfl rfl
 have h32':n.kind≠32:=by simpa using h32
 refine AK.if_ (fun h21=>?_) (fun h21=>?_)
 ·have h21':n.kind=21:=by simpa using h21
  have hT:stW n.kind n.name n.num (kidsW n.kids)=[n.name,[61]]++exprW (kidN n 0):=by unfold stW;rw [if_neg h31',if_neg h32',if_pos h21',eW_kid]<;>rfl
  rw [if_pos (by simp [isSt,h21']),hT] at hO
  rw [hT] at hst
  rw [hO] at hl ⊢
  have hfl:=lineT_flat ([n.name,[61]]++exprW (kidN n 0)++[[59]]) h
  have hwl:=lineT_len ([n.name,[61]]++exprW (kidN n 0)++[[59]]) h (okW_app hst (okW_one (by simp)))
  refine AK.mintB 0 0 2 (bx:=[[[adr 231 0 b,.buf 5 s 0,.sl [] (.tok 1),vi h]],[ncells n]]) (tk:=[s.length,0]) rfl rfl rfl rfl rfl rfl ?_
  refine AK.hc (τ':=[0,1]) [0] [0,1] ((put2 n.name [61]).n b s h) ?_
  refine AK.pc q0 ?_
  refine AK.hc (τ':=[0,1]) [0] [0,1] (e0 (by omega) b s ([n.name,[61]]) h (by simp<;>omega)) ?_
  refine AK.hc (τ':=[0,1]) [0] [0,1] (put1 [59] b s ([n.name,[61]]++exprW (kidN n 0)) h (by simp<;>omega)) ?_
  refine AK.hc (τ':=[0]) [0] [0] (h_line b s ([n.name,[61]]++exprW (kidN n 0)++[[59]]) h (by omega) (by simp<;>omega) (by omega) (by omega) (okW_m (okW_app hst (okW_one (by simp))))) ?_
  exact AK.fb Tryz.func216 rfl rfl
 have h21':n.kind≠21:=by simpa using h21
 refine AK.if_ (fun h22=>?_) (fun h22=>?_)
 ·have h22':n.kind=22:=by simpa using h22
  have hT:stW n.kind n.name n.num (kidsW n.kids)=[n.name,[91]]++exprW (kidN n 0)++[[93],[61]]++exprW (kidN n 1):=by unfold stW;rw [if_neg h31',if_neg h32',if_neg h21',if_pos h22',eW_kid,eW_kid]<;>rfl
  rw [if_pos (by simp [isSt,h22']),hT] at hO
  rw [hT] at hst
  rw [hO] at hl ⊢
  have hfl:=lineT_flat ([n.name,[91]]++exprW (kidN n 0)++[[93],[61]]++exprW (kidN n 1)++[[59]]) h
  have hwl:=lineT_len ([n.name,[91]]++exprW (kidN n 0)++[[93],[61]]++exprW (kidN n 1)++[[59]]) h (okW_app hst (okW_one (by simp)))
  refine AK.mintB 0 0 2 (bx:=[[[adr 231 0 b,.buf 5 s 0,.sl [] (.tok 1),vi h]],[ncells n]]) (tk:=[s.length,0]) rfl rfl rfl rfl rfl rfl ?_
  refine AK.hc (τ':=[0,1]) [0] [0,1] ((put2 n.name [91]).n b s h) ?_
  refine AK.pc q0 ?_
  refine AK.hc (τ':=[0,1]) [0] [0,1] (e0 (by omega) b s ([n.name,[91]]) h (by simp<;>omega)) ?_
  refine AK.hc (τ':=[0,1]) [0] [0,1] (put2 [93] [61] b s ([n.name,[91]]++exprW (kidN n 0)) h (by simp<;>omega)) ?_
  refine AK.pc q1 ?_
  refine AK.hc (τ':=[0,1]) [0] [0,1] (e1 (by omega) b s ([n.name,[91]]++exprW (kidN n 0)++[[93],[61]]) h (by simp<;>omega)) ?_
  refine AK.hc (τ':=[0,1]) [0] [0,1] (put1 [59] b s ([n.name,[91]]++exprW (kidN n 0)++[[93],[61]]++exprW (kidN n 1)) h (by simp<;>omega)) ?_
  refine AK.hc (τ':=[0]) [0] [0] (h_line b s ([n.name,[91]]++exprW (kidN n 0)++[[93],[61]]++exprW (kidN n 1)++[[59]]) h (by omega) (by simp<;>omega) (by omega) (by omega) (okW_m (okW_app hst (okW_one (by simp))))) ?_
  exact AK.fb Tryz.func216 rfl rfl
 have h22':n.kind≠22:=by simpa using h22
 refine AK.if_ (fun h23=>?_) (fun h23=>?_)
 ·have h23':n.kind=23:=by simpa using h23
  have hT:stW n.kind n.name n.num (kidsW n.kids)=[wRead,n.name]:=by unfold stW;rw [if_neg h31',if_neg h32',if_neg h21',if_neg h22',if_pos h23']<;>rfl
  rw [if_pos (by simp [isSt,h23']),hT] at hO
  rw [hT] at hst
  rw [hO] at hl ⊢
  have hfl:=lineT_flat ([wRead,n.name]++[[59]]) h
  have hwl:=lineT_len ([wRead,n.name]++[[59]]) h (okW_app hst (okW_one (by simp)))
  refine AK.mintB 0 0 2 (bx:=[[[adr 231 0 b,.buf 5 s 0,.sl [] (.tok 1),vi h]],[ncells n]]) (tk:=[s.length,0]) rfl rfl rfl rfl rfl rfl ?_
  refine AK.hc (τ':=[0,1]) [0] [0,1] ((put2 wRead n.name).n b s h) ?_
  refine AK.hc (τ':=[0,1]) [0] [0,1] (put1 [59] b s ([wRead,n.name]) h (by simp<;>omega)) ?_
  refine AK.hc (τ':=[0]) [0] [0] (h_line b s ([wRead,n.name]++[[59]]) h (by omega) (by simp<;>omega) (by omega) (by omega) (okW_m (okW_app hst (okW_one (by simp))))) ?_
  exact AK.fb Tryz.func216 rfl rfl
 have h23':n.kind≠23:=by simpa using h23
 refine AK.if_ (fun h27=>?_) (fun h27=>?_)
 ·have h27':n.kind=27:=by simpa using h27
  have hT:stW n.kind n.name n.num (kidsW n.kids)=[wCheck]++exprW (kidN n 0):=by unfold stW;rw [if_neg h31',if_neg h32',if_neg h21',if_neg h22',if_neg h23',if_pos h27',eW_kid]<;>rfl
  rw [if_pos (by simp [isSt,h27']),hT] at hO
  rw [hT] at hst
  rw [hO] at hl ⊢
  have hfl:=lineT_flat ([wCheck]++exprW (kidN n 0)++[[59]]) h
  have hwl:=lineT_len ([wCheck]++exprW (kidN n 0)++[[59]]) h (okW_app hst (okW_one (by simp)))
  refine AK.mintB 0 0 2 (bx:=[[[adr 231 0 b,.buf 5 s 0,.sl [] (.tok 1),vi h]],[ncells n]]) (tk:=[s.length,0]) rfl rfl rfl rfl rfl rfl ?_
  refine AK.hc (τ':=[0,1]) [0] [0,1] ((put1 wCheck).n b s h) ?_
  refine AK.pc q0 ?_
  refine AK.hc (τ':=[0,1]) [0] [0,1] (e0 (by omega) b s ([wCheck]) h (by simp<;>omega)) ?_
  refine AK.hc (τ':=[0,1]) [0] [0,1] (put1 [59] b s ([wCheck]++exprW (kidN n 0)) h (by simp<;>omega)) ?_
  refine AK.hc (τ':=[0]) [0] [0] (h_line b s ([wCheck]++exprW (kidN n 0)++[[59]]) h (by omega) (by simp<;>omega) (by omega) (by omega) (okW_m (okW_app hst (okW_one (by simp))))) ?_
  exact AK.fb Tryz.func216 rfl rfl
 have h27':n.kind≠27:=by simpa using h27
 refine AK.if_ (fun h28=>?_) (fun h28=>?_)
 ·have h28':n.kind=28:=by simpa using h28
  have hT:stW n.kind n.name n.num (kidsW n.kids)=[wSkip]:=by unfold stW;rw [if_neg h31',if_neg h32',if_neg h21',if_neg h22',if_neg h23',if_neg h27',if_pos h28']<;>rfl
  rw [if_pos (by simp [isSt,h28']),hT] at hO
  rw [hT] at hst
  rw [hO] at hl ⊢
  have hfl:=lineT_flat ([wSkip]++[[59]]) h
  have hwl:=lineT_len ([wSkip]++[[59]]) h (okW_app hst (okW_one (by simp)))
  refine AK.mintB 0 0 2 (bx:=[[[adr 231 0 b,.buf 5 s 0,.sl [] (.tok 1),vi h]],[ncells n]]) (tk:=[s.length,0]) rfl rfl rfl rfl rfl rfl ?_
  refine AK.hc (τ':=[0,1]) [0] [0,1] ((put1 wSkip).n b s h) ?_
  refine AK.hc (τ':=[0,1]) [0] [0,1] (put1 [59] b s ([wSkip]) h (by simp<;>omega)) ?_
  refine AK.hc (τ':=[0]) [0] [0] (h_line b s ([wSkip]++[[59]]) h (by omega) (by simp<;>omega) (by omega) (by omega) (okW_m (okW_app hst (okW_one (by simp))))) ?_
  exact AK.fb Tryz.func216 rfl rfl
 have h28':n.kind≠28:=by simpa using h28
 refine AK.if_ (fun h29=>?_) (fun h29=>?_)
 ·have h29':n.kind=29:=by simpa using h29
  have hT:stW n.kind n.name n.num (kidsW n.kids)=[wStop]:=by unfold stW;rw [if_neg h31',if_neg h32',if_neg h21',if_neg h22',if_neg h23',if_neg h27',if_neg h28']<;>rfl
  rw [if_pos (by simp [isSt,h29']),hT] at hO
  rw [hT] at hst
  rw [hO] at hl ⊢
  have hfl:=lineT_flat ([wStop]++[[59]]) h
  have hwl:=lineT_len ([wStop]++[[59]]) h (okW_app hst (okW_one (by simp)))
  refine AK.mintB 0 0 2 (bx:=[[[adr 231 0 b,.buf 5 s 0,.sl [] (.tok 1),vi h]],[ncells n]]) (tk:=[s.length,0]) rfl rfl rfl rfl rfl rfl ?_
  refine AK.hc (τ':=[0,1]) [0] [0,1] ((put1 wStop).n b s h) ?_
  refine AK.hc (τ':=[0,1]) [0] [0,1] (put1 [59] b s ([wStop]) h (by simp<;>omega)) ?_
  refine AK.hc (τ':=[0]) [0] [0] (h_line b s ([wStop]++[[59]]) h (by omega) (by simp<;>omega) (by omega) (by omega) (okW_m (okW_app hst (okW_one (by simp))))) ?_
  exact AK.fb Tryz.func216 rfl rfl
 have h29':n.kind≠29:=by simpa using h29
 have hno:isSt n.kind=false:=by simp [isSt,h31',h32',h21',h22',h23',h27',h28',h29']
 rw [if_neg (by simp [hno])] at hO
 rw [hO] at hl ⊢
 simp only [List.length_append] at hl
 have hfl:=lineT_flat (cpW n.kind) h
 have hww:okW (cpW n.kind)∧(cpW n.kind).length≤1:=by
  unfold cpW;repeat' split
  all_goals exact ⟨fun w hw=>by simp at hw<;>(subst hw;simp),by simp⟩
 have hc:=h_compound n hp hsz hk b s h hd (by omega)
 refine AK.hc (hb:=bN_in b s h) (τ':=[0]) [0] [0] hc ?_
 rw [← List.append_assoc]
 refine AK.hc (τ':=[0]) [0] [0] (h_line (cpB n.kind b) (s++cpP n.kind n.name (kidsW n.kids) (kidsB n.kids h) h) (cpW n.kind) h (by omega) (by omega) (by omega) (by simp only [List.length_append];omega) (okW_m hww.1)) ?_
 exact AK.rb Tryz.func216 rfl rfl
theorem depth_nd0:HBk nd0:=h_block nd0 (fun y hy=>by cases hy) (by decide)
theorem h_stmts (n:Nd)(hp:PrN n)(hsz:countN n≤1000):HS n∧HBk n:=by
 induction n using Nd.ind with
 | h n ih =>
   have hcn:=countN_eq n
   have hk:∀ i,HBk (kidN n i):=fun i=>by
    rcases kidN_cases n i with h | h
    ·exact (ih _ h (hp.kid i) (by have:=countL_mem h;omega)).2
    ·rw [h];exact depth_nd0
   refine ⟨h_stmt n hp hsz hk,h_block n (fun y hy=>(ih y hy (hp.get.2.2.2 y hy) (by have:=countL_mem hy;omega)).1) (by have:=length_le_countL n.kids;omega)⟩
end Go.V
namespace Go.V
open Go
section
variable {X:Cx}{B:Bx}{E:Env}{S S':St}{w:World}{F:Frm}{a:Act}{N:Nat}{R:AE→St→Prop}{ops:Array Oper}{i:Nat}{o:Oper}{p q:Operand}
theorem grid_app {sz:Nat}{c1 c2:Array Value}{r1 r2:List (List AV)}(h1:Grid E w sz c1 r1)(h2:Grid E w sz c2 r2):Grid E w sz (c1++c2) (r1++r2):=by
 obtain ⟨s1,l1,e1⟩:=h1
 obtain ⟨s2,l2,e2⟩:=h2
 refine ⟨by simp [s1,s2,Nat.add_mul],fun r hr=>(List.mem_append.1 hr).elim (l1 r) (l2 r),fun k r j x v hk hj hv=>?_⟩
 rcases Nat.lt_or_ge k r1.length with h | h
 ·rw [List.getElem?_append_left h] at hk
  have hjs:j<sz:=by rw [← l1 r (List.mem_of_getElem? hk)];exact lt_of_get hj
  have:=row_in h hjs
  rw [Array.getElem?_append_left (by omega)] at hv
  exact e1 k r j x v hk hj hv
 ·rw [List.getElem?_append_right h] at hk
  have hle:r1.length*sz≤k*sz:=Nat.mul_le_mul_right _ h
  rw [Array.getElem?_append_right (by omega),s1] at hv
  exact e2 (k-r1.length) r j x v hk hj (by rw [← hv];congr 1;rw [Nat.sub_mul];omega)
theorem grid_take {sz:Nat}{c:Array Value}{rows:List (List AV)}(h:Grid E w sz c rows){n:Nat}(hn:n≤rows.length):Grid E w sz (c.toList.take (n*sz)).toArray (rows.take n):=by
 obtain ⟨s,l,e⟩:=h
 have hle:n*sz≤rows.length*sz:=Nat.mul_le_mul_right _ hn
 refine ⟨by simp [s],fun r hr=>l r (List.mem_of_mem_take hr),fun k r j x v hk hj hv=>?_⟩
 rw [List.getElem?_take] at hk
 split at hk
 ·refine e k r j x v hk hj ?_
  rw [List.getElem?_toArray,List.getElem?_take] at hv
  split at hv
  ·simpa using hv
  ·cases hv
 ·cases hk
theorem grid_drop {sz:Nat}{c:Array Value}{rows:List (List AV)}(h:Grid E w sz c rows)(n:Nat):Grid E w sz (c.toList.drop (n*sz)).toArray (rows.drop n):=by
 obtain ⟨s,l,e⟩:=h
 refine ⟨by simp [s,Nat.sub_mul],fun r hr=>l r (List.mem_of_mem_drop hr),fun k r j x v hk hj hv=>?_⟩
 rw [List.getElem?_drop] at hk
 refine e (n+k) r j x v hk hj ?_
 rw [List.getElem?_toArray,List.getElem?_drop] at hv
 rw [Nat.add_mul,Nat.add_assoc]
 simpa using hv
theorem grid_zeros {t:Nat}{y:Ty}(hy:X.ty t=some y)(hne:y.size≠0)(n:Nat):∃ z,(zeroValue t).run X.P w=.ok z w∧(∃ ti,X.P.info? t=some ti∧ti.zero=some z∧ti.size=y.size)∧(∀ v,v∈(Builtin.zeroCells z.cells n).toList→v.oneCell'=true∨True) ∧
 (Builtin.zeroCells z.cells n).size=n*y.size∧∀ (E:Env)(w:World),Grid E w y.size (Builtin.zeroCells z.cells n) (List.replicate n y.zero):=by
 obtain ⟨z,hz,hzc,hzl,ti,hi,hiz,his,hib⟩:=zero_run hy w
 have hzs:z.cells.size=y.size:=by rw [← hzl,← hzc];simp
 refine ⟨z,hz,⟨ti,hi,hiz,his⟩,fun v _=>.inr trivial,by simp [Builtin.zeroCells,hzs],fun E w=>?_⟩
 refine grid_zero hzc hzl _ (by simp [Builtin.zeroCells,hzs]) (fun i hi=>?_)
 have hm:i % y.size<z.cells.size:=by rw [hzs];exact Nat.mod_lt _ (Nat.pos_of_ne_zero hne)
 have hr0:(Array.range (n*y.size))[i]?=some i:=by simp [hi]
 simp only [Builtin.zeroCells]
 rw [Array.getElem?_map,hzs,hr0]
 simp only [Option.map_some]
 rw [getElem!_pos z.cells (i % y.size) hm,Array.getElem?_eq_getElem hm]
theorem Ndo.boxC {t:TypeId}{x:AV}{cs:List AV}(hc:cellsOf x=some cs:=by rfl)(ho:ops[i]?=some o:=by rfl)(hw:wantA ops F o=some true:=by rfl)(hop:o.op=.box t p:=by rfl)(hp:opr X F p=some x:=by rfl):Ndo X N ops i o F (.cptr cs) S S:=by
 intro F' E w a hl hI hF
 have hlo:=looks_of hl
 rw [hop] at hlo
 have r1:=opr_sound hI hF ((opr_congr (X:=X) (F:=F) (F':=F') (o:=p) fun s hs=>hlo s (by simp [Op.operands,hs])).trans hp)
 generalize hv:a.eval p=v at r1
 obtain ⟨h1,h2,_⟩:=cellsOf_sound r1 hc
 have ev:=Evol.push (E:=E) (w:=w) (w':=w.alloc (.cells v.cells t)) ⟨_,rfl⟩ rfl rfl rfl E.boxes.length E.toks.length
 have hI':=hI.push (w':=w.alloc (.cells v.cells t)) ⟨_,rfl⟩ rfl rfl rfl
 have hnew:(w.alloc (.cells v.cells t)).heap[w.heap.size]?=some (.cells v.cells t (0,0)):=by
  have:(w.alloc (.cells v.cells t)).heap=w.heap.push (.cells v.cells t (0,0)):=rfl
  rw [this];simp
 refine Does.val ho (wanted_of hF (by rw [wantA_congr hl];exact hw)) (v:=.pointer (some ⟨w.heap.size,0,none⟩)) (by simp [execOp,hop,Instr.box,hv,newVar,newRow]) (.inl rfl) ⟨E,hI',ev,?_⟩
 refine .cptr cs w.heap.size 0 (fun j=>v.cells.getD j default) (fun j _=>fresh_mt hI) (fun j hj=>?_) (fun j x hx=>?_)
 ·have:j<v.cells.size:=by omega
  rw [Nat.zero_add]
  simp only [World.cell?,hnew]
  simp [this,Array.getD]
 ·have:j<v.cells.size:=by have:=lt_of_get hx;omega
  exact (h2 j _ x (by simp [this,Array.getD]) hx).step ev
theorem AK.nilS {l:List Nat}{k:List Item}{t t' e:TypeId}{rows:List (List AV)}{sp:Sp}(hd:X.P.underlying t=some (.slice e))(hk:∀ c:Bool,(rows≠[]→c=false)→AK X B (.inRegion ops l::k) (putF o.dst (.val (.bool c)) F) S R)
 (ho:ops[i]?=some o:=by rfl)(hw:wantA ops F o=some true:=by rfl)(hop:o.op=.binOp .eql t p (.const (.slice none 0 0)) t':=by rfl)(hp:opr X F p=some (.sl rows sp):=by rfl)(hdst:dstOk B.fn.ntmps o.dst=true:=by rfl) :
 AK X B (.inRegion ops (i::l)::k) F S R:=by
 intro E w a b cs hI hF hn hm hb
 have r1:=opr_sound hI hF hp
 generalize hv:a.eval p=v at r1
 have hrun:∃ c:Bool,(rows≠[]→c=false)∧(execOp a.eval o).run X.P w=.ok (.value (.bool c)) w:=by
  cases r1 with
  | sl _ _ a' n cap b' o' sz vals hn' hx ha hsz hm hc hr hs hcap =>
    refine ⟨a'.isNone,fun hne=>?_,by simp [execOp,hop,hv,show a.eval (.const (.slice none 0 0))=.slice none 0 0 from rfl,eqGuard,binOp,run_equal_slice_nil w t e a' n cap hd]⟩
    rw [ha (by rw [← hn'];exact fun h=>hne (List.length_eq_zero_iff.1 h))];rfl
 obtain ⟨c,hc,hrun⟩:=hrun
 have hdo:Does X ops i a w fun v w'=>∃ E',Inv X E' S w'∧Evol E w E' w' E.boxes.length E.toks.length∧Rel E' w' v (.val (.bool c)) :=
  Does.val ho (wanted_of hF hw) hrun (.inl rfl) ⟨E,hI,Evol.refl _ _ _ _,.val _⟩
 have nt:E.toks.length=S.toks.length:=by rw [← hI.nt];simp
 obtain ⟨v',w',⟨E',h1,h2,h3⟩,h4⟩:=hdo b k cs l
 have hF':=(hF.step h2).putF hdst h3
 have h4':=h4
 rw [ho] at h4'
 exact Fin.from h4' (h2.weaken (by rw [hI.nb];exact hn) (by omega)) (hk c hc E' w' _ b cs h1 hF' hn hm hb)
theorem AK.cloneB {l:List Nat}{k:List Item}{c:Call}{tt tx e e':Nat}{y yx ye:Ty}{new:List (List AV)}{sp:Sp}(hk:∀ cc:Nat,AK X B (.inRegion ops l::k) (putF o.dst (.bsl S.boxes.length new.length) F) ⟨S.boxes++[new++List.replicate cc ye.zero],S.toks⟩ R)
 (hl':∀ r,r∈new→r.length=ye.size)(hc:∀ r,r∈new→∀ x,x∈r→cellish x=true)(hne:new≠[])(hb:new.length≤100000000000)
 (ho:ops[i]?=some o:=by rfl)(hw:wantA ops F o=some true:=by rfl)(hop:o.op=.call c:=by rfl)(hcal:c.callee=.builtin .append:=by rfl)(hargs:c.args.toList=[p,q]:=by rfl)(htys:c.argTypes.toList=[tt,tx]:=by rfl)
 (hp:opr X F p=some (.sl [] .tight):=by rfl)(hq:opr X F q=some (.sl new sp):=by rfl)(hy:X.ty tt=some y:=by rfl)(hyk:y.k=.slc e:=by rfl)(hye:X.ty e=some ye:=by rfl)(hyx:X.ty tx=some yx:=by rfl)(hyxk:yx.k=.slc e':=by rfl)
 (hdst:dstOk B.fn.ntmps o.dst=true:=by rfl):AK X B (.inRegion ops (i::l)::k) F S R:=by
 intro E w a b cs hI hF hn hm hb'
 obtain ⟨callee,args,argTypes⟩:=c
 simp only at hcal hargs htys
 subst hcal
 have ha:args=#[p,q]:=by rw [← Array.toList_inj];exact hargs
 have ht:argTypes=#[tt,tx]:=by rw [← Array.toList_inj];exact htys
 subst ha;subst ht
 have r1:=opr_sound hI hF hp
 have r2:=opr_sound hI hF hq
 obtain ⟨d1,hd1,hk1⟩:=(X.ty_ok tt y hy).agg
 simp only [hyk] at hk1
 obtain ⟨rfl,ye',hye',hne0⟩:=hk1
 rw [hye] at hye';cases hye'
 obtain ⟨d2,hd2,hk2⟩:=(X.ty_ok tx yx hyx).agg
 simp only [hyxk] at hk2
 obtain ⟨rfl,_⟩:=hk2
 obtain ⟨ti,z,hi,hsz,hby,hzv,hzc,hzl,_⟩:=(X.ty_ok e ye hye).info
 have hnew:0<new.length:=List.length_pos_iff.2 hne
 obtain ⟨vals2,hsrc,hr2⟩:=src_of hd2 r2 hl' hc hne
 rw [← hsz] at hsrc
 generalize hu:a.eval p=u at r1
 generalize hv:a.eval q=v at hsrc
 have key:∃ cc w',(Builtin.append_ #[tt,tx] o.type #[u,v]).run X.P w=.ok (.slice (some ⟨w.heap.size,0,none⟩) new.length cc) w'∧new.length≤cc ∧
  w'.heap=w.heap.push (.cells ((flatv new.length ti.size vals2).toArray++Builtin.zeroCells z.cells (cc-new.length)) e (0,0))∧w'.os=w.os∧w'.tape=w.tape∧w'.output=w.output:=by
  cases r1 with
  | sl _ _ a' n cap bb oo sz vals hn' hx ha hszr hm hcl hr hs hcap =>
    have hn0:n=0:=by simpa using hn'.symm
    subst hn0
    have hcap0:cap=0:=hs
    subst hcap0
    have hold:(Builtin.firstCells ti.size 0 (.slice a' 0 0)).run X.P w.drew=.ok ([]:List Value).toArray w.drew:=by
     cases a' with
     | none=>exact run_firstCells_none _ _ _ _ _
     | some a0=>exact run_firstCells_some _ _ _ _ _ _ _ (by simp) (fun j v hj=>by simp at hj)
    have hby':(0+new.length)*ti.bytes≤140737488355328:=Nat.le_trans (Nat.mul_le_mul_left _ hby) (by omega)
    have hrun:=run_append_grow_src w tt tx o.type e ti z hd1 hi hzv a' 0 0 [] hold v new.length _ hsrc (by omega) (by omega) (growslice_fits (by omega) hby')
    have hcc:=grownCap_ge w (0+new.length) 0 e
    simp only [Nat.zero_add,List.nil_append] at hrun hcc
    exact ⟨_,_,hrun,hcc,rfl,rfl,rfl,rfl⟩
 obtain ⟨cc,w',hrun,hcc,hheap,hos,htp,hout⟩:=key
 obtain ⟨z',hz',⟨ti',hi',hiz',his'⟩,_,hzz,hgz⟩:=grid_zeros (X:=X) (w:=w) hye hne0 (cc-new.length)
 rw [hi] at hi';cases hi'
 rw [hzv] at hiz';cases hiz'
 have hg1:Grid E w ye.size (flatv new.length ti.size vals2).toArray new:=by
  refine ⟨by simp [flatv_len,hsz],hl',fun kk r j x v' hkk hj hv'=>?_⟩
  have h1:=lt_of_get hkk
  have h2:j<ye.size:=by rw [← hl' r (List.mem_of_getElem? hkk)];exact lt_of_get hj
  rw [List.getElem?_toArray,hsz,flatv_get h1 h2] at hv'
  cases hv'
  exact hr2 kk j r x hkk hj
 have hg:=grid_app hg1 (hgz E w)
 obtain ⟨ev,hI'⟩:=hI.newBox (w':=w') hheap hos htp hout hg.1 hg.2.1 hg.2.2
 have hnb:E.boxes.length=S.boxes.length:=hI.nb
 have hrel:Rel (E.addBox w.heap.size ye.size) w' (.slice (some ⟨w.heap.size,0,none⟩) new.length cc) (.bsl S.boxes.length new.length) :=
  .bsl _ _ ye.size _ _ (by rw [← hnb];exact getElem?_snoc_new _ _) hcc
 have hdo:Does X ops i a w fun v w'=>∃ E',Inv X E' ⟨S.boxes++[new++List.replicate (cc-new.length) ye.zero],S.toks⟩ w'∧Evol E w E' w' E.boxes.length E.toks.length∧Rel E' w' v (.bsl S.boxes.length new.length) :=
  Does.val ho (wanted_of hF hw) (by simp [execOp,hop,resolve,invoke,builtin,hu,hv,hrun]) (.inl rfl) ⟨_,hI',ev,hrel⟩
 have nt:E.toks.length=S.toks.length:=by rw [← hI.nt];simp
 obtain ⟨v',w2,⟨E',h1,h2,h3⟩,h4⟩:=hdo b k cs l
 have hF':=(hF.step h2).putF hdst h3
 have h4':=h4
 rw [ho] at h4'
 exact Fin.from h4' (h2.weaken (by rw [hI.nb];exact hn) (by omega)) (hk (cc-new.length) E' w2 _ b cs h1 hF' (by simp;omega) hm hb')
theorem Ndo.headB {t e b n:Nat}{hi:Option Operand}{h:Int}{y ye:Ty}(h0:0≤h)(h2:h≤(n:Int))(ho:ops[i]?=some o:=by rfl)(hw:wantA ops F o=some true:=by rfl)(hop:o.op=.slice t p none hi none:=by rfl)(hp:opr X F p=some (.bsl b n):=by rfl)
 (hhi:bndI X F hi (n:Int)=some h:=by rfl)(hy:X.ty t=some y:=by rfl)(hyk:y.k=.slc e:=by rfl)(hye:X.ty e=some ye:=by rfl):Ndo X N ops i o F (.bsl b h.toNat) S S:=by
 refine Ndo.val ho hw fun F' E w a hc hI hF=>?_
 rw [hop] at hc
 have r1:=opr_sound hI hF ((hc p (by simp [Op.operands])).trans hp)
 have b2:=bnd_val hI hF (show bndI X F' hi (n:Int)=some h by rw [bnd_congr fun x hx=>hc x (by subst hx;simp [Op.operands])];exact hhi)
 obtain ⟨d,hdd,hd2⟩:=(X.ty_ok t y hy).agg
 simp only [hyk] at hd2
 obtain ⟨rfl,ye',hye',hne0⟩:=hd2
 rw [hye] at hye';cases hye'
 generalize hu:a.eval p=u at r1
 cases r1 with
 | bsl _ blk sz _ cap hB hcap =>
   have hb:=sliceBounds_run (X:=X) (isS:=true) (len:=n) (cap:=cap) (lo:=none) (hi:=hi.map a.eval) (l:=0) (h:=h) (.inl ⟨rfl,rfl⟩)
    (by rcases b2 with ⟨rfl,rfl⟩ | ⟨x,k,rfl,hx⟩
        ·exact .inl ⟨rfl,rfl⟩
        ·exact .inr ⟨k,by simp [hx]⟩) (Int.le_refl 0) h0 h2 hcap w
   refine ⟨.slice (some ⟨blk,0,none⟩) h.toNat cap,?_,.bsl b blk sz h.toNat cap hB (by omega)⟩
   simp [execOp,hop,hu,Instr.sliceAt,Instr.slice,run_underlying hdd,hb,sizeOf_run hye,addr_add]
theorem Ndo.tailB {t e b n:Nat}{lo:Operand}{ik:IntKind}{l:Nat}{y ye:Ty}(h2:l<n)(ho:ops[i]?=some o:=by rfl)(hw:wantA ops F o=some true:=by rfl)(hop:o.op=.slice t p (some lo) none none:=by rfl)(hp:opr X F p=some (.bsl b n):=by rfl)
 (hlo:opr X F lo=some (.val (.int ik l)):=by rfl)(hy:X.ty t=some y:=by rfl)(hyk:y.k=.slc e:=by rfl)(hye:X.ty e=some ye:=by rfl){rows:List (List AV)}(hS:S.boxes[b]?=some rows)(hrl:∀ r,r∈rows→r.length=ye.size)(hne:rows≠[]):Ndo X N ops i o F (.bst b l (n-l)) S S:=by
 refine Ndo.val ho hw fun F' E w a hc hI hF=>?_
 rw [hop] at hc
 have r1:=opr_sound hI hF ((hc p (by simp [Op.operands])).trans hp)
 have r2:=opr_sound hI hF ((hc lo (by simp [Op.operands])).trans hlo)
 obtain ⟨d,hdd,hd2⟩:=(X.ty_ok t y hy).agg
 simp only [hyk] at hd2
 obtain ⟨rfl,ye',hye',hne0⟩:=hd2
 rw [hye] at hye';cases hye'
 generalize hu:a.eval p=u at r1
 generalize hv:a.eval lo=v at r2
 cases r2
 cases r1 with
 | bsl _ blk sz _ cap hB hcap =>
   obtain ⟨arr,te,hh,hs,hlen,hrel⟩:=hI.box b blk sz rows hB hS
   have hsz:sz=ye.size:=by
    cases rows with
    | nil=>exact absurd rfl hne
    | cons r rs=>rw [← hlen r (by simp),hrl r (by simp)]
   subst hsz
   have hb:=sliceBounds_run (X:=X) (isS:=true) (len:=n) (cap:=cap) (lo:=some (.int ik l)) (hi:=none) (l:=(l:Int)) (h:=(n:Int)) (.inr ⟨ik,rfl⟩) (.inl ⟨rfl,rfl⟩) (by omega) (by omega) (Int.le_refl _) hcap w
   simp only [Int.toNat_natCast] at hb
   refine ⟨.slice (some ⟨blk,l*ye.size,none⟩) (n-l) (cap-l),?_,.bst b blk ye.size l (n-l) (cap-l) hB⟩
   have hcl:¬ cap=l:=by omega
   simp [execOp,hop,hu,hv,Instr.sliceAt,Instr.slice,run_underlying hdd,hb,sizeOf_run hye,addr_add,hcl]
theorem Ndo.clearB {c:Call}{tt e b s n:Nat}{y ye:Ty}{rows:List (List AV)}{bx:List (List (List AV))}(hn:0<n)(hS:S.boxes[b]?=some rows)(hin:s+n≤rows.length)(hrl:∀ r,r∈rows→r.length=ye.size)
 (hbx:S.boxes.set b (rows.take s++(List.replicate n ye.zero++rows.drop (s+n)))=bx)(hz1:∀ x,x∈ye.zero→cellish x=true)(ho:ops[i]?=some o:=by rfl)(hw:wantA ops F o=some true:=by rfl)(hop:o.op=.call c:=by rfl)(hcal:c.callee=.builtin .clear:=by rfl)(hargs:c.args=#[p]:=by rfl)
 (htys:c.argTypes=#[tt]:=by rfl)(hp:opr X F p=some (.bst b s n):=by rfl)(hy:X.ty tt=some y:=by rfl)(hyk:y.k=.slc e:=by rfl)(hye:X.ty e=some ye:=by rfl):Ndo X N ops i o F (.val (.tuple #[])) S ⟨bx,S.toks⟩:=by
 subst hbx
 intro F' E w a hlk hI hF
 obtain ⟨callee,args,argTypes⟩:=c
 simp only at hcal hargs htys
 subst hcal;subst hargs;subst htys
 have hlo:=looks_of hlk
 rw [hop] at hlo
 have r1:=opr_sound hI hF ((opr_congr (X:=X) (F:=F) (F':=F') (o:=p) fun s hs=>hlo s (by simp [Op.operands,Call.operands,hs])).trans hp)
 obtain ⟨d1,hd1,hk1⟩:=(X.ty_ok tt y hy).agg
 simp only [hyk] at hk1
 obtain ⟨rfl,ye',hye',hne0⟩:=hk1
 rw [hye] at hye';cases hye'
 generalize hu:a.eval p=u at r1
 cases r1 with
 | bst _ blk sz _ _ cap hB =>
   obtain ⟨arr,te,hh,hs,hlen,hrel⟩:=hI.box b blk sz rows hB hS
   obtain ⟨r0,hr0⟩:=lget_of_lt rows (i:=0) (by omega)
   have hsz:sz=ye.size:=by rw [← hlen r0 (List.mem_of_getElem? hr0),hrl r0 (List.mem_of_getElem? hr0)]
   subst hsz
   obtain ⟨z,hz,_,_,hzz,hgz⟩:=grid_zeros (X:=X) (w:=w) hye hne0 n
   have hg:Grid E w ye.size arr rows:=⟨hs,hlen,hrel⟩
   have hg2:=grid_app (grid_take hg (n:=s) (by omega)) (grid_app (hgz E w) (grid_drop hg (s+n)))
   have hfit:s*ye.size+(Builtin.zeroCells z.cells n).toList.length≤arr.size:=by
    rw [Array.length_toList,hzz,← Nat.add_mul,hs];exact Nat.mul_le_mul_right _ hin
   have hone:∀ v,v∈(Builtin.zeroCells z.cells n).toList→v.oneCell'=true:=fun v hv=>by
    obtain ⟨q,hq⟩:=lget_of_mem hv
    have hq':(Builtin.zeroCells z.cells n)[q]?=some v:=by simpa using hq
    have hlt:q<n*ye.size:=by have:=lt_of_get hq;rw [Array.length_toList,hzz] at this;exact this
    have hpos:0<ye.size:=Nat.pos_of_ne_zero hne0
    have hk:q / ye.size<n:=Nat.div_lt_of_lt_mul (by rw [Nat.mul_comm];exact hlt)
    have hzl:=hg2.2.1 ye.zero (List.mem_append_right _ (List.mem_append_left _ (List.mem_replicate.2 ⟨by omega,rfl⟩)))
    obtain ⟨x,hx⟩:=lget_of_lt ye.zero (i:=q % ye.size) (by rw [hzl];exact Nat.mod_lt _ hpos)
    have:=(hgz E w).2.2 (q / ye.size) ye.zero (q % ye.size) x v (by simp [hk]) hx (by rw [Nat.mul_comm,Nat.div_add_mod];exact hq')
    exact one_of_cellish this (hz1 x (List.mem_of_getElem? hx))
   have hst:=run_storeCells_at X.P blk (s*ye.size) te (Builtin.zeroCells z.cells n).toList 0 arr w hh (by simpa using hfit) hone
   simp only [Nat.add_zero] at hst
   have hnn:¬ n=0:=by omega
   have hrun:(Builtin.clear_ #[tt] o.type #[.slice (some ⟨blk,s*ye.size,none⟩) n cap]).run X.P w=.ok (.tuple #[]) (w.setRow blk (arr.toList.take (s*ye.size)++(Builtin.zeroCells z.cells n).toList++arr.toList.drop (s*ye.size+(Builtin.zeroCells z.cells n).toList.length)).toArray):=by
    obtain ⟨m,rfl⟩:∃ m,n=m+1:=⟨n-1,by omega⟩
    simp [Builtin.clear_,run_underlying hd1,hz,hst]
   have harr:(arr.toList.take (s*ye.size)++(Builtin.zeroCells z.cells n).toList++arr.toList.drop (s*ye.size+(Builtin.zeroCells z.cells n).toList.length)).toArray =
    (arr.toList.take (s*ye.size)).toArray++(Builtin.zeroCells z.cells n++(arr.toList.drop ((s+n)*ye.size)).toArray):=by
    rw [← Array.toList_inj]
    simp only [Array.toList_append,List.append_assoc]
    rw [Array.length_toList,hzz,← Nat.add_mul]
   rw [harr] at hrun
   obtain ⟨ev,hI'⟩:=hI.setBox hB hS hh rfl hg2.1 hg2.2.1 hg2.2.2
   exact Does.val ho (wanted_of hF (by rw [wantA_congr hlk];exact hw)) (by simp [execOp,hop,resolve,invoke,builtin,hu,hrun]) (.inl rfl) ⟨E,hI',ev,.val _⟩
theorem putK_all {R:Type}:∀ (l xs:List AV)(k:List AV→Option R),l.length=xs.length→putK l 0 xs k=k xs
 | [],[],k,_=>by simp [putK]
 | a::l,x::xs,k,h=>by simp only [putK];exact putK_all l xs _ (by simpa using h)
 | [],_::_,k,h=>by simp at h
 | _::_,[],k,h=>by simp at h
theorem setK_at {α R:Type}:∀ (l:List α)(n:Nat)(x:α)(k:List α→Option R),n<l.length→setK l n x k=k (l.set n x)
 | a::l,0,x,k,_=>by simp [setK]
 | a::l,n+1,x,k,h=>by simp only [setK];rw [setK_at l n x _ (by simpa using h)];rfl
 | [],n,x,k,h=>by simp at h
theorem storeA_row {b r sz:Nat}{x:AV}{xs cs:List AV}{rows:List (List AV)}(hb:S.boxes[b]?=some rows)(hr:rows[r]?=some cs)(hc:cellsOf x=some xs)(hl:xs.length=sz)(hl':cs.length=sz) :
 storeA S sz (.ptr b r 0) x=some ⟨S.boxes.set b (rows.set r xs),S.toks⟩:=by
 obtain ⟨bx,tk⟩:=S
 simp only at hb
 simp only [storeA,hc]
 rw [show Nat.beq xs.length sz=true by rw [hl];exact Nat.beq_refl sz]
 simp only [getN_eq,hb,hr]
 rw [putK_all _ _ _ (by omega),setK_at _ _ _ _ (lt_of_get hr),setK_at _ _ _ _ (lt_of_get hb)]
theorem takeK_all {R:Type}:∀ (l:List AV)(k:List AV→Option R),takeK l.length l k=k l
 | [],k=>by simp [takeK]
 | a::l,k=>by simp only [List.length_cons,takeK];rw [takeK_all l]
theorem loadA_row {b r sz:Nat}{g:Bool}{cs:List AV}{rows:List (List AV)}(hb:S.boxes[b]?=some rows)(hr:rows[r]?=some cs)(hl:cs.length=sz):loadA S sz g (.ptr b r 0)=finA g cs:=by
 subst hl
 simp only [loadA,getN_eq,hb,hr,dropK]
 rw [takeK_all]
theorem Ndo.loadB {t b r:Nat}{y:Ty}{cs:List AV}{rows:List (List AV)}{x:AV}(hb:S.boxes[b]?=some rows)(hr:rows[r]?=some cs)(hl:cs.length=y.size)(ho:ops[i]?=some o:=by rfl)(hw:wantA ops F o=some true:=by rfl)(hop:o.op=.load t p:=by rfl)
 (hp:opr X F p=some (.ptr b r 0):=by rfl)(hy:X.ty t=some y:=by rfl)(hx:finA (isAggK y.k) cs=some x:=by rfl):Ndo X N ops i o F x S S:=by
 refine Ndo.ev ho hw ?_
 rw [hop]
 simp only [evalR,sizeT,hy,hp]
 rw [loadA_row hb hr hl];exact hx
end
end Go.V
namespace Go.V
open Go Go.Proofs
def idxP (p:Nd→Bool):Nat→List Nd→Int
 | _,[]=>-1
 | i,x::l=>if p x then i else idxP p (i+1) l
theorem idxP_any (p:Nd→Bool):∀ (l:List Nd)(i:Nat),decide (idxP p i l≥0)=l.any p
 | [],i=>by simp [idxP]
 | x::l,i=>by
   have hb:(x::l).any p=(p x||l.any p):=rfl
   rw [hb,← idxP_any p l (i+1)]
   by_cases h:p x=true
   ·simp [idxP,h]
   ·have h':p x=false:=by simpa using h
    have:idxP p i (x::l)=idxP p (i+1) l:=by simp only [idxP];rw [if_neg h]
    rw [this,h'];rfl
theorem q_indexF (l:List Nd)(f:FuncId)(caps:List AV)(p:Nd→Bool)(hl:l.length≤1000000000) [hok:OKL 0 0 caps](hp:∀ x,x∈l→Pure X f (nd x::caps) (vb (p x)))(hcat:∀ xs,catA xs caps=some (xs++caps)) :
 Pure X 164 [.sl (nrows l) .no,.fn f caps] (vi (idxP p 0 l)):=by
 refine Pure.run Tryz.func164 ?_
 refine AK.while_ (ι:=Nat) 0 0 (fun i=>i≤l.length∧idxP p 0 l=idxP p i (l.drop i)) (fun i=>[(8,vi i),(7,vi l.length),(0,.sl (nrows l) .no),(1,.fn f caps)]) (fun _=>⟨[],[]⟩) (fun i=>l.length-i) ?_ 0 ⟨Nat.zero_le _,rfl⟩
  ⟨rfl,by rw [← nrows_len];rfl,rfl,rfl,trivial⟩ rfl rfl rfl rfl rfl (fun _=>inferInstance) (fun _=>inferInstance)
 intro i hi IH
 refine AK.ev 100 rfl ?_
 refine AK.if_ (fun h=>?_) (fun h=>?_)
 ·have hlt:i<l.length:=by have:=of_decide_eq_true h;omega
  obtain ⟨x,hx⟩:=lget_of_lt l hlt
  have hd:idxP p i (l.drop i)=if p x then (i:Int) else idxP p (i+1) (l.drop (i+1)):=by rw [drop_cons hx];rfl
  refine AK.ix i (by omega) (nrows_get hx) ?_
  refine AK.pc (hp x (List.mem_of_getElem? hx)) ?_ (hzs:=hcat _)
  refine AK.if_ (fun h2=>?_) (fun h2=>?_)
  ·refine AK.rt Tryz.func164 ?_
   have h3:p x=true:=h2
   rw [hi.2,hd,h3];rfl
  ·have h3:p x=false:=h2
   exact IH (i+1) ⟨hlt,by rw [hi.2,hd,h3];rfl⟩ (by omega) _ _ ⟨vint ((wrap_small (by omega) (by omega)).trans (by omega)),rfl,rfl,rfl,trivial⟩ rfl rfl rfl
 ·have:i=l.length:=by have:=of_decide_eq_false h;omega
  refine AK.rt Tryz.func164 ?_
  rw [hi.2,this,List.drop_length];rfl
theorem q_containsF (l:List Nd)(f:FuncId)(caps:List AV)(p:Nd→Bool)(hl:l.length≤1000000000) [hok:OKL 0 0 caps](hp:∀ x,x∈l→Pure X f (nd x::caps) (vb (p x)))(hcat:∀ xs,catA xs caps=some (xs++caps)) :
 Pure X 112 [.sl (nrows l) .no,.fn f caps] (vb (l.any p)):=by
 refine Pure.run Tryz.func112 ?_
 refine AK.pc (q_indexF l f caps p hl hp hcat) ?_
 refine AK.rt Tryz.func112 ?_
 rw [← idxP_any p l 0];rfl
theorem cat0 (xs:List AV):catA xs []=some (xs++[]):=by simp [catA]
theorem cat1 (x:AV)(xs:List AV):catA xs [x]=some (xs++[x]):=by simp [catA,catK_eq]
theorem longN_eq (n:Nd):longN n=(decide (8<n.name.length)||n.kids.any longN):=by
 have:∀ l:List Nd,longL l=l.any longN:=by
  intro l
  induction l with
  | nil=>rfl
  | cons x l ih=>simp [longL,ih]
 cases n;rw [longN,this];rfl
theorem q_long (n:Nd)(hn:countN n≤1000000000):Pure X 215 [nd n] (vb (longN n)):=by
 induction n using Nd.ind with
 | h n ih =>
   have hc:=countN_eq n
   have hll:=length_le_countL n.kids
   have hq:=q_containsF n.kids 215 [] longN (by omega) (fun x hx=>ih x hx (by have:=countL_mem hx;omega)) cat0
   rw [longN_eq]
   refine Pure.run Tryz.func215 ?_
   refine AK.gd (fun h=>?_) (fun h=>?_)
   ·have h':8<n.name.length:=by have:=of_decide_eq_true h;rw [sz_str] at this;omega
    refine AK.rz Tryz.func215 ?_
    rw [decide_eq_true h'];rfl
   ·have h':¬ 8<n.name.length:=by have:=of_decide_eq_false h;rw [sz_str] at this;omega
    refine AK.pc hq ?_
    refine AK.rz Tryz.func215 ?_
    rw [decide_eq_false h'];rfl
noncomputable def sameL (a b:List Nd):Bool:=@decide (a=b) (Classical.propDecidable _)
theorem sameL_iff {a b:List Nd}:sameL a b=true↔a=b:=by unfold sameL;exact @decide_eq_true_iff _ (Classical.propDecidable _)
theorem sameN_eq (a b:Nd):sameN a b=((a.kind==b.kind)&&((a.name==b.name)&&((a.num==b.num)&&sameL a.kids b.kids))):=by
 rw [Bool.eq_iff_iff]
 simp only [sameN_iff,Bool.and_eq_true,beq_iff_eq,sameL_iff]
 cases a;cases b
 simp
theorem q_equalF (a b:List Nd)(ha:a.length≤1000000000)(hb:b.length≤1000000000)(h:∀ x,x∈a→∀ y,y∈b→Pure X 204 [nd x,nd y] (vb (sameN x y))) :
 Pure X 237 [.sl (nrows a) .no,.sl (nrows b) .no,.fn 204 []] (vb (sameL a b)):=by
 refine Pure.run Tryz.func237 ?_
 refine AK.if_ (fun h1=>?_) (fun h1=>?_)
 ·have h1':a.length≠b.length:=by
   rw [nrows_len,nrows_len] at h1
   simp at h1;omega
  refine AK.rz Tryz.func237 ?_
  have:sameL a b=false:=by
   cases h:sameL a b with
   | false=>rfl
   | true=>rw [sameL_iff.1 h] at h1';exact absurd rfl h1'
  rw [this]
 have h1':a.length=b.length:=by
  rw [nrows_len,nrows_len] at h1
  simp at h1;omega
 refine AK.while_ (ι:=Nat) 0 0 (fun i=>i≤a.length∧a.take i=b.take i) (fun i=>[(17,vi i),(16,vi a.length),(15,.sl (nrows a) .no),(0,.sl (nrows a) .no),(1,.sl (nrows b) .no),(2,.fn 204 [])]) (fun _=>⟨[],[]⟩) (fun i=>a.length-i) ?_ 0
  ⟨Nat.zero_le _,by simp⟩ ⟨rfl,by rw [← nrows_len];rfl,rfl,rfl,rfl,rfl,trivial⟩ rfl rfl rfl rfl rfl (fun _=>inferInstance) (fun _=>inferInstance)
 intro i hi IH
 refine AK.ev 100 rfl ?_
 refine AK.if_ (fun h2=>?_) (fun h2=>?_)
 ·have hlt:i<a.length:=by have:=of_decide_eq_true h2;omega
  obtain ⟨x,hx⟩:=lget_of_lt a hlt
  obtain ⟨y,hy⟩:=lget_of_lt b (i:=i) (by omega)
  refine AK.ix i (by omega) (nrows_get hx) ?_
  refine AK.ix i (by omega) (nrows_get hy) ?_
  refine AK.pc (h x (List.mem_of_getElem? hx) y (List.mem_of_getElem? hy)) ?_
  refine AK.if_ (fun h3=>?_) (fun h3=>?_)
  ·have h3':sameN x y=false:=by have:(!sameN x y)=true:=h3;simpa using this
   refine AK.rz Tryz.func237 ?_
   have:sameL a b=false:=by
    cases h:sameL a b with
    | false=>rfl
    | true =>
      have:=sameL_iff.1 h
      subst this
      rw [hx] at hy;cases hy
      rw [sameN_iff.2 rfl] at h3';cases h3'
   rw [this]
  ·have h3':sameN x y=true:=by have:(!sameN x y)=false:=h3;simpa using this
   have:=sameN_iff.1 h3'
   subst this
   exact IH (i+1) ⟨hlt,by rw [List.take_add_one,List.take_add_one,hi.2,hx,hy]⟩ (by omega) _ _ ⟨vint ((wrap_small (by omega) (by omega)).trans (by omega)),rfl,rfl,rfl,rfl,rfl,trivial⟩ rfl rfl rfl
 ·have hie:i=a.length:=by have:=of_decide_eq_false h2;omega
  have he:=hi.2
  rw [hie] at he
  rw [List.take_length,h1',List.take_length] at he
  refine AK.rz Tryz.func237 ?_
  rw [sameL_iff.2 he]
theorem q_same (a b:Nd)(ha:countN a≤1000000000)(hb:countN b≤1000000000):Pure X 204 [nd a,nd b] (vb (sameN a b)):=by
 induction a using Nd.ind generalizing b with
 | h a ih =>
   have hca:=countN_eq a
   have hcb:=countN_eq b
   have hla:=length_le_countL a.kids
   have hlb:=length_le_countL b.kids
   have hq:=q_equalF a.kids b.kids (by omega) (by omega) fun x hx y hy=>ih x hx y (by have:=countL_mem hx;omega) (by have:=countL_mem hy;omega)
   rw [sameN_eq]
   refine Pure.run Tryz.func204 ?_
   refine AK.gd (fun h1=>?_) (fun h1=>?_)
   ·have h1':(a.kind==b.kind)=true:=h1
    rw [h1',Bool.true_and]
    refine AK.gd (fun h2=>?_) (fun h2=>?_)
    ·have h2':(a.name==b.name)=true:=h2
     rw [h2',Bool.true_and]
     refine AK.gd (fun h3=>?_) (fun h3=>?_)
     ·have h3':(a.num==b.num)=true:=h3
      rw [h3',Bool.true_and]
      refine AK.pc hq ?_
      exact AK.rz Tryz.func204 rfl
     ·have h3':(a.num==b.num)=false:=h3
      rw [h3']
      exact AK.rz Tryz.func204 rfl
    ·have h2':(a.name==b.name)=false:=h2
     rw [h2']
     refine AK.gn ?_
     exact AK.rz Tryz.func204 rfl
   ·have h1':(a.kind==b.kind)=false:=h1
    rw [h1']
    refine AK.gn ?_
    refine AK.gn ?_
    exact AK.rz Tryz.func204 rfl
theorem bN_in1 (b:Bool)(s:List UInt8)(h:Int):RinB [1] [0] [[bN (adr 231 1 b) s h]] [[bN (adr 231 0 b) s h]] :=
 have h1:RinC [1] [0] (adr 231 1 b) (adr 231 0 b):=inferInstance
 have h2:RinC [1] [0] (.buf 5 s 0) (.buf 5 s 0):=inferInstance
 have h3:Ren true [1] [0] (.sl [] .tight) (.sl [] .tight):=Ren_sl .nil (.inr (.inr (.inr (.inl ⟨rfl,rfl⟩))))
 have h4:RinC [1] [0] (vi h) (vi h):=inferInstance
 ⟨.cons (.cons (.cons h1.s (.cons h2.s (.cons h3 (.cons h4.s .nil)))) .nil) .nil⟩
theorem parseS_at {s:List UInt8}(h:(parseS s).2.1=0):(parseS s).2.2=0:=by
 unfold parseS at h ⊢
 split at h
 ·rename_i h0
  rw [if_pos h0]
  split at h
  ·simp at h
  ·rename_i hb
   rw [if_neg hb]
   split at h
   ·simp at h
   ·rename_i hl
    rw [if_neg hl]
 ·rename_i h0
  exact absurd h h0
theorem parseS_count (s:List UInt8):countN (parseS s).1≤500:=by
 unfold parseS
 split
 ·split
  ·show countN nd0≤500;decide
  ·split
   ·show countN nd0≤500;decide
   ·rename_i h;simp only;omega
 ·show countN nd0≤500;decide
inductive PrI:Nd→Prop where
 | mk (k:Int) (s:List UInt8) (m:Int) (ks:List Nd) (h0:-9223372036854775808≤m) (h1:m≤9223372036854775807) (hk:∀ x,x∈ks→PrI x):PrI (.mk k s m ks)
theorem PrI.short {n:Nd}(h:PrI n)(hl:longN n=false):PrN n:=by
 induction h with
 | mk k s m ks h0 h1 hk ih =>
   rw [longN_eq,Bool.or_eq_false_iff] at hl
   obtain ⟨h2,h3⟩:=hl
   simp only [List.any_eq_false] at h3
   exact .mk k s m ks (by have:=of_decide_eq_false h2;simp at this;omega) h0 h1 fun x hx=>ih x hx (by have:=h3 x hx;simpa using this)
theorem nrows_dropLast (l:List Nd):((nrows l).take (l.length-1)).drop 0=nrows l.dropLast:=by
 rw [nrows_map,nrows_map,List.drop_zero,← List.map_take,List.dropLast_eq_take]
set_option maxHeartbeats 1000000 in
theorem q_printed (n:Nd)(hn:countN n≤1000000000)(hnum:PrI n):Pure X 180 [nd n] (.tup [str (printedS n).1,vb (printedS n).2]):=by
 have hcn:=countN_eq n
 have hll:=length_le_countL n.kids
 have hfl:flatTy X.P 169=some [0,0]:=by kernel_rfl
 refine Pure.run Tryz.func180 ?_
 refine AK.pc (q_isLarge n (by omega)) ?_
 refine AK.gd (fun h1=>?_) (fun h1=>?_)
 ·have h1':largeN n=true:=h1
  refine AK.gy ?_
  refine AK.yes ?_
  have hP:printedS n=([],false):=by unfold printedS;rw [if_pos (by simp [h1'])]
  rw [hP]
  exact AK.rz Tryz.func180 rfl
 have h1':largeN n=false:=h1
 refine AK.gd (fun h2=>?_) (fun h2=>?_)
 ·have h2':n.kids.isEmpty=true:=by
   rw [nrows_len] at h2
   simp at h2;simp [h2]
  refine AK.yes ?_
  have hP:printedS n=([],false):=by unfold printedS;rw [if_pos (by simp [h2'])]
  rw [hP]
  exact AK.rz Tryz.func180 rfl
 have h2':n.kids.isEmpty=false:=by
  rw [nrows_len] at h2
  simp at h2;simpa using h2
 refine AK.pc (q_long n hn) ?_
 refine AK.if_ (fun h3=>?_) (fun h3=>?_)
 ·have h3':longN n=true:=h3
  have hP:printedS n=([],false):=by unfold printedS;rw [if_pos (by simp [h3'])]
  rw [hP]
  exact AK.rz Tryz.func180 rfl
 have h3':longN n=false:=h3
 have hsm:countN n≤500∧depthN n≤24:=by
  simp only [largeN,decide_eq_false_iff_not] at h1'
  omega
 have hp:PrN n:=hnum.short h3'
 have hkne:n.kids≠[]:=by intro e;rw [e] at h2';simp at h2'
 have hpos:0<n.kids.length:=List.length_pos_iff.2 hkne
 obtain ⟨lst,hlst⟩:=lget_of_lt n.kids (i:=n.kids.length-1) (by omega)
 have hL:n.kids.getLastD nd0=lst:=by
  rw [List.getLastD_eq_getLast?,List.getLast?_eq_getElem?,hlst];rfl
 have hlm:lst∈n.kids:=List.mem_of_getElem? hlst
 have hlp:=hp.get.2.2.2 lst hlm
 have hdn:=depthN_eq n
 have hlc:=countL_mem hlm
 have hlcn:=countN_eq lst
 have hw1:IntKind.i64.wrap (((nrows n.kids).length:Int)-1)=((n.kids.length-1:Nat):Int):=by rw [nrows_len];exact (wrap_small (by omega) (by omega)).trans (by omega)
 have hP:printedS n=(prtT n,!(prtT n==[])&&((parseS (prtT n)).2.1==0&&sameN (parseS (prtT n)).1 n)):=by unfold printedS;rw [if_neg (by simp [h1',h2',h3'])]
 have hT:prtT n=outL n.kids.dropLast 0++outL lst.kids 0:=by rw [prtT,hL]
 have hS1:∀ x,x∈n.kids.dropLast→HS x∧0+depthN x≤60∧(outS x 0).length≤1000*countN x:=fun x hx=>by
  have hm:=(List.dropLast_sublist _).subset hx
  have h1:=countL_mem hm
  have h2:=depth_mem hm
  have hx':=hp.get.2.2.2 x hm
  exact ⟨(h_stmts x hx' (by omega)).1,by omega,outS_le x 0 hx' (by omega)⟩
 have hS2:∀ x,x∈lst.kids→HS x∧0+depthN x≤60∧(outS x 0).length≤1000*countN x:=fun x hx=>by
  have h1:=countL_mem hx
  have h2:=depth_mem hx
  have h3:=depth_mem hlm
  have h4:=depthN_eq lst
  have hx':=hlp.get.2.2.2 x hx
  exact ⟨(h_stmts x hx' (by omega)).1,by omega,outS_le x 0 hx' (by omega)⟩
 have hcd:countL n.kids.dropLast≤countL n.kids:=by rw [List.dropLast_eq_take];exact countL_le
 have hb1:=outL_le (l:=n.kids.dropLast) (h:=0) fun x hx=>(hS1 x hx).2.2
 have hb2:=outL_le (l:=lst.kids) (h:=0) fun x hx=>(hS2 x hx).2.2
 have hTl:(prtT n).length≤1000000:=by rw [hT];simp;omega
 have hdl:n.kids.dropLast.length≤1000:=by rw [List.length_dropLast];omega
 have hll2:=length_le_countL lst.kids
 rw [hP]
 refine AK.dn 2 0 ?_
 refine Drv.ru (fun S'=>Ndo.buildZ (cs:=[.pointer none,.slice none 0 0,.slice none 0 0,.int .i64 0]) rfl rfl rfl rfl rfl rfl) ?_
 refine Drv.w (Ndo.boxB 5 rfl rfl rfl rfl rfl rfl rfl rfl) ?_
 refine Drv.e ?_
 refine Drv.look (strip_eq (Ndo.ev rfl rfl rfl) (strip_eq (Ndo.ev rfl rfl rfl) allN)) rfl ?_
 refine Drv.e ?_
 refine Drv.e ?_
 refine Drv.e ?_
 refine Drv.e ?_
 refine Drv.z ?_
 refine AK.as_ 5 (vi (n.kids.length-1:Nat)) ?_ (vint hw1)
 refine AK.as_ 33 (vi (n.kids.length-1:Nat)) ?_ (vint hw1)
 refine AK.op (Ndo.cut (l:=0) (h:=((n.kids.length-1:Nat):Int)) (r:=nrows n.kids.dropLast) rfl rfl rfl rfl rfl rfl rfl rfl rfl (by omega) (by omega) (by rw [nrows_len];omega) (nrows_al _) (by rw [Int.toNat_natCast];exact nrows_dropLast _)) ?_
 refine AK.while_ (ι:=Nat × List UInt8 × Bool) 2 1 (fun i=>i.1≤n.kids.dropLast.length∧i.2.1++outL (n.kids.dropLast.drop i.1) 0=outL n.kids.dropLast 0)
  (fun i=>[(36,vi i.1),(35,vi n.kids.dropLast.length),(34,.sl (nrows n.kids.dropLast) .no),(4,.ptr 1 0 0),(1,.ptr 0 0 0),(5,vi (n.kids.length-1:Nat))])
  (fun i=>⟨[[ncells n],[bN (adr 231 1 i.2.2) i.2.1 0]],[i.2.1.length]⟩) (fun i=>n.kids.dropLast.length-i.1) ?_ (0,[],true) ⟨Nat.zero_le _,rfl⟩ ⟨rfl,by rw [← nrows_len n.kids.dropLast];rfl,rfl,rfl,rfl,rfl,trivial⟩ rfl rfl rfl rfl rfl
  (fun _=>inferInstance) (fun _=>inferInstance)
 rintro ⟨i,out,c⟩ ⟨hi,hO⟩ IH
 simp only at hi hO IH ⊢
 have hol:=congrArg List.length hO
 simp only [List.length_append] at hol
 refine AK.ev 100 rfl ?_
 refine AK.if_ (fun g1=>?_) (fun g1=>?_)
 ·have hlt:i<n.kids.dropLast.length:=by have:=of_decide_eq_true g1;omega
  obtain ⟨y,hy⟩:=lget_of_lt n.kids.dropLast hlt
  obtain ⟨hs1,hs2,hs3⟩:=hS1 y (List.mem_of_getElem? hy)
  rw [drop_cons hy] at hO hol
  simp only [outL,List.length_append] at hO hol
  refine AK.ix i (by omega) (nrows_get hy) ?_
  refine AK.hc (hb:=bN_in1 c out 0) (τ':=[0]) [1] [0] (hs1 c out 0 hs2 (by omega)) ?_
  exact IH (i+1,out++outS y 0,false) ⟨hlt,by simpa using hO⟩ (by simp only;omega) _ _ ⟨vint ((wrap_small (by omega) (by omega)).trans (by omega)),rfl,rfl,rfl,rfl,rfl,trivial⟩ rfl rfl rfl
 have hie:i=n.kids.dropLast.length:=by have:=of_decide_eq_false g1;omega
 subst hie
 rw [List.drop_eq_nil_of_le (Nat.le_refl _)] at hO
 simp only [outL,List.append_nil] at hO
 subst hO
 refine AK.ix ((n.kids.length-1:Nat):Int) (by omega) (by rw [Int.toNat_natCast];exact nrows_get hlst) ?_
 refine AK.while_ (ι:=Nat × List UInt8 × Bool) 2 1 (fun i=>i.1≤lst.kids.length∧i.2.1++outL (lst.kids.drop i.1) 0=prtT n)
  (fun i=>[(51,vi i.1),(50,vi lst.kids.length),(49,.sl (nrows lst.kids) .no),(4,.ptr 1 0 0),(1,.ptr 0 0 0)])
  (fun i=>⟨[[ncells n],[bN (adr 231 1 i.2.2) i.2.1 0]],[i.2.1.length]⟩) (fun i=>lst.kids.length-i.1) ?_ (0,outL n.kids.dropLast 0,c) ⟨Nat.zero_le _,hT.symm⟩ ⟨rfl,by rw [← nrows_len lst.kids];rfl,rfl,rfl,rfl,trivial⟩ rfl rfl rfl rfl rfl
  (fun _=>inferInstance) (fun _=>inferInstance)
 rintro ⟨i,out,c⟩ ⟨hi,hO⟩ IH
 simp only at hi hO IH ⊢
 have hol:=congrArg List.length hO
 simp only [List.length_append] at hol
 refine AK.ev 100 rfl ?_
 refine AK.if_ (fun g1=>?_) (fun g1=>?_)
 ·have hlt:i<lst.kids.length:=by have:=of_decide_eq_true g1;omega
  obtain ⟨y,hy⟩:=lget_of_lt lst.kids hlt
  obtain ⟨hs1,hs2,hs3⟩:=hS2 y (List.mem_of_getElem? hy)
  rw [drop_cons hy] at hO hol
  simp only [outL,List.length_append] at hO hol
  refine AK.ix i (by omega) (nrows_get hy) ?_
  refine AK.hc (hb:=bN_in1 c out 0) (τ':=[0]) [1] [0] (hs1 c out 0 hs2 (by omega)) ?_
  exact IH (i+1,out++outS y 0,false) ⟨hlt,by simpa using hO⟩ (by simp only;omega) _ _ ⟨vint ((wrap_small (by omega) (by omega)).trans (by omega)),rfl,rfl,rfl,rfl,trivial⟩ rfl rfl rfl
 have hie:i=lst.kids.length:=by have:=of_decide_eq_false g1;omega
 subst hie
 rw [List.drop_eq_nil_of_le (Nat.le_refl _)] at hO
 simp only [outL,List.append_nil] at hO
 subst hO
 generalize prtT n=out at *
 have hpc:=parseS_count out
 have hpa:=parseS_at (s:=out)
 refine AK.hc (hb:=bN_in1 c out 0) (τ':=[0]) [1] [0] (sN c out 0 (by omega)) ?_
 refine AK.pc (q_parse out (by omega)) ?_
 generalize parseS out=T at hpc hpa ⊢
 obtain ⟨m,cd,at_⟩:=T
 simp only at hpc hpa ⊢
 refine AK.gd (fun g1=>?_) (fun g1=>?_)
 ·have g1':(out==[])=false:=by have:(!(out==[]))=true:=g1;simpa using this
  rw [g1',Bool.not_false,Bool.true_and]
  refine AK.op (Ndo.eqs (r:=((cd==0)&&((at_==0)&&true))) rfl rfl rfl rfl rfl hfl rfl (.inl ⟨rfl,rfl⟩)) ?_
  refine AK.gd (fun g2=>?_) (fun g2=>?_)
  ·have g2':cd=0:=by simp at g2;exact g2.1
   refine AK.pc (q_same m n (by omega) hn) ?_
   refine AK.rz Tryz.func180 ?_
   simp [g2']
  ·have g2':¬ cd=0:=by
    intro h0
    have:=hpa h0
    simp [h0,this] at g2
   refine AK.rz Tryz.func180 ?_
   simp [g2']
 ·have g1':(out==[])=true:=by have:(!(out==[]))=false:=g1;simpa using this
  refine AK.gn ?_
  refine AK.rz Tryz.func180 ?_
  simp [g1']
theorem q_progOk (n:Nd)(hn:countN n≤1000000000)(hnum:PrI n):Pure X 138 [nd n] (vb (progOkS n)):=by
 refine Pure.run Tryz.func138 ?_
 refine AK.pc (q_printed n hn hnum) ?_
 refine AK.rz Tryz.func138 ?_
 rw [(printed_ok n).1]
end Go.V
namespace Go.V
open Go
section
variable {X:Cx}{B:Bx}{E E1:Env}{S S1:St}{w w':World}{F:Frm}{a:Act}{N:Nat}{R:AE→St→Prop}{ops:Array Oper}{i:Nat}{o:Oper}
theorem AK.retK {k:List Item}{xs:List AV}(hf:X.P.funcs[B.f]?=some B.fn)(hR:R (.ret (retA xs)) S)(h:resF X F S B.fn.results.toList=some xs:=by rfl):AK X B (.code .ret::k) F S R:=by
 intro E w a b cs hI hF hn hm hb
 obtain ⟨v,h1,h2⟩:=results_sound hI hF h
 have nt:E.toks.length=S.toks.length:=by rw [← hI.nt];simp
 refine .inl ⟨.returned v,w,{ b.at a (.code .ret::k) with mode:=.returning },⟨E,S,hI,Evol.refl _ _ _ _,_,h2,hR⟩,.one step_ret,hb,⟨rfl,hF.nod,rfl,B.fn,by rw [← hf];exact congrArg (X.P.funcs[·]?) hb,h1⟩⟩
def Fresh (X:Cx)(f:FuncId)(args:List AV)(n:Nat)(P:List (List AV)→Prop):Prop :=
 Enters X.P f∧ACalls X f args ⟨[],[]⟩ fun e S'=>∃ rows,e=.ret (.bsl 0 n)∧S'=⟨[rows],[]⟩∧P rows
theorem back_new (hI:Inv X E S w){rows:List (List AV)}(hflat:RowsOk 0 0 rows)(hI1:Inv X E1 ⟨[rows],[]⟩ w')(ev:Evol (E.sub [] []) w E1 w' 0 0) :
 ∃ blk sz,E1.boxes[0]?=some (some (blk,sz))∧Evol E w (E.addBox blk sz) w' E.boxes.length E.toks.length∧Inv X (E.addBox blk sz) ⟨S.boxes++[rows],S.toks⟩ w':=by
 have hτl:∀ t,t∈([]:List Nat)→t<E.toks.length:=fun t h=>by cases h
 have nb1:E1.boxes.length=1:=hI1.nb
 obtain ⟨⟨blk,sz⟩,hB⟩:=hI1.np 0 (by omega)
 have nt1:E1.toks=[]:=by have:=hI1.nt;simpa using this
 have own1:∀ b,E1.own b→b=blk:=fun b h=>by
  rcases h with ⟨j,s,h⟩ | ⟨t,l,c,s,h⟩
  ·have:=lt_of_get h
   have:j=0:=by omega
   subst this
   rw [hB] at h;cases h;rfl
  ·rw [nt1] at h;simp at h
 have ownb:E1.own blk:=.inl ⟨0,sz,hB⟩
 have nown:∀ b,¬ (E.sub [] []).own b:=fun b h=>by
  rcases (sub_own hτl).1 h with ⟨j,s,hj,_⟩ | ⟨t,l,c,s,ht,_⟩
  ·cases hj
  ·cases ht
 have hge:w.heap.size≤blk:=by
  rcases Nat.lt_or_ge blk w.heap.size with h | h
  ·exact absurd (ev.own blk h ownb) (nown blk)
  ·exact h
 have hlt1:blk<w'.heap.size:=hI1.own_lt ownb
 have frE:∀ {b o:Nat},E.mt b o→E1.fr b o:=fun {b o} h=>by
  rw [ev.fr]
  refine ⟨h,fun ho=>?_⟩
  rcases ho with ⟨j,s,hj,_⟩ | ⟨t,l,c,s,ht,_⟩
  ·cases hj
  ·cases ht
 have hfar:∀ {b:Nat},b<w.heap.size→w'.heap[b]?=w.heap[b]?:=fun {b} h=>ev.block b h (nown b)
 have hmtx:∀ {b o:Nat},(E.addBox blk sz).mt b o→E.mt b o∨b=blk:=fun {b o} h=>by
  rcases h with h | ⟨j,s,h⟩ | h
  ·exact .inl (.inl h)
  ·rcases getElem?_snoc h with h | ⟨_,h⟩
   ·exact .inl (.inr (.inl ⟨j,s,h⟩))
   ·cases h;exact .inr rfl
  ·exact .inl (.inr (.inr h))
 have hownx:∀ {b:Nat},(E.addBox blk sz).own b→E.own b∨b=blk:=fun {b} h=>by
  rcases h with ⟨j,s,h⟩ | h
  ·rcases getElem?_snoc h with h | ⟨_,h⟩
   ·exact .inl (.inl ⟨j,s,h⟩)
   ·cases h;exact .inr rfl
  ·exact .inl (.inr h)
 have hne:∀ {b:Nat},E.own b→b≠blk:=fun {b} h e=>by have:=hI.own_lt h;omega
 have ev2:Evol E w (E.addBox blk sz) w' E.boxes.length E.toks.length:=by
  refine ⟨rfl,fun j hj hl=>⟨by simp [Env.addBox];omega,fun x hx=>getElem?_snoc_left hx⟩,fun t ht k hk=>⟨k,hk,.inl rfl⟩,ev.os,ev.tape,ev.output,ev.size,fun b hb _=>hfar hb,
   fun b o v hm hc=>ev.cell b o v (fun h=>hm (sub_mt hτl h)) hc,fun b o hb h=>?_,fun b hb h=>?_,rfl,ev.ty,fun _ _ _ b _ _ _ _ o ho=>by rw [hfar (heap_lt ho)];exact ho⟩
  ·rcases hmtx h with h | h
   ·exact h
   ·omega
  ·rcases hownx h with h | h
   ·exact h
   ·omega
 refine ⟨blk,sz,hB,ev2,?_⟩
 obtain ⟨cs1,e1,hh1,hs1,hl1,hr1⟩:=hI1.box 0 blk sz rows hB rfl
 have hmt1:∀ b o,(E.addBox blk sz).mt b o→E1.mt b o:=fun b o h=>by
  rcases hmtx h with h | rfl
  ·exact .inl (frE h)
  ·exact .inr (.inl ⟨0,sz,hB⟩)
 exact {
  nb:=by simp [Env.addBox,hI.nb]
  nt:=hI.nt
  np:=fun j hj=>by
   simp only [Env.addBox,List.length_append,List.length_singleton] at hj ⊢
   rcases Nat.lt_or_ge j E.boxes.length with h | h
   ·rw [List.getElem?_append_left h];exact hI.np j h
   ·have:j=E.boxes.length:=by omega
    subst this;exact ⟨_,getElem?_snoc_new _ _⟩
  box:=fun j b s rows' h1 h2=>by
   rcases getElem?_snoc h1 with h1 | ⟨hj,h1⟩
   ·have h2':S.boxes[j]?=some rows':=by
     rcases getElem?_snoc h2 with h2 | ⟨hj,_⟩
     ·exact h2
     ·have:=lt_of_get h1;rw [hI.nb] at this;omega
    obtain ⟨cs',e',hh',hs',hl',hr'⟩:=hI.box j b s rows' h1 h2'
    exact ⟨cs',e',(hfar (hI.own_lt (.inl ⟨j,s,h1⟩))).trans hh',hs',hl',fun k r q x v h3 h4 h5=>(hr' k r q x v h3 h4 h5).step ev2⟩
   ·cases h1
    have h2':rows'=rows:=by
     rcases getElem?_snoc h2 with h2 | ⟨_,h2⟩
     ·have:=lt_of_get h2;rw [← hI.nb] at this;omega
     ·exact h2
    subst h2'
    exact ⟨cs1,e1,hh1,hs1,hl1,fun k r q x v h3 h4 h5=>(hr1 k r q x v h3 h4 h5).env (hflat r (List.mem_of_getElem? h3) x (List.mem_of_getElem? h4)) hmt1⟩
  tok:=fun t l b c s h=>by
   obtain ⟨h1,h0,cs,e,hh,hs⟩:=hI.tok t l b c s h
   exact ⟨h1,h0,cs,e,(hfar (hI.own_lt (.inr ⟨t,l,c,s,h⟩))).trans hh,hs⟩
  bb:=fun i j b s s' h1 h2=>by
   rcases getElem?_snoc h1 with h1 | ⟨hi,h1⟩<;>rcases getElem?_snoc h2 with h2 | ⟨hj,h2⟩
   ·exact hI.bb i j b s s' h1 h2
   ·cases h2;exact absurd rfl (hne (.inl ⟨i,s,h1⟩))
   ·cases h1;exact absurd rfl (hne (.inl ⟨j,s',h2⟩))
   ·omega
  bt:=fun i t b s l c sz' h1 h2=>by
   rcases getElem?_snoc h1 with h1 | ⟨hi,h1⟩
   ·exact hI.bt i t b s l c sz' h1 h2
   ·cases h1;exact absurd rfl (hne (.inr ⟨t,l,c,sz',h2⟩))
  tt:=hI.tt
  frlt:=fun b o h=>⟨fun h'=>by
   rcases hownx h' with h' | h'
   ·exact (hI.frlt b o h).1 h'
   ·have:=(hI.frlt b o h).2;omega,Nat.lt_of_lt_of_le (hI.frlt b o h).2 ev.size⟩
  lo:=fun b h=>by
   rcases hownx h with h | h
   ·exact hI.lo b h
   ·rw [h];exact hI1.lo blk ownb
  frlo:=hI.frlo
  sz:=hI1.sz
  glob:=hI1.glob }
theorem AK.fr {l:List Nat}{k:List Item}{c:Call}{fo:Operand}{f:FuncId}{caps xs zs ys:List AV}{n:Nat}{P:List (List AV)→Prop}(hc:Fresh X f ys n P)(hflat:∀ rows,P rows→RowsOk 0 0 rows)
 (hk:∀ rows,P rows→AK X B (.inRegion ops l::k) (putF o.dst (.bsl S.boxes.length n) F) ⟨S.boxes++[rows],S.toks⟩ R)(ho:ops[i]?=some o:=by rfl)(hw:wantA ops F o=some true:=by rfl)(hop:o.op=.call c:=by rfl)
 (hcal:c.callee=.value fo:=by rfl)(hfo:opr X F fo=some (.fn f caps):=by rfl)(hx:oprs X F c.args.toList=some xs:=by rfl)(hzs:catA xs caps=some zs:=by rfl)(hd:dstOk B.fn.ntmps o.dst=true:=by rfl) [ha:RinL [] [] zs ys] :
 AK X B (.inRegion ops (i::l)::k) F S R:=by
 intro E w a b cs hI hF hn hm hb
 have nt:E.toks.length=S.toks.length:=by rw [← hI.nt];simp
 have hτl:∀ t,t∈([]:List Nat)→t<E.toks.length:=fun t h=>by cases h
 have hz:=catA_eq hzs
 obtain ⟨vs,h1,h2,h3⟩:=call_run hop hcal hc.1 hI hF hfo hx
 have hsub:Inv X (E.sub [] []) ⟨[],[]⟩ w:=hI.sub (σ:=[]) (τ:=[]) List.nodup_nil List.nodup_nil hτl (Sc:=⟨[],[]⟩) .nil (fun j h=>by cases h) rfl
 have hcalls:=hc.2 (E.sub [] []) w vs rfl hsub (by rw [h2,hz,ha.s.get.1]) (fun j v y hv hy=>by
  obtain ⟨x,hxj⟩:=lget_of_lt zs (i:=j) (by have:=lt_of_get hy;rw [ha.s.get.1] at this;exact this)
  exact (ha.s.get.2 j x y hxj hy).fwd (fun b o=>sub_mt hτl) (fun i j q h1 h2=>sub_box.2 ⟨i,h1,h2⟩) (fun i j k h1 h2=>(sub_tok hτl).2 ⟨i,h1,h2⟩) (h3 j v x hv (by rw [hz];exact hxj)))
 have hdo:Does X ops i a w fun v w'=>∃ rows,P rows∧∃ E',Inv X E' ⟨S.boxes++[rows],S.toks⟩ w'∧Evol E w E' w' E.boxes.length E.toks.length∧Rel E' w' v (.bsl S.boxes.length n):=by
  refine Does.call ho (wanted_of hF hw) h1 (hcalls.mono fun e w' he=>?_)
  obtain ⟨E1,S1,d1,d2,d3⟩:=he
  cases e with
  | returned v =>
    obtain ⟨r',hr',rows,hre,rfl,hP⟩:=d3
    cases hre
    obtain ⟨blk,sz,hB,ev2,hI2⟩:=back_new hI (hflat rows hP) d1 d2
    refine ⟨v,rfl,rows,hP,_,hI2,ev2,?_⟩
    cases hr' with
    | bsl _ blk' sz' _ cap hB' hcap =>
      rw [hB] at hB';cases hB'
      exact .bsl _ blk sz n cap (by rw [← hI.nb];exact getElem?_snoc_new _ _) hcap
  | panicked ch=>obtain ⟨rows,h,_⟩:=d3;cases h
  | outgrown=>exact d3.elim
 obtain ⟨v',w2,⟨rows,hP,E',g1,g2,g3⟩,g4⟩:=hdo b k cs l
 have hF':=(hF.step g2).putF hd g3
 have g4':=g4
 rw [ho] at g4'
 exact Fin.from g4' (g2.weaken (by rw [hI.nb];exact hn) (by omega)) (hk rows hP E' w2 _ b cs g1 hF' (by simp;omega) hm hb)
theorem Fresh.mk {f:FuncId}{fn:Func}{c:Code}{args:List AV}{n:Nat}{P:List (List AV)→Prop}(hf:X.P.funcs[f]?=some fn)(hb:fn.body=some c)(hl:Nat.ble args.length fn.ntmps=true)(hnm:(fn.name == "runtime.NumGoroutine")=false)
 (h:AK X ⟨f,fn,0,0⟩ [.code c] (argF 0 args) ⟨[],[]⟩ fun e S'=>∃ rows,e=.ret (.bsl 0 n)∧S'=⟨[rows],[]⟩∧P rows):Fresh X f args n P :=
 ⟨⟨fn,hf,hnm,by rw [hb];rfl⟩,ACalls.of' (n:=0) (m:=0) (hh:=fun C S' hx=>by obtain ⟨rows,hx,_⟩:=hx;cases hx) hf hb hl rfl rfl h⟩
theorem Ndo.app0 {c:Call}{p q:Operand}{tt tx e e':Nat}{y yx ye:Ty}{rows:List (List AV)}{sp sp':Sp}(ho:ops[i]?=some o:=by rfl)(hw:wantA ops F o=some true:=by rfl)(hop:o.op=.call c:=by rfl)(hcal:c.callee=.builtin .append:=by rfl)
 (hargs:c.args.toList=[p,q]:=by rfl)(htys:c.argTypes.toList=[tt,tx]:=by rfl)(hp:opr X F p=some (.sl rows sp):=by rfl)(hq:opr X F q=some (.sl [] sp'):=by rfl)(hy:X.ty tt=some y:=by rfl)(hyk:y.k=.slc e:=by rfl)(hye:X.ty e=some ye:=by rfl)
 (hyx:X.ty tx=some yx:=by rfl)(hyxk:yx.k=.slc e':=by rfl):Ndo X N ops i o F (.sl rows sp) S S:=by
 refine Ndo.val ho hw fun F' E w a hc hI hF=>?_
 rw [hop] at hc
 obtain ⟨callee,args,argTypes⟩:=c
 simp only at hcal hargs htys
 subst hcal
 have ha:args=#[p,q]:=by rw [← Array.toList_inj];exact hargs
 have ht:argTypes=#[tt,tx]:=by rw [← Array.toList_inj];exact htys
 subst ha;subst ht
 have r1:=opr_sound hI hF ((hc p (by simp [Op.operands,Call.operands])).trans hp)
 have r2:=opr_sound hI hF ((hc q (by simp [Op.operands,Call.operands])).trans hq)
 obtain ⟨d1,hd1,hk1⟩:=(X.ty_ok tt y hy).agg
 simp only [hyk] at hk1
 obtain ⟨rfl,ye',hye',hne0⟩:=hk1
 rw [hye] at hye';cases hye'
 obtain ⟨d2,hd2,hk2⟩:=(X.ty_ok tx yx hyx).agg
 simp only [hyxk] at hk2
 obtain ⟨rfl,_⟩:=hk2
 generalize hu:a.eval p=u at r1
 generalize hv:a.eval q=v at r2
 have r1':=r1
 cases r2 with
 | sl _ _ a2 n2 cap2 b2 o2 sz2 vals2 hn2 hx2 ha2 hszr2 hm2 hcl2 hr2 hs2 hcap2 =>
   have h0:n2=0:=by simpa using hn2.symm
   subst h0
   cases r1 with
   | sl _ _ a1 n1 cap1 b1 o1 sz1 vals1 hn1 hx1 ha1 hszr1 hm1 hcl1 hr1 hs1 hcap1 =>
     refine ⟨.slice a1 n1 cap1,?_,r1'⟩
     have hf:(Builtin.firstCells ye.size 0 (.slice a2 0 cap2)).run X.P w=.ok ([]:List Value).toArray w:=by
      cases a2 with
      | none=>exact run_firstCells_none _ _ _ _ _
      | some a0=>exact run_firstCells_some _ _ _ _ _ _ _ (by simp) (fun j v hj=>by simp at hj)
     cases a1 with
     | none=>simp [execOp,hop,resolve,invoke,builtin,hu,hv,Builtin.append_,run_underlying hd1,run_underlying hd2,sizeOf_run hye,Builtin.lenOf,hcap1,hf]
     | some a0=>simp [execOp,hop,resolve,invoke,builtin,hu,hv,Builtin.append_,run_underlying hd1,run_underlying hd2,sizeOf_run hye,Builtin.lenOf,hcap1,hf,storeCells]
end
end Go.V
namespace Go.V
open Go Go.Proofs
instance {n m c:Nat}:OKR n m (List.replicate c zN):=⟨fun r hr x hx=>by
 rw [List.eq_of_mem_replicate hr] at hx
 exact (inferInstance:OKL n m zN).ok x hx⟩
abbrev rB (l:List Nd)(c:Nat):List (List AV):=nrows l++List.replicate c zN
theorem rB_get {l:List Nd}{i c:Nat}{x:Nd}(h:l[i]?=some x):(rB l c)[i]?=some (ncells x):=by
 rw [List.getElem?_append_left (by rw [nrows_len];exact lt_of_get h)];exact nrows_get h
theorem rB_set (l:List Nd)(c i:Nat)(x:Nd)(h:i<l.length):(rB l c).set i (ncells x)=rB (l.set i x) c:=by
 rw [rB,rB,List.set_append_left _ _ (by rw [nrows_len];exact h),nrows_map,nrows_map,List.map_set]
theorem rB_len (l:List Nd)(c:Nat):(rB l c).length=l.length+c:=by simp [nrows_len]
theorem nrows_app (a b:List Nd):nrows (a++b)=nrows a++nrows b:=by rw [nrows_map,nrows_map,nrows_map,List.map_append]
theorem rB_al (l:List Nd)(c:Nat):∀ r,r∈rB l c→r.length=4:=fun r hr=>by
 rcases List.mem_append.1 hr with h | h
 ·exact allLen_eq.1 (nrows_al l) r h
 ·rw [List.eq_of_mem_replicate h];rfl
section
variable {X:Cx}{B:Bx}{S:St}{F F':Frm}{R:AE→St→Prop}{N:Nat}{ops:Array Oper}{i:Nat}{l:List Nat}{k K:List Item}{o:Oper}{p q:Operand}
theorem AK.ldB {t b r:Nat}{y:Ty}{cs:List AV}{rows:List (List AV)}{x:AV}{S2:St}(hr:rows[r]?=some cs)(hk:AK X B K F' S2 R)(ho:ops[i]?=some o:=by rfl)(hw:wantA ops F o=some true:=by rfl)(hop:o.op=.load t p:=by rfl)
 (hp:opr X F p=some (.ptr b r 0):=by rfl)(hy:X.ty t=some y:=by rfl)(hb:S.boxes[b]?=some rows:=by rfl)(hl:cs.length=y.size:=by rfl)(hx:finA (isAggK y.k) cs=some x:=by rfl)(hd:dstOk B.fn.ntmps o.dst=true:=by rfl)
 (he:Go.V.ev X B.fn.ntmps 200 (.inRegion ops l::k) (putF o.dst x F) S=(K,F',S2):=by rfl):AK X B (.inRegion ops (i::l)::k) F S R :=
 AK.op (Ndo.loadB hb hr hl ho hw hop hp hy hx) hk ho hd he
theorem AK.atB {t e b n:Nat}{ik:IntKind}{y ye:Ty}{rows:List (List AV)}{r:List AV}(j:Nat)(hj:j<n)(hr:rows[j]?=some r)(hk:AK X B (.inRegion ops l::k) (putF o.dst (.ptr b j 0) F) S R)(ho:ops[i]?=some o:=by rfl)(hw:wantA ops F o=some true:=by rfl)
 (hop:o.op=.indexAddr t p q:=by rfl)(hp:opr X F p=some (.bsl b n):=by rfl)(hq:opr X F q=some (.val (.int ik j)):=by rfl)(hy:X.ty t=some y:=by rfl)(hyk:y.k=.slc e:=by rfl)(hye:X.ty e=some ye:=by rfl)(hb:S.boxes[b]?=some rows:=by rfl)(hl:r.length=ye.size:=by rfl)
 (hd:dstOk B.fn.ntmps o.dst=true:=by rfl):AK X B (.inRegion ops (i::l)::k) F S R :=
 AK.nd (Ndo.atB (j:=j) ho hw hop hp hq hy hyk hye (by simpa [Nat.blt_eq] using hj) hb hr hl) ho hd hk
theorem AK.stB {t b r:Nat}{y:Ty}{x:AV}{xs cs:List AV}{rows:List (List AV)}{bx:List (List (List AV))}{S2:St}(hr:rows[r]?=some cs)(hk:AK X B K F' S2 R)(ho:ops[i]?=some o:=by rfl)(hw:wantA ops F o=some true:=by rfl)(hop:o.op=.store t p q:=by rfl)
 (hp:opr X F p=some (.ptr b r 0):=by rfl)(hq:opr X F q=some x:=by rfl)(hy:X.ty t=some y:=by rfl)(hb:S.boxes[b]?=some rows:=by rfl)(hc:cellsOf x=some xs:=by rfl)(hl:xs.length=y.size:=by rfl)(hl':cs.length=y.size:=by rfl)
 (hbx:S.boxes.set b (rows.set r xs)=bx:=by rfl)(hd:dstOk B.fn.ntmps o.dst=true:=by rfl)(he:Go.V.ev X B.fn.ntmps 200 (.inRegion ops l::k) (putF o.dst .junk F) ⟨bx,S.toks⟩=(K,F',S2):=by rfl):AK X B (.inRegion ops (i::l)::k) F S R:=by
 subst hbx
 exact AK.op (Ndo.store ho hw hop hy hp hq (storeA_row hb hr hc hl hl')) hk ho hd he
end
theorem q_clone (l:List Nd)(hne:l≠[])(hl:l.length≤1000000000):Fresh X 182 [.sl (nrows l) .no] l.length fun rows=>∃ c,rows=rB l c:=by
 have hu:X.P.underlying 30=some (.slice 32):=by kernel_rfl
 refine Fresh.mk Tryz.func182 rfl rfl (by kernel_rfl) ?_
 refine AK.ev 100 rfl ?_
 refine AK.nilS hu (fun c hc=>?_)
 have hc':=hc (by rw [nrows_map];simpa using hne)
 subst hc'
 refine AK.ev 100 rfl ?_
 refine AK.no ?_
 have hn:nrows l≠[]:=by rw [nrows_map];simpa using hne
 refine AK.cloneB (fun cc=>?_) (allLen_eq.1 (nrows_al l)) (allCellR_eq.1 (nrows_ac l)) hn (by rw [nrows_len];omega)
 refine AK.ev 100 rfl ?_
 refine AK.retK Tryz.func182 ?_
 exact ⟨rB l cc,by rw [nrows_len];rfl,rfl,cc,rfl⟩
theorem q_clone0:Pure X 182 [.sl [] .no] (.sl [] .no):=by
 have hu:X.P.underlying 30=some (.slice 32):=by kernel_rfl
 refine Pure.mk Tryz.func182 rfl rfl (by kernel_rfl) ?_
 refine AK.ev 100 rfl ?_
 refine AK.nilS hu (fun c hc=>?_)
 refine AK.ev 100 rfl ?_
 refine AK.if_ (fun h=>?_) (fun h=>?_)
 ·refine AK.as_ 2 (.sl [] .tight) ?_
  exact AK.rz Tryz.func182 rfl
 ·refine AK.op Ndo.app0 ?_
  exact AK.rz Tryz.func182 rfl
theorem h_indexF (l:List Nd)(c:Nat)(f:FuncId)(caps:List AV)(p:Nd→Bool)(hl:l.length≤1000000000) [hok:OKL 0 0 caps](hp:∀ x,x∈l→Pure X f (nd x::caps) (vb (p x)))(hcat:∀ xs,catA xs caps=some (xs++caps)) :
 Hands X 164 [.bsl 0 l.length,.fn f caps] ⟨[rB l c],[]⟩ (vi (idxP p 0 l)) ⟨[rB l c],[]⟩:=by
 have:OKL 1 0 caps:=⟨fun x hx=>(hok.ok x hx).mono (by omega) (by omega)⟩
 refine Hands.run (n:=1) (m:=0) Tryz.func164 ?_
 refine AK.while_ (ι:=Nat) 1 0 (fun i=>i≤l.length∧idxP p 0 l=idxP p i (l.drop i)) (fun i=>[(8,vi i),(7,vi l.length),(0,.bsl 0 l.length),(1,.fn f caps)]) (fun _=>⟨[rB l c],[]⟩) (fun i=>l.length-i) ?_ 0 ⟨Nat.zero_le _,rfl⟩
  ⟨rfl,rfl,rfl,rfl,trivial⟩ rfl rfl rfl rfl rfl (fun _=>inferInstance) (fun _=>inferInstance)
 intro i hi IH
 refine AK.ev 100 rfl ?_
 refine AK.if_ (fun h=>?_) (fun h=>?_)
 ·have hlt:i<l.length:=by have:=of_decide_eq_true h;omega
  obtain ⟨x,hx⟩:=lget_of_lt l hlt
  have hd:idxP p i (l.drop i)=if p x then (i:Int) else idxP p (i+1) (l.drop (i+1)):=by rw [drop_cons hx];rfl
  refine AK.atB i hlt (rB_get (c:=c) hx) ?_
  refine AK.ldB (rB_get (c:=c) hx) ?_
  refine AK.pc (hp x (List.mem_of_getElem? hx)) ?_ (hzs:=hcat _)
  refine AK.if_ (fun h2=>?_) (fun h2=>?_)
  ·refine AK.rb Tryz.func164 ?_ rfl
   have h3:p x=true:=h2
   rw [hi.2,hd,h3];rfl
  ·have h3:p x=false:=h2
   exact IH (i+1) ⟨hlt,by rw [hi.2,hd,h3];rfl⟩ (by omega) _ _ ⟨vint ((wrap_small (by omega) (by omega)).trans (by omega)),rfl,rfl,rfl,trivial⟩ rfl rfl rfl
 ·have:i=l.length:=by have:=of_decide_eq_false h;omega
  refine AK.rb Tryz.func164 ?_ rfl
  rw [hi.2,this,List.drop_length];rfl
theorem idxP_none {p:Nd→Bool}:∀ {l:List Nd}{i:Nat},idxP p i l=-1→l.filter (fun x=>!p x)=l
 | [],i,_=>rfl
 | x::l,i,h=>by
   simp only [idxP] at h
   split at h
   ·omega
   ·rename_i hx
    have:=idxP_none h
    have hx':p x=false:=by simpa using hx
    rw [List.filter_cons,hx',Bool.not_false,if_pos rfl,this]
theorem idxP_some {p:Nd→Bool}:∀ {l:List Nd}{i:Nat},idxP p i l≠-1→∃ j x,idxP p i l=((i+j:Nat):Int)∧l[j]?=some x∧p x=true∧(l.take j).filter (fun x=>!p x)=l.take j
 | [],i,h=>by simp [idxP] at h
 | x::l,i,h=>by
   simp only [idxP] at h ⊢
   by_cases hx:p x=true
   ·rw [if_pos hx]
    exact ⟨0,x,by simp,rfl,hx,rfl⟩
   ·rw [if_neg hx] at h ⊢
    obtain ⟨j,y,h1,h2,h3,h4⟩:=idxP_some h
    have hx':p x=false:=by simpa using hx
    refine ⟨j+1,y,by rw [h1];omega,by simpa using h2,h3,?_⟩
    rw [List.take_succ_cons,List.filter_cons,hx',Bool.not_false,if_pos rfl,h4]
theorem cur_step {l cur:List Nd}{q:Nd→Bool}{i j:Nat}{x:Nd}(hij:i<j)(hj:l[j]?=some x)(hlen:cur.length=l.length)(h1:cur.take i=(l.take j).filter q)(h2:cur.drop j=l.drop j) :
 cur[j]?=some x∧(q x=false→cur.take i=(l.take (j+1)).filter q∧cur.drop (j+1)=l.drop (j+1)) ∧
  (q x=true→(cur.set i x).take (i+1)=(l.take (j+1)).filter q∧(cur.set i x).drop (j+1)=l.drop (j+1)):=by
 have hjl:=lt_of_get hj
 have hcj:cur[j]?=some x:=by
  have:=congrArg (fun t:List Nd=>t[0]?) h2
  simp only [List.getElem?_drop,Nat.add_zero] at this
  rw [this];exact hj
 have hd:cur.drop (j+1)=l.drop (j+1):=by
  have:=congrArg List.tail h2
  simpa [List.tail_drop] using this
 have ht:(l.take (j+1)).filter q=(l.take j).filter q++[x].filter q:=by rw [List.take_add_one,hj,List.filter_append];rfl
 refine ⟨hcj,fun hq=>⟨?_,hd⟩,fun hq=>⟨?_,?_⟩⟩
 ·rw [ht,h1];simp [hq]
 ·rw [ht,← h1]
  have hi:i<cur.length:=by omega
  rw [List.take_add_one,List.take_set_of_le (Nat.le_refl _)]
  simp [hi,hq]
 ·rw [List.drop_set_of_lt (by omega)];exact hd
theorem h_deleteF (l:List Nd)(c:Nat)(f:FuncId)(caps:List AV)(p:Nd→Bool)(hl:l.length≤1000000000) [hok:OKL 0 0 caps](hp:∀ x,x∈l→Pure X f (nd x::caps) (vb (p x)))(hcat:∀ xs,catA xs caps=some (xs++caps)) :
 Hands X 181 [.bsl 0 l.length,.fn f caps] ⟨[rB l c],[]⟩ (.bsl 0 (l.filter fun x=>!p x).length)
  ⟨[rB (l.filter fun x=>!p x) (l.length-(l.filter fun x=>!p x).length+c)],[]⟩:=by
 have:OKL 1 0 caps:=⟨fun x hx=>(hok.ok x hx).mono (by omega) (by omega)⟩
 have hf:=h_indexF l c f caps p hl hp hcat
 refine Hands.run (n:=1) (m:=0) Tryz.func181 ?_
 refine AK.hc [0] [] hf ?_
 refine AK.if_ (fun h1=>?_) (fun h1=>?_)
 ·have h1':idxP p 0 l=-1:=by simpa using h1
  rw [idxP_none h1',Nat.sub_self,Nat.zero_add]
  exact AK.ret (n:=1) (tk:=[]) Tryz.func181 rfl rfl rfl rfl
 have h1':idxP p 0 l≠-1:=by simpa using h1
 obtain ⟨j0,x0,e0,e1,e2,e3⟩:=idxP_some h1'
 rw [Nat.zero_add] at e0
 have hj0:=lt_of_get e1
 have hwj:IntKind.i64.wrap (idxP p 0 l+1)=((j0+1:Nat):Int):=by rw [e0];exact (wrap_small (by omega) (by omega)).trans (by omega)
 have hstart:l.take j0=(l.take (j0+1)).filter fun x=>!p x:=by
  rw [List.take_add_one,e1,List.filter_append,e3];simp [e2]
 refine AK.while_ (ι:=Nat × Nat × List Nd) 1 0 (fun s=>s.1<s.2.1∧s.2.1≤l.length∧s.2.2.length=l.length∧s.2.2.take s.1=(l.take s.2.1).filter (fun x=>!p x)∧s.2.2.drop s.2.1=l.drop s.2.1)
  (fun s=>[(6,vi s.2.1),(5,vi s.1),(0,.bsl 0 l.length),(1,.fn f caps)]) (fun s=>⟨[rB s.2.2 c],[]⟩) (fun s=>l.length-s.2.1) ?_ (j0,j0+1,l) ⟨Nat.lt_succ_self _,hj0,rfl,hstart,rfl⟩
  ⟨vint hwj,vint e0,rfl,rfl,trivial⟩ rfl rfl rfl rfl rfl (fun _=>inferInstance) (fun _=>inferInstance)
 rintro ⟨i,j,cur⟩ ⟨g1,g2,g3,g4,g5⟩ IH
 simp only at g1 g2 g3 g4 g5 IH ⊢
 refine AK.ev 100 rfl ?_
 refine AK.if_ (fun h2=>?_) (fun h2=>?_)
 ·have hlt:j<l.length:=by have:=of_decide_eq_true h2;omega
  have hj1:IntKind.i64.wrap ((j:Int)+1)=((j+1:Nat):Int):=(wrap_small (by omega) (by omega)).trans (by omega)
  have hi1:IntKind.i64.wrap ((i:Int)+1)=((i+1:Nat):Int):=(wrap_small (by omega) (by omega)).trans (by omega)
  obtain ⟨x,hx⟩:=lget_of_lt l hlt
  obtain ⟨s1,s2,s3⟩:=cur_step (q:=fun x=>!p x) g1 hx g3 g4 g5
  refine AK.atB j hlt (rB_get (c:=c) s1) ?_
  refine AK.ldB (rB_get (c:=c) s1) ?_
  refine AK.pc (hp x (List.mem_of_getElem? hx)) ?_ (hzs:=hcat _)
  refine AK.if_ (fun h3=>?_) (fun h3=>?_)
  ·have hpx:p x=false:=by have:(!p x)=true:=h3;simpa using this
   obtain ⟨t1,t2⟩:=s3 (by simp [hpx])
   have hil:i<cur.length:=by omega
   obtain ⟨y,hy⟩:=lget_of_lt cur hil
   refine AK.atB i (show i<l.length by omega) (rB_get (c:=c) hy) ?_
   refine AK.stB (bx:=[rB (cur.set i x) c,[ncells x]]) (rB_get (c:=c) hy) ?_ (hbx:=by rw [← rB_set _ _ _ _ hil];rfl)
   refine IH (i+1,j+1,cur.set i x) ⟨by simp only;omega,hlt,by simpa using g3,t1,t2⟩ (by simp only;omega) _ _ ⟨vint hj1,vint hi1,rfl,rfl,trivial⟩ rfl rfl rfl
  ·have hpx:p x=true:=by have:(!p x)=false:=h3;simpa using this
   obtain ⟨t1,t2⟩:=s2 (by simp [hpx])
   exact IH (i,j+1,cur) ⟨by simp only;omega,hlt,g3,t1,t2⟩ (by simp only;omega) _ _ ⟨vint hj1,rfl,rfl,rfl,trivial⟩ rfl rfl rfl
 ·have hje:j=l.length:=by have:=of_decide_eq_false h2;omega
  subst hje
  rw [List.take_length] at g4
  have hfl:(l.filter fun x=>!p x).length=i:=by
   have:=congrArg List.length g4
   rw [List.length_take] at this
   omega
  have hrows:rB cur c≠[]:=by
   intro h
   have:cur.length+c=0:=by rw [← rB_len,h];rfl
   omega
  have hz:(rB cur c).take i++(List.replicate (l.length-i) zN++(rB cur c).drop (i+(l.length-i)))=rB (cur.take i) (l.length-i+c):=by
   rw [show i+(l.length-i)=l.length by omega,rB,rB,List.take_append_of_le_length (by rw [nrows_len];omega),← g3,show cur.length=(nrows cur).length by rw [nrows_len],List.drop_left,nrows_map,nrows_map,← List.map_take,
    ← List.replicate_append_replicate,List.length_map]
  refine AK.op (Ndo.tailB (l:=i) (rows:=rB cur c) g1 rfl rfl rfl rfl rfl rfl rfl rfl rfl (rB_al _ _) hrows) ?_
  refine AK.op (Ndo.clearB (s:=i) (n:=l.length-i) (rows:=rB cur c) (by omega) rfl (by rw [rB_len];omega) (rB_al _ _) (by exact congrArg (fun r=>[r]) hz) (by intro x hx;simp at hx;rcases hx with rfl | rfl | rfl | rfl<;>rfl) rfl rfl rfl rfl rfl rfl rfl rfl rfl rfl) ?_
  refine AK.op (Ndo.headB (h:=(i:Int)) (by omega) (by omega) rfl rfl rfl rfl rfl rfl rfl rfl) ?_
  rw [hfl,← g4]
  exact AK.ret (n:=1) (tk:=[]) Tryz.func181 rfl rfl rfl rfl
end Go.V
