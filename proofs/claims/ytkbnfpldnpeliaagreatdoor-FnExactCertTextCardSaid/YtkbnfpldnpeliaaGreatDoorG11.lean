/- A part of the proof of the claim that the last text states: no condition of its own. -/
import Derived.Test.YtkbnfpldnpeliaaGreatDoorG10
import Derived.Laws.Cover3
import Derived.Lib.ItoaMem
set_option linter.unusedVariables false
set_option linter.unusedSimpArgs false
namespace Go.V
open Go Go.Proofs
def stW (k:Int)(s:List UInt8)(m:Int)(c:List (Int × Wds)):Wds :=
 if k=31 then [wVar,s]
 else if k=32 then [wArray,s,[91],if m=-1 then [63] else Lib.itoa m,[93]]
 else if k=21 then [s,[61]]++eW c 0
 else if k=22 then [s,[91]]++eW c 0++[[93],[61]]++eW c 1
 else if k=23 then [wRead,s]
 else if k=27 then [wCheck]++eW c 0
 else if k=28 then [wSkip]
 else [wStop]
def bT (b:List (List UInt8 × Bool))(i:Nat):List UInt8:=(b.getD i ([],false)).1
def bQ' (b:List (List UInt8 × Bool))(i:Nat):Bool:=(b.getD i ([],false)).2
def isSt (k:Int):Bool:=k==31||k==32||k==21||k==22||k==23||k==27||k==28||k==29
def cpT (k:Int)(s:List UInt8)(c:List (Int × Wds))(b:List (List UInt8 × Bool))(h:Nat):List UInt8 :=
 if k=24 then lineT ([wIf]++eW c 0++[[123]]) h++bT b 1++(if bQ' b 2 then lineT [[125],wElse,[123]] h++bT b 2 else [])++lineT [[125]] h
 else if k=25 then lineT ([wWhile]++eW c 0++[[123]]) h++bT b 1++lineT [[125]] h
 else if k=26 then lineT ([wFor,s,wFrom]++eW c 0++[wTo]++eW c 1++[[123]]) h++bT b 2++lineT [[125]] h
 else lineT [] h
def outK (k:Int)(s:List UInt8)(m:Int)(c:List (Int × Wds))(b:List (List UInt8 × Bool))(h:Nat):List UInt8 :=
 if isSt k then lineT (stW k s m c++[[59]]) h else cpT k s c b h
mutual
def outS:Nd→Nat→List UInt8
 | .mk k s m ks,h=>outK k s m (kidsW ks) (kidsB ks h) h
def kidsB:List Nd→Nat→List (List UInt8 × Bool)
 | [],_=>[]
 | x::l,h=>bodyO x h::kidsB l h
def bodyO:Nd→Nat→List UInt8 × Bool
 | .mk _ _ _ l,h=>(outL l (h+1),!l.isEmpty)
def outL:List Nd→Nat→List UInt8
 | [],_=>[]
 | x::l,h=>outS x h++outL l h
end
def prtT (n:Nd):List UInt8:=outL n.kids.dropLast 0++outL (n.kids.getLastD nd0).kids 0
def gapA (a:List UInt8):List UInt8:=if has openers a then [] else [32]
theorem flatT_no {a:List UInt8}(h:has openers a=false)(us:Wds):flatT a us=flatT [] us:=by
 have h0:has openers []=false:=by decide
 cases us with
 | nil=>rfl
 | cons b us=>simp [flatT,gapS,h,h0]
structure PW (b:List UInt8):Prop where
 c:has closers b=false
 o:has openers b=false
 t:trimS b [32]=b
theorem PW.flat {b:List UInt8}(h:PW b)(a:List UInt8)(us:Wds):flatT a (b::us)=gapA a++(b++flatT [] us):=by
 simp only [flatT,gapS,h.c,h.t,flatT_no h.o,gapA,Bool.false_or]
 split<;>simp
theorem trim_head {c:UInt8}{l:List UInt8}(h:c≠32):trimS (c::l) [32]=c::l:=by
 have:preS (c::l) [32]=false:=by simp [preS,h]
 simp [trimS,this]
theorem PW.of_kind {b:List UInt8}(h:kindS b=1∨kindS b=2):PW b:=by
 have no:∀ l:List (List UInt8),(∀ x,x∈l→kindS x≠1∧kindS x≠2)→has l b=false:=by
  intro l hl
  simp only [has,List.any_eq_false]
  intro x hx he
  have:=beq_iff_eq.1 he
  subst this
  have:=hl _ hx
  omega
 refine ⟨no _ (by decide),no _ (by decide),?_⟩
 cases b with
 | nil=>simp [kindS_nil] at h
 | cons c l=>exact trim_head (kindS_head (by rcases h with h | h<;>rw [h]<;>decide)).1
theorem PW.name {s:List UInt8}(h:nameS s=true):PW s:=.of_kind (.inl (nameS_word h).2)
theorem PW.num {m:Nat}(h:m≤1000000):PW (dec m):=.of_kind (.inr (dec_word m h).2)
theorem PW.of {b:List UInt8}(h:b∈([[43],[45],[42],[61],[63],[123],[125],wIf,wElse,wWhile,wFor,wFrom,wTo,wCheck,wRead,wSkip,wStop,wVar,wArray]:Wds)++wideSigns):PW b:=by
 have:∀ b,b∈([[43],[45],[42],[61],[63],[123],[125],wIf,wElse,wWhile,wFor,wFrom,wTo,wCheck,wRead,wSkip,wStop,wVar,wArray]:Wds)++wideSigns→has closers b=false∧has openers b=false∧trimS b [32]=b:=by decide
 obtain ⟨h1,h2,h3⟩:=this b h
 exact ⟨h1,h2,h3⟩
theorem flat59 (a:List UInt8)(us:Wds):flatT a ([59]::us)=59::flatT [] us:=by
 rw [flatT,flatT_no (by decide)];simp [gapS,show has closers [59]=true by decide,show trimS [59] [32]=[59] by decide]
theorem flat93 (a:List UInt8)(us:Wds):flatT a ([93]::us)=93::flatT [] us:=by
 rw [flatT,flatT_no (by decide)];simp [gapS,show has closers [93]=true by decide,show trimS [93] [32]=[93] by decide]
theorem flat41 (a:List UInt8)(us:Wds):flatT a ([41]::us)=41::flatT [] us:=by
 rw [flatT,flatT_no (by decide)];simp [gapS,show has closers [41]=true by decide,show trimS [41] [32]=[41] by decide]
theorem flat91 (a:List UInt8)(us:Wds):flatT a ([91]::us)=91::flatT [91] us:=by
 rw [flatT];simp [gapS,show has closers [91]=true by decide,show trimS [91] [32]=[91] by decide]
theorem flatO {b t:List UInt8}(h:has closers b=false)(ht:trimS b [32]=t)(a:List UInt8)(us:Wds):flatT a (b::us)=gapA a++(t++flatT b us):=by
 simp only [flatT,gapS,h,ht,gapA,Bool.false_or]
 split<;>simp
def FlatP (w:Wds)(t:List UInt8):Prop:=∀ (a:List UInt8)(us:Wds),flatT a (w++us)=gapA a++(t++flatT [] us)
theorem FlatP.par {w:Wds}{t:List UInt8}(h:FlatP w t):FlatP ([[40]]++w++[[41]]) ([40]++t++[41]):=by
 intro a us
 have e:[[40]]++w++[[41]]++us=[40]::(w++([41]::us)):=by simp
 rw [e,flatO (t:=[40]) (by decide) (by decide),h,flat41,show gapA [40]=[] by decide]
 simp
theorem FlatP.in1 {w:Wds}{t:List UInt8}(h:FlatP w t)(k:Int):FlatP (inW true false k w) (parT 2 k t):=by
 by_cases hk:k=6∨k=7
 ·have e1:inW true false k w=[[40]]++w++[[41]]:=by unfold inW;rw [if_pos (by simpa using hk)]
  have e2:parT 2 k t=[40]++t++[41]:=by unfold parT tightS;rw [if_pos (by simp [hk])]
  rw [e1,e2];exact h.par
 ·have e1:inW true false k w=w:=by unfold inW;rw [if_neg (by simpa using hk)]
  have e2:parT 2 k t=t:=by unfold parT tightS;rw [if_neg (by rw [if_neg hk];split<;>omega)]
  rw [e1,e2];exact h
theorem FlatP.in2 {w:Wds}{t:List UInt8}(h:FlatP w t)(k:Int):FlatP (inW true true k w) (parT 3 k t):=by
 by_cases hk:(k=6∨k=7)∨k=8
 ·have e1:inW true true k w=[[40]]++w++[[41]]:=by unfold inW;rw [if_pos (by simpa using hk)]
  have e2:parT 3 k t=[40]++t++[41]:=by
   unfold parT tightS
   rw [if_pos]
   rcases hk with hk | hk
   ·rw [if_pos hk];omega
   ·rw [if_neg (by omega),if_pos hk];omega
  rw [e1,e2];exact h.par
 ·have e1:inW true true k w=w:=by unfold inW;rw [if_neg (by simpa using hk)]
  have e2:parT 3 k t=t:=by unfold parT tightS;rw [if_neg (by rw [if_neg (by omega),if_neg (by omega)];omega)]
  rw [e1,e2];exact h
theorem FlatP.two {w w':Wds}{t t':List UInt8}(h:FlatP w t)(h':FlatP w' t'){c:List UInt8}(hc:PW c):FlatP (w++[c]++w') (t++[32]++c++[32]++t'):=by
 intro a us
 have e:w++[c]++w'++us=w++(c::(w'++us)):=by simp
 rw [e,h,hc.flat,h',show gapA []=[32] by decide]
 simp
theorem flatE {n:Nd}(h:FE n):FlatP (exprW n) (textN n):=by
 induction h with
 | num m h0 h1 =>
   intro a us
   have e:exprW (.mk 1 [] m [])=[dec m.toNat]:=by
    have:Lib.itoa m=dec m.toNat:=by
     obtain ⟨u,rfl⟩:∃ u:Nat,m=u:=⟨m.toNat,by omega⟩
     rw [Lib.itoa_nonneg,dec_eq];rfl
    simp [exprW,exprK,this]
   rw [e]
   simp only [textN,if_true,List.cons_append,List.nil_append]
   exact (PW.num (by omega)).flat a us
 | var s h =>
   intro a us
   have e:exprW (.mk 2 s 0 [])=[s]:=by simp [exprW,exprK]
   rw [e]
   simp only [textN,List.cons_append,List.nil_append]
   exact (PW.name h).flat a us
 | cell s x h ha ih =>
   intro a us
   have e:exprW (.mk 3 s 0 [x])++us=s::[91]::(exprW x++([93]::us)):=by simp [exprW,exprK,kidsW,eW]
   rw [e,(PW.name h).flat,flat91,ih,flat93,show gapA [91]=[] by decide]
   simp [textN]
 | len s h =>
   intro a us
   have e:exprW (.mk 4 s 0 [])++us=[108,101,110]::[40]::s::[41]::us:=by simp [exprW,exprK]
   rw [e,flatO (t:=[108,101,110]) (by decide) (by decide),flatO (t:=[40]) (by decide) (by decide),(PW.name h).flat,flat41,show gapA [40]=[] by decide,show gapA [108,101,110]=[] by decide]
   simp [textN]
 | neg x ha ih =>
   intro a us
   have e:exprW (.mk 5 [] 0 [x])++us=[32,45]::(inW true true x.kind (exprW x)++us):=by simp [exprW,exprK,kidsW,iW]
   rw [e,flatO (t:=[45]) (by decide) (by decide),ih.in2 x.kind,show gapA [32,45]=[] by decide]
   simp [textN]
 | two k x y hk ha hb iha ihb =>
   have p1:parT 1 x.kind (textN x)=textN x:=by
    unfold parT tightS
    rw [if_neg]
    split<;>(try split)<;>omega
   rcases hk with rfl | rfl | rfl
   ·have e:exprW (.mk 6 [] 0 [x,y])=exprW x++[[43]]++inW true false y.kind (exprW y):=by simp [exprW,exprK,kidsW,iW,eW]
    have:=iha.two (ihb.in1 y.kind) (c:=[43]) (.of (by decide))
    rw [e]
    simpa [textN,p1] using this
   ·have e:exprW (.mk 7 [] 0 [x,y])=exprW x++[[45]]++inW true false y.kind (exprW y):=by simp [exprW,exprK,kidsW,iW,eW]
    have:=iha.two (ihb.in1 y.kind) (c:=[45]) (.of (by decide))
    rw [e]
    simpa [textN,p1] using this
   ·have e:exprW (.mk 8 [] 0 [x,y])=inW true false x.kind (exprW x)++[[42]]++inW true true y.kind (exprW y):=by simp [exprW,exprK,kidsW,iW,eW]
    have:=(iha.in1 x.kind).two (ihb.in2 y.kind) (c:=[42]) (.of (by decide))
    rw [e]
    simpa [textN] using this
theorem flatC {n:Nd}(h:FC n):FlatP (exprW n) (textN n):=by
 cases h with
 | mk k x y h0 h1 ha hb =>
   have ne:¬ k=1∧¬ k=2∧¬ k=3∧¬ k=4∧¬ k=5∧¬ k=6∧¬ k=7∧¬ k=8:=by omega
   obtain ⟨n1,n2,n3,n4,n5,n6,n7,n8⟩:=ne
   have e:exprW (.mk k [] 0 [x,y])=exprW x++[relT k]++exprW y:=by simp [exprW,exprK,kidsW,eW,n1,n2,n3,n4,n5,n6,n7,n8,h0,h1]
   have:=(flatE ha).two (flatE hb) (c:=relT k) (.of (List.mem_append_right _ (relT_wide k)))
   rw [e]
   simpa [textN,n6,n7,n8] using this
theorem pad_more (h:Nat):List.replicate (2*h) (32:UInt8)++[32,32]=List.replicate (2*(h+1)) 32:=by
 rw [show 2*(h+1)=2*h+2 by omega,← List.replicate_append_replicate];rfl
theorem outL_list {l:List Nd}{h:Nat}{p:List UInt8}(hx:∀ x,x∈l→outS x h=lineS x p):outL l h=lineL l p:=by
 induction l with
 | nil=>simp [outL,lineL]
 | cons x l ih=>simp [outL,lineL,hx x (by simp),ih fun y hy=>hx y (by simp [hy])]
theorem flatS_pw {b:List UInt8}(h:PW b)(us:Wds):flatS (b::us)=b++flatT [] us:=by rw [flatS,h.t,flatT_no h.o]
theorem flat_end {a:List UInt8}:flatT a []=[]:=rfl
abbrev padH (h:Nat):List UInt8:=List.replicate (2*h) 32
theorem lineT_pw {b:List UInt8}(h:PW b)(us:Wds)(g:Nat):lineT (b::us) g=padH g++(b++(flatT [] us++[10])):=by rw [lineT,flatS_pw h];simp
theorem g0:gapA []=[32]:=by decide
theorem out_brace (h:Nat):lineT [[125]] h=padH h++[125,10]:=by
 rw [lineT_pw (.of (by decide)),flat_end];simp
theorem out_else (h:Nat):lineT [[125],wElse,[123]] h=padH h++([125,32]++wElse++[32,123,10]):=by
 rw [lineT_pw (.of (by decide)),(PW.of (b:=wElse) (by decide)).flat,(PW.of (b:=[123]) (by decide)).flat,flat_end,g0];simp
theorem outV {x:Nd}(hx:FV x)(h:Nat):outS x h=lineS x (padH h):=by
 cases hx with
 | var s hs =>
   have e:outS (.mk 31 s 0 []) h=lineT (wVar::s::[[59]]) h:=by simp [outS,outK,isSt,stW]
   rw [e,lineT_pw (.of (by decide)),(PW.name hs).flat,flat59,flat_end,g0]
   simp [lineS]
 | arr s m hs h0 h1 =>
   by_cases g:0≤m
   ·have em:¬ m=-1:=by omega
    have ei:Lib.itoa m=dec m.toNat:=by
     obtain ⟨u,rfl⟩:∃ u:Nat,m=u:=⟨m.toNat,by omega⟩
     rw [Lib.itoa_nonneg,dec_eq];rfl
    have e:outS (.mk 32 s m []) h=lineT (wArray::s::[91]::dec m.toNat::[93]::[[59]]) h:=by simp [outS,outK,isSt,stW,em,ei]
    rw [e,lineT_pw (.of (by decide)),(PW.name hs).flat,flat91,(PW.num (by omega)).flat,flat93,flat59,flat_end,g0,show gapA [91]=[] by decide]
    simp [lineS,g]
   ·have em:m=-1:=by omega
    have e:outS (.mk 32 s m []) h=lineT (wArray::s::[91]::[63]::[93]::[[59]]) h:=by simp [outS,outK,isSt,stW,em]
    rw [e,lineT_pw (.of (by decide)),(PW.name hs).flat,flat91,(PW.of (b:=[63]) (by decide)).flat,flat93,flat59,flat_end,g0,show gapA [91]=[] by decide]
    simp [lineS,g]
theorem outSL {x:Nd}(hx:FS x):∀ h:Nat,outS x h=lineS x (padH h):=by
 induction hx with
 | set s a hs ha =>
   intro h
   have e:outS (.mk 21 s 0 [a]) h=lineT (s::[61]::(exprW a++[[59]])) h:=by simp [outS,outK,isSt,stW,kidsW,eW]
   rw [e,lineT_pw (.name hs),(PW.of (b:=[61]) (by decide)).flat,flatE ha,flat59,flat_end,g0]
   simp [lineS]
 | put s a b hs ha hb =>
   intro h
   have e:outS (.mk 22 s 0 [a,b]) h=lineT (s::[91]::(exprW a++([93]::[61]::(exprW b++[[59]])))) h:=by simp [outS,outK,isSt,stW,kidsW,eW]
   rw [e,lineT_pw (.name hs),flat91,flatE ha,flat93,(PW.of (b:=[61]) (by decide)).flat,flatE hb,flat59,flat_end,g0,show gapA [91]=[] by decide]
   obtain ⟨k',s',m',l'⟩:=b
   simp [lineS]
 | read s hs =>
   intro h
   have e:outS (.mk 23 s 0 []) h=lineT (wRead::s::[[59]]) h:=by simp [outS,outK,isSt,stW]
   rw [e,lineT_pw (.of (by decide)),(PW.name hs).flat,flat59,flat_end,g0]
   simp [lineS]
 | ifs c l l' hc hl hl' ihl ihl' =>
   intro h
   have e:outS (.mk 24 [] 0 [c,.mk 30 [] 0 l,.mk 30 [] 0 l']) h=lineT (wIf::(exprW c++[[123]])) h++outL l (h+1)++(if !l'.isEmpty then lineT [[125],wElse,[123]] h++outL l' (h+1) else [])++lineT [[125]] h:=by
    simp [outS,outK,isSt,cpT,kidsW,eW,kidsB,bodyO,bT,bQ']
   have h1:=outL_list (l:=l) (h:=h+1) fun x hx=>ihl x hx (h+1)
   have h2:=outL_list (l:=l') (h:=h+1) fun x hx=>ihl' x hx (h+1)
   rw [e,h1,h2,lineT_pw (.of (by decide)),flatC hc,(PW.of (b:=[123]) (by decide)).flat,flat_end,g0,out_brace,out_else]
   cases l' with
   | nil=>simp [lineS,pad_more]
   | cons y l'=>simp [lineS,pad_more]
 | whil c l hc hl ihl =>
   intro h
   have e:outS (.mk 25 [] 0 [c,.mk 30 [] 0 l]) h=lineT (wWhile::(exprW c++[[123]])) h++outL l (h+1)++lineT [[125]] h:=by
    simp [outS,outK,isSt,cpT,kidsW,eW,kidsB,bodyO,bT]
   have h1:=outL_list (l:=l) (h:=h+1) fun x hx=>ihl x hx (h+1)
   rw [e,h1,lineT_pw (.of (by decide)),flatC hc,(PW.of (b:=[123]) (by decide)).flat,flat_end,g0,out_brace]
   simp [lineS,pad_more]
 | for_ s a b l hs ha hb hl ihl =>
   intro h
   have e:outS (.mk 26 s 0 [a,b,.mk 30 [] 0 l]) h=lineT (wFor::s::wFrom::(exprW a++(wTo::(exprW b++[[123]])))) h++outL l (h+1)++lineT [[125]] h:=by
    simp [outS,outK,isSt,cpT,kidsW,eW,kidsB,bodyO,bT]
   have h1:=outL_list (l:=l) (h:=h+1) fun x hx=>ihl x hx (h+1)
   rw [e,h1,lineT_pw (.of (by decide)),(PW.name hs).flat,(PW.of (b:=wFrom) (by decide)).flat,flatE ha,(PW.of (b:=wTo) (by decide)).flat,flatE hb,(PW.of (b:=[123]) (by decide)).flat,flat_end,g0,out_brace]
   obtain ⟨k',s',m',l'⟩:=b
   simp [lineS,pad_more]
 | check c hc =>
   intro h
   have e:outS (.mk 27 [] 0 [c]) h=lineT (wCheck::(exprW c++[[59]])) h:=by simp [outS,outK,isSt,stW,kidsW,eW]
   rw [e,lineT_pw (.of (by decide)),flatC hc,flat59,flat_end,g0]
   simp [lineS]
 | skip =>
   intro h
   have e:outS (.mk 28 [] 0 []) h=lineT (wSkip::[[59]]) h:=by simp [outS,outK,isSt,stW]
   rw [e,lineT_pw (.of (by decide)),flat59,flat_end]
   simp [lineS]
 | stop =>
   intro h
   have e:outS (.mk 29 [] 0 []) h=lineT (wStop::[[59]]) h:=by simp [outS,outK,isSt,stW]
   rw [e,lineT_pw (.of (by decide)),flat59,flat_end]
   simp [lineS]
theorem prt_prog {n:Nd}(h:FP n):prtT n=progT n:=by
 cases h with
 | mk ds l hd hl =>
   have h1:=outL_list (l:=ds) (h:=0) (p:=[]) fun x hx=>outV (hd x hx) 0
   have h2:=outL_list (l:=l) (h:=0) (p:=[]) fun x hx=>outSL (hl x hx) 0
   have e1:(Nd.mk 40 [] 0 (ds++[.mk 30 [] 0 l])).kids.dropLast=ds:=by simp [Nd.kids]
   have e2:((Nd.mk 40 [] 0 (ds++[.mk 30 [] 0 l])).kids.getLastD nd0).kids=l:=by simp [Nd.kids]
   rw [prtT,e1,e2,h1,h2,progT_mk,lineL_flat]
theorem formedL_of {p:Nd}:∀ {l:List Nd}{i:Nat},(∀ (j:Nat)(x:Nd),l[j]?=some x→kidS p ((i+j:Nat):Int) x.kind=true∧formedN x=true)→formedL p i l=true
 | [],i,_=>by simp [formedL]
 | x::l,i,h=>by
   have h0:=h 0 x rfl
   simp only [Nat.add_zero] at h0
   have h1:=formedL_of (p:=p) (l:=l) (i:=i+1) fun j y hj=>by
    have:=h (j+1) y (by simpa using hj)
    rwa [show i+(j+1)=i+1+j by omega] at this
   simp [formedL,h0.1,h0.2,h1]
theorem FE_formed {n:Nd}(h:FE n):formedN n=true:=by
 induction h with
 | num m h0 h1=>simp [formedN,headS,shapeS,numOkS,between,formedL,h0,h1]
 | var s h=>simp [formedN,headS,shapeS,numOkS,formedL,h,name_ne h]
 | cell s a h ha ih =>
   have:=FE_kind ha
   simp [formedN,headS,shapeS,numOkS,formedL,kidS,isExprK,between_iff,h,name_ne h,ih]
   exact this
 | len s h=>simp [formedN,headS,shapeS,numOkS,formedL,h,name_ne h]
 | neg a ha ih =>
   have:=FE_kind ha
   simp [formedN,headS,shapeS,numOkS,formedL,kidS,isExprK,between_iff,ih]
   exact this
 | two k a b hk ha hb iha ihb =>
   have h1:=FE_kind ha
   have h2:=FE_kind hb
   rcases hk with rfl | rfl | rfl <;>
   ·simp [formedN,headS,shapeS,numOkS,formedL,kidS,isExprK,between_iff,iha,ihb]
    exact ⟨h1,h2⟩
theorem FC_formed {n:Nd}(h:FC n):formedN n=true:=by
 cases h with
 | mk k a b h0 h1 ha hb =>
   have e1:=FE_kind ha
   have e2:=FE_kind hb
   have:k=11∨k=12∨k=13∨k=14∨k=15∨k=16:=by omega
   rcases this with rfl | rfl | rfl | rfl | rfl | rfl <;>
   ·simp [formedN,headS,shapeS,numOkS,formedL,kidS,isExprK,between_iff,FE_formed ha,FE_formed hb]
    exact ⟨e1,e2⟩
theorem block_formed {l:List Nd}(hl:∀ x,x∈l→FS x)(h:∀ x,x∈l→formedN x=true):formedN (.mk 30 [] 0 l)=true:=by
 have:=formedL_of (p:=.mk 30 [] 0 l) (l:=l) (i:=0) fun j x hx=>by
  have hm:=List.mem_of_getElem? hx
  have:=FS_kind (hl x hm)
  refine ⟨?_,h x hm⟩
  simp [kidS,isStmtK,between_iff]
  exact this
 simp [formedN,headS,shapeS,numOkS,this]
theorem FS_formed {n:Nd}(h:FS n):formedN n=true:=by
 induction h with
 | set s a h ha =>
   have:=FE_kind ha
   simp [formedN,headS,shapeS,numOkS,formedL,kidS,isExprK,between_iff,h,name_ne h,FE_formed ha]
   exact this
 | put s a b h ha hb =>
   have h1:=FE_kind ha
   have h2:=FE_kind hb
   simp [formedN,headS,shapeS,numOkS,formedL,kidS,isExprK,between_iff,h,name_ne h,FE_formed ha,FE_formed hb]
   exact ⟨h1,h2⟩
 | read s h=>simp [formedN,headS,shapeS,numOkS,formedL,h,name_ne h]
 | ifs c l l' hc hl hl' ihl ihl' =>
   have h1:=FC_kind hc
   have b1:=block_formed hl ihl
   have b2:=block_formed hl' ihl'
   rw [formedN]
   simp [headS,shapeS,numOkS,formedL,kidS,isCondK,between_iff,FC_formed hc,b1,b2]
   exact h1
 | whil c l hc hl ihl =>
   have h1:=FC_kind hc
   have b1:=block_formed hl ihl
   rw [formedN]
   simp [headS,shapeS,numOkS,formedL,kidS,isCondK,between_iff,FC_formed hc,b1]
   exact h1
 | for_ s a b l h ha hb hl ihl =>
   have h1:=FE_kind ha
   have h2:=FE_kind hb
   have b1:=block_formed hl ihl
   rw [formedN]
   simp [headS,shapeS,numOkS,formedL,kidS,isExprK,between_iff,h,name_ne h,FE_formed ha,FE_formed hb,b1]
   exact ⟨h1,h2⟩
 | check c hc =>
   have h1:=FC_kind hc
   simp [formedN,headS,shapeS,numOkS,formedL,kidS,isCondK,between_iff,FC_formed hc]
   exact h1
 | skip=>simp [formedN,headS,shapeS,numOkS,formedL]
 | stop=>simp [formedN,headS,shapeS,numOkS,formedL]
theorem FV_formed {n:Nd}(h:FV n):formedN n=true:=by
 cases h with
 | var s h=>simp [formedN,headS,shapeS,numOkS,formedL,h,name_ne h]
 | arr s m h h0 h1=>simp [formedN,headS,shapeS,numOkS,formedL,between,h,name_ne h,h0,h1]
theorem FP_formed {n:Nd}(h:FP n):formedN n=true:=by
 cases h with
 | mk ds l hd hl =>
   have hb:=block_formed hl fun x hx=>FS_formed (hl x hx)
   have:=formedL_of (p:=.mk 40 [] 0 (ds++[.mk 30 [] 0 l])) (l:=ds++[.mk 30 [] 0 l]) (i:=0) fun j x hx=>by
    rcases Nat.lt_or_ge j ds.length with hj | hj
    ·rw [List.getElem?_append_left hj] at hx
     have hm:=List.mem_of_getElem? hx
     refine ⟨?_,FV_formed (hd x hm)⟩
     have hk:=FV_kind (hd x hm)
     have e:kidS (.mk 40 [] 0 (ds++[.mk 30 [] 0 l])) ((0+j:Nat):Int) x.kind=(x.kind==31||x.kind==32):=by
      rw [kidS_p rfl,if_neg]
      simp [Nd.kids];omega
     rw [e];simpa using hk
    ·rw [List.getElem?_append_right hj] at hx
     have hj0:j=ds.length:=by
      have:=lt_of_get hx
      simp at this;omega
     subst hj0
     simp at hx
     subst hx
     refine ⟨?_,hb⟩
     rw [kidS_p rfl,if_pos]
     ·simp [Nd.kind]
     ·simp [Nd.kids]
   simp [formedN,headS,shapeS,numOkS,this]
mutual
def longN:Nd→Bool
 | .mk _ s _ ks=>decide (8<s.length)||longL ks
def longL:List Nd→Bool
 | []=>false
 | x::l=>longN x||longL l
end
theorem longL_of {l:List Nd}(h:∀ x,x∈l→longN x=false):longL l=false:=by
 induction l with
 | nil=>rfl
 | cons x l ih=>simp [longL,h x (by simp),ih fun y hy=>h y (by simp [hy])]
theorem FE_short {n:Nd}(h:FE n):longN n=false:=by
 induction h with
 | num m h0 h1=>simp [longN,longL]
 | var s h=>simp [longN,longL,nameS_len h]
 | cell s a h ha ih=>simp [longN,longL,nameS_len h,ih]
 | len s h=>simp [longN,longL,nameS_len h]
 | neg a ha ih=>simp [longN,longL,ih]
 | two k a b hk ha hb iha ihb=>simp [longN,longL,iha,ihb]
theorem FC_short {n:Nd}(h:FC n):longN n=false:=by
 cases h with | mk k a b h0 h1 ha hb=>simp [longN,longL,FE_short ha,FE_short hb]
theorem FS_short {n:Nd}(h:FS n):longN n=false:=by
 induction h with
 | set s a h ha=>simp [longN,longL,nameS_len h,FE_short ha]
 | put s a b h ha hb=>simp [longN,longL,nameS_len h,FE_short ha,FE_short hb]
 | read s h=>simp [longN,longL,nameS_len h]
 | ifs c l l' hc hl hl' ihl ihl'=>simp [longN,longL,FC_short hc,longL_of ihl,longL_of ihl']
 | whil c l hc hl ihl=>simp [longN,longL,FC_short hc,longL_of ihl]
 | for_ s a b l h ha hb hl ihl=>simp [longN,longL,nameS_len h,FE_short ha,FE_short hb,longL_of ihl]
 | check c hc=>simp [longN,longL,FC_short hc]
 | skip=>simp [longN,longL]
 | stop=>simp [longN,longL]
theorem FV_short {n:Nd}(h:FV n):longN n=false:=by
 cases h with
 | var s h=>simp [longN,longL,nameS_len h]
 | arr s m h h0 h1=>simp [longN,longL,nameS_len h]
theorem FP_short {n:Nd}(h:FP n):longN n=false:=by
 cases h with
 | mk ds l hd hl =>
   have hb:longN (.mk 30 [] 0 l)=false:=by simp [longN,longL_of fun x hx=>FS_short (hl x hx)]
   have:=longL_of (l:=ds++[.mk 30 [] 0 l]) fun x hx=>by
    rcases List.mem_append.1 hx with h | h
    ·exact FV_short (hd x h)
    ·simp at h;subst h;exact hb
   simp [longN,this]
noncomputable def sameN (a b:Nd):Bool:=@decide (a=b) (Classical.propDecidable _)
theorem sameN_iff {a b:Nd}:sameN a b=true↔a=b:=by unfold sameN;exact @decide_eq_true_iff _ (Classical.propDecidable _)
noncomputable def printedS (n:Nd):List UInt8 × Bool :=
 if largeN n||(n.kids.isEmpty||longN n) then ([],false)
 else (prtT n,!(prtT n==[])&&((parseS (prtT n)).2.1==0&&sameN (parseS (prtT n)).1 n))
theorem words_short {s:List UInt8}(h:(parseS s).2.1=0):s.length≤4000:=by
 have hw:(wordsS s).2.1=0:=by
  unfold parseS at h
  split at h
  ·assumption
  ·exact h
 unfold wordsS at hw
 split at hw
 ·simp at hw
 ·omega
theorem printed_ok (n:Nd):(printedS n).2=progOkS n∧(progOkS n=true→(printedS n).1=progT n):=by
 have key:progOkS n=true→printedS n=(progT n,true):=by
  intro h
  have hf:=progOkS_FP h
  obtain ⟨fp,hc,hd⟩:=hf
  have hp:=prt_prog fp
  simp only [progOkS,Bool.and_eq_true,beq_iff_eq,Bool.not_eq_true',decide_eq_true_eq] at h
  obtain ⟨_,⟨h1,h2⟩,h3⟩:=h
  have hb:=parse_back fp hc h3
  have hk:n.kids.isEmpty=false:=by cases fp with | mk ds l hd hl=>simp [Nd.kids]
  have hl:largeN n=false:=by simp [largeN];omega
  unfold printedS
  rw [if_neg (by simp [hk,hl,FP_short fp]),hp,hb,h1]
  simp [h3,sameN_iff]
 refine ⟨?_,fun h=>by rw [key h]⟩
 cases hs:progOkS n with
 | true=>rw [key hs]
 | false =>
   cases hp:(printedS n).2 with
   | false=>rfl
   | true =>
     exfalso
     unfold printedS at hp
     split at hp
     ·simp at hp
     ·simp only [Bool.and_eq_true,beq_iff_eq,Bool.not_eq_true',sameN_iff] at hp
      obtain ⟨h1,h2,h3⟩:=hp
      obtain ⟨fp,hc,hd⟩:=parseS_good h2
      have hl:=words_short h2
      rw [h3] at fp hc hd
      rw [prt_prog fp] at h1 h2 hl
      have hk:n.kind=40:=by cases fp;rfl
      have:progOkS n=true:=by simp [progOkS,hk,fitsS,hc,hd,FP_formed fp,h1,hl,h2]
      rw [this] at hs;cases hs
end Go.V
namespace Go.V
open Go
section
variable {X:Cx}{B:Bx}{E:Env}{S:St}{w:World}{F:Frm}{R:AE→St→Prop}
theorem Inv.wkB (hI:Inv X E S w){b r j:Nat}{rows:List (List AV)}{cs:List AV}{x y:AV}(hb:S.boxes[b]?=some rows)(hr:rows[r]?=some cs)(hc:cs[j]?=some x)(hw:Ren true [] [] x y) :
 Inv X E ⟨S.boxes.set b (rows.set r (cs.set j y)),S.toks⟩ w:=by
 refine hI.recell hb (by simp) (fun q hq=>?_) fun blk sz arr te hB hh k q p z v hk hp hv=>?_
 ·rcases List.mem_or_eq_of_mem_set hq with hq | rfl
  ·exact ⟨q,hq,rfl⟩
  ·exact ⟨cs,List.mem_of_getElem? hr,by simp⟩
 ·obtain ⟨arr',e,hh',hs,hl,hrel⟩:=hI.box b blk sz rows hB hb
  rw [hh] at hh';cases hh'
  rcases get_set hk with ⟨rfl,rfl⟩ | ⟨_,hk⟩
  ·rcases get_set hp with ⟨rfl,rfl⟩ | ⟨_,hp⟩
   ·exact hw.less (hrel _ cs _ x v hr hc hv)
   ·exact hrel _ cs p z v hr hp hv
  ·exact hrel k q p z v hk hp hv
theorem AK.wkB {K:List Item}(b r j:Nat){rows:List (List AV)}{cs:List AV}{x:AV}(y:AV){bx:List (List (List AV))}(hk:AK X B K F ⟨bx,S.toks⟩ R)(hb:S.boxes[b]?=some rows:=by rfl)(hr:rows[r]?=some cs:=by rfl)(hc:cs[j]?=some x:=by rfl)
 (hbx:S.boxes.set b (rows.set r (cs.set j y))=bx:=by rfl) [hw:RinC [] [] x y]:AK X B K F S R:=by
 subst hbx
 intro E w a b' cs' hI hF hn hm hb'
 exact hk E w a b' cs' (hI.wkB hb hr hc hw.s) hF (by simpa using hn) hm hb'
theorem AK.mintAll {K:List Item}(b n m:Nat){bx:List (List (List AV))}{tk:List Nat}(hb:S.boxes[b]?=some (List.replicate n [.sl [] .tight]))(hm:S.toks.length=m)
 (hbx:S.boxes.set b ((List.range n).map fun i=>[.sl [] (.tok (m+i))])=bx)(htk:S.toks++List.replicate n 0=tk)(hk:AK X B K F ⟨bx,tk⟩ R):AK X B K F S R:=by
 subst hm;subst hbx;subst htk
 have rowsK:∀ k,k≤n→((List.range k).map fun i=>[AV.sl [] (.tok (S.toks.length+i))]).length=k:=fun k _=>by simp
 have key:∀ q k,q+k=n→AK X B K F ⟨S.boxes.set b (((List.range k).map fun i=>[AV.sl [] (.tok (S.toks.length+i))])++List.replicate q [.sl [] .tight]),S.toks++List.replicate k 0⟩ R:=by
  intro q
  induction q with
  | zero =>
    intro k hk'
    have:k=n:=by omega
    subst this
    simpa using hk
  | succ q ih =>
    intro k hk'
    have hlt:b<S.boxes.length:=lt_of_get hb
    have h1:=ih (k+1) (by omega)
    refine AK.mintB (m:=S.toks.length+k) b k 0 (rows:=((List.range k).map fun i=>[AV.sl [] (.tok (S.toks.length+i))])++List.replicate (q+1) [.sl [] .tight]) (cs:=[.sl [] .tight]) (sl:=[]) ?_ ?_ rfl ?_ ?_ ?_ h1
    ·simp [hlt]
    ·rw [List.getElem?_append_right (by simp)];simp [List.getElem?_replicate]
    ·simp
    ·simp only [List.set_set]
     congr 1
     rw [List.set_append_right _ _ (by simp),List.range_succ]
     simp [List.replicate_succ]
    ·simp [List.replicate_succ']
 have h0:=key n 0 (by omega)
 have e:S.boxes.set b (List.replicate n [.sl [] .tight])=S.boxes:=by
  apply List.ext_getElem?
  intro i
  by_cases hi:b=i
  ·subst hi
   have:=lt_of_get hb
   rw [List.getElem?_set_self this,hb]
  ·rw [List.getElem?_set_ne hi]
 simp only [List.range_zero,List.map_nil,List.nil_append,List.replicate_zero,List.append_nil] at h0
 rw [e] at h0
 exact h0
instance (priority:=low){bx:List (List (List AV))}{tk:List Nat}{n m b:Nat}{cs cs':List AV} [h1:BoxC bx b [cs]] [h2:LeC n b] [h4:FzLC ⟨bx,tk⟩ n m cs cs']:FzC ⟨bx,tk⟩ n m (.ptr b 0 0) (.cptr cs') :=
 ⟨.ptr b 0 0 [cs] cs cs' h2.h h1.h rfl (by simpa using h4.s.get.1) (fun j x y hx hy=>h4.s.get.2 j x y (by simpa using hx) hy)⟩
end
end Go.V
namespace Go.V
open Go Go.Proofs
theorem trimS_len (s p:List UInt8):(trimS s p).length≤s.length:=by unfold trimS;split<;>simp
theorem gapS_len (a b:List UInt8):(gapS a b).length≤1:=by unfold gapS;split<;>simp
theorem flatT_len:∀ (ws:Wds)(a:List UInt8),(∀ w,w∈ws→w.length≤21)→(flatT a ws).length≤22*ws.length
 | [],a,_=>by simp [flatT]
 | b::ws,a,h=>by
   have h1:=flatT_len ws b fun w hw=>h w (by simp [hw])
   have h2:=gapS_len a b
   have h3:=trimS_len b [32]
   have h4:=h b (by simp)
   simp only [flatT,List.length_append,List.length_cons];omega
def okW (ws:Wds):Prop:=∀ w,w∈ws→w.length≤21
theorem flatS_len (ws:Wds)(h:okW ws):(flatS ws).length≤22*ws.length:=by
 cases ws with
 | nil=>simp [flatS]
 | cons b ws =>
   have h1:=flatT_len ws b fun w hw=>h w (by simp [hw])
   have h3:=trimS_len b [32]
   have h4:=h b (by simp)
   simp only [flatS,List.length_append,List.length_cons];omega
theorem okW_app {a b:Wds}(ha:okW a)(hb:okW b):okW (a++b):=fun w hw=>(List.mem_append.1 hw).elim (ha w) (hb w)
theorem okW_one {a:List UInt8}(h:a.length≤21):okW [a]:=fun w hw=>by simp at hw;subst hw;exact h
theorem okW_cons {a:List UInt8}{l:Wds}(h:a.length≤21)(hl:okW l):okW (a::l):=fun w hw=>by
 rcases List.mem_cons.1 hw with rfl | hw
 ·exact h
 ·exact hl w hw
theorem okW_nil:okW []:=fun w hw=>by cases hw
theorem lineT_len (ws:Wds)(h:Nat)(hw:okW ws):(lineT ws h).length≤2*h+22*ws.length+1:=by
 have:=flatS_len ws hw
 simp [lineT];omega
theorem PrN.get {n:Nd}(h:PrN n):n.name.length≤8∧-9223372036854775808≤n.num∧n.num≤9223372036854775807∧∀ x,x∈n.kids→PrN x:=by
 cases h with | mk k s m ks hs h0 h1 hk=>exact ⟨hs,h0,h1,hk⟩
theorem itoa_ok {m:Int}(h0:-9223372036854775808≤m)(h1:m≤9223372036854775807):(Lib.itoa m).length≤21:=Lib.itoa_length_le m h0 h1
theorem relT_ok (k:Int):(relT k).length≤21:=by have:=relT_len k;omega
theorem inW_ok {a b:Bool}{k:Int}{w:Wds}(h:okW w):okW (inW a b k w):=by
 unfold inW
 split
 ·exact okW_app (okW_app (okW_one (by simp)) h) (okW_one (by simp))
 ·exact h
theorem exprW_ok (n:Nd)(h:PrN n):okW (exprW n):=by
 induction n using Nd.ind with
 | h n ih =>
   obtain ⟨hs,h0,h1,hk⟩:=h.get
   have K:∀ i,okW (exprW (kidN n i)):=fun i=>by
    rcases kidN_cases n i with h | h
    ·exact ih _ h (hk _ h)
    ·rw [h,exprW_nd0];exact okW_nil
   have E:∀ i,okW (eW (kidsW n.kids) i):=fun i=>by rw [eW_kid];exact K i
   have I:∀ i a b,okW (iW (kidsW n.kids) i a b):=fun i a b=>by rw [iW_kid];exact inW_ok (K i)
   rw [exprW_eq]
   unfold exprK
   repeat' split
   ·exact okW_one (itoa_ok h0 h1)
   ·exact okW_one (by omega)
   ·exact okW_app (okW_app (okW_cons (by omega) (okW_one (by simp))) (E 0)) (okW_one (by simp))
   ·exact okW_cons (by simp) (okW_cons (by simp) (okW_cons (by omega) (okW_one (by simp))))
   ·exact okW_app (okW_one (by simp)) (I 0 _ _)
   ·exact okW_app (okW_app (E 0) (okW_one (by simp))) (I 1 _ _)
   ·exact okW_app (okW_app (E 0) (okW_one (by simp))) (I 1 _ _)
   ·exact okW_app (okW_app (I 0 _ _) (okW_one (by simp))) (I 1 _ _)
   ·exact okW_app (okW_app (E 0) (okW_one (relT_ok _))) (E 1)
   ·exact okW_nil
theorem kidsB_map (l:List Nd)(h:Nat):kidsB l h=l.map fun x=>bodyO x h:=by
 induction l with
 | nil=>simp [kidsB]
 | cons x l ih=>simp [kidsB,ih]
theorem bodyO_eq (n:Nd)(h:Nat):bodyO n h=(outL n.kids (h+1),!n.kids.isEmpty):=by cases n;simp [bodyO,Nd.kids]
theorem bTQ_kid (n:Nd)(h i:Nat):bT (kidsB n.kids h) i=outL (kidN n i).kids (h+1)∧bQ' (kidsB n.kids h) i=!(kidN n i).kids.isEmpty:=by
 have:(kidsB n.kids h).getD i ([],false)=bodyO (kidN n i) h:=by
  rw [kidsB_map]
  unfold kidN
  cases hx:n.kids[i]? with
  | none=>simp [List.getD,hx,bodyO_eq,nd0,outL]
  | some x=>simp [List.getD,hx]
 rw [bT,bQ',this,bodyO_eq];exact ⟨rfl,rfl⟩
theorem outS_eq (n:Nd)(h:Nat):outS n h=outK n.kind n.name n.num (kidsW n.kids) (kidsB n.kids h) h:=by cases n;simp [outS,Nd.kind,Nd.name,Nd.num,Nd.kids]
theorem stW_ok (n:Nd)(h:PrN n):okW (stW n.kind n.name n.num (kidsW n.kids)):=by
 obtain ⟨hs,h0,h1,hk⟩:=h.get
 have E:∀ i,okW (eW (kidsW n.kids) i):=fun i=>by rw [eW_kid];exact exprW_ok _ (h.kid i)
 unfold stW
 repeat' split
 ·exact okW_cons (by simp) (okW_one (by omega))
 ·exact okW_cons (by simp) (okW_cons (by omega) (okW_cons (by simp) (okW_cons (by simp) (okW_one (by simp)))))
 ·exact okW_cons (by simp) (okW_cons (by omega) (okW_cons (by simp) (okW_cons (itoa_ok h0 h1) (okW_one (by simp)))))
 ·exact okW_app (okW_cons (by omega) (okW_one (by simp))) (E 0)
 ·exact okW_app (okW_app (okW_app (okW_cons (by omega) (okW_one (by simp))) (E 0)) (okW_cons (by simp) (okW_one (by simp)))) (E 1)
 ·exact okW_cons (by simp) (okW_one (by omega))
 ·exact okW_app (okW_one (by simp)) (E 0)
 ·exact okW_one (by simp)
 ·exact okW_one (by simp)
theorem eW_two (ks:List Nd):(eW (kidsW ks) 0).length+(eW (kidsW ks) 1).length≤8*countL ks:=by
 have:=(kids_len ks fun x _=>exprW_len x).1
 omega
theorem stW_len (n:Nd):(stW n.kind n.name n.num (kidsW n.kids)).length≤8*countL n.kids+5:=by
 have:=eW_two n.kids
 unfold stW
 repeat' split
 all_goals simp
 all_goals omega
theorem outL_le {l:List Nd}{h:Nat}(hx:∀ x,x∈l→(outS x h).length≤1000*countN x):(outL l h).length≤1000*countL l:=by
 induction l with
 | nil=>simp [outL]
 | cons x l ih =>
   have h1:=hx x (by simp)
   have h2:=ih fun y hy=>hx y (by simp [hy])
   simp only [outL,countL,List.length_append];omega
def cK (ks:List Nd)(i:Nat):Nat:=match ks[i]? with
 | some x=>countN x
 | none=>0
theorem cK_sum (ks:List Nd):cK ks 0+cK ks 1+cK ks 2≤countL ks:=by
 match ks with
 | []=>simp [cK]
 | [a]=>simp [cK,countL]
 | [a,b]=>simp [cK,countL]
 | a::b::c::l=>simp [cK,countL];omega
theorem eW_cK (ks:List Nd)(i:Nat):(eW (kidsW ks) i).length≤8*cK ks i:=by
 rw [eW,kidsW_map]
 unfold cK
 cases hx:ks[i]? with
 | none=>simp [List.getD,hx]
 | some x=>have:=exprW_len x;simp [List.getD,hx];omega
theorem bT_cK (ks:List Nd)(h i:Nat)(hx:∀ y,y∈ks→∀ x,x∈y.kids→(outS x (h+1)).length≤1000*countN x):(bT (kidsB ks h) i).length≤1000*cK ks i:=by
 rw [bT,kidsB_map]
 unfold cK
 cases hy:ks[i]? with
 | none=>simp [List.getD,hy]
 | some y =>
   have:=outL_le (hx y (List.mem_of_getElem? hy))
   have:=countN_eq y
   simp [List.getD,hy,bodyO_eq];omega
theorem outS_le (n:Nd):∀ h:Nat,PrN n→h+depthN n≤60→(outS n h).length≤1000*countN n:=by
 have:∀ n:Nd,(∀ h:Nat,PrN n→h+depthN n≤60→(outS n h).length≤1000*countN n)∧∀ y,y∈n.kids→∀ h:Nat,PrN y→h+depthN y≤60→(outS y h).length≤1000*countN y:=by
  intro n
  induction n using Nd.ind with
  | h n ih =>
    refine ⟨fun h hp hd=>?_,fun y hy=>(ih y hy).1⟩
    have hdn:=depthN_eq n
    have hcn:=countN_eq n
    have hb:=fun i=>bT_cK n.kids h i fun y hy x hx=>(ih y hy).2 x hx (h+1) ((hp.get.2.2.2 y hy).get.2.2.2 x hx) (by
     have h1:=depth_mem hy
     have h2:=depth_mem hx
     have h3:=depthN_eq y
     omega)
    have he:=eW_two n.kids
    have b1:=hb 1
    have b2:=hb 2
    have e0:=eW_cK n.kids 0
    have e1:=eW_cK n.kids 1
    have cs:=cK_sum n.kids
    have E:∀ i,okW (eW (kidsW n.kids) i):=fun i=>by rw [eW_kid];exact exprW_ok _ (hp.kid i)
    have hs:=hp.get.1
    rw [outS_eq]
    unfold outK
    split
    ·have h1:=lineT_len (stW n.kind n.name n.num (kidsW n.kids)++[[59]]) h (okW_app (stW_ok n hp) (okW_one (by simp)))
     have h2:=stW_len n
     simp at h1;omega
    ·have l1:=lineT_len [[125]] h (okW_one (by simp))
     have l2:=lineT_len [[125],wElse,[123]] h (okW_cons (by simp) (okW_cons (by simp) (okW_one (by simp))))
     have l0:=lineT_len [] h okW_nil
     have a1:=lineT_len ([wIf]++eW (kidsW n.kids) 0++[[123]]) h (okW_app (okW_app (okW_one (by simp)) (E 0)) (okW_one (by simp)))
     have a2:=lineT_len ([wWhile]++eW (kidsW n.kids) 0++[[123]]) h (okW_app (okW_app (okW_one (by simp)) (E 0)) (okW_one (by simp)))
     have a3:=lineT_len ([wFor,n.name,wFrom]++eW (kidsW n.kids) 0++[wTo]++eW (kidsW n.kids) 1++[[123]]) h
      (okW_app (okW_app (okW_app (okW_app (okW_cons (by simp) (okW_cons (by omega) (okW_one (by simp)))) (E 0)) (okW_one (by simp))) (E 1)) (okW_one (by simp)))
     simp at l1 l2 l0 a1 a2 a3
     unfold cpT
     repeat' split
     all_goals simp
     all_goals omega
 exact (this n).1
abbrev bK (A:AV)(s:List UInt8)(ws:Wds)(h:Int):List AV:=[A,.buf 5 s 0,.sl (strR ws) (.tok 2),vi h]
def HS (x:Nd):Prop:=∀ (b:Bool)(s:List UInt8)(h:Nat),h+depthN x≤60→s.length+(outS x h).length≤1000000000 →
 Hands X 237 [.ptr 0 0 0,nd x] ⟨[[bN (adr 270 0 b) s h]],[s.length]⟩ (.tup []) ⟨[[bN (.ptr 0 0 0) (s++outS x h) h]],[(s++outS x h).length]⟩
def blkT (x:Nd)(ws:Wds)(h:Nat):List UInt8:=lineT (ws++[[123]]) h++outL x.kids (h+1)
def HBk (x:Nd):Prop:=∀ (b:Bool)(s:List UInt8)(ws:Wds)(h:Nat),h+depthN x≤60→okW ws→ws.length≤900000→s.length+(blkT x ws h).length≤1000000000 →
 Hands X 279 [.ptr 0 0 0,nd x] ⟨[[bP (adr 270 0 b) s ws h]],[s.length,ws.length]⟩ (.tup [])
  ⟨[[bK (.ptr 0 0 0) (s++blkT x ws h) [[125]] h]],[(s++blkT x ws h).length,(ws++[[123]]).length,1]⟩
theorem PutC.f {r:List (List AV)}{xs:Wds}(hp:PutC r xs)(s:List UInt8)(ws:Wds)(h:Int)(hw:ws.length≤1000000000) :
 Hands X 262 [.ptr 0 0 0,.sl r .no] ⟨[[bP (.ptr 0 0 0) s ws h]],[s.length,ws.length]⟩ (.tup []) ⟨[[bP (.ptr 0 0 0) s (ws++xs) h]],[s.length,(ws++xs).length]⟩:=hp false s ws h hw
theorem PutC.n {r:List (List AV)}{xs:Wds}(hp:PutC r xs)(b:Bool)(s:List UInt8)(h:Int) :
 Hands X 262 [.ptr 0 0 0,.sl r .no] ⟨[[[adr 270 0 b,.buf 5 s 0,.sl [] (.tok 1),vi h]]],[s.length,0]⟩ (.tup []) ⟨[[bP (adr 270 0 b) s xs h]],[s.length,xs.length]⟩:=hp b s [] h (by simp)
theorem PutC.m {r:List (List AV)}{xs:Wds}(hp:PutC r xs)(s:List UInt8)(h:Int) :
 Hands X 262 [.ptr 0 0 0,.sl r .no] ⟨[[[.ptr 0 0 0,.buf 5 s 0,.sl [] (.tok 1),vi h]]],[s.length,0]⟩ (.tup []) ⟨[[bP (.ptr 0 0 0) s xs h]],[s.length,xs.length]⟩:=hp false s [] h (by simp)
theorem bN_in (b:Bool)(s:List UInt8)(h:Int):RinB [0] [0] [[bN (adr 270 0 b) s h]] [[bN (adr 270 0 b) s h]] :=
 have h1:RinC [0] [0] (adr 270 0 b) (adr 270 0 b):=inferInstance
 have h2:RinC [0] [0] (.buf 5 s 0) (.buf 5 s 0):=inferInstance
 have h3:Ren true [0] [0] (.sl [] .tight) (.sl [] .tight):=Ren_sl .nil (.inr (.inr (.inr (.inl ⟨rfl,rfl⟩))))
 have h4:RinC [0] [0] (vi h) (vi h):=inferInstance
 ⟨.cons (.cons (.cons h1.s (.cons h2.s (.cons h3 (.cons h4.s .nil)))) .nil) .nil⟩
theorem bN_on (s:List UInt8)(h:Int):RinB [0] [0] [[bN (.ptr 0 0 0) s h]] [[bN (.ptr 0 0 0) s h]]:=bN_in false s h
theorem HS.f {x:Nd}(hx:HS x)(s:List UInt8)(h:Nat)(hd:h+depthN x≤60)(hl:s.length+(outS x h).length≤1000000000) :
 Hands X 237 [.ptr 0 0 0,nd x] ⟨[[bN (.ptr 0 0 0) s h]],[s.length]⟩ (.tup []) ⟨[[bN (.ptr 0 0 0) (s++outS x h) h]],[(s++outS x h).length]⟩:=hx false s h hd hl
theorem HBk.f {x:Nd}(hx:HBk x)(s:List UInt8)(ws:Wds)(h:Nat)(hd:h+depthN x≤60)(hw:okW ws)(hwl:ws.length≤900000)(hl:s.length+(blkT x ws h).length≤1000000000) :
 Hands X 279 [.ptr 0 0 0,nd x] ⟨[[bP (.ptr 0 0 0) s ws h]],[s.length,ws.length]⟩ (.tup [])
  ⟨[[bK (.ptr 0 0 0) (s++blkT x ws h) [[125]] h]],[(s++blkT x ws h).length,(ws++[[123]]).length,1]⟩:=hx false s ws h hd hw hwl hl
theorem lineT_flat (ws:Wds)(h:Nat):(lineT ws h).length=2*h+(flatS ws).length+1:=by simp [lineT];omega
theorem okW_m {ws:Wds}(h:okW ws):∀ x,x∈ws→x.length≤1000000:=fun x hx=>by have:=h x hx;omega
theorem h_block (x:Nd)(hy:∀ y,y∈x.kids→HS y)(hl:x.kids.length≤100000):HBk x:=by
 intro b s ws h hd hw hwl hb
 have dx:=depthN_eq x
 have e1:(blkT x ws h).length=(lineT (ws++[[123]]) h).length+(outL x.kids (h+1)).length:=by simp [blkT]
 have e2:=lineT_flat (ws++[[123]]) h
 have hi1:IntKind.i64.wrap ((h:Int)+1)=((h+1:Nat):Int):=(wrap_small (by omega) (by omega)).trans (by omega)
 have hi2:IntKind.i64.wrap (((h+1:Nat):Int)-1)=(h:Int):=(wrap_small (by omega) (by omega)).trans (by omega)
 refine Hands.run (n:=1) (m:=2) Tryz.func279 ?_
 refine AK.hc (τ':=[0,1]) [0] [0,1] (put1 [123] b s ws h (by omega)) ?_
 refine AK.hc (τ':=[0]) [0] [0] (h_line b s (ws++[[123]]) h (by omega) (by simp<;>omega) (by omega) (by omega) (okW_m (okW_app hw (okW_one (by simp))))) ?_
 refine AK.sto ⟨[[bN (.ptr 0 0 0) (s++lineT (ws++[[123]]) h) ((h+1:Nat):Int)],[ncells x]],[(s++lineT (ws++[[123]]) h).length,(ws++[[123]]).length]⟩ ?_ (by rw [← hi1]<;>rfl)
 refine AK.while_ (ι:=Nat × List UInt8) 2 2 (fun i=>i.1≤x.kids.length∧i.2++outL (x.kids.drop i.1) (h+1)=s++blkT x ws h) (fun i=>[(21,vi i.1),(20,vi x.kids.length),(19,.sl (nrows x.kids) .no),(0,.ptr 0 0 0)])
  (fun i=>⟨[[bN (.ptr 0 0 0) i.2 ((h+1:Nat):Int)],[ncells x]],[i.2.length,(ws++[[123]]).length]⟩) (fun i=>x.kids.length-i.1) ?_ (0,s++lineT (ws++[[123]]) h) ⟨Nat.zero_le _,by simp [blkT]⟩ ⟨rfl,by rw [← nrows_len];rfl,rfl,rfl,trivial⟩ rfl rfl rfl rfl rfl
  (fun _=>inferInstance) (fun _=>inferInstance)
 rintro ⟨i,out⟩ ⟨hi,hT⟩ IH
 simp only at hi hT IH ⊢
 have hol:=congrArg List.length hT
 simp only [List.length_append] at hol
 refine AK.ev 100 rfl ?_
 refine AK.if_ (fun h1=>?_) (fun h1=>?_)
 ·have hlt:i<x.kids.length:=by have:=of_decide_eq_true h1;omega
  obtain ⟨y,hyi⟩:=lget_of_lt x.kids hlt
  have hmem:=List.mem_of_getElem? hyi
  have hdr:=drop_cons hyi
  rw [hdr] at hT hol
  simp only [outL,List.length_append] at hT hol
  refine AK.ix i (by omega) (nrows_get hyi) ?_
  refine AK.hc (hb:=bN_on out ((h+1:Nat):Int)) (τ':=[0]) [0] [0] ((hy y hmem).f out (h+1) (by have:=depth_mem hmem;omega) (by omega)) ?_
  exact IH (i+1,out++outS y (h+1)) ⟨hlt,by simpa using hT⟩ (by simp only;omega) _ _ ⟨vint ((wrap_small (by omega) (by omega)).trans (by omega)),rfl,rfl,rfl,trivial⟩ rfl rfl rfl
 ·have hie:i=x.kids.length:=by have:=of_decide_eq_false h1;omega
  subst hie
  rw [List.drop_eq_nil_of_le (Nat.le_refl _)] at hT
  simp only [outL,List.append_nil] at hT
  subst hT
  refine AK.sto ⟨[[bN (.ptr 0 0 0) (s++blkT x ws h) h],[ncells x]],[(s++blkT x ws h).length,(ws++[[123]]).length]⟩ ?_ (by rw [← hi2]<;>rfl)
  refine AK.mintB 0 0 2 (bx:=[[[.ptr 0 0 0,.buf 5 (s++blkT x ws h) 0,.sl [] (.tok 2),vi h]],[ncells x]]) (tk:=[(s++blkT x ws h).length,(ws++[[123]]).length,0]) rfl rfl rfl rfl rfl rfl ?_
  refine AK.hc (τ':=[0,2]) [0] [0,2] ((put1 [125]).m (s++blkT x ws h) h) ?_
  exact AK.fb Tryz.func279 rfl rfl
def cpP (k:Int)(s:List UInt8)(c:List (Int × Wds))(b:List (List UInt8 × Bool))(h:Nat):List UInt8 :=
 if k=24 then lineT ([wIf]++eW c 0++[[123]]) h++bT b 1++(if bQ' b 2 then lineT [[125],wElse,[123]] h++bT b 2 else [])
 else if k=25 then lineT ([wWhile]++eW c 0++[[123]]) h++bT b 1
 else if k=26 then lineT ([wFor,s,wFrom]++eW c 0++[wTo]++eW c 1++[[123]]) h++bT b 2
 else []
def cpW (k:Int):Wds:=if k=24 then [[125]] else if k=25 then [[125]] else if k=26 then [[125]] else []
def cpB (k:Int)(b:Bool):Bool:=if k=24 then false else if k=25 then false else if k=26 then false else b
theorem cpT_eq (k:Int)(s:List UInt8)(c:List (Int × Wds))(b:List (List UInt8 × Bool))(h:Nat):cpT k s c b h=cpP k s c b h++lineT (cpW k) h:=by
 unfold cpT cpP cpW
 repeat' split
 all_goals simp
theorem bT_kid (n:Nd)(h i:Nat):bT (kidsB n.kids h) i=outL (kidN n i).kids (h+1):=(bTQ_kid n h i).1
theorem bQ_kid (n:Nd)(h i:Nat):bQ' (kidsB n.kids h) i=!(kidN n i).kids.isEmpty:=(bTQ_kid n h i).2
theorem kid_depth (n:Nd)(i:Nat){h:Nat}(hd:h+depthN n≤60):h+depthN (kidN n i)≤60:=by
 have:=depthN_eq n
 rcases kidN_cases n i with h | h
 ·have:=depth_mem h;omega
 ·rw [h];show _+1≤60;omega
set_option maxHeartbeats 2000000 in
theorem h_compound (n:Nd)(hp:PrN n)(hsz:countN n≤1000)(hk:∀ i,HBk (kidN n i))(b:Bool)(s:List UInt8)(h:Nat)(hd:h+depthN n≤60)(hl:s.length+(cpP n.kind n.name (kidsW n.kids) (kidsB n.kids h) h).length≤1000000000) :
 Hands X 265 [.ptr 0 0 0,nd n] ⟨[[bN (adr 270 0 b) s h]],[s.length]⟩ (.tup [])
  ⟨[[bQ (adr 270 0 (cpB n.kind b)) (s++cpP n.kind n.name (kidsW n.kids) (kidsB n.kids h) h) (cpW n.kind) h]],[(s++cpP n.kind n.name (kidsW n.kids) (kidsB n.kids h) h).length]⟩:=by
 have hkl:n.kids.length≤4000000000:=by have:=length_le_countL n.kids;have:=countN_eq n;omega
 have q0:=q_kid n 0 (by omega) hkl
 have q1:=q_kid n 1 (by omega) hkl
 have q2:=q_kid n 2 (by omega) hkl
 have e0:=h_expr (kidN n 0) (hp.kid 0)
 have e1:=h_expr (kidN n 1) (hp.kid 1)
 have w0:=exprW_ok (kidN n 0) (hp.kid 0)
 have w1:=exprW_ok (kidN n 1) (hp.kid 1)
 have he:=eW_two n.kids
 have hcn:=countN_eq n
 rw [eW_kid,eW_kid] at he
 have kc:∀ i,countN (kidN n i)≤1000:=fun i=>by
  rcases kidN_cases n i with h | h
  ·have:=countL_mem h;omega
  ·rw [h];decide
 have c0:=kc 0
 have c1:=kc 1
 have d1:=kid_depth n 1 hd
 have d2:=kid_depth n 2 hd
 have hs8:=hp.get.1
 refine Hands.run (n:=1) (m:=1) Tryz.func265 ?_
 refine AK.if_ (fun h1=>?_) (fun h1=>?_)
 ·have h1':n.kind=24:=by simpa using h1
  have hB:cpB n.kind b=false:=by unfold cpB;rw [if_pos h1']
  have hW:cpW n.kind=[[125]]:=by unfold cpW;rw [if_pos h1']
  have hP:cpP n.kind n.name (kidsW n.kids) (kidsB n.kids h) h=blkT (kidN n 1) ([wIf]++exprW (kidN n 0)) h++(if !(kidN n 2).kids.isEmpty then blkT (kidN n 2) ([[125]]++[wElse]) h else []):=by
   unfold cpP;rw [if_pos h1',eW_kid,bT_kid,bQ_kid,bT_kid];simp [blkT]
  rw [hB,hW]
  rw [hP] at hl ⊢
  simp only [List.length_append] at hl
  refine AK.mintB 0 0 2 (bx:=[[[adr 270 0 b,.buf 5 s 0,.sl [] (.tok 1),vi h]],[ncells n]]) (tk:=[s.length,0]) rfl rfl rfl rfl rfl rfl ?_
  refine AK.hc (τ':=[0,1]) [0] [0,1] ((put1 wIf).n b s h) ?_
  refine AK.pc q0 ?_
  refine AK.hc (τ':=[0,1]) [0] [0,1] (e0 (by omega) b s ([wIf]) h (by simp<;>omega)) ?_
  refine AK.pc q1 ?_
  refine AK.hc (τ':=[0,1,2]) [0] [0,1] (hk 1 b s ([wIf]++exprW (kidN n 0)) h d1 (okW_app ((okW_one (by simp))) w0) (by simp<;>omega) (by omega)) ?_
  refine AK.pc q2 ?_
  refine AK.if_ (fun h2=>?_) (fun h2=>?_)
  ·have h2':(!(kidN n 2).kids.isEmpty)=true:=by
    have:=of_decide_eq_true h2
    rw [nrows_len] at this
    cases hh:(kidN n 2).kids with
    | nil=>rw [hh] at this;simp at this
    | cons y l=>rfl
   rw [if_pos h2'] at hl ⊢
   rw [← List.append_assoc]
   refine AK.hc (τ':=[0,2]) [0] [0,2] ((put1 wElse).f (s++blkT (kidN n 1) ([wIf]++exprW (kidN n 0)) h) [[125]] h (by simp)) ?_
   refine AK.pc q2 ?_
   refine AK.hc (τ':=[0,2,3]) [0] [0,2] ((hk 2).f (s++blkT (kidN n 1) ([wIf]++exprW (kidN n 0)) h) ([[125]]++[wElse]) h d2 (okW_app (okW_one (by simp)) (okW_one (by simp))) (by simp) (by simp only [List.length_append];omega)) ?_
   refine AK.wkB 0 0 2 (.sl (strR [[125]]) .no) ?_
   exact AK.fb Tryz.func265 rfl rfl
  ·have h2':¬ (!(kidN n 2).kids.isEmpty)=true:=by
    have:=of_decide_eq_false h2
    rw [nrows_len] at this
    cases hh:(kidN n 2).kids with
    | nil=>simp
    | cons y l=>rw [hh] at this;simp at this
   rw [if_neg h2',List.append_nil] at *
   refine AK.wkB 0 0 2 (.sl (strR [[125]]) .no) ?_
   exact AK.fb Tryz.func265 rfl rfl
 have h1':n.kind≠24:=by simpa using h1
 refine AK.if_ (fun h2=>?_) (fun h2=>?_)
 ·have h2':n.kind=25:=by simpa using h2
  have hB:cpB n.kind b=false:=by unfold cpB;rw [if_neg h1',if_pos h2']
  have hW:cpW n.kind=[[125]]:=by unfold cpW;rw [if_neg h1',if_pos h2']
  have hP:cpP n.kind n.name (kidsW n.kids) (kidsB n.kids h) h=blkT (kidN n 1) ([wWhile]++exprW (kidN n 0)) h:=by
   unfold cpP;rw [if_neg h1',if_pos h2',eW_kid,bT_kid];simp [blkT]
  rw [hB,hW]
  rw [hP] at hl ⊢
  refine AK.mintB 0 0 2 (bx:=[[[adr 270 0 b,.buf 5 s 0,.sl [] (.tok 1),vi h]],[ncells n]]) (tk:=[s.length,0]) rfl rfl rfl rfl rfl rfl ?_
  refine AK.hc (τ':=[0,1]) [0] [0,1] ((put1 wWhile).n b s h) ?_
  refine AK.pc q0 ?_
  refine AK.hc (τ':=[0,1]) [0] [0,1] (e0 (by omega) b s ([wWhile]) h (by simp<;>omega)) ?_
  refine AK.pc q1 ?_
  refine AK.hc (τ':=[0,1,2]) [0] [0,1] (hk 1 b s ([wWhile]++exprW (kidN n 0)) h d1 (okW_app ((okW_one (by simp))) w0) (by simp<;>omega) (by omega)) ?_
  refine AK.wkB 0 0 2 (.sl (strR [[125]]) .no) ?_
  exact AK.fb Tryz.func265 rfl rfl
 have h2':n.kind≠25:=by simpa using h2
 refine AK.if_ (fun h3=>?_) (fun h3=>?_)
 ·have h3':n.kind=26:=by simpa using h3
  have hB:cpB n.kind b=false:=by unfold cpB;rw [if_neg h1',if_neg h2',if_pos h3']
  have hW:cpW n.kind=[[125]]:=by unfold cpW;rw [if_neg h1',if_neg h2',if_pos h3']
  have hP:cpP n.kind n.name (kidsW n.kids) (kidsB n.kids h) h=blkT (kidN n 2) ([wFor,n.name,wFrom]++exprW (kidN n 0)++[wTo]++exprW (kidN n 1)) h:=by
   unfold cpP;rw [if_neg h1',if_neg h2',if_pos h3',eW_kid,eW_kid,bT_kid];simp [blkT]
  rw [hB,hW]
  rw [hP] at hl ⊢
  refine AK.mintB 0 0 2 (bx:=[[[adr 270 0 b,.buf 5 s 0,.sl [] (.tok 1),vi h]],[ncells n]]) (tk:=[s.length,0]) rfl rfl rfl rfl rfl rfl ?_
  refine AK.hc (τ':=[0,1]) [0] [0,1] ((put3 wFor n.name wFrom).n b s h) ?_
  refine AK.pc q0 ?_
  refine AK.hc (τ':=[0,1]) [0] [0,1] (e0 (by omega) b s ([wFor,n.name,wFrom]) h (by simp<;>omega)) ?_
  refine AK.hc (τ':=[0,1]) [0] [0,1] (put1 wTo b s ([wFor,n.name,wFrom]++exprW (kidN n 0)) h (by simp<;>omega)) ?_
  refine AK.pc q1 ?_
  refine AK.hc (τ':=[0,1]) [0] [0,1] (e1 (by omega) b s ([wFor,n.name,wFrom]++exprW (kidN n 0)++[wTo]) h (by simp<;>omega)) ?_
  refine AK.pc q2 ?_
  refine AK.hc (τ':=[0,1,2]) [0] [0,1] (hk 2 b s ([wFor,n.name,wFrom]++exprW (kidN n 0)++[wTo]++exprW (kidN n 1)) h d2
   (okW_app (okW_app (okW_app (okW_cons (by simp) (okW_cons (by omega) (okW_one (by simp)))) w0) (okW_one (by simp))) w1) (by simp<;>omega) (by omega)) ?_
  refine AK.wkB 0 0 2 (.sl (strR [[125]]) .no) ?_
  exact AK.fb Tryz.func265 rfl rfl
 have h3':n.kind≠26:=by simpa using h3
 have hB:cpB n.kind b=b:=by unfold cpB;rw [if_neg h1',if_neg h2',if_neg h3']
 have hW:cpW n.kind=[]:=by unfold cpW;rw [if_neg h1',if_neg h2',if_neg h3']
 have hP:cpP n.kind n.name (kidsW n.kids) (kidsB n.kids h) h=[]:=by unfold cpP;rw [if_neg h1',if_neg h2',if_neg h3']
 rw [hB,hW,hP,List.append_nil]
 refine AK.wkB 0 0 2 (.sl (strR []) .no) ?_
 exact AK.fb Tryz.func265 rfl rfl
set_option maxHeartbeats 2000000 in
theorem h_stmt (n:Nd)(hp:PrN n)(hsz:countN n≤1000)(hk:∀ i,HBk (kidN n i)):HS n:=by
 intro b s h hd hl
 have hkl:n.kids.length≤4000000000:=by have:=length_le_countL n.kids;have:=countN_eq n;omega
 have q0:=q_kid n 0 (by omega) hkl
 have q1:=q_kid n 1 (by omega) hkl
 have e0:=h_expr (kidN n 0) (hp.kid 0)
 have e1:=h_expr (kidN n 1) (hp.kid 1)
 have he:=eW_two n.kids
 have hcn:=countN_eq n
 rw [eW_kid,eW_kid] at he
 have kc:∀ i,countN (kidN n i)≤1000:=fun i=>by
  rcases kidN_cases n i with h | h
  ·have:=countL_mem h;omega
  ·rw [h];decide
 have c0:=kc 0
 have c1:=kc 1
 have hn:=hp.get
 have hst:=stW_ok n hp
 have hO:outS n h=if isSt n.kind then lineT (stW n.kind n.name n.num (kidsW n.kids)++[[59]]) h else cpP n.kind n.name (kidsW n.kids) (kidsB n.kids h) h++lineT (cpW n.kind) h:=by
  rw [outS_eq];unfold outK;split
  ·rfl
  ·rw [cpT_eq]
 refine Hands.run (n:=1) (m:=1) Tryz.func237 ?_
 refine AK.if_ (fun h31=>?_) (fun h31=>?_)
 ·have h31':n.kind=31:=by simpa using h31
  have hT:stW n.kind n.name n.num (kidsW n.kids)=[wVar,n.name]:=by unfold stW;rw [if_pos h31']<;>rfl
  rw [if_pos (by simp [isSt,h31']),hT] at hO
  rw [hT] at hst
  rw [hO] at hl ⊢
  have hfl:=lineT_flat ([wVar,n.name]++[[59]]) h
  have hwl:=lineT_len ([wVar,n.name]++[[59]]) h (okW_app hst (okW_one (by simp)))
  refine AK.mintB 0 0 2 (bx:=[[[adr 270 0 b,.buf 5 s 0,.sl [] (.tok 1),vi h]],[ncells n]]) (tk:=[s.length,0]) rfl rfl rfl rfl rfl rfl ?_
  refine AK.hc (τ':=[0,1]) [0] [0,1] ((put2 wVar n.name).n b s h) ?_
  refine AK.hc (τ':=[0,1]) [0] [0,1] (put1 [59] b s ([wVar,n.name]) h (by simp<;>omega)) ?_
  refine AK.hc (τ':=[0]) [0] [0] (h_line b s ([wVar,n.name]++[[59]]) h (by omega) (by simp<;>omega) (by omega) (by omega) (okW_m (okW_app hst (okW_one (by simp))))) ?_
  exact AK.fb Tryz.func237 rfl rfl
 have h31':n.kind≠31:=by simpa using h31
 refine AK.if_ (fun h32=>?_) (fun h32=>?_)
 ·have h32':n.kind=32:=by simpa using h32
  refine AK.pc (p_itoa n.num hn.2.1 hn.2.2.1) ?_
  refine AK.if_ (fun hm=>?_) (fun hm=>?_)
  ·have hm':n.num=-1:=by simpa using hm
   have hT:stW n.kind n.name n.num (kidsW n.kids)=[wArray,n.name,[91],[63],[93]]:=by unfold stW;rw [if_neg h31',if_pos h32',if_pos hm']<;>rfl
   rw [if_pos (by simp [isSt,h32']),hT] at hO
   rw [hT] at hst
   rw [hO] at hl ⊢
   have hfl:=lineT_flat ([wArray,n.name,[91],[63],[93]]++[[59]]) h
   have hwl:=lineT_len ([wArray,n.name,[91],[63],[93]]++[[59]]) h (okW_app hst (okW_one (by simp)))
   refine AK.mintB 0 0 2 (bx:=[[[adr 270 0 b,.buf 5 s 0,.sl [] (.tok 1),vi h]],[ncells n]]) (tk:=[s.length,0]) rfl rfl rfl rfl rfl rfl ?_
   refine AK.hc (τ':=[0,1]) [0] [0,1] ((put5 wArray n.name [91] [63] [93]).n b s h) ?_
   refine AK.hc (τ':=[0,1]) [0] [0,1] (put1 [59] b s ([wArray,n.name,[91],[63],[93]]) h (by simp<;>omega)) ?_
   refine AK.hc (τ':=[0]) [0] [0] (h_line b s ([wArray,n.name,[91],[63],[93]]++[[59]]) h (by omega) (by simp<;>omega) (by omega) (by omega) (okW_m (okW_app hst (okW_one (by simp))))) ?_
   exact AK.fb Tryz.func237 rfl rfl
  ·have hm':¬ n.num=-1:=by simpa using hm
   have hT:stW n.kind n.name n.num (kidsW n.kids)=[wArray,n.name,[91],Lib.itoa n.num,[93]]:=by unfold stW;rw [if_neg h31',if_pos h32',if_neg hm']<;>rfl
   rw [if_pos (by simp [isSt,h32']),hT] at hO
   rw [hT] at hst
   rw [hO] at hl ⊢
   have hfl:=lineT_flat ([wArray,n.name,[91],Lib.itoa n.num,[93]]++[[59]]) h
   have hwl:=lineT_len ([wArray,n.name,[91],Lib.itoa n.num,[93]]++[[59]]) h (okW_app hst (okW_one (by simp)))
   refine AK.mintB 0 0 2 (bx:=[[[adr 270 0 b,.buf 5 s 0,.sl [] (.tok 1),vi h]],[ncells n]]) (tk:=[s.length,0]) rfl rfl rfl rfl rfl rfl ?_
   refine AK.hc (τ':=[0,1]) [0] [0,1] ((put5 wArray n.name [91] (Lib.itoa n.num) [93]).n b s h) ?_
   refine AK.hc (τ':=[0,1]) [0] [0,1] (put1 [59] b s ([wArray,n.name,[91],Lib.itoa n.num,[93]]) h (by simp<;>omega)) ?_
   refine AK.hc (τ':=[0]) [0] [0] (h_line b s ([wArray,n.name,[91],Lib.itoa n.num,[93]]++[[59]]) h (by omega) (by simp<;>omega) (by omega) (by omega) (okW_m (okW_app hst (okW_one (by simp))))) ?_
   exact AK.fb Tryz.func237 rfl rfl
 have h32':n.kind≠32:=by simpa using h32
 refine AK.if_ (fun h21=>?_) (fun h21=>?_)
 ·have h21':n.kind=21:=by simpa using h21
  have hT:stW n.kind n.name n.num (kidsW n.kids)=[n.name,[61]]++exprW (kidN n 0):=by unfold stW;rw [if_neg h31',if_neg h32',if_pos h21',eW_kid]<;>rfl
  rw [if_pos (by simp [isSt,h21']),hT] at hO
  rw [hT] at hst
  rw [hO] at hl ⊢
  have hfl:=lineT_flat ([n.name,[61]]++exprW (kidN n 0)++[[59]]) h
  have hwl:=lineT_len ([n.name,[61]]++exprW (kidN n 0)++[[59]]) h (okW_app hst (okW_one (by simp)))
  refine AK.mintB 0 0 2 (bx:=[[[adr 270 0 b,.buf 5 s 0,.sl [] (.tok 1),vi h]],[ncells n]]) (tk:=[s.length,0]) rfl rfl rfl rfl rfl rfl ?_
  refine AK.hc (τ':=[0,1]) [0] [0,1] ((put2 n.name [61]).n b s h) ?_
  refine AK.pc q0 ?_
  refine AK.hc (τ':=[0,1]) [0] [0,1] (e0 (by omega) b s ([n.name,[61]]) h (by simp<;>omega)) ?_
  refine AK.hc (τ':=[0,1]) [0] [0,1] (put1 [59] b s ([n.name,[61]]++exprW (kidN n 0)) h (by simp<;>omega)) ?_
  refine AK.hc (τ':=[0]) [0] [0] (h_line b s ([n.name,[61]]++exprW (kidN n 0)++[[59]]) h (by omega) (by simp<;>omega) (by omega) (by omega) (okW_m (okW_app hst (okW_one (by simp))))) ?_
  exact AK.fb Tryz.func237 rfl rfl
 have h21':n.kind≠21:=by simpa using h21
 refine AK.if_ (fun h22=>?_) (fun h22=>?_)
 ·have h22':n.kind=22:=by simpa using h22
  have hT:stW n.kind n.name n.num (kidsW n.kids)=[n.name,[91]]++exprW (kidN n 0)++[[93],[61]]++exprW (kidN n 1):=by unfold stW;rw [if_neg h31',if_neg h32',if_neg h21',if_pos h22',eW_kid,eW_kid]<;>rfl
  rw [if_pos (by simp [isSt,h22']),hT] at hO
  rw [hT] at hst
  rw [hO] at hl ⊢
  have hfl:=lineT_flat ([n.name,[91]]++exprW (kidN n 0)++[[93],[61]]++exprW (kidN n 1)++[[59]]) h
  have hwl:=lineT_len ([n.name,[91]]++exprW (kidN n 0)++[[93],[61]]++exprW (kidN n 1)++[[59]]) h (okW_app hst (okW_one (by simp)))
  refine AK.mintB 0 0 2 (bx:=[[[adr 270 0 b,.buf 5 s 0,.sl [] (.tok 1),vi h]],[ncells n]]) (tk:=[s.length,0]) rfl rfl rfl rfl rfl rfl ?_
  refine AK.hc (τ':=[0,1]) [0] [0,1] ((put2 n.name [91]).n b s h) ?_
  refine AK.pc q0 ?_
  refine AK.hc (τ':=[0,1]) [0] [0,1] (e0 (by omega) b s ([n.name,[91]]) h (by simp<;>omega)) ?_
  refine AK.hc (τ':=[0,1]) [0] [0,1] (put2 [93] [61] b s ([n.name,[91]]++exprW (kidN n 0)) h (by simp<;>omega)) ?_
  refine AK.pc q1 ?_
  refine AK.hc (τ':=[0,1]) [0] [0,1] (e1 (by omega) b s ([n.name,[91]]++exprW (kidN n 0)++[[93],[61]]) h (by simp<;>omega)) ?_
  refine AK.hc (τ':=[0,1]) [0] [0,1] (put1 [59] b s ([n.name,[91]]++exprW (kidN n 0)++[[93],[61]]++exprW (kidN n 1)) h (by simp<;>omega)) ?_
  refine AK.hc (τ':=[0]) [0] [0] (h_line b s ([n.name,[91]]++exprW (kidN n 0)++[[93],[61]]++exprW (kidN n 1)++[[59]]) h (by omega) (by simp<;>omega) (by omega) (by omega) (okW_m (okW_app hst (okW_one (by simp))))) ?_
  exact AK.fb Tryz.func237 rfl rfl
 have h22':n.kind≠22:=by simpa using h22
 refine AK.if_ (fun h23=>?_) (fun h23=>?_)
 ·have h23':n.kind=23:=by simpa using h23
  have hT:stW n.kind n.name n.num (kidsW n.kids)=[wRead,n.name]:=by unfold stW;rw [if_neg h31',if_neg h32',if_neg h21',if_neg h22',if_pos h23']<;>rfl
  rw [if_pos (by simp [isSt,h23']),hT] at hO
  rw [hT] at hst
  rw [hO] at hl ⊢
  have hfl:=lineT_flat ([wRead,n.name]++[[59]]) h
  have hwl:=lineT_len ([wRead,n.name]++[[59]]) h (okW_app hst (okW_one (by simp)))
  refine AK.mintB 0 0 2 (bx:=[[[adr 270 0 b,.buf 5 s 0,.sl [] (.tok 1),vi h]],[ncells n]]) (tk:=[s.length,0]) rfl rfl rfl rfl rfl rfl ?_
  refine AK.hc (τ':=[0,1]) [0] [0,1] ((put2 wRead n.name).n b s h) ?_
  refine AK.hc (τ':=[0,1]) [0] [0,1] (put1 [59] b s ([wRead,n.name]) h (by simp<;>omega)) ?_
  refine AK.hc (τ':=[0]) [0] [0] (h_line b s ([wRead,n.name]++[[59]]) h (by omega) (by simp<;>omega) (by omega) (by omega) (okW_m (okW_app hst (okW_one (by simp))))) ?_
  exact AK.fb Tryz.func237 rfl rfl
 have h23':n.kind≠23:=by simpa using h23
 refine AK.if_ (fun h27=>?_) (fun h27=>?_)
 ·have h27':n.kind=27:=by simpa using h27
  have hT:stW n.kind n.name n.num (kidsW n.kids)=[wCheck]++exprW (kidN n 0):=by unfold stW;rw [if_neg h31',if_neg h32',if_neg h21',if_neg h22',if_neg h23',if_pos h27',eW_kid]<;>rfl
  rw [if_pos (by simp [isSt,h27']),hT] at hO
  rw [hT] at hst
  rw [hO] at hl ⊢
  have hfl:=lineT_flat ([wCheck]++exprW (kidN n 0)++[[59]]) h
  have hwl:=lineT_len ([wCheck]++exprW (kidN n 0)++[[59]]) h (okW_app hst (okW_one (by simp)))
  refine AK.mintB 0 0 2 (bx:=[[[adr 270 0 b,.buf 5 s 0,.sl [] (.tok 1),vi h]],[ncells n]]) (tk:=[s.length,0]) rfl rfl rfl rfl rfl rfl ?_
  refine AK.hc (τ':=[0,1]) [0] [0,1] ((put1 wCheck).n b s h) ?_
  refine AK.pc q0 ?_
  refine AK.hc (τ':=[0,1]) [0] [0,1] (e0 (by omega) b s ([wCheck]) h (by simp<;>omega)) ?_
  refine AK.hc (τ':=[0,1]) [0] [0,1] (put1 [59] b s ([wCheck]++exprW (kidN n 0)) h (by simp<;>omega)) ?_
  refine AK.hc (τ':=[0]) [0] [0] (h_line b s ([wCheck]++exprW (kidN n 0)++[[59]]) h (by omega) (by simp<;>omega) (by omega) (by omega) (okW_m (okW_app hst (okW_one (by simp))))) ?_
  exact AK.fb Tryz.func237 rfl rfl
 have h27':n.kind≠27:=by simpa using h27
 refine AK.if_ (fun h28=>?_) (fun h28=>?_)
 ·have h28':n.kind=28:=by simpa using h28
  have hT:stW n.kind n.name n.num (kidsW n.kids)=[wSkip]:=by unfold stW;rw [if_neg h31',if_neg h32',if_neg h21',if_neg h22',if_neg h23',if_neg h27',if_pos h28']<;>rfl
  rw [if_pos (by simp [isSt,h28']),hT] at hO
  rw [hT] at hst
  rw [hO] at hl ⊢
  have hfl:=lineT_flat ([wSkip]++[[59]]) h
  have hwl:=lineT_len ([wSkip]++[[59]]) h (okW_app hst (okW_one (by simp)))
  refine AK.mintB 0 0 2 (bx:=[[[adr 270 0 b,.buf 5 s 0,.sl [] (.tok 1),vi h]],[ncells n]]) (tk:=[s.length,0]) rfl rfl rfl rfl rfl rfl ?_
  refine AK.hc (τ':=[0,1]) [0] [0,1] ((put1 wSkip).n b s h) ?_
  refine AK.hc (τ':=[0,1]) [0] [0,1] (put1 [59] b s ([wSkip]) h (by simp<;>omega)) ?_
  refine AK.hc (τ':=[0]) [0] [0] (h_line b s ([wSkip]++[[59]]) h (by omega) (by simp<;>omega) (by omega) (by omega) (okW_m (okW_app hst (okW_one (by simp))))) ?_
  exact AK.fb Tryz.func237 rfl rfl
 have h28':n.kind≠28:=by simpa using h28
 refine AK.if_ (fun h29=>?_) (fun h29=>?_)
 ·have h29':n.kind=29:=by simpa using h29
  have hT:stW n.kind n.name n.num (kidsW n.kids)=[wStop]:=by unfold stW;rw [if_neg h31',if_neg h32',if_neg h21',if_neg h22',if_neg h23',if_neg h27',if_neg h28']<;>rfl
  rw [if_pos (by simp [isSt,h29']),hT] at hO
  rw [hT] at hst
  rw [hO] at hl ⊢
  have hfl:=lineT_flat ([wStop]++[[59]]) h
  have hwl:=lineT_len ([wStop]++[[59]]) h (okW_app hst (okW_one (by simp)))
  refine AK.mintB 0 0 2 (bx:=[[[adr 270 0 b,.buf 5 s 0,.sl [] (.tok 1),vi h]],[ncells n]]) (tk:=[s.length,0]) rfl rfl rfl rfl rfl rfl ?_
  refine AK.hc (τ':=[0,1]) [0] [0,1] ((put1 wStop).n b s h) ?_
  refine AK.hc (τ':=[0,1]) [0] [0,1] (put1 [59] b s ([wStop]) h (by simp<;>omega)) ?_
  refine AK.hc (τ':=[0]) [0] [0] (h_line b s ([wStop]++[[59]]) h (by omega) (by simp<;>omega) (by omega) (by omega) (okW_m (okW_app hst (okW_one (by simp))))) ?_
  exact AK.fb Tryz.func237 rfl rfl
 have h29':n.kind≠29:=by simpa using h29
 have hno:isSt n.kind=false:=by simp [isSt,h31',h32',h21',h22',h23',h27',h28',h29']
 rw [if_neg (by simp [hno])] at hO
 rw [hO] at hl ⊢
 simp only [List.length_append] at hl
 have hfl:=lineT_flat (cpW n.kind) h
 have hww:okW (cpW n.kind)∧(cpW n.kind).length≤1:=by
  unfold cpW;repeat' split
  all_goals exact ⟨fun w hw=>by simp at hw<;>(subst hw;simp),by simp⟩
 have hc:=h_compound n hp hsz hk b s h hd (by omega)
 refine AK.hc (hb:=bN_in b s h) (τ':=[0]) [0] [0] hc ?_
 rw [← List.append_assoc]
 refine AK.hc (τ':=[0]) [0] [0] (h_line (cpB n.kind b) (s++cpP n.kind n.name (kidsW n.kids) (kidsB n.kids h) h) (cpW n.kind) h (by omega) (by omega) (by omega) (by simp only [List.length_append];omega) (okW_m hww.1)) ?_
 exact AK.rb Tryz.func237 rfl rfl
theorem depth_nd0:HBk nd0:=h_block nd0 (fun y hy=>by cases hy) (by decide)
theorem h_stmts (n:Nd)(hp:PrN n)(hsz:countN n≤1000):HS n∧HBk n:=by
 induction n using Nd.ind with
 | h n ih =>
   have hcn:=countN_eq n
   have hk:∀ i,HBk (kidN n i):=fun i=>by
    rcases kidN_cases n i with h | h
    ·exact (ih _ h (hp.kid i) (by have:=countL_mem h;omega)).2
    ·rw [h];exact depth_nd0
   refine ⟨h_stmt n hp hsz hk,h_block n (fun y hy=>(ih y hy (hp.get.2.2.2 y hy) (by have:=countL_mem hy;omega)).1) (by have:=length_le_countL n.kids;omega)⟩
end Go.V
namespace Go.V
open Go
section
variable {X:Cx}{B:Bx}{E:Env}{S S':St}{w:World}{F:Frm}{a:Act}{N:Nat}{R:AE→St→Prop}{ops:Array Oper}{i:Nat}{o:Oper}{p q:Operand}
theorem grid_app {sz:Nat}{c1 c2:Array Value}{r1 r2:List (List AV)}(h1:Grid E w sz c1 r1)(h2:Grid E w sz c2 r2):Grid E w sz (c1++c2) (r1++r2):=by
 obtain ⟨s1,l1,e1⟩:=h1
 obtain ⟨s2,l2,e2⟩:=h2
 refine ⟨by simp [s1,s2,Nat.add_mul],fun r hr=>(List.mem_append.1 hr).elim (l1 r) (l2 r),fun k r j x v hk hj hv=>?_⟩
 rcases Nat.lt_or_ge k r1.length with h | h
 ·rw [List.getElem?_append_left h] at hk
  have hjs:j<sz:=by rw [← l1 r (List.mem_of_getElem? hk)];exact lt_of_get hj
  have:=row_in h hjs
  rw [Array.getElem?_append_left (by omega)] at hv
  exact e1 k r j x v hk hj hv
 ·rw [List.getElem?_append_right h] at hk
  have hle:r1.length*sz≤k*sz:=Nat.mul_le_mul_right _ h
  rw [Array.getElem?_append_right (by omega),s1] at hv
  exact e2 (k-r1.length) r j x v hk hj (by rw [← hv];congr 1;rw [Nat.sub_mul];omega)
theorem grid_take {sz:Nat}{c:Array Value}{rows:List (List AV)}(h:Grid E w sz c rows){n:Nat}(hn:n≤rows.length):Grid E w sz (c.toList.take (n*sz)).toArray (rows.take n):=by
 obtain ⟨s,l,e⟩:=h
 have hle:n*sz≤rows.length*sz:=Nat.mul_le_mul_right _ hn
 refine ⟨by simp [s],fun r hr=>l r (List.mem_of_mem_take hr),fun k r j x v hk hj hv=>?_⟩
 rw [List.getElem?_take] at hk
 split at hk
 ·refine e k r j x v hk hj ?_
  rw [List.getElem?_toArray,List.getElem?_take] at hv
  split at hv
  ·simpa using hv
  ·cases hv
 ·cases hk
theorem grid_drop {sz:Nat}{c:Array Value}{rows:List (List AV)}(h:Grid E w sz c rows)(n:Nat):Grid E w sz (c.toList.drop (n*sz)).toArray (rows.drop n):=by
 obtain ⟨s,l,e⟩:=h
 refine ⟨by simp [s,Nat.sub_mul],fun r hr=>l r (List.mem_of_mem_drop hr),fun k r j x v hk hj hv=>?_⟩
 rw [List.getElem?_drop] at hk
 refine e (n+k) r j x v hk hj ?_
 rw [List.getElem?_toArray,List.getElem?_drop] at hv
 rw [Nat.add_mul,Nat.add_assoc]
 simpa using hv
theorem grid_zeros {t:Nat}{y:Ty}(hy:X.ty t=some y)(hne:y.size≠0)(n:Nat):∃ z,(zeroValue t).run X.P w=.ok z w∧(∃ ti,X.P.info? t=some ti∧ti.zero=some z∧ti.size=y.size)∧(∀ v,v∈(Builtin.zeroCells z.cells n).toList→v.oneCell'=true∨True) ∧
 (Builtin.zeroCells z.cells n).size=n*y.size∧∀ (E:Env)(w:World),Grid E w y.size (Builtin.zeroCells z.cells n) (List.replicate n y.zero):=by
 obtain ⟨z,hz,hzc,hzl,ti,hi,hiz,his,hib⟩:=zero_run hy w
 have hzs:z.cells.size=y.size:=by rw [← hzl,← hzc];simp
 refine ⟨z,hz,⟨ti,hi,hiz,his⟩,fun v _=>.inr trivial,by simp [Builtin.zeroCells,hzs],fun E w=>?_⟩
 refine grid_zero hzc hzl _ (by simp [Builtin.zeroCells,hzs]) (fun i hi=>?_)
 have hm:i % y.size<z.cells.size:=by rw [hzs];exact Nat.mod_lt _ (Nat.pos_of_ne_zero hne)
 have hr0:(Array.range (n*y.size))[i]?=some i:=by simp [hi]
 simp only [Builtin.zeroCells]
 rw [Array.getElem?_map,hzs,hr0]
 simp only [Option.map_some]
 rw [getElem!_pos z.cells (i % y.size) hm,Array.getElem?_eq_getElem hm]
theorem Ndo.boxC {t:TypeId}{x:AV}{cs:List AV}(hc:cellsOf x=some cs:=by rfl)(ho:ops[i]?=some o:=by rfl)(hw:wantA ops F o=some true:=by rfl)(hop:o.op=.box t p:=by rfl)(hp:opr X F p=some x:=by rfl):Ndo X N ops i o F (.cptr cs) S S:=by
 intro F' E w a hl hI hF
 have hlo:=looks_of hl
 rw [hop] at hlo
 have r1:=opr_sound hI hF ((opr_congr (X:=X) (F:=F) (F':=F') (o:=p) fun s hs=>hlo s (by simp [Op.operands,hs])).trans hp)
 generalize hv:a.eval p=v at r1
 obtain ⟨h1,h2,_⟩:=cellsOf_sound r1 hc
 have ev:=Evol.push (E:=E) (w:=w) (w':=w.alloc (.cells v.cells t)) ⟨_,rfl⟩ rfl rfl rfl E.boxes.length E.toks.length
 have hI':=hI.push (w':=w.alloc (.cells v.cells t)) ⟨_,rfl⟩ rfl rfl rfl
 have hnew:(w.alloc (.cells v.cells t)).heap[w.heap.size]?=some (.cells v.cells t (0,0)):=by
  have:(w.alloc (.cells v.cells t)).heap=w.heap.push (.cells v.cells t (0,0)):=rfl
  rw [this];simp
 refine Does.val ho (wanted_of hF (by rw [wantA_congr hl];exact hw)) (v:=.pointer (some ⟨w.heap.size,0,none⟩)) (by simp [execOp,hop,Instr.box,hv,newVar,newRow]) (.inl rfl) ⟨E,hI',ev,?_⟩
 refine .cptr cs w.heap.size 0 (fun j=>v.cells.getD j default) (fun j _=>fresh_mt hI) (fun j hj=>?_) (fun j x hx=>?_)
 ·have:j<v.cells.size:=by omega
  rw [Nat.zero_add]
  simp only [World.cell?,hnew]
  simp [this,Array.getD]
 ·have:j<v.cells.size:=by have:=lt_of_get hx;omega
  exact (h2 j _ x (by simp [this,Array.getD]) hx).step ev
theorem AK.nilS {l:List Nat}{k:List Item}{t t' e:TypeId}{rows:List (List AV)}{sp:Sp}(hd:X.P.underlying t=some (.slice e))(hk:∀ c:Bool,(rows≠[]→c=false)→AK X B (.inRegion ops l::k) (putF o.dst (.val (.bool c)) F) S R)
 (ho:ops[i]?=some o:=by rfl)(hw:wantA ops F o=some true:=by rfl)(hop:o.op=.binOp .eql t p (.const (.slice none 0 0)) t':=by rfl)(hp:opr X F p=some (.sl rows sp):=by rfl)(hdst:dstOk B.fn.ntmps o.dst=true:=by rfl) :
 AK X B (.inRegion ops (i::l)::k) F S R:=by
 intro E w a b cs hI hF hn hm hb
 have r1:=opr_sound hI hF hp
 generalize hv:a.eval p=v at r1
 have hrun:∃ c:Bool,(rows≠[]→c=false)∧(execOp a.eval o).run X.P w=.ok (.value (.bool c)) w:=by
  cases r1 with
  | sl _ _ a' n cap b' o' sz vals hn' hx ha hsz hm hc hr hs hcap =>
    refine ⟨a'.isNone,fun hne=>?_,by simp [execOp,hop,hv,show a.eval (.const (.slice none 0 0))=.slice none 0 0 from rfl,eqGuard,binOp,run_equal_slice_nil w t e a' n cap hd]⟩
    rw [ha (by rw [← hn'];exact fun h=>hne (List.length_eq_zero_iff.1 h))];rfl
 obtain ⟨c,hc,hrun⟩:=hrun
 have hdo:Does X ops i a w fun v w'=>∃ E',Inv X E' S w'∧Evol E w E' w' E.boxes.length E.toks.length∧Rel E' w' v (.val (.bool c)) :=
  Does.val ho (wanted_of hF hw) hrun (.inl rfl) ⟨E,hI,Evol.refl _ _ _ _,.val _⟩
 have nt:E.toks.length=S.toks.length:=by rw [← hI.nt];simp
 obtain ⟨v',w',⟨E',h1,h2,h3⟩,h4⟩:=hdo b k cs l
 have hF':=(hF.step h2).putF hdst h3
 have h4':=h4
 rw [ho] at h4'
 exact Fin.from h4' (h2.weaken (by rw [hI.nb];exact hn) (by omega)) (hk c hc E' w' _ b cs h1 hF' hn hm hb)
theorem AK.cloneB {l:List Nat}{k:List Item}{c:Call}{tt tx e e':Nat}{y yx ye:Ty}{new:List (List AV)}{sp:Sp}(hk:∀ cc:Nat,AK X B (.inRegion ops l::k) (putF o.dst (.bsl S.boxes.length new.length) F) ⟨S.boxes++[new++List.replicate cc ye.zero],S.toks⟩ R)
 (hl':∀ r,r∈new→r.length=ye.size)(hc:∀ r,r∈new→∀ x,x∈r→cellish x=true)(hne:new≠[])(hb:new.length≤100000000000)
 (ho:ops[i]?=some o:=by rfl)(hw:wantA ops F o=some true:=by rfl)(hop:o.op=.call c:=by rfl)(hcal:c.callee=.builtin .append:=by rfl)(hargs:c.args.toList=[p,q]:=by rfl)(htys:c.argTypes.toList=[tt,tx]:=by rfl)
 (hp:opr X F p=some (.sl [] .tight):=by rfl)(hq:opr X F q=some (.sl new sp):=by rfl)(hy:X.ty tt=some y:=by rfl)(hyk:y.k=.slc e:=by rfl)(hye:X.ty e=some ye:=by rfl)(hyx:X.ty tx=some yx:=by rfl)(hyxk:yx.k=.slc e':=by rfl)
 (hdst:dstOk B.fn.ntmps o.dst=true:=by rfl):AK X B (.inRegion ops (i::l)::k) F S R:=by
 intro E w a b cs hI hF hn hm hb'
 obtain ⟨callee,args,argTypes⟩:=c
 simp only at hcal hargs htys
 subst hcal
 have ha:args=#[p,q]:=by rw [← Array.toList_inj];exact hargs
 have ht:argTypes=#[tt,tx]:=by rw [← Array.toList_inj];exact htys
 subst ha;subst ht
 have r1:=opr_sound hI hF hp
 have r2:=opr_sound hI hF hq
 obtain ⟨d1,hd1,hk1⟩:=(X.ty_ok tt y hy).agg
 simp only [hyk] at hk1
 obtain ⟨rfl,ye',hye',hne0⟩:=hk1
 rw [hye] at hye';cases hye'
 obtain ⟨d2,hd2,hk2⟩:=(X.ty_ok tx yx hyx).agg
 simp only [hyxk] at hk2
 obtain ⟨rfl,_⟩:=hk2
 obtain ⟨ti,z,hi,hsz,hby,hzv,hzc,hzl,_⟩:=(X.ty_ok e ye hye).info
 have hnew:0<new.length:=List.length_pos_iff.2 hne
 obtain ⟨vals2,hsrc,hr2⟩:=src_of hd2 r2 hl' hc hne
 rw [← hsz] at hsrc
 generalize hu:a.eval p=u at r1
 generalize hv:a.eval q=v at hsrc
 have key:∃ cc w',(Builtin.append_ #[tt,tx] o.type #[u,v]).run X.P w=.ok (.slice (some ⟨w.heap.size,0,none⟩) new.length cc) w'∧new.length≤cc ∧
  w'.heap=w.heap.push (.cells ((flatv new.length ti.size vals2).toArray++Builtin.zeroCells z.cells (cc-new.length)) e (0,0))∧w'.os=w.os∧w'.tape=w.tape∧w'.output=w.output:=by
  cases r1 with
  | sl _ _ a' n cap bb oo sz vals hn' hx ha hszr hm hcl hr hs hcap =>
    have hn0:n=0:=by simpa using hn'.symm
    subst hn0
    have hcap0:cap=0:=hs
    subst hcap0
    have hold:(Builtin.firstCells ti.size 0 (.slice a' 0 0)).run X.P w.drew=.ok ([]:List Value).toArray w.drew:=by
     cases a' with
     | none=>exact run_firstCells_none _ _ _ _ _
     | some a0=>exact run_firstCells_some _ _ _ _ _ _ _ (by simp) (fun j v hj=>by simp at hj)
    have hby':(0+new.length)*ti.bytes≤140737488355328:=Nat.le_trans (Nat.mul_le_mul_left _ hby) (by omega)
    have hrun:=run_append_grow_src w tt tx o.type e ti z hd1 hi hzv a' 0 0 [] hold v new.length _ hsrc (by omega) (by omega) (growslice_fits (by omega) hby')
    have hcc:=grownCap_ge w (0+new.length) 0 e
    simp only [Nat.zero_add,List.nil_append] at hrun hcc
    exact ⟨_,_,hrun,hcc,rfl,rfl,rfl,rfl⟩
 obtain ⟨cc,w',hrun,hcc,hheap,hos,htp,hout⟩:=key
 obtain ⟨z',hz',⟨ti',hi',hiz',his'⟩,_,hzz,hgz⟩:=grid_zeros (X:=X) (w:=w) hye hne0 (cc-new.length)
 rw [hi] at hi';cases hi'
 rw [hzv] at hiz';cases hiz'
 have hg1:Grid E w ye.size (flatv new.length ti.size vals2).toArray new:=by
  refine ⟨by simp [flatv_len,hsz],hl',fun kk r j x v' hkk hj hv'=>?_⟩
  have h1:=lt_of_get hkk
  have h2:j<ye.size:=by rw [← hl' r (List.mem_of_getElem? hkk)];exact lt_of_get hj
  rw [List.getElem?_toArray,hsz,flatv_get h1 h2] at hv'
  cases hv'
  exact hr2 kk j r x hkk hj
 have hg:=grid_app hg1 (hgz E w)
 obtain ⟨ev,hI'⟩:=hI.newBox (w':=w') hheap hos htp hout hg.1 hg.2.1 hg.2.2
 have hnb:E.boxes.length=S.boxes.length:=hI.nb
 have hrel:Rel (E.addBox w.heap.size ye.size) w' (.slice (some ⟨w.heap.size,0,none⟩) new.length cc) (.bsl S.boxes.length new.length) :=
  .bsl _ _ ye.size _ _ (by rw [← hnb];exact getElem?_snoc_new _ _) hcc
 have hdo:Does X ops i a w fun v w'=>∃ E',Inv X E' ⟨S.boxes++[new++List.replicate (cc-new.length) ye.zero],S.toks⟩ w'∧Evol E w E' w' E.boxes.length E.toks.length∧Rel E' w' v (.bsl S.boxes.length new.length) :=
  Does.val ho (wanted_of hF hw) (by simp [execOp,hop,resolve,invoke,builtin,hu,hv,hrun]) (.inl rfl) ⟨_,hI',ev,hrel⟩
 have nt:E.toks.length=S.toks.length:=by rw [← hI.nt];simp
 obtain ⟨v',w2,⟨E',h1,h2,h3⟩,h4⟩:=hdo b k cs l
 have hF':=(hF.step h2).putF hdst h3
 have h4':=h4
 rw [ho] at h4'
 exact Fin.from h4' (h2.weaken (by rw [hI.nb];exact hn) (by omega)) (hk (cc-new.length) E' w2 _ b cs h1 hF' (by simp;omega) hm hb')
theorem Ndo.headB {t e b n:Nat}{hi:Option Operand}{h:Int}{y ye:Ty}(h0:0≤h)(h2:h≤(n:Int))(ho:ops[i]?=some o:=by rfl)(hw:wantA ops F o=some true:=by rfl)(hop:o.op=.slice t p none hi none:=by rfl)(hp:opr X F p=some (.bsl b n):=by rfl)
 (hhi:bndI X F hi (n:Int)=some h:=by rfl)(hy:X.ty t=some y:=by rfl)(hyk:y.k=.slc e:=by rfl)(hye:X.ty e=some ye:=by rfl):Ndo X N ops i o F (.bsl b h.toNat) S S:=by
 refine Ndo.val ho hw fun F' E w a hc hI hF=>?_
 rw [hop] at hc
 have r1:=opr_sound hI hF ((hc p (by simp [Op.operands])).trans hp)
 have b2:=bnd_val hI hF (show bndI X F' hi (n:Int)=some h by rw [bnd_congr fun x hx=>hc x (by subst hx;simp [Op.operands])];exact hhi)
 obtain ⟨d,hdd,hd2⟩:=(X.ty_ok t y hy).agg
 simp only [hyk] at hd2
 obtain ⟨rfl,ye',hye',hne0⟩:=hd2
 rw [hye] at hye';cases hye'
 generalize hu:a.eval p=u at r1
 cases r1 with
 | bsl _ blk sz _ cap hB hcap =>
   have hb:=sliceBounds_run (X:=X) (isS:=true) (len:=n) (cap:=cap) (lo:=none) (hi:=hi.map a.eval) (l:=0) (h:=h) (.inl ⟨rfl,rfl⟩)
    (by rcases b2 with ⟨rfl,rfl⟩ | ⟨x,k,rfl,hx⟩
        ·exact .inl ⟨rfl,rfl⟩
        ·exact .inr ⟨k,by simp [hx]⟩) (Int.le_refl 0) h0 h2 hcap w
   refine ⟨.slice (some ⟨blk,0,none⟩) h.toNat cap,?_,.bsl b blk sz h.toNat cap hB (by omega)⟩
   simp [execOp,hop,hu,Instr.sliceAt,Instr.slice,run_underlying hdd,hb,sizeOf_run hye,addr_add]
theorem Ndo.tailB {t e b n:Nat}{lo:Operand}{ik:IntKind}{l:Nat}{y ye:Ty}(h2:l<n)(ho:ops[i]?=some o:=by rfl)(hw:wantA ops F o=some true:=by rfl)(hop:o.op=.slice t p (some lo) none none:=by rfl)(hp:opr X F p=some (.bsl b n):=by rfl)
 (hlo:opr X F lo=some (.val (.int ik l)):=by rfl)(hy:X.ty t=some y:=by rfl)(hyk:y.k=.slc e:=by rfl)(hye:X.ty e=some ye:=by rfl){rows:List (List AV)}(hS:S.boxes[b]?=some rows)(hrl:∀ r,r∈rows→r.length=ye.size)(hne:rows≠[]):Ndo X N ops i o F (.bst b l (n-l)) S S:=by
 refine Ndo.val ho hw fun F' E w a hc hI hF=>?_
 rw [hop] at hc
 have r1:=opr_sound hI hF ((hc p (by simp [Op.operands])).trans hp)
 have r2:=opr_sound hI hF ((hc lo (by simp [Op.operands])).trans hlo)
 obtain ⟨d,hdd,hd2⟩:=(X.ty_ok t y hy).agg
 simp only [hyk] at hd2
 obtain ⟨rfl,ye',hye',hne0⟩:=hd2
 rw [hye] at hye';cases hye'
 generalize hu:a.eval p=u at r1
 generalize hv:a.eval lo=v at r2
 cases r2
 cases r1 with
 | bsl _ blk sz _ cap hB hcap =>
   obtain ⟨arr,te,hh,hs,hlen,hrel⟩:=hI.box b blk sz rows hB hS
   have hsz:sz=ye.size:=by
    cases rows with
    | nil=>exact absurd rfl hne
    | cons r rs=>rw [← hlen r (by simp),hrl r (by simp)]
   subst hsz
   have hb:=sliceBounds_run (X:=X) (isS:=true) (len:=n) (cap:=cap) (lo:=some (.int ik l)) (hi:=none) (l:=(l:Int)) (h:=(n:Int)) (.inr ⟨ik,rfl⟩) (.inl ⟨rfl,rfl⟩) (by omega) (by omega) (Int.le_refl _) hcap w
   simp only [Int.toNat_natCast] at hb
   refine ⟨.slice (some ⟨blk,l*ye.size,none⟩) (n-l) (cap-l),?_,.bst b blk ye.size l (n-l) (cap-l) hB⟩
   have hcl:¬ cap=l:=by omega
   simp [execOp,hop,hu,hv,Instr.sliceAt,Instr.slice,run_underlying hdd,hb,sizeOf_run hye,addr_add,hcl]
theorem Ndo.clearB {c:Call}{tt e b s n:Nat}{y ye:Ty}{rows:List (List AV)}{bx:List (List (List AV))}(hn:0<n)(hS:S.boxes[b]?=some rows)(hin:s+n≤rows.length)(hrl:∀ r,r∈rows→r.length=ye.size)
 (hbx:S.boxes.set b (rows.take s++(List.replicate n ye.zero++rows.drop (s+n)))=bx)(hz1:∀ x,x∈ye.zero→cellish x=true)(ho:ops[i]?=some o:=by rfl)(hw:wantA ops F o=some true:=by rfl)(hop:o.op=.call c:=by rfl)(hcal:c.callee=.builtin .clear:=by rfl)(hargs:c.args=#[p]:=by rfl)
 (htys:c.argTypes=#[tt]:=by rfl)(hp:opr X F p=some (.bst b s n):=by rfl)(hy:X.ty tt=some y:=by rfl)(hyk:y.k=.slc e:=by rfl)(hye:X.ty e=some ye:=by rfl):Ndo X N ops i o F (.val (.tuple #[])) S ⟨bx,S.toks⟩:=by
 subst hbx
 intro F' E w a hlk hI hF
 obtain ⟨callee,args,argTypes⟩:=c
 simp only at hcal hargs htys
 subst hcal;subst hargs;subst htys
 have hlo:=looks_of hlk
 rw [hop] at hlo
 have r1:=opr_sound hI hF ((opr_congr (X:=X) (F:=F) (F':=F') (o:=p) fun s hs=>hlo s (by simp [Op.operands,Call.operands,hs])).trans hp)
 obtain ⟨d1,hd1,hk1⟩:=(X.ty_ok tt y hy).agg
 simp only [hyk] at hk1
 obtain ⟨rfl,ye',hye',hne0⟩:=hk1
 rw [hye] at hye';cases hye'
 generalize hu:a.eval p=u at r1
 cases r1 with
 | bst _ blk sz _ _ cap hB =>
   obtain ⟨arr,te,hh,hs,hlen,hrel⟩:=hI.box b blk sz rows hB hS
   obtain ⟨r0,hr0⟩:=lget_of_lt rows (i:=0) (by omega)
   have hsz:sz=ye.size:=by rw [← hlen r0 (List.mem_of_getElem? hr0),hrl r0 (List.mem_of_getElem? hr0)]
   subst hsz
   obtain ⟨z,hz,_,_,hzz,hgz⟩:=grid_zeros (X:=X) (w:=w) hye hne0 n
   have hg:Grid E w ye.size arr rows:=⟨hs,hlen,hrel⟩
   have hg2:=grid_app (grid_take hg (n:=s) (by omega)) (grid_app (hgz E w) (grid_drop hg (s+n)))
   have hfit:s*ye.size+(Builtin.zeroCells z.cells n).toList.length≤arr.size:=by
    rw [Array.length_toList,hzz,← Nat.add_mul,hs];exact Nat.mul_le_mul_right _ hin
   have hone:∀ v,v∈(Builtin.zeroCells z.cells n).toList→v.oneCell'=true:=fun v hv=>by
    obtain ⟨q,hq⟩:=lget_of_mem hv
    have hq':(Builtin.zeroCells z.cells n)[q]?=some v:=by simpa using hq
    have hlt:q<n*ye.size:=by have:=lt_of_get hq;rw [Array.length_toList,hzz] at this;exact this
    have hpos:0<ye.size:=Nat.pos_of_ne_zero hne0
    have hk:q / ye.size<n:=Nat.div_lt_of_lt_mul (by rw [Nat.mul_comm];exact hlt)
    have hzl:=hg2.2.1 ye.zero (List.mem_append_right _ (List.mem_append_left _ (List.mem_replicate.2 ⟨by omega,rfl⟩)))
    obtain ⟨x,hx⟩:=lget_of_lt ye.zero (i:=q % ye.size) (by rw [hzl];exact Nat.mod_lt _ hpos)
    have:=(hgz E w).2.2 (q / ye.size) ye.zero (q % ye.size) x v (by simp [hk]) hx (by rw [Nat.mul_comm,Nat.div_add_mod];exact hq')
    exact one_of_cellish this (hz1 x (List.mem_of_getElem? hx))
   have hst:=run_storeCells_at X.P blk (s*ye.size) te (Builtin.zeroCells z.cells n).toList 0 arr w hh (by simpa using hfit) hone
   simp only [Nat.add_zero] at hst
   have hnn:¬ n=0:=by omega
   have hrun:(Builtin.clear_ #[tt] o.type #[.slice (some ⟨blk,s*ye.size,none⟩) n cap]).run X.P w=.ok (.tuple #[]) (w.setRow blk (arr.toList.take (s*ye.size)++(Builtin.zeroCells z.cells n).toList++arr.toList.drop (s*ye.size+(Builtin.zeroCells z.cells n).toList.length)).toArray):=by
    obtain ⟨m,rfl⟩:∃ m,n=m+1:=⟨n-1,by omega⟩
    simp [Builtin.clear_,run_underlying hd1,hz,hst]
   have harr:(arr.toList.take (s*ye.size)++(Builtin.zeroCells z.cells n).toList++arr.toList.drop (s*ye.size+(Builtin.zeroCells z.cells n).toList.length)).toArray =
    (arr.toList.take (s*ye.size)).toArray++(Builtin.zeroCells z.cells n++(arr.toList.drop ((s+n)*ye.size)).toArray):=by
    rw [← Array.toList_inj]
    simp only [Array.toList_append,List.append_assoc]
    rw [Array.length_toList,hzz,← Nat.add_mul]
   rw [harr] at hrun
   obtain ⟨ev,hI'⟩:=hI.setBox hB hS hh rfl hg2.1 hg2.2.1 hg2.2.2
   exact Does.val ho (wanted_of hF (by rw [wantA_congr hlk];exact hw)) (by simp [execOp,hop,resolve,invoke,builtin,hu,hrun]) (.inl rfl) ⟨E,hI',ev,.val _⟩
theorem putK_all {R:Type}:∀ (l xs:List AV)(k:List AV→Option R),l.length=xs.length→putK l 0 xs k=k xs
 | [],[],k,_=>by simp [putK]
 | a::l,x::xs,k,h=>by simp only [putK];exact putK_all l xs _ (by simpa using h)
 | [],_::_,k,h=>by simp at h
 | _::_,[],k,h=>by simp at h
theorem setK_at {α R:Type}:∀ (l:List α)(n:Nat)(x:α)(k:List α→Option R),n<l.length→setK l n x k=k (l.set n x)
 | a::l,0,x,k,_=>by simp [setK]
 | a::l,n+1,x,k,h=>by simp only [setK];rw [setK_at l n x _ (by simpa using h)];rfl
 | [],n,x,k,h=>by simp at h
theorem storeA_row {b r sz:Nat}{x:AV}{xs cs:List AV}{rows:List (List AV)}(hb:S.boxes[b]?=some rows)(hr:rows[r]?=some cs)(hc:cellsOf x=some xs)(hl:xs.length=sz)(hl':cs.length=sz) :
 storeA S sz (.ptr b r 0) x=some ⟨S.boxes.set b (rows.set r xs),S.toks⟩:=by
 obtain ⟨bx,tk⟩:=S
 simp only at hb
 simp only [storeA,hc]
 rw [show Nat.beq xs.length sz=true by rw [hl];exact Nat.beq_refl sz]
 simp only [getN_eq,hb,hr]
 rw [putK_all _ _ _ (by omega),setK_at _ _ _ _ (lt_of_get hr),setK_at _ _ _ _ (lt_of_get hb)]
theorem takeK_all {R:Type}:∀ (l:List AV)(k:List AV→Option R),takeK l.length l k=k l
 | [],k=>by simp [takeK]
 | a::l,k=>by simp only [List.length_cons,takeK];rw [takeK_all l]
theorem loadA_row {b r sz:Nat}{g:Bool}{cs:List AV}{rows:List (List AV)}(hb:S.boxes[b]?=some rows)(hr:rows[r]?=some cs)(hl:cs.length=sz):loadA S sz g (.ptr b r 0)=finA g cs:=by
 subst hl
 simp only [loadA,getN_eq,hb,hr,dropK]
 rw [takeK_all]
theorem Ndo.loadB {t b r:Nat}{y:Ty}{cs:List AV}{rows:List (List AV)}{x:AV}(hb:S.boxes[b]?=some rows)(hr:rows[r]?=some cs)(hl:cs.length=y.size)(ho:ops[i]?=some o:=by rfl)(hw:wantA ops F o=some true:=by rfl)(hop:o.op=.load t p:=by rfl)
 (hp:opr X F p=some (.ptr b r 0):=by rfl)(hy:X.ty t=some y:=by rfl)(hx:finA (isAggK y.k) cs=some x:=by rfl):Ndo X N ops i o F x S S:=by
 refine Ndo.ev ho hw ?_
 rw [hop]
 simp only [evalR,sizeT,hy,hp]
 rw [loadA_row hb hr hl];exact hx
end
end Go.V
namespace Go.V
open Go Go.Proofs
def idxP (p:Nd→Bool):Nat→List Nd→Int
 | _,[]=>-1
 | i,x::l=>if p x then i else idxP p (i+1) l
theorem idxP_any (p:Nd→Bool):∀ (l:List Nd)(i:Nat),decide (idxP p i l≥0)=l.any p
 | [],i=>by simp [idxP]
 | x::l,i=>by
   have hb:(x::l).any p=(p x||l.any p):=rfl
   rw [hb,← idxP_any p l (i+1)]
   by_cases h:p x=true
   ·simp [idxP,h]
   ·have h':p x=false:=by simpa using h
    have:idxP p i (x::l)=idxP p (i+1) l:=by simp only [idxP];rw [if_neg h]
    rw [this,h'];rfl
theorem q_indexF (l:List Nd)(f:FuncId)(caps:List AV)(p:Nd→Bool)(hl:l.length≤1000000000) [hok:OKL 0 0 caps](hp:∀ x,x∈l→Pure X f (nd x::caps) (vb (p x)))(hcat:∀ xs,catA xs caps=some (xs++caps)) :
 Pure X 190 [.sl (nrows l) .no,.fn f caps] (vi (idxP p 0 l)):=by
 refine Pure.run Tryz.func190 ?_
 refine AK.while_ (ι:=Nat) 0 0 (fun i=>i≤l.length∧idxP p 0 l=idxP p i (l.drop i)) (fun i=>[(8,vi i),(7,vi l.length),(0,.sl (nrows l) .no),(1,.fn f caps)]) (fun _=>⟨[],[]⟩) (fun i=>l.length-i) ?_ 0 ⟨Nat.zero_le _,rfl⟩
  ⟨rfl,by rw [← nrows_len];rfl,rfl,rfl,trivial⟩ rfl rfl rfl rfl rfl (fun _=>inferInstance) (fun _=>inferInstance)
 intro i hi IH
 refine AK.ev 100 rfl ?_
 refine AK.if_ (fun h=>?_) (fun h=>?_)
 ·have hlt:i<l.length:=by have:=of_decide_eq_true h;omega
  obtain ⟨x,hx⟩:=lget_of_lt l hlt
  have hd:idxP p i (l.drop i)=if p x then (i:Int) else idxP p (i+1) (l.drop (i+1)):=by rw [drop_cons hx];rfl
  refine AK.ix i (by omega) (nrows_get hx) ?_
  refine AK.pc (hp x (List.mem_of_getElem? hx)) ?_ (hzs:=hcat _)
  refine AK.if_ (fun h2=>?_) (fun h2=>?_)
  ·refine AK.rt Tryz.func190 ?_
   have h3:p x=true:=h2
   rw [hi.2,hd,h3];rfl
  ·have h3:p x=false:=h2
   exact IH (i+1) ⟨hlt,by rw [hi.2,hd,h3];rfl⟩ (by omega) _ _ ⟨vint ((wrap_small (by omega) (by omega)).trans (by omega)),rfl,rfl,rfl,trivial⟩ rfl rfl rfl
 ·have:i=l.length:=by have:=of_decide_eq_false h;omega
  refine AK.rt Tryz.func190 ?_
  rw [hi.2,this,List.drop_length];rfl
theorem q_containsF (l:List Nd)(f:FuncId)(caps:List AV)(p:Nd→Bool)(hl:l.length≤1000000000) [hok:OKL 0 0 caps](hp:∀ x,x∈l→Pure X f (nd x::caps) (vb (p x)))(hcat:∀ xs,catA xs caps=some (xs++caps)) :
 Pure X 140 [.sl (nrows l) .no,.fn f caps] (vb (l.any p)):=by
 refine Pure.run Tryz.func140 ?_
 refine AK.pc (q_indexF l f caps p hl hp hcat) ?_
 refine AK.rt Tryz.func140 ?_
 rw [← idxP_any p l 0];rfl
theorem cat0 (xs:List AV):catA xs []=some (xs++[]):=by simp [catA]
theorem cat1 (x:AV)(xs:List AV):catA xs [x]=some (xs++[x]):=by simp [catA,catK_eq]
theorem longN_eq (n:Nd):longN n=(decide (8<n.name.length)||n.kids.any longN):=by
 have:∀ l:List Nd,longL l=l.any longN:=by
  intro l
  induction l with
  | nil=>rfl
  | cons x l ih=>simp [longL,ih]
 cases n;rw [longN,this];rfl
theorem q_long (n:Nd)(hn:countN n≤1000000000):Pure X 236 [nd n] (vb (longN n)):=by
 induction n using Nd.ind with
 | h n ih =>
   have hc:=countN_eq n
   have hll:=length_le_countL n.kids
   have hq:=q_containsF n.kids 236 [] longN (by omega) (fun x hx=>ih x hx (by have:=countL_mem hx;omega)) cat0
   rw [longN_eq]
   refine Pure.run Tryz.func236 ?_
   refine AK.gd (fun h=>?_) (fun h=>?_)
   ·have h':8<n.name.length:=by have:=of_decide_eq_true h;rw [sz_str] at this;omega
    refine AK.rz Tryz.func236 ?_
    rw [decide_eq_true h'];rfl
   ·have h':¬ 8<n.name.length:=by have:=of_decide_eq_false h;rw [sz_str] at this;omega
    refine AK.pc hq ?_
    refine AK.rz Tryz.func236 ?_
    rw [decide_eq_false h'];rfl
noncomputable def sameL (a b:List Nd):Bool:=@decide (a=b) (Classical.propDecidable _)
theorem sameL_iff {a b:List Nd}:sameL a b=true↔a=b:=by unfold sameL;exact @decide_eq_true_iff _ (Classical.propDecidable _)
theorem sameN_eq (a b:Nd):sameN a b=((a.kind==b.kind)&&((a.name==b.name)&&((a.num==b.num)&&sameL a.kids b.kids))):=by
 rw [Bool.eq_iff_iff]
 simp only [sameN_iff,Bool.and_eq_true,beq_iff_eq,sameL_iff]
 cases a;cases b
 simp
theorem q_equalF (a b:List Nd)(ha:a.length≤1000000000)(hb:b.length≤1000000000)(h:∀ x,x∈a→∀ y,y∈b→Pure X 239 [nd x,nd y] (vb (sameN x y))) :
 Pure X 270 [.sl (nrows a) .no,.sl (nrows b) .no,.fn 239 []] (vb (sameL a b)):=by
 refine Pure.run Tryz.func270 ?_
 refine AK.if_ (fun h1=>?_) (fun h1=>?_)
 ·have h1':a.length≠b.length:=by
   rw [nrows_len,nrows_len] at h1
   simp at h1;omega
  refine AK.rz Tryz.func270 ?_
  have:sameL a b=false:=by
   cases h:sameL a b with
   | false=>rfl
   | true=>rw [sameL_iff.1 h] at h1';exact absurd rfl h1'
  rw [this]
 have h1':a.length=b.length:=by
  rw [nrows_len,nrows_len] at h1
  simp at h1;omega
 refine AK.while_ (ι:=Nat) 0 0 (fun i=>i≤a.length∧a.take i=b.take i) (fun i=>[(17,vi i),(16,vi a.length),(15,.sl (nrows a) .no),(0,.sl (nrows a) .no),(1,.sl (nrows b) .no),(2,.fn 239 [])]) (fun _=>⟨[],[]⟩) (fun i=>a.length-i) ?_ 0
  ⟨Nat.zero_le _,by simp⟩ ⟨rfl,by rw [← nrows_len];rfl,rfl,rfl,rfl,rfl,trivial⟩ rfl rfl rfl rfl rfl (fun _=>inferInstance) (fun _=>inferInstance)
 intro i hi IH
 refine AK.ev 100 rfl ?_
 refine AK.if_ (fun h2=>?_) (fun h2=>?_)
 ·have hlt:i<a.length:=by have:=of_decide_eq_true h2;omega
  obtain ⟨x,hx⟩:=lget_of_lt a hlt
  obtain ⟨y,hy⟩:=lget_of_lt b (i:=i) (by omega)
  refine AK.ix i (by omega) (nrows_get hx) ?_
  refine AK.ix i (by omega) (nrows_get hy) ?_
  refine AK.pc (h x (List.mem_of_getElem? hx) y (List.mem_of_getElem? hy)) ?_
  refine AK.if_ (fun h3=>?_) (fun h3=>?_)
  ·have h3':sameN x y=false:=by have:(!sameN x y)=true:=h3;simpa using this
   refine AK.rz Tryz.func270 ?_
   have:sameL a b=false:=by
    cases h:sameL a b with
    | false=>rfl
    | true =>
      have:=sameL_iff.1 h
      subst this
      rw [hx] at hy;cases hy
      rw [sameN_iff.2 rfl] at h3';cases h3'
   rw [this]
  ·have h3':sameN x y=true:=by have:(!sameN x y)=false:=h3;simpa using this
   have:=sameN_iff.1 h3'
   subst this
   exact IH (i+1) ⟨hlt,by rw [List.take_add_one,List.take_add_one,hi.2,hx,hy]⟩ (by omega) _ _ ⟨vint ((wrap_small (by omega) (by omega)).trans (by omega)),rfl,rfl,rfl,rfl,rfl,trivial⟩ rfl rfl rfl
 ·have hie:i=a.length:=by have:=of_decide_eq_false h2;omega
  have he:=hi.2
  rw [hie] at he
  rw [List.take_length,h1',List.take_length] at he
  refine AK.rz Tryz.func270 ?_
  rw [sameL_iff.2 he]
theorem q_same (a b:Nd)(ha:countN a≤1000000000)(hb:countN b≤1000000000):Pure X 239 [nd a,nd b] (vb (sameN a b)):=by
 induction a using Nd.ind generalizing b with
 | h a ih =>
   have hca:=countN_eq a
   have hcb:=countN_eq b
   have hla:=length_le_countL a.kids
   have hlb:=length_le_countL b.kids
   have hq:=q_equalF a.kids b.kids (by omega) (by omega) fun x hx y hy=>ih x hx y (by have:=countL_mem hx;omega) (by have:=countL_mem hy;omega)
   rw [sameN_eq]
   refine Pure.run Tryz.func239 ?_
   refine AK.gd (fun h1=>?_) (fun h1=>?_)
   ·have h1':(a.kind==b.kind)=true:=h1
    rw [h1',Bool.true_and]
    refine AK.gd (fun h2=>?_) (fun h2=>?_)
    ·have h2':(a.name==b.name)=true:=h2
     rw [h2',Bool.true_and]
     refine AK.gd (fun h3=>?_) (fun h3=>?_)
     ·have h3':(a.num==b.num)=true:=h3
      rw [h3',Bool.true_and]
      refine AK.pc hq ?_
      exact AK.rz Tryz.func239 rfl
     ·have h3':(a.num==b.num)=false:=h3
      rw [h3']
      exact AK.rz Tryz.func239 rfl
    ·have h2':(a.name==b.name)=false:=h2
     rw [h2']
     refine AK.gn ?_
     exact AK.rz Tryz.func239 rfl
   ·have h1':(a.kind==b.kind)=false:=h1
    rw [h1']
    refine AK.gn ?_
    refine AK.gn ?_
    exact AK.rz Tryz.func239 rfl
end Go.V
