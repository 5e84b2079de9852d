/- A part of the proof of the claim that the last text states: no condition of its own. -/
import Derived.Test.YtojhghmilenfkaaGreatDoorQ9
import Derived.Lib.ItoaMem
set_option linter.unusedVariables false
set_option linter.unusedSimpArgs false
namespace Go.V
open Go Go.Proofs
def Sep:Ad→Prop
 |[]=>True
 |c::_=>(E4 c||digit c)=false
inductive Lex:List UInt8→List (List UInt8)→Prop where
 |nil:Lex [] []
 |blank (c:UInt8) (t:List UInt8) (ws:List (List UInt8)) (hc:c=32∨c=10) (h:Lex t ws):Lex (c::t) ws
 |wrd (w t:List UInt8) (ws:List (List UInt8)) (hk:Do w≠0) (he:Lx (w++t)=w.length) (h:Lex t ws):Lex (w++t) (w::ws)
theorem Wk:Do []=0:=by decide
theorem Ads{c:UInt8}{l:Ad}(h:Do (c::l)≠0):c≠32∧c≠10∧c≠35:=by
 have key:∀d:UInt8,d=32∨d=10∨d=35→Do (d::l)=0:=by
  intro d hd;have h1:has U7 (d::l)=false:=by rcases hd with rfl|rfl|rfl<;>simp[has,U7]
  have h2:nameS (d::l)=false:=by
   have:E4 d=false:=by rcases hd with rfl|rfl|rfl<;>decide
   simp[nameS,this]
  have h3:¬D8 (d::l)≥0:=by
   have:digit d=false:=by rcases hd with rfl|rfl|rfl<;>decide
   have h48:(d==48)=false:=by rcases hd with rfl|rfl|rfl<;>decide
   simp only[D8];split
   ·omega
   ·simp[h48,Rj,this]
  have h4:has Kp (d::l)=false:=by rcases hd with rfl|rfl|rfl<;>simp[has,Kp]
  simp[Do,h1,h2,h3,h4]
 refine⟨fun e=>h (key c (.inl e)),fun e=>h (key c (.inr (.inl e))),fun e=>h (key c (.inr (.inr e)))⟩
theorem Ar5{w t:Ad}(hk:Do w≠0):Cj false (w++t)=0:=by
 cases w with
 |nil=>exact absurd Wk hk
 |cons c l=>
  obtain⟨h1,h2,h3⟩:=Ads hk;simp[Cj,h1,h2,h3]
theorem A2u{s:Ad}{ws:List Ad}(h:Lex s ws):∀(f a:Nat)(out:List Wd),(s.drop (Cj false s)).length<f→(H6 f a (s.drop (Cj false s)) out).2.1=0 →
 (H6 f a (s.drop (Cj false s)) out).1.map Wd.text=out.map Wd.text++ws:=by
 induction h with
 |nil=>
  intro f a out hf h0;cases f with
  |zero=>simp at hf
  |succ f=>simp[Cj,H6]
 |blank c t ws hc h ih=>
  intro f a out hf h0;have e:(c::t).drop (Cj false (c::t))=t.drop (Cj false t):=by
   have:Cj false (c::t)=1+Cj false t:=by rcases hc with rfl|rfl<;>simp[Cj]
   rw[this,Nat.add_comm];rfl
  rw[e]at hf h0⊢;exact ih f a out hf h0
 |wrd w t ws hk he h ih=>
  intro f a out hf h0;rw[Ar5 hk,List.drop_zero]at hf h0⊢;cases f with
  |zero=>simp at hf
  |succ f=>
   cases w with
   |nil=>exact absurd Wk hk
   |cons c l=>
    have ht:((c::l)++t).take (Lx ((c::l)++t))=c::l:=by rw[he];exact List.take_left
    have hd:((c::l)++t).drop (Lx ((c::l)++t))=t:=by rw[he];exact List.drop_left
    have hd2:∀b,((c::l)++t).drop (Lx ((c::l)++t)+b)=t.drop b:=fun b=>by rw[←Aes,hd]
    rw[R1]at ht hd hd2 hf h0⊢;simp only[H6]at h0⊢;rw[ht,hd,hd2]at h0⊢;rw[if_neg (by simpa using hk)]at h0⊢;split at h0
    ·simp at h0
    ·rename_i hn;rw[if_neg hn];have:=ih f (a+Lx (c::(l++t))+Cj false t) (out++[⟨Do (c::l),c::l,a⟩]) (by simp at hf⊢;omega) h0;rw[this];simp
theorem Aq4{s:Ad}{ws:List Ad}(h:Lex s ws)(h0:(Da s).2.1=0):(Da s).1.map Wd.text=ws:=by
 unfold Da at h0⊢;split at h0
 ·simp at h0
 ·rename_i h1;rw[if_neg h1];have:=A2u h (s.length+1) (Cj false s) [] (by simp;omega) h0;simpa using this
theorem Abz{t:Ad}(ht:Sep t):∀w:Ad,Ru w=true→Hf (w++t)=w.length
 |[],_=>by
  cases t with
  |nil=>rfl
  |cons c t=>simp only[Sep]at ht;simp[Hf,ht]
 |c::l,h=>by
  simp only[Ru,T7,Du]at h;simp only[R1,Hf,h.1,if_true];rw[Abz ht l h.2];simp;omega
theorem Lex.al{w t:Ad}{ws:List Ad}(hw:Ru w=true)(hk:Do w≠0)(hs:Sep t)(h:Lex t ws):Lex (w++t) (w::ws):=by
 refine .wrd w t ws hk ?_ h;cases w with
 |nil=>exact absurd Wk hk
 |cons c l=>
  have hc:(E4 c||digit c)=true:=by simp only[Ru,T7,Du]at hw;exact hw.1
  rw[←Abz hs (c::l) hw];simp only[R1,Lx,hc,if_true]
abbrev X3:Ad:=[43,45,42,40,41,91,93,123,125,59,63]
theorem Ij{c:UInt8}{t:Ad}{ws:List Ad}(hc:c∈X3)(h:Lex t ws):Lex (c::t) ([c]::ws):=by
 have h1:∀c:UInt8,c∈X3→Do [c]≠0∧(E4 c||digit c)=false:=by decide
 obtain⟨h2,h3⟩:=h1 c hc;refine .wrd [c] t ws h2 ?_ h;show Lx (c::t)=1;cases t with
 |nil=>simp[Lx,h3]
 |cons d l=>
  have:has Kp [c,d]=false:=by
   simp at hc;rcases hc with rfl|rfl|rfl|rfl|rfl|rfl|rfl|rfl|rfl|rfl|rfl<;>simp[has,Kp]
  simp[Lx,h3,this]
abbrev O9:List Ad:=[[60],[60,61],[62],[62,61],[61,61],[33,61],[61]]
theorem Alw{w t:Ad}{ws:List Ad}(hw:w∈O9)(h:Lex t ws):Lex (w++32::t) (w::ws):=by
 have h1:∀w,w∈O9→Do w≠0:=by decide
 refine .wrd w (32::t) ws (h1 w hw) ?_ (.blank 32 t ws (.inl rfl) h);simp at hw;rcases hw with rfl|rfl|rfl|rfl|rfl|rfl|rfl<;>rfl
theorem Na{s:Ad}(h:nameS s=true):Ru s=true∧Do s=1:=by
 cases s with
 |nil=>simp[nameS]at h
 |cons c l=>
  have h':=h;simp only[nameS,Du,Mz,N4]at h';refine⟨h'.2,?_⟩;simp[Do,h'.1.2,h]
theorem Lex.name{s t:Ad}{ws:List Ad}(hn:nameS s=true)(hs:Sep t)(h:Lex t ws):Lex (s++t) (s::ws):=
 .al (Na hn).1 (by rw[(Na hn).2];decide) hs h
theorem Q6(n:Nat)(h:n≤1000000):Ru (Ms n)=true∧Do (Ms n)=2:=by
 have hd:=Uu n;have hp:=Aht n;have hN:=Qc n h;generalize Ms n=l at hd hp hN;cases l with
 |nil=>simp at hp
 |cons c l=>
  have hd':=hd;simp only[Ut,T7,Du,zzq32]at hd';have hdc:=Lk hd'.1;have hlc:E4 c=false:=by simp[E4,A8];omega
  refine⟨?_,?_⟩
  ·simp only[Ru,zzq32,My];intro x hx
   right
   rcases zzq8.1 hx with rfl|hx
   ·exact hd'.1
   ·exact hd'.2 x hx
  ·have h1:has U7 (c::l)=false:=by
    simp only[has,List.any_eq_false];intro k hk he;have he:=zzq34.1 he;have:∀k,k∈U7→∀d l',k=d::l'→97≤d.toNat:=by
     intro k hk d l' e;simp only[U7,zzq8,Xh,or_false]at hk;rcases hk with rfl|rfl|rfl|rfl|rfl|rfl|rfl|rfl|rfl|rfl|rfl|rfl|rfl<;>(injection e with e1 e2;subst e1;decide)
    have:=this k hk c l he;omega
   have h2:nameS (c::l)=false:=by simp[nameS,hlc]
   simp[Do,h1,h2,hN]
theorem Lex.num{n:Nat}{t:Ad}{ws:List Ad}(hn:n≤1000000)(hs:Sep t)(h:Lex t ws):Lex (Ms n++t) (Ms n::ws):=
 .al (Q6 n hn).1 (by rw[(Q6 n hn).2];decide) hs h
theorem Lex.key{s t:Ad}{ws:List Ad}(hn:s∈U7)(hs:Sep t)(h:Lex t ws):Lex (s++t) (s::ws):=by
 have:∀s,s∈U7→Ru s=true∧Do s≠0:=by decide
 exact .al (this s hn).1 (this s hn).2 hs h
theorem Lex.sp{t:Ad}{ws:List Ad}(h:Lex t ws):Lex (32::t) ws:=.blank 32 t ws (.inl rfl) h
theorem Ul{t:Ad}{ws:List Ad}(h:Lex t ws):Lex (10::t) ws:=.blank 10 t ws (.inr rfl) h
def J7(l:Int)(k:Int)(w:List Ad):List Ad:=if Mp k<l then[[40]]++w++[[41]]else w
def Dz:Nd→List Ad
 |.mk k s m []=>if k=1 then[Ms m.toNat]else if k=4 then[[108,101,110],[40],s,[41]]else[s]
 |.mk k s _ [a]=>if k=3 then[s,[91]]++Dz a++[[93]]else[[45]]++J7 3 a.kind (Dz a)
 |.mk k _ _ (a::b::_)=>
  if k=6 then J7 1 a.kind (Dz a)++[[43]]++J7 2 b.kind (Dz b)
  else if k=7 then J7 1 a.kind (Dz a)++[[45]]++J7 2 b.kind (Dz b)
  else if k=8 then J7 2 a.kind (Dz a)++[[42]]++J7 3 b.kind (Dz b)
  else Dz a++[Vn k]++Dz b
def LexP(t:Ad)(ws:List Ad):Prop:=∀(u:Ad)(vs:List Ad),Sep u→Lex u vs→Lex (t++u) (ws++vs)
theorem LexP.par{l k:Int}{t:Ad}{ws:List Ad}(h:LexP t ws):LexP (Mt l k t) (J7 l k ws):=by
 unfold Mt J7;split
 ·intro u vs hs hu;have:=h (41::u) ([41]::vs) (by simp only[Sep];decide) (Ij (by simp) hu);have:=Ij (c:=40) (by simp) this;simpa using this
 ·exact h
theorem Mw(t:Ad):Sep (32::t):=by simp only[Sep];decide
theorem Amv{n:Nd}(h:FE n):LexP (B5 n) (Dz n):=by
 induction h with
 |num m h0 h1=>intro u vs hs hu;simp only[B5,Dz,if_true];exact Lex.num (by omega) hs hu
 |var s h=>intro u vs hs hu;simp only[B5,Dz,if_true];exact Lex.name h hs hu
 |cell s a h ha ih=>
  intro u vs hs hu;have h1:=ih (93::u) ([93]::vs) (by simp only[Sep];decide) (Ij (by simp) hu);have h2:=Lex.name h (by simp only[Sep];decide) (Ij (c:=91) (by simp) h1);simpa[B5,Dz]using h2
 |len s h=>
  intro u vs hs hu;have h1:=Lex.name h (by simp only[Sep];decide) (Ij (c:=41) (by simp) hu);have h2:=Lex.key (s:=[108,101,110]) (by decide) (by simp only[Sep];decide) (Ij (c:=40) (by simp) h1);simpa[B5,Dz]using h2
 |neg a ha ih=>
  intro u vs hs hu;have h1:=Ij (c:=45) (by simp) ((ih.par (l:=3) (k:=a.kind)) u vs hs hu);simpa[B5,Dz]using h1
 |two k a b hk ha hb iha ihb=>
  have go:∀(l l':Int) (c:UInt8),c∈X3→LexP (Mt l a.kind (B5 a)++[32,c,32]++Mt l' b.kind (B5 b)) (J7 l a.kind (Dz a)++[[c]]++J7 l' b.kind (Dz b)):=by
   intro l l' c hc u vs hs hu;have h1:=(ihb.par (l:=l') (k:=b.kind)) u vs hs hu;have h2:=(iha.par (l:=l) (k:=a.kind)) _ _ (Mw _) (Lex.sp (Ij hc (Lex.sp h1)));simpa using h2
  rcases hk with rfl|rfl|rfl
  ·simpa[B5,Dz]using go 1 2 43 (by simp)
  ·simpa[B5,Dz]using go 1 2 45 (by simp)
  ·simpa[B5,Dz]using go 2 3 42 (by simp)
theorem Aa6(k:Int):Vn k∈O9:=by
 unfold Vn;repeat' split
 all_goals simp
theorem A2t{n:Nd}(h:FC n):LexP (B5 n) (Dz n):=by
 cases h with
 |mk k a b h0 h1 ha hb=>
  intro u vs hs hu;have i1:=Amv hb u vs hs hu;have i2:=Amv ha _ _ (Mw _) (Lex.sp (Alw (Aa6 k) i1));have ne:¬k=6∧¬k=7∧¬k=8:=by omega
  simpa[B5,Dz,ne.1,ne.2.1,ne.2.2]using i2
mutual
def I0:Nd→List (List UInt8)
 |.mk k s m []=>
  if k=31 then[N3,s,[59]]
  else if k=32 then[Fx,s,[91],if 0≤m then Ms m.toNat else[63],[93],[59]]
  else if k=23 then[Ja,s,[59]]
  else if k=28 then[Jg,[59]]
  else[Jn,[59]]
 |.mk k s _ [a]=>if k=21 then[s,[61]]++Dz a++[[59]]else[Gl]++Dz a++[[59]]
 |.mk k s _ [a,.mk k' s' m' l]=>
  if k=22 then[s,[91]]++Dz a++[[93],[61]]++Dz (.mk k' s' m' l)++[[59]]
  else[G1]++Dz a++[[123]]++Jo l++[[125]]
 |.mk k s _ (a::.mk k' s' m' l'::.mk _ _ _ l::_)=>
  if k=26 then[Mr,s,J4]++Dz a++[wTo]++Dz (.mk k' s' m' l')++[[123]]++Jo l++[[125]]
  else[Wv]++Dz a++[[123]]++Jo l'++[[125]] ++
   (match l with
     |[]=>[]
     |_=>[I9,[123]]++Jo l++[[125]])
def Jo:List Nd→List (List UInt8)
 |[]=>[]
 |x::l=>I0 x++Jo l
end
theorem Lex.pad{t:Ad}{ws:List Ad}(h:Lex t ws):∀p:Ad,(∀c,c∈p→c=32)→Lex (p++t) ws
 |[],_=>h
 |c::p,hp=>by
  have:=hp c (by simp);subst this;exact .sp (Lex.pad h p fun c hc=>hp c (by simp[hc]))
def Aw3(t:Ad)(ws:List Ad):Prop:=∀(u:Ad)(vs:List Ad),Lex u vs→Lex (t++u) (ws++vs)
theorem O4{l:List Nd}{p:Ad}(h:∀x,x∈l→Aw3 (Cs x p) (I0 x)):Aw3 (I2 l p) (Jo l):=by
 induction l with
 |nil=>intro u vs hu;simpa[I2,Jo]using hu
 |cons x l ih=>
  intro u vs hu;have h1:=ih (fun y hy=>h y (by simp[hy])) u vs hu;have h2:=h x (by simp) _ _ h1;simpa[I2,Jo]using h2
theorem Aei(c:UInt8)(t:Ad)(h:(E4 c||digit c)=false:=by decide):Sep (c::t):=h
def padOk(p:Ad):Prop:=∀c,c∈p→c=32
theorem padOk.more{p:Ad}(h:padOk p):padOk (p++[32,32]):=by
 intro c hc;rcases zzq26.1 hc with hc|hc
 ·exact h c hc
 ·simp at hc;exact hc
theorem Ns{u:Ad}{vs:List Ad}(h:Lex u vs):Lex (59::10::u) ([59]::vs):=Ij (by simp) (Ul h)
theorem A6o{x:Nd}(h:FV x)(p:Ad)(hp:padOk p):Aw3 (Cs x p) (I0 x):=by
 cases h with
 |var s h=>
  intro u vs hu;have h1:=Lex.name h (Aei _ _) (Ns hu);have h2:=(Lex.key (s:=N3) (by decide) (Mw _) (Lex.sp h1)).pad p hp;simpa[Cs,I0]using h2
 |arr s m h h0 h1=>
  intro u vs hu;have key:∀(t w:Ad),(∀u vs,Sep u→Lex u vs→Lex (t++u) (w::vs))→Lex (p++Fx++32::(s++91::(t++93::59::10::u))) (Fx::s::[91]::w::[93]::[59]::vs):=by
   intro t w ht;have h1:=ht _ _ (Aei _ _) (Ij (c:=93) (by simp) (Ns hu));have h2:=Lex.name h (Aei _ _) (Ij (c:=91) (by simp) h1);have h3:=(Lex.key (s:=Fx) (by decide) (Mw _) (Lex.sp h2)).pad p hp;simpa using h3
  by_cases g:0≤m
  ·have:=key (Ms m.toNat) (Ms m.toNat) (fun u vs hs hu=>Lex.num (by omega) hs hu);simpa[Cs,I0,g]using this
  ·have:=key [63] [63] (fun u vs hs hu=>Ij (by simp) hu);simpa[Cs,I0,g]using this
theorem A6n{x:Nd}(h:FS x):∀p:Ad,padOk p→Aw3 (Cs x p) (I0 x):=by
 induction h with
 |set s a h ha=>
  intro p hp u vs hu;have h1:=Amv ha _ _ (Aei _ _) (Ns hu);have h2:=(Lex.name h (Mw _) (Lex.sp (Alw (w:=[61]) (by simp) h1))).pad p hp;simpa[Cs,I0]using h2
 |put s a b h ha hb=>
  intro p hp u vs hu;have h1:=Amv hb _ _ (Aei _ _) (Ns hu);have h2:=Amv ha _ _ (Aei _ _) (Ij (c:=93) (by simp) (Lex.sp (Alw (w:=[61]) (by simp) h1)));have h3:=(Lex.name h (Aei _ _) (Ij (c:=91) (by simp) h2)).pad p hp;obtain⟨k',s',m',l'⟩:=b;simpa[Cs,I0]using h3
 |read s h=>
  intro p hp u vs hu;have h1:=Lex.name h (Aei _ _) (Ns hu);have h2:=(Lex.key (s:=Ja) (by decide) (Mw _) (Lex.sp h1)).pad p hp;simpa[Cs,I0]using h2
 |ifs c l l' hc hl hl' ihl ihl'=>
  intro p hp u vs hu;have fin:Lex (125::10::u) ([125]::vs):=Ij (by simp) (Ul hu);have go:∀(t:Ad) (w:List Ad),Lex t w→Lex (p++Wv++32::(B5 c++32::123::10::(I2 l (p++[32,32])++(p++t)))) (Wv::(Dz c++[123]::(Jo l++w))):=by
   intro t w ht;have h1:=O4 (fun x hx=>ihl x hx (p++[32,32]) hp.more) _ _ (ht.pad p hp);have h2:=A2t hc _ _ (Mw _) (Lex.sp (Ij (c:=123) (by simp) (Ul h1)));have h3:=(Lex.key (s:=Wv) (by decide) (Mw _) (Lex.sp h2)).pad p hp;simpa using h3
  cases l' with
  |nil=>simpa[Cs,I0]using go _ _ fin
  |cons y l'=>
   have h1:=O4 (fun x hx=>ihl' x hx (p++[32,32]) hp.more) _ _ (fin.pad p hp);have h2:=Ij (c:=125) (by simp) (Lex.sp (Lex.key (s:=I9) (by decide) (Mw _) (Lex.sp (Ij (c:=123) (by simp) (Ul h1)))));simpa[Cs,I0]using go _ _ h2
 |whil c l hc hl ihl=>
  intro p hp u vs hu;have fin:Lex (125::10::u) ([125]::vs):=Ij (by simp) (Ul hu);have h1:=O4 (fun x hx=>ihl x hx (p++[32,32]) hp.more) _ _ (fin.pad p hp);have h2:=A2t hc _ _ (Mw _) (Lex.sp (Ij (c:=123) (by simp) (Ul h1)));have h3:=(Lex.key (s:=G1) (by decide) (Mw _) (Lex.sp h2)).pad p hp;simpa[Cs,I0]using h3
 |for_ s a b l h ha hb hl ihl=>
  intro p hp u vs hu;have fin:Lex (125::10::u) ([125]::vs):=Ij (by simp) (Ul hu);have h1:=O4 (fun x hx=>ihl x hx (p++[32,32]) hp.more) _ _ (fin.pad p hp);have h2:=Amv hb _ _ (Mw _) (Lex.sp (Ij (c:=123) (by simp) (Ul h1)));have h3:=Amv ha _ _ (Mw _) (Lex.sp (Lex.key (s:=wTo) (by decide) (Mw _) (Lex.sp h2)));have h4:=Lex.name h (Mw _) (Lex.sp (Lex.key (s:=J4) (by decide) (Mw _) (Lex.sp h3)));have h5:=(Lex.key (s:=Mr) (by decide) (Mw _) (Lex.sp h4)).pad p hp;obtain⟨k',s',m',l'⟩:=b;simpa[Cs,I0]using h5
 |check c hc=>
  intro p hp u vs hu;have h1:=A2t hc _ _ (Aei _ _) (Ns hu);have h2:=(Lex.key (s:=Gl) (by decide) (Mw _) (Lex.sp h1)).pad p hp;simpa[Cs,I0]using h2
 |skip=>
  intro p hp u vs hu;have h2:=(Lex.key (s:=Jg) (by decide) (Aei _ _) (Ns hu)).pad p hp;simpa[Cs,I0]using h2
 |stop=>
  intro p hp u vs hu;have h2:=(Lex.key (s:=Jn) (by decide) (Aei _ _) (Ns hu)).pad p hp;simpa[Cs,I0]using h2
theorem A6m{ds l:List Nd}(hd:∀x,x∈ds→FV x)(hl:∀x,x∈l→FS x):Lex (I2 ds []++I2 l []) (Jo ds++Jo l):=by
 have h1:=O4 (p:=[]) (fun x hx=>A6n (hl x hx) [] (fun c hc=>by cases hc)) [] [] .nil;have h2:=O4 (p:=[]) (fun x hx=>A6o (hd x hx) [] (fun c hc=>by cases hc)) _ _ h1;simpa using h2
structure At (r:RS)(xs:List (List UInt8)):Prop where
 good:r.bad=false
 wk:r.wk
 ws:(r.ws.drop r.at_).map Wd.text=xs
def L0(xs:List Ad):Ad:=xs.headD []
section
variable {r:RS}{x:Ad}{xs:List Ad}
theorem At.get(h:At r (x::xs)):∃w,r.ws[r.at_]?=some w∧w.text=x∧w.kind=Do x:=by
 have h1:=congrArg (fun l:List Ad=>l[0]?) h.ws;simp at h1;obtain⟨w,hw,rfl⟩:=h1;exact⟨w,hw,rfl,h.wk w (Bn hw)⟩
theorem At.kind(h:At r (x::xs)):r.kind=Do x:=by
 obtain⟨w,hw,_,hk⟩:=h.get;simp[RS.kind,hw,hk]
theorem At.lt(h:At r (x::xs)):r.at_<r.ws.length:=by
 obtain⟨w,hw,_⟩:=h.get;exact Aa hw
theorem At.ge(h:At r []):r.ws.length≤r.at_:=by
 have:=congrArg List.length h.ws;simp at this;omega
theorem At.text(h:At r xs):r.text=L0 xs:=by
 cases xs with
 |nil=>simp[RS.text,Oo h.ge,L0]
 |cons x xs=>
  obtain⟨w,hw,ht,_⟩:=h.get;simp[RS.text,hw,ht,L0]
theorem At.step(h:At r (x::xs)):At r.step xs:=by
 refine⟨h.good,h.wk,?_⟩;have:=congrArg List.tail h.ws;simp only[List.tail_cons]at this;rw[←this];simp[RS.step]
theorem At.takes(h:At r xs)(s:Ad):r.takes s=(L0 xs==s):=by simp[RS.takes,h.good,h.text]
theorem At.no(h:At r xs){s:Ad}(hs:L0 xs≠s):r.takes s=false:=by rw[h.takes];simpa using hs
theorem At.yes(h:At r (x::xs)):r.takes x=true:=by rw[h.takes];simp[L0]
theorem At.need(h:At r (x::xs)):r.need x=r.step:=by simp[RS.need,h.yes]
theorem At.named(h:At r (x::xs))(hn:nameS x=true):r.named=true∧r.name=x∧r.nameR=r.step:=by
 have hk:r.kind=1:=by rw[h.kind,(Na hn).2]
 have:r.named=true:=by simp[RS.named,h.good,hk]
 refine⟨this,?_,?_⟩
 ·simp[RS.name,this,h.text,L0]
 ·simp[RS.nameR,this]
end
theorem kne{a b:Ad}(h:Do a≠Do b):a≠b:=fun e=>h (by rw[e])
theorem Is{s:Ad}(h:nameS s=true)(b:Ad)(hb:Do b≠1:=by decide):s≠b:=kne (by rw[(Na h).2];exact fun e=>hb e.symm)
theorem A2z{m:Nat}(h:m≤1000000)(b:Ad)(hb:Do b≠2:=by decide):Ms m≠b:=kne (by rw[(Q6 m h).2];exact fun e=>hb e.symm)
def Q1(ws:List Ad)(n:Nd)(B:Nat):Prop:=∀(f:Nat)(r:RS)(xs:List Ad),B≤f→At r (ws++xs)→L0 xs≠[91]→∃r',Fw f r=(n,r')∧At r' xs
def Q2(ws:List Ad)(n:Nd)(B:Nat):Prop:=∀(f:Nat)(r:RS)(xs:List Ad),B≤f→At r (ws++xs)→L0 xs≠[91]→∃r' g,f≤g+Al n∧Ev f r=Ii g n r'∧At r' xs
def Q3(ws:List Ad)(n:Nd)(B:Nat):Prop:=∀(f:Nat)(r:RS)(xs:List Ad),B≤f→At r (ws++xs)→L0 xs≠[91]→L0 xs≠[42]→∃r' g,f≤g+Al n∧Fa f r=Hn g n r'∧At r' xs
theorem Aad(n:Nd):1≤Al n:=by rw[Co];omega
theorem Q1.mono{ws:List Ad}{n:Nd}{B B':Nat}(h:Q1 ws n B)(hb:B≤B'):Q1 ws n B':=fun f r xs hf=>h f r xs (by omega)
theorem Q2.mono{ws:List Ad}{n:Nd}{B B':Nat}(h:Q2 ws n B)(hb:B≤B'):Q2 ws n B':=fun f r xs hf=>h f r xs (by omega)
theorem Q3.mono{ws:List Ad}{n:Nd}{B B':Nat}(h:Q3 ws n B)(hb:B≤B'):Q3 ws n B':=fun f r xs hf=>h f r xs (by omega)
theorem Agu{g:Nat}{n:Nd}{r:RS}{xs:List Ad}(h:At r xs)(hs:L0 xs≠[42]):Ii g n r=(n,r):=by
 cases g with
 |zero=>simp[Ii]
 |succ g=>simp[Ii,h.no hs]
theorem Aag{g:Nat}{n:Nd}{r:RS}{xs:List Ad}(h:At r xs)(hs:L0 xs≠[43])(hs':L0 xs≠[45]):Hn g n r=(n,r):=by
 cases g with
 |zero=>simp[Hn]
 |succ g=>simp[Hn,h.no hs,h.no hs']
theorem A39{ws:List Ad}{n:Nd}{B:Nat}(h:Q1 ws n B):Q2 ws n (B+1):=by
 intro f r xs hf ha hs;obtain⟨g,rfl⟩:∃g,f=g+1:=⟨f-1,by omega⟩
 obtain⟨r',h1,h2⟩:=h g r xs (by omega) ha hs;refine⟨r',g,by have:=Aad n;omega,?_,h2⟩;simp[Ev,h1]
theorem A4a{ws:List Ad}{n:Nd}{B:Nat}(h:Q2 ws n B):Q3 ws n (B+1):=by
 intro f r xs hf ha hs hs';obtain⟨g,rfl⟩:∃g,f=g+1:=⟨f-1,by omega⟩
 obtain⟨r',g',h1,h2,h3⟩:=h g r xs (by omega) ha hs;refine⟨r',g,by have:=Aad n;omega,?_,h3⟩;rw[Agu h3 hs']at h2;simp[Fa,h2]
theorem A4b{ws:List Ad}{n:Nd}{B:Nat}(h:Q3 ws n B):Q1 ([[40]]++ws++[[41]]) n (B+1):=by
 intro f r xs hf ha hs;obtain⟨g,rfl⟩:∃g,f=g+1:=⟨f-1,by omega⟩
 have ha':At r ([40]::(ws++[41]::xs)):=by simpa using ha
 obtain⟨r',g',h1,h2,h3⟩:=h g r.step ([41]::xs) (by omega) ha'.step (by simp[L0]) (by simp[L0]);rw[Aag h3 (by simp[L0]) (by simp[L0])]at h2;refine⟨r'.step,?_,h3.step⟩;have hk:¬(r.kind==2)=true:=by rw[ha'.kind];decide
 have h45:r.takes [45]=false:=ha'.no (by simp[L0]);rw[Fw,if_neg (by simp[ha'.good]),if_neg (by simp[h45]),if_neg hk,if_pos ha'.yes,h2];simp[h3.need]
theorem Aus{m:Int}(h0:0≤m)(h1:m≤1000000):Q1 [Ms m.toNat] (.mk 1 [] m []) 1:=by
 intro f r xs hf ha hs;obtain⟨g,rfl⟩:∃g,f=g+1:=⟨f-1,by omega⟩
 have ha':At r (Ms m.toNat::xs):=ha;have hm:m.toNat≤1000000:=by omega
 refine⟨r.step,?_,ha'.step⟩;have hk:(r.kind==2)=true:=by rw[ha'.kind,(Q6 _ hm).2];rfl
 have h45:r.takes [45]=false:=ha'.no (A2z hm [45]);rw[Fw,if_neg (by simp[ha'.good]),if_neg (by simp[h45]),if_pos hk,ha'.text];simp only[L0,List.headD_cons];rw[Qc _ hm];congr 2;omega
theorem Agb{f:Nat}{r:RS}{s:Ad}{xs:List Ad}(hn:nameS s=true)(ha:At r (s::xs)) :
 Fw (f+1) r=if r.step.takes [91]then(.mk 3 s 0 [(Fa f r.step.step).1],(Fa f r.step.step).2.need [93])else(.mk 2 s 0 [],r.step):=by
 obtain⟨_,h2,h3⟩:=ha.named hn;have hk:¬(r.kind==2)=true:=by rw[ha.kind,(Na hn).2];decide
 have h45:r.takes [45]=false:=ha.no (Is hn [45]);have h40:r.takes [40]=false:=ha.no (Is hn [40]);have hl:r.takes [108,101,110]=false:=ha.no (Is hn _);rw[Fw,if_neg (by simp[ha.good]),if_neg (by simp[h45]),if_neg hk,if_neg (by simp[h40]),if_neg (by simp[hl]),h2,h3]
theorem A3o{n:Nd}(h:FE n):Q1 (J7 3 n.kind (Dz n)) n (3*Al n)∧Q2 (J7 2 n.kind (Dz n)) n (3*Al n)∧Q3 (Dz n) n (3*Al n):=by
 have t3:∀{n:Nd} {B:Nat},Mp n.kind=3→B+2≤3*Al n→Q1 (Dz n) n B→Q1 (J7 3 n.kind (Dz n)) n (3*Al n)∧Q2 (J7 2 n.kind (Dz n)) n (3*Al n)∧Q3 (Dz n) n (3*Al n):=by
  intro n B ht hB hq;have e3:J7 3 n.kind (Dz n)=Dz n:=by unfold J7;rw[ht,if_neg (by omega)]
  have e2:J7 2 n.kind (Dz n)=Dz n:=by unfold J7;rw[ht,if_neg (by omega)]
  rw[e3,e2];exact⟨hq.mono (by omega),(A39 hq).mono (by omega),(A4a (A39 hq)).mono (by omega)⟩
 induction h with
 |num m h0 h1=>
  refine t3 (B:=1) rfl (by simp[Al,Bb]) ?_;simpa[Dz]using Aus h0 h1
 |var s h=>
  refine t3 (B:=1) rfl (by simp[Al,Bb]) ?_;intro f r xs hf ha hs;obtain⟨g,rfl⟩:∃g,f=g+1:=⟨f-1,by omega⟩
  have ha':At r (s::xs):=by simpa[Dz]using ha
  refine⟨r.step,?_,ha'.step⟩;rw[Agb h ha',if_neg (by simp[ha'.step.no hs])]
 |cell s a h ha ih=>
  refine t3 (B:=3*Al a+1) rfl (by simp[Al,Bb];omega) ?_;intro f r xs hf ha hs;obtain⟨g,rfl⟩:∃g,f=g+1:=⟨f-1,by omega⟩
  have ha':At r (s::[91]::(Dz a++[93]::xs)):=by simpa[Dz]using ha
  obtain⟨r',g',h1,h2,h3⟩:=ih.2.2 g r.step.step ([93]::xs) (by omega) ha'.step.step (by simp[L0]) (by simp[L0]);rw[Aag h3 (by simp[L0]) (by simp[L0])]at h2;refine⟨r'.step,?_,h3.step⟩;rw[Agb h ha',if_pos ha'.step.yes,h2];simp[h3.need]
 |len s h=>
  refine t3 (B:=1) rfl (by simp[Al,Bb]) ?_;intro f r xs hf ha hs;obtain⟨g,rfl⟩:∃g,f=g+1:=⟨f-1,by omega⟩
  have ha':At r ([108,101,110]::[40]::s::[41]::xs):=by simpa[Dz]using ha
  obtain⟨_,e2,e3⟩:=ha'.step.step.named h;refine⟨r.step.step.step.step,?_,ha'.step.step.step.step⟩;have hk:¬(r.kind==2)=true:=by rw[ha'.kind];decide
  have h45:r.takes [45]=false:=ha'.no (by simp[L0]);have h40:r.takes [40]=false:=ha'.no (by simp[L0]);rw[Fw,if_neg (by simp[ha'.good]),if_neg (by simp[h45]),if_neg hk,if_neg (by simp[h40]),if_pos ha'.yes,ha'.step.need,e2,e3,ha'.step.step.step.need]
 |neg a ha ih=>
  refine t3 (B:=3*Al a+1) rfl (by simp[Al,Bb];omega) ?_;intro f r xs hf ha hs;obtain⟨g,rfl⟩:∃g,f=g+1:=⟨f-1,by omega⟩
  have ha':At r ([45]::(J7 3 a.kind (Dz a)++xs)):=by simpa[Dz]using ha
  obtain⟨r',h1,h2⟩:=ih.1 g r.step xs (by omega) ha'.step hs;refine⟨r',?_,h2⟩;rw[Fw,if_neg (by simp[ha'.good]),if_pos ha'.yes,h1]
 |two k a b hk ha hb iha ihb=>
  have hc:Al (Nd.mk k [] 0 [a,b])=1+(Al a+Al b):=by simp[Al,Bb]
  have sum:∀(kk:Int) (c:UInt8),(kk=6∧c=43)∨(kk=7∧c=45)→Q3 (Dz a++[[c]]++J7 2 b.kind (Dz b)) (.mk kk [] 0 [a,b]) (3*Al (Nd.mk k [] 0 [a,b])-2):=by
   intro kk c hkc f r xs hf ht hs hs';have hck:Al (Nd.mk kk [] 0 [a,b])=1+(Al a+Al b):=by simp[Al,Bb]
   have ha':At r (Dz a++([c]::(J7 2 b.kind (Dz b)++xs))):=by simpa using ht
   have c1:L0 ([c]::(J7 2 b.kind (Dz b)++xs))≠[91]:=by rcases hkc with⟨_,rfl⟩|⟨_,rfl⟩<;>simp[L0]
   have c2:L0 ([c]::(J7 2 b.kind (Dz b)++xs))≠[42]:=by rcases hkc with⟨_,rfl⟩|⟨_,rfl⟩<;>simp[L0]
   obtain⟨r1,g1,h1,h2,h3⟩:=iha.2.2 f r _ (by omega) ha' c1 c2;obtain⟨g,rfl⟩:∃g,g1=g+1:=⟨g1-1,by omega⟩
   obtain⟨r2,g2,j1,j2,j3⟩:=ihb.2.1 g r1.step xs (by omega) h3.step hs;rw[Agu j3 hs']at j2;refine⟨r2,g,by omega,?_,j3⟩;rw[h2];rcases hkc with⟨rfl,rfl⟩|⟨rfl,rfl⟩
   ·rw[Hn,if_pos h3.yes,j2]
   ·rw[Hn,if_neg (by simp[h3.no (s:=[43]) (by simp[L0])]),if_pos h3.yes,j2]
  have t1:∀{n:Nd} {B:Nat},Mp n.kind=1→B+2≤3*Al n→Q3 (Dz n) n B→Q1 (J7 3 n.kind (Dz n)) n (3*Al n)∧Q2 (J7 2 n.kind (Dz n)) n (3*Al n)∧Q3 (Dz n) n (3*Al n):=by
   intro n B ht hB hq;have e3:J7 3 n.kind (Dz n)=[[40]]++Dz n++[[41]]:=by unfold J7;rw[ht,if_pos (by omega)]
   have e2:J7 2 n.kind (Dz n)=[[40]]++Dz n++[[41]]:=by unfold J7;rw[ht,if_pos (by omega)]
   rw[e3,e2];exact⟨(A4b hq).mono (by omega),(A39 (A4b hq)).mono (by omega),hq.mono (by omega)⟩
  have p1:J7 1 a.kind (Dz a)=Dz a:=by
   unfold J7 Mp;rw[if_neg];split<;>(try split)<;>omega
  rcases hk with rfl|rfl|rfl
  ·refine t1 (B:=3*Al (Nd.mk 6 [] 0 [a,b])-2) rfl (by omega) ?_;have:=sum 6 43 (.inl ⟨rfl,rfl⟩);simpa[Dz,p1]using this
  ·refine t1 (B:=3*Al (Nd.mk 7 [] 0 [a,b])-2) rfl (by omega) ?_;have:=sum 7 45 (.inr ⟨rfl,rfl⟩);simpa[Dz,p1]using this
  ·have hq:Q2 (Dz (Nd.mk 8 [] 0 [a,b])) (Nd.mk 8 [] 0 [a,b]) (3*Al (Nd.mk 8 [] 0 [a,b])-2):=by
    intro f r xs hf ht hs;have ha':At r (J7 2 a.kind (Dz a)++([42]::(J7 3 b.kind (Dz b)++xs))):=by simpa[Dz]using ht
    obtain⟨r1,g1,h1,h2,h3⟩:=iha.2.1 f r _ (by omega) ha' (by simp[L0]);obtain⟨g,rfl⟩:∃g,g1=g+1:=⟨g1-1,by omega⟩
    obtain⟨r2,j2,j3⟩:=ihb.1 g r1.step xs (by omega) h3.step hs;refine⟨r2,g,by omega,?_,j3⟩;rw[h2,Ii,if_pos h3.yes,j2]
   have e3:J7 3 (Nd.mk 8 [] 0 [a,b]).kind (Dz (Nd.mk 8 [] 0 [a,b]))=[[40]]++Dz (Nd.mk 8 [] 0 [a,b])++[[41]]:=by exact if_pos (show Mp 8<3 by decide)
   have e2:J7 2 (Nd.mk 8 [] 0 [a,b]).kind (Dz (Nd.mk 8 [] 0 [a,b]))=Dz (Nd.mk 8 [] 0 [a,b]):=by exact if_neg (show ¬Mp 8<2 by decide)
   rw[e3,e2];exact⟨(A4b (A4a hq)).mono (by omega),hq.mono (by omega),(A4a hq).mono (by omega)⟩
def Stop(xs:List Ad):Prop:=L0 xs≠[91]∧L0 xs≠[42]∧L0 xs≠[43]∧L0 xs≠[45]
theorem Ka{n:Nd}(h:FE n)(hc:Al n≤500){r:RS}{xs:List Ad}(ha:At r (Dz n++xs))(hs:Stop xs):∃r',Cd r=(n,r')∧At r' xs:=by
 obtain⟨r',g,h1,h2,h3⟩:=(A3o h).2.2 6010 r xs (by omega) ha hs.1 hs.2.1;rw[Aag h3 hs.2.2.1 hs.2.2.2]at h2;exact⟨r',h2,h3⟩
theorem Ar0{k:Int}(h0:11≤k)(h1:k≤16):relS (Vn k)=k:=by
 have:k=11∨k=12∨k=13∨k=14∨k=15∨k=16:=by omega
 rcases this with rfl|rfl|rfl|rfl|rfl|rfl<;>rfl
theorem Av6(k:Int)(xs:List Ad):Stop (Vn k::xs):=by
 have:∀w,w∈O9→w≠[91]∧w≠[42]∧w≠[43]∧w≠[45]:=by decide
 exact this _ (Aa6 k)
theorem P4{n:Nd}(h:FC n)(hc:Al n≤500){r:RS}{xs:List Ad}(ha:At r (Dz n++xs))(hs:Stop xs):∃r',Dr r=(n,r')∧At r' xs:=by
 cases h with
 |mk k a b h0 h1 fa fb=>
  have ne:¬k=6∧¬k=7∧¬k=8:=by omega
  have hcc:Al (Nd.mk k [] 0 [a,b])=1+(Al a+Al b):=by simp[Al,Bb]
  have ha':At r (Dz a++(Vn k::(Dz b++xs))):=by simpa[Dz,ne.1,ne.2.1,ne.2.2]using ha
  obtain⟨r1,e1,a1⟩:=Ka fa (by omega) ha' (Av6 k _);obtain⟨r2,e2,a2⟩:=Ka fb (by omega) a1.step hs;refine⟨r2,?_,a2⟩;have ht:r1.text=Vn k:=by rw[a1.text];rfl
  unfold Dr;rw[e1];simp only[ht,Ar0 h0 h1];rw[if_neg (by simp[a1.good];omega),e2]
def RdS(x:Nd):Prop:=∀(f:Nat)(r:RS)(xs:List Ad),3*Al x≤f→Al x≤500→At r (I0 x++xs)→L0 xs≠I9→∃r',Dm f r=(x,r')∧At r' xs
def RdL(l:List Nd):Prop:=∀(f:Nat)(r:RS)(acc:List Nd)(xs:List Ad),3*Bb l+1≤f→Bb l≤500→At r (Jo l++xs)→(xs=[]∨L0 xs=[125])→∃r',El f acc r=(acc++l,r')∧At r' xs
def Atj(s:Ad):Prop:=nameS s=true∨s∈[Wv,G1,Mr,Gl,Ja,Jg,Jn]
theorem Aab{s:Ad}(h:Atj s):s≠[125]∧s≠I9∧s≠N3∧s≠Fx:=by
 rcases h with h|h
 ·exact⟨Is h _,Is h _,Is h _,Is h _⟩
 ·have:∀s,s∈[Wv,G1,Mr,Gl,Ja,Jg,Jn]→s≠[125]∧s≠I9∧s≠N3∧s≠Fx:=by decide
  exact this s h
theorem Yf{x:Nd}(h:FS x):∃s t,I0 x=s::t∧Atj s:=by
 cases h with
 |set s a h ha=>exact⟨s,_,by simp[I0];rfl,.inl h⟩
 |put s a b h ha hb=>obtain⟨k',s',m',l'⟩:=b;exact⟨s,_,by simp[I0];rfl,.inl h⟩
 |read s h=>exact⟨Ja,_,by simp[I0];rfl,.inr (by simp)⟩
 |ifs c l l' hc hl hl'=>exact⟨Wv,_,by simp[I0];rfl,.inr (by simp)⟩
 |whil c l hc hl=>exact⟨G1,_,by simp[I0];rfl,.inr (by simp)⟩
 |for_ s a b l h ha hb hl=>obtain⟨k',s',m',l'⟩:=b;exact⟨Mr,_,by simp[I0];rfl,.inr (by simp)⟩
 |check c hc=>exact⟨Gl,_,by simp[I0];rfl,.inr (by simp)⟩
 |skip=>exact⟨Jg,_,by simp[I0];rfl,.inr (by simp)⟩
 |stop=>exact⟨Jn,_,by simp[I0];rfl,.inr (by simp)⟩
theorem Aec{l:List Nd}(hf:∀x,x∈l→FS x)(h:∀x,x∈l→RdS x):RdL l:=by
 induction l with
 |nil=>
  intro f r acc xs hf hc ha hx;have ha':At r xs:=by simpa[Jo]using ha
  refine⟨r,?_,ha'⟩;cases f with
  |zero=>simp[El]
  |succ f=>
   rw[El,if_neg,I4];rcases hx with rfl|hx
   ·simp;intro _ h;have:=ha'.ge;omega
   ·rw[ha'.text,hx];simp
 |cons x l ih=>
  intro f r acc xs hfu hc ha hx;simp only[Bb]at hfu hc;obtain⟨g,rfl⟩:∃g,f=g+1:=⟨f-1,by omega⟩
  have ha':At r (I0 x++(Jo l++xs)):=by simpa[Jo]using ha
  have hne:L0 (Jo l++xs)≠I9:=by
   cases l with
   |nil=>
    simp only[Jo,T8];rcases hx with rfl|hx
    ·simp[L0]
    ·rw[hx];decide
   |cons y l=>
    obtain⟨s,t,e,hb⟩:=Yf (hf y (by simp));simp only[Jo,e,L0];exact(Aab hb).2.1
  obtain⟨r1,e1,a1⟩:=h x (by simp) g r _ (by omega) (by omega) ha' hne;obtain⟨r2,e2,a2⟩:=ih (fun y hy=>hf y (by simp[hy])) (fun y hy=>h y (by simp[hy])) g r1 (acc++[x]) xs (by have:=Aad x;omega) (by omega) a1 hx;refine⟨r2,?_,a2⟩;obtain⟨s,t,e,hb⟩:=Yf (hf x (by simp));have has:At r (s::(t++(Jo l++xs))):=by rw[e]at ha';simpa using ha'
  rw[El,if_pos,e1]
  ·simp only;rw[e2];simp
  ·have:=(Aab hb).1;rw[has.text];simp[has.good,has.lt,L0,this]
theorem Aeb{l:List Nd}(hl:RdL l){f:Nat}{r:RS}{xs:List Ad}(hf:3*Bb l+2≤f)(hc:Bb l≤500)(ha:At r ([123]::(Jo l++[125]::xs))):∃r',Cz f r=(.mk 30 [] 0 l,r')∧At r' xs:=by
 obtain⟨g,rfl⟩:∃g,f=g+1:=⟨f-1,by omega⟩
 obtain⟨r1,e1,a1⟩:=hl g r.step [] ([125]::xs) (by omega) hc ha.step (.inr rfl);refine⟨r1.step,?_,a1.step⟩;rw[Cz,ha.need,e1];simp[a1.need]
theorem O1{s:Ad}{xs:List Ad}(h:s∈[[93],[59],[123],wTo]:=by decide):Stop (s::xs):=by
 have:∀s,s∈[[93],[59],[123],wTo]→s≠[91]∧s≠[42]∧s≠[43]∧s≠[45]:=by decide
 exact this s h
theorem Lv{f:Nat}{r:RS}{s:Ad}{xs:List Ad}(ha:At r (s::xs))(h1:s≠Wv)(h2:s≠G1)(h3:s≠Mr):Dm (f+1) r=((C8 r).1,(C8 r).2.need [59]):=by
 rw[Dm,if_neg (by simp[ha.no (s:=Wv) h1]),if_neg (by simp[ha.no (s:=G1) h2]),if_neg (by simp[ha.no (s:=Mr) h3])]
theorem Aek{r:RS}{s:Ad}{xs:List Ad}(ha:At r (s::xs))(hn:nameS s=true):C8 r=Ro r:=by
 rw[C8,if_neg (by simp[ha.no (s:=Gl) (Is hn _)]),if_neg (by simp[ha.no (s:=Ja) (Is hn _)]),if_neg (by simp[ha.no (s:=Jg) (Is hn _)]),if_neg (by simp[ha.no (s:=Jn) (Is hn _)])]
theorem A3p{x:Nd}(h:FS x):RdS x:=by
 induction h with
 |set s a h fa=>
  intro f r xs hf hc ha _;have hcc:Al (Nd.mk 21 s 0 [a])=1+Al a:=by simp[Al,Bb]
  obtain⟨g,rfl⟩:∃g,f=g+1:=⟨f-1,by omega⟩
  have ha':At r (s::[61]::(Dz a++[59]::xs)):=by simpa[I0]using ha
  obtain⟨_,n2,n3⟩:=ha'.named h;obtain⟨r1,e1,a1⟩:=Ka fa (by omega) ha'.step.step O1;refine⟨r1.step,?_,a1.step⟩;rw[Lv ha' (Is h _) (Is h _) (Is h _),Aek ha' h,Ro,n3,if_neg (by simp[ha'.step.no (s:=[91]) (by simp[L0])]),ha'.step.need,e1,n2];simp[a1.need]
 |put s a b h fa fb=>
  intro f r xs hf hc ha _;have hcc:Al (Nd.mk 22 s 0 [a,b])=1+(Al a+Al b):=by simp[Al,Bb]
  obtain⟨g,rfl⟩:∃g,f=g+1:=⟨f-1,by omega⟩
  have ha':At r (s::[91]::(Dz a++[93]::[61]::(Dz b++[59]::xs))):=by
   obtain⟨k',s',m',l'⟩:=b;simpa[I0]using ha
  obtain⟨_,n2,n3⟩:=ha'.named h;obtain⟨r1,e1,a1⟩:=Ka fa (by omega) ha'.step.step O1;obtain⟨r2,e2,a2⟩:=Ka fb (by omega) a1.step.step O1;refine⟨r2.step,?_,a2.step⟩;rw[Lv ha' (Is h _) (Is h _) (Is h _),Aek ha' h,Ro,n3,if_pos ha'.step.yes,e1];simp only;rw[a1.need,a1.step.need,e2,n2];simp[a2.need]
 |read s h=>
  intro f r xs hf hc ha _;have:=Aad (Nd.mk 23 s 0 []);obtain⟨g,rfl⟩:∃g,f=g+1:=⟨f-1,by omega⟩
  have ha':At r (Ja::s::[59]::xs):=by simpa[I0]using ha
  obtain⟨_,n2,n3⟩:=ha'.step.named h;refine⟨r.step.step.step,?_,ha'.step.step.step⟩;rw[Lv ha' (by decide) (by decide) (by decide),C8,if_neg (by simp[ha'.no (s:=Gl) (by simp[L0])]),if_pos ha'.yes,n2,n3];simp[ha'.step.step.need]
 |ifs c l l' hc hl hl' ihl ihl'=>
  intro f r xs hf hcn ha hx;have hcc:Al (Nd.mk 24 [] 0 [c,.mk 30 [] 0 l,.mk 30 [] 0 l'])=1+(Al c+(1+Bb l+(1+Bb l'))):=by simp[Al,Bb]
  obtain⟨g,rfl⟩:∃g,f=g+1:=⟨f-1,by omega⟩
  have L:=Aec hl ihl;have L':=Aec hl' ihl';cases l' with
  |nil=>
   have ha':At r (Wv::(Dz c++([123]::(Jo l++[125]::xs)))):=by simpa[I0]using ha
   obtain⟨r1,e1,a1⟩:=P4 hc (by omega) ha'.step O1;obtain⟨r2,e2,a2⟩:=Aeb L (f:=g) (by omega) (by omega) a1;refine⟨r2,?_,a2⟩;rw[Dm,if_pos ha'.yes,e1];simp only;rw[e2];simp only;rw[if_neg (by simp[a2.no hx])]
  |cons y l'=>
   have ha':At r (Wv::(Dz c++([123]::(Jo l++[125]::(I9::[123]::(Jo (y::l')++[125]::xs)))))):=by simpa[I0]using ha
   obtain⟨r1,e1,a1⟩:=P4 hc (by omega) ha'.step O1;obtain⟨r2,e2,a2⟩:=Aeb L (f:=g) (by omega) (by omega) a1;obtain⟨r3,e3,a3⟩:=Aeb L' (f:=g) (by omega) (by omega) a2.step;refine⟨r3,?_,a3⟩;rw[Dm,if_pos ha'.yes,e1];simp only;rw[e2];simp only;rw[if_pos a2.yes,e3]
 |whil c l hc hl ihl=>
  intro f r xs hf hcn ha hx;have hcc:Al (Nd.mk 25 [] 0 [c,.mk 30 [] 0 l])=1+(Al c+(1+Bb l)):=by simp[Al,Bb]
  obtain⟨g,rfl⟩:∃g,f=g+1:=⟨f-1,by omega⟩
  have ha':At r (G1::(Dz c++([123]::(Jo l++[125]::xs)))):=by simpa[I0]using ha
  obtain⟨r1,e1,a1⟩:=P4 hc (by omega) ha'.step O1;obtain⟨r2,e2,a2⟩:=Aeb (Aec hl ihl) (f:=g) (by omega) (by omega) a1;refine⟨r2,?_,a2⟩;rw[Dm,if_neg (by simp[ha'.no (s:=Wv) (by simp[L0])]),if_pos ha'.yes,e1];simp only;rw[e2]
 |for_ s a b l h fa fb hl ihl=>
  intro f r xs hf hcn ha hx;have hcc:Al (Nd.mk 26 s 0 [a,b,.mk 30 [] 0 l])=1+(Al a+(Al b+(1+Bb l))):=by simp[Al,Bb]
  obtain⟨g,rfl⟩:∃g,f=g+1:=⟨f-1,by omega⟩
  have ha':At r (Mr::s::J4::(Dz a++(wTo::(Dz b++([123]::(Jo l++[125]::xs)))))):=by
   obtain⟨k',s',m',l'⟩:=b;simpa[I0]using ha
  obtain⟨_,n2,n3⟩:=ha'.step.named h;have eA:Y4 r.step=r.step.step.step:=by rw[Y4,n3,ha'.step.step.need]
  obtain⟨r1,e1,a1⟩:=Ka fa (by omega) ha'.step.step.step O1;have eB:Aak r.step=r1.step:=by rw[Aak,eA,e1];exact a1.need
  obtain⟨r2,e2,a2⟩:=Ka fb (by omega) a1.step O1;obtain⟨r3,e3,a3⟩:=Aeb (Aec hl ihl) (f:=g) (by omega) (by omega) a2;refine⟨r3,?_,a3⟩;rw[Dm,if_neg (by simp[ha'.no (s:=Wv) (by simp[L0])]),if_neg (by simp[ha'.no (s:=G1) (by simp[L0])]),if_pos ha'.yes,eA,eB,e1,e2,n2];simp only;rw[e3]
 |check c hc=>
  intro f r xs hf hcn ha _;have hcc:Al (Nd.mk 27 [] 0 [c])=1+Al c:=by simp[Al,Bb]
  obtain⟨g,rfl⟩:∃g,f=g+1:=⟨f-1,by omega⟩
  have ha':At r (Gl::(Dz c++[59]::xs)):=by simpa[I0]using ha
  obtain⟨r1,e1,a1⟩:=P4 hc (by omega) ha'.step O1;refine⟨r1.step,?_,a1.step⟩;rw[Lv ha' (by decide) (by decide) (by decide),C8,if_pos ha'.yes,e1];simp[a1.need]
 |skip=>
  intro f r xs hf hcn ha _;have:=Aad (Nd.mk 28 [] 0 []);obtain⟨g,rfl⟩:∃g,f=g+1:=⟨f-1,by omega⟩
  have ha':At r (Jg::[59]::xs):=by simpa[I0]using ha
  refine⟨r.step.step,?_,ha'.step.step⟩;rw[Lv ha' (by decide) (by decide) (by decide),C8,if_neg (by simp[ha'.no (s:=Gl) (by simp[L0])]),if_neg (by simp[ha'.no (s:=Ja) (by simp[L0])]),if_pos ha'.yes];simp[ha'.step.need]
 |stop=>
  intro f r xs hf hcn ha _;have:=Aad (Nd.mk 29 [] 0 []);obtain⟨g,rfl⟩:∃g,f=g+1:=⟨f-1,by omega⟩
  have ha':At r (Jn::[59]::xs):=by simpa[I0]using ha
  refine⟨r.step.step,?_,ha'.step.step⟩;rw[Lv ha' (by decide) (by decide) (by decide),C8,if_neg (by simp[ha'.no (s:=Gl) (by simp[L0])]),if_neg (by simp[ha'.no (s:=Ja) (by simp[L0])]),if_neg (by simp[ha'.no (s:=Jg) (by simp[L0])]),if_pos ha'.yes];simp[ha'.step.need]
theorem Aju{d:Nd}(h:FV d){r:RS}{xs:List Ad}(ha:At r (I0 d++xs)):Ie r=true∧(J0 r).1=d∧At ((J0 r).2.need [59]) xs:=by
 cases h with
 |var s h=>
  have ha':At r (N3::s::[59]::xs):=by simpa[I0]using ha
  obtain⟨_,n2,n3⟩:=ha'.step.named h;refine⟨by simp[Ie,ha'.yes],?_⟩;rw[J0,if_pos ha'.yes,n2,n3];simp only;rw[ha'.step.step.need];refine⟨?_,ha'.step.step.step⟩
  first|trivial|rfl
 |arr s m h h0 h1=>
  have ha':At r (Fx::s::[91]::(if 0≤m then Ms m.toNat else[63])::[93]::[59]::xs):=by simpa[I0]using ha
  obtain⟨_,n2,n3⟩:=ha'.step.named h;refine⟨by simp[Ie,ha'.yes],?_⟩;have hz:Jf r.step.step.step=(m,r.step.step.step.step):=by
   have a3:=ha'.step.step.step;unfold Jf;by_cases g:0≤m
   ·rw[if_pos g]at a3;have hm:m.toNat≤1000000:=by omega
    have hk:r.step.step.step.kind=2:=by rw[a3.kind,(Q6 _ hm).2]
    rw[if_pos (by simp[a3.good,hk]),a3.text];simp only[L0,List.headD_cons];rw[Qc _ hm];congr 1;omega
   ·rw[if_neg g]at a3;have hk:Do [63]≠2:=by decide
    rw[if_neg (by simp[a3.kind,hk]),a3.need];congr 1;omega
  rw[J0,if_neg (by simp[ha'.no (s:=N3) (by simp[L0])]),n2,n3,ha'.step.step.need,hz];simp only;rw[ha'.step.step.step.step.need,ha'.step.step.step.step.step.need];refine⟨?_,ha'.step.step.step.step.step.step⟩
  first|trivial|rfl
theorem Yw:∀(ds:List Nd)(f:Nat)(acc:List Nd)(r:RS)(xs:List Ad),(∀x,x∈ds→FV x)→ds.length≤f→At r (Jo ds++xs)→L0 xs≠N3→L0 xs≠Fx→∃r',Fl f acc r=(acc++ds,r')∧At r' xs
 |[],f,acc,r,xs,hd,hf,ha,h1,h2=>by
  have ha':At r xs:=by simpa[Jo]using ha
  refine⟨r,?_,ha'⟩;cases f with
  |zero=>simp[Fl]
  |succ f=>rw[Fl,if_neg (by simp[Ie,ha'.no h1,ha'.no h2]),I4]
 |d::ds,f,acc,r,xs,hd,hf,ha,h1,h2=>by
  simp at hf;obtain⟨g,rfl⟩:∃g,f=g+1:=⟨f-1,by omega⟩
  have ha':At r (I0 d++(Jo ds++xs)):=by simpa[Jo]using ha
  obtain⟨e1,e2,a1⟩:=Aju (hd d (by simp)) ha';obtain⟨r',e3,a2⟩:=Yw ds g (acc++[d]) _ xs (fun x hx=>hd x (by simp[hx])) (by omega) a1 h1 h2;refine⟨r',?_,a2⟩;rw[Fl,if_pos e1,e2,e3];simp
theorem Aks{ds l:List Nd}(hd:∀x,x∈ds→FV x)(hl:∀x,x∈l→FS x)(hc:Bb ds+Bb l≤500){r:RS}(ha:At r (Jo ds++Jo l)):(Ex r).1=.mk 40 [] 0 (ds++[.mk 30 [] 0 l])∧(Ex r).2.bad=false:=by
 have h12:L0 (Jo l)≠N3∧L0 (Jo l)≠Fx:=by
  cases l with
  |nil=>simp[Jo,L0]
  |cons y l=>
   obtain⟨s,t,e,hb⟩:=Yf (hl y (by simp));simp only[Jo,e,L0];exact(Aab hb).2.2
 have hdl:=Bq ds;obtain⟨r1,e1,a1⟩:=Yw ds 2000 [] r (Jo l) hd (by omega) ha h12.1 h12.2;obtain⟨r2,e2,a2⟩:=Aec hl (fun x hx=>A3p (hl x hx)) 5000 r1 [] [] (by omega) (by omega) (by simpa using a1) (.inl rfl);have ee:r2.ends=r2:=by rw[RS.ends,if_neg (by have:=a2.ge;omega)]
 unfold Ex;rw[e1];simp only;rw[e2];simp only[T8];rw[ee];refine⟨?_,a2.good⟩
 first|trivial|rfl
theorem Am6{n:Nd}(h:FP n)(hc:Al n≤500)(h0:(Fp (Ko n)).2.1=0):(Fp (Ko n)).1=n:=by
 cases h with
 |mk ds l hd hl=>
  have hcn:Al (Nd.mk 40 [] 0 (ds++[.mk 30 [] 0 l]))=1+(Bb ds+(1+Bb l)):=by simp[Al,Nk,Bb]
  have hw:(Da (Ko (.mk 40 [] 0 (ds++[.mk 30 [] 0 l])))).2.1=0:=by
   unfold Fp at h0;split at h0
   ·assumption
   ·exact h0
  have hlex:=A6m hd hl;rw[Td ds,←Ad7 ds l]at hlex;have hws:=Aq4 hlex hw;have hat:At (rs0 (Ko (.mk 40 [] 0 (ds++[.mk 30 [] 0 l])))) (Jo ds++Jo l):=⟨rfl,Ai3 _,by simp[rs0,hws]⟩
  obtain⟨e1,e2⟩:=Aks hd hl (by omega) hat
  unfold Fp at h0⊢;rw[if_pos hw,if_neg (by simp[e2])]at h0⊢;split at h0
  ·simp at h0
  ·rename_i hg;rw[if_neg hg];exact e1
def Wr(k:Int)(s:Ad)(m:Int)(c:List (Int×Mu)):Mu:=
 if k=31 then[N3,s]
 else if k=32 then[Fx,s,[91],if m=-1 then[63]else Lib.itoa m,[93]]
 else if k=21 then[s,[61]]++eW c 0
 else if k=22 then[s,[91]]++eW c 0++[[93],[61]]++eW c 1
 else if k=23 then[Ja,s]
 else if k=27 then[Gl]++eW c 0
 else if k=28 then[Jg]
 else[Jn]
def bT(b:List (Ad×Bool))(i:Nat):Ad:=(b.getD i ([],false)).1
def bQ'(b:List (Ad×Bool))(i:Nat):Bool:=(b.getD i ([],false)).2
def Ob(k:Int):Bool:=k==31||k==32||k==21||k==22||k==23||k==27||k==28||k==29
def cpT(k:Int)(s:Ad)(c:List (Int×Mu))(b:List (Ad×Bool))(h:Nat):Ad:=
 if k=24 then Ey ([Wv]++eW c 0++[[123]]) h++bT b 1++(if bQ' b 2 then Ey [[125],I9,[123]] h++bT b 2 else[])++Ey [[125]] h
 else if k=25 then Ey ([G1]++eW c 0++[[123]]) h++bT b 1++Ey [[125]] h
 else if k=26 then Ey ([Mr,s,J4]++eW c 0++[wTo]++eW c 1++[[123]]) h++bT b 2++Ey [[125]] h
 else Ey [] h
def Wz(k:Int)(s:Ad)(m:Int)(c:List (Int×Mu))(b:List (Ad×Bool))(h:Nat):Ad:=
 if Ob k then Ey (Wr k s m c++[[59]]) h else cpT k s c b h
mutual
def Ig:Nd→Nat→List UInt8
 |.mk k s m ks,h=>Wz k s m (B8 ks) (J2 ks h) h
def J2:List Nd→Nat→List (List UInt8×Bool)
 |[],_=>[]
 |x::l,h=>Abh x h::J2 l h
def Abh:Nd→Nat→List UInt8×Bool
 |.mk _ _ _ l,h=>(Ku l (h+1),!l.isEmpty)
def Ku:List Nd→Nat→List UInt8
 |[],_=>[]
 |x::l,h=>Ig x h++Ku l h
end
def X5(n:Nd):Ad:=Ku n.kids.dropLast 0++Ku (n.kids.getLastD Cm).kids 0
def Xv(a:Ad):Ad:=if has Mo a then[]else[32]
theorem Ux{a:Ad}(h:has Mo a=false)(us:Mu):Hu a us=Hu [] us:=by
 have h0:has Mo []=false:=by decide
 cases us with
 |nil=>rfl
 |cons b us=>simp[Hu,Ua,h,h0]
structure PW (b:List UInt8):Prop where
 c:has Mh b=false
 o:has Mo b=false
 t:Kq b [32]=b
theorem PW.flat{b:Ad}(h:PW b)(a:Ad)(us:Mu):Hu a (b::us)=Xv a++(b++Hu [] us):=by
 simp only[Hu,Ua,h.c,h.t,Ux h.o,Xv,Bool.false_or];split<;>simp
theorem Asb{c:UInt8}{l:Ad}(h:c≠32):Kq (c::l) [32]=c::l:=by
 have:Aiu (c::l) [32]=false:=by simp[Aiu,h]
 simp[Kq,this]
theorem PW.of_kind{b:Ad}(h:Do b=1∨Do b=2):PW b:=by
 have no:∀l:List Ad,(∀x,x∈l→Do x≠1∧Do x≠2)→has l b=false:=by
  intro l hl;simp only[has,List.any_eq_false];intro x hx he;have:=zzq34.1 he;subst this;have:=hl _ hx;omega
 refine⟨no _ (by decide),no _ (by decide),?_⟩;cases b with
 |nil=>simp[Wk]at h
 |cons c l=>exact Asb (Ads (by rcases h with h|h<;>rw[h]<;>decide)).1
theorem PW.name{s:Ad}(h:nameS s=true):PW s:=.of_kind (.inl (Na h).2)
theorem PW.num{m:Nat}(h:m≤1000000):PW (Ms m):=.of_kind (.inr (Q6 m h).2)
theorem PW.of{b:Ad}(h:b∈([[43],[45],[42],[61],[63],[123],[125],Wv,I9,G1,Mr,J4,wTo,Gl,Ja,Jg,Jn,N3,Fx]:Mu)++O9):PW b:=by
 have:∀b,b∈([[43],[45],[42],[61],[63],[123],[125],Wv,I9,G1,Mr,J4,wTo,Gl,Ja,Jg,Jn,N3,Fx]:Mu)++O9→has Mh b=false∧has Mo b=false∧Kq b [32]=b:=by decide
 obtain⟨h1,h2,h3⟩:=this b h;exact⟨h1,h2,h3⟩
theorem Sv(a:Ad)(us:Mu):Hu a ([59]::us)=59::Hu [] us:=by
 rw[Hu,Ux (by decide)];simp[Ua,show has Mh [59]=true by decide,show Kq [59] [32]=[59] by decide]
theorem Ah0(a:Ad)(us:Mu):Hu a ([93]::us)=93::Hu [] us:=by
 rw[Hu,Ux (by decide)];simp[Ua,show has Mh [93]=true by decide,show Kq [93] [32]=[93] by decide]
theorem Atu(a:Ad)(us:Mu):Hu a ([41]::us)=41::Hu [] us:=by
 rw[Hu,Ux (by decide)];simp[Ua,show has Mh [41]=true by decide,show Kq [41] [32]=[41] by decide]
theorem Ahz(a:Ad)(us:Mu):Hu a ([91]::us)=91::Hu [91] us:=by
 rw[Hu];simp[Ua,show has Mh [91]=true by decide,show Kq [91] [32]=[91] by decide]
theorem Aoj{b t:Ad}(h:has Mh b=false)(ht:Kq b [32]=t)(a:Ad)(us:Mu):Hu a (b::us)=Xv a++(t++Hu b us):=by
 simp only[Hu,Ua,h,ht,Xv,Bool.false_or];split<;>simp
def FlatP(w:Mu)(t:Ad):Prop:=∀(a:Ad)(us:Mu),Hu a (w++us)=Xv a++(t++Hu [] us)
theorem FlatP.par{w:Mu}{t:Ad}(h:FlatP w t):FlatP ([[40]]++w++[[41]]) ([40]++t++[41]):=by
 intro a us;have e:[[40]]++w++[[41]]++us=[40]::(w++([41]::us)):=by simp
 rw[e,Aoj (t:=[40]) (by decide) (by decide),h,Atu,show Xv [40]=[] by decide];simp
theorem FlatP.in1{w:Mu}{t:Ad}(h:FlatP w t)(k:Int):FlatP (Pz true false k w) (Mt 2 k t):=by
 by_cases hk:k=6∨k=7
 ·have e1:Pz true false k w=[[40]]++w++[[41]]:=by unfold Pz;rw[if_pos (by simpa using hk)]
  have e2:Mt 2 k t=[40]++t++[41]:=by unfold Mt Mp;rw[if_pos (by simp[hk])]
  rw[e1,e2];exact h.par
 ·have e1:Pz true false k w=w:=by unfold Pz;rw[if_neg (by simpa using hk)]
  have e2:Mt 2 k t=t:=by unfold Mt Mp;rw[if_neg (by rw[if_neg hk];split<;>omega)]
  rw[e1,e2];exact h
theorem FlatP.in2{w:Mu}{t:Ad}(h:FlatP w t)(k:Int):FlatP (Pz true true k w) (Mt 3 k t):=by
 by_cases hk:(k=6∨k=7)∨k=8
 ·have e1:Pz true true k w=[[40]]++w++[[41]]:=by unfold Pz;rw[if_pos (by simpa using hk)]
  have e2:Mt 3 k t=[40]++t++[41]:=by
   unfold Mt Mp;rw[if_pos];rcases hk with hk|hk
   ·rw[if_pos hk];omega
   ·rw[if_neg (by omega),if_pos hk];omega
  rw[e1,e2];exact h.par
 ·have e1:Pz true true k w=w:=by unfold Pz;rw[if_neg (by simpa using hk)]
  have e2:Mt 3 k t=t:=by unfold Mt Mp;rw[if_neg (by rw[if_neg (by omega),if_neg (by omega)];omega)]
  rw[e1,e2];exact h
theorem FlatP.two{w w':Mu}{t t':Ad}(h:FlatP w t)(h':FlatP w' t'){c:Ad}(hc:PW c):FlatP (w++[c]++w') (t++[32]++c++[32]++t'):=by
 intro a us;have e:w++[c]++w'++us=w++(c::(w'++us)):=by simp
 rw[e,h,hc.flat,h',show Xv []=[32] by decide];simp
theorem Adk{n:Nd}(h:FE n):FlatP (A5 n) (B5 n):=by
 induction h with
 |num m h0 h1=>
  intro a us;have e:A5 (.mk 1 [] m [])=[Ms m.toNat]:=by
   have:Lib.itoa m=Ms m.toNat:=by
    obtain⟨u,rfl⟩:∃u:Nat,m=u:=⟨m.toNat,by omega⟩
    rw[Lib.itoa_nonneg,Ahs];rfl
   simp[A5,Gt,this]
  rw[e];simp only[B5,if_true,R1,T8];exact(PW.num (by omega)).flat a us
 |var s h=>
  intro a us;have e:A5 (.mk 2 s 0 [])=[s]:=by simp[A5,Gt]
  rw[e];simp only[B5,R1,T8];exact(PW.name h).flat a us
 |cell s x h ha ih=>
  intro a us;have e:A5 (.mk 3 s 0 [x])++us=s::[91]::(A5 x++([93]::us)):=by simp[A5,Gt,B8,eW]
  rw[e,(PW.name h).flat,Ahz,ih,Ah0,show Xv [91]=[] by decide];simp[B5]
 |len s h=>
  intro a us;have e:A5 (.mk 4 s 0 [])++us=[108,101,110]::[40]::s::[41]::us:=by simp[A5,Gt]
  rw[e,Aoj (t:=[108,101,110]) (by decide) (by decide),Aoj (t:=[40]) (by decide) (by decide),(PW.name h).flat,Atu,show Xv [40]=[] by decide,show Xv [108,101,110]=[] by decide];simp[B5]
 |neg x ha ih=>
  intro a us;have e:A5 (.mk 5 [] 0 [x])++us=[32,45]::(Pz true true x.kind (A5 x)++us):=by simp[A5,Gt,B8,iW]
  rw[e,Aoj (t:=[45]) (by decide) (by decide),ih.in2 x.kind,show Xv [32,45]=[] by decide];simp[B5]
 |two k x y hk ha hb iha ihb=>
  have p1:Mt 1 x.kind (B5 x)=B5 x:=by
   unfold Mt Mp;rw[if_neg];split<;>(try split)<;>omega
  rcases hk with rfl|rfl|rfl
  ·have e:A5 (.mk 6 [] 0 [x,y])=A5 x++[[43]]++Pz true false y.kind (A5 y):=by simp[A5,Gt,B8,iW,eW]
   have:=iha.two (ihb.in1 y.kind) (c:=[43]) (.of (by decide));rw[e];simpa[B5,p1]using this
  ·have e:A5 (.mk 7 [] 0 [x,y])=A5 x++[[45]]++Pz true false y.kind (A5 y):=by simp[A5,Gt,B8,iW,eW]
   have:=iha.two (ihb.in1 y.kind) (c:=[45]) (.of (by decide));rw[e];simpa[B5,p1]using this
  ·have e:A5 (.mk 8 [] 0 [x,y])=Pz true false x.kind (A5 x)++[[42]]++Pz true true y.kind (A5 y):=by simp[A5,Gt,B8,iW,eW]
   have:=(iha.in1 x.kind).two (ihb.in2 y.kind) (c:=[42]) (.of (by decide));rw[e];simpa[B5]using this
theorem Atv{n:Nd}(h:FC n):FlatP (A5 n) (B5 n):=by
 cases h with
 |mk k x y h0 h1 ha hb=>
  have ne:¬k=1∧¬k=2∧¬k=3∧¬k=4∧¬k=5∧¬k=6∧¬k=7∧¬k=8:=by omega
  obtain⟨n1,n2,n3,n4,n5,n6,n7,n8⟩:=ne;have e:A5 (.mk k [] 0 [x,y])=A5 x++[Vn k]++A5 y:=by simp[A5,Gt,B8,eW,n1,n2,n3,n4,n5,n6,n7,n8,h0,h1]
  have:=(Adk ha).two (Adk hb) (c:=Vn k) (.of (Ab5 _ (Aa6 k)));rw[e];simpa[B5,n6,n7,n8]using this
theorem Zj(h:Nat):List.replicate (2*h) (32:UInt8)++[32,32]=List.replicate (2*(h+1)) 32:=by
 rw[show 2*(h+1)=2*h+2 by omega,←List.replicate_append_replicate];rfl
theorem O6{l:List Nd}{h:Nat}{p:Ad}(hx:∀x,x∈l→Ig x h=Cs x p):Ku l h=I2 l p:=by
 induction l with
 |nil=>simp[Ku,I2]
 |cons x l ih=>simp[Ku,I2,hx x (by simp),ih fun y hy=>hx y (by simp[hy])]
theorem Atw{b:Ad}(h:PW b)(us:Mu):P8 (b::us)=b++Hu [] us:=by rw[P8,h.t,Ux h.o]
theorem Ip{a:Ad}:Hu a []=[]:=rfl
abbrev Au6(h:Nat):Ad:=List.replicate (2*h) 32
theorem Ir{b:Ad}(h:PW b)(us:Mu)(g:Nat):Ey (b::us) g=Au6 g++(b++(Hu [] us++[10])):=by rw[Ey,Atw h];simp
theorem g0:Xv []=[32]:=by decide
theorem Aa4(h:Nat):Ey [[125]] h=Au6 h++[125,10]:=by
 rw[Ir (.of (by decide)),Ip];simp
theorem Aut(h:Nat):Ey [[125],I9,[123]] h=Au6 h++([125,32]++I9++[32,123,10]):=by
 rw[Ir (.of (by decide)),(PW.of (b:=I9) (by decide)).flat,(PW.of (b:=[123]) (by decide)).flat,Ip,g0];simp
theorem A6r{x:Nd}(hx:FV x)(h:Nat):Ig x h=Cs x (Au6 h):=by
 cases hx with
 |var s hs=>
  have e:Ig (.mk 31 s 0 []) h=Ey (N3::s::[[59]]) h:=by simp[Ig,Wz,Ob,Wr]
  rw[e,Ir (.of (by decide)),(PW.name hs).flat,Sv,Ip,g0];simp[Cs]
 |arr s m hs h0 h1=>
  by_cases g:0≤m
  ·have em:¬m=-1:=by omega
   have ei:Lib.itoa m=Ms m.toNat:=by
    obtain⟨u,rfl⟩:∃u:Nat,m=u:=⟨m.toNat,by omega⟩
    rw[Lib.itoa_nonneg,Ahs];rfl
   have e:Ig (.mk 32 s m []) h=Ey (Fx::s::[91]::Ms m.toNat::[93]::[[59]]) h:=by simp[Ig,Wz,Ob,Wr,em,ei]
   rw[e,Ir (.of (by decide)),(PW.name hs).flat,Ahz,(PW.num (by omega)).flat,Ah0,Sv,Ip,g0,show Xv [91]=[] by decide];simp[Cs,g]
  ·have em:m=-1:=by omega
   have e:Ig (.mk 32 s m []) h=Ey (Fx::s::[91]::[63]::[93]::[[59]]) h:=by simp[Ig,Wz,Ob,Wr,em]
   rw[e,Ir (.of (by decide)),(PW.name hs).flat,Ahz,(PW.of (b:=[63]) (by decide)).flat,Ah0,Sv,Ip,g0,show Xv [91]=[] by decide];simp[Cs,g]
theorem A5h{x:Nd}(hx:FS x):∀h:Nat,Ig x h=Cs x (Au6 h):=by
 induction hx with
 |set s a hs ha=>
  intro h;have e:Ig (.mk 21 s 0 [a]) h=Ey (s::[61]::(A5 a++[[59]])) h:=by simp[Ig,Wz,Ob,Wr,B8,eW]
  rw[e,Ir (.name hs),(PW.of (b:=[61]) (by decide)).flat,Adk ha,Sv,Ip,g0];simp[Cs]
 |put s a b hs ha hb=>
  intro h;have e:Ig (.mk 22 s 0 [a,b]) h=Ey (s::[91]::(A5 a++([93]::[61]::(A5 b++[[59]])))) h:=by simp[Ig,Wz,Ob,Wr,B8,eW]
  rw[e,Ir (.name hs),Ahz,Adk ha,Ah0,(PW.of (b:=[61]) (by decide)).flat,Adk hb,Sv,Ip,g0,show Xv [91]=[] by decide];obtain⟨k',s',m',l'⟩:=b;simp[Cs]
 |read s hs=>
  intro h;have e:Ig (.mk 23 s 0 []) h=Ey (Ja::s::[[59]]) h:=by simp[Ig,Wz,Ob,Wr]
  rw[e,Ir (.of (by decide)),(PW.name hs).flat,Sv,Ip,g0];simp[Cs]
 |ifs c l l' hc hl hl' ihl ihl'=>
  intro h;have e:Ig (.mk 24 [] 0 [c,.mk 30 [] 0 l,.mk 30 [] 0 l']) h=Ey (Wv::(A5 c++[[123]])) h++Ku l (h+1)++(if !l'.isEmpty then Ey [[125],I9,[123]] h++Ku l' (h+1)else[])++Ey [[125]] h:=by
   simp[Ig,Wz,Ob,cpT,B8,eW,J2,Abh,bT,bQ']
  have h1:=O6 (l:=l) (h:=h+1) fun x hx=>ihl x hx (h+1);have h2:=O6 (l:=l') (h:=h+1) fun x hx=>ihl' x hx (h+1);rw[e,h1,h2,Ir (.of (by decide)),Atv hc,(PW.of (b:=[123]) (by decide)).flat,Ip,g0,Aa4,Aut];cases l' with
  |nil=>simp[Cs,Zj]
  |cons y l'=>simp[Cs,Zj]
 |whil c l hc hl ihl=>
  intro h;have e:Ig (.mk 25 [] 0 [c,.mk 30 [] 0 l]) h=Ey (G1::(A5 c++[[123]])) h++Ku l (h+1)++Ey [[125]] h:=by
   simp[Ig,Wz,Ob,cpT,B8,eW,J2,Abh,bT]
  have h1:=O6 (l:=l) (h:=h+1) fun x hx=>ihl x hx (h+1);rw[e,h1,Ir (.of (by decide)),Atv hc,(PW.of (b:=[123]) (by decide)).flat,Ip,g0,Aa4];simp[Cs,Zj]
 |for_ s a b l hs ha hb hl ihl=>
  intro h;have e:Ig (.mk 26 s 0 [a,b,.mk 30 [] 0 l]) h=Ey (Mr::s::J4::(A5 a++(wTo::(A5 b++[[123]])))) h++Ku l (h+1)++Ey [[125]] h:=by
   simp[Ig,Wz,Ob,cpT,B8,eW,J2,Abh,bT]
  have h1:=O6 (l:=l) (h:=h+1) fun x hx=>ihl x hx (h+1);rw[e,h1,Ir (.of (by decide)),(PW.name hs).flat,(PW.of (b:=J4) (by decide)).flat,Adk ha,(PW.of (b:=wTo) (by decide)).flat,Adk hb,(PW.of (b:=[123]) (by decide)).flat,Ip,g0,Aa4];obtain⟨k',s',m',l'⟩:=b;simp[Cs,Zj]
 |check c hc=>
  intro h;have e:Ig (.mk 27 [] 0 [c]) h=Ey (Gl::(A5 c++[[59]])) h:=by simp[Ig,Wz,Ob,Wr,B8,eW]
  rw[e,Ir (.of (by decide)),Atv hc,Sv,Ip,g0];simp[Cs]
 |skip=>
  intro h;have e:Ig (.mk 28 [] 0 []) h=Ey (Jg::[[59]]) h:=by simp[Ig,Wz,Ob,Wr]
  rw[e,Ir (.of (by decide)),Sv,Ip];simp[Cs]
 |stop=>
  intro h;have e:Ig (.mk 29 [] 0 []) h=Ey (Jn::[[59]]) h:=by simp[Ig,Wz,Ob,Wr]
  rw[e,Ir (.of (by decide)),Sv,Ip];simp[Cs]
theorem Akt{n:Nd}(h:FP n):X5 n=Ko n:=by
 cases h with
 |mk ds l hd hl=>
  have h1:=O6 (l:=ds) (h:=0) (p:=[]) fun x hx=>A6r (hd x hx) 0;have h2:=O6 (l:=l) (h:=0) (p:=[]) fun x hx=>A5h (hl x hx) 0;have e1:(Nd.mk 40 [] 0 (ds++[.mk 30 [] 0 l])).kids.dropLast=ds:=by simp[Nd.kids]
  have e2:((Nd.mk 40 [] 0 (ds++[.mk 30 [] 0 l])).kids.getLastD Cm).kids=l:=by simp[Nd.kids]
  rw[X5,e1,e2,h1,h2,Ad7,Td]
theorem Xu{p:Nd}:∀{l:List Nd}{i:Nat},(∀(j:Nat)(x:Nd),l[j]?=some x→Lf p ((i+j:Nat):Int) x.kind=true∧Cr x=true)→E7 p i l=true
 |[],i,_=>by simp[E7]
 |x::l,i,h=>by
  have h0:=h 0 x rfl;simp only[Rx]at h0;have h1:=Xu (p:=p) (l:=l) (i:=i+1) fun j y hj=>by
   have:=h (j+1) y (by simpa using hj);rwa[show i+(j+1)=i+1+j by omega]at this
  simp[E7,h0.1,h0.2,h1]
theorem M2{n:Nd}(h:FE n):Cr n=true:=by
 induction h with
 |num m h0 h1=>simp[Cr,Iq,Bo,Fv,A8,E7,h0,h1]
 |var s h=>simp[Cr,Iq,Bo,Fv,E7,h,Oy h]
 |cell s a h ha ih=>
  have:=C7 ha;simp[Cr,Iq,Bo,Fv,E7,Lf,K7,Ck,h,Oy h,ih];exact this
 |len s h=>simp[Cr,Iq,Bo,Fv,E7,h,Oy h]
 |neg a ha ih=>
  have:=C7 ha;simp[Cr,Iq,Bo,Fv,E7,Lf,K7,Ck,ih];exact this
 |two k a b hk ha hb iha ihb=>
  have h1:=C7 ha;have h2:=C7 hb;rcases hk with rfl|rfl|rfl <;>
  ·simp[Cr,Iq,Bo,Fv,E7,Lf,K7,Ck,iha,ihb];exact⟨h1,h2⟩
theorem Z5{n:Nd}(h:FC n):Cr n=true:=by
 cases h with
 |mk k a b h0 h1 ha hb=>
  have e1:=C7 ha;have e2:=C7 hb;have:k=11∨k=12∨k=13∨k=14∨k=15∨k=16:=by omega
  rcases this with rfl|rfl|rfl|rfl|rfl|rfl <;>
  ·simp[Cr,Iq,Bo,Fv,E7,Lf,K7,Ck,M2 ha,M2 hb];exact⟨e1,e2⟩
theorem Mg{l:List Nd}(hl:∀x,x∈l→FS x)(h:∀x,x∈l→Cr x=true):Cr (.mk 30 [] 0 l)=true:=by
 have:=Xu (p:=.mk 30 [] 0 l) (l:=l) (i:=0) fun j x hx=>by
  have hm:=Bn hx;have:=Awz (hl x hm);refine⟨?_,h x hm⟩;simp[Lf,Y8,Ck];exact this
 simp[Cr,Iq,Bo,Fv,this]
theorem Ap8{n:Nd}(h:FS n):Cr n=true:=by
 induction h with
 |set s a h ha=>
  have:=C7 ha;simp[Cr,Iq,Bo,Fv,E7,Lf,K7,Ck,h,Oy h,M2 ha];exact this
 |put s a b h ha hb=>
  have h1:=C7 ha;have h2:=C7 hb;simp[Cr,Iq,Bo,Fv,E7,Lf,K7,Ck,h,Oy h,M2 ha,M2 hb];exact⟨h1,h2⟩
 |read s h=>simp[Cr,Iq,Bo,Fv,E7,h,Oy h]
 |ifs c l l' hc hl hl' ihl ihl'=>
  have h1:=Kf hc;have b1:=Mg hl ihl;have b2:=Mg hl' ihl';rw[Cr];simp[Iq,Bo,Fv,E7,Lf,Tb,Ck,Z5 hc,b1,b2];exact h1
 |whil c l hc hl ihl=>
  have h1:=Kf hc;have b1:=Mg hl ihl;rw[Cr];simp[Iq,Bo,Fv,E7,Lf,Tb,Ck,Z5 hc,b1];exact h1
 |for_ s a b l h ha hb hl ihl=>
  have h1:=C7 ha;have h2:=C7 hb;have b1:=Mg hl ihl;rw[Cr];simp[Iq,Bo,Fv,E7,Lf,K7,Ck,h,Oy h,M2 ha,M2 hb,b1];exact⟨h1,h2⟩
 |check c hc=>
  have h1:=Kf hc;simp[Cr,Iq,Bo,Fv,E7,Lf,Tb,Ck,Z5 hc];exact h1
 |skip=>simp[Cr,Iq,Bo,Fv,E7]
 |stop=>simp[Cr,Iq,Bo,Fv,E7]
theorem Ap9{n:Nd}(h:FV n):Cr n=true:=by
 cases h with
 |var s h=>simp[Cr,Iq,Bo,Fv,E7,h,Oy h]
 |arr s m h h0 h1=>simp[Cr,Iq,Bo,Fv,E7,A8,h,Oy h,h0,h1]
theorem Z7{n:Nd}(h:FP n):Cr n=true:=by
 cases h with
 |mk ds l hd hl=>
  have hb:=Mg hl fun x hx=>Ap8 (hl x hx);have:=Xu (p:=.mk 40 [] 0 (ds++[.mk 30 [] 0 l])) (l:=ds++[.mk 30 [] 0 l]) (i:=0) fun j x hx=>by
   rcases Ga j ds.length with hj|hj
   ·rw[Dd hj]at hx;have hm:=Bn hx;refine⟨?_,Ap9 (hd x hm)⟩;have hk:=Acd (hd x hm);have e:Lf (.mk 40 [] 0 (ds++[.mk 30 [] 0 l])) ((0+j:Nat):Int) x.kind=(x.kind==31||x.kind==32):=by
     rw[Aig rfl,if_neg];simp[Nd.kids];omega
    rw[e];simpa using hk
   ·rw[Gz hj]at hx;have hj0:j=ds.length:=by
     have:=Aa hx;simp at this;omega
    subst hj0;simp at hx;subst hx;refine⟨?_,hb⟩;rw[Aig rfl,if_pos]
    ·simp[Nd.kind]
    ·simp[Nd.kids]
  simp[Cr,Iq,Bo,Fv,this]
mutual
def longN:Nd→Bool
 |.mk _ s _ ks=>decide (8<s.length)||longL ks
def longL:List Nd→Bool
 |[]=>false
 |x::l=>longN x||longL l
end
theorem Ri{l:List Nd}(h:∀x,x∈l→longN x=false):longL l=false:=by
 induction l with
 |nil=>rfl
 |cons x l ih=>simp[longL,h x (by simp),ih fun y hy=>h y (by simp[hy])]
theorem Pd{n:Nd}(h:FE n):longN n=false:=by
 induction h with
 |num m h0 h1=>simp[longN,longL]
 |var s h=>simp[longN,longL,Jq h]
 |cell s a h ha ih=>simp[longN,longL,Jq h,ih]
 |len s h=>simp[longN,longL,Jq h]
 |neg a ha ih=>simp[longN,longL,ih]
 |two k a b hk ha hb iha ihb=>simp[longN,longL,iha,ihb]
theorem Ac1{n:Nd}(h:FC n):longN n=false:=by
 cases h with|mk k a b h0 h1 ha hb=>simp[longN,longL,Pd ha,Pd hb]
theorem Asx{n:Nd}(h:FS n):longN n=false:=by
 induction h with
 |set s a h ha=>simp[longN,longL,Jq h,Pd ha]
 |put s a b h ha hb=>simp[longN,longL,Jq h,Pd ha,Pd hb]
 |read s h=>simp[longN,longL,Jq h]
 |ifs c l l' hc hl hl' ihl ihl'=>simp[longN,longL,Ac1 hc,Ri ihl,Ri ihl']
 |whil c l hc hl ihl=>simp[longN,longL,Ac1 hc,Ri ihl]
 |for_ s a b l h ha hb hl ihl=>simp[longN,longL,Jq h,Pd ha,Pd hb,Ri ihl]
 |check c hc=>simp[longN,longL,Ac1 hc]
 |skip=>simp[longN,longL]
 |stop=>simp[longN,longL]
theorem Asy{n:Nd}(h:FV n):longN n=false:=by
 cases h with
 |var s h=>simp[longN,longL,Jq h]
 |arr s m h h0 h1=>simp[longN,longL,Jq h]
theorem Asw{n:Nd}(h:FP n):longN n=false:=by
 cases h with
 |mk ds l hd hl=>
  have hb:longN (.mk 30 [] 0 l)=false:=by simp[longN,Ri fun x hx=>Asx (hl x hx)]
  have:=Ri (l:=ds++[.mk 30 [] 0 l]) fun x hx=>by
   rcases zzq26.1 hx with h|h
   ·exact Asy (hd x h)
   ·simp at h;subst h;exact hb
  simp[longN,this]
noncomputable def Vo(a b:Nd):Bool:=@decide (a=b) (Classical.propDecidable _)
theorem Rn{a b:Nd}:Vo a b=true↔a=b:=by unfold Vo;exact @decide_eq_true_iff _ (Classical.propDecidable _)
noncomputable def Hw(n:Nd):Ad×Bool:=
 if Pm n||(n.kids.isEmpty||longN n)then([],false)
 else(X5 n,!(X5 n==[])&&((Fp (X5 n)).2.1==0&&Vo (Fp (X5 n)).1 n))
theorem Alh{s:Ad}(h:(Fp s).2.1=0):s.length≤4000:=by
 have hw:(Da s).2.1=0:=by
  unfold Fp at h;split at h
  ·assumption
  ·exact h
 unfold Da at hw;split at hw
 ·simp at hw
 ·omega
theorem Am8(n:Nd):(Hw n).2=Dw n∧(Dw n=true→(Hw n).1=Ko n):=by
 have key:Dw n=true→Hw n=(Ko n,true):=by
  intro h;have hf:=Tp h;obtain⟨fp,hc,hd⟩:=hf;have hp:=Akt fp;simp only[Dw,Du,zzq34,N4,Mz]at h;obtain⟨_,⟨h1,h2⟩,h3⟩:=h;have hb:=Am6 fp hc h3;have hk:n.kids.isEmpty=false:=by cases fp with|mk ds l hd hl=>simp[Nd.kids]
  have hl:Pm n=false:=by simp[Pm];omega
  unfold Hw;rw[if_neg (by simp[hk,hl,Asw fp]),hp,hb,h1];simp[h3,Rn]
 refine⟨?_,fun h=>by rw[key h]⟩;cases hs:Dw n with
 |true=>rw[key hs]
 |false=>
  cases hp:(Hw n).2 with
  |false=>rfl
  |true=>
   exfalso;unfold Hw at hp;split at hp
   ·simp at hp
   ·simp only[Du,zzq34,N4,Rn]at hp;obtain⟨h1,h2,h3⟩:=hp;obtain⟨fp,hc,hd⟩:=Akq h2;have hl:=Alh h2;rw[h3]at fp hc hd;rw[Akt fp]at h1 h2 hl;have hk:n.kind=40:=by cases fp;rfl
    have:Dw n=true:=by simp[Dw,hk,Tz,hc,hd,Z7 fp,h1,hl,h2]
    rw[this]at hs;cases hs
end Go.V
namespace Go.V
open Go
section
variable {X:Cx}{B:Bx}{E:Env}{S:St}{w:World}{F:Cw}{R:AE→St→Prop}
theorem Inv.wkB(hI:Inv X E S w){b r j:Nat}{rows:A7}{cs:An}{x y:AV}(hb:S.boxes[b]?=some rows)(hr:rows[r]?=some cs)(hc:cs[j]?=some x)(hw:Ren true [] [] x y) :
 Inv X E ⟨S.boxes.set b (rows.set r (cs.set j y)),S.toks⟩ w:=by
 refine hI.recell hb (by simp) (fun q hq=>?_) fun blk sz arr te hB hh k q p z v hk hp hv=>?_
 ·rcases Zy hq with hq|rfl
  ·exact⟨q,hq,rfl⟩
  ·exact⟨cs,Bn hr,by simp⟩
 ·obtain⟨arr',e,hh',hs,hl,hrel⟩:=hI.box b blk sz rows hB hb;rw[hh]at hh';cases hh';rcases E8 hk with⟨rfl,rfl⟩|⟨_,hk⟩
  ·rcases E8 hp with⟨rfl,rfl⟩|⟨_,hp⟩
   ·exact hw.less (hrel _ cs _ x v hr hc hv)
   ·exact hrel _ cs p z v hr hp hv
  ·exact hrel k q p z v hk hp hv
theorem R8{K:List Item}(b r j:Nat){rows:A7}{cs:An}{x:AV}(y:AV){bx:B3}(hk:AK X B K F ⟨bx,S.toks⟩ R)(hb:S.boxes[b]?=some rows:=by rfl)(hr:rows[r]?=some cs:=by rfl)(hc:cs[j]?=some x:=by rfl)
 (hbx:S.boxes.set b (rows.set r (cs.set j y))=bx:=by rfl) [hw:RinC [] [] x y]:AK X B K F S R:=by
 subst hbx;intro E w a b' cs' hI hF hn hm hb';exact hk E w a b' cs' (hI.wkB hb hr hc hw.s) hF (by simpa using hn) hm hb'
theorem Acz{K:List Item}(b n m:Nat){bx:B3}{tk:List Nat}(hb:S.boxes[b]?=some (List.replicate n [.sl [] .tight]))(hm:S.toks.length=m)
 (hbx:S.boxes.set b ((List.range n).map fun i=>[.sl [] (.tok (m+i))])=bx)(htk:S.toks++List.replicate n 0=tk)(hk:AK X B K F ⟨bx,tk⟩ R):AK X B K F S R:=by
 subst hm;subst hbx;subst htk;have rowsK:∀k,k≤n→((List.range k).map fun i=>[AV.sl [] (.tok (S.toks.length+i))]).length=k:=fun k _=>by simp
 have key:∀q k,q+k=n→AK X B K F ⟨S.boxes.set b (((List.range k).map fun i=>[AV.sl [] (.tok (S.toks.length+i))])++List.replicate q [.sl [] .tight]),S.toks++List.replicate k 0⟩ R:=by
  intro q
  induction q with
  |zero=>
   intro k hk';have:k=n:=by omega
   subst this;simpa using hk
  |succ q ih=>
   intro k hk';have hlt:b<S.boxes.length:=Aa hb;have h1:=ih (k+1) (by omega);refine E6 (m:=S.toks.length+k) b k 0 (rows:=((List.range k).map fun i=>[AV.sl [] (.tok (S.toks.length+i))])++List.replicate (q+1) [.sl [] .tight]) (cs:=[.sl [] .tight]) (sl:=[]) ?_ ?_ rfl ?_ ?_ ?_ h1
   ·simp[hlt]
   ·rw[Gz (by simp)];simp[Aln]
   ·simp
   ·simp only[List.set_set];congr 1;rw[Jb _ _ (by simp),List.range_succ];simp[Awk]
   ·simp[List.replicate_succ']
 have h0:=key n 0 (by omega);have e:S.boxes.set b (List.replicate n [.sl [] .tight])=S.boxes:=by
  apply Ab4;intro i;by_cases hi:b=i
  ·subst hi;have:=Aa hb;rw[Ez this,hb]
  ·rw[Fi hi]
 simp only[List.range_zero,List.map_nil,T8,List.replicate_zero,I4]at h0;rw[e]at h0;exact h0
instance(priority:=low){bx:B3}{tk:List Nat}{n m b:Nat}{cs cs':An} [h1:BoxC bx b [cs]] [h2:LeC n b] [h4:FzLC ⟨bx,tk⟩ n m cs cs']:FzC ⟨bx,tk⟩ n m (.ptr b 0 0) (.cptr cs'):=
 ⟨.ptr b 0 0 [cs] cs cs' h2.h h1.h rfl (by simpa using h4.s.get.1) (fun j x y hx hy=>h4.s.get.2 j x y (by simpa using hx) hy)⟩
end
end Go.V
namespace Go.V
open Go Go.Proofs
theorem Agw(s p:Ad):(Kq s p).length≤s.length:=by unfold Kq;split<;>simp
theorem At1(a b:Ad):(Ua a b).length≤1:=by unfold Ua;split<;>simp
theorem Afv:∀(ws:Mu)(a:Ad),(∀w,w∈ws→w.length≤21)→(Hu a ws).length≤22*ws.length
 |[],a,_=>by simp[Hu]
 |b::ws,a,h=>by
  have h1:=Afv ws b fun w hw=>h w (by simp[hw]);have h2:=At1 a b;have h3:=Agw b [32];have h4:=h b (by simp);simp only[Hu,F5,N6];omega
def okW(ws:Mu):Prop:=∀w,w∈ws→w.length≤21
theorem Aqv(ws:Mu)(h:okW ws):(P8 ws).length≤22*ws.length:=by
 cases ws with
 |nil=>simp[P8]
 |cons b ws=>
  have h1:=Afv ws b fun w hw=>h w (by simp[hw]);have h3:=Agw b [32];have h4:=h b (by simp);simp only[P8,F5,N6];omega
theorem B7{a b:Mu}(ha:okW a)(hb:okW b):okW (a++b):=fun w hw=>(zzq26.1 hw).elim (ha w) (hb w)
theorem Bw{a:Ad}(h:a.length≤21):okW [a]:=fun w hw=>by simp at hw;subst hw;exact h
theorem Ff{a:Ad}{l:Mu}(h:a.length≤21)(hl:okW l):okW (a::l):=fun w hw=>by
 rcases zzq8.1 hw with rfl|hw
 ·exact h
 ·exact hl w hw
theorem Aip:okW []:=fun w hw=>by cases hw
theorem Gw(ws:Mu)(h:Nat)(hw:okW ws):(Ey ws h).length≤2*h+22*ws.length+1:=by
 have:=Aqv ws hw;simp[Ey];omega
theorem PrN.get{n:Nd}(h:PrN n):n.name.length≤8∧-9223372036854775808≤n.num∧n.num≤9223372036854775807∧∀x,x∈n.kids→PrN x:=by
 cases h with|mk k s m ks hs h0 h1 hk=>exact⟨hs,h0,h1,hk⟩
theorem Aow{m:Int}(h0:-9223372036854775808≤m)(h1:m≤9223372036854775807):(Lib.itoa m).length≤21:=Lib.itoa_length_le m h0 h1
theorem Az0(k:Int):(Vn k).length≤21:=by have:=Aee k;omega
theorem A2n{a b:Bool}{k:Int}{w:Mu}(h:okW w):okW (Pz a b k w):=by
 unfold Pz;split
 ·exact B7 (B7 (Bw (by simp)) h) (Bw (by simp))
 ·exact h
theorem Y2(n:Nd)(h:PrN n):okW (A5 n):=by
 induction n using Nd.ind with
 |h n ih=>
  obtain⟨hs,h0,h1,hk⟩:=h.get;have K:∀i,okW (A5 (B6 n i)):=fun i=>by
   rcases M8 n i with h|h
   ·exact ih _ h (hk _ h)
   ·rw[h,Afu];exact Aip
  have E:∀i,okW (eW (B8 n.kids) i):=fun i=>by rw[Gi];exact K i
  have I:∀i a b,okW (iW (B8 n.kids) i a b):=fun i a b=>by rw[Aan];exact A2n (K i)
  rw[Adj];unfold Gt
  repeat' split
  ·exact Bw (Aow h0 h1)
  ·exact Bw (by omega)
  ·exact B7 (B7 (Ff (by omega) (Bw (by simp))) (E 0)) (Bw (by simp))
  ·exact Ff (by simp) (Ff (by simp) (Ff (by omega) (Bw (by simp))))
  ·exact B7 (Bw (by simp)) (I 0 _ _)
  ·exact B7 (B7 (E 0) (Bw (by simp))) (I 1 _ _)
  ·exact B7 (B7 (E 0) (Bw (by simp))) (I 1 _ _)
  ·exact B7 (B7 (I 0 _ _) (Bw (by simp))) (I 1 _ _)
  ·exact B7 (B7 (E 0) (Bw (Az0 _))) (E 1)
  ·exact Aip
theorem Af3(l:List Nd)(h:Nat):J2 l h=l.map fun x=>Abh x h:=by
 induction l with
 |nil=>simp[J2]
 |cons x l ih=>simp[J2,ih]
theorem Adb(n:Nd)(h:Nat):Abh n h=(Ku n.kids (h+1),!n.kids.isEmpty):=by cases n;simp[Abh,Nd.kids]
theorem Aoc(n:Nd)(h i:Nat):bT (J2 n.kids h) i=Ku (B6 n i).kids (h+1)∧bQ' (J2 n.kids h) i=!(B6 n i).kids.isEmpty:=by
 have:(J2 n.kids h).getD i ([],false)=Abh (B6 n i) h:=by
  rw[Af3];unfold B6;cases hx:n.kids[i]? with
  |none=>simp[List.getD,hx,Adb,Cm,Ku]
  |some x=>simp[List.getD,hx]
 rw[bT,bQ',this,Adb];exact⟨rfl,rfl⟩
theorem Ao9(n:Nd)(h:Nat):Ig n h=Wz n.kind n.name n.num (B8 n.kids) (J2 n.kids h) h:=by cases n;simp[Ig,Nd.kind,Nd.name,Nd.num,Nd.kids]
theorem Av4(n:Nd)(h:PrN n):okW (Wr n.kind n.name n.num (B8 n.kids)):=by
 obtain⟨hs,h0,h1,hk⟩:=h.get;have E:∀i,okW (eW (B8 n.kids) i):=fun i=>by rw[Gi];exact Y2 _ (h.kid i)
 unfold Wr
 repeat' split
 ·exact Ff (by simp) (Bw (by omega))
 ·exact Ff (by simp) (Ff (by omega) (Ff (by simp) (Ff (by simp) (Bw (by simp)))))
 ·exact Ff (by simp) (Ff (by omega) (Ff (by simp) (Ff (Aow h0 h1) (Bw (by simp)))))
 ·exact B7 (Ff (by omega) (Bw (by simp))) (E 0)
 ·exact B7 (B7 (B7 (Ff (by omega) (Bw (by simp))) (E 0)) (Ff (by simp) (Bw (by simp)))) (E 1)
 ·exact Ff (by simp) (Bw (by omega))
 ·exact B7 (Bw (by simp)) (E 0)
 ·exact Bw (by simp)
 ·exact Bw (by simp)
theorem Ahv(ks:List Nd):(eW (B8 ks) 0).length+(eW (B8 ks) 1).length≤8*Bb ks:=by
 have:=(Aka ks fun x _=>Aft x).1;omega
theorem Az8(n:Nd):(Wr n.kind n.name n.num (B8 n.kids)).length≤8*Bb n.kids+5:=by
 have:=Ahv n.kids;unfold Wr
 repeat' split
 all_goals simp
 all_goals omega
theorem Aiq{l:List Nd}{h:Nat}(hx:∀x,x∈l→(Ig x h).length≤1000*Al x):(Ku l h).length≤1000*Bb l:=by
 induction l with
 |nil=>simp[Ku]
 |cons x l ih=>
  have h1:=hx x (by simp);have h2:=ih fun y hy=>hx y (by simp[hy]);simp only[Ku,Bb,F5];omega
def cK(ks:List Nd)(i:Nat):Nat:=match ks[i]? with
 |some x=>Al x
 |none=>0
theorem A1y(ks:List Nd):cK ks 0+cK ks 1+cK ks 2≤Bb ks:=by
 match ks with
 |[]=>simp[cK]
 |[a]=>simp[cK,Bb]
 |[a,b]=>simp[cK,Bb]
 |a::b::c::l=>simp[cK,Bb];omega
theorem A0v(ks:List Nd)(i:Nat):(eW (B8 ks) i).length≤8*cK ks i:=by
 rw[eW,Af5];unfold cK;cases hx:ks[i]? with
 |none=>simp[List.getD,hx]
 |some x=>have:=Aft x;simp[List.getD,hx];omega
theorem A43(ks:List Nd)(h i:Nat)(hx:∀y,y∈ks→∀x,x∈y.kids→(Ig x (h+1)).length≤1000*Al x):(bT (J2 ks h) i).length≤1000*cK ks i:=by
 rw[bT,Af3];unfold cK;cases hy:ks[i]? with
 |none=>simp[List.getD,hy]
 |some y=>
  have:=Aiq (hx y (Bn hy));have:=Co y;simp[List.getD,hy,Adb];omega
theorem Apa(n:Nd):∀h:Nat,PrN n→h+Dn n≤60→(Ig n h).length≤1000*Al n:=by
 have:∀n:Nd,(∀h:Nat,PrN n→h+Dn n≤60→(Ig n h).length≤1000*Al n)∧∀y,y∈n.kids→∀h:Nat,PrN y→h+Dn y≤60→(Ig y h).length≤1000*Al y:=by
  intro n
  induction n using Nd.ind with
  |h n ih=>
   refine⟨fun h hp hd=>?_,fun y hy=>(ih y hy).1⟩;have hdn:=Kg n;have hcn:=Co n;have hb:=fun i=>A43 n.kids h i fun y hy x hx=>(ih y hy).2 x hx (h+1) ((hp.get.2.2.2 y hy).get.2.2.2 x hx) (by
    have h1:=G8 hy;have h2:=G8 hx;have h3:=Kg y;omega)
   have he:=Ahv n.kids;have b1:=hb 1;have b2:=hb 2;have e0:=A0v n.kids 0;have e1:=A0v n.kids 1;have cs:=A1y n.kids;have E:∀i,okW (eW (B8 n.kids) i):=fun i=>by rw[Gi];exact Y2 _ (hp.kid i)
   have hs:=hp.get.1;rw[Ao9];unfold Wz;split
   ·have h1:=Gw (Wr n.kind n.name n.num (B8 n.kids)++[[59]]) h (B7 (Av4 n hp) (Bw (by simp)));have h2:=Az8 n;simp at h1;omega
   ·have l1:=Gw [[125]] h (Bw (by simp));have l2:=Gw [[125],I9,[123]] h (Ff (by simp) (Ff (by simp) (Bw (by simp))));have l0:=Gw [] h Aip;have a1:=Gw ([Wv]++eW (B8 n.kids) 0++[[123]]) h (B7 (B7 (Bw (by simp)) (E 0)) (Bw (by simp)));have a2:=Gw ([G1]++eW (B8 n.kids) 0++[[123]]) h (B7 (B7 (Bw (by simp)) (E 0)) (Bw (by simp)));have a3:=Gw ([Mr,n.name,J4]++eW (B8 n.kids) 0++[wTo]++eW (B8 n.kids) 1++[[123]]) h
     (B7 (B7 (B7 (B7 (Ff (by simp) (Ff (by omega) (Bw (by simp)))) (E 0)) (Bw (by simp))) (E 1)) (Bw (by simp)))
    simp at l1 l2 l0 a1 a2 a3;unfold cpT
    repeat' split
    all_goals simp
    all_goals omega
 exact(this n).1
end Go.V
