/- A part of the proof of the claim that the last text states: no condition of its own. -/
import Derived.Test.YtojhghmilenfkaaGreatDoorN11
set_option linter.unusedVariables false
set_option linter.unusedSimpArgs false
namespace Go.V
open Go Go.Proofs Go.Proofs.Tryz
theorem Aou(n:Nd)(hne:n.kids≠[])(hl:n.kids.length≤1000000000):Pure X 162 [nd n] (.sl (Ap n.kids.dropLast) .no):=by
 have hpos:0<n.kids.length:=zzq65.2 hne;have hw1:IntKind.i64.wrap (((Ap n.kids).length:Int)-1)=((n.kids.length-1:Nat):Int):=by rw[Ad];exact(Ac (by omega) (by omega)).trans (by omega)
 refine Pure.run func162 ?_;refine If 8 (vi (n.kids.length-1:Nat)) ?_ (Ci hw1);refine Bn (Aby (l:=0) (h:=((n.kids.length-1:Nat):Int)) (r:=Ap n.kids.dropLast) rfl rfl rfl rfl rfl rfl rfl rfl rfl (by omega) (by omega) (by rw[Ad];omega) (Ew _) (by rw[Hl];exact Uq _)) ?_;exact As func162 rfl
theorem Aui(n:Nd)(hne:n.kids≠[])(hl:n.kids.length≤1000000000):Pure X 168 [nd n] (nd (Dt n)):=by
 have hpos:0<n.kids.length:=zzq65.2 hne;have hw1:IntKind.i64.wrap (((Ap n.kids).length:Int)-1)=((n.kids.length-1:Nat):Int):=by rw[Ad];exact(Ac (by omega) (by omega)).trans (by omega)
 obtain⟨lst,hlst⟩:=Ab n.kids (i:=n.kids.length-1) (by omega);have hL:Dt n=lst:=by rw[Dt,Aky,List.getLast?_eq_getElem?,hlst];rfl
 rw[hL];refine Pure.run func168 ?_;refine If 8 (vi (n.kids.length-1:Nat)) ?_ (Ci hw1);refine B4 ((n.kids.length-1:Nat):Int) (by omega) (by rw[Hl];exact Am hlst) ?_;exact As func168 rfl
theorem Anf{f:FuncId}{fn:Func}{F:C5}{bx:List (List (List AV))}{b c:Nat}{l:List Nd}{k:List Item}(hf:X.P.funcs[f]?=some fn)(hb:bx[b]?=some (rB l c))(hl:l.length≤1000000000)(h:Mf X F ⟨bx,[]⟩ fn.results.toList=some [.bsl b l.length]:=by rfl) :
 AK X ⟨f,fn,0,0⟩ (.code .ret::k) F ⟨bx,[]⟩ fun e S'=>e=.ret (.sl (Ap l) .no)∧S'=⟨[],[]⟩:=by
 refine E8 (B:=⟨f,fn,0,0⟩) hf h 0 (Bo _) (r:=.sl (Ap l) .no) ?_ (fun rows hr=>by simp at hr) ⟨rfl,rfl⟩;have hget:∀(i:Nat) (r:List AV),(Ap l)[i]?=some r→(rB l c)[i]?=some r:=fun i r h=>by rw[Cs (Aa h)];exact h
 refine .bsl b l.length (rB l c) (Ap l) (B3 _) hb (by rw[Amn];omega) (by unfold Pg;omega) (Ad l) (fun i r r' h1 h2=>?_) (fun i j r r' x y h1 h2 h3 h4=>?_)
 ·rw[hget i r' h2]at h1;cases h1;rfl
 ·rw[hget i r' h2]at h1;cases h1;rw[h3]at h4;cases h4;refine .same x ((inferInstance:OKR 0 0 (Ap l)).ok r (Bh h2) x (Bh h3))
theorem Aj9(x:Nd)(k:Int):Pure X 224 [nd x,.cptr [vi k]] (vb (!(x.kind==k))):=by
 refine Pure.run func224 ?_;exact As func224 rfl
theorem Aqy(f:FuncId)(caps:List AV) [hok:OKL 0 0 caps](hcat:∀xs,Kg xs caps=some (xs++caps)):Pure X 222 [.sl [] .no,.fn f caps] (.sl [] .no):=by
 have hi:Pure X 225 [.sl [] .no,.fn f caps] (vi (-1)):=Adr [] f caps (fun _=>true) (by simp) (fun x hx=>by cases hx) hcat
 refine Pure.run func222 ?_;refine Al hi ?_;refine A0 ?_;exact As func222 rfl
def Nc(n:Nd)(k:Int):List Nd:=n.kids.dropLast.filter fun x=>x.kind==k
theorem Sv(n:Nd)(k:Int)(hne:n.kids≠[])(hl:n.kids.length≤1000000000):Pure X 163 [nd n,vi k] (.sl (Ap (Nc n k)) .no):=by
 have hd:=Aou n hne hl;have hdl:n.kids.dropLast.length≤1000000000:=by rw[List.length_dropLast];omega
 refine Pure.mk func163 rfl rfl (by kernel_rfl) ?_;refine Kv 0 100 rfl ?_;refine Bi 2 rfl ?_;refine Bn (Aco (x:=vi k)) ?_;refine Al hd ?_;by_cases h0:n.kids.dropLast=[]
 ·have hK:Nc n k=[]:=by rw[Nc,h0];rfl
  rw[hK,h0];refine Al Auk ?_;refine Al (Aqy 224 [.cptr [vi k]] (Asu _)) ?_;exact As func163 rfl
 ·refine A3e (Ayi n.kids.dropLast h0 hdl) (fun rows ⟨c,hr⟩=>by subst hr;exact(inferInstance:OKR 0 0 (rB n.kids.dropLast c)).ok) (fun rows ⟨c,hr⟩=>?_);subst hr;have hD:=Ap9 n.kids.dropLast c 224 [.cptr [vi k]] (fun x=>!(x.kind==k)) hdl (fun x _=>Aj9 x k) (Asu _);have hfe:(n.kids.dropLast.filter fun x=>!(!(x.kind==k)))=Nc n k:=by simp only[Bool.not_not];rfl
  rw[hfe]at hD;refine Bi 100 rfl ?_;refine Ae [1] [] hD ?_;refine Anf func163 (b:=1) rfl (Pb (Abm _ _) hdl)
def Gq(k:Int):Int:=if k=2∨k=21∨k=23∨k=26 then 31 else if k=3∨k=4∨k=22 then 32 else 0
theorem Ays(n:Nd):Pure X 269 [nd n] (vi (Gq n.kind)):=by
 refine Pure.run func269 ?_
 repeat' (refine Ah (fun _=>?_) (fun _=>?_))
 all_goals first|refine Az func269 ?_|(refine A0 ?_;refine Az func269 ?_)
 all_goals (simp_all [Gq,C8])
theorem Akb(s:List UInt8):Pure X 166 [str s] (.fn 226 [.cptr [str s]]):=by
 refine Pure.mk func166 rfl rfl (by kernel_rfl) ?_;refine Kv 0 100 rfl ?_;refine Bi 1 rfl ?_;refine Bn (Aco (x:=str s)) ?_;exact As func166 rfl
theorem Afv(x:Nd)(s:List UInt8):Pure X 226 [nd x,.cptr [str s]] (vb (x.name==s)):=by
 refine Pure.run func226 ?_;exact As func226 rfl
def Xc(l:List Nd)(s:List UInt8):Int:=Km (fun d=>d.name==s) 0 l
mutual
def Nf(hit:Nd→Bool):Nd→Option (List UInt8)
 |.mk k s m ks=>if hit (.mk k s m ks)then some s else W8 hit ks
def W8(hit:Nd→Bool):List Nd→Option (List UInt8)
 |[]=>none
 |x::l=>match Nf hit x with
  |some s=>some s
  |none=>W8 hit l
end
theorem Vo(hit:Nd→Bool)(n:Nd):Nf hit n=if hit n then some n.name else W8 hit n.kids:=by cases n;rw[Nf];rfl
def trC(code:Int)(o:Option (List UInt8)):Int:=match o with
 |some _=>code
 |none=>0
abbrev trV(code:Int)(o:Option (List UInt8)):AV:=.agg [vi (trC code o),str (o.getD [])]
set_option maxHeartbeats 1000000 in
theorem Aov(l:List Nd)(code:Int)(hc:code≠0)(g:FuncId)(caps:List AV)(hit:Nd→Bool)(Q:Nd→Prop)(hl:l.length≤1000000000) [hok:OKL 0 0 caps](hcat:∀xs,Kg xs caps=some (xs++caps))
 (hQ:∀x,Q x→(Gq x.kind=0→hit x=false)∧(Gq x.kind≠0→Pure X g (vi (Gq x.kind)::vi (Xc l x.name)::caps) (vb (hit x)))∧∀k,k∈x.kids→hit x=false→Q k)(n:Nd)(hn:Ai n≤1000000000)(hq:Q n) :
 Pure X 227 [.sl (Ap l) .no,nd n,vi code,.fn g caps] (trV code (Nf hit n)):=by
 have hok2:OKL 2 0 caps:=⟨fun x hx=>(hok.ok x hx).mono (by omega) (by omega)⟩
 have hfl:R6 X.P 150=some [0,1]:=by kernel_rfl
 induction n using Nd.ind with
 |h n ih=>
  have hcn:=Cj n;have hll:=Bm n.kids;obtain⟨hq0,hq1,hq2⟩:=hQ n hq;have hloop:hit n=false→AK X ⟨227,f227,0,0⟩ (Lm false 4 f227) [(0,.sl (Ap l) .no),(2,vi code),(3,.fn g caps),(5,.ptr 0 0 0),(8,.ptr 1 0 0)] ⟨[[Af n],[[vi 0,str []]]],[]⟩
   (fun e S=>e=.ret (trV code (Nf hit n))∧S=⟨[],[]⟩):=fun hf=>by
   rw[Vo,if_neg (by simp[hf])];refine D5 ?_;refine Bi 100 rfl ?_;refine Ar (ι:=Nat) 2 0 (fun i=>i≤n.kids.length∧W8 hit n.kids=W8 hit (n.kids.drop i)) (fun i=>[(34,vi i),(33,vi n.kids.length),(32,.sl (Ap n.kids) .no),(0,.sl (Ap l) .no),(2,vi code),(3,.fn g caps),(5,.ptr 0 0 0),(8,.ptr 1 0 0)])
    (fun _=>⟨[[Af n],[[vi 0,str []]]],[]⟩) (fun i=>n.kids.length-i) ?_ 0 ⟨B3 _,rfl⟩ ⟨rfl,by rw[←Ad n.kids];rfl,rfl,rfl,rfl,rfl,rfl,rfl,trivial⟩
   rintro i ⟨hi,hTi⟩ IH;refine C7 (fun h=>?_) (fun h=>?_)
   ·have hlt:i<n.kids.length:=by have:=A5 h;omega
    obtain⟨x,hx⟩:=Ab n.kids hlt;have hm:=Bh hx;rw[B6 hx]at hTi;simp only[W8]at hTi;refine B4 i (by omega) (Am hx) ?_;refine Al (ih x hm (by have:=E5 hm;omega) (hq2 x hm hf)) ?_;generalize Nf hit x=o at hTi⊢;refine Bn (Vi (r:=!((trC code o==0)&&((o.getD []==[])&&true))) rfl rfl rfl rfl rfl hfl rfl (.inr ⟨rfl,rfl⟩)) ?_;cases o with
    |some s=>
     simp only at hTi;refine A0 ?_ (ht:=by simp[trC,hc]);refine As func227 ?_;rw[hTi]
    |none=>
     simp only at hTi;refine Ag ?_;exact IH (i+1) ⟨hlt,hTi⟩ (by omega) _ _ ⟨vsx (by omega),rfl,rfl,rfl,rfl,rfl,rfl,rfl,trivial⟩ rfl rfl rfl
   ·have hie:i=n.kids.length:=by have:=Ba h;omega
    rw[hie,Hz]at hTi;refine As func227 ?_;rw[hTi];rfl
  refine Pure.run func227 ?_;refine Al (Ays n) ?_;refine Df (fun h1=>?_) (fun h1=>?_)
  ·have h1':Gq n.kind≠0:=by have:(!(Gq n.kind==0))=true:=h1;simpa using this
   refine Al (Akb n.name) ?_;refine Al (Adr l 226 [.cptr [str n.name]] (fun d=>d.name==n.name) hl (fun x _=>Afv x n.name) (Asu _)) ?_;refine Al (hq1 h1') ?_ (hzs:=hcat _);refine Ey 0 4 (fun h2=>?_) (fun h2=>?_)
   ·have h2':hit n=true:=h2;rw[Vo,if_pos h2'];exact As func227 rfl
   ·exact Bz 2 0 (hloop h2) ⟨rfl,rfl,rfl,rfl,rfl,trivial⟩ rfl rfl rfl rfl rfl
  ·have h1':Gq n.kind=0:=by have:(!(Gq n.kind==0))=false:=h1;simpa using this
   refine Ey (e:=false) 0 4 (fun h2=>nomatch h2) (fun _=>?_);exact Bz 2 0 (hloop (hq0 h1')) ⟨rfl,rfl,rfl,rfl,rfl,trivial⟩ rfl rfl rfl rfl rfl
def Ng(l:List Nd)(x:Nd):Bool:=!(Gq x.kind==0)&&decide (Xc l x.name<0)
def Wc(l:List Nd)(x:Nd):Bool:=!(Gq x.kind==0)&&!((l.getD (Xc l x.name).toNat Cg).kind==Gq x.kind)
theorem Auo(a b:Int):Pure X 228 [vi a,vi b] (vb (decide (b<0))):=by
 refine Pure.run func228 ?_;exact As func228 rfl
theorem Aup(l:List Nd)(a b:Int)(h0:0≤b)(h1:b<l.length):Pure X 229 [vi a,vi b,.cptr [.sl (Ap l) .no]] (vb (!((l.getD b.toNat Cg).kind==a))):=by
 obtain⟨x,hx⟩:=Ab l (i:=b.toNat) (by omega);have:l.getD b.toNat Cg=x:=by simp[List.getD,hx]
 rw[this];refine Pure.run func229 ?_;refine B4 b h0 (Am hx) ?_;exact As func229 rfl
theorem An5{p:Nd→Bool}:∀{l:List Nd}{i:Nat},Km p i l<((i+l.length:Nat):Int)
 |[],i=>by simp only[Km];omega
 |x::l,i=>by
  simp only[Km,Nn];split
  ·omega
  ·have:=An5 (p:=p) (l:=l) (i:=i+1);omega
def Adj(l:List Nd)(n:Nd):Int×List UInt8:=match Nf (Ng l) n with
 |some s=>(7,s)
 |none=>(trC 8 (Nf (Wc l) n),(Nf (Wc l) n).getD [])
theorem Zx{hit:Nd→Bool}:∀{l:List Nd},W8 hit l=none→∀x,x∈l→Nf hit x=none
 |[],_,x,hx=>by cases hx
 |y::l,h,x,hx=>by
  simp only[W8]at h;split at h
  ·cases h
  ·rename_i hy;rcases zzq13.1 hx with rfl|hx
   ·exact hy
   ·exact Zx h x hx
theorem Aib(l:List Nd)(n:Nd)(hl:l.length≤1000000000)(hn:Ai n≤1000000000):Pure X 167 [.sl (Ap l) .no,nd n] (.agg [vi (Adj l n).1,str (Adj l n).2]):=by
 have hfl:R6 X.P 150=some [0,1]:=by kernel_rfl
 have h7:=Aov l 7 (by decide) 228 [] (Ng l) (fun _=>True) hl A02 (fun x _=>⟨fun h=>by simp[Ng,h],fun h=>by
  have:Ng l x=decide (Xc l x.name<0):=by simp[Ng,h]
  rw[this];exact Auo _ _,fun _ _ _=>trivial⟩) n hn trivial
 have h8:Nf (Ng l) n=none→Pure X 227 [.sl (Ap l) .no,nd n,vi 8,.fn 229 [.cptr [.sl (Ap l) .no]]] (trV 8 (Nf (Wc l) n)):=fun h0=>
  Aov l 8 (by decide) 229 [.cptr [.sl (Ap l) .no]] (Wc l) (fun x=>Nf (Ng l) x=none) hl (Asu _) (fun x hx=>by
   rw[Vo]at hx;have hx7:Ng l x=false:=by
    cases h:Ng l x with
    |false=>rfl
    |true=>rw[h]at hx;simp at hx
   rw[hx7]at hx;refine⟨fun h=>by simp[Wc,h],fun h=>?_,fun k hk _=>Zx (by simpa using hx) k hk⟩;have:Wc l x=!((l.getD (Xc l x.name).toNat Cg).kind==Gq x.kind):=by simp[Wc,h]
   rw[this];have hlt:=An5 (p:=fun d=>d.name==x.name) (l:=l) (i:=0);have h0:¬Xc l x.name<0:=by
    intro hh;simp[Ng,h,hh]at hx7
   exact Aup l _ _ (by omega) (by simpa[Xc]using hlt)) n hn h0
 unfold Adj;refine Pure.mk func167 rfl rfl (by kernel_rfl) ?_;refine Kv 0 100 rfl ?_;refine Bi 1 rfl ?_;refine Bn (Aco (x:=.sl (Ap l) .no)) ?_;refine Al h7 ?_;generalize Nf (Ng l) n=o at h8⊢;refine Bn (Vi (r:=!((trC 7 o==0)&&((o.getD []==[])&&true))) rfl rfl rfl rfl rfl hfl rfl (.inr ⟨rfl,rfl⟩)) ?_;cases o with
 |some s=>
  refine A0 ?_;exact As func167 rfl
 |none=>
  refine Ag ?_;refine Al (h8 rfl) ?_;exact As func167 rfl
inductive PlO:Nd→Prop where
 |mk (k:Int) (s:List UInt8) (m:Int) (ks:List Nd) (hk:∀x,x∈ks→PlO x)
   (hf:∀x,x∈ks→x.kind=26→∃a b k' s' m' l,x.kids=[a,b,.mk k' s' m' l]∧a.kind≠26∧b.kind≠26∧k'≠26):PlO (.mk k s m ks)
theorem PlO.kids{n:Nd}(h:PlO n):(∀x,x∈n.kids→PlO x)∧∀x,x∈n.kids→x.kind=26→∃a b k' s' m' l,x.kids=[a,b,.mk k' s' m' l]∧a.kind≠26∧b.kind≠26∧k'≠26:=by
 cases h with|mk k s m ks hk hf=>exact⟨hk,hf⟩
theorem PlO.leaf{k:Int}{s:List UInt8}{m:Int}:PlO (.mk k s m []):=.mk k s m [] (fun x h=>by cases h) (fun x h=>by cases h)
theorem Wz{n:Nd}(h:FE n):PlO n:=by
 induction h with
 |num m h0 h1=>exact .leaf
 |var s h=>exact .leaf
 |cell s a h ha ih=>exact .mk _ _ _ _ (fun x hx=>by simp at hx;subst hx;exact ih) (fun x hx h26=>by simp at hx;subst hx;have:=Cy ha;omega)
 |len s h=>exact .leaf
 |neg a ha ih=>exact .mk _ _ _ _ (fun x hx=>by simp at hx;subst hx;exact ih) (fun x hx h26=>by simp at hx;subst hx;have:=Cy ha;omega)
 |two k a b hk ha hb iha ihb=>
  exact .mk _ _ _ _ (fun x hx=>by simp at hx;rcases hx with rfl|rfl;exact iha;exact ihb) (fun x hx h26=>by
   simp at hx;rcases hx with rfl|rfl
   ·have:=Cy ha;omega
   ·have:=Cy hb;omega)
theorem Tw{n:Nd}(h:FC n):PlO n:=by
 cases h with
 |mk k a b h0 h1 ha hb=>
  exact .mk _ _ _ _ (fun x hx=>by simp at hx;rcases hx with rfl|rfl;exact Wz ha;exact Wz hb) (fun x hx h26=>by
   simp at hx;rcases hx with rfl|rfl
   ·have:=Cy ha;omega
   ·have:=Cy hb;omega)
theorem Qf{l:List Nd}(hl:∀x,x∈l→FS x)(h:∀x,x∈l→PlO x):PlO (.mk 30 [] 0 l):=
 .mk _ _ _ _ h fun x hx h26=>by
  have:=hl x hx;cases this with
  |for_ s a b l' hs ha hb hl'=>exact⟨a,b,30,[],0,l',rfl,by have:=Cy ha;omega,by have:=Cy hb;omega,by omega⟩
  |_=>simp at h26
theorem Agx{n:Nd}(h:FS n):PlO n:=by
 induction h with
 |set s a h ha=>exact .mk _ _ _ _ (fun x hx=>by simp at hx;subst hx;exact Wz ha) (fun x hx h26=>by simp at hx;subst hx;have:=Cy ha;omega)
 |put s a b h ha hb=>
  exact .mk _ _ _ _ (fun x hx=>by simp at hx;rcases hx with rfl|rfl;exact Wz ha;exact Wz hb) (fun x hx h26=>by
   simp at hx;rcases hx with rfl|rfl
   ·have:=Cy ha;omega
   ·have:=Cy hb;omega)
 |read s h=>exact .leaf
 |ifs c l l' hc hl hl' ihl ihl'=>
  exact .mk _ _ _ _ (fun x hx=>by simp at hx;rcases hx with rfl|rfl|rfl;exact Tw hc;exact Qf hl ihl;exact Qf hl' ihl') (fun x hx h26=>by
   simp at hx;rcases hx with rfl|rfl|rfl
   ·have:=J0 hc;omega
   ·simp at h26
   ·simp at h26)
 |whil c l hc hl ihl=>
  exact .mk _ _ _ _ (fun x hx=>by simp at hx;rcases hx with rfl|rfl;exact Tw hc;exact Qf hl ihl) (fun x hx h26=>by
   simp at hx;rcases hx with rfl|rfl
   ·have:=J0 hc;omega
   ·simp at h26)
 |for_ s a b l h ha hb hl ihl=>
  exact .mk _ _ _ _ (fun x hx=>by simp at hx;rcases hx with rfl|rfl|rfl;exact Wz ha;exact Wz hb;exact Qf hl ihl) (fun x hx h26=>by
   simp at hx;rcases hx with rfl|rfl|rfl
   ·have:=Cy ha;omega
   ·have:=Cy hb;omega
   ·simp at h26)
 |check c hc=>exact .mk _ _ _ _ (fun x hx=>by simp at hx;subst hx;exact Tw hc) (fun x hx h26=>by simp at hx;subst hx;have:=J0 hc;omega)
 |skip=>exact .leaf
 |stop=>exact .leaf
theorem A0l{n:Nd}(h:FP n):PlO n:=by
 cases h with
 |mk ds l hd hl=>
  refine .mk _ _ _ _ (fun x hx=>?_) (fun x hx h26=>?_)
  ·rcases zzq45.1 hx with h|h
   ·cases hd x h with
    |var s h=>exact .leaf
    |arr s m h h0 h1=>exact .leaf
   ·simp at h;subst h;exact Qf hl fun x hx=>Agx (hl x hx)
  ·rcases zzq45.1 hx with h|h
   ·have:=Abx (hd x h);omega
   ·simp at h;subst h;simp at h26
abbrev Axk(s:List UInt8):Nd:=.mk 21 s 0 [.mk 6 [] 0 [.mk 2 s 0 [],.mk 1 [] 1 []]]
def HPl(n:Nd):Prop:=Hands X 56 [nd n] ⟨[],[]⟩ (.agg [vi n.kind,str n.name,vi n.num,.sl (Ap (Br n.kids)) (.tok 0)]) ⟨[],[(Br n.kids).length]⟩
theorem HPl.pure{n:Nd}(h:HPl n):Pure X 56 [nd n] (nd (A6 n)):=by
 have:=Hands.pure h;obtain⟨k,s,m,ks⟩:=n;rw[Bd];exact this
theorem Au2(xs:List UInt8)(a' b':Nd)(k':Int)(s':List UInt8)(m':Int)(l':List Nd):Ap [.mk 21 xs 0 [a'],.mk 25 [] 0 [.mk 11 [] 0 [.mk 2 xs 0 [],b'],.mk k' s' m' l']] =
 [[vi 21,str xs,vi 0,.sl [Af a'] .no],[vi 25,str [],vi 0,.sl [[vi 11,str [],vi 0,.sl [[vi 2,str xs,vi 0,.sl [] .no],Af b'] .no],[vi k',str s',vi m',.sl (Ap l') .no]] .no]]:=by
 have e1:Ap [a']=[Af a']:=Au _;have e2:Ap [.mk 2 xs 0 [],b']=[Af (.mk 2 xs 0 []),Af b']:=Au _;have e3:Ap [.mk 11 [] 0 [.mk 2 xs 0 [],b'],.mk k' s' m' l']=[Af (.mk 11 [] 0 [.mk 2 xs 0 [],b']),Af (.mk k' s' m' l')]:=Au _;have e4:Ap [.mk 21 xs 0 [a'],.mk 25 [] 0 [.mk 11 [] 0 [.mk 2 xs 0 [],b'],.mk k' s' m' l']]=[Af (.mk 21 xs 0 [a']),Af (.mk 25 [] 0 [.mk 11 [] 0 [.mk 2 xs 0 [],b'],.mk k' s' m' l'])]:=Au _;rw[e4];simp only[Af,M6,Vw,Aai,Gh,e1,e3,e2];rfl
set_option maxHeartbeats 2000000 in
theorem Atd(n:Nd)(ih:∀x,x∈n.kids→PlO x→wN x≤1000000000→HPl x)(ih2:∀x,x∈n.kids→∀y,y∈x.kids→PlO y→wN y≤1000000000→HPl y)(hp:PlO n)(hw:wN n≤1000000000):HPl n:=by
 have hkl:=G7 n;obtain⟨hk,hf⟩:=hp.kids;unfold HPl;refine Hands.run func56 ?_;refine En 2 0 3 rfl rfl rfl rfl rfl rfl ?_;refine Ar (ι:=Nat) 3 1 (fun i=>i≤n.kids.length) (fun i=>[(20,vi i),(19,vi n.kids.length),(18,.sl (Ap n.kids) .no),(1,.ptr 0 0 0),(2,.ptr 1 0 0),(3,.ptr 2 0 0)])
  (fun i=>⟨[[Af n],[zN],[[vi n.kind,str n.name,vi n.num,.sl (Ap (Br (n.kids.take i))) (.tok 0)]]],[(Br (n.kids.take i)).length]⟩) (fun i=>n.kids.length-i) ?_ 0
  (B3 _) ⟨rfl,by rw[←Ad n.kids];rfl,rfl,rfl,rfl,rfl,trivial⟩ (by simp[A4];rfl)
 intro i hi IH;refine C7 (fun h=>?_) (fun h=>?_)
 ·have hlt:i<n.kids.length:=by have:=A5 h;omega
  obtain⟨x,hxg⟩:=Ab n.kids hlt;have hm:=Bh hxg;have hwx:wN x<wN n:=Jg hm;have hsn:Br (n.kids.take (i+1))=Br (n.kids.take i)++G1 x:=by rw[G8,hxg,Uu];simp[Ao,A4]
  have hl1:=Mu (Br (n.kids.take i));have hl2:=Vx (n.kids.take i);have hwk:wL n.kids≤wN n:=by rw[Ws];omega
  have hl3:wL (n.kids.take i)≤wL n.kids:=by
   have:=U7 (n.kids.take i) (n.kids.drop i);rw[Aee]at this;omega
  refine B4 i (by omega) (Am hxg) ?_;refine Ey 0 8 (fun h2=>?_) (fun h2=>?_)
  ·have h2':x.kind≠26:=by have:(!(x.kind==26))=true:=h2;simpa using this
   have hr:=(ih x hm (hk x hm) (by omega)).pure;rw[Bf h2']at hsn;refine Hw 160 3 ?_;refine Ce hr ?_;refine Ch (Bu (res:=Ap (Br (n.kids.take (i+1)))) rfl rfl rfl rfl rfl rfl rfl rfl rfl rfl rfl rfl rfl rfl (Ad _) (Ew _) rfl rfl rfl ?_ ?_ rfl) ?_
   ·rw[Ad];simp;omega
   ·rw[hsn,Au,Au,Kr];rfl
   refine Av ?_;refine Ch (A7 rfl rfl rfl rfl rfl rfl rfl) ?_;refine B2 ?_;refine IH (i+1) hlt (by omega) _ _ ⟨vsx (by omega),rfl,rfl,rfl,rfl,rfl,trivial⟩ ?_ rfl rfl;simp[St.drop,Ad,hsn]
  ·have h2':x.kind=26:=by have:(!(x.kind==26))=false:=h2;simpa using this
   obtain⟨a,b,k',s',m',l,hkx,ha,hb,hc⟩:=hf x hm h2';obtain⟨xk,xs,xm,xks⟩:=x;simp only[M6,Gh]at h2' hkx;subst h2';subst hkx;have hpx:=hk _ hm;have ma:a∈(Nd.mk 26 xs xm [a,b,.mk k' s' m' l]).kids:=by simp
   have mb:b∈(Nd.mk 26 xs xm [a,b,.mk k' s' m' l]).kids:=by simp
   have mc:Nd.mk k' s' m' l∈(Nd.mk 26 xs xm [a,b,.mk k' s' m' l]).kids:=by simp
   have wa:=Jg ma;have wb:=Jg mb;have wc:=Jg mc;have ra:=(ih2 _ hm a ma (hpx.kids.1 a ma) (by omega)).pure;have rb:=(ih2 _ hm b mb (hpx.kids.1 b mb) (by omega)).pure;have rc:=ih2 _ hm _ mc (hpx.kids.1 _ mc) (by omega);have hlc:=Mu (Br l);have hlc2:=Vx l;have hlc3:wL l≤1000000000:=by
    have:=Ws (Nd.mk k' s' m' l);simp only[Gh]at this;omega
   have hp1:G1 (.mk 26 xs xm [a,b,.mk k' s' m' l])=[.mk 21 xs 0 [A6 a],.mk 25 [] 0 [.mk 11 [] 0 [.mk 2 xs 0 [],A6 b],.mk k' s' m' (Br l++[Axk xs])]]:=by
    rw[K6,Ao,Ao,Ao,A4,Bf ha,Bf hb,Bf (x:=.mk k' s' m' l) hc,Bd k'];rfl
   rw[hp1]at hsn;refine Rk 4 0 3 (.sl [] .no) ?_;refine Kv 9 100 rfl ?_;refine Rk 5 0 3 (.sl (Ap [.mk 2 xs 0 [],.mk 1 [] 1 []]) .no) ?_;refine Bi 100 rfl ?_;refine B4 2 (by omega) (rows:=Ap [a,b,.mk k' s' m' l]) (r:=Af (.mk k' s' m' l)) rfl ?_;refine Ae (τ':=[1]) [] [] rc ?_;refine Ait 53 ?_;refine Bn (Bu (res:=Ap (Br l++[Axk xs])) rfl rfl rfl rfl rfl rfl rfl rfl rfl rfl rfl rfl rfl rfl (Ad _) (Ew _) rfl rfl rfl ?_ ?_ rfl) ?_
   ·rw[Ad];simp;omega
   ·show Ap (Br l)++Ap [Axk xs]=_;rw[Aag]
   refine Hw 768 3 ?_;refine Db 1 (by omega) (Aeo a b _) ?_;refine Ce rb ?_;refine Dz (Lu rfl rfl rfl) ?_ ?_
   ·exact An (Ck rfl rfl rfl) (An (Ck rfl rfl rfl) (An (Ck rfl rfl rfl) Gy))
   refine Ch (A7 rfl rfl rfl rfl rfl rfl rfl) ?_;refine Ak3 12 ?_;refine Rk 7 0 3 (.sl [[vi 2,str xs,vi 0,.sl [] .no],Af (A6 b)] .no) ?_;refine Hw 327680 6 ?_;refine Db 0 (by omega) (Wj a _) ?_;refine Js ra ?_;refine M0 6 ?_;refine Wy ?_;refine Ch (Bu (res:=Ap (Br (n.kids.take (i+1)))) rfl rfl rfl rfl rfl rfl rfl rfl rfl rfl rfl rfl rfl rfl (Ad _) (Ew _) rfl rfl rfl ?_ ?_ rfl) ?_
   ·rw[Ad];simp;omega
   ·rw[hsn,Aag (Br (n.kids.take i)),Au2];rfl
   refine Av ?_;refine Ch (A7 rfl rfl rfl rfl rfl rfl rfl) ?_;refine B2 ?_;refine IH (i+1) hlt (by omega) _ _ ⟨vsx (by omega),rfl,rfl,rfl,rfl,rfl,trivial⟩ ?_ rfl rfl;show St.mk [[Af n],[zN],[[vi n.kind,str n.name,vi n.num,.sl (Ap (Br (n.kids.take (i+1)))) (.tok 0)]]] [(Ap (Br (n.kids.take i))).length+2]=_;rw[Ad,hsn];simp
 ·have hie:i=n.kids.length:=by have:=Ba h;omega
  subst hie;rw[I2];exact Zj func56 rfl rfl rfl rfl
theorem Atc(n:Nd)(hp:PlO n)(hw:wN n≤1000000000):HPl n:=by
 have:∀n:Nd,(PlO n→wN n≤1000000000→HPl n)∧∀y,y∈n.kids→PlO y→wN y≤1000000000→HPl y:=by
  intro n
  induction n using Nd.ind with
  |h n ih=>exact⟨Atd n (fun x hx=>(ih x hx).1) (fun x hx y hy=>(ih x hx).2 y hy),fun y hy=>(ih y hy).1⟩
 exact(this n).1 hp hw
theorem Afx(n:Nd)(hp:PlO n)(hw:wN n≤1000000000):Pure X 56 [nd n] (nd (A6 n)):=(Atc n hp hw).pure
theorem PrI.get{n:Nd}(h:PrI n):-9223372036854775808≤n.num∧n.num≤9223372036854775807∧∀x,x∈n.kids→PrI x:=by
 cases h with|mk k s m ks h0 h1 hk=>exact⟨h0,h1,hk⟩
theorem PrI.num1{k:Int}{s:List UInt8}{m:Int}{ks:List Nd}(h0:0≤m)(h1:m≤1)(hk:∀x,x∈ks→PrI x):PrI (.mk k s m ks):=.mk k s m ks (by omega) (by omega) hk
theorem Auf{x:Nd}(h:PrI x):∀y,y∈[x]→PrI y:=fun y hy=>by simp at hy;subst hy;exact h
theorem Ah8{a b:Nd}(ha:PrI a)(hb:PrI b):∀y,y∈[a,b]→PrI y:=fun y hy=>by
 simp at hy;rcases hy with rfl|rfl
 ·exact ha
 ·exact hb
theorem A17(s:List UInt8):PrI (Axk s):=.num1 (by omega) (by omega) (Auf (.num1 (by omega) (by omega) (Ah8 (.num1 (by omega) (by omega) (fun x h=>by cases h)) (.num1 (by omega) (by omega) (fun x h=>by cases h)))))
theorem Ayd(s:List UInt8)(l:List Nd)(h:∀x,x∈l→PrI x):∀y,y∈Aem s l→PrI y:=by
 unfold Aem;split
 ·rename_i a b k' s' m' l';have ha:=h a (by simp);have hb:=h b (by simp);have hc:=(h (.mk k' s' m' l') (by simp)).get;refine Ah8 (.num1 (by omega) (by omega) (Auf ha)) (.num1 (by omega) (by omega) (Ah8 (.num1 (by omega) (by omega) (Ah8 (.num1 (by omega) (by omega) (fun x h=>by cases h)) hb)) (.mk k' s' m' _ hc.1 hc.2.1 fun x hx=>?_)));rcases zzq45.1 hx with hx|hx
  ·exact hc.2.2 x hx
  ·simp at hx;subst hx;exact A17 s
 ·intro y hy;cases hy
theorem Aug:(∀n:Nd,PrI n→PrI (A6 n)∧∀y,y∈G1 n→PrI y)∧∀l:List Nd,(∀x,x∈l→PrI x)→∀y,y∈Br l→PrI y:=by
 refine Ro (fun k s m ks ih hp=>?_) (fun _ y hy=>by rw[A4]at hy;cases hy) (fun x l hx hl hp y hy=>?_)
 ·have hg:=hp.get;have h1:PrI (A6 (.mk k s m ks)):=by rw[Bd];exact .mk k s m _ hg.1 hg.2.1 (ih hg.2.2)
  refine⟨h1,fun y hy=>?_⟩;by_cases hk:k=26
  ·subst hk;rw[K6]at hy;exact Ayd s _ (ih hg.2.2) y hy
  ·rw[Bf (x:=.mk k s m ks) hk]at hy;simp at hy;subst hy;exact h1
 ·rw[Ao]at hy;rcases zzq45.1 hy with hy|hy
  ·exact(hx (hp x (by simp))).2 y hy
  ·exact hl (fun z hz=>hp z (by simp[hz])) y hy
theorem PrI.plain{n:Nd}(h:PrI n):PrI (A6 n):=(Aug.1 n h).1
theorem Akq:∀{l:List Nd}{pre:List (List UInt8)},twG pre l=none→(∀d,d∈l→has pre d.name=false)∧∀x,x∈l→∀y,y∈l→x.name=y.name→x=y
 |[],pre,_=>⟨fun d h=>(by cases h),fun x h _ _ _=>(by cases h)⟩
 |d::l,pre,h=>by
  simp only[twG]at h;split at h
  ·cases h
  ·rename_i hd;obtain⟨h1,h2⟩:=Akq h;have h3:∀e,e∈l→has pre e.name=false∧d.name≠e.name:=fun e he=>by
    have:=h1 e he;rw[Aho,Pe]at this;refine⟨this.1,fun hh=>?_⟩;have:=this.2;simp[has,hh]at this
   refine⟨fun e he=>?_,fun x hx y hy hxy=>?_⟩
   ·rcases zzq13.1 he with rfl|he
    ·simpa using hd
    ·exact(h3 e he).1
   ·rcases zzq13.1 hx with rfl|hx<;>rcases zzq13.1 hy with rfl|hy
    ·rfl
    ·exact absurd hxy (h3 y hy).2
    ·exact absurd hxy.symm (h3 x (by assumption)).2
    ·exact h2 x hx y hy hxy
theorem Vu(l:List Nd)(k:Int)(s:List UInt8):has (Fa l k) s=l.any fun d=>(d.kind==k)&&(d.name==s):=by
 induction l with
 |nil=>rfl
 |cons d l ih=>
  simp only[Fa,has,Abo]at ih⊢;by_cases h:(d.kind==k)=true
  ·rw[if_pos h];simp only[N0,Ze,h,Re,ih]
  ·rw[if_neg h];have h':(d.kind==k)=false:=by simpa using h
   simp only[Ze,h',Bool.false_and,Bool.false_or,ih]
theorem Ajk(l:List Nd)(s:List UInt8):decide (Xc l s<0)=!(l.any fun d=>d.name==s):=by
 rw[←Yk _ l 0];show decide (Xc l s<0)=!decide (Xc l s≥0);by_cases h:Xc l s<0
 ·rw[Zd h,Mc (show ¬Xc l s≥0 by omega)];rfl
 ·rw[Mc h,Zd (show Xc l s≥0 by omega)];rfl
theorem O9(k:Int):(Gq k=31∧Kj k=1)∨(Gq k=32∧Kj k=2)∨(Gq k=0∧Kj k=0):=by
 unfold Gq Kj
 repeat' split
 all_goals simp
theorem Ate{l:List Nd}(hk:∀d,d∈l→d.kind=31∨d.kind=32)(s:List UInt8):(l.any fun d=>d.name==s)=(has (Fa l 31) s||has (Fa l 32) s):=by
 rw[Vu,Vu]
 induction l with
 |nil=>rfl
 |cons d l ih=>
  simp only[Ze];rw[ih fun e he=>hk e (by simp[he])];rcases hk d (by simp)with h|h<;>simp[h]
  ·cases (d.name==s)<;>simp
  ·cases (d.name==s)<;>simp[Bool.or_comm,Bool.or_left_comm]
theorem Aw8{l:List Nd}(hk:∀d,d∈l→d.kind=31∨d.kind=32)(x:Nd):Ng l x=Hv (Fa l 31) (Fa l 32) 7 x.kind x.name:=by
 unfold Ng Hv;rw[Ajk,Ate hk,Ug,Ug];rcases O9 x.kind with⟨h1,h2⟩|⟨h1,h2⟩|⟨h1,h2⟩<;>simp[h1,h2]
theorem Axj{p:Nd→Bool}{l:List Nd}(h:(l.any p)=true):∃d,d∈l∧p d=true∧l.getD (Km p 0 l).toNat Cg=d:=by
 have h0:Km p 0 l≠-1:=by
  intro e;have:=Yk p l 0;rw[h,e]at this;simp at this
 obtain⟨j,d,h1,h2,h3,_⟩:=Z4 h0;refine⟨d,Bh h2,h3,?_⟩;rw[h1];simp[List.getD,h2]
theorem Aw9{l:List Nd}(hk:∀d,d∈l→d.kind=31∨d.kind=32)(hu:∀x,x∈l→∀y,y∈l→x.name=y.name→x=y)(x:Nd)(h7:Ng l x=false):Wc l x=Hv (Fa l 31) (Fa l 32) 8 x.kind x.name:=by
 unfold Ng at h7;unfold Wc Hv;rw[Ajk]at h7;rw[Ug,Ug,Vu,Vu];by_cases hw:Gq x.kind=0
 ·rcases O9 x.kind with⟨h1,h2⟩|⟨h1,h2⟩|⟨h1,h2⟩<;>simp[h1,h2]<;>omega
 ·have ha:(l.any fun d=>d.name==x.name)=true:=by
   simp[hw]at h7;simpa using h7
  obtain⟨d,hd,hn,hg⟩:=Axj ha;have hn':d.name=x.name:=by simpa using hn
  have one:∀k:Int,(l.any fun e=>(e.kind==k)&&(e.name==x.name))=(d.kind==k):=fun k=>by
   cases hdk:(d.kind==k)with
   |true=>exact List.any_eq_true.2 ⟨d,hd,by simp[hdk,hn']⟩
   |false=>
    rw[List.any_eq_false];intro e he hh;simp at hh;have:=hu e he d hd (by rw[hh.2,hn']);subst this;simp at hdk;exact hdk hh.1
  have hgk:(l.getD (Xc l x.name).toNat Cg).kind=d.kind:=by rw[Xc,hg]
  rw[one,one,hgk];rcases O9 x.kind with⟨h1,h2⟩|⟨h1,h2⟩|⟨h1,h2⟩<;>rcases hk d hd with h3|h3<;>simp[h1,h2,h3]
def oV(o:Option (List UInt8)):List UInt8×Bool:=match o with
 |some s=>(s,true)
 |none=>([],false)
theorem A28{l:List Nd}(hk:∀d,d∈l→d.kind=31∨d.kind=32):(∀n:Nd,G2 (Fa l 31) (Fa l 32) 7 n=oV (Nf (Ng l) n))∧∀ks:List Nd,My (Fa l 31) (Fa l 32) 7 ks=oV (W8 (Ng l) ks):=by
 refine Ro (fun k s m ks ih=>?_) rfl (fun x ks hx hl=>?_)
 ·rw[Ra,Vo,Aw8 hk];by_cases hh:Hv (Fa l 31) (Fa l 32) 7 (Nd.mk k s m ks).kind (Nd.mk k s m ks).name=true
  ·rw[if_pos hh,if_pos hh];rfl
  ·rw[if_neg hh,if_neg hh];exact ih
 ·simp only[My,W8];rw[hx];cases Nf (Ng l) x with
  |some s=>rfl
  |none=>simp[oV];exact hl
theorem A29{l:List Nd}(hk:∀d,d∈l→d.kind=31∨d.kind=32)(hu:∀x,x∈l→∀y,y∈l→x.name=y.name→x=y) :
 (∀n:Nd,Nf (Ng l) n=none→G2 (Fa l 31) (Fa l 32) 8 n=oV (Nf (Wc l) n))∧∀ks:List Nd,W8 (Ng l) ks=none→My (Fa l 31) (Fa l 32) 8 ks=oV (W8 (Wc l) ks):=by
 refine Ro (fun k s m ks ih h0=>?_) (fun _=>rfl) (fun x ks hx hl h0=>?_)
 ·rw[Vo]at h0;have h7:Ng l (.mk k s m ks)=false:=by
   cases h:Ng l (.mk k s m ks)with
   |false=>rfl
   |true=>rw[h]at h0;simp at h0
  rw[h7]at h0;rw[Ra,Vo,Aw9 hk hu _ h7];by_cases hh:Hv (Fa l 31) (Fa l 32) 8 (Nd.mk k s m ks).kind (Nd.mk k s m ks).name=true
  ·rw[if_pos hh,if_pos hh];rfl
  ·rw[if_neg hh,if_neg hh];exact ih (by simpa using h0)
 ·have h1:=Zx h0 x (by simp);have h2:W8 (Ng l) ks=none:=by simp only[W8,h1]at h0;exact h0
  simp only[My,W8];rw[hx h1];cases Nf (Wc l) x with
  |some s=>rfl
  |none=>simp[oV];exact hl h2
theorem Auj(x:Nd):Pure X 165 [nd x] (vb (decide (60<x.num))):=by
 refine Pure.run func165 ?_;exact As func165 rfl
theorem Pn(n:Nd)(k:Int):(Nc n k).length=(Ax n k).length:=by simp[Nc,Ax,Fa]
theorem Aln{n:Nd}(hd:∀d,d∈n.kids.dropLast→FV d):((Nc n 32).any fun d=>decide (60<d.num))=bigS n.kids.dropLast:=by
 unfold Nc bigS;rw[Bool.eq_iff_iff];simp only[List.any_eq_true,zzq56,Ke,zzq54];constructor
 ·rintro⟨d,⟨h1,_⟩,h3⟩;exact⟨d,h1,h3⟩
 ·rintro⟨d,h1,h3⟩;refine⟨d,⟨h1,?_⟩,h3⟩;have:=hd d h1;cases this with
  |var s h=>simp at h3
  |arr s m h h0 h1=>rfl
theorem Ar0{n:Nd}(h:FP n):n.kids≠[]∧∀d,d∈n.kids.dropLast→FV d:=by
 cases h with
 |mk ds l hd hl=>exact⟨by simp,by simpa using hd⟩
def Uv(n:Nd):Nd:=if (E4 n).1=0 then A6 n else Cg
set_option maxHeartbeats 1000000 in
theorem Ayh(n:Nd)(hn:Ai n≤1000000000)(hnum:PrI n):Pure X 104 [nd n] (.tup [nd (Uv n),.agg [vi (E4 n).1,str (E4 n).2]]):=by
 have hfl:R6 X.P 150=some [0,1]:=by kernel_rfl
 refine Pure.run func104 ?_;refine Al (Akd n hn hnum) ?_;refine Ah (fun h1=>?_) (fun h1=>?_)
 ·have h1':Dq n=false:=by have:(!Dq n)=true:=h1;simpa using this
  have hC:E4 n=(4,[]):=by unfold E4;rw[if_neg (by simp[h1'])]
  unfold Uv;rw[hC];exact As func104 rfl
 have h1':Dq n=true:=by have:(!Dq n)=false:=h1;simpa using this
 obtain⟨fp,hc,hdp⟩:=Ss h1';obtain⟨hkn,hFV⟩:=Ar0 fp;have hw9:wN n≤4500:=by
  have:=Aau n (Zl fp);omega
 have hcn:=Cj n;have hll:=Bm n.kids;have hdl:n.kids.dropLast.length≤1000:=by rw[List.length_dropLast];omega
 have hkind:∀d,d∈n.kids.dropLast→d.kind=31∨d.kind=32:=fun d hd=>Abx (hFV d hd);have hfK:∀k,(Nc n k).length≤1000:=fun k=>Pb (Abm _ _) hdl;have e0:E4 n=E4 n:=rfl
 conv at e0=>rhs;rw[E4,if_pos h1']
 refine Hw 0 1 ?_;refine Ce (Aou n hkn (by omega)) ?_;refine Ce (Sv n 32 hkn (by omega)) ?_;refine B2 ?_;refine Al (Sv n 31 hkn (by omega)) ?_;refine Df (fun h2=>?_) (fun h2=>?_)
 ·have h2':8<(Ax n 31).length:=by have:=A5 h2;rw[Ad,Pn]at this;omega
  have hC:E4 n=(3,[]):=by rw[e0,if_pos (by simp[Um,h2'])]
  refine Hh ?_;refine A0 ?_;unfold Uv;rw[hC];exact As func104 rfl
 have h2':¬8<(Ax n 31).length:=by have:=Ba h2;rw[Ad,Pn]at this;omega
 refine Df (fun h3=>?_) (fun h3=>?_)
 ·have h3':4<(Ax n 32).length:=by have:=A5 h3;rw[Ad,Pn]at this;omega
  have hC:E4 n=(3,[]):=by rw[e0,if_pos (by simp[Um,h3'])]
  refine A0 ?_;unfold Uv;rw[hC];exact As func104 rfl
 have h3':¬4<(Ax n 32).length:=by have:=Ba h3;rw[Ad,Pn]at this;omega
 have hmany:¬Um n=true:=by simp[Um]<;>omega
 rw[if_neg hmany]at e0;have hbig:=Uw (Nc n 32) 165 [] (fun d=>decide (60<d.num)) (by have:=hfK 32;omega) (fun x _=>Auj x) A02;rw[Aln hFV]at hbig;refine Al hbig ?_;refine Ah (fun h4=>?_) (fun h4=>?_)
 ·have h4':bigS n.kids.dropLast=true:=h4;have hC:E4 n=(3,[]):=by rw[e0,if_pos h4']
  unfold Uv;rw[hC];exact As func104 rfl
 have h4':¬bigS n.kids.dropLast=true:=by have:bigS n.kids.dropLast=false:=h4;simp[this]
 rw[if_neg h4']at e0;have htw:∀i,twG ((n.kids.dropLast.take i).map Nd.name) (n.kids.dropLast.drop i)=twG [] n.kids.dropLast→True:=fun _ _=>trivial;refine Ar (ι:=Nat) 3 0 (fun i=>i≤n.kids.dropLast.length∧twG ((n.kids.dropLast.take i).map Nd.name) (n.kids.dropLast.drop i)=twG [] n.kids.dropLast)
  (fun i=>[(36,vi i),(35,vi n.kids.dropLast.length),(34,.sl (Ap n.kids.dropLast) .no),(4,.sl (Ap n.kids.dropLast) .no),(1,.ptr 0 0 0),(2,.ptr 1 0 0),(3,.ptr 2 0 0)])
  (fun i=>⟨[[Af n],[zN],[[vi 0,str []]]],[]⟩) (fun i=>n.kids.dropLast.length-i) ?_ 0 ⟨B3 _,rfl⟩ ⟨rfl,by rw[←Ad n.kids.dropLast];rfl,rfl,rfl,rfl,rfl,rfl,trivial⟩ rfl rfl rfl rfl rfl
  (fun _=>inferInstance) (fun _=>inferInstance)
 rintro i ⟨hi,hT⟩ IH;refine C7 (fun h5=>?_) (fun h5=>?_)
 ·have hlt:i<n.kids.dropLast.length:=by have:=A5 h5;omega
  obtain⟨d,hd⟩:=Ab n.kids.dropLast hlt;rw[B6 hd]at hT;simp only[twG]at hT;have hin:((Ap n.kids.dropLast).take i).drop 0=Ap (n.kids.dropLast.take i):=by rw[Au,Au,List.drop_zero,List.map_take]
  have hany:((n.kids.dropLast.take i).any fun e=>e.name==d.name)=has ((n.kids.dropLast.take i).map Nd.name) d.name:=by rw[has,List.any_map];rfl
  refine B4 i (by omega) (Am hd) ?_;refine Hw 0 2 ?_;refine Ak2 (fun S'=>Aby (l:=0) (h:=(i:Int)) (r:=Ap (n.kids.dropLast.take i)) rfl rfl rfl rfl rfl rfl rfl rfl rfl (by omega) (by omega) (by rw[Ad];omega) (Ew _) (by rw[Hl];exact hin)) ?_;refine Ce (Akb d.name) ?_;refine Ce (Uw (n.kids.dropLast.take i) 226 [.cptr [str d.name]] (fun e=>e.name==d.name) (by rw[Vd];omega) (fun x _=>Afv x d.name) (Asu _)) ?_;refine B2 ?_;refine Ah (fun h6=>?_) (fun h6=>?_)
  ·have h6':has ((n.kids.dropLast.take i).map Nd.name) d.name=true:=by rw[←hany];exact h6
   rw[if_pos h6']at hT;have hC:E4 n=(6,d.name):=by rw[e0,←hT]
   refine Hw 48 4 ?_;refine Dz (A7 rfl rfl rfl rfl rfl rfl rfl) ?_ ?_
   ·exact An (Ck rfl rfl rfl) Gy
   refine Ch (A7 rfl rfl rfl rfl rfl rfl rfl) ?_;refine B2 ?_;unfold Uv;rw[hC];exact As func104 rfl
  ·have h6':¬has ((n.kids.dropLast.take i).map Nd.name) d.name=true:=by rw[←hany];simp[show _=false from h6]
   rw[if_neg h6']at hT;exact IH (i+1) ⟨hlt,by rw[G8,hd,Kr];exact hT⟩ (by omega) _ _ ⟨vsx (by omega),rfl,rfl,rfl,rfl,rfl,rfl,trivial⟩ rfl rfl rfl
 have hie:i=n.kids.dropLast.length:=by have:=Ba h5;omega
 rw[hie,Hz]at hT;have hT':twG [] n.kids.dropLast=none:=hT.symm;rw[hT']at e0;simp only at e0;obtain⟨_,huq⟩:=Akq hT';have w7:=(A28 hkind).1 (Dt n);have w8:=(A29 hkind huq).1 (Dt n);have hdS:∀k,Ax n k=Fa n.kids.dropLast k:=fun k=>rfl;rw[hdS,hdS,w7]at e0;have hlc:Ai (Dt n)≤1000:=by
  unfold Dt;cases hg:n.kids.getLast? with
  |none=>rw[Aky,hg];decide
  |some b=>
   rw[Aky,hg];have:=E5 (List.mem_of_getLast? hg);simp only[Option.getD_some];omega
 refine Al (Aui n hkn (by omega)) ?_;refine Al (Aib n.kids.dropLast (Dt n) (by omega) (by omega)) ?_;have hnt:Adj n.kids.dropLast (Dt n)=match Nf (Ng n.kids.dropLast) (Dt n)with
  |some s=>(7,s)
  |none=>(trC 8 (Nf (Wc n.kids.dropLast) (Dt n)),(Nf (Wc n.kids.dropLast) (Dt n)).getD []):=rfl
 generalize Adj n.kids.dropLast (Dt n)=T at hnt⊢;refine Bn (Vi (r:=!((T.1==0)&&((T.2==[])&&true))) rfl rfl rfl rfl rfl hfl rfl (.inr ⟨rfl,rfl⟩)) ?_;by_cases hz:Nf (Ng n.kids.dropLast) (Dt n)=none∧Nf (Wc n.kids.dropLast) (Dt n)=none
 ·rw[hz.1,hz.2]at hnt;rw[w8 hz.1,hz.1,hz.2]at e0;simp only[oV,trC]at hnt e0;subst hnt;refine Ag ?_;refine Al (Afx n (A0l fp) (by omega)) ?_;have hpw:=(Ps n).1;have hpc:=Ry (A6 n);refine Al (Akd (A6 n) (by omega) hnum.plain) ?_;refine Ah (fun h7=>?_) (fun h7=>?_)
  ·have h7':Dq (A6 n)=false:=by have:(!Dq (A6 n))=true:=h7;simpa using this
   have hC:E4 n=(5,[]):=by rw[e0];simp[h7']
   unfold Uv;rw[hC];exact As func104 rfl
  ·have h7':Dq (A6 n)=true:=by have:(!Dq (A6 n))=false:=h7;simpa using this
   have hC:E4 n=(0,[]):=by rw[e0];simp[h7']
   unfold Uv;rw[hC];exact As func104 rfl
 ·have hC:E4 n=T∧T.1≠0:=by
   cases h7:Nf (Ng n.kids.dropLast) (Dt n)with
   |some s=>
    rw[h7]at hnt e0;simp only[oV]at e0;rw[hnt,e0];simp
   |none=>
    rw[w8 h7]at e0;rw[h7]at hnt e0;cases h8:Nf (Wc n.kids.dropLast) (Dt n)with
    |none=>exact absurd ⟨h7,h8⟩ hz
    |some s=>
     rw[h8]at hnt e0;simp only[oV,trC]at e0 hnt;rw[hnt,e0];simp
  obtain⟨hC,hC0⟩:=hC;refine A0 ?_ (ht:=by simp[hC0]);refine Hw 12 2 ?_;refine Dz (A7 rfl rfl rfl rfl rfl rfl rfl) ?_ ?_
  ·exact An (Ck rfl rfl rfl) Gy
  refine Ch (A7 rfl rfl rfl rfl rfl rfl rfl) ?_;refine B2 ?_;unfold Uv;rw[hC,if_neg hC0];exact As func104 rfl
structure Eg where
 f:Int
 t:Int
 k:Int
 y:Bool
 n:Nd
structure Lp where
 a:Nd
 l:Nd
 h:Int
 x:Int
structure Gr where
 pts:Nat
 pt:Nat
 es:List Eg
 sts:List Nat
 lps:List Lp
 ver:Nat
def Ox(g:Gr):Gr:={ g with es:=g.es++[⟨g.pt,-1,7,false,Cg⟩],sts:=g.sts++[g.es.length],pts:=g.pts+1,pt:=g.pts }
def Dn(k:Int)(n:Nd)(g:Gr):Gr:={ g with es:=g.es++[⟨g.pt,g.pts,k,false,n⟩],pts:=g.pts+1,pt:=g.pts }
def D7(p:Nat)(c:Nd)(y:Bool)(g:Gr):Gr:={ g with es:=g.es++[⟨p,g.pts,4,y,c⟩],pts:=g.pts+1,pt:=g.pts }
def Ix(f t:Nat)(g:Gr):Gr:={ g with es:=g.es++[⟨f,t,6,false,Cg⟩] }
def Ny(p:Nat)(g:Gr):Gr:={ Ix g.pt g.pts (Ix p g.pts g)with pts:=g.pts+1,pt:=g.pts }
def gIf(c:Nd)(f1 f2:Gr→Gr)(g:Gr):Gr:=Ny (f1 (D7 g.pt c true g)).pt (f2 (D7 g.pt c false (f1 (D7 g.pt c true g))))
def Hp(a n:Nd)(g:Gr):Gr:={ g with lps:=g.lps++[⟨a,n,g.pt,0⟩],ver:=g.ver+1 }
def Ud(i:Nat)(g:Gr):Gr:={ g with lps:=g.lps.modify i fun l=>{ l with x:=g.pt },ver:=g.ver+1 }
def Lf(h:Nat)(g:Gr):Gr:=Ix g.pt h g
def gWh(n a c:Nd)(f:Gr→Gr)(g:Gr):Gr:=
 Ud g.lps.length (D7 g.pts c false (Lf g.pts (f (D7 g.pts c true (Hp a n (Dn 6 Cg g))))))
def gKs(k:Int)(n:Nd)(ks:List Nd)(fs:List (Gr→Gr))(a:Nd)(g:Gr):Gr:=
 if k=21 then Dn 1 n g else if k=22 then Dn 2 n g else if k=23 then Dn 3 n g else if k=27 then Dn 5 (ks.headD Cg) g else if k=28 then Dn 6 Cg g
 else if k=29 then Ox g else if k=24 then gIf (ks.headD Cg) (fs.getD 1 id) (fs.getD 2 id) g else gWh n a (ks.headD Cg) (fs.getD 1 id) g
def goL:List (Nd×(Nd→Gr→Gr)×(Gr→Gr))→Nd→Gr→Gr
 |[],_,g=>g
 |(x,f,_)::l,a,g=>goL l x (f a g)
mutual
def gN:Nd→Nd×(Nd→Gr→Gr)×(Gr→Gr)
 |.mk k s m ks=>(.mk k s m ks,gKs k (.mk k s m ks) ks ((gNs ks).map fun x=>x.2.2),goL (gNs ks) Cg)
def gNs:List Nd→List (Nd×(Nd→Gr→Gr)×(Gr→Gr))
 |[]=>[]
 |x::l=>gN x::gNs l
end
def gS(n a:Nd)(g:Gr):Gr:=(gN n).2.1 a g
def gL:List Nd→Nd→Gr→Gr
 |[],_,g=>g
 |x::l,a,g=>gL l x (gS x a g)
theorem Tg(k:Int)(s:List UInt8)(m:Int)(ks:List Nd):gN (.mk k s m ks)=(.mk k s m ks,gKs k (.mk k s m ks) ks ((gNs ks).map fun x=>x.2.2),goL (gNs ks) Cg):=by rw[gN]
theorem Aw5(x:Nd):(gN x).1=x:=by obtain⟨k,s,m,ks⟩:=x;rw[Tg]
theorem Qk(x:Nd)(l:List Nd):gNs (x::l)=gN x::gNs l:=by rw[gNs]
theorem Ahj:gNs []=[]:=by rw[gNs]
theorem Ahm:∀(l:List Nd)(a:Nd)(g:Gr),goL (gNs l) a g=gL l a g
 |[],a,g=>by rw[Ahj];rfl
 |x::l,a,g=>by
  rw[Qk];have h:gN x=(x,(gN x).2):=Prod.ext (Aw5 x) rfl;rw[h];simp only[goL,gL,gS];exact Ahm l x _
theorem Yi(x:Nd)(l:List Nd)(a:Nd)(g:Gr):gL (x::l) a g=gL l x (gS x a g):=rfl
theorem As6:∀(l l':List Nd)(a:Nd)(g:Gr),gL (l++l') a g=gL l' (l.getLastD a) (gL l a g)
 |[],l',a,g=>rfl
 |x::l,l',a,g=>by simp only[Pz,Yi];rw[As6 l l' x];cases l<;>simp[gL,List.getLastD]
theorem Z1(s:List UInt8)(ks:List Nd)(a:Nd)(g:Gr):gS (.mk 21 s 0 ks) a g=Dn 1 (.mk 21 s 0 ks) g:=by unfold gS;rw[Tg];rfl
theorem Z0(s:List UInt8)(ks:List Nd)(a:Nd)(g:Gr):gS (.mk 22 s 0 ks) a g=Dn 2 (.mk 22 s 0 ks) g:=by unfold gS;rw[Tg];rfl
theorem Vq(s:List UInt8)(ks:List Nd)(a:Nd)(g:Gr):gS (.mk 23 s 0 ks) a g=Dn 3 (.mk 23 s 0 ks) g:=by unfold gS;rw[Tg];rfl
theorem Ql(c a:Nd)(g:Gr):gS (.mk 27 [] 0 [c]) a g=Dn 5 c g:=by unfold gS;rw[Tg];rfl
theorem Vr(a:Nd)(g:Gr):gS (.mk 28 [] 0 []) a g=Dn 6 Cg g:=by unfold gS;rw[Tg];rfl
theorem Vs(a:Nd)(g:Gr):gS (.mk 29 [] 0 []) a g=Ox g:=by unfold gS;rw[Tg];rfl
theorem Afe(c a:Nd)(l l':List Nd)(g:Gr):gS (.mk 24 [] 0 [c,.mk 30 [] 0 l,.mk 30 [] 0 l']) a g=gIf c (gL l Cg) (gL l' Cg) g:=by
 unfold gS;rw[Tg,Qk,Qk,Qk,Ahj,Tg 30,Tg 30,funext fun g=>Ahm l Cg g,funext fun g=>Ahm l' Cg g];rfl
theorem Aff(c a:Nd)(l:List Nd)(g:Gr):gS (.mk 25 [] 0 [c,.mk 30 [] 0 l]) a g=gWh (.mk 25 [] 0 [c,.mk 30 [] 0 l]) a c (gL l Cg) g:=by
 unfold gS;rw[Tg,Qk,Qk,Ahj,Tg 30,funext fun g=>Ahm l Cg g];rfl
inductive PS:Nd→Prop
 |set (s:List UInt8) (a:Nd) (h:nameS s=true) (ha:FE a):PS (.mk 21 s 0 [a])
 |put (s:List UInt8) (a b:Nd) (h:nameS s=true) (ha:FE a) (hb:FE b):PS (.mk 22 s 0 [a,b])
 |read (s:List UInt8) (h:nameS s=true):PS (.mk 23 s 0 [])
 |ifs (c:Nd) (l l':List Nd) (hc:FC c) (hl:∀x,x∈l→PS x) (hl':∀x,x∈l'→PS x):PS (.mk 24 [] 0 [c,.mk 30 [] 0 l,.mk 30 [] 0 l'])
 |whil (c:Nd) (l:List Nd) (hc:FC c) (hl:∀x,x∈l→PS x):PS (.mk 25 [] 0 [c,.mk 30 [] 0 l])
 |check (c:Nd) (hc:FC c):PS (.mk 27 [] 0 [c])
 |skip:PS (.mk 28 [] 0 [])
 |stop:PS (.mk 29 [] 0 [])
theorem O5{l:List Nd}(h:∀x,x∈l→∀y,y∈G1 x→PS y):∀y,y∈Br l→PS y:=by
 induction l with
 |nil=>intro y hy;rw[A4]at hy;cases hy
 |cons x l ih=>
  intro y hy;rw[Ao]at hy;rcases zzq45.1 hy with hy|hy
  ·exact h x (by simp) y hy
  ·exact ih (fun z hz=>h z (by simp[hz])) y hy
theorem Li(l:List Nd):G1 (.mk 30 [] 0 l)=[.mk 30 [] 0 (Br l)]:=by rw[Bf (by simp),Bd]
theorem Ir{a:Nd}(h:FE a):G1 a=[a]:=by rw[Bf (by have:=Cy h;omega),Ut h]
theorem Qu{a:Nd}(h:FC a):G1 a=[a]:=by rw[Bf (by have:=J0 h;omega),Sr h]
theorem A3h{n:Nd}(h:FS n):∀y,y∈G1 n→PS y:=by
 induction h with
 |set s a h ha=>intro y hy;rw[Bf (by simp),Bd,Ao,A4,Ir ha]at hy;simp at hy;subst hy;exact .set s a h ha
 |put s a b h ha hb=>intro y hy;rw[Bf (by simp),Bd,Ao,Ao,A4,Ir ha,Ir hb]at hy;simp at hy;subst hy;exact .put s a b h ha hb
 |read s h=>intro y hy;rw[Bf (by simp),Bd,A4]at hy;simp at hy;subst hy;exact .read s h
 |ifs c l l' hc hl hl' ihl ihl'=>
  intro y hy;rw[Bf (by simp),Bd,Ao,Ao,Ao,A4,Qu hc,Li,Li]at hy;simp at hy;subst hy;exact .ifs c _ _ hc (O5 ihl) (O5 ihl')
 |whil c l hc hl ihl=>
  intro y hy;rw[Bf (by simp),Bd,Ao,Ao,A4,Qu hc,Li]at hy;simp at hy;subst hy;exact .whil c _ hc (O5 ihl)
 |for_ s a b l h ha hb hl ihl=>
  intro y hy;rw[K6,Ao,Ao,Ao,A4,Ir ha,Ir hb,Li]at hy;simp only[Pz,Tj,Aem,zzq13,Ww,or_false]at hy;rcases hy with rfl|rfl
  ·exact .set s a h ha
  ·refine .whil _ _ (.mk 11 _ _ (by omega) (by omega) (.var s h) hb) fun y hy=>?_;rcases zzq45.1 hy with hy|hy
   ·exact O5 ihl y hy
   ·simp at hy;subst hy;exact .set s _ h (.two 6 _ _ (.inl rfl) (.var s h) (.num 1 (by omega) (by omega)))
 |check c hc=>intro y hy;rw[Bf (by simp),Bd,Ao,A4,Qu hc]at hy;simp at hy;subst hy;exact .check c hc
 |skip=>intro y hy;rw[Bf (by simp),Bd,A4]at hy;simp at hy;subst hy;exact .skip
 |stop=>intro y hy;rw[Bf (by simp),Bd,A4]at hy;simp at hy;subst hy;exact .stop
structure Gr.le (g g':Gr)(k:Nat):Prop where
 pts:g.pts≤g'.pts∧g'.pts≤g.pts+4*k
 pt:g'.pt<g'.pts
 es:∃l,g'.es=g.es++l∧l.length≤4*k∧∀e,e∈l→(0≤e.f∧e.f<g'.pts)∧(e.t=-1∨(0≤e.t∧e.t<g'.pts))
 lps:∃l,g'.lps=g.lps++l∧l.length≤k
 ver:g.ver≤g'.ver∧g'.ver≤g.ver+2*k
 sts:∃l,g'.sts=g.sts++l∧l.length≤k
theorem Gr.le.refl{g:Gr}(h:g.pt<g.pts):g.le g 0:=⟨by omega,h,⟨[],by simp,by simp,fun e he=>by cases he⟩,⟨[],by simp,by simp⟩,by omega,⟨[],by simp,by simp⟩⟩
theorem Gr.le.trans{a b c:Gr}{k l m:Nat}(h:a.le b k)(h':b.le c l)(hm:k+l≤m):a.le c m:=by
 obtain⟨e1,h1,h2,h3⟩:=h.es;obtain⟨e2,h4,h5,h6⟩:=h'.es;obtain⟨l1,g1,g2⟩:=h.lps;obtain⟨l2,g3,g4⟩:=h'.lps;obtain⟨s1,g5,g6⟩:=h.sts;obtain⟨s2,g7,g8⟩:=h'.sts;have:=h.pts;have:=h'.pts;have:=h.ver;have:=h'.ver;refine⟨by omega,h'.pt,⟨e1++e2,by rw[h4,h1,Fp],by simp;omega,fun e he=>?_⟩,⟨l1++l2,by rw[g3,g1,Fp],by simp;omega⟩,by omega,⟨s1++s2,by rw[g7,g5,Fp],by simp;omega⟩⟩;rcases zzq45.1 he with he|he
 ·obtain⟨q1,q2⟩:=h3 e he;refine⟨by omega,?_⟩;rcases q2 with q2|q2
  ·exact .inl q2
  ·exact .inr (by omega)
 ·exact h6 e he
theorem Gr.le.up{a b:Gr}{k m:Nat}(h:a.le b k)(hm:k≤m):a.le b m:=h.trans (.refl h.pt) (by omega)
theorem L1(k:Int)(n:Nd){g:Gr}(h:g.pt<g.pts):g.le (Dn k n g) 1:=
 ⟨by simp[Dn],by simp[Dn],⟨_,rfl,by simp,fun e he=>by simp at he;subst he;simp[Dn];omega⟩,⟨[],by simp[Dn],by simp⟩,by simp[Dn],⟨[],by simp[Dn],by simp⟩⟩
theorem Azf{g:Gr}(h:g.pt<g.pts):g.le (Ox g) 1:=
 ⟨by simp[Ox],by simp[Ox],⟨_,rfl,by simp,fun e he=>by simp at he;subst he;simp[Ox];omega⟩,⟨[],by simp[Ox],by simp⟩,by simp[Ox],⟨_,rfl,by simp⟩⟩
theorem P6(p:Nat)(c:Nd)(y:Bool){g:Gr}(h:p<g.pts):g.le (D7 p c y g) 1:=
 ⟨by simp[D7],by simp[D7],⟨_,rfl,by simp,fun e he=>by simp at he;subst he;simp[D7];omega⟩,⟨[],by simp[D7],by simp⟩,by simp[D7],⟨[],by simp[D7],by simp⟩⟩
theorem Awz(t:Nat){g:Gr}(h:g.pt<g.pts)(ht:t<g.pts):g.le (Lf t g) 1:=
 ⟨by simp[Lf,Ix],h,⟨_,rfl,by simp,fun e he=>by simp at he;subst he;simp[Lf,Ix];omega⟩,⟨[],by simp[Lf,Ix],by simp⟩,by simp[Lf,Ix],⟨[],by simp[Lf,Ix],by simp⟩⟩
theorem Axm(p:Nat){g:Gr}(h:g.pt<g.pts)(hp:p<g.pts):g.le (Ny p g) 1:=
 ⟨by simp[Ny,Ix],by simp[Ny,Ix],⟨[⟨p,g.pts,6,false,Cg⟩,⟨g.pt,g.pts,6,false,Cg⟩],by simp[Ny,Ix],by simp,fun e he=>by simp at he;rcases he with rfl|rfl<;>simp[Ny,Ix]<;>omega⟩,⟨[],by simp[Ny,Ix],by simp⟩,by simp[Ny,Ix],⟨[],by simp[Ny,Ix],by simp⟩⟩
theorem Ahz(a n:Nd){g:Gr}(h:g.pt<g.pts):g.le (Hp a n g) 1:=
 ⟨by simp[Hp],h,⟨[],by simp[Hp],by simp,fun e he=>by cases he⟩,⟨_,rfl,by simp⟩,by simp[Hp],⟨[],by simp[Hp],by simp⟩⟩
theorem Adi{α:Type}(l l':List α)(f:α→α):(l++l').modify l.length f=l++l'.modify 0 f:=by
 apply Abp;intro j;rw[List.getElem?_modify];rcases Gs j l.length with h|h
 ·rw[Cs h,Cs h];simp[show l.length≠j by omega]
 ·rw[Gk h,Gk h,List.getElem?_modify];by_cases hj:l.length=j
  ·simp[hj]
  ·simp[hj,show ¬0=j-l.length by omega]
theorem Aw1{g g':Gr}{k:Nat}(h:g.le g' k):g.le (Ud g.lps.length g') (k+1):=by
 obtain⟨l,h1,h2⟩:=h.lps;obtain⟨e,h3,h4,h5⟩:=h.es;obtain⟨s,h6,h7⟩:=h.sts;have:=h.pts;have:=h.ver;exact⟨by simp only[Ud];omega,h.pt,⟨e,by simp only[Ud];exact h3,by omega,h5⟩,⟨l.modify 0 fun x=>{ x with x:=g'.pt },by simp only[Ud];rw[h1,Adi],by simp;omega⟩,by simp only[Ud];omega,⟨s,by simp only[Ud];exact h6,by omega⟩⟩
abbrev bG(k:Nat):Nat:=6*k
theorem An0{l:List Nd}(h:∀x,x∈l→∀(a:Nd)(g:Gr),g.pt<g.pts→g.le (gS x a g) (bG (wN x))):∀(a:Nd)(g:Gr),g.pt<g.pts→g.le (gL l a g) (bG (wL l)):=by
 induction l with
 |nil=>intro a g hp;exact(Gr.le.refl hp).up (by simp[wL])
 |cons x l ih=>
  intro a g hp;rw[Yi];have h1:=h x (by simp) a g hp;exact h1.trans (ih (fun y hy=>h y (by simp[hy])) x _ h1.pt) (by simp only[wL,bG];omega)
theorem A30{c:Nd}{f1 f2:Gr→Gr}{k1 k2:Nat}(h1:∀g:Gr,g.pt<g.pts→g.le (f1 g) k1)(h2:∀g:Gr,g.pt<g.pts→g.le (f2 g) k2){g:Gr}(hp:g.pt<g.pts):g.le (gIf c f1 f2 g) (k1+k2+3):=by
 unfold gIf;have a1:=P6 g.pt c true hp;have a2:=h1 _ a1.pt;have a12:=a1.trans a2 (Bo _);have hp2:g.pt<(f1 (D7 g.pt c true g)).pts:=Mz hp a12.pts.1;have a3:=P6 g.pt c false hp2;have a4:=h2 _ a3.pt;have a34:=a3.trans a4 (Bo _);have hq:(f1 (D7 g.pt c true g)).pt<(f2 (D7 g.pt c false (f1 (D7 g.pt c true g)))).pts:=Mz a2.pt a34.pts.1;exact(a12.trans a34 (Bo _)).trans (Axm _ a4.pt hq) (by omega)
theorem A4w{n a c:Nd}{f:Gr→Gr}{k:Nat}(h1:∀g:Gr,g.pt<g.pts→g.le (f g) k){g:Gr}(hp:g.pt<g.pts):g.le (gWh n a c f g) (k+6):=by
 unfold gWh;have a1:=L1 6 Cg hp;have a2:=Ahz a n a1.pt;have a12:=a1.trans a2 (Bo _);have hh:g.pts<(Hp a n (Dn 6 Cg g)).pts:=by simp[Hp,Dn]
 have a3:=P6 g.pts c true hh;have a4:=h1 _ a3.pt;have a34:=a3.trans a4 (Bo _);have hh2:=Mz hh a34.pts.1;have a5:=Awz g.pts a4.pt hh2;have hh3:=Mz hh2 a5.pts.1;have a6:=P6 g.pts c false hh3;exact(Aw1 ((a12.trans a34 (Bo _)).trans (a5.trans a6 (Bo _)) (Bo _))).up (by omega)
theorem A3l{n:Nd}(h:PS n):∀(a:Nd)(g:Gr),g.pt<g.pts→g.le (gS n a g) (bG (wN n)):=by
 induction h with
 |set s b h hb=>intro a g hp;rw[Z1];exact(L1 _ _ hp).up (by simp only[wN,bG];omega)
 |put s b c h hb hc=>intro a g hp;rw[Z0];exact(L1 _ _ hp).up (by simp only[wN,bG];omega)
 |read s h=>intro a g hp;rw[Vq];exact(L1 _ _ hp).up (by simp only[wN,bG];omega)
 |ifs c l l' hc hl hl' ihl ihl'=>intro a g hp;rw[Afe];exact(A30 (An0 ihl Cg) (An0 ihl' Cg) hp).up (by simp only[wN,wL,bG,Wx];omega)
 |whil c l hc hl ihl=>intro a g hp;rw[Aff];exact(A4w (An0 ihl Cg) hp).up (by simp only[wN,wL,bG,Wx];omega)
 |check c hc=>intro a g hp;rw[Ql];exact(L1 _ _ hp).up (by simp only[wN,bG];omega)
 |skip=>intro a g hp;rw[Vr];exact(L1 _ _ hp).up (by simp only[wN,wL,bG,Wx];omega)
 |stop=>intro a g hp;rw[Vs];exact(Azf hp).up (by simp only[wN,wL,bG,Wx];omega)
theorem Mq{l:List Nd}(h:∀x,x∈l→PS x)(a:Nd)(g:Gr)(hp:g.pt<g.pts):g.le (gL l a g) (bG (wL l)):=An0 (fun x hx=>A3l (h x hx)) a g hp
end Go.V
namespace Go.V
open Go
section
variable {X:Cx}{B:Bx}{E E':Env}{S S':St}{w w':World}{F F':C5}{a:Act}{N:Nat}{R:AE→St→Prop}{ops:Array Oper}{i:Nat}{o:Oper}{p q:Operand}
theorem Y5(hI:Inv X E S w){t v:Nat}{k:Tk}(hk:E.toks[t]?=some k)(hS:S.toks[t]?=some v):v=k.len:=by
 have h1:=hI.nt;have h2:(E.toks.map Tk.len)[t]?=some k.len:=by simp[hk]
 rw[h1,hS]at h2;exact Option.some.inj h2
theorem Inv.setZ(hI:Inv X E S w){tk:List Nat}(h:Inv X E' ⟨S.boxes,tk⟩ w')(hbx:E'.boxes=E.boxes)(hsame:∀(i b s:Nat),E.boxes[i]?=some (some (b,s))→w'.heap[b]?=w.heap[b]?){b r j:Nat}{rows:List (List AV)}{cs:List AV}{z z':AV}
 (hb:S.boxes[b]?=some rows)(hr:rows[r]?=some cs)(hc:cs[j]?=some z)(hz:∀u,Rel E w u z→Rel E' w' u z'):Inv X E' ⟨S.boxes.set b (rows.set r (cs.set j z')),tk⟩ w':=
 { h with
   nb:=by have:=h.nb;simpa using this
   box:=fun i blk sz rows' h1 h2=>by
    rcases Eu h2 with⟨rfl,rfl⟩|⟨_,h2⟩
    ·have h1o:=h1;rw[hbx]at h1o;obtain⟨arr,e,hh,hs,hl,hrel⟩:=hI.box i blk sz rows h1o hb;obtain⟨arr1,e1,hh1,hs1,hl1,hrel1⟩:=h.box i blk sz rows h1 hb;have:=hsame _ _ _ h1o;rw[hh,hh1]at this;cases this;refine⟨arr,e,hh1,by simpa using hs,fun q hq=>?_,fun k q p x v hk hp hv=>?_⟩
     ·rcases Wt hq with hq|rfl
      ·exact hl q hq
      ·simpa using hl cs (Bh hr)
     ·rcases Eu hk with⟨rfl,rfl⟩|⟨_,hk⟩
      ·rcases Eu hp with⟨rfl,rfl⟩|⟨_,hp⟩
       ·exact hz v (hrel k cs p _ v hr hc hv)
       ·exact hrel1 k cs p x v hr hp hv
      ·exact hrel1 k q p x v hk hp hv
    ·exact h.box i blk sz rows' h1 h2 }
theorem Ae1(hI:Inv X E S w){v:Value}(h:Rel E w v (.sl [] .tight)):Rel (E.mint 0) w v (.psl [] S.toks.length 0):=by
 have hl:S.toks.length=E.toks.length:=by rw[←hI.nt];simp
 cases h with
 |sl _ _ a n cap b o sz vals hn hx ha hsz hm hc hr hs hcap=>
  subst hn;exact .psl [] _ 0 a _ cap ⟨0,none⟩ sz vals rfl hx hcap (by rw[hl];exact getElem?_snoc_new _ _) (Bo _) (fun r hr=>by cases hr) (fun _=>⟨rfl,hs⟩) (fun i j r x h=>by simp at h) (fun r hr=>by cases hr)
theorem Xw{K:List Item}(b r j:Nat){m:Nat}{rows:List (List AV)}{cs:List AV}{bx:List (List (List AV))}{tk:List Nat}(hk:AK X B K F ⟨bx,tk⟩ R)(hb:S.boxes[b]?=some rows:=by rfl)(hr:rows[r]?=some cs:=by rfl)
 (hc:cs[j]?=some (.sl [] .tight):=by rfl)(hn:S.toks.length=m:=by rfl)(hbx:S.boxes.set b (rows.set r (cs.set j (.psl [] m 0)))=bx:=by rfl)(htk:S.toks++[0]=tk:=by rfl):AK X B K F S R:=by
 subst hn;subst hbx;subst htk;intro E w a b' cs' hI hF hn hm hb';have ev:=M7 E w 0;have nt:E.toks.length=S.toks.length:=by rw[←hI.nt];simp
 exact Fin.from (Steps.refl _ _) (ev.weaken (by rw[hI.nb];exact hn) (by omega)) (hk (E.mint 0) w a b' cs' (hI.setZ (hI.mint 0) rfl (fun _ _ _ _=>rfl) hb hr hc fun u hu=>Ae1 hI hu) (hF.mint 0) (by simpa using hn) (by simp;omega) hb')
theorem Abz{t e tk v n:Nat}{ik:IntKind}{y ye:Ty}{rows:List (List AV)}(hn:n<rows.length)(hS:S.toks[tk]?=some v)(hl:∀r,r∈rows→r.length=ye.size)(ho:ops[i]?=some o:=by rfl)(hw:A8 ops F o=some true:=by rfl)
 (hop:o.op=.indexAddr t p q:=by rfl)(hp:Dw X F p=some (.psl rows tk v):=by rfl)(hq:Dw X F q=some (.val (.int ik n)):=by rfl)(hy:X.ty t=some y:=by rfl)(hyk:y.k=.slc e:=by rfl)(hye:X.ty e=some ye:=by rfl) :
 Ndo X N ops i o F (.pp rows tk v n 0) S S:=by
 refine Dj ho hw fun F' E w a hc hI hF=>?_;rw[hop]at hc;have h1:=Ak hI hF ((hc p (by simp[Op.operands])).trans hp);have h2:=Ak hI hF ((hc q (by simp[Op.operands])).trans hq);obtain⟨d,hdd,hd2⟩:=(X.ty_ok t y hy).agg;simp only[hyk]at hd2;obtain⟨rfl,ye',hye',hne⟩:=hd2;rw[hye]at hye';cases hye';cases hh2:a.eval q<;>rw[hh2]at h2<;>cases h2;generalize hh1:a.eval p=u at h1;have h1':=h1;cases h1 with
 |psl _ _ _ ad m cap k sz vals hm hx hcap hk hv hsz hpv hr hf=>
  have hpv:=hpv (Y5 hI hk hS);obtain⟨kl,ksp⟩:=k;cases ksp with
  |none=>obtain⟨h,_⟩:=hpv;omega
  |some q'=>
   obtain⟨b,c,s⟩:=q';obtain⟨_,rfl,rfl,rfl,_⟩:=hpv;refine⟨.pointer (some ⟨b,n*ye.size,none⟩),?_,?_⟩
   ·have hin:(n:Int)<(m:Int):=by omega
    simp[execOp,hop,hh1,hh2,Instr.indexAt,asIntOf,run_underlying hdd,hin,Dr hye,Ge];intro h;omega
   ·have:=Rel.pp (E:=E) (w:=w) rows tk v n 0 b ye.size m c h1' hn hl;simpa using this
theorem Awb{t tk v j o':Nat}{y:Ty}{r:List AV}{rows:List (List AV)}{x:AV}(hr:rows[j]?=some r)(hS:S.toks[tk]?=some v)(hl:o'+y.size≤r.length)(ho:ops[i]?=some o:=by rfl)(hw:A8 ops F o=some true:=by rfl)
 (hop:o.op=.load t p:=by rfl)(hp:Dw X F p=some (.pp rows tk v j o'):=by rfl)(hy:X.ty t=some y:=by rfl)(hx:Wb (Gg y.k) ((r.drop o').take y.size)=some x:=by rfl):Ndo X N ops i o F x S S:=by
 refine Dj ho hw fun F' E w a hc hI hF=>?_;rw[hop]at hc;have h1:=Ak hI hF ((hc p (by simp[Op.operands])).trans hp);obtain⟨b,sz,n,cap,hu,hrel,hi,hsz⟩:=h1.pp_inv;generalize hU:Value.slice (some ⟨b,0,none⟩) n cap=U at hrel;cases hrel with
 |psl _ _ _ a0 n0 cap0 k sz' vals hm hx hcap hk hv hsz' hpv hrr hf=>
  cases hU;have hpv:=hpv (Y5 hI hk hS);obtain⟨kl,ksp⟩:=k;cases ksp with
  |none=>obtain⟨h,_⟩:=hpv;omega
  |some q'=>
   obtain⟨b',c,s⟩:=q';obtain⟨_,rfl,rfl,hab,arr,e,hh,hcs,hcl⟩:=hpv;simp only[Option.some.injEq,Addr.mk.injEq,and_true]at hab;subst hab;have hrl:=hsz r (Bh hr);have:sz'=sz:=by rw[←hsz' r (Bh hr),hrl]
   subst this;have hcell:∀jj,jj<y.size→w.cell? ⟨b,j*sz'+o'+jj,none⟩=some (vals j (o'+jj)):=fun jj hjj=>by
    have:=hcl j (o'+jj) (by omega) (by omega);rw[←Mj]at this;simp only[World.cell?,hh];exact this
   refine⟨_,by simp[execOp,hop,hu,Instr.loadAt,Instr.sureAddr,Ul hy _ hcell],Ahd (y:=y) (vals:=fun jj=>vals j (o'+jj)) (cs:=(r.drop o').take y.size) (by simp;omega) (fun jj x hx=>?_) ‹_›⟩;have hj:jj<y.size:=by have:=Aa hx;simp at this;omega
   exact hrr j (o'+jj) r x hr (by simpa[Mb,hj]using hx)
end
section
variable {X:Cx}{B:Bx}{E E':Env}{S S':St}{w w':World}{F F':C5}{a:Act}{N:Nat}{R:AE→St→Prop}{ops:Array Oper}{i:Nat}{o:Oper}{p q:Operand}
theorem Agy{t tk v j o' b r g:Nat}{y:Ty}{x:AV}{xs row cs:List AV}{rows brows:List (List AV)}{bx:List (List (List AV))}{tk':List Nat}(hS:S.toks[tk]?=some v)(hrow:rows[j]?=some row)(hl:o'+xs.length≤row.length)
 (hflat:∀z,z∈xs→NoT z)(hb:S.boxes[b]?=some brows)(hr:brows[r]?=some cs)(hg:cs[g]?=some (.psl rows tk v))
 (hbx:S.boxes.set b (brows.set r (cs.set g (.psl (rows.set j (row.take o'++xs++row.drop (o'+xs.length))) tk (v+1))))=bx)(htk:S.toks.set tk (v+1)=tk')(ho:ops[i]?=some o)(hw:A8 ops F o=some true)
 (hop:o.op=.store t p q)(hp:Dw X F p=some (.pp rows tk v j o'))(hq:Dw X F q=some x)(hy:X.ty t=some y)(hxs:cellsOf x=some xs)(hxl:xs.length=y.size):Ndo X N ops i o F .junk S ⟨bx,tk'⟩:=by
 subst hbx;subst htk;intro F' E w a hlk hI hF;have hlo:=G0 hlk;rw[hop]at hlo;have r1:=Ak hI hF ((Dk (X:=X) (F:=F) (F':=F') (o:=p) fun s hs=>hlo s (by simp[Op.operands,hs])).trans hp);have r2:=Ak hI hF ((Dk (X:=X) (F:=F) (F':=F') (o:=q) fun s hs=>hlo s (by simp[Op.operands,hs])).trans hq);generalize hva:a.eval q=u2 at r2;obtain⟨blk,sz,n,cap,hu,hrel,hi,hsz⟩:=r1.pp_inv;obtain⟨hs,hrx,hone⟩:=Hj r2 hxs;generalize hU:Value.slice (some ⟨blk,0,none⟩) n cap=U at hrel;have hrel0:=hrel;cases hrel with
 |psl _ _ _ a0 n0 cap0 k sz' vals hm hx hcap hk hv hsz' hpv hrr hf=>
  cases hU;have hcur:=Y5 hI hk hS;have hpv:=hpv hcur;obtain⟨kl,ksp⟩:=k;cases ksp with
  |none=>obtain⟨h,_⟩:=hpv;omega
  |some q'=>
   obtain⟨b',c,s⟩:=q';obtain⟨hn0,rfl,rfl,hab,arr,e,hh,hcs,hcl⟩:=hpv;simp only[Option.some.injEq,Addr.mk.injEq,and_true]at hab;subst hab;have hrl:=hsz row (Bh hrow);have:sz'=sz:=by rw[←hsz' row (Bh hrow),hrl]
   subst this;simp only at hcur;subst hcur;have hjl:=Aa hrow;have hvl:u2.cells.toList.length=xs.length:=by simpa using hs
   have hin:j*sz'+o'+xs.length≤arr.toList.length:=by
    have:(j+1)*sz'≤c*sz':=Tq sz' (by omega);rw[Rf,Nat.one_mul]at this;simp;omega
   have hst:=run_storeCells_at X.P blk (j*sz'+o') e u2.cells.toList 0 arr w hh (by simp at hin⊢;omega) (fun u hu=>hone u (by simpa using hu));simp only[Px]at hst;generalize harr:(arr.toList.take (j*sz'+o')++u2.cells.toList++arr.toList.drop (j*sz'+o'+u2.cells.toList.length)).toArray=arr' at hst;have hasz:arr'.size=arr.size:=by
    subst harr;have:=K8 arr.toList u2.cells.toList (j*sz'+o') (by omega);rw[Abl,this];simp
   have hat:=setRow_heap w blk arr arr' e _ hh;have hoth:∀q,q≠blk→(w.setRow blk arr').heap[q]?=w.heap[q]?:=fun q hq=>setRow_other w blk q _ (by omega);have hbw:blk<w.heap.size:=hI.own_lt (.inr ⟨tk,_,c,0,hk⟩);obtain⟨ev,hI',_⟩:=O7 (w':=w.setRow blk arr') hI (t:=tk) (n:=v) (m:=v+1) (b:=blk) (c:=c) (sz:=0) hk rfl (by omega) (fun h=>absurd rfl h) rfl rfl rfl (by simp) (fun q _ hq=>hoth q hq) (.inr rfl) (by simpa using hbw)
    (fun o v ho h=>by omega) ⟨_,_,hat,fun h=>absurd rfl h⟩ (fun q e he=>Pw (fun h=>by subst h;exact⟨_,_,_,_,hh,hat⟩) (hoth q) he)
   have hsz2:u2.cells.size=y.size:=by omega
   refine Does.val (v:=undef) ho (Cr hF (by rw[C6 hlk];exact hw)) (by simp[execOp,hop,hu,hva,Instr.storeAt,Instr.sureAddr,storeVar,Dr hy,hsz2,hst]) (.inr ⟨rfl,rfl⟩)
    ⟨E.setTok tk ⟨v+1,some (blk,c,0)⟩,?_,ev,.junk _⟩
   refine hI.setZ hI' rfl (fun i b s h=>hoth b fun hb'=>hI.bt i tk b s v c 0 h (hb'▸hk)) hb hr hg fun u0 hu0=>?_;have hu0':=hu0;cases hu0 with
   |psl _ _ _ a1 n1 cap1 k1 sz1 vals1 hm1 hx1 hcap1 hk1 hv1 hsz1 hpv1 hrr1 hf1=>
    rw[hk]at hk1;cases hk1;obtain⟨_,_,rfl,rfl,arr1,e1,hh1,hcs1,hcl1⟩:=hpv1 rfl;rw[hh]at hh1;cases hh1;have:sz1=sz':=by rw[←hsz1 row (Bh hrow),hrl]
    subst this;have hrowlen:(row.take o'++xs++row.drop (o'+xs.length)).length=sz1:=by rw[K8 row xs o' hl,hrl]
    have hget:∀i' j',i'<n1→j'<sz1→i'*sz1+j'<arr'.size:=fun i' j' hi' hj'=>by
     have h1:=I6 (n:=n1) hi' hj';have h2:n1*sz1≤c*sz1:=Tq _ (by omega);omega
    refine .psl _ tk (v+1) _ n1 c ⟨v+1,some (blk,c,0)⟩ sz1 (fun i' j'=>arr'.getD (i'*sz1+j') default) (by simpa using hm1) hx1 hcap1 (by simp[Env.setTok,Aa hk]) (Bo _) (fun r' hr'=>?_)
     (fun _=>⟨by omega,rfl,rfl,rfl,arr',e,hat,by rw[hasz];exact hcs,fun i' j' hi' hj'=>by simp[Array.getD,hget i' j' hi' hj']⟩) (fun i' j' r' x' hi' hj'=>?_) (fun r' hr' z hz=>?_)
    ·rcases Wt hr' with h|rfl
     ·exact hsz1 r' h
     ·exact hrowlen
    ·have hil:i'<rows.length:=by have:=Aa hi';simpa using this
     have hjl':j'<sz1:=by
      have:=Aa hj';rcases Eu hi' with⟨_,rfl⟩|⟨_,h⟩
      ·omega
      ·have:=hsz1 r' (Bh h);omega
     have hlt:=hget i' j' (by omega) hjl';have hval:arr'.getD (i'*sz1+j') default=arr'[i'*sz1+j']:=by simp[Array.getD,hlt]
     rw[hval];have hu':(arr.toList.take (j*sz1+o')++u2.cells.toList++arr.toList.drop (j*sz1+o'+u2.cells.toList.length))[i'*sz1+j']?=some arr'[i'*sz1+j']:=by
      rw[←Rc,harr];simp[hlt]
     rw[K7 _ _ _ _ (by omega)]at hu';have hold:∀(r0:List AV),rows[i']?=some r0→r0[j']?=some x'→arr.toList[i'*sz1+j']?=some arr'[i'*sz1+j']→Rel (E.setTok tk ⟨v+1,some (blk,c,0)⟩) (w.setRow blk arr') arr'[i'*sz1+j'] x':=fun r0 h1 h2 h3=>by
      have h4:=hcl1 i' j' (by omega) hjl';rw[Td,h4]at h3;rw[←Option.some.inj h3];exact(hrr1 i' j' r0 x' h1 h2).step ev
     rcases Eu hi' with⟨rfl,rfl⟩|⟨hne,h⟩
     ·rw[K7 _ _ _ _ hl]at hj';split at hj'
      ·rename_i hjj;rw[if_pos (by omega),show i'*sz1+j'-(i'*sz1+o')=j'-o' by omega]at hu';exact(hrx (j'-o') _ x' (by simpa using hu') hj').step ev
      ·rename_i hjj;rw[if_neg (by omega)]at hu';exact hold row hrow hj' hu'
     ·have:=Aan hjl' hne;rw[if_neg (by omega)]at hu';exact hold r' h hj' hu'
    ·rcases Wt hr' with h|rfl
     ·exact hf1 r' h z hz
     ·rcases zzq45.1 hz with hz|hz
      ·rcases zzq45.1 hz with hz|hz
       ·exact hf1 row (Bh hrow) z (Agn hz)
       ·exact hflat z hz
      ·exact hf1 row (Bh hrow) z (List.mem_of_mem_drop hz)
end
section
variable {X:Cx}{B:Bx}{E E':Env}{S S':St}{w w':World}{F F':C5}{a:Act}{N:Nat}{R:AE→St→Prop}{ops:Array Oper}{i:Nat}{o:Oper}{p q:Operand}
theorem Aei(hI:Inv X E S w){t ver:Nat}{tt tx ty e e':TypeId}{ye:Ty}(hu:X.P.underlying tt=some (.slice e))(hk:X.P.underlying tx=some (.slice e'))(hye:X.ty e=some ye)(hne0:ye.size≠0)
 {rows new:List (List AV)}{sp:Sp}{u v:Value}(hp:Rel E w u (.psl rows t ver))(hq:Rel E w v (.sl new sp))(hS:S.toks[t]?=some ver)(hflat:∀r,r∈new→∀x,x∈r→NoT x)
 (hz:∀r,r∈rows→r.length=ye.size)(hz':∀r,r∈new→r.length=ye.size)(hc:∀r,r∈new→∀x,x∈r→I3 x=true)(hne:new≠[])(hb:rows.length+new.length≤100000000000) :
 ∃r E' w',(Builtin.append_ #[tt,tx] ty #[u,v]).run X.P w=.ok r w'∧Inv X E' ⟨S.boxes,S.toks.set t (ver+1)⟩ w'∧Evol E w E' w' E.boxes.length E.toks.length ∧
  Rel E' w' r (.psl (rows++new) t (ver+1)):=by
 obtain⟨i,z,hi,hsz,hby,hzv,hzc,hzl,_⟩:=(X.ty_ok e ye hye).info;have hnew:0<new.length:=zzq65.2 hne;obtain⟨vals2,hsrc,hr2⟩:=Amz hk hq hz' hc hne;rw[←hsz]at hsrc;generalize hR:rows=rows0 at hp;cases hp with
 |psl _ _ _ a n cap k sz vals hn hx hcap hk1 hv hszr hpv hr hf=>
 subst hR;subst hn;have hcur:=Y5 hI hk1 hS;have hpv:=hpv hcur;have hkt:=Aa hk1;have hvals:∀(vals':Nat→Nat→Value),(∀i j,i<rows.length→vals' i j=vals i j)→(∀i j,rows.length≤i→vals' i j=vals2 (i-rows.length) j)→∀{E':Env} {w':World},Evol E w E' w' E.boxes.length E.toks.length →
  ∀(i j:Nat) (r:List AV) (x:AV),(rows++new)[i]?=some r→r[j]?=some x→Rel E' w' (vals' i j) x:=fun vals' h1 h2 {E' w'} ev i j r x hi hj=>by
  rcases Gs i rows.length with h|h
  ·rw[Cs h]at hi;rw[h1 i j h];exact(hr i j r x hi hj).step ev
  ·rw[Gk h]at hi;rw[h2 i j h];exact(hr2 _ j r x hi hj).step ev
 have hall:∀r,r∈rows++new→r.length=ye.size:=fun r h=>by
  rcases zzq45.1 h with h|h
  ·exact hz r h
  ·exact hz' r h
 have hfl':∀r,r∈rows++new→∀x,x∈r→NoT x:=fun r h x hx'=>by
  rcases zzq45.1 h with h|h
  ·exact hf r h x hx'
  ·exact hflat r h x hx'
 have hlen:(rows++new).length=rows.length+new.length:=by simp
 have hszeq:rows.length≠0→sz=i.size:=fun h=>by
  obtain⟨r0,hr0⟩:=Ab rows (i:=0) (by omega);rw[←hszr r0 (Bh hr0),hz r0 (Bh hr0),hsz]
 have grow:cap<rows.length+new.length→∃r E' w',(Builtin.append_ #[tt,tx] ty #[.slice a rows.length cap,v]).run X.P w=.ok r w'∧Inv X E' ⟨S.boxes,S.toks.set t (ver+1)⟩ w'∧Evol E w E' w' E.boxes.length E.toks.length ∧
  Rel E' w' r (.psl (rows++new) t (ver+1)):=fun hg=>by
  have hold:(Builtin.firstCells i.size rows.length (.slice a rows.length cap)).run X.P w.drew=.ok (D4 rows.length i.size vals).toArray w.drew:=by
   rcases Nat.eq_zero_or_pos rows.length with h0|h0
   ·rw[h0];have:D4 0 i.size vals=[]:=by simp[D4]
    rw[this];cases a with
    |none=>exact run_firstCells_none _ _ _ _ _
    |some a0=>exact run_firstCells_some _ _ _ _ _ _ _ (by simp) (fun j v hj=>by simp at hj)
   ·have hs':=hszeq (by omega);subst hs';obtain⟨kl,ksp⟩:=k;cases ksp with
    |none=>obtain⟨h,_⟩:=hpv;omega
    |some q'=>
     obtain⟨b,c,s⟩:=q';obtain⟨_,rfl,rfl,rfl,arr,e1,hh,hcs,hcl⟩:=hpv;refine run_firstCells_some _ _ _ _ _ _ _ (El _ _ _) (fun q v hq=>?_);obtain⟨i',j',hi',hj',rfl,he⟩:=Yg (vals:=vals) (by have:=Aa hq;rw[El]at this;exact this);rw[he]at hq;cases hq;rw[Ge,Jy];have:=hcl i' j' hi' hj';have hdr:w.drew.heap[b]?=w.heap[b]?:=rfl;simp only[World.cell?,hdr,hh];exact this
  have hby':(rows.length+new.length)*i.bytes≤140737488355328:=Pb (Nat.mul_le_mul_left _ hby) (by omega);have hrun:=run_append_grow_src w tt tx ty e i z hu hi hzv a rows.length cap _ hold v new.length _ hsrc hg (by omega) (growslice_fits hg hby');have hcc:=grownCap_ge w (rows.length+new.length) cap e;generalize grownCap w (rows.length+new.length) cap e=cc at hrun hcc;have hfl:∀(i' j':Nat),i'<rows.length+new.length→j'<ye.size→(D4 rows.length i.size vals++D4 new.length i.size vals2)[i'*ye.size+j']?=some (if i'<rows.length then vals i' j' else vals2 (i'-rows.length) j'):=fun i' j' hi' hj'=>by
   rw[hsz];by_cases h:i'<rows.length
   ·have:=I6 h hj';rw[Cs (by rw[El];exact this),if_pos h];exact Ld h hj'
   ·have hle:rows.length*ye.size≤i'*ye.size:=Tq _ (by omega);rw[Gk (by rw[El];omega),if_neg h,El];rw[show i'*ye.size+j'-rows.length*ye.size=(i'-rows.length)*ye.size+j' by rw[Nat.sub_mul];omega];exact Ld (by omega) hj'
  have hcs:((D4 rows.length i.size vals++D4 new.length i.size vals2).toArray++Builtin.zeroCells z.cells (cc-(rows.length+new.length))).size=cc*ye.size:=by
   have hzs:z.cells.size=ye.size:=by rw[←hzl,←hzc];simp
   have:(Builtin.zeroCells z.cells (cc-(rows.length+new.length))).size=(cc-(rows.length+new.length))*ye.size:=by
    simp[Builtin.zeroCells,hzs]
   rw[Array.size_append,this,Abl,Ex,El,El,hsz,←Rf,←Rf];congr 1;omega
  have hpush:∀o:Obj,(w.drew.alloc o).heap=w.heap.push o:=fun _=>rfl;have hheap:(w.drew.alloc (.cells ((D4 rows.length i.size vals++D4 new.length i.size vals2).toArray++Builtin.zeroCells z.cells (cc-(rows.length+new.length))) e)).heap[w.heap.size]? =
   some (.cells ((D4 rows.length i.size vals++D4 new.length i.size vals2).toArray++Builtin.zeroCells z.cells (cc-(rows.length+new.length))) e (0,0)):=by rw[hpush];simp
  obtain⟨ev,hI',_⟩:=O7 (w':=w.drew.alloc (.cells ((D4 rows.length i.size vals++D4 new.length i.size vals2).toArray++Builtin.zeroCells z.cells (cc-(rows.length+new.length))) e)) hI (t:=t) (n:=ver) (m:=ver+1)
   (b:=w.heap.size) (c:=cc) (sz:=0) hk1 hcur.symm (by omega) (fun h=>absurd rfl h) rfl rfl rfl (by rw[hpush];simp) (fun q hq _=>by rw[hpush,Y9 hq];simp[hq]) (.inl rfl) (by rw[hpush];simp)
   (fun o v _ h=>by have:=J3 h;omega) ⟨_,e,hheap,fun h=>absurd rfl h⟩ (Evol.push (E:=E) (w:=w) ⟨_,hpush _⟩ rfl rfl rfl 0 0).ty
  refine⟨_,_,_,hrun,hI',ev,?_⟩;refine .psl (rows++new) t (ver+1) _ _ cc ⟨ver+1,some (w.heap.size,cc,0)⟩ ye.size (fun i j=>if i<rows.length then vals i j else vals2 (i-rows.length) j) hlen (by unfold Pg;omega) hcc (by simp[Env.setTok,hkt]) (Bo _) hall
   (fun _=>⟨by omega,rfl,rfl,rfl,_,e,hheap,hcs,fun i' j' hi' hj'=>?_⟩) (hvals _ (fun i' j' h=>if_pos h) (fun i' j' h=>if_neg (by omega)) ev) hfl'
  have h:=hfl i' j' hi' hj';have hlt:=Aa h;rw[Zb (by simpa using hlt),Rc];exact h
 by_cases hg:cap<rows.length+new.length
 ·exact grow hg
 ·obtain⟨kl,ksp⟩:=k;cases ksp with
  |none=>obtain⟨h1,h2⟩:=hpv;omega
  |some q=>
   obtain⟨b',c',s'⟩:=q;obtain⟨hn0,rfl,rfl,rfl,cur,te,hh,hcs,hcl⟩:=hpv;have hs':=hszeq hn0;subst hs';simp only at hcur;subst hcur;have hsub:(rows.length+new.length)*i.size≤c'*i.size:=Tq _ (by omega);rw[Rf]at hsub;have hfit:rows.length*i.size+(D4 new.length i.size vals2).length≤cur.size:=by rw[El,hcs];exact hsub
   have hrun:=P3 tt tx ty e i hu hi b' rows.length c' v new.length _ hsrc (by omega) hh hfit;have hfl:=El new.length i.size vals2;have hat:=setRow_heap w b' cur (cur.toList.take (rows.length*i.size)++D4 new.length i.size vals2++cur.toList.drop (rows.length*i.size+(D4 new.length i.size vals2).length)).toArray te _ hh;have hoth:∀q,q≠b'→(w.setRow b' (cur.toList.take (rows.length*i.size)++D4 new.length i.size vals2++cur.toList.drop (rows.length*i.size+(D4 new.length i.size vals2).length)).toArray).heap[q]?=w.heap[q]?:=
    fun q hq=>setRow_other w b' q _ (by omega)
   have hspl:=fun q=>K7 cur.toList (D4 new.length i.size vals2) (rows.length*i.size) q (by simpa using hfit);have hbw:b'<w.heap.size:=hI.own_lt (.inr ⟨t,_,c',0,hk1⟩);obtain⟨ev,hI',_⟩:=O7 (w':=w.setRow b' (cur.toList.take (rows.length*i.size)++D4 new.length i.size vals2++cur.toList.drop (rows.length*i.size+(D4 new.length i.size vals2).length)).toArray) hI (t:=t) (n:=ver) (m:=ver+1)
    (b:=b') (c:=c') (sz:=0) hk1 rfl (by omega) (fun h=>absurd rfl h) rfl rfl rfl (by simp) (fun q _ hq=>hoth q hq) (.inr rfl) (by simpa using hbw)
    (fun o v ho h=>by omega) ⟨_,_,hat,fun h=>absurd rfl h⟩ (fun q e he=>Pw (fun h=>by subst h;exact⟨_,_,_,_,hh,hat⟩) (hoth q) he)
   refine⟨_,_,_,hrun,hI',ev,?_⟩;have hnm:∀i' j',i'<rows.length+new.length→j'<i.size→i'*i.size+j'<(rows.length+new.length)*i.size:=fun i' j' hi' hj'=>I6 hi' hj';refine .psl (rows++new) t (ver+1) _ _ c' ⟨ver+1,some (b',c',0)⟩ i.size (fun i j=>if i<rows.length then vals i j else vals2 (i-rows.length) j) hlen (by unfold Pg;omega) (by omega) (by simp[Env.setTok,hkt]) (Bo _) (fun r hr=>by rw[hall r hr,hsz])
    (fun _=>⟨by omega,rfl,rfl,rfl,_,te,hat,by rw[Abl,K8 _ _ _ (by simpa using hfit)];simpa using hcs,fun i' j' hi' hj'=>?_⟩) (hvals _ (fun i' j' h=>if_pos h) (fun i' j' h=>if_neg (by omega)) ev) hfl'
   rw[Rc,hspl];have h4:=hnm i' j' hi' hj';rw[Rf]at h4;by_cases h:i'<rows.length
   ·have h5:=I6 h hj';dsimp only;rw[if_neg (by omega),if_pos h,Td];exact hcl i' j' h hj'
   ·have hle:rows.length*i.size≤i'*i.size:=Tq _ (by omega);dsimp only;rw[if_pos ⟨by omega,by omega⟩,if_neg h];rw[show i'*i.size+j'-rows.length*i.size=(i'-rows.length)*i.size+j' by rw[Nat.sub_mul];omega];exact Ld (by omega) hj'
theorem Oq{c:Call}{t ver tt tx e e':Nat}{y yx ye:Ty}{rows new:List (List AV)}{sp:Sp}{res:List (List AV)}{tk:List Nat}(hS:S.toks[t]?=some ver)(hl:∀r,r∈rows→r.length=ye.size)(hflat:∀r,r∈new→∀x,x∈r→NoT x)
 (hb:rows.length+new.length≤100000000000)(hres:rows++new=res)(htk:S.toks.set t (ver+1)=tk)(ho:ops[i]?=some o)(hw:A8 ops F o=some true)(hop:o.op=.call c)(hcal:c.callee=.builtin .append)(hargs:c.args.toList=[p,q])(htys:c.argTypes.toList=[tt,tx])
 (hp:Dw X F p=some (.psl rows t ver))(hq:Dw X F q=some (.sl new sp))(hy:X.ty tt=some y)(hyk:y.k=.slc e)(hye:X.ty e=some ye)(hyx:X.ty tx=some yx)(hyxk:yx.k=.slc e')
 (hl':Kf ye.size new=true)(hc:Nb new=true)(hne:Nat.ble 1 new.length=true):Ndo X N ops i o F (.psl res t (ver+1)) S ⟨S.boxes,tk⟩:=by
 subst hres;subst htk;intro F' E w a hlk hI hF;obtain⟨callee,args,argTypes⟩:=c;simp only at hcal hargs htys;subst hcal;have ha:args=#[p,q]:=by rw[←zzq34];exact hargs
 have ht:argTypes=#[tt,tx]:=by rw[←zzq34];exact htys
 subst ha;subst ht;have hlo:=G0 hlk;rw[hop]at hlo;have r1:=Ak hI hF ((Dk (X:=X) (F:=F) (F':=F') (o:=p) fun s hs=>hlo s (by simp[Op.operands,Call.operands,hs])).trans hp);have r2:=Ak hI hF ((Dk (X:=X) (F:=F) (F':=F') (o:=q) fun s hs=>hlo s (by simp[Op.operands,Call.operands,hs])).trans hq);obtain⟨d1,hd1,hk1⟩:=(X.ty_ok tt y hy).agg;simp only[hyk]at hk1;obtain⟨rfl,ye',hye',hne0⟩:=hk1;rw[hye]at hye';cases hye';obtain⟨d2,hd2,hk2⟩:=(X.ty_ok tx yx hyx).agg;simp only[hyxk]at hk2;obtain⟨rfl,_⟩:=hk2;obtain⟨v,E',w',h1,h2,h3,h4⟩:=Aei hI (ty:=o.type) hd1 hd2 hye hne0 r1 r2 hS hflat hl (Ip.1 hl') (K9.1 hc) (fun h=>by rw[h]at hne;simp at hne) hb;exact Does.val ho (Cr hF (by rw[C6 hlk];exact hw)) (by simp[execOp,hop,resolve,invoke,builtin,h1]) (.inl rfl) ⟨E',h2,h3,h4⟩
class TokC (tk:List Nat)(t v:Nat):Prop where
 h:tk[t]?=some v
instance{v:Nat}{l:List Nat}:TokC (v::l) 0 v:=⟨rfl⟩
instance{x v t:Nat}{l:List Nat} [h:TokC l t v]:TokC (x::l) (t+1) v:=⟨by simpa using h.h⟩
instance{bx:List (List (List AV))}{tk:List Nat}{n m t v:Nat}{rows:List (List AV)} [h1:TokC tk t v] [h2:LeC m t] [h3:OKR n m rows]:FzC ⟨bx,tk⟩ n m (.psl rows t v) (.sl rows .no):=⟨.psl rows t v h2.h h1.h h3.ok⟩
end
end Go.V
namespace Go.V
open Go Go.Proofs Go.Proofs.Tryz
def H5(e:Eg):List AV:=vi e.f::vi e.t::vi e.k::vb e.y::Af e.n
def Fv(l:List Eg):List (List AV):=l.map H5
theorem Lc(l:List Eg):(Fv l).length=l.length:=by simp[Fv]
theorem Ua(l:List Eg):∀r,r∈Fv l→r.length=8:=fun r h=>by obtain⟨e,_,rfl⟩:=zzq66.1 h;rfl
theorem Ac3(l:List Eg)(e:Eg):Fv l++[H5 e]=Fv (l++[e]):=by simp[Fv]
theorem Up(n:Nd):∀x,x∈Af n→Flat x:=fun x hx=>by
 have h:OKL 0 0 (Af n):=inferInstance;exact(h.ok x hx).flat rfl rfl
theorem Ae7(e:Eg):∀x,x∈H5 e→Flat x:=fun x hx=>by
 simp only[H5,zzq13]at hx;rcases hx with rfl|rfl|rfl|rfl|hx
 ·exact .val _
 ·exact .val _
 ·exact .val _
 ·exact .val _
 ·exact Up _ x hx
theorem Ac2(e:Eg):∀r,r∈[H5 e]→∀x,x∈r→NoT x:=fun r hr x hx=>by simp at hr;subst hr;exact(Ae7 e x hx).noT
instance{n m:Nat}{l:List Eg}:OKR n m (Fv l):=⟨fun r hr x hx=>by obtain⟨e,_,rfl⟩:=zzq66.1 hr;exact(Ae7 e x hx).ok⟩
abbrev mbx(p:Nat)(l:List Eg):List (List AV):=[[vi p,.psl (Fv l) 0 l.length]]
theorem Jj(p:Nat)(l:List Eg)(h:p≤1000000000000):Hands X 159 [.ptr 0 0 0] ⟨[mbx p l],[l.length]⟩ (vi p) ⟨[mbx (p+1) l],[l.length]⟩:=by
 refine Hands.run func159 ?_;have e1:IntKind.i64.wrap ((p:Int)+1)=((p+1:Nat):Int):=(Ac (by omega) (by omega)).trans (by omega);have e2:IntKind.i64.wrap (IntKind.i64.wrap ((p:Int)+1)-1)=(p:Int):=by rw[e1];exact(Ac (by omega) (by omega)).trans (by omega)
 refine If 2 (vi p) ?_ (Ci e2);refine Be ⟨[mbx (p+1) l],[l.length]⟩ ?_ (by rw[mbx,←e1]);exact Bq func159 rfl rfl
theorem As8(p:Nat)(l:List Eg)(e:Eg)(hw:wN e.n≤1000000000)(hl:l.length≤1000000000) :
 Hands X 160 [.ptr 0 0 0,vi e.f,vi e.t,vi e.k,vb e.y,.agg (Af e.n)] ⟨[mbx p l],[l.length]⟩ (.tup []) ⟨[mbx p (l++[e])],[(l++[e]).length]⟩:=by
 refine Hands.run func160 ?_;refine D8 73728 ?_;refine Ce (Adn e.n hw) ?_;refine Ch (Oq (ver:=l.length) rfl (Ua l) (Ac2 e) ?_ (Ac3 l e) rfl rfl rfl rfl rfl rfl rfl rfl rfl rfl rfl rfl rfl rfl rfl rfl rfl) ?_
 ·rw[Lc];simp;omega
 refine Av ?_;refine Av ?_;refine Ch (A7 rfl rfl rfl rfl rfl rfl rfl) ?_;refine B2 ?_;refine Be ⟨[mbx p (l++[e]),[Af e.n]],[(l++[e]).length]⟩ ?_ (by simp);exact Ec func160 rfl rfl
structure Gb (g:Gr)(k:Nat):Prop where
 pt:g.pt<g.pts
 pts:g.pts+24*k≤100000000000
 es:g.es.length+24*k≤1000000000
theorem Gb.step{g g':Gr}{j k m:Nat}(h:Gb g m)(hl:g.le g' (bG j))(hm:j+k≤m):Gb g' k:=by
 obtain⟨l,h1,h2,_⟩:=hl.es;have:=hl.pts;have:=h.pts;have:=h.es;simp only[bG]at h2 this;refine⟨hl.pt,?_,?_⟩
 ·have:=hl.pts.2;simp only[bG]at this;omega
 ·rw[h1,Ex];omega
theorem Gb.step1{g g':Gr}{j k m:Nat}(h:Gb g m)(hl:g.le g' j)(hj:j≤6*m)(hm:j+6*k≤6*m):Gb g' k:=by
 obtain⟨l,h1,h2,_⟩:=hl.es;have:=hl.pts;have:=h.pts;have:=h.es;refine⟨hl.pt,by omega,?_⟩;rw[h1,Ex];omega
abbrev gSt(g:Gr):St:=⟨[mbx g.pts g.es],[g.es.length]⟩
def HSt(n:Nd):Prop:=∀(a:Nd)(g:Gr),Gb g (wN n)→Hands X 220 [.ptr 0 0 0,nd n,vi g.pt] (gSt g) (vi (gS n a g).pt) (gSt (gS n a g))
def HLs(l:List Nd):Prop:=∀(a:Nd)(g:Gr),Gb g (wL l)→Hands X 158 [.ptr 0 0 0,nd (.mk 30 [] 0 l),vi g.pt] (gSt g) (vi (gL l a g).pt) (gSt (gL l a g))
theorem An1{l:List Nd}{i:Nat}{x:Nd}(hx:l[i]?=some x)(a:Nd)(g:Gr):gL (l.take (i+1)) a g=gS x ((l.take i).getLastD a) (gL (l.take i) a g):=by
 rw[G8,hx];simp only[Aav];rw[As6];rfl
theorem Ape{l:List Nd}{i:Nat}{x:Nd}(hx:l[i]?=some x):wL (l.take i)+wN x≤wL l:=by
 have h:l.take (i+1)=l.take i++[x]:=by rw[G8,hx];rfl
 have h1:wL (l.take (i+1))+wL (l.drop (i+1))=wL l:=by rw[←U7,Aee]
 rw[h,U7]at h1;simp only[wL]at h1;omega
theorem Ahk{l:List Nd}(hp:∀x,x∈l→PS x)(hs:∀x,x∈l→HSt x):HLs l:=by
 intro a g hb;have hlw:=Mu l;have hbe:=hb.es;refine Hands.run func158 ?_;refine Ar (ι:=Nat) 2 1 (fun i=>i≤l.length) (fun i=>[(7,vi i),(0,.ptr 0 0 0),(2,vi (gL (l.take i) a g).pt),(4,.ptr 1 0 0)])
  (fun i=>⟨[mbx (gL (l.take i) a g).pts (gL (l.take i) a g).es,[Af (.mk 30 [] 0 l)]],[(gL (l.take i) a g).es.length]⟩) (fun i=>l.length-i) ?_ 0
  (B3 _) ⟨rfl,rfl,rfl,rfl,trivial⟩
 intro i hi IH;have hgi:g.le (gL (l.take i) a g) (bG (wL (l.take i))):=Mq (fun x hx=>hp x (Agn hx)) a g hb.pt;refine C7 (fun h=>?_) (fun h=>?_)
 ·have hlt:i<l.length:=by have:=A5 h;rw[Ad]at this;simp at this;omega
  obtain⟨x,hx⟩:=Ab l hlt;have hwt:=Ape hx;have hbi:Gb (gL (l.take i) a g) (wN x):=hb.step hgi hwt;refine B4 i (by omega) (Am (l:=l) hx) ?_;refine Ae (τ':=[0]) [0] [0] (hs x (Bh hx) ((l.take i).getLastD a) _ hbi) ?_;rw[←An1 hx];exact IH (i+1) hlt (by omega) _ _ ⟨vsx (by omega),rfl,rfl,rfl,trivial⟩ rfl rfl rfl
 ·have:i=l.length:=by have:=Ba h;rw[Ad]at this;simp at this;omega
  subst this;rw[I2]at hgi⊢;exact Bq func158 rfl rfl
theorem Pp(p:Nat)(l:List Eg)(f t k:Int)(y:Bool)(n:Nd)(hw:wN n≤1000000000)(hl:l.length≤1000000000) :
 Hands X 160 [.ptr 0 0 0,vi f,vi t,vi k,vb y,nd n] ⟨[mbx p l],[l.length]⟩ (.tup []) ⟨[mbx p (l++[⟨f,t,k,y,n⟩])],[(l++[(⟨f,t,k,y,n⟩:Eg)]).length]⟩:=As8 p l ⟨f,t,k,y,n⟩ hw hl
theorem R8(p:Nat)(l:List Eg)(f t k:Int)(y:Bool)(hl:l.length≤1000000000) :
 Hands X 160 [.ptr 0 0 0,vi f,vi t,vi k,vb y,.agg [vi 0,str [],vi 0,.sl [] .no]] ⟨[mbx p l],[l.length]⟩ (.tup []) ⟨[mbx p (l++[⟨f,t,k,y,Cg⟩])],[(l++[(⟨f,t,k,y,Cg⟩:Eg)]).length]⟩:=As8 p l ⟨f,t,k,y,Cg⟩ (by show wN Cg≤1000000000;decide) hl
abbrev gS3(p:Nat)(es:List Eg)(n:Nd):St:=⟨[mbx p es,[Af n],[zN]],[es.length]⟩
set_option maxHeartbeats 2000000 in
theorem A1c{n:Nd}(h:PS n):HSt n:=by
 induction h with
 |set s x h hx=>
  intro a g hb;have b1:=hb.pts;have b2:=hb.es;refine Hands.run func220 ?_;rw[Z1];refine Ag ?_;refine Ag ?_;refine Ag ?_;refine Ae (τ':=[0]) [0] [0] (Jj g.pts g.es (by omega)) ?_;refine A0 ?_;refine Ae (τ':=[0]) [0] [0] (Pp (g.pts+1) g.es g.pt g.pts 1 false (.mk 21 s 0 [x]) (by omega) (by omega)) ?_;exact Bq func220 rfl rfl
 |put s x y h hx hy=>
  intro a g hb;have b1:=hb.pts;have b2:=hb.es;refine Hands.run func220 ?_;rw[Z0];refine Ag ?_;refine Ag ?_;refine Ag ?_;refine Ae (τ':=[0]) [0] [0] (Jj g.pts g.es (by omega)) ?_;refine Ag ?_;refine A0 ?_;refine Ae (τ':=[0]) [0] [0] (Pp (g.pts+1) g.es g.pt g.pts 2 false (.mk 22 s 0 [x,y]) (by omega) (by omega)) ?_;exact Bq func220 rfl rfl
 |read s h=>
  intro a g hb;have b1:=hb.pts;have b2:=hb.es;refine Hands.run func220 ?_;rw[Vq];refine Ag ?_;refine Ag ?_;refine Ag ?_;refine Ae (τ':=[0]) [0] [0] (Jj g.pts g.es (by omega)) ?_;refine Ag ?_;refine Ag ?_;refine A0 ?_;refine Ae (τ':=[0]) [0] [0] (Pp (g.pts+1) g.es g.pt g.pts 3 false (.mk 23 s 0 []) (by omega) (by omega)) ?_;exact Bq func220 rfl rfl
 |ifs c l l' hc hl hl' ihl ihl'=>
  intro a g hb;have b1:=hb.pts;have b2:=hb.es;refine Hands.run func220 ?_;have hwc:wN c<wN (.mk 24 [] 0 [c,.mk 30 [] 0 l,.mk 30 [] 0 l']):=Jg (n:=.mk 24 [] 0 [c,.mk 30 [] 0 l,.mk 30 [] 0 l']) (by simp);have hws:wN (.mk 24 [] 0 [c,.mk 30 [] 0 l,.mk 30 [] 0 l'])=3+wN c+wL l+wL l':=by simp only[wN,wL,Wx];omega
  rw[Afe];unfold gIf;refine Ag ?_;refine A0 ?_;refine Ae (τ':=[0]) [0] [0] (Jj g.pts g.es (by omega)) ?_;refine Be (gS3 (g.pts+1) g.es (.mk 24 [] 0 [c,.mk 30 [] 0 l,.mk 30 [] 0 l'])) ?_;refine B4 0 (by omega) (Am (l:=[c,.mk 30 [] 0 l,.mk 30 [] 0 l']) rfl) ?_;refine Ae (τ':=[0]) [0] [0] (Pp (g.pts+1) g.es g.pt g.pts 4 true c (by omega) (by omega)) ?_;refine Be (gS3 (g.pts+1) (g.es++[⟨g.pt,g.pts,4,true,c⟩]) (.mk 24 [] 0 [c,.mk 30 [] 0 l,.mk 30 [] 0 l'])) ?_;have l1:=P6 g.pt c true hb.pt;have c1:Gb (D7 g.pt c true g) (wL l):=hb.step1 l1 (by omega) (by omega);have a2:=Mq hl Cg _ c1.pt;have i1:Hands X 158 [.ptr 0 0 0,nd (.mk 30 [] 0 l),vi g.pts] ⟨[mbx (g.pts+1) (g.es++[⟨g.pt,g.pts,4,true,c⟩])],[(g.es++[(⟨g.pt,g.pts,4,true,c⟩:Eg)]).length]⟩ (vi (gL l Cg (D7 g.pt c true g)).pt) (gSt (gL l Cg (D7 g.pt c true g))):=Ahk hl ihl Cg (D7 g.pt c true g) c1;refine B4 1 (by omega) (Am (l:=[c,.mk 30 [] 0 l,.mk 30 [] 0 l']) rfl) ?_;refine Ae (τ':=[0]) [0] [0] i1 ?_;refine Be (gS3 (gL l Cg (D7 g.pt c true g)).pts (gL l Cg (D7 g.pt c true g)).es (.mk 24 [] 0 [c,.mk 30 [] 0 l,.mk 30 [] 0 l'])) ?_;have l12:=l1.trans a2 (Bo _);generalize gL l Cg (D7 g.pt c true g)=g2 at *;have c2:Gb g2 (wL l'+1):=hb.step1 l12 (by simp only[bG];omega) (by simp only[bG];omega);have b3:=c2.pts;have b4:=c2.es;refine Ae (τ':=[0]) [0] [0] (Jj g2.pts g2.es (by omega)) ?_;refine Be (gS3 (g2.pts+1) g2.es (.mk 24 [] 0 [c,.mk 30 [] 0 l,.mk 30 [] 0 l'])) ?_;refine B4 0 (by omega) (Am (l:=[c,.mk 30 [] 0 l,.mk 30 [] 0 l']) rfl) ?_;refine Ae (τ':=[0]) [0] [0] (Pp (g2.pts+1) g2.es g.pt g2.pts 4 false c (by omega) (by omega)) ?_;refine Be (gS3 (g2.pts+1) (g2.es++[⟨g.pt,g2.pts,4,false,c⟩]) (.mk 24 [] 0 [c,.mk 30 [] 0 l,.mk 30 [] 0 l'])) ?_;have hp2:g.pt<g2.pts:=Mz hb.pt l12.pts.1;have l3:=P6 g.pt c false hp2;have c3:Gb (D7 g.pt c false g2) (wL l'):=c2.step1 l3 (by omega) (by omega);have a4:=Mq hl' Cg _ c3.pt;have i3:Hands X 158 [.ptr 0 0 0,nd (.mk 30 [] 0 l'),vi g2.pts] ⟨[mbx (g2.pts+1) (g2.es++[⟨g.pt,g2.pts,4,false,c⟩])],[(g2.es++[(⟨g.pt,g2.pts,4,false,c⟩:Eg)]).length]⟩ (vi (gL l' Cg (D7 g.pt c false g2)).pt) (gSt (gL l' Cg (D7 g.pt c false g2))):=Ahk hl' ihl' Cg (D7 g.pt c false g2) c3;refine B4 2 (by omega) (Am (l:=[c,.mk 30 [] 0 l,.mk 30 [] 0 l']) rfl) ?_;refine Ae (τ':=[0]) [0] [0] i3 ?_;refine Be (gS3 (gL l' Cg (D7 g.pt c false g2)).pts (gL l' Cg (D7 g.pt c false g2)).es (.mk 24 [] 0 [c,.mk 30 [] 0 l,.mk 30 [] 0 l'])) ?_;have l34:=l3.trans a4 (Bo _);generalize gL l' Cg (D7 g.pt c false g2)=g4 at *;have c4:Gb g4 0:=c2.step1 l34 (by simp only[bG];omega) (by simp only[bG];omega);have b5:=c4.pts;have b6:=c4.es;have b7:=l34.es;refine Ae (τ':=[0]) [0] [0] (Jj g4.pts g4.es (by omega)) ?_;refine Be (gS3 (g4.pts+1) g4.es (.mk 24 [] 0 [c,.mk 30 [] 0 l,.mk 30 [] 0 l'])) ?_;refine Ae (τ':=[0]) [0] [0] (R8 (g4.pts+1) g4.es g2.pt g4.pts 6 false (by omega)) ?_;refine Be (gS3 (g4.pts+1) (g4.es++[⟨g2.pt,g4.pts,6,false,Cg⟩]) (.mk 24 [] 0 [c,.mk 30 [] 0 l,.mk 30 [] 0 l'])) ?_;refine Ae (τ':=[0]) [0] [0] (R8 (g4.pts+1) (g4.es++[⟨g2.pt,g4.pts,6,false,Cg⟩]) g4.pt g4.pts 6 false ?_) ?_
  ·obtain⟨e1,e2,e3,_⟩:=l34.es;have:=c2.es;simp only[bG]at e3;rw[Ex,e2,Ex];simp only[Za];omega
  exact Bq func220 rfl rfl
 |whil c l hc hl ihl=>
  intro a g hb;have b1:=hb.pts;have b2:=hb.es;refine Hands.run func220 ?_;have hwc:wN c<wN (.mk 25 [] 0 [c,.mk 30 [] 0 l]):=Jg (n:=.mk 25 [] 0 [c,.mk 30 [] 0 l]) (by simp);have hws:wN (.mk 25 [] 0 [c,.mk 30 [] 0 l])=2+wN c+wL l:=by simp only[wN,wL,Wx];omega
  have hwn:=Ws c;rw[Aff];unfold gWh;refine Ag ?_;refine Ag ?_;refine A0 ?_;refine Ae (τ':=[0]) [0] [0] (Jj g.pts g.es (by omega)) ?_;refine Be (gS3 (g.pts+1) g.es (.mk 25 [] 0 [c,.mk 30 [] 0 l])) ?_;refine Ae (τ':=[0]) [0] [0] (R8 (g.pts+1) g.es g.pt g.pts 6 false (by omega)) ?_;refine Be (gS3 (g.pts+1) (g.es++[⟨g.pt,g.pts,6,false,Cg⟩]) (.mk 25 [] 0 [c,.mk 30 [] 0 l])) ?_;refine Ae (τ':=[0]) [0] [0] (Jj (g.pts+1) _ (by omega)) ?_;refine Be (gS3 (g.pts+1+1) (g.es++[⟨g.pt,g.pts,6,false,Cg⟩]) (.mk 25 [] 0 [c,.mk 30 [] 0 l])) ?_;refine B4 0 (by omega) (Am (l:=[c,.mk 30 [] 0 l]) rfl) ?_;refine Ae (τ':=[0]) [0] [0] (Pp (g.pts+1+1) (g.es++[⟨g.pt,g.pts,6,false,Cg⟩]) g.pts (g.pts+1:Nat) 4 true c (by omega) (by simp;omega)) ?_;refine Be (gS3 (g.pts+1+1) (g.es++[⟨g.pt,g.pts,6,false,Cg⟩]++[⟨g.pts,(g.pts+1:Nat),4,true,c⟩]) (.mk 25 [] 0 [c,.mk 30 [] 0 l])) ?_;have l1:=L1 6 Cg hb.pt;have l2:=Ahz a (.mk 25 [] 0 [c,.mk 30 [] 0 l]) l1.pt;have l12:=l1.trans l2 (Bo _);have hh:g.pts<(Hp a (.mk 25 [] 0 [c,.mk 30 [] 0 l]) (Dn 6 Cg g)).pts:=by simp[Hp,Dn]
  have l3:=P6 g.pts c true hh;have l123:=l12.trans l3 (Bo _);have c1:Gb (D7 g.pts c true (Hp a (.mk 25 [] 0 [c,.mk 30 [] 0 l]) (Dn 6 Cg g))) (wL l+1):=hb.step1 l123 (by omega) (by omega);have c1':Gb (D7 g.pts c true (Hp a (.mk 25 [] 0 [c,.mk 30 [] 0 l]) (Dn 6 Cg g))) (wL l):=⟨c1.pt,by have:=c1.pts;omega,by have:=c1.es;omega⟩
  have a2:=Mq hl Cg _ c1'.pt;have i1:Hands X 158 [.ptr 0 0 0,nd (.mk 30 [] 0 l),vi (g.pts+1:Nat)] ⟨[mbx (g.pts+1+1) (g.es++[⟨g.pt,g.pts,6,false,Cg⟩]++[⟨g.pts,(g.pts+1:Nat),4,true,c⟩])],[(g.es++[(⟨g.pt,g.pts,6,false,Cg⟩:Eg)]++[(⟨g.pts,(g.pts+1:Nat),4,true,c⟩:Eg)]).length]⟩
   (vi (gL l Cg (D7 g.pts c true (Hp a (.mk 25 [] 0 [c,.mk 30 [] 0 l]) (Dn 6 Cg g)))).pt) (gSt (gL l Cg (D7 g.pts c true (Hp a (.mk 25 [] 0 [c,.mk 30 [] 0 l]) (Dn 6 Cg g))))):=Ahk hl ihl Cg _ c1'
  refine B4 1 (by omega) (Am (l:=[c,.mk 30 [] 0 l]) rfl) ?_;refine Ae (τ':=[0]) [0] [0] i1 ?_;refine Be (gS3 (gL l Cg (D7 g.pts c true (Hp a (.mk 25 [] 0 [c,.mk 30 [] 0 l]) (Dn 6 Cg g)))).pts (gL l Cg (D7 g.pts c true (Hp a (.mk 25 [] 0 [c,.mk 30 [] 0 l]) (Dn 6 Cg g)))).es (.mk 25 [] 0 [c,.mk 30 [] 0 l])) ?_;have l1234:=l123.trans a2 (Bo _);generalize gL l Cg (D7 g.pts c true (Hp a (.mk 25 [] 0 [c,.mk 30 [] 0 l]) (Dn 6 Cg g)))=g2 at *;have c2:Gb g2 0:=c1.step1 a2 (by simp only[bG];omega) (by simp only[bG];omega);have b3:=c2.pts;have b4:=c2.es;have b5:g2.es.length+1≤1000000000:=by
   obtain⟨e1,e2,e3,_⟩:=a2.es;have:=c1.es;simp only[bG]at e3;rw[e2,Ex];omega
  refine Ae (τ':=[0]) [0] [0] (R8 g2.pts g2.es g2.pt g.pts 6 false (by omega)) ?_;refine Be (gS3 g2.pts (g2.es++[⟨g2.pt,g.pts,6,false,Cg⟩]) (.mk 25 [] 0 [c,.mk 30 [] 0 l])) ?_;refine Ae (τ':=[0]) [0] [0] (Jj g2.pts _ (by omega)) ?_;refine Be (gS3 (g2.pts+1) (g2.es++[⟨g2.pt,g.pts,6,false,Cg⟩]) (.mk 25 [] 0 [c,.mk 30 [] 0 l])) ?_;refine B4 0 (by omega) (Am (l:=[c,.mk 30 [] 0 l]) rfl) ?_;refine Ae (τ':=[0]) [0] [0] (Pp (g2.pts+1) (g2.es++[⟨g2.pt,g.pts,6,false,Cg⟩]) g.pts g2.pts 4 false c (by omega) (by simp;omega)) ?_;exact Bq func220 rfl rfl
 |check c hc=>
  intro a g hb;have b1:=hb.pts;have b2:=hb.es;refine Hands.run func220 ?_;have hwc:wN c<wN (.mk 27 [] 0 [c]):=Jg (n:=.mk 27 [] 0 [c]) (by simp);rw[Ql];refine Ag ?_;refine Ag ?_;refine Ag ?_;refine Ae (τ':=[0]) [0] [0] (Jj g.pts g.es (by omega)) ?_;refine Ag ?_;refine Ag ?_;refine Ag ?_;refine A0 ?_;refine B4 0 (by omega) (Am (l:=[c]) rfl) ?_;refine Ae (τ':=[0]) [0] [0] (Pp (g.pts+1) g.es g.pt g.pts 5 false c (by omega) (by omega)) ?_;exact Bq func220 rfl rfl
 |skip=>
  intro a g hb;have b1:=hb.pts;have b2:=hb.es;refine Hands.run func220 ?_;rw[Vr];refine Ag ?_;refine Ag ?_;refine Ag ?_;refine Ae (τ':=[0]) [0] [0] (Jj g.pts g.es (by omega)) ?_;refine Ag ?_;refine Ag ?_;refine Ag ?_;refine Ag ?_;refine Ae (τ':=[0]) [0] [0] (R8 (g.pts+1) g.es g.pt g.pts 6 false (by omega)) ?_;exact Bq func220 rfl rfl
 |stop=>
  intro a g hb;have b1:=hb.pts;have b2:=hb.es;refine Hands.run func220 ?_;rw[Vs];refine A0 ?_;refine Ae (τ':=[0]) [0] [0] (R8 g.pts g.es g.pt (-1) 7 false (by omega)) ?_;refine Ae (τ':=[0]) [0] [0] (Jj g.pts _ (by omega)) ?_;exact Bq func220 rfl rfl
end Go.V
