/- A part of the proof of the claim that the last text states: no condition of its own. -/
import Derived.Test.YtojhghmilenfkaaGreatDoorN10
import Derived.Laws.Cover3
set_option linter.unusedVariables false
set_option linter.unusedSimpArgs false
namespace Go.V
open Go Go.Proofs Go.Proofs.Tryz
theorem Agf(s p:List UInt8):(Kd s p).length≤s.length:=by unfold Kd;split<;>simp
theorem As9(a b:List UInt8):(Tm a b).length≤1:=by unfold Tm;split<;>simp
theorem Afb:∀(ws:Mg)(a:List UInt8),(∀w,w∈ws→w.length≤21)→(Ha a ws).length≤22*ws.length
 |[],a,_=>by simp[Ha]
 |b::ws,a,h=>by
  have h1:=Afb ws b fun w hw=>h w (by simp[hw]);have h2:=As9 a b;have h3:=Agf b [32];have h4:=h b (by simp);simp only[Ha,Ex,Nn];omega
def okW(ws:Mg):Prop:=∀w,w∈ws→w.length≤21
theorem Ap5(ws:Mg)(h:okW ws):(Po ws).length≤22*ws.length:=by
 cases ws with
 |nil=>simp[Po]
 |cons b ws=>
  have h1:=Afb ws b fun w hw=>h w (by simp[hw]);have h3:=Agf b [32];have h4:=h b (by simp);simp only[Po,Ex,Nn];omega
theorem Bw{a b:Mg}(ha:okW a)(hb:okW b):okW (a++b):=fun w hw=>(zzq45.1 hw).elim (ha w) (hb w)
theorem Bp{a:List UInt8}(h:a.length≤21):okW [a]:=fun w hw=>by simp at hw;subst hw;exact h
theorem E7{a:List UInt8}{l:Mg}(h:a.length≤21)(hl:okW l):okW (a::l):=fun w hw=>by
 rcases zzq13.1 hw with rfl|hw
 ·exact h
 ·exact hl w hw
theorem Ah4:okW []:=fun w hw=>by cases hw
theorem Gn(ws:Mg)(h:Nat)(hw:okW ws):(Er ws h).length≤2*h+22*ws.length+1:=by
 have:=Ap5 ws hw;simp[Er];omega
theorem PrN.get{n:Nd}(h:PrN n):n.name.length≤8∧-9223372036854775808≤n.num∧n.num≤9223372036854775807∧∀x,x∈n.kids→PrN x:=by
 cases h with|mk k s m ks hs h0 h1 hk=>exact⟨hs,h0,h1,hk⟩
theorem An8{m:Int}(h0:-9223372036854775808≤m)(h1:m≤9223372036854775807):(Lib.itoa m).length≤21:=Lib.itoa_length_le m h0 h1
theorem Ay5(k:Int):(Ux k).length≤21:=by have:=Adx k;omega
theorem A1o{a b:Bool}{k:Int}{w:Mg}(h:okW w):okW (Pf a b k w):=by
 unfold Pf;split
 ·exact Bw (Bw (Bp (by simp)) h) (Bp (by simp))
 ·exact h
theorem Yf(n:Nd)(h:PrN n):okW (A1 n):=by
 induction n using Nd.ind with
 |h n ih=>
  obtain⟨hs,h0,h1,hk⟩:=h.get;have K:∀i,okW (A1 (Bv n i)):=fun i=>by
   rcases Mt n i with h|h
   ·exact ih _ h (hk _ h)
   ·rw[h,Afa];exact Ah4
  have E:∀i,okW (eW (B5 n.kids) i):=fun i=>by rw[F8];exact K i
  have I:∀i a b,okW (iW (B5 n.kids) i a b):=fun i a b=>by rw[Z2];exact A1o (K i)
  rw[Ac4];unfold Gf
  repeat' split
  ·exact Bp (An8 h0 h1)
  ·exact Bp (by omega)
  ·exact Bw (Bw (E7 (by omega) (Bp (by simp))) (E 0)) (Bp (by simp))
  ·exact E7 (by simp) (E7 (by simp) (E7 (by omega) (Bp (by simp))))
  ·exact Bw (Bp (by simp)) (I 0 _ _)
  ·exact Bw (Bw (E 0) (Bp (by simp))) (I 1 _ _)
  ·exact Bw (Bw (E 0) (Bp (by simp))) (I 1 _ _)
  ·exact Bw (Bw (I 0 _ _) (Bp (by simp))) (I 1 _ _)
  ·exact Bw (Bw (E 0) (Bp (Ay5 _))) (E 1)
  ·exact Ah4
theorem Afj(l:List Nd)(h:Nat):Jl l h=l.map fun x=>Aaz x h:=by
 induction l with
 |nil=>simp[Jl]
 |cons x l ih=>simp[Jl,ih]
theorem Acy(n:Nd)(h:Nat):Aaz n h=(Ki n.kids (h+1),!n.kids.isEmpty):=by cases n;simp[Aaz,Nd.kids]
theorem Anl(n:Nd)(h i:Nat):bT (Jl n.kids h) i=Ki (Bv n i).kids (h+1)∧bQ' (Jl n.kids h) i=!(Bv n i).kids.isEmpty:=by
 have:(Jl n.kids h).getD i ([],false)=Aaz (Bv n i) h:=by
  rw[Afj];unfold Bv;cases hx:n.kids[i]? with
  |none=>simp[List.getD,hx,Acy,Cg,Ki]
  |some x=>simp[List.getD,hx]
 rw[bT,bQ',this,Acy];exact⟨rfl,rfl⟩
theorem Aok(n:Nd)(h:Nat):Ht n h=Wh n.kind n.name n.num (B5 n.kids) (Jl n.kids h) h:=by cases n;simp[Ht,Nd.kind,Nd.name,Nd.num,Nd.kids]
theorem Au9(n:Nd)(h:PrN n):okW (V6 n.kind n.name n.num (B5 n.kids)):=by
 obtain⟨hs,h0,h1,hk⟩:=h.get;have E:∀i,okW (eW (B5 n.kids) i):=fun i=>by rw[F8];exact Yf _ (h.kid i)
 unfold V6
 repeat' split
 ·exact E7 (by simp) (Bp (by omega))
 ·exact E7 (by simp) (E7 (by omega) (E7 (by simp) (E7 (by simp) (Bp (by simp)))))
 ·exact E7 (by simp) (E7 (by omega) (E7 (by simp) (E7 (An8 h0 h1) (Bp (by simp)))))
 ·exact Bw (E7 (by omega) (Bp (by simp))) (E 0)
 ·exact Bw (Bw (Bw (E7 (by omega) (Bp (by simp))) (E 0)) (E7 (by simp) (Bp (by simp)))) (E 1)
 ·exact E7 (by simp) (Bp (by omega))
 ·exact Bw (Bp (by simp)) (E 0)
 ·exact Bp (by simp)
 ·exact Bp (by simp)
theorem Aha(ks:List Nd):(eW (B5 ks) 0).length+(eW (B5 ks) 1).length≤8*A3 ks:=by
 have:=(Ajm ks fun x _=>Ae9 x).1;omega
theorem Aze(n:Nd):(V6 n.kind n.name n.num (B5 n.kids)).length≤8*A3 n.kids+5:=by
 have:=Aha n.kids;unfold V6
 repeat' split
 all_goals simp
 all_goals omega
theorem Ah5{l:List Nd}{h:Nat}(hx:∀x,x∈l→(Ht x h).length≤1000*Ai x):(Ki l h).length≤1000*A3 l:=by
 induction l with
 |nil=>simp[Ki]
 |cons x l ih=>
  have h1:=hx x (by simp);have h2:=ih fun y hy=>hx y (by simp[hy]);simp only[Ki,A3,Ex];omega
def cK(ks:List Nd)(i:Nat):Nat:=match ks[i]? with
 |some x=>Ai x
 |none=>0
theorem A0z(ks:List Nd):cK ks 0+cK ks 1+cK ks 2≤A3 ks:=by
 match ks with
 |[]=>simp[cK]
 |[a]=>simp[cK,A3]
 |[a,b]=>simp[cK,A3]
 |a::b::c::l=>simp[cK,A3];omega
theorem Az0(ks:List Nd)(i:Nat):(eW (B5 ks) i).length≤8*cK ks i:=by
 rw[eW,Afl];unfold cK;cases hx:ks[i]? with
 |none=>simp[List.getD,hx]
 |some x=>have:=Ae9 x;simp[List.getD,hx];omega
theorem A3r(ks:List Nd)(h i:Nat)(hx:∀y,y∈ks→∀x,x∈y.kids→(Ht x (h+1)).length≤1000*Ai x):(bT (Jl ks h) i).length≤1000*cK ks i:=by
 rw[bT,Afj];unfold cK;cases hy:ks[i]? with
 |none=>simp[List.getD,hy]
 |some y=>
  have:=Ah5 (hx y (Bh hy));have:=Cj y;simp[List.getD,hy,Acy];omega
theorem Aol(n:Nd):∀h:Nat,PrN n→h+Dh n≤60→(Ht n h).length≤1000*Ai n:=by
 have:∀n:Nd,(∀h:Nat,PrN n→h+Dh n≤60→(Ht n h).length≤1000*Ai n)∧∀y,y∈n.kids→∀h:Nat,PrN y→h+Dh y≤60→(Ht y h).length≤1000*Ai y:=by
  intro n
  induction n using Nd.ind with
  |h n ih=>
   refine⟨fun h hp hd=>?_,fun y hy=>(ih y hy).1⟩;have hdn:=J4 n;have hcn:=Cj n;have hb:=fun i=>A3r n.kids h i fun y hy x hx=>(ih y hy).2 x hx (h+1) ((hp.get.2.2.2 y hy).get.2.2.2 x hx) (by
    have h1:=Gv hy;have h2:=Gv hx;have h3:=J4 y;omega)
   have he:=Aha n.kids;have b1:=hb 1;have b2:=hb 2;have e0:=Az0 n.kids 0;have e1:=Az0 n.kids 1;have cs:=A0z n.kids;have E:∀i,okW (eW (B5 n.kids) i):=fun i=>by rw[F8];exact Yf _ (hp.kid i)
   have hs:=hp.get.1;rw[Aok];unfold Wh;split
   ·have h1:=Gn (V6 n.kind n.name n.num (B5 n.kids)++[[59]]) h (Bw (Au9 n hp) (Bp (by simp)));have h2:=Aze n;simp at h1;omega
   ·have l1:=Gn [[125]] h (Bp (by simp));have l2:=Gn [[125],Iu,[123]] h (E7 (by simp) (E7 (by simp) (Bp (by simp))));have l0:=Gn [] h Ah4;have a1:=Gn ([V9]++eW (B5 n.kids) 0++[[123]]) h (Bw (Bw (Bp (by simp)) (E 0)) (Bp (by simp)));have a2:=Gn ([Gp]++eW (B5 n.kids) 0++[[123]]) h (Bw (Bw (Bp (by simp)) (E 0)) (Bp (by simp)));have a3:=Gn ([L9,n.name,Jn]++eW (B5 n.kids) 0++[wTo]++eW (B5 n.kids) 1++[[123]]) h
     (Bw (Bw (Bw (Bw (E7 (by simp) (E7 (by omega) (Bp (by simp)))) (E 0)) (Bp (by simp))) (E 1)) (Bp (by simp)))
    simp at l1 l2 l0 a1 a2 a3;unfold cpT
    repeat' split
    all_goals simp
    all_goals omega
 exact(this n).1
abbrev bK(A:AV)(s:List UInt8)(ws:Mg)(h:Int):List AV:=[A,.buf 5 s 0,.sl (Dl ws) (.tok 2),vi h]
def HS(x:Nd):Prop:=∀(b:Bool)(s:List UInt8)(h:Nat),h+Dh x≤60→s.length+(Ht x h).length≤1000000000 →
 Hands X 266 [.ptr 0 0 0,nd x] ⟨[[bN (Np 312 0 b) s h]],[s.length]⟩ (.tup []) ⟨[[bN (.ptr 0 0 0) (s++Ht x h) h]],[(s++Ht x h).length]⟩
def N5(x:Nd)(ws:Mg)(h:Nat):List UInt8:=Er (ws++[[123]]) h++Ki x.kids (h+1)
def HBk(x:Nd):Prop:=∀(b:Bool)(s:List UInt8)(ws:Mg)(h:Nat),h+Dh x≤60→okW ws→ws.length≤900000→s.length+(N5 x ws h).length≤1000000000 →
 Hands X 315 [.ptr 0 0 0,nd x] ⟨[[bP (Np 312 0 b) s ws h]],[s.length,ws.length]⟩ (.tup [])
  ⟨[[bK (.ptr 0 0 0) (s++N5 x ws h) [[125]] h]],[(s++N5 x ws h).length,(ws++[[123]]).length,1]⟩
theorem PutC.f{r:List (List AV)}{xs:Mg}(hp:PutC r xs)(s:List UInt8)(ws:Mg)(h:Int)(hw:ws.length≤1000000000) :
 Hands X 294 [.ptr 0 0 0,.sl r .no] ⟨[[bP (.ptr 0 0 0) s ws h]],[s.length,ws.length]⟩ (.tup []) ⟨[[bP (.ptr 0 0 0) s (ws++xs) h]],[s.length,(ws++xs).length]⟩:=hp false s ws h hw
theorem PutC.n{r:List (List AV)}{xs:Mg}(hp:PutC r xs)(b:Bool)(s:List UInt8)(h:Int) :
 Hands X 294 [.ptr 0 0 0,.sl r .no] ⟨[[[Np 312 0 b,.buf 5 s 0,.sl [] (.tok 1),vi h]]],[s.length,0]⟩ (.tup []) ⟨[[bP (Np 312 0 b) s xs h]],[s.length,xs.length]⟩:=hp b s [] h (by simp)
theorem PutC.m{r:List (List AV)}{xs:Mg}(hp:PutC r xs)(s:List UInt8)(h:Int) :
 Hands X 294 [.ptr 0 0 0,.sl r .no] ⟨[[[.ptr 0 0 0,.buf 5 s 0,.sl [] (.tok 1),vi h]]],[s.length,0]⟩ (.tup []) ⟨[[bP (.ptr 0 0 0) s xs h]],[s.length,xs.length]⟩:=hp false s [] h (by simp)
theorem Azx(b:Bool)(s:List UInt8)(h:Int):RinB [0] [0] [[bN (Np 312 0 b) s h]] [[bN (Np 312 0 b) s h]]:=
 have h1:RinC [0] [0] (Np 312 0 b) (Np 312 0 b):=inferInstance;have h2:RinC [0] [0] (.buf 5 s 0) (.buf 5 s 0):=inferInstance;have h3:Ren true [0] [0] (.sl [] .tight) (.sl [] .tight):=Zm .nil (.inr (.inr (.inr (.inl ⟨rfl,rfl⟩))));have h4:RinC [0] [0] (vi h) (vi h):=inferInstance
 ⟨.cons (.cons (.cons h1.s (.cons h2.s (.cons h3 (.cons h4.s .nil)))) .nil) .nil⟩
theorem A3q(s:List UInt8)(h:Int):RinB [0] [0] [[bN (.ptr 0 0 0) s h]] [[bN (.ptr 0 0 0) s h]]:=Azx false s h
theorem HS.f{x:Nd}(hx:HS x)(s:List UInt8)(h:Nat)(hd:h+Dh x≤60)(hl:s.length+(Ht x h).length≤1000000000) :
 Hands X 266 [.ptr 0 0 0,nd x] ⟨[[bN (.ptr 0 0 0) s h]],[s.length]⟩ (.tup []) ⟨[[bN (.ptr 0 0 0) (s++Ht x h) h]],[(s++Ht x h).length]⟩:=hx false s h hd hl
theorem HBk.f{x:Nd}(hx:HBk x)(s:List UInt8)(ws:Mg)(h:Nat)(hd:h+Dh x≤60)(hw:okW ws)(hwl:ws.length≤900000)(hl:s.length+(N5 x ws h).length≤1000000000) :
 Hands X 315 [.ptr 0 0 0,nd x] ⟨[[bP (.ptr 0 0 0) s ws h]],[s.length,ws.length]⟩ (.tup [])
  ⟨[[bK (.ptr 0 0 0) (s++N5 x ws h) [[125]] h]],[(s++N5 x ws h).length,(ws++[[123]]).length,1]⟩:=hx false s ws h hd hw hwl hl
theorem Hr(ws:Mg)(h:Nat):(Er ws h).length=2*h+(Po ws).length+1:=by simp[Er];omega
theorem Ur{ws:Mg}(h:okW ws):∀x,x∈ws→x.length≤1000000:=fun x hx=>by have:=h x hx;omega
theorem An2(x:Nd)(hy:∀y,y∈x.kids→HS y)(hl:x.kids.length≤100000):HBk x:=by
 intro b s ws h hd hw hwl hb;have dx:=J4 x;have e1:(N5 x ws h).length=(Er (ws++[[123]]) h).length+(Ki x.kids (h+1)).length:=by simp[N5]
 have e2:=Hr (ws++[[123]]) h;have hi1:IntKind.i64.wrap ((h:Int)+1)=((h+1:Nat):Int):=(Ac (by omega) (by omega)).trans (by omega);have hi2:IntKind.i64.wrap (((h+1:Nat):Int)-1)=(h:Int):=(Ac (by omega) (by omega)).trans (by omega);refine Hands.run (n:=1) (m:=2) func315 ?_;refine Ae (τ':=[0,1]) [0] [0,1] (Jf [123] b s ws h (by omega)) ?_;refine Ae (τ':=[0]) [0] [0] (Oy b s (ws++[[123]]) h (by omega) (by simp<;>omega) (by omega) (by omega) (Ur (Bw hw (Bp (by simp))))) ?_;refine Be ⟨[[bN (.ptr 0 0 0) (s++Er (ws++[[123]]) h) ((h+1:Nat):Int)],[Af x]],[(s++Er (ws++[[123]]) h).length,(ws++[[123]]).length]⟩ ?_ (by rw[←hi1]<;>rfl);refine Ar (ι:=Nat×List UInt8) 2 2 (fun i=>i.1≤x.kids.length∧i.2++Ki (x.kids.drop i.1) (h+1)=s++N5 x ws h) (fun i=>[(21,vi i.1),(20,vi x.kids.length),(19,.sl (Ap x.kids) .no),(0,.ptr 0 0 0)])
  (fun i=>⟨[[bN (.ptr 0 0 0) i.2 ((h+1:Nat):Int)],[Af x]],[i.2.length,(ws++[[123]]).length]⟩) (fun i=>x.kids.length-i.1) ?_ (0,s++Er (ws++[[123]]) h) ⟨B3 _,by simp[N5]⟩ ⟨rfl,by rw[←Ad];rfl,rfl,rfl,trivial⟩ rfl rfl rfl rfl rfl
  (fun _=>inferInstance) (fun _=>inferInstance)
 rintro⟨i,out⟩ ⟨hi,hT⟩ IH;simp only at hi hT IH⊢;have hol:=congrArg List.length hT;simp only[Ex]at hol;refine C7 (fun h1=>?_) (fun h1=>?_)
 ·have hlt:i<x.kids.length:=by have:=A5 h1;omega
  obtain⟨y,hyi⟩:=Ab x.kids hlt;have hmem:=Bh hyi;have hdr:=B6 hyi;rw[hdr]at hT hol;simp only[Ki,Ex]at hT hol;refine B4 i (by omega) (Am hyi) ?_;refine Ae (hb:=A3q out ((h+1:Nat):Int)) (τ':=[0]) [0] [0] ((hy y hmem).f out (h+1) (by have:=Gv hmem;omega) (by omega)) ?_;exact IH (i+1,out++Ht y (h+1)) ⟨hlt,by simpa using hT⟩ (by simp only;omega) _ _ ⟨vsx (by omega),rfl,rfl,rfl,trivial⟩ rfl rfl rfl
 ·have hie:i=x.kids.length:=by have:=Ba h1;omega
  subst hie;rw[Aef (Bo _)]at hT;simp only[Ki,H0]at hT;subst hT;refine Be ⟨[[bN (.ptr 0 0 0) (s++N5 x ws h) h],[Af x]],[(s++N5 x ws h).length,(ws++[[123]]).length]⟩ ?_ (by rw[←hi2]<;>rfl);refine En 0 0 2 (bx:=[[[.ptr 0 0 0,.buf 5 (s++N5 x ws h) 0,.sl [] (.tok 2),vi h]],[Af x]]) (tk:=[(s++N5 x ws h).length,(ws++[[123]]).length,0]) rfl rfl rfl rfl rfl rfl ?_;refine Ae (τ':=[0,2]) [0] [0,2] ((Jf [125]).m (s++N5 x ws h) h) ?_;exact Ec func315 rfl rfl
def cpP(k:Int)(s:List UInt8)(c:List (Int×Mg))(b:List (List UInt8×Bool))(h:Nat):List UInt8:=
 if k=24 then Er ([V9]++eW c 0++[[123]]) h++bT b 1++(if bQ' b 2 then Er [[125],Iu,[123]] h++bT b 2 else[])
 else if k=25 then Er ([Gp]++eW c 0++[[123]]) h++bT b 1
 else if k=26 then Er ([L9,s,Jn]++eW c 0++[wTo]++eW c 1++[[123]]) h++bT b 2
 else[]
def cpW(k:Int):Mg:=if k=24 then[[125]]else if k=25 then[[125]]else if k=26 then[[125]]else[]
def cpB(k:Int)(b:Bool):Bool:=if k=24 then false else if k=25 then false else if k=26 then false else b
theorem A08(k:Int)(s:List UInt8)(c:List (Int×Mg))(b:List (List UInt8×Bool))(h:Nat):cpT k s c b h=cpP k s c b h++Er (cpW k) h:=by
 unfold cpT cpP cpW
 repeat' split
 all_goals simp
theorem Ag3(n:Nd)(h i:Nat):bT (Jl n.kids h) i=Ki (Bv n i).kids (h+1):=(Anl n h i).1
theorem A0t(n:Nd)(h i:Nat):bQ' (Jl n.kids h) i=!(Bv n i).kids.isEmpty:=(Anl n h i).2
theorem Afi(n:Nd)(i:Nat){h:Nat}(hd:h+Dh n≤60):h+Dh (Bv n i)≤60:=by
 have:=J4 n;rcases Mt n i with h|h
 ·have:=Gv h;omega
 ·rw[h];show _+1≤60;omega
set_option maxHeartbeats 2000000 in
theorem Al0(n:Nd)(hp:PrN n)(hsz:Ai n≤1000)(hk:∀i,HBk (Bv n i))(b:Bool)(s:List UInt8)(h:Nat)(hd:h+Dh n≤60)(hl:s.length+(cpP n.kind n.name (B5 n.kids) (Jl n.kids h) h).length≤1000000000) :
 Hands X 298 [.ptr 0 0 0,nd n] ⟨[[bN (Np 312 0 b) s h]],[s.length]⟩ (.tup [])
  ⟨[[bQ (Np 312 0 (cpB n.kind b)) (s++cpP n.kind n.name (B5 n.kids) (Jl n.kids h) h) (cpW n.kind) h]],[(s++cpP n.kind n.name (B5 n.kids) (Jl n.kids h) h).length]⟩:=by
 have hkl:n.kids.length≤4000000000:=by have:=Bm n.kids;have:=Cj n;omega
 have q0:=Ads n 0 (by omega) hkl;have q1:=Ads n 1 (by omega) hkl;have q2:=Ads n 2 (by omega) hkl;have e0:=Ahn (Bv n 0) (hp.kid 0);have e1:=Ahn (Bv n 1) (hp.kid 1);have w0:=Yf (Bv n 0) (hp.kid 0);have w1:=Yf (Bv n 1) (hp.kid 1);have he:=Aha n.kids;have hcn:=Cj n;rw[F8,F8]at he;have kc:∀i,Ai (Bv n i)≤1000:=fun i=>by
  rcases Mt n i with h|h
  ·have:=E5 h;omega
  ·rw[h];decide
 have c0:=kc 0;have c1:=kc 1;have d1:=Afi n 1 hd;have d2:=Afi n 2 hd;have hs8:=hp.get.1;refine Hands.run (n:=1) (m:=1) func298 ?_;refine Ah (fun h1=>?_) (fun h1=>?_)
 ·have h1':n.kind=24:=by simpa using h1
  have hB:cpB n.kind b=false:=by unfold cpB;rw[if_pos h1']
  have hW:cpW n.kind=[[125]]:=by unfold cpW;rw[if_pos h1']
  have hP:cpP n.kind n.name (B5 n.kids) (Jl n.kids h) h=N5 (Bv n 1) ([V9]++A1 (Bv n 0)) h++(if !(Bv n 2).kids.isEmpty then N5 (Bv n 2) ([[125]]++[Iu]) h else[]):=by
   unfold cpP;rw[if_pos h1',F8,Ag3,A0t,Ag3];simp[N5]
  rw[hB,hW];rw[hP]at hl⊢;simp only[Ex]at hl;refine En 0 0 2 (bx:=[[[Np 312 0 b,.buf 5 s 0,.sl [] (.tok 1),vi h]],[Af n]]) (tk:=[s.length,0]) rfl rfl rfl rfl rfl rfl ?_;refine Ae (τ':=[0,1]) [0] [0,1] ((Jf V9).n b s h) ?_;refine Al q0 ?_;refine Ae (τ':=[0,1]) [0] [0,1] (e0 (by omega) b s ([V9]) h (by simp<;>omega)) ?_;refine Al q1 ?_;refine Ae (τ':=[0,1,2]) [0] [0,1] (hk 1 b s ([V9]++A1 (Bv n 0)) h d1 (Bw ((Bp (by simp))) w0) (by simp<;>omega) (by omega)) ?_;refine Al q2 ?_;refine Ah (fun h2=>?_) (fun h2=>?_)
  ·have h2':(!(Bv n 2).kids.isEmpty)=true:=by
    have:=A5 h2;rw[Ad]at this;cases hh:(Bv n 2).kids with
    |nil=>rw[hh]at this;simp at this
    |cons y l=>rfl
   rw[if_pos h2']at hl⊢;rw[←Fp];refine Ae (τ':=[0,2]) [0] [0,2] ((Jf Iu).f (s++N5 (Bv n 1) ([V9]++A1 (Bv n 0)) h) [[125]] h (by simp)) ?_;refine Al q2 ?_;refine Ae (τ':=[0,2,3]) [0] [0,2] ((hk 2).f (s++N5 (Bv n 1) ([V9]++A1 (Bv n 0)) h) ([[125]]++[Iu]) h d2 (Bw (Bp (by simp)) (Bp (by simp))) (by simp) (by simp only[Ex];omega)) ?_;refine Rk 0 0 2 (.sl (Dl [[125]]) .no) ?_;exact Ec func298 rfl rfl
  ·have h2':¬(!(Bv n 2).kids.isEmpty)=true:=by
    have:=Ba h2;rw[Ad]at this;cases hh:(Bv n 2).kids with
    |nil=>simp
    |cons y l=>rw[hh]at this;simp at this
   rw[if_neg h2',H0]at *;refine Rk 0 0 2 (.sl (Dl [[125]]) .no) ?_;exact Ec func298 rfl rfl
 have h1':n.kind≠24:=by simpa using h1
 refine Ah (fun h2=>?_) (fun h2=>?_)
 ·have h2':n.kind=25:=by simpa using h2
  have hB:cpB n.kind b=false:=by unfold cpB;rw[if_neg h1',if_pos h2']
  have hW:cpW n.kind=[[125]]:=by unfold cpW;rw[if_neg h1',if_pos h2']
  have hP:cpP n.kind n.name (B5 n.kids) (Jl n.kids h) h=N5 (Bv n 1) ([Gp]++A1 (Bv n 0)) h:=by
   unfold cpP;rw[if_neg h1',if_pos h2',F8,Ag3];simp[N5]
  rw[hB,hW];rw[hP]at hl⊢;refine En 0 0 2 (bx:=[[[Np 312 0 b,.buf 5 s 0,.sl [] (.tok 1),vi h]],[Af n]]) (tk:=[s.length,0]) rfl rfl rfl rfl rfl rfl ?_;refine Ae (τ':=[0,1]) [0] [0,1] ((Jf Gp).n b s h) ?_;refine Al q0 ?_;refine Ae (τ':=[0,1]) [0] [0,1] (e0 (by omega) b s ([Gp]) h (by simp<;>omega)) ?_;refine Al q1 ?_;refine Ae (τ':=[0,1,2]) [0] [0,1] (hk 1 b s ([Gp]++A1 (Bv n 0)) h d1 (Bw ((Bp (by simp))) w0) (by simp<;>omega) (by omega)) ?_;refine Rk 0 0 2 (.sl (Dl [[125]]) .no) ?_;exact Ec func298 rfl rfl
 have h2':n.kind≠25:=by simpa using h2
 refine Ah (fun h3=>?_) (fun h3=>?_)
 ·have h3':n.kind=26:=by simpa using h3
  have hB:cpB n.kind b=false:=by unfold cpB;rw[if_neg h1',if_neg h2',if_pos h3']
  have hW:cpW n.kind=[[125]]:=by unfold cpW;rw[if_neg h1',if_neg h2',if_pos h3']
  have hP:cpP n.kind n.name (B5 n.kids) (Jl n.kids h) h=N5 (Bv n 2) ([L9,n.name,Jn]++A1 (Bv n 0)++[wTo]++A1 (Bv n 1)) h:=by
   unfold cpP;rw[if_neg h1',if_neg h2',if_pos h3',F8,F8,Ag3];simp[N5]
  rw[hB,hW];rw[hP]at hl⊢;refine En 0 0 2 (bx:=[[[Np 312 0 b,.buf 5 s 0,.sl [] (.tok 1),vi h]],[Af n]]) (tk:=[s.length,0]) rfl rfl rfl rfl rfl rfl ?_;refine Ae (τ':=[0,1]) [0] [0,1] ((A5c L9 n.name Jn).n b s h) ?_;refine Al q0 ?_;refine Ae (τ':=[0,1]) [0] [0,1] (e0 (by omega) b s ([L9,n.name,Jn]) h (by simp<;>omega)) ?_;refine Ae (τ':=[0,1]) [0] [0,1] (Jf wTo b s ([L9,n.name,Jn]++A1 (Bv n 0)) h (by simp<;>omega)) ?_;refine Al q1 ?_;refine Ae (τ':=[0,1]) [0] [0,1] (e1 (by omega) b s ([L9,n.name,Jn]++A1 (Bv n 0)++[wTo]) h (by simp<;>omega)) ?_;refine Al q2 ?_;refine Ae (τ':=[0,1,2]) [0] [0,1] (hk 2 b s ([L9,n.name,Jn]++A1 (Bv n 0)++[wTo]++A1 (Bv n 1)) h d2
   (Bw (Bw (Bw (E7 (by simp) (E7 (by omega) (Bp (by simp)))) w0) (Bp (by simp))) w1) (by simp<;>omega) (by omega)) ?_
  refine Rk 0 0 2 (.sl (Dl [[125]]) .no) ?_;exact Ec func298 rfl rfl
 have h3':n.kind≠26:=by simpa using h3
 have hB:cpB n.kind b=b:=by unfold cpB;rw[if_neg h1',if_neg h2',if_neg h3']
 have hW:cpW n.kind=[]:=by unfold cpW;rw[if_neg h1',if_neg h2',if_neg h3']
 have hP:cpP n.kind n.name (B5 n.kids) (Jl n.kids h) h=[]:=by unfold cpP;rw[if_neg h1',if_neg h2',if_neg h3']
 rw[hB,hW,hP,H0];refine Rk 0 0 2 (.sl (Dl []) .no) ?_;exact Ec func298 rfl rfl
set_option maxHeartbeats 2000000 in
theorem A1e(n:Nd)(hp:PrN n)(hsz:Ai n≤1000)(hk:∀i,HBk (Bv n i)):HS n:=by
 intro b s h hd hl;have hkl:n.kids.length≤4000000000:=by have:=Bm n.kids;have:=Cj n;omega
 have q0:=Ads n 0 (by omega) hkl;have q1:=Ads n 1 (by omega) hkl;have e0:=Ahn (Bv n 0) (hp.kid 0);have e1:=Ahn (Bv n 1) (hp.kid 1);have he:=Aha n.kids;have hcn:=Cj n;rw[F8,F8]at he;have kc:∀i,Ai (Bv n i)≤1000:=fun i=>by
  rcases Mt n i with h|h
  ·have:=E5 h;omega
  ·rw[h];decide
 have c0:=kc 0;have c1:=kc 1;have hn:=hp.get;have hst:=Au9 n hp;have hO:Ht n h=if Nt n.kind then Er (V6 n.kind n.name n.num (B5 n.kids)++[[59]]) h else cpP n.kind n.name (B5 n.kids) (Jl n.kids h) h++Er (cpW n.kind) h:=by
  rw[Aok];unfold Wh;split
  ·rfl
  ·rw[A08]
 refine Hands.run (n:=1) (m:=1) func266 ?_;refine Ah (fun h31=>?_) (fun h31=>?_)
 ·have h31':n.kind=31:=by simpa using h31
  have hT:V6 n.kind n.name n.num (B5 n.kids)=[Nm,n.name]:=by unfold V6;rw[if_pos h31']<;>rfl
  rw[if_pos (by simp[Nt,h31']),hT]at hO;rw[hT]at hst;rw[hO]at hl⊢;have hfl:=Hr ([Nm,n.name]++[[59]]) h;have hwl:=Gn ([Nm,n.name]++[[59]]) h (Bw hst (Bp (by simp)));refine En 0 0 2 (bx:=[[[Np 312 0 b,.buf 5 s 0,.sl [] (.tok 1),vi h]],[Af n]]) (tk:=[s.length,0]) rfl rfl rfl rfl rfl rfl ?_;refine Ae (τ':=[0,1]) [0] [0,1] ((Aqw Nm n.name).n b s h) ?_;refine Ae (τ':=[0,1]) [0] [0,1] (Jf [59] b s ([Nm,n.name]) h (by simp<;>omega)) ?_;refine Ae (τ':=[0]) [0] [0] (Oy b s ([Nm,n.name]++[[59]]) h (by omega) (by simp<;>omega) (by omega) (by omega) (Ur (Bw hst (Bp (by simp))))) ?_;exact Ec func266 rfl rfl
 have h31':n.kind≠31:=by simpa using h31
 refine Ah (fun h32=>?_) (fun h32=>?_)
 ·have h32':n.kind=32:=by simpa using h32
  refine Al (Amg n.num hn.2.1 hn.2.2.1) ?_;refine Ah (fun hm=>?_) (fun hm=>?_)
  ·have hm':n.num=-1:=by simpa using hm
   have hT:V6 n.kind n.name n.num (B5 n.kids)=[Fj,n.name,[91],[63],[93]]:=by unfold V6;rw[if_neg h31',if_pos h32',if_pos hm']<;>rfl
   rw[if_pos (by simp[Nt,h32']),hT]at hO;rw[hT]at hst;rw[hO]at hl⊢;have hfl:=Hr ([Fj,n.name,[91],[63],[93]]++[[59]]) h;have hwl:=Gn ([Fj,n.name,[91],[63],[93]]++[[59]]) h (Bw hst (Bp (by simp)));refine En 0 0 2 (bx:=[[[Np 312 0 b,.buf 5 s 0,.sl [] (.tok 1),vi h]],[Af n]]) (tk:=[s.length,0]) rfl rfl rfl rfl rfl rfl ?_;refine Ae (τ':=[0,1]) [0] [0,1] ((A4e Fj n.name [91] [63] [93]).n b s h) ?_;refine Ae (τ':=[0,1]) [0] [0,1] (Jf [59] b s ([Fj,n.name,[91],[63],[93]]) h (by simp<;>omega)) ?_;refine Ae (τ':=[0]) [0] [0] (Oy b s ([Fj,n.name,[91],[63],[93]]++[[59]]) h (by omega) (by simp<;>omega) (by omega) (by omega) (Ur (Bw hst (Bp (by simp))))) ?_;exact Ec func266 rfl rfl
  ·have hm':¬n.num=-1:=by simpa using hm
   have hT:V6 n.kind n.name n.num (B5 n.kids)=[Fj,n.name,[91],Lib.itoa n.num,[93]]:=by unfold V6;rw[if_neg h31',if_pos h32',if_neg hm']<;>rfl
   rw[if_pos (by simp[Nt,h32']),hT]at hO;rw[hT]at hst;rw[hO]at hl⊢;have hfl:=Hr ([Fj,n.name,[91],Lib.itoa n.num,[93]]++[[59]]) h;have hwl:=Gn ([Fj,n.name,[91],Lib.itoa n.num,[93]]++[[59]]) h (Bw hst (Bp (by simp)));refine En 0 0 2 (bx:=[[[Np 312 0 b,.buf 5 s 0,.sl [] (.tok 1),vi h]],[Af n]]) (tk:=[s.length,0]) rfl rfl rfl rfl rfl rfl ?_;refine Ae (τ':=[0,1]) [0] [0,1] ((A4e Fj n.name [91] (Lib.itoa n.num) [93]).n b s h) ?_;refine Ae (τ':=[0,1]) [0] [0,1] (Jf [59] b s ([Fj,n.name,[91],Lib.itoa n.num,[93]]) h (by simp<;>omega)) ?_;refine Ae (τ':=[0]) [0] [0] (Oy b s ([Fj,n.name,[91],Lib.itoa n.num,[93]]++[[59]]) h (by omega) (by simp<;>omega) (by omega) (by omega) (Ur (Bw hst (Bp (by simp))))) ?_;exact Ec func266 rfl rfl
 have h32':n.kind≠32:=by simpa using h32
 refine Ah (fun h21=>?_) (fun h21=>?_)
 ·have h21':n.kind=21:=by simpa using h21
  have hT:V6 n.kind n.name n.num (B5 n.kids)=[n.name,[61]]++A1 (Bv n 0):=by unfold V6;rw[if_neg h31',if_neg h32',if_pos h21',F8]<;>rfl
  rw[if_pos (by simp[Nt,h21']),hT]at hO;rw[hT]at hst;rw[hO]at hl⊢;have hfl:=Hr ([n.name,[61]]++A1 (Bv n 0)++[[59]]) h;have hwl:=Gn ([n.name,[61]]++A1 (Bv n 0)++[[59]]) h (Bw hst (Bp (by simp)));refine En 0 0 2 (bx:=[[[Np 312 0 b,.buf 5 s 0,.sl [] (.tok 1),vi h]],[Af n]]) (tk:=[s.length,0]) rfl rfl rfl rfl rfl rfl ?_;refine Ae (τ':=[0,1]) [0] [0,1] ((Aqw n.name [61]).n b s h) ?_;refine Al q0 ?_;refine Ae (τ':=[0,1]) [0] [0,1] (e0 (by omega) b s ([n.name,[61]]) h (by simp<;>omega)) ?_;refine Ae (τ':=[0,1]) [0] [0,1] (Jf [59] b s ([n.name,[61]]++A1 (Bv n 0)) h (by simp<;>omega)) ?_;refine Ae (τ':=[0]) [0] [0] (Oy b s ([n.name,[61]]++A1 (Bv n 0)++[[59]]) h (by omega) (by simp<;>omega) (by omega) (by omega) (Ur (Bw hst (Bp (by simp))))) ?_;exact Ec func266 rfl rfl
 have h21':n.kind≠21:=by simpa using h21
 refine Ah (fun h22=>?_) (fun h22=>?_)
 ·have h22':n.kind=22:=by simpa using h22
  have hT:V6 n.kind n.name n.num (B5 n.kids)=[n.name,[91]]++A1 (Bv n 0)++[[93],[61]]++A1 (Bv n 1):=by unfold V6;rw[if_neg h31',if_neg h32',if_neg h21',if_pos h22',F8,F8]<;>rfl
  rw[if_pos (by simp[Nt,h22']),hT]at hO;rw[hT]at hst;rw[hO]at hl⊢;have hfl:=Hr ([n.name,[91]]++A1 (Bv n 0)++[[93],[61]]++A1 (Bv n 1)++[[59]]) h;have hwl:=Gn ([n.name,[91]]++A1 (Bv n 0)++[[93],[61]]++A1 (Bv n 1)++[[59]]) h (Bw hst (Bp (by simp)));refine En 0 0 2 (bx:=[[[Np 312 0 b,.buf 5 s 0,.sl [] (.tok 1),vi h]],[Af n]]) (tk:=[s.length,0]) rfl rfl rfl rfl rfl rfl ?_;refine Ae (τ':=[0,1]) [0] [0,1] ((Aqw n.name [91]).n b s h) ?_;refine Al q0 ?_;refine Ae (τ':=[0,1]) [0] [0,1] (e0 (by omega) b s ([n.name,[91]]) h (by simp<;>omega)) ?_;refine Ae (τ':=[0,1]) [0] [0,1] (Aqw [93] [61] b s ([n.name,[91]]++A1 (Bv n 0)) h (by simp<;>omega)) ?_;refine Al q1 ?_;refine Ae (τ':=[0,1]) [0] [0,1] (e1 (by omega) b s ([n.name,[91]]++A1 (Bv n 0)++[[93],[61]]) h (by simp<;>omega)) ?_;refine Ae (τ':=[0,1]) [0] [0,1] (Jf [59] b s ([n.name,[91]]++A1 (Bv n 0)++[[93],[61]]++A1 (Bv n 1)) h (by simp<;>omega)) ?_;refine Ae (τ':=[0]) [0] [0] (Oy b s ([n.name,[91]]++A1 (Bv n 0)++[[93],[61]]++A1 (Bv n 1)++[[59]]) h (by omega) (by simp<;>omega) (by omega) (by omega) (Ur (Bw hst (Bp (by simp))))) ?_;exact Ec func266 rfl rfl
 have h22':n.kind≠22:=by simpa using h22
 refine Ah (fun h23=>?_) (fun h23=>?_)
 ·have h23':n.kind=23:=by simpa using h23
  have hT:V6 n.kind n.name n.num (B5 n.kids)=[Iv,n.name]:=by unfold V6;rw[if_neg h31',if_neg h32',if_neg h21',if_neg h22',if_pos h23']<;>rfl
  rw[if_pos (by simp[Nt,h23']),hT]at hO;rw[hT]at hst;rw[hO]at hl⊢;have hfl:=Hr ([Iv,n.name]++[[59]]) h;have hwl:=Gn ([Iv,n.name]++[[59]]) h (Bw hst (Bp (by simp)));refine En 0 0 2 (bx:=[[[Np 312 0 b,.buf 5 s 0,.sl [] (.tok 1),vi h]],[Af n]]) (tk:=[s.length,0]) rfl rfl rfl rfl rfl rfl ?_;refine Ae (τ':=[0,1]) [0] [0,1] ((Aqw Iv n.name).n b s h) ?_;refine Ae (τ':=[0,1]) [0] [0,1] (Jf [59] b s ([Iv,n.name]) h (by simp<;>omega)) ?_;refine Ae (τ':=[0]) [0] [0] (Oy b s ([Iv,n.name]++[[59]]) h (by omega) (by simp<;>omega) (by omega) (by omega) (Ur (Bw hst (Bp (by simp))))) ?_;exact Ec func266 rfl rfl
 have h23':n.kind≠23:=by simpa using h23
 refine Ah (fun h27=>?_) (fun h27=>?_)
 ·have h27':n.kind=27:=by simpa using h27
  have hT:V6 n.kind n.name n.num (B5 n.kids)=[Ga]++A1 (Bv n 0):=by unfold V6;rw[if_neg h31',if_neg h32',if_neg h21',if_neg h22',if_neg h23',if_pos h27',F8]<;>rfl
  rw[if_pos (by simp[Nt,h27']),hT]at hO;rw[hT]at hst;rw[hO]at hl⊢;have hfl:=Hr ([Ga]++A1 (Bv n 0)++[[59]]) h;have hwl:=Gn ([Ga]++A1 (Bv n 0)++[[59]]) h (Bw hst (Bp (by simp)));refine En 0 0 2 (bx:=[[[Np 312 0 b,.buf 5 s 0,.sl [] (.tok 1),vi h]],[Af n]]) (tk:=[s.length,0]) rfl rfl rfl rfl rfl rfl ?_;refine Ae (τ':=[0,1]) [0] [0,1] ((Jf Ga).n b s h) ?_;refine Al q0 ?_;refine Ae (τ':=[0,1]) [0] [0,1] (e0 (by omega) b s ([Ga]) h (by simp<;>omega)) ?_;refine Ae (τ':=[0,1]) [0] [0,1] (Jf [59] b s ([Ga]++A1 (Bv n 0)) h (by simp<;>omega)) ?_;refine Ae (τ':=[0]) [0] [0] (Oy b s ([Ga]++A1 (Bv n 0)++[[59]]) h (by omega) (by simp<;>omega) (by omega) (by omega) (Ur (Bw hst (Bp (by simp))))) ?_;exact Ec func266 rfl rfl
 have h27':n.kind≠27:=by simpa using h27
 refine Ah (fun h28=>?_) (fun h28=>?_)
 ·have h28':n.kind=28:=by simpa using h28
  have hT:V6 n.kind n.name n.num (B5 n.kids)=[I1]:=by unfold V6;rw[if_neg h31',if_neg h32',if_neg h21',if_neg h22',if_neg h23',if_neg h27',if_pos h28']<;>rfl
  rw[if_pos (by simp[Nt,h28']),hT]at hO;rw[hT]at hst;rw[hO]at hl⊢;have hfl:=Hr ([I1]++[[59]]) h;have hwl:=Gn ([I1]++[[59]]) h (Bw hst (Bp (by simp)));refine En 0 0 2 (bx:=[[[Np 312 0 b,.buf 5 s 0,.sl [] (.tok 1),vi h]],[Af n]]) (tk:=[s.length,0]) rfl rfl rfl rfl rfl rfl ?_;refine Ae (τ':=[0,1]) [0] [0,1] ((Jf I1).n b s h) ?_;refine Ae (τ':=[0,1]) [0] [0,1] (Jf [59] b s ([I1]) h (by simp<;>omega)) ?_;refine Ae (τ':=[0]) [0] [0] (Oy b s ([I1]++[[59]]) h (by omega) (by simp<;>omega) (by omega) (by omega) (Ur (Bw hst (Bp (by simp))))) ?_;exact Ec func266 rfl rfl
 have h28':n.kind≠28:=by simpa using h28
 refine Ah (fun h29=>?_) (fun h29=>?_)
 ·have h29':n.kind=29:=by simpa using h29
  have hT:V6 n.kind n.name n.num (B5 n.kids)=[Jb]:=by unfold V6;rw[if_neg h31',if_neg h32',if_neg h21',if_neg h22',if_neg h23',if_neg h27',if_neg h28']<;>rfl
  rw[if_pos (by simp[Nt,h29']),hT]at hO;rw[hT]at hst;rw[hO]at hl⊢;have hfl:=Hr ([Jb]++[[59]]) h;have hwl:=Gn ([Jb]++[[59]]) h (Bw hst (Bp (by simp)));refine En 0 0 2 (bx:=[[[Np 312 0 b,.buf 5 s 0,.sl [] (.tok 1),vi h]],[Af n]]) (tk:=[s.length,0]) rfl rfl rfl rfl rfl rfl ?_;refine Ae (τ':=[0,1]) [0] [0,1] ((Jf Jb).n b s h) ?_;refine Ae (τ':=[0,1]) [0] [0,1] (Jf [59] b s ([Jb]) h (by simp<;>omega)) ?_;refine Ae (τ':=[0]) [0] [0] (Oy b s ([Jb]++[[59]]) h (by omega) (by simp<;>omega) (by omega) (by omega) (Ur (Bw hst (Bp (by simp))))) ?_;exact Ec func266 rfl rfl
 have h29':n.kind≠29:=by simpa using h29
 have hno:Nt n.kind=false:=by simp[Nt,h31',h32',h21',h22',h23',h27',h28',h29']
 rw[if_neg (by simp[hno])]at hO;rw[hO]at hl⊢;simp only[Ex]at hl;have hfl:=Hr (cpW n.kind) h;have hww:okW (cpW n.kind)∧(cpW n.kind).length≤1:=by
  unfold cpW;repeat' split
  all_goals exact⟨fun w hw=>by simp at hw<;>(subst hw;simp),by simp⟩
 have hc:=Al0 n hp hsz hk b s h hd (by omega);refine Ae (hb:=Azx b s h) (τ':=[0]) [0] [0] hc ?_;rw[←Fp];refine Ae (τ':=[0]) [0] [0] (Oy (cpB n.kind b) (s++cpP n.kind n.name (B5 n.kids) (Jl n.kids h) h) (cpW n.kind) h (by omega) (by omega) (by omega) (by simp only[Ex];omega) (Ur hww.1)) ?_;exact Bq func266 rfl rfl
theorem Apx:HBk Cg:=An2 Cg (fun y hy=>by cases hy) (by decide)
theorem An4(n:Nd)(hp:PrN n)(hsz:Ai n≤1000):HS n∧HBk n:=by
 induction n using Nd.ind with
 |h n ih=>
  have hcn:=Cj n;have hk:∀i,HBk (Bv n i):=fun i=>by
   rcases Mt n i with h|h
   ·exact(ih _ h (hp.kid i) (by have:=E5 h;omega)).2
   ·rw[h];exact Apx
  refine⟨A1e n hp hsz hk,An2 n (fun y hy=>(ih y hy (hp.get.2.2.2 y hy) (by have:=E5 hy;omega)).1) (by have:=Bm n.kids;omega)⟩
end Go.V
namespace Go.V
open Go
section
variable {X:Cx}{B:Bx}{E:Env}{S S':St}{w:World}{F:C5}{a:Act}{N:Nat}{R:AE→St→Prop}{ops:Array Oper}{i:Nat}{o:Oper}{p q:Operand}
theorem Ac8{sz:Nat}{c1 c2:Array Value}{r1 r2:List (List AV)}(h1:Rn E w sz c1 r1)(h2:Rn E w sz c2 r2):Rn E w sz (c1++c2) (r1++r2):=by
 obtain⟨s1,l1,e1⟩:=h1;obtain⟨s2,l2,e2⟩:=h2;refine⟨by simp[s1,s2,Rf],fun r hr=>(zzq45.1 hr).elim (l1 r) (l2 r),fun k r j x v hk hj hv=>?_⟩;rcases Gs k r1.length with h|h
 ·rw[Cs h]at hk;have hjs:j<sz:=by rw[←l1 r (Bh hk)];exact Aa hj
  have:=I6 h hjs;rw[Zb (by omega)]at hv;exact e1 k r j x v hk hj hv
 ·rw[Gk h]at hk;have hle:r1.length*sz≤k*sz:=Tq _ h;rw[Array.getElem?_append_right (by omega),s1]at hv;exact e2 (k-r1.length) r j x v hk hj (by rw[←hv];congr 1;rw[Nat.sub_mul];omega)
theorem Ap8{sz:Nat}{c:Array Value}{rows:List (List AV)}(h:Rn E w sz c rows){n:Nat}(hn:n≤rows.length):Rn E w sz (c.toList.take (n*sz)).toArray (rows.take n):=by
 obtain⟨s,l,e⟩:=h;have hle:n*sz≤rows.length*sz:=Tq _ hn;refine⟨by simp[s],fun r hr=>l r (Agn hr),fun k r j x v hk hj hv=>?_⟩;rw[Mb]at hk;split at hk
 ·refine e k r j x v hk hj ?_;rw[Rc,Mb]at hv;split at hv
  ·simpa using hv
  ·cases hv
 ·cases hk
theorem Ap7{sz:Nat}{c:Array Value}{rows:List (List AV)}(h:Rn E w sz c rows)(n:Nat):Rn E w sz (c.toList.drop (n*sz)).toArray (rows.drop n):=by
 obtain⟨s,l,e⟩:=h;refine⟨by simp[s,Nat.sub_mul],fun r hr=>l r (List.mem_of_mem_drop hr),fun k r j x v hk hj hv=>?_⟩;rw[Nz]at hk;refine e (n+k) r j x v hk hj ?_;rw[Rc,Nz]at hv;rw[Rf,Mj];simpa using hv
theorem Ac9{t:Nat}{y:Ty}(hy:X.ty t=some y)(hne:y.size≠0)(n:Nat):∃z,(zeroValue t).run X.P w=.ok z w∧(∃ti,X.P.info? t=some ti∧ti.zero=some z∧ti.size=y.size)∧(∀v,v∈(Builtin.zeroCells z.cells n).toList→v.oneCell'=true∨True) ∧
 (Builtin.zeroCells z.cells n).size=n*y.size∧∀(E:Env)(w:World),Rn E w y.size (Builtin.zeroCells z.cells n) (List.replicate n y.zero):=by
 obtain⟨z,hz,hzc,hzl,ti,hi,hiz,his,hib⟩:=Jx hy w;have hzs:z.cells.size=y.size:=by rw[←hzl,←hzc];simp
 refine⟨z,hz,⟨ti,hi,hiz,his⟩,fun v _=>.inr trivial,by simp[Builtin.zeroCells,hzs],fun E w=>?_⟩;refine Vt hzc hzl _ (by simp[Builtin.zeroCells,hzs]) (fun i hi=>?_);have hm:i%y.size<z.cells.size:=by rw[hzs];exact Nat.mod_lt _ (Aeb hne)
 have hr0:(Array.range (n*y.size))[i]?=some i:=by simp[hi]
 simp only[Builtin.zeroCells];rw[Array.getElem?_map,hzs,hr0];simp only[Lk];rw[getElem!_pos z.cells (i%y.size) hm,Aku hm]
theorem Aco{t:TypeId}{x:AV}{cs:List AV}(hc:cellsOf x=some cs:=by rfl)(ho:ops[i]?=some o:=by rfl)(hw:A8 ops F o=some true:=by rfl)(hop:o.op=.box t p:=by rfl)(hp:Dw X F p=some x:=by rfl):Ndo X N ops i o F (.cptr cs) S S:=by
 intro F' E w a hl hI hF;have hlo:=G0 hl;rw[hop]at hlo;have r1:=Ak hI hF ((Dk (X:=X) (F:=F) (F':=F') (o:=p) fun s hs=>hlo s (by simp[Op.operands,hs])).trans hp);generalize hv:a.eval p=v at r1;obtain⟨h1,h2,_⟩:=Hj r1 hc;have ev:=Evol.push (E:=E) (w:=w) (w':=w.alloc (.cells v.cells t)) ⟨_,rfl⟩ rfl rfl rfl E.boxes.length E.toks.length;have hI':=hI.push (w':=w.alloc (.cells v.cells t)) ⟨_,rfl⟩ rfl rfl rfl;have hnew:(w.alloc (.cells v.cells t)).heap[w.heap.size]?=some (.cells v.cells t (0,0)):=by
  have:(w.alloc (.cells v.cells t)).heap=w.heap.push (.cells v.cells t (0,0)):=rfl;rw[this];simp
 refine Does.val ho (Cr hF (by rw[C6 hl];exact hw)) (v:=.pointer (some ⟨w.heap.size,0,none⟩)) (by simp[execOp,hop,Instr.box,hv,newVar,newRow]) (.inl rfl) ⟨E,hI',ev,?_⟩;refine .cptr cs w.heap.size 0 (fun j=>v.cells.getD j default) (fun j _=>Aje hI) (fun j hj=>?_) (fun j x hx=>?_)
 ·have:j<v.cells.size:=by omega
  rw[Jy];simp only[World.cell?,hnew];simp[this,Array.getD]
 ·have:j<v.cells.size:=by have:=Aa hx;omega
  exact(h2 j _ x (by simp[this,Array.getD]) hx).step ev
theorem Anc{l:List Nat}{k:List Item}{t t' e:TypeId}{rows:List (List AV)}{sp:Sp}(hd:X.P.underlying t=some (.slice e))(hk:∀c:Bool,(rows≠[]→c=false)→AK X B (.inRegion ops l::k) (putF o.dst (.val (.bool c)) F) S R)
 (ho:ops[i]?=some o:=by rfl)(hw:A8 ops F o=some true:=by rfl)(hop:o.op=.binOp .eql t p (.const (.slice none 0 0)) t':=by rfl)(hp:Dw X F p=some (.sl rows sp):=by rfl)(hdst:D3 B.fn.ntmps o.dst=true:=by rfl) :
 AK X B (.inRegion ops (i::l)::k) F S R:=by
 intro E w a b cs hI hF hn hm hb;have r1:=Ak hI hF hp;generalize hv:a.eval p=v at r1;have hrun:∃c:Bool,(rows≠[]→c=false)∧(execOp a.eval o).run X.P w=.ok (.value (.bool c)) w:=by
  cases r1 with
  |sl _ _ a' n cap b' o' sz vals hn' hx ha hsz hm hc hr hs hcap=>
   refine⟨a'.isNone,fun hne=>?_,by simp[execOp,hop,hv,show a.eval (.const (.slice none 0 0))=.slice none 0 0 from rfl,eqGuard,binOp,run_equal_slice_nil w t e a' n cap hd]⟩;rw[ha (by rw[←hn'];exact fun h=>hne (zzq94.1 h))];rfl
 obtain⟨c,hc,hrun⟩:=hrun;have hdo:Does X ops i a w fun v w'=>∃E',Inv X E' S w'∧Evol E w E' w' E.boxes.length E.toks.length∧Rel E' w' v (.val (.bool c)):=
  Does.val ho (Cr hF hw) hrun (.inl rfl) ⟨E,hI,Evol.refl _ _ _ _,.val _⟩
 have nt:E.toks.length=S.toks.length:=by rw[←hI.nt];simp
 obtain⟨v',w',⟨E',h1,h2,h3⟩,h4⟩:=hdo b k cs l;have hF':=(hF.step h2).putF hdst h3;have h4':=h4;rw[ho]at h4';exact Fin.from h4' (h2.weaken (by rw[hI.nb];exact hn) (by omega)) (hk c hc E' w' _ b cs h1 hF' hn hm hb)
theorem Zi{l:List Nat}{k:List Item}{c:Call}{tt tx e e':Nat}{y yx ye:Ty}{new:List (List AV)}{sp:Sp}(hk:∀cc:Nat,AK X B (.inRegion ops l::k) (putF o.dst (.bsl S.boxes.length new.length) F) ⟨S.boxes++[new++List.replicate cc ye.zero],S.toks⟩ R)
 (hl':∀r,r∈new→r.length=ye.size)(hc:∀r,r∈new→∀x,x∈r→I3 x=true)(hne:new≠[])(hb:new.length≤100000000000)
 (ho:ops[i]?=some o:=by rfl)(hw:A8 ops F o=some true:=by rfl)(hop:o.op=.call c:=by rfl)(hcal:c.callee=.builtin .append:=by rfl)(hargs:c.args.toList=[p,q]:=by rfl)(htys:c.argTypes.toList=[tt,tx]:=by rfl)
 (hp:Dw X F p=some (.sl [] .tight):=by rfl)(hq:Dw X F q=some (.sl new sp):=by rfl)(hy:X.ty tt=some y:=by rfl)(hyk:y.k=.slc e:=by rfl)(hye:X.ty e=some ye:=by rfl)(hyx:X.ty tx=some yx:=by rfl)(hyxk:yx.k=.slc e':=by rfl)
 (hdst:D3 B.fn.ntmps o.dst=true:=by rfl):AK X B (.inRegion ops (i::l)::k) F S R:=by
 intro E w a b cs hI hF hn hm hb';obtain⟨callee,args,argTypes⟩:=c;simp only at hcal hargs htys;subst hcal;have ha:args=#[p,q]:=by rw[←zzq34];exact hargs
 have ht:argTypes=#[tt,tx]:=by rw[←zzq34];exact htys
 subst ha;subst ht;have r1:=Ak hI hF hp;have r2:=Ak hI hF hq;obtain⟨d1,hd1,hk1⟩:=(X.ty_ok tt y hy).agg;simp only[hyk]at hk1;obtain⟨rfl,ye',hye',hne0⟩:=hk1;rw[hye]at hye';cases hye';obtain⟨d2,hd2,hk2⟩:=(X.ty_ok tx yx hyx).agg;simp only[hyxk]at hk2;obtain⟨rfl,_⟩:=hk2;obtain⟨ti,z,hi,hsz,hby,hzv,hzc,hzl,_⟩:=(X.ty_ok e ye hye).info;have hnew:0<new.length:=zzq65.2 hne;obtain⟨vals2,hsrc,hr2⟩:=Amz hd2 r2 hl' hc hne;rw[←hsz]at hsrc;generalize hu:a.eval p=u at r1;generalize hv:a.eval q=v at hsrc;have key:∃cc w',(Builtin.append_ #[tt,tx] o.type #[u,v]).run X.P w=.ok (.slice (some ⟨w.heap.size,0,none⟩) new.length cc) w'∧new.length≤cc ∧
  w'.heap=w.heap.push (.cells ((D4 new.length ti.size vals2).toArray++Builtin.zeroCells z.cells (cc-new.length)) e (0,0))∧w'.os=w.os∧w'.tape=w.tape∧w'.output=w.output:=by
  cases r1 with
  |sl _ _ a' n cap bb oo sz vals hn' hx ha hszr hm hcl hr hs hcap=>
   have hn0:n=0:=by simpa using hn'.symm
   subst hn0;have hcap0:cap=0:=hs;subst hcap0;have hold:(Builtin.firstCells ti.size 0 (.slice a' 0 0)).run X.P w.drew=.ok ([]:List Value).toArray w.drew:=by
    cases a' with
    |none=>exact run_firstCells_none _ _ _ _ _
    |some a0=>exact run_firstCells_some _ _ _ _ _ _ _ (by simp) (fun j v hj=>by simp at hj)
   have hby':(0+new.length)*ti.bytes≤140737488355328:=Pb (Nat.mul_le_mul_left _ hby) (by omega);have hrun:=run_append_grow_src w tt tx o.type e ti z hd1 hi hzv a' 0 0 [] hold v new.length _ hsrc (by omega) (by omega) (growslice_fits (by omega) hby');have hcc:=grownCap_ge w (0+new.length) 0 e;simp only[Jy,Tj]at hrun hcc;exact⟨_,_,hrun,hcc,rfl,rfl,rfl,rfl⟩
 obtain⟨cc,w',hrun,hcc,hheap,hos,htp,hout⟩:=key;obtain⟨z',hz',⟨ti',hi',hiz',his'⟩,_,hzz,hgz⟩:=Ac9 (X:=X) (w:=w) hye hne0 (cc-new.length);rw[hi]at hi';cases hi';rw[hzv]at hiz';cases hiz';have hg1:Rn E w ye.size (D4 new.length ti.size vals2).toArray new:=by
  refine⟨by simp[El,hsz],hl',fun kk r j x v' hkk hj hv'=>?_⟩;have h1:=Aa hkk;have h2:j<ye.size:=by rw[←hl' r (Bh hkk)];exact Aa hj
  rw[Rc,hsz,Ld h1 h2]at hv';cases hv';exact hr2 kk j r x hkk hj
 have hg:=Ac8 hg1 (hgz E w);obtain⟨ev,hI'⟩:=hI.newBox (w':=w') hheap hos htp hout hg.1 hg.2.1 hg.2.2;have hnb:E.boxes.length=S.boxes.length:=hI.nb;have hrel:Rel (E.addBox w.heap.size ye.size) w' (.slice (some ⟨w.heap.size,0,none⟩) new.length cc) (.bsl S.boxes.length new.length):=
  .bsl _ _ ye.size _ _ (by rw[←hnb];exact getElem?_snoc_new _ _) hcc
 have hdo:Does X ops i a w fun v w'=>∃E',Inv X E' ⟨S.boxes++[new++List.replicate (cc-new.length) ye.zero],S.toks⟩ w'∧Evol E w E' w' E.boxes.length E.toks.length∧Rel E' w' v (.bsl S.boxes.length new.length):=
  Does.val ho (Cr hF hw) (by simp[execOp,hop,resolve,invoke,builtin,hu,hv,hrun]) (.inl rfl) ⟨_,hI',ev,hrel⟩
 have nt:E.toks.length=S.toks.length:=by rw[←hI.nt];simp
 obtain⟨v',w2,⟨E',h1,h2,h3⟩,h4⟩:=hdo b k cs l;have hF':=(hF.step h2).putF hdst h3;have h4':=h4;rw[ho]at h4';exact Fin.from h4' (h2.weaken (by rw[hI.nb];exact hn) (by omega)) (hk (cc-new.length) E' w2 _ b cs h1 hF' (by simp;omega) hm hb')
theorem Apk{t e b n:Nat}{hi:Option Operand}{h:Int}{y ye:Ty}(h0:0≤h)(h2:h≤(n:Int))(ho:ops[i]?=some o:=by rfl)(hw:A8 ops F o=some true:=by rfl)(hop:o.op=.slice t p none hi none:=by rfl)(hp:Dw X F p=some (.bsl b n):=by rfl)
 (hhi:Tl X F hi (n:Int)=some h:=by rfl)(hy:X.ty t=some y:=by rfl)(hyk:y.k=.slc e:=by rfl)(hye:X.ty e=some ye:=by rfl):Ndo X N ops i o F (.bsl b h.toNat) S S:=by
 refine Dj ho hw fun F' E w a hc hI hF=>?_;rw[hop]at hc;have r1:=Ak hI hF ((hc p (by simp[Op.operands])).trans hp);have b2:=X6 hI hF (show Tl X F' hi (n:Int)=some h by rw[Qg fun x hx=>hc x (by subst hx;simp[Op.operands])];exact hhi);obtain⟨d,hdd,hd2⟩:=(X.ty_ok t y hy).agg;simp only[hyk]at hd2;obtain⟨rfl,ye',hye',hne0⟩:=hd2;rw[hye]at hye';cases hye';generalize hu:a.eval p=u at r1;cases r1 with
 |bsl _ blk sz _ cap hB hcap=>
  have hb:=Ku (X:=X) (isS:=true) (len:=n) (cap:=cap) (lo:=none) (hi:=hi.map a.eval) (l:=0) (h:=h) (.inl ⟨rfl,rfl⟩)
   (by rcases b2 with⟨rfl,rfl⟩|⟨x,k,rfl,hx⟩
       ·exact .inl ⟨rfl,rfl⟩
       ·exact .inr ⟨k,by simp[hx]⟩) (Int.le_refl 0) h0 h2 hcap w
  refine⟨.slice (some ⟨blk,0,none⟩) h.toNat cap,?_,.bsl b blk sz h.toNat cap hB (by omega)⟩;simp[execOp,hop,hu,Instr.sliceAt,Instr.slice,run_underlying hdd,hb,Dr hye,Ge]
theorem Apo{t e b n:Nat}{lo:Operand}{ik:IntKind}{l:Nat}{y ye:Ty}(h2:l<n)(ho:ops[i]?=some o:=by rfl)(hw:A8 ops F o=some true:=by rfl)(hop:o.op=.slice t p (some lo) none none:=by rfl)(hp:Dw X F p=some (.bsl b n):=by rfl)
 (hlo:Dw X F lo=some (.val (.int ik l)):=by rfl)(hy:X.ty t=some y:=by rfl)(hyk:y.k=.slc e:=by rfl)(hye:X.ty e=some ye:=by rfl){rows:List (List AV)}(hS:S.boxes[b]?=some rows)(hrl:∀r,r∈rows→r.length=ye.size)(hne:rows≠[]):Ndo X N ops i o F (.bst b l (n-l)) S S:=by
 refine Dj ho hw fun F' E w a hc hI hF=>?_;rw[hop]at hc;have r1:=Ak hI hF ((hc p (by simp[Op.operands])).trans hp);have r2:=Ak hI hF ((hc lo (by simp[Op.operands])).trans hlo);obtain⟨d,hdd,hd2⟩:=(X.ty_ok t y hy).agg;simp only[hyk]at hd2;obtain⟨rfl,ye',hye',hne0⟩:=hd2;rw[hye]at hye';cases hye';generalize hu:a.eval p=u at r1;generalize hv:a.eval lo=v at r2;cases r2;cases r1 with
 |bsl _ blk sz _ cap hB hcap=>
  obtain⟨arr,te,hh,hs,hlen,hrel⟩:=hI.box b blk sz rows hB hS;have hsz:sz=ye.size:=by
   cases rows with
   |nil=>exact absurd rfl hne
   |cons r rs=>rw[←hlen r (by simp),hrl r (by simp)]
  subst hsz;have hb:=Ku (X:=X) (isS:=true) (len:=n) (cap:=cap) (lo:=some (.int ik l)) (hi:=none) (l:=(l:Int)) (h:=(n:Int)) (.inr ⟨ik,rfl⟩) (.inl ⟨rfl,rfl⟩) (by omega) (by omega) (Int.le_refl _) hcap w;simp only[Hl]at hb;refine⟨.slice (some ⟨blk,l*ye.size,none⟩) (n-l) (cap-l),?_,.bst b blk ye.size l (n-l) (cap-l) hB⟩;have hcl:¬cap=l:=by omega
  simp[execOp,hop,hu,hv,Instr.sliceAt,Instr.slice,run_underlying hdd,hb,Dr hye,Ge,hcl]
theorem Alb{c:Call}{tt e b s n:Nat}{y ye:Ty}{rows:List (List AV)}{bx:List (List (List AV))}(hn:0<n)(hS:S.boxes[b]?=some rows)(hin:s+n≤rows.length)(hrl:∀r,r∈rows→r.length=ye.size)
 (hbx:S.boxes.set b (rows.take s++(List.replicate n ye.zero++rows.drop (s+n)))=bx)(hz1:∀x,x∈ye.zero→I3 x=true)(ho:ops[i]?=some o:=by rfl)(hw:A8 ops F o=some true:=by rfl)(hop:o.op=.call c:=by rfl)(hcal:c.callee=.builtin .clear:=by rfl)(hargs:c.args=#[p]:=by rfl)
 (htys:c.argTypes=#[tt]:=by rfl)(hp:Dw X F p=some (.bst b s n):=by rfl)(hy:X.ty tt=some y:=by rfl)(hyk:y.k=.slc e:=by rfl)(hye:X.ty e=some ye:=by rfl):Ndo X N ops i o F (.val (.tuple #[])) S ⟨bx,S.toks⟩:=by
 subst hbx;intro F' E w a hlk hI hF;obtain⟨callee,args,argTypes⟩:=c;simp only at hcal hargs htys;subst hcal;subst hargs;subst htys;have hlo:=G0 hlk;rw[hop]at hlo;have r1:=Ak hI hF ((Dk (X:=X) (F:=F) (F':=F') (o:=p) fun s hs=>hlo s (by simp[Op.operands,Call.operands,hs])).trans hp);obtain⟨d1,hd1,hk1⟩:=(X.ty_ok tt y hy).agg;simp only[hyk]at hk1;obtain⟨rfl,ye',hye',hne0⟩:=hk1;rw[hye]at hye';cases hye';generalize hu:a.eval p=u at r1;cases r1 with
 |bst _ blk sz _ _ cap hB=>
  obtain⟨arr,te,hh,hs,hlen,hrel⟩:=hI.box b blk sz rows hB hS;obtain⟨r0,hr0⟩:=Ab rows (i:=0) (by omega);have hsz:sz=ye.size:=by rw[←hlen r0 (Bh hr0),hrl r0 (Bh hr0)]
  subst hsz;obtain⟨z,hz,_,_,hzz,hgz⟩:=Ac9 (X:=X) (w:=w) hye hne0 n;have hg:Rn E w ye.size arr rows:=⟨hs,hlen,hrel⟩
  have hg2:=Ac8 (Ap8 hg (n:=s) (by omega)) (Ac8 (hgz E w) (Ap7 hg (s+n)));have hfit:s*ye.size+(Builtin.zeroCells z.cells n).toList.length≤arr.size:=by
   rw[Array.length_toList,hzz,←Rf,hs];exact Tq _ hin
  have hone:∀v,v∈(Builtin.zeroCells z.cells n).toList→v.oneCell'=true:=fun v hv=>by
   obtain⟨q,hq⟩:=Bs hv;have hq':(Builtin.zeroCells z.cells n)[q]?=some v:=by simpa using hq
   have hlt:q<n*ye.size:=by have:=Aa hq;rw[Array.length_toList,hzz]at this;exact this
   have hpos:0<ye.size:=Aeb hne0;have hk:q/ye.size<n:=Nat.div_lt_of_lt_mul (by rw[Nat.mul_comm];exact hlt);have hzl:=hg2.2.1 ye.zero (Abq _ (List.mem_append_left _ (List.mem_replicate.2 ⟨by omega,rfl⟩)));obtain⟨x,hx⟩:=Ab ye.zero (i:=q%ye.size) (by rw[hzl];exact Nat.mod_lt _ hpos);have:=(hgz E w).2.2 (q/ye.size) ye.zero (q%ye.size) x v (by simp[hk]) hx (by rw[Nat.mul_comm,Nat.div_add_mod];exact hq');exact L4 this (hz1 x (Bh hx))
  have hst:=run_storeCells_at X.P blk (s*ye.size) te (Builtin.zeroCells z.cells n).toList 0 arr w hh (by simpa using hfit) hone;simp only[Px]at hst;have hnn:¬n=0:=by omega
  have hrun:(Builtin.clear_ #[tt] o.type #[.slice (some ⟨blk,s*ye.size,none⟩) n cap]).run X.P w=.ok (.tuple #[]) (w.setRow blk (arr.toList.take (s*ye.size)++(Builtin.zeroCells z.cells n).toList++arr.toList.drop (s*ye.size+(Builtin.zeroCells z.cells n).toList.length)).toArray):=by
   obtain⟨m,rfl⟩:∃m,n=m+1:=⟨n-1,by omega⟩
   simp[Builtin.clear_,run_underlying hd1,hz,hst]
  have harr:(arr.toList.take (s*ye.size)++(Builtin.zeroCells z.cells n).toList++arr.toList.drop (s*ye.size+(Builtin.zeroCells z.cells n).toList.length)).toArray =
   (arr.toList.take (s*ye.size)).toArray++(Builtin.zeroCells z.cells n++(arr.toList.drop ((s+n)*ye.size)).toArray):=by
   rw[←zzq34];simp only[Wu,Fp];rw[Array.length_toList,hzz,←Rf]
  rw[harr]at hrun;obtain⟨ev,hI'⟩:=hI.setBox hB hS hh rfl hg2.1 hg2.2.1 hg2.2.2;exact Does.val ho (Cr hF (by rw[C6 hlk];exact hw)) (by simp[execOp,hop,resolve,invoke,builtin,hu,hrun]) (.inl rfl) ⟨E,hI',ev,.val _⟩
theorem Aj7{R:Type}:∀(l xs:List AV)(k:List AV→Option R),l.length=xs.length→Wi l 0 xs k=k xs
 |[],[],k,_=>by simp[Wi]
 |a::l,x::xs,k,h=>by simp only[Wi];exact Aj7 l xs _ (by simpa using h)
 |[],_::_,k,h=>by simp at h
 |_::_,[],k,h=>by simp at h
theorem Sx{α R:Type}:∀(l:List α)(n:Nat)(x:α)(k:List α→Option R),n<l.length→Xo l n x k=k (l.set n x)
 |a::l,0,x,k,_=>by simp[Xo]
 |a::l,n+1,x,k,h=>by simp only[Xo];rw[Sx l n x _ (by simpa using h)];rfl
 |[],n,x,k,h=>by simp at h
theorem Xr{b r sz:Nat}{x:AV}{xs cs:List AV}{rows:List (List AV)}(hb:S.boxes[b]?=some rows)(hr:rows[r]?=some cs)(hc:cellsOf x=some xs)(hl:xs.length=sz)(hl':cs.length=sz) :
 U5 S sz (.ptr b r 0) x=some ⟨S.boxes.set b (rows.set r xs),S.toks⟩:=by
 obtain⟨bx,tk⟩:=S;simp only at hb;simp only[U5,hc];rw[show Nat.beq xs.length sz=true by rw[hl];exact Nat.beq_refl sz];simp only[H8,hb,hr];rw[Aj7 _ _ _ (by omega),Sx _ _ _ _ (Aa hr),Sx _ _ _ _ (Aa hb)]
theorem Agc{R:Type}:∀(l:List AV)(k:List AV→Option R),Nl l.length l k=k l
 |[],k=>by simp[Nl]
 |a::l,k=>by simp only[Nn,Nl];rw[Agc l]
theorem Aqg{b r sz:Nat}{g:Bool}{cs:List AV}{rows:List (List AV)}(hb:S.boxes[b]?=some rows)(hr:rows[r]?=some cs)(hl:cs.length=sz):Ti S sz g (.ptr b r 0)=Wb g cs:=by
 subst hl;simp only[Ti,H8,hb,hr,Ow];rw[Agc]
theorem Qd{t b r:Nat}{y:Ty}{cs:List AV}{rows:List (List AV)}{x:AV}(hb:S.boxes[b]?=some rows)(hr:rows[r]?=some cs)(hl:cs.length=y.size)(ho:ops[i]?=some o:=by rfl)(hw:A8 ops F o=some true:=by rfl)(hop:o.op=.load t p:=by rfl)
 (hp:Dw X F p=some (.ptr b r 0):=by rfl)(hy:X.ty t=some y:=by rfl)(hx:Wb (Gg y.k) cs=some x:=by rfl):Ndo X N ops i o F x S S:=by
 refine Ck ho hw ?_;rw[hop];simp only[Ej,Q0,hy,hp];rw[Aqg hb hr hl];exact hx
end
end Go.V
namespace Go.V
open Go Go.Proofs Go.Proofs.Tryz
def Km(p:Nd→Bool):Nat→List Nd→Int
 |_,[]=>-1
 |i,x::l=>if p x then i else Km p (i+1) l
theorem Yk(p:Nd→Bool):∀(l:List Nd)(i:Nat),decide (Km p i l≥0)=l.any p
 |[],i=>by simp[Km]
 |x::l,i=>by
  have hb:(x::l).any p=(p x||l.any p):=rfl;rw[hb,←Yk p l (i+1)];by_cases h:p x=true
  ·simp[Km,h]
  ·have h':p x=false:=by simpa using h
   have:Km p i (x::l)=Km p (i+1) l:=by simp only[Km];rw[if_neg h]
   rw[this,h'];rfl
theorem Adr(l:List Nd)(f:FuncId)(caps:List AV)(p:Nd→Bool)(hl:l.length≤1000000000) [hok:OKL 0 0 caps](hp:∀x,x∈l→Pure X f (nd x::caps) (vb (p x)))(hcat:∀xs,Kg xs caps=some (xs++caps)) :
 Pure X 225 [.sl (Ap l) .no,.fn f caps] (vi (Km p 0 l)):=by
 refine Pure.run func225 ?_;refine Ar (ι:=Nat) 0 0 (fun i=>i≤l.length∧Km p 0 l=Km p i (l.drop i)) (fun i=>[(8,vi i),(7,vi l.length),(0,.sl (Ap l) .no),(1,.fn f caps)]) (fun _=>⟨[],[]⟩) (fun i=>l.length-i) ?_ 0 ⟨B3 _,rfl⟩
  ⟨rfl,by rw[←Ad];rfl,rfl,rfl,trivial⟩
 intro i hi IH;refine C7 (fun h=>?_) (fun h=>?_)
 ·have hlt:i<l.length:=by have:=A5 h;omega
  obtain⟨x,hx⟩:=Ab l hlt;have hd:Km p i (l.drop i)=if p x then(i:Int)else Km p (i+1) (l.drop (i+1)):=by rw[B6 hx];rfl
  refine B4 i (by omega) (Am hx) ?_;refine Al (hp x (Bh hx)) ?_ (hzs:=hcat _);refine Ah (fun h2=>?_) (fun h2=>?_)
  ·refine Az func225 ?_;have h3:p x=true:=h2;rw[hi.2,hd,h3];rfl
  ·have h3:p x=false:=h2;exact IH (i+1) ⟨hlt,by rw[hi.2,hd,h3];rfl⟩ (by omega) _ _ ⟨vsx (by omega),rfl,rfl,rfl,trivial⟩ rfl rfl rfl
 ·have:i=l.length:=by have:=Ba h;omega
  refine Az func225 ?_;rw[hi.2,this,Hz];rfl
theorem Uw(l:List Nd)(f:FuncId)(caps:List AV)(p:Nd→Bool)(hl:l.length≤1000000000) [hok:OKL 0 0 caps](hp:∀x,x∈l→Pure X f (nd x::caps) (vb (p x)))(hcat:∀xs,Kg xs caps=some (xs++caps)) :
 Pure X 164 [.sl (Ap l) .no,.fn f caps] (vb (l.any p)):=by
 refine Pure.run func164 ?_;refine Al (Adr l f caps p hl hp hcat) ?_;refine Az func164 ?_;rw[←Yk p l 0];rfl
theorem A02(xs:List AV):Kg xs []=some (xs++[]):=by simp[Kg]
theorem Asu(x:AV)(xs:List AV):Kg xs [x]=some (xs++[x]):=by simp[Kg,Ag6]
theorem Ajq(n:Nd):longN n=(decide (8<n.name.length)||n.kids.any longN):=by
 have:∀l:List Nd,longL l=l.any longN:=by
  intro l
  induction l with
  |nil=>rfl
  |cons x l ih=>simp[longL,ih]
 cases n;rw[longN,this];rfl
theorem A18(n:Nd)(hn:Ai n≤1000000000):Pure X 265 [nd n] (vb (longN n)):=by
 induction n using Nd.ind with
 |h n ih=>
  have hc:=Cj n;have hll:=Bm n.kids;have hq:=Uw n.kids 265 [] longN (by omega) (fun x hx=>ih x hx (by have:=E5 hx;omega)) A02;rw[Ajq];refine Pure.run func265 ?_;refine Df (fun h=>?_) (fun h=>?_)
  ·have h':8<n.name.length:=by have:=A5 h;rw[F9]at this;omega
   refine As func265 ?_;rw[Zd h'];rfl
  ·have h':¬8<n.name.length:=by have:=Ba h;rw[F9]at this;omega
   refine Al hq ?_;refine As func265 ?_;rw[Mc h'];rfl
noncomputable def Abe(a b:List Nd):Bool:=@decide (a=b) (Classical.propDecidable _)
theorem V5{a b:List Nd}:Abe a b=true↔a=b:=by unfold Abe;exact @decide_eq_true_iff _ (Classical.propDecidable _)
theorem Au4(a b:Nd):Uz a b=((a.kind==b.kind)&&((a.name==b.name)&&((a.num==b.num)&&Abe a.kids b.kids))):=by
 rw[Bool.eq_iff_iff];simp only[Qy,Dd,zzq54,V5];cases a;cases b;simp
theorem Aul(a b:List Nd)(ha:a.length≤1000000000)(hb:b.length≤1000000000)(h:∀x,x∈a→∀y,y∈b→Pure X 180 [nd x,nd y] (vb (Uz x y))) :
 Pure X 239 [.sl (Ap a) .no,.sl (Ap b) .no,.fn 180 []] (vb (Abe a b)):=by
 refine Pure.run func239 ?_;refine Ah (fun h1=>?_) (fun h1=>?_)
 ·have h1':a.length≠b.length:=by
   rw[Ad,Ad]at h1;simp at h1;omega
  refine As func239 ?_;have:Abe a b=false:=by
   cases h:Abe a b with
   |false=>rfl
   |true=>rw[V5.1 h]at h1';exact absurd rfl h1'
  rw[this]
 have h1':a.length=b.length:=by
  rw[Ad,Ad]at h1;simp at h1;omega
 refine Ar (ι:=Nat) 0 0 (fun i=>i≤a.length∧a.take i=b.take i) (fun i=>[(17,vi i),(16,vi a.length),(15,.sl (Ap a) .no),(0,.sl (Ap a) .no),(1,.sl (Ap b) .no),(2,.fn 180 [])]) (fun _=>⟨[],[]⟩) (fun i=>a.length-i) ?_ 0
  ⟨B3 _,by simp⟩ ⟨rfl,by rw[←Ad];rfl,rfl,rfl,rfl,rfl,trivial⟩
 intro i hi IH;refine C7 (fun h2=>?_) (fun h2=>?_)
 ·have hlt:i<a.length:=by have:=A5 h2;omega
  obtain⟨x,hx⟩:=Ab a hlt;obtain⟨y,hy⟩:=Ab b (i:=i) (by omega);refine B4 i (by omega) (Am hx) ?_;refine B4 i (by omega) (Am hy) ?_;refine Al (h x (Bh hx) y (Bh hy)) ?_;refine Ah (fun h3=>?_) (fun h3=>?_)
  ·have h3':Uz x y=false:=by have:(!Uz x y)=true:=h3;simpa using this
   refine As func239 ?_;have:Abe a b=false:=by
    cases h:Abe a b with
    |false=>rfl
    |true=>
     have:=V5.1 h;subst this;rw[hx]at hy;cases hy;rw[Qy.2 rfl]at h3';cases h3'
   rw[this]
  ·have h3':Uz x y=true:=by have:(!Uz x y)=false:=h3;simpa using this
   have:=Qy.1 h3';subst this;exact IH (i+1) ⟨hlt,by rw[G8,G8,hi.2,hx,hy]⟩ (by omega) _ _ ⟨vsx (by omega),rfl,rfl,rfl,rfl,rfl,trivial⟩ rfl rfl rfl
 ·have hie:i=a.length:=by have:=Ba h2;omega
  have he:=hi.2;rw[hie]at he;rw[I2,h1',I2]at he;refine As func239 ?_;rw[V5.2 he]
theorem A2a(a b:Nd)(ha:Ai a≤1000000000)(hb:Ai b≤1000000000):Pure X 180 [nd a,nd b] (vb (Uz a b)):=by
 induction a using Nd.ind generalizing b with
 |h a ih=>
  have hca:=Cj a;have hcb:=Cj b;have hla:=Bm a.kids;have hlb:=Bm b.kids;have hq:=Aul a.kids b.kids (by omega) (by omega) fun x hx y hy=>ih x hx y (by have:=E5 hx;omega) (by have:=E5 hy;omega);rw[Au4];refine Pure.run func180 ?_;refine Df (fun h1=>?_) (fun h1=>?_)
  ·have h1':(a.kind==b.kind)=true:=h1;rw[h1',Re];refine Df (fun h2=>?_) (fun h2=>?_)
   ·have h2':(a.name==b.name)=true:=h2;rw[h2',Re];refine Df (fun h3=>?_) (fun h3=>?_)
    ·have h3':(a.num==b.num)=true:=h3;rw[h3',Re];refine Al hq ?_;exact As func180 rfl
    ·have h3':(a.num==b.num)=false:=h3;rw[h3'];exact As func180 rfl
   ·have h2':(a.name==b.name)=false:=h2;rw[h2'];refine Ii ?_;exact As func180 rfl
  ·have h1':(a.kind==b.kind)=false:=h1;rw[h1'];refine Ii ?_;refine Ii ?_;exact As func180 rfl
theorem Alj(b:Bool)(s:List UInt8)(h:Int):RinB [1] [0] [[bN (Np 312 1 b) s h]] [[bN (Np 312 0 b) s h]]:=
 have h1:RinC [1] [0] (Np 312 1 b) (Np 312 0 b):=inferInstance;have h2:RinC [1] [0] (.buf 5 s 0) (.buf 5 s 0):=inferInstance;have h3:Ren true [1] [0] (.sl [] .tight) (.sl [] .tight):=Zm .nil (.inr (.inr (.inr (.inl ⟨rfl,rfl⟩))));have h4:RinC [1] [0] (vi h) (vi h):=inferInstance
 ⟨.cons (.cons (.cons h1.s (.cons h2.s (.cons h3 (.cons h4.s .nil)))) .nil) .nil⟩
theorem Aqr{s:List UInt8}(h:(Fb s).2.1=0):(Fb s).2.2=0:=by
 unfold Fb at h⊢;split at h
 ·rename_i h0;rw[if_pos h0];split at h
  ·simp at h
  ·rename_i hb;rw[if_neg hb];split at h
   ·simp at h
   ·rename_i hl;rw[if_neg hl]
 ·rename_i h0;exact absurd h h0
theorem Ah7(s:List UInt8):Ai (Fb s).1≤500:=by
 unfold Fb;split
 ·split
  ·show Ai Cg≤500;decide
  ·split
   ·show Ai Cg≤500;decide
   ·rename_i h;simp only;omega
 ·show Ai Cg≤500;decide
inductive PrI:Nd→Prop where
 |mk (k:Int) (s:List UInt8) (m:Int) (ks:List Nd) (h0:-9223372036854775808≤m) (h1:m≤9223372036854775807) (hk:∀x,x∈ks→PrI x):PrI (.mk k s m ks)
theorem PrI.short{n:Nd}(h:PrI n)(hl:longN n=false):PrN n:=by
 induction h with
 |mk k s m ks h0 h1 hk ih=>
  rw[Ajq,Pe]at hl;obtain⟨h2,h3⟩:=hl;simp only[List.any_eq_false]at h3;exact .mk k s m ks (by have:=Ba h2;simp at this;omega) h0 h1 fun x hx=>ih x hx (by have:=h3 x hx;simpa using this)
theorem Uq(l:List Nd):((Ap l).take (l.length-1)).drop 0=Ap l.dropLast:=by
 rw[Au,Au,List.drop_zero,←List.map_take,Akx]
set_option maxHeartbeats 1000000 in
theorem Aq1(n:Nd)(hn:Ai n≤1000000000)(hnum:PrI n):Pure X 221 [nd n] (.tup [str (Hb n).1,vb (Hb n).2]):=by
 have hcn:=Cj n;have hll:=Bm n.kids;have hfl:R6 X.P 268=some [0,0]:=by kernel_rfl
 refine Pure.run func221 ?_;refine Al (Afu n (by omega)) ?_;refine Df (fun h1=>?_) (fun h1=>?_)
 ·have h1':O0 n=true:=h1;refine Hh ?_;refine A0 ?_;have hP:Hb n=([],false):=by unfold Hb;rw[if_pos (by simp[h1'])]
  rw[hP];exact As func221 rfl
 have h1':O0 n=false:=h1;refine Df (fun h2=>?_) (fun h2=>?_)
 ·have h2':n.kids.isEmpty=true:=by
   rw[Ad]at h2;simp at h2;simp[h2]
  refine A0 ?_;have hP:Hb n=([],false):=by unfold Hb;rw[if_pos (by simp[h2'])]
  rw[hP];exact As func221 rfl
 have h2':n.kids.isEmpty=false:=by
  rw[Ad]at h2;simp at h2;simpa using h2
 refine Al (A18 n hn) ?_;refine Ah (fun h3=>?_) (fun h3=>?_)
 ·have h3':longN n=true:=h3;have hP:Hb n=([],false):=by unfold Hb;rw[if_pos (by simp[h3'])]
  rw[hP];exact As func221 rfl
 have h3':longN n=false:=h3;have hsm:Ai n≤500∧Dh n≤24:=by
  simp only[O0,decide_eq_false_iff_not]at h1';omega
 have hp:PrN n:=hnum.short h3';have hkne:n.kids≠[]:=by intro e;rw[e]at h2';simp at h2'
 have hpos:0<n.kids.length:=zzq65.2 hkne;obtain⟨lst,hlst⟩:=Ab n.kids (i:=n.kids.length-1) (by omega);have hL:n.kids.getLastD Cg=lst:=by
  rw[Aky,List.getLast?_eq_getElem?,hlst];rfl
 have hlm:lst∈n.kids:=Bh hlst;have hlp:=hp.get.2.2.2 lst hlm;have hdn:=J4 n;have hlc:=E5 hlm;have hlcn:=Cj lst;have hw1:IntKind.i64.wrap (((Ap n.kids).length:Int)-1)=((n.kids.length-1:Nat):Int):=by rw[Ad];exact(Ac (by omega) (by omega)).trans (by omega)
 have hP:Hb n=(Xj n,!(Xj n==[])&&((Fb (Xj n)).2.1==0&&Uz (Fb (Xj n)).1 n)):=by unfold Hb;rw[if_neg (by simp[h1',h2',h3'])]
 have hT:Xj n=Ki n.kids.dropLast 0++Ki lst.kids 0:=by rw[Xj,hL]
 have hS1:∀x,x∈n.kids.dropLast→HS x∧0+Dh x≤60∧(Ht x 0).length≤1000*Ai x:=fun x hx=>by
  have hm:=(List.dropLast_sublist _).subset hx;have h1:=E5 hm;have h2:=Gv hm;have hx':=hp.get.2.2.2 x hm;exact⟨(An4 x hx' (by omega)).1,by omega,Aol x 0 hx' (by omega)⟩
 have hS2:∀x,x∈lst.kids→HS x∧0+Dh x≤60∧(Ht x 0).length≤1000*Ai x:=fun x hx=>by
  have h1:=E5 hx;have h2:=Gv hx;have h3:=Gv hlm;have h4:=J4 lst;have hx':=hlp.get.2.2.2 x hx;exact⟨(An4 x hx' (by omega)).1,by omega,Aol x 0 hx' (by omega)⟩
 have hcd:A3 n.kids.dropLast≤A3 n.kids:=by rw[Akx];exact Qi
 have hb1:=Ah5 (l:=n.kids.dropLast) (h:=0) fun x hx=>(hS1 x hx).2.2;have hb2:=Ah5 (l:=lst.kids) (h:=0) fun x hx=>(hS2 x hx).2.2;have hTl:(Xj n).length≤1000000:=by rw[hT];simp;omega
 have hdl:n.kids.dropLast.length≤1000:=by rw[List.length_dropLast];omega
 have hll2:=Bm lst.kids;rw[hP];refine Hw 2 0 ?_;refine Eo (fun S'=>Ala (cs:=[.pointer none,.slice none 0 0,.slice none 0 0,.int .i64 0]) rfl rfl rfl rfl rfl rfl) ?_;refine Ch (Asf 5 rfl rfl rfl rfl rfl rfl rfl rfl) ?_;refine Av ?_;refine P8 (An (Ck rfl rfl rfl) (An (Ck rfl rfl rfl) Gy)) rfl ?_;refine Av ?_;refine Av ?_;refine Av ?_;refine Av ?_;refine B2 ?_;refine If 5 (vi (n.kids.length-1:Nat)) ?_ (Ci hw1);refine If 33 (vi (n.kids.length-1:Nat)) ?_ (Ci hw1);refine Bn (Aby (l:=0) (h:=((n.kids.length-1:Nat):Int)) (r:=Ap n.kids.dropLast) rfl rfl rfl rfl rfl rfl rfl rfl rfl (by omega) (by omega) (by rw[Ad];omega) (Ew _) (by rw[Hl];exact Uq _)) ?_;refine Ar (ι:=Nat×List UInt8×Bool) 2 1 (fun i=>i.1≤n.kids.dropLast.length∧i.2.1++Ki (n.kids.dropLast.drop i.1) 0=Ki n.kids.dropLast 0)
  (fun i=>[(36,vi i.1),(35,vi n.kids.dropLast.length),(34,.sl (Ap n.kids.dropLast) .no),(4,.ptr 1 0 0),(1,.ptr 0 0 0),(5,vi (n.kids.length-1:Nat))])
  (fun i=>⟨[[Af n],[bN (Np 312 1 i.2.2) i.2.1 0]],[i.2.1.length]⟩) (fun i=>n.kids.dropLast.length-i.1) ?_ (0,[],true) ⟨B3 _,rfl⟩ ⟨rfl,by rw[←Ad n.kids.dropLast];rfl,rfl,rfl,rfl,rfl,trivial⟩ rfl rfl rfl rfl rfl
  (fun _=>inferInstance) (fun _=>inferInstance)
 rintro⟨i,out,c⟩ ⟨hi,hO⟩ IH;simp only at hi hO IH⊢;have hol:=congrArg List.length hO;simp only[Ex]at hol;refine C7 (fun g1=>?_) (fun g1=>?_)
 ·have hlt:i<n.kids.dropLast.length:=by have:=A5 g1;omega
  obtain⟨y,hy⟩:=Ab n.kids.dropLast hlt;obtain⟨hs1,hs2,hs3⟩:=hS1 y (Bh hy);rw[B6 hy]at hO hol;simp only[Ki,Ex]at hO hol;refine B4 i (by omega) (Am hy) ?_;refine Ae (hb:=Alj c out 0) (τ':=[0]) [1] [0] (hs1 c out 0 hs2 (by omega)) ?_;exact IH (i+1,out++Ht y 0,false) ⟨hlt,by simpa using hO⟩ (by simp only;omega) _ _ ⟨vsx (by omega),rfl,rfl,rfl,rfl,rfl,trivial⟩ rfl rfl rfl
 have hie:i=n.kids.dropLast.length:=by have:=Ba g1;omega
 subst hie;rw[Aef (Bo _)]at hO;simp only[Ki,H0]at hO;subst hO;refine B4 ((n.kids.length-1:Nat):Int) (by omega) (by rw[Hl];exact Am hlst) ?_;refine Ar (ι:=Nat×List UInt8×Bool) 2 1 (fun i=>i.1≤lst.kids.length∧i.2.1++Ki (lst.kids.drop i.1) 0=Xj n)
  (fun i=>[(51,vi i.1),(50,vi lst.kids.length),(49,.sl (Ap lst.kids) .no),(4,.ptr 1 0 0),(1,.ptr 0 0 0)])
  (fun i=>⟨[[Af n],[bN (Np 312 1 i.2.2) i.2.1 0]],[i.2.1.length]⟩) (fun i=>lst.kids.length-i.1) ?_ (0,Ki n.kids.dropLast 0,c) ⟨B3 _,hT.symm⟩ ⟨rfl,by rw[←Ad lst.kids];rfl,rfl,rfl,rfl,trivial⟩ rfl rfl rfl rfl rfl
  (fun _=>inferInstance) (fun _=>inferInstance)
 rintro⟨i,out,c⟩ ⟨hi,hO⟩ IH;simp only at hi hO IH⊢;have hol:=congrArg List.length hO;simp only[Ex]at hol;refine C7 (fun g1=>?_) (fun g1=>?_)
 ·have hlt:i<lst.kids.length:=by have:=A5 g1;omega
  obtain⟨y,hy⟩:=Ab lst.kids hlt;obtain⟨hs1,hs2,hs3⟩:=hS2 y (Bh hy);rw[B6 hy]at hO hol;simp only[Ki,Ex]at hO hol;refine B4 i (by omega) (Am hy) ?_;refine Ae (hb:=Alj c out 0) (τ':=[0]) [1] [0] (hs1 c out 0 hs2 (by omega)) ?_;exact IH (i+1,out++Ht y 0,false) ⟨hlt,by simpa using hO⟩ (by simp only;omega) _ _ ⟨vsx (by omega),rfl,rfl,rfl,rfl,trivial⟩ rfl rfl rfl
 have hie:i=lst.kids.length:=by have:=Ba g1;omega
 subst hie;rw[Aef (Bo _)]at hO;simp only[Ki,H0]at hO;subst hO;generalize Xj n=out at *;have hpc:=Ah7 out;have hpa:=Aqr (s:=out);refine Ae (hb:=Alj c out 0) (τ':=[0]) [1] [0] (sN c out 0 (by omega)) ?_;refine Al (Ayq out (by omega)) ?_;generalize Fb out=T at hpc hpa⊢;obtain⟨m,cd,at_⟩:=T;simp only at hpc hpa⊢;refine Df (fun g1=>?_) (fun g1=>?_)
 ·have g1':(out==[])=false:=by have:(!(out==[]))=true:=g1;simpa using this
  rw[g1',Bool.not_false,Re];refine Bn (Vi (r:=((cd==0)&&((at_==0)&&true))) rfl rfl rfl rfl rfl hfl rfl (.inl ⟨rfl,rfl⟩)) ?_;refine Df (fun g2=>?_) (fun g2=>?_)
  ·have g2':cd=0:=by simp at g2;exact g2.1
   refine Al (A2a m n (by omega) hn) ?_;refine As func221 ?_;simp[g2']
  ·have g2':¬cd=0:=by
    intro h0;have:=hpa h0;simp[h0,this]at g2
   refine As func221 ?_;simp[g2']
 ·have g1':(out==[])=true:=by have:(!(out==[]))=false:=g1;simpa using this
  refine Ii ?_;refine As func221 ?_;simp[g1']
theorem Akd(n:Nd)(hn:Ai n≤1000000000)(hnum:PrI n):Pure X 161 [nd n] (vb (Dq n)):=by
 refine Pure.run func161 ?_;refine Al (Aq1 n hn hnum) ?_;refine As func161 ?_;rw[(Amk n).1]
end Go.V
namespace Go.V
open Go
section
variable {X:Cx}{B:Bx}{E E1:Env}{S S1:St}{w w':World}{F:C5}{a:Act}{N:Nat}{R:AE→St→Prop}{ops:Array Oper}{i:Nat}{o:Oper}
theorem Bc{k:List Item}{xs:List AV}(hf:X.P.funcs[B.f]?=some B.fn)(hR:R (.ret (C8 xs)) S)(h:Mf X F S B.fn.results.toList=some xs:=by rfl):AK X B (.code .ret::k) F S R:=by
 intro E w a b cs hI hF hn hm hb;obtain⟨v,h1,h2⟩:=M8 hI hF h;have nt:E.toks.length=S.toks.length:=by rw[←hI.nt];simp
 refine .inl ⟨.returned v,w,{ b.at a (.code .ret::k)with mode:=.returning },⟨E,S,hI,Evol.refl _ _ _ _,_,h2,hR⟩,.one step_ret,hb,⟨rfl,hF.nod,rfl,B.fn,by rw[←hf];exact congrArg (X.P.funcs[·]?) hb,h1⟩⟩
def Fresh(X:Cx)(f:FuncId)(args:List AV)(n:Nat)(P:List (List AV)→Prop):Prop:=
 Nr X.P f∧ACalls X f args ⟨[],[]⟩ fun e S'=>∃rows,e=.ret (.bsl 0 n)∧S'=⟨[rows],[]⟩∧P rows
theorem Aso(hI:Inv X E S w){rows:List (List AV)}(hflat:He 0 0 rows)(hI1:Inv X E1 ⟨[rows],[]⟩ w')(ev:Evol (E.sub [] []) w E1 w' 0 0) :
 ∃blk sz,E1.boxes[0]?=some (some (blk,sz))∧Evol E w (E.addBox blk sz) w' E.boxes.length E.toks.length∧Inv X (E.addBox blk sz) ⟨S.boxes++[rows],S.toks⟩ w':=by
 have hτl:∀t,t∈([]:List Nat)→t<E.toks.length:=fun t h=>by cases h
 have nb1:E1.boxes.length=1:=hI1.nb;obtain⟨⟨blk,sz⟩,hB⟩:=hI1.np 0 (by omega);have nt1:E1.toks=[]:=by have:=hI1.nt;simpa using this
 have own1:∀b,E1.own b→b=blk:=fun b h=>by
  rcases h with⟨j,s,h⟩|⟨t,l,c,s,h⟩
  ·have:=Aa h;have:j=0:=by omega
   subst this;rw[hB]at h;cases h;rfl
  ·rw[nt1]at h;simp at h
 have ownb:E1.own blk:=.inl ⟨0,sz,hB⟩;have nown:∀b,¬(E.sub [] []).own b:=fun b h=>by
  rcases(Pv hτl).1 h with⟨j,s,hj,_⟩|⟨t,l,c,s,ht,_⟩
  ·cases hj
  ·cases ht
 have hge:w.heap.size≤blk:=by
  rcases Gs blk w.heap.size with h|h
  ·exact absurd (ev.own blk h ownb) (nown blk)
  ·exact h
 have hlt1:blk<w'.heap.size:=hI1.own_lt ownb;have frE:∀{b o:Nat},E.mt b o→E1.fr b o:=fun{b o} h=>by
  rw[ev.fr];refine⟨h,fun ho=>?_⟩;rcases ho with⟨j,s,hj,_⟩|⟨t,l,c,s,ht,_⟩
  ·cases hj
  ·cases ht
 have hfar:∀{b:Nat},b<w.heap.size→w'.heap[b]?=w.heap[b]?:=fun{b} h=>ev.block b h (nown b);have hmtx:∀{b o:Nat},(E.addBox blk sz).mt b o→E.mt b o∨b=blk:=fun{b o} h=>by
  rcases h with h|⟨j,s,h⟩|h
  ·exact .inl (.inl h)
  ·rcases getElem?_snoc h with h|⟨_,h⟩
   ·exact .inl (.inr (.inl ⟨j,s,h⟩))
   ·cases h;exact .inr rfl
  ·exact .inl (.inr (.inr h))
 have hownx:∀{b:Nat},(E.addBox blk sz).own b→E.own b∨b=blk:=fun{b} h=>by
  rcases h with⟨j,s,h⟩|h
  ·rcases getElem?_snoc h with h|⟨_,h⟩
   ·exact .inl (.inl ⟨j,s,h⟩)
   ·cases h;exact .inr rfl
  ·exact .inl (.inr h)
 have hne:∀{b:Nat},E.own b→b≠blk:=fun{b} h e=>by have:=hI.own_lt h;omega
 have ev2:Evol E w (E.addBox blk sz) w' E.boxes.length E.toks.length:=by
  refine⟨rfl,fun j hj hl=>⟨by simp[Env.addBox];omega,fun x hx=>getElem?_snoc_left hx⟩,fun t ht k hk=>⟨k,hk,.inl rfl⟩,ev.os,ev.tape,ev.output,ev.size,fun b hb _=>hfar hb,
   fun b o v hm hc=>ev.cell b o v (fun h=>hm (Sz hτl h)) hc,fun b o hb h=>?_,fun b hb h=>?_,rfl,ev.ty,fun _ _ _ b _ _ _ _ o ho=>by rw[hfar (N7 ho)];exact ho⟩
  ·rcases hmtx h with h|h
   ·exact h
   ·omega
  ·rcases hownx h with h|h
   ·exact h
   ·omega
 refine⟨blk,sz,hB,ev2,?_⟩;obtain⟨cs1,e1,hh1,hs1,hl1,hr1⟩:=hI1.box 0 blk sz rows hB rfl;have hmt1:∀b o,(E.addBox blk sz).mt b o→E1.mt b o:=fun b o h=>by
  rcases hmtx h with h|rfl
  ·exact .inl (frE h)
  ·exact .inr (.inl ⟨0,sz,hB⟩)
 exact{
  nb:=by simp[Env.addBox,hI.nb]
  nt:=hI.nt
  np:=fun j hj=>by
   simp only[Env.addBox,Ex,Za]at hj⊢;rcases Gs j E.boxes.length with h|h
   ·rw[Cs h];exact hI.np j h
   ·have:j=E.boxes.length:=by omega
    subst this;exact⟨_,getElem?_snoc_new _ _⟩
  box:=fun j b s rows' h1 h2=>by
   rcases getElem?_snoc h1 with h1|⟨hj,h1⟩
   ·have h2':S.boxes[j]?=some rows':=by
     rcases getElem?_snoc h2 with h2|⟨hj,_⟩
     ·exact h2
     ·have:=Aa h1;rw[hI.nb]at this;omega
    obtain⟨cs',e',hh',hs',hl',hr'⟩:=hI.box j b s rows' h1 h2';exact⟨cs',e',(hfar (hI.own_lt (.inl ⟨j,s,h1⟩))).trans hh',hs',hl',fun k r q x v h3 h4 h5=>(hr' k r q x v h3 h4 h5).step ev2⟩
   ·cases h1;have h2':rows'=rows:=by
     rcases getElem?_snoc h2 with h2|⟨_,h2⟩
     ·have:=Aa h2;rw[←hI.nb]at this;omega
     ·exact h2
    subst h2';exact⟨cs1,e1,hh1,hs1,hl1,fun k r q x v h3 h4 h5=>(hr1 k r q x v h3 h4 h5).env (hflat r (Bh h3) x (Bh h4)) hmt1⟩
  tok:=fun t l b c s h=>by
   obtain⟨h1,h0,cs,e,hh,hs⟩:=hI.tok t l b c s h;exact⟨h1,h0,cs,e,(hfar (hI.own_lt (.inr ⟨t,l,c,s,h⟩))).trans hh,hs⟩
  bb:=fun i j b s s' h1 h2=>by
   rcases getElem?_snoc h1 with h1|⟨hi,h1⟩<;>rcases getElem?_snoc h2 with h2|⟨hj,h2⟩
   ·exact hI.bb i j b s s' h1 h2
   ·cases h2;exact absurd rfl (hne (.inl ⟨i,s,h1⟩))
   ·cases h1;exact absurd rfl (hne (.inl ⟨j,s',h2⟩))
   ·omega
  bt:=fun i t b s l c sz' h1 h2=>by
   rcases getElem?_snoc h1 with h1|⟨hi,h1⟩
   ·exact hI.bt i t b s l c sz' h1 h2
   ·cases h1;exact absurd rfl (hne (.inr ⟨t,l,c,sz',h2⟩))
  tt:=hI.tt
  frlt:=fun b o h=>⟨fun h'=>by
   rcases hownx h' with h'|h'
   ·exact(hI.frlt b o h).1 h'
   ·have:=(hI.frlt b o h).2;omega,Mz (hI.frlt b o h).2 ev.size⟩
  lo:=fun b h=>by
   rcases hownx h with h|h
   ·exact hI.lo b h
   ·rw[h];exact hI1.lo blk ownb
  frlo:=hI.frlo
  sz:=hI1.sz
  glob:=hI1.glob }
theorem A3e{l:List Nat}{k:List Item}{c:Call}{fo:Operand}{f:FuncId}{caps xs zs ys:List AV}{n:Nat}{P:List (List AV)→Prop}(hc:Fresh X f ys n P)(hflat:∀rows,P rows→He 0 0 rows)
 (hk:∀rows,P rows→AK X B (.inRegion ops l::k) (putF o.dst (.bsl S.boxes.length n) F) ⟨S.boxes++[rows],S.toks⟩ R)(ho:ops[i]?=some o:=by rfl)(hw:A8 ops F o=some true:=by rfl)(hop:o.op=.call c:=by rfl)
 (hcal:c.callee=.value fo:=by rfl)(hfo:Dw X F fo=some (.fn f caps):=by rfl)(hx:Hm X F c.args.toList=some xs:=by rfl)(hzs:Kg xs caps=some zs:=by rfl)(hd:D3 B.fn.ntmps o.dst=true:=by rfl) [ha:RinL [] [] zs ys] :
 AK X B (.inRegion ops (i::l)::k) F S R:=by
 intro E w a b cs hI hF hn hm hb;have nt:E.toks.length=S.toks.length:=by rw[←hI.nt];simp
 have hτl:∀t,t∈([]:List Nat)→t<E.toks.length:=fun t h=>by cases h
 have hz:=Rv hzs;obtain⟨vs,h1,h2,h3⟩:=Qh hop hcal hc.1 hI hF hfo hx;have hsub:Inv X (E.sub [] []) ⟨[],[]⟩ w:=hI.sub (σ:=[]) (τ:=[]) List.nodup_nil List.nodup_nil hτl (Sc:=⟨[],[]⟩) .nil (fun j h=>by cases h) rfl;have hcalls:=hc.2 (E.sub [] []) w vs rfl hsub (by rw[h2,hz,ha.s.get.1]) (fun j v y hv hy=>by
  obtain⟨x,hxj⟩:=Ab zs (i:=j) (by have:=Aa hy;rw[ha.s.get.1]at this;exact this);exact(ha.s.get.2 j x y hxj hy).fwd (fun b o=>Sz hτl) (fun i j q h1 h2=>I8.2 ⟨i,h1,h2⟩) (fun i j k h1 h2=>(J9 hτl).2 ⟨i,h1,h2⟩) (h3 j v x hv (by rw[hz];exact hxj)))
 have hdo:Does X ops i a w fun v w'=>∃rows,P rows∧∃E',Inv X E' ⟨S.boxes++[rows],S.toks⟩ w'∧Evol E w E' w' E.boxes.length E.toks.length∧Rel E' w' v (.bsl S.boxes.length n):=by
  refine Does.call ho (Cr hF hw) h1 (hcalls.mono fun e w' he=>?_);obtain⟨E1,S1,d1,d2,d3⟩:=he;cases e with
  |returned v=>
   obtain⟨r',hr',rows,hre,rfl,hP⟩:=d3;cases hre;obtain⟨blk,sz,hB,ev2,hI2⟩:=Aso hI (hflat rows hP) d1 d2;refine⟨v,rfl,rows,hP,_,hI2,ev2,?_⟩;cases hr' with
   |bsl _ blk' sz' _ cap hB' hcap=>
    rw[hB]at hB';cases hB';exact .bsl _ blk sz n cap (by rw[←hI.nb];exact getElem?_snoc_new _ _) hcap
  |panicked ch=>obtain⟨rows,h,_⟩:=d3;cases h
  |outgrown=>exact d3.elim
 obtain⟨v',w2,⟨rows,hP,E',g1,g2,g3⟩,g4⟩:=hdo b k cs l;have hF':=(hF.step g2).putF hd g3;have g4':=g4;rw[ho]at g4';exact Fin.from g4' (g2.weaken (by rw[hI.nb];exact hn) (by omega)) (hk rows hP E' w2 _ b cs g1 hF' (by simp;omega) hm hb)
theorem Fresh.mk{f:FuncId}{fn:Func}{c:Code}{args:List AV}{n:Nat}{P:List (List AV)→Prop}(hf:X.P.funcs[f]?=some fn)(hb:fn.body=some c)(hl:Nat.ble args.length fn.ntmps=true)(hnm:(fn.name == "runtime.NumGoroutine")=false)
 (h:AK X ⟨f,fn,0,0⟩ [.code c] (Ot 0 args) ⟨[],[]⟩ fun e S'=>∃rows,e=.ret (.bsl 0 n)∧S'=⟨[rows],[]⟩∧P rows):Fresh X f args n P:=
 ⟨⟨fn,hf,hnm,by rw[hb];rfl⟩,Jq (n:=0) (m:=0) (hh:=fun C S' hx=>by obtain⟨rows,hx,_⟩:=hx;cases hx) hf hb hl rfl rfl h⟩
theorem Acm{c:Call}{p q:Operand}{tt tx e e':Nat}{y yx ye:Ty}{rows:List (List AV)}{sp sp':Sp}(ho:ops[i]?=some o:=by rfl)(hw:A8 ops F o=some true:=by rfl)(hop:o.op=.call c:=by rfl)(hcal:c.callee=.builtin .append:=by rfl)
 (hargs:c.args.toList=[p,q]:=by rfl)(htys:c.argTypes.toList=[tt,tx]:=by rfl)(hp:Dw X F p=some (.sl rows sp):=by rfl)(hq:Dw X F q=some (.sl [] sp'):=by rfl)(hy:X.ty tt=some y:=by rfl)(hyk:y.k=.slc e:=by rfl)(hye:X.ty e=some ye:=by rfl)
 (hyx:X.ty tx=some yx:=by rfl)(hyxk:yx.k=.slc e':=by rfl):Ndo X N ops i o F (.sl rows sp) S S:=by
 refine Dj ho hw fun F' E w a hc hI hF=>?_;rw[hop]at hc;obtain⟨callee,args,argTypes⟩:=c;simp only at hcal hargs htys;subst hcal;have ha:args=#[p,q]:=by rw[←zzq34];exact hargs
 have ht:argTypes=#[tt,tx]:=by rw[←zzq34];exact htys
 subst ha;subst ht;have r1:=Ak hI hF ((hc p (by simp[Op.operands,Call.operands])).trans hp);have r2:=Ak hI hF ((hc q (by simp[Op.operands,Call.operands])).trans hq);obtain⟨d1,hd1,hk1⟩:=(X.ty_ok tt y hy).agg;simp only[hyk]at hk1;obtain⟨rfl,ye',hye',hne0⟩:=hk1;rw[hye]at hye';cases hye';obtain⟨d2,hd2,hk2⟩:=(X.ty_ok tx yx hyx).agg;simp only[hyxk]at hk2;obtain⟨rfl,_⟩:=hk2;generalize hu:a.eval p=u at r1;generalize hv:a.eval q=v at r2;have r1':=r1;cases r2 with
 |sl _ _ a2 n2 cap2 b2 o2 sz2 vals2 hn2 hx2 ha2 hszr2 hm2 hcl2 hr2 hs2 hcap2=>
  have h0:n2=0:=by simpa using hn2.symm
  subst h0;cases r1 with
  |sl _ _ a1 n1 cap1 b1 o1 sz1 vals1 hn1 hx1 ha1 hszr1 hm1 hcl1 hr1 hs1 hcap1=>
   refine⟨.slice a1 n1 cap1,?_,r1'⟩;have hf:(Builtin.firstCells ye.size 0 (.slice a2 0 cap2)).run X.P w=.ok ([]:List Value).toArray w:=by
    cases a2 with
    |none=>exact run_firstCells_none _ _ _ _ _
    |some a0=>exact run_firstCells_some _ _ _ _ _ _ _ (by simp) (fun j v hj=>by simp at hj)
   cases a1 with
   |none=>simp[execOp,hop,resolve,invoke,builtin,hu,hv,Builtin.append_,run_underlying hd1,run_underlying hd2,Dr hye,Builtin.lenOf,hcap1,hf]
   |some a0=>simp[execOp,hop,resolve,invoke,builtin,hu,hv,Builtin.append_,run_underlying hd1,run_underlying hd2,Dr hye,Builtin.lenOf,hcap1,hf,storeCells]
end
end Go.V
namespace Go.V
open Go Go.Proofs Go.Proofs.Tryz
instance{n m c:Nat}:OKR n m (List.replicate c zN):=⟨fun r hr x hx=>by
 rw[Abk hr]at hx;exact(inferInstance:OKL n m zN).ok x hx⟩
abbrev rB(l:List Nd)(c:Nat):List (List AV):=Ap l++List.replicate c zN
theorem Aal{l:List Nd}{i c:Nat}{x:Nd}(h:l[i]?=some x):(rB l c)[i]?=some (Af x):=by
 rw[Cs (by rw[Ad];exact Aa h)];exact Am h
theorem A2b(l:List Nd)(c i:Nat)(x:Nd)(h:i<l.length):(rB l c).set i (Af x)=rB (l.set i x) c:=by
 rw[rB,rB,List.set_append_left _ _ (by rw[Ad];exact h),Au,Au,Zc]
theorem Amn(l:List Nd)(c:Nat):(rB l c).length=l.length+c:=by simp[Ad]
theorem Aag(a b:List Nd):Ap (a++b)=Ap a++Ap b:=by rw[Au,Au,Au,Kr]
theorem A0a(l:List Nd)(c:Nat):∀r,r∈rB l c→r.length=4:=fun r hr=>by
 rcases zzq45.1 hr with h|h
 ·exact Ip.1 (Ew l) r h
 ·rw[Abk h];rfl
section
variable {X:Cx}{B:Bx}{S:St}{F F':C5}{R:AE→St→Prop}{N:Nat}{ops:Array Oper}{i:Nat}{l:List Nat}{k K:List Item}{o:Oper}{p q:Operand}
theorem Art{t b r:Nat}{y:Ty}{cs:List AV}{rows:List (List AV)}{x:AV}{S2:St}(hr:rows[r]?=some cs)(hk:AK X B K F' S2 R)(ho:ops[i]?=some o:=by rfl)(hw:A8 ops F o=some true:=by rfl)(hop:o.op=.load t p:=by rfl)
 (hp:Dw X F p=some (.ptr b r 0):=by rfl)(hy:X.ty t=some y:=by rfl)(hb:S.boxes[b]?=some rows:=by rfl)(hl:cs.length=y.size:=by rfl)(hx:Wb (Gg y.k) cs=some x:=by rfl)(hd:D3 B.fn.ntmps o.dst=true:=by rfl)
 (he:Go.V.ev X B.fn.ntmps 200 (.inRegion ops l::k) (putF o.dst x F) S=(K,F',S2):=by rfl):AK X B (.inRegion ops (i::l)::k) F S R:=
 Bn (Qd hb hr hl ho hw hop hp hy hx) hk ho hd he
theorem Zh{t e b n:Nat}{ik:IntKind}{y ye:Ty}{rows:List (List AV)}{r:List AV}(j:Nat)(hj:j<n)(hr:rows[j]?=some r)(hk:AK X B (.inRegion ops l::k) (putF o.dst (.ptr b j 0) F) S R)(ho:ops[i]?=some o:=by rfl)(hw:A8 ops F o=some true:=by rfl)
 (hop:o.op=.indexAddr t p q:=by rfl)(hp:Dw X F p=some (.bsl b n):=by rfl)(hq:Dw X F q=some (.val (.int ik j)):=by rfl)(hy:X.ty t=some y:=by rfl)(hyk:y.k=.slc e:=by rfl)(hye:X.ty e=some ye:=by rfl)(hb:S.boxes[b]?=some rows:=by rfl)(hl:r.length=ye.size:=by rfl)
 (hd:D3 B.fn.ntmps o.dst=true:=by rfl):AK X B (.inRegion ops (i::l)::k) F S R:=
 Hi (Gd (j:=j) ho hw hop hp hq hy hyk hye (by simpa[Fw]using hj) hb hr hl) ho hd hk
theorem Ags{t b r:Nat}{y:Ty}{x:AV}{xs cs:List AV}{rows:List (List AV)}{bx:List (List (List AV))}{S2:St}(hr:rows[r]?=some cs)(hk:AK X B K F' S2 R)(ho:ops[i]?=some o:=by rfl)(hw:A8 ops F o=some true:=by rfl)(hop:o.op=.store t p q:=by rfl)
 (hp:Dw X F p=some (.ptr b r 0):=by rfl)(hq:Dw X F q=some x:=by rfl)(hy:X.ty t=some y:=by rfl)(hb:S.boxes[b]?=some rows:=by rfl)(hc:cellsOf x=some xs:=by rfl)(hl:xs.length=y.size:=by rfl)(hl':cs.length=y.size:=by rfl)
 (hbx:S.boxes.set b (rows.set r xs)=bx:=by rfl)(hd:D3 B.fn.ntmps o.dst=true:=by rfl)(he:Go.V.ev X B.fn.ntmps 200 (.inRegion ops l::k) (putF o.dst .junk F) ⟨bx,S.toks⟩=(K,F',S2):=by rfl):AK X B (.inRegion ops (i::l)::k) F S R:=by
 subst hbx;exact Bn (A7 ho hw hop hy hp hq (Xr hb hr hc hl hl')) hk ho hd he
end
theorem Ayi(l:List Nd)(hne:l≠[])(hl:l.length≤1000000000):Fresh X 223 [.sl (Ap l) .no] l.length fun rows=>∃c,rows=rB l c:=by
 have hu:X.P.underlying 28=some (.slice 30):=by kernel_rfl
 refine Fresh.mk func223 rfl rfl (by kernel_rfl) ?_;refine Bi 100 rfl ?_;refine Anc hu (fun c hc=>?_);have hc':=hc (by rw[Au];simpa using hne);subst hc';refine Bi 100 rfl ?_;refine Ag ?_;have hn:Ap l≠[]:=by rw[Au];simpa using hne
 refine Zi (fun cc=>?_) (Ip.1 (Ew l)) (K9.1 (Ajx l)) hn (by rw[Ad];omega);refine Bi 100 rfl ?_;refine Bc func223 ?_;exact⟨rB l cc,by rw[Ad];rfl,rfl,cc,rfl⟩
theorem Auk:Pure X 223 [.sl [] .no] (.sl [] .no):=by
 have hu:X.P.underlying 28=some (.slice 30):=by kernel_rfl
 refine Pure.mk func223 rfl rfl (by kernel_rfl) ?_;refine Bi 100 rfl ?_;refine Anc hu (fun c hc=>?_);refine C7 (fun h=>?_) (fun h=>?_)
 ·refine If 2 (.sl [] .tight) ?_;exact As func223 rfl
 ·refine Bn Acm ?_;exact As func223 rfl
theorem Atb(l:List Nd)(c:Nat)(f:FuncId)(caps:List AV)(p:Nd→Bool)(hl:l.length≤1000000000) [hok:OKL 0 0 caps](hp:∀x,x∈l→Pure X f (nd x::caps) (vb (p x)))(hcat:∀xs,Kg xs caps=some (xs++caps)) :
 Hands X 225 [.bsl 0 l.length,.fn f caps] ⟨[rB l c],[]⟩ (vi (Km p 0 l)) ⟨[rB l c],[]⟩:=by
 have:OKL 1 0 caps:=⟨fun x hx=>(hok.ok x hx).mono (by omega) (by omega)⟩
 refine Hands.run (n:=1) (m:=0) func225 ?_;refine Ar (ι:=Nat) 1 0 (fun i=>i≤l.length∧Km p 0 l=Km p i (l.drop i)) (fun i=>[(8,vi i),(7,vi l.length),(0,.bsl 0 l.length),(1,.fn f caps)]) (fun _=>⟨[rB l c],[]⟩) (fun i=>l.length-i) ?_ 0 ⟨B3 _,rfl⟩
  ⟨rfl,rfl,rfl,rfl,trivial⟩
 intro i hi IH;refine C7 (fun h=>?_) (fun h=>?_)
 ·have hlt:i<l.length:=by have:=A5 h;omega
  obtain⟨x,hx⟩:=Ab l hlt;have hd:Km p i (l.drop i)=if p x then(i:Int)else Km p (i+1) (l.drop (i+1)):=by rw[B6 hx];rfl
  refine Zh i hlt (Aal (c:=c) hx) ?_;refine Art (Aal (c:=c) hx) ?_;refine Al (hp x (Bh hx)) ?_ (hzs:=hcat _);refine Ah (fun h2=>?_) (fun h2=>?_)
  ·refine Bq func225 ?_ rfl;have h3:p x=true:=h2;rw[hi.2,hd,h3];rfl
  ·have h3:p x=false:=h2;exact IH (i+1) ⟨hlt,by rw[hi.2,hd,h3];rfl⟩ (by omega) _ _ ⟨vsx (by omega),rfl,rfl,rfl,trivial⟩ rfl rfl rfl
 ·have:i=l.length:=by have:=Ba h;omega
  refine Bq func225 ?_ rfl;rw[hi.2,this,Hz];rfl
theorem Afh{p:Nd→Bool}:∀{l:List Nd}{i:Nat},Km p i l=-1→l.filter (fun x=>!p x)=l
 |[],i,_=>rfl
 |x::l,i,h=>by
  simp only[Km]at h;split at h
  ·omega
  ·rename_i hx;have:=Afh h;have hx':p x=false:=by simpa using hx
   rw[Abo,hx',Bool.not_false,if_pos rfl,this]
theorem Z4{p:Nd→Bool}:∀{l:List Nd}{i:Nat},Km p i l≠-1→∃j x,Km p i l=((i+j:Nat):Int)∧l[j]?=some x∧p x=true∧(l.take j).filter (fun x=>!p x)=l.take j
 |[],i,h=>by simp[Km]at h
 |x::l,i,h=>by
  simp only[Km]at h⊢;by_cases hx:p x=true
  ·rw[if_pos hx];exact⟨0,x,by simp,rfl,hx,rfl⟩
  ·rw[if_neg hx]at h⊢;obtain⟨j,y,h1,h2,h3,h4⟩:=Z4 h;have hx':p x=false:=by simpa using hx
   refine⟨j+1,y,by rw[h1];omega,by simpa using h2,h3,?_⟩;rw[List.take_succ_cons,Abo,hx',Bool.not_false,if_pos rfl,h4]
theorem Asw{l cur:List Nd}{q:Nd→Bool}{i j:Nat}{x:Nd}(hij:i<j)(hj:l[j]?=some x)(hlen:cur.length=l.length)(h1:cur.take i=(l.take j).filter q)(h2:cur.drop j=l.drop j) :
 cur[j]?=some x∧(q x=false→cur.take i=(l.take (j+1)).filter q∧cur.drop (j+1)=l.drop (j+1)) ∧
  (q x=true→(cur.set i x).take (i+1)=(l.take (j+1)).filter q∧(cur.set i x).drop (j+1)=l.drop (j+1)):=by
 have hjl:=Aa hj;have hcj:cur[j]?=some x:=by
  have:=congrArg (fun t:List Nd=>t[0]?) h2;simp only[Nz,Px]at this;rw[this];exact hj
 have hd:cur.drop (j+1)=l.drop (j+1):=by
  have:=congrArg List.tail h2;simpa[List.tail_drop]using this
 have ht:(l.take (j+1)).filter q=(l.take j).filter q++[x].filter q:=by rw[G8,hj,Aeg];rfl
 refine⟨hcj,fun hq=>⟨?_,hd⟩,fun hq=>⟨?_,?_⟩⟩
 ·rw[ht,h1];simp[hq]
 ·rw[ht,←h1];have hi:i<cur.length:=by omega
  rw[G8,List.take_set_of_le (Bo _)];simp[hi,hq]
 ·rw[List.drop_set_of_lt (by omega)];exact hd
theorem Ap9(l:List Nd)(c:Nat)(f:FuncId)(caps:List AV)(p:Nd→Bool)(hl:l.length≤1000000000) [hok:OKL 0 0 caps](hp:∀x,x∈l→Pure X f (nd x::caps) (vb (p x)))(hcat:∀xs,Kg xs caps=some (xs++caps)) :
 Hands X 222 [.bsl 0 l.length,.fn f caps] ⟨[rB l c],[]⟩ (.bsl 0 (l.filter fun x=>!p x).length)
  ⟨[rB (l.filter fun x=>!p x) (l.length-(l.filter fun x=>!p x).length+c)],[]⟩:=by
 have:OKL 1 0 caps:=⟨fun x hx=>(hok.ok x hx).mono (by omega) (by omega)⟩
 have hf:=Atb l c f caps p hl hp hcat
 refine Hands.run (n:=1) (m:=0) func222 ?_;refine Ae [0] [] hf ?_;refine Ah (fun h1=>?_) (fun h1=>?_)
 ·have h1':Km p 0 l=-1:=by simpa using h1
  rw[Afh h1',Ik,Jy];exact Zj (n:=1) (tk:=[]) func222 rfl rfl rfl rfl
 have h1':Km p 0 l≠-1:=by simpa using h1
 obtain⟨j0,x0,e0,e1,e2,e3⟩:=Z4 h1';rw[Jy]at e0;have hj0:=Aa e1;have hwj:IntKind.i64.wrap (Km p 0 l+1)=((j0+1:Nat):Int):=by rw[e0];exact(Ac (by omega) (by omega)).trans (by omega)
 have hstart:l.take j0=(l.take (j0+1)).filter fun x=>!p x:=by
  rw[G8,e1,Aeg,e3];simp[e2]
 refine Ar (ι:=Nat×Nat×List Nd) 1 0 (fun s=>s.1<s.2.1∧s.2.1≤l.length∧s.2.2.length=l.length∧s.2.2.take s.1=(l.take s.2.1).filter (fun x=>!p x)∧s.2.2.drop s.2.1=l.drop s.2.1)
  (fun s=>[(6,vi s.2.1),(5,vi s.1),(0,.bsl 0 l.length),(1,.fn f caps)]) (fun s=>⟨[rB s.2.2 c],[]⟩) (fun s=>l.length-s.2.1) ?_ (j0,j0+1,l) ⟨Aec _,hj0,rfl,hstart,rfl⟩
  ⟨Ci hwj,Ci e0,rfl,rfl,trivial⟩
 rintro⟨i,j,cur⟩ ⟨g1,g2,g3,g4,g5⟩ IH;simp only at g1 g2 g3 g4 g5 IH⊢;refine C7 (fun h2=>?_) (fun h2=>?_)
 ·have hlt:j<l.length:=by have:=A5 h2;omega
  have hj1:IntKind.i64.wrap ((j:Int)+1)=((j+1:Nat):Int):=(Ac (by omega) (by omega)).trans (by omega);have hi1:IntKind.i64.wrap ((i:Int)+1)=((i+1:Nat):Int):=(Ac (by omega) (by omega)).trans (by omega);obtain⟨x,hx⟩:=Ab l hlt;obtain⟨s1,s2,s3⟩:=Asw (q:=fun x=>!p x) g1 hx g3 g4 g5;refine Zh j hlt (Aal (c:=c) s1) ?_;refine Art (Aal (c:=c) s1) ?_;refine Al (hp x (Bh hx)) ?_ (hzs:=hcat _);refine Ah (fun h3=>?_) (fun h3=>?_)
  ·have hpx:p x=false:=by have:(!p x)=true:=h3;simpa using this
   obtain⟨t1,t2⟩:=s3 (by simp[hpx]);have hil:i<cur.length:=by omega
   obtain⟨y,hy⟩:=Ab cur hil;refine Zh i (show i<l.length by omega) (Aal (c:=c) hy) ?_;refine Ags (bx:=[rB (cur.set i x) c,[Af x]]) (Aal (c:=c) hy) ?_ (hbx:=by rw[←A2b _ _ _ _ hil];rfl);refine IH (i+1,j+1,cur.set i x) ⟨by simp only;omega,hlt,by simpa using g3,t1,t2⟩ (by simp only;omega) _ _ ⟨Ci hj1,Ci hi1,rfl,rfl,trivial⟩ rfl rfl rfl
  ·have hpx:p x=true:=by have:(!p x)=false:=h3;simpa using this
   obtain⟨t1,t2⟩:=s2 (by simp[hpx]);exact IH (i,j+1,cur) ⟨by simp only;omega,hlt,g3,t1,t2⟩ (by simp only;omega) _ _ ⟨Ci hj1,rfl,rfl,rfl,trivial⟩ rfl rfl rfl
 ·have hje:j=l.length:=by have:=Ba h2;omega
  subst hje;rw[I2]at g4;have hfl:(l.filter fun x=>!p x).length=i:=by
   have:=congrArg List.length g4;rw[Vd]at this;omega
  have hrows:rB cur c≠[]:=by
   intro h;have:cur.length+c=0:=by rw[←Amn,h];rfl
   omega
  have hz:(rB cur c).take i++(List.replicate (l.length-i) zN++(rB cur c).drop (i+(l.length-i)))=rB (cur.take i) (l.length-i+c):=by
   rw[show i+(l.length-i)=l.length by omega,rB,rB,List.take_append_of_le_length (by rw[Ad];omega),←g3,show cur.length=(Ap cur).length by rw[Ad],List.drop_left,Au,Au,←List.map_take,
    ←List.replicate_append_replicate,Py]
  refine Bn (Apo (l:=i) (rows:=rB cur c) g1 rfl rfl rfl rfl rfl rfl rfl rfl rfl (A0a _ _) hrows) ?_;refine Bn (Alb (s:=i) (n:=l.length-i) (rows:=rB cur c) (by omega) rfl (by rw[Amn];omega) (A0a _ _) (by exact congrArg (fun r=>[r]) hz) (by intro x hx;simp at hx;rcases hx with rfl|rfl|rfl|rfl<;>rfl) rfl rfl rfl rfl rfl rfl rfl rfl rfl rfl) ?_;refine Bn (Apk (h:=(i:Int)) (by omega) (by omega) rfl rfl rfl rfl rfl rfl rfl rfl) ?_;rw[hfl,←g4];exact Zj (n:=1) (tk:=[]) func222 rfl rfl rfl rfl
end Go.V
