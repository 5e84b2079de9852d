/- A part of the proof of the claim that the last text states: no condition of its own. -/
import Derived.Test.YtojhghmilenfkaaGreatDoorQ10
import Derived.Laws.Cover3
set_option linter.unusedVariables false
set_option linter.unusedSimpArgs false
namespace Go.V
open Go Go.Proofs Go.Proofs.Tryz
abbrev bK(A:AV)(s:Ad)(ws:Mu)(h:Int):An:=[A,.buf 5 s 0,.sl (Eu ws) (.tok 2),vi h]
def HS(x:Nd):Prop:=∀(b:Bool)(s:Ad)(h:Nat),h+Dn x≤60→s.length+(Ig x h).length≤1000000000 →
 Hands X 266 [.ptr 0 0 0,nd x] ⟨[[bN (N7 312 0 b) s h]],[s.length]⟩ (.tup []) ⟨[[bN (.ptr 0 0 0) (s++Ig x h) h]],[(s++Ig x h).length]⟩
def Ov(x:Nd)(ws:Mu)(h:Nat):Ad:=Ey (ws++[[123]]) h++Ku x.kids (h+1)
def HBk(x:Nd):Prop:=∀(b:Bool)(s:Ad)(ws:Mu)(h:Nat),h+Dn x≤60→okW ws→ws.length≤900000→s.length+(Ov x ws h).length≤1000000000 →
 Hands X 315 [.ptr 0 0 0,nd x] ⟨[[bP (N7 312 0 b) s ws h]],[s.length,ws.length]⟩ (.tup [])
  ⟨[[bK (.ptr 0 0 0) (s++Ov x ws h) [[125]] h]],[(s++Ov x ws h).length,(ws++[[123]]).length,1]⟩
theorem PutC.f{r:A7}{xs:Mu}(hp:PutC r xs)(s:Ad)(ws:Mu)(h:Int)(hw:ws.length≤1000000000) :
 Hands X 294 [.ptr 0 0 0,.sl r .no] ⟨[[bP (.ptr 0 0 0) s ws h]],[s.length,ws.length]⟩ (.tup []) ⟨[[bP (.ptr 0 0 0) s (ws++xs) h]],[s.length,(ws++xs).length]⟩:=hp false s ws h hw
theorem PutC.n{r:A7}{xs:Mu}(hp:PutC r xs)(b:Bool)(s:Ad)(h:Int) :
 Hands X 294 [.ptr 0 0 0,.sl r .no] ⟨[[[N7 312 0 b,.buf 5 s 0,.sl [] (.tok 1),vi h]]],[s.length,0]⟩ (.tup []) ⟨[[bP (N7 312 0 b) s xs h]],[s.length,xs.length]⟩:=hp b s [] h (by simp)
theorem PutC.m{r:A7}{xs:Mu}(hp:PutC r xs)(s:Ad)(h:Int) :
 Hands X 294 [.ptr 0 0 0,.sl r .no] ⟨[[[.ptr 0 0 0,.buf 5 s 0,.sl [] (.tok 1),vi h]]],[s.length,0]⟩ (.tup []) ⟨[[bP (.ptr 0 0 0) s xs h]],[s.length,xs.length]⟩:=hp false s [] h (by simp)
theorem A0t(b:Bool)(s:Ad)(h:Int):RinB [0] [0] [[bN (N7 312 0 b) s h]] [[bN (N7 312 0 b) s h]]:=
 have h1:RinC [0] [0] (N7 312 0 b) (N7 312 0 b):=inferInstance;have h2:RinC [0] [0] (.buf 5 s 0) (.buf 5 s 0):=inferInstance;have h3:Ren true [0] [0] (.sl [] .tight) (.sl [] .tight):=Z9 .nil (.inr (.inr (.inr (.inl ⟨rfl,rfl⟩))));have h4:RinC [0] [0] (vi h) (vi h):=inferInstance
 ⟨.cons (.cons (.cons h1.s (.cons h2.s (.cons h3 (.cons h4.s .nil)))) .nil) .nil⟩
theorem A42(s:Ad)(h:Int):RinB [0] [0] [[bN (.ptr 0 0 0) s h]] [[bN (.ptr 0 0 0) s h]]:=A0t false s h
theorem HS.f{x:Nd}(hx:HS x)(s:Ad)(h:Nat)(hd:h+Dn x≤60)(hl:s.length+(Ig x h).length≤1000000000) :
 Hands X 266 [.ptr 0 0 0,nd x] ⟨[[bN (.ptr 0 0 0) s h]],[s.length]⟩ (.tup []) ⟨[[bN (.ptr 0 0 0) (s++Ig x h) h]],[(s++Ig x h).length]⟩:=hx false s h hd hl
theorem HBk.f{x:Nd}(hx:HBk x)(s:Ad)(ws:Mu)(h:Nat)(hd:h+Dn x≤60)(hw:okW ws)(hwl:ws.length≤900000)(hl:s.length+(Ov x ws h).length≤1000000000) :
 Hands X 315 [.ptr 0 0 0,nd x] ⟨[[bP (.ptr 0 0 0) s ws h]],[s.length,ws.length]⟩ (.tup [])
  ⟨[[bK (.ptr 0 0 0) (s++Ov x ws h) [[125]] h]],[(s++Ov x ws h).length,(ws++[[123]]).length,1]⟩:=hx false s ws h hd hw hwl hl
theorem If(ws:Mu)(h:Nat):(Ey ws h).length=2*h+(P8 ws).length+1:=by simp[Ey];omega
theorem Vh{ws:Mu}(h:okW ws):∀x,x∈ws→x.length≤1000000:=fun x hx=>by have:=h x hx;omega
theorem Aop(x:Nd)(hy:∀y,y∈x.kids→HS y)(hl:x.kids.length≤100000):HBk x:=by
 intro b s ws h hd hw hwl hb;have dx:=Kg x;have e1:(Ov x ws h).length=(Ey (ws++[[123]]) h).length+(Ku x.kids (h+1)).length:=by simp[Ov]
 have e2:=If (ws++[[123]]) h;have hi1:IntKind.i64.wrap ((h:Int)+1)=((h+1:Nat):Int):=(Ac (by omega) (by omega)).trans (by omega);have hi2:IntKind.i64.wrap (((h+1:Nat):Int)-1)=(h:Int):=(Ac (by omega) (by omega)).trans (by omega);refine Hands.run (n:=1) (m:=2) func315 ?_;refine Af (τ':=[0,1]) [0] [0,1] (Ju [123] b s ws h (by omega)) ?_;refine Af (τ':=[0]) [0] [0] (Pk b s (ws++[[123]]) h (by omega) (by simp<;>omega) (by omega) (by omega) (Vh (B7 hw (Bw (by simp))))) ?_;refine Bl ⟨[[bN (.ptr 0 0 0) (s++Ey (ws++[[123]]) h) ((h+1:Nat):Int)],[Ag x]],[(s++Ey (ws++[[123]]) h).length,(ws++[[123]]).length]⟩ ?_ (by rw[←hi1]<;>rfl);refine Ar (ι:=Nat×Ad) 2 2 (fun i=>i.1≤x.kids.length∧i.2++Ku (x.kids.drop i.1) (h+1)=s++Ov x ws h) (fun i=>[(21,vi i.1),(20,vi x.kids.length),(19,.sl (Av x.kids) .no),(0,.ptr 0 0 0)])
  (fun i=>⟨[[bN (.ptr 0 0 0) i.2 ((h+1:Nat):Int)],[Ag x]],[i.2.length,(ws++[[123]]).length]⟩) (fun i=>x.kids.length-i.1) ?_ (0,s++Ey (ws++[[123]]) h) ⟨Cb _,by simp[Ov]⟩ ⟨rfl,by rw[←Ae];rfl,rfl,rfl,trivial⟩ rfl rfl rfl rfl rfl
  (fun _=>inferInstance) (fun _=>inferInstance)
 rintro⟨i,out⟩ ⟨hi,hT⟩ IH;simp only at hi hT IH⊢;have hol:=congrArg List.length hT;simp only[F5]at hol;refine Cp (fun h1=>?_) (fun h1=>?_)
 ·have hlt:i<x.kids.length:=by have:=A6 h1;omega
  obtain⟨y,hyi⟩:=Ab x.kids hlt;have hmem:=Bn hyi;have hdr:=Bp hyi;rw[hdr]at hT hol;simp only[Ku,F5]at hT hol;refine Bv i (by omega) (Ap hyi) ?_;refine Af (hb:=A42 out ((h+1:Nat):Int)) (τ':=[0]) [0] [0] ((hy y hmem).f out (h+1) (by have:=G8 hmem;omega) (by omega)) ?_;exact IH (i+1,out++Ig y (h+1)) ⟨hlt,by simpa using hT⟩ (by simp only;omega) _ _ ⟨vsx (by omega),rfl,rfl,rfl,trivial⟩ rfl rfl rfl
 ·have hie:i=x.kids.length:=by have:=Bd h1;omega
  subst hie;rw[Aet (Bt _)]at hT;simp only[Ku,I4]at hT;subst hT;refine Bl ⟨[[bN (.ptr 0 0 0) (s++Ov x ws h) h],[Ag x]],[(s++Ov x ws h).length,(ws++[[123]]).length]⟩ ?_ (by rw[←hi2]<;>rfl);refine E6 0 0 2 (bx:=[[[.ptr 0 0 0,.buf 5 (s++Ov x ws h) 0,.sl [] (.tok 2),vi h]],[Ag x]]) (tk:=[(s++Ov x ws h).length,(ws++[[123]]).length,0]) rfl rfl rfl rfl rfl rfl ?_;refine Af (τ':=[0,2]) [0] [0,2] ((Ju [125]).m (s++Ov x ws h) h) ?_;exact Ek func315 rfl rfl
def cpP(k:Int)(s:Ad)(c:List (Int×Mu))(b:List (Ad×Bool))(h:Nat):Ad:=
 if k=24 then Ey ([Wv]++eW c 0++[[123]]) h++bT b 1++(if bQ' b 2 then Ey [[125],I9,[123]] h++bT b 2 else[])
 else if k=25 then Ey ([G1]++eW c 0++[[123]]) h++bT b 1
 else if k=26 then Ey ([Mr,s,J4]++eW c 0++[wTo]++eW c 1++[[123]]) h++bT b 2
 else[]
def cpW(k:Int):Mu:=if k=24 then[[125]]else if k=25 then[[125]]else if k=26 then[[125]]else[]
def cpB(k:Int)(b:Bool):Bool:=if k=24 then false else if k=25 then false else if k=26 then false else b
theorem A17(k:Int)(s:Ad)(c:List (Int×Mu))(b:List (Ad×Bool))(h:Nat):cpT k s c b h=cpP k s c b h++Ey (cpW k) h:=by
 unfold cpT cpP cpW
 repeat' split
 all_goals simp
theorem Ahq(n:Nd)(h i:Nat):bT (J2 n.kids h) i=Ku (B6 n i).kids (h+1):=(Aoc n h i).1
theorem A1s(n:Nd)(h i:Nat):bQ' (J2 n.kids h) i=!(B6 n i).kids.isEmpty:=(Aoc n h i).2
theorem Af2(n:Nd)(i:Nat){h:Nat}(hd:h+Dn n≤60):h+Dn (B6 n i)≤60:=by
 have:=Kg n;rcases M8 n i with h|h
 ·have:=G8 h;omega
 ·rw[h];show _+1≤60;omega
set_option maxHeartbeats 2000000 in
theorem Amo(n:Nd)(hp:PrN n)(hsz:Al n≤1000)(hk:∀i,HBk (B6 n i))(b:Bool)(s:Ad)(h:Nat)(hd:h+Dn n≤60)(hl:s.length+(cpP n.kind n.name (B8 n.kids) (J2 n.kids h) h).length≤1000000000) :
 Hands X 298 [.ptr 0 0 0,nd n] ⟨[[bN (N7 312 0 b) s h]],[s.length]⟩ (.tup [])
  ⟨[[bQ (N7 312 0 (cpB n.kind b)) (s++cpP n.kind n.name (B8 n.kids) (J2 n.kids h) h) (cpW n.kind) h]],[(s++cpP n.kind n.name (B8 n.kids) (J2 n.kids h) h).length]⟩:=by
 have hkl:n.kids.length≤4000000000:=by have:=Bq n.kids;have:=Co n;omega
 have q0:=Ad9 n 0 (by omega) hkl;have q1:=Ad9 n 1 (by omega) hkl;have q2:=Ad9 n 2 (by omega) hkl;have e0:=Ah9 (B6 n 0) (hp.kid 0);have e1:=Ah9 (B6 n 1) (hp.kid 1);have w0:=Y2 (B6 n 0) (hp.kid 0);have w1:=Y2 (B6 n 1) (hp.kid 1);have he:=Ahv n.kids;have hcn:=Co n;rw[Gi,Gi]at he;have kc:∀i,Al (B6 n i)≤1000:=fun i=>by
  rcases M8 n i with h|h
  ·have:=Fc h;omega
  ·rw[h];decide
 have c0:=kc 0;have c1:=kc 1;have d1:=Af2 n 1 hd;have d2:=Af2 n 2 hd;have hs8:=hp.get.1;refine Hands.run (n:=1) (m:=1) func298 ?_;refine Ai (fun h1=>?_) (fun h1=>?_)
 ·have h1':n.kind=24:=by simpa using h1
  have hB:cpB n.kind b=false:=by unfold cpB;rw[if_pos h1']
  have hW:cpW n.kind=[[125]]:=by unfold cpW;rw[if_pos h1']
  have hP:cpP n.kind n.name (B8 n.kids) (J2 n.kids h) h=Ov (B6 n 1) ([Wv]++A5 (B6 n 0)) h++(if !(B6 n 2).kids.isEmpty then Ov (B6 n 2) ([[125]]++[I9]) h else[]):=by
   unfold cpP;rw[if_pos h1',Gi,Ahq,A1s,Ahq];simp[Ov]
  rw[hB,hW];rw[hP]at hl⊢;simp only[F5]at hl;refine E6 0 0 2 (bx:=[[[N7 312 0 b,.buf 5 s 0,.sl [] (.tok 1),vi h]],[Ag n]]) (tk:=[s.length,0]) rfl rfl rfl rfl rfl rfl ?_;refine Af (τ':=[0,1]) [0] [0,1] ((Ju Wv).n b s h) ?_;refine Aj q0 ?_;refine Af (τ':=[0,1]) [0] [0,1] (e0 (by omega) b s ([Wv]) h (by simp<;>omega)) ?_;refine Aj q1 ?_;refine Af (τ':=[0,1,2]) [0] [0,1] (hk 1 b s ([Wv]++A5 (B6 n 0)) h d1 (B7 ((Bw (by simp))) w0) (by simp<;>omega) (by omega)) ?_;refine Aj q2 ?_;refine Ai (fun h2=>?_) (fun h2=>?_)
  ·have h2':(!(B6 n 2).kids.isEmpty)=true:=by
    have:=A6 h2;rw[Ae]at this;cases hh:(B6 n 2).kids with
    |nil=>rw[hh]at this;simp at this
    |cons y l=>rfl
   rw[if_pos h2']at hl⊢;rw[←Gv];refine Af (τ':=[0,2]) [0] [0,2] ((Ju I9).f (s++Ov (B6 n 1) ([Wv]++A5 (B6 n 0)) h) [[125]] h (by simp)) ?_;refine Aj q2 ?_;refine Af (τ':=[0,2,3]) [0] [0,2] ((hk 2).f (s++Ov (B6 n 1) ([Wv]++A5 (B6 n 0)) h) ([[125]]++[I9]) h d2 (B7 (Bw (by simp)) (Bw (by simp))) (by simp) (by simp only[F5];omega)) ?_;refine R8 0 0 2 (.sl (Eu [[125]]) .no) ?_;exact Ek func298 rfl rfl
  ·have h2':¬(!(B6 n 2).kids.isEmpty)=true:=by
    have:=Bd h2;rw[Ae]at this;cases hh:(B6 n 2).kids with
    |nil=>simp
    |cons y l=>rw[hh]at this;simp at this
   rw[if_neg h2',I4]at *;refine R8 0 0 2 (.sl (Eu [[125]]) .no) ?_;exact Ek func298 rfl rfl
 have h1':n.kind≠24:=by simpa using h1
 refine Ai (fun h2=>?_) (fun h2=>?_)
 ·have h2':n.kind=25:=by simpa using h2
  have hB:cpB n.kind b=false:=by unfold cpB;rw[if_neg h1',if_pos h2']
  have hW:cpW n.kind=[[125]]:=by unfold cpW;rw[if_neg h1',if_pos h2']
  have hP:cpP n.kind n.name (B8 n.kids) (J2 n.kids h) h=Ov (B6 n 1) ([G1]++A5 (B6 n 0)) h:=by
   unfold cpP;rw[if_neg h1',if_pos h2',Gi,Ahq];simp[Ov]
  rw[hB,hW];rw[hP]at hl⊢;refine E6 0 0 2 (bx:=[[[N7 312 0 b,.buf 5 s 0,.sl [] (.tok 1),vi h]],[Ag n]]) (tk:=[s.length,0]) rfl rfl rfl rfl rfl rfl ?_;refine Af (τ':=[0,1]) [0] [0,1] ((Ju G1).n b s h) ?_;refine Aj q0 ?_;refine Af (τ':=[0,1]) [0] [0,1] (e0 (by omega) b s ([G1]) h (by simp<;>omega)) ?_;refine Aj q1 ?_;refine Af (τ':=[0,1,2]) [0] [0,1] (hk 1 b s ([G1]++A5 (B6 n 0)) h d1 (B7 ((Bw (by simp))) w0) (by simp<;>omega) (by omega)) ?_;refine R8 0 0 2 (.sl (Eu [[125]]) .no) ?_;exact Ek func298 rfl rfl
 have h2':n.kind≠25:=by simpa using h2
 refine Ai (fun h3=>?_) (fun h3=>?_)
 ·have h3':n.kind=26:=by simpa using h3
  have hB:cpB n.kind b=false:=by unfold cpB;rw[if_neg h1',if_neg h2',if_pos h3']
  have hW:cpW n.kind=[[125]]:=by unfold cpW;rw[if_neg h1',if_neg h2',if_pos h3']
  have hP:cpP n.kind n.name (B8 n.kids) (J2 n.kids h) h=Ov (B6 n 2) ([Mr,n.name,J4]++A5 (B6 n 0)++[wTo]++A5 (B6 n 1)) h:=by
   unfold cpP;rw[if_neg h1',if_neg h2',if_pos h3',Gi,Gi,Ahq];simp[Ov]
  rw[hB,hW];rw[hP]at hl⊢;refine E6 0 0 2 (bx:=[[[N7 312 0 b,.buf 5 s 0,.sl [] (.tok 1),vi h]],[Ag n]]) (tk:=[s.length,0]) rfl rfl rfl rfl rfl rfl ?_;refine Af (τ':=[0,1]) [0] [0,1] ((A6t Mr n.name J4).n b s h) ?_;refine Aj q0 ?_;refine Af (τ':=[0,1]) [0] [0,1] (e0 (by omega) b s ([Mr,n.name,J4]) h (by simp<;>omega)) ?_;refine Af (τ':=[0,1]) [0] [0,1] (Ju wTo b s ([Mr,n.name,J4]++A5 (B6 n 0)) h (by simp<;>omega)) ?_;refine Aj q1 ?_;refine Af (τ':=[0,1]) [0] [0,1] (e1 (by omega) b s ([Mr,n.name,J4]++A5 (B6 n 0)++[wTo]) h (by simp<;>omega)) ?_;refine Aj q2 ?_;refine Af (τ':=[0,1,2]) [0] [0,1] (hk 2 b s ([Mr,n.name,J4]++A5 (B6 n 0)++[wTo]++A5 (B6 n 1)) h d2
   (B7 (B7 (B7 (Ff (by simp) (Ff (by omega) (Bw (by simp)))) w0) (Bw (by simp))) w1) (by simp<;>omega) (by omega)) ?_
  refine R8 0 0 2 (.sl (Eu [[125]]) .no) ?_;exact Ek func298 rfl rfl
 have h3':n.kind≠26:=by simpa using h3
 have hB:cpB n.kind b=b:=by unfold cpB;rw[if_neg h1',if_neg h2',if_neg h3']
 have hW:cpW n.kind=[]:=by unfold cpW;rw[if_neg h1',if_neg h2',if_neg h3']
 have hP:cpP n.kind n.name (B8 n.kids) (J2 n.kids h) h=[]:=by unfold cpP;rw[if_neg h1',if_neg h2',if_neg h3']
 rw[hB,hW,hP,I4];refine R8 0 0 2 (.sl (Eu []) .no) ?_;exact Ek func298 rfl rfl
set_option maxHeartbeats 2000000 in
theorem A2d(n:Nd)(hp:PrN n)(hsz:Al n≤1000)(hk:∀i,HBk (B6 n i)):HS n:=by
 intro b s h hd hl;have hkl:n.kids.length≤4000000000:=by have:=Bq n.kids;have:=Co n;omega
 have q0:=Ad9 n 0 (by omega) hkl;have q1:=Ad9 n 1 (by omega) hkl;have e0:=Ah9 (B6 n 0) (hp.kid 0);have e1:=Ah9 (B6 n 1) (hp.kid 1);have he:=Ahv n.kids;have hcn:=Co n;rw[Gi,Gi]at he;have kc:∀i,Al (B6 n i)≤1000:=fun i=>by
  rcases M8 n i with h|h
  ·have:=Fc h;omega
  ·rw[h];decide
 have c0:=kc 0;have c1:=kc 1;have hn:=hp.get;have hst:=Av4 n hp;have hO:Ig n h=if Ob n.kind then Ey (Wr n.kind n.name n.num (B8 n.kids)++[[59]]) h else cpP n.kind n.name (B8 n.kids) (J2 n.kids h) h++Ey (cpW n.kind) h:=by
  rw[Ao9];unfold Wz;split
  ·rfl
  ·rw[A17]
 refine Hands.run (n:=1) (m:=1) func266 ?_;refine Ai (fun h31=>?_) (fun h31=>?_)
 ·have h31':n.kind=31:=by simpa using h31
  have hT:Wr n.kind n.name n.num (B8 n.kids)=[N3,n.name]:=by unfold Wr;rw[if_pos h31']<;>rfl
  rw[if_pos (by simp[Ob,h31']),hT]at hO;rw[hT]at hst;rw[hO]at hl⊢;have hfl:=If ([N3,n.name]++[[59]]) h;have hwl:=Gw ([N3,n.name]++[[59]]) h (B7 hst (Bw (by simp)));refine E6 0 0 2 (bx:=[[[N7 312 0 b,.buf 5 s 0,.sl [] (.tok 1),vi h]],[Ag n]]) (tk:=[s.length,0]) rfl rfl rfl rfl rfl rfl ?_;refine Af (τ':=[0,1]) [0] [0,1] ((Arp N3 n.name).n b s h) ?_;refine Af (τ':=[0,1]) [0] [0,1] (Ju [59] b s ([N3,n.name]) h (by simp<;>omega)) ?_;refine Af (τ':=[0]) [0] [0] (Pk b s ([N3,n.name]++[[59]]) h (by omega) (by simp<;>omega) (by omega) (by omega) (Vh (B7 hst (Bw (by simp))))) ?_;exact Ek func266 rfl rfl
 have h31':n.kind≠31:=by simpa using h31
 refine Ai (fun h32=>?_) (fun h32=>?_)
 ·have h32':n.kind=32:=by simpa using h32
  refine Aj (Am4 n.num hn.2.1 hn.2.2.1) ?_;refine Ai (fun hm=>?_) (fun hm=>?_)
  ·have hm':n.num=-1:=by simpa using hm
   have hT:Wr n.kind n.name n.num (B8 n.kids)=[Fx,n.name,[91],[63],[93]]:=by unfold Wr;rw[if_neg h31',if_pos h32',if_pos hm']<;>rfl
   rw[if_pos (by simp[Ob,h32']),hT]at hO;rw[hT]at hst;rw[hO]at hl⊢;have hfl:=If ([Fx,n.name,[91],[63],[93]]++[[59]]) h;have hwl:=Gw ([Fx,n.name,[91],[63],[93]]++[[59]]) h (B7 hst (Bw (by simp)));refine E6 0 0 2 (bx:=[[[N7 312 0 b,.buf 5 s 0,.sl [] (.tok 1),vi h]],[Ag n]]) (tk:=[s.length,0]) rfl rfl rfl rfl rfl rfl ?_;refine Af (τ':=[0,1]) [0] [0,1] ((A5p Fx n.name [91] [63] [93]).n b s h) ?_;refine Af (τ':=[0,1]) [0] [0,1] (Ju [59] b s ([Fx,n.name,[91],[63],[93]]) h (by simp<;>omega)) ?_;refine Af (τ':=[0]) [0] [0] (Pk b s ([Fx,n.name,[91],[63],[93]]++[[59]]) h (by omega) (by simp<;>omega) (by omega) (by omega) (Vh (B7 hst (Bw (by simp))))) ?_;exact Ek func266 rfl rfl
  ·have hm':¬n.num=-1:=by simpa using hm
   have hT:Wr n.kind n.name n.num (B8 n.kids)=[Fx,n.name,[91],Lib.itoa n.num,[93]]:=by unfold Wr;rw[if_neg h31',if_pos h32',if_neg hm']<;>rfl
   rw[if_pos (by simp[Ob,h32']),hT]at hO;rw[hT]at hst;rw[hO]at hl⊢;have hfl:=If ([Fx,n.name,[91],Lib.itoa n.num,[93]]++[[59]]) h;have hwl:=Gw ([Fx,n.name,[91],Lib.itoa n.num,[93]]++[[59]]) h (B7 hst (Bw (by simp)));refine E6 0 0 2 (bx:=[[[N7 312 0 b,.buf 5 s 0,.sl [] (.tok 1),vi h]],[Ag n]]) (tk:=[s.length,0]) rfl rfl rfl rfl rfl rfl ?_;refine Af (τ':=[0,1]) [0] [0,1] ((A5p Fx n.name [91] (Lib.itoa n.num) [93]).n b s h) ?_;refine Af (τ':=[0,1]) [0] [0,1] (Ju [59] b s ([Fx,n.name,[91],Lib.itoa n.num,[93]]) h (by simp<;>omega)) ?_;refine Af (τ':=[0]) [0] [0] (Pk b s ([Fx,n.name,[91],Lib.itoa n.num,[93]]++[[59]]) h (by omega) (by simp<;>omega) (by omega) (by omega) (Vh (B7 hst (Bw (by simp))))) ?_;exact Ek func266 rfl rfl
 have h32':n.kind≠32:=by simpa using h32
 refine Ai (fun h21=>?_) (fun h21=>?_)
 ·have h21':n.kind=21:=by simpa using h21
  have hT:Wr n.kind n.name n.num (B8 n.kids)=[n.name,[61]]++A5 (B6 n 0):=by unfold Wr;rw[if_neg h31',if_neg h32',if_pos h21',Gi]<;>rfl
  rw[if_pos (by simp[Ob,h21']),hT]at hO;rw[hT]at hst;rw[hO]at hl⊢;have hfl:=If ([n.name,[61]]++A5 (B6 n 0)++[[59]]) h;have hwl:=Gw ([n.name,[61]]++A5 (B6 n 0)++[[59]]) h (B7 hst (Bw (by simp)));refine E6 0 0 2 (bx:=[[[N7 312 0 b,.buf 5 s 0,.sl [] (.tok 1),vi h]],[Ag n]]) (tk:=[s.length,0]) rfl rfl rfl rfl rfl rfl ?_;refine Af (τ':=[0,1]) [0] [0,1] ((Arp n.name [61]).n b s h) ?_;refine Aj q0 ?_;refine Af (τ':=[0,1]) [0] [0,1] (e0 (by omega) b s ([n.name,[61]]) h (by simp<;>omega)) ?_;refine Af (τ':=[0,1]) [0] [0,1] (Ju [59] b s ([n.name,[61]]++A5 (B6 n 0)) h (by simp<;>omega)) ?_;refine Af (τ':=[0]) [0] [0] (Pk b s ([n.name,[61]]++A5 (B6 n 0)++[[59]]) h (by omega) (by simp<;>omega) (by omega) (by omega) (Vh (B7 hst (Bw (by simp))))) ?_;exact Ek func266 rfl rfl
 have h21':n.kind≠21:=by simpa using h21
 refine Ai (fun h22=>?_) (fun h22=>?_)
 ·have h22':n.kind=22:=by simpa using h22
  have hT:Wr n.kind n.name n.num (B8 n.kids)=[n.name,[91]]++A5 (B6 n 0)++[[93],[61]]++A5 (B6 n 1):=by unfold Wr;rw[if_neg h31',if_neg h32',if_neg h21',if_pos h22',Gi,Gi]<;>rfl
  rw[if_pos (by simp[Ob,h22']),hT]at hO;rw[hT]at hst;rw[hO]at hl⊢;have hfl:=If ([n.name,[91]]++A5 (B6 n 0)++[[93],[61]]++A5 (B6 n 1)++[[59]]) h;have hwl:=Gw ([n.name,[91]]++A5 (B6 n 0)++[[93],[61]]++A5 (B6 n 1)++[[59]]) h (B7 hst (Bw (by simp)));refine E6 0 0 2 (bx:=[[[N7 312 0 b,.buf 5 s 0,.sl [] (.tok 1),vi h]],[Ag n]]) (tk:=[s.length,0]) rfl rfl rfl rfl rfl rfl ?_;refine Af (τ':=[0,1]) [0] [0,1] ((Arp n.name [91]).n b s h) ?_;refine Aj q0 ?_;refine Af (τ':=[0,1]) [0] [0,1] (e0 (by omega) b s ([n.name,[91]]) h (by simp<;>omega)) ?_;refine Af (τ':=[0,1]) [0] [0,1] (Arp [93] [61] b s ([n.name,[91]]++A5 (B6 n 0)) h (by simp<;>omega)) ?_;refine Aj q1 ?_;refine Af (τ':=[0,1]) [0] [0,1] (e1 (by omega) b s ([n.name,[91]]++A5 (B6 n 0)++[[93],[61]]) h (by simp<;>omega)) ?_;refine Af (τ':=[0,1]) [0] [0,1] (Ju [59] b s ([n.name,[91]]++A5 (B6 n 0)++[[93],[61]]++A5 (B6 n 1)) h (by simp<;>omega)) ?_;refine Af (τ':=[0]) [0] [0] (Pk b s ([n.name,[91]]++A5 (B6 n 0)++[[93],[61]]++A5 (B6 n 1)++[[59]]) h (by omega) (by simp<;>omega) (by omega) (by omega) (Vh (B7 hst (Bw (by simp))))) ?_;exact Ek func266 rfl rfl
 have h22':n.kind≠22:=by simpa using h22
 refine Ai (fun h23=>?_) (fun h23=>?_)
 ·have h23':n.kind=23:=by simpa using h23
  have hT:Wr n.kind n.name n.num (B8 n.kids)=[Ja,n.name]:=by unfold Wr;rw[if_neg h31',if_neg h32',if_neg h21',if_neg h22',if_pos h23']<;>rfl
  rw[if_pos (by simp[Ob,h23']),hT]at hO;rw[hT]at hst;rw[hO]at hl⊢;have hfl:=If ([Ja,n.name]++[[59]]) h;have hwl:=Gw ([Ja,n.name]++[[59]]) h (B7 hst (Bw (by simp)));refine E6 0 0 2 (bx:=[[[N7 312 0 b,.buf 5 s 0,.sl [] (.tok 1),vi h]],[Ag n]]) (tk:=[s.length,0]) rfl rfl rfl rfl rfl rfl ?_;refine Af (τ':=[0,1]) [0] [0,1] ((Arp Ja n.name).n b s h) ?_;refine Af (τ':=[0,1]) [0] [0,1] (Ju [59] b s ([Ja,n.name]) h (by simp<;>omega)) ?_;refine Af (τ':=[0]) [0] [0] (Pk b s ([Ja,n.name]++[[59]]) h (by omega) (by simp<;>omega) (by omega) (by omega) (Vh (B7 hst (Bw (by simp))))) ?_;exact Ek func266 rfl rfl
 have h23':n.kind≠23:=by simpa using h23
 refine Ai (fun h27=>?_) (fun h27=>?_)
 ·have h27':n.kind=27:=by simpa using h27
  have hT:Wr n.kind n.name n.num (B8 n.kids)=[Gl]++A5 (B6 n 0):=by unfold Wr;rw[if_neg h31',if_neg h32',if_neg h21',if_neg h22',if_neg h23',if_pos h27',Gi]<;>rfl
  rw[if_pos (by simp[Ob,h27']),hT]at hO;rw[hT]at hst;rw[hO]at hl⊢;have hfl:=If ([Gl]++A5 (B6 n 0)++[[59]]) h;have hwl:=Gw ([Gl]++A5 (B6 n 0)++[[59]]) h (B7 hst (Bw (by simp)));refine E6 0 0 2 (bx:=[[[N7 312 0 b,.buf 5 s 0,.sl [] (.tok 1),vi h]],[Ag n]]) (tk:=[s.length,0]) rfl rfl rfl rfl rfl rfl ?_;refine Af (τ':=[0,1]) [0] [0,1] ((Ju Gl).n b s h) ?_;refine Aj q0 ?_;refine Af (τ':=[0,1]) [0] [0,1] (e0 (by omega) b s ([Gl]) h (by simp<;>omega)) ?_;refine Af (τ':=[0,1]) [0] [0,1] (Ju [59] b s ([Gl]++A5 (B6 n 0)) h (by simp<;>omega)) ?_;refine Af (τ':=[0]) [0] [0] (Pk b s ([Gl]++A5 (B6 n 0)++[[59]]) h (by omega) (by simp<;>omega) (by omega) (by omega) (Vh (B7 hst (Bw (by simp))))) ?_;exact Ek func266 rfl rfl
 have h27':n.kind≠27:=by simpa using h27
 refine Ai (fun h28=>?_) (fun h28=>?_)
 ·have h28':n.kind=28:=by simpa using h28
  have hT:Wr n.kind n.name n.num (B8 n.kids)=[Jg]:=by unfold Wr;rw[if_neg h31',if_neg h32',if_neg h21',if_neg h22',if_neg h23',if_neg h27',if_pos h28']<;>rfl
  rw[if_pos (by simp[Ob,h28']),hT]at hO;rw[hT]at hst;rw[hO]at hl⊢;have hfl:=If ([Jg]++[[59]]) h;have hwl:=Gw ([Jg]++[[59]]) h (B7 hst (Bw (by simp)));refine E6 0 0 2 (bx:=[[[N7 312 0 b,.buf 5 s 0,.sl [] (.tok 1),vi h]],[Ag n]]) (tk:=[s.length,0]) rfl rfl rfl rfl rfl rfl ?_;refine Af (τ':=[0,1]) [0] [0,1] ((Ju Jg).n b s h) ?_;refine Af (τ':=[0,1]) [0] [0,1] (Ju [59] b s ([Jg]) h (by simp<;>omega)) ?_;refine Af (τ':=[0]) [0] [0] (Pk b s ([Jg]++[[59]]) h (by omega) (by simp<;>omega) (by omega) (by omega) (Vh (B7 hst (Bw (by simp))))) ?_;exact Ek func266 rfl rfl
 have h28':n.kind≠28:=by simpa using h28
 refine Ai (fun h29=>?_) (fun h29=>?_)
 ·have h29':n.kind=29:=by simpa using h29
  have hT:Wr n.kind n.name n.num (B8 n.kids)=[Jn]:=by unfold Wr;rw[if_neg h31',if_neg h32',if_neg h21',if_neg h22',if_neg h23',if_neg h27',if_neg h28']<;>rfl
  rw[if_pos (by simp[Ob,h29']),hT]at hO;rw[hT]at hst;rw[hO]at hl⊢;have hfl:=If ([Jn]++[[59]]) h;have hwl:=Gw ([Jn]++[[59]]) h (B7 hst (Bw (by simp)));refine E6 0 0 2 (bx:=[[[N7 312 0 b,.buf 5 s 0,.sl [] (.tok 1),vi h]],[Ag n]]) (tk:=[s.length,0]) rfl rfl rfl rfl rfl rfl ?_;refine Af (τ':=[0,1]) [0] [0,1] ((Ju Jn).n b s h) ?_;refine Af (τ':=[0,1]) [0] [0,1] (Ju [59] b s ([Jn]) h (by simp<;>omega)) ?_;refine Af (τ':=[0]) [0] [0] (Pk b s ([Jn]++[[59]]) h (by omega) (by simp<;>omega) (by omega) (by omega) (Vh (B7 hst (Bw (by simp))))) ?_;exact Ek func266 rfl rfl
 have h29':n.kind≠29:=by simpa using h29
 have hno:Ob n.kind=false:=by simp[Ob,h31',h32',h21',h22',h23',h27',h28',h29']
 rw[if_neg (by simp[hno])]at hO;rw[hO]at hl⊢;simp only[F5]at hl;have hfl:=If (cpW n.kind) h;have hww:okW (cpW n.kind)∧(cpW n.kind).length≤1:=by
  unfold cpW;repeat' split
  all_goals exact⟨fun w hw=>by simp at hw<;>(subst hw;simp),by simp⟩
 have hc:=Amo n hp hsz hk b s h hd (by omega);refine Af (hb:=A0t b s h) (τ':=[0]) [0] [0] hc ?_;rw[←Gv];refine Af (τ':=[0]) [0] [0] (Pk (cpB n.kind b) (s++cpP n.kind n.name (B8 n.kids) (J2 n.kids h) h) (cpW n.kind) h (by omega) (by omega) (by omega) (by simp only[F5];omega) (Vh hww.1)) ?_;exact Bz func266 rfl rfl
theorem Aqn:HBk Cm:=Aop Cm (fun y hy=>by cases hy) (by decide)
theorem Aor(n:Nd)(hp:PrN n)(hsz:Al n≤1000):HS n∧HBk n:=by
 induction n using Nd.ind with
 |h n ih=>
  have hcn:=Co n;have hk:∀i,HBk (B6 n i):=fun i=>by
   rcases M8 n i with h|h
   ·exact(ih _ h (hp.kid i) (by have:=Fc h;omega)).2
   ·rw[h];exact Aqn
  refine⟨A2d n hp hsz hk,Aop n (fun y hy=>(ih y hy (hp.get.2.2.2 y hy) (by have:=Fc hy;omega)).1) (by have:=Bq n.kids;omega)⟩
end Go.V
namespace Go.V
open Go
section
variable {X:Cx}{B:Bx}{E:Env}{S S':St}{w:World}{F:Cw}{a:Act}{N:Nat}{R:AE→St→Prop}{ops:Array Oper}{i:Nat}{o:Oper}{p q:Operand}
theorem Ado{sz:Nat}{c1 c2:Array Value}{r1 r2:A7}(h1:Sb E w sz c1 r1)(h2:Sb E w sz c2 r2):Sb E w sz (c1++c2) (r1++r2):=by
 obtain⟨s1,l1,e1⟩:=h1;obtain⟨s2,l2,e2⟩:=h2;refine⟨by simp[s1,s2,Rz],fun r hr=>(zzq26.1 hr).elim (l1 r) (l2 r),fun k r j x v hk hj hv=>?_⟩;rcases Ga k r1.length with h|h
 ·rw[Dd h]at hk;have hjs:j<sz:=by rw[←l1 r (Bn hk)];exact Aa hj
  have:=Jv h hjs;rw[Alm (by omega)]at hv;exact e1 k r j x v hk hj hv
 ·rw[Gz h]at hk;have hle:r1.length*sz≤k*sz:=Uf _ h;rw[Array.getElem?_append_right (by omega),s1]at hv;exact e2 (k-r1.length) r j x v hk hj (by rw[←hv];congr 1;rw[Nat.sub_mul];omega)
theorem Aqy{sz:Nat}{c:Array Value}{rows:A7}(h:Sb E w sz c rows){n:Nat}(hn:n≤rows.length):Sb E w sz (c.toList.take (n*sz)).toArray (rows.take n):=by
 obtain⟨s,l,e⟩:=h;have hle:n*sz≤rows.length*sz:=Uf _ hn;refine⟨by simp[s],fun r hr=>l r (Ag7 hr),fun k r j x v hk hj hv=>?_⟩;rw[Z0]at hk;split at hk
 ·refine e k r j x v hk hj ?_;rw[Vu,Z0]at hv;split at hv
  ·simpa using hv
  ·cases hv
 ·cases hk
theorem Aqx{sz:Nat}{c:Array Value}{rows:A7}(h:Sb E w sz c rows)(n:Nat):Sb E w sz (c.toList.drop (n*sz)).toArray (rows.drop n):=by
 obtain⟨s,l,e⟩:=h;refine⟨by simp[s,Nat.sub_mul],fun r hr=>l r (List.mem_of_mem_drop hr),fun k r j x v hk hj hv=>?_⟩;rw[R0]at hk;refine e (n+k) r j x v hk hj ?_;rw[Vu,R0]at hv;rw[Rz,Qi];simpa using hv
theorem Adp{t:Nat}{y:Ty}(hy:X.ty t=some y)(hne:y.size≠0)(n:Nat):∃z,(zeroValue t).run X.P w=.ok z w∧(∃ti,X.P.info? t=some ti∧ti.zero=some z∧ti.size=y.size)∧(∀v,v∈(Builtin.zeroCells z.cells n).toList→v.oneCell'=true∨True) ∧
 (Builtin.zeroCells z.cells n).size=n*y.size∧∀(E:Env)(w:World),Sb E w y.size (Builtin.zeroCells z.cells n) (List.replicate n y.zero):=by
 obtain⟨z,hz,hzc,hzl,ti,hi,hiz,his,hib⟩:=Ke hy w;have hzs:z.cells.size=y.size:=by rw[←hzl,←hzc];simp
 refine⟨z,hz,⟨ti,hi,hiz,his⟩,fun v _=>.inr trivial,by simp[Builtin.zeroCells,hzs],fun E w=>?_⟩;refine Wh hzc hzl _ (by simp[Builtin.zeroCells,hzs]) (fun i hi=>?_);have hm:i%y.size<z.cells.size:=by rw[hzs];exact Nat.mod_lt _ (Ali hne)
 have hr0:(Array.range (n*y.size))[i]?=some i:=by simp[hi]
 simp only[Builtin.zeroCells];rw[Array.getElem?_map,hzs,hr0];simp only[K4];rw[getElem!_pos z.cells (i%y.size) hm,Ag4 hm]
theorem Ac4{t:TypeId}{x:AV}{cs:An}(hc:cellsOf x=some cs:=by rfl)(ho:ops[i]?=some o:=by rfl)(hw:Bc ops F o=some true:=by rfl)(hop:o.op=.box t p:=by rfl)(hp:Dv X F p=some x:=by rfl):Ndo X N ops i o F (.cptr cs) S S:=by
 intro F' E w a hl hI hF;have hlo:=Hi hl;rw[hop]at hlo;have r1:=Am hI hF ((Dq (X:=X) (F:=F) (F':=F') (o:=p) fun s hs=>hlo s (by simp[Op.operands,hs])).trans hp);generalize hv:a.eval p=v at r1;obtain⟨h1,h2,_⟩:=H7 r1 hc;have ev:=Evol.push (E:=E) (w:=w) (w':=w.alloc (.cells v.cells t)) ⟨_,rfl⟩ rfl rfl rfl E.boxes.length E.toks.length;have hI':=hI.push (w':=w.alloc (.cells v.cells t)) ⟨_,rfl⟩ rfl rfl rfl;have hnew:(w.alloc (.cells v.cells t)).heap[w.heap.size]?=some (.cells v.cells t (0,0)):=by
  have:(w.alloc (.cells v.cells t)).heap=w.heap.push (.cells v.cells t (0,0)):=rfl;rw[this];simp
 refine Does.val ho (Cu hF (by rw[Dc hl];exact hw)) (v:=.pointer (some ⟨w.heap.size,0,none⟩)) (by simp[execOp,hop,Instr.box,hv,newVar,newRow]) (.inl rfl) ⟨E,hI',ev,?_⟩;refine .cptr cs w.heap.size 0 (fun j=>v.cells.getD j default) (fun j _=>Aj4 hI) (fun j hj=>?_) (fun j x hx=>?_)
 ·have:j<v.cells.size:=by omega
  rw[Kr];simp only[World.cell?,hnew];simp[this,Array.getD]
 ·have:j<v.cells.size:=by have:=Aa hx;omega
  exact(h2 j _ x (by simp[this,Array.getD]) hx).step ev
theorem Aca{l:List Nat}{k:List Item}{t t' e:TypeId}{rows:A7}{sp:Sp}(hd:X.P.underlying t=some (.slice e))(hk:∀c:Bool,(rows≠[]→c=false)→AK X B (.inRegion ops l::k) (putF o.dst (.val (.bool c)) F) S R)
 (ho:ops[i]?=some o:=by rfl)(hw:Bc ops F o=some true:=by rfl)(hop:o.op=.binOp .eql t p (.const (.slice none 0 0)) t':=by rfl)(hp:Dv X F p=some (.sl rows sp):=by rfl)(hdst:Eh B.fn.ntmps o.dst=true:=by rfl) :
 AK X B (.inRegion ops (i::l)::k) F S R:=by
 intro E w a b cs hI hF hn hm hb;have r1:=Am hI hF hp;generalize hv:a.eval p=v at r1;have hrun:∃c:Bool,(rows≠[]→c=false)∧(execOp a.eval o).run X.P w=.ok (.value (.bool c)) w:=by
  cases r1 with
  |sl _ _ a' n cap b' o' sz vals hn' hx ha hsz hm hc hr hs hcap=>
   refine⟨a'.isNone,fun hne=>?_,by simp[execOp,hop,hv,show a.eval (.const (.slice none 0 0))=.slice none 0 0 from rfl,eqGuard,binOp,run_equal_slice_nil w t e a' n cap hd]⟩;rw[ha (by rw[←hn'];exact fun h=>hne (zzq84.1 h))];rfl
 obtain⟨c,hc,hrun⟩:=hrun;have hdo:Does X ops i a w fun v w'=>∃E',Inv X E' S w'∧Evol E w E' w' E.boxes.length E.toks.length∧Rel E' w' v (.val (.bool c)):=
  Does.val ho (Cu hF hw) hrun (.inl rfl) ⟨E,hI,Evol.refl _ _ _ _,.val _⟩
 have nt:E.toks.length=S.toks.length:=by rw[←hI.nt];simp
 obtain⟨v',w',⟨E',h1,h2,h3⟩,h4⟩:=hdo b k cs l;have hF':=(hF.step h2).putF hdst h3;have h4':=h4;rw[ho]at h4';exact Fin.from h4' (h2.weaken (by rw[hI.nb];exact hn) (by omega)) (hk c hc E' w' _ b cs h1 hF' hn hm hb)
theorem Qs{l:List Nat}{k:List Item}{c:Call}{tt tx e e':Nat}{y yx ye:Ty}{new:A7}{sp:Sp}(hk:∀cc:Nat,AK X B (.inRegion ops l::k) (putF o.dst (.bsl S.boxes.length new.length) F) ⟨S.boxes++[new++List.replicate cc ye.zero],S.toks⟩ R)
 (hl':∀r,r∈new→r.length=ye.size)(hc:∀r,r∈new→∀x,x∈r→Jj x=true)(hne:new≠[])(hb:new.length≤100000000000)
 (ho:ops[i]?=some o:=by rfl)(hw:Bc ops F o=some true:=by rfl)(hop:o.op=.call c:=by rfl)(hcal:c.callee=.builtin .append:=by rfl)(hargs:c.args.toList=[p,q]:=by rfl)(htys:c.argTypes.toList=[tt,tx]:=by rfl)
 (hp:Dv X F p=some (.sl [] .tight):=by rfl)(hq:Dv X F q=some (.sl new sp):=by rfl)(hy:X.ty tt=some y:=by rfl)(hyk:y.k=.slc e:=by rfl)(hye:X.ty e=some ye:=by rfl)(hyx:X.ty tx=some yx:=by rfl)(hyxk:yx.k=.slc e':=by rfl)
 (hdst:Eh B.fn.ntmps o.dst=true:=by rfl):AK X B (.inRegion ops (i::l)::k) F S R:=by
 intro E w a b cs hI hF hn hm hb';obtain⟨callee,args,argTypes⟩:=c;simp only at hcal hargs htys;subst hcal;have ha:args=#[p,q]:=by rw[←Vv];exact hargs
 have ht:argTypes=#[tt,tx]:=by rw[←Vv];exact htys
 subst ha;subst ht;have r1:=Am hI hF hp;have r2:=Am hI hF hq;obtain⟨d1,hd1,hk1⟩:=(X.ty_ok tt y hy).agg;simp only[hyk]at hk1;obtain⟨rfl,ye',hye',hne0⟩:=hk1;rw[hye]at hye';cases hye';obtain⟨d2,hd2,hk2⟩:=(X.ty_ok tx yx hyx).agg;simp only[hyxk]at hk2;obtain⟨rfl,_⟩:=hk2;obtain⟨ti,z,hi,hsz,hby,hzv,hzc,hzl,_⟩:=(X.ty_ok e ye hye).info;have hnew:0<new.length:=zzq45.2 hne;obtain⟨vals2,hsrc,hr2⟩:=Ano hd2 r2 hl' hc hne;rw[←hsz]at hsrc;generalize hu:a.eval p=u at r1;generalize hv:a.eval q=v at hsrc;have key:∃cc w',(Builtin.append_ #[tt,tx] o.type #[u,v]).run X.P w=.ok (.slice (some ⟨w.heap.size,0,none⟩) new.length cc) w'∧new.length≤cc ∧
  w'.heap=w.heap.push (.cells ((Et new.length ti.size vals2).toArray++Builtin.zeroCells z.cells (cc-new.length)) e (0,0))∧w'.os=w.os∧w'.tape=w.tape∧w'.output=w.output:=by
  cases r1 with
  |sl _ _ a' n cap bb oo sz vals hn' hx ha hszr hm hcl hr hs hcap=>
   have hn0:n=0:=by simpa using hn'.symm
   subst hn0;have hcap0:cap=0:=hs;subst hcap0;have hold:(Builtin.firstCells ti.size 0 (.slice a' 0 0)).run X.P w.drew=.ok ([]:List Value).toArray w.drew:=by
    cases a' with
    |none=>exact run_firstCells_none _ _ _ _ _
    |some a0=>exact run_firstCells_some _ _ _ _ _ _ _ (by simp) (fun j v hj=>by simp at hj)
   have hby':(0+new.length)*ti.bytes≤140737488355328:=Vt (Nat.mul_le_mul_left _ hby) (by omega);have hrun:=run_append_grow_src w tt tx o.type e ti z hd1 hi hzv a' 0 0 [] hold v new.length _ hsrc (by omega) (by omega) (growslice_fits (by omega) hby');have hcc:=grownCap_ge w (0+new.length) 0 e;simp only[Kr,T8]at hrun hcc;exact⟨_,_,hrun,hcc,rfl,rfl,rfl,rfl⟩
 obtain⟨cc,w',hrun,hcc,hheap,hos,htp,hout⟩:=key;obtain⟨z',hz',⟨ti',hi',hiz',his'⟩,_,hzz,hgz⟩:=Adp (X:=X) (w:=w) hye hne0 (cc-new.length);rw[hi]at hi';cases hi';rw[hzv]at hiz';cases hiz';have hg1:Sb E w ye.size (Et new.length ti.size vals2).toArray new:=by
  refine⟨by simp[Ew,hsz],hl',fun kk r j x v' hkk hj hv'=>?_⟩;have h1:=Aa hkk;have h2:j<ye.size:=by rw[←hl' r (Bn hkk)];exact Aa hj
  rw[Vu,hsz,Ll h1 h2]at hv';cases hv';exact hr2 kk j r x hkk hj
 have hg:=Ado hg1 (hgz E w);obtain⟨ev,hI'⟩:=hI.newBox (w':=w') hheap hos htp hout hg.1 hg.2.1 hg.2.2;have hnb:E.boxes.length=S.boxes.length:=hI.nb;have hrel:Rel (E.addBox w.heap.size ye.size) w' (.slice (some ⟨w.heap.size,0,none⟩) new.length cc) (.bsl S.boxes.length new.length):=
  .bsl _ _ ye.size _ _ (by rw[←hnb];exact getElem?_snoc_new _ _) hcc
 have hdo:Does X ops i a w fun v w'=>∃E',Inv X E' ⟨S.boxes++[new++List.replicate (cc-new.length) ye.zero],S.toks⟩ w'∧Evol E w E' w' E.boxes.length E.toks.length∧Rel E' w' v (.bsl S.boxes.length new.length):=
  Does.val ho (Cu hF hw) (by simp[execOp,hop,resolve,invoke,builtin,hu,hv,hrun]) (.inl rfl) ⟨_,hI',ev,hrel⟩
 have nt:E.toks.length=S.toks.length:=by rw[←hI.nt];simp
 obtain⟨v',w2,⟨E',h1,h2,h3⟩,h4⟩:=hdo b k cs l;have hF':=(hF.step h2).putF hdst h3;have h4':=h4;rw[ho]at h4';exact Fin.from h4' (h2.weaken (by rw[hI.nb];exact hn) (by omega)) (hk (cc-new.length) E' w2 _ b cs h1 hF' (by simp;omega) hm hb')
theorem Aqa{t e b n:Nat}{hi:Option Operand}{h:Int}{y ye:Ty}(h0:0≤h)(h2:h≤(n:Int))(ho:ops[i]?=some o:=by rfl)(hw:Bc ops F o=some true:=by rfl)(hop:o.op=.slice t p none hi none:=by rfl)(hp:Dv X F p=some (.bsl b n):=by rfl)
 (hhi:T9 X F hi (n:Int)=some h:=by rfl)(hy:X.ty t=some y:=by rfl)(hyk:y.k=.slc e:=by rfl)(hye:X.ty e=some ye:=by rfl):Ndo X N ops i o F (.bsl b h.toNat) S S:=by
 refine Dp ho hw fun F' E w a hc hI hF=>?_;rw[hop]at hc;have r1:=Am hI hF ((hc p (by simp[Op.operands])).trans hp);have b2:=Yr hI hF (show T9 X F' hi (n:Int)=some h by rw[Q0 fun x hx=>hc x (by subst hx;simp[Op.operands])];exact hhi);obtain⟨d,hdd,hd2⟩:=(X.ty_ok t y hy).agg;simp only[hyk]at hd2;obtain⟨rfl,ye',hye',hne0⟩:=hd2;rw[hye]at hye';cases hye';generalize hu:a.eval p=u at r1;cases r1 with
 |bsl _ blk sz _ cap hB hcap=>
  have hb:=K8 (X:=X) (isS:=true) (len:=n) (cap:=cap) (lo:=none) (hi:=hi.map a.eval) (l:=0) (h:=h) (.inl ⟨rfl,rfl⟩)
   (by rcases b2 with⟨rfl,rfl⟩|⟨x,k,rfl,hx⟩
       ·exact .inl ⟨rfl,rfl⟩
       ·exact .inr ⟨k,by simp[hx]⟩) (Int.le_refl 0) h0 h2 hcap w
  refine⟨.slice (some ⟨blk,0,none⟩) h.toNat cap,?_,.bsl b blk sz h.toNat cap hB (by omega)⟩;simp[execOp,hop,hu,Instr.sliceAt,Instr.slice,run_underlying hdd,hb,Dx hye,Gq]
theorem Aqe{t e b n:Nat}{lo:Operand}{ik:IntKind}{l:Nat}{y ye:Ty}(h2:l<n)(ho:ops[i]?=some o:=by rfl)(hw:Bc ops F o=some true:=by rfl)(hop:o.op=.slice t p (some lo) none none:=by rfl)(hp:Dv X F p=some (.bsl b n):=by rfl)
 (hlo:Dv X F lo=some (.val (.int ik l)):=by rfl)(hy:X.ty t=some y:=by rfl)(hyk:y.k=.slc e:=by rfl)(hye:X.ty e=some ye:=by rfl){rows:A7}(hS:S.boxes[b]?=some rows)(hrl:∀r,r∈rows→r.length=ye.size)(hne:rows≠[]):Ndo X N ops i o F (.bst b l (n-l)) S S:=by
 refine Dp ho hw fun F' E w a hc hI hF=>?_;rw[hop]at hc;have r1:=Am hI hF ((hc p (by simp[Op.operands])).trans hp);have r2:=Am hI hF ((hc lo (by simp[Op.operands])).trans hlo);obtain⟨d,hdd,hd2⟩:=(X.ty_ok t y hy).agg;simp only[hyk]at hd2;obtain⟨rfl,ye',hye',hne0⟩:=hd2;rw[hye]at hye';cases hye';generalize hu:a.eval p=u at r1;generalize hv:a.eval lo=v at r2;cases r2;cases r1 with
 |bsl _ blk sz _ cap hB hcap=>
  obtain⟨arr,te,hh,hs,hlen,hrel⟩:=hI.box b blk sz rows hB hS;have hsz:sz=ye.size:=by
   cases rows with
   |nil=>exact absurd rfl hne
   |cons r rs=>rw[←hlen r (by simp),hrl r (by simp)]
  subst hsz;have hb:=K8 (X:=X) (isS:=true) (len:=n) (cap:=cap) (lo:=some (.int ik l)) (hi:=none) (l:=(l:Int)) (h:=(n:Int)) (.inr ⟨ik,rfl⟩) (.inl ⟨rfl,rfl⟩) (by omega) (by omega) (Int.le_refl _) hcap w;simp only[I3]at hb;refine⟨.slice (some ⟨blk,l*ye.size,none⟩) (n-l) (cap-l),?_,.bst b blk ye.size l (n-l) (cap-l) hB⟩;have hcl:¬cap=l:=by omega
  simp[execOp,hop,hu,hv,Instr.sliceAt,Instr.slice,run_underlying hdd,hb,Dx hye,Gq,hcl]
theorem Al0{c:Call}{tt e b s n:Nat}{y ye:Ty}{rows:A7}{bx:B3}(hn:0<n)(hS:S.boxes[b]?=some rows)(hin:s+n≤rows.length)(hrl:∀r,r∈rows→r.length=ye.size)
 (hbx:S.boxes.set b (rows.take s++(List.replicate n ye.zero++rows.drop (s+n)))=bx)(hz1:∀x,x∈ye.zero→Jj x=true)(ho:ops[i]?=some o:=by rfl)(hw:Bc ops F o=some true:=by rfl)(hop:o.op=.call c:=by rfl)(hcal:c.callee=.builtin .clear:=by rfl)(hargs:c.args=#[p]:=by rfl)
 (htys:c.argTypes=#[tt]:=by rfl)(hp:Dv X F p=some (.bst b s n):=by rfl)(hy:X.ty tt=some y:=by rfl)(hyk:y.k=.slc e:=by rfl)(hye:X.ty e=some ye:=by rfl):Ndo X N ops i o F (.val (.tuple #[])) S ⟨bx,S.toks⟩:=by
 subst hbx;intro F' E w a hlk hI hF;obtain⟨callee,args,argTypes⟩:=c;simp only at hcal hargs htys;subst hcal;subst hargs;subst htys;have hlo:=Hi hlk;rw[hop]at hlo;have r1:=Am hI hF ((Dq (X:=X) (F:=F) (F':=F') (o:=p) fun s hs=>hlo s (by simp[Op.operands,Call.operands,hs])).trans hp);obtain⟨d1,hd1,hk1⟩:=(X.ty_ok tt y hy).agg;simp only[hyk]at hk1;obtain⟨rfl,ye',hye',hne0⟩:=hk1;rw[hye]at hye';cases hye';generalize hu:a.eval p=u at r1;cases r1 with
 |bst _ blk sz _ _ cap hB=>
  obtain⟨arr,te,hh,hs,hlen,hrel⟩:=hI.box b blk sz rows hB hS;obtain⟨r0,hr0⟩:=Ab rows (i:=0) (by omega);have hsz:sz=ye.size:=by rw[←hlen r0 (Bn hr0),hrl r0 (Bn hr0)]
  subst hsz;obtain⟨z,hz,_,_,hzz,hgz⟩:=Adp (X:=X) (w:=w) hye hne0 n;have hg:Sb E w ye.size arr rows:=⟨hs,hlen,hrel⟩
  have hg2:=Ado (Aqy hg (n:=s) (by omega)) (Ado (hgz E w) (Aqx hg (s+n)));have hfit:s*ye.size+(Builtin.zeroCells z.cells n).toList.length≤arr.size:=by
   rw[Array.length_toList,hzz,←Rz,hs];exact Uf _ hin
  have hone:∀v,v∈(Builtin.zeroCells z.cells n).toList→v.oneCell'=true:=fun v hv=>by
   obtain⟨q,hq⟩:=B9 hv;have hq':(Builtin.zeroCells z.cells n)[q]?=some v:=by simpa using hq
   have hlt:q<n*ye.size:=by have:=Aa hq;rw[Array.length_toList,hzz]at this;exact this
   have hpos:0<ye.size:=Ali hne0;have hk:q/ye.size<n:=Nat.div_lt_of_lt_mul (by rw[Nat.mul_comm];exact hlt);have hzl:=hg2.2.1 ye.zero (Ab5 _ (List.mem_append_left _ (List.mem_replicate.2 ⟨by omega,rfl⟩)));obtain⟨x,hx⟩:=Ab ye.zero (i:=q%ye.size) (by rw[hzl];exact Nat.mod_lt _ hpos);have:=(hgz E w).2.2 (q/ye.size) ye.zero (q%ye.size) x v (by simp[hk]) hx (by rw[Nat.mul_comm,Nat.div_add_mod];exact hq');exact Mn this (hz1 x (Bn hx))
  have hst:=run_storeCells_at X.P blk (s*ye.size) te (Builtin.zeroCells z.cells n).toList 0 arr w hh (by simpa using hfit) hone;simp only[Rx]at hst;have hnn:¬n=0:=by omega
  have hrun:(Builtin.clear_ #[tt] o.type #[.slice (some ⟨blk,s*ye.size,none⟩) n cap]).run X.P w=.ok (.tuple #[]) (w.setRow blk (arr.toList.take (s*ye.size)++(Builtin.zeroCells z.cells n).toList++arr.toList.drop (s*ye.size+(Builtin.zeroCells z.cells n).toList.length)).toArray):=by
   obtain⟨m,rfl⟩:∃m,n=m+1:=⟨n-1,by omega⟩
   simp[Builtin.clear_,run_underlying hd1,hz,hst]
  have harr:(arr.toList.take (s*ye.size)++(Builtin.zeroCells z.cells n).toList++arr.toList.drop (s*ye.size+(Builtin.zeroCells z.cells n).toList.length)).toArray =
   (arr.toList.take (s*ye.size)).toArray++(Builtin.zeroCells z.cells n++(arr.toList.drop ((s+n)*ye.size)).toArray):=by
   rw[←Vv];simp only[Ag8,Gv];rw[Array.length_toList,hzz,←Rz]
  rw[harr]at hrun;obtain⟨ev,hI'⟩:=hI.setBox hB hS hh rfl hg2.1 hg2.2.1 hg2.2.2;exact Does.val ho (Cu hF (by rw[Dc hlk];exact hw)) (by simp[execOp,hop,resolve,invoke,builtin,hu,hrun]) (.inl rfl) ⟨E,hI',ev,.val _⟩
theorem Aku{R:Type}:∀(l xs:An)(k:An→Option R),l.length=xs.length→W2 l 0 xs k=k xs
 |[],[],k,_=>by simp[W2]
 |a::l,x::xs,k,h=>by simp only[W2];exact Aku l xs _ (by simpa using h)
 |[],_::_,k,h=>by simp at h
 |_::_,[],k,h=>by simp at h
theorem Tt{α R:Type}:∀(l:List α)(n:Nat)(x:α)(k:List α→Option R),n<l.length→Ya l n x k=k (l.set n x)
 |a::l,0,x,k,_=>by simp[Ya]
 |a::l,n+1,x,k,h=>by simp only[Ya];rw[Tt l n x _ (by simpa using h)];rfl
 |[],n,x,k,h=>by simp at h
theorem Yd{b r sz:Nat}{x:AV}{xs cs:An}{rows:A7}(hb:S.boxes[b]?=some rows)(hr:rows[r]?=some cs)(hc:cellsOf x=some xs)(hl:xs.length=sz)(hl':cs.length=sz) :
 Vp S sz (.ptr b r 0) x=some ⟨S.boxes.set b (rows.set r xs),S.toks⟩:=by
 obtain⟨bx,tk⟩:=S;simp only at hb;simp only[Vp,hc];rw[show Nat.beq xs.length sz=true by rw[hl];exact Nat.beq_refl sz];simp only[I5,hb,hr];rw[Aku _ _ _ (by omega),Tt _ _ _ _ (Aa hr),Tt _ _ _ _ (Aa hb)]
theorem Agt{R:Type}:∀(l:An)(k:An→Option R),Ol l.length l k=k l
 |[],k=>by simp[Ol]
 |a::l,k=>by simp only[N6,Ol];rw[Agt l]
theorem Aq6{b r sz:Nat}{g:Bool}{cs:An}{rows:A7}(hb:S.boxes[b]?=some rows)(hr:rows[r]?=some cs)(hl:cs.length=sz):Xb S sz g (.ptr b r 0)=Xs g cs:=by
 subst hl;simp only[Xb,I5,hb,hr,P7];rw[Agt]
theorem Qy{t b r:Nat}{y:Ty}{cs:An}{rows:A7}{x:AV}(hb:S.boxes[b]?=some rows)(hr:rows[r]?=some cs)(hl:cs.length=y.size)(ho:ops[i]?=some o:=by rfl)(hw:Bc ops F o=some true:=by rfl)(hop:o.op=.load t p:=by rfl)
 (hp:Dv X F p=some (.ptr b r 0):=by rfl)(hy:X.ty t=some y:=by rfl)(hx:Xs (G9 y.k) cs=some x:=by rfl):Ndo X N ops i o F x S S:=by
 refine Cy ho hw ?_;rw[hop];simp only[Es,T5,hy,hp];rw[Aq6 hb hr hl];exact hx
end
end Go.V
namespace Go.V
open Go Go.Proofs Go.Proofs.Tryz
def Ky(p:Nd→Bool):Nat→List Nd→Int
 |_,[]=>-1
 |i,x::l=>if p x then i else Ky p (i+1) l
theorem Y7(p:Nd→Bool):∀(l:List Nd)(i:Nat),decide (Ky p i l≥0)=l.any p
 |[],i=>by simp[Ky]
 |x::l,i=>by
  have hb:(x::l).any p=(p x||l.any p):=rfl;rw[hb,←Y7 p l (i+1)];by_cases h:p x=true
  ·simp[Ky,h]
  ·have h':p x=false:=by simpa using h
   have:Ky p i (x::l)=Ky p (i+1) l:=by simp only[Ky];rw[if_neg h]
   rw[this,h'];rfl
theorem Ad8(l:List Nd)(f:FuncId)(caps:An)(p:Nd→Bool)(hl:l.length≤1000000000) [hok:OKL 0 0 caps](hp:∀x,x∈l→Pure X f (nd x::caps) (vb (p x)))(hcat:∀xs,Jt xs caps=some (xs++caps)) :
 Pure X 225 [.sl (Av l) .no,.fn f caps] (vi (Ky p 0 l)):=by
 refine Pure.run func225 ?_;refine Ar (ι:=Nat) 0 0 (fun i=>i≤l.length∧Ky p 0 l=Ky p i (l.drop i)) (fun i=>[(8,vi i),(7,vi l.length),(0,.sl (Av l) .no),(1,.fn f caps)]) (fun _=>⟨[],[]⟩) (fun i=>l.length-i) ?_ 0 ⟨Cb _,rfl⟩
  ⟨rfl,by rw[←Ae];rfl,rfl,rfl,trivial⟩
 intro i hi IH;refine Cp (fun h=>?_) (fun h=>?_)
 ·have hlt:i<l.length:=by have:=A6 h;omega
  obtain⟨x,hx⟩:=Ab l hlt;have hd:Ky p i (l.drop i)=if p x then(i:Int)else Ky p (i+1) (l.drop (i+1)):=by rw[Bp hx];rfl
  refine Bv i (by omega) (Ap hx) ?_;refine Aj (hp x (Bn hx)) ?_ (hzs:=hcat _);refine Ai (fun h2=>?_) (fun h2=>?_)
  ·refine Az func225 ?_;have h3:p x=true:=h2;rw[hi.2,hd,h3];rfl
  ·have h3:p x=false:=h2;exact IH (i+1) ⟨hlt,by rw[hi.2,hd,h3];rfl⟩ (by omega) _ _ ⟨vsx (by omega),rfl,rfl,rfl,trivial⟩ rfl rfl rfl
 ·have:i=l.length:=by have:=Bd h;omega
  refine Az func225 ?_;rw[hi.2,this,Hr];rfl
theorem Vm(l:List Nd)(f:FuncId)(caps:An)(p:Nd→Bool)(hl:l.length≤1000000000) [hok:OKL 0 0 caps](hp:∀x,x∈l→Pure X f (nd x::caps) (vb (p x)))(hcat:∀xs,Jt xs caps=some (xs++caps)) :
 Pure X 164 [.sl (Av l) .no,.fn f caps] (vb (l.any p)):=by
 refine Pure.run func164 ?_;refine Aj (Ad8 l f caps p hl hp hcat) ?_;refine Az func164 ?_;rw[←Y7 p l 0];rfl
theorem A11(xs:An):Jt xs []=some (xs++[]):=by simp[Jt]
theorem Atm(x:AV)(xs:An):Jt xs [x]=some (xs++[x]):=by simp[Jt,Ahr]
theorem Akd(n:Nd):longN n=(decide (8<n.name.length)||n.kids.any longN):=by
 have:∀l:List Nd,longL l=l.any longN:=by
  intro l
  induction l with
  |nil=>rfl
  |cons x l ih=>simp[longL,ih]
 cases n;rw[longN,this];rfl
theorem A3e(n:Nd)(hn:Al n≤1000000000):Pure X 265 [nd n] (vb (longN n)):=by
 induction n using Nd.ind with
 |h n ih=>
  have hc:=Co n;have hll:=Bq n.kids;have hq:=Vm n.kids 265 [] longN (by omega) (fun x hx=>ih x hx (by have:=Fc hx;omega)) A11;rw[Akd];refine Pure.run func265 ?_;refine Db (fun h=>?_) (fun h=>?_)
  ·have h':8<n.name.length:=by have:=A6 h;rw[Gj]at this;omega
   refine Ao func265 ?_;rw[Ry h'];rfl
  ·have h':¬8<n.name.length:=by have:=Bd h;rw[Gj]at this;omega
   refine Aj hq ?_;refine Ao func265 ?_;rw[Ks h'];rfl
noncomputable def Abv(a b:List Nd):Bool:=@decide (a=b) (Classical.propDecidable _)
theorem Wq{a b:List Nd}:Abv a b=true↔a=b:=by unfold Abv;exact @decide_eq_true_iff _ (Classical.propDecidable _)
theorem Av0(a b:Nd):Vo a b=((a.kind==b.kind)&&((a.name==b.name)&&((a.num==b.num)&&Abv a.kids b.kids))):=by
 rw[Bool.eq_iff_iff];simp only[Rn,Du,zzq34,Wq];cases a;cases b;simp
theorem Avi(a b:List Nd)(ha:a.length≤1000000000)(hb:b.length≤1000000000)(h:∀x,x∈a→∀y,y∈b→Pure X 180 [nd x,nd y] (vb (Vo x y))) :
 Pure X 239 [.sl (Av a) .no,.sl (Av b) .no,.fn 180 []] (vb (Abv a b)):=by
 refine Pure.run func239 ?_;refine Ai (fun h1=>?_) (fun h1=>?_)
 ·have h1':a.length≠b.length:=by
   rw[Ae,Ae]at h1;simp at h1;omega
  refine Ao func239 ?_;have:Abv a b=false:=by
   cases h:Abv a b with
   |false=>rfl
   |true=>rw[Wq.1 h]at h1';exact absurd rfl h1'
  rw[this]
 have h1':a.length=b.length:=by
  rw[Ae,Ae]at h1;simp at h1;omega
 refine Ar (ι:=Nat) 0 0 (fun i=>i≤a.length∧a.take i=b.take i) (fun i=>[(17,vi i),(16,vi a.length),(15,.sl (Av a) .no),(0,.sl (Av a) .no),(1,.sl (Av b) .no),(2,.fn 180 [])]) (fun _=>⟨[],[]⟩) (fun i=>a.length-i) ?_ 0
  ⟨Cb _,by simp⟩ ⟨rfl,by rw[←Ae];rfl,rfl,rfl,rfl,rfl,trivial⟩
 intro i hi IH;refine Cp (fun h2=>?_) (fun h2=>?_)
 ·have hlt:i<a.length:=by have:=A6 h2;omega
  obtain⟨x,hx⟩:=Ab a hlt;obtain⟨y,hy⟩:=Ab b (i:=i) (by omega);refine Bv i (by omega) (Ap hx) ?_;refine Bv i (by omega) (Ap hy) ?_;refine Aj (h x (Bn hx) y (Bn hy)) ?_;refine Ai (fun h3=>?_) (fun h3=>?_)
  ·have h3':Vo x y=false:=by have:(!Vo x y)=true:=h3;simpa using this
   refine Ao func239 ?_;have:Abv a b=false:=by
    cases h:Abv a b with
    |false=>rfl
    |true=>
     have:=Wq.1 h;subst this;rw[hx]at hy;cases hy;rw[Rn.2 rfl]at h3';cases h3'
   rw[this]
  ·have h3':Vo x y=true:=by have:(!Vo x y)=false:=h3;simpa using this
   have:=Rn.1 h3';subst this;exact IH (i+1) ⟨hlt,by rw[Hq,Hq,hi.2,hx,hy]⟩ (by omega) _ _ ⟨vsx (by omega),rfl,rfl,rfl,rfl,rfl,trivial⟩ rfl rfl rfl
 ·have hie:i=a.length:=by have:=Bd h2;omega
  have he:=hi.2;rw[hie]at he;rw[Jh,h1',Jh]at he;refine Ao func239 ?_;rw[Wq.2 he]
theorem A3g(a b:Nd)(ha:Al a≤1000000000)(hb:Al b≤1000000000):Pure X 180 [nd a,nd b] (vb (Vo a b)):=by
 induction a using Nd.ind generalizing b with
 |h a ih=>
  have hca:=Co a;have hcb:=Co b;have hla:=Bq a.kids;have hlb:=Bq b.kids;have hq:=Avi a.kids b.kids (by omega) (by omega) fun x hx y hy=>ih x hx y (by have:=Fc hx;omega) (by have:=Fc hy;omega);rw[Av0];refine Pure.run func180 ?_;refine Db (fun h1=>?_) (fun h1=>?_)
  ·have h1':(a.kind==b.kind)=true:=h1;rw[h1',N5];refine Db (fun h2=>?_) (fun h2=>?_)
   ·have h2':(a.name==b.name)=true:=h2;rw[h2',N5];refine Db (fun h3=>?_) (fun h3=>?_)
    ·have h3':(a.num==b.num)=true:=h3;rw[h3',N5];refine Aj hq ?_;exact Ao func180 rfl
    ·have h3':(a.num==b.num)=false:=h3;rw[h3'];exact Ao func180 rfl
   ·have h2':(a.name==b.name)=false:=h2;rw[h2'];refine Gm ?_;exact Ao func180 rfl
  ·have h1':(a.kind==b.kind)=false:=h1;rw[h1'];refine Gm ?_;refine Gm ?_;exact Ao func180 rfl
theorem Ama(b:Bool)(s:Ad)(h:Int):RinB [1] [0] [[bN (N7 312 1 b) s h]] [[bN (N7 312 0 b) s h]]:=
 have h1:RinC [1] [0] (N7 312 1 b) (N7 312 0 b):=inferInstance;have h2:RinC [1] [0] (.buf 5 s 0) (.buf 5 s 0):=inferInstance;have h3:Ren true [1] [0] (.sl [] .tight) (.sl [] .tight):=Z9 .nil (.inr (.inr (.inr (.inl ⟨rfl,rfl⟩))));have h4:RinC [1] [0] (vi h) (vi h):=inferInstance
 ⟨.cons (.cons (.cons h1.s (.cons h2.s (.cons h3 (.cons h4.s .nil)))) .nil) .nil⟩
theorem Ark{s:Ad}(h:(Fp s).2.1=0):(Fp s).2.2=0:=by
 unfold Fp at h⊢;split at h
 ·rename_i h0;rw[if_pos h0];split at h
  ·simp at h
  ·rename_i hb;rw[if_neg hb];split at h
   ·simp at h
   ·rename_i hl;rw[if_neg hl]
 ·rename_i h0;exact absurd h h0
theorem Ais(s:Ad):Al (Fp s).1≤500:=by
 unfold Fp;split
 ·split
  ·show Al Cm≤500;decide
  ·split
   ·show Al Cm≤500;decide
   ·rename_i h;simp only;omega
 ·show Al Cm≤500;decide
inductive PrI:Nd→Prop where
 |mk (k:Int) (s:List UInt8) (m:Int) (ks:List Nd) (h0:-9223372036854775808≤m) (h1:m≤9223372036854775807) (hk:∀x,x∈ks→PrI x):PrI (.mk k s m ks)
theorem PrI.short{n:Nd}(h:PrI n)(hl:longN n=false):PrN n:=by
 induction h with
 |mk k s m ks h0 h1 hk ih=>
  rw[Akd,T6]at hl;obtain⟨h2,h3⟩:=hl;simp only[List.any_eq_false]at h3;exact .mk k s m ks (by have:=Bd h2;simp at this;omega) h0 h1 fun x hx=>ih x hx (by have:=h3 x hx;simpa using this)
theorem Vg(l:List Nd):((Av l).take (l.length-1)).drop 0=Av l.dropLast:=by
 rw[Ax,Ax,List.drop_zero,←List.map_take,Alj]
set_option maxHeartbeats 1000000 in
theorem Arv(n:Nd)(hn:Al n≤1000000000)(hnum:PrI n):Pure X 221 [nd n] (.tup [str (Hw n).1,vb (Hw n).2]):=by
 have hcn:=Co n;have hll:=Bq n.kids;have hfl:Sw X.P 268=some [0,0]:=by kernel_rfl
 refine Pure.run func221 ?_;refine Aj (Age n (by omega)) ?_;refine Db (fun h1=>?_) (fun h1=>?_)
 ·have h1':Pm n=true:=h1;refine Ep ?_;refine Ay ?_;have hP:Hw n=([],false):=by unfold Hw;rw[if_pos (by simp[h1'])]
  rw[hP];exact Ao func221 rfl
 have h1':Pm n=false:=h1;refine Db (fun h2=>?_) (fun h2=>?_)
 ·have h2':n.kids.isEmpty=true:=by
   rw[Ae]at h2;simp at h2;simp[h2]
  refine Ay ?_;have hP:Hw n=([],false):=by unfold Hw;rw[if_pos (by simp[h2'])]
  rw[hP];exact Ao func221 rfl
 have h2':n.kids.isEmpty=false:=by
  rw[Ae]at h2;simp at h2;simpa using h2
 refine Aj (A3e n hn) ?_;refine Ai (fun h3=>?_) (fun h3=>?_)
 ·have h3':longN n=true:=h3;have hP:Hw n=([],false):=by unfold Hw;rw[if_pos (by simp[h3'])]
  rw[hP];exact Ao func221 rfl
 have h3':longN n=false:=h3;have hsm:Al n≤500∧Dn n≤24:=by
  simp only[Pm,decide_eq_false_iff_not]at h1';omega
 have hp:PrN n:=hnum.short h3';have hkne:n.kids≠[]:=by intro e;rw[e]at h2';simp at h2'
 have hpos:0<n.kids.length:=zzq45.2 hkne;obtain⟨lst,hlst⟩:=Ab n.kids (i:=n.kids.length-1) (by omega);have hL:n.kids.getLastD Cm=lst:=by
  rw[Alk,List.getLast?_eq_getElem?,hlst];rfl
 have hlm:lst∈n.kids:=Bn hlst;have hlp:=hp.get.2.2.2 lst hlm;have hdn:=Kg n;have hlc:=Fc hlm;have hlcn:=Co lst;have hw1:IntKind.i64.wrap (((Av n.kids).length:Int)-1)=((n.kids.length-1:Nat):Int):=by rw[Ae];exact(Ac (by omega) (by omega)).trans (by omega)
 have hP:Hw n=(X5 n,!(X5 n==[])&&((Fp (X5 n)).2.1==0&&Vo (Fp (X5 n)).1 n)):=by unfold Hw;rw[if_neg (by simp[h1',h2',h3'])]
 have hT:X5 n=Ku n.kids.dropLast 0++Ku lst.kids 0:=by rw[X5,hL]
 have hS1:∀x,x∈n.kids.dropLast→HS x∧0+Dn x≤60∧(Ig x 0).length≤1000*Al x:=fun x hx=>by
  have hm:=(List.dropLast_sublist _).subset hx;have h1:=Fc hm;have h2:=G8 hm;have hx':=hp.get.2.2.2 x hm;exact⟨(Aor x hx' (by omega)).1,by omega,Apa x 0 hx' (by omega)⟩
 have hS2:∀x,x∈lst.kids→HS x∧0+Dn x≤60∧(Ig x 0).length≤1000*Al x:=fun x hx=>by
  have h1:=Fc hx;have h2:=G8 hx;have h3:=G8 hlm;have h4:=Kg lst;have hx':=hlp.get.2.2.2 x hx;exact⟨(Aor x hx' (by omega)).1,by omega,Apa x 0 hx' (by omega)⟩
 have hcd:Bb n.kids.dropLast≤Bb n.kids:=by rw[Alj];exact Q5
 have hb1:=Aiq (l:=n.kids.dropLast) (h:=0) fun x hx=>(hS1 x hx).2.2;have hb2:=Aiq (l:=lst.kids) (h:=0) fun x hx=>(hS2 x hx).2.2;have hTl:(X5 n).length≤1000000:=by rw[hT];simp;omega
 have hdl:n.kids.dropLast.length≤1000:=by rw[List.length_dropLast];omega
 have hll2:=Bq lst.kids;rw[hP];refine Hb 2 0 ?_;refine D6 (fun S'=>Alz (cs:=[.pointer none,.slice none 0 0,.slice none 0 0,.int .i64 0]) rfl rfl rfl rfl rfl rfl) ?_;refine C4 (As8 5 rfl rfl rfl rfl rfl rfl rfl rfl) ?_;refine A0 ?_;refine Qt (Aq (Cy rfl rfl rfl) (Aq (Cy rfl rfl rfl) G6)) rfl ?_;refine A0 ?_;refine A0 ?_;refine A0 ?_;refine A0 ?_;refine Bu ?_;refine Ix 5 (vi (n.kids.length-1:Nat)) ?_ (Ci hw1);refine Ix 33 (vi (n.kids.length-1:Nat)) ?_ (Ci hw1);refine Bs (Ace (l:=0) (h:=((n.kids.length-1:Nat):Int)) (r:=Av n.kids.dropLast) rfl rfl rfl rfl rfl rfl rfl rfl rfl (by omega) (by omega) (by rw[Ae];omega) (E9 _) (by rw[I3];exact Vg _)) ?_;refine Ar (ι:=Nat×Ad×Bool) 2 1 (fun i=>i.1≤n.kids.dropLast.length∧i.2.1++Ku (n.kids.dropLast.drop i.1) 0=Ku n.kids.dropLast 0)
  (fun i=>[(36,vi i.1),(35,vi n.kids.dropLast.length),(34,.sl (Av n.kids.dropLast) .no),(4,.ptr 1 0 0),(1,.ptr 0 0 0),(5,vi (n.kids.length-1:Nat))])
  (fun i=>⟨[[Ag n],[bN (N7 312 1 i.2.2) i.2.1 0]],[i.2.1.length]⟩) (fun i=>n.kids.dropLast.length-i.1) ?_ (0,[],true) ⟨Cb _,rfl⟩ ⟨rfl,by rw[←Ae n.kids.dropLast];rfl,rfl,rfl,rfl,rfl,trivial⟩ rfl rfl rfl rfl rfl
  (fun _=>inferInstance) (fun _=>inferInstance)
 rintro⟨i,out,c⟩ ⟨hi,hO⟩ IH;simp only at hi hO IH⊢;have hol:=congrArg List.length hO;simp only[F5]at hol;refine Cp (fun g1=>?_) (fun g1=>?_)
 ·have hlt:i<n.kids.dropLast.length:=by have:=A6 g1;omega
  obtain⟨y,hy⟩:=Ab n.kids.dropLast hlt;obtain⟨hs1,hs2,hs3⟩:=hS1 y (Bn hy);rw[Bp hy]at hO hol;simp only[Ku,F5]at hO hol;refine Bv i (by omega) (Ap hy) ?_;refine Af (hb:=Ama c out 0) (τ':=[0]) [1] [0] (hs1 c out 0 hs2 (by omega)) ?_;exact IH (i+1,out++Ig y 0,false) ⟨hlt,by simpa using hO⟩ (by simp only;omega) _ _ ⟨vsx (by omega),rfl,rfl,rfl,rfl,rfl,trivial⟩ rfl rfl rfl
 have hie:i=n.kids.dropLast.length:=by have:=Bd g1;omega
 subst hie;rw[Aet (Bt _)]at hO;simp only[Ku,I4]at hO;subst hO;refine Bv ((n.kids.length-1:Nat):Int) (by omega) (by rw[I3];exact Ap hlst) ?_;refine Ar (ι:=Nat×Ad×Bool) 2 1 (fun i=>i.1≤lst.kids.length∧i.2.1++Ku (lst.kids.drop i.1) 0=X5 n)
  (fun i=>[(51,vi i.1),(50,vi lst.kids.length),(49,.sl (Av lst.kids) .no),(4,.ptr 1 0 0),(1,.ptr 0 0 0)])
  (fun i=>⟨[[Ag n],[bN (N7 312 1 i.2.2) i.2.1 0]],[i.2.1.length]⟩) (fun i=>lst.kids.length-i.1) ?_ (0,Ku n.kids.dropLast 0,c) ⟨Cb _,hT.symm⟩ ⟨rfl,by rw[←Ae lst.kids];rfl,rfl,rfl,rfl,trivial⟩ rfl rfl rfl rfl rfl
  (fun _=>inferInstance) (fun _=>inferInstance)
 rintro⟨i,out,c⟩ ⟨hi,hO⟩ IH;simp only at hi hO IH⊢;have hol:=congrArg List.length hO;simp only[F5]at hol;refine Cp (fun g1=>?_) (fun g1=>?_)
 ·have hlt:i<lst.kids.length:=by have:=A6 g1;omega
  obtain⟨y,hy⟩:=Ab lst.kids hlt;obtain⟨hs1,hs2,hs3⟩:=hS2 y (Bn hy);rw[Bp hy]at hO hol;simp only[Ku,F5]at hO hol;refine Bv i (by omega) (Ap hy) ?_;refine Af (hb:=Ama c out 0) (τ':=[0]) [1] [0] (hs1 c out 0 hs2 (by omega)) ?_;exact IH (i+1,out++Ig y 0,false) ⟨hlt,by simpa using hO⟩ (by simp only;omega) _ _ ⟨vsx (by omega),rfl,rfl,rfl,rfl,trivial⟩ rfl rfl rfl
 have hie:i=lst.kids.length:=by have:=Bd g1;omega
 subst hie;rw[Aet (Bt _)]at hO;simp only[Ku,I4]at hO;subst hO;generalize X5 n=out at *;have hpc:=Ais out;have hpa:=Ark (s:=out);refine Af (hb:=Ama c out 0) (τ':=[0]) [1] [0] (sN c out 0 (by omega)) ?_;refine Aj (Azl out (by omega)) ?_;generalize Fp out=T at hpc hpa⊢;obtain⟨m,cd,at_⟩:=T;simp only at hpc hpa⊢;refine Db (fun g1=>?_) (fun g1=>?_)
 ·have g1':(out==[])=false:=by have:(!(out==[]))=true:=g1;simpa using this
  rw[g1',Bool.not_false,N5];refine Bs (Vz (r:=((cd==0)&&((at_==0)&&true))) rfl rfl rfl rfl rfl hfl rfl (.inl ⟨rfl,rfl⟩)) ?_;refine Db (fun g2=>?_) (fun g2=>?_)
  ·have g2':cd=0:=by simp at g2;exact g2.1
   refine Aj (A3g m n (by omega) hn) ?_;refine Ao func221 ?_;simp[g2']
  ·have g2':¬cd=0:=by
    intro h0;have:=hpa h0;simp[h0,this]at g2
   refine Ao func221 ?_;simp[g2']
 ·have g1':(out==[])=true:=by have:(!(out==[]))=false:=g1;simpa using this
  refine Gm ?_;refine Ao func221 ?_;simp[g1']
theorem Ak0(n:Nd)(hn:Al n≤1000000000)(hnum:PrI n):Pure X 161 [nd n] (vb (Dw n)):=by
 refine Pure.run func161 ?_;refine Aj (Arv n hn hnum) ?_;refine Ao func161 ?_;rw[(Am8 n).1]
end Go.V
namespace Go.V
open Go
section
variable {X:Cx}{B:Bx}{E E1:Env}{S S1:St}{w w':World}{F:Cw}{a:Act}{N:Nat}{R:AE→St→Prop}{ops:Array Oper}{i:Nat}{o:Oper}
theorem Bf{k:List Item}{xs:An}(hf:X.P.funcs[B.f]?=some B.fn)(hR:R (.ret (De xs)) S)(h:Oc X F S B.fn.results.toList=some xs:=by rfl):AK X B (.code .ret::k) F S R:=by
 intro E w a b cs hI hF hn hm hb;obtain⟨v,h1,h2⟩:=Nq hI hF h;have nt:E.toks.length=S.toks.length:=by rw[←hI.nt];simp
 refine .inl ⟨.returned v,w,{ b.at a (.code .ret::k)with mode:=.returning },⟨E,S,hI,Evol.refl _ _ _ _,_,h2,hR⟩,.one step_ret,hb,⟨rfl,hF.nod,rfl,B.fn,by rw[←hf];exact congrArg (X.P.funcs[·]?) hb,h1⟩⟩
def Fresh(X:Cx)(f:FuncId)(args:An)(n:Nat)(P:A7→Prop):Prop:=
 N8 X.P f∧ACalls X f args ⟨[],[]⟩ fun e S'=>∃rows,e=.ret (.bsl 0 n)∧S'=⟨[rows],[]⟩∧P rows
theorem Atg(hI:Inv X E S w){rows:A7}(hflat:H3 0 0 rows)(hI1:Inv X E1 ⟨[rows],[]⟩ w')(ev:Evol (E.sub [] []) w E1 w' 0 0) :
 ∃blk sz,E1.boxes[0]?=some (some (blk,sz))∧Evol E w (E.addBox blk sz) w' E.boxes.length E.toks.length∧Inv X (E.addBox blk sz) ⟨S.boxes++[rows],S.toks⟩ w':=by
 have hτl:∀t,t∈([]:List Nat)→t<E.toks.length:=fun t h=>by cases h
 have nb1:E1.boxes.length=1:=hI1.nb;obtain⟨⟨blk,sz⟩,hB⟩:=hI1.np 0 (by omega);have nt1:E1.toks=[]:=by have:=hI1.nt;simpa using this
 have own1:∀b,E1.own b→b=blk:=fun b h=>by
  rcases h with⟨j,s,h⟩|⟨t,l,c,s,h⟩
  ·have:=Aa h;have:j=0:=by omega
   subst this;rw[hB]at h;cases h;rfl
  ·rw[nt1]at h;simp at h
 have ownb:E1.own blk:=.inl ⟨0,sz,hB⟩;have nown:∀b,¬(E.sub [] []).own b:=fun b h=>by
  rcases(Qg hτl).1 h with⟨j,s,hj,_⟩|⟨t,l,c,s,ht,_⟩
  ·cases hj
  ·cases ht
 have hge:w.heap.size≤blk:=by
  rcases Ga blk w.heap.size with h|h
  ·exact absurd (ev.own blk h ownb) (nown blk)
  ·exact h
 have hlt1:blk<w'.heap.size:=hI1.own_lt ownb;have frE:∀{b o:Nat},E.mt b o→E1.fr b o:=fun{b o} h=>by
  rw[ev.fr];refine⟨h,fun ho=>?_⟩;rcases ho with⟨j,s,hj,_⟩|⟨t,l,c,s,ht,_⟩
  ·cases hj
  ·cases ht
 have hfar:∀{b:Nat},b<w.heap.size→w'.heap[b]?=w.heap[b]?:=fun{b} h=>ev.block b h (nown b);have hmtx:∀{b o:Nat},(E.addBox blk sz).mt b o→E.mt b o∨b=blk:=fun{b o} h=>by
  rcases h with h|⟨j,s,h⟩|h
  ·exact .inl (.inl h)
  ·rcases getElem?_snoc h with h|⟨_,h⟩
   ·exact .inl (.inr (.inl ⟨j,s,h⟩))
   ·cases h;exact .inr rfl
  ·exact .inl (.inr (.inr h))
 have hownx:∀{b:Nat},(E.addBox blk sz).own b→E.own b∨b=blk:=fun{b} h=>by
  rcases h with⟨j,s,h⟩|h
  ·rcases getElem?_snoc h with h|⟨_,h⟩
   ·exact .inl (.inl ⟨j,s,h⟩)
   ·cases h;exact .inr rfl
  ·exact .inl (.inr h)
 have hne:∀{b:Nat},E.own b→b≠blk:=fun{b} h e=>by have:=hI.own_lt h;omega
 have ev2:Evol E w (E.addBox blk sz) w' E.boxes.length E.toks.length:=by
  refine⟨rfl,fun j hj hl=>⟨by simp[Env.addBox];omega,fun x hx=>getElem?_snoc_left hx⟩,fun t ht k hk=>⟨k,hk,.inl rfl⟩,ev.os,ev.tape,ev.output,ev.size,fun b hb _=>hfar hb,
   fun b o v hm hc=>ev.cell b o v (fun h=>hm (Tv hτl h)) hc,fun b o hb h=>?_,fun b hb h=>?_,rfl,ev.ty,fun _ _ _ b _ _ _ _ o ho=>by rw[hfar (Wj ho)];exact ho⟩
  ·rcases hmtx h with h|h
   ·exact h
   ·omega
  ·rcases hownx h with h|h
   ·exact h
   ·omega
 refine⟨blk,sz,hB,ev2,?_⟩;obtain⟨cs1,e1,hh1,hs1,hl1,hr1⟩:=hI1.box 0 blk sz rows hB rfl;have hmt1:∀b o,(E.addBox blk sz).mt b o→E1.mt b o:=fun b o h=>by
  rcases hmtx h with h|rfl
  ·exact .inl (frE h)
  ·exact .inr (.inl ⟨0,sz,hB⟩)
 exact{
  nb:=by simp[Env.addBox,hI.nb]
  nt:=hI.nt
  np:=fun j hj=>by
   simp only[Env.addBox,F5,Ab0]at hj⊢;rcases Ga j E.boxes.length with h|h
   ·rw[Dd h];exact hI.np j h
   ·have:j=E.boxes.length:=by omega
    subst this;exact⟨_,getElem?_snoc_new _ _⟩
  box:=fun j b s rows' h1 h2=>by
   rcases getElem?_snoc h1 with h1|⟨hj,h1⟩
   ·have h2':S.boxes[j]?=some rows':=by
     rcases getElem?_snoc h2 with h2|⟨hj,_⟩
     ·exact h2
     ·have:=Aa h1;rw[hI.nb]at this;omega
    obtain⟨cs',e',hh',hs',hl',hr'⟩:=hI.box j b s rows' h1 h2';exact⟨cs',e',(hfar (hI.own_lt (.inl ⟨j,s,h1⟩))).trans hh',hs',hl',fun k r q x v h3 h4 h5=>(hr' k r q x v h3 h4 h5).step ev2⟩
   ·cases h1;have h2':rows'=rows:=by
     rcases getElem?_snoc h2 with h2|⟨_,h2⟩
     ·have:=Aa h2;rw[←hI.nb]at this;omega
     ·exact h2
    subst h2';exact⟨cs1,e1,hh1,hs1,hl1,fun k r q x v h3 h4 h5=>(hr1 k r q x v h3 h4 h5).env (hflat r (Bn h3) x (Bn h4)) hmt1⟩
  tok:=fun t l b c s h=>by
   obtain⟨h1,h0,cs,e,hh,hs⟩:=hI.tok t l b c s h;exact⟨h1,h0,cs,e,(hfar (hI.own_lt (.inr ⟨t,l,c,s,h⟩))).trans hh,hs⟩
  bb:=fun i j b s s' h1 h2=>by
   rcases getElem?_snoc h1 with h1|⟨hi,h1⟩<;>rcases getElem?_snoc h2 with h2|⟨hj,h2⟩
   ·exact hI.bb i j b s s' h1 h2
   ·cases h2;exact absurd rfl (hne (.inl ⟨i,s,h1⟩))
   ·cases h1;exact absurd rfl (hne (.inl ⟨j,s',h2⟩))
   ·omega
  bt:=fun i t b s l c sz' h1 h2=>by
   rcases getElem?_snoc h1 with h1|⟨hi,h1⟩
   ·exact hI.bt i t b s l c sz' h1 h2
   ·cases h1;exact absurd rfl (hne (.inr ⟨t,l,c,sz',h2⟩))
  tt:=hI.tt
  frlt:=fun b o h=>⟨fun h'=>by
   rcases hownx h' with h'|h'
   ·exact(hI.frlt b o h).1 h'
   ·have:=(hI.frlt b o h).2;omega,Ng (hI.frlt b o h).2 ev.size⟩
  lo:=fun b h=>by
   rcases hownx h with h|h
   ·exact hI.lo b h
   ·rw[h];exact hI1.lo blk ownb
  frlo:=hI.frlo
  sz:=hI1.sz
  glob:=hI1.glob }
theorem A4q{l:List Nat}{k:List Item}{c:Call}{fo:Operand}{f:FuncId}{caps xs zs ys:An}{n:Nat}{P:A7→Prop}(hc:Fresh X f ys n P)(hflat:∀rows,P rows→H3 0 0 rows)
 (hk:∀rows,P rows→AK X B (.inRegion ops l::k) (putF o.dst (.bsl S.boxes.length n) F) ⟨S.boxes++[rows],S.toks⟩ R)(ho:ops[i]?=some o:=by rfl)(hw:Bc ops F o=some true:=by rfl)(hop:o.op=.call c:=by rfl)
 (hcal:c.callee=.value fo:=by rfl)(hfo:Dv X F fo=some (.fn f caps):=by rfl)(hx:Hv X F c.args.toList=some xs:=by rfl)(hzs:Jt xs caps=some zs:=by rfl)(hd:Eh B.fn.ntmps o.dst=true:=by rfl) [ha:RinL [] [] zs ys] :
 AK X B (.inRegion ops (i::l)::k) F S R:=by
 intro E w a b cs hI hF hn hm hb;have nt:E.toks.length=S.toks.length:=by rw[←hI.nt];simp
 have hτl:∀t,t∈([]:List Nat)→t<E.toks.length:=fun t h=>by cases h
 have hz:=Sk hzs;obtain⟨vs,h1,h2,h3⟩:=Q4 hop hcal hc.1 hI hF hfo hx;have hsub:Inv X (E.sub [] []) ⟨[],[]⟩ w:=hI.sub (σ:=[]) (τ:=[]) List.nodup_nil List.nodup_nil hτl (Sc:=⟨[],[]⟩) .nil (fun j h=>by cases h) rfl;have hcalls:=hc.2 (E.sub [] []) w vs rfl hsub (by rw[h2,hz,ha.s.get.1]) (fun j v y hv hy=>by
  obtain⟨x,hxj⟩:=Ab zs (i:=j) (by have:=Aa hy;rw[ha.s.get.1]at this;exact this);exact(ha.s.get.2 j x y hxj hy).fwd (fun b o=>Tv hτl) (fun i j q h1 h2=>Jm.2 ⟨i,h1,h2⟩) (fun i j k h1 h2=>(Km hτl).2 ⟨i,h1,h2⟩) (h3 j v x hv (by rw[hz];exact hxj)))
 have hdo:Does X ops i a w fun v w'=>∃rows,P rows∧∃E',Inv X E' ⟨S.boxes++[rows],S.toks⟩ w'∧Evol E w E' w' E.boxes.length E.toks.length∧Rel E' w' v (.bsl S.boxes.length n):=by
  refine Does.call ho (Cu hF hw) h1 (hcalls.mono fun e w' he=>?_);obtain⟨E1,S1,d1,d2,d3⟩:=he;cases e with
  |returned v=>
   obtain⟨r',hr',rows,hre,rfl,hP⟩:=d3;cases hre;obtain⟨blk,sz,hB,ev2,hI2⟩:=Atg hI (hflat rows hP) d1 d2;refine⟨v,rfl,rows,hP,_,hI2,ev2,?_⟩;cases hr' with
   |bsl _ blk' sz' _ cap hB' hcap=>
    rw[hB]at hB';cases hB';exact .bsl _ blk sz n cap (by rw[←hI.nb];exact getElem?_snoc_new _ _) hcap
  |panicked ch=>obtain⟨rows,h,_⟩:=d3;cases h
  |outgrown=>exact d3.elim
 obtain⟨v',w2,⟨rows,hP,E',g1,g2,g3⟩,g4⟩:=hdo b k cs l;have hF':=(hF.step g2).putF hd g3;have g4':=g4;rw[ho]at g4';exact Fin.from g4' (g2.weaken (by rw[hI.nb];exact hn) (by omega)) (hk rows hP E' w2 _ b cs g1 hF' (by simp;omega) hm hb)
theorem Fresh.mk{f:FuncId}{fn:Func}{c:Code}{args:An}{n:Nat}{P:A7→Prop}(hf:X.P.funcs[f]?=some fn)(hb:fn.body=some c)(hl:Nat.ble args.length fn.ntmps=true)(hnm:(fn.name == "runtime.NumGoroutine")=false)
 (h:AK X ⟨f,fn,0,0⟩ [.code c] (Pg 0 args) ⟨[],[]⟩ fun e S'=>∃rows,e=.ret (.bsl 0 n)∧S'=⟨[rows],[]⟩∧P rows):Fresh X f args n P:=
 ⟨⟨fn,hf,hnm,by rw[hb];rfl⟩,J8 (n:=0) (m:=0) (hh:=fun C S' hx=>by obtain⟨rows,hx,_⟩:=hx;cases hx) hf hb hl rfl rfl h⟩
theorem Um{c:Call}{p q:Operand}{tt tx e e':Nat}{y yx ye:Ty}{rows:A7}{sp sp':Sp}(ho:ops[i]?=some o:=by rfl)(hw:Bc ops F o=some true:=by rfl)(hop:o.op=.call c:=by rfl)(hcal:c.callee=.builtin .append:=by rfl)
 (hargs:c.args.toList=[p,q]:=by rfl)(htys:c.argTypes.toList=[tt,tx]:=by rfl)(hp:Dv X F p=some (.sl rows sp):=by rfl)(hq:Dv X F q=some (.sl [] sp'):=by rfl)(hy:X.ty tt=some y:=by rfl)(hyk:y.k=.slc e:=by rfl)(hye:X.ty e=some ye:=by rfl)
 (hyx:X.ty tx=some yx:=by rfl)(hyxk:yx.k=.slc e':=by rfl):Ndo X N ops i o F (.sl rows sp) S S:=by
 refine Dp ho hw fun F' E w a hc hI hF=>?_;rw[hop]at hc;obtain⟨callee,args,argTypes⟩:=c;simp only at hcal hargs htys;subst hcal;have ha:args=#[p,q]:=by rw[←Vv];exact hargs
 have ht:argTypes=#[tt,tx]:=by rw[←Vv];exact htys
 subst ha;subst ht;have r1:=Am hI hF ((hc p (by simp[Op.operands,Call.operands])).trans hp);have r2:=Am hI hF ((hc q (by simp[Op.operands,Call.operands])).trans hq);obtain⟨d1,hd1,hk1⟩:=(X.ty_ok tt y hy).agg;simp only[hyk]at hk1;obtain⟨rfl,ye',hye',hne0⟩:=hk1;rw[hye]at hye';cases hye';obtain⟨d2,hd2,hk2⟩:=(X.ty_ok tx yx hyx).agg;simp only[hyxk]at hk2;obtain⟨rfl,_⟩:=hk2;generalize hu:a.eval p=u at r1;generalize hv:a.eval q=v at r2;have r1':=r1;cases r2 with
 |sl _ _ a2 n2 cap2 b2 o2 sz2 vals2 hn2 hx2 ha2 hszr2 hm2 hcl2 hr2 hs2 hcap2=>
  have h0:n2=0:=by simpa using hn2.symm
  subst h0;cases r1 with
  |sl _ _ a1 n1 cap1 b1 o1 sz1 vals1 hn1 hx1 ha1 hszr1 hm1 hcl1 hr1 hs1 hcap1=>
   refine⟨.slice a1 n1 cap1,?_,r1'⟩;have hf:(Builtin.firstCells ye.size 0 (.slice a2 0 cap2)).run X.P w=.ok ([]:List Value).toArray w:=by
    cases a2 with
    |none=>exact run_firstCells_none _ _ _ _ _
    |some a0=>exact run_firstCells_some _ _ _ _ _ _ _ (by simp) (fun j v hj=>by simp at hj)
   cases a1 with
   |none=>simp[execOp,hop,resolve,invoke,builtin,hu,hv,Builtin.append_,run_underlying hd1,run_underlying hd2,Dx hye,Builtin.lenOf,hcap1,hf]
   |some a0=>simp[execOp,hop,resolve,invoke,builtin,hu,hv,Builtin.append_,run_underlying hd1,run_underlying hd2,Dx hye,Builtin.lenOf,hcap1,hf,storeCells]
end
end Go.V
namespace Go.V
open Go Go.Proofs Go.Proofs.Tryz
instance{n m c:Nat}:OKR n m (List.replicate c zN):=⟨fun r hr x hx=>by
 rw[Z3 hr]at hx;exact(inferInstance:OKL n m zN).ok x hx⟩
abbrev rB(l:List Nd)(c:Nat):A7:=Av l++List.replicate c zN
theorem Aa5{l:List Nd}{i c:Nat}{x:Nd}(h:l[i]?=some x):(rB l c)[i]?=some (Ag x):=by
 rw[Dd (by rw[Ae];exact Aa h)];exact Ap h
theorem A3h(l:List Nd)(c i:Nat)(x:Nd)(h:i<l.length):(rB l c).set i (Ag x)=rB (l.set i x) c:=by
 rw[rB,rB,List.set_append_left _ _ (by rw[Ae];exact h),Ax,Ax,Z1]
theorem Anb(l:List Nd)(c:Nat):(rB l c).length=l.length+c:=by simp[Ae]
theorem Aa0(a b:List Nd):Av (a++b)=Av a++Av b:=by rw[Ax,Ax,Ax,Jp]
theorem A05(l:List Nd)(c:Nat):∀r,r∈rB l c→r.length=4:=fun r hr=>by
 rcases zzq26.1 hr with h|h
 ·exact I7.1 (E9 l) r h
 ·rw[Z3 h];rfl
section
variable {X:Cx}{B:Bx}{S:St}{F F':Cw}{R:AE→St→Prop}{N:Nat}{ops:Array Oper}{i:Nat}{l:List Nat}{k K:List Item}{o:Oper}{p q:Operand}
theorem Asn{t b r:Nat}{y:Ty}{cs:An}{rows:A7}{x:AV}{S2:St}(hr:rows[r]?=some cs)(hk:AK X B K F' S2 R)(ho:ops[i]?=some o:=by rfl)(hw:Bc ops F o=some true:=by rfl)(hop:o.op=.load t p:=by rfl)
 (hp:Dv X F p=some (.ptr b r 0):=by rfl)(hy:X.ty t=some y:=by rfl)(hb:S.boxes[b]?=some rows:=by rfl)(hl:cs.length=y.size:=by rfl)(hx:Xs (G9 y.k) cs=some x:=by rfl)(hd:Eh B.fn.ntmps o.dst=true:=by rfl)
 (he:Go.V.ev X B.fn.ntmps 200 (.inRegion ops l::k) (putF o.dst x F) S=(K,F',S2):=by rfl):AK X B (.inRegion ops (i::l)::k) F S R:=
 Bs (Qy hb hr hl ho hw hop hp hy hx) hk ho hd he
theorem R4{t e b n:Nat}{ik:IntKind}{y ye:Ty}{rows:A7}{r:An}(j:Nat)(hj:j<n)(hr:rows[j]?=some r)(hk:AK X B (.inRegion ops l::k) (putF o.dst (.ptr b j 0) F) S R)(ho:ops[i]?=some o:=by rfl)(hw:Bc ops F o=some true:=by rfl)
 (hop:o.op=.indexAddr t p q:=by rfl)(hp:Dv X F p=some (.bsl b n):=by rfl)(hq:Dv X F q=some (.val (.int ik j)):=by rfl)(hy:X.ty t=some y:=by rfl)(hyk:y.k=.slc e:=by rfl)(hye:X.ty e=some ye:=by rfl)(hb:S.boxes[b]?=some rows:=by rfl)(hl:r.length=ye.size:=by rfl)
 (hd:Eh B.fn.ntmps o.dst=true:=by rfl):AK X B (.inRegion ops (i::l)::k) F S R:=
 Hg (Gp (j:=j) ho hw hop hp hq hy hyk hye (by simpa[Hp]using hj) hb hr hl) ho hd hk
theorem Xk{t b r:Nat}{y:Ty}{x:AV}{xs cs:An}{rows:A7}{bx:B3}{S2:St}(hr:rows[r]?=some cs)(hk:AK X B K F' S2 R)(ho:ops[i]?=some o:=by rfl)(hw:Bc ops F o=some true:=by rfl)(hop:o.op=.store t p q:=by rfl)
 (hp:Dv X F p=some (.ptr b r 0):=by rfl)(hq:Dv X F q=some x:=by rfl)(hy:X.ty t=some y:=by rfl)(hb:S.boxes[b]?=some rows:=by rfl)(hc:cellsOf x=some xs:=by rfl)(hl:xs.length=y.size:=by rfl)(hl':cs.length=y.size:=by rfl)
 (hbx:S.boxes.set b (rows.set r xs)=bx:=by rfl)(hd:Eh B.fn.ntmps o.dst=true:=by rfl)(he:Go.V.ev X B.fn.ntmps 200 (.inRegion ops l::k) (putF o.dst .junk F) ⟨bx,S.toks⟩=(K,F',S2):=by rfl):AK X B (.inRegion ops (i::l)::k) F S R:=by
 subst hbx;exact Bs (Bg ho hw hop hy hp hq (Yd hb hr hc hl hl')) hk ho hd he
end
theorem Azb(l:List Nd)(hne:l≠[])(hl:l.length≤1000000000):Fresh X 223 [.sl (Av l) .no] l.length fun rows=>∃c,rows=rB l c:=by
 have hu:X.P.underlying 28=some (.slice 30):=by kernel_rfl
 refine Fresh.mk func223 rfl rfl (by kernel_rfl) ?_;refine Ba 100 rfl ?_;refine Aca hu (fun c hc=>?_);have hc':=hc (by rw[Ax];simpa using hne);subst hc';refine Ba 100 rfl ?_;refine Ah ?_;have hn:Av l≠[]:=by rw[Ax];simpa using hne
 refine Qs (fun cc=>?_) (I7.1 (E9 l)) (Li.1 (Akk l)) hn (by rw[Ae];omega);refine Ba 100 rfl ?_;refine Bf func223 ?_;exact⟨rB l cc,by rw[Ae];rfl,rfl,cc,rfl⟩
theorem Avf:Pure X 223 [.sl [] .no] (.sl [] .no):=by
 have hu:X.P.underlying 28=some (.slice 30):=by kernel_rfl
 refine Pure.mk func223 rfl rfl (by kernel_rfl) ?_;refine Ba 100 rfl ?_;refine Aca hu (fun c hc=>?_);refine Cp (fun h=>?_) (fun h=>?_)
 ·refine Ix 2 (.sl [] .tight) ?_;exact Ao func223 rfl
 ·refine Bs Um ?_;exact Ao func223 rfl
theorem At3(l:List Nd)(c:Nat)(f:FuncId)(caps:An)(p:Nd→Bool)(hl:l.length≤1000000000) [hok:OKL 0 0 caps](hp:∀x,x∈l→Pure X f (nd x::caps) (vb (p x)))(hcat:∀xs,Jt xs caps=some (xs++caps)) :
 Hands X 225 [.bsl 0 l.length,.fn f caps] ⟨[rB l c],[]⟩ (vi (Ky p 0 l)) ⟨[rB l c],[]⟩:=by
 have:OKL 1 0 caps:=⟨fun x hx=>(hok.ok x hx).mono (by omega) (by omega)⟩
 refine Hands.run (n:=1) (m:=0) func225 ?_;refine Ar (ι:=Nat) 1 0 (fun i=>i≤l.length∧Ky p 0 l=Ky p i (l.drop i)) (fun i=>[(8,vi i),(7,vi l.length),(0,.bsl 0 l.length),(1,.fn f caps)]) (fun _=>⟨[rB l c],[]⟩) (fun i=>l.length-i) ?_ 0 ⟨Cb _,rfl⟩
  ⟨rfl,rfl,rfl,rfl,trivial⟩
 intro i hi IH;refine Cp (fun h=>?_) (fun h=>?_)
 ·have hlt:i<l.length:=by have:=A6 h;omega
  obtain⟨x,hx⟩:=Ab l hlt;have hd:Ky p i (l.drop i)=if p x then(i:Int)else Ky p (i+1) (l.drop (i+1)):=by rw[Bp hx];rfl
  refine R4 i hlt (Aa5 (c:=c) hx) ?_;refine Asn (Aa5 (c:=c) hx) ?_;refine Aj (hp x (Bn hx)) ?_ (hzs:=hcat _);refine Ai (fun h2=>?_) (fun h2=>?_)
  ·refine Bz func225 ?_ rfl;have h3:p x=true:=h2;rw[hi.2,hd,h3];rfl
  ·have h3:p x=false:=h2;exact IH (i+1) ⟨hlt,by rw[hi.2,hd,h3];rfl⟩ (by omega) _ _ ⟨vsx (by omega),rfl,rfl,rfl,trivial⟩ rfl rfl rfl
 ·have:i=l.length:=by have:=Bd h;omega
  refine Bz func225 ?_ rfl;rw[hi.2,this,Hr];rfl
theorem Af1{p:Nd→Bool}:∀{l:List Nd}{i:Nat},Ky p i l=-1→l.filter (fun x=>!p x)=l
 |[],i,_=>rfl
 |x::l,i,h=>by
  simp only[Ky]at h;split at h
  ·omega
  ·rename_i hx;have:=Af1 h;have hx':p x=false:=by simpa using hx
   rw[Ab3,hx',Bool.not_false,if_pos rfl,this]
theorem Aap{p:Nd→Bool}:∀{l:List Nd}{i:Nat},Ky p i l≠-1→∃j x,Ky p i l=((i+j:Nat):Int)∧l[j]?=some x∧p x=true∧(l.take j).filter (fun x=>!p x)=l.take j
 |[],i,h=>by simp[Ky]at h
 |x::l,i,h=>by
  simp only[Ky]at h⊢;by_cases hx:p x=true
  ·rw[if_pos hx];exact⟨0,x,by simp,rfl,hx,rfl⟩
  ·rw[if_neg hx]at h⊢;obtain⟨j,y,h1,h2,h3,h4⟩:=Aap h;have hx':p x=false:=by simpa using hx
   refine⟨j+1,y,by rw[h1];omega,by simpa using h2,h3,?_⟩;rw[List.take_succ_cons,Ab3,hx',Bool.not_false,if_pos rfl,h4]
theorem Atp{l cur:List Nd}{q:Nd→Bool}{i j:Nat}{x:Nd}(hij:i<j)(hj:l[j]?=some x)(hlen:cur.length=l.length)(h1:cur.take i=(l.take j).filter q)(h2:cur.drop j=l.drop j) :
 cur[j]?=some x∧(q x=false→cur.take i=(l.take (j+1)).filter q∧cur.drop (j+1)=l.drop (j+1)) ∧
  (q x=true→(cur.set i x).take (i+1)=(l.take (j+1)).filter q∧(cur.set i x).drop (j+1)=l.drop (j+1)):=by
 have hjl:=Aa hj;have hcj:cur[j]?=some x:=by
  have:=congrArg (fun t:List Nd=>t[0]?) h2;simp only[R0,Rx]at this;rw[this];exact hj
 have hd:cur.drop (j+1)=l.drop (j+1):=by
  have:=congrArg List.tail h2;simpa[List.tail_drop]using this
 have ht:(l.take (j+1)).filter q=(l.take j).filter q++[x].filter q:=by rw[Hq,hj,Aev];rfl
 refine⟨hcj,fun hq=>⟨?_,hd⟩,fun hq=>⟨?_,?_⟩⟩
 ·rw[ht,h1];simp[hq]
 ·rw[ht,←h1];have hi:i<cur.length:=by omega
  rw[Hq,List.take_set_of_le (Bt _)];simp[hi,hq]
 ·rw[List.drop_set_of_lt (by omega)];exact hd
theorem Aqz(l:List Nd)(c:Nat)(f:FuncId)(caps:An)(p:Nd→Bool)(hl:l.length≤1000000000) [hok:OKL 0 0 caps](hp:∀x,x∈l→Pure X f (nd x::caps) (vb (p x)))(hcat:∀xs,Jt xs caps=some (xs++caps)) :
 Hands X 222 [.bsl 0 l.length,.fn f caps] ⟨[rB l c],[]⟩ (.bsl 0 (l.filter fun x=>!p x).length)
  ⟨[rB (l.filter fun x=>!p x) (l.length-(l.filter fun x=>!p x).length+c)],[]⟩:=by
 have:OKL 1 0 caps:=⟨fun x hx=>(hok.ok x hx).mono (by omega) (by omega)⟩
 have hf:=At3 l c f caps p hl hp hcat
 refine Hands.run (n:=1) (m:=0) func222 ?_;refine Af [0] [] hf ?_;refine Ai (fun h1=>?_) (fun h1=>?_)
 ·have h1':Ky p 0 l=-1:=by simpa using h1
  rw[Af1 h1',Iw,Kr];exact Z4 (n:=1) (tk:=[]) func222 rfl rfl rfl rfl
 have h1':Ky p 0 l≠-1:=by simpa using h1
 obtain⟨j0,x0,e0,e1,e2,e3⟩:=Aap h1';rw[Kr]at e0;have hj0:=Aa e1;have hwj:IntKind.i64.wrap (Ky p 0 l+1)=((j0+1:Nat):Int):=by rw[e0];exact(Ac (by omega) (by omega)).trans (by omega)
 have hstart:l.take j0=(l.take (j0+1)).filter fun x=>!p x:=by
  rw[Hq,e1,Aev,e3];simp[e2]
 refine Ar (ι:=Nat×Nat×List Nd) 1 0 (fun s=>s.1<s.2.1∧s.2.1≤l.length∧s.2.2.length=l.length∧s.2.2.take s.1=(l.take s.2.1).filter (fun x=>!p x)∧s.2.2.drop s.2.1=l.drop s.2.1)
  (fun s=>[(6,vi s.2.1),(5,vi s.1),(0,.bsl 0 l.length),(1,.fn f caps)]) (fun s=>⟨[rB s.2.2 c],[]⟩) (fun s=>l.length-s.2.1) ?_ (j0,j0+1,l) ⟨Aeq _,hj0,rfl,hstart,rfl⟩
  ⟨Ci hwj,Ci e0,rfl,rfl,trivial⟩
 rintro⟨i,j,cur⟩ ⟨g1,g2,g3,g4,g5⟩ IH;simp only at g1 g2 g3 g4 g5 IH⊢;refine Cp (fun h2=>?_) (fun h2=>?_)
 ·have hlt:j<l.length:=by have:=A6 h2;omega
  have hj1:IntKind.i64.wrap ((j:Int)+1)=((j+1:Nat):Int):=(Ac (by omega) (by omega)).trans (by omega);have hi1:IntKind.i64.wrap ((i:Int)+1)=((i+1:Nat):Int):=(Ac (by omega) (by omega)).trans (by omega);obtain⟨x,hx⟩:=Ab l hlt;obtain⟨s1,s2,s3⟩:=Atp (q:=fun x=>!p x) g1 hx g3 g4 g5;refine R4 j hlt (Aa5 (c:=c) s1) ?_;refine Asn (Aa5 (c:=c) s1) ?_;refine Aj (hp x (Bn hx)) ?_ (hzs:=hcat _);refine Ai (fun h3=>?_) (fun h3=>?_)
  ·have hpx:p x=false:=by have:(!p x)=true:=h3;simpa using this
   obtain⟨t1,t2⟩:=s3 (by simp[hpx]);have hil:i<cur.length:=by omega
   obtain⟨y,hy⟩:=Ab cur hil;refine R4 i (show i<l.length by omega) (Aa5 (c:=c) hy) ?_;refine Xk (bx:=[rB (cur.set i x) c,[Ag x]]) (Aa5 (c:=c) hy) ?_ (hbx:=by rw[←A3h _ _ _ _ hil];rfl);refine IH (i+1,j+1,cur.set i x) ⟨by simp only;omega,hlt,by simpa using g3,t1,t2⟩ (by simp only;omega) _ _ ⟨Ci hj1,Ci hi1,rfl,rfl,trivial⟩ rfl rfl rfl
  ·have hpx:p x=true:=by have:(!p x)=false:=h3;simpa using this
   obtain⟨t1,t2⟩:=s2 (by simp[hpx]);exact IH (i,j+1,cur) ⟨by simp only;omega,hlt,g3,t1,t2⟩ (by simp only;omega) _ _ ⟨Ci hj1,rfl,rfl,rfl,trivial⟩ rfl rfl rfl
 ·have hje:j=l.length:=by have:=Bd h2;omega
  subst hje;rw[Jh]at g4;have hfl:(l.filter fun x=>!p x).length=i:=by
   have:=congrArg List.length g4;rw[Zz]at this;omega
  have hrows:rB cur c≠[]:=by
   intro h;have:cur.length+c=0:=by rw[←Anb,h];rfl
   omega
  have hz:(rB cur c).take i++(List.replicate (l.length-i) zN++(rB cur c).drop (i+(l.length-i)))=rB (cur.take i) (l.length-i+c):=by
   rw[show i+(l.length-i)=l.length by omega,rB,rB,List.take_append_of_le_length (by rw[Ae];omega),←g3,show cur.length=(Av cur).length by rw[Ae],List.drop_left,Ax,Ax,←List.map_take,
    ←List.replicate_append_replicate,Py]
  refine Bs (Aqe (l:=i) (rows:=rB cur c) g1 rfl rfl rfl rfl rfl rfl rfl rfl rfl (A05 _ _) hrows) ?_;refine Bs (Al0 (s:=i) (n:=l.length-i) (rows:=rB cur c) (by omega) rfl (by rw[Anb];omega) (A05 _ _) (by exact congrArg (fun r=>[r]) hz) (by intro x hx;simp at hx;rcases hx with rfl|rfl|rfl|rfl<;>rfl) rfl rfl rfl rfl rfl rfl rfl rfl rfl rfl) ?_;refine Bs (Aqa (h:=(i:Int)) (by omega) (by omega) rfl rfl rfl rfl rfl rfl rfl rfl) ?_;rw[hfl,←g4];exact Z4 (n:=1) (tk:=[]) func222 rfl rfl rfl rfl
theorem Apk(n:Nd)(hne:n.kids≠[])(hl:n.kids.length≤1000000000):Pure X 162 [nd n] (.sl (Av n.kids.dropLast) .no):=by
 have hpos:0<n.kids.length:=zzq45.2 hne;have hw1:IntKind.i64.wrap (((Av n.kids).length:Int)-1)=((n.kids.length-1:Nat):Int):=by rw[Ae];exact(Ac (by omega) (by omega)).trans (by omega)
 refine Pure.run func162 ?_;refine Ix 8 (vi (n.kids.length-1:Nat)) ?_ (Ci hw1);refine Bs (Ace (l:=0) (h:=((n.kids.length-1:Nat):Int)) (r:=Av n.kids.dropLast) rfl rfl rfl rfl rfl rfl rfl rfl rfl (by omega) (by omega) (by rw[Ae];omega) (E9 _) (by rw[I3];exact Vg _)) ?_;exact Ao func162 rfl
theorem Avc(n:Nd)(hne:n.kids≠[])(hl:n.kids.length≤1000000000):Pure X 168 [nd n] (nd (Dy n)):=by
 have hpos:0<n.kids.length:=zzq45.2 hne;have hw1:IntKind.i64.wrap (((Av n.kids).length:Int)-1)=((n.kids.length-1:Nat):Int):=by rw[Ae];exact(Ac (by omega) (by omega)).trans (by omega)
 obtain⟨lst,hlst⟩:=Ab n.kids (i:=n.kids.length-1) (by omega);have hL:Dy n=lst:=by rw[Dy,Alk,List.getLast?_eq_getElem?,hlst];rfl
 rw[hL];refine Pure.run func168 ?_;refine Ix 8 (vi (n.kids.length-1:Nat)) ?_ (Ci hw1);refine Bv ((n.kids.length-1:Nat):Int) (by omega) (by rw[I3];exact Ap hlst) ?_;exact Ao func168 rfl
theorem An2{f:FuncId}{fn:Func}{F:Cw}{bx:B3}{b c:Nat}{l:List Nd}{k:List Item}(hf:X.P.funcs[f]?=some fn)(hb:bx[b]?=some (rB l c))(hl:l.length≤1000000000)(h:Oc X F ⟨bx,[]⟩ fn.results.toList=some [.bsl b l.length]:=by rfl) :
 AK X ⟨f,fn,0,0⟩ (.code .ret::k) F ⟨bx,[]⟩ fun e S'=>e=.ret (.sl (Av l) .no)∧S'=⟨[],[]⟩:=by
 refine F3 (B:=⟨f,fn,0,0⟩) hf h 0 (Bt _) (r:=.sl (Av l) .no) ?_ (fun rows hr=>by simp at hr) ⟨rfl,rfl⟩;have hget:∀(i:Nat) (r:An),(Av l)[i]?=some r→(rB l c)[i]?=some r:=fun i r h=>by rw[Dd (Aa h)];exact h
 refine .bsl b l.length (rB l c) (Av l) (Cb _) hb (by rw[Anb];omega) (by unfold P1;omega) (Ae l) (fun i r r' h1 h2=>?_) (fun i j r r' x y h1 h2 h3 h4=>?_)
 ·rw[hget i r' h2]at h1;cases h1;rfl
 ·rw[hget i r' h2]at h1;cases h1;rw[h3]at h4;cases h4;refine .same x ((inferInstance:OKR 0 0 (Av l)).ok r (Bn h2) x (Bn h3))
theorem Akw(x:Nd)(k:Int):Pure X 224 [nd x,.cptr [vi k]] (vb (!(x.kind==k))):=by
 refine Pure.run func224 ?_;exact Ao func224 rfl
theorem Art(f:FuncId)(caps:An) [hok:OKL 0 0 caps](hcat:∀xs,Jt xs caps=some (xs++caps)):Pure X 222 [.sl [] .no,.fn f caps] (.sl [] .no):=by
 have hi:Pure X 225 [.sl [] .no,.fn f caps] (vi (-1)):=Ad8 [] f caps (fun _=>true) (by simp) (fun x hx=>by cases hx) hcat
 refine Pure.run func222 ?_;refine Aj hi ?_;refine Ay ?_;exact Ao func222 rfl
def Nu(n:Nd)(k:Int):List Nd:=n.kids.dropLast.filter fun x=>x.kind==k
theorem Tr(n:Nd)(k:Int)(hne:n.kids≠[])(hl:n.kids.length≤1000000000):Pure X 163 [nd n,vi k] (.sl (Av (Nu n k)) .no):=by
 have hd:=Apk n hne hl;have hdl:n.kids.dropLast.length≤1000000000:=by rw[List.length_dropLast];omega
 refine Pure.mk func163 rfl rfl (by kernel_rfl) ?_;refine K9 0 100 rfl ?_;refine Ba 2 rfl ?_;refine Bs (Ac4 (x:=vi k)) ?_;refine Aj hd ?_;by_cases h0:n.kids.dropLast=[]
 ·have hK:Nu n k=[]:=by rw[Nu,h0];rfl
  rw[hK,h0];refine Aj Avf ?_;refine Aj (Art 224 [.cptr [vi k]] (Atm _)) ?_;exact Ao func163 rfl
 ·refine A4q (Azb n.kids.dropLast h0 hdl) (fun rows ⟨c,hr⟩=>by subst hr;exact(inferInstance:OKR 0 0 (rB n.kids.dropLast c)).ok) (fun rows ⟨c,hr⟩=>?_);subst hr;have hD:=Aqz n.kids.dropLast c 224 [.cptr [vi k]] (fun x=>!(x.kind==k)) hdl (fun x _=>Akw x k) (Atm _);have hfe:(n.kids.dropLast.filter fun x=>!(!(x.kind==k)))=Nu n k:=by simp only[Bool.not_not];rfl
  rw[hfe]at hD;refine Ba 100 rfl ?_;refine Af [1] [] hD ?_;refine An2 func163 (b:=1) rfl (Vt (Ag5 _ _) hdl)
end Go.V
