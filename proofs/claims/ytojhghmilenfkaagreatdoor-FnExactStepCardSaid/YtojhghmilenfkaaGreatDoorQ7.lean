/- A part of the proof of the claim that the last text states: no condition of its own. -/
import Derived.Test.YtojhghmilenfkaaGreatDoorQ6
import Derived.Ground.NamesProg
import Derived.Lib.AtoiTie
import Derived.Lib.Bytealg
import Derived.Lib.ConvBytes
import Derived.Shelf.Strconv.AtoiAll
import Derived.Shelf.Strconv.Itoa3
import Derived.Test.YtojhghmilenfkaaGreatDoorChecked
import Derived.WideLaws
set_option linter.unusedVariables false
set_option linter.unusedSimpArgs false
namespace Go.V
open Go Go.Proofs Go.Proofs.Tryz
theorem Alt{X:Cx}{B:Bx}{S S2:St}{F F':Cw}{N:Nat}{R:AE→St→Prop}{ops:Array Oper}{i:Nat}{bs:List Nat}{em:Nat}{Hs:List St}{pend:List Jc}{k K:List Item}(id:Nat)(hk:AK X B K F' S2 R)
 (he:evT X B.fn.ntmps id 100 k F S=(K,F',S2):=by rfl):Drv X N ops bs em [] i F S Hs pend fun F1 S1=>AK X B k F1 S1 R:=
 K9 id 100 he hk
def Ae3(s:Ad):List Nd→List Nd
 |[a,b,.mk k' s' m' l]=>[.mk 21 s 0 [a],.mk 25 [] 0 [.mk 11 [] 0 [.mk 2 s 0 [],b],.mk k' s' m' (l++[.mk 21 s 0 [.mk 6 [] 0 [.mk 2 s 0 [],.mk 1 [] 1 []]]])]]
 |_=>[]
mutual
def Be:Nd→Nd
 |.mk k s m ks=>.mk k s m (B4 ks)
def B4:List Nd→List Nd
 |[]=>[]
 |x::l=>Hj x++B4 l
def Hj:Nd→List Nd
 |.mk k s m ks=>if k=26 then Ae3 s (B4 ks)else[.mk k s m (B4 ks)]
end
theorem Bi(k:Int)(s:Ad)(m:Int)(ks:List Nd):Be (.mk k s m ks)=.mk k s m (B4 ks):=by rw[Be]
theorem A9:B4 []=[]:=by rw[B4]
theorem Au(x:Nd)(l:List Nd):B4 (x::l)=Hj x++B4 l:=by rw[B4]
theorem Bj{x:Nd}(h:x.kind≠26):Hj x=[Be x]:=by
 obtain⟨k,s,m,ks⟩:=x;have h':k≠26:=h;rw[Hj,if_neg h',Be]
theorem Lg(s:Ad)(m:Int)(ks:List Nd):Hj (.mk 26 s m ks)=Ae3 s (B4 ks):=by rw[Hj,if_pos rfl]
theorem Vk(a b:List Nd):B4 (a++b)=B4 a++B4 b:=by
 induction a with
 |nil=>simp[A9]
 |cons x a ih=>simp[Au,ih]
theorem Iv{l:List Nd}(h:∀x,x∈l→x.kind≠26):B4 l=l.map Be:=by
 induction l with
 |nil=>simp[A9]
 |cons x l ih=>rw[Au,Bj (h x (by simp)),ih fun y hy=>h y (by simp[hy])];simp
theorem C7{x:Nd}(h:FE x):1≤x.kind∧x.kind≤8:=by
 cases h<;>simp;omega
theorem Kf{x:Nd}(h:FC x):11≤x.kind∧x.kind≤16:=by
 cases h;simp;omega
theorem Awz{x:Nd}(h:FS x):21≤x.kind∧x.kind≤29:=by
 cases h<;>simp
theorem Acd{x:Nd}(h:FV x):x.kind=31∨x.kind=32:=by
 cases h<;>simp
theorem Vj{x:Nd}(h:FE x):Be x=x:=by
 induction h with
 |num m h0 h1=>rw[Bi,A9]
 |var s h=>rw[Bi,A9]
 |cell s a h ha ih=>rw[Bi,Au,A9,Bj (by have:=C7 ha;omega),ih];rfl
 |len s h=>rw[Bi,A9]
 |neg a ha ih=>rw[Bi,Au,A9,Bj (by have:=C7 ha;omega),ih];rfl
 |two k a b hk ha hb iha ihb=>rw[Bi,Au,Au,A9,Bj (by have:=C7 ha;omega),Bj (by have:=C7 hb;omega),iha,ihb];rfl
theorem To{x:Nd}(h:FC x):Be x=x:=by
 cases h with
 |mk k a b h0 h1 ha hb=>rw[Bi,Au,Au,A9,Bj (by have:=C7 ha;omega),Bj (by have:=C7 hb;omega),Vj ha,Vj hb];rfl
theorem A27{x:Nd}(h:FV x):Be x=x:=by
 cases h<;>rw[Bi,A9]
theorem Vr(a b:List Nd):wL (a++b)=wL a+wL b:=by
 induction a with
 |nil=>simp[wL]
 |cons x a ih=>simp only[R1,wL,ih];omega
theorem A19(s:Ad)(l:List Nd):wL (Ae3 s l)≤wL l+10+5*s.length:=by
 unfold Ae3;split
 ·simp only[wL,wN,Vr,Xi];omega
 ·simp[wL]
theorem Sd{P:Nd→Prop}{Q:List Nd→Prop}(h1:∀(k:Int)(s:Ad)(m:Int)(ks:List Nd),Q ks→P (.mk k s m ks))(h2:Q [])(h3:∀(x:Nd)(l:List Nd),P x→Q l→Q (x::l)):(∀x,P x)∧∀l,Q l:=by
 have hP:∀x,P x:=fun x=>Nd.rec (motive_1:=P) (motive_2:=Q) h1 h2 h3 x;refine⟨hP,fun l=>?_⟩
 induction l with
 |nil=>exact h2
 |cons x l ih=>exact h3 x l (hP x) ih
theorem Au7:(∀n:Nd,wN (Be n)≤10*wN n∧wL (Hj n)≤10*wN n)∧∀l:List Nd,wL (B4 l)≤10*wL l:=by
 refine Sd (fun k s m ks ih=>?_) ?_ (fun x l hx hl=>?_)
 ·have hM:wN (Be (.mk k s m ks))≤10*wN (.mk k s m ks):=by rw[Bi];simp only[wN];omega
  refine⟨hM,?_⟩;by_cases hk:k=26
  ·subst hk;rw[Lg];have:=A19 s (B4 ks);simp only[wN];omega
  ·rw[Bj (by simpa using hk)];simp only[wL];omega
 ·simp[A9,wL]
 ·rw[Au,Vr];simp only[wL];omega
theorem Qe(n:Nd):wN (Be n)≤10*wN n∧wL (Hj n)≤10*wN n:=Au7.1 n
theorem Wm(l:List Nd):wL (B4 l)≤10*wL l:=by
 induction l with
 |nil=>simp[A9,wL]
 |cons x l ih=>rw[Au,Vr];have:=(Qe x).2;simp only[wL];omega
theorem M9(l:List Nd):l.length≤wL l:=by
 induction l with
 |nil=>simp
 |cons x l ih=>have:=Xf x;simp[wL];omega
theorem Ny(k:Int)(s:Ad)(m:Int)(ks:List Nd)(hk:k≠26)(hk':k≠30)(hw:wN (.mk k s m ks)≤1000000000)
 (hx:∀x,x∈ks→(x.kind=30∧Pure X 170 [nd x] (.sl (Av [Be x]) .no))∨(x.kind≠30∧Be x=x)) :
 Pure X 170 [nd (.mk k s m ks)] (.sl (Av [.mk k s m (ks.map Be)]) .no):=by
 have ne1:(k==30)=false:=by simpa using hk'
 have ne2:(k==26)=false:=by simpa using hk
 have hkl:=Ho (.mk k s m ks);simp only[G4]at hkl;refine Pure.run func170 ?_;refine Ah ?_ (ht:=ne1);refine Ah ?_ (ht:=ne2);refine E6 1 0 3 rfl rfl rfl rfl rfl rfl ?_;refine Ar (ι:=Nat) 2 1 (fun i=>i≤ks.length) (fun i=>[(6,vi i),(1,.ptr 0 0 0),(3,.ptr 1 0 0)]) (fun i=>⟨[[Ag (.mk k s m ks)],[[vi k,str s,vi m,.sl (Av ((ks.take i).map Be)) (.tok 0)]]],[i]⟩) (fun i=>ks.length-i) ?_ 0
  (Cb _) ⟨rfl,rfl,rfl,trivial⟩
 intro i hi IH;refine Cp (fun h=>?_) (fun h=>?_)
 ·have hlt:i<ks.length:=by have:=A6 h;rw[Ae]at this;simp at this;omega
  obtain⟨x,hxg⟩:=Ab ks hlt;have hwx:wN x<wN (.mk k s m ks):=Jx (n:=.mk k s m ks) (Bn hxg);have htl:(Av ((ks.take i).map Be)).length=i:=by rw[Ae];simp;omega
  have hres:Av ((ks.take i).map Be)++[Ag (Be x)]=Av ((ks.take (i+1)).map Be):=by simp[Ax,Hq,hxg]
  have hgo:AK X ⟨170,f170,0,0⟩ (J6 false 15 f170) [(6,vi i),(1,.ptr 0 0 0),(3,.ptr 1 0 0)] ⟨[[Ag (.mk k s m ks)],[[vi k,str s,vi m,.sl (Av ((ks.take (i+1)).map Be)) (.tok 0)]]],[i+1]⟩
   (fun e S=>e=.ret (.sl (Av [.mk k s m (ks.map Be)]) .no)∧S=⟨[],[]⟩):=by
   refine Dj ?_;refine Ba 100 rfl ?_;exact IH (i+1) hlt (by omega) _ _ ⟨vsx (by omega),rfl,rfl,trivial⟩ rfl rfl rfl
  refine Bv i (by omega) (Ap (l:=ks) hxg) ?_;rcases hx x (Bn hxg)with⟨h30,hp⟩|⟨h30,hp⟩
  ·refine Ay ?_ (ht:=by simpa using h30);refine Eo 10240 ?_;refine Dk i (by omega) (Ap (l:=ks) hxg) ?_;refine B2 hp ?_;refine Dk 0 (by omega) (W4 (Be x) []) ?_;refine C4 (Cn (res:=Av ((ks.take (i+1)).map Be)) rfl rfl rfl rfl rfl rfl rfl rfl rfl rfl rfl rfl rfl rfl htl (E9 _) rfl rfl rfl ?_ hres rfl) ?_
   ·rw[htl];simp;omega
   refine A0 ?_;refine C4 (Bg rfl rfl rfl rfl rfl rfl rfl) ?_;refine Alt 15 ?_;exact Br 2 1 hgo ⟨rfl,rfl,rfl,trivial⟩ (by simp[St.drop,Ae];omega) rfl rfl rfl rfl
  ·refine Ah ?_ (ht:=by simpa using h30);refine Eo 2560 ?_;refine Dk i (by omega) (Ap (l:=ks) hxg) ?_;refine B2 (Ad4 x (by omega)) ?_;rw[hp]at hres;refine C4 (Cn (res:=Av ((ks.take (i+1)).map Be)) rfl rfl rfl rfl rfl rfl rfl rfl rfl rfl rfl rfl rfl rfl htl (E9 _) rfl rfl rfl ?_ hres rfl) ?_
   ·rw[htl];simp;omega
   refine A0 ?_;refine C4 (Bg rfl rfl rfl rfl rfl rfl rfl) ?_;refine Alt 15 ?_;exact Br 2 1 hgo ⟨rfl,rfl,rfl,trivial⟩ (by simp[St.drop,Ae];omega) rfl rfl rfl rfl
 ·have:i=ks.length:=by have:=Bd h;rw[Ae]at this;simp at this;omega
  subst this;refine Ao func170 ?_;rw[Jh,Ax [_]];rfl
theorem Akk(l:List Nd):Nt (Av l)=true:=Li.2 fun r hr x hx=>by
 rw[Ax]at hr;obtain⟨k,_,rfl⟩:=zzq50.1 hr;simp[Ag]at hx;rcases hx with rfl|rfl|rfl|rfl<;>rfl
theorem Hands.pure{X:Cx}{f:FuncId}{args:An}{y r:AV}{tk:List Nat}(h:Hands X f args ⟨[],[]⟩ y ⟨[],tk⟩) [hz:FzC ⟨[],tk⟩ 0 0 y r]:Pure X f args r:=by
 refine⟨h.1,fun E w vs hd hI hs hr=>(h.2 E w vs hd hI hs hr).mono fun e w' he=>?_⟩;obtain⟨E1,S1,d1,d2,d3⟩:=he;cases e with
 |returned v=>
  obtain⟨r',hr',hre,rfl⟩:=d3;cases hre;exact⟨E1.drop 0 0,_,d1.drop (fun rows hr=>by simp at hr),d2.trans (Evol.drop E1 w' 0 0),r,hz.s.rel d1 hr',rfl,by simp[St.drop]⟩
 |panicked ch=>obtain⟨h,_⟩:=d3;cases h
 |outgrown=>exact d3.elim
theorem Aj6(m:Int)(s:Ad)(ks:List Nd)(hw:wN (.mk 30 s m ks)≤1000000000)
 (hx:∀x,x∈ks→Pure X 170 [nd x] (.sl (Av (Hj x)) .no)∧Nat.ble 1 (Hj x).length=true) :
 Hands X 170 [nd (.mk 30 s m ks)] ⟨[],[]⟩ (.sl [[vi 30,str s,vi m,.sl (Av (B4 ks)) (.tok 0)]] .tight) ⟨[],[(B4 ks).length]⟩:=by
 have hkl:=Ho (.mk 30 s m ks);simp only[G4]at hkl;refine Hands.run func170 ?_;refine Ay ?_;refine E6 1 0 3 rfl rfl rfl rfl rfl rfl ?_;refine Ar (ι:=Nat) 2 1 (fun i=>i≤ks.length) (fun i=>[(4,vi i),(1,.ptr 0 0 0),(3,.ptr 1 0 0)]) (fun i=>⟨[[Ag (.mk 30 s m ks)],[[vi 30,str s,vi m,.sl (Av (B4 (ks.take i))) (.tok 0)]]],[(B4 (ks.take i)).length]⟩) (fun i=>ks.length-i) ?_ 0
  (Cb _) ⟨rfl,rfl,rfl,trivial⟩ (by simp[A9];rfl)
 intro i hi IH;refine Cp (fun h=>?_) (fun h=>?_)
 ·have hlt:i<ks.length:=by have:=A6 h;rw[Ae]at this;simp at this;omega
  obtain⟨x,hxg⟩:=Ab ks hlt;have hwx:wN x<wN (.mk 30 s m ks):=Jx (n:=.mk 30 s m ks) (Bn hxg);have hsn:B4 (ks.take (i+1))=B4 (ks.take i)++Hj x:=by rw[Hq,hxg,Vk];simp[Au,A9]
  have hl1:=M9 (B4 (ks.take i));have hl2:=Wm (ks.take i);have hl3:wL (ks.take i)≤wL ks:=by
   have:=Vr (ks.take i) (ks.drop i);rw[Ag9]at this;omega
  have hl4:=M9 (Hj x);have hl5:=(Qe x).2;have hw':=hw;simp only[wN]at hw';obtain⟨hp,hne⟩:=hx x (Bn hxg);refine Eo 1280 ?_;refine Dk i (by omega) (Ap (l:=ks) hxg) ?_;refine B2 hp ?_;refine C4 (Cn (res:=Av (B4 (ks.take (i+1)))) rfl rfl rfl rfl rfl rfl rfl rfl rfl rfl rfl rfl rfl rfl (Ae _) (E9 _) (E9 _) (Akk _) (by rw[Ae];exact hne) ?_ ?_ rfl) ?_
  ·rw[Ae,Ae];simp only[wN]at hwx;omega
  ·rw[hsn,Ax,Ax,Ax,Jp]
  refine A0 ?_;refine C4 (Bg rfl rfl rfl rfl rfl rfl rfl) ?_;refine Bu ?_;refine IH (i+1) hlt (by omega) _ _ ⟨vsx (by omega),rfl,rfl,trivial⟩ ?_ rfl rfl;simp[St.drop,Ae,hsn]
 ·have:i=ks.length:=by have:=Bd h;rw[Ae]at this;simp at this;omega
  subst this;rw[Jh];exact Z4 func170 rfl rfl rfl rfl
theorem Zh(m:Int)(s:Ad)(ks:List Nd)(hw:wN (.mk 30 s m ks)≤1000000000)
 (hx:∀x,x∈ks→Pure X 170 [nd x] (.sl (Av (Hj x)) .no)∧Nat.ble 1 (Hj x).length=true) :
 Pure X 170 [nd (.mk 30 s m ks)] (.sl (Av [.mk 30 s m (B4 ks)]) .no):=by
 have:=(Aj6 m s ks hw hx).pure;rw[Ax [_]];exact this
theorem Rl{x:Nd}(h:FS x):Nat.ble 1 (Hj x).length=true:=by
 by_cases hk:x.kind=26
 ·cases h with
  |for_ s a b l h ha hb hl=>
   rw[Lg,Au,Au,Au,A9,Bj (by have:=C7 ha;omega),Bj (by have:=C7 hb;omega),Bj (by simp),Bi];rfl
  |_=>simp at hk
 ·rw[Bj hk];rfl
theorem Au1(x:Nd)(h:FS x)(hw:wN x≤1000000000):Pure X 170 [nd x] (.sl (Av (Hj x)) .no):=by
 induction h with
 |set s a h ha=>
  rw[Bj (by simp),Bi,Iv (by simp;have:=C7 ha;omega)];exact Ny 21 s 0 _ (by simp) (by simp) hw fun x hx=>by simp at hx;subst hx;exact .inr ⟨by have:=C7 ha;omega,Vj ha⟩
 |put s a b h ha hb=>
  rw[Bj (by simp),Bi,Iv (by simp;have:=C7 ha;have:=C7 hb;omega)];refine Ny 22 s 0 _ (by simp) (by simp) hw fun x hx=>?_;simp at hx;rcases hx with rfl|rfl
  ·exact .inr ⟨by have:=C7 ha;omega,Vj ha⟩
  ·exact .inr ⟨by have:=C7 hb;omega,Vj hb⟩
 |read s h=>
  rw[Bj (by simp),Bi,Iv (by simp)];exact Ny 23 s 0 _ (by simp) (by simp) hw fun x hx=>by cases hx
 |skip=>
  rw[Bj (by simp),Bi,Iv (by simp)];exact Ny 28 [] 0 _ (by simp) (by simp) hw fun x hx=>by cases hx
 |stop=>
  rw[Bj (by simp),Bi,Iv (by simp)];exact Ny 29 [] 0 _ (by simp) (by simp) hw fun x hx=>by cases hx
 |check c hc=>
  rw[Bj (by simp),Bi,Iv (by simp;have:=Kf hc;omega)];exact Ny 27 [] 0 _ (by simp) (by simp) hw fun x hx=>by simp at hx;subst hx;exact .inr ⟨by have:=Kf hc;omega,To hc⟩
 |whil c l hc hl ihl=>
  rw[Bj (by simp),Bi,Iv (by simp;have:=Kf hc;omega)];simp[wN,wL]at hw;refine Ny 25 [] 0 _ (by simp) (by simp) (by simp[wN,wL];omega) fun x hx=>?_;simp at hx;rcases hx with rfl|rfl
  ·exact .inr ⟨by have:=Kf hc;omega,To hc⟩
  ·exact .inl ⟨rfl,by rw[Bi];exact Zh 0 [] l (by simp[wN];omega) fun x hx=>⟨ihl x hx (by have:=Qp hx;omega),Rl (hl x hx)⟩⟩
 |ifs c l l' hc hl hl' ihl ihl'=>
  rw[Bj (by simp),Bi,Iv (by simp;have:=Kf hc;omega)];simp[wN,wL]at hw;refine Ny 24 [] 0 _ (by simp) (by simp) (by simp[wN,wL];omega) fun x hx=>?_;simp at hx;rcases hx with rfl|rfl|rfl
  ·exact .inr ⟨by have:=Kf hc;omega,To hc⟩
  ·exact .inl ⟨rfl,by rw[Bi];exact Zh 0 [] l (by simp[wN];omega) fun x hx=>⟨ihl x hx (by have:=Qp hx;omega),Rl (hl x hx)⟩⟩
  ·exact .inl ⟨rfl,by rw[Bi];exact Zh 0 [] l' (by simp[wN];omega) fun x hx=>⟨ihl' x hx (by have:=Qp hx;omega),Rl (hl' x hx)⟩⟩
 |for_ s a b l h ha hb hl ihl=>
  simp[wN,wL]at hw;have hB:=Aj6 0 [] l (by simp[wN];omega) fun x hx=>⟨ihl x hx (by have:=Qp hx;omega),Rl (hl x hx)⟩
  have hl1:=M9 (B4 l);have hl2:=Wm l;rw[Lg,Au,Au,Au,A9,Bj (by have:=C7 ha;omega),Bj (by have:=C7 hb;omega),Bj (by simp),Bi,Vj ha,Vj hb];refine Pure.run func170 ?_;refine Ah ?_;refine Ay ?_;refine Bv 2 (by omega) (Az1 a b _ []) ?_;refine Af (τ':=[0]) [] [] hB ?_;refine Bv 0 (by omega) (rows:=[_]) rfl ?_;refine Eo 10240 ?_;refine B2 (Au0 s) ?_;refine B2 Ayz ?_;refine B2 (Zi 6 (.mk 2 s 0 []) (.mk 1 [] 1 [])) ?_;refine B2 (A04 s (.mk 6 [] 0 [.mk 2 s 0 [],.mk 1 [] 1 []])) ?_;refine C4 (Cn (res:=Av (B4 l++[.mk 21 s 0 [.mk 6 [] 0 [.mk 2 s 0 [],.mk 1 [] 1 []]]])) rfl rfl rfl rfl rfl rfl rfl rfl rfl rfl rfl rfl rfl rfl (Ae _) (E9 _) rfl rfl rfl ?_ ?_ rfl) ?_
  ·rw[Ae];simp;omega
  ·simp[Ax]
  refine A0 ?_;refine C4 (Bg rfl rfl rfl rfl rfl rfl rfl) ?_;refine Bu ?_;refine Eo 0 ?_;refine Dk 0 (by omega) (W4 a _) ?_;refine B2 (Ad4 a (by omega)) ?_;refine B2 (A04 s a) ?_;refine B2 (Au0 s) ?_;refine Dk 1 (by omega) (Ae5 a b _) ?_;refine B2 (Ad4 b (by omega)) ?_;refine B2 (Zi 11 (.mk 2 s 0 []) b) ?_;refine B2 (Zi 25 (.mk 11 [] 0 [.mk 2 s 0 [],b]) (.mk 30 [] 0 (B4 l++[.mk 21 s 0 [.mk 6 [] 0 [.mk 2 s 0 [],.mk 1 [] 1 []]]]))) ?_;refine Bu ?_;refine Ao func170 ?_;show AV.sl _ _=AV.sl (Av (Ae3 s [a,b,.mk 30 [] 0 (B4 l)])) _;rw[Ax (Ae3 s _)];rfl
theorem Zk{ds l:List Nd}(hd:∀x,x∈ds→FV x):Be (.mk 40 [] 0 (ds++[.mk 30 [] 0 l]))=.mk 40 [] 0 (ds++[.mk 30 [] 0 (B4 l)]):=by
 rw[Bi,Vk,Au,A9,Bj (by simp),Bi];congr 2;rw[Iv fun x hx=>by have:=Acd (hd x hx);omega];have:ds.map Be=ds:=by
  conv=>rhs;rw[←List.map_id ds]
  exact List.map_congr_left fun x hx=>A27 (hd x hx)
 rw[this]
theorem Abu(n:Nd)(h:FP n)(hw:wN n≤100000000):Pure X 113 [nd n] (nd (Be n)):=by
 cases h with
 |mk ds l hd hl=>
 rw[Zk hd];have hkl:=Ho (.mk 40 [] 0 (ds++[.mk 30 [] 0 l]));simp only[G4,F5,Ab0]at hkl;have hwl:wN (.mk 30 [] 0 l)<wN (.mk 40 [] 0 (ds++[.mk 30 [] 0 l])):=Jx (n:=.mk 40 [] 0 (ds++[.mk 30 [] 0 l])) (by simp);have hwl':wN (.mk 30 [] 0 l)=1+wL l:=by simp[wN]
 have hN:((Av (ds++[.mk 30 [] 0 l])).length:Int)=ds.length+1:=by rw[Ae];simp
 have hwr:IntKind.i64.wrap (((Av (ds++[.mk 30 [] 0 l])).length:Int)-1)=ds.length:=by rw[hN,Ac (by omega) (by omega)];omega
 refine Pure.run func113 ?_;refine E6 2 0 3 rfl rfl rfl rfl rfl rfl ?_;refine Ar (ι:=Nat) 3 1 (fun i=>i≤ds.length) (fun i=>[(4,vi i),(1,.ptr 0 0 0),(2,.ptr 1 0 0),(3,.ptr 2 0 0)])
  (fun i=>⟨[[Ag (.mk 40 [] 0 (ds++[.mk 30 [] 0 l]))],[zN],[[vi 40,str [],vi 0,.sl (Av (ds.take i)) (.tok 0)]]],[i]⟩) (fun i=>ds.length-i) ?_ 0
  (Cb _) ⟨rfl,rfl,rfl,rfl,trivial⟩
 intro i hi IH;have htl:(Av (ds.take i)).length=i:=by rw[Ae];simp;omega
 refine Cp (fun h=>?_) (fun h=>?_)
 ·have hlt:i<ds.length:=by have:=A6 h;rw[G4,hwr]at this;omega
  obtain⟨x,hx⟩:=Ab ds hlt;have hx':(ds++[Nd.mk 30 [] 0 l])[i]?=some x:=by rw[Dd hlt];exact hx
  have hwx:wN x<wN (.mk 40 [] 0 (ds++[.mk 30 [] 0 l])):=Jx (n:=.mk 40 [] 0 (ds++[.mk 30 [] 0 l])) (Bn hx');refine Eo 2560 ?_;refine Dk i (by omega) (Ap hx') ?_;refine B2 (Ad4 x (by omega)) ?_;refine C4 (Cn (res:=Av (ds.take (i+1))) rfl rfl rfl rfl rfl rfl rfl rfl rfl rfl rfl rfl rfl rfl htl (E9 _) rfl rfl rfl ?_ ?_ rfl) ?_
  ·rw[htl];simp;omega
  ·simp[Ax,Hq,hx]
  refine A0 ?_;refine C4 (Bg rfl rfl rfl rfl rfl rfl rfl) ?_;refine Bu ?_;refine IH (i+1) hlt (by omega) _ _ ⟨vsx (by omega),rfl,rfl,rfl,trivial⟩ ?_ rfl rfl;simp[St.drop,htl]
 ·have:i=ds.length:=by have:=Bd h;rw[G4,hwr]at this;omega
  subst this;rw[Jh]at htl⊢;have hlast:(Av (ds++[Nd.mk 30 [] 0 l]))[(IntKind.i64.wrap (((Av (ds++[.mk 30 [] 0 l])).length:Int)-1)).toNat]?=some (Ag (.mk 30 [] 0 l)):=by
   rw[hwr];exact Ap (by simp)
  have hB:=Zh 0 [] l (by omega) fun x hx=>⟨Au1 x (hl x hx) (by have:=Qp hx;omega),Rl (hl x hx)⟩
  refine Eo 81920 ?_;refine Dk _ (by rw[hwr];omega) hlast ?_;refine B2 hB ?_;refine Dk 0 (by omega) (W4 _ []) ?_;refine C4 (Cn (res:=Av (ds++[.mk 30 [] 0 (B4 l)])) rfl rfl rfl rfl rfl rfl rfl rfl rfl rfl rfl rfl rfl rfl htl (E9 _) rfl rfl rfl ?_ ?_ rfl) ?_
  ·rw[htl];simp;omega
  ·rw[Ax (ds++_),Ax ds,Jp];rfl
  refine A0 ?_;refine C4 (Bg rfl rfl rfl rfl rfl rfl rfl) ?_;refine Bu ?_;refine Ao func113 ?_;rfl
def twG(pre:List Ad):List Nd→Option Ad
 |[]=>none
 |d::l=>if has pre d.name then some d.name else twG (pre++[d.name]) l
def Vd(n:Nd):Bool:=decide (8<(A3 n 31).length)||decide (4<(A3 n 32).length)
def bigS(l:List Nd):Bool:=l.any fun d=>decide (60<d.num)
def Dy(n:Nd):Nd:=n.kids.getLastD Cm
def Fj(n:Nd):Int×Ad:=
 if Dw n then
  (if Vd n then(3,[])else if bigS n.kids.dropLast then(3,[])else
    match twG [] n.kids.dropLast with
    |some s=>(6,s)
    |none=>
     if (Hk (A3 n 31) (A3 n 32) 7 (Dy n)).2 then(7,(Hk (A3 n 31) (A3 n 32) 7 (Dy n)).1)
     else if (Hk (A3 n 31) (A3 n 32) 8 (Dy n)).2 then(8,(Hk (A3 n 31) (A3 n 32) 8 (Dy n)).1)
     else if Dw (Be n)then(0,[])else(5,[]))
 else(4,[])
theorem Tp{n:Nd}(h:Dw n=true):FP n∧Al n≤500∧Dn n≤24:=by
 simp only[Dw,Tz,Du,Mz,zzq34]at h;exact⟨A0r n h.1.2.2 h.1.1,h.1.2.1.1,h.1.2.1.2⟩
theorem Aia(a b:List Ad)(s:Ad):has (a++b) s=(has a s||has b s):=by simp[has]
abbrev gC(v a:List Ad):Cw:=[(1,.ptr 0 0 0),(2,.ptr 1 0 0),(3,.sl (Eu v) .no),(4,.sl (Eu a) .no)]
theorem Ayv(n:Nd)(hn:wN n≤100000000):Pure X 97 [nd n] (.agg [vi (Fj n).1,str (Fj n).2]):=by
 refine Pure.run func97 ?_;refine Aj (Akp n (by omega)) ?_;refine Ai (fun h1=>?_) (fun h1=>?_)
 ·have h1':Dw n=false:=by have:(!Dw n)=true:=h1;simpa using this
  refine Ao func97 ?_;simp only[Fj];rw[if_neg (by simp[h1'])]
 have h1':Dw n=true:=by have:(!Dw n)=false:=h1;simpa using this
 obtain⟨hP,hc,hdp⟩:=Tp h1';have hkl:=Ho n;have hC:Fj n=(if Vd n then(3,[])else if bigS n.kids.dropLast then(3,[])else
  match twG [] n.kids.dropLast with
  |some s=>(6,s)
  |none=>
   if (Hk (A3 n 31) (A3 n 32) 7 (Dy n)).2 then(7,(Hk (A3 n 31) (A3 n 32) 7 (Dy n)).1)
   else if (Hk (A3 n 31) (A3 n 32) 8 (Dy n)).2 then(8,(Hk (A3 n 31) (A3 n 32) 8 (Dy n)).1)
   else if Dw (Be n)then(0,[])else(5,[]):Int×Ad):=by simp only[Fj];rw[if_pos h1']
 have hvl:(A3 n 31).length≤1000000000:=by have:=Aay n.kids.dropLast 31;simp[A3]at this⊢;omega
 have hal:(A3 n 32).length≤1000000000:=by have:=Aay n.kids.dropLast 32;simp[A3]at this⊢;omega
 refine Aj (Tj n 31 (by omega)) ?_;refine Aj (Tj n 32 (by omega)) ?_;generalize hv:A3 n 31=v at hC hvl⊢;generalize ha:A3 n 32=a at hC hal⊢;have hvs:((Eu v).length:Int)=v.length:=by rw[Ft]
 have has':((Eu a).length:Int)=a.length:=by rw[Ft]
 have hM:Vd n=(decide (8<v.length)||decide (4<a.length)):=by simp only[Vd,hv,ha]
 have hne:n.kids≠[]:=by cases hP;simp
 have hpos:0<n.kids.length:=zzq45.2 hne;have hw:IntKind.i64.wrap (((Av n.kids).length:Int)-1)=((n.kids.length-1:Nat):Int):=by rw[Ae,Ac (by omega) (by omega)];omega
 have hgetD:∀i,i<n.kids.length-1→∀x,n.kids[i]?=some x→n.kids.dropLast[i]?=some x:=fun i hi x hx=>by
  rw[Alj,Z0,if_pos hi];exact hx
 have hdl:n.kids.dropLast.length=n.kids.length-1:=by simp
 have h20:Vd n=false→bigS n.kids.dropLast=false→twG [] n.kids.dropLast=none→AK X ⟨97,f97,0,0⟩ (J6 false 20 f97) (gC v a) ⟨[[Ag n],[[vi 0,str []]]],[]⟩
  (fun e S=>e=.ret (.agg [vi (Fj n).1,str (Fj n).2])∧S=⟨[],[]⟩):=fun g1 g2 g3=>by
  rw[hC,if_neg (by simp[g1]),if_neg (by simp[g2]),g3];simp only;have hl:n.kids[n.kids.length-1]?=some (Dy n):=by
   simp only[Dy];cases hk:n.kids with
   |nil=>exact absurd hk hne
   |cons y l=>rw[Alk,List.getLast?_eq_getElem?];simp
  have hlast:(Av n.kids)[(IntKind.i64.wrap (((Av n.kids).length:Int)-1)).toNat]?=some (Ag (Dy n)):=by
   rw[hw];exact Ap (by simpa using hl)
  have hwl:wN (Dy n)≤100000000:=by
   have:=Jx (Bn hl);omega
  refine Dj ?_;refine Ba 100 rfl ?_;refine Bv _ (by rw[hw];omega) hlast ?_;refine Aj (Aph v a 7 (.inl rfl) hvl hal (Dy n) (by omega)) ?_;refine Ai (fun h2=>?_) (fun h2=>?_)
  ·have h2':(Hk v a 7 (Dy n)).2=true:=h2;rw[if_pos h2'];refine Ao func97 ?_;rfl
  have h2':(Hk v a 7 (Dy n)).2=false:=h2;rw[if_neg (by simp[h2'])];refine Aj (Aph v a 8 (.inr rfl) hvl hal (Dy n) (by omega)) ?_;refine Ai (fun h3=>?_) (fun h3=>?_)
  ·have h3':(Hk v a 8 (Dy n)).2=true:=h3;rw[if_pos h3'];refine Ao func97 ?_;rfl
  have h3':(Hk v a 8 (Dy n)).2=false:=h3;rw[if_neg (by simp[h3'])];refine Aj (Abu n hP hn) ?_;refine Aj (Akp (Be n) (by have:=(Qe n).1;omega)) ?_;refine Ai (fun h4=>?_) (fun h4=>?_)
  ·have h4':Dw (Be n)=false:=by have:(!Dw (Be n))=true:=h4;simpa using this
   rw[if_neg (by simp[h4'])];refine Ao func97 ?_;rfl
  ·have h4':Dw (Be n)=true:=by have:(!Dw (Be n))=false:=h4;simpa using this
   rw[if_pos h4'];refine Ao func97 ?_;rfl
 have h12:Vd n=false→bigS n.kids.dropLast=false→AK X ⟨97,f97,0,0⟩ (J6 false 12 f97) (gC v a) ⟨[[Ag n],[[vi 0,str []]]],[]⟩
  (fun e S=>e=.ret (.agg [vi (Fj n).1,str (Fj n).2])∧S=⟨[],[]⟩):=fun g1 g2=>by
  refine Dj ?_;refine Ba 100 rfl ?_;refine Ar (ι:=Nat) 2 0 (fun i=>i≤n.kids.length-1∧twG [] n.kids.dropLast=twG ((n.kids.dropLast.take i).map Nd.name) (n.kids.dropLast.drop i)) (fun i=>(6,vi i)::gC v a) (fun _=>⟨[[Ag n],[[vi 0,str []]]],[]⟩)
   (fun i=>n.kids.length-i) ?_ 0 ⟨Cb _,by simp⟩ ⟨rfl,rfl,rfl,rfl,rfl,trivial⟩
  rintro i ⟨hi,hT⟩ IH;refine Ba 100 rfl ?_;refine Ec 0 20 (fun h=>?_) (fun h=>?_)
  ·have hlt:i<n.kids.length-1:=by have:=A6 h;rw[hw]at this;omega
   obtain⟨x,hx⟩:=Ab n.kids (i:=i) (by omega);have hx':=hgetD i hlt x hx;have hd:twG ((n.kids.dropLast.take i).map Nd.name) (n.kids.dropLast.drop i)=if has ((n.kids.dropLast.take i).map Nd.name) x.name then some x.name else twG ((n.kids.dropLast.take (i+1)).map Nd.name) (n.kids.dropLast.drop (i+1)):=by
    rw[Bp hx'];simp only[twG];rw[show (n.kids.dropLast.take (i+1)).map Nd.name=(n.kids.dropLast.take i).map Nd.name++[x.name] by rw[Hq,hx'];simp]
   rw[hd]at hT;refine Ba 100 rfl ?_;refine Ar (ι:=Nat) 2 0 (fun k=>k≤i∧has ((n.kids.dropLast.take k).map Nd.name) x.name=false) (fun k=>(7,vi k)::(6,vi i)::gC v a) (fun _=>⟨[[Ag n],[[vi 0,str []]]],[]⟩)
    (fun k=>i-k) ?_ 0 ⟨Cb _,by simp[has]⟩ ⟨rfl,rfl,rfl,rfl,rfl,rfl,trivial⟩
   rintro k ⟨hk,hno⟩ IH2;refine Cp (fun h2=>?_) (fun h2=>?_)
   ·have hkl':k<i:=by have:=A6 h2;omega
    obtain⟨y,hy⟩:=Ab n.kids (i:=k) (by omega);have hy':=hgetD k (by omega) y hy;have hsn:has ((n.kids.dropLast.take (k+1)).map Nd.name) x.name=(y.name==x.name):=by
     rw[show (n.kids.dropLast.take (k+1)).map Nd.name=(n.kids.dropLast.take k).map Nd.name++[y.name] by rw[Hq,hy'];simp,Aia,hno];simp[has]
    refine Eo 0 ?_;refine Dk k (by omega) (Ap hy) ?_;refine Dk i (by omega) (Ap hx) ?_;refine Bu ?_;refine Ai (fun h3=>?_) (fun h3=>?_)
    ·have h3':(y.name==x.name)=true:=h3;have hin:has ((n.kids.dropLast.take i).map Nd.name) x.name=true:=by
      have e:n.kids.dropLast.take i=n.kids.dropLast.take (k+1)++(n.kids.dropLast.take i).drop (k+1):=by
       conv=>lhs;rw[←Ag9 (k+1) (n.kids.dropLast.take i)]
       rw[List.take_take,Nat.min_eq_left (by omega)]
      rw[e,Jp,Aia,hsn,h3'];rfl
     rw[if_pos hin]at hT;refine Bv i (by omega) (Ap hx) ?_;refine Ao func97 ?_;rw[hC,if_neg (by simp[g1]),if_neg (by simp[g2]),hT]
    ·have h3':(y.name==x.name)=false:=h3;exact IH2 (k+1) ⟨hkl',by rw[hsn,h3']⟩ (by omega) _ _ ⟨vsx (by omega),rfl,rfl,rfl,rfl,rfl,trivial⟩ rfl rfl rfl
   ·have:k=i:=by have:=Bd h2;omega
    subst this;rw[if_neg (by rw[hno];simp)]at hT;exact IH (k+1) ⟨by omega,hT⟩ (by omega) _ _ ⟨vsx (by omega),rfl,rfl,rfl,rfl,trivial⟩ rfl rfl rfl
  ·have:i=n.kids.length-1:=by have:=Bd h;rw[hw]at this;omega
   rw[this,←hdl,Hr,Jh]at hT;exact Br 2 0 (h20 g1 g2 (by rw[hT];rfl)) ⟨rfl,rfl,rfl,rfl,trivial⟩ rfl rfl rfl rfl rfl
 have h7:Vd n=false→AK X ⟨97,f97,0,0⟩ (J6 false 7 f97) (gC v a) ⟨[[Ag n],[[vi 0,str []]]],[]⟩
  (fun e S=>e=.ret (.agg [vi (Fj n).1,str (Fj n).2])∧S=⟨[],[]⟩):=fun g1=>by
  refine Dj ?_;refine Ba 100 rfl ?_;refine Ar (ι:=Nat) 2 0 (fun i=>i≤n.kids.length-1∧bigS n.kids.dropLast=bigS (n.kids.dropLast.drop i)) (fun i=>(5,vi i)::gC v a) (fun _=>⟨[[Ag n],[[vi 0,str []]]],[]⟩)
   (fun i=>n.kids.length-i) ?_ 0 ⟨Cb _,by simp⟩ ⟨rfl,rfl,rfl,rfl,rfl,trivial⟩
  rintro i ⟨hi,hT⟩ IH;refine Ba 100 rfl ?_;refine Ec 0 12 (fun h=>?_) (fun h=>?_)
  ·have hlt:i<n.kids.length-1:=by have:=A6 h;rw[hw]at this;omega
   obtain⟨x,hx⟩:=Ab n.kids (i:=i) (by omega);have hx':=hgetD i hlt x hx;have hd:bigS (n.kids.dropLast.drop i)=(decide (60<x.num)||bigS (n.kids.dropLast.drop (i+1))):=by rw[Bp hx'];rfl
   rw[hd]at hT;refine Ba 100 rfl ?_;refine Bv i (by omega) (Ap hx) ?_;refine Ai (fun h2=>?_) (fun h2=>?_)
   ·have h2':decide (60<x.num)=true:=by simpa using A6 h2
    refine Ao func97 ?_;rw[hC,if_neg (by simp[g1]),if_pos (by rw[hT,h2'];rfl)]
   ·have h2':decide (60<x.num)=false:=by simpa using Bd h2
    exact IH (i+1) ⟨by omega,by rw[hT,h2'];rfl⟩ (by omega) _ _ ⟨vsx (by omega),rfl,rfl,rfl,rfl,trivial⟩ rfl rfl rfl
  ·have:i=n.kids.length-1:=by have:=Bd h;rw[hw]at this;omega
   rw[this,←hdl,Hr]at hT;exact Br 2 0 (h12 g1 (by rw[hT];rfl)) ⟨rfl,rfl,rfl,rfl,trivial⟩ rfl rfl rfl rfl rfl
 refine Db (fun h2=>?_) (fun h2=>?_)
 ·have h2':decide (8<v.length)=true:=by have:=A6 h2;rw[hvs]at this;simp;omega
  refine Ay ?_;refine Ao func97 ?_;rw[hC,if_pos (by rw[hM,h2'];rfl)]
 ·have h2':decide (8<v.length)=false:=by have:=Bd h2;rw[hvs]at this;simp;omega
  refine Ec 0 7 (fun h3=>?_) (fun h3=>?_)
  ·have h3':decide (4<a.length)=true:=by have:=A6 h3;rw[has']at this;simp;omega
   refine Ba 100 rfl ?_;refine Ao func97 ?_;rw[hC,if_pos (by rw[hM,h2',h3'];rfl)]
  ·have h3':decide (4<a.length)=false:=by have:=Bd h3;rw[has']at this;simp;omega
   exact Br 2 0 (h7 (by rw[hM,h2',h3'];rfl)) ⟨rfl,rfl,rfl,rfl,trivial⟩ rfl rfl rfl rfl rfl
def H4(n:Nd):Bool:=(Fj n).1==0
theorem Ay2(n:Nd)(hn:wN n≤100000000):Pure X 47 [nd n] (vb (H4 n)):=by
 refine Pure.run func47 ?_;refine Aj (Ayv n hn) ?_;exact Az func47 rfl
end Go.V
namespace Go.V
open Go
section
variable {X:Cx}{S:St}{F:Cw}{N:Nat}{ops:Array Oper}{i:Nat}{o:Oper}{p q:Operand}{t t':TypeId}
theorem Aqc(hu:X.P.underlying t=some (.interface (X.P.methodsAt t)))(ho:ops[i]?=some o:=by rfl)(hw:Bc ops F o=some true:=by rfl)(hop:o.op=.binOp .eql t p (.const .nilIface) t':=by rfl)
 (hp:Dv X F p=some (.val .nilIface):=by rfl):Ndo X N ops i o F (.val (.bool true)) S S:=by
 refine Dp ho hw fun F' E w a hc hI hF=>?_;rw[hop]at hc;have r1:=Am hI hF ((hc p (by simp[Op.operands])).trans hp);generalize hx:a.eval p=x at r1;cases r1;exact⟨.bool true,by simp[execOp,hop,hx,show a.eval (.const .nilIface)=.nilIface from rfl,eqGuard,run_eql_nil_nil w t hu],.val _⟩
theorem Ac7(hu:X.P.underlying t=some (.interface (X.P.methodsAt t)))(ho:ops[i]?=some o:=by rfl)(hw:Bc ops F o=some true:=by rfl)(hop:o.op=.binOp .eql t p (.const .nilIface) t':=by rfl)
 (hp:Dv X F p=some .err:=by rfl):Ndo X N ops i o F (.val (.bool false)) S S:=by
 refine Dp ho hw fun F' E w a hc hI hF=>?_;rw[hop]at hc;have r1:=Am hI hF ((hc p (by simp[Op.operands])).trans hp);generalize hx:a.eval p=x at r1;cases r1;exact⟨.bool false,by simp[execOp,hop,hx,show a.eval (.const .nilIface)=.nilIface from rfl,eqGuard,run_eql_held_nil w t _ _ hu],.val _⟩
end
end Go.V
namespace Go.Proofs
open Go.Shelf
def Yo:Go.Shelf.Ren:=⟨fun|172=>365|244=>375|245=>376|247=>381|279=>382|280=>383|281=>384|282=>385|287=>390|316=>391|171=>295|205=>392|321=>395|322=>396|243=>313|246=>332|283=>355|284=>356|285=>357|286=>358|129=>370|317=>369|318=>371|319=>372|320=>373|337=>379|338=>380|n=>n,fun|9=>9|3=>3|75=>340|76=>341|4=>4|5=>5|167=>381|37=>159|0=>0|85=>382|2=>2|168=>384|53=>361|175=>390|46=>351|210=>394|127=>330|145=>400|143=>398|21=>21|171=>360|173=>364|212=>375|51=>368|20=>20|213=>376|232=>388|233=>389|80=>314|n=>n,fun|15=>6|16=>7|17=>2|18=>4|19=>5|n=>n⟩
theorem Tryz.laysC172:Go.Proofs.LaysC.n172 Tryz.prog Yo:={
 mixed:=by kernel_rfl,
 f129:=Tryz.func370.trans (congrArg some (by kernel_rfl)),
 f171:=Tryz.func295.trans (congrArg some (by kernel_rfl)),
 f172:=Tryz.func365.trans (congrArg some (by kernel_rfl)),
 f205:=Tryz.func392.trans (congrArg some (by kernel_rfl)),
 f243:=Tryz.func313.trans (congrArg some (by kernel_rfl)),
 f244:=Tryz.func375.trans (congrArg some (by kernel_rfl)),
 f245:=Tryz.func376.trans (congrArg some (by kernel_rfl)),
 f246:=Tryz.func332.trans (congrArg some (by kernel_rfl)),
 f247:=Tryz.func381.trans (congrArg some (by kernel_rfl)),
 f279:=Tryz.func382.trans (congrArg some (by kernel_rfl)),
 f280:=Tryz.func383.trans (congrArg some (by kernel_rfl)),
 f281:=Tryz.func384.trans (congrArg some (by kernel_rfl)),
 f282:=Tryz.func385.trans (congrArg some (by kernel_rfl)),
 f283:=Tryz.func355.trans (congrArg some (by kernel_rfl)),
 f284:=Tryz.func356.trans (congrArg some (by kernel_rfl)),
 f285:=Tryz.func357.trans (congrArg some (by kernel_rfl)),
 f286:=Tryz.func358.trans (congrArg some (by kernel_rfl)),
 f287:=Tryz.func390.trans (congrArg some (by kernel_rfl)),
 f316:=Tryz.func391.trans (congrArg some (by kernel_rfl)),
 f317:=Tryz.func369.trans (congrArg some (by kernel_rfl)),
 f318:=Tryz.func371.trans (congrArg some (by kernel_rfl)),
 f319:=Tryz.func372.trans (congrArg some (by kernel_rfl)),
 f320:=Tryz.func373.trans (congrArg some (by kernel_rfl)),
 f321:=Tryz.func395.trans (congrArg some (by kernel_rfl)),
 f322:=Tryz.func396.trans (congrArg some (by kernel_rfl)),
 f337:=Tryz.func379.trans (congrArg some (by kernel_rfl)),
 f338:=Tryz.func380.trans (congrArg some (by kernel_rfl)),
 t0:=Tryz.underlying0,
 a0:=Tryz.isAgg0,
 z0:=Tryz.sizeOf0,
 v0:=Tryz.zeroValue0,
 t2:=Tryz.underlying2,
 a2:=Tryz.isAgg2,
 z2:=Tryz.sizeOf2,
 v2:=Tryz.zeroValue2,
 t3:=Tryz.underlying3,
 a3:=Tryz.isAgg3,
 z3:=Tryz.sizeOf3,
 v3:=Tryz.zeroValue3,
 t4:=Tryz.underlying4,
 a4:=Tryz.isAgg4,
 z4:=Tryz.sizeOf4,
 v4:=Tryz.zeroValue4,
 t5:=Tryz.underlying5,
 a5:=Tryz.isAgg5,
 z5:=Tryz.sizeOf5,
 v5:=Tryz.zeroValue5,
 t9:=Tryz.underlying9,
 a9:=Tryz.isAgg9,
 z9:=Tryz.sizeOf9,
 v9:=Tryz.zeroValue9,
 t20:=Tryz.underlying20,
 a20:=Tryz.isAgg20,
 z20:=Tryz.sizeOf20,
 v20:=Tryz.zeroValue20,
 t21:=Tryz.underlying21,
 a21:=Tryz.isAgg21,
 z21:=Tryz.sizeOf21,
 v21:=Tryz.zeroValue21,
 t37:=Tryz.underlying159,
 a37:=Tryz.isAgg159,
 z37:=Tryz.sizeOf159,
 v37:=Tryz.zeroValue159,
 t46:=Tryz.underlying351,
 a46:=Tryz.isAgg351,
 z46:=Tryz.sizeOf351,
 v46:=Tryz.zeroValue351,
 t51:=Tryz.underlying368,
 a51:=Tryz.isAgg368,
 z51:=Tryz.sizeOf368,
 v51:=Tryz.zeroValue368,
 t53:=Tryz.underlying361,
 a53:=Tryz.isAgg361,
 z53:=Tryz.sizeOf361,
 v53:=Tryz.zeroValue361,
 t75:=Tryz.underlying340,
 a75:=Tryz.isAgg340,
 z75:=Tryz.sizeOf340,
 v75:=Tryz.zeroValue340,
 t76:=Tryz.underlying341,
 a76:=Tryz.isAgg341,
 z76:=Tryz.sizeOf341,
 v76:=Tryz.zeroValue341,
 t85:=Tryz.underlying382,
 a85:=Tryz.isAgg382,
 z85:=Tryz.sizeOf382,
 v85:=Tryz.zeroValue382,
 t127:=Tryz.underlying330,
 a127:=Tryz.isAgg330,
 z127:=Tryz.sizeOf330,
 v127:=Tryz.zeroValue330,
 t143:=Tryz.underlying398,
 a143:=Tryz.isAgg398,
 z143:=Tryz.sizeOf398,
 v143:=Tryz.zeroValue398,
 t145:=Tryz.underlying400,
 a145:=Tryz.isAgg400,
 z145:=Tryz.sizeOf400,
 v145:=Tryz.zeroValue400,
 t167:=Tryz.underlying381,
 a167:=Tryz.isAgg381,
 z167:=Tryz.sizeOf381,
 v167:=Tryz.zeroValue381,
 t168:=Tryz.underlying384,
 a168:=Tryz.isAgg384,
 z168:=Tryz.sizeOf384,
 v168:=Tryz.zeroValue384,
 t171:=Tryz.underlying360,
 a171:=Tryz.isAgg360,
 z171:=Tryz.sizeOf360,
 v171:=Tryz.zeroValue360,
 t173:=Tryz.underlying364,
 a173:=Tryz.isAgg364,
 z173:=Tryz.sizeOf364,
 v173:=Tryz.zeroValue364,
 t175:=Tryz.underlying390,
 a175:=Tryz.isAgg390,
 z175:=Tryz.sizeOf390,
 v175:=Tryz.zeroValue390,
 t210:=Tryz.underlying394,
 a210:=Tryz.isAgg394,
 z210:=Tryz.sizeOf394,
 v210:=Tryz.zeroValue394,
 t212:=Tryz.underlying375,
 a212:=Tryz.isAgg375,
 z212:=Tryz.sizeOf375,
 v212:=Tryz.zeroValue375,
 t213:=Tryz.underlying376,
 a213:=Tryz.isAgg376,
 z213:=Tryz.sizeOf376,
 t232:=Tryz.underlying388,
 a232:=Tryz.isAgg388,
 z232:=Tryz.sizeOf388,
 v232:=Tryz.zeroValue388,
 t233:=Tryz.underlying389,
 a233:=Tryz.isAgg389,
 z233:=Tryz.sizeOf389,
 v233:=Tryz.zeroValue389,
 g15:=by kernel_rfl,
 g16:=by kernel_rfl,
 g17:=by kernel_rfl,
 g18:=by kernel_rfl,
 g19:=by kernel_rfl,
 t80:=Tryz.underlying314,
 a80:=Tryz.isAgg314,
 z80:=Tryz.sizeOf314,
 v80:=Tryz.zeroValue314,
 i0:=by kernel_rfl,
 i2:=by kernel_rfl,
 i3:=by kernel_rfl,
 i4:=by kernel_rfl,
 i5:=by kernel_rfl,
 i9:=by kernel_rfl,
 i20:=by kernel_rfl,
 i21:=by kernel_rfl,
 i37:=by kernel_rfl,
 i46:=by kernel_rfl,
 i51:=by kernel_rfl,
 i53:=by kernel_rfl,
 i75:=by kernel_rfl,
 i76:=by kernel_rfl,
 i80:=by kernel_rfl,
 i85:=by kernel_rfl,
 i127:=by kernel_rfl,
 i143:=by kernel_rfl,
 i145:=by kernel_rfl,
 i167:=by kernel_rfl,
 i168:=by kernel_rfl,
 i171:=by kernel_rfl,
 i173:=by kernel_rfl,
 i175:=by kernel_rfl,
 i210:=by kernel_rfl,
 i212:=by kernel_rfl,
 i232:=by kernel_rfl,
 i233:=by kernel_rfl,
 m15:=by kernel_rfl,
 m16:=by kernel_rfl,
 m17:=by kernel_rfl,
 m18:=by kernel_rfl,
 m19:=by kernel_rfl,
 c0:=by kernel_rfl,
 c2:=by kernel_rfl,
 c3:=by kernel_rfl,
 c4:=by kernel_rfl,
 c5:=by kernel_rfl,
 c9:=by kernel_rfl,
 c20:=by kernel_rfl,
 c21:=by kernel_rfl,
 c37:=by kernel_rfl,
 c46:=by kernel_rfl,
 c51:=by kernel_rfl,
 c53:=by kernel_rfl,
 c75:=by kernel_rfl,
 c76:=by kernel_rfl,
 c80:=by kernel_rfl,
 c85:=by kernel_rfl,
 c127:=by kernel_rfl,
 c143:=by kernel_rfl,
 c145:=by kernel_rfl,
 c167:=by kernel_rfl,
 c168:=by kernel_rfl,
 c171:=by kernel_rfl,
 c173:=by kernel_rfl,
 c175:=by kernel_rfl,
 c210:=by kernel_rfl,
 c212:=by kernel_rfl,
 c213:=by kernel_rfl,
 c232:=by kernel_rfl,
 c233:=by kernel_rfl }
def Yp:Go.Shelf.Ren:=⟨fun|171=>295|243=>313|246=>332|283=>355|284=>356|285=>357|286=>358|129=>370|317=>369|318=>371|319=>372|320=>373|337=>379|338=>380|n=>n,fun|3=>3|9=>9|2=>2|4=>4|171=>360|0=>0|53=>361|37=>159|5=>5|173=>364|212=>375|51=>368|20=>20|213=>376|46=>351|232=>388|233=>389|n=>n,fun|17=>2|18=>4|19=>5|n=>n⟩
theorem Tryz.laysM171:Go.Proofs.LaysM.n171 Tryz.prog Yp:={
 mixed:=by kernel_rfl,
 f129:=Tryz.func370.trans (congrArg some (by kernel_rfl)),
 f171:=Tryz.func295.trans (congrArg some (by kernel_rfl)),
 f243:=Tryz.func313.trans (congrArg some (by kernel_rfl)),
 f246:=Tryz.func332.trans (congrArg some (by kernel_rfl)),
 f283:=Tryz.func355.trans (congrArg some (by kernel_rfl)),
 f284:=Tryz.func356.trans (congrArg some (by kernel_rfl)),
 f285:=Tryz.func357.trans (congrArg some (by kernel_rfl)),
 f286:=Tryz.func358.trans (congrArg some (by kernel_rfl)),
 f317:=Tryz.func369.trans (congrArg some (by kernel_rfl)),
 f318:=Tryz.func371.trans (congrArg some (by kernel_rfl)),
 f319:=Tryz.func372.trans (congrArg some (by kernel_rfl)),
 f320:=Tryz.func373.trans (congrArg some (by kernel_rfl)),
 f337:=Tryz.func379.trans (congrArg some (by kernel_rfl)),
 f338:=Tryz.func380.trans (congrArg some (by kernel_rfl)),
 t0:=Tryz.underlying0,
 a0:=Tryz.isAgg0,
 z0:=Tryz.sizeOf0,
 v0:=Tryz.zeroValue0,
 t2:=Tryz.underlying2,
 a2:=Tryz.isAgg2,
 z2:=Tryz.sizeOf2,
 v2:=Tryz.zeroValue2,
 t3:=Tryz.underlying3,
 a3:=Tryz.isAgg3,
 z3:=Tryz.sizeOf3,
 v3:=Tryz.zeroValue3,
 t4:=Tryz.underlying4,
 a4:=Tryz.isAgg4,
 z4:=Tryz.sizeOf4,
 v4:=Tryz.zeroValue4,
 t5:=Tryz.underlying5,
 a5:=Tryz.isAgg5,
 z5:=Tryz.sizeOf5,
 v5:=Tryz.zeroValue5,
 t9:=Tryz.underlying9,
 a9:=Tryz.isAgg9,
 z9:=Tryz.sizeOf9,
 v9:=Tryz.zeroValue9,
 t20:=Tryz.underlying20,
 a20:=Tryz.isAgg20,
 z20:=Tryz.sizeOf20,
 v20:=Tryz.zeroValue20,
 t37:=Tryz.underlying159,
 a37:=Tryz.isAgg159,
 z37:=Tryz.sizeOf159,
 v37:=Tryz.zeroValue159,
 t46:=Tryz.underlying351,
 a46:=Tryz.isAgg351,
 z46:=Tryz.sizeOf351,
 v46:=Tryz.zeroValue351,
 t51:=Tryz.underlying368,
 a51:=Tryz.isAgg368,
 z51:=Tryz.sizeOf368,
 v51:=Tryz.zeroValue368,
 t53:=Tryz.underlying361,
 a53:=Tryz.isAgg361,
 z53:=Tryz.sizeOf361,
 v53:=Tryz.zeroValue361,
 t171:=Tryz.underlying360,
 a171:=Tryz.isAgg360,
 z171:=Tryz.sizeOf360,
 v171:=Tryz.zeroValue360,
 t173:=Tryz.underlying364,
 a173:=Tryz.isAgg364,
 z173:=Tryz.sizeOf364,
 v173:=Tryz.zeroValue364,
 t212:=Tryz.underlying375,
 a212:=Tryz.isAgg375,
 z212:=Tryz.sizeOf375,
 v212:=Tryz.zeroValue375,
 t213:=Tryz.underlying376,
 a213:=Tryz.isAgg376,
 z213:=Tryz.sizeOf376,
 t232:=Tryz.underlying388,
 a232:=Tryz.isAgg388,
 z232:=Tryz.sizeOf388,
 v232:=Tryz.zeroValue388,
 t233:=Tryz.underlying389,
 a233:=Tryz.isAgg389,
 z233:=Tryz.sizeOf389,
 v233:=Tryz.zeroValue389,
 g17:=by kernel_rfl,
 g18:=by kernel_rfl,
 g19:=by kernel_rfl,
 i0:=by kernel_rfl,
 i2:=by kernel_rfl,
 i3:=by kernel_rfl,
 i4:=by kernel_rfl,
 i5:=by kernel_rfl,
 i9:=by kernel_rfl,
 i20:=by kernel_rfl,
 i37:=by kernel_rfl,
 i46:=by kernel_rfl,
 i51:=by kernel_rfl,
 i53:=by kernel_rfl,
 i171:=by kernel_rfl,
 i173:=by kernel_rfl,
 i212:=by kernel_rfl,
 i232:=by kernel_rfl,
 i233:=by kernel_rfl,
 m17:=by kernel_rfl,
 m18:=by kernel_rfl,
 m19:=by kernel_rfl }
end Go.Proofs
namespace Go.V
open Go Go.Proofs Go.Proofs.Tryz
theorem Am4(n:Int)(h0:-9223372036854775808≤n)(h1:n≤9223372036854775807):Pure X 295 [vi n] (str (Lib.itoa n)):=by
 refine W7 (vs:=[.int .i64 n]) ⟨_,func295,by kernel_rfl,by rfl⟩ rfl fun w hw=>?_;obtain⟨e,z,ht⟩:=hw.tab;have hg:(X.P.globalNamed "internal/strconv.uint64pow10")=some 2:=by kernel_rfl
 have htab:Lib.TabIs X.P w "internal/strconv.uint64pow10" .u64 Lib.pow10Tab:=by
  grind [Lib.TabIs,World.var?]
 have h:=Any.strconv_Itoa laysM171 n h0 h1 w htab;refine h.mono fun e w' he=>?_;obtain⟨rfl,k,os,rfl⟩:=he;refine⟨⟨_,rfl,fun E w=>.val _⟩,rfl,rfl,rfl,?_,fun j hj=>?_⟩
 ·simp
 grind [Sort.grow,World.drewN]
def Ph(s:Ad):Int:=match Lib.atoiAll s with
 |.ok v=>v
 |.range=>Lib.atoiSat s
 |_=>0
def Ada(s:Ad):AV:=match Lib.atoiAll s with
 |.ok _=>.val .nilIface
 |_=>.err
theorem A21(s:Ad)(hs:s.length≤1000000000):Pure X 365 [str s] (.tup [vi (Ph s),Ada s]):=by
 refine W7 (vs:=[.string ⟨⟨s⟩⟩]) ⟨_,func365,by kernel_rfl,by rfl⟩ rfl fun w hw=>?_;have hsz:(⟨⟨s⟩⟩:ByteArray).size=s.length:=rfl;have tup:∀(a b:Value) (x:AV),(∀E w,Rel E w b x)→∀E w,Rel E w (.tuple #[a,b]) (.tup [.val a,x]):=fun a b x h E w=>by
  refine .tup _ _ rfl fun j v y hv hy=>?_
  match j with
  |0=>simp at hv hy;subst hv;subst hy;exact .val _
  |1=>simp_all
  |j+2=>simp at hy
 cases h:Lib.atoiAll s with
 |ok v=>
  have hc:=Any.strconv_Atoi_ok laysC172 ⟨⟨s⟩⟩ (by omega) v h w;refine hc.mono fun e w' he=>?_;obtain⟨rfl,hw'⟩:=he;refine⟨⟨_,rfl,?_⟩,?_⟩
  ·simp only[Ph,Ada,h];exact tup _ _ _ fun E w=>.val _
  ·rcases hw' with rfl|⟨t,rfl⟩
   ·exact RowKit.Below.refl _ _
   grind [Lib.bytesWorld_below]
 |range=>
  obtain⟨ev,h1,h2⟩:=hw.rng;have hc:=Any.strconv_Atoi_range laysC172 ⟨⟨s⟩⟩ (by omega) h ev w h1 h2;refine hc.mono fun e w' he=>?_;obtain⟨N,rfl,_,_,hb⟩:=he;refine⟨⟨_,rfl,?_⟩,hb⟩;simp only[Ph,Ada,h];exact tup _ _ _ fun E w=>.err _ _
 |_=>
  obtain⟨ev,h1,h2⟩:=hw.syn;have hc:=Any.strconv_Atoi_syntax laysC172 ⟨⟨s⟩⟩ (by omega) h ev w h1 h2;refine hc.mono fun e w' he=>?_;obtain⟨N,rfl,_,_,hb⟩:=he;refine⟨⟨_,rfl,?_⟩,hb⟩;simp only[Ph,Ada,h];exact tup _ _ _ fun E w=>.err _ _
def Ut(l:Ad):Bool:=l.all digit
def Pw(n:Nat)(l:Ad):Nat:=l.foldl (fun a c=>10*a+(c.toNat-48)) n
theorem A0n(l:Ad):∀n,n≤Pw n l:=by
 induction l with
 |nil=>grind [Pw]
 |cons c l ih=>intro n;have:=ih (10*n+(c.toNat-48));grind [Pw]
theorem Lk{c:UInt8}(h:digit c=true):48≤c.toNat∧c.toNat≤57:=by have:=Abl h;omega
theorem Aa1:∀(l:Ad)(n:Nat),Rj n l=if Ut l then(if Pw n l>1000000 then -1 else(Pw n l:Int))else -1
 |[],n=>by
  have e:Rj n []=if (n:Int)>1000000 then -1 else(n:Int):=rfl;have e2:Pw n []=n:=rfl;have e3:Ut []=true:=rfl
  grind
 |c::l,n=>by
  simp only[Rj];by_cases hc:digit c=true
  ·rw[if_pos hc];have hd:=Lk hc;have:=Aa1 l (10*n+(c.toNat-48));rw[show (10*(n:Int)+c.toNat-48)=((10*n+(c.toNat-48):Nat):Int) by omega,this];simp_all [Ut,Pw]
  simp_all [Ut]
theorem Asg(l:Ad)(c:UInt8)(n:Nat):Pw n (l++[c])=10*Pw n l+(c.toNat-48):=by simp[Pw]
theorem Uu(n:Nat):Ut (Ms n)=true:=by
 induction n using Nat.strongRecOn with
 |ind n ih=>
  unfold Ms;have hd:∀k,k<10→digit (UInt8.ofNat (48+k))=true:=fun k hk=>by
   have:k=0∨k=1∨k=2∨k=3∨k=4∨k=5∨k=6∨k=7∨k=8∨k=9:=by omega
   rcases this with rfl|rfl|rfl|rfl|rfl|rfl|rfl|rfl|rfl|rfl<;>decide
  split
  ·simp_all [Ut]
  ·have:=ih (n/10) (by omega);simp only[Ut,List.all_append,T7,List.all_nil,Bool.and_true]at this⊢
   grind
theorem Ajv(k:Nat)(hk:k<10):(UInt8.ofNat (48+k)).toNat=48+k:=by
 simp;omega
theorem Alf(n:Nat):Pw 0 (Ms n)=n:=by
 induction n using Nat.strongRecOn<;>grind [Ms,Pw,Ajv]
theorem Aof:∀(q:Nat)(l:Ad),l.length=q+1→Ut l=true→(l.length=1∨l.head?≠some 48)→Ms (Pw 0 l)=l
 |0,l,hl,hd,_=>by
  match l,hl with
  |[c],_=>
   have hc:digit c=true:=by grind [Ut]
   have:=Lk hc;simp only[Pw,List.foldl_cons,List.foldl_nil];unfold Ms;rw[if_pos (by omega)];simp_all
 |q+1,l,hl,hd,h0=>by
  have hne:l≠[]:=by grind
  obtain⟨l',c,rfl⟩:∃l' c,l=l'++[c]:=⟨l.dropLast,l.getLast hne,(List.dropLast_concat_getLast hne).symm⟩
  simp at hl;have hl':l'.length=q+1:=by omega
  simp only[Ut,List.all_append,Du,T7,List.all_nil,Bool.and_true]at hd;have hc:=Lk hd.2;have hhead:l'.head?≠some 48:=by
   grind
  have ih:=Aof q l' hl' hd.1 (.inr hhead);have hpos:1≤Pw 0 l':=by
   cases l' with
   |nil=>simp_all
   |cons y l'=>
    simp only[Ut,T7,Du]at hd;have hy:=Lk hd.1.1;have:y.toNat≠48:=fun h=>hhead (by simp;exact UInt8.toNat_inj.1 h);have:=A0n l' (10*0+(y.toNat-48))
    grind [Pw]
  rw[Asg];unfold Ms;rw[if_neg (by omega),show (10*Pw 0 l'+(c.toNat-48))/10=Pw 0 l' by omega,ih,show (10*Pw 0 l'+(c.toNat-48))%10=c.toNat-48 by omega];simp_all
theorem Ahs(n:Nat):Lib.decDigits n=Ms n:=by
 induction n using Nat.strongRecOn<;>grind [Ms,Lib.decDigits]
theorem Qd(s:Ad):0≤D8 s↔∃n:Nat,n≤1000000∧s=Ms n∧D8 s=n:=by
 constructor
 ·intro h;cases s with
  |nil=>simp[D8]at h
  |cons c l=>
   simp only[D8]at h⊢;split at h
   ·omega
   ·rename_i h1;split at h
    ·omega
    ·rename_i h2;rw[if_neg h1,if_neg h2];have hv:=Aa1 (c::l) 0;simp only[Int.ofNat_zero]at hv;rw[hv]at h⊢;split at h
     ·rename_i hd;rw[if_pos hd];split at h
      ·omega
      ·rename_i hle;rw[if_neg hle];refine⟨Pw 0 (c::l),by omega,?_,rfl⟩;refine(Aof l.length (c::l) (by simp) hd ?_).symm
       grind
     ·omega
 omega
theorem Atq(n:Nat)(h:10≤n):(Ms n).head?≠some 48:=by
 induction n using Nat.strongRecOn with
 |ind n ih=>
  unfold Ms;rw[if_neg (by omega)];have hne:Ms (n/10)≠[]:=by grind [Ms]
  have ih':(Ms (n/10)).head?≠some 48:=by
   by_cases h2:10≤n/10
   ·grind
   ·unfold Ms;rw[if_pos (by omega)];intro h;have:=congrArg UInt8.toNat (Option.some.inj h)
    grind [Ajv]
  grind [Ms]
theorem Aht(n:Nat):1≤(Ms n).length:=by
 grind [Ms]
theorem Qc(n:Nat)(h:n≤1000000):D8 (Ms n)=n:=by
 have hl:=V7 n h;have hp:=Aht n;have hv:=Aa1 (Ms n) 0;rw[Uu,if_pos rfl,Alf,if_neg (by omega)]at hv;cases hs:Ms n with
 |nil=>simp_all
 |cons c l=>
  rw[hs]at hl hv;simp at hl;simp only[D8];rw[if_neg (by omega)];have:¬((decide (l.length>0)&&c==48)=true):=by
   simp only[Du,Mz,zzq34,not_and];intro h1 h2;have h10:10≤n:=by
    rcases Ga n 10 with h'|h'
    ·simp_all [Ms]
    ·exact h'
   grind [Atq]
  simp_all
theorem Abi:∀(l:Ad)(n:Nat),Ut l=true→Lib.decFrom n l=some (Pw n l)
 |[],n,_=>by simp[Lib.decFrom,Pw]
 |c::l,n,h=>by
  simp only[Ut,T7,Du]at h;have hc:=Lk h.1;have hd:Lib.digitVal c=some (c.toNat-48):=by simp_all [Lib.digitVal]
  simp only[Lib.decFrom,hd];rw[Abi l _ h.2]
  grind [Pw]
theorem Atf(n:Nat)(h:n≤1000000):Lib.atoiAll (Ms n)=.ok (n:Int):=by
 have hl:=V7 n h;have hp:=Aht n;have hd:=Uu n;have hv:=Alf n;rw[Lib.atoiAll_short _ (by omega)];cases hs:Ms n with
 |nil=>simp_all
 |cons c l=>
  rw[hs]at hd hv;have hc:digit c=true:=by simp_all [Ut]
  have hr:=Lk hc;have h45:(c==45)=false:=by rw[beq_eq_false_iff_ne];rintro rfl;simp at hr
  have h43:(c==43)=false:=by rw[beq_eq_false_iff_ne];rintro rfl;simp at hr
  simp only[Lib.atoi,h45,h43,Lib.decNat,Abi _ 0 hd,hv];rfl
def Rm(s:Ad):Bool:=match Lib.atoiAll s with
 |.ok v=>Lib.itoa v==s
 |_=>false
theorem Agl{s:Ad}{n:Nat}(h:n≤1000000)(hs:s=Ms n):Rm s=true∧Ph s=n:=by
 subst hs;simp only[Rm,Ph,Atf n h];have:Lib.itoa (n:Int)=Ms n:=by simp_all [Lib.itoa,Ahs]
 simp[this]
theorem Arz(c:UInt8)(l:Ad)(hc:digit c=true):(Rm (c::l)&&decide (Ph (c::l)≤1000000))=decide (0≤D8 (c::l)):=by
 rw[Bool.eq_iff_iff];simp only[Du,Mz];rw[Qd];constructor
 ·rintro⟨h1,h2⟩;cases h:Lib.atoiAll (c::l)with
  |ok v=>
   simp only[Rm,Ph,h,zzq34]at h1 h2;have h1:=h1.symm;have hv:¬v<0:=fun hv=>by
    unfold Lib.itoa at h1;rw[if_pos hv]at h1;simp at h1;have:=Lk hc;simp_all
   obtain⟨n,rfl⟩:∃n:Nat,v=n:=⟨v.toNat,by omega⟩
   unfold Lib.itoa at h1;rw[if_neg hv,I3,Ahs]at h1
   grind [Qc]
  |range=>grind [Rm]
  |_=>grind [Rm]
 grind [Agl]
theorem Agj(s:Ad)(hs:s.length≤1000000000):Pure X 343 [str s] (.tup [vi (Ph s),vb (Rm s)]):=by
 have hu:X.P.underlying 340=some (.interface (X.P.methodsAt 340)):=by kernel_rfl
 have ha:=A21 s hs;refine Pure.run func343 ?_;cases h:Lib.atoiAll s with
 |ok v=>
  simp only[Ph,Ada,Rm,h]at ha⊢;obtain⟨b0,b1⟩:=Lib.atoiAll_bounds h;refine Aj ha ?_;refine Bs (Aqc hu) ?_;refine Ep ?_;refine Aj (Am4 v (by omega) (by omega)) ?_;exact Az func343 rfl
 |range=>
  simp only[Ph,Ada,Rm,h]at ha⊢;refine Aj ha ?_;refine Bs (Ac7 hu) ?_;refine Gm ?_;exact Az func343 rfl
 |_=>
  simp only[Ph,Ada,Rm,h]at ha⊢;refine Aj ha ?_;refine Bs (Ac7 hu) ?_;refine Gm ?_;exact Az func343 rfl
theorem Akx(s:Ad)(c:UInt8):Pure X 386 [str s,vc c] (vi (Lib.indexByte s c)):=by
 have hr:∀w,(callFunc 393 ⟨[.string ⟨⟨s⟩⟩,.int .u8 c.toNat]⟩).run X.P w=.ok (.value (.int .i64 (Lib.indexByte s c))) w:=fun w=>by
  refine(run_callFunc_extern func393 (by kernel_rfl) (by kernel_rfl) (by kernel_rfl) (e:=Extern.BytealgIndexByte.indexByte) (by kernel_rfl) _ w).trans ?_;have:=Lib.run_indexByteString (P:=prog) ⟨⟨s⟩⟩ (c.toNat:Int) w;have e:((c.toNat:Int)).toNat.toUInt8=c:=by simp
  rw[e]at this;rw[show (⟨[.string ⟨⟨s⟩⟩,.int .u8 c.toNat]⟩:Array Value)=#[.string ⟨⟨s⟩⟩,.int .u8 c.toNat]from rfl,this];rfl
 refine Pure.run func386 ?_;refine Bs (Al1 hr) ?_;exact Az func386 rfl
theorem Arx(s:Ad)(c:UInt8):Pure X 377 [str s,str [c]] (vi (Lib.indexByte s c)):=by
 refine Pure.run func377 ?_;refine Gm ?_;refine Ai (fun h=>?_) (fun h=>?_)
 ·have h':([c]==s)=true:=h;have:s=[c]:=by simp_all
  subst this;refine Az func377 ?_;simp[Lib.indexByte,De]
 ·refine Ay ?_;refine Jy 0 (by omega) (b:=c) rfl ?_;refine Aj (Akx s c) ?_;exact Az func377 rfl
theorem Avk(s:Ad)(c:UInt8):Pure X 366 [str s,str [c]] (vi (Lib.indexByte s c)):=by
 refine Pure.run func366 ?_;refine Aj (Arx s c) ?_;exact Az func366 rfl
theorem Akv(s:Ad)(c:UInt8):Pure X 345 [str s,str [c]] (vb (decide (Lib.indexByte s c≥0))):=by
 refine Pure.run func345 ?_;refine Aj (Avk s c) ?_;exact Az func345 rfl
def oneSigns:Ad:=[43,45,42,40,41,91,93,123,125,59,61,60,62,63]
def Mq:List Ad:=[[61,61],[33,61],[60,61],[62,61]]
theorem W9(l:Ad)(c:UInt8):decide (Lib.indexByte l c≥0)=l.contains c:=by
 induction l with
 |nil=>rfl
 |cons b l ih=>
  unfold Lib.indexByte
  grind
theorem Adt(c:UInt8)(l:Ad)(h1:E4 c=false)(h2:digit c=false):Do (c::l)=if has Mq (c::l)||(l.isEmpty&&oneSigns.contains c)then 3 else 0:=by
 have k1:has U7 (c::l)=false:=by
  simp only[has,U7,Aew,List.any_nil,Bool.or_false,T6,beq_eq_false_iff_ne];refine⟨?_,?_,?_,?_,?_,?_,?_,?_,?_,?_,?_,?_,?_⟩<;>(intro h;injection h with h _;subst h;revert h1;decide)
 have k2:nameS (c::l)=false:=by simp[nameS,h1]
 have k3:¬D8 (c::l)≥0:=by
  intro h;obtain⟨n,_,hs,_⟩:=(Qd _).1 h;have:=Uu n;rw[←hs]at this;simp only[Ut,T7,h2,Bool.false_and]at this;cases this
 simp only[Do,k1,k2];rw[if_neg (by simp),if_neg (by simp),if_neg k3];have:has Kp (c::l)=(has Mq (c::l)||(l.isEmpty&&oneSigns.contains c)):=by
  cases l with
  |nil=>
   simp only[has,Kp,Mq,oneSigns,Aew,List.any_nil,List.contains_cons,List.contains_nil,List.isEmpty_nil,N5,Bool.or_false];have e:∀a:UInt8,(a==c)=(c==a):=fun a=>by grind
   simp_all
  |cons d l=>
   simp_all [has,Kp,Mq]
 rw[this]
theorem Akz(s:Ad)(hs:s.length≤1000000000):Pure X 320 [str s] (vi (Do s)):=by
 cases s with
 |nil=>
  refine Pure.run func320 ?_;refine Ay ?_;refine Az func320 ?_;rfl
 |cons c l=>
  simp only[N6]at hs;have hsz:((⟨⟨c::l⟩⟩:ByteArray).size:Int)=l.length+1:=O2 c l;refine Pure.run func320 ?_;refine Ah ?_;refine Aj (Azi (c::l)) ?_;refine Ai (fun h1=>?_) (fun h1=>?_)
  ·have h1':has U7 (c::l)=true:=h1;refine Az func320 ?_;simp[Do,h1',De]
  have h1':has U7 (c::l)=false:=h1;refine Jy 0 (by omega) (b:=c) rfl ?_;refine Aj (Aea c) ?_;refine Ai (fun h2=>?_) (fun h2=>?_)
  ·have h2':E4 c=true:=h2;have hk:Do (c::l)=if Ru (c::l)&&decide (l.length<8)then 1 else 0:=by
    have hn:nameS (c::l)=(Ru (c::l)&&decide (l.length<8)):=by grind [nameS]
    have hd:digit c=false:=by
     simp only[E4,digit,A8,Du,Mz,Bool.and_eq_false_iff,decide_eq_false_iff_not]at h2'⊢;omega
    have k3:¬D8 (c::l)≥0:=by
     intro h;obtain⟨n,_,hs,_⟩:=(Qd _).1 h;have:=Uu n;rw[←hs]at this;simp only[Ut,T7,hd,Bool.false_and]at this;cases this
    have k4:has Kp (c::l)=false:=by
     simp only[has,Kp,Aew,List.any_nil,Bool.or_false,T6,beq_eq_false_iff_ne];refine⟨?_,?_,?_,?_,?_,?_,?_,?_,?_,?_,?_,?_,?_,?_,?_,?_,?_,?_⟩<;>(intro h;injection h with h _;subst h;revert h2';decide)
    simp_all [Do,if_neg]
   rw[hk];generalize hT:Ru (c::l)=T;refine Ar (ι:=Nat) 0 0 (fun i=>i≤l.length+1∧T=Ru ((c::l).drop i)) (fun i=>[(18,vi i),(17,vi (l.length+1)),(0,str (c::l))]) (fun _=>⟨[],[]⟩) (fun i=>l.length+1-i) ?_ 0 ⟨Cb _,hT.symm⟩
    ⟨rfl,by rw[←hsz];rfl,rfl,trivial⟩
   rintro i ⟨hi,hTi⟩ IH;refine Cp (fun h3=>?_) (fun h3=>?_)
   ·have hlt:i<(c::l).length:=by grind
    obtain⟨b,hb⟩:=Ab (c::l) hlt;rw[Bp hb]at hTi;have hw:Ru (b::(c::l).drop (i+1))=((E4 b||digit b)&&Ru ((c::l).drop (i+1))):=rfl;rw[hw]at hTi;refine Jy i (by omega) hb ?_;refine Aj (Aea b) ?_;refine Db (fun h4=>?_) (fun h4=>?_)
    ·have h4':E4 b=false:=by simp_all
     refine Jy i (by omega) hb ?_;refine Aj (Aix b) ?_;refine Ai (fun h5=>?_) (fun h5=>?_)
     ·have h5':digit b=false:=by simp_all
      refine Az func320 ?_;rw[hTi,h4',h5'];rfl
     ·have h5':digit b=true:=by simp_all
      exact IH (i+1) ⟨by grind,by simp_all⟩ (by grind) _ _ ⟨vsx (by omega),rfl,rfl,trivial⟩ rfl rfl rfl
    ·have h4':E4 b=true:=by simp_all
     refine Ah ?_;exact IH (i+1) ⟨by grind,by simp_all⟩ (by grind) _ _ ⟨vsx (by omega),rfl,rfl,trivial⟩ rfl rfl rfl
   ·have:i=(c::l).length:=by grind
    rw[this,Hr]at hTi;have hT1:T=true:=hTi;subst hT1;refine Ai (fun h4=>?_) (fun h4=>?_)
    ·have h4':l.length<8:=by grind
     refine Az func320 ?_;simp[h4',De]
    ·have h4':¬l.length<8:=by grind
     refine Az func320 ?_;simp[h4',De]
  have h2':E4 c=false:=h2;refine Jy 0 (by omega) (b:=c) rfl ?_;refine Aj (Aix c) ?_;refine Ai (fun h3=>?_) (fun h3=>?_)
  ·have h3':digit c=true:=h3;have hr:=Arz c l h3';have hk:Do (c::l)=if Rm (c::l)&&decide (Ph (c::l)≤1000000)then 2 else 0:=by
    have k2:nameS (c::l)=false:=by simp[nameS,h2']
    have k4:has Kp (c::l)=false:=by
     simp only[has,Kp,Aew,List.any_nil,Bool.or_false,T6,beq_eq_false_iff_ne];refine⟨?_,?_,?_,?_,?_,?_,?_,?_,?_,?_,?_,?_,?_,?_,?_,?_,?_,?_⟩<;>(intro h;injection h with h _;subst h;revert h3';decide)
    simp_all [Do]
   rw[hk];refine Aj (Agj (c::l) (by simp;omega)) ?_;refine Db (fun h4=>?_) (fun h4=>?_)
   ·have h4':Rm (c::l)=true:=h4;refine Ai (fun h5=>?_) (fun h5=>?_)
    ·have h5':Ph (c::l)≤1000000:=A6 h5;refine Az func320 ?_
     grind [De]
    ·have h5':¬Ph (c::l)≤1000000:=Bd h5;refine Az func320 ?_
     grind [De]
   ·have h4':Rm (c::l)=false:=h4;refine Ah ?_;refine Az func320 ?_;simp[h4',De]
  have h3':digit c=false:=h3;rw[Adt c l h2' h3'];refine Aj (Tq Mq (c::l) (by decide)) ?_;refine Db (fun h4=>?_) (fun h4=>?_)
  ·have h4':has Mq (c::l)=true:=h4;refine Ay ?_;refine Az func320 ?_;simp[h4',De]
  have h4':has Mq (c::l)=false:=h4;cases l with
  |nil=>
   refine Ep ?_;refine Aj (Akv oneSigns c) ?_;refine Ai (fun h5=>?_) (fun h5=>?_)
   ·have h5':oneSigns.contains c=true:=by grind [W9]
    refine Az func320 ?_;rw[h4',h5'];rfl
   ·have h5':oneSigns.contains c=false:=by grind [W9]
    refine Az func320 ?_;rw[h4',h5'];rfl
  |cons d l=>
   have:(((⟨⟨c::d::l⟩⟩:ByteArray).size:Int)==1)=false:=by grind
   refine Gm ?_ (ht:=this);refine Ah ?_;refine Az func320 ?_;simp[h4',De]
theorem Awg(c d:UInt8)(l:Ad)(h1:E4 c=false)(h2:digit c=false):(Do [c,d]==3)=has Kp [c,d]:=by
 rw[Adt c [d] h1 h2];have:has Kp [c,d]=has Mq [c,d]:=by
  simp_all [has,Kp,Mq]
 grind
def Axu(c:UInt8):Ad→Nat
 |[]=>1
 |d::_=>if has Kp [c,d]then 2 else 1
theorem Aru(c:UInt8)(l:Ad)(hs:l.length≤900000000):Pure X 319 [str (c::l)] (vi (Lx (c::l))):=by
 have hsz:((⟨⟨c::l⟩⟩:ByteArray).size:Int)=l.length+1:=O2 c l;obtain⟨T,hT⟩:∃T,Hf (c::l)=T:=⟨_,rfl⟩
 have hTle:T≤l.length+1:=by rw[←hT];exact Yg _
 have hE:Lx (c::l)=if T=0 then Axu c l else T:=by
  by_cases h:(E4 c||digit c)=true
  ·have hw:T=1+Hf l:=by rw[←hT];simp only[Hf];rw[if_pos h]
   have he:Lx (c::l)=Hf (c::l):=by simp only[Lx];rw[if_pos h]
   rw[he,hT,if_neg (by omega)]
  ·have hw:T=0:=by rw[←hT];simp only[Hf];rw[if_neg h]
   have he:Lx (c::l)=Axu c l:=by simp only[Lx];rw[if_neg h];cases l<;>rfl
   rw[he,if_pos hw]
 have tail:AK X ⟨319,f319,0,0⟩ (J6 false 4 f319) [(3,vi T),(0,str (c::l))] ⟨[],[]⟩ (fun e S=>e=.ret (vi (Lx (c::l)))∧S=⟨[],[]⟩):=by
  rw[hE];refine Dj ?_;refine Ba 100 rfl ?_;refine Db (fun h=>?_) (fun h=>?_)
  ·have h0:T=0:=by have:((T:Int)==0)=true:=h;simpa using this
   have hcd:E4 c=false∧digit c=false:=by
    rw[h0]at hT;simp only[Hf]at hT;split at hT
    ·omega
    ·rename_i h;simpa using h
   rw[if_pos h0];cases l with
   |nil=>
    refine Gm ?_;refine Ah ?_;refine Az func319 ?_;rw[h0];rfl
   |cons d l=>
    refine Ep ?_ (ht:=Ry (by rw[hsz];simp;omega));refine Bs (P3 (l:=0) (h:=2) (r:=[c,d]) rfl rfl rfl rfl rfl rfl rfl rfl ?_ ?_ ?_ rfl) ?_
    ·omega
    ·omega
    ·simp;omega
    refine Aj (Akz [c,d] (by simp)) ?_;have e:=Awg c d l hcd.1 hcd.2;refine Ai (fun h2=>?_) (fun h2=>?_)
    ·have h2':has Kp [c,d]=true:=by rw[←e];exact h2
     refine Az func319 ?_;simp[h2',De,Axu]
    ·have h2':has Kp [c,d]=false:=by rw[←e];exact h2
     refine Az func319 ?_;simp[h2',h0,De,Axu]
  ·have h0:T≠0:=by have:((T:Int)==0)=false:=h;simpa using this
   rw[if_neg h0];refine Gm ?_;refine Ah ?_;refine Az func319 ?_;simp only[De];rw[if_neg (by omega)]
 refine Pure.run func319 ?_;refine Ar (ι:=Nat) 0 0 (fun i=>i≤l.length+1∧T=i+Hf ((c::l).drop i)) (fun i=>[(3,vi i),(0,str (c::l))]) (fun _=>⟨[],[]⟩) (fun i=>l.length+1-i) ?_ 0 ⟨Cb _,by simpa using hT.symm⟩
  ⟨rfl,rfl,trivial⟩
 rintro i ⟨hi,hTi⟩ IH;refine Ba 100 rfl ?_;refine Db (fun h=>?_) (fun h=>?_)
 ·have hlt:i<(c::l).length:=by have:=A6 h;simp;omega
  obtain⟨b,hb⟩:=Ab (c::l) hlt;rw[Bp hb]at hTi;simp only[Hf]at hTi;refine Jy i (by omega) hb ?_;refine Aj (Aea b) ?_;refine Db (fun h2=>?_) (fun h2=>?_)
  ·have h2':E4 b=true:=h2;refine Ay ?_;rw[h2']at hTi;exact IH (i+1) ⟨by simp at hlt;omega,by rw[hTi];simp;omega⟩ (by simp at hlt;omega) _ _ ⟨vsx (by omega),rfl,trivial⟩ rfl rfl rfl
  ·have h2':E4 b=false:=h2;refine Jy i (by omega) hb ?_;refine Aj (Aix b) ?_;refine Ec 0 4 (fun h3=>?_) (fun h3=>?_)
   ·have h3':digit b=true:=h3;rw[h3']at hTi;refine Ba 100 rfl ?_;exact IH (i+1) ⟨by simp at hlt;omega,by rw[hTi];simp;omega⟩ (by simp at hlt;omega) _ _ ⟨vsx (by omega),rfl,trivial⟩ rfl rfl rfl
   ·have h3':digit b=false:=h3;rw[h2',h3']at hTi;have hTi':T=i:=by simpa using hTi
    rw[hTi']at tail;exact Br 0 0 tail ⟨rfl,rfl,trivial⟩ rfl rfl rfl rfl rfl
 ·have hie:i=(c::l).length:=by have:=Bd h;simp;omega
  rw[hie,Hr]at hTi;have hTi':T=i:=by rw[hie,hTi];rfl
  rw[hTi']at tail;refine Ec 0 4 (fun h3=>?_) (fun h3=>?_)
  ·cases h3
  ·exact Br 0 0 tail ⟨rfl,rfl,trivial⟩ rfl rfl rfl rfl rfl
theorem Azo(s:Ad)(hs:s.length≤900000000):Pure X 300 [str s] (.tup [.sl (H8 (Da s).1) .no,.agg [vi (Da s).2.1,vi (Da s).2.2]]):=by
 refine Pure.run func300 ?_;refine Ai (fun h=>?_) (fun h=>?_)
 ·have:s.length>4000:=by have:=A6 h;rw[Gj]at this;omega
  refine Ix 2 (.sl [] .tight) ?_;refine Ao func300 ?_;simp only[Da];rw[if_pos this];rfl
 have hlen:¬s.length>4000:=by have:=Bd h;rw[Gj]at this;omega
 generalize hT:Da s=T;have hT':T=H6 (s.length+1) (Cj false s) (s.drop (Cj false s)) []:=by rw[←hT];simp only[Da];rw[if_neg hlen]
 refine R6 (d:=4) rfl rfl rfl ?_;refine Ar (ι:=Nat×List Wd) 1 1 (fun i=>i.1≤s.length∧i.2.length≤1500∧∃f,s.length-i.1<f∧T=H6 f (i.1+Cj false (s.drop i.1)) (s.drop (i.1+Cj false (s.drop i.1))) i.2)
  (fun i=>[(5,vi i.1),(4,.sl (H8 i.2) (.tok 0)),(0,str s),(3,.ptr 0 0 0)]) (fun i=>⟨[[[vi 0,vi 0]]],[i.2.length]⟩) (fun i=>s.length-i.1) ?_ (0,[]) ⟨Cb _,Cb _,s.length+1,by simp,by simpa using hT'⟩
  ⟨rfl,rfl,rfl,rfl,trivial⟩
 rintro⟨a,out⟩ ⟨ha,hout,f,hf,hTa⟩ IH;simp only at ha hout hf hTa IH⊢;refine Cp (fun h=>?_) (fun h=>?_)
 ·have hlt:a<s.length:=by have:=A6 h;rw[Gj]at this;omega
  obtain⟨c,hc⟩:=Ab s hlt;have hd:=Bp hc;refine Jy a (by omega) hc ?_;have white:(c==32||c==10)=true→T=H6 f (a+1+Cj false (s.drop (a+1))) (s.drop (a+1+Cj false (s.drop (a+1)))) out:=fun hw=>by
   have e:Cj false (s.drop a)=1+Cj false (s.drop (a+1)):=by rw[hd];simp only[Cj];rw[if_pos hw]
   rw[hTa,e,show a+(1+Cj false (s.drop (a+1)))=a+1+Cj false (s.drop (a+1)) by omega]
  refine Ai (fun h1=>?_) (fun h1=>?_)
  ·have h1':(c==32)=true:=by rw[←cb];exact h1
   exact IH (a+1,out) ⟨by simp only;omega,hout,f,by simp only;omega,white (by rw[h1'];rfl)⟩ (by simp only;omega) _ _ ⟨vsx (by omega),rfl,rfl,rfl,trivial⟩ rfl rfl rfl
  have h1':(c==32)=false:=by rw[←cb];exact h1
  refine Ai (fun h2=>?_) (fun h2=>?_)
  ·have h2':(c==10)=true:=by rw[←cb];exact h2
   exact IH (a+1,out) ⟨by simp only;omega,hout,f,by simp only;omega,white (by rw[h2'];simp)⟩ (by simp only;omega) _ _ ⟨vsx (by omega),rfl,rfl,rfl,trivial⟩ rfl rfl rfl
  have h2':(c==10)=false:=by rw[←cb];exact h2
  refine Ai (fun h3=>?_) (fun h3=>?_)
  ·have h3':(c==35)=true:=by rw[←cb];exact h3
   have hE:Cj false (s.drop a)=Cj true (s.drop a):=by rw[hd];simp only[Cj];rw[if_neg (by simp[h1',h2']),if_pos h3',if_neg (by simp[h2'])]
   rw[hE]at hTa;refine Ar (ι:=Nat) 1 1 (fun i=>a≤i∧i≤s.length∧T=H6 f (i+Cj true (s.drop i)) (s.drop (i+Cj true (s.drop i))) out) (fun i=>[(5,vi i),(4,.sl (H8 out) (.tok 0)),(0,str s),(3,.ptr 0 0 0)])
    (fun _=>⟨[[[vi 0,vi 0]]],[out.length]⟩) (fun i=>s.length-i) ?_ a ⟨Bt _,ha,hTa⟩ ⟨rfl,rfl,rfl,rfl,trivial⟩
   rintro i ⟨hai,hi,hTi⟩ IH2;refine Ba 100 rfl ?_;refine Db (fun h4=>?_) (fun h4=>?_)
   ·have hlt2:i<s.length:=by have:=A6 h4;rw[Gj]at this;omega
    obtain⟨b,hb⟩:=Ab s hlt2;have hd2:=Bp hb;refine Jy i (by omega) hb ?_;refine Ai (fun h5=>?_) (fun h5=>?_)
    ·have h5':(b==10)=false:=by
      have:(!((b.toNat:Int)==10))=true:=h5;rw[←cb];simpa using this
     have e:Cj true (s.drop i)=1+Cj true (s.drop (i+1)):=by rw[hd2];simp only[Cj];rw[if_neg (by simp[h5'])]
     exact IH2 (i+1) ⟨by omega,by omega,by rw[hTi,e,show i+(1+Cj true (s.drop (i+1)))=i+1+Cj true (s.drop (i+1)) by omega]⟩ (by omega) _ _ ⟨vsx (by omega),rfl,rfl,rfl,trivial⟩ rfl rfl rfl
    ·have h5':(b==10)=true:=by
      have:(!((b.toNat:Int)==10))=false:=h5;rw[←cb];simpa using this
     have e:Cj true (s.drop i)=Cj false (s.drop i):=by rw[hd2];simp only[Cj];rw[if_pos h5',if_pos (by rw[h5'];simp)]
     have hne:a≠i:=by
      rintro rfl;rw[hc]at hb;cases hb;rw[h5']at h2';cases h2'
     exact IH (i,out) ⟨by simp only;omega,hout,f,by simp only;omega,by rw[e]at hTi;exact hTi⟩ (by simp only;omega) _ _ ⟨rfl,rfl,rfl,rfl,trivial⟩ rfl rfl rfl
   ·have hie:i=s.length:=by have:=Bd h4;rw[Gj]at this;omega
    have e:Cj true (s.drop i)=Cj false (s.drop i):=by rw[hie,Hr];rfl
    refine Ah ?_;exact IH (i,out) ⟨by simp only;omega,hout,f,by simp only;omega,by rw[e]at hTi;exact hTi⟩ (by simp only;omega) _ _ ⟨rfl,rfl,rfl,rfl,trivial⟩ rfl rfl rfl
  have h3':(c==35)=false:=by rw[←cb];exact h3
  have h0:Cj false (s.drop a)=0:=by rw[hd];simp only[Cj];rw[if_neg (by simp[h1',h2']),if_neg (by simp[h3'])]
  rw[h0,Rx]at hTa;obtain⟨g,rfl⟩:∃g,f=g+1:=⟨f-1,by omega⟩
  obtain⟨n,hn⟩:∃n,Lx (s.drop a)=n:=⟨_,rfl⟩
  have hbd:=Aog c (s.drop (a+1));rw[←hd,hn]at hbd;have hdl:(s.drop a).length=s.length-a:=by simp
  rw[hdl]at hbd;obtain⟨t,ht⟩:∃t,(s.drop a).take n=t:=⟨_,rfl⟩
  have htl:t.length=n:=by rw[←ht];simp;omega
  have hstep:T=if Do t==0 then([],2,a)else if out.length==1500 then([],3,a)else
   H6 g (a+n+Cj false (s.drop (a+n))) (s.drop (a+n+Cj false (s.drop (a+n)))) (out++[⟨Do t,t,a⟩]):=by
   rw[hTa]
   conv=>lhs;unfold H6
   rw[hd];simp only;rw[←hd,hn,ht,Aes,Aes];rw[show a+(n+Cj false (s.drop (a+n)))=a+n+Cj false (s.drop (a+n)) by omega]
  have hlong:Pure X 319 [str (s.drop a)] (vi n):=by
   have:=Aru c (s.drop (a+1)) (by simp;omega);rw[←hd,hn]at this;exact this
  refine Bs (P3 (l:=(a:Int)) (h:=(s.length:Int)) (r:=s.drop a) rfl rfl rfl rfl rfl rfl rfl rfl ?_ ?_ ?_ ?_) ?_
  ·omega
  ·omega
  ·omega
  ·simp
  refine Aj hlong ?_;have hwr:IntKind.i64.wrap ((a:Int)+(n:Int))=(a+n:Nat):=(Ac (by omega) (by omega)).trans (by omega);refine Bs (P3 (l:=(a:Int)) (h:=IntKind.i64.wrap ((a:Int)+(n:Int))) (r:=t) rfl rfl rfl rfl rfl rfl rfl rfl ?_ ?_ ?_ ?_) ?_
  ·omega
  ·rw[hwr];omega
  ·rw[hwr];omega
  ·rw[hwr,←ht];rw[show ((a+n:Nat):Int).toNat=a+n by omega,show ((a:Nat):Int).toNat=a by omega,List.drop_take,show a+n-a=n by omega]
  refine Aj (Akz t (by omega)) ?_;refine Ai (fun h4=>?_) (fun h4=>?_)
  ·have h4':(Do t==0)=true:=h4;refine Ix 2 (.sl [] .tight) ?_;refine Ao func300 ?_;rw[hstep,h4'];rfl
  have h4':(Do t==0)=false:=h4;refine Ai (fun h5=>?_) (fun h5=>?_)
  ·have h5':(out.length==1500)=true:=by
    have:(((H8 out).length:Int)==1500)=true:=h5;rw[Ef]at this;simp at this⊢;omega
   refine Ix 2 (.sl [] .tight) ?_;refine Ao func300 ?_;rw[hstep,h4',h5'];rfl
  have h5':(out.length==1500)=false:=by
   have:(((H8 out).length:Int)==1500)=false:=h5;rw[Ef]at this;simp at this⊢;omega
  have h5'':out.length≠1500:=by simpa using h5'
  refine Bs (Cn (res:=H8 (out++[⟨Do t,t,a⟩])) rfl rfl rfl rfl rfl rfl rfl rfl rfl rfl rfl rfl rfl rfl (Ef out) (Aen out) rfl rfl rfl ?_ ?_ rfl) ?_
  ·rw[Ef];simp;omega
  ·simp[H8,Vs]
  have hst:((⟨⟨t⟩⟩:ByteArray).size:Int)=n:=by rw[Gj,htl]
  refine IH (a+n,out++[⟨Do t,t,a⟩]) ⟨by simp only;omega,by simp;omega,g,by simp only;omega,by rw[hstep,h4',h5'];rfl⟩ (by simp only;omega) _ _ ⟨?_,rfl,rfl,rfl,trivial⟩ ?_ rfl rfl
  ·exact Ci (by rw[hst];exact hwr)
  ·simp[St.drop,Ef]
 ·have hae:a=s.length:=by have:=Bd h;rw[Gj]at this;omega
  refine Ao func300 ?_;obtain⟨g,rfl⟩:∃g,f=g+1:=⟨f-1,by omega⟩
  rw[hTa,hae,Hr];simp only[Cj,Rx,Hr];rfl
def pc(r:RS)(e:Nat):An:=[.sl (H8 (r.ws.drop r.at_)) .no,vi e]
instance{n m:Nat}{r:RS}{e:Nat}:OKL n m (pc r e):=⟨fun x hx=>by
 simp[pc]at hx;rcases hx with rfl|rfl
 ·exact .sl _ _ (fun q hq y hy=>(inferInstance:OKR n m (H8 _)).ok q hq y hy) (fun t ht=>by cases ht)
 ·exact .val _⟩
def pan(p:Nat):List PanicEntry:=[{ v:=.iface 345 (.agg ⟨[.int .i64 p]⟩),recovered:=false }]
theorem Afo{r:RS}{w:Wd}(h:r.ws[r.at_]?=some w):r.ws.drop r.at_=w::r.ws.drop (r.at_+1):=Bp h
theorem Ta(r:RS)(e:Nat):Hands X 346 [.ptr 0 0 0] ⟨[[pc r e]],[]⟩ (.agg [vi r.kind,str r.text,vi (r.place e)]) ⟨[[pc r e]],[]⟩:=by
 cases hw:r.ws[r.at_]? with
 |none=>
  have hd:r.ws.drop r.at_=[]:=Aet (by simp_all);have hp:pc r e=[.sl [] .no,vi e]:=by simp[pc,hd,H8]
  simp only[RS.kind,RS.text,RS.place,hw];rw[hp];refine Hands.run func346 ?_;refine Ay ?_;exact Bz func346 rfl rfl
 |some w=>
  have hp:pc r e=[.sl (H8 (w::r.ws.drop (r.at_+1))) .no,vi e]:=by grind [pc,Afo]
  simp only[RS.kind,RS.text,RS.place,hw];rw[hp];refine Hands.run func346 ?_;refine Ah ?_ (ht:=by simp[H8];omega);refine Bv 0 (by omega) (r:=Vs w) rfl ?_;exact Bz func346 rfl rfl
theorem Y6(r:RS)(e:Nat):Throws X 322 [.ptr 0 0 0] ⟨[[pc r e]],[]⟩ (pan (r.place e)) ⟨[[pc r e]],[]⟩:=by
 refine Throws.run func322 ?_;refine Af [0] [] (Ta r e) ?_;refine Bs Aqb ?_;exact F9 func322 Thr.go rfl
theorem A2g(r:RS)(e:Nat)(s:Ad):Hands X 347 [.ptr 0 0 0,str s] ⟨[[pc r e]],[]⟩ (vb (r.text==s)) ⟨[[pc r e]],[]⟩:=by
 refine Hands.run func347 ?_;refine Af [0] [] (Ta r e) ?_;exact Bz func347 rfl rfl
theorem Aao(r:RS)(e:Nat)(h:r.at_<r.ws.length):Hands X 348 [.ptr 0 0 0] ⟨[[pc r e]],[]⟩ (.agg [vi r.kind,str r.text,vi (r.place e)]) ⟨[[pc r.step e]],[]⟩:=by
 obtain⟨w,hw⟩:=Ab r.ws h;refine Hands.run func348 ?_;refine Af [0] [] (Ta r e) ?_;refine Bs (Ace (l:=1) (h:=((H8 (r.ws.drop r.at_)).length:Int)) (r:=H8 (r.ws.drop (r.at_+1))) rfl rfl rfl rfl rfl rfl rfl rfl rfl ?_ ?_ ?_ ?_ ?_) ?_
 ·omega
 ·grind [Ef]
 ·omega
 ·exact Aen _
 ·rw[I3,Jh,Afo hw];rfl
 exact Bz func348 rfl rfl
theorem Kd{r:RS}(h:r.bad=false)(s:Ad):r.takes s=(r.text==s):=by simp[RS.takes,h]
theorem Jk(r:RS)(e:Nat)(s:Ad)(hb:r.bad=false)(hs:s≠[]):Hands X 323 [.ptr 0 0 0,str s] ⟨[[pc r e]],[]⟩ (vb (r.takes s)) ⟨[[pc (r.take s) e]],[]⟩:=by
 refine Hands.run func323 ?_;refine Af [0] [] (A2g r e s) ?_;refine Ai (fun h=>?_) (fun h=>?_)
 ·have h':r.takes s=false:=by grind [Kd]
  have ht:r.take s=r:=by simp[RS.take,h']
  rw[h',ht];exact Bz func323 rfl rfl
 ·have h':r.takes s=true:=by grind [Kd]
  have ht:r.take s=r.step:=by simp[RS.take,h']
  rw[h',ht];refine Af [0] [] (Aao r e (A2 h' hs).1) ?_;exact Bz func323 rfl rfl
def RS.needs(r:RS)(l:List Ad):RS:=l.foldl RS.need r
theorem Ad6{r:RS}{s:Ad}(h:r.takes s=false)(e:Nat):(r.need s).place e=r.place e:=by simp[RS.need,h,RS.spoil,RS.place]
theorem Apj{r:RS}{s:Ad}(h:r.takes s=false)(e:Nat):pc (r.need s) e=pc r e:=by simp[RS.need,h,RS.spoil,pc]
theorem Cq{r:RS}(h:r.bad=true)(s:Ad):r.need s=r:=by
 obtain⟨ws,a,b⟩:=r
 grind [RS.need,RS.takes,RS.spoil]
theorem Arh{r:RS}(h:r.bad=true):∀l:List Ad,r.needs l=r:=by
 intro l
 induction l with
 |nil=>rfl
 |cons s l ih=>show (r.need s).needs l=r;simp_all [Cq]
theorem Ag0(r0:RS)(e:Nat)(l:List Ad)(hl:l.length≤1000)(hne:∀s,s∈l→s≠[])(hb0:r0.bad=false)(R:AE→St→Prop)
 (h1:(r0.needs l).bad=false→R (.ret (.tup [])) ⟨[[pc (r0.needs l) e]],[]⟩)(hp:(r0.needs l).bad=true→R (.panic (pan ((r0.needs l).place e))) ⟨[[pc (r0.needs l) e]],[]⟩) :
 AK X ⟨325,f325,1,0⟩ (J6 false 0 f325) [(0,.ptr 0 0 0),(1,.sl (Eu l) .no)] ⟨[[pc r0 e]],[]⟩ R:=by
 refine Dj ?_;refine Ba 100 rfl ?_;refine Ar (ι:=Nat×RS) 1 0 (fun i=>i.1≤l.length∧i.2.bad=false∧r0.needs l=i.2.needs (l.drop i.1)) (fun i=>[(8,vi i.1),(7,vi l.length),(6,.sl (Eu l) .no),(0,.ptr 0 0 0)]) (fun i=>⟨[[pc i.2 e]],[]⟩) (fun i=>l.length-i.1) ?_ (0,r0)
  ⟨Cb _,hb0,rfl⟩ ⟨rfl,by rw[←Ft];rfl,rfl,rfl,trivial⟩
 rintro⟨i,r⟩ ⟨hi,hb,hN⟩ IH;simp only at hi hb hN IH⊢;refine Cp (fun h=>?_) (fun h=>?_)
 ·have hlt:i<l.length:=by simp_all
  obtain⟨s,hsg⟩:=Ab l hlt;have hs:=hne s (Bn hsg);rw[Bp hsg]at hN;have hN':r0.needs l=(r.need s).needs (l.drop (i+1)):=hN;refine Bv i (by omega) (Rr hsg) ?_;refine Af [0] [] (Jk r e s hb hs) ?_;refine Ai (fun h3=>?_) (fun h3=>?_)
  ·have h2':r.takes s=false:=by simp_all
   have ht:r.take s=r:=by simp[RS.take,h2']
   have hbad:(r.need s).bad=true:=by simp[RS.need,h2',RS.spoil]
   rw[Arh hbad]at hN';rw[ht];rw[hN']at hp;refine Asq (B:=⟨325,f325,1,0⟩) func325 (Thr.hd [0] [] (Y6 r e)) 0 (Bt _) (fun rows hr=>?_) ?_
   ·have e:rows=[pc r e]:=by grind [upd]
    subst e;exact(inferInstance:OKR 1 0 [pc r _]).ok
   ·have:=hp hbad;rw[Ad6 h2',Apj h2']at this;exact this
  ·have h2':r.takes s=true:=by simp_all
   have ht:r.take s=r.need s:=by simp[RS.take,RS.need,h2']
   have hb':(r.need s).bad=false:=by grind [RS.need,RS.step]
   rw[ht];exact IH (i+1,r.need s) ⟨hlt,hb',hN'⟩ (by omega) _ _ ⟨vsx (by omega),rfl,rfl,rfl,trivial⟩ rfl rfl rfl
 ·have hie:i=l.length:=by grind
  rw[hie,Hr]at hN;have hN':r0.needs l=r:=hN;rw[hN']at h1;refine Anz (B:=⟨325,f325,1,0⟩) func325 rfl 0 (Bt _) (.same _ (.tup [] (fun x hx=>by cases hx))) (fun rows hr=>?_) ?_
  ·have e:rows=[pc r e]:=by grind
   subst e;exact(inferInstance:OKR 1 0 [pc r _]).ok
  ·exact h1 hb
theorem Amq(r:RS)(e:Nat)(l:List Ad)(hl:l.length≤1000)(hne:∀s,s∈l→s≠[])(hb:r.bad=false)(h:(r.needs l).bad=false) :
 Hands X 325 [.ptr 0 0 0,.sl (Eu l) .no] ⟨[[pc r e]],[]⟩ (.tup []) ⟨[[pc (r.needs l) e]],[]⟩:=by
 refine Hands.mk func325 rfl rfl (by kernel_rfl) rfl rfl ?_;refine K9 0 100 rfl ?_;exact Ag0 r e l hl hne hb _ (fun _=>⟨rfl,rfl⟩) (fun hc=>by simp_all)
theorem Aib(r:RS)(e:Nat)(l:List Ad)(hl:l.length≤1000)(hne:∀s,s∈l→s≠[])(hb:r.bad=false)(h:(r.needs l).bad=true) :
 Throws X 325 [.ptr 0 0 0,.sl (Eu l) .no] ⟨[[pc r e]],[]⟩ (pan ((r.needs l).place e)) ⟨[[pc (r.needs l) e]],[]⟩:=by
 refine⟨⟨_,func325,by kernel_rfl,rfl⟩,J8 (n:=1) (m:=0) func325 rfl rfl rfl rfl ?_⟩;refine K9 0 100 rfl ?_;exact Ag0 r e l hl hne hb _ (fun hc=>by simp_all) (fun _=>⟨rfl,rfl⟩)
theorem Mj(r:RS)(e:Nat)(s:Ad)(hs:s≠[])(hb:r.bad=false)(h:(r.need s).bad=false) :
 Hands X 325 [.ptr 0 0 0,.sl [[str s]] .no] ⟨[[pc r e]],[]⟩ (.tup []) ⟨[[pc (r.need s) e]],[]⟩:=Amq r e [s] (by simp) (by simp_all) hb h
theorem Kb(r:RS)(e:Nat)(s:Ad)(hs:s≠[])(hb:r.bad=false)(h:(r.need s).bad=true) :
 Throws X 325 [.ptr 0 0 0,.sl [[str s]] .no] ⟨[[pc r e]],[]⟩ (pan ((r.need s).place e)) ⟨[[pc (r.need s) e]],[]⟩:=Aib r e [s] (by simp) (by simp_all) hb h
theorem Aga{r:RS}(hb:r.bad=false):r.named=(r.kind==1):=by simp[RS.named,hb]
theorem Xx(r:RS)(e:Nat)(hb:r.bad=false)(h:r.nameR.bad=false):Hands X 324 [.ptr 0 0 0] ⟨[[pc r e]],[]⟩ (str r.name) ⟨[[pc r.nameR e]],[]⟩:=by
 have hn:r.named=true:=by
  grind [RS.nameR,RS.spoil]
 have hk:(r.kind==1)=true:=by grind [Aga]
 have hlt:r.at_<r.ws.length:=Tc (by simp_all);have e1:r.name=r.text:=by simp[RS.name,hn]
 have e2:r.nameR=r.step:=by simp[RS.nameR,hn]
 rw[e1,e2];refine Hands.run func324 ?_;refine Af [0] [] (Ta r e) ?_;refine Ah ?_ (ht:=by simp_all);refine Af [0] [] (Aao r e hlt) ?_;exact Bz func324 rfl rfl
theorem S9(r:RS)(e:Nat)(hb:r.bad=false)(h:r.nameR.bad=true):Throws X 324 [.ptr 0 0 0] ⟨[[pc r e]],[]⟩ (pan (r.nameR.place e)) ⟨[[pc r.nameR e]],[]⟩:=by
 have hn:r.named=false:=by
  grind [RS.nameR,RS.step]
 have hk:(r.kind==1)=false:=by grind [Aga]
 have e1:r.nameR.place e=r.place e:=by simp[RS.nameR,hn,RS.spoil,RS.place]
 have e2:pc r.nameR e=pc r e:=by simp[RS.nameR,hn,RS.spoil,pc]
 rw[e1,e2];refine Throws.run func324 ?_;refine Af [0] [] (Ta r e) ?_;refine Ay ?_ (ht:=by simp_all);exact F9 func324 (Thr.hd [0] [] (Y6 r e)) rfl
theorem A0x(r:RS)(e:Nat)(hw:r.wk)(hk:r.kind=2):Hands X 326 [.ptr 0 0 0] ⟨[[pc r e]],[]⟩ (vi (D8 r.text)) ⟨[[pc r.step e]],[]⟩:=by
 have hlt:r.at_<r.ws.length:=Tc (by omega);have hkt:=Pb hw (by omega);obtain⟨n,hn,hs,hv⟩:=(Qd r.text).1 (Aar (by omega));have hr:=Agl hn hs;have hlen:r.text.length≤1000000000:=by grind [V7]
 have hN:=Agj r.text hlen;rw[hr.2,←hv]at hN;refine Hands.run func326 ?_;refine Af [0] [] (Ta r e) ?_;refine Ah ?_ (ht:=by simp[hk]);refine Af [0] [] (Aao r e hlt) ?_;refine Aj hN ?_;exact Bz func326 rfl rfl
theorem A2h(r:RS)(e:Nat)(hk:r.kind≠2):Throws X 326 [.ptr 0 0 0] ⟨[[pc r e]],[]⟩ (pan (r.place e)) ⟨[[pc r e]],[]⟩:=by
 refine Throws.run func326 ?_;refine Af [0] [] (Ta r e) ?_;refine Ay ?_ (ht:=by simp_all);exact F9 func326 (Thr.hd [0] [] (Y6 r e)) rfl
theorem Aya(r:RS)(e:Nat)(n:Nd)(hb:r.bad=false)(h:(r.need [59]).bad=false):Hands X 349 [.ptr 0 0 0,nd n] ⟨[[pc r e]],[]⟩ (nd n) ⟨[[pc (r.need [59]) e]],[]⟩:=by
 refine Hands.run func349 ?_;refine Af [0] [] (Mj r e [59] (by simp) hb h) ?_;exact Bz func349 rfl rfl
theorem At7(r:RS)(e:Nat)(n:Nd)(hb:r.bad=false)(h:(r.need [59]).bad=true):Throws X 349 [.ptr 0 0 0,nd n] ⟨[[pc r e]],[]⟩ (pan ((r.need [59]).place e)) ⟨[[pc (r.need [59]) e]],[]⟩:=by
 refine Throws.run func349 ?_;exact F9 func349 (Thr.hd [0] [] (Kb r e [59] (by simp) hb h)) rfl
def Rp(T:Nd×RS)(e:Nat):AE→St→Prop:=fun ae S=>ae=(if T.2.bad then .panic (pan (T.2.place e))else .ret (nd T.1))∧S=⟨[[pc T.2 e]],[]⟩
theorem Kn{n:Nd}{q:RS}{e:Nat}(h:q.bad=false):Rp (n,q) e=fun ae S=>ae=.ret (nd n)∧S=⟨[[pc q e]],[]⟩:=by grind [Rp]
theorem Dh{n:Nd}{q:RS}{e:Nat}(h:q.bad=true):Rp (n,q) e=fun ae S=>ae=.panic (pan (q.place e))∧S=⟨[[pc q e]],[]⟩:=by grind [Rp]
structure GoesI (f:FuncId)(T:Nd×RS)(r:RS)(e:Nat):Prop where
 ok:T.2.bad=false→Hands X f [.ptr 0 0 0] ⟨[[pc r e]],[]⟩ (nd T.1) ⟨[[pc T.2 e]],[]⟩
 bad:T.2.bad=true→Throws X f [.ptr 0 0 0] ⟨[[pc r e]],[]⟩ (pan (T.2.place e)) ⟨[[pc T.2 e]],[]⟩
theorem GoesI.run{f:FuncId}{fn:Func}{c:Code}{T:Nd×RS}{r:RS}{e:Nat}{K:List Item}{F':Cw}{S2:St}(hf:X.P.funcs[f]?=some fn)(h:AK X ⟨f,fn,1,0⟩ K F' S2 (Rp T e))(hb:fn.body=some c:=by rfl)
 (hl:Nat.ble 1 fn.ntmps=true:=by rfl)(hnm:(fn.name == "runtime.NumGoroutine")=false:=by kernel_rfl)(he:Go.V.ev X fn.ntmps 200 [.code c] [(0,.ptr 0 0 0)] ⟨[[pc r e]],[]⟩=(K,F',S2):=by rfl):GoesI f T r e:=by
 obtain⟨n,q⟩:=T;refine⟨fun hg=>?_,fun hg=>?_⟩
 ·rw[Kn hg]at h;exact Hands.mk hf hb hl hnm rfl rfl (Ba 200 he h)
 ·rw[Dh hg]at h;exact⟨⟨fn,hf,hnm,by rw[hb];rfl⟩,J8 hf hb hl rfl rfl (Ba 200 he h)⟩
theorem Are{r:RS}(h:r.bad=true):r.nameR=r:=by
 obtain⟨ws,a,b⟩:=r
 grind [RS.nameR,RS.named,RS.spoil]
theorem Abb{f:Nat}{x:Nd}{r:RS}(h:r.bad=true):Ii f x r=(x,r):=by
 cases f with
 |zero=>rfl
 |succ f=>simp_all [Ii,Ee]
theorem V9{f:Nat}{x:Nd}{r:RS}(h:r.bad=true):Hn f x r=(x,r):=by
 cases f with
 |zero=>rfl
 |succ f=>simp_all [Hn,Ee]
theorem Cc{b:Bool}(h:¬b=false):b=true:=by simp_all
theorem E5{r:RS}{s:Ad}(h:r.takes s=true):r.take s=r.step:=by simp[RS.take,h]
theorem F6{r:RS}{s:Ad}(h:r.takes s=false):r.take s=r:=by simp[RS.take,h]
theorem Rs{r:RS}{s s':Ad}(h:r.takes s=true)(hne:s≠s'):r.takes s'=false:=by
 simp_all [RS.takes]
def Aw2(f:Nat):Prop:=∀(r:RS)(e:Nat),r.ok→r.wk→r.bad=false→4*r.left+1≤f→GoesI 378 (Fw f r) r e
def As6(f:Nat):Prop:=∀(r:RS)(e:Nat),r.ok→r.wk→r.bad=false→4*r.left+2≤f→GoesI 367 (Ev f r) r e
def As4(f:Nat):Prop:=∀(r:RS)(e:Nat),r.ok→r.wk→r.bad=false→4*r.left+3≤f→GoesI 352 (Fa f r) r e
theorem A49(f:Nat)(i1:∀g,g<f→Aw2 g)(i4:∀g,g<f→As4 g):Aw2 f:=by
 intro r e ho hw hb hf;obtain⟨g,rfl⟩:∃g,f=g+1:=⟨f-1,by omega⟩
 refine GoesI.run func378 ?_;have hM:Fw (g+1) r=if r.takes [45]then(.mk 5 [] 0 [(Fw g r.step).1],(Fw g r.step).2)
  else if r.kind==2 then(.mk 1 [] (D8 r.text) [],r.step)
  else if r.takes [40]then((Fa g r.step).1,(Fa g r.step).2.need [41])
  else if r.takes [108,101,110]then(.mk 4 (r.step.need [40]).name 0 [],(r.step.need [40]).nameR.need [41])
  else if r.nameR.takes [91]then(.mk 3 r.name 0 [(Fa g r.nameR.step).1],(Fa g r.nameR.step).2.need [93])
  else(.mk 2 r.name 0 [],r.nameR):=by simp_all [Fw]
 rw[hM];refine Af [0] [] (Jk r e [45] hb (by simp)) ?_;refine Ai (fun h1=>?_) (fun h1=>?_)
 ·have h1':r.takes [45]=true:=h1;have hl:=(A2 h1' (by simp)).1;have ls:=Ch hl;have s:=Ak hl;rw[if_pos h1',E5 h1'];have ih:=i1 g (by omega) r.step e (s.ok ho) (s.wk hw) hb (by omega);by_cases hg:(Fw g r.step).2.bad=false
  ·rw[Kn hg];refine Af [0] [] (ih.ok hg) ?_;rw[Lr];exact Bz func378 rfl rfl
  ·have hg:=Cc hg;rw[Dh hg];exact F9 func378 (Thr.hd [0] [] (ih.bad hg)) rfl
 have h1':r.takes [45]=false:=h1;rw[if_neg (by simp[h1']),F6 h1'];refine Af [0] [] (Ta r e) ?_;refine Ai (fun h2=>?_) (fun h2=>?_)
 ·have h2':(r.kind==2)=true:=h2;rw[if_pos h2',Kn (show r.step.bad=false from hb)];refine Af [0] [] (A0x r e hw (by simp_all)) ?_;exact Bz func378 rfl rfl
 have h2':(r.kind==2)=false:=h2;rw[if_neg (by simp[h2'])];refine Af [0] [] (Jk r e [108,101,110] hb (by simp)) ?_;refine Ai (fun h3=>?_) (fun h3=>?_)
 ·have h3':r.takes [108,101,110]=true:=h3;have hn:=Rs (s':=[40]) h3' (by simp);have hl:=(A2 h3' (by simp)).1;have s:=Ak hl;rw[if_neg (by simp[hn]),if_pos h3',E5 h3'];have hb1:r.step.bad=false:=hb;by_cases g1:(r.step.need [40]).bad=false
  ·refine Af [0] [] (Mj r.step e [40] (by simp) hb1 g1) ?_;by_cases g2:(r.step.need [40]).nameR.bad=false
   ·refine Af [0] [] (Xx (r.step.need [40]) e g1 g2) ?_;by_cases g3:((r.step.need [40]).nameR.need [41]).bad=false
    ·rw[Kn g3];refine Af [0] [] (Mj (r.step.need [40]).nameR e [41] (by simp) g2 g3) ?_;exact Bz func378 rfl rfl
    ·have g3:=Cc g3;rw[Dh g3];exact F9 func378 (Thr.hd [0] [] (Kb (r.step.need [40]).nameR e [41] (by simp) g2 g3)) rfl
   ·have g2:=Cc g2;rw[Cq g2,Dh g2];exact F9 func378 (Thr.hd [0] [] (S9 (r.step.need [40]) e g1 g2)) rfl
  ·have g1:=Cc g1;rw[Are g1,Cq g1,Dh g1];exact F9 func378 (Thr.hd [0] [] (Kb r.step e [40] (by simp) hb1 g1)) rfl
 have h3':r.takes [108,101,110]=false:=h3;rw[F6 h3'];refine Af [0] [] (Jk r e [40] hb (by simp)) ?_;refine Ai (fun h4=>?_) (fun h4=>?_)
 ·have h4':r.takes [40]=true:=h4;have hl:=(A2 h4' (by simp)).1;have ls:=Ch hl;have s:=Ak hl;rw[if_pos h4',E5 h4'];have ih:=i4 g (by omega) r.step e (s.ok ho) (s.wk hw) hb (by omega);by_cases g1:(Fa g r.step).2.bad=false
  ·refine Af [0] [] (ih.ok g1) ?_;by_cases g2:((Fa g r.step).2.need [41]).bad=false
   ·rw[Kn g2];refine Af [0] [] (Mj (Fa g r.step).2 e [41] (by simp) g1 g2) ?_;exact Bz func378 rfl rfl
   ·have g2:=Cc g2;rw[Dh g2];exact F9 func378 (Thr.hd [0] [] (Kb (Fa g r.step).2 e [41] (by simp) g1 g2)) rfl
  ·have g1:=Cc g1;rw[Cq g1,Dh g1];exact F9 func378 (Thr.hd [0] [] (ih.bad g1)) rfl
 have h4':r.takes [40]=false:=h4;rw[if_neg (by simp[h4']),if_neg (by simp[h3']),F6 h4'];by_cases g1:r.nameR.bad=false
 ·have an:=C5 ho;refine Af [0] [] (Xx r e hb g1) ?_;refine Af [0] [] (Jk r.nameR e [91] g1 (by simp)) ?_;refine Ai (fun h5=>?_) (fun h5=>?_)
  ·have h5':r.nameR.takes [91]=false:=by simp_all
   rw[if_neg (by simp[h5']),F6 h5',Kn g1];exact Bz func378 rfl rfl
  ·have h5':r.nameR.takes [91]=true:=by simp_all
   have hl:=(A2 h5' (by simp)).1;have ls:=Ch hl;have la:=Bm an;have s:=an.trans (Ak hl);rw[if_pos h5',E5 h5'];have ih:=i4 g (by omega) r.nameR.step e (s.ok ho) (s.wk hw) g1 (by omega);by_cases g2:(Fa g r.nameR.step).2.bad=false
   ·refine Af [0] [] (ih.ok g2) ?_;by_cases g3:((Fa g r.nameR.step).2.need [93]).bad=false
    ·rw[Kn g3];refine Af [0] [] (Mj (Fa g r.nameR.step).2 e [93] (by simp) g2 g3) ?_;rw[Lr];exact Bz func378 rfl rfl
    ·have g3:=Cc g3;rw[Dh g3];exact F9 func378 (Thr.hd [0] [] (Kb (Fa g r.nameR.step).2 e [93] (by simp) g2 g3)) rfl
   ·have g2:=Cc g2;rw[Cq g2,Dh g2];exact F9 func378 (Thr.hd [0] [] (ih.bad g2)) rfl
 ·have g1:=Cc g1;rw[if_neg (by simp[Ee g1]),Dh g1];exact F9 func378 (Thr.hd [0] [] (S9 r e hb g1)) rfl
end Go.V
