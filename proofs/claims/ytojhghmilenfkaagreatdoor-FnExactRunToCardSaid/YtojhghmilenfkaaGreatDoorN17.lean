/- A part of the proof of the claim that the last text states: no condition of its own. -/
import Derived.Test.YtojhghmilenfkaaGreatDoorN16
set_option linter.unusedVariables false
set_option linter.unusedSimpArgs false
namespace Go.V
open Go Go.Proofs Go.Proofs.Tryz
theorem Acw{q:Bool}(n:Nd):∀{lo hi b d:Nat}{bx pre:List (List (List AV))},pre.length=d→Zo q lo hi bx b n→Zo q (lo+d) (hi+d) (pre++Rh d bx) (b+d) n:=by
 induction n using Nd.ind with
 |h n ih=>
 intro lo hi b d bx pre hd h;obtain⟨h1,rows,h2,h3⟩:=Mr.1 h;refine Mr.2 ⟨by omega,rows.map fun r=>r.map (Hn d),?_,Zn (by simpa using Vl h3) fun i x hx=>?_⟩
 ·rw[Gk (by omega),hd,Ad8,Rh,Gl,h2];rfl
 ·obtain⟨r,c,g1,⟨a1,a2,a3,rfl,g2⟩,g4⟩:=Rt h3 i x hx;exact⟨_,c+d,by rw[Gl,g1];rfl,⟨a1,a2,a3,by simp[Hn],g2⟩,ih x (Bh hx) hd g4⟩
abbrev ndB(b:Nat)(n:Nd):AV:=.agg [vi n.kind,str n.name,vi n.num,.bsl b n.kids.length]
def TrG(n:Nd)(r:AV)(bx:List (List (List AV))):Prop:=∃b,r=ndB b n∧Zo true 0 bx.length bx b n
def A41(l:List Nd)(r:AV)(bx:List (List (List AV))):Prop:=∃b,r=.bsl b l.length∧Zo true 0 bx.length bx b (.mk 0 [] 0 l)
theorem Atx{d b:Nat}(n:Nd):Sh d (ndB b n) (ndB (b+d) n):=.aggL (.cons (.val _) (.cons (.val _) (.cons (.val _) (.cons (.bsl b _) .nil))))
theorem Awl{q:Bool}{lo hi b:Nat}{bx:List (List (List AV))}(n:Nd):Zo q lo hi bx b (.mk 0 [] 0 n.kids)↔Zo q lo hi bx b n:=by rw[Mr,Mr];rfl
theorem Azm(l:List Nd)(hl:l.length≤1000000000)(ih:∀x,x∈l→Gives X 12 [nd x] (TrG x)):Gives X 51 [.sl (Ap l) .no] (A41 l):=by
 refine Gives.run func51 ?_;refine Bn (Il (n:=(Ap l).length) (b:=0) (by rw[Ad];exact hl) rfl rfl rfl rfl rfl rfl rfl rfl rfl rfl) ?_;refine Io (ι:=Nat×St) (fun i=>i.1≤l.length∧∃rows,i.2.boxes[0]?=some rows∧rows.length=l.length∧(∀(j:Nat) x,j<i.1→l[j]?=some x→∃r c,rows[j]?=some r∧Awe true x r c∧Zo true 1 i.2.boxes.length i.2.boxes c x)∧∀j:Nat,i.1≤j→j<l.length→rows[j]?=some zN)
  (fun i=>[(4,vi i.1),(3,.bsl 0 l.length),(0,.sl (Ap l) .no)]) (fun i=>i.2) (fun i=>l.length-i.1) ?_ (0,⟨[List.replicate (Ap l).length zN],[]⟩)
  ⟨B3 _,_,rfl,by rw[List.length_replicate,Ad],fun j x h=>absurd h (Va _),fun j _ hj=>by rw[Aph,if_pos (by rw[Ad];exact hj)]⟩ ⟨rfl,by rw[←Ad l];rfl,rfl,trivial⟩ rfl
 intro i hi IH;obtain⟨i,S1⟩:=i;obtain⟨hi,rows,hb,hrl,hdone,hleft⟩:=hi;simp only at hi hb hdone hleft;refine C7 (fun h=>?_) (fun h=>?_)
 ·have hlt:i<l.length:=by have:=A5 h;rw[Ad]at this;simp only at this;omega
  obtain⟨x,hx⟩:=Ab l hlt;refine B4 i (by omega) (Am hx) ?_;refine Te (ih x (Bh hx)) (.cons (.same _ (inferInstance:OK 0 0 (nd x)).ok) .nil) ?_;intro r bx hP;obtain⟨b,rfl,hT⟩:=hP;refine⟨ndB (b+S1.boxes.length) x,Rh S1.boxes.length bx,Atx x,Nu _ _,?_⟩;have hT2:=Acw x (pre:=S1.boxes) rfl hT;have hb2:(S1.boxes++Rh S1.boxes.length bx)[0]?=some rows:=by rw[Cs (Aa hb)];exact hb
  have hz:=hleft i (Bo _) hlt;have h1:1≤S1.boxes.length:=Aa hb;refine Jr i hlt hb2 hz rfl ?_;refine Mn hb2 hz rfl ?_;refine IH (i+1,_) ⟨hlt,_,Eh (Aa hb2),by rw[Agm];exact hrl,fun j y hj hy=>?_,fun j hj hjl=>?_⟩ (by simp only;omega) _ _ ⟨Ci ((Ac (by omega) (by omega)).trans (by simp only;omega)),rfl,rfl,trivial⟩ rfl
  ·by_cases hji:j=i
   ·subst hji;rw[hx]at hy;cases hy;refine⟨_,b+S1.boxes.length,Eh (by omega),⟨_,_,_,rfl,fun _=>rfl⟩,Pk x (by omega) (by simp[Pt];omega) (fun k z hk _ hz=>?_) hT2⟩;show ((S1.boxes++Rh S1.boxes.length bx).set 0 _)[k]?=_;rw[Fq (by omega)];exact hz
   ·obtain⟨r,c,g1,g2,g3⟩:=hdone j y (by simp only at hj;omega) hy;refine⟨r,c,by rw[Fq (Ne.symm hji)];exact g1,g2,Pk y (Bo _) (by simp) (fun k z hk hk2 hz=>?_) g3⟩;show ((S1.boxes++Rh S1.boxes.length bx).set 0 _)[k]?=_;rw[Fq (by omega),Cs hk2];exact hz
  ·simp only at hj;rw[Fq (by omega)];exact hleft j (by omega) hjl
 ·have:i=l.length:=by have:=Ba h;rw[Ad]at this;simp only at this;omega
  subst this;refine Bc func51 (h:=rfl) ⟨_,rfl,0,rfl,Mr.2 ⟨⟨B3 _,Aa hb⟩,rows,hb,Zn hrl fun j x hx=>?_⟩⟩;obtain⟨r,c,g1,g2,g3⟩:=hdone j x (Aa hx) hx;exact⟨r,c,g1,g2,Pk x (B3 _) (Bo _) (fun _ _ _ _ h=>h) g3⟩
theorem A2u(n:Nd)(hn:Ai n≤1000000000):Gives X 12 [nd n] (TrG n):=by
 induction n using Nd.ind with
 |h n ih=>
 have hcn:=Cj n;have hll:=Bm n.kids;refine Gives.run func12 ?_;refine Te (Azm n.kids (by omega) (fun x hx=>ih x hx (by have:=E5 hx;omega))) (.cons (.same _ (inferInstance:OK 0 0 (.sl (Ap n.kids) .no)).ok) .nil) ?_;intro r bx hP;obtain⟨b,rfl,hT⟩:=hP;refine⟨.bsl (b+3) n.kids.length,Rh 3 bx,.bsl b _,Nu _ _,?_⟩;refine Bi 100 rfl ?_;refine Bc func12 (h:=rfl) ⟨_,rfl,b+3,rfl,?_⟩;refine Pk n (B3 _) ?_ (fun _ _ _ _ h=>h) (Acw n (d:=3) (bx:=bx) (pre:=[_,_,_]) rfl ((Awl n).1 hT));simp[Pt]
def InG(l:List Int)(r:AV)(bx:List (List (List AV))):Prop:=∃b,r=.bsl b l.length∧bx[b]?=some (Fe l)
theorem Avi(l:List Int)(hl:l.length≤1000000000):Gives X 20 [.sl (Fe l) .no] (InG l):=by
 have hlen:=D9 l;refine Gives.run func20 ?_;refine Bn (Il (n:=(Fe l).length) (b:=0) (by rw[hlen];exact hl) rfl rfl rfl rfl rfl rfl rfl rfl rfl rfl) ?_;refine Ar (ι:=Nat) 1 0 (fun i=>i≤l.length) (fun i=>[(4,vi i),(3,.bsl 0 l.length),(0,.sl (Fe l) .no)]) (fun i=>⟨[cpR Jk [vi 0] l i],[]⟩) (fun i=>l.length-i) ?_ 0 (B3 _)
  ⟨rfl,by rw[←hlen];rfl,rfl,trivial⟩ (congrArg (fun b=>St.mk [b] []) (Anq Jk [vi 0] l).symm)
 intro i hi IH;refine C7 (fun h=>?_) (fun h=>?_)
 ·have hlt:i<l.length:=by have:=A5 h;rw[hlen]at this;omega
  obtain⟨x,hx⟩:=Ab l hlt;have hr:=Anp Jk [vi 0] hlt;refine B4 i (by omega) (Ev (f:=Jk) hx) ?_;refine Zh i hlt hr ?_;refine Ags hr ?_;refine IH (i+1) hlt (by omega) _ _ ⟨vsx (by omega),rfl,rfl,trivial⟩ ?_ rfl rfl;exact congrArg (fun b=>St.mk [b] []) (Anr Jk [vi 0] hx)
 ·have:i=l.length:=by have:=Ba h;rw[hlen]at this;omega
  subst this;refine Bc func20 (h:=rfl) ⟨_,rfl,0,rfl,?_⟩;show some (cpR Jk [vi 0] l l.length)=_;rw[Ano];rfl
def yR(d:Nat):List Nat→List AV
 |[]=>[]
 |c::l=>.bsl d c::yR (d+1) l
def zcs(c:Nat):List (List AV):=List.replicate c [vb false,vi 0]
theorem Ma:∀(l:List Nat)(d:Nat),(yR d l).length=l.length
 |[],d=>rfl
 |c::l,d=>by simp[yR,Ma l]
theorem Avr:∀(a b:List Nat)(d:Nat),yR d (a++b)=yR d a++yR (d+a.length) b
 |[],b,d=>by simp[yR]
 |c::a,b,d=>by simp only[Pz,yR,Avr a b,Nn];rw[show d+1+a.length=d+(a.length+1) by omega]
theorem Am5:∀{l:List Nat}{d j c:Nat},l[j]?=some c→(yR d l)[j]?=some (.bsl (d+j) c)
 |[],d,j,c,h=>by simp at h
 |c::l,d,0,c',h=>by simp at h;subst h;rfl
 |c::l,d,j+1,c',h=>by
  simp only[Aaw]at h;simp only[yR,Aaw];rw[Am5 h];congr 2;omega
theorem A0h:∀(l:List Nat)(d:Nat),(yR d l).flatMap Jo=List.range' d l.length
 |[],d=>rfl
 |c::l,d=>by simp only[yR,List.flatMap_cons,A0h l,Nn,List.range'_succ,Jo,Akv]
abbrev cR(d:Nat)(l:List Nat):List (List AV):=(yR d l).map fun y=>[y]
theorem Ab1(d:Nat)(l:List Nat)(c:Nat):cR d l++[[.bsl (d+l.length) c]]=cR d (l++[c]):=by simp[cR,Avr,yR]
theorem Apf(n:Nat):Fe (List.replicate n 0)=List.replicate n [vi 0]:=by simp[Fe]
theorem Ans(n:Nat):I9 (List.replicate n (false,0))=zcs n:=by simp[I9,zcs,Nv]
theorem Ann{nv d e:Nat}{cs:List Nat}{C:AV}{bx:List (List (List AV))}(hv:bx[e]?=some (List.replicate nv [vi 0]))(hed:e<d)(hc:∀(j:Nat) c,cs[j]?=some c→bx[d+j]?=some (zcs c))
 (hC:SlG bx C (cR d cs))(hn:∀b,b∈Jo C→d+cs.length≤b)(hnd:(Jo C).Nodup):∃ids,CfB SlG bx (.agg [vi 0,.bsl e nv,C,vi 0,vi 0,vi 0,vi 0,vi 0]) ids (bgC nv cs):=by
 refine⟨_,.bsl e nv,C,yR d cs,rfl,rfl,?_,.inl ⟨e,[],?_,?_⟩,hC,by rw[Ma];simp[bgC],fun j y l hy hl=>?_⟩
 ·rw[A0h];refine zzq108.2 ⟨by simp[Jo],zzq108.2 ⟨hnd,List.nodup_range',fun a ha b hb=>?_⟩,fun a ha b hb=>?_⟩
  ·have:=hn a ha;have:=(List.mem_range'_1.1 hb)
   omega
  ·simp[Jo]at ha;subst ha;rcases zzq45.1 hb with h|h
   ·have:=hn b h;omega
   ·have:=(List.mem_range'_1.1 h);omega
 ·rw[D9];simp[bgC]
 ·rw[H0,hv];simp only[bgC];rw[Apf]
 ·simp only[bgC,Gl]at hl;cases hcj:cs[j]? with
  |none=>rw[hcj]at hl;cases hl
  |some c=>
   rw[hcj]at hl;cases hl;rw[Am5 hcj]at hy;cases hy;refine .inl ⟨d+j,[],by rw[G5];simp,?_⟩;rw[H0,hc j c hcj,Ans]
theorem Tc(bx:List (List (List AV))):CfB SlG bx (.agg [vi 0,.sl [] .tight,.sl [] .tight,vi 0,vi 0,vi 0,vi 0,vi 0]) [] zC:=
 ⟨.sl [] .tight,.sl [] .tight,[],rfl,rfl,.nil,.inr ⟨rfl,rfl,rfl⟩,.inr ⟨rfl,rfl,rfl⟩,rfl,fun j y l h=>by simp at h⟩
def Awo(nv:Nat):Option (List Nat)→Cf
 |some cs=>bgC nv cs
 |none=>zC
def BgP(nv:Nat)(o:Option (List Nat))(r:AV)(bx:List (List (List AV))):Prop:=∃x ids,r=.tup [x,vb o.isSome]∧CfB SlG bx x ids (Awo nv o)
structure BgI (ss ls:List Int)(i:List Nat×Nat):Prop where
 len:i.1.length≤ss.length
 u:i.2≤ls.length
 eq:Xv ss ls=(Xv (ss.drop i.1.length) (ls.drop i.2)).map (i.1++·)
 small:∀c,c∈i.1→c≤1000000
theorem R1{α:Type}{l:List α}{i:Nat}{x:α}(h:l[i]?=some x):l.drop i=x::l.drop (i+1):=by
 obtain⟨h1,h2⟩:=zzq105.1 h;rw[Akw h1,h2]
theorem BgI.given{ss ls:List Int}{cs:List Nat}{u:Nat}{s m:Int}(h:BgI ss ls (cs,u))(hs:ss[cs.length]?=some s)(h0:s<0)(hm:ls[u]?=some m)(hb:Bl m 0 60=true):BgI ss ls (cs++[m.toNat],u+1):=by
 refine⟨by have:=Aa hs;simp;omega,Aa hm,?_,fun c hc=>?_⟩
 ·rw[h.eq];simp only;rw[R1 hs,R1 hm,Xv,if_pos h0];simp only[hb,if_true,Ex,Za,Option.map_map];congr 1;funext l;simp
 ·rcases zzq45.1 hc with hc|hc
  ·exact h.small c hc
  ·simp at hc;subst hc;simp only[Bl,Dd,Ke]at hb;omega
theorem BgI.known{ss ls:List Int}{cs:List Nat}{u:Nat}{s:Int}(h:BgI ss ls (cs,u))(hs:ss[cs.length]?=some s)(h0:0≤s)(h1:s≤1000000):BgI ss ls (cs++[s.toNat],u):=by
 refine⟨by have:=Aa hs;simp;omega,h.u,?_,fun c hc=>?_⟩
 ·rw[h.eq];simp only;rw[R1 hs];cases hd:ls.drop u with
  |nil=>rw[Xv,if_neg (by omega)];simp only[Ex,Za,Option.map_map];congr 1;funext l;simp
  |cons a l=>rw[Xv,if_neg (by omega)];simp only[Ex,Za,Option.map_map];congr 1;funext l;simp
 ·rcases zzq45.1 hc with hc|hc
  ·exact h.small c hc
  ·simp at hc;subst hc;omega
theorem BgI.none1{ss ls:List Int}{cs:List Nat}{u:Nat}{s:Int}(h:BgI ss ls (cs,u))(hs:ss[cs.length]?=some s)(h0:s<0)(hu:u=ls.length):Xv ss ls=none:=by
 rw[h.eq];simp only;rw[R1 hs,hu,Hz,Xv,if_pos h0];rfl
theorem BgI.none2{ss ls:List Int}{cs:List Nat}{u:Nat}{s m:Int}(h:BgI ss ls (cs,u))(hs:ss[cs.length]?=some s)(h0:s<0)(hm:ls[u]?=some m)(hb:Bl m 0 60=false):Xv ss ls=none:=by
 rw[h.eq];simp only;rw[R1 hs,R1 hm,Xv,if_pos h0];simp[hb]
theorem BgI.none3{ss ls:List Int}{cs:List Nat}{u:Nat}(h:BgI ss ls (cs,u))(hc:cs.length=ss.length)(hu:u<ls.length):Xv ss ls=none:=by
 rw[h.eq];simp only;rw[hc,Hz,Akw hu,Xv];rfl
theorem BgI.all{ss ls:List Int}{cs:List Nat}{u:Nat}(h:BgI ss ls (cs,u))(hc:cs.length=ss.length)(hu:u=ls.length):Xv ss ls=some cs:=by
 rw[h.eq];simp only;rw[hc,Hz,hu,Hz,Xv];simp
theorem Ayg(n:Nd)(hr:Fy n=true)(ls:List Int)(hls:ls.length≤1000000000):Gives X 63 [.cptr (Mh n),.sl (Fe ls) .no] (BgP (Ax n 31).length (Xv (Ei n) ls)):=by
 have hkl:=(Iz hr).2.2.2.2;have hvl:(Ax n 31).length≤4500:=Pb (G9 n 31) hkl;have hsl:(Ei n).length≤4500:=by rw[Xp];exact Pb (G9 n 32) hkl
 have hsz:=Akh hr;have hvr:(Dl (Ax n 31)).length=(Ax n 31).length:=F6 _;refine Gives.run func63 ?_;refine Bn (Il (n:=(Dl (Ax n 31)).length) (b:=1) (by rw[hvr];omega) rfl rfl rfl rfl rfl rfl rfl rfl rfl rfl) ?_;refine Xw 2 0 2 ?_;have hzl:=D9 (Ei n);have hll:=D9 ls;refine Io (ι:=List Nat×Nat) (BgI (Ei n) ls) (fun i=>[(22,vi i.1.length),(7,vi i.2),(21,vi (Ei n).length),(20,.sl (Fe (Ei n)) .no),(1,.sl (Fe ls) .no),(6,.ptr 2 0 0),(4,.ptr 0 0 0)])
  (fun i=>⟨[[vi 0,.sl [] .tight,.sl [] .tight,vi 0,vi 0,vi 0,vi 0,vi 0]]::List.replicate (Dl (Ax n 31)).length [vi 0]::[[vi 0,.bsl 1 (Dl (Ax n 31)).length,.psl (cR 3 i.1) 0 i.1.length,vi 0,vi 0,vi 0,vi 0,vi 0]]::i.1.map zcs,[i.1.length]⟩) (fun i=>(Ei n).length-i.1.length) ?_ ([],0)
  ⟨B3 _,B3 _,by simp,fun c h=>by cases h⟩ ⟨rfl,rfl,by rw[←hzl];rfl,rfl,rfl,rfl,rfl,trivial⟩ rfl
 intro i hI IH;obtain⟨cs,u⟩:=i;have hcl:=hI.len;have hul:=hI.u;simp only at hcl hul;refine C7 (fun h=>?_) (fun h=>?_)
 ·have hlt:cs.length<(Ei n).length:=by have:=A5 h;simp only at this;omega
  obtain⟨s,hs⟩:=Ab (Ei n) hlt;have hs1:=hsz s (Bh hs);refine B4 cs.length (by omega) (Ev (f:=Jk) hs) ?_;refine Ah (fun h0=>?_) (fun h0=>?_)
  ·have h0':=A5 h0;refine Df (fun g=>?_) (fun g=>?_)
   ·have hu:u=ls.length:=by have:=eq_of_beq g;rw[hll]at this;simp only at this;omega
    refine A0 ?_;rw[hI.none1 hs h0' hu];exact Bc func63 (h:=rfl) ⟨_,rfl,_,[],rfl,Tc _⟩
   ·have hu:u<ls.length:=by
     have:¬u=ls.length:=fun hh=>by subst hh;rw[hll]at g;simp at g
     omega
    obtain⟨m,hm⟩:=Ab ls hu;refine B4 u (by omega) (Ev (f:=Jk) hm) ?_;refine Al (Vz m 0 60) ?_;refine Ah (fun gb=>?_) (fun gb=>?_)
    ·have gb':Bl m 0 60=false:=by simpa using gb
     rw[hI.none2 hs h0' hm gb'];exact Bc func63 (h:=rfl) ⟨_,rfl,_,[],rfl,Tc _⟩
    ·have gb':Bl m 0 60=true:=by simpa using gb
     have hnew:=hI.given hs h0' hm gb';obtain⟨k,rfl⟩:∃k:Nat,m=k:=⟨m.toNat,by simp only[Bl,Dd,Ke]at gb';omega⟩
     refine B4 u (by omega) (Ev (f:=Jk) hm) ?_;refine D8 168 ?_;refine Dz (Il (n:=k) (b:=3+cs.length) (by have:=hnew.small k (by simp);omega) (by simp;omega) rfl rfl rfl rfl rfl rfl rfl rfl rfl) (An (Ck rfl rfl rfl) Gy) ?_;refine Tu ?_;refine Ch (Oq (ver:=cs.length) rfl (fun r hr=>by obtain⟨y,_,rfl⟩:=zzq66.1 hr;rfl) (fun r hr x hx=>by simp at hr;subst hr;simp at hx;subst hx;exact .bsl _ _) ?_ (Ab1 3 cs k) rfl rfl rfl rfl rfl rfl rfl rfl rfl rfl rfl rfl rfl rfl rfl rfl rfl) ?_
     ·simp[Ma];omega
     refine Av ?_;refine Ch (A7 rfl rfl rfl rfl rfl rfl rfl) ?_;refine B2 ?_;refine IH (cs++[k],u+1) hnew (by simp;omega) _ _ ⟨Ci ?_,Ci ((Ac (by omega) (by omega)).trans (by simp)),rfl,rfl,rfl,rfl,rfl,trivial⟩ ?_
     ·rw[Ac (by simp only;omega) (by simp only;omega)];simp
     ·simp[zcs]
  ·have h0':0≤s:=by have:=Ba h0;omega
   have hnew:=hI.known hs h0' hs1;obtain⟨k,rfl⟩:∃k:Nat,s=k:=⟨s.toNat,by omega⟩
   refine D8 168 ?_;refine Dz (Il (n:=k) (b:=3+cs.length) (by have:=hnew.small k (by simp);omega) (by simp;omega) rfl rfl rfl rfl rfl rfl rfl rfl rfl) (An (Ck rfl rfl rfl) Gy) ?_;refine Tu ?_;refine Ch (Oq (ver:=cs.length) rfl (fun r hr=>by obtain⟨y,_,rfl⟩:=zzq66.1 hr;rfl) (fun r hr x hx=>by simp at hr;subst hr;simp at hx;subst hx;exact .bsl _ _) ?_ (Ab1 3 cs k) rfl rfl rfl rfl rfl rfl rfl rfl rfl rfl rfl rfl rfl rfl rfl rfl rfl) ?_
   ·simp[Ma];omega
   refine Av ?_;refine Ch (A7 rfl rfl rfl rfl rfl rfl rfl) ?_;refine B2 ?_;refine IH (cs++[k],u) hnew (by simp;omega) _ _ ⟨Ci ?_,rfl,rfl,rfl,rfl,rfl,rfl,trivial⟩ ?_
   ·rw[Ac (by simp only;omega) (by simp only;omega)];simp
   ·simp[zcs]
 ·have hce:cs.length=(Ei n).length:=by have:=Ba h;simp only at this;omega
  by_cases hu:u=ls.length
  ·have hall:=hI.all hce hu;rw[hall];have hg:∀(j:Nat) c (A B C:List (List AV)) T,cs[j]?=some c→(A::B::C::(cs.map zcs++T))[3+j]?=some (zcs c):=fun j c A B C T hj=>by
    rw[show 3+j=j+1+1+1 by omega];simp only[Aaw];rw[Cs (by simpa using Aa hj),Gl,hj];rfl
   have hbg:bgC (Dl (Ax n 31)).length cs=bgC (Ax n 31).length cs:=by rw[hvr]
   by_cases hne:cs=[]
   ·subst hne;refine Ag ?_ (ht:=by rw[hll,hu];simp);obtain⟨ids,hG⟩:=Ann (nv:=(Dl (Ax n 31)).length) (d:=3) (e:=1) (cs:=[]) (C:=.psl [] 0 0) (bx:=[[[vi 0,.bsl 1 (Dl (Ax n 31)).length,.psl [] 0 0,vi 0,vi 0,vi 0,vi 0,vi 0]],List.replicate (Dl (Ax n 31)).length [vi 0],[[vi 0,.bsl 1 (Dl (Ax n 31)).length,.psl [] 0 0,vi 0,vi 0,vi 0,vi 0,vi 0]]])
     rfl (by omega) (fun j c h=>by simp at h) (.inr ⟨rfl,rfl,rfl⟩) (fun b h=>by simp[Jo]at h) .nil
    rw[hbg]at hG;exact Bc func63 (h:=rfl) ⟨_,rfl,_,ids,rfl,hG⟩
   ·refine Av1 2 0 2 (rows:=cR 3 cs) (m:=3+cs.length) (n:=cs.length) (fun h=>hne (zzq94.1 (by have:=congrArg List.length h;simpa[Ma]using this))) (fun k z=>?_) (hm:=by simp;omega) (hn:=by simp[Ma]);refine Ag ?_ (ht:=by rw[hll,hu];simp);obtain⟨ids,hG⟩:=Ann (nv:=(Dl (Ax n 31)).length) (d:=3) (e:=1) (cs:=cs) (C:=.bsl (3+cs.length) cs.length) (bx:=[[vi 0,.bsl 1 (Dl (Ax n 31)).length,.bsl (3+cs.length) cs.length,vi 0,vi 0,vi 0,vi 0,vi 0]]::List.replicate (Dl (Ax n 31)).length [vi 0] ::
     [[vi 0,.bsl 1 (Dl (Ax n 31)).length,.bsl (3+cs.length) cs.length,vi 0,vi 0,vi 0,vi 0,vi 0]]::(cs.map zcs++[cR 3 cs++Y0 k z]))
     rfl (by omega) (fun j c h=>hg j c _ _ _ _ h) (.inl ⟨3+cs.length,Y0 k z,by simp[Ma],by rw[show 3+cs.length=cs.length+1+1+1 by omega];simp⟩) (fun b h=>by simp[Jo]at h;omega) (by simp[Jo])
    rw[hbg]at hG;exact Bc func63 (h:=rfl) ⟨_,rfl,_,ids,rfl,hG⟩
  ·rw[hI.none3 hce (by omega)];refine A0 ?_ (ht:=by rw[hll];simp;omega);exact Bc func63 (h:=rfl) ⟨_,rfl,_,[],rfl,Tc _⟩
theorem SlB.given{bx:List (List (List AV))}{x:AV}{rows:List (List AV)}(h:SlB bx x rows):SlG bx x rows:=by
 rcases h with h|⟨rfl,sp,rfl⟩
 ·exact .inl h
 ·exact .inr ⟨rfl,rfl,rfl⟩
theorem CfB.given{bx:List (List (List AV))}{x:AV}{ids:List Nat}{c:Cf}(h:CfB SlB bx x ids c):CfB SlG bx x ids c:=by
 obtain⟨V,C,ys,h1,h2,h3,h4,h5,h6,h7⟩:=h.ex;exact⟨V,C,ys,h1,h2,h3,h4.given,h5.given,h6,fun j y l hy hl=>(h7 j y l hy hl).given⟩
theorem CfB.parts{Sl:List (List (List AV))→AV→List (List AV)→Prop}{bx:List (List (List AV))}{x:AV}{ids:List Nat}{c:Cf}(h:CfB Sl bx x ids c):∃V C,x=.agg [vi c.pt,V,C,vi c.used,vi c.steps,vi c.trap,vi c.edge,vi c.acc]:=by
 obtain⟨V,C,ys,h1,_⟩:=h.ex;exact⟨V,C,h1⟩
theorem CfB.shapes{bx:List (List (List AV))}{V C:AV}{a1 a2 a3 a4 a5 a6:Int}{ids:List Nat}{c:Cf}(h:CfB SlB bx (.agg [vi a1,V,C,vi a2,vi a3,vi a4,vi a5,vi a6]) ids c):((∃b n,V=.bsl b n)∨∃sp,V=.sl [] sp)∧((∃b n,C=.bsl b n)∨∃sp,C=.sl [] sp):=by
 obtain⟨V',C',ys,h1,h2,h3,h4,h5,h6,h7⟩:=h.ex;simp only[AV.agg.injEq,List.cons.injEq]at h1;obtain⟨_,rfl,rfl,_⟩:=h1;exact⟨h4.shape,h5.shape⟩
theorem CfB.ltG{bx:List (List (List AV))}{x:AV}{ids:List Nat}{c:Cf}(h:CfB SlG bx x ids c):∀i,i∈ids→i<bx.length:=by
 obtain⟨V,C,ys,_,rfl,_,h4,h5,h6,h7⟩:=h.ex;have key:∀{y:AV} {rows:List (List AV)},SlG bx y rows→∀i,i∈Jo y→i<bx.length:=fun{y rows} hy i hi=>by
  rcases hy with⟨b,ex,rfl,h⟩|⟨_,_,h⟩
  ·simp[Jo]at hi;subst hi;exact Aa h
  ·rw[h]at hi;cases hi
 intro i hi;simp only[zzq45,zzq106]at hi;rcases hi with h|h|⟨y,hy,hi⟩
 ·exact key h4 i h
 ·exact key h5 i h
 ·obtain⟨j,hj⟩:=Bs hy;obtain⟨l,hl⟩:=Ab c.cells (i:=j) (by rw[←h6];exact Aa hj);exact key (h7 j y l hj hl) i hi
theorem Fc{bx:List (List (List AV))}{V C:AV}{ids:List Nat}{c:Cf}(h:CfB SlB bx (.agg (Ef c V C)) ids c):cellsOf (.agg (Ef c V C))=some (Ef c V C):=by
 rcases h.shapes with⟨⟨v1,v2,rfl⟩|⟨v1,rfl⟩,⟨c1,c2,rfl⟩|⟨c1,rfl⟩⟩<;>rfl
theorem Azo{d:Nat}{x y:AV}{b:Bool}(h:Sh d x y):Sh d (.tup [x,vb b]) (.tup [y,vb b]):=by
 have h:=(ShL.cons h (.cons (.val (.bool b)) .nil)).get;exact .tup _ _ h.1 h.2
theorem Azz(d:Nat)(l:List Nat):Kf 1 (cR d l)=true:=Kx (f:=fun y:AV=>[y]) (fun _=>rfl) _
theorem A3s{S:St}{nv d e:Nat}{cs:List Nat}(hv:S.boxes[e]?=some (List.replicate nv [vi 0]))(hnv:nv≤1000000)(hl:cs.length≤1000000)(hc:∀(j:Nat) c,cs[j]?=some c→S.boxes[d+j]?=some (zcs c))(hcl:∀c,c∈cs→c≤1000000)(sp:Sp) :
 Fz S 0 0 (.tup [.agg [vi 0,.bsl e nv,.sl (cR d cs) sp,vi 0,vi 0,vi 0,vi 0,vi 0],vb true]) (.tup [cf (bgC nv cs),vb true]):=by
 have fV:Fz S 0 0 (.bsl e nv) (.sl (Fe (List.replicate nv 0)) .no):=
  SlB.flat (.inl ⟨e,[],by rw[D9];simp,by rw[H0,hv,Apf]⟩) (by rw[D9];simp;omega) inferInstance
 have fC:Fz S 0 0 (.sl (cR d cs) sp) (.sl (Ov (cs.map fun k=>List.replicate k (false,0))) .no):=by
  refine .strip _ _ sp (by rw[X9];simp[Ma]) (fun i r r' h1 h2=>?_) fun i j r r' x y h1 h2 h3 h4=>?_
  ·simp only[Ov,Gl,Option.map_map]at h1 h2;cases hy:(yR d cs)[i]? with
   |none=>rw[hy]at h1;cases h1
   |some y=>
    cases hk:cs[i]? with
    |none=>rw[hk]at h2;cases h2
    |some k=>rw[hy]at h1;rw[hk]at h2;cases h1;cases h2;rfl
  ·simp only[Ov,Gl,Option.map_map]at h1 h2;cases hk:cs[i]? with
   |none=>rw[hk]at h2;cases h2
   |some k=>
    rw[Am5 hk]at h1;rw[hk]at h2;cases h1;cases h2;have hj:j=0:=by have:=Aa h3;simp at this;omega
    subst hj;simp at h3 h4;subst h3;subst h4;exact SlB.flat (.inl ⟨d+i,[],by rw[G5];simp,by rw[H0,hc i k hk,Ans]⟩) (by rw[G5];simp;have:=hcl k (Bh hk);omega) inferInstance
 refine .tup _ _ rfl fun j a b ha hb=>?_
 match j,ha,hb with
 |0,ha,hb=>
  simp at ha hb;subst ha;subst hb;refine .agg _ _ rfl fun j a b ha hb=>?_
  match j,ha,hb with
  |0,ha,hb=>simp at ha hb;subst ha;subst hb;exact .same _ (.val _)
  |1,ha,hb=>simp at ha hb;subst ha;subst hb;exact fV
  |2,ha,hb=>simp at ha hb;subst ha;subst hb;exact fC
  |3,ha,hb=>simp at ha hb;subst ha;subst hb;exact .same _ (.val _)
  |4,ha,hb=>simp at ha hb;subst ha;subst hb;exact .same _ (.val _)
  |5,ha,hb=>simp at ha hb;subst ha;subst hb;exact .same _ (.val _)
  |6,ha,hb=>simp at ha hb;subst ha;subst hb;exact .same _ (.val _)
  |7,ha,hb=>simp at ha hb;subst ha;subst hb;exact .same _ (.val _)
  |j+8,ha,_=>simp at ha
 |1,ha,hb=>simp at ha hb;subst ha;subst hb;exact .same _ (.val _)
 |j+2,ha,_=>simp at ha
theorem Axz(n:Nd)(hr:Fy n=true)(ls:List Int)(hls:ls.length≤1000000000):Pure X 62 [.agg (Kp n),.sl (Fe ls) .no] (.tup [cf (Awo (Ax n 31).length (Xv (Ei n) ls)),vb (Xv (Ei n) ls).isSome]):=by
 have hkl:=(Iz hr).2.2.2.2;have hvl:(Ax n 31).length≤4500:=Pb (G9 n 31) hkl;have hsl:(Ei n).length≤4500:=by rw[Xp];exact Pb (G9 n 32) hkl
 have hsz:=Akh hr;have hvr:(Dl (Ax n 31)).length=(Ax n 31).length:=F6 _;refine Pure.run func62 ?_;refine Bn (Il (n:=(Dl (Ax n 31)).length) (b:=2) (by rw[hvr];omega) rfl rfl rfl rfl rfl rfl rfl rfl rfl rfl) ?_;refine En 3 0 2 rfl rfl rfl rfl rfl rfl ?_;have hzl:=D9 (Ei n);have hll:=D9 ls;refine Io (ι:=List Nat×Nat) (BgI (Ei n) ls) (fun i=>[(8,vi i.1.length),(7,vi i.2),(1,.sl (Fe ls) .no),(6,.ptr 3 0 0),(4,.ptr 1 0 0),(2,.ptr 0 0 0)])
  (fun i=>⟨[Kp n]::[[vi 0,.sl [] .tight,.sl [] .tight,vi 0,vi 0,vi 0,vi 0,vi 0]]::List.replicate (Dl (Ax n 31)).length [vi 0]::[[vi 0,.bsl 2 (Dl (Ax n 31)).length,.sl (cR 4 i.1) (.tok 0),vi 0,vi 0,vi 0,vi 0,vi 0]]::i.1.map zcs,[i.1.length]⟩) (fun i=>(Ei n).length-i.1.length) ?_ ([],0)
  ⟨B3 _,B3 _,by simp,fun c h=>by cases h⟩ ⟨rfl,rfl,rfl,rfl,rfl,rfl,trivial⟩ rfl
 intro i hI IH;obtain⟨cs,u⟩:=i;have hcl:=hI.len;have hul:=hI.u;simp only at hcl hul;refine C7 (fun h=>?_) (fun h=>?_)
 ·have hlt:cs.length<(Ei n).length:=by have:=A5 h;rw[hzl]at this;simp only at this;omega
  obtain⟨s,hs⟩:=Ab (Ei n) hlt;have hs1:=hsz s (Bh hs);refine B4 cs.length (by omega) (Ev (f:=Jk) hs) ?_;refine Ah (fun h0=>?_) (fun h0=>?_)
  ·have h0':=A5 h0;refine Df (fun g=>?_) (fun g=>?_)
   ·have hu:u=ls.length:=by have:=A5 g;rw[hll]at this;simp only at this;omega
    refine A0 ?_;rw[hI.none1 hs h0' hu];exact As func62 rfl
   ·have hu:u<ls.length:=by have:=Ba g;rw[hll]at this;simp only at this;omega
    obtain⟨m,hm⟩:=Ab ls hu;refine B4 u (by omega) (Ev (f:=Jk) hm) ?_;refine Al (H4 m 0 60) ?_;refine Ah (fun gb=>?_) (fun gb=>?_)
    ·have gb':Bl m 0 60=false:=by simpa using gb
     rw[hI.none2 hs h0' hm gb'];exact As func62 rfl
    ·have gb':Bl m 0 60=true:=by simpa using gb
     have hnew:=hI.given hs h0' hm gb';obtain⟨k,rfl⟩:∃k:Nat,m=k:=⟨m.toNat,by simp only[Bl,Dd,Ke]at gb';omega⟩
     refine B4 u (by omega) (Ev (f:=Jk) hm) ?_;refine D8 168 ?_;refine Dz (Il (n:=k) (b:=4+cs.length) (by have:=hnew.small k (by simp);omega) (by simp;omega) rfl rfl rfl rfl rfl rfl rfl rfl rfl) (An (Ck rfl rfl rfl) Gy) ?_;refine Tu ?_;refine Ch (Bu (res:=cR 4 (cs++[k])) rfl rfl rfl rfl rfl rfl rfl rfl rfl rfl rfl rfl rfl rfl (by simp[Ma]) (Azz _ _) rfl rfl rfl ?_ (Ab1 4 cs k) rfl) ?_
     ·simp[Ma];omega
     refine Av ?_;refine Ch (A7 rfl rfl rfl rfl rfl rfl rfl) ?_;refine B2 ?_;refine IH (cs++[k],u+1) hnew (by simp;omega) _ _ ⟨Ci ?_,Ci ((Ac (by omega) (by omega)).trans (by simp)),rfl,rfl,rfl,rfl,trivial⟩ ?_
     ·rw[Ac (by simp only;omega) (by simp only;omega)];simp
     ·simp[zcs,Ma]
  ·have h0':0≤s:=by have:=Ba h0;omega
   have hnew:=hI.known hs h0' hs1;obtain⟨k,rfl⟩:∃k:Nat,s=k:=⟨s.toNat,by omega⟩
   refine D8 168 ?_;refine Dz (Il (n:=k) (b:=4+cs.length) (by have:=hnew.small k (by simp);omega) (by simp;omega) rfl rfl rfl rfl rfl rfl rfl rfl rfl) (An (Ck rfl rfl rfl) Gy) ?_;refine Tu ?_;refine Ch (Bu (res:=cR 4 (cs++[k])) rfl rfl rfl rfl rfl rfl rfl rfl rfl rfl rfl rfl rfl rfl (by simp[Ma]) (Azz _ _) rfl rfl rfl ?_ (Ab1 4 cs k) rfl) ?_
   ·simp[Ma];omega
   refine Av ?_;refine Ch (A7 rfl rfl rfl rfl rfl rfl rfl) ?_;refine B2 ?_;refine IH (cs++[k],u) hnew (by simp;omega) _ _ ⟨Ci ?_,rfl,rfl,rfl,rfl,rfl,trivial⟩ ?_
   ·rw[Ac (by simp only;omega) (by simp only;omega)];simp
   ·simp[zcs,Ma]
 ·have hce:cs.length=(Ei n).length:=by have:=Ba h;rw[hzl]at this;simp only at this;omega
  by_cases hu:u=ls.length
  ·have hall:=hI.all hce hu;rw[hall];have hg:∀(j:Nat) c (A B C D:List (List AV)),cs[j]?=some c→(A::B::C::D::cs.map zcs)[4+j]?=some (zcs c):=fun j c A B C D hj=>by
    rw[show 4+j=j+1+1+1+1 by omega];simp only[Aaw];rw[Gl,hj];rfl
   refine Ag ?_ (ht:=by rw[hll,hu];simp);rw[←hvr];refine E8 (B:=⟨62,_,0,0⟩) func62 (h:=rfl) 0 (Bo _) ?_ (fun rows hr=>by simp at hr) ⟨rfl,rfl⟩;exact A3s rfl (by rw[hvr];omega) (by omega) (fun j c h=>hg j c _ _ _ _ h) hI.small (.tok 0)
  ·rw[hI.none3 hce (by omega)];refine A0 ?_ (ht:=by rw[hll];simp;omega);exact As func62 rfl
def CcG(cells:List (List (Bool×Int)))(r:AV)(bx:List (List (List AV))):Prop:=
 ∃ys:List AV,SlG bx r (ys.map fun y=>[y])∧ys.length=cells.length∧(∀(j:Nat) (y:AV) (l:List (Bool×Int)),ys[j]?=some y→cells[j]?=some l→SlG bx y (I9 l))∧(Jo r++ys.flatMap Jo).Nodup∧∀b,b∈Jo r++ys.flatMap Jo→b<bx.length
structure CcI (cells:List (List (Bool×Int)))(S:St)(ys:List AV):Prop where
 len:ys.length≤cells.length
 rows:∀(j:Nat) (y:AV) (l:List (Bool×Int)),ys[j]?=some y→cells[j]?=some l→SlB S.boxes y (I9 l)
 nd:(ys.flatMap Jo).Nodup
 lt:∀b,b∈ys.flatMap Jo→b<S.boxes.length
 not:∀y,y∈ys→NoT y
theorem CcI.nil(cells:List (List (Bool×Int)))(S:St):CcI cells S []:=⟨B3 _,fun j y l h=>by simp at h,.nil,fun b h=>by simp at h,fun y h=>by cases h⟩
theorem CcI.snoc{cells:List (List (Bool×Int))}{S S':St}{ys:List AV}{y:AV}{l:List (Bool×Int)}{m:List (List (List AV))}(h:CcI cells S ys)(hl:cells[ys.length]?=some l)(hb:S'.boxes=S.boxes++m)(hy:SlB S'.boxes y (I9 l))(hn:(Jo y).Nodup)(hge:∀b,b∈Jo y→S.boxes.length≤b)(ht:NoT y):CcI cells S' (ys++[y]):=by
 refine⟨by have:=Aa hl;simp;omega,fun j z q hz hq=>?_,?_,fun b hb'=>?_,fun z hz=>?_⟩
 ·rcases getElem?_snoc hz with hz|⟨hj,rfl⟩
  ·rw[hb];exact(h.rows j z q hz hq).more
  ·subst hj;rw[hl]at hq;cases hq;exact hy
 ·rw[List.flatMap_append];simp only[List.flatMap_cons,List.flatMap_nil,H0];exact zzq108.2 ⟨h.nd,hn,fun a ha b hb'=>by have:=h.lt a ha;have:=hge b hb';omega⟩
 ·rw[List.flatMap_append]at hb';simp only[List.flatMap_cons,List.flatMap_nil,H0,zzq45]at hb';rcases hb' with h1|h1
  ·have:=h.lt b h1;rw[hb];simp;omega
  ·exact hy.lt b h1
 ·rcases zzq45.1 hz with hz|hz
  ·exact h.not z hz
  ·simp at hz;subst hz;exact ht
theorem CcI.give{cells:List (List (Bool×Int))}{S:St}{ys:List AV}(h:CcI cells S ys)(hl:ys.length=cells.length){r:AV}{m:List (List (List AV))}(hr:(ys=[]∧Hn 0 r=.sl [] .no∧Jo r=[])∨∃ex,r=.bsl S.boxes.length ys.length∧m=[ys.map (fun y=>[y])++ex]):CcG cells r (S.boxes++m):=by
 refine⟨ys,?_,hl,fun j y l hy hl=>(h.rows j y l hy hl).more.given,?_,fun b hb=>?_⟩
 ·rcases hr with⟨rfl,h1,h2⟩|⟨ex,rfl,rfl⟩
  ·exact .inr ⟨rfl,h1,h2⟩
  ·exact .inl ⟨S.boxes.length,ex,by simp,by simp⟩
 ·rcases hr with⟨_,_,h2⟩|⟨ex,rfl,rfl⟩
  ·rw[h2];exact h.nd
  ·exact zzq108.2 ⟨by simp[Jo],h.nd,fun a ha b hb=>by simp[Jo]at ha;subst ha;have:=h.lt b hb;omega⟩
 ·rcases zzq45.1 hb with h1|h1
  ·rcases hr with⟨_,_,h2⟩|⟨ex,rfl,rfl⟩
   ·rw[h2]at h1;cases h1
   ·simp[Jo]at h1;subst h1;simp
  ·have:=h.lt b h1;simp;omega
theorem Abc(cells:List (List (Bool×Int)))(hcl:cells.length≤1000000000)(hcx:∀x,x∈cells→x.length≤1000000000):Gives X 182 [.sl (Ov cells) .no] (CcG cells):=by
 have hlen:=X9 cells;refine Gives.run func182 ?_;refine Aru 3 ?_;refine Io (ι:=St×List AV) (fun i=>i.1.toks=[i.2.length]∧CcI cells i.1 i.2) (fun i=>[(4,vi i.2.length),(3,.psl (i.2.map fun y=>[y]) 0 i.2.length),(0,.sl (Ov cells) .no)]) (fun i=>i.1) (fun i=>cells.length-i.2.length) ?_ (⟨[],[0]⟩,[])
  ⟨rfl,CcI.nil _ _⟩ ⟨rfl,rfl,rfl,trivial⟩ rfl
 intro i hi IH;obtain⟨S1,ys⟩:=i;obtain⟨htk,hI⟩:=hi;simp only at htk hI;refine C7 (fun g=>?_) (fun g=>?_)
 ·have hlt:ys.length<cells.length:=by have:=A5 g;rw[hlen]at this;simp only at this;omega
  obtain⟨l,hl⟩:=Ab cells hlt;have hll:=hcx l (Bh hl);have hcr:=G5 l;refine Mm ys.length (by omega) (Ev (f:=Alu) hl) ?_;cases hle:l with
  |nil=>
   subst hle;refine Hi Acm rfl rfl ?_;refine Cb 60 rfl ?_;refine Hi (Oq (ver:=ys.length) (res:=(ys++[AV.sl [] .tight]).map fun y=>[y]) (by simp only[htk];rfl) (fun r hr=>by obtain⟨y,_,rfl⟩:=zzq66.1 hr;rfl) (fun r hr x hx=>by simp at hr;subst hr;simp at hx;subst hx;exact(.sl _ _ (fun r h=>by cases h) fun t h=>by cases h)) (by simp;omega) (by simp) rfl rfl rfl rfl rfl rfl rfl rfl rfl rfl rfl rfl rfl rfl rfl rfl rfl) rfl rfl ?_;refine Cb 60 rfl ?_;refine IH (⟨S1.boxes++[],[ys.length+1]⟩,ys++[AV.sl [] .tight]) ⟨by simp,hI.snoc hl rfl (.inr ⟨rfl,.tight,rfl⟩) .nil (fun b h=>by cases h) (.sl _ _ (fun r h=>by cases h) fun t h=>by cases h)⟩ (by simp;omega) _ _ ⟨Ci ?_,by simp;rfl,rfl,trivial⟩ (by simp[htk])
   ·rw[Ac (by simp only;omega) (by simp only;omega)];simp
  |cons a l'=>
   rw[←hle];refine Zi (new:=I9 l) (fun cc=>?_) ?_ ?_ ?_ ?_
   ·skip
    refine Cb 60 rfl ?_;refine Hi (Oq (ver:=ys.length) (res:=(ys++[AV.bsl S1.boxes.length (I9 l).length]).map fun y=>[y]) (by simp only[htk];rfl) (fun r hr=>by obtain⟨y,_,rfl⟩:=zzq66.1 hr;rfl) (fun r hr x hx=>by simp at hr;subst hr;simp at hx;subst hx;exact(.bsl _ _)) (by simp;omega) (by simp) rfl rfl rfl rfl rfl rfl rfl rfl rfl rfl rfl rfl rfl rfl rfl rfl rfl) rfl rfl ?_;refine Cb 60 rfl ?_;refine IH (⟨S1.boxes++[I9 l++List.replicate cc [vb false,vi 0]],[ys.length+1]⟩,ys++[AV.bsl S1.boxes.length (I9 l).length]) ⟨by simp,hI.snoc hl rfl (.inl ⟨S1.boxes.length,List.replicate cc [vb false,vi 0],rfl,by simp⟩) (by simp[Jo]) (fun b h=>by simp[Jo]at h;omega) (.bsl _ _)⟩ (by simp;omega) _ _ ⟨Ci ?_,by simp;rfl,rfl,trivial⟩ (by simp[htk])
    ·rw[Ac (by simp only;omega) (by simp only;omega)];simp
   ·exact fun r hr=>by obtain⟨z,_,rfl⟩:=zzq66.1 hr;rfl
   ·exact fun r hr x hx=>by obtain⟨z,_,rfl⟩:=zzq66.1 hr;simp at hx;rcases hx with rfl|rfl<;>rfl
   ·rw[hle];simp[I9]
   ·omega
 ·have he:ys.length=cells.length:=by have:=Ba g;rw[hlen]at this;simp only at this;have:=hI.len;omega
  by_cases hne:ys=[]
  ·subst hne;refine Bc func182 (h:=rfl) ⟨_,rfl,?_⟩;have:=hI.give he (r:=.psl [] 0 0) (m:=[]) (.inl ⟨rfl,rfl,rfl⟩);rw[H0]at this;exact this
  ·refine A0i 2 (rows:=ys.map fun y=>[y]) (t:=0) (v:=ys.length) (m:=S1.boxes.length) (n:=ys.length) (by simpa using hne) (fun k z=>?_) (hS:=by simp only[htk];rfl) (hn:=by simp);refine Bc func182 (h:=rfl) ⟨_,rfl,?_⟩;exact hI.give he (.inr ⟨_,rfl,rfl⟩)
theorem Ax1(c:Cf)(hc:CfOk c):Gives X 122 [cf c] (fun r bx=>∃ids,CfB SlG bx r ids c):=by
 have hcv:=hc.vars;have hvl:=D9 c.vars;refine Gives.run func122 ?_;cases hv:c.vars with
 |nil=>
  refine Hi Acm rfl rfl ?_;refine Bi 100 rfl ?_;refine Te (Abc c.cells hc.cells hc.rows) (.cons (.same _ (inferInstance:OK 0 0 (.sl (Ov c.cells) .no)).ok) .nil) ?_;intro r bx hP;obtain⟨ys,h1,h2,h3,h4,h5⟩:=hP;refine⟨Hn 2 r,Rh 2 bx,U3 _ _,Nu _ _,?_⟩;have hH:=fun a b=>h1.held (pre:=[a,b]);have hR:∀a b,CfB SlB (a::b::Rh 2 bx) (.agg (Ef c (.sl [] .tight) (Hn 2 r))) (Jo (.sl [] .tight)++(Jo r++ys.flatMap Jo).map (·+2)) c:=fun a b=>
   ⟨(.sl [] .tight),Hn 2 r,ys.map (Hn 2),rfl,by simp only[Kr,Ah3,List.map_flatMap,List.flatMap_map],(by simp only[Jo,Tj];exact List.Pairwise.map _ (fun a b h=>by simp only[ne_eq]at h⊢;omega) h4),(.inr ⟨by rw[hv];rfl,.tight,rfl⟩),by have:=hH a b;rw[List.map_map]at this;rw[List.map_map];exact this,by simpa using h2,fun j y l hy hl=>by
     rw[Gl]at hy;cases hy':ys[j]? with
     |none=>rw[hy']at hy;cases hy
     |some y0=>
      rw[hy']at hy;cases hy;have:=(h3 j y0 l hy' hl).held (pre:=[a,b]);rw[Un]at this;exact this⟩
  have hsh:=(hR [] []).shapes;generalize hr2:Hn 2 r=r2 at *;rcases hsh.2 with⟨c1,c2,rfl⟩|⟨c1,rfl⟩ <;>
  ·refine Bi 100 rfl ?_;exact Bc func122 (h:=rfl) ⟨_,rfl,_,(hR _ _).given⟩
 |cons q ll=>
  refine Zi (new:=Fe (q::ll)) (fun cc=>?_) ?_ ?_ ?_ ?_
  ·refine Bi 100 rfl ?_;refine Te (Abc c.cells hc.cells hc.rows) (.cons (.same _ (inferInstance:OK 0 0 (.sl (Ov c.cells) .no)).ok) .nil) ?_;intro r bx hP;obtain⟨ys,h1,h2,h3,h4,h5⟩:=hP;refine⟨Hn 3 r,Rh 3 bx,U3 _ _,Nu _ _,?_⟩;have hH:=fun a b=>h1.held (pre:=[a,b,Fe (q::ll)++List.replicate cc [vi 0]]);have hR:∀a b,CfB SlB (a::b::(Fe (q::ll)++List.replicate cc [vi 0])::Rh 3 bx) (.agg (Ef c (.bsl 2 (Fe (q::ll)).length) (Hn 3 r))) (Jo (.bsl 2 (Fe (q::ll)).length)++(Jo r++ys.flatMap Jo).map (·+3)) c:=fun a b=>
    ⟨(.bsl 2 (Fe (q::ll)).length),Hn 3 r,ys.map (Hn 3),rfl,by simp only[Kr,Ah3,List.map_flatMap,List.flatMap_map],(zzq108.2 ⟨by simp[Jo],List.Pairwise.map _ (fun a b h=>by simp only[ne_eq]at h⊢;omega) h4,fun x hx y hy=>by simp[Jo]at hx;obtain⟨z,_,rfl⟩:=zzq66.1 hy;omega⟩),(.inl ⟨2,List.replicate cc [vi 0],by rw[hv],by rw[hv];rfl⟩),by have:=hH a b;rw[List.map_map]at this;rw[List.map_map];exact this,by simpa using h2,fun j y l hy hl=>by
      rw[Gl]at hy;cases hy':ys[j]? with
      |none=>rw[hy']at hy;cases hy
      |some y0=>
       rw[hy']at hy;cases hy;have:=(h3 j y0 l hy' hl).held (pre:=[a,b,Fe (q::ll)++List.replicate cc [vi 0]]);rw[Un]at this;exact this⟩
   have hsh:=(hR [] []).shapes;generalize hr2:Hn 3 r=r2 at *;rcases hsh.2 with⟨c1,c2,rfl⟩|⟨c1,rfl⟩ <;>
   ·refine Bi 100 rfl ?_;exact Bc func122 (h:=rfl) ⟨_,rfl,_,(hR _ _).given⟩
  ·exact fun r hr=>by obtain⟨z,_,rfl⟩:=zzq66.1 hr;rfl
  ·exact fun r hr x hx=>by obtain⟨z,_,rfl⟩:=zzq66.1 hr;simp at hx;subst hx;rfl
  ·simp[Fe]
  ·rw[hv]at hvl hcv;omega
theorem Aj1(k a b:Int)(h0:11≤k)(h1:k≤16):Pure X 125 [vi k,vi a,vi b] (vb (Oz k a b)):=by
 have:k=11∨k=12∨k=13∨k=14∨k=15∨k=16:=by omega
 rcases this with rfl|rfl|rfl|rfl|rfl|rfl <;>
 ·refine Pure.run func125 ?_
  repeat' (first|refine A0 ?_|refine Ag ?_)
  exact As func125 rfl
theorem Ee{F:C5}{S:St}{t ty b:Nat}{y:Ty}{cs:List AV}{x:AV}(hl:lk F t=some (.ptr b 0 0))(hy:X.ty ty=some y)(hb:S.boxes[b]?=some [cs])(hx:(Nl y.size cs fun c'=>Wb (Gg y.k) c')=some x):Mf X F S [.cell t ty]=some [x]:=by
 have:Ti S y.size (Gg y.k) (.ptr b 0 0)=some x:=by
  simp only[Ti,H8,hb,List.getElem?_cons_zero,Ow];exact hx
 simp only[Mf,hl,Q0,hy,this]
abbrev zCf:List AV:=[vi 0,.sl [] .tight,.sl [] .tight,vi 0,vi 0,vi 0,vi 0,vi 0]
theorem Au5{α:Type}(B:List α)(x y z:α):(B++[x]++[y]).set B.length z=B++[z]++[y]:=by rw[Fp,Iw _ _ (Bo _),Ik];simp
theorem A4p{α:Type}(B:List α)(x y z:α):(B++[x]++[y]).set (B.length+1) z=B++[x]++[z]:=by rw[Iw _ _ (by simp)];simp
theorem O6{S:St}{V C:AV}{ids:List Nat}{c:Cf}(h:CfB SlB S.boxes (.agg (Ef c V C)) ids c)(t e a:Int):Runs X 124 [.agg (Ef c V C),vi t,vi e,vi a] S (fun r S'=>r=.agg (Ef { c with trap:=t,edge:=e,acc:=a } V C)∧S'.toks=S.toks∧∃m,S'.boxes=S.boxes++m):=by
 have hc:=Fc h;have hc2:cellsOf (.agg (Ef { c with trap:=t,edge:=e,acc:=a } V C))=some (Ef { c with trap:=t,edge:=e,acc:=a } V C):=by
  rcases h.shapes with⟨⟨v1,v2,rfl⟩|⟨v1,rfl⟩,⟨c1,c2,rfl⟩|⟨c1,rfl⟩⟩<;>rfl
 refine Runs.run func124 ?_;refine Tr (b:=S.boxes.length) (cs:=Ef c V C) rfl rfl ?_ (hc:=hc);refine Lq (b:=S.boxes.length+1) (by simp) rfl ?_;obtain⟨T,hT⟩:∃T:St,T=⟨S.boxes++[[Ef c V C]]++[[zCf]],S.toks⟩:=⟨_,rfl⟩
 refine Be T ?_ hT.symm;have z1:T.boxes[S.boxes.length]?=some [Ef c V C]:=by rw[hT];simp
 have l1:S.boxes.length+1<T.boxes.length:=by rw[hT];simp
 have z2:T.boxes[S.boxes.length+1]?=some [zCf]:=by rw[hT];simp
 refine Cc z1 rfl ?_;refine Cc (b:=S.boxes.length) (Eh (by omega)) rfl ?_;refine Cc (b:=S.boxes.length) (Eh (by simp;omega)) rfl ?_;refine Aw (b:=S.boxes.length) (Eh (by simp;omega)) ?_;refine Cc (b:=S.boxes.length+1) (cs:=zCf) (xs:=Ef { c with trap:=t,edge:=e,acc:=a } V C) (cs':=Ef { c with trap:=t,edge:=e,acc:=a } V C) (by rw[Fq (by omega),Fq (by omega),Fq (by omega)];exact z2) rfl ?_ (hc:=hc2);refine Bc func124 (h:=Ee rfl rfl (Eh (by simp;omega)) rfl) ⟨_,rfl,rfl,by rw[hT],?_⟩;rw[hT];refine⟨[[Ef { c with trap:=t,edge:=e,acc:=a } V C],[Ef { c with trap:=t,edge:=e,acc:=a } V C]],?_⟩;rw[Au5,Au5,Au5,A4p,Fp];rfl
structure SpS (n:Nd)(S:St)(bc le:Nat)(V C:AV)(ids:List Nat)(c:Cf)(e:Eg):Prop where
 z0:S.boxes[0]?=some [Kp n]
 z2:S.boxes[2]?=some [zCf]
 c:CfS S bc V C ids c
 e:S.boxes[le]?=some [H5 e]
 ge:3≤bc∧3≤le∧le≠bc∧∀i,i∈ids→3≤i∧i≠le
section
variable {n:Nd}{S:St}{bc le:Nat}{V C:AV}{ids:List Nat}{c:Cf}{e:Eg}
theorem SpS.chg{S':St}{c':Cf}(h:SpS n S bc le V C ids c e)(hc:CfS S' bc V C ids c')(hch:Chg (bc::ids) S.boxes S'.boxes):SpS n S' bc le V C ids c' e:=by
 have hg:=h.ge;have key:∀i,i<3∨i=le→i∉bc::ids:=fun i hi hm=>by
  rcases zzq13.1 hm with rfl|hm
  ·omega
  ·have:=hg.2.2.2 i hm;omega
 exact⟨(hch.2 0 (Aa h.z0) (key 0 (by omega))).trans h.z0,(hch.2 2 (Aa h.z2) (key 2 (by omega))).trans h.z2,hc,(hch.2 le (Aa h.e) (key le (.inr rfl))).trans h.e,hg⟩
theorem SpS.more{S':St}{m:List (List (List AV))}(h:SpS n S bc le V C ids c e)(hb:S'.boxes=S.boxes++m):SpS n S' bc le V C ids c e:=by
 have gx:∀{i:Nat} {y:List (List AV)},S.boxes[i]?=some y→S'.boxes[i]?=some y:=fun{i y} h=>by rw[hb,Cs (Aa h)];exact h
 exact⟨gx h.z0,gx h.z2,h.c.more hb,gx h.e,h.ge⟩
end
theorem Tb{d:Nat}(r:VR):Sh d (vR3 r) (vR3 r):=by
 have h:=(ShL.cons (.val _) (.cons (.val _) (.cons (.val _) .nil)):ShL d [vi r.1,vi r.2.1,vi r.2.2] [vi r.1,vi r.2.1,vi r.2.2]).get;exact .tup _ _ h.1 h.2
theorem Awr(r:List (Bool×Int))(x d:Int):(Nw r x d).2.1=0∨(Nw r x d).2.1=1∨(Nw r x d).2.1=2:=by
 unfold Nw;split
 ·split<;>simp
 ·simp
theorem Ast(x d:Int):(Ns x d).2.1=0∨(Ns x d).2.1=3:=by
 unfold Ns;split<;>simp
theorem Xs(n:Nd)(c:Cf){e:Nd}(h:FE e):∀d,0≤(C9 n c e d).2.1∧(C9 n c e d).2.1≤3:=by
 induction h with
 |num m h0 h1=>intro d;rw[Y7];simp[Ad6,Tp]
 |var s h=>intro d;rw[Y7];simp[Ad6,Tp]
 |len s h=>intro d;rw[Y7];simp[Ad6,Tp]
 |cell s a h ha ih=>
  intro d;have:=ih d;rcases hv:C9 n c a d with⟨v,t,d1⟩
  rw[hv]at this;rw[Agh hv];split
  ·have h3:Tp n c 3 s 0 ([v],0,d1)=Nw (Xn n c s) v d1:=by simp[Tp]
   rw[h3];have:=Awr (Xn n c s) v d1;omega
  ·exact this
 |neg a ha ih=>
  intro d;have:=ih d;rcases hv:C9 n c a d with⟨v,t,d1⟩
  rw[hv]at this;rw[Agh hv];split
  ·have h3:Tp n c 5 [] 0 ([v],0,d1)=Ns (IntKind.i64.wrap (-v)) d1:=by simp[Tp]
   rw[h3];have:=Ast (IntKind.i64.wrap (-v)) d1;omega
  ·exact this
 |two k a b hk' ha hb iha ihb=>
  intro d;have h1:=iha d;rcases hv:C9 n c a d with⟨v,t,d1⟩
  rw[hv]at h1;have h2:=ihb d1;rcases hv2:C9 n c b d1 with⟨v2,t2,d2⟩
  rw[hv2]at h2;rw[Avp hv hv2];split
  ·split
   ·have h3:∃x,Tp n c k [] 0 ([v,v2],0,d2)=Ns x d2:=⟨_,by simp[Tp];rfl⟩
    obtain⟨x,h3⟩:=h3;rw[h3];have:=Ast x d2;omega
   ·exact h2
  ·exact h1
def H6(i:Nat)(t1 t2:Int)(q:DR):Cf:=if q.2.1=0 then{ q.1 with pt:=if q.2.2.2=true then t1 else t2 }else{ q.1 with trap:=q.2.1,edge:=(i:Int),acc:=if q.2.1=4∨q.2.1=5 then 0 else q.2.2.1 }
section
variable {n:Nd}{S:St}{bc le:Nat}{V C:AV}{ids:List Nat}{c:Cf}
abbrev SpA(n:Nd)(S:St)(bc le:Nat)(inp:List Int)(at_:Nat)(M:Cf):Prop:=
 AK X ⟨76,f76,0,0⟩ (Lm false 9 f76) [(2,.sl (Fe inp) .no),(3,.ptr 0 0 0),(6,.ptr 2 0 0),(7,.ptr bc 0 0),(8,vi at_),(9,.ptr le 0 0)] S (fun e S'=>e=.ret (cf M)∧S'=⟨[],[]⟩)
theorem Au3{inp:List Int}{i:Nat}{f t k t2:Int}{y:Bool}{x:Nd}(hk':k=6∨k=7)(hA:SpS n S bc le V C ids c ⟨f,t,k,y,x⟩)(hok:CfOk c):SpA n S bc le inp i (H6 i t t2 (c,0,0,true)):=by
 have e1:H6 i t t2 (c,0,0,true)={ c with pt:=t }:=by simp[H6]
 rw[e1];have hc2:=hA.c.upd (c':={ c with pt:=t }) rfl rfl;have hB:=hA.chg hc2 ((Cw S.boxes bc _).more fun i hi=>by simp at hi;simp[hi]);have hOK:CfOk { c with pt:=t }:=⟨hok.vars,hok.cells,hok.rows⟩
 rcases hk' with rfl|rfl <;>
 ·refine D5 ?_;refine Cb 60 rfl ?_;refine Aw hA.e ?_
  iterate 5 refine Cq ?_
  refine Aw hA.e ?_;refine Cc hA.c.box rfl ?_;refine Aw hB.c.box ?_;refine Cc (xs:=Ef ({ c with pt:=t }) V C) (cs':=Ef ({ c with pt:=t }) V C) hB.z2 rfl ?_ (hc:=Fc hB.c.cf);refine E8 (B:=⟨76,_,0,0⟩) func76 (h:=Ee rfl rfl (Eh (Aa hB.z2)) rfl) 0 (Bo _) ?_ (fun rows hr=>by simp at hr) ⟨rfl,rfl⟩;exact(hB.c.cf.chg (Cw _ 2 _) fun i hi hi2=>by simp at hi2;have:=hB.ge.2.2.2 i hi;omega).fz hOK
theorem A4o(hk:VOk n c){inp:List Int}{i:Nat}{f t t2:Int}{y:Bool}{s:List UInt8}{a:Nd}(hA:SpS n S bc le V C ids c ⟨f,t,1,y,.mk 21 s 0 [a]⟩)(hs:E6 0 (Ax n 31) s≥0)(ha:FE a)(ka:Ff (Ax n 31) (Ax n 32) a=true) :
 SpA n S bc le inp i (H6 i t t2 (Rz n inp c 1 y (.mk 21 s 0 [a]))):=by
 have hok:=hk.ok;obtain⟨iv,v0,h1,h2,_⟩:=hk.var hs;have kl:=hk.kl;have hd1:=G9 n 31;have hq:=Us (Ax n 31) s (by omega);rw[h1]at hq;have hiv:=Aa h2;have hpv:=Sq n c hk ha ka 0;have okP:Ok 0 0 (.agg (Kp n)):=(inferInstance:OK 0 0 (.agg (Kp n))).ok;have hvt:=Xs n c ha 0;have e0:Rz n inp c 1 y (.mk 21 s 0 [a])=if (C9 n c a 0).2.1=0 then(Wk n c s (C9 n c a 0).1,0,(C9 n c a 0).2.2,true)else(c,(C9 n c a 0).2.1,(C9 n c a 0).2.2,true):=rfl;rw[e0];rcases hv:C9 n c a 0 with⟨v,tt,d1⟩
 rw[hv]at hpv hvt;simp only at hvt⊢;refine D5 ?_;refine Cb 60 rfl ?_;refine Aw hA.e ?_;refine Do ?_;refine De 0 (by kernel_rfl) ?_;refine A2 (Aq hA.z0) ?_
 iterate 2 refine Av ?_
 refine A2 (Aq hA.e) ?_;refine Eo (fun S'=>Cu rfl rfl rfl rfl rfl rfl rfl rfl rfl (by decide) (Am (l:=[a]) (i:=0) rfl)) ?_;refine Av ?_;refine A2 (Aq hA.c.box) ?_
 iterate 0 refine Av ?_
 refine A2 (Rr hpv (.cons (.same _ okP) (.cons (.same _ (inferInstance:OK 0 0 (nd a)).ok) (.cons (hA.c.cf.fz hok) (.cons (.same _ (.val _)) .nil)))) (Tb _)) ?_
 iterate 7 refine Av ?_
 refine Gt ?_;refine F7 (fun g=>?_) (fun g=>?_)
 ·have gt:¬tt=0:=by simpa using(show (tt != 0)=true from g)
  have e1:H6 i t t2 (if tt=0 then(Wk n c s v,0,d1,true)else(c,tt,d1,true))={ c with trap:=tt,edge:=(i:Int),acc:=d1 }:=by
   rw[if_neg gt];unfold H6;rw[if_neg gt,if_neg (by simp only;omega)]
  rw[e1];refine Aw hA.c.box ?_;refine G3 (O6 hA.c.cf (tt) i (d1)) ?_;intro r W hP _ _;obtain⟨rfl,htW,mW,hmW⟩:=hP;have hW:=hA.more hmW;have hc2:cellsOf (.agg (Ef { c with trap:=tt,edge:=(i:Int),acc:=d1 } V C))=some (Ef { c with trap:=tt,edge:=(i:Int),acc:=d1 } V C):=by
   rcases hA.c.cf.shapes with⟨⟨v1,v2,rfl⟩|⟨v1,rfl⟩,⟨c1,c2,rfl⟩|⟨c1,rfl⟩⟩<;>rfl
  refine Cb 60 rfl ?_;refine Cc (xs:=Ef { c with trap:=tt,edge:=(i:Int),acc:=d1 } V C) (cs':=Ef { c with trap:=tt,edge:=(i:Int),acc:=d1 } V C) hW.z2 rfl ?_ (hc:=hc2);refine E8 (B:=⟨76,_,0,0⟩) func76 (h:=Ee rfl rfl (Eh (Aa hW.z2)) rfl) 0 (Bo _) ?_ (fun rows hr=>by simp at hr) ⟨rfl,rfl⟩;have hcf:=hW.c.cf.chg (Cw W.boxes 2 [Ef { c with trap:=tt,edge:=(i:Int),acc:=d1 } V C]) fun i hi hi2=>by simp at hi2;have:=hW.ge.2.2.2 i hi;omega
  obtain⟨V',C',ys,q1,q2,q3,q4,q5,q6,q7⟩:=hcf.ex;simp only[AV.agg.injEq,List.cons.injEq,and_true,true_and]at q1;obtain⟨rfl,rfl⟩:=q1;have hfz:=CfB.fz (S:=⟨W.boxes.set 2 [Ef { c with trap:=tt,edge:=(i:Int),acc:=d1 } V C],W.toks⟩) (ids:=ids) (c:={ c with trap:=tt,edge:=(i:Int),acc:=d1 }) ⟨V,C,ys,rfl,q2,q3,q4,q5,q6,q7⟩ ⟨hok.vars,hok.cells,hok.rows⟩;exact hfz
 ·have gt:tt=0:=by simpa using(show (tt != 0)=false from g)
  have e1:H6 i t t2 (if tt=0 then(Wk n c s v,0,d1,true)else(c,tt,d1,true))={ c with vars:=c.vars.set iv v,pt:=t }:=by
   rw[if_pos gt];unfold H6 Wk;rw[h1];rfl
  rw[e1];obtain⟨bv,ex,hV,hb,hrow⟩:=hA.c.vars h2;obtain⟨hwr,hch⟩:=hA.c.wrV v hiv hV hb;have hA1:=hA.chg hwr (hch.more fun i hi=>by simp[hi]);subst hV;refine De 1024 (by kernel_rfl) ?_;refine Av ?_;refine A2 (Aq hA.c.box) ?_;refine Av ?_;refine A2 (Aq hA.z0) ?_
  iterate 2 refine Av ?_
  refine A2 (Aq hA.e) ?_;refine Js hq ?_;refine Av ?_;refine A2 (Gd (hj:=by simpa[Fw]using hiv) (hb:=hb) (hr:=hrow) (hl:=rfl)) ?_;refine Ch (J1 hb hrow rfl) ?_;refine Gt ?_;refine Aw hA1.e ?_;refine Cc hA1.c.box rfl ?_;have hc2:=hA1.c.upd (c':={ c with vars:=c.vars.set iv v,pt:=t }) rfl rfl;have hB:=hA1.chg hc2 ((Cw _ bc _).more fun i hi=>by simp at hi;simp[hi]);have hOK:CfOk { c with vars:=c.vars.set iv v,pt:=t }:=⟨by simpa using hok.vars,hok.cells,hok.rows⟩
  refine Aw hB.c.box ?_;refine Cc (xs:=Ef { c with vars:=c.vars.set iv v,pt:=t } (.bsl bv c.vars.length) C) (cs':=Ef { c with vars:=c.vars.set iv v,pt:=t } (.bsl bv c.vars.length) C) hB.z2 rfl ?_ (hc:=Fc hB.c.cf);refine E8 (B:=⟨76,_,0,0⟩) func76 (h:=Ee rfl rfl (Eh (Aa hB.z2)) rfl) 0 (Bo _) ?_ (fun rows hr=>by simp at hr) ⟨rfl,rfl⟩;exact(hB.c.cf.chg (Cw _ 2 _) fun i hi hi2=>by simp at hi2;have:=hB.ge.2.2.2 i hi;omega).fz hOK
theorem A4n(hk:VOk n c){inp:List Int}{i:Nat}{f t t2:Int}{y:Bool}{s:List UInt8}{a b:Nd}(hA:SpS n S bc le V C ids c ⟨f,t,2,y,.mk 22 s 0 [a,b]⟩)(hs:E6 0 (Ax n 32) s≥0)(ha:FE a)(ka:Ff (Ax n 31) (Ax n 32) a=true)(hb':FE b)(kb:Ff (Ax n 31) (Ax n 32) b=true) :
 SpA n S bc le inp i (H6 i t t2 (Rz n inp c 2 y (.mk 22 s 0 [a,b]))):=by
 have hok:=hk.ok;obtain⟨iv,r,h1,h2,h3,h4⟩:=hk.row hs;have kl:=hk.kl;have hd1:=G9 n 32;have hq:=Us (Ax n 32) s (by omega);rw[h1]at hq;have hiv:=Aa h2;have hpv:=Sq n c hk ha ka 0;have hpw:=Sq n c hk hb' kb (C9 n c a 0).2.2;have okP:Ok 0 0 (.agg (Kp n)):=(inferInstance:OK 0 0 (.agg (Kp n))).ok;have hvt:=Xs n c ha 0;have hvw:=Xs n c hb' (C9 n c a 0).2.2;have e0:Rz n inp c 2 y (.mk 22 s 0 [a,b])=Nx n c [a,b] fun i v d=>if Bl i 0 (((Xn n c s).length:Int)-1)=true then(Aij n c s i v,0,d,true)else(c,1,d,true):=rfl;rw[e0];unfold Nx;simp only;rw[h3];rcases hv:C9 n c a 0 with⟨v,tt,d1⟩
 rw[hv]at hpv hvt hpw hvw;simp only at hvt hpw hvw⊢;rcases hv2:C9 n c b d1 with⟨v2,tt2,d2⟩
 rw[hv2]at hpw hvw;simp only at hvw⊢;refine D5 ?_;refine Cb 60 rfl ?_;refine Aw hA.e ?_;refine Cq ?_;refine Do ?_;refine De 0 (by kernel_rfl) ?_;refine A2 (Aq hA.z0) ?_
 iterate 2 refine Av ?_
 refine A2 (Aq hA.e) ?_;refine Eo (fun S'=>Cu rfl rfl rfl rfl rfl rfl rfl rfl rfl (by decide) (Am (l:=[a,b]) (i:=0) rfl)) ?_;refine Av ?_;refine A2 (Aq hA.c.box) ?_
 iterate 0 refine Av ?_
 refine A2 (Rr hpv (.cons (.same _ okP) (.cons (.same _ (inferInstance:OK 0 0 (nd a)).ok) (.cons (hA.c.cf.fz hok) (.cons (.same _ (.val _)) .nil)))) (Tb _)) ?_
 iterate 7 refine Av ?_
 refine Gt ?_;refine F7 (fun g=>?_) (fun g=>?_)
 ·have gt:¬tt=0:=by simpa using(show (tt != 0)=true from g)
  rw[if_neg gt];have e1:H6 i t t2 (c,tt,d1,true)={ c with trap:=tt,edge:=(i:Int),acc:=d1 }:=by unfold H6;rw[if_neg gt,if_neg (by simp only;omega)]
  rw[e1];refine Aw hA.c.box ?_;refine G3 (O6 hA.c.cf (tt) i (d1)) ?_;intro r W hP _ _;obtain⟨rfl,htW,mW,hmW⟩:=hP;have hW:=hA.more hmW;have hc2:cellsOf (.agg (Ef { c with trap:=tt,edge:=(i:Int),acc:=d1 } V C))=some (Ef { c with trap:=tt,edge:=(i:Int),acc:=d1 } V C):=by
   rcases hA.c.cf.shapes with⟨⟨v1,v2,rfl⟩|⟨v1,rfl⟩,⟨c1,c2,rfl⟩|⟨c1,rfl⟩⟩<;>rfl
  refine Cb 60 rfl ?_;refine Cc (xs:=Ef { c with trap:=tt,edge:=(i:Int),acc:=d1 } V C) (cs':=Ef { c with trap:=tt,edge:=(i:Int),acc:=d1 } V C) hW.z2 rfl ?_ (hc:=hc2);refine E8 (B:=⟨76,_,0,0⟩) func76 (h:=Ee rfl rfl (Eh (Aa hW.z2)) rfl) 0 (Bo _) ?_ (fun rows hr=>by simp at hr) ⟨rfl,rfl⟩;have hcf:=hW.c.cf.chg (Cw W.boxes 2 [Ef { c with trap:=tt,edge:=(i:Int),acc:=d1 } V C]) fun i hi hi2=>by simp at hi2;have:=hW.ge.2.2.2 i hi;omega
  obtain⟨V',C',ys,q1,q2,q3,q4,q5,q6,q7⟩:=hcf.ex;simp only[AV.agg.injEq,List.cons.injEq,and_true,true_and]at q1;obtain⟨rfl,rfl⟩:=q1;have hfz:=CfB.fz (S:=⟨W.boxes.set 2 [Ef { c with trap:=tt,edge:=(i:Int),acc:=d1 } V C],W.toks⟩) (ids:=ids) (c:={ c with trap:=tt,edge:=(i:Int),acc:=d1 }) ⟨V,C,ys,rfl,q2,q3,q4,q5,q6,q7⟩ ⟨hok.vars,hok.cells,hok.rows⟩;exact hfz
 have gt:tt=0:=by simpa using(show (tt != 0)=false from g)
 rw[if_pos gt];refine De 0 (by kernel_rfl) ?_;refine A2 (Aq hA.z0) ?_
 iterate 2 refine Av ?_
 refine A2 (Aq hA.e) ?_;refine Eo (fun S'=>Cu rfl rfl rfl rfl rfl rfl rfl rfl rfl (by decide) (Am (l:=[a,b]) (i:=1) rfl)) ?_;refine Av ?_;refine A2 (Aq hA.c.box) ?_
 iterate 1 refine Av ?_
 refine A2 (Rr hpw (.cons (.same _ okP) (.cons (.same _ (inferInstance:OK 0 0 (nd b)).ok) (.cons (hA.c.cf.fz hok) (.cons (.same _ (.val _)) .nil)))) (Tb _)) ?_
 iterate 7 refine Av ?_
 refine Gt ?_;refine F7 (fun g2=>?_) (fun g2=>?_)
 ·have gt2:¬tt2=0:=by simpa using(show (tt2 != 0)=true from g2)
  rw[if_neg gt2];have e1:H6 i t t2 (c,tt2,d2,true)={ c with trap:=tt2,edge:=(i:Int),acc:=d2 }:=by unfold H6;rw[if_neg gt2,if_neg (by simp only;omega)]
  rw[e1];refine Aw hA.c.box ?_;refine G3 (O6 hA.c.cf (tt2) i (d2)) ?_;intro r W hP _ _;obtain⟨rfl,htW,mW,hmW⟩:=hP;have hW:=hA.more hmW;have hc2:cellsOf (.agg (Ef { c with trap:=tt2,edge:=(i:Int),acc:=d2 } V C))=some (Ef { c with trap:=tt2,edge:=(i:Int),acc:=d2 } V C):=by
   rcases hA.c.cf.shapes with⟨⟨v1,v2,rfl⟩|⟨v1,rfl⟩,⟨c1,c2,rfl⟩|⟨c1,rfl⟩⟩<;>rfl
  refine Cb 60 rfl ?_;refine Cc (xs:=Ef { c with trap:=tt2,edge:=(i:Int),acc:=d2 } V C) (cs':=Ef { c with trap:=tt2,edge:=(i:Int),acc:=d2 } V C) hW.z2 rfl ?_ (hc:=hc2);refine E8 (B:=⟨76,_,0,0⟩) func76 (h:=Ee rfl rfl (Eh (Aa hW.z2)) rfl) 0 (Bo _) ?_ (fun rows hr=>by simp at hr) ⟨rfl,rfl⟩;have hcf:=hW.c.cf.chg (Cw W.boxes 2 [Ef { c with trap:=tt2,edge:=(i:Int),acc:=d2 } V C]) fun i hi hi2=>by simp at hi2;have:=hW.ge.2.2.2 i hi;omega
  obtain⟨V',C',ys,q1,q2,q3,q4,q5,q6,q7⟩:=hcf.ex;simp only[AV.agg.injEq,List.cons.injEq,and_true,true_and]at q1;obtain⟨rfl,rfl⟩:=q1;have hfz:=CfB.fz (S:=⟨W.boxes.set 2 [Ef { c with trap:=tt2,edge:=(i:Int),acc:=d2 } V C],W.toks⟩) (ids:=ids) (c:={ c with trap:=tt2,edge:=(i:Int),acc:=d2 }) ⟨V,C,ys,rfl,q2,q3,q4,q5,q6,q7⟩ ⟨hok.vars,hok.cells,hok.rows⟩;exact hfz
 have gt2:tt2=0:=by simpa using(show (tt2 != 0)=false from g2)
 rw[if_pos gt2];have e1:H6 i t t2 (c,1,d2,true)={ c with trap:=1,edge:=(i:Int),acc:=d2 }:=by unfold H6;rw[if_neg (by simp),if_neg (by simp)]
 obtain⟨bb,ys,ex,yy,hC,hyl,hb,hyy,hrow,hsl⟩:=hA.c.row h2;have hw1:IntKind.i64.wrap ((r.length:Int)-1)=(r.length:Int)-1:=Ac (by omega) (by omega);subst hC;rcases hsl with⟨b2,ex2,rfl,hb2⟩|⟨hemp,sp,rfl⟩
 ·rw[G5]at hyy hrow;refine Aw hA.z0 ?_;refine Aw hA.e ?_;refine Im hq ?_;refine Aw hA.c.box ?_;refine Jr iv hiv hb hrow rfl ?_;refine Hc hb hrow ?_;refine Im (H4 v 0 (IntKind.i64.wrap ((r.length:Int)-1))) ?_;rw[hw1];refine F7 (fun g3=>?_) (fun g3=>?_)
  ·have g3':Bl v 0 ((r.length:Int)-1)=false:=by simpa using g3
   rw[g3',if_neg (by decide),e1];generalize hCC:AV.bsl bb c.cells.length=C at *;refine Aw hA.c.box ?_;refine G3 (O6 hA.c.cf (1) i (d2)) ?_;intro r W hP _ _;obtain⟨rfl,htW,mW,hmW⟩:=hP;have hW:=hA.more hmW;have hc2:cellsOf (.agg (Ef { c with trap:=1,edge:=(i:Int),acc:=d2 } V C))=some (Ef { c with trap:=1,edge:=(i:Int),acc:=d2 } V C):=by
    rcases hA.c.cf.shapes with⟨⟨v1,v2,rfl⟩|⟨v1,rfl⟩,⟨c1,c2,rfl⟩|⟨c1,rfl⟩⟩<;>rfl
   refine Cb 60 rfl ?_;refine Cc (xs:=Ef { c with trap:=1,edge:=(i:Int),acc:=d2 } V C) (cs':=Ef { c with trap:=1,edge:=(i:Int),acc:=d2 } V C) hW.z2 rfl ?_ (hc:=hc2);refine E8 (B:=⟨76,_,0,0⟩) func76 (h:=Ee rfl rfl (Eh (Aa hW.z2)) rfl) 0 (Bo _) ?_ (fun rows hr=>by simp at hr) ⟨rfl,rfl⟩;have hcf:=hW.c.cf.chg (Cw W.boxes 2 [Ef { c with trap:=1,edge:=(i:Int),acc:=d2 } V C]) fun i hi hi2=>by simp at hi2;have:=hW.ge.2.2.2 i hi;omega
   obtain⟨V',C',ys,q1,q2,q3,q4,q5,q6,q7⟩:=hcf.ex;simp only[AV.agg.injEq,List.cons.injEq,and_true,true_and]at q1;obtain⟨rfl,rfl⟩:=q1;have hfz:=CfB.fz (S:=⟨W.boxes.set 2 [Ef { c with trap:=1,edge:=(i:Int),acc:=d2 } V C],W.toks⟩) (ids:=ids) (c:={ c with trap:=1,edge:=(i:Int),acc:=d2 }) ⟨V,C,ys,rfl,q2,q3,q4,q5,q6,q7⟩ ⟨hok.vars,hok.cells,hok.rows⟩;exact hfz
  ·have g3':Bl v 0 ((r.length:Int)-1)=true:=by simpa using g3
   rw[g3',if_pos rfl];have hb1:=Cn.1 g3';obtain⟨jj,rfl⟩:∃jj:Nat,v=jj:=⟨v.toNat,by omega⟩
   have hjl:jj<r.length:=by omega
   obtain⟨z,hz⟩:=Ab r hjl;have hrow2:(I9 r++ex2)[jj]?=some (Nv z):=by rw[Cs (by rw[G5];exact hjl)];exact Ev (f:=Nv) hz
   obtain⟨_,hwr,hch⟩:=hA.c.wrC v2 h2 hjl rfl hyl hb hyy hb2;have hA1:=hA.chg hwr (hch.more fun i hi=>by simp[hi]);have e2:H6 i t t2 (Aij n c s (jj:Int) v2,0,d2,true)={ c with cells:=c.cells.set iv (r.set jj (true,v2)),pt:=t }:=by
    unfold H6 Aij;rw[h1,h3];rfl
   rw[e2];refine Aw hA.c.box ?_;refine Jr iv hiv hb hrow rfl ?_;refine Hc hb hrow ?_;refine Jr jj hjl hb2 hrow2 rfl ?_;refine Mn hb2 hrow2 rfl ?_;refine Aw hA1.e ?_;refine Cc hA1.c.box rfl ?_;have hc2:=hA1.c.upd (c':={ c with cells:=c.cells.set iv (r.set jj (true,v2)),pt:=t }) rfl rfl;have hB:=hA1.chg hc2 ((Cw _ bc _).more fun i hi=>by simp at hi;simp[hi]);have hOK:CfOk { c with cells:=c.cells.set iv (r.set jj (true,v2)),pt:=t }:=⟨hok.vars,by simpa using hok.cells,fun x hx=>by
    rcases Wt hx with hx|rfl
    ·exact hok.rows x hx
    ·rw[Agm];omega⟩
   refine Aw hB.c.box ?_;refine Cc (xs:=Ef ({ c with cells:=c.cells.set iv (r.set jj (true,v2)),pt:=t }) (V) (.bsl bb c.cells.length)) (cs':=Ef ({ c with cells:=c.cells.set iv (r.set jj (true,v2)),pt:=t }) (V) (.bsl bb c.cells.length)) hB.z2 rfl ?_ (hc:=Fc hB.c.cf);refine E8 (B:=⟨76,_,0,0⟩) func76 (h:=Ee rfl rfl (Eh (Aa hB.z2)) rfl) 0 (Bo _) ?_ (fun rows hr=>by simp at hr) ⟨rfl,rfl⟩;exact(hB.c.cf.chg (Cw _ 2 _) fun i hi hi2=>by simp at hi2;have:=hB.ge.2.2.2 i hi;omega).fz hOK
 ·have h0:r=[]:=by cases r with|nil=>rfl|cons a l=>simp[I9]at hemp
  subst h0;refine Aw hA.z0 ?_;refine Aw hA.e ?_;refine Im hq ?_;refine Aw hA.c.box ?_;refine Jr iv hiv hb hrow rfl ?_;refine Hc hb hrow ?_;refine Im (H4 v 0 (IntKind.i64.wrap (((([]:List (Bool×Int)).length:Nat):Int)-1))) ?_;rw[hw1];refine F7 (fun g3=>?_) (fun g3=>?_)
  ·have g3':Bl v 0 (((([]:List (Bool×Int)).length:Nat):Int)-1)=false:=by simpa using g3
   rw[g3',if_neg (by decide),e1];generalize hCC:AV.bsl bb c.cells.length=C at *;refine Aw hA.c.box ?_;refine G3 (O6 hA.c.cf (1) i (d2)) ?_;intro r W hP _ _;obtain⟨rfl,htW,mW,hmW⟩:=hP;have hW:=hA.more hmW;have hc2:cellsOf (.agg (Ef { c with trap:=1,edge:=(i:Int),acc:=d2 } V C))=some (Ef { c with trap:=1,edge:=(i:Int),acc:=d2 } V C):=by
    rcases hA.c.cf.shapes with⟨⟨v1,v2,rfl⟩|⟨v1,rfl⟩,⟨c1,c2,rfl⟩|⟨c1,rfl⟩⟩<;>rfl
   refine Cb 60 rfl ?_;refine Cc (xs:=Ef { c with trap:=1,edge:=(i:Int),acc:=d2 } V C) (cs':=Ef { c with trap:=1,edge:=(i:Int),acc:=d2 } V C) hW.z2 rfl ?_ (hc:=hc2);refine E8 (B:=⟨76,_,0,0⟩) func76 (h:=Ee rfl rfl (Eh (Aa hW.z2)) rfl) 0 (Bo _) ?_ (fun rows hr=>by simp at hr) ⟨rfl,rfl⟩;have hcf:=hW.c.cf.chg (Cw W.boxes 2 [Ef { c with trap:=1,edge:=(i:Int),acc:=d2 } V C]) fun i hi hi2=>by simp at hi2;have:=hW.ge.2.2.2 i hi;omega
   obtain⟨V',C',ys,q1,q2,q3,q4,q5,q6,q7⟩:=hcf.ex;simp only[AV.agg.injEq,List.cons.injEq,and_true,true_and]at q1;obtain⟨rfl,rfl⟩:=q1;have hfz:=CfB.fz (S:=⟨W.boxes.set 2 [Ef { c with trap:=1,edge:=(i:Int),acc:=d2 } V C],W.toks⟩) (ids:=ids) (c:={ c with trap:=1,edge:=(i:Int),acc:=d2 }) ⟨V,C,ys,rfl,q2,q3,q4,q5,q6,q7⟩ ⟨hok.vars,hok.cells,hok.rows⟩;exact hfz
  ·have g3':Bl v 0 (((([]:List (Bool×Int)).length:Nat):Int)-1)=true:=by simpa using g3
   have:=Cn.1 g3';simp only[Wx]at this;omega
theorem A2p(hk:VOk n c){inp:List Int}(hu:0≤c.used∧c.used≤100){i:Nat}{f t t2:Int}{y:Bool}{s:List UInt8}(hA:SpS n S bc le V C ids c ⟨f,t,3,y,.mk 23 s 0 []⟩)(hs:E6 0 (Ax n 31) s≥0):SpA n S bc le inp i (H6 i t t2 (Rz n inp c 3 y (.mk 23 s 0 []))):=by
 have hok:=hk.ok;obtain⟨iv,v0,h1,h2,_⟩:=hk.var hs;have kl:=hk.kl;have hd1:=G9 n 31;have hq:=Us (Ax n 31) s (by omega);rw[h1]at hq;have hiv:=Aa h2;have hil:=D9 inp;have e0:Rz n inp c 3 y (.mk 23 s 0 [])=if (inp.length:Int)≤c.used then(c,5,0,true)else({ Wk n c s (inp.getD c.used.toNat 0)with used:=c.used+1 },0,0,true):=rfl;rw[e0];refine D5 ?_;refine Cb 60 rfl ?_;refine Aw hA.e ?_
 iterate 2 refine Cq ?_
 refine Do ?_;refine Aw hA.c.box ?_;refine F7 (fun g=>?_) (fun g=>?_)
 ·have g':(inp.length:Int)≤c.used:=by have:=A5 g;rw[hil]at this;exact this
  rw[if_pos g'];have e1:H6 i t t2 (c,5,0,true)={ c with trap:=5,edge:=(i:Int),acc:=0 }:=by unfold H6;rw[if_neg (by simp),if_pos (by simp)]
  rw[e1];refine Aw hA.c.box ?_;refine G3 (O6 hA.c.cf (5) i (0)) ?_;intro r W hP _ _;obtain⟨rfl,htW,mW,hmW⟩:=hP;have hW:=hA.more hmW;have hc2:cellsOf (.agg (Ef { c with trap:=5,edge:=(i:Int),acc:=0 } V C))=some (Ef { c with trap:=5,edge:=(i:Int),acc:=0 } V C):=by
   rcases hA.c.cf.shapes with⟨⟨v1,v2,rfl⟩|⟨v1,rfl⟩,⟨c1,c2,rfl⟩|⟨c1,rfl⟩⟩<;>rfl
  refine Cb 60 rfl ?_;refine Cc (xs:=Ef { c with trap:=5,edge:=(i:Int),acc:=0 } V C) (cs':=Ef { c with trap:=5,edge:=(i:Int),acc:=0 } V C) hW.z2 rfl ?_ (hc:=hc2);refine E8 (B:=⟨76,_,0,0⟩) func76 (h:=Ee rfl rfl (Eh (Aa hW.z2)) rfl) 0 (Bo _) ?_ (fun rows hr=>by simp at hr) ⟨rfl,rfl⟩;have hcf:=hW.c.cf.chg (Cw W.boxes 2 [Ef { c with trap:=5,edge:=(i:Int),acc:=0 } V C]) fun i hi hi2=>by simp at hi2;have:=hW.ge.2.2.2 i hi;omega
  obtain⟨V',C',ys,q1,q2,q3,q4,q5,q6,q7⟩:=hcf.ex;simp only[AV.agg.injEq,List.cons.injEq,and_true,true_and]at q1;obtain⟨rfl,rfl⟩:=q1;have hfz:=CfB.fz (S:=⟨W.boxes.set 2 [Ef { c with trap:=5,edge:=(i:Int),acc:=0 } V C],W.toks⟩) (ids:=ids) (c:={ c with trap:=5,edge:=(i:Int),acc:=0 }) ⟨V,C,ys,rfl,q2,q3,q4,q5,q6,q7⟩ ⟨hok.vars,hok.cells,hok.rows⟩;exact hfz
 ·have g':¬(inp.length:Int)≤c.used:=by have:=Ba g;rw[hil]at this;exact this
  rw[if_neg g'];obtain⟨un,hun⟩:∃un:Nat,c.used=un:=⟨c.used.toNat,by omega⟩
  obtain⟨w,hw⟩:=Ab inp (i:=un) (by omega);have hw1:IntKind.i64.wrap (c.used+1)=c.used+1:=Ac (by omega) (by omega);have e1:H6 i t t2 ({ Wk n c s (inp.getD c.used.toNat 0)with used:=c.used+1 },0,0,true)={ c with vars:=c.vars.set iv w,used:=IntKind.i64.wrap (c.used+1),pt:=t }:=by
   unfold H6 Wk;rw[h1,Hl,hun,Hl,Air,hw,←hun,hw1];rfl
  rw[e1];obtain⟨bv,ex,hV,hb,hrow⟩:=hA.c.vars h2;obtain⟨hwr,hch⟩:=hA.c.wrV w hiv hV hb;have hA1:=hA.chg hwr (hch.more fun i hi=>by simp[hi]);subst hV;refine De 16384 (by kernel_rfl) ?_;refine Av ?_;refine A2 (Aq hA.c.box) ?_;refine Av ?_;refine A2 (Aq hA.z0) ?_
  iterate 2 refine Av ?_
  refine A2 (Aq hA.e) ?_;refine Js hq ?_
  iterate 2 refine Av ?_
  refine A2 (Aq hA.c.box) ?_;refine Eo (fun S'=>Cu rfl rfl rfl rfl rfl rfl rfl rfl rfl hu.1 (by rw[hun,Hl];exact Y8 hw)) ?_;refine Av ?_;refine A2 (Gd (hj:=by simpa[Fw]using hiv) (hb:=hb) (hr:=hrow) (hl:=rfl)) ?_;refine Ch (J1 hb hrow rfl) ?_;refine Gt ?_;refine Aw hA1.c.box ?_;refine Cc hA1.c.box rfl ?_;have hc2:=hA1.c.upd (c':={ c with vars:=c.vars.set iv w,used:=IntKind.i64.wrap (c.used+1) }) rfl rfl;have hA2:=hA1.chg hc2 ((Cw _ bc _).more fun i hi=>by simp at hi;simp[hi]);refine Aw hA2.e ?_;refine Cc hA2.c.box rfl ?_;have hc3:=hA2.c.upd (c':={ c with vars:=c.vars.set iv w,used:=IntKind.i64.wrap (c.used+1),pt:=t }) rfl rfl;have hB:=hA2.chg hc3 ((Cw _ bc _).more fun i hi=>by simp at hi;simp[hi]);have hOK:CfOk { c with vars:=c.vars.set iv w,used:=IntKind.i64.wrap (c.used+1),pt:=t }:=⟨by simpa using hok.vars,hok.cells,hok.rows⟩
  refine Aw hB.c.box ?_;refine Cc (xs:=Ef ({ c with vars:=c.vars.set iv w,used:=IntKind.i64.wrap (c.used+1),pt:=t }) (.bsl bv c.vars.length) (C)) (cs':=Ef ({ c with vars:=c.vars.set iv w,used:=IntKind.i64.wrap (c.used+1),pt:=t }) (.bsl bv c.vars.length) (C)) hB.z2 rfl ?_ (hc:=Fc hB.c.cf);refine E8 (B:=⟨76,_,0,0⟩) func76 (h:=Ee rfl rfl (Eh (Aa hB.z2)) rfl) 0 (Bo _) ?_ (fun rows hr=>by simp at hr) ⟨rfl,rfl⟩;exact(hB.c.cf.chg (Cw _ 2 _) fun i hi hi2=>by simp at hi2;have:=hB.ge.2.2.2 i hi;omega).fz hOK
theorem SpS.setE{e:Eg}(h:SpS n S bc le V C ids c e)(e':Eg):SpS n ⟨S.boxes.set le [H5 e'],S.toks⟩ bc le V C ids c e':=by
 have hg:=h.ge;exact⟨by rw[Fq (by omega)];exact h.z0,by rw[Fq (by omega)];exact h.z2,h.c.chg (Cw S.boxes le _) (by simp;omega) fun i hi hi2=>by simp at hi2;have:=hg.2.2.2 i hi;omega,Eh (Aa h.e),hg⟩
theorem Ay8(hk:VOk n c){inp:List Int}{i:Nat}{f t t2:Int}{y:Bool}{x:Nd}(hA:SpS n S bc le V C ids c ⟨f,t,5,y,x⟩)(hx:FC x)(kx:Ff (Ax n 31) (Ax n 32) x=true):SpA n S bc le inp i (H6 i t t2 (Rz n inp c 5 y x)):=by
 have hok:=hk.ok;cases hx with
 |mk k a b h0 h1 ha hb=>
 obtain⟨n1,n2⟩:=Z7 kx;have hpv:=Sq n c hk ha n1 0;have hpw:=Sq n c hk hb n2 (C9 n c a 0).2.2;have okP:Ok 0 0 (.agg (Kp n)):=(inferInstance:OK 0 0 (.agg (Kp n))).ok;have hvt:=Xs n c ha 0;have hvw:=Xs n c hb (C9 n c a 0).2.2;have e0:Rz n inp c 5 y (.mk k [] 0 [a,b])=Nx n c [a,b] fun a b d=>if Oz k a b=true then(c,0,d,true)else(c,4,0,true):=rfl;rw[e0];unfold Nx;simp only;rcases hv:C9 n c a 0 with⟨v,tt,d1⟩
 rw[hv]at hpv hvt hpw hvw;simp only at hvt hpw hvw⊢;rcases hv2:C9 n c b d1 with⟨v2,tt2,d2⟩
 rw[hv2]at hpw hvw;simp only at hvw⊢;refine D5 ?_;refine Cb 60 rfl ?_;refine Aw hA.e ?_
 iterate 3 refine Cq ?_
 refine Cq ?_;refine Do ?_;refine De 0 (by kernel_rfl) ?_;refine A2 (Aq hA.z0) ?_
 iterate 2 refine Av ?_
 refine A2 (Aq hA.e) ?_;refine Eo (fun S'=>Cu rfl rfl rfl rfl rfl rfl rfl rfl rfl (by decide) (Am (l:=[a,b]) (i:=0) rfl)) ?_;refine Av ?_;refine A2 (Aq hA.c.box) ?_
 iterate 0 refine Av ?_
 refine A2 (Rr hpv (.cons (.same _ okP) (.cons (.same _ (inferInstance:OK 0 0 (nd a)).ok) (.cons (hA.c.cf.fz hok) (.cons (.same _ (.val _)) .nil)))) (Tb _)) ?_
 iterate 7 refine Av ?_
 refine Gt ?_;refine F7 (fun g=>?_) (fun g=>?_)
 ·have gt:¬tt=0:=by simpa using(show (tt != 0)=true from g)
  rw[if_neg gt];have e1:H6 i t t2 (c,tt,d1,true)={ c with trap:=tt,edge:=(i:Int),acc:=d1 }:=by unfold H6;rw[if_neg gt,if_neg (by simp only;omega)]
  rw[e1];refine Aw hA.c.box ?_;refine G3 (O6 hA.c.cf (tt) i (d1)) ?_;intro r W hP _ _;obtain⟨rfl,htW,mW,hmW⟩:=hP;have hW:=hA.more hmW;have hc2:cellsOf (.agg (Ef { c with trap:=tt,edge:=(i:Int),acc:=d1 } V C))=some (Ef { c with trap:=tt,edge:=(i:Int),acc:=d1 } V C):=by
   rcases hA.c.cf.shapes with⟨⟨v1,v2,rfl⟩|⟨v1,rfl⟩,⟨c1,c2,rfl⟩|⟨c1,rfl⟩⟩<;>rfl
  refine Cb 60 rfl ?_;refine Cc (xs:=Ef { c with trap:=tt,edge:=(i:Int),acc:=d1 } V C) (cs':=Ef { c with trap:=tt,edge:=(i:Int),acc:=d1 } V C) hW.z2 rfl ?_ (hc:=hc2);refine E8 (B:=⟨76,_,0,0⟩) func76 (h:=Ee rfl rfl (Eh (Aa hW.z2)) rfl) 0 (Bo _) ?_ (fun rows hr=>by simp at hr) ⟨rfl,rfl⟩;have hcf:=hW.c.cf.chg (Cw W.boxes 2 [Ef { c with trap:=tt,edge:=(i:Int),acc:=d1 } V C]) fun i hi hi2=>by simp at hi2;have:=hW.ge.2.2.2 i hi;omega
  obtain⟨V',C',ys,q1,q2,q3,q4,q5,q6,q7⟩:=hcf.ex;simp only[AV.agg.injEq,List.cons.injEq,and_true,true_and]at q1;obtain⟨rfl,rfl⟩:=q1;have hfz:=CfB.fz (S:=⟨W.boxes.set 2 [Ef { c with trap:=tt,edge:=(i:Int),acc:=d1 } V C],W.toks⟩) (ids:=ids) (c:={ c with trap:=tt,edge:=(i:Int),acc:=d1 }) ⟨V,C,ys,rfl,q2,q3,q4,q5,q6,q7⟩ ⟨hok.vars,hok.cells,hok.rows⟩;exact hfz
 have gt:tt=0:=by simpa using(show (tt != 0)=false from g)
 rw[if_pos gt];refine De 0 (by kernel_rfl) ?_;refine A2 (Aq hA.z0) ?_
 iterate 2 refine Av ?_
 refine A2 (Aq hA.e) ?_;refine Eo (fun S'=>Cu rfl rfl rfl rfl rfl rfl rfl rfl rfl (by decide) (Am (l:=[a,b]) (i:=1) rfl)) ?_;refine Av ?_;refine A2 (Aq hA.c.box) ?_
 iterate 1 refine Av ?_
 refine A2 (Rr hpw (.cons (.same _ okP) (.cons (.same _ (inferInstance:OK 0 0 (nd b)).ok) (.cons (hA.c.cf.fz hok) (.cons (.same _ (.val _)) .nil)))) (Tb _)) ?_
 iterate 7 refine Av ?_
 refine Gt ?_;refine F7 (fun g2=>?_) (fun g2=>?_)
 ·have gt2:¬tt2=0:=by simpa using(show (tt2 != 0)=true from g2)
  rw[if_neg gt2];have e1:H6 i t t2 (c,tt2,d2,true)={ c with trap:=tt2,edge:=(i:Int),acc:=d2 }:=by unfold H6;rw[if_neg gt2,if_neg (by simp only;omega)]
  rw[e1];refine Aw hA.c.box ?_;refine G3 (O6 hA.c.cf (tt2) i (d2)) ?_;intro r W hP _ _;obtain⟨rfl,htW,mW,hmW⟩:=hP;have hW:=hA.more hmW;have hc2:cellsOf (.agg (Ef { c with trap:=tt2,edge:=(i:Int),acc:=d2 } V C))=some (Ef { c with trap:=tt2,edge:=(i:Int),acc:=d2 } V C):=by
   rcases hA.c.cf.shapes with⟨⟨v1,v2,rfl⟩|⟨v1,rfl⟩,⟨c1,c2,rfl⟩|⟨c1,rfl⟩⟩<;>rfl
  refine Cb 60 rfl ?_;refine Cc (xs:=Ef { c with trap:=tt2,edge:=(i:Int),acc:=d2 } V C) (cs':=Ef { c with trap:=tt2,edge:=(i:Int),acc:=d2 } V C) hW.z2 rfl ?_ (hc:=hc2);refine E8 (B:=⟨76,_,0,0⟩) func76 (h:=Ee rfl rfl (Eh (Aa hW.z2)) rfl) 0 (Bo _) ?_ (fun rows hr=>by simp at hr) ⟨rfl,rfl⟩;have hcf:=hW.c.cf.chg (Cw W.boxes 2 [Ef { c with trap:=tt2,edge:=(i:Int),acc:=d2 } V C]) fun i hi hi2=>by simp at hi2;have:=hW.ge.2.2.2 i hi;omega
  obtain⟨V',C',ys,q1,q2,q3,q4,q5,q6,q7⟩:=hcf.ex;simp only[AV.agg.injEq,List.cons.injEq,and_true,true_and]at q1;obtain⟨rfl,rfl⟩:=q1;have hfz:=CfB.fz (S:=⟨W.boxes.set 2 [Ef { c with trap:=tt2,edge:=(i:Int),acc:=d2 } V C],W.toks⟩) (ids:=ids) (c:={ c with trap:=tt2,edge:=(i:Int),acc:=d2 }) ⟨V,C,ys,rfl,q2,q3,q4,q5,q6,q7⟩ ⟨hok.vars,hok.cells,hok.rows⟩;exact hfz
 have gt2:tt2=0:=by simpa using(show (tt2 != 0)=false from g2)
 rw[if_pos gt2];refine Aw hA.e ?_;refine Im (Aj1 k v v2 h0 h1) ?_;refine Aw hA.e ?_;refine Om ?_;cases hh:Oz k v v2 with
 |false=>
  refine Do ?_ (ht:=by simp[hh]);rw[if_neg (by decide)];have e1:H6 i t t2 (c,4,0,true)={ c with trap:=4,edge:=(i:Int),acc:=0 }:=by unfold H6;rw[if_neg (by simp),if_pos (by simp)]
  rw[e1];refine Aw hA.c.box ?_;refine G3 (O6 hA.c.cf (4) i (0)) ?_;intro r W hP _ _;obtain⟨rfl,htW,mW,hmW⟩:=hP;have hW:=hA.more hmW;have hc2:cellsOf (.agg (Ef { c with trap:=4,edge:=(i:Int),acc:=0 } V C))=some (Ef { c with trap:=4,edge:=(i:Int),acc:=0 } V C):=by
   rcases hA.c.cf.shapes with⟨⟨v1,v2,rfl⟩|⟨v1,rfl⟩,⟨c1,c2,rfl⟩|⟨c1,rfl⟩⟩<;>rfl
  refine Cb 60 rfl ?_;refine Cc (xs:=Ef { c with trap:=4,edge:=(i:Int),acc:=0 } V C) (cs':=Ef { c with trap:=4,edge:=(i:Int),acc:=0 } V C) hW.z2 rfl ?_ (hc:=hc2);refine E8 (B:=⟨76,_,0,0⟩) func76 (h:=Ee rfl rfl (Eh (Aa hW.z2)) rfl) 0 (Bo _) ?_ (fun rows hr=>by simp at hr) ⟨rfl,rfl⟩;have hcf:=hW.c.cf.chg (Cw W.boxes 2 [Ef { c with trap:=4,edge:=(i:Int),acc:=0 } V C]) fun i hi hi2=>by simp at hi2;have:=hW.ge.2.2.2 i hi;omega
  obtain⟨V',C',ys,q1,q2,q3,q4,q5,q6,q7⟩:=hcf.ex;simp only[AV.agg.injEq,List.cons.injEq,and_true,true_and]at q1;obtain⟨rfl,rfl⟩:=q1;have hfz:=CfB.fz (S:=⟨W.boxes.set 2 [Ef { c with trap:=4,edge:=(i:Int),acc:=0 } V C],W.toks⟩) (ids:=ids) (c:={ c with trap:=4,edge:=(i:Int),acc:=0 }) ⟨V,C,ys,rfl,q2,q3,q4,q5,q6,q7⟩ ⟨hok.vars,hok.cells,hok.rows⟩;exact hfz
 |true=>
  refine Cq ?_ (ht:=by simp[hh]);rw[if_pos rfl];have e1:H6 i t t2 (c,0,d2,true)={ c with pt:=t }:=by simp[H6]
  rw[e1];refine Aw hA.e ?_;refine Cq ?_;refine Aw hA.e ?_;refine Cc hA.c.box rfl ?_;have hc2:=hA.c.upd (c':={ c with pt:=t }) rfl rfl;have hB:=hA.chg hc2 ((Cw S.boxes bc _).more fun i hi=>by simp at hi;simp[hi]);have hOK:CfOk { c with pt:=t }:=⟨hok.vars,hok.cells,hok.rows⟩
  refine Aw hB.c.box ?_;refine Cc (xs:=Ef ({ c with pt:=t }) (V) (C)) (cs':=Ef ({ c with pt:=t }) (V) (C)) hB.z2 rfl ?_ (hc:=Fc hB.c.cf);refine E8 (B:=⟨76,_,0,0⟩) func76 (h:=Ee rfl rfl (Eh (Aa hB.z2)) rfl) 0 (Bo _) ?_ (fun rows hr=>by simp at hr) ⟨rfl,rfl⟩;exact(hB.c.cf.chg (Cw _ 2 _) fun i hi hi2=>by simp at hi2;have:=hB.ge.2.2.2 i hi;omega).fz hOK
theorem Awp{y h:Bool}(g:(y != h)=false):h=y:=by cases y<;>cases h<;>simp at g⊢
theorem A0w{y h:Bool}(g:¬h=y):((!y) != h)=false:=by cases y<;>cases h<;>simp at g⊢
theorem Ay9(hk:VOk n c){inp:List Int}{i j p:Nat}{t t2:Int}{y:Bool}{x:Nd}(hA:SpS n S bc le V C ids c ⟨(p:Int),t,4,y,x⟩)(hx:FC x)(kx:Ff (Ax n 31) (Ax n 32) x=true)(hp:c.pt=(p:Int))(hes:(Lx (A9 n)).length≤2000000)
 (hi:(Lx (A9 n))[i]?=some ⟨(p:Int),t,4,y,x⟩)(hij:i<j)(hj:(Lx (A9 n))[j]?=some ⟨(p:Int),t2,4,!y,x⟩)(hm:∀m,i<m→m<j→∀z,(Lx (A9 n))[m]?=some z→¬z.f=(p:Int)) :
 SpA n S bc le inp i (H6 i t t2 (Rz n inp c 4 y x)):=by
 have hok:=hk.ok;cases hx with
 |mk k a b h0 h1 ha hb=>
 obtain⟨n1,n2⟩:=Z7 kx;have hpv:=Sq n c hk ha n1 0;have hpw:=Sq n c hk hb n2 (C9 n c a 0).2.2;have okP:Ok 0 0 (.agg (Kp n)):=(inferInstance:OK 0 0 (.agg (Kp n))).ok;have hvt:=Xs n c ha 0;have hvw:=Xs n c hb (C9 n c a 0).2.2;have e0:Rz n inp c 4 y (.mk k [] 0 [a,b])=Nx n c [a,b] fun a b d=>(c,0,d,Oz k a b==y):=rfl;rw[e0];unfold Nx;simp only;rcases hv:C9 n c a 0 with⟨v,tt,d1⟩
 rw[hv]at hpv hvt hpw hvw;simp only at hvt hpw hvw⊢;rcases hv2:C9 n c b d1 with⟨v2,tt2,d2⟩
 rw[hv2]at hpw hvw;simp only at hvw⊢;refine D5 ?_;refine Cb 60 rfl ?_;refine Aw hA.e ?_
 iterate 3 refine Cq ?_
 refine Do ?_;refine De 0 (by kernel_rfl) ?_;refine A2 (Aq hA.z0) ?_
 iterate 2 refine Av ?_
 refine A2 (Aq hA.e) ?_;refine Eo (fun S'=>Cu rfl rfl rfl rfl rfl rfl rfl rfl rfl (by decide) (Am (l:=[a,b]) (i:=0) rfl)) ?_;refine Av ?_;refine A2 (Aq hA.c.box) ?_
 iterate 0 refine Av ?_
 refine A2 (Rr hpv (.cons (.same _ okP) (.cons (.same _ (inferInstance:OK 0 0 (nd a)).ok) (.cons (hA.c.cf.fz hok) (.cons (.same _ (.val _)) .nil)))) (Tb _)) ?_
 iterate 7 refine Av ?_
 refine Gt ?_;refine F7 (fun g=>?_) (fun g=>?_)
 ·have gt:¬tt=0:=by simpa using(show (tt != 0)=true from g)
  rw[if_neg gt];have e1:H6 i t t2 (c,tt,d1,true)={ c with trap:=tt,edge:=(i:Int),acc:=d1 }:=by unfold H6;rw[if_neg gt,if_neg (by simp only;omega)]
  rw[e1];refine Aw hA.c.box ?_;refine G3 (O6 hA.c.cf (tt) i (d1)) ?_;intro r W hP _ _;obtain⟨rfl,htW,mW,hmW⟩:=hP;have hW:=hA.more hmW;have hc2:cellsOf (.agg (Ef { c with trap:=tt,edge:=(i:Int),acc:=d1 } V C))=some (Ef { c with trap:=tt,edge:=(i:Int),acc:=d1 } V C):=by
   rcases hA.c.cf.shapes with⟨⟨v1,v2,rfl⟩|⟨v1,rfl⟩,⟨c1,c2,rfl⟩|⟨c1,rfl⟩⟩<;>rfl
  refine Cb 60 rfl ?_;refine Cc (xs:=Ef { c with trap:=tt,edge:=(i:Int),acc:=d1 } V C) (cs':=Ef { c with trap:=tt,edge:=(i:Int),acc:=d1 } V C) hW.z2 rfl ?_ (hc:=hc2);refine E8 (B:=⟨76,_,0,0⟩) func76 (h:=Ee rfl rfl (Eh (Aa hW.z2)) rfl) 0 (Bo _) ?_ (fun rows hr=>by simp at hr) ⟨rfl,rfl⟩;have hcf:=hW.c.cf.chg (Cw W.boxes 2 [Ef { c with trap:=tt,edge:=(i:Int),acc:=d1 } V C]) fun i hi hi2=>by simp at hi2;have:=hW.ge.2.2.2 i hi;omega
  obtain⟨V',C',ys,q1,q2,q3,q4,q5,q6,q7⟩:=hcf.ex;simp only[AV.agg.injEq,List.cons.injEq,and_true,true_and]at q1;obtain⟨rfl,rfl⟩:=q1;have hfz:=CfB.fz (S:=⟨W.boxes.set 2 [Ef { c with trap:=tt,edge:=(i:Int),acc:=d1 } V C],W.toks⟩) (ids:=ids) (c:={ c with trap:=tt,edge:=(i:Int),acc:=d1 }) ⟨V,C,ys,rfl,q2,q3,q4,q5,q6,q7⟩ ⟨hok.vars,hok.cells,hok.rows⟩;exact hfz
 have gt:tt=0:=by simpa using(show (tt != 0)=false from g)
 rw[if_pos gt];refine De 0 (by kernel_rfl) ?_;refine A2 (Aq hA.z0) ?_
 iterate 2 refine Av ?_
 refine A2 (Aq hA.e) ?_;refine Eo (fun S'=>Cu rfl rfl rfl rfl rfl rfl rfl rfl rfl (by decide) (Am (l:=[a,b]) (i:=1) rfl)) ?_;refine Av ?_;refine A2 (Aq hA.c.box) ?_
 iterate 1 refine Av ?_
 refine A2 (Rr hpw (.cons (.same _ okP) (.cons (.same _ (inferInstance:OK 0 0 (nd b)).ok) (.cons (hA.c.cf.fz hok) (.cons (.same _ (.val _)) .nil)))) (Tb _)) ?_
 iterate 7 refine Av ?_
 refine Gt ?_;refine F7 (fun g2=>?_) (fun g2=>?_)
 ·have gt2:¬tt2=0:=by simpa using(show (tt2 != 0)=true from g2)
  rw[if_neg gt2];have e1:H6 i t t2 (c,tt2,d2,true)={ c with trap:=tt2,edge:=(i:Int),acc:=d2 }:=by unfold H6;rw[if_neg gt2,if_neg (by simp only;omega)]
  rw[e1];refine Aw hA.c.box ?_;refine G3 (O6 hA.c.cf (tt2) i (d2)) ?_;intro r W hP _ _;obtain⟨rfl,htW,mW,hmW⟩:=hP;have hW:=hA.more hmW;have hc2:cellsOf (.agg (Ef { c with trap:=tt2,edge:=(i:Int),acc:=d2 } V C))=some (Ef { c with trap:=tt2,edge:=(i:Int),acc:=d2 } V C):=by
   rcases hA.c.cf.shapes with⟨⟨v1,v2,rfl⟩|⟨v1,rfl⟩,⟨c1,c2,rfl⟩|⟨c1,rfl⟩⟩<;>rfl
  refine Cb 60 rfl ?_;refine Cc (xs:=Ef { c with trap:=tt2,edge:=(i:Int),acc:=d2 } V C) (cs':=Ef { c with trap:=tt2,edge:=(i:Int),acc:=d2 } V C) hW.z2 rfl ?_ (hc:=hc2);refine E8 (B:=⟨76,_,0,0⟩) func76 (h:=Ee rfl rfl (Eh (Aa hW.z2)) rfl) 0 (Bo _) ?_ (fun rows hr=>by simp at hr) ⟨rfl,rfl⟩;have hcf:=hW.c.cf.chg (Cw W.boxes 2 [Ef { c with trap:=tt2,edge:=(i:Int),acc:=d2 } V C]) fun i hi hi2=>by simp at hi2;have:=hW.ge.2.2.2 i hi;omega
  obtain⟨V',C',ys,q1,q2,q3,q4,q5,q6,q7⟩:=hcf.ex;simp only[AV.agg.injEq,List.cons.injEq,and_true,true_and]at q1;obtain⟨rfl,rfl⟩:=q1;have hfz:=CfB.fz (S:=⟨W.boxes.set 2 [Ef { c with trap:=tt2,edge:=(i:Int),acc:=d2 } V C],W.toks⟩) (ids:=ids) (c:={ c with trap:=tt2,edge:=(i:Int),acc:=d2 }) ⟨V,C,ys,rfl,q2,q3,q4,q5,q6,q7⟩ ⟨hok.vars,hok.cells,hok.rows⟩;exact hfz
 have gt2:tt2=0:=by simpa using(show (tt2 != 0)=false from g2)
 rw[if_pos gt2];refine Aw hA.e ?_;refine Im (Aj1 k v v2 h0 h1) ?_;refine Aw hA.e ?_;refine Ol ?_;refine Cq ?_;refine Aw hA.e ?_;refine Do ?_;generalize Oz k v v2=hh;have hjl:=Aa hj;refine Io (ι:=Nat×Eg) (fun q=>i≤q.1∧q.1≤j∧(Lx (A9 n))[q.1]?=some q.2∧(hh=y→q.1=i)) (fun q=>[(22,vb hh),(3,.ptr 0 0 0),(6,.ptr 2 0 0),(7,.ptr bc 0 0),(8,vi q.1),(9,.ptr le 0 0)]) (fun q=>⟨S.boxes.set le [H5 q.2],S.toks⟩) (fun q=>j-q.1) ?_ (i,⟨(p:Int),t,4,y,.mk k [] 0 [a,b]⟩)
  ⟨Bo _,by omega,hi,fun _=>rfl⟩ ⟨rfl,rfl,rfl,rfl,rfl,rfl,trivial⟩ (by obtain⟨bx,tk⟩:=S;simp only[St.mk.injEq,and_true];obtain⟨_,e⟩:=zzq105.1 hA.e;rw[←e,List.set_getElem_self])
 intro q hq IH;obtain⟨m,em⟩:=q;obtain⟨q1,q2,q3,q4⟩:=hq;simp only at q1 q2 q3 q4;have hA1:=hA.setE em;refine Cb 60 rfl ?_;refine Aw hA1.e ?_;refine Aw hA1.c.box ?_;have hf0:∀e:Eg,e.f=(p:Int)→(e.f != c.pt)=false:=fun e he=>by rw[he,hp];simp
 rcases Nat.lt_trichotomy m i with h|h|h
 ·omega
 ·rw[h,hi]at q3;have hem:=Option.some.inj q3;refine Ol ?_ (ht:=hf0 em (by rw[←hem]));refine Aw hA1.e ?_;refine F7 (fun g3=>?_) (fun g3=>?_)
  ·have g3':¬hh=y:=fun h=>by rw[←hem]at g3;simp[h]at g3
   have hlt:m<j:=by omega
   obtain⟨em',hem'⟩:=Ab (Lx (A9 n)) (i:=m+1) (by omega);have hw1:IntKind.i64.wrap ((m:Int)+1)=((m+1:Nat):Int):=(Ac (by omega) (by omega)).trans (by omega);refine Aw hA1.z0 ?_;refine Mm (r:=H5 em') (IntKind.i64.wrap ((m:Int)+1)) (by rw[hw1];omega) (by rw[hw1,Hl];exact Gm hem') ?_;refine Cc hA1.e rfl ?_;refine IH (m+1,em') ⟨by simp only;omega,by simp only;omega,hem',fun h=>absurd h g3'⟩ (by simp only;omega) _ _ ⟨rfl,rfl,rfl,rfl,Ci hw1,rfl,trivial⟩ (by simp only[List.set_set];rfl)
  ·have g3':hh=y:=Awp (by rw[←hem]at g3;exact g3);have e1:H6 i t t2 (c,0,d2,hh==y)={ c with pt:=em.t }:=by rw[g3',←hem];simp[H6]
   rw[e1];refine Aw hA1.e ?_;refine Cc hA1.c.box rfl ?_;have hc2:=hA1.c.upd (c':={ c with pt:=em.t }) rfl rfl;have hB:=hA1.chg hc2 ((Cw _ bc _).more fun i hi=>by simp at hi;simp[hi]);have hOK:CfOk { c with pt:=em.t }:=⟨hok.vars,hok.cells,hok.rows⟩
   refine Aw hB.c.box ?_;refine Cc (xs:=Ef ({ c with pt:=em.t }) (V) (C)) (cs':=Ef ({ c with pt:=em.t }) (V) (C)) hB.z2 rfl ?_ (hc:=Fc hB.c.cf);refine E8 (B:=⟨76,_,0,0⟩) func76 (h:=Ee rfl rfl (Eh (Aa hB.z2)) rfl) 0 (Bo _) ?_ (fun rows hr=>by simp at hr) ⟨rfl,rfl⟩;exact(hB.c.cf.chg (Cw _ 2 _) fun i hi hi2=>by simp at hi2;have:=hB.ge.2.2.2 i hi;omega).fz hOK
 ·rcases Gs m j with hmj|hmj
  ·have hfm:=hm m h hmj em q3;refine Om ?_ (ht:=by rw[hp];simpa using hfm);refine Do ?_;have hlt:m<j:=hmj;obtain⟨em',hem'⟩:=Ab (Lx (A9 n)) (i:=m+1) (by omega);have hw1:IntKind.i64.wrap ((m:Int)+1)=((m+1:Nat):Int):=(Ac (by omega) (by omega)).trans (by omega);refine Aw hA1.z0 ?_;refine Mm (r:=H5 em') (IntKind.i64.wrap ((m:Int)+1)) (by rw[hw1];omega) (by rw[hw1,Hl];exact Gm hem') ?_;refine Cc hA1.e rfl ?_;refine IH (m+1,em') ⟨by simp only;omega,by simp only;omega,hem',fun h=>absurd h (by have:=q4 h;omega)⟩ (by simp only;omega) _ _ ⟨rfl,rfl,rfl,rfl,Ci hw1,rfl,trivial⟩ (by simp only[List.set_set];rfl)
  ·have hmj':m=j:=by omega
   subst hmj';rw[hj]at q3;have hem:=Option.some.inj q3;have hny:¬hh=y:=fun h2=>by have:=q4 h2;omega
   refine Ol ?_ (ht:=hf0 em (by rw[←hem]));refine Aw hA1.e ?_;refine Cq ?_ (ht:=by rw[←hem];exact A0w hny);have e1:H6 i t t2 (c,0,d2,hh==y)={ c with pt:=em.t }:=by rw[show (hh==y)=false by simpa using hny,←hem];simp[H6]
   rw[e1];refine Aw hA1.e ?_;refine Cc hA1.c.box rfl ?_;have hc2:=hA1.c.upd (c':={ c with pt:=em.t }) rfl rfl;have hB:=hA1.chg hc2 ((Cw _ bc _).more fun i hi=>by simp at hi;simp[hi]);have hOK:CfOk { c with pt:=em.t }:=⟨hok.vars,hok.cells,hok.rows⟩
   refine Aw hB.c.box ?_;refine Cc (xs:=Ef ({ c with pt:=em.t }) (V) (C)) (cs':=Ef ({ c with pt:=em.t }) (V) (C)) hB.z2 rfl ?_ (hc:=Fc hB.c.cf);refine E8 (B:=⟨76,_,0,0⟩) func76 (h:=Ee rfl rfl (Eh (Aa hB.z2)) rfl) 0 (Bo _) ?_ (fun rows hr=>by simp at hr) ⟨rfl,rfl⟩;exact(hB.c.cf.chg (Cw _ 2 _) fun i hi hi2=>by simp at hi2;have:=hB.ge.2.2.2 i hi;omega).fz hOK
end
theorem A4m{n:Nd}{S:St}{bc le:Nat}{V C:AV}{ids:List Nat}{c:Cf}(hr:Fy n=true)(hk:VOk n c)(hu:0≤c.used∧c.used≤100){inp:List Int}{p i:Nat}{e:Eg}{l:List Eg}(hp:c.pt=(p:Int))(hO:EdO (Lx (A9 n)) p i e l)(hA:SpS n S bc le V C ids c e) :
 SpA n S bc le inp i (H6 i e.t (l.headD e).t (Rz n inp c e.k e.y e.n)):=by
 have he:=hO.first.1;have hf:=hO.first.2.2.1;have hE:=(Ai7 hr).2 e (Bh he);have hel:=(Zu hr).2;cases hE with
 |set f t y s a h ha ka=>exact A4o hk hA h ha ka
 |put f t y s a b h ha ka hb kb=>exact A4n hk hA h ha ka hb kb
 |read f t y s h=>exact A2p hk hu hA h
 |guard f t y x hx kx=>cases hO with
  |one _ _ _ _ _ h4=>exact absurd rfl h4
  |two j e2 _ _ _ _ hl hij hj hm _ h2=>
   simp only at hf;subst hf;rw[h2]at hj;exact Ay9 hk hA hx kx hp hel he hij hj hm
 |check f t y x hx kx=>exact Ay8 hk hA hx kx
 |skip f t y x=>exact Au3 (.inl rfl) hA hk.ok
 |stop f t y x=>exact Au3 (.inr rfl) hA hk.ok
theorem Af8{n:Nd}{inp:List Int}{c c1:Cf}{p i:Nat}{e:Eg}{l:List Eg}(g:I7 n c=false)(hp:c.pt=(p:Int))(hF:Fr p (Lx (A9 n))=e::l)(hix:fIx (Lx (A9 n)) p=i)(hcc:({ c with steps:=c.steps+1 }:Cf)=c1):Is n inp c=H6 i e.t (l.headD e).t (Rz n inp c1 e.k e.y e.n):=by
 unfold Is H6;rw[if_neg (by simp[g]),show c.pt.toNat=p by rw[hp];rfl,hF,show fIx (Lx (A9 n)) c.pt=i by rw[hp];exact hix];simp only[hcc]
theorem A14{n:Nd}{c:Cf}{inp:List Int}(hr:Fy n=true)(hS:StK n c)(hin:inp.length≤100):Pure X 76 [.agg (Kp n),cf c,.sl (Fe inp) .no] (cf (Is n inp c)):=by
 have hok:=hS.vok.ok;have hpts:=(Zu hr).1;have hel:=(Zu hr).2;have hokM:=(U4 hr hS hin).vok.ok;refine Pure.run func76 ?_;refine Te (Ax1 c hok) (.cons (.same _ (inferInstance:OK 0 0 (cf c)).ok) .nil) ?_;intro r bx hP;obtain⟨ids0,hC⟩:=hP;obtain⟨V0,C0,rfl⟩:=hC.parts;have hlt0:=hC.ltG;have hH:=hC.held (pre:=[[Kp n],[G4 c],[zCf]]);simp only[Hn,Sy]at hH;refine⟨.agg (Ef c (Hn 3 V0) (Hn 3 C0)),Rh 3 bx,(by have:=U3 3 (.agg (Ef c V0 C0));simpa[Hn,Sy]using this),Nu _ _,?_⟩;obtain⟨ids,hids⟩:∃ids,ids=ids0.map (·+3):=⟨_,rfl⟩
 have hH2:CfB SlB ([Kp n]::[G4 c]::[zCf]::Rh 3 bx) (.agg (Ef c (Hn 3 V0) (Hn 3 C0))) ids c:=by rw[hids];exact hH
 clear hH;generalize Hn 3 V0=V at hH2⊢;generalize Hn 3 C0=C at hH2⊢;obtain⟨T,hT⟩:∃T:St,T=⟨[Kp n]::[G4 c]::[zCf]::Rh 3 bx,[]⟩:=⟨_,rfl⟩
 refine Be T ?_ hT.symm;have hTl:T.boxes.length=bx.length+3:=by rw[hT];simp[Pt]
 have hcT:CfB SlB T.boxes (.agg (Ef c V C)) ids c:=by rw[hT];exact hH2
 have hid:∀i,i∈ids→3≤i∧i<T.boxes.length:=fun i hi=>by
  rw[hids]at hi;obtain⟨k,hk,rfl⟩:=zzq66.1 hi;have:=hlt0 k hk;omega
 refine Lq (b:=T.boxes.length) rfl rfl ?_;refine Cc (b:=T.boxes.length) (cs:=zCf) (xs:=Ef c V C) (cs':=Ef c V C) (by simp) rfl ?_ (hc:=Fc hcT);obtain⟨S,hSt⟩:∃S:St,S=⟨T.boxes++[[Ef c V C]],T.toks⟩:=⟨_,rfl⟩
 refine Be S ?_ (by rw[hSt];exact congrArg (fun x=>St.mk x _) (by rw[Iw _ _ (Bo _),Ik];rfl));have hSl:S.boxes.length=T.boxes.length+1:=by rw[hSt];simp
 have gx:∀{i:Nat} {y:List (List AV)},T.boxes[i]?=some y→S.boxes[i]?=some y:=fun{i y} h=>by rw[hSt,Cs (Aa h)];exact h
 have z0:S.boxes[0]?=some [Kp n]:=gx (by rw[hT];rfl);have z2:S.boxes[2]?=some [zCf]:=gx (by rw[hT];rfl);have hc:CfS S T.boxes.length V C ids c:=⟨by rw[hSt];simp,by rw[hSt];exact hcT.more,fun h=>by have:=hid _ h;omega⟩
 have hw:IntKind.i64.wrap ((((D6 (A9 n)).pts:Nat):Int)-1)=(((D6 (A9 n)).pts:Nat):Int)-1:=Ac (by omega) (by omega);refine Aw hc.box ?_;by_cases q1:c.trap=0
 case neg=>
  refine Om ?_ (ht:=by simpa using q1);refine Om ?_;refine Do ?_;refine Aw hc.box ?_;refine Cc (xs:=Ef c V C) (cs':=Ef c V C) z2 rfl ?_ (hc:=Fc hc.cf);rw[show Is n inp c=c by unfold Is;rw[if_pos (by unfold I7;simp[q1])]];refine E8 (B:=⟨76,_,0,0⟩) func76 (h:=Ee rfl rfl (Eh (Aa z2)) rfl) 0 (Bo _) ?_ (fun rows hr=>by simp at hr) ⟨rfl,rfl⟩;exact(hc.cf.chg (Cw _ 2 _) fun i hi hi2=>by simp at hi2;have:=hid i hi;omega).fz hok
 refine Ol ?_ (ht:=by simpa using q1);refine Aw hc.box ?_;refine Aw z0 ?_;by_cases q2:c.pt=(((D6 (A9 n)).pts:Nat):Int)-1
 ·refine Om ?_ (ht:=by rw[hw];simpa using q2);refine Do ?_;refine Aw hc.box ?_;refine Cc (xs:=Ef c V C) (cs':=Ef c V C) z2 rfl ?_ (hc:=Fc hc.cf);rw[show Is n inp c=c by unfold Is;rw[if_pos (by unfold I7;simp[q2])]];refine E8 (B:=⟨76,_,0,0⟩) func76 (h:=Ee rfl rfl (Eh (Aa z2)) rfl) 0 (Bo _) ?_ (fun rows hr=>by simp at hr) ⟨rfl,rfl⟩;exact(hc.cf.chg (Cw _ 2 _) fun i hi hi2=>by simp at hi2;have:=hid i hi;omega).fz hok
 refine Ol ?_ (ht:=by rw[hw];simpa using q2);refine Aw hc.box ?_;by_cases q3:c.steps=5000
 ·refine Do ?_ (ht:=by simpa using q3);refine Aw hc.box ?_;refine Cc (xs:=Ef c V C) (cs':=Ef c V C) z2 rfl ?_ (hc:=Fc hc.cf);rw[show Is n inp c=c by unfold Is;rw[if_pos (by unfold I7;simp[q3])]];refine E8 (B:=⟨76,_,0,0⟩) func76 (h:=Ee rfl rfl (Eh (Aa z2)) rfl) 0 (Bo _) ?_ (fun rows hr=>by simp at hr) ⟨rfl,rfl⟩;exact(hc.cf.chg (Cw _ 2 _) fun i hi hi2=>by simp at hi2;have:=hid i hi;omega).fz hok
 refine Cq ?_ (ht:=by simpa using q3);have hg:I7 n c=false:=by unfold I7;simp[q1,q2,q3]
 have hpt:=hS.pt;have hsp:=hS.steps;obtain⟨p,hp⟩:∃p:Nat,c.pt=p:=⟨c.pt.toNat,by omega⟩
 obtain⟨i,e,l,hF,hO⟩:=Zt hr (p:=p) (by omega);obtain⟨he,hbe,hef,hix,_⟩:=hO.first;have hw1:IntKind.i64.wrap (c.steps+1)=c.steps+1:=Ac (by omega) (by omega);obtain⟨c1,hc1⟩:∃c1:Cf,c1={ c with steps:=IntKind.i64.wrap (c.steps+1) }:=⟨_,rfl⟩
 have hk1:VOk n c1:=by rw[hc1];exact⟨hS.vok.kl,hS.vok.vars,hS.vok.cells,hS.vok.rows⟩
 have hcc:({ c with steps:=c.steps+1 }:Cf)=c1:=by rw[hc1,hw1]
 have hM:=Af8 (inp:=inp) hg hp hF hix hcc;rw[hM];have hil:=Aa he;refine Io (ι:=Nat) (fun m=>m≤i) (fun m=>[(8,vi m),(2,.sl (Fe inp) .no),(3,.ptr 0 0 0),(6,.ptr 2 0 0),(7,.ptr T.boxes.length 0 0)]) (fun _=>S) (fun m=>i-m) ?_ 0 (B3 _) ⟨rfl,rfl,rfl,rfl,rfl,trivial⟩ rfl;intro m hm IH;obtain⟨em,hem⟩:=Ab (Lx (A9 n)) (i:=m) (by omega);refine Cb 60 rfl ?_;refine De 0 (by kernel_rfl) ?_
 iterate 2 refine Av ?_
 refine A2 (Aq z0) ?_;refine Av ?_;refine Eo (fun S'=>Cu rfl rfl rfl rfl rfl rfl rfl rfl rfl (by omega) (Gm hem)) ?_
 iterate 3 refine Av ?_
 refine A2 (Aq hc.box) ?_;refine Av ?_;refine Gt ?_;rcases Gs m i with hmi|hmi
 ·have:=hbe m hmi em hem;refine Do ?_ (ht:=by rw[hp];simpa using this);exact IH (m+1) (by omega) (by omega) _ _ ⟨vsx (by omega),rfl,rfl,rfl,rfl,trivial⟩ rfl
 ·have hmi':m=i:=by omega
  subst hmi';rw[he]at hem;cases hem;refine Cq ?_ (ht:=by rw[hp,hef];simp);refine Aw z0 ?_;refine Mm m (by omega) (by rw[Hl];exact Gm he) ?_;refine Lq (b:=S.boxes.length) rfl rfl ?_;refine Cc (b:=S.boxes.length) (cs:=zEg) (by simp) rfl ?_;obtain⟨U,hU⟩:∃U:St,U=⟨S.boxes++[[H5 e]],S.toks⟩:=⟨_,rfl⟩
  refine Be U ?_ (by rw[hU];exact congrArg (fun x=>St.mk x _) (by rw[Iw _ _ (Bo _),Ik];rfl));have hcU:CfS U T.boxes.length V C ids c:=hc.more (by rw[hU]);refine Aw hcU.box ?_;refine Hi (J1 (r:=0) hcU.box rfl rfl) rfl rfl ?_;refine Kv 9 100 rfl ?_;have hup:=hcU.upd (c':=c1) (by rw[hc1]) (by rw[hc1]);rw[hc1]at hup;have hA:SpS n ⟨U.boxes.set T.boxes.length [Ef { c with steps:=IntKind.i64.wrap (c.steps+1) } V C],U.toks⟩ T.boxes.length S.boxes.length V C ids c1 e:=by
   rw[hc1];have gU:∀{i:Nat} {y:List (List AV)},i≠T.boxes.length→S.boxes[i]?=some y→(U.boxes.set T.boxes.length [Ef { c with steps:=IntKind.i64.wrap (c.steps+1) } V C])[i]?=some y:=fun{i y} hi h=>by rw[Fq (Ne.symm hi),hU,Cs (Aa h)];exact h
   exact⟨gU (by omega) z0,gU (by omega) z2,hup,by rw[Fq (by omega),hU];simp,by omega,by omega,by omega,fun i hi=>by have:=hid i hi;omega⟩
  exact Ts (G:=[(2,.sl (Fe inp) .no),(3,.ptr 0 0 0),(6,.ptr 2 0 0),(7,.ptr T.boxes.length 0 0),(8,vi m),(9,.ptr S.boxes.length 0 0)]) ⟨rfl,rfl,rfl,rfl,rfl,rfl,trivial⟩ (A4m hr hk1 (by rw[hc1];exact hS.used) (by rw[hc1];exact hp) hO hA)
end Go.V
