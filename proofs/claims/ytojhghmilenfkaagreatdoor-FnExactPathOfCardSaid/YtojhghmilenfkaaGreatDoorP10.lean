/- A part of the proof of the claim that the last text states: no condition of its own. -/
import Derived.Test.YtojhghmilenfkaaGreatDoorP9
set_option linter.unusedVariables false
set_option linter.unusedSimpArgs false
namespace Go.V
open Go Go.Proofs Go.Proofs.Tryz
def yR(d:Nat):List Nat→List AV
 |[]=>[]
 |c::l=>.bsl d c::yR (d+1) l
def zcs(c:Nat):List (List AV):=List.replicate c [vb false,vi 0]
theorem L9:∀(l:List Nat)(d:Nat),(yR d l).length=l.length
 |[],d=>rfl
 |c::l,d=>by simp[yR,L9 l]
theorem Avd:∀(a b:List Nat)(d:Nat),yR d (a++b)=yR d a++yR (d+a.length) b
 |[],b,d=>by simp[yR]
 |c::a,b,d=>by simp only[Pu,yR,Avd a b,Nl];rw[show d+1+a.length=d+(a.length+1) by omega]
theorem Amu:∀{l:List Nat}{d j c:Nat},l[j]?=some c→(yR d l)[j]?=some (.bsl (d+j) c)
 |[],d,j,c,h=>by simp at h
 |c::l,d,0,c',h=>by simp at h;subst h;rfl
 |c::l,d,j+1,c',h=>by
  simp only[Aif]at h;simp only[yR,Aif];rw[Amu h];congr 2;omega
theorem Azy:∀(l:List Nat)(d:Nat),(yR d l).flatMap Jr=List.range' d l.length
 |[],d=>rfl
 |c::l,d=>by simp only[yR,List.flatMap_cons,Azy l,Nl,List.range'_succ,Jr,Akh]
abbrev cR(d:Nat)(l:List Nat):List (List AV):=(yR d l).map fun y=>[y]
theorem Aby(d:Nat)(l:List Nat)(c:Nat):cR d l++[[.bsl (d+l.length) c]]=cR d (l++[c]):=by simp[cR,Avd,yR]
theorem Ao5(n:Nat):Ei (List.replicate n 0)=List.replicate n [vi 0]:=by simp[Ei]
theorem Ani(n:Nat):Rh (List.replicate n (false,0))=zcs n:=by simp[Rh,zcs,Wi]
theorem Anc{nv d e:Nat}{cs:List Nat}{C:AV}{bx:List (List (List AV))}(hv:bx[e]?=some (List.replicate nv [vi 0]))(hed:e<d)(hc:∀(j:Nat) c,cs[j]?=some c→bx[d+j]?=some (zcs c))
 (hC:SlG bx C (cR d cs))(hn:∀b,b∈Jr C→d+cs.length≤b)(hnd:(Jr C).Nodup):∃ids,CfB SlG bx (.agg [vi 0,.bsl e nv,C,vi 0,vi 0,vi 0,vi 0,vi 0]) ids (Zj nv cs):=by
 refine⟨_,.bsl e nv,C,yR d cs,rfl,rfl,?_,.inl ⟨e,[],?_,?_⟩,hC,by rw[L9];simp[Zj],fun j y l hy hl=>?_⟩
 ·rw[Azy];refine zzq109.2 ⟨by simp[Jr],zzq109.2 ⟨hnd,List.nodup_range',fun a ha b hb=>?_⟩,fun a ha b hb=>?_⟩
  ·have:=hn a ha;have:=(List.mem_range'_1.1 hb)
   omega
  ·simp[Jr]at ha;subst ha;rcases zzq47.1 hb with h|h
   ·have:=hn b h;omega
   ·have:=(List.mem_range'_1.1 h);omega
 ·rw[C2];simp[Zj]
 ·rw[G4,hv];simp only[Zj];rw[Ao5]
 ·simp only[Zj,Gm]at hl;cases hcj:cs[j]? with
  |none=>rw[hcj]at hl;cases hl
  |some c=>
   rw[hcj]at hl;cases hl;rw[Amu hcj]at hy;cases hy;refine .inl ⟨d+j,[],by rw[Il];simp,?_⟩;rw[G4,hc j c hcj,Ani]
theorem V4(bx:List (List (List AV))):CfB SlG bx (.agg [vi 0,.sl [] .tight,.sl [] .tight,vi 0,vi 0,vi 0,vi 0,vi 0]) [] zC:=
 ⟨.sl [] .tight,.sl [] .tight,[],rfl,rfl,.nil,.inr ⟨rfl,rfl,rfl⟩,.inr ⟨rfl,rfl,rfl⟩,rfl,fun j y l h=>by simp at h⟩
def Av9(nv:Nat):Option (List Nat)→Cf
 |some cs=>Zj nv cs
 |none=>zC
def BgP(nv:Nat)(o:Option (List Nat))(r:AV)(bx:List (List (List AV))):Prop:=∃x ids,r=.tup [x,vb o.isSome]∧CfB SlG bx x ids (Av9 nv o)
structure BgI (ss ls:List Int)(i:List Nat×Nat):Prop where
 len:i.1.length≤ss.length
 u:i.2≤ls.length
 eq:Xy ss ls=(Xy (ss.drop i.1.length) (ls.drop i.2)).map (i.1++·)
 small:∀c,c∈i.1→c≤1000000
theorem R0{α:Type}{l:List α}{i:Nat}{x:α}(h:l[i]?=some x):l.drop i=x::l.drop (i+1):=by
 obtain⟨h1,h2⟩:=zzq107.1 h;rw[Aki h1,h2]
theorem BgI.given{ss ls:List Int}{cs:List Nat}{u:Nat}{s m:Int}(h:BgI ss ls (cs,u))(hs:ss[cs.length]?=some s)(h0:s<0)(hm:ls[u]?=some m)(hb:Bl m 0 60=true):BgI ss ls (cs++[m.toNat],u+1):=by
 refine⟨by have:=Aa hs;simp;omega,Aa hm,?_,fun c hc=>?_⟩
 ·rw[h.eq];simp only;rw[R0 hs,R0 hm,Xy,if_pos h0];simp only[hb,if_true,Es,Zb,Option.map_map];congr 1;funext l;simp
 ·rcases zzq47.1 hc with hc|hc
  ·exact h.small c hc
  ·simp at hc;subst hc;simp only[Bl,Da,J9]at hb;omega
theorem BgI.known{ss ls:List Int}{cs:List Nat}{u:Nat}{s:Int}(h:BgI ss ls (cs,u))(hs:ss[cs.length]?=some s)(h0:0≤s)(h1:s≤1000000):BgI ss ls (cs++[s.toNat],u):=by
 refine⟨by have:=Aa hs;simp;omega,h.u,?_,fun c hc=>?_⟩
 ·rw[h.eq];simp only;rw[R0 hs];cases hd:ls.drop u with
  |nil=>rw[Xy,if_neg (by omega)];simp only[Es,Zb,Option.map_map];congr 1;funext l;simp
  |cons a l=>rw[Xy,if_neg (by omega)];simp only[Es,Zb,Option.map_map];congr 1;funext l;simp
 ·rcases zzq47.1 hc with hc|hc
  ·exact h.small c hc
  ·simp at hc;subst hc;omega
theorem BgI.none1{ss ls:List Int}{cs:List Nat}{u:Nat}{s:Int}(h:BgI ss ls (cs,u))(hs:ss[cs.length]?=some s)(h0:s<0)(hu:u=ls.length):Xy ss ls=none:=by
 rw[h.eq];simp only;rw[R0 hs,hu,Hw,Xy,if_pos h0];rfl
theorem BgI.none2{ss ls:List Int}{cs:List Nat}{u:Nat}{s m:Int}(h:BgI ss ls (cs,u))(hs:ss[cs.length]?=some s)(h0:s<0)(hm:ls[u]?=some m)(hb:Bl m 0 60=false):Xy ss ls=none:=by
 rw[h.eq];simp only;rw[R0 hs,R0 hm,Xy,if_pos h0];simp[hb]
theorem BgI.none3{ss ls:List Int}{cs:List Nat}{u:Nat}(h:BgI ss ls (cs,u))(hc:cs.length=ss.length)(hu:u<ls.length):Xy ss ls=none:=by
 rw[h.eq];simp only;rw[hc,Hw,Aki hu,Xy];rfl
theorem BgI.all{ss ls:List Int}{cs:List Nat}{u:Nat}(h:BgI ss ls (cs,u))(hc:cs.length=ss.length)(hu:u=ls.length):Xy ss ls=some cs:=by
 rw[h.eq];simp only;rw[hc,Hw,hu,Hw,Xy];simp
theorem Axy(n:Nd)(hr:Fe n=true)(ls:List Int)(hls:ls.length≤1000000000):Gives X 63 [.cptr (Mf n),.sl (Ei ls) .no] (BgP (Ax n 31).length (Xy (D9 n) ls)):=by
 have hkl:=(Iv hr).2.2.2.2;have hvl:(Ax n 31).length≤4500:=Nt (H3 n 31) hkl;have hsl:(D9 n).length≤4500:=by rw[Xs];exact Nt (H3 n 32) hkl
 have hsz:=Aj6 hr;have hvr:(Dj (Ax n 31)).length=(Ax n 31).length:=Fy _;refine Gives.run func63 ?_;refine Bm (Ik (n:=(Dj (Ax n 31)).length) (b:=1) (by rw[hvr];omega) rfl rfl rfl rfl rfl rfl rfl rfl rfl rfl) ?_;refine Xz 2 0 2 ?_;have hzl:=C2 (D9 n);have hll:=C2 ls;refine Ju (ι:=List Nat×Nat) (BgI (D9 n) ls) (fun i=>[(22,vi i.1.length),(7,vi i.2),(21,vi (D9 n).length),(20,.sl (Ei (D9 n)) .no),(1,.sl (Ei ls) .no),(6,.ptr 2 0 0),(4,.ptr 0 0 0)])
  (fun i=>⟨[[vi 0,.sl [] .tight,.sl [] .tight,vi 0,vi 0,vi 0,vi 0,vi 0]]::List.replicate (Dj (Ax n 31)).length [vi 0]::[[vi 0,.bsl 1 (Dj (Ax n 31)).length,.psl (cR 3 i.1) 0 i.1.length,vi 0,vi 0,vi 0,vi 0,vi 0]]::i.1.map zcs,[i.1.length]⟩) (fun i=>(D9 n).length-i.1.length) ?_ ([],0)
  ⟨Cc _,Cc _,by simp,fun c h=>by cases h⟩ ⟨rfl,rfl,by rw[←hzl];rfl,rfl,rfl,rfl,rfl,trivial⟩ rfl
 intro i hI IH;obtain⟨cs,u⟩:=i;have hcl:=hI.len;have hul:=hI.u;simp only at hcl hul;refine Dh (fun h=>?_) (fun h=>?_)
 ·have hlt:cs.length<(D9 n).length:=by have:=A7 h;simp only at this;omega
  obtain⟨s,hs⟩:=Ab (D9 n) hlt;have hs1:=hsz s (Bh hs);refine B7 cs.length (by omega) (Gf (f:=Ji) hs) ?_;refine Ag (fun h0=>?_) (fun h0=>?_)
  ·have h0':=A7 h0;refine Db (fun g=>?_) (fun g=>?_)
   ·have hu:u=ls.length:=by have:=eq_of_beq g;rw[hll]at this;simp only at this;omega
    refine A1 ?_;rw[hI.none1 hs h0' hu];exact Bg func63 (h:=rfl) ⟨_,rfl,_,[],rfl,V4 _⟩
   ·have hu:u<ls.length:=by
     have:¬u=ls.length:=fun hh=>by subst hh;rw[hll]at g;simp at g
     omega
    obtain⟨m,hm⟩:=Ab ls hu;refine B7 u (by omega) (Gf (f:=Ji) hm) ?_;refine Al (Vt m 0 60) ?_;refine Ag (fun gb=>?_) (fun gb=>?_)
    ·have gb':Bl m 0 60=false:=by simpa using gb
     rw[hI.none2 hs h0' hm gb'];exact Bg func63 (h:=rfl) ⟨_,rfl,_,[],rfl,V4 _⟩
    ·have gb':Bl m 0 60=true:=by simpa using gb
     have hnew:=hI.given hs h0' hm gb';obtain⟨k,rfl⟩:∃k:Nat,m=k:=⟨m.toNat,by simp only[Bl,Da,J9]at gb';omega⟩
     refine B7 u (by omega) (Gf (f:=Ji) hm) ?_;refine D8 168 ?_;refine Dx (Ik (n:=k) (b:=3+cs.length) (by have:=hnew.small k (by simp);omega) (by simp;omega) rfl rfl rfl rfl rfl rfl rfl rfl rfl) (An (Cn rfl rfl rfl) G0) ?_;refine Ts ?_;refine Ch (M7 (ver:=cs.length) rfl (fun r hr=>by obtain⟨y,_,rfl⟩:=zzq68.1 hr;rfl) (fun r hr x hx=>by simp at hr;subst hr;simp at hx;subst hx;exact .bsl _ _) ?_ (Aby 3 cs k) rfl rfl rfl rfl rfl rfl rfl rfl rfl rfl rfl rfl rfl rfl rfl rfl rfl) ?_
     ·simp[L9];omega
     refine Ar ?_;refine Ch (A8 rfl rfl rfl rfl rfl rfl rfl) ?_;refine B6 ?_;refine IH (cs++[k],u+1) hnew (by simp;omega) _ _ ⟨Ct ?_,Ct ((Ac (by omega) (by omega)).trans (by simp)),rfl,rfl,rfl,rfl,rfl,trivial⟩ ?_
     ·rw[Ac (by simp only;omega) (by simp only;omega)];simp
     ·simp[zcs]
  ·have h0':0≤s:=by have:=Bd h0;omega
   have hnew:=hI.known hs h0' hs1;obtain⟨k,rfl⟩:∃k:Nat,s=k:=⟨s.toNat,by omega⟩
   refine D8 168 ?_;refine Dx (Ik (n:=k) (b:=3+cs.length) (by have:=hnew.small k (by simp);omega) (by simp;omega) rfl rfl rfl rfl rfl rfl rfl rfl rfl) (An (Cn rfl rfl rfl) G0) ?_;refine Ts ?_;refine Ch (M7 (ver:=cs.length) rfl (fun r hr=>by obtain⟨y,_,rfl⟩:=zzq68.1 hr;rfl) (fun r hr x hx=>by simp at hr;subst hr;simp at hx;subst hx;exact .bsl _ _) ?_ (Aby 3 cs k) rfl rfl rfl rfl rfl rfl rfl rfl rfl rfl rfl rfl rfl rfl rfl rfl rfl) ?_
   ·simp[L9];omega
   refine Ar ?_;refine Ch (A8 rfl rfl rfl rfl rfl rfl rfl) ?_;refine B6 ?_;refine IH (cs++[k],u) hnew (by simp;omega) _ _ ⟨Ct ?_,rfl,rfl,rfl,rfl,rfl,rfl,trivial⟩ ?_
   ·rw[Ac (by simp only;omega) (by simp only;omega)];simp
   ·simp[zcs]
 ·have hce:cs.length=(D9 n).length:=by have:=Bd h;simp only at this;omega
  by_cases hu:u=ls.length
  ·have hall:=hI.all hce hu;rw[hall];have hg:∀(j:Nat) c (A B C:List (List AV)) T,cs[j]?=some c→(A::B::C::(cs.map zcs++T))[3+j]?=some (zcs c):=fun j c A B C T hj=>by
    rw[show 3+j=j+1+1+1 by omega];simp only[Aif];rw[Cr (by simpa using Aa hj),Gm,hj];rfl
   have hbg:Zj (Dj (Ax n 31)).length cs=Zj (Ax n 31).length cs:=by rw[hvr]
   by_cases hne:cs=[]
   ·subst hne;refine Ah ?_ (ht:=by rw[hll,hu];simp);obtain⟨ids,hG⟩:=Anc (nv:=(Dj (Ax n 31)).length) (d:=3) (e:=1) (cs:=[]) (C:=.psl [] 0 0) (bx:=[[[vi 0,.bsl 1 (Dj (Ax n 31)).length,.psl [] 0 0,vi 0,vi 0,vi 0,vi 0,vi 0]],List.replicate (Dj (Ax n 31)).length [vi 0],[[vi 0,.bsl 1 (Dj (Ax n 31)).length,.psl [] 0 0,vi 0,vi 0,vi 0,vi 0,vi 0]]])
     rfl (by omega) (fun j c h=>by simp at h) (.inr ⟨rfl,rfl,rfl⟩) (fun b h=>by simp[Jr]at h) .nil
    rw[hbg]at hG;exact Bg func63 (h:=rfl) ⟨_,rfl,_,ids,rfl,hG⟩
   ·refine Avm 2 0 2 (rows:=cR 3 cs) (m:=3+cs.length) (n:=cs.length) (fun h=>hne (zzq96.1 (by have:=congrArg List.length h;simpa[L9]using this))) (fun k z=>?_) (hm:=by simp;omega) (hn:=by simp[L9]);refine Ah ?_ (ht:=by rw[hll,hu];simp);obtain⟨ids,hG⟩:=Anc (nv:=(Dj (Ax n 31)).length) (d:=3) (e:=1) (cs:=cs) (C:=.bsl (3+cs.length) cs.length) (bx:=[[vi 0,.bsl 1 (Dj (Ax n 31)).length,.bsl (3+cs.length) cs.length,vi 0,vi 0,vi 0,vi 0,vi 0]]::List.replicate (Dj (Ax n 31)).length [vi 0] ::
     [[vi 0,.bsl 1 (Dj (Ax n 31)).length,.bsl (3+cs.length) cs.length,vi 0,vi 0,vi 0,vi 0,vi 0]]::(cs.map zcs++[cR 3 cs++Uv k z]))
     rfl (by omega) (fun j c h=>hg j c _ _ _ _ h) (.inl ⟨3+cs.length,Uv k z,by simp[L9],by rw[show 3+cs.length=cs.length+1+1+1 by omega];simp⟩) (fun b h=>by simp[Jr]at h;omega) (by simp[Jr])
    rw[hbg]at hG;exact Bg func63 (h:=rfl) ⟨_,rfl,_,ids,rfl,hG⟩
  ·rw[hI.none3 hce (by omega)];refine A1 ?_ (ht:=by rw[hll];simp;omega);exact Bg func63 (h:=rfl) ⟨_,rfl,_,[],rfl,V4 _⟩
theorem SlB.given{bx:List (List (List AV))}{x:AV}{rows:List (List AV)}(h:SlB bx x rows):SlG bx x rows:=by
 rcases h with h|⟨rfl,sp,rfl⟩
 ·exact .inl h
 ·exact .inr ⟨rfl,rfl,rfl⟩
theorem CfB.given{bx:List (List (List AV))}{x:AV}{ids:List Nat}{c:Cf}(h:CfB SlB bx x ids c):CfB SlG bx x ids c:=by
 obtain⟨V,C,ys,h1,h2,h3,h4,h5,h6,h7⟩:=h.ex;exact⟨V,C,ys,h1,h2,h3,h4.given,h5.given,h6,fun j y l hy hl=>(h7 j y l hy hl).given⟩
theorem CfB.parts{Sl:List (List (List AV))→AV→List (List AV)→Prop}{bx:List (List (List AV))}{x:AV}{ids:List Nat}{c:Cf}(h:CfB Sl bx x ids c):∃V C,x=.agg [vi c.pt,V,C,vi c.used,vi c.steps,vi c.trap,vi c.edge,vi c.acc]:=by
 obtain⟨V,C,ys,h1,_⟩:=h.ex;exact⟨V,C,h1⟩
theorem CfB.shapes{bx:List (List (List AV))}{V C:AV}{a1 a2 a3 a4 a5 a6:Int}{ids:List Nat}{c:Cf}(h:CfB SlB bx (.agg [vi a1,V,C,vi a2,vi a3,vi a4,vi a5,vi a6]) ids c):((∃b n,V=.bsl b n)∨∃sp,V=.sl [] sp)∧((∃b n,C=.bsl b n)∨∃sp,C=.sl [] sp):=by
 obtain⟨V',C',ys,h1,h2,h3,h4,h5,h6,h7⟩:=h.ex;simp only[AV.agg.injEq,List.cons.injEq]at h1;obtain⟨_,rfl,rfl,_⟩:=h1;exact⟨h4.shape,h5.shape⟩
theorem CfB.ltG{bx:List (List (List AV))}{x:AV}{ids:List Nat}{c:Cf}(h:CfB SlG bx x ids c):∀i,i∈ids→i<bx.length:=by
 obtain⟨V,C,ys,_,rfl,_,h4,h5,h6,h7⟩:=h.ex;have key:∀{y:AV} {rows:List (List AV)},SlG bx y rows→∀i,i∈Jr y→i<bx.length:=fun{y rows} hy i hi=>by
  rcases hy with⟨b,ex,rfl,h⟩|⟨_,_,h⟩
  ·simp[Jr]at hi;subst hi;exact Aa h
  ·rw[h]at hi;cases hi
 intro i hi;simp only[zzq47,zzq108]at hi;rcases hi with h|h|⟨y,hy,hi⟩
 ·exact key h4 i h
 ·exact key h5 i h
 ·obtain⟨j,hj⟩:=Bw hy;obtain⟨l,hl⟩:=Ab c.cells (i:=j) (by rw[←h6];exact Aa hj);exact key (h7 j y l hj hl) i hi
theorem F3{bx:List (List (List AV))}{V C:AV}{ids:List Nat}{c:Cf}(h:CfB SlB bx (.agg (E4 c V C)) ids c):cellsOf (.agg (E4 c V C))=some (E4 c V C):=by
 rcases h.shapes with⟨⟨v1,v2,rfl⟩|⟨v1,rfl⟩,⟨c1,c2,rfl⟩|⟨c1,rfl⟩⟩<;>rfl
theorem Ay3{d:Nat}{x y:AV}{b:Bool}(h:Sh d x y):Sh d (.tup [x,vb b]) (.tup [y,vb b]):=by
 have h:=(ShL.cons h (.cons (.val (.bool b)) .nil)).get;exact .tup _ _ h.1 h.2
theorem Azf(d:Nat)(l:List Nat):Ka 1 (cR d l)=true:=Ku (f:=fun y:AV=>[y]) (fun _=>rfl) _
theorem A28{S:St}{nv d e:Nat}{cs:List Nat}(hv:S.boxes[e]?=some (List.replicate nv [vi 0]))(hnv:nv≤1000000)(hl:cs.length≤1000000)(hc:∀(j:Nat) c,cs[j]?=some c→S.boxes[d+j]?=some (zcs c))(hcl:∀c,c∈cs→c≤1000000)(sp:Sp) :
 Fz S 0 0 (.tup [.agg [vi 0,.bsl e nv,.sl (cR d cs) sp,vi 0,vi 0,vi 0,vi 0,vi 0],vb true]) (.tup [cf (Zj nv cs),vb true]):=by
 have fV:Fz S 0 0 (.bsl e nv) (.sl (Ei (List.replicate nv 0)) .no):=
  SlB.flat (.inl ⟨e,[],by rw[C2];simp,by rw[G4,hv,Ao5]⟩) (by rw[C2];simp;omega) inferInstance
 have fC:Fz S 0 0 (.sl (cR d cs) sp) (.sl (Yc (cs.map fun k=>List.replicate k (false,0))) .no):=by
  refine .strip _ _ sp (by rw[Acw];simp[L9]) (fun i r r' h1 h2=>?_) fun i j r r' x y h1 h2 h3 h4=>?_
  ·simp only[Yc,Gm,Option.map_map]at h1 h2;cases hy:(yR d cs)[i]? with
   |none=>rw[hy]at h1;cases h1
   |some y=>
    cases hk:cs[i]? with
    |none=>rw[hk]at h2;cases h2
    |some k=>rw[hy]at h1;rw[hk]at h2;cases h1;cases h2;rfl
  ·simp only[Yc,Gm,Option.map_map]at h1 h2;cases hk:cs[i]? with
   |none=>rw[hk]at h2;cases h2
   |some k=>
    rw[Amu hk]at h1;rw[hk]at h2;cases h1;cases h2;have hj:j=0:=by have:=Aa h3;simp at this;omega
    subst hj;simp at h3 h4;subst h3;subst h4;exact SlB.flat (.inl ⟨d+i,[],by rw[Il];simp,by rw[G4,hc i k hk,Ani]⟩) (by rw[Il];simp;have:=hcl k (Bh hk);omega) inferInstance
 refine .tup _ _ rfl fun j a b ha hb=>?_
 match j,ha,hb with
 |0,ha,hb=>
  simp at ha hb;subst ha;subst hb;refine .agg _ _ rfl fun j a b ha hb=>?_
  match j,ha,hb with
  |0,ha,hb=>simp at ha hb;subst ha;subst hb;exact .same _ (.val _)
  |1,ha,hb=>simp at ha hb;subst ha;subst hb;exact fV
  |2,ha,hb=>simp at ha hb;subst ha;subst hb;exact fC
  |3,ha,hb=>simp at ha hb;subst ha;subst hb;exact .same _ (.val _)
  |4,ha,hb=>simp at ha hb;subst ha;subst hb;exact .same _ (.val _)
  |5,ha,hb=>simp at ha hb;subst ha;subst hb;exact .same _ (.val _)
  |6,ha,hb=>simp at ha hb;subst ha;subst hb;exact .same _ (.val _)
  |7,ha,hb=>simp at ha hb;subst ha;subst hb;exact .same _ (.val _)
  |j+8,ha,_=>simp at ha
 |1,ha,hb=>simp at ha hb;subst ha;subst hb;exact .same _ (.val _)
 |j+2,ha,_=>simp at ha
theorem Axi(n:Nd)(hr:Fe n=true)(ls:List Int)(hls:ls.length≤1000000000):Pure X 62 [.agg (Kk n),.sl (Ei ls) .no] (.tup [cf (Av9 (Ax n 31).length (Xy (D9 n) ls)),vb (Xy (D9 n) ls).isSome]):=by
 have hkl:=(Iv hr).2.2.2.2;have hvl:(Ax n 31).length≤4500:=Nt (H3 n 31) hkl;have hsl:(D9 n).length≤4500:=by rw[Xs];exact Nt (H3 n 32) hkl
 have hsz:=Aj6 hr;have hvr:(Dj (Ax n 31)).length=(Ax n 31).length:=Fy _;refine Pure.run func62 ?_;refine Bm (Ik (n:=(Dj (Ax n 31)).length) (b:=2) (by rw[hvr];omega) rfl rfl rfl rfl rfl rfl rfl rfl rfl rfl) ?_;refine Ej 3 0 2 rfl rfl rfl rfl rfl rfl ?_;have hzl:=C2 (D9 n);have hll:=C2 ls;refine Ju (ι:=List Nat×Nat) (BgI (D9 n) ls) (fun i=>[(8,vi i.1.length),(7,vi i.2),(1,.sl (Ei ls) .no),(6,.ptr 3 0 0),(4,.ptr 1 0 0),(2,.ptr 0 0 0)])
  (fun i=>⟨[Kk n]::[[vi 0,.sl [] .tight,.sl [] .tight,vi 0,vi 0,vi 0,vi 0,vi 0]]::List.replicate (Dj (Ax n 31)).length [vi 0]::[[vi 0,.bsl 2 (Dj (Ax n 31)).length,.sl (cR 4 i.1) (.tok 0),vi 0,vi 0,vi 0,vi 0,vi 0]]::i.1.map zcs,[i.1.length]⟩) (fun i=>(D9 n).length-i.1.length) ?_ ([],0)
  ⟨Cc _,Cc _,by simp,fun c h=>by cases h⟩ ⟨rfl,rfl,rfl,rfl,rfl,rfl,trivial⟩ rfl
 intro i hI IH;obtain⟨cs,u⟩:=i;have hcl:=hI.len;have hul:=hI.u;simp only at hcl hul;refine Dh (fun h=>?_) (fun h=>?_)
 ·have hlt:cs.length<(D9 n).length:=by have:=A7 h;rw[hzl]at this;simp only at this;omega
  obtain⟨s,hs⟩:=Ab (D9 n) hlt;have hs1:=hsz s (Bh hs);refine B7 cs.length (by omega) (Gf (f:=Ji) hs) ?_;refine Ag (fun h0=>?_) (fun h0=>?_)
  ·have h0':=A7 h0;refine Db (fun g=>?_) (fun g=>?_)
   ·have hu:u=ls.length:=by have:=A7 g;rw[hll]at this;simp only at this;omega
    refine A1 ?_;rw[hI.none1 hs h0' hu];exact Au func62 rfl
   ·have hu:u<ls.length:=by have:=Bd g;rw[hll]at this;simp only at this;omega
    obtain⟨m,hm⟩:=Ab ls hu;refine B7 u (by omega) (Gf (f:=Ji) hm) ?_;refine Al (H2 m 0 60) ?_;refine Ag (fun gb=>?_) (fun gb=>?_)
    ·have gb':Bl m 0 60=false:=by simpa using gb
     rw[hI.none2 hs h0' hm gb'];exact Au func62 rfl
    ·have gb':Bl m 0 60=true:=by simpa using gb
     have hnew:=hI.given hs h0' hm gb';obtain⟨k,rfl⟩:∃k:Nat,m=k:=⟨m.toNat,by simp only[Bl,Da,J9]at gb';omega⟩
     refine B7 u (by omega) (Gf (f:=Ji) hm) ?_;refine D8 168 ?_;refine Dx (Ik (n:=k) (b:=4+cs.length) (by have:=hnew.small k (by simp);omega) (by simp;omega) rfl rfl rfl rfl rfl rfl rfl rfl rfl) (An (Cn rfl rfl rfl) G0) ?_;refine Ts ?_;refine Ch (Bv (res:=cR 4 (cs++[k])) rfl rfl rfl rfl rfl rfl rfl rfl rfl rfl rfl rfl rfl rfl (by simp[L9]) (Azf _ _) rfl rfl rfl ?_ (Aby 4 cs k) rfl) ?_
     ·simp[L9];omega
     refine Ar ?_;refine Ch (A8 rfl rfl rfl rfl rfl rfl rfl) ?_;refine B6 ?_;refine IH (cs++[k],u+1) hnew (by simp;omega) _ _ ⟨Ct ?_,Ct ((Ac (by omega) (by omega)).trans (by simp)),rfl,rfl,rfl,rfl,trivial⟩ ?_
     ·rw[Ac (by simp only;omega) (by simp only;omega)];simp
     ·simp[zcs,L9]
  ·have h0':0≤s:=by have:=Bd h0;omega
   have hnew:=hI.known hs h0' hs1;obtain⟨k,rfl⟩:∃k:Nat,s=k:=⟨s.toNat,by omega⟩
   refine D8 168 ?_;refine Dx (Ik (n:=k) (b:=4+cs.length) (by have:=hnew.small k (by simp);omega) (by simp;omega) rfl rfl rfl rfl rfl rfl rfl rfl rfl) (An (Cn rfl rfl rfl) G0) ?_;refine Ts ?_;refine Ch (Bv (res:=cR 4 (cs++[k])) rfl rfl rfl rfl rfl rfl rfl rfl rfl rfl rfl rfl rfl rfl (by simp[L9]) (Azf _ _) rfl rfl rfl ?_ (Aby 4 cs k) rfl) ?_
   ·simp[L9];omega
   refine Ar ?_;refine Ch (A8 rfl rfl rfl rfl rfl rfl rfl) ?_;refine B6 ?_;refine IH (cs++[k],u) hnew (by simp;omega) _ _ ⟨Ct ?_,rfl,rfl,rfl,rfl,rfl,trivial⟩ ?_
   ·rw[Ac (by simp only;omega) (by simp only;omega)];simp
   ·simp[zcs,L9]
 ·have hce:cs.length=(D9 n).length:=by have:=Bd h;rw[hzl]at this;simp only at this;omega
  by_cases hu:u=ls.length
  ·have hall:=hI.all hce hu;rw[hall];have hg:∀(j:Nat) c (A B C D:List (List AV)),cs[j]?=some c→(A::B::C::D::cs.map zcs)[4+j]?=some (zcs c):=fun j c A B C D hj=>by
    rw[show 4+j=j+1+1+1+1 by omega];simp only[Aif];rw[Gm,hj];rfl
   refine Ah ?_ (ht:=by rw[hll,hu];simp);rw[←hvr];refine E5 (B:=⟨62,_,0,0⟩) func62 (h:=rfl) 0 (Bo _) ?_ (fun rows hr=>by simp at hr) ⟨rfl,rfl⟩;exact A28 rfl (by rw[hvr];omega) (by omega) (fun j c h=>hg j c _ _ _ _ h) hI.small (.tok 0)
  ·rw[hI.none3 hce (by omega)];refine A1 ?_ (ht:=by rw[hll];simp;omega);exact Au func62 rfl
def CcG(cells:List (List (Bool×Int)))(r:AV)(bx:List (List (List AV))):Prop:=
 ∃ys:List AV,SlG bx r (ys.map fun y=>[y])∧ys.length=cells.length∧(∀(j:Nat) (y:AV) (l:List (Bool×Int)),ys[j]?=some y→cells[j]?=some l→SlG bx y (Rh l))∧(Jr r++ys.flatMap Jr).Nodup∧∀b,b∈Jr r++ys.flatMap Jr→b<bx.length
structure CcI (cells:List (List (Bool×Int)))(S:St)(ys:List AV):Prop where
 len:ys.length≤cells.length
 rows:∀(j:Nat) (y:AV) (l:List (Bool×Int)),ys[j]?=some y→cells[j]?=some l→SlB S.boxes y (Rh l)
 nd:(ys.flatMap Jr).Nodup
 lt:∀b,b∈ys.flatMap Jr→b<S.boxes.length
 not:∀y,y∈ys→NoT y
theorem CcI.nil(cells:List (List (Bool×Int)))(S:St):CcI cells S []:=⟨Cc _,fun j y l h=>by simp at h,.nil,fun b h=>by simp at h,fun y h=>by cases h⟩
theorem CcI.snoc{cells:List (List (Bool×Int))}{S S':St}{ys:List AV}{y:AV}{l:List (Bool×Int)}{m:List (List (List AV))}(h:CcI cells S ys)(hl:cells[ys.length]?=some l)(hb:S'.boxes=S.boxes++m)(hy:SlB S'.boxes y (Rh l))(hn:(Jr y).Nodup)(hge:∀b,b∈Jr y→S.boxes.length≤b)(ht:NoT y):CcI cells S' (ys++[y]):=by
 refine⟨by have:=Aa hl;simp;omega,fun j z q hz hq=>?_,?_,fun b hb'=>?_,fun z hz=>?_⟩
 ·rcases getElem?_snoc hz with hz|⟨hj,rfl⟩
  ·rw[hb];exact(h.rows j z q hz hq).more
  ·subst hj;rw[hl]at hq;cases hq;exact hy
 ·rw[List.flatMap_append];simp only[List.flatMap_cons,List.flatMap_nil,G4];exact zzq109.2 ⟨h.nd,hn,fun a ha b hb'=>by have:=h.lt a ha;have:=hge b hb';omega⟩
 ·rw[List.flatMap_append]at hb';simp only[List.flatMap_cons,List.flatMap_nil,G4,zzq47]at hb';rcases hb' with h1|h1
  ·have:=h.lt b h1;rw[hb];simp;omega
  ·exact hy.lt b h1
 ·rcases zzq47.1 hz with hz|hz
  ·exact h.not z hz
  ·simp at hz;subst hz;exact ht
theorem CcI.give{cells:List (List (Bool×Int))}{S:St}{ys:List AV}(h:CcI cells S ys)(hl:ys.length=cells.length){r:AV}{m:List (List (List AV))}(hr:(ys=[]∧Hq 0 r=.sl [] .no∧Jr r=[])∨∃ex,r=.bsl S.boxes.length ys.length∧m=[ys.map (fun y=>[y])++ex]):CcG cells r (S.boxes++m):=by
 refine⟨ys,?_,hl,fun j y l hy hl=>(h.rows j y l hy hl).more.given,?_,fun b hb=>?_⟩
 ·rcases hr with⟨rfl,h1,h2⟩|⟨ex,rfl,rfl⟩
  ·exact .inr ⟨rfl,h1,h2⟩
  ·exact .inl ⟨S.boxes.length,ex,by simp,by simp⟩
 ·rcases hr with⟨_,_,h2⟩|⟨ex,rfl,rfl⟩
  ·rw[h2];exact h.nd
  ·exact zzq109.2 ⟨by simp[Jr],h.nd,fun a ha b hb=>by simp[Jr]at ha;subst ha;have:=h.lt b hb;omega⟩
 ·rcases zzq47.1 hb with h1|h1
  ·rcases hr with⟨_,_,h2⟩|⟨ex,rfl,rfl⟩
   ·rw[h2]at h1;cases h1
   ·simp[Jr]at h1;subst h1;simp
  ·have:=h.lt b h1;simp;omega
theorem Aa9(cells:List (List (Bool×Int)))(hcl:cells.length≤1000000000)(hcx:∀x,x∈cells→x.length≤1000000000):Gives X 182 [.sl (Yc cells) .no] (CcG cells):=by
 have hlen:=Acw cells;refine Gives.run func182 ?_;refine Ari 3 ?_;refine Ju (ι:=St×List AV) (fun i=>i.1.toks=[i.2.length]∧CcI cells i.1 i.2) (fun i=>[(4,vi i.2.length),(3,.psl (i.2.map fun y=>[y]) 0 i.2.length),(0,.sl (Yc cells) .no)]) (fun i=>i.1) (fun i=>cells.length-i.2.length) ?_ (⟨[],[0]⟩,[])
  ⟨rfl,CcI.nil _ _⟩ ⟨rfl,rfl,rfl,trivial⟩ rfl
 intro i hi IH;obtain⟨S1,ys⟩:=i;obtain⟨htk,hI⟩:=hi;simp only at htk hI;refine Dh (fun g=>?_) (fun g=>?_)
 ·have hlt:ys.length<cells.length:=by have:=A7 g;rw[hlen]at this;simp only at this;omega
  obtain⟨l,hl⟩:=Ab cells hlt;have hll:=hcx l (Bh hl);have hcr:=Il l;refine Mj ys.length (by omega) (Gf (f:=Awf) hl) ?_;cases hle:l with
  |nil=>
   subst hle;refine G9 Aci rfl rfl ?_;refine Bq 60 rfl ?_;refine G9 (M7 (ver:=ys.length) (res:=(ys++[AV.sl [] .tight]).map fun y=>[y]) (by simp only[htk];rfl) (fun r hr=>by obtain⟨y,_,rfl⟩:=zzq68.1 hr;rfl) (fun r hr x hx=>by simp at hr;subst hr;simp at hx;subst hx;exact(.sl _ _ (fun r h=>by cases h) fun t h=>by cases h)) (by simp;omega) (by simp) rfl rfl rfl rfl rfl rfl rfl rfl rfl rfl rfl rfl rfl rfl rfl rfl rfl) rfl rfl ?_;refine Bq 60 rfl ?_;refine IH (⟨S1.boxes++[],[ys.length+1]⟩,ys++[AV.sl [] .tight]) ⟨by simp,hI.snoc hl rfl (.inr ⟨rfl,.tight,rfl⟩) .nil (fun b h=>by cases h) (.sl _ _ (fun r h=>by cases h) fun t h=>by cases h)⟩ (by simp;omega) _ _ ⟨Ct ?_,by simp;rfl,rfl,trivial⟩ (by simp[htk])
   ·rw[Ac (by simp only;omega) (by simp only;omega)];simp
  |cons a l'=>
   rw[←hle];refine Zm (new:=Rh l) (fun cc=>?_) ?_ ?_ ?_ ?_
   ·skip
    refine Bq 60 rfl ?_;refine G9 (M7 (ver:=ys.length) (res:=(ys++[AV.bsl S1.boxes.length (Rh l).length]).map fun y=>[y]) (by simp only[htk];rfl) (fun r hr=>by obtain⟨y,_,rfl⟩:=zzq68.1 hr;rfl) (fun r hr x hx=>by simp at hr;subst hr;simp at hx;subst hx;exact(.bsl _ _)) (by simp;omega) (by simp) rfl rfl rfl rfl rfl rfl rfl rfl rfl rfl rfl rfl rfl rfl rfl rfl rfl) rfl rfl ?_;refine Bq 60 rfl ?_;refine IH (⟨S1.boxes++[Rh l++List.replicate cc [vb false,vi 0]],[ys.length+1]⟩,ys++[AV.bsl S1.boxes.length (Rh l).length]) ⟨by simp,hI.snoc hl rfl (.inl ⟨S1.boxes.length,List.replicate cc [vb false,vi 0],rfl,by simp⟩) (by simp[Jr]) (fun b h=>by simp[Jr]at h;omega) (.bsl _ _)⟩ (by simp;omega) _ _ ⟨Ct ?_,by simp;rfl,rfl,trivial⟩ (by simp[htk])
    ·rw[Ac (by simp only;omega) (by simp only;omega)];simp
   ·exact fun r hr=>by obtain⟨z,_,rfl⟩:=zzq68.1 hr;rfl
   ·exact fun r hr x hx=>by obtain⟨z,_,rfl⟩:=zzq68.1 hr;simp at hx;rcases hx with rfl|rfl<;>rfl
   ·rw[hle];simp[Rh]
   ·omega
 ·have he:ys.length=cells.length:=by have:=Bd g;rw[hlen]at this;simp only at this;have:=hI.len;omega
  by_cases hne:ys=[]
  ·subst hne;refine Bg func182 (h:=rfl) ⟨_,rfl,?_⟩;have:=hI.give he (r:=.psl [] 0 0) (m:=[]) (.inl ⟨rfl,rfl,rfl⟩);rw[G4]at this;exact this
  ·refine Akn 2 (rows:=ys.map fun y=>[y]) (t:=0) (v:=ys.length) (m:=S1.boxes.length) (n:=ys.length) (by simpa using hne) (fun k z=>?_) (hS:=by simp only[htk];rfl) (hn:=by simp);refine Bg func182 (h:=rfl) ⟨_,rfl,?_⟩;exact hI.give he (.inr ⟨_,rfl,rfl⟩)
theorem Axk(c:Cf)(hc:CfOk c):Gives X 122 [cf c] (fun r bx=>∃ids,CfB SlG bx r ids c):=by
 have hcv:=hc.vars;have hvl:=C2 c.vars;refine Gives.run func122 ?_;cases hv:c.vars with
 |nil=>
  refine G9 Aci rfl rfl ?_;refine Bj 100 rfl ?_;refine P5 (Aa9 c.cells hc.cells hc.rows) (.cons (.same _ (inferInstance:OK 0 0 (.sl (Yc c.cells) .no)).ok) .nil) ?_;intro r bx hP;obtain⟨ys,h1,h2,h3,h4,h5⟩:=hP;refine⟨Hq 2 r,Oh 2 bx,P0 _ _,Mv _ _,?_⟩;have hH:=fun a b=>h1.held (pre:=[a,b]);have hR:∀a b,CfB SlB (a::b::Oh 2 bx) (.agg (E4 c (.sl [] .tight) (Hq 2 r))) (Jr (.sl [] .tight)++(Jr r++ys.flatMap Jr).map (·+2)) c:=fun a b=>
   ⟨(.sl [] .tight),Hq 2 r,ys.map (Hq 2),rfl,by simp only[J8,Ab2,List.map_flatMap,List.flatMap_map],(by simp only[Jr,U8];exact List.Pairwise.map _ (fun a b h=>by simp only[ne_eq]at h⊢;omega) h4),(.inr ⟨by rw[hv];rfl,.tight,rfl⟩),by have:=hH a b;rw[List.map_map]at this;rw[List.map_map];exact this,by simpa using h2,fun j y l hy hl=>by
     rw[Gm]at hy;cases hy':ys[j]? with
     |none=>rw[hy']at hy;cases hy
     |some y0=>
      rw[hy']at hy;cases hy;have:=(h3 j y0 l hy' hl).held (pre:=[a,b]);rw[Uk]at this;exact this⟩
  have hsh:=(hR [] []).shapes;generalize hr2:Hq 2 r=r2 at *;rcases hsh.2 with⟨c1,c2,rfl⟩|⟨c1,rfl⟩ <;>
  ·refine Bj 100 rfl ?_;exact Bg func122 (h:=rfl) ⟨_,rfl,_,(hR _ _).given⟩
 |cons q ll=>
  refine Zm (new:=Ei (q::ll)) (fun cc=>?_) ?_ ?_ ?_ ?_
  ·refine Bj 100 rfl ?_;refine P5 (Aa9 c.cells hc.cells hc.rows) (.cons (.same _ (inferInstance:OK 0 0 (.sl (Yc c.cells) .no)).ok) .nil) ?_;intro r bx hP;obtain⟨ys,h1,h2,h3,h4,h5⟩:=hP;refine⟨Hq 3 r,Oh 3 bx,P0 _ _,Mv _ _,?_⟩;have hH:=fun a b=>h1.held (pre:=[a,b,Ei (q::ll)++List.replicate cc [vi 0]]);have hR:∀a b,CfB SlB (a::b::(Ei (q::ll)++List.replicate cc [vi 0])::Oh 3 bx) (.agg (E4 c (.bsl 2 (Ei (q::ll)).length) (Hq 3 r))) (Jr (.bsl 2 (Ei (q::ll)).length)++(Jr r++ys.flatMap Jr).map (·+3)) c:=fun a b=>
    ⟨(.bsl 2 (Ei (q::ll)).length),Hq 3 r,ys.map (Hq 3),rfl,by simp only[J8,Ab2,List.map_flatMap,List.flatMap_map],(zzq109.2 ⟨by simp[Jr],List.Pairwise.map _ (fun a b h=>by simp only[ne_eq]at h⊢;omega) h4,fun x hx y hy=>by simp[Jr]at hx;obtain⟨z,_,rfl⟩:=zzq68.1 hy;omega⟩),(.inl ⟨2,List.replicate cc [vi 0],by rw[hv],by rw[hv];rfl⟩),by have:=hH a b;rw[List.map_map]at this;rw[List.map_map];exact this,by simpa using h2,fun j y l hy hl=>by
      rw[Gm]at hy;cases hy':ys[j]? with
      |none=>rw[hy']at hy;cases hy
      |some y0=>
       rw[hy']at hy;cases hy;have:=(h3 j y0 l hy' hl).held (pre:=[a,b,Ei (q::ll)++List.replicate cc [vi 0]]);rw[Uk]at this;exact this⟩
   have hsh:=(hR [] []).shapes;generalize hr2:Hq 3 r=r2 at *;rcases hsh.2 with⟨c1,c2,rfl⟩|⟨c1,rfl⟩ <;>
   ·refine Bj 100 rfl ?_;exact Bg func122 (h:=rfl) ⟨_,rfl,_,(hR _ _).given⟩
  ·exact fun r hr=>by obtain⟨z,_,rfl⟩:=zzq68.1 hr;rfl
  ·exact fun r hr x hx=>by obtain⟨z,_,rfl⟩:=zzq68.1 hr;simp at hx;subst hx;rfl
  ·simp[Ei]
  ·rw[hv]at hvl hcv;omega
theorem Ajo(k a b:Int)(h0:11≤k)(h1:k≤16):Pure X 125 [vi k,vi a,vi b] (vb (Ox k a b)):=by
 have:k=11∨k=12∨k=13∨k=14∨k=15∨k=16:=by omega
 rcases this with rfl|rfl|rfl|rfl|rfl|rfl <;>
 ·refine Pure.run func125 ?_
  repeat' (first|refine A1 ?_|refine Ah ?_)
  exact Au func125 rfl
theorem Ef{F:C3}{S:St}{t ty b:Nat}{y:Ty}{cs:List AV}{x:AV}(hl:lk F t=some (.ptr b 0 0))(hy:X.ty ty=some y)(hb:S.boxes[b]?=some [cs])(hx:(Ni y.size cs fun c'=>V6 (Gd y.k) c')=some x):Md X F S [.cell t ty]=some [x]:=by
 have:Tf S y.size (Gd y.k) (.ptr b 0 0)=some x:=by
  simp only[Tf,H7,hb,List.getElem?_cons_zero,Ou];exact hx
 simp only[Md,hl,Q0,hy,this]
abbrev zCf:List AV:=[vi 0,.sl [] .tight,.sl [] .tight,vi 0,vi 0,vi 0,vi 0,vi 0]
theorem Aus{α:Type}(B:List α)(x y z:α):(B++[x]++[y]).set B.length z=B++[z]++[y]:=by rw[Fi,Gi _ _ (Bo _),Fv];simp
theorem A34{α:Type}(B:List α)(x y z:α):(B++[x]++[y]).set (B.length+1) z=B++[x]++[z]:=by rw[Gi _ _ (by simp)];simp
theorem O5{S:St}{V C:AV}{ids:List Nat}{c:Cf}(h:CfB SlB S.boxes (.agg (E4 c V C)) ids c)(t e a:Int):Runs X 124 [.agg (E4 c V C),vi t,vi e,vi a] S (fun r S'=>r=.agg (E4 { c with trap:=t,edge:=e,acc:=a } V C)∧S'.toks=S.toks∧∃m,S'.boxes=S.boxes++m):=by
 have hc:=F3 h;have hc2:cellsOf (.agg (E4 { c with trap:=t,edge:=e,acc:=a } V C))=some (E4 { c with trap:=t,edge:=e,acc:=a } V C):=by
  rcases h.shapes with⟨⟨v1,v2,rfl⟩|⟨v1,rfl⟩,⟨c1,c2,rfl⟩|⟨c1,rfl⟩⟩<;>rfl
 refine Runs.run func124 ?_;refine Wx (b:=S.boxes.length) (cs:=E4 c V C) rfl rfl ?_ (hc:=hc);refine Mi (b:=S.boxes.length+1) (by simp) rfl ?_;obtain⟨T,hT⟩:∃T:St,T=⟨S.boxes++[[E4 c V C]]++[[zCf]],S.toks⟩:=⟨_,rfl⟩
 refine Ba T ?_ hT.symm;have z1:T.boxes[S.boxes.length]?=some [E4 c V C]:=by rw[hT];simp
 have l1:S.boxes.length+1<T.boxes.length:=by rw[hT];simp
 have z2:T.boxes[S.boxes.length+1]?=some [zCf]:=by rw[hT];simp
 refine Cd z1 rfl ?_;refine Cd (b:=S.boxes.length) (Et (by omega)) rfl ?_;refine Cd (b:=S.boxes.length) (Et (by simp;omega)) rfl ?_;refine Aw (b:=S.boxes.length) (Et (by simp;omega)) ?_;refine Cd (b:=S.boxes.length+1) (cs:=zCf) (xs:=E4 { c with trap:=t,edge:=e,acc:=a } V C) (cs':=E4 { c with trap:=t,edge:=e,acc:=a } V C) (by rw[Fj (by omega),Fj (by omega),Fj (by omega)];exact z2) rfl ?_ (hc:=hc2);refine Bg func124 (h:=Ef rfl rfl (Et (by simp;omega)) rfl) ⟨_,rfl,rfl,by rw[hT],?_⟩;rw[hT];refine⟨[[E4 { c with trap:=t,edge:=e,acc:=a } V C],[E4 { c with trap:=t,edge:=e,acc:=a } V C]],?_⟩;rw[Aus,Aus,Aus,A34,Fi];rfl
structure SpS (n:Nd)(S:St)(bc le:Nat)(V C:AV)(ids:List Nat)(c:Cf)(e:Eg):Prop where
 z0:S.boxes[0]?=some [Kk n]
 z2:S.boxes[2]?=some [zCf]
 c:CfS S bc V C ids c
 e:S.boxes[le]?=some [H4 e]
 ge:3≤bc∧3≤le∧le≠bc∧∀i,i∈ids→3≤i∧i≠le
section
variable {n:Nd}{S:St}{bc le:Nat}{V C:AV}{ids:List Nat}{c:Cf}{e:Eg}
theorem SpS.chg{S':St}{c':Cf}(h:SpS n S bc le V C ids c e)(hc:CfS S' bc V C ids c')(hch:Chg (bc::ids) S.boxes S'.boxes):SpS n S' bc le V C ids c' e:=by
 have hg:=h.ge;have key:∀i,i<3∨i=le→i∉bc::ids:=fun i hi hm=>by
  rcases zzq13.1 hm with rfl|hm
  ·omega
  ·have:=hg.2.2.2 i hm;omega
 exact⟨(hch.2 0 (Aa h.z0) (key 0 (by omega))).trans h.z0,(hch.2 2 (Aa h.z2) (key 2 (by omega))).trans h.z2,hc,(hch.2 le (Aa h.e) (key le (.inr rfl))).trans h.e,hg⟩
theorem SpS.more{S':St}{m:List (List (List AV))}(h:SpS n S bc le V C ids c e)(hb:S'.boxes=S.boxes++m):SpS n S' bc le V C ids c e:=by
 have gx:∀{i:Nat} {y:List (List AV)},S.boxes[i]?=some y→S'.boxes[i]?=some y:=fun{i y} h=>by rw[hb,Cr (Aa h)];exact h
 exact⟨gx h.z0,gx h.z2,h.c.more hb,gx h.e,h.ge⟩
end
theorem Tb{d:Nat}(r:VR):Sh d (vR3 r) (vR3 r):=by
 have h:=(ShL.cons (.val _) (.cons (.val _) (.cons (.val _) .nil)):ShL d [vi r.1,vi r.2.1,vi r.2.2] [vi r.1,vi r.2.1,vi r.2.2]).get;exact .tup _ _ h.1 h.2
theorem Awc(r:List (Bool×Int))(x d:Int):(Nu r x d).2.1=0∨(Nu r x d).2.1=1∨(Nu r x d).2.1=2:=by
 unfold Nu;split
 ·split<;>simp
 ·simp
theorem Asg(x d:Int):(Nr x d).2.1=0∨(Nr x d).2.1=3:=by
 unfold Nr;split<;>simp
theorem Xv(n:Nd)(c:Cf){e:Nd}(h:FE e):∀d,0≤(C6 n c e d).2.1∧(C6 n c e d).2.1≤3:=by
 induction h with
 |num m h0 h1=>intro d;rw[Y9];simp[Ad0,To]
 |var s h=>intro d;rw[Y9];simp[Ad0,To]
 |len s h=>intro d;rw[Y9];simp[Ad0,To]
 |cell s a h ha ih=>
  intro d;have:=ih d;rcases hv:C6 n c a d with⟨v,t,d1⟩
  rw[hv]at this;rw[Af7 hv];split
  ·have h3:To n c 3 s 0 ([v],0,d1)=Nu (Xo n c s) v d1:=by simp[To]
   rw[h3];have:=Awc (Xo n c s) v d1;omega
  ·exact this
 |neg a ha ih=>
  intro d;have:=ih d;rcases hv:C6 n c a d with⟨v,t,d1⟩
  rw[hv]at this;rw[Af7 hv];split
  ·have h3:To n c 5 [] 0 ([v],0,d1)=Nr (IntKind.i64.wrap (-v)) d1:=by simp[To]
   rw[h3];have:=Asg (IntKind.i64.wrap (-v)) d1;omega
  ·exact this
 |two k a b hk' ha hb iha ihb=>
  intro d;have h1:=iha d;rcases hv:C6 n c a d with⟨v,t,d1⟩
  rw[hv]at h1;have h2:=ihb d1;rcases hv2:C6 n c b d1 with⟨v2,t2,d2⟩
  rw[hv2]at h2;rw[Ava hv hv2];split
  ·split
   ·have h3:∃x,To n c k [] 0 ([v,v2],0,d2)=Nr x d2:=⟨_,by simp[To];rfl⟩
    obtain⟨x,h3⟩:=h3;rw[h3];have:=Asg x d2;omega
   ·exact h2
  ·exact h1
def H5(i:Nat)(t1 t2:Int)(q:DR):Cf:=if q.2.1=0 then{ q.1 with pt:=if q.2.2.2=true then t1 else t2 }else{ q.1 with trap:=q.2.1,edge:=(i:Int),acc:=if q.2.1=4∨q.2.1=5 then 0 else q.2.2.1 }
section
variable {n:Nd}{S:St}{bc le:Nat}{V C:AV}{ids:List Nat}{c:Cf}
abbrev SpA(n:Nd)(S:St)(bc le:Nat)(inp:List Int)(at_:Nat)(M:Cf):Prop:=
 AK X ⟨76,f76,0,0⟩ (Lj false 9 f76) [(2,.sl (Ei inp) .no),(3,.ptr 0 0 0),(6,.ptr 2 0 0),(7,.ptr bc 0 0),(8,vi at_),(9,.ptr le 0 0)] S (fun e S'=>e=.ret (cf M)∧S'=⟨[],[]⟩)
theorem Auq{inp:List Int}{i:Nat}{f t k t2:Int}{y:Bool}{x:Nd}(hk':k=6∨k=7)(hA:SpS n S bc le V C ids c ⟨f,t,k,y,x⟩)(hok:CfOk c):SpA n S bc le inp i (H5 i t t2 (c,0,0,true)):=by
 have e1:H5 i t t2 (c,0,0,true)={ c with pt:=t }:=by simp[H5]
 rw[e1];have hc2:=hA.c.upd (c':={ c with pt:=t }) rfl rfl;have hB:=hA.chg hc2 ((Cz S.boxes bc _).more fun i hi=>by simp at hi;simp[hi]);have hOK:CfOk { c with pt:=t }:=⟨hok.vars,hok.cells,hok.rows⟩
 rcases hk' with rfl|rfl <;>
 ·refine D3 ?_;refine Bq 60 rfl ?_;refine Aw hA.e ?_
  iterate 5 refine Bs ?_
  refine Aw hA.e ?_;refine Cd hA.c.box rfl ?_;refine Aw hB.c.box ?_;refine Cd (xs:=E4 ({ c with pt:=t }) V C) (cs':=E4 ({ c with pt:=t }) V C) hB.z2 rfl ?_ (hc:=F3 hB.c.cf);refine E5 (B:=⟨76,_,0,0⟩) func76 (h:=Ef rfl rfl (Et (Aa hB.z2)) rfl) 0 (Bo _) ?_ (fun rows hr=>by simp at hr) ⟨rfl,rfl⟩;exact(hB.c.cf.chg (Cz _ 2 _) fun i hi hi2=>by simp at hi2;have:=hB.ge.2.2.2 i hi;omega).fz hOK
theorem A33(hk:VOk n c){inp:List Int}{i:Nat}{f t t2:Int}{y:Bool}{s:List UInt8}{a:Nd}(hA:SpS n S bc le V C ids c ⟨f,t,1,y,.mk 21 s 0 [a]⟩)(hs:Ey 0 (Ax n 31) s≥0)(ha:FE a)(ka:E9 (Ax n 31) (Ax n 32) a=true) :
 SpA n S bc le inp i (H5 i t t2 (Ry n inp c 1 y (.mk 21 s 0 [a]))):=by
 have hok:=hk.ok;obtain⟨iv,v0,h1,h2,_⟩:=hk.var hs;have kl:=hk.kl;have hd1:=H3 n 31;have hq:=Uo (Ax n 31) s (by omega);rw[h1]at hq;have hiv:=Aa h2;have hpv:=Sr n c hk ha ka 0;have okP:Ok 0 0 (.agg (Kk n)):=(inferInstance:OK 0 0 (.agg (Kk n))).ok;have hvt:=Xv n c ha 0;have e0:Ry n inp c 1 y (.mk 21 s 0 [a])=if (C6 n c a 0).2.1=0 then(We n c s (C6 n c a 0).1,0,(C6 n c a 0).2.2,true)else(c,(C6 n c a 0).2.1,(C6 n c a 0).2.2,true):=rfl;rw[e0];rcases hv:C6 n c a 0 with⟨v,tt,d1⟩
 rw[hv]at hpv hvt;simp only at hvt⊢;refine D3 ?_;refine Bq 60 rfl ?_;refine Aw hA.e ?_;refine Dm ?_;refine C8 0 (by kernel_rfl) ?_;refine A0 (Aq hA.z0) ?_
 iterate 2 refine Ar ?_
 refine A0 (Aq hA.e) ?_;refine Ek (fun S'=>Cu rfl rfl rfl rfl rfl rfl rfl rfl rfl (by decide) (Am (l:=[a]) (i:=0) rfl)) ?_;refine Ar ?_;refine A0 (Aq hA.c.box) ?_
 iterate 0 refine Ar ?_
 refine A0 (Px hpv (.cons (.same _ okP) (.cons (.same _ (inferInstance:OK 0 0 (nd a)).ok) (.cons (hA.c.cf.fz hok) (.cons (.same _ (.val _)) .nil)))) (Tb _)) ?_
 iterate 7 refine Ar ?_
 refine Gn ?_;refine F4 (fun g=>?_) (fun g=>?_)
 ·have gt:¬tt=0:=by simpa using(show (tt != 0)=true from g)
  have e1:H5 i t t2 (if tt=0 then(We n c s v,0,d1,true)else(c,tt,d1,true))={ c with trap:=tt,edge:=(i:Int),acc:=d1 }:=by
   rw[if_neg gt];unfold H5;rw[if_neg gt,if_neg (by simp only;omega)]
  rw[e1];refine Aw hA.c.box ?_;refine Gz (O5 hA.c.cf (tt) i (d1)) ?_;intro r W hP _ _;obtain⟨rfl,htW,mW,hmW⟩:=hP;have hW:=hA.more hmW;have hc2:cellsOf (.agg (E4 { c with trap:=tt,edge:=(i:Int),acc:=d1 } V C))=some (E4 { c with trap:=tt,edge:=(i:Int),acc:=d1 } V C):=by
   rcases hA.c.cf.shapes with⟨⟨v1,v2,rfl⟩|⟨v1,rfl⟩,⟨c1,c2,rfl⟩|⟨c1,rfl⟩⟩<;>rfl
  refine Bq 60 rfl ?_;refine Cd (xs:=E4 { c with trap:=tt,edge:=(i:Int),acc:=d1 } V C) (cs':=E4 { c with trap:=tt,edge:=(i:Int),acc:=d1 } V C) hW.z2 rfl ?_ (hc:=hc2);refine E5 (B:=⟨76,_,0,0⟩) func76 (h:=Ef rfl rfl (Et (Aa hW.z2)) rfl) 0 (Bo _) ?_ (fun rows hr=>by simp at hr) ⟨rfl,rfl⟩;have hcf:=hW.c.cf.chg (Cz W.boxes 2 [E4 { c with trap:=tt,edge:=(i:Int),acc:=d1 } V C]) fun i hi hi2=>by simp at hi2;have:=hW.ge.2.2.2 i hi;omega
  obtain⟨V',C',ys,q1,q2,q3,q4,q5,q6,q7⟩:=hcf.ex;simp only[AV.agg.injEq,List.cons.injEq,and_true,true_and]at q1;obtain⟨rfl,rfl⟩:=q1;have hfz:=CfB.fz (S:=⟨W.boxes.set 2 [E4 { c with trap:=tt,edge:=(i:Int),acc:=d1 } V C],W.toks⟩) (ids:=ids) (c:={ c with trap:=tt,edge:=(i:Int),acc:=d1 }) ⟨V,C,ys,rfl,q2,q3,q4,q5,q6,q7⟩ ⟨hok.vars,hok.cells,hok.rows⟩;exact hfz
 ·have gt:tt=0:=by simpa using(show (tt != 0)=false from g)
  have e1:H5 i t t2 (if tt=0 then(We n c s v,0,d1,true)else(c,tt,d1,true))={ c with vars:=c.vars.set iv v,pt:=t }:=by
   rw[if_pos gt];unfold H5 We;rw[h1];rfl
  rw[e1];obtain⟨bv,ex,hV,hb,hrow⟩:=hA.c.vars h2;obtain⟨hwr,hch⟩:=hA.c.wrV v hiv hV hb;have hA1:=hA.chg hwr (hch.more fun i hi=>by simp[hi]);subst hV;refine C8 1024 (by kernel_rfl) ?_;refine Ar ?_;refine A0 (Aq hA.c.box) ?_;refine Ar ?_;refine A0 (Aq hA.z0) ?_
  iterate 2 refine Ar ?_
  refine A0 (Aq hA.e) ?_;refine Ja hq ?_;refine Ar ?_;refine A0 (F8 (hj:=by simpa[Fs]using hiv) (hb:=hb) (hr:=hrow) (hl:=rfl)) ?_;refine Ch (Jw hb hrow rfl) ?_;refine Gn ?_;refine Aw hA1.e ?_;refine Cd hA1.c.box rfl ?_;have hc2:=hA1.c.upd (c':={ c with vars:=c.vars.set iv v,pt:=t }) rfl rfl;have hB:=hA1.chg hc2 ((Cz _ bc _).more fun i hi=>by simp at hi;simp[hi]);have hOK:CfOk { c with vars:=c.vars.set iv v,pt:=t }:=⟨by simpa using hok.vars,hok.cells,hok.rows⟩
  refine Aw hB.c.box ?_;refine Cd (xs:=E4 { c with vars:=c.vars.set iv v,pt:=t } (.bsl bv c.vars.length) C) (cs':=E4 { c with vars:=c.vars.set iv v,pt:=t } (.bsl bv c.vars.length) C) hB.z2 rfl ?_ (hc:=F3 hB.c.cf);refine E5 (B:=⟨76,_,0,0⟩) func76 (h:=Ef rfl rfl (Et (Aa hB.z2)) rfl) 0 (Bo _) ?_ (fun rows hr=>by simp at hr) ⟨rfl,rfl⟩;exact(hB.c.cf.chg (Cz _ 2 _) fun i hi hi2=>by simp at hi2;have:=hB.ge.2.2.2 i hi;omega).fz hOK
theorem A32(hk:VOk n c){inp:List Int}{i:Nat}{f t t2:Int}{y:Bool}{s:List UInt8}{a b:Nd}(hA:SpS n S bc le V C ids c ⟨f,t,2,y,.mk 22 s 0 [a,b]⟩)(hs:Ey 0 (Ax n 32) s≥0)(ha:FE a)(ka:E9 (Ax n 31) (Ax n 32) a=true)(hb':FE b)(kb:E9 (Ax n 31) (Ax n 32) b=true) :
 SpA n S bc le inp i (H5 i t t2 (Ry n inp c 2 y (.mk 22 s 0 [a,b]))):=by
 have hok:=hk.ok;obtain⟨iv,r,h1,h2,h3,h4⟩:=hk.row hs;have kl:=hk.kl;have hd1:=H3 n 32;have hq:=Uo (Ax n 32) s (by omega);rw[h1]at hq;have hiv:=Aa h2;have hpv:=Sr n c hk ha ka 0;have hpw:=Sr n c hk hb' kb (C6 n c a 0).2.2;have okP:Ok 0 0 (.agg (Kk n)):=(inferInstance:OK 0 0 (.agg (Kk n))).ok;have hvt:=Xv n c ha 0;have hvw:=Xv n c hb' (C6 n c a 0).2.2;have e0:Ry n inp c 2 y (.mk 22 s 0 [a,b])=Nv n c [a,b] fun i v d=>if Bl i 0 (((Xo n c s).length:Int)-1)=true then(Ah9 n c s i v,0,d,true)else(c,1,d,true):=rfl;rw[e0];unfold Nv;simp only;rw[h3];rcases hv:C6 n c a 0 with⟨v,tt,d1⟩
 rw[hv]at hpv hvt hpw hvw;simp only at hvt hpw hvw⊢;rcases hv2:C6 n c b d1 with⟨v2,tt2,d2⟩
 rw[hv2]at hpw hvw;simp only at hvw⊢;refine D3 ?_;refine Bq 60 rfl ?_;refine Aw hA.e ?_;refine Bs ?_;refine Dm ?_;refine C8 0 (by kernel_rfl) ?_;refine A0 (Aq hA.z0) ?_
 iterate 2 refine Ar ?_
 refine A0 (Aq hA.e) ?_;refine Ek (fun S'=>Cu rfl rfl rfl rfl rfl rfl rfl rfl rfl (by decide) (Am (l:=[a,b]) (i:=0) rfl)) ?_;refine Ar ?_;refine A0 (Aq hA.c.box) ?_
 iterate 0 refine Ar ?_
 refine A0 (Px hpv (.cons (.same _ okP) (.cons (.same _ (inferInstance:OK 0 0 (nd a)).ok) (.cons (hA.c.cf.fz hok) (.cons (.same _ (.val _)) .nil)))) (Tb _)) ?_
 iterate 7 refine Ar ?_
 refine Gn ?_;refine F4 (fun g=>?_) (fun g=>?_)
 ·have gt:¬tt=0:=by simpa using(show (tt != 0)=true from g)
  rw[if_neg gt];have e1:H5 i t t2 (c,tt,d1,true)={ c with trap:=tt,edge:=(i:Int),acc:=d1 }:=by unfold H5;rw[if_neg gt,if_neg (by simp only;omega)]
  rw[e1];refine Aw hA.c.box ?_;refine Gz (O5 hA.c.cf (tt) i (d1)) ?_;intro r W hP _ _;obtain⟨rfl,htW,mW,hmW⟩:=hP;have hW:=hA.more hmW;have hc2:cellsOf (.agg (E4 { c with trap:=tt,edge:=(i:Int),acc:=d1 } V C))=some (E4 { c with trap:=tt,edge:=(i:Int),acc:=d1 } V C):=by
   rcases hA.c.cf.shapes with⟨⟨v1,v2,rfl⟩|⟨v1,rfl⟩,⟨c1,c2,rfl⟩|⟨c1,rfl⟩⟩<;>rfl
  refine Bq 60 rfl ?_;refine Cd (xs:=E4 { c with trap:=tt,edge:=(i:Int),acc:=d1 } V C) (cs':=E4 { c with trap:=tt,edge:=(i:Int),acc:=d1 } V C) hW.z2 rfl ?_ (hc:=hc2);refine E5 (B:=⟨76,_,0,0⟩) func76 (h:=Ef rfl rfl (Et (Aa hW.z2)) rfl) 0 (Bo _) ?_ (fun rows hr=>by simp at hr) ⟨rfl,rfl⟩;have hcf:=hW.c.cf.chg (Cz W.boxes 2 [E4 { c with trap:=tt,edge:=(i:Int),acc:=d1 } V C]) fun i hi hi2=>by simp at hi2;have:=hW.ge.2.2.2 i hi;omega
  obtain⟨V',C',ys,q1,q2,q3,q4,q5,q6,q7⟩:=hcf.ex;simp only[AV.agg.injEq,List.cons.injEq,and_true,true_and]at q1;obtain⟨rfl,rfl⟩:=q1;have hfz:=CfB.fz (S:=⟨W.boxes.set 2 [E4 { c with trap:=tt,edge:=(i:Int),acc:=d1 } V C],W.toks⟩) (ids:=ids) (c:={ c with trap:=tt,edge:=(i:Int),acc:=d1 }) ⟨V,C,ys,rfl,q2,q3,q4,q5,q6,q7⟩ ⟨hok.vars,hok.cells,hok.rows⟩;exact hfz
 have gt:tt=0:=by simpa using(show (tt != 0)=false from g)
 rw[if_pos gt];refine C8 0 (by kernel_rfl) ?_;refine A0 (Aq hA.z0) ?_
 iterate 2 refine Ar ?_
 refine A0 (Aq hA.e) ?_;refine Ek (fun S'=>Cu rfl rfl rfl rfl rfl rfl rfl rfl rfl (by decide) (Am (l:=[a,b]) (i:=1) rfl)) ?_;refine Ar ?_;refine A0 (Aq hA.c.box) ?_
 iterate 1 refine Ar ?_
 refine A0 (Px hpw (.cons (.same _ okP) (.cons (.same _ (inferInstance:OK 0 0 (nd b)).ok) (.cons (hA.c.cf.fz hok) (.cons (.same _ (.val _)) .nil)))) (Tb _)) ?_
 iterate 7 refine Ar ?_
 refine Gn ?_;refine F4 (fun g2=>?_) (fun g2=>?_)
 ·have gt2:¬tt2=0:=by simpa using(show (tt2 != 0)=true from g2)
  rw[if_neg gt2];have e1:H5 i t t2 (c,tt2,d2,true)={ c with trap:=tt2,edge:=(i:Int),acc:=d2 }:=by unfold H5;rw[if_neg gt2,if_neg (by simp only;omega)]
  rw[e1];refine Aw hA.c.box ?_;refine Gz (O5 hA.c.cf (tt2) i (d2)) ?_;intro r W hP _ _;obtain⟨rfl,htW,mW,hmW⟩:=hP;have hW:=hA.more hmW;have hc2:cellsOf (.agg (E4 { c with trap:=tt2,edge:=(i:Int),acc:=d2 } V C))=some (E4 { c with trap:=tt2,edge:=(i:Int),acc:=d2 } V C):=by
   rcases hA.c.cf.shapes with⟨⟨v1,v2,rfl⟩|⟨v1,rfl⟩,⟨c1,c2,rfl⟩|⟨c1,rfl⟩⟩<;>rfl
  refine Bq 60 rfl ?_;refine Cd (xs:=E4 { c with trap:=tt2,edge:=(i:Int),acc:=d2 } V C) (cs':=E4 { c with trap:=tt2,edge:=(i:Int),acc:=d2 } V C) hW.z2 rfl ?_ (hc:=hc2);refine E5 (B:=⟨76,_,0,0⟩) func76 (h:=Ef rfl rfl (Et (Aa hW.z2)) rfl) 0 (Bo _) ?_ (fun rows hr=>by simp at hr) ⟨rfl,rfl⟩;have hcf:=hW.c.cf.chg (Cz W.boxes 2 [E4 { c with trap:=tt2,edge:=(i:Int),acc:=d2 } V C]) fun i hi hi2=>by simp at hi2;have:=hW.ge.2.2.2 i hi;omega
  obtain⟨V',C',ys,q1,q2,q3,q4,q5,q6,q7⟩:=hcf.ex;simp only[AV.agg.injEq,List.cons.injEq,and_true,true_and]at q1;obtain⟨rfl,rfl⟩:=q1;have hfz:=CfB.fz (S:=⟨W.boxes.set 2 [E4 { c with trap:=tt2,edge:=(i:Int),acc:=d2 } V C],W.toks⟩) (ids:=ids) (c:={ c with trap:=tt2,edge:=(i:Int),acc:=d2 }) ⟨V,C,ys,rfl,q2,q3,q4,q5,q6,q7⟩ ⟨hok.vars,hok.cells,hok.rows⟩;exact hfz
 have gt2:tt2=0:=by simpa using(show (tt2 != 0)=false from g2)
 rw[if_pos gt2];have e1:H5 i t t2 (c,1,d2,true)={ c with trap:=1,edge:=(i:Int),acc:=d2 }:=by unfold H5;rw[if_neg (by simp),if_neg (by simp)]
 obtain⟨bb,ys,ex,yy,hC,hyl,hb,hyy,hrow,hsl⟩:=hA.c.row h2;have hw1:IntKind.i64.wrap ((r.length:Int)-1)=(r.length:Int)-1:=Ac (by omega) (by omega);subst hC;rcases hsl with⟨b2,ex2,rfl,hb2⟩|⟨hemp,sp,rfl⟩
 ·rw[Il]at hyy hrow;refine Aw hA.z0 ?_;refine Aw hA.e ?_;refine G8 hq ?_;refine Aw hA.c.box ?_;refine Lm iv hiv hb hrow rfl ?_;refine Lo hb hrow ?_;refine G8 (H2 v 0 (IntKind.i64.wrap ((r.length:Int)-1))) ?_;rw[hw1];refine F4 (fun g3=>?_) (fun g3=>?_)
  ·have g3':Bl v 0 ((r.length:Int)-1)=false:=by simpa using g3
   rw[g3',if_neg (by decide),e1];generalize hCC:AV.bsl bb c.cells.length=C at *;refine Aw hA.c.box ?_;refine Gz (O5 hA.c.cf (1) i (d2)) ?_;intro r W hP _ _;obtain⟨rfl,htW,mW,hmW⟩:=hP;have hW:=hA.more hmW;have hc2:cellsOf (.agg (E4 { c with trap:=1,edge:=(i:Int),acc:=d2 } V C))=some (E4 { c with trap:=1,edge:=(i:Int),acc:=d2 } V C):=by
    rcases hA.c.cf.shapes with⟨⟨v1,v2,rfl⟩|⟨v1,rfl⟩,⟨c1,c2,rfl⟩|⟨c1,rfl⟩⟩<;>rfl
   refine Bq 60 rfl ?_;refine Cd (xs:=E4 { c with trap:=1,edge:=(i:Int),acc:=d2 } V C) (cs':=E4 { c with trap:=1,edge:=(i:Int),acc:=d2 } V C) hW.z2 rfl ?_ (hc:=hc2);refine E5 (B:=⟨76,_,0,0⟩) func76 (h:=Ef rfl rfl (Et (Aa hW.z2)) rfl) 0 (Bo _) ?_ (fun rows hr=>by simp at hr) ⟨rfl,rfl⟩;have hcf:=hW.c.cf.chg (Cz W.boxes 2 [E4 { c with trap:=1,edge:=(i:Int),acc:=d2 } V C]) fun i hi hi2=>by simp at hi2;have:=hW.ge.2.2.2 i hi;omega
   obtain⟨V',C',ys,q1,q2,q3,q4,q5,q6,q7⟩:=hcf.ex;simp only[AV.agg.injEq,List.cons.injEq,and_true,true_and]at q1;obtain⟨rfl,rfl⟩:=q1;have hfz:=CfB.fz (S:=⟨W.boxes.set 2 [E4 { c with trap:=1,edge:=(i:Int),acc:=d2 } V C],W.toks⟩) (ids:=ids) (c:={ c with trap:=1,edge:=(i:Int),acc:=d2 }) ⟨V,C,ys,rfl,q2,q3,q4,q5,q6,q7⟩ ⟨hok.vars,hok.cells,hok.rows⟩;exact hfz
  ·have g3':Bl v 0 ((r.length:Int)-1)=true:=by simpa using g3
   rw[g3',if_pos rfl];have hb1:=Cj.1 g3';obtain⟨jj,rfl⟩:∃jj:Nat,v=jj:=⟨v.toNat,by omega⟩
   have hjl:jj<r.length:=by omega
   obtain⟨z,hz⟩:=Ab r hjl;have hrow2:(Rh r++ex2)[jj]?=some (Wi z):=by rw[Cr (by rw[Il];exact hjl)];exact Gf (f:=Wi) hz
   obtain⟨_,hwr,hch⟩:=hA.c.wrC v2 h2 hjl rfl hyl hb hyy hb2;have hA1:=hA.chg hwr (hch.more fun i hi=>by simp[hi]);have e2:H5 i t t2 (Ah9 n c s (jj:Int) v2,0,d2,true)={ c with cells:=c.cells.set iv (r.set jj (true,v2)),pt:=t }:=by
    unfold H5 Ah9;rw[h1,h3];rfl
   rw[e2];refine Aw hA.c.box ?_;refine Lm iv hiv hb hrow rfl ?_;refine Lo hb hrow ?_;refine Lm jj hjl hb2 hrow2 rfl ?_;refine Rk hb2 hrow2 rfl ?_;refine Aw hA1.e ?_;refine Cd hA1.c.box rfl ?_;have hc2:=hA1.c.upd (c':={ c with cells:=c.cells.set iv (r.set jj (true,v2)),pt:=t }) rfl rfl;have hB:=hA1.chg hc2 ((Cz _ bc _).more fun i hi=>by simp at hi;simp[hi]);have hOK:CfOk { c with cells:=c.cells.set iv (r.set jj (true,v2)),pt:=t }:=⟨hok.vars,by simpa using hok.cells,fun x hx=>by
    rcases Wr hx with hx|rfl
    ·exact hok.rows x hx
    ·rw[Abk];omega⟩
   refine Aw hB.c.box ?_;refine Cd (xs:=E4 ({ c with cells:=c.cells.set iv (r.set jj (true,v2)),pt:=t }) (V) (.bsl bb c.cells.length)) (cs':=E4 ({ c with cells:=c.cells.set iv (r.set jj (true,v2)),pt:=t }) (V) (.bsl bb c.cells.length)) hB.z2 rfl ?_ (hc:=F3 hB.c.cf);refine E5 (B:=⟨76,_,0,0⟩) func76 (h:=Ef rfl rfl (Et (Aa hB.z2)) rfl) 0 (Bo _) ?_ (fun rows hr=>by simp at hr) ⟨rfl,rfl⟩;exact(hB.c.cf.chg (Cz _ 2 _) fun i hi hi2=>by simp at hi2;have:=hB.ge.2.2.2 i hi;omega).fz hOK
 ·have h0:r=[]:=by cases r with|nil=>rfl|cons a l=>simp[Rh]at hemp
  subst h0;refine Aw hA.z0 ?_;refine Aw hA.e ?_;refine G8 hq ?_;refine Aw hA.c.box ?_;refine Lm iv hiv hb hrow rfl ?_;refine Lo hb hrow ?_;refine G8 (H2 v 0 (IntKind.i64.wrap (((([]:List (Bool×Int)).length:Nat):Int)-1))) ?_;rw[hw1];refine F4 (fun g3=>?_) (fun g3=>?_)
  ·have g3':Bl v 0 (((([]:List (Bool×Int)).length:Nat):Int)-1)=false:=by simpa using g3
   rw[g3',if_neg (by decide),e1];generalize hCC:AV.bsl bb c.cells.length=C at *;refine Aw hA.c.box ?_;refine Gz (O5 hA.c.cf (1) i (d2)) ?_;intro r W hP _ _;obtain⟨rfl,htW,mW,hmW⟩:=hP;have hW:=hA.more hmW;have hc2:cellsOf (.agg (E4 { c with trap:=1,edge:=(i:Int),acc:=d2 } V C))=some (E4 { c with trap:=1,edge:=(i:Int),acc:=d2 } V C):=by
    rcases hA.c.cf.shapes with⟨⟨v1,v2,rfl⟩|⟨v1,rfl⟩,⟨c1,c2,rfl⟩|⟨c1,rfl⟩⟩<;>rfl
   refine Bq 60 rfl ?_;refine Cd (xs:=E4 { c with trap:=1,edge:=(i:Int),acc:=d2 } V C) (cs':=E4 { c with trap:=1,edge:=(i:Int),acc:=d2 } V C) hW.z2 rfl ?_ (hc:=hc2);refine E5 (B:=⟨76,_,0,0⟩) func76 (h:=Ef rfl rfl (Et (Aa hW.z2)) rfl) 0 (Bo _) ?_ (fun rows hr=>by simp at hr) ⟨rfl,rfl⟩;have hcf:=hW.c.cf.chg (Cz W.boxes 2 [E4 { c with trap:=1,edge:=(i:Int),acc:=d2 } V C]) fun i hi hi2=>by simp at hi2;have:=hW.ge.2.2.2 i hi;omega
   obtain⟨V',C',ys,q1,q2,q3,q4,q5,q6,q7⟩:=hcf.ex;simp only[AV.agg.injEq,List.cons.injEq,and_true,true_and]at q1;obtain⟨rfl,rfl⟩:=q1;have hfz:=CfB.fz (S:=⟨W.boxes.set 2 [E4 { c with trap:=1,edge:=(i:Int),acc:=d2 } V C],W.toks⟩) (ids:=ids) (c:={ c with trap:=1,edge:=(i:Int),acc:=d2 }) ⟨V,C,ys,rfl,q2,q3,q4,q5,q6,q7⟩ ⟨hok.vars,hok.cells,hok.rows⟩;exact hfz
  ·have g3':Bl v 0 (((([]:List (Bool×Int)).length:Nat):Int)-1)=true:=by simpa using g3
   have:=Cj.1 g3';simp only[Ww]at this;omega
theorem A17(hk:VOk n c){inp:List Int}(hu:0≤c.used∧c.used≤100){i:Nat}{f t t2:Int}{y:Bool}{s:List UInt8}(hA:SpS n S bc le V C ids c ⟨f,t,3,y,.mk 23 s 0 []⟩)(hs:Ey 0 (Ax n 31) s≥0):SpA n S bc le inp i (H5 i t t2 (Ry n inp c 3 y (.mk 23 s 0 []))):=by
 have hok:=hk.ok;obtain⟨iv,v0,h1,h2,_⟩:=hk.var hs;have kl:=hk.kl;have hd1:=H3 n 31;have hq:=Uo (Ax n 31) s (by omega);rw[h1]at hq;have hiv:=Aa h2;have hil:=C2 inp;have e0:Ry n inp c 3 y (.mk 23 s 0 [])=if (inp.length:Int)≤c.used then(c,5,0,true)else({ We n c s (inp.getD c.used.toNat 0)with used:=c.used+1 },0,0,true):=rfl;rw[e0];refine D3 ?_;refine Bq 60 rfl ?_;refine Aw hA.e ?_
 iterate 2 refine Bs ?_
 refine Dm ?_;refine Aw hA.c.box ?_;refine F4 (fun g=>?_) (fun g=>?_)
 ·have g':(inp.length:Int)≤c.used:=by have:=A7 g;rw[hil]at this;exact this
  rw[if_pos g'];have e1:H5 i t t2 (c,5,0,true)={ c with trap:=5,edge:=(i:Int),acc:=0 }:=by unfold H5;rw[if_neg (by simp),if_pos (by simp)]
  rw[e1];refine Aw hA.c.box ?_;refine Gz (O5 hA.c.cf (5) i (0)) ?_;intro r W hP _ _;obtain⟨rfl,htW,mW,hmW⟩:=hP;have hW:=hA.more hmW;have hc2:cellsOf (.agg (E4 { c with trap:=5,edge:=(i:Int),acc:=0 } V C))=some (E4 { c with trap:=5,edge:=(i:Int),acc:=0 } V C):=by
   rcases hA.c.cf.shapes with⟨⟨v1,v2,rfl⟩|⟨v1,rfl⟩,⟨c1,c2,rfl⟩|⟨c1,rfl⟩⟩<;>rfl
  refine Bq 60 rfl ?_;refine Cd (xs:=E4 { c with trap:=5,edge:=(i:Int),acc:=0 } V C) (cs':=E4 { c with trap:=5,edge:=(i:Int),acc:=0 } V C) hW.z2 rfl ?_ (hc:=hc2);refine E5 (B:=⟨76,_,0,0⟩) func76 (h:=Ef rfl rfl (Et (Aa hW.z2)) rfl) 0 (Bo _) ?_ (fun rows hr=>by simp at hr) ⟨rfl,rfl⟩;have hcf:=hW.c.cf.chg (Cz W.boxes 2 [E4 { c with trap:=5,edge:=(i:Int),acc:=0 } V C]) fun i hi hi2=>by simp at hi2;have:=hW.ge.2.2.2 i hi;omega
  obtain⟨V',C',ys,q1,q2,q3,q4,q5,q6,q7⟩:=hcf.ex;simp only[AV.agg.injEq,List.cons.injEq,and_true,true_and]at q1;obtain⟨rfl,rfl⟩:=q1;have hfz:=CfB.fz (S:=⟨W.boxes.set 2 [E4 { c with trap:=5,edge:=(i:Int),acc:=0 } V C],W.toks⟩) (ids:=ids) (c:={ c with trap:=5,edge:=(i:Int),acc:=0 }) ⟨V,C,ys,rfl,q2,q3,q4,q5,q6,q7⟩ ⟨hok.vars,hok.cells,hok.rows⟩;exact hfz
 ·have g':¬(inp.length:Int)≤c.used:=by have:=Bd g;rw[hil]at this;exact this
  rw[if_neg g'];obtain⟨un,hun⟩:∃un:Nat,c.used=un:=⟨c.used.toNat,by omega⟩
  obtain⟨w,hw⟩:=Ab inp (i:=un) (by omega);have hw1:IntKind.i64.wrap (c.used+1)=c.used+1:=Ac (by omega) (by omega);have e1:H5 i t t2 ({ We n c s (inp.getD c.used.toNat 0)with used:=c.used+1 },0,0,true)={ c with vars:=c.vars.set iv w,used:=IntKind.i64.wrap (c.used+1),pt:=t }:=by
   unfold H5 We;rw[h1,Hc,hun,Hc,Aie,hw,←hun,hw1];rfl
  rw[e1];obtain⟨bv,ex,hV,hb,hrow⟩:=hA.c.vars h2;obtain⟨hwr,hch⟩:=hA.c.wrV w hiv hV hb;have hA1:=hA.chg hwr (hch.more fun i hi=>by simp[hi]);subst hV;refine C8 16384 (by kernel_rfl) ?_;refine Ar ?_;refine A0 (Aq hA.c.box) ?_;refine Ar ?_;refine A0 (Aq hA.z0) ?_
  iterate 2 refine Ar ?_
  refine A0 (Aq hA.e) ?_;refine Ja hq ?_
  iterate 2 refine Ar ?_
  refine A0 (Aq hA.c.box) ?_;refine Ek (fun S'=>Cu rfl rfl rfl rfl rfl rfl rfl rfl rfl hu.1 (by rw[hun,Hc];exact Za hw)) ?_;refine Ar ?_;refine A0 (F8 (hj:=by simpa[Fs]using hiv) (hb:=hb) (hr:=hrow) (hl:=rfl)) ?_;refine Ch (Jw hb hrow rfl) ?_;refine Gn ?_;refine Aw hA1.c.box ?_;refine Cd hA1.c.box rfl ?_;have hc2:=hA1.c.upd (c':={ c with vars:=c.vars.set iv w,used:=IntKind.i64.wrap (c.used+1) }) rfl rfl;have hA2:=hA1.chg hc2 ((Cz _ bc _).more fun i hi=>by simp at hi;simp[hi]);refine Aw hA2.e ?_;refine Cd hA2.c.box rfl ?_;have hc3:=hA2.c.upd (c':={ c with vars:=c.vars.set iv w,used:=IntKind.i64.wrap (c.used+1),pt:=t }) rfl rfl;have hB:=hA2.chg hc3 ((Cz _ bc _).more fun i hi=>by simp at hi;simp[hi]);have hOK:CfOk { c with vars:=c.vars.set iv w,used:=IntKind.i64.wrap (c.used+1),pt:=t }:=⟨by simpa using hok.vars,hok.cells,hok.rows⟩
  refine Aw hB.c.box ?_;refine Cd (xs:=E4 ({ c with vars:=c.vars.set iv w,used:=IntKind.i64.wrap (c.used+1),pt:=t }) (.bsl bv c.vars.length) (C)) (cs':=E4 ({ c with vars:=c.vars.set iv w,used:=IntKind.i64.wrap (c.used+1),pt:=t }) (.bsl bv c.vars.length) (C)) hB.z2 rfl ?_ (hc:=F3 hB.c.cf);refine E5 (B:=⟨76,_,0,0⟩) func76 (h:=Ef rfl rfl (Et (Aa hB.z2)) rfl) 0 (Bo _) ?_ (fun rows hr=>by simp at hr) ⟨rfl,rfl⟩;exact(hB.c.cf.chg (Cz _ 2 _) fun i hi hi2=>by simp at hi2;have:=hB.ge.2.2.2 i hi;omega).fz hOK
theorem SpS.setE{e:Eg}(h:SpS n S bc le V C ids c e)(e':Eg):SpS n ⟨S.boxes.set le [H4 e'],S.toks⟩ bc le V C ids c e':=by
 have hg:=h.ge;exact⟨by rw[Fj (by omega)];exact h.z0,by rw[Fj (by omega)];exact h.z2,h.c.chg (Cz S.boxes le _) (by simp;omega) fun i hi hi2=>by simp at hi2;have:=hg.2.2.2 i hi;omega,Et (Aa h.e),hg⟩
theorem Ays(hk:VOk n c){inp:List Int}{i:Nat}{f t t2:Int}{y:Bool}{x:Nd}(hA:SpS n S bc le V C ids c ⟨f,t,5,y,x⟩)(hx:FC x)(kx:E9 (Ax n 31) (Ax n 32) x=true):SpA n S bc le inp i (H5 i t t2 (Ry n inp c 5 y x)):=by
 have hok:=hk.ok;cases hx with
 |mk k a b h0 h1 ha hb=>
 obtain⟨n1,n2⟩:=Aab kx;have hpv:=Sr n c hk ha n1 0;have hpw:=Sr n c hk hb n2 (C6 n c a 0).2.2;have okP:Ok 0 0 (.agg (Kk n)):=(inferInstance:OK 0 0 (.agg (Kk n))).ok;have hvt:=Xv n c ha 0;have hvw:=Xv n c hb (C6 n c a 0).2.2;have e0:Ry n inp c 5 y (.mk k [] 0 [a,b])=Nv n c [a,b] fun a b d=>if Ox k a b=true then(c,0,d,true)else(c,4,0,true):=rfl;rw[e0];unfold Nv;simp only;rcases hv:C6 n c a 0 with⟨v,tt,d1⟩
 rw[hv]at hpv hvt hpw hvw;simp only at hvt hpw hvw⊢;rcases hv2:C6 n c b d1 with⟨v2,tt2,d2⟩
 rw[hv2]at hpw hvw;simp only at hvw⊢;refine D3 ?_;refine Bq 60 rfl ?_;refine Aw hA.e ?_
 iterate 3 refine Bs ?_
 refine Bs ?_;refine Dm ?_;refine C8 0 (by kernel_rfl) ?_;refine A0 (Aq hA.z0) ?_
 iterate 2 refine Ar ?_
 refine A0 (Aq hA.e) ?_;refine Ek (fun S'=>Cu rfl rfl rfl rfl rfl rfl rfl rfl rfl (by decide) (Am (l:=[a,b]) (i:=0) rfl)) ?_;refine Ar ?_;refine A0 (Aq hA.c.box) ?_
 iterate 0 refine Ar ?_
 refine A0 (Px hpv (.cons (.same _ okP) (.cons (.same _ (inferInstance:OK 0 0 (nd a)).ok) (.cons (hA.c.cf.fz hok) (.cons (.same _ (.val _)) .nil)))) (Tb _)) ?_
 iterate 7 refine Ar ?_
 refine Gn ?_;refine F4 (fun g=>?_) (fun g=>?_)
 ·have gt:¬tt=0:=by simpa using(show (tt != 0)=true from g)
  rw[if_neg gt];have e1:H5 i t t2 (c,tt,d1,true)={ c with trap:=tt,edge:=(i:Int),acc:=d1 }:=by unfold H5;rw[if_neg gt,if_neg (by simp only;omega)]
  rw[e1];refine Aw hA.c.box ?_;refine Gz (O5 hA.c.cf (tt) i (d1)) ?_;intro r W hP _ _;obtain⟨rfl,htW,mW,hmW⟩:=hP;have hW:=hA.more hmW;have hc2:cellsOf (.agg (E4 { c with trap:=tt,edge:=(i:Int),acc:=d1 } V C))=some (E4 { c with trap:=tt,edge:=(i:Int),acc:=d1 } V C):=by
   rcases hA.c.cf.shapes with⟨⟨v1,v2,rfl⟩|⟨v1,rfl⟩,⟨c1,c2,rfl⟩|⟨c1,rfl⟩⟩<;>rfl
  refine Bq 60 rfl ?_;refine Cd (xs:=E4 { c with trap:=tt,edge:=(i:Int),acc:=d1 } V C) (cs':=E4 { c with trap:=tt,edge:=(i:Int),acc:=d1 } V C) hW.z2 rfl ?_ (hc:=hc2);refine E5 (B:=⟨76,_,0,0⟩) func76 (h:=Ef rfl rfl (Et (Aa hW.z2)) rfl) 0 (Bo _) ?_ (fun rows hr=>by simp at hr) ⟨rfl,rfl⟩;have hcf:=hW.c.cf.chg (Cz W.boxes 2 [E4 { c with trap:=tt,edge:=(i:Int),acc:=d1 } V C]) fun i hi hi2=>by simp at hi2;have:=hW.ge.2.2.2 i hi;omega
  obtain⟨V',C',ys,q1,q2,q3,q4,q5,q6,q7⟩:=hcf.ex;simp only[AV.agg.injEq,List.cons.injEq,and_true,true_and]at q1;obtain⟨rfl,rfl⟩:=q1;have hfz:=CfB.fz (S:=⟨W.boxes.set 2 [E4 { c with trap:=tt,edge:=(i:Int),acc:=d1 } V C],W.toks⟩) (ids:=ids) (c:={ c with trap:=tt,edge:=(i:Int),acc:=d1 }) ⟨V,C,ys,rfl,q2,q3,q4,q5,q6,q7⟩ ⟨hok.vars,hok.cells,hok.rows⟩;exact hfz
 have gt:tt=0:=by simpa using(show (tt != 0)=false from g)
 rw[if_pos gt];refine C8 0 (by kernel_rfl) ?_;refine A0 (Aq hA.z0) ?_
 iterate 2 refine Ar ?_
 refine A0 (Aq hA.e) ?_;refine Ek (fun S'=>Cu rfl rfl rfl rfl rfl rfl rfl rfl rfl (by decide) (Am (l:=[a,b]) (i:=1) rfl)) ?_;refine Ar ?_;refine A0 (Aq hA.c.box) ?_
 iterate 1 refine Ar ?_
 refine A0 (Px hpw (.cons (.same _ okP) (.cons (.same _ (inferInstance:OK 0 0 (nd b)).ok) (.cons (hA.c.cf.fz hok) (.cons (.same _ (.val _)) .nil)))) (Tb _)) ?_
 iterate 7 refine Ar ?_
 refine Gn ?_;refine F4 (fun g2=>?_) (fun g2=>?_)
 ·have gt2:¬tt2=0:=by simpa using(show (tt2 != 0)=true from g2)
  rw[if_neg gt2];have e1:H5 i t t2 (c,tt2,d2,true)={ c with trap:=tt2,edge:=(i:Int),acc:=d2 }:=by unfold H5;rw[if_neg gt2,if_neg (by simp only;omega)]
  rw[e1];refine Aw hA.c.box ?_;refine Gz (O5 hA.c.cf (tt2) i (d2)) ?_;intro r W hP _ _;obtain⟨rfl,htW,mW,hmW⟩:=hP;have hW:=hA.more hmW;have hc2:cellsOf (.agg (E4 { c with trap:=tt2,edge:=(i:Int),acc:=d2 } V C))=some (E4 { c with trap:=tt2,edge:=(i:Int),acc:=d2 } V C):=by
   rcases hA.c.cf.shapes with⟨⟨v1,v2,rfl⟩|⟨v1,rfl⟩,⟨c1,c2,rfl⟩|⟨c1,rfl⟩⟩<;>rfl
  refine Bq 60 rfl ?_;refine Cd (xs:=E4 { c with trap:=tt2,edge:=(i:Int),acc:=d2 } V C) (cs':=E4 { c with trap:=tt2,edge:=(i:Int),acc:=d2 } V C) hW.z2 rfl ?_ (hc:=hc2);refine E5 (B:=⟨76,_,0,0⟩) func76 (h:=Ef rfl rfl (Et (Aa hW.z2)) rfl) 0 (Bo _) ?_ (fun rows hr=>by simp at hr) ⟨rfl,rfl⟩;have hcf:=hW.c.cf.chg (Cz W.boxes 2 [E4 { c with trap:=tt2,edge:=(i:Int),acc:=d2 } V C]) fun i hi hi2=>by simp at hi2;have:=hW.ge.2.2.2 i hi;omega
  obtain⟨V',C',ys,q1,q2,q3,q4,q5,q6,q7⟩:=hcf.ex;simp only[AV.agg.injEq,List.cons.injEq,and_true,true_and]at q1;obtain⟨rfl,rfl⟩:=q1;have hfz:=CfB.fz (S:=⟨W.boxes.set 2 [E4 { c with trap:=tt2,edge:=(i:Int),acc:=d2 } V C],W.toks⟩) (ids:=ids) (c:={ c with trap:=tt2,edge:=(i:Int),acc:=d2 }) ⟨V,C,ys,rfl,q2,q3,q4,q5,q6,q7⟩ ⟨hok.vars,hok.cells,hok.rows⟩;exact hfz
 have gt2:tt2=0:=by simpa using(show (tt2 != 0)=false from g2)
 rw[if_pos gt2];refine Aw hA.e ?_;refine G8 (Ajo k v v2 h0 h1) ?_;refine Aw hA.e ?_;refine Om ?_;cases hh:Ox k v v2 with
 |false=>
  refine Dm ?_ (ht:=by simp[hh]);rw[if_neg (by decide)];have e1:H5 i t t2 (c,4,0,true)={ c with trap:=4,edge:=(i:Int),acc:=0 }:=by unfold H5;rw[if_neg (by simp),if_pos (by simp)]
  rw[e1];refine Aw hA.c.box ?_;refine Gz (O5 hA.c.cf (4) i (0)) ?_;intro r W hP _ _;obtain⟨rfl,htW,mW,hmW⟩:=hP;have hW:=hA.more hmW;have hc2:cellsOf (.agg (E4 { c with trap:=4,edge:=(i:Int),acc:=0 } V C))=some (E4 { c with trap:=4,edge:=(i:Int),acc:=0 } V C):=by
   rcases hA.c.cf.shapes with⟨⟨v1,v2,rfl⟩|⟨v1,rfl⟩,⟨c1,c2,rfl⟩|⟨c1,rfl⟩⟩<;>rfl
  refine Bq 60 rfl ?_;refine Cd (xs:=E4 { c with trap:=4,edge:=(i:Int),acc:=0 } V C) (cs':=E4 { c with trap:=4,edge:=(i:Int),acc:=0 } V C) hW.z2 rfl ?_ (hc:=hc2);refine E5 (B:=⟨76,_,0,0⟩) func76 (h:=Ef rfl rfl (Et (Aa hW.z2)) rfl) 0 (Bo _) ?_ (fun rows hr=>by simp at hr) ⟨rfl,rfl⟩;have hcf:=hW.c.cf.chg (Cz W.boxes 2 [E4 { c with trap:=4,edge:=(i:Int),acc:=0 } V C]) fun i hi hi2=>by simp at hi2;have:=hW.ge.2.2.2 i hi;omega
  obtain⟨V',C',ys,q1,q2,q3,q4,q5,q6,q7⟩:=hcf.ex;simp only[AV.agg.injEq,List.cons.injEq,and_true,true_and]at q1;obtain⟨rfl,rfl⟩:=q1;have hfz:=CfB.fz (S:=⟨W.boxes.set 2 [E4 { c with trap:=4,edge:=(i:Int),acc:=0 } V C],W.toks⟩) (ids:=ids) (c:={ c with trap:=4,edge:=(i:Int),acc:=0 }) ⟨V,C,ys,rfl,q2,q3,q4,q5,q6,q7⟩ ⟨hok.vars,hok.cells,hok.rows⟩;exact hfz
 |true=>
  refine Bs ?_ (ht:=by simp[hh]);rw[if_pos rfl];have e1:H5 i t t2 (c,0,d2,true)={ c with pt:=t }:=by simp[H5]
  rw[e1];refine Aw hA.e ?_;refine Bs ?_;refine Aw hA.e ?_;refine Cd hA.c.box rfl ?_;have hc2:=hA.c.upd (c':={ c with pt:=t }) rfl rfl;have hB:=hA.chg hc2 ((Cz S.boxes bc _).more fun i hi=>by simp at hi;simp[hi]);have hOK:CfOk { c with pt:=t }:=⟨hok.vars,hok.cells,hok.rows⟩
  refine Aw hB.c.box ?_;refine Cd (xs:=E4 ({ c with pt:=t }) (V) (C)) (cs':=E4 ({ c with pt:=t }) (V) (C)) hB.z2 rfl ?_ (hc:=F3 hB.c.cf);refine E5 (B:=⟨76,_,0,0⟩) func76 (h:=Ef rfl rfl (Et (Aa hB.z2)) rfl) 0 (Bo _) ?_ (fun rows hr=>by simp at hr) ⟨rfl,rfl⟩;exact(hB.c.cf.chg (Cz _ 2 _) fun i hi hi2=>by simp at hi2;have:=hB.ge.2.2.2 i hi;omega).fz hOK
theorem Awa{y h:Bool}(g:(y != h)=false):h=y:=by cases y<;>cases h<;>simp at g⊢
theorem A0c{y h:Bool}(g:¬h=y):((!y) != h)=false:=by cases y<;>cases h<;>simp at g⊢
theorem Ayt(hk:VOk n c){inp:List Int}{i j p:Nat}{t t2:Int}{y:Bool}{x:Nd}(hA:SpS n S bc le V C ids c ⟨(p:Int),t,4,y,x⟩)(hx:FC x)(kx:E9 (Ax n 31) (Ax n 32) x=true)(hp:c.pt=(p:Int))(hes:(Lv (A9 n)).length≤2000000)
 (hi:(Lv (A9 n))[i]?=some ⟨(p:Int),t,4,y,x⟩)(hij:i<j)(hj:(Lv (A9 n))[j]?=some ⟨(p:Int),t2,4,!y,x⟩)(hm:∀m,i<m→m<j→∀z,(Lv (A9 n))[m]?=some z→¬z.f=(p:Int)) :
 SpA n S bc le inp i (H5 i t t2 (Ry n inp c 4 y x)):=by
 have hok:=hk.ok;cases hx with
 |mk k a b h0 h1 ha hb=>
 obtain⟨n1,n2⟩:=Aab kx;have hpv:=Sr n c hk ha n1 0;have hpw:=Sr n c hk hb n2 (C6 n c a 0).2.2;have okP:Ok 0 0 (.agg (Kk n)):=(inferInstance:OK 0 0 (.agg (Kk n))).ok;have hvt:=Xv n c ha 0;have hvw:=Xv n c hb (C6 n c a 0).2.2;have e0:Ry n inp c 4 y (.mk k [] 0 [a,b])=Nv n c [a,b] fun a b d=>(c,0,d,Ox k a b==y):=rfl;rw[e0];unfold Nv;simp only;rcases hv:C6 n c a 0 with⟨v,tt,d1⟩
 rw[hv]at hpv hvt hpw hvw;simp only at hvt hpw hvw⊢;rcases hv2:C6 n c b d1 with⟨v2,tt2,d2⟩
 rw[hv2]at hpw hvw;simp only at hvw⊢;refine D3 ?_;refine Bq 60 rfl ?_;refine Aw hA.e ?_
 iterate 3 refine Bs ?_
 refine Dm ?_;refine C8 0 (by kernel_rfl) ?_;refine A0 (Aq hA.z0) ?_
 iterate 2 refine Ar ?_
 refine A0 (Aq hA.e) ?_;refine Ek (fun S'=>Cu rfl rfl rfl rfl rfl rfl rfl rfl rfl (by decide) (Am (l:=[a,b]) (i:=0) rfl)) ?_;refine Ar ?_;refine A0 (Aq hA.c.box) ?_
 iterate 0 refine Ar ?_
 refine A0 (Px hpv (.cons (.same _ okP) (.cons (.same _ (inferInstance:OK 0 0 (nd a)).ok) (.cons (hA.c.cf.fz hok) (.cons (.same _ (.val _)) .nil)))) (Tb _)) ?_
 iterate 7 refine Ar ?_
 refine Gn ?_;refine F4 (fun g=>?_) (fun g=>?_)
 ·have gt:¬tt=0:=by simpa using(show (tt != 0)=true from g)
  rw[if_neg gt];have e1:H5 i t t2 (c,tt,d1,true)={ c with trap:=tt,edge:=(i:Int),acc:=d1 }:=by unfold H5;rw[if_neg gt,if_neg (by simp only;omega)]
  rw[e1];refine Aw hA.c.box ?_;refine Gz (O5 hA.c.cf (tt) i (d1)) ?_;intro r W hP _ _;obtain⟨rfl,htW,mW,hmW⟩:=hP;have hW:=hA.more hmW;have hc2:cellsOf (.agg (E4 { c with trap:=tt,edge:=(i:Int),acc:=d1 } V C))=some (E4 { c with trap:=tt,edge:=(i:Int),acc:=d1 } V C):=by
   rcases hA.c.cf.shapes with⟨⟨v1,v2,rfl⟩|⟨v1,rfl⟩,⟨c1,c2,rfl⟩|⟨c1,rfl⟩⟩<;>rfl
  refine Bq 60 rfl ?_;refine Cd (xs:=E4 { c with trap:=tt,edge:=(i:Int),acc:=d1 } V C) (cs':=E4 { c with trap:=tt,edge:=(i:Int),acc:=d1 } V C) hW.z2 rfl ?_ (hc:=hc2);refine E5 (B:=⟨76,_,0,0⟩) func76 (h:=Ef rfl rfl (Et (Aa hW.z2)) rfl) 0 (Bo _) ?_ (fun rows hr=>by simp at hr) ⟨rfl,rfl⟩;have hcf:=hW.c.cf.chg (Cz W.boxes 2 [E4 { c with trap:=tt,edge:=(i:Int),acc:=d1 } V C]) fun i hi hi2=>by simp at hi2;have:=hW.ge.2.2.2 i hi;omega
  obtain⟨V',C',ys,q1,q2,q3,q4,q5,q6,q7⟩:=hcf.ex;simp only[AV.agg.injEq,List.cons.injEq,and_true,true_and]at q1;obtain⟨rfl,rfl⟩:=q1;have hfz:=CfB.fz (S:=⟨W.boxes.set 2 [E4 { c with trap:=tt,edge:=(i:Int),acc:=d1 } V C],W.toks⟩) (ids:=ids) (c:={ c with trap:=tt,edge:=(i:Int),acc:=d1 }) ⟨V,C,ys,rfl,q2,q3,q4,q5,q6,q7⟩ ⟨hok.vars,hok.cells,hok.rows⟩;exact hfz
 have gt:tt=0:=by simpa using(show (tt != 0)=false from g)
 rw[if_pos gt];refine C8 0 (by kernel_rfl) ?_;refine A0 (Aq hA.z0) ?_
 iterate 2 refine Ar ?_
 refine A0 (Aq hA.e) ?_;refine Ek (fun S'=>Cu rfl rfl rfl rfl rfl rfl rfl rfl rfl (by decide) (Am (l:=[a,b]) (i:=1) rfl)) ?_;refine Ar ?_;refine A0 (Aq hA.c.box) ?_
 iterate 1 refine Ar ?_
 refine A0 (Px hpw (.cons (.same _ okP) (.cons (.same _ (inferInstance:OK 0 0 (nd b)).ok) (.cons (hA.c.cf.fz hok) (.cons (.same _ (.val _)) .nil)))) (Tb _)) ?_
 iterate 7 refine Ar ?_
 refine Gn ?_;refine F4 (fun g2=>?_) (fun g2=>?_)
 ·have gt2:¬tt2=0:=by simpa using(show (tt2 != 0)=true from g2)
  rw[if_neg gt2];have e1:H5 i t t2 (c,tt2,d2,true)={ c with trap:=tt2,edge:=(i:Int),acc:=d2 }:=by unfold H5;rw[if_neg gt2,if_neg (by simp only;omega)]
  rw[e1];refine Aw hA.c.box ?_;refine Gz (O5 hA.c.cf (tt2) i (d2)) ?_;intro r W hP _ _;obtain⟨rfl,htW,mW,hmW⟩:=hP;have hW:=hA.more hmW;have hc2:cellsOf (.agg (E4 { c with trap:=tt2,edge:=(i:Int),acc:=d2 } V C))=some (E4 { c with trap:=tt2,edge:=(i:Int),acc:=d2 } V C):=by
   rcases hA.c.cf.shapes with⟨⟨v1,v2,rfl⟩|⟨v1,rfl⟩,⟨c1,c2,rfl⟩|⟨c1,rfl⟩⟩<;>rfl
  refine Bq 60 rfl ?_;refine Cd (xs:=E4 { c with trap:=tt2,edge:=(i:Int),acc:=d2 } V C) (cs':=E4 { c with trap:=tt2,edge:=(i:Int),acc:=d2 } V C) hW.z2 rfl ?_ (hc:=hc2);refine E5 (B:=⟨76,_,0,0⟩) func76 (h:=Ef rfl rfl (Et (Aa hW.z2)) rfl) 0 (Bo _) ?_ (fun rows hr=>by simp at hr) ⟨rfl,rfl⟩;have hcf:=hW.c.cf.chg (Cz W.boxes 2 [E4 { c with trap:=tt2,edge:=(i:Int),acc:=d2 } V C]) fun i hi hi2=>by simp at hi2;have:=hW.ge.2.2.2 i hi;omega
  obtain⟨V',C',ys,q1,q2,q3,q4,q5,q6,q7⟩:=hcf.ex;simp only[AV.agg.injEq,List.cons.injEq,and_true,true_and]at q1;obtain⟨rfl,rfl⟩:=q1;have hfz:=CfB.fz (S:=⟨W.boxes.set 2 [E4 { c with trap:=tt2,edge:=(i:Int),acc:=d2 } V C],W.toks⟩) (ids:=ids) (c:={ c with trap:=tt2,edge:=(i:Int),acc:=d2 }) ⟨V,C,ys,rfl,q2,q3,q4,q5,q6,q7⟩ ⟨hok.vars,hok.cells,hok.rows⟩;exact hfz
 have gt2:tt2=0:=by simpa using(show (tt2 != 0)=false from g2)
 rw[if_pos gt2];refine Aw hA.e ?_;refine G8 (Ajo k v v2 h0 h1) ?_;refine Aw hA.e ?_;refine Nn ?_;refine Bs ?_;refine Aw hA.e ?_;refine Dm ?_;generalize Ox k v v2=hh;have hjl:=Aa hj;refine Ju (ι:=Nat×Eg) (fun q=>i≤q.1∧q.1≤j∧(Lv (A9 n))[q.1]?=some q.2∧(hh=y→q.1=i)) (fun q=>[(22,vb hh),(3,.ptr 0 0 0),(6,.ptr 2 0 0),(7,.ptr bc 0 0),(8,vi q.1),(9,.ptr le 0 0)]) (fun q=>⟨S.boxes.set le [H4 q.2],S.toks⟩) (fun q=>j-q.1) ?_ (i,⟨(p:Int),t,4,y,.mk k [] 0 [a,b]⟩)
  ⟨Bo _,by omega,hi,fun _=>rfl⟩ ⟨rfl,rfl,rfl,rfl,rfl,rfl,trivial⟩ (by obtain⟨bx,tk⟩:=S;simp only[St.mk.injEq,and_true];obtain⟨_,e⟩:=zzq107.1 hA.e;rw[←e,List.set_getElem_self])
 intro q hq IH;obtain⟨m,em⟩:=q;obtain⟨q1,q2,q3,q4⟩:=hq;simp only at q1 q2 q3 q4;have hA1:=hA.setE em;refine Bq 60 rfl ?_;refine Aw hA1.e ?_;refine Aw hA1.c.box ?_;have hf0:∀e:Eg,e.f=(p:Int)→(e.f != c.pt)=false:=fun e he=>by rw[he,hp];simp
 rcases Nat.lt_trichotomy m i with h|h|h
 ·omega
 ·rw[h,hi]at q3;have hem:=Option.some.inj q3;refine Nn ?_ (ht:=hf0 em (by rw[←hem]));refine Aw hA1.e ?_;refine F4 (fun g3=>?_) (fun g3=>?_)
  ·have g3':¬hh=y:=fun h=>by rw[←hem]at g3;simp[h]at g3
   have hlt:m<j:=by omega
   obtain⟨em',hem'⟩:=Ab (Lv (A9 n)) (i:=m+1) (by omega);have hw1:IntKind.i64.wrap ((m:Int)+1)=((m+1:Nat):Int):=(Ac (by omega) (by omega)).trans (by omega);refine Aw hA1.z0 ?_;refine Mj (r:=H4 em') (IntKind.i64.wrap ((m:Int)+1)) (by rw[hw1];omega) (by rw[hw1,Hc];exact Gk hem') ?_;refine Cd hA1.e rfl ?_;refine IH (m+1,em') ⟨by simp only;omega,by simp only;omega,hem',fun h=>absurd h g3'⟩ (by simp only;omega) _ _ ⟨rfl,rfl,rfl,rfl,Ct hw1,rfl,trivial⟩ (by simp only[List.set_set];rfl)
  ·have g3':hh=y:=Awa (by rw[←hem]at g3;exact g3);have e1:H5 i t t2 (c,0,d2,hh==y)={ c with pt:=em.t }:=by rw[g3',←hem];simp[H5]
   rw[e1];refine Aw hA1.e ?_;refine Cd hA1.c.box rfl ?_;have hc2:=hA1.c.upd (c':={ c with pt:=em.t }) rfl rfl;have hB:=hA1.chg hc2 ((Cz _ bc _).more fun i hi=>by simp at hi;simp[hi]);have hOK:CfOk { c with pt:=em.t }:=⟨hok.vars,hok.cells,hok.rows⟩
   refine Aw hB.c.box ?_;refine Cd (xs:=E4 ({ c with pt:=em.t }) (V) (C)) (cs':=E4 ({ c with pt:=em.t }) (V) (C)) hB.z2 rfl ?_ (hc:=F3 hB.c.cf);refine E5 (B:=⟨76,_,0,0⟩) func76 (h:=Ef rfl rfl (Et (Aa hB.z2)) rfl) 0 (Bo _) ?_ (fun rows hr=>by simp at hr) ⟨rfl,rfl⟩;exact(hB.c.cf.chg (Cz _ 2 _) fun i hi hi2=>by simp at hi2;have:=hB.ge.2.2.2 i hi;omega).fz hOK
 ·rcases Gu m j with hmj|hmj
  ·have hfm:=hm m h hmj em q3;refine Om ?_ (ht:=by rw[hp];simpa using hfm);refine Dm ?_;have hlt:m<j:=hmj;obtain⟨em',hem'⟩:=Ab (Lv (A9 n)) (i:=m+1) (by omega);have hw1:IntKind.i64.wrap ((m:Int)+1)=((m+1:Nat):Int):=(Ac (by omega) (by omega)).trans (by omega);refine Aw hA1.z0 ?_;refine Mj (r:=H4 em') (IntKind.i64.wrap ((m:Int)+1)) (by rw[hw1];omega) (by rw[hw1,Hc];exact Gk hem') ?_;refine Cd hA1.e rfl ?_;refine IH (m+1,em') ⟨by simp only;omega,by simp only;omega,hem',fun h=>absurd h (by have:=q4 h;omega)⟩ (by simp only;omega) _ _ ⟨rfl,rfl,rfl,rfl,Ct hw1,rfl,trivial⟩ (by simp only[List.set_set];rfl)
  ·have hmj':m=j:=by omega
   subst hmj';rw[hj]at q3;have hem:=Option.some.inj q3;have hny:¬hh=y:=fun h2=>by have:=q4 h2;omega
   refine Nn ?_ (ht:=hf0 em (by rw[←hem]));refine Aw hA1.e ?_;refine Bs ?_ (ht:=by rw[←hem];exact A0c hny);have e1:H5 i t t2 (c,0,d2,hh==y)={ c with pt:=em.t }:=by rw[show (hh==y)=false by simpa using hny,←hem];simp[H5]
   rw[e1];refine Aw hA1.e ?_;refine Cd hA1.c.box rfl ?_;have hc2:=hA1.c.upd (c':={ c with pt:=em.t }) rfl rfl;have hB:=hA1.chg hc2 ((Cz _ bc _).more fun i hi=>by simp at hi;simp[hi]);have hOK:CfOk { c with pt:=em.t }:=⟨hok.vars,hok.cells,hok.rows⟩
   refine Aw hB.c.box ?_;refine Cd (xs:=E4 ({ c with pt:=em.t }) (V) (C)) (cs':=E4 ({ c with pt:=em.t }) (V) (C)) hB.z2 rfl ?_ (hc:=F3 hB.c.cf);refine E5 (B:=⟨76,_,0,0⟩) func76 (h:=Ef rfl rfl (Et (Aa hB.z2)) rfl) 0 (Bo _) ?_ (fun rows hr=>by simp at hr) ⟨rfl,rfl⟩;exact(hB.c.cf.chg (Cz _ 2 _) fun i hi hi2=>by simp at hi2;have:=hB.ge.2.2.2 i hi;omega).fz hOK
end
theorem A31{n:Nd}{S:St}{bc le:Nat}{V C:AV}{ids:List Nat}{c:Cf}(hr:Fe n=true)(hk:VOk n c)(hu:0≤c.used∧c.used≤100){inp:List Int}{p i:Nat}{e:Eg}{l:List Eg}(hp:c.pt=(p:Int))(hO:EdO (Lv (A9 n)) p i e l)(hA:SpS n S bc le V C ids c e) :
 SpA n S bc le inp i (H5 i e.t (l.headD e).t (Ry n inp c e.k e.y e.n)):=by
 have he:=hO.first.1;have hf:=hO.first.2.2.1;have hE:=(Aiw hr).2 e (Bh he);have hel:=(Zy hr).2;cases hE with
 |set f t y s a h ha ka=>exact A33 hk hA h ha ka
 |put f t y s a b h ha ka hb kb=>exact A32 hk hA h ha ka hb kb
 |read f t y s h=>exact A17 hk hu hA h
 |guard f t y x hx kx=>cases hO with
  |one _ _ _ _ _ h4=>exact absurd rfl h4
  |two j e2 _ _ _ _ hl hij hj hm _ h2=>
   simp only at hf;subst hf;rw[h2]at hj;exact Ayt hk hA hx kx hp hel he hij hj hm
 |check f t y x hx kx=>exact Ays hk hA hx kx
 |skip f t y x=>exact Auq (.inl rfl) hA hk.ok
 |stop f t y x=>exact Auq (.inr rfl) hA hk.ok
theorem Afz{n:Nd}{inp:List Int}{c c1:Cf}{p i:Nat}{e:Eg}{l:List Eg}(g:Hz n c=false)(hp:c.pt=(p:Int))(hF:Fr p (Lv (A9 n))=e::l)(hix:fIx (Lv (A9 n)) p=i)(hcc:({ c with steps:=c.steps+1 }:Cf)=c1):Gt n inp c=H5 i e.t (l.headD e).t (Ry n inp c1 e.k e.y e.n):=by
 unfold Gt H5;rw[if_neg (by simp[g]),show c.pt.toNat=p by rw[hp];rfl,hF,show fIx (Lv (A9 n)) c.pt=i by rw[hp];exact hix];simp only[hcc]
theorem A1k{n:Nd}{c:Cf}{inp:List Int}(hr:Fe n=true)(hS:StK n c)(hin:inp.length≤100):Pure X 76 [.agg (Kk n),cf c,.sl (Ei inp) .no] (cf (Gt n inp c)):=by
 have hok:=hS.vok.ok;have hpts:=(Zy hr).1;have hel:=(Zy hr).2;have hokM:=(Uw hr hS hin).vok.ok;refine Pure.run func76 ?_;refine P5 (Axk c hok) (.cons (.same _ (inferInstance:OK 0 0 (cf c)).ok) .nil) ?_;intro r bx hP;obtain⟨ids0,hC⟩:=hP;obtain⟨V0,C0,rfl⟩:=hC.parts;have hlt0:=hC.ltG;have hH:=hC.held (pre:=[[Kk n],[Iz c],[zCf]]);simp only[Hq,Xr]at hH;refine⟨.agg (E4 c (Hq 3 V0) (Hq 3 C0)),Oh 3 bx,(by have:=P0 3 (.agg (E4 c V0 C0));simpa[Hq,Xr]using this),Mv _ _,?_⟩;obtain⟨ids,hids⟩:∃ids,ids=ids0.map (·+3):=⟨_,rfl⟩
 have hH2:CfB SlB ([Kk n]::[Iz c]::[zCf]::Oh 3 bx) (.agg (E4 c (Hq 3 V0) (Hq 3 C0))) ids c:=by rw[hids];exact hH
 clear hH;generalize Hq 3 V0=V at hH2⊢;generalize Hq 3 C0=C at hH2⊢;obtain⟨T,hT⟩:∃T:St,T=⟨[Kk n]::[Iz c]::[zCf]::Oh 3 bx,[]⟩:=⟨_,rfl⟩
 refine Ba T ?_ hT.symm;have hTl:T.boxes.length=bx.length+3:=by rw[hT];simp[Pp]
 have hcT:CfB SlB T.boxes (.agg (E4 c V C)) ids c:=by rw[hT];exact hH2
 have hid:∀i,i∈ids→3≤i∧i<T.boxes.length:=fun i hi=>by
  rw[hids]at hi;obtain⟨k,hk,rfl⟩:=zzq68.1 hi;have:=hlt0 k hk;omega
 refine Mi (b:=T.boxes.length) rfl rfl ?_;refine Cd (b:=T.boxes.length) (cs:=zCf) (xs:=E4 c V C) (cs':=E4 c V C) (by simp) rfl ?_ (hc:=F3 hcT);obtain⟨S,hSt⟩:∃S:St,S=⟨T.boxes++[[E4 c V C]],T.toks⟩:=⟨_,rfl⟩
 refine Ba S ?_ (by rw[hSt];exact congrArg (fun x=>St.mk x _) (by rw[Gi _ _ (Bo _),Fv];rfl));have hSl:S.boxes.length=T.boxes.length+1:=by rw[hSt];simp
 have gx:∀{i:Nat} {y:List (List AV)},T.boxes[i]?=some y→S.boxes[i]?=some y:=fun{i y} h=>by rw[hSt,Cr (Aa h)];exact h
 have z0:S.boxes[0]?=some [Kk n]:=gx (by rw[hT];rfl);have z2:S.boxes[2]?=some [zCf]:=gx (by rw[hT];rfl);have hc:CfS S T.boxes.length V C ids c:=⟨by rw[hSt];simp,by rw[hSt];exact hcT.more,fun h=>by have:=hid _ h;omega⟩
 have hw:IntKind.i64.wrap ((((D4 (A9 n)).pts:Nat):Int)-1)=(((D4 (A9 n)).pts:Nat):Int)-1:=Ac (by omega) (by omega);refine Aw hc.box ?_;by_cases q1:c.trap=0
 case neg=>
  refine Om ?_ (ht:=by simpa using q1);refine Om ?_;refine Dm ?_;refine Aw hc.box ?_;refine Cd (xs:=E4 c V C) (cs':=E4 c V C) z2 rfl ?_ (hc:=F3 hc.cf);rw[show Gt n inp c=c by unfold Gt;rw[if_pos (by unfold Hz;simp[q1])]];refine E5 (B:=⟨76,_,0,0⟩) func76 (h:=Ef rfl rfl (Et (Aa z2)) rfl) 0 (Bo _) ?_ (fun rows hr=>by simp at hr) ⟨rfl,rfl⟩;exact(hc.cf.chg (Cz _ 2 _) fun i hi hi2=>by simp at hi2;have:=hid i hi;omega).fz hok
 refine Nn ?_ (ht:=by simpa using q1);refine Aw hc.box ?_;refine Aw z0 ?_;by_cases q2:c.pt=(((D4 (A9 n)).pts:Nat):Int)-1
 ·refine Om ?_ (ht:=by rw[hw];simpa using q2);refine Dm ?_;refine Aw hc.box ?_;refine Cd (xs:=E4 c V C) (cs':=E4 c V C) z2 rfl ?_ (hc:=F3 hc.cf);rw[show Gt n inp c=c by unfold Gt;rw[if_pos (by unfold Hz;simp[q2])]];refine E5 (B:=⟨76,_,0,0⟩) func76 (h:=Ef rfl rfl (Et (Aa z2)) rfl) 0 (Bo _) ?_ (fun rows hr=>by simp at hr) ⟨rfl,rfl⟩;exact(hc.cf.chg (Cz _ 2 _) fun i hi hi2=>by simp at hi2;have:=hid i hi;omega).fz hok
 refine Nn ?_ (ht:=by rw[hw];simpa using q2);refine Aw hc.box ?_;by_cases q3:c.steps=5000
 ·refine Dm ?_ (ht:=by simpa using q3);refine Aw hc.box ?_;refine Cd (xs:=E4 c V C) (cs':=E4 c V C) z2 rfl ?_ (hc:=F3 hc.cf);rw[show Gt n inp c=c by unfold Gt;rw[if_pos (by unfold Hz;simp[q3])]];refine E5 (B:=⟨76,_,0,0⟩) func76 (h:=Ef rfl rfl (Et (Aa z2)) rfl) 0 (Bo _) ?_ (fun rows hr=>by simp at hr) ⟨rfl,rfl⟩;exact(hc.cf.chg (Cz _ 2 _) fun i hi hi2=>by simp at hi2;have:=hid i hi;omega).fz hok
 refine Bs ?_ (ht:=by simpa using q3);have hg:Hz n c=false:=by unfold Hz;simp[q1,q2,q3]
 have hpt:=hS.pt;have hsp:=hS.steps;obtain⟨p,hp⟩:∃p:Nat,c.pt=p:=⟨c.pt.toNat,by omega⟩
 obtain⟨i,e,l,hF,hO⟩:=Zx hr (p:=p) (by omega);obtain⟨he,hbe,hef,hix,_⟩:=hO.first;have hw1:IntKind.i64.wrap (c.steps+1)=c.steps+1:=Ac (by omega) (by omega);obtain⟨c1,hc1⟩:∃c1:Cf,c1={ c with steps:=IntKind.i64.wrap (c.steps+1) }:=⟨_,rfl⟩
 have hk1:VOk n c1:=by rw[hc1];exact⟨hS.vok.kl,hS.vok.vars,hS.vok.cells,hS.vok.rows⟩
 have hcc:({ c with steps:=c.steps+1 }:Cf)=c1:=by rw[hc1,hw1]
 have hM:=Afz (inp:=inp) hg hp hF hix hcc;rw[hM];have hil:=Aa he;refine Ju (ι:=Nat) (fun m=>m≤i) (fun m=>[(8,vi m),(2,.sl (Ei inp) .no),(3,.ptr 0 0 0),(6,.ptr 2 0 0),(7,.ptr T.boxes.length 0 0)]) (fun _=>S) (fun m=>i-m) ?_ 0 (Cc _) ⟨rfl,rfl,rfl,rfl,rfl,trivial⟩ rfl;intro m hm IH;obtain⟨em,hem⟩:=Ab (Lv (A9 n)) (i:=m) (by omega);refine Bq 60 rfl ?_;refine C8 0 (by kernel_rfl) ?_
 iterate 2 refine Ar ?_
 refine A0 (Aq z0) ?_;refine Ar ?_;refine Ek (fun S'=>Cu rfl rfl rfl rfl rfl rfl rfl rfl rfl (by omega) (Gk hem)) ?_
 iterate 3 refine Ar ?_
 refine A0 (Aq hc.box) ?_;refine Ar ?_;refine Gn ?_;rcases Gu m i with hmi|hmi
 ·have:=hbe m hmi em hem;refine Dm ?_ (ht:=by rw[hp];simpa using this);exact IH (m+1) (by omega) (by omega) _ _ ⟨vsx (by omega),rfl,rfl,rfl,rfl,trivial⟩ rfl
 ·have hmi':m=i:=by omega
  subst hmi';rw[he]at hem;cases hem;refine Bs ?_ (ht:=by rw[hp,hef];simp);refine Aw z0 ?_;refine Mj m (by omega) (by rw[Hc];exact Gk he) ?_;refine Mi (b:=S.boxes.length) rfl rfl ?_;refine Cd (b:=S.boxes.length) (cs:=zEg) (by simp) rfl ?_;obtain⟨U,hU⟩:∃U:St,U=⟨S.boxes++[[H4 e]],S.toks⟩:=⟨_,rfl⟩
  refine Ba U ?_ (by rw[hU];exact congrArg (fun x=>St.mk x _) (by rw[Gi _ _ (Bo _),Fv];rfl));have hcU:CfS U T.boxes.length V C ids c:=hc.more (by rw[hU]);refine Aw hcU.box ?_;refine G9 (Jw (r:=0) hcU.box rfl rfl) rfl rfl ?_;refine Ks 9 100 rfl ?_;have hup:=hcU.upd (c':=c1) (by rw[hc1]) (by rw[hc1]);rw[hc1]at hup;have hA:SpS n ⟨U.boxes.set T.boxes.length [E4 { c with steps:=IntKind.i64.wrap (c.steps+1) } V C],U.toks⟩ T.boxes.length S.boxes.length V C ids c1 e:=by
   rw[hc1];have gU:∀{i:Nat} {y:List (List AV)},i≠T.boxes.length→S.boxes[i]?=some y→(U.boxes.set T.boxes.length [E4 { c with steps:=IntKind.i64.wrap (c.steps+1) } V C])[i]?=some y:=fun{i y} hi h=>by rw[Fj (Ne.symm hi),hU,Cr (Aa h)];exact h
   exact⟨gU (by omega) z0,gU (by omega) z2,hup,by rw[Fj (by omega),hU];simp,by omega,by omega,by omega,fun i hi=>by have:=hid i hi;omega⟩
  exact Tq (G:=[(2,.sl (Ei inp) .no),(3,.ptr 0 0 0),(6,.ptr 2 0 0),(7,.ptr T.boxes.length 0 0),(8,vi m),(9,.ptr S.boxes.length 0 0)]) ⟨rfl,rfl,rfl,rfl,rfl,rfl,trivial⟩ (A31 hr hk1 (by rw[hc1];exact hS.used) (by rw[hc1];exact hp) hO hA)
def Yo(inp:List Int):Bool:=decide ((inp.length:Int)≤100)&&inp.all Zk
theorem A3x(x:Int):Pure X 134 [vi x] (vb (!Zk x)):=by
 refine Pure.run func134 ?_;refine Al (Aol x) ?_;exact Au func134 rfl
theorem Ax4(l:List (Int))(hl:l.length≤1000000000)  : Pure X 185 [.sl (Ei l) .no,.fn 134 []] (vi (Abr (fun x=>!Zk x) 0 l)):=by
 have hlen:(Ei l).length=l.length:=by simp[Ei]
 refine Pure.run func185 ?_;refine Av (ι:=Nat) 0 0 (fun i=>i≤l.length∧Abr (fun x=>!Zk x) 0 l=Abr (fun x=>!Zk x) i (l.drop i)) (fun i=>[(8,vi i),(7,vi l.length),(0,.sl (Ei l) .no),(1,.fn 134 [])]) (fun _=>⟨[],[]⟩) (fun i=>l.length-i) ?_ 0 ⟨Cc _,rfl⟩
  ⟨rfl,by rw[←hlen];rfl,rfl,rfl,trivial⟩
 intro i hi IH;refine Dh (fun h=>?_) (fun h=>?_)
 ·have hlt:i<l.length:=by have:=A7 h;omega
  obtain⟨x,hx⟩:=Ab l hlt;have hd:Abr (fun x=>!Zk x) i (l.drop i)=if ((fun x=>!Zk x)) x then(i:Int)else Abr (fun x=>!Zk x) (i+1) (l.drop (i+1)):=by rw[B5 hx];rfl
  refine B7 i (by omega) (Gf (f:=Ji) hx) ?_;refine Al (A3x x) ?_;refine Ag (fun h2=>?_) (fun h2=>?_)
  ·refine Az func185 ?_;have h3:((fun x=>!Zk x)) x=true:=h2;rw[hi.2,hd,h3];rfl
  ·have h3:((fun x=>!Zk x)) x=false:=h2;exact IH (i+1) ⟨hlt,by rw[hi.2,hd,h3];rfl⟩ (by omega) _ _ ⟨vsx (by omega),rfl,rfl,rfl,trivial⟩ rfl rfl rfl
 ·have:i=l.length:=by have:=Bd h;omega
  refine Az func185 ?_;rw[hi.2,this,Hw];rfl
theorem Ax1(l:List Int)(hl:l.length≤1000000000):Pure X 130 [.sl (Ei l) .no,.fn 134 []] (vb (!(l.all Zk))):=by
 have e:(!(l.all Zk))=l.any fun x=>!Zk x:=List.not_all_eq_any_not;rw[e];refine Pure.run func130 ?_;refine Al (Ax4 l hl) ?_;refine Az func130 ?_;rw[←Ai8 _ l 0];rfl
theorem Amc(l:List Int)(hl:l.length≤1000000000):Pure X 79 [.sl (Ei l) .no] (vb (Yo l)):=by
 have hlen:=C2 l;refine Pure.run func79 ?_;unfold Yo;rw[←hlen];cases h:decide (((Ei l).length:Int)≤100)with
 |false=>
  refine Ii ?_;exact Au func79 rfl
 |true=>
  refine Hh ?_;refine Al (Ax1 l hl) ?_;refine Au func79 ?_;simp
theorem Atp(l:List Int)(hl:l.length≤1000000000):Pure X 75 [.sl (Ei l) .no] (vb (Yo l)):=by
 have hlen:=C2 l;refine Pure.run func75 ?_;refine Ag (fun g=>?_) (fun g=>?_)
 ·have h:Yo l=false:=by unfold Yo;have:=A7 g;rw[hlen]at this;rw[Kn (by omega)];rfl
  rw[h];exact Au func75 rfl
 have hle:(l.length:Int)≤100:=by have:=Bd g;rw[hlen]at this;omega
 have h0:Yo l=l.all Zk:=by unfold Yo;rw[Zg hle];rfl
 rw[h0];refine Av (ι:=Nat) 0 0 (fun i=>i≤l.length∧l.all Zk=(l.drop i).all Zk) (fun i=>[(3,vi i),(0,.sl (Ei l) .no)]) (fun _=>⟨[],[]⟩) (fun i=>l.length-i) ?_ 0 ⟨Cc _,rfl⟩ ⟨rfl,rfl,trivial⟩;intro i hi IH;refine Dh (fun h=>?_) (fun h=>?_)
 ·have hlt:i<l.length:=by have:=A7 h;rw[hlen]at this;omega
  obtain⟨x,hx⟩:=Ab l hlt;have hd:=R0 hx;refine B7 i (by omega) (Za hx) ?_;refine Al (Azq x) ?_;refine Ag (fun g2=>?_) (fun g2=>?_)
  ·have g3:Zk x=false:=by simpa using g2
   rw[hi.2,hd,Pv,g3];exact Au func75 rfl
  ·have g3:Zk x=true:=by simpa using g2
   exact IH (i+1) ⟨hlt,by rw[hi.2,hd,Pv,g3,Re]⟩ (by omega) _ _ ⟨vsx (by omega),rfl,trivial⟩ rfl rfl rfl
 ·have:i=l.length:=by have:=Bd h;rw[hlen]at this;omega
  rw[hi.2,this,Hw];exact Au func75 rfl
def Xp(n:Nd)(inp:List Int):Nat→Cf→List Cf
 |0,_=>[]
 |k+1,c=>if c.trap=0∧¬c.pt=(((D4 (A9 n)).pts:Nat):Int)-1 then Gt n inp c::Xp n inp k (Gt n inp c)else[]
def Y1(n:Nd)(inp:List Int):Nat→Cf→Cf
 |0,c=>c
 |k+1,c=>if Hz n c=true then c else Y1 n inp k (Gt n inp c)
theorem Abd{n:Nd}{inp:List Int}{c:Cf}(hr:Fe n=true)(hS:StK n c)(hg:Hz n c=false):(Gt n inp c).steps=c.steps+1:=by
 have hpt:=hS.pt;have hne:¬c.pt=(((D4 (A9 n)).pts:Nat):Int)-1:=by
  unfold Hz at hg;simp only[Pb,beq_eq_false_iff_ne,ne_eq]at hg;exact hg.2.1
 obtain⟨p,hp⟩:∃p:Nat,c.pt=p:=⟨c.pt.toNat,by omega⟩
 obtain⟨i,e,l,hF,hO⟩:=Zx hr (p:=p) (by omega);obtain⟨_,_,_,hix,_⟩:=hO.first;rw[Afz hg hp hF hix rfl];have hK:=(Acy n inp { c with steps:=c.steps+1 } e.k e.y e.n).steps;unfold H5;split
 ·exact hK
 ·exact hK
theorem Vx{n:Nd}{c:Cf}(hs:c.steps<5000):Hz n c=false↔(c.trap=0∧¬c.pt=(((D4 (A9 n)).pts:Nat):Int)-1):=by
 unfold Hz;simp only[Pb,Age,beq_eq_false_iff_ne,zzq56,ne_eq];constructor
 ·rintro⟨h1,h2,_⟩;exact⟨h1,h2⟩
 ·rintro⟨h1,h2⟩;exact⟨h1,h2,by omega⟩
theorem Afu{n:Nd}{inp:List Int}(hr:Fe n=true)(hi:inp.length≤100):∀(k:Nat)(c:Cf),StK n c→c.steps+k≤5000→(Xp n inp k c).getLastD c=Y1 n inp k c
 |0,c,_,_=>rfl
 |k+1,c,hS,hk=>by
  unfold Xp Y1;by_cases hg:Hz n c=true
  ·rw[if_pos hg,if_neg fun h=>by rw[(Vx (by omega)).2 h]at hg;cases hg];rfl
  ·have hg':Hz n c=false:=by simpa using hg
   rw[if_neg hg,if_pos ((Vx (by omega)).1 hg')];have ih:=Afu hr hi k (Gt n inp c) (Uw hr hS hi) (by rw[Abd hr hS hg'];omega);rw[←ih];exact List.getLastD_cons ..
theorem Auu{n:Nd}(hr:Fe n=true):∀s,s∈D9 n→s≤60:=by
 intro s hs;obtain⟨x,hx,rfl⟩:=zzq68.1 hs;have hx':=(zzq58.1 hx).1;have h0:=(Yb hr).1;unfold Ew at h0;split at h0
 ·split at h0
  ·simp at h0
  ·split at h0
   ·simp at h0
   ·rename_i hb;refine Int.not_lt.1 fun h=>hb (List.any_eq_true.2 ⟨x,hx',by simpa using h⟩)
 ·simp at h0
theorem Ak8:∀{ss ls:List Int}{cs:List Nat},Xy ss ls=some cs→(∀s,s∈ss→s≤60)→∀c,c∈cs→c≤60
 |[],[],cs,h,_=>by simp[Xy]at h;subst h;intro c hc;cases hc
 |[],_::_,cs,h,_=>by simp[Xy]at h
 |s::ss,ls,cs,h,hs=>by
  simp only[Xy]at h;have hs':∀x,x∈ss→x≤60:=fun x hx=>hs x (by simp[hx]);split at h
  ·split at h
   ·cases h
   ·split at h
    ·rename_i hb;obtain⟨r,hr,rfl⟩:=zzq104.1 h;intro c hc;rcases zzq13.1 hc with rfl|hc
     ·simp only[Bl,Da,J9]at hb;omega
     ·exact Ak8 hr hs' c hc
    ·cases h
  ·obtain⟨r,hr,rfl⟩:=zzq104.1 h;intro c hc;rcases zzq13.1 hc with rfl|hc
   ·have:=hs s (by simp);omega
   ·exact Ak8 hr hs' c hc
theorem Agw{n:Nd}(hr:Fe n=true){ls:List Int}{cs:List Nat}(h:Xy (D9 n) ls=some cs):StK n (Zj (Ax n 31).length cs):=by
 have hp:0<(D4 (A9 n)).pts:=by have:=Ai4 (Aiw hr).1;omega
 refine⟨⟨(Iv hr).2.2.2.2,by simp[Zj],by simp only[Zj,U7];rw[Agv h,Xs],fun x hx=>?_⟩,by simp only[Zj];omega,by simp[Zj],by simp[Zj],fun _=>by simp[Zj]⟩;simp only[Zj]at hx;obtain⟨c,hc,rfl⟩:=zzq68.1 hx;rw[List.length_replicate];exact Ak8 h (Auu hr) c hc
def rtO(n:Nd)(ls inp:List Int)(fuel:Int):Option (List Nat):=if (Bl fuel 0 5000&&Yo inp)=true then Xy (D9 n) ls else none
def rtF(n:Nd)(ls inp:List Int)(fuel:Int):Cf:=match rtO n ls inp fuel with
 |some cs=>Y1 n inp fuel.toNat (Zj (Ax n 31).length cs)
 |none=>zC
def rtM(n:Nd)(ls inp:List Int)(fuel:Int):Cf:=if Fe n=true then rtF n ls inp fuel else zC
section
variable {X:Cx}{B:Bx}{E:Env}{S:St}{w:World}{F:C3}{R:AE→St→Prop}{N:Nat}{ops:Array Oper}{i:Nat}{o:Oper}
theorem Avz{t n e m:Nat}{ps:Array (Nat×Operand)}{y ye:Ty}{rows:List (List AV)}{tk:List Nat}(hnt:∀r,r∈rows→∀x,x∈r→NoT x)(ho:ops[i]?=some o:=by rfl)(hw:A6 ops F o=some true:=by rfl)(hop:o.op=.buildSlice t n ps:=by rfl)
 (hy:X.ty t=some y:=by rfl)(hk:y.k=.slc e:=by rfl)(hye:X.ty e=some ye:=by rfl)(hble:Nat.ble (n*ye.size) 1000000=true:=by rfl)(hn1:Nat.ble 1 n=true:=by rfl)
 (hr:Se X F ye.size ps.toList (List.replicate n ye.zero)=some (.sl rows .tight):=by rfl)(hm:S.toks.length=m:=by rfl)(htk:S.toks++[1]=tk:=by rfl):Ndo X N ops i o F (.psl rows m 1) S ⟨S.boxes,tk⟩:=by
 subst hm;subst htk;intro F' E w a hl hI hF;have hlr:Se X F' ye.size ps.toList (List.replicate n ye.zero)=some (.sl rows .tight):=by
  have hc:=Gs hl;rw[hop]at hc;rw[Xf fun t ht=>hc t (by simpa[Op.operands]using ht)];exact hr
 have hle:n*ye.size≤1000000:=I7 hble;have hn0:1≤n:=I7 hn1;obtain⟨d,hd,hdd⟩:=(X.ty_ok t y hy).agg;simp only[hk]at hdd;obtain⟨rfl,ye',hye',hne⟩:=hdd;rw[hye]at hye';cases hye';obtain⟨z,hz,hzc,hzl,i',hi,hiz,his,hib⟩:=I6 hye w;have hzs:z.cells.size=ye.size:=by rw[←hzl,←hzc];simp
 have hg0:Qb E w ye.size ((Array.range (n*ye.size)).map (z.cells[·%z.cells.size]!)) (List.replicate n ye.zero):=by
  refine Qm hzc hzl _ (by simp) (fun i hi=>?_);have hm:i%ye.size<z.cells.size:=by rw[hzs];exact Ws _ (Zc hne)
  have hr0:(Array.range (n*ye.size))[i]?=some i:=by simp[hi]
  rw[Akg,hr0];simp only[Km];rw[hzs,getElem!_pos z.cells (i%ye.size) hm,Agc hm]
 obtain⟨cells',rows',hf',hg',hl',hrr⟩:=Sf hI hF ps.toList _ _ _ hg0 hlr;cases hrr;have hn:rows.length=n:=by simpa using hl'
 have nt:E.toks.length=S.toks.length:=by rw[←hI.nt];simp
 have hpush:(w.alloc (.cells cells' e)).heap=w.heap.push (.cells cells' e (0,0)):=rfl;have hheap:(w.alloc (.cells cells' e)).heap[w.heap.size]?=some (.cells cells' e (0,0)):=by rw[hpush];simp
 have hk1:(E.mint 0).toks[S.toks.length]?=some ⟨0,none⟩:=by rw[←nt];exact getElem?_snoc_new _ _
 obtain⟨ev,hI',_⟩:=Nj (w':=w.alloc (.cells cells' e)) (hI.mint 0) (t:=S.toks.length) (n:=0) (m:=1) (b:=w.heap.size) (c:=n) (sz:=0) hk1 rfl (by omega) (fun h=>absurd rfl h) rfl rfl rfl (by rw[hpush];simp)
  (fun q hq _=>by rw[hpush,Wq hq];simp[hq]) (.inl rfl) (by rw[hpush];simp) (fun o v _ h=>by have:=Jf h;omega) ⟨_,e,hheap,fun h=>absurd rfl h⟩ (Evol.push (E:=E) (w:=w) ⟨_,hpush⟩ rfl rfl rfl 0 0).ty
 have ev2:=(L1 E w 0).trans (ev.weaken (n':=E.boxes.length) (m':=E.toks.length) (Bo _) (by simp[Env.mint]));have hS':(S.toks++[0]).set S.toks.length 1=S.toks++[1]:=by rw[Gi _ _ (Bo _),Fv];rfl
 simp only[hS']at hI';refine Does.val ho (Cm hF (by rw[Cw hl];exact hw)) (v:=.slice (some ⟨w.heap.size,0,none⟩) n n) ?_ (.inl rfl) ⟨_,hI',ev2,?_⟩
 ·have hsz:=De hye w;have h24:¬(n*ye.size>16777216):=by omega
  have h0:¬n*ye.size=0:=fun h=>by
   rcases Nat.mul_eq_zero.1 h with h|h
   ·omega
   ·exact hne h
  simp only[execOp,hop,Instr.buildSlice,Sem.run_bind,run_underlying hd,Result.andThen_ok,hsz];simp[h24,h0,hz,hf',newRow,hn]
 ·refine .psl rows S.toks.length 1 _ n n ⟨1,some (w.heap.size,n,0)⟩ ye.size (fun i j=>cells'.getD (i*ye.size+j) undef) hn (by unfold O0;have:=Nat.le_mul_of_pos_right n (Zc hne);omega) (Bo _) ?_ (Bo _) hg'.2.1
   (fun _=>⟨by omega,rfl,rfl,rfl,_,e,hheap,by rw[hg'.1,hn],fun i' j' hi' hj'=>?_⟩) (fun i' j' r x hr hx=>?_) hnt
  ·simp[Env.setTok,Env.mint,nt]
  ·have:i'*ye.size+j'<cells'.size:=by rw[hg'.1,hn];exact Ig hi' hj'
   simp[this]
  ·have hi':=Aa hr;have hj':j'<ye.size:=by rw[←hg'.2.1 r (Bh hr)];exact Aa hx
   have:i'*ye.size+j'<cells'.size:=by rw[hg'.1];exact Ig hi' hj'
   have h:=hg'.2.2 i' r j' x cells'[i'*ye.size+j'] hr hx (by simp[this]);simp only[Array.getD,this,dif_pos];exact h.step ev2
end
theorem O6{F:C3}{S:St}{t ty b:Nat}{y:Ty}{cs xs:List AV}{x:AV}{l:List ResultVar}(hl:lk F t=some (.ptr b 0 0))(hy:X.ty ty=some y)(hb:S.boxes[b]?=some [cs])(hx:(Ni y.size cs fun c'=>V6 (Gd y.k) c')=some x)(hr:Md X F S l=some xs):Md X F S (.cell t ty::l)=some (x::xs):=by
 have:Tf S y.size (Gd y.k) (.ptr b 0 0)=some x:=by
  simp only[Tf,H7,hb,List.getElem?_cons_zero,Ou];exact hx
 simp only[Md,hl,Q0,hy,this,hr]
theorem Au8{d:Nat}{x y z z':AV}{b:Bool}(h:Sh d x y)(h2:Sh d z z'):Sh d (.tup [x,z,vb b]) (.tup [y,z',vb b]):=by
 have h:=(ShL.cons h (.cons h2 (.cons (.val (.bool b)) .nil))).get;exact .tup _ _ h.1 h.2
def Qu(n:Nd)(inp:List Int):Nat→Cf→List Int
 |0,_=>[]
 |k+1,c=>if Hz n c=true then[]else(if (Gt n inp c).trap=0 then[(Gt n inp c).pt]else[])++Qu n inp k (Gt n inp c)
def rtP(n:Nd)(ls inp:List Int)(fuel:Int):List Int:=match rtO n ls inp fuel with
 |some cs=>0::Qu n inp fuel.toNat (Zj (Ax n 31).length cs)
 |none=>[]
def RnQ(n:Nd)(ls inp:List Int)(fuel:Int)(r:AV)(bx:List (List (List AV))):Prop:=∃x pth ids,r=.tup [x,pth,vb (rtO n ls inp fuel).isSome]∧CfB SlG bx x ids (rtF n ls inp fuel)∧SlG bx pth (Ei (rtP n ls inp fuel))
theorem Ay8(l:List Int):∀r,r∈Ei l→r.length=1:=fun r hr=>by
 obtain⟨x,_,rfl⟩:=zzq68.1 hr;rfl
theorem A1r{n:Nd}(hr:Fe n=true)(ls inp:List Int)(hls:ls.length≤1000000000)(hil:inp.length≤1000000000)(fuel:Int):Gives X 71 [.cptr (Mf n),.sl (Ei ls) .no,.sl (Ei inp) .no,vi fuel] (RnQ n ls inp fuel):=by
 have hpts:=(Zy hr).1;have okP:Ok 0 0 (.cptr (Mf n)):=(inferInstance:OK 0 0 (.cptr (Mf n))).ok;unfold RnQ;refine Gives.run func71 ?_;refine P5 (Axy n hr ls hls) (.cons (.same _ okP) (.cons (.same _ (inferInstance:OK 0 0 (.sl (Ei ls) .no)).ok) .nil)) ?_;intro r bx hP;obtain⟨x,ids0,rfl,hC⟩:=hP;obtain⟨V0,C0,rfl⟩:=hC.parts;have hlt0:=hC.ltG;have hH:=hC.held (pre:=[[zCf]]);simp only[Hq,Xr]at hH;generalize hbo:Xy (D9 n) ls=bo at *;generalize hc0:Av9 (Ax n 31).length bo=c0 at *;refine⟨.tup [.agg (E4 c0 (Hq 1 V0) (Hq 1 C0)),vb bo.isSome],Oh 1 bx,Ay3 (by have:=P0 1 (.agg (E4 c0 V0 C0));simpa[Hq,Xr]using this),Mv _ _,?_⟩;obtain⟨ids,hids⟩:∃ids,ids=ids0.map (·+1):=⟨_,rfl⟩
 have hH2:CfB SlB ([zCf]::Oh 1 bx) (.agg (E4 c0 (Hq 1 V0) (Hq 1 C0))) ids c0:=by rw[hids];exact hH
 clear hH;generalize Hq 1 V0=V at hH2⊢;generalize Hq 1 C0=C at hH2⊢;obtain⟨B0,hB0⟩:∃B0,B0=[zCf]::Oh 1 bx:=⟨_,rfl⟩
 refine Ba ⟨B0,[]⟩ ?_ (by rw[hB0];rfl);rw[←hB0]at hH2;have hBl:B0.length=bx.length+1:=by rw[hB0];simp[Pp]
 have hid:∀i,i∈ids→1≤i∧i<B0.length:=fun i hi=>by
  rw[hids]at hi;obtain⟨k,hk,rfl⟩:=zzq68.1 hi;have:=hlt0 k hk;omega
 refine Bq 60 rfl ?_;refine Mi (b:=B0.length) rfl rfl ?_;refine Cd (b:=B0.length) (cs:=zCf) (xs:=E4 c0 V C) (cs':=E4 c0 V C) (by simp) rfl ?_ (hc:=F3 hH2);obtain⟨B1,hB1⟩:∃B1,B1=B0++[[E4 c0 V C]]:=⟨_,rfl⟩
 refine Ba ⟨B1,[]⟩ ?_ (by rw[hB1];exact congrArg (fun x=>St.mk x _) (by rw[Gi _ _ (Bo _),Fv];rfl));have z8:B1[0]?=some [zCf]:=by rw[hB1,hB0];rfl
 have hc:CfS ⟨B1,[]⟩ B0.length V C ids c0:=⟨by simp[hB1],by simp only[hB1];exact hH2.more,fun h=>by have:=hid _ h;omega⟩
 have h0n:0∉B0.length::ids:=fun h=>by
  rcases zzq13.1 h with h|h
  ·omega
  ·have:=hid 0 h;omega
 have hB1l:B1.length=B0.length+1:=by simp[hB1]
 cases bo with
 |none=>
  have hno:rtO n ls inp fuel=none:=by unfold rtO;rw[hbo];split<;>rfl
  refine Om ?_;refine Om ?_;refine Dm ?_;have hP0:rtP n ls inp fuel=[]:=by unfold rtP;rw[hno]
  have hF0:rtF n ls inp fuel=zC:=by unfold rtF;rw[hno]
  rw[hno,hF0,hP0];refine Cd z8 rfl ?_;exact Bg func71 (h:=O6 rfl rfl (Et (Aa z8)) rfl rfl) ⟨_,rfl,_,_,[],rfl,V4 _,.inr ⟨rfl,rfl,rfl⟩⟩
 |some cs=>
 have hc0':Zj (Ax n 31).length cs=c0:=hc0;have hSt:StK n c0:=by rw[←hc0'];exact Agw hr hbo
 refine Nn ?_;refine G8 (Vt fuel 0 5000) ?_;cases hf:Bl fuel 0 5000 with
 |false=>
  have hno:rtO n ls inp fuel=none:=by unfold rtO;rw[hf];rfl
  refine Om ?_;refine Dm ?_;have hP0:rtP n ls inp fuel=[]:=by unfold rtP;rw[hno]
  have hF0:rtF n ls inp fuel=zC:=by unfold rtF;rw[hno]
  rw[hno,hF0,hP0];refine Cd z8 rfl ?_;exact Bg func71 (h:=O6 rfl rfl (Et (Aa z8)) rfl rfl) ⟨_,rfl,_,_,[],rfl,V4 _,.inr ⟨rfl,rfl,rfl⟩⟩
 |true=>
 refine Nn ?_;refine G8 (Amc inp hil) ?_;cases hin:Yo inp with
 |false=>
  have hno:rtO n ls inp fuel=none:=by unfold rtO;rw[hf,hin];rfl
  refine Dm ?_;have hP0:rtP n ls inp fuel=[]:=by unfold rtP;rw[hno]
  have hF0:rtF n ls inp fuel=zC:=by unfold rtF;rw[hno]
  rw[hno,hF0,hP0];refine Cd z8 rfl ?_;exact Bg func71 (h:=O6 rfl rfl (Et (Aa z8)) rfl rfl) ⟨_,rfl,_,_,[],rfl,V4 _,.inr ⟨rfl,rfl,rfl⟩⟩
 |true=>
 have hyes:rtO n ls inp fuel=some cs:=by unfold rtO;rw[hf,hin];exact hbo
 have hF:rtF n ls inp fuel=Y1 n inp fuel.toNat c0:=by unfold rtF;rw[hyes,←hc0']
 have hil2:inp.length≤100:=by
  unfold Yo at hin;simp only[Da,J9]at hin;omega
 have hfb:=Cj.1 hf;obtain⟨k,rfl⟩:∃k:Nat,fuel=k:=⟨fuel.toNat,by omega⟩
 rw[Hc]at hF;refine N0 rfl (fun h=>by cases h) (fun _=>?_);refine Bq 3 rfl ?_;refine G9 (Avz (rows:=[[vi 0]]) (fun r hr x hx=>by simp at hr;subst hr;simp at hx;subst hx;exact .val _) rfl rfl rfl rfl rfl rfl rfl rfl rfl rfl rfl) rfl rfl ?_;refine Bq 60 rfl ?_;refine Ju (ι:=Nat×Cf×List (List (List AV))×List Int) (fun q=>q.1≤k∧Y1 n inp (k-q.1) q.2.1=Y1 n inp k c0∧StK n q.2.1∧CfS ⟨q.2.2.1,[q.2.2.2.length]⟩ B0.length V C ids q.2.1∧q.2.2.1[0]?=some [zCf]∧q.2.2.2.length≤q.1+1∧q.2.2.2≠[]∧q.2.2.2++Qu n inp (k-q.1) q.2.1=0::Qu n inp k c0)
  (fun q=>[(35,vi q.1),(34,vi k),(13,.psl (Ei q.2.2.2) 0 q.2.2.2.length),(0,.cptr (Mf n)),(2,.sl (Ei inp) .no),(11,.ptr B0.length 0 0),(8,.ptr 0 0 0)]) (fun q=>⟨q.2.2.1,[q.2.2.2.length]⟩) (fun q=>k-q.1) ?_ (0,c0,B1,[0])
  ⟨Cc _,rfl,hSt,⟨hc.box,hc.cf,hc.ne⟩,z8,by simp,by simp,rfl⟩ ⟨rfl,rfl,rfl,rfl,rfl,rfl,rfl,trivial⟩ rfl
 intro q hq IH;obtain⟨m,c,B,pth⟩:=q;obtain⟨i1,i2,i3,i4,i5,i6,i7,i8⟩:=hq;simp only at i1 i2 i3 i4 i5 i6 i7 i8;refine Bq 60 rfl ?_;refine F4 (fun g=>?_) (fun g=>?_)
 ·have hlt:m<k:=by have:=A7 g;simp only at this;omega
  obtain⟨d,hd⟩:∃d,k-m=d+1:=⟨k-m-1,by omega⟩
  rw[hd]at i2 i8;refine Im (Aj3 n c hpts) (.cons (.same _ okP) (.cons (i4.fzp i3.vok.ok) .nil)) (.val _) ?_;refine F4 (fun g2=>?_) (fun g2=>?_)
  ·have hc9:c=Y1 n inp k c0:=by rw[←i2];unfold Y1;rw[if_pos g2]
   have hpn:Qu n inp (d+1) c=[]:=by unfold Qu;rw[if_pos g2]
   rw[hyes,hF,←hc9];refine Aw i4.box ?_;refine Cd (xs:=E4 c V C) (cs':=E4 c V C) i5 rfl ?_ (hc:=F3 i4.cf);refine Akn 9 (rows:=Ei pth) (t:=0) (v:=pth.length) (fun h=>i7 (by simpa[Ei]using h)) (fun kk sz=>?_);have hlt0:=Aa i5;refine Bg func71 (h:=O6 rfl rfl ((Cr (by rw[Abk];exact hlt0)).trans (Et hlt0)) rfl rfl) ⟨_,rfl,_,_,ids,rfl,?_,?_⟩
   ·exact(i4.cf.chg (Cz _ 0 _) fun i hi hi2=>by simp at hi2;have:=hid i hi;omega).more.given
   ·have hP9:rtP n ls inp k=pth:=by unfold rtP;rw[hyes];simp only[Hc];rw[hc0',←i8,hpn,G4]
    rw[hP9];exact .inl ⟨_,Uv kk sz,rfl,by simp⟩
  ·refine Gz (A1x hr i3 ⟨B,[pth.length]⟩ i4) ?_;intro r S' hP _ _;obtain⟨rfl,ht',hch,hcS⟩:=hP;obtain⟨B',tk'⟩:=S';simp only at ht' hch;subst ht';have i5':B'[0]?=some [zCf]:=(hch.2 0 (Aa i5) h0n).trans i5;have hst':=Uw hr i3 hil2;have i2':Y1 n inp d (Gt n inp c)=Y1 n inp k c0:=by
    rw[←i2,show Y1 n inp (d+1) c=if Hz n c=true then c else Y1 n inp d (Gt n inp c)from rfl,if_neg (by simp[g2])]
   have i8':pth++((if (Gt n inp c).trap=0 then[(Gt n inp c).pt]else[])++Qu n inp d (Gt n inp c))=0::Qu n inp k c0:=by
    have hpn:Qu n inp (d+1) c=(if (Gt n inp c).trap=0 then[(Gt n inp c).pt]else[])++Qu n inp d (Gt n inp c):=if_neg (by simp[g2]);rw[←i8,hpn]
   generalize Gt n inp c=c' at *;refine Bq 60 rfl ?_;refine Aw hcS.box ?_;refine F4 (fun g3=>?_) (fun g3=>?_)
   ·refine Aw hcS.box ?_;refine G9 (M7 (ver:=pth.length) (res:=Ei (pth++[c'.pt])) (tk:=[pth.length+1]) rfl (Ay8 pth) (fun r hr x hx=>by simp at hr;subst hr;simp at hx;subst hx;exact .val _) (by rw[C2];simp;omega) (by simp[Ei]) rfl rfl rfl rfl rfl rfl rfl rfl rfl rfl rfl rfl rfl rfl rfl rfl rfl) rfl rfl ?_;refine Bq 60 rfl ?_;have hl9:(pth++[c'.pt]).length=pth.length+1:=by simp
    refine IH (m+1,c',B',pth++[c'.pt]) ⟨hlt,by simp only;rw[show k-(m+1)=d by omega];exact i2',hst',⟨hcS.box,hcS.cf,hcS.ne⟩,i5',by simp;omega,by simp,by simp only;rw[show k-(m+1)=d by omega,←i8',if_pos (by simpa using g3)];simp⟩ (by simp only;omega) _ _ ⟨Ct ((Ac (by simp only;omega) (by simp only;omega)).trans (by simp only;omega)),rfl,congrArg (fun q=>some (AV.psl (Ei (pth++[c'.pt])) 0 q)) hl9.symm,rfl,rfl,rfl,rfl,trivial⟩ (congrArg (fun q=>St.mk B' [q]) hl9.symm)
   ·refine IH (m+1,c',B',pth) ⟨hlt,by simp only;rw[show k-(m+1)=d by omega];exact i2',hst',hcS,i5',by simp only;omega,i7,by simp only;rw[show k-(m+1)=d by omega,←i8',if_neg (by simpa using g3)];simp⟩ (by simp only;omega) _ _ ⟨Ct ((Ac (by simp only;omega) (by simp only;omega)).trans (by simp only;omega)),rfl,rfl,rfl,rfl,rfl,rfl,trivial⟩ rfl
 ·have hmk:m=k:=by have:=Bd g;simp only at this;omega
  have hc9:c=Y1 n inp k c0:=by rw[←i2,hmk,Fv];rfl
  have hpn:Qu n inp (k-m) c=[]:=by rw[hmk,Fv];rfl
  rw[hyes,hF,←hc9];refine Aw i4.box ?_;refine Cd (xs:=E4 c V C) (cs':=E4 c V C) i5 rfl ?_ (hc:=F3 i4.cf);refine Akn 9 (rows:=Ei pth) (t:=0) (v:=pth.length) (fun h=>i7 (by simpa[Ei]using h)) (fun kk sz=>?_);have hlt0:=Aa i5;refine Bg func71 (h:=O6 rfl rfl ((Cr (by rw[Abk];exact hlt0)).trans (Et hlt0)) rfl rfl) ⟨_,rfl,_,_,ids,rfl,?_,?_⟩
  ·exact(i4.cf.chg (Cz _ 0 _) fun i hi hi2=>by simp at hi2;have:=hid i hi;omega).more.given
  ·have hP9:rtP n ls inp k=pth:=by unfold rtP;rw[hyes];simp only[Hc];rw[hc0',←i8,hpn,G4]
   rw[hP9];exact .inl ⟨_,Uv kk sz,rfl,by simp⟩
def Aeb(l:List Cf):List (List AV):=l.map Iz
instance{n m:Nat}{l:List Cf}:OKR n m (Aeb l):=⟨fun r hr x hx=>by
 obtain⟨c,_,rfl⟩:=zzq68.1 hr;exact(inferInstance:OKL n m (Iz c)).ok x hx⟩
theorem Ya(l:List Cf):(Aeb l).length=l.length:=by simp[Aeb]
theorem Awd(l:List Cf):Ka 8 (Aeb l)=true:=Ku (f:=Iz) (fun _=>rfl) l
def rlM(n:Nd)(ls inp:List Int)(fuel:Int):List Cf:=if Fe n=true then(match rtO n ls inp fuel with
 |some cs=>Zj (Ax n 31).length cs::Xp n inp fuel.toNat (Zj (Ax n 31).length cs)
 |none=>[])else[]
theorem Aj5(n:Nd)(inp:List Int):∀(k:Nat)(c:Cf),(Xp n inp k c).length≤k
 |0,c=>by simp[Xp]
 |k+1,c=>by
  unfold Xp;split
  ·have:=Aj5 n inp k (Gt n inp c);simp;omega
  ·simp
theorem A3s(n:Nd)(hn:wN n≤100000000)(ls inp:List Int)(hls:ls.length≤1000000000)(hil:inp.length≤1000000000)(fuel:Int):Pure X 70 [nd n,.sl (Ei ls) .no,.sl (Ei inp) .no,vi fuel] (.sl (Aeb (rlM n ls inp fuel)) .no):=by
 refine Pure.run func70 ?_;refine Al (Axq n hn) ?_;unfold rlM;cases hr:Fe n with
 |false=>
  rw[if_neg (by decide)];refine Hh ?_;refine Hh ?_;refine A1 ?_;exact Au func70 rfl
 |true=>
 rw[if_pos rfl];have hpts:=(Zy hr).1;refine Ii ?_;refine Al (H2 fuel 0 5000) ?_;cases hf:Bl fuel 0 5000 with
 |false=>
  have hno:rtO n ls inp fuel=none:=by unfold rtO;rw[hf];rfl
  rw[hno];refine Hh ?_;refine A1 ?_;exact Au func70 rfl
 |true=>
 refine Ii ?_;refine Al (Atp inp hil) ?_;cases hin:Yo inp with
 |false=>
  have hno:rtO n ls inp fuel=none:=by unfold rtO;rw[hf,hin];rfl
  rw[hno];refine A1 ?_;exact Au func70 rfl
 |true=>
 refine Ah ?_;refine Al (A1l n hr) ?_;refine Al (Axi n hr ls hls) ?_;cases hbo:Xy (D9 n) ls with
 |none=>
  have hno:rtO n ls inp fuel=none:=by unfold rtO;rw[hf,hin];exact hbo
  rw[hno];refine A1 ?_;exact Au func70 rfl
 |some cs=>
 have hyes:rtO n ls inp fuel=some cs:=by unfold rtO;rw[hf,hin];exact hbo
 rw[hyes];have hSt:StK n (Zj (Ax n 31).length cs):=Agw hr hbo;have hil2:inp.length≤100:=by
  unfold Yo at hin;simp only[Da,J9]at hin;omega
 have hfb:=Cj.1 hf;obtain⟨k,rfl⟩:∃k:Nat,fuel=k:=⟨fuel.toNat,by omega⟩
 rw[Hc];simp only[Av9];generalize Zj (Ax n 31).length cs=c0 at *;refine N1 (d:=9) rfl rfl rfl ?_;refine Ah ?_;refine Bm (Bv (res:=Aeb [c0]) (tk:=[1]) rfl rfl rfl rfl rfl rfl rfl rfl rfl rfl rfl rfl rfl rfl rfl rfl rfl rfl rfl (by simp) rfl rfl) ?_;have hw1:IntKind.i64.wrap ((((D4 (A9 n)).pts:Nat):Int)-1)=(((D4 (A9 n)).pts:Nat):Int)-1:=Ac (by omega) (by omega);refine Av (ι:=Nat×Cf×List Cf) 3 1 (fun q=>q.1≤k∧q.2.2++Xp n inp (k-q.1) q.2.1=c0::Xp n inp k c0∧StK n q.2.1∧q.2.2.length≤q.1+1) (fun q=>[(13,vi q.1),(9,.sl (Aeb q.2.2) (.tok 0)),(3,vi k),(2,.sl (Ei inp) .no),(10,.ptr 1 0 0),(11,.ptr 2 0 0)])
  (fun q=>⟨[[Af n],[Kk n],[Iz q.2.1]],[q.2.2.length]⟩) (fun q=>k-q.1) ?_ (0,c0,[c0]) ⟨Cc _,rfl,hSt,by simp⟩ ⟨rfl,rfl,rfl,rfl,rfl,rfl,trivial⟩
 intro q hq IH;obtain⟨m,c,l⟩:=q;obtain⟨i1,i2,i3,i4⟩:=hq;simp only at i1 i2 i3 i4;refine Bj 100 rfl ?_;have stop:Xp n inp (k-m) c=[]→l=c0::Xp n inp k c0:=fun h=>by rw[h,G4]at i2;exact i2
 by_cases hmk:m<k
 case neg=>
  have:=stop (by rw[show k-m=0 by omega];rfl);refine Ii ?_ (ht:=Kn (by omega));refine Ii ?_;refine Ah ?_;rw[←this];exact Au func70 rfl
 obtain⟨d,hd⟩:∃d,k-m=d+1:=⟨k-m-1,by omega⟩
 rw[hd]at i2 stop;have hrun:Xp n inp (d+1) c=if c.trap=0∧¬c.pt=(((D4 (A9 n)).pts:Nat):Int)-1 then Gt n inp c::Xp n inp d (Gt n inp c)else[]:=rfl;refine Hh ?_ (ht:=Zg (by omega));by_cases ht:c.trap=0
 case neg=>
  have:=stop (by rw[hrun,if_neg fun h=>ht h.1]);refine Ii ?_ (ht:=by simpa using ht);refine Ah ?_;rw[←this];exact Au func70 rfl
 refine Hh ?_ (ht:=by simpa using ht);by_cases hpt:c.pt=(((D4 (A9 n)).pts:Nat):Int)-1
 ·have:=stop (by rw[hrun,if_neg fun h=>h.2 hpt]);refine Ah ?_ (ht:=by rw[hw1];simpa using hpt);rw[←this];exact Au func70 rfl
 rw[hrun,if_pos ⟨ht,hpt⟩]at i2;refine A1 ?_ (ht:=by rw[hw1];simpa using hpt);refine Al (A1k hr i3 hil2) ?_;have hst':=Uw hr i3 hil2;generalize Gt n inp c=c' at *;refine Bm (Bv (res:=Aeb (l++[c'])) (tk:=[(l++[c']).length]) rfl rfl rfl rfl rfl rfl rfl rfl rfl rfl rfl rfl rfl rfl (Ya _) (Awd _) rfl rfl rfl (by rw[Ya];simp;omega) (by simp[Aeb]) (by rw[Ya,Es];rfl)) ?_;refine IH (m+1,c',l++[c']) ⟨hmk,by simp only;rw[show k-(m+1)=d by omega,Fi];exact i2,hst',by simp;omega⟩ (by simp only;omega) _ _ ⟨Ct ((Ac (by simp only;omega) (by simp only;omega)).trans (by simp only;omega)),rfl,rfl,rfl,rfl,rfl,trivial⟩ rfl rfl rfl
theorem Auo(n:Nd)(ls inp:List Int)(fuel:Int)(hil:inp.length≤1000000000):(rlM n ls inp fuel=[]∧rtM n ls inp fuel=zC)∨(∃c l,rlM n ls inp fuel=c::l∧rtM n ls inp fuel=l.getLastD c∧(c::l).length≤5001):=by
 unfold rlM rtM rtF;cases hr:Fe n with
 |false=>exact .inl ⟨rfl,rfl⟩
 |true=>
 rw[if_pos rfl,if_pos rfl];cases hs:rtO n ls inp fuel with
 |none=>exact .inl ⟨rfl,rfl⟩
 |some cs=>
  unfold rtO at hs;split at hs
  ·rename_i hb;simp only[Da]at hb;have hfb:=Cj.1 hb.1;have hil2:inp.length≤100:=by
    have:=hb.2;unfold Yo at this;simp only[Da,J9]at this;omega
   have hSt:=Agw hr hs;refine .inr ⟨_,_,rfl,(Afu hr hil2 fuel.toNat _ hSt (by simp[Zj];omega)).symm,?_⟩;have:=Aj5 n inp fuel.toNat (Zj (Ax n 31).length cs)
   simp;omega
  ·cases hs
def ptM(n:Nd)(ls inp:List Int)(fuel:Int):List Int:=if Fe n=true then rtP n ls inp fuel else[]
theorem At5(n:Nd)(hn:Ai n≤1000000000)(hnum:PrI n)(ls inp:List Int)(hls:ls.length≤1000000000)(hil:inp.length≤1000000000)(fuel:Int):Gives X 33 [nd n,.sl (Ei ls) .no,.sl (Ei inp) .no,vi fuel] (fun r bx=>SlG bx r (Ei (ptM n ls inp fuel))):=by
 have hp:=Ah3 n hn hnum;unfold ptM;refine Gives.run func33 ?_;cases hr:Fe n with
 |false=>
  rw[if_neg (by simp[hr])]at hp;refine Al hp ?_;refine A1 ?_;rw[if_neg (by decide)];exact Bg func33 (h:=rfl) ⟨_,rfl,.inr ⟨rfl,rfl,rfl⟩⟩
 |true=>
  rw[if_pos hr]at hp;refine Al hp ?_;refine Ah ?_;rw[if_pos rfl];refine P5 (A1r hr ls inp hls hil fuel) (.cons (.same _ (inferInstance:OK 0 0 (.cptr (Mf n))).ok) (.cons (.same _ (inferInstance:OK 0 0 (.sl (Ei ls) .no)).ok) (.cons (.same _ (inferInstance:OK 0 0 (.sl (Ei inp) .no)).ok) (.cons (.same _ (.val _)) .nil)))) ?_;intro r bx hP;obtain⟨x,pth,ids0,rfl,hC,hPt⟩:=hP;generalize rtF n ls inp fuel=c0 at *;obtain⟨V0,C0,rfl⟩:=hC.parts;have hH:=hC.held (pre:=[[Af n]]);have hQ:=hPt.held (pre:=[[Af n]]);rw[Le]at hQ;simp only[Hq,Xr]at hH;refine⟨.tup [.agg (E4 c0 (Hq 1 V0) (Hq 1 C0)),Hq 1 pth,vb _],Oh 1 bx,Au8 (by have:=P0 1 (.agg (E4 c0 V0 C0));simpa[Hq,Xr]using this) (P0 1 pth),Mv _ _,?_⟩;have hH:CfB SlB ([Af n]::Oh 1 bx) (.agg (E4 c0 (Hq 1 V0) (Hq 1 C0))) (ids0.map (·+1)) c0:=hH;have hQ:SlB ([Af n]::Oh 1 bx) (Hq 1 pth) (Ei (rtP n ls inp fuel)):=hQ;generalize Hq 1 V0=V at hH⊢;generalize Hq 1 C0=C at hH⊢;generalize Hq 1 pth=y at hQ⊢;rcases hQ.shape with⟨b9,m9,rfl⟩|⟨sp9,rfl⟩
  ·skip
   refine Bq 60 rfl ?_;obtain⟨B0,hB0⟩:∃B0,B0=[Af n]::Oh 1 bx:=⟨_,rfl⟩
   refine Ba ⟨B0,[]⟩ ?_ (by rw[hB0];rfl);rw[←hB0]at hH hQ;refine Mi (b:=B0.length) rfl rfl ?_;refine Cd (b:=B0.length) (cs:=zCf) (xs:=E4 c0 V C) (cs':=E4 c0 V C) (by simp) rfl ?_ (hc:=F3 hH);obtain⟨B1,hB1⟩:∃B1,B1=B0++[[E4 c0 V C]]:=⟨_,rfl⟩
   refine Ba ⟨B1,[]⟩ ?_ (by rw[hB1];exact congrArg (fun x=>St.mk x _) (by rw[Gi _ _ (Bo _),Fv];rfl));have hQ1:=hQ.more (bx':=[[E4 c0 V C]]);rw[←hB1]at hQ1;refine Bg func33 (h:=rfl) ⟨_,rfl,?_⟩;exact hQ1.given
  ·skip
   refine Bq 60 rfl ?_;obtain⟨B0,hB0⟩:∃B0,B0=[Af n]::Oh 1 bx:=⟨_,rfl⟩
   refine Ba ⟨B0,[]⟩ ?_ (by rw[hB0];rfl);rw[←hB0]at hH hQ;refine Mi (b:=B0.length) rfl rfl ?_;refine Cd (b:=B0.length) (cs:=zCf) (xs:=E4 c0 V C) (cs':=E4 c0 V C) (by simp) rfl ?_ (hc:=F3 hH);obtain⟨B1,hB1⟩:∃B1,B1=B0++[[E4 c0 V C]]:=⟨_,rfl⟩
   refine Ba ⟨B1,[]⟩ ?_ (by rw[hB1];exact congrArg (fun x=>St.mk x _) (by rw[Gi _ _ (Bo _),Fv];rfl));have hQ1:=hQ.more (bx':=[[E4 c0 V C]]);rw[←hB1]at hQ1;refine Bg func33 (h:=rfl) ⟨_,rfl,?_⟩;exact hQ1.given
def ptS(l:List Cf):List Int:=(l.filter fun c=>c.trap==0).map (·.pt)
theorem At4(l:List Cf)(c:Cf):ptS (l++[c])=ptS l++if c.trap=0 then[c.pt]else[]:=by
 unfold ptS;rw[Abm,J8];by_cases h:c.trap=0<;>simp[h]
theorem Ajv(c:Cf)(l:List Cf):ptS (c::l)=(if c.trap=0 then[c.pt]else[])++ptS l:=by
 unfold ptS;by_cases h:c.trap=0<;>simp[h]
theorem Aoi(l:List Cf):(ptS l).length≤l.length:=by unfold ptS;rw[U7];exact Ze _ _
theorem Ajr{n:Nd}{inp:List Int}(hr:Fe n=true)(hi:inp.length≤100):∀(k:Nat)(c:Cf),StK n c→c.steps+k≤5000→Qu n inp k c=ptS (Xp n inp k c)
 |0,c,_,_=>rfl
 |k+1,c,hS,hk=>by
  unfold Xp Qu;by_cases hg:Hz n c=true
  ·rw[if_pos hg,if_neg fun h=>by rw[(Vx (by omega)).2 h]at hg;cases hg];rfl
  ·have hg':Hz n c=false:=by simpa using hg
   rw[if_neg hg,if_pos ((Vx (by omega)).1 hg'),Ajv,Ajr hr hi k (Gt n inp c) (Uw hr hS hi) (by rw[Abd hr hS hg'];omega)]
theorem At3(n:Nd)(ls inp:List Int)(fuel:Int):ptM n ls inp fuel=ptS (rlM n ls inp fuel):=by
 unfold ptM rlM rtP;cases hr:Fe n with
 |false=>rfl
 |true=>
 rw[if_pos rfl,if_pos rfl];cases hs:rtO n ls inp fuel with
 |none=>rfl
 |some cs=>
  unfold rtO at hs;split at hs
  ·rename_i hb;simp only[Da]at hb;have hfb:=Cj.1 hb.1;have hil2:inp.length≤100:=by
    have:=hb.2;unfold Yo at this;simp only[Da,J9]at this;omega
   simp only;rw[Ajv,Ajr hr hil2 fuel.toNat _ (Agw hr hs) (by simp[Zj];omega)];simp[Zj]
  ·cases hs
theorem Aoq(n:Nd)(ls inp:List Int)(fuel:Int)(hil:inp.length≤1000000000):(rlM n ls inp fuel).length≤5001:=by
 rcases Auo n ls inp fuel hil with⟨h,_⟩|⟨c,l,h,_,h3⟩
 ·rw[h];simp
 ·rw[h];exact h3
theorem Atn(n:Nd)(hn:wN n≤100000000)(ls inp:List Int)(hls:ls.length≤1000000000)(hil:inp.length≤1000000000)(fuel:Int):Pure X 32 [nd n,.sl (Ei ls) .no,.sl (Ei inp) .no,vi fuel] (.sl (Ei (ptM n ls inp fuel)) .no):=by
 have hp:=A3s n hn ls inp hls hil fuel;rw[At3];have hlen:=Aoq n ls inp fuel hil;generalize rlM n ls inp fuel=l at *;have hcl:=Ya l;refine Pure.run func32 ?_;refine N1 (d:=9) rfl rfl rfl ?_;refine Al hp ?_;refine Av (ι:=Nat) 1 1 (fun i=>i≤l.length) (fun i=>[(11,vi i),(10,.sl (Aeb l) .no),(9,.sl (Ei (ptS (l.take i))) (.tok 0))]) (fun i=>⟨[[Af n]],[(ptS (l.take i)).length]⟩) (fun i=>l.length-i) ?_ 0 (Cc _) ⟨rfl,rfl,rfl,trivial⟩;intro i hi IH;refine Dh (fun h=>?_) (fun h=>?_)
 ·have hlt:i<l.length:=by have:=A7 h;rw[hcl]at this;omega
  obtain⟨c,hc⟩:=Ab l hlt;have ht:l.take (i+1)=l.take i++[c]:=by rw[G7,hc];rfl
  have hs:=At4 (l.take i) c;rw[←ht]at hs;have hsl:(ptS (l.take i)).length≤i:=Nt (Aoi _) (by rw[Ti];omega);refine B7 i (by omega) (Gf (f:=Iz) hc) ?_;refine Ag (fun g=>?_) (fun g=>?_)
  ·have g':c.trap=0:=by simpa using g
   rw[if_pos g']at hs;refine B7 i (by omega) (Gf (f:=Iz) hc) ?_;refine Bm (Bv (res:=Ei (ptS (l.take (i+1)))) (tk:=[(ptS (l.take (i+1))).length]) rfl rfl rfl rfl rfl rfl rfl rfl rfl rfl rfl rfl rfl rfl (C2 _) (Amx _) rfl rfl rfl (by rw[C2];simp;omega) (by rw[hs];simp[Ei]) (by rw[C2,hs,Es];rfl)) ?_;exact IH (i+1) hlt (by omega) _ _ ⟨vsx (by omega),rfl,rfl,trivial⟩ rfl rfl rfl
  ·have g':¬c.trap=0:=by simpa using g
   rw[if_neg g',G4]at hs;exact IH (i+1) hlt (by omega) _ _ ⟨vsx (by omega),rfl,congrArg (fun q=>some (AV.sl (Ei q) (.tok 0))) hs.symm,trivial⟩ (by rw[hs];rfl) rfl rfl
 ·have:i=l.length:=by have:=Bd h;rw[hcl]at this;omega
  rw[this,I8];exact Au func32 rfl
theorem Auv{α:Type}(l:List α)(a b:α):(l++[a]).set l.length b=l++[b]:=by
 rw[Gi _ _ (Bo _),Fv];rfl
theorem InG.held{l:List Int}{r:AV}{bx pre:List (List (List AV))}{d:Nat}(hd:pre.length=d)(h:InG l r bx):∃b,b<bx.length∧r=.bsl b l.length∧(pre++Oh d bx)[b+d]?=some (Ei l):=by
 obtain⟨b,rfl,hb⟩:=h;refine⟨b,Aa hb,rfl,?_⟩;rw[Gj (by omega),hd,Ad3,Oh,Gm,hb,Km,Le]
theorem Al3{S:St}{n:Nd}{lo hi b:Nat}(hn:Ai n≤1000000000)(h:Zs true lo hi S.boxes b n):Fz S 0 0 (ndB b n) (nd n):=by
 refine .agg _ _ rfl fun j x y hx hy=>?_
 match j,hx,hy with
 |0,hx,hy=>simp[Af]at hx hy;subst hx;subst hy;exact .same _ (.val _)
 |1,hx,hy=>simp[Af]at hx hy;subst hx;subst hy;exact .same _ (.val _)
 |2,hx,hy=>simp[Af]at hx hy;subst hx;subst hy;exact .same _ (.val _)
 |3,hx,hy=>simp[Af]at hx hy;subst hx;subst hy;exact A24 n hn h
 |j+4,hx,_=>simp at hx
theorem Vo{S:St}{l:List Int}{b:Nat}(hl:l.length≤1000000000)(h:S.boxes[b]?=some (Ei l)):Fz S 0 0 (.bsl b l.length) (.sl (Ei l) .no):=
 SlB.flat (.inl ⟨b,[],by rw[C2],by rw[G4];exact h⟩) (by rw[C2];omega) inferInstance
theorem A3l:(∀n:Nd,mcN n+3≤3*Ai n)∧∀l:List Nd,mcL l≤3*A3 l:=by
 refine Ro (fun k s m ks h=>?_) (by simp[mcL]) fun x l h1 h2=>?_
 ·have:=Ck (.mk k s m ks);simp only[Ge]at this;simp only[mcN];omega
 ·simp only[mcL,A3];omega
theorem Au1(n:Nd)(l li:List Int)(fuel:Int)(hpn:PrI n)(hln:LnI n)(hll:l.length≤9223372036854775807)(hli:li.length≤9223372036854775807):Pure X 6 [nd n,.sl (Ei l) .no,.sl (Ei li) .no,vi fuel] (vb true):=by
 have hzl:=C2 l;refine Pure.run func6 ?_;refine Ag (fun g0=>?_) (fun g0=>?_)
 ·exact Au func6 rfl
 have hl:l.length≤1048576:=by have:=Bd g0;rw[hzl]at this;omega
 have hzli:=C2 li;refine Ag (fun g9=>?_) (fun g9=>?_)
 ·exact Au func6 rfl
 have hli2:li.length≤1048576:=by have:=Bd g9;rw[hzli]at this;omega
 refine Al (A4w n hln 1048576 (by omega) (by omega)) ?_;refine Ag (fun g=>?_) (fun g=>?_)
 ·exact Au func6 rfl
 have g1:=Aox (show 0≤szR (swN n) 1048576 by have:=Bd g;omega);have w1:=A4a.1 n;have c1:=Rx n;have hcn:Ai n≤1000000000:=by omega
 have hW:(ptM n l li fuel).length≤5001:=by rw[At3];exact Nt (Aoi _) (Aoq n l li fuel (by omega))
 have hmc:mcN n≤10000000000:=by have:=A3l.1 n;omega
 refine Al (Au2 n hcn) ?_;refine Al (Wl l (by omega)) ?_;refine Al (Wl li (by omega)) ?_;refine Al (Atn n (by omega) l li (by omega) (by omega) fuel) ?_;have hq:=At5 n hcn hpn l li (by omega) (by omega) fuel;generalize ptM n l li fuel=W at *;have hzW:=C2 W;have gx:∀{bx more:List (List (List AV))} {i:Nat} {y:List (List AV)},bx[i]?=some y→(bx++more)[i]?=some y:=fun{bx more i y} h=>by rw[Cr (Aa h)];exact h
 have new:∀(bx:List (List (List AV))) (y:List (List AV)),(bx++[y])[bx.length]?=some y:=fun bx y=>by simp
 have hin:∀x,Ok 0 0 (vi x):=fun x=>.val _;refine P5 (A19 n hcn) (.cons (.same _ (inferInstance:OK 0 0 (nd n)).ok) .nil) ?_;intro r bx1 hP;obtain⟨b,rfl,hT⟩:=hP;refine⟨ndB (b+1) n,Oh 1 bx1,Ath n,Mv _ _,?_⟩;obtain⟨S1,hS1⟩:∃S1:St,S1=⟨[Af n]::Oh 1 bx1,[]⟩:=⟨_,rfl⟩
 refine Ba S1 ?_ hS1.symm;have hT1:Zs true 1 S1.boxes.length S1.boxes (b+1) n:=by
  rw[hS1];exact Pg n (by omega) (by simp[Pp]) (fun _ _ _ _ h=>h) (Acr n (d:=1) (pre:=[[Af n]]) rfl hT)
 have z0:S1.boxes[0]?=some [Af n]:=by rw[hS1];rfl
 have l1:1≤S1.boxes.length:=by rw[hS1];simp
 have r0:([Af n]:List (List AV))[0]?=some (Af n):=rfl;have rz:([zN]:List (List AV))[0]?=some zN:=rfl;refine Mi rfl rfl ?_;refine Rk (new _ _) rz rfl ?_;obtain⟨S2,hS2⟩:∃S2:St,S2=⟨S1.boxes++[[[vi n.kind,str n.name,vi n.num,.bsl (b+1) n.kids.length]]],S1.toks⟩:=⟨_,rfl⟩
 refine Ba S2 ?_ (by rw[hS2];exact congrArg (fun x=>St.mk x _) (Auv _ _ _));have l2:S2.boxes.length=S1.boxes.length+1:=by rw[hS2];simp
 refine P5 (Au3 l (by omega)) (.cons (.same _ (inferInstance:OK 0 0 (.sl (Ei l) .no)).ok) .nil) ?_;intro r bx2 hP;obtain⟨c,hc,rfl,hx1⟩:=hP.held (pre:=S2.boxes) rfl;refine⟨.bsl (c+S2.boxes.length) l.length,Oh S2.boxes.length bx2,.bsl c _,Mv _ _,?_⟩;obtain⟨S3,hS3⟩:∃S3:St,S3=⟨S2.boxes++Oh S2.boxes.length bx2,S2.toks⟩:=⟨_,rfl⟩
 refine Ba S3 ?_ hS3.symm;have l3:S3.boxes.length=S2.boxes.length+bx2.length:=by rw[hS3];simp[Pp]
 have up3:∀{i:Nat} {y:List (List AV)},S1.boxes[i]?=some y→S3.boxes[i]?=some y:=fun h=>by rw[hS3,hS2];exact gx (gx h)
 have z8:S3.boxes[S1.boxes.length]?=some [[vi n.kind,str n.name,vi n.num,.bsl (b+1) n.kids.length]]:=by rw[hS3,hS2];exact gx (new _ _)
 have r8:([[vi n.kind,str n.name,vi n.num,.bsl (b+1) n.kids.length]]:List (List AV))[0]?=some [vi n.kind,str n.name,vi n.num,.bsl (b+1) n.kids.length]:=rfl;have hT3:Zs true 1 S1.boxes.length S3.boxes (b+1) n:=Pg n (Bo _) (Bo _) (fun _ _ _ _ h=>up3 h) hT1;have hx3:S3.boxes[c+S2.boxes.length]?=some (Ei l):=by rw[hS3];exact hx1
 refine Bq 60 rfl ?_;refine P5 (Au3 li (by omega)) (.cons (.same _ (inferInstance:OK 0 0 (.sl (Ei li) .no)).ok) .nil) ?_;intro r bx9 hP;obtain⟨c9,hc9,rfl,hx9⟩:=hP.held (pre:=S3.boxes) rfl;refine⟨.bsl (c9+S3.boxes.length) li.length,Oh S3.boxes.length bx9,.bsl c9 _,Mv _ _,?_⟩;obtain⟨R3,hR3⟩:∃R3:St,R3=⟨S3.boxes++Oh S3.boxes.length bx9,S3.toks⟩:=⟨_,rfl⟩
 refine Ba R3 ?_ hR3.symm;have lr3:R3.boxes.length=S3.boxes.length+bx9.length:=by rw[hR3];simp[Pp]
 have upr:∀{i:Nat} {y:List (List AV)},S3.boxes[i]?=some y→R3.boxes[i]?=some y:=fun h=>by rw[hR3];exact gx h
 have z8:=upr z8;have hT3:Zs true 1 S1.boxes.length R3.boxes (b+1) n:=Pg n (Bo _) (Bo _) (fun _ _ _ _ h=>upr h) hT3;have hx3:=upr hx3;have up3:∀{i:Nat} {y:List (List AV)},S1.boxes[i]?=some y→R3.boxes[i]?=some y:=fun h=>upr (up3 h);have hy3:R3.boxes[c9+S3.boxes.length]?=some (Ei li):=by rw[hR3];exact hx9
 refine Bq 60 rfl ?_;refine Lo z8 r8 ?_;refine P5 hq (.cons (Al3 hcn hT3) (.cons (Vo (by omega) hx3) (.cons (Vo (by omega) hy3) (.cons (.same _ (hin _)) .nil)))) ?_;intro r bx3 hC;have hC3:=hC.held (pre:=R3.boxes);rw[Le]at hC3;refine⟨Hq R3.boxes.length r,Oh R3.boxes.length bx3,P0 _ _,Mv _ _,?_⟩;obtain⟨S5,hS5⟩:∃S5:St,S5=⟨R3.boxes++Oh R3.boxes.length bx3,R3.toks⟩:=⟨_,rfl⟩
 refine Ba S5 ?_ hS5.symm;have l5:S5.boxes.length=R3.boxes.length+bx3.length:=by rw[hS5];simp[Pp]
 have hC5:SlB S5.boxes (Hq R3.boxes.length r) (Ei W):=by rw[hS5];exact hC3
 have hj:∀j,j∈Jr (Hq R3.boxes.length r)→R3.boxes.length≤j∧j<S5.boxes.length:=fun j h=>by
  refine⟨?_,hC5.lt j h⟩;rw[Ab2]at h;obtain⟨i,_,rfl⟩:=zzq68.1 h;exact Nat.le_add_left _ _
 generalize Hq R3.boxes.length r=Y at *;have up5:∀{i:Nat} {y:List (List AV)},R3.boxes[i]?=some y→S5.boxes[i]?=some y:=fun h=>by rw[hS5];exact gx h
 have z05:=up5 (up3 z0);have z85:=up5 z8;have hT5:Zs true 1 S1.boxes.length S5.boxes (b+1) n:=Pg n (Bo _) (Bo _) (fun _ _ _ _ h=>up5 h) hT3;have hx5:=up5 hx3;have hy5:=up5 hy3;have Xh:Ok 0 0 (.sl (Ei W) .no):=(inferInstance:OK 0 0 (.sl (Ei W) .no)).ok;have okN:Ok 0 0 (nd n):=(inferInstance:OK 0 0 (nd n)).ok;have okL:Ok 0 0 (.sl (Ei l) .no):=(inferInstance:OK 0 0 (.sl (Ei l) .no)).ok;rcases hC5.shape with⟨y1,y2,rfl⟩|⟨y1,rfl⟩
 ·skip
  refine Bq 60 rfl ?_;refine Im (Tg W (by omega)) (.cons (hC5.flat (by rw[hzW];omega) inferInstance) (.cons (.same _ Xh) .nil)) (.val _) ?_;refine Bs ?_;refine C8 0 (by kernel_rfl) ?_;refine A0 (Kp z85 r8) ?_;refine A0 (Kp z05 r0) ?_;refine Ja (Au2 n hcn) ?_;refine A0 (Px (A35 n hcn) (.cons (Al3 hcn hT5) (.cons (.same _ okN) .nil)) (.val _)) ?_;refine Ar ?_;refine Gn ?_;refine Bs ?_;refine G8 (Wl l (by omega)) ?_;refine Im (Tg l (by omega)) (.cons (Vo (by omega) hx5) (.cons (.same _ okL) .nil)) (.val _) ?_;refine Bs ?_;refine G8 (Wl li (by omega)) ?_;refine Im (Tg li (by omega)) (.cons (Vo (by omega) hy5) (.cons (.same _ (inferInstance:OK 0 0 (.sl (Ei li) .no)).ok) .nil)) (.val _) ?_;refine Bs ?_;refine Lo z85 r8 ?_;refine Gz (Aoy n (k:=1) (Am9 n hT5) (Bo _) (by omega)) ?_;intro r S6 hP _ _;obtain⟨rfl,ht6,hM6⟩:=hP;have far6:∀{i:Nat} {y:List (List AV)},i<1∨S1.boxes.length≤i→S5.boxes[i]?=some y→S6.boxes[i]?=some y:=fun hi h=>(hM6.far _ (Aa h) hi).trans h;have hC6:=hC5.chg hM6.chg fun j h1 h2=>by
   have:=hj j h1;obtain⟨i,hi,rfl⟩:=zzq68.1 h2;have:=zzq55.1 hi;omega
  have hx6:=far6 (.inr (by omega)) hx5;have hy6:=far6 (.inr (by omega)) hy5;have z06:=far6 (.inl (by omega)) z05;refine Bq 60 rfl ?_;refine Gz (V1 (l:=l) (x:=.bsl (c+S2.boxes.length) l.length) (.inl ⟨_,[],by rw[hzl],by rw[G4];exact hx6⟩) (1+mcN n) (by omega)) ?_;intro r S7 hP _ _;obtain⟨rfl,ht7,hc7,_⟩:=hP;have far7:∀{i:Nat} {y:List (List AV)},i≠c+S2.boxes.length→S6.boxes[i]?=some y→S7.boxes[i]?=some y:=fun hi h=>(hc7.2 _ (Aa h) (by simpa[Jr]using hi)).trans h;have hC7:=hC6.chg hc7 fun j h1 h2=>by
   have:=hj j h1;simp[Jr]at h2;omega
  have hy7:=far7 (by omega) hy6;have z07:=far7 (by omega) z06;refine Bq 60 rfl ?_;refine Gz (V1 (l:=li) (x:=.bsl (c9+S3.boxes.length) li.length) (.inl ⟨_,[],by rw[hzli],by rw[G4];exact hy7⟩) (1+mcN n+l.length) (by omega)) ?_;intro r Q7 hP _ _;obtain⟨rfl,htq,hcq,_⟩:=hP;have farq:∀{i:Nat} {y:List (List AV)},i≠c9+S3.boxes.length→S7.boxes[i]?=some y→Q7.boxes[i]?=some y:=fun hi h=>(hcq.2 _ (Aa h) (by simpa[Jr]using hi)).trans h;have hC7:=hC7.chg hcq fun j h1 h2=>by
   have:=hj j h1;simp[Jr]at h2;omega
  have z07:=farq (by omega) z07;refine Bq 60 rfl ?_;refine Nn ?_ (ht:=Kn (by omega));refine Im (Tg W (by omega)) (.cons (hC7.flat (by rw[hzW];omega) inferInstance) (.cons (.same _ Xh) .nil)) (.val _) ?_;refine Bs ?_;refine Gz (V1 (l:=W) hC7 1 (by omega)) ?_;intro r S8 hP _ _;obtain⟨rfl,ht8,hc8,hC8⟩:=hP;have z08:S8.boxes[0]?=some [Af n]:=(hc8.2 _ (Aa z07) (fun h=>by have:=hj _ h;omega)).trans z07;refine Bq 60 rfl ?_;refine Im (Vz 1 W.length (by omega)) (.cons (hC8.flat (by rw[C2,N8];omega) inferInstance) (.cons (.same _ (hin _)) .nil)) (.val _) ?_;refine Bs ?_ (ht:=Kn (by omega));refine Bs ?_ (ht:=by simp);refine Lo z08 r0 ?_;refine G8 (Au2 n hcn) ?_;refine G8 (Wl l (by omega)) ?_;refine G8 (Wl li (by omega)) ?_;refine P5 hq (.cons (.same _ okN) (.cons (.same _ okL) (.cons (.same _ (inferInstance:OK 0 0 (.sl (Ei li) .no)).ok) (.cons (.same _ (hin _)) .nil)))) ?_;intro r bx4 hD;have hD9:=hD.held (pre:=S8.boxes);rw[Le]at hD9;refine⟨Hq S8.boxes.length r,Oh S8.boxes.length bx4,P0 _ _,Mv _ _,?_⟩;obtain⟨S9,hS9⟩:∃S9:St,S9=⟨S8.boxes++Oh S8.boxes.length bx4,S8.toks⟩:=⟨_,rfl⟩
  refine Ba S9 ?_ hS9.symm;have hC10:=hC8.more (bx':=Oh S8.boxes.length bx4);have hS9b:S8.boxes++Oh S8.boxes.length bx4=S9.boxes:=by rw[hS9]
  rw[hS9b]at hC10 hD9;generalize Hq S8.boxes.length r=Z at *;rcases hD9.shape with⟨y3,y4,rfl⟩|⟨y3,rfl⟩
  ·skip
   refine Bq 60 rfl ?_;refine Im (Tg W (by omega)) (.cons (hD9.flat (by rw[hzW];omega) inferInstance) (.cons (.same _ Xh) .nil)) (.val _) ?_;refine Bs ?_;refine Im (Vz 1 W.length (by omega)) (.cons (hC10.flat (by rw[C2,N8];omega) inferInstance) (.cons (.same _ (hin _)) .nil)) (.val _) ?_;refine Bs ?_ (ht:=Kn (by omega));refine Bs ?_ (ht:=by simp);exact Au func6 rfl
  ·skip
   refine Bq 60 rfl ?_;refine Im (Tg W (by omega)) (.cons (hD9.flat (by rw[hzW];omega) inferInstance) (.cons (.same _ Xh) .nil)) (.val _) ?_;refine Bs ?_;refine Im (Vz 1 W.length (by omega)) (.cons (hC10.flat (by rw[C2,N8];omega) inferInstance) (.cons (.same _ (hin _)) .nil)) (.val _) ?_;refine Bs ?_ (ht:=Kn (by omega));refine Bs ?_ (ht:=by simp);exact Au func6 rfl
 ·skip
  refine Bq 60 rfl ?_;refine Im (Tg W (by omega)) (.cons (hC5.flat (by rw[hzW];omega) inferInstance) (.cons (.same _ Xh) .nil)) (.val _) ?_;refine Bs ?_;refine C8 0 (by kernel_rfl) ?_;refine A0 (Kp z85 r8) ?_;refine A0 (Kp z05 r0) ?_;refine Ja (Au2 n hcn) ?_;refine A0 (Px (A35 n hcn) (.cons (Al3 hcn hT5) (.cons (.same _ okN) .nil)) (.val _)) ?_;refine Ar ?_;refine Gn ?_;refine Bs ?_;refine G8 (Wl l (by omega)) ?_;refine Im (Tg l (by omega)) (.cons (Vo (by omega) hx5) (.cons (.same _ okL) .nil)) (.val _) ?_;refine Bs ?_;refine G8 (Wl li (by omega)) ?_;refine Im (Tg li (by omega)) (.cons (Vo (by omega) hy5) (.cons (.same _ (inferInstance:OK 0 0 (.sl (Ei li) .no)).ok) .nil)) (.val _) ?_;refine Bs ?_;refine Lo z85 r8 ?_;refine Gz (Aoy n (k:=1) (Am9 n hT5) (Bo _) (by omega)) ?_;intro r S6 hP _ _;obtain⟨rfl,ht6,hM6⟩:=hP;have far6:∀{i:Nat} {y:List (List AV)},i<1∨S1.boxes.length≤i→S5.boxes[i]?=some y→S6.boxes[i]?=some y:=fun hi h=>(hM6.far _ (Aa h) hi).trans h;have hC6:=hC5.chg hM6.chg fun j h1 h2=>by
   have:=hj j h1;obtain⟨i,hi,rfl⟩:=zzq68.1 h2;have:=zzq55.1 hi;omega
  have hx6:=far6 (.inr (by omega)) hx5;have hy6:=far6 (.inr (by omega)) hy5;have z06:=far6 (.inl (by omega)) z05;refine Bq 60 rfl ?_;refine Gz (V1 (l:=l) (x:=.bsl (c+S2.boxes.length) l.length) (.inl ⟨_,[],by rw[hzl],by rw[G4];exact hx6⟩) (1+mcN n) (by omega)) ?_;intro r S7 hP _ _;obtain⟨rfl,ht7,hc7,_⟩:=hP;have far7:∀{i:Nat} {y:List (List AV)},i≠c+S2.boxes.length→S6.boxes[i]?=some y→S7.boxes[i]?=some y:=fun hi h=>(hc7.2 _ (Aa h) (by simpa[Jr]using hi)).trans h;have hC7:=hC6.chg hc7 fun j h1 h2=>by
   have:=hj j h1;simp[Jr]at h2;omega
  have hy7:=far7 (by omega) hy6;have z07:=far7 (by omega) z06;refine Bq 60 rfl ?_;refine Gz (V1 (l:=li) (x:=.bsl (c9+S3.boxes.length) li.length) (.inl ⟨_,[],by rw[hzli],by rw[G4];exact hy7⟩) (1+mcN n+l.length) (by omega)) ?_;intro r Q7 hP _ _;obtain⟨rfl,htq,hcq,_⟩:=hP;have farq:∀{i:Nat} {y:List (List AV)},i≠c9+S3.boxes.length→S7.boxes[i]?=some y→Q7.boxes[i]?=some y:=fun hi h=>(hcq.2 _ (Aa h) (by simpa[Jr]using hi)).trans h;have hC7:=hC7.chg hcq fun j h1 h2=>by
   have:=hj j h1;simp[Jr]at h2;omega
  have z07:=farq (by omega) z07;refine Bq 60 rfl ?_;refine Nn ?_ (ht:=Kn (by omega));refine Im (Tg W (by omega)) (.cons (hC7.flat (by rw[hzW];omega) inferInstance) (.cons (.same _ Xh) .nil)) (.val _) ?_;refine Bs ?_;refine Gz (V1 (l:=W) hC7 1 (by omega)) ?_;intro r S8 hP _ _;obtain⟨rfl,ht8,hc8,hC8⟩:=hP;have z08:S8.boxes[0]?=some [Af n]:=(hc8.2 _ (Aa z07) (fun h=>by have:=hj _ h;omega)).trans z07;refine Bq 60 rfl ?_;refine Im (Vz 1 W.length (by omega)) (.cons (hC8.flat (by rw[C2,N8];omega) inferInstance) (.cons (.same _ (hin _)) .nil)) (.val _) ?_;refine Bs ?_ (ht:=Kn (by omega));refine Bs ?_ (ht:=by simp);refine Lo z08 r0 ?_;refine G8 (Au2 n hcn) ?_;refine G8 (Wl l (by omega)) ?_;refine G8 (Wl li (by omega)) ?_;refine P5 hq (.cons (.same _ okN) (.cons (.same _ okL) (.cons (.same _ (inferInstance:OK 0 0 (.sl (Ei li) .no)).ok) (.cons (.same _ (hin _)) .nil)))) ?_;intro r bx4 hD;have hD9:=hD.held (pre:=S8.boxes);rw[Le]at hD9;refine⟨Hq S8.boxes.length r,Oh S8.boxes.length bx4,P0 _ _,Mv _ _,?_⟩;obtain⟨S9,hS9⟩:∃S9:St,S9=⟨S8.boxes++Oh S8.boxes.length bx4,S8.toks⟩:=⟨_,rfl⟩
  refine Ba S9 ?_ hS9.symm;have hC10:=hC8.more (bx':=Oh S8.boxes.length bx4);have hS9b:S8.boxes++Oh S8.boxes.length bx4=S9.boxes:=by rw[hS9]
  rw[hS9b]at hC10 hD9;generalize Hq S8.boxes.length r=Z at *;rcases hD9.shape with⟨y3,y4,rfl⟩|⟨y3,rfl⟩
  ·skip
   refine Bq 60 rfl ?_;refine Im (Tg W (by omega)) (.cons (hD9.flat (by rw[hzW];omega) inferInstance) (.cons (.same _ Xh) .nil)) (.val _) ?_;refine Bs ?_;refine Im (Vz 1 W.length (by omega)) (.cons (hC10.flat (by rw[C2,N8];omega) inferInstance) (.cons (.same _ (hin _)) .nil)) (.val _) ?_;refine Bs ?_ (ht:=Kn (by omega));refine Bs ?_ (ht:=by simp);exact Au func6 rfl
  ·skip
   refine Bq 60 rfl ?_;refine Im (Tg W (by omega)) (.cons (hD9.flat (by rw[hzW];omega) inferInstance) (.cons (.same _ Xh) .nil)) (.val _) ?_;refine Bs ?_;refine Im (Vz 1 W.length (by omega)) (.cons (hC10.flat (by rw[C2,N8];omega) inferInstance) (.cons (.same _ (hin _)) .nil)) (.val _) ?_;refine Bs ?_ (ht:=Kn (by omega));refine Bs ?_ (ht:=by simp);exact Au func6 rfl
end Go.V
namespace Go.Proofs.YtojhghmilenfkaaGreatDoor.pathOf
open Go Go.Proofs Go.V Go.ChangeShapes Go.WideShapes Go.ChangeAt Go.RowKit Go.Proofs.Tryz
set_option maxRecDepth 100000
theorem Asi(H:Type)(enc:TypeId×Value→H)(W:World)(base:Nat)(args:Array Value)(ds gs:List (DataW H))(before:List MemPlace)
 (hval:∀(j:Nat) t v,f6.params[j]?=some t→args[j]?=some v→Value.okWide prog W .any base t v)
 (hW:DataW.Whole enc prog f6.params.toList Rows.fnExactPathOfSpec.vars false W args.toList ds gs before)(hL:laidMetH prog Rows.fnExactPathOfRow.laid W)(hs:W.ShapedOpen prog) :
 Calls prog 6 args W fun e W'=>∃v,e=.returned v∧Rows.fnExactPathOfSpec.post enc prog f6 false true false false W args v W':=by
 have hW':=hW;obtain⟨p,q,hA0,_,_,_,_⟩:=hW;have hA:DataW.TrodAll enc prog W 0 (fun _=>true) true [24,37,37,3] args.toList ds p:=hA0;obtain⟨v0,vs0,d0,ds0,p0,q0,hargs,rfl,rfl,h0,r0⟩:=trodAll_cons hA;obtain⟨v1,vs1,d1,ds1,p1,q1,hargs1,rfl,rfl,h1,r1⟩:=trodAll_cons r0;obtain⟨v2,vs2,d2,ds2,p2,q2,hargs2,rfl,rfl,h2,r2⟩:=trodAll_cons r1;obtain⟨v3,vs3,d3,ds3,p3,q3,hargs3,rfl,rfl,h3,r3⟩:=trodAll_cons r2;obtain⟨rfl,rfl,rfl⟩:=trodAll_nil r3;subst hargs3;subst hargs2;subst hargs1;have ha0:args[0]?=some v0:=by rw[←Tc,hargs];rfl
 have ha1:args[1]?=some v1:=by rw[←Tc,hargs];rfl
 have ha2:args[2]?=some v2:=by rw[←Tc,hargs];rfl
 have ha3:args[3]?=some v3:=by rw[←Tc,hargs];rfl
 obtain⟨n,n1,n2,n3⟩:=Axh (hval 0 24 v0 rfl ha0) h0;obtain⟨l,l2,l3⟩:=Anw (hval 1 37 v1 rfl ha1) h1;obtain⟨i,i2,i3⟩:=Anw (hval 2 37 v2 rfl ha2) h2;obtain⟨k,k2,k3⟩:=A05 (hval 3 3 v3 rfl ha3) h3;have hR:RelL W args.toList [nd n,inl l,inl i,vi k]:=by rw[hargs];exact .cons n3 (.cons l3 (.cons i3 (.cons k3 .nil)))
 refine(Ayr (Au1 n l i k n1 n2 l2 i2) hs hL hR).mono fun r W' ⟨he,hb⟩=>?_;refine⟨_,he,Aqj As8 (fun t ht=>?_) rfl Awe A0m A0l A0k hW' hb (fun g1 hg=>?_) rfl underlying4⟩
 ·have h:t∈[24,37,37,3]:=ht;simp only[zzq13,Wv,or_false]at h;rcases h with rfl|rfl|rfl|rfl
  ·exact⟨by kernel_rfl,A7 (by kernel_rfl)⟩
  ·exact⟨by kernel_rfl,A7 (by kernel_rfl)⟩
  ·exact⟨by kernel_rfl,A7 (by kernel_rfl)⟩
  ·exact⟨by kernel_rfl,A7 (by kernel_rfl)⟩
 ·subst hg;rfl
set_option maxRecDepth 100000
theorem ab{a b:Bool}(h:a=true)(g:b=true):(a&&b)=true:=by rw[h,g];rfl
set_option maxHeartbeats 100000000 in
theorem A0j:joinedFacts Tryz.pinned.checked.prog 6 f6 (OpenSpec.ofChange Rows.fnExactPathOfSpec).bare Rows.fnExactPathOfRow=true:=by
 unfold joinedFacts
 iterate 31 refine ab ?_ ?_
 all_goals as_aux_lemma=>kernel_rfl
set_option maxRecDepth 100000
theorem Ata(os:Os):laidMet prog Rows.fnExactPathOfRow.laid ((As9 os).forCall (fun _ _=>0) ⟨#[],#[Axg,Aa7,Aa7,.int .i64 0],[]⟩).memory:=laidMet_of_run' 8 (by kernel_rfl) (by kernel_rfl)
theorem reads(os:Os){H:Type}(enc:TypeId×Value→H):∃places,DataW.whole enc prog ((As9 os).forCall (fun _ _=>0) ⟨#[],#[Axg,Aa7,Aa7,.int .i64 0],[]⟩).memory f6.params.toList Rows.fnExactPathOfSpec.vars false #[Axg,Aa7,Aa7,.int .i64 0].toList 8=some ([.agg [.lit (.int .i64 0),.lit (.string []),.lit (.int .i64 0),.nil],.nil,.nil,.lit (.int .i64 0)],[.agg (condB.map fun b=>.lit (.string b))],places):=
 ⟨MemPlace.row ⟨1,0,none⟩ 6,by kernel_rfl⟩
theorem A1c(os:Os)(started:os.Started)(H:Type)(enc:TypeId×Value→H)(F:Stop.Interp) :
 ReturnsInHanded {} Tryz.checked os 6 .any ((OpenSpec.ofChange Rows.fnExactPathOfSpec).preRow enc prog f6 Rows.fnExactPathOfRow.domain false Rows.fnExactPathOfRow.laid)
  (((OpenSpec.ofChange Rows.fnExactPathOfSpec).at F).post enc prog f6 false true false false):=by
 obtain⟨places,hx⟩:=reads os enc;refine returnsInHanded_of_row (C:=Tryz.checked) (s:=OpenSpec.ofChange Rows.fnExactPathOfSpec) A4q started (by kernel_rfl) func6
  (witness_row_at (enc:=enc) (C:=Tryz.checked) false (As9 os) #[Axg,Aa7,Aa7,.int .i64 0] rfl (by kernel_rfl) (by kernel_rfl) (by kernel_rfl)
    (OpenSpec.preRow_of_cond 8 hx (by kernel_rfl) (fun k hk=>by cases hk) (by kernel_rfl) (Ata os))) ?_
 intro W base args ds gs before hval hW _ _ _ hL hs _;exact Asi H enc W base args ds gs before hval hW hL hs
theorem A4v:Rows.FnExactPathOfSaid:=
 OpenClaim.holds_of_cond 6 f6 rfl rfl rfl rfl rfl rfl rfl ⟨rfl,rfl,rfl,rfl,rfl⟩ rfl rfl rfl rfl rfl (by kernel_rfl) func6 A0j
  (A7 (by kernel_rfl)) (by unfold Func.isWrapper;first|(rw[if_pos (by decide +kernel)];kernel_rfl)|(rw[if_neg (by decide +kernel)];exact⟨rfl,rfl⟩))
  (fun os started H enc _ F=>by rw[OpenClaim.pre_eq_preRow];exact A1c os started H enc F)
theorem plain(f:FuncId)(fn:Func)(hf:Tryz.pinned.checked.prog.funcNamed "loop.example/g00093/laws.FnExactPathOf" = some f)(hfn:Tryz.pinned.checked.prog.funcs[f]?=some fn) :
 true=Tryz.pinned.checked.prog.looks []∧∀(j:Nat) t,fn.params[j]?=some t→Tryz.pinned.checked.prog.wantsStandIn t=false:=by
 obtain rfl:f=6:=Option.some.inj ((show prog.funcNamed "loop.example/g00093/laws.FnExactPathOf" = some 6 by kernel_rfl).symm.trans hf) |>.symm;obtain rfl:fn=f6:=(Option.some.inj (func6.symm.trans hfn)).symm;refine⟨by kernel_rfl,fun j t ht=>?_⟩;have ht':(#[24,37,37,3]:Array Nat)[j]?=some t:=ht;have h:t=24∨t=37∨t=37∨t=3:=by simpa using Array.mem_of_getElem? ht'
 rcases h with rfl|rfl|rfl|rfl
 ·exact(show prog.wantsStandIn 24=false by kernel_rfl)
 ·exact(show prog.wantsStandIn 37=false by kernel_rfl)
 ·exact(show prog.wantsStandIn 37=false by kernel_rfl)
 ·exact(show prog.wantsStandIn 3=false by kernel_rfl)
end Go.Proofs.YtojhghmilenfkaaGreatDoor.pathOf
