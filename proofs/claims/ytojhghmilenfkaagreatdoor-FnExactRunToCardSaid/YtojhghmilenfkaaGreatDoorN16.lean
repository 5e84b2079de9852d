/- A part of the proof of the claim that the last text states: no condition of its own. -/
import Derived.Test.YtojhghmilenfkaaGreatDoorN15
set_option linter.unusedVariables false
set_option linter.unusedSimpArgs false
namespace Go.V
open Go Go.Proofs Go.Proofs.Tryz
def mkI(k:Nat)(n:Nat):List Int:=(List.range n).map fun i=>((k+i:Nat):Int)
def mb(k:Nat):Bool:=((k:Int).tmod 3==0)
def mkC(k:Nat)(n:Nat):List (Bool×Int):=(List.range n).map fun i=>(mb (k+2*i),((k+2*i+1:Nat):Int))
def Aac(k:Nat):List Nat→List (List (Bool×Int))
 |[]=>[]
 |n::l=>mkC k n::Aac (k+2*n) l
theorem Ab7(k n:Nat):(mkI k n).length=n:=by simp[mkI]
theorem Ab6(k n:Nat):(mkC k n).length=n:=by simp[mkC]
theorem Uo:∀(l:List Nat)(k:Nat),(Aac k l).length=l.length
 |[],k=>rfl
 |n::l,k=>by simp[Aac,Uo l]
theorem Att(k n:Nat):mkI k (n+1)=mkI k n++[((k+n:Nat):Int)]:=by simp[mkI,List.range_succ]
theorem Ats(k n:Nat):mkC k (n+1)=mkC k n++[(mb (k+2*n),((k+2*n+1:Nat):Int))]:=by simp[mkC,List.range_succ]
theorem Axu{k n i:Nat}(h:i<n):(mkI k n)[i]?=some ((k+i:Nat):Int):=by simp[mkI,h]
theorem Axt{k n i:Nat}(h:i<n):(mkC k n)[i]?=some (mb (k+2*i),((k+2*i+1:Nat):Int)):=by simp[mkC,h]
theorem Yq:∀{l:List Nat}{k i m:Nat},l[i]?=some m→(Aac k l)[i]?=some (mkC (k+2*(l.take i).sum) m)
 |[],k,i,m,h=>by simp at h
 |n::l,k,0,m,h=>by simp at h;subst h;simp[Aac]
 |n::l,k,i+1,m,h=>by
  simp only[Aaw]at h;simp only[Aac,Aaw,List.take_succ_cons,List.sum_cons];rw[Yq h];congr 2;omega
theorem Au1{α:Type}{a c ex:List α}{i:Nat}(ha:a.length=i)(hc:i<c.length):(a++(c.drop i++ex))[i]?=c[i]?:=by
 rw[Gk (by omega),ha,Ik,Cs (by rw[Ad9];omega),Nz,Px]
theorem Ao1{α:Type}{a c ex:List α}{i:Nat}(y:α)(ha:a.length=i)(hc:i<c.length):(a++(c.drop i++ex)).set i y=(a++[y])++(c.drop (i+1)++ex):=by
 rw[Iw _ _ (by omega),ha,Ik,Akw hc,Pz,List.set_cons_zero,Fp,Akv]
theorem Azs(a b:List Int):Fe (a++b)=Fe a++Fe b:=by simp[Fe]
theorem Awu(a b:List (Bool×Int)):I9 (a++b)=I9 a++I9 b:=by simp[I9]
def MaP(x:AV)(rows:List (List AV))(S:St)(k:Nat)(r:AV)(S':St):Prop:=r=vi k∧S'.toks=S.toks∧Chg (Jo x) S.boxes S'.boxes∧SlB S'.boxes x rows
theorem MaP.of{b n:Nat}{S:St}{rows ex:List (List AV)}{k:Nat}(hn:rows.length=n)(hb:b<S.boxes.length):MaP (.bsl b n) rows S k (vi k) ⟨S.boxes.set b (rows++ex),S.toks⟩:=by
 subst hn;exact⟨rfl,rfl,⟨by simp,fun c _ hc=>Fq (fun h=>hc (by simp[Jo,h]))⟩,.inl ⟨b,ex,rfl,Eh hb⟩⟩
theorem Ain{S:St}{x:AV}{l:List Int}(h:SlB S.boxes x (Fe l))(k:Nat)(h1:k+l.length≤1000000000000) :
 Runs X 24 [x,vi k] S (MaP x (Fe (mkI k l.length)) S (k+l.length)):=by
 have hlen:=D9 l;rcases h with⟨b,ex,rfl,hb⟩|⟨he,sp,rfl⟩
 ·have hbl:=Aa hb;rw[hlen];refine Runs.run func24 ?_;refine Io (ι:=Nat) (fun i=>i≤l.length) (fun i=>[(5,vi i),(1,vi ((k+i:Nat):Int)),(0,.bsl b l.length)]) (fun i=>⟨S.boxes.set b (Fe (mkI k i)++((Fe l).drop i++ex)),S.toks⟩) (fun i=>l.length-i) ?_ 0 (B3 _)
   ⟨rfl,rfl,rfl,trivial⟩ (by obtain⟨bx,tk⟩:=S;simp only[St.mk.injEq,and_true];obtain⟨_,e⟩:=zzq105.1 hb;simp only[mkI,List.range_zero,List.map_nil,Fe,Tj,List.drop_zero];rw[←Fe,←e,List.set_getElem_self])
  intro i hi IH;refine C7 (fun g=>?_) (fun g=>?_)
  ·have hlt:i<l.length:=by have:=A5 g;omega
   have hm:(Fe (mkI k i)).length=i:=by rw[D9,Ab7]
   obtain⟨a,ha⟩:=Ab l hlt;have hr:(Fe (mkI k i)++((Fe l).drop i++ex))[i]?=some [vi a]:=by rw[Au1 hm (by omega)];exact Ev (f:=fun m=>[vi m]) ha
   refine Jr i hlt (Eh hbl) hr rfl ?_;refine Mn (Eh hbl) hr rfl ?_;refine IH (i+1) hlt (by omega) _ _ ⟨vsx (by omega),vsx (by omega),rfl,trivial⟩ ?_;simp only[St.mk.injEq,and_true];rw[List.set_set,Ao1 _ hm (by omega),Att,Azs];rfl
  ·have:i=l.length:=by have:=Ba g;omega
   subst this;exact Bc func24 (h:=rfl) ⟨_,rfl,MaP.of (by rw[D9,Ab7]) hbl⟩
 ·have h0:l=[]:=by cases l with|nil=>rfl|cons a l=>simp[Fe]at he
  subst h0;refine Runs.run func24 ?_;refine N1 ?_;refine Bi 100 rfl ?_;refine Ag ?_;exact Bc func24 (h:=rfl) ⟨_,rfl,rfl,rfl,Chg.refl _ _,.inr ⟨rfl,sp,rfl⟩⟩
theorem Azi{S:St}{x:AV}{l:List (Bool×Int)}(h:SlB S.boxes x (I9 l))(k:Nat)(h1:k+2*l.length≤1000000000000) :
 Runs X 111 [x,vi k] S (MaP x (I9 (mkC k l.length)) S (k+2*l.length)):=by
 have hlen:=G5 l;rcases h with⟨b,ex,rfl,hb⟩|⟨he,sp,rfl⟩
 ·have hbl:=Aa hb;rw[hlen];refine Runs.run func111 ?_;refine Io (ι:=Nat) (fun i=>i≤l.length) (fun i=>[(5,vi i),(1,vi ((k+2*i:Nat):Int)),(0,.bsl b l.length)]) (fun i=>⟨S.boxes.set b (I9 (mkC k i)++((I9 l).drop i++ex)),S.toks⟩) (fun i=>l.length-i) ?_ 0 (B3 _)
   ⟨rfl,rfl,rfl,trivial⟩ (by obtain⟨bx,tk⟩:=S;simp only[St.mk.injEq,and_true];obtain⟨_,e⟩:=zzq105.1 hb;simp only[mkC,List.range_zero,List.map_nil,I9,Tj,List.drop_zero];rw[←I9,←e,List.set_getElem_self])
  intro i hi IH;refine C7 (fun g=>?_) (fun g=>?_)
  ·have hlt:i<l.length:=by have:=A5 g;omega
   have hm:(I9 (mkC k i)).length=i:=by rw[G5,Ab6]
   obtain⟨a,ha⟩:=Ab l hlt;have hr:(I9 (mkC k i)++((I9 l).drop i++ex))[i]?=some [vb a.1,vi a.2]:=by rw[Au1 hm (by omega)];exact Ev (f:=Nv) ha
   have hil:i<(I9 (mkC k i)++((I9 l).drop i++ex)).length:=Aa hr;have hb2:((S.boxes.set b (I9 (mkC k i)++((I9 l).drop i++ex))).set b ((I9 (mkC k i)++((I9 l).drop i++ex)).set i [vb (mb (k+2*i)),vi a.2]))[b]?=some ((I9 (mkC k i)++((I9 l).drop i++ex)).set i [vb (mb (k+2*i)),vi a.2]):=Eh (by simpa using hbl);have hr2:((I9 (mkC k i)++((I9 l).drop i++ex)).set i [vb (mb (k+2*i)),vi a.2])[i]?=some [vb (mb (k+2*i)),vi a.2]:=Eh hil;refine Jr i hlt (Eh hbl) hr rfl ?_;refine Mn (Eh hbl) hr rfl ?_;refine Jr i hlt hb2 hr2 rfl ?_;refine Mn hb2 hr2 rfl ?_;have e1:IntKind.i64.wrap (((k+2*i:Nat):Int)+1)=((k+2*i+1:Nat):Int):=by rw[Ac (by omega) (by omega)];omega
   refine IH (i+1) hlt (by omega) _ _ ⟨vsx (by omega),Ci (by rw[e1,Ac (by omega) (by omega)];omega),rfl,trivial⟩ ?_;simp only[St.mk.injEq,and_true];rw[List.set_set,List.set_set,List.set_set,Ao1 _ hm (by omega),Ats,Awu,e1];rfl
  ·have:i=l.length:=by have:=Ba g;omega
   subst this;exact Bc func111 (h:=rfl) ⟨_,rfl,MaP.of (by rw[G5,Ab6]) hbl⟩
 ·have h0:l=[]:=by cases l with|nil=>rfl|cons a l=>simp[I9]at he
  subst h0;refine Runs.run func111 ?_;refine N1 ?_;refine Bi 100 rfl ?_;refine Ag ?_;exact Bc func111 (h:=rfl) ⟨_,rfl,rfl,rfl,Chg.refl _ _,.inr ⟨rfl,sp,rfl⟩⟩
theorem Aog:∀{ys:List AV},(ys.flatMap Jo).Nodup→∀{i j b:Nat}{y z:AV},i≠j→ys[i]?=some y→ys[j]?=some z→b∈Jo y→b∉Jo z
 |[],_,i,j,b,y,z,_,h,_=>by simp at h
 |x::ys,hn,i,j,b,y,z,hij,hy,hz=>fun hb hb'=>by
  simp only[List.flatMap_cons]at hn;obtain⟨_,h2,h3⟩:=zzq108.1 hn
  match i,j,hij,hy,hz with
  |0,0,hij,_,_=>exact hij rfl
  |0,j+1,_,hy,hz=>
   simp at hy hz;subst hy;exact h3 b hb b (zzq106.2 ⟨z,Bh hz,hb'⟩) rfl
  |i+1,0,_,hy,hz=>
   simp at hy hz;subst hz;exact h3 b hb' b (zzq106.2 ⟨y,Bh hy,hb⟩) rfl
  |i+1,j+1,hij,hy,hz=>exact Aog h2 (i:=i) (j:=j) (by omega) (by simpa using hy) (by simpa using hz) hb hb'
theorem SlB.lt{bx:List (List (List AV))}{x:AV}{rows:List (List AV)}(h:SlB bx x rows):∀b,b∈Jo x→b<bx.length:=by
 rcases h with⟨b,ex,rfl,h⟩|⟨rfl,sp,rfl⟩
 ·intro c hc;simp[Jo]at hc;subst hc;exact Aa h
 ·intro c hc;simp[Jo]at hc
theorem SlB.shape{bx:List (List (List AV))}{x:AV}{rows:List (List AV)}(h:SlB bx x rows):(∃b n,x=.bsl b n)∨∃sp,x=.sl [] sp:=by
 rcases h with⟨b,ex,rfl,h⟩|⟨rfl,sp,rfl⟩
 ·exact .inl ⟨b,_,rfl⟩
 ·exact .inr ⟨sp,rfl⟩
def Iy(cells:List (List (Bool×Int))):List Nat:=cells.map List.length
theorem Afn{cells:List (List (Bool×Int))}{i:Nat}{l:List (Bool×Int)}(h:cells[i]?=some l):(Iy cells)[i]?=some l.length:=by simp[Iy,h]
theorem Akm{l:List Nat}{i m:Nat}(h:l[i]?=some m):(l.take (i+1)).sum=(l.take i).sum+m:=by rw[G8,h,Aav,List.sum_append];simp
theorem U6:∀(l:List Nat)(i:Nat),(l.take i).sum≤l.sum
 |[],i=>by simp
 |a::l,0=>by simp
 |a::l,i+1=>by have:=U6 l i;simp;omega
theorem Avf{S:St}{C:AV}{ys:List AV}{cells:List (List (Bool×Int))}(hC:SlB S.boxes C (ys.map fun y=>[y]))(hl:ys.length=cells.length)(hr:∀(j:Nat)(y:AV)(l:List (Bool×Int)),ys[j]?=some y→cells[j]?=some l→SlB S.boxes y (I9 l))
 (nd:(Jo C++ys.flatMap Jo).Nodup)(hcl:cells.length≤1000000000)(k:Nat)(h1:k+2*(Iy cells).sum≤1000000000000) :
 Runs X 65 [C,vi k] S (fun r S'=>r=vi ((k+2*(Iy cells).sum:Nat):Int)∧S'.toks=S.toks∧Chg (ys.flatMap Jo) S.boxes S'.boxes∧∀(j:Nat) (y:AV) (l:List (Bool×Int)),ys[j]?=some y→(Aac k (Iy cells))[j]?=some l→SlB S'.boxes y (I9 l)):=by
 obtain⟨_,nd2,nd3⟩:=zzq108.1 nd;have hlens:(Iy cells).length=ys.length:=by simp[Iy,hl]
 rcases hC with⟨b,ex,rfl,hb⟩|⟨he,sp,rfl⟩
 ·rw[Py];refine Runs.run func65 ?_;refine Io (ι:=Nat×St) (fun i=>i.1≤ys.length∧i.2.toks=S.toks∧Chg (ys.flatMap Jo) S.boxes i.2.boxes∧(∀(j:Nat) (y:AV) (l:List (Bool×Int)),j<i.1→ys[j]?=some y→(Aac k (Iy cells))[j]?=some l→SlB i.2.boxes y (I9 l)) ∧
   ∀(j:Nat) (y:AV) (l:List (Bool×Int)),i.1≤j→ys[j]?=some y→cells[j]?=some l→SlB i.2.boxes y (I9 l))
   (fun i=>[(5,vi i.1),(1,vi ((k+2*((Iy cells).take i.1).sum:Nat):Int)),(0,.bsl b ys.length)]) (fun i=>i.2) (fun i=>ys.length-i.1) ?_ (0,S)
   ⟨B3 _,rfl,Chg.refl _ _,fun j y l h=>absurd h (Va _),fun j y l _=>hr j y l⟩ ⟨rfl,rfl,rfl,trivial⟩ rfl
  intro i hi IH;obtain⟨i,S1⟩:=i;obtain⟨hi,ht,hch,hdone,hleft⟩:=hi;simp only at hi ht hch hdone hleft;refine C7 (fun g=>?_) (fun g=>?_)
  ·have hlt:i<ys.length:=by have:=A5 g;simp only at this;omega
   obtain⟨y,hy⟩:=Ab ys hlt;obtain⟨l,hl'⟩:=Ab cells (i:=i) (by omega);have hm:=Afn hl';have hs:=Akm hm;have hsl:=U6 (Iy cells) (i+1);have hb1:S1.boxes[b]?=some ((ys.map fun y=>[y])++ex):=by
    rw[hch.2 b (Aa hb) fun h=>nd3 b (by simp[Jo]) b h rfl];exact hb
   have hr1:((ys.map fun y=>[y])++ex)[i]?=some [y]:=by rw[Cs (by simpa using hlt),Gl,hy];rfl
   refine Jr i hlt hb1 hr1 rfl ?_;refine Hc hb1 hr1 ?_;refine G3 (xs:=[y,vi ((k+2*((Iy cells).take i).sum:Nat):Int)]) (Azi (hleft i y l (Bo _) hy hl') (k+2*((Iy cells).take i).sum) (by omega)) ?_ (hx:=by rcases(hleft i y l (Bo _) hy hl').shape with⟨b',n',rfl⟩|⟨sp',rfl⟩<;>rfl);intro r S2 hP _ _;obtain⟨rfl,ht2,hc2,hs2⟩:=hP;refine Bi 100 rfl ?_;refine IH (i+1,S2) ⟨hlt,ht2.trans ht,?_,?_,?_⟩ (by simp only;omega) _ _ ⟨Ci ((Ac (by omega) (by omega)).trans (by simp only;omega)),Ci (by simp only[hs];omega),rfl,trivial⟩ rfl
   ·exact(hch.trans hc2).more fun a ha=>by
     rcases zzq45.1 ha with h|h
     ·exact h
     ·exact zzq106.2 ⟨y,Bh hy,h⟩
   ·intro j z m hj hz hm';rcases Gs j i with h|h
    ·exact(hdone j z m h hz hm').chg hc2 fun c h1 h2=>Aog nd2 (by omega) hz hy h1 h2
    ·have:j=i:=by simp only at hj;omega
     subst this;rw[hy]at hz;cases hz;rw[Yq hm]at hm';cases hm';exact hs2
   ·intro j z m hj hz hm';simp only at hj;exact(hleft j z m (by omega) hz hm').chg hc2 fun c h1 h2=>Aog nd2 (by omega) hz hy h1 h2
  ·have:i=ys.length:=by have:=Ba g;simp only at this;omega
   subst this;have hst:(Iy cells).take ys.length=Iy cells:=by rw[←hlens,I2]
   rw[hst];exact Bc func65 (h:=rfl) ⟨_,rfl,rfl,ht,hch,fun j y l hy hm=>hdone j y l (Aa hy) hy hm⟩
 ·have h0:ys=[]:=by simpa using he
  subst h0;have h2:cells=[]:=zzq94.1 hl.symm;subst h2;refine Runs.run func65 ?_;refine N1 ?_;refine Bi 100 rfl ?_;refine Ag ?_;exact Bc func65 (h:=rfl) ⟨_,rfl,rfl,rfl,Chg.refl _ _,fun j y l h=>by simp at h⟩
def Ajv(k:Nat)(c:Cf):Cf:={ c with vars:=mkI k c.vars.length,cells:=Aac (k+c.vars.length) (Iy c.cells) }
def Wp(c:Cf):Nat:=c.vars.length+2*(Iy c.cells).sum
abbrev Ef(c:Cf)(V C:AV):List AV:=[vi c.pt,V,C,vi c.used,vi c.steps,vi c.trap,vi c.edge,vi c.acc]
theorem Avg{S:St}{x:AV}{ids:List Nat}{c:Cf}(h:CfB SlB S.boxes x ids c)(hcl:c.cells.length≤1000000000)(k:Nat)(h1:k+Wp c≤1000000000000) :
 Runs X 25 [x,vi k] S (fun r S'=>r=vi ((k+Wp c:Nat):Int)∧S'.toks=S.toks∧Chg ids S.boxes S'.boxes∧CfB SlB S'.boxes x ids (Ajv k c)):=by
 unfold Wp at h1⊢;obtain⟨V,C,ys,rfl,hids,nd,hV,hC,hl,hr⟩:=h.ex;have Cg:=nd;rw[hids]at nd;obtain⟨ndV,nd2,nd3⟩:=zzq108.1 nd;refine Runs.run func25 ?_;refine Tr (cs:=[vi c.pt,V,C,vi c.used,vi c.steps,vi c.trap,vi c.edge,vi c.acc]) rfl rfl ?_ (hc:=by rcases hV.shape with⟨b',n',rfl⟩|⟨sp',rfl⟩<;>rcases hC.shape with⟨b',n',rfl⟩|⟨sp',rfl⟩<;>rfl);have hb:(S.boxes++[[[vi c.pt,V,C,vi c.used,vi c.steps,vi c.trap,vi c.edge,vi c.acc]]])[S.boxes.length]?=some [[vi c.pt,V,C,vi c.used,vi c.steps,vi c.trap,vi c.edge,vi c.acc]]:=by simp
 have hrw:([[vi c.pt,V,C,vi c.used,vi c.steps,vi c.trap,vi c.edge,vi c.acc]]:List (List AV))[0]?=some [vi c.pt,V,C,vi c.used,vi c.steps,vi c.trap,vi c.edge,vi c.acc]:=rfl;refine Hc hb hrw ?_;refine G3 (xs:=[V,vi k]) (Ain (S:=⟨_,S.toks⟩) (l:=c.vars) hV.more k (by omega)) ?_ (hx:=by rcases hV.shape with⟨b',n',rfl⟩|⟨sp',rfl⟩<;>rfl);intro r S2 hP _ _;obtain⟨rfl,ht2,hc2,hV2⟩:=hP;refine Bi 1 rfl ?_;refine Bi 1 rfl ?_;refine Cb 20 rfl ?_;have hfar:∀a,a∈Jo V→a<S.boxes.length:=hV.lt;have hb2:S2.boxes[S.boxes.length]?=some [[vi c.pt,V,C,vi c.used,vi c.steps,vi c.trap,vi c.edge,vi c.acc]]:=by
  rw[hc2.2 S.boxes.length (by simp) fun h=>by have:=hfar _ h;omega];exact hb
 refine Hc hb2 hrw ?_;have hC2:SlB S2.boxes C (ys.map fun y=>[y]):=hC.more.chg hc2 fun i hi hi2=>nd3 i hi2 i (List.mem_append_left _ hi) rfl;have hr2:∀(j:Nat) (y:AV) (l:List (Bool×Int)),ys[j]?=some y→c.cells[j]?=some l→SlB S2.boxes y (I9 l):=fun j y l hy hl=>
  (hr j y l hy hl).more.chg hc2 fun i hi hi2=>nd3 i hi2 i (Abq _ (zzq106.2 ⟨y,Bh hy,hi⟩)) rfl
 refine G3 (xs:=[C,vi ((k+c.vars.length:Nat):Int)]) (Avf hC2 hl hr2 nd2 hcl (k+c.vars.length) (by omega)) ?_ (hx:=by rcases hC.shape with⟨b',n',rfl⟩|⟨sp',rfl⟩<;>rfl);intro r S3 hP _ _;obtain⟨rfl,ht3,hc3,hcs⟩:=hP;refine Bi 100 rfl ?_;have hV3:SlB S3.boxes V (Fe (mkI k c.vars.length)):=hV2.chg hc3 fun i hi hi2=>nd3 i hi i (Abq _ hi2) rfl;have hC3:SlB S3.boxes C (ys.map fun y=>[y]):=hC2.chg hc3 fun i hi hi2=>(zzq108.1 nd2).2.2 i hi i hi2 rfl;refine Bc func25 (h:=rfl) ⟨_,rfl,?_,ht3.trans ht2,?_,⟨V,C,ys,rfl,hids,Cg,hV3,hC3,?_,hcs⟩⟩
 ·rw[Mj];rfl
 ·refine(((Chg.snoc (Jo V) S.boxes _).trans hc2).trans hc3).more fun i hi=>?_;rw[hids];simp only[zzq45]at hi⊢;rcases hi with(hi|hi)|hi
  ·exact .inl hi
  ·exact .inl hi
  ·exact .inr (.inr hi)
 ·show ys.length=(Aac _ _).length;rw[Uo,Iy,Py];exact hl
theorem Azh(k n:Nat)(hn:k+n≤1000000000000):Pure X 34 [.sl (Fe (mkI k n)) .no,vi k] (vi ((k+n:Nat):Int)):=by
 have hlen:(Fe (mkI k n)).length=n:=by rw[D9,Ab7]
 refine Pure.run func34 ?_;refine Ar (ι:=Nat) 0 0 (fun i=>i≤n) (fun i=>[(5,vi i),(1,vi ((k+i:Nat):Int)),(0,.sl (Fe (mkI k n)) .no)]) (fun i=>⟨[],[]⟩) (fun i=>n-i) ?_ 0 (B3 _)
  ⟨rfl,rfl,rfl,trivial⟩
 intro i hi IH;refine C7 (fun h=>?_) (fun h=>?_)
 ·have hlt:i<n:=by have:=A5 h;rw[hlen]at this;omega
  refine B4 i (by omega) (Ev (f:=fun m=>[vi m]) (Axu hlt)) ?_;refine Ag ?_ (ht:=by simp);refine IH (i+1) hlt (by omega) _ _ ⟨vsx (by omega),vsx (by omega),rfl,trivial⟩ rfl rfl rfl
 ·have:i=n:=by have:=Ba h;rw[hlen]at this;omega
  subst this;exact As func34 rfl
theorem Azg(k n:Nat)(hn:k+2*n≤1000000000000):Pure X 112 [.sl (I9 (mkC k n)) .no,vi k] (vi ((k+2*n:Nat):Int)):=by
 have hlen:(I9 (mkC k n)).length=n:=by rw[G5,Ab6]
 refine Pure.run func112 ?_;refine Ar (ι:=Nat) 0 0 (fun i=>i≤n) (fun i=>[(5,vi i),(1,vi ((k+2*i:Nat):Int)),(0,.sl (I9 (mkC k n)) .no)]) (fun i=>⟨[],[]⟩) (fun i=>n-i) ?_ 0 (B3 _)
  ⟨rfl,rfl,rfl,trivial⟩
 intro i hi IH;refine C7 (fun h=>?_) (fun h=>?_)
 ·have hlt:i<n:=by have:=A5 h;rw[hlen]at this;omega
  have e1:IntKind.i64.wrap (((k+2*i:Nat):Int)+1)=((k+2*i+1:Nat):Int):=by rw[Ac (by omega) (by omega)];omega
  have hg:=Ev (f:=Nv) (Axt (k:=k) hlt);refine B4 i (by omega) hg ?_;refine Ag ?_ (ht:=by simp[mb]);refine B4 i (by omega) hg ?_;refine Ag ?_ (ht:=by rw[e1];simp);refine IH (i+1) hlt (by omega) _ _ ⟨vsx (by omega),Ci (by rw[e1,Ac (by omega) (by omega)];omega),rfl,trivial⟩ rfl rfl rfl
 ·have:i=n:=by have:=Ba h;rw[hlen]at this;omega
  subst this;exact As func112 rfl
theorem Ave(k:Nat)(ls:List Nat)(hll:ls.length≤1000000000)(hn:k+2*ls.sum≤1000000000000):Pure X 66 [.sl (Ov (Aac k ls)) .no,vi k] (vi ((k+2*ls.sum:Nat):Int)):=by
 have hlen:(Ov (Aac k ls)).length=ls.length:=by rw[X9,Uo]
 refine Pure.run func66 ?_;refine Ar (ι:=Nat) 0 0 (fun i=>i≤ls.length) (fun i=>[(5,vi i),(1,vi ((k+2*(ls.take i).sum:Nat):Int)),(0,.sl (Ov (Aac k ls)) .no)]) (fun i=>⟨[],[]⟩) (fun i=>ls.length-i) ?_ 0 (B3 _)
  ⟨rfl,rfl,rfl,trivial⟩
 intro i hi IH;refine C7 (fun h=>?_) (fun h=>?_)
 ·have hlt:i<ls.length:=by have:=A5 h;rw[hlen]at this;omega
  obtain⟨m,hm⟩:=Ab ls hlt;have hs:=Akm hm;have hsl:=U6 ls (i+1);refine B4 i (by omega) (Ev (f:=Alu) (Yq (k:=k) hm)) ?_;refine Al (Azg (k+2*(ls.take i).sum) m (by omega)) ?_;refine Ag ?_ (ht:=Mc (by omega));refine IH (i+1) hlt (by omega) _ _ ⟨vsx (by omega),Ci (by simp only[hs];omega),rfl,trivial⟩ rfl rfl rfl
 ·have:i=ls.length:=by have:=Ba h;rw[hlen]at this;omega
  subst this;rw[I2];exact As func66 rfl
theorem Akn(k:Nat)(c:Cf)(hcl:c.cells.length≤1000000000)(h1:k+Wp c≤1000000000000):Pure X 26 [cf (Ajv k c),vi k] (vi ((k+Wp c:Nat):Int)):=by
 unfold Wp at h1⊢;refine Pure.run func26 ?_;refine Al (Azh k c.vars.length (by omega)) ?_;refine Ag ?_ (ht:=Mc (by omega));refine Al (Ave (k+c.vars.length) (Iy c.cells) (by simpa[Iy]using hcl) (by omega)) ?_;refine Ag ?_ (ht:=Mc (by omega));refine As func26 ?_;rw[Mj]
theorem Aof{k:Nat}{c:Cf}(h:CfOk c):CfOk (Ajv k c):=by
 refine⟨by simp only[Ajv,Ab7];exact h.vars,by simp only[Ajv,Uo,Iy,Py];exact h.cells,fun x hx=>?_⟩;obtain⟨i,hi⟩:=Bs hx;have hil:=Aa hi;simp only[Ajv,Uo,Iy,Py]at hil;obtain⟨l,hl⟩:=Ab c.cells hil;simp only[Ajv]at hi;rw[Yq (Afn hl)]at hi;cases hi;rw[Ab6];exact h.rows l (Bh hl)
abbrev wkp(n:Nd)(bc:Nat)(d:Int):List AV:=[.cptr (Mh n),.ptr bc 0 0,vi d]
structure CfS (S:St)(bc:Nat)(V C:AV)(ids:List Nat)(c:Cf):Prop where
 box:S.boxes[bc]?=some [Ef c V C]
 cf:CfB SlB S.boxes (.agg (Ef c V C)) ids c
 ne:bc∉ids
structure WkS (n:Nd)(S:St)(bw bc:Nat)(V C:AV)(ids:List Nat)(c:Cf)(d:Int):Prop where
 w:S.boxes[bw]?=some [wkp n bc d]
 c:CfS S bc V C ids c
 ne:bw≠bc∧bw∉ids
theorem CfS.more{S S':St}{bc:Nat}{V C:AV}{ids:List Nat}{c:Cf}(h:CfS S bc V C ids c){m:List (List (List AV))}(hb:S'.boxes=S.boxes++m):CfS S' bc V C ids c:=
 ⟨by rw[hb,Cs (Aa h.box)];exact h.box,by rw[hb];exact h.cf.more,h.ne⟩
theorem CfS.chg{S S':St}{bc:Nat}{V C:AV}{ids js:List Nat}{c:Cf}(h:CfS S bc V C ids c)(hc:Chg js S.boxes S'.boxes)(hb:bc∉js)(hd:∀i,i∈ids→i∉js):CfS S' bc V C ids c:=
 ⟨(hc.2 bc (Aa h.box) hb).trans h.box,h.cf.chg hc hd,h.ne⟩
theorem WkS.more{n:Nd}{S S':St}{bw bc:Nat}{V C:AV}{ids:List Nat}{c:Cf}{d:Int}(h:WkS n S bw bc V C ids c d){m:List (List (List AV))}(hb:S'.boxes=S.boxes++m):WkS n S' bw bc V C ids c d:=
 ⟨by rw[hb,Cs (Aa h.w)];exact h.w,h.c.more hb,h.ne⟩
theorem WkS.chg{n:Nd}{S S':St}{bw bc:Nat}{V C:AV}{ids js:List Nat}{c:Cf}{d:Int}(h:WkS n S bw bc V C ids c d)(hc:Chg js S.boxes S'.boxes)(hw:bw∉js)(hb:bc∉js)(hd:∀i,i∈ids→i∉js):WkS n S' bw bc V C ids c d:=
 ⟨(hc.2 bw (Aa h.w) hw).trans h.w,h.c.chg hc hb hd,h.ne⟩
theorem CfS.vars{S:St}{bc:Nat}{V C:AV}{ids:List Nat}{c:Cf}(h:CfS S bc V C ids c){i:Nat}{v:Int}(hv:c.vars[i]?=some v):∃(b:Nat)(ex:List (List AV)),V=.bsl b c.vars.length∧S.boxes[b]?=some (Fe c.vars++ex)∧(Fe c.vars++ex)[i]?=some [vi v]:=by
 obtain⟨V',C',ys,h1,_,_,h4,_⟩:=h.cf.ex;simp only[AV.agg.injEq,List.cons.injEq,and_true,true_and]at h1;obtain⟨rfl,rfl⟩:=h1;rcases h4 with⟨b,ex,rfl,hb⟩|⟨he,_⟩
 ·rw[D9];exact⟨b,ex,rfl,hb,by rw[Cs (by rw[D9];exact Aa hv)];exact Y8 hv⟩
 ·cases hc:c.vars with
  |nil=>rw[hc]at hv;simp at hv
  |cons a l=>rw[hc]at he;simp[Fe]at he
theorem CfS.row{S:St}{bc:Nat}{V C:AV}{ids:List Nat}{c:Cf}(h:CfS S bc V C ids c){i:Nat}{r:List (Bool×Int)}(hv:c.cells[i]?=some r):∃(b:Nat)(ys:List AV)(ex:List (List AV))(y:AV),C=.bsl b c.cells.length∧ys.length=c.cells.length∧S.boxes[b]?=some (ys.map (fun y=>[y])++ex)∧ys[i]?=some y∧(ys.map (fun y=>[y])++ex)[i]?=some [y]∧SlB S.boxes y (I9 r):=by
 obtain⟨V',C',ys,h1,_,_,_,h5,h6,h7⟩:=h.cf.ex;simp only[AV.agg.injEq,List.cons.injEq,and_true,true_and]at h1;obtain⟨rfl,rfl⟩:=h1;obtain⟨y,hy⟩:=Ab ys (i:=i) (by rw[h6];exact Aa hv);rcases h5 with⟨b,ex,rfl,hb⟩|⟨he,_⟩
 ·exact⟨b,ys,ex,y,by simp[h6],h6,hb,hy,by rw[Cs (by simpa using Aa hy),Gl,hy];rfl,h7 i y r hy hv⟩
 ·have:ys=[]:=by simpa using he
  subst this;simp at hy
theorem Aoy(n:Nd){S:St}{bw bc:Nat}{V C:AV}{ids:List Nat}{c:Cf}{d:Int}(h:WkS n S bw bc V C ids c d){i:Nat}{r:List (Bool×Int)}(hr:c.cells[i]?=some r)(hl:r.length≤60)(x:Int) :
 Runs X 189 [.ptr bw 0 0,vi i,vi x] S (fun v S'=>v=vi (if Bl x 0 ((r.length:Int)-1)=true then 0 else 1)∧S'=S):=by
 obtain⟨b,ys,ex,y,hC,hyl,hb,hy,hrow,hsl⟩:=h.c.row hr;have hp:=Aqz x (r.length:Int) (by omega) (by omega);have z1:=h.w;have z2:=h.c.box;have hi:=Aa hr;subst hC;rcases hsl with⟨b2,ex2,rfl,_⟩|⟨he,sp,rfl⟩
 ·rw[G5]at hrow;refine Runs.run func189 ?_;refine Aw z1 ?_;refine Aw z2 ?_;refine Jr i hi hb hrow rfl ?_;refine Hc hb hrow ?_;refine Im hp ?_;refine F7 (fun g=>?_) (fun g=>?_)
  ·have g':Bl x 0 ((r.length:Int)-1)=false:=by simpa using g
   refine Bc func189 (h:=rfl) ⟨_,rfl,?_,rfl⟩;rw[if_neg (by rw[g'];decide)];rfl
  ·have g':Bl x 0 ((r.length:Int)-1)=true:=by simpa using g
   refine Bc func189 (h:=rfl) ⟨_,rfl,?_,rfl⟩;rw[if_pos g'];rfl
 ·have h0:r=[]:=by cases r with|nil=>rfl|cons a l=>simp[I9]at he
  subst h0;refine Runs.run func189 ?_;refine Aw z1 ?_;refine Aw z2 ?_;refine Jr i hi hb hrow rfl ?_;refine Hc hb hrow ?_;refine Im hp ?_;refine F7 (fun g=>?_) (fun g=>?_)
  ·have g':Bl x 0 (((([]:List (Bool×Int)).length):Int)-1)=false:=by simpa using g
   refine Bc func189 (h:=rfl) ⟨_,rfl,?_,rfl⟩;rw[if_neg (by rw[g'];decide)];rfl
  ·have g':Bl x 0 (((([]:List (Bool×Int)).length):Int)-1)=true:=by simpa using g
   refine Bc func189 (h:=rfl) ⟨_,rfl,?_,rfl⟩;rw[if_pos g'];rfl
def VrP(n:Nd)(bw bc:Nat)(V C:AV)(ids:List Nat)(c:Cf)(S:St)(T:VR)(r:AV)(S':St):Prop:=r=vR T∧S'.toks=S.toks∧Chg [bw] S.boxes S'.boxes∧WkS n S' bw bc V C ids c T.2.2
structure VrS (n:Nd)(bw bc:Nat)(V C:AV)(ids:List Nat)(c:Cf)(S T0:St)(e:Nd)(l1 l2:Nat)(a b d:Int):Prop where
 e:T0.boxes[l1]?=some [Af e]
 a:T0.boxes[l2]?=some [[vi a,vi b]]
 w:WkS n T0 bw bc V C ids c d
 toks:T0.toks=S.toks
 chg:Chg [bw] S.boxes T0.boxes
 ne:bw≠l1∧bw≠l2
abbrev VrA(n:Nd)(bw bc:Nat)(V C:AV)(ids:List Nat)(c:Cf)(S T0:St)(l1 l2 m t:Nat)(T:VR):Prop:=
 AK X ⟨187,f187,m,t⟩ (Lm false 10 f187) [(0,.ptr bw 0 0),(3,.ptr l1 0 0),(6,.ptr l2 0 0)] T0 (fun e S'=>∃r,e=.ret r∧VrP n bw bc V C ids c S T r S')
section
variable {n:Nd}{bw bc:Nat}{V C:AV}{ids:List Nat}{c:Cf}{S T0:St}{l1 l2 m t:Nat}
theorem Ay2(k d:Int)(h:VrS n bw bc V C ids c S T0 (.mk 1 [] k []) l1 l2 0 0 d):VrA n bw bc V C ids c S T0 l1 l2 m t (k,0,d):=by
 have zE:=h.e;refine D5 ?_;refine Cb 60 rfl ?_;refine Aw zE ?_;refine Do ?_;refine Aw zE ?_;exact Bc func187 (h:=rfl) ⟨_,rfl,rfl,h.toks,h.chg,h.w⟩
theorem Ay4(hk:VOk n c)(s:List UInt8)(hs:E6 0 (Ax n 31) s≥0)(d:Int)(h:VrS n bw bc V C ids c S T0 (.mk 2 s 0 []) l1 l2 0 0 d):VrA n bw bc V C ids c S T0 l1 l2 m t (c.vars.getD (E6 0 (Ax n 31) s).toNat 0,0,d):=by
 obtain⟨i,v,h1,h2,h3⟩:=hk.var hs;obtain⟨bv,ex,hV,hb,hrow⟩:=h.w.c.vars h2;have hi:=Aa h2;subst hV;have kl:=hk.kl;have hq:=Xk n s (by omega);rw[h1]at hq;rw[h3];have zE:=h.e;have zw:=h.w.w;have zc:=h.w.c.box;refine D5 ?_;refine Cb 60 rfl ?_;refine Aw zE ?_;refine Cq ?_;refine Do ?_;refine De 0 (by kernel_rfl) ?_
 iterate 3 refine Av ?_
 refine A2 (Aq zw) ?_
 iterate 2 refine Av ?_
 refine A2 (Aq zc) ?_
 iterate 3 refine Av ?_
 refine A2 (Aq zw) ?_;refine Av ?_;refine A2 (Aq zE) ?_;refine Js hq ?_;refine A2 (Gd (hj:=by simpa[Fw]using hi) (hb:=hb) (hr:=hrow) (hl:=rfl)) ?_;refine A2 (M1 hb hrow) ?_
 iterate 2 refine Av ?_
 refine Gt ?_;exact Bc func187 (h:=rfl) ⟨_,rfl,rfl,h.toks,h.chg,h.w⟩
theorem Ayz(hk:VOk n c)(s:List UInt8)(hs:E6 0 (Ax n 32) s≥0)(d:Int)(h:VrS n bw bc V C ids c S T0 (.mk 4 s 0 []) l1 l2 0 0 d):VrA n bw bc V C ids c S T0 l1 l2 m t ((Xn n c s).length,0,d):=by
 obtain⟨i,r,h1,h2,h3,h4⟩:=hk.row hs;obtain⟨b,ys,ex,y,hC,hyl,hb,hy,hrow,hsl⟩:=h.w.c.row h2;have hi:=Aa h2;subst hC;have kl:=hk.kl;have hq:=Aia n s (by omega);rw[h1]at hq;rw[h3];have zE:=h.e;have zw:=h.w.w;have zc:=h.w.c.box;rcases hsl with⟨b2,ex2,rfl,_⟩|⟨he,sp,rfl⟩
 ·rw[G5]at hrow;refine D5 ?_;refine Cb 60 rfl ?_;refine Aw zE ?_
  iterate 2 refine Cq ?_
  refine Do ?_;refine De 0 (by kernel_rfl) ?_
  iterate 3 refine Av ?_
  refine A2 (Aq zw) ?_
  iterate 2 refine Av ?_
  refine A2 (Aq zc) ?_
  iterate 3 refine Av ?_
  refine A2 (Aq zw) ?_;refine Av ?_;refine A2 (Aq zE) ?_;refine Js hq ?_;refine A2 (Gd (hj:=by simpa[Fw]using hi) (hb:=hb) (hr:=hrow) (hl:=rfl)) ?_;refine A2 (M1 hb hrow) ?_
  iterate 3 refine Av ?_
  refine Gt ?_;exact Bc func187 (h:=rfl) ⟨_,rfl,rfl,h.toks,h.chg,h.w⟩
 ·have h0:r=[]:=by cases r with|nil=>rfl|cons a l=>simp[I9]at he
  subst h0;refine D5 ?_;refine Cb 60 rfl ?_;refine Aw zE ?_
  iterate 2 refine Cq ?_
  refine Do ?_;refine De 0 (by kernel_rfl) ?_
  iterate 3 refine Av ?_
  refine A2 (Aq zw) ?_
  iterate 2 refine Av ?_
  refine A2 (Aq zc) ?_
  iterate 3 refine Av ?_
  refine A2 (Aq zw) ?_;refine Av ?_;refine A2 (Aq zE) ?_;refine Js hq ?_;refine A2 (Gd (hj:=by simpa[Fw]using hi) (hb:=hb) (hr:=hrow) (hl:=rfl)) ?_;refine A2 (M1 hb hrow) ?_
  iterate 3 refine Av ?_
  refine Gt ?_;exact Bc func187 (h:=rfl) ⟨_,rfl,rfl,h.toks,h.chg,h.w⟩
theorem Ay1(x:List Nd)(a b d:Int)(h:VrS n bw bc V C ids c S T0 (.mk 5 [] 0 x) l1 l2 a b d):VrA n bw bc V C ids c S T0 l1 l2 m t (Ns (IntKind.i64.wrap (-a)) d):=by
 have zE:=h.e;have zA:=h.a;have e1:(Ns (IntKind.i64.wrap (-a)) d).2.2=d:=by unfold Ns;split<;>rfl
 refine D5 ?_;refine Cb 60 rfl ?_;refine Aw zE ?_
 iterate 3 refine Cq ?_
 refine Do ?_
 iterate 1 refine Aw zA ?_
 refine Im (Vy (IntKind.i64.wrap (-a)) d) ?_;exact Bc func187 (h:=rfl) ⟨_,rfl,rfl,h.toks,h.chg,by rw[e1];exact h.w⟩
theorem Ayy(x:List Nd)(a b d:Int)(h:VrS n bw bc V C ids c S T0 (.mk 6 [] 0 x) l1 l2 a b d):VrA n bw bc V C ids c S T0 l1 l2 m t (Ns (IntKind.i64.wrap (a+b)) d):=by
 have zE:=h.e;have zA:=h.a;have e1:(Ns (IntKind.i64.wrap (a+b)) d).2.2=d:=by unfold Ns;split<;>rfl
 refine D5 ?_;refine Cb 60 rfl ?_;refine Aw zE ?_
 iterate 4 refine Cq ?_
 refine Do ?_
 iterate 2 refine Aw zA ?_
 refine Im (Vy (IntKind.i64.wrap (a+b)) d) ?_;exact Bc func187 (h:=rfl) ⟨_,rfl,rfl,h.toks,h.chg,by rw[e1];exact h.w⟩
theorem Ay3(x:List Nd)(a b d:Int)(h:VrS n bw bc V C ids c S T0 (.mk 7 [] 0 x) l1 l2 a b d):VrA n bw bc V C ids c S T0 l1 l2 m t (Ns (IntKind.i64.wrap (a-b)) d):=by
 have zE:=h.e;have zA:=h.a;have e1:(Ns (IntKind.i64.wrap (a-b)) d).2.2=d:=by unfold Ns;split<;>rfl
 refine D5 ?_;refine Cb 60 rfl ?_;refine Aw zE ?_
 iterate 5 refine Cq ?_
 refine Do ?_
 iterate 2 refine Aw zA ?_
 refine Im (Vy (IntKind.i64.wrap (a-b)) d) ?_;exact Bc func187 (h:=rfl) ⟨_,rfl,rfl,h.toks,h.chg,by rw[e1];exact h.w⟩
theorem Ay0(x:List Nd)(a b d:Int)(h:VrS n bw bc V C ids c S T0 (.mk 8 [] 0 x) l1 l2 a b d):VrA n bw bc V C ids c S T0 l1 l2 m t (Ns (IntKind.i64.wrap (a*b)) d):=by
 have zE:=h.e;have zA:=h.a;have e1:(Ns (IntKind.i64.wrap (a*b)) d).2.2=d:=by unfold Ns;split<;>rfl
 refine D5 ?_;refine Cb 60 rfl ?_;refine Aw zE ?_
 iterate 6 refine Cq ?_
 refine Do ?_
 iterate 2 refine Aw zA ?_
 refine Im (Vy (IntKind.i64.wrap (a*b)) d) ?_;exact Bc func187 (h:=rfl) ⟨_,rfl,rfl,h.toks,h.chg,by rw[e1];exact h.w⟩
end
section
variable {n:Nd}{bw bc:Nat}{V C:AV}{ids:List Nat}{c:Cf}{S T0:St}{l1 l2 m t:Nat}
theorem Auu(hk:VOk n c)(s:List UInt8)(hs:E6 0 (Ax n 32) s≥0)(x:List Nd)(a d:Int)(hS:S.boxes.length≤l2)(h:VrS n bw bc V C ids c S T0 (.mk 3 s 0 x) l1 l2 a 0 d):VrA n bw bc V C ids c S T0 l1 l2 m t (Nw (Xn n c s) a d):=by
 obtain⟨i,r,h1,h2,h3,h4⟩:=hk.row hs;obtain⟨b,ys,ex,y,hC,hyl,hb,hy,hrow,hsl⟩:=h.w.c.row h2;have hi:=Aa h2;subst hC;have kl:=hk.kl;have hq:=Aia n s (by omega);rw[h1]at hq;rw[h3];have zE:=h.e;have zA:=h.a;have zw:=h.w.w;have zc:=h.w.c.box;refine D5 ?_;refine Cb 60 rfl ?_;refine Aw zE ?_
 iterate 7 refine Cq ?_
 refine De 0 (by kernel_rfl) ?_
 iterate 3 refine Av ?_
 refine A2 (Aq zw) ?_;refine Av ?_;refine A2 (Aq zE) ?_;refine Js hq ?_;refine Av ?_;refine Gt ?_;refine Aw zA ?_;refine G3 (Aoy n h.w h2 h4 a) ?_;intro v S' hP _ _;obtain⟨rfl,rfl⟩:=hP;refine Cb 60 rfl ?_;cases hbt:Bl a 0 ((r.length:Int)-1)with
 |false=>
  rw[if_neg (by simp)];have e1:Nw r a d=(0,1,d):=by unfold Nw;rw[if_neg (by simp[hbt])]
  rw[e1];refine Do ?_;exact Bc func187 (h:=rfl) ⟨_,rfl,rfl,h.toks,h.chg,h.w⟩
 |true=>
  rw[if_pos rfl];have hb':=Cn.1 hbt;obtain⟨j,rfl⟩:∃j:Nat,a=j:=⟨a.toNat,by omega⟩
  obtain⟨z,hz⟩:=Ab r (i:=j) (by omega);obtain⟨w,mm⟩:=z;rcases hsl with⟨b2,ex2,rfl,hb2⟩|⟨he,sp,rfl⟩
  ·have hjl:j<(I9 r).length:=by rw[G5];exact Aa hz
   have hrow2:(I9 r++ex2)[j]?=some [vb w,vi mm]:=by rw[Cs hjl];exact Ev (f:=Nv) hz
   have gx:∀{i:Nat} {y:List (List AV)} {more:List (List (List AV))},S'.boxes[i]?=some y→(S'.boxes++more)[i]?=some y:=fun{i y more} h=>by rw[Cs (Aa h)];exact h
   have e1:Nw r j d=if w=true then(mm,0,IntKind.i64.wrap (d+1))else(0,2,d):=by
    unfold Nw;rw[if_pos hbt,Hl,Air,hz];rfl
   refine Cq ?_;refine De 49152 (by kernel_rfl) ?_
   iterate 3 refine Av ?_
   refine A2 (Aq zw) ?_
   iterate 2 refine Av ?_
   refine A2 (Aq zc) ?_;refine Av ?_;refine A2 (Gd (hj:=by simpa[Fw]using hi) (hb:=hb) (hr:=hrow) (hl:=rfl)) ?_;refine A2 (M1 hb hrow) ?_;refine Av ?_;refine A2 (Aq zA) ?_;refine A2 (Gd (hj:=by simpa[Fw]using hjl) (hb:=hb2) (hr:=hrow2) (hl:=rfl)) ?_;refine A2 (M1 hb2 hrow2) ?_;refine Dz (Pi rfl rfl) ?_ ?_
   ·exact An (M1 (gx hb2) hrow2) (An (Gd (hj:=by simpa[Fw]using hjl) (hb:=gx hb2) (hr:=hrow2) (hl:=rfl)) (An (Aq (gx zA)) (An (M1 (gx hb) hrow)
     (An (Gd (hj:=by simpa[Fw]using hi) (hb:=gx hb) (hr:=hrow) (hl:=rfl)) (An (Aq (gx zc)) (An (Aq (gx zw)) Gy))))))
   have z13:(S'.boxes++[[[vb false,vi 0]]])[S'.boxes.length]?=some [[vb false,vi 0]]:=by simp
   refine Ch (J1 (r:=0) z13 rfl rfl) ?_;refine Gt ?_;obtain⟨S2,hS2⟩:∃S2:St,S2=⟨S'.boxes++[[[vb w,vi mm]]],S'.toks⟩:=⟨_,rfl⟩
   refine Be S2 ?_ (by rw[hS2];exact congrArg (fun x=>St.mk x _) (by rw[Iw _ _ (Bo _),Ik];rfl));have z2:S2.boxes[S'.boxes.length]?=some [[vb w,vi mm]]:=by rw[hS2];simp
   have hW2:WkS n S2 bw bc V (.bsl b c.cells.length) ids c d:=h.w.more (by rw[hS2]);have hch2:Chg [bw] S.boxes S2.boxes:=by rw[hS2];exact(h.chg.trans (Chg.snoc [] S'.boxes _)).more fun i hi=>by simpa using hi
   have htk2:S2.toks=S.toks:=by rw[hS2];exact h.toks
   refine Aw z2 ?_;cases w with
   |false=>
    refine Do ?_;rw[e1,if_neg (by simp)];exact Bc func187 (h:=rfl) ⟨_,rfl,rfl,htk2,hch2,hW2⟩
   |true=>
    refine Cq ?_;refine Aw hW2.w ?_;refine Cc hW2.w rfl ?_;have hbl:=Aa hW2.w;have hch3:Chg [bw] S2.boxes (S2.boxes.set bw [wkp n bc (IntKind.i64.wrap (d+1))]):=⟨by simp,fun i _ hi=>Fq (fun h=>hi (by simp[h]))⟩
    have hne:bw≠S'.boxes.length:=by have:=Aa zw;omega
    refine Aw (b:=S'.boxes.length) (cs:=[vb true,vi mm]) (by rw[Fq hne];exact z2) ?_;rw[e1,if_pos rfl];refine Bc func187 (h:=rfl) ⟨_,rfl,rfl,htk2,(hch2.trans hch3).more fun i hi=>by simpa using hi,⟨Eh hbl,hW2.c.chg hch3 (by simpa using hW2.ne.1.symm) fun i hi hi2=>?_,hW2.ne⟩⟩;simp at hi2;subst hi2;exact hW2.ne.2 hi
  ·have h0:r=[]:=by cases r with|nil=>rfl|cons a l=>simp[I9]at he
   subst h0;simp at hz
end
abbrev VrR(n:Nd)(bw bc:Nat)(V C:AV)(ids:List Nat)(c:Cf)(e:Nd)(d:Int)(T:VR):Prop:=
 ∀S:St,WkS n S bw bc V C ids c d→Runs X 187 [.ptr bw 0 0,nd e] S (VrP n bw bc V C ids c S T)
section
variable {n:Nd}{bw bc:Nat}{V C:AV}{ids:List Nat}{c:Cf}
theorem VrS.step{S T1 T2:St}{e:Nd}{l1 l2:Nat}{a b a' b' d d':Int}(h:VrS n bw bc V C ids c S T1 e l1 l2 a b d)(hb:T2.boxes[l1]?=some [Af e])(ha:T2.boxes[l2]?=some [[vi a',vi b']])(hw:WkS n T2 bw bc V C ids c d')(ht:T2.toks=S.toks)(hc:Chg [bw] S.boxes T2.boxes) :
 VrS n bw bc V C ids c S T2 e l1 l2 a' b' d':=⟨hb,ha,hw,ht,hc,h.ne⟩
theorem T5{S:St}(h:CfS S bc V C ids c):∀i,i∈ids→i<S.boxes.length:=by
 obtain⟨V',C',ys,_,rfl,_,h4,h5,h6,h7⟩:=h.cf.ex;intro i hi;simp only[zzq45,zzq106]at hi;rcases hi with h|h|⟨y,hy,hi⟩
 ·exact h4.lt i h
 ·exact h5.lt i h
 ·obtain⟨j,hj⟩:=Bs hy;obtain⟨l,hl⟩:=Ab c.cells (i:=j) (by rw[←h6];exact Aa hj);exact(h7 j y l hj hl).lt i hi
theorem Auv(k:Int)(s:List UInt8)(m d:Int)(T:VR)(h:∀{S T0:St}{l1 l2 m' t':Nat},VrS n bw bc V C ids c S T0 (.mk k s m []) l1 l2 0 0 d→VrA n bw bc V C ids c S T0 l1 l2 m' t' T):VrR n bw bc V C ids c (.mk k s m []) d T:=by
 intro S hW;refine Runs.run func187 ?_;refine Tr rfl rfl ?_;refine Hi W5 rfl rfl ?_;refine Lq (b:=S.boxes.length+1) (by simp) rfl ?_;refine Cc (b:=S.boxes.length+1) (cs:=[vi 0,vi 0]) (by simp) rfl ?_;obtain⟨T0,hT0⟩:∃T0:St,T0=⟨S.boxes++[[Af (.mk k s m [])]]++[[[vi 0,vi 0]]],S.toks⟩:=⟨_,rfl⟩
 refine Be T0 ?_ (by rw[hT0];exact congrArg (fun x=>St.mk x _) (by rw[show S.boxes.length+1=(S.boxes++[[Af (.mk k s m [])]]).length by simp];exact(by rw[Iw _ _ (Bo _),Ik];rfl)));have hbw:=Aa hW.w;have h0:VrS n bw bc V C ids c S T0 (.mk k s m []) S.boxes.length (S.boxes.length+1) 0 0 d:=
  ⟨by rw[hT0];simp,by rw[hT0];simp,hW.more (m:=[[Af (.mk k s m [])],[[vi 0,vi 0]]]) (by rw[hT0];simp),by rw[hT0],by rw[hT0];exact((Chg.snoc [] S.boxes _).trans (Chg.snoc [] _ _)).more fun i hi=>by simp at hi,by omega,by omega⟩
 refine Aw h0.e ?_;refine N1 ?_;refine Cb 60 rfl ?_;refine Ey (e:=false) 0 10 (fun h=>nomatch h) (fun _=>?_);exact Ts (G:=[(0,.ptr bw 0 0),(3,.ptr S.boxes.length 0 0),(6,.ptr (S.boxes.length+1) 0 0)]) ⟨rfl,rfl,rfl,trivial⟩ (h h0)
theorem A0b(k:Int)(s:List UInt8)(m d:Int)(x:Nd)(v t d1:Int)(T:VR)(ihx:VrR n bw bc V C ids c x d (v,t,d1))(hno:¬t=0→T=(0,t,d1))
 (h:t=0→∀{S T0:St}{l1 l2 m' t':Nat},S.boxes.length≤l2→VrS n bw bc V C ids c S T0 (.mk k s m [x]) l1 l2 v 0 d1→VrA n bw bc V C ids c S T0 l1 l2 m' t' T):VrR n bw bc V C ids c (.mk k s m [x]) d T:=by
 intro S hW;refine Runs.run func187 ?_;refine Tr rfl rfl ?_;refine Hi W5 rfl rfl ?_;refine Lq (b:=S.boxes.length+1) (by simp) rfl ?_;refine Cc (b:=S.boxes.length+1) (cs:=[vi 0,vi 0]) (by simp) rfl ?_;obtain⟨T0,hT0⟩:∃T0:St,T0=⟨S.boxes++[[Af (.mk k s m [x])]]++[[[vi 0,vi 0]]],S.toks⟩:=⟨_,rfl⟩
 refine Be T0 ?_ (by rw[hT0];exact congrArg (fun x=>St.mk x _) (by rw[show S.boxes.length+1=(S.boxes++[[Af (.mk k s m [x])]]).length by simp];exact(by rw[Iw _ _ (Bo _),Ik];rfl)));have hbw:=Aa hW.w;have h0:VrS n bw bc V C ids c S T0 (.mk k s m [x]) S.boxes.length (S.boxes.length+1) 0 0 d:=
  ⟨by rw[hT0];simp,by rw[hT0];simp,hW.more (m:=[[Af (.mk k s m [x])],[[vi 0,vi 0]]]) (by rw[hT0];simp),by rw[hT0],by rw[hT0];exact((Chg.snoc [] S.boxes _).trans (Chg.snoc [] _ _)).more fun i hi=>by simp at hi,by omega,by omega⟩
 refine Aw h0.e ?_;refine N1 ?_;have hl0:=Aa h0.a;have hbw0:=Aa h0.w.w;refine Cb 60 rfl ?_;refine Do ?_;refine Mm 0 (by decide) (Am (l:=[x]) rfl) ?_;refine Lq (b:=T0.boxes.length) rfl rfl ?_;refine Cc (b:=T0.boxes.length) (cs:=zN) (by simp) rfl ?_;obtain⟨U0,hU0⟩:∃U:St,U=⟨T0.boxes++[[Af x]],T0.toks⟩:=⟨_,rfl⟩
 refine Be U0 ?_ (by rw[hU0];exact congrArg (fun x=>St.mk x _) (by rw[Iw _ _ (Bo _),Ik];rfl));have hu0:U0.boxes[T0.boxes.length]?=some [Af x]:=by rw[hU0];simp
 refine Aw hu0 ?_;refine G3 (ihx U0 (h0.w.more (by rw[hU0]))) ?_;intro r W0 hP _ _;obtain⟨rfl,ht0,hc0,hW0⟩:=hP;refine Cb 60 rfl ?_;have hcc0:Chg [bw] S.boxes W0.boxes:=((h0.chg.trans (Chg.snoc [] T0.boxes [Af x])).trans (by rw[hU0]at hc0;exact hc0)).more fun i hi=>by simpa using hi
 have htt0:W0.toks=S.toks:=by rw[ht0,hU0];exact h0.toks
 refine F7 (fun g=>?_) (fun g=>?_)
 ·have g':¬t=0:=by simpa using(show (t != 0)=true from g)
  rw[hno g'];exact Bc func187 (h:=rfl) ⟨_,rfl,rfl,htt0,hcc0,hW0⟩
 have gt:t=0:=by simpa using(show (t != 0)=false from g)
 have up0:∀{i:Nat} {y:List (List AV)},i≠bw→T0.boxes[i]?=some y→W0.boxes[i]?=some y:=fun{i y} hi h=>(hc0.2 i (by rw[hU0];simp;have:=Aa h;omega) (by simpa using hi)).trans (by rw[hU0,Cs (Aa h)];exact h);have ha0:=up0 h0.ne.2.symm h0.a;refine Hi (Acl (m:=2) (n:=0) (by decide) (by decide)) rfl rfl ?_;refine Cc ha0 rfl ?_;obtain⟨T1,hT1⟩:∃U:St,U=⟨W0.boxes.set (S.boxes.length+1) [[vi v,vi 0]],W0.toks⟩:=⟨_,rfl⟩
 refine Be T1 ?_ hT1.symm;have hsb0:Chg [S.boxes.length+1] W0.boxes T1.boxes:=by rw[hT1];exact⟨by simp,fun i _ hi=>Fq (fun h=>hi (by simp[h]))⟩
 have h1:VrS n bw bc V C ids c S T1 (.mk k s m [x]) S.boxes.length (S.boxes.length+1) v 0 d1:=
  h0.step (by rw[hT1,Fq (by omega)];exact up0 h0.ne.1.symm h0.e) (by rw[hT1];exact Eh (Aa ha0))
   (hW0.chg hsb0 (by simp;omega) (by have:=Aa hW.c.box;simp;omega) fun i hi hi2=>by simp at hi2;have:=T5 hW.c i hi;omega) (by rw[hT1];exact htt0)
   ⟨by rw[hT1];simpa using hcc0.1,fun i hi hi2=>(hsb0.2 i (Mz hi hcc0.1) (by simp;omega)).trans (hcc0.2 i hi hi2)⟩
 refine P7 ?_;refine Cb 60 rfl ?_;refine Ey (e:=false) 0 10 (fun h=>nomatch h) (fun _=>?_);exact Ts (G:=[(0,.ptr bw 0 0),(3,.ptr S.boxes.length 0 0),(6,.ptr (S.boxes.length+1) 0 0)]) ⟨rfl,rfl,rfl,trivial⟩ (h gt (by omega) h1)
theorem A4k(k:Int)(s:List UInt8)(m d:Int)(x y:Nd)(v t d1 v2 t2 d2:Int)(T:VR)(ihx:VrR n bw bc V C ids c x d (v,t,d1))(ihy:VrR n bw bc V C ids c y d1 (v2,t2,d2))(hno:¬t=0→T=(0,t,d1))(hno2:t=0→¬t2=0→T=(0,t2,d2))
 (h:t=0→t2=0→∀{S T0:St}{l1 l2 m' t':Nat},VrS n bw bc V C ids c S T0 (.mk k s m [x,y]) l1 l2 v v2 d2→VrA n bw bc V C ids c S T0 l1 l2 m' t' T):VrR n bw bc V C ids c (.mk k s m [x,y]) d T:=by
 intro S hW;refine Runs.run func187 ?_;refine Tr rfl rfl ?_;refine Hi W5 rfl rfl ?_;refine Lq (b:=S.boxes.length+1) (by simp) rfl ?_;refine Cc (b:=S.boxes.length+1) (cs:=[vi 0,vi 0]) (by simp) rfl ?_;obtain⟨T0,hT0⟩:∃T0:St,T0=⟨S.boxes++[[Af (.mk k s m [x,y])]]++[[[vi 0,vi 0]]],S.toks⟩:=⟨_,rfl⟩
 refine Be T0 ?_ (by rw[hT0];exact congrArg (fun x=>St.mk x _) (by rw[show S.boxes.length+1=(S.boxes++[[Af (.mk k s m [x,y])]]).length by simp];exact(by rw[Iw _ _ (Bo _),Ik];rfl)));have hbw:=Aa hW.w;have h0:VrS n bw bc V C ids c S T0 (.mk k s m [x,y]) S.boxes.length (S.boxes.length+1) 0 0 d:=
  ⟨by rw[hT0];simp,by rw[hT0];simp,hW.more (m:=[[Af (.mk k s m [x,y])],[[vi 0,vi 0]]]) (by rw[hT0];simp),by rw[hT0],by rw[hT0];exact((Chg.snoc [] S.boxes _).trans (Chg.snoc [] _ _)).more fun i hi=>by simp at hi,by omega,by omega⟩
 refine Aw h0.e ?_;refine N1 ?_;have hl0:=Aa h0.a;have hbw0:=Aa h0.w.w;refine Cb 60 rfl ?_;refine Do ?_;refine Mm 0 (by decide) (Am (l:=[x,y]) rfl) ?_;refine Lq (b:=T0.boxes.length) rfl rfl ?_;refine Cc (b:=T0.boxes.length) (cs:=zN) (by simp) rfl ?_;obtain⟨U0,hU0⟩:∃U:St,U=⟨T0.boxes++[[Af x]],T0.toks⟩:=⟨_,rfl⟩
 refine Be U0 ?_ (by rw[hU0];exact congrArg (fun x=>St.mk x _) (by rw[Iw _ _ (Bo _),Ik];rfl));have hu0:U0.boxes[T0.boxes.length]?=some [Af x]:=by rw[hU0];simp
 refine Aw hu0 ?_;refine G3 (ihx U0 (h0.w.more (by rw[hU0]))) ?_;intro r W0 hP _ _;obtain⟨rfl,ht0,hc0,hW0⟩:=hP;refine Cb 60 rfl ?_;have hcc0:Chg [bw] S.boxes W0.boxes:=((h0.chg.trans (Chg.snoc [] T0.boxes [Af x])).trans (by rw[hU0]at hc0;exact hc0)).more fun i hi=>by simpa using hi
 have htt0:W0.toks=S.toks:=by rw[ht0,hU0];exact h0.toks
 refine F7 (fun g=>?_) (fun g=>?_)
 ·have g':¬t=0:=by simpa using(show (t != 0)=true from g)
  rw[hno g'];exact Bc func187 (h:=rfl) ⟨_,rfl,rfl,htt0,hcc0,hW0⟩
 have gt:t=0:=by simpa using(show (t != 0)=false from g)
 have up0:∀{i:Nat} {y:List (List AV)},i≠bw→T0.boxes[i]?=some y→W0.boxes[i]?=some y:=fun{i y} hi h=>(hc0.2 i (by rw[hU0];simp;have:=Aa h;omega) (by simpa using hi)).trans (by rw[hU0,Cs (Aa h)];exact h);have ha0:=up0 h0.ne.2.symm h0.a;refine Hi (Acl (m:=2) (n:=0) (by decide) (by decide)) rfl rfl ?_;refine Cc ha0 rfl ?_;obtain⟨T1,hT1⟩:∃U:St,U=⟨W0.boxes.set (S.boxes.length+1) [[vi v,vi 0]],W0.toks⟩:=⟨_,rfl⟩
 refine Be T1 ?_ hT1.symm;have hsb0:Chg [S.boxes.length+1] W0.boxes T1.boxes:=by rw[hT1];exact⟨by simp,fun i _ hi=>Fq (fun h=>hi (by simp[h]))⟩
 have h1:VrS n bw bc V C ids c S T1 (.mk k s m [x,y]) S.boxes.length (S.boxes.length+1) v 0 d1:=
  h0.step (by rw[hT1,Fq (by omega)];exact up0 h0.ne.1.symm h0.e) (by rw[hT1];exact Eh (Aa ha0))
   (hW0.chg hsb0 (by simp;omega) (by have:=Aa hW.c.box;simp;omega) fun i hi hi2=>by simp at hi2;have:=T5 hW.c i hi;omega) (by rw[hT1];exact htt0)
   ⟨by rw[hT1];simpa using hcc0.1,fun i hi hi2=>(hsb0.2 i (Mz hi hcc0.1) (by simp;omega)).trans (hcc0.2 i hi hi2)⟩
 refine P7 ?_;have hno2':=hno2 gt;have hl1:=Aa h1.a;have hbw1:=Aa h1.w.w;refine Cb 60 rfl ?_;refine Do ?_;refine Mm 1 (by decide) (Am (l:=[x,y]) rfl) ?_;refine Lq (b:=T1.boxes.length) rfl rfl ?_;refine Cc (b:=T1.boxes.length) (cs:=zN) (by simp) rfl ?_;obtain⟨U1,hU1⟩:∃U:St,U=⟨T1.boxes++[[Af y]],T1.toks⟩:=⟨_,rfl⟩
 refine Be U1 ?_ (by rw[hU1];exact congrArg (fun x=>St.mk x _) (by rw[Iw _ _ (Bo _),Ik];rfl));have hu1:U1.boxes[T1.boxes.length]?=some [Af y]:=by rw[hU1];simp
 refine Aw hu1 ?_;refine G3 (ihy U1 (h1.w.more (by rw[hU1]))) ?_;intro r W1 hP _ _;obtain⟨rfl,ht1,hc1,hW1⟩:=hP;refine Cb 60 rfl ?_;have hcc1:Chg [bw] S.boxes W1.boxes:=((h1.chg.trans (Chg.snoc [] T1.boxes [Af y])).trans (by rw[hU1]at hc1;exact hc1)).more fun i hi=>by simpa using hi
 have htt1:W1.toks=S.toks:=by rw[ht1,hU1];exact h1.toks
 refine F7 (fun g=>?_) (fun g=>?_)
 ·have g':¬t2=0:=by simpa using(show (t2 != 0)=true from g)
  rw[hno2' g'];exact Bc func187 (h:=rfl) ⟨_,rfl,rfl,htt1,hcc1,hW1⟩
 have gt2:t2=0:=by simpa using(show (t2 != 0)=false from g)
 have up1:∀{i:Nat} {y:List (List AV)},i≠bw→T1.boxes[i]?=some y→W1.boxes[i]?=some y:=fun{i y} hi h=>(hc1.2 i (by rw[hU1];simp;have:=Aa h;omega) (by simpa using hi)).trans (by rw[hU1,Cs (Aa h)];exact h);have ha1:=up1 h1.ne.2.symm h1.a;refine Hi (Acl (m:=2) (n:=1) (by decide) (by decide)) rfl rfl ?_;refine Cc ha1 rfl ?_;obtain⟨T2,hT2⟩:∃U:St,U=⟨W1.boxes.set (S.boxes.length+1) [[vi v,vi v2]],W1.toks⟩:=⟨_,rfl⟩
 refine Be T2 ?_ hT2.symm;have hsb1:Chg [S.boxes.length+1] W1.boxes T2.boxes:=by rw[hT2];exact⟨by simp,fun i _ hi=>Fq (fun h=>hi (by simp[h]))⟩
 have h2:VrS n bw bc V C ids c S T2 (.mk k s m [x,y]) S.boxes.length (S.boxes.length+1) v v2 d2:=
  h1.step (by rw[hT2,Fq (by omega)];exact up1 h1.ne.1.symm h1.e) (by rw[hT2];exact Eh (Aa ha1))
   (hW1.chg hsb1 (by simp;omega) (by have:=Aa hW.c.box;simp;omega) fun i hi hi2=>by simp at hi2;have:=T5 hW.c i hi;omega) (by rw[hT2];exact htt1)
   ⟨by rw[hT2];simpa using hcc1.1,fun i hi hi2=>(hsb1.2 i (Mz hi hcc1.1) (by simp;omega)).trans (hcc1.2 i hi hi2)⟩
 refine P7 ?_;refine Cb 60 rfl ?_;refine Ey (e:=false) 0 10 (fun h=>nomatch h) (fun _=>?_);exact Ts (G:=[(0,.ptr bw 0 0),(3,.ptr S.boxes.length 0 0),(6,.ptr (S.boxes.length+1) 0 0)]) ⟨rfl,rfl,rfl,trivial⟩ (h gt gt2 h2)
theorem Yy(hk:VOk n c){e:Nd}(h:FE e):Ff (Ax n 31) (Ax n 32) e=true→∀d,VrR n bw bc V C ids c e d (C9 n c e d):=by
 induction h with
 |num m h0 h1=>
  intro _ d;exact Auv 1 [] m d (m,0,d) (Ay2 m d)
 |var s h=>
  intro hn d;exact Auv 2 s 0 d _ (Ay4 hk s ((Wo hn).1 rfl) d)
 |cell s a h ha ih=>
  intro hn d;have hi:=ih (Ahv hn) d;rcases hv:C9 n c a d with⟨v,t,d1⟩
  rw[hv]at hi;rw[Agh hv];refine A0b 3 s 0 d a v t d1 _ hi (fun g=>if_neg g) (fun g=>?_);intro S T0 l1 l2 m' t' hl hS;rw[if_pos g];exact Auu hk s ((Wo hn).2 rfl) [a] v d1 hl hS
 |len s h=>
  intro hn d;exact Auv 4 s 0 d _ (Ayz hk s ((Wo hn).2 rfl) d)
 |neg a ha ih=>
  intro hn d;have hi:=ih (Ahv hn) d;rcases hv:C9 n c a d with⟨v,t,d1⟩
  rw[hv]at hi;rw[Agh hv];refine A0b 5 [] 0 d a v t d1 _ hi (fun g=>if_neg g) (fun g=>?_);intro S T0 l1 l2 m' t' _ hS;rw[if_pos g];exact Ay1 [a] v 0 d1 hS
 |two k a b hk' ha hb iha ihb=>
  intro hn d;obtain⟨n1,n2⟩:=Z7 hn;rcases hv:C9 n c a d with⟨v,t,d1⟩
  rcases hv2:C9 n c b d1 with⟨v2,t2,d2⟩
  have h1:=iha n1 d;have h2:=ihb n2 d1;rw[hv]at h1;rw[hv2]at h2;rw[Avp hv hv2];refine A4k k [] 0 d a b v t d1 v2 t2 d2 _ h1 h2 (fun g=>if_neg g) (fun g g2=>by rw[if_pos g,if_neg g2]) (fun g g2=>?_);intro S T0 l1 l2 m' t' hS;rw[if_pos g,if_pos g2];rcases hk' with rfl|rfl|rfl
  ·exact Ayy [a,b] v v2 d2 hS
  ·exact Ay3 [a,b] v v2 d2 hS
  ·exact Ay0 [a,b] v v2 d2 hS
end
theorem VOk.ok{n:Nd}{c:Cf}(h:VOk n c):CfOk c:=by
 have:=h.kl;have:=G9 n 31;have:=G9 n 32;exact⟨by rw[h.vars];omega,by rw[h.cells];omega,fun x hx=>by have:=h.rows x hx;omega⟩
theorem CfS.fzp{S:St}{bc:Nat}{V C:AV}{ids:List Nat}{c:Cf}(h:CfS S bc V C ids c)(hc:CfOk c):Fz S 0 0 (.ptr bc 0 0) (.cptr (G4 c)):=by
 obtain⟨cs,h1,h2,h3⟩:=h.cf.fzC hc;cases h1;exact .ptr bc 0 0 _ _ _ (B3 _) h.box rfl rfl fun j x y hx hy=>h3 j x y (by simpa using hx) hy
theorem Ake(n:Nd)(c:Cf)(hpts:(D6 (A9 n)).pts≤2000000):Pure X 118 [.cptr (Mh n),.cptr (G4 c)] (vb (I7 n c)):=by
 have hw:IntKind.i64.wrap ((((D6 (A9 n)).pts:Nat):Int)-1)=(((D6 (A9 n)).pts:Nat):Int)-1:=Ac (by omega) (by omega);have e0:I7 n c=((c.trap != 0)||((c.pt==IntKind.i64.wrap ((((D6 (A9 n)).pts:Nat):Int)-1))||(c.steps==5000))):=by rw[hw];rfl
 rw[e0];refine Pure.run func118 ?_;refine Hw 0 5 ?_;cases h1:(c.trap != 0)with
 |true=>
  refine Qb true ?_;refine M0 12 ?_;refine Qb true ?_;refine Fx ?_;refine B2 ?_;exact As func118 rfl
 |false=>
  refine Qb false ?_;refine M0 12 ?_;cases h2:(c.pt==IntKind.i64.wrap ((((D6 (A9 n)).pts:Nat):Int)-1))with
  |true=>
   refine Qb true ?_;refine Fx ?_;refine B2 ?_;exact As func118 rfl
  |false=>
   refine Qb false ?_;refine Fx ?_;refine B2 ?_;exact As func118 rfl
abbrev HR:=Bool×Int×Int
def Lg(n:Nd)(c:Cf)(x:Nd)(d:Int):HR:=match x.kids with
 |[a,b]=>
  if (C9 n c a d).2.1=0 then
   if (C9 n c b (C9 n c a d).2.2).2.1=0 then(Oz x.kind (C9 n c a d).1 (C9 n c b (C9 n c a d).2.2).1,0,(C9 n c b (C9 n c a d).2.2).2.2)
   else(false,(C9 n c b (C9 n c a d).2.2).2)
  else(false,(C9 n c a d).2)
 |_=>(false,0,d)
def HrP(n:Nd)(bw bc:Nat)(V C:AV)(ids:List Nat)(c:Cf)(S:St)(T:HR)(r:AV)(S':St):Prop:=r=.tup [vb T.1,vi T.2.1]∧S'.toks=S.toks∧Chg [bw] S.boxes S'.boxes∧WkS n S' bw bc V C ids c T.2.2
theorem Aox{n:Nd}{bw bc:Nat}{V C:AV}{ids:List Nat}{c:Cf}(hk:VOk n c){x:Nd}(hx:FC x)(hn:Ff (Ax n 31) (Ax n 32) x=true)(d:Int)(S:St)(hW:WkS n S bw bc V C ids c d) :
 Runs X 190 [.ptr bw 0 0,nd x] S (HrP n bw bc V C ids c S (Lg n c x d)):=by
 cases hx with
 |mk k a b h0 h1 ha hb=>
 obtain⟨n1,n2⟩:=Z7 hn;have ia:=Yy (bw:=bw) (bc:=bc) (V:=V) (C:=C) (ids:=ids) hk ha n1 d;have ib:=Yy (bw:=bw) (bc:=bc) (V:=V) (C:=C) (ids:=ids) hk hb n2 (C9 n c a d).2.2;simp only[Lg,Nd.kids,Nd.kind];rcases hv:C9 n c a d with⟨v,t,d1⟩
 rw[hv]at ia ib;simp only at ib⊢;rcases hv2:C9 n c b d1 with⟨v2,t2,d2⟩
 rw[hv2]at ib;simp only;refine Runs.run func190 ?_;refine Tr (b:=S.boxes.length) rfl rfl ?_;obtain⟨U,hU⟩:∃U:St,U=⟨S.boxes++[[Af (.mk k [] 0 [a,b])]],S.toks⟩:=⟨_,rfl⟩
 refine Be U ?_ hU.symm;have zE:U.boxes[S.boxes.length]?=some [Af (.mk k [] 0 [a,b])]:=by rw[hU];simp
 have hbw:=Aa hW.w;refine Aw zE ?_;refine Mm 0 (by decide) (Am (l:=[a,b]) rfl) ?_;refine G3 (ia U (hW.more (by rw[hU]))) ?_;intro r U1 hP _ _;obtain⟨rfl,ht1,hc1,hW1⟩:=hP;have zE1:=(hc1.2 _ (Aa zE) (by simp;omega)).trans zE;have hcc:Chg [bw] S.boxes U1.boxes:=((Chg.snoc [] S.boxes [Af (.mk k [] 0 [a,b])]).trans (by rw[hU]at hc1;exact hc1)).more fun i hi=>by simpa using hi
 have htt:U1.toks=S.toks:=by rw[ht1,hU]
 refine Cb 60 rfl ?_;refine F7 (fun g=>?_) (fun g=>?_)
 ·have g':¬t=0:=by simpa using(show (t != 0)=true from g)
  rw[if_neg g'];exact Bc func190 (h:=rfl) ⟨_,rfl,rfl,htt,hcc,hW1⟩
 have gt:t=0:=by simpa using(show (t != 0)=false from g)
 rw[if_pos gt];refine Aw zE1 ?_;refine Mm 1 (by decide) (Am (l:=[a,b]) rfl) ?_;refine G3 (ib U1 hW1) ?_;intro r U2 hP _ _;obtain⟨rfl,ht2,hc2,hW2⟩:=hP;have zE2:=(hc2.2 _ (Aa zE1) (by simp;omega)).trans zE1;have hcc2:Chg [bw] S.boxes U2.boxes:=(hcc.trans hc2).more fun i hi=>by simpa using hi
 have htt2:U2.toks=S.toks:=ht2.trans htt;refine Cb 60 rfl ?_;refine F7 (fun g2=>?_) (fun g2=>?_)
 ·have g':¬t2=0:=by simpa using(show (t2 != 0)=true from g2)
  rw[if_neg g'];exact Bc func190 (h:=rfl) ⟨_,rfl,rfl,htt2,hcc2,hW2⟩
 have gt2:t2=0:=by simpa using(show (t2 != 0)=false from g2)
 rw[if_pos gt2];refine Hi Ak9 rfl rfl ?_;refine Cb 60 rfl ?_;refine Aw zE2 ?_;have hw:IntKind.i64.wrap (k-11)=k-11:=Ac (by omega) (by omega);have hr:[vb (decide (v<v2)),vb (decide (v≤v2)),vb (decide (v>v2)),vb (decide (v≥v2)),vb (v==v2),vb (v != v2)][(IntKind.i64.wrap (k-11)).toNat]?=some (vb (Oz k v v2)):=by
  rw[hw];have:k=11∨k=12∨k=13∨k=14∨k=15∨k=16:=by omega
  rcases this with rfl|rfl|rfl|rfl|rfl|rfl<;>rfl
 refine Hi (W4 rfl rfl rfl rfl rfl rfl rfl rfl rfl (show 0≤IntKind.i64.wrap (k-11) by rw[hw];omega) (show IntKind.i64.wrap (k-11)<((6:Nat):Int) by rw[hw];omega) hr) rfl rfl ?_;refine Cb 60 rfl ?_;exact Bc func190 (h:=rfl) ⟨_,rfl,rfl,htt2,hcc2,hW2⟩
theorem Azt(l:List Int)(i:Nat)(v:Int):(Fe l).set i [vi v]=Fe (l.set i v):=by simp[Fe,Zc]
theorem Awv(l:List (Bool×Int))(i:Nat)(v:Bool×Int):(I9 l).set i (Nv v)=I9 (l.set i v):=by simp[I9,Zc]
theorem Cw(bx:List (List (List AV)))(b:Nat)(rows:List (List AV)):Chg [b] bx (bx.set b rows):=⟨by simp,fun i _ hi=>Fq (fun h=>hi (by simp[h]))⟩
section
variable {S:St}{bc:Nat}{V C:AV}{ids:List Nat}{c:Cf}
theorem CfS.upd(h:CfS S bc V C ids c){c':Cf}(hv:c'.vars=c.vars)(hc:c'.cells=c.cells):CfS ⟨S.boxes.set bc [Ef c' V C],S.toks⟩ bc V C ids c':=by
 obtain⟨V',C',ys,h1,h2,h3,h4,h5,h6,h7⟩:=(h.cf.chg (Cw S.boxes bc [Ef c' V C]) fun i hi hi2=>by simp at hi2;subst hi2;exact h.ne hi).ex;simp only[AV.agg.injEq,List.cons.injEq,and_true,true_and]at h1;obtain⟨rfl,rfl⟩:=h1;exact⟨Eh (Aa h.box),⟨V,C,ys,rfl,h2,h3,by rw[hv];exact h4,h5,by rw[hc];exact h6,by rw[hc];exact h7⟩,h.ne⟩
theorem CfS.wrV(h:CfS S bc V C ids c){i b:Nat}{ex:List (List AV)}(v:Int)(hi:i<c.vars.length)(hV:V=.bsl b c.vars.length)(hb:S.boxes[b]?=some (Fe c.vars++ex)) :
 CfS ⟨S.boxes.set b ((Fe c.vars++ex).set i [vi v]),S.toks⟩ bc V C ids { c with vars:=c.vars.set i v }∧Chg ids S.boxes (S.boxes.set b ((Fe c.vars++ex).set i [vi v])):=by
 obtain⟨V',C',ys,h1,h2,h3,h4,h5,h6,h7⟩:=h.cf.ex;simp only[AV.agg.injEq,List.cons.injEq,and_true,true_and]at h1;obtain⟨rfl,rfl⟩:=h1;subst hV;have hbi:b∈ids:=by rw[h2];simp[Jo]
 have hnd:=h3;rw[h2]at hnd;obtain⟨_,_,hd⟩:=zzq108.1 hnd;have hne:∀j,j∈Jo C++ys.flatMap Jo→j∉[b]:=fun j hj hj2=>by simp at hj2;subst hj2;exact hd j (by simp[Jo]) j hj rfl
 have hch:=Cw S.boxes b ((Fe c.vars++ex).set i [vi v]);have hbne:b≠bc:=fun e=>h.ne (e▸hbi);refine⟨⟨by rw[Fq hbne];exact h.box,⟨_,C,ys,rfl,h2,h3,.inl ⟨b,ex,by rw[D9,Agm],?_⟩,h5.chg hch fun j hj=>hne j (List.mem_append_left _ hj),h6,fun j y l hy hl=>(h7 j y l hy hl).chg hch fun k hk=>hne k (Abq _ (zzq106.2 ⟨y,Bh hy,hk⟩))⟩,h.ne⟩,hch.more fun j hj=>by simp at hj;subst hj;exact hbi⟩;rw[Eh (Aa hb),List.set_append_left _ _ (by rw[D9];exact hi),Azt]
theorem CfS.wrC(h:CfS S bc V C ids c){i j b b2:Nat}{ys:List AV}{ex ex2:List (List AV)}{r:List (Bool×Int)}(v:Int)(hr:c.cells[i]?=some r)(hj:j<r.length)(hC:C=.bsl b c.cells.length)(hyl:ys.length=c.cells.length)(hb:S.boxes[b]?=some (ys.map (fun y=>[y])++ex))(hy:ys[i]?=some (.bsl b2 r.length))(hb2:S.boxes[b2]?=some (I9 r++ex2)) :
 b2∈ids∧CfS ⟨S.boxes.set b2 ((I9 r++ex2).set j [vb true,vi v]),S.toks⟩ bc V C ids { c with cells:=c.cells.set i (r.set j (true,v)) }∧Chg ids S.boxes (S.boxes.set b2 ((I9 r++ex2).set j [vb true,vi v])):=by
 obtain⟨V',C',zs,h1,h2,h3,h4,h5,h6,h7⟩:=h.cf.ex;simp only[AV.agg.injEq,List.cons.injEq,and_true,true_and]at h1;obtain⟨rfl,rfl⟩:=h1;subst hC;have hz:zs=ys:=by
  rcases h5 with⟨b',ex',e1,hb'⟩|⟨_,sp,e1⟩
  ·simp only[AV.bsl.injEq]at e1;obtain⟨rfl,e2⟩:=e1;rw[hb]at hb';have e3:=Option.some.inj hb';have e4:=(List.append_inj e3 (by simp[h6,hyl])).1;have:∀{a b:List AV},a.map (fun y=>[y])=b.map (fun y=>[y])→b=a:=fun{a}=>by
    induction a with
    |nil=>intro b h;cases b with
     |nil=>rfl
     |cons y b=>simp at h
    |cons x a ih=>intro b h;cases b with
     |nil=>simp at h
     |cons y b=>simp only[N0,List.cons.injEq,and_true]at h;rw[h.1,ih h.2]
   exact this e4
  ·cases e1
 subst hz;have hbm:b2∈zs.flatMap Jo:=zzq106.2 ⟨_,Bh hy,by simp[Jo]⟩;have hbi:b2∈ids:=by rw[h2];exact Abq _ (Abq _ hbm)
 have hnd:=h3;rw[h2]at hnd;obtain⟨_,nd2,hd⟩:=zzq108.1 hnd;obtain⟨_,nd3,hd2⟩:=zzq108.1 nd2;have hch:=Cw S.boxes b2 ((I9 r++ex2).set j [vb true,vi v]);have hbne:b2≠bc:=fun e=>h.ne (e▸hbi);refine⟨hbi,⟨by rw[Fq hbne];exact h.box,⟨V,_,zs,rfl,h2,h3,h4.chg hch fun k hk hk2=>?_,h5.chg hch fun k hk hk2=>?_,by simpa using h6,fun k y l hy' hl=>?_⟩,h.ne⟩,hch.more fun k hk=>by simp at hk;subst hk;exact hbi⟩
 ·simp at hk2;subst hk2;exact hd k hk k (Abq _ hbm) rfl
 ·simp at hk2;subst hk2;exact hd2 k hk k hbm rfl
 ·rcases Eu hl with⟨rfl,rfl⟩|⟨hne,hl⟩
  ·rw[hy]at hy';cases hy';refine .inl ⟨b2,ex2,by rw[G5,Agm],?_⟩;rw[Eh (Aa hb2),List.set_append_left _ _ (by rw[G5];exact hj)];congr 2;exact Awv r j (true,v)
  ·refine(h7 k y l hy' hl).chg hch fun q hq hq2=>?_;simp at hq2;subst hq2;exact Aog nd3 (Ne.symm hne) hy hy' (by simp[Jo]) hq
end
theorem Ahq{l:List Nat}{i m:Nat}(h:l[i]?=some m):(Uh l)[i]?=some [vi m]:=by simp[Uh,h]
theorem Ayp(n:Nd){p i j:Nat}{e:Eg}(hp:p<(D6 (A9 n)).pts)(he:(Lx (A9 n))[i]?=some e)(hf:e.f=(p:Int))(hl:L3 Eg.f (Lx (A9 n)) p=[i,j])(hij:i<j):Pure X 191 [.cptr (Mh n),vi i] (vi j):=by
 obtain⟨f,t,k,y,x⟩:=e;simp only at hf;subst hf;have hrow:=Ajo Eg.f (Lx (A9 n)) hp;rw[hl]at hrow;refine Pure.run func191 ?_;refine D8 0 ?_;refine Db i (by omega) (Gm he) ?_;refine Db p (by omega) hrow ?_;refine B2 ?_;refine N1 ?_;refine Bi 100 rfl ?_;refine A0 ?_;refine B4 0 (by decide) (Ahq (l:=[i,j]) (i:=0) rfl) ?_;refine Ag ?_ (ht:=by simp);refine P7 ?_;refine Bi 100 rfl ?_;refine A0 ?_;refine B4 1 (by decide) (Ahq (l:=[i,j]) (i:=1) rfl) ?_;refine A0 ?_ (ht:=by simp;omega);exact As func191 rfl
def DoP(n:Nd)(bw bc:Nat)(V C:AV)(ids:List Nat)(S:St)(i j:Nat)(q:DR)(r:AV)(S':St):Prop:=
 r=.tup [vi (if q.2.2.2=true then i else j:Nat),vi q.2.1]∧S'.toks=S.toks∧Chg (bw::bc::ids) S.boxes S'.boxes∧∃d',WkS n S' bw bc V C ids q.1 d'∧(q.2.1≠0→q.2.1≠4→q.2.1≠5→d'=q.2.2.1)
abbrev zEg:List AV:=[vi 0,vi 0,vi 0,vb false,vi 0,str [],vi 0,.sl [] .tight]
theorem Chg.up{a b:List Nat}{bx bx' bx'':List (List (List AV))}(h:Chg a bx bx')(h':Chg b bx' bx'')(hb:∀i,i∈b→i∈a):Chg a bx bx'':=(h.trans h').more fun i hi=>by
 rcases zzq45.1 hi with h|h
 ·exact h
 ·exact hb i h
section
variable {n:Nd}{bw bc:Nat}{V C:AV}{ids:List Nat}{c:Cf}
abbrev DoR(n:Nd)(bw bc:Nat)(V C:AV)(ids:List Nat)(c:Cf)(inp:List Int)(i j:Nat)(q:DR):Prop:=
 ∀S:St,WkS n S bw bc V C ids c 0→Runs X 137 [.ptr bw 0 0,vi i,.sl (Fe inp) .no] S (DoP n bw bc V C ids S i j q)
theorem Afz{i j:Nat}{inp:List Int}{f t k:Int}{y:Bool}{x:Nd}(hk':k=6∨k=7)(he:(Lx (A9 n))[i]?=some ⟨f,t,k,y,x⟩):DoR n bw bc V C ids c inp i j (c,0,0,true):=by
 rcases hk' with rfl|rfl
 ·skip
  intro S hW;have hbw:=Aa hW.w;have hbc:=Aa hW.c.box;have hid:=T5 hW.c;have zw:=hW.w;have gx:∀{i:Nat} {y:List (List AV)} {more:List (List (List AV))},S.boxes[i]?=some y→(S.boxes++more)[i]?=some y:=fun{i y more} h=>by rw[Cs (Aa h)];exact h
  have new:∀y:List (List AV),(S.boxes++[y])[S.boxes.length]?=some y:=fun y=>by simp
  have keep:∀r:List (List AV),((S.boxes++[[zEg]]).set S.boxes.length r)[bw]?=some [wkp n bc 0]:=fun r=>by rw[Fq (by omega)];exact gx zw
  refine Runs.run func137 ?_;refine De 98304 (by kernel_rfl) ?_
  iterate 3 refine Av ?_
  refine A2 (Aq zw) ?_
  iterate 5 refine Av ?_
  refine Eo (fun S'=>Cu rfl rfl rfl rfl rfl rfl rfl rfl rfl (by omega) (Gm he)) ?_
  iterate 4 refine Av ?_
  refine A2 (Aq zw) ?_;refine Dz (Pi rfl rfl) (An (Aq (gx zw)) (An (Aq (gx zw)) Gy)) ?_;refine Dz (J1 (r:=0) (cs:=zEg) (new _) rfl rfl) ?_ ?_
  ·intro p hp;replace hp:=(zzq56.1 hp).1;revert p;exact An (Aq (keep _)) (An (Aq (keep _)) Gy)
  refine Av ?_;refine Gt ?_;obtain⟨T,hT⟩:∃T:St,T=⟨S.boxes++[[H5 (⟨f,t,6,y,x⟩)]],S.toks⟩:=⟨_,rfl⟩
  refine Be T ?_ (by rw[hT];exact congrArg (fun x=>St.mk x _) (by rw[Iw _ _ (Bo _),Ik];rfl));have zE:T.boxes[S.boxes.length]?=some [H5 (⟨f,t,6,y,x⟩)]:=by rw[hT];simp
  have hWT:WkS n T bw bc V C ids c 0:=hW.more (by rw[hT]);have hcT:Chg (bw::bc::ids) S.boxes T.boxes:=by rw[hT];exact Chg.snoc _ _ _
  have htT:T.toks=S.toks:=by rw[hT]
  refine Aw zE ?_
  iterate 3 refine Cq ?_
  refine Cq ?_;refine Cq ?_;exact Bc func137 (h:=rfl) ⟨_,rfl,rfl,htT,hcT,0,hWT,fun h=>absurd rfl h⟩
 ·skip
  intro S hW;have hbw:=Aa hW.w;have hbc:=Aa hW.c.box;have hid:=T5 hW.c;have zw:=hW.w;have gx:∀{i:Nat} {y:List (List AV)} {more:List (List (List AV))},S.boxes[i]?=some y→(S.boxes++more)[i]?=some y:=fun{i y more} h=>by rw[Cs (Aa h)];exact h
  have new:∀y:List (List AV),(S.boxes++[y])[S.boxes.length]?=some y:=fun y=>by simp
  have keep:∀r:List (List AV),((S.boxes++[[zEg]]).set S.boxes.length r)[bw]?=some [wkp n bc 0]:=fun r=>by rw[Fq (by omega)];exact gx zw
  refine Runs.run func137 ?_;refine De 98304 (by kernel_rfl) ?_
  iterate 3 refine Av ?_
  refine A2 (Aq zw) ?_
  iterate 5 refine Av ?_
  refine Eo (fun S'=>Cu rfl rfl rfl rfl rfl rfl rfl rfl rfl (by omega) (Gm he)) ?_
  iterate 4 refine Av ?_
  refine A2 (Aq zw) ?_;refine Dz (Pi rfl rfl) (An (Aq (gx zw)) (An (Aq (gx zw)) Gy)) ?_;refine Dz (J1 (r:=0) (cs:=zEg) (new _) rfl rfl) ?_ ?_
  ·intro p hp;replace hp:=(zzq56.1 hp).1;revert p;exact An (Aq (keep _)) (An (Aq (keep _)) Gy)
  refine Av ?_;refine Gt ?_;obtain⟨T,hT⟩:∃T:St,T=⟨S.boxes++[[H5 (⟨f,t,7,y,x⟩)]],S.toks⟩:=⟨_,rfl⟩
  refine Be T ?_ (by rw[hT];exact congrArg (fun x=>St.mk x _) (by rw[Iw _ _ (Bo _),Ik];rfl));have zE:T.boxes[S.boxes.length]?=some [H5 (⟨f,t,7,y,x⟩)]:=by rw[hT];simp
  have hWT:WkS n T bw bc V C ids c 0:=hW.more (by rw[hT]);have hcT:Chg (bw::bc::ids) S.boxes T.boxes:=by rw[hT];exact Chg.snoc _ _ _
  have htT:T.toks=S.toks:=by rw[hT]
  refine Aw zE ?_
  iterate 3 refine Cq ?_
  refine Cq ?_;refine Cq ?_;exact Bc func137 (h:=rfl) ⟨_,rfl,rfl,htT,hcT,0,hWT,fun h=>absurd rfl h⟩
theorem Aut(hk:VOk n c){i j:Nat}{inp:List Int}{f t:Int}{y:Bool}{s:List UInt8}{a:Nd}(he:(Lx (A9 n))[i]?=some ⟨f,t,1,y,.mk 21 s 0 [a]⟩)(hs:E6 0 (Ax n 31) s≥0)(ha:FE a)(ka:Ff (Ax n 31) (Ax n 32) a=true) :
 DoR n bw bc V C ids c inp i j (Rz n inp c 1 y (.mk 21 s 0 [a])):=by
 obtain⟨iv,v0,h1,h2,_⟩:=hk.var hs;have kl:=hk.kl;have hq:=Xk n s (by omega);rw[h1]at hq;have hiv:=Aa h2;have ia:=Yy (bw:=bw) (bc:=bc) (V:=V) (C:=C) (ids:=ids) hk ha ka 0;have e0:Rz n inp c 1 y (.mk 21 s 0 [a])=if (C9 n c a 0).2.1=0 then(Wk n c s (C9 n c a 0).1,0,(C9 n c a 0).2.2,true)else(c,(C9 n c a 0).2.1,(C9 n c a 0).2.2,true):=rfl;rw[e0];rcases hv:C9 n c a 0 with⟨v,tt,d1⟩
 rw[hv]at ia;simp only;intro S hW;have hbw:=Aa hW.w;have hbc:=Aa hW.c.box;have hid:=T5 hW.c;have zw:=hW.w;have gx:∀{i:Nat} {y:List (List AV)} {more:List (List (List AV))},S.boxes[i]?=some y→(S.boxes++more)[i]?=some y:=fun{i y more} h=>by rw[Cs (Aa h)];exact h
 have new:∀y:List (List AV),(S.boxes++[y])[S.boxes.length]?=some y:=fun y=>by simp
 have keep:∀r:List (List AV),((S.boxes++[[zEg]]).set S.boxes.length r)[bw]?=some [wkp n bc 0]:=fun r=>by rw[Fq (by omega)];exact gx zw
 refine Runs.run func137 ?_;refine De 98304 (by kernel_rfl) ?_
 iterate 3 refine Av ?_
 refine A2 (Aq zw) ?_
 iterate 5 refine Av ?_
 refine Eo (fun S'=>Cu rfl rfl rfl rfl rfl rfl rfl rfl rfl (by omega) (Gm he)) ?_
 iterate 4 refine Av ?_
 refine A2 (Aq zw) ?_;refine Dz (Pi rfl rfl) (An (Aq (gx zw)) (An (Aq (gx zw)) Gy)) ?_;refine Dz (J1 (r:=0) (cs:=zEg) (new _) rfl rfl) ?_ ?_
 ·intro p hp;replace hp:=(zzq56.1 hp).1;revert p;exact An (Aq (keep _)) (An (Aq (keep _)) Gy)
 refine Av ?_;refine Gt ?_;obtain⟨T,hT⟩:∃T:St,T=⟨S.boxes++[[H5 (⟨f,t,1,y,.mk 21 s 0 [a]⟩)]],S.toks⟩:=⟨_,rfl⟩
 refine Be T ?_ (by rw[hT];exact congrArg (fun x=>St.mk x _) (by rw[Iw _ _ (Bo _),Ik];rfl));have zE:T.boxes[S.boxes.length]?=some [H5 (⟨f,t,1,y,.mk 21 s 0 [a]⟩)]:=by rw[hT];simp
 have hWT:WkS n T bw bc V C ids c 0:=hW.more (by rw[hT]);have hcT:Chg (bw::bc::ids) S.boxes T.boxes:=by rw[hT];exact Chg.snoc _ _ _
 have htT:T.toks=S.toks:=by rw[hT]
 refine Aw zE ?_;refine Do ?_;refine Aw zE ?_;refine Mm 0 (by decide) (Am (l:=[a]) rfl) ?_;refine G3 (ia T hWT) ?_;intro r U hP _ _;obtain⟨rfl,htU,hcU,hWU⟩:=hP;have zE2:=(hcU.2 _ (Aa zE) (by simp;omega)).trans zE;have hcSU:Chg (bw::bc::ids) S.boxes U.boxes:=hcT.up hcU fun i hi=>by simp at hi;simp[hi]
 have htSU:=htU.trans htT;refine Cb 60 rfl ?_;refine F7 (fun g=>?_) (fun g=>?_)
 ·have gt:tt=0:=by simpa using(show (tt==0)=true from g)
  subst gt;rw[if_pos rfl];obtain⟨bv,ex,hV,hb,hrow⟩:=hWU.c.vars h2;have hwr:=hWU.c.wrV v hiv hV hb;subst hV;refine De 16384 (by kernel_rfl) ?_
  iterate 3 refine Av ?_
  refine A2 (Aq hWU.c.box) ?_
  iterate 3 refine Av ?_
  refine A2 (Aq hWU.w) ?_
  iterate 2 refine Av ?_
  refine A2 (Aq zE2) ?_;refine Js hq ?_;refine Av ?_;refine A2 (Gd (hj:=by simpa[Fw]using hiv) (hb:=hb) (hr:=hrow) (hl:=rfl)) ?_;refine Ch (J1 hb hrow rfl) ?_;refine Gt ?_;have hne:bw≠bv:=fun h=>hWU.ne.2 (by obtain⟨V',C',ys,q1,q2,_⟩:=hWU.c.cf.ex;simp only[AV.agg.injEq,List.cons.injEq,and_true,true_and]at q1;obtain⟨rfl,_⟩:=q1;rw[q2];simp[Jo,h]);refine Bc func137 (h:=rfl) ⟨_,rfl,rfl,htSU,hcSU.up hwr.2 fun i hi=>by simp[hi],d1,⟨by rw[Fq hne.symm];exact hWU.w,?_,hWU.ne⟩,fun h=>absurd rfl h⟩;have:=hwr.1;unfold Wk;rw[h1,Hl];exact this
 ·have gt:¬tt=0:=by simpa using(show (tt==0)=false from g)
  rw[if_neg gt];exact Bc func137 (h:=rfl) ⟨_,rfl,rfl,htSU,hcSU,d1,hWU,fun _ _ _=>rfl⟩
theorem Aus(hk:VOk n c){i j:Nat}{inp:List Int}{f t:Int}{y:Bool}{s:List UInt8}{a b:Nd}(he:(Lx (A9 n))[i]?=some ⟨f,t,2,y,.mk 22 s 0 [a,b]⟩)(hs:E6 0 (Ax n 32) s≥0)(ha:FE a)(ka:Ff (Ax n 31) (Ax n 32) a=true)(hb':FE b)(kb:Ff (Ax n 31) (Ax n 32) b=true) :
 DoR n bw bc V C ids c inp i j (Rz n inp c 2 y (.mk 22 s 0 [a,b])):=by
 obtain⟨iv,r,h1,h2,h3,h4⟩:=hk.row hs;have kl:=hk.kl;have hq:=Aia n s (by omega);rw[h1]at hq;have hiv:=Aa h2;have ia:=Yy (bw:=bw) (bc:=bc) (V:=V) (C:=C) (ids:=ids) hk ha ka 0;have ib:=Yy (bw:=bw) (bc:=bc) (V:=V) (C:=C) (ids:=ids) hk hb' kb (C9 n c a 0).2.2;have e0:Rz n inp c 2 y (.mk 22 s 0 [a,b])=Nx n c [a,b] fun i v d=>if Bl i 0 (((Xn n c s).length:Int)-1)=true then(Aij n c s i v,0,d,true)else(c,1,d,true):=rfl;rw[e0];unfold Nx;simp only;rcases hv:C9 n c a 0 with⟨v,tt,d1⟩
 rw[hv]at ia ib;simp only at ib⊢;rcases hv2:C9 n c b d1 with⟨v2,t2,d2⟩
 rw[hv2]at ib;simp only;intro S hW;have hbw:=Aa hW.w;have hbc:=Aa hW.c.box;have hid:=T5 hW.c;have zw:=hW.w;have gx:∀{i:Nat} {y:List (List AV)} {more:List (List (List AV))},S.boxes[i]?=some y→(S.boxes++more)[i]?=some y:=fun{i y more} h=>by rw[Cs (Aa h)];exact h
 have new:∀y:List (List AV),(S.boxes++[y])[S.boxes.length]?=some y:=fun y=>by simp
 have keep:∀r:List (List AV),((S.boxes++[[zEg]]).set S.boxes.length r)[bw]?=some [wkp n bc 0]:=fun r=>by rw[Fq (by omega)];exact gx zw
 refine Runs.run func137 ?_;refine De 98304 (by kernel_rfl) ?_
 iterate 3 refine Av ?_
 refine A2 (Aq zw) ?_
 iterate 5 refine Av ?_
 refine Eo (fun S'=>Cu rfl rfl rfl rfl rfl rfl rfl rfl rfl (by omega) (Gm he)) ?_
 iterate 4 refine Av ?_
 refine A2 (Aq zw) ?_;refine Dz (Pi rfl rfl) (An (Aq (gx zw)) (An (Aq (gx zw)) Gy)) ?_;refine Dz (J1 (r:=0) (cs:=zEg) (new _) rfl rfl) ?_ ?_
 ·intro p hp;replace hp:=(zzq56.1 hp).1;revert p;exact An (Aq (keep _)) (An (Aq (keep _)) Gy)
 refine Av ?_;refine Gt ?_;obtain⟨T,hT⟩:∃T:St,T=⟨S.boxes++[[H5 (⟨f,t,2,y,.mk 22 s 0 [a,b]⟩)]],S.toks⟩:=⟨_,rfl⟩
 refine Be T ?_ (by rw[hT];exact congrArg (fun x=>St.mk x _) (by rw[Iw _ _ (Bo _),Ik];rfl));have zE:T.boxes[S.boxes.length]?=some [H5 (⟨f,t,2,y,.mk 22 s 0 [a,b]⟩)]:=by rw[hT];simp
 have hWT:WkS n T bw bc V C ids c 0:=hW.more (by rw[hT]);have hcT:Chg (bw::bc::ids) S.boxes T.boxes:=by rw[hT];exact Chg.snoc _ _ _
 have htT:T.toks=S.toks:=by rw[hT]
 refine Aw zE ?_;refine Cq ?_;refine Do ?_;refine Aw zE ?_;refine Mm 0 (by decide) (Am (l:=[a,b]) rfl) ?_;refine G3 (ia T hWT) ?_;intro r0 U hP _ _;obtain⟨rfl,htU,hcU,hWU⟩:=hP;have zE2:=(hcU.2 _ (Aa zE) (by simp;omega)).trans zE;have hcSU:Chg (bw::bc::ids) S.boxes U.boxes:=hcT.up hcU fun i hi=>by simp at hi;simp[hi]
 have htSU:=htU.trans htT;refine Cb 60 rfl ?_;refine F7 (fun g=>?_) (fun g=>?_)
 ·have gt:¬tt=0:=by simpa using(show (tt != 0)=true from g)
  rw[if_neg gt];exact Bc func137 (h:=rfl) ⟨_,rfl,rfl,htSU,hcSU,d1,hWU,fun _ _ _=>rfl⟩
 have gt:tt=0:=by simpa using(show (tt != 0)=false from g)
 rw[if_pos gt];refine Aw zE2 ?_;refine Mm 1 (by decide) (Am (l:=[a,b]) rfl) ?_;refine G3 (ib U hWU) ?_;intro r0 W hP _ _;obtain⟨rfl,htW,hcW,hWW⟩:=hP;have zE3:=(hcW.2 _ (Aa zE2) (by simp;omega)).trans zE2;have hcSW:Chg (bw::bc::ids) S.boxes W.boxes:=hcSU.up hcW fun i hi=>by simp at hi;simp[hi]
 have htSW:=htW.trans htSU;refine Cb 60 rfl ?_;refine F7 (fun g2=>?_) (fun g2=>?_)
 ·have gt2:¬t2=0:=by simpa using(show (t2 != 0)=true from g2)
  rw[if_neg gt2];exact Bc func137 (h:=rfl) ⟨_,rfl,rfl,htSW,hcSW,d2,hWW,fun _ _ _=>rfl⟩
 have gt2:t2=0:=by simpa using(show (t2 != 0)=false from g2)
 rw[if_pos gt2];refine De 0 (by kernel_rfl) ?_
 iterate 3 refine Av ?_
 refine A2 (Aq hWW.w) ?_
 iterate 2 refine Av ?_
 refine A2 (Aq zE3) ?_;refine Js hq ?_;refine Av ?_;refine Gt ?_;refine G3 (Aoy n hWW h2 h4 v) ?_;intro r0 W' hP _ _;obtain⟨rfl,rfl⟩:=hP;refine Cb 60 rfl ?_;rw[h3];cases hbt:Bl v 0 ((r.length:Int)-1)with
 |false=>
  rw[if_neg (by decide),if_neg (by decide)];refine Do ?_;exact Bc func137 (h:=rfl) ⟨_,rfl,rfl,htSW,hcSW,d2,hWW,fun _ _ _=>rfl⟩
 |true=>
  rw[if_pos rfl,if_pos rfl];have hb1:=Cn.1 hbt;obtain⟨jj,rfl⟩:∃jj:Nat,v=jj:=⟨v.toNat,by omega⟩
  obtain⟨bb,ys,ex,yy,hC,hyl,hb,hyy,hrow,hsl⟩:=hWW.c.row h2;have hjl:jj<r.length:=by omega
  rcases hsl with⟨b2,ex2,rfl,hb2⟩|⟨hemp,sp,rfl⟩
  ·rw[G5]at hyy hrow;obtain⟨z,hz⟩:=Ab r hjl;have hrow2:(I9 r++ex2)[jj]?=some (Nv z):=by rw[Cs (by rw[G5];exact hjl)];exact Ev (f:=Nv) hz
   obtain⟨hbid,hwr⟩:=hWW.c.wrC v2 h2 hjl hC hyl hb hyy hb2;subst hC;refine Cq ?_;refine Aw hWW.c.box ?_;refine Jr iv hiv hb hrow rfl ?_;refine Hc hb hrow ?_;refine Jr jj hjl hb2 hrow2 rfl ?_;refine Mn hb2 hrow2 rfl ?_;have hne:bw≠b2:=fun h=>hWW.ne.2 (h▸hbid);refine Bc func137 (h:=rfl) ⟨_,rfl,rfl,htSW,hcSW.up hwr.2 fun i hi=>by simp[hi],d2,⟨by rw[Fq hne.symm];exact hWW.w,?_,hWW.ne⟩,fun h=>absurd rfl h⟩;have:=hwr.1;unfold Aij;rw[h1,h3,Hl,Hl];exact this
  ·have h0:r=[]:=by cases r with|nil=>rfl|cons a l=>simp[I9]at hemp
   subst h0;simp at hjl
theorem Aq4(hk:VOk n c){i j:Nat}{inp:List Int}(hu:0≤c.used∧c.used≤100){f t:Int}{y:Bool}{s:List UInt8}(he:(Lx (A9 n))[i]?=some ⟨f,t,3,y,.mk 23 s 0 []⟩)(hs:E6 0 (Ax n 31) s≥0) :
 DoR n bw bc V C ids c inp i j (Rz n inp c 3 y (.mk 23 s 0 [])):=by
 obtain⟨iv,v0,h1,h2,_⟩:=hk.var hs;have kl:=hk.kl;have hq:=Xk n s (by omega);rw[h1]at hq;have hiv:=Aa h2;have hil:=D9 inp;have e0:Rz n inp c 3 y (.mk 23 s 0 [])=if (inp.length:Int)≤c.used then(c,5,0,true)else({ Wk n c s (inp.getD c.used.toNat 0)with used:=c.used+1 },0,0,true):=rfl;rw[e0];intro S hW;have hbw:=Aa hW.w;have hbc:=Aa hW.c.box;have hid:=T5 hW.c;have zw:=hW.w;have gx:∀{i:Nat} {y:List (List AV)} {more:List (List (List AV))},S.boxes[i]?=some y→(S.boxes++more)[i]?=some y:=fun{i y more} h=>by rw[Cs (Aa h)];exact h
 have new:∀y:List (List AV),(S.boxes++[y])[S.boxes.length]?=some y:=fun y=>by simp
 have keep:∀r:List (List AV),((S.boxes++[[zEg]]).set S.boxes.length r)[bw]?=some [wkp n bc 0]:=fun r=>by rw[Fq (by omega)];exact gx zw
 refine Runs.run func137 ?_;refine De 98304 (by kernel_rfl) ?_
 iterate 3 refine Av ?_
 refine A2 (Aq zw) ?_
 iterate 5 refine Av ?_
 refine Eo (fun S'=>Cu rfl rfl rfl rfl rfl rfl rfl rfl rfl (by omega) (Gm he)) ?_
 iterate 4 refine Av ?_
 refine A2 (Aq zw) ?_;refine Dz (Pi rfl rfl) (An (Aq (gx zw)) (An (Aq (gx zw)) Gy)) ?_;refine Dz (J1 (r:=0) (cs:=zEg) (new _) rfl rfl) ?_ ?_
 ·intro p hp;replace hp:=(zzq56.1 hp).1;revert p;exact An (Aq (keep _)) (An (Aq (keep _)) Gy)
 refine Av ?_;refine Gt ?_;obtain⟨T,hT⟩:∃T:St,T=⟨S.boxes++[[H5 (⟨f,t,3,y,.mk 23 s 0 []⟩)]],S.toks⟩:=⟨_,rfl⟩
 refine Be T ?_ (by rw[hT];exact congrArg (fun x=>St.mk x _) (by rw[Iw _ _ (Bo _),Ik];rfl));have zE:T.boxes[S.boxes.length]?=some [H5 (⟨f,t,3,y,.mk 23 s 0 []⟩)]:=by rw[hT];simp
 have hWT:WkS n T bw bc V C ids c 0:=hW.more (by rw[hT]);have hcT:Chg (bw::bc::ids) S.boxes T.boxes:=by rw[hT];exact Chg.snoc _ _ _
 have htT:T.toks=S.toks:=by rw[hT]
 refine Aw zE ?_;refine Cq ?_;refine Cq ?_;refine Do ?_;refine Aw hWT.c.box ?_;refine F7 (fun g=>?_) (fun g=>?_)
 ·have g':(inp.length:Int)≤c.used:=by have:=A5 g;rw[hil]at this;exact this
  rw[if_pos g'];exact Bc func137 (h:=rfl) ⟨_,rfl,rfl,htT,hcT,0,hWT,fun _ _ h=>absurd rfl h⟩
 ·have g':¬(inp.length:Int)≤c.used:=by have:=Ba g;rw[hil]at this;exact this
  rw[if_neg g'];obtain⟨un,hun⟩:∃un:Nat,c.used=un:=⟨c.used.toNat,by omega⟩
  obtain⟨w,hw⟩:=Ab inp (i:=un) (by omega);obtain⟨bv,ex,hV,hb,hrow⟩:=hWT.c.vars h2;have hwr:=hWT.c.wrV w hiv hV hb;have hbid:bv∈ids:=by
   obtain⟨V',C',ys,q1,q2,_⟩:=hWT.c.cf.ex;simp only[AV.agg.injEq,List.cons.injEq,and_true,true_and]at q1;obtain⟨rfl,_⟩:=q1;rw[q2,hV];simp[Jo]
  have hne:bw≠bv:=fun h=>hWT.ne.2 (h▸hbid);have hnc:bc≠bv:=fun h=>hWT.c.ne (h▸hbid);subst hV;refine De 1048576 (by kernel_rfl) ?_
  iterate 3 refine Av ?_
  refine A2 (Aq hWT.c.box) ?_
  iterate 3 refine Av ?_
  refine A2 (Aq hWT.w) ?_
  iterate 2 refine Av ?_
  refine A2 (Aq zE) ?_;refine Js hq ?_
  iterate 4 refine Av ?_
  refine A2 (Aq hWT.c.box) ?_;refine Eo (fun S'=>Cu rfl rfl rfl rfl rfl rfl rfl rfl rfl hu.1 (by rw[hun,Hl];exact Y8 hw)) ?_;refine Av ?_;refine A2 (Gd (hj:=by simpa[Fw]using hiv) (hb:=hb) (hr:=hrow) (hl:=rfl)) ?_;refine Ch (J1 hb hrow rfl) ?_;refine Gt ?_;obtain⟨hc1,hch1⟩:=hwr;obtain⟨U,hU⟩:∃U:St,U=⟨T.boxes.set bv ((Fe c.vars++ex).set iv [vi w]),T.toks⟩:=⟨_,rfl⟩
  refine Be U ?_ hU.symm;rw[←hU]at hc1;have hcU:Chg (bw::bc::ids) S.boxes U.boxes:=by rw[hU];exact hcT.up hch1 fun i hi=>by simp[hi]
  have zwU:U.boxes[bw]?=some [wkp n bc 0]:=by rw[hU,Fq hne.symm];exact hWT.w
  refine Aw hc1.box ?_;refine Cc hc1.box rfl ?_;have hw1:IntKind.i64.wrap (c.used+1)=c.used+1:=Ac (by omega) (by omega);have hc2:=hc1.upd (c':={ c with vars:=c.vars.set iv w,used:=IntKind.i64.wrap (c.used+1) }) rfl rfl;refine Bc func137 (h:=rfl) ⟨_,rfl,rfl,by rw[hU];exact htT,hcU.up (Cw U.boxes bc _) fun i hi=>by simp at hi;simp[hi],0,⟨by rw[Fq hWT.ne.1.symm];exact zwU,?_,hWT.ne⟩,fun h=>absurd rfl h⟩;have e1:({ Wk n c s (inp.getD c.used.toNat 0)with used:=c.used+1 }:Cf)={ c with vars:=c.vars.set iv w,used:=IntKind.i64.wrap (c.used+1) }:=by
   unfold Wk;rw[h1,Hl,hun,Hl,Air,hw,←hun,hw1];rfl
  rw[e1];exact hc2
theorem Apz{inp:List Int}{x:Nd}(hx:FC x)(y:Bool):Rz n inp c 4 y x=if (Lg n c x 0).2.1=0 then(c,0,(Lg n c x 0).2.2,(Lg n c x 0).1==y)else(c,(Lg n c x 0).2.1,(Lg n c x 0).2.2,true):=by
 cases hx with
 |mk k a b h0 h1 ha hb=>
 have e0:Rz n inp c 4 y (.mk k [] 0 [a,b])=Nx n c [a,b] fun a b d=>(c,0,d,Oz k a b==y):=rfl;rw[e0];unfold Nx;by_cases g:(C9 n c a 0).2.1=0
 ·by_cases g2:(C9 n c b (C9 n c a 0).2.2).2.1=0
  ·simp[Lg,Nd.kids,Nd.kind,g,g2]
  ·simp[Lg,Nd.kids,Nd.kind,g,g2]
 ·simp[Lg,Nd.kids,Nd.kind,g]
theorem Apy{inp:List Int}{x:Nd}(hx:FC x)(y:Bool):Rz n inp c 5 y x=if (Lg n c x 0).2.1=0 then(if (Lg n c x 0).1=true then(c,0,(Lg n c x 0).2.2,true)else(c,4,0,true))else(c,(Lg n c x 0).2.1,(Lg n c x 0).2.2,true):=by
 cases hx with
 |mk k a b h0 h1 ha hb=>
 have e0:Rz n inp c 5 y (.mk k [] 0 [a,b])=Nx n c [a,b] fun a b d=>if Oz k a b=true then(c,0,d,true)else(c,4,0,true):=rfl;rw[e0];unfold Nx;by_cases g:(C9 n c a 0).2.1=0
 ·by_cases g2:(C9 n c b (C9 n c a 0).2.2).2.1=0
  ·simp[Lg,Nd.kids,Nd.kind,g,g2]
  ·simp[Lg,Nd.kids,Nd.kind,g,g2]
 ·simp[Lg,Nd.kids,Nd.kind,g]
theorem Amq(hk:VOk n c){i j p:Nat}{inp:List Int}{f t:Int}{y:Bool}{x:Nd}(he:(Lx (A9 n))[i]?=some ⟨f,t,4,y,x⟩)(hx:FC x)(kx:Ff (Ax n 31) (Ax n 32) x=true)(hp:p<(D6 (A9 n)).pts)(hf:f=(p:Int))(hl:L3 Eg.f (Lx (A9 n)) p=[i,j])(hij:i<j) :
 DoR n bw bc V C ids c inp i j (Rz n inp c 4 y x):=by
 have hq:=Ayp n hp he hf hl hij;rw[Apz hx];intro S hW;have hbw:=Aa hW.w;have hbc:=Aa hW.c.box;have hid:=T5 hW.c;have zw:=hW.w;have gx:∀{i:Nat} {y:List (List AV)} {more:List (List (List AV))},S.boxes[i]?=some y→(S.boxes++more)[i]?=some y:=fun{i y more} h=>by rw[Cs (Aa h)];exact h
 have new:∀y:List (List AV),(S.boxes++[y])[S.boxes.length]?=some y:=fun y=>by simp
 have keep:∀r:List (List AV),((S.boxes++[[zEg]]).set S.boxes.length r)[bw]?=some [wkp n bc 0]:=fun r=>by rw[Fq (by omega)];exact gx zw
 refine Runs.run func137 ?_;refine De 98304 (by kernel_rfl) ?_
 iterate 3 refine Av ?_
 refine A2 (Aq zw) ?_
 iterate 5 refine Av ?_
 refine Eo (fun S'=>Cu rfl rfl rfl rfl rfl rfl rfl rfl rfl (by omega) (Gm he)) ?_
 iterate 4 refine Av ?_
 refine A2 (Aq zw) ?_;refine Dz (Pi rfl rfl) (An (Aq (gx zw)) (An (Aq (gx zw)) Gy)) ?_;refine Dz (J1 (r:=0) (cs:=zEg) (new _) rfl rfl) ?_ ?_
 ·intro p hp;replace hp:=(zzq56.1 hp).1;revert p;exact An (Aq (keep _)) (An (Aq (keep _)) Gy)
 refine Av ?_;refine Gt ?_;obtain⟨T,hT⟩:∃T:St,T=⟨S.boxes++[[H5 (⟨f,t,4,y,x⟩)]],S.toks⟩:=⟨_,rfl⟩
 refine Be T ?_ (by rw[hT];exact congrArg (fun x=>St.mk x _) (by rw[Iw _ _ (Bo _),Ik];rfl));have zE:T.boxes[S.boxes.length]?=some [H5 (⟨f,t,4,y,x⟩)]:=by rw[hT];simp
 have hWT:WkS n T bw bc V C ids c 0:=hW.more (by rw[hT]);have hcT:Chg (bw::bc::ids) S.boxes T.boxes:=by rw[hT];exact Chg.snoc _ _ _
 have htT:T.toks=S.toks:=by rw[hT]
 refine Aw zE ?_;refine Cq ?_;refine Cq ?_;refine Cq ?_;refine Cq ?_;refine Do ?_;refine Aw zE ?_;refine G3 (Aox hk hx kx 0 T hWT) ?_;intro r U hP _ _;obtain⟨rfl,htU,hcU,hWU⟩:=hP;have zE2:=(hcU.2 _ (Aa zE) (by simp;omega)).trans zE;have hcSU:Chg (bw::bc::ids) S.boxes U.boxes:=hcT.up hcU fun i hi=>by simp at hi;simp[hi]
 have htSU:=htU.trans htT;generalize Lg n c x 0=H at *;obtain⟨h,tt,d1⟩:=H;simp only at hWU⊢;refine Cb 60 rfl ?_;refine F7 (fun g=>?_) (fun g=>?_)
 ·have gt:¬tt=0:=by simpa using(show (tt != 0)=true from g)
  rw[if_neg gt];exact Bc func137 (h:=rfl) ⟨_,rfl,rfl,htSU,hcSU,d1,hWU,fun _ _ _=>rfl⟩
 have gt:tt=0:=by simpa using(show (tt != 0)=false from g)
 rw[if_pos gt];refine Aw zE2 ?_;refine Ol ?_;refine Cq ?_;refine Aw zE2 ?_;refine Om ?_;refine Aw zE2 ?_;refine F7 (fun g2=>?_) (fun g2=>?_)
 ·have g3:(h==y)=false:=by simpa using(show (h != y)=true from g2)
  refine Aw hWU.w ?_;refine Im hq ?_;refine Bc func137 (h:=rfl) ⟨_,rfl,?_,htSU,hcSU,d1,hWU,fun h=>absurd rfl h⟩;simp only[g3];rfl
 ·have g3:(h==y)=true:=by simpa using(show (h != y)=false from g2)
  refine Bc func137 (h:=rfl) ⟨_,rfl,?_,htSU,hcSU,d1,hWU,fun h=>absurd rfl h⟩;simp only[g3];rfl
theorem Amp(hk:VOk n c){i j:Nat}{inp:List Int}{f t:Int}{y:Bool}{x:Nd}(he:(Lx (A9 n))[i]?=some ⟨f,t,5,y,x⟩)(hx:FC x)(kx:Ff (Ax n 31) (Ax n 32) x=true):DoR n bw bc V C ids c inp i j (Rz n inp c 5 y x):=by
 rw[Apy hx];intro S hW;have hbw:=Aa hW.w;have hbc:=Aa hW.c.box;have hid:=T5 hW.c;have zw:=hW.w;have gx:∀{i:Nat} {y:List (List AV)} {more:List (List (List AV))},S.boxes[i]?=some y→(S.boxes++more)[i]?=some y:=fun{i y more} h=>by rw[Cs (Aa h)];exact h
 have new:∀y:List (List AV),(S.boxes++[y])[S.boxes.length]?=some y:=fun y=>by simp
 have keep:∀r:List (List AV),((S.boxes++[[zEg]]).set S.boxes.length r)[bw]?=some [wkp n bc 0]:=fun r=>by rw[Fq (by omega)];exact gx zw
 refine Runs.run func137 ?_;refine De 98304 (by kernel_rfl) ?_
 iterate 3 refine Av ?_
 refine A2 (Aq zw) ?_
 iterate 5 refine Av ?_
 refine Eo (fun S'=>Cu rfl rfl rfl rfl rfl rfl rfl rfl rfl (by omega) (Gm he)) ?_
 iterate 4 refine Av ?_
 refine A2 (Aq zw) ?_;refine Dz (Pi rfl rfl) (An (Aq (gx zw)) (An (Aq (gx zw)) Gy)) ?_;refine Dz (J1 (r:=0) (cs:=zEg) (new _) rfl rfl) ?_ ?_
 ·intro p hp;replace hp:=(zzq56.1 hp).1;revert p;exact An (Aq (keep _)) (An (Aq (keep _)) Gy)
 refine Av ?_;refine Gt ?_;obtain⟨T,hT⟩:∃T:St,T=⟨S.boxes++[[H5 (⟨f,t,5,y,x⟩)]],S.toks⟩:=⟨_,rfl⟩
 refine Be T ?_ (by rw[hT];exact congrArg (fun x=>St.mk x _) (by rw[Iw _ _ (Bo _),Ik];rfl));have zE:T.boxes[S.boxes.length]?=some [H5 (⟨f,t,5,y,x⟩)]:=by rw[hT];simp
 have hWT:WkS n T bw bc V C ids c 0:=hW.more (by rw[hT]);have hcT:Chg (bw::bc::ids) S.boxes T.boxes:=by rw[hT];exact Chg.snoc _ _ _
 have htT:T.toks=S.toks:=by rw[hT]
 refine Aw zE ?_;refine Cq ?_;refine Cq ?_;refine Cq ?_;refine Do ?_;refine Aw zE ?_;refine G3 (Aox hk hx kx 0 T hWT) ?_;intro r U hP _ _;obtain⟨rfl,htU,hcU,hWU⟩:=hP;have zE2:=(hcU.2 _ (Aa zE) (by simp;omega)).trans zE;have hcSU:Chg (bw::bc::ids) S.boxes U.boxes:=hcT.up hcU fun i hi=>by simp at hi;simp[hi]
 have htSU:=htU.trans htT;generalize Lg n c x 0=H at *;obtain⟨h,tt,d1⟩:=H;simp only at hWU⊢;refine Cb 60 rfl ?_;refine F7 (fun g=>?_) (fun g=>?_)
 ·have gt:¬tt=0:=by simpa using(show (tt != 0)=true from g)
  rw[if_neg gt];exact Bc func137 (h:=rfl) ⟨_,rfl,rfl,htSU,hcSU,d1,hWU,fun _ _ _=>rfl⟩
 have gt:tt=0:=by simpa using(show (tt != 0)=false from g)
 rw[if_pos gt];refine Aw zE2 ?_;refine Om ?_;cases h with
 |false=>
  refine Do ?_;rw[if_neg (by simp)];exact Bc func137 (h:=rfl) ⟨_,rfl,rfl,htSU,hcSU,d1,hWU,fun _ h=>absurd rfl h⟩
 |true=>
  refine Cq ?_;rw[if_pos rfl];refine Aw zE2 ?_;refine Ol ?_;refine Cq ?_;exact Bc func137 (h:=rfl) ⟨_,rfl,rfl,htSU,hcSU,d1,hWU,fun h=>absurd rfl h⟩
end
section
variable {n:Nd}{bw bc:Nat}{V C:AV}{ids:List Nat}{c:Cf}
theorem A5e(hr:Fy n=true)(hk:VOk n c)(hu:0≤c.used∧c.used≤100){inp:List Int}{p i:Nat}{e:Eg}{l:List Eg}(hp:p<(D6 (A9 n)).pts)(hO:EdO (Lx (A9 n)) p i e l) :
 ∃j,(Lx (A9 n))[j]?=some (l.headD e)∧DoR n bw bc V C ids c inp i j (Rz n inp c e.k e.y e.n):=by
 have he:=hO.first.1;have hf:=hO.first.2.2.1;have hE:=(Ai7 hr).2 e (Bh he);cases hE with
 |set f t y s a h ha ka=>cases hO with
  |one _ _ _ _ _ _=>exact⟨i,he,Aut hk he h ha ka⟩
  |two _ _ _ _ _ _ _ _ _ _ h4 _=>simp at h4
 |put f t y s a b h ha ka hb kb=>cases hO with
  |one _ _ _ _ _ _=>exact⟨i,he,Aus hk he h ha ka hb kb⟩
  |two _ _ _ _ _ _ _ _ _ _ h4 _=>simp at h4
 |read f t y s h=>cases hO with
  |one _ _ _ _ _ _=>exact⟨i,he,Aq4 hk hu he h⟩
  |two _ _ _ _ _ _ _ _ _ _ h4 _=>simp at h4
 |guard f t y x hx kx=>cases hO with
  |one _ _ _ _ _ h4=>exact absurd rfl h4
  |two j e2 _ _ _ _ hl hij hj _ _ _=>exact⟨j,hj,Amq hk he hx kx hp hf hl hij⟩
 |check f t y x hx kx=>cases hO with
  |one _ _ _ _ _ _=>exact⟨i,he,Amp hk he hx kx⟩
  |two _ _ _ _ _ _ _ _ _ _ h4 _=>simp at h4
 |skip f t y x=>cases hO with
  |one _ _ _ _ _ _=>exact⟨i,he,Afz (.inl rfl) he⟩
  |two _ _ _ _ _ _ _ _ _ _ h4 _=>simp at h4
 |stop f t y x=>cases hO with
  |one _ _ _ _ _ _=>exact⟨i,he,Afz (.inr rfl) he⟩
  |two _ _ _ _ _ _ _ _ _ _ h4 _=>simp at h4
def StP(n:Nd)(inp:List Int)(bc:Nat)(V C:AV)(ids:List Nat)(c:Cf)(S S':St):Prop:=S'.toks=S.toks∧Chg (bc::ids) S.boxes S'.boxes∧CfS S' bc V C ids (Is n inp c)
theorem A2f(hr:Fy n=true)(hS:StK n c){inp:List Int}(S:St)(hc:CfS S bc V C ids c):Runs X 81 [.cptr (Mh n),.ptr bc 0 0,.sl (Fe inp) .no] S (fun r S'=>r=.tup []∧StP n inp bc V C ids c S S'):=by
 have hpts:=(Zu hr).1;have hbc:=Aa hc.box;have hidl:=T5 hc;have okP:Ok 0 0 (.cptr (Mh n)):=(inferInstance:OK 0 0 (.cptr (Mh n))).ok;unfold StP;refine Runs.run func81 ?_;refine Rj (Ake n c hpts) (.cons (.same _ okP) (.cons (hc.fzp hS.vok.ok) .nil)) (.val _) ?_;refine F7 (fun g=>?_) (fun g=>?_)
 ·refine Bc func81 (h:=rfl) ⟨_,rfl,rfl,rfl,Chg.refl _ _,?_⟩;unfold Is;rw[if_pos g];exact hc
 have hst:c.trap=0∧¬c.steps=5000∧¬c.pt=(((D6 (A9 n)).pts:Nat):Int)-1:=by
  unfold I7 at g;simp only[Pe,Ago,beq_eq_false_iff_ne,zzq54,ne_eq]at g;exact⟨g.1,g.2.2,g.2.1⟩
 have hpt:=hS.pt;have hsp:=hS.steps;obtain⟨p,hp⟩:∃p:Nat,c.pt=p:=⟨c.pt.toNat,by omega⟩
 have hpp:p<(D6 (A9 n)).pts:=by omega
 obtain⟨i,e,l,hF,hO⟩:=Zt hr (p:=p) (by omega);obtain⟨he,_,hef,hix,ml,hled⟩:=hO.first;have hrow:=Ajo Eg.f (Lx (A9 n)) hpp;rw[hled]at hrow;have hw1:IntKind.i64.wrap (c.steps+1)=c.steps+1:=Ac (by omega) (by omega);obtain⟨c1,hc1⟩:∃c1:Cf,c1={ c with steps:=IntKind.i64.wrap (c.steps+1) }:=⟨_,rfl⟩
 have hk1:VOk n c1:=by rw[hc1];exact⟨hS.vok.kl,hS.vok.vars,hS.vok.cells,hS.vok.rows⟩
 have hcc:({ c with steps:=c.steps+1 }:Cf)=c1:=by rw[hc1,hw1]
 obtain⟨j,hj,hdo⟩:=A5e (bw:=S.boxes.length) (bc:=bc) (V:=V) (C:=C) (ids:=ids) hr hk1 (by rw[hc1];exact hS.used) (inp:=inp) hpp hO;have hM:Is n inp c=(if (Rz n inp c1 e.k e.y e.n).2.1=0 then{ (Rz n inp c1 e.k e.y e.n).1 with pt:=if (Rz n inp c1 e.k e.y e.n).2.2.2=true then e.t else(l.headD e).t }
  else{ (Rz n inp c1 e.k e.y e.n).1 with trap:=(Rz n inp c1 e.k e.y e.n).2.1,edge:=(i:Int),acc:=if (Rz n inp c1 e.k e.y e.n).2.1=4∨(Rz n inp c1 e.k e.y e.n).2.1=5 then 0 else(Rz n inp c1 e.k e.y e.n).2.2.1 }):=by
  unfold Is;rw[if_neg (by simp[g]),show c.pt.toNat=p by rw[hp];rfl,hF,show fIx (Lx (A9 n)) c.pt=i by rw[hp];exact hix];simp only[hcc]
 have hK:=Ac1 n inp c1 e.k e.y e.n;have hq0:(Rz n inp c1 e.k e.y e.n).1.acc=0:=by rw[hK.acc,hc1];exact(hS.none hst.1).2
 generalize Rz n inp c1 e.k e.y e.n=q at *;obtain⟨c2,tt,d,st⟩:=q;simp only at hM hq0;refine Tr (b:=S.boxes.length) rfl rfl ?_;obtain⟨T,hT⟩:∃T:St,T=⟨S.boxes++[[wkp n bc 0]],S.toks⟩:=⟨_,rfl⟩
 refine Be T ?_ hT.symm;have hcT:CfS T bc V C ids c:=hc.more (by rw[hT]);refine De 0 (by kernel_rfl) ?_
 iterate 7 refine Av ?_
 refine A2 (Aq hcT.box) ?_;refine Eo (fun S'=>Cu rfl rfl rfl rfl rfl rfl rfl rfl rfl (by omega) (by rw[hp,Hl];exact hrow)) ?_;refine Av ?_;refine Eo (fun S'=>Cu rfl rfl rfl rfl rfl rfl rfl rfl rfl (by decide) (Ahq (i:=0) rfl)) ?_
 iterate 2 refine Av ?_
 refine Gt ?_;refine Aw hcT.box ?_;refine Cc hcT.box rfl ?_;obtain⟨U,hU⟩:∃U:St,U=⟨T.boxes.set bc [Ef c1 V C],T.toks⟩:=⟨_,rfl⟩
 refine Be U ?_ (by rw[hU,hc1]);have hcU:CfS U bc V C ids c1:=by rw[hU];exact hcT.upd (by rw[hc1]) (by rw[hc1])
 have hwU:WkS n U S.boxes.length bc V C ids c1 0:=⟨by rw[hU,Fq (by omega),hT];simp,hcU,by omega,fun h=>by have:=hidl _ h;omega⟩
 have hchU:Chg (bc::ids) S.boxes U.boxes:=by
  rw[hU,hT];exact(Chg.snoc (bc::ids) S.boxes _).up (Cw _ bc _) fun i hi=>by simp at hi;simp[hi]
 refine G3 (hdo U hwU) ?_;intro r W hP _ _;obtain⟨rfl,htW,hcW,d',hWW,hacc⟩:=hP;simp only at hWW hacc⊢;have hchW:Chg (bc::ids) S.boxes W.boxes:=by
  have h1:=hchU.1;exact⟨Pb hchU.1 hcW.1,fun k hk hk2=>(hcW.2 k (Mz hk h1) (by simp only[zzq13,not_or]at hk2⊢;exact⟨by omega,hk2⟩)).trans (hchU.2 k hk hk2)⟩
 have htS:W.toks=S.toks:=by rw[htW,hU,hT]
 rw[hM];refine Cb 60 rfl ?_;refine F7 (fun g2=>?_) (fun g2=>?_)
 ·have gt:tt=0:=by simpa using(show (tt==0)=true from g2)
  rw[if_pos gt];obtain⟨je,hje,hjt⟩:∃je:Eg,(Lx (A9 n))[if st=true then i else j]?=some je∧je.t=if st=true then e.t else(l.headD e).t:=by
   cases st with
   |true=>exact⟨e,he,rfl⟩
   |false=>exact⟨_,hj,rfl⟩
  refine Mm (r:=H5 je) ((if st=true then i else j:Nat):Int) (Int.natCast_nonneg _) (by rw[Hl];exact Gm hje) ?_;refine Cc hWW.c.box rfl ?_;refine Bc func81 (h:=rfl) ⟨_,rfl,rfl,htS,hchW.up (Cw W.boxes bc _) fun i hi=>by simp at hi;simp[hi],?_⟩;rw[←hjt];exact hWW.c.upd (c':={ c2 with pt:=je.t }) rfl rfl
 ·have gt:¬tt=0:=by simpa using(show (tt==0)=false from g2)
  rw[if_neg gt];refine Cc hWW.c.box rfl ?_;have hc5:=hWW.c.upd (c':={ c2 with trap:=tt }) rfl rfl;refine Cc hc5.box rfl ?_;have hc6:=hc5.upd (c':={ c2 with trap:=tt,edge:=(i:Int) }) rfl rfl;have hch6:Chg (bc::ids) S.boxes ((W.boxes.set bc [Ef { c2 with trap:=tt } V C]).set bc [Ef { c2 with trap:=tt,edge:=(i:Int) } V C]):=
   (hchW.up (Cw W.boxes bc _) fun i hi=>by simp at hi;simp[hi]).up (Cw _ bc _) fun i hi=>by simp at hi;simp[hi]
  by_cases h4:tt=4
  ·subst h4;refine Ol ?_;refine Cq ?_;refine Agq func81 (h:=rfl) ⟨_,rfl,rfl,htS,hch6,?_⟩;rw[if_pos (.inl rfl)];have:({ c2 with trap:=4,edge:=(i:Int),acc:=0 }:Cf)={ c2 with trap:=4,edge:=(i:Int) }:=by rw[←hq0]
   rw[this];exact hc6
  ·refine Om ?_ (ht:=by simpa using h4);by_cases h5:tt=5
   ·subst h5;refine Cq ?_;refine Agq func81 (h:=rfl) ⟨_,rfl,rfl,htS,hch6,?_⟩;rw[if_pos (.inr rfl)];have:({ c2 with trap:=5,edge:=(i:Int),acc:=0 }:Cf)={ c2 with trap:=5,edge:=(i:Int) }:=by rw[←hq0]
    rw[this];exact hc6
   ·refine Do ?_ (ht:=by simpa using h5);have hzw:((W.boxes.set bc [Ef { c2 with trap:=tt } V C]).set bc [Ef { c2 with trap:=tt,edge:=(i:Int) } V C])[S.boxes.length]?=some [wkp n bc d']:=by
     rw[Fq (by omega),Fq (by omega)];exact hWW.w
    refine Aw hzw ?_;refine Cc hc6.box rfl ?_;refine Agq func81 (h:=rfl) ⟨_,rfl,rfl,htS,hch6.up (Cw _ bc _) fun i hi=>by simp at hi;simp[hi],?_⟩;rw[if_neg (by omega),←hacc gt h4 h5];exact hc6.upd (c':={ c2 with trap:=tt,edge:=(i:Int),acc:=d' }) rfl rfl
end
end Go.V
