/- A part of the proof of the claim that the last text states: no condition of its own. -/
import Derived.Test.YtojhghmilenfkaaGreatDoorN17
set_option linter.unusedVariables false
set_option linter.unusedSimpArgs false
namespace Go.V
open Go Go.Proofs Go.Proofs.Tryz
def Yl(inp:List Int):Bool:=decide ((inp.length:Int)≤100)&&inp.all Zg
theorem A4g(x:Int):Pure X 134 [vi x] (vb (!Zg x)):=by
 refine Pure.run func134 ?_;refine Al (Aow x) ?_;exact As func134 rfl
theorem Aym(l:List (Int))(hl:l.length≤1000000000)  : Pure X 185 [.sl (Fe l) .no,.fn 134 []] (vi (Abu (fun x=>!Zg x) 0 l)):=by
 have hlen:(Fe l).length=l.length:=by simp[Fe]
 refine Pure.run func185 ?_;refine Ar (ι:=Nat) 0 0 (fun i=>i≤l.length∧Abu (fun x=>!Zg x) 0 l=Abu (fun x=>!Zg x) i (l.drop i)) (fun i=>[(8,vi i),(7,vi l.length),(0,.sl (Fe l) .no),(1,.fn 134 [])]) (fun _=>⟨[],[]⟩) (fun i=>l.length-i) ?_ 0 ⟨B3 _,rfl⟩
  ⟨rfl,by rw[←hlen];rfl,rfl,rfl,trivial⟩
 intro i hi IH;refine C7 (fun h=>?_) (fun h=>?_)
 ·have hlt:i<l.length:=by have:=A5 h;omega
  obtain⟨x,hx⟩:=Ab l hlt;have hd:Abu (fun x=>!Zg x) i (l.drop i)=if ((fun x=>!Zg x)) x then(i:Int)else Abu (fun x=>!Zg x) (i+1) (l.drop (i+1)):=by rw[B6 hx];rfl
  refine B4 i (by omega) (Ev (f:=Jk) hx) ?_;refine Al (A4g x) ?_;refine Ah (fun h2=>?_) (fun h2=>?_)
  ·refine Az func185 ?_;have h3:((fun x=>!Zg x)) x=true:=h2;rw[hi.2,hd,h3];rfl
  ·have h3:((fun x=>!Zg x)) x=false:=h2;exact IH (i+1) ⟨hlt,by rw[hi.2,hd,h3];rfl⟩ (by omega) _ _ ⟨vsx (by omega),rfl,rfl,rfl,trivial⟩ rfl rfl rfl
 ·have:i=l.length:=by have:=Ba h;omega
  refine Az func185 ?_;rw[hi.2,this,Hz];rfl
theorem Ayj(l:List Int)(hl:l.length≤1000000000):Pure X 130 [.sl (Fe l) .no,.fn 134 []] (vb (!(l.all Zg))):=by
 have e:(!(l.all Zg))=l.any fun x=>!Zg x:=List.not_all_eq_any_not;rw[e];refine Pure.run func130 ?_;refine Al (Aym l hl) ?_;refine Az func130 ?_;rw[←Ajj _ l 0];rfl
theorem Amm(l:List Int)(hl:l.length≤1000000000):Pure X 79 [.sl (Fe l) .no] (vb (Yl l)):=by
 have hlen:=D9 l;refine Pure.run func79 ?_;unfold Yl;rw[←hlen];cases h:decide (((Fe l).length:Int)≤100)with
 |false=>
  refine Ii ?_;exact As func79 rfl
 |true=>
  refine Hh ?_;refine Al (Ayj l hl) ?_;refine As func79 ?_;simp
theorem At4(l:List Int)(hl:l.length≤1000000000):Pure X 75 [.sl (Fe l) .no] (vb (Yl l)):=by
 have hlen:=D9 l;refine Pure.run func75 ?_;refine Ah (fun g=>?_) (fun g=>?_)
 ·have h:Yl l=false:=by unfold Yl;have:=A5 g;rw[hlen]at this;rw[Mc (by omega)];rfl
  rw[h];exact As func75 rfl
 have hle:(l.length:Int)≤100:=by have:=Ba g;rw[hlen]at this;omega
 have h0:Yl l=l.all Zg:=by unfold Yl;rw[Zd hle];rfl
 rw[h0];refine Ar (ι:=Nat) 0 0 (fun i=>i≤l.length∧l.all Zg=(l.drop i).all Zg) (fun i=>[(3,vi i),(0,.sl (Fe l) .no)]) (fun _=>⟨[],[]⟩) (fun i=>l.length-i) ?_ 0 ⟨B3 _,rfl⟩ ⟨rfl,rfl,trivial⟩;intro i hi IH;refine C7 (fun h=>?_) (fun h=>?_)
 ·have hlt:i<l.length:=by have:=A5 h;rw[hlen]at this;omega
  obtain⟨x,hx⟩:=Ab l hlt;have hd:=R1 hx;refine B4 i (by omega) (Y8 hx) ?_;refine Al (Az9 x) ?_;refine Ah (fun g2=>?_) (fun g2=>?_)
  ·have g3:Zg x=false:=by simpa using g2
   rw[hi.2,hd,P0,g3];exact As func75 rfl
  ·have g3:Zg x=true:=by simpa using g2
   exact IH (i+1) ⟨hlt,by rw[hi.2,hd,P0,g3,Re]⟩ (by omega) _ _ ⟨vsx (by omega),rfl,trivial⟩ rfl rfl rfl
 ·have:i=l.length:=by have:=Ba h;rw[hlen]at this;omega
  rw[hi.2,this,Hz];exact As func75 rfl
def Aao(n:Nd)(inp:List Int):Nat→Cf→List Cf
 |0,_=>[]
 |k+1,c=>if c.trap=0∧¬c.pt=(((D6 (A9 n)).pts:Nat):Int)-1 then Is n inp c::Aao n inp k (Is n inp c)else[]
def Uy(n:Nd)(inp:List Int):Nat→Cf→Cf
 |0,c=>c
 |k+1,c=>if I7 n c=true then c else Uy n inp k (Is n inp c)
theorem Akj{n:Nd}{inp:List Int}{c:Cf}(hr:Fy n=true)(hS:StK n c)(hg:I7 n c=false):(Is n inp c).steps=c.steps+1:=by
 have hpt:=hS.pt;have hne:¬c.pt=(((D6 (A9 n)).pts:Nat):Int)-1:=by
  unfold I7 at hg;simp only[Pe,beq_eq_false_iff_ne,ne_eq]at hg;exact hg.2.1
 obtain⟨p,hp⟩:∃p:Nat,c.pt=p:=⟨c.pt.toNat,by omega⟩
 obtain⟨i,e,l,hF,hO⟩:=Zt hr (p:=p) (by omega);obtain⟨_,_,_,hix,_⟩:=hO.first;rw[Af8 hg hp hF hix rfl];have hK:=(Ac1 n inp { c with steps:=c.steps+1 } e.k e.y e.n).steps;unfold H6;split
 ·exact hK
 ·exact hK
theorem Af7{n:Nd}{c:Cf}(hs:c.steps<5000):I7 n c=false↔(c.trap=0∧¬c.pt=(((D6 (A9 n)).pts:Nat):Int)-1):=by
 unfold I7;simp only[Pe,Ago,beq_eq_false_iff_ne,zzq54,ne_eq];constructor
 ·rintro⟨h1,h2,_⟩;exact⟨h1,h2⟩
 ·rintro⟨h1,h2⟩;exact⟨h1,h2,by omega⟩
theorem Af2{n:Nd}{inp:List Int}(hr:Fy n=true)(hi:inp.length≤100):∀(k:Nat)(c:Cf),StK n c→c.steps+k≤5000→(Aao n inp k c).getLastD c=Uy n inp k c
 |0,c,_,_=>rfl
 |k+1,c,hS,hk=>by
  unfold Aao Uy;by_cases hg:I7 n c=true
  ·rw[if_pos hg,if_neg fun h=>by rw[(Af7 (by omega)).2 h]at hg;cases hg];rfl
  ·have hg':I7 n c=false:=by simpa using hg
   rw[if_neg hg,if_pos ((Af7 (by omega)).1 hg')];have ih:=Af2 hr hi k (Is n inp c) (U4 hr hS hi) (by rw[Akj hr hS hg'];omega);rw[←ih];exact List.getLastD_cons ..
theorem Ao3{n:Nd}{inp:List Int}(hr:Fy n=true)(hi:inp.length≤100):∀(k:Nat)(c:Cf),StK n c→StK n (Uy n inp k c)
 |0,c,hS=>hS
 |k+1,c,hS=>by
  unfold Uy;split
  ·exact hS
  ·exact Ao3 hr hi k _ (U4 hr hS hi)
theorem Au7{n:Nd}(hr:Fy n=true):∀s,s∈Ei n→s≤60:=by
 intro s hs;obtain⟨x,hx,rfl⟩:=zzq66.1 hs;have hx':=(zzq56.1 hx).1;have h0:=(X8 hr).1;unfold E4 at h0;split at h0
 ·split at h0
  ·simp at h0
  ·split at h0
   ·simp at h0
   ·rename_i hb;refine Int.not_lt.1 fun h=>hb (List.any_eq_true.2 ⟨x,hx',by simpa using h⟩)
 ·simp at h0
theorem Alm:∀{ss ls:List Int}{cs:List Nat},Xv ss ls=some cs→(∀s,s∈ss→s≤60)→∀c,c∈cs→c≤60
 |[],[],cs,h,_=>by simp[Xv]at h;subst h;intro c hc;cases hc
 |[],_::_,cs,h,_=>by simp[Xv]at h
 |s::ss,ls,cs,h,hs=>by
  simp only[Xv]at h;have hs':∀x,x∈ss→x≤60:=fun x hx=>hs x (by simp[hx]);split at h
  ·split at h
   ·cases h
   ·split at h
    ·rename_i hb;obtain⟨r,hr,rfl⟩:=zzq102.1 h;intro c hc;rcases zzq13.1 hc with rfl|hc
     ·simp only[Bl,Dd,Ke]at hb;omega
     ·exact Alm hr hs' c hc
    ·cases h
  ·obtain⟨r,hr,rfl⟩:=zzq102.1 h;intro c hc;rcases zzq13.1 hc with rfl|hc
   ·have:=hs s (by simp);omega
   ·exact Alm hr hs' c hc
theorem Ag5{n:Nd}(hr:Fy n=true){ls:List Int}{cs:List Nat}(h:Xv (Ei n) ls=some cs):StK n (bgC (Ax n 31).length cs):=by
 have hp:0<(D6 (A9 n)).pts:=by have:=Ajf (Ai7 hr).1;omega
 refine⟨⟨(Iz hr).2.2.2.2,by simp[bgC],by simp only[bgC,Py];rw[Ag4 h,Xp],fun x hx=>?_⟩,by simp only[bgC];omega,by simp[bgC],by simp[bgC],fun _=>by simp[bgC]⟩;simp only[bgC]at hx;obtain⟨c,hc,rfl⟩:=zzq66.1 hx;rw[List.length_replicate];exact Alm h (Au7 hr) c hc
def rtO(n:Nd)(ls inp:List Int)(fuel:Int):Option (List Nat):=if (Bl fuel 0 5000&&Yl inp)=true then Xv (Ei n) ls else none
def rtF(n:Nd)(ls inp:List Int)(fuel:Int):Cf:=match rtO n ls inp fuel with
 |some cs=>Uy n inp fuel.toNat (bgC (Ax n 31).length cs)
 |none=>zC
def rtM(n:Nd)(ls inp:List Int)(fuel:Int):Cf:=if Fy n=true then rtF n ls inp fuel else zC
theorem Qx{F:C5}{S:St}{t ty b:Nat}{y:Ty}{cs xs:List AV}{x:AV}{l:List ResultVar}(hl:lk F t=some (.ptr b 0 0))(hy:X.ty ty=some y)(hb:S.boxes[b]?=some [cs])(hx:(Nl y.size cs fun c'=>Wb (Gg y.k) c')=some x)(hr:Mf X F S l=some xs):Mf X F S (.cell t ty::l)=some (x::xs):=by
 have:Ti S y.size (Gg y.k) (.ptr b 0 0)=some x:=by
  simp only[Ti,H8,hb,List.getElem?_cons_zero,Ow];exact hx
 simp only[Mf,hl,Q0,hy,this,hr]
theorem Avn{d:Nat}{x y z z':AV}{b:Bool}(h:Sh d x y)(h2:Sh d z z'):Sh d (.tup [x,z,vb b]) (.tup [y,z',vb b]):=by
 have h:=(ShL.cons h (.cons h2 (.cons (.val (.bool b)) .nil))).get;exact .tup _ _ h.1 h.2
def RnP(n:Nd)(ls inp:List Int)(fuel:Int)(r:AV)(bx:List (List (List AV))):Prop:=∃x pth ids,r=.tup [x,pth,vb (rtO n ls inp fuel).isSome]∧CfB SlG bx x ids (rtF n ls inp fuel)
theorem A4i{n:Nd}(hr:Fy n=true)(ls inp:List Int)(hls:ls.length≤1000000000)(hil:inp.length≤1000000000)(fuel:Int):Gives X 71 [.cptr (Mh n),.sl (Fe ls) .no,.sl (Fe inp) .no,vi fuel] (RnP n ls inp fuel):=by
 have hpts:=(Zu hr).1;have okP:Ok 0 0 (.cptr (Mh n)):=(inferInstance:OK 0 0 (.cptr (Mh n))).ok;unfold RnP;refine Gives.run func71 ?_;refine Te (Ayg n hr ls hls) (.cons (.same _ okP) (.cons (.same _ (inferInstance:OK 0 0 (.sl (Fe ls) .no)).ok) .nil)) ?_;intro r bx hP;obtain⟨x,ids0,rfl,hC⟩:=hP;obtain⟨V0,C0,rfl⟩:=hC.parts;have hlt0:=hC.ltG;have hH:=hC.held (pre:=[[zCf]]);simp only[Hn,Sy]at hH;generalize hbo:Xv (Ei n) ls=bo at *;generalize hc0:Awo (Ax n 31).length bo=c0 at *;refine⟨.tup [.agg (Ef c0 (Hn 1 V0) (Hn 1 C0)),vb bo.isSome],Rh 1 bx,Azo (by have:=U3 1 (.agg (Ef c0 V0 C0));simpa[Hn,Sy]using this),Nu _ _,?_⟩;obtain⟨ids,hids⟩:∃ids,ids=ids0.map (·+1):=⟨_,rfl⟩
 have hH2:CfB SlB ([zCf]::Rh 1 bx) (.agg (Ef c0 (Hn 1 V0) (Hn 1 C0))) ids c0:=by rw[hids];exact hH
 clear hH;generalize Hn 1 V0=V at hH2⊢;generalize Hn 1 C0=C at hH2⊢;obtain⟨B0,hB0⟩:∃B0,B0=[zCf]::Rh 1 bx:=⟨_,rfl⟩
 refine Be ⟨B0,[]⟩ ?_ (by rw[hB0];rfl);rw[←hB0]at hH2;have hBl:B0.length=bx.length+1:=by rw[hB0];simp[Pt]
 have hid:∀i,i∈ids→1≤i∧i<B0.length:=fun i hi=>by
  rw[hids]at hi;obtain⟨k,hk,rfl⟩:=zzq66.1 hi;have:=hlt0 k hk;omega
 refine Cb 60 rfl ?_;refine Lq (b:=B0.length) rfl rfl ?_;refine Cc (b:=B0.length) (cs:=zCf) (xs:=Ef c0 V C) (cs':=Ef c0 V C) (by simp) rfl ?_ (hc:=Fc hH2);obtain⟨B1,hB1⟩:∃B1,B1=B0++[[Ef c0 V C]]:=⟨_,rfl⟩
 refine Be ⟨B1,[]⟩ ?_ (by rw[hB1];exact congrArg (fun x=>St.mk x _) (by rw[Iw _ _ (Bo _),Ik];rfl));have z8:B1[0]?=some [zCf]:=by rw[hB1,hB0];rfl
 have hc:CfS ⟨B1,[]⟩ B0.length V C ids c0:=⟨by simp[hB1],by simp only[hB1];exact hH2.more,fun h=>by have:=hid _ h;omega⟩
 have h0n:0∉B0.length::ids:=fun h=>by
  rcases zzq13.1 h with h|h
  ·omega
  ·have:=hid 0 h;omega
 have hB1l:B1.length=B0.length+1:=by simp[hB1]
 cases bo with
 |none=>
  have hno:rtO n ls inp fuel=none:=by unfold rtO;rw[hbo];split<;>rfl
  refine Om ?_;refine Om ?_;refine Do ?_;have hF0:rtF n ls inp fuel=zC:=by unfold rtF;rw[hno]
  rw[hno,hF0];refine Cc z8 rfl ?_;exact Bc func71 (h:=Qx rfl rfl (Eh (Aa z8)) rfl rfl) ⟨_,rfl,_,_,[],rfl,Tc _⟩
 |some cs=>
 have hc0':bgC (Ax n 31).length cs=c0:=hc0;have hSt:StK n c0:=by rw[←hc0'];exact Ag5 hr hbo
 refine Ol ?_;refine Im (Vz fuel 0 5000) ?_;cases hf:Bl fuel 0 5000 with
 |false=>
  have hno:rtO n ls inp fuel=none:=by unfold rtO;rw[hf];rfl
  refine Om ?_;refine Do ?_;have hF0:rtF n ls inp fuel=zC:=by unfold rtF;rw[hno]
  rw[hno,hF0];refine Cc z8 rfl ?_;exact Bc func71 (h:=Qx rfl rfl (Eh (Aa z8)) rfl rfl) ⟨_,rfl,_,_,[],rfl,Tc _⟩
 |true=>
 refine Ol ?_;refine Im (Amm inp hil) ?_;cases hin:Yl inp with
 |false=>
  have hno:rtO n ls inp fuel=none:=by unfold rtO;rw[hf,hin];rfl
  refine Do ?_;have hF0:rtF n ls inp fuel=zC:=by unfold rtF;rw[hno]
  rw[hno,hF0];refine Cc z8 rfl ?_;exact Bc func71 (h:=Qx rfl rfl (Eh (Aa z8)) rfl rfl) ⟨_,rfl,_,_,[],rfl,Tc _⟩
 |true=>
 have hyes:rtO n ls inp fuel=some cs:=by unfold rtO;rw[hf,hin];exact hbo
 have hF:rtF n ls inp fuel=Uy n inp fuel.toNat c0:=by unfold rtF;rw[hyes,←hc0']
 have hil2:inp.length≤100:=by
  unfold Yl at hin;simp only[Dd,Ke]at hin;omega
 have hfb:=Cn.1 hf;obtain⟨k,rfl⟩:∃k:Nat,fuel=k:=⟨fuel.toNat,by omega⟩
 rw[Hl]at hF;refine Cq ?_;refine N2 (d:=13) rfl rfl rfl ?_;refine Io (ι:=Nat×Cf×List (List (List AV))×List Int) (fun q=>q.1≤k∧Uy n inp (k-q.1) q.2.1=Uy n inp k c0∧StK n q.2.1∧CfS ⟨q.2.2.1,[q.2.2.2.length]⟩ B0.length V C ids q.2.1∧q.2.2.1[0]?=some [zCf]∧q.2.2.2.length≤q.1+1)
  (fun q=>[(35,vi q.1),(34,vi k),(13,.sl (Fe q.2.2.2) (.tok 0)),(0,.cptr (Mh n)),(2,.sl (Fe inp) .no),(11,.ptr B0.length 0 0),(8,.ptr 0 0 0)]) (fun q=>⟨q.2.2.1,[q.2.2.2.length]⟩) (fun q=>k-q.1) ?_ (0,c0,B1,[0])
  ⟨B3 _,rfl,hSt,⟨hc.box,hc.cf,hc.ne⟩,z8,by simp⟩ ⟨rfl,rfl,rfl,rfl,rfl,rfl,rfl,trivial⟩ rfl
 intro q hq IH;obtain⟨m,c,B,pth⟩:=q;obtain⟨i1,i2,i3,i4,i5,i6⟩:=hq;simp only at i1 i2 i3 i4 i5 i6;refine Cb 60 rfl ?_;refine F7 (fun g=>?_) (fun g=>?_)
 ·have hlt:m<k:=by have:=A5 g;simp only at this;omega
  obtain⟨d,hd⟩:∃d,k-m=d+1:=⟨k-m-1,by omega⟩
  rw[hd]at i2;refine Rj (Ake n c hpts) (.cons (.same _ okP) (.cons (i4.fzp i3.vok.ok) .nil)) (.val _) ?_;refine F7 (fun g2=>?_) (fun g2=>?_)
  ·have hc9:c=Uy n inp k c0:=by rw[←i2];unfold Uy;rw[if_pos g2]
   rw[hyes,hF,←hc9];refine Aw i4.box ?_;refine Cc (xs:=Ef c V C) (cs':=Ef c V C) i5 rfl ?_ (hc:=Fc i4.cf);refine Bc func71 (h:=Qx rfl rfl (Eh (Aa i5)) rfl rfl) ⟨_,rfl,_,_,ids,rfl,?_⟩;exact(i4.cf.chg (Cw _ 0 _) fun i hi hi2=>by simp at hi2;have:=hid i hi;omega).given
  ·refine G3 (A2f hr i3 ⟨B,[pth.length]⟩ i4) ?_;intro r S' hP _ _;obtain⟨rfl,ht',hch,hcS⟩:=hP;obtain⟨B',tk'⟩:=S';simp only at ht' hch;subst ht';have i5':B'[0]?=some [zCf]:=(hch.2 0 (Aa i5) h0n).trans i5;have hst':=U4 hr i3 hil2;have i2':Uy n inp d (Is n inp c)=Uy n inp k c0:=by
    rw[←i2,show Uy n inp (d+1) c=if I7 n c=true then c else Uy n inp d (Is n inp c)from rfl,if_neg (by simp[g2])]
   generalize Is n inp c=c' at *;refine Cb 60 rfl ?_;refine Aw hcS.box ?_;refine F7 (fun g3=>?_) (fun g3=>?_)
   ·refine Aw hcS.box ?_;refine Hi (Bu (res:=Fe (pth++[c'.pt])) (tk:=[(pth++[c'.pt]).length]) rfl rfl rfl rfl rfl rfl rfl rfl rfl rfl rfl rfl rfl rfl (D9 _) (Am8 _) rfl rfl rfl (by rw[D9];simp;omega) (by simp[Fe]) (by rw[D9,Ex];rfl)) rfl rfl ?_;refine Cb 60 rfl ?_;refine IH (m+1,c',B',pth++[c'.pt]) ⟨hlt,by simp only;rw[show k-(m+1)=d by omega];exact i2',hst',⟨hcS.box,hcS.cf,hcS.ne⟩,i5',by simp;omega⟩ (by simp only;omega) _ _ ⟨Ci ((Ac (by simp only;omega) (by simp only;omega)).trans (by simp only;omega)),rfl,rfl,rfl,rfl,rfl,rfl,trivial⟩ rfl
   ·refine IH (m+1,c',B',pth) ⟨hlt,by simp only;rw[show k-(m+1)=d by omega];exact i2',hst',hcS,i5',by simp only;omega⟩ (by simp only;omega) _ _ ⟨Ci ((Ac (by simp only;omega) (by simp only;omega)).trans (by simp only;omega)),rfl,rfl,rfl,rfl,rfl,rfl,trivial⟩ rfl
 ·have hmk:m=k:=by have:=Ba g;simp only at this;omega
  have hc9:c=Uy n inp k c0:=by rw[←i2,hmk,Ik];rfl
  rw[hyes,hF,←hc9];refine Aw i4.box ?_;refine Cc (xs:=Ef c V C) (cs':=Ef c V C) i5 rfl ?_ (hc:=Fc i4.cf);refine Bc func71 (h:=Qx rfl rfl (Eh (Aa i5)) rfl rfl) ⟨_,rfl,_,_,ids,rfl,?_⟩;exact(i4.cf.chg (Cw _ 0 _) fun i hi hi2=>by simp at hi2;have:=hid i hi;omega).given
theorem Ayf(n:Nd)(hn:Ai n≤1000000000)(hnum:PrI n)(ls inp:List Int)(hls:ls.length≤1000000000)(hil:inp.length≤1000000000)(fuel:Int):Gives X 36 [nd n,.sl (Fe ls) .no,.sl (Fe inp) .no,vi fuel] (fun r bx=>∃ids,CfB SlG bx r ids (rtM n ls inp fuel)):=by
 have hp:=Aid n hn hnum;unfold rtM;refine Gives.run func36 ?_;cases hr:Fy n with
 |false=>
  rw[if_neg (by simp[hr])]at hp;refine Al hp ?_;refine A0 ?_;rw[if_neg (by decide)];exact Bc func36 (h:=rfl) ⟨_,rfl,[],Tc _⟩
 |true=>
  rw[if_pos hr]at hp;refine Al hp ?_;refine Ag ?_;rw[if_pos rfl];refine Te (A4i hr ls inp hls hil fuel) (.cons (.same _ (inferInstance:OK 0 0 (.cptr (Mh n))).ok) (.cons (.same _ (inferInstance:OK 0 0 (.sl (Fe ls) .no)).ok) (.cons (.same _ (inferInstance:OK 0 0 (.sl (Fe inp) .no)).ok) (.cons (.same _ (.val _)) .nil)))) ?_;intro r bx hP;obtain⟨x,pth,ids0,rfl,hC⟩:=hP;generalize rtF n ls inp fuel=c0 at *;obtain⟨V0,C0,rfl⟩:=hC.parts;have hlt0:=hC.ltG;have hH:=fun a b=>CfB.held (pre:=[a,b]) hC;refine⟨.tup [.agg (Ef c0 (Hn 2 V0) (Hn 2 C0)),.junk,vb _],Rh 2 bx,Avn (by have:=U3 2 (.agg (Ef c0 V0 C0));simpa[Hn,Sy]using this) (.junk _),Nu _ _,?_⟩;have hH2:∀a b,CfB SlB (a::b::Rh 2 bx) (.agg (Ef c0 (Hn 2 V0) (Hn 2 C0))) (ids0.map (·+2)) c0:=fun a b=>by
   have:=hH a b;simpa[Hn,Sy]using this
  generalize Hn 2 V0=V at hH2⊢;generalize Hn 2 C0=C at hH2⊢;refine Cb 60 rfl ?_;obtain⟨B0,hB0⟩:∃B0,B0=[Af n]::[zCf]::Rh 2 bx:=⟨_,rfl⟩
  refine Be ⟨B0,[]⟩ ?_ (by rw[hB0];rfl);have hcf:CfB SlB B0 (.agg (Ef c0 V C)) (ids0.map (·+2)) c0:=by rw[hB0];exact hH2 _ _
  refine Lq (b:=B0.length) rfl rfl ?_;refine Cc (b:=B0.length) (cs:=zCf) (xs:=Ef c0 V C) (cs':=Ef c0 V C) (by simp) rfl ?_ (hc:=Fc hcf);obtain⟨B1,hB1⟩:∃B1,B1=B0++[[Ef c0 V C]]:=⟨_,rfl⟩
  refine Be ⟨B1,[]⟩ ?_ (by rw[hB1];exact congrArg (fun x=>St.mk x _) (by rw[Iw _ _ (Bo _),Ik];rfl));have z1:B1[1]?=some [zCf]:=by rw[hB1,hB0];rfl
  have z11:B1[B0.length]?=some [Ef c0 V C]:=by simp[hB1]
  have hcf1:CfB SlB B1 (.agg (Ef c0 V C)) (ids0.map (·+2)) c0:=by rw[hB1];exact hcf.more
  refine Aw z11 ?_;refine Cc (xs:=Ef c0 V C) (cs':=Ef c0 V C) z1 rfl ?_ (hc:=Fc hcf1);refine Bc func36 (h:=Ee rfl rfl (Eh (Aa z1)) rfl) ⟨_,rfl,ids0.map (·+2),?_⟩;exact(hcf1.chg (Cw _ 1 _) fun i hi hi2=>by
   simp at hi2;obtain⟨k,hk,rfl⟩:=zzq66.1 hi;omega).given
def Abr(l:List Cf):List (List AV):=l.map G4
instance{n m:Nat}{l:List Cf}:OKR n m (Abr l):=⟨fun r hr x hx=>by
 obtain⟨c,_,rfl⟩:=zzq66.1 hr;exact(inferInstance:OKL n m (G4 c)).ok x hx⟩
theorem X7(l:List Cf):(Abr l).length=l.length:=by simp[Abr]
theorem Aws(l:List Cf):Kf 8 (Abr l)=true:=Kx (f:=G4) (fun _=>rfl) l
def rlM(n:Nd)(ls inp:List Int)(fuel:Int):List Cf:=if Fy n=true then(match rtO n ls inp fuel with
 |some cs=>bgC (Ax n 31).length cs::Aao n inp fuel.toNat (bgC (Ax n 31).length cs)
 |none=>[])else[]
theorem Akg(n:Nd)(inp:List Int):∀(k:Nat)(c:Cf),(Aao n inp k c).length≤k
 |0,c=>by simp[Aao]
 |k+1,c=>by
  unfold Aao;split
  ·have:=Akg n inp k (Is n inp c);simp;omega
  ·simp
theorem Atn{α:Type}(c:α)(l:List α):(c::l)[l.length]?=some (l.getLastD c):=by
 cases l with
 |nil=>rfl
 |cons a l=>simp[List.getLastD,List.getLast_eq_getElem]
theorem A4b(n:Nd)(hn:wN n≤100000000)(ls inp:List Int)(hls:ls.length≤1000000000)(hil:inp.length≤1000000000)(fuel:Int):Pure X 70 [nd n,.sl (Fe ls) .no,.sl (Fe inp) .no,vi fuel] (.sl (Abr (rlM n ls inp fuel)) .no):=by
 refine Pure.run func70 ?_;refine Al (Ax7 n hn) ?_;unfold rlM;cases hr:Fy n with
 |false=>
  rw[if_neg (by decide)];refine Hh ?_;refine Hh ?_;refine A0 ?_;exact As func70 rfl
 |true=>
 rw[if_pos rfl];have hpts:=(Zu hr).1;refine Ii ?_;refine Al (H4 fuel 0 5000) ?_;cases hf:Bl fuel 0 5000 with
 |false=>
  have hno:rtO n ls inp fuel=none:=by unfold rtO;rw[hf];rfl
  rw[hno];refine Hh ?_;refine A0 ?_;exact As func70 rfl
 |true=>
 refine Ii ?_;refine Al (At4 inp hil) ?_;cases hin:Yl inp with
 |false=>
  have hno:rtO n ls inp fuel=none:=by unfold rtO;rw[hf,hin];rfl
  rw[hno];refine A0 ?_;exact As func70 rfl
 |true=>
 refine Ag ?_;refine Al (A15 n hr) ?_;refine Al (Axz n hr ls hls) ?_;cases hbo:Xv (Ei n) ls with
 |none=>
  have hno:rtO n ls inp fuel=none:=by unfold rtO;rw[hf,hin];exact hbo
  rw[hno];refine A0 ?_;exact As func70 rfl
 |some cs=>
 have hyes:rtO n ls inp fuel=some cs:=by unfold rtO;rw[hf,hin];exact hbo
 rw[hyes];have hSt:StK n (bgC (Ax n 31).length cs):=Ag5 hr hbo;have hil2:inp.length≤100:=by
  unfold Yl at hin;simp only[Dd,Ke]at hin;omega
 have hfb:=Cn.1 hf;obtain⟨k,rfl⟩:∃k:Nat,fuel=k:=⟨fuel.toNat,by omega⟩
 rw[Hl];simp only[Awo];generalize bgC (Ax n 31).length cs=c0 at *;refine N2 (d:=9) rfl rfl rfl ?_;refine Ag ?_;refine Bn (Bu (res:=Abr [c0]) (tk:=[1]) rfl rfl rfl rfl rfl rfl rfl rfl rfl rfl rfl rfl rfl rfl rfl rfl rfl rfl rfl (by simp) rfl rfl) ?_;have hw1:IntKind.i64.wrap ((((D6 (A9 n)).pts:Nat):Int)-1)=(((D6 (A9 n)).pts:Nat):Int)-1:=Ac (by omega) (by omega);refine Ar (ι:=Nat×Cf×List Cf) 3 1 (fun q=>q.1≤k∧q.2.2++Aao n inp (k-q.1) q.2.1=c0::Aao n inp k c0∧StK n q.2.1∧q.2.2.length≤q.1+1) (fun q=>[(13,vi q.1),(9,.sl (Abr q.2.2) (.tok 0)),(3,vi k),(2,.sl (Fe inp) .no),(10,.ptr 1 0 0),(11,.ptr 2 0 0)])
  (fun q=>⟨[[Af n],[Kp n],[G4 q.2.1]],[q.2.2.length]⟩) (fun q=>k-q.1) ?_ (0,c0,[c0]) ⟨B3 _,rfl,hSt,by simp⟩ ⟨rfl,rfl,rfl,rfl,rfl,rfl,trivial⟩
 intro q hq IH;obtain⟨m,c,l⟩:=q;obtain⟨i1,i2,i3,i4⟩:=hq;simp only at i1 i2 i3 i4;refine Bi 100 rfl ?_;have stop:Aao n inp (k-m) c=[]→l=c0::Aao n inp k c0:=fun h=>by rw[h,H0]at i2;exact i2
 by_cases hmk:m<k
 case neg=>
  have:=stop (by rw[show k-m=0 by omega];rfl);refine Ii ?_ (ht:=Mc (by omega));refine Ii ?_;refine Ag ?_;rw[←this];exact As func70 rfl
 obtain⟨d,hd⟩:∃d,k-m=d+1:=⟨k-m-1,by omega⟩
 rw[hd]at i2 stop;have hrun:Aao n inp (d+1) c=if c.trap=0∧¬c.pt=(((D6 (A9 n)).pts:Nat):Int)-1 then Is n inp c::Aao n inp d (Is n inp c)else[]:=rfl;refine Hh ?_ (ht:=Zd (by omega));by_cases ht:c.trap=0
 case neg=>
  have:=stop (by rw[hrun,if_neg fun h=>ht h.1]);refine Ii ?_ (ht:=by simpa using ht);refine Ag ?_;rw[←this];exact As func70 rfl
 refine Hh ?_ (ht:=by simpa using ht);by_cases hpt:c.pt=(((D6 (A9 n)).pts:Nat):Int)-1
 ·have:=stop (by rw[hrun,if_neg fun h=>h.2 hpt]);refine Ag ?_ (ht:=by rw[hw1];simpa using hpt);rw[←this];exact As func70 rfl
 rw[hrun,if_pos ⟨ht,hpt⟩]at i2;refine A0 ?_ (ht:=by rw[hw1];simpa using hpt);refine Al (A14 hr i3 hil2) ?_;have hst':=U4 hr i3 hil2;generalize Is n inp c=c' at *;refine Bn (Bu (res:=Abr (l++[c'])) (tk:=[(l++[c']).length]) rfl rfl rfl rfl rfl rfl rfl rfl rfl rfl rfl rfl rfl rfl (X7 _) (Aws _) rfl rfl rfl (by rw[X7];simp;omega) (by simp[Abr]) (by rw[X7,Ex];rfl)) ?_;refine IH (m+1,c',l++[c']) ⟨hmk,by simp only;rw[show k-(m+1)=d by omega,Fp];exact i2,hst',by simp;omega⟩ (by simp only;omega) _ _ ⟨Ci ((Ac (by simp only;omega) (by simp only;omega)).trans (by simp only;omega)),rfl,rfl,rfl,rfl,rfl,trivial⟩ rfl rfl rfl
theorem Au0(n:Nd)(ls inp:List Int)(fuel:Int)(hil:inp.length≤1000000000):(rlM n ls inp fuel=[]∧rtM n ls inp fuel=zC)∨(∃c l,rlM n ls inp fuel=c::l∧rtM n ls inp fuel=l.getLastD c∧(c::l).length≤5001):=by
 unfold rlM rtM rtF;cases hr:Fy n with
 |false=>exact .inl ⟨rfl,rfl⟩
 |true=>
 rw[if_pos rfl,if_pos rfl];cases hs:rtO n ls inp fuel with
 |none=>exact .inl ⟨rfl,rfl⟩
 |some cs=>
  unfold rtO at hs;split at hs
  ·rename_i hb;simp only[Dd]at hb;have hfb:=Cn.1 hb.1;have hil2:inp.length≤100:=by
    have:=hb.2;unfold Yl at this;simp only[Dd,Ke]at this;omega
   have hSt:=Ag5 hr hs;refine .inr ⟨_,_,rfl,(Af2 hr hil2 fuel.toNat _ hSt (by simp[bgC];omega)).symm,?_⟩;have:=Akg n inp fuel.toNat (bgC (Ax n 31).length cs)
   simp;omega
  ·cases hs
theorem Axy(n:Nd)(hn:wN n≤100000000)(ls inp:List Int)(hls:ls.length≤1000000000)(hil:inp.length≤1000000000)(fuel:Int):Pure X 35 [nd n,.sl (Fe ls) .no,.sl (Fe inp) .no,vi fuel] (cf (rtM n ls inp fuel)):=by
 have hp:=A4b n hn ls inp hls hil fuel;refine Pure.run func35 ?_;refine Al hp ?_;rcases Au0 n ls inp fuel hil with⟨h1,h2⟩|⟨c,l,h1,h2,h3⟩
 ·rw[h1,h2];refine A0 ?_;exact As func35 rfl
 ·have hlen:(Abr (c::l)).length=l.length+1:=by rw[X7];rfl
  have hw1:IntKind.i64.wrap (((Abr (c::l)).length:Int)-1)=l.length:=by rw[hlen,Ac (by simp at h3;omega) (by simp at h3;omega)];omega
  rw[h1,h2];refine Ag ?_ (ht:=by rw[hlen];simp;omega);refine B4 (r:=G4 (l.getLastD c)) (IntKind.i64.wrap (((Abr (c::l)).length:Int)-1)) (by rw[hw1];omega) (by rw[hw1,Hl];exact Ev (f:=G4) (Atn c l)) ?_;exact As func35 rfl
theorem Ad4{α:Type}(l:List α)(a b:α):(l++[a]).set l.length b=l++[b]:=by
 rw[Iw _ _ (Bo _),Ik];rfl
theorem InG.held{l:List Int}{r:AV}{bx pre:List (List (List AV))}{d:Nat}(hd:pre.length=d)(h:InG l r bx):∃b,b<bx.length∧r=.bsl b l.length∧(pre++Rh d bx)[b+d]?=some (Fe l):=by
 obtain⟨b,rfl,hb⟩:=h;refine⟨b,Aa hb,rfl,?_⟩;rw[Gk (by omega),hd,Ad8,Rh,Gl,hb,Lk,Aba]
theorem Atw{S:St}{n:Nd}{lo hi b:Nat}(hn:Ai n≤1000000000)(h:Zo true lo hi S.boxes b n):Fz S 0 0 (ndB b n) (nd n):=by
 refine .agg _ _ rfl fun j x y hx hy=>?_
 match j,hx,hy with
 |0,hx,hy=>simp[Af]at hx hy;subst hx;subst hy;exact .same _ (.val _)
 |1,hx,hy=>simp[Af]at hx hy;subst hx;subst hy;exact .same _ (.val _)
 |2,hx,hy=>simp[Af]at hx hy;subst hx;subst hy;exact .same _ (.val _)
 |3,hx,hy=>simp[Af]at hx hy;subst hx;subst hy;exact A3o n hn h
 |j+4,hx,_=>simp at hx
theorem Ab2{S:St}{l:List Int}{b:Nat}(hl:l.length≤1000000000)(h:S.boxes[b]?=some (Fe l)):Fz S 0 0 (.bsl b l.length) (.sl (Fe l) .no):=
 SlB.flat (.inl ⟨b,[],by rw[D9],by rw[H0];exact h⟩) (by rw[D9];omega) inferInstance
theorem A35:(∀n:Nd,mcN n+3≤3*Ai n)∧∀l:List Nd,mcL l≤3*A3 l:=by
 refine Ro (fun k s m ks h=>?_) (by simp[mcL]) fun x l h1 h2=>?_
 ·have:=Cj (.mk k s m ks);simp only[Gh]at this;simp only[mcN];omega
 ·simp only[mcL,A3];omega
theorem A2q{cs:List Nat}(h:∀c,c∈cs→c≤1000000):cs.sum≤1000000*cs.length:=by
 induction cs with
 |nil=>simp
 |cons c cs ih=>
  have:=ih fun x hx=>h x (by simp[hx]);have:=h c (by simp);simp;omega
theorem A2k(n:Nd)(ls inp:List Int)(fuel:Int):CfOk (rtM n ls inp fuel)∧Wp (rtM n ls inp fuel)≤100000000000:=by
 have hz:CfOk zC∧Wp zC≤100000000000:=⟨⟨by simp[zC],by simp[zC],fun x hx=>by simp[zC]at hx⟩,by simp[zC,Wp,Iy]⟩
 unfold rtM rtF;split
 ·rename_i hr;cases hs:rtO n ls inp fuel with
  |none=>exact hz
  |some cs=>
   unfold rtO at hs;split at hs
   ·rename_i hb;simp only[Dd]at hb;have hil2:inp.length≤100:=by
     have:=hb.2;unfold Yl at this;simp only[Dd,Ke]at this;omega
    have hv:=(Ao3 hr hil2 fuel.toNat _ (Ag5 hr hs)).vok;simp only;generalize Uy n inp fuel.toNat (bgC (Ax n 31).length cs)=c at *;have h1:=hv.vars;have h2:=hv.cells;have h3:=G9 n 31;have h4:=G9 n 32;have h5:=hv.kl;have h6:(Iy c.cells).sum≤1000000*(Iy c.cells).length:=A2q fun x hx=>by
     obtain⟨r,hr,rfl⟩:=zzq66.1 hx;have:=hv.rows r hr;omega
    have h7:(Iy c.cells).length=c.cells.length:=by simp[Iy]
    exact⟨hv.ok,by unfold Wp;omega⟩
   ·cases hs
 ·exact hz
theorem Azl(n:Nd)(l li:List Int)(fuel:Int)(hpn:PrI n)(hln:LnI n)(hll:l.length≤9223372036854775807)(hli:li.length≤9223372036854775807):Pure X 7 [nd n,.sl (Fe l) .no,.sl (Fe li) .no,vi fuel] (vb true):=by
 have hzl:=D9 l;refine Pure.run func7 ?_;refine Ah (fun g0=>?_) (fun g0=>?_)
 ·exact As func7 rfl
 have hl:l.length≤1048576:=by have:=Ba g0;rw[hzl]at this;omega
 have hzli:=D9 li;refine Ah (fun g9=>?_) (fun g9=>?_)
 ·exact As func7 rfl
 have hli2:li.length≤1048576:=by have:=Ba g9;rw[hzli]at this;omega
 refine Al (A5h n hln 1048576 (by omega) (by omega)) ?_;refine Ah (fun g=>?_) (fun g=>?_)
 ·exact As func7 rfl
 have g1:=Ao8 (show 0≤szR (swN n) 1048576 by have:=Ba g;omega);have w1:=A4v.1 n;have c1:=Ry n;have hcn:Ai n≤1000000000:=by omega
 obtain⟨hW,hWn⟩:=A2k n l li fuel;have hmc:mcN n≤10000000000:=by have:=A35.1 n;omega
 refine Al (A2t n hcn) ?_;refine Al (Agb l (by omega)) ?_;refine Al (Agb li (by omega)) ?_;refine Al (Axy n (by omega) l li (by omega) (by omega) fuel) ?_;have hq:=Ayf n hcn hpn l li (by omega) (by omega) fuel;generalize rtM n l li fuel=W at *;have gx:∀{bx more:List (List (List AV))} {i:Nat} {y:List (List AV)},bx[i]?=some y→(bx++more)[i]?=some y:=fun{bx more i y} h=>by rw[Cs (Aa h)];exact h
 have new:∀(bx:List (List (List AV))) (y:List (List AV)),(bx++[y])[bx.length]?=some y:=fun bx y=>by simp
 have hin:∀x,Ok 0 0 (vi x):=fun x=>.val _;refine Te (A2u n hcn) (.cons (.same _ (inferInstance:OK 0 0 (nd n)).ok) .nil) ?_;intro r bx1 hP;obtain⟨b,rfl,hT⟩:=hP;refine⟨ndB (b+2) n,Rh 2 bx1,Atx n,Nu _ _,?_⟩;obtain⟨S1,hS1⟩:∃S1:St,S1=⟨[Af n]::[G4 W]::Rh 2 bx1,[]⟩:=⟨_,rfl⟩
 refine Be S1 ?_ hS1.symm;have hT1:Zo true 2 S1.boxes.length S1.boxes (b+2) n:=by
  rw[hS1];exact Pk n (by omega) (by simp[Pt]) (fun _ _ _ _ h=>h) (Acw n (d:=2) (pre:=[[Af n],[G4 W]]) rfl hT)
 have z0:S1.boxes[0]?=some [Af n]:=by rw[hS1];rfl
 have z1:S1.boxes[1]?=some [G4 W]:=by rw[hS1];rfl
 have l1:2≤S1.boxes.length:=by rw[hS1];simp
 have r0:([Af n]:List (List AV))[0]?=some (Af n):=rfl;have r1:([G4 W]:List (List AV))[0]?=some (G4 W):=rfl;have rz:([zN]:List (List AV))[0]?=some zN:=rfl;refine Lq rfl rfl ?_;refine Mn (new _ _) rz rfl ?_;obtain⟨S2,hS2⟩:∃S2:St,S2=⟨S1.boxes++[[[vi n.kind,str n.name,vi n.num,.bsl (b+2) n.kids.length]]],S1.toks⟩:=⟨_,rfl⟩
 refine Be S2 ?_ (by rw[hS2];exact congrArg (fun x=>St.mk x _) (Ad4 _ _ _));have l2:S2.boxes.length=S1.boxes.length+1:=by rw[hS2];simp
 refine Te (Avi l (by omega)) (.cons (.same _ (inferInstance:OK 0 0 (.sl (Fe l) .no)).ok) .nil) ?_;intro r bx2 hP;obtain⟨c,hc,rfl,hx1⟩:=hP.held (pre:=S2.boxes) rfl;refine⟨.bsl (c+S2.boxes.length) l.length,Rh S2.boxes.length bx2,.bsl c _,Nu _ _,?_⟩;obtain⟨S3,hS3⟩:∃S3:St,S3=⟨S2.boxes++Rh S2.boxes.length bx2,S2.toks⟩:=⟨_,rfl⟩
 refine Be S3 ?_ hS3.symm;have l3:S3.boxes.length=S2.boxes.length+bx2.length:=by rw[hS3];simp[Pt]
 have up3:∀{i:Nat} {y:List (List AV)},S1.boxes[i]?=some y→S3.boxes[i]?=some y:=fun h=>by rw[hS3,hS2];exact gx (gx h)
 have z8:S3.boxes[S1.boxes.length]?=some [[vi n.kind,str n.name,vi n.num,.bsl (b+2) n.kids.length]]:=by rw[hS3,hS2];exact gx (new _ _)
 have r8:([[vi n.kind,str n.name,vi n.num,.bsl (b+2) n.kids.length]]:List (List AV))[0]?=some [vi n.kind,str n.name,vi n.num,.bsl (b+2) n.kids.length]:=rfl;have hT3:Zo true 2 S1.boxes.length S3.boxes (b+2) n:=Pk n (Bo _) (Bo _) (fun _ _ _ _ h=>up3 h) hT1;have hx3:S3.boxes[c+S2.boxes.length]?=some (Fe l):=by rw[hS3];exact hx1
 refine Cb 60 rfl ?_;refine Te (Avi li (by omega)) (.cons (.same _ (inferInstance:OK 0 0 (.sl (Fe li) .no)).ok) .nil) ?_;intro r bx9 hP;obtain⟨c9,hc9,rfl,hx9⟩:=hP.held (pre:=S3.boxes) rfl;refine⟨.bsl (c9+S3.boxes.length) li.length,Rh S3.boxes.length bx9,.bsl c9 _,Nu _ _,?_⟩;obtain⟨R3,hR3⟩:∃R3:St,R3=⟨S3.boxes++Rh S3.boxes.length bx9,S3.toks⟩:=⟨_,rfl⟩
 refine Be R3 ?_ hR3.symm;have lr3:R3.boxes.length=S3.boxes.length+bx9.length:=by rw[hR3];simp[Pt]
 have upr:∀{i:Nat} {y:List (List AV)},S3.boxes[i]?=some y→R3.boxes[i]?=some y:=fun h=>by rw[hR3];exact gx h
 have z8:=upr z8;have hT3:Zo true 2 S1.boxes.length R3.boxes (b+2) n:=Pk n (Bo _) (Bo _) (fun _ _ _ _ h=>upr h) hT3;have hx3:=upr hx3;have up3:∀{i:Nat} {y:List (List AV)},S1.boxes[i]?=some y→R3.boxes[i]?=some y:=fun h=>upr (up3 h);have hy3:R3.boxes[c9+S3.boxes.length]?=some (Fe li):=by rw[hR3];exact hx9
 refine Cb 60 rfl ?_;refine Hc z8 r8 ?_;refine Te hq (.cons (Atw hcn hT3) (.cons (Ab2 (by omega) hx3) (.cons (Ab2 (by omega) hy3) (.cons (.same _ (hin _)) .nil)))) ?_;intro r bx3 hP;obtain⟨ids,hC⟩:=hP;obtain⟨V,C,rfl⟩:=hC.parts;have hidl:=hC.ltG;have hC3:=hC.held (pre:=R3.boxes);simp only[Hn,Sy]at hC3;refine⟨.agg (Ef W (Hn R3.boxes.length V) (Hn R3.boxes.length C)),Rh R3.boxes.length bx3,(by have:=U3 R3.boxes.length (.agg (Ef W V C));simpa[Hn,Sy]using this),Nu _ _,?_⟩;generalize Hn R3.boxes.length V=V1 at hC3⊢;generalize Hn R3.boxes.length C=C1 at hC3⊢;obtain⟨js,hjs⟩:∃js,js=ids.map (·+R3.boxes.length):=⟨_,rfl⟩
 rw[←hjs]at hC3;have hj:∀j,j∈js→R3.boxes.length≤j∧j<R3.boxes.length+bx3.length:=fun j h=>by
  rw[hjs]at h;obtain⟨i,hi,rfl⟩:=zzq66.1 h;have:=hidl i hi;omega
 obtain⟨S4,hS4⟩:∃S4:St,S4=⟨R3.boxes++Rh R3.boxes.length bx3,R3.toks⟩:=⟨_,rfl⟩
 refine Be S4 ?_ hS4.symm;have l4:S4.boxes.length=R3.boxes.length+bx3.length:=by rw[hS4];simp[Pt]
 have hC4:CfB SlB S4.boxes (.agg (Ef W V1 C1)) js W:=by rw[hS4];exact hC3
 have rz9:([[vi 0,.sl [] .tight,.sl [] .tight,vi 0,vi 0,vi 0,vi 0,vi 0]]:List (List AV))[0]?=some [vi 0,.sl [] .tight,.sl [] .tight,vi 0,vi 0,vi 0,vi 0,vi 0]:=rfl;refine Lq rfl rfl ?_;refine Mn (xs:=Ef W V1 C1) (cs':=Ef W V1 C1) (new _ _) rz9 rfl ?_ (hc:=Fc hC4);obtain⟨S5,hS5⟩:∃S5:St,S5=⟨S4.boxes++[[Ef W V1 C1]],S4.toks⟩:=⟨_,rfl⟩
 refine Be S5 ?_ (by rw[hS5];exact congrArg (fun x=>St.mk x _) (Ad4 _ _ _));have l5:S5.boxes.length=S4.boxes.length+1:=by rw[hS5];simp
 have up5:∀{i:Nat} {y:List (List AV)},R3.boxes[i]?=some y→S5.boxes[i]?=some y:=fun h=>by rw[hS5,hS4];exact gx (gx h)
 have z10:S5.boxes[S4.boxes.length]?=some [Ef W V1 C1]:=by rw[hS5];exact new _ _
 have r10:([Ef W V1 C1]:List (List AV))[0]?=some (Ef W V1 C1):=rfl;have z05:=up5 (up3 z0);have z15:=up5 (up3 z1);have z85:=up5 z8;have hT5:Zo true 2 S1.boxes.length S5.boxes (b+2) n:=Pk n (Bo _) (Bo _) (fun _ _ _ _ h=>up5 h) hT3;have hx5:=up5 hx3;have hy5:=up5 hy3;have hC5:CfB SlB S5.boxes (.agg (Ef W V1 C1)) js W:=by rw[hS5];exact hC4.more
 have okW:Ok 0 0 (cf W):=(inferInstance:OK 0 0 (cf W)).ok;have okN:Ok 0 0 (nd n):=(inferInstance:OK 0 0 (nd n)).ok;have okL:Ok 0 0 (.sl (Fe l) .no):=(inferInstance:OK 0 0 (.sl (Fe l) .no)).ok;refine Hc z10 r10 ?_;refine Hc z15 r1 ?_;refine Rj (Am3 W hW) (.cons (hC5.fz hW) (.cons (.same _ okW) .nil)) (.val _) ?_;refine Cq ?_;refine De 0 (by kernel_rfl) ?_;refine A2 (M1 z85 r8) ?_;refine A2 (M1 z05 r0) ?_;refine Js (A2t n hcn) ?_;refine A2 (Rr (A5g n hcn) (.cons (Atw hcn hT5) (.cons (.same _ okN) .nil)) (.val _)) ?_;refine Av ?_;refine Gt ?_;refine Cq ?_;refine Im (Agb l (by omega)) ?_;refine Rj (Avd l (by omega)) (.cons (Ab2 (by omega) hx5) (.cons (.same _ okL) .nil)) (.val _) ?_;refine Cq ?_;refine Im (Agb li (by omega)) ?_;refine Rj (Avd li (by omega)) (.cons (Ab2 (by omega) hy5) (.cons (.same _ (inferInstance:OK 0 0 (.sl (Fe li) .no)).ok) .nil)) (.val _) ?_;refine Cq ?_;refine Hc z85 r8 ?_;refine G3 (Azj n (k:=1) (Awm n hT5) (Bo _) (by omega)) ?_;intro r S6 hP _ _;obtain⟨rfl,ht6,hM6⟩:=hP;have far6:∀{i:Nat} {y:List (List AV)},i<2∨S1.boxes.length≤i→S5.boxes[i]?=some y→S6.boxes[i]?=some y:=fun hi h=>(hM6.far _ (Aa h) hi).trans h;have hC6:CfB SlB S6.boxes (.agg (Ef W V1 C1)) js W:=hC5.chg hM6.chg fun j h1 h2=>by
  have:=hj j h1;obtain⟨i,hi,rfl⟩:=zzq66.1 h2;have:=zzq53.1 hi;omega
 have hx6:=far6 (.inr (by omega)) hx5;have hy6:=far6 (.inr (by omega)) hy5;have z16:=far6 (.inl (by omega)) z15;have z06:=far6 (.inl (by omega)) z05;have z106:=far6 (.inr (by omega)) z10;refine Cb 60 rfl ?_;refine G3 (Ain (l:=l) (x:=.bsl (c+S2.boxes.length) l.length) (.inl ⟨_,[],by rw[hzl],by rw[H0];exact hx6⟩) (1+mcN n) (by omega)) ?_;intro r S7 hP _ _;obtain⟨rfl,ht7,hc7,_⟩:=hP;have far7:∀{i:Nat} {y:List (List AV)},i≠c+S2.boxes.length→S6.boxes[i]?=some y→S7.boxes[i]?=some y:=fun hi h=>(hc7.2 _ (Aa h) (by simpa[Jo]using hi)).trans h;have hC7:CfB SlB S7.boxes (.agg (Ef W V1 C1)) js W:=hC6.chg hc7 fun j h1 h2=>by
  have:=hj j h1;simp[Jo]at h2;omega
 have hy7:=far7 (by omega) hy6;have z17:=far7 (by omega) z16;have z07:=far7 (by omega) z06;have z107:=far7 (by omega) z106;refine Cb 60 rfl ?_;refine G3 (Ain (l:=li) (x:=.bsl (c9+S3.boxes.length) li.length) (.inl ⟨_,[],by rw[hzli],by rw[H0];exact hy7⟩) (1+mcN n+l.length) (by omega)) ?_;intro r Q7 hP _ _;obtain⟨rfl,htq,hcq,_⟩:=hP;have farq:∀{i:Nat} {y:List (List AV)},i≠c9+S3.boxes.length→S7.boxes[i]?=some y→Q7.boxes[i]?=some y:=fun hi h=>(hcq.2 _ (Aa h) (by simpa[Jo]using hi)).trans h;have hC7:CfB SlB Q7.boxes (.agg (Ef W V1 C1)) js W:=hC7.chg hcq fun j h1 h2=>by
  have:=hj j h1;simp[Jo]at h2;omega
 have z17:=farq (by omega) z17;have z07:=farq (by omega) z07;have z107:=farq (by omega) z107;refine Cb 60 rfl ?_;refine Ol ?_ (ht:=Mc (by omega));refine Hc z107 r10 ?_;refine Hc z17 r1 ?_;refine Rj (Am3 W hW) (.cons (hC7.fz hW) (.cons (.same _ okW) .nil)) (.val _) ?_;refine Cq ?_;refine Hc z107 r10 ?_;refine G3 (Avg hC7 (by have:=hW.cells;omega) 1 (by omega)) ?_;intro r S8 hP _ _;obtain⟨rfl,ht8,hc8,hC8⟩:=hP;have far8:∀{i:Nat} {y:List (List AV)},i∉js→Q7.boxes[i]?=some y→S8.boxes[i]?=some y:=fun hi h=>(hc8.2 _ (Aa h) hi).trans h;have z18:=far8 (fun h=>by have:=hj _ h;omega) z17;have z08:=far8 (fun h=>by have:=hj _ h;omega) z07;have z108:=far8 (fun h=>by have:=hj _ h;omega) z107;refine Cb 60 rfl ?_;refine Hc z108 r10 ?_;refine Rj (Akn 1 W (by have:=hW.cells;omega) (by omega)) (.cons (hC8.fz (Aof hW)) (.cons (.same _ (hin _)) .nil)) (.val _) ?_;refine Cq ?_ (ht:=Mc (by omega));refine Cq ?_ (ht:=by simp);refine Hc z08 r0 ?_;refine Im (A2t n hcn) ?_;refine Im (Agb l (by omega)) ?_;refine Im (Agb li (by omega)) ?_;refine Te hq (.cons (.same _ okN) (.cons (.same _ okL) (.cons (.same _ (inferInstance:OK 0 0 (.sl (Fe li) .no)).ok) (.cons (.same _ (hin _)) .nil)))) ?_;intro r bx4 hP;obtain⟨ids4,hD⟩:=hP;obtain⟨V2,C2,rfl⟩:=hD.parts;have hD9:=hD.held (pre:=S8.boxes);simp only[Hn,Sy]at hD9;refine⟨.agg (Ef W (Hn S8.boxes.length V2) (Hn S8.boxes.length C2)),Rh S8.boxes.length bx4,(by have:=U3 S8.boxes.length (.agg (Ef W V2 C2));simpa[Hn,Sy]using this),Nu _ _,?_⟩;generalize Hn S8.boxes.length V2=V3 at hD9⊢;generalize Hn S8.boxes.length C2=C3 at hD9⊢;obtain⟨S9,hS9⟩:∃S9:St,S9=⟨S8.boxes++Rh S8.boxes.length bx4,S8.toks⟩:=⟨_,rfl⟩
 refine Be S9 ?_ hS9.symm;have hD9':CfB SlB S9.boxes (.agg (Ef W V3 C3)) (ids4.map (·+S8.boxes.length)) W:=by rw[hS9];exact hD9
 refine Lq rfl rfl ?_;refine Mn (xs:=Ef W V3 C3) (cs':=Ef W V3 C3) (new _ _) rz9 rfl ?_ (hc:=Fc hD9');obtain⟨S10,hS10⟩:∃S10:St,S10=⟨S9.boxes++[[Ef W V3 C3]],S9.toks⟩:=⟨_,rfl⟩
 refine Be S10 ?_ (by rw[hS10];exact congrArg (fun x=>St.mk x _) (Ad4 _ _ _));have up10:∀{i:Nat} {y:List (List AV)},S8.boxes[i]?=some y→S10.boxes[i]?=some y:=fun h=>by rw[hS10,hS9];exact gx (gx h)
 have z15':S10.boxes[S9.boxes.length]?=some [Ef W V3 C3]:=by rw[hS10];exact new _ _
 have r15:([Ef W V3 C3]:List (List AV))[0]?=some (Ef W V3 C3):=rfl;have hD10:CfB SlB S10.boxes (.agg (Ef W V3 C3)) (ids4.map (·+S8.boxes.length)) W:=by rw[hS10];exact hD9'.more
 have hC10:CfB SlB S10.boxes (.agg (Ef W V1 C1)) js (Ajv 1 W):=by rw[hS10,hS9];exact hC8.more.more
 refine Hc z15' r15 ?_;refine Hc (up10 z18) r1 ?_;refine Rj (Am3 W hW) (.cons (hD10.fz hW) (.cons (.same _ okW) .nil)) (.val _) ?_;refine Cq ?_;refine Hc (up10 z108) r10 ?_;refine Rj (Akn 1 W (by have:=hW.cells;omega) (by omega)) (.cons (hC10.fz (Aof hW)) (.cons (.same _ (hin _)) .nil)) (.val _) ?_;refine Cq ?_ (ht:=Mc (by omega));refine Cq ?_ (ht:=by simp);exact As func7 rfl
end Go.V
namespace Go.Proofs.YtojhghmilenfkaaGreatDoor.runTo
open Go Go.Proofs Go.V Go.ChangeShapes Go.WideShapes Go.ChangeAt Go.RowKit Go.Proofs.Tryz
set_option maxRecDepth 100000
theorem Asv(H:Type)(enc:TypeId×Value→H)(W:World)(base:Nat)(args:Array Value)(ds gs:List (DataW H))(before:List MemPlace)
 (hval:∀(j:Nat) t v,f7.params[j]?=some t→args[j]?=some v→Value.okWide prog W .any base t v)
 (hW:DataW.Whole enc prog f7.params.toList Rows.fnExactRunToSpec.vars false W args.toList ds gs before)(hL:laidMetH prog Rows.fnExactRunToRow.laid W)(hs:W.ShapedOpen prog) :
 Calls prog 7 args W fun e W'=>∃v,e=.returned v∧Rows.fnExactRunToSpec.post enc prog f7 false true false false W args v W':=by
 have hW':=hW;obtain⟨p,q,hA0,_,_,_,_⟩:=hW;have hA:DataW.TrodAll enc prog W 0 (fun _=>true) true [24,37,37,3] args.toList ds p:=hA0;obtain⟨v0,vs0,d0,ds0,p0,q0,hargs,rfl,rfl,h0,r0⟩:=trodAll_cons hA;obtain⟨v1,vs1,d1,ds1,p1,q1,hargs1,rfl,rfl,h1,r1⟩:=trodAll_cons r0;obtain⟨v2,vs2,d2,ds2,p2,q2,hargs2,rfl,rfl,h2,r2⟩:=trodAll_cons r1;obtain⟨v3,vs3,d3,ds3,p3,q3,hargs3,rfl,rfl,h3,r3⟩:=trodAll_cons r2;obtain⟨rfl,rfl,rfl⟩:=trodAll_nil r3;subst hargs3;subst hargs2;subst hargs1;have ha0:args[0]?=some v0:=by rw[←Td,hargs];rfl
 have ha1:args[1]?=some v1:=by rw[←Td,hargs];rfl
 have ha2:args[2]?=some v2:=by rw[←Td,hargs];rfl
 have ha3:args[3]?=some v3:=by rw[←Td,hargs];rfl
 obtain⟨n,n1,n2,n3⟩:=Axx (hval 0 24 v0 rfl ha0) h0;obtain⟨l,l2,l3⟩:=An7 (hval 1 37 v1 rfl ha1) h1;obtain⟨i,i2,i3⟩:=An7 (hval 2 37 v2 rfl ha2) h2;obtain⟨k,k2,k3⟩:=A1p (hval 3 3 v3 rfl ha3) h3;have hR:RelL W args.toList [nd n,inl l,inl i,vi k]:=by rw[hargs];exact .cons n3 (.cons l3 (.cons i3 (.cons k3 .nil)))
 refine(Ay7 (Azl n l i k n1 n2 l2 i2) hs hL hR).mono fun r W' ⟨he,hb⟩=>?_;refine⟨_,he,Aqu Atk (fun t ht=>?_) rfl Awt A06 A05 A04 hW' hb (fun g1 hg=>?_) rfl underlying4⟩
 ·have h:t∈[24,37,37,3]:=ht;simp only[zzq13,Ww,or_false]at h;rcases h with rfl|rfl|rfl|rfl
  ·exact⟨by kernel_rfl,A5 (by kernel_rfl)⟩
  ·exact⟨by kernel_rfl,A5 (by kernel_rfl)⟩
  ·exact⟨by kernel_rfl,A5 (by kernel_rfl)⟩
  ·exact⟨by kernel_rfl,A5 (by kernel_rfl)⟩
 ·subst hg;rfl
set_option maxRecDepth 100000
theorem ab{a b:Bool}(h:a=true)(g:b=true):(a&&b)=true:=by rw[h,g];rfl
set_option maxHeartbeats 100000000 in
theorem A03:joinedFacts Tryz.pinned.checked.prog 7 f7 (OpenSpec.ofChange Rows.fnExactRunToSpec).bare Rows.fnExactRunToRow=true:=by
 unfold joinedFacts
 iterate 31 refine ab ?_ ?_
 all_goals as_aux_lemma=>kernel_rfl
set_option maxRecDepth 100000
theorem Atm(os:Os):laidMet prog Rows.fnExactRunToRow.laid ((Atl os).forCall (fun _ _=>0) ⟨#[],#[Axw,Aa8,Aa8,.int .i64 0],[]⟩).memory:=laidMet_of_run' 8 (by kernel_rfl) (by kernel_rfl)
theorem reads(os:Os){H:Type}(enc:TypeId×Value→H):∃places,DataW.whole enc prog ((Atl os).forCall (fun _ _=>0) ⟨#[],#[Axw,Aa8,Aa8,.int .i64 0],[]⟩).memory f7.params.toList Rows.fnExactRunToSpec.vars false #[Axw,Aa8,Aa8,.int .i64 0].toList 8=some ([.agg [.lit (.int .i64 0),.lit (.string []),.lit (.int .i64 0),.nil],.nil,.nil,.lit (.int .i64 0)],[.agg (condB.map fun b=>.lit (.string b))],places):=
 ⟨MemPlace.row ⟨1,0,none⟩ 6,by kernel_rfl⟩
theorem A1w(os:Os)(started:os.Started)(H:Type)(enc:TypeId×Value→H)(F:Stop.Interp) :
 ReturnsInHanded {} Tryz.checked os 7 .any ((OpenSpec.ofChange Rows.fnExactRunToSpec).preRow enc prog f7 Rows.fnExactRunToRow.domain false Rows.fnExactRunToRow.laid)
  (((OpenSpec.ofChange Rows.fnExactRunToSpec).at F).post enc prog f7 false true false false):=by
 obtain⟨places,hx⟩:=reads os enc;refine returnsInHanded_of_row (C:=Tryz.checked) (s:=OpenSpec.ofChange Rows.fnExactRunToSpec) A5b started (by kernel_rfl) func7
  (witness_row_at (enc:=enc) (C:=Tryz.checked) false (Atl os) #[Axw,Aa8,Aa8,.int .i64 0] rfl (by kernel_rfl) (by kernel_rfl) (by kernel_rfl)
    (OpenSpec.preRow_of_cond 8 hx (by kernel_rfl) (fun k hk=>by cases hk) (by kernel_rfl) (Atm os))) ?_
 intro W base args ds gs before hval hW _ _ _ hL hs _;exact Asv H enc W base args ds gs before hval hW hL hs
theorem A5f:Rows.FnExactRunToSaid:=
 OpenClaim.holds_of_cond 7 f7 rfl rfl rfl rfl rfl rfl rfl ⟨rfl,rfl,rfl,rfl,rfl⟩ rfl rfl rfl rfl rfl (by kernel_rfl) func7 A03
  (A5 (by kernel_rfl)) (by unfold Func.isWrapper;first|(rw[if_pos (by decide +kernel)];kernel_rfl)|(rw[if_neg (by decide +kernel)];exact⟨rfl,rfl⟩))
  (fun os started H enc _ F=>by rw[OpenClaim.pre_eq_preRow];exact A1w os started H enc F)
theorem plain(f:FuncId)(fn:Func)(hf:Tryz.pinned.checked.prog.funcNamed "loop.example/g00093/laws.FnExactRunTo" = some f)(hfn:Tryz.pinned.checked.prog.funcs[f]?=some fn) :
 true=Tryz.pinned.checked.prog.looks []∧∀(j:Nat) t,fn.params[j]?=some t→Tryz.pinned.checked.prog.wantsStandIn t=false:=by
 obtain rfl:f=7:=Option.some.inj ((show prog.funcNamed "loop.example/g00093/laws.FnExactRunTo" = some 7 by kernel_rfl).symm.trans hf) |>.symm;obtain rfl:fn=f7:=(Option.some.inj (func7.symm.trans hfn)).symm;refine⟨by kernel_rfl,fun j t ht=>?_⟩;have ht':(#[24,37,37,3]:Array Nat)[j]?=some t:=ht;have h:t=24∨t=37∨t=37∨t=3:=by simpa using Array.mem_of_getElem? ht'
 rcases h with rfl|rfl|rfl|rfl
 ·exact(show prog.wantsStandIn 24=false by kernel_rfl)
 ·exact(show prog.wantsStandIn 37=false by kernel_rfl)
 ·exact(show prog.wantsStandIn 37=false by kernel_rfl)
 ·exact(show prog.wantsStandIn 3=false by kernel_rfl)
end Go.Proofs.YtojhghmilenfkaaGreatDoor.runTo
