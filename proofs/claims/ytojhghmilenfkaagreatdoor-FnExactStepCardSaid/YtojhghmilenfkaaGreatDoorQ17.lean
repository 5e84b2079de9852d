/- A part of the proof of the claim that the last text states: no condition of its own. -/
import Derived.Test.YtojhghmilenfkaaGreatDoorQ16
set_option linter.unusedVariables false
set_option linter.unusedSimpArgs false
namespace Go.V
open Go Go.Proofs Go.Proofs.Tryz
def DoP(n:Nd)(bw bc:Nat)(V C:AV)(ids:List Nat)(S:St)(i j:Nat)(q:DR)(r:AV)(S':St):Prop:=
 r=.tup [vi (if q.2.2.2=true then i else j:Nat),vi q.2.1]∧S'.toks=S.toks∧Chg (bw::bc::ids) S.boxes S'.boxes∧∃d',WkS n S' bw bc V C ids q.1 d'∧(q.2.1≠0→q.2.1≠4→q.2.1≠5→d'=q.2.2.1)
abbrev zEg:An:=[vi 0,vi 0,vi 0,vb false,vi 0,str [],vi 0,.sl [] .tight]
theorem Chg.up{a b:List Nat}{bx bx' bx'':B3}(h:Chg a bx bx')(h':Chg b bx' bx'')(hb:∀i,i∈b→i∈a):Chg a bx bx'':=(h.trans h').more fun i hi=>by
 rcases zzq26.1 hi with h|h
 ·exact h
 ·exact hb i h
section
variable {n:Nd}{bw bc:Nat}{V C:AV}{ids:List Nat}{c:Cf}
abbrev DoR(n:Nd)(bw bc:Nat)(V C:AV)(ids:List Nat)(c:Cf)(inp:List Int)(i j:Nat)(q:DR):Prop:=
 ∀S:St,WkS n S bw bc V C ids c 0→Runs X 137 [.ptr bw 0 0,vi i,.sl (Fh inp) .no] S (DoP n bw bc V C ids S i j q)
theorem Agk{i j:Nat}{inp:List Int}{f t k:Int}{y:Bool}{x:Nd}(hk':k=6∨k=7)(he:(Ia (A1 n))[i]?=some ⟨f,t,k,y,x⟩):DoR n bw bc V C ids c inp i j (c,0,0,true):=by
 rcases hk' with rfl|rfl
 ·skip
  intro S hW;have hbw:=Aa hW.w;have hbc:=Aa hW.c.box;have hid:=Ur hW.c;have zw:=hW.w;have gx:∀{i:Nat} {y:A7} {more:B3},S.boxes[i]?=some y→(S.boxes++more)[i]?=some y:=fun{i y more} h=>by rw[Dd (Aa h)];exact h
  have new:∀y:A7,(S.boxes++[y])[S.boxes.length]?=some y:=fun y=>by simp
  have keep:∀r:A7,((S.boxes++[[zEg]]).set S.boxes.length r)[bw]?=some [wkp n bc 0]:=fun r=>by rw[Fi (by omega)];exact gx zw
  refine Runs.run func137 ?_;refine Di 98304 (by kernel_rfl) ?_
  iterate 3 refine A0 ?_
  refine A4 (As zw) ?_
  iterate 5 refine A0 ?_
  refine D6 (fun S'=>Ca rfl rfl rfl rfl rfl rfl rfl rfl rfl (by omega) (Ge he)) ?_
  iterate 4 refine A0 ?_
  refine A4 (As zw) ?_;refine Er (Md rfl rfl) (Aq (As (gx zw)) (Aq (As (gx zw)) G6)) ?_;refine Er (Ji (r:=0) (cs:=zEg) (new _) rfl rfl) ?_ ?_
  ·intro p hp;replace hp:=(zzq35.1 hp).1;revert p;exact Aq (As (keep _)) (Aq (As (keep _)) G6)
  refine A0 ?_;refine G0 ?_;obtain⟨T,hT⟩:∃T:St,T=⟨S.boxes++[[Io (⟨f,t,6,y,x⟩)]],S.toks⟩:=⟨_,rfl⟩
  refine Bl T ?_ (by rw[hT];exact congrArg (fun x=>St.mk x _) (by rw[Jb _ _ (Bt _),Iw];rfl));have zE:T.boxes[S.boxes.length]?=some [Io (⟨f,t,6,y,x⟩)]:=by rw[hT];simp
  have hWT:WkS n T bw bc V C ids c 0:=hW.more (by rw[hT]);have hcT:Chg (bw::bc::ids) S.boxes T.boxes:=by rw[hT];exact Chg.snoc _ _ _
  have htT:T.toks=S.toks:=by rw[hT]
  refine Aw zE ?_
  iterate 3 refine Cv ?_
  refine Cv ?_;refine Cv ?_;exact Bf func137 (h:=rfl) ⟨_,rfl,rfl,htT,hcT,0,hWT,fun h=>absurd rfl h⟩
 ·skip
  intro S hW;have hbw:=Aa hW.w;have hbc:=Aa hW.c.box;have hid:=Ur hW.c;have zw:=hW.w;have gx:∀{i:Nat} {y:A7} {more:B3},S.boxes[i]?=some y→(S.boxes++more)[i]?=some y:=fun{i y more} h=>by rw[Dd (Aa h)];exact h
  have new:∀y:A7,(S.boxes++[y])[S.boxes.length]?=some y:=fun y=>by simp
  have keep:∀r:A7,((S.boxes++[[zEg]]).set S.boxes.length r)[bw]?=some [wkp n bc 0]:=fun r=>by rw[Fi (by omega)];exact gx zw
  refine Runs.run func137 ?_;refine Di 98304 (by kernel_rfl) ?_
  iterate 3 refine A0 ?_
  refine A4 (As zw) ?_
  iterate 5 refine A0 ?_
  refine D6 (fun S'=>Ca rfl rfl rfl rfl rfl rfl rfl rfl rfl (by omega) (Ge he)) ?_
  iterate 4 refine A0 ?_
  refine A4 (As zw) ?_;refine Er (Md rfl rfl) (Aq (As (gx zw)) (Aq (As (gx zw)) G6)) ?_;refine Er (Ji (r:=0) (cs:=zEg) (new _) rfl rfl) ?_ ?_
  ·intro p hp;replace hp:=(zzq35.1 hp).1;revert p;exact Aq (As (keep _)) (Aq (As (keep _)) G6)
  refine A0 ?_;refine G0 ?_;obtain⟨T,hT⟩:∃T:St,T=⟨S.boxes++[[Io (⟨f,t,7,y,x⟩)]],S.toks⟩:=⟨_,rfl⟩
  refine Bl T ?_ (by rw[hT];exact congrArg (fun x=>St.mk x _) (by rw[Jb _ _ (Bt _),Iw];rfl));have zE:T.boxes[S.boxes.length]?=some [Io (⟨f,t,7,y,x⟩)]:=by rw[hT];simp
  have hWT:WkS n T bw bc V C ids c 0:=hW.more (by rw[hT]);have hcT:Chg (bw::bc::ids) S.boxes T.boxes:=by rw[hT];exact Chg.snoc _ _ _
  have htT:T.toks=S.toks:=by rw[hT]
  refine Aw zE ?_
  iterate 3 refine Cv ?_
  refine Cv ?_;refine Cv ?_;exact Bf func137 (h:=rfl) ⟨_,rfl,rfl,htT,hcT,0,hWT,fun h=>absurd rfl h⟩
theorem Avr(hk:VOk n c){i j:Nat}{inp:List Int}{f t:Int}{y:Bool}{s:Ad}{a:Nd}(he:(Ia (A1 n))[i]?=some ⟨f,t,1,y,.mk 21 s 0 [a]⟩)(hs:Fe 0 (A3 n 31) s≥0)(ha:FE a)(ka:Fs (A3 n 31) (A3 n 32) a=true) :
 DoR n bw bc V C ids c inp i j (Sq n inp c 1 y (.mk 21 s 0 [a])):=by
 obtain⟨iv,v0,h1,h2,_⟩:=hk.var hs;have kl:=hk.kl;have hq:=X6 n s (by omega);rw[h1]at hq;have hiv:=Aa h2;have ia:=Zl (bw:=bw) (bc:=bc) (V:=V) (C:=C) (ids:=ids) hk ha ka 0;have e0:Sq n inp c 1 y (.mk 21 s 0 [a])=if (Df n c a 0).2.1=0 then(W5 n c s (Df n c a 0).1,0,(Df n c a 0).2.2,true)else(c,(Df n c a 0).2.1,(Df n c a 0).2.2,true):=rfl;rw[e0];rcases hv:Df n c a 0 with⟨v,tt,d1⟩
 rw[hv]at ia;simp only;intro S hW;have hbw:=Aa hW.w;have hbc:=Aa hW.c.box;have hid:=Ur hW.c;have zw:=hW.w;have gx:∀{i:Nat} {y:A7} {more:B3},S.boxes[i]?=some y→(S.boxes++more)[i]?=some y:=fun{i y more} h=>by rw[Dd (Aa h)];exact h
 have new:∀y:A7,(S.boxes++[y])[S.boxes.length]?=some y:=fun y=>by simp
 have keep:∀r:A7,((S.boxes++[[zEg]]).set S.boxes.length r)[bw]?=some [wkp n bc 0]:=fun r=>by rw[Fi (by omega)];exact gx zw
 refine Runs.run func137 ?_;refine Di 98304 (by kernel_rfl) ?_
 iterate 3 refine A0 ?_
 refine A4 (As zw) ?_
 iterate 5 refine A0 ?_
 refine D6 (fun S'=>Ca rfl rfl rfl rfl rfl rfl rfl rfl rfl (by omega) (Ge he)) ?_
 iterate 4 refine A0 ?_
 refine A4 (As zw) ?_;refine Er (Md rfl rfl) (Aq (As (gx zw)) (Aq (As (gx zw)) G6)) ?_;refine Er (Ji (r:=0) (cs:=zEg) (new _) rfl rfl) ?_ ?_
 ·intro p hp;replace hp:=(zzq35.1 hp).1;revert p;exact Aq (As (keep _)) (Aq (As (keep _)) G6)
 refine A0 ?_;refine G0 ?_;obtain⟨T,hT⟩:∃T:St,T=⟨S.boxes++[[Io (⟨f,t,1,y,.mk 21 s 0 [a]⟩)]],S.toks⟩:=⟨_,rfl⟩
 refine Bl T ?_ (by rw[hT];exact congrArg (fun x=>St.mk x _) (by rw[Jb _ _ (Bt _),Iw];rfl));have zE:T.boxes[S.boxes.length]?=some [Io (⟨f,t,1,y,.mk 21 s 0 [a]⟩)]:=by rw[hT];simp
 have hWT:WkS n T bw bc V C ids c 0:=hW.more (by rw[hT]);have hcT:Chg (bw::bc::ids) S.boxes T.boxes:=by rw[hT];exact Chg.snoc _ _ _
 have htT:T.toks=S.toks:=by rw[hT]
 refine Aw zE ?_;refine Ej ?_;refine Aw zE ?_;refine M1 0 (by decide) (Ap (l:=[a]) rfl) ?_;refine Hl (ia T hWT) ?_;intro r U hP _ _;obtain⟨rfl,htU,hcU,hWU⟩:=hP;have zE2:=(hcU.2 _ (Aa zE) (by simp;omega)).trans zE;have hcSU:Chg (bw::bc::ids) S.boxes U.boxes:=hcT.up hcU fun i hi=>by simp at hi;simp[hi]
 have htSU:=htU.trans htT;refine Ce 60 rfl ?_;refine Gn (fun g=>?_) (fun g=>?_)
 ·have gt:tt=0:=by simpa using(show (tt==0)=true from g)
  subst gt;rw[if_pos rfl];obtain⟨bv,ex,hV,hb,hrow⟩:=hWU.c.vars h2;have hwr:=hWU.c.wrV v hiv hV hb;subst hV;refine Di 16384 (by kernel_rfl) ?_
  iterate 3 refine A0 ?_
  refine A4 (As hWU.c.box) ?_
  iterate 3 refine A0 ?_
  refine A4 (As hWU.w) ?_
  iterate 2 refine A0 ?_
  refine A4 (As zE2) ?_;refine Hz hq ?_;refine A0 ?_;refine A4 (Gp (hj:=by simpa[Hp]using hiv) (hb:=hb) (hr:=hrow) (hl:=rfl)) ?_;refine C4 (Ji hb hrow rfl) ?_;refine G0 ?_;have hne:bw≠bv:=fun h=>hWU.ne.2 (by obtain⟨V',C',ys,q1,q2,_⟩:=hWU.c.cf.ex;simp only[AV.agg.injEq,List.cons.injEq,and_true,true_and]at q1;obtain⟨rfl,_⟩:=q1;rw[q2];simp[Ik,h]);refine Bf func137 (h:=rfl) ⟨_,rfl,rfl,htSU,hcSU.up hwr.2 fun i hi=>by simp[hi],d1,⟨by rw[Fi hne.symm];exact hWU.w,?_,hWU.ne⟩,fun h=>absurd rfl h⟩;have:=hwr.1;unfold W5;rw[h1,I3];exact this
 ·have gt:¬tt=0:=by simpa using(show (tt==0)=false from g)
  rw[if_neg gt];exact Bf func137 (h:=rfl) ⟨_,rfl,rfl,htSU,hcSU,d1,hWU,fun _ _ _=>rfl⟩
theorem Avq(hk:VOk n c){i j:Nat}{inp:List Int}{f t:Int}{y:Bool}{s:Ad}{a b:Nd}(he:(Ia (A1 n))[i]?=some ⟨f,t,2,y,.mk 22 s 0 [a,b]⟩)(hs:Fe 0 (A3 n 32) s≥0)(ha:FE a)(ka:Fs (A3 n 31) (A3 n 32) a=true)(hb':FE b)(kb:Fs (A3 n 31) (A3 n 32) b=true) :
 DoR n bw bc V C ids c inp i j (Sq n inp c 2 y (.mk 22 s 0 [a,b])):=by
 obtain⟨iv,r,h1,h2,h3,h4⟩:=hk.row hs;have kl:=hk.kl;have hq:=Aiv n s (by omega);rw[h1]at hq;have hiv:=Aa h2;have ia:=Zl (bw:=bw) (bc:=bc) (V:=V) (C:=C) (ids:=ids) hk ha ka 0;have ib:=Zl (bw:=bw) (bc:=bc) (V:=V) (C:=C) (ids:=ids) hk hb' kb (Df n c a 0).2.2;have e0:Sq n inp c 2 y (.mk 22 s 0 [a,b])=Oh n c [a,b] fun i v d=>if A8 i 0 (((X9 n c s).length:Int)-1)=true then(Ai4 n c s i v,0,d,true)else(c,1,d,true):=rfl;rw[e0];unfold Oh;simp only;rcases hv:Df n c a 0 with⟨v,tt,d1⟩
 rw[hv]at ia ib;simp only at ib⊢;rcases hv2:Df n c b d1 with⟨v2,t2,d2⟩
 rw[hv2]at ib;simp only;intro S hW;have hbw:=Aa hW.w;have hbc:=Aa hW.c.box;have hid:=Ur hW.c;have zw:=hW.w;have gx:∀{i:Nat} {y:A7} {more:B3},S.boxes[i]?=some y→(S.boxes++more)[i]?=some y:=fun{i y more} h=>by rw[Dd (Aa h)];exact h
 have new:∀y:A7,(S.boxes++[y])[S.boxes.length]?=some y:=fun y=>by simp
 have keep:∀r:A7,((S.boxes++[[zEg]]).set S.boxes.length r)[bw]?=some [wkp n bc 0]:=fun r=>by rw[Fi (by omega)];exact gx zw
 refine Runs.run func137 ?_;refine Di 98304 (by kernel_rfl) ?_
 iterate 3 refine A0 ?_
 refine A4 (As zw) ?_
 iterate 5 refine A0 ?_
 refine D6 (fun S'=>Ca rfl rfl rfl rfl rfl rfl rfl rfl rfl (by omega) (Ge he)) ?_
 iterate 4 refine A0 ?_
 refine A4 (As zw) ?_;refine Er (Md rfl rfl) (Aq (As (gx zw)) (Aq (As (gx zw)) G6)) ?_;refine Er (Ji (r:=0) (cs:=zEg) (new _) rfl rfl) ?_ ?_
 ·intro p hp;replace hp:=(zzq35.1 hp).1;revert p;exact Aq (As (keep _)) (Aq (As (keep _)) G6)
 refine A0 ?_;refine G0 ?_;obtain⟨T,hT⟩:∃T:St,T=⟨S.boxes++[[Io (⟨f,t,2,y,.mk 22 s 0 [a,b]⟩)]],S.toks⟩:=⟨_,rfl⟩
 refine Bl T ?_ (by rw[hT];exact congrArg (fun x=>St.mk x _) (by rw[Jb _ _ (Bt _),Iw];rfl));have zE:T.boxes[S.boxes.length]?=some [Io (⟨f,t,2,y,.mk 22 s 0 [a,b]⟩)]:=by rw[hT];simp
 have hWT:WkS n T bw bc V C ids c 0:=hW.more (by rw[hT]);have hcT:Chg (bw::bc::ids) S.boxes T.boxes:=by rw[hT];exact Chg.snoc _ _ _
 have htT:T.toks=S.toks:=by rw[hT]
 refine Aw zE ?_;refine Cv ?_;refine Ej ?_;refine Aw zE ?_;refine M1 0 (by decide) (Ap (l:=[a,b]) rfl) ?_;refine Hl (ia T hWT) ?_;intro r0 U hP _ _;obtain⟨rfl,htU,hcU,hWU⟩:=hP;have zE2:=(hcU.2 _ (Aa zE) (by simp;omega)).trans zE;have hcSU:Chg (bw::bc::ids) S.boxes U.boxes:=hcT.up hcU fun i hi=>by simp at hi;simp[hi]
 have htSU:=htU.trans htT;refine Ce 60 rfl ?_;refine Gn (fun g=>?_) (fun g=>?_)
 ·have gt:¬tt=0:=by simpa using(show (tt != 0)=true from g)
  rw[if_neg gt];exact Bf func137 (h:=rfl) ⟨_,rfl,rfl,htSU,hcSU,d1,hWU,fun _ _ _=>rfl⟩
 have gt:tt=0:=by simpa using(show (tt != 0)=false from g)
 rw[if_pos gt];refine Aw zE2 ?_;refine M1 1 (by decide) (Ap (l:=[a,b]) rfl) ?_;refine Hl (ib U hWU) ?_;intro r0 W hP _ _;obtain⟨rfl,htW,hcW,hWW⟩:=hP;have zE3:=(hcW.2 _ (Aa zE2) (by simp;omega)).trans zE2;have hcSW:Chg (bw::bc::ids) S.boxes W.boxes:=hcSU.up hcW fun i hi=>by simp at hi;simp[hi]
 have htSW:=htW.trans htSU;refine Ce 60 rfl ?_;refine Gn (fun g2=>?_) (fun g2=>?_)
 ·have gt2:¬t2=0:=by simpa using(show (t2 != 0)=true from g2)
  rw[if_neg gt2];exact Bf func137 (h:=rfl) ⟨_,rfl,rfl,htSW,hcSW,d2,hWW,fun _ _ _=>rfl⟩
 have gt2:t2=0:=by simpa using(show (t2 != 0)=false from g2)
 rw[if_pos gt2];refine Di 0 (by kernel_rfl) ?_
 iterate 3 refine A0 ?_
 refine A4 (As hWW.w) ?_
 iterate 2 refine A0 ?_
 refine A4 (As zE3) ?_;refine Hz hq ?_;refine A0 ?_;refine G0 ?_;refine Hl (Apn n hWW h2 h4 v) ?_;intro r0 W' hP _ _;obtain⟨rfl,rfl⟩:=hP;refine Ce 60 rfl ?_;rw[h3];cases hbt:A8 v 0 ((r.length:Int)-1)with
 |false=>
  rw[if_neg (by decide),if_neg (by decide)];refine Ej ?_;exact Bf func137 (h:=rfl) ⟨_,rfl,rfl,htSW,hcSW,d2,hWW,fun _ _ _=>rfl⟩
 |true=>
  rw[if_pos rfl,if_pos rfl];have hb1:=Ck.1 hbt;obtain⟨jj,rfl⟩:∃jj:Nat,v=jj:=⟨v.toNat,by omega⟩
  obtain⟨bb,ys,ex,yy,hC,hyl,hb,hyy,hrow,hsl⟩:=hWW.c.row h2;have hjl:jj<r.length:=by omega
  rcases hsl with⟨b2,ex2,rfl,hb2⟩|⟨hemp,sp,rfl⟩
  ·rw[Gs]at hyy hrow;obtain⟨z,hz⟩:=Ab r hjl;have hrow2:(G5 r++ex2)[jj]?=some (Hc z):=by rw[Dd (by rw[Gs];exact hjl)];exact Dl (f:=Hc) hz
   obtain⟨hbid,hwr⟩:=hWW.c.wrC v2 h2 hjl hC hyl hb hyy hb2;subst hC;refine Cv ?_;refine Aw hWW.c.box ?_;refine Jr iv hiv hb hrow rfl ?_;refine L3 hb hrow ?_;refine Jr jj hjl hb2 hrow2 rfl ?_;refine L5 hb2 hrow2 rfl ?_;have hne:bw≠b2:=fun h=>hWW.ne.2 (h▸hbid);refine Bf func137 (h:=rfl) ⟨_,rfl,rfl,htSW,hcSW.up hwr.2 fun i hi=>by simp[hi],d2,⟨by rw[Fi hne.symm];exact hWW.w,?_,hWW.ne⟩,fun h=>absurd rfl h⟩;have:=hwr.1;unfold Ai4;rw[h1,h3,I3,I3];exact this
  ·have h0:r=[]:=by cases r with|nil=>rfl|cons a l=>simp[G5]at hemp
   subst h0;simp at hjl
theorem Ary(hk:VOk n c){i j:Nat}{inp:List Int}(hu:0≤c.used∧c.used≤100){f t:Int}{y:Bool}{s:Ad}(he:(Ia (A1 n))[i]?=some ⟨f,t,3,y,.mk 23 s 0 []⟩)(hs:Fe 0 (A3 n 31) s≥0) :
 DoR n bw bc V C ids c inp i j (Sq n inp c 3 y (.mk 23 s 0 [])):=by
 obtain⟨iv,v0,h1,h2,_⟩:=hk.var hs;have kl:=hk.kl;have hq:=X6 n s (by omega);rw[h1]at hq;have hiv:=Aa h2;have hil:=Fb inp;have e0:Sq n inp c 3 y (.mk 23 s 0 [])=if (inp.length:Int)≤c.used then(c,5,0,true)else({ W5 n c s (inp.getD c.used.toNat 0)with used:=c.used+1 },0,0,true):=rfl;rw[e0];intro S hW;have hbw:=Aa hW.w;have hbc:=Aa hW.c.box;have hid:=Ur hW.c;have zw:=hW.w;have gx:∀{i:Nat} {y:A7} {more:B3},S.boxes[i]?=some y→(S.boxes++more)[i]?=some y:=fun{i y more} h=>by rw[Dd (Aa h)];exact h
 have new:∀y:A7,(S.boxes++[y])[S.boxes.length]?=some y:=fun y=>by simp
 have keep:∀r:A7,((S.boxes++[[zEg]]).set S.boxes.length r)[bw]?=some [wkp n bc 0]:=fun r=>by rw[Fi (by omega)];exact gx zw
 refine Runs.run func137 ?_;refine Di 98304 (by kernel_rfl) ?_
 iterate 3 refine A0 ?_
 refine A4 (As zw) ?_
 iterate 5 refine A0 ?_
 refine D6 (fun S'=>Ca rfl rfl rfl rfl rfl rfl rfl rfl rfl (by omega) (Ge he)) ?_
 iterate 4 refine A0 ?_
 refine A4 (As zw) ?_;refine Er (Md rfl rfl) (Aq (As (gx zw)) (Aq (As (gx zw)) G6)) ?_;refine Er (Ji (r:=0) (cs:=zEg) (new _) rfl rfl) ?_ ?_
 ·intro p hp;replace hp:=(zzq35.1 hp).1;revert p;exact Aq (As (keep _)) (Aq (As (keep _)) G6)
 refine A0 ?_;refine G0 ?_;obtain⟨T,hT⟩:∃T:St,T=⟨S.boxes++[[Io (⟨f,t,3,y,.mk 23 s 0 []⟩)]],S.toks⟩:=⟨_,rfl⟩
 refine Bl T ?_ (by rw[hT];exact congrArg (fun x=>St.mk x _) (by rw[Jb _ _ (Bt _),Iw];rfl));have zE:T.boxes[S.boxes.length]?=some [Io (⟨f,t,3,y,.mk 23 s 0 []⟩)]:=by rw[hT];simp
 have hWT:WkS n T bw bc V C ids c 0:=hW.more (by rw[hT]);have hcT:Chg (bw::bc::ids) S.boxes T.boxes:=by rw[hT];exact Chg.snoc _ _ _
 have htT:T.toks=S.toks:=by rw[hT]
 refine Aw zE ?_;refine Cv ?_;refine Cv ?_;refine Ej ?_;refine Aw hWT.c.box ?_;refine Gn (fun g=>?_) (fun g=>?_)
 ·have g':(inp.length:Int)≤c.used:=by have:=A6 g;rw[hil]at this;exact this
  rw[if_pos g'];exact Bf func137 (h:=rfl) ⟨_,rfl,rfl,htT,hcT,0,hWT,fun _ _ h=>absurd rfl h⟩
 ·have g':¬(inp.length:Int)≤c.used:=by have:=Bd g;rw[hil]at this;exact this
  rw[if_neg g'];obtain⟨un,hun⟩:∃un:Nat,c.used=un:=⟨c.used.toNat,by omega⟩
  obtain⟨w,hw⟩:=Ab inp (i:=un) (by omega);obtain⟨bv,ex,hV,hb,hrow⟩:=hWT.c.vars h2;have hwr:=hWT.c.wrV w hiv hV hb;have hbid:bv∈ids:=by
   obtain⟨V',C',ys,q1,q2,_⟩:=hWT.c.cf.ex;simp only[AV.agg.injEq,List.cons.injEq,and_true,true_and]at q1;obtain⟨rfl,_⟩:=q1;rw[q2,hV];simp[Ik]
  have hne:bw≠bv:=fun h=>hWT.ne.2 (h▸hbid);have hnc:bc≠bv:=fun h=>hWT.c.ne (h▸hbid);subst hV;refine Di 1048576 (by kernel_rfl) ?_
  iterate 3 refine A0 ?_
  refine A4 (As hWT.c.box) ?_
  iterate 3 refine A0 ?_
  refine A4 (As hWT.w) ?_
  iterate 2 refine A0 ?_
  refine A4 (As zE) ?_;refine Hz hq ?_
  iterate 4 refine A0 ?_
  refine A4 (As hWT.c.box) ?_;refine D6 (fun S'=>Ca rfl rfl rfl rfl rfl rfl rfl rfl rfl hu.1 (by rw[hun,I3];exact Nr hw)) ?_;refine A0 ?_;refine A4 (Gp (hj:=by simpa[Hp]using hiv) (hb:=hb) (hr:=hrow) (hl:=rfl)) ?_;refine C4 (Ji hb hrow rfl) ?_;refine G0 ?_;obtain⟨hc1,hch1⟩:=hwr;obtain⟨U,hU⟩:∃U:St,U=⟨T.boxes.set bv ((Fh c.vars++ex).set iv [vi w]),T.toks⟩:=⟨_,rfl⟩
  refine Bl U ?_ hU.symm;rw[←hU]at hc1;have hcU:Chg (bw::bc::ids) S.boxes U.boxes:=by rw[hU];exact hcT.up hch1 fun i hi=>by simp[hi]
  have zwU:U.boxes[bw]?=some [wkp n bc 0]:=by rw[hU,Fi hne.symm];exact hWT.w
  refine Aw hc1.box ?_;refine Ct hc1.box rfl ?_;have hw1:IntKind.i64.wrap (c.used+1)=c.used+1:=Ac (by omega) (by omega);have hc2:=hc1.upd (c':={ c with vars:=c.vars.set iv w,used:=IntKind.i64.wrap (c.used+1) }) rfl rfl;refine Bf func137 (h:=rfl) ⟨_,rfl,rfl,by rw[hU];exact htT,hcU.up (C6 U.boxes bc _) fun i hi=>by simp at hi;simp[hi],0,⟨by rw[Fi hWT.ne.1.symm];exact zwU,?_,hWT.ne⟩,fun h=>absurd rfl h⟩;have e1:({ W5 n c s (inp.getD c.used.toNat 0)with used:=c.used+1 }:Cf)={ c with vars:=c.vars.set iv w,used:=IntKind.i64.wrap (c.used+1) }:=by
   unfold W5;rw[h1,I3,hun,I3,Ap7,hw,←hun,hw1];rfl
  rw[e1];exact hc2
theorem Aqp{inp:List Int}{x:Nd}(hx:FC x)(y:Bool):Sq n inp c 4 y x=if (Lo n c x 0).2.1=0 then(c,0,(Lo n c x 0).2.2,(Lo n c x 0).1==y)else(c,(Lo n c x 0).2.1,(Lo n c x 0).2.2,true):=by
 cases hx with
 |mk k a b h0 h1 ha hb=>
 have e0:Sq n inp c 4 y (.mk k [] 0 [a,b])=Oh n c [a,b] fun a b d=>(c,0,d,Pl k a b==y):=rfl;rw[e0];unfold Oh;by_cases g:(Df n c a 0).2.1=0
 ·by_cases g2:(Df n c b (Df n c a 0).2.2).2.1=0
  ·simp[Lo,Nd.kids,Nd.kind,g,g2]
  ·simp[Lo,Nd.kids,Nd.kind,g,g2]
 ·simp[Lo,Nd.kids,Nd.kind,g]
theorem Aqo{inp:List Int}{x:Nd}(hx:FC x)(y:Bool):Sq n inp c 5 y x=if (Lo n c x 0).2.1=0 then(if (Lo n c x 0).1=true then(c,0,(Lo n c x 0).2.2,true)else(c,4,0,true))else(c,(Lo n c x 0).2.1,(Lo n c x 0).2.2,true):=by
 cases hx with
 |mk k a b h0 h1 ha hb=>
 have e0:Sq n inp c 5 y (.mk k [] 0 [a,b])=Oh n c [a,b] fun a b d=>if Pl k a b=true then(c,0,d,true)else(c,4,0,true):=rfl;rw[e0];unfold Oh;by_cases g:(Df n c a 0).2.1=0
 ·by_cases g2:(Df n c b (Df n c a 0).2.2).2.1=0
  ·simp[Lo,Nd.kids,Nd.kind,g,g2]
  ·simp[Lo,Nd.kids,Nd.kind,g,g2]
 ·simp[Lo,Nd.kids,Nd.kind,g]
theorem Anf(hk:VOk n c){i j p:Nat}{inp:List Int}{f t:Int}{y:Bool}{x:Nd}(he:(Ia (A1 n))[i]?=some ⟨f,t,4,y,x⟩)(hx:FC x)(kx:Fs (A3 n 31) (A3 n 32) x=true)(hp:p<(D9 (A1 n)).pts)(hf:f=(p:Int))(hl:Ki Eg.f (Ia (A1 n)) p=[i,j])(hij:i<j) :
 DoR n bw bc V C ids c inp i j (Sq n inp c 4 y x):=by
 have hq:=Azk n hp he hf hl hij;rw[Aqp hx];intro S hW;have hbw:=Aa hW.w;have hbc:=Aa hW.c.box;have hid:=Ur hW.c;have zw:=hW.w;have gx:∀{i:Nat} {y:A7} {more:B3},S.boxes[i]?=some y→(S.boxes++more)[i]?=some y:=fun{i y more} h=>by rw[Dd (Aa h)];exact h
 have new:∀y:A7,(S.boxes++[y])[S.boxes.length]?=some y:=fun y=>by simp
 have keep:∀r:A7,((S.boxes++[[zEg]]).set S.boxes.length r)[bw]?=some [wkp n bc 0]:=fun r=>by rw[Fi (by omega)];exact gx zw
 refine Runs.run func137 ?_;refine Di 98304 (by kernel_rfl) ?_
 iterate 3 refine A0 ?_
 refine A4 (As zw) ?_
 iterate 5 refine A0 ?_
 refine D6 (fun S'=>Ca rfl rfl rfl rfl rfl rfl rfl rfl rfl (by omega) (Ge he)) ?_
 iterate 4 refine A0 ?_
 refine A4 (As zw) ?_;refine Er (Md rfl rfl) (Aq (As (gx zw)) (Aq (As (gx zw)) G6)) ?_;refine Er (Ji (r:=0) (cs:=zEg) (new _) rfl rfl) ?_ ?_
 ·intro p hp;replace hp:=(zzq35.1 hp).1;revert p;exact Aq (As (keep _)) (Aq (As (keep _)) G6)
 refine A0 ?_;refine G0 ?_;obtain⟨T,hT⟩:∃T:St,T=⟨S.boxes++[[Io (⟨f,t,4,y,x⟩)]],S.toks⟩:=⟨_,rfl⟩
 refine Bl T ?_ (by rw[hT];exact congrArg (fun x=>St.mk x _) (by rw[Jb _ _ (Bt _),Iw];rfl));have zE:T.boxes[S.boxes.length]?=some [Io (⟨f,t,4,y,x⟩)]:=by rw[hT];simp
 have hWT:WkS n T bw bc V C ids c 0:=hW.more (by rw[hT]);have hcT:Chg (bw::bc::ids) S.boxes T.boxes:=by rw[hT];exact Chg.snoc _ _ _
 have htT:T.toks=S.toks:=by rw[hT]
 refine Aw zE ?_;refine Cv ?_;refine Cv ?_;refine Cv ?_;refine Cv ?_;refine Ej ?_;refine Aw zE ?_;refine Hl (Apm hk hx kx 0 T hWT) ?_;intro r U hP _ _;obtain⟨rfl,htU,hcU,hWU⟩:=hP;have zE2:=(hcU.2 _ (Aa zE) (by simp;omega)).trans zE;have hcSU:Chg (bw::bc::ids) S.boxes U.boxes:=hcT.up hcU fun i hi=>by simp at hi;simp[hi]
 have htSU:=htU.trans htT;generalize Lo n c x 0=H at *;obtain⟨h,tt,d1⟩:=H;simp only at hWU⊢;refine Ce 60 rfl ?_;refine Gn (fun g=>?_) (fun g=>?_)
 ·have gt:¬tt=0:=by simpa using(show (tt != 0)=true from g)
  rw[if_neg gt];exact Bf func137 (h:=rfl) ⟨_,rfl,rfl,htSU,hcSU,d1,hWU,fun _ _ _=>rfl⟩
 have gt:tt=0:=by simpa using(show (tt != 0)=false from g)
 rw[if_pos gt];refine Aw zE2 ?_;refine R5 ?_;refine Cv ?_;refine Aw zE2 ?_;refine Uh ?_;refine Aw zE2 ?_;refine Gn (fun g2=>?_) (fun g2=>?_)
 ·have g3:(h==y)=false:=by simpa using(show (h != y)=true from g2)
  refine Aw hWU.w ?_;refine L4 hq ?_;refine Bf func137 (h:=rfl) ⟨_,rfl,?_,htSU,hcSU,d1,hWU,fun h=>absurd rfl h⟩;simp only[g3];rfl
 ·have g3:(h==y)=true:=by simpa using(show (h != y)=false from g2)
  refine Bf func137 (h:=rfl) ⟨_,rfl,?_,htSU,hcSU,d1,hWU,fun h=>absurd rfl h⟩;simp only[g3];rfl
theorem Ane(hk:VOk n c){i j:Nat}{inp:List Int}{f t:Int}{y:Bool}{x:Nd}(he:(Ia (A1 n))[i]?=some ⟨f,t,5,y,x⟩)(hx:FC x)(kx:Fs (A3 n 31) (A3 n 32) x=true):DoR n bw bc V C ids c inp i j (Sq n inp c 5 y x):=by
 rw[Aqo hx];intro S hW;have hbw:=Aa hW.w;have hbc:=Aa hW.c.box;have hid:=Ur hW.c;have zw:=hW.w;have gx:∀{i:Nat} {y:A7} {more:B3},S.boxes[i]?=some y→(S.boxes++more)[i]?=some y:=fun{i y more} h=>by rw[Dd (Aa h)];exact h
 have new:∀y:A7,(S.boxes++[y])[S.boxes.length]?=some y:=fun y=>by simp
 have keep:∀r:A7,((S.boxes++[[zEg]]).set S.boxes.length r)[bw]?=some [wkp n bc 0]:=fun r=>by rw[Fi (by omega)];exact gx zw
 refine Runs.run func137 ?_;refine Di 98304 (by kernel_rfl) ?_
 iterate 3 refine A0 ?_
 refine A4 (As zw) ?_
 iterate 5 refine A0 ?_
 refine D6 (fun S'=>Ca rfl rfl rfl rfl rfl rfl rfl rfl rfl (by omega) (Ge he)) ?_
 iterate 4 refine A0 ?_
 refine A4 (As zw) ?_;refine Er (Md rfl rfl) (Aq (As (gx zw)) (Aq (As (gx zw)) G6)) ?_;refine Er (Ji (r:=0) (cs:=zEg) (new _) rfl rfl) ?_ ?_
 ·intro p hp;replace hp:=(zzq35.1 hp).1;revert p;exact Aq (As (keep _)) (Aq (As (keep _)) G6)
 refine A0 ?_;refine G0 ?_;obtain⟨T,hT⟩:∃T:St,T=⟨S.boxes++[[Io (⟨f,t,5,y,x⟩)]],S.toks⟩:=⟨_,rfl⟩
 refine Bl T ?_ (by rw[hT];exact congrArg (fun x=>St.mk x _) (by rw[Jb _ _ (Bt _),Iw];rfl));have zE:T.boxes[S.boxes.length]?=some [Io (⟨f,t,5,y,x⟩)]:=by rw[hT];simp
 have hWT:WkS n T bw bc V C ids c 0:=hW.more (by rw[hT]);have hcT:Chg (bw::bc::ids) S.boxes T.boxes:=by rw[hT];exact Chg.snoc _ _ _
 have htT:T.toks=S.toks:=by rw[hT]
 refine Aw zE ?_;refine Cv ?_;refine Cv ?_;refine Cv ?_;refine Ej ?_;refine Aw zE ?_;refine Hl (Apm hk hx kx 0 T hWT) ?_;intro r U hP _ _;obtain⟨rfl,htU,hcU,hWU⟩:=hP;have zE2:=(hcU.2 _ (Aa zE) (by simp;omega)).trans zE;have hcSU:Chg (bw::bc::ids) S.boxes U.boxes:=hcT.up hcU fun i hi=>by simp at hi;simp[hi]
 have htSU:=htU.trans htT;generalize Lo n c x 0=H at *;obtain⟨h,tt,d1⟩:=H;simp only at hWU⊢;refine Ce 60 rfl ?_;refine Gn (fun g=>?_) (fun g=>?_)
 ·have gt:¬tt=0:=by simpa using(show (tt != 0)=true from g)
  rw[if_neg gt];exact Bf func137 (h:=rfl) ⟨_,rfl,rfl,htSU,hcSU,d1,hWU,fun _ _ _=>rfl⟩
 have gt:tt=0:=by simpa using(show (tt != 0)=false from g)
 rw[if_pos gt];refine Aw zE2 ?_;refine Uh ?_;cases h with
 |false=>
  refine Ej ?_;rw[if_neg (by simp)];exact Bf func137 (h:=rfl) ⟨_,rfl,rfl,htSU,hcSU,d1,hWU,fun _ h=>absurd rfl h⟩
 |true=>
  refine Cv ?_;rw[if_pos rfl];refine Aw zE2 ?_;refine R5 ?_;refine Cv ?_;exact Bf func137 (h:=rfl) ⟨_,rfl,rfl,htSU,hcSU,d1,hWU,fun h=>absurd rfl h⟩
end
section
variable {n:Nd}{bw bc:Nat}{V C:AV}{ids:List Nat}{c:Cf}
theorem A6v(hr:H4 n=true)(hk:VOk n c)(hu:0≤c.used∧c.used≤100){inp:List Int}{p i:Nat}{e:Eg}{l:List Eg}(hp:p<(D9 (A1 n)).pts)(hO:EdO (Ia (A1 n)) p i e l) :
 ∃j,(Ia (A1 n))[j]?=some (l.headD e)∧DoR n bw bc V C ids c inp i j (Sq n inp c e.k e.y e.n):=by
 have he:=hO.first.1;have hf:=hO.first.2.2.1;have hE:=(Aoh hr).2 e (Bn he);cases hE with
 |set f t y s a h ha ka=>cases hO with
  |one _ _ _ _ _ _=>exact⟨i,he,Avr hk he h ha ka⟩
  |two _ _ _ _ _ _ _ _ _ _ h4 _=>simp at h4
 |put f t y s a b h ha ka hb kb=>cases hO with
  |one _ _ _ _ _ _=>exact⟨i,he,Avq hk he h ha ka hb kb⟩
  |two _ _ _ _ _ _ _ _ _ _ h4 _=>simp at h4
 |read f t y s h=>cases hO with
  |one _ _ _ _ _ _=>exact⟨i,he,Ary hk hu he h⟩
  |two _ _ _ _ _ _ _ _ _ _ h4 _=>simp at h4
 |guard f t y x hx kx=>cases hO with
  |one _ _ _ _ _ h4=>exact absurd rfl h4
  |two j e2 _ _ _ _ hl hij hj _ _ _=>exact⟨j,hj,Anf hk he hx kx hp hf hl hij⟩
 |check f t y x hx kx=>cases hO with
  |one _ _ _ _ _ _=>exact⟨i,he,Ane hk he hx kx⟩
  |two _ _ _ _ _ _ _ _ _ _ h4 _=>simp at h4
 |skip f t y x=>cases hO with
  |one _ _ _ _ _ _=>exact⟨i,he,Agk (.inl rfl) he⟩
  |two _ _ _ _ _ _ _ _ _ _ h4 _=>simp at h4
 |stop f t y x=>cases hO with
  |one _ _ _ _ _ _=>exact⟨i,he,Agk (.inr rfl) he⟩
  |two _ _ _ _ _ _ _ _ _ _ h4 _=>simp at h4
def StP(n:Nd)(inp:List Int)(bc:Nat)(V C:AV)(ids:List Nat)(c:Cf)(S S':St):Prop:=S'.toks=S.toks∧Chg (bc::ids) S.boxes S'.boxes∧CfS S' bc V C ids (N1 n inp c)
theorem A3l(hr:H4 n=true)(hS:StK n c){inp:List Int}(S:St)(hc:CfS S bc V C ids c):Runs X 81 [.cptr (Oj n),.ptr bc 0 0,.sl (Fh inp) .no] S (fun r S'=>r=.tup []∧StP n inp bc V C ids c S S'):=by
 have hpts:=(Aaf hr).1;have hbc:=Aa hc.box;have hidl:=Ur hc;have okP:Ok 0 0 (.cptr (Oj n)):=(inferInstance:OK 0 0 (.cptr (Oj n))).ok;unfold StP;refine Runs.run func81 ?_;refine Xj (Avo n c hpts) (.cons (.same _ okP) (.cons (hc.fzp hS.vok.ok) .nil)) (.val _) ?_;refine Gn (fun g=>?_) (fun g=>?_)
 ·refine Bf func81 (h:=rfl) ⟨_,rfl,rfl,rfl,Chg.refl _ _,?_⟩;unfold N1;rw[if_pos g];exact hc
 have hst:c.trap=0∧¬c.steps=5000∧¬c.pt=(((D9 (A1 n)).pts:Nat):Int)-1:=by
  unfold Pu at g;simp only[T6,Bool.not_eq_false',beq_eq_false_iff_ne,zzq34,ne_eq]at g;exact⟨g.1,g.2.2,g.2.1⟩
 have hpt:=hS.pt;have hsp:=hS.steps;obtain⟨p,hp⟩:∃p:Nat,c.pt=p:=⟨c.pt.toNat,by omega⟩
 have hpp:p<(D9 (A1 n)).pts:=by omega
 obtain⟨i,e,l,hF,hO⟩:=Afp hr (p:=p) (by omega);obtain⟨he,_,hef,hix,ml,hled⟩:=hO.first;have hrow:=Adv Eg.f (Ia (A1 n)) hpp;rw[hled]at hrow;have hw1:IntKind.i64.wrap (c.steps+1)=c.steps+1:=Ac (by omega) (by omega);obtain⟨c1,hc1⟩:∃c1:Cf,c1={ c with steps:=IntKind.i64.wrap (c.steps+1) }:=⟨_,rfl⟩
 have hk1:VOk n c1:=by rw[hc1];exact⟨hS.vok.kl,hS.vok.vars,hS.vok.cells,hS.vok.rows⟩
 have hcc:({ c with steps:=c.steps+1 }:Cf)=c1:=by rw[hc1,hw1]
 obtain⟨j,hj,hdo⟩:=A6v (bw:=S.boxes.length) (bc:=bc) (V:=V) (C:=C) (ids:=ids) hr hk1 (by rw[hc1];exact hS.used) (inp:=inp) hpp hO;have hM:N1 n inp c=(if (Sq n inp c1 e.k e.y e.n).2.1=0 then{ (Sq n inp c1 e.k e.y e.n).1 with pt:=if (Sq n inp c1 e.k e.y e.n).2.2.2=true then e.t else(l.headD e).t }
  else{ (Sq n inp c1 e.k e.y e.n).1 with trap:=(Sq n inp c1 e.k e.y e.n).2.1,edge:=(i:Int),acc:=if (Sq n inp c1 e.k e.y e.n).2.1=4∨(Sq n inp c1 e.k e.y e.n).2.1=5 then 0 else(Sq n inp c1 e.k e.y e.n).2.2.1 }):=by
  unfold N1;rw[if_neg (by simp[g]),show c.pt.toNat=p by rw[hp];rfl,hF,show fIx (Ia (A1 n)) c.pt=i by rw[hp];exact hix];simp only[hcc]
 have hK:=Ajw n inp c1 e.k e.y e.n;have hq0:(Sq n inp c1 e.k e.y e.n).1.acc=0:=by rw[hK.acc,hc1];exact(hS.none hst.1).2
 generalize Sq n inp c1 e.k e.y e.n=q at *;obtain⟨c2,tt,d,st⟩:=q;simp only at hM hq0;refine Ug (b:=S.boxes.length) rfl rfl ?_;obtain⟨T,hT⟩:∃T:St,T=⟨S.boxes++[[wkp n bc 0]],S.toks⟩:=⟨_,rfl⟩
 refine Bl T ?_ hT.symm;have hcT:CfS T bc V C ids c:=hc.more (by rw[hT]);refine Di 0 (by kernel_rfl) ?_
 iterate 7 refine A0 ?_
 refine A4 (As hcT.box) ?_;refine D6 (fun S'=>Ca rfl rfl rfl rfl rfl rfl rfl rfl rfl (by omega) (by rw[hp,I3];exact hrow)) ?_;refine A0 ?_;refine D6 (fun S'=>Ca rfl rfl rfl rfl rfl rfl rfl rfl rfl (by decide) (Aic (i:=0) rfl)) ?_
 iterate 2 refine A0 ?_
 refine G0 ?_;refine Aw hcT.box ?_;refine Ct hcT.box rfl ?_;obtain⟨U,hU⟩:∃U:St,U=⟨T.boxes.set bc [En c1 V C],T.toks⟩:=⟨_,rfl⟩
 refine Bl U ?_ (by rw[hU,hc1]);have hcU:CfS U bc V C ids c1:=by rw[hU];exact hcT.upd (by rw[hc1]) (by rw[hc1])
 have hwU:WkS n U S.boxes.length bc V C ids c1 0:=⟨by rw[hU,Fi (by omega),hT];simp,hcU,by omega,fun h=>by have:=hidl _ h;omega⟩
 have hchU:Chg (bc::ids) S.boxes U.boxes:=by
  rw[hU,hT];exact(Chg.snoc (bc::ids) S.boxes _).up (C6 _ bc _) fun i hi=>by simp at hi;simp[hi]
 refine Hl (hdo U hwU) ?_;intro r W hP _ _;obtain⟨rfl,htW,hcW,d',hWW,hacc⟩:=hP;simp only at hWW hacc⊢;have hchW:Chg (bc::ids) S.boxes W.boxes:=by
  have h1:=hchU.1;exact⟨Vt hchU.1 hcW.1,fun k hk hk2=>(hcW.2 k (Ng hk h1) (by simp only[zzq8,not_or]at hk2⊢;exact⟨by omega,hk2⟩)).trans (hchU.2 k hk hk2)⟩
 have htS:W.toks=S.toks:=by rw[htW,hU,hT]
 rw[hM];refine Ce 60 rfl ?_;refine Gn (fun g2=>?_) (fun g2=>?_)
 ·have gt:tt=0:=by simpa using(show (tt==0)=true from g2)
  rw[if_pos gt];obtain⟨je,hje,hjt⟩:∃je:Eg,(Ia (A1 n))[if st=true then i else j]?=some je∧je.t=if st=true then e.t else(l.headD e).t:=by
   cases st with
   |true=>exact⟨e,he,rfl⟩
   |false=>exact⟨_,hj,rfl⟩
  refine M1 (r:=Io je) ((if st=true then i else j:Nat):Int) (Int.natCast_nonneg _) (by rw[I3];exact Ge hje) ?_;refine Ct hWW.c.box rfl ?_;refine Bf func81 (h:=rfl) ⟨_,rfl,rfl,htS,hchW.up (C6 W.boxes bc _) fun i hi=>by simp at hi;simp[hi],?_⟩;rw[←hjt];exact hWW.c.upd (c':={ c2 with pt:=je.t }) rfl rfl
 ·have gt:¬tt=0:=by simpa using(show (tt==0)=false from g2)
  rw[if_neg gt];refine Ct hWW.c.box rfl ?_;have hc5:=hWW.c.upd (c':={ c2 with trap:=tt }) rfl rfl;refine Ct hc5.box rfl ?_;have hc6:=hc5.upd (c':={ c2 with trap:=tt,edge:=(i:Int) }) rfl rfl;have hch6:Chg (bc::ids) S.boxes ((W.boxes.set bc [En { c2 with trap:=tt } V C]).set bc [En { c2 with trap:=tt,edge:=(i:Int) } V C]):=
   (hchW.up (C6 W.boxes bc _) fun i hi=>by simp at hi;simp[hi]).up (C6 _ bc _) fun i hi=>by simp at hi;simp[hi]
  by_cases h4:tt=4
  ·subst h4;refine R5 ?_;refine Cv ?_;refine Ahc func81 (h:=rfl) ⟨_,rfl,rfl,htS,hch6,?_⟩;rw[if_pos (.inl rfl)];have:({ c2 with trap:=4,edge:=(i:Int),acc:=0 }:Cf)={ c2 with trap:=4,edge:=(i:Int) }:=by rw[←hq0]
   rw[this];exact hc6
  ·refine Uh ?_ (ht:=by simpa using h4);by_cases h5:tt=5
   ·subst h5;refine Cv ?_;refine Ahc func81 (h:=rfl) ⟨_,rfl,rfl,htS,hch6,?_⟩;rw[if_pos (.inr rfl)];have:({ c2 with trap:=5,edge:=(i:Int),acc:=0 }:Cf)={ c2 with trap:=5,edge:=(i:Int) }:=by rw[←hq0]
    rw[this];exact hc6
   ·refine Ej ?_ (ht:=by simpa using h5);have hzw:((W.boxes.set bc [En { c2 with trap:=tt } V C]).set bc [En { c2 with trap:=tt,edge:=(i:Int) } V C])[S.boxes.length]?=some [wkp n bc d']:=by
     rw[Fi (by omega),Fi (by omega)];exact hWW.w
    refine Aw hzw ?_;refine Ct hc6.box rfl ?_;refine Ahc func81 (h:=rfl) ⟨_,rfl,rfl,htS,hch6.up (C6 _ bc _) fun i hi=>by simp at hi;simp[hi],?_⟩;rw[if_neg (by omega),←hacc gt h4 h5];exact hc6.upd (c':={ c2 with trap:=tt,edge:=(i:Int),acc:=d' }) rfl rfl
end
theorem Ac9{q:Bool}(n:Nd):∀{lo hi b d:Nat}{bx pre:B3},pre.length=d→TRn q lo hi bx b n→TRn q (lo+d) (hi+d) (pre++Lu d bx) (b+d) n:=by
 induction n using Nd.ind with
 |h n ih=>
 intro lo hi b d bx pre hd h;obtain⟨h1,rows,h2,h3⟩:=M5.1 h;refine M5.2 ⟨by omega,rows.map fun r=>r.map (Gx d),?_,Aaa (by simpa using V6 h3) fun i x hx=>?_⟩
 ·rw[Gz (by omega),hd,Aex,Lu,Hd,h2];rfl
 ·obtain⟨r,c,g1,⟨a1,a2,a3,rfl,g2⟩,g4⟩:=Si h3 i x hx;exact⟨_,c+d,by rw[Hd,g1];rfl,⟨a1,a2,a3,by simp[Gx],g2⟩,ih x (Bn hx) hd g4⟩
abbrev ndB(b:Nat)(n:Nd):AV:=.agg [vi n.kind,str n.name,vi n.num,.bsl b n.kids.length]
def TrG(n:Nd)(r:AV)(bx:B3):Prop:=∃b,r=ndB b n∧TRn true 0 bx.length bx b n
def A6i(l:List Nd)(r:AV)(bx:B3):Prop:=∃b,r=.bsl b l.length∧TRn true 0 bx.length bx b (.mk 0 [] 0 l)
theorem Auo{d b:Nat}(n:Nd):Sh d (ndB b n) (ndB (b+d) n):=.aggL (.cons (.val _) (.cons (.val _) (.cons (.val _) (.cons (.bsl b _) .nil))))
theorem Axf{q:Bool}{lo hi b:Nat}{bx:B3}(n:Nd):TRn q lo hi bx b (.mk 0 [] 0 n.kids)↔TRn q lo hi bx b n:=by rw[M5,M5];rfl
theorem A0i(l:List Nd)(hl:l.length≤1000000000)(ih:∀x,x∈l→Gives X 12 [nd x] (TrG x)):Gives X 51 [.sl (Av l) .no] (A6i l):=by
 refine Gives.run func51 ?_;refine Bs (Jz (n:=(Av l).length) (b:=0) (by rw[Ae];exact hl) rfl rfl rfl rfl rfl rfl rfl rfl rfl rfl) ?_;refine I6 (ι:=Nat×St) (fun i=>i.1≤l.length∧∃rows,i.2.boxes[0]?=some rows∧rows.length=l.length∧(∀(j:Nat) x,j<i.1→l[j]?=some x→∃r c,rows[j]?=some r∧Aw8 true x r c∧TRn true 1 i.2.boxes.length i.2.boxes c x)∧∀j:Nat,i.1≤j→j<l.length→rows[j]?=some zN)
  (fun i=>[(4,vi i.1),(3,.bsl 0 l.length),(0,.sl (Av l) .no)]) (fun i=>i.2) (fun i=>l.length-i.1) ?_ (0,⟨[List.replicate (Av l).length zN],[]⟩)
  ⟨Cb _,_,rfl,by rw[List.length_replicate,Ae],fun j x h=>absurd h (Aeu _),fun j _ hj=>by rw[Aln,if_pos (by rw[Ae];exact hj)]⟩ ⟨rfl,by rw[←Ae l];rfl,rfl,trivial⟩ rfl
 intro i hi IH;obtain⟨i,S1⟩:=i;obtain⟨hi,rows,hb,hrl,hdone,hleft⟩:=hi;simp only at hi hb hdone hleft;refine Cp (fun h=>?_) (fun h=>?_)
 ·have hlt:i<l.length:=by have:=A6 h;rw[Ae]at this;simp only at this;omega
  obtain⟨x,hx⟩:=Ab l hlt;refine Bv i (by omega) (Ap hx) ?_;refine Oe (ih x (Bn hx)) (.cons (.same _ (inferInstance:OK 0 0 (nd x)).ok) .nil) ?_;intro r bx hP;obtain⟨b,rfl,hT⟩:=hP;refine⟨ndB (b+S1.boxes.length) x,Lu S1.boxes.length bx,Auo x,Jw _ _,?_⟩;have hT2:=Ac9 x (pre:=S1.boxes) rfl hT;have hb2:(S1.boxes++Lu S1.boxes.length bx)[0]?=some rows:=by rw[Dd (Aa hb)];exact hb
  have hz:=hleft i (Bt _) hlt;have h1:1≤S1.boxes.length:=Aa hb;refine Jr i hlt hb2 hz rfl ?_;refine L5 hb2 hz rfl ?_;refine IH (i+1,_) ⟨hlt,_,Ez (Aa hb2),by rw[List.length_set];exact hrl,fun j y hj hy=>?_,fun j hj hjl=>?_⟩ (by simp only;omega) _ _ ⟨Ci ((Ac (by omega) (by omega)).trans (by simp only;omega)),rfl,rfl,trivial⟩ rfl
  ·by_cases hji:j=i
   ·subst hji;rw[hx]at hy;cases hy;refine⟨_,b+S1.boxes.length,Ez (by omega),⟨_,_,_,rfl,fun _=>rfl⟩,Sg x (by omega) (by simp[O0];omega) (fun k z hk _ hz=>?_) hT2⟩;show ((S1.boxes++Lu S1.boxes.length bx).set 0 _)[k]?=_;rw[Fi (by omega)];exact hz
   ·obtain⟨r,c,g1,g2,g3⟩:=hdone j y (by simp only at hj;omega) hy;refine⟨r,c,by rw[Fi (Ne.symm hji)];exact g1,g2,Sg y (Bt _) (by simp) (fun k z hk hk2 hz=>?_) g3⟩;show ((S1.boxes++Lu S1.boxes.length bx).set 0 _)[k]?=_;rw[Fi (by omega),Dd hk2];exact hz
  ·simp only at hj;rw[Fi (by omega)];exact hleft j (by omega) hjl
 ·have:i=l.length:=by have:=Bd h;rw[Ae]at this;simp only at this;omega
  subst this;refine Bf func51 (h:=rfl) ⟨_,rfl,0,rfl,M5.2 ⟨⟨Cb _,Aa hb⟩,rows,hb,Aaa hrl fun j x hx=>?_⟩⟩;obtain⟨r,c,g1,g2,g3⟩:=hdone j x (Aa hx) hx;exact⟨r,c,g1,g2,Sg x (Cb _) (Bt _) (fun _ _ _ _ h=>h) g3⟩
theorem A35(n:Nd)(hn:Al n≤1000000000):Gives X 12 [nd n] (TrG n):=by
 induction n using Nd.ind with
 |h n ih=>
 have hcn:=Co n;have hll:=Bq n.kids;refine Gives.run func12 ?_;refine Oe (A0i n.kids (by omega) (fun x hx=>ih x hx (by have:=Fc hx;omega))) (.cons (.same _ (inferInstance:OK 0 0 (.sl (Av n.kids) .no)).ok) .nil) ?_;intro r bx hP;obtain⟨b,rfl,hT⟩:=hP;refine⟨.bsl (b+3) n.kids.length,Lu 3 bx,.bsl b _,Jw _ _,?_⟩;refine Ba 100 rfl ?_;refine Bf func12 (h:=rfl) ⟨_,rfl,b+3,rfl,?_⟩;refine Sg n (Cb _) ?_ (fun _ _ _ _ h=>h) (Ac9 n (d:=3) (bx:=bx) (pre:=[_,_,_]) rfl ((Axf n).1 hT));simp[O0]
def InG(l:List Int)(r:AV)(bx:B3):Prop:=∃b,r=.bsl b l.length∧bx[b]?=some (Fh l)
theorem Awb(l:List Int)(hl:l.length≤1000000000):Gives X 20 [.sl (Fh l) .no] (InG l):=by
 have hlen:=Fb l;refine Gives.run func20 ?_;refine Bs (Jz (n:=(Fh l).length) (b:=0) (by rw[hlen];exact hl) rfl rfl rfl rfl rfl rfl rfl rfl rfl rfl) ?_;refine Ar (ι:=Nat) 1 0 (fun i=>i≤l.length) (fun i=>[(4,vi i),(3,.bsl 0 l.length),(0,.sl (Fh l) .no)]) (fun i=>⟨[cpR Lq [vi 0] l i],[]⟩) (fun i=>l.length-i) ?_ 0 (Cb _)
  ⟨rfl,by rw[←hlen];rfl,rfl,trivial⟩ (congrArg (fun b=>St.mk [b] []) (Yu Lq [vi 0] l).symm)
 intro i hi IH;refine Cp (fun h=>?_) (fun h=>?_)
 ·have hlt:i<l.length:=by have:=A6 h;rw[hlen]at this;omega
  obtain⟨x,hx⟩:=Ab l hlt;have hr:=Yt Lq [vi 0] hlt;refine Bv i (by omega) (Dl (f:=Lq) hx) ?_;refine R4 i hlt hr ?_;refine Xk hr ?_;refine IH (i+1) hlt (by omega) _ _ ⟨vsx (by omega),rfl,rfl,trivial⟩ ?_ rfl rfl;exact congrArg (fun b=>St.mk [b] []) (Yv Lq [vi 0] hx)
 ·have:i=l.length:=by have:=Bd h;rw[hlen]at this;omega
  subst this;refine Bf func20 (h:=rfl) ⟨_,rfl,0,rfl,?_⟩;show some (cpR Lq [vi 0] l l.length)=_;rw[Ys];rfl
theorem Aja(bx:B3):CfB SlG bx (.agg [vi 0,.sl [] .tight,.sl [] .tight,vi 0,vi 0,vi 0,vi 0,vi 0]) [] zC:=
 ⟨.sl [] .tight,.sl [] .tight,[],rfl,rfl,.nil,.inr ⟨rfl,rfl,rfl⟩,.inr ⟨rfl,rfl,rfl⟩,rfl,fun j y l h=>by simp at h⟩
structure BgI (ss ls:List Int)(i:List Nat×Nat):Prop where
 len:i.1.length≤ss.length
 u:i.2≤ls.length
 eq:bgM ss ls=(bgM (ss.drop i.1.length) (ls.drop i.2)).map (i.1++·)
 small:∀c,c∈i.1→c≤1000000
theorem Axs{α:Type}{l:List α}{i:Nat}{x:α}(h:l[i]?=some x):l.drop i=x::l.drop (i+1):=by
 obtain⟨h1,h2⟩:=zzq99.1 h;rw[Ap5 h1,h2]
theorem SlB.given{bx:B3}{x:AV}{rows:A7}(h:SlB bx x rows):SlG bx x rows:=by
 rcases h with h|⟨rfl,sp,rfl⟩
 ·exact .inl h
 ·exact .inr ⟨rfl,rfl,rfl⟩
theorem CfB.given{bx:B3}{x:AV}{ids:List Nat}{c:Cf}(h:CfB SlB bx x ids c):CfB SlG bx x ids c:=by
 obtain⟨V,C,ys,h1,h2,h3,h4,h5,h6,h7⟩:=h.ex;exact⟨V,C,ys,h1,h2,h3,h4.given,h5.given,h6,fun j y l hy hl=>(h7 j y l hy hl).given⟩
theorem CfB.parts{Sl:B3→AV→A7→Prop}{bx:B3}{x:AV}{ids:List Nat}{c:Cf}(h:CfB Sl bx x ids c):∃V C,x=.agg [vi c.pt,V,C,vi c.used,vi c.steps,vi c.trap,vi c.edge,vi c.acc]:=by
 obtain⟨V,C,ys,h1,_⟩:=h.ex;exact⟨V,C,h1⟩
theorem CfB.shapes{bx:B3}{V C:AV}{a1 a2 a3 a4 a5 a6:Int}{ids:List Nat}{c:Cf}(h:CfB SlB bx (.agg [vi a1,V,C,vi a2,vi a3,vi a4,vi a5,vi a6]) ids c):((∃b n,V=.bsl b n)∨∃sp,V=.sl [] sp)∧((∃b n,C=.bsl b n)∨∃sp,C=.sl [] sp):=by
 obtain⟨V',C',ys,h1,h2,h3,h4,h5,h6,h7⟩:=h.ex;simp only[AV.agg.injEq,List.cons.injEq]at h1;obtain⟨_,rfl,rfl,_⟩:=h1;exact⟨h4.shape,h5.shape⟩
theorem CfB.ltG{bx:B3}{x:AV}{ids:List Nat}{c:Cf}(h:CfB SlG bx x ids c):∀i,i∈ids→i<bx.length:=by
 obtain⟨V,C,ys,_,rfl,_,h4,h5,h6,h7⟩:=h.ex;have key:∀{y:AV} {rows:A7},SlG bx y rows→∀i,i∈Ik y→i<bx.length:=fun{y rows} hy i hi=>by
  rcases hy with⟨b,ex,rfl,h⟩|⟨_,_,h⟩
  ·simp[Ik]at hi;subst hi;exact Aa h
  ·rw[h]at hi;cases hi
 intro i hi;simp only[zzq26,zzq100]at hi;rcases hi with h|h|⟨y,hy,hi⟩
 ·exact key h4 i h
 ·exact key h5 i h
 ·obtain⟨j,hj⟩:=B9 hy;obtain⟨l,hl⟩:=Ab c.cells (i:=j) (by rw[←h6];exact Aa hj);exact key (h7 j y l hj hl) i hi
theorem F8{bx:B3}{V C:AV}{ids:List Nat}{c:Cf}(h:CfB SlB bx (.agg (En c V C)) ids c):cellsOf (.agg (En c V C))=some (En c V C):=by
 rcases h.shapes with⟨⟨v1,v2,rfl⟩|⟨v1,rfl⟩,⟨c1,c2,rfl⟩|⟨c1,rfl⟩⟩<;>rfl
def CcG(cells:List (List (Bool×Int)))(r:AV)(bx:B3):Prop:=
 ∃ys:An,SlG bx r (ys.map fun y=>[y])∧ys.length=cells.length∧(∀(j:Nat) (y:AV) (l:List (Bool×Int)),ys[j]?=some y→cells[j]?=some l→SlG bx y (G5 l))∧(Ik r++ys.flatMap Ik).Nodup∧∀b,b∈Ik r++ys.flatMap Ik→b<bx.length
structure CcI (cells:List (List (Bool×Int)))(S:St)(ys:List AV):Prop where
 len:ys.length≤cells.length
 rows:∀(j:Nat) (y:AV) (l:List (Bool×Int)),ys[j]?=some y→cells[j]?=some l→SlB S.boxes y (G5 l)
 nd:(ys.flatMap Ik).Nodup
 lt:∀b,b∈ys.flatMap Ik→b<S.boxes.length
 not:∀y,y∈ys→NoT y
theorem CcI.nil(cells:List (List (Bool×Int)))(S:St):CcI cells S []:=⟨Cb _,fun j y l h=>by simp at h,.nil,fun b h=>by simp at h,fun y h=>by cases h⟩
theorem CcI.snoc{cells:List (List (Bool×Int))}{S S':St}{ys:An}{y:AV}{l:List (Bool×Int)}{m:B3}(h:CcI cells S ys)(hl:cells[ys.length]?=some l)(hb:S'.boxes=S.boxes++m)(hy:SlB S'.boxes y (G5 l))(hn:(Ik y).Nodup)(hge:∀b,b∈Ik y→S.boxes.length≤b)(ht:NoT y):CcI cells S' (ys++[y]):=by
 refine⟨by have:=Aa hl;simp;omega,fun j z q hz hq=>?_,?_,fun b hb'=>?_,fun z hz=>?_⟩
 ·rcases getElem?_snoc hz with hz|⟨hj,rfl⟩
  ·rw[hb];exact(h.rows j z q hz hq).more
  ·subst hj;rw[hl]at hq;cases hq;exact hy
 ·rw[Aep];simp only[List.flatMap_cons,List.flatMap_nil,I4];exact zzq101.2 ⟨h.nd,hn,fun a ha b hb'=>by have:=h.lt a ha;have:=hge b hb';omega⟩
 ·rw[Aep]at hb';simp only[List.flatMap_cons,List.flatMap_nil,I4,zzq26]at hb';rcases hb' with h1|h1
  ·have:=h.lt b h1;rw[hb];simp;omega
  ·exact hy.lt b h1
 ·rcases zzq26.1 hz with hz|hz
  ·exact h.not z hz
  ·simp at hz;subst hz;exact ht
theorem CcI.give{cells:List (List (Bool×Int))}{S:St}{ys:An}(h:CcI cells S ys)(hl:ys.length=cells.length){r:AV}{m:B3}(hr:(ys=[]∧Gx 0 r=.sl [] .no∧Ik r=[])∨∃ex,r=.bsl S.boxes.length ys.length∧m=[ys.map (fun y=>[y])++ex]):CcG cells r (S.boxes++m):=by
 refine⟨ys,?_,hl,fun j y l hy hl=>(h.rows j y l hy hl).more.given,?_,fun b hb=>?_⟩
 ·rcases hr with⟨rfl,h1,h2⟩|⟨ex,rfl,rfl⟩
  ·exact .inr ⟨rfl,h1,h2⟩
  ·exact .inl ⟨S.boxes.length,ex,by simp,by simp⟩
 ·rcases hr with⟨_,_,h2⟩|⟨ex,rfl,rfl⟩
  ·rw[h2];exact h.nd
  ·exact zzq101.2 ⟨by simp[Ik],h.nd,fun a ha b hb=>by simp[Ik]at ha;subst ha;have:=h.lt b hb;omega⟩
 ·rcases zzq26.1 hb with h1|h1
  ·rcases hr with⟨_,_,h2⟩|⟨ex,rfl,rfl⟩
   ·rw[h2]at h1;cases h1
   ·simp[Ik]at h1;subst h1;simp
  ·have:=h.lt b h1;simp;omega
theorem Abt(cells:List (List (Bool×Int)))(hcl:cells.length≤1000000000)(hcx:∀x,x∈cells→x.length≤1000000000):Gives X 182 [.sl (H9 cells) .no] (CcG cells):=by
 have hlen:=Mi cells;refine Gives.run func182 ?_;refine Aso 3 ?_;refine I6 (ι:=St×An) (fun i=>i.1.toks=[i.2.length]∧CcI cells i.1 i.2) (fun i=>[(4,vi i.2.length),(3,.psl (i.2.map fun y=>[y]) 0 i.2.length),(0,.sl (H9 cells) .no)]) (fun i=>i.1) (fun i=>cells.length-i.2.length) ?_ (⟨[],[0]⟩,[])
  ⟨rfl,CcI.nil _ _⟩ ⟨rfl,rfl,rfl,trivial⟩ rfl
 intro i hi IH;obtain⟨S1,ys⟩:=i;obtain⟨htk,hI⟩:=hi;simp only at htk hI;refine Cp (fun g=>?_) (fun g=>?_)
 ·have hlt:ys.length<cells.length:=by have:=A6 g;rw[hlen]at this;simp only at this;omega
  obtain⟨l,hl⟩:=Ab cells hlt;have hll:=hcx l (Bn hl);have hcr:=Gs l;refine M1 ys.length (by omega) (Dl (f:=Oa) hl) ?_;cases hle:l with
  |nil=>
   subst hle;refine Hg Um rfl rfl ?_;refine Ce 60 rfl ?_;refine Hg (Pe (ver:=ys.length) (res:=(ys++[AV.sl [] .tight]).map fun y=>[y]) (by simp only[htk];rfl) (fun r hr=>by obtain⟨y,_,rfl⟩:=zzq50.1 hr;rfl) (fun r hr x hx=>by simp at hr;subst hr;simp at hx;subst hx;exact(.sl _ _ (fun r h=>by cases h) fun t h=>by cases h)) (by simp;omega) (by simp) rfl rfl rfl rfl rfl rfl rfl rfl rfl rfl rfl rfl rfl rfl rfl rfl rfl) rfl rfl ?_;refine Ce 60 rfl ?_;refine IH (⟨S1.boxes++[],[ys.length+1]⟩,ys++[AV.sl [] .tight]) ⟨by simp,hI.snoc hl rfl (.inr ⟨rfl,.tight,rfl⟩) .nil (fun b h=>by cases h) (.sl _ _ (fun r h=>by cases h) fun t h=>by cases h)⟩ (by simp;omega) _ _ ⟨Ci ?_,by simp;rfl,rfl,trivial⟩ (by simp[htk])
   ·rw[Ac (by simp only;omega) (by simp only;omega)];simp
  |cons a l'=>
   rw[←hle];refine Qs (new:=G5 l) (fun cc=>?_) ?_ ?_ ?_ ?_
   ·skip
    refine Ce 60 rfl ?_;refine Hg (Pe (ver:=ys.length) (res:=(ys++[AV.bsl S1.boxes.length (G5 l).length]).map fun y=>[y]) (by simp only[htk];rfl) (fun r hr=>by obtain⟨y,_,rfl⟩:=zzq50.1 hr;rfl) (fun r hr x hx=>by simp at hr;subst hr;simp at hx;subst hx;exact(.bsl _ _)) (by simp;omega) (by simp) rfl rfl rfl rfl rfl rfl rfl rfl rfl rfl rfl rfl rfl rfl rfl rfl rfl) rfl rfl ?_;refine Ce 60 rfl ?_;refine IH (⟨S1.boxes++[G5 l++List.replicate cc [vb false,vi 0]],[ys.length+1]⟩,ys++[AV.bsl S1.boxes.length (G5 l).length]) ⟨by simp,hI.snoc hl rfl (.inl ⟨S1.boxes.length,List.replicate cc [vb false,vi 0],rfl,by simp⟩) (by simp[Ik]) (fun b h=>by simp[Ik]at h;omega) (.bsl _ _)⟩ (by simp;omega) _ _ ⟨Ci ?_,by simp;rfl,rfl,trivial⟩ (by simp[htk])
    ·rw[Ac (by simp only;omega) (by simp only;omega)];simp
   ·exact fun r hr=>by obtain⟨z,_,rfl⟩:=zzq50.1 hr;rfl
   ·exact fun r hr x hx=>by obtain⟨z,_,rfl⟩:=zzq50.1 hr;simp at hx;rcases hx with rfl|rfl<;>rfl
   ·rw[hle];simp[G5]
   ·omega
 ·have he:ys.length=cells.length:=by have:=Bd g;rw[hlen]at this;simp only at this;have:=hI.len;omega
  by_cases hne:ys=[]
  ·subst hne;refine Bf func182 (h:=rfl) ⟨_,rfl,?_⟩;have:=hI.give he (r:=.psl [] 0 0) (m:=[]) (.inl ⟨rfl,rfl,rfl⟩);rw[I4]at this;exact this
  ·refine A1f 2 (rows:=ys.map fun y=>[y]) (t:=0) (v:=ys.length) (m:=S1.boxes.length) (n:=ys.length) (by simpa using hne) (fun k z=>?_) (hS:=by simp only[htk];rfl) (hn:=by simp);refine Bf func182 (h:=rfl) ⟨_,rfl,?_⟩;exact hI.give he (.inr ⟨_,rfl,rfl⟩)
theorem Ayw(c:Cf)(hc:CfOk c):Gives X 122 [cf c] (fun r bx=>∃ids,CfB SlG bx r ids c):=by
 have hcv:=hc.vars;have hvl:=Fb c.vars;refine Gives.run func122 ?_;cases hv:c.vars with
 |nil=>
  refine Hg Um rfl rfl ?_;refine Ba 100 rfl ?_;refine Oe (Abt c.cells hc.cells hc.rows) (.cons (.same _ (inferInstance:OK 0 0 (.sl (H9 c.cells) .no)).ok) .nil) ?_;intro r bx hP;obtain⟨ys,h1,h2,h3,h4,h5⟩:=hP;refine⟨Gx 2 r,Lu 2 bx,Od _ _,Jw _ _,?_⟩;have hH:=fun a b=>h1.held (pre:=[a,b]);have hR:∀a b,CfB SlB (a::b::Lu 2 bx) (.agg (En c (.sl [] .tight) (Gx 2 r))) (Ik (.sl [] .tight)++(Ik r++ys.flatMap Ik).map (·+2)) c:=fun a b=>
   ⟨(.sl [] .tight),Gx 2 r,ys.map (Gx 2),rfl,by simp only[Jp,Ze,List.map_flatMap,List.flatMap_map],(by simp only[Ik,T8];exact List.Pairwise.map _ (fun a b h=>by simp only[ne_eq]at h⊢;omega) h4),(.inr ⟨by rw[hv];rfl,.tight,rfl⟩),by have:=hH a b;rw[Z2]at this;rw[Z2];exact this,by simpa using h2,fun j y l hy hl=>by
     rw[Hd]at hy;cases hy':ys[j]? with
     |none=>rw[hy']at hy;cases hy
     |some y0=>
      rw[hy']at hy;cases hy;have:=(h3 j y0 l hy' hl).held (pre:=[a,b]);rw[Je]at this;exact this⟩
  have hsh:=(hR [] []).shapes;generalize hr2:Gx 2 r=r2 at *;rcases hsh.2 with⟨c1,c2,rfl⟩|⟨c1,rfl⟩ <;>
  ·refine Ba 100 rfl ?_;exact Bf func122 (h:=rfl) ⟨_,rfl,_,(hR _ _).given⟩
 |cons q ll=>
  refine Qs (new:=Fh (q::ll)) (fun cc=>?_) ?_ ?_ ?_ ?_
  ·refine Ba 100 rfl ?_;refine Oe (Abt c.cells hc.cells hc.rows) (.cons (.same _ (inferInstance:OK 0 0 (.sl (H9 c.cells) .no)).ok) .nil) ?_;intro r bx hP;obtain⟨ys,h1,h2,h3,h4,h5⟩:=hP;refine⟨Gx 3 r,Lu 3 bx,Od _ _,Jw _ _,?_⟩;have hH:=fun a b=>h1.held (pre:=[a,b,Fh (q::ll)++List.replicate cc [vi 0]]);have hR:∀a b,CfB SlB (a::b::(Fh (q::ll)++List.replicate cc [vi 0])::Lu 3 bx) (.agg (En c (.bsl 2 (Fh (q::ll)).length) (Gx 3 r))) (Ik (.bsl 2 (Fh (q::ll)).length)++(Ik r++ys.flatMap Ik).map (·+3)) c:=fun a b=>
    ⟨(.bsl 2 (Fh (q::ll)).length),Gx 3 r,ys.map (Gx 3),rfl,by simp only[Jp,Ze,List.map_flatMap,List.flatMap_map],(zzq101.2 ⟨by simp[Ik],List.Pairwise.map _ (fun a b h=>by simp only[ne_eq]at h⊢;omega) h4,fun x hx y hy=>by simp[Ik]at hx;obtain⟨z,_,rfl⟩:=zzq50.1 hy;omega⟩),(.inl ⟨2,List.replicate cc [vi 0],by rw[hv],by rw[hv];rfl⟩),by have:=hH a b;rw[Z2]at this;rw[Z2];exact this,by simpa using h2,fun j y l hy hl=>by
      rw[Hd]at hy;cases hy':ys[j]? with
      |none=>rw[hy']at hy;cases hy
      |some y0=>
       rw[hy']at hy;cases hy;have:=(h3 j y0 l hy' hl).held (pre:=[a,b,Fh (q::ll)++List.replicate cc [vi 0]]);rw[Je]at this;exact this⟩
   have hsh:=(hR [] []).shapes;generalize hr2:Gx 3 r=r2 at *;rcases hsh.2 with⟨c1,c2,rfl⟩|⟨c1,rfl⟩ <;>
   ·refine Ba 100 rfl ?_;exact Bf func122 (h:=rfl) ⟨_,rfl,_,(hR _ _).given⟩
  ·exact fun r hr=>by obtain⟨z,_,rfl⟩:=zzq50.1 hr;rfl
  ·exact fun r hr x hx=>by obtain⟨z,_,rfl⟩:=zzq50.1 hr;simp at hx;subst hx;rfl
  ·simp[Fh]
  ·rw[hv]at hvl hcv;omega
end Go.V
