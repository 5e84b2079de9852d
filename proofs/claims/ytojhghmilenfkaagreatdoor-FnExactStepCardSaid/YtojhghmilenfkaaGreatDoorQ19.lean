/- A part of the proof of the claim that the last text states: no condition of its own. -/
import Derived.Test.YtojhghmilenfkaaGreatDoorQ18
set_option linter.unusedVariables false
set_option linter.unusedSimpArgs false
namespace Go.V
open Go Go.Proofs Go.Proofs.Tryz
theorem A4d{n:Nd}{c:Cf}(hv:VOk n c):CfOk c∧Po c≤100000000000:=by
 have h1:=hv.vars;have h2:=hv.cells;have h3:=Ht n 31;have h4:=Ht n 32;have h5:=hv.kl;have h6:(I1 c.cells).sum≤1000000*(I1 c.cells).length:=A3w fun x hx=>by
  obtain⟨r,hr,rfl⟩:=zzq50.1 hx;have:=hv.rows r hr;omega
 have h7:(I1 c.cells).length=c.cells.length:=by simp[I1]
 exact⟨hv.ok,by unfold Po;omega⟩
theorem A3v(n:Nd)(c:Cf)(inp:List Int):CfOk (spM n c inp)∧Po (spM n c inp)≤100000000000:=by
 unfold spM;split
 ·rename_i h;simp only[Du]at h;obtain⟨hr,hS⟩:=Al4 h.1;have hil2:inp.length≤100:=by
   have:=h.2;unfold Ab8 at this;simp only[Du,Mz]at this;omega
  exact A4d (Ak3 hr hS hil2).vok
 ·exact⟨⟨by simp[zC],by simp[zC],fun x hx=>by simp[zC]at hx⟩,by simp[zC,Po,I1]⟩
theorem Ao0:∀l:List (List (Bool×Int)),(I1 l).sum=swC l
 |[]=>rfl
 |x::l=>by
  have:=Ao0 l;simp only[I1,swC,Om,List.sum_cons]at this⊢;omega
theorem A1e{X:Cx}{B:Bx}{it:Item}{k:List Item}{F:Cw}{S:St}{R:AE→St→Prop}{Q:Cw→St→Prop}(h:∀k,(∀F' S',Q F' S'→AK X B k F' S' R)→AK X B (it::k) F S R)(hk:∀F' S',Q F' S'→AK X B k F' S' R):AK X B (it::k) F S R:=h k hk
set_option maxHeartbeats 1000000 in
theorem A30(n:Nd)(c:Cf)(li:List Int)(hpn:PrI n)(hln:LnI n)(hlc:CfLn c)(hli:li.length≤9223372036854775807):Pure X 8 [nd n,cf c,.sl (Fh li) .no] (vb true):=by
 have hzli:=Fb li;refine Pure.run func8 ?_;refine Ai (fun g9=>?_) (fun g9=>?_)
 ·exact Ao func8 rfl
 have hli2:li.length≤1048576:=by have:=Bd g9;rw[hzli]at this;omega
 refine Aj (A6y n hln 1048576 (by omega) (by omega)) ?_;refine Ai (fun g=>?_) (fun g=>?_)
 ·exact Ao func8 rfl
 have g1:=Zs (show 0≤N2 (swN n) 1048576 by have:=Bd g;omega);refine Aj (A32 c hlc (N2 (swN n) 1048576) (by omega) (by omega)) ?_;refine Ai (fun g2=>?_) (fun g2=>?_)
 ·exact Ao func8 rfl
 have g3:=Zs (show 0≤N2 (Anr c) (N2 (swN n) 1048576) by have:=Bd g2;omega);have w1:=A6a.1 n;have c1:=Pi n;have g4:Anr c≤1048576:=by omega
 unfold Anr at g4;have hc:CfOk c:=⟨by omega,by omega,fun x hx=>by have:=A3x hx;omega⟩
 have hcm:Po c≤10000000:=by unfold Po;rw[Ao0];omega
 have hcn:Al n≤1000000000:=by omega
 obtain⟨hW,hWn⟩:=A3v n c li;have hmc:mcN n≤10000000000:=by have:=A5g.1 n;omega
 refine Eo 384 ?_;refine B2 (A0f n hcn) ?_;refine B2 (Ai8 c hc) ?_;refine B2 (Ala li (by omega)) ?_;refine B2 (A20 n (by omega) c hc li (by omega)) ?_;refine Er (Md rfl rfl) (Aq (Cy rfl rfl rfl) (Aq (Cy rfl rfl rfl) G6)) ?_;refine C4 (Bg rfl rfl rfl rfl rfl rfl rfl) ?_;refine Bu ?_;have hq:=A29 n (by omega) hpn c hc li (by omega);generalize spM n c li=W at *;have gx:∀{bx more:B3} {i:Nat} {y:A7},bx[i]?=some y→(bx++more)[i]?=some y:=fun{bx more i y} h=>by rw[Dd (Aa h)];exact h
 have new:∀(bx:B3) (y:A7),(bx++[y])[bx.length]?=some y:=fun bx y=>by simp
 have okW:Ok 0 0 (cf W):=(inferInstance:OK 0 0 (cf W)).ok;have okC:Ok 0 0 (cf c):=(inferInstance:OK 0 0 (cf c)).ok;have okN:Ok 0 0 (nd n):=(inferInstance:OK 0 0 (nd n)).ok;have okL:Ok 0 0 (.sl (Fh li) .no):=(inferInstance:OK 0 0 (.sl (Fh li) .no)).ok;have hin:∀x,Ok 0 0 (vi x):=fun x=>.val _;refine Oe (A35 n hcn) (.cons (.same _ okN) .nil) ?_;intro r bx1 hP;obtain⟨b,rfl,hT⟩:=hP;refine⟨ndB (b+3) n,Lu 3 bx1,Auo n,Jw _ _,?_⟩;obtain⟨S1,hS1⟩:∃S1:St,S1=⟨[Ag n]::[G3 c]::[G3 W]::Lu 3 bx1,[]⟩:=⟨_,rfl⟩
 refine Bl S1 ?_ hS1.symm;have hT1:TRn true 3 S1.boxes.length S1.boxes (b+3) n:=by
  rw[hS1];exact Sg n (by omega) (by simp[O0]) (fun _ _ _ _ h=>h) (Ac9 n (d:=3) (pre:=[[Ag n],[G3 c],[G3 W]]) rfl hT)
 have z0:S1.boxes[0]?=some [Ag n]:=by rw[hS1];rfl
 have zc:S1.boxes[1]?=some [G3 c]:=by rw[hS1];rfl
 have z1:S1.boxes[2]?=some [G3 W]:=by rw[hS1];rfl
 have l1:3≤S1.boxes.length:=by rw[hS1];simp
 have rz:([zN]:A7)[0]?=some zN:=rfl;refine M0 rfl rfl ?_;refine L5 (new _ _) rz rfl ?_;obtain⟨S2,hS2⟩:∃S2:St,S2=⟨S1.boxes++[[[vi n.kind,str n.name,vi n.num,.bsl (b+3) n.kids.length]]],S1.toks⟩:=⟨_,rfl⟩
 refine Bl S2 ?_ (by rw[hS2];exact congrArg (fun x=>St.mk x _) (Zn _ _ _));have l2:S2.boxes.length=S1.boxes.length+1:=by rw[hS2];simp
 have up2:∀{i:Nat} {y:A7},S1.boxes[i]?=some y→S2.boxes[i]?=some y:=fun h=>by rw[hS2];exact gx h
 have z8:S2.boxes[S1.boxes.length]?=some [[vi n.kind,str n.name,vi n.num,.bsl (b+3) n.kids.length]]:=by rw[hS2];exact new _ _
 refine Aw (up2 zc) ?_;refine Oe (A0h c hc) (.cons (.same _ okC) .nil) ?_;intro r bx2 hP;obtain⟨ids0,hX⟩:=hP;obtain⟨Vx,Cx0,rfl⟩:=hX.parts;have hxl:=hX.ltG;have hX2:=hX.held (pre:=S2.boxes);simp only[Gx,Qm]at hX2;refine⟨.agg (En c (Gx S2.boxes.length Vx) (Gx S2.boxes.length Cx0)),Lu S2.boxes.length bx2,(by have:=Od S2.boxes.length (.agg (En c Vx Cx0));simpa[Gx,Qm]using this),Jw _ _,?_⟩;generalize Gx S2.boxes.length Vx=V0 at hX2⊢;generalize Gx S2.boxes.length Cx0=C0 at hX2⊢;obtain⟨is,his⟩:∃is,is=ids0.map (·+S2.boxes.length):=⟨_,rfl⟩
 rw[←his]at hX2;have hi0:∀j,j∈is→S2.boxes.length≤j∧j<S2.boxes.length+bx2.length:=fun j h=>by
  rw[his]at h;obtain⟨i,hi,rfl⟩:=zzq50.1 h;have:=hxl i hi;omega
 obtain⟨S3,hS3⟩:∃S3:St,S3=⟨S2.boxes++Lu S2.boxes.length bx2,S2.toks⟩:=⟨_,rfl⟩
 refine Bl S3 ?_ hS3.symm;have hX3:CfB SlB S3.boxes (.agg (En c V0 C0)) is c:=by rw[hS3];exact hX2
 have l3:S3.boxes.length=S2.boxes.length+bx2.length:=by rw[hS3];simp[O0]
 have rz9:([[vi 0,.sl [] .tight,.sl [] .tight,vi 0,vi 0,vi 0,vi 0,vi 0]]:A7)[0]?=some [vi 0,.sl [] .tight,.sl [] .tight,vi 0,vi 0,vi 0,vi 0,vi 0]:=rfl;refine Ce 60 rfl ?_;refine M0 rfl rfl ?_;refine L5 (xs:=En c V0 C0) (cs':=En c V0 C0) (new _ _) rz9 rfl ?_ (hc:=F8 hX3);obtain⟨Q3,hQ3⟩:∃Q3:St,Q3=⟨S3.boxes++[[En c V0 C0]],S3.toks⟩:=⟨_,rfl⟩
 refine Bl Q3 ?_ (by rw[hQ3];exact congrArg (fun x=>St.mk x _) (Zn _ _ _));have lq:Q3.boxes.length=S3.boxes.length+1:=by rw[hQ3];simp
 have zx:Q3.boxes[S3.boxes.length]?=some [En c V0 C0]:=by rw[hQ3];exact new _ _
 have upq:∀{i:Nat} {y:A7},S2.boxes[i]?=some y→Q3.boxes[i]?=some y:=fun h=>by rw[hQ3,hS3];exact gx (gx h)
 have hXq:CfB SlB Q3.boxes (.agg (En c V0 C0)) is c:=by rw[hQ3];exact hX3.more
 refine Oe (Awb li (by omega)) (.cons (.same _ okL) .nil) ?_;intro r bx9 hP;obtain⟨c9,hc9,rfl,hx9⟩:=hP.held (pre:=Q3.boxes) rfl;refine⟨.bsl (c9+Q3.boxes.length) li.length,Lu Q3.boxes.length bx9,.bsl c9 _,Jw _ _,?_⟩;obtain⟨R3,hR3⟩:∃R3:St,R3=⟨Q3.boxes++Lu Q3.boxes.length bx9,Q3.toks⟩:=⟨_,rfl⟩
 refine Bl R3 ?_ hR3.symm;have lr3:R3.boxes.length=Q3.boxes.length+bx9.length:=by rw[hR3];simp[O0]
 have upr:∀{i:Nat} {y:A7},Q3.boxes[i]?=some y→R3.boxes[i]?=some y:=fun h=>by rw[hR3];exact gx h
 have up3:∀{i:Nat} {y:A7},S1.boxes[i]?=some y→R3.boxes[i]?=some y:=fun h=>upr (upq (up2 h));have z8:=upr (upq z8);have zx:=upr zx;have hX3:CfB SlB R3.boxes (.agg (En c V0 C0)) is c:=by rw[hR3];exact hXq.more
 have hT3:TRn true 3 S1.boxes.length R3.boxes (b+3) n:=Sg n (Bt _) (Bt _) (fun _ _ _ _ h=>up3 h) hT1;have hy3:R3.boxes[c9+Q3.boxes.length]?=some (Fh li):=by rw[hR3];exact hx9
 have r8:([[vi n.kind,str n.name,vi n.num,.bsl (b+3) n.kids.length]]:A7)[0]?=some [vi n.kind,str n.name,vi n.num,.bsl (b+3) n.kids.length]:=rfl;refine Ce 60 rfl ?_;refine L3 z8 r8 ?_;refine Aw zx ?_;refine Oe hq (.cons (Aun hcn hT3) (.cons (hX3.fz hc) (.cons (Aov (by omega) hy3) .nil))) ?_;intro r bx3 hP;obtain⟨ids,hC⟩:=hP;obtain⟨V,C,rfl⟩:=hC.parts;have hidl:=hC.ltG;have hC3:=hC.held (pre:=R3.boxes);simp only[Gx,Qm]at hC3;refine⟨.agg (En W (Gx R3.boxes.length V) (Gx R3.boxes.length C)),Lu R3.boxes.length bx3,(by have:=Od R3.boxes.length (.agg (En W V C));simpa[Gx,Qm]using this),Jw _ _,?_⟩;generalize Gx R3.boxes.length V=V1 at hC3⊢;generalize Gx R3.boxes.length C=C1 at hC3⊢;obtain⟨js,hjs⟩:∃js,js=ids.map (·+R3.boxes.length):=⟨_,rfl⟩
 rw[←hjs]at hC3;have hj:∀j,j∈js→R3.boxes.length≤j∧j<R3.boxes.length+bx3.length:=fun j h=>by
  rw[hjs]at h;obtain⟨i,hi,rfl⟩:=zzq50.1 h;have:=hidl i hi;omega
 obtain⟨S4,hS4⟩:∃S4:St,S4=⟨R3.boxes++Lu R3.boxes.length bx3,R3.toks⟩:=⟨_,rfl⟩
 refine Bl S4 ?_ hS4.symm;have l4:S4.boxes.length=R3.boxes.length+bx3.length:=by rw[hS4];simp[O0]
 have hC4:CfB SlB S4.boxes (.agg (En W V1 C1)) js W:=by rw[hS4];exact hC3
 refine Ce 60 rfl ?_;refine M0 rfl rfl ?_;refine L5 (xs:=En W V1 C1) (cs':=En W V1 C1) (new _ _) rz9 rfl ?_ (hc:=F8 hC4);obtain⟨S5,hS5⟩:∃S5:St,S5=⟨S4.boxes++[[En W V1 C1]],S4.toks⟩:=⟨_,rfl⟩
 refine Bl S5 ?_ (by rw[hS5];exact congrArg (fun x=>St.mk x _) (Zn _ _ _));have l5:S5.boxes.length=S4.boxes.length+1:=by rw[hS5];simp
 have up5:∀{i:Nat} {y:A7},R3.boxes[i]?=some y→S5.boxes[i]?=some y:=fun h=>by rw[hS5,hS4];exact gx (gx h)
 have z10:S5.boxes[S4.boxes.length]?=some [En W V1 C1]:=by rw[hS5];exact new _ _
 have z05:=up5 (up3 z0);have zc5:=up5 (up3 zc);have z15:=up5 (up3 z1);have z85:=up5 z8;have zx5:=up5 zx;have hT5:TRn true 3 S1.boxes.length S5.boxes (b+3) n:=Sg n (Bt _) (Bt _) (fun _ _ _ _ h=>up5 h) hT3;have hy5:=up5 hy3;have hX5:CfB SlB S5.boxes (.agg (En c V0 C0)) is c:=by rw[hS5,hS4];exact hX3.more.more
 have hC5:CfB SlB S5.boxes (.agg (En W V1 C1)) js W:=by rw[hS5];exact hC4.more
 refine Aw z10 ?_;refine Aw z15 ?_;refine Xj (Ai7 W hW) (.cons (hC5.fz hW) (.cons (.same _ okW) .nil)) (.val _) ?_;refine Cv ?_;refine Di 0 (by kernel_rfl) ?_;refine A4 (Ou z85 r8) ?_;refine A4 (As z05) ?_;refine Hz (A0f n hcn) ?_;refine A4 (Qk (A6x n hcn) (.cons (Aun hcn hT5) (.cons (.same _ okN) .nil)) (.val _)) ?_;refine A0 ?_;refine G0 ?_;refine Cv ?_;refine Di 0 (by kernel_rfl) ?_;refine A4 (As zx5) ?_;refine A4 (As zc5) ?_;refine Hz (Ai8 c hc) ?_;refine A4 (Qk (Ai7 c hc) (.cons (hX5.fz hc) (.cons (.same _ okC) .nil)) (.val _)) ?_;refine A0 ?_;refine G0 ?_;refine Cv ?_;refine L4 (Ala li (by omega)) ?_;refine Xj (A09 li (by omega)) (.cons (Aov (by omega) hy5) (.cons (.same _ okL) .nil)) (.val _) ?_;refine Cv ?_;refine L3 z85 r8 ?_;refine Hl (A0d n (k:=1) (Axg n hT5) (Bt _) (by omega)) ?_;intro r S6 hP _ _;obtain⟨rfl,ht6,hM6⟩:=hP;have far6:∀{i:Nat} {y:A7},i<3∨S1.boxes.length≤i→S5.boxes[i]?=some y→S6.boxes[i]?=some y:=fun hi h=>(hM6.far _ (Aa h) hi).trans h;have dis:∀{j:Nat},S1.boxes.length≤j→j∉(List.range (S1.boxes.length-3)).map (3+·):=fun h h2=>by
  obtain⟨i,hi,rfl⟩:=zzq50.1 h2;have:=zzq33.1 hi;omega
 have hC6:CfB SlB S6.boxes (.agg (En W V1 C1)) js W:=hC5.chg hM6.chg fun j h1=>dis (by have:=hj j h1;omega);have hX6:CfB SlB S6.boxes (.agg (En c V0 C0)) is c:=hX5.chg hM6.chg fun j h1=>dis (by have:=hi0 j h1;omega);have hy6:=far6 (.inr (by omega)) hy5;have z16:=far6 (.inl (by omega)) z15;have z06:=far6 (.inl (by omega)) z05;have zc6:=far6 (.inl (by omega)) zc5;have z106:=far6 (.inr (by omega)) z10;have zx6:=far6 (.inr (by omega)) zx5;refine Ce 60 rfl ?_;refine Aw zx6 ?_;refine Hl (Ak8 hX6 (by have:=hc.cells;omega) (1+mcN n) (by omega)) ?_;intro r S7 hP _ _;obtain⟨rfl,ht7,hc7,_⟩:=hP;have far7:∀{i:Nat} {y:A7},i∉is→S6.boxes[i]?=some y→S7.boxes[i]?=some y:=fun hi h=>(hc7.2 _ (Aa h) hi).trans h;have hC7:CfB SlB S7.boxes (.agg (En W V1 C1)) js W:=hC6.chg hc7 fun j h1 h2=>by
  have:=hj j h1;have:=hi0 j h2;omega
 have hy7:=far7 (fun h=>by have:=hi0 _ h;omega) hy6;have z17:=far7 (fun h=>by have:=hi0 _ h;omega) z16;have z07:=far7 (fun h=>by have:=hi0 _ h;omega) z06;have zc7:=far7 (fun h=>by have:=hi0 _ h;omega) zc6;have z107:=far7 (fun h=>by have:=hi0 _ h;omega) z106;refine Ce 60 rfl ?_;refine Hl (Apy (l:=li) (x:=.bsl (c9+Q3.boxes.length) li.length) (.inl ⟨_,[],by rw[hzli],by rw[I4];exact hy7⟩) (1+mcN n+Po c) (by omega)) ?_;intro r Q7 hP _ _;obtain⟨rfl,htq,hcq,_⟩:=hP;have farq:∀{i:Nat} {y:A7},i≠c9+Q3.boxes.length→S7.boxes[i]?=some y→Q7.boxes[i]?=some y:=fun hi h=>(hcq.2 _ (Aa h) (by simpa[Ik]using hi)).trans h;have hC7:CfB SlB Q7.boxes (.agg (En W V1 C1)) js W:=hC7.chg hcq fun j h1 h2=>by
  have:=hj j h1;simp[Ik]at h2;omega
 have z17:=farq (by omega) z17;have z07:=farq (by omega) z07;have zc7:=farq (by omega) zc7;have z107:=farq (by omega) z107;refine Ce 60 rfl ?_;refine R5 ?_ (ht:=Ks (by omega));refine Aw z107 ?_;refine Aw z17 ?_;refine Xj (Ai7 W hW) (.cons (hC7.fz hW) (.cons (.same _ okW) .nil)) (.val _) ?_;refine Cv ?_;refine Aw z107 ?_;refine Hl (Ak8 hC7 (by have:=hW.cells;omega) 1 (by omega)) ?_;intro r S8 hP _ _;obtain⟨rfl,ht8,hc8,hC8⟩:=hP;have far8:∀{i:Nat} {y:A7},i∉js→Q7.boxes[i]?=some y→S8.boxes[i]?=some y:=fun hi h=>(hc8.2 _ (Aa h) hi).trans h;have z18:=far8 (fun h=>by have:=hj _ h;omega) z17;have z08:=far8 (fun h=>by have:=hj _ h;omega) z07;have zc8:=far8 (fun h=>by have:=hj _ h;omega) zc7;have z108:=far8 (fun h=>by have:=hj _ h;omega) z107;refine Ce 60 rfl ?_;refine Aw z108 ?_;refine Xj (Ak7 1 W (by have:=hW.cells;omega) (by omega)) (.cons (hC8.fz (Ao4 hW)) (.cons (.same _ (hin _)) .nil)) (.val _) ?_;refine Cv ?_ (ht:=Ks (by omega));refine Cv ?_ (ht:=by simp);have hli3:li.length≤1000000000:=by omega
 refine Qj (G:=[(2,.sl (Fh li) .no),(3,.ptr 0 0 0),(4,.ptr 1 0 0),(8,.ptr 2 0 0),(12,.ptr S4.boxes.length 0 0),(14,vi ((1+Po W:Nat):Int)),(6,vb false)]) ⟨rfl,rfl,rfl,rfl,rfl,rfl,rfl,trivial⟩ ?_;refine A1e (Q:=fun F' S'=>∃(b16:Nat) (V3 C3:AV) (ids4:List Nat),S'.boxes[b16]?=some [En W V3 C3]∧CfB SlB S'.boxes (.agg (En W V3 C3)) ids4 W∧S'.boxes[2]?=some [G3 W]∧S'.boxes[S4.boxes.length]?=some [En W V1 C1]∧CfB SlB S'.boxes (.agg (En W V1 C1)) js (Aki 1 W) ∧
  Sub [(16,.ptr b16 0 0),(8,.ptr 2 0 0),(12,.ptr S4.boxes.length 0 0),(14,vi ((1+Po W:Nat):Int)),(6,vb false)] F') (fun k hk=>?_) (fun F' S' hQ=>?_)
 ·have hj4:∀j,j∈js→j<S8.boxes.length:=fun j h=>by
   have:=hj j h;have:=Aa z108;omega
  have l8:=Aa z18;have l8':=Aa z108;clear hjs hidl hC hC3 hC4 hC5 hC6 hC7 hX hX2 hX3 hX5 hX6 hXq hT hT1 hT3 hT5 hM6 hc7 hcq hc8 far6 far7 farq far8;refine An3 fun lo hord=>?_;rcases Anw (show 6≠7 by decide) lo (fun _=>false)with h1|h1
  ·refine Aob [0,1,2,3,4,5,6,7,8] [(6,7)] 448 6 (Aq h1 G6) rfl ?_;refine Acb (As z08) ?_;refine Vw (A0f n hcn) ?_;refine Acb (As zc8) ?_;refine Vw (Ai8 c hc) ?_;refine Mb ?_;refine Vw (Ala li hli3) ?_;refine Ajf hq (.cons (.same _ okN) (.cons (.same _ okC) (.cons (.same _ okL) .nil))) ?_;intro r bx4 hP;obtain⟨ids4,hD⟩:=hP;obtain⟨V2,C2,rfl⟩:=hD.parts;have hD9:=hD.held (pre:=S8.boxes);simp only[Gx,Qm]at hD9;obtain⟨V3,hV3⟩:∃V3,V3=Gx (S8.boxes).length V2:=⟨_,rfl⟩
   obtain⟨C3,hC3'⟩:∃C3,C3=Gx (S8.boxes).length C2:=⟨_,rfl⟩
   rw[←hV3,←hC3']at hD9;refine⟨.agg (En W V3 C3),Lu (S8.boxes).length bx4,(by have:=Od (S8.boxes).length (.agg (En W V2 C2));rw[hV3,hC3'];simpa[Gx,Qm]using this),Jw _ _,?_⟩;refine K6 (Md rfl rfl) ?_;refine K6 (Ji (xs:=En W V3 C3) (cs':=En W V3 C3) (new _ _) rz9 rfl (hc:=F8 hD9)) ?_;refine Ast ?_;refine Bl ⟨S8.boxes++Lu S8.boxes.length bx4++[[En W V3 C3]],S8.toks⟩ ?_ (congrArg (fun x=>St.mk x _) (Zn _ _ _));refine hk _ _ ?_;exact⟨_,V3,C3,_,new _ _,hD9.more,gx (gx z18),gx (gx z108),hC8.more.more,⟨rfl,rfl,rfl,rfl,rfl,trivial⟩⟩
  ·refine Aob [0,1,2,3,4,5,7,6,8] [(7,6)] 448 7 (Aq h1 G6) rfl ?_;refine Acb (As z08) ?_;refine Vw (A0f n hcn) ?_;refine Acb (As zc8) ?_;refine Vw (Ai8 c hc) ?_;refine Mb ?_;refine Vw (Ala li hli3) ?_;refine Ahh (Md rfl rfl) (Aq (As (gx zc8)) (Aq (As (gx z08)) G6)) ?_;refine Ajf hq (.cons (.same _ okN) (.cons (.same _ okC) (.cons (.same _ okL) .nil))) ?_;intro r bx4 hP;obtain⟨ids4,hD⟩:=hP;obtain⟨V2,C2,rfl⟩:=hD.parts;have hD9:=hD.held (pre:=(S8.boxes++[[zCf]]));simp only[Gx,Qm]at hD9;obtain⟨V3,hV3⟩:∃V3,V3=Gx ((S8.boxes++[[zCf]])).length V2:=⟨_,rfl⟩
   obtain⟨C3,hC3'⟩:∃C3,C3=Gx ((S8.boxes++[[zCf]])).length C2:=⟨_,rfl⟩
   rw[←hV3,←hC3']at hD9;refine⟨.agg (En W V3 C3),Lu ((S8.boxes++[[zCf]])).length bx4,(by have:=Od ((S8.boxes++[[zCf]])).length (.agg (En W V2 C2));rw[hV3,hC3'];simpa[Gx,Qm]using this),Jw _ _,?_⟩;have zT:(S8.boxes++[[zCf]]++Lu (S8.boxes++[[zCf]]).length bx4)[S8.boxes.length]?=some [zCf]:=gx (new _ _);refine K6 (Ji (xs:=En W V3 C3) (cs':=En W V3 C3) zT rz9 rfl (hc:=F8 hD9)) ?_;refine Ast ?_;refine hk _ _ ?_;exact⟨_,V3,C3,_,Ez (Aa zT),hD9.chg (C6 _ _ _) fun j h1 h2=>by
    obtain⟨i,hi,rfl⟩:=zzq50.1 h1;have h3:=List.mem_singleton.1 h2;simp only[F5,Ab0]at h3;omega,(Fi (by omega)).trans (gx (gx z18)),(Fi (by omega)).trans (gx (gx z108)),hC8.more.more.chg (C6 _ _ _) fun j h1 h2=>by
    simp at h2;have:=hj4 j h1;omega,⟨rfl,rfl,rfl,rfl,rfl,trivial⟩⟩
 ·obtain⟨b16,V3,C3,ids4,y1,y2,y3,y4,y5,hsub⟩:=hQ;refine Qj hsub ?_;refine Ce 60 rfl ?_;refine Aw y1 ?_;refine Aw y3 ?_;refine Xj (Ai7 W hW) (.cons (y2.fz hW) (.cons (.same _ okW) .nil)) (.val _) ?_;refine Cv ?_;refine Aw y4 ?_;refine Xj (Ak7 1 W (by have:=hW.cells;omega) (by omega)) (.cons (y5.fz (Ao4 hW)) (.cons (.same _ (hin _)) .nil)) (.val _) ?_;refine Cv ?_ (ht:=Ks (by omega));refine Cv ?_ (ht:=by simp);exact Ao func8 rfl
end Go.V
namespace Go.Proofs.YtojhghmilenfkaaGreatDoor.step
open Go Go.Proofs Go.V Go.ChangeShapes Go.WideShapes Go.ChangeAt Go.RowKit Go.Proofs.Tryz
set_option maxRecDepth 100000
theorem Ato(H:Type)(enc:TypeId×Value→H)(W:World)(base:Nat)(args:Array Value)(ds gs:List (DataW H))(before:List MemPlace)
 (hval:∀(j:Nat) t v,f8.params[j]?=some t→args[j]?=some v→Value.okWide prog W .any base t v)
 (hW:DataW.Whole enc prog f8.params.toList Rows.fnExactStepSpec.vars false W args.toList ds gs before)(hL:laidMetH prog Rows.fnExactStepRow.laid W)(hs:W.ShapedOpen prog) :
 Calls prog 8 args W fun e W'=>∃v,e=.returned v∧Rows.fnExactStepSpec.post enc prog f8 false true false false W args v W':=by
 have hW':=hW;obtain⟨p,q,hA0,_,_,_,_⟩:=hW;have hA:DataW.TrodAll enc prog W 0 (fun _=>true) true [24,59,37] args.toList ds p:=hA0;obtain⟨v0,vs0,d0,ds0,p0,q0,hargs,rfl,rfl,h0,r0⟩:=trodAll_cons hA;obtain⟨v1,vs1,d1,ds1,p1,q1,hargs1,rfl,rfl,h1,r1⟩:=trodAll_cons r0;obtain⟨v2,vs2,d2,ds2,p2,q2,hargs2,rfl,rfl,h2,r2⟩:=trodAll_cons r1;obtain⟨rfl,rfl,rfl⟩:=trodAll_nil r2;subst hargs2;subst hargs1;have ha0:args[0]?=some v0:=by rw[←Ab6,hargs];rfl
 have ha1:args[1]?=some v1:=by rw[←Ab6,hargs];rfl
 have ha2:args[2]?=some v2:=by rw[←Ab6,hargs];rfl
 obtain⟨n,n1,n2,n3⟩:=Ayu (hval 0 24 v0 rfl ha0) h0;obtain⟨c,c2,c3⟩:=Axn (hval 1 59 v1 rfl ha1) h1;obtain⟨i,i2,i3⟩:=Ayf (hval 2 37 v2 rfl ha2) h2;have hR:RelL W args.toList [nd n,cf c,inl i]:=by rw[hargs];exact .cons n3 (.cons c3 (.cons i3 .nil))
 refine(Az2 (A30 n c i n1 n2 c2 i2) hs hL hR).mono fun r W' ⟨he,hb⟩=>?_;refine⟨_,he,Arn Auc (fun t ht=>?_) rfl Axm A15 A14 A13 hW' hb (fun g1 hg=>?_) rfl underlying4⟩
 ·have h:t∈[24,59,37]:=ht;simp only[zzq8,Xh,or_false]at h;rcases h with rfl|rfl|rfl
  ·exact⟨by kernel_rfl,A6 (by kernel_rfl)⟩
  ·exact⟨by kernel_rfl,A6 (by kernel_rfl)⟩
  ·exact⟨by kernel_rfl,A6 (by kernel_rfl)⟩
 ·subst hg;rfl
set_option maxRecDepth 100000
theorem ab{a b:Bool}(h:a=true)(g:b=true):(a&&b)=true:=by rw[h,g];rfl
set_option maxHeartbeats 100000000 in
theorem A12:joinedFacts Tryz.pinned.checked.prog 8 f8 (OpenSpec.ofChange Rows.fnExactStepSpec).bare Rows.fnExactStepRow=true:=by
 unfold joinedFacts
 iterate 31 refine ab ?_ ?_
 all_goals as_aux_lemma=>kernel_rfl
set_option maxRecDepth 100000
theorem Aue(os:Os):laidMet prog Rows.fnExactStepRow.laid ((Aud os).forCall (fun _ _=>0) ⟨#[],#[Ayt,Axl,Aou],[]⟩).memory:=laidMet_of_run' 8 (by kernel_rfl) (by kernel_rfl)
theorem reads(os:Os){H:Type}(enc:TypeId×Value→H):∃places,DataW.whole enc prog ((Aud os).forCall (fun _ _=>0) ⟨#[],#[Ayt,Axl,Aou],[]⟩).memory f8.params.toList Rows.fnExactStepSpec.vars false #[Ayt,Axl,Aou].toList 8=some ([.agg [.lit (.int .i64 0),.lit (.string []),.lit (.int .i64 0),.nil],.agg [.lit (.int .i64 0),.nil,.nil,.lit (.int .i64 0),.lit (.int .i64 0),.lit (.int .i64 0),.lit (.int .i64 0),.lit (.int .i64 0)],.nil],[.agg (condB.map fun b=>.lit (.string b))],places):=
 ⟨MemPlace.row ⟨1,0,none⟩ 6,by kernel_rfl⟩
theorem A2v(os:Os)(started:os.Started)(H:Type)(enc:TypeId×Value→H)(F:Stop.Interp) :
 ReturnsInHanded {} Tryz.checked os 8 .any ((OpenSpec.ofChange Rows.fnExactStepSpec).preRow enc prog f8 Rows.fnExactStepRow.domain false Rows.fnExactStepRow.laid)
  (((OpenSpec.ofChange Rows.fnExactStepSpec).at F).post enc prog f8 false true false false):=by
 obtain⟨places,hx⟩:=reads os enc;refine returnsInHanded_of_row (C:=Tryz.checked) (s:=OpenSpec.ofChange Rows.fnExactStepSpec) A6s started (by kernel_rfl) func8
  (witness_row_at (enc:=enc) (C:=Tryz.checked) false (Aud os) #[Ayt,Axl,Aou] rfl (by kernel_rfl) (by kernel_rfl) (by kernel_rfl)
    (OpenSpec.preRow_of_cond 8 hx (by kernel_rfl) (fun k hk=>by cases hk) (by kernel_rfl) (Aue os))) ?_
 intro W base args ds gs before hval hW _ _ _ hL hs _;exact Ato H enc W base args ds gs before hval hW hL hs
theorem A6w:Rows.FnExactStepSaid:=
 OpenClaim.holds_of_cond 8 f8 rfl rfl rfl rfl rfl rfl rfl ⟨rfl,rfl,rfl,rfl,rfl⟩ rfl rfl rfl rfl rfl (by kernel_rfl) func8 A12
  (A6 (by kernel_rfl)) (by unfold Func.isWrapper;first|(rw[if_pos (by decide +kernel)];kernel_rfl)|(rw[if_neg (by decide +kernel)];exact⟨rfl,rfl⟩))
  (fun os started H enc _ F=>by rw[OpenClaim.pre_eq_preRow];exact A2v os started H enc F)
theorem plain(f:FuncId)(fn:Func)(hf:Tryz.pinned.checked.prog.funcNamed "loop.example/g00093/laws.FnExactStep" = some f)(hfn:Tryz.pinned.checked.prog.funcs[f]?=some fn) :
 true=Tryz.pinned.checked.prog.looks []∧∀(j:Nat) t,fn.params[j]?=some t→Tryz.pinned.checked.prog.wantsStandIn t=false:=by
 obtain rfl:f=8:=Option.some.inj ((show prog.funcNamed "loop.example/g00093/laws.FnExactStep" = some 8 by kernel_rfl).symm.trans hf) |>.symm;obtain rfl:fn=f8:=(Option.some.inj (func8.symm.trans hfn)).symm;refine⟨by kernel_rfl,fun j t ht=>?_⟩;have ht':(#[24,59,37]:Array Nat)[j]?=some t:=ht;have h:t=24∨t=59∨t=37:=by simpa using Array.mem_of_getElem? ht'
 rcases h with rfl|rfl|rfl
 ·exact(show prog.wantsStandIn 24=false by kernel_rfl)
 ·exact(show prog.wantsStandIn 59=false by kernel_rfl)
 ·exact(show prog.wantsStandIn 37=false by kernel_rfl)
end Go.Proofs.YtojhghmilenfkaaGreatDoor.step
