/- A part of the proof of the claim that the last text states: no condition of its own. -/
import Derived.Test.YtojhghmilenfkaaGreatDoorN8
import Derived.Lib.ItoaLen
import Derived.Lib.UnsafeStr
import Derived.Recover
set_option linter.unusedVariables false
set_option linter.unusedSimpArgs false
namespace Go.V
open Go
section
variable {X:Cx}{B:Bx}{E:Env}{S S':St}{w:World}{F F':C5}{a:Act}{N:Nat}{R:AE→St→Prop}{K K':List Item}
def Env.dfs(E:Env)(D:List Deferred):Env:={ E with df:=D }
theorem Rel.dfE(D:List Deferred){v:Value}{x:AV}(h:Rel E w v x):Rel (E.dfs D) w v x:=
 Rel.move (E:=E) (E':=E.dfs D) (n:=E.boxes.length) (m:=E.toks.length) (fun i _ hl=>⟨hl,fun _ h=>h⟩) (fun t _ k h=>⟨k,h,.inl rfl⟩) (fun _ _ _ _ h=>h) (fun _ _ _ h=>h) (fun _ _ h=>h) (fun _ _ _ _ _ _ _ _ _ h=>h) h h.ok
theorem Inv.dfE(D:List Deferred)(hI:Inv X E S w):Inv X (E.dfs D) S w where
 nb:=hI.nb
 nt:=hI.nt
 np:=hI.np
 box i b sz rows h1 h2:=by
  obtain⟨cs,e,hh,hs,hl,hr⟩:=hI.box i b sz rows h1 h2;exact⟨cs,e,hh,hs,hl,fun k r j x v h3 h4 h5=>(hr k r j x v h3 h4 h5).dfE D⟩
 tok:=hI.tok
 bb:=hI.bb
 bt:=hI.bt
 tt:=hI.tt
 frlt:=hI.frlt
 lo:=hI.lo
 frlo:=hI.frlo
 sz:=hI.sz
 glob:=hI.glob
theorem Evol.dfE{D:List Deferred}{E':Env}{w':World}{n m:Nat}(h:Evol (E.dfs D) w E' w' n m):Evol E w (E'.dfs E.df) w' n m:=
 ⟨h.fr,h.boxes,h.toks,h.os,h.tape,h.output,h.size,h.block,h.cell,h.mt,h.own,rfl,h.ty,h.pv⟩
theorem Aes(C:List Frame→Frame→Env→World→Machine→Prop)(he:Go.V.ev X B.fn.ntmps 200 K F S=(K',F',S'))
 (hc:∀(cs:List Frame)(b:Frame)(E:Env)(w:World)(E':Env)(w':World)(st st':Machine),Steps X.P st st'→Evol E w E' w' B.n B.m→C cs b E' w' st'→C cs b E w st)
 (h:∀(E:Env)(w:World)(a:Act)(b:Frame)(cs:List Frame),Inv X E S' w→FR E w F' a B.fn.ntmps→B.n≤S'.boxes.length→b.fn=B.f→C cs b E w (lone (b.at a K') cs w))
 (hI:Inv X E S w)(hF:FR E w F a B.fn.ntmps)(hn:B.n≤S.boxes.length)(hm:B.m≤S.toks.length){b:Frame}(hb:b.fn=B.f)(cs:List Frame):C cs b E w (lone (b.at a K) cs w):=by
 have hAK:AK X B K F S fun e _=>e=.hook C:=Bi 200 he fun E w a b cs hI hF hn hm hb=>.inr ⟨C,rfl,fun E w E' w' st st'=>hc cs b E w E' w' st st',h E w a b cs hI hF hn hb⟩;rcases hAK E w a b cs hI hF hn hm hb with⟨e,w',fr,⟨E2,S2,_,_,h3⟩,_⟩|⟨C',h1,_,h3⟩
 ·cases e with
  |returned v=>obtain⟨_,_,h⟩:=h3;cases h
  |panicked ch=>cases h3
  |outgrown=>exact h3.elim
 ·cases h1;exact h3
theorem ACalls.defers{f g:FuncId}{fn:Func}{c:Code}{args caps:List AV}{o:Oper}{cl:Call}{ops:Array Oper}{i:Nat}{l:List Nat}{k:List Item}{t:Nat}(hf:X.P.funcs[f]?=some fn)(hb:fn.body=some c)(hl:args.length≤fn.ntmps)
 (he:Go.V.ev X fn.ntmps 200 [.code c] (Ot 0 args) ⟨[],[]⟩=(.inRegion ops (i::l)::k,F',S'))(ho:ops[i]?=some o)(hw:A8 ops F' o=some true)(hop:o.op=.defer cl)(hcal:cl.callee=.value (.tmp t))(hca:cl.args=#[])
 (hod:o.dst=none)(ht:lk F' t=some (.fn g caps))
 (h:∀(E:Env)(w:World)(a:Act)(b:Frame)(cs:List Frame)(us:Array Value),Inv X E S' w→FR E w F' a fn.ntmps→E.df=[⟨.fn (.func g) us,#[]⟩]→us.size=caps.length →
   (∀(j:Nat)(v:Value)(x:AV),us[j]?=some v→caps[j]?=some x→Rel E w v x)→b.fn=f→b.kind=.normal →
   ∃e w' fr,Aiu X E w 0 0 R e w'∧Comes X.P (lone (b.at a (.inRegion ops l::k)) cs w) (lone fr cs w') e∧fr.fn=f∧fr.leaving X.P w' e):ACalls X f args ⟨[],[]⟩ R:=by
 intro E w vs hdf hI hs hr cs
 let b:Frame:={ (default:Frame)with fn:=f,kind:=.normal }
 let a:Act:={ tmps:=vs++Array.replicate (fn.ntmps-vs.size) undef,defers:=[] }
 have henter:Frame.enter X.P f vs .normal=b.at a [.code c]:=by simp[Frame.enter,Frame.at,hf,hb,b,a]
 have hF:FR E w (Ot 0 args) a fn.ntmps:=by
  refine⟨by simp[a];omega,hdf.symm,fun k x hk=>?_⟩;obtain⟨_,h2⟩:=Ab5 args 0 k x hk;simp only[Nat.sub_zero]at h2;have hlt:k<vs.size:=by rw[hs];exact Aa h2
  exact⟨vs[k],by simp only[a];rw[Zb hlt];simp[hlt],hr k _ x (by simp[hlt]) h2⟩
 rw[henter];have:=Aes (X:=X) (B:=⟨f,fn,0,0⟩) (fun cs b E w st=>E.df=[]→b.fn=f→b.kind=.normal→∃e w' fr,Aiu X E w 0 0 R e w'∧Comes X.P st (lone fr cs w') e∧fr.fn=f∧fr.leaving X.P w' e) he
  (fun cs b E w E' w' st st' hst ev hC hE hb hk=>by
    obtain⟨e,w2,fr,⟨E2,S2,d1,d2,d3⟩,k2,k3⟩:=hC (ev.df.trans hE) hb hk;exact⟨e,w2,fr,⟨E2,S2,d1,ev.trans d2,d3⟩,Comes.of_steps hst k2,k3⟩)
  (fun E w a b cs hI hF _ _ hE hb hk=>by
    obtain⟨v,hv,hr⟩:=hF.rel _ _ ht;cases hr with
    |fn _ us _ hul hur=>
     have hg:=stepG_op (P:=X.P) (b:=b) (k:=k) (cs:=cs) (w:=w) (rest:=l) ho (Cr hF hw);have hev:a.eval (.tmp t)=.func (.func g) #[] us:=by simp[Act.eval,hv]
     have hrun:(execOp a.eval o).run X.P w=.ok (.defer ⟨.fn (.func g) us,#[]⟩) w:=by
      simp[execOp,hop,resolve,hcal,hca,hev,Deferred.ofValue]
     have hfin:({ b.at a (.inRegion ops (i::l)::k)with defers:=⟨.fn (.func g) us,#[]⟩::a.defers }:Frame).finish undef=b.at { a with defers:=⟨.fn (.func g) us,#[]⟩::a.defers } (.inRegion ops l::k):=by
      have:=Frame.finish_at b { a with defers:=⟨.fn (.func g) us,#[]⟩::a.defers } ops i l k undef;rw[ho]at this;simp only[Option.bind_some,hod]at this;exact this
     have hnil:a.defers=[]:=hF.nod.trans hE;have hstep:Go.step X.P (lone (b.at a (.inRegion ops (i::l)::k)) cs w)=.next (lone (b.at { a with defers:=[⟨.fn (.func g) us,#[]⟩] } (.inRegion ops l::k)) cs w):=by
      refine step_lone_go ?_;rw[hg];simp only[stepG.apply,Sem.runT_eq,hrun,GStep.bare_after];rw[hnil]at hfin;rw[←hfin];simp only[Frame.at,hnil];rfl
     have hI2:=hI.dfE [⟨.fn (.func g) us,#[]⟩];have hF2:FR (E.dfs [⟨.fn (.func g) us,#[]⟩]) w F' { a with defers:=[⟨.fn (.func g) us,#[]⟩] } fn.ntmps:=
      ⟨hF.size,rfl,fun k x hk=>let ⟨v,h1,h2⟩:=hF.rel k x hk;⟨v,h1,h2.dfE _⟩⟩
     obtain⟨e,w',fr,⟨E2,S2,d1,d2,d3⟩,k2,k3,k4⟩:=h _ w _ b cs us hI2 hF2 rfl hul (fun j v x hv hx=>(hur j v x hv hx).dfE _) hb hk;refine⟨e,w',fr,⟨E2.dfs E.df,S2,d1.dfE _,d2.dfE,?_⟩,Comes.of_steps (.one hstep) k2,k3,k4⟩;cases e with
     |returned v=>obtain⟨r,h1,h2⟩:=d3;exact⟨r,h1.dfE _,h2⟩
     |panicked ch=>exact d3
     |outgrown=>exact d3)
  hI hF (B3 _) (B3 _) (b:=b) rfl cs
 exact this hdf rfl rfl
theorem Apt{g:FuncId}{gn:Func}{c:Code}{args:List AV}{o:Oper}{cl:Call}{ops:Array Oper}{i d n:Nat}{l:List Nat}{k:List Item}{r:AV}{S2:St}{u u':FrameMode}{v0:Value}(hf:X.P.funcs[g]?=some gn)(hb:gn.body=some c)
 (hl:args.length≤gn.ntmps)(he:Go.V.ev X gn.ntmps 200 [.code c] (Ot 0 args) S=(.inRegion ops (i::l)::k,F',S'))(ho:ops[i]?=some o)(hw:A8 ops F' o=some true)(hop:o.op=.call cl)(hcal:cl.callee=.builtin .recover)
 (hca:cl.args=#[])(hod:o.dst=some d)(hd:d<gn.ntmps)(hn:n=S.boxes.length)(htk:S.toks=[])
 (hrec:∀(c0:Frame)(cs:List Frame),c0.mode=u→(match recoverD (c0::cs)with|some q=>q|none=>(.nilIface,c0::cs))=(v0,{ c0 with mode:=u' }::cs))
 (hk:AK X ⟨g,gn,n,0⟩ (.inRegion ops l::k) ((d,.val v0)::F') S' fun e S'=>e=.ret r∧S'=S2)(hdf:E.df=[])(hI:Inv X E S w){vs:Array Value}(hs:vs.size=args.length)
 (hr:∀(j:Nat)(v:Value)(x:AV),vs[j]?=some v→args[j]?=some x→Rel E w v x) :
 CallsD X.P g vs u w fun e u2 w'=>u2=u'∧(∃v,e=.returned v)∧∃E',Inv X E' S2 w'∧Evol E w E' w' n 0:=by
 intro c0 cs hu
 let b:Frame:={ (default:Frame)with fn:=g,kind:=.deferred }
 let a:Act:={ tmps:=vs++Array.replicate (gn.ntmps-vs.size) undef,defers:=[] }
 have henter:Frame.enter X.P g vs .deferred=b.at a [.code c]:=by simp[Frame.enter,Frame.at,hf,hb,b,a]
 have hF:FR E w (Ot 0 args) a gn.ntmps:=by
  refine⟨by simp[a];omega,hdf.symm,fun k x hk=>?_⟩;obtain⟨_,h2⟩:=Ab5 args 0 k x hk;simp only[Nat.sub_zero]at h2;have hlt:k<vs.size:=by rw[hs];exact Aa h2
  exact⟨vs[k],by simp only[a];rw[Zb hlt];simp[hlt],hr k _ x (by simp[hlt]) h2⟩
 rw[henter];subst hn;have:=Aes (X:=X) (B:=⟨g,gn,S.boxes.length,0⟩) (fun cs b E w st=>E.df=[]→b.fn=g→b.kind=.deferred→b.roundOf=none→∀(c0:Frame) (cs0:List Frame),cs=c0::cs0→c0.mode=u →
  ∃e w' fr,((∃v,e=.returned v)∧∃E',Inv X E' S2 w'∧Evol E w E' w' S.boxes.length 0)∧Comes X.P st (lone fr ({ c0 with mode:=u' }::cs0) w') e∧fr.kind=.deferred∧fr.going X.P w' e) he
  (fun cs b E w E' w' st st' hst ev hC hE hb hk hr c0 cs0 hc hu=>by
    obtain⟨e,w2,fr,⟨d1,E2,d2,d3⟩,k2,k3⟩:=hC (ev.df.trans hE) hb hk hr c0 cs0 hc hu;exact⟨e,w2,fr,⟨d1,E2,d2,ev.trans d3⟩,Comes.of_steps hst k2,k3⟩)
  (fun E w a b cs hI hF hn hb hE _ hkd hro c0 cs0 hcs hu=>by
    subst hcs;have hg:=stepG_op (P:=X.P) (b:=b) (k:=k) (cs:=c0::cs0) (w:=w) (rest:=l) ho (Cr hF hw);have hrun:(execOp a.eval o).run X.P w=.ok .recover w:=by
     simp[execOp,hop,resolve,hcal,hca,invoke];rfl
    have hfin:∀v,(b.at a (.inRegion ops (i::l)::k)).finish v=b.at (a.put (some d) v) (.inRegion ops l::k):=fun v=>by
     rw[Frame.finish_at,ho];simp only[Option.bind_some,hod]
    have htr:=tryRecover_deferred (fr:=b.at a (.inRegion ops (i::l)::k)) hkd (c0::cs0);have hstep:Go.step X.P (lone (b.at a (.inRegion ops (i::l)::k)) (c0::cs0) w)=.next (lone (b.at (a.put (some d) v0) (.inRegion ops l::k)) ({ c0 with mode:=u' }::cs0) w):=by
     refine step_lone_go ?_;have hrec:=hrec c0 cs0 hu;rw[hg,←hfin];simp only[Frame.at]at htr⊢;cases hR:recoverD (c0::cs0)with
     |none=>
      rw[hR]at hrec;obtain⟨h1,h2⟩:=Prod.mk.inj hrec;subst h1;rw[←h2];simp[stepG.apply,hrun,htr,hR,hro]
     |some q=>
      obtain⟨q1,q2⟩:=q;rw[hR]at hrec;obtain⟨h1,h2⟩:=Prod.mk.inj hrec;subst h1;subst h2;simp[stepG.apply,hrun,htr,hR,hro]
    have hF2:FR E w ((d,.val v0)::F') (a.put (some d) v0) gn.ntmps:=hF.put hd (.val v0);rcases hk E w _ b ({ c0 with mode:=u' }::cs0) hI hF2 hn (B3 _) hb with⟨e,w',fr,⟨E2,S3,d1,d2,d3⟩,k2,k3,k4⟩|⟨C,h1,_⟩
    ·cases e with
     |returned v=>
      obtain⟨q,q1,q2,rfl⟩:=d3;rw[hE,hkd]at k4;obtain⟨m1,m2,m3,m4⟩:=k4;exact⟨_,w',fr,⟨⟨v,rfl⟩,E2,d1,d2⟩,Comes.of_steps (.one hstep) k2,m3,m1,m2,m4⟩
     |panicked ch=>obtain⟨h,_⟩:=d3;cases h
     |outgrown=>exact d3.elim
    ·cases h1.1)
  hI hF (Bo _) (by rw[htk];exact Bo _) (b:=b) rfl (c0::cs)
 obtain⟨e,w',fr,d,k2,k3⟩:=this hdf rfl rfl rfl c0 cs rfl hu;exact⟨e,u',w',fr,⟨rfl,d⟩,k2,k3⟩
theorem Ael{f g:FuncId}{fn:Func}{us:Array Value}{u u':FrameMode}{fr:Frame}{cs:List Frame}{xs:List AV}{r:AV}{S2:St}(hI:Inv X E S w)(hF:FR E w F a fn.ntmps)(htk:S.toks=[])(hu:u≠.run)(hm:fr.mode=u)
 (hd:fr.defers=[⟨.fn (.func g) us,#[]⟩])(htm:fr.tmps=a.tmps)(hkd:fr.kind=.normal)(hfr:fr.fn=f)(hf:X.P.funcs[f]?=some fn)(hE:Nr X.P g)(hset:settle u'=.returning)
 (hc:CallsD X.P g us u w fun e u2 w'=>u2=u'∧(∃v,e=.returned v)∧∃E',Inv X E' S2 w'∧Evol (E.dfs []) w E' w' S.boxes.length 0)(hres:Mf X F S2 fn.results.toList=some xs)(hr0:C8 xs=r)(hz:Ok 0 0 r) :
 ∃e w' fr',Aiu X E w 0 0 (fun e S=>e=.ret r∧S=⟨[],[]⟩) e w'∧Comes X.P (lone fr cs w) (lone fr' cs w') e∧fr'.fn=f∧fr'.leaving X.P w' e:=by
 subst hr0;have hle:Leaves X.P fn fr.tmps (fun e w'=>Aiu X E w 0 0 (fun e S=>e=.ret (C8 xs)∧S=⟨[],[]⟩) e w') [⟨.fn (.func g) us,#[]⟩] u w:=by
  obtain⟨gn,hgn,hname,hbody⟩:=hE;have hi:(invoke (.fn (.func g) us) #[]).run X.P w=.ok (.enter g us) w:=by
   have hne:¬(gn.name = "runtime.NumGoroutine"):=fun h=>by rw[h]at hname;simp at hname
   simp[invoke,callFunc,hgn,hne,hbody];intro hbn;rw[hbn]at hbody;cases hbody
  refine leaves_cons hu hi (hc.mono fun e u2 w' h=>?_);obtain⟨rfl,⟨v,rfl⟩,E2,h2,h3⟩:=h;have nt:E.toks.length=0:=by have:=hI.nt;rw[htk]at this;simpa using congrArg List.length this
  have ev:Evol (E.dfs []) w E2 w' E.boxes.length E.toks.length:=by rw[nt,hI.nb];exact h3
  have hF2:FR E2 w' F { a with defers:=E2.df } fn.ntmps:=⟨hF.size,rfl,fun k x hk=>let ⟨v,q1,q2⟩:=hF.rel k x hk;⟨v,q1,(q2.dfE []).step ev⟩⟩
  obtain⟨v',q1,q2⟩:=M8 h2 hF2 hres;show Leaves X.P fn fr.tmps _ [] (settle u2) w';rw[hset];refine⟨v',by rw[htm];exact q1,(E2.drop 0 0).dfs E.df,⟨[],[]⟩,?_,?_,C8 xs,?_,rfl,rfl⟩
  ·have:=(h2.drop (n:=0) (m:=0) (fun rows hr=>by simp at hr)).dfE E.df;simpa[St.drop]using this
  ·exact((h3.weaken (B3 _) (B3 _)).trans (Evol.drop E2 w' 0 0)).dfE
  ·exact(q2.drop hz).dfE _
 obtain⟨e,w',fr',h1,h2,h3,h4⟩:=leaves_steps [⟨.fn (.func g) us,#[]⟩] u w fr cs hm hd rfl (by rw[hfr];exact hf) hkd hle;exact⟨e,w',fr',h1,h2,h3.trans hfr,h4⟩
def DefC(X:Cx)(f g:FuncId)(us:Array Value)(caps:List AV)(R:AE→St→Prop):List Frame→Frame→Env→World→Machine→Prop:=fun cs b E w st=>
 E.df=[⟨.fn (.func g) us,#[]⟩]→(∀(j:Nat) (v:Value) (x:AV),us[j]?=some v→caps[j]?=some x→Rel E w v x)→b.fn=f→b.kind=.normal →
  ∃e w' fr,Aiu X E w 0 0 R e w'∧Comes X.P st (lone fr cs w') e∧fr.fn=f∧fr.leaving X.P w' e
theorem DefC.closed{f g:FuncId}{us:Array Value}{caps:List AV}{n m:Nat}(hcap:∀x,x∈caps→Ok n m x)(cs:List Frame)(b:Frame)(E:Env)(w:World)(E':Env)(w':World)(st st':Machine)(hs:Steps X.P st st')(ev:Evol E w E' w' n m)
 (h:DefC X f g us caps R cs b E' w' st'):DefC X f g us caps R cs b E w st:=fun hd hu hb hk=>by
 obtain⟨e,w2,fr,⟨E2,S2,d1,d2,d3⟩,k2,k3⟩:=h (ev.df.trans hd) (fun j v x hv hx=>(hu j v x hv hx).mono ev (hcap x (Bh hx))) hb hk;exact⟨e,w2,fr,⟨E2,S2,d1,(ev.weaken (B3 _) (B3 _)).trans d2,d3⟩,Comes.of_steps hs k2,k3⟩
theorem ACalls.defer{f g:FuncId}{fn:Func}{c:Code}{args caps:List AV}{o:Oper}{cl:Call}{ops:Array Oper}{i n:Nat}{l:List Nat}{k:List Item}{t:Nat}(hf:X.P.funcs[f]?=some fn)
 (h:∀us:Array Value,us.size=caps.length→AK X ⟨f,fn,n,0⟩ (.inRegion ops l::k) F' S' fun e _=>e=.hook (DefC X f g us caps R))(hb:fn.body=some c:=by rfl)(hl:Nat.ble args.length fn.ntmps=true:=by rfl)
 (he:Go.V.ev X fn.ntmps 200 [.code c] (Ot 0 args) ⟨[],[]⟩=(.inRegion ops (i::l)::k,F',S'):=by rfl)(ho:ops[i]?=some o:=by rfl)(hw:A8 ops F' o=some true:=by rfl)(hop:o.op=.defer cl:=by rfl)
 (hcal:cl.callee=.value (.tmp t):=by rfl)(hca:cl.args=#[]:=by rfl)(hod:o.dst=none:=by rfl)(ht:lk F' t=some (.fn g caps):=by rfl)(hn:Z8 S'.boxes=n:=by rfl) [hcap:OKL n 0 caps]:ACalls X f args ⟨[],[]⟩ R:=by
 refine ACalls.defers hf hb (Jz hl) he ho hw hop hcal hca hod ht fun E w a b cs us hI hF hdf hul hur hbf hbk=>?_;rw[←J5]at *;rcases h us hul E w a b cs hI hF (by rw[←hn,←J5];exact Bo _) (B3 _) hbf with⟨e,w',fr,⟨E2,S2,_,_,h3⟩,_⟩|⟨C',h1,_,h3⟩
 ·cases e with
  |returned v=>obtain⟨_,_,h⟩:=h3;cases h
  |panicked ch=>cases h3
  |outgrown=>exact h3.elim
 ·cases h1;exact h3 hdf hur hbf hbk
def DefOk(X:Cx)(g:FuncId)(caps:List AV)(S:St)(u u':FrameMode)(S2:St):Prop:=
 Nr X.P g∧∀(E:Env) (w:World) (us:Array Value),E.df=[]→Inv X E S w→us.size=caps.length→(∀(j:Nat) (v:Value) (x:AV),us[j]?=some v→caps[j]?=some x→Rel E w v x) →
  CallsD X.P g us u w fun e u2 w'=>u2=u'∧(∃v,e=.returned v)∧∃E',Inv X E' S2 w'∧Evol E w E' w' S.boxes.length 0
theorem DefOk.run{g:FuncId}{gn:Func}{c:Code}{caps:List AV}{o:Oper}{cl:Call}{ops:Array Oper}{i d n:Nat}{l:List Nat}{k:List Item}{r:AV}{bx:List (List (List AV))}{S2:St}{u u':FrameMode}{v0:Value}(hf:X.P.funcs[g]?=some gn)
 (hrec:∀(c0:Frame)(cs:List Frame),c0.mode=u→(match recoverD (c0::cs)with|some q=>q|none=>(.nilIface,c0::cs))=(v0,{ c0 with mode:=u' }::cs))
 (hk:AK X ⟨g,gn,n,0⟩ (.inRegion ops l::k) ((d,.val v0)::F') S' fun e S'=>e=.ret r∧S'=S2)(hn:Z8 bx=n:=by rfl)(hb:gn.body=some c:=by rfl)(hl:Nat.ble caps.length gn.ntmps=true:=by rfl)
 (hnm:(gn.name == "runtime.NumGoroutine")=false:=by kernel_rfl)(he:Go.V.ev X gn.ntmps 200 [.code c] (Ot 0 caps) ⟨bx,[]⟩=(.inRegion ops (i::l)::k,F',S'):=by rfl)(ho:ops[i]?=some o:=by rfl)(hw:A8 ops F' o=some true:=by rfl)(hop:o.op=.call cl:=by rfl)(hcal:cl.callee=.builtin .recover:=by rfl)
 (hca:cl.args=#[]:=by rfl)(hod:o.dst=some d:=by rfl)(hd:Nat.blt d gn.ntmps=true:=by rfl):DefOk X g caps ⟨bx,[]⟩ u u' S2:=by
 subst hn;rw[J5]at hk;exact⟨⟨gn,hf,hnm,by rw[hb];rfl⟩,fun E w us hdf hI hs hr=>Apt hf hb (Jz hl) he ho hw hop hcal hca hod (by simpa[Fw]using hd) rfl rfl hrec hk hdf hI hs hr⟩
theorem Ane{f g:FuncId}{fn:Func}{n:Nat}{us:Array Value}{caps:List AV}{bx:List (List (List AV))}{u u':FrameMode}{xs:List AV}{r:AV}{S2:St}(hus:us.size=caps.length)(hf:X.P.funcs[f]?=some fn)(hcap:∀x,x∈caps→Ok n 0 x)(hu:u≠.run)
 (hset:settle u'=.returning)(hD:DefOk X g caps ⟨bx,[]⟩ u u' S2)(hres:Mf X F S2 fn.results.toList=some xs)(hr0:C8 xs=r)(hz:Ok 0 0 r)
 (h:∀(E:Env)(w:World)(a:Act)(b:Frame)(cs:List Frame),Inv X E S w→FR E w F a fn.ntmps→b.fn=f→∃E' w' fr,Inv X E' ⟨bx,[]⟩ w'∧Evol E w E' w' E.boxes.length E.toks.length∧fr.fn=b.fn∧fr.mode=u∧fr.defers=a.defers∧fr.tmps=a.tmps∧fr.kind=b.kind ∧
   Steps X.P (lone (b.at a K) cs w) (lone fr cs w')):AK X ⟨f,fn,n,0⟩ K F S fun e _=>e=.hook (DefC X f g us caps fun e S=>e=.ret r∧S=⟨[],[]⟩):=by
 intro E w a b cs hI hF hn hm hb;refine .inr ⟨_,rfl,fun E w E' w' st st' hs ev h=>DefC.closed hcap cs b E w E' w' st st' hs ev h,fun hdf hur hbf hbk=>?_⟩;obtain⟨E',w',fr,h1,h2,h3,h4,h5,h6,h7,h8⟩:=h E w a b cs hI hF hb;have hF':FR E' w' F a fn.ntmps:=hF.step h2;obtain⟨hE,hc⟩:=hD;have hcall:=hc (E'.dfs []) w' us rfl (h1.dfE []) hus (fun j v x hv hx=>((hur j v x hv hx).step h2).dfE []);obtain⟨e,w2,fr2,⟨E3,S3,d1,d2,d3⟩,k2,k3,k4⟩:=Ael (cs:=cs) h1 hF' rfl hu h4 (by rw[h5];exact hF.nod.trans hdf) h6 (h7.trans hbk) (h3.trans hbf) hf hE hset hcall hres hr0 hz;exact⟨e,w2,fr2,⟨E3,S3,d1,(h2.weaken (B3 _) (B3 _)).trans d2,d3⟩,Comes.of_steps h8 k2,k3,k4⟩
theorem Av3{f g:FuncId}{fn:Func}{n:Nat}{us:Array Value}{caps:List AV}{bx:List (List (List AV))}{k:List Item}{xs:List AV}{r:AV}{S2:St}(hus:us.size=caps.length)(hf:X.P.funcs[f]?=some fn)(hD:DefOk X g caps ⟨bx,[]⟩ .returning .returning S2)
 (hres:Mf X F S2 fn.results.toList=some xs:=by rfl)(hr0:C8 xs=r:=by rfl) [hz:OK 0 0 r] [hcap:OKL n 0 caps](hS:S=⟨bx,[]⟩:=by rfl) :
 AK X ⟨f,fn,n,0⟩ (.code .ret::k) F S fun e _=>e=.hook (DefC X f g us caps fun e S=>e=.ret r∧S=⟨[],[]⟩):=
 Ane hus hf hcap.ok (by simp) rfl hD hres hr0 hz.ok fun E w a b cs hI hF hb=>⟨E,w,{ b.at a (.code .ret::k)with mode:=.returning },by rw[←hS];exact hI,Evol.refl _ _ _ _,rfl,rfl,rfl,rfl,rfl,.one step_ret⟩
theorem Av4{f g:FuncId}{fn:Func}{n:Nat}{us:Array Value}{caps:List AV}{bx:List (List (List AV))}{k:List Item}{l:List Nat}{ops:Array Oper}{i:Nat}{o:Oper}{xs:List AV}{r:AV}{S2:St}{ch:List PanicEntry}{u':FrameMode}(hus:us.size=caps.length)
 (hf:X.P.funcs[f]?=some fn)(ht:Thr X fn.ntmps ops i o F S ch ⟨bx,[]⟩)(hset:settle u'=.returning)(hD:DefOk X g caps ⟨bx,[]⟩ (.panicking ch) u' S2)(hres:Mf X F S2 fn.results.toList=some xs:=by rfl)(hr0:C8 xs=r:=by rfl) [hz:OK 0 0 r] [hcap:OKL n 0 caps] :
 AK X ⟨f,fn,n,0⟩ (.inRegion ops (i::l)::k) F S fun e _=>e=.hook (DefC X f g us caps fun e S=>e=.ret r∧S=⟨[],[]⟩):=
 Ane hus hf hcap.ok (by simp) hset hD hres hr0 hz.ok fun E w a b cs hI hF hb=>ht F E w a (fun _ _=>rfl) hI hF b k cs l
theorem Aix{ops:Array Oper}{i:Nat}{o:Oper}{p:Operand}{xt t:TypeId}{v:Value}{x:AV}{td:TypeDesc}(htd:X.P.underlying t=some td)(hni:∀ms,td≠.interface ms)(hv:∀(E:Env)(w:World),Rel E w v x)(ho:ops[i]?=some o:=by rfl)
 (hw:A8 ops F o=some true:=by rfl)(hop:o.op=.typeAssert p xt t true:=by rfl)(hp:Dw X F p=some (.val (.iface t v)):=by rfl):Ndo X N ops i o F (.tup [x,.val (.bool true)]) S S:=by
 refine Dj ho hw fun F' E w a hc hI hF=>?_;rw[hop]at hc;have r1:=Ak hI hF ((hc p (by simp[Op.operands])).trans hp);generalize hx:a.eval p=y at r1;cases r1;refine⟨.tuple #[v,.bool true],?_,.tup _ _ rfl fun j u z hu hz=>?_⟩
 ·cases td with
  |interface ms=>exact absurd rfl (hni ms)
  |_=>simp[execOp,hop,hx,Instr.typeAssert,run_underlying htd]
 ·cases j with
  |zero=>simp at hu hz;subst hu;subst hz;exact hv E w
  |succ j=>cases j with
   |zero=>simp at hu hz;subst hu;subst hz;exact .val _
   |succ j=>simp at hz
theorem Apn{ops:Array Oper}{i:Nat}{o:Oper}{p:Operand}{t t':TypeId}(hu:X.P.underlying t=some (.interface (X.P.methodsAt t)))(ho:ops[i]?=some o:=by rfl)(hw:A8 ops F o=some true:=by rfl)(hop:o.op=.binOp .neq t p (.const .nilIface) t':=by rfl)
 (hp:Dw X F p=some (.val .nilIface):=by rfl):Ndo X N ops i o F (.val (.bool false)) S S:=by
 refine Dj ho hw fun F' E w a hc hI hF=>?_;rw[hop]at hc;have r1:=Ak hI hF ((hc p (by simp[Op.operands])).trans hp);generalize hx:a.eval p=x at r1;cases r1;exact⟨.bool false,by simp[execOp,hop,hx,show a.eval (.const .nilIface)=.nilIface from rfl,eqGuard,run_neq_nil_nil w t hu],.val _⟩
theorem Ald{ops:Array Oper}{i:Nat}{o:Oper}{p:Operand}{t t' u:TypeId}{v:Value}(hu:X.P.underlying t=some (.interface (X.P.methodsAt t)))(ho:ops[i]?=some o:=by rfl)(hw:A8 ops F o=some true:=by rfl)(hop:o.op=.binOp .neq t p (.const .nilIface) t':=by rfl)
 (hp:Dw X F p=some (.val (.iface u v)):=by rfl):Ndo X N ops i o F (.val (.bool true)) S S:=by
 refine Dj ho hw fun F' E w a hc hI hF=>?_;rw[hop]at hc;have r1:=Ak hI hF ((hc p (by simp[Op.operands])).trans hp);generalize hx:a.eval p=x at r1;cases r1;exact⟨.bool true,by simp[execOp,hop,hx,show a.eval (.const .nilIface)=.nilIface from rfl,eqGuard,run_neq_held_nil w t u v hu],.val _⟩
end
end Go.V
namespace Go.V
open Go Go.Proofs Go.Proofs.Tryz
theorem Ayl(n:Nd)(hn:Ai n≤4000000000):Pure X 293 [nd n] (vi (Dh n)):=by
 induction n using Nd.ind with
 |h n ih=>
 refine Pure.run func293 ?_;have hc:=Cj n;have hll:=Bm n.kids;have hd:=T6 n;rw[J4]at hd⊢;refine Ar (ι:=Nat) 1 0 (fun i=>i≤n.kids.length) (fun i=>[(9,vi i),(8,vi n.kids.length),(7,.sl (Ap n.kids) .no),(3,vi (Gu (n.kids.take i):Nat))]) (fun _=>⟨[[Af n]],[]⟩) (fun i=>n.kids.length-i) ?_ 0 (B3 _)
  ⟨rfl,by rw[←Ad];rfl,rfl,rfl,trivial⟩
 intro i hi IH;refine C7 (fun h=>?_) (fun h=>?_)
 ·have hlt:i<n.kids.length:=by have:=A5 h;omega
  obtain⟨kid,hkid⟩:=Ab n.kids hlt;have hsn:=Aa2 hkid;have hcs:=Pm hkid;have hle:=Qi (l:=n.kids) (i:=i+1);refine B4 i (by omega) (Am hkid) ?_;refine Al (ih kid (Bh hkid) (by omega)) ?_;refine IH (i+1) hlt (by omega) _ _ ⟨vsx (by omega),rfl,rfl,Ci ?_,trivial⟩ rfl rfl rfl;split<;>omega
 ·have:i=n.kids.length:=by have:=Ba h;omega
  subst this;refine Az func293 ?_;rw[I2];exact congrArg (fun x=>AV.val (.int .i64 x)) ((Ac (by omega) (by omega)).trans (by omega))
theorem Ayk(n:Nd)(hn:Ai n≤4000000000):Pure X 292 [nd n] (vi (Ai n)):=t1 n hn
def O0(n:Nd):Bool:=decide (500<Ai n∨24<Dh n)
theorem Afu(n:Nd)(hn:Ai n≤4000000000):Pure X 264 [nd n] (vb (O0 n)):=by
 refine Pure.run func264 ?_;refine Al (Ayk n hn) ?_;refine Df (fun h=>?_) (fun h=>?_)
 ·have h':500<Ai n:=by have:=A5 h;omega
  refine As func264 ?_;simp[O0,h']
 ·have h':¬500<Ai n:=by have:=Ba h;omega
  refine Al (Ayl n hn) ?_;refine As func264 ?_;simp[O0,h'];omega
theorem Apd:X.P.underlying 20=some (.interface (X.P.methodsAt 20)):=by kernel_rfl
theorem Asy(x:AV)(u:RS)(e:Nat)(n:Nd)(i:Int):DefOk X 321 [.ptr 0 0 0,.ptr 1 0 0] ⟨[[Af n],[[vi i]],[pc u e]],[]⟩ .returning .returning ⟨[[Af n],[[vi i]],[pc u e]],[]⟩:=by
 refine DefOk.run func321 (r:=.tup []) (v0:=.nilIface) (fun c0 cs h=>by simp[recoverD,h];obtain⟨_,_,_,_,_,_,_⟩:=c0;simp at h;subst h;rfl) ?_;refine Bi 100 rfl ?_;refine Bn (Apn Apd) ?_;refine Ag ?_;exact Ec func321 rfl rfl
theorem Awx(u:RS)(e p:Nat):DefOk X 321 [.ptr 0 0 0,.ptr 1 0 0] ⟨[[zN],[[vi 0]],[pc u e]],[]⟩ (.panicking (pan p)) (.panicking [{ v:=.iface 345 (.agg ⟨[.int .i64 p]⟩),recovered:=true }]) ⟨[[zN],[[vi p]],[pc u e]],[]⟩:=by
 obtain⟨d,hd,hk⟩:=(X.ty_ok 345 _ rfl).agg;obtain⟨fields,rfl,_⟩:=hk;refine DefOk.run func321 (r:=.tup []) (v0:=.iface 345 (.agg ⟨[.int .i64 p]⟩)) (fun c0 cs h=>by simp[recoverD,h,pan]) ?_;refine Bi 100 rfl ?_;refine Bn (Ald Apd) ?_;refine A0 ?_;refine Bn (Aix (x:=.agg [vi p]) hd (by simp) (fun E w=>.agg _ _ rfl fun j v x hv hx=>?_)) ?_
 ·cases j with
  |zero=>simp at hv hx;subst hv;subst hx;exact .val _
  |succ j=>simp at hx
 refine Ag ?_;refine D8 24 ?_;refine Dz (A7 rfl rfl rfl rfl rfl rfl rfl) ?_ ?_
 ·exact An (Ck rfl rfl rfl) Gy
 refine Ch (A7 rfl rfl rfl rfl rfl rfl rfl) ?_;refine B2 ?_;exact Ec func321 rfl rfl
theorem Pure.less{X:Cx}{f:FuncId}{args:List AV}{r y:AV}(h:Pure X f args r) [hw:RinC [] [] r y]:Pure X f args y:=by
 refine⟨h.1,fun E w vs hd hI hs hr=>(h.2 E w vs hd hI hs hr).mono fun e w' he=>?_⟩;obtain⟨E1,S1,d1,d2,d3⟩:=he;cases e with
 |returned v=>
  obtain⟨r',hr',hre,rfl⟩:=d3;cases hre;exact⟨E1,_,d1,d2,y,hw.s.less hr',rfl,rfl⟩
 |panicked ch=>obtain⟨h,_⟩:=d3;cases h
 |outgrown=>exact d3.elim
def Aoz(r:RS)(e:Nat):Nd×Int:=if (Ep r).2.bad then(Cg,(Ep r).2.place e)else((Ep r).1,-1)
theorem Aqv{r:RS}(h:(Ep r).2.bad=false):(Ep r).2.ws.length≤(Ep r).2.at_:=by
 simp only[Ep,RS.ends]at h⊢;split at h
 ·simp[RS.spoil]at h
 ·rename_i hn;rw[if_neg hn];omega
theorem A19(ws:List Wd)(e:Nat)(ho:(RS.mk ws 0 false).ok)(hw:(RS.mk ws 0 false).wk) :
 Pure X 301 [.sl (Hk ws) .no,vi e,.fn 302 []] (.tup [nd (Aoz ⟨ws,0,false⟩ e).1,vi (Aoz ⟨ws,0,false⟩ e).2]):=by
 have hp:=A1j ⟨ws,0,false⟩ e ho hw rfl;have he:=Aqv (r:=⟨ws,0,false⟩);unfold Aoz;generalize Ep ⟨ws,0,false⟩=T at hp he⊢;obtain⟨n,q⟩:=T;simp only at hp he⊢;by_cases g:q.bad=false
 ·rw[if_neg (by simp[g])];have he:=he g;refine⟨⟨_,func301,by kernel_rfl,rfl⟩,ACalls.defer (g:=321) (caps:=[.ptr 0 0 0,.ptr 1 0 0]) (n:=2) func301 fun us hus=>?_⟩;refine Bi 100 rfl ?_;refine If 8 (.ptr 2 0 0) ?_;refine If 15 (.ptr 2 0 0) ?_;refine Ae [2] [] (hp.ok g) ?_;refine Ag ?_ (ht:=by rw[D2,Ad9];simp;omega);exact Av3 hus func301 (Asy .junk q e n (-1))
 ·have g:=B7 g;rw[if_pos (by simp[g])];have:Pure X 301 [.sl (Hk ws) .no,vi e,.fn 302 []] (.tup [.agg zN,vi (q.place e)]):=by
   refine⟨⟨_,func301,by kernel_rfl,rfl⟩,ACalls.defer (g:=321) (caps:=[.ptr 0 0 0,.ptr 1 0 0]) (n:=2) func301 fun us hus=>?_⟩;refine Bi 100 rfl ?_;refine If 15 (.ptr 2 0 0) ?_;exact Av4 hus func301 (Thr.hd [2] [] (hp.bad g)) rfl (Awx q e (q.place e))
  exact Pure.less this
theorem Agj:∀(f a:Nat)(r:List UInt8)(out:List Wd),(Hg f a r out).2.1=0→(Hg f a r out).2.2=0
 |0,a,r,out,h=>rfl
 |f+1,a,[],out,h=>rfl
 |f+1,a,c::l,out,h=>by
  simp only[Hg]at h⊢;split at h
  ·simp at h
  ·rename_i h1;rw[if_neg h1];split at h
   ·simp at h
   ·rename_i h2;rw[if_neg h2];exact Agj f _ _ _ h
theorem Arn{s:List UInt8}(h:(C4 s).2.1=0):(C4 s).2.2=0:=by
 unfold C4 at h⊢;split at h
 ·simp at h
 ·rename_i h1;rw[if_neg h1];exact Agj _ _ _ _ h
theorem Ayq(s:List UInt8)(hs:s.length≤900000000):Pure X 268 [str s] (.tup [nd (Fb s).1,.agg [vi (Fb s).2.1,vi (Fb s).2.2]]):=by
 have hw:Pure X 300 [str s] (.tup [.sl (Hk (C4 s).1) .no,.agg [vi (C4 s).2.1,vi (C4 s).2.2]]):=Ayt s hs;have hat:=Arn (s:=s);have ho:=Aih s;have hk:=Aii s;have hgood:=Xi ho hk;have hP:Fb s=if (C4 s).2.1=0 then
  (if (Ep ⟨(C4 s).1,0,false⟩).2.bad then(Cg,4,((Ep ⟨(C4 s).1,0,false⟩).2.place s.length:Int))
  else if 500<Ai (Ep ⟨(C4 s).1,0,false⟩).1∨24<Dh (Ep ⟨(C4 s).1,0,false⟩).1 then(Cg,5,0)else((Ep ⟨(C4 s).1,0,false⟩).1,0,0))
  else(Cg,(C4 s).2.1,((C4 s).2.2:Int)):=rfl
 rw[hP];simp only[rs0]at ho hk hgood;generalize C4 s=T at hw hat ho hk hgood⊢;obtain⟨ws,c,at_⟩:=T;simp only at hw hat ho hk hgood⊢;have hfl:R6 X.P 268=some [0,0]:=by kernel_rfl
 refine Pure.run func268 ?_;refine Al hw ?_;refine Bn (Vi (r:=!((c==0)&&(((at_:Int)==0)&&true))) rfl rfl rfl rfl rfl hfl rfl (.inr ⟨rfl,rfl⟩)) ?_;refine Ah (fun h=>?_) (fun h=>?_)
 ·have h':c≠0:=by
   intro h0;have:=hat h0;simp[h0,this]at h
  rw[if_neg h'];refine D8 12 ?_;refine Dz (A7 rfl rfl rfl rfl rfl rfl rfl) ?_ ?_
  ·exact An (Ck rfl rfl rfl) Gy
  refine Ch (A7 rfl rfl rfl rfl rfl rfl rfl) ?_;refine B2 ?_;refine As func268 ?_;rfl
 have h':c=0:=by simp at h;exact h.1
 rw[if_pos h'];have hR:=A19 ws s.length ho hk;unfold Aoz at hR;generalize Ep ⟨ws,0,false⟩=q at hR hgood⊢;obtain⟨n,u⟩:=q;simp only at hR hgood⊢;by_cases g:u.bad=true
 ·rw[if_pos g]at hR;rw[if_pos g];refine Al hR ?_;refine A0 ?_ (ht:=by simp);refine As func268 ?_;rfl
 ·rw[if_neg g]at hR;rw[if_neg g];have g':u.bad=false:=by simpa using g
  obtain⟨g1,g2,g3⟩:=hgood g';have hl0:=ho.1;simp only at hl0 g2;have hc:Ai n≤4000000000:=by omega
  refine Al hR ?_;refine Ag ?_;refine Al (Afu n hc) ?_;refine Ah (fun h2=>?_) (fun h2=>?_)
  ·have h2':500<Ai n∨24<Dh n:=by simpa[O0]using h2
   rw[if_pos h2'];refine As func268 ?_;rfl
  ·have h2':¬(500<Ai n∨24<Dh n):=by simpa[O0]using h2
   rw[if_neg h2'];refine As func268 ?_;rfl
end Go.V
namespace Go.V
open Go
section
variable {X:Cx}{B:Bx}{E:Env}{S:St}{w:World}{F:C5}{a:Act}{N:Nat}{ops:Array Oper}{i:Nat}{o:Oper}
def Q8(s:List UInt8):List Value:=s.map fun b=>.int .u8 b.toNat
theorem V8(s:List UInt8):(Q8 s).length=s.length:=by simp[Q8]
theorem Apc{s:List UInt8}{j:Nat}{x:UInt8}(h:s[j]?=some x):(Q8 s)[j]?=some (.int .u8 x.toNat):=by simp[Q8,h]
theorem A2x{s:List UInt8}{j:Nat}{v:Value}(h:(Q8 s)[j]?=some v):∃x,s[j]?=some x∧v=.int .u8 x.toNat:=by
 simp only[Q8,Gl]at h;cases hs:s[j]? with
 |none=>simp[hs]at h
 |some x=>simp[hs]at h;exact⟨x,rfl,h.symm⟩
theorem Azd{tx:TypeId}(hk:X.P.underlying tx=some .string)(s:List UInt8):Src X.P 1 tx (.string ⟨⟨s⟩⟩) s.length (Q8 s) w:=by
 have:=Src.ofString (P:=X.P) w hk ⟨⟨s⟩⟩;exact this
theorem Au6{l:List Nat}{t x:Nat}(h:l[t]?=some x):l.set t x=l:=by
 apply Abp;intro j;rw[Vb];split
 ·rename_i hj;subst hj;split
  ·exact h.symm
  ·rename_i hl;exact absurd (Aa h) hl
 ·rfl
theorem Alh(hI:Inv X E S w){t:Nat}{tt tx ty te:TypeId}{ye:Ty}(hu:X.P.underlying tt=some (.slice te))(hye:X.ty te=some ye)(h1:ye.size=1)
 {s s':List UInt8}{u x:Value}(hsrc:Src X.P 1 tx x s'.length (Q8 s') w)(hp:Rel E w u (.buf te s t))(hS:S.toks[t]?=some s.length)(hb:s.length+s'.length≤100000000000) :
 ∃r E' w',(Builtin.append_ #[tt,tx] ty #[u,x]).run X.P w=.ok r w'∧Inv X E' ⟨S.boxes,S.toks.set t (s.length+s'.length)⟩ w'∧Evol E w E' w' E.boxes.length E.toks.length ∧
  Rel E' w' r (.buf te (s++s') t):=by
 obtain⟨i,z,hi,hsz,hby,hzv,hzc,hzl,_⟩:=(X.ty_ok te ye hye).info;rw[h1]at hsz hzl;rw[←hsz]at hsrc;cases hp with
 |buf _ _ _ a cap k hk1 hk2 hx hs hc=>
 have hkl:k.len=s.length:=by
  have h1:=hI.nt;have h2:(E.toks.map Tk.len)[t]?=some k.len:=by simp[hk1]
  rw[h1,hS]at h2;exact(Option.some.inj h2).symm
 have hba:=hs hkl.symm;by_cases h0:s'=[]
 ·subst h0;refine⟨.slice a s.length cap,E,w,?_,?_,Evol.refl _ _ _ _,?_⟩
  ·have hn:s.length+0≤cap:=hc;have hl:(Builtin.lenOf x).run X.P w=.ok 0 w:=hsrc.len w;have hf:(Builtin.firstCells i.size 0 x).run X.P w=.ok #[] w:=hsrc.cells;rcases hsrc.kind with⟨e',hk⟩|hk
   all_goals cases a with
   |none=>simp[Builtin.append_,run_underlying hu,run_underlying hk,sizeOf,typeInfo,hi,hl,hf,hc]
   |some a=>simp[Builtin.append_,run_underlying hu,run_underlying hk,sizeOf,typeInfo,hi,hl,hf,hc,storeCells]
  ·rw[show s.length+([]:List UInt8).length=s.length from rfl,Au6 hS];exact hI
  ·rw[H0];exact .buf te s t a cap k hk1 hk2 hx hs hc
 have hnew:0<s'.length:=zzq65.2 h0;have hlen:(s++s').length=s.length+s'.length:=by simp
 by_cases hg:cap<s.length+s'.length
 ·have hold:(Builtin.firstCells i.size s.length (.slice a s.length cap)).run X.P w.drew=.ok (Q8 s).toArray w.drew:=by
   rcases Nat.eq_zero_or_pos s.length with h0|h0
   ·have hs0:s=[]:=zzq94.1 h0;rw[h0,hs0];cases a with
    |none=>exact run_firstCells_none _ _ _ _ _
    |some a0=>exact run_firstCells_some _ _ _ _ _ _ _ (by simp[Q8]) (fun j v hj=>by simp[Q8]at hj)
   ·unfold BufAt at hba;split at hba
    ·rw[hba.1]at h0;simp at h0
    ·obtain⟨rfl,rfl,rfl,q4,q5,q6⟩:=hba;refine run_firstCells_some _ _ _ _ _ _ _ (by rw[V8,hsz,Nat.mul_one]) (fun q v hq=>?_);obtain⟨x,hx,rfl⟩:=A2x hq;rw[Ge,Jy];exact q6 q x hx
  have hby':(s.length+s'.length)*i.bytes≤140737488355328:=Pb (Nat.mul_le_mul_left _ hby) (by omega);have hrun:=run_append_grow_src w tt tx ty te i z hu hi hzv a s.length cap _ hold x s'.length _ hsrc hg (by omega) (growslice_fits hg hby');have hcc:=grownCap_ge w (s.length+s'.length) cap te;generalize grownCap w (s.length+s'.length) cap te=cc at hrun hcc;have hcs:((Q8 s++Q8 s').toArray++Builtin.zeroCells z.cells (cc-(s.length+s'.length))).size=cc*1:=by
   have hzs:z.cells.size=1:=by rw[←hzl,←hzc];simp
   have:(Builtin.zeroCells z.cells (cc-(s.length+s'.length))).size=(cc-(s.length+s'.length))*1:=by
    simp[Builtin.zeroCells,hzs]
   rw[Array.size_append,this,Abl,Ex,V8,V8];omega
  have hpush:∀o:Obj,(w.drew.alloc o).heap=w.heap.push o:=fun _=>rfl;obtain⟨ev,hI',hmt⟩:=O7 (w':=w.drew.alloc (.cells ((Q8 s++Q8 s').toArray++Builtin.zeroCells z.cells (cc-(s.length+s'.length))) te)) hI (t:=t) (n:=s.length) (m:=s.length+s'.length)
   (b:=w.heap.size) (c:=cc) (sz:=1) hk1 hkl (by omega) (fun _=>hcc) rfl rfl rfl (by rw[hpush];simp) (fun q hq _=>by rw[hpush,Y9 hq];simp[hq]) (.inl rfl) (by rw[hpush];simp)
   (fun o v _ h=>by have:=J3 h;omega) ⟨_,te,by rw[hpush];simp,fun _=>hcs⟩ (Evol.push (E:=E) (w:=w) ⟨_,hpush _⟩ rfl rfl rfl 0 0).ty
  refine⟨_,_,_,hrun,hI',ev,?_⟩;have hkt:=Aa hk1;have hheap:(w.drew.alloc (.cells ((Q8 s++Q8 s').toArray++Builtin.zeroCells z.cells (cc-(s.length+s'.length))) te)).heap[w.heap.size]? =
   some (.cells ((Q8 s++Q8 s').toArray++Builtin.zeroCells z.cells (cc-(s.length+s'.length))) te (0,0)):=by rw[hpush];simp
  refine(fun hsl:∀n,n=(s++s').length→Rel (E.setTok t ⟨s.length+s'.length,some (w.heap.size,cc,1)⟩) (w.drew.alloc (.cells ((Q8 s++Q8 s').toArray++Builtin.zeroCells z.cells (cc-(s.length+s'.length))) te)) (.slice (some ⟨w.heap.size,0,none⟩) n cc) (.buf te (s++s') t)=>hsl _ hlen.symm) ?_;rintro n rfl;refine .buf te (s++s') t _ cc ⟨s.length+s'.length,some (w.heap.size,cc,1)⟩ (by simp[Env.setTok,hkt]) (by rw[hlen];exact Bo _) (by unfold Pg;omega) (fun _=>?_) (by omega);refine⟨rfl,rfl,rfl,by simp only[F3,hheap],fun j hj=>hmt j (by omega),fun j x hx=>?_⟩;have hj:=Aa hx;simp only[World.cell?,hheap];rw[Zb (by simp[V8];omega),Rc];rw[show Q8 s++Q8 s'=Q8 (s++s') by simp[Q8]];exact Apc hx
 ·obtain⟨kl,ksp⟩:=k;cases ksp with
  |none=>simp only[BufAt]at hba;omega
  |some q=>
   obtain⟨b',c',s1⟩:=q;simp only[BufAt]at hba;simp only at hkl;obtain⟨rfl,rfl,rfl,q4,q5,q6⟩:=hba;subst hkl;obtain⟨h1,h00,cur,te',hh,hcs⟩:=hI.tok t _ b' cap 1 hk1;have h1:=h1 (by decide);have hcs:=hcs (by decide);have hte:te'=te:=by simpa[F3,hh]using q4
   subst hte;have hfit:s.length*i.size+(Q8 s').length≤cur.size:=by rw[V8,hcs,hsz];omega
   have hrun:=P3 tt tx ty te' i hu hi b' s.length cap x s'.length _ hsrc (by omega) hh hfit;rw[hsz,Nat.mul_one]at hrun hfit;have hl':=V8 s';have hat:=setRow_heap w b' cur (cur.toList.take s.length++Q8 s'++cur.toList.drop (s.length+(Q8 s').length)).toArray te' _ hh;have hoth:∀q,q≠b'→(w.setRow b' (cur.toList.take s.length++Q8 s'++cur.toList.drop (s.length+(Q8 s').length)).toArray).heap[q]?=w.heap[q]?:=
    fun q hq=>setRow_other w b' q _ (by omega)
   have hspl:=fun q=>K7 cur.toList (Q8 s') s.length q (by simpa using hfit);have hsp1:∀q,q<s.length→(cur.toList.take s.length++Q8 s'++cur.toList.drop (s.length+(Q8 s').length))[q]?=cur.toList[q]?:=fun q h=>by
    rw[hspl,if_neg (by omega)]
   have hsp2:∀q,s.length≤q→q<s.length+(Q8 s').length→(cur.toList.take s.length++Q8 s'++cur.toList.drop (s.length+(Q8 s').length))[q]?=(Q8 s')[q-s.length]?:=fun q h1 h2=>by
    rw[hspl,if_pos ⟨h1,h2⟩]
   have hbw:b'<w.heap.size:=hI.own_lt (.inr ⟨t,_,cap,1,hk1⟩);obtain⟨ev,hI',hmt⟩:=O7 (w':=w.setRow b' (cur.toList.take s.length++Q8 s'++cur.toList.drop (s.length+(Q8 s').length)).toArray) hI (t:=t) (n:=s.length) (m:=s.length+s'.length)
    (b:=b') (c:=cap) (sz:=1) hk1 rfl (by omega) (fun _=>by omega) rfl rfl rfl (by simp) (fun q _ hq=>hoth q hq) (.inr rfl) (by simpa using hbw)
    (fun o v ho h=>by
      simp only[World.cell?,hh]at h;simp only[World.cell?,hat,Rc];rw[hsp1 o (by omega)];simpa using h)
    ⟨_,_,hat,fun _=>by rw[Abl,K8 _ _ _ (by simpa using hfit)];simpa using hcs⟩
    (fun q e he=>Pw (fun h=>by subst h;exact⟨_,_,_,_,hh,hat⟩) (hoth q) he)
   refine⟨_,_,_,hrun,hI',ev,?_⟩;have hkt:=Aa hk1;refine(fun hsl:∀n,n=(s++s').length→Rel (E.setTok t ⟨s.length+s'.length,some (b',cap,1)⟩) (w.setRow b' (cur.toList.take s.length++Q8 s'++cur.toList.drop (s.length+(Q8 s').length)).toArray) (.slice (some ⟨b',0,none⟩) n cap) (.buf te' (s++s') t)=>hsl _ hlen.symm) ?_;rintro n rfl;refine .buf te' (s++s') t _ cap ⟨s.length+s'.length,some (b',cap,1)⟩ (by simp[Env.setTok,hkt]) (by rw[hlen];exact Bo _) (by unfold Pg;omega) (fun _=>?_) (by omega);refine⟨rfl,rfl,rfl,ev.ty _ _ q4,fun j hj=>hmt j (by omega),fun j x hx=>?_⟩;have hj:=Aa hx;by_cases hjs:j<s.length
   ·rw[Cs hjs]at hx;exact ev.cell _ _ _ (q5 j hjs) (q6 j x hx)
   ·rw[Gk (by omega)]at hx;simp only[World.cell?,hat,Rc];rw[hsp2 j (by omega) (by omega)];exact Apc hx
theorem Xz{c:Call}{p q:Operand}{t tt tx te:Nat}{y yx ye:Ty}{s s':List UInt8}{tk:List Nat}(ho:ops[i]?=some o)(hw:A8 ops F o=some true)(hop:o.op=.call c)(hcal:c.callee=.builtin .append)(hargs:c.args.toList=[p,q])
 (htys:c.argTypes.toList=[tt,tx])(hp:Dw X F p=some (.buf te s t))(hq:Dw X F q=some (str s'))(hy:X.ty tt=some y)(hyk:y.k=.slc te)(hye:X.ty te=some ye)(h1:ye.size=1)(hyx:X.ty tx=some yx)(hyxk:yx.k=.string)
 (hS:S.toks[t]?=some s.length)(hb:s.length+s'.length≤100000000000)(htk:S.toks.set t (s.length+s'.length)=tk):Ndo X N ops i o F (.buf te (s++s') t) S ⟨S.boxes,tk⟩:=by
 subst htk;intro F' E w a hlk hI hF;obtain⟨callee,args,argTypes⟩:=c;simp only at hcal hargs htys;subst hcal;have ha:args=#[p,q]:=by rw[←zzq34];exact hargs
 have ht:argTypes=#[tt,tx]:=by rw[←zzq34];exact htys
 subst ha;subst ht;have hlo:=G0 hlk;rw[hop]at hlo;have r1:=Ak hI hF ((Dk (X:=X) (F:=F) (F':=F') (o:=p) fun s hs=>hlo s (by simp[Op.operands,Call.operands,hs])).trans hp);have r2:=Ak hI hF ((Dk (X:=X) (F:=F) (F':=F') (o:=q) fun s hs=>hlo s (by simp[Op.operands,Call.operands,hs])).trans hq);obtain⟨d1,hd1,hk1⟩:=(X.ty_ok tt y hy).agg;simp only[hyk]at hk1;obtain⟨rfl,ye',hye',hne0⟩:=hk1;obtain⟨d2,hd2,hk2⟩:=(X.ty_ok tx yx hyx).agg;simp only[hyxk]at hk2;subst hk2;generalize hv:a.eval q=v at r2;cases r2;obtain⟨v,E',w',g1,g2,g3,g4⟩:=Alh hI (ty:=o.type) hd1 hye h1 (Azd hd2 s') r1 hS hb;exact Does.val ho (Cr hF (by rw[C6 hlk];exact hw)) (by simp[execOp,hop,resolve,invoke,builtin,hv,g1]) (.inl rfl) ⟨E',g2,g3,g4⟩
theorem X0{c:Call}{p:Operand}{te t tt:Nat}{s:List UInt8}{y:Ty}{e:Nat}(ho:ops[i]?=some o:=by rfl)(hw:A8 ops F o=some true:=by rfl)(hop:o.op=.call c:=by rfl)(hcal:c.callee=.builtin .len:=by rfl)(hargs:c.args=#[p]:=by rfl)
 (htys:c.argTypes=#[tt]:=by rfl)(hp:Dw X F p=some (.buf te s t):=by rfl)(hy:X.ty tt=some y:=by rfl)(hyk:y.k=.slc e:=by rfl):Ndo X N ops i o F (.val (.int .i64 s.length)) S S:=by
 refine Dj ho hw fun F' E w a hc hI hF=>?_;rw[hop]at hc;simp only[Op.operands,Call.operands,hcal,hargs,Wu,zzq45]at hc;have r1:=Ak hI hF ((hc p (.inr (by simp))).trans hp);obtain⟨d,hd,hk⟩:=(X.ty_ok tt y hy).agg;simp only[hyk]at hk;obtain⟨rfl,_⟩:=hk;generalize hv:a.eval p=v at r1;cases r1;exact⟨_,by simp[execOp,hop,resolve,hcal,hargs,htys,hv,invoke,builtin,Builtin.len_,run_underlying hd,goInt],.val _⟩
theorem BufAt.nil{te:Nat}{k:Tk}{p:Option Addr}{cap:Nat}(h:BufAt E w te [] k p cap)(hc:cap=0)(hI:Inv X E S w){t:Nat}(hk:E.toks[t]?=some k):p=none:=by
 unfold BufAt at h;split at h
 ·exact h.2.2
 ·rename_i b c sz hsp;obtain⟨kl,ksp⟩:=k;simp only at hsp;subst hsp;obtain⟨h1,h2,_⟩:=hI.tok _ _ _ _ _ hk;have:=h1 (by rw[h.2.2.1];decide);have:=h.1;omega
theorem Vh{c:Call}{p:Operand}{te t:Nat}{s:List UInt8}(hS:S.toks[t]?=some s.length)(ho:ops[i]?=some o:=by rfl)(hw:A8 ops F o=some true:=by rfl)(hop:o.op=.call c:=by rfl)(hcal:c.callee=.builtin .unsafeSliceData:=by rfl)(hargs:c.args=#[p]:=by rfl)
 (hp:Dw X F p=some (.buf te s t):=by rfl):Ndo X N ops i o F (.dat te s t) S S:=by
 refine Dj ho hw fun F' E w a hc hI hF=>?_;rw[hop]at hc;simp only[Op.operands,Call.operands,hcal,hargs,Wu,zzq45]at hc;have r1:=Ak hI hF ((hc p (.inr (by simp))).trans hp);generalize hv:a.eval p=v at r1;cases r1 with
 |buf _ _ _ ad cap k hk1 hk2 hx hs hcp=>
 have hkl:k.len=s.length:=by
  have h1:=hI.nt;have h2:(E.toks.map Tk.len)[t]?=some k.len:=by simp[hk1]
  rw[h1,hS]at h2;exact(Option.some.inj h2).symm
 have hba:=hs hkl.symm;refine⟨.pointer ad,?_,.dat te s t ad k hk1 hk2 fun _ _=>⟨cap,hba⟩⟩;have hrun:(Builtin.unsafeSliceData_ c.argTypes o.type #[.slice ad s.length cap]).run X.P w=.ok (.pointer ad) w:=by
  cases ad with
  |none=>rfl
  |some ad=>
   refine Lib.run_unsafeSliceData_row w _ _ ad s.length cap fun h0=>?_;have hs0:s=[]:=by rw[h0]at hcp;exact zzq94.1 (by omega)
   subst hs0;have:=hba.nil h0 hI hk1;cases this
 simp[execOp,hop,resolve,hcal,hargs,hv,invoke,builtin,hrun]
theorem Afc(w:World)(ad:Addr)(n q:Nat):(w.freeze ad n).heap[q]?=w.heap[q]?∨∃cs e z z',w.heap[q]?=some (.cells cs e z)∧(w.freeze ad n).heap[q]?=some (.cells cs e z'):=by
 unfold World.freeze;by_cases hn:n=0
 ·simp[hn]
 ·simp only[hn,if_false];rw[Array.getElem?_modify];by_cases hq:ad.block=q
  ·rw[if_pos hq];cases hh:w.heap[q]? with
   |none=>exact .inl rfl
   |some ob=>cases ob with
    |cells cs e z=>exact .inr ⟨cs,e,z,_,rfl,rfl⟩
    |_=>exact .inl rfl
  ·rw[if_neg hq];exact .inl rfl
theorem Aeq(w:World)(ad:Addr)(n:Nat){q:Nat}{e:TypeId}(h:F3 w q=some e):F3 (w.freeze ad n) q=some e:=by
 unfold F3 at *;rcases Afc w ad n q with h1|⟨cs,e',z,z',h1,h2⟩
 ·rw[h1];exact h
 ·rw[h1]at h;rw[h2];exact h
theorem Ahg(w:World)(ad:Addr)(n q:Nat)(h:q≠ad.block):(w.freeze ad n).heap[q]?=w.heap[q]?:=by
 unfold World.freeze;by_cases hn:n=0
 ·simp[hn]
 ·simp only[hn,if_false];rw[Array.getElem?_modify,if_neg (fun he=>h he.symm)]
theorem Ajc(w:World)(ad p:Addr)(n:Nat):(w.freeze ad n).cell? p=w.cell? p:=by
 unfold World.cell?;rcases Afc w ad n p.block with h1|⟨cs,e',z,z',h1,h2⟩
 ·rw[h1]
 ·rw[h1,h2]
theorem Ajd(w:World)(ad:Addr)(n:Nat):(w.freeze ad n).heap.size=w.heap.size:=by
 unfold World.freeze;by_cases hn:n=0
 ·simp[hn]
 ·simp[hn]
theorem A43(hI:Inv X E S w){t l:Nat}{k:Tk}{w':World}(hk:E.toks[t]?=some k)(hkl:k.len=l)(hos:w'.os=w.os)(htp:w'.tape=w.tape)(hout:w'.output=w.output)(hsize:w'.heap.size=w.heap.size)
 (hoth:∀q,(∀c sz,k.sp≠some (q,c,sz))→w'.heap[q]?=w.heap[q]?)(hcell:∀p,w'.cell? p=w.cell? p)(hty:∀q e,F3 w q=some e→F3 w' q=some e) :
 Evol E w (E.setTok t ⟨l+1,none⟩) w' E.boxes.length E.toks.length∧Inv X (E.setTok t ⟨l+1,none⟩) ⟨S.boxes,S.toks.set t (l+1)⟩ w':=by
 subst hkl;have hkt:=Aa hk;have htok:∀{q l b c sz:Nat},(E.setTok t ⟨k.len+1,none⟩).toks[q]?=some (Tk.mk l (some (b,c,sz)))→E.toks[q]?=some (Tk.mk l (some (b,c,sz)))∧q≠t:=fun{q l b c sz} h=>by
  rcases Eu h with⟨_,h⟩|⟨hq,h⟩
  ·cases h
  ·exact⟨h,hq⟩
 have hown:∀q,(E.setTok t ⟨k.len+1,none⟩).own q→E.own q:=fun q h=>by
  rcases h with h|⟨i,l,c,s,h⟩
  ·exact .inl h
  ·exact .inr ⟨i,l,c,s,(htok h).1⟩
 have hmt:∀q o,(E.setTok t ⟨k.len+1,none⟩).mt q o→E.mt q o:=fun q o h=>by
  rcases h with h|h|⟨i,l,c,s,h,h'⟩
  ·exact .inl h
  ·exact .inr (.inl h)
  ·exact .inr (.inr ⟨i,l,c,s,(htok h).1,h'⟩)
 have hfar:∀q,¬E.own q→w'.heap[q]?=w.heap[q]?:=fun q hq=>hoth q fun c sz he=>hq (.inr ⟨t,k.len,c,sz,by rw[hk];obtain⟨kl,ks⟩:=k;simp only at he;subst he;rfl⟩);have ev:Evol E w (E.setTok t ⟨k.len+1,none⟩) w' E.boxes.length E.toks.length:=by
  refine⟨rfl,fun _ _ h=>⟨h,fun _ h=>h⟩,fun q hq k' hk'=>?_,hos,htp,hout,by rw[hsize];exact Bo _,fun q _ hq=>hfar q hq,fun b o v _ hc=>by rw[hcell];exact hc,fun b o _ h=>hmt b o h,fun b _ h=>hown b h,rfl,hty,fun q _ k' b1 c1 g1 g2 g3 o ho=>?_⟩;by_cases hqt:q=t
  ·subst hqt;rw[hk]at hk';cases hk';exact⟨⟨k.len+1,none⟩,by simp[Env.setTok,hkt],.inr (Aec _)⟩
  ·exact⟨k',by simp only[Env.setTok];rw[Fq (by omega)];exact hk',.inl rfl⟩
  ·obtain⟨kl',ksp'⟩:=k';simp only at g2;subst g2;rw[hoth b1 fun c' sz' he=>?_]
   ·exact ho
   ·have hqt:=hI.tt q t b1 kl' c1 0 k.len c' sz' g1 (by rw[hk];obtain⟨kl,ks⟩:=k;simp only at he;subst he;rfl);subst hqt;have:=(htok g3).2;exact this rfl
 refine⟨ev,?_⟩;exact{
  nb:=hI.nb
  nt:=by simp only[Env.setTok,Zc,hI.nt]
  np:=hI.np
  box:=fun i b sz rows h1 h2=>by
   obtain⟨cs,e,hh,hs,hl,hr⟩:=hI.box i b sz rows h1 h2;have:w'.heap[b]?=w.heap[b]?:=hoth b fun c sz' he=>hI.bt i t b sz k.len c sz' h1 (by rw[hk];obtain⟨kl,ks⟩:=k;simp only at he;subst he;rfl);exact⟨cs,e,by rw[this];exact hh,hs,hl,fun k r j x v h3 h4 h5=>(hr k r j x v h3 h4 h5).step ev⟩
  tok:=fun q l b c sz h=>by
   obtain⟨h1,hq⟩:=htok h;obtain⟨h2,h3,cs,e,hh,hs⟩:=hI.tok q l b c sz h1;have:w'.heap[b]?=w.heap[b]?:=hoth b fun c' sz' he=>hq (hI.tt q t b l c sz k.len c' sz' h1 (by rw[hk];obtain⟨kl,ks⟩:=k;simp only at he;subst he;rfl));exact⟨h2,h3,cs,e,by rw[this];exact hh,hs⟩
  bb:=hI.bb
  bt:=fun i q b s l c sz h1 h2=>hI.bt i q b s l c sz h1 (htok h2).1
  tt:=fun i j b l c s l' c' s' h1 h2=>hI.tt i j b l c s l' c' s' (htok h1).1 (htok h2).1
  frlt:=fun b o h=>⟨fun h'=>(hI.frlt b o h).1 (hown b h'),by rw[hsize];exact(hI.frlt b o h).2⟩
  lo:=fun b h=>hI.lo b (hown b h)
  frlo:=hI.frlo
  sz:=by rw[hsize];exact hI.sz
  glob:=X.glob_st w w' (fun q hq=>hfar q fun h=>by have:=hI.lo q h;omega) hI.sz hos hI.glob }
theorem X2{c:Call}{p q:Operand}{te t:Nat}{s:List UInt8}{pt it:TypeId}{tk:List Nat}(hte:X.P.cellsOf te=1)(hpt:X.P.underlying pt=some (.pointer te))(hS:S.toks[t]?=some s.length)(hb:s.length≤100000000000)
 (htk:S.toks.set t (s.length+1)=tk)(ho:ops[i]?=some o:=by rfl)(hw:A8 ops F o=some true:=by rfl)(hop:o.op=.call c:=by rfl)(hcal:c.callee=.builtin .unsafeString:=by rfl)(hargs:c.args=#[p,q]:=by rfl)(htys:c.argTypes=#[pt,it]:=by rfl)
 (hp:Dw X F p=some (.dat te s t):=by rfl)(hq:Dw X F q=some (.val (.int .i64 s.length)):=by rfl):Ndo X N ops i o F (str s) S ⟨S.boxes,tk⟩:=by
 subst htk;intro F' E w a hlk hI hF;have hlo:=G0 hlk;rw[hop]at hlo;simp only[Op.operands,Call.operands,hcal,hargs,Wu,zzq45]at hlo;have r1:=Ak hI hF ((Dk (X:=X) (F:=F) (F':=F') (o:=p) fun s hs=>hlo s (.inr (by simp[hs]))).trans hp);have r2:=Ak hI hF ((Dk (X:=X) (F:=F) (F':=F') (o:=q) fun s hs=>hlo s (.inr (by simp[hs]))).trans hq);generalize hu:a.eval p=u at r1;generalize hv:a.eval q=v at r2;cases r2;cases r1 with
 |dat _ _ _ ad k hk1 hk2 hs=>
 have hkl:k.len=s.length:=by
  have h1:=hI.nt;have h2:(E.toks.map Tk.len)[t]?=some k.len:=by simp[hk1]
  rw[h1,hS]at h2;exact(Option.some.inj h2).symm
 have fin:∀w',(Builtin.unsafeString_ #[pt,it] o.type #[.pointer ad,.int .i64 s.length]).run X.P w=.ok (.string ⟨⟨s⟩⟩) w'→w'.os=w.os→w'.tape=w.tape→w'.output=w.output→w'.heap.size=w.heap.size →
  (∀q,(∀c sz,k.sp≠some (q,c,sz))→w'.heap[q]?=w.heap[q]?)→(∀p,w'.cell? p=w.cell? p)→(∀q e,F3 w q=some e→F3 w' q=some e) →
  Does X ops i a w fun v w'=>∃E',Inv X E' ⟨S.boxes,S.toks.set t (s.length+1)⟩ w'∧Evol E w E' w' E.boxes.length E.toks.length∧Rel E' w' v (str s):=fun w' hr h1 h2 h3 h4 h5 h6 h7=>by
  obtain⟨ev,hI'⟩:=A43 hI hk1 hkl h1 h2 h3 h4 h5 h6 h7;exact Does.val ho (Cr hF (by rw[C6 hlk];exact hw)) (by simp[execOp,hop,resolve,hcal,hargs,htys,hu,hv,invoke,builtin,hr]) (.inl rfl) ⟨_,hI',ev,.val _⟩
 by_cases h0:s=[]
 ·subst h0;exact fin w (Lib.run_unsafeString_none w pt it o.type ad) rfl rfl rfl rfl (fun _ _=>rfl) (fun _=>rfl) (fun _ _ h=>h)
 ·obtain⟨cap,hba⟩:=hs hkl.symm h0;unfold BufAt at hba;split at hba
  ·exact absurd hba.1 h0
  ·rename_i b cc sz hsp;obtain⟨rfl,rfl,rfl,q4,q5,q6⟩:=hba;obtain⟨kl,ksp⟩:=k;simp only at hsp hkl;subst hsp;subst hkl;obtain⟨g1,g2,cur,te',hh,hcs⟩:=hI.tok t _ b cap 1 hk1;have g1:=g1 (by decide);have hcs:=hcs (by decide);have hte':te'=te:=by simpa[F3,hh]using q4
   subst hte';have hsh:w.shape? b=some (te',cur.size):=by simp[World.shape?,hh]
   refine fin (w.freeze ⟨b,0,none⟩ s.length) (Lib.run_unsafeString_row w pt it o.type te' hpt hte b cur.size hsh s h0 (by omega) (by omega) (fun j x hx=>?_)) ?_ ?_ ?_ (Ajd _ _ _) (fun q hq=>Ahg _ _ _ _ fun he=>hq cap 1 (by rw[he])) (fun p=>Ajc _ _ _ _)
    (fun q e h=>Aeq _ _ _ h)
   ·rw[Ge,Jy];exact q6 j x hx
   ·unfold World.freeze;split<;>rfl
   ·unfold World.freeze;split<;>rfl
   ·unfold World.freeze;split<;>rfl
end
section
variable {X:Cx}{B:Bx}{E:Env}{S:St}{w:World}{F:C5}{a:Act}{N:Nat}{ops:Array Oper}{i:Nat}{o:Oper}
theorem Aqq{u v:Value}(h:Ic u=Ic v):u=v:=by
 unfold Ic at h;split at h<;>split at h
 ·rfl
 ·cases h
 ·cases h
 ·cases h;rfl
theorem Xg:∀{l l':List Value},l.map Ic=l'.map Ic→l=l'
 |[],[],_=>rfl
 |[],_::_,h=>by simp at h
 |_::_,[],h=>by simp at h
 |x::l,y::l',h=>by
  simp only[N0,List.cons.injEq]at h;rw[Aqq h.1,Xg h.2]
theorem Inv.recell(hI:Inv X E S w){b:Nat}{rows rows':List (List AV)}(hS:S.boxes[b]?=some rows)(hl:rows'.length=rows.length)(hll:∀r,r∈rows'→∃r0,r0∈rows∧r.length=r0.length)
 (hr:∀(blk sz:Nat)(cs:Array Value)(te:TypeId),E.boxes[b]?=some (some (blk,sz))→w.heap[blk]?=some (.cells cs te (0,0))→∀(k:Nat)(r:List AV)(j:Nat)(x:AV)(v:Value),rows'[k]?=some r→r[j]?=some x→cs[k*sz+j]?=some v→Rel E w v x) :
 Inv X E ⟨S.boxes.set b rows',S.toks⟩ w:=
 { hI with
   nb:=by simp[hI.nb]
   box:=fun i blk sz q h1 h2=>by
    rcases Eu h2 with⟨rfl,rfl⟩|⟨_,h2⟩
    ·obtain⟨cs,e,hh,hs,hlen,_⟩:=hI.box i blk sz rows h1 hS;exact⟨cs,e,hh,by rw[hl];exact hs,fun r hm=>by obtain⟨r0,h0,he⟩:=hll r hm;rw[he];exact hlen r0 h0,hr blk sz cs e h1 hh⟩
    ·exact hI.box i blk sz q h1 h2 }
theorem Adk(hI:Inv X E S w)(t te:TypeId){v:Value}{rest:List Value}(hv:v.cells.toList=.pointer none::.slice none 0 0::rest) :
 ∃E' w',(newVar t v).run X.P w=.ok ⟨w.heap.size,0,none⟩ w'∧Inv X E' ⟨S.boxes++[[.tagN t S.boxes.length::.buf te [] S.toks.length::rest.map Ic]],S.toks++[0]⟩ w'∧Evol E w E' w' E.boxes.length E.toks.length ∧
  Rel E' w' (.pointer (some ⟨w.heap.size,0,none⟩)) (.ptr S.boxes.length 0 0):=by
 have hlen:v.cells.size=rest.length+2:=by have:=congrArg List.length hv;simpa using this
 obtain⟨ev,hI'⟩:=hI.newBox (w':=w.alloc (.cells v.cells t)) (cs:=v.cells) (e:=t) (sz:=rest.length+2) (rows:=[v.cells.toList.map Ic]) rfl rfl rfl rfl (by simp[hlen])
  (fun r hr=>by simp at hr;subst hr;simp[hlen]) (fun k r j x u h1 h2 h3=>by
    cases k with
    |zero=>
     simp at h1;subst h1;simp at h2 h3;obtain⟨u',h2,rfl⟩:=h2;rw[h3]at h2;cases h2;exact Mx u
    |succ k=>simp at h1)
 have hI2:=hI'.mint 0;have evm:=M7 (E.addBox w.heap.size (rest.length+2)) (w.alloc (.cells v.cells t)) 0;have hl:=ev.len;have ev2:=ev.trans (evm.weaken hl.1 hl.2);have hnb:E.boxes.length=S.boxes.length:=hI.nb;have hnt:E.toks.length=S.toks.length:=by rw[←hI.nt];simp
 have hbx:((E.addBox w.heap.size (rest.length+2)).mint 0).boxes[S.boxes.length]?=some (some (w.heap.size,rest.length+2)):=by
  show (E.addBox w.heap.size (rest.length+2)).boxes[S.boxes.length]?=_;rw[←hnb];exact getElem?_snoc_new _ _
 have hnew:(w.alloc (.cells v.cells t)).heap[w.heap.size]?=some (.cells v.cells t (0,0)):=by
  have:(w.alloc (.cells v.cells t)).heap=w.heap.push (.cells v.cells t (0,0)):=rfl;rw[this];simp
 have hty:F3 (w.alloc (.cells v.cells t)) w.heap.size=some t:=by simp only[F3,hnew]
 refine⟨_,_,by simp[newVar,newRow],?_,ev2,?_⟩
 ·have hget:(S.boxes++[[v.cells.toList.map Ic]])[S.boxes.length]?=some [v.cells.toList.map Ic]:=by simp
  have:=hI2.recell (b:=S.boxes.length) (rows':=[.tagN t S.boxes.length::.buf te [] S.toks.length::rest.map Ic]) hget rfl (fun r hr=>⟨v.cells.toList.map Ic,by simp,by simp at hr;subst hr;simp[hlen]⟩) (fun blk sz cs e h1 h2 k r j x u h3 h4 h5=>by
   rw[hbx]at h1;cases h1;have hcs:cs=v.cells:=by
    rw[hnew]at h2;cases h2;rfl
   subst hcs;cases k with
   |succ k=>simp at h3
   |zero=>
    simp at h3;subst h3;have h5':v.cells.toList[j]?=some u:=by simpa using h5
    rw[hv]at h5';cases j with
    |zero=>simp at h4 h5';subst h4;subst h5';exact .tagN t _ _ _ hbx hty
    |succ j=>cases j with
     |zero=>
      simp at h4 h5';subst h4;subst h5';exact .buf te [] _ none 0 ⟨0,none⟩ (by simp only[Env.mint];rw[←hnt];exact getElem?_snoc_new _ _) (Bo _) (B3 _) (fun _=>⟨rfl,rfl,rfl⟩) (Bo _)
     |succ j=>
      simp at h4 h5';obtain⟨u',h4,rfl⟩:=h4;rw[h5']at h4;cases h4;exact Mx u)
  simpa using this
 ·have:=Rel.ptr (E:=(E.addBox w.heap.size (rest.length+2)).mint 0) (w:=w.alloc (.cells v.cells t)) S.boxes.length 0 0 w.heap.size (rest.length+2) hbx;simpa using this
theorem Ak8{t:TypeId}{y:Ty}{rest:List Value}{bx:List (List (List AV))}{tk:List Nat}{b m:Nat}(te:TypeId)(ho:ops[i]?=some o)(hw:A8 ops F o=some true)(hop:o.op=.alloc t)(hy:X.ty t=some y)
 (hz:y.zero=(.pointer none::.slice none 0 0::rest).map Ic)(hb:Z8 S.boxes=b)(hm:Z8 S.toks=m)(hbx:S.boxes++[[.tagN t b::.buf te [] m::rest.map Ic]]=bx)(htk:S.toks++[0]=tk):Ndo X N ops i o F (.ptr b 0 0) S ⟨bx,tk⟩:=by
 subst hbx;subst htk;rw[J5]at hb hm;subst hb;subst hm;intro F' E w a hl hI hF;obtain⟨z,hzr,hzc,_⟩:=Jx hy w;rw[hz]at hzc;obtain⟨E',w',h1,h2,h3,h4⟩:=Adk hI t te (v:=z) (Xg hzc);exact Does.val ho (Cr hF (by rw[C6 hl];exact hw)) (by simp[execOp,hop,Instr.alloc,hzr,h1]) (.inl rfl) ⟨E',h2,h3,h4⟩
theorem Ala{t:TypeId}{y:Ty}{cs:List Value}{fs:List (Nat×Nat)}(ho:ops[i]?=some o)(hw:A8 ops F o=some true)(hop:o.op=.build t #[])(hy:X.ty t=some y)(hk:y.k=.str fs)(hz:y.zero=cs.map Ic) :
 Ndo X N ops i o F (.val (.agg ⟨cs⟩)) S S:=by
 refine Dj ho hw fun F' E w a hc hI hF=>?_;obtain⟨d,hd,hdd⟩:=(X.ty_ok t y hy).agg;simp only[hk]at hdd;obtain⟨fields,rfl,hm,_⟩:=hdd;obtain⟨z,_,hzc,hl,i,hi,hiz,his,_⟩:=Jx hy w;rw[hz]at hzc;have hcs:=Xg hzc;have hrun:=run_build (P:=X.P) w t #[] z.cells (by simp[Program.built,hi,hd,hiz,hm,Instr.fill]);refine⟨.agg z.cells,by simp[execOp,hop,hrun],?_⟩;have:z.cells=⟨cs⟩:=by rw[←zzq34];exact hcs
 rw[this];exact .val _
theorem Asf{t:TypeId}{p:Operand}{rest:List Value}{bx:List (List (List AV))}{tk:List Nat}{b m:Nat}(te:TypeId)(ho:ops[i]?=some o)(hw:A8 ops F o=some true)(hop:o.op=.box t p)(hp:Dw X F p=some (.val (.agg ⟨.pointer none::.slice none 0 0::rest⟩)))
 (hb:Z8 S.boxes=b)(hm:Z8 S.toks=m)(hbx:S.boxes++[[.tagN t b::.buf te [] m::rest.map Ic]]=bx)(htk:S.toks++[0]=tk):Ndo X N ops i o F (.ptr b 0 0) S ⟨bx,tk⟩:=by
 subst hbx;subst htk;rw[J5]at hb hm;subst hb;subst hm;intro F' E w a hl hI hF;have hlo:=G0 hl;rw[hop]at hlo;have r1:=Ak hI hF ((Dk (X:=X) (F:=F) (F':=F') (o:=p) fun s hs=>hlo s (by simp[Op.operands,hs])).trans hp);generalize hv:a.eval p=v at r1;cases r1;obtain⟨E',w',h1,h2,h3,h4⟩:=Adk hI t te (v:=.agg ⟨.pointer none::.slice none 0 0::rest⟩) rfl;exact Does.val ho (Cr hF (by rw[C6 hl];exact hw)) (by simp[execOp,hop,Instr.box,hv,h1]) (.inl rfl) ⟨E',h2,h3,h4⟩
theorem Ae3(hI:Inv X E S w){b r off blk sz:Nat}{rows:List (List AV)}{row:List AV}(hS:S.boxes[b]?=some rows)(hr:rows[r]?=some row)(ho:off<row.length)(hB:E.boxes[b]?=some (some (blk,sz))) :
 ∃cs e,w.heap[blk]?=some (.cells cs e (0,0))∧cs.size=rows.length*sz∧sz=row.length∧r*sz+off<cs.size:=by
 obtain⟨cs,e,hh,hs,hl,_⟩:=hI.box b blk sz rows hB hS;have hsz:=hl row (Bh hr);have hrl:=Aa hr;refine⟨cs,e,hh,hs,hsz.symm,?_⟩;rw[hs];exact I6 hrl (by omega)
theorem Adl{blk:Nat}{cs:Array Value}{e:TypeId}(h:w.heap[blk]?=some (.cells cs e (0,0))):(viewAt blk).run X.P w=.ok none w:=by
 have hsh:w.shape? blk=some (e,cs.size):=by simp[World.shape?,h]
 simp[viewAt,hsh]
theorem Ani{src dst t:TypeId}{p:Operand}{b r off:Nat}{y:Ty}{rows:List (List AV)}{row:List AV}(hu:X.P.underlying src=some (.pointer t))(hv:X.P.underlying dst=some .unsafePointer)(hy:X.ty t=some y)(hy0:y.size≠0)
 (ho:ops[i]?=some o:=by rfl)(hw:A8 ops F o=some true:=by rfl)(hop:o.op=.convert src dst p:=by rfl)(hp:Dw X F p=some (.ptr b r off):=by rfl)(hS:S.boxes[b]?=some rows:=by rfl)(hr:rows[r]?=some row:=by rfl)
 (hof:Nat.blt off row.length=true:=by rfl):Ndo X N ops i o F (.ptr b r off) S S:=by
 refine Dj ho hw fun F' E w a hc hI hF=>?_;rw[hop]at hc;have r1:=Ak hI hF ((hc p (by simp[Op.operands])).trans hp);generalize hx:a.eval p=x at r1;cases r1 with
 |ptr _ _ _ blk sz hB=>
  obtain⟨cs,e,hh,hs,hsz,hin⟩:=Ae3 hI hS hr (by simpa[Fw]using hof) hB;have hsh:w.shape? blk=some (e,cs.size):=by simp[World.shape?,hh]
  refine⟨.pointer (some ⟨blk,r*sz+off,none⟩),?_,.ptr b r off blk sz hB⟩;have hnv:=Adl (X:=X) hh;have hlt:¬cs.size≤r*sz+off:=by omega
  simp[execOp,hop,hx,convert,run_underlying hu,run_underlying hv,Conv.unsafePointer,Conv.seenAt,hnv,cellsIn,hsh,Dr hy,hy0,hlt]
theorem Aex{src dst t te:TypeId}{p:Operand}{b r off j:Nat}{rows:List (List AV)}{row:List AV}{y:Ty}(hu:X.P.underlying src=some .unsafePointer)(hv:X.P.underlying dst=some (.pointer t))(hy:X.ty t=some y)
 (hlies:∀n,n=rows.length*row.length→liesAt X.P X.P.depth te (n/X.P.cellsOf te) (r*row.length+off) t 1=true)(ho:ops[i]?=some o:=by rfl)(hw:A8 ops F o=some true:=by rfl)(hop:o.op=.convert src dst p:=by rfl)
 (hp:Dw X F p=some (.ptr b r off):=by rfl)(hS:S.boxes[b]?=some rows:=by rfl)(hr:rows[r]?=some row:=by rfl)(hof:Nat.blt off row.length=true:=by rfl)(hj:row[j]?=some (.tagN te b):=by rfl):Ndo X N ops i o F (.ptr b r off) S S:=by
 refine Dj ho hw fun F' E w a hc hI hF=>?_;rw[hop]at hc;have r1:=Ak hI hF ((hc p (by simp[Op.operands])).trans hp);generalize hx:a.eval p=x at r1;cases r1 with
 |ptr _ _ _ blk sz hB=>
  obtain⟨cs,e,hh,hs,hsz,hin⟩:=Ae3 hI hS hr (by simpa[Fw]using hof) hB;have hte:e=te:=by
   obtain⟨cs',e',hh',_,hl,hrel⟩:=hI.box b blk sz rows hB hS;rw[hh]at hh';cases hh';have hjl:=Aa hj;obtain⟨v,hv⟩:∃v,cs[r*sz+j]?=some v:=⟨cs[r*sz+j]'(by rw[hs];exact I6 (Aa hr) (by omega)),by simp⟩
   have:=hrel r row j _ v hr hj hv;cases this with
   |tagN _ _ blk' sz' hB' ht=>
    rw[hB]at hB';cases hB';simpa[F3,hh]using ht
  subst hte;have hsh:w.shape? blk=some (e,cs.size):=by simp[World.shape?,hh]
  refine⟨.pointer (some ⟨blk,r*sz+off,none⟩),?_,.ptr b r off blk sz hB⟩;have hnv:=Adl (X:=X) hh;have hl:=hlies cs.size (by rw[hs,hsz]);rw[←hsz]at hl;have hva:(variablesAt ⟨blk,r*sz+off,none⟩ t 1).run X.P w=.ok true w:=by simp[variablesAt,hsh,hl]
  by_cases h0:y.size=0
  ·simp[execOp,hop,hx,convert,run_underlying hu,run_underlying hv,Conv.unsafePointer,Conv.seenAt,hnv,Dr hy,h0,hva]
  ·simp[execOp,hop,hx,convert,run_underlying hu,run_underlying hv,Conv.unsafePointer,Conv.seenAt,hnv,Dr hy,h0,hva]
theorem Ye{t e:TypeId}(hd:X.P.underlying t=some (.pointer e))(d:Nat)(p:Option Addr)(w:World):(Op.equalIn (d+1) t (.pointer p) (.pointer none)).run X.P w=.ok p.isNone w:=by
 unfold Op.equalIn;cases p<;>simp[run_underlying hd]
theorem Aek{t e:TypeId}{y:Ty}(hd:X.P.underlying t=some (.pointer e))(hy:X.ty e=some y)(hy0:y.size≠0)(d:Nat)(p:Addr)(w:World):(Op.equalIn (d+1) t (.pointer (some p)) (.pointer (some p))).run X.P w=.ok true w:=by
 unfold Op.equalIn;simp[run_underlying hd,Dr hy,hy0,sameAddr]
theorem Aiz{t t' e te b:TypeId}{p:Operand}(hu:X.P.underlying t=some (.pointer e))(ho:ops[i]?=some o:=by rfl)(hw:A8 ops F o=some true:=by rfl)(hop:o.op=.binOp .eql t p (.const (.pointer none)) t':=by rfl)
 (hp:Dw X F p=some (.tagN te b):=by rfl):Ndo X N ops i o F (.val (.bool true)) S S:=by
 refine Dj ho hw fun F' E w a hc hI hF=>?_;rw[hop]at hc;have r1:=Ak hI hF ((hc p (by simp[Op.operands])).trans hp);generalize hx:a.eval p=x at r1;cases r1;have e1:=Ye hu 9999 none w;exact⟨.bool true,by simp only[execOp,hop,hx,show a.eval (.const (.pointer none))=.pointer none from rfl,eqGuard,binOp,Op.equal,Op.maxDepth];simp[e1],.val _⟩
theorem Ae0{t t' e b r off:TypeId}{p:Operand}(hu:X.P.underlying t=some (.pointer e))(ho:ops[i]?=some o:=by rfl)(hw:A8 ops F o=some true:=by rfl)(hop:o.op=.binOp .eql t p (.const (.pointer none)) t':=by rfl)
 (hp:Dw X F p=some (.ptr b r off):=by rfl):Ndo X N ops i o F (.val (.bool false)) S S:=by
 refine Dj ho hw fun F' E w a hc hI hF=>?_;rw[hop]at hc;have r1:=Ak hI hF ((hc p (by simp[Op.operands])).trans hp);generalize hx:a.eval p=x at r1;cases r1;have e1:=fun q=>Ye hu 9999 (some q) w;exact⟨.bool false,by simp only[execOp,hop,hx,show a.eval (.const (.pointer none))=.pointer none from rfl,eqGuard,binOp,Op.equal,Op.maxDepth];simp[e1],.val _⟩
theorem Aez{t t' e b r off:TypeId}{p q:Operand}{y:Ty}(hu:X.P.underlying t=some (.pointer e))(hy:X.ty e=some y)(hy0:y.size≠0)(ho:ops[i]?=some o:=by rfl)(hw:A8 ops F o=some true:=by rfl)(hop:o.op=.binOp .neq t p q t':=by rfl)
 (hp:Dw X F p=some (.ptr b r off):=by rfl)(hq:Dw X F q=some (.ptr b r off):=by rfl):Ndo X N ops i o F (.val (.bool false)) S S:=by
 refine Dj ho hw fun F' E w a hc hI hF=>?_;rw[hop]at hc;have r1:=Ak hI hF ((hc p (by simp[Op.operands])).trans hp);have r2:=Ak hI hF ((hc q (by simp[Op.operands])).trans hq);generalize hx:a.eval p=x at r1;generalize hz:a.eval q=z at r2;cases r1 with
 |ptr _ _ _ blk sz hB=>
 cases r2 with
 |ptr _ _ _ blk' sz' hB'=>
 rw[hB]at hB';cases hB';have e1:=fun q=>Aek hu hy hy0 9999 q w;exact⟨.bool false,by simp only[execOp,hop,hx,hz,eqGuard,binOp,Op.equal,Op.maxDepth];simp[e1],.val _⟩
theorem Aey{c:Call}{fo p:Operand}{f:FuncId}{x:AV}(hr:∀v w,(callFunc f #[v]).run X.P w=.ok (.value v) w)(ho:ops[i]?=some o:=by rfl)(hw:A8 ops F o=some true:=by rfl)
 (hop:o.op=.call c:=by rfl)(hcal:c.callee=.value fo:=by rfl)(hargs:c.args=#[p]:=by rfl)(hfo:Dw X F fo=some (.fn f []):=by rfl)(hp:Dw X F p=some x:=by rfl):Ndo X N ops i o F x S S:=by
 refine Dj ho hw fun F' E w a hc hI hF=>?_;rw[hop]at hc;simp only[Op.operands,Call.operands,hcal,hargs,Wu,zzq45]at hc;have h1:=Ak hI hF ((hc fo (.inl (by simp))).trans hfo);have h2:=Ak hI hF ((hc p (.inr (by simp))).trans hp);cases hh:a.eval fo<;>rw[hh]at h1<;>cases h1;rename_i caps hcl hcr;have hcaps:caps=#[]:=by apply Array.eq_empty_of_size_eq_zero;simpa using hcl
 subst hcaps;exact⟨a.eval p,by simp[execOp,hop,resolve,hcal,hargs,hh,Deferred.ofValue,invoke,hr],h2⟩
end
end Go.V
namespace Go.V
open Go Go.Proofs Go.Proofs.Tryz
section
variable {X:Cx}{B:Bx}{E:Env}{S:St}{w:World}{F:C5}{R:AE→St→Prop}{N:Nat}{ops:Array Oper}{i:Nat}{o:Oper}{k:List Item}
theorem Acn{t t':TypeId}{p q:Operand}{κ:IntKind}{a b r:Int}(hr:κ.wrap ((BitVec.ofInt κ.bits a &&& BitVec.ofInt κ.bits b).toNat)=r)(ho:ops[i]?=some o:=by rfl)(hw:A8 ops F o=some true:=by rfl)(hop:o.op=.binOp .and t p q t':=by rfl)
 (hp:Dw X F p=some (.val (.int κ a)):=by rfl)(hq:Dw X F q=some (.val (.int κ b)):=by rfl):Ndo X N ops i o F (.val (.int κ r)) S S:=by
 subst hr;refine Dj ho hw fun F' E w ac hc hI hF=>?_;rw[hop]at hc;have r1:=Ak hI hF ((hc p (by simp[Op.operands])).trans hp);have r2:=Ak hI hF ((hc q (by simp[Op.operands])).trans hq);generalize hu:ac.eval p=u at r1;generalize hv:ac.eval q=v at r2;cases r1;cases r2;exact⟨_,by simp[execOp,hop,hu,hv,eqGuard,binOp,Op.intBits],.val _⟩
theorem Tz{t t':TypeId}{p q:Operand}{κ κ':IntKind}{a b r:Int}(h0:0≤b)(hr:a.fdiv (2^(min b.toNat κ.bits))=r)(ho:ops[i]?=some o:=by rfl)(hw:A8 ops F o=some true:=by rfl)(hop:o.op=.binOp .shr t p q t':=by rfl)
 (hp:Dw X F p=some (.val (.int κ a)):=by rfl)(hq:Dw X F q=some (.val (.int κ' b)):=by rfl):Ndo X N ops i o F (.val (.int κ r)) S S:=by
 subst hr;refine Dj ho hw fun F' E w ac hc hI hF=>?_;rw[hop]at hc;have r1:=Ak hI hF ((hc p (by simp[Op.operands])).trans hp);have r2:=Ak hI hF ((hc q (by simp[Op.operands])).trans hq);generalize hu:ac.eval p=u at r1;generalize hv:ac.eval q=v at r2;cases r1;cases r2;have hn:¬b<0:=by omega
 exact⟨_,by simp[execOp,hop,hu,hv,eqGuard,binOp,Op.shift,hn],.val _⟩
theorem A3d{e:Bool}{x y:Code}{K:List Item}{F':C5}{S2:St}(hk:AK X B K F' S2 R)(he:Go.V.ev X B.fn.ntmps 200 (.code (if e then x else y)::k) F S=(K,F',S2):=by rfl):AK X B (.code (.cond (.const (.bool e)) x y)::k) F S R:=
 Ks (Bi 200 he hk) fun w a b cs=>step_cond (t:=e) rfl
end
theorem Ayo(y:Nat)(hy:y<64):Pure X 361 [.val (.int .u64 2),.val (.int .u64 y)] (.tup [.val (.int .u64 0),.val (.int .u64 (2*y:Nat))]):=by
 have b2:IntKind.u64.wrap ((BitVec.ofInt IntKind.u64.bits 2 &&& BitVec.ofInt IntKind.u64.bits 4294967295).toNat)=2:=by decide
 have b0:IntKind.u64.wrap ((BitVec.ofInt IntKind.u64.bits 0 &&& BitVec.ofInt IntKind.u64.bits 4294967295).toNat)=0:=by decide
 have s2:(2:Int).fdiv (2^(min (32:Int).toNat IntKind.u64.bits))=0:=by decide
 have s0:(0:Int).fdiv (2^(min (32:Int).toNat IntKind.u64.bits))=0:=by decide
 have hand:∀y:Nat,y<64→IntKind.u64.wrap ((BitVec.ofInt IntKind.u64.bits (y:Int) &&& BitVec.ofInt IntKind.u64.bits 4294967295).toNat)=(y:Int):=by decide
 have hshr:∀y:Nat,y<64→(y:Int).fdiv (2^(min (32:Int).toNat IntKind.u64.bits))=0:=by decide
 have hshr2:∀y:Nat,y<64→(IntKind.u64.wrap ((2:Int)*(y:Int))).fdiv (2^(min (32:Int).toNat IntKind.u64.bits))=0:=by decide
 have hmul:∀y:Nat,y<64→IntKind.u64.wrap ((2:Int)*(y:Int))=((2*y:Nat):Int):=by decide
 have hz:∀y:Nat,y<64→IntKind.u64.wrap ((BitVec.ofInt IntKind.u64.bits (IntKind.u64.wrap (IntKind.u64.wrap ((0:Int)*(y:Int))+0)) &&& BitVec.ofInt IntKind.u64.bits 4294967295).toNat)=0:=by decide
 have hz2:∀y:Nat,y<64→(IntKind.u64.wrap (IntKind.u64.wrap ((0:Int)*(y:Int))+0)).fdiv (2^(min (32:Int).toNat IntKind.u64.bits))=0:=by decide
 have s4:(IntKind.u64.wrap (0+IntKind.u64.wrap (2*0))).fdiv (2^(min (32:Int).toNat IntKind.u64.bits))=0:=by decide
 refine Pure.run func361 ?_;refine Bn (Acn b2) ?_;refine Bn (Tz (by decide) s2) ?_;refine Bn (Acn (hand y hy)) ?_;refine Bn (Tz (by decide) (hshr y hy)) ?_;refine Bn (Tz (by decide) (hshr2 y hy)) ?_;refine Bn (Acn (hz y hy)) ?_;refine Bn (Tz (by decide) (hz2 y hy)) ?_;refine Bn (Tz (by decide) s4) ?_;refine As func361 ?_;rw[hmul y hy];rfl
theorem A4h(y:Nat)(hy:y<64):Pure X 334 [.val (.int .u64 2),.val (.int .u64 y)] (.tup [.val (.int .u64 0),.val (.int .u64 (2*y:Nat))]):=by
 refine Pure.run func334 ?_;refine A3d ?_;refine Al (Ayo y hy) ?_;exact As func334 rfl
def Ah9(s p:List UInt8):Bool:=s.take p.length==p
theorem Aft(s p:List UInt8)(hs:s.length≤1000000000000)(hp:p.length≤1000000000000):Pure X 362 [str s,str p] (vb (Ah9 s p)):=by
 refine Pure.run func362 ?_;refine Df (fun h=>?_) (fun h=>?_)
 ·have h':p.length≤s.length:=by have:=A5 h;rw[F9,F9]at this;omega
  refine Bn (Pj (l:=0) (h:=(p.length:Int)) (r:=s.take p.length) rfl rfl rfl rfl rfl ?_ rfl rfl ?_ ?_ ?_ ?_) ?_
  ·show some _=_;rw[F9]
  ·omega
  ·omega
  ·omega
  ·simp
  refine As func362 ?_;rfl
 ·have h':s.length<p.length:=by have:=Ba h;rw[F9,F9]at this;omega
  refine As func362 ?_;have:Ah9 s p=false:=by
   simp only[Ah9,beq_eq_false_iff_ne];intro he;have:=congrArg List.length he;simp at this;omega
  rw[this]
theorem Aum(s p:List UInt8)(hs:s.length≤1000000000000)(hp:p.length≤1000000000000):Pure X 335 [str s,str p] (vb (Ah9 s p)):=by
 refine Pure.run func335 ?_;refine Al (Aft s p hs hp) ?_;exact As func335 rfl
def Kd(s p:List UInt8):List UInt8:=if Ah9 s p then s.drop p.length else s
theorem Ayr(s p:List UInt8)(hs:s.length≤1000000000000)(hp:p.length≤1000000000000):Pure X 364 [str s,str p] (str (Kd s p)):=by
 refine Pure.run func364 ?_;refine Al (Aft s p hs hp) ?_;refine Ah (fun h=>?_) (fun h=>?_)
 ·have h':Ah9 s p=true:=h;have hl:p.length≤s.length:=by
   have:=congrArg List.length (zzq54.1 h');simp at this;omega
  refine Bn (Pj (l:=(p.length:Int)) (h:=(s.length:Int)) (r:=s.drop p.length) rfl rfl rfl rfl ?_ rfl rfl rfl ?_ ?_ ?_ ?_) ?_
  ·show some _=_;rw[F9]
  ·omega
  ·omega
  ·omega
  ·rw[Hl,Hl,I2]
  refine As func364 ?_;simp only[Kd,h',if_true]
 ·have h':Ah9 s p=false:=h;refine As func364 ?_;simp[Kd,h']
theorem Aur(s p:List UInt8)(hs:s.length≤1000000000000)(hp:p.length≤1000000000000):Pure X 339 [str s,str p] (str (Kd s p)):=by
 refine Pure.run func339 ?_;refine Al (Ayr s p hs hp) ?_;exact As func339 rfl
theorem Auq(k:Nat)(hk:k≤60):Pure X 317 [str [32,32],vi k] (str (List.replicate (2*k) 32)):=by
 have wk:∀k:Nat,k≤60→IntKind.u64.wrap (k:Int)=(k:Int):=by decide
 have wk2:∀k:Nat,k≤60→IntKind.i64.wrap ((2*k:Nat):Int)=((2*k:Nat):Int):=by decide
 have hm:Pure X 334 [.val (.int .u64 2),.val (.int .u64 (IntKind.u64.wrap (k:Int)))] (.tup [.val (.int .u64 0),.val (.int .u64 (2*k:Nat))]):=by
  rw[wk k hk];exact A4h k (by omega)
 refine Pure.run func317 ?_;refine Ah (fun h=>?_) (fun h=>?_)
 ·have h':k=0:=by simpa using h
  subst h';exact As func317 rfl
 refine Ah (fun h1=>?_) (fun h1=>?_)
 ·have h':k=1:=by simp at h1;omega
  subst h';exact As func317 rfl
 refine Ag ?_ (ht:=by simp);refine Al hm ?_;refine Ii ?_ (ht:=by simp);refine Ag ?_ (ht:=by simp;omega);refine Ag ?_;refine Jh 0 (by omega) (b:=32) rfl ?_;refine A0 ?_;refine Hh ?_ (ht:=by rw[wk2 k hk];simp;omega);refine Al (Aum (List.replicate 128 32) [32,32] (by simp) (by simp)) ?_;refine A0 ?_;refine Bn (Pj (s:=List.replicate 128 32) (l:=0) (h:=IntKind.i64.wrap ((2*k:Nat):Int)) (r:=List.replicate (2*k) 32) rfl rfl rfl rfl rfl rfl rfl rfl ?_ ?_ ?_ ?_) ?_
 ·omega
 ·rw[wk2 k hk];omega
 ·rw[wk2 k hk];simp;omega
 ·rw[wk2 k hk,Hl,List.take_replicate];simp;omega
 exact As func317 rfl
theorem Aer:X.P.underlying 308=some (.pointer 310):=by kernel_rfl
theorem Azq:X.P.underlying 366=some .unsafePointer:=by kernel_rfl
theorem Axp:liesAt X.P X.P.depth 310 (2/X.P.cellsOf 310) 0 310 1=true:=by kernel_rfl
theorem Axq:liesAt X.P X.P.depth 312 (4/X.P.cellsOf 312) 0 310 1=true:=by kernel_rfl
theorem Az5(v:Value)(w:World):(callFunc 359 #[v]).run X.P w=.ok (.value v) w:=
 (run_callFunc_extern func359 (by kernel_rfl) (by kernel_rfl) (by kernel_rfl) (e:=Extern.AbiNoEscape.same) (by kernel_rfl) _ w).trans rfl
abbrev bA(A:AV)(s:List UInt8):List AV:=[A,.buf 5 s 0]
abbrev bQ(A:AV)(s:List UInt8)(ws:List (List UInt8))(h:Int):List AV:=[A,.buf 5 s 0,.sl (Dl ws) .no,vi h]
abbrev bP(A:AV)(s:List UInt8)(ws:List (List UInt8))(h:Int):List AV:=[A,.buf 5 s 0,.sl (Dl ws) (.tok 1),vi h]
abbrev bN(A:AV)(s:List UInt8)(h:Int):List AV:=[A,.buf 5 s 0,.sl [] .tight,vi h]
theorem A0x(s:List UInt8):Hands X 333 [.ptr 0 0 0] ⟨[[bA (.tagN 310 0) s]],[s.length]⟩ (.tup []) ⟨[[bA (.ptr 0 0 0) s]],[s.length]⟩:=by
 refine Hands.run (n:=1) (m:=1) func333 ?_;refine Bn (Aiz Aer) ?_;refine A0 ?_;refine Bn (Ani Aer Azq rfl (by simp)) ?_;refine Bn (Aey Az5) ?_;refine Bn (Aex (te:=310) (j:=0) Azq Aer rfl ?_) ?_
 ·intro n hn;subst hn;exact Axp
 exact Ec func333 rfl rfl
theorem A0y(s:List UInt8):Hands X 333 [.ptr 0 0 0] ⟨[[bA (.ptr 0 0 0) s]],[s.length]⟩ (.tup []) ⟨[[bA (.ptr 0 0 0) s]],[s.length]⟩:=by
 refine Hands.run (n:=1) (m:=1) func333 ?_;refine Bn (Ae0 Aer) ?_;refine Ag ?_;refine Bn (Aez Aer rfl (by simp)) ?_;refine Ag ?_;exact Ec func333 rfl rfl
theorem A00(s:List UInt8) (ws:List (List UInt8)) (h:Int):Hands X 333 [.ptr 0 0 0] ⟨[[bQ (.tagN 312 0) s ws h]],[s.length]⟩ (.tup []) ⟨[[bQ (.ptr 0 0 0) s ws h]],[s.length]⟩:=by
 refine Hands.run (n:=1) (m:=1) func333 ?_;refine Bn (Aiz Aer) ?_;refine A0 ?_;refine Bn (Ani Aer Azq rfl (by simp)) ?_;refine Bn (Aey Az5) ?_;refine Bn (Aex (te:=312) (j:=0) Azq Aer rfl ?_) ?_
 ·intro n hn;subst hn;exact Axq
 exact Ec func333 rfl rfl
theorem A01(s:List UInt8) (ws:List (List UInt8)) (h:Int):Hands X 333 [.ptr 0 0 0] ⟨[[bQ (.ptr 0 0 0) s ws h]],[s.length]⟩ (.tup []) ⟨[[bQ (.ptr 0 0 0) s ws h]],[s.length]⟩:=by
 refine Hands.run (n:=1) (m:=1) func333 ?_;refine Bn (Ae0 Aer) ?_;refine Ag ?_;refine Bn (Aez Aer rfl (by simp)) ?_;refine Ag ?_;exact Ec func333 rfl rfl
theorem A22(s:List UInt8)(x:List UInt8)(hb:s.length+x.length≤100000000000):Hands X 316 [.ptr 0 0 0,str x] ⟨[[bA (.tagN 310 0) s]],[s.length]⟩ (.tup [vi x.length,.val .nilIface]) ⟨[[bA (.ptr 0 0 0) (s++x)]],[(s++x).length]⟩:=by
 refine Hands.run (n:=1) (m:=1) func316 ?_;refine Ae (τ':=[0]) [0] [0] (A0x s) ?_;refine Bn (Xz rfl rfl rfl rfl rfl rfl rfl rfl rfl rfl rfl rfl rfl rfl rfl hb rfl) ?_;rw[Ex];exact Bq func316 rfl rfl
theorem A23(s:List UInt8)(x:List UInt8)(hb:s.length+x.length≤100000000000):Hands X 316 [.ptr 0 0 0,str x] ⟨[[bA (.ptr 0 0 0) s]],[s.length]⟩ (.tup [vi x.length,.val .nilIface]) ⟨[[bA (.ptr 0 0 0) (s++x)]],[(s++x).length]⟩:=by
 refine Hands.run (n:=1) (m:=1) func316 ?_;refine Ae (τ':=[0]) [0] [0] (A0y s) ?_;refine Bn (Xz rfl rfl rfl rfl rfl rfl rfl rfl rfl rfl rfl rfl rfl rfl rfl hb rfl) ?_;rw[Ex];exact Bq func316 rfl rfl
theorem A24(s:List UInt8) (ws:List (List UInt8)) (h:Int)(x:List UInt8)(hb:s.length+x.length≤100000000000):Hands X 316 [.ptr 0 0 0,str x] ⟨[[bQ (.tagN 312 0) s ws h]],[s.length]⟩ (.tup [vi x.length,.val .nilIface]) ⟨[[bQ (.ptr 0 0 0) (s++x) ws h]],[(s++x).length]⟩:=by
 refine Hands.run (n:=1) (m:=1) func316 ?_;refine Ae (τ':=[0]) [0] [0] (A00 s ws h) ?_;refine Bn (Xz rfl rfl rfl rfl rfl rfl rfl rfl rfl rfl rfl rfl rfl rfl rfl hb rfl) ?_;rw[Ex];exact Bq func316 rfl rfl
theorem A25(s:List UInt8) (ws:List (List UInt8)) (h:Int)(x:List UInt8)(hb:s.length+x.length≤100000000000):Hands X 316 [.ptr 0 0 0,str x] ⟨[[bQ (.ptr 0 0 0) s ws h]],[s.length]⟩ (.tup [vi x.length,.val .nilIface]) ⟨[[bQ (.ptr 0 0 0) (s++x) ws h]],[(s++x).length]⟩:=by
 refine Hands.run (n:=1) (m:=1) func316 ?_;refine Ae (τ':=[0]) [0] [0] (A01 s ws h) ?_;refine Bn (Xz rfl rfl rfl rfl rfl rfl rfl rfl rfl rfl rfl rfl rfl rfl rfl hb rfl) ?_;rw[Ex];exact Bq func316 rfl rfl
theorem Azp:X.P.underlying 330=some (.pointer 5):=by kernel_rfl
theorem c5:X.P.cellsOf 5=1:=by kernel_rfl
theorem A2l(s:List UInt8)(hb:s.length≤100000000000):Hands X 267 [.ptr 0 0 0] ⟨[[bA (.tagN 310 0) s]],[s.length]⟩ (str s) ⟨[[bA (.tagN 310 0) s]],[s.length+1]⟩:=by
 refine Hands.run (n:=1) (m:=1) func267 ?_;refine Hw 1024 4 ?_;refine A2 (Vh rfl) ?_;refine Fx ?_ rfl;refine Eo (fun S'=>X0) ?_;refine Ch (X2 c5 Azp rfl hb rfl) ?_;refine Av ?_;refine B2 ?_;exact Bq func267 rfl rfl
theorem A2m(s:List UInt8)(hb:s.length≤100000000000):Hands X 267 [.ptr 0 0 0] ⟨[[bA (.ptr 0 0 0) s]],[s.length]⟩ (str s) ⟨[[bA (.ptr 0 0 0) s]],[s.length+1]⟩:=by
 refine Hands.run (n:=1) (m:=1) func267 ?_;refine Hw 1024 4 ?_;refine A2 (Vh rfl) ?_;refine Fx ?_ rfl;refine Eo (fun S'=>X0) ?_;refine Ch (X2 c5 Azp rfl hb rfl) ?_;refine Av ?_;refine B2 ?_;exact Bq func267 rfl rfl
theorem A2n(s:List UInt8) (h:Int)(hb:s.length≤100000000000):Hands X 267 [.ptr 0 0 0] ⟨[[bN (.tagN 312 0) s h]],[s.length]⟩ (str s) ⟨[[bN (.tagN 312 0) s h]],[s.length+1]⟩:=by
 refine Hands.run (n:=1) (m:=1) func267 ?_;refine Hw 1024 4 ?_;refine A2 (Vh rfl) ?_;refine Fx ?_ rfl;refine Eo (fun S'=>X0) ?_;refine Ch (X2 c5 Azp rfl hb rfl) ?_;refine Av ?_;refine B2 ?_;exact Bq func267 rfl rfl
theorem A2o(s:List UInt8) (h:Int)(hb:s.length≤100000000000):Hands X 267 [.ptr 0 0 0] ⟨[[bN (.ptr 0 0 0) s h]],[s.length]⟩ (str s) ⟨[[bN (.ptr 0 0 0) s h]],[s.length+1]⟩:=by
 refine Hands.run (n:=1) (m:=1) func267 ?_;refine Hw 1024 4 ?_;refine A2 (Vh rfl) ?_;refine Fx ?_ rfl;refine Eo (fun S'=>X0) ?_;refine Ch (X2 c5 Azp rfl hb rfl) ?_;refine Av ?_;refine B2 ?_;exact Bq func267 rfl rfl
def Np(te k:Nat):Bool→AV
 |true=>.tagN te k
 |false=>.ptr k 0 0
instance{n m te k:Nat}{b:Bool} [h:LtC k n]:OK n m (Np te k b):=⟨by cases b;exact .ptr k 0 0 h.lt;exact .tagN te k h.lt⟩
instance{σ τ:List Nat}{te k k':Nat}{b:Bool} [h:IdxC σ k k']:RinC σ τ (Np te k b) (Np te k' b):=⟨by cases b;exact .ptr k k' 0 0 h.h;exact .tagN te k k' h.h⟩
instance{σ τ:List Nat}{te k k':Nat}{b:Bool} [h:GetC σ k' k]:RoutC σ τ (Np te k b) (Np te k' b):=⟨by cases b;exact .ptr k k' 0 0 h.h;exact .tagN te k k' h.h⟩
theorem wA(b:Bool)(s x:List UInt8)(hb:s.length+x.length≤100000000000):Hands X 316 [.ptr 0 0 0,str x] ⟨[[bA (Np 310 0 b) s]],[s.length]⟩ (.tup [vi x.length,.val .nilIface]) ⟨[[bA (.ptr 0 0 0) (s++x)]],[(s++x).length]⟩:=by
 cases b
 ·exact A23 s x hb
 ·exact A22 s x hb
theorem wQ(b:Bool)(s:List UInt8)(ws:List (List UInt8))(h:Int)(x:List UInt8)(hb:s.length+x.length≤100000000000) :
 Hands X 316 [.ptr 0 0 0,str x] ⟨[[bQ (Np 312 0 b) s ws h]],[s.length]⟩ (.tup [vi x.length,.val .nilIface]) ⟨[[bQ (.ptr 0 0 0) (s++x) ws h]],[(s++x).length]⟩:=by
 cases b
 ·exact A25 s ws h x hb
 ·exact A24 s ws h x hb
theorem sA(b:Bool)(s:List UInt8)(hb:s.length≤100000000000):Hands X 267 [.ptr 0 0 0] ⟨[[bA (Np 310 0 b) s]],[s.length]⟩ (str s) ⟨[[bA (Np 310 0 b) s]],[s.length+1]⟩:=by
 cases b
 ·exact A2m s hb
 ·exact A2l s hb
theorem sN(b:Bool)(s:List UInt8)(h:Int)(hb:s.length≤100000000000):Hands X 267 [.ptr 0 0 0] ⟨[[bN (Np 312 0 b) s h]],[s.length]⟩ (str s) ⟨[[bN (Np 312 0 b) s h]],[s.length+1]⟩:=by
 cases b
 ·exact A2o s h hb
 ·exact A2n s h hb
abbrev Lw:List (List UInt8):=[[59],[91],[93],[41]]
abbrev L5:List (List UInt8):=[[40],[91],[108,101,110],[32,45]]
def Tm(a b:List UInt8):List UInt8:=if has Lw b||has L5 a then[]else[32]
theorem A4f(a b:List UInt8):Pure X 338 [str a,str b] (str (Tm a b)):=by
 have h1:Pure X 344 [.sl (Dl Lw) .no,str b] (vb (has Lw b)):=Su Lw b (by decide);have h2:Pure X 344 [.sl (Dl L5) .no,str a] (vb (has L5 a)):=Su L5 a (by decide);refine Pure.run func338 ?_;refine Al h1 ?_;refine Df (fun h=>?_) (fun h=>?_)
 ·refine A0 ?_;refine As func338 ?_;rw[Tm,if_pos (by simp[h])]
 ·refine Al h2 ?_;refine Ah (fun h3=>?_) (fun h3=>?_)
  ·have h3':has L5 a=true:=h3;refine As func338 ?_;rw[Tm,if_pos (by simp[h3'])]
  ·have h3':has L5 a=false:=h3;refine As func338 ?_;rw[Tm,if_neg (by simp[h,h3'])]
def Ha:List UInt8→List (List UInt8)→List UInt8
 |_,[]=>[]
 |a,b::ws=>Tm a b++Kd b [32]++Ha b ws
def Po:List (List UInt8)→List UInt8
 |[]=>[]
 |b::ws=>Kd b [32]++Ha b ws
def Adz(ws:List (List UInt8)):Nat→List UInt8
 |0=>Po ws
 |i+1=>Ha (ws.getD i []) (ws.drop (i+1))
theorem Ams{ws:List (List UInt8)}{i:Nat}{b:List UInt8}(h:ws[i]?=some b):Adz ws i=(match i with|0=>[]|j+1=>Tm (ws.getD j []) b)++(Kd b [32]++Adz ws (i+1)):=by
 cases i with
 |zero=>
  cases ws with
  |nil=>simp at h
  |cons c ws=>simp at h;subst h;simp[Adz,Po]
 |succ i=>
  have hd:=B6 h;simp only[Adz];rw[hd];simp only[Ha];rw[show ws.getD (i+1) []=b by simp[List.getD,h]];simp
theorem Aq8(ws:List (List UInt8)):Adz ws ws.length=[]:=by
 cases h:ws.length with
 |zero=>rw[zzq94.1 h];rfl
 |succ n=>simp only[Adz];rw[Aef (by omega)];rfl
theorem A1d(b:Bool)(s:List UInt8)(ws:List (List UInt8))(h:Int)(hw:ws.length≤1000000)(hl:(Po ws).length≤10000000000)(hwl:∀x,x∈ws→x.length≤1000000) :
 Hands X 318 [.ptr 0 0 0] ⟨[[bQ (Np 312 0 b) s ws h]],[s.length]⟩ (str (Po ws)) ⟨[[bQ (Np 312 0 b) s ws h]],[s.length]⟩:=by
 refine Hands.mk (n:=1) (m:=1) func318 rfl rfl (by kernel_rfl) rfl rfl ?_;refine Kv 1 100 rfl ?_;refine Bi 1 rfl ?_;refine Bn (Ak8 (y:=⟨2,.str [(0,1),(1,1)],[.val (.pointer none),.sl [] .tight],[false,false]⟩) (rest:=[]) 5 rfl rfl rfl rfl rfl rfl rfl rfl rfl) ?_;refine Ar (ι:=Nat×List UInt8×Bool) 2 2 (fun i=>i.1≤ws.length∧i.2.1++Adz ws i.1=Po ws) (fun i=>[(11,vi i.1),(10,vi ws.length),(9,.sl (Dl ws) .no),(3,.ptr 1 0 0),(0,.ptr 0 0 0)])
  (fun i=>⟨[[bQ (Np 312 0 b) s ws h],[[Np 310 1 i.2.2,.buf 5 i.2.1 1]]],[s.length,i.2.1.length]⟩) (fun i=>ws.length-i.1) ?_ (0,[],true) ⟨B3 _,rfl⟩ ⟨rfl,by rw[←F6];rfl,rfl,rfl,rfl,trivial⟩
 rintro⟨i,out,c⟩ ⟨hi,hT⟩ IH;simp only at hi hT IH⊢;have hol:out.length≤10000000000:=by have:=congrArg List.length hT;simp at this;omega
 refine C7 (fun h1=>?_) (fun h1=>?_)
 ·have hlt:i<ws.length:=by have:=A5 h1;omega
  obtain⟨x,hx⟩:=Ab ws hlt;have hst:=Ams hx;have hxl:=hwl x (Bh hx);refine B4 i (by omega) (Q5 hx) ?_;refine Ah (fun h2=>?_) (fun h2=>?_)
  ·obtain⟨j,rfl⟩:∃j,i=j+1:=⟨i-1,by have:=A5 h2;omega⟩
   obtain⟨a,ha⟩:=Ab ws (i:=j) (by omega);have hga:ws.getD j []=a:=by simp[List.getD,ha]
   simp only[hga]at hst;rw[hst]at hT;have hl2:=congrArg List.length hT;simp only[Ex]at hl2;have hj:IntKind.i64.wrap (((j+1:Nat):Int)-1)=(j:Int):=(Ac (by omega) (by omega)).trans (by omega);refine B4 (IntKind.i64.wrap (((j+1:Nat):Int)-1)) (by rw[hj];omega) (by rw[hj];exact Q5 ha) ?_;refine Al (A4f a x) ?_;refine Ae (τ':=[1]) [1] [1] (wA c out (Tm a x) (by omega)) ?_;refine Al (Aur x [32] (by omega) (by simp)) ?_;refine Ae (τ':=[1]) [1] [1] (wA false (out++Tm a x) (Kd x [32]) (by simp;omega)) ?_;exact IH (j+1+1,out++Tm a x++Kd x [32],false) ⟨hlt,by rw[←hT];simp⟩ (by simp only;omega) _ _ ⟨vsx (by omega),rfl,rfl,rfl,rfl,trivial⟩ rfl rfl rfl
  ·have hi0:i=0:=by have:=Ba h2;omega
   subst hi0;simp only[Tj]at hst;rw[hst]at hT;have hl2:=congrArg List.length hT;simp only[Ex]at hl2;refine Al (Aur x [32] (by omega) (by simp)) ?_;refine Ae (τ':=[1]) [1] [1] (wA c out (Kd x [32]) (by omega)) ?_;exact IH (0+1,out++Kd x [32],false) ⟨hlt,by rw[←hT];simp⟩ (by simp only;omega) _ _ ⟨vsx (by omega),rfl,rfl,rfl,rfl,trivial⟩ rfl rfl rfl
 ·have hie:i=ws.length:=by have:=Ba h1;omega
  subst hie;rw[Aq8,H0]at hT;subst hT;refine Ae (τ':=[1]) [1] [1] (sA c (Po ws) (by omega)) ?_;exact Bq func318 rfl rfl
def Er(ws:List (List UInt8))(h:Nat):List UInt8:=List.replicate (2*h) 32++Po ws++[10]
theorem Oy(b:Bool)(s:List UInt8)(ws:List (List UInt8))(h:Nat)(hh:h≤60)(hw:ws.length≤1000000)(hl:(Po ws).length≤10000000000)(hs:s.length≤10000000000)(hwl:∀x,x∈ws→x.length≤1000000) :
 Hands X 299 [.ptr 0 0 0] ⟨[[bQ (Np 312 0 b) s ws h]],[s.length]⟩ (.tup []) ⟨[[bN (.ptr 0 0 0) (s++Er ws h) h]],[(s++Er ws h).length]⟩:=by
 have hlen:(Er ws h).length≤20000000000:=by simp[Er];omega
 refine Hands.run (n:=1) (m:=1) func299 ?_;refine Hw 4096 7 ?_;refine Js (Auq h hh) ?_;refine Fx ?_ rfl;refine A2 (Hd (τ':=[0]) [0] [0] (A1d b s ws h hw hl hwl)) ?_;refine Eo (fun S'=>Rq rfl rfl rfl rfl rfl (by simp;omega) rfl) ?_;refine Eo (fun S'=>Rq rfl rfl rfl rfl rfl (by simp;omega) rfl) ?_;refine Ch (Hd (τ':=[0]) [0] [0] (wQ b s ws h (Er ws h) (by omega))) ?_;refine B2 ?_;exact Ec func299 rfl rfl
theorem Aga:∀l:List (List UInt8),Nb (Dl l)=true
 |[]=>rfl
 |s::l=>Aga l
theorem Aji(b:Bool)(s:List UInt8)(ws xs:List (List UInt8))(h:Int)(hw:ws.length+xs.length≤100000000000)(h0:Nat.ble 1 (Dl xs).length=true) :
 Hands X 294 [.ptr 0 0 0,.sl (Dl xs) .no] ⟨[[bP (Np 312 0 b) s ws h]],[s.length,ws.length]⟩ (.tup []) ⟨[[bP (Np 312 0 b) s (ws++xs) h]],[s.length,(ws++xs).length]⟩:=by
 refine Hands.run (n:=1) (m:=2) func294 ?_;refine Bn (Bu (res:=Dl (ws++xs)) rfl rfl rfl rfl rfl rfl rfl rfl rfl rfl rfl rfl rfl rfl (F6 _) (Acf _) (Acf _) (Aga _) h0 ?_ ?_ rfl) ?_
 ·rw[F6,F6];exact hw
 ·simp[Dl]
 rw[F6,F6,Ex];exact Ec func294 rfl rfl
inductive PrN:Nd→Prop where
 |mk (k:Int) (s:List UInt8) (m:Int) (ks:List Nd) (hs:s.length≤8) (h0:-9223372036854775808≤m) (h1:m≤9223372036854775807) (hk:∀x,x∈ks→PrN x):PrN (.mk k s m ks)
def Bv(n:Nd)(i:Nat):Nd:=n.kids.getD i Cg
theorem PrN.kid{n:Nd}(h:PrN n)(i:Nat):PrN (Bv n i):=by
 cases h with
 |mk k s m ks hs h0 h1 hk=>
  unfold Bv;cases hx:ks[i]? with
  |none=>simp[Nd.kids,List.getD,hx];exact .mk 0 [] 0 [] (by simp) (by omega) (by omega) (fun x hx=>by cases hx)
  |some x=>simp[Nd.kids,List.getD,hx];exact hk x (Bh hx)
theorem E5{l:List Nd}{x:Nd}(h:x∈l):Ai x≤A3 l:=by
 induction l with
 |nil=>cases h
 |cons y l ih=>
  simp only[A3];rcases zzq13.1 h with rfl|h
  ·omega
  ·have:=ih h;omega
theorem Mt(n:Nd)(i:Nat):Bv n i∈n.kids∨Bv n i=Cg:=by
 unfold Bv;cases hx:n.kids[i]? with
 |none=>right;simp[List.getD,hx]
 |some x=>left;simp[List.getD,hx];exact Bh hx
theorem Ads(n:Nd)(i:Nat)(hi:i≤1000000000)(hl:n.kids.length≤4000000000):Pure X 297 [nd n,vi i] (nd (Bv n i)):=by
 by_cases h:i<n.kids.length
 ·obtain⟨x,hx⟩:=Ab n.kids h;have hk:Bv n i=x:=by simp[Bv,List.getD,hx]
  rw[hk];refine Pure.run func297 ?_;refine Ag ?_ (ht:=by simp[Ad];omega);refine B4 i (by omega) (Am hx) ?_;exact As func297 rfl
 ·have hk:Bv n i=Cg:=by simp[Bv,List.getD,U9 (Nat.le_of_not_lt h)]
  rw[hk];refine Pure.run func297 ?_;refine A0 ?_ (ht:=by simp[Ad];omega);exact As func297 rfl
abbrev Mg:=List (List UInt8)
def eW(c:List (Int×Mg))(i:Nat):Mg:=(c.getD i (0,[])).2
def Pf(a b:Bool)(k:Int)(w:Mg):Mg:=if (a&&(k==6||k==7))||(b&&k==8)then[[40]]++w++[[41]]else w
def iW(c:List (Int×Mg))(i:Nat)(a b:Bool):Mg:=Pf a b (c.getD i (0,[])).1 (c.getD i (0,[])).2
def Gf(k:Int)(s:List UInt8)(m:Int)(c:List (Int×Mg)):Mg:=
 if k=1 then[Lib.itoa m]
 else if k=2 then[s]
 else if k=3 then[s,[91]]++eW c 0++[[93]]
 else if k=4 then[[108,101,110],[40],s,[41]]
 else if k=5 then[[32,45]]++iW c 0 true true
 else if k=6∨k=7 then eW c 0++[if k=6 then[43]else[45]]++iW c 1 true false
 else if k=8 then iW c 0 true false++[[42]]++iW c 1 true true
 else if 11≤k∧k≤16 then eW c 0++[Ux k]++eW c 1
 else[]
mutual
def A1:Nd→Mg
 |.mk k s m ks=>Gf k s m (B5 ks)
def B5:List Nd→List (Int×Mg)
 |[]=>[]
 |x::l=>(x.kind,A1 x)::B5 l
end
theorem Afl(l:List Nd):B5 l=l.map fun x=>(x.kind,A1 x):=by
 induction l with
 |nil=>rfl
 |cons x l ih=>simp[B5,ih]
theorem Afa:A1 Cg=[]:=rfl
theorem Afk(n:Nd)(i:Nat):(B5 n.kids).getD i (0,[])=((Bv n i).kind,A1 (Bv n i)):=by
 rw[Afl];unfold Bv;cases hx:n.kids[i]? with
 |none=>simp[List.getD,hx,Afa];rfl
 |some x=>simp[List.getD,hx]
theorem F8(n:Nd)(i:Nat):eW (B5 n.kids) i=A1 (Bv n i):=by rw[eW,Afk]
theorem Z2(n:Nd)(i:Nat)(a b:Bool):iW (B5 n.kids) i a b=Pf a b (Bv n i).kind (A1 (Bv n i)):=by rw[iW,Afk]
theorem Ac4(n:Nd):A1 n=Gf n.kind n.name n.num (B5 n.kids):=by cases n;rfl
theorem Ajm(ks:List Nd)(ih:∀x,x∈ks→(A1 x).length+2≤8*Ai x):(eW (B5 ks) 0).length+(eW (B5 ks) 1).length+4≤8*A3 ks+4∧∀a b c d,(iW (B5 ks) 0 a b).length+(iW (B5 ks) 1 c d).length≤8*A3 ks:=by
 have hin:∀a b k w,(Pf a b k w).length≤w.length+2:=fun a b k w=>by unfold Pf;split<;>simp
 cases ks with
 |nil=>refine⟨by simp[eW,B5],fun a b c d=>by simp[iW,Pf,B5]⟩
 |cons x l=>
  have hx:=ih x (by simp);cases l with
  |nil=>
   refine⟨by simp[eW,B5,A3];omega,fun a b c d=>?_⟩;have:=hin a b x.kind (A1 x);simp[iW,B5,A3];have h2:(Pf c d 0 []).length=0:=by simp[Pf]
   rw[h2];omega
  |cons y l=>
   have hy:=ih y (by simp);refine⟨by simp[eW,B5,A3];omega,fun a b c d=>?_⟩;have h1:=hin a b x.kind (A1 x);have h2:=hin c d y.kind (A1 y);simp[iW,B5,A3];omega
theorem Ae9(n:Nd):(A1 n).length+2≤8*Ai n:=by
 induction n using Nd.ind with
 |h n ih=>
 have hc:=Cj n;rw[Ac4];obtain⟨h1,h2⟩:=Ajm n.kids ih;have h3:=h2 true true true true;have h4:=h2 true false true true;have h5:(iW (B5 n.kids) 1 true false).length≤8*A3 n.kids-(eW (B5 n.kids) 0).length:=by
  have:=h2 false false true false;have e:iW (B5 n.kids) 0 false false=eW (B5 n.kids) 0:=by simp[iW,Pf,eW]
  rw[e]at this;omega
 unfold Gf
 repeat' split
 all_goals simp
 all_goals omega
end Go.V
