/- A part of the proof of the claim that the last text states: no condition of its own. -/
import Derived.Test.YtojhghmilenfkaaGreatDoorQ3
import Derived.Laws.Externs
import Derived.Lib.ItoaNum
import Derived.Test.YtojhghmilenfkaaGreatDoorChecked
set_option linter.unusedVariables false
set_option linter.unusedSimpArgs false
namespace Go.V
open Go
def Uw:Code→Option Nat
 |.region id _ _=>some id
 |.seq a b=>match Uw a with
  |some i=>some i
  |none=>Uw b
 |.cond _ a b=>match Uw a with
  |some i=>some i
  |none=>Uw b
 |.block _ c=>Uw c
 |.loop c=>Uw c
 |.scope c=>Uw c
 |_=>none
def isR(o:Option Nat)(id:Nat):Bool:=
 match o with
 |some i=>Nat.beq i id
 |none=>false
def orL(o:Option (List Item))(p:Option (List Item)):Option (List Item):=
 match o with
 |some x=>some x
 |none=>p
def Amx(lp:Bool)(id:Nat):Code→List Item→Option (List Item)
 |.region i ops d,k=>match lp with
  |true=>none
  |false=>match Nat.beq i id with
   |true=>some (.code (.region i ops d)::k)
   |false=>none
 |.loop c,k=>match lp&&isR (Uw c) id with
  |true=>some (.code (.loop c)::k)
  |false=>Amx lp id c (.inLoop c::k)
 |.seq a b,k=>orL (Amx lp id a (.code b::k)) (Amx lp id b k)
 |.cond _ a b,k=>orL (Amx lp id a k) (Amx lp id b k)
 |.block n c,k=>Amx lp id c (.inBlock n::k)
 |_,_=>none
def A5e(lp:Bool)(id:Nat)(fn:Func):Option (List Item):=
 match fn.body with
 |some c=>Amx lp id c []
 |none=>none
def J6(lp:Bool)(id:Nat)(fn:Func):List Item:=
 match A5e lp id fn with
 |some K=>K
 |none=>[]
theorem Z8{X:Cx}{S:St}{F:Cw}{N:Nat}{ops:Array Oper}{i:Nat}{o:Oper}{c:Call}{fo:Operand}{f:FuncId}{caps xs zs ys:An}{r:AV}(hc:Pure X f ys r)(ho:ops[i]?=some o)(hw:Bc ops F o=some true)
 (hop:o.op=.call c)(hcal:c.callee=.value fo)(hfo:Dv X F fo=some (.fn f caps))(hx:Hv X F c.args.toList=some xs)(hzs:Jt xs caps=some zs) [ha:RinL [] [] zs ys](hr:Ok 0 0 r):Ndo X N ops i o F r S S:=by
 refine Ajj hc.1 hc.2 [] [] ho hw hop hcal hfo hx (Sk hzs) List.nodup_nil List.nodup_nil (fun _ h=>by cases h) (fun _ h=>by cases h) rfl .nil rfl rfl ha.s rfl (Bt _) (bx3:=[]) .nil (.flat r hr) ?_;obtain⟨bx,tk⟩:=S;simp[upd]
section
variable {X:Cx}{B:Bx}{S S':St}{F:Cw}{R:AE→St→Prop}{ops:Array Oper}{i:Nat}{l:List Nat}{k:List Item}{o:Oper}{c:Call}{fo p q:Operand}{K:List Item}{F':Cw}
theorem Bs{x:AV}{S2:St}(h:Ndo X B.fn.ntmps ops i o F x S S')(hk:AK X B K F' S2 R)(ho:ops[i]?=some o:=by rfl)(hd:Eh B.fn.ntmps o.dst=true:=by rfl)
 (he:Go.V.ev X B.fn.ntmps 200 (.inRegion ops l::k) (putF o.dst x F) S'=(K,F',S2):=by rfl):AK X B (.inRegion ops (i::l)::k) F S R:=
 Hg h ho hd (Ba 200 he hk)
theorem Aj{f:FuncId}{caps xs zs ys:An}{r:AV}{S2:St}(hc:Pure X f ys r)(hk:AK X B K F' S2 R)(ho:ops[i]?=some o:=by rfl)(hw:Bc ops F o=some true:=by rfl)
 (hop:o.op=.call c:=by rfl)(hcal:c.callee=.value fo:=by rfl)(hfo:Dv X F fo=some (.fn f caps):=by rfl)(hx:Hv X F c.args.toList=some xs:=by rfl)(hzs:Jt xs caps=some zs:=by rfl)
 (hd:Eh B.fn.ntmps o.dst=true:=by rfl) [hs:RinL [] [] zs ys] [hok:OK 0 0 r](he:Go.V.ev X B.fn.ntmps 200 (.inRegion ops l::k) (putF o.dst r F) S=(K,F',S2):=by rfl):AK X B (.inRegion ops (i::l)::k) F S R:=
 Hg (Z8 hc ho hw hop hcal hfo hx hzs hok.ok) ho hd (Ba 200 he hk)
theorem Dj{lp:Bool}{id:Nat}{fn:Func}(hk:AK X B K F S R)(h:A5e lp id fn=some K:=by rfl):AK X B (J6 lp id fn) F S R:=by
 unfold J6;rw[h];exact hk
theorem Ai{t:Nat}{x y:Code}{e:Bool}{K1 K2:List Item}{F1 F2:Cw}{S1 S2:St}(h1:e=true→AK X B K1 F1 S1 R)(h2:e=false→AK X B K2 F2 S2 R)(hc:lk F t=some (.val (.bool e)):=by rfl)
 (he1:Go.V.ev X B.fn.ntmps 200 (.code x::k) ((t,.lit true)::F) S=(K1,F1,S1):=by rfl)(he2:Go.V.ev X B.fn.ntmps 200 (.code y::k) ((t,.lit false)::F) S=(K2,F2,S2):=by rfl) :
 AK X B (.code (.cond (.tmp t) x y)::k) F S R:=
 P2 hc (fun h=>Ba 200 he1 (h1 h)) (fun h=>Ba 200 he2 (h2 h))
theorem Cp{K1 K2:List Item}{t:Nat}{x y:Code}{e:Bool}{F0 F1 F2:Cw}{S0 S1 S2:St}{k0:List Item}(h1:e=true→AK X B K1 F1 S1 R)(h2:e=false→AK X B K2 F2 S2 R)
 (h0:Go.V.ev X B.fn.ntmps 100 K F S=(.code (.cond (.tmp t) x y)::k0,F0,S0):=by rfl)(hc:lk F0 t=some (.val (.bool e)):=by rfl)
 (he1:Go.V.ev X B.fn.ntmps 200 (.code x::k0) ((t,.lit true)::F0) S0=(K1,F1,S1):=by rfl)(he2:Go.V.ev X B.fn.ntmps 200 (.code y::k0) ((t,.lit false)::F0) S0=(K2,F2,S2):=by rfl):AK X B K F S R:=
 Ba 100 h0 (Ai h1 h2 hc he1 he2)
theorem Ay{t:Nat}{x y:Code}{e:Bool}{K1:List Item}{F1:Cw}{S1:St}(h1:AK X B K1 F1 S1 R)(hc:lk F t=some (.val (.bool e)):=by rfl)
 (he1:Go.V.ev X B.fn.ntmps 200 (.code x::k) ((t,.lit true)::F) S=(K1,F1,S1):=by rfl)(ht:e=true:=by rfl):AK X B (.code (.cond (.tmp t) x y)::k) F S R:=
 P2 hc (fun _=>Ba 200 he1 h1) (fun h=>by rw[ht]at h;cases h)
theorem Ah{t:Nat}{x y:Code}{e:Bool}{K2:List Item}{F2:Cw}{S2:St}(h2:AK X B K2 F2 S2 R)(hc:lk F t=some (.val (.bool e)):=by rfl)
 (he2:Go.V.ev X B.fn.ntmps 200 (.code y::k) ((t,.lit false)::F) S=(K2,F2,S2):=by rfl)(ht:e=false:=by rfl):AK X B (.code (.cond (.tmp t) x y)::k) F S R:=
 P2 hc (fun h=>by rw[ht]at h;cases h) (fun _=>Ba 200 he2 h2)
theorem Db{t j:Nat}{want e:Bool}{oj:Oper}{K1 K2:List Item}{F1 F2:Cw}{S1 S2:St}(h1:e=true→AK X B K1 F1 S1 R)(h2:e=false→AK X B K2 F2 S2 R)(ho:ops[i]?=some o:=by rfl)(hg:o.guard=some (j,want):=by rfl)
 (hj:ops[j]?=some oj:=by rfl)(hd:oj.dst=some t:=by rfl)(hc:lk F t=some (.val (.bool e)):=by rfl)(he1:Go.V.ev X B.fn.ntmps 200 (.inRegion ops (i::l)::k) ((t,.lit true)::F) S=(K1,F1,S1):=by rfl)
 (he2:Go.V.ev X B.fn.ntmps 200 (.inRegion ops (i::l)::k) ((t,.lit false)::F) S=(K2,F2,S2):=by rfl):AK X B (.inRegion ops (i::l)::k) F S R:=
 Yi hc (fun h=>Ba 200 he1 (h1 h)) (fun h=>Ba 200 he2 (h2 h))
theorem Ep{t j:Nat}{want e:Bool}{oj:Oper}{K1:List Item}{F1:Cw}{S1:St}(h1:AK X B K1 F1 S1 R)(ho:ops[i]?=some o:=by rfl)(hg:o.guard=some (j,want):=by rfl)
 (hj:ops[j]?=some oj:=by rfl)(hd:oj.dst=some t:=by rfl)(hc:lk F t=some (.val (.bool e)):=by rfl)(he1:Go.V.ev X B.fn.ntmps 200 (.inRegion ops (i::l)::k) ((t,.lit true)::F) S=(K1,F1,S1):=by rfl)(ht:e=true:=by rfl) :
 AK X B (.inRegion ops (i::l)::k) F S R:=
 Yi hc (fun _=>Ba 200 he1 h1) (fun h=>by rw[ht]at h;cases h)
theorem Gm{t j:Nat}{want e:Bool}{oj:Oper}{K2:List Item}{F2:Cw}{S2:St}(h2:AK X B K2 F2 S2 R)(ho:ops[i]?=some o:=by rfl)(hg:o.guard=some (j,want):=by rfl)
 (hj:ops[j]?=some oj:=by rfl)(hd:oj.dst=some t:=by rfl)(hc:lk F t=some (.val (.bool e)):=by rfl)(he2:Go.V.ev X B.fn.ntmps 200 (.inRegion ops (i::l)::k) ((t,.lit false)::F) S=(K2,F2,S2):=by rfl)(ht:e=false:=by rfl) :
 AK X B (.inRegion ops (i::l)::k) F S R:=
 Yi hc (fun h=>by rw[ht]at h;cases h) (fun _=>Ba 200 he2 h2)
theorem Bv{t e:Nat}{rows:A7}{sp:Sp}{ik:IntKind}{r:An}{y ye:Ty}{S2:St}(n:Int)(h0:0≤n)(hr:rows[n.toNat]?=some r)(hk:AK X B K F' S2 R)(ho:ops[i]?=some o:=by rfl)(hw:Bc ops F o=some true:=by rfl)
 (hop:o.op=.indexAddr t p q:=by rfl)(hp:Dv X F p=some (.sl rows sp):=by rfl)(hq:Dv X F q=some (.val (.int ik n)):=by rfl)
 (hy:X.ty t=some y:=by rfl)(hyk:y.k=.slc e:=by rfl)(hye:X.ty e=some ye:=by rfl)(hd:Eh B.fn.ntmps o.dst=true:=by rfl)(hl:r.length=ye.size:=by rfl)
 (he:Go.V.ev X B.fn.ntmps 200 (.inRegion ops l::k) (putF o.dst (.cptr r) F) S=(K,F',S2):=by rfl):AK X B (.inRegion ops (i::l)::k) F S R:=
 Acy ho hw hop hp hq hy hyk hye hd hl h0 hr (Ba 200 he hk)
theorem Jy{t:Nat}{s:Ad}{ik:IntKind}{b:UInt8}{y:Ty}{S2:St}(n:Int)(h0:0≤n)(hr:s[n.toNat]?=some b)(hk:AK X B K F' S2 R)(ho:ops[i]?=some o:=by rfl)(hw:Bc ops F o=some true:=by rfl)
 (hop:o.op=.index t p q:=by rfl)(hp:Dv X F p=some (str s):=by rfl)(hq:Dv X F q=some (.val (.int ik n)):=by rfl)(hy:X.ty t=some y:=by rfl)(hyk:y.k=.string:=by rfl)
 (hd:Eh B.fn.ntmps o.dst=true:=by rfl)(he:Go.V.ev X B.fn.ntmps 200 (.inRegion ops l::k) (putF o.dst (.val (.int .u8 b.toNat)) F) S=(K,F',S2):=by rfl):AK X B (.inRegion ops (i::l)::k) F S R:=
 Awr ho hw hop hp hq hy hyk hd h0 hr (Ba 200 he hk)
theorem Pure.run{f:FuncId}{fn:Func}{c:Code}{args:An}{r:AV}{S2:St}(hf:X.P.funcs[f]?=some fn)(h:AK X ⟨f,fn,0,0⟩ K F' S2 fun e S=>e=.ret r∧S=⟨[],[]⟩)(hb:fn.body=some c:=by rfl)
 (hl:Nat.ble args.length fn.ntmps=true:=by rfl)(hnm:(fn.name == "runtime.NumGoroutine")=false:=by kernel_rfl)
 (he:Go.V.ev X fn.ntmps 200 [.code c] (Pg 0 args) ⟨[],[]⟩=(K,F',S2):=by rfl):Pure X f args r:=
 Pure.mk hf hb hl hnm (Ba 200 he h)
theorem Az{f:FuncId}{fn:Func}{r:AV}{xs:An}{k:List Item}(hf:X.P.funcs[f]?=some fn)(hr0:De xs=r)(h:Oc X F S fn.results.toList=some xs:=by rfl) [hr:OK 0 0 r] :
 AK X ⟨f,fn,0,0⟩ (.code .ret::k) F S fun e S'=>e=.ret r∧S'=⟨[],[]⟩:=
 Z4 (bx:=[]) (tk:=[]) hf h rfl (by simp[St.drop]) hr0
def Oz(N:Nat)(dst:Option Nat)(x:AV)(F:Cw):Option Cw:=
 match dst with
 |some d=>match Nat.blt d N with
  |true=>some ((d,x)::F)
  |false=>none
 |none=>some F
theorem Gd{N:Nat}{dst:Option Nat}{x:AV}{F F':Cw}(h:Oz N dst x F=some F'):Eh N dst=true∧putF dst x F=F':=by
 unfold Oz at h;split at h
 ·split at h
  ·rename_i hb;cases h;exact⟨hb,rfl⟩
  ·cases h
 ·cases h;exact⟨rfl,rfl⟩
variable {N:Nat}{bs:List Nat}{em:Nat}{os:List Oper}{x:AV}{Hs:List St}{pend pend':List Jc}{KK:Cw→St→Prop}
theorem A0(k:Drv X N ops bs em os (i+1) F' S Hs pend KK)(ho:ops[i]?=some o:=by rfl)(hw:Bc ops F o=some true:=by rfl)(h:∀S',Es X F S' o.op=some x:=by intro;rfl)(hF:Oz N o.dst x F=some F':=by rfl) :
 Drv X N ops bs em (o::os) i F S Hs pend KK:=by
 obtain⟨h1,rfl⟩:=Gd hF;exact Alr ho hw h h1 k
theorem Ac0(k:Drv X N ops bs em os (i+1) F' S Hs pend KK)(ho:ops[i]?=some o:=by rfl)(hw:Bc ops F o=some true:=by rfl)(h:∀bx tk,Kx X F ⟨bx,tk⟩ o.op=some (x,⟨bx,tk⟩):=by intro _ _;rfl)(hF:Oz N o.dst x F=some F':=by rfl) :
 Drv X N ops bs em (o::os) i F S Hs pend KK:=by
 obtain⟨h1,rfl⟩:=Gd hF;exact Ahf ho hw h h1 k
theorem D6(h:∀S',Ndo X N ops i o F x S' S')(k:Drv X N ops bs em os (i+1) F' S Hs pend KK)(hF:Oz N o.dst x F=some F':=by rfl):Drv X N ops bs em (o::os) i F S Hs pend KK:=by
 obtain⟨h1,rfl⟩:=Gd hF;exact Kw h h1 k
theorem Hz{f:FuncId}{caps xs zs ys:An}{r:AV}(hc:Pure X f ys r)(k:Drv X N ops bs em os (i+1) F' S Hs pend KK)(ho:ops[i]?=some o:=by rfl)(hw:Bc ops F o=some true:=by rfl)
 (hop:o.op=.call c:=by rfl)(hcal:c.callee=.value fo:=by rfl)(hfo:Dv X F fo=some (.fn f caps):=by rfl)(hx:Hv X F c.args.toList=some xs:=by rfl)(hzs:Jt xs caps=some zs:=by rfl)
 (hF:Oz N o.dst r F=some F':=by rfl) [hs:RinL [] [] zs ys] [hok:OK 0 0 r]:Drv X N ops bs em (o::os) i F S Hs pend KK:=by
 obtain⟨h1,rfl⟩:=Gd hF;exact Kw (fun S'=>Z8 hc ho hw hop hcal hfo hx hzs hok.ok) h1 k
theorem Hm{b:Bool}(b':Bool)(k:Drv X N ops bs em os (i+1) F' S Hs pend KK)(ho:ops[i]?=some o:=by rfl)(hw:Bc ops F o=some true:=by rfl)(h:∀S',Es X F S' o.op=some (.val (.bool b)):=by intro;rfl)
 (hF:Oz N o.dst (.lit b') F=some F':=by rfl)(hb:b=b':=by rfl):Drv X N ops bs em (o::os) i F S Hs pend KK:=by
 subst hb;obtain⟨h1,rfl⟩:=Gd hF;exact Kw (fun S'=>Aw5 (Cy ho hw (h S'))) h1 k
theorem C4(h:Ndo X N ops i o F x S S')(k:Drv X N ops bs em os (i+1) F' S' (S'::Hs) [] KK)(he:em.testBit i=true:=by rfl)(hF:Oz N o.dst x F=some F':=by rfl)(hp:pend.filter (fun p=>!bitOf bs p.1 i)=[]:=by kernel_rfl) :
 Drv X N ops bs em (o::os) i F S Hs pend KK:=by
 obtain⟨h1,rfl⟩:=Gd hF;exact Ass h he h1 hp k
theorem Bu{k:List Item}{S2:St}(hk:AK X B K F' S2 R)(he:Go.V.ev X B.fn.ntmps 200 k F S=(K,F',S2):=by rfl):Drv X N ops bs em [] i F S Hs pend fun F1 S1=>AK X B k F1 S1 R:=
 Ba 200 he hk
end
def Anj:An→Option AV
 |[x]=>some x
 |xs=>some (.tup xs)
theorem Ai0:∀{xs:An}{x:AV},Anj xs=some x→De xs=x
 |[],x,h=>by simp only[Anj]at h;cases h;rfl
 |[y],x,h=>by simp only[Anj]at h;cases h;rfl
 |y::z::l,x,h=>by simp only[Anj]at h;cases h;rfl
inductive FzL (S:St)(n m:Nat):List AV→List AV→Prop where
 |nil:FzL S n m [] []
 |cons {x y:AV} {l l':List AV} (h:Fz S n m x y) (t:FzL S n m l l'):FzL S n m (x::l) (y::l')
theorem FzL.get{S:St}{n m:Nat}{l l':An}(h:FzL S n m l l'):l'.length=l.length∧∀(j:Nat)(x y:AV),l[j]?=some x→l'[j]?=some y→Fz S n m x y:=by
 induction h with
 |nil=>exact⟨rfl,fun j x y h=>by simp at h⟩
 |cons h t ih=>
  refine⟨by simp[ih.1],fun j x y hx hy=>?_⟩;cases j with
  |zero=>simp at hx hy;subst hx;subst hy;exact h
  |succ j=>exact ih.2 j x y (by simpa using hx) (by simpa using hy)
theorem FzL.same{S:St}{n m:Nat}:∀{l:An},(∀x,x∈l→Ok n m x)→FzL S n m l l
 |[],_=>.nil
 |x::l,h=>.cons (.same x (h x (by simp))) (FzL.same fun y hy=>h y (by simp[hy]))
inductive FzR (S:St)(n m:Nat):List (List AV)→List (List AV)→Prop where
 |nil:FzR S n m [] []
 |cons {x y:List AV} {l l':List (List AV)} (h:FzL S n m x y) (t:FzR S n m l l'):FzR S n m (x::l) (y::l')
theorem FzR.get{S:St}{n m:Nat}{l l':A7}(h:FzR S n m l l'):l'.length=l.length∧∀(j:Nat)(x y:An),l[j]?=some x→l'[j]?=some y→FzL S n m x y:=by
 induction h with
 |nil=>exact⟨rfl,fun j x y h=>by simp at h⟩
 |cons h t ih=>
  refine⟨by simp[ih.1],fun j x y hx hy=>?_⟩;cases j with
  |zero=>simp at hx hy;subst hx;subst hy;exact h
  |succ j=>exact ih.2 j x y (by simpa using hx) (by simpa using hy)
theorem FzR.same{S:St}{n m:Nat}:∀{l:A7},H3 n m l→FzR S n m l l
 |[],_=>.nil
 |x::l,h=>.cons (FzL.same (h x (by simp))) (FzR.same fun y hy=>h y (by simp[hy]))
theorem A0s{S:St}{n m:Nat}{rows rows':A7}{sp:Sp}(h:FzR S n m rows rows'):Fz S n m (.sl rows sp) (.sl rows' .no):=
 .strip rows rows' sp h.get.1 (fun i r r' h1 h2=>(h.get.2 i r r' h1 h2).get.1) (fun i j r r' x y h1 h2 h3 h4=>(h.get.2 i r r' h1 h2).get.2 j x y h3 h4)
class FzC (S:St)(n m:Nat)(x:AV)(y:outParam AV):Prop where
 s:Fz S n m x y
class FzLC (S:St)(n m:Nat)(x:List AV)(y:outParam (List AV)):Prop where
 s:FzL S n m x y
class FzRC (S:St)(n m:Nat)(x:List (List AV))(y:outParam (List (List AV))):Prop where
 s:FzR S n m x y
section
variable {S:St}{n m:Nat}
instance{v:Value}:FzC S n m (.val v) (.val v):=⟨.same _ (.val v)⟩
instance{rows rows':A7}{sp:Sp} [h:FzRC S n m rows rows']:FzC S n m (.sl rows sp) (.sl rows' .no):=⟨A0s h.s⟩
instance{l l':An} [h:FzLC S n m l l']:FzC S n m (.agg l) (.agg l'):=⟨.agg l l' h.s.get.1 h.s.get.2⟩
instance{l l':An} [h:FzLC S n m l l']:FzC S n m (.tup l) (.tup l'):=⟨.tup l l' h.s.get.1 h.s.get.2⟩
instance{f:FuncId}{l:An} [h:OKL n m l]:FzC S n m (.fn f l) (.fn f l):=⟨.same _ (.fn f l h.ok)⟩
instance:FzLC S n m [] []:=⟨.nil⟩
instance{x y:AV}{l l':An} [h:FzC S n m x y] [t:FzLC S n m l l']:FzLC S n m (x::l) (y::l'):=⟨.cons h.s t.s⟩
instance(priority:=low){l:An} [h:OKL n m l]:FzLC S n m l l:=⟨FzL.same h.ok⟩
instance:FzRC S n m [] []:=⟨.nil⟩
instance{x y:An}{l l':A7} [h:FzLC S n m x y] [t:FzRC S n m l l']:FzRC S n m (x::l) (y::l'):=⟨.cons h.s t.s⟩
instance(priority:=low){l:A7} [h:OKR n m l]:FzRC S n m l l:=⟨FzR.same h.ok⟩
end
section
variable {X:Cx}{B:Bx}{S:St}{F:Cw}{R:AE→St→Prop}
theorem Ao{f:FuncId}{fn:Func}{r x y:AV}{xs:An}{k:List Item}(hf:X.P.funcs[f]?=some fn)(hr:y=r)(h:Oc X F S fn.results.toList=some xs:=by rfl)(hx:Anj xs=some x:=by rfl) [hz:FzC S 0 0 x y] :
 AK X ⟨f,fn,0,0⟩ (.code .ret::k) F S fun e S'=>e=.ret r∧S'=⟨[],[]⟩:=by
 subst hr;refine F3 (B:=⟨f,fn,0,0⟩) hf h 0 (Bt _) (by rw[Ai0 hx];exact hz.s) (fun rows hr=>by simp at hr) ⟨rfl,by simp[St.drop]⟩
end
def Aid:Op→Bool
 |.load ..=>true
 |_=>false
def Ajy(X:Cx)(F:Cw)(S:St)(op:Op):Option AV:=
 match op with
 |.buildSlice ..=>match Kx X F S op with
  |some (x,_)=>some x
  |none=>none
 |_=>none
def Ly(X:Cx)(N:Nat)(ops:Array Oper)(S:St):Nat→List Oper→Nat→Cw→List Jc→List Oper×Nat×Cw×List Jc
 |0,os,i,F,p=>(os,i,F,p)
 |_+1,[],i,F,p=>([],i,F,p)
 |n+1,o::os,i,F,p=>match Bc ops F o with
  |some true=>match Es X F S o.op with
   |some x=>match Oz N o.dst x F with
    |some F'=>match Aid o.op with
     |true=>Ly X N ops S n os (i+1) F' ((i,o,F,x)::p)
     |false=>Ly X N ops S n os (i+1) F' p
    |none=>(o::os,i,F,p)
   |none=>match Ajy X F S o.op with
    |some x=>match Oz N o.dst x F with
     |some F'=>Ly X N ops S n os (i+1) F' p
     |none=>(o::os,i,F,p)
    |none=>(o::os,i,F,p)
  |some false=>match Oz N o.dst (.val (.tuple #[])) F with
   |some F'=>Ly X N ops S n os (i+1) F' p
   |none=>(o::os,i,F,p)
  |none=>(o::os,i,F,p)
theorem Su{X:Cx}{F:Cw}{S S':St}{op:Op}(h:Aid op=false):Es X F S op=Es X F S' op:=by
 cases op<;>first|rfl|(simp[Aid]at h;done)|skip
 case pick c a b=>cases c<;>rfl
 case makeFunc f a b=>cases f<;>rfl
 case indexAddr t x y=>
  cases y with
  |const c=>cases c<;>rfl
  |_=>rfl
theorem Ss{X:Cx}{F:Cw}{S:St}{op:Op}{x:AV}(h:Ajy X F S op=some x):∀bx tk,Kx X F ⟨bx,tk⟩ op=some (x,⟨bx,tk⟩):=by
 intro bx tk;cases op<;>first|(simp[Ajy]at h;done)|skip
 case buildSlice t n ps=>
  simp only[Ajy,Kx]at h⊢;split at h
  ·rename_i x' S' hm;cases h;split at hm
   ·rename_i y hy;split at hm
    ·rename_i e he;split at hm
     ·rename_i ye hye;split at hm
      ·rename_i hb;split at hm
       ·rename_i a ha;cases hm;rfl
       ·cases hm
      ·cases hm
     ·cases hm
    ·cases hm
   ·cases hm
  ·cases h
section
variable {X:Cx}{B:Bx}{S S':St}{F:Cw}{R:AE→St→Prop}{ops:Array Oper}{N:Nat}{bs:List Nat}{em:Nat}{KK:Cw→St→Prop}
theorem Qu:∀(n:Nat)(os:List Oper)(i:Nat)(F:Cw)(pend:List Jc),ops.toList.drop i=os →
 Drv X N ops bs em (Ly X N ops S n os i F pend).1 (Ly X N ops S n os i F pend).2.1 (Ly X N ops S n os i F pend).2.2.1 S [S] (Ly X N ops S n os i F pend).2.2.2 KK→Drv X N ops bs em os i F S [S] pend KK
 |0,os,i,F,p,_,h=>h
 |n+1,[],i,F,p,_,h=>h
 |n+1,o::os,i,F,p,hos,h=>by
  have ho:ops[i]?=some o:=by
   have:(ops.toList.drop i)[0]?=some o:=by rw[hos];rfl
   rw[R0]at this;simpa using this
  have hos':ops.toList.drop (i+1)=os:=by
   have:(ops.toList.drop i).drop 1=os:=by rw[hos];rfl
   rw[Aes]at this;exact this
  unfold Ly at h;split at h
  ·rename_i hw;split at h
   ·rename_i x hx;split at h
    ·rename_i F' hF;obtain⟨h1,rfl⟩:=Gd hF;split at h
     ·exact Afb ho hw hx h1 (Qu n os (i+1) _ _ hos' h)
     ·rename_i hl;exact Alr ho hw (fun S'=>by rw[Su hl];exact hx) h1 (Qu n os (i+1) _ _ hos' h)
    ·exact h
   ·split at h
    ·rename_i x hx;split at h
     ·rename_i F' hF;obtain⟨h1,rfl⟩:=Gd hF;exact Ahf ho hw (Ss hx) h1 (Qu n os (i+1) _ _ hos' h)
     ·exact h
    ·exact h
  ·rename_i hw;split at h
   ·rename_i F' hF;obtain⟨h1,rfl⟩:=Gd hF;exact Kw (fun S'=>Ym ho hw) h1 (Qu n os (i+1) _ _ hos' h)
   ·exact h
  ·exact h
theorem C9{os os':List Oper}{i i':Nat}{F':Cw}{pend pend':List Jc}(k:Drv X N ops bs em os' i' F' S [S] pend' KK)(h:Ly X N ops S 100 os i F pend=(os',i',F',pend'):=by rfl)(hos:ops.toList.drop i=os:=by rfl) :
 Drv X N ops bs em os i F S [S] pend KK:=
 Qu 100 os i F pend hos (by rw[h];exact k)
theorem Hy{os os':List Oper}{i i':Nat}{F':Cw}{pend pend':List Jc}(n:Nat)(k:Drv X N ops bs em os' i' F' S [S] pend' KK)(h:Ly X N ops S n os i F pend=(os',i',F',pend'):=by rfl)(hos:ops.toList.drop i=os:=by rfl) :
 Drv X N ops bs em os i F S [S] pend KK:=
 Qu n os i F pend hos (by rw[h];exact k)
theorem Hb{id i':Nat}{k:List Item}{os':List Oper}{F':Cw}{pend':List Jc}(em n:Nat)(hk:Drv X B.fn.ntmps ops (Ha ops.toList []) em os' i' F' S [S] pend' fun F1 S1=>AK X B k F1 S1 R)
 (hst:Sr ops (Ha ops.toList []) em=true:=by kernel_rfl)(h:Ly X B.fn.ntmps ops S n ops.toList 0 F []=(os',i',F',pend'):=by rfl):AK X B (.code (.region id ops true)::k) F S R:=
 Di em hst (Hy n hk h)
theorem H0{i:Nat}{o:Oper}{c:Call}{fo:Operand}{f:FuncId}{caps xs zs ys:An}{r y:AV}{bx1 bx2 bxc bx3:B3}{tkc tk1:List Nat}
 (σ τ:List Nat)(hc:Hands X f ys ⟨bxc,tkc⟩ y ⟨bx1,tk1⟩)(ho:ops[i]?=some o:=by rfl)(hw:Bc ops F o=some true:=by rfl)(hop:o.op=.call c:=by rfl)(hcal:c.callee=.value fo:=by rfl)
 (hfo:Dv X F fo=some (.fn f caps):=by rfl)(hx:Hv X F c.args.toList=some xs:=by rfl)(hzs:Jt xs caps=some zs:=by rfl)(hσ:Kt σ=true:=by rfl)(hτ:Kt τ=true:=by rfl)
 (hσl:(σ.all fun i=>Nat.blt i S.boxes.length)=true:=by rfl)(hτl:(τ.all fun t=>Nat.blt t S.toks.length)=true:=by rfl)(hsb:Ae4 σ S.boxes=some bx2:=by rfl) [hb:RinB σ τ bx2 bxc]
 (ht:τ.map (fun t=>S.toks.getD t 0)=tkc:=by rfl) [ha:RinL σ τ zs ys](hb1:bx1.length=σ.length:=by rfl)(ht1:Nat.ble τ.length tk1.length=true:=by rfl){τ':List Nat}
 (hτ':Il τ S.toks.length (tk1.length-τ.length)=τ':=by rfl) [hR:RoutB σ τ' bx3 bx1] [hr:RoutC σ τ' r y](hS':St.mk (upd S.boxes σ bx3) (upd S.toks τ tk1++tk1.drop τ.length)=S':=by rfl) :
 Ndo X N ops i o F r S S':=
 V4 σ τ hc ho hw hop hcal hfo hx hzs hσ hτ hσl hτl hsb ht hb1 ht1 hτ' hS'
theorem Er{os:List Oper}{i:Nat}{o:Oper}{x:AV}{F':Cw}{Hs:List St}{pend:List Jc}(h:Ndo X N ops i o F x S S')(hr:∀p,p∈pend→Ndo X N ops p.1 p.2.1 p.2.2.1 p.2.2.2 S' S')
 (k:Drv X N ops bs em os (i+1) F' S' (S'::Hs) (pend.filter fun p=>!bitOf bs p.1 i) KK)(he:em.testBit i=true:=by rfl)(hF:Oz N o.dst x F=some F':=by rfl):Drv X N ops bs em (o::os) i F S Hs pend KK:=by
 obtain⟨h1,rfl⟩:=Gd hF;exact An4 h he h1 rfl (fun p hp=>hr p (zzq35.1 hp).1) k
theorem A4{os:List Oper}{i:Nat}{o:Oper}{x:AV}{F':Cw}{pend:List Jc}(h:Ndo X N ops i o F x S S)(k:Drv X N ops bs em os (i+1) F' S [S] ((i,o,F,x)::pend) KK)(hF:Oz N o.dst x F=some F':=by rfl) :
 Drv X N ops bs em (o::os) i F S [S] pend KK:=by
 obtain⟨h1,rfl⟩:=Gd hF;exact Qt (Aq h G6) h1 k
theorem Anx{id i':Nat}{k K:List Item}{F' F2:Cw}{S2:St}{pend':List Jc}(hk:AK X B K F2 S2 R)(hst:Sr ops (Ha ops.toList []) 0=true:=by kernel_rfl)(h:Ly X B.fn.ntmps ops S 100 ops.toList 0 F []=([],i',F',pend'):=by rfl)
 (he:Go.V.ev X B.fn.ntmps 200 k F' S=(K,F2,S2):=by rfl):AK X B (.code (.region id ops true)::k) F S R:=
 Di 0 hst (C9 (os':=[]) (Asr (Ba 200 he hk)) h)
theorem Eo{id i':Nat}{k:List Item}{os':List Oper}{F':Cw}{pend':List Jc}(em:Nat)(hk:Drv X B.fn.ntmps ops (Ha ops.toList []) em os' i' F' S [S] pend' fun F1 S1=>AK X B k F1 S1 R)
 (hst:Sr ops (Ha ops.toList []) em=true:=by kernel_rfl)(h:Ly X B.fn.ntmps ops S 100 ops.toList 0 F []=(os',i',F',pend'):=by rfl):AK X B (.code (.region id ops true)::k) F S R:=
 Di em hst (C9 hk h)
theorem Bz{f:FuncId}{fn:Func}{n m:Nat}{bx:B3}{tk:List Nat}{r x y:AV}{xs:An}{k:List Item}(hf:X.P.funcs[f]?=some fn)(hr:y=r)(hS:S.drop n tk.length=⟨bx,tk⟩)
 (h:Oc X F S fn.results.toList=some xs:=by rfl)(hx:Anj xs=some x:=by rfl)(hm:Nat.ble m tk.length=true:=by rfl) [hz:FzC S n tk.length x y] [hbox:OKB n tk.length bx] :
 AK X ⟨f,fn,n,m⟩ (.code .ret::k) F S fun e S'=>e=.ret r∧S'=⟨bx,tk⟩:=by
 subst hr;refine F3 (B:=⟨f,fn,n,m⟩) hf h tk.length (J5 hm) (by rw[Ai0 hx];exact hz.s) ?_ ⟨rfl,hS⟩;have:S.boxes.take n=bx:=by have:=congrArg St.boxes hS;exact this
 show ∀rows,rows∈S.boxes.take n→H3 n tk.length rows;rw[this];exact hbox.ok
theorem Ek{f:FuncId}{fn:Func}{n m:Nat}{bx:B3}{tk:List Nat}{r x y:AV}{xs:An}(hf:X.P.funcs[f]?=some fn)(hr:y=r)(hS:S.drop n tk.length=⟨bx,tk⟩)
 (h:Oc X F S fn.results.toList=some xs:=by rfl)(hx:Anj xs=some x:=by rfl)(hm:Nat.ble m tk.length=true:=by rfl) [hz:FzC S n tk.length x y] [hbox:OKB n tk.length bx] :
 AK X ⟨f,fn,n,m⟩ [] F S fun e S'=>e=.ret r∧S'=⟨bx,tk⟩:=by
 subst hr;refine Anz (B:=⟨f,fn,n,m⟩) hf h tk.length (J5 hm) (by rw[Ai0 hx];exact hz.s) ?_ ⟨rfl,hS⟩;have:S.boxes.take n=bx:=by have:=congrArg St.boxes hS;exact this
 show ∀rows,rows∈S.boxes.take n→H3 n tk.length rows;rw[this];exact hbox.ok
theorem Hands.run{f:FuncId}{fn:Func}{c:Code}{args:An}{r:AV}{bx bx':B3}{tk tk':List Nat}{n m:Nat}{K:List Item}{F':Cw}{S2:St}(hf:X.P.funcs[f]?=some fn)
 (h:AK X ⟨f,fn,n,m⟩ K F' S2 fun e S=>e=.ret r∧S=⟨bx',tk'⟩)(hb:fn.body=some c:=by rfl)(hl:Nat.ble args.length fn.ntmps=true:=by rfl)(hnm:(fn.name == "runtime.NumGoroutine")=false:=by kernel_rfl)
 (hn:Aat bx=n:=by rfl)(hm:tk.length=m:=by rfl)(he:Go.V.ev X fn.ntmps 200 [.code c] (Pg 0 args) ⟨bx,tk⟩=(K,F',S2):=by rfl):Hands X f args ⟨bx,tk⟩ r ⟨bx',tk'⟩:=
 Hands.mk hf hb hl hnm (by rw[←Kj];exact hn) hm (Ba 200 he h)
theorem Af{i:Nat}{l:List Nat}{k:List Item}{o:Oper}{c:Call}{fo:Operand}{f:FuncId}{caps xs zs ys:An}{r y:AV}{bx1 bx2 bxc bx3:B3}{tkc tk1:List Nat}{K:List Item}{F':Cw}{S2:St}
 (σ τ:List Nat)(hc:Hands X f ys ⟨bxc,tkc⟩ y ⟨bx1,tk1⟩)(hk:AK X B K F' S2 R)(ho:ops[i]?=some o:=by rfl)(hw:Bc ops F o=some true:=by rfl)(hop:o.op=.call c:=by rfl)(hcal:c.callee=.value fo:=by rfl)
 (hfo:Dv X F fo=some (.fn f caps):=by rfl)(hx:Hv X F c.args.toList=some xs:=by rfl)(hzs:Jt xs caps=some zs:=by rfl)(hσ:Kt σ=true:=by rfl)(hτ:Kt τ=true:=by rfl)
 (hσl:(σ.all fun i=>Nat.blt i S.boxes.length)=true:=by rfl)(hτl:(τ.all fun t=>Nat.blt t S.toks.length)=true:=by rfl)(hsb:Ae4 σ S.boxes=some bx2:=by rfl) [hb:RinB σ τ bx2 bxc]
 (ht:τ.map (fun t=>S.toks.getD t 0)=tkc:=by rfl) [ha:RinL σ τ zs ys](hb1:bx1.length=σ.length:=by rfl)(ht1:Nat.ble τ.length tk1.length=true:=by rfl){τ':List Nat}
 (hτ':Il τ S.toks.length (tk1.length-τ.length)=τ':=by rfl) [hR:RoutB σ τ' bx3 bx1] [hr:RoutC σ τ' r y](hS':St.mk (upd S.boxes σ bx3) (upd S.toks τ tk1++tk1.drop τ.length)=S':=by rfl)
 (hd:Eh B.fn.ntmps o.dst=true:=by rfl)(he:Go.V.ev X B.fn.ntmps 200 (.inRegion ops l::k) (putF o.dst r F) S'=(K,F',S2):=by rfl):AK X B (.inRegion ops (i::l)::k) F S R:=
 Hg (V4 σ τ hc ho hw hop hcal hfo hx hzs hσ hτ hσl hτl hsb ht hb1 ht1 hτ' hS') ho hd (Ba 200 he hk)
end
section
variable {X:Cx}{B:Bx}{E:Env}{S:St}{w:World}{F:Cw}{R:AE→St→Prop}
theorem Inv.mintB(hI:Inv X E S w){b r j:Nat}{rows:A7}{cs:An}{sl:A7}(hb:S.boxes[b]?=some rows)(hr:rows[r]?=some cs)(hc:cs[j]?=some (.sl sl .tight)) :
 Inv X (E.mint sl.length) ⟨S.boxes.set b (rows.set r (cs.set j (.sl sl (.tok S.toks.length)))),S.toks++[sl.length]⟩ w:=by
 have h:=hI.mint sl.length;exact{ h with
  nb:=by have:=h.nb;simpa using this
  box:=fun i blk sz rows' h1 h2=>by
   rcases E8 h2 with⟨rfl,rfl⟩|⟨_,h2⟩
   ·obtain⟨arr,e,hh,hs,hl,hrel⟩:=hI.box i blk sz rows h1 hb;refine⟨arr,e,hh,by simpa using hs,fun q hq=>?_,fun k q p x v hk hp hv=>?_⟩
    ·rcases Zy hq with hq|rfl
     ·exact hl q hq
     ·simpa using hl cs (Bn hr)
    ·rcases E8 hk with⟨rfl,rfl⟩|⟨_,hk⟩
     ·rcases E8 hp with⟨rfl,rfl⟩|⟨_,hp⟩
      ·exact Rel.mint hI (hrel k cs p _ v hr hc hv)
      ·exact(hrel k cs p x v hr hp hv).step (Np E w sl.length)
     ·exact(hrel k q p x v hk hp hv).step (Np E w sl.length)
   ·exact h.box i blk sz rows' h1 h2 }
theorem E6{K:List Item}(b r j:Nat){m:Nat}{rows:A7}{cs:An}{sl:A7}{bx:B3}{tk:List Nat}(hb:S.boxes[b]?=some rows)(hr:rows[r]?=some cs)
 (hc:cs[j]?=some (.sl sl .tight))(hn:S.toks.length=m)(hbx:S.boxes.set b (rows.set r (cs.set j (.sl sl (.tok m))))=bx)(htk:S.toks++[sl.length]=tk)(hk:AK X B K F ⟨bx,tk⟩ R):AK X B K F S R:=by
 subst hn;subst hbx;subst htk;intro E w a b' cs' hI hF hn hm hb';have ev:=Np E w sl.length;have nt:E.toks.length=S.toks.length:=by rw[←hI.nt];simp
 exact Fin.from (Steps.refl _ _) (ev.weaken (by rw[hI.nb];exact hn) (by omega)) (hk (E.mint sl.length) w a b' cs' (hI.mintB hb hr hc) (hF.mint sl.length) (by simpa using hn) (by simp;omega) hb')
end
section
variable {X:Cx}{B:Bx}{S S':St}{F:Cw}{N:Nat}{R:AE→St→Prop}{ops:Array Oper}{i:Nat}{o:Oper}{x y:AV}
theorem Ren.less{E:Env}{w:World}{v:Value}(h:Ren true [] [] x y)(hv:Rel E w v x):Rel E w v y:=
 h.fwd (fun _ _ h=>h) (fun _ _ _ h=>by simp at h) (fun _ _ _ h=>by simp at h) hv
theorem Al3(h:Ndo X N ops i o F x S S') [hw:RinC [] [] x y]:Ndo X N ops i o F y S S':=by
 intro F' E w a hl hI hF b k cs rest;obtain⟨v,w',⟨E',h1,h2,h3⟩,h4⟩:=h F' E w a hl hI hF b k cs rest;exact⟨v,w',⟨E',h1,h2,hw.s.less h3⟩,h4⟩
theorem Ajd{K:List Item}(d:Nat)(hk:AK X B K ((d,y)::F) S R)(hx:lk F d=some x:=by rfl) [hw:RinC [] [] x y]:AK X B K F S R:=by
 intro E w a b cs hI hF hn hm hb;refine hk E w a b cs hI ⟨hF.size,hF.nod,fun k z hz=>?_⟩ hn hm hb;rw[Kk]at hz;split at hz
 ·rename_i he;subst he;cases hz;obtain⟨v,h1,h2⟩:=hF.rel _ _ hx;exact⟨v,h1,hw.s.less h2⟩
 ·exact hF.rel k z hz
end
section
variable {X:Cx}{B:Bx}{E:Env}{S S':St}{w:World}{F:Cw}{a:Act}{N:Nat}{R:AE→St→Prop}{ops:Array Oper}{i:Nat}{o:Oper}
def Thr(X:Cx)(N:Nat)(ops:Array Oper)(i:Nat)(o:Oper)(F:Cw)(S:St)(ch:List PanicEntry)(S':St):Prop:=
 ∀(F':Cw) (E:Env) (w:World) (a:Act),(∀t,t∈o.looksAt ops→lk F' t=lk F t)→Inv X E S w→FR E w F' a N →
  ∀(b:Frame) (k:List Item) (cs:List Frame) (rest:List Nat),∃E' w' fr,Inv X E' S' w'∧Evol E w E' w' E.boxes.length E.toks.length∧fr.fn=b.fn∧fr.mode=.panicking ch∧fr.defers=a.defers∧fr.tmps=a.tmps∧fr.kind=b.kind ∧
   Steps X.P (lone (b.at a (.inRegion ops (i::rest)::k)) cs w) (lone fr cs w')
theorem Afq{K:List Item}(hf:X.P.funcs[B.f]?=some B.fn){ch:List PanicEntry}(m:Nat)(hm:B.m≤m)(hbox:∀rows,rows∈S'.boxes.take B.n→H3 B.n m rows)(hR:R (.panic ch) (S'.drop B.n m))
 (h:∀(E:Env)(w:World)(a:Act)(b:Frame)(cs:List Frame),Inv X E S w→FR E w F a B.fn.ntmps→b.fn=B.f→∃E' w' fr,Inv X E' S' w'∧Evol E w E' w' E.boxes.length E.toks.length∧fr.fn=b.fn∧fr.mode=.panicking ch ∧
   fr.defers=a.defers∧Steps X.P (lone (b.at a K) cs w) (lone fr cs w')):AK X B K F S R:=by
 intro E w a b cs hI hF hn hm' hb;obtain⟨E',w',fr,h1,h2,h3,h4,h5,h6⟩:=h E w a b cs hI hF hb;have nt:E.toks.length=S.toks.length:=by rw[←hI.nt];simp
 refine .inl ⟨.panicked ch,w',fr,⟨E'.drop B.n m,S'.drop B.n m,h1.drop hbox,(h2.weaken (by rw[hI.nb];exact hn) (by omega)).trans ((Evol.drop E' w' B.n m).weaken (Bt _) hm),hR⟩,h6,h3.trans hb,h4,h5.trans hF.nod,B.fn,?_⟩;rw[h3,hb];exact hf
theorem Asq{l:List Nat}{k:List Item}(hf:X.P.funcs[B.f]?=some B.fn){ch:List PanicEntry}(h:Thr X B.fn.ntmps ops i o F S ch S')(m:Nat)(hm:B.m≤m)
 (hbox:∀rows,rows∈S'.boxes.take B.n→H3 B.n m rows)(hR:R (.panic ch) (S'.drop B.n m)):AK X B (.inRegion ops (i::l)::k) F S R:=
 Afq hf m hm hbox hR fun E w a b cs hI hF _=>by
  obtain⟨E',w',fr,h1,h2,h3,h4,h5,_,_,h6⟩:=h F E w a (fun _ _=>rfl) hI hF b k cs l;exact⟨E',w',fr,h1,h2,h3,h4,h5,h6⟩
def Throws(X:Cx)(f:FuncId)(args:An)(S:St)(ch:List PanicEntry)(S1:St):Prop:=
 N8 X.P f∧ACalls X f args S fun e S'=>e=.panic ch∧S'=S1
theorem Thr.hand{c:Call}{fo:Operand}{f:FuncId}{caps xs zs ys:An}{ch:List PanicEntry}{Sc:St}{bx1 bx2:B3}{tk1:List Nat}
 (hE:N8 X.P f)(hc:ACalls X f ys Sc fun e S1=>e=.panic ch∧S1=⟨bx1,tk1⟩)(σ τ:List Nat)(ho:ops[i]?=some o)(hw:Bc ops F o=some true)(hop:o.op=.call c)(hcal:c.callee=.value fo)
 (hfo:Dv X F fo=some (.fn f caps))(hx:Hv X F c.args.toList=some xs)(hzs:xs++caps=zs)(hσ:σ.Nodup)(hτ:τ.Nodup)(hσl:∀i,i∈σ→i<S.boxes.length)(hτl:∀t,t∈τ→t<S.toks.length)
 (hsb:σ.map (fun i=>S.boxes.getD i [])=bx2){bxc:B3}(hb:RenB true σ τ bx2 bxc)(ht:τ.map (fun t=>S.toks.getD t 0)=Sc.toks)(hSc:Sc.boxes=bxc)(ha:RenL true σ τ zs ys)
 (hb1:bx1.length=σ.length)(ht1:τ.length≤tk1.length){bx3:B3}(hR:RenB false σ (Il τ S.toks.length (tk1.length-τ.length)) bx3 bx1)
 (hS':St.mk (upd S.boxes σ bx3) (upd S.toks τ tk1++tk1.drop τ.length)=S'):Thr X N ops i o F S ch S':=by
 subst hS';subst hzs;subst hsb;subst hSc;intro F' E w a hl hI hF b k cs rest;have nt:E.toks.length=S.toks.length:=by rw[←hI.nt];simp
 have hτl':∀t,t∈τ→t<E.toks.length:=fun t h=>by rw[nt];exact hτl t h
 obtain⟨l1,l2⟩:=Sj (X:=X) hop hcal hl;obtain⟨vs,h1,h2,h3⟩:=Q4 hop hcal hE hI hF (l1.trans hfo) (l2.trans hx);have hsl:Sc.boxes.length=σ.length:=by have:=hb.get.1;simpa using this
 have htl:Sc.toks.length=τ.length:=by rw[←ht];simp
 have hcalls:=hc (E.sub σ τ) w vs rfl (hI.sub hσ hτ hτl' hb hσl ht) (by rw[h2,ha.get.1]) (fun j v y hv hy=>by
  obtain⟨x,hx⟩:=Ab (xs++caps) (i:=j) (by have:=Aa hy;rw[ha.get.1]at this;exact this);exact(ha.get.2 j x y hx hy).fwd (fun b o=>Tv hτl') (fun i j q h1 h2=>Jm.2 ⟨i,h1,h2⟩) (fun i j k h1 h2=>(Km hτl').2 ⟨i,h1,h2⟩) (h3 j v x hv hx))
 have hg:=stepG_op (P:=X.P) (b:=b) (k:=k) (cs:=cs) (w:=w) (rest:=rest) ho (Cu hF (by rw[Dc hl];exact hw));obtain⟨e,w',fr,⟨E1,S1,d1,d2,d3⟩,h6,_,h8⟩:=hcalls (b.at a (.inRegion ops (i::rest)::k)::cs);rw[hsl,htl]at d2;have henter:Go.step X.P (lone (b.at a (.inRegion ops (i::rest)::k)) cs w) =
  .next (lone (Frame.enter X.P f vs .normal) (b.at a (.inRegion ops (i::rest)::k)::cs) w):=
  step_lone_go (by rw[hg];simp[stepG.apply,h1,Frame.at])
 cases e with
 |returned v=>obtain⟨r',_,h,_⟩:=d3;cases h
 |outgrown=>exact d3.elim
 |panicked ch'=>
  obtain⟨h,rfl⟩:=d3;cases h;obtain⟨b1,b2,_⟩:=Aod hI d1 d2 hσ hτ hσl hτl' hb1 ht1 hR;exact⟨E.back E1 τ,w',(b.at a (.inRegion ops (i::rest)::k)).raise ch,b2,b1,rfl,rfl,rfl,rfl,rfl,.head henter (Steps.trans h6 (.one (step_leave_panicked h8)))⟩
theorem Thr.hd{c:Call}{fo:Operand}{f:FuncId}{caps xs zs ys:An}{ch:List PanicEntry}{bx1 bx2 bxc bx3:B3}{tkc tk1:List Nat}
 (σ τ:List Nat)(hc:Throws X f ys ⟨bxc,tkc⟩ ch ⟨bx1,tk1⟩)(ho:ops[i]?=some o:=by rfl)(hw:Bc ops F o=some true:=by rfl)(hop:o.op=.call c:=by rfl)(hcal:c.callee=.value fo:=by rfl)
 (hfo:Dv X F fo=some (.fn f caps):=by rfl)(hx:Hv X F c.args.toList=some xs:=by rfl)(hzs:Jt xs caps=some zs:=by rfl)(hσ:Kt σ=true:=by rfl)(hτ:Kt τ=true:=by rfl)
 (hσl:(σ.all fun i=>Nat.blt i S.boxes.length)=true:=by rfl)(hτl:(τ.all fun t=>Nat.blt t S.toks.length)=true:=by rfl)(hsb:Ae4 σ S.boxes=some bx2:=by rfl) [hb:RinB σ τ bx2 bxc]
 (ht:τ.map (fun t=>S.toks.getD t 0)=tkc:=by rfl) [ha:RinL σ τ zs ys](hb1:bx1.length=σ.length:=by rfl)(ht1:Nat.ble τ.length tk1.length=true:=by rfl){τ':List Nat}
 (hτ':Il τ S.toks.length (tk1.length-τ.length)=τ':=by rfl) [hR:RoutB σ τ' bx3 bx1](hS':St.mk (upd S.boxes σ bx3) (upd S.toks τ tk1++tk1.drop τ.length)=S':=by rfl) :
 Thr X N ops i o F S ch S':=by
 subst hτ';exact Thr.hand hc.1 hc.2 σ τ ho hw hop hcal hfo hx (Sk hzs) (O5 hσ) (O5 hτ) (Aho hσl) (Aho hτl) (Ah6 [] hsb) hb.s ht rfl ha.s hb1 (J5 ht1) hR.s hS'
theorem Thr.go{p:Operand}{t:TypeId}{v:Value}(ho:ops[i]?=some o:=by rfl)(hw:Bc ops F o=some true:=by rfl)(hop:o.op=.panic p:=by rfl)(hp:Dv X F p=some (.val (.iface t v)):=by rfl) :
 Thr X N ops i o F S [{ v:=.iface t v,recovered:=false }] S:=by
 intro F' E w a hl hI hF b k cs rest;have h1:=Am hI hF (o:=p) (x:=.val (.iface t v)) (by
  have:=Hi hl;rw[hop]at this;rw[←hp];exact Dq fun q hq=>this q (by simp[Op.operands,hq]))
 have hg:=stepG_op (P:=X.P) (b:=b) (k:=k) (cs:=cs) (w:=w) (rest:=rest) ho (Cu hF (by rw[Dc hl];exact hw));have hv:a.eval p=.iface t v:=by
  generalize a.eval p=u at h1;cases h1;rfl
 have hr:(execOp a.eval o).run X.P w=.halt (.panic (.iface t v)) w:=by
  simp[execOp,hop,hv,Instr.panic,goPanic]
 refine⟨E,w,(b.at a (.inRegion ops (i::rest)::k)).raise [{ v:=.iface t v,recovered:=false }],hI,Evol.refl _ _ _ _,rfl,rfl,rfl,rfl,rfl,.one (step_lone_go ?_)⟩;rw[hg];simp[stepG.apply,hr]
theorem Throws.run{f:FuncId}{fn:Func}{c:Code}{args:An}{ch:List PanicEntry}{bx bx':B3}{tk tk':List Nat}{n m:Nat}{K:List Item}{F':Cw}{S2:St}(hf:X.P.funcs[f]?=some fn)
 (h:AK X ⟨f,fn,n,m⟩ K F' S2 fun e S=>e=.panic ch∧S=⟨bx',tk'⟩)(hb:fn.body=some c:=by rfl)(hl:Nat.ble args.length fn.ntmps=true:=by rfl)(hnm:(fn.name == "runtime.NumGoroutine")=false:=by kernel_rfl)
 (hn:Aat bx=n:=by rfl)(hm:tk.length=m:=by rfl)(he:Go.V.ev X fn.ntmps 200 [.code c] (Pg 0 args) ⟨bx,tk⟩=(K,F',S2):=by rfl):Throws X f args ⟨bx,tk⟩ ch ⟨bx',tk'⟩:=
 ⟨⟨fn,hf,hnm,by rw[hb];rfl⟩,J8 hf hb hl (by rw[←Kj];exact hn) hm (Ba 200 he h)⟩
theorem F9{f:FuncId}{fn:Func}{n m:Nat}{ch:List PanicEntry}{bx:B3}{tk:List Nat}{l:List Nat}{k:List Item}(hf:X.P.funcs[f]?=some fn)(h:Thr X fn.ntmps ops i o F S ch S')
 (hS:S'.drop n tk.length=⟨bx,tk⟩)(hm:Nat.ble m tk.length=true:=by rfl) [hbox:OKB n tk.length bx] :
 AK X ⟨f,fn,n,m⟩ (.inRegion ops (i::l)::k) F S fun e S'=>e=.panic ch∧S'=⟨bx,tk⟩:=by
 refine Asq (B:=⟨f,fn,n,m⟩) hf h tk.length (J5 hm) ?_ ⟨rfl,hS⟩;have:S'.boxes.take n=bx:=by have:=congrArg St.boxes hS;exact this
 show ∀rows,rows∈S'.boxes.take n→H3 n tk.length rows;rw[this];exact hbox.ok
end
section
variable {X:Cx}{B:Bx}{E:Env}{S S1:St}{w:World}{F:Cw}{a:Act}{N:Nat}{R:AE→St→Prop}{ops:Array Oper}{bs:List Nat}{em i0:Nat}{ch:List PanicEntry}
def RestT(X:Cx)(N:Nat)(ops:Array Oper)(bs:List Nat)(i0:Nat):List Oper→Nat→Cw→Prop
 |[],_,_=>True
 |o::os,j,F=>(bitOf bs i0 j=true∧RestT X N ops bs i0 os (j+1) (putF o.dst .junk F)) ∨
  (∃x,Eh N o.dst=true∧(∀S',Ndo X N ops j o F x S' S')∧RestT X N ops bs i0 os (j+1) (putF o.dst x F))
theorem Ac8:∀(os:List Oper)(j:Nat)(F:Cw),RestT X N ops bs i0 os j F→(∀k,k<os.length→ops[j+k]?=os[k]?) →
 ∃(x:Nat→AV) (FF:Nat→Cw),FF j=F∧(∀q,j≤q→q<j+os.length→∀o,ops[q]?=some o→FF (q+1)=putF o.dst (x q) (FF q)) ∧
  (∀q,j≤q→q<j+os.length→bitOf bs i0 q=false→∀o,ops[q]?=some o→Eh N o.dst=true∧∀S',Ndo X N ops q o (FF q) (x q) S' S')
 |[],j,F,_,_=>⟨fun _=>.junk,fun _=>F,rfl,fun q h1 h2=>by simp at h2;omega,fun q h1 h2=>by simp at h2;omega⟩
 |o::os,j,F,h,hops=>by
  have ho:ops[j]?=some o:=by have:=hops 0 (by simp);simpa using this
  have hops':∀k,k<os.length→ops[j+1+k]?=os[k]?:=fun k hk=>by
   have:=hops (k+1) (by simp;omega);rw[show j+1+k=j+(k+1) by omega];simpa using this
  have key:∀x,(bitOf bs i0 j=false→Eh N o.dst=true∧∀S',Ndo X N ops j o F x S' S')→RestT X N ops bs i0 os (j+1) (putF o.dst x F)→∃(x:Nat→AV) (FF:Nat→Cw),FF j=F∧(∀q,j≤q→q<j+(o::os).length→∀o,ops[q]?=some o→FF (q+1)=putF o.dst (x q) (FF q)) ∧
   (∀q,j≤q→q<j+(o::os).length→bitOf bs i0 q=false→∀o,ops[q]?=some o→Eh N o.dst=true∧∀S',Ndo X N ops q o (FF q) (x q) S' S'):=fun x hx hr=>by
   obtain⟨xs,FF,h1,h2,h3⟩:=Ac8 os (j+1) _ hr hops';refine⟨fun q=>if q=j then x else xs q,fun q=>if q=j then F else FF q,by simp,fun q q1 q2 o' ho'=>?_,fun q q1 q2 hb o' ho'=>?_⟩
   ·by_cases hq:q=j
    ·subst hq;rw[ho]at ho';cases ho';simp[h1]
    ·have h4:¬(q+1=j):=by omega
     simp only[hq,h4,if_false];exact h2 q (by omega) (by simp at q2;omega) o' ho'
   ·by_cases hq:q=j
    ·subst hq;rw[ho]at ho';cases ho';simp only[if_true];exact hx hb
    ·simp only[hq,if_false];exact h3 q (by omega) (by simp at q2;omega) hb o' ho'
  simp only[RestT]at h;rcases h with⟨hb,hr⟩|⟨x,hd,hn,hr⟩
  ·exact key .junk (fun h=>by rw[hb]at h;cases h) hr
  ·exact key x (fun _=>⟨hd,hn⟩) hr
def AtT(X:Cx)(N:Nat)(ops:Array Oper)(bs:List Nat)(i0:Nat)(ch:List PanicEntry)(S1:St)(F:Cw)(S:St):Prop:=
 ∃o,ops[i0]?=some o∧Thr X N ops i0 o F S ch S1∧RestT X N ops bs i0 (ops.toList.drop (i0+1)) (i0+1) (putF o.dst .junk F)
theorem Asm{id:Nat}{k:List Item}(i0 em:Nat)(hf:X.P.funcs[B.f]?=some B.fn)(hst:Sr ops (Ha ops.toList []) em=true)(hem:em.testBit i0=true)
 (h:Drv X B.fn.ntmps ops (Ha ops.toList []) em (ops.toList.take i0) 0 F S [S] [] (AtT X B.fn.ntmps ops (Ha ops.toList []) i0 ch S1))(m:Nat)(hm:B.m≤m)
 (hbox:∀rows,rows∈S1.boxes.take B.n→H3 B.n m rows)(hR:R (.panic ch) (S1.drop B.n m)):AK X B (.code (.region id ops true)::k) F S R:=by
 obtain⟨hb0,dk⟩:=Abm hst;generalize Ha ops.toList []=bs at *;obtain⟨eff,x,FF,SS,Hs,pe,m0,hm0,h1,h2,⟨o0,ho0,ht,hr⟩,hHs,hpe,glue⟩:=Qw _ 0 F S [S] [] h (fun j hj=>by
  simp only[Zz,Array.length_toList]at hj;simp[Z0,show j<i0 by omega]) (by simp) (fun q hq=>by cases hq)
 have hlt:i0<ops.size:=by
  rcases Ga i0 ops.size with h|h
  ·exact h
  ·rw[Array.getElem?_eq_none h]at ho0;cases ho0
 obtain rfl:m0=i0:=by simp at hm0;omega
 obtain⟨x2,FF2,k1,k2,k3⟩:=Ac8 _ _ _ hr (fun k hk=>by simp[R0]);have hl2:m0+1+(ops.toList.drop (m0+1)).length=ops.size:=by simp;omega
 rw[hl2]at k2 k3;have D:=glue (fun j=>decide (j=m0∨bitOf bs m0 j=true∨ops.size≤j)) ops.size (fun _=>false) (Xe m0 .junk x2) (Xe m0 (FF m0) FF2) (fun _=>SS m0) (by omega) (if_pos rfl) rfl (by
  have hu:∀{β:Type} (v:β) (f:Nat→β) {j:Nat},m0<j→Xe m0 v f j=f j:=by intro β v f j h;exact if_neg (by omega)
  have lv:∀j,m0≤j→decide (j=m0∨bitOf bs m0 j=true∨ops.size≤j)=false→m0+1≤j∧bitOf bs m0 j=false:=fun j hj hd=>by
   have:=Bd hd;simp only[not_or,Bool.not_eq_true]at this;exact⟨by omega,this.2.1⟩
  refine⟨fun j a c o ho=>?_,fun j a c hn o ho=>?_,fun _ _ _ _=>rfl,fun j a c he=>(by cases he),fun j a c he=>(by cases he),fun j a c _ hn o ho T _=>?_,fun j a c _ hn o ho p _ _ _=>?_,fun q hq p _ _ _=>hpe q hq⟩
  ·rcases Ga m0 j with h|h
   ·rw[hu _ _ h,hu _ _ h,hu _ _ (by omega)];exact k2 j h c o ho
   ·obtain rfl:j=m0:=by omega
    have h9:=ho0.symm.trans ho;cases h9;rw[hu _ _ (by omega)];exact k1.trans (by simp[Xe])
  ·obtain⟨g1,g2⟩:=lv j a hn;exact(k3 j g1 c g2 o ho).1
  ·obtain⟨g1,g2⟩:=lv j a hn;rw[hu _ _ (by omega),hu _ _ (by omega)];exact(k3 j g1 c g2 o ho).2 T
  ·obtain⟨g1,g2⟩:=lv j a hn;rw[hu _ _ (by omega),hu _ _ (by omega)];exact(k3 j g1 c g2 o ho).2 _)
 refine Afq hf m hm hbox hR fun E w a b cs hI hF hb=>?_;obtain⟨l,hl,hst1⟩:=V8 (X:=X) (id:=id) hb0 k a b cs w;have ev:=He E w E.boxes.length E.toks.length;have g0:∀{β:Type} {f g:Nat→β},g m0=f m0→Qa m0 f g m0=f m0:=by intro β f g h;rw[Adn];exact h
 have hI1:Inv X E (Qa m0 SS (fun _=>SS m0) 0) { w with drawn:=w.drawn+1 }:=by rw[Aoo (g:=fun _=>SS m0) rfl,h2];exact hI.keep (He E w _ _) (fun _ _=>rfl)
 obtain⟨E',w',a',g1,g2⟩:=Yx dk D (Bt _) (fun j h=>Ry (.inr (.inr h))) ((Aoo (g:=Xe m0 (FF m0) FF2) (if_pos rfl)).trans h1) k l (fun _=>false) a { w with drawn:=w.drawn+1 } E 0 hl (fun j e _ _ h=>by cases h) (fun j h=>by cases h) (Cb _) (fun e _ _=>by simp) hI1 (by rw[Ahj];exact hF.step ev) b cs;rcases g2 with⟨_,q0,_⟩|⟨i,l2,ls,p2,q1,q2,q3,q4,q5,q6,q7,q8,q9,q10,q11,q12,q13⟩
 ·rcases q0 m0 hlt with h|h
  ·cases h
  ·simp at h
 ·have hno:ls m0=false:=by
   cases hl:ls m0 with
   |false=>rfl
   |true=>rcases q9 m0 hl with h|h
          ·cases h
          ·simp at h
  have hii:i=m0:=by
   rcases A6 q1 with h|h|h
   ·exact h
   ·have:=q3.2.2.1 m0 hlt h;rw[hno]at this;cases this
   ·have:=q3.1;omega
  subst hii;rw[List.map_id',List.map_id']at q2;have hag:=q13 (by omega) o0 ho0;rw[Adn,show Xe i (FF i) FF2 i=FF i from if_pos rfl]at hag;have hS:=q12 (by omega) hem;rw[Adn]at hS;obtain⟨E2,w2,fr,t1,t2,t3,t4,t5,_,_,t6⟩:=ht _ E' w' a' hag (by rw[hS];exact q10) q11 b k cs l2;have ev2:=ev.trans g1;have hll:=ev2.len;exact⟨E2,w2,fr,t1,ev2.trans (t2.weaken hll.1 hll.2),t3,t4,t5.trans (q11.nod.trans (ev2.df.trans hF.nod.symm)),hst1.trans (q2.trans t6)⟩
theorem Qv{KK:Cw→St→Prop}:∀(n:Nat)(os:List Oper)(i:Nat)(F:Cw)(pend:List Jc),(∀k,k<os.length→ops[i+k]?=os[k]?) →
 Drv X N ops bs em (Ly X N ops S n os i F pend).1 (Ly X N ops S n os i F pend).2.1 (Ly X N ops S n os i F pend).2.2.1 S [S] (Ly X N ops S n os i F pend).2.2.2 KK→Drv X N ops bs em os i F S [S] pend KK
 |0,os,i,F,p,_,h=>h
 |n+1,[],i,F,p,_,h=>h
 |n+1,o::os,i,F,p,hos,h=>by
  have ho:ops[i]?=some o:=by have:=hos 0 (by simp);simpa using this
  have hos':∀k,k<os.length→ops[i+1+k]?=os[k]?:=fun k hk=>by
   have:=hos (k+1) (by simp;omega);rw[show i+1+k=i+(k+1) by omega];simpa using this
  unfold Ly at h;split at h
  ·rename_i hw;split at h
   ·rename_i x hx;split at h
    ·rename_i F' hF;obtain⟨h1,rfl⟩:=Gd hF;split at h
     ·exact Afb ho hw hx h1 (Qv n os (i+1) _ _ hos' h)
     ·rename_i hl;exact Alr ho hw (fun S'=>by rw[Su hl];exact hx) h1 (Qv n os (i+1) _ _ hos' h)
    ·exact h
   ·split at h
    ·rename_i x hx;split at h
     ·rename_i F' hF;obtain⟨h1,rfl⟩:=Gd hF;exact Ahf ho hw (Ss hx) h1 (Qv n os (i+1) _ _ hos' h)
     ·exact h
    ·exact h
  ·rename_i hw;split at h
   ·rename_i F' hF;obtain⟨h1,rfl⟩:=Gd hF;exact Kw (fun S'=>Ym ho hw) h1 (Qv n os (i+1) _ _ hos' h)
   ·exact h
  ·exact h
theorem Ay9{os:List Oper}{i n:Nat}(h:(ops.toList.drop i).take n=os):∀k,k<os.length→ops[i+k]?=os[k]?:=fun k hk=>by
 subst h;simp only[Zz]at hk;simp[Z0,R0,show k<n by omega]
theorem L1{id i':Nat}{k:List Item}{f:FuncId}{fn:Func}{n m:Nat}{bx:B3}{tk:List Nat}{os':List Oper}{F':Cw}{pend':List Jc}(i0 em q:Nat)(hf:X.P.funcs[f]?=some fn)
 (hk:Drv X fn.ntmps ops (Ha ops.toList []) em os' i' F' S [S] pend' (AtT X fn.ntmps ops (Ha ops.toList []) i0 ch S1))(hS:S1.drop n tk.length=⟨bx,tk⟩)
 (hst:Sr ops (Ha ops.toList []) em=true:=by kernel_rfl)(hem:em.testBit i0=true:=by rfl)(h:Ly X fn.ntmps ops S q (ops.toList.take i0) 0 F []=(os',i',F',pend'):=by rfl)(hm:Nat.ble m tk.length=true:=by rfl) [hbox:OKB n tk.length bx] :
 AK X ⟨f,fn,n,m⟩ (.code (.region id ops true)::k) F S fun e S'=>e=.panic ch∧S'=⟨bx,tk⟩:=by
 refine Asm (B:=⟨f,fn,n,m⟩) i0 em hf hst hem (Qv q _ 0 F [] (Ay9 (n:=i0) (by simp)) (by rw[h];exact hk)) tk.length (J5 hm) ?_ ⟨rfl,hS⟩;have:S1.boxes.take n=bx:=by have:=congrArg St.boxes hS;exact this
 show ∀rows,rows∈S1.boxes.take n→H3 n tk.length rows;rw[this];exact hbox.ok
def Aef(X:Cx)(N:Nat)(ops:Array Oper)(bs:List Nat)(i0:Nat):List Oper→Nat→Cw→Bool
 |[],_,_=>true
 |o::os,j,F=>match bitOf bs i0 j with
  |true=>Aef X N ops bs i0 os (j+1) (putF o.dst .junk F)
  |false=>match Bc ops F o with
   |some true=>match Aid o.op with
    |true=>false
    |false=>match Es X F ⟨[],[]⟩ o.op with
     |some x=>match Eh N o.dst with
      |true=>Aef X N ops bs i0 os (j+1) (putF o.dst x F)
      |false=>false
     |none=>match Ajy X F ⟨[],[]⟩ o.op with
      |some x=>match Eh N o.dst with
       |true=>Aef X N ops bs i0 os (j+1) (putF o.dst x F)
       |false=>false
      |none=>false
   |some false=>match Eh N o.dst with
    |true=>Aef X N ops bs i0 os (j+1) (putF o.dst (.val (.tuple #[])) F)
    |false=>false
   |none=>false
theorem Nz:∀(os:List Oper)(j:Nat)(F:Cw),ops.toList.drop j=os→Aef X N ops bs i0 os j F=true→RestT X N ops bs i0 os j F
 |[],_,_,_,_=>trivial
 |o::os,j,F,hos,h=>by
  have ho:ops[j]?=some o:=by
   have:(ops.toList.drop j)[0]?=some o:=by rw[hos];rfl
   rw[R0]at this;simpa using this
  have hos':ops.toList.drop (j+1)=os:=by
   have:(ops.toList.drop j).drop 1=os:=by rw[hos];rfl
   rw[Aes]at this;exact this
  unfold Aef at h;split at h
  ·rename_i hb;exact .inl ⟨hb,Nz os _ _ hos' h⟩
  ·split at h
   ·rename_i hw;split at h
    ·cases h
    ·rename_i hl;split at h
     ·rename_i x hx;split at h
      ·rename_i hd;exact .inr ⟨x,hd,fun S'=>Cy ho hw (by rw[Su hl];exact hx),Nz os _ _ hos' h⟩
      ·cases h
     ·split at h
      ·rename_i x hx;split at h
       ·rename_i hd;exact .inr ⟨x,hd,fun⟨bx,tk⟩=>Me ho hw (Ss hx bx tk),Nz os _ _ hos' h⟩
       ·cases h
      ·cases h
   ·rename_i hw;split at h
    ·rename_i hd;exact .inr ⟨_,hd,fun S'=>Ym ho hw,Nz os _ _ hos' h⟩
    ·cases h
   ·cases h
theorem Ma{i:Nat}{o:Oper}{Hs:List St}{pend:List Jc}(h:Thr X N ops i0 o F S ch S1)(ho:ops[i0]?=some o:=by rfl)(hr:Aef X N ops bs i0 (ops.toList.drop (i0+1)) (i0+1) (putF o.dst .junk F)=true:=by rfl) :
 Drv X N ops bs em [] i F S Hs pend (AtT X N ops bs i0 ch S1):=
 ⟨o,ho,h,Nz _ _ _ rfl hr⟩
end
section
variable {X:Cx}{B:Bx}{S S':St}{F:Cw}{R:AE→St→Prop}{ops:Array Oper}{i:Nat}{l:List Nat}{k:List Item}{o:Oper}{c:Call}{fo p q:Operand}{K:List Item}{F':Cw}
def atR(id:Nat):List Item→Bool
 |.code (.region j _ _)::_=>Nat.beq j id
 |_=>false
def evT(X:Cx)(N:Nat)(id:Nat):Nat→List Item→Cw→St→List Item×Cw×St
 |0,K,F,S=>(K,F,S)
 |n+1,K,F,S=>match atR id K with
  |true=>(K,F,S)
  |false=>match ev X N 1 K F S with
   |(K',F',S')=>evT X N id n K' F' S'
theorem K9{K':List Item}{F':Cw}{S':St}(id:Nat):∀(n:Nat){K:List Item}{F:Cw}{S:St},evT X B.fn.ntmps id n K F S=(K',F',S')→AK X B K' F' S' R→AK X B K F S R
 |0,K,F,S,h,hk=>by
  simp only[evT]at h;cases h;exact hk
 |n+1,K,F,S,h,hk=>by
  simp only[evT]at h;split at h
  ·cases h;exact hk
  ·generalize he:Go.V.ev X B.fn.ntmps 1 K F S=t at h;obtain⟨K1,F1,S1⟩:=t;exact Ba 1 he (K9 id n h hk)
theorem Alp{f:FuncId}{caps xs zs ys:An}{r y:AV}{bx1 bx2 bxc bx3:B3}{tkc tk1:List Nat}{S2:St}
 (n:Nat)(σ τ:List Nat)(hc:Hands X f ys ⟨bxc,tkc⟩ y ⟨bx1,tk1⟩)(hk:AK X B K F' S2 R)(ho:ops[i]?=some o:=by rfl)(hw:Bc ops F o=some true:=by rfl)(hop:o.op=.call c:=by rfl)(hcal:c.callee=.value fo:=by rfl)
 (hfo:Dv X F fo=some (.fn f caps):=by rfl)(hx:Hv X F c.args.toList=some xs:=by rfl)(hzs:Jt xs caps=some zs:=by rfl)(hσ:Kt σ=true:=by rfl)(hτ:Kt τ=true:=by rfl)
 (hσl:(σ.all fun i=>Nat.blt i S.boxes.length)=true:=by rfl)(hτl:(τ.all fun t=>Nat.blt t S.toks.length)=true:=by rfl)(hsb:Ae4 σ S.boxes=some bx2:=by rfl) [hb:RinB σ τ bx2 bxc]
 (ht:τ.map (fun t=>S.toks.getD t 0)=tkc:=by rfl) [ha:RinL σ τ zs ys](hb1:bx1.length=σ.length:=by rfl)(ht1:Nat.ble τ.length tk1.length=true:=by rfl){τ':List Nat}
 (hτ':Il τ S.toks.length (tk1.length-τ.length)=τ':=by rfl) [hR:RoutB σ τ' bx3 bx1] [hr:RoutC σ τ' r y](hS':St.mk (upd S.boxes σ bx3) (upd S.toks τ tk1++tk1.drop τ.length)=S':=by rfl)
 (hd:Eh B.fn.ntmps o.dst=true:=by rfl)(he:Go.V.ev X B.fn.ntmps n (.inRegion ops l::k) (putF o.dst r F) S'=(K,F',S2):=by rfl):AK X B (.inRegion ops (i::l)::k) F S R:=
 Hg (V4 σ τ hc ho hw hop hcal hfo hx hzs hσ hτ hσl hτl hsb ht hb1 ht1 hτ' hS') ho hd (Ba n he hk)
theorem Asp{f:FuncId}{caps xs zs ys:An}{r:AV}{S2:St}(n:Nat)(hc:Pure X f ys r)(hk:AK X B K F' S2 R)(ho:ops[i]?=some o:=by rfl)(hw:Bc ops F o=some true:=by rfl)
 (hop:o.op=.call c:=by rfl)(hcal:c.callee=.value fo:=by rfl)(hfo:Dv X F fo=some (.fn f caps):=by rfl)(hx:Hv X F c.args.toList=some xs:=by rfl)(hzs:Jt xs caps=some zs:=by rfl)
 (hd:Eh B.fn.ntmps o.dst=true:=by rfl) [hs:RinL [] [] zs ys] [hok:OK 0 0 r](he:evT X B.fn.ntmps n 100 (.inRegion ops l::k) (putF o.dst r F) S=(K,F',S2):=by rfl):AK X B (.inRegion ops (i::l)::k) F S R:=
 Hg (Z8 hc ho hw hop hcal hfo hx hzs hok.ok) ho hd (K9 n 100 he hk)
theorem Ahd{f:FuncId}{caps xs zs ys:An}{r y:AV}{bx1 bx2 bxc bx3:B3}{tkc tk1:List Nat}{S2:St}
 (n:Nat)(σ τ:List Nat)(hc:Hands X f ys ⟨bxc,tkc⟩ y ⟨bx1,tk1⟩)(hk:AK X B K F' S2 R)(ho:ops[i]?=some o:=by rfl)(hw:Bc ops F o=some true:=by rfl)(hop:o.op=.call c:=by rfl)(hcal:c.callee=.value fo:=by rfl)
 (hfo:Dv X F fo=some (.fn f caps):=by rfl)(hx:Hv X F c.args.toList=some xs:=by rfl)(hzs:Jt xs caps=some zs:=by rfl)(hσ:Kt σ=true:=by rfl)(hτ:Kt τ=true:=by rfl)
 (hσl:(σ.all fun i=>Nat.blt i S.boxes.length)=true:=by rfl)(hτl:(τ.all fun t=>Nat.blt t S.toks.length)=true:=by rfl)(hsb:Ae4 σ S.boxes=some bx2:=by rfl) [hb:RinB σ τ bx2 bxc]
 (ht:τ.map (fun t=>S.toks.getD t 0)=tkc:=by rfl) [ha:RinL σ τ zs ys](hb1:bx1.length=σ.length:=by rfl)(ht1:Nat.ble τ.length tk1.length=true:=by rfl){τ':List Nat}
 (hτ':Il τ S.toks.length (tk1.length-τ.length)=τ':=by rfl) [hR:RoutB σ τ' bx3 bx1] [hr:RoutC σ τ' r y](hS':St.mk (upd S.boxes σ bx3) (upd S.toks τ tk1++tk1.drop τ.length)=S':=by rfl)
 (hd:Eh B.fn.ntmps o.dst=true:=by rfl)(he:evT X B.fn.ntmps n 100 (.inRegion ops l::k) (putF o.dst r F) S'=(K,F',S2):=by rfl):AK X B (.inRegion ops (i::l)::k) F S R:=
 Hg (V4 σ τ hc ho hw hop hcal hfo hx hzs hσ hτ hσl hτl hsb ht hb1 ht1 hτ' hS') ho hd (K9 n 100 he hk)
theorem Ec{t:Nat}{x y:Code}{e:Bool}{K1 K2:List Item}{F1 F2:Cw}{S1 S2:St}(n1 n2:Nat)(h1:e=true→AK X B K1 F1 S1 R)(h2:e=false→AK X B K2 F2 S2 R)(hc:lk F t=some (.val (.bool e)):=by rfl)
 (he1:evT X B.fn.ntmps n1 100 (.code x::k) ((t,.lit true)::F) S=(K1,F1,S1):=by rfl)(he2:evT X B.fn.ntmps n2 100 (.code y::k) ((t,.lit false)::F) S=(K2,F2,S2):=by rfl) :
 AK X B (.code (.cond (.tmp t) x y)::k) F S R:=
 P2 hc (fun h=>K9 n1 100 he1 (h1 h)) (fun h=>K9 n2 100 he2 (h2 h))
theorem Abd:∀{cs:An}{us:List Value},Abc cs=some us→cs=us.map .val
 |[],us,h=>by simp only[Abc]at h;cases h;rfl
 |x::l,us,h=>by
  simp only[Abc]at h;split at h
  ·rename_i v hv;split at h
   ·rename_i vs hvs;cases h;have:x=.val v:=by
     cases x<;>simp[A1b]at hv;rw[hv]
    rw[this,Abd hvs];rfl
   ·cases h
  ·cases h
theorem Aqb{N:Nat}{t:TypeId}{cs:An}{us:List Value}{y:Ty}{fs:List (Nat×Nat)}(ho:ops[i]?=some o:=by rfl)(hw:Bc ops F o=some true:=by rfl)(hop:o.op=.makeInterface t p:=by rfl)
 (hp:Dv X F p=some (.agg cs):=by rfl)(hu:Abc cs=some us:=by rfl)(hy:X.ty t=some y:=by rfl)(hk:y.k=.str fs:=by rfl):Ndo X N ops i o F (.val (.iface t (.agg ⟨us⟩))) S S:=by
 refine Dp ho hw fun F' E w a hc hI hF=>?_;rw[hop]at hc;have h1:=Am hI hF ((hc p (by simp[Op.operands])).trans hp);obtain⟨d,hdd,hd2⟩:=(X.ty_ok t y hy).agg;simp only[hk]at hd2;obtain⟨fields,rfl,_⟩:=hd2;generalize hu':a.eval p=u at h1;have:=Abd hu;subst this;cases h1 with
 |agg vs _ hl hr=>
  have:vs=⟨us⟩:=by
   apply Array.ext
   ·simpa using hl
   ·intro j h1 h2;have:=hr j vs[j] (.val us[j]) (by simp[h1]) (by simp at h2;simp[h2]);generalize vs[j]=z at this;cases this;simp
  subst this;exact⟨.iface t (.agg ⟨us⟩),by simp[execOp,hop,hu',Instr.makeInterface,run_underlying hdd],.val _⟩
end
section
variable {X:Cx}{B:Bx}{S:St}{F F1 F2:Cw}{N:Nat}{R:AE→St→Prop}{ops:Array Oper}{i i':Nat}{o:Oper}{os os':List Oper}{x:AV}{bs:List Nat}{em:Nat}{pend pend':List Jc}{KK:Cw→St→Prop}{c:Call}{fo p q:Operand}
theorem Als(h:∀S',Ndo X N ops i o F x S' S')(k:Drv X N ops bs em os' i' F2 S [S] pend' KK)(hF:Oz N o.dst x F=some F1:=by rfl)(hg:Ly X N ops S 100 os (i+1) F1 pend=(os',i',F2,pend'):=by rfl)
 (hos:ops.toList.drop (i+1)=os:=by rfl):Drv X N ops bs em (o::os) i F S [S] pend KK:=by
 obtain⟨h1,rfl⟩:=Gd hF;exact Kw h h1 (C9 k hg hos)
theorem B2{f:FuncId}{caps xs zs ys:An}{r:AV}(hc:Pure X f ys r)(k:Drv X N ops bs em os' i' F2 S [S] pend' KK)(ho:ops[i]?=some o:=by rfl)(hw:Bc ops F o=some true:=by rfl)
 (hop:o.op=.call c:=by rfl)(hcal:c.callee=.value fo:=by rfl)(hfo:Dv X F fo=some (.fn f caps):=by rfl)(hx:Hv X F c.args.toList=some xs:=by rfl)(hzs:Jt xs caps=some zs:=by rfl)
 (hF:Oz N o.dst r F=some F1:=by rfl) [hs:RinL [] [] zs ys] [hok:OK 0 0 r](hg:Ly X N ops S 100 os (i+1) F1 pend=(os',i',F2,pend'):=by rfl)
 (hos:ops.toList.drop (i+1)=os:=by rfl):Drv X N ops bs em (o::os) i F S [S] pend KK:=by
 obtain⟨h1,rfl⟩:=Gd hF;exact Kw (fun S'=>Z8 hc ho hw hop hcal hfo hx hzs hok.ok) h1 (C9 k hg hos)
theorem Dk{t e:Nat}{rows:A7}{sp:Sp}{ik:IntKind}{r:An}{y ye:Ty}(n:Int)(h0:0≤n)(hr:rows[n.toNat]?=some r)(k:Drv X N ops bs em os' i' F2 S [S] pend' KK)(ho:ops[i]?=some o:=by rfl)
 (hw:Bc ops F o=some true:=by rfl)(hop:o.op=.indexAddr t p q:=by rfl)(hp:Dv X F p=some (.sl rows sp):=by rfl)(hq:Dv X F q=some (.val (.int ik n)):=by rfl)
 (hy:X.ty t=some y:=by rfl)(hyk:y.k=.slc e:=by rfl)(hye:X.ty e=some ye:=by rfl)(hl:r.length=ye.size:=by rfl)(hF:Oz N o.dst (.cptr r) F=some F1:=by rfl)
 (hg:Ly X N ops S 100 os (i+1) F1 pend=(os',i',F2,pend'):=by rfl)(hos:ops.toList.drop (i+1)=os:=by rfl):Drv X N ops bs em (o::os) i F S [S] pend KK:=
 Als (fun _=>Ca ho hw hop hp hq hy hyk hye hl h0 hr) k hF hg hos
theorem D1{t t':Nat}{s s':Ad}(hl:s.length+s'.length≤1000000000000)(k:Drv X N ops bs em os' i' F2 S [S] pend' KK)(ho:ops[i]?=some o:=by rfl)(hw:Bc ops F o=some true:=by rfl)
 (hop:o.op=.binOp .add t p q t':=by rfl)(hp:Dv X F p=some (str s):=by rfl)(hq:Dv X F q=some (str s'):=by rfl)(hF:Oz N o.dst (str (s++s')) F=some F1:=by rfl)
 (hg:Ly X N ops S 100 os (i+1) F1 pend=(os',i',F2,pend'):=by rfl)(hos:ops.toList.drop (i+1)=os:=by rfl):Drv X N ops bs em (o::os) i F S [S] pend KK:=
 Als (fun _=>Se ho hw hop hp hq hl rfl) k hF hg hos
theorem Fy{l:List Nat}{k:List Item}{K:List Item}{F':Cw}{S2:St}{t t':Nat}{s s':Ad}(hl:s.length+s'.length≤1000000000000)(hk:AK X B K F' S2 R)(ho:ops[i]?=some o:=by rfl)(hw:Bc ops F o=some true:=by rfl)
 (hop:o.op=.binOp .add t p q t':=by rfl)(hp:Dv X F p=some (str s):=by rfl)(hq:Dv X F q=some (str s'):=by rfl)(hd:Eh B.fn.ntmps o.dst=true:=by rfl)
 (he:Go.V.ev X B.fn.ntmps 200 (.inRegion ops l::k) (putF o.dst (str (s++s')) F) S=(K,F',S2):=by rfl):AK X B (.inRegion ops (i::l)::k) F S R:=
 Hg (Se ho hw hop hp hq hl rfl) ho hd (Ba 200 he hk)
end
section
variable {X:Cx}{B:Bx}{S:St}{F:Cw}{N:Nat}{ops:Array Oper}{i:Nat}{o:Oper}
theorem W7{f:FuncId}{args:An}{r:AV}{vs:List Value}(hE:N8 X.P f)(ha:args=vs.map .val)
 (h:∀w,X.Glob w→Calls X.P f ⟨vs⟩ w fun e w'=>(∃v,e=.returned v∧∀E w,Rel E w v r)∧RowKit.Below w.heap.size w w'):Pure X f args r:=by
 refine⟨hE,fun E w us _ hI hs hr=>?_⟩;have:us=⟨vs⟩:=by
  subst ha;apply Array.ext
  ·simpa using hs
  ·intro j h1 h2;have:=hr j us[j] (.val vs[j]) (by simp[h1]) (by simp at h2;simp[h2]);generalize us[j]=z at this;cases this;simp
 subst this;refine(h w hI.glob).mono fun e w' he=>?_;obtain⟨⟨v,rfl,hv⟩,hb⟩:=he;have hlt:∀b o v,w.cell? ⟨b,o,none⟩=some v→w'.cell? ⟨b,o,none⟩=some v:=fun b o v hc=>by
  have hl:=Ni hc;unfold World.cell? at hc⊢;rw[hb.block b hl];exact hc
 have ev:Evol E w E w' E.boxes.length E.toks.length:=⟨rfl,fun _ _ h=>⟨h,fun _ h=>h⟩,fun _ _ k h=>⟨k,h,.inl rfl⟩,hb.os,hb.tape,hb.output,hb.size,fun k hk _=>hb.block k hk,fun b o v _ hc=>hlt b o v hc,fun _ _ _ h=>h,fun _ _ h=>h,rfl,fun q e he=>by
  have hl:q<w.heap.size:=by
   rcases Ga q w.heap.size with h|h
   ·exact h
   ·simp[Gk,Array.getElem?_eq_none h]at he
  unfold Gk at he⊢;rw[hb.block q hl];exact he,fun _ _ _ b _ _ _ _ o ho=>(hb.block b (Wj ho)).trans ho⟩
 exact⟨E,⟨[],[]⟩,hI.keep ev (fun b hb'=>hb.block b (hI.own_lt hb')),ev.weaken (Cb _) (Cb _),r,hv E w',rfl,rfl⟩
theorem Al1{c:Call}{fo:Operand}{f:FuncId}{us:List Value}{xs:An}{v:Value}(hr:∀w,(callFunc f ⟨us⟩).run X.P w=.ok (.value v) w)(ho:ops[i]?=some o:=by rfl)(hw:Bc ops F o=some true:=by rfl)
 (hop:o.op=.call c:=by rfl)(hcal:c.callee=.value fo:=by rfl)(hfo:Dv X F fo=some (.fn f []):=by rfl)(hx:Hv X F c.args.toList=some xs:=by rfl)(hu:Abc xs=some us:=by rfl):Ndo X N ops i o F (.val v) S S:=by
 refine Dp ho hw fun F' E w a hc hI hF=>?_;rw[hop]at hc;simp only[Op.operands,Call.operands,hcal,Ag8,zzq26]at hc;have h1:=Am hI hF ((hc fo (.inl (by simp))).trans hfo);have e2:Hv X F' c.args.toList=Hv X F c.args.toList:=by
  have:∀l:List Operand,(∀p,p∈l→Dv X F' p=Dv X F p)→Hv X F' l=Hv X F l:=by
   intro l
   induction l with
   |nil=>intro _;rfl
   |cons p l ih=>intro h;simp only[Hv];rw[h p (by simp),ih fun q hq=>h q (by simp[hq])]
  exact this _ fun p hp=>hc p (.inr hp)
 obtain⟨hl,hrr⟩:=Pp hI hF (e2.trans hx);have hxs:=Abd hu;subst hxs;have hargs:c.args.map a.eval=⟨us⟩:=by
  apply Array.ext
  ·simpa using hl
  ·intro j h1 h2;have:=hrr j (c.args.map a.eval)[j] (.val us[j]) (Ag4 h1) (by simp at h2;simp[h2]);generalize (c.args.map a.eval)[j]=z at this;cases this;simp
 cases hh:a.eval fo<;>rw[hh]at h1<;>cases h1;rename_i caps hcl hcr;have hcaps:caps=#[]:=by apply Array.eq_empty_of_size_eq_zero;simpa using hcl
 subst hcaps;refine⟨v,?_,.val v⟩;have:=hr w;rw[←hargs]at this;simp[execOp,hop,resolve,hcal,hh,Deferred.ofValue,invoke,this]
end
end Go.V
namespace Go.V
open Go Go.Proofs Go.Proofs.Tryz
def tyL:List (Nat×Ty):=[
 (30,⟨4,.str [(0,1),(1,1),(2,1),(3,1)],[.val (.int .i64 0),.val (.string ⟨#[]⟩),.val (.int .i64 0),.sl [] .tight],[false,false,false,false]⟩),
 (3,⟨1,.int .i64,[.val (.int .i64 0)],[]⟩),
 (28,⟨1,.slc 30,[.sl [] .tight],[]⟩),
 (9,⟨1,.string,[.val (.string ⟨#[]⟩)],[]⟩),
 (40,⟨8,.str [(0,1),(1,1),(2,1),(3,1),(4,1),(5,1),(6,1),(7,1)],[.val (.int .i64 0),.sl [] .tight,.sl [] .tight,.val (.int .i64 0),.val (.int .i64 0),.val (.int .i64 0),.val (.int .i64 0),.val (.int .i64 0)],[false,false,false,false,false,false,false,false]⟩),
 (37,⟨1,.slc 3,[.sl [] .tight],[]⟩),
 (80,⟨1,.slc 9,[.sl [] .tight],[]⟩),
 (250,⟨2,.str [(0,1),(1,1)],[.val (.int .i64 0),.val (.int .i64 0)],[false,false]⟩),
 (85,⟨5,.str [(0,1),(1,1),(2,1),(3,2)],[.sl [] .tight,.sl [] .tight,.sl [] .tight,.val (.int .i64 0),.sl [] .tight],[false,false,false,true]⟩),
 (38,⟨1,.slc 137,[.sl [] .tight],[]⟩),
 (334,⟨1,.flat,[.val (.pointer none)],[]⟩),
 (4,⟨1,.bool,[.val (.bool false)],[]⟩),
 (24,⟨4,.str [(0,1),(1,1),(2,1),(3,1)],[.val (.int .i64 0),.val (.string ⟨#[]⟩),.val (.int .i64 0),.sl [] .tight],[false,false,false,false]⟩),
 (90,⟨8,.str [(0,1),(1,1),(2,1),(3,1),(4,4)],[.val (.int .i64 0),.val (.int .i64 0),.val (.int .i64 0),.val (.bool false),.val (.int .i64 0),.val (.string ⟨#[]⟩),.val (.int .i64 0),.sl [] .tight],[false,false,false,false,true]⟩),
 (137,⟨1,.slc 185,[.sl [] .tight],[]⟩),
 (143,⟨3,.str [(0,1),(1,1),(2,1)],[.sl [] .tight,.sl [] .tight,.sl [] .tight],[false,false,false]⟩),
 (301,⟨1,.flat,[.val (.pointer none)],[]⟩),
 (71,⟨2,.str [(0,1),(1,1)],[.val (.int .i64 0),.sl [] .tight],[false,false]⟩),
 (5,⟨1,.int .u8,[.val (.int .u8 0)],[]⟩),
 (74,⟨3,.str [(0,2),(2,1)],[.val (.int .i64 0),.sl [] .tight,.sl [] .tight],[true,false]⟩),
 (185,⟨2,.str [(0,1),(1,1)],[.val (.bool false),.val (.int .i64 0)],[false,false]⟩),
 (81,⟨1,.slc 90,[.sl [] .tight],[]⟩),
 (150,⟨2,.str [(0,1),(1,1)],[.val (.int .i64 0),.val (.string ⟨#[]⟩)],[false,false]⟩),
 (159,⟨1,.slc 5,[.sl [] .tight],[]⟩),
 (83,⟨2,.str [(0,1),(1,1)],[.val (.int .i64 0),.sl [] .tight],[false,false]⟩),
 (251,⟨1,.slc 250,[.sl [] .tight],[]⟩),
 (307,⟨1,.flat,[.val (.pointer none)],[]⟩),
 (210,⟨2,.str [(0,1),(1,1)],[.val (.int .i64 0),.val (.int .i64 0)],[false,false]⟩),
 (268,⟨2,.str [(0,1),(1,1)],[.val (.int .i64 0),.val (.int .i64 0)],[false,false]⟩),
 (26,⟨1,.slc 103,[.sl [] .tight],[]⟩),
 (212,⟨3,.str [(0,2),(2,1)],[.val (.int .i64 0),.val (.int .i64 0),.val (.bool false)],[true,false]⟩),
 (139,⟨1,.slc 251,[.sl [] .tight],[]⟩),
 (298,⟨1,.slc 306,[.sl [] .tight],[]⟩),
 (303,⟨3,.str [(0,1),(1,1),(2,1)],[.sl [] .tight,.val (.int .i64 0),.val (.bool false)],[false,false,false]⟩),
 (92,⟨1,.flat,[.val (.pointer none)],[]⟩),
 (98,⟨11,.str [(0,2),(2,1),(3,1),(4,1),(5,1),(6,1),(7,4)],[.val (.int .i64 0),.sl [] .tight,.sl [] .tight,.sl [] .tight,.sl [] .tight,.sl [] .tight,.sl [] .tight,.val (.int .i64 0),.val (.string ⟨#[]⟩),.val (.int .i64 0),.sl [] .tight],[true,false,false,false,false,false,true]⟩),
 (306,⟨3,.str [(0,1),(1,1),(2,1)],[.val (.int .i64 0),.val (.string ⟨#[]⟩),.val (.int .i64 0)],[false,false,false]⟩),
 (49,⟨1,.slc 114,[.sl [] .tight],[]⟩),
 (59,⟨8,.str [(0,1),(1,1),(2,1),(3,1),(4,1),(5,1),(6,1),(7,1)],[.val (.int .i64 0),.sl [] .tight,.sl [] .tight,.val (.int .i64 0),.val (.int .i64 0),.val (.int .i64 0),.val (.int .i64 0),.val (.int .i64 0)],[false,false,false,false,false,false,false,false]⟩),
 (140,⟨1,.slc 212,[.sl [] .tight],[]⟩),
 (169,⟨5,.str [(0,2),(2,1),(3,1),(4,1)],[.val (.int .i64 0),.sl [] .tight,.val (.int .i64 0),.sl [] .tight,.sl [] .tight],[true,false,false,false]⟩),
 (72,⟨1,.slc 143,[.sl [] .tight],[]⟩),
 (217,⟨1,.flat,[.val (.pointer none)],[]⟩),
 (114,⟨4,.str [(0,1),(1,1),(2,1),(3,1)],[.val (.int .i64 0),.val (.int .i64 0),.val (.int .i64 0),.val (.bool false)],[false,false,false,false]⟩),
 (310,⟨2,.str [(0,1),(1,1)],[.val (.pointer none),.sl [] .tight],[false,false]⟩),
 (103,⟨6,.str [(0,1),(1,1),(2,4)],[.val (.bool false),.val (.int .i64 0),.val (.int .i64 0),.val (.string ⟨#[]⟩),.val (.int .i64 0),.sl [] .tight],[false,false,true]⟩),
 (141,⟨1,.slc 4,[.sl [] .tight],[]⟩),
 (170,⟨1,.flat,[.val (.pointer none)],[]⟩),
 (361,⟨1,.int .u64,[.val (.int .u64 0)],[]⟩),
 (368,⟨1,.int .u32,[.val (.int .u32 0)],[]⟩),
 (96,⟨1,.slc 37,[.sl [] .tight],[]⟩),
 (194,⟨3,.str [(0,1),(1,1),(2,1)],[.val (.pointer none),.val (.pointer none),.val (.int .i64 0)],[false,false,false]⟩),
 (351,⟨1,.int .u64,[.val (.int .u64 0)],[]⟩),
 (68,⟨3,.str [(0,2),(2,1)],[.val (.int .i64 0),.sl [] .tight,.sl [] .tight],[true,false]⟩),
 (173,⟨10,.str [(0,4),(4,4),(8,1),(9,1)],[.val (.int .i64 0),.val (.string ⟨#[]⟩),.val (.int .i64 0),.sl [] .tight,.val (.int .i64 0),.val (.string ⟨#[]⟩),.val (.int .i64 0),.sl [] .tight,.val (.int .i64 0),.val (.int .i64 0)],[true,true,false,false]⟩),
 (312,⟨4,.str [(0,2),(2,1),(3,1)],[.val (.pointer none),.sl [] .tight,.sl [] .tight,.val (.int .i64 0)],[true,false,false]⟩),
 (115,⟨1,.slc 40,[.sl [] .tight],[]⟩),
 (280,⟨2,.arr 2 3,[.val (.int .i64 0),.val (.int .i64 0)],[]⟩),
 (201,⟨3,.str [(0,1),(1,1),(2,1)],[.sl [] .tight,.sl [] .tight,.sl [] .tight],[false,false,false]⟩),
 (167,⟨1,.slc 173,[.sl [] .tight],[]⟩),
 (219,⟨2,.str [(0,1),(1,1)],[.val (.int .i64 0),.sl [] .tight],[false,false]⟩),
 (22,⟨1,.slc 24,[.sl [] .tight],[]⟩),
 (57,⟨1,.slc 178,[.sl [] .tight],[]⟩),
 (66,⟨1,.slc 201,[.sl [] .tight],[]⟩),
 (162,⟨1,.slc 166,[.sl [] .tight],[]⟩),
 (166,⟨3,.str [(0,1),(1,1),(2,1)],[.val (.bool false),.val (.string ⟨#[]⟩),.val (.bool false)],[false,false,false]⟩),
 (192,⟨1,.flat,[.val (.pointer none)],[]⟩),
 (198,⟨1,.slc 284,[.sl [] .tight],[]⟩),
 (65,⟨2,.str [(0,1),(1,1)],[.val (.int .i64 0),.sl [] .tight],[false,false]⟩),
 (127,⟨1,.flat,[.val (.pointer none)],[]⟩),
 (348,⟨2,.str [(0,1),(1,1)],[.sl [] .tight,.val (.int .i64 0)],[false,false]⟩),
 (178,⟨1,.slc 238,[.sl [] .tight],[]⟩),
 (79,⟨1,.flat,[.val .nilFunc],[]⟩),
 (284,⟨1,.slc 318,[.sl [] .tight],[]⟩),
 (199,⟨1,.slc 290,[.sl [] .tight],[]⟩),
 (308,⟨1,.flat,[.val (.pointer none)],[]⟩),
 (394,⟨3,.str [(0,1),(1,1),(2,1)],[.val (.string ⟨#[]⟩),.val (.string ⟨#[]⟩),.val .nilIface],[false,false,false]⟩),
 (2,⟨1,.int .i64,[.val (.int .i64 0)],[]⟩),
 (238,⟨2,.str [(0,1),(1,1)],[.val (.bool false),.val (.int .i64 0)],[false,false]⟩),
 (318,⟨2,.str [(0,1),(1,1)],[.val (.int .i64 0),.val (.int .i64 0)],[false,false]⟩),
 (290,⟨3,.str [(0,2),(2,1)],[.val (.int .i64 0),.val (.int .i64 0),.val (.bool false)],[true,false]⟩),
 (288,⟨2,.str [(0,1),(1,1)],[.val (.int .i64 0),.val (.int .i64 0)],[false,false]⟩),
 (340,⟨1,.flat,[.val .nilIface],[]⟩),
 (179,⟨1,.flat,[.val .nilFunc],[]⟩),
 (205,⟨1,.slc 74,[.sl [] .tight],[]⟩),
 (338,⟨6,.arr 6 9,[.val (.string ⟨#[]⟩),.val (.string ⟨#[]⟩),.val (.string ⟨#[]⟩),.val (.string ⟨#[]⟩),.val (.string ⟨#[]⟩),.val (.string ⟨#[]⟩)],[]⟩),
 (345,⟨1,.str [(0,1)],[.val (.int .i64 0)],[false]⟩),
 (95,⟨1,.flat,[.val .nilFunc],[]⟩),
 (188,⟨1,.flat,[.val .nilFunc],[]⟩),
 (366,⟨1,.flat,[.val (.pointer none)],[]⟩),
 (174,⟨2,.arr 2 4,[.val (.bool false),.val (.bool false)],[]⟩),
 (261,⟨1,.flat,[.val .nilFunc],[]⟩),
 (282,⟨6,.arr 6 4,[.val (.bool false),.val (.bool false),.val (.bool false),.val (.bool false),.val (.bool false),.val (.bool false)],[]⟩),
 (330,⟨1,.flat,[.val (.pointer none)],[]⟩),
 (337,⟨2,.arr 2 9,[.val (.string ⟨#[]⟩),.val (.string ⟨#[]⟩)],[]⟩),
 (400,⟨1,.str [(0,1)],[.val (.string ⟨#[]⟩)],[false]⟩),
 (33,⟨1,.flat,[.val .nilFunc],[]⟩),
 (333,⟨1,.flat,[.val .nilFunc],[]⟩)]
def A59:Nat→Option Ty:=Alb tyL
set_option maxRecDepth 100000 in
theorem A61:Atd prog A59 tyL:=by
 unfold tyL
 iterate 98 refine⟨by kernel_rfl,by kernel_rfl,?_⟩
 trivial
def condG:An:=[.val (.string ⟨#[60]⟩),.val (.string ⟨#[60,61]⟩),.val (.string ⟨#[62]⟩),.val (.string ⟨#[62,61]⟩),.val (.string ⟨#[61,61]⟩),.val (.string ⟨#[33,61]⟩)]
noncomputable def gK:Nat:=prog.globals.size
def gAt(g:Nat):Option An:=
 match Nat.beq g 1 with
 |true=>some condG
 |false=>none
def IfaceV(w:World)(g:Nat):Prop:=∃ev,w.cell? ⟨g,0,none⟩=some ev∧(ev=.nilIface∨∃te pe,ev=.iface te pe)
structure gOk (w:World):Prop where
 cond:∀(j:Nat) (x:AV),condG[j]?=some x→∃v,w.cell? ⟨1,j,none⟩=some v∧x=.val v
 tab:∃e z,w.heap[2]?=some (.cells (Lib.pow10Tab.map fun z=>Value.int .u64 z).toArray e z)
 syn:IfaceV w 6
 rng:IfaceV w 7
theorem Aj5{k:Nat}(h:decide (k<prog.globals.size)=true):k<gK:=by unfold gK;exact A6 h
theorem IfaceV.st{w w':World}{g:Nat}(h:∀k,k<gK→w'.heap[k]?=w.heap[k]?)(hg:g<gK)(hv:IfaceV w g):IfaceV w' g:=by
 obtain⟨ev,h1,h2⟩:=hv;refine⟨ev,?_,h2⟩;unfold World.cell? at h1⊢;rw[h g hg];exact h1
noncomputable def X:Cx where
 P:=prog
 ty:=A59
 G:=gAt
 K0:=gK
 Glob:=gOk
 ty_ok:=Awc A61
 glob_st w w' h hs _ hg:={
  cond:=fun j x hx=>by
   obtain⟨v,hv,he⟩:=hg.cond j x hx;refine⟨v,?_,he⟩;unfold World.cell? at hv⊢;rw[h 1 (Aj5 (by kernel_rfl))];exact hv
  tab:=by
   obtain⟨e,z,ht⟩:=hg.tab;exact⟨e,z,(h _ (Aj5 (by kernel_rfl))).trans ht⟩
  syn:=hg.syn.st h (Aj5 (by kernel_rfl))
  rng:=hg.rng.st h (Aj5 (by kernel_rfl)) }
 glob_G w hw g cells hg:=by
  unfold gAt at hg;split at hg
  ·rename_i hb;cases hg;have:=Ab1 hb;subst this;exact⟨Aj5 (by kernel_rfl),hw.cond⟩
  ·cases hg
 mixed:=by kernel_rfl
inductive Nd where
 |mk (kind:Int) (name:List UInt8) (num:Int) (kids:List Nd)
def Nd.kind:Nd→Int|.mk k _ _ _=>k
def Nd.name:Nd→Ad|.mk _ s _ _=>s
def Nd.num:Nd→Int|.mk _ _ m _=>m
def Nd.kids:Nd→List Nd|.mk _ _ _ ks=>ks
mutual
def A0z:Nd→List AV
 |.mk k s m ks=>[.val (.int .i64 k),.val (.string ⟨⟨s⟩⟩),.val (.int .i64 m),.sl (Av ks) .no]
def Av:List Nd→List (List AV)
 |[]=>[]
 |n::l=>A0z n::Av l
end
def Ag(n:Nd):An:=[.val (.int .i64 n.kind),.val (.string ⟨⟨n.name⟩⟩),.val (.int .i64 n.num),.sl (Av n.kids) .no]
theorem Aul(n:Nd):A0z n=Ag n:=by cases n;rfl
theorem Ax(l:List Nd):Av l=l.map Ag:=by
 induction l<;>grind [Av,Aul]
theorem Ap{l:List Nd}{i:Nat}{n:Nd}(h:l[i]?=some n):(Av l)[i]?=some (Ag n):=by simp_all [Ax]
theorem Ae(l:List Nd):(Av l).length=l.length:=by rw[Ax];simp
theorem Nd.ind{P:Nd→Prop}(h:∀n,(∀k,k∈n.kids→P k)→P n):∀n,P n:=by
 intro n;have:∀m:Nat,∀n:Nd,SizeOf.sizeOf n<m→P n:=by
  intro m
  induction m with
  |zero=>omega
  |succ m ih=>
   intro n hn;refine h n fun k hk=>ih k ?_;cases n with
   |mk a b c ks=>
    have:=List.sizeOf_lt_of_mem hk
    grind [Nd.kids]
 exact this _ n (Aeq _)
theorem Aok:∀n:Nd,∀x,x∈Ag n→Ok 0 0 x:=by
 intro n
 induction n using Nd.ind with
 |h n ih=>
  intro x hx;simp only[Ag,zzq8,Xh,or_false]at hx;rcases hx with rfl|rfl|rfl|rfl
  ·exact .val _
  ·exact .val _
  ·exact .val _
  ·refine .sl _ _ (fun r hr y hy=>?_) (fun t ht=>by cases ht);rw[Ax]at hr
   grind
theorem Aqw(l:List Nd):H3 0 0 (Av l):=fun r hr x hx=>by
 rw[Ax]at hr;obtain⟨k,_,rfl⟩:=zzq50.1 hr
 grind [Aok]
mutual
def Al:Nd→Nat
 |.mk _ _ _ ks=>1+Bb ks
def Bb:List Nd→Nat
 |[]=>0
 |n::l=>Al n+Bb l
end
theorem Co(n:Nd):Al n=1+Bb n.kids:=by cases n;rfl
theorem Nk(a b:List Nd):Bb (a++b)=Bb a+Bb b:=by
 induction a<;>grind [Bb]
theorem Q5{l:List Nd}{i:Nat}:Bb (l.take i)≤Bb l:=by
 grind [Nk,List.take_append_drop]
theorem P5{l:List Nd}{i:Nat}{n:Nd}(h:l[i]?=some n):Bb (l.take (i+1))=Bb (l.take i)+Al n:=by
 simp_all [Hq,Nk,Bb]
theorem Bq(l:List Nd):l.length≤Bb l:=by
 induction l<;>grind [Bb,Co]
theorem Ac{n:Int}(h0:-9223372036854775808≤n)(h:n≤9223372036854775807):IntKind.i64.wrap n=n:=by
 grind [IntKind.wrap,IntKind.bits,IntKind.signed]
instance{n m:Nat}{k:Nd}:OKL n m (Ag k):=⟨fun x hx=>(Aok k x hx).mono (Cb _) (Cb _)⟩
instance{n m:Nat}{l:List Nd}:OKR n m (Av l):=⟨fun r hr x hx=>(Aqw l r hr x hx).mono (Cb _) (Cb _)⟩
theorem Ci{a b:Int}{k:IntKind}(h:a=b):some (AV.val (.int k a))=some (AV.val (.int k b)):=by rw[h]
theorem vsx{a b:Int}(h:-9223372036854775808≤a∧a≤9223372036854775807∧a=b):some (AV.val (.int .i64 (IntKind.i64.wrap a)))=some (AV.val (.int .i64 b)):=
 Ci ((Ac h.1 h.2.1).trans h.2.2)
theorem t1(n:Nd)(hn:Al n≤4000000000):Pure X 292 [.agg (Ag n)] (.val (.int .i64 (Al n))):=by
 induction n using Nd.ind with
 |h n ih=>
 refine Pure.mk func292 rfl rfl (by kernel_rfl) ?_;refine Ba 100 rfl ?_;have hc:=Co n;have hll:=Bq n.kids;refine Ar (ι:=Nat) 1 0 (fun i=>i≤n.kids.length) (fun i=>[(9,.val (.int .i64 i)),(8,.val (.int .i64 n.kids.length)),(7,.sl (Av n.kids) .no),(3,.val (.int .i64 (1+Bb (n.kids.take i):Nat)))])
  (fun _=>⟨[[Ag n]],[]⟩) (fun i=>n.kids.length-i) ?_ 0 (Cb _) ⟨rfl,by rw[←Ae];rfl,rfl,rfl,trivial⟩
 intro i hi IH;refine Ba 100 rfl ?_;refine P2 rfl (fun hlt=>?_) (fun hge=>?_)
 ·have hlt':i<n.kids.length:=by simp_all
  obtain⟨kid,hkid⟩:=Ab n.kids hlt';have hsn:=P5 hkid;have hle:=Q5 (l:=n.kids) (i:=i+1);refine Ba 100 rfl ?_;refine Acy rfl rfl rfl rfl rfl rfl rfl rfl rfl rfl (by omega) (Ap hkid) ?_;refine Ba 100 rfl ?_;refine Aws (ih kid (Bn hkid) (by omega)) rfl rfl rfl rfl rfl rfl rfl rfl ?_;refine Ba 100 rfl ?_;exact IH (i+1) hlt' (by omega) _ _ ⟨vsx (by omega),rfl,rfl,vsx (by omega),trivial⟩ rfl rfl rfl
 ·have:i=n.kids.length:=by grind
  subst this;refine Ba 100 rfl ?_;exact Z4 func292 rfl rfl rfl (by rw[hc,Jh];rfl)
abbrev vi(n:Int):AV:=.val (.int .i64 n)
abbrev vb(b:Bool):AV:=.val (.bool b)
abbrev vc(c:UInt8):AV:=.val (.int .u8 c.toNat)
def A8(n lo hi:Int):Bool:=decide (lo≤n)&&decide (n≤hi)
def E4(c:UInt8):Bool:=A8 c.toNat 97 122
def digit(c:UInt8):Bool:=A8 c.toNat 48 57
theorem Gg(n lo hi:Int):Pure X 49 [vi n,vi lo,vi hi] (vb (A8 n lo hi)):=by
 refine Pure.run func49 ?_;refine Db (fun h=>?_) (fun h=>?_)
 ·refine Az func49 ?_;simp_all [A8,De]
 ·refine Az func49 ?_;simp_all [A8,De];omega
theorem Zg(c:UInt8):Pure X 304 [vc c] (vb (E4 c)):=by
 refine Pure.run func304 ?_;refine Db (fun h=>?_) (fun h=>?_)
 ·refine Az func304 ?_;simp_all [E4,A8,De]
 ·refine Az func304 ?_;simp_all [E4,A8,De];omega
theorem Acm(c:UInt8):Pure X 306 [vc c] (vb (digit c)):=by
 refine Pure.run func306 ?_;refine Db (fun h=>?_) (fun h=>?_)
 ·refine Az func306 ?_;simp_all [digit,A8,De]
 ·refine Az func306 ?_;simp_all [digit,A8,De];omega
def Eu(l:List Ad):A7:=l.map fun s=>[str s]
theorem Rr{l:List Ad}{i:Nat}{s:Ad}(h:l[i]?=some s):(Eu l)[i]?=some [str s]:=by simp[Eu,h]
theorem Ft(l:List Ad):(Eu l).length=l.length:=by simp[Eu]
instance{n m:Nat}{l:List Ad}:OKR n m (Eu l):=⟨fun r hr x hx=>by
 obtain⟨s,_,rfl⟩:=zzq50.1 hr;simp at hx;subst hx;exact .val _⟩
theorem Bp{α:Type}{l:List α}{i:Nat}{x:α}(h:l[i]?=some x):l.drop i=x::l.drop (i+1):=by
 have hi:=Aa h;rw[Xg hi]at h;rw[Ap5 hi,Option.some.inj h]
def has(l:List Ad)(s:Ad):Bool:=l.any fun x=>x==s
theorem A02(l:List Ad)(s:Ad)(hl:l.length≤1000000000):Pure X 328 [.sl (Eu l) .no,str s] (vb (has l s)):=by
 refine Pure.run func328 ?_;refine Ar (ι:=Nat) 0 0 (fun i=>i≤l.length∧has l s=has (l.drop i) s) (fun i=>[(5,vi i),(0,.sl (Eu l) .no),(1,str s)]) (fun _=>⟨[],[]⟩) (fun i=>l.length-i) ?_ 0 ⟨Cb _,rfl⟩
  ⟨rfl,rfl,rfl,trivial⟩
 intro i hi IH;refine Cp (fun h=>?_) (fun h=>?_)
 ·have hlt:i<l.length:=by have:=A6 h;rw[Ft]at this;omega
  obtain⟨x,hx⟩:=Ab l hlt;have hd:has (l.drop i) s=(x==s||has (l.drop (i+1)) s):=by rw[Bp hx];rfl
  refine Bv i (by omega) (Rr hx) ?_;refine Ai (fun h2=>?_) (fun h2=>?_)
  ·refine Az func328 ?_;have h3:(x==s)=true:=h2;rw[hi.2,hd,h3];rfl
  ·have h3:(x==s)=false:=h2;exact IH (i+1) ⟨hlt,by rw[hi.2,hd,h3];rfl⟩ (by omega) _ _ ⟨vsx (by omega),rfl,rfl,trivial⟩ rfl rfl rfl
 ·have:i=l.length:=by have:=Bd h;rw[Ft]at this;omega
  refine Az func328 ?_;rw[hi.2,this,Hr];rfl
def U7:List Ad:=[[97,114,114,97,121],[99,104,101,99,107],[101,108,115,101],[102,111,114],[102,114,111,109],[105,102],[108,101,110],[114,101,97,100],[115,107,105,112],[115,116,111,112],[116,111],[118,97,114],[119,104,105,108,101]]
def Kp:List Ad:=[[43],[45],[42],[40],[41],[91],[93],[123],[125],[59],[61],[60],[62],[63],[61,61],[33,61],[60,61],[62,61]]
theorem A03(s:Ad):Pure X 305 [str s] (vb (has U7 s)):=by
 refine Pure.run func305 ?_;refine Aj (A02 U7 s (by decide)) ?_;exact Az func305 rfl
theorem Au2(s:Ad):Pure X 311 [str s] (vb (has Kp s)):=by
 refine Pure.run func311 ?_;refine Aj (A02 Kp s (by decide)) ?_;exact Az func311 rfl
def Ru(s:Ad):Bool:=s.all fun c=>E4 c||digit c
def nameS(s:Ad):Bool:=match s with
 |[]=>false
 |c::l=>decide (l.length<8)&&E4 c&&!has U7 (c::l)&&Ru (c::l)
theorem Am5(s:Ad)(hs:s.length≤1000000000):Pure X 279 [str s] (vb (nameS s)):=by
 refine Pure.run func279 ?_;have fin:∀{b:Bool},nameS s=b→De [vb b]=vb (nameS s):=fun h=>by rw[h];rfl
 cases s with
 |nil=>
  refine Ep ?_;refine Ep ?_;refine Ep ?_;refine Ay ?_;exact Az func279 rfl
 |cons c l=>
  have hsz:((⟨⟨c::l⟩⟩:ByteArray).size:Int)=(l.length:Int)+1:=by show ((c::l).length:Int)=_;simp
  refine Gm ?_ (ht:=by rw[hsz];exact Ks (by omega));refine Db (fun h1=>?_) (fun h1=>?_)
  ·refine Ep ?_;refine Ay ?_;refine Az func279 (fin ?_);have:=A6 h1;rw[hsz]at this;simp only[nameS];rw[Ks (by omega)];rfl
  ·have hl:l.length<8:=by have:=Bd h1;rw[hsz]at this;omega
   refine Jy 0 (by omega) (b:=c) rfl ?_;refine Aj (Zg c) ?_;refine Db (fun h2=>?_) (fun h2=>?_)
   ·refine Ay ?_;refine Az func279 (fin ?_);have h3:E4 c=false:=by simpa using h2
    simp[nameS,h3]
   have h3:E4 c=true:=by simpa using h2
   refine Aj (A03 (c::l)) ?_;refine Ai (fun h4=>?_) (fun h4=>?_)
   ·refine Az func279 (fin ?_);simp[nameS,h4]
   have hn:nameS (c::l)=Ru (c::l):=by simp[nameS,h3,h4,hl]
   rw[hn];refine Ar (ι:=Nat) 0 0 (fun i=>i≤(c::l).length∧Ru (c::l)=Ru ((c::l).drop i)) (fun i=>[(3,vi i),(0,str (c::l))]) (fun _=>⟨[],[]⟩) (fun i=>(c::l).length-i) ?_ 0 ⟨Cb _,rfl⟩
    ⟨rfl,rfl,trivial⟩
   intro i hi IH;refine Cp (fun h=>?_) (fun h=>?_)
   ·have hlt:i<(c::l).length:=by have:=A6 h;rw[hsz]at this;simp;omega
    obtain⟨x,hx⟩:=Ab (c::l) hlt;have hd:Ru ((c::l).drop i)=((E4 x||digit x)&&Ru ((c::l).drop (i+1))):=by rw[Bp hx];rfl
    refine Jy i (by omega) hx ?_;refine Aj (Zg x) ?_;have go:(E4 x||digit x)=true→∀F' S',Sub [(3,vi (i+1:Nat)),(0,str (c::l))] F'→S'.drop 0 0=⟨[],[]⟩→Nat.ble 0 S'.boxes.length=true→Nat.ble 0 S'.toks.length=true→AK X _ _ F' S' _:=
     fun ho=>IH (i+1) ⟨hlt,by rw[hi.2,hd,ho];rfl⟩ (by omega)
    refine Db (fun h5=>?_) (fun h5=>?_)
    ·have h5':E4 x=false:=by simpa using h5
     refine Jy i (by omega) hx ?_;refine Aj (Acm x) ?_;refine Ai (fun h6=>?_) (fun h6=>?_)
     ·refine Az func279 ?_;have h6':digit x=false:=by simpa using h6
      rw[hi.2,hd,h5',h6'];rfl
     ·have h6':digit x=true:=by simpa using h6
      exact go (by rw[h6'];simp) _ _ ⟨vsx (by omega),rfl,trivial⟩ rfl rfl rfl
    ·have h5':E4 x=true:=by simpa using h5
     refine Ah ?_;exact go (by rw[h5'];simp) _ _ ⟨vsx (by omega),rfl,trivial⟩ rfl rfl rfl
   ·have:i=(c::l).length:=by have:=Bd h;rw[hsz]at this;have:=hi.1;simp at *;omega
    refine Az func279 ?_;rw[hi.2,this,Hr];rfl
theorem A5l(n:Int)(h0:0≤n)(h1:n<256):IntKind.u8.wrap n=n:=by
 unfold IntKind.wrap;simp[IntKind.bits,IntKind.signed];omega
def Ms(n:Nat):Ad:=if n<10 then[UInt8.ofNat (48+n)]else Ms (n/10)++[UInt8.ofNat (48+n%10)]
theorem Axq(n:Nat):(Ms n).length≤n+1:=by
 induction n using Nat.strongRecOn with
 |ind n ih=>
  unfold Ms;split
  ·simp
  ·have:=ih (n/10) (by omega);simp;omega
theorem A36(n:Nat)(hn:n≤1000000000000):IntKind.i64.wrap ((n:Int).tdiv 10)=((n/10:Nat):Int):=by
 have:(n:Int).tdiv 10=((n/10:Nat):Int):=by rw[Int.tdiv_eq_ediv_of_nonneg (by omega)];omega
 rw[this];exact Ac (by omega) (by omega)
theorem Xr(m:Nat)(h:m<10):IntKind.u8.wrap (IntKind.i64.wrap (48+(m:Int)))=((UInt8.ofNat (48+m)).toNat:Int):=by
 rw[Ac (by omega) (by omega),A5l _ (by omega) (by omega)];have:(UInt8.ofNat (48+m)).toNat=48+m:=by rw[UInt8.toNat_ofNat'];omega
 rw[this];simp
theorem Akn(n:Nat)(hn:n≤1000000000):Pure X 260 [vi n] (str (Ms n)):=by
 induction n using Nat.strongRecOn with
 |ind n ih=>
 refine Pure.run func260 ?_;refine Ah ?_ (ht:=Ks (by omega));refine Ah ?_ (ht:=Ks (by omega));refine Ai (fun h=>?_) (fun h=>?_)
 ·have h':=A6 h;refine Bs (Ac5 (s:=[UInt8.ofNat (48+n)]) rfl rfl rfl rfl rfl rfl rfl rfl rfl rfl ?_) ?_
  ·show [[_]]=[[_]]
   rw[Xr n (by omega)]
  refine Az func260 ?_;unfold Ms;rw[if_pos (by omega)];rfl
 ·have h':=Bd h;have ihq:Pure X 260 [vi (IntKind.i64.wrap ((n:Int).tdiv 10))] (str (Ms (n/10))):=by
   rw[A36 n (by omega)];exact ih (n/10) (by omega) (by omega)
  have hm:((n:Int).tmod 10)=((n%10:Nat):Int):=by rw[Int.tmod_eq_emod_of_nonneg (by omega)];omega
  refine Di 0 (by kernel_rfl) ?_;refine A0 ?_;refine A0 ?_;refine Hz ihq ?_;refine A0 ?_;refine A0 ?_;refine A0 ?_;refine A0 ?_;refine Ac0 ?_;refine D6 (fun S'=>Ac5 (s:=[UInt8.ofNat (48+n%10)]) rfl rfl rfl rfl rfl rfl rfl rfl rfl rfl ?_) ?_
  ·show [[_]]=[[_]]
   rw[hm,Xr (n%10) (by omega)]
  refine D6 (fun S'=>Se rfl rfl rfl rfl rfl ?_ rfl) ?_
  ·have:=Axq (n/10);simp;omega
  refine A0 ?_;refine Bu ?_;refine Az func260 ?_
  conv=>rhs;unfold Ms
  rw[if_neg (by omega)];rfl
theorem cb(c d:UInt8):((c.toNat:Int)==(d.toNat:Int))=(c==d):=by
 by_cases h:c=d
 ·subst h;simp
 ·have:¬(c.toNat:Int)=(d.toNat:Int):=fun e=>h (UInt8.toNat_inj.1 (by omega));rw[beq_eq_false_iff_ne.2 h,beq_eq_false_iff_ne.2 this]
abbrev PG(f:Nat)(fn:Func)(K:List Item)(F:Cw)(r:AV):Prop:=AK X ⟨f,fn,0,0⟩ K F ⟨[],[]⟩ fun e S=>e=.ret r∧S=⟨[],[]⟩
def Rj(n:Int):Ad→Int
 |[]=>if n>1000000 then -1 else n
 |c::l=>if digit c then Rj (10*n+c.toNat-48) l else -1
def D8(s:Ad):Int:=match s with
 |[]=>-1
 |c::l=>if l.length>6 then -1 else if l.length>0&&c==48 then -1 else Rj 0 (c::l)
theorem Abl{c:UInt8}(h:digit c=true):(48:Int)≤c.toNat∧(c.toNat:Int)≤57:=by
 simp only[digit,A8,Du,Mz]at h;exact h
theorem O2(c:UInt8)(l:Ad):((⟨⟨c::l⟩⟩:ByteArray).size:Int)=(l.length:Int)+1:=by show ((c::l).length:Int)=_;simp
theorem Gj(s:Ad):((⟨⟨s⟩⟩:ByteArray).size:Int)=(s.length:Int):=rfl
theorem Ad5(s:Ad):Pure X 289 [str s] (vi (D8 s)):=by
 refine Pure.run func289 ?_;have fin:∀{b:Int},D8 s=b→De [vi b]=vi (D8 s):=fun h=>by rw[h];rfl
 cases s with
 |nil=>
  refine Ep ?_;refine Ep ?_;refine Ay ?_;exact Az func289 rfl
 |cons c l=>
  refine Gm ?_ (ht:=by rw[O2];exact Ks (by omega));refine Db (fun h1=>?_) (fun h1=>?_)
  ·refine Ay ?_;refine Az func289 (fin ?_);have:=A6 h1;rw[O2]at this;simp only[D8];rw[if_pos (by omega)]
  have h1':¬l.length>6:=by have:=Bd h1;rw[O2]at this;omega
  have L:D8 (c::l)=Rj 0 (c::l)→∀F,Sub [(4,vi 0),(3,vi 0),(0,str (c::l))] F→PG 289 f289 (J6 true 5 f289) F (vi (D8 (c::l))):=fun hg F hF=>by
   refine Dj ?_;refine Ar (ι:=Nat×Int) 0 0 (fun i=>i.1≤(c::l).length∧0≤i.2∧i.2<10^i.1∧D8 (c::l)=Rj i.2 ((c::l).drop i.1)) (fun i=>[(4,vi i.1),(3,vi i.2),(0,str (c::l))]) (fun _=>⟨[],[]⟩)
    (fun i=>(c::l).length-i.1) ?_ (0,0) ⟨Cb _,Int.le_refl _,by simp,hg⟩ hF
   rintro⟨i,n⟩ ⟨hi,hn0,hn1,hnum⟩ IH;simp only at hi hn0 hn1 hnum IH⊢;have hcl:(c::l).length=l.length+1:=rfl;have hpow:(10:Int)^i≤10000000:=by
    have h7:i≤7:=by simp at hi;omega
    have:=Nat.pow_le_pow_right (show 0<10 by omega) h7;have h10:((10^i:Nat):Int)≤((10^7:Nat):Int):=Int.ofNat_le.2 this;simpa using h10
   refine Cp (fun h=>?_) (fun h=>?_)
   ·have hlt:i<(c::l).length:=by have:=A6 h;rw[O2]at this;simp;omega
    obtain⟨x,hx⟩:=Ab (c::l) hlt;have hd:Rj n ((c::l).drop i)=if digit x then Rj (10*n+x.toNat-48) ((c::l).drop (i+1))else -1:=by rw[Bp hx];rfl
    refine Jy i (by omega) hx ?_;refine Aj (Acm x) ?_;refine Ai (fun h2=>?_) (fun h2=>?_)
    ·have h2':digit x=false:=by simpa using h2
     refine Az func289 ?_;rw[hnum,hd,h2'];rfl
    ·have h2':digit x=true:=by simpa using h2
     obtain⟨d1,d2⟩:=Abl h2';refine Jy i (by omega) hx ?_;have hp1:(10:Int)^(i+1)=10*10^i:=by rw[Int.pow_succ];omega
     refine IH (i+1,10*n+x.toNat-48) ⟨hlt,by simp only;omega,by simp only;omega,by rw[hnum,hd,h2'];rfl⟩ (by simp only;omega) _ _ ⟨Ci ((Ac (by omega) (by omega)).trans (by simp)),Ci ?_,rfl,trivial⟩ rfl rfl rfl;rw[Ac (n:=10*n) (by omega) (by omega),Ac (n:=(x.toNat:Int)) (by omega) (by omega),Ac (n:=10*n+x.toNat) (by omega) (by omega),Ac (by omega) (by omega)]
   ·have:i=(c::l).length:=by have:=Bd h;rw[O2]at this;simp at *;omega
    have hg2:D8 (c::l)=if n>1000000 then -1 else n:=by rw[hnum,this,Hr];rfl
    refine Ai (fun h2=>?_) (fun h2=>?_)
    ·refine Az func289 ?_;rw[hg2,if_pos (A6 h2)];rfl
    ·refine Az func289 ?_;rw[hg2,if_neg (Bd h2)];rfl
  refine Db (fun h2=>?_) (fun h2=>?_)
  ·have h2':l.length>0:=by have:=A6 h2;rw[O2]at this;omega
   refine Jy 0 (by omega) (b:=c) rfl ?_;refine Ai (fun h3=>?_) (fun h3=>?_)
   ·refine Az func289 (fin ?_);have h3':(c==48)=true:=by rw[←cb];exact h3
    simp only[D8];rw[if_neg h1',h3',if_pos (by simp[h2'])]
   ·have h3':(c==48)=false:=by rw[←cb];exact h3
    refine L (by simp only[D8];rw[if_neg h1',h3'];simp) _ ?_;exact⟨rfl,rfl,rfl,trivial⟩
  ·have h2':¬l.length>0:=by have:=Bd h2;rw[O2]at this;omega
   refine Ah ?_;refine L (by simp only[D8];rw[if_neg h1',if_neg (by simp[h2'])]) _ ?_;exact⟨rfl,rfl,rfl,trivial⟩
end Go.V
