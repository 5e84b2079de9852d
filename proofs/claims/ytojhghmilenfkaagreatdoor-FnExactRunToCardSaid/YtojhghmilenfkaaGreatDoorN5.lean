/- A part of the proof of the claim that the last text states: no condition of its own. -/
import Derived.Test.YtojhghmilenfkaaGreatDoorN4
import Derived.Laws.Externs
import Derived.Lib.ItoaNum
import Derived.Test.YtojhghmilenfkaaGreatDoorChecked
set_option linter.unusedVariables false
set_option linter.unusedSimpArgs false
namespace Go.V
open Go
section
variable {X:Cx}{B:Bx}{S:St}{F:C5}{N:Nat}{ops:Array Oper}{i:Nat}{o:Oper}
theorem Wm{f:FuncId}{args:List AV}{r:AV}{vs:List Value}(hE:Nr X.P f)(ha:args=vs.map .val)
 (h:∀w,X.Glob w→Calls X.P f ⟨vs⟩ w fun e w'=>(∃v,e=.returned v∧∀E w,Rel E w v r)∧RowKit.Below w.heap.size w w'):Pure X f args r:=by
 refine⟨hE,fun E w us _ hI hs hr=>?_⟩;have:us=⟨vs⟩:=by
  subst ha;apply Array.ext
  ·simpa using hs
  ·intro j h1 h2;have:=hr j us[j] (.val vs[j]) (by simp[h1]) (by simp at h2;simp[h2]);generalize us[j]=z at this;cases this;simp
 subst this;refine(h w hI.glob).mono fun e w' he=>?_;obtain⟨⟨v,rfl,hv⟩,hb⟩:=he;have hlt:∀b o v,w.cell? ⟨b,o,none⟩=some v→w'.cell? ⟨b,o,none⟩=some v:=fun b o v hc=>by
  have hl:=J3 hc;unfold World.cell? at hc⊢;rw[hb.block b hl];exact hc
 have ev:Evol E w E w' E.boxes.length E.toks.length:=⟨rfl,fun _ _ h=>⟨h,fun _ h=>h⟩,fun _ _ k h=>⟨k,h,.inl rfl⟩,hb.os,hb.tape,hb.output,hb.size,fun k hk _=>hb.block k hk,fun b o v _ hc=>hlt b o v hc,fun _ _ _ h=>h,fun _ _ h=>h,rfl,fun q e he=>by
  have hl:q<w.heap.size:=by
   rcases Gs q w.heap.size with h|h
   ·exact h
   ·simp[F3,Abv h]at he
  unfold F3 at he⊢;rw[hb.block q hl];exact he,fun _ _ _ b _ _ _ _ o ho=>(hb.block b (N7 ho)).trans ho⟩
 exact⟨E,⟨[],[]⟩,hI.keep ev (fun b hb'=>hb.block b (hI.own_lt hb')),ev.weaken (B3 _) (B3 _),r,hv E w',rfl,rfl⟩
theorem Alc{c:Call}{fo:Operand}{f:FuncId}{us:List Value}{xs:List AV}{v:Value}(hr:∀w,(callFunc f ⟨us⟩).run X.P w=.ok (.value v) w)(ho:ops[i]?=some o:=by rfl)(hw:A8 ops F o=some true:=by rfl)
 (hop:o.op=.call c:=by rfl)(hcal:c.callee=.value fo:=by rfl)(hfo:Dw X F fo=some (.fn f []):=by rfl)(hx:Hm X F c.args.toList=some xs:=by rfl)(hu:Aas xs=some us:=by rfl):Ndo X N ops i o F (.val v) S S:=by
 refine Dj ho hw fun F' E w a hc hI hF=>?_;rw[hop]at hc;simp only[Op.operands,Call.operands,hcal,Wu,zzq45]at hc;have h1:=Ak hI hF ((hc fo (.inl (by simp))).trans hfo);have e2:Hm X F' c.args.toList=Hm X F c.args.toList:=by
  have:∀l:List Operand,(∀p,p∈l→Dw X F' p=Dw X F p)→Hm X F' l=Hm X F l:=by
   intro l
   induction l with
   |nil=>intro _;rfl
   |cons p l ih=>intro h;simp only[Hm];rw[h p (by simp),ih fun q hq=>h q (by simp[hq])]
  exact this _ fun p hp=>hc p (.inr hp)
 obtain⟨hl,hrr⟩:=O2 hI hF (e2.trans hx);have hxs:=Aat hu;subst hxs;have hargs:c.args.map a.eval=⟨us⟩:=by
  apply Array.ext
  ·simpa using hl
  ·intro j h1 h2;have:=hrr j (c.args.map a.eval)[j] (.val us[j]) (Aku h1) (by simp at h2;simp[h2]);generalize (c.args.map a.eval)[j]=z at this;cases this;simp
 cases hh:a.eval fo<;>rw[hh]at h1<;>cases h1;rename_i caps hcl hcr;have hcaps:caps=#[]:=by apply Array.eq_empty_of_size_eq_zero;simpa using hcl
 subst hcaps;refine⟨v,?_,.val v⟩;have:=hr w;rw[←hargs]at this;simp[execOp,hop,resolve,hcal,hh,Deferred.ofValue,invoke,this]
end
end Go.V
namespace Go.V
open Go Go.Proofs Go.Proofs.Tryz
def tyL:List (Nat×Ty):=[
 (30,⟨4,.str [(0,1),(1,1),(2,1),(3,1)],[.val (.int .i64 0),.val (.string ⟨#[]⟩),.val (.int .i64 0),.sl [] .tight],[false,false,false,false]⟩),
 (3,⟨1,.int .i64,[.val (.int .i64 0)],[]⟩),
 (28,⟨1,.slc 30,[.sl [] .tight],[]⟩),
 (9,⟨1,.string,[.val (.string ⟨#[]⟩)],[]⟩),
 (40,⟨8,.str [(0,1),(1,1),(2,1),(3,1),(4,1),(5,1),(6,1),(7,1)],[.val (.int .i64 0),.sl [] .tight,.sl [] .tight,.val (.int .i64 0),.val (.int .i64 0),.val (.int .i64 0),.val (.int .i64 0),.val (.int .i64 0)],[false,false,false,false,false,false,false,false]⟩),
 (37,⟨1,.slc 3,[.sl [] .tight],[]⟩),
 (80,⟨1,.slc 9,[.sl [] .tight],[]⟩),
 (250,⟨2,.str [(0,1),(1,1)],[.val (.int .i64 0),.val (.int .i64 0)],[false,false]⟩),
 (85,⟨5,.str [(0,1),(1,1),(2,1),(3,2)],[.sl [] .tight,.sl [] .tight,.sl [] .tight,.val (.int .i64 0),.sl [] .tight],[false,false,false,true]⟩),
 (38,⟨1,.slc 137,[.sl [] .tight],[]⟩),
 (334,⟨1,.flat,[.val (.pointer none)],[]⟩),
 (4,⟨1,.bool,[.val (.bool false)],[]⟩),
 (24,⟨4,.str [(0,1),(1,1),(2,1),(3,1)],[.val (.int .i64 0),.val (.string ⟨#[]⟩),.val (.int .i64 0),.sl [] .tight],[false,false,false,false]⟩),
 (90,⟨8,.str [(0,1),(1,1),(2,1),(3,1),(4,4)],[.val (.int .i64 0),.val (.int .i64 0),.val (.int .i64 0),.val (.bool false),.val (.int .i64 0),.val (.string ⟨#[]⟩),.val (.int .i64 0),.sl [] .tight],[false,false,false,false,true]⟩),
 (137,⟨1,.slc 185,[.sl [] .tight],[]⟩),
 (143,⟨3,.str [(0,1),(1,1),(2,1)],[.sl [] .tight,.sl [] .tight,.sl [] .tight],[false,false,false]⟩),
 (301,⟨1,.flat,[.val (.pointer none)],[]⟩),
 (71,⟨2,.str [(0,1),(1,1)],[.val (.int .i64 0),.sl [] .tight],[false,false]⟩),
 (5,⟨1,.int .u8,[.val (.int .u8 0)],[]⟩),
 (74,⟨3,.str [(0,2),(2,1)],[.val (.int .i64 0),.sl [] .tight,.sl [] .tight],[true,false]⟩),
 (185,⟨2,.str [(0,1),(1,1)],[.val (.bool false),.val (.int .i64 0)],[false,false]⟩),
 (81,⟨1,.slc 90,[.sl [] .tight],[]⟩),
 (150,⟨2,.str [(0,1),(1,1)],[.val (.int .i64 0),.val (.string ⟨#[]⟩)],[false,false]⟩),
 (159,⟨1,.slc 5,[.sl [] .tight],[]⟩),
 (83,⟨2,.str [(0,1),(1,1)],[.val (.int .i64 0),.sl [] .tight],[false,false]⟩),
 (251,⟨1,.slc 250,[.sl [] .tight],[]⟩),
 (307,⟨1,.flat,[.val (.pointer none)],[]⟩),
 (210,⟨2,.str [(0,1),(1,1)],[.val (.int .i64 0),.val (.int .i64 0)],[false,false]⟩),
 (268,⟨2,.str [(0,1),(1,1)],[.val (.int .i64 0),.val (.int .i64 0)],[false,false]⟩),
 (26,⟨1,.slc 103,[.sl [] .tight],[]⟩),
 (212,⟨3,.str [(0,2),(2,1)],[.val (.int .i64 0),.val (.int .i64 0),.val (.bool false)],[true,false]⟩),
 (139,⟨1,.slc 251,[.sl [] .tight],[]⟩),
 (298,⟨1,.slc 306,[.sl [] .tight],[]⟩),
 (303,⟨3,.str [(0,1),(1,1),(2,1)],[.sl [] .tight,.val (.int .i64 0),.val (.bool false)],[false,false,false]⟩),
 (92,⟨1,.flat,[.val (.pointer none)],[]⟩),
 (98,⟨11,.str [(0,2),(2,1),(3,1),(4,1),(5,1),(6,1),(7,4)],[.val (.int .i64 0),.sl [] .tight,.sl [] .tight,.sl [] .tight,.sl [] .tight,.sl [] .tight,.sl [] .tight,.val (.int .i64 0),.val (.string ⟨#[]⟩),.val (.int .i64 0),.sl [] .tight],[true,false,false,false,false,false,true]⟩),
 (306,⟨3,.str [(0,1),(1,1),(2,1)],[.val (.int .i64 0),.val (.string ⟨#[]⟩),.val (.int .i64 0)],[false,false,false]⟩),
 (49,⟨1,.slc 114,[.sl [] .tight],[]⟩),
 (59,⟨8,.str [(0,1),(1,1),(2,1),(3,1),(4,1),(5,1),(6,1),(7,1)],[.val (.int .i64 0),.sl [] .tight,.sl [] .tight,.val (.int .i64 0),.val (.int .i64 0),.val (.int .i64 0),.val (.int .i64 0),.val (.int .i64 0)],[false,false,false,false,false,false,false,false]⟩),
 (140,⟨1,.slc 212,[.sl [] .tight],[]⟩),
 (169,⟨5,.str [(0,2),(2,1),(3,1),(4,1)],[.val (.int .i64 0),.sl [] .tight,.val (.int .i64 0),.sl [] .tight,.sl [] .tight],[true,false,false,false]⟩),
 (72,⟨1,.slc 143,[.sl [] .tight],[]⟩),
 (217,⟨1,.flat,[.val (.pointer none)],[]⟩),
 (114,⟨4,.str [(0,1),(1,1),(2,1),(3,1)],[.val (.int .i64 0),.val (.int .i64 0),.val (.int .i64 0),.val (.bool false)],[false,false,false,false]⟩),
 (310,⟨2,.str [(0,1),(1,1)],[.val (.pointer none),.sl [] .tight],[false,false]⟩),
 (103,⟨6,.str [(0,1),(1,1),(2,4)],[.val (.bool false),.val (.int .i64 0),.val (.int .i64 0),.val (.string ⟨#[]⟩),.val (.int .i64 0),.sl [] .tight],[false,false,true]⟩),
 (141,⟨1,.slc 4,[.sl [] .tight],[]⟩),
 (170,⟨1,.flat,[.val (.pointer none)],[]⟩),
 (361,⟨1,.int .u64,[.val (.int .u64 0)],[]⟩),
 (368,⟨1,.int .u32,[.val (.int .u32 0)],[]⟩),
 (96,⟨1,.slc 37,[.sl [] .tight],[]⟩),
 (194,⟨3,.str [(0,1),(1,1),(2,1)],[.val (.pointer none),.val (.pointer none),.val (.int .i64 0)],[false,false,false]⟩),
 (351,⟨1,.int .u64,[.val (.int .u64 0)],[]⟩),
 (68,⟨3,.str [(0,2),(2,1)],[.val (.int .i64 0),.sl [] .tight,.sl [] .tight],[true,false]⟩),
 (173,⟨10,.str [(0,4),(4,4),(8,1),(9,1)],[.val (.int .i64 0),.val (.string ⟨#[]⟩),.val (.int .i64 0),.sl [] .tight,.val (.int .i64 0),.val (.string ⟨#[]⟩),.val (.int .i64 0),.sl [] .tight,.val (.int .i64 0),.val (.int .i64 0)],[true,true,false,false]⟩),
 (312,⟨4,.str [(0,2),(2,1),(3,1)],[.val (.pointer none),.sl [] .tight,.sl [] .tight,.val (.int .i64 0)],[true,false,false]⟩),
 (115,⟨1,.slc 40,[.sl [] .tight],[]⟩),
 (280,⟨2,.arr 2 3,[.val (.int .i64 0),.val (.int .i64 0)],[]⟩),
 (201,⟨3,.str [(0,1),(1,1),(2,1)],[.sl [] .tight,.sl [] .tight,.sl [] .tight],[false,false,false]⟩),
 (167,⟨1,.slc 173,[.sl [] .tight],[]⟩),
 (219,⟨2,.str [(0,1),(1,1)],[.val (.int .i64 0),.sl [] .tight],[false,false]⟩),
 (22,⟨1,.slc 24,[.sl [] .tight],[]⟩),
 (57,⟨1,.slc 178,[.sl [] .tight],[]⟩),
 (66,⟨1,.slc 201,[.sl [] .tight],[]⟩),
 (162,⟨1,.slc 166,[.sl [] .tight],[]⟩),
 (166,⟨3,.str [(0,1),(1,1),(2,1)],[.val (.bool false),.val (.string ⟨#[]⟩),.val (.bool false)],[false,false,false]⟩),
 (192,⟨1,.flat,[.val (.pointer none)],[]⟩),
 (198,⟨1,.slc 284,[.sl [] .tight],[]⟩),
 (65,⟨2,.str [(0,1),(1,1)],[.val (.int .i64 0),.sl [] .tight],[false,false]⟩),
 (127,⟨1,.flat,[.val (.pointer none)],[]⟩),
 (348,⟨2,.str [(0,1),(1,1)],[.sl [] .tight,.val (.int .i64 0)],[false,false]⟩),
 (178,⟨1,.slc 238,[.sl [] .tight],[]⟩),
 (79,⟨1,.flat,[.val .nilFunc],[]⟩),
 (284,⟨1,.slc 318,[.sl [] .tight],[]⟩),
 (199,⟨1,.slc 290,[.sl [] .tight],[]⟩),
 (308,⟨1,.flat,[.val (.pointer none)],[]⟩),
 (394,⟨3,.str [(0,1),(1,1),(2,1)],[.val (.string ⟨#[]⟩),.val (.string ⟨#[]⟩),.val .nilIface],[false,false,false]⟩),
 (2,⟨1,.int .i64,[.val (.int .i64 0)],[]⟩),
 (238,⟨2,.str [(0,1),(1,1)],[.val (.bool false),.val (.int .i64 0)],[false,false]⟩),
 (318,⟨2,.str [(0,1),(1,1)],[.val (.int .i64 0),.val (.int .i64 0)],[false,false]⟩),
 (290,⟨3,.str [(0,2),(2,1)],[.val (.int .i64 0),.val (.int .i64 0),.val (.bool false)],[true,false]⟩),
 (288,⟨2,.str [(0,1),(1,1)],[.val (.int .i64 0),.val (.int .i64 0)],[false,false]⟩),
 (340,⟨1,.flat,[.val .nilIface],[]⟩),
 (179,⟨1,.flat,[.val .nilFunc],[]⟩),
 (205,⟨1,.slc 74,[.sl [] .tight],[]⟩),
 (338,⟨6,.arr 6 9,[.val (.string ⟨#[]⟩),.val (.string ⟨#[]⟩),.val (.string ⟨#[]⟩),.val (.string ⟨#[]⟩),.val (.string ⟨#[]⟩),.val (.string ⟨#[]⟩)],[]⟩),
 (345,⟨1,.str [(0,1)],[.val (.int .i64 0)],[false]⟩),
 (95,⟨1,.flat,[.val .nilFunc],[]⟩),
 (188,⟨1,.flat,[.val .nilFunc],[]⟩),
 (366,⟨1,.flat,[.val (.pointer none)],[]⟩),
 (174,⟨2,.arr 2 4,[.val (.bool false),.val (.bool false)],[]⟩),
 (261,⟨1,.flat,[.val .nilFunc],[]⟩),
 (282,⟨6,.arr 6 4,[.val (.bool false),.val (.bool false),.val (.bool false),.val (.bool false),.val (.bool false),.val (.bool false)],[]⟩),
 (330,⟨1,.flat,[.val (.pointer none)],[]⟩),
 (337,⟨2,.arr 2 9,[.val (.string ⟨#[]⟩),.val (.string ⟨#[]⟩)],[]⟩),
 (400,⟨1,.str [(0,1)],[.val (.string ⟨#[]⟩)],[false]⟩),
 (33,⟨1,.flat,[.val .nilFunc],[]⟩),
 (333,⟨1,.flat,[.val .nilFunc],[]⟩)]
def A4u:Nat→Option Ty:=Ako tyL
set_option maxRecDepth 100000 in
theorem A5k:Asl prog A4u tyL:=by
 unfold tyL
 iterate 98 refine⟨by kernel_rfl,by kernel_rfl,?_⟩
 trivial
def condG:List AV:=[.val (.string ⟨#[60]⟩),.val (.string ⟨#[60,61]⟩),.val (.string ⟨#[62]⟩),.val (.string ⟨#[62,61]⟩),.val (.string ⟨#[61,61]⟩),.val (.string ⟨#[33,61]⟩)]
noncomputable def gK:Nat:=prog.globals.size
def gAt(g:Nat):Option (List AV):=
 match Nat.beq g 1 with
 |true=>some condG
 |false=>none
def IfaceV(w:World)(g:Nat):Prop:=∃ev,w.cell? ⟨g,0,none⟩=some ev∧(ev=.nilIface∨∃te pe,ev=.iface te pe)
structure gOk (w:World):Prop where
 cond:∀(j:Nat) (x:AV),condG[j]?=some x→∃v,w.cell? ⟨1,j,none⟩=some v∧x=.val v
 tab:∃e z,w.heap[2]?=some (.cells (Lib.pow10Tab.map fun z=>Value.int .u64 z).toArray e z)
 syn:IfaceV w 6
 rng:IfaceV w 7
theorem Ajg{k:Nat}(h:decide (k<prog.globals.size)=true):k<gK:=by unfold gK;exact A5 h
theorem IfaceV.st{w w':World}{g:Nat}(h:∀k,k<gK→w'.heap[k]?=w.heap[k]?)(hg:g<gK)(hv:IfaceV w g):IfaceV w' g:=by
 obtain⟨ev,h1,h2⟩:=hv;refine⟨ev,?_,h2⟩;unfold World.cell? at h1⊢;rw[h g hg];exact h1
noncomputable def X:Cx where
 P:=prog
 ty:=A4u
 G:=gAt
 K0:=gK
 Glob:=gOk
 ty_ok:=Avj A5k
 glob_st w w' h hs _ hg:={
  cond:=fun j x hx=>by
   obtain⟨v,hv,he⟩:=hg.cond j x hx;refine⟨v,?_,he⟩;unfold World.cell? at hv⊢;rw[h 1 (Ajg (by kernel_rfl))];exact hv
  tab:=by
   obtain⟨e,z,ht⟩:=hg.tab;exact⟨e,z,(h _ (Ajg (by kernel_rfl))).trans ht⟩
  syn:=hg.syn.st h (Ajg (by kernel_rfl))
  rng:=hg.rng.st h (Ajg (by kernel_rfl)) }
 glob_G w hw g cells hg:=by
  unfold gAt at hg;split at hg
  ·rename_i hb;cases hg;have:=Ve hb;subst this;exact⟨Ajg (by kernel_rfl),hw.cond⟩
  ·cases hg
 mixed:=by kernel_rfl
inductive Nd where
 |mk (kind:Int) (name:List UInt8) (num:Int) (kids:List Nd)
def Nd.kind:Nd→Int|.mk k _ _ _=>k
def Nd.name:Nd→List UInt8|.mk _ s _ _=>s
def Nd.num:Nd→Int|.mk _ _ m _=>m
def Nd.kids:Nd→List Nd|.mk _ _ _ ks=>ks
mutual
def Az3:Nd→List AV
 |.mk k s m ks=>[.val (.int .i64 k),.val (.string ⟨⟨s⟩⟩),.val (.int .i64 m),.sl (Ap ks) .no]
def Ap:List Nd→List (List AV)
 |[]=>[]
 |n::l=>Az3 n::Ap l
end
def Af(n:Nd):List AV:=[.val (.int .i64 n.kind),.val (.string ⟨⟨n.name⟩⟩),.val (.int .i64 n.num),.sl (Ap n.kids) .no]
theorem Atu(n:Nd):Az3 n=Af n:=by cases n;rfl
theorem Au(l:List Nd):Ap l=l.map Af:=by
 induction l with
 |nil=>rfl
 |cons n l ih=>simp only[Ap,ih,Atu,N0]
theorem Am{l:List Nd}{i:Nat}{n:Nd}(h:l[i]?=some n):(Ap l)[i]?=some (Af n):=by rw[Au];simp[h]
theorem Ad(l:List Nd):(Ap l).length=l.length:=by rw[Au];simp
theorem Nd.ind{P:Nd→Prop}(h:∀n,(∀k,k∈n.kids→P k)→P n):∀n,P n:=by
 intro n;have:∀m:Nat,∀n:Nd,SizeOf.sizeOf n<m→P n:=by
  intro m
  induction m with
  |zero=>intro n h;omega
  |succ m ih=>
   intro n hn;refine h n fun k hk=>ih k ?_;cases n with
   |mk a b c ks=>
    have:=List.sizeOf_lt_of_mem hk;simp only[Nd.kids]at this;simp at hn;omega
 exact this _ n (Aec _)
theorem Anx:∀n:Nd,∀x,x∈Af n→Ok 0 0 x:=by
 intro n
 induction n using Nd.ind with
 |h n ih=>
  intro x hx;simp only[Af,zzq13,Ww,or_false]at hx;rcases hx with rfl|rfl|rfl|rfl
  ·exact .val _
  ·exact .val _
  ·exact .val _
  ·refine .sl _ _ (fun r hr y hy=>?_) (fun t ht=>by cases ht);rw[Au]at hr;obtain⟨k,hk,rfl⟩:=zzq66.1 hr;exact ih k hk y hy
theorem Ap6(l:List Nd):He 0 0 (Ap l):=fun r hr x hx=>by
 rw[Au]at hr;obtain⟨k,_,rfl⟩:=zzq66.1 hr;exact Anx k x hx
mutual
def Ai:Nd→Nat
 |.mk _ _ _ ks=>1+A3 ks
def A3:List Nd→Nat
 |[]=>0
 |n::l=>Ai n+A3 l
end
theorem Cj(n:Nd):Ai n=1+A3 n.kids:=by cases n;rfl
theorem M3(a b:List Nd):A3 (a++b)=A3 a+A3 b:=by
 induction a with
 |nil=>simp[A3]
 |cons x a ih=>simp[A3,ih];omega
theorem Qi{l:List Nd}{i:Nat}:A3 (l.take i)≤A3 l:=by
 have:=M3 (l.take i) (l.drop i);rw[Aee]at this;omega
theorem Pm{l:List Nd}{i:Nat}{n:Nd}(h:l[i]?=some n):A3 (l.take (i+1))=A3 (l.take i)+Ai n:=by
 rw[G8,h,M3];simp[A3]
theorem Bm(l:List Nd):l.length≤A3 l:=by
 induction l with
 |nil=>simp[A3]
 |cons x l ih=>have:=Cj x;simp[A3];omega
theorem Ac{n:Int}(h0:-9223372036854775808≤n)(h:n≤9223372036854775807):IntKind.i64.wrap n=n:=by
 unfold IntKind.wrap;simp[IntKind.bits,IntKind.signed];omega
instance{n m:Nat}{k:Nd}:OKL n m (Af k):=⟨fun x hx=>(Anx k x hx).mono (B3 _) (B3 _)⟩
instance{n m:Nat}{l:List Nd}:OKR n m (Ap l):=⟨fun r hr x hx=>(Ap6 l r hr x hx).mono (B3 _) (B3 _)⟩
theorem Ci{a b:Int}{k:IntKind}(h:a=b):some (AV.val (.int k a))=some (AV.val (.int k b)):=by rw[h]
theorem vsx{a b:Int}(h:-9223372036854775808≤a∧a≤9223372036854775807∧a=b):some (AV.val (.int .i64 (IntKind.i64.wrap a)))=some (AV.val (.int .i64 b)):=
 Ci ((Ac h.1 h.2.1).trans h.2.2)
theorem t1(n:Nd)(hn:Ai n≤4000000000):Pure X 292 [.agg (Af n)] (.val (.int .i64 (Ai n))):=by
 induction n using Nd.ind with
 |h n ih=>
 refine Pure.mk func292 rfl rfl (by kernel_rfl) ?_;refine Bi 100 rfl ?_;have hc:=Cj n;have hll:=Bm n.kids;refine Ar (ι:=Nat) 1 0 (fun i=>i≤n.kids.length) (fun i=>[(9,.val (.int .i64 i)),(8,.val (.int .i64 n.kids.length)),(7,.sl (Ap n.kids) .no),(3,.val (.int .i64 (1+A3 (n.kids.take i):Nat)))])
  (fun _=>⟨[[Af n]],[]⟩) (fun i=>n.kids.length-i) ?_ 0 (B3 _) ⟨rfl,by rw[←Ad];rfl,rfl,rfl,trivial⟩
 intro i hi IH;refine Bi 100 rfl ?_;refine Ph rfl (fun hlt=>?_) (fun hge=>?_)
 ·have hlt':i<n.kids.length:=by have:=A5 hlt;omega
  obtain⟨kid,hkid⟩:=Ab n.kids hlt';have hsn:=Pm hkid;have hle:=Qi (l:=n.kids) (i:=i+1);refine Bi 100 rfl ?_;refine Ach rfl rfl rfl rfl rfl rfl rfl rfl rfl rfl (by omega) (Am hkid) ?_;refine Bi 100 rfl ?_;refine Avz (ih kid (Bh hkid) (by omega)) rfl rfl rfl rfl rfl rfl rfl rfl ?_;refine Bi 100 rfl ?_;exact IH (i+1) hlt' (by omega) _ _ ⟨vsx (by omega),rfl,rfl,vsx (by omega),trivial⟩ rfl rfl rfl
 ·have:i=n.kids.length:=by have:=Ba hge;omega
  subst this;refine Bi 100 rfl ?_;exact Zj func292 rfl rfl rfl (by rw[hc,I2];rfl)
abbrev vi(n:Int):AV:=.val (.int .i64 n)
abbrev vb(b:Bool):AV:=.val (.bool b)
abbrev vc(c:UInt8):AV:=.val (.int .u8 c.toNat)
def Bl(n lo hi:Int):Bool:=decide (lo≤n)&&decide (n≤hi)
def Em(c:UInt8):Bool:=Bl c.toNat 97 122
def digit(c:UInt8):Bool:=Bl c.toNat 48 57
theorem H4(n lo hi:Int):Pure X 49 [vi n,vi lo,vi hi] (vb (Bl n lo hi)):=by
 refine Pure.run func49 ?_;refine Df (fun h=>?_) (fun h=>?_)
 ·refine Az func49 ?_;simp_all [Bl,C8]
 ·refine Az func49 ?_;simp_all [Bl,C8];omega
theorem Yt(c:UInt8):Pure X 304 [vc c] (vb (Em c)):=by
 refine Pure.run func304 ?_;refine Df (fun h=>?_) (fun h=>?_)
 ·refine Az func304 ?_;simp_all [Em,Bl,C8]
 ·refine Az func304 ?_;simp_all [Em,Bl,C8];omega
theorem Ab8(c:UInt8):Pure X 306 [vc c] (vb (digit c)):=by
 refine Pure.run func306 ?_;refine Df (fun h=>?_) (fun h=>?_)
 ·refine Az func306 ?_;simp_all [digit,Bl,C8]
 ·refine Az func306 ?_;simp_all [digit,Bl,C8];omega
def Dl(l:List (List UInt8)):List (List AV):=l.map fun s=>[str s]
theorem Q5{l:List (List UInt8)}{i:Nat}{s:List UInt8}(h:l[i]?=some s):(Dl l)[i]?=some [str s]:=by simp[Dl,h]
theorem F6(l:List (List UInt8)):(Dl l).length=l.length:=by simp[Dl]
instance{n m:Nat}{l:List (List UInt8)}:OKR n m (Dl l):=⟨fun r hr x hx=>by
 obtain⟨s,_,rfl⟩:=zzq66.1 hr;simp at hx;subst hx;exact .val _⟩
theorem B6{α:Type}{l:List α}{i:Nat}{x:α}(h:l[i]?=some x):l.drop i=x::l.drop (i+1):=by
 have hi:=Aa h;rw[Wv hi]at h;rw[Akw hi,Option.some.inj h]
def has(l:List (List UInt8))(s:List UInt8):Bool:=l.any fun x=>x==s
theorem Az6(l:List (List UInt8))(s:List UInt8)(hl:l.length≤1000000000):Pure X 328 [.sl (Dl l) .no,str s] (vb (has l s)):=by
 refine Pure.run func328 ?_;refine Ar (ι:=Nat) 0 0 (fun i=>i≤l.length∧has l s=has (l.drop i) s) (fun i=>[(5,vi i),(0,.sl (Dl l) .no),(1,str s)]) (fun _=>⟨[],[]⟩) (fun i=>l.length-i) ?_ 0 ⟨B3 _,rfl⟩
  ⟨rfl,rfl,rfl,trivial⟩
 intro i hi IH;refine C7 (fun h=>?_) (fun h=>?_)
 ·have hlt:i<l.length:=by have:=A5 h;rw[F6]at this;omega
  obtain⟨x,hx⟩:=Ab l hlt;have hd:has (l.drop i) s=(x==s||has (l.drop (i+1)) s):=by rw[B6 hx];rfl
  refine B4 i (by omega) (Q5 hx) ?_;refine Ah (fun h2=>?_) (fun h2=>?_)
  ·refine Az func328 ?_;have h3:(x==s)=true:=h2;rw[hi.2,hd,h3];rfl
  ·have h3:(x==s)=false:=h2;exact IH (i+1) ⟨hlt,by rw[hi.2,hd,h3];rfl⟩ (by omega) _ _ ⟨vsx (by omega),rfl,rfl,trivial⟩ rfl rfl rfl
 ·have:i=l.length:=by have:=Ba h;rw[F6]at this;omega
  refine Az func328 ?_;rw[hi.2,this,Hz];rfl
def Ui:List (List UInt8):=[[97,114,114,97,121],[99,104,101,99,107],[101,108,115,101],[102,111,114],[102,114,111,109],[105,102],[108,101,110],[114,101,97,100],[115,107,105,112],[115,116,111,112],[116,111],[118,97,114],[119,104,105,108,101]]
def Kc:List (List UInt8):=[[43],[45],[42],[40],[41],[91],[93],[123],[125],[59],[61],[60],[62],[63],[61,61],[33,61],[60,61],[62,61]]
theorem Az7(s:List UInt8):Pure X 305 [str s] (vb (has Ui s)):=by
 refine Pure.run func305 ?_;refine Al (Az6 Ui s (by decide)) ?_;exact Az func305 rfl
theorem Aua(s:List UInt8):Pure X 311 [str s] (vb (has Kc s)):=by
 refine Pure.run func311 ?_;refine Al (Az6 Kc s (by decide)) ?_;exact Az func311 rfl
def Q9(s:List UInt8):Bool:=s.all fun c=>Em c||digit c
def nameS(s:List UInt8):Bool:=match s with
 |[]=>false
 |c::l=>decide (l.length<8)&&Em c&&!has Ui (c::l)&&Q9 (c::l)
theorem Amh(s:List UInt8)(hs:s.length≤1000000000):Pure X 279 [str s] (vb (nameS s)):=by
 refine Pure.run func279 ?_;have fin:∀{b:Bool},nameS s=b→C8 [vb b]=vb (nameS s):=fun h=>by rw[h];rfl
 cases s with
 |nil=>
  refine Hh ?_;refine Hh ?_;refine Hh ?_;refine A0 ?_;exact Az func279 rfl
 |cons c l=>
  have hsz:((⟨⟨c::l⟩⟩:ByteArray).size:Int)=(l.length:Int)+1:=by show ((c::l).length:Int)=_;simp
  refine Ii ?_ (ht:=by rw[hsz];exact Mc (by omega));refine Df (fun h1=>?_) (fun h1=>?_)
  ·refine Hh ?_;refine A0 ?_;refine Az func279 (fin ?_);have:=A5 h1;rw[hsz]at this;simp only[nameS];rw[Mc (by omega)];rfl
  ·have hl:l.length<8:=by have:=Ba h1;rw[hsz]at this;omega
   refine Jh 0 (by omega) (b:=c) rfl ?_;refine Al (Yt c) ?_;refine Df (fun h2=>?_) (fun h2=>?_)
   ·refine A0 ?_;refine Az func279 (fin ?_);have h3:Em c=false:=by simpa using h2
    simp[nameS,h3]
   have h3:Em c=true:=by simpa using h2
   refine Al (Az7 (c::l)) ?_;refine Ah (fun h4=>?_) (fun h4=>?_)
   ·refine Az func279 (fin ?_);simp[nameS,h4]
   have hn:nameS (c::l)=Q9 (c::l):=by simp[nameS,h3,h4,hl]
   rw[hn];refine Ar (ι:=Nat) 0 0 (fun i=>i≤(c::l).length∧Q9 (c::l)=Q9 ((c::l).drop i)) (fun i=>[(3,vi i),(0,str (c::l))]) (fun _=>⟨[],[]⟩) (fun i=>(c::l).length-i) ?_ 0 ⟨B3 _,rfl⟩
    ⟨rfl,rfl,trivial⟩
   intro i hi IH;refine C7 (fun h=>?_) (fun h=>?_)
   ·have hlt:i<(c::l).length:=by have:=A5 h;rw[hsz]at this;simp;omega
    obtain⟨x,hx⟩:=Ab (c::l) hlt;have hd:Q9 ((c::l).drop i)=((Em x||digit x)&&Q9 ((c::l).drop (i+1))):=by rw[B6 hx];rfl
    refine Jh i (by omega) hx ?_;refine Al (Yt x) ?_;have go:(Em x||digit x)=true→∀F' S',Sub [(3,vi (i+1:Nat)),(0,str (c::l))] F'→S'.drop 0 0=⟨[],[]⟩→Nat.ble 0 S'.boxes.length=true→Nat.ble 0 S'.toks.length=true→AK X _ _ F' S' _:=
     fun ho=>IH (i+1) ⟨hlt,by rw[hi.2,hd,ho];rfl⟩ (by omega)
    refine Df (fun h5=>?_) (fun h5=>?_)
    ·have h5':Em x=false:=by simpa using h5
     refine Jh i (by omega) hx ?_;refine Al (Ab8 x) ?_;refine Ah (fun h6=>?_) (fun h6=>?_)
     ·refine Az func279 ?_;have h6':digit x=false:=by simpa using h6
      rw[hi.2,hd,h5',h6'];rfl
     ·have h6':digit x=true:=by simpa using h6
      exact go (by rw[h6'];simp) _ _ ⟨vsx (by omega),rfl,trivial⟩ rfl rfl rfl
    ·have h5':Em x=true:=by simpa using h5
     refine Ag ?_;exact go (by rw[h5'];simp) _ _ ⟨vsx (by omega),rfl,trivial⟩ rfl rfl rfl
   ·have:i=(c::l).length:=by have:=Ba h;rw[hsz]at this;have:=hi.1;simp at *;omega
    refine Az func279 ?_;rw[hi.2,this,Hz];rfl
theorem A39(n:Int)(h0:0≤n)(h1:n<256):IntKind.u8.wrap n=n:=by
 unfold IntKind.wrap;simp[IntKind.bits,IntKind.signed];omega
def Md(n:Nat):List UInt8:=if n<10 then[UInt8.ofNat (48+n)]else Md (n/10)++[UInt8.ofNat (48+n%10)]
theorem Aww(n:Nat):(Md n).length≤n+1:=by
 induction n using Nat.strongRecOn with
 |ind n ih=>
  unfold Md;split
  ·simp
  ·have:=ih (n/10) (by omega);simp;omega
theorem A2v(n:Nat)(hn:n≤1000000000000):IntKind.i64.wrap ((n:Int).tdiv 10)=((n/10:Nat):Int):=by
 have:(n:Int).tdiv 10=((n/10:Nat):Int):=by rw[Int.tdiv_eq_ediv_of_nonneg (by omega)];omega
 rw[this];exact Ac (by omega) (by omega)
theorem W7(m:Nat)(h:m<10):IntKind.u8.wrap (IntKind.i64.wrap (48+(m:Int)))=((UInt8.ofNat (48+m)).toNat:Int):=by
 rw[Ac (by omega) (by omega),A39 _ (by omega) (by omega)];have:(UInt8.ofNat (48+m)).toNat=48+m:=by rw[UInt8.toNat_ofNat'];omega
 rw[this];simp
theorem Aj0(n:Nat)(hn:n≤1000000000):Pure X 260 [vi n] (str (Md n)):=by
 induction n using Nat.strongRecOn with
 |ind n ih=>
 refine Pure.run func260 ?_;refine Ag ?_ (ht:=Mc (by omega));refine Ag ?_ (ht:=Mc (by omega));refine Ah (fun h=>?_) (fun h=>?_)
 ·have h':=A5 h;refine Bn (Acp (s:=[UInt8.ofNat (48+n)]) rfl rfl rfl rfl rfl rfl rfl rfl rfl rfl ?_) ?_
  ·show [[_]]=[[_]]
   rw[W7 n (by omega)]
  refine Az func260 ?_;unfold Md;rw[if_pos (by omega)];rfl
 ·have h':=Ba h;have ihq:Pure X 260 [vi (IntKind.i64.wrap ((n:Int).tdiv 10))] (str (Md (n/10))):=by
   rw[A2v n (by omega)];exact ih (n/10) (by omega) (by omega)
  have hm:((n:Int).tmod 10)=((n%10:Nat):Int):=by rw[Int.tmod_eq_emod_of_nonneg (by omega)];omega
  refine De 0 (by kernel_rfl) ?_;refine Av ?_;refine Av ?_;refine Js ihq ?_;refine Av ?_;refine Av ?_;refine Av ?_;refine Av ?_;refine Tu ?_;refine Eo (fun S'=>Acp (s:=[UInt8.ofNat (48+n%10)]) rfl rfl rfl rfl rfl rfl rfl rfl rfl rfl ?_) ?_
  ·show [[_]]=[[_]]
   rw[hm,W7 (n%10) (by omega)]
  refine Eo (fun S'=>Rq rfl rfl rfl rfl rfl ?_ rfl) ?_
  ·have:=Aww (n/10);simp;omega
  refine Av ?_;refine B2 ?_;refine Az func260 ?_
  conv=>rhs;unfold Md
  rw[if_neg (by omega)];rfl
theorem cb(c d:UInt8):((c.toNat:Int)==(d.toNat:Int))=(c==d):=by
 by_cases h:c=d
 ·subst h;simp
 ·have:¬(c.toNat:Int)=(d.toNat:Int):=fun e=>h (UInt8.toNat_inj.1 (by omega));rw[beq_eq_false_iff_ne.2 h,beq_eq_false_iff_ne.2 this]
abbrev PG(f:Nat)(fn:Func)(K:List Item)(F:C5)(r:AV):Prop:=AK X ⟨f,fn,0,0⟩ K F ⟨[],[]⟩ fun e S=>e=.ret r∧S=⟨[],[]⟩
def Qt(n:Int):List UInt8→Int
 |[]=>if n>1000000 then -1 else n
 |c::l=>if digit c then Qt (10*n+c.toNat-48) l else -1
def Dp(s:List UInt8):Int:=match s with
 |[]=>-1
 |c::l=>if l.length>6 then -1 else if l.length>0&&c==48 then -1 else Qt 0 (c::l)
theorem Aa3{c:UInt8}(h:digit c=true):(48:Int)≤c.toNat∧(c.toNat:Int)≤57:=by
 simp only[digit,Bl,Dd,Ke]at h;exact h
theorem M9(c:UInt8)(l:List UInt8):((⟨⟨c::l⟩⟩:ByteArray).size:Int)=(l.length:Int)+1:=by show ((c::l).length:Int)=_;simp
theorem F9(s:List UInt8):((⟨⟨s⟩⟩:ByteArray).size:Int)=(s.length:Int):=rfl
theorem Ado(s:List UInt8):Pure X 289 [str s] (vi (Dp s)):=by
 refine Pure.run func289 ?_;have fin:∀{b:Int},Dp s=b→C8 [vi b]=vi (Dp s):=fun h=>by rw[h];rfl
 cases s with
 |nil=>
  refine Hh ?_;refine Hh ?_;refine A0 ?_;exact Az func289 rfl
 |cons c l=>
  refine Ii ?_ (ht:=by rw[M9];exact Mc (by omega));refine Df (fun h1=>?_) (fun h1=>?_)
  ·refine A0 ?_;refine Az func289 (fin ?_);have:=A5 h1;rw[M9]at this;simp only[Dp];rw[if_pos (by omega)]
  have h1':¬l.length>6:=by have:=Ba h1;rw[M9]at this;omega
  have L:Dp (c::l)=Qt 0 (c::l)→∀F,Sub [(4,vi 0),(3,vi 0),(0,str (c::l))] F→PG 289 f289 (Lm true 5 f289) F (vi (Dp (c::l))):=fun hg F hF=>by
   refine D5 ?_;refine Ar (ι:=Nat×Int) 0 0 (fun i=>i.1≤(c::l).length∧0≤i.2∧i.2<10^i.1∧Dp (c::l)=Qt i.2 ((c::l).drop i.1)) (fun i=>[(4,vi i.1),(3,vi i.2),(0,str (c::l))]) (fun _=>⟨[],[]⟩)
    (fun i=>(c::l).length-i.1) ?_ (0,0) ⟨B3 _,Int.le_refl _,by simp,hg⟩ hF
   rintro⟨i,n⟩ ⟨hi,hn0,hn1,hnum⟩ IH;simp only at hi hn0 hn1 hnum IH⊢;have hcl:(c::l).length=l.length+1:=rfl;have hpow:(10:Int)^i≤10000000:=by
    have h7:i≤7:=by simp at hi;omega
    have:=Nat.pow_le_pow_right (show 0<10 by omega) h7;have h10:((10^i:Nat):Int)≤((10^7:Nat):Int):=Int.ofNat_le.2 this;simpa using h10
   refine C7 (fun h=>?_) (fun h=>?_)
   ·have hlt:i<(c::l).length:=by have:=A5 h;rw[M9]at this;simp;omega
    obtain⟨x,hx⟩:=Ab (c::l) hlt;have hd:Qt n ((c::l).drop i)=if digit x then Qt (10*n+x.toNat-48) ((c::l).drop (i+1))else -1:=by rw[B6 hx];rfl
    refine Jh i (by omega) hx ?_;refine Al (Ab8 x) ?_;refine Ah (fun h2=>?_) (fun h2=>?_)
    ·have h2':digit x=false:=by simpa using h2
     refine Az func289 ?_;rw[hnum,hd,h2'];rfl
    ·have h2':digit x=true:=by simpa using h2
     obtain⟨d1,d2⟩:=Aa3 h2';refine Jh i (by omega) hx ?_;have hp1:(10:Int)^(i+1)=10*10^i:=by rw[Int.pow_succ];omega
     refine IH (i+1,10*n+x.toNat-48) ⟨hlt,by simp only;omega,by simp only;omega,by rw[hnum,hd,h2'];rfl⟩ (by simp only;omega) _ _ ⟨Ci ((Ac (by omega) (by omega)).trans (by simp)),Ci ?_,rfl,trivial⟩ rfl rfl rfl;rw[Ac (n:=10*n) (by omega) (by omega),Ac (n:=(x.toNat:Int)) (by omega) (by omega),Ac (n:=10*n+x.toNat) (by omega) (by omega),Ac (by omega) (by omega)]
   ·have:i=(c::l).length:=by have:=Ba h;rw[M9]at this;simp at *;omega
    have hg2:Dp (c::l)=if n>1000000 then -1 else n:=by rw[hnum,this,Hz];rfl
    refine Ah (fun h2=>?_) (fun h2=>?_)
    ·refine Az func289 ?_;rw[hg2,if_pos (A5 h2)];rfl
    ·refine Az func289 ?_;rw[hg2,if_neg (Ba h2)];rfl
  refine Df (fun h2=>?_) (fun h2=>?_)
  ·have h2':l.length>0:=by have:=A5 h2;rw[M9]at this;omega
   refine Jh 0 (by omega) (b:=c) rfl ?_;refine Ah (fun h3=>?_) (fun h3=>?_)
   ·refine Az func289 (fin ?_);have h3':(c==48)=true:=by rw[←cb];exact h3
    simp only[Dp];rw[if_neg h1',h3',if_pos (by simp[h2'])]
   ·have h3':(c==48)=false:=by rw[←cb];exact h3
    refine L (by simp only[Dp];rw[if_neg h1',h3'];simp) _ ?_;exact⟨rfl,rfl,rfl,trivial⟩
  ·have h2':¬l.length>0:=by have:=Ba h2;rw[M9]at this;omega
   refine Ag ?_;refine L (by simp only[Dp];rw[if_neg h1',if_neg (by simp[h2'])]) _ ?_;exact⟨rfl,rfl,rfl,trivial⟩
def Di(s:List UInt8):Int:=if has Ui s then 4 else if nameS s then 1 else if Dp s≥0 then 2 else if has Kc s then 3 else 0
theorem A13(s:List UInt8)(hs:s.length≤1000000000):Pure X 284 [str s] (vi (Di s)):=by
 refine Pure.run func284 ?_;refine Al (Az7 s) ?_;refine Ah (fun h1=>?_) (fun h1=>?_)
 ·refine Az func284 ?_;simp[Di,h1,C8]
 refine Al (Amh s hs) ?_;refine Ah (fun h2=>?_) (fun h2=>?_)
 ·refine Az func284 ?_;simp[Di,h1,h2,C8]
 refine Al (Ado s) ?_;refine Ah (fun h3=>?_) (fun h3=>?_)
 ·refine Az func284 ?_;have:=A5 h3;simp[Di,h1,h2,this,C8]
 have h3':=Ba h3;refine Al (Aua s) ?_;refine Ah (fun h4=>?_) (fun h4=>?_)
 ·refine Az func284 ?_;simp only[Di,h1,h2,h4,if_neg h3',C8];rfl
 ·refine Az func284 ?_;simp only[Di,h1,h2,h4,if_neg h3',C8];rfl
def Cd:Bool→List UInt8→Nat
 |_,[]=>0
 |false,c::l=>if c==32||c==10 then 1+Cd false l else if c==35 then 1+Cd true l else 0
 |true,c::l=>if c==10 then 1+Cd false l else 1+Cd true l
theorem Yz:∀(l:List UInt8)(b:Bool),Cd b l≤l.length
 |[],b=>by cases b<;>simp[Cd]
 |c::l,b=>by
  have h1:=Yz l false;have h2:=Yz l true;cases b
  ·simp only[Cd,Nn]
   repeat' split
   all_goals omega
  ·simp only[Cd,Nn]
   repeat' split
   all_goals omega
theorem Aub(s:List UInt8)(a:Nat)(ha:a≤s.length)(hs:s.length≤1000000000):Pure X 282 [str s,vi a] (vi (a+Cd false (s.drop a):Nat)):=by
 refine Pure.run func282 ?_;generalize hT:a+Cd false (s.drop a)=T;refine Ar (ι:=Nat) 0 0 (fun i=>i≤s.length∧T=i+Cd false (s.drop i)) (fun i=>[(1,vi i),(0,str s)]) (fun _=>⟨[],[]⟩) (fun i=>s.length-i) ?_ a ⟨ha,hT.symm⟩
  ⟨rfl,rfl,trivial⟩
 intro i hi IH;refine C7 (fun h=>?_) (fun h=>?_)
 ·have hlt:i<s.length:=by have:=A5 h;rw[F9]at this;omega
  obtain⟨x,hx⟩:=Ab s hlt;have hd:Cd false (s.drop i)=if x==32||x==10 then 1+Cd false (s.drop (i+1))else if x==35 then 1+Cd true (s.drop (i+1))else 0:=by rw[B6 hx];rfl
  have hd2:Cd true (s.drop i)=if x==10 then 1+Cd false (s.drop (i+1))else 1+Cd true (s.drop (i+1)):=by rw[B6 hx];rfl
  refine Jh i (by omega) hx ?_;refine Df (fun h2=>?_) (fun h2=>?_)
  ·have h2':(x==32)=true:=by rw[←cb];exact h2
   refine A0 ?_;exact IH (i+1) ⟨hlt,by rw[hi.2,hd,h2'];simp;omega⟩ (by omega) _ _ ⟨vsx (by omega),rfl,trivial⟩ rfl rfl rfl
  ·have h2':(x==32)=false:=by rw[←cb];exact h2
   refine Jh i (by omega) hx ?_;refine Ah (fun h3=>?_) (fun h3=>?_)
   ·have h3':(x==10)=true:=by rw[←cb];exact h3
    exact IH (i+1) ⟨hlt,by rw[hi.2,hd,h2',h3'];simp;omega⟩ (by omega) _ _ ⟨vsx (by omega),rfl,trivial⟩ rfl rfl rfl
   ·have h3':(x==10)=false:=by rw[←cb];exact h3
    refine Jh i (by omega) hx ?_;refine Ah (fun h4=>?_) (fun h4=>?_)
    ·have h4':(x==35)=true:=by rw[←cb];exact h4
     refine Ar (ι:=Nat) 0 0 (fun j=>i≤j∧j≤s.length∧T=j+Cd true (s.drop j)) (fun j=>[(1,vi j),(0,str s)]) (fun _=>⟨[],[]⟩) (fun j=>s.length-j) ?_ i
      ⟨Bo _,hi.1,by rw[hi.2,hd,hd2,h2',h3',h4'];rfl⟩ ⟨rfl,rfl,trivial⟩
     intro j hj IH2;obtain⟨hj1,hj2,hj3⟩:=hj;refine Bi 100 rfl ?_;refine Df (fun h5=>?_) (fun h5=>?_)
     ·have hltj:j<s.length:=by have:=A5 h5;rw[F9]at this;omega
      obtain⟨y,hy⟩:=Ab s hltj;have hdj:Cd true (s.drop j)=if y==10 then 1+Cd false (s.drop (j+1))else 1+Cd true (s.drop (j+1)):=by rw[B6 hy];rfl
      have hdf:(y==10)=true→Cd false (s.drop j)=1+Cd false (s.drop (j+1)):=fun hy10=>by rw[B6 hy];simp only[Cd];rw[hy10];simp
      refine Jh j (by omega) hy ?_;refine Ah (fun h6=>?_) (fun h6=>?_)
      ·have h6':(y==10)=false:=by rw[←cb];have:(!((y.toNat:Int)==10))=true:=h6;simpa using this
       exact IH2 (j+1) ⟨by omega,hltj,by rw[hj3,hdj,h6'];simp;omega⟩ (by omega) _ _ ⟨vsx (by omega),rfl,trivial⟩ rfl rfl rfl
      ·have h6':(y==10)=true:=by rw[←cb];have:(!((y.toNat:Int)==10))=false:=h6;simpa using this
       have hne:i≠j:=fun e=>by
        subst e;rw[hx]at hy;cases hy;rw[h3']at h6';cases h6'
       exact IH j ⟨hj2,by rw[hj3,hdj,h6',hdf h6'];rfl⟩ (by omega) _ _ ⟨rfl,rfl,trivial⟩ rfl rfl rfl
     ·have hje:j=s.length:=by have:=Ba h5;rw[F9]at this;omega
      refine Ag ?_;exact IH j ⟨hj2,by rw[hj3,hje,Hz];rfl⟩ (by omega) _ _ ⟨rfl,rfl,trivial⟩ rfl rfl rfl
    ·have h4':(x==35)=false:=by rw[←cb];exact h4
     refine Az func282 ?_;rw[hi.2,hd,h2',h3',h4'];rfl
 ·have hie:i=s.length:=by have:=Ba h;rw[F9]at this;omega
  refine Az func282 ?_;rw[hi.2,hie,Hz];rfl
def Gx:List UInt8→Nat
 |[]=>0
 |c::l=>if Em c||digit c then 1+Gx l else 0
def Ll(r:List UInt8):Nat:=match r with
 |[]=>0
 |c::l=>if Em c||digit c then Gx (c::l)else match l with
  |[]=>1
  |d::_=>if has Kc [c,d]then 2 else 1
theorem A37(s:List UInt8)(a:Nat)(ha:a<s.length)(hs:s.length≤1000000000):Pure X 283 [str s,vi a] (vi (a+Ll (s.drop a):Nat)):=by
 refine Pure.run func283 ?_;generalize hT:a+Ll (s.drop a)=T;obtain⟨c,hc⟩:=Ab s ha;have hd:=B6 hc;have L:(Em c||digit c)=true→∀F,Sub [(1,vi a),(0,str s)] F→PG 283 f283 (Lm true 2 f283) F (vi T):=fun hw F hF=>by
  have hT':T=a+Gx (s.drop a):=by rw[←hT,hd];simp only[Ll];rw[hw];rfl
  refine D5 ?_;refine Ar (ι:=Nat) 0 0 (fun i=>i≤s.length∧T=i+Gx (s.drop i)) (fun i=>[(1,vi i),(0,str s)]) (fun _=>⟨[],[]⟩) (fun i=>s.length-i) ?_ a ⟨by omega,hT'⟩
   hF
  intro i hi IH;refine Bi 100 rfl ?_;refine Df (fun h5=>?_) (fun h5=>?_)
  ·have hlt:i<s.length:=by have:=A5 h5;rw[F9]at this;omega
   obtain⟨y,hy⟩:=Ab s hlt;have hdi:Gx (s.drop i)=if Em y||digit y then 1+Gx (s.drop (i+1))else 0:=by rw[B6 hy];rfl
   refine Jh i (by omega) hy ?_;refine Al (Yt y) ?_;refine Df (fun h6=>?_) (fun h6=>?_)
   ·refine A0 ?_;exact IH (i+1) ⟨hlt,by rw[hi.2,hdi,h6];simp;omega⟩ (by omega) _ _ ⟨vsx (by omega),rfl,trivial⟩ rfl rfl rfl
   ·refine Jh i (by omega) hy ?_;refine Al (Ab8 y) ?_;refine Ah (fun h7=>?_) (fun h7=>?_)
    ·exact IH (i+1) ⟨hlt,by rw[hi.2,hdi,h7];simp;omega⟩ (by omega) _ _ ⟨vsx (by omega),rfl,trivial⟩ rfl rfl rfl
    ·refine Az func283 ?_;rw[hi.2,hdi,h6,h7];rfl
  ·have hie:i=s.length:=by have:=Ba h5;rw[F9]at this;omega
   refine Ag ?_;refine Az func283 ?_;rw[hi.2,hie,Hz];rfl
 refine Jh a (by omega) hc ?_;refine Al (Yt c) ?_;refine Df (fun h1=>?_) (fun h1=>?_)
 ·refine A0 ?_;refine L (by rw[h1];rfl) _ ?_;exact⟨rfl,rfl,trivial⟩
 ·refine Jh a (by omega) hc ?_;refine Al (Ab8 c) ?_;refine Ah (fun h2=>?_) (fun h2=>?_)
  ·refine L (by rw[h2];simp) _ ?_;exact⟨rfl,rfl,trivial⟩
  ·have hw1:IntKind.i64.wrap ((a:Int)+1)=(a:Int)+1:=Ac (by omega) (by omega);have hw2:IntKind.i64.wrap ((a:Int)+2)=(a:Int)+2:=Ac (by omega) (by omega);have hTT:T=a+(match s.drop (a+1)with
    |[]=>1
    |d::_=>if has Kc [c,d]then 2 else 1):=by rw[←hT,hd];simp only[Ll];rw[h1,h2];rfl
   refine Df (fun h3=>?_) (fun h3=>?_)
   ·have hlt:a+1<s.length:=by have:=A5 h3;rw[hw1,F9]at this;omega
    obtain⟨d,hdd⟩:=Ab s hlt;rw[B6 hdd]at hTT;simp only at hTT;refine Bn (Pj (r:=[c,d]) rfl rfl rfl rfl rfl rfl rfl rfl ?_ ?_ ?_ ?_) ?_
    ·omega
    ·rw[hw2];omega
    ·rw[hw2];omega
    ·rw[hw2];have e1:((a:Int)+2).toNat=a+2:=by omega
     have e2:(a:Int).toNat=a:=by omega
     rw[e1,e2,List.drop_take,hd,B6 hdd];have e3:a+2-a=2:=by omega
     rw[e3];rfl
    refine Al (Aua [c,d]) ?_;refine Ah (fun h4=>?_) (fun h4=>?_)
    ·refine Az func283 ?_;rw[hTT,h4,hw2];simp[C8]
    ·refine Az func283 ?_;rw[hTT,h4,hw1];simp[C8]
   ·have hge:s.length≤a+1:=by have:=Ba h3;rw[hw1,F9]at this;omega
    refine Ag ?_;refine Az func283 ?_;rw[hTT,Aef hge,hw1];simp[C8]
structure Wd where
 kind:Int
 text:List UInt8
 pos:Nat
def U8(w:Wd):List AV:=[vi w.kind,str w.text,vi w.pos]
def Hk(l:List Wd):List (List AV):=l.map U8
theorem D2(l:List Wd):(Hk l).length=l.length:=by simp[Hk]
theorem Ad7(l:List Wd):Kf 3 (Hk l)=true:=Kx (f:=U8) (fun _=>rfl) l
theorem Rb{l:List Wd}{i:Nat}{w:Wd}(h:l[i]?=some w):(Hk l)[i]?=some (U8 w):=by simp[Hk,h]
instance{n m:Nat}{l:List Wd}:OKR n m (Hk l):=⟨fun r hr x hx=>by
 obtain⟨s,_,rfl⟩:=zzq66.1 hr;simp[U8]at hx;rcases hx with rfl|rfl|rfl<;>exact .val _⟩
def Hg:Nat→Nat→List UInt8→List Wd→List Wd×Int×Nat
 |0,_,_,out=>(out,0,0)
 |f+1,a,r,out=>match r with
  |[]=>(out,0,0)
  |c::l=>
   let n:=Ll (c::l)
   let t:=(c::l).take n
   let k:=Di t
   if k==0 then([],2,a)else if out.length==1500 then([],3,a)else
    let b:=Cd false ((c::l).drop n)
    Hg f (a+n+b) ((c::l).drop (n+b)) (out++[⟨k,t,a⟩])
def C4(s:List UInt8):List Wd×Int×Nat:=
 if s.length>4000 then([],1,0)else Hg (s.length+1) (Cd false s) (s.drop (Cd false s)) []
def A27(o:List Wd×Int×Nat):AV:=.tup [.sl (Hk o.1) .no,.agg [vi o.2.1,vi o.2.2]]
theorem Xu:∀l:List UInt8,Gx l≤l.length
 |[]=>by simp[Gx]
 |c::l=>by
  have:=Xu l;simp only[Gx,Nn];split<;>omega
theorem Anu(c:UInt8)(l:List UInt8):1≤Ll (c::l)∧Ll (c::l)≤(c::l).length:=by
 simp only[Ll];split
 ·rename_i h;refine⟨?_,Xu _⟩;simp only[Gx];rw[if_pos h];omega
 ·cases l with
  |nil=>simp
  |cons d l=>simp only;split<;>simp
theorem Ayc(s:List UInt8)(hs:s.length≤1000000000):Pure X 262 [str s] (A27 (C4 s)):=by
 refine Pure.run func262 ?_;refine Ah (fun h=>?_) (fun h=>?_)
 ·refine As func262 ?_;have:=A5 h;rw[F9]at this;simp only[C4];rw[if_pos (by omega)];rfl
 have hlen:¬s.length>4000:=by have:=Ba h;rw[F9]at this;omega
 generalize hT:C4 s=T;have hT':T=Hg (s.length+1) (Cd false s) (s.drop (Cd false s)) []:=by rw[←hT];simp only[C4];rw[if_neg hlen]
 refine Al (Aub s 0 (B3 _) hs) ?_;refine N2 (d:=4) rfl rfl rfl ?_;have hsk:=Yz s false;refine Ar (ι:=Nat×List Wd) 1 1 (fun i=>i.1≤s.length∧i.2.length≤1500∧∃f,s.length-i.1<f∧T=Hg f i.1 (s.drop i.1) i.2) (fun i=>[(5,vi i.1),(4,.sl (Hk i.2) (.tok 0)),(0,str s),(3,.ptr 0 0 0)])
  (fun i=>⟨[[[vi 0,vi 0]]],[i.2.length]⟩) (fun i=>s.length-i.1) ?_ (Cd false s,[]) ⟨hsk,B3 _,s.length+1,by simp only;omega,hT'⟩
  ⟨by simp[lk],rfl,rfl,rfl,trivial⟩
 rintro⟨a,out⟩ ⟨ha,hout,f,hf,hTa⟩ IH;simp only at ha hout hf hTa IH⊢;refine C7 (fun h=>?_) (fun h=>?_)
 ·have hlt:a<s.length:=by have:=A5 h;rw[F9]at this;omega
  obtain⟨c,hc⟩:=Ab s hlt;have hd:=B6 hc;obtain⟨g,rfl⟩:∃g,f=g+1:=⟨f-1,by omega⟩
  obtain⟨n,hn⟩:∃n,Ll (s.drop a)=n:=⟨_,rfl⟩
  have hbd:=Anu c (s.drop (a+1));rw[←hd,hn]at hbd;have hdl:(s.drop a).length=s.length-a:=by simp
  rw[hdl]at hbd;obtain⟨t,ht⟩:∃t,(s.drop a).take n=t:=⟨_,rfl⟩
  have htl:t.length≤1000000000:=by rw[←ht];simp;omega
  have hstep:T=if Di t==0 then([],2,a)else if out.length==1500 then([],3,a)else
   Hg g (a+n+Cd false (s.drop (a+n))) (s.drop (a+n+Cd false (s.drop (a+n)))) (out++[⟨Di t,t,a⟩]):=by
   rw[hTa]
   conv=>lhs;unfold Hg
   rw[hd];simp only;rw[←hd,hn,ht,Aed,Aed];rw[show a+(n+Cd false (s.drop (a+n)))=a+n+Cd false (s.drop (a+n)) by omega]
  have sub:∀{F:C5} {ops:Array Oper} {i:Nat} {o:Oper} {ty:Nat} {p:Operand} {lo hi:Option Operand} {y:Ty} (ho:ops[i]?=some o) (hw:A8 ops F o=some true) (hop:o.op=.slice ty p lo hi none)
   (hp:Dw X F p=some (str s))(hlo:Tl X F lo 0=some (a:Int))(hhi:Tl X F hi (s.length:Int)=some ((a+Ll (s.drop a):Nat):Int))(hy:X.ty ty=some y)(hyk:y.k=.string){N:Nat}{S:St},Ndo X N ops i o F (str t) S S:=
   fun{F ops i o ty p lo hi y} ho hw hop hp hlo hhi hy hyk {N S}=>by
    refine Pj ho hw hop hp hlo hhi hy hyk ?_ ?_ ?_ ?_
    ·omega
    ·rw[hn];omega
    ·rw[hn];omega
    ·have e1:(((a+Ll (s.drop a):Nat):Int)).toNat=a+n:=by rw[hn];omega
     have e2:(a:Int).toNat=a:=by omega
     rw[e1,e2,List.drop_take,show a+n-a=n by omega,ht]
  refine Al (A37 s a hlt hs) ?_;refine Bn (sub rfl rfl rfl rfl rfl rfl rfl rfl) ?_;refine Al (A13 t htl) ?_;refine Ah (fun h2=>?_) (fun h2=>?_)
  ·have h2':(Di t==0)=true:=h2;refine As func262 ?_;rw[hstep,h2'];rfl
  have h2':(Di t==0)=false:=h2;refine Ah (fun h3=>?_) (fun h3=>?_)
  ·have h3':(out.length==1500)=true:=by
    have:(((Hk out).length:Int)==1500)=true:=h3;rw[D2]at this;simp at this⊢;omega
   refine As func262 ?_;rw[hstep,h2',h3'];rfl
  have h3':(out.length==1500)=false:=by
   have:(((Hk out).length:Int)==1500)=false:=h3;rw[D2]at this;simp at this⊢;omega
  have h3'':out.length≠1500:=by simpa using h3'
  refine Bn (sub rfl rfl rfl rfl rfl rfl rfl rfl) ?_;refine Bn (Bu (res:=Hk (out++[⟨Di t,t,a⟩])) rfl rfl rfl rfl rfl rfl rfl rfl rfl rfl rfl rfl rfl rfl (D2 out) (Ad7 out) rfl rfl rfl ?_ ?_ rfl) ?_
  ·rw[D2];simp;omega
  ·simp[Hk,U8]
  have hsl:a+Ll (s.drop a)≤s.length:=by rw[hn];omega
  refine Al (Aub s (a+Ll (s.drop a)) hsl hs) ?_;have hsk2:=Yz (s.drop (a+n)) false;have hdl2:(s.drop (a+n)).length=s.length-(a+n):=by simp
  rw[hdl2]at hsk2;refine IH (a+n+Cd false (s.drop (a+n)),out++[⟨Di t,t,a⟩]) ⟨by simp only;omega,by simp;omega,g,by simp only;omega,by rw[hstep,h2',h3'];rfl⟩ (by simp only;omega) _ _ ⟨?_,rfl,rfl,rfl,trivial⟩ ?_ rfl rfl
  ·rw[←hn];rfl
  ·simp[St.drop,D2]
 ·have hae:a=s.length:=by have:=Ba h;rw[F9]at this;omega
  refine As func262 ?_;obtain⟨g,rfl⟩:∃g,f=g+1:=⟨f-1,by omega⟩
  rw[hTa,hae,Hz];rfl
theorem Vz(n lo hi:Int):Pure X 108 [vi n,vi lo,vi hi] (vb (Bl n lo hi)):=by
 refine Pure.run func108 ?_;refine Df (fun h=>?_) (fun h=>?_)
 ·refine Az func108 ?_;simp_all [Bl,C8]
 ·refine Az func108 ?_;simp_all [Bl,C8];omega
theorem Aow(n:Int):Pure X 132 [vi n] (vb (Bl n (-1000000) 1000000)):=by
 refine Pure.run func132 ?_;refine Al (Vz n (-1000000) 1000000) ?_;exact Az func132 rfl
theorem Aqz(n m:Int)(hm:-1000000000≤m)(hm':m≤1000000000):Pure X 53 [vi n,vi m] (vb (Bl n 0 (m-1))):=by
 refine Pure.run func53 ?_;have hw:IntKind.i64.wrap (m-1)=m-1:=Ac (by omega) (by omega);have hq:=Vz n 0 (IntKind.i64.wrap (m-1));refine Al hq ?_;refine Az func53 ?_;rw[hw];rfl
theorem Adt(c:UInt8):Pure X 340 [vc c] (vb (Em c)):=by
 refine Pure.run func340 ?_;refine Df (fun h=>?_) (fun h=>?_)
 ·refine Az func340 ?_;simp_all [Em,Bl,C8]
 ·refine Az func340 ?_;simp_all [Em,Bl,C8];omega
theorem Aic(c:UInt8):Pure X 341 [vc c] (vb (digit c)):=by
 refine Pure.run func341 ?_;refine Df (fun h=>?_) (fun h=>?_)
 ·refine Az func341 ?_;simp_all [digit,Bl,C8]
 ·refine Az func341 ?_;simp_all [digit,Bl,C8];omega
def E6:Nat→List (List UInt8)→List UInt8→Int
 |_,[],_=>-1
 |i,x::l,s=>if s==x then i else E6 (i+1) l s
theorem Ug(l:List (List UInt8)):∀(i:Nat)(s:List UInt8),decide (E6 i l s≥0)=has l s:=by
 induction l with
 |nil=>intro i s;simp[E6,has]
 |cons x l ih=>
  intro i s;have hb:has (x::l) s=(x==s||has l s):=rfl;rw[hb,←ih (i+1) s];by_cases h:s=x
  ·subst h;simp[E6]
  ·have h1:(s==x)=false:=by simpa using h
   have h2:(x==s)=false:=by simpa using Ne.symm h
   have:E6 i (x::l) s=E6 (i+1) l s:=by simp only[E6];rw[if_neg (by simpa using h)]
   rw[this,h2];rfl
theorem Acb(l:List (List UInt8))(s:List UInt8)(hl:l.length≤1000000000):Pure X 109 [.sl (Dl l) .no,str s] (vi (E6 0 l s)):=by
 refine Pure.run func109 ?_;refine Ar (ι:=Nat) 0 0 (fun i=>i≤l.length∧E6 0 l s=E6 i (l.drop i) s) (fun i=>[(8,vi i),(7,vi l.length),(0,.sl (Dl l) .no),(1,str s)]) (fun _=>⟨[],[]⟩) (fun i=>l.length-i) ?_ 0 ⟨B3 _,rfl⟩
  ⟨rfl,by rw[←F6];rfl,rfl,rfl,trivial⟩
 intro i hi IH;refine C7 (fun h=>?_) (fun h=>?_)
 ·have hlt:i<l.length:=by have:=A5 h;omega
  obtain⟨x,hx⟩:=Ab l hlt;have hd:E6 i (l.drop i) s=if s==x then(i:Int)else E6 (i+1) (l.drop (i+1)) s:=by rw[B6 hx];rfl
  refine B4 i (by omega) (Q5 hx) ?_;refine Ah (fun h2=>?_) (fun h2=>?_)
  ·refine Az func109 ?_;have h3:(s==x)=true:=h2;rw[hi.2,hd,h3];rfl
  ·have h3:(s==x)=false:=h2;exact IH (i+1) ⟨hlt,by rw[hi.2,hd,h3];rfl⟩ (by omega) _ _ ⟨vsx (by omega),rfl,rfl,rfl,trivial⟩ rfl rfl rfl
 ·have:i=l.length:=by have:=Ba h;omega
  refine Az func109 ?_;rw[hi.2,this,Hz];rfl
theorem Su(l:List (List UInt8))(s:List UInt8)(hl:l.length≤1000000000):Pure X 344 [.sl (Dl l) .no,str s] (vb (has l s)):=by
 refine Pure.run func344 ?_;refine Al (Acb l s hl) ?_;refine Az func344 ?_;rw[←Ug l 0 s];rfl
theorem Ayn(s:List UInt8):Pure X 342 [str s] (vb (has Ui s)):=by
 refine Pure.run func342 ?_;refine Al (Su Ui s (by decide)) ?_;exact Az func342 rfl
def rd(ws:List Wd)(a:Int)(bad:Bool):List AV:=[.sl (Hk ws) .no,vi a,vb bad]
instance{n m:Nat}{ws:List Wd}{a:Int}{b:Bool}:OKL n m (rd ws a b):=⟨fun x hx=>by
 simp[rd]at hx;rcases hx with rfl|rfl|rfl
 ·exact(inferInstance:OK n m (.sl (Hk ws) .no)).ok
 ·exact .val _
 ·exact .val _⟩
structure RS where
 ws:List Wd
 at_:Nat
 bad:Bool
def rc(r:RS):List AV:=rd r.ws r.at_ r.bad
instance{n m:Nat}{r:RS}:OKL n m (rc r):=⟨(inferInstance:OKL n m (rd r.ws r.at_ r.bad)).ok⟩
def RS.text(r:RS):List UInt8:=match r.ws[r.at_]? with
 |some w=>w.text
 |none=>[]
def RS.kind(r:RS):Int:=match r.ws[r.at_]? with
 |some w=>w.kind
 |none=>0
def RS.step(r:RS):RS:=⟨r.ws,r.at_+1,r.bad⟩
def RS.spoil(r:RS):RS:=⟨r.ws,r.at_,true⟩
def RS.takes(r:RS)(s:List UInt8):Bool:=!(r.bad||!(r.text==s))
def RS.take(r:RS)(s:List UInt8):RS:=if r.takes s then r.step else r
def RS.need(r:RS)(s:List UInt8):RS:=if r.takes s then r.step else r.spoil
def RS.named(r:RS):Bool:=!(r.bad||!(r.kind==1))
def RS.name(r:RS):List UInt8:=if r.named then r.text else[]
def RS.nameR(r:RS):RS:=if r.named then r.step else r.spoil
def RS.ok(r:RS):Prop:=r.ws.length≤1500∧r.at_≤r.ws.length
theorem Aie(r:RS):Hands X 290 [.ptr 0 0 0] ⟨[[rc r]],[]⟩ (str r.text) ⟨[[rc r]],[]⟩:=by
 obtain⟨ws,a,b⟩:=r;refine Hands.run func290 ?_;refine Ana ?_;refine Ah (fun h=>?_) (fun h=>?_)
 ·have hlt:a<ws.length:=by have:=A5 h;simp only at this;rw[D2]at this;omega
  obtain⟨x,hx⟩:=Ab ws hlt;refine D8 0 ?_;refine Eo (fun S'=>Cu (r:=U8 x) rfl rfl rfl rfl rfl rfl rfl rfl rfl ?_ ?_) ?_
  ·simp
  ·exact Rb hx
  refine Fx ?_;refine B2 ?_;refine Bq func290 ?_ rfl;simp[RS.text,hx]
 ·have hge:¬a<ws.length:=by have:=Ba h;simp only at this;rw[D2]at this;omega
  refine Bq func290 ?_ rfl;simp[RS.text,U9 (show ws.length≤a by omega)]
theorem Amr(r:RS):Hands X 288 [.ptr 0 0 0] ⟨[[rc r]],[]⟩ (vi r.kind) ⟨[[rc r]],[]⟩:=by
 obtain⟨ws,a,b⟩:=r;refine Hands.run func288 ?_;refine Ana ?_;refine Ah (fun h=>?_) (fun h=>?_)
 ·have hlt:a<ws.length:=by have:=A5 h;simp only at this;rw[D2]at this;omega
  obtain⟨x,hx⟩:=Ab ws hlt;refine D8 0 ?_;refine Eo (fun S'=>Cu (r:=U8 x) rfl rfl rfl rfl rfl rfl rfl rfl rfl ?_ ?_) ?_
  ·simp
  ·exact Rb hx
  refine Fx ?_;refine B2 ?_;refine Bq func288 ?_ rfl;simp[RS.kind,hx]
 ·have hge:¬a<ws.length:=by have:=Ba h;simp only at this;rw[D2]at this;omega
  refine Bq func288 ?_ rfl;simp[RS.kind,U9 (show ws.length≤a by omega)]
theorem Acc(r:RS)(hr:r.ok):rd r.ws (IntKind.i64.wrap ((r.at_:Int)+1)) r.bad=rc r.step:=by
 have:=hr.2;have:=hr.1;simp only[rc,RS.step,rd];rw[Ac (by omega) (by omega)];simp
theorem I5(r:RS)(s:List UInt8)(hr:r.ok):Hands X 285 [.ptr 0 0 0,str s] ⟨[[rc r]],[]⟩ (vb (r.takes s)) ⟨[[rc (r.take s)]],[]⟩:=by
 refine Hands.run func285 ?_;refine Df (fun h=>?_) (fun h=>?_)
 ·have h':r.bad=true:=h;refine A0 ?_;have ht:r.takes s=false:=by simp[RS.takes,h']
  have hk:r.take s=r:=by simp[RS.take,ht]
  rw[ht,hk];exact Bq func285 rfl rfl
 ·have h':r.bad=false:=h;refine Ae [0] [] (Aie r) ?_;refine Ah (fun h2=>?_) (fun h2=>?_)
  ·have h2':(!(r.text==s))=true:=h2;have ht:r.takes s=false:=by simp only[RS.takes];rw[h',h2'];rfl
   have hk:r.take s=r:=by simp[RS.take,ht]
   rw[ht,hk];exact Bq func285 rfl rfl
  ·have h2':(!(r.text==s))=false:=h2;have ht:r.takes s=true:=by simp only[RS.takes];rw[h',h2'];rfl
   have hk:r.take s=r.step:=by simp[RS.take,ht]
   rw[ht,hk,←Acc r hr];exact Bq func285 rfl rfl
theorem Ig(r:RS)(s:List UInt8)(hr:r.ok):Hands X 287 [.ptr 0 0 0,str s] ⟨[[rc r]],[]⟩ (.tup []) ⟨[[rc (r.need s)]],[]⟩:=by
 refine Hands.run func287 ?_;refine Ae [0] [] (I5 r s hr) ?_;refine Ah (fun h=>?_) (fun h=>?_)
 ·have ht:r.takes s=false:=by simpa using h
  have hk:r.take s=r:=by simp[RS.take,ht]
  have hn:r.need s=r.spoil:=by simp[RS.need,ht]
  rw[hn];refine Ec func287 rfl ?_;rw[hk];rfl
 ·have ht:r.takes s=true:=by simpa using h
  have hk:r.take s=r.need s:=by simp[RS.take,RS.need,ht]
  rw[←hk];exact Ec func287 rfl rfl
theorem Ao2(r:RS)(h:r.kind≠0):∃w,r.ws[r.at_]?=some w∧r.kind=w.kind∧r.text=w.text:=by
 cases hw:r.ws[r.at_]? with
 |none=>simp[RS.kind,hw]at h
 |some w=>exact⟨w,rfl,by simp[RS.kind,hw],by simp[RS.text,hw]⟩
theorem Azy(a:Nat)(ha:a≤1000000):IntKind.i64.wrap (IntKind.i64.wrap ((a:Int)+1)-1)=(a:Int):=by
 rw[Ac (n:=(a:Int)+1) (by omega) (by omega),Ac (by omega) (by omega)];omega
theorem Xl(r:RS)(hr:r.ok):Hands X 286 [.ptr 0 0 0] ⟨[[rc r]],[]⟩ (str r.name) ⟨[[rc r.nameR]],[]⟩:=by
 have bad:r.named=false→r.name=[]∧r.nameR=r.spoil:=fun h=>⟨by simp[RS.name,h],by simp[RS.nameR,h]⟩
 refine Hands.run func286 ?_;refine Df (fun h=>?_) (fun h=>?_)
 ·have h':r.bad=true:=h;obtain⟨b1,b2⟩:=bad (by simp[RS.named,h']);refine A0 ?_;rw[b1,b2];exact Bq func286 rfl rfl
 ·have h':r.bad=false:=h;refine Ae [0] [] (Amr r) ?_;refine Ah (fun h2=>?_) (fun h2=>?_)
  ·have h2':(!(r.kind==1))=true:=h2;obtain⟨b1,b2⟩:=bad (by simp only[RS.named];rw[h',h2'];rfl);rw[b1,b2];exact Bq func286 rfl rfl
  ·have h2':(!(r.kind==1))=false:=h2;have hn:r.named=true:=by simp only[RS.named];rw[h',h2'];rfl
   have hk:r.kind=1:=by simpa using h2'
   obtain⟨w,hw,_,hwt⟩:=Ao2 r (by omega);have e1:r.name=w.text:=by simp[RS.name,hn,hwt]
   have e2:r.nameR=r.step:=by simp[RS.nameR,hn]
   have hb:=Azy r.at_ (by have:=hr.2;have:=hr.1;omega);rw[e1,e2,←Acc r hr];refine D8 0 ?_;refine Eo (fun S'=>Cu (r:=U8 w) rfl rfl rfl rfl rfl rfl rfl rfl rfl ?_ ?_) ?_
   ·rw[hb];omega
   ·rw[hb];exact Rb hw
   refine Fx ?_;refine B2 ?_;exact Bq func286 rfl rfl
abbrev nd(n:Nd):AV:=.agg (Af n)
theorem Aoq(k:Int)(a:Nd):Pure X 270 [vi k,nd a] (nd (.mk k [] 0 [a])):=by
 refine Pure.run func270 ?_;refine As func270 ?_;show AV.agg [_,_,_,.sl _ _]=AV.agg [_,_,_,.sl (Ap [a]) _];rw[Au [a]];rfl
theorem Yv(k:Int)(a b:Nd):Pure X 231 [vi k,nd a,nd b] (nd (.mk k [] 0 [a,b])):=by
 refine Pure.run func231 ?_;refine As func231 ?_;show AV.agg [_,_,_,.sl _ _]=AV.agg [_,_,_,.sl (Ap [a,b]) _];rw[Au [a,b]];rfl
def relS(s:List UInt8):Int:=if s==[60]then 11 else if s==[60,61]then 12 else if s==[62]then 13 else if s==[62,61]then 14 else if s==[61,61]then 15 else if s==[33,61]then 16 else 0
theorem A4a(s:List UInt8):Pure X 353 [str s] (vi (relS s)):=by
 refine Pure.run func353 ?_;refine Ah (fun h1=>?_) (fun h1=>?_)
 ·refine Az func353 ?_;have h1':(s==[60])=true:=h1;simp only[relS];rw[h1'];rfl
 refine Ah (fun h2=>?_) (fun h2=>?_)
 ·refine Az func353 ?_;have h1':(s==[60])=false:=h1;have h2':(s==[60,61])=true:=h2;simp only[relS];rw[h1',h2'];rfl
 refine Ah (fun h3=>?_) (fun h3=>?_)
 ·refine Az func353 ?_;have h1':(s==[60])=false:=h1;have h2':(s==[60,61])=false:=h2;have h3':(s==[62])=true:=h3;simp only[relS];rw[h1',h2',h3'];rfl
 refine Ah (fun h4=>?_) (fun h4=>?_)
 ·refine Az func353 ?_;have h1':(s==[60])=false:=h1;have h2':(s==[60,61])=false:=h2;have h3':(s==[62])=false:=h3;have h4':(s==[62,61])=true:=h4;simp only[relS];rw[h1',h2',h3',h4'];rfl
 refine Ah (fun h5=>?_) (fun h5=>?_)
 ·refine Az func353 ?_;have h1':(s==[60])=false:=h1;have h2':(s==[60,61])=false:=h2;have h3':(s==[62])=false:=h3;have h4':(s==[62,61])=false:=h4;have h5':(s==[61,61])=true:=h5;simp only[relS];rw[h1',h2',h3',h4',h5'];rfl
 have h1':(s==[60])=false:=h1;have h2':(s==[60,61])=false:=h2;have h3':(s==[62])=false:=h3;have h4':(s==[62,61])=false:=h4;have h5':(s==[61,61])=false:=h5;refine Ah (fun h6=>?_) (fun h6=>?_)
 ·refine Az func353 ?_;have h6':(s==[33,61])=true:=h6;simp only[relS];rw[h1',h2',h3',h4',h5',h6'];rfl
 ·refine Az func353 ?_;have h6':(s==[33,61])=false:=h6;simp only[relS];rw[h1',h2',h3',h4',h5',h6'];rfl
def Cg:Nd:=.mk 0 [] 0 []
mutual
def Fi:Nat→RS→Nd×RS
 |0,r=>(Cg,r)
 |f+1,r=>
  if r.bad then(Cg,r)
  else if r.takes [45]then(.mk 5 [] 0 [(Fi f r.step).1],(Fi f r.step).2)
  else if r.kind==2 then(.mk 1 [] (Dp r.text) [],r.step)
  else if r.takes [40]then((Ez f r.step).1,(Ez f r.step).2.need [41])
  else if r.takes [108,101,110]then(.mk 4 (r.step.need [40]).name 0 [],(r.step.need [40]).nameR.need [41])
  else if r.nameR.takes [91]then(.mk 3 r.name 0 [(Ez f r.nameR.step).1],(Ez f r.nameR.step).2.need [93])
  else(.mk 2 r.name 0 [],r.nameR)
def Ek:Nat→RS→Nd×RS
 |0,r=>(Cg,r)
 |f+1,r=>Hy f (Fi f r).1 (Fi f r).2
def Hy:Nat→Nd→RS→Nd×RS
 |0,x,r=>(x,r)
 |f+1,x,r=>if r.takes [42]then Hy f (.mk 8 [] 0 [x,(Fi f r.step).1]) (Fi f r.step).2 else(x,r)
def Ez:Nat→RS→Nd×RS
 |0,r=>(Cg,r)
 |f+1,r=>G6 f (Ek f r).1 (Ek f r).2
def G6:Nat→Nd→RS→Nd×RS
 |0,x,r=>(x,r)
 |f+1,x,r=>
  if r.takes [43]then G6 f (.mk 6 [] 0 [x,(Ek f r.step).1]) (Ek f r.step).2
  else if r.takes [45]then G6 f (.mk 7 [] 0 [x,(Ek f r.step).1]) (Ek f r.step).2
  else(x,r)
end
def RS.after(r r':RS):Prop:=r'.ws=r.ws∧r.at_≤r'.at_∧r'.at_≤r'.ws.length
theorem Fg{r:RS}(h:r.ok):r.after r:=⟨rfl,Bo _,h.2⟩
theorem RS.after.ok{r r':RS}(h:r.after r')(hr:r.ok):r'.ok:=⟨by rw[h.1];exact hr.1,h.2.2⟩
theorem RS.after.trans{r r' r'':RS}(h:r.after r')(k:r'.after r''):r.after r'':=⟨k.1.trans h.1,Pb h.2.1 k.2.1,k.2.2⟩
theorem Ao9{r:RS}(h:r.text≠[]):r.at_<r.ws.length:=by
 rcases Gs r.at_ r.ws.length with h'|h'
 ·exact h'
 ·exact absurd (by simp[RS.text,U9 h']) h
theorem Se{r:RS}(h:r.kind≠0):r.at_<r.ws.length:=by
 rcases Gs r.at_ r.ws.length with h'|h'
 ·exact h'
 ·exact absurd (by simp[RS.kind,U9 h']) h
theorem Ay{r:RS}{s:List UInt8}(h:r.takes s=true)(hs:s≠[]):r.at_<r.ws.length∧r.text=s∧r.bad=false:=by
 simp only[RS.takes,Ml,Pe,Ago,zzq54]at h;exact⟨Ao9 (by rw[h.2];exact hs),h.2,h.1⟩
theorem Aj{r:RS}(h:r.at_<r.ws.length):r.after r.step:=⟨rfl,Nat.le_succ _,h⟩
theorem Pu{r:RS}(h:r.ok):r.after r.spoil:=⟨rfl,Bo _,h.2⟩
theorem Bb{r:RS}{s:List UInt8}(h:r.ok)(hs:s≠[]):r.after (r.need s):=by
 simp only[RS.need];split
 ·rename_i ht;exact Aj (Ay ht hs).1
 ·exact Pu h
theorem Cv{r:RS}(h:r.ok):r.after r.nameR:=by
 simp only[RS.nameR];split
 ·rename_i ht;simp only[RS.named,Ml,Pe,Ago,zzq54]at ht;exact Aj (Se (by omega))
 ·exact Pu h
theorem Fo:∀(f:Nat),(∀r:RS,r.ok→r.after (Fi f r).2)∧(∀r:RS,r.ok→r.after (Ek f r).2)∧(∀(x:Nd)(r:RS),r.ok→r.after (Hy f x r).2)∧(∀r:RS,r.ok→r.after (Ez f r).2)∧(∀(x:Nd)(r:RS),r.ok→r.after (G6 f x r).2):=by
 intro f
 induction f with
 |zero=>exact⟨fun r h=>by simp only[Fi];exact Fg h,fun r h=>by simp only[Ek];exact Fg h,fun x r h=>by simp only[Hy];exact Fg h,fun r h=>by simp only[Ez];exact Fg h,fun x r h=>by simp only[G6];exact Fg h⟩
 |succ f ih=>
  obtain⟨i1,i2,i3,i4,i5⟩:=ih;refine⟨fun r h=>?_,fun r h=>?_,fun x r h=>?_,fun r h=>?_,fun x r h=>?_⟩
  ·simp only[Fi];split
   ·exact Fg h
   split
   ·rename_i ht;have a:=Aj (Ay ht (by simp)).1;exact a.trans (i1 _ (a.ok h))
   split
   ·rename_i hk
    exact Aj (Se (by have:r.kind=2:=by simpa using hk
                     omega))
   split
   ·rename_i ht;have a:=Aj (Ay ht (by simp)).1;have b:=a.trans (i4 _ (a.ok h));exact b.trans (Bb (b.ok h) (by simp))
   split
   ·rename_i ht;have a:=Aj (Ay ht (by simp)).1;have b:=a.trans (Bb (s:=[40]) (a.ok h) (by simp));have c:=b.trans (Cv (b.ok h));exact c.trans (Bb (c.ok h) (by simp))
   have a:=Cv h;split
   ·rename_i ht;have b:=a.trans (Aj (Ay ht (by simp)).1);have c:=b.trans (i4 _ (b.ok h));exact c.trans (Bb (c.ok h) (by simp))
   ·exact a
  ·simp only[Ek];have a:=i1 r h;exact a.trans (i3 _ _ (a.ok h))
  ·simp only[Hy];split
   ·rename_i ht;have a:=Aj (Ay ht (by simp)).1;have b:=a.trans (i1 _ (a.ok h));exact b.trans (i3 _ _ (b.ok h))
   ·exact Fg h
  ·simp only[Ez];have a:=i2 r h;exact a.trans (i5 _ _ (a.ok h))
  ·simp only[G6];split
   ·rename_i ht;have a:=Aj (Ay ht (by simp)).1;have b:=a.trans (i2 _ (a.ok h));exact b.trans (i5 _ _ (b.ok h))
   split
   ·rename_i ht;have a:=Aj (Ay ht (by simp)).1;have b:=a.trans (i2 _ (a.ok h));exact b.trans (i5 _ _ (b.ok h))
   ·exact Fg h
abbrev zN:List AV:=[vi 0,str [],vi 0,.sl [] .tight]
def RS.left(r:RS):Nat:=r.ws.length-r.at_
theorem Bg{r r':RS}(h:r.after r'):r'.left≤r.left:=by have:=h.1;have:=h.2.1;simp only[RS.left,h.1];omega
theorem Ca{r:RS}(h:r.at_<r.ws.length):r.step.left+1=r.left:=by simp only[RS.left,RS.step];omega
def Av8(f:Nat):Prop:=∀r:RS,r.ok→4*r.left+1≤f→Hands X 368 [.ptr 0 0 0] ⟨[[rc r]],[]⟩ (nd (Fi f r).1) ⟨[[rc (Fi f r).2]],[]⟩
def Ar8(f:Nat):Prop:=∀r:RS,r.ok→4*r.left+2≤f→Hands X 354 [.ptr 0 0 0] ⟨[[rc r]],[]⟩ (nd (Ek f r).1) ⟨[[rc (Ek f r).2]],[]⟩
def Ar5(f:Nat):Prop:=∀r:RS,r.ok→4*r.left+3≤f→Hands X 331 [.ptr 0 0 0] ⟨[[rc r]],[]⟩ (nd (Ez f r).1) ⟨[[rc (Ez f r).2]],[]⟩
theorem A2h(f:Nat)(ih:∀g,g<f→Av8 g):Ar8 f:=by
 intro r hr hf;obtain⟨g,rfl⟩:∃g,f=g+1:=⟨f-1,by omega⟩
 have a1:=(Fo g).1 r hr;have l1:=Bg a1;refine Hands.run func354 ?_;refine Ae [0] [] (ih g (by omega) r hr (by omega)) ?_;obtain⟨x0,hx0⟩:∃x0,(Fi g r).1=x0:=⟨_,rfl⟩
 obtain⟨r0,hr0⟩:∃r0,(Fi g r).2=r0:=⟨_,rfl⟩
 have hT:Ek (g+1) r=Hy g x0 r0:=by simp only[Ek];rw[hx0,hr0]
 rw[hT,hx0,hr0];rw[hr0]at a1 l1;generalize hTT:Hy g x0 r0=T;refine Ar (ι:=Nat×Nd×RS) 3 0 (fun i=>i.2.2.ok∧4*i.2.2.left+1≤i.1∧i.1≤g∧T=Hy i.1 i.2.1 i.2.2) (fun i=>[(0,.ptr 0 0 0),(2,.ptr 1 0 0),(3,.ptr 2 0 0)])
  (fun i=>⟨[[rc i.2.2],[zN],[Af i.2.1]],[]⟩) (fun i=>i.1) ?_ (g,x0,r0) ⟨a1.ok hr,by simp only;omega,Bo _,hTT.symm⟩ ⟨rfl,rfl,rfl,trivial⟩
 rintro⟨n,x,q⟩ ⟨hq,hn,hng,hTn⟩ IH;simp only at hq hn hng hTn IH⊢;obtain⟨m,rfl⟩:∃m,n=m+1:=⟨n-1,by omega⟩
 refine Bi 100 rfl ?_;refine Ae [0] [] (I5 q [42] hq) ?_;refine Ah (fun h=>?_) (fun h=>?_)
 ·have ht:=Ay h (by simp);have hk:q.take [42]=q.step:=by simp[RS.take,h]
  have asx:=Aj ht.1;have ls:=Ca ht.1;have ao:=(Fo m).1 q.step (asx.ok hq);have lo:=Bg ao;rw[hk];refine Ae [0] [] (ih m (by omega) q.step (asx.ok hq) (by omega)) ?_;refine Al (Yv 8 x (Fi m q.step).1) ?_;refine IH (m,.mk 8 [] 0 [x,(Fi m q.step).1],(Fi m q.step).2) ⟨ao.ok (asx.ok hq),by simp only;omega,by simp only;omega,?_⟩ (by simp only;omega) _ _ ⟨rfl,rfl,rfl,trivial⟩ rfl rfl rfl;rw[hTn];simp only[Hy];rw[if_pos h]
 ·have hk:q.take [42]=q:=by simp[RS.take,h]
  have:T=(x,q):=by rw[hTn];simp only[Hy];rw[if_neg (by simp[h])]
  rw[this,hk];exact Bq func354 rfl rfl
theorem A2c(f:Nat)(ih:∀g,g<f→Ar8 g):Ar5 f:=by
 intro r hr hf;obtain⟨g,rfl⟩:∃g,f=g+1:=⟨f-1,by omega⟩
 have a1:=(Fo g).2.1 r hr;have l1:=Bg a1;refine Hands.run func331 ?_;refine Ae [0] [] (ih g (by omega) r hr (by omega)) ?_;obtain⟨x0,hx0⟩:∃x0,(Ek g r).1=x0:=⟨_,rfl⟩
 obtain⟨r0,hr0⟩:∃r0,(Ek g r).2=r0:=⟨_,rfl⟩
 have hT:Ez (g+1) r=G6 g x0 r0:=by simp only[Ez];rw[hx0,hr0]
 rw[hT,hx0,hr0];rw[hr0]at a1 l1;generalize hTT:G6 g x0 r0=T;refine Ar (ι:=Nat×Nd×RS) 3 0 (fun i=>i.2.2.ok∧4*i.2.2.left+1≤i.1∧i.1≤g∧T=G6 i.1 i.2.1 i.2.2) (fun i=>[(0,.ptr 0 0 0),(2,.ptr 1 0 0),(3,.ptr 2 0 0)])
  (fun i=>⟨[[rc i.2.2],[zN],[Af i.2.1]],[]⟩) (fun i=>i.1) ?_ (g,x0,r0) ⟨a1.ok hr,by simp only;omega,Bo _,hTT.symm⟩ ⟨rfl,rfl,rfl,trivial⟩
 rintro⟨n,x,q⟩ ⟨hq,hn,hng,hTn⟩ IH;simp only at hq hn hng hTn IH⊢;obtain⟨m,rfl⟩:∃m,n=m+1:=⟨n-1,by omega⟩
 refine Bi 100 rfl ?_;refine Ae [0] [] (I5 q [43] hq) ?_;refine Ah (fun h=>?_) (fun h=>?_)
 ·have ht:=Ay h (by simp);have hk:q.take [43]=q.step:=by simp[RS.take,h]
  have asx:=Aj ht.1;have ls:=Ca ht.1;have ao:=(Fo m).2.1 q.step (asx.ok hq);have lo:=Bg ao;rw[hk];refine Ae [0] [] (ih m (by omega) q.step (asx.ok hq) (by omega)) ?_;refine Al (Yv 6 x (Ek m q.step).1) ?_;refine IH (m,.mk 6 [] 0 [x,(Ek m q.step).1],(Ek m q.step).2) ⟨ao.ok (asx.ok hq),by simp only;omega,by simp only;omega,?_⟩ (by simp only;omega) _ _ ⟨rfl,rfl,rfl,trivial⟩ rfl rfl rfl;rw[hTn];simp only[G6];rw[if_pos h]
 have hk:q.take [43]=q:=by simp[RS.take,h]
 rw[hk];refine Ae [0] [] (I5 q [45] hq) ?_;refine Ah (fun h2=>?_) (fun h2=>?_)
 ·have ht:=Ay h2 (by simp);have hk:q.take [45]=q.step:=by simp[RS.take,h2]
  have asx:=Aj ht.1;have ls:=Ca ht.1;have ao:=(Fo m).2.1 q.step (asx.ok hq);have lo:=Bg ao;rw[hk];refine Ae [0] [] (ih m (by omega) q.step (asx.ok hq) (by omega)) ?_;refine Al (Yv 7 x (Ek m q.step).1) ?_;refine IH (m,.mk 7 [] 0 [x,(Ek m q.step).1],(Ek m q.step).2) ⟨ao.ok (asx.ok hq),by simp only;omega,by simp only;omega,?_⟩ (by simp only;omega) _ _ ⟨rfl,rfl,rfl,trivial⟩ rfl rfl rfl;rw[hTn];simp only[G6];rw[if_neg (by simp[h]),if_pos h2]
 ·have hk:q.take [45]=q:=by simp[RS.take,h2]
  have:T=(x,q):=by rw[hTn];simp only[G6];rw[if_neg (by simp[h]),if_neg (by simp[h2])]
  rw[this,hk];exact Bq func331 rfl rfl
theorem A4j(f:Nat)(ih:∀g,g<f→Av8 g)(ihe:∀g,g<f→Ar5 g):Av8 f:=by
 intro r hr hf;obtain⟨g,rfl⟩:∃g,f=g+1:=⟨f-1,by omega⟩
 refine Hands.run func368 ?_;refine Ah (fun h=>?_) (fun h=>?_)
 ·have h':r.bad=true:=h;have hT:Fi (g+1) r=(Cg,r):=by simp only[Fi];rw[if_pos h']
  rw[hT];exact Bq func368 rfl rfl
 have h':r.bad=false:=h;refine Ae [0] [] (I5 r [45] hr) ?_;refine Ah (fun h1=>?_) (fun h1=>?_)
 ·have ht:=Ay h1 (by simp);have hk:r.take [45]=r.step:=by simp[RS.take,h1]
  have asx:=Aj ht.1;have ls:=Ca ht.1;have hT:Fi (g+1) r=(.mk 5 [] 0 [(Fi g r.step).1],(Fi g r.step).2):=by simp only[Fi];rw[if_neg (by simp[h']),if_pos h1]
  rw[hk,hT];refine Ae [0] [] (ih g (by omega) r.step (asx.ok hr) (by omega)) ?_;refine Al (Aoq 5 (Fi g r.step).1) ?_;exact Bq func368 rfl rfl
 have hk1:r.take [45]=r:=by simp[RS.take,h1]
 rw[hk1];refine Ae [0] [] (Amr r) ?_;refine Ah (fun h2=>?_) (fun h2=>?_)
 ·have h2':r.kind=2:=by have:(r.kind==2)=true:=h2;simpa using this
  obtain⟨w,hw,_,hwt⟩:=Ao2 r (by omega);have hT:Fi (g+1) r=(.mk 1 [] (Dp w.text) [],r.step):=by simp only[Fi];rw[if_neg (by simp[h']),if_neg (by simp[h1]),if_pos (by simp[h2']),hwt]
  have hb:=Azy r.at_ (by have:=hr.2;have:=hr.1;omega);rw[hT,←Acc r hr];refine D8 16384 ?_;refine Eo (fun S'=>Cu (r:=U8 w) rfl rfl rfl rfl rfl rfl rfl rfl rfl ?_ ?_) ?_
  ·rw[hb];omega
  ·rw[hb];exact Rb hw
  refine Fx ?_;refine Js (Ado w.text) ?_;refine Av ?_;refine Ch (A7 rfl rfl rfl rfl rfl rfl rfl) ?_;refine B2 ?_;exact Bq func368 rfl rfl
 have h2':¬(r.kind==2)=true:=by have:(r.kind==2)=false:=h2;simp[this]
 refine Ae [0] [] (I5 r [40] hr) ?_;refine Ah (fun h3=>?_) (fun h3=>?_)
 ·have ht:=Ay h3 (by simp);have hk:r.take [40]=r.step:=by simp[RS.take,h3]
  have asx:=Aj ht.1;have ls:=Ca ht.1;have ae:=asx.trans ((Fo g).2.2.2.1 r.step (asx.ok hr));have hT:Fi (g+1) r=((Ez g r.step).1,(Ez g r.step).2.need [41]):=by simp only[Fi];rw[if_neg (by simp[h']),if_neg (by simp[h1]),if_neg h2',if_pos h3]
  rw[hk,hT];refine Ae [0] [] (ihe g (by omega) r.step (asx.ok hr) (by omega)) ?_;refine Ae [0] [] (Ig (Ez g r.step).2 [41] (ae.ok hr)) ?_;exact Bq func368 rfl rfl
 have hk3:r.take [40]=r:=by simp[RS.take,h3]
 rw[hk3];refine Ae [0] [] (I5 r [108,101,110] hr) ?_;refine Ah (fun h4=>?_) (fun h4=>?_)
 ·have ht:=Ay h4 (by simp);have hk:r.take [108,101,110]=r.step:=by simp[RS.take,h4]
  have asx:=Aj ht.1;have a2:=asx.trans (Bb (s:=[40]) (asx.ok hr) (by simp));have a3:=a2.trans (Cv (a2.ok hr));have hT:Fi (g+1) r=(.mk 4 (r.step.need [40]).name 0 [],(r.step.need [40]).nameR.need [41]):=by simp only[Fi];rw[if_neg (by simp[h']),if_neg (by simp[h1]),if_neg h2',if_neg (by simp[h3]),if_pos h4]
  rw[hk,hT];refine Ae [0] [] (Ig r.step [40] (asx.ok hr)) ?_;refine Ae [0] [] (Xl (r.step.need [40]) (a2.ok hr)) ?_;refine Ae [0] [] (Ig (r.step.need [40]).nameR [41] (a3.ok hr)) ?_;exact Bq func368 rfl rfl
 have hk4:r.take [108,101,110]=r:=by simp[RS.take,h4]
 rw[hk4];have an:=Cv hr;have ln:=Bg an;refine Ae [0] [] (Xl r hr) ?_;refine Ae [0] [] (I5 r.nameR [91] (an.ok hr)) ?_;refine Ah (fun h5=>?_) (fun h5=>?_)
 ·have ht:=Ay h5 (by simp);have hk:r.nameR.take [91]=r.nameR.step:=by simp[RS.take,h5]
  have asx:=Aj ht.1;have ls:=Ca ht.1;have a2:=an.trans asx;have ae:=a2.trans ((Fo g).2.2.2.1 r.nameR.step (a2.ok hr));have hT:Fi (g+1) r=(.mk 3 r.name 0 [(Ez g r.nameR.step).1],(Ez g r.nameR.step).2.need [93]):=by
   simp only[Fi];rw[if_neg (by simp[h']),if_neg (by simp[h1]),if_neg h2',if_neg (by simp[h3]),if_neg (by simp[h4]),if_pos h5]
  rw[hk,hT];refine Ae [0] [] (ihe g (by omega) r.nameR.step (a2.ok hr) (by omega)) ?_;refine Al (Aoq 3 (Ez g r.nameR.step).1) ?_;refine Ae [0] [] (Ig (Ez g r.nameR.step).2 [93] (ae.ok hr)) ?_;exact Bq func368 rfl rfl
 ·have hk:r.nameR.take [91]=r.nameR:=by simp[RS.take,h5]
  have hT:Fi (g+1) r=(.mk 2 r.name 0 [],r.nameR):=by
   simp only[Fi];rw[if_neg (by simp[h']),if_neg (by simp[h1]),if_neg h2',if_neg (by simp[h3]),if_neg (by simp[h4]),if_neg (by simp[h5])]
  rw[hk,hT];exact Bq func368 rfl rfl
theorem Ayw:∀f,Av8 f∧Ar8 f∧Ar5 f:=by
 intro f
 induction f using Nat.strongRecOn with
 |ind f ih=>
  exact⟨A4j f (fun g h=>(ih g h).1) (fun g h=>(ih g h).2.2),A2h f (fun g h=>(ih g h).1),A2c f (fun g h=>(ih g h).2.1)⟩
def B8(r:RS):Nd×RS:=Ez 6010 r
theorem B9{r:RS}(h:r.ok):r.after (B8 r).2:=(Fo 6010).2.2.2.1 r h
theorem Sw(r:RS)(h:r.ok):Hands X 331 [.ptr 0 0 0] ⟨[[rc r]],[]⟩ (nd (B8 r).1) ⟨[[rc (B8 r).2]],[]⟩:=
 (Ayw 6010).2.2 r h (by have:=h.1;simp only[RS.left];omega)
def Dm(r:RS):Nd×RS:=
 if (B8 r).2.bad||relS (B8 r).2.text==0 then(Cg,(B8 r).2.spoil)
 else(.mk (relS (B8 r).2.text) [] 0 [(B8 r).1,(B8 (B8 r).2.step).1],(B8 (B8 r).2.step).2)
theorem V4{r:RS}(h:relS r.text≠0):r.at_<r.ws.length:=Ao9 fun e=>h (by rw[e];rfl)
theorem Dy{r:RS}(h:r.ok):r.after (Dm r).2:=by
 have a:=B9 h;simp only[Dm];split
 ·exact a.trans (Pu (a.ok h))
 ·rename_i hc;simp only[Pd,not_or,zzq54]at hc;have b:=a.trans (Aj (V4 hc.2));exact b.trans (B9 (b.ok h))
theorem Amo(r:RS)(hr:r.ok):Hands X 329 [.ptr 0 0 0] ⟨[[rc r]],[]⟩ (nd (Dm r).1) ⟨[[rc (Dm r).2]],[]⟩:=by
 have a:=B9 hr;refine Hands.run func329 ?_;refine Ae [0] [] (Sw r hr) ?_;obtain⟨x,hx⟩:∃x,(B8 r).1=x:=⟨_,rfl⟩
 obtain⟨q,hq⟩:∃q,(B8 r).2=q:=⟨_,rfl⟩
 have hT:Dm r=if q.bad||relS q.text==0 then(Cg,q.spoil)else(.mk (relS q.text) [] 0 [x,(B8 q.step).1],(B8 q.step).2):=by simp only[Dm];rw[hx,hq]
 rw[hT,hx,hq];rw[hq]at a;refine Ae [0] [] (Aie q) ?_;refine Al (A4a q.text) ?_;refine Df (fun h=>?_) (fun h=>?_)
 ·have h':q.bad=true:=h;refine A0 ?_;rw[if_pos (by simp[h'])];exact Bq func329 rfl rfl
 have h':q.bad=false:=h;refine Ah (fun h2=>?_) (fun h2=>?_)
 ·have h2':(relS q.text==0)=true:=h2;rw[if_pos (by simp only[h',h2'];rfl)];exact Bq func329 rfl rfl
 ·have h2':(relS q.text==0)=false:=h2;have hne:relS q.text≠0:=by simpa using h2'
  have b:=a.trans (Aj (V4 hne));have qo:=a.ok hr;rw[if_neg (by simp only[h',h2'];decide)];have hw:rd q.ws (IntKind.i64.wrap ((q.at_:Int)+1)) q.bad=rc q.step:=Acc q qo;have hrun:=Sw q.step (b.ok hr);rw[←hw]at hrun;refine Ae [0] [] hrun ?_;refine Al (Yv (relS q.text) x (B8 q.step).1) ?_;exact Bq func329 rfl rfl
abbrev V9:List UInt8:=[105,102]
abbrev Iu:List UInt8:=[101,108,115,101]
abbrev Gp:List UInt8:=[119,104,105,108,101]
abbrev L9:List UInt8:=[102,111,114]
abbrev Jn:List UInt8:=[102,114,111,109]
abbrev wTo:List UInt8:=[116,111]
abbrev Ga:List UInt8:=[99,104,101,99,107]
abbrev Iv:List UInt8:=[114,101,97,100]
abbrev I1:List UInt8:=[115,107,105,112]
abbrev Jb:List UInt8:=[115,116,111,112]
abbrev Nm:List UInt8:=[118,97,114]
abbrev Fj:List UInt8:=[97,114,114,97,121]
def Qz(r:RS):Nd×RS:=
 if r.nameR.takes [91]then
  (.mk 22 r.name 0 [(B8 r.nameR.step).1,(B8 (((B8 r.nameR.step).2.need [93]).need [61])).1],(B8 (((B8 r.nameR.step).2.need [93]).need [61])).2)
 else(.mk 21 r.name 0 [(B8 (r.nameR.need [61])).1],(B8 (r.nameR.need [61])).2)
def Cz(r:RS):Nd×RS:=
 if r.takes Ga then(.mk 27 [] 0 [(Dm r.step).1],(Dm r.step).2)
 else if r.takes Iv then(.mk 23 r.step.name 0 [],r.step.nameR)
 else if r.takes I1 then(.mk 28 [] 0 [],r.step)
 else if r.takes Jb then(.mk 29 [] 0 [],r.step)
 else Qz r
def Yh(r:RS):RS:=r.nameR.need Jn
def Zz(r:RS):RS:=(B8 (Yh r)).2.need wTo
mutual
def Dc:Nat→RS→Nd×RS
 |0,r=>(Cg,r)
 |f+1,r=>
  if r.takes V9 then
   if (Ct f (Dm r.step).2).2.takes Iu then
    (.mk 24 [] 0 [(Dm r.step).1,(Ct f (Dm r.step).2).1,(Ct f (Ct f (Dm r.step).2).2.step).1],(Ct f (Ct f (Dm r.step).2).2.step).2)
   else(.mk 24 [] 0 [(Dm r.step).1,(Ct f (Dm r.step).2).1,.mk 30 [] 0 []],(Ct f (Dm r.step).2).2)
  else if r.takes Gp then(.mk 25 [] 0 [(Dm r.step).1,(Ct f (Dm r.step).2).1],(Ct f (Dm r.step).2).2)
  else if r.takes L9 then
   (.mk 26 r.step.name 0 [(B8 (Yh r.step)).1,(B8 (Zz r.step)).1,(Ct f (B8 (Zz r.step)).2).1],(Ct f (B8 (Zz r.step)).2).2)
  else((Cz r).1,(Cz r).2.need [59])
def Ct:Nat→RS→Nd×RS
 |0,r=>(Cg,r)
 |f+1,r=>(.mk 30 [] 0 (Ed f [] (r.need [123])).1,(Ed f [] (r.need [123])).2.need [125])
def Ed:Nat→List Nd→RS→List Nd×RS
 |0,acc,r=>(acc,r)
 |f+1,acc,r=>if !r.bad&&decide (r.at_<r.ws.length)&&!(r.text==[125])then Ed f (acc++[(Dc f r).1]) (Dc f r).2 else(acc,r)
end
theorem Amv{r:RS}(h:r.ok):r.after (Qz r).2:=by
 have a:=Cv h;simp only[Qz];split
 ·rename_i ht;have b:=a.trans (Aj (Ay ht (by simp)).1);have c:=b.trans (B9 (b.ok h));have d:=c.trans (Bb (s:=[93]) (c.ok h) (by simp));have e:=d.trans (Bb (s:=[61]) (d.ok h) (by simp));exact e.trans (B9 (e.ok h))
 ·have b:=a.trans (Bb (s:=[61]) (a.ok h) (by simp));exact b.trans (B9 (b.ok h))
theorem P4{r:RS}(h:r.ok):r.after (Cz r).2:=by
 simp only[Cz];split
 ·rename_i ht;have b:=Aj (Ay ht (by simp)).1;exact b.trans (Dy (b.ok h))
 split
 ·rename_i ht;have b:=Aj (Ay ht (by simp)).1;exact b.trans (Cv (b.ok h))
 split
 ·rename_i ht;exact Aj (Ay ht (by simp)).1
 split
 ·rename_i ht;exact Aj (Ay ht (by simp)).1
 exact Amv h
theorem R7{r:RS}(h:r.ok):r.after (Yh r):=by
 have a:=Cv h;exact a.trans (Bb (a.ok h) (by simp))
theorem K3{r:RS}(h:r.ok):r.after (Zz r):=by
 have a:=R7 h;have b:=a.trans (B9 (a.ok h));exact b.trans (Bb (b.ok h) (by simp))
theorem F5:∀(f:Nat),(∀r:RS,r.ok→r.after (Dc f r).2)∧(∀r:RS,r.ok→r.after (Ct f r).2)∧(∀(acc:List Nd)(r:RS),r.ok→r.after (Ed f acc r).2):=by
 intro f
 induction f with
 |zero=>exact⟨fun r h=>by simp only[Dc];exact Fg h,fun r h=>by simp only[Ct];exact Fg h,fun x r h=>by simp only[Ed];exact Fg h⟩
 |succ f ih=>
  obtain⟨i1,i2,i3⟩:=ih;refine⟨fun r h=>?_,fun r h=>?_,fun acc r h=>?_⟩
  ·simp only[Dc];split
   ·rename_i ht;have b:=Aj (Ay ht (by simp)).1;have c:=b.trans (Dy (b.ok h));have d:=c.trans (i2 _ (c.ok h));split
    ·rename_i ht2;have e:=d.trans (Aj (Ay ht2 (by simp)).1);exact e.trans (i2 _ (e.ok h))
    ·exact d
   split
   ·rename_i ht;have b:=Aj (Ay ht (by simp)).1;have c:=b.trans (Dy (b.ok h));exact c.trans (i2 _ (c.ok h))
   split
   ·rename_i ht;have b:=Aj (Ay ht (by simp)).1;have c:=b.trans (K3 (b.ok h));have d:=c.trans (B9 (c.ok h));exact d.trans (i2 _ (d.ok h))
   ·have a:=P4 h;exact a.trans (Bb (a.ok h) (by simp))
  ·simp only[Ct];have a:=Bb (s:=[123]) h (by simp);have b:=a.trans (i3 [] _ (a.ok h));exact b.trans (Bb (b.ok h) (by simp))
  ·simp only[Ed];split
   ·have a:=i1 r h;exact a.trans (i3 _ _ (a.ok h))
   ·exact Fg h
def Ar7(f:Nat):Prop:=∀r:RS,r.ok→3*r.left+1≤f→f≤100000→Hands X 312 [.ptr 0 0 0] ⟨[[rc r]],[]⟩ (nd (Dc f r).1) ⟨[[rc (Dc f r).2]],[]⟩
def Ak5(f:Nat):Prop:=∀r:RS,r.ok→3*r.left+3≤f→f≤100000→Hands X 330 [.ptr 0 0 0] ⟨[[rc r]],[]⟩ (nd (Ct f r).1) ⟨[[rc (Ct f r).2]],[]⟩
def Ar6(f:Nat):Prop:=∀r:RS,r.ok→3*r.left+2≤f→f≤100000→Hands X 291 [.ptr 0 0 0] ⟨[[rc r]],[]⟩ (nd (.mk 30 [] 0 (Ed f [] r).1)) ⟨[[rc (Ed f [] r).2]],[]⟩
theorem Ayv(f:Nat)(ih:∀g,g<f→Ar6 g):Ak5 f:=by
 intro r hr hf hF;obtain⟨g,rfl⟩:∃g,f=g+1:=⟨f-1,by omega⟩
 have a:=Bb (s:=[123]) hr (by simp);have la:=Bg a;have b:=a.trans ((F5 g).2.2 [] _ (a.ok hr));refine Hands.run func330 ?_;simp only[Ct];refine Ae [0] [] (Ig r [123] hr) ?_;refine Ae [0] [] (ih g (by omega) (r.need [123]) (a.ok hr) (by omega) (by omega)) ?_;refine Ae [0] [] (Ig (Ed g [] (r.need [123])).2 [125] (b.ok hr)) ?_;exact Bq func330 rfl rfl
theorem Lh(k:Int)(s:List UInt8)(m:Int)(ks:List Nd):nd (.mk k s m ks)=.agg [vi k,str s,vi m,.sl (ks.map Af) .no]:=by
 show AV.agg [_,_,_,.sl (Ap ks) _]=_;rw[Au];rfl
theorem A2g(f:Nat)(ihb:∀g,g<f→Ak5 g):Ar7 f:=by
 intro r hr hf hF;obtain⟨g,rfl⟩:∃g,f=g+1:=⟨f-1,by omega⟩
 refine Hands.run func312 ?_;refine Ae [0] [] (I5 r V9 hr) ?_;refine Ah (fun h1=>?_) (fun h1=>?_)
 ·have ht:=Ay h1 (by simp);have hk:r.take V9=r.step:=by simp[RS.take,h1]
  have a:=Aj ht.1;have ls:=Ca ht.1;have c:=a.trans (Dy (a.ok hr));have lc:=Bg (Dy (a.ok hr));have d:=c.trans ((F5 g).2.1 _ (c.ok hr));have ld:=Bg ((F5 g).2.1 _ (c.ok hr));simp only[Dc];rw[if_pos h1,hk];refine Ae [0] [] (Amo r.step (a.ok hr)) ?_;refine Ae [0] [] (ihb g (by omega) (Dm r.step).2 (c.ok hr) (by omega) (by omega)) ?_;refine Ae [0] [] (I5 (Ct g (Dm r.step).2).2 Iu (d.ok hr)) ?_;refine Ah (fun h2=>?_) (fun h2=>?_)
  ·have ht2:=Ay h2 (by simp);have hk2:(Ct g (Dm r.step).2).2.take Iu=(Ct g (Dm r.step).2).2.step:=by simp[RS.take,h2]
   have e:=Aj ht2.1;have le:=Ca ht2.1;rw[if_pos h2,hk2];refine Ae [0] [] (ihb g (by omega) (Ct g (Dm r.step).2).2.step (e.ok (d.ok hr)) (by omega) (by omega)) ?_;rw[Lh];exact Bq func312 rfl rfl
  ·have hk2:(Ct g (Dm r.step).2).2.take Iu=(Ct g (Dm r.step).2).2:=by simp[RS.take,h2]
   rw[if_neg (by simp[h2]),hk2,Lh];exact Bq func312 rfl rfl
 have hk1:r.take V9=r:=by simp[RS.take,h1]
 rw[hk1];refine Ae [0] [] (I5 r Gp hr) ?_;refine Ah (fun h2=>?_) (fun h2=>?_)
 ·have ht:=Ay h2 (by simp);have hk:r.take Gp=r.step:=by simp[RS.take,h2]
  have a:=Aj ht.1;have ls:=Ca ht.1;have c:=a.trans (Dy (a.ok hr));have lc:=Bg (Dy (a.ok hr));simp only[Dc];rw[if_neg (by simp[h1]),if_pos h2,hk];refine Ae [0] [] (Amo r.step (a.ok hr)) ?_;refine Ae [0] [] (ihb g (by omega) (Dm r.step).2 (c.ok hr) (by omega) (by omega)) ?_;refine Al (Yv 25 (Dm r.step).1 (Ct g (Dm r.step).2).1) ?_;exact Bq func312 rfl rfl
 have hk2:r.take Gp=r:=by simp[RS.take,h2]
 rw[hk2];refine Ae [0] [] (I5 r L9 hr) ?_;refine Ah (fun h3=>?_) (fun h3=>?_)
 ·have ht:=Ay h3 (by simp);have hk:r.take L9=r.step:=by simp[RS.take,h3]
  have a:=Aj ht.1;have ls:=Ca ht.1;have b:=a.trans (Cv (a.ok hr));have c:=a.trans (R7 (a.ok hr));have d:=c.trans (B9 (c.ok hr));have e:=a.trans (K3 (a.ok hr));have e2:=e.trans (B9 (e.ok hr));have l1:=Bg (K3 (a.ok hr));have l2:=Bg (B9 (e.ok hr));simp only[Dc];rw[if_neg (by simp[h1]),if_neg (by simp[h2]),if_pos h3,hk];refine Ae [0] [] (Xl r.step (a.ok hr)) ?_;refine Ae [0] [] (Ig r.step.nameR Jn (b.ok hr)) ?_;refine Ae [0] [] (Sw (Yh r.step) (c.ok hr)) ?_;refine Ae [0] [] (Ig (B8 (Yh r.step)).2 wTo (d.ok hr)) ?_;refine Ae [0] [] (Sw (Zz r.step) (e.ok hr)) ?_;refine Ae [0] [] (ihb g (by omega) (B8 (Zz r.step)).2 (e2.ok hr) (by omega) (by omega)) ?_;rw[Lh];exact Bq func312 rfl rfl
 have hk3:r.take L9=r:=by simp[RS.take,h3]
 rw[hk3];have hs:=P4 hr;have hT:Dc (g+1) r=((Cz r).1,(Cz r).2.need [59]):=by simp only[Dc];rw[if_neg (by simp[h1]),if_neg (by simp[h2]),if_neg (by simp[h3])]
 rw[hT];refine Ae [0] [] (I5 r Ga hr) ?_;refine Ah (fun h4=>?_) (fun h4=>?_)
 ·have ht:=Ay h4 (by simp);have hk:r.take Ga=r.step:=by simp[RS.take,h4]
  have a:=Aj ht.1;have c:=a.trans (Dy (a.ok hr));have hS:Cz r=(.mk 27 [] 0 [(Dm r.step).1],(Dm r.step).2):=by simp only[Cz];rw[if_pos h4]
  rw[hk,hS];refine Ae [0] [] (Amo r.step (a.ok hr)) ?_;refine Al (Aoq 27 (Dm r.step).1) ?_;refine Ae [0] [] (Ig (Dm r.step).2 [59] (c.ok hr)) ?_;exact Bq func312 rfl rfl
 have hk4:r.take Ga=r:=by simp[RS.take,h4]
 rw[hk4];refine Ae [0] [] (I5 r Iv hr) ?_;refine Ah (fun h5=>?_) (fun h5=>?_)
 ·have ht:=Ay h5 (by simp);have hk:r.take Iv=r.step:=by simp[RS.take,h5]
  have a:=Aj ht.1;have c:=a.trans (Cv (a.ok hr));have hS:Cz r=(.mk 23 r.step.name 0 [],r.step.nameR):=by simp only[Cz];rw[if_neg (by simp[h4]),if_pos h5]
  rw[hk,hS,Lh];refine Ae [0] [] (Xl r.step (a.ok hr)) ?_;refine Ae [0] [] (Ig r.step.nameR [59] (c.ok hr)) ?_;exact Bq func312 rfl rfl
 have hk5:r.take Iv=r:=by simp[RS.take,h5]
 rw[hk5];refine Ae [0] [] (I5 r I1 hr) ?_;refine Ah (fun h6=>?_) (fun h6=>?_)
 ·have ht:=Ay h6 (by simp);have hk:r.take I1=r.step:=by simp[RS.take,h6]
  have a:=Aj ht.1;have hS:Cz r=(.mk 28 [] 0 [],r.step):=by simp only[Cz];rw[if_neg (by simp[h4]),if_neg (by simp[h5]),if_pos h6]
  rw[hk,hS,Lh];refine Ae [0] [] (Ig r.step [59] (a.ok hr)) ?_;exact Bq func312 rfl rfl
 have hk6:r.take I1=r:=by simp[RS.take,h6]
 rw[hk6];refine Ae [0] [] (I5 r Jb hr) ?_;refine Ah (fun h7=>?_) (fun h7=>?_)
 ·have ht:=Ay h7 (by simp);have hk:r.take Jb=r.step:=by simp[RS.take,h7]
  have a:=Aj ht.1;have hS:Cz r=(.mk 29 [] 0 [],r.step):=by simp only[Cz];rw[if_neg (by simp[h4]),if_neg (by simp[h5]),if_neg (by simp[h6]),if_pos h7]
  rw[hk,hS,Lh];refine Ae [0] [] (Ig r.step [59] (a.ok hr)) ?_;exact Bq func312 rfl rfl
 have hk7:r.take Jb=r:=by simp[RS.take,h7]
 have hS:Cz r=Qz r:=by simp only[Cz];rw[if_neg (by simp[h4]),if_neg (by simp[h5]),if_neg (by simp[h6]),if_neg (by simp[h7])]
 rw[hk7,hS];have a:=Cv hr;refine Ae [0] [] (Xl r hr) ?_;refine Ae [0] [] (I5 r.nameR [91] (a.ok hr)) ?_;refine Ah (fun h8=>?_) (fun h8=>?_)
 ·have ht:=Ay h8 (by simp);have hk:r.nameR.take [91]=r.nameR.step:=by simp[RS.take,h8]
  have b:=a.trans (Aj ht.1);have c:=b.trans (B9 (b.ok hr));have d:=c.trans (Bb (s:=[93]) (c.ok hr) (by simp));have e:=d.trans (Bb (s:=[61]) (d.ok hr) (by simp));have f:=e.trans (B9 (e.ok hr));simp only[Qz];rw[if_pos h8,hk];refine Ae [0] [] (Sw r.nameR.step (b.ok hr)) ?_;refine Ae [0] [] (Ig (B8 r.nameR.step).2 [93] (c.ok hr)) ?_;refine Ae [0] [] (Ig ((B8 r.nameR.step).2.need [93]) [61] (d.ok hr)) ?_;refine Ae [0] [] (Sw (((B8 r.nameR.step).2.need [93]).need [61]) (e.ok hr)) ?_;refine Al (Yv 22 (B8 r.nameR.step).1 (B8 (((B8 r.nameR.step).2.need [93]).need [61])).1) ?_;refine Ae [0] [] (Ig (B8 (((B8 r.nameR.step).2.need [93]).need [61])).2 [59] (f.ok hr)) ?_;exact Bq func312 rfl rfl
 ·have hk:r.nameR.take [91]=r.nameR:=by simp[RS.take,h8]
  have b:=a.trans (Bb (s:=[61]) (a.ok hr) (by simp));have c:=b.trans (B9 (b.ok hr));simp only[Qz];rw[if_neg (by simp[h8]),hk];refine Ae [0] [] (Ig r.nameR [61] (a.ok hr)) ?_;refine Ae [0] [] (Sw (r.nameR.need [61]) (b.ok hr)) ?_;refine Al (Aoq 21 (B8 (r.nameR.need [61])).1) ?_;refine Ae [0] [] (Ig (B8 (r.nameR.need [61])).2 [59] (c.ok hr)) ?_;exact Bq func312 rfl rfl
theorem Du{r:RS}(h:r.bad=true)(s:List UInt8):r.takes s=false:=by simp[RS.takes,h]
theorem T4{r:RS}(h:r.bad=true)(s:List UInt8):(r.need s).bad=true:=by simp[RS.need,Du h s,RS.spoil]
theorem Ae2{r:RS}(h:r.bad=true):r.nameR.bad=true:=by simp[RS.nameR,RS.named,h,RS.spoil]
theorem Zw:∀(f:Nat),(∀r:RS,r.bad=true→(Fi f r).2.bad=true)∧(∀r:RS,r.bad=true→(Ek f r).2.bad=true)∧(∀(x:Nd)(r:RS),r.bad=true→(Hy f x r).2.bad=true) ∧
 (∀r:RS,r.bad=true→(Ez f r).2.bad=true)∧(∀(x:Nd)(r:RS),r.bad=true→(G6 f x r).2.bad=true):=by
 intro f
 induction f with
 |zero=>exact⟨fun r h=>by simpa only[Fi]using h,fun r h=>by simpa only[Ek]using h,fun x r h=>by simpa only[Hy]using h,fun r h=>by simpa only[Ez]using h,fun x r h=>by simpa only[G6]using h⟩
 |succ f ih=>
  obtain⟨i1,i2,i3,i4,i5⟩:=ih;refine⟨fun r h=>?_,fun r h=>?_,fun x r h=>?_,fun r h=>?_,fun x r h=>?_⟩
  ·simp only[Fi];rw[if_pos h];exact h
  ·simp only[Ek];exact i3 _ _ (i1 r h)
  ·simp only[Hy];rw[if_neg (by simp[Du h])];exact h
  ·simp only[Ez];exact i5 _ _ (i2 r h)
  ·simp only[G6];rw[if_neg (by simp[Du h]),if_neg (by simp[Du h])];exact h
theorem Ob{r:RS}(h:r.bad=true):(B8 r).2.bad=true:=(Zw 6010).2.2.2.1 r h
def RS.on(r r':RS):Prop:=r'.bad=true∨r.at_<r'.at_
theorem Aoi{r r':RS}(h:r.on r')(hk:r'.ok)(s:List UInt8)(hs:s≠[]):r.on (r'.need s):=by
 rcases h with h|h
 ·exact .inl (T4 h s)
 ·exact .inr (Mz h (Bb hk hs).2.1)
theorem Atz{r r':RS}(h:r.on r')(hk:r'.ok):r.on (B8 r').2:=by
 rcases h with h|h
 ·exact .inl (Ob h)
 ·exact .inr (Mz h (B9 hk).2.1)
theorem Nh{r r':RS}(h:r.step.after r'):r.on r':=.inr (Mz (Aec r.at_) h.2.1)
theorem At0{r:RS}:r.on r.nameR:=by
 simp only[RS.nameR];split
 ·exact .inr (Aec _)
 ·exact .inl rfl
theorem Aza{r:RS}(h:r.ok):r.on (Qz r).2:=by
 have a:=Cv h;have o:=At0 (r:=r);simp only[Qz];split
 ·rename_i ht;have b:=a.trans (Aj (Ay ht (by simp)).1);have c:=b.trans (B9 (b.ok h));have d:=c.trans (Bb (s:=[93]) (c.ok h) (by simp));have e:=d.trans (Bb (s:=[61]) (d.ok h) (by simp));rcases o with o|o
  ·rw[Du o]at ht;cases ht
  ·exact .inr (Mz o ((Aj (Ay ht (by simp)).1).trans ((B9 (b.ok h)).trans ((Bb (s:=[93]) (c.ok h) (by simp)).trans ((Bb (s:=[61]) (d.ok h) (by simp)).trans (B9 (e.ok h)))))).2.1)
 ·have b:=a.trans (Bb (s:=[61]) (a.ok h) (by simp));exact Atz (Aoi o (a.ok h) [61] (by simp)) (b.ok h)
theorem Amw{r:RS}(h:r.ok):r.on (Cz r).2:=by
 simp only[Cz];split
 ·rename_i ht;have b:=Aj (Ay ht (by simp)).1;exact Nh (Dy (b.ok h))
 split
 ·rename_i ht;have b:=Aj (Ay ht (by simp)).1;exact Nh (Cv (b.ok h))
 split
 ·rename_i ht;exact Nh (Fg ((Aj (Ay ht (by simp)).1).ok h))
 split
 ·rename_i ht;exact Nh (Fg ((Aj (Ay ht (by simp)).1).ok h))
 exact Aza h
theorem Y1(f:Nat){r:RS}(h:r.ok):r.on (Dc (f+1) r).2:=by
 have i2:=(F5 f).2.1;simp only[Dc];split
 ·rename_i ht;have b:=Aj (Ay ht (by simp)).1;have c:=Dy (b.ok h);have d:=c.trans (i2 _ (c.ok (b.ok h)));split
  ·rename_i ht2;have e:=d.trans (Aj (Ay ht2 (by simp)).1);exact Nh (e.trans (i2 _ (e.ok (b.ok h))))
  ·exact Nh d
 split
 ·rename_i ht;have b:=Aj (Ay ht (by simp)).1;have c:=Dy (b.ok h);exact Nh (c.trans (i2 _ (c.ok (b.ok h))))
 split
 ·rename_i ht;have b:=Aj (Ay ht (by simp)).1;have c:=K3 (b.ok h);have d:=c.trans (B9 (c.ok (b.ok h)));exact Nh (d.trans (i2 _ (d.ok (b.ok h))))
 ·exact Aoi (Amw h) ((P4 h).ok h) [59] (by simp)
end Go.V
