/- A part of the proof of the claim that the last text states: no condition of its own. -/
import Derived.Below
import Derived.Deep.AppendSrc
import Derived.KernelRfl
import Derived.Laws.AppendOwn
import Derived.Laws.Build
import Derived.Laws.Cells
import Derived.Laws.Concat
import Derived.Laws.CopyRow
import Derived.Laws.Entries
import Derived.Laws.Rows
import Derived.Laws.Strings
import Derived.Laws.Tables
import Derived.Orders
set_option linter.unusedVariables false
set_option linter.unusedSimpArgs false
namespace Go.V
open Go
inductive Sp where
 | no
 | tight
 | tok (t:Nat)
inductive AV where
 | val (v:Value)
 | ptr (b row off:Nat)
 | cptr (cs:List AV)
 | sl (rows:List (List AV)) (sp:Sp)
 | bsl (b n:Nat)
 | bst (b o n:Nat)
 | agg (cs:List AV)
 | tup (vs:List AV)
 | fn (f:FuncId) (cap:List AV)
 | lit (b:Bool)
 | junk
 | err
 | tagN (te b:Nat)
 | buf (te:Nat) (s:List UInt8) (t:Nat)
 | dat (te:Nat) (s:List UInt8) (t:Nat)
 | psl (rows:List (List AV)) (t v:Nat)
 | pp (rows:List (List AV)) (t v i o:Nat)
 deriving Inhabited
structure Tk where
 len:Nat
 sp:Option (Nat × Nat × Nat)
structure Env where
 boxes:List (Option (Nat × Nat))
 toks:List Tk
 fr:Nat→Nat→Prop
 df:List Deferred
def Env.own (E:Env)(b:Nat):Prop :=
 (∃ (i sz:Nat),E.boxes[i]?=some (some (b,sz)))∨(∃ (t l c sz:Nat),E.toks[t]?=some (Tk.mk l (some (b,c,sz))))
def Env.mt (E:Env)(b o:Nat):Prop :=
 E.fr b o∨(∃ (i sz:Nat),E.boxes[i]?=some (some (b,sz)))∨(∃ (t l c sz:Nat),E.toks[t]?=some (Tk.mk l (some (b,c,sz)))∧l*sz≤o)
def SpOk (E:Env)(sp:Sp)(a:Option Addr)(n cap sz:Nat):Prop :=
 match sp with
 | .no=>True
 | .tight=>cap=n
 | .tok t=>∃ k:Tk,E.toks[t]?=some k∧n≤k.len∧(n=k.len→match k.sp with
    | none=>cap=n
    | some (b,c,s)=>cap=c∧a=some ⟨b,0,none⟩∧s=sz)
def maxN:Nat:=9223372036854775807
def typeAt (w:World)(b:Nat):Option TypeId:=match w.heap[b]? with
 | some (.cells _ e _)=>some e
 | _=>none
def BufAt (E:Env)(w:World)(te:Nat)(s:List UInt8)(k:Tk)(p:Option Addr)(cap:Nat):Prop :=
 match k.sp with
 | none=>s=[]∧cap=0∧p=none
 | some (b,c,sz)=>cap=c∧p=some ⟨b,0,none⟩∧sz=1∧typeAt w b=some te∧(∀ j,j<s.length→¬ E.mt b j)∧∀ (j:Nat) (x:UInt8),s[j]?=some x→w.cell? ⟨b,j,none⟩=some (.int .u8 x.toNat)
inductive Flat:AV→Prop where
 | val (v:Value):Flat (.val v)
 | lit (b:Bool):Flat (.lit b)
 | junk:Flat .junk
 | err:Flat .err
 | cptr (cs:List AV) (h:∀ x,x∈cs→Flat x):Flat (.cptr cs)
 | sl (rows:List (List AV)) (sp:Sp) (h:∀ r,r∈rows→∀ x,x∈r→Flat x) (hs:∀ t,sp≠.tok t):Flat (.sl rows sp)
 | agg (cs:List AV) (h:∀ x,x∈cs→Flat x):Flat (.agg cs)
 | tup (cs:List AV) (h:∀ x,x∈cs→Flat x):Flat (.tup cs)
 | fn (f:FuncId) (cs:List AV) (h:∀ x,x∈cs→Flat x):Flat (.fn f cs)
inductive Ok (n m:Nat):AV→Prop where
 | val (v:Value):Ok n m (.val v)
 | lit (b:Bool):Ok n m (.lit b)
 | junk:Ok n m .junk
 | err:Ok n m .err
 | tagN (te b:Nat) (h:b<n):Ok n m (.tagN te b)
 | buf (te:Nat) (s:List UInt8) (t:Nat) (h:t<m):Ok n m (.buf te s t)
 | dat (te:Nat) (s:List UInt8) (t:Nat) (h:t<m):Ok n m (.dat te s t)
 | ptr (b row off:Nat) (h:b<n):Ok n m (.ptr b row off)
 | cptr (cs:List AV) (h:∀ x,x∈cs→Ok n m x):Ok n m (.cptr cs)
 | sl (rows:List (List AV)) (sp:Sp) (h:∀ r,r∈rows→∀ x,x∈r→Ok n m x) (hs:∀ t,sp=.tok t→t<m):Ok n m (.sl rows sp)
 | bsl (b k:Nat) (h:b<n):Ok n m (.bsl b k)
 | bst (b o k:Nat) (h:b<n):Ok n m (.bst b o k)
 | agg (cs:List AV) (h:∀ x,x∈cs→Ok n m x):Ok n m (.agg cs)
 | tup (cs:List AV) (h:∀ x,x∈cs→Ok n m x):Ok n m (.tup cs)
 | fn (f:FuncId) (cs:List AV) (h:∀ x,x∈cs→Ok n m x):Ok n m (.fn f cs)
 | psl (rows:List (List AV)) (t v:Nat) (h:t<m) (hf:∀ r,r∈rows→∀ x,x∈r→Flat x):Ok n m (.psl rows t v)
 | pp (rows:List (List AV)) (t v i o:Nat) (h:t<m) (hf:∀ r,r∈rows→∀ x,x∈r→Flat x):Ok n m (.pp rows t v i o)
def PvAt (w:World)(sp:Option (Nat × Nat × Nat))(a:Option Addr)(n cap sz:Nat)(vals:Nat→Nat→Value):Prop :=
 match sp with
 | none=>n=0∧cap=0
 | some (b,c,s)=>n≠0∧s=0∧c=cap∧a=some ⟨b,0,none⟩∧∃ cs e,w.heap[b]?=some (.cells cs e (0,0))∧cs.size=cap*sz∧∀ i j,i<n→j<sz→cs[i*sz+j]?=some (vals i j)
inductive Rel (E:Env)(w:World):Value→AV→Prop where
 | val (v:Value):Rel E w v (.val v)
 | lit (b:Bool):Rel E w (.bool b) (.lit b)
 | junk (v:Value):Rel E w v .junk
 | err (t:TypeId) (v:Value):Rel E w (.iface t v) .err
 | tagN (te b blk sz:Nat) (h:E.boxes[b]?=some (some (blk,sz))) (ht:typeAt w blk=some te):Rel E w (.pointer none) (.tagN te b)
 | buf (te:Nat) (s:List UInt8) (t:Nat) (a:Option Addr) (cap:Nat) (k:Tk) (hk:E.toks[t]?=some k) (hn:s.length≤k.len) (hx:s.length≤maxN) (hs:s.length=k.len→BufAt E w te s k a cap) (hc:s.length≤cap) :
    Rel E w (.slice a s.length cap) (.buf te s t)
 | dat (te:Nat) (s:List UInt8) (t:Nat) (p:Option Addr) (k:Tk) (hk:E.toks[t]?=some k) (hn:s.length≤k.len) (hs:s.length=k.len→s≠[]→∃ cap,BufAt E w te s k p cap):Rel E w (.pointer p) (.dat te s t)
 | ptr (b row off blk sz:Nat) (h:E.boxes[b]?=some (some (blk,sz))):Rel E w (.pointer (some ⟨blk,row*sz+off,none⟩)) (.ptr b row off)
 | cptr (cs:List AV) (b o:Nat) (vals:Nat→Value) (hm:∀ j,j<cs.length→¬ E.mt b (o+j))
    (hc:∀ j,j<cs.length→w.cell? ⟨b,o+j,none⟩=some (vals j))
    (hr:∀ (j:Nat)(x:AV),cs[j]?=some x→Rel E w (vals j) x):Rel E w (.pointer (some ⟨b,o,none⟩)) (.cptr cs)
 | sl (rows:List (List AV)) (sp:Sp) (a:Option Addr) (n cap b o sz:Nat) (vals:Nat→Nat→Value)
    (hn:rows.length=n)(hx:n≤maxN)(ha:n≠0→a=some ⟨b,o,none⟩)(hsz:∀ r,r∈rows→r.length=sz)
    (hm:∀ i j,i<n→j<sz→¬ E.mt b (o+i*sz+j))
    (hc:∀ i j,i<n→j<sz→w.cell? ⟨b,o+i*sz+j,none⟩=some (vals i j))
    (hr:∀ (i j:Nat)(r:List AV)(x:AV),rows[i]?=some r→r[j]?=some x→Rel E w (vals i j) x)
    (hs:SpOk E sp a n cap sz)(hcap:n≤cap):Rel E w (.slice a n cap) (.sl rows sp)
 | bsl (b blk sz n cap:Nat) (h:E.boxes[b]?=some (some (blk,sz))) (hc:n≤cap):Rel E w (.slice (some ⟨blk,0,none⟩) n cap) (.bsl b n)
 | bst (b blk sz o n cap:Nat) (h:E.boxes[b]?=some (some (blk,sz))):Rel E w (.slice (some ⟨blk,o*sz,none⟩) n cap) (.bst b o n)
 | agg (vs:Array Value) (cs:List AV) (hl:vs.size=cs.length)
    (hr:∀ (j:Nat)(v:Value)(x:AV),vs[j]?=some v→cs[j]?=some x→Rel E w v x):Rel E w (.agg vs) (.agg cs)
 | tup (vs:Array Value) (cs:List AV) (hl:vs.size=cs.length)
    (hr:∀ (j:Nat)(v:Value)(x:AV),vs[j]?=some v→cs[j]?=some x→Rel E w v x):Rel E w (.tuple vs) (.tup cs)
 | fn (f:FuncId) (vs:Array Value) (cs:List AV) (hl:vs.size=cs.length)
    (hr:∀ (j:Nat)(v:Value)(x:AV),vs[j]?=some v→cs[j]?=some x→Rel E w v x):Rel E w (.func (.func f) #[] vs) (.fn f cs)
 | psl (rows:List (List AV)) (t v:Nat) (a:Option Addr) (n cap:Nat) (k:Tk) (sz:Nat) (vals:Nat→Nat→Value) (hn:rows.length=n) (hx:n≤maxN) (hcap:n≤cap) (hk:E.toks[t]?=some k) (hv:v≤k.len)
    (hsz:∀ r,r∈rows→r.length=sz)(hp:v=k.len→PvAt w k.sp a n cap sz vals)
    (hr:∀ (i j:Nat)(r:List AV)(x:AV),rows[i]?=some r→r[j]?=some x→Rel E w (vals i j) x)(hf:∀ r,r∈rows→∀ x,x∈r→Flat x):Rel E w (.slice a n cap) (.psl rows t v)
 | pp (rows:List (List AV)) (t v i o b sz n cap:Nat) (h:Rel E w (.slice (some ⟨b,0,none⟩) n cap) (.psl rows t v)) (hi:i<rows.length) (hsz:∀ r,r∈rows→r.length=sz) :
    Rel E w (.pointer (some ⟨b,i*sz+o,none⟩)) (.pp rows t v i o)
theorem Flat.ok {n m:Nat}{x:AV}(h:Flat x):Ok n m x:=by
 induction h with
 | val v=>exact .val v
 | lit b=>exact .lit b
 | junk=>exact .junk
 | err=>exact .err
 | cptr cs _ ih=>exact .cptr cs ih
 | sl rows sp _ hs ih=>exact .sl rows sp ih (fun t ht=>absurd ht (hs t))
 | agg cs _ ih=>exact .agg cs ih
 | tup cs _ ih=>exact .tup cs ih
 | fn f cs _ ih=>exact .fn f cs ih
theorem Ok.flat {n m:Nat}{x:AV}(h:Ok n m x)(hn:n=0)(hm:m=0):Flat x:=by
 induction h with
 | val v=>exact .val v
 | lit b=>exact .lit b
 | junk=>exact .junk
 | err=>exact .err
 | tagN te b h=>omega
 | buf te s t h=>omega
 | dat te s t h=>omega
 | ptr b r o h=>omega
 | cptr cs _ ih=>exact .cptr cs ih
 | sl rows sp _ hs ih=>exact .sl rows sp ih (fun t ht=>by have:=hs t ht;omega)
 | bsl b k h=>omega
 | bst b o k h=>omega
 | agg cs _ ih=>exact .agg cs ih
 | tup cs _ ih=>exact .tup cs ih
 | fn f cs _ ih=>exact .fn f cs ih
 | psl rows t v h hf=>omega
 | pp rows t v i o h hf=>omega
theorem Ok.mono {n m n' m':Nat}{x:AV}(h:Ok n m x)(hn:n≤n')(hm:m≤m'):Ok n' m' x:=by
 induction h with
 | val v=>exact .val v
 | lit b=>exact .lit b
 | junk=>exact .junk
 | err=>exact .err
 | tagN te b h=>exact .tagN te b (by omega)
 | buf te s t h=>exact .buf te s t (by omega)
 | dat te s t h=>exact .dat te s t (by omega)
 | ptr b r o h=>exact .ptr b r o (by omega)
 | cptr cs _ ih=>exact .cptr cs ih
 | sl rows sp _ hs ih=>exact .sl rows sp ih (fun t ht=>by have:=hs t ht;omega)
 | bsl b k h=>exact .bsl b k (by omega)
 | bst b o k h=>exact .bst b o k (by omega)
 | agg cs _ ih=>exact .agg cs ih
 | tup cs _ ih=>exact .tup cs ih
 | fn f cs _ ih=>exact .fn f cs ih
 | psl rows t v h hf=>exact .psl rows t v (by omega) hf
 | pp rows t v i o h hf=>exact .pp rows t v i o (by omega) hf
theorem lt_of_get {α:Type}{l:List α}{i:Nat}{x:α}(h:l[i]?=some x):i<l.length:=by
 rcases Nat.lt_or_ge i l.length with h' | h'
 ·exact h'
 ·rw [List.getElem?_eq_none h'] at h;cases h
theorem aget_of_lt {α:Type}(l:Array α){i:Nat}(h:i<l.size):∃ x,l[i]?=some x:=⟨l[i],by simp [h]⟩
theorem lget_of_mem {α:Type}{l:List α}{x:α}(h:x∈l):∃ i:Nat,l[i]?=some x:=by
 obtain ⟨i,hi,rfl⟩:=List.getElem_of_mem h
 exact ⟨i,by simp [hi]⟩
theorem Rel.ok {E:Env}{w:World}{v:Value}{x:AV}(h:Rel E w v x):Ok E.boxes.length E.toks.length x:=by
 induction h with
 | val v=>exact .val v
 | lit b=>exact .lit b
 | junk v=>exact .junk
 | err t v=>exact .err
 | tagN te b blk sz h ht=>exact .tagN _ _ (lt_of_get h)
 | buf te s t a cap k hk hn hx hs hc=>exact .buf _ _ _ (lt_of_get hk)
 | dat te s t p k hk hn hs=>exact .dat _ _ _ (lt_of_get hk)
 | ptr b row off blk sz h=>exact .ptr _ _ _ (lt_of_get h)
 | cptr cs b o vals hm hc hr ih=>exact .cptr _ (fun x hx=>by obtain ⟨i,hi⟩:=lget_of_mem hx;exact ih i x hi)
 | sl rows sp a n cap b o sz vals hn hx ha hsz hm hc hr hs hcap ih =>
   refine .sl _ _ (fun r hr' x hx'=>?_) (fun t ht=>?_)
   ·obtain ⟨i,hi⟩:=lget_of_mem hr'
    obtain ⟨j,hj⟩:=lget_of_mem hx'
    exact ih i j r x hi hj
   ·subst ht
    obtain ⟨k,hk,_⟩:=hs
    exact lt_of_get hk
 | bsl b blk sz n cap h hc=>exact .bsl _ _ (lt_of_get h)
 | bst b blk sz o n cap h=>exact .bst _ _ _ (lt_of_get h)
 | agg vs cs hl hr ih =>
   refine .agg _ (fun x hx=>?_)
   obtain ⟨i,hi⟩:=lget_of_mem hx
   obtain ⟨v,hv⟩:=aget_of_lt vs (i:=i) (by rw [hl];exact lt_of_get hi)
   exact ih i v x hv hi
 | tup vs cs hl hr ih =>
   refine .tup _ (fun x hx=>?_)
   obtain ⟨i,hi⟩:=lget_of_mem hx
   obtain ⟨v,hv⟩:=aget_of_lt vs (i:=i) (by rw [hl];exact lt_of_get hi)
   exact ih i v x hv hi
 | fn f vs cs hl hr ih =>
   refine .fn _ _ (fun x hx=>?_)
   obtain ⟨i,hi⟩:=lget_of_mem hx
   obtain ⟨v,hv⟩:=aget_of_lt vs (i:=i) (by rw [hl];exact lt_of_get hi)
   exact ih i v x hv hi
 | psl rows t v a n cap k sz vals hn hx hcap hk hv hsz hp hr hf ih=>exact .psl rows t v (lt_of_get hk) hf
 | pp rows t v i o b sz n cap h hi hsz ih=>cases ih with | psl _ _ _ ht hf=>exact .pp rows t v i o ht hf
theorem Rel.pp_inv {E:Env}{w:World}{v:Value}{rows:List (List AV)}{t ver i o:Nat}(h:Rel E w v (.pp rows t ver i o)) :
 ∃ b sz n cap,v=.pointer (some ⟨b,i*sz+o,none⟩)∧Rel E w (.slice (some ⟨b,0,none⟩) n cap) (.psl rows t ver)∧i<rows.length∧∀ r,r∈rows→r.length=sz:=by
 cases h with
 | pp _ _ _ _ _ b sz n cap h hi hsz=>exact ⟨b,sz,n,cap,rfl,h,hi,hsz⟩
structure Evol (E:Env)(w:World)(E':Env)(w':World)(n m:Nat):Prop where
 fr:E'.fr=E.fr
 boxes:∀ i:Nat,i<n→i<E.boxes.length→i<E'.boxes.length∧∀ x,E.boxes[i]?=some (some x)→E'.boxes[i]?=some (some x)
 toks:∀ t:Nat,t<m→∀ k:Tk,E.toks[t]?=some k→∃ k',E'.toks[t]?=some k'∧(k'=k∨k.len<k'.len)
 os:w'.os=w.os
 tape:w'.tape=w.tape
 output:w'.output=w.output
 size:w.heap.size≤w'.heap.size
 block:∀ k:Nat,k<w.heap.size→¬ E.own k→w'.heap[k]?=w.heap[k]?
 cell:∀ b o v,¬ E.mt b o→w.cell? ⟨b,o,none⟩=some v→w'.cell? ⟨b,o,none⟩=some v
 mt:∀ b o,b<w.heap.size→E'.mt b o→E.mt b o
 own:∀ b,b<w.heap.size→E'.own b→E.own b
 df:E'.df=E.df
 ty:∀ b e,typeAt w b=some e→typeAt w' b=some e
 pv:∀ t:Nat,t<m→∀ (k:Tk) (b c:Nat),E.toks[t]?=some k→k.sp=some (b,c,0)→E'.toks[t]?=some k→∀ o,w.heap[b]?=some o→w'.heap[b]?=some o
theorem heap_lt {w:World}{b:Nat}{o:Obj}(h:w.heap[b]?=some o):b<w.heap.size:=by
 rcases Nat.lt_or_ge b w.heap.size with h' | h'
 ·exact h'
 ·rw [Array.getElem?_eq_none h'] at h;cases h
theorem cell_lt {w:World}{b o:Nat}{v:Value}(h:w.cell? ⟨b,o,none⟩=some v):b<w.heap.size:=by
 unfold World.cell? at h
 rcases Nat.lt_or_ge b w.heap.size with h' | h'
 ·exact h'
 ·simp [Array.getElem?_eq_none h'] at h
theorem Evol.refl (E:Env)(w:World)(n m:Nat):Evol E w E w n m :=
 ⟨rfl,fun _ _ h=>⟨h,fun _ h=>h⟩,fun _ _ k h=>⟨k,h,.inl rfl⟩,rfl,rfl,rfl,Nat.le_refl _,fun _ _ _=>rfl,fun _ _ _ _ h=>h,fun _ _ _ h=>h,fun _ _ h=>h,rfl,fun _ _ h=>h,fun _ _ _ _ _ _ _ _ _ h=>h⟩
theorem Evol.trans {E E' E'':Env}{w w' w'':World}{n m:Nat}(h:Evol E w E' w' n m)(k:Evol E' w' E'' w'' n m):Evol E w E'' w'' n m where
 fr:=k.fr.trans h.fr
 boxes i hi hl:=let ⟨h1,h2⟩:=h.boxes i hi hl;let ⟨h3,h4⟩:=k.boxes i hi h1;⟨h3,fun x hx=>h4 x (h2 x hx)⟩
 toks t ht x hx:=by
  obtain ⟨y,hy,h1⟩:=h.toks t ht x hx
  obtain ⟨z,hz,h2⟩:=k.toks t ht y hy
  refine ⟨z,hz,?_⟩
  rcases h1 with rfl | h1<;>rcases h2 with rfl | h2
  ·exact .inl rfl
  ·exact .inr h2
  ·exact .inr h1
  ·exact .inr (by omega)
 os:=k.os.trans h.os
 tape:=k.tape.trans h.tape
 output:=k.output.trans h.output
 size:=Nat.le_trans h.size k.size
 block i hi ho:=by
  have h1:=h.block i hi ho
  rw [← h1]
  exact k.block i (Nat.lt_of_lt_of_le hi h.size) (fun hh=>ho (h.own i hi hh))
 cell b o v hm hc:=by
  have hb:=cell_lt hc
  exact k.cell b o v (fun hh=>hm (h.mt b o hb hh)) (h.cell b o v hm hc)
 mt b o hb hh:=h.mt b o hb (k.mt b o (Nat.lt_of_lt_of_le hb h.size) hh)
 own b hb hh:=h.own b hb (k.own b (Nat.lt_of_lt_of_le hb h.size) hh)
 df:=k.df.trans h.df
 ty b e he:=k.ty b e (h.ty b e he)
 pv t ht x b c h1 h2 h3 o ho:=by
  obtain ⟨y,hy,h4⟩:=h.toks t ht x h1
  obtain ⟨z,hz,h5⟩:=k.toks t ht y hy
  rw [h3] at hz;cases hz
  have:y=x:=by
   rcases h4 with h4 | h4
   ·exact h4
   ·rcases h5 with h5 | h5
    ·exact h5.symm
    ·omega
  subst this
  exact k.pv t ht _ b c hy h2 h3 o (h.pv t ht _ b c h1 h2 hy o ho)
theorem Evol.weaken {E E':Env}{w w':World}{n m n' m':Nat}(h:Evol E w E' w' n m)(hn:n'≤n)(hm:m'≤m):Evol E w E' w' n' m' :=
 { h with boxes:=fun i hi=>h.boxes i (by omega),toks:=fun t ht=>h.toks t (by omega),pv:=fun t ht=>h.pv t (by omega) }
theorem BufAt.move {E E':Env}{w w':World}(evc:∀ b o v,¬ E.mt b o→w.cell? ⟨b,o,none⟩=some v→w'.cell? ⟨b,o,none⟩=some v)(evm:∀ b o,b<w.heap.size→E'.mt b o→E.mt b o)
 (evs:∀ b e,typeAt w b=some e→typeAt w' b=some e){te:Nat}{s:List UInt8}{k:Tk}{p:Option Addr}{cap:Nat}(h:BufAt E w te s k p cap):BufAt E' w' te s k p cap:=by
 unfold BufAt at h ⊢
 split at h
 ·exact h
 ·obtain ⟨h1,h2,h3,h4,h5,h6⟩:=h
  refine ⟨h1,h2,h3,evs _ _ h4,fun j hj hh=>?_,fun j x hx=>?_⟩
  ·obtain ⟨x,hx⟩:∃ x,s[j]?=some x:=⟨s[j],by simp [hj]⟩
   exact h5 j hj (evm _ _ (cell_lt (h6 j x hx)) hh)
  ·exact evc _ _ _ (h5 j (lt_of_get hx)) (h6 j x hx)
theorem Rel.move {E E':Env}{w w':World}{n m:Nat}(evb:∀ i:Nat,i<n→i<E.boxes.length→i<E'.boxes.length∧∀ x,E.boxes[i]?=some (some x)→E'.boxes[i]?=some (some x))
 (evt:∀ t:Nat,t<m→∀ k:Tk,E.toks[t]?=some k→∃ k',E'.toks[t]?=some k'∧(k'=k∨k.len<k'.len))
 (evc:∀ b o v,¬ E.mt b o→w.cell? ⟨b,o,none⟩=some v→w'.cell? ⟨b,o,none⟩=some v)
 (evm:∀ b o,b<w.heap.size→E'.mt b o→E.mt b o)(evs:∀ b e,typeAt w b=some e→typeAt w' b=some e)
 (evp:∀ t:Nat,t<m→∀ (k:Tk)(b c:Nat),E.toks[t]?=some k→k.sp=some (b,c,0)→E'.toks[t]?=some k→∀ o,w.heap[b]?=some o→w'.heap[b]?=some o){v:Value}{x:AV}(h:Rel E w v x)(ho:Ok n m x):Rel E' w' v x:=by
 induction h with
 | val v=>exact .val v
 | lit b=>exact .lit b
 | junk v=>exact .junk v
 | err t v=>exact .err t v
 | tagN te b blk sz h ht=>cases ho with | tagN _ _ hb=>exact .tagN _ _ _ _ ((evb b hb (lt_of_get h)).2 _ h) (evs _ _ ht)
 | buf te s t a cap k hk hn hx hs hc =>
   cases ho with
   | buf _ _ _ ht =>
     obtain ⟨k',hk',h'⟩:=evt t ht k hk
     refine .buf te s t a cap k' hk' ?_ hx (fun hl=>?_) hc
     ·rcases h' with rfl | h'<;>omega
     ·rcases h' with rfl | h'
      ·exact BufAt.move evc evm evs (hs hl)
      ·omega
 | dat te s t p k hk hn hs =>
   cases ho with
   | dat _ _ _ ht =>
     obtain ⟨k',hk',h'⟩:=evt t ht k hk
     refine .dat te s t p k' hk' ?_ (fun hl h0=>?_)
     ·rcases h' with rfl | h'<;>omega
     ·rcases h' with rfl | h'
      ·obtain ⟨cap,hb⟩:=hs hl h0
       exact ⟨cap,BufAt.move evc evm evs hb⟩
      ·omega
 | ptr b row off blk sz h=>cases ho with | ptr _ _ _ hb=>exact .ptr _ _ _ _ _ ((evb b hb (lt_of_get h)).2 _ h)
 | cptr cs b o vals hm hc hr ih =>
   cases ho with
   | cptr _ ho =>
     refine .cptr cs b o vals (fun j hj hh=>hm j hj (evm b _ (cell_lt (hc j hj)) hh)) (fun j hj=>evc _ _ _ (hm j hj) (hc j hj)) (fun j x hx=>?_)
     exact ih j x hx (ho x (List.mem_of_getElem? hx))
 | sl rows sp a n' cap b o sz vals hn hx ha hsz hm hc hr hs hcap ih =>
   cases ho with
   | sl _ _ ho hso =>
     refine .sl rows sp a n' cap b o sz vals hn hx ha hsz (fun i j hi hj hh=>hm i j hi hj (evm b _ (cell_lt (hc i j hi hj)) hh))
      (fun i j hi hj=>evc _ _ _ (hm i j hi hj) (hc i j hi hj)) (fun i j r x hr' hx'=>?_) ?_ hcap
     ·exact ih i j r x hr' hx' (ho r (List.mem_of_getElem? hr') x (List.mem_of_getElem? hx'))
     ·cases sp with
      | no=>trivial
      | tight=>exact hs
      | tok t =>
        obtain ⟨k,hk,hle,hkk⟩:=hs
        obtain ⟨k',hk',h'⟩:=evt t (hso t rfl) k hk
        refine ⟨k',hk',?_,?_⟩
        ·rcases h' with rfl | h'<;>omega
        ·intro hnn
         rcases h' with rfl | h'
         ·exact hkk hnn
         ·omega
 | bsl b blk sz n cap h hc=>cases ho with | bsl _ _ hb=>exact .bsl _ _ _ _ _ ((evb b hb (lt_of_get h)).2 _ h) hc
 | bst b blk sz o n cap h=>cases ho with | bst _ _ _ hb=>exact .bst _ _ _ _ _ _ ((evb b hb (lt_of_get h)).2 _ h)
 | agg vs cs hl hr ih=>cases ho with | agg _ ho=>exact .agg vs cs hl (fun j v x hv hx=>ih j v x hv hx (ho x (List.mem_of_getElem? hx)))
 | tup vs cs hl hr ih=>cases ho with | tup _ ho=>exact .tup vs cs hl (fun j v x hv hx=>ih j v x hv hx (ho x (List.mem_of_getElem? hx)))
 | fn f vs cs hl hr ih=>cases ho with | fn _ _ ho=>exact .fn f vs cs hl (fun j v x hv hx=>ih j v x hv hx (ho x (List.mem_of_getElem? hx)))
 | psl rows t v a n' cap k sz vals hn hx hcap hk hv hsz hp hr hf ih =>
   cases ho with
   | psl _ _ _ ht _ =>
     obtain ⟨k',hk',h'⟩:=evt t ht k hk
     refine .psl rows t v a n' cap k' sz vals hn hx hcap hk' ?_ hsz (fun hl=>?_) (fun i j r x h1 h2=>ih i j r x h1 h2 (hf r (List.mem_of_getElem? h1) x (List.mem_of_getElem? h2)).ok) hf
     ·rcases h' with rfl | h'<;>omega
     ·rcases h' with rfl | h'
      ·have hp:=hp hl
       obtain ⟨kl,ksp⟩:=k'
       cases ksp with
       | none=>exact hp
       | some q =>
         obtain ⟨b,c,s⟩:=q
         obtain ⟨h1,rfl,h2,h3,cs,e,h4,h5⟩:=hp
         exact ⟨h1,rfl,h2,h3,cs,e,evp t ht _ b c hk rfl hk' _ h4,h5⟩
      ·omega
 | pp rows t v i o b sz n' cap h hi hsz ih =>
   cases ho with
   | pp _ _ _ _ _ ht hf=>exact .pp rows t v i o b sz n' cap (ih (.psl _ _ _ ht hf)) hi hsz
theorem Rel.mono {E E':Env}{w w':World}{n m:Nat}(ev:Evol E w E' w' n m){v:Value}{x:AV}(h:Rel E w v x)(ho:Ok n m x):Rel E' w' v x :=
 h.move ev.boxes ev.toks ev.cell ev.mt ev.ty ev.pv ho
theorem Rel.step {E E':Env}{w w':World}(ev:Evol E w E' w' E.boxes.length E.toks.length){v:Value}{x:AV}(h:Rel E w v x):Rel E' w' v x:=h.mono ev h.ok
structure St where
 boxes:List (List (List AV))
 toks:List Nat
inductive TK where
 | flat
 | int (k:IntKind)
 | string
 | bool
 | str (fs:List (Nat × Nat))
 | arr (n e:Nat)
 | slc (e:Nat)
structure Ty where
 size:Nat
 k:TK
 zero:List AV
 fa:List Bool:=[]
def ofVal:Value→AV
 | .slice none 0 0=>.sl [] .tight
 | v=>.val v
def ofAny:Value→AV
 | .agg cs=>.agg (cs.toList.map ofVal)
 | v=>ofVal v
def isAggK:TK→Bool
 | .str _=>true
 | .arr _ _=>true
 | _=>false
structure TyOk (P:Program)(t:TypeId)(y:Ty)(ty:Nat→Option Ty):Prop where
 info:∃ i z,P.info? t=some i∧i.size=y.size∧i.bytes≤1024∧i.zero=some z∧z.cells.toList.map ofVal=y.zero∧y.zero.length=y.size∧(isAggK y.k=false→y.size=1)
 agg:∃ d,P.underlying t=some d∧(match y.k with
  | .str fs=>∃ fields:Array Field,d=.struct fields∧fields.toList.mapM (fun f=>(P.info? f.type).map fun i=>(f.offset,i.size))=some fs∧∀ i off sz:Nat,fs[i]?=some (off,sz)→∃ f i',fields[i]?=some f∧f.offset=off∧P.info? f.type=some i'∧i'.size=sz∧sz≠0∧off+sz≤y.size∧(∀ g,y.fa[i]?=some g→∃ d',P.underlying f.type=some d'∧(g=true↔((∃ fs',d'=.struct fs')∨∃ n' e',d'=.array n' e')))
  | .arr n e=>d=.array n e∧∃ ye,ty e=some ye∧n*ye.size=y.size∧ye.size≠0
  | .slc e=>d=.slice e∧∃ ye,ty e=some ye∧ye.size≠0
  | .int k=>d=.int k
  | .string=>d=.string
  | .bool=>d=.bool
  | .flat=>(∀ fs,d≠.struct fs)∧(∀ n e,d≠.array n e))
structure Cx where
 P:Program
 ty:Nat→Option Ty
 G:Nat→Option (List AV)
 K0:Nat
 Glob:World→Prop
 ty_ok:∀ t y,ty t=some y→TyOk P t y ty
 glob_st:∀ w w':World,(∀ k,k<K0→w'.heap[k]?=w.heap[k]?)→K0≤w.heap.size→w'.os=w.os→Glob w→Glob w'
 glob_G:∀ w,Glob w→∀ g cells,G g=some cells→g<K0∧∀ (j:Nat) (x:AV),cells[j]?=some x→∃ v,w.cell? ⟨g,j,none⟩=some v∧x=.val v
 mixed:P.follows .mixedOrders=true
def BoxRel (E:Env)(w:World)(b sz:Nat)(rows:List (List AV)):Prop :=
 ∃ cs e,w.heap[b]?=some (.cells cs e (0,0))∧cs.size=rows.length*sz∧(∀ r,r∈rows→r.length=sz) ∧
  ∀ (k:Nat) (r:List AV) (j:Nat) (x:AV) (v:Value),rows[k]?=some r→r[j]?=some x→cs[k*sz+j]?=some v→Rel E w v x
structure Inv (X:Cx)(E:Env)(S:St)(w:World):Prop where
 nb:E.boxes.length=S.boxes.length
 nt:E.toks.map Tk.len=S.toks
 np:∀ i:Nat,i<E.boxes.length→∃ q,E.boxes[i]?=some (some q)
 box:∀ (i b sz:Nat) (rows:List (List AV)),E.boxes[i]?=some (some (b,sz))→S.boxes[i]?=some rows→BoxRel E w b sz rows
 tok:∀ (t l b c sz:Nat),E.toks[t]?=some (Tk.mk l (some (b,c,sz)))→(sz≠0→l≤c)∧l≠0∧∃ cs e,w.heap[b]?=some (.cells cs e (0,0))∧(sz≠0→cs.size=c*sz)
 bb:∀ (i j b s s':Nat),E.boxes[i]?=some (some (b,s))→E.boxes[j]?=some (some (b,s'))→i=j
 bt:∀ (i t b s l c sz:Nat),E.boxes[i]?=some (some (b,s))→E.toks[t]?=some (Tk.mk l (some (b,c,sz)))→False
 tt:∀ (i j b l c s l' c' s':Nat),E.toks[i]?=some (Tk.mk l (some (b,c,s)))→E.toks[j]?=some (Tk.mk l' (some (b,c',s')))→i=j
 frlt:∀ b o,E.fr b o→¬ E.own b∧b<w.heap.size
 lo:∀ b,E.own b→X.K0≤b
 frlo:∀ b o,E.fr b o→X.K0≤b
 sz:X.K0≤w.heap.size
 glob:X.Glob w
theorem Env.own_of_mut {X:Cx}{E:Env}{S:St}{w:World}(hI:Inv X E S w){b o:Nat}(h:E.mt b o):E.own b∨E.fr b o:=by
 rcases h with h | ⟨i,s,h⟩ | ⟨t,l,c,s,h,_⟩
 ·exact .inr h
 ·exact .inl (.inl ⟨i,s,h⟩)
 ·exact .inl (.inr ⟨t,l,c,s,h⟩)
theorem Inv.own_lt {X:Cx}{E:Env}{S:St}{w:World}(hI:Inv X E S w){b:Nat}(h:E.own b):b<w.heap.size:=by
 have key:∀ {o:Obj},w.heap[b]?=some o→b<w.heap.size:=fun h=>by
  rcases Nat.lt_or_ge b w.heap.size with h' | h'
  ·exact h'
  ·rw [Array.getElem?_eq_none h'] at h;cases h
 rcases h with ⟨i,s,h⟩ | ⟨t,l,c,s,h⟩
 ·have hi:i<S.boxes.length:=by rw [← hI.nb];exact lt_of_get h
  obtain ⟨cs,e,hh,_⟩:=hI.box i b s S.boxes[i] h (by simp [hi])
  exact key hh
 ·obtain ⟨_,_,cs,e,hh,_⟩:=hI.tok t l b c s h
  exact key hh
abbrev Frm:=List (Nat × AV)
def lk:Frm→Nat→Option AV
 | [],_=>none
 | (k,x)::F,n=>match Nat.beq k n with
   | true=>some x
   | false=>lk F n
def getN {α:Type}:List α→Nat→Option α
 | [],_=>none
 | a::_,0=>some a
 | _::l,n+1=>getN l n
def takeK {R:Type}:Nat→List AV→(List AV→Option R)→Option R
 | 0,_,k=>k []
 | n+1,a::l,k=>takeK n l fun t=>k (a::t)
 | _+1,[],_=>none
def dropK {R:Type}:Nat→List AV→(List AV→Option R)→Option R
 | 0,l,k=>k l
 | n+1,_::l,k=>dropK n l k
 | _+1,[],_=>none
def putK {R:Type}:List AV→Nat→List AV→(List AV→Option R)→Option R
 | l,0,[],k=>k l
 | a::l,0,x::xs,k=>putK l 0 xs fun t=>k (x::t)
 | a::l,n+1,xs,k=>putK l n xs fun t=>k (a::t)
 | [],0,_::_,_=>none
 | [],_+1,_,_=>none
def setK {α R:Type}:List α→Nat→α→(List α→Option R)→Option R
 | _::l,0,x,k=>k (x::l)
 | a::l,n+1,x,k=>setK l n x fun t=>k (a::t)
 | [],_,_,_=>none
def snocK {α R:Type}:List α→α→(List α→Option R)→Option R
 | [],x,k=>k [x]
 | a::l,x,k=>snocK l x fun t=>k (a::t)
def lenK {α:Type}:List α→Nat
 | []=>0
 | [_]=>1
 | [_,_]=>2
 | [_,_,_]=>3
 | [_,_,_,_]=>4
 | [_,_,_,_,_]=>5
 | [_,_,_,_,_,_]=>6
 | [_,_,_,_,_,_,_]=>7
 | [_,_,_,_,_,_,_,_]=>8
 | [_,_,_,_,_,_,_,_,_]=>9
 | [_,_,_,_,_,_,_,_,_,_]=>10
 | l=>l.length
def addN:Nat→Nat→Nat
 | 0,b=>b
 | a+1,b=>a+1+b
def cellish:AV→Bool
 | .val (.agg _)=>false
 | .val (.tuple _)=>false
 | .val _=>true
 | .ptr _ _ _=>true
 | .cptr _=>true
 | .tagN _ _=>true
 | .buf _ _ _=>true
 | .dat _ _ _=>true
 | .psl _ _ _=>true
 | .pp _ _ _ _ _=>true
 | .sl _ _=>true
 | .bsl _ _=>true
 | .bst _ _ _=>false
 | .fn _ _=>true
 | .lit _=>true
 | .agg _=>false
 | .tup _=>false
 | .junk=>false
 | .err=>true
def allCellish:List AV→Bool
 | []=>true
 | x::l=>match cellish x with
   | true=>allCellish l
   | false=>false
def cellsOf:AV→Option (List AV)
 | .agg cs=>match allCellish cs with
   | true=>some cs
   | false=>none
 | x=>match cellish x with
   | true=>some [x]
   | false=>none
def finA (agg:Bool)(cs:List AV):Option AV :=
 match agg with
 | true=>some (.agg cs)
 | false=>match cs with
   | [x]=>some x
   | _=>none
def toVal:AV→Option Value
 | .val v=>some v
 | _=>none
def toVals:List AV→Option (List Value)
 | []=>some []
 | x::l=>match toVal x with
   | some v=>match toVals l with
     | some vs=>some (v::vs)
     | none=>none
   | none=>none
def opr (X:Cx)(F:Frm):Operand→Option AV
 | .tmp t=>match lk F t with
   | some (.lit b)=>some (.val (.bool b))
   | x=>x
 | .const v=>match ofAny v with
   | .val u=>some (.val u)
   | x=>some x
 | .global g=>match X.G g with
   | some cs=>some (.cptr cs)
   | none=>none
 | .func f=>some (.fn f [])
def oprs (X:Cx)(F:Frm):List Operand→Option (List AV)
 | []=>some []
 | o::l=>match opr X F o with
   | some x=>match oprs X F l with
     | some xs=>some (x::xs)
     | none=>none
   | none=>none
def loadA (S:St)(sz:Nat)(agg:Bool):AV→Option AV
 | .ptr b r o=>match getN S.boxes b with
   | some rows=>match getN rows r with
     | some cs=>dropK o cs fun c=>takeK sz c fun c'=>finA agg c'
     | none=>none
   | none=>none
 | .cptr cs=>takeK sz cs fun c'=>finA agg c'
 | _=>none
def storeA (S:St)(sz:Nat)(a x:AV):Option St :=
 match a with
 | .ptr b r o=>match cellsOf x with
   | some xs=>match Nat.beq xs.length sz with
     | true=>match S with
       | ⟨bx,tk⟩=>match getN bx b with
         | some rows=>match getN rows r with
           | some cs=>putK cs o xs fun cs'=>setK rows r cs' fun rows'=>setK bx b rows' fun bs=>some ⟨bs,tk⟩
           | none=>none
         | none=>none
     | false=>none
   | none=>none
 | _=>none
def layF (X:Cx)(F:Frm)(fs:List (Nat × Nat)):List (Nat × Operand)→List AV→Option AV
 | [],cs=>some (.agg cs)
 | (i,o)::ps,cs=>match getN fs i with
   | some (off,sz)=>match opr X F o with
     | some x=>match cellsOf x with
       | some xs=>match Nat.beq xs.length sz with
         | true=>putK cs off xs fun cs'=>layF X F fs ps cs'
         | false=>none
       | none=>none
     | none=>none
   | none=>none
def layR (X:Cx)(F:Frm)(sz:Nat):List (Nat × Operand)→List (List AV)→Option AV
 | [],rows=>some (.sl rows .tight)
 | (i,o)::ps,rows=>match opr X F o with
     | some x=>match cellsOf x with
       | some xs=>match Nat.beq xs.length sz with
         | true=>setK rows i xs fun rows'=>layR X F sz ps rows'
         | false=>none
       | none=>none
     | none=>none
def repC {α R:Type}:Nat→α→(List α→Option R)→Option R
 | 0,_,k=>k []
 | n+1,a,k=>repC n a fun l=>k (a::l)
def catK:List AV→List AV→(List AV→Option (List AV))→Option (List AV)
 | [],l,k=>k l
 | x::xs,l,k=>catK xs l fun t=>k (x::t)
def catA (xs caps:List AV):Option (List AV) :=
 match caps with
 | []=>some xs
 | l=>catK xs l some
def intOp (op:BinOp)(k:IntKind)(a b:Int)(yc:Bool):Option Value :=
 match op with
 | .add=>some (.int k (k.wrap (a+b)))
 | .sub=>some (.int k (k.wrap (a-b)))
 | .mul=>some (.int k (k.wrap (a*b)))
 | .quo=>match yc with
   | true=>match decide (b=0) with
     | false=>some (.int k (k.wrap (a.tdiv b)))
     | true=>none
   | false=>none
 | .rem=>match yc with
   | true=>match decide (b=0) with
     | false=>some (.int k (a.tmod b))
     | true=>none
   | false=>none
 | .eql=>some (.bool (a==b))
 | .neq=>some (.bool (a != b))
 | .lss=>some (.bool (decide (a<b)))
 | .leq=>some (.bool (decide (a≤b)))
 | .gtr=>some (.bool (decide (a > b)))
 | .geq=>some (.bool (decide (a≥b)))
 | _=>none
def strOp (op:BinOp)(a b:ByteArray):Option Value :=
 match op with
 | .eql=>some (.bool (a.data.toList==b.data.toList))
 | .neq=>some (.bool (!(a.data.toList==b.data.toList)))
 | _=>none
def isConst:Operand→Bool
 | .const _=>true
 | _=>false
def binA (op:BinOp)(yc:Bool):AV→AV→Option AV
 | .val (.int k a),.val (.int k' b)=>match decide (k=k') with
   | true=>match intOp op k a b yc with
     | some v=>some (.val v)
     | none=>none
   | false=>none
 | .val (.string a),.val (.string b)=>match strOp op a b with
   | some v=>some (.val v)
   | none=>none
 | _,_=>none
def binB (op:BinOp)(k:TK):AV→AV→Option AV
 | .val (.bool a),.val (.bool b)=>match k with
   | .bool=>match op with
     | .eql=>some (.val (.bool (a==b)))
     | .neq=>some (.val (.bool (!(a==b))))
     | _=>none
   | _=>none
 | _,_=>none
def unA (op:UnOp):AV→Option AV
 | .val (.bool b)=>match op with
   | .not=>some (.val (.bool (!b)))
   | _=>none
 | .val (.int k n)=>match op with
   | .neg=>some (.val (.int k (k.wrap (-n))))
   | _=>none
 | _=>none
def nilA:AV→Option AV
 | .ptr b r o=>some (.ptr b r o)
 | .cptr cs=>some (.cptr cs)
 | .fn f c=>some (.fn f c)
 | _=>none
def lenA (S:St)(k:TK):AV→Option AV
 | .sl rows _=>match k with
   | .slc _=>some (.val (.int .i64 rows.length))
   | _=>none
 | .val (.string s)=>match k with
   | .string=>some (.val (.int .i64 s.size))
   | _=>none
 | .bsl _ n=>match k with
   | .slc _=>some (.val (.int .i64 n))
   | _=>none
 | .psl rows _ _=>match k with
   | .slc _=>some (.val (.int .i64 rows.length))
   | _=>none
 | _=>none
def sizeT (X:Cx)(t:Nat):Option (Nat × Bool) :=
 match X.ty t with
 | some y=>some (y.size,isAggK y.k)
 | none=>none
def evalR (X:Cx)(F:Frm)(S:St):Op→Option AV
 | .move x=>opr X F x
 | .assign x=>opr X F x
 | .pick (.tmp c) a b=>match lk F c with
   | some (.lit true)=>opr X F a
   | some (.lit false)=>opr X F b
   | some (.val (.bool e))=>match opr X F a with
     | some (.val (.bool p))=>match opr X F b with
       | some (.val (.bool q))=>some (.val (.bool (cond e p q)))
       | _=>none
     | _=>none
   | _=>none
 | .build t ps=>match X.ty t with
   | some y=>match y.k with
     | .str fs=>layF X F fs ps.toList y.zero
     | _=>none
   | none=>none
 | .load t a=>match sizeT X t with
   | some (sz,agg)=>match opr X F a with
     | some x=>loadA S sz agg x
     | none=>none
   | none=>none
 | .nilCheck x=>match opr X F x with
   | some y=>nilA y
   | none=>none
 | .binOp op t x y _=>match opr X F x with
   | some a=>match opr X F y with
     | some b=>match binA op (isConst y) a b with
       | some r=>some r
       | none=>match X.ty t with
         | some yt=>binB op yt.k a b
         | none=>none
     | none=>none
   | none=>none
 | .unOp op _ x=>match opr X F x with
   | some a=>unA op a
   | none=>none
 | .convert src dst x=>match X.ty src with
   | some _=>match X.ty dst with
     | some y=>match opr X F x with
       | some (.val (.int _ n))=>match y.k with
         | .int k=>some (.val (.int k (k.wrap n)))
         | _=>none
       | _=>none
     | none=>none
   | none=>none
 | .makeFunc (.func f) first cap=>match first.toList with
   | []=>match oprs X F cap.toList with
     | some cs=>some (.fn f cs)
     | none=>none
   | _=>none
 | .fieldAddr s x f=>match X.ty s with
   | some y=>match y.k with
     | .str fs=>match getN fs f with
       | some (off,_)=>match opr X F x with
         | some (.ptr b r 0)=>some (.ptr b r off)
         | some (.ptr b r o)=>some (.ptr b r (addN o off))
         | some (.cptr cs)=>dropK off cs fun c=>some (.cptr c)
         | some (.pp rows t v i o)=>some (.pp rows t v i (addN o off))
         | _=>none
       | none=>none
     | _=>none
   | none=>none
 | .field s x f=>match X.ty s with
   | some y=>match y.k with
     | .str fs=>match getN fs f with
       | some (off,sz)=>match getN y.fa f with
         | some agg=>match opr X F x with
           | some (.agg cs)=>dropK off cs fun c=>takeK sz c fun c'=>finA agg c'
           | _=>none
         | none=>none
       | none=>none
     | _=>none
   | none=>none
 | .indexAddr t x (.const (.int _ i))=>match X.ty t with
   | some y=>match y.k with
     | .arr n e=>match X.ty e with
       | some ye=>match decide (0≤i) with
         | true=>match decide (i<(n:Int)) with
           | true=>match opr X F x with
             | some (.ptr b r o)=>some (.ptr b r (addN o (i.toNat*ye.size)))
             | _=>none
           | false=>none
         | false=>none
       | none=>none
     | _=>none
   | none=>none
 | .extract t i=>match opr X F t with
   | some (.tup vs)=>getN vs i
   | _=>none
 | .call c=>match c.callee with
   | .builtin .len=>match c.args.toList with
     | [x]=>match c.argTypes.toList with
       | [t]=>match X.ty t with
         | some y=>match opr X F x with
           | some a=>lenA S y.k a
           | none=>none
         | none=>none
       | _=>none
     | _=>none
   | .builtin .max=>match oprs X F c.args.toList with
     | some [.val (.int k a),.val (.int _ b)]=>some (.val (.int k (if b > a then b else a)))
     | _=>none
   | .builtin .min=>match oprs X F c.args.toList with
     | some [.val (.int k a),.val (.int _ b)]=>some (.val (.int k (if b<a then b else a)))
     | _=>none
   | _=>none
 | _=>none
def evalM (X:Cx)(F:Frm)(S:St):Op→Option (AV × St)
 | .alloc t=>match X.ty t with
   | some ⟨_,_,z,_⟩=>match S with
     | ⟨bx,tk⟩=>snocK bx [z] fun bs=>some (.ptr (lenK bx) 0 0,⟨bs,tk⟩)
   | none=>none
 | .box _ x=>match opr X F x with
   | some a=>match cellsOf a with
     | some cs=>match S with
       | ⟨bx,tk⟩=>snocK bx [cs] fun bs=>some (.ptr (lenK bx) 0 0,⟨bs,tk⟩)
     | none=>none
   | none=>none
 | .buildSlice t n ps=>match X.ty t with
   | some y=>match y.k with
     | .slc e=>match X.ty e with
       | some ye=>match Nat.ble (n*ye.size) 1000000 with
         | true=>match repC n ye.zero (fun rows=>layR X F ye.size ps.toList rows) with
           | some a=>some (a,S)
           | none=>none
         | false=>none
       | none=>none
     | _=>none
   | none=>none
 | _=>none
def evalOp (X:Cx)(N:Nat)(F:Frm)(S:St)(o:Oper):Option (Frm × St) :=
 match o.op with
 | .store t a x=>match o.dst with
   | none=>match sizeT X t with
     | some (sz,_)=>match opr X F a with
       | some a'=>match opr X F x with
         | some x'=>match storeA S sz a' x' with
           | some S'=>some (F,S')
           | none=>none
         | none=>none
       | none=>none
     | none=>none
   | some _=>none
 | op=>match o.dst with
   | some d=>match Nat.blt d N with
     | true=>match evalR X F S op with
       | some x=>some ((d,x)::F,S)
       | none=>match evalM X F S op with
         | some (x,S')=>some ((d,x)::F,S')
         | none=>none
     | false=>none
   | none=>none
def wantA (ops:Array Oper)(F:Frm)(o:Oper):Option Bool :=
 match o.guard with
 | none=>some true
 | some (j,want)=>match ops[j]? with
   | some oj=>match oj.dst with
     | some t=>match lk F t with
       | some (.lit true)=>some want
       | some (.lit false)=>some (!want)
       | some (.val (.tuple _))=>some false
       | _=>none
     | none=>none
   | none=>none
def ev (X:Cx)(N:Nat):Nat→List Item→Frm→St→List Item × Frm × St
 | 0,K,F,S=>(K,F,S)
 | n+1,K,F,S=>match K with
   | .code .skip::k=>ev X N n k F S
   | .code (.label _)::k=>ev X N n k F S
   | .inBlock _::k=>ev X N n k F S
   | .inScope _::k=>ev X N n k F S
   | .code (.seq a b)::k=>ev X N n (.code a::.code b::k) F S
   | .code (.block id c)::k=>ev X N n (.code c::.inBlock id::k) F S
   | .code (.exit id)::k=>match exitTo id k with
     | some k'=>ev X N n k' F S
     | none=>(K,F,S)
   | .code (.cond (.tmp c) a b)::k=>match lk F c with
     | some (.lit true)=>ev X N n (.code a::k) F S
     | some (.lit false)=>ev X N n (.code b::k) F S
     | _=>(K,F,S)
   | .code (.region _ ops false)::k=>ev X N n (.inRegion ops (List.range ops.size)::k) F S
   | .inRegion _ []::k=>ev X N n k F S
   | .inRegion ops (i::l)::k=>match ops[i]? with
     | some o=>match wantA ops F o with
       | some true=>match evalOp X N F S o with
         | some (F',S')=>ev X N n (.inRegion ops l::k) F' S'
         | none=>(K,F,S)
       | some false=>match o.dst with
         | some d=>match Nat.blt d N with
           | true=>ev X N n (.inRegion ops l::k) ((d,.val (.tuple #[]))::F) S
           | false=>(K,F,S)
         | none=>ev X N n (.inRegion ops l::k) F S
       | none=>(K,F,S)
     | none=>(K,F,S)
   | _=>(K,F,S)
theorem getN_eq {α:Type}:∀ (l:List α)(i:Nat),getN l i=l[i]?
 | [],_=>by simp [getN]
 | a::l,0=>by simp [getN]
 | a::l,i+1=>by simp [getN,getN_eq l i]
theorem takeK_eq {R:Type}:∀ (n:Nat)(l:List AV)(k:List AV→Option R)(r:R),takeK n l k=some r→n≤l.length∧k (l.take n)=some r
 | 0,l,k,r,h=>by simpa [takeK] using h
 | n+1,[],k,r,h=>by simp [takeK] at h
 | n+1,a::l,k,r,h=>by
   have:=takeK_eq n l _ r (by simpa [takeK] using h)
   exact ⟨by simp;omega,by simpa using this.2⟩
theorem dropK_eq {R:Type}:∀ (n:Nat)(l:List AV)(k:List AV→Option R)(r:R),dropK n l k=some r→n≤l.length∧k (l.drop n)=some r
 | 0,l,k,r,h=>by simpa [dropK] using h
 | n+1,[],k,r,h=>by simp [dropK] at h
 | n+1,a::l,k,r,h=>by
   have:=dropK_eq n l k r (by simpa [dropK] using h)
   exact ⟨by simp;omega,by simpa using this.2⟩
theorem putK_eq {R:Type}:∀ (l:List AV)(n:Nat)(xs:List AV)(k:List AV→Option R)(r:R),putK l n xs k=some r →
 n+xs.length≤l.length∧k (l.take n++xs++l.drop (n+xs.length))=some r
 | l,0,[],k,r,h=>by
   have h':k l=some r:=by cases l<;>simpa [putK] using h
   simpa using h'
 | a::l,0,x::xs,k,r,h=>by
   have:=putK_eq l 0 xs _ r (by simpa [putK] using h)
   exact ⟨by simp at this ⊢;omega,by simpa using this.2⟩
 | a::l,n+1,xs,k,r,h=>by
   have:=putK_eq l n xs _ r (by simpa [putK] using h)
   refine ⟨by simp at this ⊢;omega,?_⟩
   have e:n+1+xs.length=(n+xs.length)+1:=by omega
   rw [e];simpa using this.2
 | [],0,_::_,k,r,h=>by simp [putK] at h
 | [],n+1,xs,k,r,h=>by simp [putK] at h
theorem setK_eq {α R:Type}:∀ (l:List α)(n:Nat)(x:α)(k:List α→Option R)(r:R),setK l n x k=some r→n<l.length∧k (l.set n x)=some r
 | a::l,0,x,k,r,h=>by simpa [setK] using h
 | a::l,n+1,x,k,r,h=>by
   have:=setK_eq l n x _ r (by simpa [setK] using h)
   exact ⟨by simp;omega,by simpa using this.2⟩
 | [],n,x,k,r,h=>by cases n<;>simp [setK] at h
theorem snocK_eq {α R:Type}:∀ (l:List α)(x:α)(k:List α→Option R),snocK l x k=k (l++[x])
 | [],x,k=>rfl
 | a::l,x,k=>by simp [snocK,snocK_eq l x]
theorem repC_eq {α R:Type}:∀ (n:Nat)(a:α)(k:List α→Option R),repC n a k=k (List.replicate n a)
 | 0,a,k=>by simp [repC]
 | n+1,a,k=>by simp [repC,repC_eq n a,List.replicate_succ]
theorem catK_eq:∀ (xs l:List AV)(k:List AV→Option (List AV)),catK xs l k=k (xs++l)
 | [],l,k=>rfl
 | x::xs,l,k=>by simp [catK,catK_eq xs l]
theorem catA_eq {xs caps zs:List AV}(h:catA xs caps=some zs):xs++caps=zs:=by
 unfold catA at h
 split at h
 ·cases h;simp
 ·rw [catK_eq] at h;cases h;rfl
theorem lenK_eq {α:Type}(l:List α):lenK l=l.length:=by
 unfold lenK
 split<;>rfl
theorem addN_eq (a b:Nat):addN a b=a+b:=by cases a<;>simp [addN]
theorem finA_eq {g:Bool}{cs:List AV}{y:AV}(h:finA g cs=some y):(g=true∧y=.agg cs)∨(g=false∧cs=[y]):=by
 unfold finA at h
 split at h
 ·cases h;exact .inl ⟨rfl,rfl⟩
 ·split at h
  ·cases h;exact .inr ⟨rfl,rfl⟩
  ·cases h
theorem row_apart {sz k r j:Nat}(hj:j<sz)(hk:k≠r):k*sz+j<r*sz∨r*sz+sz≤k*sz+j:=by
 rcases Nat.lt_or_gt_of_ne hk with h | h
 ·left
  have:(k+1)*sz≤r*sz:=Nat.mul_le_mul_right sz h
  rw [Nat.add_mul,Nat.one_mul] at this;omega
 ·right
  have:(r+1)*sz≤k*sz:=Nat.mul_le_mul_right sz h
  rw [Nat.add_mul,Nat.one_mul] at this;omega
theorem row_in {sz n r j:Nat}(hr:r<n)(hj:j<sz):r*sz+j<n*sz:=by
 have:(r+1)*sz≤n*sz:=Nat.mul_le_mul_right sz hr
 rw [Nat.add_mul,Nat.one_mul] at this;omega
structure FR (E:Env)(w:World)(F:Frm)(a:Act)(N:Nat):Prop where
 size:a.tmps.size=N
 nod:a.defers=E.df
 rel:∀ k x,lk F k=some x→∃ v,a.tmps[k]?=some v∧Rel E w v x
theorem addr_add (b o n:Nat):(⟨b,o,none⟩:Addr).add n=⟨b,o+n,none⟩:=by unfold Addr.add;split<;>simp_all
section
variable {X:Cx}{E:Env}{S:St}{w:World}{F:Frm}{a:Act}{N:Nat}
theorem rel_ofVal (v:Value):Rel E w v (ofVal v):=by
 unfold ofVal
 split
 ·exact .sl [] .tight none 0 0 0 0 0 (fun _ _=>default) rfl (Nat.zero_le _) (fun h=>absurd rfl h) (fun r hr=>by cases hr)
   (fun i j hi=>absurd hi (Nat.not_lt_zero _)) (fun i j hi=>absurd hi (Nat.not_lt_zero _)) (fun i j r x h=>by simp at h) rfl (Nat.le_refl _)
 ·exact .val _
theorem rel_ofAny (v:Value):Rel E w v (ofAny v):=by
 unfold ofAny
 split
 ·rename_i cs
  refine .agg cs _ (by simp) (fun j v x hv hx=>?_)
  simp [hv] at hx
  subst hx
  exact rel_ofVal v
 ·exact rel_ofVal _
theorem opr_sound (hI:Inv X E S w)(hF:FR E w F a N){o:Operand}{x:AV}(h:opr X F o=some x):Rel E w (a.eval o) x:=by
 cases o with
 | tmp t =>
   simp only [opr] at h
   split at h
   ·rename_i b hb
    cases h
    obtain ⟨v,hv,hr⟩:=hF.rel t _ hb
    cases hr
    simp only [Act.eval,Array.getD_eq_getD_getElem?,hv,Option.getD_some]
    exact .val _
   ·obtain ⟨v,hv,hr⟩:=hF.rel t _ h
    simp only [Act.eval,Array.getD_eq_getD_getElem?,hv,Option.getD_some]
    exact hr
 | const v =>
   simp only [opr] at h
   have:x=ofAny v:=by split at h<;>(cases h;first | rfl | (symm;assumption) | assumption)
   subst this
   exact rel_ofAny v
 | «global» g =>
   simp only [opr] at h
   split at h
   ·rename_i cs hg
    cases h
    obtain ⟨hlt,hc⟩:=X.glob_G w hI.glob g cs hg
    have hnm:∀ o,¬ E.mt g o:=fun o hm=>by
     rcases Env.own_of_mut hI hm with h | h
     ·have:=hI.lo g h;omega
     ·have:=hI.frlo g o h;omega
    have hex:∀ j:Nat,∃ v,(j<cs.length→w.cell? ⟨g,j,none⟩=some v∧cs[j]?=some (.val v)):=fun j=>by
     by_cases hj:j<cs.length
     ·obtain ⟨v,hv,hx⟩:=hc j cs[j] (by simp [hj])
      exact ⟨v,fun _=>⟨hv,by simp [hj,hx]⟩⟩
     ·exact ⟨default,fun h=>absurd h hj⟩
    refine .cptr cs g 0 (fun j=>(hex j).choose) (fun j _=>hnm _) (fun j hj=>?_) (fun j x hx=>?_)
    ·rw [Nat.zero_add];exact ((hex j).choose_spec hj).1
    ·have:=((hex j).choose_spec (lt_of_get hx)).2
     rw [Option.some.inj (hx.symm.trans this)];exact .val _
   ·cases h
 | func f=>simp only [opr] at h;cases h;exact .fn f #[] [] rfl (fun j v x hv=>by simp at hv)
theorem oprs_sound (hI:Inv X E S w)(hF:FR E w F a N):∀ {os:List Operand}{xs:List AV},oprs X F os=some xs →
 xs.length=os.length∧∀ (j:Nat) (v:Value) (x:AV),(os.map a.eval)[j]?=some v→xs[j]?=some x→Rel E w v x
 | [],xs,h=>by simp [oprs] at h;subst h;simp
 | o::os,xs,h=>by
   simp only [oprs] at h
   split at h
   ·rename_i x hx
    split at h
    ·rename_i xs' hxs
     cases h
     obtain ⟨hl,hr⟩:=oprs_sound hI hF hxs
     refine ⟨by simp [hl],fun j v y hv hy=>?_⟩
     cases j with
     | zero=>simp at hv hy;subst hv;subst hy;exact opr_sound hI hF hx
     | succ j=>simp at hv hy;exact hr j v y (by simpa using hv) hy
    ·cases h
   ·cases h
theorem oprs_sound_arr (hI:Inv X E S w)(hF:FR E w F a N){os:Array Operand}{xs:List AV}(h:oprs X F os.toList=some xs) :
 (os.map a.eval).size=xs.length∧∀ (j:Nat)(v:Value)(x:AV),(os.map a.eval)[j]?=some v→xs[j]?=some x→Rel E w v x:=by
 obtain ⟨hl,hr⟩:=oprs_sound hI hF h
 refine ⟨by simp [hl],fun j v x hv hx=>hr j v x ?_ hx⟩
 simpa using hv
theorem allCellish_mem:∀ {cs:List AV},allCellish cs=true→∀ x,x∈cs→cellish x=true
 | [],_,x,hx=>by cases hx
 | c::cs,h,x,hx=>by
   simp only [allCellish] at h
   split at h
   ·rename_i hc
    rcases List.mem_cons.1 hx with rfl | hx
    ·exact hc
    ·exact allCellish_mem h x hx
   ·cases h
theorem one_of_cellish {v:Value}{x:AV}(h:Rel E w v x)(hc:cellish x=true):v.oneCell'=true:=by
 cases h with
 | val v=>cases v<;>first | rfl | (simp [cellish] at hc)
 | lit b=>rfl
 | junk v=>simp [cellish] at hc
 | agg vs cs hl hr=>simp [cellish] at hc
 | tup vs cs hl hr=>simp [cellish] at hc
 | _=>rfl
theorem cells_one {v:Value}(h:v.oneCell'=true):v.cells=#[v]:=by
 cases v<;>simp [Value.oneCell'] at h<;>rfl
theorem cellsOf_sound {v:Value}{x:AV}(h:Rel E w v x){xs:List AV}(hc:cellsOf x=some xs) :
 v.cells.size=xs.length∧(∀ (j:Nat) (u:Value) (y:AV),v.cells[j]?=some u→xs[j]?=some y→Rel E w u y)∧∀ u,u∈v.cells→u.oneCell'=true:=by
 unfold cellsOf at hc
 split at hc
 ·rename_i cs
  split at hc
  ·rename_i hall
   cases hc
   cases h with
   | agg vs _ hl hr =>
     refine ⟨hl,hr,fun u hu=>?_⟩
     obtain ⟨i,hi,rfl⟩:=Array.getElem_of_mem hu
     have hi':i<xs.length:=by rw [← hl];exact hi
     exact one_of_cellish (hr i _ xs[i] (by simp [Value.cells]) (by simp [hi'])) (allCellish_mem hall _ (by simp))
  ·cases hc
 ·split at hc
  ·rename_i hcell
   cases hc
   have h1:=one_of_cellish h hcell
   rw [cells_one h1]
   refine ⟨rfl,fun j u y hu hy=>?_,fun u hu=>?_⟩
   ·cases j with
    | zero=>simp at hu hy;subst hu;subst hy;exact h
    | succ j=>simp at hu
   ·simp at hu;subst hu;exact h1
  ·cases hc
theorem sizeOf_run {t:Nat}{y:Ty}(hy:X.ty t=some y)(w:World):(sizeOf t).run X.P w=.ok y.size w:=by
 obtain ⟨i,z,hi,hs,_⟩:=(X.ty_ok t y hy).info
 simp [sizeOf,typeInfo,hi,hs]
theorem isAgg_run {t:Nat}{y:Ty}(hy:X.ty t=some y)(w:World):(isAgg t).run X.P w=.ok (isAggK y.k) w:=by
 obtain ⟨d,hd,hk⟩:=(X.ty_ok t y hy).agg
 cases hkk:y.k<;>simp only [hkk] at hk
 ·obtain ⟨h1,h2⟩:=hk
  cases d<;>first | (exact absurd rfl (h1 _)) | (exact absurd rfl (h2 _ _)) | simp [isAgg,run_underlying hd,isAggK]
 ·subst hk;simp [isAgg,run_underlying hd,isAggK]
 ·subst hk;simp [isAgg,run_underlying hd,isAggK]
 ·subst hk;simp [isAgg,run_underlying hd,isAggK]
 ·obtain ⟨f,rfl,_⟩:=hk;simp [isAgg,run_underlying hd,isAggK]
 ·obtain ⟨rfl,_⟩:=hk;simp [isAgg,run_underlying hd,isAggK]
 ·obtain ⟨rfl,_⟩:=hk;simp [isAgg,run_underlying hd,isAggK]
theorem zero_run {t:Nat}{y:Ty}(hy:X.ty t=some y)(w:World):∃ z,(zeroValue t).run X.P w=.ok z w∧z.cells.toList.map ofVal=y.zero∧y.zero.length=y.size ∧
 ∃ i,X.P.info? t=some i∧i.zero=some z∧i.size=y.size∧i.bytes≤1024:=by
 obtain ⟨i,z,hi,hs,hb,hz,hc,hl,_⟩:=(X.ty_ok t y hy).info
 exact ⟨z,by simp [zeroValue,typeInfo,hi,hz],hc,hl,i,hi,hz,hs,hb⟩
theorem loadVar_run {t:Nat}{y:Ty}(hy:X.ty t=some y){b o:Nat}(vals:Nat→Value)(h:∀ j,j<y.size→w.cell? ⟨b,o+j,none⟩=some (vals j)) :
 (loadVar t ⟨b,o,none⟩).run X.P w=.ok (if isAggK y.k=true then .agg ((List.range y.size).map vals).toArray else vals 0) w:=by
 obtain ⟨i,z,hi,hs,hb,hz,hc,hl,hone⟩:=(X.ty_ok t y hy).info
 cases hk:isAggK y.k with
 | true =>
   have:=run_loadCells (P:=X.P) w ⟨b,o,none⟩ y.size vals (fun j hj=>by rw [addr_add];exact h j hj)
   simp [loadVar,isAgg_run hy,hk,sizeOf_run hy,this]
 | false =>
   have h1:=hone hk
   have hc0:=h 0 (by omega)
   simp only [Nat.add_zero] at hc0
   simp [loadVar,isAgg_run hy,hk,run_load,hc0]
theorem fin_rel {y:Ty}{vals:Nat→Value}{cs:List AV}{r:AV}(hl:cs.length=y.size)(hr:∀ (j:Nat)(x:AV),cs[j]?=some x→Rel E w (vals j) x)
 (h:finA (isAggK y.k) cs=some r):Rel E w (if isAggK y.k=true then .agg ((List.range y.size).map vals).toArray else vals 0) r:=by
 rcases finA_eq h with ⟨hk,rfl⟩ | ⟨hk,rfl⟩
 ·rw [if_pos hk]
  refine .agg _ _ (by simp [hl]) (fun j v x hv hx=>?_)
  have hj:=lt_of_get hx
  simp [hl▸hj] at hv
  subst hv
  exact hr j x hx
 ·rw [if_neg (by simp [hk])]
  exact hr 0 r rfl
theorem loadA_sound (hI:Inv X E S w){t:Nat}{y:Ty}(hy:X.ty t=some y){v:Value}{x r:AV}(hx:Rel E w v x)(h:loadA S y.size (isAggK y.k) x=some r) :
 ∃ u,(Instr.loadAt t v).run X.P w=.ok u w∧Rel E w u r:=by
 unfold loadA at h
 split at h
 ·rename_i b r' o
  split at h
  ·rename_i rows hrows
   split at h
   ·rename_i cs hcs
    rw [getN_eq] at hrows hcs
    obtain ⟨h1,h2⟩:=dropK_eq _ _ _ _ h
    obtain ⟨h3,h4⟩:=takeK_eq _ _ _ _ h2
    cases hx with
    | ptr _ _ _ blk sz hb =>
      obtain ⟨arr,e,hblk,hsz,hlen,hrel⟩:=hI.box b blk sz rows hb hrows
      have hcl:=hlen cs (List.mem_of_getElem? hcs)
      have hr':=lt_of_get hcs
      simp only [List.length_drop] at h3
      have hin:∀ j,j<y.size→r'*sz+o+j<arr.size:=fun j hj=>by
       have:=row_in (sz:=sz) hr' (show o+j<sz by omega)
       omega
      have hcell:∀ j,j<y.size→w.cell? ⟨blk,r'*sz+o+j,none⟩=some (arr.getD (r'*sz+o+j) default):=fun j hj=>by
       have:=hin j hj
       simp [World.cell?,hblk,this,Array.getD]
      refine ⟨_,?_,fin_rel (y:=y) (vals:=fun j=>arr.getD (r'*sz+o+j) default) (cs:=(cs.drop o).take y.size) (by simp;omega) (fun j x hx=>?_) h4⟩
      ·simp [Instr.loadAt,Instr.sureAddr,loadVar_run hy _ hcell]
      ·have hj:j<y.size:=by have:=lt_of_get hx;simp at this;omega
       have hx':cs[o+j]?=some x:=by simpa [List.getElem?_take,hj] using hx
       have hi:=hin j hj
       exact hrel r' cs (o+j) x _ hcs hx' (by rw [← Nat.add_assoc];simp [hi,Array.getD])
   ·cases h
  ·cases h
 ·rename_i cs
  obtain ⟨h3,h4⟩:=takeK_eq _ _ _ _ h
  cases hx with
  | cptr _ b o vals hm hc hr =>
    refine ⟨_,?_,fin_rel (y:=y) (vals:=vals) (cs:=cs.take y.size) (by simp;omega) (fun j x hx=>?_) h4⟩
    ·simp [Instr.loadAt,Instr.sureAddr,loadVar_run hy vals (fun j hj=>hc j (by omega))]
    ·have hj:j<y.size:=by have:=lt_of_get hx;simp at this;omega
     exact hr j x (by simpa [List.getElem?_take,hj] using hx)
 ·cases h
end
section
variable {X:Cx}{E:Env}{S:St}{w w':World}
theorem mt_own (hI:Inv X E S w){b o:Nat}(h:E.mt b o):E.own b∨E.fr b o:=Env.own_of_mut hI h
theorem fresh_own (hI:Inv X E S w):¬ E.own w.heap.size:=fun h=>Nat.lt_irrefl _ (hI.own_lt h)
theorem fresh_mt (hI:Inv X E S w){o:Nat}:¬ E.mt w.heap.size o:=fun h=>by
 rcases mt_own hI h with h | h
 ·exact fresh_own hI h
 ·exact Nat.lt_irrefl _ (hI.frlt _ _ h).2
theorem Evol.push (hh:∃ o,w'.heap=w.heap.push o)(hos:w'.os=w.os)(ht:w'.tape=w.tape)(ho:w'.output=w.output)(n m:Nat):Evol E w E w' n m:=by
 obtain ⟨o,hh⟩:=hh
 refine ⟨rfl,fun _ _ h=>⟨h,fun _ h=>h⟩,fun _ _ k h=>⟨k,h,.inl rfl⟩,hos,ht,ho,by rw [hh];simp,fun k hk _=>?_,fun b o v _ hc=>?_,fun _ _ _ h=>h,fun _ _ h=>h,rfl,fun b e he=>?_,fun _ _ _ b _ _ _ _ o ho=>by rw [hh,Array.getElem?_push_lt (heap_lt ho)];simpa [heap_lt ho] using ho⟩
 ·rw [hh,Array.getElem?_push_lt hk];simp [hk]
 ·have hb:=cell_lt hc
  unfold World.cell? at hc ⊢
  have:w'.heap[b]?=w.heap[b]?:=by rw [hh,Array.getElem?_push_lt hb];simp [hb]
  simp only [this]
  exact hc
 ·have hb:b<w.heap.size:=by
   rcases Nat.lt_or_ge b w.heap.size with h | h
   ·exact h
   ·simp [typeAt,Array.getElem?_eq_none h] at he
  unfold typeAt at he ⊢
  rw [hh,Array.getElem?_push_lt hb]
  simpa [hb] using he
theorem Inv.keep (hI:Inv X E S w)(ev:Evol E w E w' E.boxes.length E.toks.length)(hb:∀ b,E.own b→w'.heap[b]?=w.heap[b]?):Inv X E S w' where
 nb:=hI.nb
 nt:=hI.nt
 np:=hI.np
 box i b sz rows h1 h2:=by
  obtain ⟨cs,e,hh,hs,hl,hr⟩:=hI.box i b sz rows h1 h2
  exact ⟨cs,e,(hb b (.inl ⟨i,sz,h1⟩)).trans hh,hs,hl,fun k r j x v h3 h4 h5=>(hr k r j x v h3 h4 h5).step ev⟩
 tok t l b c sz h:=by
  obtain ⟨h1,h0,cs,e,hh,hs⟩:=hI.tok t l b c sz h
  exact ⟨h1,h0,cs,e,(hb b (.inr ⟨t,l,c,sz,h⟩)).trans hh,hs⟩
 bb:=hI.bb
 bt:=hI.bt
 tt:=hI.tt
 frlt b o h:=⟨(hI.frlt b o h).1,Nat.lt_of_lt_of_le (hI.frlt b o h).2 ev.size⟩
 lo:=hI.lo
 frlo:=hI.frlo
 sz:=Nat.le_trans hI.sz ev.size
 glob:=X.glob_st w w' (fun k hk=>ev.block k (Nat.lt_of_lt_of_le hk hI.sz) (fun ho=>by have:=hI.lo k ho;omega)) hI.sz ev.os hI.glob
theorem Inv.push (hI:Inv X E S w)(hh:∃ o,w'.heap=w.heap.push o)(hos:w'.os=w.os)(ht:w'.tape=w.tape)(ho:w'.output=w.output):Inv X E S w' :=
 hI.keep (Evol.push hh hos ht ho _ _) (fun b hb=>by
  obtain ⟨o,hh⟩:=hh
  have:=hI.own_lt hb
  rw [hh,Array.getElem?_push_lt this];simp [this])
def Env.addBox (E:Env)(b sz:Nat):Env:={ E with boxes:=E.boxes++[some (b,sz)] }
theorem getElem?_snoc {α:Type}{l:List α}{a x:α}{i:Nat}(h:(l++[a])[i]?=some x):l[i]?=some x∨(i=l.length∧x=a):=by
 rcases Nat.lt_or_ge i l.length with h' | h'
 ·rw [List.getElem?_append_left h'] at h;exact .inl h
 ·rw [List.getElem?_append_right h'] at h
  cases hk:i-l.length with
  | zero=>rw [hk] at h;simp at h;exact .inr ⟨by omega,h.symm⟩
  | succ k=>rw [hk] at h;simp at h
theorem getElem?_snoc_left {α:Type}{l:List α}{a x:α}{i:Nat}(h:l[i]?=some x):(l++[a])[i]?=some x:=by
 rw [List.getElem?_append_left (lt_of_get h)];exact h
theorem getElem?_snoc_new {α:Type}(l:List α)(a:α):(l++[a])[l.length]?=some a:=by simp
theorem Inv.newBox (hI:Inv X E S w){cs:Array Value}{e:TypeId}(hh:w'.heap=w.heap.push (.cells cs e (0,0)))(hos:w'.os=w.os)(ht:w'.tape=w.tape)(ho:w'.output=w.output)
 {sz:Nat}{rows:List (List AV)}(hs:cs.size=rows.length*sz)(hl:∀ r,r∈rows→r.length=sz)
 (hr:∀ (k:Nat)(r:List AV)(j:Nat)(x:AV)(v:Value),rows[k]?=some r→r[j]?=some x→cs[k*sz+j]?=some v→Rel E w v x) :
 Evol E w (E.addBox w.heap.size sz) w' E.boxes.length E.toks.length∧Inv X (E.addBox w.heap.size sz) ⟨S.boxes++[rows],S.toks⟩ w':=by
 have ev0:=Evol.push (E:=E) ⟨_,hh⟩ hos ht ho E.boxes.length E.toks.length
 have hI0:=hI.push ⟨_,hh⟩ hos ht ho
 have hown:∀ b,(E.addBox w.heap.size sz).own b→E.own b∨b=w.heap.size:=fun b h=>by
  rcases h with ⟨i,s,h⟩ | h
  ·rcases getElem?_snoc h with h | ⟨_,h⟩
   ·exact .inl (.inl ⟨i,s,h⟩)
   ·cases h;exact .inr rfl
  ·exact .inl (.inr h)
 have ev:Evol E w (E.addBox w.heap.size sz) w' E.boxes.length E.toks.length:=by
  refine { ev0 with boxes:=fun i hi=>?_,mt:=fun b o hb h=>?_,own:=fun b hb h=>?_,fr:=rfl,toks:=?_,pv:=ev0.pv }
  ·exact fun hl=>⟨by simp [Env.addBox];omega,fun x hx=>getElem?_snoc_left hx⟩
  ·exact ev0.toks
  ·rcases h with h | ⟨i,s,h⟩ | h
   ·exact .inl h
   ·rcases getElem?_snoc h with h | ⟨_,h⟩
    ·exact .inr (.inl ⟨i,s,h⟩)
    ·cases h;omega
   ·exact .inr (.inr h)
  ·rcases hown b h with h | h
   ·exact h
   ·omega
 have hnew:w'.heap[w.heap.size]?=some (.cells cs e (0,0)):=by rw [hh];simp
 refine ⟨ev,?_⟩
 have fo:=fresh_own hI
 exact {
  nb:=by simp [Env.addBox,hI.nb]
  nt:=hI.nt
  np:=fun i hi=>by
   simp only [Env.addBox,List.length_append,List.length_singleton] at hi ⊢
   rcases Nat.lt_or_ge i E.boxes.length with h | h
   ·rw [List.getElem?_append_left h];exact hI.np i h
   ·have:i=E.boxes.length:=by omega
    subst this;exact ⟨_,getElem?_snoc_new _ _⟩
  box:=fun i b s rows' h1 h2=>by
   rcases getElem?_snoc h1 with h1 | ⟨hi,h1⟩
   ·have h2':S.boxes[i]?=some rows':=by
     rcases getElem?_snoc h2 with h2 | ⟨hi,_⟩
     ·exact h2
     ·have:=lt_of_get h1;rw [hI.nb] at this;omega
    obtain ⟨cs',e',hh',hs',hl',hr'⟩:=hI.box i b s rows' h1 h2'
    exact ⟨cs',e',(by
     have hlt:=hI.own_lt (.inl ⟨i,s,h1⟩);rw [hh,Array.getElem?_push_lt hlt];simpa [hlt] using hh'),hs',hl',fun k r j x v h3 h4 h5=>(hr' k r j x v h3 h4 h5).step ev⟩
   ·cases h1
    have h2':rows'=rows:=by
     rcases getElem?_snoc h2 with h2 | ⟨_,h2⟩
     ·have:=lt_of_get h2;rw [← hI.nb] at this;omega
     ·exact h2
    subst h2'
    exact ⟨cs,e,hnew,hs,hl,fun k r j x v h3 h4 h5=>(hr k r j x v h3 h4 h5).step ev⟩
  tok:=hI0.tok
  bb:=fun i j b s s' h1 h2=>by
   rcases getElem?_snoc h1 with h1 | ⟨hi,h1⟩<;>rcases getElem?_snoc h2 with h2 | ⟨hj,h2⟩
   ·exact hI.bb i j b s s' h1 h2
   ·cases h2;exact absurd (.inl ⟨i,s,h1⟩) fo
   ·cases h1;exact absurd (.inl ⟨j,s',h2⟩) fo
   ·omega
  bt:=fun i t b s l c sz' h1 h2=>by
   rcases getElem?_snoc h1 with h1 | ⟨hi,h1⟩
   ·exact hI.bt i t b s l c sz' h1 h2
   ·cases h1;exact absurd (.inr ⟨t,l,c,sz',h2⟩) fo
  tt:=hI.tt
  frlt:=fun b o h=>⟨fun h'=>by
   rcases hown b h' with h' | h'
   ·exact (hI.frlt b o h).1 h'
   ·have:=(hI.frlt b o h).2;omega,(hI0.frlt b o h).2⟩
  lo:=fun b h=>by
   rcases hown b h with h | h
   ·exact hI.lo b h
   ·rw [h];exact hI.sz
  frlo:=hI.frlo
  sz:=hI0.sz
  glob:=hI0.glob }
theorem Inv.setBox (hI:Inv X E S w){b blk sz:Nat}{rows rows':List (List AV)}(hb:E.boxes[b]?=some (some (blk,sz)))(hrows:S.boxes[b]?=some rows)
 {arr arr':Array Value}{e:TypeId}(hh:w.heap[blk]?=some (.cells arr e (0,0)))(hw':w'=w.setRow blk arr')
 (hs:arr'.size=rows'.length*sz)(hl:∀ r,r∈rows'→r.length=sz)
 (hr:∀ (k:Nat)(r:List AV)(j:Nat)(x:AV)(v:Value),rows'[k]?=some r→r[j]?=some x→arr'[k*sz+j]?=some v→Rel E w v x) :
 Evol E w E w' E.boxes.length E.toks.length∧Inv X E ⟨S.boxes.set b rows',S.toks⟩ w':=by
 have hoth:∀ k,k≠blk→w'.heap[k]?=w.heap[k]?:=fun k hk=>by subst hw';exact setRow_other w blk k arr' (by omega)
 have hat:w'.heap[blk]?=some (.cells arr' e (0,0)):=by subst hw';exact setRow_heap w blk arr arr' e _ hh
 have ho:E.own blk:=.inl ⟨b,sz,hb⟩
 have ev:Evol E w E w' E.boxes.length E.toks.length:=by
  refine ⟨rfl,fun _ _ h=>⟨h,fun _ h=>h⟩,fun _ _ k h=>⟨k,h,.inl rfl⟩,by subst hw';rfl,by subst hw';rfl,by subst hw';rfl,by subst hw';simp,fun k _ hk=>?_,fun b' o v hm hc=>?_,fun _ _ _ h=>h,fun _ _ h=>h,rfl,fun b e he=>?_,fun t _ k b' c h1 h2 _ o ho=>?_⟩
  ·exact hoth k (fun h=>hk (h▸ho))
  ·have hne:b'≠blk:=fun h=>hm (.inr (.inl ⟨b,sz,h▸hb⟩))
   unfold World.cell? at hc ⊢
   simp only [hoth b' hne]
   exact hc
  ·unfold typeAt at he ⊢
   by_cases hne:b=blk
   ·subst hne
    rw [hh] at he;rw [hat];exact he
   ·rw [hoth b hne];exact he
  ·obtain ⟨kl,ksp⟩:=k
   simp only at h2;subst h2
   have hne:b'≠blk:=fun h=>hI.bt b t b' sz kl c 0 (h▸hb) h1
   rw [hoth b' hne];exact ho
 refine ⟨ev,?_⟩
 exact {
  nb:=by simp [hI.nb]
  nt:=hI.nt
  np:=hI.np
  box:=fun i b' s rr h1 h2=>by
   by_cases hi:i=b
   ·subst hi
    rw [hb] at h1;cases h1
    have h2':rr=rows':=by
     have:=lt_of_get hrows
     simp [this] at h2;exact h2.symm
    subst h2'
    exact ⟨arr',e,hat,hs,hl,fun k r j x v h3 h4 h5=>(hr k r j x v h3 h4 h5).step ev⟩
   ·have h2':S.boxes[i]?=some rr:=by simpa [List.getElem?_set,Ne.symm hi] using h2
    obtain ⟨cs',e',hh',hs',hl',hr'⟩:=hI.box i b' s rr h1 h2'
    have hne:b'≠blk:=fun h=>hi (hI.bb i b b' s sz h1 (h▸hb))
    exact ⟨cs',e',(hoth b' hne).trans hh',hs',hl',fun k r j x v h3 h4 h5=>(hr' k r j x v h3 h4 h5).step ev⟩
  tok:=fun t l b' c sz' h=>by
   obtain ⟨h1,h0,cs,e',hh',hs'⟩:=hI.tok t l b' c sz' h
   have hne:b'≠blk:=fun hx=>hI.bt b t blk sz l c sz' hb (hx▸h)
   exact ⟨h1,h0,cs,e',(hoth b' hne).trans hh',hs'⟩
  bb:=hI.bb
  bt:=hI.bt
  tt:=hI.tt
  frlt:=fun b o h=>⟨(hI.frlt b o h).1,Nat.lt_of_lt_of_le (hI.frlt b o h).2 ev.size⟩
  lo:=hI.lo
  frlo:=hI.frlo
  sz:=Nat.le_trans hI.sz ev.size
  glob:=X.glob_st w w' (fun k hk=>hoth k (fun h=>by have:=hI.lo blk ho;omega)) hI.sz ev.os hI.glob }
end
theorem foldset (off:Nat):∀ (l:List Value)(k:Nat)(c:Array Value),
 ((l.zipIdx k).foldl (fun cs p=>cs.setIfInBounds (off+p.2) p.1) c).size=c.size ∧
 ∀ i,((l.zipIdx k).foldl (fun cs p=>cs.setIfInBounds (off+p.2) p.1) c)[i]? =
  if off+k≤i∧i<off+k+l.length∧i<c.size then l[i-off-k]? else c[i]?
 | [],k,c=>by simp;intro i h1 h2;omega
 | v::l,k,c=>by
   have ih:=foldset off l (k+1) (c.setIfInBounds (off+k) v)
   simp only [List.zipIdx_cons,List.foldl_cons]
   refine ⟨by simpa using ih.1,fun i=>?_⟩
   rw [ih.2 i]
   simp only [Array.size_setIfInBounds,List.length_cons]
   by_cases h:off+(k+1)≤i∧i<off+(k+1)+l.length∧i<c.size
   ·rw [if_pos h,if_pos (by omega)]
    have:i-off-k=(i-off-(k+1))+1:=by omega
    rw [this];simp
   ·rw [if_neg h]
    by_cases h2:i=off+k
    ·subst h2
     by_cases h3:off+k<c.size
     ·rw [if_pos (by omega)];simp [h3,Array.getElem?_setIfInBounds]
     ·rw [if_neg (by omega)];simp [Array.getElem?_setIfInBounds,h3]
    ·rw [if_neg (by omega),Array.getElem?_setIfInBounds_ne (by omega)]
theorem foldset_arr (off:Nat)(vs c:Array Value) :
 (vs.zipIdx.foldl (fun cs (p:Value × Nat)=>cs.setIfInBounds (off+p.2) p.1) c).size=c.size ∧
 ∀ i,(vs.zipIdx.foldl (fun cs (p:Value × Nat)=>cs.setIfInBounds (off+p.2) p.1) c)[i]? =
  if off≤i∧i<off+vs.size∧i<c.size then vs[i-off]? else c[i]?:=by
 have:=foldset off vs.toList 0 c
 rw [← Array.foldl_toList,Array.toList_zipIdx]
 simpa using this
section
variable {X:Cx}{E:Env}{S:St}{w:World}{F:Frm}{a:Act}{N:Nat}
def Flat2 (E:Env)(w:World)(cells:Array Value)(cs:List AV):Prop :=
 cells.size=cs.length∧∀ (j:Nat) (v:Value) (x:AV),cells[j]?=some v→cs[j]?=some x→Rel E w v x
theorem lay_one {cells:Array Value}{cs xs:List AV}{v:Value}{x:AV}{off:Nat}(h:Flat2 E w cells cs)(hx:Rel E w v x)(hc:cellsOf x=some xs)(hl:off+xs.length≤cs.length) :
 Flat2 E w (v.cells.zipIdx.foldl (fun cs (p:Value × Nat)=>cs.setIfInBounds (off+p.2) p.1) cells) (cs.take off++xs++cs.drop (off+xs.length)):=by
 obtain ⟨hs,hr,_⟩:=cellsOf_sound hx hc
 obtain ⟨h1,h2⟩:=foldset_arr off v.cells cells
 refine ⟨by rw [h1,h.1];simp;omega,fun j u y hu hy=>?_⟩
 rw [h2 j] at hu
 have hcs:=h.1
 split at hu
 ·rename_i hj
  refine hr (j-off) u y hu ?_
  rw [List.append_assoc,List.getElem?_append_right (by simp;omega),List.getElem?_append_left (by simp;omega)] at hy
  simpa [Nat.min_eq_left (show off≤cs.length by omega)] using hy
 ·rename_i hj
  refine h.2 j u y hu ?_
  have hj':j<cells.size:=by
   rcases Nat.lt_or_ge j cells.size with h' | h'
   ·exact h'
   ·rw [Array.getElem?_eq_none h'] at hu;cases hu
  rcases Nat.lt_or_ge j off with h' | h'
  ·rw [List.append_assoc,List.getElem?_append_left (by simp;omega),List.getElem?_take] at hy
   simpa [h'] using hy
  ·rw [List.getElem?_append_right (by simp;omega)] at hy
   simp only [List.length_append,List.length_take,List.getElem?_drop] at hy
   rw [show off+xs.length+(j-(min off cs.length+xs.length))=j by omega] at hy
   exact hy
theorem layF_sound (hI:Inv X E S w)(hF:FR E w F a N){fs:List (Nat × Nat)}{place:Nat→Option (Nat × Nat)}(hp:∀ i p,getN fs i=some p→place i=some p) :
 ∀ (ps:List (Nat × Operand)) (cells:Array Value) (cs:List AV) (r:AV),Flat2 E w cells cs→layF X F fs ps cs=some r →
  ∃ cells',Instr.fill place cells (ps.map fun p=>(p.1,a.eval p.2))=some cells'∧Rel E w (.agg cells') r
 | [],cells,cs,r,hf,h=>by
   simp only [layF] at h;cases h
   exact ⟨cells,rfl,.agg _ _ hf.1 hf.2⟩
 | (i,o)::ps,cells,cs,r,hf,h=>by
   simp only [layF] at h
   split at h
   ·rename_i off sz hfs
    split at h
    ·rename_i x hx
     split at h
     ·rename_i xs hxs
      split at h
      ·rename_i hl
       obtain ⟨h1,h2⟩:=putK_eq _ _ _ _ _ h
       have hl':xs.length=sz:=Nat.eq_of_beq_eq_true hl
       have hrx:=opr_sound hI hF hx
       obtain ⟨hs,_,_⟩:=cellsOf_sound hrx hxs
       have hlay:=lay_one hf hrx hxs h1
       obtain ⟨cells',hc',hr'⟩:=layF_sound hI hF hp ps _ _ r hlay h2
       refine ⟨cells',?_,hr'⟩
       simp only [List.map_cons,Instr.fill,hp i _ hfs]
       rw [if_neg]
       ·exact hc'
       ·have hfc:=hf.1
        rw [hl'] at hs
        simp [hs]
        omega
      ·cases h
     ·cases h
    ·cases h
   ·cases h
theorem zero_flat {z:Value}{zs:List AV}(h:z.cells.toList.map ofVal=zs):Flat2 E w z.cells zs:=by
 subst h
 refine ⟨by simp,fun j v x hv hx=>?_⟩
 simp [hv] at hx
 subst hx
 exact rel_ofVal v
theorem build_sound (hI:Inv X E S w)(hF:FR E w F a N){t:Nat}{y:Ty}(hy:X.ty t=some y){fs:List (Nat × Nat)}(hk:y.k=.str fs){ps:Array (Nat × Operand)}{r:AV}
 (h:layF X F fs ps.toList y.zero=some r):∃ v,(Instr.build t (ps.map fun (i,x)=>(i,a.eval x))).run X.P w=.ok v w∧Rel E w v r:=by
 obtain ⟨d,hd,hdd⟩:=(X.ty_ok t y hy).agg
 simp only [hk] at hdd
 obtain ⟨fields,rfl,hm,_⟩:=hdd
 obtain ⟨z,_,hz,hl,i,hi,hiz,his,_⟩:=zero_run hy w
 obtain ⟨cells,hc,hr⟩:=layF_sound hI hF (fs:=fs) (place:=(fs.toArray[·]?)) (fun i p h=>by rw [getN_eq] at h;simpa using h) ps.toList z.cells y.zero r (zero_flat hz) h
 refine ⟨_,run_build w t _ cells ?_,hr⟩
 simp only [Program.built,hi,hd,hiz,hm]
 simpa using hc
theorem intOp_sound {op:BinOp}{k:IntKind}{x y:Int}{yc:Bool}{v:Value}(h:intOp op k x y yc=some v)(t:TypeId):(binOp op t (.int k x) (.int k y)).run X.P w=.ok v w:=by
 unfold intOp at h
 split at h
 case h_4 =>
  split at h
  ·split at h
   ·rename_i hb;cases h
    have hb':y≠0:=of_decide_eq_false hb
    simp [binOp,Op.intDiv,hb']
   ·cases h
  ·cases h
 case h_5 =>
  split at h
  ·split at h
   ·rename_i hb;cases h
    have hb':y≠0:=of_decide_eq_false hb
    simp [binOp,Op.intDiv,hb']
   ·cases h
  ·cases h
 all_goals first | (cases h;simp [binOp,Op.intArith,Op.intCmp];done) | cases h
theorem binA_sound {op:BinOp}{yc:Bool}{u v:Value}{x y r:AV}(hx:Rel E w u x)(hy:Rel E w v y)(h:binA op yc x y=some r)(t:TypeId)(ox oy:Operand) :
 ∃ z,(do eqGuard op t ox oy u v;binOp op t u v:Sem Value).run X.P w=.ok z w∧Rel E w z r:=by
 unfold binA at h
 split at h
 ·rename_i k m k' n
  split at h
  ·rename_i hk
   split at h
   ·rename_i z hz
    cases h
    cases hx;cases hy
    obtain rfl:=of_decide_eq_true hk
    refine ⟨z,?_,.val z⟩
    have h0:(eqGuard op t ox oy (.int k m) (.int k n)).run X.P w=.ok () w:=by unfold eqGuard;cases op<;>simp
    simp only [Sem.run_bind,h0,Result.andThen_ok]
    exact intOp_sound hz t
   ·cases h
  ·cases h
 ·rename_i m n
  split at h
  ·rename_i z hz
   cases h
   cases hx;cases hy
   refine ⟨z,?_,.val z⟩
   have h0:(eqGuard op t ox oy (.string m) (.string n)).run X.P w=.ok () w:=by unfold eqGuard;cases op<;>simp
   simp only [Sem.run_bind,h0,Result.andThen_ok]
   unfold strOp at hz
   split at hz
   ·cases hz;simp [binOp,Op.stringOp,ByteArray.toList_eq]
   ·cases hz;simp [binOp,Op.stringOp,ByteArray.toList_eq]
   ·cases hz
  ·cases h
 ·cases h
theorem equalIn_bool {t:TypeId}(hd:X.P.underlying t=some .bool)(d:Nat)(m n:Bool)(w:World):(Op.equalIn (d+1) t (.bool m) (.bool n)).run X.P w=.ok (m==n) w:=by
 unfold Op.equalIn
 simp [run_underlying hd]
theorem binB_sound {op:BinOp}{u v:Value}{x y r:AV}{t:TypeId}{yt:Ty}(ht:X.ty t=some yt)(hx:Rel E w u x)(hy:Rel E w v y)(h:binB op yt.k x y=some r)(ox oy:Operand) :
 ∃ z,(do eqGuard op t ox oy u v;binOp op t u v:Sem Value).run X.P w=.ok z w∧Rel E w z r:=by
 unfold binB at h
 split at h
 ·rename_i m n
  split at h
  ·rename_i hk
   obtain ⟨d,hd,hdd⟩:=(X.ty_ok t yt ht).agg
   simp only [hk] at hdd
   subst hdd
   cases hx;cases hy
   split at h
   ·cases h
    have e:=equalIn_bool hd 9999 m n w
    exact ⟨_,by simp only [eqGuard,binOp,Op.equal,Op.maxDepth];simp [e],.val _⟩
   ·cases h
    have e:=equalIn_bool hd 9999 m n w
    exact ⟨_,by simp only [eqGuard,binOp,Op.equal,Op.maxDepth];simp [e],.val _⟩
   ·cases h
  ·cases h
 ·cases h
theorem unA_sound {op:UnOp}{u:Value}{x r:AV}(hx:Rel E w u x)(h:unA op x=some r):∃ z,(Op.unary op u).run X.P w=.ok z w∧Rel E w z r:=by
 unfold unA at h
 split at h
 ·split at h
  ·cases h;cases hx;exact ⟨_,by simp [Op.unary],.val _⟩
  ·cases h
 ·split at h
  ·cases h;cases hx;exact ⟨_,by simp [Op.unary,Op.intArith],.val _⟩
  ·cases h
 ·cases h
theorem nilA_sound {u:Value}{x r:AV}(hx:Rel E w u x)(h:nilA x=some r){o:Oper}{ox:Operand}(ho:o.op=.nilCheck ox)(hu:a.eval ox=u) :
 (execOp a.eval o).run X.P w=.ok (.value u) w∧Rel E w u r:=by
 unfold nilA at h
 split at h<;>cases h<;>cases hx<;>(refine ⟨?_,?_⟩;(simp [execOp,ho,hu]);(first | (exact .ptr _ _ _ _ _ (by assumption)) | (exact .cptr _ _ _ _ (by assumption) (by assumption) (by assumption)) | (exact .fn _ _ _ (by assumption) (by assumption))))
theorem lenA_sound (hI:Inv X E S w){t:Nat}{y:Ty}(hy:X.ty t=some y){u:Value}{x r:AV}(hx:Rel E w u x)(h:lenA S y.k x=some r)(ty:TypeId) :
 ∃ z,(Builtin.len_ #[t] ty #[u]).run X.P w=.ok z w∧Rel E w z r:=by
 obtain ⟨d,hd,hdd⟩:=(X.ty_ok t y hy).agg
 unfold lenA at h
 split at h
 ·split at h
  ·rename_i hk
   cases h
   simp only [hk] at hdd
   obtain ⟨rfl,_⟩:=hdd
   cases hx with
   | sl rows sp a n cap b o sz vals hn hx ha hsz hm hc hr hs hcap =>
     subst hn
     exact ⟨_,by simp [Builtin.len_,run_underlying hd,goInt],.val _⟩
  ·cases h
 ·split at h
  ·rename_i hk
   cases h
   simp only [hk] at hdd
   subst hdd
   cases hx
   exact ⟨_,by simp [Builtin.len_,run_underlying hd,goInt],.val _⟩
  ·cases h
 ·split at h
  ·rename_i hk
   cases h
   simp only [hk] at hdd
   obtain ⟨rfl,_⟩:=hdd
   cases hx
   exact ⟨_,by simp [Builtin.len_,run_underlying hd,goInt],.val _⟩
  ·cases h
 ·split at h
  ·rename_i hk
   cases h
   simp only [hk] at hdd
   obtain ⟨rfl,_⟩:=hdd
   cases hx with
   | psl _ _ _ a n cap k sz vals hn =>
     subst hn
     exact ⟨_,by simp [Builtin.len_,run_underlying hd,goInt],.val _⟩
  ·cases h
 ·cases h
end
section
variable {X:Cx}{E:Env}{S:St}{w:World}{F:Frm}{a:Act}{N:Nat}
theorem str_fields {t:Nat}{y:Ty}(hy:X.ty t=some y){fs:List (Nat × Nat)}(hk:y.k=.str fs){i off sz:Nat}(h:getN fs i=some (off,sz)) :
 ∃ fields f i',X.P.underlying t=some (.struct fields)∧fields[i]?=some f∧f.offset=off∧X.P.info? f.type=some i'∧i'.size=sz∧sz≠0 ∧
  (∀ g,y.fa[i]?=some g→∃ d',X.P.underlying f.type=some d'∧(g=true↔((∃ fs',d'=.struct fs')∨∃ n' e',d'=.array n' e'))):=by
 obtain ⟨d,hd,hdd⟩:=(X.ty_ok t y hy).agg
 simp only [hk] at hdd
 obtain ⟨fields,rfl,_,hf⟩:=hdd
 rw [getN_eq] at h
 obtain ⟨f,i',h1,h2,h3,h4,h5,_,h7⟩:=hf i off sz h
 exact ⟨fields,f,i',hd,h1,h2,h3,h4,h5,h7⟩
theorem fieldAt_sound {t:Nat}{y:Ty}(hy:X.ty t=some y){fs:List (Nat × Nat)}(hk:y.k=.str fs){i off sz:Nat}(h:getN fs i=some (off,sz)){b o:Nat} :
 (Instr.fieldAt t (.pointer (some ⟨b,o,none⟩)) i).run X.P w=.ok (.pointer (some ⟨b,o+off,none⟩)) w:=by
 obtain ⟨fields,f,i',h1,h2,h3,h4,h5,h6,_⟩:=str_fields hy hk h
 subst h3
 simp [Instr.fieldAt,run_underlying h1,h2,Instr.sureAddr,fieldPlace,sizeOf,typeInfo,h4,h5,h6,addr_add]
theorem drop_cptr {b o:Nat}{cs:List AV}{off:Nat}(h:Rel E w (.pointer (some ⟨b,o,none⟩)) (.cptr cs))(hl:off≤cs.length) :
 Rel E w (.pointer (some ⟨b,o+off,none⟩)) (.cptr (cs.drop off)):=by
 cases h with
 | cptr _ _ _ vals hm hc hr =>
   refine .cptr _ b (o+off) (fun j=>vals (off+j)) (fun j hj=>?_) (fun j hj=>?_) (fun j x hx=>?_)
   ·simp at hj;rw [Nat.add_assoc];exact hm _ (by omega)
   ·simp at hj;rw [Nat.add_assoc];exact hc _ (by omega)
   ·exact hr _ x (by simpa using hx)
theorem evalR_sound (hI:Inv X E S w)(hF:FR E w F a N){o:Oper}{x:AV}(h:evalR X F S o.op=some x) :
 ∃ v,(execOp a.eval o).run X.P w=.ok (.value v) w∧Rel E w v x:=by
 cases ho:o.op<;>rw [ho] at h<;>try (simp [evalR] at h;done)
 case move y=>exact ⟨a.eval y,by simp [execOp,ho],opr_sound hI hF (by simpa [evalR] using h)⟩
 case assign y=>exact ⟨a.eval y,by simp [execOp,ho],opr_sound hI hF (by simpa [evalR] using h)⟩
 case pick c p q =>
  cases c with
  | tmp t =>
    simp only [evalR] at h
    split at h
    ·rename_i hc
     obtain ⟨v,hv,hr⟩:=hF.rel t _ hc
     cases hr
     have he:a.eval (.tmp t)=.bool true:=by simp [Act.eval,hv]
     exact ⟨_,by simp [execOp,ho,he,asBool],opr_sound hI hF h⟩
    ·rename_i hc
     obtain ⟨v,hv,hr⟩:=hF.rel t _ hc
     cases hr
     have he:a.eval (.tmp t)=.bool false:=by simp [Act.eval,hv]
     exact ⟨_,by simp [execOp,ho,he,asBool],opr_sound hI hF h⟩
    ·rename_i e hc
     obtain ⟨v,hv,hr⟩:=hF.rel t _ hc
     cases hr
     have he:a.eval (.tmp t)=.bool e:=by simp [Act.eval,hv]
     split at h
     ·rename_i p' hp
      split at h
      ·rename_i q' hq
       cases h
       have h1:=opr_sound hI hF hp
       have h2:=opr_sound hI hF hq
       cases hh1:a.eval p<;>rw [hh1] at h1<;>cases h1
       cases hh2:a.eval q<;>rw [hh2] at h2<;>cases h2
       refine ⟨_,by simp [execOp,ho,he,asBool];rfl,?_⟩
       cases e<;>simp [hh1,hh2]<;>exact .val _
      ·cases h
     ·cases h
    ·cases h
  | _=>simp [evalR] at h
 case build t ps =>
  simp only [evalR] at h
  split at h
  ·rename_i y hy
   split at h
   ·rename_i fs hk
    obtain ⟨v,hv,hr⟩:=build_sound hI hF hy hk h
    exact ⟨v,by simp [execOp,ho,hv],hr⟩
   ·cases h
  ·cases h
 case load t p =>
  simp only [evalR,sizeT] at h
  cases hy:X.ty t with
  | none=>simp [hy] at h
  | some y =>
    simp only [hy] at h
    split at h
    ·rename_i z hz
     obtain ⟨u,hu,hr⟩:=loadA_sound hI hy (opr_sound hI hF hz) h
     exact ⟨u,by simp [execOp,ho,hu],hr⟩
    ·cases h
 case nilCheck y =>
  simp only [evalR] at h
  split at h
  ·rename_i z hz
   obtain ⟨h1,h2⟩:=nilA_sound (X:=X) (opr_sound hI hF hz) h ho rfl
   exact ⟨_,h1,h2⟩
  ·cases h
 case binOp op t p q t' =>
  simp only [evalR] at h
  split at h
  ·rename_i u hu
   split at h
   ·rename_i v hv
    split at h
    ·rename_i r' hr'
     cases h
     obtain ⟨z,hz,hr⟩:=binA_sound (X:=X) (opr_sound hI hF hu) (opr_sound hI hF hv) hr' t p q
     exact ⟨z,by simp only [execOp,ho];simp only [Sem.run_bind] at hz ⊢;rw [hz];rfl,hr⟩
    ·split at h
     ·rename_i yt hyt
      obtain ⟨z,hz,hr⟩:=binB_sound (X:=X) hyt (opr_sound hI hF hu) (opr_sound hI hF hv) h p q
      exact ⟨z,by simp only [execOp,ho];simp only [Sem.run_bind] at hz ⊢;rw [hz];rfl,hr⟩
     ·cases h
   ·cases h
  ·cases h
 case unOp op t p =>
  simp only [evalR] at h
  split at h
  ·rename_i u hu
   obtain ⟨z,hz,hr⟩:=unA_sound (X:=X) (opr_sound hI hF hu) h
   exact ⟨z,by simp [execOp,ho,hz],hr⟩
  ·cases h
 case convert s d p =>
  simp only [evalR] at h
  split at h
  ·rename_i ys hys
   split at h
   ·rename_i y hy
    split at h
    ·rename_i k n hp
     split at h
     ·rename_i k' hk
      cases h
      have h1:=opr_sound hI hF hp
      obtain ⟨dd,hd,hdd⟩:=(X.ty_ok d y hy).agg
      obtain ⟨ds,hs,_⟩:=(X.ty_ok s ys hys).agg
      simp only [hk] at hdd
      subst hdd
      cases hh:a.eval p<;>rw [hh] at h1<;>cases h1
      exact ⟨_,by simp [execOp,ho,hh,convert,run_underlying hs,run_underlying hd,Conv.intToInt],.val _⟩
     ·cases h
    ·cases h
   ·cases h
  ·cases h
 case makeFunc fn first cap =>
  cases fn with
  | func f =>
    simp only [evalR] at h
    split at h
    ·rename_i hf0
     split at h
     ·rename_i cs hcs
      cases h
      obtain ⟨hl,hr⟩:=oprs_sound_arr hI hF hcs
      have:first=#[]:=by simpa using hf0
      subst this
      exact ⟨_,by simp [execOp,ho,Instr.makeFunc],.fn f _ cs hl hr⟩
     ·cases h
    ·cases h
  | _=>simp [evalR] at h
 case fieldAddr s p f =>
  simp only [evalR] at h
  split at h
  ·rename_i y hy
   split at h
   ·rename_i fs hk
    split at h
    ·rename_i off sz hfs
     split at h
     ·rename_i b r hp
      cases h
      have h1:=opr_sound hI hF hp
      cases hh:a.eval p<;>rw [hh] at h1<;>cases h1
      rename_i blk sz' hb
      refine ⟨_,by simp only [execOp,ho,hh];rw [Sem.run_bind,fieldAt_sound hy hk hfs];rfl,?_⟩
      rw [Nat.add_zero]
      exact .ptr _ _ _ _ _ hb
     ·rename_i b r o' _ hp
      cases h
      have h1:=opr_sound hI hF hp
      cases hh:a.eval p<;>rw [hh] at h1<;>cases h1
      rename_i blk sz' hb
      refine ⟨_,by simp only [execOp,ho,hh];rw [Sem.run_bind,fieldAt_sound hy hk hfs];rfl,?_⟩
      rw [addN_eq,Nat.add_assoc]
      exact .ptr _ _ _ _ _ hb
     ·rename_i cs hp
      obtain ⟨h2,h3⟩:=dropK_eq _ _ _ _ h
      cases h3
      have h1:=opr_sound hI hF hp
      cases hh:a.eval p<;>rw [hh] at h1<;>cases h1
      rename_i b o' vals hm hr hc
      refine ⟨_,by simp only [execOp,ho,hh];rw [Sem.run_bind,fieldAt_sound hy hk hfs];rfl,?_⟩
      exact drop_cptr (.cptr cs b o' vals hm hr hc) h2
     ·rename_i rows t v i o' hp
      cases h
      have h1:=opr_sound hI hF hp
      obtain ⟨bb,sz',n,cap,hh,hrel,hi,hsz⟩:=h1.pp_inv
      refine ⟨_,by simp only [execOp,ho,hh];rw [Sem.run_bind,fieldAt_sound hy hk hfs];rfl,?_⟩
      rw [addN_eq,Nat.add_assoc]
      exact .pp _ _ _ _ _ _ _ _ _ hrel hi hsz
     ·cases h
    ·cases h
   ·cases h
  ·cases h
 case field s p f =>
  simp only [evalR] at h
  split at h
  ·rename_i y hy
   split at h
   ·rename_i fs hk
    split at h
    ·rename_i off sz hfs
     split at h
     ·rename_i g hg
      split at h
      ·rename_i cs hp
       obtain ⟨h2,h3⟩:=dropK_eq _ _ _ _ h
       obtain ⟨h4,h5⟩:=takeK_eq _ _ _ _ h3
       have h1:=opr_sound hI hF hp
       cases hh:a.eval p<;>rw [hh] at h1<;>cases h1
       rename_i vs hl hr
       obtain ⟨fields,ff,i',k1,k2,k3,k4,k5,k6,k7⟩:=str_fields hy hk hfs
       rw [getN_eq] at hg
       obtain ⟨d',kd,kg⟩:=k7 g hg
       subst k3
       simp only [List.length_drop] at h4
       have hag:(isAgg ff.type).run X.P w=.ok g w:=by
        cases g with
        | true=>rcases kg.1 rfl with ⟨_,rfl⟩ | ⟨_,_,rfl⟩<;>simp [isAgg,run_underlying kd]
        | false =>
          have:∀ fs',d'≠.struct fs':=fun fs' hh=>by have:=kg.2 (.inl ⟨fs',hh⟩);cases this
          have:∀ n e,d'≠.array n e:=fun n e hh=>by have:=kg.2 (.inr ⟨n,e,hh⟩);cases this
          cases d'<;>simp_all [isAgg,run_underlying kd]
       rcases finA_eq h5 with ⟨rfl,rfl⟩ | ⟨rfl,hone⟩
       ·refine ⟨.agg (vs.extract ff.offset (ff.offset+sz)),?_,?_⟩
        ·simp [execOp,ho,hh,Instr.field,run_underlying k1,k2,asAgg,part,hag,sizeOf,typeInfo,k4,k5]
        ·refine .agg _ _ (by simp;omega) (fun j v z hv hz=>?_)
         have hj:j<sz:=by have:=lt_of_get hz;simp at this;omega
         refine hr (ff.offset+j) v z ?_ (by simpa [List.getElem?_take,hj] using hz)
         simp [Array.getElem?_extract] at hv
         exact hv.2
       ·have hj0:cs[ff.offset]?=some x:=by
         have:((cs.drop ff.offset).take sz)[0]?=some x:=by rw [hone];rfl
         simpa [List.getElem?_take,Nat.pos_of_ne_zero k6] using this
        have hlt:ff.offset<vs.size:=by rw [hl];exact lt_of_get hj0
        refine ⟨vs[ff.offset],?_,hr _ _ _ (by simp [hlt]) hj0⟩
        simp [execOp,ho,hh,Instr.field,run_underlying k1,k2,asAgg,part,hag,hlt]
      ·cases h
     ·cases h
    ·cases h
   ·cases h
  ·cases h
 case indexAddr t p q =>
  cases q with
  | const c =>
    cases c with
    | int k i =>
      simp only [evalR] at h
      split at h
      ·rename_i y hy
       split at h
       ·rename_i n e hk
        split at h
        ·rename_i ye hye
         split at h
         ·rename_i hi0
          split at h
          ·rename_i hin
           split at h
           ·rename_i b r o' hp
            cases h
            have h1:=opr_sound hI hF hp
            obtain ⟨d,hd,hdd⟩:=(X.ty_ok t y hy).agg
            simp only [hk] at hdd
            obtain ⟨rfl,_⟩:=hdd
            have hi0':=of_decide_eq_true hi0
            have hin':=of_decide_eq_true hin
            cases hh:a.eval p<;>rw [hh] at h1<;>cases h1
            rename_i blk sz' hb
            refine ⟨.pointer (some ⟨blk,r*sz'+o'+i.toNat*ye.size,none⟩),?_,?_⟩
            ·have hsz:=sizeOf_run hye w
             have hc:a.eval (.const (.int k i))=.int k i:=rfl
             simp [execOp,ho,hh,hc,Instr.indexAt,asIntOf,run_underlying hd,Instr.sureAddr,hi0',hin',hsz,addr_add]
            ·rw [addN_eq,Nat.add_assoc]
             exact .ptr _ _ _ _ _ hb
           ·cases h
          ·cases h
         ·cases h
        ·cases h
       ·cases h
      ·cases h
    | _=>simp [evalR] at h
  | _=>simp [evalR] at h
 case extract t i =>
  simp only [evalR] at h
  split at h
  ·rename_i vs hp
   have h1:=opr_sound hI hF hp
   cases hh:a.eval t<;>rw [hh] at h1<;>cases h1
   rename_i us hl hr
   rw [getN_eq] at h
   have hlt:i<us.size:=by rw [hl];exact lt_of_get h
   exact ⟨us[i],by simp [execOp,ho,hh,Instr.extract,hlt],hr i _ _ (by simp [hlt]) h⟩
  ·cases h
 case call c =>
  obtain ⟨callee,args,argTypes⟩:=c
  simp only [evalR] at h
  split at h
  ·split at h
   ·rename_i x' hargs
    split at h
    ·rename_i t hts
     split at h
     ·rename_i y hy
      split at h
      ·rename_i u hu
       have ha:args=#[x']:=by rw [← Array.toList_inj];simpa using hargs
       have ht:argTypes=#[t]:=by rw [← Array.toList_inj];simpa using hts
       subst ha;subst ht
       obtain ⟨z,hz,hr⟩:=lenA_sound hI hy (opr_sound hI hF hu) h o.type
       exact ⟨z,by simp [execOp,ho,resolve,invoke,builtin,hz],hr⟩
      ·cases h
     ·cases h
    ·cases h
   ·cases h
  ·split at h
   ·rename_i k m k' n hargs
    cases h
    obtain ⟨hl,hr⟩:=oprs_sound hI hF hargs
    have e:∃ o1 o2,args.toList=[o1,o2]:=by
     cases hq:args.toList with
     | nil=>rw [hq] at hl;simp at hl
     | cons o1 l=>cases l with
       | nil=>rw [hq] at hl;simp at hl
       | cons o2 l2=>cases l2 with
         | nil=>exact ⟨o1,o2,rfl⟩
         | cons o3 l3=>rw [hq] at hl;simp at hl
    obtain ⟨o1,o2,hq⟩:=e
    have ha:args=#[o1,o2]:=by rw [← Array.toList_inj];simpa using hq
    subst ha
    have r1:=hr 0 (a.eval o1) _ (by simp) rfl
    have r2:=hr 1 (a.eval o2) _ (by simp) rfl
    cases h1:a.eval o1<;>rw [h1] at r1<;>cases r1
    cases h2:a.eval o2<;>rw [h2] at r2<;>cases r2
    exact ⟨_,by simp [execOp,ho,resolve,invoke,builtin,h1,h2,Builtin.max_,Builtin.max2],.val _⟩
   ·cases h
  ·split at h
   ·rename_i k m k' n hargs
    cases h
    obtain ⟨hl,hr⟩:=oprs_sound hI hF hargs
    have e:∃ o1 o2,args.toList=[o1,o2]:=by
     cases hq:args.toList with
     | nil=>rw [hq] at hl;simp at hl
     | cons o1 l=>cases l with
       | nil=>rw [hq] at hl;simp at hl
       | cons o2 l2=>cases l2 with
         | nil=>exact ⟨o1,o2,rfl⟩
         | cons o3 l3=>rw [hq] at hl;simp at hl
    obtain ⟨o1,o2,hq⟩:=e
    have ha:args=#[o1,o2]:=by rw [← Array.toList_inj];simpa using hq
    subst ha
    have r1:=hr 0 (a.eval o1) _ (by simp) rfl
    have r2:=hr 1 (a.eval o2) _ (by simp) rfl
    cases h1:a.eval o1<;>rw [h1] at r1<;>cases r1
    cases h2:a.eval o2<;>rw [h2] at r2<;>cases r2
    exact ⟨_,by simp [execOp,ho,resolve,invoke,builtin,h1,h2,Builtin.min_,Builtin.min2],.val _⟩
   ·cases h
  ·cases h
end
section
variable {X:Cx}{E:Env}{S:St}{w:World}{F:Frm}{a:Act}{N:Nat}
theorem flat_of_cellsOf {v:Value}{x:AV}(hx:Rel E w v x){xs:List AV}(hc:cellsOf x=some xs):Flat2 E w v.cells xs :=
 let ⟨h1,h2,_⟩:=cellsOf_sound hx hc;⟨h1,h2⟩
theorem newVar_sound (hI:Inv X E S w)(t:TypeId){v:Value}{cs:List AV}(hf:Flat2 E w v.cells cs) :
 ∃ E' w',(newVar t v).run X.P w=.ok ⟨w.heap.size,0,none⟩ w'∧Inv X E' ⟨S.boxes++[[cs]],S.toks⟩ w'∧Evol E w E' w' E.boxes.length E.toks.length ∧
  Rel E' w' (.pointer (some ⟨w.heap.size,0,none⟩)) (.ptr S.boxes.length 0 0):=by
 obtain ⟨ev,hI'⟩:=hI.newBox (w':=w.alloc (.cells v.cells t)) (cs:=v.cells) (e:=t) (sz:=cs.length) (rows:=[cs]) rfl rfl rfl rfl (by simp [hf.1])
  (fun r hr=>by simp at hr;rw [hr]) (fun k r j x u h1 h2 h3=>by
    cases k with
    | zero=>simp at h1;subst h1;exact hf.2 j u x (by simpa using h3) h2
    | succ k=>simp at h1)
 refine ⟨E.addBox w.heap.size cs.length,w.alloc (.cells v.cells t),by simp [newVar,newRow],hI',ev,?_⟩
 have:=Rel.ptr (E:=E.addBox w.heap.size cs.length) (w:=w.alloc (.cells v.cells t)) S.boxes.length 0 0 w.heap.size cs.length (by rw [← hI.nb];exact getElem?_snoc_new _ _)
 simpa using this
theorem repl_get {α:Type}(n i:Nat)(a:α)(h:i<n):(List.replicate n a)[i]?=some a:=by simp [h]
def Grid (E:Env)(w:World)(sz:Nat)(cells:Array Value)(rows:List (List AV)):Prop :=
 cells.size=rows.length*sz∧(∀ r,r∈rows→r.length=sz) ∧
  ∀ (k:Nat) (r:List AV) (j:Nat) (x:AV) (v:Value),rows[k]?=some r→r[j]?=some x→cells[k*sz+j]?=some v→Rel E w v x
theorem grid_one {sz:Nat}{cells:Array Value}{rows:List (List AV)}{xs:List AV}{v:Value}{x:AV}{i:Nat}(h:Grid E w sz cells rows)(hx:Rel E w v x)
 (hc:cellsOf x=some xs)(hl:xs.length=sz)(hi:i<rows.length) :
 Grid E w sz (v.cells.zipIdx.foldl (fun cs (p:Value × Nat)=>cs.setIfInBounds (i*sz+p.2) p.1) cells) (rows.set i xs):=by
 obtain ⟨hs,hr,_⟩:=cellsOf_sound hx hc
 obtain ⟨h1,h2⟩:=foldset_arr (i*sz) v.cells cells
 refine ⟨by rw [h1,h.1];simp,fun r hr'=>?_,fun k r j y u hk hj hu=>?_⟩
 ·rcases List.mem_or_eq_of_mem_set hr' with h' | rfl
  ·exact h.2.1 r h'
  ·exact hl
 ·rw [h2] at hu
  by_cases hki:k=i
  ·subst hki
   have hr1:r=xs:=by simpa [hi] using hk.symm
   subst hr1
   have hjl:=lt_of_get hj
   have hlt:=row_in (sz:=sz) hi (show j<sz by omega)
   rw [if_pos ⟨by omega,by omega,by rw [h.1];exact hlt⟩] at hu
   exact hr j u y (by simpa [Nat.add_sub_cancel_left] using hu) hj
  ·have hk':rows[k]?=some r:=by simpa [List.getElem?_set,Ne.symm hki] using hk
   have hjl:j<sz:=by rw [← h.2.1 r (List.mem_of_getElem? hk')];exact lt_of_get hj
   have:=row_apart hjl hki
   rw [if_neg (by omega)] at hu
   exact h.2.2 k r j y u hk' hj hu
theorem layR_sound (hI:Inv X E S w)(hF:FR E w F a N){sz:Nat}:∀ (ps:List (Nat × Operand))(cells:Array Value)(rows:List (List AV))(r:AV),Grid E w sz cells rows →
 layR X F sz ps rows=some r→∃ cells' rows',Instr.fill (fun i=>some (i*sz,sz)) cells (ps.map fun p=>(p.1,a.eval p.2))=some cells'∧Grid E w sz cells' rows' ∧
  rows'.length=rows.length∧r=.sl rows' .tight
 | [],cells,rows,r,hg,h=>by
   simp only [layR] at h;cases h
   exact ⟨cells,rows,rfl,hg,rfl,rfl⟩
 | (i,o)::ps,cells,rows,r,hg,h=>by
   simp only [layR] at h
   split at h
   ·rename_i x hx
    split at h
    ·rename_i xs hxs
     split at h
     ·rename_i hl
      obtain ⟨h1,h2⟩:=setK_eq _ _ _ _ _ h
      have hl':xs.length=sz:=Nat.eq_of_beq_eq_true hl
      have hrx:=opr_sound hI hF hx
      obtain ⟨hs,_,_⟩:=cellsOf_sound hrx hxs
      have hlay:=grid_one hg hrx hxs hl' h1
      obtain ⟨cells',rows',hc',hg',hll,hr'⟩:=layR_sound hI hF ps _ _ r hlay h2
      refine ⟨cells',rows',?_,hg',by simpa using hll,hr'⟩
      simp only [List.map_cons,Instr.fill]
      rw [if_neg]
      ·exact hc'
      ·have hgs:=hg.1
       rw [hl'] at hs
       have:(i+1)*sz≤rows.length*sz:=Nat.mul_le_mul_right sz h1
       rw [Nat.add_mul,Nat.one_mul] at this
       simp [hs]
       omega
     ·cases h
    ·cases h
   ·cases h
theorem grid_zero {z:Value}{zs:List AV}(h:z.cells.toList.map ofVal=zs){sz n:Nat}(hl:zs.length=sz)(cells:Array Value)(hs:cells.size=n*sz)
 (hc:∀ i,i<n*sz→cells[i]?=z.cells[i % sz]?):Grid E w sz cells (List.replicate n zs):=by
 refine ⟨by simp [hs],fun r hr=>by rw [List.eq_of_mem_replicate hr];exact hl,fun k r j x v hk hj hv=>?_⟩
 have hkn:k<n:=by have:=lt_of_get hk;simpa using this
 have hr:r=zs:=by rw [repl_get n k zs hkn] at hk;cases hk;rfl
 subst hr
 have hjs:j<sz:=by have:=lt_of_get hj;omega
 rw [hc _ (row_in hkn hjs),Nat.mul_comm,Nat.mul_add_mod,Nat.mod_eq_of_lt hjs] at hv
 exact (zero_flat (E:=E) (w:=w) h).2 j v x hv hj
theorem sl_of_grid {w':World}(hI:Inv X E S w){sz:Nat}{cells:Array Value}{rows:List (List AV)}(hg:Grid E w sz cells rows){e:TypeId}
 (hh:w'.heap=w.heap.push (.cells cells e (0,0)))(hos:w'.os=w.os)(ht:w'.tape=w.tape)(ho:w'.output=w.output)(hx:rows.length≤maxN)
 (sp:Sp)(cap:Nat)(hcap:rows.length≤cap)(hsp:SpOk E sp (some ⟨w.heap.size,0,none⟩) rows.length cap sz) :
 Rel E w' (.slice (some ⟨w.heap.size,0,none⟩) rows.length cap) (.sl rows sp):=by
 have ev:=Evol.push (E:=E) ⟨_,hh⟩ hos ht ho E.boxes.length E.toks.length
 have hcell:∀ o,w'.cell? ⟨w.heap.size,o,none⟩=cells[o]?:=fun o=>by
  have:w'.heap[w.heap.size]?=some (.cells cells e (0,0)):=by rw [hh];simp
  simp [World.cell?,this]
 refine .sl rows sp _ rows.length cap w.heap.size 0 sz (fun i j=>cells.getD (i*sz+j) default) rfl hx (fun _=>rfl) hg.2.1 (fun i j _ _=>fresh_mt hI)
  (fun i j hi hj=>?_) (fun i j r x hi hj=>?_) hsp hcap
 ·rw [Nat.zero_add,hcell]
  have:=row_in hi hj
  rw [← hg.1] at this
  simp [this,Array.getD]
 ·have hi':=lt_of_get hi
  have hj':j<sz:=by rw [← hg.2.1 r (List.mem_of_getElem? hi)];exact lt_of_get hj
  have:=row_in hi' hj'
  rw [← hg.1] at this
  exact (hg.2.2 i r j x _ hi hj (by simp [this,Array.getD])).step ev
theorem evalM_sound (hI:Inv X E S w)(hF:FR E w F a N){o:Oper}{x:AV}{S':St}(h:evalM X F S o.op=some (x,S')) :
 ∃ v E' w',(execOp a.eval o).run X.P w=.ok (.value v) w'∧Inv X E' S' w'∧Evol E w E' w' E.boxes.length E.toks.length∧Rel E' w' v x:=by
 cases ho:o.op<;>rw [ho] at h<;>try (simp [evalM] at h;done)
 case alloc t =>
  simp only [evalM] at h
  split at h
  ·rename_i y1 y2 y3 y4 hy
   rw [snocK_eq,lenK_eq] at h
   cases h
   obtain ⟨z,hz,hzc,hzl,_⟩:=zero_run hy w
   obtain ⟨E',w',h1,h2,h3,h4⟩:=newVar_sound hI t (zero_flat (E:=E) (w:=w) hzc)
   exact ⟨_,E',w',by simp [execOp,ho,Instr.alloc,hz,h1],h2,h3,h4⟩
  ·cases h
 case box t p =>
  simp only [evalM] at h
  split at h
  ·rename_i u hu
   split at h
   ·rename_i cs hcs
    rw [snocK_eq,lenK_eq] at h
    cases h
    obtain ⟨E',w',h1,h2,h3,h4⟩:=newVar_sound hI t (flat_of_cellsOf (opr_sound hI hF hu) hcs)
    exact ⟨_,E',w',by simp [execOp,ho,Instr.box,h1],h2,h3,h4⟩
   ·cases h
  ·cases h
 case buildSlice t n ps =>
  simp only [evalM] at h
  split at h
  ·rename_i y hy
   split at h
   ·rename_i e hk
    split at h
    ·rename_i ye hye
     split at h
     ·rename_i hble
      split at h
      ·rename_i r hr
       cases h
       have hle:n*ye.size≤1000000:=Nat.le_of_ble_eq_true hble
       obtain ⟨d,hd,hdd⟩:=(X.ty_ok t y hy).agg
       simp only [hk] at hdd
       obtain ⟨rfl,ye',hye',hne⟩:=hdd
       rw [hye] at hye';cases hye'
       obtain ⟨z,hz,hzc,hzl,i,hi,hiz,his,hib⟩:=zero_run hye w
       have hzs:z.cells.size=ye.size:=by rw [← hzl,← hzc];simp
       rw [repC_eq] at hr
       have hg0:Grid E w ye.size ((Array.range (n*ye.size)).map (z.cells[· % z.cells.size]!)) (List.replicate n ye.zero):=by
        refine grid_zero hzc hzl _ (by simp) (fun i hi=>?_)
        have hm:i % ye.size<z.cells.size:=by rw [hzs];exact Nat.mod_lt _ (Nat.pos_of_ne_zero hne)
        have hr0:(Array.range (n*ye.size))[i]?=some i:=by simp [hi]
        rw [Array.getElem?_map,hr0]
        simp only [Option.map_some]
        rw [hzs,getElem!_pos z.cells (i % ye.size) hm,Array.getElem?_eq_getElem hm]
       obtain ⟨cells',rows',hf',hg',hl',rfl⟩:=layR_sound hI hF ps.toList _ _ _ hg0 hr
       have hn:rows'.length=n:=by simpa using hl'
       refine ⟨_,E,w.alloc (.cells cells' e),?_,hI.push (w':=w.alloc (.cells cells' e)) ⟨_,rfl⟩ rfl rfl rfl,Evol.push (w':=w.alloc (.cells cells' e)) ⟨_,rfl⟩ rfl rfl rfl _ _,sl_of_grid (w':=w.alloc (.cells cells' e)) (e:=e) hI hg' rfl rfl rfl rfl ?_ .tight rows'.length (Nat.le_refl _) rfl⟩
       ·have hsz:=sizeOf_run hye w
        have hpp:(ps.map fun (x:Nat × Operand)=>(x.1,a.eval x.2)).toList=ps.toList.map fun p=>(p.1,a.eval p.2):=by simp
        have h24:¬ (n*ye.size > 16777216):=by omega
        simp only [execOp,ho,Instr.buildSlice,Sem.run_bind,run_underlying hd,Result.andThen_ok,hsz]
        by_cases h0:n*ye.size=0
        ·have hn0:n=0:=by
          rcases Nat.mul_eq_zero.1 h0 with h | h
          ·exact h
          ·exact absurd h hne
         subst hn0
         have e1:∀ f:Nat→Value,(Array.range 0).map f=#[]:=fun f=>by rw [← Array.toList_inj];simp
         have hf2:=hf'
         simp only [Nat.zero_mul,e1] at hf2
         simp [hf2,newRow,hn,e1]
        ·simp [h24,h0,hz,hf',newRow,hn]
       ·rw [hn]
        have:n≤n*ye.size:=Nat.le_mul_of_pos_right _ (Nat.pos_of_ne_zero hne)
        simp only [maxN];omega
      ·cases h
     ·cases h
    ·cases h
   ·cases h
  ·cases h
end
end Go.V
