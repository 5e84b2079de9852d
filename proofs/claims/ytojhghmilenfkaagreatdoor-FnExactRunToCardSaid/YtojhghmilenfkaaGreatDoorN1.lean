/- A part of the proof of the claim that the last text states: no condition of its own. -/
import Derived.Below
import Derived.Deep.AppendSrc
import Derived.KernelRfl
import Derived.Laws.AppendOwn
import Derived.Laws.Build
import Derived.Laws.Cells
import Derived.Laws.Concat
import Derived.Laws.CopyRow
import Derived.Laws.Entries
import Derived.Laws.Rows
import Derived.Laws.Strings
import Derived.Laws.Tables
import Derived.Orders
set_option linter.unusedVariables false
set_option linter.unusedSimpArgs false
namespace Go.V
open Go
abbrev Gs:=@Nat.lt_or_ge
abbrev U9:=@List.getElem?_eq_none
abbrev Abv:=@Array.getElem?_eq_none
abbrev Bo:=@Nat.le_refl
abbrev Pb:=@Nat.le_trans
abbrev Mz:=@Nat.lt_of_lt_of_le
abbrev Bh:=@List.mem_of_getElem?
abbrev Tq:=@Nat.mul_le_mul_right
abbrev Rf:=@Nat.add_mul
abbrev B3:=@Nat.zero_le
abbrev Va:=@Nat.not_lt_zero
abbrev Apg:=@Array.getD_eq_getD_getElem?
abbrev Jy:=@Nat.zero_add
abbrev zzq13:=@List.mem_cons
abbrev Px:=@Nat.add_zero
abbrev Ad9:=@List.length_drop
abbrev Mb:=@List.getElem?_take
abbrev Mj:=@Nat.add_assoc
abbrev Y9:=@Array.getElem?_push_lt
abbrev Cs:=@List.getElem?_append_left
abbrev Gk:=@List.getElem?_append_right
abbrev Ex:=@List.length_append
abbrev Za:=@List.length_singleton
abbrev Vb:=@List.getElem?_set
abbrev Aea:=@List.foldl_cons
abbrev Nn:=@List.length_cons
abbrev Fp:=@List.append_assoc
abbrev Vd:=@List.length_take
abbrev Nz:=@List.getElem?_drop
abbrev Ve:=@Nat.eq_of_beq_eq_true
abbrev N0:=@List.map_cons
abbrev Ba:=@of_decide_eq_false
abbrev A5:=@of_decide_eq_true
abbrev Aeb:=@Nat.pos_of_ne_zero
abbrev zzq34:=@Array.toList_inj
abbrev Wt:=@List.mem_or_eq_of_mem_set
abbrev Abk:=@List.eq_of_mem_replicate
abbrev Jz:=@Nat.le_of_ble_eq_true
abbrev Lk:=@Option.map_some
abbrev Aku:=@Array.getElem?_eq_getElem
abbrev Abl:=@List.size_toArray
abbrev Agm:=@List.length_set
abbrev Rc:=@List.getElem?_toArray
abbrev Fw:=@Nat.blt_eq
abbrev Zb:=@Array.getElem?_append_left
abbrev zzq45:=@List.mem_append
abbrev Dd:=@Bool.and_eq_true
abbrev Gl:=@List.getElem?_map
abbrev zzq48:=@List.all_eq_true
abbrev Wu:=@Array.toList_append
abbrev Aec:=@Nat.lt_succ_self
abbrev Wv:=@List.getElem?_eq_getElem
abbrev Pd:=@Bool.or_eq_true
abbrev zzq53:=@List.mem_range
abbrev zzq54:=@beq_iff_eq
abbrev Vf:=@Bool.or_false
abbrev zzq56:=@List.mem_filter
abbrev Ml:=@Bool.not_eq_true'
abbrev Re:=@Bool.true_and
abbrev Akv:=@List.singleton_append
abbrev Abm:=@List.length_filter_le
abbrev Fq:=@List.getElem?_set_ne
abbrev Eh:=@List.getElem?_set_self
abbrev Zc:=@List.map_set
abbrev Abn:=@List.getElem?_range
abbrev zzq65:=@List.length_pos_iff
abbrev zzq66:=@List.mem_map
abbrev Agn:=@List.mem_of_mem_take
abbrev Py:=@List.length_map
abbrev Kr:=@List.map_append
abbrev Aed:=@List.drop_drop
abbrev Ke:=@decide_eq_true_eq
abbrev Ww:=@List.not_mem_nil
abbrev Aee:=@List.take_append_drop
abbrev G8:=@List.take_add_one
abbrev I2:=@List.take_length
abbrev Akw:=@List.drop_eq_getElem_cons
abbrev Hz:=@List.drop_length
abbrev Mc:=@decide_eq_false
abbrev Aef:=@List.drop_eq_nil_of_le
abbrev Pe:=@Bool.or_eq_false_iff
abbrev Ago:=@Bool.not_eq_false'
abbrev Zd:=@decide_eq_true
abbrev Pz:=@List.cons_append
abbrev Hl:=@Int.toNat_natCast
abbrev Aeg:=@List.filter_append
abbrev Abo:=@List.filter_cons
abbrev Akx:=@List.dropLast_eq_take
abbrev Wx:=@List.length_nil
abbrev Aky:=@List.getLastD_eq_getLast?
abbrev P0:=@List.all_cons
abbrev Ze:=@List.any_cons
abbrev Abp:=@List.ext_getElem?
abbrev H0:=@List.append_nil
abbrev zzq94:=@List.length_eq_zero_iff
abbrev Tj:=@List.nil_append
abbrev Abq:=@List.mem_append_right
abbrev Aph:=@List.getElem?_replicate
abbrev Iw:=@List.set_append_right
abbrev Ik:=@Nat.sub_self
abbrev Td:=@Array.getElem?_toList
abbrev Aav:=@Option.toList_some
abbrev zzq102:=@Option.map_eq_some_iff
abbrev Air:=@List.getD_eq_getElem?_getD
abbrev Ad8:=@Nat.add_sub_cancel
abbrev zzq105:=@List.getElem?_eq_some_iff
abbrev zzq106:=@List.mem_flatMap
abbrev Aaw:=@List.getElem?_cons_succ
abbrev zzq108:=@List.nodup_append
inductive Sp where
 |no
 |tight
 |tok (t:Nat)
inductive AV where
 |val (v:Value)
 |ptr (b row off:Nat)
 |cptr (cs:List AV)
 |sl (rows:List (List AV)) (sp:Sp)
 |bsl (b n:Nat)
 |bst (b o n:Nat)
 |agg (cs:List AV)
 |tup (vs:List AV)
 |fn (f:FuncId) (cap:List AV)
 |lit (b:Bool)
 |junk
 |err
 |tagN (te b:Nat)
 |buf (te:Nat) (s:List UInt8) (t:Nat)
 |dat (te:Nat) (s:List UInt8) (t:Nat)
 |psl (rows:List (List AV)) (t v:Nat)
 |pp (rows:List (List AV)) (t v i o:Nat)
 deriving Inhabited
structure Tk where
 len:Nat
 sp:Option (Nat×Nat×Nat)
structure Env where
 boxes:List (Option (Nat×Nat))
 toks:List Tk
 fr:Nat→Nat→Prop
 df:List Deferred
def Env.own(E:Env)(b:Nat):Prop:=
 (∃(i sz:Nat),E.boxes[i]?=some (some (b,sz)))∨(∃(t l c sz:Nat),E.toks[t]?=some (Tk.mk l (some (b,c,sz))))
def Env.mt(E:Env)(b o:Nat):Prop:=
 E.fr b o∨(∃(i sz:Nat),E.boxes[i]?=some (some (b,sz)))∨(∃(t l c sz:Nat),E.toks[t]?=some (Tk.mk l (some (b,c,sz)))∧l*sz≤o)
def A3n(E:Env)(sp:Sp)(a:Option Addr)(n cap sz:Nat):Prop:=
 match sp with
 |.no=>True
 |.tight=>cap=n
 |.tok t=>∃k:Tk,E.toks[t]?=some k∧n≤k.len∧(n=k.len→match k.sp with
   |none=>cap=n
   |some (b,c,s)=>cap=c∧a=some ⟨b,0,none⟩∧s=sz)
def Pg:Nat:=9223372036854775807
def F3(w:World)(b:Nat):Option TypeId:=match w.heap[b]? with
 |some (.cells _ e _)=>some e
 |_=>none
def BufAt(E:Env)(w:World)(te:Nat)(s:List UInt8)(k:Tk)(p:Option Addr)(cap:Nat):Prop:=
 match k.sp with
 |none=>s=[]∧cap=0∧p=none
 |some (b,c,sz)=>cap=c∧p=some ⟨b,0,none⟩∧sz=1∧F3 w b=some te∧(∀j,j<s.length→¬E.mt b j)∧∀(j:Nat) (x:UInt8),s[j]?=some x→w.cell? ⟨b,j,none⟩=some (.int .u8 x.toNat)
inductive Flat:AV→Prop where
 |val (v:Value):Flat (.val v)
 |lit (b:Bool):Flat (.lit b)
 |junk:Flat .junk
 |err:Flat .err
 |cptr (cs:List AV) (h:∀x,x∈cs→Flat x):Flat (.cptr cs)
 |sl (rows:List (List AV)) (sp:Sp) (h:∀r,r∈rows→∀x,x∈r→Flat x) (hs:∀t,sp≠.tok t):Flat (.sl rows sp)
 |agg (cs:List AV) (h:∀x,x∈cs→Flat x):Flat (.agg cs)
 |tup (cs:List AV) (h:∀x,x∈cs→Flat x):Flat (.tup cs)
 |fn (f:FuncId) (cs:List AV) (h:∀x,x∈cs→Flat x):Flat (.fn f cs)
inductive NoT:AV→Prop where
 |val (v:Value):NoT (.val v)
 |lit (b:Bool):NoT (.lit b)
 |junk:NoT .junk
 |err:NoT .err
 |tagN (te b:Nat):NoT (.tagN te b)
 |ptr (b row off:Nat):NoT (.ptr b row off)
 |cptr (cs:List AV) (h:∀x,x∈cs→NoT x):NoT (.cptr cs)
 |sl (rows:List (List AV)) (sp:Sp) (h:∀r,r∈rows→∀x,x∈r→NoT x) (hs:∀t,sp≠.tok t):NoT (.sl rows sp)
 |bsl (b k:Nat):NoT (.bsl b k)
 |bst (b o k:Nat):NoT (.bst b o k)
 |agg (cs:List AV) (h:∀x,x∈cs→NoT x):NoT (.agg cs)
 |tup (cs:List AV) (h:∀x,x∈cs→NoT x):NoT (.tup cs)
 |fn (f:FuncId) (cs:List AV) (h:∀x,x∈cs→NoT x):NoT (.fn f cs)
theorem Flat.noT{x:AV}(h:Flat x):NoT x:=by
 induction h with
 |val v=>exact .val v
 |lit b=>exact .lit b
 |junk=>exact .junk
 |err=>exact .err
 |cptr cs _ ih=>exact .cptr cs ih
 |sl rows sp _ hs ih=>exact .sl rows sp ih hs
 |agg cs _ ih=>exact .agg cs ih
 |tup cs _ ih=>exact .tup cs ih
 |fn f cs _ ih=>exact .fn f cs ih
inductive Ok (n m:Nat):AV→Prop where
 |val (v:Value):Ok n m (.val v)
 |lit (b:Bool):Ok n m (.lit b)
 |junk:Ok n m .junk
 |err:Ok n m .err
 |tagN (te b:Nat) (h:b<n):Ok n m (.tagN te b)
 |buf (te:Nat) (s:List UInt8) (t:Nat) (h:t<m):Ok n m (.buf te s t)
 |dat (te:Nat) (s:List UInt8) (t:Nat) (h:t<m):Ok n m (.dat te s t)
 |ptr (b row off:Nat) (h:b<n):Ok n m (.ptr b row off)
 |cptr (cs:List AV) (h:∀x,x∈cs→Ok n m x):Ok n m (.cptr cs)
 |sl (rows:List (List AV)) (sp:Sp) (h:∀r,r∈rows→∀x,x∈r→Ok n m x) (hs:∀t,sp=.tok t→t<m):Ok n m (.sl rows sp)
 |bsl (b k:Nat) (h:b<n):Ok n m (.bsl b k)
 |bst (b o k:Nat) (h:b<n):Ok n m (.bst b o k)
 |agg (cs:List AV) (h:∀x,x∈cs→Ok n m x):Ok n m (.agg cs)
 |tup (cs:List AV) (h:∀x,x∈cs→Ok n m x):Ok n m (.tup cs)
 |fn (f:FuncId) (cs:List AV) (h:∀x,x∈cs→Ok n m x):Ok n m (.fn f cs)
 |psl (rows:List (List AV)) (t v:Nat) (h:t<m) (hf:∀r,r∈rows→∀x,x∈r→Ok n m x) (hn:∀r,r∈rows→∀x,x∈r→NoT x):Ok n m (.psl rows t v)
 |pp (rows:List (List AV)) (t v i o:Nat) (h:t<m) (hf:∀r,r∈rows→∀x,x∈r→Ok n m x) (hn:∀r,r∈rows→∀x,x∈r→NoT x):Ok n m (.pp rows t v i o)
def A40(w:World)(sp:Option (Nat×Nat×Nat))(a:Option Addr)(n cap sz:Nat)(vals:Nat→Nat→Value):Prop:=
 match sp with
 |none=>n=0∧cap=0
 |some (b,c,s)=>n≠0∧s=0∧c=cap∧a=some ⟨b,0,none⟩∧∃cs e,w.heap[b]?=some (.cells cs e (0,0))∧cs.size=cap*sz∧∀i j,i<n→j<sz→cs[i*sz+j]?=some (vals i j)
inductive Rel (E:Env)(w:World):Value→AV→Prop where
 |val (v:Value):Rel E w v (.val v)
 |lit (b:Bool):Rel E w (.bool b) (.lit b)
 |junk (v:Value):Rel E w v .junk
 |err (t:TypeId) (v:Value):Rel E w (.iface t v) .err
 |tagN (te b blk sz:Nat) (h:E.boxes[b]?=some (some (blk,sz))) (ht:F3 w blk=some te):Rel E w (.pointer none) (.tagN te b)
 |buf (te:Nat) (s:List UInt8) (t:Nat) (a:Option Addr) (cap:Nat) (k:Tk) (hk:E.toks[t]?=some k) (hn:s.length≤k.len) (hx:s.length≤Pg) (hs:s.length=k.len→BufAt E w te s k a cap) (hc:s.length≤cap) :
   Rel E w (.slice a s.length cap) (.buf te s t)
 |dat (te:Nat) (s:List UInt8) (t:Nat) (p:Option Addr) (k:Tk) (hk:E.toks[t]?=some k) (hn:s.length≤k.len) (hs:s.length=k.len→s≠[]→∃cap,BufAt E w te s k p cap):Rel E w (.pointer p) (.dat te s t)
 |ptr (b row off blk sz:Nat) (h:E.boxes[b]?=some (some (blk,sz))):Rel E w (.pointer (some ⟨blk,row*sz+off,none⟩)) (.ptr b row off)
 |cptr (cs:List AV) (b o:Nat) (vals:Nat→Value) (hm:∀j,j<cs.length→¬E.mt b (o+j))
   (hc:∀j,j<cs.length→w.cell? ⟨b,o+j,none⟩=some (vals j))
   (hr:∀(j:Nat)(x:AV),cs[j]?=some x→Rel E w (vals j) x):Rel E w (.pointer (some ⟨b,o,none⟩)) (.cptr cs)
 |sl (rows:List (List AV)) (sp:Sp) (a:Option Addr) (n cap b o sz:Nat) (vals:Nat→Nat→Value)
   (hn:rows.length=n)(hx:n≤Pg)(ha:n≠0→a=some ⟨b,o,none⟩)(hsz:∀r,r∈rows→r.length=sz)
   (hm:∀i j,i<n→j<sz→¬E.mt b (o+i*sz+j))
   (hc:∀i j,i<n→j<sz→w.cell? ⟨b,o+i*sz+j,none⟩=some (vals i j))
   (hr:∀(i j:Nat)(r:List AV)(x:AV),rows[i]?=some r→r[j]?=some x→Rel E w (vals i j) x)
   (hs:A3n E sp a n cap sz)(hcap:n≤cap):Rel E w (.slice a n cap) (.sl rows sp)
 |bsl (b blk sz n cap:Nat) (h:E.boxes[b]?=some (some (blk,sz))) (hc:n≤cap):Rel E w (.slice (some ⟨blk,0,none⟩) n cap) (.bsl b n)
 |bst (b blk sz o n cap:Nat) (h:E.boxes[b]?=some (some (blk,sz))):Rel E w (.slice (some ⟨blk,o*sz,none⟩) n cap) (.bst b o n)
 |agg (vs:Array Value) (cs:List AV) (hl:vs.size=cs.length)
   (hr:∀(j:Nat)(v:Value)(x:AV),vs[j]?=some v→cs[j]?=some x→Rel E w v x):Rel E w (.agg vs) (.agg cs)
 |tup (vs:Array Value) (cs:List AV) (hl:vs.size=cs.length)
   (hr:∀(j:Nat)(v:Value)(x:AV),vs[j]?=some v→cs[j]?=some x→Rel E w v x):Rel E w (.tuple vs) (.tup cs)
 |fn (f:FuncId) (vs:Array Value) (cs:List AV) (hl:vs.size=cs.length)
   (hr:∀(j:Nat)(v:Value)(x:AV),vs[j]?=some v→cs[j]?=some x→Rel E w v x):Rel E w (.func (.func f) #[] vs) (.fn f cs)
 |psl (rows:List (List AV)) (t v:Nat) (a:Option Addr) (n cap:Nat) (k:Tk) (sz:Nat) (vals:Nat→Nat→Value) (hn:rows.length=n) (hx:n≤Pg) (hcap:n≤cap) (hk:E.toks[t]?=some k) (hv:v≤k.len)
   (hsz:∀r,r∈rows→r.length=sz)(hp:v=k.len→A40 w k.sp a n cap sz vals)
   (hr:∀(i j:Nat)(r:List AV)(x:AV),rows[i]?=some r→r[j]?=some x→Rel E w (vals i j) x)(hf:∀r,r∈rows→∀x,x∈r→NoT x):Rel E w (.slice a n cap) (.psl rows t v)
 |pp (rows:List (List AV)) (t v i o b sz n cap:Nat) (h:Rel E w (.slice (some ⟨b,0,none⟩) n cap) (.psl rows t v)) (hi:i<rows.length) (hsz:∀r,r∈rows→r.length=sz) :
   Rel E w (.pointer (some ⟨b,i*sz+o,none⟩)) (.pp rows t v i o)
theorem Flat.ok{n m:Nat}{x:AV}(h:Flat x):Ok n m x:=by
 induction h with
 |val v=>exact .val v
 |lit b=>exact .lit b
 |junk=>exact .junk
 |err=>exact .err
 |cptr cs _ ih=>exact .cptr cs ih
 |sl rows sp _ hs ih=>exact .sl rows sp ih (fun t ht=>absurd ht (hs t))
 |agg cs _ ih=>exact .agg cs ih
 |tup cs _ ih=>exact .tup cs ih
 |fn f cs _ ih=>exact .fn f cs ih
theorem Ok.flat{n m:Nat}{x:AV}(h:Ok n m x)(hn:n=0)(hm:m=0):Flat x:=by
 induction h with
 |val v=>exact .val v
 |lit b=>exact .lit b
 |junk=>exact .junk
 |err=>exact .err
 |tagN te b h=>omega
 |buf te s t h=>omega
 |dat te s t h=>omega
 |ptr b r o h=>omega
 |cptr cs _ ih=>exact .cptr cs ih
 |sl rows sp _ hs ih=>exact .sl rows sp ih (fun t ht=>by have:=hs t ht;omega)
 |bsl b k h=>omega
 |bst b o k h=>omega
 |agg cs _ ih=>exact .agg cs ih
 |tup cs _ ih=>exact .tup cs ih
 |fn f cs _ ih=>exact .fn f cs ih
 |psl rows t v h hf hn _=>omega
 |pp rows t v i o h hf hn _=>omega
theorem Ok.mono{n m n' m':Nat}{x:AV}(h:Ok n m x)(hn:n≤n')(hm:m≤m'):Ok n' m' x:=by
 induction h with
 |val v=>exact .val v
 |lit b=>exact .lit b
 |junk=>exact .junk
 |err=>exact .err
 |tagN te b h=>exact .tagN te b (by omega)
 |buf te s t h=>exact .buf te s t (by omega)
 |dat te s t h=>exact .dat te s t (by omega)
 |ptr b r o h=>exact .ptr b r o (by omega)
 |cptr cs _ ih=>exact .cptr cs ih
 |sl rows sp _ hs ih=>exact .sl rows sp ih (fun t ht=>by have:=hs t ht;omega)
 |bsl b k h=>exact .bsl b k (by omega)
 |bst b o k h=>exact .bst b o k (by omega)
 |agg cs _ ih=>exact .agg cs ih
 |tup cs _ ih=>exact .tup cs ih
 |fn f cs _ ih=>exact .fn f cs ih
 |psl rows t v h hf hn ih=>exact .psl rows t v (by omega) ih hn
 |pp rows t v i o h hf hn ih=>exact .pp rows t v i o (by omega) ih hn
theorem Aa{α:Type}{l:List α}{i:Nat}{x:α}(h:l[i]?=some x):i<l.length:=by
 rcases Gs i l.length with h'|h'
 ·exact h'
 ·rw[U9 h']at h;cases h
theorem Kw{α:Type}(l:Array α){i:Nat}(h:i<l.size):∃x,l[i]?=some x:=⟨l[i],by simp[h]⟩
theorem Bs{α:Type}{l:List α}{x:α}(h:x∈l):∃i:Nat,l[i]?=some x:=by
 obtain⟨i,hi,rfl⟩:=List.getElem_of_mem h;exact⟨i,by simp[hi]⟩
theorem Rel.ok{E:Env}{w:World}{v:Value}{x:AV}(h:Rel E w v x):Ok E.boxes.length E.toks.length x:=by
 induction h with
 |val v=>exact .val v
 |lit b=>exact .lit b
 |junk v=>exact .junk
 |err t v=>exact .err
 |tagN te b blk sz h ht=>exact .tagN _ _ (Aa h)
 |buf te s t a cap k hk hn hx hs hc=>exact .buf _ _ _ (Aa hk)
 |dat te s t p k hk hn hs=>exact .dat _ _ _ (Aa hk)
 |ptr b row off blk sz h=>exact .ptr _ _ _ (Aa h)
 |cptr cs b o vals hm hc hr ih=>exact .cptr _ (fun x hx=>by obtain⟨i,hi⟩:=Bs hx;exact ih i x hi)
 |sl rows sp a n cap b o sz vals hn hx ha hsz hm hc hr hs hcap ih=>
  refine .sl _ _ (fun r hr' x hx'=>?_) (fun t ht=>?_)
  ·obtain⟨i,hi⟩:=Bs hr';obtain⟨j,hj⟩:=Bs hx';exact ih i j r x hi hj
  ·subst ht;obtain⟨k,hk,_⟩:=hs;exact Aa hk
 |bsl b blk sz n cap h hc=>exact .bsl _ _ (Aa h)
 |bst b blk sz o n cap h=>exact .bst _ _ _ (Aa h)
 |agg vs cs hl hr ih=>
  refine .agg _ (fun x hx=>?_);obtain⟨i,hi⟩:=Bs hx;obtain⟨v,hv⟩:=Kw vs (i:=i) (by rw[hl];exact Aa hi);exact ih i v x hv hi
 |tup vs cs hl hr ih=>
  refine .tup _ (fun x hx=>?_);obtain⟨i,hi⟩:=Bs hx;obtain⟨v,hv⟩:=Kw vs (i:=i) (by rw[hl];exact Aa hi);exact ih i v x hv hi
 |fn f vs cs hl hr ih=>
  refine .fn _ _ (fun x hx=>?_);obtain⟨i,hi⟩:=Bs hx;obtain⟨v,hv⟩:=Kw vs (i:=i) (by rw[hl];exact Aa hi);exact ih i v x hv hi
 |psl rows t v a n cap k sz vals hn hx hcap hk hv hsz hp hr hf ih=>
  refine .psl rows t v (Aa hk) (fun r hr' x hx'=>?_) hf;obtain⟨i,hi⟩:=Bs hr';obtain⟨j,hj⟩:=Bs hx';exact ih i j r x hi hj
 |pp rows t v i o b sz n cap h hi hsz ih=>cases ih with|psl _ _ _ ht hf hn=>exact .pp rows t v i o ht hf hn
theorem Rel.pp_inv{E:Env}{w:World}{v:Value}{rows:List (List AV)}{t ver i o:Nat}(h:Rel E w v (.pp rows t ver i o)) :
 ∃b sz n cap,v=.pointer (some ⟨b,i*sz+o,none⟩)∧Rel E w (.slice (some ⟨b,0,none⟩) n cap) (.psl rows t ver)∧i<rows.length∧∀r,r∈rows→r.length=sz:=by
 cases h with
 |pp _ _ _ _ _ b sz n cap h hi hsz=>exact⟨b,sz,n,cap,rfl,h,hi,hsz⟩
structure Evol (E:Env)(w:World)(E':Env)(w':World)(n m:Nat):Prop where
 fr:E'.fr=E.fr
 boxes:∀i:Nat,i<n→i<E.boxes.length→i<E'.boxes.length∧∀x,E.boxes[i]?=some (some x)→E'.boxes[i]?=some (some x)
 toks:∀t:Nat,t<m→∀k:Tk,E.toks[t]?=some k→∃k',E'.toks[t]?=some k'∧(k'=k∨k.len<k'.len)
 os:w'.os=w.os
 tape:w'.tape=w.tape
 output:w'.output=w.output
 size:w.heap.size≤w'.heap.size
 block:∀k:Nat,k<w.heap.size→¬E.own k→w'.heap[k]?=w.heap[k]?
 cell:∀b o v,¬E.mt b o→w.cell? ⟨b,o,none⟩=some v→w'.cell? ⟨b,o,none⟩=some v
 mt:∀b o,b<w.heap.size→E'.mt b o→E.mt b o
 own:∀b,b<w.heap.size→E'.own b→E.own b
 df:E'.df=E.df
 ty:∀b e,F3 w b=some e→F3 w' b=some e
 pv:∀t:Nat,t<m→∀(k:Tk) (b c:Nat),E.toks[t]?=some k→k.sp=some (b,c,0)→E'.toks[t]?=some k→∀o,w.heap[b]?=some o→w'.heap[b]?=some o
theorem N7{w:World}{b:Nat}{o:Obj}(h:w.heap[b]?=some o):b<w.heap.size:=by
 rcases Gs b w.heap.size with h'|h'
 ·exact h'
 ·rw[Abv h']at h;cases h
theorem J3{w:World}{b o:Nat}{v:Value}(h:w.cell? ⟨b,o,none⟩=some v):b<w.heap.size:=by
 unfold World.cell? at h;rcases Gs b w.heap.size with h'|h'
 ·exact h'
 ·simp[Abv h']at h
theorem Evol.refl(E:Env)(w:World)(n m:Nat):Evol E w E w n m:=
 ⟨rfl,fun _ _ h=>⟨h,fun _ h=>h⟩,fun _ _ k h=>⟨k,h,.inl rfl⟩,rfl,rfl,rfl,Bo _,fun _ _ _=>rfl,fun _ _ _ _ h=>h,fun _ _ _ h=>h,fun _ _ h=>h,rfl,fun _ _ h=>h,fun _ _ _ _ _ _ _ _ _ h=>h⟩
theorem Evol.trans{E E' E'':Env}{w w' w'':World}{n m:Nat}(h:Evol E w E' w' n m)(k:Evol E' w' E'' w'' n m):Evol E w E'' w'' n m where
 fr:=k.fr.trans h.fr
 boxes i hi hl:=let ⟨h1,h2⟩:=h.boxes i hi hl;let ⟨h3,h4⟩:=k.boxes i hi h1;⟨h3,fun x hx=>h4 x (h2 x hx)⟩
 toks t ht x hx:=by
  obtain⟨y,hy,h1⟩:=h.toks t ht x hx;obtain⟨z,hz,h2⟩:=k.toks t ht y hy;refine⟨z,hz,?_⟩;rcases h1 with rfl|h1<;>rcases h2 with rfl|h2
  ·exact .inl rfl
  ·exact .inr h2
  ·exact .inr h1
  ·exact .inr (by omega)
 os:=k.os.trans h.os
 tape:=k.tape.trans h.tape
 output:=k.output.trans h.output
 size:=Pb h.size k.size
 block i hi ho:=by
  have h1:=h.block i hi ho;rw[←h1];exact k.block i (Mz hi h.size) (fun hh=>ho (h.own i hi hh))
 cell b o v hm hc:=by
  have hb:=J3 hc;exact k.cell b o v (fun hh=>hm (h.mt b o hb hh)) (h.cell b o v hm hc)
 mt b o hb hh:=h.mt b o hb (k.mt b o (Mz hb h.size) hh)
 own b hb hh:=h.own b hb (k.own b (Mz hb h.size) hh)
 df:=k.df.trans h.df
 ty b e he:=k.ty b e (h.ty b e he)
 pv t ht x b c h1 h2 h3 o ho:=by
  obtain⟨y,hy,h4⟩:=h.toks t ht x h1;obtain⟨z,hz,h5⟩:=k.toks t ht y hy;rw[h3]at hz;cases hz;have:y=x:=by
   rcases h4 with h4|h4
   ·exact h4
   ·rcases h5 with h5|h5
    ·exact h5.symm
    ·omega
  subst this;exact k.pv t ht _ b c hy h2 h3 o (h.pv t ht _ b c h1 h2 hy o ho)
theorem Evol.weaken{E E':Env}{w w':World}{n m n' m':Nat}(h:Evol E w E' w' n m)(hn:n'≤n)(hm:m'≤m):Evol E w E' w' n' m':=
 { h with boxes:=fun i hi=>h.boxes i (by omega),toks:=fun t ht=>h.toks t (by omega),pv:=fun t ht=>h.pv t (by omega) }
theorem BufAt.move{E E':Env}{w w':World}(evc:∀b o v,¬E.mt b o→w.cell? ⟨b,o,none⟩=some v→w'.cell? ⟨b,o,none⟩=some v)(evm:∀b o,b<w.heap.size→E'.mt b o→E.mt b o)
 (evs:∀b e,F3 w b=some e→F3 w' b=some e){te:Nat}{s:List UInt8}{k:Tk}{p:Option Addr}{cap:Nat}(h:BufAt E w te s k p cap):BufAt E' w' te s k p cap:=by
 unfold BufAt at h⊢;split at h
 ·exact h
 ·obtain⟨h1,h2,h3,h4,h5,h6⟩:=h;refine⟨h1,h2,h3,evs _ _ h4,fun j hj hh=>?_,fun j x hx=>?_⟩
  ·obtain⟨x,hx⟩:∃x,s[j]?=some x:=⟨s[j],by simp[hj]⟩
   exact h5 j hj (evm _ _ (J3 (h6 j x hx)) hh)
  ·exact evc _ _ _ (h5 j (Aa hx)) (h6 j x hx)
theorem Rel.move{E E':Env}{w w':World}{n m:Nat}(evb:∀i:Nat,i<n→i<E.boxes.length→i<E'.boxes.length∧∀x,E.boxes[i]?=some (some x)→E'.boxes[i]?=some (some x))
 (evt:∀t:Nat,t<m→∀k:Tk,E.toks[t]?=some k→∃k',E'.toks[t]?=some k'∧(k'=k∨k.len<k'.len))
 (evc:∀b o v,¬E.mt b o→w.cell? ⟨b,o,none⟩=some v→w'.cell? ⟨b,o,none⟩=some v)
 (evm:∀b o,b<w.heap.size→E'.mt b o→E.mt b o)(evs:∀b e,F3 w b=some e→F3 w' b=some e)
 (evp:∀t:Nat,t<m→∀(k:Tk)(b c:Nat),E.toks[t]?=some k→k.sp=some (b,c,0)→E'.toks[t]?=some k→∀o,w.heap[b]?=some o→w'.heap[b]?=some o){v:Value}{x:AV}(h:Rel E w v x)(ho:Ok n m x):Rel E' w' v x:=by
 induction h with
 |val v=>exact .val v
 |lit b=>exact .lit b
 |junk v=>exact .junk v
 |err t v=>exact .err t v
 |tagN te b blk sz h ht=>cases ho with|tagN _ _ hb=>exact .tagN _ _ _ _ ((evb b hb (Aa h)).2 _ h) (evs _ _ ht)
 |buf te s t a cap k hk hn hx hs hc=>
  cases ho with
  |buf _ _ _ ht=>
   obtain⟨k',hk',h'⟩:=evt t ht k hk;refine .buf te s t a cap k' hk' ?_ hx (fun hl=>?_) hc
   ·rcases h' with rfl|h'<;>omega
   ·rcases h' with rfl|h'
    ·exact BufAt.move evc evm evs (hs hl)
    ·omega
 |dat te s t p k hk hn hs=>
  cases ho with
  |dat _ _ _ ht=>
   obtain⟨k',hk',h'⟩:=evt t ht k hk;refine .dat te s t p k' hk' ?_ (fun hl h0=>?_)
   ·rcases h' with rfl|h'<;>omega
   ·rcases h' with rfl|h'
    ·obtain⟨cap,hb⟩:=hs hl h0;exact⟨cap,BufAt.move evc evm evs hb⟩
    ·omega
 |ptr b row off blk sz h=>cases ho with|ptr _ _ _ hb=>exact .ptr _ _ _ _ _ ((evb b hb (Aa h)).2 _ h)
 |cptr cs b o vals hm hc hr ih=>
  cases ho with
  |cptr _ ho=>
   refine .cptr cs b o vals (fun j hj hh=>hm j hj (evm b _ (J3 (hc j hj)) hh)) (fun j hj=>evc _ _ _ (hm j hj) (hc j hj)) (fun j x hx=>?_);exact ih j x hx (ho x (Bh hx))
 |sl rows sp a n' cap b o sz vals hn hx ha hsz hm hc hr hs hcap ih=>
  cases ho with
  |sl _ _ ho hso=>
   refine .sl rows sp a n' cap b o sz vals hn hx ha hsz (fun i j hi hj hh=>hm i j hi hj (evm b _ (J3 (hc i j hi hj)) hh))
    (fun i j hi hj=>evc _ _ _ (hm i j hi hj) (hc i j hi hj)) (fun i j r x hr' hx'=>?_) ?_ hcap
   ·exact ih i j r x hr' hx' (ho r (Bh hr') x (Bh hx'))
   ·cases sp with
    |no=>trivial
    |tight=>exact hs
    |tok t=>
     obtain⟨k,hk,hle,hkk⟩:=hs;obtain⟨k',hk',h'⟩:=evt t (hso t rfl) k hk;refine⟨k',hk',?_,?_⟩
     ·rcases h' with rfl|h'<;>omega
     ·intro hnn;rcases h' with rfl|h'
      ·exact hkk hnn
      ·omega
 |bsl b blk sz n cap h hc=>cases ho with|bsl _ _ hb=>exact .bsl _ _ _ _ _ ((evb b hb (Aa h)).2 _ h) hc
 |bst b blk sz o n cap h=>cases ho with|bst _ _ _ hb=>exact .bst _ _ _ _ _ _ ((evb b hb (Aa h)).2 _ h)
 |agg vs cs hl hr ih=>cases ho with|agg _ ho=>exact .agg vs cs hl (fun j v x hv hx=>ih j v x hv hx (ho x (Bh hx)))
 |tup vs cs hl hr ih=>cases ho with|tup _ ho=>exact .tup vs cs hl (fun j v x hv hx=>ih j v x hv hx (ho x (Bh hx)))
 |fn f vs cs hl hr ih=>cases ho with|fn _ _ ho=>exact .fn f vs cs hl (fun j v x hv hx=>ih j v x hv hx (ho x (Bh hx)))
 |psl rows t v a n' cap k sz vals hn hx hcap hk hv hsz hp hr hf ih=>
  cases ho with
  |psl _ _ _ ht ho _=>
   obtain⟨k',hk',h'⟩:=evt t ht k hk;refine .psl rows t v a n' cap k' sz vals hn hx hcap hk' ?_ hsz (fun hl=>?_) (fun i j r x h1 h2=>ih i j r x h1 h2 (ho r (Bh h1) x (Bh h2))) hf
   ·rcases h' with rfl|h'<;>omega
   ·rcases h' with rfl|h'
    ·have hp:=hp hl;obtain⟨kl,ksp⟩:=k';cases ksp with
     |none=>exact hp
     |some q=>
      obtain⟨b,c,s⟩:=q;obtain⟨h1,rfl,h2,h3,cs,e,h4,h5⟩:=hp;exact⟨h1,rfl,h2,h3,cs,e,evp t ht _ b c hk rfl hk' _ h4,h5⟩
    ·omega
 |pp rows t v i o b sz n' cap h hi hsz ih=>
  cases ho with
  |pp _ _ _ _ _ ht hf hn=>exact .pp rows t v i o b sz n' cap (ih (.psl _ _ _ ht hf hn)) hi hsz
theorem Rel.mono{E E':Env}{w w':World}{n m:Nat}(ev:Evol E w E' w' n m){v:Value}{x:AV}(h:Rel E w v x)(ho:Ok n m x):Rel E' w' v x:=
 h.move ev.boxes ev.toks ev.cell ev.mt ev.ty ev.pv ho
theorem Rel.step{E E':Env}{w w':World}(ev:Evol E w E' w' E.boxes.length E.toks.length){v:Value}{x:AV}(h:Rel E w v x):Rel E' w' v x:=h.mono ev h.ok
structure St where
 boxes:List (List (List AV))
 toks:List Nat
inductive TK where
 |flat
 |int (k:IntKind)
 |string
 |bool
 |str (fs:List (Nat×Nat))
 |arr (n e:Nat)
 |slc (e:Nat)
structure Ty where
 size:Nat
 k:TK
 zero:List AV
 fa:List Bool:=[]
def Ic:Value→AV
 |.slice none 0 0=>.sl [] .tight
 |v=>.val v
def Aoh:Value→AV
 |.agg cs=>.agg (cs.toList.map Ic)
 |v=>Ic v
def Gg:TK→Bool
 |.str _=>true
 |.arr _ _=>true
 |_=>false
structure TyOk (P:Program)(t:TypeId)(y:Ty)(ty:Nat→Option Ty):Prop where
 info:∃i z,P.info? t=some i∧i.size=y.size∧i.bytes≤1024∧i.zero=some z∧z.cells.toList.map Ic=y.zero∧y.zero.length=y.size∧(Gg y.k=false→y.size=1)
 agg:∃d,P.underlying t=some d∧(match y.k with
  |.str fs=>∃fields:Array Field,d=.struct fields∧fields.toList.mapM (fun f=>(P.info? f.type).map fun i=>(f.offset,i.size))=some fs∧∀i off sz:Nat,fs[i]?=some (off,sz)→∃f i',fields[i]?=some f∧f.offset=off∧P.info? f.type=some i'∧i'.size=sz∧sz≠0∧off+sz≤y.size∧(∀g,y.fa[i]?=some g→∃d',P.underlying f.type=some d'∧(g=true↔((∃fs',d'=.struct fs')∨∃n' e',d'=.array n' e')))
  |.arr n e=>d=.array n e∧∃ye,ty e=some ye∧n*ye.size=y.size∧ye.size≠0
  |.slc e=>d=.slice e∧∃ye,ty e=some ye∧ye.size≠0
  |.int k=>d=.int k
  |.string=>d=.string
  |.bool=>d=.bool
  |.flat=>(∀fs,d≠.struct fs)∧(∀n e,d≠.array n e))
structure Cx where
 P:Program
 ty:Nat→Option Ty
 G:Nat→Option (List AV)
 K0:Nat
 Glob:World→Prop
 ty_ok:∀t y,ty t=some y→TyOk P t y ty
 glob_st:∀w w':World,(∀k,k<K0→w'.heap[k]?=w.heap[k]?)→K0≤w.heap.size→w'.os=w.os→Glob w→Glob w'
 glob_G:∀w,Glob w→∀g cells,G g=some cells→g<K0∧∀(j:Nat) (x:AV),cells[j]?=some x→∃v,w.cell? ⟨g,j,none⟩=some v∧x=.val v
 mixed:P.follows .mixedOrders=true
def Agt(E:Env)(w:World)(b sz:Nat)(rows:List (List AV)):Prop:=
 ∃cs e,w.heap[b]?=some (.cells cs e (0,0))∧cs.size=rows.length*sz∧(∀r,r∈rows→r.length=sz) ∧
  ∀(k:Nat) (r:List AV) (j:Nat) (x:AV) (v:Value),rows[k]?=some r→r[j]?=some x→cs[k*sz+j]?=some v→Rel E w v x
structure Inv (X:Cx)(E:Env)(S:St)(w:World):Prop where
 nb:E.boxes.length=S.boxes.length
 nt:E.toks.map Tk.len=S.toks
 np:∀i:Nat,i<E.boxes.length→∃q,E.boxes[i]?=some (some q)
 box:∀(i b sz:Nat) (rows:List (List AV)),E.boxes[i]?=some (some (b,sz))→S.boxes[i]?=some rows→Agt E w b sz rows
 tok:∀(t l b c sz:Nat),E.toks[t]?=some (Tk.mk l (some (b,c,sz)))→(sz≠0→l≤c)∧l≠0∧∃cs e,w.heap[b]?=some (.cells cs e (0,0))∧(sz≠0→cs.size=c*sz)
 bb:∀(i j b s s':Nat),E.boxes[i]?=some (some (b,s))→E.boxes[j]?=some (some (b,s'))→i=j
 bt:∀(i t b s l c sz:Nat),E.boxes[i]?=some (some (b,s))→E.toks[t]?=some (Tk.mk l (some (b,c,sz)))→False
 tt:∀(i j b l c s l' c' s':Nat),E.toks[i]?=some (Tk.mk l (some (b,c,s)))→E.toks[j]?=some (Tk.mk l' (some (b,c',s')))→i=j
 frlt:∀b o,E.fr b o→¬E.own b∧b<w.heap.size
 lo:∀b,E.own b→X.K0≤b
 frlo:∀b o,E.fr b o→X.K0≤b
 sz:X.K0≤w.heap.size
 glob:X.Glob w
theorem Tv{X:Cx}{E:Env}{S:St}{w:World}(hI:Inv X E S w){b o:Nat}(h:E.mt b o):E.own b∨E.fr b o:=by
 rcases h with h|⟨i,s,h⟩|⟨t,l,c,s,h,_⟩
 ·exact .inr h
 ·exact .inl (.inl ⟨i,s,h⟩)
 ·exact .inl (.inr ⟨t,l,c,s,h⟩)
theorem Inv.own_lt{X:Cx}{E:Env}{S:St}{w:World}(hI:Inv X E S w){b:Nat}(h:E.own b):b<w.heap.size:=by
 have key:∀{o:Obj},w.heap[b]?=some o→b<w.heap.size:=fun h=>by
  rcases Gs b w.heap.size with h'|h'
  ·exact h'
  ·rw[Abv h']at h;cases h
 rcases h with⟨i,s,h⟩|⟨t,l,c,s,h⟩
 ·have hi:i<S.boxes.length:=by rw[←hI.nb];exact Aa h
  obtain⟨cs,e,hh,_⟩:=hI.box i b s S.boxes[i] h (by simp[hi]);exact key hh
 ·obtain⟨_,_,cs,e,hh,_⟩:=hI.tok t l b c s h;exact key hh
abbrev C5:=List (Nat×AV)
def lk:C5→Nat→Option AV
 |[],_=>none
 |(k,x)::F,n=>match Nat.beq k n with
  |true=>some x
  |false=>lk F n
def Tn{α:Type}:List α→Nat→Option α
 |[],_=>none
 |a::_,0=>some a
 |_::l,n+1=>Tn l n
def Nl{R:Type}:Nat→List AV→(List AV→Option R)→Option R
 |0,_,k=>k []
 |n+1,a::l,k=>Nl n l fun t=>k (a::t)
 |_+1,[],_=>none
def Ow{R:Type}:Nat→List AV→(List AV→Option R)→Option R
 |0,l,k=>k l
 |n+1,_::l,k=>Ow n l k
 |_+1,[],_=>none
def Wi{R:Type}:List AV→Nat→List AV→(List AV→Option R)→Option R
 |l,0,[],k=>k l
 |a::l,0,x::xs,k=>Wi l 0 xs fun t=>k (x::t)
 |a::l,n+1,xs,k=>Wi l n xs fun t=>k (a::t)
 |[],0,_::_,_=>none
 |[],_+1,_,_=>none
def Xo{α R:Type}:List α→Nat→α→(List α→Option R)→Option R
 |_::l,0,x,k=>k (x::l)
 |a::l,n+1,x,k=>Xo l n x fun t=>k (a::t)
 |[],_,_,_=>none
def Aki{α R:Type}:List α→α→(List α→Option R)→Option R
 |[],x,k=>k [x]
 |a::l,x,k=>Aki l x fun t=>k (a::t)
def Z8{α:Type}:List α→Nat
 |[]=>0
 |[_]=>1
 |[_,_]=>2
 |[_,_,_]=>3
 |[_,_,_,_]=>4
 |[_,_,_,_,_]=>5
 |[_,_,_,_,_,_]=>6
 |[_,_,_,_,_,_,_]=>7
 |[_,_,_,_,_,_,_,_]=>8
 |[_,_,_,_,_,_,_,_,_]=>9
 |[_,_,_,_,_,_,_,_,_,_]=>10
 |l=>l.length
def Aps:Nat→Nat→Nat
 |0,b=>b
 |a+1,b=>a+1+b
def I3:AV→Bool
 |.val (.agg _)=>false
 |.val (.tuple _)=>false
 |.val _=>true
 |.ptr _ _ _=>true
 |.cptr _=>true
 |.tagN _ _=>true
 |.buf _ _ _=>true
 |.dat _ _ _=>true
 |.psl _ _ _=>true
 |.pp _ _ _ _ _=>true
 |.sl _ _=>true
 |.bsl _ _=>true
 |.bst _ _ _=>false
 |.fn _ _=>true
 |.lit _=>true
 |.agg _=>false
 |.tup _=>false
 |.junk=>false
 |.err=>true
def Jt:List AV→Bool
 |[]=>true
 |x::l=>match I3 x with
  |true=>Jt l
  |false=>false
def cellsOf:AV→Option (List AV)
 |.agg cs=>match Jt cs with
  |true=>some cs
  |false=>none
 |x=>match I3 x with
  |true=>some [x]
  |false=>none
def Wb(agg:Bool)(cs:List AV):Option AV:=
 match agg with
 |true=>some (.agg cs)
 |false=>match cs with
  |[x]=>some x
  |_=>none
def A0e:AV→Option Value
 |.val v=>some v
 |_=>none
def Aas:List AV→Option (List Value)
 |[]=>some []
 |x::l=>match A0e x with
  |some v=>match Aas l with
   |some vs=>some (v::vs)
   |none=>none
  |none=>none
def Dw(X:Cx)(F:C5):Operand→Option AV
 |.tmp t=>match lk F t with
  |some (.lit b)=>some (.val (.bool b))
  |x=>x
 |.const v=>match Aoh v with
  |.val u=>some (.val u)
  |x=>some x
 |.global g=>match X.G g with
  |some cs=>some (.cptr cs)
  |none=>none
 |.func f=>some (.fn f [])
def Hm(X:Cx)(F:C5):List Operand→Option (List AV)
 |[]=>some []
 |o::l=>match Dw X F o with
  |some x=>match Hm X F l with
   |some xs=>some (x::xs)
   |none=>none
  |none=>none
def Ti(S:St)(sz:Nat)(agg:Bool):AV→Option AV
 |.ptr b r o=>match Tn S.boxes b with
  |some rows=>match Tn rows r with
   |some cs=>Ow o cs fun c=>Nl sz c fun c'=>Wb agg c'
   |none=>none
  |none=>none
 |.cptr cs=>Nl sz cs fun c'=>Wb agg c'
 |_=>none
def U5(S:St)(sz:Nat)(a x:AV):Option St:=
 match a with
 |.ptr b r o=>match cellsOf x with
  |some xs=>match Nat.beq xs.length sz with
   |true=>match S with
    |⟨bx,tk⟩=>match Tn bx b with
     |some rows=>match Tn rows r with
      |some cs=>Wi cs o xs fun cs'=>Xo rows r cs' fun rows'=>Xo bx b rows' fun bs=>some ⟨bs,tk⟩
      |none=>none
     |none=>none
   |false=>none
  |none=>none
 |_=>none
def Yn(X:Cx)(F:C5)(fs:List (Nat×Nat)):List (Nat×Operand)→List AV→Option AV
 |[],cs=>some (.agg cs)
 |(i,o)::ps,cs=>match Tn fs i with
  |some (off,sz)=>match Dw X F o with
   |some x=>match cellsOf x with
    |some xs=>match Nat.beq xs.length sz with
     |true=>Wi cs off xs fun cs'=>Yn X F fs ps cs'
     |false=>none
    |none=>none
   |none=>none
  |none=>none
def Uk(X:Cx)(F:C5)(sz:Nat):List (Nat×Operand)→List (List AV)→Option AV
 |[],rows=>some (.sl rows .tight)
 |(i,o)::ps,rows=>match Dw X F o with
    |some x=>match cellsOf x with
     |some xs=>match Nat.beq xs.length sz with
      |true=>Xo rows i xs fun rows'=>Uk X F sz ps rows'
      |false=>none
     |none=>none
    |none=>none
def Auy{α R:Type}:Nat→α→(List α→Option R)→Option R
 |0,_,k=>k []
 |n+1,a,k=>Auy n a fun l=>k (a::l)
def Awq:List AV→List AV→(List AV→Option (List AV))→Option (List AV)
 |[],l,k=>k l
 |x::xs,l,k=>Awq xs l fun t=>k (x::t)
def Kg(xs caps:List AV):Option (List AV):=
 match caps with
 |[]=>some xs
 |l=>Awq xs l some
def Ath(op:BinOp)(k:IntKind)(a b:Int)(yc:Bool):Option Value:=
 match op with
 |.add=>some (.int k (k.wrap (a+b)))
 |.sub=>some (.int k (k.wrap (a-b)))
 |.mul=>some (.int k (k.wrap (a*b)))
 |.quo=>match yc with
  |true=>match decide (b=0)with
   |false=>some (.int k (k.wrap (a.tdiv b)))
   |true=>none
  |false=>none
 |.rem=>match yc with
  |true=>match decide (b=0)with
   |false=>some (.int k (a.tmod b))
   |true=>none
  |false=>none
 |.eql=>some (.bool (a==b))
 |.neq=>some (.bool (a != b))
 |.lss=>some (.bool (decide (a<b)))
 |.leq=>some (.bool (decide (a≤b)))
 |.gtr=>some (.bool (decide (a>b)))
 |.geq=>some (.bool (decide (a≥b)))
 |_=>none
def A0c(op:BinOp)(a b:ByteArray):Option Value:=
 match op with
 |.eql=>some (.bool (a.data.toList==b.data.toList))
 |.neq=>some (.bool (!(a.data.toList==b.data.toList)))
 |_=>none
def Axl:Operand→Bool
 |.const _=>true
 |_=>false
def A0u(op:BinOp)(yc:Bool):AV→AV→Option AV
 |.val (.int k a),.val (.int k' b)=>match decide (k=k')with
  |true=>match Ath op k a b yc with
   |some v=>some (.val v)
   |none=>none
  |false=>none
 |.val (.string a),.val (.string b)=>match A0c op a b with
  |some v=>some (.val v)
  |none=>none
 |_,_=>none
def A0v(op:BinOp)(k:TK):AV→AV→Option AV
 |.val (.bool a),.val (.bool b)=>match k with
  |.bool=>match op with
   |.eql=>some (.val (.bool (a==b)))
   |.neq=>some (.val (.bool (!(a==b))))
   |_=>none
  |_=>none
 |_,_=>none
def unA(op:UnOp):AV→Option AV
 |.val (.bool b)=>match op with
  |.not=>some (.val (.bool (!b)))
  |_=>none
 |.val (.int k n)=>match op with
  |.neg=>some (.val (.int k (k.wrap (-n))))
  |_=>none
 |_=>none
def A1z:AV→Option AV
 |.ptr b r o=>some (.ptr b r o)
 |.cptr cs=>some (.cptr cs)
 |.fn f c=>some (.fn f c)
 |_=>none
def A1t(S:St)(k:TK):AV→Option AV
 |.sl rows _=>match k with
  |.slc _=>some (.val (.int .i64 rows.length))
  |_=>none
 |.val (.string s)=>match k with
  |.string=>some (.val (.int .i64 s.size))
  |_=>none
 |.bsl _ n=>match k with
  |.slc _=>some (.val (.int .i64 n))
  |_=>none
 |.psl rows _ _=>match k with
  |.slc _=>some (.val (.int .i64 rows.length))
  |_=>none
 |_=>none
def Q0(X:Cx)(t:Nat):Option (Nat×Bool):=
 match X.ty t with
 |some y=>some (y.size,Gg y.k)
 |none=>none
def Ej(X:Cx)(F:C5)(S:St):Op→Option AV
 |.move x=>Dw X F x
 |.assign x=>Dw X F x
 |.pick (.tmp c) a b=>match lk F c with
  |some (.lit true)=>Dw X F a
  |some (.lit false)=>Dw X F b
  |some (.val (.bool e))=>match Dw X F a with
   |some (.val (.bool p))=>match Dw X F b with
    |some (.val (.bool q))=>some (.val (.bool (cond e p q)))
    |_=>none
   |_=>none
  |_=>none
 |.build t ps=>match X.ty t with
  |some y=>match y.k with
   |.str fs=>Yn X F fs ps.toList y.zero
   |_=>none
  |none=>none
 |.load t a=>match Q0 X t with
  |some (sz,agg)=>match Dw X F a with
   |some x=>Ti S sz agg x
   |none=>none
  |none=>none
 |.nilCheck x=>match Dw X F x with
  |some y=>A1z y
  |none=>none
 |.binOp op t x y _=>match Dw X F x with
  |some a=>match Dw X F y with
   |some b=>match A0u op (Axl y) a b with
    |some r=>some r
    |none=>match X.ty t with
     |some yt=>A0v op yt.k a b
     |none=>none
   |none=>none
  |none=>none
 |.unOp op _ x=>match Dw X F x with
  |some a=>unA op a
  |none=>none
 |.convert src dst x=>match X.ty src with
  |some _=>match X.ty dst with
   |some y=>match Dw X F x with
    |some (.val (.int _ n))=>match y.k with
     |.int k=>some (.val (.int k (k.wrap n)))
     |_=>none
    |_=>none
   |none=>none
  |none=>none
 |.makeFunc (.func f) first cap=>match first.toList with
  |[]=>match Hm X F cap.toList with
   |some cs=>some (.fn f cs)
   |none=>none
  |_=>none
 |.fieldAddr s x f=>match X.ty s with
  |some y=>match y.k with
   |.str fs=>match Tn fs f with
    |some (off,_)=>match Dw X F x with
     |some (.ptr b r 0)=>some (.ptr b r off)
     |some (.ptr b r o)=>some (.ptr b r (Aps o off))
     |some (.cptr cs)=>Ow off cs fun c=>some (.cptr c)
     |some (.pp rows t v i o)=>some (.pp rows t v i (Aps o off))
     |_=>none
    |none=>none
   |_=>none
  |none=>none
 |.field s x f=>match X.ty s with
  |some y=>match y.k with
   |.str fs=>match Tn fs f with
    |some (off,sz)=>match Tn y.fa f with
     |some agg=>match Dw X F x with
      |some (.agg cs)=>Ow off cs fun c=>Nl sz c fun c'=>Wb agg c'
      |_=>none
     |none=>none
    |none=>none
   |_=>none
  |none=>none
 |.indexAddr t x (.const (.int _ i))=>match X.ty t with
  |some y=>match y.k with
   |.arr n e=>match X.ty e with
    |some ye=>match decide (0≤i)with
     |true=>match decide (i<(n:Int))with
      |true=>match Dw X F x with
       |some (.ptr b r o)=>some (.ptr b r (Aps o (i.toNat*ye.size)))
       |_=>none
      |false=>none
     |false=>none
    |none=>none
   |_=>none
  |none=>none
 |.extract t i=>match Dw X F t with
  |some (.tup vs)=>Tn vs i
  |_=>none
 |.call c=>match c.callee with
  |.builtin .len=>match c.args.toList with
   |[x]=>match c.argTypes.toList with
    |[t]=>match X.ty t with
     |some y=>match Dw X F x with
      |some a=>A1t S y.k a
      |none=>none
     |none=>none
    |_=>none
   |_=>none
  |.builtin .max=>match Hm X F c.args.toList with
   |some [.val (.int k a),.val (.int _ b)]=>some (.val (.int k (if b>a then b else a)))
   |_=>none
  |.builtin .min=>match Hm X F c.args.toList with
   |some [.val (.int k a),.val (.int _ b)]=>some (.val (.int k (if b<a then b else a)))
   |_=>none
  |_=>none
 |_=>none
def Kl(X:Cx)(F:C5)(S:St):Op→Option (AV×St)
 |.alloc t=>match X.ty t with
  |some ⟨_,_,z,_⟩=>match S with
   |⟨bx,tk⟩=>Aki bx [z] fun bs=>some (.ptr (Z8 bx) 0 0,⟨bs,tk⟩)
  |none=>none
 |.box _ x=>match Dw X F x with
  |some a=>match cellsOf a with
   |some cs=>match S with
    |⟨bx,tk⟩=>Aki bx [cs] fun bs=>some (.ptr (Z8 bx) 0 0,⟨bs,tk⟩)
   |none=>none
  |none=>none
 |.buildSlice t n ps=>match X.ty t with
  |some y=>match y.k with
   |.slc e=>match X.ty e with
    |some ye=>match Nat.ble (n*ye.size) 1000000 with
     |true=>match Auy n ye.zero (fun rows=>Uk X F ye.size ps.toList rows)with
      |some a=>some (a,S)
      |none=>none
     |false=>none
    |none=>none
   |_=>none
  |none=>none
 |_=>none
def Alw(X:Cx)(N:Nat)(F:C5)(S:St)(o:Oper):Option (C5×St):=
 match o.op with
 |.store t a x=>match o.dst with
  |none=>match Q0 X t with
   |some (sz,_)=>match Dw X F a with
    |some a'=>match Dw X F x with
     |some x'=>match U5 S sz a' x' with
      |some S'=>some (F,S')
      |none=>none
     |none=>none
    |none=>none
   |none=>none
  |some _=>none
 |op=>match o.dst with
  |some d=>match Nat.blt d N with
   |true=>match Ej X F S op with
    |some x=>some ((d,x)::F,S)
    |none=>match Kl X F S op with
     |some (x,S')=>some ((d,x)::F,S')
     |none=>none
   |false=>none
  |none=>none
def A8(ops:Array Oper)(F:C5)(o:Oper):Option Bool:=
 match o.guard with
 |none=>some true
 |some (j,want)=>match ops[j]? with
  |some oj=>match oj.dst with
   |some t=>match lk F t with
    |some (.lit true)=>some want
    |some (.lit false)=>some (!want)
    |some (.val (.tuple _))=>some false
    |_=>none
   |none=>none
  |none=>none
def ev(X:Cx)(N:Nat):Nat→List Item→C5→St→List Item×C5×St
 |0,K,F,S=>(K,F,S)
 |n+1,K,F,S=>match K with
  |.code .skip::k=>ev X N n k F S
  |.code (.label _)::k=>ev X N n k F S
  |.inBlock _::k=>ev X N n k F S
  |.inScope _::k=>ev X N n k F S
  |.code (.seq a b)::k=>ev X N n (.code a::.code b::k) F S
  |.code (.block id c)::k=>ev X N n (.code c::.inBlock id::k) F S
  |.code (.exit id)::k=>match exitTo id k with
   |some k'=>ev X N n k' F S
   |none=>(K,F,S)
  |.code (.cond (.tmp c) a b)::k=>match lk F c with
   |some (.lit true)=>ev X N n (.code a::k) F S
   |some (.lit false)=>ev X N n (.code b::k) F S
   |_=>(K,F,S)
  |.code (.region _ ops false)::k=>ev X N n (.inRegion ops (List.range ops.size)::k) F S
  |.inRegion _ []::k=>ev X N n k F S
  |.inRegion ops (i::l)::k=>match ops[i]? with
   |some o=>match A8 ops F o with
    |some true=>match Alw X N F S o with
     |some (F',S')=>ev X N n (.inRegion ops l::k) F' S'
     |none=>(K,F,S)
    |some false=>match o.dst with
     |some d=>match Nat.blt d N with
      |true=>ev X N n (.inRegion ops l::k) ((d,.val (.tuple #[]))::F) S
      |false=>(K,F,S)
     |none=>ev X N n (.inRegion ops l::k) F S
    |none=>(K,F,S)
   |none=>(K,F,S)
  |_=>(K,F,S)
theorem H8{α:Type}:∀(l:List α)(i:Nat),Tn l i=l[i]?
 |[],_=>by simp[Tn]
 |a::l,0=>by simp[Tn]
 |a::l,i+1=>by simp[Tn,H8 l i]
theorem Y3{R:Type}:∀(n:Nat)(l:List AV)(k:List AV→Option R)(r:R),Nl n l k=some r→n≤l.length∧k (l.take n)=some r
 |0,l,k,r,h=>by simpa[Nl]using h
 |n+1,[],k,r,h=>by simp[Nl]at h
 |n+1,a::l,k,r,h=>by
  have:=Y3 n l _ r (by simpa[Nl]using h);exact⟨by simp;omega,by simpa using this.2⟩
theorem Yb{R:Type}:∀(n:Nat)(l:List AV)(k:List AV→Option R)(r:R),Ow n l k=some r→n≤l.length∧k (l.drop n)=some r
 |0,l,k,r,h=>by simpa[Ow]using h
 |n+1,[],k,r,h=>by simp[Ow]at h
 |n+1,a::l,k,r,h=>by
  have:=Yb n l k r (by simpa[Ow]using h);exact⟨by simp;omega,by simpa using this.2⟩
theorem Aca{R:Type}:∀(l:List AV)(n:Nat)(xs:List AV)(k:List AV→Option R)(r:R),Wi l n xs k=some r →
 n+xs.length≤l.length∧k (l.take n++xs++l.drop (n+xs.length))=some r
 |l,0,[],k,r,h=>by
  have h':k l=some r:=by cases l<;>simpa[Wi]using h
  simpa using h'
 |a::l,0,x::xs,k,r,h=>by
  have:=Aca l 0 xs _ r (by simpa[Wi]using h);exact⟨by simp at this⊢;omega,by simpa using this.2⟩
 |a::l,n+1,xs,k,r,h=>by
  have:=Aca l n xs _ r (by simpa[Wi]using h);refine⟨by simp at this⊢;omega,?_⟩;have e:n+1+xs.length=(n+xs.length)+1:=by omega
  rw[e];simpa using this.2
 |[],0,_::_,k,r,h=>by simp[Wi]at h
 |[],n+1,xs,k,r,h=>by simp[Wi]at h
theorem Acd{α R:Type}:∀(l:List α)(n:Nat)(x:α)(k:List α→Option R)(r:R),Xo l n x k=some r→n<l.length∧k (l.set n x)=some r
 |a::l,0,x,k,r,h=>by simpa[Xo]using h
 |a::l,n+1,x,k,r,h=>by
  have:=Acd l n x _ r (by simpa[Xo]using h);exact⟨by simp;omega,by simpa using this.2⟩
 |[],n,x,k,r,h=>by cases n<;>simp[Xo]at h
theorem Q4{α R:Type}:∀(l:List α)(x:α)(k:List α→Option R),Aki l x k=k (l++[x])
 |[],x,k=>rfl
 |a::l,x,k=>by simp[Aki,Q4 l x]
theorem Ao0{α R:Type}:∀(n:Nat)(a:α)(k:List α→Option R),Auy n a k=k (List.replicate n a)
 |0,a,k=>by simp[Auy]
 |n+1,a,k=>by simp[Auy,Ao0 n a,List.replicate_succ]
theorem Ag6:∀(xs l:List AV)(k:List AV→Option (List AV)),Awq xs l k=k (xs++l)
 |[],l,k=>rfl
 |x::xs,l,k=>by simp[Awq,Ag6 xs l]
theorem Rv{xs caps zs:List AV}(h:Kg xs caps=some zs):xs++caps=zs:=by
 unfold Kg at h;split at h
 ·cases h;simp
 ·rw[Ag6]at h;cases h;rfl
theorem J5{α:Type}(l:List α):Z8 l=l.length:=by
 unfold Z8;split<;>rfl
theorem Ab0(a b:Nat):Aps a b=a+b:=by cases a<;>simp[Aps]
theorem Anv{g:Bool}{cs:List AV}{y:AV}(h:Wb g cs=some y):(g=true∧y=.agg cs)∨(g=false∧cs=[y]):=by
 unfold Wb at h;split at h
 ·cases h;exact .inl ⟨rfl,rfl⟩
 ·split at h
  ·cases h;exact .inr ⟨rfl,rfl⟩
  ·cases h
theorem Aan{sz k r j:Nat}(hj:j<sz)(hk:k≠r):k*sz+j<r*sz∨r*sz+sz≤k*sz+j:=by
 rcases Nat.lt_or_gt_of_ne hk with h|h
 ·left
  have:(k+1)*sz≤r*sz:=Tq sz h;rw[Rf,Nat.one_mul]at this;omega
 ·right
  have:(r+1)*sz≤k*sz:=Tq sz h;rw[Rf,Nat.one_mul]at this;omega
theorem I6{sz n r j:Nat}(hr:r<n)(hj:j<sz):r*sz+j<n*sz:=by
 have:(r+1)*sz≤n*sz:=Tq sz hr;rw[Rf,Nat.one_mul]at this;omega
structure FR (E:Env)(w:World)(F:C5)(a:Act)(N:Nat):Prop where
 size:a.tmps.size=N
 nod:a.defers=E.df
 rel:∀k x,lk F k=some x→∃v,a.tmps[k]?=some v∧Rel E w v x
theorem Ge(b o n:Nat):(⟨b,o,none⟩:Addr).add n=⟨b,o+n,none⟩:=by unfold Addr.add;split<;>simp_all
section
variable {X:Cx}{E:Env}{S:St}{w:World}{F:C5}{a:Act}{N:Nat}
theorem Mx(v:Value):Rel E w v (Ic v):=by
 unfold Ic;split
 ·exact .sl [] .tight none 0 0 0 0 0 (fun _ _=>default) rfl (B3 _) (fun h=>absurd rfl h) (fun r hr=>by cases hr)
   (fun i j hi=>absurd hi (Va _)) (fun i j hi=>absurd hi (Va _)) (fun i j r x h=>by simp at h) rfl (Bo _)
 ·exact .val _
theorem Aq7(v:Value):Rel E w v (Aoh v):=by
 unfold Aoh;split
 ·rename_i cs;refine .agg cs _ (by simp) (fun j v x hv hx=>?_);simp[hv]at hx;subst hx;exact Mx v
 ·exact Mx _
theorem Ak(hI:Inv X E S w)(hF:FR E w F a N){o:Operand}{x:AV}(h:Dw X F o=some x):Rel E w (a.eval o) x:=by
 cases o with
 |tmp t=>
  simp only[Dw]at h;split at h
  ·rename_i b hb;cases h;obtain⟨v,hv,hr⟩:=hF.rel t _ hb;cases hr;simp only[Act.eval,Apg,hv,Option.getD_some];exact .val _
  ·obtain⟨v,hv,hr⟩:=hF.rel t _ h;simp only[Act.eval,Apg,hv,Option.getD_some];exact hr
 |const v=>
  simp only[Dw]at h;have:x=Aoh v:=by split at h<;>(cases h;first|rfl|(symm;assumption)|assumption)
  subst this;exact Aq7 v
 |«global» g=>
  simp only[Dw]at h;split at h
  ·rename_i cs hg;cases h;obtain⟨hlt,hc⟩:=X.glob_G w hI.glob g cs hg;have hnm:∀o,¬E.mt g o:=fun o hm=>by
    rcases Tv hI hm with h|h
    ·have:=hI.lo g h;omega
    ·have:=hI.frlo g o h;omega
   have hex:∀j:Nat,∃v,(j<cs.length→w.cell? ⟨g,j,none⟩=some v∧cs[j]?=some (.val v)):=fun j=>by
    by_cases hj:j<cs.length
    ·obtain⟨v,hv,hx⟩:=hc j cs[j] (by simp[hj]);exact⟨v,fun _=>⟨hv,by simp[hj,hx]⟩⟩
    ·exact⟨default,fun h=>absurd h hj⟩
   refine .cptr cs g 0 (fun j=>(hex j).choose) (fun j _=>hnm _) (fun j hj=>?_) (fun j x hx=>?_)
   ·rw[Jy];exact((hex j).choose_spec hj).1
   ·have:=((hex j).choose_spec (Aa hx)).2;rw[Option.some.inj (hx.symm.trans this)];exact .val _
  ·cases h
 |func f=>simp only[Dw]at h;cases h;exact .fn f #[] [] rfl (fun j v x hv=>by simp at hv)
theorem Sj(hI:Inv X E S w)(hF:FR E w F a N):∀{os:List Operand}{xs:List AV},Hm X F os=some xs →
 xs.length=os.length∧∀(j:Nat) (v:Value) (x:AV),(os.map a.eval)[j]?=some v→xs[j]?=some x→Rel E w v x
 |[],xs,h=>by simp[Hm]at h;subst h;simp
 |o::os,xs,h=>by
  simp only[Hm]at h;split at h
  ·rename_i x hx;split at h
   ·rename_i xs' hxs;cases h;obtain⟨hl,hr⟩:=Sj hI hF hxs;refine⟨by simp[hl],fun j v y hv hy=>?_⟩;cases j with
    |zero=>simp at hv hy;subst hv;subst hy;exact Ak hI hF hx
    |succ j=>simp at hv hy;exact hr j v y (by simpa using hv) hy
   ·cases h
  ·cases h
theorem O2(hI:Inv X E S w)(hF:FR E w F a N){os:Array Operand}{xs:List AV}(h:Hm X F os.toList=some xs) :
 (os.map a.eval).size=xs.length∧∀(j:Nat)(v:Value)(x:AV),(os.map a.eval)[j]?=some v→xs[j]?=some x→Rel E w v x:=by
 obtain⟨hl,hr⟩:=Sj hI hF h;refine⟨by simp[hl],fun j v x hv hx=>hr j v x ?_ hx⟩;simpa using hv
theorem T3:∀{cs:List AV},Jt cs=true→∀x,x∈cs→I3 x=true
 |[],_,x,hx=>by cases hx
 |c::cs,h,x,hx=>by
  simp only[Jt]at h;split at h
  ·rename_i hc;rcases zzq13.1 hx with rfl|hx
   ·exact hc
   ·exact T3 h x hx
  ·cases h
theorem L4{v:Value}{x:AV}(h:Rel E w v x)(hc:I3 x=true):v.oneCell'=true:=by
 cases h with
 |val v=>cases v<;>first|rfl|(simp[I3]at hc)
 |lit b=>rfl
 |junk v=>simp[I3]at hc
 |agg vs cs hl hr=>simp[I3]at hc
 |tup vs cs hl hr=>simp[I3]at hc
 |_=>rfl
theorem Apu{v:Value}(h:v.oneCell'=true):v.cells=#[v]:=by
 cases v<;>simp[Value.oneCell']at h<;>rfl
theorem Hj{v:Value}{x:AV}(h:Rel E w v x){xs:List AV}(hc:cellsOf x=some xs) :
 v.cells.size=xs.length∧(∀(j:Nat) (u:Value) (y:AV),v.cells[j]?=some u→xs[j]?=some y→Rel E w u y)∧∀u,u∈v.cells→u.oneCell'=true:=by
 unfold cellsOf at hc;split at hc
 ·rename_i cs;split at hc
  ·rename_i hall;cases hc;cases h with
   |agg vs _ hl hr=>
    refine⟨hl,hr,fun u hu=>?_⟩;obtain⟨i,hi,rfl⟩:=Array.getElem_of_mem hu;have hi':i<xs.length:=by rw[←hl];exact hi
    exact L4 (hr i _ xs[i] (by simp[Value.cells]) (by simp[hi'])) (T3 hall _ (by simp))
  ·cases hc
 ·split at hc
  ·rename_i hcell;cases hc;have h1:=L4 h hcell;rw[Apu h1];refine⟨rfl,fun j u y hu hy=>?_,fun u hu=>?_⟩
   ·cases j with
    |zero=>simp at hu hy;subst hu;subst hy;exact h
    |succ j=>simp at hu
   ·simp at hu;subst hu;exact h1
  ·cases hc
theorem Dr{t:Nat}{y:Ty}(hy:X.ty t=some y)(w:World):(sizeOf t).run X.P w=.ok y.size w:=by
 obtain⟨i,z,hi,hs,_⟩:=(X.ty_ok t y hy).info;simp[sizeOf,typeInfo,hi,hs]
theorem Z5{t:Nat}{y:Ty}(hy:X.ty t=some y)(w:World):(isAgg t).run X.P w=.ok (Gg y.k) w:=by
 obtain⟨d,hd,hk⟩:=(X.ty_ok t y hy).agg;cases hkk:y.k<;>simp only[hkk]at hk
 ·obtain⟨h1,h2⟩:=hk;cases d<;>first|(exact absurd rfl (h1 _))|(exact absurd rfl (h2 _ _))|simp[isAgg,run_underlying hd,Gg]
 ·subst hk;simp[isAgg,run_underlying hd,Gg]
 ·subst hk;simp[isAgg,run_underlying hd,Gg]
 ·subst hk;simp[isAgg,run_underlying hd,Gg]
 ·obtain⟨f,rfl,_⟩:=hk;simp[isAgg,run_underlying hd,Gg]
 ·obtain⟨rfl,_⟩:=hk;simp[isAgg,run_underlying hd,Gg]
 ·obtain⟨rfl,_⟩:=hk;simp[isAgg,run_underlying hd,Gg]
theorem Jx{t:Nat}{y:Ty}(hy:X.ty t=some y)(w:World):∃z,(zeroValue t).run X.P w=.ok z w∧z.cells.toList.map Ic=y.zero∧y.zero.length=y.size ∧
 ∃i,X.P.info? t=some i∧i.zero=some z∧i.size=y.size∧i.bytes≤1024:=by
 obtain⟨i,z,hi,hs,hb,hz,hc,hl,_⟩:=(X.ty_ok t y hy).info;exact⟨z,by simp[zeroValue,typeInfo,hi,hz],hc,hl,i,hi,hz,hs,hb⟩
theorem Ul{t:Nat}{y:Ty}(hy:X.ty t=some y){b o:Nat}(vals:Nat→Value)(h:∀j,j<y.size→w.cell? ⟨b,o+j,none⟩=some (vals j)) :
 (loadVar t ⟨b,o,none⟩).run X.P w=.ok (if Gg y.k=true then .agg ((List.range y.size).map vals).toArray else vals 0) w:=by
 obtain⟨i,z,hi,hs,hb,hz,hc,hl,hone⟩:=(X.ty_ok t y hy).info;cases hk:Gg y.k with
 |true=>
  have:=run_loadCells (P:=X.P) w ⟨b,o,none⟩ y.size vals (fun j hj=>by rw[Ge];exact h j hj);simp[loadVar,Z5 hy,hk,Dr hy,this]
 |false=>
  have h1:=hone hk;have hc0:=h 0 (by omega);simp only[Px]at hc0;simp[loadVar,Z5 hy,hk,run_load,hc0]
theorem Ahd{y:Ty}{vals:Nat→Value}{cs:List AV}{r:AV}(hl:cs.length=y.size)(hr:∀(j:Nat)(x:AV),cs[j]?=some x→Rel E w (vals j) x)
 (h:Wb (Gg y.k) cs=some r):Rel E w (if Gg y.k=true then .agg ((List.range y.size).map vals).toArray else vals 0) r:=by
 rcases Anv h with⟨hk,rfl⟩|⟨hk,rfl⟩
 ·rw[if_pos hk];refine .agg _ _ (by simp[hl]) (fun j v x hv hx=>?_);have hj:=Aa hx;simp[hl▸hj]at hv;subst hv;exact hr j x hx
 ·rw[if_neg (by simp[hk])];exact hr 0 r rfl
theorem Aa9(hI:Inv X E S w){t:Nat}{y:Ty}(hy:X.ty t=some y){v:Value}{x r:AV}(hx:Rel E w v x)(h:Ti S y.size (Gg y.k) x=some r) :
 ∃u,(Instr.loadAt t v).run X.P w=.ok u w∧Rel E w u r:=by
 unfold Ti at h;split at h
 ·rename_i b r' o;split at h
  ·rename_i rows hrows;split at h
   ·rename_i cs hcs;rw[H8]at hrows hcs;obtain⟨h1,h2⟩:=Yb _ _ _ _ h;obtain⟨h3,h4⟩:=Y3 _ _ _ _ h2;cases hx with
    |ptr _ _ _ blk sz hb=>
     obtain⟨arr,e,hblk,hsz,hlen,hrel⟩:=hI.box b blk sz rows hb hrows;have hcl:=hlen cs (Bh hcs);have hr':=Aa hcs;simp only[Ad9]at h3;have hin:∀j,j<y.size→r'*sz+o+j<arr.size:=fun j hj=>by
      have:=I6 (sz:=sz) hr' (show o+j<sz by omega);omega
     have hcell:∀j,j<y.size→w.cell? ⟨blk,r'*sz+o+j,none⟩=some (arr.getD (r'*sz+o+j) default):=fun j hj=>by
      have:=hin j hj;simp[World.cell?,hblk,this,Array.getD]
     refine⟨_,?_,Ahd (y:=y) (vals:=fun j=>arr.getD (r'*sz+o+j) default) (cs:=(cs.drop o).take y.size) (by simp;omega) (fun j x hx=>?_) h4⟩
     ·simp[Instr.loadAt,Instr.sureAddr,Ul hy _ hcell]
     ·have hj:j<y.size:=by have:=Aa hx;simp at this;omega
      have hx':cs[o+j]?=some x:=by simpa[Mb,hj]using hx
      have hi:=hin j hj;exact hrel r' cs (o+j) x _ hcs hx' (by rw[←Mj];simp[hi,Array.getD])
   ·cases h
  ·cases h
 ·rename_i cs;obtain⟨h3,h4⟩:=Y3 _ _ _ _ h;cases hx with
  |cptr _ b o vals hm hc hr=>
   refine⟨_,?_,Ahd (y:=y) (vals:=vals) (cs:=cs.take y.size) (by simp;omega) (fun j x hx=>?_) h4⟩
   ·simp[Instr.loadAt,Instr.sureAddr,Ul hy vals (fun j hj=>hc j (by omega))]
   ·have hj:j<y.size:=by have:=Aa hx;simp at this;omega
    exact hr j x (by simpa[Mb,hj]using hx)
 ·cases h
end
section
variable {X:Cx}{E:Env}{S:St}{w w':World}
theorem Aad(hI:Inv X E S w){b o:Nat}(h:E.mt b o):E.own b∨E.fr b o:=Tv hI h
theorem Vp(hI:Inv X E S w):¬E.own w.heap.size:=fun h=>Nat.lt_irrefl _ (hI.own_lt h)
theorem Aje(hI:Inv X E S w){o:Nat}:¬E.mt w.heap.size o:=fun h=>by
 rcases Aad hI h with h|h
 ·exact Vp hI h
 ·exact Nat.lt_irrefl _ (hI.frlt _ _ h).2
theorem Evol.push(hh:∃o,w'.heap=w.heap.push o)(hos:w'.os=w.os)(ht:w'.tape=w.tape)(ho:w'.output=w.output)(n m:Nat):Evol E w E w' n m:=by
 obtain⟨o,hh⟩:=hh;refine⟨rfl,fun _ _ h=>⟨h,fun _ h=>h⟩,fun _ _ k h=>⟨k,h,.inl rfl⟩,hos,ht,ho,by rw[hh];simp,fun k hk _=>?_,fun b o v _ hc=>?_,fun _ _ _ h=>h,fun _ _ h=>h,rfl,fun b e he=>?_,fun _ _ _ b _ _ _ _ o ho=>by rw[hh,Y9 (N7 ho)];simpa[N7 ho]using ho⟩
 ·rw[hh,Y9 hk];simp[hk]
 ·have hb:=J3 hc;unfold World.cell? at hc⊢;have:w'.heap[b]?=w.heap[b]?:=by rw[hh,Y9 hb];simp[hb]
  simp only[this];exact hc
 ·have hb:b<w.heap.size:=by
   rcases Gs b w.heap.size with h|h
   ·exact h
   ·simp[F3,Abv h]at he
  unfold F3 at he⊢;rw[hh,Y9 hb];simpa[hb]using he
theorem Inv.keep(hI:Inv X E S w)(ev:Evol E w E w' E.boxes.length E.toks.length)(hb:∀b,E.own b→w'.heap[b]?=w.heap[b]?):Inv X E S w' where
 nb:=hI.nb
 nt:=hI.nt
 np:=hI.np
 box i b sz rows h1 h2:=by
  obtain⟨cs,e,hh,hs,hl,hr⟩:=hI.box i b sz rows h1 h2;exact⟨cs,e,(hb b (.inl ⟨i,sz,h1⟩)).trans hh,hs,hl,fun k r j x v h3 h4 h5=>(hr k r j x v h3 h4 h5).step ev⟩
 tok t l b c sz h:=by
  obtain⟨h1,h0,cs,e,hh,hs⟩:=hI.tok t l b c sz h;exact⟨h1,h0,cs,e,(hb b (.inr ⟨t,l,c,sz,h⟩)).trans hh,hs⟩
 bb:=hI.bb
 bt:=hI.bt
 tt:=hI.tt
 frlt b o h:=⟨(hI.frlt b o h).1,Mz (hI.frlt b o h).2 ev.size⟩
 lo:=hI.lo
 frlo:=hI.frlo
 sz:=Pb hI.sz ev.size
 glob:=X.glob_st w w' (fun k hk=>ev.block k (Mz hk hI.sz) (fun ho=>by have:=hI.lo k ho;omega)) hI.sz ev.os hI.glob
theorem Inv.push(hI:Inv X E S w)(hh:∃o,w'.heap=w.heap.push o)(hos:w'.os=w.os)(ht:w'.tape=w.tape)(ho:w'.output=w.output):Inv X E S w':=
 hI.keep (Evol.push hh hos ht ho _ _) (fun b hb=>by
  obtain⟨o,hh⟩:=hh;have:=hI.own_lt hb;rw[hh,Y9 this];simp[this])
def Env.addBox(E:Env)(b sz:Nat):Env:={ E with boxes:=E.boxes++[some (b,sz)] }
theorem getElem?_snoc{α:Type}{l:List α}{a x:α}{i:Nat}(h:(l++[a])[i]?=some x):l[i]?=some x∨(i=l.length∧x=a):=by
 rcases Gs i l.length with h'|h'
 ·rw[Cs h']at h;exact .inl h
 ·rw[Gk h']at h;cases hk:i-l.length with
  |zero=>rw[hk]at h;simp at h;exact .inr ⟨by omega,h.symm⟩
  |succ k=>rw[hk]at h;simp at h
theorem getElem?_snoc_left{α:Type}{l:List α}{a x:α}{i:Nat}(h:l[i]?=some x):(l++[a])[i]?=some x:=by
 rw[Cs (Aa h)];exact h
theorem getElem?_snoc_new{α:Type}(l:List α)(a:α):(l++[a])[l.length]?=some a:=by simp
theorem Inv.newBox(hI:Inv X E S w){cs:Array Value}{e:TypeId}(hh:w'.heap=w.heap.push (.cells cs e (0,0)))(hos:w'.os=w.os)(ht:w'.tape=w.tape)(ho:w'.output=w.output)
 {sz:Nat}{rows:List (List AV)}(hs:cs.size=rows.length*sz)(hl:∀r,r∈rows→r.length=sz)
 (hr:∀(k:Nat)(r:List AV)(j:Nat)(x:AV)(v:Value),rows[k]?=some r→r[j]?=some x→cs[k*sz+j]?=some v→Rel E w v x) :
 Evol E w (E.addBox w.heap.size sz) w' E.boxes.length E.toks.length∧Inv X (E.addBox w.heap.size sz) ⟨S.boxes++[rows],S.toks⟩ w':=by
 have ev0:=Evol.push (E:=E) ⟨_,hh⟩ hos ht ho E.boxes.length E.toks.length;have hI0:=hI.push ⟨_,hh⟩ hos ht ho;have hown:∀b,(E.addBox w.heap.size sz).own b→E.own b∨b=w.heap.size:=fun b h=>by
  rcases h with⟨i,s,h⟩|h
  ·rcases getElem?_snoc h with h|⟨_,h⟩
   ·exact .inl (.inl ⟨i,s,h⟩)
   ·cases h;exact .inr rfl
  ·exact .inl (.inr h)
 have ev:Evol E w (E.addBox w.heap.size sz) w' E.boxes.length E.toks.length:=by
  refine{ ev0 with boxes:=fun i hi=>?_,mt:=fun b o hb h=>?_,own:=fun b hb h=>?_,fr:=rfl,toks:=?_,pv:=ev0.pv }
  ·exact fun hl=>⟨by simp[Env.addBox];omega,fun x hx=>getElem?_snoc_left hx⟩
  ·exact ev0.toks
  ·rcases h with h|⟨i,s,h⟩|h
   ·exact .inl h
   ·rcases getElem?_snoc h with h|⟨_,h⟩
    ·exact .inr (.inl ⟨i,s,h⟩)
    ·cases h;omega
   ·exact .inr (.inr h)
  ·rcases hown b h with h|h
   ·exact h
   ·omega
 have hnew:w'.heap[w.heap.size]?=some (.cells cs e (0,0)):=by rw[hh];simp
 refine⟨ev,?_⟩;have fo:=Vp hI;exact{
  nb:=by simp[Env.addBox,hI.nb]
  nt:=hI.nt
  np:=fun i hi=>by
   simp only[Env.addBox,Ex,Za]at hi⊢;rcases Gs i E.boxes.length with h|h
   ·rw[Cs h];exact hI.np i h
   ·have:i=E.boxes.length:=by omega
    subst this;exact⟨_,getElem?_snoc_new _ _⟩
  box:=fun i b s rows' h1 h2=>by
   rcases getElem?_snoc h1 with h1|⟨hi,h1⟩
   ·have h2':S.boxes[i]?=some rows':=by
     rcases getElem?_snoc h2 with h2|⟨hi,_⟩
     ·exact h2
     ·have:=Aa h1;rw[hI.nb]at this;omega
    obtain⟨cs',e',hh',hs',hl',hr'⟩:=hI.box i b s rows' h1 h2';exact⟨cs',e',(by
     have hlt:=hI.own_lt (.inl ⟨i,s,h1⟩);rw[hh,Y9 hlt];simpa[hlt]using hh'),hs',hl',fun k r j x v h3 h4 h5=>(hr' k r j x v h3 h4 h5).step ev⟩
   ·cases h1;have h2':rows'=rows:=by
     rcases getElem?_snoc h2 with h2|⟨_,h2⟩
     ·have:=Aa h2;rw[←hI.nb]at this;omega
     ·exact h2
    subst h2';exact⟨cs,e,hnew,hs,hl,fun k r j x v h3 h4 h5=>(hr k r j x v h3 h4 h5).step ev⟩
  tok:=hI0.tok
  bb:=fun i j b s s' h1 h2=>by
   rcases getElem?_snoc h1 with h1|⟨hi,h1⟩<;>rcases getElem?_snoc h2 with h2|⟨hj,h2⟩
   ·exact hI.bb i j b s s' h1 h2
   ·cases h2;exact absurd (.inl ⟨i,s,h1⟩) fo
   ·cases h1;exact absurd (.inl ⟨j,s',h2⟩) fo
   ·omega
  bt:=fun i t b s l c sz' h1 h2=>by
   rcases getElem?_snoc h1 with h1|⟨hi,h1⟩
   ·exact hI.bt i t b s l c sz' h1 h2
   ·cases h1;exact absurd (.inr ⟨t,l,c,sz',h2⟩) fo
  tt:=hI.tt
  frlt:=fun b o h=>⟨fun h'=>by
   rcases hown b h' with h'|h'
   ·exact(hI.frlt b o h).1 h'
   ·have:=(hI.frlt b o h).2;omega,(hI0.frlt b o h).2⟩
  lo:=fun b h=>by
   rcases hown b h with h|h
   ·exact hI.lo b h
   ·rw[h];exact hI.sz
  frlo:=hI.frlo
  sz:=hI0.sz
  glob:=hI0.glob }
theorem Inv.setBox(hI:Inv X E S w){b blk sz:Nat}{rows rows':List (List AV)}(hb:E.boxes[b]?=some (some (blk,sz)))(hrows:S.boxes[b]?=some rows)
 {arr arr':Array Value}{e:TypeId}(hh:w.heap[blk]?=some (.cells arr e (0,0)))(hw':w'=w.setRow blk arr')
 (hs:arr'.size=rows'.length*sz)(hl:∀r,r∈rows'→r.length=sz)
 (hr:∀(k:Nat)(r:List AV)(j:Nat)(x:AV)(v:Value),rows'[k]?=some r→r[j]?=some x→arr'[k*sz+j]?=some v→Rel E w v x) :
 Evol E w E w' E.boxes.length E.toks.length∧Inv X E ⟨S.boxes.set b rows',S.toks⟩ w':=by
 have hoth:∀k,k≠blk→w'.heap[k]?=w.heap[k]?:=fun k hk=>by subst hw';exact setRow_other w blk k arr' (by omega)
 have hat:w'.heap[blk]?=some (.cells arr' e (0,0)):=by subst hw';exact setRow_heap w blk arr arr' e _ hh
 have ho:E.own blk:=.inl ⟨b,sz,hb⟩;have ev:Evol E w E w' E.boxes.length E.toks.length:=by
  refine⟨rfl,fun _ _ h=>⟨h,fun _ h=>h⟩,fun _ _ k h=>⟨k,h,.inl rfl⟩,by subst hw';rfl,by subst hw';rfl,by subst hw';rfl,by subst hw';simp,fun k _ hk=>?_,fun b' o v hm hc=>?_,fun _ _ _ h=>h,fun _ _ h=>h,rfl,fun b e he=>?_,fun t _ k b' c h1 h2 _ o ho=>?_⟩
  ·exact hoth k (fun h=>hk (h▸ho))
  ·have hne:b'≠blk:=fun h=>hm (.inr (.inl ⟨b,sz,h▸hb⟩));unfold World.cell? at hc⊢;simp only[hoth b' hne];exact hc
  ·unfold F3 at he⊢;by_cases hne:b=blk
   ·subst hne;rw[hh]at he;rw[hat];exact he
   ·rw[hoth b hne];exact he
  ·obtain⟨kl,ksp⟩:=k;simp only at h2;subst h2;have hne:b'≠blk:=fun h=>hI.bt b t b' sz kl c 0 (h▸hb) h1;rw[hoth b' hne];exact ho
 refine⟨ev,?_⟩;exact{
  nb:=by simp[hI.nb]
  nt:=hI.nt
  np:=hI.np
  box:=fun i b' s rr h1 h2=>by
   by_cases hi:i=b
   ·subst hi;rw[hb]at h1;cases h1;have h2':rr=rows':=by
     have:=Aa hrows;simp[this]at h2;exact h2.symm
    subst h2';exact⟨arr',e,hat,hs,hl,fun k r j x v h3 h4 h5=>(hr k r j x v h3 h4 h5).step ev⟩
   ·have h2':S.boxes[i]?=some rr:=by simpa[Vb,Ne.symm hi]using h2
    obtain⟨cs',e',hh',hs',hl',hr'⟩:=hI.box i b' s rr h1 h2';have hne:b'≠blk:=fun h=>hi (hI.bb i b b' s sz h1 (h▸hb));exact⟨cs',e',(hoth b' hne).trans hh',hs',hl',fun k r j x v h3 h4 h5=>(hr' k r j x v h3 h4 h5).step ev⟩
  tok:=fun t l b' c sz' h=>by
   obtain⟨h1,h0,cs,e',hh',hs'⟩:=hI.tok t l b' c sz' h;have hne:b'≠blk:=fun hx=>hI.bt b t blk sz l c sz' hb (hx▸h);exact⟨h1,h0,cs,e',(hoth b' hne).trans hh',hs'⟩
  bb:=hI.bb
  bt:=hI.bt
  tt:=hI.tt
  frlt:=fun b o h=>⟨(hI.frlt b o h).1,Mz (hI.frlt b o h).2 ev.size⟩
  lo:=hI.lo
  frlo:=hI.frlo
  sz:=Pb hI.sz ev.size
  glob:=X.glob_st w w' (fun k hk=>hoth k (fun h=>by have:=hI.lo blk ho;omega)) hI.sz ev.os hI.glob }
end
theorem Anz(off:Nat):∀(l:List Value)(k:Nat)(c:Array Value),
 ((l.zipIdx k).foldl (fun cs p=>cs.setIfInBounds (off+p.2) p.1) c).size=c.size ∧
 ∀i,((l.zipIdx k).foldl (fun cs p=>cs.setIfInBounds (off+p.2) p.1) c)[i]? =
  if off+k≤i∧i<off+k+l.length∧i<c.size then l[i-off-k]? else c[i]?
 |[],k,c=>by simp;intro i h1 h2;omega
 |v::l,k,c=>by
  have ih:=Anz off l (k+1) (c.setIfInBounds (off+k) v);simp only[List.zipIdx_cons,Aea];refine⟨by simpa using ih.1,fun i=>?_⟩;rw[ih.2 i];simp only[Array.size_setIfInBounds,Nn];by_cases h:off+(k+1)≤i∧i<off+(k+1)+l.length∧i<c.size
  ·rw[if_pos h,if_pos (by omega)];have:i-off-k=(i-off-(k+1))+1:=by omega
   rw[this];simp
  ·rw[if_neg h];by_cases h2:i=off+k
   ·subst h2;by_cases h3:off+k<c.size
    ·rw[if_pos (by omega)];simp[h3,Array.getElem?_setIfInBounds]
    ·rw[if_neg (by omega)];simp[Array.getElem?_setIfInBounds,h3]
   ·rw[if_neg (by omega),Array.getElem?_setIfInBounds_ne (by omega)]
theorem Aa7(off:Nat)(vs c:Array Value) :
 (vs.zipIdx.foldl (fun cs (p:Value×Nat)=>cs.setIfInBounds (off+p.2) p.1) c).size=c.size ∧
 ∀i,(vs.zipIdx.foldl (fun cs (p:Value×Nat)=>cs.setIfInBounds (off+p.2) p.1) c)[i]? =
  if off≤i∧i<off+vs.size∧i<c.size then vs[i-off]? else c[i]?:=by
 have:=Anz off vs.toList 0 c;rw[←Array.foldl_toList,Array.toList_zipIdx];simpa using this
section
variable {X:Cx}{E:Env}{S:St}{w:World}{F:C5}{a:Act}{N:Nat}
def Aev(E:Env)(w:World)(cells:Array Value)(cs:List AV):Prop:=
 cells.size=cs.length∧∀(j:Nat) (v:Value) (x:AV),cells[j]?=some v→cs[j]?=some x→Rel E w v x
theorem Axn{cells:Array Value}{cs xs:List AV}{v:Value}{x:AV}{off:Nat}(h:Aev E w cells cs)(hx:Rel E w v x)(hc:cellsOf x=some xs)(hl:off+xs.length≤cs.length) :
 Aev E w (v.cells.zipIdx.foldl (fun cs (p:Value×Nat)=>cs.setIfInBounds (off+p.2) p.1) cells) (cs.take off++xs++cs.drop (off+xs.length)):=by
 obtain⟨hs,hr,_⟩:=Hj hx hc;obtain⟨h1,h2⟩:=Aa7 off v.cells cells;refine⟨by rw[h1,h.1];simp;omega,fun j u y hu hy=>?_⟩;rw[h2 j]at hu;have hcs:=h.1;split at hu
 ·rename_i hj;refine hr (j-off) u y hu ?_;rw[Fp,Gk (by simp;omega),Cs (by simp;omega)]at hy;simpa[Nat.min_eq_left (show off≤cs.length by omega)]using hy
 ·rename_i hj;refine h.2 j u y hu ?_;have hj':j<cells.size:=by
   rcases Gs j cells.size with h'|h'
   ·exact h'
   ·rw[Abv h']at hu;cases hu
  rcases Gs j off with h'|h'
  ·rw[Fp,Cs (by simp;omega),Mb]at hy;simpa[h']using hy
  ·rw[Gk (by simp;omega)]at hy;simp only[Ex,Vd,Nz]at hy;rw[show off+xs.length+(j-(min off cs.length+xs.length))=j by omega]at hy;exact hy
theorem Xe(hI:Inv X E S w)(hF:FR E w F a N){fs:List (Nat×Nat)}{place:Nat→Option (Nat×Nat)}(hp:∀i p,Tn fs i=some p→place i=some p) :
 ∀(ps:List (Nat×Operand)) (cells:Array Value) (cs:List AV) (r:AV),Aev E w cells cs→Yn X F fs ps cs=some r →
  ∃cells',Instr.fill place cells (ps.map fun p=>(p.1,a.eval p.2))=some cells'∧Rel E w (.agg cells') r
 |[],cells,cs,r,hf,h=>by
  simp only[Yn]at h;cases h;exact⟨cells,rfl,.agg _ _ hf.1 hf.2⟩
 |(i,o)::ps,cells,cs,r,hf,h=>by
  simp only[Yn]at h;split at h
  ·rename_i off sz hfs;split at h
   ·rename_i x hx;split at h
    ·rename_i xs hxs;split at h
     ·rename_i hl;obtain⟨h1,h2⟩:=Aca _ _ _ _ _ h;have hl':xs.length=sz:=Ve hl;have hrx:=Ak hI hF hx;obtain⟨hs,_,_⟩:=Hj hrx hxs;have hlay:=Axn hf hrx hxs h1;obtain⟨cells',hc',hr'⟩:=Xe hI hF hp ps _ _ r hlay h2;refine⟨cells',?_,hr'⟩;simp only[N0,Instr.fill,hp i _ hfs];rw[if_neg]
      ·exact hc'
      ·have hfc:=hf.1;rw[hl']at hs;simp[hs];omega
     ·cases h
    ·cases h
   ·cases h
  ·cases h
theorem Wa{z:Value}{zs:List AV}(h:z.cells.toList.map Ic=zs):Aev E w z.cells zs:=by
 subst h;refine⟨by simp,fun j v x hv hx=>?_⟩;simp[hv]at hx;subst hx;exact Mx v
theorem Ai2(hI:Inv X E S w)(hF:FR E w F a N){t:Nat}{y:Ty}(hy:X.ty t=some y){fs:List (Nat×Nat)}(hk:y.k=.str fs){ps:Array (Nat×Operand)}{r:AV}
 (h:Yn X F fs ps.toList y.zero=some r):∃v,(Instr.build t (ps.map fun(i,x)=>(i,a.eval x))).run X.P w=.ok v w∧Rel E w v r:=by
 obtain⟨d,hd,hdd⟩:=(X.ty_ok t y hy).agg;simp only[hk]at hdd;obtain⟨fields,rfl,hm,_⟩:=hdd;obtain⟨z,_,hz,hl,i,hi,hiz,his,_⟩:=Jx hy w;obtain⟨cells,hc,hr⟩:=Xe hI hF (fs:=fs) (place:=(fs.toArray[·]?)) (fun i p h=>by rw[H8]at h;simpa using h) ps.toList z.cells y.zero r (Wa hz) h;refine⟨_,run_build w t _ cells ?_,hr⟩;simp only[Program.built,hi,hd,hiz,hm];simpa using hc
theorem Ajl{op:BinOp}{k:IntKind}{x y:Int}{yc:Bool}{v:Value}(h:Ath op k x y yc=some v)(t:TypeId):(binOp op t (.int k x) (.int k y)).run X.P w=.ok v w:=by
 unfold Ath at h;split at h
 case h_4=>
  split at h
  ·split at h
   ·rename_i hb;cases h;have hb':y≠0:=Ba hb;simp[binOp,Op.intDiv,hb']
   ·cases h
  ·cases h
 case h_5=>
  split at h
  ·split at h
   ·rename_i hb;cases h;have hb':y≠0:=Ba hb;simp[binOp,Op.intDiv,hb']
   ·cases h
  ·cases h
 all_goals first|(cases h;simp[binOp,Op.intArith,Op.intCmp];done)|cases h
theorem Alo{op:BinOp}{yc:Bool}{u v:Value}{x y r:AV}(hx:Rel E w u x)(hy:Rel E w v y)(h:A0u op yc x y=some r)(t:TypeId)(ox oy:Operand) :
 ∃z,(do eqGuard op t ox oy u v;binOp op t u v:Sem Value).run X.P w=.ok z w∧Rel E w z r:=by
 unfold A0u at h;split at h
 ·rename_i k m k' n;split at h
  ·rename_i hk;split at h
   ·rename_i z hz;cases h;cases hx;cases hy;obtain rfl:=A5 hk;refine⟨z,?_,.val z⟩;have h0:(eqGuard op t ox oy (.int k m) (.int k n)).run X.P w=.ok () w:=by unfold eqGuard;cases op<;>simp
    simp only[Sem.run_bind,h0,Result.andThen_ok];exact Ajl hz t
   ·cases h
  ·cases h
 ·rename_i m n;split at h
  ·rename_i z hz;cases h;cases hx;cases hy;refine⟨z,?_,.val z⟩;have h0:(eqGuard op t ox oy (.string m) (.string n)).run X.P w=.ok () w:=by unfold eqGuard;cases op<;>simp
   simp only[Sem.run_bind,h0,Result.andThen_ok];unfold A0c at hz;split at hz
   ·cases hz;simp[binOp,Op.stringOp,ByteArray.toList_eq]
   ·cases hz;simp[binOp,Op.stringOp,ByteArray.toList_eq]
   ·cases hz
  ·cases h
 ·cases h
theorem Yd{t:TypeId}(hd:X.P.underlying t=some .bool)(d:Nat)(m n:Bool)(w:World):(Op.equalIn (d+1) t (.bool m) (.bool n)).run X.P w=.ok (m==n) w:=by
 unfold Op.equalIn;simp[run_underlying hd]
theorem Alp{op:BinOp}{u v:Value}{x y r:AV}{t:TypeId}{yt:Ty}(ht:X.ty t=some yt)(hx:Rel E w u x)(hy:Rel E w v y)(h:A0v op yt.k x y=some r)(ox oy:Operand) :
 ∃z,(do eqGuard op t ox oy u v;binOp op t u v:Sem Value).run X.P w=.ok z w∧Rel E w z r:=by
 unfold A0v at h;split at h
 ·rename_i m n;split at h
  ·rename_i hk;obtain⟨d,hd,hdd⟩:=(X.ty_ok t yt ht).agg;simp only[hk]at hdd;subst hdd;cases hx;cases hy;split at h
   ·cases h;have e:=Yd hd 9999 m n w;exact⟨_,by simp only[eqGuard,binOp,Op.equal,Op.maxDepth];simp[e],.val _⟩
   ·cases h;have e:=Yd hd 9999 m n w;exact⟨_,by simp only[eqGuard,binOp,Op.equal,Op.maxDepth];simp[e],.val _⟩
   ·cases h
  ·cases h
 ·cases h
theorem Arl{op:UnOp}{u:Value}{x r:AV}(hx:Rel E w u x)(h:unA op x=some r):∃z,(Op.unary op u).run X.P w=.ok z w∧Rel E w z r:=by
 unfold unA at h;split at h
 ·split at h
  ·cases h;cases hx;exact⟨_,by simp[Op.unary],.val _⟩
  ·cases h
 ·split at h
  ·cases h;cases hx;exact⟨_,by simp[Op.unary,Op.intArith],.val _⟩
  ·cases h
 ·cases h
theorem Amf{u:Value}{x r:AV}(hx:Rel E w u x)(h:A1z x=some r){o:Oper}{ox:Operand}(ho:o.op=.nilCheck ox)(hu:a.eval ox=u) :
 (execOp a.eval o).run X.P w=.ok (.value u) w∧Rel E w u r:=by
 unfold A1z at h;split at h<;>cases h<;>cases hx<;>(refine⟨?_,?_⟩;(simp[execOp,ho,hu]);(first|(exact .ptr _ _ _ _ _ (by assumption))|(exact .cptr _ _ _ _ (by assumption) (by assumption) (by assumption))|(exact .fn _ _ _ (by assumption) (by assumption))))
theorem Al6(hI:Inv X E S w){t:Nat}{y:Ty}(hy:X.ty t=some y){u:Value}{x r:AV}(hx:Rel E w u x)(h:A1t S y.k x=some r)(ty:TypeId) :
 ∃z,(Builtin.len_ #[t] ty #[u]).run X.P w=.ok z w∧Rel E w z r:=by
 obtain⟨d,hd,hdd⟩:=(X.ty_ok t y hy).agg;unfold A1t at h;split at h
 ·split at h
  ·rename_i hk;cases h;simp only[hk]at hdd;obtain⟨rfl,_⟩:=hdd;cases hx with
   |sl rows sp a n cap b o sz vals hn hx ha hsz hm hc hr hs hcap=>
    subst hn;exact⟨_,by simp[Builtin.len_,run_underlying hd,goInt],.val _⟩
  ·cases h
 ·split at h
  ·rename_i hk;cases h;simp only[hk]at hdd;subst hdd;cases hx;exact⟨_,by simp[Builtin.len_,run_underlying hd,goInt],.val _⟩
  ·cases h
 ·split at h
  ·rename_i hk;cases h;simp only[hk]at hdd;obtain⟨rfl,_⟩:=hdd;cases hx;exact⟨_,by simp[Builtin.len_,run_underlying hd,goInt],.val _⟩
  ·cases h
 ·split at h
  ·rename_i hk;cases h;simp only[hk]at hdd;obtain⟨rfl,_⟩:=hdd;cases hx with
   |psl _ _ _ a n cap k sz vals hn=>
    subst hn;exact⟨_,by simp[Builtin.len_,run_underlying hd,goInt],.val _⟩
  ·cases h
 ·cases h
end
section
variable {X:Cx}{E:Env}{S:St}{w:World}{F:C5}{a:Act}{N:Nat}
theorem Ad5{t:Nat}{y:Ty}(hy:X.ty t=some y){fs:List (Nat×Nat)}(hk:y.k=.str fs){i off sz:Nat}(h:Tn fs i=some (off,sz)) :
 ∃fields f i',X.P.underlying t=some (.struct fields)∧fields[i]?=some f∧f.offset=off∧X.P.info? f.type=some i'∧i'.size=sz∧sz≠0 ∧
  (∀g,y.fa[i]?=some g→∃d',X.P.underlying f.type=some d'∧(g=true↔((∃fs',d'=.struct fs')∨∃n' e',d'=.array n' e'))):=by
 obtain⟨d,hd,hdd⟩:=(X.ty_ok t y hy).agg;simp only[hk]at hdd;obtain⟨fields,rfl,_,hf⟩:=hdd;rw[H8]at h;obtain⟨f,i',h1,h2,h3,h4,h5,_,h7⟩:=hf i off sz h;exact⟨fields,f,i',hd,h1,h2,h3,h4,h5,h7⟩
theorem M5{t:Nat}{y:Ty}(hy:X.ty t=some y){fs:List (Nat×Nat)}(hk:y.k=.str fs){i off sz:Nat}(h:Tn fs i=some (off,sz)){b o:Nat} :
 (Instr.fieldAt t (.pointer (some ⟨b,o,none⟩)) i).run X.P w=.ok (.pointer (some ⟨b,o+off,none⟩)) w:=by
 obtain⟨fields,f,i',h1,h2,h3,h4,h5,h6,_⟩:=Ad5 hy hk h;subst h3;simp[Instr.fieldAt,run_underlying h1,h2,Instr.sureAddr,fieldPlace,sizeOf,typeInfo,h4,h5,h6,Ge]
theorem Ap0{b o:Nat}{cs:List AV}{off:Nat}(h:Rel E w (.pointer (some ⟨b,o,none⟩)) (.cptr cs))(hl:off≤cs.length) :
 Rel E w (.pointer (some ⟨b,o+off,none⟩)) (.cptr (cs.drop off)):=by
 cases h with
 |cptr _ _ _ vals hm hc hr=>
  refine .cptr _ b (o+off) (fun j=>vals (off+j)) (fun j hj=>?_) (fun j hj=>?_) (fun j x hx=>?_)
  ·simp at hj;rw[Mj];exact hm _ (by omega)
  ·simp at hj;rw[Mj];exact hc _ (by omega)
  ·exact hr _ x (by simpa using hx)
theorem Aa6(hI:Inv X E S w)(hF:FR E w F a N){o:Oper}{x:AV}(h:Ej X F S o.op=some x) :
 ∃v,(execOp a.eval o).run X.P w=.ok (.value v) w∧Rel E w v x:=by
 cases ho:o.op<;>rw[ho]at h<;>try (simp[Ej]at h;done)
 case move y=>exact⟨a.eval y,by simp[execOp,ho],Ak hI hF (by simpa[Ej]using h)⟩
 case assign y=>exact⟨a.eval y,by simp[execOp,ho],Ak hI hF (by simpa[Ej]using h)⟩
 case pick c p q=>
  cases c with
  |tmp t=>
   simp only[Ej]at h;split at h
   ·rename_i hc;obtain⟨v,hv,hr⟩:=hF.rel t _ hc;cases hr;have he:a.eval (.tmp t)=.bool true:=by simp[Act.eval,hv]
    exact⟨_,by simp[execOp,ho,he,asBool],Ak hI hF h⟩
   ·rename_i hc;obtain⟨v,hv,hr⟩:=hF.rel t _ hc;cases hr;have he:a.eval (.tmp t)=.bool false:=by simp[Act.eval,hv]
    exact⟨_,by simp[execOp,ho,he,asBool],Ak hI hF h⟩
   ·rename_i e hc;obtain⟨v,hv,hr⟩:=hF.rel t _ hc;cases hr;have he:a.eval (.tmp t)=.bool e:=by simp[Act.eval,hv]
    split at h
    ·rename_i p' hp;split at h
     ·rename_i q' hq;cases h;have h1:=Ak hI hF hp;have h2:=Ak hI hF hq;cases hh1:a.eval p<;>rw[hh1]at h1<;>cases h1;cases hh2:a.eval q<;>rw[hh2]at h2<;>cases h2;refine⟨_,by simp[execOp,ho,he,asBool];rfl,?_⟩;cases e<;>simp[hh1,hh2]<;>exact .val _
     ·cases h
    ·cases h
   ·cases h
  |_=>simp[Ej]at h
 case build t ps=>
  simp only[Ej]at h;split at h
  ·rename_i y hy;split at h
   ·rename_i fs hk;obtain⟨v,hv,hr⟩:=Ai2 hI hF hy hk h;exact⟨v,by simp[execOp,ho,hv],hr⟩
   ·cases h
  ·cases h
 case load t p=>
  simp only[Ej,Q0]at h;cases hy:X.ty t with
  |none=>simp[hy]at h
  |some y=>
   simp only[hy]at h;split at h
   ·rename_i z hz;obtain⟨u,hu,hr⟩:=Aa9 hI hy (Ak hI hF hz) h;exact⟨u,by simp[execOp,ho,hu],hr⟩
   ·cases h
 case nilCheck y=>
  simp only[Ej]at h;split at h
  ·rename_i z hz;obtain⟨h1,h2⟩:=Amf (X:=X) (Ak hI hF hz) h ho rfl;exact⟨_,h1,h2⟩
  ·cases h
 case binOp op t p q t'=>
  simp only[Ej]at h;split at h
  ·rename_i u hu;split at h
   ·rename_i v hv;split at h
    ·rename_i r' hr';cases h;obtain⟨z,hz,hr⟩:=Alo (X:=X) (Ak hI hF hu) (Ak hI hF hv) hr' t p q;exact⟨z,by simp only[execOp,ho];simp only[Sem.run_bind]at hz⊢;rw[hz];rfl,hr⟩
    ·split at h
     ·rename_i yt hyt;obtain⟨z,hz,hr⟩:=Alp (X:=X) hyt (Ak hI hF hu) (Ak hI hF hv) h p q;exact⟨z,by simp only[execOp,ho];simp only[Sem.run_bind]at hz⊢;rw[hz];rfl,hr⟩
     ·cases h
   ·cases h
  ·cases h
 case unOp op t p=>
  simp only[Ej]at h;split at h
  ·rename_i u hu;obtain⟨z,hz,hr⟩:=Arl (X:=X) (Ak hI hF hu) h;exact⟨z,by simp[execOp,ho,hz],hr⟩
  ·cases h
 case convert s d p=>
  simp only[Ej]at h;split at h
  ·rename_i ys hys;split at h
   ·rename_i y hy;split at h
    ·rename_i k n hp;split at h
     ·rename_i k' hk;cases h;have h1:=Ak hI hF hp;obtain⟨dd,hd,hdd⟩:=(X.ty_ok d y hy).agg;obtain⟨ds,hs,_⟩:=(X.ty_ok s ys hys).agg;simp only[hk]at hdd;subst hdd;cases hh:a.eval p<;>rw[hh]at h1<;>cases h1;exact⟨_,by simp[execOp,ho,hh,convert,run_underlying hs,run_underlying hd,Conv.intToInt],.val _⟩
     ·cases h
    ·cases h
   ·cases h
  ·cases h
 case makeFunc fn first cap=>
  cases fn with
  |func f=>
   simp only[Ej]at h;split at h
   ·rename_i hf0;split at h
    ·rename_i cs hcs;cases h;obtain⟨hl,hr⟩:=O2 hI hF hcs;have:first=#[]:=by simpa using hf0
     subst this;exact⟨_,by simp[execOp,ho,Instr.makeFunc],.fn f _ cs hl hr⟩
    ·cases h
   ·cases h
  |_=>simp[Ej]at h
 case fieldAddr s p f=>
  simp only[Ej]at h;split at h
  ·rename_i y hy;split at h
   ·rename_i fs hk;split at h
    ·rename_i off sz hfs;split at h
     ·rename_i b r hp;cases h;have h1:=Ak hI hF hp;cases hh:a.eval p<;>rw[hh]at h1<;>cases h1;rename_i blk sz' hb;refine⟨_,by simp only[execOp,ho,hh];rw[Sem.run_bind,M5 hy hk hfs];rfl,?_⟩;rw[Px];exact .ptr _ _ _ _ _ hb
     ·rename_i b r o' _ hp;cases h;have h1:=Ak hI hF hp;cases hh:a.eval p<;>rw[hh]at h1<;>cases h1;rename_i blk sz' hb;refine⟨_,by simp only[execOp,ho,hh];rw[Sem.run_bind,M5 hy hk hfs];rfl,?_⟩;rw[Ab0,Mj];exact .ptr _ _ _ _ _ hb
     ·rename_i cs hp;obtain⟨h2,h3⟩:=Yb _ _ _ _ h;cases h3;have h1:=Ak hI hF hp;cases hh:a.eval p<;>rw[hh]at h1<;>cases h1;rename_i b o' vals hm hr hc;refine⟨_,by simp only[execOp,ho,hh];rw[Sem.run_bind,M5 hy hk hfs];rfl,?_⟩;exact Ap0 (.cptr cs b o' vals hm hr hc) h2
     ·rename_i rows t v i o' hp;cases h;have h1:=Ak hI hF hp;obtain⟨bb,sz',n,cap,hh,hrel,hi,hsz⟩:=h1.pp_inv;refine⟨_,by simp only[execOp,ho,hh];rw[Sem.run_bind,M5 hy hk hfs];rfl,?_⟩;rw[Ab0,Mj];exact .pp _ _ _ _ _ _ _ _ _ hrel hi hsz
     ·cases h
    ·cases h
   ·cases h
  ·cases h
 case field s p f=>
  simp only[Ej]at h;split at h
  ·rename_i y hy;split at h
   ·rename_i fs hk;split at h
    ·rename_i off sz hfs;split at h
     ·rename_i g hg;split at h
      ·rename_i cs hp;obtain⟨h2,h3⟩:=Yb _ _ _ _ h;obtain⟨h4,h5⟩:=Y3 _ _ _ _ h3;have h1:=Ak hI hF hp;cases hh:a.eval p<;>rw[hh]at h1<;>cases h1;rename_i vs hl hr;obtain⟨fields,ff,i',k1,k2,k3,k4,k5,k6,k7⟩:=Ad5 hy hk hfs;rw[H8]at hg;obtain⟨d',kd,kg⟩:=k7 g hg;subst k3;simp only[Ad9]at h4;have hag:(isAgg ff.type).run X.P w=.ok g w:=by
        cases g with
        |true=>rcases kg.1 rfl with⟨_,rfl⟩|⟨_,_,rfl⟩<;>simp[isAgg,run_underlying kd]
        |false=>
         have:∀fs',d'≠.struct fs':=fun fs' hh=>by have:=kg.2 (.inl ⟨fs',hh⟩);cases this
         have:∀n e,d'≠.array n e:=fun n e hh=>by have:=kg.2 (.inr ⟨n,e,hh⟩);cases this
         cases d'<;>simp_all [isAgg,run_underlying kd]
       rcases Anv h5 with⟨rfl,rfl⟩|⟨rfl,hone⟩
       ·refine⟨.agg (vs.extract ff.offset (ff.offset+sz)),?_,?_⟩
        ·simp[execOp,ho,hh,Instr.field,run_underlying k1,k2,asAgg,part,hag,sizeOf,typeInfo,k4,k5]
        ·refine .agg _ _ (by simp;omega) (fun j v z hv hz=>?_);have hj:j<sz:=by have:=Aa hz;simp at this;omega
         refine hr (ff.offset+j) v z ?_ (by simpa[Mb,hj]using hz);simp[Array.getElem?_extract]at hv;exact hv.2
       ·have hj0:cs[ff.offset]?=some x:=by
         have:((cs.drop ff.offset).take sz)[0]?=some x:=by rw[hone];rfl
         simpa[Mb,Aeb k6]using this
        have hlt:ff.offset<vs.size:=by rw[hl];exact Aa hj0
        refine⟨vs[ff.offset],?_,hr _ _ _ (by simp[hlt]) hj0⟩;simp[execOp,ho,hh,Instr.field,run_underlying k1,k2,asAgg,part,hag,hlt]
      ·cases h
     ·cases h
    ·cases h
   ·cases h
  ·cases h
 case indexAddr t p q=>
  cases q with
  |const c=>
   cases c with
   |int k i=>
    simp only[Ej]at h;split at h
    ·rename_i y hy;split at h
     ·rename_i n e hk;split at h
      ·rename_i ye hye;split at h
       ·rename_i hi0;split at h
        ·rename_i hin;split at h
         ·rename_i b r o' hp;cases h;have h1:=Ak hI hF hp;obtain⟨d,hd,hdd⟩:=(X.ty_ok t y hy).agg;simp only[hk]at hdd;obtain⟨rfl,_⟩:=hdd;have hi0':=A5 hi0;have hin':=A5 hin;cases hh:a.eval p<;>rw[hh]at h1<;>cases h1;rename_i blk sz' hb;refine⟨.pointer (some ⟨blk,r*sz'+o'+i.toNat*ye.size,none⟩),?_,?_⟩
          ·have hsz:=Dr hye w;have hc:a.eval (.const (.int k i))=.int k i:=rfl;simp[execOp,ho,hh,hc,Instr.indexAt,asIntOf,run_underlying hd,Instr.sureAddr,hi0',hin',hsz,Ge]
          ·rw[Ab0,Mj];exact .ptr _ _ _ _ _ hb
         ·cases h
        ·cases h
       ·cases h
      ·cases h
     ·cases h
    ·cases h
   |_=>simp[Ej]at h
  |_=>simp[Ej]at h
 case extract t i=>
  simp only[Ej]at h;split at h
  ·rename_i vs hp;have h1:=Ak hI hF hp;cases hh:a.eval t<;>rw[hh]at h1<;>cases h1;rename_i us hl hr;rw[H8]at h;have hlt:i<us.size:=by rw[hl];exact Aa h
   exact⟨us[i],by simp[execOp,ho,hh,Instr.extract,hlt],hr i _ _ (by simp[hlt]) h⟩
  ·cases h
 case call c=>
  obtain⟨callee,args,argTypes⟩:=c;simp only[Ej]at h;split at h
  ·split at h
   ·rename_i x' hargs;split at h
    ·rename_i t hts;split at h
     ·rename_i y hy;split at h
      ·rename_i u hu;have ha:args=#[x']:=by rw[←zzq34];simpa using hargs
       have ht:argTypes=#[t]:=by rw[←zzq34];simpa using hts
       subst ha;subst ht;obtain⟨z,hz,hr⟩:=Al6 hI hy (Ak hI hF hu) h o.type;exact⟨z,by simp[execOp,ho,resolve,invoke,builtin,hz],hr⟩
      ·cases h
     ·cases h
    ·cases h
   ·cases h
  ·split at h
   ·rename_i k m k' n hargs;cases h;obtain⟨hl,hr⟩:=Sj hI hF hargs;have e:∃o1 o2,args.toList=[o1,o2]:=by
     cases hq:args.toList with
     |nil=>rw[hq]at hl;simp at hl
     |cons o1 l=>cases l with
      |nil=>rw[hq]at hl;simp at hl
      |cons o2 l2=>cases l2 with
       |nil=>exact⟨o1,o2,rfl⟩
       |cons o3 l3=>rw[hq]at hl;simp at hl
    obtain⟨o1,o2,hq⟩:=e;have ha:args=#[o1,o2]:=by rw[←zzq34];simpa using hq
    subst ha;have r1:=hr 0 (a.eval o1) _ (by simp) rfl;have r2:=hr 1 (a.eval o2) _ (by simp) rfl;cases h1:a.eval o1<;>rw[h1]at r1<;>cases r1;cases h2:a.eval o2<;>rw[h2]at r2<;>cases r2;exact⟨_,by simp[execOp,ho,resolve,invoke,builtin,h1,h2,Builtin.max_,Builtin.max2],.val _⟩
   ·cases h
  ·split at h
   ·rename_i k m k' n hargs;cases h;obtain⟨hl,hr⟩:=Sj hI hF hargs;have e:∃o1 o2,args.toList=[o1,o2]:=by
     cases hq:args.toList with
     |nil=>rw[hq]at hl;simp at hl
     |cons o1 l=>cases l with
      |nil=>rw[hq]at hl;simp at hl
      |cons o2 l2=>cases l2 with
       |nil=>exact⟨o1,o2,rfl⟩
       |cons o3 l3=>rw[hq]at hl;simp at hl
    obtain⟨o1,o2,hq⟩:=e;have ha:args=#[o1,o2]:=by rw[←zzq34];simpa using hq
    subst ha;have r1:=hr 0 (a.eval o1) _ (by simp) rfl;have r2:=hr 1 (a.eval o2) _ (by simp) rfl;cases h1:a.eval o1<;>rw[h1]at r1<;>cases r1;cases h2:a.eval o2<;>rw[h2]at r2<;>cases r2;exact⟨_,by simp[execOp,ho,resolve,invoke,builtin,h1,h2,Builtin.min_,Builtin.min2],.val _⟩
   ·cases h
  ·cases h
end
section
variable {X:Cx}{E:Env}{S:St}{w:World}{F:C5}{a:Act}{N:Nat}
theorem Abt{v:Value}{x:AV}(hx:Rel E w v x){xs:List AV}(hc:cellsOf x=some xs):Aev E w v.cells xs:=
 let ⟨h1,h2,_⟩:=Hj hx hc;⟨h1,h2⟩
theorem Yr(hI:Inv X E S w)(t:TypeId){v:Value}{cs:List AV}(hf:Aev E w v.cells cs) :
 ∃E' w',(newVar t v).run X.P w=.ok ⟨w.heap.size,0,none⟩ w'∧Inv X E' ⟨S.boxes++[[cs]],S.toks⟩ w'∧Evol E w E' w' E.boxes.length E.toks.length ∧
  Rel E' w' (.pointer (some ⟨w.heap.size,0,none⟩)) (.ptr S.boxes.length 0 0):=by
 obtain⟨ev,hI'⟩:=hI.newBox (w':=w.alloc (.cells v.cells t)) (cs:=v.cells) (e:=t) (sz:=cs.length) (rows:=[cs]) rfl rfl rfl rfl (by simp[hf.1])
  (fun r hr=>by simp at hr;rw[hr]) (fun k r j x u h1 h2 h3=>by
    cases k with
    |zero=>simp at h1;subst h1;exact hf.2 j u x (by simpa using h3) h2
    |succ k=>simp at h1)
 refine⟨E.addBox w.heap.size cs.length,w.alloc (.cells v.cells t),by simp[newVar,newRow],hI',ev,?_⟩;have:=Rel.ptr (E:=E.addBox w.heap.size cs.length) (w:=w.alloc (.cells v.cells t)) S.boxes.length 0 0 w.heap.size cs.length (by rw[←hI.nb];exact getElem?_snoc_new _ _);simpa using this
theorem Auz{α:Type}(n i:Nat)(a:α)(h:i<n):(List.replicate n a)[i]?=some a:=by simp[h]
def Rn(E:Env)(w:World)(sz:Nat)(cells:Array Value)(rows:List (List AV)):Prop:=
 cells.size=rows.length*sz∧(∀r,r∈rows→r.length=sz) ∧
  ∀(k:Nat) (r:List AV) (j:Nat) (x:AV) (v:Value),rows[k]?=some r→r[j]?=some x→cells[k*sz+j]?=some v→Rel E w v x
theorem Ata{sz:Nat}{cells:Array Value}{rows:List (List AV)}{xs:List AV}{v:Value}{x:AV}{i:Nat}(h:Rn E w sz cells rows)(hx:Rel E w v x)
 (hc:cellsOf x=some xs)(hl:xs.length=sz)(hi:i<rows.length) :
 Rn E w sz (v.cells.zipIdx.foldl (fun cs (p:Value×Nat)=>cs.setIfInBounds (i*sz+p.2) p.1) cells) (rows.set i xs):=by
 obtain⟨hs,hr,_⟩:=Hj hx hc;obtain⟨h1,h2⟩:=Aa7 (i*sz) v.cells cells;refine⟨by rw[h1,h.1];simp,fun r hr'=>?_,fun k r j y u hk hj hu=>?_⟩
 ·rcases Wt hr' with h'|rfl
  ·exact h.2.1 r h'
  ·exact hl
 ·rw[h2]at hu;by_cases hki:k=i
  ·subst hki;have hr1:r=xs:=by simpa[hi]using hk.symm
   subst hr1;have hjl:=Aa hj;have hlt:=I6 (sz:=sz) hi (show j<sz by omega);rw[if_pos ⟨by omega,by omega,by rw[h.1];exact hlt⟩]at hu;exact hr j u y (by simpa[Nat.add_sub_cancel_left]using hu) hj
  ·have hk':rows[k]?=some r:=by simpa[Vb,Ne.symm hki]using hk
   have hjl:j<sz:=by rw[←h.2.1 r (Bh hk')];exact Aa hj
   have:=Aan hjl hki;rw[if_neg (by omega)]at hu;exact h.2.2 k r j y u hk' hj hu
theorem Xf(hI:Inv X E S w)(hF:FR E w F a N){sz:Nat}:∀(ps:List (Nat×Operand))(cells:Array Value)(rows:List (List AV))(r:AV),Rn E w sz cells rows →
 Uk X F sz ps rows=some r→∃cells' rows',Instr.fill (fun i=>some (i*sz,sz)) cells (ps.map fun p=>(p.1,a.eval p.2))=some cells'∧Rn E w sz cells' rows' ∧
  rows'.length=rows.length∧r=.sl rows' .tight
 |[],cells,rows,r,hg,h=>by
  simp only[Uk]at h;cases h;exact⟨cells,rows,rfl,hg,rfl,rfl⟩
 |(i,o)::ps,cells,rows,r,hg,h=>by
  simp only[Uk]at h;split at h
  ·rename_i x hx;split at h
   ·rename_i xs hxs;split at h
    ·rename_i hl;obtain⟨h1,h2⟩:=Acd _ _ _ _ _ h;have hl':xs.length=sz:=Ve hl;have hrx:=Ak hI hF hx;obtain⟨hs,_,_⟩:=Hj hrx hxs;have hlay:=Ata hg hrx hxs hl' h1;obtain⟨cells',rows',hc',hg',hll,hr'⟩:=Xf hI hF ps _ _ r hlay h2;refine⟨cells',rows',?_,hg',by simpa using hll,hr'⟩;simp only[N0,Instr.fill];rw[if_neg]
     ·exact hc'
     ·have hgs:=hg.1;rw[hl']at hs;have:(i+1)*sz≤rows.length*sz:=Tq sz h1;rw[Rf,Nat.one_mul]at this;simp[hs];omega
    ·cases h
   ·cases h
  ·cases h
theorem Vt{z:Value}{zs:List AV}(h:z.cells.toList.map Ic=zs){sz n:Nat}(hl:zs.length=sz)(cells:Array Value)(hs:cells.size=n*sz)
 (hc:∀i,i<n*sz→cells[i]?=z.cells[i%sz]?):Rn E w sz cells (List.replicate n zs):=by
 refine⟨by simp[hs],fun r hr=>by rw[Abk hr];exact hl,fun k r j x v hk hj hv=>?_⟩;have hkn:k<n:=by have:=Aa hk;simpa using this
 have hr:r=zs:=by rw[Auz n k zs hkn]at hk;cases hk;rfl
 subst hr;have hjs:j<sz:=by have:=Aa hj;omega
 rw[hc _ (I6 hkn hjs),Nat.mul_comm,Nat.mul_add_mod,Nat.mod_eq_of_lt hjs]at hv;exact(Wa (E:=E) (w:=w) h).2 j v x hv hj
theorem Amy{w':World}(hI:Inv X E S w){sz:Nat}{cells:Array Value}{rows:List (List AV)}(hg:Rn E w sz cells rows){e:TypeId}
 (hh:w'.heap=w.heap.push (.cells cells e (0,0)))(hos:w'.os=w.os)(ht:w'.tape=w.tape)(ho:w'.output=w.output)(hx:rows.length≤Pg)
 (sp:Sp)(cap:Nat)(hcap:rows.length≤cap)(hsp:A3n E sp (some ⟨w.heap.size,0,none⟩) rows.length cap sz) :
 Rel E w' (.slice (some ⟨w.heap.size,0,none⟩) rows.length cap) (.sl rows sp):=by
 have ev:=Evol.push (E:=E) ⟨_,hh⟩ hos ht ho E.boxes.length E.toks.length;have hcell:∀o,w'.cell? ⟨w.heap.size,o,none⟩=cells[o]?:=fun o=>by
  have:w'.heap[w.heap.size]?=some (.cells cells e (0,0)):=by rw[hh];simp
  simp[World.cell?,this]
 refine .sl rows sp _ rows.length cap w.heap.size 0 sz (fun i j=>cells.getD (i*sz+j) default) rfl hx (fun _=>rfl) hg.2.1 (fun i j _ _=>Aje hI)
  (fun i j hi hj=>?_) (fun i j r x hi hj=>?_) hsp hcap
 ·rw[Jy,hcell];have:=I6 hi hj;rw[←hg.1]at this;simp[this,Array.getD]
 ·have hi':=Aa hi;have hj':j<sz:=by rw[←hg.2.1 r (Bh hi)];exact Aa hj
  have:=I6 hi' hj';rw[←hg.1]at this;exact(hg.2.2 i r j x _ hi hj (by simp[this,Array.getD])).step ev
theorem Aa5(hI:Inv X E S w)(hF:FR E w F a N){o:Oper}{x:AV}{S':St}(h:Kl X F S o.op=some (x,S')) :
 ∃v E' w',(execOp a.eval o).run X.P w=.ok (.value v) w'∧Inv X E' S' w'∧Evol E w E' w' E.boxes.length E.toks.length∧Rel E' w' v x:=by
 cases ho:o.op<;>rw[ho]at h<;>try (simp[Kl]at h;done)
 case alloc t=>
  simp only[Kl]at h;split at h
  ·rename_i y1 y2 y3 y4 hy;rw[Q4,J5]at h;cases h;obtain⟨z,hz,hzc,hzl,_⟩:=Jx hy w;obtain⟨E',w',h1,h2,h3,h4⟩:=Yr hI t (Wa (E:=E) (w:=w) hzc);exact⟨_,E',w',by simp[execOp,ho,Instr.alloc,hz,h1],h2,h3,h4⟩
  ·cases h
 case box t p=>
  simp only[Kl]at h;split at h
  ·rename_i u hu;split at h
   ·rename_i cs hcs;rw[Q4,J5]at h;cases h;obtain⟨E',w',h1,h2,h3,h4⟩:=Yr hI t (Abt (Ak hI hF hu) hcs);exact⟨_,E',w',by simp[execOp,ho,Instr.box,h1],h2,h3,h4⟩
   ·cases h
  ·cases h
 case buildSlice t n ps=>
  simp only[Kl]at h;split at h
  ·rename_i y hy;split at h
   ·rename_i e hk;split at h
    ·rename_i ye hye;split at h
     ·rename_i hble;split at h
      ·rename_i r hr;cases h;have hle:n*ye.size≤1000000:=Jz hble;obtain⟨d,hd,hdd⟩:=(X.ty_ok t y hy).agg;simp only[hk]at hdd;obtain⟨rfl,ye',hye',hne⟩:=hdd;rw[hye]at hye';cases hye';obtain⟨z,hz,hzc,hzl,i,hi,hiz,his,hib⟩:=Jx hye w;have hzs:z.cells.size=ye.size:=by rw[←hzl,←hzc];simp
       rw[Ao0]at hr;have hg0:Rn E w ye.size ((Array.range (n*ye.size)).map (z.cells[·%z.cells.size]!)) (List.replicate n ye.zero):=by
        refine Vt hzc hzl _ (by simp) (fun i hi=>?_);have hm:i%ye.size<z.cells.size:=by rw[hzs];exact Nat.mod_lt _ (Aeb hne)
        have hr0:(Array.range (n*ye.size))[i]?=some i:=by simp[hi]
        rw[Array.getElem?_map,hr0];simp only[Lk];rw[hzs,getElem!_pos z.cells (i%ye.size) hm,Aku hm]
       obtain⟨cells',rows',hf',hg',hl',rfl⟩:=Xf hI hF ps.toList _ _ _ hg0 hr;have hn:rows'.length=n:=by simpa using hl'
       refine⟨_,E,w.alloc (.cells cells' e),?_,hI.push (w':=w.alloc (.cells cells' e)) ⟨_,rfl⟩ rfl rfl rfl,Evol.push (w':=w.alloc (.cells cells' e)) ⟨_,rfl⟩ rfl rfl rfl _ _,Amy (w':=w.alloc (.cells cells' e)) (e:=e) hI hg' rfl rfl rfl rfl ?_ .tight rows'.length (Bo _) rfl⟩
       ·have hsz:=Dr hye w;have hpp:(ps.map fun(x:Nat×Operand)=>(x.1,a.eval x.2)).toList=ps.toList.map fun p=>(p.1,a.eval p.2):=by simp
        have h24:¬(n*ye.size>16777216):=by omega
        simp only[execOp,ho,Instr.buildSlice,Sem.run_bind,run_underlying hd,Result.andThen_ok,hsz];by_cases h0:n*ye.size=0
        ·have hn0:n=0:=by
          rcases Nat.mul_eq_zero.1 h0 with h|h
          ·exact h
          ·exact absurd h hne
         subst hn0;have e1:∀f:Nat→Value,(Array.range 0).map f=#[]:=fun f=>by rw[←zzq34];simp
         have hf2:=hf';simp only[Nat.zero_mul,e1]at hf2;simp[hf2,newRow,hn,e1]
        ·simp[h24,h0,hz,hf',newRow,hn]
       ·rw[hn];have:n≤n*ye.size:=Nat.le_mul_of_pos_right _ (Aeb hne);simp only[Pg];omega
      ·cases h
     ·cases h
    ·cases h
   ·cases h
  ·cases h
end
end Go.V
