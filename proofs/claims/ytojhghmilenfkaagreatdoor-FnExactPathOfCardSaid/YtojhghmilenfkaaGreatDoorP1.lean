/- A part of the proof of the claim that the last text states: no condition of its own. -/
import Derived.Below
import Derived.Deep.AppendSrc
import Derived.KernelRfl
import Derived.Laws.AppendOwn
import Derived.Laws.Build
import Derived.Laws.Cells
import Derived.Laws.Concat
import Derived.Laws.CopyRow
import Derived.Laws.Entries
import Derived.Laws.Rows
import Derived.Laws.Strings
import Derived.Laws.Tables
import Derived.Orders
set_option linter.unusedVariables false
set_option linter.unusedSimpArgs false
namespace Go.V
open Go
abbrev Gu:=@Nat.lt_or_ge
abbrev U3:=@List.getElem?_eq_none
abbrev Abs:=@Array.getElem?_eq_none
abbrev Bo:=@Nat.le_refl
abbrev Nt:=@Nat.le_trans
abbrev Mx:=@Nat.lt_of_lt_of_le
abbrev Bh:=@List.mem_of_getElem?
abbrev Tp:=@Nat.mul_le_mul_right
abbrev Rf:=@Nat.add_mul
abbrev Cc:=@Nat.zero_le
abbrev Wp:=@Nat.not_lt_zero
abbrev Ao6:=@Array.getD_eq_getD_getElem?
abbrev Jt:=@Nat.zero_add
abbrev zzq13:=@List.mem_cons
abbrev Pt:=@Nat.add_zero
abbrev Ad4:=@List.length_drop
abbrev Ma:=@List.getElem?_take
abbrev Nx:=@Nat.add_assoc
abbrev Wq:=@Array.getElem?_push_lt
abbrev Cr:=@List.getElem?_append_left
abbrev Gj:=@List.getElem?_append_right
abbrev Es:=@List.length_append
abbrev Zb:=@List.length_singleton
abbrev U4:=@List.getElem?_set
abbrev Ad5:=@List.foldl_cons
abbrev Nl:=@List.length_cons
abbrev Fi:=@List.append_assoc
abbrev Ti:=@List.length_take
abbrev Ny:=@List.getElem?_drop
abbrev U5:=@Nat.eq_of_beq_eq_true
abbrev Nz:=@List.map_cons
abbrev Bd:=@of_decide_eq_false
abbrev A7:=@of_decide_eq_true
abbrev Zc:=@Nat.pos_of_ne_zero
abbrev zzq34:=@Array.toList_inj
abbrev Wr:=@List.mem_or_eq_of_mem_set
abbrev Abi:=@List.eq_of_mem_replicate
abbrev I7:=@Nat.le_of_ble_eq_true
abbrev Ws:=@Nat.mod_lt
abbrev Akg:=@Array.getElem?_map
abbrev Km:=@Option.map_some
abbrev Agc:=@Array.getElem?_eq_getElem
abbrev Abj:=@List.size_toArray
abbrev Abk:=@List.length_set
abbrev Rc:=@List.getElem?_toArray
abbrev Fs:=@Nat.blt_eq
abbrev Zd:=@Array.getElem?_append_left
abbrev zzq47:=@List.mem_append
abbrev Da:=@Bool.and_eq_true
abbrev Gm:=@List.getElem?_map
abbrev zzq50:=@List.all_eq_true
abbrev Wt:=@Array.toList_append
abbrev Ad6:=@Nat.lt_succ_self
abbrev Wu:=@List.getElem?_eq_getElem
abbrev O9:=@Bool.or_eq_true
abbrev zzq55:=@List.mem_range
abbrev zzq56:=@beq_iff_eq
abbrev U6:=@Bool.or_false
abbrev zzq58:=@List.mem_filter
abbrev Mh:=@Bool.not_eq_true'
abbrev Re:=@Bool.true_and
abbrev Akh:=@List.singleton_append
abbrev Ze:=@List.length_filter_le
abbrev Fj:=@List.getElem?_set_ne
abbrev Et:=@List.getElem?_set_self
abbrev Zf:=@List.map_set
abbrev Abl:=@List.getElem?_range
abbrev zzq67:=@List.length_pos_iff
abbrev zzq68:=@List.mem_map
abbrev Agd:=@List.mem_of_mem_take
abbrev U7:=@List.length_map
abbrev J8:=@List.map_append
abbrev Ad7:=@List.drop_drop
abbrev J9:=@decide_eq_true_eq
abbrev Wv:=@List.not_mem_nil
abbrev Ad8:=@List.take_append_drop
abbrev G7:=@List.take_add_one
abbrev I8:=@List.take_length
abbrev Aki:=@List.drop_eq_getElem_cons
abbrev Hw:=@List.drop_length
abbrev Kn:=@decide_eq_false
abbrev Ad9:=@List.drop_eq_nil_of_le
abbrev Pb:=@Bool.or_eq_false_iff
abbrev Age:=@Bool.not_eq_false'
abbrev Zg:=@decide_eq_true
abbrev Pu:=@List.cons_append
abbrev Hc:=@Int.toNat_natCast
abbrev Abm:=@List.filter_append
abbrev Abn:=@List.filter_cons
abbrev Akj:=@List.dropLast_eq_take
abbrev Ww:=@List.length_nil
abbrev Akk:=@List.getLastD_eq_getLast?
abbrev Pv:=@List.all_cons
abbrev Zh:=@List.any_cons
abbrev Abo:=@List.ext_getElem?
abbrev G4:=@List.append_nil
abbrev zzq96:=@List.length_eq_zero_iff
abbrev U8:=@List.nil_append
abbrev Agf:=@List.mem_append_right
abbrev Ao7:=@List.getElem?_replicate
abbrev Gi:=@List.set_append_right
abbrev Fv:=@Nat.sub_self
abbrev Tc:=@Array.getElem?_toList
abbrev Ad2:=@Option.toList_some
abbrev zzq104:=@Option.map_eq_some_iff
abbrev Aie:=@List.getD_eq_getElem?_getD
abbrev Ad3:=@Nat.add_sub_cancel
abbrev zzq107:=@List.getElem?_eq_some_iff
abbrev zzq108:=@List.mem_flatMap
abbrev zzq109:=@List.nodup_append
abbrev Aif:=@List.getElem?_cons_succ
inductive Sp where
 |no
 |tight
 |tok (t:Nat)
inductive AV where
 |val (v:Value)
 |ptr (b row off:Nat)
 |cptr (cs:List AV)
 |sl (rows:List (List AV)) (sp:Sp)
 |bsl (b n:Nat)
 |bst (b o n:Nat)
 |agg (cs:List AV)
 |tup (vs:List AV)
 |fn (f:FuncId) (cap:List AV)
 |lit (b:Bool)
 |junk
 |err
 |tagN (te b:Nat)
 |buf (te:Nat) (s:List UInt8) (t:Nat)
 |dat (te:Nat) (s:List UInt8) (t:Nat)
 |psl (rows:List (List AV)) (t v:Nat)
 |pp (rows:List (List AV)) (t v i o:Nat)
 deriving Inhabited
structure Tk where
 len:Nat
 sp:Option (Nat×Nat×Nat)
structure Env where
 boxes:List (Option (Nat×Nat))
 toks:List Tk
 fr:Nat→Nat→Prop
 df:List Deferred
def Env.own(E:Env)(b:Nat):Prop:=
 (∃(i sz:Nat),E.boxes[i]?=some (some (b,sz)))∨(∃(t l c sz:Nat),E.toks[t]?=some (Tk.mk l (some (b,c,sz))))
def Env.mt(E:Env)(b o:Nat):Prop:=
 E.fr b o∨(∃(i sz:Nat),E.boxes[i]?=some (some (b,sz)))∨(∃(t l c sz:Nat),E.toks[t]?=some (Tk.mk l (some (b,c,sz)))∧l*sz≤o)
def A23(E:Env)(sp:Sp)(a:Option Addr)(n cap sz:Nat):Prop:=
 match sp with
 |.no=>True
 |.tight=>cap=n
 |.tok t=>∃k:Tk,E.toks[t]?=some k∧n≤k.len∧(n=k.len→match k.sp with
   |none=>cap=n
   |some (b,c,s)=>cap=c∧a=some ⟨b,0,none⟩∧s=sz)
def O0:Nat:=9223372036854775807
def Fu(w:World)(b:Nat):Option TypeId:=match w.heap[b]? with
 |some (.cells _ e _)=>some e
 |_=>none
def BufAt(E:Env)(w:World)(te:Nat)(s:List UInt8)(k:Tk)(p:Option Addr)(cap:Nat):Prop:=
 match k.sp with
 |none=>s=[]∧cap=0∧p=none
 |some (b,c,sz)=>cap=c∧p=some ⟨b,0,none⟩∧sz=1∧Fu w b=some te∧(∀j,j<s.length→¬E.mt b j)∧∀(j:Nat) (x:UInt8),s[j]?=some x→w.cell? ⟨b,j,none⟩=some (.int .u8 x.toNat)
inductive Flat:AV→Prop where
 |val (v:Value):Flat (.val v)
 |lit (b:Bool):Flat (.lit b)
 |junk:Flat .junk
 |err:Flat .err
 |cptr (cs:List AV) (h:∀x,x∈cs→Flat x):Flat (.cptr cs)
 |sl (rows:List (List AV)) (sp:Sp) (h:∀r,r∈rows→∀x,x∈r→Flat x) (hs:∀t,sp≠.tok t):Flat (.sl rows sp)
 |agg (cs:List AV) (h:∀x,x∈cs→Flat x):Flat (.agg cs)
 |tup (cs:List AV) (h:∀x,x∈cs→Flat x):Flat (.tup cs)
 |fn (f:FuncId) (cs:List AV) (h:∀x,x∈cs→Flat x):Flat (.fn f cs)
inductive NoT:AV→Prop where
 |val (v:Value):NoT (.val v)
 |lit (b:Bool):NoT (.lit b)
 |junk:NoT .junk
 |err:NoT .err
 |tagN (te b:Nat):NoT (.tagN te b)
 |ptr (b row off:Nat):NoT (.ptr b row off)
 |cptr (cs:List AV) (h:∀x,x∈cs→NoT x):NoT (.cptr cs)
 |sl (rows:List (List AV)) (sp:Sp) (h:∀r,r∈rows→∀x,x∈r→NoT x) (hs:∀t,sp≠.tok t):NoT (.sl rows sp)
 |bsl (b k:Nat):NoT (.bsl b k)
 |bst (b o k:Nat):NoT (.bst b o k)
 |agg (cs:List AV) (h:∀x,x∈cs→NoT x):NoT (.agg cs)
 |tup (cs:List AV) (h:∀x,x∈cs→NoT x):NoT (.tup cs)
 |fn (f:FuncId) (cs:List AV) (h:∀x,x∈cs→NoT x):NoT (.fn f cs)
theorem Flat.noT{x:AV}(h:Flat x):NoT x:=by
 induction h with
 |val v=>exact .val v
 |lit b=>exact .lit b
 |junk=>exact .junk
 |err=>exact .err
 |cptr cs _ ih=>exact .cptr cs ih
 |sl rows sp _ hs ih=>exact .sl rows sp ih hs
 |agg cs _ ih=>exact .agg cs ih
 |tup cs _ ih=>exact .tup cs ih
 |fn f cs _ ih=>exact .fn f cs ih
inductive Ok (n m:Nat):AV→Prop where
 |val (v:Value):Ok n m (.val v)
 |lit (b:Bool):Ok n m (.lit b)
 |junk:Ok n m .junk
 |err:Ok n m .err
 |tagN (te b:Nat) (h:b<n):Ok n m (.tagN te b)
 |buf (te:Nat) (s:List UInt8) (t:Nat) (h:t<m):Ok n m (.buf te s t)
 |dat (te:Nat) (s:List UInt8) (t:Nat) (h:t<m):Ok n m (.dat te s t)
 |ptr (b row off:Nat) (h:b<n):Ok n m (.ptr b row off)
 |cptr (cs:List AV) (h:∀x,x∈cs→Ok n m x):Ok n m (.cptr cs)
 |sl (rows:List (List AV)) (sp:Sp) (h:∀r,r∈rows→∀x,x∈r→Ok n m x) (hs:∀t,sp=.tok t→t<m):Ok n m (.sl rows sp)
 |bsl (b k:Nat) (h:b<n):Ok n m (.bsl b k)
 |bst (b o k:Nat) (h:b<n):Ok n m (.bst b o k)
 |agg (cs:List AV) (h:∀x,x∈cs→Ok n m x):Ok n m (.agg cs)
 |tup (cs:List AV) (h:∀x,x∈cs→Ok n m x):Ok n m (.tup cs)
 |fn (f:FuncId) (cs:List AV) (h:∀x,x∈cs→Ok n m x):Ok n m (.fn f cs)
 |psl (rows:List (List AV)) (t v:Nat) (h:t<m) (hf:∀r,r∈rows→∀x,x∈r→Ok n m x) (hn:∀r,r∈rows→∀x,x∈r→NoT x):Ok n m (.psl rows t v)
 |pp (rows:List (List AV)) (t v i o:Nat) (h:t<m) (hf:∀r,r∈rows→∀x,x∈r→Ok n m x) (hn:∀r,r∈rows→∀x,x∈r→NoT x):Ok n m (.pp rows t v i o)
def A4f(w:World)(sp:Option (Nat×Nat×Nat))(a:Option Addr)(n cap sz:Nat)(vals:Nat→Nat→Value):Prop:=
 match sp with
 |none=>n=0∧cap=0
 |some (b,c,s)=>n≠0∧s=0∧c=cap∧a=some ⟨b,0,none⟩∧∃cs e,w.heap[b]?=some (.cells cs e (0,0))∧cs.size=cap*sz∧∀i j,i<n→j<sz→cs[i*sz+j]?=some (vals i j)
inductive Rel (E:Env)(w:World):Value→AV→Prop where
 |val (v:Value):Rel E w v (.val v)
 |lit (b:Bool):Rel E w (.bool b) (.lit b)
 |junk (v:Value):Rel E w v .junk
 |err (t:TypeId) (v:Value):Rel E w (.iface t v) .err
 |tagN (te b blk sz:Nat) (h:E.boxes[b]?=some (some (blk,sz))) (ht:Fu w blk=some te):Rel E w (.pointer none) (.tagN te b)
 |buf (te:Nat) (s:List UInt8) (t:Nat) (a:Option Addr) (cap:Nat) (k:Tk) (hk:E.toks[t]?=some k) (hn:s.length≤k.len) (hx:s.length≤O0) (hs:s.length=k.len→BufAt E w te s k a cap) (hc:s.length≤cap) :
   Rel E w (.slice a s.length cap) (.buf te s t)
 |dat (te:Nat) (s:List UInt8) (t:Nat) (p:Option Addr) (k:Tk) (hk:E.toks[t]?=some k) (hn:s.length≤k.len) (hs:s.length=k.len→s≠[]→∃cap,BufAt E w te s k p cap):Rel E w (.pointer p) (.dat te s t)
 |ptr (b row off blk sz:Nat) (h:E.boxes[b]?=some (some (blk,sz))):Rel E w (.pointer (some ⟨blk,row*sz+off,none⟩)) (.ptr b row off)
 |cptr (cs:List AV) (b o:Nat) (vals:Nat→Value) (hm:∀j,j<cs.length→¬E.mt b (o+j))
   (hc:∀j,j<cs.length→w.cell? ⟨b,o+j,none⟩=some (vals j))
   (hr:∀(j:Nat)(x:AV),cs[j]?=some x→Rel E w (vals j) x):Rel E w (.pointer (some ⟨b,o,none⟩)) (.cptr cs)
 |sl (rows:List (List AV)) (sp:Sp) (a:Option Addr) (n cap b o sz:Nat) (vals:Nat→Nat→Value)
   (hn:rows.length=n)(hx:n≤O0)(ha:n≠0→a=some ⟨b,o,none⟩)(hsz:∀r,r∈rows→r.length=sz)
   (hm:∀i j,i<n→j<sz→¬E.mt b (o+i*sz+j))
   (hc:∀i j,i<n→j<sz→w.cell? ⟨b,o+i*sz+j,none⟩=some (vals i j))
   (hr:∀(i j:Nat)(r:List AV)(x:AV),rows[i]?=some r→r[j]?=some x→Rel E w (vals i j) x)
   (hs:A23 E sp a n cap sz)(hcap:n≤cap):Rel E w (.slice a n cap) (.sl rows sp)
 |bsl (b blk sz n cap:Nat) (h:E.boxes[b]?=some (some (blk,sz))) (hc:n≤cap):Rel E w (.slice (some ⟨blk,0,none⟩) n cap) (.bsl b n)
 |bst (b blk sz o n cap:Nat) (h:E.boxes[b]?=some (some (blk,sz))):Rel E w (.slice (some ⟨blk,o*sz,none⟩) n cap) (.bst b o n)
 |agg (vs:Array Value) (cs:List AV) (hl:vs.size=cs.length)
   (hr:∀(j:Nat)(v:Value)(x:AV),vs[j]?=some v→cs[j]?=some x→Rel E w v x):Rel E w (.agg vs) (.agg cs)
 |tup (vs:Array Value) (cs:List AV) (hl:vs.size=cs.length)
   (hr:∀(j:Nat)(v:Value)(x:AV),vs[j]?=some v→cs[j]?=some x→Rel E w v x):Rel E w (.tuple vs) (.tup cs)
 |fn (f:FuncId) (vs:Array Value) (cs:List AV) (hl:vs.size=cs.length)
   (hr:∀(j:Nat)(v:Value)(x:AV),vs[j]?=some v→cs[j]?=some x→Rel E w v x):Rel E w (.func (.func f) #[] vs) (.fn f cs)
 |psl (rows:List (List AV)) (t v:Nat) (a:Option Addr) (n cap:Nat) (k:Tk) (sz:Nat) (vals:Nat→Nat→Value) (hn:rows.length=n) (hx:n≤O0) (hcap:n≤cap) (hk:E.toks[t]?=some k) (hv:v≤k.len)
   (hsz:∀r,r∈rows→r.length=sz)(hp:v=k.len→A4f w k.sp a n cap sz vals)
   (hr:∀(i j:Nat)(r:List AV)(x:AV),rows[i]?=some r→r[j]?=some x→Rel E w (vals i j) x)(hf:∀r,r∈rows→∀x,x∈r→NoT x):Rel E w (.slice a n cap) (.psl rows t v)
 |pp (rows:List (List AV)) (t v i o b sz n cap:Nat) (h:Rel E w (.slice (some ⟨b,0,none⟩) n cap) (.psl rows t v)) (hi:i<rows.length) (hsz:∀r,r∈rows→r.length=sz) :
   Rel E w (.pointer (some ⟨b,i*sz+o,none⟩)) (.pp rows t v i o)
theorem Flat.ok{n m:Nat}{x:AV}(h:Flat x):Ok n m x:=by
 induction h with
 |val v=>exact .val v
 |lit b=>exact .lit b
 |junk=>exact .junk
 |err=>exact .err
 |cptr cs _ ih=>exact .cptr cs ih
 |sl rows sp _ hs ih=>exact .sl rows sp ih (fun t ht=>absurd ht (hs t))
 |agg cs _ ih=>exact .agg cs ih
 |tup cs _ ih=>exact .tup cs ih
 |fn f cs _ ih=>exact .fn f cs ih
theorem Ok.flat{n m:Nat}{x:AV}(h:Ok n m x)(hn:n=0)(hm:m=0):Flat x:=by
 induction h with
 |val v=>exact .val v
 |lit b=>exact .lit b
 |junk=>exact .junk
 |err=>exact .err
 |tagN te b h=>omega
 |buf te s t h=>omega
 |dat te s t h=>omega
 |ptr b r o h=>omega
 |cptr cs _ ih=>exact .cptr cs ih
 |sl rows sp _ hs ih=>exact .sl rows sp ih (fun t ht=>by have:=hs t ht;omega)
 |bsl b k h=>omega
 |bst b o k h=>omega
 |agg cs _ ih=>exact .agg cs ih
 |tup cs _ ih=>exact .tup cs ih
 |fn f cs _ ih=>exact .fn f cs ih
 |psl rows t v h hf hn _=>omega
 |pp rows t v i o h hf hn _=>omega
theorem Ok.mono{n m n' m':Nat}{x:AV}(h:Ok n m x)(hn:n≤n')(hm:m≤m'):Ok n' m' x:=by
 induction h with
 |val v=>exact .val v
 |lit b=>exact .lit b
 |junk=>exact .junk
 |err=>exact .err
 |tagN te b h=>exact .tagN te b (by omega)
 |buf te s t h=>exact .buf te s t (by omega)
 |dat te s t h=>exact .dat te s t (by omega)
 |ptr b r o h=>exact .ptr b r o (by omega)
 |cptr cs _ ih=>exact .cptr cs ih
 |sl rows sp _ hs ih=>exact .sl rows sp ih (fun t ht=>by have:=hs t ht;omega)
 |bsl b k h=>exact .bsl b k (by omega)
 |bst b o k h=>exact .bst b o k (by omega)
 |agg cs _ ih=>exact .agg cs ih
 |tup cs _ ih=>exact .tup cs ih
 |fn f cs _ ih=>exact .fn f cs ih
 |psl rows t v h hf hn ih=>exact .psl rows t v (by omega) ih hn
 |pp rows t v i o h hf hn ih=>exact .pp rows t v i o (by omega) ih hn
theorem Aa{α:Type}{l:List α}{i:Nat}{x:α}(h:l[i]?=some x):i<l.length:=by
 rcases Gu i l.length with h'|h'
 ·exact h'
 ·rw[U3 h']at h;cases h
theorem Kt{α:Type}(l:Array α){i:Nat}(h:i<l.size):∃x,l[i]?=some x:=⟨l[i],by simp[h]⟩
theorem Bw{α:Type}{l:List α}{x:α}(h:x∈l):∃i:Nat,l[i]?=some x:=by
 obtain⟨i,hi,rfl⟩:=List.getElem_of_mem h;exact⟨i,by simp[hi]⟩
theorem Rel.ok{E:Env}{w:World}{v:Value}{x:AV}(h:Rel E w v x):Ok E.boxes.length E.toks.length x:=by
 induction h with
 |val v=>exact .val v
 |lit b=>exact .lit b
 |junk v=>exact .junk
 |err t v=>exact .err
 |tagN te b blk sz h ht=>exact .tagN _ _ (Aa h)
 |buf te s t a cap k hk hn hx hs hc=>exact .buf _ _ _ (Aa hk)
 |dat te s t p k hk hn hs=>exact .dat _ _ _ (Aa hk)
 |ptr b row off blk sz h=>exact .ptr _ _ _ (Aa h)
 |cptr cs b o vals hm hc hr ih=>exact .cptr _ (fun x hx=>by obtain⟨i,hi⟩:=Bw hx;exact ih i x hi)
 |sl rows sp a n cap b o sz vals hn hx ha hsz hm hc hr hs hcap ih=>
  refine .sl _ _ (fun r hr' x hx'=>?_) (fun t ht=>?_)
  ·obtain⟨i,hi⟩:=Bw hr';obtain⟨j,hj⟩:=Bw hx';exact ih i j r x hi hj
  ·subst ht;obtain⟨k,hk,_⟩:=hs;exact Aa hk
 |bsl b blk sz n cap h hc=>exact .bsl _ _ (Aa h)
 |bst b blk sz o n cap h=>exact .bst _ _ _ (Aa h)
 |agg vs cs hl hr ih=>
  refine .agg _ (fun x hx=>?_);obtain⟨i,hi⟩:=Bw hx;obtain⟨v,hv⟩:=Kt vs (i:=i) (by rw[hl];exact Aa hi);exact ih i v x hv hi
 |tup vs cs hl hr ih=>
  refine .tup _ (fun x hx=>?_);obtain⟨i,hi⟩:=Bw hx;obtain⟨v,hv⟩:=Kt vs (i:=i) (by rw[hl];exact Aa hi);exact ih i v x hv hi
 |fn f vs cs hl hr ih=>
  refine .fn _ _ (fun x hx=>?_);obtain⟨i,hi⟩:=Bw hx;obtain⟨v,hv⟩:=Kt vs (i:=i) (by rw[hl];exact Aa hi);exact ih i v x hv hi
 |psl rows t v a n cap k sz vals hn hx hcap hk hv hsz hp hr hf ih=>
  refine .psl rows t v (Aa hk) (fun r hr' x hx'=>?_) hf;obtain⟨i,hi⟩:=Bw hr';obtain⟨j,hj⟩:=Bw hx';exact ih i j r x hi hj
 |pp rows t v i o b sz n cap h hi hsz ih=>cases ih with|psl _ _ _ ht hf hn=>exact .pp rows t v i o ht hf hn
theorem Rel.pp_inv{E:Env}{w:World}{v:Value}{rows:List (List AV)}{t ver i o:Nat}(h:Rel E w v (.pp rows t ver i o)) :
 ∃b sz n cap,v=.pointer (some ⟨b,i*sz+o,none⟩)∧Rel E w (.slice (some ⟨b,0,none⟩) n cap) (.psl rows t ver)∧i<rows.length∧∀r,r∈rows→r.length=sz:=by
 cases h with
 |pp _ _ _ _ _ b sz n cap h hi hsz=>exact⟨b,sz,n,cap,rfl,h,hi,hsz⟩
structure Evol (E:Env)(w:World)(E':Env)(w':World)(n m:Nat):Prop where
 fr:E'.fr=E.fr
 boxes:∀i:Nat,i<n→i<E.boxes.length→i<E'.boxes.length∧∀x,E.boxes[i]?=some (some x)→E'.boxes[i]?=some (some x)
 toks:∀t:Nat,t<m→∀k:Tk,E.toks[t]?=some k→∃k',E'.toks[t]?=some k'∧(k'=k∨k.len<k'.len)
 os:w'.os=w.os
 tape:w'.tape=w.tape
 output:w'.output=w.output
 size:w.heap.size≤w'.heap.size
 block:∀k:Nat,k<w.heap.size→¬E.own k→w'.heap[k]?=w.heap[k]?
 cell:∀b o v,¬E.mt b o→w.cell? ⟨b,o,none⟩=some v→w'.cell? ⟨b,o,none⟩=some v
 mt:∀b o,b<w.heap.size→E'.mt b o→E.mt b o
 own:∀b,b<w.heap.size→E'.own b→E.own b
 df:E'.df=E.df
 ty:∀b e,Fu w b=some e→Fu w' b=some e
 pv:∀t:Nat,t<m→∀(k:Tk) (b c:Nat),E.toks[t]?=some k→k.sp=some (b,c,0)→E'.toks[t]?=some k→∀o,w.heap[b]?=some o→w'.heap[b]?=some o
theorem N6{w:World}{b:Nat}{o:Obj}(h:w.heap[b]?=some o):b<w.heap.size:=by
 rcases Gu b w.heap.size with h'|h'
 ·exact h'
 ·rw[Abs h']at h;cases h
theorem Jf{w:World}{b o:Nat}{v:Value}(h:w.cell? ⟨b,o,none⟩=some v):b<w.heap.size:=by
 unfold World.cell? at h;rcases Gu b w.heap.size with h'|h'
 ·exact h'
 ·simp[Abs h']at h
theorem Evol.refl(E:Env)(w:World)(n m:Nat):Evol E w E w n m:=
 ⟨rfl,fun _ _ h=>⟨h,fun _ h=>h⟩,fun _ _ k h=>⟨k,h,.inl rfl⟩,rfl,rfl,rfl,Bo _,fun _ _ _=>rfl,fun _ _ _ _ h=>h,fun _ _ _ h=>h,fun _ _ h=>h,rfl,fun _ _ h=>h,fun _ _ _ _ _ _ _ _ _ h=>h⟩
theorem Evol.trans{E E' E'':Env}{w w' w'':World}{n m:Nat}(h:Evol E w E' w' n m)(k:Evol E' w' E'' w'' n m):Evol E w E'' w'' n m where
 fr:=k.fr.trans h.fr
 boxes i hi hl:=let ⟨h1,h2⟩:=h.boxes i hi hl;let ⟨h3,h4⟩:=k.boxes i hi h1;⟨h3,fun x hx=>h4 x (h2 x hx)⟩
 toks t ht x hx:=by
  obtain⟨y,hy,h1⟩:=h.toks t ht x hx;obtain⟨z,hz,h2⟩:=k.toks t ht y hy;refine⟨z,hz,?_⟩;rcases h1 with rfl|h1<;>rcases h2 with rfl|h2
  ·exact .inl rfl
  ·exact .inr h2
  ·exact .inr h1
  ·exact .inr (by omega)
 os:=k.os.trans h.os
 tape:=k.tape.trans h.tape
 output:=k.output.trans h.output
 size:=Nt h.size k.size
 block i hi ho:=by
  have h1:=h.block i hi ho;rw[←h1];exact k.block i (Mx hi h.size) (fun hh=>ho (h.own i hi hh))
 cell b o v hm hc:=by
  have hb:=Jf hc;exact k.cell b o v (fun hh=>hm (h.mt b o hb hh)) (h.cell b o v hm hc)
 mt b o hb hh:=h.mt b o hb (k.mt b o (Mx hb h.size) hh)
 own b hb hh:=h.own b hb (k.own b (Mx hb h.size) hh)
 df:=k.df.trans h.df
 ty b e he:=k.ty b e (h.ty b e he)
 pv t ht x b c h1 h2 h3 o ho:=by
  obtain⟨y,hy,h4⟩:=h.toks t ht x h1;obtain⟨z,hz,h5⟩:=k.toks t ht y hy;rw[h3]at hz;cases hz;have:y=x:=by
   rcases h4 with h4|h4
   ·exact h4
   ·rcases h5 with h5|h5
    ·exact h5.symm
    ·omega
  subst this;exact k.pv t ht _ b c hy h2 h3 o (h.pv t ht _ b c h1 h2 hy o ho)
theorem Evol.weaken{E E':Env}{w w':World}{n m n' m':Nat}(h:Evol E w E' w' n m)(hn:n'≤n)(hm:m'≤m):Evol E w E' w' n' m':=
 { h with boxes:=fun i hi=>h.boxes i (by omega),toks:=fun t ht=>h.toks t (by omega),pv:=fun t ht=>h.pv t (by omega) }
theorem BufAt.move{E E':Env}{w w':World}(evc:∀b o v,¬E.mt b o→w.cell? ⟨b,o,none⟩=some v→w'.cell? ⟨b,o,none⟩=some v)(evm:∀b o,b<w.heap.size→E'.mt b o→E.mt b o)
 (evs:∀b e,Fu w b=some e→Fu w' b=some e){te:Nat}{s:List UInt8}{k:Tk}{p:Option Addr}{cap:Nat}(h:BufAt E w te s k p cap):BufAt E' w' te s k p cap:=by
 unfold BufAt at h⊢;split at h
 ·exact h
 ·obtain⟨h1,h2,h3,h4,h5,h6⟩:=h;refine⟨h1,h2,h3,evs _ _ h4,fun j hj hh=>?_,fun j x hx=>?_⟩
  ·obtain⟨x,hx⟩:∃x,s[j]?=some x:=⟨s[j],by simp[hj]⟩
   exact h5 j hj (evm _ _ (Jf (h6 j x hx)) hh)
  ·exact evc _ _ _ (h5 j (Aa hx)) (h6 j x hx)
theorem Rel.move{E E':Env}{w w':World}{n m:Nat}(evb:∀i:Nat,i<n→i<E.boxes.length→i<E'.boxes.length∧∀x,E.boxes[i]?=some (some x)→E'.boxes[i]?=some (some x))
 (evt:∀t:Nat,t<m→∀k:Tk,E.toks[t]?=some k→∃k',E'.toks[t]?=some k'∧(k'=k∨k.len<k'.len))
 (evc:∀b o v,¬E.mt b o→w.cell? ⟨b,o,none⟩=some v→w'.cell? ⟨b,o,none⟩=some v)
 (evm:∀b o,b<w.heap.size→E'.mt b o→E.mt b o)(evs:∀b e,Fu w b=some e→Fu w' b=some e)
 (evp:∀t:Nat,t<m→∀(k:Tk)(b c:Nat),E.toks[t]?=some k→k.sp=some (b,c,0)→E'.toks[t]?=some k→∀o,w.heap[b]?=some o→w'.heap[b]?=some o){v:Value}{x:AV}(h:Rel E w v x)(ho:Ok n m x):Rel E' w' v x:=by
 induction h with
 |val v=>exact .val v
 |lit b=>exact .lit b
 |junk v=>exact .junk v
 |err t v=>exact .err t v
 |tagN te b blk sz h ht=>cases ho with|tagN _ _ hb=>exact .tagN _ _ _ _ ((evb b hb (Aa h)).2 _ h) (evs _ _ ht)
 |buf te s t a cap k hk hn hx hs hc=>
  cases ho with
  |buf _ _ _ ht=>
   obtain⟨k',hk',h'⟩:=evt t ht k hk;refine .buf te s t a cap k' hk' ?_ hx (fun hl=>?_) hc
   ·rcases h' with rfl|h'<;>omega
   ·rcases h' with rfl|h'
    ·exact BufAt.move evc evm evs (hs hl)
    ·omega
 |dat te s t p k hk hn hs=>
  cases ho with
  |dat _ _ _ ht=>
   obtain⟨k',hk',h'⟩:=evt t ht k hk;refine .dat te s t p k' hk' ?_ (fun hl h0=>?_)
   ·rcases h' with rfl|h'<;>omega
   ·rcases h' with rfl|h'
    ·obtain⟨cap,hb⟩:=hs hl h0;exact⟨cap,BufAt.move evc evm evs hb⟩
    ·omega
 |ptr b row off blk sz h=>cases ho with|ptr _ _ _ hb=>exact .ptr _ _ _ _ _ ((evb b hb (Aa h)).2 _ h)
 |cptr cs b o vals hm hc hr ih=>
  cases ho with
  |cptr _ ho=>
   refine .cptr cs b o vals (fun j hj hh=>hm j hj (evm b _ (Jf (hc j hj)) hh)) (fun j hj=>evc _ _ _ (hm j hj) (hc j hj)) (fun j x hx=>?_);exact ih j x hx (ho x (Bh hx))
 |sl rows sp a n' cap b o sz vals hn hx ha hsz hm hc hr hs hcap ih=>
  cases ho with
  |sl _ _ ho hso=>
   refine .sl rows sp a n' cap b o sz vals hn hx ha hsz (fun i j hi hj hh=>hm i j hi hj (evm b _ (Jf (hc i j hi hj)) hh))
    (fun i j hi hj=>evc _ _ _ (hm i j hi hj) (hc i j hi hj)) (fun i j r x hr' hx'=>?_) ?_ hcap
   ·exact ih i j r x hr' hx' (ho r (Bh hr') x (Bh hx'))
   ·cases sp with
    |no=>trivial
    |tight=>exact hs
    |tok t=>
     obtain⟨k,hk,hle,hkk⟩:=hs;obtain⟨k',hk',h'⟩:=evt t (hso t rfl) k hk;refine⟨k',hk',?_,?_⟩
     ·rcases h' with rfl|h'<;>omega
     ·intro hnn;rcases h' with rfl|h'
      ·exact hkk hnn
      ·omega
 |bsl b blk sz n cap h hc=>cases ho with|bsl _ _ hb=>exact .bsl _ _ _ _ _ ((evb b hb (Aa h)).2 _ h) hc
 |bst b blk sz o n cap h=>cases ho with|bst _ _ _ hb=>exact .bst _ _ _ _ _ _ ((evb b hb (Aa h)).2 _ h)
 |agg vs cs hl hr ih=>cases ho with|agg _ ho=>exact .agg vs cs hl (fun j v x hv hx=>ih j v x hv hx (ho x (Bh hx)))
 |tup vs cs hl hr ih=>cases ho with|tup _ ho=>exact .tup vs cs hl (fun j v x hv hx=>ih j v x hv hx (ho x (Bh hx)))
 |fn f vs cs hl hr ih=>cases ho with|fn _ _ ho=>exact .fn f vs cs hl (fun j v x hv hx=>ih j v x hv hx (ho x (Bh hx)))
 |psl rows t v a n' cap k sz vals hn hx hcap hk hv hsz hp hr hf ih=>
  cases ho with
  |psl _ _ _ ht ho _=>
   obtain⟨k',hk',h'⟩:=evt t ht k hk;refine .psl rows t v a n' cap k' sz vals hn hx hcap hk' ?_ hsz (fun hl=>?_) (fun i j r x h1 h2=>ih i j r x h1 h2 (ho r (Bh h1) x (Bh h2))) hf
   ·rcases h' with rfl|h'<;>omega
   ·rcases h' with rfl|h'
    ·have hp:=hp hl;obtain⟨kl,ksp⟩:=k';cases ksp with
     |none=>exact hp
     |some q=>
      obtain⟨b,c,s⟩:=q;obtain⟨h1,rfl,h2,h3,cs,e,h4,h5⟩:=hp;exact⟨h1,rfl,h2,h3,cs,e,evp t ht _ b c hk rfl hk' _ h4,h5⟩
    ·omega
 |pp rows t v i o b sz n' cap h hi hsz ih=>
  cases ho with
  |pp _ _ _ _ _ ht hf hn=>exact .pp rows t v i o b sz n' cap (ih (.psl _ _ _ ht hf hn)) hi hsz
theorem Rel.mono{E E':Env}{w w':World}{n m:Nat}(ev:Evol E w E' w' n m){v:Value}{x:AV}(h:Rel E w v x)(ho:Ok n m x):Rel E' w' v x:=
 h.move ev.boxes ev.toks ev.cell ev.mt ev.ty ev.pv ho
theorem Rel.step{E E':Env}{w w':World}(ev:Evol E w E' w' E.boxes.length E.toks.length){v:Value}{x:AV}(h:Rel E w v x):Rel E' w' v x:=h.mono ev h.ok
structure St where
 boxes:List (List (List AV))
 toks:List Nat
inductive TK where
 |flat
 |int (k:IntKind)
 |string
 |bool
 |str (fs:List (Nat×Nat))
 |arr (n e:Nat)
 |slc (e:Nat)
structure Ty where
 size:Nat
 k:TK
 zero:List AV
 fa:List Bool:=[]
def Ib:Value→AV
 |.slice none 0 0=>.sl [] .tight
 |v=>.val v
def An5:Value→AV
 |.agg cs=>.agg (cs.toList.map Ib)
 |v=>Ib v
def Gd:TK→Bool
 |.str _=>true
 |.arr _ _=>true
 |_=>false
structure TyOk (P:Program)(t:TypeId)(y:Ty)(ty:Nat→Option Ty):Prop where
 info:∃i z,P.info? t=some i∧i.size=y.size∧i.bytes≤1024∧i.zero=some z∧z.cells.toList.map Ib=y.zero∧y.zero.length=y.size∧(Gd y.k=false→y.size=1)
 agg:∃d,P.underlying t=some d∧(match y.k with
  |.str fs=>∃fields:Array Field,d=.struct fields∧fields.toList.mapM (fun f=>(P.info? f.type).map fun i=>(f.offset,i.size))=some fs∧∀i off sz:Nat,fs[i]?=some (off,sz)→∃f i',fields[i]?=some f∧f.offset=off∧P.info? f.type=some i'∧i'.size=sz∧sz≠0∧off+sz≤y.size∧(∀g,y.fa[i]?=some g→∃d',P.underlying f.type=some d'∧(g=true↔((∃fs',d'=.struct fs')∨∃n' e',d'=.array n' e')))
  |.arr n e=>d=.array n e∧∃ye,ty e=some ye∧n*ye.size=y.size∧ye.size≠0
  |.slc e=>d=.slice e∧∃ye,ty e=some ye∧ye.size≠0
  |.int k=>d=.int k
  |.string=>d=.string
  |.bool=>d=.bool
  |.flat=>(∀fs,d≠.struct fs)∧(∀n e,d≠.array n e))
structure Cx where
 P:Program
 ty:Nat→Option Ty
 G:Nat→Option (List AV)
 K0:Nat
 Glob:World→Prop
 ty_ok:∀t y,ty t=some y→TyOk P t y ty
 glob_st:∀w w':World,(∀k,k<K0→w'.heap[k]?=w.heap[k]?)→K0≤w.heap.size→w'.os=w.os→Glob w→Glob w'
 glob_G:∀w,Glob w→∀g cells,G g=some cells→g<K0∧∀(j:Nat) (x:AV),cells[j]?=some x→∃v,w.cell? ⟨g,j,none⟩=some v∧x=.val v
 mixed:P.follows .mixedOrders=true
def Agk(E:Env)(w:World)(b sz:Nat)(rows:List (List AV)):Prop:=
 ∃cs e,w.heap[b]?=some (.cells cs e (0,0))∧cs.size=rows.length*sz∧(∀r,r∈rows→r.length=sz) ∧
  ∀(k:Nat) (r:List AV) (j:Nat) (x:AV) (v:Value),rows[k]?=some r→r[j]?=some x→cs[k*sz+j]?=some v→Rel E w v x
structure Inv (X:Cx)(E:Env)(S:St)(w:World):Prop where
 nb:E.boxes.length=S.boxes.length
 nt:E.toks.map Tk.len=S.toks
 np:∀i:Nat,i<E.boxes.length→∃q,E.boxes[i]?=some (some q)
 box:∀(i b sz:Nat) (rows:List (List AV)),E.boxes[i]?=some (some (b,sz))→S.boxes[i]?=some rows→Agk E w b sz rows
 tok:∀(t l b c sz:Nat),E.toks[t]?=some (Tk.mk l (some (b,c,sz)))→(sz≠0→l≤c)∧l≠0∧∃cs e,w.heap[b]?=some (.cells cs e (0,0))∧(sz≠0→cs.size=c*sz)
 bb:∀(i j b s s':Nat),E.boxes[i]?=some (some (b,s))→E.boxes[j]?=some (some (b,s'))→i=j
 bt:∀(i t b s l c sz:Nat),E.boxes[i]?=some (some (b,s))→E.toks[t]?=some (Tk.mk l (some (b,c,sz)))→False
 tt:∀(i j b l c s l' c' s':Nat),E.toks[i]?=some (Tk.mk l (some (b,c,s)))→E.toks[j]?=some (Tk.mk l' (some (b,c',s')))→i=j
 frlt:∀b o,E.fr b o→¬E.own b∧b<w.heap.size
 lo:∀b,E.own b→X.K0≤b
 frlo:∀b o,E.fr b o→X.K0≤b
 sz:X.K0≤w.heap.size
 glob:X.Glob w
theorem Tt{X:Cx}{E:Env}{S:St}{w:World}(hI:Inv X E S w){b o:Nat}(h:E.mt b o):E.own b∨E.fr b o:=by
 rcases h with h|⟨i,s,h⟩|⟨t,l,c,s,h,_⟩
 ·exact .inr h
 ·exact .inl (.inl ⟨i,s,h⟩)
 ·exact .inl (.inr ⟨t,l,c,s,h⟩)
theorem Inv.own_lt{X:Cx}{E:Env}{S:St}{w:World}(hI:Inv X E S w){b:Nat}(h:E.own b):b<w.heap.size:=by
 have key:∀{o:Obj},w.heap[b]?=some o→b<w.heap.size:=fun h=>by
  rcases Gu b w.heap.size with h'|h'
  ·exact h'
  ·rw[Abs h']at h;cases h
 rcases h with⟨i,s,h⟩|⟨t,l,c,s,h⟩
 ·have hi:i<S.boxes.length:=by rw[←hI.nb];exact Aa h
  obtain⟨cs,e,hh,_⟩:=hI.box i b s S.boxes[i] h (by simp[hi]);exact key hh
 ·obtain⟨_,_,cs,e,hh,_⟩:=hI.tok t l b c s h;exact key hh
abbrev C3:=List (Nat×AV)
def lk:C3→Nat→Option AV
 |[],_=>none
 |(k,x)::F,n=>match Nat.beq k n with
  |true=>some x
  |false=>lk F n
def Tm{α:Type}:List α→Nat→Option α
 |[],_=>none
 |a::_,0=>some a
 |_::l,n+1=>Tm l n
def Ni{R:Type}:Nat→List AV→(List AV→Option R)→Option R
 |0,_,k=>k []
 |n+1,a::l,k=>Ni n l fun t=>k (a::t)
 |_+1,[],_=>none
def Ou{R:Type}:Nat→List AV→(List AV→Option R)→Option R
 |0,l,k=>k l
 |n+1,_::l,k=>Ou n l k
 |_+1,[],_=>none
def Wb{R:Type}:List AV→Nat→List AV→(List AV→Option R)→Option R
 |l,0,[],k=>k l
 |a::l,0,x::xs,k=>Wb l 0 xs fun t=>k (x::t)
 |a::l,n+1,xs,k=>Wb l n xs fun t=>k (a::t)
 |[],0,_::_,_=>none
 |[],_+1,_,_=>none
def Xq{α R:Type}:List α→Nat→α→(List α→Option R)→Option R
 |_::l,0,x,k=>k (x::l)
 |a::l,n+1,x,k=>Xq l n x fun t=>k (a::t)
 |[],_,_,_=>none
def Aj7{α R:Type}:List α→α→(List α→Option R)→Option R
 |[],x,k=>k [x]
 |a::l,x,k=>Aj7 l x fun t=>k (a::t)
def Aac{α:Type}:List α→Nat
 |[]=>0
 |[_]=>1
 |[_,_]=>2
 |[_,_,_]=>3
 |[_,_,_,_]=>4
 |[_,_,_,_,_]=>5
 |[_,_,_,_,_,_]=>6
 |[_,_,_,_,_,_,_]=>7
 |[_,_,_,_,_,_,_,_]=>8
 |[_,_,_,_,_,_,_,_,_]=>9
 |[_,_,_,_,_,_,_,_,_,_]=>10
 |l=>l.length
def Api:Nat→Nat→Nat
 |0,b=>b
 |a+1,b=>a+1+b
def Iy:AV→Bool
 |.val (.agg _)=>false
 |.val (.tuple _)=>false
 |.val _=>true
 |.ptr _ _ _=>true
 |.cptr _=>true
 |.tagN _ _=>true
 |.buf _ _ _=>true
 |.dat _ _ _=>true
 |.psl _ _ _=>true
 |.pp _ _ _ _ _=>true
 |.sl _ _=>true
 |.bsl _ _=>true
 |.bst _ _ _=>false
 |.fn _ _=>true
 |.lit _=>true
 |.agg _=>false
 |.tup _=>false
 |.junk=>false
 |.err=>true
def Jo:List AV→Bool
 |[]=>true
 |x::l=>match Iy x with
  |true=>Jo l
  |false=>false
def cellsOf:AV→Option (List AV)
 |.agg cs=>match Jo cs with
  |true=>some cs
  |false=>none
 |x=>match Iy x with
  |true=>some [x]
  |false=>none
def V6(agg:Bool)(cs:List AV):Option AV:=
 match agg with
 |true=>some (.agg cs)
 |false=>match cs with
  |[x]=>some x
  |_=>none
def Azv:AV→Option Value
 |.val v=>some v
 |_=>none
def Aau:List AV→Option (List Value)
 |[]=>some []
 |x::l=>match Azv x with
  |some v=>match Aau l with
   |some vs=>some (v::vs)
   |none=>none
  |none=>none
def Dt(X:Cx)(F:C3):Operand→Option AV
 |.tmp t=>match lk F t with
  |some (.lit b)=>some (.val (.bool b))
  |x=>x
 |.const v=>match An5 v with
  |.val u=>some (.val u)
  |x=>some x
 |.global g=>match X.G g with
  |some cs=>some (.cptr cs)
  |none=>none
 |.func f=>some (.fn f [])
def Hk(X:Cx)(F:C3):List Operand→Option (List AV)
 |[]=>some []
 |o::l=>match Dt X F o with
  |some x=>match Hk X F l with
   |some xs=>some (x::xs)
   |none=>none
  |none=>none
def Tf(S:St)(sz:Nat)(agg:Bool):AV→Option AV
 |.ptr b r o=>match Tm S.boxes b with
  |some rows=>match Tm rows r with
   |some cs=>Ou o cs fun c=>Ni sz c fun c'=>V6 agg c'
   |none=>none
  |none=>none
 |.cptr cs=>Ni sz cs fun c'=>V6 agg c'
 |_=>none
def Ux(S:St)(sz:Nat)(a x:AV):Option St:=
 match a with
 |.ptr b r o=>match cellsOf x with
  |some xs=>match Nat.beq xs.length sz with
   |true=>match S with
    |⟨bx,tk⟩=>match Tm bx b with
     |some rows=>match Tm rows r with
      |some cs=>Wb cs o xs fun cs'=>Xq rows r cs' fun rows'=>Xq bx b rows' fun bs=>some ⟨bs,tk⟩
      |none=>none
     |none=>none
   |false=>none
  |none=>none
 |_=>none
def Yq(X:Cx)(F:C3)(fs:List (Nat×Nat)):List (Nat×Operand)→List AV→Option AV
 |[],cs=>some (.agg cs)
 |(i,o)::ps,cs=>match Tm fs i with
  |some (off,sz)=>match Dt X F o with
   |some x=>match cellsOf x with
    |some xs=>match Nat.beq xs.length sz with
     |true=>Wb cs off xs fun cs'=>Yq X F fs ps cs'
     |false=>none
    |none=>none
   |none=>none
  |none=>none
def Se(X:Cx)(F:C3)(sz:Nat):List (Nat×Operand)→List (List AV)→Option AV
 |[],rows=>some (.sl rows .tight)
 |(i,o)::ps,rows=>match Dt X F o with
    |some x=>match cellsOf x with
     |some xs=>match Nat.beq xs.length sz with
      |true=>Xq rows i xs fun rows'=>Se X F sz ps rows'
      |false=>none
     |none=>none
    |none=>none
def Aum{α R:Type}:Nat→α→(List α→Option R)→Option R
 |0,_,k=>k []
 |n+1,a,k=>Aum n a fun l=>k (a::l)
def Awb:List AV→List AV→(List AV→Option (List AV))→Option (List AV)
 |[],l,k=>k l
 |x::xs,l,k=>Awb xs l fun t=>k (x::t)
def Kb(xs caps:List AV):Option (List AV):=
 match caps with
 |[]=>some xs
 |l=>Awb xs l some
def As5(op:BinOp)(k:IntKind)(a b:Int)(yc:Bool):Option Value:=
 match op with
 |.add=>some (.int k (k.wrap (a+b)))
 |.sub=>some (.int k (k.wrap (a-b)))
 |.mul=>some (.int k (k.wrap (a*b)))
 |.quo=>match yc with
  |true=>match decide (b=0)with
   |false=>some (.int k (k.wrap (a.tdiv b)))
   |true=>none
  |false=>none
 |.rem=>match yc with
  |true=>match decide (b=0)with
   |false=>some (.int k (a.tmod b))
   |true=>none
  |false=>none
 |.eql=>some (.bool (a==b))
 |.neq=>some (.bool (a != b))
 |.lss=>some (.bool (decide (a<b)))
 |.leq=>some (.bool (decide (a≤b)))
 |.gtr=>some (.bool (decide (a>b)))
 |.geq=>some (.bool (decide (a≥b)))
 |_=>none
def Azt(op:BinOp)(a b:ByteArray):Option Value:=
 match op with
 |.eql=>some (.bool (a.data.toList==b.data.toList))
 |.neq=>some (.bool (!(a.data.toList==b.data.toList)))
 |_=>none
def Aw6:Operand→Bool
 |.const _=>true
 |_=>false
def A0a(op:BinOp)(yc:Bool):AV→AV→Option AV
 |.val (.int k a),.val (.int k' b)=>match decide (k=k')with
  |true=>match As5 op k a b yc with
   |some v=>some (.val v)
   |none=>none
  |false=>none
 |.val (.string a),.val (.string b)=>match Azt op a b with
  |some v=>some (.val v)
  |none=>none
 |_,_=>none
def A0b(op:BinOp)(k:TK):AV→AV→Option AV
 |.val (.bool a),.val (.bool b)=>match k with
  |.bool=>match op with
   |.eql=>some (.val (.bool (a==b)))
   |.neq=>some (.val (.bool (!(a==b))))
   |_=>none
  |_=>none
 |_,_=>none
def unA(op:UnOp):AV→Option AV
 |.val (.bool b)=>match op with
  |.not=>some (.val (.bool (!b)))
  |_=>none
 |.val (.int k n)=>match op with
  |.neg=>some (.val (.int k (k.wrap (-n))))
  |_=>none
 |_=>none
def A1f:AV→Option AV
 |.ptr b r o=>some (.ptr b r o)
 |.cptr cs=>some (.cptr cs)
 |.fn f c=>some (.fn f c)
 |_=>none
def A09(S:St)(k:TK):AV→Option AV
 |.sl rows _=>match k with
  |.slc _=>some (.val (.int .i64 rows.length))
  |_=>none
 |.val (.string s)=>match k with
  |.string=>some (.val (.int .i64 s.size))
  |_=>none
 |.bsl _ n=>match k with
  |.slc _=>some (.val (.int .i64 n))
  |_=>none
 |.psl rows _ _=>match k with
  |.slc _=>some (.val (.int .i64 rows.length))
  |_=>none
 |_=>none
def Q0(X:Cx)(t:Nat):Option (Nat×Bool):=
 match X.ty t with
 |some y=>some (y.size,Gd y.k)
 |none=>none
def Ec(X:Cx)(F:C3)(S:St):Op→Option AV
 |.move x=>Dt X F x
 |.assign x=>Dt X F x
 |.pick (.tmp c) a b=>match lk F c with
  |some (.lit true)=>Dt X F a
  |some (.lit false)=>Dt X F b
  |some (.val (.bool e))=>match Dt X F a with
   |some (.val (.bool p))=>match Dt X F b with
    |some (.val (.bool q))=>some (.val (.bool (cond e p q)))
    |_=>none
   |_=>none
  |_=>none
 |.build t ps=>match X.ty t with
  |some y=>match y.k with
   |.str fs=>Yq X F fs ps.toList y.zero
   |_=>none
  |none=>none
 |.load t a=>match Q0 X t with
  |some (sz,agg)=>match Dt X F a with
   |some x=>Tf S sz agg x
   |none=>none
  |none=>none
 |.nilCheck x=>match Dt X F x with
  |some y=>A1f y
  |none=>none
 |.binOp op t x y _=>match Dt X F x with
  |some a=>match Dt X F y with
   |some b=>match A0a op (Aw6 y) a b with
    |some r=>some r
    |none=>match X.ty t with
     |some yt=>A0b op yt.k a b
     |none=>none
   |none=>none
  |none=>none
 |.unOp op _ x=>match Dt X F x with
  |some a=>unA op a
  |none=>none
 |.convert src dst x=>match X.ty src with
  |some _=>match X.ty dst with
   |some y=>match Dt X F x with
    |some (.val (.int _ n))=>match y.k with
     |.int k=>some (.val (.int k (k.wrap n)))
     |_=>none
    |_=>none
   |none=>none
  |none=>none
 |.makeFunc (.func f) first cap=>match first.toList with
  |[]=>match Hk X F cap.toList with
   |some cs=>some (.fn f cs)
   |none=>none
  |_=>none
 |.fieldAddr s x f=>match X.ty s with
  |some y=>match y.k with
   |.str fs=>match Tm fs f with
    |some (off,_)=>match Dt X F x with
     |some (.ptr b r 0)=>some (.ptr b r off)
     |some (.ptr b r o)=>some (.ptr b r (Api o off))
     |some (.cptr cs)=>Ou off cs fun c=>some (.cptr c)
     |some (.pp rows t v i o)=>some (.pp rows t v i (Api o off))
     |_=>none
    |none=>none
   |_=>none
  |none=>none
 |.field s x f=>match X.ty s with
  |some y=>match y.k with
   |.str fs=>match Tm fs f with
    |some (off,sz)=>match Tm y.fa f with
     |some agg=>match Dt X F x with
      |some (.agg cs)=>Ou off cs fun c=>Ni sz c fun c'=>V6 agg c'
      |_=>none
     |none=>none
    |none=>none
   |_=>none
  |none=>none
 |.indexAddr t x (.const (.int _ i))=>match X.ty t with
  |some y=>match y.k with
   |.arr n e=>match X.ty e with
    |some ye=>match decide (0≤i)with
     |true=>match decide (i<(n:Int))with
      |true=>match Dt X F x with
       |some (.ptr b r o)=>some (.ptr b r (Api o (i.toNat*ye.size)))
       |_=>none
      |false=>none
     |false=>none
    |none=>none
   |_=>none
  |none=>none
 |.extract t i=>match Dt X F t with
  |some (.tup vs)=>Tm vs i
  |_=>none
 |.call c=>match c.callee with
  |.builtin .len=>match c.args.toList with
   |[x]=>match c.argTypes.toList with
    |[t]=>match X.ty t with
     |some y=>match Dt X F x with
      |some a=>A09 S y.k a
      |none=>none
     |none=>none
    |_=>none
   |_=>none
  |.builtin .max=>match Hk X F c.args.toList with
   |some [.val (.int k a),.val (.int _ b)]=>some (.val (.int k (if b>a then b else a)))
   |_=>none
  |.builtin .min=>match Hk X F c.args.toList with
   |some [.val (.int k a),.val (.int _ b)]=>some (.val (.int k (if b<a then b else a)))
   |_=>none
  |_=>none
 |_=>none
def Kg(X:Cx)(F:C3)(S:St):Op→Option (AV×St)
 |.alloc t=>match X.ty t with
  |some ⟨_,_,z,_⟩=>match S with
   |⟨bx,tk⟩=>Aj7 bx [z] fun bs=>some (.ptr (Aac bx) 0 0,⟨bs,tk⟩)
  |none=>none
 |.box _ x=>match Dt X F x with
  |some a=>match cellsOf a with
   |some cs=>match S with
    |⟨bx,tk⟩=>Aj7 bx [cs] fun bs=>some (.ptr (Aac bx) 0 0,⟨bs,tk⟩)
   |none=>none
  |none=>none
 |.buildSlice t n ps=>match X.ty t with
  |some y=>match y.k with
   |.slc e=>match X.ty e with
    |some ye=>match Nat.ble (n*ye.size) 1000000 with
     |true=>match Aum n ye.zero (fun rows=>Se X F ye.size ps.toList rows)with
      |some a=>some (a,S)
      |none=>none
     |false=>none
    |none=>none
   |_=>none
  |none=>none
 |_=>none
def Alh(X:Cx)(N:Nat)(F:C3)(S:St)(o:Oper):Option (C3×St):=
 match o.op with
 |.store t a x=>match o.dst with
  |none=>match Q0 X t with
   |some (sz,_)=>match Dt X F a with
    |some a'=>match Dt X F x with
     |some x'=>match Ux S sz a' x' with
      |some S'=>some (F,S')
      |none=>none
     |none=>none
    |none=>none
   |none=>none
  |some _=>none
 |op=>match o.dst with
  |some d=>match Nat.blt d N with
   |true=>match Ec X F S op with
    |some x=>some ((d,x)::F,S)
    |none=>match Kg X F S op with
     |some (x,S')=>some ((d,x)::F,S')
     |none=>none
   |false=>none
  |none=>none
def A6(ops:Array Oper)(F:C3)(o:Oper):Option Bool:=
 match o.guard with
 |none=>some true
 |some (j,want)=>match ops[j]? with
  |some oj=>match oj.dst with
   |some t=>match lk F t with
    |some (.lit true)=>some want
    |some (.lit false)=>some (!want)
    |some (.val (.tuple _))=>some false
    |_=>none
   |none=>none
  |none=>none
def ev(X:Cx)(N:Nat):Nat→List Item→C3→St→List Item×C3×St
 |0,K,F,S=>(K,F,S)
 |n+1,K,F,S=>match K with
  |.code .skip::k=>ev X N n k F S
  |.code (.label _)::k=>ev X N n k F S
  |.inBlock _::k=>ev X N n k F S
  |.inScope _::k=>ev X N n k F S
  |.code (.seq a b)::k=>ev X N n (.code a::.code b::k) F S
  |.code (.block id c)::k=>ev X N n (.code c::.inBlock id::k) F S
  |.code (.exit id)::k=>match exitTo id k with
   |some k'=>ev X N n k' F S
   |none=>(K,F,S)
  |.code (.cond (.tmp c) a b)::k=>match lk F c with
   |some (.lit true)=>ev X N n (.code a::k) F S
   |some (.lit false)=>ev X N n (.code b::k) F S
   |_=>(K,F,S)
  |.code (.region _ ops false)::k=>ev X N n (.inRegion ops (List.range ops.size)::k) F S
  |.inRegion _ []::k=>ev X N n k F S
  |.inRegion ops (i::l)::k=>match ops[i]? with
   |some o=>match A6 ops F o with
    |some true=>match Alh X N F S o with
     |some (F',S')=>ev X N n (.inRegion ops l::k) F' S'
     |none=>(K,F,S)
    |some false=>match o.dst with
     |some d=>match Nat.blt d N with
      |true=>ev X N n (.inRegion ops l::k) ((d,.val (.tuple #[]))::F) S
      |false=>(K,F,S)
     |none=>ev X N n (.inRegion ops l::k) F S
    |none=>(K,F,S)
   |none=>(K,F,S)
  |_=>(K,F,S)
theorem H7{α:Type}:∀(l:List α)(i:Nat),Tm l i=l[i]?
 |[],_=>by simp[Tm]
 |a::l,0=>by simp[Tm]
 |a::l,i+1=>by simp[Tm,H7 l i]
theorem Y5{R:Type}:∀(n:Nat)(l:List AV)(k:List AV→Option R)(r:R),Ni n l k=some r→n≤l.length∧k (l.take n)=some r
 |0,l,k,r,h=>by simpa[Ni]using h
 |n+1,[],k,r,h=>by simp[Ni]at h
 |n+1,a::l,k,r,h=>by
  have:=Y5 n l _ r (by simpa[Ni]using h);exact⟨by simp;omega,by simpa using this.2⟩
theorem Ye{R:Type}:∀(n:Nat)(l:List AV)(k:List AV→Option R)(r:R),Ou n l k=some r→n≤l.length∧k (l.drop n)=some r
 |0,l,k,r,h=>by simpa[Ou]using h
 |n+1,[],k,r,h=>by simp[Ou]at h
 |n+1,a::l,k,r,h=>by
  have:=Ye n l k r (by simpa[Ou]using h);exact⟨by simp;omega,by simpa using this.2⟩
theorem Ab5{R:Type}:∀(l:List AV)(n:Nat)(xs:List AV)(k:List AV→Option R)(r:R),Wb l n xs k=some r →
 n+xs.length≤l.length∧k (l.take n++xs++l.drop (n+xs.length))=some r
 |l,0,[],k,r,h=>by
  have h':k l=some r:=by cases l<;>simpa[Wb]using h
  simpa using h'
 |a::l,0,x::xs,k,r,h=>by
  have:=Ab5 l 0 xs _ r (by simpa[Wb]using h);exact⟨by simp at this⊢;omega,by simpa using this.2⟩
 |a::l,n+1,xs,k,r,h=>by
  have:=Ab5 l n xs _ r (by simpa[Wb]using h);refine⟨by simp at this⊢;omega,?_⟩;have e:n+1+xs.length=(n+xs.length)+1:=by omega
  rw[e];simpa using this.2
 |[],0,_::_,k,r,h=>by simp[Wb]at h
 |[],n+1,xs,k,r,h=>by simp[Wb]at h
theorem Ab9{α R:Type}:∀(l:List α)(n:Nat)(x:α)(k:List α→Option R)(r:R),Xq l n x k=some r→n<l.length∧k (l.set n x)=some r
 |a::l,0,x,k,r,h=>by simpa[Xq]using h
 |a::l,n+1,x,k,r,h=>by
  have:=Ab9 l n x _ r (by simpa[Xq]using h);exact⟨by simp;omega,by simpa using this.2⟩
 |[],n,x,k,r,h=>by cases n<;>simp[Xq]at h
theorem Q4{α R:Type}:∀(l:List α)(x:α)(k:List α→Option R),Aj7 l x k=k (l++[x])
 |[],x,k=>rfl
 |a::l,x,k=>by simp[Aj7,Q4 l x]
theorem Aop{α R:Type}:∀(n:Nat)(a:α)(k:List α→Option R),Aum n a k=k (List.replicate n a)
 |0,a,k=>by simp[Aum]
 |n+1,a,k=>by simp[Aum,Aop n a,List.replicate_succ]
theorem Agx:∀(xs l:List AV)(k:List AV→Option (List AV)),Awb xs l k=k (xs++l)
 |[],l,k=>rfl
 |x::xs,l,k=>by simp[Awb,Agx xs l]
theorem Ru{xs caps zs:List AV}(h:Kb xs caps=some zs):xs++caps=zs:=by
 unfold Kb at h;split at h
 ·cases h;simp
 ·rw[Agx]at h;cases h;rfl
theorem Jz{α:Type}(l:List α):Aac l=l.length:=by
 unfold Aac;split<;>rfl
theorem Abx(a b:Nat):Api a b=a+b:=by cases a<;>simp[Api]
theorem Anl{g:Bool}{cs:List AV}{y:AV}(h:V6 g cs=some y):(g=true∧y=.agg cs)∨(g=false∧cs=[y]):=by
 unfold V6 at h;split at h
 ·cases h;exact .inl ⟨rfl,rfl⟩
 ·split at h
  ·cases h;exact .inr ⟨rfl,rfl⟩
  ·cases h
theorem Aaq{sz k r j:Nat}(hj:j<sz)(hk:k≠r):k*sz+j<r*sz∨r*sz+sz≤k*sz+j:=by
 rcases Nat.lt_or_gt_of_ne hk with h|h
 ·left
  have:(k+1)*sz≤r*sz:=Tp sz h;rw[Rf,Nat.one_mul]at this;omega
 ·right
  have:(r+1)*sz≤k*sz:=Tp sz h;rw[Rf,Nat.one_mul]at this;omega
theorem Ig{sz n r j:Nat}(hr:r<n)(hj:j<sz):r*sz+j<n*sz:=by
 have:(r+1)*sz≤n*sz:=Tp sz hr;rw[Rf,Nat.one_mul]at this;omega
structure FR (E:Env)(w:World)(F:C3)(a:Act)(N:Nat):Prop where
 size:a.tmps.size=N
 nod:a.defers=E.df
 rel:∀k x,lk F k=some x→∃v,a.tmps[k]?=some v∧Rel E w v x
theorem F9(b o n:Nat):(⟨b,o,none⟩:Addr).add n=⟨b,o+n,none⟩:=by unfold Addr.add;split<;>simp_all
section
variable {X:Cx}{E:Env}{S:St}{w:World}{F:C3}{a:Act}{N:Nat}
theorem Mu(v:Value):Rel E w v (Ib v):=by
 unfold Ib;split
 ·exact .sl [] .tight none 0 0 0 0 0 (fun _ _=>default) rfl (Cc _) (fun h=>absurd rfl h) (fun r hr=>by cases hr)
   (fun i j hi=>absurd hi (Wp _)) (fun i j hi=>absurd hi (Wp _)) (fun i j r x h=>by simp at h) rfl (Bo _)
 ·exact .val _
theorem Aqw(v:Value):Rel E w v (An5 v):=by
 unfold An5;split
 ·rename_i cs;refine .agg cs _ (by simp) (fun j v x hv hx=>?_);simp[hv]at hx;subst hx;exact Mu v
 ·exact Mu _
theorem Ak(hI:Inv X E S w)(hF:FR E w F a N){o:Operand}{x:AV}(h:Dt X F o=some x):Rel E w (a.eval o) x:=by
 cases o with
 |tmp t=>
  simp only[Dt]at h;split at h
  ·rename_i b hb;cases h;obtain⟨v,hv,hr⟩:=hF.rel t _ hb;cases hr;simp only[Act.eval,Ao6,hv,Option.getD_some];exact .val _
  ·obtain⟨v,hv,hr⟩:=hF.rel t _ h;simp only[Act.eval,Ao6,hv,Option.getD_some];exact hr
 |const v=>
  simp only[Dt]at h;have:x=An5 v:=by split at h<;>(cases h;first|rfl|(symm;assumption)|assumption)
  subst this;exact Aqw v
 |«global» g=>
  simp only[Dt]at h;split at h
  ·rename_i cs hg;cases h;obtain⟨hlt,hc⟩:=X.glob_G w hI.glob g cs hg;have hnm:∀o,¬E.mt g o:=fun o hm=>by
    rcases Tt hI hm with h|h
    ·have:=hI.lo g h;omega
    ·have:=hI.frlo g o h;omega
   have hex:∀j:Nat,∃v,(j<cs.length→w.cell? ⟨g,j,none⟩=some v∧cs[j]?=some (.val v)):=fun j=>by
    by_cases hj:j<cs.length
    ·obtain⟨v,hv,hx⟩:=hc j cs[j] (by simp[hj]);exact⟨v,fun _=>⟨hv,by simp[hj,hx]⟩⟩
    ·exact⟨default,fun h=>absurd h hj⟩
   refine .cptr cs g 0 (fun j=>(hex j).choose) (fun j _=>hnm _) (fun j hj=>?_) (fun j x hx=>?_)
   ·rw[Jt];exact((hex j).choose_spec hj).1
   ·have:=((hex j).choose_spec (Aa hx)).2;rw[Option.some.inj (hx.symm.trans this)];exact .val _
  ·cases h
 |func f=>simp only[Dt]at h;cases h;exact .fn f #[] [] rfl (fun j v x hv=>by simp at hv)
theorem Sk(hI:Inv X E S w)(hF:FR E w F a N):∀{os:List Operand}{xs:List AV},Hk X F os=some xs →
 xs.length=os.length∧∀(j:Nat) (v:Value) (x:AV),(os.map a.eval)[j]?=some v→xs[j]?=some x→Rel E w v x
 |[],xs,h=>by simp[Hk]at h;subst h;simp
 |o::os,xs,h=>by
  simp only[Hk]at h;split at h
  ·rename_i x hx;split at h
   ·rename_i xs' hxs;cases h;obtain⟨hl,hr⟩:=Sk hI hF hxs;refine⟨by simp[hl],fun j v y hv hy=>?_⟩;cases j with
    |zero=>simp at hv hy;subst hv;subst hy;exact Ak hI hF hx
    |succ j=>simp at hv hy;exact hr j v y (by simpa using hv) hy
   ·cases h
  ·cases h
theorem O1(hI:Inv X E S w)(hF:FR E w F a N){os:Array Operand}{xs:List AV}(h:Hk X F os.toList=some xs) :
 (os.map a.eval).size=xs.length∧∀(j:Nat)(v:Value)(x:AV),(os.map a.eval)[j]?=some v→xs[j]?=some x→Rel E w v x:=by
 obtain⟨hl,hr⟩:=Sk hI hF h;refine⟨by simp[hl],fun j v x hv hx=>hr j v x ?_ hx⟩;simpa using hv
theorem Tx:∀{cs:List AV},Jo cs=true→∀x,x∈cs→Iy x=true
 |[],_,x,hx=>by cases hx
 |c::cs,h,x,hx=>by
  simp only[Jo]at h;split at h
  ·rename_i hc;rcases zzq13.1 hx with rfl|hx
   ·exact hc
   ·exact Tx h x hx
  ·cases h
theorem L3{v:Value}{x:AV}(h:Rel E w v x)(hc:Iy x=true):v.oneCell'=true:=by
 cases h with
 |val v=>cases v<;>first|rfl|(simp[Iy]at hc)
 |lit b=>rfl
 |junk v=>simp[Iy]at hc
 |agg vs cs hl hr=>simp[Iy]at hc
 |tup vs cs hl hr=>simp[Iy]at hc
 |_=>rfl
theorem Apk{v:Value}(h:v.oneCell'=true):v.cells=#[v]:=by
 cases v<;>simp[Value.oneCell']at h<;>rfl
theorem Hi{v:Value}{x:AV}(h:Rel E w v x){xs:List AV}(hc:cellsOf x=some xs) :
 v.cells.size=xs.length∧(∀(j:Nat) (u:Value) (y:AV),v.cells[j]?=some u→xs[j]?=some y→Rel E w u y)∧∀u,u∈v.cells→u.oneCell'=true:=by
 unfold cellsOf at hc;split at hc
 ·rename_i cs;split at hc
  ·rename_i hall;cases hc;cases h with
   |agg vs _ hl hr=>
    refine⟨hl,hr,fun u hu=>?_⟩;obtain⟨i,hi,rfl⟩:=Array.getElem_of_mem hu;have hi':i<xs.length:=by rw[←hl];exact hi
    exact L3 (hr i _ xs[i] (by simp[Value.cells]) (by simp[hi'])) (Tx hall _ (by simp))
  ·cases hc
 ·split at hc
  ·rename_i hcell;cases hc;have h1:=L3 h hcell;rw[Apk h1];refine⟨rfl,fun j u y hu hy=>?_,fun u hu=>?_⟩
   ·cases j with
    |zero=>simp at hu hy;subst hu;subst hy;exact h
    |succ j=>simp at hu
   ·simp at hu;subst hu;exact h1
  ·cases hc
theorem De{t:Nat}{y:Ty}(hy:X.ty t=some y)(w:World):(sizeOf t).run X.P w=.ok y.size w:=by
 obtain⟨i,z,hi,hs,_⟩:=(X.ty_ok t y hy).info;simp[sizeOf,typeInfo,hi,hs]
theorem Z9{t:Nat}{y:Ty}(hy:X.ty t=some y)(w:World):(isAgg t).run X.P w=.ok (Gd y.k) w:=by
 obtain⟨d,hd,hk⟩:=(X.ty_ok t y hy).agg;cases hkk:y.k<;>simp only[hkk]at hk
 ·obtain⟨h1,h2⟩:=hk;cases d<;>first|(exact absurd rfl (h1 _))|(exact absurd rfl (h2 _ _))|simp[isAgg,run_underlying hd,Gd]
 ·subst hk;simp[isAgg,run_underlying hd,Gd]
 ·subst hk;simp[isAgg,run_underlying hd,Gd]
 ·subst hk;simp[isAgg,run_underlying hd,Gd]
 ·obtain⟨f,rfl,_⟩:=hk;simp[isAgg,run_underlying hd,Gd]
 ·obtain⟨rfl,_⟩:=hk;simp[isAgg,run_underlying hd,Gd]
 ·obtain⟨rfl,_⟩:=hk;simp[isAgg,run_underlying hd,Gd]
theorem I6{t:Nat}{y:Ty}(hy:X.ty t=some y)(w:World):∃z,(zeroValue t).run X.P w=.ok z w∧z.cells.toList.map Ib=y.zero∧y.zero.length=y.size ∧
 ∃i,X.P.info? t=some i∧i.zero=some z∧i.size=y.size∧i.bytes≤1024:=by
 obtain⟨i,z,hi,hs,hb,hz,hc,hl,_⟩:=(X.ty_ok t y hy).info;exact⟨z,by simp[zeroValue,typeInfo,hi,hz],hc,hl,i,hi,hz,hs,hb⟩
theorem Ui{t:Nat}{y:Ty}(hy:X.ty t=some y){b o:Nat}(vals:Nat→Value)(h:∀j,j<y.size→w.cell? ⟨b,o+j,none⟩=some (vals j)) :
 (loadVar t ⟨b,o,none⟩).run X.P w=.ok (if Gd y.k=true then .agg ((List.range y.size).map vals).toArray else vals 0) w:=by
 obtain⟨i,z,hi,hs,hb,hz,hc,hl,hone⟩:=(X.ty_ok t y hy).info;cases hk:Gd y.k with
 |true=>
  have:=run_loadCells (P:=X.P) w ⟨b,o,none⟩ y.size vals (fun j hj=>by rw[F9];exact h j hj);simp[loadVar,Z9 hy,hk,De hy,this]
 |false=>
  have h1:=hone hk;have hc0:=h 0 (by omega);simp only[Pt]at hc0;simp[loadVar,Z9 hy,hk,run_load,hc0]
theorem Ag4{y:Ty}{vals:Nat→Value}{cs:List AV}{r:AV}(hl:cs.length=y.size)(hr:∀(j:Nat)(x:AV),cs[j]?=some x→Rel E w (vals j) x)
 (h:V6 (Gd y.k) cs=some r):Rel E w (if Gd y.k=true then .agg ((List.range y.size).map vals).toArray else vals 0) r:=by
 rcases Anl h with⟨hk,rfl⟩|⟨hk,rfl⟩
 ·rw[if_pos hk];refine .agg _ _ (by simp[hl]) (fun j v x hv hx=>?_);have hj:=Aa hx;simp[hl▸hj]at hv;subst hv;exact hr j x hx
 ·rw[if_neg (by simp[hk])];exact hr 0 r rfl
theorem Aa8(hI:Inv X E S w){t:Nat}{y:Ty}(hy:X.ty t=some y){v:Value}{x r:AV}(hx:Rel E w v x)(h:Tf S y.size (Gd y.k) x=some r) :
 ∃u,(Instr.loadAt t v).run X.P w=.ok u w∧Rel E w u r:=by
 unfold Tf at h;split at h
 ·rename_i b r' o;split at h
  ·rename_i rows hrows;split at h
   ·rename_i cs hcs;rw[H7]at hrows hcs;obtain⟨h1,h2⟩:=Ye _ _ _ _ h;obtain⟨h3,h4⟩:=Y5 _ _ _ _ h2;cases hx with
    |ptr _ _ _ blk sz hb=>
     obtain⟨arr,e,hblk,hsz,hlen,hrel⟩:=hI.box b blk sz rows hb hrows;have hcl:=hlen cs (Bh hcs);have hr':=Aa hcs;simp only[Ad4]at h3;have hin:∀j,j<y.size→r'*sz+o+j<arr.size:=fun j hj=>by
      have:=Ig (sz:=sz) hr' (show o+j<sz by omega);omega
     have hcell:∀j,j<y.size→w.cell? ⟨blk,r'*sz+o+j,none⟩=some (arr.getD (r'*sz+o+j) default):=fun j hj=>by
      have:=hin j hj;simp[World.cell?,hblk,this,Array.getD]
     refine⟨_,?_,Ag4 (y:=y) (vals:=fun j=>arr.getD (r'*sz+o+j) default) (cs:=(cs.drop o).take y.size) (by simp;omega) (fun j x hx=>?_) h4⟩
     ·simp[Instr.loadAt,Instr.sureAddr,Ui hy _ hcell]
     ·have hj:j<y.size:=by have:=Aa hx;simp at this;omega
      have hx':cs[o+j]?=some x:=by simpa[Ma,hj]using hx
      have hi:=hin j hj;exact hrel r' cs (o+j) x _ hcs hx' (by rw[←Nx];simp[hi,Array.getD])
   ·cases h
  ·cases h
 ·rename_i cs;obtain⟨h3,h4⟩:=Y5 _ _ _ _ h;cases hx with
  |cptr _ b o vals hm hc hr=>
   refine⟨_,?_,Ag4 (y:=y) (vals:=vals) (cs:=cs.take y.size) (by simp;omega) (fun j x hx=>?_) h4⟩
   ·simp[Instr.loadAt,Instr.sureAddr,Ui hy vals (fun j hj=>hc j (by omega))]
   ·have hj:j<y.size:=by have:=Aa hx;simp at this;omega
    exact hr j x (by simpa[Ma,hj]using hx)
 ·cases h
end
section
variable {X:Cx}{E:Env}{S:St}{w w':World}
theorem Aag(hI:Inv X E S w){b o:Nat}(h:E.mt b o):E.own b∨E.fr b o:=Tt hI h
theorem Vj(hI:Inv X E S w):¬E.own w.heap.size:=fun h=>Nat.lt_irrefl _ (hI.own_lt h)
theorem Ai3(hI:Inv X E S w){o:Nat}:¬E.mt w.heap.size o:=fun h=>by
 rcases Aag hI h with h|h
 ·exact Vj hI h
 ·exact Nat.lt_irrefl _ (hI.frlt _ _ h).2
theorem Evol.push(hh:∃o,w'.heap=w.heap.push o)(hos:w'.os=w.os)(ht:w'.tape=w.tape)(ho:w'.output=w.output)(n m:Nat):Evol E w E w' n m:=by
 obtain⟨o,hh⟩:=hh;refine⟨rfl,fun _ _ h=>⟨h,fun _ h=>h⟩,fun _ _ k h=>⟨k,h,.inl rfl⟩,hos,ht,ho,by rw[hh];simp,fun k hk _=>?_,fun b o v _ hc=>?_,fun _ _ _ h=>h,fun _ _ h=>h,rfl,fun b e he=>?_,fun _ _ _ b _ _ _ _ o ho=>by rw[hh,Wq (N6 ho)];simpa[N6 ho]using ho⟩
 ·rw[hh,Wq hk];simp[hk]
 ·have hb:=Jf hc;unfold World.cell? at hc⊢;have:w'.heap[b]?=w.heap[b]?:=by rw[hh,Wq hb];simp[hb]
  simp only[this];exact hc
 ·have hb:b<w.heap.size:=by
   rcases Gu b w.heap.size with h|h
   ·exact h
   ·simp[Fu,Abs h]at he
  unfold Fu at he⊢;rw[hh,Wq hb];simpa[hb]using he
theorem Inv.keep(hI:Inv X E S w)(ev:Evol E w E w' E.boxes.length E.toks.length)(hb:∀b,E.own b→w'.heap[b]?=w.heap[b]?):Inv X E S w' where
 nb:=hI.nb
 nt:=hI.nt
 np:=hI.np
 box i b sz rows h1 h2:=by
  obtain⟨cs,e,hh,hs,hl,hr⟩:=hI.box i b sz rows h1 h2;exact⟨cs,e,(hb b (.inl ⟨i,sz,h1⟩)).trans hh,hs,hl,fun k r j x v h3 h4 h5=>(hr k r j x v h3 h4 h5).step ev⟩
 tok t l b c sz h:=by
  obtain⟨h1,h0,cs,e,hh,hs⟩:=hI.tok t l b c sz h;exact⟨h1,h0,cs,e,(hb b (.inr ⟨t,l,c,sz,h⟩)).trans hh,hs⟩
 bb:=hI.bb
 bt:=hI.bt
 tt:=hI.tt
 frlt b o h:=⟨(hI.frlt b o h).1,Mx (hI.frlt b o h).2 ev.size⟩
 lo:=hI.lo
 frlo:=hI.frlo
 sz:=Nt hI.sz ev.size
 glob:=X.glob_st w w' (fun k hk=>ev.block k (Mx hk hI.sz) (fun ho=>by have:=hI.lo k ho;omega)) hI.sz ev.os hI.glob
theorem Inv.push(hI:Inv X E S w)(hh:∃o,w'.heap=w.heap.push o)(hos:w'.os=w.os)(ht:w'.tape=w.tape)(ho:w'.output=w.output):Inv X E S w':=
 hI.keep (Evol.push hh hos ht ho _ _) (fun b hb=>by
  obtain⟨o,hh⟩:=hh;have:=hI.own_lt hb;rw[hh,Wq this];simp[this])
def Env.addBox(E:Env)(b sz:Nat):Env:={ E with boxes:=E.boxes++[some (b,sz)] }
theorem getElem?_snoc{α:Type}{l:List α}{a x:α}{i:Nat}(h:(l++[a])[i]?=some x):l[i]?=some x∨(i=l.length∧x=a):=by
 rcases Gu i l.length with h'|h'
 ·rw[Cr h']at h;exact .inl h
 ·rw[Gj h']at h;cases hk:i-l.length with
  |zero=>rw[hk]at h;simp at h;exact .inr ⟨by omega,h.symm⟩
  |succ k=>rw[hk]at h;simp at h
theorem getElem?_snoc_left{α:Type}{l:List α}{a x:α}{i:Nat}(h:l[i]?=some x):(l++[a])[i]?=some x:=by
 rw[Cr (Aa h)];exact h
theorem getElem?_snoc_new{α:Type}(l:List α)(a:α):(l++[a])[l.length]?=some a:=by simp
theorem Inv.newBox(hI:Inv X E S w){cs:Array Value}{e:TypeId}(hh:w'.heap=w.heap.push (.cells cs e (0,0)))(hos:w'.os=w.os)(ht:w'.tape=w.tape)(ho:w'.output=w.output)
 {sz:Nat}{rows:List (List AV)}(hs:cs.size=rows.length*sz)(hl:∀r,r∈rows→r.length=sz)
 (hr:∀(k:Nat)(r:List AV)(j:Nat)(x:AV)(v:Value),rows[k]?=some r→r[j]?=some x→cs[k*sz+j]?=some v→Rel E w v x) :
 Evol E w (E.addBox w.heap.size sz) w' E.boxes.length E.toks.length∧Inv X (E.addBox w.heap.size sz) ⟨S.boxes++[rows],S.toks⟩ w':=by
 have ev0:=Evol.push (E:=E) ⟨_,hh⟩ hos ht ho E.boxes.length E.toks.length;have hI0:=hI.push ⟨_,hh⟩ hos ht ho;have hown:∀b,(E.addBox w.heap.size sz).own b→E.own b∨b=w.heap.size:=fun b h=>by
  rcases h with⟨i,s,h⟩|h
  ·rcases getElem?_snoc h with h|⟨_,h⟩
   ·exact .inl (.inl ⟨i,s,h⟩)
   ·cases h;exact .inr rfl
  ·exact .inl (.inr h)
 have ev:Evol E w (E.addBox w.heap.size sz) w' E.boxes.length E.toks.length:=by
  refine{ ev0 with boxes:=fun i hi=>?_,mt:=fun b o hb h=>?_,own:=fun b hb h=>?_,fr:=rfl,toks:=?_,pv:=ev0.pv }
  ·exact fun hl=>⟨by simp[Env.addBox];omega,fun x hx=>getElem?_snoc_left hx⟩
  ·exact ev0.toks
  ·rcases h with h|⟨i,s,h⟩|h
   ·exact .inl h
   ·rcases getElem?_snoc h with h|⟨_,h⟩
    ·exact .inr (.inl ⟨i,s,h⟩)
    ·cases h;omega
   ·exact .inr (.inr h)
  ·rcases hown b h with h|h
   ·exact h
   ·omega
 have hnew:w'.heap[w.heap.size]?=some (.cells cs e (0,0)):=by rw[hh];simp
 refine⟨ev,?_⟩;have fo:=Vj hI;exact{
  nb:=by simp[Env.addBox,hI.nb]
  nt:=hI.nt
  np:=fun i hi=>by
   simp only[Env.addBox,Es,Zb]at hi⊢;rcases Gu i E.boxes.length with h|h
   ·rw[Cr h];exact hI.np i h
   ·have:i=E.boxes.length:=by omega
    subst this;exact⟨_,getElem?_snoc_new _ _⟩
  box:=fun i b s rows' h1 h2=>by
   rcases getElem?_snoc h1 with h1|⟨hi,h1⟩
   ·have h2':S.boxes[i]?=some rows':=by
     rcases getElem?_snoc h2 with h2|⟨hi,_⟩
     ·exact h2
     ·have:=Aa h1;rw[hI.nb]at this;omega
    obtain⟨cs',e',hh',hs',hl',hr'⟩:=hI.box i b s rows' h1 h2';exact⟨cs',e',(by
     have hlt:=hI.own_lt (.inl ⟨i,s,h1⟩);rw[hh,Wq hlt];simpa[hlt]using hh'),hs',hl',fun k r j x v h3 h4 h5=>(hr' k r j x v h3 h4 h5).step ev⟩
   ·cases h1;have h2':rows'=rows:=by
     rcases getElem?_snoc h2 with h2|⟨_,h2⟩
     ·have:=Aa h2;rw[←hI.nb]at this;omega
     ·exact h2
    subst h2';exact⟨cs,e,hnew,hs,hl,fun k r j x v h3 h4 h5=>(hr k r j x v h3 h4 h5).step ev⟩
  tok:=hI0.tok
  bb:=fun i j b s s' h1 h2=>by
   rcases getElem?_snoc h1 with h1|⟨hi,h1⟩<;>rcases getElem?_snoc h2 with h2|⟨hj,h2⟩
   ·exact hI.bb i j b s s' h1 h2
   ·cases h2;exact absurd (.inl ⟨i,s,h1⟩) fo
   ·cases h1;exact absurd (.inl ⟨j,s',h2⟩) fo
   ·omega
  bt:=fun i t b s l c sz' h1 h2=>by
   rcases getElem?_snoc h1 with h1|⟨hi,h1⟩
   ·exact hI.bt i t b s l c sz' h1 h2
   ·cases h1;exact absurd (.inr ⟨t,l,c,sz',h2⟩) fo
  tt:=hI.tt
  frlt:=fun b o h=>⟨fun h'=>by
   rcases hown b h' with h'|h'
   ·exact(hI.frlt b o h).1 h'
   ·have:=(hI.frlt b o h).2;omega,(hI0.frlt b o h).2⟩
  lo:=fun b h=>by
   rcases hown b h with h|h
   ·exact hI.lo b h
   ·rw[h];exact hI.sz
  frlo:=hI.frlo
  sz:=hI0.sz
  glob:=hI0.glob }
theorem Inv.setBox(hI:Inv X E S w){b blk sz:Nat}{rows rows':List (List AV)}(hb:E.boxes[b]?=some (some (blk,sz)))(hrows:S.boxes[b]?=some rows)
 {arr arr':Array Value}{e:TypeId}(hh:w.heap[blk]?=some (.cells arr e (0,0)))(hw':w'=w.setRow blk arr')
 (hs:arr'.size=rows'.length*sz)(hl:∀r,r∈rows'→r.length=sz)
 (hr:∀(k:Nat)(r:List AV)(j:Nat)(x:AV)(v:Value),rows'[k]?=some r→r[j]?=some x→arr'[k*sz+j]?=some v→Rel E w v x) :
 Evol E w E w' E.boxes.length E.toks.length∧Inv X E ⟨S.boxes.set b rows',S.toks⟩ w':=by
 have hoth:∀k,k≠blk→w'.heap[k]?=w.heap[k]?:=fun k hk=>by subst hw';exact setRow_other w blk k arr' (by omega)
 have hat:w'.heap[blk]?=some (.cells arr' e (0,0)):=by subst hw';exact setRow_heap w blk arr arr' e _ hh
 have ho:E.own blk:=.inl ⟨b,sz,hb⟩;have ev:Evol E w E w' E.boxes.length E.toks.length:=by
  refine⟨rfl,fun _ _ h=>⟨h,fun _ h=>h⟩,fun _ _ k h=>⟨k,h,.inl rfl⟩,by subst hw';rfl,by subst hw';rfl,by subst hw';rfl,by subst hw';simp,fun k _ hk=>?_,fun b' o v hm hc=>?_,fun _ _ _ h=>h,fun _ _ h=>h,rfl,fun b e he=>?_,fun t _ k b' c h1 h2 _ o ho=>?_⟩
  ·exact hoth k (fun h=>hk (h▸ho))
  ·have hne:b'≠blk:=fun h=>hm (.inr (.inl ⟨b,sz,h▸hb⟩));unfold World.cell? at hc⊢;simp only[hoth b' hne];exact hc
  ·unfold Fu at he⊢;by_cases hne:b=blk
   ·subst hne;rw[hh]at he;rw[hat];exact he
   ·rw[hoth b hne];exact he
  ·obtain⟨kl,ksp⟩:=k;simp only at h2;subst h2;have hne:b'≠blk:=fun h=>hI.bt b t b' sz kl c 0 (h▸hb) h1;rw[hoth b' hne];exact ho
 refine⟨ev,?_⟩;exact{
  nb:=by simp[hI.nb]
  nt:=hI.nt
  np:=hI.np
  box:=fun i b' s rr h1 h2=>by
   by_cases hi:i=b
   ·subst hi;rw[hb]at h1;cases h1;have h2':rr=rows':=by
     have:=Aa hrows;simp[this]at h2;exact h2.symm
    subst h2';exact⟨arr',e,hat,hs,hl,fun k r j x v h3 h4 h5=>(hr k r j x v h3 h4 h5).step ev⟩
   ·have h2':S.boxes[i]?=some rr:=by simpa[U4,Ne.symm hi]using h2
    obtain⟨cs',e',hh',hs',hl',hr'⟩:=hI.box i b' s rr h1 h2';have hne:b'≠blk:=fun h=>hi (hI.bb i b b' s sz h1 (h▸hb));exact⟨cs',e',(hoth b' hne).trans hh',hs',hl',fun k r j x v h3 h4 h5=>(hr' k r j x v h3 h4 h5).step ev⟩
  tok:=fun t l b' c sz' h=>by
   obtain⟨h1,h0,cs,e',hh',hs'⟩:=hI.tok t l b' c sz' h;have hne:b'≠blk:=fun hx=>hI.bt b t blk sz l c sz' hb (hx▸h);exact⟨h1,h0,cs,e',(hoth b' hne).trans hh',hs'⟩
  bb:=hI.bb
  bt:=hI.bt
  tt:=hI.tt
  frlt:=fun b o h=>⟨(hI.frlt b o h).1,Mx (hI.frlt b o h).2 ev.size⟩
  lo:=hI.lo
  frlo:=hI.frlo
  sz:=Nt hI.sz ev.size
  glob:=X.glob_st w w' (fun k hk=>hoth k (fun h=>by have:=hI.lo blk ho;omega)) hI.sz ev.os hI.glob }
end
theorem Ano(off:Nat):∀(l:List Value)(k:Nat)(c:Array Value),
 ((l.zipIdx k).foldl (fun cs p=>cs.setIfInBounds (off+p.2) p.1) c).size=c.size ∧
 ∀i,((l.zipIdx k).foldl (fun cs p=>cs.setIfInBounds (off+p.2) p.1) c)[i]? =
  if off+k≤i∧i<off+k+l.length∧i<c.size then l[i-off-k]? else c[i]?
 |[],k,c=>by simp;intro i h1 h2;omega
 |v::l,k,c=>by
  have ih:=Ano off l (k+1) (c.setIfInBounds (off+k) v);simp only[List.zipIdx_cons,Ad5];refine⟨by simpa using ih.1,fun i=>?_⟩;rw[ih.2 i];simp only[Array.size_setIfInBounds,Nl];by_cases h:off+(k+1)≤i∧i<off+(k+1)+l.length∧i<c.size
  ·rw[if_pos h,if_pos (by omega)];have:i-off-k=(i-off-(k+1))+1:=by omega
   rw[this];simp
  ·rw[if_neg h];by_cases h2:i=off+k
   ·subst h2;by_cases h3:off+k<c.size
    ·rw[if_pos (by omega)];simp[h3,Array.getElem?_setIfInBounds]
    ·rw[if_neg (by omega)];simp[Array.getElem?_setIfInBounds,h3]
   ·rw[if_neg (by omega),Array.getElem?_setIfInBounds_ne (by omega)]
theorem Aa6(off:Nat)(vs c:Array Value) :
 (vs.zipIdx.foldl (fun cs (p:Value×Nat)=>cs.setIfInBounds (off+p.2) p.1) c).size=c.size ∧
 ∀i,(vs.zipIdx.foldl (fun cs (p:Value×Nat)=>cs.setIfInBounds (off+p.2) p.1) c)[i]? =
  if off≤i∧i<off+vs.size∧i<c.size then vs[i-off]? else c[i]?:=by
 have:=Ano off vs.toList 0 c;rw[←Array.foldl_toList,Array.toList_zipIdx];simpa using this
section
variable {X:Cx}{E:Env}{S:St}{w:World}{F:C3}{a:Act}{N:Nat}
def Aeo(E:Env)(w:World)(cells:Array Value)(cs:List AV):Prop:=
 cells.size=cs.length∧∀(j:Nat) (v:Value) (x:AV),cells[j]?=some v→cs[j]?=some x→Rel E w v x
theorem Aw8{cells:Array Value}{cs xs:List AV}{v:Value}{x:AV}{off:Nat}(h:Aeo E w cells cs)(hx:Rel E w v x)(hc:cellsOf x=some xs)(hl:off+xs.length≤cs.length) :
 Aeo E w (v.cells.zipIdx.foldl (fun cs (p:Value×Nat)=>cs.setIfInBounds (off+p.2) p.1) cells) (cs.take off++xs++cs.drop (off+xs.length)):=by
 obtain⟨hs,hr,_⟩:=Hi hx hc;obtain⟨h1,h2⟩:=Aa6 off v.cells cells;refine⟨by rw[h1,h.1];simp;omega,fun j u y hu hy=>?_⟩;rw[h2 j]at hu;have hcs:=h.1;split at hu
 ·rename_i hj;refine hr (j-off) u y hu ?_;rw[Fi,Gj (by simp;omega),Cr (by simp;omega)]at hy;simpa[Nat.min_eq_left (show off≤cs.length by omega)]using hy
 ·rename_i hj;refine h.2 j u y hu ?_;have hj':j<cells.size:=by
   rcases Gu j cells.size with h'|h'
   ·exact h'
   ·rw[Abs h']at hu;cases hu
  rcases Gu j off with h'|h'
  ·rw[Fi,Cr (by simp;omega),Ma]at hy;simpa[h']using hy
  ·rw[Gj (by simp;omega)]at hy;simp only[Es,Ti,Ny]at hy;rw[show off+xs.length+(j-(min off cs.length+xs.length))=j by omega]at hy;exact hy
theorem Xe(hI:Inv X E S w)(hF:FR E w F a N){fs:List (Nat×Nat)}{place:Nat→Option (Nat×Nat)}(hp:∀i p,Tm fs i=some p→place i=some p) :
 ∀(ps:List (Nat×Operand)) (cells:Array Value) (cs:List AV) (r:AV),Aeo E w cells cs→Yq X F fs ps cs=some r →
  ∃cells',Instr.fill place cells (ps.map fun p=>(p.1,a.eval p.2))=some cells'∧Rel E w (.agg cells') r
 |[],cells,cs,r,hf,h=>by
  simp only[Yq]at h;cases h;exact⟨cells,rfl,.agg _ _ hf.1 hf.2⟩
 |(i,o)::ps,cells,cs,r,hf,h=>by
  simp only[Yq]at h;split at h
  ·rename_i off sz hfs;split at h
   ·rename_i x hx;split at h
    ·rename_i xs hxs;split at h
     ·rename_i hl;obtain⟨h1,h2⟩:=Ab5 _ _ _ _ _ h;have hl':xs.length=sz:=U5 hl;have hrx:=Ak hI hF hx;obtain⟨hs,_,_⟩:=Hi hrx hxs;have hlay:=Aw8 hf hrx hxs h1;obtain⟨cells',hc',hr'⟩:=Xe hI hF hp ps _ _ r hlay h2;refine⟨cells',?_,hr'⟩;simp only[Nz,Instr.fill,hp i _ hfs];rw[if_neg]
      ·exact hc'
      ·have hfc:=hf.1;rw[hl']at hs;simp[hs];omega
     ·cases h
    ·cases h
   ·cases h
  ·cases h
theorem V5{z:Value}{zs:List AV}(h:z.cells.toList.map Ib=zs):Aeo E w z.cells zs:=by
 subst h;refine⟨by simp,fun j v x hv hx=>?_⟩;simp[hv]at hx;subst hx;exact Mu v
theorem Air(hI:Inv X E S w)(hF:FR E w F a N){t:Nat}{y:Ty}(hy:X.ty t=some y){fs:List (Nat×Nat)}(hk:y.k=.str fs){ps:Array (Nat×Operand)}{r:AV}
 (h:Yq X F fs ps.toList y.zero=some r):∃v,(Instr.build t (ps.map fun(i,x)=>(i,a.eval x))).run X.P w=.ok v w∧Rel E w v r:=by
 obtain⟨d,hd,hdd⟩:=(X.ty_ok t y hy).agg;simp only[hk]at hdd;obtain⟨fields,rfl,hm,_⟩:=hdd;obtain⟨z,_,hz,hl,i,hi,hiz,his,_⟩:=I6 hy w;obtain⟨cells,hc,hr⟩:=Xe hI hF (fs:=fs) (place:=(fs.toArray[·]?)) (fun i p h=>by rw[H7]at h;simpa using h) ps.toList z.cells y.zero r (V5 hz) h;refine⟨_,run_build w t _ cells ?_,hr⟩;simp only[Program.built,hi,hd,hiz,hm];simpa using hc
theorem Aja{op:BinOp}{k:IntKind}{x y:Int}{yc:Bool}{v:Value}(h:As5 op k x y yc=some v)(t:TypeId):(binOp op t (.int k x) (.int k y)).run X.P w=.ok v w:=by
 unfold As5 at h;split at h
 case h_4=>
  split at h
  ·split at h
   ·rename_i hb;cases h;have hb':y≠0:=Bd hb;simp[binOp,Op.intDiv,hb']
   ·cases h
  ·cases h
 case h_5=>
  split at h
  ·split at h
   ·rename_i hb;cases h;have hb':y≠0:=Bd hb;simp[binOp,Op.intDiv,hb']
   ·cases h
  ·cases h
 all_goals first|(cases h;simp[binOp,Op.intArith,Op.intCmp];done)|cases h
theorem Ala{op:BinOp}{yc:Bool}{u v:Value}{x y r:AV}(hx:Rel E w u x)(hy:Rel E w v y)(h:A0a op yc x y=some r)(t:TypeId)(ox oy:Operand) :
 ∃z,(do eqGuard op t ox oy u v;binOp op t u v:Sem Value).run X.P w=.ok z w∧Rel E w z r:=by
 unfold A0a at h;split at h
 ·rename_i k m k' n;split at h
  ·rename_i hk;split at h
   ·rename_i z hz;cases h;cases hx;cases hy;obtain rfl:=A7 hk;refine⟨z,?_,.val z⟩;have h0:(eqGuard op t ox oy (.int k m) (.int k n)).run X.P w=.ok () w:=by unfold eqGuard;cases op<;>simp
    simp only[Sem.run_bind,h0,Result.andThen_ok];exact Aja hz t
   ·cases h
  ·cases h
 ·rename_i m n;split at h
  ·rename_i z hz;cases h;cases hx;cases hy;refine⟨z,?_,.val z⟩;have h0:(eqGuard op t ox oy (.string m) (.string n)).run X.P w=.ok () w:=by unfold eqGuard;cases op<;>simp
   simp only[Sem.run_bind,h0,Result.andThen_ok];unfold Azt at hz;split at hz
   ·cases hz;simp[binOp,Op.stringOp,ByteArray.toList_eq]
   ·cases hz;simp[binOp,Op.stringOp,ByteArray.toList_eq]
   ·cases hz
  ·cases h
 ·cases h
theorem Yg{t:TypeId}(hd:X.P.underlying t=some .bool)(d:Nat)(m n:Bool)(w:World):(Op.equalIn (d+1) t (.bool m) (.bool n)).run X.P w=.ok (m==n) w:=by
 unfold Op.equalIn;simp[run_underlying hd]
theorem Alb{op:BinOp}{u v:Value}{x y r:AV}{t:TypeId}{yt:Ty}(ht:X.ty t=some yt)(hx:Rel E w u x)(hy:Rel E w v y)(h:A0b op yt.k x y=some r)(ox oy:Operand) :
 ∃z,(do eqGuard op t ox oy u v;binOp op t u v:Sem Value).run X.P w=.ok z w∧Rel E w z r:=by
 unfold A0b at h;split at h
 ·rename_i m n;split at h
  ·rename_i hk;obtain⟨d,hd,hdd⟩:=(X.ty_ok t yt ht).agg;simp only[hk]at hdd;subst hdd;cases hx;cases hy;split at h
   ·cases h;have e:=Yg hd 9999 m n w;exact⟨_,by simp only[eqGuard,binOp,Op.equal,Op.maxDepth];simp[e],.val _⟩
   ·cases h;have e:=Yg hd 9999 m n w;exact⟨_,by simp only[eqGuard,binOp,Op.equal,Op.maxDepth];simp[e],.val _⟩
   ·cases h
  ·cases h
 ·cases h
theorem Aq8{op:UnOp}{u:Value}{x r:AV}(hx:Rel E w u x)(h:unA op x=some r):∃z,(Op.unary op u).run X.P w=.ok z w∧Rel E w z r:=by
 unfold unA at h;split at h
 ·split at h
  ·cases h;cases hx;exact⟨_,by simp[Op.unary],.val _⟩
  ·cases h
 ·split at h
  ·cases h;cases hx;exact⟨_,by simp[Op.unary,Op.intArith],.val _⟩
  ·cases h
 ·cases h
theorem Al4{u:Value}{x r:AV}(hx:Rel E w u x)(h:A1f x=some r){o:Oper}{ox:Operand}(ho:o.op=.nilCheck ox)(hu:a.eval ox=u) :
 (execOp a.eval o).run X.P w=.ok (.value u) w∧Rel E w u r:=by
 unfold A1f at h;split at h<;>cases h<;>cases hx<;>(refine⟨?_,?_⟩;(simp[execOp,ho,hu]);(first|(exact .ptr _ _ _ _ _ (by assumption))|(exact .cptr _ _ _ _ (by assumption) (by assumption) (by assumption))|(exact .fn _ _ _ (by assumption) (by assumption))))
theorem Als(hI:Inv X E S w){t:Nat}{y:Ty}(hy:X.ty t=some y){u:Value}{x r:AV}(hx:Rel E w u x)(h:A09 S y.k x=some r)(ty:TypeId) :
 ∃z,(Builtin.len_ #[t] ty #[u]).run X.P w=.ok z w∧Rel E w z r:=by
 obtain⟨d,hd,hdd⟩:=(X.ty_ok t y hy).agg;unfold A09 at h;split at h
 ·split at h
  ·rename_i hk;cases h;simp only[hk]at hdd;obtain⟨rfl,_⟩:=hdd;cases hx with
   |sl rows sp a n cap b o sz vals hn hx ha hsz hm hc hr hs hcap=>
    subst hn;exact⟨_,by simp[Builtin.len_,run_underlying hd,goInt],.val _⟩
  ·cases h
 ·split at h
  ·rename_i hk;cases h;simp only[hk]at hdd;subst hdd;cases hx;exact⟨_,by simp[Builtin.len_,run_underlying hd,goInt],.val _⟩
  ·cases h
 ·split at h
  ·rename_i hk;cases h;simp only[hk]at hdd;obtain⟨rfl,_⟩:=hdd;cases hx;exact⟨_,by simp[Builtin.len_,run_underlying hd,goInt],.val _⟩
  ·cases h
 ·split at h
  ·rename_i hk;cases h;simp only[hk]at hdd;obtain⟨rfl,_⟩:=hdd;cases hx with
   |psl _ _ _ a n cap k sz vals hn=>
    subst hn;exact⟨_,by simp[Builtin.len_,run_underlying hd,goInt],.val _⟩
  ·cases h
 ·cases h
end
section
variable {X:Cx}{E:Env}{S:St}{w:World}{F:C3}{a:Act}{N:Nat}
theorem Adz{t:Nat}{y:Ty}(hy:X.ty t=some y){fs:List (Nat×Nat)}(hk:y.k=.str fs){i off sz:Nat}(h:Tm fs i=some (off,sz)) :
 ∃fields f i',X.P.underlying t=some (.struct fields)∧fields[i]?=some f∧f.offset=off∧X.P.info? f.type=some i'∧i'.size=sz∧sz≠0 ∧
  (∀g,y.fa[i]?=some g→∃d',X.P.underlying f.type=some d'∧(g=true↔((∃fs',d'=.struct fs')∨∃n' e',d'=.array n' e'))):=by
 obtain⟨d,hd,hdd⟩:=(X.ty_ok t y hy).agg;simp only[hk]at hdd;obtain⟨fields,rfl,_,hf⟩:=hdd;rw[H7]at h;obtain⟨f,i',h1,h2,h3,h4,h5,_,h7⟩:=hf i off sz h;exact⟨fields,f,i',hd,h1,h2,h3,h4,h5,h7⟩
theorem M2{t:Nat}{y:Ty}(hy:X.ty t=some y){fs:List (Nat×Nat)}(hk:y.k=.str fs){i off sz:Nat}(h:Tm fs i=some (off,sz)){b o:Nat} :
 (Instr.fieldAt t (.pointer (some ⟨b,o,none⟩)) i).run X.P w=.ok (.pointer (some ⟨b,o+off,none⟩)) w:=by
 obtain⟨fields,f,i',h1,h2,h3,h4,h5,h6,_⟩:=Adz hy hk h;subst h3;simp[Instr.fieldAt,run_underlying h1,h2,Instr.sureAddr,fieldPlace,sizeOf,typeInfo,h4,h5,h6,F9]
theorem Apq{b o:Nat}{cs:List AV}{off:Nat}(h:Rel E w (.pointer (some ⟨b,o,none⟩)) (.cptr cs))(hl:off≤cs.length) :
 Rel E w (.pointer (some ⟨b,o+off,none⟩)) (.cptr (cs.drop off)):=by
 cases h with
 |cptr _ _ _ vals hm hc hr=>
  refine .cptr _ b (o+off) (fun j=>vals (off+j)) (fun j hj=>?_) (fun j hj=>?_) (fun j x hx=>?_)
  ·simp at hj;rw[Nx];exact hm _ (by omega)
  ·simp at hj;rw[Nx];exact hc _ (by omega)
  ·exact hr _ x (by simpa using hx)
theorem Aa5(hI:Inv X E S w)(hF:FR E w F a N){o:Oper}{x:AV}(h:Ec X F S o.op=some x) :
 ∃v,(execOp a.eval o).run X.P w=.ok (.value v) w∧Rel E w v x:=by
 cases ho:o.op<;>rw[ho]at h<;>try (simp[Ec]at h;done)
 case move y=>exact⟨a.eval y,by simp[execOp,ho],Ak hI hF (by simpa[Ec]using h)⟩
 case assign y=>exact⟨a.eval y,by simp[execOp,ho],Ak hI hF (by simpa[Ec]using h)⟩
 case pick c p q=>
  cases c with
  |tmp t=>
   simp only[Ec]at h;split at h
   ·rename_i hc;obtain⟨v,hv,hr⟩:=hF.rel t _ hc;cases hr;have he:a.eval (.tmp t)=.bool true:=by simp[Act.eval,hv]
    exact⟨_,by simp[execOp,ho,he,asBool],Ak hI hF h⟩
   ·rename_i hc;obtain⟨v,hv,hr⟩:=hF.rel t _ hc;cases hr;have he:a.eval (.tmp t)=.bool false:=by simp[Act.eval,hv]
    exact⟨_,by simp[execOp,ho,he,asBool],Ak hI hF h⟩
   ·rename_i e hc;obtain⟨v,hv,hr⟩:=hF.rel t _ hc;cases hr;have he:a.eval (.tmp t)=.bool e:=by simp[Act.eval,hv]
    split at h
    ·rename_i p' hp;split at h
     ·rename_i q' hq;cases h;have h1:=Ak hI hF hp;have h2:=Ak hI hF hq;cases hh1:a.eval p<;>rw[hh1]at h1<;>cases h1;cases hh2:a.eval q<;>rw[hh2]at h2<;>cases h2;refine⟨_,by simp[execOp,ho,he,asBool];rfl,?_⟩;cases e<;>simp[hh1,hh2]<;>exact .val _
     ·cases h
    ·cases h
   ·cases h
  |_=>simp[Ec]at h
 case build t ps=>
  simp only[Ec]at h;split at h
  ·rename_i y hy;split at h
   ·rename_i fs hk;obtain⟨v,hv,hr⟩:=Air hI hF hy hk h;exact⟨v,by simp[execOp,ho,hv],hr⟩
   ·cases h
  ·cases h
 case load t p=>
  simp only[Ec,Q0]at h;cases hy:X.ty t with
  |none=>simp[hy]at h
  |some y=>
   simp only[hy]at h;split at h
   ·rename_i z hz;obtain⟨u,hu,hr⟩:=Aa8 hI hy (Ak hI hF hz) h;exact⟨u,by simp[execOp,ho,hu],hr⟩
   ·cases h
 case nilCheck y=>
  simp only[Ec]at h;split at h
  ·rename_i z hz;obtain⟨h1,h2⟩:=Al4 (X:=X) (Ak hI hF hz) h ho rfl;exact⟨_,h1,h2⟩
  ·cases h
 case binOp op t p q t'=>
  simp only[Ec]at h;split at h
  ·rename_i u hu;split at h
   ·rename_i v hv;split at h
    ·rename_i r' hr';cases h;obtain⟨z,hz,hr⟩:=Ala (X:=X) (Ak hI hF hu) (Ak hI hF hv) hr' t p q;exact⟨z,by simp only[execOp,ho];simp only[Sem.run_bind]at hz⊢;rw[hz];rfl,hr⟩
    ·split at h
     ·rename_i yt hyt;obtain⟨z,hz,hr⟩:=Alb (X:=X) hyt (Ak hI hF hu) (Ak hI hF hv) h p q;exact⟨z,by simp only[execOp,ho];simp only[Sem.run_bind]at hz⊢;rw[hz];rfl,hr⟩
     ·cases h
   ·cases h
  ·cases h
 case unOp op t p=>
  simp only[Ec]at h;split at h
  ·rename_i u hu;obtain⟨z,hz,hr⟩:=Aq8 (X:=X) (Ak hI hF hu) h;exact⟨z,by simp[execOp,ho,hz],hr⟩
  ·cases h
 case convert s d p=>
  simp only[Ec]at h;split at h
  ·rename_i ys hys;split at h
   ·rename_i y hy;split at h
    ·rename_i k n hp;split at h
     ·rename_i k' hk;cases h;have h1:=Ak hI hF hp;obtain⟨dd,hd,hdd⟩:=(X.ty_ok d y hy).agg;obtain⟨ds,hs,_⟩:=(X.ty_ok s ys hys).agg;simp only[hk]at hdd;subst hdd;cases hh:a.eval p<;>rw[hh]at h1<;>cases h1;exact⟨_,by simp[execOp,ho,hh,convert,run_underlying hs,run_underlying hd,Conv.intToInt],.val _⟩
     ·cases h
    ·cases h
   ·cases h
  ·cases h
 case makeFunc fn first cap=>
  cases fn with
  |func f=>
   simp only[Ec]at h;split at h
   ·rename_i hf0;split at h
    ·rename_i cs hcs;cases h;obtain⟨hl,hr⟩:=O1 hI hF hcs;have:first=#[]:=by simpa using hf0
     subst this;exact⟨_,by simp[execOp,ho,Instr.makeFunc],.fn f _ cs hl hr⟩
    ·cases h
   ·cases h
  |_=>simp[Ec]at h
 case fieldAddr s p f=>
  simp only[Ec]at h;split at h
  ·rename_i y hy;split at h
   ·rename_i fs hk;split at h
    ·rename_i off sz hfs;split at h
     ·rename_i b r hp;cases h;have h1:=Ak hI hF hp;cases hh:a.eval p<;>rw[hh]at h1<;>cases h1;rename_i blk sz' hb;refine⟨_,by simp only[execOp,ho,hh];rw[Sem.run_bind,M2 hy hk hfs];rfl,?_⟩;rw[Pt];exact .ptr _ _ _ _ _ hb
     ·rename_i b r o' _ hp;cases h;have h1:=Ak hI hF hp;cases hh:a.eval p<;>rw[hh]at h1<;>cases h1;rename_i blk sz' hb;refine⟨_,by simp only[execOp,ho,hh];rw[Sem.run_bind,M2 hy hk hfs];rfl,?_⟩;rw[Abx,Nx];exact .ptr _ _ _ _ _ hb
     ·rename_i cs hp;obtain⟨h2,h3⟩:=Ye _ _ _ _ h;cases h3;have h1:=Ak hI hF hp;cases hh:a.eval p<;>rw[hh]at h1<;>cases h1;rename_i b o' vals hm hr hc;refine⟨_,by simp only[execOp,ho,hh];rw[Sem.run_bind,M2 hy hk hfs];rfl,?_⟩;exact Apq (.cptr cs b o' vals hm hr hc) h2
     ·rename_i rows t v i o' hp;cases h;have h1:=Ak hI hF hp;obtain⟨bb,sz',n,cap,hh,hrel,hi,hsz⟩:=h1.pp_inv;refine⟨_,by simp only[execOp,ho,hh];rw[Sem.run_bind,M2 hy hk hfs];rfl,?_⟩;rw[Abx,Nx];exact .pp _ _ _ _ _ _ _ _ _ hrel hi hsz
     ·cases h
    ·cases h
   ·cases h
  ·cases h
 case field s p f=>
  simp only[Ec]at h;split at h
  ·rename_i y hy;split at h
   ·rename_i fs hk;split at h
    ·rename_i off sz hfs;split at h
     ·rename_i g hg;split at h
      ·rename_i cs hp;obtain⟨h2,h3⟩:=Ye _ _ _ _ h;obtain⟨h4,h5⟩:=Y5 _ _ _ _ h3;have h1:=Ak hI hF hp;cases hh:a.eval p<;>rw[hh]at h1<;>cases h1;rename_i vs hl hr;obtain⟨fields,ff,i',k1,k2,k3,k4,k5,k6,k7⟩:=Adz hy hk hfs;rw[H7]at hg;obtain⟨d',kd,kg⟩:=k7 g hg;subst k3;simp only[Ad4]at h4;have hag:(isAgg ff.type).run X.P w=.ok g w:=by
        cases g with
        |true=>rcases kg.1 rfl with⟨_,rfl⟩|⟨_,_,rfl⟩<;>simp[isAgg,run_underlying kd]
        |false=>
         have:∀fs',d'≠.struct fs':=fun fs' hh=>by have:=kg.2 (.inl ⟨fs',hh⟩);cases this
         have:∀n e,d'≠.array n e:=fun n e hh=>by have:=kg.2 (.inr ⟨n,e,hh⟩);cases this
         cases d'<;>simp_all [isAgg,run_underlying kd]
       rcases Anl h5 with⟨rfl,rfl⟩|⟨rfl,hone⟩
       ·refine⟨.agg (vs.extract ff.offset (ff.offset+sz)),?_,?_⟩
        ·simp[execOp,ho,hh,Instr.field,run_underlying k1,k2,asAgg,part,hag,sizeOf,typeInfo,k4,k5]
        ·refine .agg _ _ (by simp;omega) (fun j v z hv hz=>?_);have hj:j<sz:=by have:=Aa hz;simp at this;omega
         refine hr (ff.offset+j) v z ?_ (by simpa[Ma,hj]using hz);simp[Array.getElem?_extract]at hv;exact hv.2
       ·have hj0:cs[ff.offset]?=some x:=by
         have:((cs.drop ff.offset).take sz)[0]?=some x:=by rw[hone];rfl
         simpa[Ma,Zc k6]using this
        have hlt:ff.offset<vs.size:=by rw[hl];exact Aa hj0
        refine⟨vs[ff.offset],?_,hr _ _ _ (by simp[hlt]) hj0⟩;simp[execOp,ho,hh,Instr.field,run_underlying k1,k2,asAgg,part,hag,hlt]
      ·cases h
     ·cases h
    ·cases h
   ·cases h
  ·cases h
 case indexAddr t p q=>
  cases q with
  |const c=>
   cases c with
   |int k i=>
    simp only[Ec]at h;split at h
    ·rename_i y hy;split at h
     ·rename_i n e hk;split at h
      ·rename_i ye hye;split at h
       ·rename_i hi0;split at h
        ·rename_i hin;split at h
         ·rename_i b r o' hp;cases h;have h1:=Ak hI hF hp;obtain⟨d,hd,hdd⟩:=(X.ty_ok t y hy).agg;simp only[hk]at hdd;obtain⟨rfl,_⟩:=hdd;have hi0':=A7 hi0;have hin':=A7 hin;cases hh:a.eval p<;>rw[hh]at h1<;>cases h1;rename_i blk sz' hb;refine⟨.pointer (some ⟨blk,r*sz'+o'+i.toNat*ye.size,none⟩),?_,?_⟩
          ·have hsz:=De hye w;have hc:a.eval (.const (.int k i))=.int k i:=rfl;simp[execOp,ho,hh,hc,Instr.indexAt,asIntOf,run_underlying hd,Instr.sureAddr,hi0',hin',hsz,F9]
          ·rw[Abx,Nx];exact .ptr _ _ _ _ _ hb
         ·cases h
        ·cases h
       ·cases h
      ·cases h
     ·cases h
    ·cases h
   |_=>simp[Ec]at h
  |_=>simp[Ec]at h
 case extract t i=>
  simp only[Ec]at h;split at h
  ·rename_i vs hp;have h1:=Ak hI hF hp;cases hh:a.eval t<;>rw[hh]at h1<;>cases h1;rename_i us hl hr;rw[H7]at h;have hlt:i<us.size:=by rw[hl];exact Aa h
   exact⟨us[i],by simp[execOp,ho,hh,Instr.extract,hlt],hr i _ _ (by simp[hlt]) h⟩
  ·cases h
 case call c=>
  obtain⟨callee,args,argTypes⟩:=c;simp only[Ec]at h;split at h
  ·split at h
   ·rename_i x' hargs;split at h
    ·rename_i t hts;split at h
     ·rename_i y hy;split at h
      ·rename_i u hu;have ha:args=#[x']:=by rw[←zzq34];simpa using hargs
       have ht:argTypes=#[t]:=by rw[←zzq34];simpa using hts
       subst ha;subst ht;obtain⟨z,hz,hr⟩:=Als hI hy (Ak hI hF hu) h o.type;exact⟨z,by simp[execOp,ho,resolve,invoke,builtin,hz],hr⟩
      ·cases h
     ·cases h
    ·cases h
   ·cases h
  ·split at h
   ·rename_i k m k' n hargs;cases h;obtain⟨hl,hr⟩:=Sk hI hF hargs;have e:∃o1 o2,args.toList=[o1,o2]:=by
     cases hq:args.toList with
     |nil=>rw[hq]at hl;simp at hl
     |cons o1 l=>cases l with
      |nil=>rw[hq]at hl;simp at hl
      |cons o2 l2=>cases l2 with
       |nil=>exact⟨o1,o2,rfl⟩
       |cons o3 l3=>rw[hq]at hl;simp at hl
    obtain⟨o1,o2,hq⟩:=e;have ha:args=#[o1,o2]:=by rw[←zzq34];simpa using hq
    subst ha;have r1:=hr 0 (a.eval o1) _ (by simp) rfl;have r2:=hr 1 (a.eval o2) _ (by simp) rfl;cases h1:a.eval o1<;>rw[h1]at r1<;>cases r1;cases h2:a.eval o2<;>rw[h2]at r2<;>cases r2;exact⟨_,by simp[execOp,ho,resolve,invoke,builtin,h1,h2,Builtin.max_,Builtin.max2],.val _⟩
   ·cases h
  ·split at h
   ·rename_i k m k' n hargs;cases h;obtain⟨hl,hr⟩:=Sk hI hF hargs;have e:∃o1 o2,args.toList=[o1,o2]:=by
     cases hq:args.toList with
     |nil=>rw[hq]at hl;simp at hl
     |cons o1 l=>cases l with
      |nil=>rw[hq]at hl;simp at hl
      |cons o2 l2=>cases l2 with
       |nil=>exact⟨o1,o2,rfl⟩
       |cons o3 l3=>rw[hq]at hl;simp at hl
    obtain⟨o1,o2,hq⟩:=e;have ha:args=#[o1,o2]:=by rw[←zzq34];simpa using hq
    subst ha;have r1:=hr 0 (a.eval o1) _ (by simp) rfl;have r2:=hr 1 (a.eval o2) _ (by simp) rfl;cases h1:a.eval o1<;>rw[h1]at r1<;>cases r1;cases h2:a.eval o2<;>rw[h2]at r2<;>cases r2;exact⟨_,by simp[execOp,ho,resolve,invoke,builtin,h1,h2,Builtin.min_,Builtin.min2],.val _⟩
   ·cases h
  ·cases h
end
section
variable {X:Cx}{E:Env}{S:St}{w:World}{F:C3}{a:Act}{N:Nat}
theorem Abq{v:Value}{x:AV}(hx:Rel E w v x){xs:List AV}(hc:cellsOf x=some xs):Aeo E w v.cells xs:=
 let ⟨h1,h2,_⟩:=Hi hx hc;⟨h1,h2⟩
theorem Yt(hI:Inv X E S w)(t:TypeId){v:Value}{cs:List AV}(hf:Aeo E w v.cells cs) :
 ∃E' w',(newVar t v).run X.P w=.ok ⟨w.heap.size,0,none⟩ w'∧Inv X E' ⟨S.boxes++[[cs]],S.toks⟩ w'∧Evol E w E' w' E.boxes.length E.toks.length ∧
  Rel E' w' (.pointer (some ⟨w.heap.size,0,none⟩)) (.ptr S.boxes.length 0 0):=by
 obtain⟨ev,hI'⟩:=hI.newBox (w':=w.alloc (.cells v.cells t)) (cs:=v.cells) (e:=t) (sz:=cs.length) (rows:=[cs]) rfl rfl rfl rfl (by simp[hf.1])
  (fun r hr=>by simp at hr;rw[hr]) (fun k r j x u h1 h2 h3=>by
    cases k with
    |zero=>simp at h1;subst h1;exact hf.2 j u x (by simpa using h3) h2
    |succ k=>simp at h1)
 refine⟨E.addBox w.heap.size cs.length,w.alloc (.cells v.cells t),by simp[newVar,newRow],hI',ev,?_⟩;have:=Rel.ptr (E:=E.addBox w.heap.size cs.length) (w:=w.alloc (.cells v.cells t)) S.boxes.length 0 0 w.heap.size cs.length (by rw[←hI.nb];exact getElem?_snoc_new _ _);simpa using this
theorem Aun{α:Type}(n i:Nat)(a:α)(h:i<n):(List.replicate n a)[i]?=some a:=by simp[h]
def Qb(E:Env)(w:World)(sz:Nat)(cells:Array Value)(rows:List (List AV)):Prop:=
 cells.size=rows.length*sz∧(∀r,r∈rows→r.length=sz) ∧
  ∀(k:Nat) (r:List AV) (j:Nat) (x:AV) (v:Value),rows[k]?=some r→r[j]?=some x→cells[k*sz+j]?=some v→Rel E w v x
theorem Asy{sz:Nat}{cells:Array Value}{rows:List (List AV)}{xs:List AV}{v:Value}{x:AV}{i:Nat}(h:Qb E w sz cells rows)(hx:Rel E w v x)
 (hc:cellsOf x=some xs)(hl:xs.length=sz)(hi:i<rows.length) :
 Qb E w sz (v.cells.zipIdx.foldl (fun cs (p:Value×Nat)=>cs.setIfInBounds (i*sz+p.2) p.1) cells) (rows.set i xs):=by
 obtain⟨hs,hr,_⟩:=Hi hx hc;obtain⟨h1,h2⟩:=Aa6 (i*sz) v.cells cells;refine⟨by rw[h1,h.1];simp,fun r hr'=>?_,fun k r j y u hk hj hu=>?_⟩
 ·rcases Wr hr' with h'|rfl
  ·exact h.2.1 r h'
  ·exact hl
 ·rw[h2]at hu;by_cases hki:k=i
  ·subst hki;have hr1:r=xs:=by simpa[hi]using hk.symm
   subst hr1;have hjl:=Aa hj;have hlt:=Ig (sz:=sz) hi (show j<sz by omega);rw[if_pos ⟨by omega,by omega,by rw[h.1];exact hlt⟩]at hu;exact hr j u y (by simpa[Nat.add_sub_cancel_left]using hu) hj
  ·have hk':rows[k]?=some r:=by simpa[U4,Ne.symm hki]using hk
   have hjl:j<sz:=by rw[←h.2.1 r (Bh hk')];exact Aa hj
   have:=Aaq hjl hki;rw[if_neg (by omega)]at hu;exact h.2.2 k r j y u hk' hj hu
theorem Sf(hI:Inv X E S w)(hF:FR E w F a N){sz:Nat}:∀(ps:List (Nat×Operand))(cells:Array Value)(rows:List (List AV))(r:AV),Qb E w sz cells rows →
 Se X F sz ps rows=some r→∃cells' rows',Instr.fill (fun i=>some (i*sz,sz)) cells (ps.map fun p=>(p.1,a.eval p.2))=some cells'∧Qb E w sz cells' rows' ∧
  rows'.length=rows.length∧r=.sl rows' .tight
 |[],cells,rows,r,hg,h=>by
  simp only[Se]at h;cases h;exact⟨cells,rows,rfl,hg,rfl,rfl⟩
 |(i,o)::ps,cells,rows,r,hg,h=>by
  simp only[Se]at h;split at h
  ·rename_i x hx;split at h
   ·rename_i xs hxs;split at h
    ·rename_i hl;obtain⟨h1,h2⟩:=Ab9 _ _ _ _ _ h;have hl':xs.length=sz:=U5 hl;have hrx:=Ak hI hF hx;obtain⟨hs,_,_⟩:=Hi hrx hxs;have hlay:=Asy hg hrx hxs hl' h1;obtain⟨cells',rows',hc',hg',hll,hr'⟩:=Sf hI hF ps _ _ r hlay h2;refine⟨cells',rows',?_,hg',by simpa using hll,hr'⟩;simp only[Nz,Instr.fill];rw[if_neg]
     ·exact hc'
     ·have hgs:=hg.1;rw[hl']at hs;have:(i+1)*sz≤rows.length*sz:=Tp sz h1;rw[Rf,Nat.one_mul]at this;simp[hs];omega
    ·cases h
   ·cases h
  ·cases h
theorem Qm{z:Value}{zs:List AV}(h:z.cells.toList.map Ib=zs){sz n:Nat}(hl:zs.length=sz)(cells:Array Value)(hs:cells.size=n*sz)
 (hc:∀i,i<n*sz→cells[i]?=z.cells[i%sz]?):Qb E w sz cells (List.replicate n zs):=by
 refine⟨by simp[hs],fun r hr=>by rw[Abi hr];exact hl,fun k r j x v hk hj hv=>?_⟩;have hkn:k<n:=by have:=Aa hk;simpa using this
 have hr:r=zs:=by rw[Aun n k zs hkn]at hk;cases hk;rfl
 subst hr;have hjs:j<sz:=by have:=Aa hj;omega
 rw[hc _ (Ig hkn hjs),Nat.mul_comm,Nat.mul_add_mod,Nat.mod_eq_of_lt hjs]at hv;exact(V5 (E:=E) (w:=w) h).2 j v x hv hj
theorem Amo{w':World}(hI:Inv X E S w){sz:Nat}{cells:Array Value}{rows:List (List AV)}(hg:Qb E w sz cells rows){e:TypeId}
 (hh:w'.heap=w.heap.push (.cells cells e (0,0)))(hos:w'.os=w.os)(ht:w'.tape=w.tape)(ho:w'.output=w.output)(hx:rows.length≤O0)
 (sp:Sp)(cap:Nat)(hcap:rows.length≤cap)(hsp:A23 E sp (some ⟨w.heap.size,0,none⟩) rows.length cap sz) :
 Rel E w' (.slice (some ⟨w.heap.size,0,none⟩) rows.length cap) (.sl rows sp):=by
 have ev:=Evol.push (E:=E) ⟨_,hh⟩ hos ht ho E.boxes.length E.toks.length;have hcell:∀o,w'.cell? ⟨w.heap.size,o,none⟩=cells[o]?:=fun o=>by
  have:w'.heap[w.heap.size]?=some (.cells cells e (0,0)):=by rw[hh];simp
  simp[World.cell?,this]
 refine .sl rows sp _ rows.length cap w.heap.size 0 sz (fun i j=>cells.getD (i*sz+j) default) rfl hx (fun _=>rfl) hg.2.1 (fun i j _ _=>Ai3 hI)
  (fun i j hi hj=>?_) (fun i j r x hi hj=>?_) hsp hcap
 ·rw[Jt,hcell];have:=Ig hi hj;rw[←hg.1]at this;simp[this,Array.getD]
 ·have hi':=Aa hi;have hj':j<sz:=by rw[←hg.2.1 r (Bh hi)];exact Aa hj
  have:=Ig hi' hj';rw[←hg.1]at this;exact(hg.2.2 i r j x _ hi hj (by simp[this,Array.getD])).step ev
theorem Aa4(hI:Inv X E S w)(hF:FR E w F a N){o:Oper}{x:AV}{S':St}(h:Kg X F S o.op=some (x,S')) :
 ∃v E' w',(execOp a.eval o).run X.P w=.ok (.value v) w'∧Inv X E' S' w'∧Evol E w E' w' E.boxes.length E.toks.length∧Rel E' w' v x:=by
 cases ho:o.op<;>rw[ho]at h<;>try (simp[Kg]at h;done)
 case alloc t=>
  simp only[Kg]at h;split at h
  ·rename_i y1 y2 y3 y4 hy;rw[Q4,Jz]at h;cases h;obtain⟨z,hz,hzc,hzl,_⟩:=I6 hy w;obtain⟨E',w',h1,h2,h3,h4⟩:=Yt hI t (V5 (E:=E) (w:=w) hzc);exact⟨_,E',w',by simp[execOp,ho,Instr.alloc,hz,h1],h2,h3,h4⟩
  ·cases h
 case box t p=>
  simp only[Kg]at h;split at h
  ·rename_i u hu;split at h
   ·rename_i cs hcs;rw[Q4,Jz]at h;cases h;obtain⟨E',w',h1,h2,h3,h4⟩:=Yt hI t (Abq (Ak hI hF hu) hcs);exact⟨_,E',w',by simp[execOp,ho,Instr.box,h1],h2,h3,h4⟩
   ·cases h
  ·cases h
 case buildSlice t n ps=>
  simp only[Kg]at h;split at h
  ·rename_i y hy;split at h
   ·rename_i e hk;split at h
    ·rename_i ye hye;split at h
     ·rename_i hble;split at h
      ·rename_i r hr;cases h;have hle:n*ye.size≤1000000:=I7 hble;obtain⟨d,hd,hdd⟩:=(X.ty_ok t y hy).agg;simp only[hk]at hdd;obtain⟨rfl,ye',hye',hne⟩:=hdd;rw[hye]at hye';cases hye';obtain⟨z,hz,hzc,hzl,i,hi,hiz,his,hib⟩:=I6 hye w;have hzs:z.cells.size=ye.size:=by rw[←hzl,←hzc];simp
       rw[Aop]at hr;have hg0:Qb E w ye.size ((Array.range (n*ye.size)).map (z.cells[·%z.cells.size]!)) (List.replicate n ye.zero):=by
        refine Qm hzc hzl _ (by simp) (fun i hi=>?_);have hm:i%ye.size<z.cells.size:=by rw[hzs];exact Ws _ (Zc hne)
        have hr0:(Array.range (n*ye.size))[i]?=some i:=by simp[hi]
        rw[Akg,hr0];simp only[Km];rw[hzs,getElem!_pos z.cells (i%ye.size) hm,Agc hm]
       obtain⟨cells',rows',hf',hg',hl',rfl⟩:=Sf hI hF ps.toList _ _ _ hg0 hr;have hn:rows'.length=n:=by simpa using hl'
       refine⟨_,E,w.alloc (.cells cells' e),?_,hI.push (w':=w.alloc (.cells cells' e)) ⟨_,rfl⟩ rfl rfl rfl,Evol.push (w':=w.alloc (.cells cells' e)) ⟨_,rfl⟩ rfl rfl rfl _ _,Amo (w':=w.alloc (.cells cells' e)) (e:=e) hI hg' rfl rfl rfl rfl ?_ .tight rows'.length (Bo _) rfl⟩
       ·have hsz:=De hye w;have hpp:(ps.map fun(x:Nat×Operand)=>(x.1,a.eval x.2)).toList=ps.toList.map fun p=>(p.1,a.eval p.2):=by simp
        have h24:¬(n*ye.size>16777216):=by omega
        simp only[execOp,ho,Instr.buildSlice,Sem.run_bind,run_underlying hd,Result.andThen_ok,hsz];by_cases h0:n*ye.size=0
        ·have hn0:n=0:=by
          rcases Nat.mul_eq_zero.1 h0 with h|h
          ·exact h
          ·exact absurd h hne
         subst hn0;have e1:∀f:Nat→Value,(Array.range 0).map f=#[]:=fun f=>by rw[←zzq34];simp
         have hf2:=hf';simp only[Nat.zero_mul,e1]at hf2;simp[hf2,newRow,hn,e1]
        ·simp[h24,h0,hz,hf',newRow,hn]
       ·rw[hn];have:n≤n*ye.size:=Nat.le_mul_of_pos_right _ (Zc hne);simp only[O0];omega
      ·cases h
     ·cases h
    ·cases h
   ·cases h
  ·cases h
end
theorem K4{α:Type}(L vs:List α)(p i:Nat)(hp:p+vs.length≤L.length) :
 (L.take p++vs++L.drop (p+vs.length))[i]?=if p≤i∧i<p+vs.length then vs[i-p]? else L[i]?:=by
 have hm:min p L.length=p:=by omega
 rcases Gu i p with h|h
 ·rw[Fi,Cr (by simp;omega),Ma,if_pos h,if_neg (by omega)]
 ·rcases Gu i (p+vs.length)with h'|h'
  ·rw[Fi,Gj (by simp;omega),Cr (by simp;omega),if_pos ⟨h,h'⟩];simp[hm]
  ·rw[Gj (by simp;omega),if_neg (by omega)];simp only[Es,Ti,hm,Ny];congr 1;omega
theorem K5{α:Type}(L vs:List α)(p:Nat)(hp:p+vs.length≤L.length):(L.take p++vs++L.drop (p+vs.length)).length=L.length:=by
 simp;omega
section
variable {X:Cx}{E:Env}{S:St}{w:World}{F:C3}{a:Act}{N:Nat}
theorem Y4(hI:Inv X E S w){t:Nat}{y:Ty}(hy:X.ty t=some y){u v:Value}{p x:AV}(hp:Rel E w u p)(hx:Rel E w v x){S':St}(h:Ux S y.size p x=some S') :
 ∃w',(Instr.storeAt t u v).run X.P w=.ok () w'∧Inv X E S' w'∧Evol E w E w' E.boxes.length E.toks.length:=by
 obtain⟨bx,tk⟩:=S;unfold Ux at h;split at h
 ·rename_i b r o;split at h
  ·rename_i xs hxs;split at h
   ·rename_i hl;dsimp only at h;split at h
    ·rename_i rows hrows;split at h
     ·rename_i cs hcs;rw[H7]at hrows hcs;obtain⟨h1,h2⟩:=Ab5 _ _ _ _ _ h;obtain⟨h3,h4⟩:=Ab9 _ _ _ _ _ h2;obtain⟨h5,h6⟩:=Ab9 _ _ _ _ _ h4;cases h6;have hl':xs.length=y.size:=U5 hl;obtain⟨hs,hr,hone⟩:=Hi hx hxs;cases hp with
      |ptr _ _ _ blk sz hb=>
       obtain⟨arr,e,hblk,hsz,hlen,hrel⟩:=hI.box b blk sz rows hb hrows;have hcl:=hlen cs (Bh hcs);have hvl:v.cells.toList.length=xs.length:=by simpa using hs
       have hin:r*sz+o+xs.length≤arr.toList.length:=by
        have:(r+1)*sz≤rows.length*sz:=Tp sz h3;rw[Rf,Nat.one_mul]at this;simp;omega
       have hst:=run_storeCells_at X.P blk (r*sz+o) e v.cells.toList 0 arr w hblk (by simp at hin⊢;omega) (fun u hu=>hone u (by simpa using hu));simp only[Pt]at hst;have hlen0:((arr.toList.take (r*sz+o)++v.cells.toList++arr.toList.drop (r*sz+o+v.cells.toList.length)).toArray).size=(rows.set r (cs.take o++xs++cs.drop (o+xs.length))).length*sz:=by
        have:=K5 arr.toList v.cells.toList (r*sz+o) (by omega);rw[Abj,this,Abk];simpa using hsz
       have hall:∀q,q∈rows.set r (cs.take o++xs++cs.drop (o+xs.length))→q.length=sz:=by
        intro q hq;rcases Wr hq with h'|rfl
        ·exact hlen q h'
        ·rw[K5 cs xs o (by omega),hcl]
       have hrr:∀(k:Nat) (q:List AV) (j:Nat) (z:AV) (u:Value),(rows.set r (cs.take o++xs++cs.drop (o+xs.length)))[k]?=some q→q[j]?=some z →
        ((arr.toList.take (r*sz+o)++v.cells.toList++arr.toList.drop (r*sz+o+v.cells.toList.length)).toArray)[k*sz+j]?=some u→Rel E w u z:=by
        intro k q j z u hk hj hu;have hu':=hu;simp only[Rc]at hu';rw[K4 _ _ _ _ (by omega)]at hu';by_cases hkr:k=r
        ·subst hkr;have hq:q=cs.take o++xs++cs.drop (o+xs.length):=by simpa[h3]using hk.symm
         subst hq;rw[K4 _ _ _ _ (by omega)]at hj;split at hj
         ·rename_i hjj;rw[if_pos (by omega)]at hu';rw[show k*sz+j-(k*sz+o)=j-o by omega]at hu';exact hr (j-o) u z (by simpa using hu') hj
         ·rename_i hjj;rw[if_neg (by omega)]at hu';exact hrel k cs j z u hcs hj (by simpa using hu')
        ·have hk':rows[k]?=some q:=by simpa[U4,Ne.symm hkr]using hk
         have hjl:j<sz:=by rw[←hlen q (Bh hk')];exact Aa hj
         have:=Aaq hjl hkr;rw[if_neg (by omega)]at hu';exact hrel k q j z u hk' hj (by simpa using hu')
       obtain⟨ev,hI'⟩:=hI.setBox (w':=w.setRow blk (arr.toList.take (r*sz+o)++v.cells.toList++arr.toList.drop (r*sz+o+v.cells.toList.length)).toArray) hb hrows
        (rows':=rows.set r (cs.take o++xs++cs.drop (o+xs.length))) hblk rfl hlen0 hall hrr
       refine⟨_,?_,hI',ev⟩;have hsz':v.cells.size=y.size:=by omega
       simp[Instr.storeAt,Instr.sureAddr,storeVar,De hy,hsz',hst]
     ·cases h
    ·cases h
   ·cases h
  ·cases h
 ·cases h
theorem J1(d:Nat)(x:AV)(F:C3)(k:Nat):lk ((d,x)::F) k=if d=k then some x else lk F k:=by
 simp only[lk];by_cases h:d=k
 ·subst h;simp
 ·have:Nat.beq d k=false:=by
   cases hb:Nat.beq d k with
   |false=>rfl
   |true=>exact absurd (U5 hb) h
  simp[this,h]
theorem FR.step{E':Env}{w':World}(hF:FR E w F a N)(ev:Evol E w E' w' E.boxes.length E.toks.length):FR E' w' F a N:=
 ⟨hF.size,hF.nod.trans ev.df.symm,fun k x h=>let ⟨v,h1,h2⟩:=hF.rel k x h;⟨v,h1,h2.step ev⟩⟩
theorem FR.put(hF:FR E w F a N){d:Nat}(hd:d<N){v:Value}{x:AV}(hx:Rel E w v x):FR E w ((d,x)::F) (a.put (some d) v) N where
 size:=by simp[Act.put,hF.size]
 nod:=by simp[Act.put,hF.nod]
 rel k y h:=by
  rw[J1]at h;have hs:=hF.size;split at h
  ·rename_i hk;subst hk;cases h;exact⟨v,by simp[Act.put,hs,hd],hx⟩
  ·rename_i hk;obtain⟨u,h1,h2⟩:=hF.rel k y h;exact⟨u,by simp[Act.put,Array.getElem?_setIfInBounds_ne hk,h1],h2⟩
theorem Ag3(hI:Inv X E S w)(hF:FR E w F a N){o:Oper}{F':C3}{S':St}(h:Alh X N F S o=some (F',S')) :
 ∃nx v E' w',(execOp a.eval o).run X.P w=.ok nx w'∧(nx=.value v∨(nx=.skip∧v=undef))∧Inv X E' S' w'∧Evol E w E' w' E.boxes.length E.toks.length∧FR E' w' F' (a.put o.dst v) N:=by
 have main:∀d,o.dst=some d→(match Nat.blt d N with
  |true=>match Ec X F S o.op with
   |some x=>some ((d,x)::F,S)
   |none=>match Kg X F S o.op with
    |some (x,S')=>some ((d,x)::F,S')
    |none=>none
  |false=>none)=some (F',S')→∃nx v E' w',(execOp a.eval o).run X.P w=.ok nx w'∧(nx=.value v∨(nx=.skip∧v=undef))∧Inv X E' S' w'∧Evol E w E' w' E.boxes.length E.toks.length∧FR E' w' F' (a.put o.dst v) N:=by
  intro d hd h;split at h
  ·rename_i hlt;have hlt':d<N:=by simpa[Fs]using hlt
   split at h
   ·rename_i x hx;cases h;obtain⟨v,h1,h2⟩:=Aa5 hI hF hx;exact⟨_,v,E,w,h1,.inl rfl,hI,Evol.refl _ _ _ _,by rw[hd];exact hF.put hlt' h2⟩
   ·split at h
    ·rename_i x S'' hx;cases h;obtain⟨v,E',w',h1,h2,h3,h4⟩:=Aa4 hI hF hx;exact⟨_,v,E',w',h1,.inl rfl,h2,h3,by rw[hd];exact(hF.step h3).put hlt' h4⟩
    ·cases h
  ·cases h
 unfold Alh at h;split at h
 ·rename_i t p x ho;split at h
  ·rename_i hd;cases hy:X.ty t with
   |none=>simp[Q0,hy]at h
   |some y=>
    simp only[Q0,hy]at h;split at h
    ·rename_i p' hp;split at h
     ·rename_i x' hx;split at h
      ·rename_i S'' hs;cases h;obtain⟨w',h1,h2,h3⟩:=Y4 hI hy (Ak hI hF hp) (Ak hI hF hx) hs;exact⟨.skip,undef,E,w',by simp[execOp,ho,h1],.inr ⟨rfl,rfl⟩,h2,h3,by rw[hd];exact hF.step h3⟩
      ·cases h
     ·cases h
    ·cases h
  ·cases h
 ·split at h
  ·rename_i d hd;exact main d hd h
  ·cases h
end
structure Bx where
 f:FuncId
 fn:Func
 n:Nat
 m:Nat
inductive AE where
 |ret (r:AV)
 |panic (chain:List PanicEntry)
 |hook (C:List Frame→Frame→Env→World→Machine→Prop)
def Aij(X:Cx)(E:Env)(w:World)(n m:Nat)(R:AE→St→Prop)(e:Ending)(w':World):Prop:=
 ∃E' S',Inv X E' S' w'∧Evol E w E' w' n m∧(match e with
  |.returned v=>∃r,Rel E' w' v r∧R (.ret r) S'
  |.panicked ch=>R (.panic ch) S'
  |.outgrown=>False)
def Ahn(P:Program)(fr:Frame)(w:World)(D:List Deferred)(κ:CallKind):Ending→Prop
 |.returned v=>fr.mode=.returning∧fr.defers=D∧fr.kind=κ∧∃fn,P.funcs[fr.fn]?=some fn∧(results fn fr.tmps).run P w=.ok v w
 |.panicked ch=>fr.mode=.panicking ch∧fr.defers=D∧∃fn,P.funcs[fr.fn]?=some fn
 |.outgrown=>True
theorem Ajc{P:Program}{fr:Frame}{w:World}{e:Ending}(h:Ahn P fr w [] .normal e):fr.leaving P w e:=by
 cases e with
 |returned v=>exact h
 |panicked ch=>exact h
 |outgrown=>exact trivial
def Fin(X:Cx)(B:Bx)(R:AE→St→Prop)(E:Env)(w:World)(b:Frame)(cs:List Frame)(st:Machine):Prop:=
 (∃e w' fr,Aij X E w B.n B.m R e w'∧Comes X.P st (lone fr cs w') e∧fr.fn=B.f∧Ahn X.P fr w' E.df b.kind e) ∨
 ∃C,R (.hook C) ⟨[],[]⟩∧(∀(E:Env) (w:World) (E':Env) (w':World) (st st':Machine),Steps X.P st st'→Evol E w E' w' B.n B.m→C cs b E' w' st'→C cs b E w st)∧C cs b E w st
def AK(X:Cx)(B:Bx)(K:List Item)(F:C3)(S:St)(R:AE→St→Prop):Prop:=
 ∀(E:Env) (w:World) (a:Act) (b:Frame) (cs:List Frame),Inv X E S w→FR E w F a B.fn.ntmps→B.n≤S.boxes.length→B.m≤S.toks.length→b.fn=B.f →
  Fin X B R E w b cs (lone (b.at a K) cs w)
def ACalls(X:Cx)(f:FuncId)(args:List AV)(S:St)(R:AE→St→Prop):Prop:=
 ∀(E:Env) (w:World) (vs:Array Value),E.df=[]→Inv X E S w→vs.size=args.length→(∀(j:Nat) (v:Value) (x:AV),vs[j]?=some v→args[j]?=some x→Rel E w v x) →
  Calls X.P f vs w (Aij X E w S.boxes.length S.toks.length R)
section
variable {X:Cx}{B:Bx}{E:Env}{S:St}{w:World}{F:C3}{a:Act}{N:Nat}{R:AE→St→Prop}
theorem Evol.len{E':Env}{w':World}(ev:Evol E w E' w' E.boxes.length E.toks.length):E.boxes.length≤E'.boxes.length∧E.toks.length≤E'.toks.length:=by
 constructor
 ·rcases Gu E'.boxes.length E.boxes.length with h|h
  ·have:=(ev.boxes E'.boxes.length h h).1;omega
  ·exact h
 ·rcases Gu E'.toks.length E.toks.length with h|h
  ·obtain⟨k',hk',_⟩:=ev.toks E'.toks.length h E.toks[E'.toks.length] (by simp[h]);simp at hk'
  ·exact h
theorem Fin.from{E':Env}{w':World}{b:Frame}{cs:List Frame}{st st':Machine}(hs:Steps X.P st st')(ev:Evol E w E' w' B.n B.m)(h:Fin X B R E' w' b cs st'):Fin X B R E w b cs st:=by
 rcases h with⟨e,w2,fr,⟨E2,S2,h1,h2,h3⟩,d2,d3,d4⟩|⟨C,h1,h2,h3⟩
 ·exact .inl ⟨e,w2,fr,⟨E2,S2,h1,ev.trans h2,h3⟩,Comes.of_steps hs d2,d3,ev.df▸d4⟩
 ·exact .inr ⟨C,h1,h2,h2 _ _ _ _ _ _ hs ev h3⟩
theorem Pw{K K':List Item}{F':C3}{S':St}(hk:AK X B K' F' S' R)
 (h:∀(E:Env)(w:World)(a:Act)(b:Frame)(cs:List Frame),Inv X E S w→FR E w F a B.fn.ntmps→b.fn=B.f →
   ∃E' w' a',Steps X.P (lone (b.at a K) cs w) (lone (b.at a' K') cs w')∧Inv X E' S' w'∧Evol E w E' w' E.boxes.length E.toks.length∧FR E' w' F' a' B.fn.ntmps):AK X B K F S R:=by
 intro E w a b cs hI hF hn hm hb;obtain⟨E',w',a',h1,h2,h3,h4⟩:=h E w a b cs hI hF hb;have hl:=h3.len;have nt:E.toks.length=S.toks.length:=by rw[←hI.nt];simp
 have nt':E'.toks.length=S'.toks.length:=by rw[←h2.nt];simp
 exact Fin.from h1 (h3.weaken (by rw[hI.nb];exact hn) (by omega)) (hk E' w' a' b cs h2 h4 (by rw[←h2.nb];have:=hI.nb;omega) (by omega) hb)
theorem Ko{K K':List Item}(hk:AK X B K' F S R)(h:∀(w:World)(a:Act)(b:Frame)(cs:List Frame),Go.step X.P (lone (b.at a K) cs w)=.next (lone (b.at a K') cs w)):AK X B K F S R:=
 Pw hk fun E w a b cs hI hF _=>⟨E,w,a,.one (h w a b cs),hI,Evol.refl _ _ _ _,hF⟩
theorem Aj8{b:Frame}{k:List Item}{cs:List Frame}{ops:Array Oper}{i:Nat}{rest:List Nat}{o:Oper}(ho:ops[i]?=some o)
 (hw:Region.wanted o (yielded ops a.tmps)=true){nx:Next}{v:Value}{w':World}(hr:(execOp a.eval o).run X.P w=.ok nx w')(hn:nx=.value v∨(nx=.skip∧v=undef)) :
 Go.step X.P (lone (b.at a (.inRegion ops (i::rest)::k)) cs w)=.next (lone (b.at (a.put o.dst v) (.inRegion ops rest::k)) cs w'):=by
 have hg:=stepG_op (P:=X.P) (b:=b) (k:=k) (cs:=cs) (w:=w) (rest:=rest) ho hw;have hfin:(b.at a (.inRegion ops (i::rest)::k)).finish v=b.at (a.put o.dst v) (.inRegion ops rest::k):=by
  rw[Frame.finish_at,ho];rfl
 refine step_lone_go ?_;rw[hg,←hfin];rcases hn with rfl|⟨rfl,rfl⟩
 ·simp[stepG.apply,hr]
 ·simp[stepG.apply,hr]
theorem Cm{ops:Array Oper}{o:Oper}{t:Bool}(hF:FR E w F a N)(h:A6 ops F o=some t):Region.wanted o (yielded ops a.tmps)=t:=by
 unfold A6 at h;unfold Region.wanted;split at h
 ·rename_i hg;cases h;simp[hg]
 ·rename_i j want hg;simp only[hg];split at h
  ·rename_i oj hj;split at h
   ·rename_i d hd;split at h
    ·rename_i hl;cases h;obtain⟨v,hv,hr⟩:=hF.rel d _ hl;cases hr;have:yielded ops a.tmps j=some true:=by simp[yielded,hj,hd,hv]
     rw[this];cases t<;>rfl
    ·rename_i hl;cases h;obtain⟨v,hv,hr⟩:=hF.rel d _ hl;cases hr;have:yielded ops a.tmps j=some false:=by simp[yielded,hj,hd,hv]
     rw[this];cases want<;>rfl
    ·rename_i hl;cases h;obtain⟨v,hv,hr⟩:=hF.rel d _ hl;cases hr;have:yielded ops a.tmps j=none:=by simp[yielded,hj,hd,hv]
     rw[this];rfl
    ·cases h
   ·cases h
  ·cases h
theorem Xt{b:Frame}{k:List Item}{cs:List Frame}{ops:Array Oper}{i:Nat}{rest:List Nat}{o:Oper}(ho:ops[i]?=some o)
 (hw:Region.wanted o (yielded ops a.tmps)=false) :
 Go.step X.P (lone (b.at a (.inRegion ops (i::rest)::k)) cs w)=.next (lone (b.at (a.put o.dst undef) (.inRegion ops rest::k)) cs w):=by
 have:=step_op_skip (P:=X.P) (b:=b) (a:=a) (k:=k) (cs:=cs) (w:=w) (ops:=ops) (i:=i) (rest:=rest) (by simp[ho,hw]);simpa[ho]using this
theorem Hl:∀(n:Nat)(K:List Item)(F:C3)(S:St),AK X B (ev X B.fn.ntmps n K F S).1 (ev X B.fn.ntmps n K F S).2.1 (ev X B.fn.ntmps n K F S).2.2 R→AK X B K F S R
 |0,K,F,S,h=>h
 |n+1,K,F,S,h=>by
  unfold ev at h;split at h
  ·exact Ko (Hl n _ _ _ h) fun w a b cs=>step_skip
  ·exact Ko (Hl n _ _ _ h) fun w a b cs=>step_label
  ·exact Ko (Hl n _ _ _ h) fun w a b cs=>step_inBlock
  ·exact Ko (Hl n _ _ _ h) fun w a b cs=>step_lone_go (by simp[stepG,stepG.exec,Frame.at])
  ·exact Ko (Hl n _ _ _ h) fun w a b cs=>step_seq
  ·exact Ko (Hl n _ _ _ h) fun w a b cs=>step_block
  ·split at h
   ·rename_i k' hx;exact Ko (Hl n _ _ _ h) fun w a b cs=>step_exit hx
   ·exact h
  ·split at h
   ·rename_i hc;refine Pw (Hl n _ _ _ h) fun E w a b cs hI hF _=>?_;obtain⟨v,hv,hr⟩:=hF.rel _ _ hc;cases hr;exact⟨E,w,a,.one (step_cond (t:=true) (by simp[Act.eval,hv])),hI,Evol.refl _ _ _ _,hF⟩
   ·rename_i hc;refine Pw (Hl n _ _ _ h) fun E w a b cs hI hF _=>?_;obtain⟨v,hv,hr⟩:=hF.rel _ _ hc;cases hr;exact⟨E,w,a,.one (step_cond (t:=false) (by simp[Act.eval,hv])),hI,Evol.refl _ _ _ _,hF⟩
   ·exact h
  ·exact Ko (Hl n _ _ _ h) fun w a b cs=>step_region
  ·exact Ko (Hl n _ _ _ h) fun w a b cs=>step_region_end
  ·split at h
   ·rename_i o ho;split at h
    ·rename_i hw;split at h
     ·rename_i F' S' he;refine Pw (Hl n _ _ _ h) fun E w a b cs hI hF _=>?_;obtain⟨nx,v,E',w',h1,h2,h3,h4,h5⟩:=Ag3 hI hF he;exact⟨E',w',_,.one (Aj8 ho (Cm hF hw) h1 h2),h3,h4,h5⟩
     ·exact h
    ·rename_i hw;split at h
     ·rename_i d hd;split at h
      ·rename_i hlt;refine Pw (Hl n _ _ _ h) fun E w a b cs hI hF _=>?_;exact⟨E,w,_,.one (Xt ho (Cm hF hw)),hI,Evol.refl _ _ _ _,by rw[hd];exact hF.put (by simpa[Fs]using hlt) (.val undef)⟩
      ·exact h
     ·rename_i hd;refine Pw (Hl n _ _ _ h) fun E w a b cs hI hF _=>?_;exact⟨E,w,_,.one (Xt ho (Cm hF hw)),hI,Evol.refl _ _ _ _,by rw[hd];exact hF⟩
    ·exact h
   ·exact h
  ·exact h
theorem Bj{K K':List Item}{F':C3}{S':St}(n:Nat)(h:ev X B.fn.ntmps n K F S=(K',F',S'))(hk:AK X B K' F' S' R):AK X B K F S R:=
 Hl n K F S (by rw[h];exact hk)
end
section
variable {X:Cx}{B:Bx}{E:Env}{S:St}{w:World}{F:C3}{a:Act}{N:Nat}{R:AE→St→Prop}
def Env.drop(E:Env)(n m:Nat):Env:={ E with boxes:=E.boxes.take n,toks:=E.toks.take m }
def St.drop(S:St)(n m:Nat):St:=⟨S.boxes.take n,S.toks.take m⟩
def He(n m:Nat)(rows:List (List AV)):Prop:=∀r,r∈rows→∀x,x∈r→Ok n m x
theorem Gh{α:Type}{l:List α}{n i:Nat}{x:α}(h:(l.take n)[i]?=some x):i<n∧l[i]?=some x:=by
 rw[Ma]at h;split at h
 ·exact⟨by assumption,h⟩
 ·cases h
theorem Rm{n m b:Nat}(h:(E.drop n m).own b):E.own b:=by
 rcases h with⟨i,s,h⟩|⟨t,l,c,s,h⟩
 ·exact .inl ⟨i,s,(Gh h).2⟩
 ·exact .inr ⟨t,l,c,s,(Gh h).2⟩
theorem Aax{n m b o:Nat}(h:(E.drop n m).mt b o):E.mt b o:=by
 rcases h with h|⟨i,s,h⟩|⟨t,l,c,s,h,h'⟩
 ·exact .inl h
 ·exact .inr (.inl ⟨i,s,(Gh h).2⟩)
 ·exact .inr (.inr ⟨t,l,c,s,(Gh h).2,h'⟩)
theorem Evol.drop(E:Env)(w:World)(n m:Nat):Evol E w (E.drop n m) w n m where
 fr:=rfl
 boxes i hi hl:=⟨by simp[Env.drop];omega,fun x hx=>by simp[Env.drop,Ma,hi,hx]⟩
 toks t ht k hk:=⟨k,by simp[Env.drop,Ma,ht,hk],.inl rfl⟩
 os:=rfl
 tape:=rfl
 output:=rfl
 size:=Bo _
 block _ _ _:=rfl
 cell _ _ _ _ h:=h
 mt _ _ _ h:=Aax h
 own _ _ h:=Rm h
 df:=rfl
 ty _ _ h:=h
 pv _ _ _ _ _ _ _ _ _ h:=h
theorem Rel.drop{n m:Nat}{v:Value}{x:AV}(h:Rel E w v x)(ho:Ok n m x):Rel (E.drop n m) w v x:=h.mono (Evol.drop E w n m) ho
theorem Inv.drop(hI:Inv X E S w){n m:Nat}(hb:∀rows,rows∈S.boxes.take n→He n m rows):Inv X (E.drop n m) (S.drop n m) w where
 nb:=by simp[Env.drop,St.drop,hI.nb]
 nt:=by simp only[Env.drop,St.drop,List.map_take,hI.nt]
 np i hi:=by
  simp only[Env.drop,Ti]at hi⊢;rw[Ma,if_pos (by omega)];exact hI.np i (by omega)
 box i b sz rows h1 h2:=by
  obtain⟨cs,e,hh,hs,hl,hr⟩:=hI.box i b sz rows (Gh h1).2 (Gh h2).2;exact⟨cs,e,hh,hs,hl,fun k r j x v h3 h4 h5=>(hr k r j x v h3 h4 h5).drop (hb rows (Bh h2) r (Bh h3) x (Bh h4))⟩
 tok t l b c sz h:=hI.tok t l b c sz (Gh h).2
 bb i j b s s' h1 h2:=hI.bb i j b s s' (Gh h1).2 (Gh h2).2
 bt i t b s l c sz h1 h2:=hI.bt i t b s l c sz (Gh h1).2 (Gh h2).2
 tt i j b l c s l' c' s' h1 h2:=hI.tt i j b l c s l' c' s' (Gh h1).2 (Gh h2).2
 frlt b o h:=⟨fun h'=>(hI.frlt b o h).1 (Rm h'),(hI.frlt b o h).2⟩
 lo b h:=hI.lo b (Rm h)
 frlo:=hI.frlo
 sz:=hI.sz
 glob:=hI.glob
inductive Fz (S:St)(n m:Nat):AV→AV→Prop where
 |same (x:AV) (h:Ok n m x):Fz S n m x x
 |strip (rows rows':List (List AV)) (sp:Sp) (hl:rows'.length=rows.length) (hll:∀(i:Nat) (r r':List AV),rows[i]?=some r→rows'[i]?=some r'→r'.length=r.length)
   (hz:∀(i j:Nat)(r r':List AV)(x y:AV),rows[i]?=some r→rows'[i]?=some r'→r[j]?=some x→r'[j]?=some y→Fz S n m x y):Fz S n m (.sl rows sp) (.sl rows' .no)
 |ptr (b r o:Nat) (rows:List (List AV)) (cs cs':List AV) (hb:n≤b) (hS:S.boxes[b]?=some rows) (hr:rows[r]?=some cs) (hl:cs'.length=(cs.drop o).length)
   (hz:∀(j:Nat)(x y:AV),(cs.drop o)[j]?=some x→cs'[j]?=some y→Fz S n m x y):Fz S n m (.ptr b r o) (.cptr cs')
 |bsl (b k:Nat) (rows rows':List (List AV)) (hb:n≤b) (hS:S.boxes[b]?=some rows) (hk:k≤rows.length) (hkm:k≤O0) (hl:rows'.length=k)
   (hll:∀(i:Nat)(r r':List AV),rows[i]?=some r→rows'[i]?=some r'→r'.length=r.length)
   (hz:∀(i j:Nat)(r r':List AV)(x y:AV),rows[i]?=some r→rows'[i]?=some r'→r[j]?=some x→r'[j]?=some y→Fz S n m x y):Fz S n m (.bsl b k) (.sl rows' .no)
 |psl (rows:List (List AV)) (t v:Nat) (ht:m≤t) (hS:S.toks[t]?=some v) (ho:He n m rows):Fz S n m (.psl rows t v) (.sl rows .no)
 |agg (cs cs':List AV) (hl:cs'.length=cs.length) (hz:∀(j:Nat) (x y:AV),cs[j]?=some x→cs'[j]?=some y→Fz S n m x y):Fz S n m (.agg cs) (.agg cs')
 |tup (cs cs':List AV) (hl:cs'.length=cs.length) (hz:∀(j:Nat) (x y:AV),cs[j]?=some x→cs'[j]?=some y→Fz S n m x y):Fz S n m (.tup cs) (.tup cs')
 |fn (f:FuncId) (cs cs':List AV) (hl:cs'.length=cs.length) (hz:∀(j:Nat) (x y:AV),cs[j]?=some x→cs'[j]?=some y→Fz S n m x y):Fz S n m (.fn f cs) (.fn f cs')
theorem Ab{α:Type}(l:List α){i:Nat}(h:i<l.length):∃x,l[i]?=some x:=⟨l[i],by simp[h]⟩
theorem Fz.rel(hI:Inv X E S w){n m:Nat}{x y:AV}(h:Fz S n m x y):∀{v:Value},Rel E w v x→Rel (E.drop n m) w v y:=by
 have nomt:∀{b blk sz:Nat},n≤b→E.boxes[b]?=some (some (blk,sz))→∀o,¬(E.drop n m).mt blk o:=fun{b blk sz} hb hB o hm=>by
  rcases hm with h|⟨i,s,h⟩|⟨t,l,c,s,h,_⟩
  ·exact(hI.frlt _ _ h).1 (.inl ⟨b,sz,hB⟩)
  ·have:=hI.bb _ _ _ _ _ (Gh h).2 hB;have:=(Gh h).1;omega
  ·exact hI.bt _ _ _ _ _ _ _ hB (Gh h).2
 induction h with
 |same x h=>exact fun hx=>hx.drop h
 |strip rows rows' sp hl hll hz ih=>
  intro v hx;cases hx with
  |sl _ _ a n cap b o sz vals hn hx ha hsz hm hc hr hs hcap=>
   refine .sl rows' .no a n cap b o sz vals (by omega) hx ha (fun r hr'=>?_) (fun i j hi hj hh=>hm i j hi hj (Aax hh)) hc (fun i j r' y hi hj=>?_) trivial hcap
   ·obtain⟨i,hi⟩:=Bw hr';obtain⟨r0,hr0⟩:=Ab rows (i:=i) (by have:=Aa hi;omega);rw[hll i r0 r hr0 hi];exact hsz r0 (Bh hr0)
   ·obtain⟨r0,hr0⟩:=Ab rows (i:=i) (by have:=Aa hi;omega);obtain⟨x,hx'⟩:=Ab r0 (i:=j) (by have:=Aa hj;have:=hll i r0 r' hr0 hi;omega);exact ih i j r0 r' x y hr0 hi hx' hj (hr i j r0 x hr0 hx')
 |ptr b r o rows cs cs' hb hS hr hl hz ih=>
  intro v hx;cases hx with
  |ptr _ _ _ blk sz hB=>
   obtain⟨arr,e,hh,hs,hlen,hrel⟩:=hI.box b blk sz rows hB hS;have hcl:=hlen cs (Bh hr);have hr':=Aa hr;simp only[Ad4]at hl;have hin:∀j,j<cs'.length→r*sz+o+j<arr.size:=fun j hj=>by
    have:=Ig (sz:=sz) hr' (show o+j<sz by omega);omega
   refine .cptr cs' blk (r*sz+o) (fun j=>arr.getD (r*sz+o+j) default) (fun j _=>nomt hb hB _) (fun j hj=>?_) (fun j y hy=>?_)
   ·have:=hin j hj;simp[World.cell?,hh,this,Array.getD]
   ·have hj:=Aa hy;have hi:=hin j hj;obtain⟨x,hx⟩:=Ab (cs.drop o) (i:=j) (by simp;omega);exact ih j x y hx hy (hrel r cs (o+j) x _ hr (by simpa using hx) (by rw[←Nx];simp[hi,Array.getD]))
 |bsl b k rows rows' hb hS hk hkm hl hll hz ih=>
  intro v hx;cases hx with
  |bsl _ blk sz _ cap hB hcap=>
   obtain⟨arr,e,hh,hs,hlen,hrel⟩:=hI.box b blk sz rows hB hS;have hin:∀i j,i<k→j<sz→i*sz+j<arr.size:=fun i j hi hj=>by
    have:=Ig (sz:=sz) (show i<rows.length by omega) hj;omega
   refine .sl rows' .no _ k cap blk 0 sz (fun i j=>arr.getD (i*sz+j) default) (by omega) hkm (fun _=>rfl) (fun r' hr'=>?_) (fun i j _ _=>nomt hb hB _) (fun i j hi hj=>?_) (fun i j r' y hr' hy=>?_) trivial hcap
   ·obtain⟨i,hi⟩:=Bw hr';obtain⟨r,hr⟩:=Ab rows (i:=i) (by have:=Aa hi;omega);rw[hll i r r' hr hi];exact hlen r (Bh hr)
   ·have:=hin i j hi hj;rw[Jt];simp[World.cell?,hh,this,Array.getD]
   ·have hi:=Aa hr';obtain⟨r,hr⟩:=Ab rows (i:=i) (by omega);have hjl:=Aa hy;rw[hll i r r' hr hr']at hjl;obtain⟨x,hx⟩:=Ab r hjl;have hjs:j<sz:=by rw[←hlen r (Bh hr)];exact hjl
    have:=hin i j (by omega) hjs;exact ih i j r r' x y hr hr' hx hy (hrel i r j x _ hr hx (by simp[this,Array.getD]))
 |psl rows t ver ht hS ho=>
  intro v hx;cases hx with
  |psl _ _ _ a n' cap k sz vals hn hx hcap hk hv hsz hp hr hf=>
   have hkl:ver=k.len:=by
    have h1:=hI.nt;have h2:(E.toks.map Tk.len)[t]?=some k.len:=by simp[hk]
    rw[h1,hS]at h2;exact Option.some.inj h2
   have hp:=hp hkl;obtain⟨kl,ksp⟩:=k;have hrel:∀(i j:Nat) (r:List AV) (x:AV),rows[i]?=some r→r[j]?=some x→Rel (E.drop n m) w (vals i j) x:=fun i j r x h1 h2=>
    (hr i j r x h1 h2).drop (ho r (Bh h1) x (Bh h2))
   cases ksp with
   |none=>
    obtain⟨rfl,rfl⟩:=hp;exact .sl rows .no a 0 0 0 0 sz vals hn hx (fun h=>absurd rfl h) hsz (fun i j hi=>by omega) (fun i j hi=>by omega) hrel trivial hcap
   |some q=>
    obtain⟨b,c,s⟩:=q;obtain⟨_,rfl,rfl,rfl,cs,e,hh,hcs,hcl⟩:=hp;refine .sl rows .no _ n' c b 0 sz vals hn hx (fun _=>rfl) hsz (fun i j _ _ hm=>?_) (fun i j hi hj=>?_) hrel trivial hcap
    ·rcases hm with h|⟨i,s,h⟩|⟨t',l,c',s,h,_⟩
     ·exact(hI.frlt _ _ h).1 (.inr ⟨t,kl,c,0,hk⟩)
     ·exact hI.bt _ _ _ _ _ _ _ (Gh h).2 hk
     ·have:=hI.tt _ _ _ _ _ _ _ _ _ (Gh h).2 hk;have:=(Gh h).1;omega
    ·rw[Jt];simp only[World.cell?,hh];exact hcl i j hi hj
 |agg cs cs' hl hz ih=>
  intro v hx;cases hx with
  |agg vs _ hl' hr=>
   refine .agg vs cs' (by omega) (fun j v y hv hy=>?_);obtain⟨x,hx⟩:=Ab cs (i:=j) (by have:=Aa hy;omega);exact ih j x y hx hy (hr j v x hv hx)
 |tup cs cs' hl hz ih=>
  intro v hx;cases hx with
  |tup vs _ hl' hr=>
   refine .tup vs cs' (by omega) (fun j v y hv hy=>?_);obtain⟨x,hx⟩:=Ab cs (i:=j) (by have:=Aa hy;omega);exact ih j x y hx hy (hr j v x hv hx)
 |fn f cs cs' hl hz ih=>
  intro v hx;cases hx with
  |fn _ vs _ hl' hr=>
   refine .fn f vs cs' (by omega) (fun j v y hv hy=>?_);obtain⟨x,hx⟩:=Ab cs (i:=j) (by have:=Aa hy;omega);exact ih j x y hx hy (hr j v x hv hx)
def Md(X:Cx)(F:C3)(S:St):List ResultVar→Option (List AV)
 |[]=>some []
 |.tmp t::l=>match lk F t with
  |some x=>match Md X F S l with
   |some xs=>some (x::xs)
   |none=>none
  |none=>none
 |.cell t ty::l=>match lk F t with
  |some p=>match Q0 X ty with
   |some (sz,agg)=>match Tf S sz agg p with
    |some x=>match Md X F S l with
     |some xs=>some (x::xs)
     |none=>none
    |none=>none
   |none=>none
  |none=>none
def C5:List AV→AV
 |[x]=>x
 |xs=>.tup xs
theorem Aip(t:TypeId)(v:Value)(u:Value)(w':World)(h:(Instr.loadAt t v).run X.P w=.ok u w'):(do loadVar t (←asAddr v):Sem Value).run X.P w=.ok u w':=by
 cases v<;>try (simp[Instr.loadAt,Instr.sureAddr]at h;done)
 rename_i p;cases p with
 |none=>simp[Instr.loadAt,Instr.sureAddr]at h
 |some p=>simpa[Instr.loadAt,Instr.sureAddr,asAddr]using h
def Aam(tmps:Array Value):ResultVar→Sem Value
 |.tmp t=>pure (tmps.getD t undef)
 |.cell p t=>do loadVar t (←asAddr (tmps.getD p undef))
theorem Amj(fn:Func)(tmps:Array Value):results fn tmps=(do
 let vs ←fn.results.mapM (Aam tmps)
 pure (if h:vs.size=1 then vs[0]else .tuple vs)):=by
 have:(fun(x:ResultVar)=>match x with
  |.tmp t=>pure (tmps.getD t undef)
  |.cell a t=>do loadVar t (←asAddr (tmps.getD a undef)))=Aam tmps:=by
  funext x;cases x<;>rfl
 unfold results;rw[←this];rfl
theorem Xn(hI:Inv X E S w)(hF:FR E w F a N):∀(l:List ResultVar)(xs:List AV),Md X F S l=some xs →
 ∃vs:List Value,(l.mapM (Aam a.tmps)).run X.P w=.ok vs w∧vs.length=xs.length∧∀(j:Nat) (v:Value) (x:AV),vs[j]?=some v→xs[j]?=some x→Rel E w v x
 |[],xs,h=>by simp[Md]at h;subst h;exact⟨[],by simp,rfl,fun j v x hv=>by simp at hv⟩
 |.tmp t::l,xs,h=>by
  simp only[Md]at h;split at h
  ·rename_i x hx;split at h
   ·rename_i xs' hxs;cases h;obtain⟨vs,h1,h2,h3⟩:=Xn hI hF l xs' hxs;obtain⟨v,hv,hr⟩:=hF.rel t x hx;have hone:(Aam a.tmps (.tmp t)).run X.P w=.ok v w:=by simp[Aam,hv]
    refine⟨v::vs,?_,by simp[h2],fun j u y hu hy=>?_⟩
    ·simp[List.mapM_cons,hone,h1]
    ·cases j with
     |zero=>simp at hu hy;subst hu;subst hy;exact hr
     |succ j=>exact h3 j u y (by simpa using hu) (by simpa using hy)
   ·cases h
  ·cases h
 |.cell t ty::l,xs,h=>by
  simp only[Md]at h;split at h
  ·rename_i p hp;cases hy:X.ty ty with
   |none=>simp[Q0,hy]at h
   |some y=>
    simp only[Q0,hy]at h;split at h
    ·rename_i x hx;split at h
     ·rename_i xs' hxs;cases h;obtain⟨vs,h1,h2,h3⟩:=Xn hI hF l xs' hxs;obtain⟨v,hv,hr⟩:=hF.rel t p hp;obtain⟨u,hu,hru⟩:=Aa8 hI hy hr hx;have hu':=Aip ty v u w hu;have hv':a.tmps.getD t undef=v:=by simp[hv]
      have hone:(Aam a.tmps (.cell t ty)).run X.P w=.ok u w:=by
       show (do loadVar ty (←asAddr (a.tmps.getD t undef)):Sem Value).run X.P w=.ok u w;rw[hv'];exact hu'
      refine⟨u::vs,?_,by simp[h2],fun j u' y' hu' hy'=>?_⟩
      ·simp[List.mapM_cons,hone,h1]
      ·cases j with
       |zero=>simp at hu' hy';subst hu';subst hy';exact hru
       |succ j=>exact h3 j u' y' (by simpa using hu') (by simpa using hy')
     ·cases h
    ·cases h
  ·cases h
theorem M4(hI:Inv X E S w)(hF:FR E w F a N){fn:Func}{xs:List AV}(h:Md X F S fn.results.toList=some xs) :
 ∃v,(results fn a.tmps).run X.P w=.ok v w∧Rel E w v (C5 xs):=by
 obtain⟨vs,h1,h2,h3⟩:=Xn hI hF _ xs h;have hm:(results fn a.tmps).run X.P w=.ok (if h:vs.length=1 then vs[0]else .tuple vs.toArray) w:=by
  rw[Amj,Array.mapM_eq_mapM_toList];simp[h1]
 refine⟨_,hm,?_⟩;by_cases h1':vs.length=1
 ·rw[dif_pos h1'];have:∃x,xs=[x]:=by
   rw[h1']at h2;cases xs with
   |nil=>simp at h2
   |cons x l=>cases l with
    |nil=>exact⟨x,rfl⟩
    |cons y l=>simp at h2
  obtain⟨x,rfl⟩:=this;exact h3 0 _ x (by simp) rfl
 ·rw[dif_neg h1'];have:C5 xs=.tup xs:=by
   cases xs with
   |nil=>rfl
   |cons x l=>cases l with
    |nil=>exact absurd (by simpa using h2) h1'
    |cons y l=>rfl
  rw[this];exact .tup _ _ (by simp[h2]) (fun j v x hv hx=>h3 j v x (by simpa using hv) hx)
theorem Aj4(hI:Inv X E S w)(hF:FR E w F a B.fn.ntmps)(hf:X.P.funcs[B.f]?=some B.fn){xs:List AV}(h:Md X F S B.fn.results.toList=some xs)(m:Nat)(hm:B.m≤m)
 {r:AV}(hz:Fz S B.n m (C5 xs) r)(hbox:∀rows,rows∈S.boxes.take B.n→He B.n m rows)(hR:R (.ret r) (S.drop B.n m)){fr:Frame}(hfn:fr.fn=B.f)(hmode:fr.mode=.returning)
 (hd:fr.defers=E.df){κ:CallKind}(hk:fr.kind=κ)(ht:fr.tmps=a.tmps):∃e,Aij X E w B.n B.m R e w∧Ahn X.P fr w E.df κ e∧∃v,e=.returned v:=by
 obtain⟨v,h1,h2⟩:=M4 hI hF h;refine⟨.returned v,⟨E.drop B.n m,S.drop B.n m,hI.drop hbox,(Evol.drop E w B.n m).weaken (Bo _) hm,r,hz.rel hI h2,hR⟩,⟨hmode,hd,hk,B.fn,by rw[hfn];exact hf,by rw[ht];exact h1⟩,v,rfl⟩
theorem E5{k:List Item}(hf:X.P.funcs[B.f]?=some B.fn){xs:List AV}(h:Md X F S B.fn.results.toList=some xs)(m:Nat)(hm:B.m≤m){r:AV}(hz:Fz S B.n m (C5 xs) r)
 (hbox:∀rows,rows∈S.boxes.take B.n→He B.n m rows)(hR:R (.ret r) (S.drop B.n m)):AK X B (.code .ret::k) F S R:=by
 intro E w a b cs hI hF _ _ hb;obtain⟨e,h1,h2,v,rfl⟩:=Aj4 (R:=R) hI hF hf h m hm hz hbox hR (fr:={ b.at a (.code .ret::k)with mode:=.returning }) hb rfl hF.nod (κ:=b.kind) rfl rfl;exact .inl ⟨_,w,_,h1,.one step_ret,hb,h2⟩
theorem Am0(hf:X.P.funcs[B.f]?=some B.fn){xs:List AV}(h:Md X F S B.fn.results.toList=some xs)(m:Nat)(hm:B.m≤m){r:AV}(hz:Fz S B.n m (C5 xs) r)
 (hbox:∀rows,rows∈S.boxes.take B.n→He B.n m rows)(hR:R (.ret r) (S.drop B.n m)):AK X B [] F S R:=by
 intro E w a b cs hI hF _ _ hb;obtain⟨e,h1,h2,v,rfl⟩:=Aj4 (R:=R) hI hF hf h m hm hz hbox hR (fr:={ b.at a []with mode:=.returning }) hb rfl hF.nod (κ:=b.kind) rfl rfl;exact .inl ⟨_,w,_,h1,.one step_end,hb,h2⟩
def Oq:Nat→List AV→C3
 |_,[]=>[]
 |i,x::l=>(i,x)::Oq (i+1) l
theorem Ab1:∀(l:List AV)(i k:Nat)(x:AV),lk (Oq i l) k=some x→i≤k∧l[k-i]?=some x
 |[],i,k,x,h=>by simp[Oq,lk]at h
 |y::l,i,k,x,h=>by
  simp only[Oq,J1]at h;split at h
  ·rename_i hk;subst hk;cases h;exact⟨Bo _,by simp⟩
  ·obtain⟨h1,h2⟩:=Ab1 l (i+1) k x h;refine⟨by omega,?_⟩;rw[show k-i=(k-(i+1))+1 by omega];simpa using h2
theorem ACalls.of{f:FuncId}{fn:Func}{c:Code}{args:List AV}(hf:X.P.funcs[f]?=some fn)(hb:fn.body=some c)(hl:args.length≤fn.ntmps)
 (h:AK X ⟨f,fn,S.boxes.length,S.toks.length⟩ [.code c] (Oq 0 args) S R)(hh:∀C S,¬R (.hook C) S):ACalls X f args S R:=by
 intro E w vs hdf hI hs hr cs
 let b:Frame:={ (default:Frame)with fn:=f,kind:=.normal }
 let a:Act:={ tmps:=vs++Array.replicate (fn.ntmps-vs.size) undef,defers:=[] }
 have henter:Frame.enter X.P f vs .normal=b.at a [.code c]:=by simp[Frame.enter,Frame.at,hf,hb,b,a]
 have hF:FR E w (Oq 0 args) a fn.ntmps:=by
  refine⟨by simp[a];omega,hdf.symm,fun k x hk=>?_⟩;obtain⟨_,h2⟩:=Ab1 args 0 k x hk;simp only[Nat.sub_zero]at h2;have hlt:k<vs.size:=by rw[hs];exact Aa h2
  exact⟨vs[k],by simp only[a];rw[Zd hlt];simp[hlt],hr k _ x (by simp[hlt]) h2⟩
 rw[henter];rcases h E w a b cs hI hF (Bo _) (Bo _) rfl with⟨e,w',fr,h1,h2,h3,h4⟩|⟨C,h1,_⟩
 ·rw[hdf]at h4;exact⟨e,w',fr,h1,h2,h3,Ajc h4⟩
 ·exact absurd h1 (hh C _)
theorem Rj{c:Code}{k:List Item}(h:AK X B (.code c::.inLoop c::k) F S R):AK X B (.code (.loop c)::k) F S R:=Ko h fun w a b cs=>step_loop
theorem P4{c:Code}{k:List Item}(h:AK X B (.code c::.inLoop c::k) F S R):AK X B (.inLoop c::k) F S R:=Ko h fun w a b cs=>step_inLoop
def Sub:C3→C3→Prop
 |[],_=>True
 |(k,x)::G,F=>lk F k=some x∧Sub G F
theorem Alu:∀{G F:C3},Sub G F→∀k x,lk G k=some x→lk F k=some x
 |[],F,_,k,x,h=>by simp[lk]at h
 |(d,y)::G,F,⟨h1,h2⟩,k,x,h=>by
  rw[J1]at h;split at h
  ·rename_i hk;subst hk;cases h;exact h1
  ·exact Alu h2 k x h
theorem Tq{K:List Item}{G:C3}(hs:Sub G F)(h:AK X B K G S R):AK X B K F S R:=fun E w a b cs hI hF=>
 h E w a b cs hI ⟨hF.size,hF.nod,fun k x hk=>hF.rel k x (Alu hs k x hk)⟩
theorem Avi{K:List Item}{G:C3}(n m:Nat)(hs:Sub G F)(hn:B.n≤n)(hm:B.m≤m)(hn':n≤S.boxes.length)(hm':m≤S.toks.length)(hG:∀p,p∈G→Ok n m p.2)
 (hbox:∀rows,rows∈S.boxes.take n→He n m rows)(h:AK X B K G (S.drop n m) R):AK X B K F S R:=by
 intro E w a b cs hI hF hBn hBm hb;have hF':FR (E.drop n m) w G a B.fn.ntmps:=⟨hF.size,hF.nod,fun k x hx=>by
  obtain⟨v,h1,h2⟩:=hF.rel k x (Alu hs k x hx);refine⟨v,h1,h2.drop ?_⟩;have:∃p,p∈G∧p.2=x:=by
   clear hs hG h
   induction G with
   |nil=>simp[lk]at hx
   |cons q G ih=>
    obtain⟨d,y⟩:=q;rw[J1]at hx;split at hx
    ·cases hx;exact⟨(d,x),by simp,rfl⟩
    ·obtain⟨p,hp,hpx⟩:=ih hx;exact⟨p,by simp[hp],hpx⟩
  obtain⟨p,hp,rfl⟩:=this;exact hG p hp⟩
 exact Fin.from (Steps.refl _ _) ((Evol.drop E w n m).weaken hn hm) (h (E.drop n m) w a b cs (hI.drop hbox) hF' (by simp[St.drop];omega) (by simp[St.drop];omega) hb)
class LtC (a b:Nat):Prop where
 lt:a<b
instance{b:Nat}:LtC 0 (b+1):=⟨Nat.succ_pos _⟩
instance{a b:Nat} [h:LtC a b]:LtC (a+1) (b+1):=⟨Nat.succ_lt_succ h.lt⟩
class OK (n m:Nat)(x:AV):Prop where
 ok:Ok n m x
class OKL (n m:Nat)(l:List AV):Prop where
 ok:∀x,x∈l→Ok n m x
class OKR (n m:Nat)(rows:List (List AV)):Prop where
 ok:He n m rows
class OKB (n m:Nat)(bx:List (List (List AV))):Prop where
 ok:∀rows,rows∈bx→He n m rows
class OKF (n m:Nat)(F:C3):Prop where
 ok:∀p,p∈F→Ok n m p.2
section
variable {n m:Nat}
instance{v:Value}:OK n m (.val v):=⟨.val v⟩
instance:OK n m .err:=⟨.err⟩
instance{b r o:Nat} [h:LtC b n]:OK n m (.ptr b r o):=⟨.ptr b r o h.lt⟩
instance{b k:Nat} [h:LtC b n]:OK n m (.bsl b k):=⟨.bsl b k h.lt⟩
instance{te b:Nat} [h:LtC b n]:OK n m (.tagN te b):=⟨.tagN te b h.lt⟩
instance{te t:Nat}{s:List UInt8} [h:LtC t m]:OK n m (.buf te s t):=⟨.buf te s t h.lt⟩
instance{rows:List (List AV)}{t v:Nat} [h:LtC t m] [hf:OKR 0 0 rows]:OK n m (.psl rows t v):=⟨.psl rows t v h.lt (fun r hr x hx=>((hf.ok r hr x hx).flat rfl rfl).ok) (fun r hr x hx=>((hf.ok r hr x hx).flat rfl rfl).noT)⟩
instance{rows:List (List AV)} [h:OKR n m rows]:OK n m (.sl rows .no):=⟨.sl rows _ h.ok (fun t ht=>by cases ht)⟩
instance{rows:List (List AV)} [h:OKR n m rows]:OK n m (.sl rows .tight):=⟨.sl rows _ h.ok (fun t ht=>by cases ht)⟩
instance{rows:List (List AV)}{t:Nat} [h:OKR n m rows] [ht:LtC t m]:OK n m (.sl rows (.tok t)):=⟨.sl rows _ h.ok (fun t' ht'=>by cases ht';exact ht.lt)⟩
instance{cs:List AV} [h:OKL n m cs]:OK n m (.cptr cs):=⟨.cptr cs h.ok⟩
instance{cs:List AV} [h:OKL n m cs]:OK n m (.agg cs):=⟨.agg cs h.ok⟩
instance{cs:List AV} [h:OKL n m cs]:OK n m (.tup cs):=⟨.tup cs h.ok⟩
instance{f:FuncId}{cs:List AV} [h:OKL n m cs]:OK n m (.fn f cs):=⟨.fn f cs h.ok⟩
instance:OKL n m []:=⟨fun x hx=>by cases hx⟩
instance{x:AV}{l:List AV} [h:OK n m x] [t:OKL n m l]:OKL n m (x::l):=⟨fun y hy=>by
 rcases zzq13.1 hy with rfl|hy
 ·exact h.ok
 ·exact t.ok y hy⟩
instance{l l':List AV} [h:OKL n m l] [t:OKL n m l']:OKL n m (l++l'):=⟨fun y hy=>by
 rcases zzq47.1 hy with hy|hy
 ·exact h.ok y hy
 ·exact t.ok y hy⟩
instance:OKR n m []:=⟨fun r hr=>by cases hr⟩
instance{r:List AV}{rows:List (List AV)} [h:OKL n m r] [t:OKR n m rows]:OKR n m (r::rows):=⟨fun q hq=>by
 rcases zzq13.1 hq with rfl|hq
 ·exact h.ok
 ·exact t.ok q hq⟩
instance{rows rows':List (List AV)} [h:OKR n m rows] [t:OKR n m rows']:OKR n m (rows++rows'):=⟨fun q hq=>by
 rcases zzq47.1 hq with hq|hq
 ·exact h.ok q hq
 ·exact t.ok q hq⟩
instance:OKB n m []:=⟨fun r hr=>by cases hr⟩
instance{rows:List (List AV)}{bx:List (List (List AV))} [h:OKR n m rows] [t:OKB n m bx]:OKB n m (rows::bx):=⟨fun q hq=>by
 rcases zzq13.1 hq with rfl|hq
 ·exact h.ok
 ·exact t.ok q hq⟩
instance:OKF n m []:=⟨fun r hr=>by cases hr⟩
instance{k:Nat}{x:AV}{F:C3} [h:OK n m x] [t:OKF n m F]:OKF n m ((k,x)::F):=⟨fun q hq=>by
 rcases zzq13.1 hq with rfl|hq
 ·exact h.ok
 ·exact t.ok q hq⟩
end
theorem B3{K:List Item}{G:C3}{bx:List (List (List AV))}{tk:List Nat}(n m:Nat)(h:AK X B K G ⟨bx,tk⟩ R)(hs:Sub G F)(hS:S.drop n m=⟨bx,tk⟩)(hn:Nat.ble B.n n=true)(hm:Nat.ble B.m m=true)
 (hn':Nat.ble n S.boxes.length=true)(hm':Nat.ble m S.toks.length=true) [hG:OKF n m G] [hbox:OKB n m bx]:AK X B K F S R:=by
 refine Avi n m hs (I7 hn) (I7 hm) (I7 hn') (I7 hm') hG.ok ?_ (by rw[hS];exact h);have:S.boxes.take n=bx:=by have:=congrArg St.boxes hS;exact this
 rw[this];exact hbox.ok
theorem Zn{k:List Item}{f:FuncId}{fn:Func}{n m:Nat}{bx:List (List (List AV))}{tk:List Nat}{r:AV}{xs:List AV}(hf:X.P.funcs[f]?=some fn)(h:Md X F S fn.results.toList=some xs)
 (hm:Nat.ble m tk.length=true)(hS:S.drop n tk.length=⟨bx,tk⟩) [hr:OK n tk.length r] [hbox:OKB n tk.length bx](hr0:C5 xs=r) :
 AK X ⟨f,fn,n,m⟩ (.code .ret::k) F S fun e S'=>e=.ret r∧S'=⟨bx,tk⟩:=by
 subst hr0;refine E5 (B:=⟨f,fn,n,m⟩) hf h tk.length (I7 hm) (.same _ hr.ok) ?_ ⟨rfl,hS⟩;have:S.boxes.take n=bx:=by have:=congrArg St.boxes hS;exact this
 show ∀rows,rows∈S.boxes.take n→He n tk.length rows;rw[this];exact hbox.ok
theorem Jn{f:FuncId}{fn:Func}{c:Code}{args:List AV}{n m:Nat}(hf:X.P.funcs[f]?=some fn)(hb:fn.body=some c)(hl:Nat.ble args.length fn.ntmps=true)
 (hn:S.boxes.length=n)(hm:S.toks.length=m)(h:AK X ⟨f,fn,n,m⟩ [.code c] (Oq 0 args) S R)(hh:∀C S,¬R (.hook C) S:=by intro C S h;exact nomatch h.1):ACalls X f args S R:=
 ACalls.of hf hb (I7 hl) (by rw[hn,hm];exact h) hh
theorem N0{t:Nat}{x y:Code}{k:List Item}{e:Bool}(hc:lk F t=some (.val (.bool e)))(h1:e=true→AK X B (.code x::k) ((t,.lit true)::F) S R)
 (h2:e=false→AK X B (.code y::k) ((t,.lit false)::F) S R):AK X B (.code (.cond (.tmp t) x y)::k) F S R:=by
 have lit:∀{E:Env} {w:World} {a:Act} (b:Bool),a.tmps[t]?=some (.bool b)→FR E w F a B.fn.ntmps→FR E w ((t,.lit b)::F) a B.fn.ntmps:=fun{E w a} b hv hF=>
  ⟨hF.size,hF.nod,fun k x hx=>by
    rw[J1]at hx;split at hx
    ·rename_i hk;subst hk;cases hx;exact⟨_,hv,.lit b⟩
    ·exact hF.rel k x hx⟩
 cases he:e with
 |true=>
  subst he;refine Pw (h1 rfl) fun E w a b cs hI hF _=>?_;obtain⟨v,hv,hr⟩:=hF.rel _ _ hc;cases hr;exact⟨E,w,a,.one (step_cond (t:=true) (by simp[Act.eval,hv])),hI,Evol.refl _ _ _ _,lit true hv hF⟩
 |false=>
  subst he;refine Pw (h2 rfl) fun E w a b cs hI hF _=>?_;obtain⟨v,hv,hr⟩:=hF.rel _ _ hc;cases hr;exact⟨E,w,a,.one (step_cond (t:=false) (by simp[Act.eval,hv])),hI,Evol.refl _ _ _ _,lit false hv hF⟩
theorem X0{t:Nat}{K:List Item}{e:Bool}(hc:lk F t=some (.val (.bool e)))(h1:e=true→AK X B K ((t,.lit true)::F) S R)
 (h2:e=false→AK X B K ((t,.lit false)::F) S R):AK X B K F S R:=by
 intro E w a b cs hI hF;have key:∀(c:Bool),e=c→FR E w ((t,.lit c)::F) a B.fn.ntmps:=fun c hce=>
  ⟨hF.size,hF.nod,fun k x hx=>by
    rw[J1]at hx;split at hx
    ·rename_i hk;subst hk;cases hx;obtain⟨v,hv,hr⟩:=hF.rel _ _ hc;cases hr;subst hce;exact⟨_,hv,.lit e⟩
    ·exact hF.rel k x hx⟩
 cases he:e with
 |true=>exact h1 he E w a b cs hI (key true he)
 |false=>exact h2 he E w a b cs hI (key false he)
end
def A25:Option TypeDesc→Bool
 |some (.struct _)=>true
 |some (.array _ _)=>true
 |_=>false
def Awn(size:Nat):List (Nat×Nat)→Bool
 |[]=>true
 |(off,sz)::l=>match Nat.blt 0 sz with
  |true=>match Nat.ble (off+sz) size with
   |true=>Awn size l
   |false=>false
  |false=>false
def A1e(P:Program)(t:TypeId):Option Ty:=
 match P.info? t with
 |none=>none
 |some i=>match i.zero with
  |none=>none
  |some z=>match Nat.ble i.bytes 1024 with
   |false=>none
   |true=>match Nat.beq (z.cells.toList.map Ib).length i.size with
    |false=>none
    |true=>match P.underlying t with
     |some (.struct fields)=>match fields.toList.mapM (fun f=>(P.info? f.type).map fun i=>(f.offset,i.size))with
      |some fs=>match Awn i.size fs&&fields.toList.all (fun f=>(P.underlying f.type).isSome)with
       |true=>some ⟨i.size,.str fs,z.cells.toList.map Ib,fields.toList.map fun f=>A25 (P.underlying f.type)⟩
       |false=>none
      |none=>none
     |some (.array n e)=>some ⟨i.size,.arr n e,z.cells.toList.map Ib,[]⟩
     |some d=>match Nat.beq i.size 1 with
      |false=>none
      |true=>some ⟨i.size,(match d with
       |.slice e=>.slc e
       |.int k=>.int k
       |.string=>.string
       |.bool=>.bool
       |_=>.flat),z.cells.toList.map Ib,[]⟩
     |none=>none
def Aka:List (Nat×Ty)→Nat→Option Ty
 |[],_=>none
 |(k,y)::l,t=>match Nat.beq k t with
  |true=>some y
  |false=>Aka l t
def Ag2(ty:Nat→Option Ty)(y:Ty):Bool:=
 match y.k with
 |.arr n e=>match ty e with
  |some ye=>match Nat.beq (n*ye.size) y.size with
   |true=>Nat.blt 0 ye.size
   |false=>false
  |none=>false
 |.slc e=>match ty e with
  |some ye=>Nat.blt 0 ye.size
  |none=>false
 |_=>true
def Ar7(P:Program)(ty:Nat→Option Ty):List (Nat×Ty)→Prop
 |[]=>True
 |(t,y)::l=>A1e P t=some y∧Ag2 ty y=true∧Ar7 P ty l
theorem Ae6{size:Nat}:∀{fs:List (Nat×Nat)},Awn size fs=true→∀(i off sz:Nat),fs[i]?=some (off,sz)→sz≠0∧off+sz≤size
 |[],_,i,off,sz,h=>by simp at h
 |(o,s)::l,hk,i,off,sz,h=>by
  simp only[Awn]at hk;split at hk
  ·rename_i h1;split at hk
   ·rename_i h2;cases i with
    |zero=>
     simp at h;obtain⟨rfl,rfl⟩:=h;exact⟨by simp[Fs]at h1;omega,I7 h2⟩
    |succ i=>exact Ae6 hk i off sz (by simpa using h)
   ·cases hk
  ·cases hk
theorem Ajh{α β:Type}{f:α→Option β}:∀{l:List α}{r:List β},l.mapM f=some r→∀(i:Nat)(y:β),r[i]?=some y→∃x,l[i]?=some x∧f x=some y
 |[],r,h,i,y,hy=>by simp at h;subst h;simp at hy
 |a::l,r,h,i,y,hy=>by
  simp only[List.mapM_cons,Option.bind_eq_bind,Option.pure_def]at h;cases ha:f a with
  |none=>simp[ha]at h
  |some b=>
   cases hl:l.mapM f with
   |none=>simp[ha,hl]at h
   |some r'=>
    simp[ha,hl]at h;subst h;cases i with
    |zero=>simp at hy;subst hy;exact⟨a,rfl,ha⟩
    |succ i=>obtain⟨x,h1,h2⟩:=Ajh hl i y (by simpa using hy);exact⟨x,by simpa using h1,h2⟩
theorem Axf{P:Program}{ty:Nat→Option Ty}{t:Nat}{y:Ty}(h:A1e P t=some y)(he:Ag2 ty y=true):TyOk P t y ty:=by
 unfold A1e at h;split at h
 ·cases h
 ·rename_i i hi;split at h
  ·cases h
  ·rename_i z hz;split at h
   ·cases h
   ·rename_i hb;split at h
    ·cases h
    ·rename_i hl;have hl':(z.cells.toList.map Ib).length=i.size:=U5 hl;have hb':=I7 hb;split at h
     ·rename_i fields hd;split at h
      ·rename_i fs hfs;split at h
       ·rename_i hok0;simp only[Da]at hok0;obtain⟨hok,hall⟩:=hok0;cases h;refine⟨⟨i,z,hi,rfl,hb',hz,rfl,hl',fun hk=>by simp[Gd]at hk⟩,⟨_,hd,fields,rfl,hfs,fun k off sz hk=>?_⟩⟩;obtain⟨h1,h2⟩:=Ae6 hok k off sz hk;obtain⟨f,hf,hff⟩:=Ajh hfs k _ hk;cases hif:P.info? f.type with
        |none=>simp[hif]at hff
        |some i'=>
         simp[hif]at hff;refine⟨f,i',by simpa using hf,hff.1,hif,hff.2,h1,h2,fun g hg=>?_⟩;have hf':fields.toList[k]?=some f:=hf;rw[Gm,hf']at hg;simp at hg;cases hu:P.underlying f.type with
         |none=>
          have:=zzq50.1 hall f (Bh hf');simp[hu]at this
         |some d'=>
          refine⟨d',rfl,?_⟩;subst hg;rw[hu];cases d'<;>simp[A25]
       ·cases h
      ·cases h
     ·rename_i n e hd;cases h;refine⟨⟨i,z,hi,rfl,hb',hz,rfl,hl',fun hk=>by simp[Gd]at hk⟩,⟨_,hd,rfl,?_⟩⟩;simp only[Ag2]at he;split at he
      ·rename_i ye hye;split at he
       ·rename_i hm;exact⟨ye,hye,U5 hm,by simp[Fs]at he;omega⟩
       ·cases he
      ·cases he
     ·rename_i d hns hna hd;split at h
      ·cases h
      ·rename_i h1;have h1':=U5 h1;cases h;refine⟨⟨i,z,hi,rfl,hb',hz,rfl,hl',fun _=>h1'⟩,⟨d,hd,?_⟩⟩;cases d<;>first
        |rfl
        |(exact(hns _ rfl).elim)
        |(exact(hna _ _ rfl).elim)
        |(show (∀(fs:Array Field),_≠TypeDesc.struct fs)∧(∀(n e:Nat),_≠TypeDesc.array n e)
          exact⟨fun _ h=>(by cases h),fun _ _ h=>(by cases h)⟩)
        |(simp only[Ag2]at he
          split at he
          ·rename_i ye hye;exact⟨rfl,ye,hye,by simp[Fs]at he;omega⟩
          ·cases he)
     ·cases h
theorem Au4{P:Program}{ty:Nat→Option Ty}:∀{l:List (Nat×Ty)},Ar7 P ty l→∀t y,Aka l t=some y→TyOk P t y ty
 |[],_,t,y,h=>by simp[Aka]at h
 |(k,y')::l,⟨h1,h2,h3⟩,t,y,h=>by
  simp only[Aka]at h;split at h
  ·rename_i hk;cases h;have:=U5 hk;subst this;exact Axf h1 h2
  ·exact Au4 h3 t y h
def Nq(P:Program)(f:FuncId):Prop:=∃fn,P.funcs[f]?=some fn∧(fn.name == "runtime.NumGoroutine")=false∧fn.body.isNone=false
def Pure(X:Cx)(f:FuncId)(args:List AV)(r:AV):Prop:=
 Nq X.P f∧ACalls X f args ⟨[],[]⟩ fun e S=>e=.ret r∧S=⟨[],[]⟩
inductive Strip:AV→AV→Prop where
 |flat (x:AV) (h:Ok 0 0 x):Strip x x
 |sl (rows:List (List AV)) (sp:Sp) (h:He 0 0 rows):Strip (.sl rows sp) (.sl rows .no)
 |agg (cs cs':List AV) (hl:cs'.length=cs.length) (hz:∀(j:Nat) (x y:AV),cs[j]?=some x→cs'[j]?=some y→Strip x y):Strip (.agg cs) (.agg cs')
inductive StripL:List AV→List AV→Prop where
 |nil:StripL [] []
 |cons {x y:AV} {l l':List AV} (h:Strip x y) (t:StripL l l'):StripL (x::l) (y::l')
theorem StripL.get{l l':List AV}(h:StripL l l'):l'.length=l.length∧∀(j:Nat)(x y:AV),l[j]?=some x→l'[j]?=some y→Strip x y:=by
 induction h with
 |nil=>exact⟨rfl,fun j x y h=>by simp at h⟩
 |cons h t ih=>
  refine⟨by simp[ih.1],fun j x y hx hy=>?_⟩;cases j with
  |zero=>simp at hx hy;subst hx;subst hy;exact h
  |succ j=>exact ih.2 j x y (by simpa using hx) (by simpa using hy)
class StripC (x:AV)(y:outParam AV):Prop where
 s:Strip x y
class StripLC (l:List AV)(l':outParam (List AV)):Prop where
 s:StripL l l'
theorem Ak2{l l':List AV}(h:StripL l l'):Strip (.agg l) (.agg l'):=.agg l l' h.get.1 h.get.2
instance{v:Value}:StripC (.val v) (.val v):=⟨.flat _ (.val v)⟩
instance{rows:List (List AV)}{sp:Sp} [h:OKR 0 0 rows]:StripC (.sl rows sp) (.sl rows .no):=⟨.sl rows sp h.ok⟩
instance{cs cs':List AV} [h:StripLC cs cs']:StripC (.agg cs) (.agg cs'):=⟨Ak2 h.s⟩
instance:StripLC [] []:=⟨.nil⟩
instance{x y:AV}{l l':List AV} [h:StripC x y] [t:StripLC l l']:StripLC (x::l) (y::l'):=⟨.cons h.s t.s⟩
theorem Pure.mk{X:Cx}{f:FuncId}{fn:Func}{c:Code}{args:List AV}{r:AV}(hf:X.P.funcs[f]?=some fn)(hb:fn.body=some c)(hl:Nat.ble args.length fn.ntmps=true)
 (hnm:(fn.name == "runtime.NumGoroutine")=false)(h:AK X ⟨f,fn,0,0⟩ [.code c] (Oq 0 args) ⟨[],[]⟩ fun e S=>e=.ret r∧S=⟨[],[]⟩):Pure X f args r:=
 ⟨⟨fn,hf,hnm,by rw[hb];rfl⟩,Jn hf hb hl rfl rfl h⟩
section
variable {X:Cx}{B:Bx}{E:Env}{S:St}{w:World}{F:C3}{a:Act}{N:Nat}{R:AE→St→Prop}
theorem Rel.env{E':Env}{v:Value}{x:AV}(h:Rel E w v x)(ho:Ok 0 0 x)(hm:∀b o,E'.mt b o→E.mt b o):Rel E' w v x:=
 h.move (fun i hi _=>absurd hi (Wp _)) (fun t ht=>absurd ht (Wp _)) (fun _ _ _ _ h=>h) (fun b o _ h=>hm b o h) (fun _ _ h=>h) (fun t ht=>absurd ht (Wp _)) ho
theorem Strip.rel{E':Env}{x y:AV}(h:Strip x y)(hm:∀b o,E'.mt b o→E.mt b o):∀{v:Value},Rel E w v x→Rel E' w v y:=by
 induction h with
 |flat x h=>exact fun hx=>hx.env h hm
 |sl rows sp h=>
  intro v hx;refine Rel.env (E:=E) ?_ (.sl rows .no h (fun t ht=>by cases ht)) hm;cases hx with
  |sl _ _ a n cap b o sz vals hn hx ha hsz hm hc hr hs hcap=>exact .sl rows .no a n cap b o sz vals hn hx ha hsz hm hc hr trivial hcap
 |agg cs cs' hl hz ih=>
  intro v hx;cases hx with
  |agg vs _ hl' hr=>
   refine .agg vs cs' (by omega) (fun j v y hv hy=>?_);obtain⟨x,hx⟩:=Ab cs (i:=j) (by have:=Aa hy;omega);exact ih j x y hx hy (hr j v x hv hx)
def Env.none_(E:Env):Env:=⟨[],[],E.mt,[]⟩
theorem Ail{E:Env}{b o:Nat}:E.none_.mt b o↔E.mt b o:=by
 refine⟨fun h=>?_,fun h=>.inl h⟩;rcases h with h|⟨i,s,h⟩|⟨t,l,c,s,h,_⟩
 ·exact h
 ·simp[Env.none_]at h
 ·simp[Env.none_]at h
theorem Rn{E:Env}{b:Nat}:¬E.none_.own b:=fun h=>by
 rcases h with⟨i,s,h⟩|⟨t,l,c,s,h⟩<;>simp[Env.none_]at h
theorem Inv.none_(hI:Inv X E S w):Inv X E.none_ ⟨[],[]⟩ w where
 nb:=rfl
 nt:=rfl
 np i hi:=by simp[Env.none_]at hi
 box i b sz rows h:=by simp[Env.none_]at h
 tok t l b c sz h:=by simp[Env.none_]at h
 bb i j b s s' h:=by simp[Env.none_]at h
 bt i t b s l c sz h:=by simp[Env.none_]at h
 tt i j b l c s l' c' s' h:=by simp[Env.none_]at h
 frlt b o h:=⟨Rn,by
  rcases Aag hI h with h|h
  ·exact hI.own_lt h
  ·exact(hI.frlt b o h).2⟩
 lo b h:=absurd h Rn
 frlo b o h:=by
  rcases Aag hI h with h|h
  ·exact hI.lo b h
  ·exact hI.frlo b o h
 sz:=hI.sz
 glob:=hI.glob
def putF(dst:Option Nat)(x:AV)(F:C3):C3:=
 match dst with
 |some d=>(d,x)::F
 |none=>F
def D1(N:Nat):Option Nat→Bool
 |some d=>Nat.blt d N
 |none=>true
theorem FR.putF(hF:FR E w F a N){dst:Option Nat}(hd:D1 N dst=true){v:Value}{x:AV}(hx:Rel E w v x):FR E w (putF dst x F) (a.put dst v) N:=by
 cases dst with
 |none=>exact hF
 |some d=>exact hF.put (by simpa[D1,Fs]using hd) hx
def Does(X:Cx)(ops:Array Oper)(i:Nat)(a:Act)(w:World)(post:Value→World→Prop):Prop:=
 ∀(b:Frame) (k:List Item) (cs:List Frame) (rest:List Nat),∃v w',post v w' ∧
  Steps X.P (lone (b.at a (.inRegion ops (i::rest)::k)) cs w) (lone (b.at (a.put ((ops[i]?).bind (·.dst)) v) (.inRegion ops rest::k)) cs w')
def Ndo(X:Cx)(N:Nat)(ops:Array Oper)(i:Nat)(o:Oper)(F:C3)(x:AV)(S S':St):Prop:=
 ∀(F':C3) (E:Env) (w:World) (a:Act),(∀t,t∈o.looksAt ops→lk F' t=lk F t)→Inv X E S w→FR E w F' a N →
  Does X ops i a w fun v w'=>∃E',Inv X E' S' w'∧Evol E w E' w' E.boxes.length E.toks.length∧Rel E' w' v x
theorem G9{ops:Array Oper}{i:Nat}{l:List Nat}{k:List Item}{o:Oper}{x:AV}{S':St}(h:Ndo X B.fn.ntmps ops i o F x S S')(ho:ops[i]?=some o)(hd:D1 B.fn.ntmps o.dst=true)
 (hk:AK X B (.inRegion ops l::k) (putF o.dst x F) S' R):AK X B (.inRegion ops (i::l)::k) F S R:=by
 refine Pw hk fun E w a b cs hI hF hb=>?_;obtain⟨v,w',⟨E',h1,h2,h3⟩,h4⟩:=h F E w a (fun _ _=>rfl) hI hF b k cs l;exact⟨E',w',_,h4,h1,h2,by rw[ho];exact(hF.step h2).putF hd h3⟩
theorem Di{F':C3}{o:Operand}(h:∀t,o=.tmp t→lk F' t=lk F t):Dt X F' o=Dt X F o:=by
 cases o with
 |tmp t=>simp only[Dt,h t rfl]
 |_=>rfl
theorem Sj{F':C3}:∀{os:List Operand},(∀t,.tmp t∈os→lk F' t=lk F t)→Hk X F' os=Hk X F os
 |[],_=>rfl
 |o::os,h=>by
  simp only[Hk,Di (X:=X) (F:=F) (F':=F') (o:=o) (fun t ht=>h t (by simp[ht])),Sj (os:=os) fun t ht=>h t (by simp[ht])]
theorem Gs{ops:Array Oper}{o:Oper}{F':C3}(h:∀t,t∈o.looksAt ops→lk F' t=lk F t):∀t,.tmp t∈o.op.operands.toList→lk F' t=lk F t:=fun t ht=>
 h t (List.mem_append_left _ (List.mem_filterMap.2 ⟨.tmp t,by simpa using ht,rfl⟩))
theorem Cw{ops:Array Oper}{o:Oper}{F':C3}(h:∀t,t∈o.looksAt ops→lk F' t=lk F t):A6 ops F' o=A6 ops F o:=by
 unfold A6;cases hg:o.guard with
 |none=>rfl
 |some gw=>
  obtain⟨g,want⟩:=gw;simp only;cases hj:ops[g]? with
  |none=>rfl
  |some oj=>
   simp only;cases hd:oj.dst with
   |none=>rfl
   |some t=>simp only;rw[h t (by simp[Oper.looksAt,hg,hj,hd])]
theorem Xd{F':C3}{fs:List (Nat×Nat)}:∀{ps:List (Nat×Operand)}{cs:List AV},(∀t,.tmp t∈ps.map (·.2)→lk F' t=lk F t)→Yq X F' fs ps cs=Yq X F fs ps cs
 |[],cs,_=>rfl
 |(i,o)::ps,cs,h=>by
  have h1:=Di (X:=X) (F:=F) (F':=F') (o:=o) (fun t ht=>h t (by simp[ht]));have h2:∀cs',Yq X F' fs ps cs'=Yq X F fs ps cs':=fun cs'=>Xd fun t ht=>h t (by simp only[Nz,zzq13];exact .inr ht);simp only[Yq,h1,h2]
theorem Xf{F':C3}{sz:Nat}:∀{ps:List (Nat×Operand)}{rows:List (List AV)},(∀t,.tmp t∈ps.map (·.2)→lk F' t=lk F t)→Se X F' sz ps rows=Se X F sz ps rows
 |[],rows,_=>rfl
 |(i,o)::ps,rows,h=>by
  have h1:=Di (X:=X) (F:=F) (F':=F') (o:=o) (fun t ht=>h t (by simp[ht]));have h2:∀rs,Se X F' sz ps rs=Se X F sz ps rs:=fun rs=>Xf fun t ht=>h t (by simp only[Nz,zzq13];exact .inr ht);simp only[Se,h1,h2]
theorem Aiz{F':C3}{op:Op}(h:∀t,.tmp t∈op.operands.toList→lk F' t=lk F t):Ec X F' S op=Ec X F S op:=by
 have h1:∀o,o∈op.operands.toList→Dt X F' o=Dt X F o:=fun o ho=>Di fun t ht=>h t (ht▸ho);cases op<;>try rfl
 case move x=>simp only[Ec,h1 x (by simp[Op.operands])]
 case assign x=>simp only[Ec,h1 x (by simp[Op.operands])]
 case pick c a b=>
  have ha:=h1 a (by simp[Op.operands]);have hb:=h1 b (by simp[Op.operands]);cases c with
  |tmp t=>simp only[Ec,ha,hb,h t (by simp[Op.operands])]
  |_=>rfl
 case build t ps=>
  have:∀fs cs,Yq X F' fs ps.toList cs=Yq X F fs ps.toList cs:=fun fs cs=>Xd fun t ht=>h t (by simpa[Op.operands]using ht);simp only[Ec,this]
 case load t a=>simp only[Ec,h1 a (by simp[Op.operands])]
 case nilCheck a=>simp only[Ec,h1 a (by simp[Op.operands])]
 case binOp op t x y t'=>simp only[Ec,h1 x (by simp[Op.operands]),h1 y (by simp[Op.operands])]
 case unOp op t x=>simp only[Ec,h1 x (by simp[Op.operands])]
 case convert s d x=>simp only[Ec,h1 x (by simp[Op.operands])]
 case makeFunc fn first cap=>
  cases fn with
  |func f=>
   have:Hk X F' cap.toList=Hk X F cap.toList:=Sj fun t ht=>h t (by simp only[Op.operands,Wt,zzq47];exact .inr ht);simp only[Ec,this]
  |_=>rfl
 case fieldAddr s x f=>simp only[Ec,h1 x (by simp[Op.operands])]
 case field s x f=>simp only[Ec,h1 x (by simp[Op.operands])]
 case indexAddr t x y=>
  cases y with
  |const c=>
   cases c with
   |int k n=>simp only[Ec,h1 x (by simp[Op.operands])]
   |_=>rfl
  |_=>rfl
 case extract t i=>simp only[Ec,h1 t (by simp[Op.operands])]
 case call c=>
  have ha:∀x,x∈c.args.toList→Dt X F' x=Dt X F x:=fun x hx=>h1 x (by simp only[Op.operands,Call.operands,Wt,zzq47];exact .inr hx);have hs:Hk X F' c.args.toList=Hk X F c.args.toList:=Sj fun t ht=>h t (by simp only[Op.operands,Call.operands,Wt,zzq47];exact .inr ht);simp only[Ec,hs];split<;>try rfl
  split<;>try rfl
  rename_i x hx;rw[ha x (by rw[hx];simp)]
theorem Aiy{F':C3}{op:Op}(h:∀t,.tmp t∈op.operands.toList→lk F' t=lk F t):Kg X F' S op=Kg X F S op:=by
 have h1:∀o,o∈op.operands.toList→Dt X F' o=Dt X F o:=fun o ho=>Di fun t ht=>h t (ht▸ho);cases op<;>try rfl
 case box t x=>simp only[Kg,h1 x (by simp[Op.operands])]
 case buildSlice t n ps=>
  have:∀sz rows,Se X F' sz ps.toList rows=Se X F sz ps.toList rows:=fun sz rows=>Xf fun t ht=>h t (by simpa[Op.operands]using ht);simp only[Kg,this]
theorem Does.val{ops:Array Oper}{i:Nat}{o:Oper}{nx:Next}{v:Value}{w':World}{post:Value→World→Prop}(ho:ops[i]?=some o)(hw:Region.wanted o (yielded ops a.tmps)=true)
 (hr:(execOp a.eval o).run X.P w=.ok nx w')(hn:nx=.value v∨(nx=.skip∧v=undef))(hp:post v w'):Does X ops i a w post:=fun b k cs rest=>
 ⟨v,w',hp,.one (by rw[ho];exact Aj8 ho hw hr hn)⟩
theorem Does.call{ops:Array Oper}{i:Nat}{o:Oper}{f:FuncId}{vs:Array Value}{post:Value→World→Prop}(ho:ops[i]?=some o)(hw:Region.wanted o (yielded ops a.tmps)=true)
 (hr:(execOp a.eval o).run X.P w=.ok (.enter f vs) w)(hc:Calls X.P f vs w fun e w'=>∃v,e=.returned v∧post v w'):Does X ops i a w post:=fun b k cs rest=>by
 have hg:=stepG_op (P:=X.P) (b:=b) (k:=k) (cs:=cs) (w:=w) (rest:=rest) ho hw;obtain⟨e,w',fr,⟨v,rfl,hp⟩,h6,_,h8⟩:=hc (b.at a (.inRegion ops (i::rest)::k)::cs);have henter:Go.step X.P (lone (b.at a (.inRegion ops (i::rest)::k)) cs w) =
  .next (lone (Frame.enter X.P f vs .normal) (b.at a (.inRegion ops (i::rest)::k)::cs) w):=
  step_lone_go (by rw[hg];simp[stepG.apply,hr,Frame.at])
 have hfin:(b.at a (.inRegion ops (i::rest)::k)).finish v=b.at (a.put o.dst v) (.inRegion ops rest::k):=by
  rw[Frame.finish_at,ho];rfl
 refine⟨v,w',hp,.head henter (Steps.trans h6 (.one ?_))⟩;rw[ho];show _=Stepped.next (lone (b.at (a.put o.dst v) (.inRegion ops rest::k)) cs w');rw[←hfin];exact step_leave_returned h8
theorem Cn{ops:Array Oper}{i:Nat}{o:Oper}{x:AV}(ho:ops[i]?=some o)(hw:A6 ops F o=some true)(h:Ec X F S o.op=some x):Ndo X N ops i o F x S S:=by
 intro F' E w a hl hI hF;obtain⟨v,h1,h2⟩:=Aa5 hI hF (o:=o) (x:=x) (by rw[Aiz (Gs hl)];exact h);exact Does.val ho (Cm hF (by rw[Cw hl];exact hw)) h1 (.inl rfl) ⟨E,hI,Evol.refl _ _ _ _,h2⟩
theorem Ls{ops:Array Oper}{i:Nat}{o:Oper}{x:AV}{S':St}(ho:ops[i]?=some o)(hw:A6 ops F o=some true)(h:Kg X F S o.op=some (x,S')):Ndo X N ops i o F x S S':=by
 intro F' E w a hl hI hF;obtain⟨v,E',w',h1,h2,h3,h4⟩:=Aa4 hI hF (o:=o) (x:=x) (S':=S') (by rw[Aiy (Gs hl)];exact h);exact Does.val ho (Cm hF (by rw[Cw hl];exact hw)) h1 (.inl rfl) ⟨E',h2,h3,h4⟩
theorem Df{ops:Array Oper}{i:Nat}{o:Oper}{x:AV}(ho:ops[i]?=some o)(hw:A6 ops F o=some true)
 (h:∀(F':C3)(E:Env)(w:World)(a:Act),(∀p,p∈o.op.operands.toList→Dt X F' p=Dt X F p)→Inv X E S w→FR E w F' a N→∃v,(execOp a.eval o).run X.P w=.ok (.value v) w∧Rel E w v x) :
 Ndo X N ops i o F x S S:=by
 intro F' E w a hl hI hF;obtain⟨v,h1,h2⟩:=h F' E w a (fun p hp=>Di fun t ht=>Gs hl t (ht▸hp)) hI hF;exact Does.val ho (Cm hF (by rw[Cw hl];exact hw)) h1 (.inl rfl) ⟨E,hI,Evol.refl _ _ _ _,h2⟩
theorem Qg{o:Oper}{c:Call}{fo:Operand}{f:FuncId}{caps xs:List AV}(hop:o.op=.call c)(hcal:c.callee=.value fo)(hE:Nq X.P f)
 (hI:Inv X E S w)(hF:FR E w F a N)(hfo:Dt X F fo=some (.fn f caps))(hx:Hk X F c.args.toList=some xs) :
 ∃vs:Array Value,(execOp a.eval o).run X.P w=.ok (.enter f vs) w∧vs.size=(xs++caps).length∧∀(j:Nat) (v:Value) (x:AV),vs[j]?=some v→(xs++caps)[j]?=some x→Rel E w v x:=by
 have h1:=Ak hI hF hfo;obtain⟨hl,hr⟩:=O1 hI hF hx;obtain⟨fn,hfn,hname,hbody⟩:=hE;cases hh:a.eval fo<;>rw[hh]at h1<;>cases h1;rename_i us hul hur;refine⟨c.args.map a.eval++us,?_,by simp[hul]at *;omega,fun j v x hv hxj=>?_⟩
 ·have hne:¬(fn.name = "runtime.NumGoroutine"):=fun h=>by rw[h]at hname;simp at hname
  simp[execOp,hop,resolve,hcal,hh,Deferred.ofValue,invoke,callFunc,hfn,hne,hbody];intro hbn;rw[hbn]at hbody;cases hbody
 ·rcases Gu j xs.length with hj|hj
  ·rw[Cr hj]at hxj;rw[Zd (by omega)]at hv;exact hr j v x hv hxj
  ·rw[Gj hj]at hxj;rw[Array.getElem?_append_right (by omega),hl]at hv;exact hur _ v x hv hxj
theorem Rt{F':C3}{ops:Array Oper}{o:Oper}{c:Call}{fo:Operand}(hop:o.op=.call c)(hcal:c.callee=.value fo)(hl:∀t,t∈o.looksAt ops→lk F' t=lk F t) :
 Dt X F' fo=Dt X F fo∧Hk X F' c.args.toList=Hk X F c.args.toList:=by
 have h:=Gs hl;rw[hop]at h;simp only[Op.operands,Call.operands,hcal,Wt,zzq47]at h;exact⟨Di fun t ht=>h t (.inl (by simp[ht])),Sj fun t ht=>h t (.inr ht)⟩
theorem Ar5{ops:Array Oper}{i:Nat}{o:Oper}{c:Call}{fo:Operand}{f:FuncId}{caps xs ys:List AV}{r:AV}
 (ho:ops[i]?=some o)(hw:A6 ops F o=some true)(hop:o.op=.call c)(hcal:c.callee=.value fo)(hfo:Dt X F fo=some (.fn f caps))(hx:Hk X F c.args.toList=some xs)
 (hc:Pure X f ys r)(hs:StripL (xs++caps) ys):Ndo X N ops i o F r S S:=by
 intro F' E w a hl hI hF;obtain⟨l1,l2⟩:=Rt (X:=X) hop hcal hl;obtain⟨vs,h1,h2,h3⟩:=Qg hop hcal hc.1 hI hF (l1.trans hfo) (l2.trans hx);refine Does.call ho (Cm hF (by rw[Cw hl];exact hw)) h1 ((hc.2 E.none_ w vs rfl hI.none_ (by rw[h2,hs.get.1]) (fun j v y hv hy=>?_)).mono fun e w' he=>?_)
 ·obtain⟨x,hx⟩:=Ab (xs++caps) (i:=j) (by have:=Aa hy;rw[hs.get.1]at this;exact this);exact(hs.get.2 j x y hx hy).rel (fun b o h=>Ail.1 h) (h3 j v x hv hx)
 ·obtain⟨E1,S1,d1,d2,d3⟩:=he;cases e with
  |returned v=>
   obtain⟨r',hr',hre,rfl⟩:=d3;cases hre;have hblk:∀b,b<w.heap.size→w'.heap[b]?=w.heap[b]?:=fun b hb=>d2.block b hb Rn;have ev:Evol E w E w' E.boxes.length E.toks.length:=by
    refine⟨rfl,fun _ _ h=>⟨h,fun _ h=>h⟩,fun _ _ k h=>⟨k,h,.inl rfl⟩,d2.os,d2.tape,d2.output,d2.size,fun k hk _=>hblk k hk,fun b o v hm hc=>?_,fun _ _ _ h=>h,fun _ _ h=>h,rfl,d2.ty,fun _ _ _ b _ _ _ _ o ho=>(hblk b (N6 ho)).trans ho⟩;have hb:=Jf hc;unfold World.cell? at hc⊢;rw[hblk b hb];exact hc
   have hrel:Rel E w' v r:=hr'.env (by have:=hr'.ok;rw[d1.nb,show E1.toks.length=0 by have:=d1.nt;simpa using congrArg List.length this]at this;exact this)
    (fun b o h=>.inl (by rw[d2.fr];exact h))
   exact⟨v,rfl,E,hI.keep ev (fun b hb=>hblk b (hI.own_lt hb)),ev,hrel⟩
  |panicked ch=>obtain⟨h,_⟩:=d3;cases h
  |outgrown=>exact d3.elim
theorem Ar4{ops:Array Oper}{i:Nat}{o:Oper}{c:Call}{fo:Operand}{f:FuncId}{caps xs zs ys:List AV}{r:AV}
 (hc:Pure X f ys r)(ho:ops[i]?=some o)(hw:A6 ops F o=some true)(hop:o.op=.call c)(hcal:c.callee=.value fo)(hfo:Dt X F fo=some (.fn f caps))
 (hx:Hk X F c.args.toList=some xs)(hzs:Kb xs caps=some zs) [hs:StripLC zs ys]:Ndo X N ops i o F r S S:=
 Ar5 ho hw hop hcal hfo hx hc (by rw[Ru hzs];exact hs.s)
theorem Avk{ops:Array Oper}{i:Nat}{l:List Nat}{k:List Item}{o:Oper}{c:Call}{fo:Operand}{f:FuncId}{caps xs zs ys:List AV}{r:AV}
 (hc:Pure X f ys r)(ho:ops[i]?=some o)(hw:A6 ops F o=some true)(hop:o.op=.call c)(hcal:c.callee=.value fo)(hfo:Dt X F fo=some (.fn f caps))
 (hx:Hk X F c.args.toList=some xs)(hzs:Kb xs caps=some zs)(hd:D1 B.fn.ntmps o.dst=true) [hs:StripLC zs ys](hk:AK X B (.inRegion ops l::k) (putF o.dst r F) S R) :
 AK X B (.inRegion ops (i::l)::k) F S R:=
 G9 (Ar4 hc ho hw hop hcal hfo hx hzs) ho hd hk
theorem Cu{ops:Array Oper}{i:Nat}{o:Oper}{t:Nat}{p q:Operand}{rows:List (List AV)}{sp:Sp}{ik:IntKind}{n:Int}{r:List AV}{e:Nat}{y ye:Ty}
 (ho:ops[i]?=some o)(hw:A6 ops F o=some true)(hop:o.op=.indexAddr t p q)(hp:Dt X F p=some (.sl rows sp))(hq:Dt X F q=some (.val (.int ik n)))
 (hy:X.ty t=some y)(hyk:y.k=.slc e)(hye:X.ty e=some ye)(hl:r.length=ye.size)(h0:0≤n)(hr:rows[n.toNat]?=some r):Ndo X N ops i o F (.cptr r) S S:=by
 refine Df ho hw fun F' E w a hc hI hF=>?_;rw[hop]at hc;have h1:=Ak hI hF ((hc p (by simp[Op.operands])).trans hp);have h2:=Ak hI hF ((hc q (by simp[Op.operands])).trans hq);obtain⟨d,hdd,hd2⟩:=(X.ty_ok t y hy).agg;simp only[hyk]at hd2;obtain⟨rfl,ye',hye',hne⟩:=hd2;rw[hye]at hye';cases hye';cases hh2:a.eval q<;>rw[hh2]at h2<;>cases h2;generalize hh1:a.eval p=u at h1;cases h1 with
 |sl _ _ a' n' cap b o' sz vals hn hx ha hsz hm hc hr' hs hcap=>
  have hlt:=Aa hr;have hlen:=hsz r (Bh hr);obtain rfl:sz=ye.size:=by omega
  have hn0:n'≠0:=by omega
  have hin:n<(n':Int):=by omega
  refine⟨.pointer (some ⟨b,o'+n.toNat*ye.size,none⟩),?_,?_⟩
  ·simp[execOp,hop,hh1,hh2,Instr.indexAt,asIntOf,run_underlying hdd,ha hn0,h0,hin,De hye,F9]
  ·refine .cptr r b (o'+n.toNat*ye.size) (fun j=>vals n.toNat j) (fun j hj=>hm n.toNat j (by omega) (by omega)) (fun j hj=>hc n.toNat j (by omega) (by omega)) (fun j x hx'=>hr' n.toNat j r x hr hx')
theorem Acd{ops:Array Oper}{i:Nat}{l:List Nat}{k:List Item}{o:Oper}{t:Nat}{p q:Operand}{rows:List (List AV)}{sp:Sp}{ik:IntKind}{n:Int}{r:List AV}{e:Nat}{y ye:Ty}
 (ho:ops[i]?=some o)(hw:A6 ops F o=some true)(hop:o.op=.indexAddr t p q)(hp:Dt X F p=some (.sl rows sp))(hq:Dt X F q=some (.val (.int ik n)))
 (hy:X.ty t=some y)(hyk:y.k=.slc e)(hye:X.ty e=some ye)(hd:D1 B.fn.ntmps o.dst=true)(hl:r.length=ye.size)(h0:0≤n)(hr:rows[n.toNat]?=some r)
 (hk:AK X B (.inRegion ops l::k) (putF o.dst (.cptr r) F) S R):AK X B (.inRegion ops (i::l)::k) F S R:=
 G9 (Cu ho hw hop hp hq hy hyk hye hl h0 hr) ho hd hk
theorem Av{c:Code}{k:List Item}{ι:Type}(n m:Nat)(I:ι→Prop)(st:ι→C3)(ss:ι→St)(μ:ι→Nat)
 (hstep:∀i,I i→(∀j,I j→μ j<μ i→∀F' S',Sub (st j) F'→S'.drop n m=ss j→Nat.ble n S'.boxes.length=true→Nat.ble m S'.toks.length=true→AK X B (.inLoop c::k) F' S' R) →
   AK X B (.code c::.inLoop c::k) (st i) (ss i) R)
 (i0:ι)(h0:I i0)(hF:Sub (st i0) F)(hS:S.drop n m=ss i0:=by rfl)(hn:Nat.ble B.n n=true:=by rfl)(hm:Nat.ble B.m m=true:=by rfl)
 (hn':Nat.ble n S.boxes.length=true:=by rfl)(hm':Nat.ble m S.toks.length=true:=by rfl)(hok:∀i,OKF n m (st i):=by intro;infer_instance)(hob:∀i,OKB n m (ss i).boxes:=by intro;infer_instance):AK X B (.code (.loop c)::k) F S R:=by
 have back:∀{K:List Item} (i:ι) (F':C3) (S':St),Sub (st i) F'→S'.drop n m=ss i→Nat.ble n S'.boxes.length=true→Nat.ble m S'.toks.length=true →
  AK X B K (st i) (ss i) R→AK X B K F' S' R:=fun{K} i F' S' h1 h2 h3 h4 h5=>
  B3 (bx:=(ss i).boxes) (tk:=(ss i).toks) n m h5 h1 h2 hn hm h3 h4 (hG:=hok i) (hbox:=hob i)
 have key:∀(q:Nat) (i:ι),μ i<q→I i→AK X B (.code c::.inLoop c::k) (st i) (ss i) R:=by
  intro q
  induction q with
  |zero=>intro i h;omega
  |succ q ih=>exact fun i h hi=>hstep i hi fun j hj hlt F' S' h1 h2 h3 h4=>back j F' S' h1 h2 h3 h4 (P4 (ih j (by omega) hj))
 exact back i0 F S hF hS hn' hm' (Rj (key _ i0 (Ad6 _) h0))
theorem Ar3{ops:Array Oper}{i:Nat}{o:Oper}{t:Nat}{p q:Operand}{s:ByteArray}{ik:IntKind}{n:Int}{c:UInt8}{y:Ty}
 (ho:ops[i]?=some o)(hw:A6 ops F o=some true)(hop:o.op=.index t p q)(hp:Dt X F p=some (.val (.string s)))(hq:Dt X F q=some (.val (.int ik n)))
 (hy:X.ty t=some y)(hyk:y.k=.string)(h0:0≤n)(hr:s.data.toList[n.toNat]?=some c):Ndo X N ops i o F (.val (.int .u8 c.toNat)) S S:=by
 refine Df ho hw fun F' E w a hc hI hF=>?_;rw[hop]at hc;have h1:=Ak hI hF ((hc p (by simp[Op.operands])).trans hp);have h2:=Ak hI hF ((hc q (by simp[Op.operands])).trans hq);obtain⟨d,hdd,hd2⟩:=(X.ty_ok t y hy).agg;simp only[hyk]at hd2;subst hd2;cases hh2:a.eval q<;>rw[hh2]at h2<;>cases h2;cases hh1:a.eval p<;>rw[hh1]at h1<;>cases h1;have hlt:n.toNat<s.size:=by have:=Aa hr;simpa using this
 have hg:s[n.toNat]?=some c:=by
  rw[getElem?_pos s n.toNat hlt];have h3:=hr;rw[Wu (by simpa using hlt)]at h3;simp only[Array.getElem_toList]at h3;exact h3
 exact⟨.int .u8 c.toNat,by simp[execOp,hop,hh1,hh2,Instr.index,asIntOf,run_underlying hdd,h0,hg],.val _⟩
theorem Avj{ops:Array Oper}{i:Nat}{l:List Nat}{k:List Item}{o:Oper}{t:Nat}{p q:Operand}{s:ByteArray}{ik:IntKind}{n:Int}{c:UInt8}{y:Ty}
 (ho:ops[i]?=some o)(hw:A6 ops F o=some true)(hop:o.op=.index t p q)(hp:Dt X F p=some (.val (.string s)))(hq:Dt X F q=some (.val (.int ik n)))
 (hy:X.ty t=some y)(hyk:y.k=.string)(hd:D1 B.fn.ntmps o.dst=true)(h0:0≤n)(hr:s.data.toList[n.toNat]?=some c)
 (hk:AK X B (.inRegion ops l::k) (putF o.dst (.val (.int .u8 c.toNat)) F) S R):AK X B (.inRegion ops (i::l)::k) F S R:=
 G9 (Ar3 ho hw hop hp hq hy hyk h0 hr) ho hd hk
end
end Go.V
