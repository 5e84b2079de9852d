/- A part of the proof of the claim that the last text states: no condition of its own. -/
import Derived.Below
import Derived.Deep.AppendSrc
import Derived.KernelRfl
import Derived.Laws.AppendOwn
import Derived.Laws.Build
import Derived.Laws.Cells
import Derived.Laws.Concat
import Derived.Laws.CopyRow
import Derived.Laws.Entries
import Derived.Laws.Rows
import Derived.Laws.Strings
import Derived.Laws.Tables
import Derived.Orders
set_option linter.unusedVariables false
set_option linter.unusedSimpArgs false
namespace Go.V
open Go
abbrev Ad:=List UInt8
abbrev Bt:=@Nat.le_refl
abbrev Vt:=@Nat.le_trans
abbrev Ng:=@Nat.lt_of_lt_of_le
abbrev Bn:=@List.mem_of_getElem?
abbrev Awk:=@List.replicate_succ
abbrev Uf:=@Nat.mul_le_mul_right
abbrev Cb:=@Nat.zero_le
abbrev Aeu:=@Nat.not_lt_zero
abbrev zzq8:=@List.mem_cons
abbrev Anu:=@List.length_drop
abbrev Qi:=@Nat.add_assoc
abbrev F5:=@List.length_append
abbrev Ab0:=@List.length_singleton
abbrev Ga:=@Nat.lt_or_ge
abbrev Dd:=@List.getElem?_append_left
abbrev Ab1:=@Nat.eq_of_beq_eq_true
abbrev Om:=@List.map_cons
abbrev A6:=@of_decide_eq_true
abbrev Rx:=@Nat.add_zero
abbrev Zy:=@List.mem_or_eq_of_mem_set
abbrev Kr:=@Nat.zero_add
abbrev J5:=@Nat.le_of_ble_eq_true
abbrev Ali:=@Nat.pos_of_ne_zero
abbrev Vu:=@List.getElem?_toArray
abbrev Zz:=@List.length_take
abbrev Z0:=@List.getElem?_take
abbrev zzq26:=@List.mem_append
abbrev Hp:=@Nat.blt_eq
abbrev Du:=@Bool.and_eq_true
abbrev Hd:=@List.getElem?_map
abbrev Aeq:=@Nat.lt_succ_self
abbrev Xg:=@List.getElem?_eq_getElem
abbrev zzq32:=@List.all_eq_true
abbrev zzq33:=@List.mem_range
abbrev zzq34:=@beq_iff_eq
abbrev zzq35:=@List.mem_filter
abbrev N4:=@Bool.not_eq_true'
abbrev K4:=@Option.map_some
abbrev N5:=@Bool.true_and
abbrev My:=@Bool.or_eq_true
abbrev Ag4:=@Array.getElem?_eq_getElem
abbrev Ag5:=@List.length_filter_le
abbrev Ry:=@decide_eq_true
abbrev Z1:=@List.map_set
abbrev Ab2:=@List.getElem?_range
abbrev zzq45:=@List.length_pos_iff
abbrev Gz:=@List.getElem?_append_right
abbrev Ag6:=@List.size_toArray
abbrev Rz:=@Nat.add_mul
abbrev Ag7:=@List.mem_of_mem_take
abbrev zzq50:=@List.mem_map
abbrev Aer:=@List.getElem?_set
abbrev Py:=@List.length_map
abbrev Z2:=@List.map_map
abbrev R0:=@List.getElem?_drop
abbrev Oo:=@List.getElem?_eq_none
abbrev Jp:=@List.map_append
abbrev Aes:=@List.drop_drop
abbrev Bd:=@of_decide_eq_false
abbrev Ag8:=@Array.toList_append
abbrev Xh:=@List.not_mem_nil
abbrev Ag9:=@List.take_append_drop
abbrev Hq:=@List.take_add_one
abbrev Jh:=@List.take_length
abbrev Ap5:=@List.drop_eq_getElem_cons
abbrev Hr:=@List.drop_length
abbrev Ks:=@decide_eq_false
abbrev Mz:=@decide_eq_true_eq
abbrev N6:=@List.length_cons
abbrev Aet:=@List.drop_eq_nil_of_le
abbrev T6:=@Bool.or_eq_false_iff
abbrev R1:=@List.cons_append
abbrev I3:=@Int.toNat_natCast
abbrev Aev:=@List.filter_append
abbrev Ab3:=@List.filter_cons
abbrev Alj:=@List.dropLast_eq_take
abbrev Xi:=@List.length_nil
abbrev Alk:=@List.getLastD_eq_getLast?
abbrev T7:=@List.all_cons
abbrev Aew:=@List.any_cons
abbrev Vv:=@Array.toList_inj
abbrev Alm:=@Array.getElem?_append_left
abbrev Ab4:=@List.ext_getElem?
abbrev I4:=@List.append_nil
abbrev zzq84:=@List.length_eq_zero_iff
abbrev Fi:=@List.getElem?_set_ne
abbrev T8:=@List.nil_append
abbrev Gv:=@List.append_assoc
abbrev Ab5:=@List.mem_append_right
abbrev Aln:=@List.getElem?_replicate
abbrev Jb:=@List.set_append_right
abbrev Ez:=@List.getElem?_set_self
abbrev Z3:=@List.eq_of_mem_replicate
abbrev Iw:=@Nat.sub_self
abbrev Ab6:=@Array.getElem?_toList
abbrev Aha:=@Option.toList_some
abbrev Ap6:=@List.getElem?_cons_succ
abbrev Ap7:=@List.getD_eq_getElem?_getD
abbrev Aex:=@Nat.add_sub_cancel
abbrev zzq99:=@List.getElem?_eq_some_iff
abbrev zzq100:=@List.mem_flatMap
abbrev zzq101:=@List.nodup_append
abbrev Aep:=@List.flatMap_append
inductive Sp where
 |no
 |tight
 |tok (t:Nat)
inductive AV where
 |val (v:Value)
 |ptr (b row off:Nat)
 |cptr (cs:List AV)
 |sl (rows:List (List AV)) (sp:Sp)
 |bsl (b n:Nat)
 |bst (b o n:Nat)
 |agg (cs:List AV)
 |tup (vs:List AV)
 |fn (f:FuncId) (cap:List AV)
 |lit (b:Bool)
 |junk
 |err
 |tagN (te b:Nat)
 |buf (te:Nat) (s:List UInt8) (t:Nat)
 |dat (te:Nat) (s:List UInt8) (t:Nat)
 |psl (rows:List (List AV)) (t v:Nat)
 |pp (rows:List (List AV)) (t v i o:Nat)
 deriving Inhabited
abbrev An:=List AV
abbrev A7:=List An
abbrev B3:=List A7
structure Tk where
 len:Nat
 sp:Option (Nat×Nat×Nat)
structure Env where
 boxes:List (Option (Nat×Nat))
 toks:List Tk
 fr:Nat→Nat→Prop
 df:List Deferred
def Env.own(E:Env)(b:Nat):Prop:=
 (∃(i sz:Nat),E.boxes[i]?=some (some (b,sz)))∨(∃(t l c sz:Nat),E.toks[t]?=some (Tk.mk l (some (b,c,sz))))
def Env.mt(E:Env)(b o:Nat):Prop:=
 E.fr b o∨(∃(i sz:Nat),E.boxes[i]?=some (some (b,sz)))∨(∃(t l c sz:Nat),E.toks[t]?=some (Tk.mk l (some (b,c,sz)))∧l*sz≤o)
def A4z(E:Env)(sp:Sp)(a:Option Addr)(n cap sz:Nat):Prop:=
 match sp with
 |.no=>True
 |.tight=>cap=n
 |.tok t=>∃k:Tk,E.toks[t]?=some k∧n≤k.len∧(n=k.len→match k.sp with
   |none=>cap=n
   |some (b,c,s)=>cap=c∧a=some ⟨b,0,none⟩∧s=sz)
def P1:Nat:=9223372036854775807
def Gk(w:World)(b:Nat):Option TypeId:=match w.heap[b]? with
 |some (.cells _ e _)=>some e
 |_=>none
def BufAt(E:Env)(w:World)(te:Nat)(s:Ad)(k:Tk)(p:Option Addr)(cap:Nat):Prop:=
 match k.sp with
 |none=>s=[]∧cap=0∧p=none
 |some (b,c,sz)=>cap=c∧p=some ⟨b,0,none⟩∧sz=1∧Gk w b=some te∧(∀j,j<s.length→¬E.mt b j)∧∀(j:Nat) (x:UInt8),s[j]?=some x→w.cell? ⟨b,j,none⟩=some (.int .u8 x.toNat)
inductive Flat:AV→Prop where
 |val (v:Value):Flat (.val v)
 |lit (b:Bool):Flat (.lit b)
 |junk:Flat .junk
 |err:Flat .err
 |cptr (cs:List AV) (h:∀x,x∈cs→Flat x):Flat (.cptr cs)
 |sl (rows:List (List AV)) (sp:Sp) (h:∀r,r∈rows→∀x,x∈r→Flat x) (hs:∀t,sp≠.tok t):Flat (.sl rows sp)
 |agg (cs:List AV) (h:∀x,x∈cs→Flat x):Flat (.agg cs)
 |tup (cs:List AV) (h:∀x,x∈cs→Flat x):Flat (.tup cs)
 |fn (f:FuncId) (cs:List AV) (h:∀x,x∈cs→Flat x):Flat (.fn f cs)
inductive NoT:AV→Prop where
 |val (v:Value):NoT (.val v)
 |lit (b:Bool):NoT (.lit b)
 |junk:NoT .junk
 |err:NoT .err
 |tagN (te b:Nat):NoT (.tagN te b)
 |ptr (b row off:Nat):NoT (.ptr b row off)
 |cptr (cs:List AV) (h:∀x,x∈cs→NoT x):NoT (.cptr cs)
 |sl (rows:List (List AV)) (sp:Sp) (h:∀r,r∈rows→∀x,x∈r→NoT x) (hs:∀t,sp≠.tok t):NoT (.sl rows sp)
 |bsl (b k:Nat):NoT (.bsl b k)
 |bst (b o k:Nat):NoT (.bst b o k)
 |agg (cs:List AV) (h:∀x,x∈cs→NoT x):NoT (.agg cs)
 |tup (cs:List AV) (h:∀x,x∈cs→NoT x):NoT (.tup cs)
 |fn (f:FuncId) (cs:List AV) (h:∀x,x∈cs→NoT x):NoT (.fn f cs)
theorem Flat.noT{x:AV}(h:Flat x):NoT x:=by
 induction h<;>constructor<;>grind
inductive Ok (n m:Nat):AV→Prop where
 |val (v:Value):Ok n m (.val v)
 |lit (b:Bool):Ok n m (.lit b)
 |junk:Ok n m .junk
 |err:Ok n m .err
 |tagN (te b:Nat) (h:b<n):Ok n m (.tagN te b)
 |buf (te:Nat) (s:List UInt8) (t:Nat) (h:t<m):Ok n m (.buf te s t)
 |dat (te:Nat) (s:List UInt8) (t:Nat) (h:t<m):Ok n m (.dat te s t)
 |ptr (b row off:Nat) (h:b<n):Ok n m (.ptr b row off)
 |cptr (cs:List AV) (h:∀x,x∈cs→Ok n m x):Ok n m (.cptr cs)
 |sl (rows:List (List AV)) (sp:Sp) (h:∀r,r∈rows→∀x,x∈r→Ok n m x) (hs:∀t,sp=.tok t→t<m):Ok n m (.sl rows sp)
 |bsl (b k:Nat) (h:b<n):Ok n m (.bsl b k)
 |bst (b o k:Nat) (h:b<n):Ok n m (.bst b o k)
 |agg (cs:List AV) (h:∀x,x∈cs→Ok n m x):Ok n m (.agg cs)
 |tup (cs:List AV) (h:∀x,x∈cs→Ok n m x):Ok n m (.tup cs)
 |fn (f:FuncId) (cs:List AV) (h:∀x,x∈cs→Ok n m x):Ok n m (.fn f cs)
 |psl (rows:List (List AV)) (t v:Nat) (h:t<m) (hf:∀r,r∈rows→∀x,x∈r→Ok n m x) (hn:∀r,r∈rows→∀x,x∈r→NoT x):Ok n m (.psl rows t v)
 |pp (rows:List (List AV)) (t v i o:Nat) (h:t<m) (hf:∀r,r∈rows→∀x,x∈r→Ok n m x) (hn:∀r,r∈rows→∀x,x∈r→NoT x):Ok n m (.pp rows t v i o)
def A6h(w:World)(sp:Option (Nat×Nat×Nat))(a:Option Addr)(n cap sz:Nat)(vals:Nat→Nat→Value):Prop:=
 match sp with
 |none=>n=0∧cap=0
 |some (b,c,s)=>n≠0∧s=0∧c=cap∧a=some ⟨b,0,none⟩∧∃cs e,w.heap[b]?=some (.cells cs e (0,0))∧cs.size=cap*sz∧∀i j,i<n→j<sz→cs[i*sz+j]?=some (vals i j)
inductive Rel (E:Env)(w:World):Value→AV→Prop where
 |val (v:Value):Rel E w v (.val v)
 |lit (b:Bool):Rel E w (.bool b) (.lit b)
 |junk (v:Value):Rel E w v .junk
 |err (t:TypeId) (v:Value):Rel E w (.iface t v) .err
 |tagN (te b blk sz:Nat) (h:E.boxes[b]?=some (some (blk,sz))) (ht:Gk w blk=some te):Rel E w (.pointer none) (.tagN te b)
 |buf (te:Nat) (s:List UInt8) (t:Nat) (a:Option Addr) (cap:Nat) (k:Tk) (hk:E.toks[t]?=some k) (hn:s.length≤k.len) (hx:s.length≤P1) (hs:s.length=k.len→BufAt E w te s k a cap) (hc:s.length≤cap) :
   Rel E w (.slice a s.length cap) (.buf te s t)
 |dat (te:Nat) (s:List UInt8) (t:Nat) (p:Option Addr) (k:Tk) (hk:E.toks[t]?=some k) (hn:s.length≤k.len) (hs:s.length=k.len→s≠[]→∃cap,BufAt E w te s k p cap):Rel E w (.pointer p) (.dat te s t)
 |ptr (b row off blk sz:Nat) (h:E.boxes[b]?=some (some (blk,sz))):Rel E w (.pointer (some ⟨blk,row*sz+off,none⟩)) (.ptr b row off)
 |cptr (cs:List AV) (b o:Nat) (vals:Nat→Value) (hm:∀j,j<cs.length→¬E.mt b (o+j))
   (hc:∀j,j<cs.length→w.cell? ⟨b,o+j,none⟩=some (vals j))
   (hr:∀(j:Nat)(x:AV),cs[j]?=some x→Rel E w (vals j) x):Rel E w (.pointer (some ⟨b,o,none⟩)) (.cptr cs)
 |sl (rows:List (List AV)) (sp:Sp) (a:Option Addr) (n cap b o sz:Nat) (vals:Nat→Nat→Value)
   (hn:rows.length=n)(hx:n≤P1)(ha:n≠0→a=some ⟨b,o,none⟩)(hsz:∀r,r∈rows→r.length=sz)
   (hm:∀i j,i<n→j<sz→¬E.mt b (o+i*sz+j))
   (hc:∀i j,i<n→j<sz→w.cell? ⟨b,o+i*sz+j,none⟩=some (vals i j))
   (hr:∀(i j:Nat)(r:List AV)(x:AV),rows[i]?=some r→r[j]?=some x→Rel E w (vals i j) x)
   (hs:A4z E sp a n cap sz)(hcap:n≤cap):Rel E w (.slice a n cap) (.sl rows sp)
 |bsl (b blk sz n cap:Nat) (h:E.boxes[b]?=some (some (blk,sz))) (hc:n≤cap):Rel E w (.slice (some ⟨blk,0,none⟩) n cap) (.bsl b n)
 |bst (b blk sz o n cap:Nat) (h:E.boxes[b]?=some (some (blk,sz))):Rel E w (.slice (some ⟨blk,o*sz,none⟩) n cap) (.bst b o n)
 |agg (vs:Array Value) (cs:List AV) (hl:vs.size=cs.length)
   (hr:∀(j:Nat)(v:Value)(x:AV),vs[j]?=some v→cs[j]?=some x→Rel E w v x):Rel E w (.agg vs) (.agg cs)
 |tup (vs:Array Value) (cs:List AV) (hl:vs.size=cs.length)
   (hr:∀(j:Nat)(v:Value)(x:AV),vs[j]?=some v→cs[j]?=some x→Rel E w v x):Rel E w (.tuple vs) (.tup cs)
 |fn (f:FuncId) (vs:Array Value) (cs:List AV) (hl:vs.size=cs.length)
   (hr:∀(j:Nat)(v:Value)(x:AV),vs[j]?=some v→cs[j]?=some x→Rel E w v x):Rel E w (.func (.func f) #[] vs) (.fn f cs)
 |psl (rows:List (List AV)) (t v:Nat) (a:Option Addr) (n cap:Nat) (k:Tk) (sz:Nat) (vals:Nat→Nat→Value) (hn:rows.length=n) (hx:n≤P1) (hcap:n≤cap) (hk:E.toks[t]?=some k) (hv:v≤k.len)
   (hsz:∀r,r∈rows→r.length=sz)(hp:v=k.len→A6h w k.sp a n cap sz vals)
   (hr:∀(i j:Nat)(r:List AV)(x:AV),rows[i]?=some r→r[j]?=some x→Rel E w (vals i j) x)(hf:∀r,r∈rows→∀x,x∈r→NoT x):Rel E w (.slice a n cap) (.psl rows t v)
 |pp (rows:List (List AV)) (t v i o b sz n cap:Nat) (h:Rel E w (.slice (some ⟨b,0,none⟩) n cap) (.psl rows t v)) (hi:i<rows.length) (hsz:∀r,r∈rows→r.length=sz) :
   Rel E w (.pointer (some ⟨b,i*sz+o,none⟩)) (.pp rows t v i o)
theorem Flat.ok{n m:Nat}{x:AV}(h:Flat x):Ok n m x:=by
 induction h<;>constructor<;>grind
theorem Ok.flat{n m:Nat}{x:AV}(h:Ok n m x)(hn:n=0)(hm:m=0):Flat x:=by
 induction h with
 |val v=>exact .val v
 |lit b=>exact .lit b
 |junk=>exact .junk
 |err=>exact .err
 |tagN te b h=>omega
 |buf te s t h=>omega
 |dat te s t h=>omega
 |ptr b r o h=>omega
 |cptr cs _ ih=>exact .cptr cs ih
 |sl rows sp _ hs ih=>exact .sl rows sp ih (fun t ht=>by simp_all)
 |bsl b k h=>omega
 |bst b o k h=>omega
 |agg cs _ ih=>exact .agg cs ih
 |tup cs _ ih=>exact .tup cs ih
 |fn f cs _ ih=>exact .fn f cs ih
 |psl rows t v h hf hn _=>omega
 |pp rows t v i o h hf hn _=>omega
theorem Ok.mono{n m n' m':Nat}{x:AV}(h:Ok n m x)(hn:n≤n')(hm:m≤m'):Ok n' m' x:=by
 induction h<;>constructor<;>grind
theorem Aa{α:Type}{l:List α}{i:Nat}{x:α}(h:l[i]?=some x):i<l.length:=by
 grind
theorem La{α:Type}(l:Array α){i:Nat}(h:i<l.size):∃x,l[i]?=some x:=⟨l[i],by simp[h]⟩
theorem B9{α:Type}{l:List α}{x:α}(h:x∈l):∃i:Nat,l[i]?=some x:=by
 obtain⟨i,hi,rfl⟩:=List.getElem_of_mem h;exact⟨i,by simp[hi]⟩
theorem Rel.ok{E:Env}{w:World}{v:Value}{x:AV}(h:Rel E w v x):Ok E.boxes.length E.toks.length x:=by
 induction h with
 |val v=>exact .val v
 |lit b=>exact .lit b
 |junk v=>exact .junk
 |err t v=>exact .err
 |tagN te b blk sz h ht=>exact .tagN _ _ (Aa h)
 |buf te s t a cap k hk hn hx hs hc=>exact .buf _ _ _ (Aa hk)
 |dat te s t p k hk hn hs=>exact .dat _ _ _ (Aa hk)
 |ptr b row off blk sz h=>exact .ptr _ _ _ (Aa h)
 |cptr cs b o vals hm hc hr ih=>exact .cptr _ (fun x hx=>by grind [B9])
 |sl rows sp a n cap b o sz vals hn hx ha hsz hm hc hr hs hcap ih=>
  refine .sl _ _ (fun r hr' x hx'=>?_) (fun t ht=>?_)
  ·grind [B9]
  ·subst ht;obtain⟨k,hk,_⟩:=hs
   grind
 |bsl b blk sz n cap h hc=>exact .bsl _ _ (Aa h)
 |bst b blk sz o n cap h=>exact .bst _ _ _ (Aa h)
 |agg vs cs hl hr ih=>
  refine .agg _ (fun x hx=>?_);obtain⟨i,hi⟩:=B9 hx;obtain⟨v,hv⟩:=La vs (i:=i) (by grind)
  grind
 |tup vs cs hl hr ih=>
  refine .tup _ (fun x hx=>?_);obtain⟨i,hi⟩:=B9 hx;obtain⟨v,hv⟩:=La vs (i:=i) (by grind)
  grind
 |fn f vs cs hl hr ih=>
  refine .fn _ _ (fun x hx=>?_);obtain⟨i,hi⟩:=B9 hx;obtain⟨v,hv⟩:=La vs (i:=i) (by grind)
  grind
 |psl rows t v a n cap k sz vals hn hx hcap hk hv hsz hp hr hf ih=>
  refine .psl rows t v (Aa hk) (fun r hr' x hx'=>?_) hf
  grind [B9]
 |pp rows t v i o b sz n cap h hi hsz ih=>cases ih<;>constructor<;>grind
theorem Rel.pp_inv{E:Env}{w:World}{v:Value}{rows:A7}{t ver i o:Nat}(h:Rel E w v (.pp rows t ver i o)) :
 ∃b sz n cap,v=.pointer (some ⟨b,i*sz+o,none⟩)∧Rel E w (.slice (some ⟨b,0,none⟩) n cap) (.psl rows t ver)∧i<rows.length∧∀r,r∈rows→r.length=sz:=by
 cases h<;>grind
structure Evol (E:Env)(w:World)(E':Env)(w':World)(n m:Nat):Prop where
 fr:E'.fr=E.fr
 boxes:∀i:Nat,i<n→i<E.boxes.length→i<E'.boxes.length∧∀x,E.boxes[i]?=some (some x)→E'.boxes[i]?=some (some x)
 toks:∀t:Nat,t<m→∀k:Tk,E.toks[t]?=some k→∃k',E'.toks[t]?=some k'∧(k'=k∨k.len<k'.len)
 os:w'.os=w.os
 tape:w'.tape=w.tape
 output:w'.output=w.output
 size:w.heap.size≤w'.heap.size
 block:∀k:Nat,k<w.heap.size→¬E.own k→w'.heap[k]?=w.heap[k]?
 cell:∀b o v,¬E.mt b o→w.cell? ⟨b,o,none⟩=some v→w'.cell? ⟨b,o,none⟩=some v
 mt:∀b o,b<w.heap.size→E'.mt b o→E.mt b o
 own:∀b,b<w.heap.size→E'.own b→E.own b
 df:E'.df=E.df
 ty:∀b e,Gk w b=some e→Gk w' b=some e
 pv:∀t:Nat,t<m→∀(k:Tk) (b c:Nat),E.toks[t]?=some k→k.sp=some (b,c,0)→E'.toks[t]?=some k→∀o,w.heap[b]?=some o→w'.heap[b]?=some o
theorem Wj{w:World}{b:Nat}{o:Obj}(h:w.heap[b]?=some o):b<w.heap.size:=by
 grind
theorem Ni{w:World}{b o:Nat}{v:Value}(h:w.cell? ⟨b,o,none⟩=some v):b<w.heap.size:=by
 grind [World.cell?]
theorem Evol.refl(E:Env)(w:World)(n m:Nat):Evol E w E w n m:=
 ⟨rfl,fun _ _ h=>⟨h,fun _ h=>h⟩,fun _ _ k h=>⟨k,h,.inl rfl⟩,rfl,rfl,rfl,Bt _,fun _ _ _=>rfl,fun _ _ _ _ h=>h,fun _ _ _ h=>h,fun _ _ h=>h,rfl,fun _ _ h=>h,fun _ _ _ _ _ _ _ _ _ h=>h⟩
theorem Evol.trans{E E' E'':Env}{w w' w'':World}{n m:Nat}(h:Evol E w E' w' n m)(k:Evol E' w' E'' w'' n m):Evol E w E'' w'' n m where
 fr:=k.fr.trans h.fr
 boxes i hi hl:=let ⟨h1,h2⟩:=h.boxes i hi hl;let ⟨h3,h4⟩:=k.boxes i hi h1;⟨h3,fun x hx=>h4 x (h2 x hx)⟩
 toks t ht x hx:=by
  obtain⟨y,hy,h1⟩:=h.toks t ht x hx;obtain⟨z,hz,h2⟩:=k.toks t ht y hy
  grind
 os:=k.os.trans h.os
 tape:=k.tape.trans h.tape
 output:=k.output.trans h.output
 size:=Vt h.size k.size
 block i hi ho:=by
  have h1:=h.block i hi ho;rw[←h1];exact k.block i (Ng hi h.size) (fun hh=>ho (h.own i hi hh))
 cell b o v hm hc:=by
  have hb:=Ni hc;exact k.cell b o v (fun hh=>hm (h.mt b o hb hh)) (h.cell b o v hm hc)
 mt b o hb hh:=h.mt b o hb (k.mt b o (Ng hb h.size) hh)
 own b hb hh:=h.own b hb (k.own b (Ng hb h.size) hh)
 df:=k.df.trans h.df
 ty b e he:=k.ty b e (h.ty b e he)
 pv t ht x b c h1 h2 h3 o ho:=by
  obtain⟨y,hy,h4⟩:=h.toks t ht x h1;obtain⟨z,hz,h5⟩:=k.toks t ht y hy;rw[h3]at hz;cases hz;have:y=x:=by
   grind
  subst this;exact k.pv t ht _ b c hy h2 h3 o (h.pv t ht _ b c h1 h2 hy o ho)
theorem Evol.weaken{E E':Env}{w w':World}{n m n' m':Nat}(h:Evol E w E' w' n m)(hn:n'≤n)(hm:m'≤m):Evol E w E' w' n' m':=
 { h with boxes:=fun i hi=>h.boxes i (by omega),toks:=fun t ht=>h.toks t (by omega),pv:=fun t ht=>h.pv t (by omega) }
theorem BufAt.move{E E':Env}{w w':World}(evc:∀b o v,¬E.mt b o→w.cell? ⟨b,o,none⟩=some v→w'.cell? ⟨b,o,none⟩=some v)(evm:∀b o,b<w.heap.size→E'.mt b o→E.mt b o)
 (evs:∀b e,Gk w b=some e→Gk w' b=some e){te:Nat}{s:Ad}{k:Tk}{p:Option Addr}{cap:Nat}(h:BufAt E w te s k p cap):BufAt E' w' te s k p cap:=by
 unfold BufAt at h⊢;split at h
 ·exact h
 ·obtain⟨h1,h2,h3,h4,h5,h6⟩:=h;refine⟨h1,h2,h3,evs _ _ h4,fun j hj hh=>?_,fun j x hx=>?_⟩
  ·obtain⟨x,hx⟩:∃x,s[j]?=some x:=⟨s[j],by simp[hj]⟩
   grind [Ni]
  grind
theorem Rel.move{E E':Env}{w w':World}{n m:Nat}(evb:∀i:Nat,i<n→i<E.boxes.length→i<E'.boxes.length∧∀x,E.boxes[i]?=some (some x)→E'.boxes[i]?=some (some x))
 (evt:∀t:Nat,t<m→∀k:Tk,E.toks[t]?=some k→∃k',E'.toks[t]?=some k'∧(k'=k∨k.len<k'.len))
 (evc:∀b o v,¬E.mt b o→w.cell? ⟨b,o,none⟩=some v→w'.cell? ⟨b,o,none⟩=some v)
 (evm:∀b o,b<w.heap.size→E'.mt b o→E.mt b o)(evs:∀b e,Gk w b=some e→Gk w' b=some e)
 (evp:∀t:Nat,t<m→∀(k:Tk)(b c:Nat),E.toks[t]?=some k→k.sp=some (b,c,0)→E'.toks[t]?=some k→∀o,w.heap[b]?=some o→w'.heap[b]?=some o){v:Value}{x:AV}(h:Rel E w v x)(ho:Ok n m x):Rel E' w' v x:=by
 induction h with
 |val v=>exact .val v
 |lit b=>exact .lit b
 |junk v=>exact .junk v
 |err t v=>exact .err t v
 |tagN te b blk sz h ht=>cases ho with|tagN _ _ hb=>exact .tagN _ _ _ _ ((evb b hb (Aa h)).2 _ h) (evs _ _ ht)
 |buf te s t a cap k hk hn hx hs hc=>
  cases ho with
  |buf _ _ _ ht=>
   obtain⟨k',hk',h'⟩:=evt t ht k hk;refine .buf te s t a cap k' hk' ?_ hx (fun hl=>?_) hc
   ·grind
   ·rcases h' with rfl|h'
    ·grind [BufAt.move]
    ·omega
 |dat te s t p k hk hn hs=>
  cases ho with
  |dat _ _ _ ht=>
   obtain⟨k',hk',h'⟩:=evt t ht k hk;refine .dat te s t p k' hk' ?_ (fun hl h0=>?_)
   ·grind
   ·rcases h' with rfl|h'
    ·obtain⟨cap,hb⟩:=hs hl h0;exact⟨cap,BufAt.move evc evm evs hb⟩
    ·omega
 |ptr b row off blk sz h=>cases ho<;>constructor<;>grind
 |cptr cs b o vals hm hc hr ih=>
  cases ho with
  |cptr _ ho=>
   refine .cptr cs b o vals (fun j hj hh=>hm j hj (evm b _ (Ni (hc j hj)) hh)) (fun j hj=>evc _ _ _ (hm j hj) (hc j hj)) (fun j x hx=>?_)
   grind
 |sl rows sp a n' cap b o sz vals hn hx ha hsz hm hc hr hs hcap ih=>
  cases ho with
  |sl _ _ ho hso=>
   refine .sl rows sp a n' cap b o sz vals hn hx ha hsz (fun i j hi hj hh=>hm i j hi hj (evm b _ (Ni (hc i j hi hj)) hh))
    (fun i j hi hj=>evc _ _ _ (hm i j hi hj) (hc i j hi hj)) (fun i j r x hr' hx'=>?_) ?_ hcap
   ·exact ih i j r x hr' hx' (ho r (Bn hr') x (Bn hx'))
   ·cases sp with
    |no=>trivial
    |tight=>exact hs
    |tok t=>
     obtain⟨k,hk,hle,hkk⟩:=hs;obtain⟨k',hk',h'⟩:=evt t (hso t rfl) k hk;refine⟨k',hk',?_,?_⟩
     ·grind
     grind
 |bsl b blk sz n cap h hc=>cases ho with|bsl _ _ hb=>exact .bsl _ _ _ _ _ ((evb b hb (Aa h)).2 _ h) hc
 |bst b blk sz o n cap h=>cases ho<;>constructor<;>grind
 |agg vs cs hl hr ih=>cases ho<;>constructor<;>grind
 |tup vs cs hl hr ih=>cases ho<;>constructor<;>grind
 |fn f vs cs hl hr ih=>cases ho<;>constructor<;>grind
 |psl rows t v a n' cap k sz vals hn hx hcap hk hv hsz hp hr hf ih=>
  cases ho with
  |psl _ _ _ ht ho _=>
   obtain⟨k',hk',h'⟩:=evt t ht k hk;refine .psl rows t v a n' cap k' sz vals hn hx hcap hk' ?_ hsz (fun hl=>?_) (fun i j r x h1 h2=>ih i j r x h1 h2 (ho r (Bn h1) x (Bn h2))) hf
   ·grind
   ·rcases h' with rfl|h'
    ·have hp:=hp hl;obtain⟨kl,ksp⟩:=k';cases ksp with
     |none=>exact hp
     |some q=>
      obtain⟨b,c,s⟩:=q;obtain⟨h1,rfl,h2,h3,cs,e,h4,h5⟩:=hp;exact⟨h1,rfl,h2,h3,cs,e,evp t ht _ b c hk rfl hk' _ h4,h5⟩
    ·omega
 |pp rows t v i o b sz n' cap h hi hsz ih=>
  cases ho with
  |pp _ _ _ _ _ ht hf hn=>exact .pp rows t v i o b sz n' cap (ih (.psl _ _ _ ht hf hn)) hi hsz
theorem Rel.mono{E E':Env}{w w':World}{n m:Nat}(ev:Evol E w E' w' n m){v:Value}{x:AV}(h:Rel E w v x)(ho:Ok n m x):Rel E' w' v x:=
 h.move ev.boxes ev.toks ev.cell ev.mt ev.ty ev.pv ho
theorem Rel.step{E E':Env}{w w':World}(ev:Evol E w E' w' E.boxes.length E.toks.length){v:Value}{x:AV}(h:Rel E w v x):Rel E' w' v x:=h.mono ev h.ok
structure St where
 boxes:List (List (List AV))
 toks:List Nat
inductive TK where
 |flat
 |int (k:IntKind)
 |string
 |bool
 |str (fs:List (Nat×Nat))
 |arr (n e:Nat)
 |slc (e:Nat)
structure Ty where
 size:Nat
 k:TK
 zero:List AV
 fa:List Bool:=[]
def Iu:Value→AV
 |.slice none 0 0=>.sl [] .tight
 |v=>.val v
def Ao6:Value→AV
 |.agg cs=>.agg (cs.toList.map Iu)
 |v=>Iu v
def G9:TK→Bool
 |.str _=>true
 |.arr _ _=>true
 |_=>false
structure TyOk (P:Program)(t:TypeId)(y:Ty)(ty:Nat→Option Ty):Prop where
 info:∃i z,P.info? t=some i∧i.size=y.size∧i.bytes≤1024∧i.zero=some z∧z.cells.toList.map Iu=y.zero∧y.zero.length=y.size∧(G9 y.k=false→y.size=1)
 agg:∃d,P.underlying t=some d∧(match y.k with
  |.str fs=>∃fields:Array Field,d=.struct fields∧fields.toList.mapM (fun f=>(P.info? f.type).map fun i=>(f.offset,i.size))=some fs∧∀i off sz:Nat,fs[i]?=some (off,sz)→∃f i',fields[i]?=some f∧f.offset=off∧P.info? f.type=some i'∧i'.size=sz∧sz≠0∧off+sz≤y.size∧(∀g,y.fa[i]?=some g→∃d',P.underlying f.type=some d'∧(g=true↔((∃fs',d'=.struct fs')∨∃n' e',d'=.array n' e')))
  |.arr n e=>d=.array n e∧∃ye,ty e=some ye∧n*ye.size=y.size∧ye.size≠0
  |.slc e=>d=.slice e∧∃ye,ty e=some ye∧ye.size≠0
  |.int k=>d=.int k
  |.string=>d=.string
  |.bool=>d=.bool
  |.flat=>(∀fs,d≠.struct fs)∧(∀n e,d≠.array n e))
structure Cx where
 P:Program
 ty:Nat→Option Ty
 G:Nat→Option (List AV)
 K0:Nat
 Glob:World→Prop
 ty_ok:∀t y,ty t=some y→TyOk P t y ty
 glob_st:∀w w':World,(∀k,k<K0→w'.heap[k]?=w.heap[k]?)→K0≤w.heap.size→w'.os=w.os→Glob w→Glob w'
 glob_G:∀w,Glob w→∀g cells,G g=some cells→g<K0∧∀(j:Nat) (x:AV),cells[j]?=some x→∃v,w.cell? ⟨g,j,none⟩=some v∧x=.val v
 mixed:P.follows .mixedOrders=true
def Ahe(E:Env)(w:World)(b sz:Nat)(rows:A7):Prop:=
 ∃cs e,w.heap[b]?=some (.cells cs e (0,0))∧cs.size=rows.length*sz∧(∀r,r∈rows→r.length=sz) ∧
  ∀(k:Nat) (r:An) (j:Nat) (x:AV) (v:Value),rows[k]?=some r→r[j]?=some x→cs[k*sz+j]?=some v→Rel E w v x
structure Inv (X:Cx)(E:Env)(S:St)(w:World):Prop where
 nb:E.boxes.length=S.boxes.length
 nt:E.toks.map Tk.len=S.toks
 np:∀i:Nat,i<E.boxes.length→∃q,E.boxes[i]?=some (some q)
 box:∀(i b sz:Nat) (rows:List (List AV)),E.boxes[i]?=some (some (b,sz))→S.boxes[i]?=some rows→Ahe E w b sz rows
 tok:∀(t l b c sz:Nat),E.toks[t]?=some (Tk.mk l (some (b,c,sz)))→(sz≠0→l≤c)∧l≠0∧∃cs e,w.heap[b]?=some (.cells cs e (0,0))∧(sz≠0→cs.size=c*sz)
 bb:∀(i j b s s':Nat),E.boxes[i]?=some (some (b,s))→E.boxes[j]?=some (some (b,s'))→i=j
 bt:∀(i t b s l c sz:Nat),E.boxes[i]?=some (some (b,s))→E.toks[t]?=some (Tk.mk l (some (b,c,sz)))→False
 tt:∀(i j b l c s l' c' s':Nat),E.toks[i]?=some (Tk.mk l (some (b,c,s)))→E.toks[j]?=some (Tk.mk l' (some (b,c',s')))→i=j
 frlt:∀b o,E.fr b o→¬E.own b∧b<w.heap.size
 lo:∀b,E.own b→X.K0≤b
 frlo:∀b o,E.fr b o→X.K0≤b
 sz:X.K0≤w.heap.size
 glob:X.Glob w
theorem Uj{X:Cx}{E:Env}{S:St}{w:World}(hI:Inv X E S w){b o:Nat}(h:E.mt b o):E.own b∨E.fr b o:=by
 rcases h with h|⟨i,s,h⟩|⟨t,l,c,s,h,_⟩
 ·simp_all
 ·exact .inl (.inl ⟨i,s,h⟩)
 ·exact .inl (.inr ⟨t,l,c,s,h⟩)
theorem Inv.own_lt{X:Cx}{E:Env}{S:St}{w:World}(hI:Inv X E S w){b:Nat}(h:E.own b):b<w.heap.size:=by
 have key:∀{o:Obj},w.heap[b]?=some o→b<w.heap.size:=fun h=>by
  grind
 rcases h with⟨i,s,h⟩|⟨t,l,c,s,h⟩
 ·have hi:i<S.boxes.length:=by rw[←hI.nb];grind
  obtain⟨cs,e,hh,_⟩:=hI.box i b s S.boxes[i] h (by simp[hi]);simp_all
 ·obtain⟨_,_,cs,e,hh,_⟩:=hI.tok t l b c s h;simp_all
abbrev Cw:=List (Nat×AV)
def lk:Cw→Nat→Option AV
 |[],_=>none
 |(k,x)::F,n=>match Nat.beq k n with
  |true=>some x
  |false=>lk F n
def Ub{α:Type}:List α→Nat→Option α
 |[],_=>none
 |a::_,0=>some a
 |_::l,n+1=>Ub l n
def Ol{R:Type}:Nat→An→(An→Option R)→Option R
 |0,_,k=>k []
 |n+1,a::l,k=>Ol n l fun t=>k (a::t)
 |_+1,[],_=>none
def P7{R:Type}:Nat→An→(An→Option R)→Option R
 |0,l,k=>k l
 |n+1,_::l,k=>P7 n l k
 |_+1,[],_=>none
def W2{R:Type}:An→Nat→An→(An→Option R)→Option R
 |l,0,[],k=>k l
 |a::l,0,x::xs,k=>W2 l 0 xs fun t=>k (x::t)
 |a::l,n+1,xs,k=>W2 l n xs fun t=>k (a::t)
 |[],0,_::_,_=>none
 |[],_+1,_,_=>none
def Ya{α R:Type}:List α→Nat→α→(List α→Option R)→Option R
 |_::l,0,x,k=>k (x::l)
 |a::l,n+1,x,k=>Ya l n x fun t=>k (a::t)
 |[],_,_,_=>none
def Ak2{α R:Type}:List α→α→(List α→Option R)→Option R
 |[],x,k=>k [x]
 |a::l,x,k=>Ak2 l x fun t=>k (a::t)
def Aat{α:Type}:List α→Nat
 |[]=>0
 |[_]=>1
 |[_,_]=>2
 |[_,_,_]=>3
 |[_,_,_,_]=>4
 |[_,_,_,_,_]=>5
 |[_,_,_,_,_,_]=>6
 |[_,_,_,_,_,_,_]=>7
 |[_,_,_,_,_,_,_,_]=>8
 |[_,_,_,_,_,_,_,_,_]=>9
 |[_,_,_,_,_,_,_,_,_,_]=>10
 |l=>l.length
def Aqg:Nat→Nat→Nat
 |0,b=>b
 |a+1,b=>a+1+b
def Jj:AV→Bool
 |.val (.agg _)=>false
 |.val (.tuple _)=>false
 |.val _=>true
 |.ptr _ _ _=>true
 |.cptr _=>true
 |.tagN _ _=>true
 |.buf _ _ _=>true
 |.dat _ _ _=>true
 |.psl _ _ _=>true
 |.pp _ _ _ _ _=>true
 |.sl _ _=>true
 |.bsl _ _=>true
 |.bst _ _ _=>false
 |.fn _ _=>true
 |.lit _=>true
 |.agg _=>false
 |.tup _=>false
 |.junk=>false
 |.err=>true
def J9:An→Bool
 |[]=>true
 |x::l=>match Jj x with
  |true=>J9 l
  |false=>false
def cellsOf:AV→Option An
 |.agg cs=>match J9 cs with
  |true=>some cs
  |false=>none
 |x=>match Jj x with
  |true=>some [x]
  |false=>none
def Xs(agg:Bool)(cs:An):Option AV:=
 match agg with
 |true=>some (.agg cs)
 |false=>match cs with
  |[x]=>some x
  |_=>none
def A1b:AV→Option Value
 |.val v=>some v
 |_=>none
def Abc:An→Option (List Value)
 |[]=>some []
 |x::l=>match A1b x with
  |some v=>match Abc l with
   |some vs=>some (v::vs)
   |none=>none
  |none=>none
def Dv(X:Cx)(F:Cw):Operand→Option AV
 |.tmp t=>match lk F t with
  |some (.lit b)=>some (.val (.bool b))
  |x=>x
 |.const v=>match Ao6 v with
  |.val u=>some (.val u)
  |x=>some x
 |.global g=>match X.G g with
  |some cs=>some (.cptr cs)
  |none=>none
 |.func f=>some (.fn f [])
def Hv(X:Cx)(F:Cw):List Operand→Option An
 |[]=>some []
 |o::l=>match Dv X F o with
  |some x=>match Hv X F l with
   |some xs=>some (x::xs)
   |none=>none
  |none=>none
def Xb(S:St)(sz:Nat)(agg:Bool):AV→Option AV
 |.ptr b r o=>match Ub S.boxes b with
  |some rows=>match Ub rows r with
   |some cs=>P7 o cs fun c=>Ol sz c fun c'=>Xs agg c'
   |none=>none
  |none=>none
 |.cptr cs=>Ol sz cs fun c'=>Xs agg c'
 |_=>none
def Vp(S:St)(sz:Nat)(a x:AV):Option St:=
 match a with
 |.ptr b r o=>match cellsOf x with
  |some xs=>match Nat.beq xs.length sz with
   |true=>match S with
    |⟨bx,tk⟩=>match Ub bx b with
     |some rows=>match Ub rows r with
      |some cs=>W2 cs o xs fun cs'=>Ya rows r cs' fun rows'=>Ya bx b rows' fun bs=>some ⟨bs,tk⟩
      |none=>none
     |none=>none
   |false=>none
  |none=>none
 |_=>none
def Ab9(X:Cx)(F:Cw)(fs:List (Nat×Nat)):List (Nat×Operand)→An→Option AV
 |[],cs=>some (.agg cs)
 |(i,o)::ps,cs=>match Ub fs i with
  |some (off,sz)=>match Dv X F o with
   |some x=>match cellsOf x with
    |some xs=>match Nat.beq xs.length sz with
     |true=>W2 cs off xs fun cs'=>Ab9 X F fs ps cs'
     |false=>none
    |none=>none
   |none=>none
  |none=>none
def U9(X:Cx)(F:Cw)(sz:Nat):List (Nat×Operand)→A7→Option AV
 |[],rows=>some (.sl rows .tight)
 |(i,o)::ps,rows=>match Dv X F o with
    |some x=>match cellsOf x with
     |some xs=>match Nat.beq xs.length sz with
      |true=>Ya rows i xs fun rows'=>U9 X F sz ps rows'
      |false=>none
     |none=>none
    |none=>none
def Avw{α R:Type}:Nat→α→(List α→Option R)→Option R
 |0,_,k=>k []
 |n+1,a,k=>Avw n a fun l=>k (a::l)
def Axj:An→An→(An→Option An)→Option An
 |[],l,k=>k l
 |x::xs,l,k=>Axj xs l fun t=>k (x::t)
def Jt(xs caps:An):Option An:=
 match caps with
 |[]=>some xs
 |l=>Axj xs l some
def At9(op:BinOp)(k:IntKind)(a b:Int)(yc:Bool):Option Value:=
 match op with
 |.add=>some (.int k (k.wrap (a+b)))
 |.sub=>some (.int k (k.wrap (a-b)))
 |.mul=>some (.int k (k.wrap (a*b)))
 |.quo=>match yc with
  |true=>match decide (b=0)with
   |false=>some (.int k (k.wrap (a.tdiv b)))
   |true=>none
  |false=>none
 |.rem=>match yc with
  |true=>match decide (b=0)with
   |false=>some (.int k (a.tmod b))
   |true=>none
  |false=>none
 |.eql=>some (.bool (a==b))
 |.neq=>some (.bool (a != b))
 |.lss=>some (.bool (decide (a<b)))
 |.leq=>some (.bool (decide (a≤b)))
 |.gtr=>some (.bool (decide (a>b)))
 |.geq=>some (.bool (decide (a≥b)))
 |_=>none
def A08(op:BinOp)(a b:ByteArray):Option Value:=
 match op with
 |.eql=>some (.bool (a.data.toList==b.data.toList))
 |.neq=>some (.bool (!(a.data.toList==b.data.toList)))
 |_=>none
def Ayh:Operand→Bool
 |.const _=>true
 |_=>false
def A1t(op:BinOp)(yc:Bool):AV→AV→Option AV
 |.val (.int k a),.val (.int k' b)=>match decide (k=k')with
  |true=>match At9 op k a b yc with
   |some v=>some (.val v)
   |none=>none
  |false=>none
 |.val (.string a),.val (.string b)=>match A08 op a b with
  |some v=>some (.val v)
  |none=>none
 |_,_=>none
def A1u(op:BinOp)(k:TK):AV→AV→Option AV
 |.val (.bool a),.val (.bool b)=>match k with
  |.bool=>match op with
   |.eql=>some (.val (.bool (a==b)))
   |.neq=>some (.val (.bool (!(a==b))))
   |_=>none
  |_=>none
 |_,_=>none
def unA(op:UnOp):AV→Option AV
 |.val (.bool b)=>match op with
  |.not=>some (.val (.bool (!b)))
  |_=>none
 |.val (.int k n)=>match op with
  |.neg=>some (.val (.int k (k.wrap (-n))))
  |_=>none
 |_=>none
def A2y:AV→Option AV
 |.ptr b r o=>some (.ptr b r o)
 |.cptr cs=>some (.cptr cs)
 |.fn f c=>some (.fn f c)
 |_=>none
def A2s(S:St)(k:TK):AV→Option AV
 |.sl rows _=>match k with
  |.slc _=>some (.val (.int .i64 rows.length))
  |_=>none
 |.val (.string s)=>match k with
  |.string=>some (.val (.int .i64 s.size))
  |_=>none
 |.bsl _ n=>match k with
  |.slc _=>some (.val (.int .i64 n))
  |_=>none
 |.psl rows _ _=>match k with
  |.slc _=>some (.val (.int .i64 rows.length))
  |_=>none
 |_=>none
def T5(X:Cx)(t:Nat):Option (Nat×Bool):=
 match X.ty t with
 |some y=>some (y.size,G9 y.k)
 |none=>none
def Es(X:Cx)(F:Cw)(S:St):Op→Option AV
 |.move x=>Dv X F x
 |.assign x=>Dv X F x
 |.pick (.tmp c) a b=>match lk F c with
  |some (.lit true)=>Dv X F a
  |some (.lit false)=>Dv X F b
  |some (.val (.bool e))=>match Dv X F a with
   |some (.val (.bool p))=>match Dv X F b with
    |some (.val (.bool q))=>some (.val (.bool (cond e p q)))
    |_=>none
   |_=>none
  |_=>none
 |.build t ps=>match X.ty t with
  |some y=>match y.k with
   |.str fs=>Ab9 X F fs ps.toList y.zero
   |_=>none
  |none=>none
 |.load t a=>match T5 X t with
  |some (sz,agg)=>match Dv X F a with
   |some x=>Xb S sz agg x
   |none=>none
  |none=>none
 |.nilCheck x=>match Dv X F x with
  |some y=>A2y y
  |none=>none
 |.binOp op t x y _=>match Dv X F x with
  |some a=>match Dv X F y with
   |some b=>match A1t op (Ayh y) a b with
    |some r=>some r
    |none=>match X.ty t with
     |some yt=>A1u op yt.k a b
     |none=>none
   |none=>none
  |none=>none
 |.unOp op _ x=>match Dv X F x with
  |some a=>unA op a
  |none=>none
 |.convert src dst x=>match X.ty src with
  |some _=>match X.ty dst with
   |some y=>match Dv X F x with
    |some (.val (.int _ n))=>match y.k with
     |.int k=>some (.val (.int k (k.wrap n)))
     |_=>none
    |_=>none
   |none=>none
  |none=>none
 |.makeFunc (.func f) first cap=>match first.toList with
  |[]=>match Hv X F cap.toList with
   |some cs=>some (.fn f cs)
   |none=>none
  |_=>none
 |.fieldAddr s x f=>match X.ty s with
  |some y=>match y.k with
   |.str fs=>match Ub fs f with
    |some (off,_)=>match Dv X F x with
     |some (.ptr b r 0)=>some (.ptr b r off)
     |some (.ptr b r o)=>some (.ptr b r (Aqg o off))
     |some (.cptr cs)=>P7 off cs fun c=>some (.cptr c)
     |some (.pp rows t v i o)=>some (.pp rows t v i (Aqg o off))
     |_=>none
    |none=>none
   |_=>none
  |none=>none
 |.field s x f=>match X.ty s with
  |some y=>match y.k with
   |.str fs=>match Ub fs f with
    |some (off,sz)=>match Ub y.fa f with
     |some agg=>match Dv X F x with
      |some (.agg cs)=>P7 off cs fun c=>Ol sz c fun c'=>Xs agg c'
      |_=>none
     |none=>none
    |none=>none
   |_=>none
  |none=>none
 |.indexAddr t x (.const (.int _ i))=>match X.ty t with
  |some y=>match y.k with
   |.arr n e=>match X.ty e with
    |some ye=>match decide (0≤i)with
     |true=>match decide (i<(n:Int))with
      |true=>match Dv X F x with
       |some (.ptr b r o)=>some (.ptr b r (Aqg o (i.toNat*ye.size)))
       |_=>none
      |false=>none
     |false=>none
    |none=>none
   |_=>none
  |none=>none
 |.extract t i=>match Dv X F t with
  |some (.tup vs)=>Ub vs i
  |_=>none
 |.call c=>match c.callee with
  |.builtin .len=>match c.args.toList with
   |[x]=>match c.argTypes.toList with
    |[t]=>match X.ty t with
     |some y=>match Dv X F x with
      |some a=>A2s S y.k a
      |none=>none
     |none=>none
    |_=>none
   |_=>none
  |.builtin .max=>match Hv X F c.args.toList with
   |some [.val (.int k a),.val (.int _ b)]=>some (.val (.int k (if b>a then b else a)))
   |_=>none
  |.builtin .min=>match Hv X F c.args.toList with
   |some [.val (.int k a),.val (.int _ b)]=>some (.val (.int k (if b<a then b else a)))
   |_=>none
  |_=>none
 |_=>none
def Kx(X:Cx)(F:Cw)(S:St):Op→Option (AV×St)
 |.alloc t=>match X.ty t with
  |some ⟨_,_,z,_⟩=>match S with
   |⟨bx,tk⟩=>Ak2 bx [z] fun bs=>some (.ptr (Aat bx) 0 0,⟨bs,tk⟩)
  |none=>none
 |.box _ x=>match Dv X F x with
  |some a=>match cellsOf a with
   |some cs=>match S with
    |⟨bx,tk⟩=>Ak2 bx [cs] fun bs=>some (.ptr (Aat bx) 0 0,⟨bs,tk⟩)
   |none=>none
  |none=>none
 |.buildSlice t n ps=>match X.ty t with
  |some y=>match y.k with
   |.slc e=>match X.ty e with
    |some ye=>match Nat.ble (n*ye.size) 1000000 with
     |true=>match Avw n ye.zero (fun rows=>U9 X F ye.size ps.toList rows)with
      |some a=>some (a,S)
      |none=>none
     |false=>none
    |none=>none
   |_=>none
  |none=>none
 |_=>none
def Amj(X:Cx)(N:Nat)(F:Cw)(S:St)(o:Oper):Option (Cw×St):=
 match o.op with
 |.store t a x=>match o.dst with
  |none=>match T5 X t with
   |some (sz,_)=>match Dv X F a with
    |some a'=>match Dv X F x with
     |some x'=>match Vp S sz a' x' with
      |some S'=>some (F,S')
      |none=>none
     |none=>none
    |none=>none
   |none=>none
  |some _=>none
 |op=>match o.dst with
  |some d=>match Nat.blt d N with
   |true=>match Es X F S op with
    |some x=>some ((d,x)::F,S)
    |none=>match Kx X F S op with
     |some (x,S')=>some ((d,x)::F,S')
     |none=>none
   |false=>none
  |none=>none
def Bc(ops:Array Oper)(F:Cw)(o:Oper):Option Bool:=
 match o.guard with
 |none=>some true
 |some (j,want)=>match ops[j]? with
  |some oj=>match oj.dst with
   |some t=>match lk F t with
    |some (.lit true)=>some want
    |some (.lit false)=>some (!want)
    |some (.val (.tuple _))=>some false
    |_=>none
   |none=>none
  |none=>none
def ev(X:Cx)(N:Nat):Nat→List Item→Cw→St→List Item×Cw×St
 |0,K,F,S=>(K,F,S)
 |n+1,K,F,S=>match K with
  |.code .skip::k=>ev X N n k F S
  |.code (.label _)::k=>ev X N n k F S
  |.inBlock _::k=>ev X N n k F S
  |.inScope _::k=>ev X N n k F S
  |.code (.seq a b)::k=>ev X N n (.code a::.code b::k) F S
  |.code (.block id c)::k=>ev X N n (.code c::.inBlock id::k) F S
  |.code (.exit id)::k=>match exitTo id k with
   |some k'=>ev X N n k' F S
   |none=>(K,F,S)
  |.code (.cond (.tmp c) a b)::k=>match lk F c with
   |some (.lit true)=>ev X N n (.code a::k) F S
   |some (.lit false)=>ev X N n (.code b::k) F S
   |_=>(K,F,S)
  |.code (.region _ ops false)::k=>ev X N n (.inRegion ops (List.range ops.size)::k) F S
  |.inRegion _ []::k=>ev X N n k F S
  |.inRegion ops (i::l)::k=>match ops[i]? with
   |some o=>match Bc ops F o with
    |some true=>match Amj X N F S o with
     |some (F',S')=>ev X N n (.inRegion ops l::k) F' S'
     |none=>(K,F,S)
    |some false=>match o.dst with
     |some d=>match Nat.blt d N with
      |true=>ev X N n (.inRegion ops l::k) ((d,.val (.tuple #[]))::F) S
      |false=>(K,F,S)
     |none=>ev X N n (.inRegion ops l::k) F S
    |none=>(K,F,S)
   |none=>(K,F,S)
  |_=>(K,F,S)
theorem I5{α:Type}:∀(l:List α)(i:Nat),Ub l i=l[i]?
 |[],_=>by simp[Ub]
 |a::l,0=>by simp[Ub]
 |a::l,i+1=>by simp[Ub,I5 l i]
theorem Zt{R:Type}:∀(n:Nat)(l:An)(k:An→Option R)(r:R),Ol n l k=some r→n≤l.length∧k (l.take n)=some r
 |0,l,k,r,h=>by grind [Ol]
 |n+1,[],k,r,h=>by simp[Ol]at h
 |n+1,a::l,k,r,h=>by
  have:=Zt n l _ r (by simpa[Ol]using h);simp_all
theorem Yy{R:Type}:∀(n:Nat)(l:An)(k:An→Option R)(r:R),P7 n l k=some r→n≤l.length∧k (l.drop n)=some r
 |0,l,k,r,h=>by grind [P7]
 |n+1,[],k,r,h=>by simp[P7]at h
 |n+1,a::l,k,r,h=>by
  have:=Yy n l k r (by grind [P7]);simp_all
theorem Aco{R:Type}:∀(l:An)(n:Nat)(xs:An)(k:An→Option R)(r:R),W2 l n xs k=some r →
 n+xs.length≤l.length∧k (l.take n++xs++l.drop (n+xs.length))=some r
 |l,0,[],k,r,h=>by
  grind [W2]
 |a::l,0,x::xs,k,r,h=>by
  have:=Aco l 0 xs _ r (by simpa[W2]using h);simp_all
 |a::l,n+1,xs,k,r,h=>by
  have:=Aco l n xs _ r (by simpa[W2]using h)
  grind
 |[],0,_::_,k,r,h=>by simp[W2]at h
 |[],n+1,xs,k,r,h=>by simp[W2]at h
theorem Acu{α R:Type}:∀(l:List α)(n:Nat)(x:α)(k:List α→Option R)(r:R),Ya l n x k=some r→n<l.length∧k (l.set n x)=some r
 |a::l,0,x,k,r,h=>by grind [Ya]
 |a::l,n+1,x,k,r,h=>by
  have:=Acu l n x _ r (by simpa[Ya]using h);simp_all
 |[],n,x,k,r,h=>by grind [Ya]
theorem Rq{α R:Type}:∀(l:List α)(x:α)(k:List α→Option R),Ak2 l x k=k (l++[x])
 |[],x,k=>rfl
 |a::l,x,k=>by simp[Ak2,Rq l x]
theorem App{α R:Type}:∀(n:Nat)(a:α)(k:List α→Option R),Avw n a k=k (List.replicate n a)
 |0,a,k=>by simp[Avw]
 |n+1,a,k=>by simp[Avw,App n a,Awk]
theorem Ahr:∀(xs l:An)(k:An→Option An),Axj xs l k=k (xs++l)
 |[],l,k=>rfl
 |x::xs,l,k=>by simp[Axj,Ahr xs l]
theorem Sk{xs caps zs:An}(h:Jt xs caps=some zs):xs++caps=zs:=by
 unfold Jt at h
 grind [Ahr]
theorem Kj{α:Type}(l:List α):Aat l=l.length:=by
 unfold Aat
 split<;>rfl
theorem Acg(a b:Nat):Aqg a b=a+b:=by cases a<;>simp[Aqg]
theorem Aoi{g:Bool}{cs:An}{y:AV}(h:Xs g cs=some y):(g=true∧y=.agg cs)∨(g=false∧cs=[y]):=by
 unfold Xs at h
 grind
theorem Aa7{sz k r j:Nat}(hj:j<sz)(hk:k≠r):k*sz+j<r*sz∨r*sz+sz≤k*sz+j:=by
 rcases Nat.lt_or_gt_of_ne hk with h|h
 ·left
  have:(k+1)*sz≤r*sz:=Uf sz h
  grind
 ·right
  have:(r+1)*sz≤k*sz:=Uf sz h
  grind
theorem Jv{sz n r j:Nat}(hr:r<n)(hj:j<sz):r*sz+j<n*sz:=by
 have:(r+1)*sz≤n*sz:=Uf sz hr
 grind
structure FR (E:Env)(w:World)(F:Cw)(a:Act)(N:Nat):Prop where
 size:a.tmps.size=N
 nod:a.defers=E.df
 rel:∀k x,lk F k=some x→∃v,a.tmps[k]?=some v∧Rel E w v x
theorem Gq(b o n:Nat):(⟨b,o,none⟩:Addr).add n=⟨b,o+n,none⟩:=by grind [Addr.add]
section
variable {X:Cx}{E:Env}{S:St}{w:World}{F:Cw}{a:Act}{N:Nat}
theorem Nc(v:Value):Rel E w v (Iu v):=by
 unfold Iu;split
 ·exact .sl [] .tight none 0 0 0 0 0 (fun _ _=>default) rfl (Cb _) (fun h=>absurd rfl h) (fun r hr=>by cases hr)
   (fun i j hi=>absurd hi (Aeu _)) (fun i j hi=>absurd hi (Aeu _)) (fun i j r x h=>by simp at h) rfl (Bt _)
 ·exact .val _
theorem Ar1(v:Value):Rel E w v (Ao6 v):=by
 unfold Ao6;split
 ·rename_i cs;refine .agg cs _ (by simp) (fun j v x hv hx=>?_)
  grind [Nc]
 ·exact Nc _
theorem Am(hI:Inv X E S w)(hF:FR E w F a N){o:Operand}{x:AV}(h:Dv X F o=some x):Rel E w (a.eval o) x:=by
 cases o with
 |tmp t=>
  simp only[Dv]at h;split at h
  ·rename_i b hb;cases h;obtain⟨v,hv,hr⟩:=hF.rel t _ hb;cases hr;simp only[Act.eval,Array.getD_eq_getD_getElem?,hv,Option.getD_some];exact .val _
  ·obtain⟨v,hv,hr⟩:=hF.rel t _ h;simp_all [Act.eval]
 |const v=>
  simp only[Dv]at h;have:x=Ao6 v:=by grind
  subst this;exact Ar1 v
 |«global» g=>
  simp only[Dv]at h;split at h
  ·rename_i cs hg;cases h;obtain⟨hlt,hc⟩:=X.glob_G w hI.glob g cs hg;have hnm:∀o,¬E.mt g o:=fun o hm=>by
    rcases Uj hI hm with h|h
    ·have:=hI.lo g h;omega
    ·have:=hI.frlo g o h;omega
   have hex:∀j:Nat,∃v,(j<cs.length→w.cell? ⟨g,j,none⟩=some v∧cs[j]?=some (.val v)):=fun j=>by
    by_cases hj:j<cs.length
    ·simp_all
    ·exact⟨default,fun h=>absurd h hj⟩
   refine .cptr cs g 0 (fun j=>(hex j).choose) (fun j _=>hnm _) (fun j hj=>?_) (fun j x hx=>?_)
   ·grind
   ·have:=((hex j).choose_spec (Aa hx)).2;rw[Option.some.inj (hx.symm.trans this)];exact .val _
  ·cases h
 |func f=>simp only[Dv]at h;cases h;exact .fn f #[] [] rfl (fun j v x hv=>by simp at hv)
theorem Ti(hI:Inv X E S w)(hF:FR E w F a N):∀{os:List Operand}{xs:An},Hv X F os=some xs →
 xs.length=os.length∧∀(j:Nat) (v:Value) (x:AV),(os.map a.eval)[j]?=some v→xs[j]?=some x→Rel E w v x
 |[],xs,h=>by grind [Hv]
 |o::os,xs,h=>by
  simp only[Hv]at h;split at h
  ·rename_i x hx;split at h
   ·rename_i xs' hxs;cases h;obtain⟨hl,hr⟩:=Ti hI hF hxs;refine⟨by simp[hl],fun j v y hv hy=>?_⟩;cases j with
    |zero=>simp at hv hy;subst hv;subst hy;exact Am hI hF hx
    |succ j=>simp at hv hy;exact hr j v y (by simpa using hv) hy
   ·cases h
  ·cases h
theorem Pp(hI:Inv X E S w)(hF:FR E w F a N){os:Array Operand}{xs:An}(h:Hv X F os.toList=some xs) :
 (os.map a.eval).size=xs.length∧∀(j:Nat)(v:Value)(x:AV),(os.map a.eval)[j]?=some v→xs[j]?=some x→Rel E w v x:=by
 obtain⟨hl,hr⟩:=Ti hI hF h
 grind
theorem Uo:∀{cs:An},J9 cs=true→∀x,x∈cs→Jj x=true
 |[],_,x,hx=>by cases hx
 |c::cs,h,x,hx=>by
  simp only[J9]at h;split at h
  ·rename_i hc;rcases zzq8.1 hx with rfl|hx
   ·exact hc
   ·exact Uo h x hx
  ·cases h
theorem Mn{v:Value}{x:AV}(h:Rel E w v x)(hc:Jj x=true):v.oneCell'=true:=by
 cases h with
 |val v=>cases v<;>first|rfl|grind [Jj]
 |lit b=>rfl
 |junk v=>simp_all [Jj]
 |agg vs cs hl hr=>simp_all [Jj]
 |tup vs cs hl hr=>simp_all [Jj]
 |_=>rfl
theorem Aqj{v:Value}(h:v.oneCell'=true):v.cells=#[v]:=by
 cases v<;>simp[Value.oneCell']at h<;>rfl
theorem H7{v:Value}{x:AV}(h:Rel E w v x){xs:An}(hc:cellsOf x=some xs) :
 v.cells.size=xs.length∧(∀(j:Nat) (u:Value) (y:AV),v.cells[j]?=some u→xs[j]?=some y→Rel E w u y)∧∀u,u∈v.cells→u.oneCell'=true:=by
 unfold cellsOf at hc;split at hc
 ·rename_i cs;split at hc
  ·rename_i hall;cases hc;cases h with
   |agg vs _ hl hr=>
    refine⟨hl,hr,fun u hu=>?_⟩;obtain⟨i,hi,rfl⟩:=Array.getElem_of_mem hu;have hi':i<xs.length:=by rw[←hl];exact hi
    exact Mn (hr i _ xs[i] (by simp[Value.cells]) (by simp[hi'])) (Uo hall _ (by simp))
  ·cases hc
 ·split at hc
  ·rename_i hcell;cases hc;have h1:=Mn h hcell;rw[Aqj h1]
   grind
  ·cases hc
theorem Dx{t:Nat}{y:Ty}(hy:X.ty t=some y)(w:World):(sizeOf t).run X.P w=.ok y.size w:=by
 obtain⟨i,z,hi,hs,_⟩:=(X.ty_ok t y hy).info;simp_all [sizeOf,typeInfo]
theorem Aaq{t:Nat}{y:Ty}(hy:X.ty t=some y)(w:World):(isAgg t).run X.P w=.ok (G9 y.k) w:=by
 obtain⟨d,hd,hk⟩:=(X.ty_ok t y hy).agg;cases hkk:y.k<;>simp only[hkk]at hk
 ·simp_all [isAgg,run_underlying,G9]
 ·simp_all [isAgg,run_underlying,G9]
 ·simp_all [isAgg,run_underlying,G9]
 ·simp_all [isAgg,run_underlying,G9]
 ·obtain⟨f,rfl,_⟩:=hk;simp[isAgg,run_underlying hd,G9]
 ·simp_all [isAgg,run_underlying,G9]
 simp_all [isAgg,run_underlying,G9]
theorem Ke{t:Nat}{y:Ty}(hy:X.ty t=some y)(w:World):∃z,(zeroValue t).run X.P w=.ok z w∧z.cells.toList.map Iu=y.zero∧y.zero.length=y.size ∧
 ∃i,X.P.info? t=some i∧i.zero=some z∧i.size=y.size∧i.bytes≤1024:=by
 obtain⟨i,z,hi,hs,hb,hz,hc,hl,_⟩:=(X.ty_ok t y hy).info;simp_all [zeroValue,typeInfo]
theorem Vb{t:Nat}{y:Ty}(hy:X.ty t=some y){b o:Nat}(vals:Nat→Value)(h:∀j,j<y.size→w.cell? ⟨b,o+j,none⟩=some (vals j)) :
 (loadVar t ⟨b,o,none⟩).run X.P w=.ok (if G9 y.k=true then .agg ((List.range y.size).map vals).toArray else vals 0) w:=by
 obtain⟨i,z,hi,hs,hb,hz,hc,hl,hone⟩:=(X.ty_ok t y hy).info;cases hk:G9 y.k with
 |true=>
  simp_all [run_loadCells,Gq,loadVar,Aaq,Dx]
 |false=>
  simp_all [loadVar,Aaq]
theorem Ahy{y:Ty}{vals:Nat→Value}{cs:An}{r:AV}(hl:cs.length=y.size)(hr:∀(j:Nat)(x:AV),cs[j]?=some x→Rel E w (vals j) x)
 (h:Xs (G9 y.k) cs=some r):Rel E w (if G9 y.k=true then .agg ((List.range y.size).map vals).toArray else vals 0) r:=by
 rcases Aoi h with⟨hk,rfl⟩|⟨hk,rfl⟩
 ·rw[if_pos hk];refine .agg _ _ (by simp[hl]) (fun j v x hv hx=>?_)
  grind
 grind
theorem Abr(hI:Inv X E S w){t:Nat}{y:Ty}(hy:X.ty t=some y){v:Value}{x r:AV}(hx:Rel E w v x)(h:Xb S y.size (G9 y.k) x=some r) :
 ∃u,(Instr.loadAt t v).run X.P w=.ok u w∧Rel E w u r:=by
 unfold Xb at h;split at h
 ·rename_i b r' o;split at h
  ·rename_i rows hrows;split at h
   ·rename_i cs hcs;rw[I5]at hrows hcs;obtain⟨h1,h2⟩:=Yy _ _ _ _ h;obtain⟨h3,h4⟩:=Zt _ _ _ _ h2;cases hx with
    |ptr _ _ _ blk sz hb=>
     obtain⟨arr,e,hblk,hsz,hlen,hrel⟩:=hI.box b blk sz rows hb hrows;have hcl:=hlen cs (Bn hcs);have hr':=Aa hcs;simp only[Anu]at h3;have hin:∀j,j<y.size→r'*sz+o+j<arr.size:=fun j hj=>by
      have:=Jv (sz:=sz) hr' (show o+j<sz by omega);omega
     have hcell:∀j,j<y.size→w.cell? ⟨blk,r'*sz+o+j,none⟩=some (arr.getD (r'*sz+o+j) default):=fun j hj=>by
      simp_all [World.cell?]
     refine⟨_,?_,Ahy (y:=y) (vals:=fun j=>arr.getD (r'*sz+o+j) default) (cs:=(cs.drop o).take y.size) (by simp;omega) (fun j x hx=>?_) h4⟩
     ·grind [Instr.loadAt,Instr.sureAddr,Vb]
     ·have hj:j<y.size:=by grind
      have hx':cs[o+j]?=some x:=by grind
      have hi:=hin j hj;exact hrel r' cs (o+j) x _ hcs hx' (by simp_all [Qi])
   ·cases h
  ·cases h
 ·rename_i cs;obtain⟨h3,h4⟩:=Zt _ _ _ _ h;cases hx with
  |cptr _ b o vals hm hc hr=>
   refine⟨_,?_,Ahy (y:=y) (vals:=vals) (cs:=cs.take y.size) (by simp;omega) (fun j x hx=>?_) h4⟩
   ·grind [Instr.loadAt,Instr.sureAddr,Vb]
   grind
 ·cases h
end
section
variable {X:Cx}{E:Env}{S:St}{w w':World}
theorem Aax(hI:Inv X E S w){b o:Nat}(h:E.mt b o):E.own b∨E.fr b o:=Uj hI h
theorem Wb(hI:Inv X E S w):¬E.own w.heap.size:=fun h=>Nat.lt_irrefl _ (hI.own_lt h)
theorem Aj4(hI:Inv X E S w){o:Nat}:¬E.mt w.heap.size o:=fun h=>by
 rcases Aax hI h with h|h
 ·exact Wb hI h
 ·exact Nat.lt_irrefl _ (hI.frlt _ _ h).2
theorem Evol.push(hh:∃o,w'.heap=w.heap.push o)(hos:w'.os=w.os)(ht:w'.tape=w.tape)(ho:w'.output=w.output)(n m:Nat):Evol E w E w' n m:=by
 obtain⟨o,hh⟩:=hh;refine⟨rfl,fun _ _ h=>⟨h,fun _ h=>h⟩,fun _ _ k h=>⟨k,h,.inl rfl⟩,hos,ht,ho,by simp_all,fun k hk _=>?_,fun b o v _ hc=>?_,fun _ _ _ h=>h,fun _ _ h=>h,rfl,fun b e he=>?_,fun _ _ _ b _ _ _ _ o ho=>by grind⟩
 ·grind
 ·grind [World.cell?]
 grind [Gk]
theorem Inv.keep(hI:Inv X E S w)(ev:Evol E w E w' E.boxes.length E.toks.length)(hb:∀b,E.own b→w'.heap[b]?=w.heap[b]?):Inv X E S w' where
 nb:=hI.nb
 nt:=hI.nt
 np:=hI.np
 box i b sz rows h1 h2:=by
  obtain⟨cs,e,hh,hs,hl,hr⟩:=hI.box i b sz rows h1 h2;exact⟨cs,e,(hb b (.inl ⟨i,sz,h1⟩)).trans hh,hs,hl,fun k r j x v h3 h4 h5=>(hr k r j x v h3 h4 h5).step ev⟩
 tok t l b c sz h:=by
  obtain⟨h1,h0,cs,e,hh,hs⟩:=hI.tok t l b c sz h;exact⟨h1,h0,cs,e,(hb b (.inr ⟨t,l,c,sz,h⟩)).trans hh,hs⟩
 bb:=hI.bb
 bt:=hI.bt
 tt:=hI.tt
 frlt b o h:=⟨(hI.frlt b o h).1,Ng (hI.frlt b o h).2 ev.size⟩
 lo:=hI.lo
 frlo:=hI.frlo
 sz:=Vt hI.sz ev.size
 glob:=X.glob_st w w' (fun k hk=>ev.block k (Ng hk hI.sz) (fun ho=>by have:=hI.lo k ho;omega)) hI.sz ev.os hI.glob
theorem Inv.push(hI:Inv X E S w)(hh:∃o,w'.heap=w.heap.push o)(hos:w'.os=w.os)(ht:w'.tape=w.tape)(ho:w'.output=w.output):Inv X E S w':=
 hI.keep (Evol.push hh hos ht ho _ _) (fun b hb=>by
  obtain⟨o,hh⟩:=hh;have:=hI.own_lt hb
  grind)
def Env.addBox(E:Env)(b sz:Nat):Env:={ E with boxes:=E.boxes++[some (b,sz)] }
theorem getElem?_snoc{α:Type}{l:List α}{a x:α}{i:Nat}(h:(l++[a])[i]?=some x):l[i]?=some x∨(i=l.length∧x=a):=by
 grind
theorem getElem?_snoc_left{α:Type}{l:List α}{a x:α}{i:Nat}(h:l[i]?=some x):(l++[a])[i]?=some x:=by
 grind
theorem getElem?_snoc_new{α:Type}(l:List α)(a:α):(l++[a])[l.length]?=some a:=by simp
theorem Inv.newBox(hI:Inv X E S w){cs:Array Value}{e:TypeId}(hh:w'.heap=w.heap.push (.cells cs e (0,0)))(hos:w'.os=w.os)(ht:w'.tape=w.tape)(ho:w'.output=w.output)
 {sz:Nat}{rows:A7}(hs:cs.size=rows.length*sz)(hl:∀r,r∈rows→r.length=sz)
 (hr:∀(k:Nat)(r:An)(j:Nat)(x:AV)(v:Value),rows[k]?=some r→r[j]?=some x→cs[k*sz+j]?=some v→Rel E w v x) :
 Evol E w (E.addBox w.heap.size sz) w' E.boxes.length E.toks.length∧Inv X (E.addBox w.heap.size sz) ⟨S.boxes++[rows],S.toks⟩ w':=by
 have ev0:=Evol.push (E:=E) ⟨_,hh⟩ hos ht ho E.boxes.length E.toks.length;have hI0:=hI.push ⟨_,hh⟩ hos ht ho;have hown:∀b,(E.addBox w.heap.size sz).own b→E.own b∨b=w.heap.size:=fun b h=>by
  rcases h with⟨i,s,h⟩|h
  ·rcases getElem?_snoc h with h|⟨_,h⟩
   ·exact .inl (.inl ⟨i,s,h⟩)
   simp_all
  ·exact .inl (.inr h)
 have ev:Evol E w (E.addBox w.heap.size sz) w' E.boxes.length E.toks.length:=by
  refine{ ev0 with boxes:=fun i hi=>?_,mt:=fun b o hb h=>?_,own:=fun b hb h=>?_,fr:=rfl,toks:=?_,pv:=ev0.pv }
  ·grind [Env.addBox]
  ·exact ev0.toks
  ·rcases h with h|⟨i,s,h⟩|h
   ·exact .inl h
   ·rcases getElem?_snoc h with h|⟨_,h⟩
    ·exact .inr (.inl ⟨i,s,h⟩)
    simp_all
   ·exact .inr (.inr h)
  grind
 have hnew:w'.heap[w.heap.size]?=some (.cells cs e (0,0)):=by simp_all
 refine⟨ev,?_⟩;have fo:=Wb hI;exact{
  nb:=by simp[Env.addBox,hI.nb]
  nt:=hI.nt
  np:=fun i hi=>by
   simp only[Env.addBox,F5,Ab0]at hi⊢;rcases Ga i E.boxes.length with h|h
   ·rw[Dd h];exact hI.np i h
   simp_all
  box:=fun i b s rows' h1 h2=>by
   rcases getElem?_snoc h1 with h1|⟨hi,h1⟩
   ·have h2':S.boxes[i]?=some rows':=by
     rcases getElem?_snoc h2 with h2|⟨hi,_⟩
     ·exact h2
     ·have:=Aa h1;rw[hI.nb]at this;omega
    obtain⟨cs',e',hh',hs',hl',hr'⟩:=hI.box i b s rows' h1 h2';exact⟨cs',e',(by
     grind),hs',hl',fun k r j x v h3 h4 h5=>(hr' k r j x v h3 h4 h5).step ev⟩
   ·cases h1;have h2':rows'=rows:=by
     rcases getElem?_snoc h2 with h2|⟨_,h2⟩
     ·have:=Aa h2;rw[←hI.nb]at this;omega
     ·exact h2
    subst h2';exact⟨cs,e,hnew,hs,hl,fun k r j x v h3 h4 h5=>(hr k r j x v h3 h4 h5).step ev⟩
  tok:=hI0.tok
  bb:=fun i j b s s' h1 h2=>by
   rcases getElem?_snoc h1 with h1|⟨hi,h1⟩<;>rcases getElem?_snoc h2 with h2|⟨hj,h2⟩
   ·exact hI.bb i j b s s' h1 h2
   ·cases h2;exact absurd (.inl ⟨i,s,h1⟩) fo
   ·cases h1;exact absurd (.inl ⟨j,s',h2⟩) fo
   ·omega
  bt:=fun i t b s l c sz' h1 h2=>by
   rcases getElem?_snoc h1 with h1|⟨hi,h1⟩
   ·exact hI.bt i t b s l c sz' h1 h2
   ·cases h1;exact absurd (.inr ⟨t,l,c,sz',h2⟩) fo
  tt:=hI.tt
  frlt:=fun b o h=>⟨fun h'=>by
   rcases hown b h' with h'|h'
   ·exact(hI.frlt b o h).1 h'
   ·have:=(hI.frlt b o h).2;omega,(hI0.frlt b o h).2⟩
  lo:=fun b h=>by
   rcases hown b h with h|h
   ·exact hI.lo b h
   ·rw[h];exact hI.sz
  frlo:=hI.frlo
  sz:=hI0.sz
  glob:=hI0.glob }
theorem Inv.setBox(hI:Inv X E S w){b blk sz:Nat}{rows rows':A7}(hb:E.boxes[b]?=some (some (blk,sz)))(hrows:S.boxes[b]?=some rows)
 {arr arr':Array Value}{e:TypeId}(hh:w.heap[blk]?=some (.cells arr e (0,0)))(hw':w'=w.setRow blk arr')
 (hs:arr'.size=rows'.length*sz)(hl:∀r,r∈rows'→r.length=sz)
 (hr:∀(k:Nat)(r:An)(j:Nat)(x:AV)(v:Value),rows'[k]?=some r→r[j]?=some x→arr'[k*sz+j]?=some v→Rel E w v x) :
 Evol E w E w' E.boxes.length E.toks.length∧Inv X E ⟨S.boxes.set b rows',S.toks⟩ w':=by
 have hoth:∀k,k≠blk→w'.heap[k]?=w.heap[k]?:=fun k hk=>by grind [setRow_other]
 have hat:w'.heap[blk]?=some (.cells arr' e (0,0)):=by grind [setRow_heap]
 have ho:E.own blk:=.inl ⟨b,sz,hb⟩;have ev:Evol E w E w' E.boxes.length E.toks.length:=by
  refine⟨rfl,fun _ _ h=>⟨h,fun _ h=>h⟩,fun _ _ k h=>⟨k,h,.inl rfl⟩,by simp_all,by simp_all,by simp_all,by simp_all,fun k _ hk=>?_,fun b' o v hm hc=>?_,fun _ _ _ h=>h,fun _ _ h=>h,rfl,fun b e he=>?_,fun t _ k b' c h1 h2 _ o ho=>?_⟩
  ·grind
  ·have hne:b'≠blk:=fun h=>hm (.inr (.inl ⟨b,sz,h▸hb⟩))
   grind [World.cell?]
  ·grind [Gk]
  ·obtain⟨kl,ksp⟩:=k;simp only at h2;subst h2;have hne:b'≠blk:=fun h=>hI.bt b t b' sz kl c 0 (h▸hb) h1;simp_all
 refine⟨ev,?_⟩;exact{
  nb:=by simp[hI.nb]
  nt:=hI.nt
  np:=hI.np
  box:=fun i b' s rr h1 h2=>by
   by_cases hi:i=b
   ·subst hi;rw[hb]at h1;cases h1;have h2':rr=rows':=by
     grind
    subst h2';exact⟨arr',e,hat,hs,hl,fun k r j x v h3 h4 h5=>(hr k r j x v h3 h4 h5).step ev⟩
   ·have h2':S.boxes[i]?=some rr:=by grind
    obtain⟨cs',e',hh',hs',hl',hr'⟩:=hI.box i b' s rr h1 h2';have hne:b'≠blk:=fun h=>hi (hI.bb i b b' s sz h1 (h▸hb));exact⟨cs',e',(hoth b' hne).trans hh',hs',hl',fun k r j x v h3 h4 h5=>(hr' k r j x v h3 h4 h5).step ev⟩
  tok:=fun t l b' c sz' h=>by
   obtain⟨h1,h0,cs,e',hh',hs'⟩:=hI.tok t l b' c sz' h;have hne:b'≠blk:=fun hx=>hI.bt b t blk sz l c sz' hb (hx▸h);simp_all
  bb:=hI.bb
  bt:=hI.bt
  tt:=hI.tt
  frlt:=fun b o h=>⟨(hI.frlt b o h).1,Ng (hI.frlt b o h).2 ev.size⟩
  lo:=hI.lo
  frlo:=hI.frlo
  sz:=Vt hI.sz ev.size
  glob:=X.glob_st w w' (fun k hk=>hoth k (fun h=>by have:=hI.lo blk ho;omega)) hI.sz ev.os hI.glob }
end
theorem Aol(off:Nat):∀(l:List Value)(k:Nat)(c:Array Value),
 ((l.zipIdx k).foldl (fun cs p=>cs.setIfInBounds (off+p.2) p.1) c).size=c.size ∧
 ∀i,((l.zipIdx k).foldl (fun cs p=>cs.setIfInBounds (off+p.2) p.1) c)[i]? =
  if off+k≤i∧i<off+k+l.length∧i<c.size then l[i-off-k]? else c[i]?
 |[],k,c=>by simp;omega
 |v::l,k,c=>by
  have ih:=Aol off l (k+1) (c.setIfInBounds (off+k) v);simp only[List.zipIdx_cons,List.foldl_cons]
  grind
theorem Abp(off:Nat)(vs c:Array Value) :
 (vs.zipIdx.foldl (fun cs (p:Value×Nat)=>cs.setIfInBounds (off+p.2) p.1) c).size=c.size ∧
 ∀i,(vs.zipIdx.foldl (fun cs (p:Value×Nat)=>cs.setIfInBounds (off+p.2) p.1) c)[i]? =
  if off≤i∧i<off+vs.size∧i<c.size then vs[i-off]? else c[i]?:=by
 have:=Aol off vs.toList 0 c
 grind [Array.toList_zipIdx]
section
variable {X:Cx}{E:Env}{S:St}{w:World}{F:Cw}{a:Act}{N:Nat}
def Afd(E:Env)(w:World)(cells:Array Value)(cs:An):Prop:=
 cells.size=cs.length∧∀(j:Nat) (v:Value) (x:AV),cells[j]?=some v→cs[j]?=some x→Rel E w v x
theorem Ayj{cells:Array Value}{cs xs:An}{v:Value}{x:AV}{off:Nat}(h:Afd E w cells cs)(hx:Rel E w v x)(hc:cellsOf x=some xs)(hl:off+xs.length≤cs.length) :
 Afd E w (v.cells.zipIdx.foldl (fun cs (p:Value×Nat)=>cs.setIfInBounds (off+p.2) p.1) cells) (cs.take off++xs++cs.drop (off+xs.length)):=by
 obtain⟨hs,hr,_⟩:=H7 hx hc;obtain⟨h1,h2⟩:=Abp off v.cells cells;refine⟨by rw[h1,h.1];simp;omega,fun j u y hu hy=>?_⟩;rw[h2 j]at hu;have hcs:=h.1;split at hu
 ·grind
 ·rename_i hj;refine h.2 j u y hu ?_
  grind
theorem X0(hI:Inv X E S w)(hF:FR E w F a N){fs:List (Nat×Nat)}{place:Nat→Option (Nat×Nat)}(hp:∀i p,Ub fs i=some p→place i=some p) :
 ∀(ps:List (Nat×Operand)) (cells:Array Value) (cs:An) (r:AV),Afd E w cells cs→Ab9 X F fs ps cs=some r →
  ∃cells',Instr.fill place cells (ps.map fun p=>(p.1,a.eval p.2))=some cells'∧Rel E w (.agg cells') r
 |[],cells,cs,r,hf,h=>by
  simp only[Ab9]at h;cases h;exact⟨cells,rfl,.agg _ _ hf.1 hf.2⟩
 |(i,o)::ps,cells,cs,r,hf,h=>by
  simp only[Ab9]at h;split at h
  ·rename_i off sz hfs;split at h
   ·rename_i x hx;split at h
    ·rename_i xs hxs;split at h
     ·rename_i hl;obtain⟨h1,h2⟩:=Aco _ _ _ _ _ h;have hl':xs.length=sz:=Ab1 hl;have hrx:=Am hI hF hx;obtain⟨hs,_,_⟩:=H7 hrx hxs;have hlay:=Ayj hf hrx hxs h1;obtain⟨cells',hc',hr'⟩:=X0 hI hF hp ps _ _ r hlay h2;refine⟨cells',?_,hr'⟩;simp only[Om,Instr.fill,hp i _ hfs];rw[if_neg]
      ·exact hc'
      ·have hfc:=hf.1;simp_all
     ·cases h
    ·cases h
   ·cases h
  ·cases h
theorem Ww{z:Value}{zs:An}(h:z.cells.toList.map Iu=zs):Afd E w z.cells zs:=by
 subst h;refine⟨by simp,fun j v x hv hx=>?_⟩
 grind [Nc]
theorem Ajo(hI:Inv X E S w)(hF:FR E w F a N){t:Nat}{y:Ty}(hy:X.ty t=some y){fs:List (Nat×Nat)}(hk:y.k=.str fs){ps:Array (Nat×Operand)}{r:AV}
 (h:Ab9 X F fs ps.toList y.zero=some r):∃v,(Instr.build t (ps.map fun(i,x)=>(i,a.eval x))).run X.P w=.ok v w∧Rel E w v r:=by
 obtain⟨d,hd,hdd⟩:=(X.ty_ok t y hy).agg;simp only[hk]at hdd;obtain⟨fields,rfl,hm,_⟩:=hdd;obtain⟨z,_,hz,hl,i,hi,hiz,his,_⟩:=Ke hy w;obtain⟨cells,hc,hr⟩:=X0 hI hF (fs:=fs) (place:=(fs.toArray[·]?)) (fun i p h=>by grind [I5]) ps.toList z.cells y.zero r (Ww hz) h;simp_all [run_build,Program.built]
theorem Aj9{op:BinOp}{k:IntKind}{x y:Int}{yc:Bool}{v:Value}(h:At9 op k x y yc=some v)(t:TypeId):(binOp op t (.int k x) (.int k y)).run X.P w=.ok v w:=by
 unfold At9 at h;split at h
 case h_4=>
  split at h
  ·split at h
   ·simp_all [binOp,Op.intDiv]
   ·cases h
  ·cases h
 case h_5=>
  split at h
  ·split at h
   ·simp_all [binOp,Op.intDiv]
   ·cases h
  ·cases h
 all_goals first|(cases h;simp[binOp,Op.intArith,Op.intCmp];done)|cases h
theorem Amd{op:BinOp}{yc:Bool}{u v:Value}{x y r:AV}(hx:Rel E w u x)(hy:Rel E w v y)(h:A1t op yc x y=some r)(t:TypeId)(ox oy:Operand) :
 ∃z,(do eqGuard op t ox oy u v;binOp op t u v:Sem Value).run X.P w=.ok z w∧Rel E w z r:=by
 unfold A1t at h;split at h
 ·rename_i k m k' n;split at h
  ·rename_i hk;split at h
   ·rename_i z hz;cases h;cases hx;cases hy;obtain rfl:=A6 hk;refine⟨z,?_,.val z⟩;have h0:(eqGuard op t ox oy (.int k m) (.int k n)).run X.P w=.ok () w:=by simp_all [eqGuard]
    grind [Sem.run_bind,Result.andThen_ok,Aj9]
   ·cases h
  ·cases h
 ·rename_i m n;split at h
  ·rename_i z hz;cases h;cases hx;cases hy;refine⟨z,?_,.val z⟩;have h0:(eqGuard op t ox oy (.string m) (.string n)).run X.P w=.ok () w:=by simp_all [eqGuard]
   simp only[Sem.run_bind,h0,Result.andThen_ok];unfold A08 at hz;split at hz
   ·simp_all [binOp,Op.stringOp,ByteArray.toList_eq]
   ·simp_all [binOp,Op.stringOp,ByteArray.toList_eq]
   ·cases hz
  ·cases h
 ·cases h
theorem Y0{t:TypeId}(hd:X.P.underlying t=some .bool)(d:Nat)(m n:Bool)(w:World):(Op.equalIn (d+1) t (.bool m) (.bool n)).run X.P w=.ok (m==n) w:=by
 simp_all [Op.equalIn,run_underlying]
theorem Ame{op:BinOp}{u v:Value}{x y r:AV}{t:TypeId}{yt:Ty}(ht:X.ty t=some yt)(hx:Rel E w u x)(hy:Rel E w v y)(h:A1u op yt.k x y=some r)(ox oy:Operand) :
 ∃z,(do eqGuard op t ox oy u v;binOp op t u v:Sem Value).run X.P w=.ok z w∧Rel E w z r:=by
 unfold A1u at h;split at h
 ·rename_i m n;split at h
  ·rename_i hk;obtain⟨d,hd,hdd⟩:=(X.ty_ok t yt ht).agg;simp only[hk]at hdd;subst hdd;cases hx;cases hy;split at h
   ·cases h;have e:=Y0 hd 9999 m n w;exact⟨_,by simp_all [eqGuard,binOp,Op.equal,Op.maxDepth],.val _⟩
   ·cases h;have e:=Y0 hd 9999 m n w;exact⟨_,by simp_all [eqGuard,binOp,Op.equal,Op.maxDepth],.val _⟩
   ·cases h
  ·cases h
 ·cases h
theorem Asf{op:UnOp}{u:Value}{x r:AV}(hx:Rel E w u x)(h:unA op x=some r):∃z,(Op.unary op u).run X.P w=.ok z w∧Rel E w z r:=by
 unfold unA at h;split at h
 ·split at h
  ·cases h;cases hx;exact⟨_,by simp[Op.unary],.val _⟩
  ·cases h
 ·split at h
  ·cases h;cases hx;exact⟨_,by simp[Op.unary,Op.intArith],.val _⟩
  ·cases h
 ·cases h
theorem Am3{u:Value}{x r:AV}(hx:Rel E w u x)(h:A2y x=some r){o:Oper}{ox:Operand}(ho:o.op=.nilCheck ox)(hu:a.eval ox=u) :
 (execOp a.eval o).run X.P w=.ok (.value u) w∧Rel E w u r:=by
 unfold A2y at h;split at h<;>cases h<;>cases hx<;>(refine⟨?_,?_⟩;(simp[execOp,ho,hu]);(first|(exact .ptr _ _ _ _ _ (by assumption))|(exact .cptr _ _ _ _ (by assumption) (by assumption) (by assumption))|(exact .fn _ _ _ (by assumption) (by assumption))))
theorem Amu(hI:Inv X E S w){t:Nat}{y:Ty}(hy:X.ty t=some y){u:Value}{x r:AV}(hx:Rel E w u x)(h:A2s S y.k x=some r)(ty:TypeId) :
 ∃z,(Builtin.len_ #[t] ty #[u]).run X.P w=.ok z w∧Rel E w z r:=by
 obtain⟨d,hd,hdd⟩:=(X.ty_ok t y hy).agg;unfold A2s at h;split at h
 ·split at h
  ·rename_i hk;cases h;simp only[hk]at hdd;obtain⟨rfl,_⟩:=hdd;cases hx with
   |sl rows sp a n cap b o sz vals hn hx ha hsz hm hc hr hs hcap=>
    subst hn;exact⟨_,by simp[Builtin.len_,run_underlying hd,goInt],.val _⟩
  ·cases h
 ·split at h
  ·rename_i hk;cases h;simp only[hk]at hdd;subst hdd;cases hx;exact⟨_,by simp[Builtin.len_,run_underlying hd,goInt],.val _⟩
  ·cases h
 ·split at h
  ·rename_i hk;cases h;simp only[hk]at hdd;obtain⟨rfl,_⟩:=hdd;cases hx;exact⟨_,by simp[Builtin.len_,run_underlying hd,goInt],.val _⟩
  ·cases h
 ·split at h
  ·rename_i hk;cases h;simp only[hk]at hdd;obtain⟨rfl,_⟩:=hdd;cases hx with
   |psl _ _ _ a n cap k sz vals hn=>
    subst hn;exact⟨_,by simp[Builtin.len_,run_underlying hd,goInt],.val _⟩
  ·cases h
 ·cases h
end
section
variable {X:Cx}{E:Env}{S:St}{w:World}{F:Cw}{a:Act}{N:Nat}
theorem Ael{t:Nat}{y:Ty}(hy:X.ty t=some y){fs:List (Nat×Nat)}(hk:y.k=.str fs){i off sz:Nat}(h:Ub fs i=some (off,sz)) :
 ∃fields f i',X.P.underlying t=some (.struct fields)∧fields[i]?=some f∧f.offset=off∧X.P.info? f.type=some i'∧i'.size=sz∧sz≠0 ∧
  (∀g,y.fa[i]?=some g→∃d',X.P.underlying f.type=some d'∧(g=true↔((∃fs',d'=.struct fs')∨∃n' e',d'=.array n' e'))):=by
 obtain⟨d,hd,hdd⟩:=(X.ty_ok t y hy).agg;simp only[hk]at hdd;obtain⟨fields,rfl,_,hf⟩:=hdd
 grind [I5]
theorem Nm{t:Nat}{y:Ty}(hy:X.ty t=some y){fs:List (Nat×Nat)}(hk:y.k=.str fs){i off sz:Nat}(h:Ub fs i=some (off,sz)){b o:Nat} :
 (Instr.fieldAt t (.pointer (some ⟨b,o,none⟩)) i).run X.P w=.ok (.pointer (some ⟨b,o+off,none⟩)) w:=by
 obtain⟨fields,f,i',h1,h2,h3,h4,h5,h6,_⟩:=Ael hy hk h;simp_all [Instr.fieldAt,run_underlying,Instr.sureAddr,fieldPlace,sizeOf,typeInfo,Gq]
theorem Aqq{b o:Nat}{cs:An}{off:Nat}(h:Rel E w (.pointer (some ⟨b,o,none⟩)) (.cptr cs))(hl:off≤cs.length) :
 Rel E w (.pointer (some ⟨b,o+off,none⟩)) (.cptr (cs.drop off)):=by
 cases h with
 |cptr _ _ _ vals hm hc hr=>
  refine .cptr _ b (o+off) (fun j=>vals (off+j)) (fun j hj=>?_) (fun j hj=>?_) (fun j x hx=>?_)
  ·simp at hj;rw[Qi];exact hm _ (by omega)
  ·grind
  simp_all
theorem Abo(hI:Inv X E S w)(hF:FR E w F a N){o:Oper}{x:AV}(h:Es X F S o.op=some x) :
 ∃v,(execOp a.eval o).run X.P w=.ok (.value v) w∧Rel E w v x:=by
 cases ho:o.op<;>rw[ho]at h<;>try (simp[Es]at h;done)
 case move y=>exact⟨a.eval y,by simp[execOp,ho],Am hI hF (by grind [Es])⟩
 case assign y=>exact⟨a.eval y,by simp[execOp,ho],Am hI hF (by grind [Es])⟩
 case pick c p q=>
  cases c with
  |tmp t=>
   simp only[Es]at h;split at h
   ·rename_i hc;obtain⟨v,hv,hr⟩:=hF.rel t _ hc;cases hr;have he:a.eval (.tmp t)=.bool true:=by simp[Act.eval,hv]
    exact⟨_,by simp_all [execOp,asBool],Am hI hF h⟩
   ·rename_i hc;obtain⟨v,hv,hr⟩:=hF.rel t _ hc;cases hr;have he:a.eval (.tmp t)=.bool false:=by simp[Act.eval,hv]
    exact⟨_,by simp_all [execOp,asBool],Am hI hF h⟩
   ·rename_i e hc;obtain⟨v,hv,hr⟩:=hF.rel t _ hc;cases hr;have he:a.eval (.tmp t)=.bool e:=by simp[Act.eval,hv]
    split at h
    ·rename_i p' hp;split at h
     ·rename_i q' hq;cases h;have h1:=Am hI hF hp;have h2:=Am hI hF hq;cases hh1:a.eval p<;>rw[hh1]at h1<;>cases h1;cases hh2:a.eval q<;>rw[hh2]at h2<;>cases h2;refine⟨_,by simp[execOp,ho,he,asBool];rfl,?_⟩;cases e<;>simp[hh1,hh2]<;>exact .val _
     ·cases h
    ·cases h
   ·cases h
  |_=>simp[Es]at h
 case build t ps=>
  simp only[Es]at h;split at h
  ·rename_i y hy;split at h
   ·rename_i fs hk;obtain⟨v,hv,hr⟩:=Ajo hI hF hy hk h;simp_all [execOp]
   ·cases h
  ·cases h
 case load t p=>
  simp only[Es,T5]at h;cases hy:X.ty t with
  |none=>simp_all
  |some y=>
   simp only[hy]at h;split at h
   ·rename_i z hz;obtain⟨u,hu,hr⟩:=Abr hI hy (Am hI hF hz) h;simp_all [execOp]
   ·cases h
 case nilCheck y=>
  simp only[Es]at h;split at h
  ·rename_i z hz;obtain⟨h1,h2⟩:=Am3 (X:=X) (Am hI hF hz) h ho rfl;simp_all
  ·cases h
 case binOp op t p q t'=>
  simp only[Es]at h;split at h
  ·rename_i u hu;split at h
   ·rename_i v hv;split at h
    ·rename_i r' hr';cases h;obtain⟨z,hz,hr⟩:=Amd (X:=X) (Am hI hF hu) (Am hI hF hv) hr' t p q;exact⟨z,by simp only[execOp,ho];simp only[Sem.run_bind]at hz⊢;rw[hz];rfl,hr⟩
    ·split at h
     ·rename_i yt hyt;obtain⟨z,hz,hr⟩:=Ame (X:=X) hyt (Am hI hF hu) (Am hI hF hv) h p q;exact⟨z,by simp only[execOp,ho];simp only[Sem.run_bind]at hz⊢;rw[hz];rfl,hr⟩
     ·cases h
   ·cases h
  ·cases h
 case unOp op t p=>
  simp only[Es]at h;split at h
  ·rename_i u hu;obtain⟨z,hz,hr⟩:=Asf (X:=X) (Am hI hF hu) h;simp_all [execOp]
  ·cases h
 case convert s d p=>
  simp only[Es]at h;split at h
  ·rename_i ys hys;split at h
   ·rename_i y hy;split at h
    ·rename_i k n hp;split at h
     ·rename_i k' hk;cases h;have h1:=Am hI hF hp;obtain⟨dd,hd,hdd⟩:=(X.ty_ok d y hy).agg;obtain⟨ds,hs,_⟩:=(X.ty_ok s ys hys).agg;simp only[hk]at hdd;subst hdd;cases hh:a.eval p<;>rw[hh]at h1<;>cases h1;exact⟨_,by simp_all [execOp,convert,run_underlying,Conv.intToInt],.val _⟩
     ·cases h
    ·cases h
   ·cases h
  ·cases h
 case makeFunc fn first cap=>
  cases fn with
  |func f=>
   simp only[Es]at h;split at h
   ·rename_i hf0;split at h
    ·rename_i cs hcs;cases h;obtain⟨hl,hr⟩:=Pp hI hF hcs;have:first=#[]:=by simp_all
     subst this;exact⟨_,by simp[execOp,ho,Instr.makeFunc],.fn f _ cs hl hr⟩
    ·cases h
   ·cases h
  |_=>simp[Es]at h
 case fieldAddr s p f=>
  simp only[Es]at h;split at h
  ·rename_i y hy;split at h
   ·rename_i fs hk;split at h
    ·rename_i off sz hfs;split at h
     ·rename_i b r hp;cases h;have h1:=Am hI hF hp;cases hh:a.eval p<;>rw[hh]at h1<;>cases h1;rename_i blk sz' hb;refine⟨_,by simp only[execOp,ho,hh];rw[Sem.run_bind,Nm hy hk hfs];rfl,?_⟩;rw[Rx];exact .ptr _ _ _ _ _ hb
     ·rename_i b r o' _ hp;cases h;have h1:=Am hI hF hp;cases hh:a.eval p<;>rw[hh]at h1<;>cases h1;rename_i blk sz' hb;refine⟨_,by simp only[execOp,ho,hh];rw[Sem.run_bind,Nm hy hk hfs];rfl,?_⟩;rw[Acg,Qi];exact .ptr _ _ _ _ _ hb
     ·rename_i cs hp;obtain⟨h2,h3⟩:=Yy _ _ _ _ h;cases h3;have h1:=Am hI hF hp;cases hh:a.eval p<;>rw[hh]at h1<;>cases h1;rename_i b o' vals hm hr hc;refine⟨_,by simp only[execOp,ho,hh];rw[Sem.run_bind,Nm hy hk hfs];rfl,?_⟩;exact Aqq (.cptr cs b o' vals hm hr hc) h2
     ·rename_i rows t v i o' hp;cases h;have h1:=Am hI hF hp;obtain⟨bb,sz',n,cap,hh,hrel,hi,hsz⟩:=h1.pp_inv;refine⟨_,by simp only[execOp,ho,hh];rw[Sem.run_bind,Nm hy hk hfs];rfl,?_⟩;rw[Acg,Qi];exact .pp _ _ _ _ _ _ _ _ _ hrel hi hsz
     ·cases h
    ·cases h
   ·cases h
  ·cases h
 case field s p f=>
  simp only[Es]at h;split at h
  ·rename_i y hy;split at h
   ·rename_i fs hk;split at h
    ·rename_i off sz hfs;split at h
     ·rename_i g hg;split at h
      ·rename_i cs hp;obtain⟨h2,h3⟩:=Yy _ _ _ _ h;obtain⟨h4,h5⟩:=Zt _ _ _ _ h3;have h1:=Am hI hF hp;cases hh:a.eval p<;>rw[hh]at h1<;>cases h1;rename_i vs hl hr;obtain⟨fields,ff,i',k1,k2,k3,k4,k5,k6,k7⟩:=Ael hy hk hfs;rw[I5]at hg;obtain⟨d',kd,kg⟩:=k7 g hg;subst k3;simp only[Anu]at h4;have hag:(isAgg ff.type).run X.P w=.ok g w:=by
        cases g with
        |true=>rcases kg.1 rfl with⟨_,rfl⟩|⟨_,_,rfl⟩<;>simp[isAgg,run_underlying kd]
        |false=>
         simp_all [isAgg,run_underlying]
       rcases Aoi h5 with⟨rfl,rfl⟩|⟨rfl,hone⟩
       ·refine⟨.agg (vs.extract ff.offset (ff.offset+sz)),?_,?_⟩
        ·simp_all [execOp,Instr.field,run_underlying,asAgg,part,sizeOf,typeInfo]
        ·refine .agg _ _ (by simp;omega) (fun j v z hv hz=>?_)
         grind
       ·have hj0:cs[ff.offset]?=some x:=by
         have:((cs.drop ff.offset).take sz)[0]?=some x:=by simp_all
         grind
        have hlt:ff.offset<vs.size:=by omega
        refine⟨vs[ff.offset],?_,hr _ _ _ (by simp[hlt]) hj0⟩;simp[execOp,ho,hh,Instr.field,run_underlying k1,k2,asAgg,part,hag,hlt]
      ·cases h
     ·cases h
    ·cases h
   ·cases h
  ·cases h
 case indexAddr t p q=>
  cases q with
  |const c=>
   cases c with
   |int k i=>
    simp only[Es]at h;split at h
    ·rename_i y hy;split at h
     ·rename_i n e hk;split at h
      ·rename_i ye hye;split at h
       ·rename_i hi0;split at h
        ·rename_i hin;split at h
         ·rename_i b r o' hp;cases h;have h1:=Am hI hF hp;obtain⟨d,hd,hdd⟩:=(X.ty_ok t y hy).agg;simp only[hk]at hdd;obtain⟨rfl,_⟩:=hdd;have hi0':=A6 hi0;have hin':=A6 hin;cases hh:a.eval p<;>rw[hh]at h1<;>cases h1;rename_i blk sz' hb;refine⟨.pointer (some ⟨blk,r*sz'+o'+i.toNat*ye.size,none⟩),?_,?_⟩
          ·have hsz:=Dx hye w;have hc:a.eval (.const (.int k i))=.int k i:=rfl;simp_all [execOp,Instr.indexAt,asIntOf,run_underlying,Instr.sureAddr,Gq]
          ·rw[Acg,Qi];exact .ptr _ _ _ _ _ hb
         ·cases h
        ·cases h
       ·cases h
      ·cases h
     ·cases h
    ·cases h
   |_=>simp[Es]at h
  |_=>simp[Es]at h
 case extract t i=>
  simp only[Es]at h;split at h
  ·rename_i vs hp;have h1:=Am hI hF hp;cases hh:a.eval t<;>rw[hh]at h1<;>cases h1;rename_i us hl hr;rw[I5]at h;have hlt:i<us.size:=by grind
   exact⟨us[i],by simp[execOp,ho,hh,Instr.extract,hlt],hr i _ _ (by simp[hlt]) h⟩
  ·cases h
 case call c=>
  obtain⟨callee,args,argTypes⟩:=c;simp only[Es]at h;split at h
  ·split at h
   ·rename_i x' hargs;split at h
    ·rename_i t hts;split at h
     ·rename_i y hy;split at h
      ·rename_i u hu;have ha:args=#[x']:=by grind
       have ht:argTypes=#[t]:=by grind
       subst ha;subst ht;obtain⟨z,hz,hr⟩:=Amu hI hy (Am hI hF hu) h o.type;simp_all [execOp,resolve,invoke,builtin]
      ·cases h
     ·cases h
    ·cases h
   ·cases h
  ·split at h
   ·rename_i k m k' n hargs;cases h;obtain⟨hl,hr⟩:=Ti hI hF hargs;have e:∃o1 o2,args.toList=[o1,o2]:=by
     cases hq:args.toList with
     |nil=>simp_all
     |cons o1 l=>cases l<;>grind
    obtain⟨o1,o2,hq⟩:=e;have ha:args=#[o1,o2]:=by grind
    subst ha;have r1:=hr 0 (a.eval o1) _ (by simp) rfl;have r2:=hr 1 (a.eval o2) _ (by simp) rfl;cases h1:a.eval o1<;>rw[h1]at r1<;>cases r1;cases h2:a.eval o2<;>rw[h2]at r2<;>cases r2;exact⟨_,by simp_all [execOp,resolve,invoke,builtin,Builtin.max_,Builtin.max2],.val _⟩
   ·cases h
  ·split at h
   ·rename_i k m k' n hargs;cases h;obtain⟨hl,hr⟩:=Ti hI hF hargs;have e:∃o1 o2,args.toList=[o1,o2]:=by
     cases hq:args.toList with
     |nil=>simp_all
     |cons o1 l=>cases l<;>grind
    obtain⟨o1,o2,hq⟩:=e;have ha:args=#[o1,o2]:=by grind
    subst ha;have r1:=hr 0 (a.eval o1) _ (by simp) rfl;have r2:=hr 1 (a.eval o2) _ (by simp) rfl;cases h1:a.eval o1<;>rw[h1]at r1<;>cases r1;cases h2:a.eval o2<;>rw[h2]at r2<;>cases r2;exact⟨_,by simp_all [execOp,resolve,invoke,builtin,Builtin.min_,Builtin.min2],.val _⟩
   ·cases h
  ·cases h
end
section
variable {X:Cx}{E:Env}{S:St}{w:World}{F:Cw}{a:Act}{N:Nat}
theorem Ab7{v:Value}{x:AV}(hx:Rel E w v x){xs:An}(hc:cellsOf x=some xs):Afd E w v.cells xs:=
 let ⟨h1,h2,_⟩:=H7 hx hc;⟨h1,h2⟩
theorem Zd(hI:Inv X E S w)(t:TypeId){v:Value}{cs:An}(hf:Afd E w v.cells cs) :
 ∃E' w',(newVar t v).run X.P w=.ok ⟨w.heap.size,0,none⟩ w'∧Inv X E' ⟨S.boxes++[[cs]],S.toks⟩ w'∧Evol E w E' w' E.boxes.length E.toks.length ∧
  Rel E' w' (.pointer (some ⟨w.heap.size,0,none⟩)) (.ptr S.boxes.length 0 0):=by
 obtain⟨ev,hI'⟩:=hI.newBox (w':=w.alloc (.cells v.cells t)) (cs:=v.cells) (e:=t) (sz:=cs.length) (rows:=[cs]) rfl rfl rfl rfl (by simp[hf.1])
  (fun r hr=>by simp_all) (fun k r j x u h1 h2 h3=>by
    cases k with
    |zero=>simp at h1;subst h1;exact hf.2 j u x (by simp_all) h2
    |succ k=>simp at h1)
 refine⟨E.addBox w.heap.size cs.length,w.alloc (.cells v.cells t),by simp[newVar,newRow],hI',ev,?_⟩;have:=Rel.ptr (E:=E.addBox w.heap.size cs.length) (w:=w.alloc (.cells v.cells t)) S.boxes.length 0 0 w.heap.size cs.length (by rw[←hI.nb];exact getElem?_snoc_new _ _);simp_all
def Sb(E:Env)(w:World)(sz:Nat)(cells:Array Value)(rows:A7):Prop:=
 cells.size=rows.length*sz∧(∀r,r∈rows→r.length=sz) ∧
  ∀(k:Nat) (r:An) (j:Nat) (x:AV) (v:Value),rows[k]?=some r→r[j]?=some x→cells[k*sz+j]?=some v→Rel E w v x
theorem At2{sz:Nat}{cells:Array Value}{rows:A7}{xs:An}{v:Value}{x:AV}{i:Nat}(h:Sb E w sz cells rows)(hx:Rel E w v x)
 (hc:cellsOf x=some xs)(hl:xs.length=sz)(hi:i<rows.length) :
 Sb E w sz (v.cells.zipIdx.foldl (fun cs (p:Value×Nat)=>cs.setIfInBounds (i*sz+p.2) p.1) cells) (rows.set i xs):=by
 obtain⟨hs,hr,_⟩:=H7 hx hc;obtain⟨h1,h2⟩:=Abp (i*sz) v.cells cells;refine⟨by rw[h1,h.1];simp,fun r hr'=>?_,fun k r j y u hk hj hu=>?_⟩
 ·rcases Zy hr' with h'|rfl
  ·exact h.2.1 r h'
  ·exact hl
 ·rw[h2]at hu;by_cases hki:k=i
  ·grind
  ·have hk':rows[k]?=some r:=by grind
   have hjl:j<sz:=by rw[←h.2.1 r (Bn hk')];grind
   have:=Aa7 hjl hki;rw[if_neg (by omega)]at hu;exact h.2.2 k r j y u hk' hj hu
theorem X1(hI:Inv X E S w)(hF:FR E w F a N){sz:Nat}:∀(ps:List (Nat×Operand))(cells:Array Value)(rows:A7)(r:AV),Sb E w sz cells rows →
 U9 X F sz ps rows=some r→∃cells' rows',Instr.fill (fun i=>some (i*sz,sz)) cells (ps.map fun p=>(p.1,a.eval p.2))=some cells'∧Sb E w sz cells' rows' ∧
  rows'.length=rows.length∧r=.sl rows' .tight
 |[],cells,rows,r,hg,h=>by
  simp only[U9]at h;cases h;exact⟨cells,rows,rfl,hg,rfl,rfl⟩
 |(i,o)::ps,cells,rows,r,hg,h=>by
  simp only[U9]at h;split at h
  ·rename_i x hx;split at h
   ·rename_i xs hxs;split at h
    ·rename_i hl;obtain⟨h1,h2⟩:=Acu _ _ _ _ _ h;have hl':xs.length=sz:=Ab1 hl;have hrx:=Am hI hF hx;obtain⟨hs,_,_⟩:=H7 hrx hxs;have hlay:=At2 hg hrx hxs hl' h1;obtain⟨cells',rows',hc',hg',hll,hr'⟩:=X1 hI hF ps _ _ r hlay h2;refine⟨cells',rows',?_,hg',by simp_all,hr'⟩;simp only[Om,Instr.fill];rw[if_neg]
     ·exact hc'
     ·have hgs:=hg.1;rw[hl']at hs;have:(i+1)*sz≤rows.length*sz:=Uf sz h1
      grind
    ·cases h
   ·cases h
  ·cases h
theorem Wh{z:Value}{zs:An}(h:z.cells.toList.map Iu=zs){sz n:Nat}(hl:zs.length=sz)(cells:Array Value)(hs:cells.size=n*sz)
 (hc:∀i,i<n*sz→cells[i]?=z.cells[i%sz]?):Sb E w sz cells (List.replicate n zs):=by
 refine⟨by simp[hs],fun r hr=>by simp_all,fun k r j x v hk hj hv=>?_⟩;have hkn:k<n:=by grind
 have hr:r=zs:=by simp_all
 subst hr;have hjs:j<sz:=by grind
 rw[hc _ (Jv hkn hjs),Nat.mul_comm,Nat.mul_add_mod,Nat.mod_eq_of_lt hjs]at hv;exact(Ww (E:=E) (w:=w) h).2 j v x hv hj
theorem Ann{w':World}(hI:Inv X E S w){sz:Nat}{cells:Array Value}{rows:A7}(hg:Sb E w sz cells rows){e:TypeId}
 (hh:w'.heap=w.heap.push (.cells cells e (0,0)))(hos:w'.os=w.os)(ht:w'.tape=w.tape)(ho:w'.output=w.output)(hx:rows.length≤P1)
 (sp:Sp)(cap:Nat)(hcap:rows.length≤cap)(hsp:A4z E sp (some ⟨w.heap.size,0,none⟩) rows.length cap sz) :
 Rel E w' (.slice (some ⟨w.heap.size,0,none⟩) rows.length cap) (.sl rows sp):=by
 have ev:=Evol.push (E:=E) ⟨_,hh⟩ hos ht ho E.boxes.length E.toks.length;have hcell:∀o,w'.cell? ⟨w.heap.size,o,none⟩=cells[o]?:=fun o=>by
  grind [World.cell?]
 refine .sl rows sp _ rows.length cap w.heap.size 0 sz (fun i j=>cells.getD (i*sz+j) default) rfl hx (fun _=>rfl) hg.2.1 (fun i j _ _=>Aj4 hI)
  (fun i j hi hj=>?_) (fun i j r x hi hj=>?_) hsp hcap
 ·rw[Kr,hcell];have:=Jv hi hj;rw[←hg.1]at this;simp_all
 ·have hi':=Aa hi;have hj':j<sz:=by rw[←hg.2.1 r (Bn hi)];grind
  have:=Jv hi' hj';rw[←hg.1]at this;exact(hg.2.2 i r j x _ hi hj (by simp_all)).step ev
theorem Abn(hI:Inv X E S w)(hF:FR E w F a N){o:Oper}{x:AV}{S':St}(h:Kx X F S o.op=some (x,S')) :
 ∃v E' w',(execOp a.eval o).run X.P w=.ok (.value v) w'∧Inv X E' S' w'∧Evol E w E' w' E.boxes.length E.toks.length∧Rel E' w' v x:=by
 cases ho:o.op<;>rw[ho]at h<;>try (simp[Kx]at h;done)
 case alloc t=>
  simp only[Kx]at h;split at h
  ·rename_i y1 y2 y3 y4 hy;rw[Rq,Kj]at h;cases h;obtain⟨z,hz,hzc,hzl,_⟩:=Ke hy w;obtain⟨E',w',h1,h2,h3,h4⟩:=Zd hI t (Ww (E:=E) (w:=w) hzc);exact⟨_,E',w',by simp_all [execOp,Instr.alloc],h2,h3,h4⟩
  ·cases h
 case box t p=>
  simp only[Kx]at h;split at h
  ·rename_i u hu;split at h
   ·rename_i cs hcs;rw[Rq,Kj]at h;cases h;obtain⟨E',w',h1,h2,h3,h4⟩:=Zd hI t (Ab7 (Am hI hF hu) hcs);exact⟨_,E',w',by simp_all [execOp,Instr.box],h2,h3,h4⟩
   ·cases h
  ·cases h
 case buildSlice t n ps=>
  simp only[Kx]at h;split at h
  ·rename_i y hy;split at h
   ·rename_i e hk;split at h
    ·rename_i ye hye;split at h
     ·rename_i hble;split at h
      ·rename_i r hr;cases h;have hle:n*ye.size≤1000000:=J5 hble;obtain⟨d,hd,hdd⟩:=(X.ty_ok t y hy).agg;simp only[hk]at hdd;obtain⟨rfl,ye',hye',hne⟩:=hdd;rw[hye]at hye';cases hye';obtain⟨z,hz,hzc,hzl,i,hi,hiz,his,hib⟩:=Ke hye w;have hzs:z.cells.size=ye.size:=by grind
       rw[App]at hr;have hg0:Sb E w ye.size ((Array.range (n*ye.size)).map (z.cells[·%z.cells.size]!)) (List.replicate n ye.zero):=by
        grind [Wh,Nat.mod_lt]
       obtain⟨cells',rows',hf',hg',hl',rfl⟩:=X1 hI hF ps.toList _ _ _ hg0 hr;have hn:rows'.length=n:=by simp_all
       refine⟨_,E,w.alloc (.cells cells' e),?_,hI.push (w':=w.alloc (.cells cells' e)) ⟨_,rfl⟩ rfl rfl rfl,Evol.push (w':=w.alloc (.cells cells' e)) ⟨_,rfl⟩ rfl rfl rfl _ _,Ann (w':=w.alloc (.cells cells' e)) (e:=e) hI hg' rfl rfl rfl rfl ?_ .tight rows'.length (Bt _) rfl⟩
       ·have hsz:=Dx hye w;have hpp:(ps.map fun(x:Nat×Operand)=>(x.1,a.eval x.2)).toList=ps.toList.map fun p=>(p.1,a.eval p.2):=by simp
        have h24:¬(n*ye.size>16777216):=by omega
        simp only[execOp,ho,Instr.buildSlice,Sem.run_bind,run_underlying hd,Result.andThen_ok,hsz];by_cases h0:n*ye.size=0
        ·have hn0:n=0:=by
          grind [Nat.mul_eq_zero]
         subst hn0;have e1:∀f:Nat→Value,(Array.range 0).map f=#[]:=fun f=>by simp
         have hf2:=hf';simp only[Nat.zero_mul,e1]at hf2;simp[hf2,newRow,hn,e1]
        simp_all [newRow]
       ·rw[hn];have:n≤n*ye.size:=Nat.le_mul_of_pos_right _ (Ali hne)
        grind [P1]
      ·cases h
     ·cases h
    ·cases h
   ·cases h
  ·cases h
end
theorem Lh{α:Type}(L vs:List α)(p i:Nat)(hp:p+vs.length≤L.length) :
 (L.take p++vs++L.drop (p+vs.length))[i]?=if p≤i∧i<p+vs.length then vs[i-p]? else L[i]?:=by
 have hm:min p L.length=p:=by omega
 grind
theorem Tu{α:Type}(L vs:List α)(p:Nat)(hp:p+vs.length≤L.length):(L.take p++vs++L.drop (p+vs.length)).length=L.length:=by
 simp;omega
section
variable {X:Cx}{E:Env}{S:St}{w:World}{F:Cw}{a:Act}{N:Nat}
theorem Zq(hI:Inv X E S w){t:Nat}{y:Ty}(hy:X.ty t=some y){u v:Value}{p x:AV}(hp:Rel E w u p)(hx:Rel E w v x){S':St}(h:Vp S y.size p x=some S') :
 ∃w',(Instr.storeAt t u v).run X.P w=.ok () w'∧Inv X E S' w'∧Evol E w E w' E.boxes.length E.toks.length:=by
 obtain⟨bx,tk⟩:=S;unfold Vp at h;split at h
 ·rename_i b r o;split at h
  ·rename_i xs hxs;split at h
   ·rename_i hl;dsimp only at h;split at h
    ·rename_i rows hrows;split at h
     ·rename_i cs hcs;rw[I5]at hrows hcs;obtain⟨h1,h2⟩:=Aco _ _ _ _ _ h;obtain⟨h3,h4⟩:=Acu _ _ _ _ _ h2;obtain⟨h5,h6⟩:=Acu _ _ _ _ _ h4;cases h6;have hl':xs.length=y.size:=Ab1 hl;obtain⟨hs,hr,hone⟩:=H7 hx hxs;cases hp with
      |ptr _ _ _ blk sz hb=>
       obtain⟨arr,e,hblk,hsz,hlen,hrel⟩:=hI.box b blk sz rows hb hrows;have hcl:=hlen cs (Bn hcs);have hvl:v.cells.toList.length=xs.length:=by omega
       have hin:r*sz+o+xs.length≤arr.toList.length:=by
        have:(r+1)*sz≤rows.length*sz:=Uf sz h3
        grind
       have hst:=run_storeCells_at X.P blk (r*sz+o) e v.cells.toList 0 arr w hblk (by simp_all) (fun u hu=>hone u (by simp_all));simp only[Rx]at hst;have hlen0:((arr.toList.take (r*sz+o)++v.cells.toList++arr.toList.drop (r*sz+o+v.cells.toList.length)).toArray).size=(rows.set r (cs.take o++xs++cs.drop (o+xs.length))).length*sz:=by
        grind
       have hall:∀q,q∈rows.set r (cs.take o++xs++cs.drop (o+xs.length))→q.length=sz:=by
        grind
       have hrr:∀(k:Nat) (q:An) (j:Nat) (z:AV) (u:Value),(rows.set r (cs.take o++xs++cs.drop (o+xs.length)))[k]?=some q→q[j]?=some z →
        ((arr.toList.take (r*sz+o)++v.cells.toList++arr.toList.drop (r*sz+o+v.cells.toList.length)).toArray)[k*sz+j]?=some u→Rel E w u z:=by
        intro k q j z u hk hj hu;have hu':=hu;simp only[Vu]at hu';rw[Lh _ _ _ _ (by omega)]at hu';by_cases hkr:k=r
        ·subst hkr;have hq:q=cs.take o++xs++cs.drop (o+xs.length):=by simp_all
         subst hq;rw[Lh _ _ _ _ (by omega)]at hj
         grind
        ·have hk':rows[k]?=some q:=by grind
         have hjl:j<sz:=by grind
         have:=Aa7 hjl hkr
         grind
       obtain⟨ev,hI'⟩:=hI.setBox (w':=w.setRow blk (arr.toList.take (r*sz+o)++v.cells.toList++arr.toList.drop (r*sz+o+v.cells.toList.length)).toArray) hb hrows
        (rows':=rows.set r (cs.take o++xs++cs.drop (o+xs.length))) hblk rfl hlen0 hall hrr
       simp_all [Instr.storeAt,Instr.sureAddr,storeVar,Dx]
     ·cases h
    ·cases h
   ·cases h
  ·cases h
 ·cases h
theorem Kk(d:Nat)(x:AV)(F:Cw)(k:Nat):lk ((d,x)::F) k=if d=k then some x else lk F k:=by
 simp only[lk];by_cases h:d=k
 ·simp_all
 grind [Nat.eq_of_beq_eq_true]
theorem FR.step{E':Env}{w':World}(hF:FR E w F a N)(ev:Evol E w E' w' E.boxes.length E.toks.length):FR E' w' F a N:=
 ⟨hF.size,hF.nod.trans ev.df.symm,fun k x h=>let ⟨v,h1,h2⟩:=hF.rel k x h;⟨v,h1,h2.step ev⟩⟩
theorem FR.put(hF:FR E w F a N){d:Nat}(hd:d<N){v:Value}{x:AV}(hx:Rel E w v x):FR E w ((d,x)::F) (a.put (some d) v) N where
 size:=by simp[Act.put,hF.size]
 nod:=by simp[Act.put,hF.nod]
 rel k y h:=by
  rw[Kk]at h;have hs:=hF.size;split at h
  ·grind [Act.put]
  ·rename_i hk;obtain⟨u,h1,h2⟩:=hF.rel k y h
   grind [Act.put]
theorem Ahx(hI:Inv X E S w)(hF:FR E w F a N){o:Oper}{F':Cw}{S':St}(h:Amj X N F S o=some (F',S')) :
 ∃nx v E' w',(execOp a.eval o).run X.P w=.ok nx w'∧(nx=.value v∨(nx=.skip∧v=undef))∧Inv X E' S' w'∧Evol E w E' w' E.boxes.length E.toks.length∧FR E' w' F' (a.put o.dst v) N:=by
 have main:∀d,o.dst=some d→(match Nat.blt d N with
  |true=>match Es X F S o.op with
   |some x=>some ((d,x)::F,S)
   |none=>match Kx X F S o.op with
    |some (x,S')=>some ((d,x)::F,S')
    |none=>none
  |false=>none)=some (F',S')→∃nx v E' w',(execOp a.eval o).run X.P w=.ok nx w'∧(nx=.value v∨(nx=.skip∧v=undef))∧Inv X E' S' w'∧Evol E w E' w' E.boxes.length E.toks.length∧FR E' w' F' (a.put o.dst v) N:=by
  intro d hd h;split at h
  ·rename_i hlt;have hlt':d<N:=by simp_all
   split at h
   ·rename_i x hx;cases h;obtain⟨v,h1,h2⟩:=Abo hI hF hx;exact⟨_,v,E,w,h1,.inl rfl,hI,Evol.refl _ _ _ _,by rw[hd];exact hF.put hlt' h2⟩
   ·split at h
    ·rename_i x S'' hx;cases h;obtain⟨v,E',w',h1,h2,h3,h4⟩:=Abn hI hF hx;exact⟨_,v,E',w',h1,.inl rfl,h2,h3,by rw[hd];exact(hF.step h3).put hlt' h4⟩
    ·cases h
  ·cases h
 unfold Amj at h;split at h
 ·rename_i t p x ho;split at h
  ·rename_i hd;cases hy:X.ty t with
   |none=>grind [T5]
   |some y=>
    simp only[T5,hy]at h;split at h
    ·rename_i p' hp;split at h
     ·rename_i x' hx;split at h
      ·rename_i S'' hs;cases h;obtain⟨w',h1,h2,h3⟩:=Zq hI hy (Am hI hF hp) (Am hI hF hx) hs;exact⟨.skip,undef,E,w',by simp_all [execOp],.inr ⟨rfl,rfl⟩,h2,h3,by rw[hd];exact hF.step h3⟩
      ·cases h
     ·cases h
    ·cases h
  ·cases h
 grind
end
end Go.V
