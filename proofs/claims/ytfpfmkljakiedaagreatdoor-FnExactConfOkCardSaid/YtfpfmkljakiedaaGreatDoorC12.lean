/- A part of the proof of the claim that the last text states: no condition of its own. -/
import Derived.Test.YtfpfmkljakiedaaGreatDoorC11
set_option linter.unusedVariables false
set_option linter.unusedSimpArgs false
namespace Go.V
open Go Go.Proofs
theorem q_decls (n:Nd)(hne:n.kids≠[])(hl:n.kids.length≤1000000000):Pure X 139 [nd n] (.sl (nrows n.kids.dropLast) .no):=by
 have hpos:0<n.kids.length:=List.length_pos_iff.2 hne
 have hw1:IntKind.i64.wrap (((nrows n.kids).length:Int)-1)=((n.kids.length-1:Nat):Int):=by rw [nrows_len];exact (wrap_small (by omega) (by omega)).trans (by omega)
 refine Pure.run Tryz.func139 ?_
 refine AK.as_ 8 (vi (n.kids.length-1:Nat)) ?_ (vint hw1)
 refine AK.op (Ndo.cut (l:=0) (h:=((n.kids.length-1:Nat):Int)) (r:=nrows n.kids.dropLast) rfl rfl rfl rfl rfl rfl rfl rfl rfl (by omega) (by omega) (by rw [nrows_len];omega) (nrows_al _) (by rw [Int.toNat_natCast];exact nrows_dropLast _)) ?_
 exact AK.rz Tryz.func139 rfl
theorem q_body (n:Nd)(hne:n.kids≠[])(hl:n.kids.length≤1000000000):Pure X 144 [nd n] (nd (lastN n)):=by
 have hpos:0<n.kids.length:=List.length_pos_iff.2 hne
 have hw1:IntKind.i64.wrap (((nrows n.kids).length:Int)-1)=((n.kids.length-1:Nat):Int):=by rw [nrows_len];exact (wrap_small (by omega) (by omega)).trans (by omega)
 obtain ⟨lst,hlst⟩:=lget_of_lt n.kids (i:=n.kids.length-1) (by omega)
 have hL:lastN n=lst:=by rw [lastN,List.getLastD_eq_getLast?,List.getLast?_eq_getElem?,hlst];rfl
 rw [hL]
 refine Pure.run Tryz.func144 ?_
 refine AK.as_ 8 (vi (n.kids.length-1:Nat)) ?_ (vint hw1)
 refine AK.ix ((n.kids.length-1:Nat):Int) (by omega) (by rw [Int.toNat_natCast];exact nrows_get hlst) ?_
 exact AK.rz Tryz.func144 rfl
theorem AK.rbsl {f:FuncId}{fn:Func}{F:Frm}{bx:List (List (List AV))}{b c:Nat}{l:List Nd}{k:List Item}(hf:X.P.funcs[f]?=some fn)(hb:bx[b]?=some (rB l c))(hl:l.length≤1000000000)(h:resF X F ⟨bx,[]⟩ fn.results.toList=some [.bsl b l.length]:=by rfl) :
 AK X ⟨f,fn,0,0⟩ (.code .ret::k) F ⟨bx,[]⟩ fun e S'=>e=.ret (.sl (nrows l) .no)∧S'=⟨[],[]⟩:=by
 refine AK.retZ (B:=⟨f,fn,0,0⟩) hf h 0 (Nat.le_refl _) (r:=.sl (nrows l) .no) ?_ (fun rows hr=>by simp at hr) ⟨rfl,rfl⟩
 have hget:∀ (i:Nat) (r:List AV),(nrows l)[i]?=some r→(rB l c)[i]?=some r:=fun i r h=>by rw [List.getElem?_append_left (lt_of_get h)];exact h
 refine .bsl b l.length (rB l c) (nrows l) (Nat.zero_le _) hb (by rw [rB_len];omega) (by unfold maxN;omega) (nrows_len l) (fun i r r' h1 h2=>?_) (fun i j r r' x y h1 h2 h3 h4=>?_)
 ·rw [hget i r' h2] at h1;cases h1;rfl
 ·rw [hget i r' h2] at h1;cases h1
  rw [h3] at h4;cases h4
  refine .same x ((inferInstance:OKR 0 0 (nrows l)).ok r (List.mem_of_getElem? h2) x (List.mem_of_getElem? h3))
theorem q_declaredF (x:Nd)(k:Int):Pure X 183 [nd x,.cptr [vi k]] (vb (!(x.kind==k))):=by
 refine Pure.run Tryz.func183 ?_
 exact AK.rz Tryz.func183 rfl
theorem q_delete0 (f:FuncId)(caps:List AV) [hok:OKL 0 0 caps](hcat:∀ xs,catA xs caps=some (xs++caps)):Pure X 181 [.sl [] .no,.fn f caps] (.sl [] .no):=by
 have hi:Pure X 164 [.sl [] .no,.fn f caps] (vi (-1)):=q_indexF [] f caps (fun _=>true) (by simp) (fun x hx=>by cases hx) hcat
 refine Pure.run Tryz.func181 ?_
 refine AK.pc hi ?_
 refine AK.yes ?_
 exact AK.rz Tryz.func181 rfl
def declK (n:Nd)(k:Int):List Nd:=n.kids.dropLast.filter fun x=>x.kind==k
theorem q_declared (n:Nd)(k:Int)(hne:n.kids≠[])(hl:n.kids.length≤1000000000):Pure X 140 [nd n,vi k] (.sl (nrows (declK n k)) .no):=by
 have hd:=q_decls n hne hl
 have hdl:n.kids.dropLast.length≤1000000000:=by rw [List.length_dropLast];omega
 refine Pure.mk Tryz.func140 rfl rfl (by kernel_rfl) ?_
 refine AK.evj 0 100 rfl ?_
 refine AK.ev 2 rfl ?_
 refine AK.op (Ndo.boxC (x:=vi k)) ?_
 refine AK.pc hd ?_
 by_cases h0:n.kids.dropLast=[]
 ·have hK:declK n k=[]:=by rw [declK,h0];rfl
  rw [hK,h0]
  refine AK.pc q_clone0 ?_
  refine AK.pc (q_delete0 183 [.cptr [vi k]] (cat1 _)) ?_
  exact AK.rz Tryz.func140 rfl
 ·refine AK.fr (q_clone n.kids.dropLast h0 hdl) (fun rows ⟨c,hr⟩=>by subst hr;exact (inferInstance:OKR 0 0 (rB n.kids.dropLast c)).ok) (fun rows ⟨c,hr⟩=>?_)
  subst hr
  have hD:=h_deleteF n.kids.dropLast c 183 [.cptr [vi k]] (fun x=>!(x.kind==k)) hdl (fun x _=>q_declaredF x k) (cat1 _)
  have hfe:(n.kids.dropLast.filter fun x=>!(!(x.kind==k)))=declK n k:=by simp only [Bool.not_not];rfl
  rw [hfe] at hD
  refine AK.ev 100 rfl ?_
  refine AK.hc [1] [] hD ?_
  refine AK.rbsl Tryz.func140 (b:=1) rfl (Nat.le_trans (List.length_filter_le _ _) hdl)
def wantsI (k:Int):Int:=if k=2∨k=21∨k=23∨k=26 then 31 else if k=3∨k=4∨k=22 then 32 else 0
theorem q_wants (n:Nd):Pure X 110 [nd n] (vi (wantsI n.kind)):=by
 refine Pure.run Tryz.func110 ?_
 repeat' (refine AK.if_ (fun _=>?_) (fun _=>?_))
 all_goals first | refine AK.rt Tryz.func110 ?_ | (refine AK.yes ?_;refine AK.rt Tryz.func110 ?_)
 all_goals (simp_all [wantsI,retA])
theorem q_isName (s:List UInt8):Pure X 142 [str s] (.fn 184 [.cptr [str s]]):=by
 refine Pure.mk Tryz.func142 rfl rfl (by kernel_rfl) ?_
 refine AK.evj 0 100 rfl ?_
 refine AK.ev 1 rfl ?_
 refine AK.op (Ndo.boxC (x:=str s)) ?_
 exact AK.rz Tryz.func142 rfl
theorem q_isNameF (x:Nd)(s:List UInt8):Pure X 184 [nd x,.cptr [str s]] (vb (x.name==s)):=by
 refine Pure.run Tryz.func184 ?_
 exact AK.rz Tryz.func184 rfl
def idxN (l:List Nd)(s:List UInt8):Int:=idxP (fun d=>d.name==s) 0 l
mutual
def firN (hit:Nd→Bool):Nd→Option (List UInt8)
 | .mk k s m ks=>if hit (.mk k s m ks) then some s else firL hit ks
def firL (hit:Nd→Bool):List Nd→Option (List UInt8)
 | []=>none
 | x::l=>match firN hit x with
   | some s=>some s
   | none=>firL hit l
end
theorem firN_eq (hit:Nd→Bool)(n:Nd):firN hit n=if hit n then some n.name else firL hit n.kids:=by cases n;rw [firN];rfl
def trC (code:Int)(o:Option (List UInt8)):Int:=match o with
 | some _=>code
 | none=>0
abbrev trV (code:Int)(o:Option (List UInt8)):AV:=.agg [vi (trC code o),str (o.getD [])]
set_option maxHeartbeats 1000000 in
theorem q_first (l:List Nd)(code:Int)(hc:code≠0)(g:FuncId)(caps:List AV)(hit:Nd→Bool)(Q:Nd→Prop)(hl:l.length≤1000000000) [hok:OKL 0 0 caps](hcat:∀ xs,catA xs caps=some (xs++caps))
 (hQ:∀ x,Q x→(wantsI x.kind=0→hit x=false)∧(wantsI x.kind≠0→Pure X g (vi (wantsI x.kind)::vi (idxN l x.name)::caps) (vb (hit x)))∧∀ k,k∈x.kids→hit x=false→Q k)(n:Nd)(hn:countN n≤1000000000)(hq:Q n) :
 Pure X 185 [.sl (nrows l) .no,nd n,vi code,.fn g caps] (trV code (firN hit n)):=by
 have hok2:OKL 2 0 caps:=⟨fun x hx=>(hok.ok x hx).mono (by omega) (by omega)⟩
 have hfl:flatTy X.P 63=some [0,1]:=by kernel_rfl
 induction n using Nd.ind with
 | h n ih =>
   have hcn:=countN_eq n
   have hll:=length_le_countL n.kids
   obtain ⟨hq0,hq1,hq2⟩:=hQ n hq
   have hloop:hit n=false→AK X ⟨185,Tryz.f185,0,0⟩ (locG false 4 Tryz.f185) [(0,.sl (nrows l) .no),(2,vi code),(3,.fn g caps),(5,.ptr 0 0 0),(8,.ptr 1 0 0)] ⟨[[ncells n],[[vi 0,str []]]],[]⟩
    (fun e S=>e=.ret (trV code (firN hit n))∧S=⟨[],[]⟩):=fun hf=>by
    rw [firN_eq,if_neg (by simp [hf])]
    refine AK.at_ ?_
    refine AK.ev 100 rfl ?_
    refine AK.while_ (ι:=Nat) 2 0 (fun i=>i≤n.kids.length∧firL hit n.kids=firL hit (n.kids.drop i)) (fun i=>[(34,vi i),(33,vi n.kids.length),(32,.sl (nrows n.kids) .no),(0,.sl (nrows l) .no),(2,vi code),(3,.fn g caps),(5,.ptr 0 0 0),(8,.ptr 1 0 0)])
     (fun _=>⟨[[ncells n],[[vi 0,str []]]],[]⟩) (fun i=>n.kids.length-i) ?_ 0 ⟨Nat.zero_le _,rfl⟩ ⟨rfl,by rw [← nrows_len n.kids];rfl,rfl,rfl,rfl,rfl,rfl,rfl,trivial⟩ rfl rfl rfl rfl rfl (fun _=>inferInstance) (fun _=>inferInstance)
    rintro i ⟨hi,hTi⟩ IH
    refine AK.ev 100 rfl ?_
    refine AK.if_ (fun h=>?_) (fun h=>?_)
    ·have hlt:i<n.kids.length:=by have:=of_decide_eq_true h;omega
     obtain ⟨x,hx⟩:=lget_of_lt n.kids hlt
     have hm:=List.mem_of_getElem? hx
     rw [drop_cons hx] at hTi
     simp only [firL] at hTi
     refine AK.ix i (by omega) (nrows_get hx) ?_
     refine AK.pc (ih x hm (by have:=countL_mem hm;omega) (hq2 x hm hf)) ?_
     generalize firN hit x=o at hTi ⊢
     refine AK.op (Ndo.eqs (r:=!((trC code o==0)&&((o.getD []==[])&&true))) rfl rfl rfl rfl rfl hfl rfl (.inr ⟨rfl,rfl⟩)) ?_
     cases o with
     | some s =>
       simp only at hTi
       refine AK.yes ?_ (ht:=by simp [trC,hc])
       refine AK.rz Tryz.func185 ?_
       rw [hTi]
     | none =>
       simp only at hTi
       refine AK.no ?_
       exact IH (i+1) ⟨hlt,hTi⟩ (by omega) _ _ ⟨vint ((wrap_small (by omega) (by omega)).trans (by omega)),rfl,rfl,rfl,rfl,rfl,rfl,rfl,trivial⟩ rfl rfl rfl
    ·have hie:i=n.kids.length:=by have:=of_decide_eq_false h;omega
     rw [hie,List.drop_length] at hTi
     refine AK.rz Tryz.func185 ?_
     rw [hTi];rfl
   refine Pure.run Tryz.func185 ?_
   refine AK.pc (q_wants n) ?_
   refine AK.gd (fun h1=>?_) (fun h1=>?_)
   ·have h1':wantsI n.kind≠0:=by have:(!(wantsI n.kind==0))=true:=h1;simpa using this
    refine AK.pc (q_isName n.name) ?_
    refine AK.pc (q_indexF l 184 [.cptr [str n.name]] (fun d=>d.name==n.name) hl (fun x _=>q_isNameF x n.name) (cat1 _)) ?_
    refine AK.pc (hq1 h1') ?_ (hzs:=hcat _)
    refine AK.ifj 0 4 (fun h2=>?_) (fun h2=>?_)
    ·have h2':hit n=true:=h2
     rw [firN_eq,if_pos h2']
     exact AK.rz Tryz.func185 rfl
    ·exact AK.back' 2 0 (hloop h2) ⟨rfl,rfl,rfl,rfl,rfl,trivial⟩ rfl rfl rfl rfl rfl
   ·have h1':wantsI n.kind=0:=by have:(!(wantsI n.kind==0))=false:=h1;simpa using this
    refine AK.ifj (e:=false) 0 4 (fun h2=>nomatch h2) (fun _=>?_)
    exact AK.back' 2 0 (hloop (hq0 h1')) ⟨rfl,rfl,rfl,rfl,rfl,trivial⟩ rfl rfl rfl rfl rfl
def hit7 (l:List Nd)(x:Nd):Bool:=!(wantsI x.kind==0)&&decide (idxN l x.name<0)
def hit8 (l:List Nd)(x:Nd):Bool:=!(wantsI x.kind==0)&&!((l.getD (idxN l x.name).toNat nd0).kind==wantsI x.kind)
theorem q_names7 (a b:Int):Pure X 186 [vi a,vi b] (vb (decide (b<0))):=by
 refine Pure.run Tryz.func186 ?_
 exact AK.rz Tryz.func186 rfl
theorem q_names8 (l:List Nd)(a b:Int)(h0:0≤b)(h1:b<l.length):Pure X 187 [vi a,vi b,.cptr [.sl (nrows l) .no]] (vb (!((l.getD b.toNat nd0).kind==a))):=by
 obtain ⟨x,hx⟩:=lget_of_lt l (i:=b.toNat) (by omega)
 have:l.getD b.toNat nd0=x:=by simp [List.getD,hx]
 rw [this]
 refine Pure.run Tryz.func187 ?_
 refine AK.ix b h0 (nrows_get hx) ?_
 exact AK.rz Tryz.func187 rfl
theorem idxP_lt {p:Nd→Bool}:∀ {l:List Nd}{i:Nat},idxP p i l<((i+l.length:Nat):Int)
 | [],i=>by simp only [idxP];omega
 | x::l,i=>by
   simp only [idxP,List.length_cons]
   split
   ·omega
   ·have:=idxP_lt (p:=p) (l:=l) (i:=i+1)
    omega
def namesT (l:List Nd)(n:Nd):Int × List UInt8:=match firN (hit7 l) n with
 | some s=>(7,s)
 | none=>(trC 8 (firN (hit8 l) n),(firN (hit8 l) n).getD [])
theorem firL_none {hit:Nd→Bool}:∀ {l:List Nd},firL hit l=none→∀ x,x∈l→firN hit x=none
 | [],_,x,hx=>by cases hx
 | y::l,h,x,hx=>by
   simp only [firL] at h
   split at h
   ·cases h
   ·rename_i hy
    rcases List.mem_cons.1 hx with rfl | hx
    ·exact hy
    ·exact firL_none h x hx
theorem q_checkNames (l:List Nd)(n:Nd)(hl:l.length≤1000000000)(hn:countN n≤1000000000):Pure X 143 [.sl (nrows l) .no,nd n] (.agg [vi (namesT l n).1,str (namesT l n).2]):=by
 have hfl:flatTy X.P 63=some [0,1]:=by kernel_rfl
 have h7:=q_first l 7 (by decide) 186 [] (hit7 l) (fun _=>True) hl cat0 (fun x _=>⟨fun h=>by simp [hit7,h],fun h=>by
  have:hit7 l x=decide (idxN l x.name<0):=by simp [hit7,h]
  rw [this];exact q_names7 _ _,fun _ _ _=>trivial⟩) n hn trivial
 have h8:firN (hit7 l) n=none→Pure X 185 [.sl (nrows l) .no,nd n,vi 8,.fn 187 [.cptr [.sl (nrows l) .no]]] (trV 8 (firN (hit8 l) n)):=fun h0 =>
  q_first l 8 (by decide) 187 [.cptr [.sl (nrows l) .no]] (hit8 l) (fun x=>firN (hit7 l) x=none) hl (cat1 _) (fun x hx=>by
   rw [firN_eq] at hx
   have hx7:hit7 l x=false:=by
    cases h:hit7 l x with
    | false=>rfl
    | true=>rw [h] at hx;simp at hx
   rw [hx7] at hx
   refine ⟨fun h=>by simp [hit8,h],fun h=>?_,fun k hk _=>firL_none (by simpa using hx) k hk⟩
   have:hit8 l x=!((l.getD (idxN l x.name).toNat nd0).kind==wantsI x.kind):=by simp [hit8,h]
   rw [this]
   have hlt:=idxP_lt (p:=fun d=>d.name==x.name) (l:=l) (i:=0)
   have h0:¬ idxN l x.name<0:=by
    intro hh
    simp [hit7,h,hh] at hx7
   exact q_names8 l _ _ (by omega) (by simpa [idxN] using hlt)) n hn h0
 unfold namesT
 refine Pure.mk Tryz.func143 rfl rfl (by kernel_rfl) ?_
 refine AK.evj 0 100 rfl ?_
 refine AK.ev 1 rfl ?_
 refine AK.op (Ndo.boxC (x:=.sl (nrows l) .no)) ?_
 refine AK.pc h7 ?_
 generalize firN (hit7 l) n=o at h8 ⊢
 refine AK.op (Ndo.eqs (r:=!((trC 7 o==0)&&((o.getD []==[])&&true))) rfl rfl rfl rfl rfl hfl rfl (.inr ⟨rfl,rfl⟩)) ?_
 cases o with
 | some s =>
   refine AK.yes ?_
   exact AK.rz Tryz.func143 rfl
 | none =>
   refine AK.no ?_
   refine AK.pc (h8 rfl) ?_
   exact AK.rz Tryz.func143 rfl
inductive PlO:Nd→Prop where
 | mk (k:Int) (s:List UInt8) (m:Int) (ks:List Nd) (hk:∀ x,x∈ks→PlO x)
    (hf:∀ x,x∈ks→x.kind=26→∃ a b k' s' m' l,x.kids=[a,b,.mk k' s' m' l]∧a.kind≠26∧b.kind≠26∧k'≠26):PlO (.mk k s m ks)
theorem PlO.kids {n:Nd}(h:PlO n):(∀ x,x∈n.kids→PlO x)∧∀ x,x∈n.kids→x.kind=26→∃ a b k' s' m' l,x.kids=[a,b,.mk k' s' m' l]∧a.kind≠26∧b.kind≠26∧k'≠26:=by
 cases h with | mk k s m ks hk hf=>exact ⟨hk,hf⟩
theorem PlO.leaf {k:Int}{s:List UInt8}{m:Int}:PlO (.mk k s m []):=.mk k s m [] (fun x h=>by cases h) (fun x h=>by cases h)
theorem FE_PlO {n:Nd}(h:FE n):PlO n:=by
 induction h with
 | num m h0 h1=>exact .leaf
 | var s h=>exact .leaf
 | cell s a h ha ih=>exact .mk _ _ _ _ (fun x hx=>by simp at hx;subst hx;exact ih) (fun x hx h26=>by simp at hx;subst hx;have:=FE_kind ha;omega)
 | len s h=>exact .leaf
 | neg a ha ih=>exact .mk _ _ _ _ (fun x hx=>by simp at hx;subst hx;exact ih) (fun x hx h26=>by simp at hx;subst hx;have:=FE_kind ha;omega)
 | two k a b hk ha hb iha ihb =>
   exact .mk _ _ _ _ (fun x hx=>by simp at hx;rcases hx with rfl | rfl;exact iha;exact ihb) (fun x hx h26=>by
    simp at hx
    rcases hx with rfl | rfl
    ·have:=FE_kind ha;omega
    ·have:=FE_kind hb;omega)
theorem FC_PlO {n:Nd}(h:FC n):PlO n:=by
 cases h with
 | mk k a b h0 h1 ha hb =>
   exact .mk _ _ _ _ (fun x hx=>by simp at hx;rcases hx with rfl | rfl;exact FE_PlO ha;exact FE_PlO hb) (fun x hx h26=>by
    simp at hx
    rcases hx with rfl | rfl
    ·have:=FE_kind ha;omega
    ·have:=FE_kind hb;omega)
theorem block_PlO {l:List Nd}(hl:∀ x,x∈l→FS x)(h:∀ x,x∈l→PlO x):PlO (.mk 30 [] 0 l) :=
 .mk _ _ _ _ h fun x hx h26=>by
  have:=hl x hx
  cases this with
  | for_ s a b l' hs ha hb hl'=>exact ⟨a,b,30,[],0,l',rfl,by have:=FE_kind ha;omega,by have:=FE_kind hb;omega,by omega⟩
  | _=>simp at h26
theorem FS_PlO {n:Nd}(h:FS n):PlO n:=by
 induction h with
 | set s a h ha=>exact .mk _ _ _ _ (fun x hx=>by simp at hx;subst hx;exact FE_PlO ha) (fun x hx h26=>by simp at hx;subst hx;have:=FE_kind ha;omega)
 | put s a b h ha hb =>
   exact .mk _ _ _ _ (fun x hx=>by simp at hx;rcases hx with rfl | rfl;exact FE_PlO ha;exact FE_PlO hb) (fun x hx h26=>by
    simp at hx
    rcases hx with rfl | rfl
    ·have:=FE_kind ha;omega
    ·have:=FE_kind hb;omega)
 | read s h=>exact .leaf
 | ifs c l l' hc hl hl' ihl ihl' =>
   exact .mk _ _ _ _ (fun x hx=>by simp at hx;rcases hx with rfl | rfl | rfl;exact FC_PlO hc;exact block_PlO hl ihl;exact block_PlO hl' ihl') (fun x hx h26=>by
    simp at hx
    rcases hx with rfl | rfl | rfl
    ·have:=FC_kind hc;omega
    ·simp at h26
    ·simp at h26)
 | whil c l hc hl ihl =>
   exact .mk _ _ _ _ (fun x hx=>by simp at hx;rcases hx with rfl | rfl;exact FC_PlO hc;exact block_PlO hl ihl) (fun x hx h26=>by
    simp at hx
    rcases hx with rfl | rfl
    ·have:=FC_kind hc;omega
    ·simp at h26)
 | for_ s a b l h ha hb hl ihl =>
   exact .mk _ _ _ _ (fun x hx=>by simp at hx;rcases hx with rfl | rfl | rfl;exact FE_PlO ha;exact FE_PlO hb;exact block_PlO hl ihl) (fun x hx h26=>by
    simp at hx
    rcases hx with rfl | rfl | rfl
    ·have:=FE_kind ha;omega
    ·have:=FE_kind hb;omega
    ·simp at h26)
 | check c hc=>exact .mk _ _ _ _ (fun x hx=>by simp at hx;subst hx;exact FC_PlO hc) (fun x hx h26=>by simp at hx;subst hx;have:=FC_kind hc;omega)
 | skip=>exact .leaf
 | stop=>exact .leaf
theorem FP_PlO {n:Nd}(h:FP n):PlO n:=by
 cases h with
 | mk ds l hd hl =>
   refine .mk _ _ _ _ (fun x hx=>?_) (fun x hx h26=>?_)
   ·rcases List.mem_append.1 hx with h | h
    ·cases hd x h with
     | var s h=>exact .leaf
     | arr s m h h0 h1=>exact .leaf
    ·simp at h;subst h;exact block_PlO hl fun x hx=>FS_PlO (hl x hx)
   ·rcases List.mem_append.1 hx with h | h
    ·have:=FV_kind (hd x h);omega
    ·simp at h;subst h;simp at h26
abbrev incN (s:List UInt8):Nd:=.mk 21 s 0 [.mk 6 [] 0 [.mk 2 s 0 [],.mk 1 [] 1 []]]
def HPl (n:Nd):Prop:=Hands X 67 [nd n] ⟨[],[]⟩ (.agg [vi n.kind,str n.name,vi n.num,.sl (nrows (plainML n.kids)) (.tok 0)]) ⟨[],[(plainML n.kids).length]⟩
theorem HPl.pure {n:Nd}(h:HPl n):Pure X 67 [nd n] (nd (plainM n)):=by
 have:=Hands.pure h
 obtain ⟨k,s,m,ks⟩:=n
 rw [plainM_mk]
 exact this
theorem rows_for (xs:List UInt8)(a' b':Nd)(k':Int)(s':List UInt8)(m':Int)(l':List Nd):nrows [.mk 21 xs 0 [a'],.mk 25 [] 0 [.mk 11 [] 0 [.mk 2 xs 0 [],b'],.mk k' s' m' l']] =
 [[vi 21,str xs,vi 0,.sl [ncells a'] .no],[vi 25,str [],vi 0,.sl [[vi 11,str [],vi 0,.sl [[vi 2,str xs,vi 0,.sl [] .no],ncells b'] .no],[vi k',str s',vi m',.sl (nrows l') .no]] .no]]:=by
 have e1:nrows [a']=[ncells a']:=nrows_map _
 have e2:nrows [.mk 2 xs 0 [],b']=[ncells (.mk 2 xs 0 []),ncells b']:=nrows_map _
 have e3:nrows [.mk 11 [] 0 [.mk 2 xs 0 [],b'],.mk k' s' m' l']=[ncells (.mk 11 [] 0 [.mk 2 xs 0 [],b']),ncells (.mk k' s' m' l')]:=nrows_map _
 have e4:nrows [.mk 21 xs 0 [a'],.mk 25 [] 0 [.mk 11 [] 0 [.mk 2 xs 0 [],b'],.mk k' s' m' l']]=[ncells (.mk 21 xs 0 [a']),ncells (.mk 25 [] 0 [.mk 11 [] 0 [.mk 2 xs 0 [],b'],.mk k' s' m' l'])]:=nrows_map _
 rw [e4]
 simp only [ncells,kind_mk,name_mk,num_mk,kids_mk,e1,e3,e2]
 rfl
set_option maxHeartbeats 2000000 in
theorem h_plainO (n:Nd)(ih:∀ x,x∈n.kids→PlO x→wN x≤1000000000→HPl x)(ih2:∀ x,x∈n.kids→∀ y,y∈x.kids→PlO y→wN y≤1000000000→HPl y)(hp:PlO n)(hw:wN n≤1000000000):HPl n:=by
 have hkl:=kids_le_w n
 obtain ⟨hk,hf⟩:=hp.kids
 unfold HPl
 refine Hands.run Tryz.func67 ?_
 refine AK.mintB 2 0 3 rfl rfl rfl rfl rfl rfl ?_
 refine AK.while_ (ι:=Nat) 3 1 (fun i=>i≤n.kids.length) (fun i=>[(20,vi i),(19,vi n.kids.length),(18,.sl (nrows n.kids) .no),(1,.ptr 0 0 0),(2,.ptr 1 0 0),(3,.ptr 2 0 0)])
  (fun i=>⟨[[ncells n],[zN],[[vi n.kind,str n.name,vi n.num,.sl (nrows (plainML (n.kids.take i))) (.tok 0)]]],[(plainML (n.kids.take i)).length]⟩) (fun i=>n.kids.length-i) ?_ 0
  (Nat.zero_le _) ⟨rfl,by rw [← nrows_len n.kids];rfl,rfl,rfl,rfl,rfl,trivial⟩ (by simp [plainML_nil];rfl) rfl rfl rfl rfl (fun _=>inferInstance) (fun _=>inferInstance)
 intro i hi IH
 refine AK.ev 100 rfl ?_
 refine AK.if_ (fun h=>?_) (fun h=>?_)
 ·have hlt:i<n.kids.length:=by have:=of_decide_eq_true h;omega
  obtain ⟨x,hxg⟩:=lget_of_lt n.kids hlt
  have hm:=List.mem_of_getElem? hxg
  have hwx:wN x<wN n:=wN_kid hm
  have hsn:plainML (n.kids.take (i+1))=plainML (n.kids.take i)++plain1 x:=by rw [List.take_add_one,hxg,plainML_app];simp [plainML_cons,plainML_nil]
  have hl1:=len_le_wL (plainML (n.kids.take i))
  have hl2:=plainML_w (n.kids.take i)
  have hwk:wL n.kids≤wN n:=by rw [wN_eq];omega
  have hl3:wL (n.kids.take i)≤wL n.kids:=by
   have:=wL_app (n.kids.take i) (n.kids.drop i)
   rw [List.take_append_drop] at this;omega
  refine AK.ix i (by omega) (nrows_get hxg) ?_
  refine AK.ifj 0 8 (fun h2=>?_) (fun h2=>?_)
  ·have h2':x.kind≠26:=by have:(!(x.kind==26))=true:=h2;simpa using this
   have hr:=(ih x hm (hk x hm) (by omega)).pure
   rw [plain1_no h2'] at hsn
   refine AK.dn 160 3 ?_
   refine Drv.pg hr ?_
   refine Drv.w (Ndo.append (res:=nrows (plainML (n.kids.take (i+1)))) rfl rfl rfl rfl rfl rfl rfl rfl rfl rfl rfl rfl rfl rfl (nrows_len _) (nrows_al _) rfl rfl rfl ?_ ?_ rfl) ?_
   ·rw [nrows_len];simp;omega
   ·rw [hsn,nrows_map,nrows_map,List.map_append];rfl
   refine Drv.e ?_
   refine Drv.w (Ndo.store rfl rfl rfl rfl rfl rfl rfl) ?_
   refine Drv.z ?_
   refine IH (i+1) hlt (by omega) _ _ ⟨vint ((wrap_small (by omega) (by omega)).trans (by omega)),rfl,rfl,rfl,rfl,rfl,trivial⟩ ?_ rfl rfl
   simp [St.drop,nrows_len,hsn]
  ·have h2':x.kind=26:=by have:(!(x.kind==26))=false:=h2;simpa using this
   obtain ⟨a,b,k',s',m',l,hkx,ha,hb,hc⟩:=hf x hm h2'
   obtain ⟨xk,xs,xm,xks⟩:=x
   simp only [kind_mk,kids_mk] at h2' hkx
   subst h2';subst hkx
   have hpx:=hk _ hm
   have ma:a∈(Nd.mk 26 xs xm [a,b,.mk k' s' m' l]).kids:=by simp
   have mb:b∈(Nd.mk 26 xs xm [a,b,.mk k' s' m' l]).kids:=by simp
   have mc:Nd.mk k' s' m' l∈(Nd.mk 26 xs xm [a,b,.mk k' s' m' l]).kids:=by simp
   have wa:=wN_kid ma
   have wb:=wN_kid mb
   have wc:=wN_kid mc
   have ra:=(ih2 _ hm a ma (hpx.kids.1 a ma) (by omega)).pure
   have rb:=(ih2 _ hm b mb (hpx.kids.1 b mb) (by omega)).pure
   have rc:=ih2 _ hm _ mc (hpx.kids.1 _ mc) (by omega)
   have hlc:=len_le_wL (plainML l)
   have hlc2:=plainML_w l
   have hlc3:wL l≤1000000000:=by
    have:=wN_eq (Nd.mk k' s' m' l)
    simp only [kids_mk] at this
    omega
   have hp1:plain1 (.mk 26 xs xm [a,b,.mk k' s' m' l])=[.mk 21 xs 0 [plainM a],.mk 25 [] 0 [.mk 11 [] 0 [.mk 2 xs 0 [],plainM b],.mk k' s' m' (plainML l++[incN xs])]]:=by
    rw [plain1_for,plainML_cons,plainML_cons,plainML_cons,plainML_nil,plain1_no ha,plain1_no hb,plain1_no (x:=.mk k' s' m' l) hc,plainM_mk k'];rfl
   rw [hp1] at hsn
   refine AK.wkB 4 0 3 (.sl [] .no) ?_
   refine AK.evj 9 100 rfl ?_
   refine AK.wkB 5 0 3 (.sl (nrows [.mk 2 xs 0 [],.mk 1 [] 1 []]) .no) ?_
   refine AK.ev 100 rfl ?_
   refine AK.ix 2 (by omega) (rows:=nrows [a,b,.mk k' s' m' l]) (r:=ncells (.mk k' s' m' l)) rfl ?_
   refine AK.hc (τ':=[1]) [] [] rc ?_
   refine AK.wk 53 ?_
   refine AK.op (Ndo.append (res:=nrows (plainML l++[incN xs])) rfl rfl rfl rfl rfl rfl rfl rfl rfl rfl rfl rfl rfl rfl (nrows_len _) (nrows_al _) rfl rfl rfl ?_ ?_ rfl) ?_
   ·rw [nrows_len];simp;omega
   ·show nrows (plainML l)++nrows [incN xs]=_
    rw [nrows_app]
   refine AK.dn 768 3 ?_
   refine Drv.ig 1 (by omega) (row1 a b _) ?_
   refine Drv.pg rb ?_
   refine Drv.wl (Ndo.mem rfl rfl rfl) ?_ ?_
   ·exact strip_eq (Ndo.ev rfl rfl rfl) (strip_eq (Ndo.ev rfl rfl rfl) (strip_eq (Ndo.ev rfl rfl rfl) allN))
   refine Drv.w (Ndo.store rfl rfl rfl rfl rfl rfl rfl) ?_
   refine Drv.zj 12 ?_
   refine AK.wkB 7 0 3 (.sl [[vi 2,str xs,vi 0,.sl [] .no],ncells (plainM b)] .no) ?_
   refine AK.dn 327680 6 ?_
   refine Drv.ig 0 (by omega) (row0 a _) ?_
   refine Drv.pc ra ?_
   refine Drv.gon 6 ?_
   refine Drv.mw ?_
   refine Drv.w (Ndo.append (res:=nrows (plainML (n.kids.take (i+1)))) rfl rfl rfl rfl rfl rfl rfl rfl rfl rfl rfl rfl rfl rfl (nrows_len _) (nrows_al _) rfl rfl rfl ?_ ?_ rfl) ?_
   ·rw [nrows_len];simp;omega
   ·rw [hsn,nrows_app (plainML (n.kids.take i)),rows_for];rfl
   refine Drv.e ?_
   refine Drv.w (Ndo.store rfl rfl rfl rfl rfl rfl rfl) ?_
   refine Drv.z ?_
   refine IH (i+1) hlt (by omega) _ _ ⟨vint ((wrap_small (by omega) (by omega)).trans (by omega)),rfl,rfl,rfl,rfl,rfl,trivial⟩ ?_ rfl rfl
   show St.mk [[ncells n],[zN],[[vi n.kind,str n.name,vi n.num,.sl (nrows (plainML (n.kids.take (i+1)))) (.tok 0)]]] [(nrows (plainML (n.kids.take i))).length+2]=_
   rw [nrows_len,hsn];simp
 ·have hie:i=n.kids.length:=by have:=of_decide_eq_false h;omega
  subst hie
  rw [List.take_length]
  exact AK.ret Tryz.func67 rfl rfl rfl rfl
theorem h_plainN (n:Nd)(hp:PlO n)(hw:wN n≤1000000000):HPl n:=by
 have:∀ n:Nd,(PlO n→wN n≤1000000000→HPl n)∧∀ y,y∈n.kids→PlO y→wN y≤1000000000→HPl y:=by
  intro n
  induction n using Nd.ind with
  | h n ih=>exact ⟨h_plainO n (fun x hx=>(ih x hx).1) (fun x hx y hy=>(ih x hx).2 y hy),fun y hy=>(ih y hy).1⟩
 exact (this n).1 hp hw
theorem q_plainOf (n:Nd)(hp:PlO n)(hw:wN n≤1000000000):Pure X 67 [nd n] (nd (plainM n)):=(h_plainN n hp hw).pure
theorem PrI.get {n:Nd}(h:PrI n):-9223372036854775808≤n.num∧n.num≤9223372036854775807∧∀ x,x∈n.kids→PrI x:=by
 cases h with | mk k s m ks h0 h1 hk=>exact ⟨h0,h1,hk⟩
theorem PrI.num1 {k:Int}{s:List UInt8}{m:Int}{ks:List Nd}(h0:0≤m)(h1:m≤1)(hk:∀ x,x∈ks→PrI x):PrI (.mk k s m ks):=.mk k s m ks (by omega) (by omega) hk
theorem pr_one {x:Nd}(h:PrI x):∀ y,y∈[x]→PrI y:=fun y hy=>by simp at hy;subst hy;exact h
theorem pr_two {a b:Nd}(ha:PrI a)(hb:PrI b):∀ y,y∈[a,b]→PrI y:=fun y hy=>by
 simp at hy
 rcases hy with rfl | rfl
 ·exact ha
 ·exact hb
theorem pr_inc (s:List UInt8):PrI (incN s):=.num1 (by omega) (by omega) (pr_one (.num1 (by omega) (by omega) (pr_two (.num1 (by omega) (by omega) (fun x h=>by cases h)) (.num1 (by omega) (by omega) (fun x h=>by cases h)))))
theorem pr_forT (s:List UInt8)(l:List Nd)(h:∀ x,x∈l→PrI x):∀ y,y∈forT s l→PrI y:=by
 unfold forT
 split
 ·rename_i a b k' s' m' l'
  have ha:=h a (by simp)
  have hb:=h b (by simp)
  have hc:=(h (.mk k' s' m' l') (by simp)).get
  refine pr_two (.num1 (by omega) (by omega) (pr_one ha)) (.num1 (by omega) (by omega) (pr_two (.num1 (by omega) (by omega) (pr_two (.num1 (by omega) (by omega) (fun x h=>by cases h)) hb)) (.mk k' s' m' _ hc.1 hc.2.1 fun x hx=>?_)))
  rcases List.mem_append.1 hx with hx | hx
  ·exact hc.2.2 x hx
  ·simp at hx;subst hx;exact pr_inc s
 ·intro y hy;cases hy
theorem pr_plain:(∀ n:Nd,PrI n→PrI (plainM n)∧∀ y,y∈plain1 n→PrI y)∧∀ l:List Nd,(∀ x,x∈l→PrI x)→∀ y,y∈plainML l→PrI y:=by
 refine Nd.ind2 (fun k s m ks ih hp=>?_) (fun _ y hy=>by rw [plainML_nil] at hy;cases hy) (fun x l hx hl hp y hy=>?_)
 ·have hg:=hp.get
  have h1:PrI (plainM (.mk k s m ks)):=by rw [plainM_mk];exact .mk k s m _ hg.1 hg.2.1 (ih hg.2.2)
  refine ⟨h1,fun y hy=>?_⟩
  by_cases hk:k=26
  ·subst hk
   rw [plain1_for] at hy
   exact pr_forT s _ (ih hg.2.2) y hy
  ·rw [plain1_no (x:=.mk k s m ks) hk] at hy
   simp at hy;subst hy;exact h1
 ·rw [plainML_cons] at hy
  rcases List.mem_append.1 hy with hy | hy
  ·exact (hx (hp x (by simp))).2 y hy
  ·exact hl (fun z hz=>hp z (by simp [hz])) y hy
theorem PrI.plain {n:Nd}(h:PrI n):PrI (plainM n):=(pr_plain.1 n h).1
theorem twG_none:∀ {l:List Nd}{pre:List (List UInt8)},twG pre l=none→(∀ d,d∈l→has pre d.name=false)∧∀ x,x∈l→∀ y,y∈l→x.name=y.name→x=y
 | [],pre,_=>⟨fun d h=>(by cases h),fun x h _ _ _=>(by cases h)⟩
 | d::l,pre,h=>by
   simp only [twG] at h
   split at h
   ·cases h
   ·rename_i hd
    obtain ⟨h1,h2⟩:=twG_none h
    have h3:∀ e,e∈l→has pre e.name=false∧d.name≠e.name:=fun e he=>by
     have:=h1 e he
     rw [has_app,Bool.or_eq_false_iff] at this
     refine ⟨this.1,fun hh=>?_⟩
     have:=this.2
     simp [has,hh] at this
    refine ⟨fun e he=>?_,fun x hx y hy hxy=>?_⟩
    ·rcases List.mem_cons.1 he with rfl | he
     ·simpa using hd
     ·exact (h3 e he).1
    ·rcases List.mem_cons.1 hx with rfl | hx<;>rcases List.mem_cons.1 hy with rfl | hy
     ·rfl
     ·exact absurd hxy (h3 y hy).2
     ·exact absurd hxy.symm (h3 x (by assumption)).2
     ·exact h2 x hx y hy hxy
theorem has_names (l:List Nd)(k:Int)(s:List UInt8):has (namesK l k) s=l.any fun d=>(d.kind==k)&&(d.name==s):=by
 induction l with
 | nil=>rfl
 | cons d l ih =>
   simp only [namesK,has,List.filter_cons] at ih ⊢
   by_cases h:(d.kind==k)=true
   ·rw [if_pos h];simp only [List.map_cons,List.any_cons,h,Bool.true_and,ih]
   ·rw [if_neg h]
    have h':(d.kind==k)=false:=by simpa using h
    simp only [List.any_cons,h',Bool.false_and,Bool.false_or,ih]
theorem idxN_any (l:List Nd)(s:List UInt8):decide (idxN l s<0)=!(l.any fun d=>d.name==s):=by
 rw [← idxP_any _ l 0]
 show decide (idxN l s<0)=!decide (idxN l s≥0)
 by_cases h:idxN l s<0
 ·rw [decide_eq_true h,decide_eq_false (show ¬ idxN l s≥0 by omega)];rfl
 ·rw [decide_eq_false h,decide_eq_true (show idxN l s≥0 by omega)];rfl
theorem wants_both (k:Int):(wantsI k=31∧wantsS k=1)∨(wantsI k=32∧wantsS k=2)∨(wantsI k=0∧wantsS k=0):=by
 unfold wantsI wantsS
 repeat' split
 all_goals simp
theorem has_both {l:List Nd}(hk:∀ d,d∈l→d.kind=31∨d.kind=32)(s:List UInt8):(l.any fun d=>d.name==s)=(has (namesK l 31) s||has (namesK l 32) s):=by
 rw [has_names,has_names]
 induction l with
 | nil=>rfl
 | cons d l ih =>
   simp only [List.any_cons]
   rw [ih fun e he=>hk e (by simp [he])]
   rcases hk d (by simp) with h | h<;>simp [h]
   ·cases (d.name==s)<;>simp
   ·cases (d.name==s)<;>simp [Bool.or_comm,Bool.or_left_comm]
theorem hit7_eq {l:List Nd}(hk:∀ d,d∈l→d.kind=31∨d.kind=32)(x:Nd):hit7 l x=wrongAt (namesK l 31) (namesK l 32) 7 x.kind x.name:=by
 unfold hit7 wrongAt
 rw [idxN_any,has_both hk,idxS_has,idxS_has]
 rcases wants_both x.kind with ⟨h1,h2⟩ | ⟨h1,h2⟩ | ⟨h1,h2⟩<;>simp [h1,h2]
theorem idxP_at {p:Nd→Bool}{l:List Nd}(h:(l.any p)=true):∃ d,d∈l∧p d=true∧l.getD (idxP p 0 l).toNat nd0=d:=by
 have h0:idxP p 0 l≠-1:=by
  intro e
  have:=idxP_any p l 0
  rw [h,e] at this
  simp at this
 obtain ⟨j,d,h1,h2,h3,_⟩:=idxP_some h0
 refine ⟨d,List.mem_of_getElem? h2,h3,?_⟩
 rw [h1]
 simp [List.getD,h2]
theorem hit8_eq {l:List Nd}(hk:∀ d,d∈l→d.kind=31∨d.kind=32)(hu:∀ x,x∈l→∀ y,y∈l→x.name=y.name→x=y)(x:Nd)(h7:hit7 l x=false):hit8 l x=wrongAt (namesK l 31) (namesK l 32) 8 x.kind x.name:=by
 unfold hit7 at h7
 unfold hit8 wrongAt
 rw [idxN_any] at h7
 rw [idxS_has,idxS_has,has_names,has_names]
 by_cases hw:wantsI x.kind=0
 ·rcases wants_both x.kind with ⟨h1,h2⟩ | ⟨h1,h2⟩ | ⟨h1,h2⟩<;>simp [h1,h2]<;>omega
 ·have ha:(l.any fun d=>d.name==x.name)=true:=by
   simp [hw] at h7
   simpa using h7
  obtain ⟨d,hd,hn,hg⟩:=idxP_at ha
  have hn':d.name=x.name:=by simpa using hn
  have one:∀ k:Int,(l.any fun e=>(e.kind==k)&&(e.name==x.name))=(d.kind==k):=fun k=>by
   cases hdk:(d.kind==k) with
   | true=>exact List.any_eq_true.2 ⟨d,hd,by simp [hdk,hn']⟩
   | false =>
     rw [List.any_eq_false]
     intro e he hh
     simp at hh
     have:=hu e he d hd (by rw [hh.2,hn'])
     subst this
     simp at hdk
     exact hdk hh.1
  have hgk:(l.getD (idxN l x.name).toNat nd0).kind=d.kind:=by rw [idxN,hg]
  rw [one,one,hgk]
  rcases wants_both x.kind with ⟨h1,h2⟩ | ⟨h1,h2⟩ | ⟨h1,h2⟩<;>rcases hk d hd with h3 | h3<;>simp [h1,h2,h3]
def oV (o:Option (List UInt8)):List UInt8 × Bool:=match o with
 | some s=>(s,true)
 | none=>([],false)
theorem wrong7 {l:List Nd}(hk:∀ d,d∈l→d.kind=31∨d.kind=32):(∀ n:Nd,wrongN (namesK l 31) (namesK l 32) 7 n=oV (firN (hit7 l) n))∧∀ ks:List Nd,wrongL (namesK l 31) (namesK l 32) 7 ks=oV (firL (hit7 l) ks):=by
 refine Nd.ind2 (fun k s m ks ih=>?_) rfl (fun x ks hx hl=>?_)
 ·rw [wrongN_eq,firN_eq,hit7_eq hk]
  by_cases hh:wrongAt (namesK l 31) (namesK l 32) 7 (Nd.mk k s m ks).kind (Nd.mk k s m ks).name=true
  ·rw [if_pos hh,if_pos hh];rfl
  ·rw [if_neg hh,if_neg hh];exact ih
 ·simp only [wrongL,firL]
  rw [hx]
  cases firN (hit7 l) x with
  | some s=>rfl
  | none=>simp [oV];exact hl
theorem wrong8 {l:List Nd}(hk:∀ d,d∈l→d.kind=31∨d.kind=32)(hu:∀ x,x∈l→∀ y,y∈l→x.name=y.name→x=y) :
 (∀ n:Nd,firN (hit7 l) n=none→wrongN (namesK l 31) (namesK l 32) 8 n=oV (firN (hit8 l) n))∧∀ ks:List Nd,firL (hit7 l) ks=none→wrongL (namesK l 31) (namesK l 32) 8 ks=oV (firL (hit8 l) ks):=by
 refine Nd.ind2 (fun k s m ks ih h0=>?_) (fun _=>rfl) (fun x ks hx hl h0=>?_)
 ·rw [firN_eq] at h0
  have h7:hit7 l (.mk k s m ks)=false:=by
   cases h:hit7 l (.mk k s m ks) with
   | false=>rfl
   | true=>rw [h] at h0;simp at h0
  rw [h7] at h0
  rw [wrongN_eq,firN_eq,hit8_eq hk hu _ h7]
  by_cases hh:wrongAt (namesK l 31) (namesK l 32) 8 (Nd.mk k s m ks).kind (Nd.mk k s m ks).name=true
  ·rw [if_pos hh,if_pos hh];rfl
  ·rw [if_neg hh,if_neg hh];exact ih (by simpa using h0)
 ·have h1:=firL_none h0 x (by simp)
  have h2:firL (hit7 l) ks=none:=by simp only [firL,h1] at h0;exact h0
  simp only [wrongL,firL]
  rw [hx h1]
  cases firN (hit8 l) x with
  | some s=>rfl
  | none=>simp [oV];exact hl h2
theorem q_checkF (x:Nd):Pure X 141 [nd x] (vb (decide (60<x.num))):=by
 refine Pure.run Tryz.func141 ?_
 exact AK.rz Tryz.func141 rfl
theorem declK_names (n:Nd)(k:Int):(declK n k).length=(declS n k).length:=by simp [declK,declS,namesK]
theorem big_arrays {n:Nd}(hd:∀ d,d∈n.kids.dropLast→FV d):((declK n 32).any fun d=>decide (60<d.num))=bigS n.kids.dropLast:=by
 unfold declK bigS
 rw [Bool.eq_iff_iff]
 simp only [List.any_eq_true,List.mem_filter,decide_eq_true_eq,beq_iff_eq]
 constructor
 ·rintro ⟨d,⟨h1,_⟩,h3⟩;exact ⟨d,h1,h3⟩
 ·rintro ⟨d,h1,h3⟩
  refine ⟨d,⟨h1,?_⟩,h3⟩
  have:=hd d h1
  cases this with
  | var s h=>simp at h3
  | arr s m h h0 h1=>rfl
theorem FP_decls {n:Nd}(h:FP n):n.kids≠[]∧∀ d,d∈n.kids.dropLast→FV d:=by
 cases h with
 | mk ds l hd hl=>exact ⟨by simp,by simpa using hd⟩
def planV (n:Nd):Nd:=if (checkS n).1=0 then plainM n else nd0
set_option maxHeartbeats 1000000 in
theorem q_check (n:Nd)(hn:countN n≤1000000000)(hnum:PrI n):Pure X 81 [nd n] (.tup [nd (planV n),.agg [vi (checkS n).1,str (checkS n).2]]):=by
 have hfl:flatTy X.P 63=some [0,1]:=by kernel_rfl
 refine Pure.run Tryz.func81 ?_
 refine AK.pc (q_progOk n hn hnum) ?_
 refine AK.if_ (fun h1=>?_) (fun h1=>?_)
 ·have h1':progOkS n=false:=by have:(!progOkS n)=true:=h1;simpa using this
  have hC:checkS n=(4,[]):=by unfold checkS;rw [if_neg (by simp [h1'])]
  unfold planV
  rw [hC]
  exact AK.rz Tryz.func81 rfl
 have h1':progOkS n=true:=by have:(!progOkS n)=false:=h1;simpa using this
 obtain ⟨fp,hc,hdp⟩:=progOkS_FP h1'
 obtain ⟨hkn,hFV⟩:=FP_decls fp
 have hw9:wN n≤4500:=by
  have:=wN_formed n (FP_formed fp)
  omega
 have hcn:=countN_eq n
 have hll:=length_le_countL n.kids
 have hdl:n.kids.dropLast.length≤1000:=by rw [List.length_dropLast];omega
 have hkind:∀ d,d∈n.kids.dropLast→d.kind=31∨d.kind=32:=fun d hd=>FV_kind (hFV d hd)
 have hfK:∀ k,(declK n k).length≤1000:=fun k=>Nat.le_trans (List.length_filter_le _ _) hdl
 have e0:checkS n=checkS n:=rfl
 conv at e0=>rhs;rw [checkS,if_pos h1']
 refine AK.dn 0 1 ?_
 refine Drv.pg (q_decls n hkn (by omega)) ?_
 refine Drv.pg (q_declared n 32 hkn (by omega)) ?_
 refine Drv.z ?_
 refine AK.pc (q_declared n 31 hkn (by omega)) ?_
 refine AK.gd (fun h2=>?_) (fun h2=>?_)
 ·have h2':8<(declS n 31).length:=by have:=of_decide_eq_true h2;rw [nrows_len,declK_names] at this;omega
  have hC:checkS n=(3,[]):=by rw [e0,if_pos (by simp [manyS,h2'])]
  refine AK.gy ?_
  refine AK.yes ?_
  unfold planV
  rw [hC]
  exact AK.rz Tryz.func81 rfl
 have h2':¬ 8<(declS n 31).length:=by have:=of_decide_eq_false h2;rw [nrows_len,declK_names] at this;omega
 refine AK.gd (fun h3=>?_) (fun h3=>?_)
 ·have h3':4<(declS n 32).length:=by have:=of_decide_eq_true h3;rw [nrows_len,declK_names] at this;omega
  have hC:checkS n=(3,[]):=by rw [e0,if_pos (by simp [manyS,h3'])]
  refine AK.yes ?_
  unfold planV
  rw [hC]
  exact AK.rz Tryz.func81 rfl
 have h3':¬ 4<(declS n 32).length:=by have:=of_decide_eq_false h3;rw [nrows_len,declK_names] at this;omega
 have hmany:¬ manyS n=true:=by simp [manyS]<;>omega
 rw [if_neg hmany] at e0
 have hbig:=q_containsF (declK n 32) 141 [] (fun d=>decide (60<d.num)) (by have:=hfK 32;omega) (fun x _=>q_checkF x) cat0
 rw [big_arrays hFV] at hbig
 refine AK.pc hbig ?_
 refine AK.if_ (fun h4=>?_) (fun h4=>?_)
 ·have h4':bigS n.kids.dropLast=true:=h4
  have hC:checkS n=(3,[]):=by rw [e0,if_pos h4']
  unfold planV
  rw [hC]
  exact AK.rz Tryz.func81 rfl
 have h4':¬ bigS n.kids.dropLast=true:=by have:bigS n.kids.dropLast=false:=h4;simp [this]
 rw [if_neg h4'] at e0
 have htw:∀ i,twG ((n.kids.dropLast.take i).map Nd.name) (n.kids.dropLast.drop i)=twG [] n.kids.dropLast→True:=fun _ _=>trivial
 refine AK.while_ (ι:=Nat) 3 0 (fun i=>i≤n.kids.dropLast.length∧twG ((n.kids.dropLast.take i).map Nd.name) (n.kids.dropLast.drop i)=twG [] n.kids.dropLast)
  (fun i=>[(36,vi i),(35,vi n.kids.dropLast.length),(34,.sl (nrows n.kids.dropLast) .no),(4,.sl (nrows n.kids.dropLast) .no),(1,.ptr 0 0 0),(2,.ptr 1 0 0),(3,.ptr 2 0 0)])
  (fun i=>⟨[[ncells n],[zN],[[vi 0,str []]]],[]⟩) (fun i=>n.kids.dropLast.length-i) ?_ 0 ⟨Nat.zero_le _,rfl⟩ ⟨rfl,by rw [← nrows_len n.kids.dropLast];rfl,rfl,rfl,rfl,rfl,rfl,trivial⟩ rfl rfl rfl rfl rfl
  (fun _=>inferInstance) (fun _=>inferInstance)
 rintro i ⟨hi,hT⟩ IH
 refine AK.ev 100 rfl ?_
 refine AK.if_ (fun h5=>?_) (fun h5=>?_)
 ·have hlt:i<n.kids.dropLast.length:=by have:=of_decide_eq_true h5;omega
  obtain ⟨d,hd⟩:=lget_of_lt n.kids.dropLast hlt
  rw [drop_cons hd] at hT
  simp only [twG] at hT
  have hin:((nrows n.kids.dropLast).take i).drop 0=nrows (n.kids.dropLast.take i):=by rw [nrows_map,nrows_map,List.drop_zero,List.map_take]
  have hany:((n.kids.dropLast.take i).any fun e=>e.name==d.name)=has ((n.kids.dropLast.take i).map Nd.name) d.name:=by rw [has,List.any_map];rfl
  refine AK.ix i (by omega) (nrows_get hd) ?_
  refine AK.dn 0 2 ?_
  refine Drv.rg (fun S'=>Ndo.cut (l:=0) (h:=(i:Int)) (r:=nrows (n.kids.dropLast.take i)) rfl rfl rfl rfl rfl rfl rfl rfl rfl (by omega) (by omega) (by rw [nrows_len];omega) (nrows_al _) (by rw [Int.toNat_natCast];exact hin)) ?_
  refine Drv.pg (q_isName d.name) ?_
  refine Drv.pg (q_containsF (n.kids.dropLast.take i) 184 [.cptr [str d.name]] (fun e=>e.name==d.name) (by rw [List.length_take];omega) (fun x _=>q_isNameF x d.name) (cat1 _)) ?_
  refine Drv.z ?_
  refine AK.if_ (fun h6=>?_) (fun h6=>?_)
  ·have h6':has ((n.kids.dropLast.take i).map Nd.name) d.name=true:=by rw [← hany];exact h6
   rw [if_pos h6'] at hT
   have hC:checkS n=(6,d.name):=by rw [e0,← hT]
   refine AK.dn 48 4 ?_
   refine Drv.wl (Ndo.store rfl rfl rfl rfl rfl rfl rfl) ?_ ?_
   ·exact strip_eq (Ndo.ev rfl rfl rfl) allN
   refine Drv.w (Ndo.store rfl rfl rfl rfl rfl rfl rfl) ?_
   refine Drv.z ?_
   unfold planV
   rw [hC]
   exact AK.rz Tryz.func81 rfl
  ·have h6':¬ has ((n.kids.dropLast.take i).map Nd.name) d.name=true:=by rw [← hany];simp [show _=false from h6]
   rw [if_neg h6'] at hT
   exact IH (i+1) ⟨hlt,by rw [List.take_add_one,hd,List.map_append];exact hT⟩ (by omega) _ _ ⟨vint ((wrap_small (by omega) (by omega)).trans (by omega)),rfl,rfl,rfl,rfl,rfl,rfl,trivial⟩ rfl rfl rfl
 have hie:i=n.kids.dropLast.length:=by have:=of_decide_eq_false h5;omega
 rw [hie,List.drop_length] at hT
 have hT':twG [] n.kids.dropLast=none:=hT.symm
 rw [hT'] at e0
 simp only at e0
 obtain ⟨_,huq⟩:=twG_none hT'
 have w7:=(wrong7 hkind).1 (lastN n)
 have w8:=(wrong8 hkind huq).1 (lastN n)
 have hdS:∀ k,declS n k=namesK n.kids.dropLast k:=fun k=>rfl
 rw [hdS,hdS,w7] at e0
 have hlc:countN (lastN n)≤1000:=by
  unfold lastN
  cases hg:n.kids.getLast? with
  | none=>rw [List.getLastD_eq_getLast?,hg];decide
  | some b =>
    rw [List.getLastD_eq_getLast?,hg]
    have:=countL_mem (List.mem_of_getLast? hg)
    simp only [Option.getD_some];omega
 refine AK.pc (q_body n hkn (by omega)) ?_
 refine AK.pc (q_checkNames n.kids.dropLast (lastN n) (by omega) (by omega)) ?_
 have hnt:namesT n.kids.dropLast (lastN n)=match firN (hit7 n.kids.dropLast) (lastN n) with
  | some s=>(7,s)
  | none=>(trC 8 (firN (hit8 n.kids.dropLast) (lastN n)),(firN (hit8 n.kids.dropLast) (lastN n)).getD []):=rfl
 generalize namesT n.kids.dropLast (lastN n)=T at hnt ⊢
 refine AK.op (Ndo.eqs (r:=!((T.1==0)&&((T.2==[])&&true))) rfl rfl rfl rfl rfl hfl rfl (.inr ⟨rfl,rfl⟩)) ?_
 by_cases hz:firN (hit7 n.kids.dropLast) (lastN n)=none∧firN (hit8 n.kids.dropLast) (lastN n)=none
 ·rw [hz.1,hz.2] at hnt
  rw [w8 hz.1,hz.1,hz.2] at e0
  simp only [oV,trC] at hnt e0
  subst hnt
  refine AK.no ?_
  refine AK.pc (q_plainOf n (FP_PlO fp) (by omega)) ?_
  have hpw:=(plain_w n).1
  have hpc:=count_le_w (plainM n)
  refine AK.pc (q_progOk (plainM n) (by omega) hnum.plain) ?_
  refine AK.if_ (fun h7=>?_) (fun h7=>?_)
  ·have h7':progOkS (plainM n)=false:=by have:(!progOkS (plainM n))=true:=h7;simpa using this
   have hC:checkS n=(5,[]):=by rw [e0];simp [h7']
   unfold planV
   rw [hC]
   exact AK.rz Tryz.func81 rfl
  ·have h7':progOkS (plainM n)=true:=by have:(!progOkS (plainM n))=false:=h7;simpa using this
   have hC:checkS n=(0,[]):=by rw [e0];simp [h7']
   unfold planV
   rw [hC]
   exact AK.rz Tryz.func81 rfl
 ·have hC:checkS n=T∧T.1≠0:=by
   cases h7:firN (hit7 n.kids.dropLast) (lastN n) with
   | some s =>
     rw [h7] at hnt e0
     simp only [oV] at e0
     rw [hnt,e0];simp
   | none =>
     rw [w8 h7] at e0
     rw [h7] at hnt e0
     cases h8:firN (hit8 n.kids.dropLast) (lastN n) with
     | none=>exact absurd ⟨h7,h8⟩ hz
     | some s =>
       rw [h8] at hnt e0
       simp only [oV,trC] at e0 hnt
       rw [hnt,e0];simp
  obtain ⟨hC,hC0⟩:=hC
  refine AK.yes ?_ (ht:=by simp [hC0])
  refine AK.dn 12 2 ?_
  refine Drv.wl (Ndo.store rfl rfl rfl rfl rfl rfl rfl) ?_ ?_
  ·exact strip_eq (Ndo.ev rfl rfl rfl) allN
  refine Drv.w (Ndo.store rfl rfl rfl rfl rfl rfl rfl) ?_
  refine Drv.z ?_
  unfold planV
  rw [hC,if_neg hC0]
  exact AK.rz Tryz.func81 rfl
structure Eg where
 f:Int
 t:Int
 k:Int
 y:Bool
 n:Nd
structure Lp where
 a:Nd
 l:Nd
 h:Int
 x:Int
structure Gr where
 pts:Nat
 pt:Nat
 es:List Eg
 sts:List Nat
 lps:List Lp
 ver:Nat
def gStop (g:Gr):Gr:={ g with es:=g.es++[⟨g.pt,-1,7,false,nd0⟩],sts:=g.sts++[g.es.length],pts:=g.pts+1,pt:=g.pts }
def gLeaf (k:Int)(n:Nd)(g:Gr):Gr:={ g with es:=g.es++[⟨g.pt,g.pts,k,false,n⟩],pts:=g.pts+1,pt:=g.pts }
def gWay (p:Nat)(c:Nd)(y:Bool)(g:Gr):Gr:={ g with es:=g.es++[⟨p,g.pts,4,y,c⟩],pts:=g.pts+1,pt:=g.pts }
def gEdge (f t:Nat)(g:Gr):Gr:={ g with es:=g.es++[⟨f,t,6,false,nd0⟩] }
def gJoin (p:Nat)(g:Gr):Gr:={ gEdge g.pt g.pts (gEdge p g.pts g) with pts:=g.pts+1,pt:=g.pts }
def gIf (c:Nd)(f1 f2:Gr→Gr)(g:Gr):Gr:=gJoin (f1 (gWay g.pt c true g)).pt (f2 (gWay g.pt c false (f1 (gWay g.pt c true g))))
def gLoop (a n:Nd)(g:Gr):Gr:={ g with lps:=g.lps++[⟨a,n,g.pt,0⟩],ver:=g.ver+1 }
def gExit (i:Nat)(g:Gr):Gr:={ g with lps:=g.lps.modify i fun l=>{ l with x:=g.pt },ver:=g.ver+1 }
def gBack (h:Nat)(g:Gr):Gr:=gEdge g.pt h g
def gWh (n a c:Nd)(f:Gr→Gr)(g:Gr):Gr :=
 gExit g.lps.length (gWay g.pts c false (gBack g.pts (f (gWay g.pts c true (gLoop a n (gLeaf 6 nd0 g))))))
def gKs (k:Int)(n:Nd)(ks:List Nd)(fs:List (Gr→Gr))(a:Nd)(g:Gr):Gr :=
 if k=21 then gLeaf 1 n g else if k=22 then gLeaf 2 n g else if k=23 then gLeaf 3 n g else if k=27 then gLeaf 5 (ks.headD nd0) g else if k=28 then gLeaf 6 nd0 g
 else if k=29 then gStop g else if k=24 then gIf (ks.headD nd0) (fs.getD 1 id) (fs.getD 2 id) g else gWh n a (ks.headD nd0) (fs.getD 1 id) g
def goL:List (Nd × (Nd→Gr→Gr) × (Gr→Gr))→Nd→Gr→Gr
 | [],_,g=>g
 | (x,f,_)::l,a,g=>goL l x (f a g)
mutual
def gN:Nd→Nd × (Nd→Gr→Gr) × (Gr→Gr)
 | .mk k s m ks=>(.mk k s m ks,gKs k (.mk k s m ks) ks ((gNs ks).map fun x=>x.2.2),goL (gNs ks) nd0)
def gNs:List Nd→List (Nd × (Nd→Gr→Gr) × (Gr→Gr))
 | []=>[]
 | x::l=>gN x::gNs l
end
def gS (n a:Nd)(g:Gr):Gr:=(gN n).2.1 a g
def gL:List Nd→Nd→Gr→Gr
 | [],_,g=>g
 | x::l,a,g=>gL l x (gS x a g)
theorem gN_mk (k:Int)(s:List UInt8)(m:Int)(ks:List Nd):gN (.mk k s m ks)=(.mk k s m ks,gKs k (.mk k s m ks) ks ((gNs ks).map fun x=>x.2.2),goL (gNs ks) nd0):=by rw [gN]
theorem gN_self (x:Nd):(gN x).1=x:=by obtain ⟨k,s,m,ks⟩:=x;rw [gN_mk]
theorem gNs_cons (x:Nd)(l:List Nd):gNs (x::l)=gN x::gNs l:=by rw [gNs]
theorem gNs_nil:gNs []=[]:=by rw [gNs]
theorem goL_eq:∀ (l:List Nd)(a:Nd)(g:Gr),goL (gNs l) a g=gL l a g
 | [],a,g=>by rw [gNs_nil];rfl
 | x::l,a,g=>by
   rw [gNs_cons]
   have h:gN x=(x,(gN x).2):=Prod.ext (gN_self x) rfl
   rw [h]
   simp only [goL,gL,gS]
   exact goL_eq l x _
theorem gL_cons (x:Nd)(l:List Nd)(a:Nd)(g:Gr):gL (x::l) a g=gL l x (gS x a g):=rfl
theorem gL_app:∀ (l l':List Nd)(a:Nd)(g:Gr),gL (l++l') a g=gL l' (l.getLastD a) (gL l a g)
 | [],l',a,g=>rfl
 | x::l,l',a,g=>by simp only [List.cons_append,gL_cons];rw [gL_app l l' x];cases l<;>simp [gL,List.getLastD]
theorem gS_set (s:List UInt8)(ks:List Nd)(a:Nd)(g:Gr):gS (.mk 21 s 0 ks) a g=gLeaf 1 (.mk 21 s 0 ks) g:=by unfold gS;rw [gN_mk];rfl
theorem gS_put (s:List UInt8)(ks:List Nd)(a:Nd)(g:Gr):gS (.mk 22 s 0 ks) a g=gLeaf 2 (.mk 22 s 0 ks) g:=by unfold gS;rw [gN_mk];rfl
theorem gS_read (s:List UInt8)(ks:List Nd)(a:Nd)(g:Gr):gS (.mk 23 s 0 ks) a g=gLeaf 3 (.mk 23 s 0 ks) g:=by unfold gS;rw [gN_mk];rfl
theorem gS_check (c a:Nd)(g:Gr):gS (.mk 27 [] 0 [c]) a g=gLeaf 5 c g:=by unfold gS;rw [gN_mk];rfl
theorem gS_skip (a:Nd)(g:Gr):gS (.mk 28 [] 0 []) a g=gLeaf 6 nd0 g:=by unfold gS;rw [gN_mk];rfl
theorem gS_stop (a:Nd)(g:Gr):gS (.mk 29 [] 0 []) a g=gStop g:=by unfold gS;rw [gN_mk];rfl
theorem gS_if (c a:Nd)(l l':List Nd)(g:Gr):gS (.mk 24 [] 0 [c,.mk 30 [] 0 l,.mk 30 [] 0 l']) a g=gIf c (gL l nd0) (gL l' nd0) g:=by
 unfold gS
 rw [gN_mk,gNs_cons,gNs_cons,gNs_cons,gNs_nil,gN_mk 30,gN_mk 30,funext fun g=>goL_eq l nd0 g,funext fun g=>goL_eq l' nd0 g];rfl
theorem gS_wh (c a:Nd)(l:List Nd)(g:Gr):gS (.mk 25 [] 0 [c,.mk 30 [] 0 l]) a g=gWh (.mk 25 [] 0 [c,.mk 30 [] 0 l]) a c (gL l nd0) g:=by
 unfold gS
 rw [gN_mk,gNs_cons,gNs_cons,gNs_nil,gN_mk 30,funext fun g=>goL_eq l nd0 g];rfl
inductive PS:Nd→Prop
 | set (s:List UInt8) (a:Nd) (h:nameS s=true) (ha:FE a):PS (.mk 21 s 0 [a])
 | put (s:List UInt8) (a b:Nd) (h:nameS s=true) (ha:FE a) (hb:FE b):PS (.mk 22 s 0 [a,b])
 | read (s:List UInt8) (h:nameS s=true):PS (.mk 23 s 0 [])
 | ifs (c:Nd) (l l':List Nd) (hc:FC c) (hl:∀ x,x∈l→PS x) (hl':∀ x,x∈l'→PS x):PS (.mk 24 [] 0 [c,.mk 30 [] 0 l,.mk 30 [] 0 l'])
 | whil (c:Nd) (l:List Nd) (hc:FC c) (hl:∀ x,x∈l→PS x):PS (.mk 25 [] 0 [c,.mk 30 [] 0 l])
 | check (c:Nd) (hc:FC c):PS (.mk 27 [] 0 [c])
 | skip:PS (.mk 28 [] 0 [])
 | stop:PS (.mk 29 [] 0 [])
theorem plainML_PS {l:List Nd}(h:∀ x,x∈l→∀ y,y∈plain1 x→PS y):∀ y,y∈plainML l→PS y:=by
 induction l with
 | nil=>intro y hy;rw [plainML_nil] at hy;cases hy
 | cons x l ih =>
   intro y hy
   rw [plainML_cons] at hy
   rcases List.mem_append.1 hy with hy | hy
   ·exact h x (by simp) y hy
   ·exact ih (fun z hz=>h z (by simp [hz])) y hy
theorem plainB_eq (l:List Nd):plain1 (.mk 30 [] 0 l)=[.mk 30 [] 0 (plainML l)]:=by rw [plain1_no (by simp),plainM_mk]
theorem plain1_E {a:Nd}(h:FE a):plain1 a=[a]:=by rw [plain1_no (by have:=FE_kind h;omega),plainE h]
theorem plain1_C {a:Nd}(h:FC a):plain1 a=[a]:=by rw [plain1_no (by have:=FC_kind h;omega),plainC h]
theorem FS_PS {n:Nd}(h:FS n):∀ y,y∈plain1 n→PS y:=by
 induction h with
 | set s a h ha=>intro y hy;rw [plain1_no (by simp),plainM_mk,plainML_cons,plainML_nil,plain1_E ha] at hy;simp at hy;subst hy;exact .set s a h ha
 | put s a b h ha hb=>intro y hy;rw [plain1_no (by simp),plainM_mk,plainML_cons,plainML_cons,plainML_nil,plain1_E ha,plain1_E hb] at hy;simp at hy;subst hy;exact .put s a b h ha hb
 | read s h=>intro y hy;rw [plain1_no (by simp),plainM_mk,plainML_nil] at hy;simp at hy;subst hy;exact .read s h
 | ifs c l l' hc hl hl' ihl ihl' =>
   intro y hy
   rw [plain1_no (by simp),plainM_mk,plainML_cons,plainML_cons,plainML_cons,plainML_nil,plain1_C hc,plainB_eq,plainB_eq] at hy;simp at hy;subst hy
   exact .ifs c _ _ hc (plainML_PS ihl) (plainML_PS ihl')
 | whil c l hc hl ihl =>
   intro y hy
   rw [plain1_no (by simp),plainM_mk,plainML_cons,plainML_cons,plainML_nil,plain1_C hc,plainB_eq] at hy;simp at hy;subst hy
   exact .whil c _ hc (plainML_PS ihl)
 | for_ s a b l h ha hb hl ihl =>
   intro y hy
   rw [plain1_for,plainML_cons,plainML_cons,plainML_cons,plainML_nil,plain1_E ha,plain1_E hb,plainB_eq] at hy
   simp only [List.cons_append,List.nil_append,forT,List.mem_cons,List.not_mem_nil,or_false] at hy
   rcases hy with rfl | rfl
   ·exact .set s a h ha
   ·refine .whil _ _ (.mk 11 _ _ (by omega) (by omega) (.var s h) hb) fun y hy=>?_
    rcases List.mem_append.1 hy with hy | hy
    ·exact plainML_PS ihl y hy
    ·simp at hy;subst hy
     exact .set s _ h (.two 6 _ _ (.inl rfl) (.var s h) (.num 1 (by omega) (by omega)))
 | check c hc=>intro y hy;rw [plain1_no (by simp),plainM_mk,plainML_cons,plainML_nil,plain1_C hc] at hy;simp at hy;subst hy;exact .check c hc
 | skip=>intro y hy;rw [plain1_no (by simp),plainM_mk,plainML_nil] at hy;simp at hy;subst hy;exact .skip
 | stop=>intro y hy;rw [plain1_no (by simp),plainM_mk,plainML_nil] at hy;simp at hy;subst hy;exact .stop
structure Gr.le (g g':Gr)(k:Nat):Prop where
 pts:g.pts≤g'.pts∧g'.pts≤g.pts+4*k
 pt:g'.pt<g'.pts
 es:∃ l,g'.es=g.es++l∧l.length≤4*k∧∀ e,e∈l→(0≤e.f∧e.f<g'.pts)∧(e.t=-1∨(0≤e.t∧e.t<g'.pts))
 lps:∃ l,g'.lps=g.lps++l∧l.length≤k
 ver:g.ver≤g'.ver∧g'.ver≤g.ver+2*k
 sts:∃ l,g'.sts=g.sts++l∧l.length≤k
theorem Gr.le.refl {g:Gr}(h:g.pt<g.pts):g.le g 0:=⟨by omega,h,⟨[],by simp,by simp,fun e he=>by cases he⟩,⟨[],by simp,by simp⟩,by omega,⟨[],by simp,by simp⟩⟩
theorem Gr.le.trans {a b c:Gr}{k l m:Nat}(h:a.le b k)(h':b.le c l)(hm:k+l≤m):a.le c m:=by
 obtain ⟨e1,h1,h2,h3⟩:=h.es
 obtain ⟨e2,h4,h5,h6⟩:=h'.es
 obtain ⟨l1,g1,g2⟩:=h.lps
 obtain ⟨l2,g3,g4⟩:=h'.lps
 obtain ⟨s1,g5,g6⟩:=h.sts
 obtain ⟨s2,g7,g8⟩:=h'.sts
 have:=h.pts
 have:=h'.pts
 have:=h.ver
 have:=h'.ver
 refine ⟨by omega,h'.pt,⟨e1++e2,by rw [h4,h1,List.append_assoc],by simp;omega,fun e he=>?_⟩,⟨l1++l2,by rw [g3,g1,List.append_assoc],by simp;omega⟩,by omega,⟨s1++s2,by rw [g7,g5,List.append_assoc],by simp;omega⟩⟩
 rcases List.mem_append.1 he with he | he
 ·obtain ⟨q1,q2⟩:=h3 e he
  refine ⟨by omega,?_⟩
  rcases q2 with q2 | q2
  ·exact .inl q2
  ·exact .inr (by omega)
 ·exact h6 e he
theorem Gr.le.up {a b:Gr}{k m:Nat}(h:a.le b k)(hm:k≤m):a.le b m:=h.trans (.refl h.pt) (by omega)
theorem leaf_le (k:Int)(n:Nd){g:Gr}(h:g.pt<g.pts):g.le (gLeaf k n g) 1 :=
 ⟨by simp [gLeaf],by simp [gLeaf],⟨_,rfl,by simp,fun e he=>by simp at he;subst he;simp [gLeaf];omega⟩,⟨[],by simp [gLeaf],by simp⟩,by simp [gLeaf],⟨[],by simp [gLeaf],by simp⟩⟩
theorem stop_le {g:Gr}(h:g.pt<g.pts):g.le (gStop g) 1 :=
 ⟨by simp [gStop],by simp [gStop],⟨_,rfl,by simp,fun e he=>by simp at he;subst he;simp [gStop];omega⟩,⟨[],by simp [gStop],by simp⟩,by simp [gStop],⟨_,rfl,by simp⟩⟩
theorem way_le (p:Nat)(c:Nd)(y:Bool){g:Gr}(h:p<g.pts):g.le (gWay p c y g) 1 :=
 ⟨by simp [gWay],by simp [gWay],⟨_,rfl,by simp,fun e he=>by simp at he;subst he;simp [gWay];omega⟩,⟨[],by simp [gWay],by simp⟩,by simp [gWay],⟨[],by simp [gWay],by simp⟩⟩
theorem edge_le (t:Nat){g:Gr}(h:g.pt<g.pts)(ht:t<g.pts):g.le (gBack t g) 1 :=
 ⟨by simp [gBack,gEdge],h,⟨_,rfl,by simp,fun e he=>by simp at he;subst he;simp [gBack,gEdge];omega⟩,⟨[],by simp [gBack,gEdge],by simp⟩,by simp [gBack,gEdge],⟨[],by simp [gBack,gEdge],by simp⟩⟩
theorem join_le (p:Nat){g:Gr}(h:g.pt<g.pts)(hp:p<g.pts):g.le (gJoin p g) 1 :=
 ⟨by simp [gJoin,gEdge],by simp [gJoin,gEdge],⟨[⟨p,g.pts,6,false,nd0⟩,⟨g.pt,g.pts,6,false,nd0⟩],by simp [gJoin,gEdge],by simp,fun e he=>by simp at he;rcases he with rfl | rfl<;>simp [gJoin,gEdge]<;>omega⟩,⟨[],by simp [gJoin,gEdge],by simp⟩,by simp [gJoin,gEdge],⟨[],by simp [gJoin,gEdge],by simp⟩⟩
theorem loop_le (a n:Nd){g:Gr}(h:g.pt<g.pts):g.le (gLoop a n g) 1 :=
 ⟨by simp [gLoop],h,⟨[],by simp [gLoop],by simp,fun e he=>by cases he⟩,⟨_,rfl,by simp⟩,by simp [gLoop],⟨[],by simp [gLoop],by simp⟩⟩
theorem modify_app {α:Type}(l l':List α)(f:α→α):(l++l').modify l.length f=l++l'.modify 0 f:=by
 apply List.ext_getElem?
 intro j
 rw [List.getElem?_modify]
 rcases Nat.lt_or_ge j l.length with h | h
 ·rw [List.getElem?_append_left h,List.getElem?_append_left h]
  simp [show l.length≠j by omega]
 ·rw [List.getElem?_append_right h,List.getElem?_append_right h,List.getElem?_modify]
  by_cases hj:l.length=j
  ·simp [hj]
  ·simp [hj,show ¬ 0=j-l.length by omega]
theorem exit_le {g g':Gr}{k:Nat}(h:g.le g' k):g.le (gExit g.lps.length g') (k+1):=by
 obtain ⟨l,h1,h2⟩:=h.lps
 obtain ⟨e,h3,h4,h5⟩:=h.es
 obtain ⟨s,h6,h7⟩:=h.sts
 have:=h.pts
 have:=h.ver
 exact ⟨by simp only [gExit];omega,h.pt,⟨e,by simp only [gExit];exact h3,by omega,h5⟩,⟨l.modify 0 fun x=>{ x with x:=g'.pt },by simp only [gExit];rw [h1,modify_app],by simp;omega⟩,by simp only [gExit];omega,⟨s,by simp only [gExit];exact h6,by omega⟩⟩
abbrev bG (k:Nat):Nat:=6*k
theorem gL_le {l:List Nd}(h:∀ x,x∈l→∀ (a:Nd)(g:Gr),g.pt<g.pts→g.le (gS x a g) (bG (wN x))):∀ (a:Nd)(g:Gr),g.pt<g.pts→g.le (gL l a g) (bG (wL l)):=by
 induction l with
 | nil=>intro a g hp;exact (Gr.le.refl hp).up (by simp [wL])
 | cons x l ih =>
   intro a g hp
   rw [gL_cons]
   have h1:=h x (by simp) a g hp
   exact h1.trans (ih (fun y hy=>h y (by simp [hy])) x _ h1.pt) (by simp only [wL,bG];omega)
theorem if_le {c:Nd}{f1 f2:Gr→Gr}{k1 k2:Nat}(h1:∀ g:Gr,g.pt<g.pts→g.le (f1 g) k1)(h2:∀ g:Gr,g.pt<g.pts→g.le (f2 g) k2){g:Gr}(hp:g.pt<g.pts):g.le (gIf c f1 f2 g) (k1+k2+3):=by
 unfold gIf
 have a1:=way_le g.pt c true hp
 have a2:=h1 _ a1.pt
 have a12:=a1.trans a2 (Nat.le_refl _)
 have hp2:g.pt<(f1 (gWay g.pt c true g)).pts:=Nat.lt_of_lt_of_le hp a12.pts.1
 have a3:=way_le g.pt c false hp2
 have a4:=h2 _ a3.pt
 have a34:=a3.trans a4 (Nat.le_refl _)
 have hq:(f1 (gWay g.pt c true g)).pt<(f2 (gWay g.pt c false (f1 (gWay g.pt c true g)))).pts:=Nat.lt_of_lt_of_le a2.pt a34.pts.1
 exact (a12.trans a34 (Nat.le_refl _)).trans (join_le _ a4.pt hq) (by omega)
theorem wh_le {n a c:Nd}{f:Gr→Gr}{k:Nat}(h1:∀ g:Gr,g.pt<g.pts→g.le (f g) k){g:Gr}(hp:g.pt<g.pts):g.le (gWh n a c f g) (k+6):=by
 unfold gWh
 have a1:=leaf_le 6 nd0 hp
 have a2:=loop_le a n a1.pt
 have a12:=a1.trans a2 (Nat.le_refl _)
 have hh:g.pts<(gLoop a n (gLeaf 6 nd0 g)).pts:=by simp [gLoop,gLeaf]
 have a3:=way_le g.pts c true hh
 have a4:=h1 _ a3.pt
 have a34:=a3.trans a4 (Nat.le_refl _)
 have hh2:=Nat.lt_of_lt_of_le hh a34.pts.1
 have a5:=edge_le g.pts a4.pt hh2
 have hh3:=Nat.lt_of_lt_of_le hh2 a5.pts.1
 have a6:=way_le g.pts c false hh3
 exact (exit_le ((a12.trans a34 (Nat.le_refl _)).trans (a5.trans a6 (Nat.le_refl _)) (Nat.le_refl _))).up (by omega)
theorem PS_le {n:Nd}(h:PS n):∀ (a:Nd)(g:Gr),g.pt<g.pts→g.le (gS n a g) (bG (wN n)):=by
 induction h with
 | set s b h hb=>intro a g hp;rw [gS_set];exact (leaf_le _ _ hp).up (by simp only [wN,bG];omega)
 | put s b c h hb hc=>intro a g hp;rw [gS_put];exact (leaf_le _ _ hp).up (by simp only [wN,bG];omega)
 | read s h=>intro a g hp;rw [gS_read];exact (leaf_le _ _ hp).up (by simp only [wN,bG];omega)
 | ifs c l l' hc hl hl' ihl ihl'=>intro a g hp;rw [gS_if];exact (if_le (gL_le ihl nd0) (gL_le ihl' nd0) hp).up (by simp only [wN,wL,bG,List.length_nil];omega)
 | whil c l hc hl ihl=>intro a g hp;rw [gS_wh];exact (wh_le (gL_le ihl nd0) hp).up (by simp only [wN,wL,bG,List.length_nil];omega)
 | check c hc=>intro a g hp;rw [gS_check];exact (leaf_le _ _ hp).up (by simp only [wN,bG];omega)
 | skip=>intro a g hp;rw [gS_skip];exact (leaf_le _ _ hp).up (by simp only [wN,wL,bG,List.length_nil];omega)
 | stop=>intro a g hp;rw [gS_stop];exact (stop_le hp).up (by simp only [wN,wL,bG,List.length_nil];omega)
theorem PSL_le {l:List Nd}(h:∀ x,x∈l→PS x)(a:Nd)(g:Gr)(hp:g.pt<g.pts):g.le (gL l a g) (bG (wL l)):=gL_le (fun x hx=>PS_le (h x hx)) a g hp
end Go.V
namespace Go.V
open Go
section
variable {X:Cx}{B:Bx}{E E':Env}{S S':St}{w w':World}{F F':Frm}{a:Act}{N:Nat}{R:AE→St→Prop}{ops:Array Oper}{i:Nat}{o:Oper}{p q:Operand}
theorem tok_cur (hI:Inv X E S w){t v:Nat}{k:Tk}(hk:E.toks[t]?=some k)(hS:S.toks[t]?=some v):v=k.len:=by
 have h1:=hI.nt
 have h2:(E.toks.map Tk.len)[t]?=some k.len:=by simp [hk]
 rw [h1,hS] at h2
 exact Option.some.inj h2
theorem Inv.setZ (hI:Inv X E S w){tk:List Nat}(h:Inv X E' ⟨S.boxes,tk⟩ w')(hbx:E'.boxes=E.boxes)(hsame:∀ (i b s:Nat),E.boxes[i]?=some (some (b,s))→w'.heap[b]?=w.heap[b]?){b r j:Nat}{rows:List (List AV)}{cs:List AV}{z z':AV}
 (hb:S.boxes[b]?=some rows)(hr:rows[r]?=some cs)(hc:cs[j]?=some z)(hz:∀ u,Rel E w u z→Rel E' w' u z'):Inv X E' ⟨S.boxes.set b (rows.set r (cs.set j z')),tk⟩ w' :=
 { h with
   nb:=by have:=h.nb;simpa using this
   box:=fun i blk sz rows' h1 h2=>by
    rcases get_set h2 with ⟨rfl,rfl⟩ | ⟨_,h2⟩
    ·have h1o:=h1
     rw [hbx] at h1o
     obtain ⟨arr,e,hh,hs,hl,hrel⟩:=hI.box i blk sz rows h1o hb
     obtain ⟨arr1,e1,hh1,hs1,hl1,hrel1⟩:=h.box i blk sz rows h1 hb
     have:=hsame _ _ _ h1o
     rw [hh,hh1] at this
     cases this
     refine ⟨arr,e,hh1,by simpa using hs,fun q hq=>?_,fun k q p x v hk hp hv=>?_⟩
     ·rcases List.mem_or_eq_of_mem_set hq with hq | rfl
      ·exact hl q hq
      ·simpa using hl cs (List.mem_of_getElem? hr)
     ·rcases get_set hk with ⟨rfl,rfl⟩ | ⟨_,hk⟩
      ·rcases get_set hp with ⟨rfl,rfl⟩ | ⟨_,hp⟩
       ·exact hz v (hrel k cs p _ v hr hc hv)
       ·exact hrel1 k cs p x v hr hp hv
      ·exact hrel1 k q p x v hk hp hv
    ·exact h.box i blk sz rows' h1 h2 }
theorem Rel.mintP (hI:Inv X E S w){v:Value}(h:Rel E w v (.sl [] .tight)):Rel (E.mint 0) w v (.psl [] S.toks.length 0):=by
 have hl:S.toks.length=E.toks.length:=by rw [← hI.nt];simp
 cases h with
 | sl _ _ a n cap b o sz vals hn hx ha hsz hm hc hr hs hcap =>
   subst hn
   exact .psl [] _ 0 a _ cap ⟨0,none⟩ sz vals rfl hx hcap (by rw [hl];exact getElem?_snoc_new _ _) (Nat.le_refl _) (fun r hr=>by cases hr) (fun _=>⟨rfl,hs⟩) (fun i j r x h=>by simp at h) (fun r hr=>by cases hr)
theorem AK.mintP {K:List Item}(b r j:Nat){m:Nat}{rows:List (List AV)}{cs:List AV}{bx:List (List (List AV))}{tk:List Nat}(hk:AK X B K F ⟨bx,tk⟩ R)(hb:S.boxes[b]?=some rows:=by rfl)(hr:rows[r]?=some cs:=by rfl)
 (hc:cs[j]?=some (.sl [] .tight):=by rfl)(hn:S.toks.length=m:=by rfl)(hbx:S.boxes.set b (rows.set r (cs.set j (.psl [] m 0)))=bx:=by rfl)(htk:S.toks++[0]=tk:=by rfl):AK X B K F S R:=by
 subst hn;subst hbx;subst htk
 intro E w a b' cs' hI hF hn hm hb'
 have ev:=mint_ev E w 0
 have nt:E.toks.length=S.toks.length:=by rw [← hI.nt];simp
 exact Fin.from (Steps.refl _ _) (ev.weaken (by rw [hI.nb];exact hn) (by omega)) (hk (E.mint 0) w a b' cs' (hI.setZ (hI.mint 0) rfl (fun _ _ _ _=>rfl) hb hr hc fun u hu=>Rel.mintP hI hu) (hF.mint 0) (by simpa using hn) (by simp;omega) hb')
theorem Ndo.ixP {t e tk v n:Nat}{ik:IntKind}{y ye:Ty}{rows:List (List AV)}(hn:n<rows.length)(hS:S.toks[tk]?=some v)(hl:∀ r,r∈rows→r.length=ye.size)(ho:ops[i]?=some o:=by rfl)(hw:wantA ops F o=some true:=by rfl)
 (hop:o.op=.indexAddr t p q:=by rfl)(hp:opr X F p=some (.psl rows tk v):=by rfl)(hq:opr X F q=some (.val (.int ik n)):=by rfl)(hy:X.ty t=some y:=by rfl)(hyk:y.k=.slc e:=by rfl)(hye:X.ty e=some ye:=by rfl) :
 Ndo X N ops i o F (.pp rows tk v n 0) S S:=by
 refine Ndo.val ho hw fun F' E w a hc hI hF=>?_
 rw [hop] at hc
 have h1:=opr_sound hI hF ((hc p (by simp [Op.operands])).trans hp)
 have h2:=opr_sound hI hF ((hc q (by simp [Op.operands])).trans hq)
 obtain ⟨d,hdd,hd2⟩:=(X.ty_ok t y hy).agg
 simp only [hyk] at hd2
 obtain ⟨rfl,ye',hye',hne⟩:=hd2
 rw [hye] at hye';cases hye'
 cases hh2:a.eval q<;>rw [hh2] at h2<;>cases h2
 generalize hh1:a.eval p=u at h1
 have h1':=h1
 cases h1 with
 | psl _ _ _ ad m cap k sz vals hm hx hcap hk hv hsz hpv hr hf =>
   have hpv:=hpv (tok_cur hI hk hS)
   obtain ⟨kl,ksp⟩:=k
   cases ksp with
   | none=>obtain ⟨h,_⟩:=hpv;omega
   | some q' =>
     obtain ⟨b,c,s⟩:=q'
     obtain ⟨_,rfl,rfl,rfl,_⟩:=hpv
     refine ⟨.pointer (some ⟨b,n*ye.size,none⟩),?_,?_⟩
     ·have hin:(n:Int)<(m:Int):=by omega
      simp [execOp,hop,hh1,hh2,Instr.indexAt,asIntOf,run_underlying hdd,hin,sizeOf_run hye,addr_add]
      intro h;omega
     ·have:=Rel.pp (E:=E) (w:=w) rows tk v n 0 b ye.size m c h1' hn hl
      simpa using this
theorem Ndo.ldP {t tk v j o':Nat}{y:Ty}{r:List AV}{rows:List (List AV)}{x:AV}(hr:rows[j]?=some r)(hS:S.toks[tk]?=some v)(hl:o'+y.size≤r.length)(ho:ops[i]?=some o:=by rfl)(hw:wantA ops F o=some true:=by rfl)
 (hop:o.op=.load t p:=by rfl)(hp:opr X F p=some (.pp rows tk v j o'):=by rfl)(hy:X.ty t=some y:=by rfl)(hx:finA (isAggK y.k) ((r.drop o').take y.size)=some x:=by rfl):Ndo X N ops i o F x S S:=by
 refine Ndo.val ho hw fun F' E w a hc hI hF=>?_
 rw [hop] at hc
 have h1:=opr_sound hI hF ((hc p (by simp [Op.operands])).trans hp)
 obtain ⟨b,sz,n,cap,hu,hrel,hi,hsz⟩:=h1.pp_inv
 generalize hU:Value.slice (some ⟨b,0,none⟩) n cap=U at hrel
 cases hrel with
 | psl _ _ _ a0 n0 cap0 k sz' vals hm hx hcap hk hv hsz' hpv hrr hf =>
   cases hU
   have hpv:=hpv (tok_cur hI hk hS)
   obtain ⟨kl,ksp⟩:=k
   cases ksp with
   | none=>obtain ⟨h,_⟩:=hpv;omega
   | some q' =>
     obtain ⟨b',c,s⟩:=q'
     obtain ⟨_,rfl,rfl,hab,arr,e,hh,hcs,hcl⟩:=hpv
     simp only [Option.some.injEq,Addr.mk.injEq,and_true] at hab
     subst hab
     have hrl:=hsz r (List.mem_of_getElem? hr)
     have:sz'=sz:=by rw [← hsz' r (List.mem_of_getElem? hr),hrl]
     subst this
     have hcell:∀ jj,jj<y.size→w.cell? ⟨b,j*sz'+o'+jj,none⟩=some (vals j (o'+jj)):=fun jj hjj=>by
      have:=hcl j (o'+jj) (by omega) (by omega)
      rw [← Nat.add_assoc] at this
      simp only [World.cell?,hh]
      exact this
     refine ⟨_,by simp [execOp,hop,hu,Instr.loadAt,Instr.sureAddr,loadVar_run hy _ hcell],fin_rel (y:=y) (vals:=fun jj=>vals j (o'+jj)) (cs:=(r.drop o').take y.size) (by simp;omega) (fun jj x hx=>?_) ‹_›⟩
     have hj:jj<y.size:=by have:=lt_of_get hx;simp at this;omega
     exact hrr j (o'+jj) r x hr (by simpa [List.getElem?_take,hj] using hx)
end
section
variable {X:Cx}{B:Bx}{E E':Env}{S S':St}{w w':World}{F F':Frm}{a:Act}{N:Nat}{R:AE→St→Prop}{ops:Array Oper}{i:Nat}{o:Oper}{p q:Operand}
theorem Ndo.stP {t tk v j o' b r g:Nat}{y:Ty}{x:AV}{xs row cs:List AV}{rows brows:List (List AV)}{bx:List (List (List AV))}{tk':List Nat}(hS:S.toks[tk]?=some v)(hrow:rows[j]?=some row)(hl:o'+xs.length≤row.length)
 (hflat:∀ z,z∈xs→Flat z)(hb:S.boxes[b]?=some brows)(hr:brows[r]?=some cs)(hg:cs[g]?=some (.psl rows tk v))
 (hbx:S.boxes.set b (brows.set r (cs.set g (.psl (rows.set j (row.take o'++xs++row.drop (o'+xs.length))) tk (v+1))))=bx)(htk:S.toks.set tk (v+1)=tk')(ho:ops[i]?=some o)(hw:wantA ops F o=some true)
 (hop:o.op=.store t p q)(hp:opr X F p=some (.pp rows tk v j o'))(hq:opr X F q=some x)(hy:X.ty t=some y)(hxs:cellsOf x=some xs)(hxl:xs.length=y.size):Ndo X N ops i o F .junk S ⟨bx,tk'⟩:=by
 subst hbx;subst htk
 intro F' E w a hlk hI hF
 have hlo:=looks_of hlk
 rw [hop] at hlo
 have r1:=opr_sound hI hF ((opr_congr (X:=X) (F:=F) (F':=F') (o:=p) fun s hs=>hlo s (by simp [Op.operands,hs])).trans hp)
 have r2:=opr_sound hI hF ((opr_congr (X:=X) (F:=F) (F':=F') (o:=q) fun s hs=>hlo s (by simp [Op.operands,hs])).trans hq)
 generalize hva:a.eval q=u2 at r2
 obtain ⟨blk,sz,n,cap,hu,hrel,hi,hsz⟩:=r1.pp_inv
 obtain ⟨hs,hrx,hone⟩:=cellsOf_sound r2 hxs
 generalize hU:Value.slice (some ⟨blk,0,none⟩) n cap=U at hrel
 have hrel0:=hrel
 cases hrel with
 | psl _ _ _ a0 n0 cap0 k sz' vals hm hx hcap hk hv hsz' hpv hrr hf =>
   cases hU
   have hcur:=tok_cur hI hk hS
   have hpv:=hpv hcur
   obtain ⟨kl,ksp⟩:=k
   cases ksp with
   | none=>obtain ⟨h,_⟩:=hpv;omega
   | some q' =>
     obtain ⟨b',c,s⟩:=q'
     obtain ⟨hn0,rfl,rfl,hab,arr,e,hh,hcs,hcl⟩:=hpv
     simp only [Option.some.injEq,Addr.mk.injEq,and_true] at hab
     subst hab
     have hrl:=hsz row (List.mem_of_getElem? hrow)
     have:sz'=sz:=by rw [← hsz' row (List.mem_of_getElem? hrow),hrl]
     subst this
     simp only at hcur
     subst hcur
     have hjl:=lt_of_get hrow
     have hvl:u2.cells.toList.length=xs.length:=by simpa using hs
     have hin:j*sz'+o'+xs.length≤arr.toList.length:=by
      have:(j+1)*sz'≤c*sz':=Nat.mul_le_mul_right sz' (by omega)
      rw [Nat.add_mul,Nat.one_mul] at this
      simp;omega
     have hst:=run_storeCells_at X.P blk (j*sz'+o') e u2.cells.toList 0 arr w hh (by simp at hin ⊢;omega) (fun u hu=>hone u (by simpa using hu))
     simp only [Nat.add_zero] at hst
     generalize harr:(arr.toList.take (j*sz'+o')++u2.cells.toList++arr.toList.drop (j*sz'+o'+u2.cells.toList.length)).toArray=arr' at hst
     have hasz:arr'.size=arr.size:=by
      subst harr
      have:=splice_len arr.toList u2.cells.toList (j*sz'+o') (by omega)
      rw [List.size_toArray,this];simp
     have hat:=setRow_heap w blk arr arr' e _ hh
     have hoth:∀ q,q≠blk→(w.setRow blk arr').heap[q]?=w.heap[q]?:=fun q hq=>setRow_other w blk q _ (by omega)
     have hbw:blk<w.heap.size:=hI.own_lt (.inr ⟨tk,_,c,0,hk⟩)
     obtain ⟨ev,hI',_⟩:=tok_step (w':=w.setRow blk arr') hI (t:=tk) (n:=v) (m:=v+1) (b:=blk) (c:=c) (sz:=0) hk rfl (by omega) (fun h=>absurd rfl h) rfl rfl rfl (by simp) (fun q _ hq=>hoth q hq) (.inr rfl) (by simpa using hbw)
      (fun o v ho h=>by omega) ⟨_,_,hat,fun h=>absurd rfl h⟩ (fun q e he=>typeAt_same (fun h=>by subst h;exact ⟨_,_,_,_,hh,hat⟩) (hoth q) he)
     have hsz2:u2.cells.size=y.size:=by omega
     refine Does.val (v:=undef) ho (wanted_of hF (by rw [wantA_congr hlk];exact hw)) (by simp [execOp,hop,hu,hva,Instr.storeAt,Instr.sureAddr,storeVar,sizeOf_run hy,hsz2,hst]) (.inr ⟨rfl,rfl⟩)
      ⟨E.setTok tk ⟨v+1,some (blk,c,0)⟩,?_,ev,.junk _⟩
     refine hI.setZ hI' rfl (fun i b s h=>hoth b fun hb'=>hI.bt i tk b s v c 0 h (hb'▸hk)) hb hr hg fun u0 hu0=>?_
     have hu0':=hu0
     cases hu0 with
     | psl _ _ _ a1 n1 cap1 k1 sz1 vals1 hm1 hx1 hcap1 hk1 hv1 hsz1 hpv1 hrr1 hf1 =>
       rw [hk] at hk1;cases hk1
       obtain ⟨_,_,rfl,rfl,arr1,e1,hh1,hcs1,hcl1⟩:=hpv1 rfl
       rw [hh] at hh1;cases hh1
       have:sz1=sz':=by rw [← hsz1 row (List.mem_of_getElem? hrow),hrl]
       subst this
       have hrowlen:(row.take o'++xs++row.drop (o'+xs.length)).length=sz1:=by rw [splice_len row xs o' hl,hrl]
       have hget:∀ i' j',i'<n1→j'<sz1→i'*sz1+j'<arr'.size:=fun i' j' hi' hj'=>by
        have h1:=row_in (n:=n1) hi' hj'
        have h2:n1*sz1≤c*sz1:=Nat.mul_le_mul_right _ (by omega)
        omega
       refine .psl _ tk (v+1) _ n1 c ⟨v+1,some (blk,c,0)⟩ sz1 (fun i' j'=>arr'.getD (i'*sz1+j') default) (by simpa using hm1) hx1 hcap1 (by simp [Env.setTok,lt_of_get hk]) (Nat.le_refl _) (fun r' hr'=>?_)
        (fun _=>⟨by omega,rfl,rfl,rfl,arr',e,hat,by rw [hasz];exact hcs,fun i' j' hi' hj'=>by simp [Array.getD,hget i' j' hi' hj']⟩) (fun i' j' r' x' hi' hj'=>?_) (fun r' hr' z hz=>?_)
       ·rcases List.mem_or_eq_of_mem_set hr' with h | rfl
        ·exact hsz1 r' h
        ·exact hrowlen
       ·have hil:i'<rows.length:=by have:=lt_of_get hi';simpa using this
        have hjl':j'<sz1:=by
         have:=lt_of_get hj'
         rcases get_set hi' with ⟨_,rfl⟩ | ⟨_,h⟩
         ·omega
         ·have:=hsz1 r' (List.mem_of_getElem? h);omega
        have hlt:=hget i' j' (by omega) hjl'
        have hval:arr'.getD (i'*sz1+j') default=arr'[i'*sz1+j']:=by simp [Array.getD,hlt]
        rw [hval]
        have hu':(arr.toList.take (j*sz1+o')++u2.cells.toList++arr.toList.drop (j*sz1+o'+u2.cells.toList.length))[i'*sz1+j']?=some arr'[i'*sz1+j']:=by
         rw [← List.getElem?_toArray,harr];simp [hlt]
        rw [splice_get _ _ _ _ (by omega)] at hu'
        have hold:∀ (r0:List AV),rows[i']?=some r0→r0[j']?=some x'→arr.toList[i'*sz1+j']?=some arr'[i'*sz1+j']→Rel (E.setTok tk ⟨v+1,some (blk,c,0)⟩) (w.setRow blk arr') arr'[i'*sz1+j'] x':=fun r0 h1 h2 h3=>by
         have h4:=hcl1 i' j' (by omega) hjl'
         rw [Array.getElem?_toList,h4] at h3
         rw [← Option.some.inj h3]
         exact (hrr1 i' j' r0 x' h1 h2).step ev
        rcases get_set hi' with ⟨rfl,rfl⟩ | ⟨hne,h⟩
        ·rw [splice_get _ _ _ _ hl] at hj'
         split at hj'
         ·rename_i hjj
          rw [if_pos (by omega),show i'*sz1+j'-(i'*sz1+o')=j'-o' by omega] at hu'
          exact (hrx (j'-o') _ x' (by simpa using hu') hj').step ev
         ·rename_i hjj
          rw [if_neg (by omega)] at hu'
          exact hold row hrow hj' hu'
        ·have:=row_apart hjl' hne
         rw [if_neg (by omega)] at hu'
         exact hold r' h hj' hu'
       ·rcases List.mem_or_eq_of_mem_set hr' with h | rfl
        ·exact hf1 r' h z hz
        ·rcases List.mem_append.1 hz with hz | hz
         ·rcases List.mem_append.1 hz with hz | hz
          ·exact hf1 row (List.mem_of_getElem? hrow) z (List.mem_of_mem_take hz)
          ·exact hflat z hz
         ·exact hf1 row (List.mem_of_getElem? hrow) z (List.mem_of_mem_drop hz)
end
section
variable {X:Cx}{B:Bx}{E E':Env}{S S':St}{w w':World}{F F':Frm}{a:Act}{N:Nat}{R:AE→St→Prop}{ops:Array Oper}{i:Nat}{o:Oper}{p q:Operand}
theorem appendP_sound (hI:Inv X E S w){t ver:Nat}{tt tx ty e e':TypeId}{ye:Ty}(hu:X.P.underlying tt=some (.slice e))(hk:X.P.underlying tx=some (.slice e'))(hye:X.ty e=some ye)(hne0:ye.size≠0)
 {rows new:List (List AV)}{sp:Sp}{u v:Value}(hp:Rel E w u (.psl rows t ver))(hq:Rel E w v (.sl new sp))(hS:S.toks[t]?=some ver)(hflat:∀ r,r∈new→∀ x,x∈r→Flat x)
 (hz:∀ r,r∈rows→r.length=ye.size)(hz':∀ r,r∈new→r.length=ye.size)(hc:∀ r,r∈new→∀ x,x∈r→cellish x=true)(hne:new≠[])(hb:rows.length+new.length≤100000000000) :
 ∃ r E' w',(Builtin.append_ #[tt,tx] ty #[u,v]).run X.P w=.ok r w'∧Inv X E' ⟨S.boxes,S.toks.set t (ver+1)⟩ w'∧Evol E w E' w' E.boxes.length E.toks.length ∧
  Rel E' w' r (.psl (rows++new) t (ver+1)):=by
 obtain ⟨i,z,hi,hsz,hby,hzv,hzc,hzl,_⟩:=(X.ty_ok e ye hye).info
 have hnew:0<new.length:=List.length_pos_iff.2 hne
 obtain ⟨vals2,hsrc,hr2⟩:=src_of hk hq hz' hc hne
 rw [← hsz] at hsrc
 generalize hR:rows=rows0 at hp
 cases hp with
 | psl _ _ _ a n cap k sz vals hn hx hcap hk1 hv hszr hpv hr hf =>
 subst hR
 subst hn
 have hcur:=tok_cur hI hk1 hS
 have hpv:=hpv hcur
 have hkt:=lt_of_get hk1
 have hvals:∀ (vals':Nat→Nat→Value),(∀ i j,i<rows.length→vals' i j=vals i j)→(∀ i j,rows.length≤i→vals' i j=vals2 (i-rows.length) j)→∀ {E':Env} {w':World},Evol E w E' w' E.boxes.length E.toks.length →
  ∀ (i j:Nat) (r:List AV) (x:AV),(rows++new)[i]?=some r→r[j]?=some x→Rel E' w' (vals' i j) x:=fun vals' h1 h2 {E' w'} ev i j r x hi hj=>by
  rcases Nat.lt_or_ge i rows.length with h | h
  ·rw [List.getElem?_append_left h] at hi
   rw [h1 i j h];exact (hr i j r x hi hj).step ev
  ·rw [List.getElem?_append_right h] at hi
   rw [h2 i j h];exact (hr2 _ j r x hi hj).step ev
 have hall:∀ r,r∈rows++new→r.length=ye.size:=fun r h=>by
  rcases List.mem_append.1 h with h | h
  ·exact hz r h
  ·exact hz' r h
 have hfl':∀ r,r∈rows++new→∀ x,x∈r→Flat x:=fun r h x hx'=>by
  rcases List.mem_append.1 h with h | h
  ·exact hf r h x hx'
  ·exact hflat r h x hx'
 have hlen:(rows++new).length=rows.length+new.length:=by simp
 have hszeq:rows.length≠0→sz=i.size:=fun h=>by
  obtain ⟨r0,hr0⟩:=lget_of_lt rows (i:=0) (by omega)
  rw [← hszr r0 (List.mem_of_getElem? hr0),hz r0 (List.mem_of_getElem? hr0),hsz]
 have grow:cap<rows.length+new.length→∃ r E' w',(Builtin.append_ #[tt,tx] ty #[.slice a rows.length cap,v]).run X.P w=.ok r w'∧Inv X E' ⟨S.boxes,S.toks.set t (ver+1)⟩ w'∧Evol E w E' w' E.boxes.length E.toks.length ∧
  Rel E' w' r (.psl (rows++new) t (ver+1)):=fun hg=>by
  have hold:(Builtin.firstCells i.size rows.length (.slice a rows.length cap)).run X.P w.drew=.ok (flatv rows.length i.size vals).toArray w.drew:=by
   rcases Nat.eq_zero_or_pos rows.length with h0 | h0
   ·rw [h0]
    have:flatv 0 i.size vals=[]:=by simp [flatv]
    rw [this]
    cases a with
    | none=>exact run_firstCells_none _ _ _ _ _
    | some a0=>exact run_firstCells_some _ _ _ _ _ _ _ (by simp) (fun j v hj=>by simp at hj)
   ·have hs':=hszeq (by omega)
    subst hs'
    obtain ⟨kl,ksp⟩:=k
    cases ksp with
    | none=>obtain ⟨h,_⟩:=hpv;omega
    | some q' =>
      obtain ⟨b,c,s⟩:=q'
      obtain ⟨_,rfl,rfl,rfl,arr,e1,hh,hcs,hcl⟩:=hpv
      refine run_firstCells_some _ _ _ _ _ _ _ (flatv_len _ _ _) (fun q v hq=>?_)
      obtain ⟨i',j',hi',hj',rfl,he⟩:=flatv_at (vals:=vals) (by have:=lt_of_get hq;rw [flatv_len] at this;exact this)
      rw [he] at hq;cases hq
      rw [addr_add,Nat.zero_add]
      have:=hcl i' j' hi' hj'
      have hdr:w.drew.heap[b]?=w.heap[b]?:=rfl
      simp only [World.cell?,hdr,hh]
      exact this
  have hby':(rows.length+new.length)*i.bytes≤140737488355328:=Nat.le_trans (Nat.mul_le_mul_left _ hby) (by omega)
  have hrun:=run_append_grow_src w tt tx ty e i z hu hi hzv a rows.length cap _ hold v new.length _ hsrc hg (by omega) (growslice_fits hg hby')
  have hcc:=grownCap_ge w (rows.length+new.length) cap e
  generalize grownCap w (rows.length+new.length) cap e=cc at hrun hcc
  have hfl:∀ (i' j':Nat),i'<rows.length+new.length→j'<ye.size→(flatv rows.length i.size vals++flatv new.length i.size vals2)[i'*ye.size+j']?=some (if i'<rows.length then vals i' j' else vals2 (i'-rows.length) j'):=fun i' j' hi' hj'=>by
   rw [hsz]
   by_cases h:i'<rows.length
   ·have:=row_in h hj'
    rw [List.getElem?_append_left (by rw [flatv_len];exact this),if_pos h]
    exact flatv_get h hj'
   ·have hle:rows.length*ye.size≤i'*ye.size:=Nat.mul_le_mul_right _ (by omega)
    rw [List.getElem?_append_right (by rw [flatv_len];omega),if_neg h,flatv_len]
    rw [show i'*ye.size+j'-rows.length*ye.size=(i'-rows.length)*ye.size+j' by rw [Nat.sub_mul];omega]
    exact flatv_get (by omega) hj'
  have hcs:((flatv rows.length i.size vals++flatv new.length i.size vals2).toArray++Builtin.zeroCells z.cells (cc-(rows.length+new.length))).size=cc*ye.size:=by
   have hzs:z.cells.size=ye.size:=by rw [← hzl,← hzc];simp
   have:(Builtin.zeroCells z.cells (cc-(rows.length+new.length))).size=(cc-(rows.length+new.length))*ye.size:=by
    simp [Builtin.zeroCells,hzs]
   rw [Array.size_append,this,List.size_toArray,List.length_append,flatv_len,flatv_len,hsz,← Nat.add_mul,← Nat.add_mul]
   congr 1;omega
  have hpush:∀ o:Obj,(w.drew.alloc o).heap=w.heap.push o:=fun _=>rfl
  have hheap:(w.drew.alloc (.cells ((flatv rows.length i.size vals++flatv new.length i.size vals2).toArray++Builtin.zeroCells z.cells (cc-(rows.length+new.length))) e)).heap[w.heap.size]? =
   some (.cells ((flatv rows.length i.size vals++flatv new.length i.size vals2).toArray++Builtin.zeroCells z.cells (cc-(rows.length+new.length))) e (0,0)):=by rw [hpush];simp
  obtain ⟨ev,hI',_⟩:=tok_step (w':=w.drew.alloc (.cells ((flatv rows.length i.size vals++flatv new.length i.size vals2).toArray++Builtin.zeroCells z.cells (cc-(rows.length+new.length))) e)) hI (t:=t) (n:=ver) (m:=ver+1)
   (b:=w.heap.size) (c:=cc) (sz:=0) hk1 hcur.symm (by omega) (fun h=>absurd rfl h) rfl rfl rfl (by rw [hpush];simp) (fun q hq _=>by rw [hpush,Array.getElem?_push_lt hq];simp [hq]) (.inl rfl) (by rw [hpush];simp)
   (fun o v _ h=>by have:=cell_lt h;omega) ⟨_,e,hheap,fun h=>absurd rfl h⟩ (Evol.push (E:=E) (w:=w) ⟨_,hpush _⟩ rfl rfl rfl 0 0).ty
  refine ⟨_,_,_,hrun,hI',ev,?_⟩
  refine .psl (rows++new) t (ver+1) _ _ cc ⟨ver+1,some (w.heap.size,cc,0)⟩ ye.size (fun i j=>if i<rows.length then vals i j else vals2 (i-rows.length) j) hlen (by unfold maxN;omega) hcc (by simp [Env.setTok,hkt]) (Nat.le_refl _) hall
   (fun _=>⟨by omega,rfl,rfl,rfl,_,e,hheap,hcs,fun i' j' hi' hj'=>?_⟩) (hvals _ (fun i' j' h=>if_pos h) (fun i' j' h=>if_neg (by omega)) ev) hfl'
  have h:=hfl i' j' hi' hj'
  have hlt:=lt_of_get h
  rw [Array.getElem?_append_left (by simpa using hlt),List.getElem?_toArray]
  exact h
 by_cases hg:cap<rows.length+new.length
 ·exact grow hg
 ·obtain ⟨kl,ksp⟩:=k
  cases ksp with
  | none=>obtain ⟨h1,h2⟩:=hpv;omega
  | some q =>
    obtain ⟨b',c',s'⟩:=q
    obtain ⟨hn0,rfl,rfl,rfl,cur,te,hh,hcs,hcl⟩:=hpv
    have hs':=hszeq hn0
    subst hs'
    simp only at hcur
    subst hcur
    have hsub:(rows.length+new.length)*i.size≤c'*i.size:=Nat.mul_le_mul_right _ (by omega)
    rw [Nat.add_mul] at hsub
    have hfit:rows.length*i.size+(flatv new.length i.size vals2).length≤cur.size:=by rw [flatv_len,hcs];exact hsub
    have hrun:=run_append_at tt tx ty e i hu hi b' rows.length c' v new.length _ hsrc (by omega) hh hfit
    have hfl:=flatv_len new.length i.size vals2
    have hat:=setRow_heap w b' cur (cur.toList.take (rows.length*i.size)++flatv new.length i.size vals2++cur.toList.drop (rows.length*i.size+(flatv new.length i.size vals2).length)).toArray te _ hh
    have hoth:∀ q,q≠b'→(w.setRow b' (cur.toList.take (rows.length*i.size)++flatv new.length i.size vals2++cur.toList.drop (rows.length*i.size+(flatv new.length i.size vals2).length)).toArray).heap[q]?=w.heap[q]? :=
     fun q hq=>setRow_other w b' q _ (by omega)
    have hspl:=fun q=>splice_get cur.toList (flatv new.length i.size vals2) (rows.length*i.size) q (by simpa using hfit)
    have hbw:b'<w.heap.size:=hI.own_lt (.inr ⟨t,_,c',0,hk1⟩)
    obtain ⟨ev,hI',_⟩:=tok_step (w':=w.setRow b' (cur.toList.take (rows.length*i.size)++flatv new.length i.size vals2++cur.toList.drop (rows.length*i.size+(flatv new.length i.size vals2).length)).toArray) hI (t:=t) (n:=ver) (m:=ver+1)
     (b:=b') (c:=c') (sz:=0) hk1 rfl (by omega) (fun h=>absurd rfl h) rfl rfl rfl (by simp) (fun q _ hq=>hoth q hq) (.inr rfl) (by simpa using hbw)
     (fun o v ho h=>by omega) ⟨_,_,hat,fun h=>absurd rfl h⟩ (fun q e he=>typeAt_same (fun h=>by subst h;exact ⟨_,_,_,_,hh,hat⟩) (hoth q) he)
    refine ⟨_,_,_,hrun,hI',ev,?_⟩
    have hnm:∀ i' j',i'<rows.length+new.length→j'<i.size→i'*i.size+j'<(rows.length+new.length)*i.size:=fun i' j' hi' hj'=>row_in hi' hj'
    refine .psl (rows++new) t (ver+1) _ _ c' ⟨ver+1,some (b',c',0)⟩ i.size (fun i j=>if i<rows.length then vals i j else vals2 (i-rows.length) j) hlen (by unfold maxN;omega) (by omega) (by simp [Env.setTok,hkt]) (Nat.le_refl _) (fun r hr=>by rw [hall r hr,hsz])
     (fun _=>⟨by omega,rfl,rfl,rfl,_,te,hat,by rw [List.size_toArray,splice_len _ _ _ (by simpa using hfit)];simpa using hcs,fun i' j' hi' hj'=>?_⟩) (hvals _ (fun i' j' h=>if_pos h) (fun i' j' h=>if_neg (by omega)) ev) hfl'
    rw [List.getElem?_toArray,hspl]
    have h4:=hnm i' j' hi' hj'
    rw [Nat.add_mul] at h4
    by_cases h:i'<rows.length
    ·have h5:=row_in h hj'
     dsimp only
     rw [if_neg (by omega),if_pos h,Array.getElem?_toList]
     exact hcl i' j' h hj'
    ·have hle:rows.length*i.size≤i'*i.size:=Nat.mul_le_mul_right _ (by omega)
     dsimp only
     rw [if_pos ⟨by omega,by omega⟩,if_neg h]
     rw [show i'*i.size+j'-rows.length*i.size=(i'-rows.length)*i.size+j' by rw [Nat.sub_mul];omega]
     exact flatv_get (by omega) hj'
theorem Ndo.appP {c:Call}{t ver tt tx e e':Nat}{y yx ye:Ty}{rows new:List (List AV)}{sp:Sp}{res:List (List AV)}{tk:List Nat}(hS:S.toks[t]?=some ver)(hl:∀ r,r∈rows→r.length=ye.size)(hflat:∀ r,r∈new→∀ x,x∈r→Flat x)
 (hb:rows.length+new.length≤100000000000)(hres:rows++new=res)(htk:S.toks.set t (ver+1)=tk)(ho:ops[i]?=some o)(hw:wantA ops F o=some true)(hop:o.op=.call c)(hcal:c.callee=.builtin .append)(hargs:c.args.toList=[p,q])(htys:c.argTypes.toList=[tt,tx])
 (hp:opr X F p=some (.psl rows t ver))(hq:opr X F q=some (.sl new sp))(hy:X.ty tt=some y)(hyk:y.k=.slc e)(hye:X.ty e=some ye)(hyx:X.ty tx=some yx)(hyxk:yx.k=.slc e')
 (hl':allLen ye.size new=true)(hc:allCellR new=true)(hne:Nat.ble 1 new.length=true):Ndo X N ops i o F (.psl res t (ver+1)) S ⟨S.boxes,tk⟩:=by
 subst hres;subst htk
 intro F' E w a hlk hI hF
 obtain ⟨callee,args,argTypes⟩:=c
 simp only at hcal hargs htys
 subst hcal
 have ha:args=#[p,q]:=by rw [← Array.toList_inj];exact hargs
 have ht:argTypes=#[tt,tx]:=by rw [← Array.toList_inj];exact htys
 subst ha;subst ht
 have hlo:=looks_of hlk
 rw [hop] at hlo
 have r1:=opr_sound hI hF ((opr_congr (X:=X) (F:=F) (F':=F') (o:=p) fun s hs=>hlo s (by simp [Op.operands,Call.operands,hs])).trans hp)
 have r2:=opr_sound hI hF ((opr_congr (X:=X) (F:=F) (F':=F') (o:=q) fun s hs=>hlo s (by simp [Op.operands,Call.operands,hs])).trans hq)
 obtain ⟨d1,hd1,hk1⟩:=(X.ty_ok tt y hy).agg
 simp only [hyk] at hk1
 obtain ⟨rfl,ye',hye',hne0⟩:=hk1
 rw [hye] at hye';cases hye'
 obtain ⟨d2,hd2,hk2⟩:=(X.ty_ok tx yx hyx).agg
 simp only [hyxk] at hk2
 obtain ⟨rfl,_⟩:=hk2
 obtain ⟨v,E',w',h1,h2,h3,h4⟩:=appendP_sound hI (ty:=o.type) hd1 hd2 hye hne0 r1 r2 hS hflat hl (allLen_eq.1 hl') (allCellR_eq.1 hc) (fun h=>by rw [h] at hne;simp at hne) hb
 exact Does.val ho (wanted_of hF (by rw [wantA_congr hlk];exact hw)) (by simp [execOp,hop,resolve,invoke,builtin,h1]) (.inl rfl) ⟨E',h2,h3,h4⟩
class TokC (tk:List Nat)(t v:Nat):Prop where
 h:tk[t]?=some v
instance {v:Nat}{l:List Nat}:TokC (v::l) 0 v:=⟨rfl⟩
instance {x v t:Nat}{l:List Nat} [h:TokC l t v]:TokC (x::l) (t+1) v:=⟨by simpa using h.h⟩
instance {bx:List (List (List AV))}{tk:List Nat}{n m t v:Nat}{rows:List (List AV)} [h1:TokC tk t v] [h2:LeC m t]:FzC ⟨bx,tk⟩ n m (.psl rows t v) (.sl rows .no):=⟨.psl rows t v h2.h h1.h⟩
end
end Go.V
namespace Go.V
open Go Go.Proofs
def erow (e:Eg):List AV:=vi e.f::vi e.t::vi e.k::vb e.y::ncells e.n
def erows (l:List Eg):List (List AV):=l.map erow
theorem erows_len (l:List Eg):(erows l).length=l.length:=by simp [erows]
theorem erows_sz (l:List Eg):∀ r,r∈erows l→r.length=8:=fun r h=>by obtain ⟨e,_,rfl⟩:=List.mem_map.1 h;rfl
theorem erows_snoc (l:List Eg)(e:Eg):erows l++[erow e]=erows (l++[e]):=by simp [erows]
theorem ncells_flat (n:Nd):∀ x,x∈ncells n→Flat x:=fun x hx=>by
 have h:OKL 0 0 (ncells n):=inferInstance
 exact (h.ok x hx).flat rfl rfl
theorem erow_flat (e:Eg):∀ x,x∈erow e→Flat x:=fun x hx=>by
 simp only [erow,List.mem_cons] at hx
 rcases hx with rfl | rfl | rfl | rfl | hx
 ·exact .val _
 ·exact .val _
 ·exact .val _
 ·exact .val _
 ·exact ncells_flat _ x hx
theorem erow1_flat (e:Eg):∀ r,r∈[erow e]→∀ x,x∈r→Flat x:=fun r hr x hx=>by simp at hr;subst hr;exact erow_flat e x hx
instance {n m:Nat}{l:List Eg}:OKR n m (erows l):=⟨fun r hr x hx=>by obtain ⟨e,_,rfl⟩:=List.mem_map.1 hr;exact (erow_flat e x hx).ok⟩
abbrev mbx (p:Nat)(l:List Eg):List (List AV):=[[vi p,.psl (erows l) 0 l.length]]
theorem g_point (p:Nat)(l:List Eg)(h:p≤1000000000000):Hands X 136 [.ptr 0 0 0] ⟨[mbx p l],[l.length]⟩ (vi p) ⟨[mbx (p+1) l],[l.length]⟩:=by
 refine Hands.run Tryz.func136 ?_
 have e1:IntKind.i64.wrap ((p:Int)+1)=((p+1:Nat):Int):=(wrap_small (by omega) (by omega)).trans (by omega)
 have e2:IntKind.i64.wrap (IntKind.i64.wrap ((p:Int)+1)-1)=(p:Int):=by rw [e1];exact (wrap_small (by omega) (by omega)).trans (by omega)
 refine AK.as_ 2 (vi p) ?_ (vint e2)
 refine AK.sto ⟨[mbx (p+1) l],[l.length]⟩ ?_ (by rw [mbx,← e1])
 exact AK.rb Tryz.func136 rfl rfl
theorem g_edge (p:Nat)(l:List Eg)(e:Eg)(hw:wN e.n≤1000000000)(hl:l.length≤1000000000) :
 Hands X 137 [.ptr 0 0 0,vi e.f,vi e.t,vi e.k,vb e.y,.agg (ncells e.n)] ⟨[mbx p l],[l.length]⟩ (.tup []) ⟨[mbx p (l++[e])],[(l++[e]).length]⟩:=by
 refine Hands.run Tryz.func137 ?_
 refine AK.db 73728 ?_
 refine Drv.pg (p_copy e.n hw) ?_
 refine Drv.w (Ndo.appP (ver:=l.length) rfl (erows_sz l) (erow1_flat e) ?_ (erows_snoc l e) rfl rfl rfl rfl rfl rfl rfl rfl rfl rfl rfl rfl rfl rfl rfl rfl rfl) ?_
 ·rw [erows_len];simp;omega
 refine Drv.e ?_
 refine Drv.e ?_
 refine Drv.w (Ndo.store rfl rfl rfl rfl rfl rfl rfl) ?_
 refine Drv.z ?_
 refine AK.sto ⟨[mbx p (l++[e]),[ncells e.n]],[(l++[e]).length]⟩ ?_ (by simp)
 exact AK.fb Tryz.func137 rfl rfl
structure Gb (g:Gr)(k:Nat):Prop where
 pt:g.pt<g.pts
 pts:g.pts+24*k≤100000000000
 es:g.es.length+24*k≤1000000000
theorem Gb.step {g g':Gr}{j k m:Nat}(h:Gb g m)(hl:g.le g' (bG j))(hm:j+k≤m):Gb g' k:=by
 obtain ⟨l,h1,h2,_⟩:=hl.es
 have:=hl.pts
 have:=h.pts
 have:=h.es
 simp only [bG] at h2 this
 refine ⟨hl.pt,?_,?_⟩
 ·have:=hl.pts.2;simp only [bG] at this;omega
 ·rw [h1,List.length_append];omega
theorem Gb.step1 {g g':Gr}{j k m:Nat}(h:Gb g m)(hl:g.le g' j)(hj:j≤6*m)(hm:j+6*k≤6*m):Gb g' k:=by
 obtain ⟨l,h1,h2,_⟩:=hl.es
 have:=hl.pts
 have:=h.pts
 have:=h.es
 refine ⟨hl.pt,by omega,?_⟩
 rw [h1,List.length_append];omega
abbrev gSt (g:Gr):St:=⟨[mbx g.pts g.es],[g.es.length]⟩
def HSt (n:Nd):Prop:=∀ (a:Nd)(g:Gr),Gb g (wN n)→Hands X 179 [.ptr 0 0 0,nd n,vi g.pt] (gSt g) (vi (gS n a g).pt) (gSt (gS n a g))
def HLs (l:List Nd):Prop:=∀ (a:Nd)(g:Gr),Gb g (wL l)→Hands X 135 [.ptr 0 0 0,nd (.mk 30 [] 0 l),vi g.pt] (gSt g) (vi (gL l a g).pt) (gSt (gL l a g))
theorem gL_take {l:List Nd}{i:Nat}{x:Nd}(hx:l[i]?=some x)(a:Nd)(g:Gr):gL (l.take (i+1)) a g=gS x ((l.take i).getLastD a) (gL (l.take i) a g):=by
 rw [List.take_add_one,hx]
 simp only [Option.toList_some]
 rw [gL_app];rfl
theorem wL_take {l:List Nd}{i:Nat}{x:Nd}(hx:l[i]?=some x):wL (l.take i)+wN x≤wL l:=by
 have h:l.take (i+1)=l.take i++[x]:=by rw [List.take_add_one,hx];rfl
 have h1:wL (l.take (i+1))+wL (l.drop (i+1))=wL l:=by rw [← wL_app,List.take_append_drop]
 rw [h,wL_app] at h1
 simp only [wL] at h1;omega
theorem g_list {l:List Nd}(hp:∀ x,x∈l→PS x)(hs:∀ x,x∈l→HSt x):HLs l:=by
 intro a g hb
 have hlw:=len_le_wL l
 have hbe:=hb.es
 refine Hands.run Tryz.func135 ?_
 refine AK.while_ (ι:=Nat) 2 1 (fun i=>i≤l.length) (fun i=>[(7,vi i),(0,.ptr 0 0 0),(2,vi (gL (l.take i) a g).pt),(4,.ptr 1 0 0)])
  (fun i=>⟨[mbx (gL (l.take i) a g).pts (gL (l.take i) a g).es,[ncells (.mk 30 [] 0 l)]],[(gL (l.take i) a g).es.length]⟩) (fun i=>l.length-i) ?_ 0
  (Nat.zero_le _) ⟨rfl,rfl,rfl,rfl,trivial⟩ rfl rfl rfl rfl rfl (fun _=>inferInstance) (fun _=>inferInstance)
 intro i hi IH
 have hgi:g.le (gL (l.take i) a g) (bG (wL (l.take i))):=PSL_le (fun x hx=>hp x (List.mem_of_mem_take hx)) a g hb.pt
 refine AK.ev 100 rfl ?_
 refine AK.if_ (fun h=>?_) (fun h=>?_)
 ·have hlt:i<l.length:=by have:=of_decide_eq_true h;rw [nrows_len] at this;simp at this;omega
  obtain ⟨x,hx⟩:=lget_of_lt l hlt
  have hwt:=wL_take hx
  have hbi:Gb (gL (l.take i) a g) (wN x):=hb.step hgi hwt
  refine AK.ix i (by omega) (nrows_get (l:=l) hx) ?_
  refine AK.hc (τ':=[0]) [0] [0] (hs x (List.mem_of_getElem? hx) ((l.take i).getLastD a) _ hbi) ?_
  rw [← gL_take hx]
  exact IH (i+1) hlt (by omega) _ _ ⟨vint ((wrap_small (by omega) (by omega)).trans (by omega)),rfl,rfl,rfl,trivial⟩ rfl rfl rfl
 ·have:i=l.length:=by have:=of_decide_eq_false h;rw [nrows_len] at this;simp at this;omega
  subst this
  rw [List.take_length] at hgi ⊢
  exact AK.rb Tryz.func135 rfl rfl
theorem g_edge' (p:Nat)(l:List Eg)(f t k:Int)(y:Bool)(n:Nd)(hw:wN n≤1000000000)(hl:l.length≤1000000000) :
 Hands X 137 [.ptr 0 0 0,vi f,vi t,vi k,vb y,nd n] ⟨[mbx p l],[l.length]⟩ (.tup []) ⟨[mbx p (l++[⟨f,t,k,y,n⟩])],[(l++[(⟨f,t,k,y,n⟩:Eg)]).length]⟩:=g_edge p l ⟨f,t,k,y,n⟩ hw hl
theorem g_edge0 (p:Nat)(l:List Eg)(f t k:Int)(y:Bool)(hl:l.length≤1000000000) :
 Hands X 137 [.ptr 0 0 0,vi f,vi t,vi k,vb y,.agg [vi 0,str [],vi 0,.sl [] .no]] ⟨[mbx p l],[l.length]⟩ (.tup []) ⟨[mbx p (l++[⟨f,t,k,y,nd0⟩])],[(l++[(⟨f,t,k,y,nd0⟩:Eg)]).length]⟩:=g_edge p l ⟨f,t,k,y,nd0⟩ (by show wN nd0≤1000000000;decide) hl
abbrev gS3 (p:Nat)(es:List Eg)(n:Nd):St:=⟨[mbx p es,[ncells n],[zN]],[es.length]⟩
set_option maxHeartbeats 2000000 in
theorem g_stmt {n:Nd}(h:PS n):HSt n:=by
 induction h with
 | set s x h hx =>
   intro a g hb
   have b1:=hb.pts
   have b2:=hb.es
   refine Hands.run Tryz.func179 ?_
   rw [gS_set]
   refine AK.no ?_
   refine AK.no ?_
   refine AK.no ?_
   refine AK.hc (τ':=[0]) [0] [0] (g_point g.pts g.es (by omega)) ?_
   refine AK.yes ?_
   refine AK.hc (τ':=[0]) [0] [0] (g_edge' (g.pts+1) g.es g.pt g.pts 1 false (.mk 21 s 0 [x]) (by omega) (by omega)) ?_
   exact AK.rb Tryz.func179 rfl rfl
 | put s x y h hx hy =>
   intro a g hb
   have b1:=hb.pts
   have b2:=hb.es
   refine Hands.run Tryz.func179 ?_
   rw [gS_put]
   refine AK.no ?_
   refine AK.no ?_
   refine AK.no ?_
   refine AK.hc (τ':=[0]) [0] [0] (g_point g.pts g.es (by omega)) ?_
   refine AK.no ?_
   refine AK.yes ?_
   refine AK.hc (τ':=[0]) [0] [0] (g_edge' (g.pts+1) g.es g.pt g.pts 2 false (.mk 22 s 0 [x,y]) (by omega) (by omega)) ?_
   exact AK.rb Tryz.func179 rfl rfl
 | read s h =>
   intro a g hb
   have b1:=hb.pts
   have b2:=hb.es
   refine Hands.run Tryz.func179 ?_
   rw [gS_read]
   refine AK.no ?_
   refine AK.no ?_
   refine AK.no ?_
   refine AK.hc (τ':=[0]) [0] [0] (g_point g.pts g.es (by omega)) ?_
   refine AK.no ?_
   refine AK.no ?_
   refine AK.yes ?_
   refine AK.hc (τ':=[0]) [0] [0] (g_edge' (g.pts+1) g.es g.pt g.pts 3 false (.mk 23 s 0 []) (by omega) (by omega)) ?_
   exact AK.rb Tryz.func179 rfl rfl
 | ifs c l l' hc hl hl' ihl ihl' =>
   intro a g hb
   have b1:=hb.pts
   have b2:=hb.es
   refine Hands.run Tryz.func179 ?_
   have hwc:wN c<wN (.mk 24 [] 0 [c,.mk 30 [] 0 l,.mk 30 [] 0 l']):=wN_kid (n:=.mk 24 [] 0 [c,.mk 30 [] 0 l,.mk 30 [] 0 l']) (by simp)
   have hws:wN (.mk 24 [] 0 [c,.mk 30 [] 0 l,.mk 30 [] 0 l'])=3+wN c+wL l+wL l':=by simp only [wN,wL,List.length_nil];omega
   rw [gS_if]
   unfold gIf
   refine AK.no ?_
   refine AK.yes ?_
   refine AK.hc (τ':=[0]) [0] [0] (g_point g.pts g.es (by omega)) ?_
   refine AK.sto (gS3 (g.pts+1) g.es (.mk 24 [] 0 [c,.mk 30 [] 0 l,.mk 30 [] 0 l'])) ?_
   refine AK.ix 0 (by omega) (nrows_get (l:=[c,.mk 30 [] 0 l,.mk 30 [] 0 l']) rfl) ?_
   refine AK.hc (τ':=[0]) [0] [0] (g_edge' (g.pts+1) g.es g.pt g.pts 4 true c (by omega) (by omega)) ?_
   refine AK.sto (gS3 (g.pts+1) (g.es++[⟨g.pt,g.pts,4,true,c⟩]) (.mk 24 [] 0 [c,.mk 30 [] 0 l,.mk 30 [] 0 l'])) ?_
   have l1:=way_le g.pt c true hb.pt
   have c1:Gb (gWay g.pt c true g) (wL l):=hb.step1 l1 (by omega) (by omega)
   have a2:=PSL_le hl nd0 _ c1.pt
   have i1:Hands X 135 [.ptr 0 0 0,nd (.mk 30 [] 0 l),vi g.pts] ⟨[mbx (g.pts+1) (g.es++[⟨g.pt,g.pts,4,true,c⟩])],[(g.es++[(⟨g.pt,g.pts,4,true,c⟩:Eg)]).length]⟩ (vi (gL l nd0 (gWay g.pt c true g)).pt) (gSt (gL l nd0 (gWay g.pt c true g))):=g_list hl ihl nd0 (gWay g.pt c true g) c1
   refine AK.ix 1 (by omega) (nrows_get (l:=[c,.mk 30 [] 0 l,.mk 30 [] 0 l']) rfl) ?_
   refine AK.hc (τ':=[0]) [0] [0] i1 ?_
   refine AK.sto (gS3 (gL l nd0 (gWay g.pt c true g)).pts (gL l nd0 (gWay g.pt c true g)).es (.mk 24 [] 0 [c,.mk 30 [] 0 l,.mk 30 [] 0 l'])) ?_
   have l12:=l1.trans a2 (Nat.le_refl _)
   generalize gL l nd0 (gWay g.pt c true g)=g2 at *
   have c2:Gb g2 (wL l'+1):=hb.step1 l12 (by simp only [bG];omega) (by simp only [bG];omega)
   have b3:=c2.pts
   have b4:=c2.es
   refine AK.hc (τ':=[0]) [0] [0] (g_point g2.pts g2.es (by omega)) ?_
   refine AK.sto (gS3 (g2.pts+1) g2.es (.mk 24 [] 0 [c,.mk 30 [] 0 l,.mk 30 [] 0 l'])) ?_
   refine AK.ix 0 (by omega) (nrows_get (l:=[c,.mk 30 [] 0 l,.mk 30 [] 0 l']) rfl) ?_
   refine AK.hc (τ':=[0]) [0] [0] (g_edge' (g2.pts+1) g2.es g.pt g2.pts 4 false c (by omega) (by omega)) ?_
   refine AK.sto (gS3 (g2.pts+1) (g2.es++[⟨g.pt,g2.pts,4,false,c⟩]) (.mk 24 [] 0 [c,.mk 30 [] 0 l,.mk 30 [] 0 l'])) ?_
   have hp2:g.pt<g2.pts:=Nat.lt_of_lt_of_le hb.pt l12.pts.1
   have l3:=way_le g.pt c false hp2
   have c3:Gb (gWay g.pt c false g2) (wL l'):=c2.step1 l3 (by omega) (by omega)
   have a4:=PSL_le hl' nd0 _ c3.pt
   have i3:Hands X 135 [.ptr 0 0 0,nd (.mk 30 [] 0 l'),vi g2.pts] ⟨[mbx (g2.pts+1) (g2.es++[⟨g.pt,g2.pts,4,false,c⟩])],[(g2.es++[(⟨g.pt,g2.pts,4,false,c⟩:Eg)]).length]⟩ (vi (gL l' nd0 (gWay g.pt c false g2)).pt) (gSt (gL l' nd0 (gWay g.pt c false g2))):=g_list hl' ihl' nd0 (gWay g.pt c false g2) c3
   refine AK.ix 2 (by omega) (nrows_get (l:=[c,.mk 30 [] 0 l,.mk 30 [] 0 l']) rfl) ?_
   refine AK.hc (τ':=[0]) [0] [0] i3 ?_
   refine AK.sto (gS3 (gL l' nd0 (gWay g.pt c false g2)).pts (gL l' nd0 (gWay g.pt c false g2)).es (.mk 24 [] 0 [c,.mk 30 [] 0 l,.mk 30 [] 0 l'])) ?_
   have l34:=l3.trans a4 (Nat.le_refl _)
   generalize gL l' nd0 (gWay g.pt c false g2)=g4 at *
   have c4:Gb g4 0:=c2.step1 l34 (by simp only [bG];omega) (by simp only [bG];omega)
   have b5:=c4.pts
   have b6:=c4.es
   have b7:=l34.es
   refine AK.hc (τ':=[0]) [0] [0] (g_point g4.pts g4.es (by omega)) ?_
   refine AK.sto (gS3 (g4.pts+1) g4.es (.mk 24 [] 0 [c,.mk 30 [] 0 l,.mk 30 [] 0 l'])) ?_
   refine AK.hc (τ':=[0]) [0] [0] (g_edge0 (g4.pts+1) g4.es g2.pt g4.pts 6 false (by omega)) ?_
   refine AK.sto (gS3 (g4.pts+1) (g4.es++[⟨g2.pt,g4.pts,6,false,nd0⟩]) (.mk 24 [] 0 [c,.mk 30 [] 0 l,.mk 30 [] 0 l'])) ?_
   refine AK.hc (τ':=[0]) [0] [0] (g_edge0 (g4.pts+1) (g4.es++[⟨g2.pt,g4.pts,6,false,nd0⟩]) g4.pt g4.pts 6 false ?_) ?_
   ·obtain ⟨e1,e2,e3,_⟩:=l34.es
    have:=c2.es
    simp only [bG] at e3
    rw [List.length_append,e2,List.length_append]
    simp only [List.length_singleton];omega
   exact AK.rb Tryz.func179 rfl rfl
 | whil c l hc hl ihl =>
   intro a g hb
   have b1:=hb.pts
   have b2:=hb.es
   refine Hands.run Tryz.func179 ?_
   have hwc:wN c<wN (.mk 25 [] 0 [c,.mk 30 [] 0 l]):=wN_kid (n:=.mk 25 [] 0 [c,.mk 30 [] 0 l]) (by simp)
   have hws:wN (.mk 25 [] 0 [c,.mk 30 [] 0 l])=2+wN c+wL l:=by simp only [wN,wL,List.length_nil];omega
   have hwn:=wN_eq c
   rw [gS_wh]
   unfold gWh
   refine AK.no ?_
   refine AK.no ?_
   refine AK.yes ?_
   refine AK.hc (τ':=[0]) [0] [0] (g_point g.pts g.es (by omega)) ?_
   refine AK.sto (gS3 (g.pts+1) g.es (.mk 25 [] 0 [c,.mk 30 [] 0 l])) ?_
   refine AK.hc (τ':=[0]) [0] [0] (g_edge0 (g.pts+1) g.es g.pt g.pts 6 false (by omega)) ?_
   refine AK.sto (gS3 (g.pts+1) (g.es++[⟨g.pt,g.pts,6,false,nd0⟩]) (.mk 25 [] 0 [c,.mk 30 [] 0 l])) ?_
   refine AK.hc (τ':=[0]) [0] [0] (g_point (g.pts+1) _ (by omega)) ?_
   refine AK.sto (gS3 (g.pts+1+1) (g.es++[⟨g.pt,g.pts,6,false,nd0⟩]) (.mk 25 [] 0 [c,.mk 30 [] 0 l])) ?_
   refine AK.ix 0 (by omega) (nrows_get (l:=[c,.mk 30 [] 0 l]) rfl) ?_
   refine AK.hc (τ':=[0]) [0] [0] (g_edge' (g.pts+1+1) (g.es++[⟨g.pt,g.pts,6,false,nd0⟩]) g.pts (g.pts+1:Nat) 4 true c (by omega) (by simp;omega)) ?_
   refine AK.sto (gS3 (g.pts+1+1) (g.es++[⟨g.pt,g.pts,6,false,nd0⟩]++[⟨g.pts,(g.pts+1:Nat),4,true,c⟩]) (.mk 25 [] 0 [c,.mk 30 [] 0 l])) ?_
   have l1:=leaf_le 6 nd0 hb.pt
   have l2:=loop_le a (.mk 25 [] 0 [c,.mk 30 [] 0 l]) l1.pt
   have l12:=l1.trans l2 (Nat.le_refl _)
   have hh:g.pts<(gLoop a (.mk 25 [] 0 [c,.mk 30 [] 0 l]) (gLeaf 6 nd0 g)).pts:=by simp [gLoop,gLeaf]
   have l3:=way_le g.pts c true hh
   have l123:=l12.trans l3 (Nat.le_refl _)
   have c1:Gb (gWay g.pts c true (gLoop a (.mk 25 [] 0 [c,.mk 30 [] 0 l]) (gLeaf 6 nd0 g))) (wL l+1):=hb.step1 l123 (by omega) (by omega)
   have c1':Gb (gWay g.pts c true (gLoop a (.mk 25 [] 0 [c,.mk 30 [] 0 l]) (gLeaf 6 nd0 g))) (wL l):=⟨c1.pt,by have:=c1.pts;omega,by have:=c1.es;omega⟩
   have a2:=PSL_le hl nd0 _ c1'.pt
   have i1:Hands X 135 [.ptr 0 0 0,nd (.mk 30 [] 0 l),vi (g.pts+1:Nat)] ⟨[mbx (g.pts+1+1) (g.es++[⟨g.pt,g.pts,6,false,nd0⟩]++[⟨g.pts,(g.pts+1:Nat),4,true,c⟩])],[(g.es++[(⟨g.pt,g.pts,6,false,nd0⟩:Eg)]++[(⟨g.pts,(g.pts+1:Nat),4,true,c⟩:Eg)]).length]⟩
    (vi (gL l nd0 (gWay g.pts c true (gLoop a (.mk 25 [] 0 [c,.mk 30 [] 0 l]) (gLeaf 6 nd0 g)))).pt) (gSt (gL l nd0 (gWay g.pts c true (gLoop a (.mk 25 [] 0 [c,.mk 30 [] 0 l]) (gLeaf 6 nd0 g))))):=g_list hl ihl nd0 _ c1'
   refine AK.ix 1 (by omega) (nrows_get (l:=[c,.mk 30 [] 0 l]) rfl) ?_
   refine AK.hc (τ':=[0]) [0] [0] i1 ?_
   refine AK.sto (gS3 (gL l nd0 (gWay g.pts c true (gLoop a (.mk 25 [] 0 [c,.mk 30 [] 0 l]) (gLeaf 6 nd0 g)))).pts (gL l nd0 (gWay g.pts c true (gLoop a (.mk 25 [] 0 [c,.mk 30 [] 0 l]) (gLeaf 6 nd0 g)))).es (.mk 25 [] 0 [c,.mk 30 [] 0 l])) ?_
   have l1234:=l123.trans a2 (Nat.le_refl _)
   generalize gL l nd0 (gWay g.pts c true (gLoop a (.mk 25 [] 0 [c,.mk 30 [] 0 l]) (gLeaf 6 nd0 g)))=g2 at *
   have c2:Gb g2 0:=c1.step1 a2 (by simp only [bG];omega) (by simp only [bG];omega)
   have b3:=c2.pts
   have b4:=c2.es
   have b5:g2.es.length+1≤1000000000:=by
    obtain ⟨e1,e2,e3,_⟩:=a2.es
    have:=c1.es
    simp only [bG] at e3
    rw [e2,List.length_append];omega
   refine AK.hc (τ':=[0]) [0] [0] (g_edge0 g2.pts g2.es g2.pt g.pts 6 false (by omega)) ?_
   refine AK.sto (gS3 g2.pts (g2.es++[⟨g2.pt,g.pts,6,false,nd0⟩]) (.mk 25 [] 0 [c,.mk 30 [] 0 l])) ?_
   refine AK.hc (τ':=[0]) [0] [0] (g_point g2.pts _ (by omega)) ?_
   refine AK.sto (gS3 (g2.pts+1) (g2.es++[⟨g2.pt,g.pts,6,false,nd0⟩]) (.mk 25 [] 0 [c,.mk 30 [] 0 l])) ?_
   refine AK.ix 0 (by omega) (nrows_get (l:=[c,.mk 30 [] 0 l]) rfl) ?_
   refine AK.hc (τ':=[0]) [0] [0] (g_edge' (g2.pts+1) (g2.es++[⟨g2.pt,g.pts,6,false,nd0⟩]) g.pts g2.pts 4 false c (by omega) (by simp;omega)) ?_
   exact AK.rb Tryz.func179 rfl rfl
 | check c hc =>
   intro a g hb
   have b1:=hb.pts
   have b2:=hb.es
   refine Hands.run Tryz.func179 ?_
   have hwc:wN c<wN (.mk 27 [] 0 [c]):=wN_kid (n:=.mk 27 [] 0 [c]) (by simp)
   rw [gS_check]
   refine AK.no ?_
   refine AK.no ?_
   refine AK.no ?_
   refine AK.hc (τ':=[0]) [0] [0] (g_point g.pts g.es (by omega)) ?_
   refine AK.no ?_
   refine AK.no ?_
   refine AK.no ?_
   refine AK.yes ?_
   refine AK.ix 0 (by omega) (nrows_get (l:=[c]) rfl) ?_
   refine AK.hc (τ':=[0]) [0] [0] (g_edge' (g.pts+1) g.es g.pt g.pts 5 false c (by omega) (by omega)) ?_
   exact AK.rb Tryz.func179 rfl rfl
 | skip =>
   intro a g hb
   have b1:=hb.pts
   have b2:=hb.es
   refine Hands.run Tryz.func179 ?_
   rw [gS_skip]
   refine AK.no ?_
   refine AK.no ?_
   refine AK.no ?_
   refine AK.hc (τ':=[0]) [0] [0] (g_point g.pts g.es (by omega)) ?_
   refine AK.no ?_
   refine AK.no ?_
   refine AK.no ?_
   refine AK.no ?_
   refine AK.hc (τ':=[0]) [0] [0] (g_edge0 (g.pts+1) g.es g.pt g.pts 6 false (by omega)) ?_
   exact AK.rb Tryz.func179 rfl rfl
 | stop =>
   intro a g hb
   have b1:=hb.pts
   have b2:=hb.es
   refine Hands.run Tryz.func179 ?_
   rw [gS_stop]
   refine AK.yes ?_
   refine AK.hc (τ':=[0]) [0] [0] (g_edge0 g.pts g.es g.pt (-1) 7 false (by omega)) ?_
   refine AK.hc (τ':=[0]) [0] [0] (g_point g.pts _ (by omega)) ?_
   exact AK.rb Tryz.func179 rfl rfl
end Go.V
