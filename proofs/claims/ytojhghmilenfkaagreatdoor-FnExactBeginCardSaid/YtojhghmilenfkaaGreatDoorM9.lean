/- A part of the proof of the claim that the last text states: no condition of its own. -/
import Derived.Test.YtojhghmilenfkaaGreatDoorM8
set_option linter.unusedVariables false
set_option linter.unusedSimpArgs false
namespace Go.V
open Go Go.Proofs
def L9:List Int→List Int→Option (List Nat)
 | [],[]=>some []
 | [],_::_=>none
 | s::ss,ls=>if s<0 then (match ls with
    | []=>none
    | l::ls'=>if Bu l 0 60 then (L9 ss ls').map (l.toNat::·) else none) else (L9 ss ls).map (s.toNat::·)
def bgC (nv:Nat)(cs:List Nat):Cf:=⟨0,List.replicate nv 0,cs.map fun k=>List.replicate k (false,0),0,0,0,0,0⟩
def zC:Cf:=⟨0,[],[],0,0,0,0,0⟩
def R2 (n:Nd)(ls:List Int):Option (List Nat):=if Ib n=true then L9 (Br n) ls else none
def W0 (n:Nd)(ls:List Int):Cf:=match R2 n ls with
 | some cs=>bgC (Ay n 31).length cs
 | none=>zC
theorem Wt {n:Nd}(hr:Ib n=true):∀ s,s∈Br n→s≤1000000:=by
 intro s hs
 obtain ⟨x,hx,rfl⟩:=List.mem_map.1 hs
 have hx':=(List.mem_filter.1 hx).1
 have hF:=(Hy hr).1
 cases hF with
 | mk ds l hd hl =>
   simp only [Dq,List.dropLast_concat] at hx'
   have:=hd x hx'
   cases this with
   | var s h=>simp [Nd.num]
   | arr s m h h0 h1=>simpa [Nd.num] using h1
theorem Y5:∀ {ss ls:List Int}{cs:List Nat},L9 ss ls=some cs→cs.length=ss.length
 | [],[],cs,h=>by simp [L9] at h;simp [← h]
 | [],_::_,cs,h=>by simp [L9] at h
 | s::ss,ls,cs,h=>by
   simp only [L9] at h
   split at h
   ·split at h
    ·cases h
    ·split at h
     ·obtain ⟨r,hr,rfl⟩:=Option.map_eq_some_iff.1 h
      simp [Y5 hr]
     ·cases h
   ·obtain ⟨r,hr,rfl⟩:=Option.map_eq_some_iff.1 h
    simp [Y5 hr]
theorem Acy:∀ {ss ls:List Int}{cs:List Nat},L9 ss ls=some cs→(∀ s,s∈ss→s≤1000000)→∀ c,c∈cs→c≤1000000
 | [],[],cs,h,_=>by simp [L9] at h;subst h;intro c hc;cases hc
 | [],_::_,cs,h,_=>by simp [L9] at h
 | s::ss,ls,cs,h,hs=>by
   simp only [L9] at h
   have hs':∀ x,x∈ss→x≤1000000:=fun x hx=>hs x (by simp [hx])
   split at h
   ·split at h
    ·cases h
    ·split at h
     ·rename_i hb
      obtain ⟨r,hr,rfl⟩:=Option.map_eq_some_iff.1 h
      intro c hc
      rcases List.mem_cons.1 hc with rfl | hc
      ·simp only [Bu,Bool.and_eq_true,decide_eq_true_eq] at hb;omega
      ·exact Acy hr hs' c hc
     ·cases h
   ·obtain ⟨r,hr,rfl⟩:=Option.map_eq_some_iff.1 h
    intro c hc
    rcases List.mem_cons.1 hc with rfl | hc
    ·have:=hs s (by simp);omega
    ·exact Acy hr hs' c hc
theorem Aps {nv:Nat}{cs:List Nat}(hv:nv≤1000000000)(hl:cs.length≤1000000000)(hc:∀ c,c∈cs→c≤1000000):CfOk (bgC nv cs):=by
 refine ⟨by simpa [bgC] using hv,by simpa [bgC] using hl,fun x hx=>?_⟩
 simp only [bgC] at hx
 obtain ⟨c,h,rfl⟩:=List.mem_map.1 hx
 have:=hc c h
 simp;omega
def Z0 (n:Nat)(s:List UInt8):List UInt8:=if h:n=0 then s else Z0 (n / 10) (UInt8.ofNat (48+n % 10)::s)
theorem Aov (k:Nat)(h1:1≤k)(h2:k≤100000000000):Pure X 60 [vi k] (str (109::Z0 k [])):=by
 refine Pure.run Tryz.func60 ?_
 refine AK.no ?_ (ht:=decide_eq_false (by omega))
 refine AK.while_ (ι:=Nat × List UInt8) 0 0 (fun i=>i.1≤k∧i.2.length+i.1≤k∧Z0 i.1 i.2=Z0 k []) (fun i=>[(0,vi i.1),(3,str i.2)]) (fun _=>⟨[],[]⟩) (fun i=>i.1) ?_ (k,[]) ⟨Nat.le_refl _,by simp,rfl⟩
  ⟨rfl,rfl,trivial⟩
 intro i hi IH
 obtain ⟨m,s⟩:=i
 obtain ⟨hm,hl,he⟩:=hi
 simp only at hm hl he
 refine AK.ei (fun h=>?_) (fun h=>?_)
 ·have h':0<m:=by have:=of_decide_eq_true h;simp only at this;omega
  have hd:(m:Int).tdiv 10=((m / 10:Nat):Int):=by rw [Int.tdiv_eq_ediv_of_nonneg (by omega)];omega
  have hr:((m:Int).tmod 10)=((m % 10:Nat):Int):=by rw [Int.tmod_eq_emod_of_nonneg (by omega)];omega
  refine AK.op (U9 (s:=[UInt8.ofNat (48+m % 10)]) rfl rfl rfl rfl rfl rfl rfl rfl rfl rfl ?_) ?_
  ·show [[_]]=[[_]]
   simp only [hr,P2 (m % 10) (by omega)]
  refine AK.op (Me rfl rfl rfl rfl rfl ?_ rfl) ?_
  ·simp;omega
  refine IH (m / 10,UInt8.ofNat (48+m % 10)::s) ⟨by simp only;omega,by simp;omega,?_⟩ (by simp only;omega) _ _ ⟨Bn ?_,rfl,trivial⟩ rfl rfl rfl
  ·rw [← he];conv=>rhs;rw [Z0]
   rw [dif_neg (by omega)]
  ·simp only [hd];exact Ac (by omega) (by omega)
 ·have h':m=0:=by have:=of_decide_eq_false h;simp only at this;omega
  subst h'
  have:Z0 0 s=s:=by rw [Z0];rfl
  rw [this] at he
  simp only [Nat.add_zero] at hl
  refine AK.op (Me rfl rfl rfl rfl rfl ?_ rfl) ?_
  ·simp;omega
  refine AK.rz Tryz.func60 ?_
  rw [← he];rfl
mutual
def mcN:Nd→Nat
 | .mk _ _ _ ks=>V0 ks
def V0:List Nd→Nat
 | []=>0
 | x::l=>3+mcN x+V0 l
end
theorem Aqu (n:Nd):mcN n=V0 n.kids:=by cases n;simp [mcN,Nd.kids]
theorem Zz:∀ l l':List Nd,V0 (l++l')=V0 l+V0 l'
 | [],l'=>by simp [V0]
 | x::l,l'=>by simp [V0,Zz l l'];omega
def MkP (lo hi:Nat)(S:St)(k:Nat)(r:AV)(S':St):Prop:=r=vi k∧S'.toks=S.toks∧Mk lo hi S.boxes S'.boxes
theorem Afd:∀ l:List Nd,l.length≤V0 l
 | []=>Nat.zero_le _
 | x::l=>by have:=Afd l;simp [V0];omega
theorem Adm {lo hi b i:Nat}{S:St}{rows:List (List AV)}{a1 a2 a3:Value}{x:AV}(h12:lo≤b∧b<hi)(hb:S.boxes[b]?=some rows)(hr:rows[i]?=some [.val a1,.val a2,.val a3,x])(b1 b2 b3:Value) :
 ∃ S2 rows2,S2=(⟨S.boxes.set b (rows.set i [.val b1,.val b2,.val b3,x]),S.toks⟩:St)∧S2.boxes[b]?=some rows2∧rows2[i]?=some [.val b1,.val b2,.val b3,x]∧Mk lo hi S.boxes S2.boxes∧S2.toks=S.toks :=
 ⟨_,_,rfl,List.getElem?_set_self (Aa hb),List.getElem?_set_self (Aa hr),Mk.set h12.1 h12.2 hb hr,rfl⟩
theorem Ale (n:Nd):∀ {lo hi b:Nat}{S:St}{k:Nat},Tr false lo hi S.boxes b n→1≤k→k+mcN n≤100000000000 →
 Runs X 59 [.bsl b n.kids.length,vi k] S (MkP lo hi S (k+mcN n)):=by
 induction n using Nd.ind with
 | h n ih =>
 intro lo hi b S k hT hk1 hk2
 rw [Aqu] at hk2 ⊢
 have hlm:=Afd n.kids
 refine Runs.run Tryz.func59 ?_
 refine AK.whileK (ι:=Nat × St) (fun i=>i.1≤n.kids.length∧i.2.toks=S.toks∧Mk lo hi S.boxes i.2.boxes) (fun i=>[(5,vi i.1),(1,vi ((k+V0 (n.kids.take i.1):Nat):Int)),(0,.bsl b n.kids.length)]) (fun i=>i.2) (fun i=>n.kids.length-i.1) ?_ (0,S)
  ⟨Nat.zero_le _,rfl,Mk.refl _ _ _⟩ ⟨rfl,rfl,rfl,trivial⟩ rfl
 intro i hi IH
 obtain ⟨i,S1⟩:=i
 obtain ⟨hi,ht,hM⟩:=hi
 simp only at hi ht hM
 refine AK.ei (fun g=>?_) (fun g=>?_)
 ·have hlt:i<n.kids.length:=by have:=of_decide_eq_true g;simp only at this;omega
  obtain ⟨x,hx⟩:=Ab n.kids hlt
  have hxm:=List.mem_of_getElem? hx
  have hmc:V0 (n.kids.take (i+1))=V0 (n.kids.take i)+(3+mcN x):=by rw [List.take_add_one,hx,Option.toList_some,Zz];simp [V0]
  have hle:V0 (n.kids.take (i+1))≤V0 n.kids:=by
   have h0:V0 n.kids=V0 (n.kids.take (i+1))+V0 (n.kids.drop (i+1)):=by rw [← Zz,List.take_append_drop]
   omega
  have hT1:=hM.tree n hT
  obtain ⟨hb12,rows,hb,hR⟩:=Im.1 hT1
  obtain ⟨r,c,hr,⟨a1,a2,a3,rfl,_⟩,hTx⟩:=Mh hR i x hx
  generalize hq:V0 (n.kids.take i)=q at *
  have e1:IntKind.i64.wrap (((k+q:Nat):Int)+1)=((k+q+1:Nat):Int):=by rw [Ac (by omega) (by omega)];omega
  have e2:IntKind.i64.wrap (IntKind.i64.wrap (((k+q:Nat):Int)+1)+1)=((k+q+2:Nat):Int):=by rw [e1,Ac (by omega) (by omega)];omega
  have e3:IntKind.i64.wrap (IntKind.i64.wrap (IntKind.i64.wrap (((k+q:Nat):Int)+1)+1)+1)=((k+q+3:Nat):Int):=by rw [e2,Ac (by omega) (by omega)];omega
  have p1:=Aov (k+q+1) (by omega) (by omega)
  rw [← e1] at p1
  obtain ⟨S2,rows2,hS2,hb2,hr2,hM2,ht2⟩:=Adm hb12 hb hr (.int .i64 ((k+q:Nat):Int)) a2 a3
  obtain ⟨S3,rows3,hS3,hb3,hr3,hM3,ht3⟩:=Adm hb12 hb2 hr2 (.int .i64 ((k+q:Nat):Int)) (.string ⟨⟨109::Z0 (k+q+1) []⟩⟩) a3
  obtain ⟨S4,rows4,hS4,hb4,hr4,hM4,ht4⟩:=Adm hb12 hb3 hr3 (.int .i64 ((k+q:Nat):Int)) (.string ⟨⟨109::Z0 (k+q+1) []⟩⟩) (.int .i64 (IntKind.i64.wrap (IntKind.i64.wrap (((k+q:Nat):Int)+1)+1)))
  have hM4':=((hM.trans hM2).trans hM3).trans hM4
  have hTx4:=(((hM2.trans hM3).trans hM4).tree x hTx)
  have ih4:=@ih x hxm _ _ _ _ (k+q+3) hTx4 (by omega) (by omega)
  have e3':(vi ((k+q+3:Nat):Int))=vi (IntKind.i64.wrap (IntKind.i64.wrap (IntKind.i64.wrap (((k+q:Nat):Int)+1)+1)+1)):=by rw [e3]
  rw [e3'] at ih4
  refine AK.atE i hlt hb hr rfl ?_
  refine AK.stF hb hr rfl ?_
  refine AK.sto S2 ?_ hS2.symm
  refine AK.pc p1 ?_
  refine AK.atE i hlt hb2 hr2 rfl ?_
  refine AK.stF hb2 hr2 rfl ?_
  refine AK.sto S3 ?_ hS3.symm
  refine AK.atE i hlt hb3 hr3 rfl ?_
  refine AK.stF hb3 hr3 rfl ?_
  refine AK.sto S4 ?_ hS4.symm
  refine AK.atE i hlt hb4 hr4 rfl ?_
  refine AK.ldF hb4 hr4 ?_
  refine AK.ha ih4 ?_
  intro r5 S5 hP _ _
  obtain ⟨rfl,ht5,hM5⟩:=hP
  refine AK.ev 100 rfl ?_
  refine IH (i+1,S5) ⟨hlt,by rw [ht5,ht4,ht3,ht2];exact ht,hM4'.trans hM5⟩ (by simp only;omega) _ _ ⟨Bn ((Ac (by omega) (by omega)).trans (by simp only;omega)),?_,rfl,trivial⟩ rfl
  exact Bn (by simp only [hmc];omega)
 ·have:i=n.kids.length:=by have:=of_decide_eq_false g;simp only at this;omega
  subst this
  rw [List.take_length]
  refine AK.retK Tryz.func59 (h:=rfl) ⟨_,rfl,rfl,ht,hM⟩
theorem Aou (n:Nd){lo hi b:Nat}{S:St}{k:Nat}(hT:Tr false lo hi S.boxes b n)(hk1:1≤k)(hk2:k+mcN n≤100000000000) :
 Runs X 16 [.agg [vi n.kind,str n.name,vi n.num,.bsl b n.kids.length],vi k] S (MkP lo hi S (k+mcN n)):=by
 have hM:=Alz lo hi S.boxes [[vi n.kind,str n.name,vi n.num,.bsl b n.kids.length]]
 refine Runs.run Tryz.func16 ?_
 refine AK.boE rfl rfl ?_
 have hb:(S.boxes++[[[vi n.kind,str n.name,vi n.num,AV.bsl b n.kids.length]]])[S.boxes.length]?=some [[vi n.kind,str n.name,vi n.num,.bsl b n.kids.length]]:=by simp
 have hr:([[vi n.kind,str n.name,vi n.num,AV.bsl b n.kids.length]]:List (List AV))[0]?=some [vi n.kind,str n.name,vi n.num,.bsl b n.kids.length]:=rfl
 refine AK.ldF hb hr ?_
 refine AK.ha (Ale n (S:=⟨_,S.toks⟩) (hM.tree n hT) hk1 hk2) ?_
 intro r S2 hP _ _
 obtain ⟨rfl,ht,hM2⟩:=hP
 refine AK.ev 100 rfl ?_
 exact AK.retK Tryz.func16 (h:=rfl) ⟨_,rfl,rfl,ht,hM.trans hM2⟩
def mkI (k:Nat)(n:Nat):List Int:=(List.range n).map fun i=>((k+i:Nat):Int)
def mb (k:Nat):Bool:=((k:Int).tmod 3==0)
def Wx (k:Nat)(n:Nat):List (Bool × Int):=(List.range n).map fun i=>(mb (k+2*i),((k+2*i+1:Nat):Int))
def Ss (k:Nat):List Nat→List (List (Bool × Int))
 | []=>[]
 | n::l=>Wx k n::Ss (k+2*n) l
theorem Uv (k n:Nat):(mkI k n).length=n:=by simp [mkI]
theorem Uu (k n:Nat):(Wx k n).length=n:=by simp [Wx]
theorem Oe:∀ (l:List Nat)(k:Nat),(Ss k l).length=l.length
 | [],k=>rfl
 | n::l,k=>by simp [Ss,Oe l]
theorem Aj1 (k n:Nat):mkI k (n+1)=mkI k n++[((k+n:Nat):Int)]:=by simp [mkI,List.range_succ]
theorem Aj0 (k n:Nat):Wx k (n+1)=Wx k n++[(mb (k+2*n),((k+2*n+1:Nat):Int))]:=by simp [Wx,List.range_succ]
theorem Anc {k n i:Nat}(h:i<n):(mkI k n)[i]?=some ((k+i:Nat):Int):=by simp [mkI,h]
theorem Anb {k n i:Nat}(h:i<n):(Wx k n)[i]?=some (mb (k+2*i),((k+2*i+1:Nat):Int)):=by simp [Wx,h]
theorem Rc:∀ {l:List Nat}{k i m:Nat},l[i]?=some m→(Ss k l)[i]?=some (Wx (k+2*(l.take i).sum) m)
 | [],k,i,m,h=>by simp at h
 | n::l,k,0,m,h=>by simp at h;subst h;simp [Ss]
 | n::l,k,i+1,m,h=>by
   simp only [List.getElem?_cons_succ] at h
   simp only [Ss,List.getElem?_cons_succ,List.take_succ_cons,List.sum_cons]
   rw [Rc h];congr 2;omega
theorem Ak3 {α:Type}{a c ex:List α}{i:Nat}(ha:a.length=i)(hc:i<c.length):(a++(c.drop i++ex))[i]?=c[i]?:=by
 rw [List.getElem?_append_right (by omega),ha,Nat.sub_self,List.getElem?_append_left (by rw [List.length_drop];omega),List.getElem?_drop,Nat.add_zero]
theorem Afv {α:Type}{a c ex:List α}{i:Nat}(y:α)(ha:a.length=i)(hc:i<c.length):(a++(c.drop i++ex)).set i y=(a++[y])++(c.drop (i+1)++ex):=by
 rw [List.set_append_right _ _ (by omega),ha,Nat.sub_self,List.drop_eq_getElem_cons hc,List.cons_append,List.set_cons_zero,List.append_assoc,List.singleton_append]
theorem Ao1 (a b:List Int):E9 (a++b)=E9 a++E9 b:=by simp [E9]
theorem Amf (a b:List (Bool × Int)):Jn (a++b)=Jn a++Jn b:=by simp [Jn]
def MaP (x:AV)(rows:List (List AV))(S:St)(k:Nat)(r:AV)(S':St):Prop:=r=vi k∧S'.toks=S.toks∧Chg (M4 x) S.boxes S'.boxes∧SlB S'.boxes x rows
theorem MaP.of {b n:Nat}{S:St}{rows ex:List (List AV)}{k:Nat}(hn:rows.length=n)(hb:b<S.boxes.length):MaP (.bsl b n) rows S k (vi k) ⟨S.boxes.set b (rows++ex),S.toks⟩:=by
 subst hn
 exact ⟨rfl,rfl,⟨by simp,fun c _ hc=>List.getElem?_set_ne (fun h=>hc (by simp [M4,h]))⟩,.inl ⟨b,ex,rfl,List.getElem?_set_self hb⟩⟩
theorem Af2 {S:St}{x:AV}{l:List Int}(h:SlB S.boxes x (E9 l))(k:Nat)(h1:k+l.length≤1000000000000) :
 Runs X 24 [x,vi k] S (MaP x (E9 (mkI k l.length)) S (k+l.length)):=by
 have hlen:=D5 l
 rcases h with ⟨b,ex,rfl,hb⟩ | ⟨he,sp,rfl⟩
 ·have hbl:=Aa hb
  rw [hlen]
  refine Runs.run Tryz.func24 ?_
  refine AK.whileK (ι:=Nat) (fun i=>i≤l.length) (fun i=>[(5,vi i),(1,vi ((k+i:Nat):Int)),(0,.bsl b l.length)]) (fun i=>⟨S.boxes.set b (E9 (mkI k i)++((E9 l).drop i++ex)),S.toks⟩) (fun i=>l.length-i) ?_ 0 (Nat.zero_le _)
   ⟨rfl,rfl,rfl,trivial⟩ (by obtain ⟨bx,tk⟩:=S;simp only [St.mk.injEq,and_true];obtain ⟨_,e⟩:=List.getElem?_eq_some_iff.1 hb;simp only [mkI,List.range_zero,List.map_nil,E9,List.nil_append,List.drop_zero];rw [← E9,← e,List.set_getElem_self])
  intro i hi IH
  refine AK.ei (fun g=>?_) (fun g=>?_)
  ·have hlt:i<l.length:=by have:=of_decide_eq_true g;omega
   have hm:(E9 (mkI k i)).length=i:=by rw [D5,Uv]
   obtain ⟨a,ha⟩:=Ab l hlt
   have hr:(E9 (mkI k i)++((E9 l).drop i++ex))[i]?=some [vi a]:=by rw [Ak3 hm (by omega)];exact Ec (f:=fun m=>[vi m]) ha
   refine AK.atE i hlt (List.getElem?_set_self hbl) hr rfl ?_
   refine AK.stF (List.getElem?_set_self hbl) hr rfl ?_
   refine IH (i+1) hlt (by omega) _ _ ⟨vsx (by omega),vsx (by omega),rfl,trivial⟩ ?_
   simp only [St.mk.injEq,and_true]
   rw [List.set_set,Afv _ hm (by omega),Aj1,Ao1];rfl
  ·have:i=l.length:=by have:=of_decide_eq_false g;omega
   subst this
   exact AK.retK Tryz.func24 (h:=rfl) ⟨_,rfl,MaP.of (by rw [D5,Uv]) hbl⟩
 ·have h0:l=[]:=by cases l with | nil=>rfl | cons a l=>simp [E9] at he
  subst h0
  refine Runs.run Tryz.func24 ?_
  refine AK.loop ?_
  refine AK.ev 100 rfl ?_
  refine AK.no ?_
  exact AK.retK Tryz.func24 (h:=rfl) ⟨_,rfl,rfl,rfl,Chg.refl _ _,.inr ⟨rfl,sp,rfl⟩⟩
theorem Aot {S:St}{x:AV}{l:List (Bool × Int)}(h:SlB S.boxes x (Jn l))(k:Nat)(h1:k+2*l.length≤1000000000000) :
 Runs X 111 [x,vi k] S (MaP x (Jn (Wx k l.length)) S (k+2*l.length)):=by
 have hlen:=Kp l
 rcases h with ⟨b,ex,rfl,hb⟩ | ⟨he,sp,rfl⟩
 ·have hbl:=Aa hb
  rw [hlen]
  refine Runs.run Tryz.func111 ?_
  refine AK.whileK (ι:=Nat) (fun i=>i≤l.length) (fun i=>[(5,vi i),(1,vi ((k+2*i:Nat):Int)),(0,.bsl b l.length)]) (fun i=>⟨S.boxes.set b (Jn (Wx k i)++((Jn l).drop i++ex)),S.toks⟩) (fun i=>l.length-i) ?_ 0 (Nat.zero_le _)
   ⟨rfl,rfl,rfl,trivial⟩ (by obtain ⟨bx,tk⟩:=S;simp only [St.mk.injEq,and_true];obtain ⟨_,e⟩:=List.getElem?_eq_some_iff.1 hb;simp only [Wx,List.range_zero,List.map_nil,Jn,List.nil_append,List.drop_zero];rw [← Jn,← e,List.set_getElem_self])
  intro i hi IH
  refine AK.ei (fun g=>?_) (fun g=>?_)
  ·have hlt:i<l.length:=by have:=of_decide_eq_true g;omega
   have hm:(Jn (Wx k i)).length=i:=by rw [Kp,Uu]
   obtain ⟨a,ha⟩:=Ab l hlt
   have hr:(Jn (Wx k i)++((Jn l).drop i++ex))[i]?=some [vb a.1,vi a.2]:=by rw [Ak3 hm (by omega)];exact Ec (f:=Tt) ha
   have hil:i<(Jn (Wx k i)++((Jn l).drop i++ex)).length:=Aa hr
   have hb2:((S.boxes.set b (Jn (Wx k i)++((Jn l).drop i++ex))).set b ((Jn (Wx k i)++((Jn l).drop i++ex)).set i [vb (mb (k+2*i)),vi a.2]))[b]?=some ((Jn (Wx k i)++((Jn l).drop i++ex)).set i [vb (mb (k+2*i)),vi a.2]):=List.getElem?_set_self (by simpa using hbl)
   have hr2:((Jn (Wx k i)++((Jn l).drop i++ex)).set i [vb (mb (k+2*i)),vi a.2])[i]?=some [vb (mb (k+2*i)),vi a.2]:=List.getElem?_set_self hil
   refine AK.atE i hlt (List.getElem?_set_self hbl) hr rfl ?_
   refine AK.stF (List.getElem?_set_self hbl) hr rfl ?_
   refine AK.atE i hlt hb2 hr2 rfl ?_
   refine AK.stF hb2 hr2 rfl ?_
   have e1:IntKind.i64.wrap (((k+2*i:Nat):Int)+1)=((k+2*i+1:Nat):Int):=by rw [Ac (by omega) (by omega)];omega
   refine IH (i+1) hlt (by omega) _ _ ⟨vsx (by omega),Bn (by rw [e1,Ac (by omega) (by omega)];omega),rfl,trivial⟩ ?_
   simp only [St.mk.injEq,and_true]
   rw [List.set_set,List.set_set,List.set_set,Afv _ hm (by omega),Aj0,Amf,e1];rfl
  ·have:i=l.length:=by have:=of_decide_eq_false g;omega
   subst this
   exact AK.retK Tryz.func111 (h:=rfl) ⟨_,rfl,MaP.of (by rw [Kp,Uu]) hbl⟩
 ·have h0:l=[]:=by cases l with | nil=>rfl | cons a l=>simp [Jn] at he
  subst h0
  refine Runs.run Tryz.func111 ?_
  refine AK.loop ?_
  refine AK.ev 100 rfl ?_
  refine AK.no ?_
  exact AK.retK Tryz.func111 (h:=rfl) ⟨_,rfl,rfl,rfl,Chg.refl _ _,.inr ⟨rfl,sp,rfl⟩⟩
theorem Aj5:∀ {ys:List AV},(ys.flatMap M4).Nodup→∀ {i j b:Nat}{y z:AV},i≠j→ys[i]?=some y→ys[j]?=some z→b∈M4 y→b ∉ M4 z
 | [],_,i,j,b,y,z,_,h,_=>by simp at h
 | x::ys,hn,i,j,b,y,z,hij,hy,hz=>fun hb hb'=>by
   simp only [List.flatMap_cons] at hn
   obtain ⟨_,h2,h3⟩:=List.nodup_append.1 hn
   match i,j,hij,hy,hz with
   | 0,0,hij,_,_=>exact hij rfl
   | 0,j+1,_,hy,hz =>
     simp at hy hz;subst hy
     exact h3 b hb b (List.mem_flatMap.2 ⟨z,List.mem_of_getElem? hz,hb'⟩) rfl
   | i+1,0,_,hy,hz =>
     simp at hy hz;subst hz
     exact h3 b hb' b (List.mem_flatMap.2 ⟨y,List.mem_of_getElem? hy,hb⟩) rfl
   | i+1,j+1,hij,hy,hz=>exact Aj5 h2 (i:=i) (j:=j) (by omega) (by simpa using hy) (by simpa using hz) hb hb'
theorem SlB.lt {bx:List (List (List AV))}{x:AV}{rows:List (List AV)}(h:SlB bx x rows):∀ b,b∈M4 x→b<bx.length:=by
 rcases h with ⟨b,ex,rfl,h⟩ | ⟨rfl,sp,rfl⟩
 ·intro c hc;simp [M4] at hc;subst hc;exact Aa h
 ·intro c hc;simp [M4] at hc
theorem SlB.shape {bx:List (List (List AV))}{x:AV}{rows:List (List AV)}(h:SlB bx x rows):(∃ b n,x=.bsl b n)∨∃ sp,x=.sl [] sp:=by
 rcases h with ⟨b,ex,rfl,h⟩ | ⟨rfl,sp,rfl⟩
 ·exact .inl ⟨b,_,rfl⟩
 ·exact .inr ⟨sp,rfl⟩
def F8 (cells:List (List (Bool × Int))):List Nat:=cells.map List.length
theorem X1 {cells:List (List (Bool × Int))}{i:Nat}{l:List (Bool × Int)}(h:cells[i]?=some l):(F8 cells)[i]?=some l.length:=by simp [F8,h]
theorem Aca {l:List Nat}{i m:Nat}(h:l[i]?=some m):(l.take (i+1)).sum=(l.take i).sum+m:=by rw [List.take_add_one,h,Option.toList_some,List.sum_append];simp
theorem Ow:∀ (l:List Nat)(i:Nat),(l.take i).sum≤l.sum
 | [],i=>by simp
 | a::l,0=>by simp
 | a::l,i+1=>by have:=Ow l i;simp;omega
theorem Alc {S:St}{C:AV}{ys:List AV}{cells:List (List (Bool × Int))}(hC:SlB S.boxes C (ys.map fun y=>[y]))(hl:ys.length=cells.length)(hr:∀ (j:Nat)(y:AV)(l:List (Bool × Int)),ys[j]?=some y→cells[j]?=some l→SlB S.boxes y (Jn l))
 (nd:(M4 C++ys.flatMap M4).Nodup)(hcl:cells.length≤1000000000)(k:Nat)(h1:k+2*(F8 cells).sum≤1000000000000) :
 Runs X 65 [C,vi k] S (fun r S'=>r=vi ((k+2*(F8 cells).sum:Nat):Int)∧S'.toks=S.toks∧Chg (ys.flatMap M4) S.boxes S'.boxes∧∀ (j:Nat) (y:AV) (l:List (Bool × Int)),ys[j]?=some y→(Ss k (F8 cells))[j]?=some l→SlB S'.boxes y (Jn l)):=by
 obtain ⟨_,nd2,nd3⟩:=List.nodup_append.1 nd
 have hlens:(F8 cells).length=ys.length:=by simp [F8,hl]
 rcases hC with ⟨b,ex,rfl,hb⟩ | ⟨he,sp,rfl⟩
 ·rw [List.length_map]
  refine Runs.run Tryz.func65 ?_
  refine AK.whileK (ι:=Nat × St) (fun i=>i.1≤ys.length∧i.2.toks=S.toks∧Chg (ys.flatMap M4) S.boxes i.2.boxes∧(∀ (j:Nat) (y:AV) (l:List (Bool × Int)),j<i.1→ys[j]?=some y→(Ss k (F8 cells))[j]?=some l→SlB i.2.boxes y (Jn l)) ∧
   ∀ (j:Nat) (y:AV) (l:List (Bool × Int)),i.1≤j→ys[j]?=some y→cells[j]?=some l→SlB i.2.boxes y (Jn l))
   (fun i=>[(5,vi i.1),(1,vi ((k+2*((F8 cells).take i.1).sum:Nat):Int)),(0,.bsl b ys.length)]) (fun i=>i.2) (fun i=>ys.length-i.1) ?_ (0,S)
   ⟨Nat.zero_le _,rfl,Chg.refl _ _,fun j y l h=>absurd h (Nat.not_lt_zero _),fun j y l _=>hr j y l⟩ ⟨rfl,rfl,rfl,trivial⟩ rfl
  intro i hi IH
  obtain ⟨i,S1⟩:=i
  obtain ⟨hi,ht,hch,hdone,hleft⟩:=hi
  simp only at hi ht hch hdone hleft
  refine AK.ei (fun g=>?_) (fun g=>?_)
  ·have hlt:i<ys.length:=by have:=of_decide_eq_true g;simp only at this;omega
   obtain ⟨y,hy⟩:=Ab ys hlt
   obtain ⟨l,hl'⟩:=Ab cells (i:=i) (by omega)
   have hm:=X1 hl'
   have hs:=Aca hm
   have hsl:=Ow (F8 cells) (i+1)
   have hb1:S1.boxes[b]?=some ((ys.map fun y=>[y])++ex):=by
    rw [hch.2 b (Aa hb) fun h=>nd3 b (by simp [M4]) b h rfl];exact hb
   have hr1:((ys.map fun y=>[y])++ex)[i]?=some [y]:=by rw [List.getElem?_append_left (by simpa using hlt),List.getElem?_map,hy];rfl
   refine AK.atE i hlt hb1 hr1 rfl ?_
   refine AK.ldF hb1 hr1 ?_
   refine AK.ha (xs:=[y,vi ((k+2*((F8 cells).take i).sum:Nat):Int)]) (Aot (hleft i y l (Nat.le_refl _) hy hl') (k+2*((F8 cells).take i).sum) (by omega)) ?_ (hx:=by rcases (hleft i y l (Nat.le_refl _) hy hl').shape with ⟨b',n',rfl⟩ | ⟨sp',rfl⟩<;>rfl)
   intro r S2 hP _ _
   obtain ⟨rfl,ht2,hc2,hs2⟩:=hP
   refine AK.ev 100 rfl ?_
   refine IH (i+1,S2) ⟨hlt,ht2.trans ht,?_,?_,?_⟩ (by simp only;omega) _ _ ⟨Bn ((Ac (by omega) (by omega)).trans (by simp only;omega)),Bn (by simp only [hs];omega),rfl,trivial⟩ rfl
   ·exact (hch.trans hc2).more fun a ha=>by
     rcases List.mem_append.1 ha with h | h
     ·exact h
     ·exact List.mem_flatMap.2 ⟨y,List.mem_of_getElem? hy,h⟩
   ·intro j z m hj hz hm'
    rcases Nat.lt_or_ge j i with h | h
    ·exact (hdone j z m h hz hm').chg hc2 fun c h1 h2=>Aj5 nd2 (by omega) hz hy h1 h2
    ·have:j=i:=by simp only at hj;omega
     subst this
     rw [hy] at hz;cases hz
     rw [Rc hm] at hm';cases hm'
     exact hs2
   ·intro j z m hj hz hm'
    simp only at hj
    exact (hleft j z m (by omega) hz hm').chg hc2 fun c h1 h2=>Aj5 nd2 (by omega) hz hy h1 h2
  ·have:i=ys.length:=by have:=of_decide_eq_false g;simp only at this;omega
   subst this
   have hst:(F8 cells).take ys.length=F8 cells:=by rw [← hlens,List.take_length]
   rw [hst]
   exact AK.retK Tryz.func65 (h:=rfl) ⟨_,rfl,rfl,ht,hch,fun j y l hy hm=>hdone j y l (Aa hy) hy hm⟩
 ·have h0:ys=[]:=by simpa using he
  subst h0
  have h2:cells=[]:=List.length_eq_zero_iff.1 hl.symm
  subst h2
  refine Runs.run Tryz.func65 ?_
  refine AK.loop ?_
  refine AK.ev 100 rfl ?_
  refine AK.no ?_
  exact AK.retK Tryz.func65 (h:=rfl) ⟨_,rfl,rfl,rfl,Chg.refl _ _,fun j y l h=>by simp at h⟩
def Abn (k:Nat)(c:Cf):Cf:={ c with vars:=mkI k c.vars.length,cells:=Ss (k+c.vars.length) (F8 c.cells) }
def Re (c:Cf):Nat:=c.vars.length+2*(F8 c.cells).sum
theorem Ald {S:St}{x:AV}{ids:List Nat}{c:Cf}(h:CfB SlB S.boxes x ids c)(hcl:c.cells.length≤1000000000)(k:Nat)(h1:k+Re c≤1000000000000) :
 Runs X 25 [x,vi k] S (fun r S'=>r=vi ((k+Re c:Nat):Int)∧S'.toks=S.toks∧Chg ids S.boxes S'.boxes∧CfB SlB S'.boxes x ids (Abn k c)):=by
 unfold Re at h1 ⊢
 obtain ⟨V,C,ys,rfl,hids,nd,hV,hC,hl,hr⟩:=h.ex
 have B2:=nd
 rw [hids] at nd
 obtain ⟨ndV,nd2,nd3⟩:=List.nodup_append.1 nd
 refine Runs.run Tryz.func25 ?_
 refine AK.boE (cs:=[vi c.pt,V,C,vi c.used,vi c.steps,vi c.trap,vi c.edge,vi c.acc]) rfl rfl ?_ (hc:=by rcases hV.shape with ⟨b',n',rfl⟩ | ⟨sp',rfl⟩<;>rcases hC.shape with ⟨b',n',rfl⟩ | ⟨sp',rfl⟩<;>rfl)
 have hb:(S.boxes++[[[vi c.pt,V,C,vi c.used,vi c.steps,vi c.trap,vi c.edge,vi c.acc]]])[S.boxes.length]?=some [[vi c.pt,V,C,vi c.used,vi c.steps,vi c.trap,vi c.edge,vi c.acc]]:=by simp
 have hrw:([[vi c.pt,V,C,vi c.used,vi c.steps,vi c.trap,vi c.edge,vi c.acc]]:List (List AV))[0]?=some [vi c.pt,V,C,vi c.used,vi c.steps,vi c.trap,vi c.edge,vi c.acc]:=rfl
 refine AK.ldF hb hrw ?_
 refine AK.ha (xs:=[V,vi k]) (Af2 (S:=⟨_,S.toks⟩) (l:=c.vars) hV.more k (by omega)) ?_ (hx:=by rcases hV.shape with ⟨b',n',rfl⟩ | ⟨sp',rfl⟩<;>rfl)
 intro r S2 hP _ _
 obtain ⟨rfl,ht2,hc2,hV2⟩:=hP
 refine AK.ev 1 rfl ?_
 refine AK.ev 1 rfl ?_
 refine AK.e0 20 rfl ?_
 have hfar:∀ a,a∈M4 V→a<S.boxes.length:=hV.lt
 have hb2:S2.boxes[S.boxes.length]?=some [[vi c.pt,V,C,vi c.used,vi c.steps,vi c.trap,vi c.edge,vi c.acc]]:=by
  rw [hc2.2 S.boxes.length (by simp) fun h=>by have:=hfar _ h;omega];exact hb
 refine AK.ldF hb2 hrw ?_
 have hC2:SlB S2.boxes C (ys.map fun y=>[y]):=hC.more.chg hc2 fun i hi hi2=>nd3 i hi2 i (List.mem_append_left _ hi) rfl
 have hr2:∀ (j:Nat) (y:AV) (l:List (Bool × Int)),ys[j]?=some y→c.cells[j]?=some l→SlB S2.boxes y (Jn l):=fun j y l hy hl =>
  (hr j y l hy hl).more.chg hc2 fun i hi hi2=>nd3 i hi2 i (List.mem_append_right _ (List.mem_flatMap.2 ⟨y,List.mem_of_getElem? hy,hi⟩)) rfl
 refine AK.ha (xs:=[C,vi ((k+c.vars.length:Nat):Int)]) (Alc hC2 hl hr2 nd2 hcl (k+c.vars.length) (by omega)) ?_ (hx:=by rcases hC.shape with ⟨b',n',rfl⟩ | ⟨sp',rfl⟩<;>rfl)
 intro r S3 hP _ _
 obtain ⟨rfl,ht3,hc3,hcs⟩:=hP
 refine AK.ev 100 rfl ?_
 have hV3:SlB S3.boxes V (E9 (mkI k c.vars.length)):=hV2.chg hc3 fun i hi hi2=>nd3 i hi i (List.mem_append_right _ hi2) rfl
 have hC3:SlB S3.boxes C (ys.map fun y=>[y]):=hC2.chg hc3 fun i hi hi2=>(List.nodup_append.1 nd2).2.2 i hi i hi2 rfl
 refine AK.retK Tryz.func25 (h:=rfl) ⟨_,rfl,?_,ht3.trans ht2,?_,⟨V,C,ys,rfl,hids,B2,hV3,hC3,?_,hcs⟩⟩
 ·rw [Nat.add_assoc];rfl
 ·refine (((Aib (M4 V) S.boxes _).trans hc2).trans hc3).more fun i hi=>?_
  rw [hids]
  simp only [List.mem_append] at hi ⊢
  rcases hi with (hi | hi) | hi
  ·exact .inl hi
  ·exact .inl hi
  ·exact .inr (.inr hi)
 ·show ys.length=(Ss _ _).length
  rw [Oe,F8,List.length_map];exact hl
theorem Aos (k n:Nat)(hn:k+n≤1000000000000):Pure X 34 [.sl (E9 (mkI k n)) .no,vi k] (vi ((k+n:Nat):Int)):=by
 have hlen:(E9 (mkI k n)).length=n:=by rw [D5,Uv]
 refine Pure.run Tryz.func34 ?_
 refine AK.while_ (ι:=Nat) 0 0 (fun i=>i≤n) (fun i=>[(5,vi i),(1,vi ((k+i:Nat):Int)),(0,.sl (E9 (mkI k n)) .no)]) (fun i=>⟨[],[]⟩) (fun i=>n-i) ?_ 0 (Nat.zero_le _)
  ⟨rfl,rfl,rfl,trivial⟩
 intro i hi IH
 refine AK.ei (fun h=>?_) (fun h=>?_)
 ·have hlt:i<n:=by have:=of_decide_eq_true h;rw [hlen] at this;omega
  refine AK.ix i (by omega) (Ec (f:=fun m=>[vi m]) (Anc hlt)) ?_
  refine AK.no ?_ (ht:=by simp)
  refine IH (i+1) hlt (by omega) _ _ ⟨vsx (by omega),vsx (by omega),rfl,trivial⟩ rfl rfl rfl
 ·have:i=n:=by have:=of_decide_eq_false h;rw [hlen] at this;omega
  subst this
  exact AK.rz Tryz.func34 rfl
theorem Aor (k n:Nat)(hn:k+2*n≤1000000000000):Pure X 112 [.sl (Jn (Wx k n)) .no,vi k] (vi ((k+2*n:Nat):Int)):=by
 have hlen:(Jn (Wx k n)).length=n:=by rw [Kp,Uu]
 refine Pure.run Tryz.func112 ?_
 refine AK.while_ (ι:=Nat) 0 0 (fun i=>i≤n) (fun i=>[(5,vi i),(1,vi ((k+2*i:Nat):Int)),(0,.sl (Jn (Wx k n)) .no)]) (fun i=>⟨[],[]⟩) (fun i=>n-i) ?_ 0 (Nat.zero_le _)
  ⟨rfl,rfl,rfl,trivial⟩
 intro i hi IH
 refine AK.ei (fun h=>?_) (fun h=>?_)
 ·have hlt:i<n:=by have:=of_decide_eq_true h;rw [hlen] at this;omega
  have e1:IntKind.i64.wrap (((k+2*i:Nat):Int)+1)=((k+2*i+1:Nat):Int):=by rw [Ac (by omega) (by omega)];omega
  have hg:=Ec (f:=Tt) (Anb (k:=k) hlt)
  refine AK.ix i (by omega) hg ?_
  refine AK.no ?_ (ht:=by simp [mb])
  refine AK.ix i (by omega) hg ?_
  refine AK.no ?_ (ht:=by rw [e1];simp)
  refine IH (i+1) hlt (by omega) _ _ ⟨vsx (by omega),Bn (by rw [e1,Ac (by omega) (by omega)];omega),rfl,trivial⟩ rfl rfl rfl
 ·have:i=n:=by have:=of_decide_eq_false h;rw [hlen] at this;omega
  subst this
  exact AK.rz Tryz.func112 rfl
theorem Alb (k:Nat)(ls:List Nat)(hll:ls.length≤1000000000)(hn:k+2*ls.sum≤1000000000000):Pure X 66 [.sl (Mp (Ss k ls)) .no,vi k] (vi ((k+2*ls.sum:Nat):Int)):=by
 have hlen:(Mp (Ss k ls)).length=ls.length:=by rw [Vi,Oe]
 refine Pure.run Tryz.func66 ?_
 refine AK.while_ (ι:=Nat) 0 0 (fun i=>i≤ls.length) (fun i=>[(5,vi i),(1,vi ((k+2*(ls.take i).sum:Nat):Int)),(0,.sl (Mp (Ss k ls)) .no)]) (fun i=>⟨[],[]⟩) (fun i=>ls.length-i) ?_ 0 (Nat.zero_le _)
  ⟨rfl,rfl,rfl,trivial⟩
 intro i hi IH
 refine AK.ei (fun h=>?_) (fun h=>?_)
 ·have hlt:i<ls.length:=by have:=of_decide_eq_true h;rw [hlen] at this;omega
  obtain ⟨m,hm⟩:=Ab ls hlt
  have hs:=Aca hm
  have hsl:=Ow ls (i+1)
  refine AK.ix i (by omega) (Ec (f:=Ame) (Rc (k:=k) hm)) ?_
  refine AK.pc (Aor (k+2*(ls.take i).sum) m (by omega)) ?_
  refine AK.no ?_ (ht:=decide_eq_false (by omega))
  refine IH (i+1) hlt (by omega) _ _ ⟨vsx (by omega),Bn (by simp only [hs];omega),rfl,trivial⟩ rfl rfl rfl
 ·have:i=ls.length:=by have:=of_decide_eq_false h;rw [hlen] at this;omega
  subst this
  rw [List.take_length]
  exact AK.rz Tryz.func66 rfl
theorem Acb (k:Nat)(c:Cf)(hcl:c.cells.length≤1000000000)(h1:k+Re c≤1000000000000):Pure X 26 [cf (Abn k c),vi k] (vi ((k+Re c:Nat):Int)):=by
 unfold Re at h1 ⊢
 refine Pure.run Tryz.func26 ?_
 refine AK.pc (Aos k c.vars.length (by omega)) ?_
 refine AK.no ?_ (ht:=decide_eq_false (by omega))
 refine AK.pc (Alb (k+c.vars.length) (F8 c.cells) (by simpa [F8] using hcl) (by omega)) ?_
 refine AK.no ?_ (ht:=decide_eq_false (by omega))
 refine AK.rz Tryz.func26 ?_
 rw [Nat.add_assoc]
theorem Afe {k:Nat}{c:Cf}(h:CfOk c):CfOk (Abn k c):=by
 refine ⟨by simp only [Abn,Uv];exact h.vars,by simp only [Abn,Oe,F8,List.length_map];exact h.cells,fun x hx=>?_⟩
 obtain ⟨i,hi⟩:=A3 hx
 have hil:=Aa hi
 simp only [Abn,Oe,F8,List.length_map] at hil
 obtain ⟨l,hl⟩:=Ab c.cells hil
 simp only [Abn] at hi
 rw [Rc (X1 hl)] at hi
 cases hi
 rw [Uu];exact h.rows l (List.mem_of_getElem? hl)
theorem Ve {q:Bool}(n:Nd):∀ {lo hi b d:Nat}{bx pre:List (List (List AV))},pre.length=d→Tr q lo hi bx b n→Tr q (lo+d) (hi+d) (pre++Tg d bx) (b+d) n:=by
 induction n using Nd.ind with
 | h n ih =>
 intro lo hi b d bx pre hd h
 obtain ⟨h1,rows,h2,h3⟩:=Im.1 h
 refine Im.2 ⟨by omega,rows.map fun r=>r.map (Gt d),?_,R1 (by simpa using O4 h3) fun i x hx=>?_⟩
 ·rw [List.getElem?_append_right (by omega),hd,Nat.add_sub_cancel,Tg,List.getElem?_map,h2];rfl
 ·obtain ⟨r,c,g1,⟨a1,a2,a3,rfl,g2⟩,g4⟩:=Mh h3 i x hx
  exact ⟨_,c+d,by rw [List.getElem?_map,g1];rfl,⟨a1,a2,a3,by simp [Gt],g2⟩,ih x (List.mem_of_getElem? hx) hd g4⟩
abbrev ndB (b:Nat)(n:Nd):AV:=.agg [vi n.kind,str n.name,vi n.num,.bsl b n.kids.length]
def TrG (n:Nd)(r:AV)(bx:List (List (List AV))):Prop:=∃ b,r=ndB b n∧Tr true 0 bx.length bx b n
def Ath (l:List Nd)(r:AV)(bx:List (List (List AV))):Prop:=∃ b,r=.bsl b l.length∧Tr true 0 bx.length bx b (.mk 0 [] 0 l)
theorem Aj4 {d b:Nat}(n:Nd):Sh d (ndB b n) (ndB (b+d) n):=.aggL (.cons (.val _) (.cons (.val _) (.cons (.val _) (.cons (.bsl b _) .nil))))
theorem Al8 {q:Bool}{lo hi b:Nat}{bx:List (List (List AV))}(n:Nd):Tr q lo hi bx b (.mk 0 [] 0 n.kids)↔Tr q lo hi bx b n:=by rw [Im,Im];rfl
theorem Aow (l:List Nd)(hl:l.length≤1000000000)(ih:∀ x,x∈l→Gives X 12 [nd x] (TrG x)):Gives X 51 [.sl (Ai l) .no] (Ath l):=by
 refine Gives.run Tryz.func51 ?_
 refine AK.op (Ndo.mkS (n:=(Ai l).length) (b:=0) (by rw [Ad];exact hl) rfl rfl rfl rfl rfl rfl rfl rfl rfl rfl) ?_
 refine AK.whileK (ι:=Nat × St) (fun i=>i.1≤l.length∧∃ rows,i.2.boxes[0]?=some rows∧rows.length=l.length∧(∀ (j:Nat) x,j<i.1→l[j]?=some x→∃ r c,rows[j]?=some r∧Al1 true x r c∧Tr true 1 i.2.boxes.length i.2.boxes c x)∧∀ j:Nat,i.1≤j→j<l.length→rows[j]?=some zN)
  (fun i=>[(4,vi i.1),(3,.bsl 0 l.length),(0,.sl (Ai l) .no)]) (fun i=>i.2) (fun i=>l.length-i.1) ?_ (0,⟨[List.replicate (Ai l).length zN],[]⟩)
  ⟨Nat.zero_le _,_,rfl,by rw [List.length_replicate,Ad],fun j x h=>absurd h (Nat.not_lt_zero _),fun j _ hj=>by rw [List.getElem?_replicate,if_pos (by rw [Ad];exact hj)]⟩ ⟨rfl,by rw [← Ad l];rfl,rfl,trivial⟩ rfl
 intro i hi IH
 obtain ⟨i,S1⟩:=i
 obtain ⟨hi,rows,hb,hrl,hdone,hleft⟩:=hi
 simp only at hi hb hdone hleft
 refine AK.ei (fun h=>?_) (fun h=>?_)
 ·have hlt:i<l.length:=by have:=of_decide_eq_true h;rw [Ad] at this;simp only at this;omega
  obtain ⟨x,hx⟩:=Ab l hlt
  refine AK.ix i (by omega) (Al hx) ?_
  refine AK.gv (ih x (List.mem_of_getElem? hx)) (.cons (.same _ (inferInstance:OK 0 0 (nd x)).ok) .nil) ?_
  intro r bx hP
  obtain ⟨b,rfl,hT⟩:=hP
  refine ⟨ndB (b+S1.boxes.length) x,Tg S1.boxes.length bx,Aj4 x,Qg _ _,?_⟩
  have hT2:=Ve x (pre:=S1.boxes) rfl hT
  have hb2:(S1.boxes++Tg S1.boxes.length bx)[0]?=some rows:=by rw [List.getElem?_append_left (Aa hb)];exact hb
  have hz:=hleft i (Nat.le_refl _) hlt
  have h1:1≤S1.boxes.length:=Aa hb
  refine AK.atE i hlt hb2 hz rfl ?_
  refine AK.stF hb2 hz rfl ?_
  refine IH (i+1,_) ⟨hlt,_,List.getElem?_set_self (Aa hb2),by rw [List.length_set];exact hrl,fun j y hj hy=>?_,fun j hj hjl=>?_⟩ (by simp only;omega) _ _ ⟨Bn ((Ac (by omega) (by omega)).trans (by simp only;omega)),rfl,rfl,trivial⟩ rfl
  ·by_cases hji:j=i
   ·subst hji
    rw [hx] at hy;cases hy
    refine ⟨_,b+S1.boxes.length,List.getElem?_set_self (by omega),⟨_,_,_,rfl,fun _=>rfl⟩,Mg x (by omega) (by simp [Ro];omega) (fun k z hk _ hz=>?_) hT2⟩
    show ((S1.boxes++Tg S1.boxes.length bx).set 0 _)[k]?=_
    rw [List.getElem?_set_ne (by omega)];exact hz
   ·obtain ⟨r,c,g1,g2,g3⟩:=hdone j y (by simp only at hj;omega) hy
    refine ⟨r,c,by rw [List.getElem?_set_ne (Ne.symm hji)];exact g1,g2,Mg y (Nat.le_refl _) (by simp) (fun k z hk hk2 hz=>?_) g3⟩
    show ((S1.boxes++Tg S1.boxes.length bx).set 0 _)[k]?=_
    rw [List.getElem?_set_ne (by omega),List.getElem?_append_left hk2];exact hz
  ·simp only at hj
   rw [List.getElem?_set_ne (by omega)]
   exact hleft j (by omega) hjl
 ·have:i=l.length:=by have:=of_decide_eq_false h;rw [Ad] at this;simp only at this;omega
  subst this
  refine AK.retK Tryz.func51 (h:=rfl) ⟨_,rfl,0,rfl,Im.2 ⟨⟨Nat.zero_le _,Aa hb⟩,rows,hb,R1 hrl fun j x hx=>?_⟩⟩
  obtain ⟨r,c,g1,g2,g3⟩:=hdone j x (Aa hx) hx
  exact ⟨r,c,g1,g2,Mg x (Nat.zero_le _) (Nat.le_refl _) (fun _ _ _ _ h=>h) g3⟩
theorem Arp (n:Nd)(hn:Af n≤1000000000):Gives X 12 [nd n] (TrG n):=by
 induction n using Nd.ind with
 | h n ih =>
 have hcn:=Be n
 have hll:=Ax n.kids
 refine Gives.run Tryz.func12 ?_
 refine AK.gv (Aow n.kids (by omega) (fun x hx=>ih x hx (by have:=Cw hx;omega))) (.cons (.same _ (inferInstance:OK 0 0 (.sl (Ai n.kids) .no)).ok) .nil) ?_
 intro r bx hP
 obtain ⟨b,rfl,hT⟩:=hP
 refine ⟨.bsl (b+3) n.kids.length,Tg 3 bx,.bsl b _,Qg _ _,?_⟩
 refine AK.ev 100 rfl ?_
 refine AK.retK Tryz.func12 (h:=rfl) ⟨_,rfl,b+3,rfl,?_⟩
 refine Mg n (Nat.zero_le _) ?_ (fun _ _ _ _ h=>h) (Ve n (d:=3) (bx:=bx) (pre:=[_,_,_]) rfl ((Al8 n).1 hT))
 simp [Ro]
def InG (l:List Int)(r:AV)(bx:List (List (List AV))):Prop:=∃ b,r=.bsl b l.length∧bx[b]?=some (E9 l)
theorem Aro (l:List Int)(hl:l.length≤1000000000):Gives X 20 [.sl (E9 l) .no] (InG l):=by
 have hlen:=D5 l
 refine Gives.run Tryz.func20 ?_
 refine AK.op (Ndo.mkS (n:=(E9 l).length) (b:=0) (by rw [hlen];exact hl) rfl rfl rfl rfl rfl rfl rfl rfl rfl rfl) ?_
 refine AK.while_ (ι:=Nat) 1 0 (fun i=>i≤l.length) (fun i=>[(4,vi i),(3,.bsl 0 l.length),(0,.sl (E9 l) .no)]) (fun i=>⟨[cpR Gi [vi 0] l i],[]⟩) (fun i=>l.length-i) ?_ 0 (Nat.zero_le _)
  ⟨rfl,by rw [← hlen];rfl,rfl,trivial⟩ (congrArg (fun b=>St.mk [b] []) (Aep Gi [vi 0] l).symm)
 intro i hi IH
 refine AK.ei (fun h=>?_) (fun h=>?_)
 ·have hlt:i<l.length:=by have:=of_decide_eq_true h;rw [hlen] at this;omega
  obtain ⟨x,hx⟩:=Ab l hlt
  have hr:=Aeo Gi [vi 0] hlt
  refine AK.ix i (by omega) (Ec (f:=Gi) hx) ?_
  refine AK.atB i hlt hr ?_
  refine AK.stB hr ?_
  refine IH (i+1) hlt (by omega) _ _ ⟨vsx (by omega),rfl,rfl,trivial⟩ ?_ rfl rfl
  exact congrArg (fun b=>St.mk [b] []) (Aeq Gi [vi 0] hx)
 ·have:i=l.length:=by have:=of_decide_eq_false h;rw [hlen] at this;omega
  subst this
  refine AK.retK Tryz.func20 (h:=rfl) ⟨_,rfl,0,rfl,?_⟩
  show some (cpR Gi [vi 0] l l.length)=_
  rw [Aen];rfl
def yR (d:Nat):List Nat→List AV
 | []=>[]
 | c::l=>.bsl d c::yR (d+1) l
def zcs (c:Nat):List (List AV):=List.replicate c [vb false,vi 0]
theorem If:∀ (l:List Nat)(d:Nat),(yR d l).length=l.length
 | [],d=>rfl
 | c::l,d=>by simp [yR,If l]
theorem Aln:∀ (a b:List Nat)(d:Nat),yR d (a++b)=yR d a++yR (d+a.length) b
 | [],b,d=>by simp [yR]
 | c::a,b,d=>by simp only [List.cons_append,yR,Aln a b,List.length_cons];rw [show d+1+a.length=d+(a.length+1) by omega]
theorem Aec:∀ {l:List Nat}{d j c:Nat},l[j]?=some c→(yR d l)[j]?=some (.bsl (d+j) c)
 | [],d,j,c,h=>by simp at h
 | c::l,d,0,c',h=>by simp at h;subst h;rfl
 | c::l,d,j+1,c',h=>by
   simp only [List.getElem?_cons_succ] at h
   simp only [yR,List.getElem?_cons_succ]
   rw [Aec h];congr 2;omega
theorem Apn:∀ (l:List Nat)(d:Nat),(yR d l).flatMap M4=List.range' d l.length
 | [],d=>rfl
 | c::l,d=>by simp only [yR,List.flatMap_cons,Apn l,List.length_cons,List.range'_succ,M4,List.singleton_append]
abbrev cR (d:Nat)(l:List Nat):List (List AV):=(yR d l).map fun y=>[y]
theorem Un (d:Nat)(l:List Nat)(c:Nat):cR d l++[[.bsl (d+l.length) c]]=cR d (l++[c]):=by simp [cR,Aln,yR]
theorem Aga (n:Nat):E9 (List.replicate n 0)=List.replicate n [vi 0]:=by simp [E9]
theorem Aer (n:Nat):Jn (List.replicate n (false,0))=zcs n:=by simp [Jn,zcs,Tt]
theorem Aem {nv d e:Nat}{cs:List Nat}{C:AV}{bx:List (List (List AV))}(hv:bx[e]?=some (List.replicate nv [vi 0]))(hed:e<d)(hc:∀ (j:Nat) c,cs[j]?=some c→bx[d+j]?=some (zcs c))
 (hC:SlG bx C (cR d cs))(hn:∀ b,b∈M4 C→d+cs.length≤b)(hnd:(M4 C).Nodup):∃ ids,CfB SlG bx (.agg [vi 0,.bsl e nv,C,vi 0,vi 0,vi 0,vi 0,vi 0]) ids (bgC nv cs):=by
 refine ⟨_,.bsl e nv,C,yR d cs,rfl,rfl,?_,.inl ⟨e,[],?_,?_⟩,hC,by rw [If];simp [bgC],fun j y l hy hl=>?_⟩
 ·rw [Apn]
  refine List.nodup_append.2 ⟨by simp [M4],List.nodup_append.2 ⟨hnd,List.nodup_range',fun a ha b hb=>?_⟩,fun a ha b hb=>?_⟩
  ·have:=hn a ha
   have:=(List.mem_range'_1.1 hb)
   omega
  ·simp [M4] at ha
   subst ha
   rcases List.mem_append.1 hb with h | h
   ·have:=hn b h;omega
   ·have:=(List.mem_range'_1.1 h);omega
 ·rw [D5];simp [bgC]
 ·rw [List.append_nil,hv];simp only [bgC];rw [Aga]
 ·simp only [bgC,List.getElem?_map] at hl
  cases hcj:cs[j]? with
  | none=>rw [hcj] at hl;cases hl
  | some c =>
    rw [hcj] at hl;cases hl
    rw [Aec hcj] at hy;cases hy
    refine .inl ⟨d+j,[],by rw [Kp];simp,?_⟩
    rw [List.append_nil,hc j c hcj,Aer]
theorem U4 (bx:List (List (List AV))):CfB SlG bx (.agg [vi 0,.sl [] .tight,.sl [] .tight,vi 0,vi 0,vi 0,vi 0,vi 0]) [] zC :=
 ⟨.sl [] .tight,.sl [] .tight,[],rfl,rfl,.nil,.inr ⟨rfl,rfl,rfl⟩,.inr ⟨rfl,rfl,rfl⟩,rfl,fun j y l h=>by simp at h⟩
def Mi (nv:Nat):Option (List Nat)→Cf
 | some cs=>bgC nv cs
 | none=>zC
def BgP (nv:Nat)(o:Option (List Nat))(r:AV)(bx:List (List (List AV))):Prop:=∃ x ids,r=.tup [x,vb o.isSome]∧CfB SlG bx x ids (Mi nv o)
structure BgI (ss ls:List Int)(i:List Nat × Nat):Prop where
 len:i.1.length≤ss.length
 u:i.2≤ls.length
 eq:L9 ss ls=(L9 (ss.drop i.1.length) (ls.drop i.2)).map (i.1++·)
 small:∀ c,c∈i.1→c≤1000000
theorem O7 {α:Type}{l:List α}{i:Nat}{x:α}(h:l[i]?=some x):l.drop i=x::l.drop (i+1):=by
 obtain ⟨h1,h2⟩:=List.getElem?_eq_some_iff.1 h
 rw [List.drop_eq_getElem_cons h1,h2]
theorem BgI.given {ss ls:List Int}{cs:List Nat}{u:Nat}{s m:Int}(h:BgI ss ls (cs,u))(hs:ss[cs.length]?=some s)(h0:s<0)(hm:ls[u]?=some m)(hb:Bu m 0 60=true):BgI ss ls (cs++[m.toNat],u+1):=by
 refine ⟨by have:=Aa hs;simp;omega,Aa hm,?_,fun c hc=>?_⟩
 ·rw [h.eq]
  simp only
  rw [O7 hs,O7 hm,L9,if_pos h0]
  simp only [hb,if_true,List.length_append,List.length_singleton,Option.map_map]
  congr 1;funext l;simp
 ·rcases List.mem_append.1 hc with hc | hc
  ·exact h.small c hc
  ·simp at hc;subst hc
   simp only [Bu,Bool.and_eq_true,decide_eq_true_eq] at hb;omega
theorem BgI.known {ss ls:List Int}{cs:List Nat}{u:Nat}{s:Int}(h:BgI ss ls (cs,u))(hs:ss[cs.length]?=some s)(h0:0≤s)(h1:s≤1000000):BgI ss ls (cs++[s.toNat],u):=by
 refine ⟨by have:=Aa hs;simp;omega,h.u,?_,fun c hc=>?_⟩
 ·rw [h.eq]
  simp only
  rw [O7 hs]
  cases hd:ls.drop u with
  | nil=>rw [L9,if_neg (by omega)];simp only [List.length_append,List.length_singleton,Option.map_map];congr 1;funext l;simp
  | cons a l=>rw [L9,if_neg (by omega)];simp only [List.length_append,List.length_singleton,Option.map_map];congr 1;funext l;simp
 ·rcases List.mem_append.1 hc with hc | hc
  ·exact h.small c hc
  ·simp at hc;subst hc;omega
theorem BgI.none1 {ss ls:List Int}{cs:List Nat}{u:Nat}{s:Int}(h:BgI ss ls (cs,u))(hs:ss[cs.length]?=some s)(h0:s<0)(hu:u=ls.length):L9 ss ls=none:=by
 rw [h.eq]
 simp only
 rw [O7 hs,hu,List.drop_length,L9,if_pos h0];rfl
theorem BgI.none2 {ss ls:List Int}{cs:List Nat}{u:Nat}{s m:Int}(h:BgI ss ls (cs,u))(hs:ss[cs.length]?=some s)(h0:s<0)(hm:ls[u]?=some m)(hb:Bu m 0 60=false):L9 ss ls=none:=by
 rw [h.eq]
 simp only
 rw [O7 hs,O7 hm,L9,if_pos h0]
 simp [hb]
theorem BgI.none3 {ss ls:List Int}{cs:List Nat}{u:Nat}(h:BgI ss ls (cs,u))(hc:cs.length=ss.length)(hu:u<ls.length):L9 ss ls=none:=by
 rw [h.eq]
 simp only
 rw [hc,List.drop_length,List.drop_eq_getElem_cons hu,L9];rfl
theorem BgI.all {ss ls:List Int}{cs:List Nat}{u:Nat}(h:BgI ss ls (cs,u))(hc:cs.length=ss.length)(hu:u=ls.length):L9 ss ls=some cs:=by
 rw [h.eq]
 simp only
 rw [hc,List.drop_length,hu,List.drop_length,L9];simp
theorem An2 (n:Nd)(hr:Ib n=true)(ls:List Int)(hls:ls.length≤1000000000):Gives X 63 [.cptr (Abv n),.sl (E9 ls) .no] (BgP (Ay n 31).length (L9 (Br n) ls)):=by
 have hkl:=(Hy hr).2.2.2.2
 have hvl:(Ay n 31).length≤4500:=Nat.le_trans (Ll n 31) hkl
 have hsl:(Br n).length≤4500:=by rw [Qi];exact Nat.le_trans (Ll n 32) hkl
 have hsz:=Wt hr
 have hvr:(B4 (Ay n 31)).length=(Ay n 31).length:=Dk _
 refine Gives.run Tryz.func63 ?_
 refine AK.op (Ndo.mkS (n:=(B4 (Ay n 31)).length) (b:=1) (by rw [hvr];omega) rfl rfl rfl rfl rfl rfl rfl rfl rfl rfl) ?_
 refine AK.mintP 2 0 2 ?_
 have hzl:=D5 (Br n)
 have hll:=D5 ls
 refine AK.whileK (ι:=List Nat × Nat) (BgI (Br n) ls) (fun i=>[(22,vi i.1.length),(7,vi i.2),(21,vi (Br n).length),(20,.sl (E9 (Br n)) .no),(1,.sl (E9 ls) .no),(6,.ptr 2 0 0),(4,.ptr 0 0 0)])
  (fun i=>⟨[[vi 0,.sl [] .tight,.sl [] .tight,vi 0,vi 0,vi 0,vi 0,vi 0]]::List.replicate (B4 (Ay n 31)).length [vi 0]::[[vi 0,.bsl 1 (B4 (Ay n 31)).length,.psl (cR 3 i.1) 0 i.1.length,vi 0,vi 0,vi 0,vi 0,vi 0]]::i.1.map zcs,[i.1.length]⟩) (fun i=>(Br n).length-i.1.length) ?_ ([],0)
  ⟨Nat.zero_le _,Nat.zero_le _,by simp,fun c h=>by cases h⟩ ⟨rfl,rfl,by rw [← hzl];rfl,rfl,rfl,rfl,rfl,trivial⟩ rfl
 intro i hI IH
 obtain ⟨cs,u⟩:=i
 have hcl:=hI.len
 have hul:=hI.u
 simp only at hcl hul
 refine AK.ei (fun h=>?_) (fun h=>?_)
 ·have hlt:cs.length<(Br n).length:=by have:=of_decide_eq_true h;simp only at this;omega
  obtain ⟨s,hs⟩:=Ab (Br n) hlt
  have hs1:=hsz s (List.mem_of_getElem? hs)
  refine AK.ix cs.length (by omega) (Ec (f:=Gi) hs) ?_
  refine AK.if_ (fun h0=>?_) (fun h0=>?_)
  ·have h0':=of_decide_eq_true h0
   refine AK.gd (fun g=>?_) (fun g=>?_)
   ·have hu:u=ls.length:=by have:=eq_of_beq g;rw [hll] at this;simp only at this;omega
    refine AK.yes ?_
    rw [hI.none1 hs h0' hu]
    exact AK.retK Tryz.func63 (h:=rfl) ⟨_,rfl,_,[],rfl,U4 _⟩
   ·have hu:u<ls.length:=by
     have:¬ u=ls.length:=fun hh=>by subst hh;rw [hll] at g;simp at g
     omega
    obtain ⟨m,hm⟩:=Ab ls hu
    refine AK.ix u (by omega) (Ec (f:=Gi) hm) ?_
    refine AK.pc (Ahn m 0 60) ?_
    refine AK.if_ (fun gb=>?_) (fun gb=>?_)
    ·have gb':Bu m 0 60=false:=by simpa using gb
     rw [hI.none2 hs h0' hm gb']
     exact AK.retK Tryz.func63 (h:=rfl) ⟨_,rfl,_,[],rfl,U4 _⟩
    ·have gb':Bu m 0 60=true:=by simpa using gb
     have hnew:=hI.given hs h0' hm gb'
     obtain ⟨k,rfl⟩:∃ k:Nat,m=k:=⟨m.toNat,by simp only [Bu,Bool.and_eq_true,decide_eq_true_eq] at gb';omega⟩
     refine AK.ix u (by omega) (Ec (f:=Gi) hm) ?_
     refine AK.db 168 ?_
     refine Dv (Ndo.mkS (n:=k) (b:=3+cs.length) (by have:=hnew.small k (by simp);omega) (by simp;omega) rfl rfl rfl rfl rfl rfl rfl rfl rfl) (Aq (Ndo.ev rfl rfl rfl) Fp) ?_
     refine Drv.m ?_
     refine Drv.w (Nv (ver:=cs.length) rfl (fun r hr=>by obtain ⟨y,_,rfl⟩:=List.mem_map.1 hr;rfl) (fun r hr x hx=>by simp at hr;subst hr;simp at hx;subst hx;exact .bsl _ _) ?_ (Un 3 cs k) rfl rfl rfl rfl rfl rfl rfl rfl rfl rfl rfl rfl rfl rfl rfl rfl rfl) ?_
     ·simp [If];omega
     refine Drv.e ?_
     refine Drv.w (Ndo.store rfl rfl rfl rfl rfl rfl rfl) ?_
     refine Drv.z ?_
     refine IH (cs++[k],u+1) hnew (by simp;omega) _ _ ⟨Bn ?_,Bn ((Ac (by omega) (by omega)).trans (by simp)),rfl,rfl,rfl,rfl,rfl,trivial⟩ ?_
     ·rw [Ac (by simp only;omega) (by simp only;omega)];simp
     ·simp [zcs]
  ·have h0':0≤s:=by have:=of_decide_eq_false h0;omega
   have hnew:=hI.known hs h0' hs1
   obtain ⟨k,rfl⟩:∃ k:Nat,s=k:=⟨s.toNat,by omega⟩
   refine AK.db 168 ?_
   refine Dv (Ndo.mkS (n:=k) (b:=3+cs.length) (by have:=hnew.small k (by simp);omega) (by simp;omega) rfl rfl rfl rfl rfl rfl rfl rfl rfl) (Aq (Ndo.ev rfl rfl rfl) Fp) ?_
   refine Drv.m ?_
   refine Drv.w (Nv (ver:=cs.length) rfl (fun r hr=>by obtain ⟨y,_,rfl⟩:=List.mem_map.1 hr;rfl) (fun r hr x hx=>by simp at hr;subst hr;simp at hx;subst hx;exact .bsl _ _) ?_ (Un 3 cs k) rfl rfl rfl rfl rfl rfl rfl rfl rfl rfl rfl rfl rfl rfl rfl rfl rfl) ?_
   ·simp [If];omega
   refine Drv.e ?_
   refine Drv.w (Ndo.store rfl rfl rfl rfl rfl rfl rfl) ?_
   refine Drv.z ?_
   refine IH (cs++[k],u) hnew (by simp;omega) _ _ ⟨Bn ?_,rfl,rfl,rfl,rfl,rfl,rfl,trivial⟩ ?_
   ·rw [Ac (by simp only;omega) (by simp only;omega)];simp
   ·simp [zcs]
 ·have hce:cs.length=(Br n).length:=by have:=of_decide_eq_false h;simp only at this;omega
  by_cases hu:u=ls.length
  ·have hall:=hI.all hce hu
   rw [hall]
   have hg:∀ (j:Nat) c (A B C:List (List AV)) T,cs[j]?=some c→(A::B::C::(cs.map zcs++T))[3+j]?=some (zcs c):=fun j c A B C T hj=>by
    rw [show 3+j=j+1+1+1 by omega]
    simp only [List.getElem?_cons_succ]
    rw [List.getElem?_append_left (by simpa using Aa hj),List.getElem?_map,hj];rfl
   have hbg:bgC (B4 (Ay n 31)).length cs=bgC (Ay n 31).length cs:=by rw [hvr]
   by_cases hne:cs=[]
   ·subst hne
    refine AK.no ?_ (ht:=by rw [hll,hu];simp)
    obtain ⟨ids,hG⟩:=Aem (nv:=(B4 (Ay n 31)).length) (d:=3) (e:=1) (cs:=[]) (C:=.psl [] 0 0) (bx:=[[[vi 0,.bsl 1 (B4 (Ay n 31)).length,.psl [] 0 0,vi 0,vi 0,vi 0,vi 0,vi 0]],List.replicate (B4 (Ay n 31)).length [vi 0],[[vi 0,.bsl 1 (B4 (Ay n 31)).length,.psl [] 0 0,vi 0,vi 0,vi 0,vi 0,vi 0]]])
     rfl (by omega) (fun j c h=>by simp at h) (.inr ⟨rfl,rfl,rfl⟩) (fun b h=>by simp [M4] at h) .nil
    rw [hbg] at hG
    exact AK.retK Tryz.func63 (h:=rfl) ⟨_,rfl,_,ids,rfl,hG⟩
   ·refine AK.ownB 2 0 2 (rows:=cR 3 cs) (m:=3+cs.length) (n:=cs.length) (fun h=>hne (List.length_eq_zero_iff.1 (by have:=congrArg List.length h;simpa [If] using this))) (fun k z=>?_) (hm:=by simp;omega) (hn:=by simp [If])
    refine AK.no ?_ (ht:=by rw [hll,hu];simp)
    obtain ⟨ids,hG⟩:=Aem (nv:=(B4 (Ay n 31)).length) (d:=3) (e:=1) (cs:=cs) (C:=.bsl (3+cs.length) cs.length) (bx:=[[vi 0,.bsl 1 (B4 (Ay n 31)).length,.bsl (3+cs.length) cs.length,vi 0,vi 0,vi 0,vi 0,vi 0]]::List.replicate (B4 (Ay n 31)).length [vi 0] ::
     [[vi 0,.bsl 1 (B4 (Ay n 31)).length,.bsl (3+cs.length) cs.length,vi 0,vi 0,vi 0,vi 0,vi 0]]::(cs.map zcs++[cR 3 cs++Ub k z]))
     rfl (by omega) (fun j c h=>hg j c _ _ _ _ h) (.inl ⟨3+cs.length,Ub k z,by simp [If],by rw [show 3+cs.length=cs.length+1+1+1 by omega];simp⟩) (fun b h=>by simp [M4] at h;omega) (by simp [M4])
    rw [hbg] at hG
    exact AK.retK Tryz.func63 (h:=rfl) ⟨_,rfl,_,ids,rfl,hG⟩
  ·rw [hI.none3 hce (by omega)]
   refine AK.yes ?_ (ht:=by rw [hll];simp;omega)
   exact AK.retK Tryz.func63 (h:=rfl) ⟨_,rfl,_,[],rfl,U4 _⟩
theorem SlB.given {bx:List (List (List AV))}{x:AV}{rows:List (List AV)}(h:SlB bx x rows):SlG bx x rows:=by
 rcases h with h | ⟨rfl,sp,rfl⟩
 ·exact .inl h
 ·exact .inr ⟨rfl,rfl,rfl⟩
theorem CfB.given {bx:List (List (List AV))}{x:AV}{ids:List Nat}{c:Cf}(h:CfB SlB bx x ids c):CfB SlG bx x ids c:=by
 obtain ⟨V,C,ys,h1,h2,h3,h4,h5,h6,h7⟩:=h.ex
 exact ⟨V,C,ys,h1,h2,h3,h4.given,h5.given,h6,fun j y l hy hl=>(h7 j y l hy hl).given⟩
theorem CfB.parts {Sl:List (List (List AV))→AV→List (List AV)→Prop}{bx:List (List (List AV))}{x:AV}{ids:List Nat}{c:Cf}(h:CfB Sl bx x ids c):∃ V C,x=.agg [vi c.pt,V,C,vi c.used,vi c.steps,vi c.trap,vi c.edge,vi c.acc]:=by
 obtain ⟨V,C,ys,h1,_⟩:=h.ex
 exact ⟨V,C,h1⟩
theorem CfB.shapes {bx:List (List (List AV))}{V C:AV}{a1 a2 a3 a4 a5 a6:Int}{ids:List Nat}{c:Cf}(h:CfB SlB bx (.agg [vi a1,V,C,vi a2,vi a3,vi a4,vi a5,vi a6]) ids c):((∃ b n,V=.bsl b n)∨∃ sp,V=.sl [] sp)∧((∃ b n,C=.bsl b n)∨∃ sp,C=.sl [] sp):=by
 obtain ⟨V',C',ys,h1,h2,h3,h4,h5,h6,h7⟩:=h.ex
 simp only [AV.agg.injEq,List.cons.injEq] at h1
 obtain ⟨_,rfl,rfl,_⟩:=h1
 exact ⟨h4.shape,h5.shape⟩
theorem Aak {d:Nat}{x y:AV}{b:Bool}(h:Sh d x y):Sh d (.tup [x,vb b]) (.tup [y,vb b]):=by
 have h:=(ShL.cons h (.cons (.val (.bool b)) .nil)).get
 exact .tup _ _ h.1 h.2
theorem An1 (n:Nd)(hn:Af n≤1000000000)(hnum:PrI n)(ls:List Int)(hls:ls.length≤1000000000):Gives X 21 [nd n,.sl (E9 ls) .no] (BgP (Ay n 31).length (R2 n ls)):=by
 have hp:=Aaa n hn hnum
 unfold R2
 refine Gives.run Tryz.func21 ?_
 cases hr:Ib n with
 | false =>
   rw [if_neg (by simp [hr])] at hp
   refine AK.pc hp ?_
   refine AK.yes ?_
   exact AK.retK Tryz.func21 (h:=rfl) ⟨_,rfl,_,[],rfl,U4 _⟩
 | true =>
   rw [if_pos hr] at hp
   refine AK.pc hp ?_
   refine AK.no ?_
   refine AK.gv (An2 n hr ls hls) (.cons (.same _ (inferInstance:OK 0 0 (.cptr (Abv n))).ok) (.cons (.same _ (inferInstance:OK 0 0 (.sl (E9 ls) .no)).ok) .nil)) ?_
   intro r bx hP
   obtain ⟨x,ids,rfl,hC⟩:=hP
   rw [if_pos rfl]
   obtain ⟨V,C,rfl⟩:=hC.parts
   have hH:=fun a b=>CfB.held (pre:=[a,b]) hC
   refine ⟨.tup [.agg [vi _,Gt 2 V,Gt 2 C,vi _,vi _,vi _,vi _,vi _],vb _],Tg 2 bx,Aak (by have:=Aag 2 (.agg [vi (Mi (Ay n 31).length (L9 (Br n) ls)).pt,V,C,vi (Mi (Ay n 31).length (L9 (Br n) ls)).used,vi (Mi (Ay n 31).length (L9 (Br n) ls)).steps,vi (Mi (Ay n 31).length (L9 (Br n) ls)).trap,vi (Mi (Ay n 31).length (L9 (Br n) ls)).edge,vi (Mi (Ay n 31).length (L9 (Br n) ls)).acc]);simpa [Gt,Qh] using this),Qg _ _,?_⟩
   have hH0:∀ a b,CfB SlB (a::b::Tg 2 bx) (.agg [vi (Mi (Ay n 31).length (L9 (Br n) ls)).pt,Gt 2 V,Gt 2 C,vi (Mi (Ay n 31).length (L9 (Br n) ls)).used,vi (Mi (Ay n 31).length (L9 (Br n) ls)).steps,vi (Mi (Ay n 31).length (L9 (Br n) ls)).trap,vi (Mi (Ay n 31).length (L9 (Br n) ls)).edge,vi (Mi (Ay n 31).length (L9 (Br n) ls)).acc]) (ids.map (·+2)) (Mi (Ay n 31).length (L9 (Br n) ls)):=fun a b=>by
    have:=hH a b
    simpa [Gt,Qh] using this
   generalize Gt 2 V=V2 at hH0 ⊢
   generalize Gt 2 C=C2 at hH0 ⊢
   rcases (hH0 [] []).shapes with ⟨⟨v1,v2,rfl⟩ | ⟨v1,rfl⟩,⟨c1,c2,rfl⟩ | ⟨c1,rfl⟩⟩ <;>
   ·refine AK.ev 100 rfl ?_
    exact AK.retK Tryz.func21 (h:=rfl) ⟨_,rfl,_,_,rfl,(hH0 _ _).given⟩
theorem Ao7 (d:Nat)(l:List Nat):Hg 1 (cR d l)=true:=Io (f:=fun y:AV=>[y]) (fun _=>rfl) _
theorem Asi {S:St}{nv d e:Nat}{cs:List Nat}(hv:S.boxes[e]?=some (List.replicate nv [vi 0]))(hnv:nv≤1000000)(hl:cs.length≤1000000)(hc:∀ (j:Nat) c,cs[j]?=some c→S.boxes[d+j]?=some (zcs c))(hcl:∀ c,c∈cs→c≤1000000)(sp:Sp) :
 Fz S 0 0 (.tup [.agg [vi 0,.bsl e nv,.sl (cR d cs) sp,vi 0,vi 0,vi 0,vi 0,vi 0],vb true]) (.tup [cf (bgC nv cs),vb true]):=by
 have fV:Fz S 0 0 (.bsl e nv) (.sl (E9 (List.replicate nv 0)) .no) :=
  SlB.flat (.inl ⟨e,[],by rw [D5];simp,by rw [List.append_nil,hv,Aga]⟩) (by rw [D5];simp;omega) inferInstance
 have fC:Fz S 0 0 (.sl (cR d cs) sp) (.sl (Mp (cs.map fun k=>List.replicate k (false,0))) .no):=by
  refine .strip _ _ sp (by rw [Vi];simp [If]) (fun i r r' h1 h2=>?_) fun i j r r' x y h1 h2 h3 h4=>?_
  ·simp only [Mp,List.getElem?_map,Option.map_map] at h1 h2
   cases hy:(yR d cs)[i]? with
   | none=>rw [hy] at h1;cases h1
   | some y =>
     cases hk:cs[i]? with
     | none=>rw [hk] at h2;cases h2
     | some k=>rw [hy] at h1;rw [hk] at h2;cases h1;cases h2;rfl
  ·simp only [Mp,List.getElem?_map,Option.map_map] at h1 h2
   cases hk:cs[i]? with
   | none=>rw [hk] at h2;cases h2
   | some k =>
     rw [Aec hk] at h1;rw [hk] at h2
     cases h1;cases h2
     have hj:j=0:=by have:=Aa h3;simp at this;omega
     subst hj
     simp at h3 h4
     subst h3;subst h4
     exact SlB.flat (.inl ⟨d+i,[],by rw [Kp];simp,by rw [List.append_nil,hc i k hk,Aer]⟩) (by rw [Kp];simp;have:=hcl k (List.mem_of_getElem? hk);omega) inferInstance
 refine .tup _ _ rfl fun j a b ha hb=>?_
 match j,ha,hb with
 | 0,ha,hb =>
   simp at ha hb;subst ha;subst hb
   refine .agg _ _ rfl fun j a b ha hb=>?_
   match j,ha,hb with
   | 0,ha,hb=>simp at ha hb;subst ha;subst hb;exact .same _ (.val _)
   | 1,ha,hb=>simp at ha hb;subst ha;subst hb;exact fV
   | 2,ha,hb=>simp at ha hb;subst ha;subst hb;exact fC
   | 3,ha,hb=>simp at ha hb;subst ha;subst hb;exact .same _ (.val _)
   | 4,ha,hb=>simp at ha hb;subst ha;subst hb;exact .same _ (.val _)
   | 5,ha,hb=>simp at ha hb;subst ha;subst hb;exact .same _ (.val _)
   | 6,ha,hb=>simp at ha hb;subst ha;subst hb;exact .same _ (.val _)
   | 7,ha,hb=>simp at ha hb;subst ha;subst hb;exact .same _ (.val _)
   | j+8,ha,_=>simp at ha
 | 1,ha,hb=>simp at ha hb;subst ha;subst hb;exact .same _ (.val _)
 | j+2,ha,_=>simp at ha
theorem Anl (n:Nd)(hr:Ib n=true)(ls:List Int)(hls:ls.length≤1000000000):Pure X 62 [.agg (Af3 n),.sl (E9 ls) .no] (.tup [cf (Mi (Ay n 31).length (L9 (Br n) ls)),vb (L9 (Br n) ls).isSome]):=by
 have hkl:=(Hy hr).2.2.2.2
 have hvl:(Ay n 31).length≤4500:=Nat.le_trans (Ll n 31) hkl
 have hsl:(Br n).length≤4500:=by rw [Qi];exact Nat.le_trans (Ll n 32) hkl
 have hsz:=Wt hr
 have hvr:(B4 (Ay n 31)).length=(Ay n 31).length:=Dk _
 refine Pure.run Tryz.func62 ?_
 refine AK.op (Ndo.mkS (n:=(B4 (Ay n 31)).length) (b:=2) (by rw [hvr];omega) rfl rfl rfl rfl rfl rfl rfl rfl rfl rfl) ?_
 refine AK.mintB 3 0 2 rfl rfl rfl rfl rfl rfl ?_
 have hzl:=D5 (Br n)
 have hll:=D5 ls
 refine AK.whileK (ι:=List Nat × Nat) (BgI (Br n) ls) (fun i=>[(8,vi i.1.length),(7,vi i.2),(1,.sl (E9 ls) .no),(6,.ptr 3 0 0),(4,.ptr 1 0 0),(2,.ptr 0 0 0)])
  (fun i=>⟨[Af3 n]::[[vi 0,.sl [] .tight,.sl [] .tight,vi 0,vi 0,vi 0,vi 0,vi 0]]::List.replicate (B4 (Ay n 31)).length [vi 0]::[[vi 0,.bsl 2 (B4 (Ay n 31)).length,.sl (cR 4 i.1) (.tok 0),vi 0,vi 0,vi 0,vi 0,vi 0]]::i.1.map zcs,[i.1.length]⟩) (fun i=>(Br n).length-i.1.length) ?_ ([],0)
  ⟨Nat.zero_le _,Nat.zero_le _,by simp,fun c h=>by cases h⟩ ⟨rfl,rfl,rfl,rfl,rfl,rfl,trivial⟩ rfl
 intro i hI IH
 obtain ⟨cs,u⟩:=i
 have hcl:=hI.len
 have hul:=hI.u
 simp only at hcl hul
 refine AK.ei (fun h=>?_) (fun h=>?_)
 ·have hlt:cs.length<(Br n).length:=by have:=of_decide_eq_true h;rw [hzl] at this;simp only at this;omega
  obtain ⟨s,hs⟩:=Ab (Br n) hlt
  have hs1:=hsz s (List.mem_of_getElem? hs)
  refine AK.ix cs.length (by omega) (Ec (f:=Gi) hs) ?_
  refine AK.if_ (fun h0=>?_) (fun h0=>?_)
  ·have h0':=of_decide_eq_true h0
   refine AK.gd (fun g=>?_) (fun g=>?_)
   ·have hu:u=ls.length:=by have:=of_decide_eq_true g;rw [hll] at this;simp only at this;omega
    refine AK.yes ?_
    rw [hI.none1 hs h0' hu]
    exact AK.rz Tryz.func62 rfl
   ·have hu:u<ls.length:=by have:=of_decide_eq_false g;rw [hll] at this;simp only at this;omega
    obtain ⟨m,hm⟩:=Ab ls hu
    refine AK.ix u (by omega) (Ec (f:=Gi) hm) ?_
    refine AK.pc (J0 m 0 60) ?_
    refine AK.if_ (fun gb=>?_) (fun gb=>?_)
    ·have gb':Bu m 0 60=false:=by simpa using gb
     rw [hI.none2 hs h0' hm gb']
     exact AK.rz Tryz.func62 rfl
    ·have gb':Bu m 0 60=true:=by simpa using gb
     have hnew:=hI.given hs h0' hm gb'
     obtain ⟨k,rfl⟩:∃ k:Nat,m=k:=⟨m.toNat,by simp only [Bu,Bool.and_eq_true,decide_eq_true_eq] at gb';omega⟩
     refine AK.ix u (by omega) (Ec (f:=Gi) hm) ?_
     refine AK.db 168 ?_
     refine Dv (Ndo.mkS (n:=k) (b:=4+cs.length) (by have:=hnew.small k (by simp);omega) (by simp;omega) rfl rfl rfl rfl rfl rfl rfl rfl rfl) (Aq (Ndo.ev rfl rfl rfl) Fp) ?_
     refine Drv.m ?_
     refine Drv.w (Ndo.append (res:=cR 4 (cs++[k])) rfl rfl rfl rfl rfl rfl rfl rfl rfl rfl rfl rfl rfl rfl (by simp [If]) (Ao7 _ _) rfl rfl rfl ?_ (Un 4 cs k) rfl) ?_
     ·simp [If];omega
     refine Drv.e ?_
     refine Drv.w (Ndo.store rfl rfl rfl rfl rfl rfl rfl) ?_
     refine Drv.z ?_
     refine IH (cs++[k],u+1) hnew (by simp;omega) _ _ ⟨Bn ?_,Bn ((Ac (by omega) (by omega)).trans (by simp)),rfl,rfl,rfl,rfl,trivial⟩ ?_
     ·rw [Ac (by simp only;omega) (by simp only;omega)];simp
     ·simp [zcs,If]
  ·have h0':0≤s:=by have:=of_decide_eq_false h0;omega
   have hnew:=hI.known hs h0' hs1
   obtain ⟨k,rfl⟩:∃ k:Nat,s=k:=⟨s.toNat,by omega⟩
   refine AK.db 168 ?_
   refine Dv (Ndo.mkS (n:=k) (b:=4+cs.length) (by have:=hnew.small k (by simp);omega) (by simp;omega) rfl rfl rfl rfl rfl rfl rfl rfl rfl) (Aq (Ndo.ev rfl rfl rfl) Fp) ?_
   refine Drv.m ?_
   refine Drv.w (Ndo.append (res:=cR 4 (cs++[k])) rfl rfl rfl rfl rfl rfl rfl rfl rfl rfl rfl rfl rfl rfl (by simp [If]) (Ao7 _ _) rfl rfl rfl ?_ (Un 4 cs k) rfl) ?_
   ·simp [If];omega
   refine Drv.e ?_
   refine Drv.w (Ndo.store rfl rfl rfl rfl rfl rfl rfl) ?_
   refine Drv.z ?_
   refine IH (cs++[k],u) hnew (by simp;omega) _ _ ⟨Bn ?_,rfl,rfl,rfl,rfl,rfl,trivial⟩ ?_
   ·rw [Ac (by simp only;omega) (by simp only;omega)];simp
   ·simp [zcs,If]
 ·have hce:cs.length=(Br n).length:=by have:=of_decide_eq_false h;rw [hzl] at this;simp only at this;omega
  by_cases hu:u=ls.length
  ·have hall:=hI.all hce hu
   rw [hall]
   have hg:∀ (j:Nat) c (A B C D:List (List AV)),cs[j]?=some c→(A::B::C::D::cs.map zcs)[4+j]?=some (zcs c):=fun j c A B C D hj=>by
    rw [show 4+j=j+1+1+1+1 by omega]
    simp only [List.getElem?_cons_succ]
    rw [List.getElem?_map,hj];rfl
   refine AK.no ?_ (ht:=by rw [hll,hu];simp)
   rw [← hvr]
   refine AK.retZ (B:=⟨62,_,0,0⟩) Tryz.func62 (h:=rfl) 0 (Nat.le_refl _) ?_ (fun rows hr=>by simp at hr) ⟨rfl,rfl⟩
   exact Asi rfl (by rw [hvr];omega) (by omega) (fun j c h=>hg j c _ _ _ _ h) hI.small (.tok 0)
  ·rw [hI.none3 hce (by omega)]
   refine AK.yes ?_ (ht:=by rw [hll];simp;omega)
   exact AK.rz Tryz.func62 rfl
theorem Ank (n:Nd)(hn:wN n≤100000000)(ls:List Int)(hls:ls.length≤1000000000):Pure X 19 [nd n,.sl (E9 ls) .no] (.tup [cf (W0 n ls),vb (R2 n ls).isSome]):=by
 have hrt:=Ans n hn
 have hb:W0 n ls=Mi (Ay n 31).length (R2 n ls):=by unfold W0 Mi;cases R2 n ls<;>rfl
 rw [hb]
 unfold R2
 refine Pure.run Tryz.func19 ?_
 refine AK.pc hrt ?_
 cases hr:Ib n with
 | false =>
   refine AK.yes ?_
   exact AK.rz Tryz.func19 rfl
 | true =>
   refine AK.no ?_
   refine AK.pc (Aq1 n hr) ?_
   refine AK.pc (Anl n hr ls hls) ?_
   exact AK.rz Tryz.func19 rfl
theorem CfB.ltG {bx:List (List (List AV))}{x:AV}{ids:List Nat}{c:Cf}(h:CfB SlG bx x ids c):∀ i,i∈ids→i<bx.length:=by
 obtain ⟨V,C,ys,_,rfl,_,h4,h5,h6,h7⟩:=h.ex
 have key:∀ {y:AV} {rows:List (List AV)},SlG bx y rows→∀ i,i∈M4 y→i<bx.length:=fun {y rows} hy i hi=>by
  rcases hy with ⟨b,ex,rfl,h⟩ | ⟨_,_,h⟩
  ·simp [M4] at hi;subst hi;exact Aa h
  ·rw [h] at hi;cases hi
 intro i hi
 simp only [List.mem_append,List.mem_flatMap] at hi
 rcases hi with h | h | ⟨y,hy,hi⟩
 ·exact key h4 i h
 ·exact key h5 i h
 ·obtain ⟨j,hj⟩:=A3 hy
  obtain ⟨l,hl⟩:=Ab c.cells (i:=j) (by rw [← h6];exact Aa hj)
  exact key (h7 j y l hj hl) i hi
theorem Wu {α:Type}(l:List α)(a b:α):(l++[a]).set l.length b=l++[b]:=by
 rw [List.set_append_right _ _ (Nat.le_refl _),Nat.sub_self];rfl
theorem InG.held {l:List Int}{r:AV}{bx pre:List (List (List AV))}{d:Nat}(hd:pre.length=d)(h:InG l r bx):∃ b,b<bx.length∧r=.bsl b l.length∧(pre++Tg d bx)[b+d]?=some (E9 l):=by
 obtain ⟨b,rfl,hb⟩:=h
 refine ⟨b,Aa hb,rfl,?_⟩
 rw [List.getElem?_append_right (by omega),hd,Nat.add_sub_cancel,Tg,List.getElem?_map,hb,Option.map_some,T6]
theorem Aj3 {S:St}{n:Nd}{lo hi b:Nat}(hn:Af n≤1000000000)(h:Tr true lo hi S.boxes b n):Fz S 0 0 (ndB b n) (nd n):=by
 refine .agg _ _ rfl fun j x y hx hy=>?_
 match j,hx,hy with
 | 0,hx,hy=>simp [Ae] at hx hy;subst hx;subst hy;exact .same _ (.val _)
 | 1,hx,hy=>simp [Ae] at hx hy;subst hx;subst hy;exact .same _ (.val _)
 | 2,hx,hy=>simp [Ae] at hx hy;subst hx;subst hy;exact .same _ (.val _)
 | 3,hx,hy=>simp [Ae] at hx hy;subst hx;subst hy;exact Ase n hn h
 | j+4,hx,_=>simp at hx
theorem Ae7 {S:St}{l:List Int}{b:Nat}(hl:l.length≤1000000000)(h:S.boxes[b]?=some (E9 l)):Fz S 0 0 (.bsl b l.length) (.sl (E9 l) .no) :=
 SlB.flat (.inl ⟨b,[],by rw [D5],by rw [List.append_nil];exact h⟩) (by rw [D5];omega) inferInstance
theorem Asv:(∀ n:Nd,mcN n+3≤3*Af n)∧∀ l:List Nd,V0 l≤3*An l:=by
 refine Oz (fun k s m ks h=>?_) (by simp [V0]) fun x l h1 h2=>?_
 ·have:=Be (.mk k s m ks)
  simp only [Dq] at this
  simp only [mcN];omega
 ·simp only [V0,An];omega
theorem Ark {cs:List Nat}(h:∀ c,c∈cs→c≤1000000):cs.sum≤1000000*cs.length:=by
 induction cs with
 | nil=>simp
 | cons c cs ih =>
   have:=ih fun x hx=>h x (by simp [hx])
   have:=h c (by simp)
   simp;omega
theorem Amb (n:Nd)(l:List Int):CfOk (W0 n l)∧Re (W0 n l)≤100000000000:=by
 unfold W0
 cases hb:R2 n l with
 | none=>exact ⟨⟨by simp [zC],by simp [zC],fun x hx=>by simp [zC] at hx⟩,by simp [zC,Re,F8]⟩
 | some cs =>
   unfold R2 at hb
   split at hb
   ·rename_i hr
    have hkl:=(Hy hr).2.2.2.2
    have hvl:(Ay n 31).length≤4500:=Nat.le_trans (Ll n 31) hkl
    have hsl:(Br n).length≤4500:=by rw [Qi];exact Nat.le_trans (Ll n 32) hkl
    have hcs:=Acy hb (Wt hr)
    have hlen:=Y5 hb
    refine ⟨Aps (by omega) (by omega) hcs,?_⟩
    have:F8 (bgC (Ay n 31).length cs).cells=cs:=by simp only [F8,bgC,List.map_map];conv=>rhs;rw [← List.map_id cs]
                                                   exact List.map_congr_left fun x _=>by simp
    have hs:=Ark hcs
    simp only [Re,this]
    simp only [bgC,List.length_replicate]
    omega
   ·cases hb
abbrev Ug (c:Cf)(V C:AV):List AV:=[vi c.pt,V,C,vi c.used,vi c.steps,vi c.trap,vi c.edge,vi c.acc]
theorem Yt {bx:List (List (List AV))}{V C:AV}{ids:List Nat}{c:Cf}(h:CfB SlB bx (.agg (Ug c V C)) ids c):cellsOf (.agg (Ug c V C))=some (Ug c V C):=by
 rcases h.shapes with ⟨⟨v1,v2,rfl⟩ | ⟨v1,rfl⟩,⟨c1,c2,rfl⟩ | ⟨c1,rfl⟩⟩<;>rfl
theorem Aoq (n:Nd)(l:List Int)(hpn:PrI n)(hln:LnI n)(hll:l.length≤9223372036854775807):Pure X 4 [nd n,.sl (E9 l) .no] (vb true):=by
 have hzl:=D5 l
 refine Pure.run Tryz.func4 ?_
 refine AK.if_ (fun g0=>?_) (fun g0=>?_)
 ·exact AK.rz Tryz.func4 rfl
 have hl:l.length≤1048576:=by have:=of_decide_eq_false g0;rw [hzl] at this;omega
 refine AK.pc (Atw n hln 1048576 (by omega) (by omega)) ?_
 refine AK.if_ (fun g=>?_) (fun g=>?_)
 ·exact AK.rz Tryz.func4 rfl
 have g1:=Af1 (show 0≤Uc (swN n) 1048576 by have:=of_decide_eq_false g;omega)
 have w1:=Ata.1 n
 have c1:=Mo n
 have hcn:Af n≤1000000000:=by omega
 obtain ⟨hW,hWn⟩:=Amb n l
 have hmc:mcN n≤10000000000:=by have:=Asv.1 n;omega
 have hbW:Mi (Ay n 31).length (R2 n l)=W0 n l:=by unfold W0 Mi;cases R2 n l<;>rfl
 refine AK.pc (Arn n hcn) ?_
 refine AK.pc (Alf l (by omega)) ?_
 refine AK.pc (Ank n (by omega) l (by omega)) ?_
 have hq:Gives X 21 [nd n,.sl (E9 l) .no] (fun r bx=>∃ x ids,r=.tup [x,vb (R2 n l).isSome]∧CfB SlG bx x ids (W0 n l)):=by
  have:=An1 n hcn hpn l (by omega)
  unfold BgP at this
  rw [hbW] at this;exact this
 clear hbW
 generalize W0 n l=W at *
 generalize (R2 n l).isSome=o at *
 have gx:∀ {bx more:List (List (List AV))} {i:Nat} {y:List (List AV)},bx[i]?=some y→(bx++more)[i]?=some y:=fun {bx more i y} h=>by rw [List.getElem?_append_left (Aa h)];exact h
 have new:∀ (bx:List (List (List AV))) (y:List (List AV)),(bx++[y])[bx.length]?=some y:=fun bx y=>by simp
 have hin:∀ x,Ok 0 0 (vi x):=fun x=>.val _
 refine AK.gv (Arp n hcn) (.cons (.same _ (inferInstance:OK 0 0 (nd n)).ok) .nil) ?_
 intro r bx1 hP
 obtain ⟨b,rfl,hT⟩:=hP
 refine ⟨ndB (b+2) n,Tg 2 bx1,Aj4 n,Qg _ _,?_⟩
 obtain ⟨S1,hS1⟩:∃ S1:St,S1=⟨[Ae n]::[O5 W]::Tg 2 bx1,[]⟩:=⟨_,rfl⟩
 refine AK.sto S1 ?_ hS1.symm
 have hT1:Tr true 2 S1.boxes.length S1.boxes (b+2) n:=by
  rw [hS1]
  exact Mg n (by omega) (by simp [Ro]) (fun _ _ _ _ h=>h) (Ve n (d:=2) (pre:=[[Ae n],[O5 W]]) rfl hT)
 have z0:S1.boxes[0]?=some [Ae n]:=by rw [hS1];rfl
 have z1:S1.boxes[1]?=some [O5 W]:=by rw [hS1];rfl
 have l1:2≤S1.boxes.length:=by rw [hS1];simp
 have r0:([Ae n]:List (List AV))[0]?=some (Ae n):=rfl
 have r1:([O5 W]:List (List AV))[0]?=some (O5 W):=rfl
 have rz:([zN]:List (List AV))[0]?=some zN:=rfl
 refine AK.alE rfl rfl ?_
 refine AK.stF (new _ _) rz rfl ?_
 obtain ⟨S2,hS2⟩:∃ S2:St,S2=⟨S1.boxes++[[[vi n.kind,str n.name,vi n.num,.bsl (b+2) n.kids.length]]],S1.toks⟩:=⟨_,rfl⟩
 refine AK.sto S2 ?_ (by rw [hS2];exact congrArg (fun x=>St.mk x _) (Wu _ _ _))
 have l2:S2.boxes.length=S1.boxes.length+1:=by rw [hS2];simp
 refine AK.gv (Aro l (by omega)) (.cons (.same _ (inferInstance:OK 0 0 (.sl (E9 l) .no)).ok) .nil) ?_
 intro r bx2 hP
 obtain ⟨c,hc,rfl,hx1⟩:=hP.held (pre:=S2.boxes) rfl
 refine ⟨.bsl (c+S2.boxes.length) l.length,Tg S2.boxes.length bx2,.bsl c _,Qg _ _,?_⟩
 obtain ⟨S3,hS3⟩:∃ S3:St,S3=⟨S2.boxes++Tg S2.boxes.length bx2,S2.toks⟩:=⟨_,rfl⟩
 refine AK.sto S3 ?_ hS3.symm
 have l3:S3.boxes.length=S2.boxes.length+bx2.length:=by rw [hS3];simp [Ro]
 have up3:∀ {i:Nat} {y:List (List AV)},S1.boxes[i]?=some y→S3.boxes[i]?=some y:=fun h=>by rw [hS3,hS2];exact gx (gx h)
 have z8:S3.boxes[S1.boxes.length]?=some [[vi n.kind,str n.name,vi n.num,.bsl (b+2) n.kids.length]]:=by rw [hS3,hS2];exact gx (new _ _)
 have r8:([[vi n.kind,str n.name,vi n.num,.bsl (b+2) n.kids.length]]:List (List AV))[0]?=some [vi n.kind,str n.name,vi n.num,.bsl (b+2) n.kids.length]:=rfl
 have hT3:Tr true 2 S1.boxes.length S3.boxes (b+2) n:=Mg n (Nat.le_refl _) (Nat.le_refl _) (fun _ _ _ _ h=>up3 h) hT1
 have hx3:S3.boxes[c+S2.boxes.length]?=some (E9 l):=by rw [hS3];exact hx1
 refine AK.e0 60 rfl ?_
 refine AK.ldF z8 r8 ?_
 refine AK.gv hq (.cons (Aj3 hcn hT3) (.cons (Ae7 (by omega) hx3) .nil)) ?_
 intro r bx3 hP
 obtain ⟨x,ids,rfl,hC⟩:=hP
 obtain ⟨V,C,rfl⟩:=hC.parts
 have hidl:=hC.ltG
 have hC3:=hC.held (pre:=S3.boxes)
 simp only [Gt,Qh] at hC3
 refine ⟨.tup [.agg (Ug W (Gt S3.boxes.length V) (Gt S3.boxes.length C)),vb o],Tg S3.boxes.length bx3,Aak (by have:=Aag S3.boxes.length (.agg (Ug W V C));simpa [Gt,Qh] using this),Qg _ _,?_⟩
 generalize Gt S3.boxes.length V=V1 at hC3 ⊢
 generalize Gt S3.boxes.length C=C1 at hC3 ⊢
 obtain ⟨js,hjs⟩:∃ js,js=ids.map (·+S3.boxes.length):=⟨_,rfl⟩
 rw [← hjs] at hC3
 have hj:∀ j,j∈js→S3.boxes.length≤j∧j<S3.boxes.length+bx3.length:=fun j h=>by
  rw [hjs] at h
  obtain ⟨i,hi,rfl⟩:=List.mem_map.1 h
  have:=hidl i hi
  omega
 obtain ⟨S4,hS4⟩:∃ S4:St,S4=⟨S3.boxes++Tg S3.boxes.length bx3,S3.toks⟩:=⟨_,rfl⟩
 refine AK.sto S4 ?_ hS4.symm
 have l4:S4.boxes.length=S3.boxes.length+bx3.length:=by rw [hS4];simp [Ro]
 have hC4:CfB SlB S4.boxes (.agg (Ug W V1 C1)) js W:=by rw [hS4];exact hC3
 have rz9:([[vi 0,.sl [] .tight,.sl [] .tight,vi 0,vi 0,vi 0,vi 0,vi 0]]:List (List AV))[0]?=some [vi 0,.sl [] .tight,.sl [] .tight,vi 0,vi 0,vi 0,vi 0,vi 0]:=rfl
 refine AK.e0 60 rfl ?_
 refine AK.alE rfl rfl ?_
 refine AK.stF (xs:=Ug W V1 C1) (cs':=Ug W V1 C1) (new _ _) rz9 rfl ?_ (hc:=Yt hC4)
 obtain ⟨S5,hS5⟩:∃ S5:St,S5=⟨S4.boxes++[[Ug W V1 C1]],S4.toks⟩:=⟨_,rfl⟩
 refine AK.sto S5 ?_ (by rw [hS5];exact congrArg (fun x=>St.mk x _) (Wu _ _ _))
 have l5:S5.boxes.length=S4.boxes.length+1:=by rw [hS5];simp
 have up5:∀ {i:Nat} {y:List (List AV)},S3.boxes[i]?=some y→S5.boxes[i]?=some y:=fun h=>by rw [hS5,hS4];exact gx (gx h)
 have z10:S5.boxes[S4.boxes.length]?=some [Ug W V1 C1]:=by rw [hS5];exact new _ _
 have r10:([Ug W V1 C1]:List (List AV))[0]?=some (Ug W V1 C1):=rfl
 have z05:=up5 (up3 z0)
 have z15:=up5 (up3 z1)
 have z85:=up5 z8
 have hT5:Tr true 2 S1.boxes.length S5.boxes (b+2) n:=Mg n (Nat.le_refl _) (Nat.le_refl _) (fun _ _ _ _ h=>up5 h) hT3
 have hx5:=up5 hx3
 have hC5:CfB SlB S5.boxes (.agg (Ug W V1 C1)) js W:=by rw [hS5];exact hC4.more
 have T7:Ok 0 0 (cf W):=(inferInstance:OK 0 0 (cf W)).ok
 have okN:Ok 0 0 (nd n):=(inferInstance:OK 0 0 (nd n)).ok
 have okL:Ok 0 0 (.sl (E9 l) .no):=(inferInstance:OK 0 0 (.sl (E9 l) .no)).ok
 refine AK.ldF z10 r10 ?_
 refine AK.ldF z15 r1 ?_
 refine AK.pz0 (Aea W hW) (.cons (hC5.fz hW) (.cons (.same _ T7) .nil)) (.val _) ?_
 refine AK.gn0 ?_
 refine AK.no0 ?_ (ht:=by simp)
 refine AK.drawn 0 (by kernel_rfl) ?_
 refine Drv.lo (Aeg z85 r8) ?_
 refine Drv.lo (Aeg z05 r0) ?_
 refine Drv.pc (Arn n hcn) ?_
 refine Drv.lo (Ait (Atv n hcn) (.cons (Aj3 hcn hT5) (.cons (.same _ okN) .nil)) (.val _)) ?_
 refine Drv.e ?_
 refine Drv.z0 ?_
 refine AK.no0 ?_
 refine AK.pc0 (Alf l (by omega)) ?_
 refine AK.pz0 (Apj l (by omega)) (.cons (Ae7 (by omega) hx5) (.cons (.same _ okL) .nil)) (.val _) ?_
 refine AK.no0 ?_
 refine AK.ldF z85 r8 ?_
 refine AK.ha (Aou n (k:=1) (Al9 n hT5) (Nat.le_refl _) (by omega)) ?_
 intro r S6 hP _ _
 obtain ⟨rfl,ht6,hM6⟩:=hP
 have far6:∀ {i:Nat} {y:List (List AV)},i<2∨S1.boxes.length≤i→S5.boxes[i]?=some y→S6.boxes[i]?=some y:=fun hi h=>(hM6.far _ (Aa h) hi).trans h
 have hC6:CfB SlB S6.boxes (.agg (Ug W V1 C1)) js W:=hC5.chg hM6.chg fun j h1 h2=>by
  have:=hj j h1
  obtain ⟨i,hi,rfl⟩:=List.mem_map.1 h2
  have:=List.mem_range.1 hi
  omega
 have hx6:=far6 (.inr (by omega)) hx5
 have z16:=far6 (.inl (by omega)) z15
 have z06:=far6 (.inl (by omega)) z05
 have z106:=far6 (.inr (by omega)) z10
 refine AK.e0 60 rfl ?_
 refine AK.ha (Af2 (l:=l) (x:=.bsl (c+S2.boxes.length) l.length) (.inl ⟨_,[],by rw [hzl],by rw [List.append_nil];exact hx6⟩) (1+mcN n) (by omega)) ?_
 intro r S7 hP _ _
 obtain ⟨rfl,ht7,hc7,_⟩:=hP
 have far7:∀ {i:Nat} {y:List (List AV)},i≠c+S2.boxes.length→S6.boxes[i]?=some y→S7.boxes[i]?=some y:=fun hi h=>(hc7.2 _ (Aa h) (by simpa [M4] using hi)).trans h
 have hC7:CfB SlB S7.boxes (.agg (Ug W V1 C1)) js W:=hC6.chg hc7 fun j h1 h2=>by
  have:=hj j h1
  simp [M4] at h2
  omega
 have z17:=far7 (by omega) z16
 have z07:=far7 (by omega) z06
 have z107:=far7 (by omega) z106
 refine AK.e0 60 rfl ?_
 refine AK.gn0 ?_ (ht:=decide_eq_false (by omega))
 refine AK.ldF z107 r10 ?_
 refine AK.ldF z17 r1 ?_
 refine AK.pz0 (Aea W hW) (.cons (hC7.fz hW) (.cons (.same _ T7) .nil)) (.val _) ?_
 refine AK.gn0 ?_
 refine AK.no0 ?_ (ht:=by simp)
 refine AK.ldF z107 r10 ?_
 refine AK.ha (Ald hC7 (by have:=hW.cells;omega) 1 (by omega)) ?_
 intro r S8 hP _ _
 obtain ⟨rfl,ht8,hc8,hC8⟩:=hP
 have far8:∀ {i:Nat} {y:List (List AV)},i ∉ js→S7.boxes[i]?=some y→S8.boxes[i]?=some y:=fun hi h=>(hc8.2 _ (Aa h) hi).trans h
 have z18:=far8 (fun h=>by have:=hj _ h;omega) z17
 have z08:=far8 (fun h=>by have:=hj _ h;omega) z07
 have z108:=far8 (fun h=>by have:=hj _ h;omega) z107
 refine AK.e0 60 rfl ?_
 refine AK.ldF z108 r10 ?_
 refine AK.pz0 (Acb 1 W (by have:=hW.cells;omega) (by omega)) (.cons (hC8.fz (Afe hW)) (.cons (.same _ (hin _)) .nil)) (.val _) ?_
 refine AK.no0 ?_ (ht:=decide_eq_false (by omega))
 refine AK.no0 ?_ (ht:=by simp)
 refine AK.ldF z08 r0 ?_
 refine AK.pc0 (Arn n hcn) ?_
 refine AK.pc0 (Alf l (by omega)) ?_
 refine AK.gv hq (.cons (.same _ okN) (.cons (.same _ okL) .nil)) ?_
 intro r bx4 hP
 obtain ⟨x,ids4,rfl,hD⟩:=hP
 obtain ⟨V2,C2,rfl⟩:=hD.parts
 have hD9:=hD.held (pre:=S8.boxes)
 simp only [Gt,Qh] at hD9
 refine ⟨.tup [.agg (Ug W (Gt S8.boxes.length V2) (Gt S8.boxes.length C2)),vb o],Tg S8.boxes.length bx4,Aak (by have:=Aag S8.boxes.length (.agg (Ug W V2 C2));simpa [Gt,Qh] using this),Qg _ _,?_⟩
 generalize Gt S8.boxes.length V2=V3 at hD9 ⊢
 generalize Gt S8.boxes.length C2=C3 at hD9 ⊢
 obtain ⟨S9,hS9⟩:∃ S9:St,S9=⟨S8.boxes++Tg S8.boxes.length bx4,S8.toks⟩:=⟨_,rfl⟩
 refine AK.sto S9 ?_ hS9.symm
 have hD9':CfB SlB S9.boxes (.agg (Ug W V3 C3)) (ids4.map (·+S8.boxes.length)) W:=by rw [hS9];exact hD9
 refine AK.e0 60 rfl ?_
 refine AK.alE rfl rfl ?_
 refine AK.stF (xs:=Ug W V3 C3) (cs':=Ug W V3 C3) (new _ _) rz9 rfl ?_ (hc:=Yt hD9')
 obtain ⟨S10,hS10⟩:∃ S10:St,S10=⟨S9.boxes++[[Ug W V3 C3]],S9.toks⟩:=⟨_,rfl⟩
 refine AK.sto S10 ?_ (by rw [hS10];exact congrArg (fun x=>St.mk x _) (Wu _ _ _))
 have up10:∀ {i:Nat} {y:List (List AV)},S8.boxes[i]?=some y→S10.boxes[i]?=some y:=fun h=>by rw [hS10,hS9];exact gx (gx h)
 have z15':S10.boxes[S9.boxes.length]?=some [Ug W V3 C3]:=by rw [hS10];exact new _ _
 have r15:([Ug W V3 C3]:List (List AV))[0]?=some (Ug W V3 C3):=rfl
 have hD10:CfB SlB S10.boxes (.agg (Ug W V3 C3)) (ids4.map (·+S8.boxes.length)) W:=by rw [hS10];exact hD9'.more
 have hC10:CfB SlB S10.boxes (.agg (Ug W V1 C1)) js (Abn 1 W):=by rw [hS10,hS9];exact hC8.more.more
 refine AK.ldF z15' r15 ?_
 refine AK.ldF (up10 z18) r1 ?_
 refine AK.pz0 (Aea W hW) (.cons (hD10.fz hW) (.cons (.same _ T7) .nil)) (.val _) ?_
 refine AK.gn0 ?_
 refine AK.no0 ?_ (ht:=by simp)
 refine AK.ldF (up10 z108) r10 ?_
 refine AK.pz0 (Acb 1 W (by have:=hW.cells;omega) (by omega)) (.cons (hC10.fz (Afe hW)) (.cons (.same _ (hin _)) .nil)) (.val _) ?_
 refine AK.no0 ?_ (ht:=decide_eq_false (by omega))
 refine AK.no0 ?_ (ht:=by simp)
 exact AK.rz Tryz.func4 rfl
end Go.V
namespace Go.Proofs.YtojhghmilenfkaaGreatDoor.begin
open Go Go.Proofs Go.V Go.ChangeShapes Go.WideShapes Go.ChangeAt Go.RowKit
set_option maxRecDepth 100000
theorem Ai4 (H:Type)(enc:TypeId × Value→H)(W:World)(base:Nat)(args:Array Value)(ds gs:List (DataW H))(before:List MemPlace)
 (hval:∀ (j:Nat) t v,Tryz.f4.params[j]?=some t→args[j]?=some v→Value.okWide Tryz.prog W .any base t v)
 (hW:DataW.Whole enc Tryz.prog Tryz.f4.params.toList Rows.fnExactBeginSpec.vars false W args.toList ds gs before)(hL:laidMetH Tryz.prog Rows.fnExactBeginRow.laid W)(hs:W.ShapedOpen Tryz.prog) :
 Calls Tryz.prog 4 args W fun e W'=>∃ v,e=.returned v∧Rows.fnExactBeginSpec.post enc Tryz.prog Tryz.f4 false true false false W args v W':=by
 have hW':=hW
 obtain ⟨p,q,hA0,_,_,_,_⟩:=hW
 have hA:DataW.TrodAll enc Tryz.prog W 0 (fun _=>true) true [24,37] args.toList ds p:=hA0
 obtain ⟨v0,vs0,d0,ds0,p0,q0,hargs,rfl,rfl,h0,r0⟩:=trodAll_cons hA
 obtain ⟨v1,vs1,d1,ds1,p1,q1,hargs1,rfl,rfl,h1,r1⟩:=trodAll_cons r0
 obtain ⟨rfl,rfl,rfl⟩:=trodAll_nil r1
 subst hargs1
 have ha0:args[0]?=some v0:=by rw [← Array.getElem?_toList,hargs];rfl
 have ha1:args[1]?=some v1:=by rw [← Array.getElem?_toList,hargs];rfl
 obtain ⟨n,n1,n2,n3⟩:=Ani (hval 0 24 v0 rfl ha0) h0
 obtain ⟨l,l2,l3⟩:=Am2 (hval 1 37 v1 rfl ha1) h1
 have hR:RelL W args.toList [nd n,inl l]:=by rw [hargs];exact .cons n3 (.cons l3 .nil)
 refine (Aoj (Aoq n l n1 n2 l2) hs hL hR).mono fun r W' ⟨he,hb⟩=>?_
 refine ⟨_,he,Ahi Ajt (fun t ht=>?_) rfl Amd Ap4 Ap3 Ap2 hW' hb (fun g1 hg=>?_) rfl Tryz.underlying4⟩
 ·have h:t∈[24,37]:=ht
  simp only [List.mem_cons,List.not_mem_nil,or_false] at h
  rcases h with rfl | rfl
  ·exact ⟨by kernel_rfl,of_decide_eq_true (by kernel_rfl)⟩
  ·exact ⟨by kernel_rfl,of_decide_eq_true (by kernel_rfl)⟩
 ·subst hg;rfl
set_option maxRecDepth 100000
theorem ab {a b:Bool}(h:a=true)(g:b=true):(a&&b)=true:=by rw [h,g];rfl
set_option maxHeartbeats 100000000 in
theorem Ap1:joinedFacts Tryz.pinned.checked.prog 4 Tryz.f4 (OpenSpec.ofChange Rows.fnExactBeginSpec).bare Rows.fnExactBeginRow=true:=by
 unfold joinedFacts
 iterate 31 refine ab ?_ ?_
 all_goals as_aux_lemma=>kernel_rfl
set_option maxRecDepth 100000
theorem Ajv (os:Os):laidMet Tryz.prog Rows.fnExactBeginRow.laid ((Aju os).forCall (fun _ _=>0) ⟨#[],#[Anf,Ae6],[]⟩).memory:=laidMet_of_run' 8 (by kernel_rfl) (by kernel_rfl)
theorem reads (os:Os){H:Type}(enc:TypeId × Value→H):∃ places,DataW.whole enc Tryz.prog ((Aju os).forCall (fun _ _=>0) ⟨#[],#[Anf,Ae6],[]⟩).memory Tryz.f4.params.toList Rows.fnExactBeginSpec.vars false #[Anf,Ae6].toList 8=some ([.agg [.lit (.int .i64 0),.lit (.string []),.lit (.int .i64 0),.nil],.nil],[.agg (condB.map fun b=>.lit (.string b))],places) :=
 ⟨MemPlace.row ⟨1,0,none⟩ 6,by kernel_rfl⟩
theorem Aqt (os:Os)(started:os.Started)(H:Type)(enc:TypeId × Value→H)(F:Stop.Interp) :
 ReturnsInHanded {} Tryz.checked os 4 .any ((OpenSpec.ofChange Rows.fnExactBeginSpec).preRow enc Tryz.prog Tryz.f4 Rows.fnExactBeginRow.domain false Rows.fnExactBeginRow.laid)
  (((OpenSpec.ofChange Rows.fnExactBeginSpec).at F).post enc Tryz.prog Tryz.f4 false true false false):=by
 obtain ⟨places,hx⟩:=reads os enc
 refine returnsInHanded_of_row (C:=Tryz.checked) (s:=OpenSpec.ofChange Rows.fnExactBeginSpec) Atr started (by kernel_rfl) Tryz.func4
  (witness_row_at (enc:=enc) (C:=Tryz.checked) false (Aju os) #[Anf,Ae6] rfl (by kernel_rfl) (by kernel_rfl) (by kernel_rfl)
    (OpenSpec.preRow_of_cond 8 hx (by kernel_rfl) (fun k hk=>by cases hk) (by kernel_rfl) (Ajv os))) ?_
 intro W base args ds gs before hval hW _ _ _ hL hs _
 exact Ai4 H enc W base args ds gs before hval hW hL hs
theorem Atu:Rows.FnExactBeginSaid :=
 OpenClaim.holds_of_cond 4 Tryz.f4 rfl rfl rfl rfl rfl rfl rfl ⟨rfl,rfl,rfl,rfl,rfl⟩ rfl rfl rfl rfl rfl (by kernel_rfl) Tryz.func4 Ap1
  (of_decide_eq_true (by kernel_rfl)) (by unfold Func.isWrapper;first | (rw [if_pos (by decide +kernel)];kernel_rfl) | (rw [if_neg (by decide +kernel)];exact ⟨rfl,rfl⟩))
  (fun os started H enc _ F=>by rw [OpenClaim.pre_eq_preRow];exact Aqt os started H enc F)
theorem plain (f:FuncId)(fn:Func)(hf:Tryz.pinned.checked.prog.funcNamed "loop.example/g00093/laws.FnExactBegin" = some f)(hfn:Tryz.pinned.checked.prog.funcs[f]?=some fn) :
 true=Tryz.pinned.checked.prog.looks []∧∀ (j:Nat) t,fn.params[j]?=some t→Tryz.pinned.checked.prog.wantsStandIn t=false:=by
 obtain rfl:f=4:=Option.some.inj ((show Tryz.prog.funcNamed "loop.example/g00093/laws.FnExactBegin" = some 4 by kernel_rfl).symm.trans hf) |>.symm
 obtain rfl:fn=Tryz.f4:=(Option.some.inj (Tryz.func4.symm.trans hfn)).symm
 refine ⟨by kernel_rfl,fun j t ht=>?_⟩
 have ht':(#[24,37]:Array Nat)[j]?=some t:=ht
 have h:t=24∨t=37:=by simpa using Array.mem_of_getElem? ht'
 rcases h with rfl | rfl
 ·exact (show Tryz.prog.wantsStandIn 24=false by kernel_rfl)
 ·exact (show Tryz.prog.wantsStandIn 37=false by kernel_rfl)
end Go.Proofs.YtojhghmilenfkaaGreatDoor.begin
