/- A part of the proof of the claim that the last text states: no condition of its own. -/
import Derived.Test.YtojhghmilenfkaaGreatDoorP4
import Derived.Lib.UnsafeStr
import Derived.Recover
set_option linter.unusedVariables false
set_option linter.unusedSimpArgs false
namespace Go.V
open Go Go.Proofs Go.Proofs.Tryz
def pc(r:RS)(e:Nat):List AV:=[.sl (Hj (r.ws.drop r.at_)) .no,vi e]
instance{n m:Nat}{r:RS}{e:Nat}:OKL n m (pc r e):=⟨fun x hx=>by
 simp[pc]at hx;rcases hx with rfl|rfl
 ·exact .sl _ _ (fun q hq y hy=>(inferInstance:OKR n m (Hj _)).ok q hq y hy) (fun t ht=>by cases ht)
 ·exact .val _⟩
def pan(p:Nat):List PanicEntry:=[{ v:=.iface 345 (.agg ⟨[.int .i64 p]⟩),recovered:=false }]
theorem Aey{r:RS}{w:Wd}(h:r.ws[r.at_]?=some w):r.ws.drop r.at_=w::r.ws.drop (r.at_+1):=B5 h
theorem Sa(r:RS)(e:Nat):Hands X 346 [.ptr 0 0 0] ⟨[[pc r e]],[]⟩ (.agg [vi r.kind,str r.text,vi (r.place e)]) ⟨[[pc r e]],[]⟩:=by
 cases hw:r.ws[r.at_]? with
 |none=>
  have hd:r.ws.drop r.at_=[]:=Ad9 (by have:=List.getElem?_eq_none_iff.1 hw;omega);have hp:pc r e=[.sl [] .no,vi e]:=by simp[pc,hd,Hj]
  simp only[RS.kind,RS.text,RS.place,hw];rw[hp];refine Hands.run func346 ?_;refine A1 ?_;exact Br func346 rfl rfl
 |some w=>
  have hp:pc r e=[.sl (Hj (w::r.ws.drop (r.at_+1))) .no,vi e]:=by simp only[pc,Aey hw]
  simp only[RS.kind,RS.text,RS.place,hw];rw[hp];refine Hands.run func346 ?_;refine Ah ?_ (ht:=by simp[Hj];omega);refine B7 0 (by omega) (r:=Uz w) rfl ?_;exact Br func346 rfl rfl
theorem Ym(r:RS)(e:Nat):Throws X 322 [.ptr 0 0 0] ⟨[[pc r e]],[]⟩ (pan (r.place e)) ⟨[[pc r e]],[]⟩:=by
 refine Throws.run func322 ?_;refine Ae [0] [] (Sa r e) ?_;refine Bm Apb ?_;exact Fp func322 Thr.go rfl
theorem A0x(r:RS)(e:Nat)(s:List UInt8):Hands X 347 [.ptr 0 0 0,str s] ⟨[[pc r e]],[]⟩ (vb (r.text==s)) ⟨[[pc r e]],[]⟩:=by
 refine Hands.run func347 ?_;refine Ae [0] [] (Sa r e) ?_;exact Br func347 rfl rfl
theorem Z7(r:RS)(e:Nat)(h:r.at_<r.ws.length):Hands X 348 [.ptr 0 0 0] ⟨[[pc r e]],[]⟩ (.agg [vi r.kind,str r.text,vi (r.place e)]) ⟨[[pc r.step e]],[]⟩:=by
 obtain⟨w,hw⟩:=Ab r.ws h;refine Hands.run func348 ?_;refine Ae [0] [] (Sa r e) ?_;refine Bm (Abv (l:=1) (h:=((Hj (r.ws.drop r.at_)).length:Int)) (r:=Hj (r.ws.drop (r.at_+1))) rfl rfl rfl rfl rfl rfl rfl rfl rfl ?_ ?_ ?_ ?_ ?_) ?_
 ·omega
 ·rw[Dz];simp;omega
 ·omega
 ·exact Ad1 _
 ·rw[Hc,I8,Aey hw];rfl
 exact Br func348 rfl rfl
theorem Js{r:RS}(h:r.bad=false)(s:List UInt8):r.takes s=(r.text==s):=by simp[RS.takes,h]
theorem I0(r:RS)(e:Nat)(s:List UInt8)(hb:r.bad=false)(hs:s≠[]):Hands X 323 [.ptr 0 0 0,str s] ⟨[[pc r e]],[]⟩ (vb (r.takes s)) ⟨[[pc (r.take s) e]],[]⟩:=by
 refine Hands.run func323 ?_;refine Ae [0] [] (A0x r e s) ?_;refine Ag (fun h=>?_) (fun h=>?_)
 ·have h':r.takes s=false:=by rw[Js hb];have:(!(r.text==s))=true:=h;simpa using this
  have ht:r.take s=r:=by simp[RS.take,h']
  rw[h',ht];exact Br func323 rfl rfl
 ·have h':r.takes s=true:=by rw[Js hb];have:(!(r.text==s))=false:=h;simpa using this
  have ht:r.take s=r.step:=by simp[RS.take,h']
  rw[h',ht];refine Ae [0] [] (Z7 r e (Ay h' hs).1) ?_;exact Br func323 rfl rfl
def RS.needs(r:RS)(l:List (List UInt8)):RS:=l.foldl RS.need r
theorem Adl{r:RS}{s:List UInt8}(h:r.takes s=false)(e:Nat):(r.need s).place e=r.place e:=by simp[RS.need,h,RS.spoil,RS.place]
theorem Aoh{r:RS}{s:List UInt8}(h:r.takes s=false)(e:Nat):pc (r.need s) e=pc r e:=by simp[RS.need,h,RS.spoil,pc]
theorem Co{r:RS}(h:r.bad=true)(s:List UInt8):r.need s=r:=by
 obtain⟨ws,a,b⟩:=r;simp only at h;subst h;simp[RS.need,RS.takes,RS.spoil]
theorem Aqe{r:RS}(h:r.bad=true):∀l:List (List UInt8),r.needs l=r:=by
 intro l
 induction l with
 |nil=>rfl
 |cons s l ih=>show (r.need s).needs l=r;rw[Co h s,ih]
theorem Af8(r0:RS)(e:Nat)(l:List (List UInt8))(hl:l.length≤1000)(hne:∀s,s∈l→s≠[])(hb0:r0.bad=false)(R:AE→St→Prop)
 (h1:(r0.needs l).bad=false→R (.ret (.tup [])) ⟨[[pc (r0.needs l) e]],[]⟩)(hp:(r0.needs l).bad=true→R (.panic (pan ((r0.needs l).place e))) ⟨[[pc (r0.needs l) e]],[]⟩) :
 AK X ⟨325,f325,1,0⟩ (Lj false 0 f325) [(0,.ptr 0 0 0),(1,.sl (Dj l) .no)] ⟨[[pc r0 e]],[]⟩ R:=by
 refine D3 ?_;refine Bj 100 rfl ?_;refine Av (ι:=Nat×RS) 1 0 (fun i=>i.1≤l.length∧i.2.bad=false∧r0.needs l=i.2.needs (l.drop i.1)) (fun i=>[(8,vi i.1),(7,vi l.length),(6,.sl (Dj l) .no),(0,.ptr 0 0 0)]) (fun i=>⟨[[pc i.2 e]],[]⟩) (fun i=>l.length-i.1) ?_ (0,r0)
  ⟨Cc _,hb0,rfl⟩ ⟨rfl,by rw[←Fy];rfl,rfl,rfl,trivial⟩
 rintro⟨i,r⟩ ⟨hi,hb,hN⟩ IH;simp only at hi hb hN IH⊢;refine Dh (fun h=>?_) (fun h=>?_)
 ·have hlt:i<l.length:=by have:=A7 h;omega
  obtain⟨s,hsg⟩:=Ab l hlt;have hs:=hne s (Bh hsg);rw[B5 hsg]at hN;have hN':r0.needs l=(r.need s).needs (l.drop (i+1)):=hN;refine B7 i (by omega) (Q5 hsg) ?_;refine Ae [0] [] (I0 r e s hb hs) ?_;refine Ag (fun h3=>?_) (fun h3=>?_)
  ·have h2':r.takes s=false:=by have:(!r.takes s)=true:=h3;simpa using this
   have ht:r.take s=r:=by simp[RS.take,h2']
   have hbad:(r.need s).bad=true:=by simp[RS.need,h2',RS.spoil]
   rw[Aqe hbad]at hN';rw[ht];rw[hN']at hp;refine Ark (B:=⟨325,f325,1,0⟩) func325 (Thr.hd [0] [] (Ym r e)) 0 (Bo _) (fun rows hr=>?_) ?_
   ·have e:rows=[pc r e]:=by simpa[upd]using hr
    subst e;exact(inferInstance:OKR 1 0 [pc r _]).ok
   ·have:=hp hbad;rw[Adl h2',Aoh h2']at this;exact this
  ·have h2':r.takes s=true:=by have:(!r.takes s)=false:=h3;simpa using this
   have ht:r.take s=r.need s:=by simp[RS.take,RS.need,h2']
   have hb':(r.need s).bad=false:=by simp[RS.need,h2',RS.step,hb]
   rw[ht];exact IH (i+1,r.need s) ⟨hlt,hb',hN'⟩ (by simp only;omega) _ _ ⟨vsx (by omega),rfl,rfl,rfl,trivial⟩ rfl rfl rfl
 ·have hie:i=l.length:=by have:=Bd h;omega
  rw[hie,Hw]at hN;have hN':r0.needs l=r:=hN;rw[hN']at h1;refine Am0 (B:=⟨325,f325,1,0⟩) func325 rfl 0 (Bo _) (.same _ (.tup [] (fun x hx=>by cases hx))) (fun rows hr=>?_) ?_
  ·have e:rows=[pc r e]:=by simpa[upd]using hr
   subst e;exact(inferInstance:OKR 1 0 [pc r _]).ok
  ·exact h1 hb
theorem Alo(r:RS)(e:Nat)(l:List (List UInt8))(hl:l.length≤1000)(hne:∀s,s∈l→s≠[])(hb:r.bad=false)(h:(r.needs l).bad=false) :
 Hands X 325 [.ptr 0 0 0,.sl (Dj l) .no] ⟨[[pc r e]],[]⟩ (.tup []) ⟨[[pc (r.needs l) e]],[]⟩:=by
 refine Hands.mk func325 rfl rfl (by kernel_rfl) rfl rfl ?_;refine Ks 0 100 rfl ?_;exact Af8 r e l hl hne hb _ (fun _=>⟨rfl,rfl⟩) (fun hc=>by rw[h]at hc;cases hc)
theorem Ahg(r:RS)(e:Nat)(l:List (List UInt8))(hl:l.length≤1000)(hne:∀s,s∈l→s≠[])(hb:r.bad=false)(h:(r.needs l).bad=true) :
 Throws X 325 [.ptr 0 0 0,.sl (Dj l) .no] ⟨[[pc r e]],[]⟩ (pan ((r.needs l).place e)) ⟨[[pc (r.needs l) e]],[]⟩:=by
 refine⟨⟨_,func325,by kernel_rfl,rfl⟩,Jn (n:=1) (m:=0) func325 rfl rfl rfl rfl ?_⟩;refine Ks 0 100 rfl ?_;exact Af8 r e l hl hne hb _ (fun hc=>by rw[h]at hc;cases hc) (fun _=>⟨rfl,rfl⟩)
theorem Lw(r:RS)(e:Nat)(s:List UInt8)(hs:s≠[])(hb:r.bad=false)(h:(r.need s).bad=false) :
 Hands X 325 [.ptr 0 0 0,.sl [[str s]] .no] ⟨[[pc r e]],[]⟩ (.tup []) ⟨[[pc (r.need s) e]],[]⟩:=Alo r e [s] (by simp) (by simpa using hs) hb h
theorem Jq(r:RS)(e:Nat)(s:List UInt8)(hs:s≠[])(hb:r.bad=false)(h:(r.need s).bad=true) :
 Throws X 325 [.ptr 0 0 0,.sl [[str s]] .no] ⟨[[pc r e]],[]⟩ (pan ((r.need s).place e)) ⟨[[pc (r.need s) e]],[]⟩:=Ahg r e [s] (by simp) (by simpa using hs) hb h
theorem Afi{r:RS}(hb:r.bad=false):r.named=(r.kind==1):=by simp[RS.named,hb]
theorem Xb(r:RS)(e:Nat)(hb:r.bad=false)(h:r.nameR.bad=false):Hands X 324 [.ptr 0 0 0] ⟨[[pc r e]],[]⟩ (str r.name) ⟨[[pc r.nameR e]],[]⟩:=by
 have hn:r.named=true:=by
  cases hn:r.named with
  |true=>rfl
  |false=>simp[RS.nameR,hn,RS.spoil]at h
 have hk:(r.kind==1)=true:=by rw[←Afi hb];exact hn
 have hlt:r.at_<r.ws.length:=Sd (by have:r.kind=1:=by simpa using hk
                                    omega)
 have e1:r.name=r.text:=by simp[RS.name,hn]
 have e2:r.nameR=r.step:=by simp[RS.nameR,hn]
 rw[e1,e2];refine Hands.run func324 ?_;refine Ae [0] [] (Sa r e) ?_;refine Ah ?_ (ht:=by simpa using hk);refine Ae [0] [] (Z7 r e hlt) ?_;exact Br func324 rfl rfl
theorem R9(r:RS)(e:Nat)(hb:r.bad=false)(h:r.nameR.bad=true):Throws X 324 [.ptr 0 0 0] ⟨[[pc r e]],[]⟩ (pan (r.nameR.place e)) ⟨[[pc r.nameR e]],[]⟩:=by
 have hn:r.named=false:=by
  cases hn:r.named with
  |false=>rfl
  |true=>simp[RS.nameR,hn,RS.step,hb]at h
 have hk:(r.kind==1)=false:=by rw[←Afi hb];exact hn
 have e1:r.nameR.place e=r.place e:=by simp[RS.nameR,hn,RS.spoil,RS.place]
 have e2:pc r.nameR e=pc r e:=by simp[RS.nameR,hn,RS.spoil,pc]
 rw[e1,e2];refine Throws.run func324 ?_;refine Ae [0] [] (Sa r e) ?_;refine A1 ?_ (ht:=by simpa using hk);exact Fp func324 (Thr.hd [0] [] (Ym r e)) rfl
theorem Azi(r:RS)(e:Nat)(hw:r.wk)(hk:r.kind=2):Hands X 326 [.ptr 0 0 0] ⟨[[pc r e]],[]⟩ (vi (Dn r.text)) ⟨[[pc r.step e]],[]⟩:=by
 have hlt:r.at_<r.ws.length:=Sd (by omega);have hkt:=Ol hw (by omega);obtain⟨n,hn,hs,hv⟩:=(Pn r.text).1 (Aaa (by rw[←hkt];exact hk));have hr:=Afs hn hs;have hlen:r.text.length≤1000000000:=by rw[hs];have:=Vg n hn;omega
 have hN:=Afq r.text hlen;rw[hr.2,←hv]at hN;refine Hands.run func326 ?_;refine Ae [0] [] (Sa r e) ?_;refine Ah ?_ (ht:=by simp[hk]);refine Ae [0] [] (Z7 r e hlt) ?_;refine Al hN ?_;exact Br func326 rfl rfl
theorem A0y(r:RS)(e:Nat)(hk:r.kind≠2):Throws X 326 [.ptr 0 0 0] ⟨[[pc r e]],[]⟩ (pan (r.place e)) ⟨[[pc r e]],[]⟩:=by
 refine Throws.run func326 ?_;refine Ae [0] [] (Sa r e) ?_;refine A1 ?_ (ht:=by simpa using hk);exact Fp func326 (Thr.hd [0] [] (Ym r e)) rfl
theorem Aw1(r:RS)(e:Nat)(n:Nd)(hb:r.bad=false)(h:(r.need [59]).bad=false):Hands X 349 [.ptr 0 0 0,nd n] ⟨[[pc r e]],[]⟩ (nd n) ⟨[[pc (r.need [59]) e]],[]⟩:=by
 refine Hands.run func349 ?_;refine Ae [0] [] (Lw r e [59] (by simp) hb h) ?_;exact Br func349 rfl rfl
theorem As3(r:RS)(e:Nat)(n:Nd)(hb:r.bad=false)(h:(r.need [59]).bad=true):Throws X 349 [.ptr 0 0 0,nd n] ⟨[[pc r e]],[]⟩ (pan ((r.need [59]).place e)) ⟨[[pc (r.need [59]) e]],[]⟩:=by
 refine Throws.run func349 ?_;exact Fp func349 (Thr.hd [0] [] (Jq r e [59] (by simp) hb h)) rfl
def Rp(T:Nd×RS)(e:Nat):AE→St→Prop:=fun ae S=>ae=(if T.2.bad then .panic (pan (T.2.place e))else .ret (nd T.1))∧S=⟨[[pc T.2 e]],[]⟩
theorem J4{n:Nd}{q:RS}{e:Nat}(h:q.bad=false):Rp (n,q) e=fun ae S=>ae=.ret (nd n)∧S=⟨[[pc q e]],[]⟩:=by funext ae S;simp[Rp,h]
theorem C7{n:Nd}{q:RS}{e:Nat}(h:q.bad=true):Rp (n,q) e=fun ae S=>ae=.panic (pan (q.place e))∧S=⟨[[pc q e]],[]⟩:=by funext ae S;simp[Rp,h]
structure GoesI (f:FuncId)(T:Nd×RS)(r:RS)(e:Nat):Prop where
 ok:T.2.bad=false→Hands X f [.ptr 0 0 0] ⟨[[pc r e]],[]⟩ (nd T.1) ⟨[[pc T.2 e]],[]⟩
 bad:T.2.bad=true→Throws X f [.ptr 0 0 0] ⟨[[pc r e]],[]⟩ (pan (T.2.place e)) ⟨[[pc T.2 e]],[]⟩
theorem GoesI.run{f:FuncId}{fn:Func}{c:Code}{T:Nd×RS}{r:RS}{e:Nat}{K:List Item}{F':C3}{S2:St}(hf:X.P.funcs[f]?=some fn)(h:AK X ⟨f,fn,1,0⟩ K F' S2 (Rp T e))(hb:fn.body=some c:=by rfl)
 (hl:Nat.ble 1 fn.ntmps=true:=by rfl)(hnm:(fn.name == "runtime.NumGoroutine")=false:=by kernel_rfl)(he:Go.V.ev X fn.ntmps 200 [.code c] [(0,.ptr 0 0 0)] ⟨[[pc r e]],[]⟩=(K,F',S2):=by rfl):GoesI f T r e:=by
 obtain⟨n,q⟩:=T;refine⟨fun hg=>?_,fun hg=>?_⟩
 ·rw[J4 hg]at h;exact Hands.mk hf hb hl hnm rfl rfl (Bj 200 he h)
 ·rw[C7 hg]at h;exact⟨⟨fn,hf,hnm,by rw[hb];rfl⟩,Jn hf hb hl rfl rfl (Bj 200 he h)⟩
theorem Aqc{r:RS}(h:r.bad=true):r.nameR=r:=by
 obtain⟨ws,a,b⟩:=r;simp only at h;subst h;simp[RS.nameR,RS.named,RS.spoil]
theorem Aat{f:Nat}{x:Nd}{r:RS}(h:r.bad=true):Hv f x r=(x,r):=by
 cases f with
 |zero=>rfl
 |succ f=>simp only[Hv];rw[if_neg (by simp[Dq h])]
theorem Vh{f:Nat}{x:Nd}{r:RS}(h:r.bad=true):G5 f x r=(x,r):=by
 cases f with
 |zero=>rfl
 |succ f=>simp only[G5];rw[if_neg (by simp[Dq h]),if_neg (by simp[Dq h])]
theorem B8{b:Bool}(h:¬b=false):b=true:=by cases b<;>simp at h⊢
theorem En{r:RS}{s:List UInt8}(h:r.takes s=true):r.take s=r.step:=by simp[RS.take,h]
theorem Fl{r:RS}{s:List UInt8}(h:r.takes s=false):r.take s=r:=by simp[RS.take,h]
theorem Q6{r:RS}{s s':List UInt8}(h:r.takes s=true)(hne:s≠s'):r.takes s'=false:=by
 simp only[RS.takes,Mh,Pb,Age,zzq56]at h;simp only[RS.takes,h.1,h.2,Bool.false_or];simpa using hne
def Avu(f:Nat):Prop:=∀(r:RS)(e:Nat),r.ok→r.wk→r.bad=false→4*r.left+1≤f→GoesI 378 (Fc f r) r e
def Arz(f:Nat):Prop:=∀(r:RS)(e:Nat),r.ok→r.wk→r.bad=false→4*r.left+2≤f→GoesI 367 (Ed f r) r e
def Arx(f:Nat):Prop:=∀(r:RS)(e:Nat),r.ok→r.wk→r.bad=false→4*r.left+3≤f→GoesI 352 (Ev f r) r e
theorem A3e(f:Nat)(i1:∀g,g<f→Avu g)(i4:∀g,g<f→Arx g):Avu f:=by
 intro r e ho hw hb hf;obtain⟨g,rfl⟩:∃g,f=g+1:=⟨f-1,by omega⟩
 refine GoesI.run func378 ?_;have hM:Fc (g+1) r=if r.takes [45]then(.mk 5 [] 0 [(Fc g r.step).1],(Fc g r.step).2)
  else if r.kind==2 then(.mk 1 [] (Dn r.text) [],r.step)
  else if r.takes [40]then((Ev g r.step).1,(Ev g r.step).2.need [41])
  else if r.takes [108,101,110]then(.mk 4 (r.step.need [40]).name 0 [],(r.step.need [40]).nameR.need [41])
  else if r.nameR.takes [91]then(.mk 3 r.name 0 [(Ev g r.nameR.step).1],(Ev g r.nameR.step).2.need [93])
  else(.mk 2 r.name 0 [],r.nameR):=by simp only[Fc];rw[if_neg (by simp[hb])]
 rw[hM];refine Ae [0] [] (I0 r e [45] hb (by simp)) ?_;refine Ag (fun h1=>?_) (fun h1=>?_)
 ·have h1':r.takes [45]=true:=h1;have hl:=(Ay h1' (by simp)).1;have ls:=Cb hl;have s:=Aj hl;rw[if_pos h1',En h1'];have ih:=i1 g (by omega) r.step e (s.ok ho) (s.wk hw) hb (by omega);by_cases hg:(Fc g r.step).2.bad=false
  ·rw[J4 hg];refine Ae [0] [] (ih.ok hg) ?_;rw[Lf];exact Br func378 rfl rfl
  ·have hg:=B8 hg;rw[C7 hg];exact Fp func378 (Thr.hd [0] [] (ih.bad hg)) rfl
 have h1':r.takes [45]=false:=h1;rw[if_neg (by simp[h1']),Fl h1'];refine Ae [0] [] (Sa r e) ?_;refine Ag (fun h2=>?_) (fun h2=>?_)
 ·have h2':(r.kind==2)=true:=h2;rw[if_pos h2',J4 (show r.step.bad=false from hb)];refine Ae [0] [] (Azi r e hw (by simpa using h2')) ?_;exact Br func378 rfl rfl
 have h2':(r.kind==2)=false:=h2;rw[if_neg (by simp[h2'])];refine Ae [0] [] (I0 r e [108,101,110] hb (by simp)) ?_;refine Ag (fun h3=>?_) (fun h3=>?_)
 ·have h3':r.takes [108,101,110]=true:=h3;have hn:=Q6 (s':=[40]) h3' (by simp);have hl:=(Ay h3' (by simp)).1;have s:=Aj hl;rw[if_neg (by simp[hn]),if_pos h3',En h3'];have hb1:r.step.bad=false:=hb;by_cases g1:(r.step.need [40]).bad=false
  ·refine Ae [0] [] (Lw r.step e [40] (by simp) hb1 g1) ?_;by_cases g2:(r.step.need [40]).nameR.bad=false
   ·refine Ae [0] [] (Xb (r.step.need [40]) e g1 g2) ?_;by_cases g3:((r.step.need [40]).nameR.need [41]).bad=false
    ·rw[J4 g3];refine Ae [0] [] (Lw (r.step.need [40]).nameR e [41] (by simp) g2 g3) ?_;exact Br func378 rfl rfl
    ·have g3:=B8 g3;rw[C7 g3];exact Fp func378 (Thr.hd [0] [] (Jq (r.step.need [40]).nameR e [41] (by simp) g2 g3)) rfl
   ·have g2:=B8 g2;rw[Co g2,C7 g2];exact Fp func378 (Thr.hd [0] [] (R9 (r.step.need [40]) e g1 g2)) rfl
  ·have g1:=B8 g1;rw[Aqc g1,Co g1,C7 g1];exact Fp func378 (Thr.hd [0] [] (Jq r.step e [40] (by simp) hb1 g1)) rfl
 have h3':r.takes [108,101,110]=false:=h3;rw[Fl h3'];refine Ae [0] [] (I0 r e [40] hb (by simp)) ?_;refine Ag (fun h4=>?_) (fun h4=>?_)
 ·have h4':r.takes [40]=true:=h4;have hl:=(Ay h4' (by simp)).1;have ls:=Cb hl;have s:=Aj hl;rw[if_pos h4',En h4'];have ih:=i4 g (by omega) r.step e (s.ok ho) (s.wk hw) hb (by omega);by_cases g1:(Ev g r.step).2.bad=false
  ·refine Ae [0] [] (ih.ok g1) ?_;by_cases g2:((Ev g r.step).2.need [41]).bad=false
   ·rw[J4 g2];refine Ae [0] [] (Lw (Ev g r.step).2 e [41] (by simp) g1 g2) ?_;exact Br func378 rfl rfl
   ·have g2:=B8 g2;rw[C7 g2];exact Fp func378 (Thr.hd [0] [] (Jq (Ev g r.step).2 e [41] (by simp) g1 g2)) rfl
  ·have g1:=B8 g1;rw[Co g1,C7 g1];exact Fp func378 (Thr.hd [0] [] (ih.bad g1)) rfl
 have h4':r.takes [40]=false:=h4;rw[if_neg (by simp[h4']),if_neg (by simp[h3']),Fl h4'];by_cases g1:r.nameR.bad=false
 ·have an:=Cv ho;refine Ae [0] [] (Xb r e hb g1) ?_;refine Ae [0] [] (I0 r.nameR e [91] g1 (by simp)) ?_;refine Ag (fun h5=>?_) (fun h5=>?_)
  ·have h5':r.nameR.takes [91]=false:=by have:(!r.nameR.takes [91])=true:=h5;simpa using this
   rw[if_neg (by simp[h5']),Fl h5',J4 g1];exact Br func378 rfl rfl
  ·have h5':r.nameR.takes [91]=true:=by have:(!r.nameR.takes [91])=false:=h5;simpa using this
   have hl:=(Ay h5' (by simp)).1;have ls:=Cb hl;have la:=Bf an;have s:=an.trans (Aj hl);rw[if_pos h5',En h5'];have ih:=i4 g (by omega) r.nameR.step e (s.ok ho) (s.wk hw) g1 (by omega);by_cases g2:(Ev g r.nameR.step).2.bad=false
   ·refine Ae [0] [] (ih.ok g2) ?_;by_cases g3:((Ev g r.nameR.step).2.need [93]).bad=false
    ·rw[J4 g3];refine Ae [0] [] (Lw (Ev g r.nameR.step).2 e [93] (by simp) g2 g3) ?_;rw[Lf];exact Br func378 rfl rfl
    ·have g3:=B8 g3;rw[C7 g3];exact Fp func378 (Thr.hd [0] [] (Jq (Ev g r.nameR.step).2 e [93] (by simp) g2 g3)) rfl
   ·have g2:=B8 g2;rw[Co g2,C7 g2];exact Fp func378 (Thr.hd [0] [] (ih.bad g2)) rfl
 ·have g1:=B8 g1;rw[if_neg (by simp[Dq g1]),C7 g1];exact Fp func378 (Thr.hd [0] [] (R9 r e hb g1)) rfl
theorem Wy{X:Cx}{S:St}{F F':C3}{N:Nat}{ops:Array Oper}{i:Nat}{o:Oper}{os:List Oper}{x y:AV}{bs:List Nat}{em:Nat}{Hs:List St}{pend:List Jx}{KK:C3→St→Prop}
 (k:Drv X N ops bs em os (i+1) F' S Hs pend KK)(ho:ops[i]?=some o:=by rfl)(hw:A6 ops F o=some true:=by rfl)(h:∀bx tk,Kg X F ⟨bx,tk⟩ o.op=some (x,⟨bx,tk⟩):=by intro _ _;rfl) [hr:RinC [] [] x y]
 (hF:Py N o.dst y F=some F':=by rfl):Drv X N ops bs em (o::os) i F S Hs pend KK:=by
 obtain⟨h1,rfl⟩:=Gg hF;exact Kf (fun⟨bx,tk⟩=>Ak1 (Ls ho hw (h bx tk))) h1 k
theorem A02(f:Nat)(i1:∀g,g<f→Avu g):Arz f:=by
 intro r e ho hw hb hf;obtain⟨g,rfl⟩:∃g,f=g+1:=⟨f-1,by omega⟩
 refine GoesI.run func367 ?_;have hM:Ed (g+1) r=Hv g (Fc g r).1 (Fc g r).2:=by simp only[Ed]
 rw[hM];have ih:=i1 g (by omega) r e ho hw hb (by omega);have af:=(Fh g).1 r ho;have lf:=Bf af;generalize Fc g r=q at ih af lf⊢;obtain⟨x,q⟩:=q;simp only at ih af lf⊢;by_cases g1:q.bad=false
 ·refine Ae [0] [] (ih.ok g1) ?_;generalize hT:Hv g x q=T;refine Av (ι:=Nat×Nd×RS) 3 0 (fun i=>i.2.2.ok∧i.2.2.wk∧i.2.2.bad=false∧4*i.2.2.left+1≤i.1∧i.1≤g∧T=Hv i.1 i.2.1 i.2.2) (fun _=>[(0,.ptr 0 0 0),(2,.ptr 1 0 0),(3,.ptr 2 0 0)])
   (fun i=>⟨[[pc i.2.2 e],[zN],[Af i.2.1]],[]⟩) (fun i=>i.1) ?_ (g,x,q) ⟨af.ok ho,af.wk hw,g1,by simp only;omega,Bo _,hT.symm⟩ ⟨rfl,rfl,rfl,trivial⟩
  rintro⟨n,y,q⟩ ⟨hqo,hqw,hqb,hfu,hng,hTn⟩ IH;simp only at hqo hqw hqb hfu hng hTn IH⊢;obtain⟨m,rfl⟩:∃m,n=m+1:=⟨n-1,by omega⟩
  have hL:T=if q.takes [42]then Hv m (.mk 8 [] 0 [y,(Fc m q.step).1]) (Fc m q.step).2 else(y,q):=by rw[hTn];simp only[Hv]
  refine Bj 100 rfl ?_;refine Ae [0] [] (I0 q e [42] hqb (by simp)) ?_;refine Ag (fun h=>?_) (fun h=>?_)
  ·have h':q.takes [42]=true:=h;have hl:=(Ay h' (by simp)).1;have ls:=Cb hl;have s:=Aj hl;rw[if_pos h']at hL;rw[En h'];have ih2:=i1 m (by omega) q.step e (s.ok hqo) (s.wk hqw) hqb (by omega);have af2:=(Fh m).1 q.step (s.ok hqo);have lf2:=Bf af2;by_cases g2:(Fc m q.step).2.bad=false
   ·refine Hu 36 2 ?_;refine Dx (Hd [0] [] (ih2.ok g2)) ?_ ?_
    ·exact An (Cn rfl rfl rfl) G0
    refine Wy ?_;refine Ar ?_;refine Ch (A8 rfl rfl rfl rfl rfl rfl rfl) ?_;refine B6 ?_;refine IH (m,.mk 8 [] 0 [y,(Fc m q.step).1],(Fc m q.step).2) ⟨(s.trans af2).ok hqo,(s.trans af2).wk hqw,g2,by simp only;omega,by simp only;omega,hL⟩ (by simp only;omega) _ _ ⟨rfl,rfl,rfl,trivial⟩ ?_ rfl rfl;simp[St.drop,upd,Af,As]
   ·have g2:=B8 g2;rw[Aat g2]at hL;rw[hL,C7 g2];refine Ln (S1:=?S1) 2 36 2 func367 ?hk ?hS
    case hk=>
     refine Lq ?_;exact Thr.hd [0] [] (ih2.bad g2)
    case hS=>rfl
  ·have h':q.takes [42]=false:=h;rw[if_neg (by simp[h'])]at hL;rw[Fl h',hL,J4 hqb];exact Br func367 rfl rfl
 ·have g1:=B8 g1;rw[Aat g1,C7 g1];exact Fp func367 (Thr.hd [0] [] (ih.bad g1)) rfl
theorem A0w(f:Nat)(i2:∀g,g<f→Arz g):Arx f:=by
 intro r e ho hw hb hf;obtain⟨g,rfl⟩:∃g,f=g+1:=⟨f-1,by omega⟩
 refine GoesI.run func352 ?_;have hM:Ev (g+1) r=G5 g (Ed g r).1 (Ed g r).2:=by simp only[Ev]
 rw[hM];have ih:=i2 g (by omega) r e ho hw hb (by omega);have af:=(Fh g).2.1 r ho;have lf:=Bf af;generalize Ed g r=q at ih af lf⊢;obtain⟨x,q⟩:=q;simp only at ih af lf⊢;by_cases g1:q.bad=false
 ·refine Ae [0] [] (ih.ok g1) ?_;generalize hT:G5 g x q=T;refine Av (ι:=Nat×Nd×RS) 3 0 (fun i=>i.2.2.ok∧i.2.2.wk∧i.2.2.bad=false∧4*i.2.2.left+2≤i.1∧i.1≤g∧T=G5 i.1 i.2.1 i.2.2) (fun _=>[(0,.ptr 0 0 0),(2,.ptr 1 0 0),(3,.ptr 2 0 0)])
   (fun i=>⟨[[pc i.2.2 e],[zN],[Af i.2.1]],[]⟩) (fun i=>i.1) ?_ (g,x,q) ⟨af.ok ho,af.wk hw,g1,by simp only;omega,Bo _,hT.symm⟩ ⟨rfl,rfl,rfl,trivial⟩
  rintro⟨n,y,q⟩ ⟨hqo,hqw,hqb,hfu,hng,hTn⟩ IH;simp only at hqo hqw hqb hfu hng hTn IH⊢;obtain⟨m,rfl⟩:∃m,n=m+1:=⟨n-1,by omega⟩
  have hL:T=if q.takes [43]then G5 m (.mk 6 [] 0 [y,(Ed m q.step).1]) (Ed m q.step).2
   else if q.takes [45]then G5 m (.mk 7 [] 0 [y,(Ed m q.step).1]) (Ed m q.step).2 else(y,q):=by rw[hTn];simp only[G5]
  refine Bj 100 rfl ?_;refine Ae [0] [] (A0x q e [45]) ?_;refine Ag (fun h=>?_) (fun h=>?_)
  ·have h':q.takes [45]=true:=by rw[Js hqb];exact h
   rw[if_neg (by simp[Q6 (s':=[43]) h' (by simp)]),if_pos h']at hL;have hl:=(Ay h' (by simp)).1;have ls:=Cb hl;have s:=Aj hl;have ih2:=i2 m (by omega) q.step e (s.ok hqo) (s.wk hqw) hqb (by omega);have af2:=(Fh m).2.1 q.step (s.ok hqo);have lf2:=Bf af2;refine Ae [0] [] (Z7 q e hl) ?_;by_cases g2:(Ed m q.step).2.bad=false
   ·refine Hu 72 3 ?_;refine Dx (Hd [0] [] (ih2.ok g2)) ?_ ?_
    ·exact An (Cn rfl rfl rfl) G0
    refine Wy ?_;refine Ar ?_;refine Ch (A8 rfl rfl rfl rfl rfl rfl rfl) ?_;refine B6 ?_;refine IH (m,.mk 7 [] 0 [y,(Ed m q.step).1],(Ed m q.step).2) ⟨(s.trans af2).ok hqo,(s.trans af2).wk hqw,g2,by simp only;omega,by simp only;omega,hL⟩ (by simp only;omega) _ _ ⟨rfl,rfl,rfl,trivial⟩ ?_ rfl rfl;simp[St.drop,upd,Af,As]
   ·have g2:=B8 g2;rw[Vh g2]at hL;rw[hL,C7 g2];refine Ln (S1:=?S1) 3 72 3 func352 ?hk ?hS
    case hk=>
     refine Lq ?_;exact Thr.hd [0] [] (ih2.bad g2)
    case hS=>rfl
  ·have h0:q.takes [45]=false:=by rw[Js hqb];exact h
   refine Ae [0] [] (A0x q e [43]) ?_;refine Ag (fun h2=>?_) (fun h2=>?_)
   ·have h':q.takes [43]=false:=by rw[Js hqb];have:(!(q.text==[43]))=true:=h2;simpa using this
    rw[if_neg (by simp[h']),if_neg (by simp[h0])]at hL;rw[hL,J4 hqb];exact Br func352 rfl rfl
   ·have h':q.takes [43]=true:=by rw[Js hqb];have:(!(q.text==[43]))=false:=h2;simpa using this
    rw[if_pos h']at hL;have hl:=(Ay h' (by simp)).1;have ls:=Cb hl;have s:=Aj hl;have ih2:=i2 m (by omega) q.step e (s.ok hqo) (s.wk hqw) hqb (by omega);have af2:=(Fh m).2.1 q.step (s.ok hqo);have lf2:=Bf af2;refine Ae [0] [] (Z7 q e hl) ?_;by_cases g2:(Ed m q.step).2.bad=false
    ·refine Hu 72 3 ?_;refine Dx (Hd [0] [] (ih2.ok g2)) ?_ ?_
     ·exact An (Cn rfl rfl rfl) G0
     refine Wy ?_;refine Ar ?_;refine Ch (A8 rfl rfl rfl rfl rfl rfl rfl) ?_;refine B6 ?_;refine IH (m,.mk 6 [] 0 [y,(Ed m q.step).1],(Ed m q.step).2) ⟨(s.trans af2).ok hqo,(s.trans af2).wk hqw,g2,by simp only;omega,by simp only;omega,hL⟩ (by simp only;omega) _ _ ⟨rfl,rfl,rfl,trivial⟩ ?_ rfl rfl;simp[St.drop,upd,Af,As]
    ·have g2:=B8 g2;rw[Vh g2]at hL;rw[hL,C7 g2];refine Ln (S1:=?S1) 3 72 3 func352 ?hk ?hS
     case hk=>
      refine Lq ?_;exact Thr.hd [0] [] (ih2.bad g2)
     case hS=>rfl
 ·have g1:=B8 g1;rw[Vh g1,C7 g1];exact Fp func352 (Thr.hd [0] [] (ih.bad g1)) rfl
theorem Aw2:∀f:Nat,Avu f∧Arz f∧Arx f:=by
 intro f
 induction f using Nat.strongRecOn with
 |ind f ih=>exact⟨A3e f (fun g hg=>(ih g hg).1) (fun g hg=>(ih g hg).2.2),A02 f (fun g hg=>(ih g hg).1),A0w f (fun g hg=>(ih g hg).2.1)⟩
theorem R8(r:RS)(e:Nat)(ho:r.ok)(hw:r.wk)(hb:r.bad=false):GoesI 352 (B9 r) r e:=
 (Aw2 6010).2.2 r e ho hw hb (by have:=ho.1;simp only[RS.left];omega)
abbrev Aul:List (List UInt8):=[[60],[60,61],[62],[62,61],[61,61],[33,61]]
theorem Auk(s:List UInt8):Ey 0 Aul s=if relS s=0 then -1 else relS s-11:=by
 simp only[Ey,relS]
 repeat' split
 all_goals simp_all
theorem Ar1{X:Cx}{S:St}{F:C3}{N t n e:Nat}{ops:Array Oper}{i:Nat}{o:Oper}{p:Operand}{cs:List AV}{y ye:Ty}{rows:List (List AV)}(hrows:cs.map (fun x=>[x])=rows)(ho:ops[i]?=some o:=by rfl)(hw:A6 ops F o=some true:=by rfl)
 (hop:o.op=.slice t p none none none:=by rfl)(hp:Dt X F p=some (.cptr cs):=by rfl)(hy:X.ty t=some y:=by rfl)(hyk:y.k=.arr n e:=by rfl)(hye:X.ty e=some ye:=by rfl)(h1:ye.size=1:=by rfl)
 (hl:cs.length=n:=by rfl)(hx:Nat.ble n 1000=true:=by rfl):Ndo X N ops i o F (.sl rows .no) S S:=by
 subst hrows;refine Df ho hw fun F' E w a hc hI hF=>?_;rw[hop]at hc;have r1:=Ak hI hF ((hc p (by simp[Op.operands])).trans hp);obtain⟨d,hdd,hd2⟩:=(X.ty_ok t y hy).agg;simp only[hyk]at hd2;obtain⟨rfl,ye',hye',hne0⟩:=hd2;rw[hye]at hye';cases hye';have hn:=I7 hx;generalize hv:a.eval p=u at r1;cases r1 with
 |cptr _ b o' vals hm hcl hr=>
  refine⟨.slice (some ⟨b,o',none⟩) n n,?_,?_⟩
  ·simp[execOp,hop,hv,Instr.sliceAt,run_underlying hdd,De hye,Instr.sureAddr,asAddr,Instr.sliceBounds,F9]
  ·refine .sl _ .no _ n n b o' 1 (fun i' _=>vals i') (by simp[hl]) (by unfold O0;omega) (fun _=>rfl) (fun r hr=>?_) (fun i' j' hi hj=>?_) (fun i' j' hi hj=>?_) (fun i' j' r x hi hj=>?_) trivial (Bo _)
   ·obtain⟨x,_,rfl⟩:=zzq68.1 hr;rfl
   ·have:=hm i' (by omega);rw[show o'+i'*1+j'=o'+i' by omega];exact this
   ·have:=hcl i' (by omega);rw[show o'+i'*1+j'=o'+i' by omega];exact this
   ·rw[Gm]at hi;cases hx':cs[i']? with
    |none=>rw[hx']at hi;cases hi
    |some z=>
     rw[hx']at hi;cases hi;cases j' with
     |zero=>simp at hj;subst hj;exact hr i' z hx'
     |succ j=>simp at hj
theorem Aln(r:RS)(e:Nat)(ho:r.ok)(hw:r.wk)(hb:r.bad=false):GoesI 350 (Dk r) r e:=by
 refine GoesI.run func350 ?_;have ih:=R8 r e ho hw hb;have af:=Ca ho;simp only[Dk];generalize B9 r=q at ih af⊢;obtain⟨x,q⟩:=q;simp only at ih af⊢;by_cases g1:q.bad=false
 ·refine Ae [0] [] (ih.ok g1) ?_;have hidx:=Auk q.text;refine Hu 0 0 ?_;refine Ek (fun S'=>Ar1 (cs:=condG) (rows:=Dj Aul) rfl) ?_;refine My 1 ?_;refine A0 (Hd [0] [] (Sa q e)) ?_;refine Ft ?_;refine Ja (Ab6 Aul q.text (by decide)) ?_;refine Ft ?_;refine B6 ?_;rw[hidx];by_cases hz:relS q.text=0
  ·rw[if_pos hz,if_pos (by simp[hz]),C7 (show q.spoil.bad=true from rfl)];refine A1 ?_;exact Fp func350 (Thr.hd [0] [] (Ym q e)) rfl
  ·have hrr:=Ads hz;rw[if_neg hz,if_neg (by simp[g1,hz])];have hl:=Vu hz;have s:=af.trans (Aj hl);have ih2:=R8 q.step e (s.ok ho) (s.wk hw) g1;refine Ah ?_ (ht:=Kn (by omega));refine Ae [0] [] (Z7 q e hl) ?_;have hwr:IntKind.i64.wrap (11+(relS q.text-11))=relS q.text:=(Ac (by omega) (by omega)).trans (by omega);by_cases g2:(B9 q.step).2.bad=false
   ·rw[J4 g2];refine Hu 144 4 ?_;refine Dx (Hd [0] [] (ih2.ok g2)) ?_ ?_
    ·exact An (Cn rfl rfl rfl) G0
    refine Ts ?_;refine Ar ?_;refine Ch (A8 rfl rfl rfl rfl rfl rfl rfl) ?_;refine B6 ?_;refine Br func350 ?_ rfl;rw[hwr,Lf];rfl
   ·have g2:=B8 g2;rw[C7 g2];refine Ln (S1:=?S1) 4 144 4 func350 ?hk ?hS
    case hk=>
     refine Lq ?_;exact Thr.hd [0] [] (ih2.bad g2)
    case hS=>rfl
 ·have g1:=B8 g1;rw[if_pos (by simp[g1]),C7 (show q.spoil.bad=true from rfl)];have e1:q.spoil=q:=by
   obtain⟨ws,a,b⟩:=q;simp only at g1;subst g1;rfl
  rw[e1];exact Fp func350 (Thr.hd [0] [] (ih.bad g1)) rfl
end Go.V
namespace Go.V
open Go
section
variable {X:Cx}{B:Bx}{E:Env}{S:St}{w:World}{F:C3}{a:Act}{N:Nat}{ops:Array Oper}{i:Nat}{o:Oper}{p q:Operand}
theorem Avy{t n e:Nat}{ps:Array (Nat×Operand)}{y ye:Ty}{rows:List (List AV)}{bx:List (List (List AV))}{b:Nat}(ho:ops[i]?=some o:=by rfl)(hw:A6 ops F o=some true:=by rfl)(hop:o.op=.buildSlice t n ps:=by rfl)
 (hy:X.ty t=some y:=by rfl)(hk:y.k=.slc e:=by rfl)(hye:X.ty e=some ye:=by rfl)(hble:Nat.ble (n*ye.size) 1000000=true:=by rfl)
 (hr:Se X F ye.size ps.toList (List.replicate n ye.zero)=some (.sl rows .tight):=by rfl)(hb:Aac S.boxes=b:=by rfl)(hbx:S.boxes++[rows]=bx:=by rfl):Ndo X N ops i o F (.bsl b n) S ⟨bx,S.toks⟩:=by
 subst hbx;rw[Jz]at hb;subst hb;intro F' E w a hl hI hF;have hlr:Se X F' ye.size ps.toList (List.replicate n ye.zero)=some (.sl rows .tight):=by
  have hc:=Gs hl;rw[hop]at hc;have:∀(l:List (Nat×Operand)) (rs:List (List AV)),(∀x,x∈l→∀k,x.2=.tmp k→lk F' k=lk F k)→Se X F' ye.size l rs=Se X F ye.size l rs:=by
   intro l
   induction l with
   |nil=>intro rs _;rfl
   |cons z l ih=>
    intro rs h;obtain⟨j,z⟩:=z;simp only[Se];rw[Di (F':=F') (F:=F) fun k hk=>h (j,z) (by simp) k hk];cases Dt X F z with
    |none=>rfl
    |some v=>
     simp only;cases cellsOf v with
     |none=>rfl
     |some xs=>
      simp only;cases Nat.beq xs.length ye.size with
      |false=>rfl
      |true=>
       simp only;have:∀(l2:List (List AV)) (j:Nat) (x:List AV) (k1 k2:List (List AV)→Option AV),(∀r,k1 r=k2 r)→Xq l2 j x k1=Xq l2 j x k2:=by
        intro l2
        induction l2 with
        |nil=>intro j x k1 k2 h;cases j<;>rfl
        |cons c l2 ih2=>
         intro j x k1 k2 h;cases j with
         |zero=>simp only[Xq];exact h _
         |succ j=>simp only[Xq];exact ih2 j x _ _ fun r=>h _
       exact this _ _ _ _ _ fun r=>ih r fun x hx=>h x (by simp[hx])
  rw[this]
  ·exact hr
  ·intro x hx k hk;exact hc k (by simp only[Op.operands];simp;exact⟨x.1,by rw[←hk];simpa using hx⟩)
 have hle:n*ye.size≤1000000:=I7 hble;obtain⟨d,hd,hdd⟩:=(X.ty_ok t y hy).agg;simp only[hk]at hdd;obtain⟨rfl,ye',hye',hne⟩:=hdd;rw[hye]at hye';cases hye';obtain⟨z,hz,hzc,hzl,i',hi,hiz,his,hib⟩:=I6 hye w;have hzs:z.cells.size=ye.size:=by rw[←hzl,←hzc];simp
 have hg0:Qb E w ye.size ((Array.range (n*ye.size)).map (z.cells[·%z.cells.size]!)) (List.replicate n ye.zero):=by
  refine Qm hzc hzl _ (by simp) (fun i hi=>?_);have hm:i%ye.size<z.cells.size:=by rw[hzs];exact Ws _ (Zc hne)
  have hr0:(Array.range (n*ye.size))[i]?=some i:=by simp[hi]
  rw[Akg,hr0];simp only[Km];rw[hzs,getElem!_pos z.cells (i%ye.size) hm,Agc hm]
 obtain⟨cells',rows',hf',hg',hl',hrr⟩:=Sf hI hF ps.toList _ _ _ hg0 hlr;cases hrr;have hn:rows.length=n:=by simpa using hl'
 obtain⟨ev,hI'⟩:=hI.newBox (w':=w.alloc (.cells cells' e)) (cs:=cells') (e:=e) (sz:=ye.size) (rows:=rows) rfl rfl rfl rfl hg'.1 hg'.2.1 hg'.2.2;refine Does.val ho (Cm hF (by rw[Cw hl];exact hw)) (v:=.slice (some ⟨w.heap.size,0,none⟩) n n) ?_ (.inl rfl) ⟨_,hI',ev,?_⟩
 ·have hsz:=De hye w;have hpp:(ps.map fun(x:Nat×Operand)=>(x.1,a.eval x.2)).toList=ps.toList.map fun p=>(p.1,a.eval p.2):=by simp
  have h24:¬(n*ye.size>16777216):=by omega
  simp only[execOp,hop,Instr.buildSlice,Sem.run_bind,run_underlying hd,Result.andThen_ok,hsz];by_cases h0:n*ye.size=0
  ·have hn0:n=0:=by
    rcases Nat.mul_eq_zero.1 h0 with h|h
    ·exact h
    ·exact absurd h hne
   subst hn0;have e1:∀f:Nat→Value,(Array.range 0).map f=#[]:=fun f=>by rw[←zzq34];simp
   have hf2:=hf';simp only[Nat.zero_mul,e1]at hf2;simp[hf2,newRow,hn,e1]
  ·simp[h24,h0,hz,hf',newRow,hn]
 ·exact .bsl S.boxes.length w.heap.size ye.size n n (by rw[←hI.nb];exact getElem?_snoc_new _ _) (Bo _)
theorem F8{t e b n:Nat}{ik:IntKind}{j:Nat}{y ye:Ty}{rows:List (List AV)}{r:List AV}(ho:ops[i]?=some o:=by rfl)(hw:A6 ops F o=some true:=by rfl)(hop:o.op=.indexAddr t p q:=by rfl)(hp:Dt X F p=some (.bsl b n):=by rfl)
 (hq:Dt X F q=some (.val (.int ik j)):=by rfl)(hy:X.ty t=some y:=by rfl)(hyk:y.k=.slc e:=by rfl)(hye:X.ty e=some ye:=by rfl)(hj:Nat.blt j n=true:=by rfl)(hb:S.boxes[b]?=some rows:=by rfl)(hr:rows[j]?=some r:=by rfl)(hl:r.length=ye.size:=by rfl):Ndo X N ops i o F (.ptr b j 0) S S:=by
 refine Df ho hw fun F' E w a hc hI hF=>?_;rw[hop]at hc;have h1:=Ak hI hF ((hc p (by simp[Op.operands])).trans hp);have h2:=Ak hI hF ((hc q (by simp[Op.operands])).trans hq);obtain⟨d,hdd,hd2⟩:=(X.ty_ok t y hy).agg;simp only[hyk]at hd2;obtain⟨rfl,ye',hye',hne⟩:=hd2;rw[hye]at hye';cases hye';have hlt:j<n:=by simpa[Fs]using hj
 cases hh2:a.eval q<;>rw[hh2]at h2<;>cases h2;generalize hh1:a.eval p=u at h1;cases h1 with
 |bsl _ blk sz _ cap hB hcap=>
  obtain⟨arr,e',hh,hs,hlen,hrel⟩:=hI.box b blk sz rows hB hb;have hsz:sz=ye.size:=by rw[←hl,hlen r (Bh hr)]
  subst hsz;refine⟨.pointer (some ⟨blk,j*ye.size,none⟩),?_,?_⟩
  ·have hin:(j:Int)<(n:Int):=by omega
   simp[execOp,hop,hh1,hh2,Instr.indexAt,asIntOf,run_underlying hdd,hin,De hye,F9];intro h;omega
  ·have:=Rel.ptr (E:=E) (w:=w) b j 0 blk ye.size hB;simpa using this
class BoxC (bx:List (List (List AV)))(b:Nat)(rows:outParam (List (List AV))):Prop where
 h:bx[b]?=some rows
instance{x:List (List AV)}{l:List (List (List AV))}:BoxC (x::l) 0 x:=⟨rfl⟩
instance{x y:List (List AV)}{l:List (List (List AV))}{b:Nat} [h:BoxC l b y]:BoxC (x::l) (b+1) y:=⟨by simpa using h.h⟩
class LeC (n b:Nat):Prop where
 h:n≤b
instance{b:Nat}:LeC 0 b:=⟨Cc _⟩
instance{n b:Nat} [h:LeC n b]:LeC (n+1) (b+1):=⟨Nat.succ_le_succ h.h⟩
class LenC (l:List (List AV))(k:Nat):Prop where
 h:k=l.length∧k≤O0
instance{a b c:List AV}:LenC [a,b,c] 3:=⟨rfl,by decide⟩
instance{bx:List (List (List AV))}{tk:List Nat}{n m b k:Nat}{rows rows':List (List AV)} [h1:BoxC bx b rows] [h2:LeC n b] [h3:LenC rows k] [h4:FzRC ⟨bx,tk⟩ n m rows rows']:FzC ⟨bx,tk⟩ n m (.bsl b k) (.sl rows' .no):=
 ⟨.bsl b k rows rows' h2.h h1.h (Nat.le_of_eq h3.h.1) h3.h.2 (h4.s.get.1.trans h3.h.1.symm) (fun i r r' h1 h2=>(h4.s.get.2 i r r' h1 h2).get.1) (fun i j r r' x y h1 h2 h3 h5=>(h4.s.get.2 i r r' h1 h2).get.2 j x y h3 h5)⟩
end
end Go.V
namespace Go.V
open Go Go.Proofs Go.Proofs.Tryz
theorem Ajm{f:Nat}{r:RS}(h:r.bad=true):(Fc f r).2=r:=by
 cases f with
 |zero=>rfl
 |succ f=>simp only[Fc];rw[if_pos h]
theorem Af4{f:Nat}{r:RS}(h:r.bad=true):(Ed f r).2=r:=by
 cases f with
 |zero=>rfl
 |succ f=>simp only[Ed];rw[Aat (by rw[Ajm h];exact h),Ajm h]
theorem Apu{f:Nat}{r:RS}(h:r.bad=true):(Ev f r).2=r:=by
 cases f with
 |zero=>rfl
 |succ f=>simp only[Ev];rw[Vh (by rw[Af4 h];exact h),Af4 h]
theorem H1{r:RS}(h:r.bad=true):(B9 r).2=r:=Apu h
theorem Aq2{r:RS}(h:r.bad=true):r.spoil=r:=by
 obtain⟨ws,a,b⟩:=r;simp only at h;subst h;rfl
theorem Qr{f:Nat}{acc:List Nd}{r:RS}(h:r.bad=true):D7 f acc r=(acc,r):=by
 cases f with
 |zero=>rfl
 |succ f=>simp only[D7];rw[if_neg (by simp[h])]
theorem Kv{f:Nat}{r:RS}(h:r.bad=true):(Cs f r).2=r:=by
 cases f with
 |zero=>rfl
 |succ f=>simp only[Cs];rw[Co h,Qr h];exact Co h _
theorem Aq3{f:Nat}{r:RS}(hb:r.bad=false)(h:r.ws.length≤r.at_):(C9 (f+1) r).2=r.spoil:=by
 have ht:r.text=[]:=by simp[RS.text,U3 h]
 have hk:r.kind=0:=by simp[RS.kind,U3 h]
 have no:∀s:List UInt8,s≠[]→r.takes s=false:=fun s hs=>by
  rw[Js hb,ht];simpa using Ne.symm hs
 have hn:r.nameR=r.spoil:=by simp[RS.nameR,RS.named,hb,hk]
 have hsb:r.spoil.bad=true:=rfl;simp only[C9];rw[if_neg (by simp[no]),if_neg (by simp[no]),if_neg (by simp[no])];simp only[C1];rw[if_neg (by simp[no]),if_neg (by simp[no]),if_neg (by simp[no]),if_neg (by simp[no])];simp only[Qz];rw[hn,if_neg (by simp[Dq hsb]),Co hsb];simp only[H1 hsb];exact Co hsb _
def Ary(f:Nat):Prop:=∀(r:RS)(e:Nat),r.ok→r.wk→r.bad=false→3*r.left+1≤f→f≤100000→GoesI 327 (C9 f r) r e
def Akt(f:Nat):Prop:=∀(r:RS)(e:Nat),r.ok→r.wk→r.bad=false→3*r.left+3≤f→f≤100000→GoesI 351 (Cs f r) r e
theorem Aw0(f:Nat)(ih:∀g,g<f→Ary g):Akt f:=by
 intro r e ho hw hb hf hF;obtain⟨g,rfl⟩:∃g,f=g+1:=⟨f-1,by omega⟩
 refine GoesI.run func351 ?_;simp only[Cs];by_cases g1:(r.need [123]).bad=false
 ·obtain⟨n1,n2,n3⟩:=Fw g1;have hl:=(Ay n1 (by simp)).1;have ls:=Cb hl;have s:=Aj hl;refine Ae [0] [] (Lw r e [123] (by simp) hb g1) ?_;rw[n2];generalize hT:D7 g [] r.step=T;refine Ej 2 0 3 rfl rfl rfl rfl rfl rfl ?_;refine Av (ι:=Nat×List Nd×RS) 3 1 (fun i=>i.2.2.ok∧i.2.2.wk∧i.2.2.bad=false∧i.2.1.length+i.1≤g∧3*i.2.2.left+2≤i.1∧T=D7 i.1 i.2.1 i.2.2) (fun _=>[(0,.ptr 0 0 0),(2,.ptr 1 0 0),(3,.ptr 2 0 0)])
   (fun i=>⟨[[pc i.2.2 e],[zN],[[vi 30,str [],vi 0,.sl (Ap i.2.1) (.tok 0)]]],[i.2.1.length]⟩) (fun i=>i.1) ?_ (g,[],r.step) ⟨s.ok ho,s.wk hw,hb,by simp,by simp only;omega,hT.symm⟩ ⟨rfl,rfl,rfl,trivial⟩
  rintro⟨n,acc,q⟩ ⟨hqo,hqw,hqb,hlen,hfu,hTn⟩ IH;simp only at hqo hqw hqb hlen hfu hTn IH⊢;obtain⟨m,rfl⟩:∃m,n=m+1:=⟨n-1,by omega⟩
  have hL:T=if !q.bad&&decide (q.at_<q.ws.length)&&!(q.text==[125])then D7 m (acc++[(C9 m q).1]) (C9 m q).2 else(acc,q):=by rw[hTn];simp only[D7]
  refine Bj 100 rfl ?_;refine Ae [0] [] (I0 q e [125] hqb (by simp)) ?_;refine Ag (fun h=>?_) (fun h=>?_)
  ·have h':q.takes [125]=false:=by have:(!q.takes [125])=true:=h;simpa using this
   have h'':(q.text==[125])=false:=by rw[←Js hqb];exact h'
   rw[Fl h'];have ih2:=ih m (by omega) q e hqo hqw hqb (by omega) (by omega);by_cases hlt:q.at_<q.ws.length
   ·rw[if_pos (by simp[hqb,hlt,h''])]at hL;have af:=(Fx m).1 q hqo;have lf:=Bf af;by_cases g2:(C9 m q).2.bad=false
    ·have hon:q.at_<(C9 m q).2.at_:=by
      obtain⟨p,rfl⟩:∃p,m=p+1:=⟨m-1,by omega⟩
      rcases Y3 p hqo with h|h
      ·rw[g2]at h;cases h
      ·exact h
     have hll:(C9 m q).2.left+1≤q.left:=by
      have e1:=af.1;have e2:=af.2.2;simp only[RS.left,e1]at *;omega
     refine Hu 168 3 ?_;refine Dx (Hd [0] [] (ih2.ok g2)) ?_ ?_
     ·exact An (Cn rfl rfl rfl) G0
     refine Ts ?_;refine Ch (Bv (res:=Ap (acc++[(C9 m q).1])) rfl rfl rfl rfl rfl rfl rfl rfl rfl rfl rfl rfl rfl rfl (Ad acc) (Er acc) rfl rfl rfl ?_ ?_ rfl) ?_
     ·rw[Ad];simp;omega
     ·rw[As,As,J8];rfl
     refine Ar ?_;refine Ch (A8 rfl rfl rfl rfl rfl rfl rfl) ?_;refine B6 ?_;refine IH (m,acc++[(C9 m q).1],(C9 m q).2) ⟨af.ok hqo,af.wk hqw,g2,by simp;omega,by simp only;omega,hL⟩ (by simp only;omega) _ _ ⟨rfl,rfl,rfl,trivial⟩ ?_ rfl rfl;simp[St.drop,Ad,upd]
    ·have g2:=B8 g2;rw[Qr g2]at hL;rw[hL,Co g2,C7 g2];refine Ln (S1:=?S1) 3 168 3 func351 ?hk ?hS
     case hk=>
      refine Lq ?_;exact Thr.hd [0] [] (ih2.bad g2)
     case hS=>rfl
   ·rw[if_neg (by simp[hlt])]at hL;obtain⟨p,rfl⟩:∃p,m=p+1:=⟨m-1,by omega⟩
    have hE:=Aq3 (f:=p) hqb (by omega);have hN:q.need [125]=q.spoil:=by simp[RS.need,h']
    have g2:(C9 (p+1) q).2.bad=true:=by rw[hE];rfl
    have ihb:=ih2.bad g2;rw[hE]at ihb;rw[hL,hN,C7 (show q.spoil.bad=true from rfl)];refine Ln (S1:=?S2) 3 168 3 func351 ?hk ?hS
    case hk=>
     refine Lq ?_;exact Thr.hd [0] [] ihb
    case hS=>rfl
  ·have h':q.takes [125]=true:=by have:(!q.takes [125])=false:=h;simpa using this
   have h'':(q.text==[125])=true:=by rw[←Js hqb];exact h'
   have hN:q.need [125]=q.step:=by simp[RS.need,h']
   rw[if_neg (by simp[h''])]at hL;rw[hL,hN,En h',J4 (show q.step.bad=false from hqb),Lf];refine Br func351 ?_ rfl;rw[As]
 ·have g1:=B8 g1;rw[Qr g1,Co g1,C7 g1];exact Fp func351 (Thr.hd [0] [] (Jq r e [123] (by simp) hb g1)) rfl
theorem Azl(r:RS)(s t:List UInt8):r.needs [s,t]=(r.need s).need t:=rfl
theorem Aps(r:RS)(e:Nat)(n:Nd){x:AV}(hx:nd n=x)(hb:r.bad=false)(h:(r.need [59]).bad=false):Hands X 349 [.ptr 0 0 0,x] ⟨[[pc r e]],[]⟩ x ⟨[[pc (r.need [59]) e]],[]⟩:=by
 subst hx;exact Aw1 r e n hb h
theorem Apr(r:RS)(e:Nat)(n:Nd){x:AV}(hx:nd n=x)(hb:r.bad=false)(h:(r.need [59]).bad=true):Throws X 349 [.ptr 0 0 0,x] ⟨[[pc r e]],[]⟩ (pan ((r.need [59]).place e)) ⟨[[pc (r.need [59]) e]],[]⟩:=by
 subst hx;exact As3 r e n hb h
theorem nd1(k:Int)(s:List UInt8)(m:Int)(a:Nd):nd (.mk k s m [a])=.agg [vi k,str s,vi m,.sl [Af a] .no]:=by rw[Lf];rfl
theorem nd2(k:Int)(s:List UInt8)(m:Int)(a b:Nd):nd (.mk k s m [a,b])=.agg [vi k,str s,vi m,.sl [Af a,Af b] .no]:=by rw[Lf];rfl
theorem nd3(k:Int)(s:List UInt8)(m:Int)(a b c:Nd):nd (.mk k s m [a,b,c])=.agg [vi k,str s,vi m,.sl [Af a,Af b,Af c] .no]:=by rw[Lf];rfl
theorem Aht(k:Int)(s:List UInt8)(m:Int):nd (.mk k s m [])=.agg [vi k,str s,vi m,.sl [] .no]:=by rw[Lf];rfl
theorem Ba{X:Cx}{B:Bx}{F:C3}{S:St}{R:AE→St→Prop}{K:List Item}(S':St)(hk:AK X B K F S' R)(h:S=S':=by rfl):AK X B K F S R:=by
 subst h;exact hk
theorem A3f(r:RS)(e:Nat)(ho:r.ok)(hw:r.wk)(hb:r.bad=false) :
 AK X ⟨327,f327,1,0⟩ (Lj false 23 f327) [(0,.ptr 0 0 0),(2,.ptr 1 0 0)] ⟨[[pc r e],[zN]],[]⟩ (Rp ((Qz r).1,(Qz r).2.need [59]) e):=by
 refine D3 ?_;refine Bj 100 rfl ?_;simp only[Qz];by_cases g1:r.nameR.bad=false
 ·have an:=Cv ho;refine Ae [0] [] (Xb r e hb g1) ?_;refine Ae [0] [] (I0 r.nameR e [91] g1 (by simp)) ?_;refine Ag (fun h=>?_) (fun h=>?_)
  ·have h':r.nameR.takes [91]=true:=h;have hl:=(Ay h' (by simp)).1;have s:=an.trans (Aj hl);have hsb:r.nameR.step.bad=false:=g1;have ih:=R8 r.nameR.step e (s.ok ho) (s.wk hw) hsb;have a1:=s.trans (Ca (s.ok ho));rw[if_pos h',En h'];simp only;by_cases g2:(B9 r.nameR.step).2.bad=false
   ·refine Ae [0] [] (ih.ok g2) ?_;rw[←Azl];by_cases g3:((B9 r.nameR.step).2.needs [[93],[61]]).bad=false
    ·refine Ae [0] [] (Alo (B9 r.nameR.step).2 e [[93],[61]] (by simp) (by simp) g2 g3) ?_;have a3:r.after ((B9 r.nameR.step).2.needs [[93],[61]]):=by
      have b1:=a1.trans (Bb (s:=[93]) (a1.ok ho) (by simp));exact b1.trans (Bb (s:=[61]) (b1.ok ho) (by simp))
     have ih2:=R8 _ e (a3.ok ho) (a3.wk hw) g3;generalize (B9 r.nameR.step).2.needs [[93],[61]]=u at g3 ih2 a3⊢;by_cases g4:(B9 u).2.bad=false
     ·by_cases g5:((B9 u).2.need [59]).bad=false
      ·rw[J4 g5];refine Hu 400 4 ?_;refine Dx (Hd [0] [] (ih2.ok g4)) ?_ ?_
       ·exact An (Cn rfl rfl rfl) G0
       refine Wy ?_;refine Ar ?_;refine Ch (Hd [0] [] (Aps (B9 u).2 e (.mk 22 r.name 0 [(B9 r.nameR.step).1,(B9 u).1]) (nd2 22 r.name 0 _ _) g4 g5)) ?_;refine Ch (A8 rfl rfl rfl rfl rfl rfl rfl) ?_;refine B6 ?_;rw[nd2];exact Br func327 rfl rfl
      ·have g5:=B8 g5;rw[C7 g5];refine Ln (S1:=?S1) 7 400 4 func327 ?hk ?hS
       case hk=>
        refine Dx (Hd [0] [] (ih2.ok g4)) ?_ ?_
        ·exact An (Cn rfl rfl rfl) G0
        refine Wy ?_;refine Ar ?_;refine Lq ?_;exact Thr.hd [0] [] (Apr (B9 u).2 e (.mk 22 r.name 0 [(B9 r.nameR.step).1,(B9 u).1]) (nd2 22 r.name 0 _ _) g4 g5)
       case hS=>rfl
     ·have g4:=B8 g4;rw[Co g4,C7 g4];refine Ln (S1:=?S2) 4 400 4 func327 ?hk ?hS
      case hk=>
       refine Lq ?_;exact Thr.hd [0] [] (ih2.bad g4)
      case hS=>rfl
    ·have g3:=B8 g3;rw[H1 g3,Co g3,C7 g3];exact Fp func327 (Thr.hd [0] [] (Ahg (B9 r.nameR.step).2 e [[93],[61]] (by simp) (by simp) g2 g3)) rfl
   ·have g2:=B8 g2;rw[Co g2,Co g2,H1 g2,Co g2,C7 g2];exact Fp func327 (Thr.hd [0] [] (ih.bad g2)) rfl
  ·have h':r.nameR.takes [91]=false:=h;rw[if_neg (by simp[h']),Fl h'];simp only;by_cases g2:(r.nameR.need [61]).bad=false
   ·have a2:=an.trans (Bb (s:=[61]) (an.ok ho) (by simp));refine Ae [0] [] (Lw r.nameR e [61] (by simp) g1 g2) ?_;have ih2:=R8 _ e (a2.ok ho) (a2.wk hw) g2;generalize r.nameR.need [61]=u at g2 ih2 a2⊢;by_cases g4:(B9 u).2.bad=false
    ·refine Akm 0 [0] [] (ih2.ok g4) ?_;refine Bm (Ak1 (Ls rfl rfl rfl)) ?_;by_cases g5:((B9 u).2.need [59]).bad=false
     ·rw[J4 g5];refine Ae [0] [] (Aps (B9 u).2 e (.mk 21 r.name 0 [(B9 u).1]) (nd1 21 r.name 0 _) g4 g5) ?_;rw[nd1];exact Br func327 rfl rfl
     ·have g5:=B8 g5;rw[C7 g5];exact Fp func327 (Thr.hd [0] [] (Apr (B9 u).2 e (.mk 21 r.name 0 [(B9 u).1]) (nd1 21 r.name 0 _) g4 g5)) rfl
    ·have g4:=B8 g4;rw[Co g4,C7 g4];exact Fp func327 (Thr.hd [0] [] (ih2.bad g4)) rfl
   ·have g2:=B8 g2;rw[H1 g2,Co g2,C7 g2];exact Fp func327 (Thr.hd [0] [] (Jq r.nameR e [61] (by simp) g1 g2)) rfl
 ·have g1:=B8 g1;rw[if_neg (by simp[Dq g1])];simp only;rw[Co g1,H1 g1,Co g1,C7 g1];exact Fp func327 (Thr.hd [0] [] (R9 r e hb g1)) rfl
theorem A00(f:Nat)(ih:∀g,g<f→Akt g):Ary f:=by
 intro r e ho hw hb hf hF;obtain⟨g,rfl⟩:∃g,f=g+1:=⟨f-1,by omega⟩
 have hset:=A3f r e ho hw hb;refine GoesI.run func327 ?_;have hM:C9 (g+1) r=if r.takes V3 then
  (if (Cs g (Dk r.step).2).2.takes Ir then
    (.mk 24 [] 0 [(Dk r.step).1,(Cs g (Dk r.step).2).1,(Cs g (Cs g (Dk r.step).2).2.step).1],(Cs g (Cs g (Dk r.step).2).2.step).2)
  else(.mk 24 [] 0 [(Dk r.step).1,(Cs g (Dk r.step).2).1,.mk 30 [] 0 []],(Cs g (Dk r.step).2).2))
  else if r.takes Gp then(.mk 25 [] 0 [(Dk r.step).1,(Cs g (Dk r.step).2).1],(Cs g (Dk r.step).2).2)
  else if r.takes L8 then
   (.mk 26 r.step.name 0 [(B9 (Yk r.step)).1,(B9 (Z3 r.step)).1,(Cs g (B9 (Z3 r.step)).2).1],(Cs g (B9 (Z3 r.step)).2).2)
  else((C1 r).1,(C1 r).2.need [59]):=by simp only[C9]
 have hS:C1 r=if r.takes F7 then(.mk 27 [] 0 [(Dk r.step).1],(Dk r.step).2)
  else if r.takes Is then(.mk 23 r.step.name 0 [],r.step.nameR)
  else if r.takes Ix then(.mk 28 [] 0 [],r.step)
  else if r.takes I4 then(.mk 29 [] 0 [],r.step)
  else Qz r:=by simp only[C1]
 rw[hM];refine Ae [0] [] (I0 r e Is hb (by simp)) ?_;refine Ag (fun h1=>?_) (fun h1=>?_)
 ·have h1':r.takes Is=true:=h1;have s:=Aj (Ay h1' (by simp)).1;have hsb:r.step.bad=false:=hb;rw[if_neg (by simp[Q6 (s':=V3) h1' (by simp)]),if_neg (by simp[Q6 (s':=Gp) h1' (by simp)]),if_neg (by simp[Q6 (s':=L8) h1' (by simp)]),hS,if_neg (by simp[Q6 (s':=F7) h1' (by simp)]),if_pos h1',En h1'];simp only;by_cases g1:r.step.nameR.bad=false
  ·refine Ae [0] [] (Xb r.step e hsb g1) ?_;by_cases g2:(r.step.nameR.need [59]).bad=false
   ·rw[J4 g2];refine Ae [0] [] (Aps r.step.nameR e (.mk 23 r.step.name 0 []) (Aht 23 r.step.name 0) g1 g2) ?_;rw[Aht];exact Br func327 rfl rfl
   ·have g2:=B8 g2;rw[C7 g2];exact Fp func327 (Thr.hd [0] [] (Apr r.step.nameR e (.mk 23 r.step.name 0 []) (Aht 23 r.step.name 0) g1 g2)) rfl
  ·have g1:=B8 g1;rw[Co g1,C7 g1];exact Fp func327 (Thr.hd [0] [] (R9 r.step e hsb g1)) rfl
 have n1:r.takes Is=false:=h1;rw[Fl n1];refine Ae [0] [] (I0 r e V3 hb (by simp)) ?_;refine Ag (fun h2=>?_) (fun h2=>?_)
 ·have h2':r.takes V3=true:=h2;have hl:=(Ay h2' (by simp)).1;have ls:=Cb hl;have s:=Aj hl;have hsb:r.step.bad=false:=hb;rw[if_pos h2',En h2'];have ic:=Aln r.step e (s.ok ho) (s.wk hw) hsb;have c:=s.trans (Dw (s.ok ho));have lc:=Bf (Dw (s.ok ho));generalize Dk r.step=q at ic c lc⊢;obtain⟨x,q⟩:=q;simp only at ic c lc⊢;by_cases g1:q.bad=false
  ·refine Ae [0] [] (ic.ok g1) ?_;have ib:=ih g (by omega) q e (c.ok ho) (c.wk hw) g1 (by omega) (by omega);have d:=c.trans ((Fx g).2.1 q (c.ok ho));have ld:=Bf ((Fx g).2.1 q (c.ok ho));generalize Cs g q=u at ib d ld⊢;obtain⟨y,u⟩:=u;simp only at ib d ld⊢;by_cases g2:u.bad=false
   ·refine Akm 1 [0] [] (ib.ok g2) ?_;refine Aii 23 ?_;refine Bm (Avy (b:=2)) ?_;refine Ae [0] [] (I0 u e Ir g2 (by simp)) ?_;refine Ag (fun h3=>?_) (fun h3=>?_)
    ·have h3':u.takes Ir=true:=h3;have hl2:=(Ay h3' (by simp)).1;have ls2:=Cb hl2;have s2:=d.trans (Aj hl2);rw[if_pos h3',En h3'];have ib2:=ih g (by omega) u.step e (s2.ok ho) (s2.wk hw) g2 (by omega) (by omega);generalize Cs g u.step=v at ib2⊢;obtain⟨z,v⟩:=v;simp only at ib2⊢;by_cases g3:v.bad=false
     ·rw[J4 g3];refine Hu 40 3 ?_;refine Dx (Hd [0] [] (ib2.ok g3)) ?_ ?_
      ·exact An (Cn rfl rfl rfl) G0
      refine P6 (An (F8 (j:=2)) (An (F8 (j:=2)) G0)) rfl ?_;refine Ch (A8 rfl rfl rfl rfl rfl rfl rfl) ?_;refine B6 ?_;refine Ba ⟨[[pc v e],[[vi 24,str [],vi 0,.bsl 2 3]],[Af x,Af y,Af z],[[vi 24,str [],vi 0,.bsl 2 3]]],[]⟩ ?_;rw[nd3];exact Br func327 rfl rfl
     ·have g3:=B8 g3;rw[C7 g3];refine Ln (S1:=?S1) 3 40 3 func327 ?hk ?hS
      case hk=>
       refine Lq ?_;exact Thr.hd [0] [] (ib2.bad g3)
      case hS=>rfl
    ·have h3':u.takes Ir=false:=h3;rw[if_neg (by simp[h3']),Fl h3',J4 g2];refine Ba ⟨[[pc u e],[[vi 24,str [],vi 0,.bsl 2 3]],[Af x,Af y,Af (.mk 30 [] 0 [])],[[vi 24,str [],vi 0,.bsl 2 3]]],[]⟩ ?_;rw[nd3];exact Br func327 rfl rfl
   ·have g2:=B8 g2;rw[if_neg (by simp[Dq g2]),C7 g2];exact Fp func327 (Thr.hd [0] [] (ib.bad g2)) rfl
  ·have g1:=B8 g1;have e1:=Kv (f:=g) g1;rw[e1,if_neg (by simp[Dq g1]),C7 g1];exact Fp func327 (Thr.hd [0] [] (ic.bad g1)) rfl
 have n2:r.takes V3=false:=h2;rw[if_neg (by simp[n2]),Fl n2];refine Ae [0] [] (I0 r e Gp hb (by simp)) ?_;refine Ag (fun h3=>?_) (fun h3=>?_)
 ·have h3':r.takes Gp=true:=h3;have hl:=(Ay h3' (by simp)).1;have ls:=Cb hl;have s:=Aj hl;have hsb:r.step.bad=false:=hb;rw[if_pos h3',En h3'];have ic:=Aln r.step e (s.ok ho) (s.wk hw) hsb;have c:=s.trans (Dw (s.ok ho));have lc:=Bf (Dw (s.ok ho));generalize Dk r.step=q at ic c lc⊢;obtain⟨x,q⟩:=q;simp only at ic c lc⊢;by_cases g1:q.bad=false
  ·refine Ae [0] [] (ic.ok g1) ?_;have ib:=ih g (by omega) q e (c.ok ho) (c.wk hw) g1 (by omega) (by omega);generalize Cs g q=u at ib⊢;obtain⟨y,u⟩:=u;simp only at ib⊢;by_cases g2:u.bad=false
   ·rw[J4 g2];refine Ae [0] [] (ib.ok g2) ?_;rw[nd2];exact Br func327 rfl rfl
   ·have g2:=B8 g2;rw[C7 g2];exact Fp func327 (Thr.hd [0] [] (ib.bad g2)) rfl
  ·have g1:=B8 g1;rw[Kv g1,C7 g1];exact Fp func327 (Thr.hd [0] [] (ic.bad g1)) rfl
 have n3:r.takes Gp=false:=h3;rw[if_neg (by simp[n3]),Fl n3];refine Ae [0] [] (I0 r e L8 hb (by simp)) ?_;refine Ag (fun h4=>?_) (fun h4=>?_)
 ·have h4':r.takes L8=true:=h4;have hl:=(Ay h4' (by simp)).1;have ls:=Cb hl;have s:=Aj hl;have hsb:r.step.bad=false:=hb;rw[if_pos h4',En h4'];have fa:=R6 (s.ok ho);have fb:=Kx (s.ok ho);have lb:=Bf fb;simp only[Z3,Yk]at fb lb⊢;simp only[Yk]at fa;by_cases g1:r.step.nameR.bad=false
  ·refine Ae [0] [] (Xb r.step e hsb g1) ?_;by_cases g2:(r.step.nameR.need Jl).bad=false
   ·refine Ae [0] [] (Lw r.step.nameR e Jl (by simp) g1 g2) ?_;have f1:=s.trans fa;have i1:=R8 _ e (f1.ok ho) (f1.wk hw) g2;generalize r.step.nameR.need Jl=q1 at g2 i1 fb lb⊢;generalize B9 q1=t1 at i1 fb lb⊢;obtain⟨x1,u1⟩:=t1;simp only at i1 fb lb⊢;by_cases g3:u1.bad=false
    ·refine Ae [0] [] (i1.ok g3) ?_;by_cases g4:(u1.need wTo).bad=false
     ·refine Ae [0] [] (Lw u1 e wTo (by simp) g3 g4) ?_;have f2:=s.trans fb;have i2:=R8 _ e (f2.ok ho) (f2.wk hw) g4;have f3:=f2.trans (Ca (f2.ok ho));have l3:=Bf (Ca (f2.ok ho));generalize u1.need wTo=q2 at g4 i2 f2 f3 l3 lb⊢;generalize B9 q2=t2 at i2 f3 l3⊢;obtain⟨x2,u2⟩:=t2;simp only at i2 f3 l3⊢;by_cases g5:u2.bad=false
      ·have ib:=ih g (by omega) u2 e (f3.ok ho) (f3.wk hw) g5 (by omega) (by omega);generalize Cs g u2=v at ib⊢;obtain⟨y,v⟩:=v;simp only at ib⊢;by_cases g6:v.bad=false
       ·rw[J4 g6];refine Hu 148 2 ?_;refine Dx (Hd [0] [] (i2.ok g5)) ?_ ?_
        ·exact An (Cn rfl rfl rfl) G0
        refine Ar ?_;refine Dx (Hd [0] [] (ib.ok g6)) ?_ ?_
        ·intro p hp;replace hp:=(zzq58.1 hp).1;revert p;exact An (Cn rfl rfl rfl) G0
        refine Ts ?_;refine Ar ?_;refine Ch (A8 rfl rfl rfl rfl rfl rfl rfl) ?_;refine B6 ?_;rw[nd3];exact Br func327 rfl rfl
       ·have g6:=B8 g6;rw[C7 g6];refine Ln (S1:=?S2) 4 148 2 func327 ?hk ?hS
        case hk=>
         refine Dx (Hd [0] [] (i2.ok g5)) ?_ ?_
         ·exact An (Cn rfl rfl rfl) G0
         refine Ar ?_;refine Lq ?_;exact Thr.hd [0] [] (ib.bad g6)
        case hS=>rfl
      ·have g5:=B8 g5;rw[Kv g5,C7 g5];refine Ln (S1:=?S3) 2 148 2 func327 ?hk ?hS
       case hk=>
        refine Lq ?_;exact Thr.hd [0] [] (i2.bad g5)
       case hS=>rfl
     ·have g4:=B8 g4;have eb:(B9 (u1.need wTo)).2=u1.need wTo:=H1 g4;rw[eb,Kv g4,C7 g4];exact Fp func327 (Thr.hd [0] [] (Jq u1 e wTo (by simp) g3 g4)) rfl
    ·have g3:=B8 g3;rw[Co g3,H1 g3,Kv g3,C7 g3];exact Fp func327 (Thr.hd [0] [] (i1.bad g3)) rfl
   ·have g2:=B8 g2;rw[H1 g2,Co g2,H1 g2,Kv g2,C7 g2];exact Fp func327 (Thr.hd [0] [] (Jq r.step.nameR e Jl (by simp) g1 g2)) rfl
  ·have g1:=B8 g1;rw[Co g1,H1 g1,Co g1,H1 g1,Kv g1,C7 g1];exact Fp func327 (Thr.hd [0] [] (R9 r.step e hsb g1)) rfl
 have n4:r.takes L8=false:=h4;rw[if_neg (by simp[n4]),Fl n4];refine Ae [0] [] (I0 r e F7 hb (by simp)) ?_;refine Ag (fun h5=>?_) (fun h5=>?_)
 ·have h5':r.takes F7=true:=h5;have hl:=(Ay h5' (by simp)).1;have s:=Aj hl;have hsb:r.step.bad=false:=hb;rw[hS,if_pos h5',En h5'];simp only;have ic:=Aln r.step e (s.ok ho) (s.wk hw) hsb;generalize Dk r.step=q at ic⊢;obtain⟨x,q⟩:=q;simp only at ic⊢;by_cases g1:q.bad=false
  ·refine Akm 0 [0] [] (ic.ok g1) ?_;refine Bm (Ak1 (Ls rfl rfl rfl)) ?_;by_cases g2:(q.need [59]).bad=false
   ·rw[J4 g2];refine Ae [0] [] (Aps q e (.mk 27 [] 0 [x]) (nd1 27 [] 0 x) g1 g2) ?_;rw[nd1];exact Br func327 rfl rfl
   ·have g2:=B8 g2;rw[C7 g2];exact Fp func327 (Thr.hd [0] [] (Apr q e (.mk 27 [] 0 [x]) (nd1 27 [] 0 x) g1 g2)) rfl
  ·have g1:=B8 g1;rw[Co g1,C7 g1];exact Fp func327 (Thr.hd [0] [] (ic.bad g1)) rfl
 have n5:r.takes F7=false:=h5;rw[hS,if_neg (by simp[n5]),if_neg (by simp[n1]),Fl n5];refine Ae [0] [] (I0 r e Ix hb (by simp)) ?_;refine Ag (fun h6=>?_) (fun h6=>?_)
 ·have h6':r.takes Ix=true:=h6;have hsb:r.step.bad=false:=hb;rw[if_pos h6',En h6'];simp only;by_cases g2:(r.step.need [59]).bad=false
  ·rw[J4 g2];refine Ae [0] [] (Aps r.step e (.mk 28 [] 0 []) (Aht 28 [] 0) hsb g2) ?_;rw[Aht];exact Br func327 rfl rfl
  ·have g2:=B8 g2;rw[C7 g2];exact Fp func327 (Thr.hd [0] [] (Apr r.step e (.mk 28 [] 0 []) (Aht 28 [] 0) hsb g2)) rfl
 have n6:r.takes Ix=false:=h6;rw[if_neg (by simp[n6]),Fl n6];refine Ae [0] [] (I0 r e I4 hb (by simp)) ?_;refine Eu 0 23 (fun h6=>?_) (fun h6=>?_)
 ·have h6':r.takes I4=true:=h6;have hsb:r.step.bad=false:=hb;rw[if_pos h6',En h6'];simp only;refine Bj 100 rfl ?_;by_cases g2:(r.step.need [59]).bad=false
  ·rw[J4 g2];refine Ae [0] [] (Aps r.step e (.mk 29 [] 0 []) (Aht 29 [] 0) hsb g2) ?_;rw[Aht];exact Br func327 rfl rfl
  ·have g2:=B8 g2;rw[C7 g2];exact Fp func327 (Thr.hd [0] [] (Apr r.step e (.mk 29 [] 0 []) (Aht 29 [] 0) hsb g2)) rfl
 ·have h6':r.takes I4=false:=h6;rw[if_neg (by simp[h6']),Fl h6'];exact B3 2 0 hset ⟨rfl,rfl,trivial⟩ rfl rfl rfl rfl rfl
theorem Aw3:∀f:Nat,Ary f∧Akt f:=by
 intro f
 induction f using Nat.strongRecOn with
 |ind f ih=>exact⟨A00 f (fun g hg=>(ih g hg).2),Aw0 f (fun g hg=>(ih g hg).1)⟩
theorem Aj9{f:Nat}{r:RS}(hb:r.bad=false)(hw:r.wk)(ht:r.text=[125]):(C9 (f+1) r).2=r.spoil:=by
 have hk:(r.kind==1)=false:=by
  by_cases h0:r.kind=0
  ·simp[h0]
  ·have hkt:=Ol hw h0;rw[hkt,ht];decide
 have no:∀s:List UInt8,s≠[125]→r.takes s=false:=fun s hs=>by
  rw[Js hb,ht];simpa using Ne.symm hs
 have hn:r.nameR=r.spoil:=by simp[RS.nameR,RS.named,hb,hk]
 have hsb:r.spoil.bad=true:=rfl;simp only[C9];rw[if_neg (by simp[no]),if_neg (by simp[no]),if_neg (by simp[no])];simp only[C1];rw[if_neg (by simp[no]),if_neg (by simp[no]),if_neg (by simp[no]),if_neg (by simp[no])];simp only[Qz];rw[hn,if_neg (by simp[Dq hsb]),Co hsb];simp only[H1 hsb];exact Co hsb _
theorem Mp{f:Nat}{acc:List Nd}{r:RS}(h:r.bad=true):E6 f acc r=(acc,r):=by
 cases f with
 |zero=>rfl
 |succ f=>simp only[E6];rw[if_neg (by simp[Hn,Dq h])]
theorem Aiv{r:RS}(h:r.bad=true):r.ends=r:=by
 simp only[RS.ends];split
 ·exact Aq2 h
 ·rfl
def Abf(T:List Nd×RS):Nd×RS:=(.mk 40 [] 0 (T.1++[.mk 30 [] 0 (D7 5000 [] T.2).1]),(D7 5000 [] T.2).2.ends)
theorem Ama(r:RS):El r=Abf (E6 2000 [] r):=rfl
theorem Aq4{acc:List Nd}{r:RS}(h:r.bad=true):(Abf (acc,r)).2=r:=by
 simp only[Abf,Qr h];exact Aiv h
abbrev gI:C3:=[(0,.ptr 0 0 0),(2,.ptr 1 0 0),(3,.ptr 2 0 0)]
abbrev sI(q:RS)(e:Nat)(acc:List Nd):St:=⟨[[pc q e],[zN],[[vi 40,str [],vi 0,.sl (Ap acc) (.tok 0)]]],[acc.length]⟩
theorem A01(q:RS)(e:Nat)(acc:List Nd)(ho:q.ok)(hw:q.wk)(hb:q.bad=false)(hl:acc.length≤2000) :
 AK X ⟨302,f302,1,0⟩ (Lj false 13 f302) gI (sI q e acc) (Rp (Abf (acc,q)) e):=by
 refine D3 ?_;refine Bj 100 rfl ?_;have hq1:=ho.1;have hleft:q.left≤1500:=by simp only[RS.left];omega
 generalize hT:Abf (acc,q)=T;refine Ej 3 0 3 rfl rfl rfl rfl rfl rfl ?_;refine Av (ι:=Nat×List Nd×RS) 4 2 (fun i=>i.2.2.ok∧i.2.2.wk∧i.2.2.bad=false∧i.2.1.length+i.1≤5000∧3*i.2.2.left+2≤i.1∧T=(.mk 40 [] 0 (acc++[Nd.mk 30 [] 0 (D7 i.1 i.2.1 i.2.2).1]),(D7 i.1 i.2.1 i.2.2).2.ends)) (fun _=>(5,.ptr 3 0 0)::gI)
  (fun i=>⟨[[pc i.2.2 e],[zN],[[vi 40,str [],vi 0,.sl (Ap acc) (.tok 0)]],[[vi 30,str [],vi 0,.sl (Ap i.2.1) (.tok 1)]]],[acc.length,i.2.1.length]⟩) (fun i=>i.1) ?_ (5000,[],q) ⟨ho,hw,hb,by simp,by simp only;omega,hT.symm⟩ ⟨rfl,rfl,rfl,rfl,trivial⟩
 rintro⟨n,ks,u⟩ ⟨huo,huw,hub,hlen,hfu,hTn⟩ IH;simp only at huo huw hub hlen hfu hTn IH⊢;obtain⟨m,rfl⟩:∃m,n=m+1:=⟨n-1,by omega⟩
 have hL:D7 (m+1) ks u=if !u.bad&&decide (u.at_<u.ws.length)&&!(u.text==[125])then D7 m (ks++[(C9 m u).1]) (C9 m u).2 else(ks,u):=by simp only[D7]
 have hu1:=huo.1;refine Dh (fun h=>?_) (fun h=>?_)
 ·have hlt:u.at_<u.ws.length:=by
   have h1:=A7 h;rw[Dz,Ad4]at h1;omega
  have ih2:=(Aw3 m).1 u e huo huw hub (by omega) (by omega);by_cases ht:u.text=[125]
  ·obtain⟨p,rfl⟩:∃p,m=p+1:=⟨m-1,by omega⟩
   have hC:=Aj9 (f:=p) hub huw ht;have g2:(C9 (p+1) u).2.bad=true:=by rw[hC];rfl
   have ihb:=ih2.bad g2;rw[hC]at ihb;rw[if_neg (by simp[ht])]at hL;rw[hL]at hTn;have he:u.ends=u.spoil:=by simp only[RS.ends];rw[if_pos hlt]
   rw[he]at hTn;rw[hTn,C7 (show u.spoil.bad=true from rfl)];refine Ln (S1:=?S1) 3 168 3 func302 ?hk ?hS
   case hk=>
    refine Lq ?_;exact Thr.hd [0] [] ihb
   case hS=>rfl
  ·rw[if_pos (by simp[hub,hlt,ht])]at hL;rw[hL]at hTn;have af:=(Fx m).1 u huo;have lf:=Bf af;by_cases g2:(C9 m u).2.bad=false
   ·have hon:u.at_<(C9 m u).2.at_:=by
     obtain⟨p,rfl⟩:∃p,m=p+1:=⟨m-1,by omega⟩
     rcases Y3 p huo with h|h
     ·rw[g2]at h;cases h
     ·exact h
    have hll:(C9 m u).2.left+1≤u.left:=by
     have e1:=af.1;have e2:=af.2.2;simp only[RS.left,e1]at *;omega
    refine Hu 168 3 ?_;refine Dx (Hd [0] [] (ih2.ok g2)) ?_ ?_
    ·exact An (Cn rfl rfl rfl) G0
    refine Ts ?_;refine Ch (Bv (res:=Ap (ks++[(C9 m u).1])) rfl rfl rfl rfl rfl rfl rfl rfl rfl rfl rfl rfl rfl rfl (Ad ks) (Er ks) rfl rfl rfl ?_ ?_ rfl) ?_
    ·rw[Ad];simp;omega
    ·rw[As,As,J8];rfl
    refine Ar ?_;refine Ch (A8 rfl rfl rfl rfl rfl rfl rfl) ?_;refine B6 ?_;refine IH (m,ks++[(C9 m u).1],(C9 m u).2) ⟨af.ok huo,af.wk huw,g2,by simp;omega,by simp only;omega,hTn⟩ (by simp only;omega) _ _ ⟨rfl,rfl,rfl,rfl,trivial⟩ ?_ rfl rfl;simp[St.drop,Ad,upd]
   ·have g2:=B8 g2;rw[Qr g2,Aiv g2]at hTn;rw[hTn,C7 g2];refine Ln (S1:=?S2) 3 168 3 func302 ?hk ?hS
    case hk=>
     refine Lq ?_;exact Thr.hd [0] [] (ih2.bad g2)
    case hS=>rfl
 ·have hge:u.ws.length≤u.at_:=by
   have h1:=Bd h;rw[Dz,Ad4]at h1;omega
  rw[if_neg (by simp;omega)]at hL;rw[hL]at hTn;have he:u.ends=u:=by simp only[RS.ends];rw[if_neg (by omega)]
  rw[he]at hTn;rw[hTn,J4 hub];refine Bj 100 rfl ?_;refine Aii 62 ?_;refine Bm (Bv (res:=Ap (acc++[Nd.mk 30 [] 0 ks])) rfl rfl rfl rfl rfl rfl rfl rfl rfl rfl rfl rfl rfl rfl (Ad acc) (Er acc) rfl rfl rfl ?_ ?_ rfl) ?_
  ·rw[Ad];simp;omega
  ·rw[As acc,As (acc++_),J8];rfl
  rw[Lf];refine Br func302 ?_ rfl;rw[As]
theorem Apm(f:Nat)(acc:List Nd)(r:RS):E6 (f+1) acc r=if Hn r then E6 f (acc++[(Jg r).1]) ((Jg r).2.need [59])else(acc,r):=rfl
theorem Aqz{q:RS}(hb:q.bad=false)(hk:q.kind=2):Iw q=(Dn q.text,q.step):=by simp only[Iw];rw[if_pos (by simp[hb,hk])]
theorem Afw{q:RS}(hk:q.kind≠2):Iw q=(-1,q.need [63]):=by simp only[Iw];rw[if_neg (by simp[hk])]
theorem Afx{q:RS}(h:q.bad=true):(Iw q).2=q:=by simp only[Iw];rw[if_neg (by simp[h])];exact Co h _
theorem Ve{acc:List Nd}{q:RS}{e:Nat}(h:q.bad=true):Rp (Abf (acc,q)) e=fun ae S=>ae=.panic (pan (q.place e))∧S=⟨[[pc q e]],[]⟩:=by
 have hq:=Aq4 (acc:=acc) h;generalize Abf (acc,q)=T at hq⊢;obtain⟨n,u⟩:=T;simp only at hq;subst hq;exact C7 h
set_option maxHeartbeats 800000 in
theorem A0z(r:RS)(e:Nat)(hr:r.ok)(hw:r.wk)(hb:r.bad=false):GoesI 302 (El r) r e:=by
 refine GoesI.run func302 ?_;rw[Ama];generalize hTT:E6 2000 [] r=T;have hleft:r.left≤1500:=by have:=hr.1;simp only[RS.left];omega
 refine Ej 2 0 3 rfl rfl rfl rfl rfl rfl ?_;refine Av (ι:=Nat×List Nd×RS) 3 1 (fun i=>i.2.2.ok∧i.2.2.wk∧i.2.2.bad=false∧i.2.1.length+i.1≤2000∧i.2.2.left+1≤i.1∧T=E6 i.1 i.2.1 i.2.2) (fun _=>gI) (fun i=>sI i.2.2 e i.2.1) (fun i=>i.1) ?_ (2000,[],r)
  ⟨hr,hw,hb,by simp,by simp only;omega,hTT.symm⟩ ⟨rfl,rfl,rfl,trivial⟩
 rintro⟨n,acc,q⟩ ⟨hq,hqw,hqb,hlen,hfu,hTn⟩ IH;simp only at hq hqw hqb hlen hfu hTn IH⊢;obtain⟨m,rfl⟩:∃m,n=m+1:=⟨n-1,by omega⟩
 rw[Apm]at hTn;refine Bj 100 rfl ?_;refine Ae [0] [] (I0 q e Nk hqb (by simp)) ?_;refine Ag (fun h1=>?_) (fun h1=>?_)
 ·have h1':q.takes Nk=true:=h1;have hD:Hn q=true:=by simp[Hn,h1']
  have hR:Jg q=(.mk 31 q.step.name 0 [],q.step.nameR):=by simp only[Jg];rw[if_pos h1']
  obtain⟨af,hlt⟩:=K7 hq hD;have a:=Aj hlt;have l1:=Cb hlt;rw[if_pos hD,hR]at hTn;rw[hR]at af;simp only at hTn af;rw[En h1'];have hsb:q.step.bad=false:=hqb;by_cases g1:q.step.nameR.bad=false
  ·refine Hu 328 3 ?_;refine Dx (Hd [0] [] (Xb q.step e hsb g1)) ?_ ?_
   ·exact An (Cn rfl rfl rfl) G0
   refine Ar ?_;refine Wy ?_;refine Ch (Bv (res:=Ap (acc++[.mk 31 q.step.name 0 []])) rfl rfl rfl rfl rfl rfl rfl rfl rfl rfl rfl rfl rfl rfl (Ad acc) (Er acc) rfl rfl rfl ?_ ?_ rfl) ?_
   ·rw[Ad];simp;omega
   ·rw[As acc,As (acc++_),J8];rfl
   refine Ar ?_;refine Ch (A8 rfl rfl rfl rfl rfl rfl rfl) ?_;refine B6 ?_;by_cases g2:(q.step.nameR.need [59]).bad=false
   ·refine Ae [0] [] (Lw q.step.nameR e [59] (by simp) g1 g2) ?_;have an:=af.trans (Bb (s:=[59]) (af.ok (a.ok hq)) (by simp));have ln:=Bf an;have at':=a.trans an;refine IH (m,acc++[.mk 31 q.step.name 0 []],q.step.nameR.need [59]) ⟨at'.ok hq,at'.wk hqw,g2,by simp;omega,by simp only;omega,hTn⟩ (by simp only;omega) _ _ ⟨rfl,rfl,rfl,trivial⟩ ?_ rfl rfl;simp[St.drop,Ad,upd]
   ·have g2:=B8 g2;rw[Mp g2]at hTn;rw[hTn,Ve g2];exact Fp func302 (Thr.hd [0] [] (Jq q.step.nameR e [59] (by simp) g1 g2)) rfl
  ·have g1:=B8 g1;rw[Co g1,Mp g1]at hTn;rw[hTn,Ve g1];refine Ln (S1:=?S1) 3 328 3 func302 ?hk ?hS
   case hk=>
    refine Lq ?_;exact Thr.hd [0] [] (R9 q.step e hsb g1)
   case hS=>rfl
 have h1':q.takes Nk=false:=h1;rw[Fl h1'];refine Ae [0] [] (I0 q e Ff hqb (by simp)) ?_;refine Eu 0 13 (fun h2=>?_) (fun h2=>?_)
 ·have h2':q.takes Ff=true:=h2;have hD:Hn q=true:=by simp[Hn,h2']
  have hR:Jg q=(.mk 32 q.step.name (Iw (q.step.nameR.need [91])).1 [],(Iw (q.step.nameR.need [91])).2.need [93]):=by simp only[Jg];rw[if_neg (by simp[h1'])]
  obtain⟨af,hlt⟩:=K7 hq hD;have a:=Aj hlt;have l1:=Cb hlt;rw[if_pos hD,hR]at hTn;rw[hR]at af;simp only at hTn af;rw[En h2'];have hsb:q.step.bad=false:=hqb;by_cases g1:q.step.nameR.bad=false
  ·have b:=a.trans (Cv (a.ok hq));refine Ae [0] [] (Xb q.step e hsb g1) ?_;by_cases g2:(q.step.nameR.need [91]).bad=false
   ·have c:=b.trans (Bb (s:=[91]) (b.ok hq) (by simp));refine Ae [0] [] (Lw q.step.nameR e [91] (by simp) g1 g2) ?_;generalize q.step.nameR.need [91]=u at g2 c hTn af⊢;have fin:∀(v:Int) (u':RS),Iw u=(v,u')→u'.bad=false→AK X ⟨302,f302,1,0⟩ (Lj false 11 f302) ((4,.ptr 3 0 0)::gI)
     ⟨[[pc u' e],[zN],[[vi 40,str [],vi 0,.sl (Ap acc) (.tok 0)]],[[vi 32,str q.step.name,vi v,.sl [] .tight]]],[acc.length]⟩ (Rp (Abf T) e):=fun v u' hv hub=>by
     rw[hv]at hTn af;simp only at hTn af;rw[←Azl]at hTn;refine D3 ?_;refine Bj 100 rfl ?_;by_cases g4:(u'.needs [[93],[59]]).bad=false
     ·refine Ae [0] [] (Alo u' e [[93],[59]] (by simp) (by simp) hub g4) ?_;refine Aii 42 ?_;refine Bm (Bv (res:=Ap (acc++[.mk 32 q.step.name v []])) rfl rfl rfl rfl rfl rfl rfl rfl rfl rfl rfl rfl rfl rfl (Ad acc) (Er acc) rfl rfl rfl ?_ ?_ rfl) ?_
      ·rw[Ad];simp;omega
      ·rw[As acc,As (acc++_),J8];rfl
      have an:q.step.after (u'.needs [[93],[59]]):=af.trans (Bb (s:=[59]) (af.ok (a.ok hq)) (by simp));have ln:=Bf an;have at':=a.trans an;refine IH (m,acc++[.mk 32 q.step.name v []],u'.needs [[93],[59]]) ⟨at'.ok hq,at'.wk hqw,g4,by simp;omega,by simp only;omega,hTn⟩ (by simp only;omega) _ _ ⟨rfl,rfl,rfl,trivial⟩ ?_ rfl rfl;simp[St.drop,Ad,upd]
     ·have g4:=B8 g4;rw[Mp g4]at hTn;rw[hTn,Ve g4];exact Fp func302 (Thr.hd [0] [] (Ahg u' e [[93],[59]] (by simp) (by simp) hub g4)) rfl
    refine Ae [0] [] (I0 u e [63] g2 (by simp)) ?_;refine Eu 11 0 (fun h3=>?_) (fun h3=>?_)
    ·have h3':u.takes [63]=true:=h3;have hk:u.kind≠2:=fun hk=>by
      have hkt:=Ol (c.wk hqw) (by omega);have ht:u.text=[63]:=by rw[Js g2]at h3';simpa using h3'
      rw[hk,ht]at hkt;revert hkt;decide
     have hN:u.need [63]=u.step:=by simp[RS.need,h3']
     rw[En h3'];exact B3 4 1 (fin (-1) u.step (by rw[Afw hk,hN]) g2) ⟨rfl,rfl,rfl,rfl,trivial⟩ rfl rfl rfl rfl rfl
    ·have h3':u.takes [63]=false:=h3;rw[Fl h3'];by_cases hk:u.kind=2
     ·refine Agi 11 [0] [] (Azi u e (c.wk hqw) hk) ?_;exact B3 4 1 (fin (Dn u.text) u.step (Aqz g2 hk) g2) ⟨rfl,rfl,rfl,rfl,trivial⟩ rfl rfl rfl rfl rfl
     ·have hs:(u.need [63]).bad=true:=by simp[RS.need,h3',RS.spoil]
      have hp:(u.need [63]).place e=u.place e:=Adl h3' e;have hpc:pc (u.need [63]) e=pc u e:=Aoh h3' e;rw[Afw hk]at hTn;simp only at hTn;rw[Co hs,Co hs,Mp hs]at hTn;rw[hTn,Ve hs,hp,hpc];exact Fp func302 (Thr.hd [0] [] (A0y u e hk)) rfl
   ·have g2:=B8 g2;rw[Afx g2,Co g2,Co g2,Mp g2]at hTn;rw[hTn,Ve g2];exact Fp func302 (Thr.hd [0] [] (Jq q.step.nameR e [91] (by simp) g1 g2)) rfl
  ·have g1:=B8 g1;rw[Co g1,Afx g1,Co g1,Co g1,Mp g1]at hTn;rw[hTn,Ve g1];exact Fp func302 (Thr.hd [0] [] (R9 q.step e hsb g1)) rfl
 ·have h2':q.takes Ff=false:=h2;rw[Fl h2'];rw[if_neg (by simp[Hn,h1',h2'])]at hTn;rw[hTn];exact B3 3 1 (A01 q e acc hq hqw hqb (by omega)) ⟨rfl,rfl,rfl,trivial⟩ rfl rfl rfl rfl rfl
end Go.V
namespace Go.V
open Go
section
variable {X:Cx}{B:Bx}{E:Env}{S S':St}{w:World}{F F':C3}{a:Act}{N:Nat}{R:AE→St→Prop}{K K':List Item}
def Env.dfs(E:Env)(D:List Deferred):Env:={ E with df:=D }
theorem Rel.dfE(D:List Deferred){v:Value}{x:AV}(h:Rel E w v x):Rel (E.dfs D) w v x:=
 Rel.move (E:=E) (E':=E.dfs D) (n:=E.boxes.length) (m:=E.toks.length) (fun i _ hl=>⟨hl,fun _ h=>h⟩) (fun t _ k h=>⟨k,h,.inl rfl⟩) (fun _ _ _ _ h=>h) (fun _ _ _ h=>h) (fun _ _ h=>h) (fun _ _ _ _ _ _ _ _ _ h=>h) h h.ok
theorem Inv.dfE(D:List Deferred)(hI:Inv X E S w):Inv X (E.dfs D) S w where
 nb:=hI.nb
 nt:=hI.nt
 np:=hI.np
 box i b sz rows h1 h2:=by
  obtain⟨cs,e,hh,hs,hl,hr⟩:=hI.box i b sz rows h1 h2;exact⟨cs,e,hh,hs,hl,fun k r j x v h3 h4 h5=>(hr k r j x v h3 h4 h5).dfE D⟩
 tok:=hI.tok
 bb:=hI.bb
 bt:=hI.bt
 tt:=hI.tt
 frlt:=hI.frlt
 lo:=hI.lo
 frlo:=hI.frlo
 sz:=hI.sz
 glob:=hI.glob
theorem Evol.dfE{D:List Deferred}{E':Env}{w':World}{n m:Nat}(h:Evol (E.dfs D) w E' w' n m):Evol E w (E'.dfs E.df) w' n m:=
 ⟨h.fr,h.boxes,h.toks,h.os,h.tape,h.output,h.size,h.block,h.cell,h.mt,h.own,rfl,h.ty,h.pv⟩
theorem Ael(C:List Frame→Frame→Env→World→Machine→Prop)(he:Go.V.ev X B.fn.ntmps 200 K F S=(K',F',S'))
 (hc:∀(cs:List Frame)(b:Frame)(E:Env)(w:World)(E':Env)(w':World)(st st':Machine),Steps X.P st st'→Evol E w E' w' B.n B.m→C cs b E' w' st'→C cs b E w st)
 (h:∀(E:Env)(w:World)(a:Act)(b:Frame)(cs:List Frame),Inv X E S' w→FR E w F' a B.fn.ntmps→B.n≤S'.boxes.length→b.fn=B.f→C cs b E w (lone (b.at a K') cs w))
 (hI:Inv X E S w)(hF:FR E w F a B.fn.ntmps)(hn:B.n≤S.boxes.length)(hm:B.m≤S.toks.length){b:Frame}(hb:b.fn=B.f)(cs:List Frame):C cs b E w (lone (b.at a K) cs w):=by
 have hAK:AK X B K F S fun e _=>e=.hook C:=Bj 200 he fun E w a b cs hI hF hn hm hb=>.inr ⟨C,rfl,fun E w E' w' st st'=>hc cs b E w E' w' st st',h E w a b cs hI hF hn hb⟩;rcases hAK E w a b cs hI hF hn hm hb with⟨e,w',fr,⟨E2,S2,_,_,h3⟩,_⟩|⟨C',h1,_,h3⟩
 ·cases e with
  |returned v=>obtain⟨_,_,h⟩:=h3;cases h
  |panicked ch=>cases h3
  |outgrown=>exact h3.elim
 ·cases h1;exact h3
theorem ACalls.defers{f g:FuncId}{fn:Func}{c:Code}{args caps:List AV}{o:Oper}{cl:Call}{ops:Array Oper}{i:Nat}{l:List Nat}{k:List Item}{t:Nat}(hf:X.P.funcs[f]?=some fn)(hb:fn.body=some c)(hl:args.length≤fn.ntmps)
 (he:Go.V.ev X fn.ntmps 200 [.code c] (Oq 0 args) ⟨[],[]⟩=(.inRegion ops (i::l)::k,F',S'))(ho:ops[i]?=some o)(hw:A6 ops F' o=some true)(hop:o.op=.defer cl)(hcal:cl.callee=.value (.tmp t))(hca:cl.args=#[])
 (hod:o.dst=none)(ht:lk F' t=some (.fn g caps))
 (h:∀(E:Env)(w:World)(a:Act)(b:Frame)(cs:List Frame)(us:Array Value),Inv X E S' w→FR E w F' a fn.ntmps→E.df=[⟨.fn (.func g) us,#[]⟩]→us.size=caps.length →
   (∀(j:Nat)(v:Value)(x:AV),us[j]?=some v→caps[j]?=some x→Rel E w v x)→b.fn=f→b.kind=.normal →
   ∃e w' fr,Aij X E w 0 0 R e w'∧Comes X.P (lone (b.at a (.inRegion ops l::k)) cs w) (lone fr cs w') e∧fr.fn=f∧fr.leaving X.P w' e):ACalls X f args ⟨[],[]⟩ R:=by
 intro E w vs hdf hI hs hr cs
 let b:Frame:={ (default:Frame)with fn:=f,kind:=.normal }
 let a:Act:={ tmps:=vs++Array.replicate (fn.ntmps-vs.size) undef,defers:=[] }
 have henter:Frame.enter X.P f vs .normal=b.at a [.code c]:=by simp[Frame.enter,Frame.at,hf,hb,b,a]
 have hF:FR E w (Oq 0 args) a fn.ntmps:=by
  refine⟨by simp[a];omega,hdf.symm,fun k x hk=>?_⟩;obtain⟨_,h2⟩:=Ab1 args 0 k x hk;simp only[Nat.sub_zero]at h2;have hlt:k<vs.size:=by rw[hs];exact Aa h2
  exact⟨vs[k],by simp only[a];rw[Zd hlt];simp[hlt],hr k _ x (by simp[hlt]) h2⟩
 rw[henter];have:=Ael (X:=X) (B:=⟨f,fn,0,0⟩) (fun cs b E w st=>E.df=[]→b.fn=f→b.kind=.normal→∃e w' fr,Aij X E w 0 0 R e w'∧Comes X.P st (lone fr cs w') e∧fr.fn=f∧fr.leaving X.P w' e) he
  (fun cs b E w E' w' st st' hst ev hC hE hb hk=>by
    obtain⟨e,w2,fr,⟨E2,S2,d1,d2,d3⟩,k2,k3⟩:=hC (ev.df.trans hE) hb hk;exact⟨e,w2,fr,⟨E2,S2,d1,ev.trans d2,d3⟩,Comes.of_steps hst k2,k3⟩)
  (fun E w a b cs hI hF _ _ hE hb hk=>by
    obtain⟨v,hv,hr⟩:=hF.rel _ _ ht;cases hr with
    |fn _ us _ hul hur=>
     have hg:=stepG_op (P:=X.P) (b:=b) (k:=k) (cs:=cs) (w:=w) (rest:=l) ho (Cm hF hw);have hev:a.eval (.tmp t)=.func (.func g) #[] us:=by simp[Act.eval,hv]
     have hrun:(execOp a.eval o).run X.P w=.ok (.defer ⟨.fn (.func g) us,#[]⟩) w:=by
      simp[execOp,hop,resolve,hcal,hca,hev,Deferred.ofValue]
     have hfin:({ b.at a (.inRegion ops (i::l)::k)with defers:=⟨.fn (.func g) us,#[]⟩::a.defers }:Frame).finish undef=b.at { a with defers:=⟨.fn (.func g) us,#[]⟩::a.defers } (.inRegion ops l::k):=by
      have:=Frame.finish_at b { a with defers:=⟨.fn (.func g) us,#[]⟩::a.defers } ops i l k undef;rw[ho]at this;simp only[Option.bind_some,hod]at this;exact this
     have hnil:a.defers=[]:=hF.nod.trans hE;have hstep:Go.step X.P (lone (b.at a (.inRegion ops (i::l)::k)) cs w)=.next (lone (b.at { a with defers:=[⟨.fn (.func g) us,#[]⟩] } (.inRegion ops l::k)) cs w):=by
      refine step_lone_go ?_;rw[hg];simp only[stepG.apply,Sem.runT_eq,hrun,GStep.bare_after];rw[hnil]at hfin;rw[←hfin];simp only[Frame.at,hnil];rfl
     have hI2:=hI.dfE [⟨.fn (.func g) us,#[]⟩];have hF2:FR (E.dfs [⟨.fn (.func g) us,#[]⟩]) w F' { a with defers:=[⟨.fn (.func g) us,#[]⟩] } fn.ntmps:=
      ⟨hF.size,rfl,fun k x hk=>let ⟨v,h1,h2⟩:=hF.rel k x hk;⟨v,h1,h2.dfE _⟩⟩
     obtain⟨e,w',fr,⟨E2,S2,d1,d2,d3⟩,k2,k3,k4⟩:=h _ w _ b cs us hI2 hF2 rfl hul (fun j v x hv hx=>(hur j v x hv hx).dfE _) hb hk;refine⟨e,w',fr,⟨E2.dfs E.df,S2,d1.dfE _,d2.dfE,?_⟩,Comes.of_steps (.one hstep) k2,k3,k4⟩;cases e with
     |returned v=>obtain⟨r,h1,h2⟩:=d3;exact⟨r,h1.dfE _,h2⟩
     |panicked ch=>exact d3
     |outgrown=>exact d3)
  hI hF (Cc _) (Cc _) (b:=b) rfl cs
 exact this hdf rfl rfl
theorem Apj{g:FuncId}{gn:Func}{c:Code}{args:List AV}{o:Oper}{cl:Call}{ops:Array Oper}{i d n:Nat}{l:List Nat}{k:List Item}{r:AV}{S2:St}{u u':FrameMode}{v0:Value}(hf:X.P.funcs[g]?=some gn)(hb:gn.body=some c)
 (hl:args.length≤gn.ntmps)(he:Go.V.ev X gn.ntmps 200 [.code c] (Oq 0 args) S=(.inRegion ops (i::l)::k,F',S'))(ho:ops[i]?=some o)(hw:A6 ops F' o=some true)(hop:o.op=.call cl)(hcal:cl.callee=.builtin .recover)
 (hca:cl.args=#[])(hod:o.dst=some d)(hd:d<gn.ntmps)(hn:n=S.boxes.length)(htk:S.toks=[])
 (hrec:∀(c0:Frame)(cs:List Frame),c0.mode=u→(match recoverD (c0::cs)with|some q=>q|none=>(.nilIface,c0::cs))=(v0,{ c0 with mode:=u' }::cs))
 (hk:AK X ⟨g,gn,n,0⟩ (.inRegion ops l::k) ((d,.val v0)::F') S' fun e S'=>e=.ret r∧S'=S2)(hdf:E.df=[])(hI:Inv X E S w){vs:Array Value}(hs:vs.size=args.length)
 (hr:∀(j:Nat)(v:Value)(x:AV),vs[j]?=some v→args[j]?=some x→Rel E w v x) :
 CallsD X.P g vs u w fun e u2 w'=>u2=u'∧(∃v,e=.returned v)∧∃E',Inv X E' S2 w'∧Evol E w E' w' n 0:=by
 intro c0 cs hu
 let b:Frame:={ (default:Frame)with fn:=g,kind:=.deferred }
 let a:Act:={ tmps:=vs++Array.replicate (gn.ntmps-vs.size) undef,defers:=[] }
 have henter:Frame.enter X.P g vs .deferred=b.at a [.code c]:=by simp[Frame.enter,Frame.at,hf,hb,b,a]
 have hF:FR E w (Oq 0 args) a gn.ntmps:=by
  refine⟨by simp[a];omega,hdf.symm,fun k x hk=>?_⟩;obtain⟨_,h2⟩:=Ab1 args 0 k x hk;simp only[Nat.sub_zero]at h2;have hlt:k<vs.size:=by rw[hs];exact Aa h2
  exact⟨vs[k],by simp only[a];rw[Zd hlt];simp[hlt],hr k _ x (by simp[hlt]) h2⟩
 rw[henter];subst hn;have:=Ael (X:=X) (B:=⟨g,gn,S.boxes.length,0⟩) (fun cs b E w st=>E.df=[]→b.fn=g→b.kind=.deferred→b.roundOf=none→∀(c0:Frame) (cs0:List Frame),cs=c0::cs0→c0.mode=u →
  ∃e w' fr,((∃v,e=.returned v)∧∃E',Inv X E' S2 w'∧Evol E w E' w' S.boxes.length 0)∧Comes X.P st (lone fr ({ c0 with mode:=u' }::cs0) w') e∧fr.kind=.deferred∧fr.going X.P w' e) he
  (fun cs b E w E' w' st st' hst ev hC hE hb hk hr c0 cs0 hc hu=>by
    obtain⟨e,w2,fr,⟨d1,E2,d2,d3⟩,k2,k3⟩:=hC (ev.df.trans hE) hb hk hr c0 cs0 hc hu;exact⟨e,w2,fr,⟨d1,E2,d2,ev.trans d3⟩,Comes.of_steps hst k2,k3⟩)
  (fun E w a b cs hI hF hn hb hE _ hkd hro c0 cs0 hcs hu=>by
    subst hcs;have hg:=stepG_op (P:=X.P) (b:=b) (k:=k) (cs:=c0::cs0) (w:=w) (rest:=l) ho (Cm hF hw);have hrun:(execOp a.eval o).run X.P w=.ok .recover w:=by
     simp[execOp,hop,resolve,hcal,hca,invoke];rfl
    have hfin:∀v,(b.at a (.inRegion ops (i::l)::k)).finish v=b.at (a.put (some d) v) (.inRegion ops l::k):=fun v=>by
     rw[Frame.finish_at,ho];simp only[Option.bind_some,hod]
    have htr:=tryRecover_deferred (fr:=b.at a (.inRegion ops (i::l)::k)) hkd (c0::cs0);have hstep:Go.step X.P (lone (b.at a (.inRegion ops (i::l)::k)) (c0::cs0) w)=.next (lone (b.at (a.put (some d) v0) (.inRegion ops l::k)) ({ c0 with mode:=u' }::cs0) w):=by
     refine step_lone_go ?_;have hrec:=hrec c0 cs0 hu;rw[hg,←hfin];simp only[Frame.at]at htr⊢;cases hR:recoverD (c0::cs0)with
     |none=>
      rw[hR]at hrec;obtain⟨h1,h2⟩:=Prod.mk.inj hrec;subst h1;rw[←h2];simp[stepG.apply,hrun,htr,hR,hro]
     |some q=>
      obtain⟨q1,q2⟩:=q;rw[hR]at hrec;obtain⟨h1,h2⟩:=Prod.mk.inj hrec;subst h1;subst h2;simp[stepG.apply,hrun,htr,hR,hro]
    have hF2:FR E w ((d,.val v0)::F') (a.put (some d) v0) gn.ntmps:=hF.put hd (.val v0);rcases hk E w _ b ({ c0 with mode:=u' }::cs0) hI hF2 hn (Cc _) hb with⟨e,w',fr,⟨E2,S3,d1,d2,d3⟩,k2,k3,k4⟩|⟨C,h1,_⟩
    ·cases e with
     |returned v=>
      obtain⟨q,q1,q2,rfl⟩:=d3;rw[hE,hkd]at k4;obtain⟨m1,m2,m3,m4⟩:=k4;exact⟨_,w',fr,⟨⟨v,rfl⟩,E2,d1,d2⟩,Comes.of_steps (.one hstep) k2,m3,m1,m2,m4⟩
     |panicked ch=>obtain⟨h,_⟩:=d3;cases h
     |outgrown=>exact d3.elim
    ·cases h1.1)
  hI hF (Bo _) (by rw[htk];exact Bo _) (b:=b) rfl (c0::cs)
 obtain⟨e,w',fr,d,k2,k3⟩:=this hdf rfl rfl rfl c0 cs rfl hu;exact⟨e,u',w',fr,⟨rfl,d⟩,k2,k3⟩
theorem Aee{f g:FuncId}{fn:Func}{us:Array Value}{u u':FrameMode}{fr:Frame}{cs:List Frame}{xs:List AV}{r:AV}{S2:St}(hI:Inv X E S w)(hF:FR E w F a fn.ntmps)(htk:S.toks=[])(hu:u≠.run)(hm:fr.mode=u)
 (hd:fr.defers=[⟨.fn (.func g) us,#[]⟩])(htm:fr.tmps=a.tmps)(hkd:fr.kind=.normal)(hfr:fr.fn=f)(hf:X.P.funcs[f]?=some fn)(hE:Nq X.P g)(hset:settle u'=.returning)
 (hc:CallsD X.P g us u w fun e u2 w'=>u2=u'∧(∃v,e=.returned v)∧∃E',Inv X E' S2 w'∧Evol (E.dfs []) w E' w' S.boxes.length 0)(hres:Md X F S2 fn.results.toList=some xs)(hr0:C5 xs=r)(hz:Ok 0 0 r) :
 ∃e w' fr',Aij X E w 0 0 (fun e S=>e=.ret r∧S=⟨[],[]⟩) e w'∧Comes X.P (lone fr cs w) (lone fr' cs w') e∧fr'.fn=f∧fr'.leaving X.P w' e:=by
 subst hr0;have hle:Leaves X.P fn fr.tmps (fun e w'=>Aij X E w 0 0 (fun e S=>e=.ret (C5 xs)∧S=⟨[],[]⟩) e w') [⟨.fn (.func g) us,#[]⟩] u w:=by
  obtain⟨gn,hgn,hname,hbody⟩:=hE;have hi:(invoke (.fn (.func g) us) #[]).run X.P w=.ok (.enter g us) w:=by
   have hne:¬(gn.name = "runtime.NumGoroutine"):=fun h=>by rw[h]at hname;simp at hname
   simp[invoke,callFunc,hgn,hne,hbody];intro hbn;rw[hbn]at hbody;cases hbody
  refine leaves_cons hu hi (hc.mono fun e u2 w' h=>?_);obtain⟨rfl,⟨v,rfl⟩,E2,h2,h3⟩:=h;have nt:E.toks.length=0:=by have:=hI.nt;rw[htk]at this;simpa using congrArg List.length this
  have ev:Evol (E.dfs []) w E2 w' E.boxes.length E.toks.length:=by rw[nt,hI.nb];exact h3
  have hF2:FR E2 w' F { a with defers:=E2.df } fn.ntmps:=⟨hF.size,rfl,fun k x hk=>let ⟨v,q1,q2⟩:=hF.rel k x hk;⟨v,q1,(q2.dfE []).step ev⟩⟩
  obtain⟨v',q1,q2⟩:=M4 h2 hF2 hres;show Leaves X.P fn fr.tmps _ [] (settle u2) w';rw[hset];refine⟨v',by rw[htm];exact q1,(E2.drop 0 0).dfs E.df,⟨[],[]⟩,?_,?_,C5 xs,?_,rfl,rfl⟩
  ·have:=(h2.drop (n:=0) (m:=0) (fun rows hr=>by simp at hr)).dfE E.df;simpa[St.drop]using this
  ·exact((h3.weaken (Cc _) (Cc _)).trans (Evol.drop E2 w' 0 0)).dfE
  ·exact(q2.drop hz).dfE _
 obtain⟨e,w',fr',h1,h2,h3,h4⟩:=leaves_steps [⟨.fn (.func g) us,#[]⟩] u w fr cs hm hd rfl (by rw[hfr];exact hf) hkd hle;exact⟨e,w',fr',h1,h2,h3.trans hfr,h4⟩
def DefC(X:Cx)(f g:FuncId)(us:Array Value)(caps:List AV)(R:AE→St→Prop):List Frame→Frame→Env→World→Machine→Prop:=fun cs b E w st=>
 E.df=[⟨.fn (.func g) us,#[]⟩]→(∀(j:Nat) (v:Value) (x:AV),us[j]?=some v→caps[j]?=some x→Rel E w v x)→b.fn=f→b.kind=.normal →
  ∃e w' fr,Aij X E w 0 0 R e w'∧Comes X.P st (lone fr cs w') e∧fr.fn=f∧fr.leaving X.P w' e
theorem DefC.closed{f g:FuncId}{us:Array Value}{caps:List AV}{n m:Nat}(hcap:∀x,x∈caps→Ok n m x)(cs:List Frame)(b:Frame)(E:Env)(w:World)(E':Env)(w':World)(st st':Machine)(hs:Steps X.P st st')(ev:Evol E w E' w' n m)
 (h:DefC X f g us caps R cs b E' w' st'):DefC X f g us caps R cs b E w st:=fun hd hu hb hk=>by
 obtain⟨e,w2,fr,⟨E2,S2,d1,d2,d3⟩,k2,k3⟩:=h (ev.df.trans hd) (fun j v x hv hx=>(hu j v x hv hx).mono ev (hcap x (Bh hx))) hb hk;exact⟨e,w2,fr,⟨E2,S2,d1,(ev.weaken (Cc _) (Cc _)).trans d2,d3⟩,Comes.of_steps hs k2,k3⟩
theorem ACalls.defer{f g:FuncId}{fn:Func}{c:Code}{args caps:List AV}{o:Oper}{cl:Call}{ops:Array Oper}{i n:Nat}{l:List Nat}{k:List Item}{t:Nat}(hf:X.P.funcs[f]?=some fn)
 (h:∀us:Array Value,us.size=caps.length→AK X ⟨f,fn,n,0⟩ (.inRegion ops l::k) F' S' fun e _=>e=.hook (DefC X f g us caps R))(hb:fn.body=some c:=by rfl)(hl:Nat.ble args.length fn.ntmps=true:=by rfl)
 (he:Go.V.ev X fn.ntmps 200 [.code c] (Oq 0 args) ⟨[],[]⟩=(.inRegion ops (i::l)::k,F',S'):=by rfl)(ho:ops[i]?=some o:=by rfl)(hw:A6 ops F' o=some true:=by rfl)(hop:o.op=.defer cl:=by rfl)
 (hcal:cl.callee=.value (.tmp t):=by rfl)(hca:cl.args=#[]:=by rfl)(hod:o.dst=none:=by rfl)(ht:lk F' t=some (.fn g caps):=by rfl)(hn:Aac S'.boxes=n:=by rfl) [hcap:OKL n 0 caps]:ACalls X f args ⟨[],[]⟩ R:=by
 refine ACalls.defers hf hb (I7 hl) he ho hw hop hcal hca hod ht fun E w a b cs us hI hF hdf hul hur hbf hbk=>?_;rw[←Jz]at *;rcases h us hul E w a b cs hI hF (by rw[←hn,←Jz];exact Bo _) (Cc _) hbf with⟨e,w',fr,⟨E2,S2,_,_,h3⟩,_⟩|⟨C',h1,_,h3⟩
 ·cases e with
  |returned v=>obtain⟨_,_,h⟩:=h3;cases h
  |panicked ch=>cases h3
  |outgrown=>exact h3.elim
 ·cases h1;exact h3 hdf hur hbf hbk
def DefOk(X:Cx)(g:FuncId)(caps:List AV)(S:St)(u u':FrameMode)(S2:St):Prop:=
 Nq X.P g∧∀(E:Env) (w:World) (us:Array Value),E.df=[]→Inv X E S w→us.size=caps.length→(∀(j:Nat) (v:Value) (x:AV),us[j]?=some v→caps[j]?=some x→Rel E w v x) →
  CallsD X.P g us u w fun e u2 w'=>u2=u'∧(∃v,e=.returned v)∧∃E',Inv X E' S2 w'∧Evol E w E' w' S.boxes.length 0
theorem DefOk.run{g:FuncId}{gn:Func}{c:Code}{caps:List AV}{o:Oper}{cl:Call}{ops:Array Oper}{i d n:Nat}{l:List Nat}{k:List Item}{r:AV}{bx:List (List (List AV))}{S2:St}{u u':FrameMode}{v0:Value}(hf:X.P.funcs[g]?=some gn)
 (hrec:∀(c0:Frame)(cs:List Frame),c0.mode=u→(match recoverD (c0::cs)with|some q=>q|none=>(.nilIface,c0::cs))=(v0,{ c0 with mode:=u' }::cs))
 (hk:AK X ⟨g,gn,n,0⟩ (.inRegion ops l::k) ((d,.val v0)::F') S' fun e S'=>e=.ret r∧S'=S2)(hn:Aac bx=n:=by rfl)(hb:gn.body=some c:=by rfl)(hl:Nat.ble caps.length gn.ntmps=true:=by rfl)
 (hnm:(gn.name == "runtime.NumGoroutine")=false:=by kernel_rfl)(he:Go.V.ev X gn.ntmps 200 [.code c] (Oq 0 caps) ⟨bx,[]⟩=(.inRegion ops (i::l)::k,F',S'):=by rfl)(ho:ops[i]?=some o:=by rfl)(hw:A6 ops F' o=some true:=by rfl)(hop:o.op=.call cl:=by rfl)(hcal:cl.callee=.builtin .recover:=by rfl)
 (hca:cl.args=#[]:=by rfl)(hod:o.dst=some d:=by rfl)(hd:Nat.blt d gn.ntmps=true:=by rfl):DefOk X g caps ⟨bx,[]⟩ u u' S2:=by
 subst hn;rw[Jz]at hk;exact⟨⟨gn,hf,hnm,by rw[hb];rfl⟩,fun E w us hdf hI hs hr=>Apj hf hb (I7 hl) he ho hw hop hcal hca hod (by simpa[Fs]using hd) rfl rfl hrec hk hdf hI hs hr⟩
theorem Am2{f g:FuncId}{fn:Func}{n:Nat}{us:Array Value}{caps:List AV}{bx:List (List (List AV))}{u u':FrameMode}{xs:List AV}{r:AV}{S2:St}(hus:us.size=caps.length)(hf:X.P.funcs[f]?=some fn)(hcap:∀x,x∈caps→Ok n 0 x)(hu:u≠.run)
 (hset:settle u'=.returning)(hD:DefOk X g caps ⟨bx,[]⟩ u u' S2)(hres:Md X F S2 fn.results.toList=some xs)(hr0:C5 xs=r)(hz:Ok 0 0 r)
 (h:∀(E:Env)(w:World)(a:Act)(b:Frame)(cs:List Frame),Inv X E S w→FR E w F a fn.ntmps→b.fn=f→∃E' w' fr,Inv X E' ⟨bx,[]⟩ w'∧Evol E w E' w' E.boxes.length E.toks.length∧fr.fn=b.fn∧fr.mode=u∧fr.defers=a.defers∧fr.tmps=a.tmps∧fr.kind=b.kind ∧
   Steps X.P (lone (b.at a K) cs w) (lone fr cs w')):AK X ⟨f,fn,n,0⟩ K F S fun e _=>e=.hook (DefC X f g us caps fun e S=>e=.ret r∧S=⟨[],[]⟩):=by
 intro E w a b cs hI hF hn hm hb;refine .inr ⟨_,rfl,fun E w E' w' st st' hs ev h=>DefC.closed hcap cs b E w E' w' st st' hs ev h,fun hdf hur hbf hbk=>?_⟩;obtain⟨E',w',fr,h1,h2,h3,h4,h5,h6,h7,h8⟩:=h E w a b cs hI hF hb;have hF':FR E' w' F a fn.ntmps:=hF.step h2;obtain⟨hE,hc⟩:=hD;have hcall:=hc (E'.dfs []) w' us rfl (h1.dfE []) hus (fun j v x hv hx=>((hur j v x hv hx).step h2).dfE []);obtain⟨e,w2,fr2,⟨E3,S3,d1,d2,d3⟩,k2,k3,k4⟩:=Aee (cs:=cs) h1 hF' rfl hu h4 (by rw[h5];exact hF.nod.trans hdf) h6 (h7.trans hbk) (h3.trans hbf) hf hE hset hcall hres hr0 hz;exact⟨e,w2,fr2,⟨E3,S3,d1,(h2.weaken (Cc _) (Cc _)).trans d2,d3⟩,Comes.of_steps h8 k2,k3,k4⟩
theorem Avo{f g:FuncId}{fn:Func}{n:Nat}{us:Array Value}{caps:List AV}{bx:List (List (List AV))}{k:List Item}{xs:List AV}{r:AV}{S2:St}(hus:us.size=caps.length)(hf:X.P.funcs[f]?=some fn)(hD:DefOk X g caps ⟨bx,[]⟩ .returning .returning S2)
 (hres:Md X F S2 fn.results.toList=some xs:=by rfl)(hr0:C5 xs=r:=by rfl) [hz:OK 0 0 r] [hcap:OKL n 0 caps](hS:S=⟨bx,[]⟩:=by rfl) :
 AK X ⟨f,fn,n,0⟩ (.code .ret::k) F S fun e _=>e=.hook (DefC X f g us caps fun e S=>e=.ret r∧S=⟨[],[]⟩):=
 Am2 hus hf hcap.ok (by simp) rfl hD hres hr0 hz.ok fun E w a b cs hI hF hb=>⟨E,w,{ b.at a (.code .ret::k)with mode:=.returning },by rw[←hS];exact hI,Evol.refl _ _ _ _,rfl,rfl,rfl,rfl,rfl,.one step_ret⟩
theorem Avp{f g:FuncId}{fn:Func}{n:Nat}{us:Array Value}{caps:List AV}{bx:List (List (List AV))}{k:List Item}{l:List Nat}{ops:Array Oper}{i:Nat}{o:Oper}{xs:List AV}{r:AV}{S2:St}{ch:List PanicEntry}{u':FrameMode}(hus:us.size=caps.length)
 (hf:X.P.funcs[f]?=some fn)(ht:Thr X fn.ntmps ops i o F S ch ⟨bx,[]⟩)(hset:settle u'=.returning)(hD:DefOk X g caps ⟨bx,[]⟩ (.panicking ch) u' S2)(hres:Md X F S2 fn.results.toList=some xs:=by rfl)(hr0:C5 xs=r:=by rfl) [hz:OK 0 0 r] [hcap:OKL n 0 caps] :
 AK X ⟨f,fn,n,0⟩ (.inRegion ops (i::l)::k) F S fun e _=>e=.hook (DefC X f g us caps fun e S=>e=.ret r∧S=⟨[],[]⟩):=
 Am2 hus hf hcap.ok (by simp) hset hD hres hr0 hz.ok fun E w a b cs hI hF hb=>ht F E w a (fun _ _=>rfl) hI hF b k cs l
theorem Aim{ops:Array Oper}{i:Nat}{o:Oper}{p:Operand}{xt t:TypeId}{v:Value}{x:AV}{td:TypeDesc}(htd:X.P.underlying t=some td)(hni:∀ms,td≠.interface ms)(hv:∀(E:Env)(w:World),Rel E w v x)(ho:ops[i]?=some o:=by rfl)
 (hw:A6 ops F o=some true:=by rfl)(hop:o.op=.typeAssert p xt t true:=by rfl)(hp:Dt X F p=some (.val (.iface t v)):=by rfl):Ndo X N ops i o F (.tup [x,.val (.bool true)]) S S:=by
 refine Df ho hw fun F' E w a hc hI hF=>?_;rw[hop]at hc;have r1:=Ak hI hF ((hc p (by simp[Op.operands])).trans hp);generalize hx:a.eval p=y at r1;cases r1;refine⟨.tuple #[v,.bool true],?_,.tup _ _ rfl fun j u z hu hz=>?_⟩
 ·cases td with
  |interface ms=>exact absurd rfl (hni ms)
  |_=>simp[execOp,hop,hx,Instr.typeAssert,run_underlying htd]
 ·cases j with
  |zero=>simp at hu hz;subst hu;subst hz;exact hv E w
  |succ j=>cases j with
   |zero=>simp at hu hz;subst hu;subst hz;exact .val _
   |succ j=>simp at hz
theorem Apd{ops:Array Oper}{i:Nat}{o:Oper}{p:Operand}{t t':TypeId}(hu:X.P.underlying t=some (.interface (X.P.methodsAt t)))(ho:ops[i]?=some o:=by rfl)(hw:A6 ops F o=some true:=by rfl)(hop:o.op=.binOp .neq t p (.const .nilIface) t':=by rfl)
 (hp:Dt X F p=some (.val .nilIface):=by rfl):Ndo X N ops i o F (.val (.bool false)) S S:=by
 refine Df ho hw fun F' E w a hc hI hF=>?_;rw[hop]at hc;have r1:=Ak hI hF ((hc p (by simp[Op.operands])).trans hp);generalize hx:a.eval p=x at r1;cases r1;exact⟨.bool false,by simp[execOp,hop,hx,show a.eval (.const .nilIface)=.nilIface from rfl,eqGuard,run_neq_nil_nil w t hu],.val _⟩
theorem Ak0{ops:Array Oper}{i:Nat}{o:Oper}{p:Operand}{t t' u:TypeId}{v:Value}(hu:X.P.underlying t=some (.interface (X.P.methodsAt t)))(ho:ops[i]?=some o:=by rfl)(hw:A6 ops F o=some true:=by rfl)(hop:o.op=.binOp .neq t p (.const .nilIface) t':=by rfl)
 (hp:Dt X F p=some (.val (.iface u v)):=by rfl):Ndo X N ops i o F (.val (.bool true)) S S:=by
 refine Df ho hw fun F' E w a hc hI hF=>?_;rw[hop]at hc;have r1:=Ak hI hF ((hc p (by simp[Op.operands])).trans hp);generalize hx:a.eval p=x at r1;cases r1;exact⟨.bool true,by simp[execOp,hop,hx,show a.eval (.const .nilIface)=.nilIface from rfl,eqGuard,run_neq_held_nil w t u v hu],.val _⟩
end
end Go.V
namespace Go.V
open Go Go.Proofs Go.Proofs.Tryz
theorem Ax3(n:Nd)(hn:Ai n≤4000000000):Pure X 293 [nd n] (vi (Dc n)):=by
 induction n using Nd.ind with
 |h n ih=>
 refine Pure.run func293 ?_;have hc:=Ck n;have hll:=Bn n.kids;have hd:=T4 n;rw[Jy]at hd⊢;refine Av (ι:=Nat) 1 0 (fun i=>i≤n.kids.length) (fun i=>[(9,vi i),(8,vi n.kids.length),(7,.sl (Ap n.kids) .no),(3,vi (Gv (n.kids.take i):Nat))]) (fun _=>⟨[[Af n]],[]⟩) (fun i=>n.kids.length-i) ?_ 0 (Cc _)
  ⟨rfl,by rw[←Ad];rfl,rfl,rfl,trivial⟩
 intro i hi IH;refine Dh (fun h=>?_) (fun h=>?_)
 ·have hlt:i<n.kids.length:=by have:=A7 h;omega
  obtain⟨kid,hkid⟩:=Ab n.kids hlt;have hsn:=Aa1 hkid;have hcs:=Pi hkid;have hle:=Qh (l:=n.kids) (i:=i+1);refine B7 i (by omega) (Am hkid) ?_;refine Al (ih kid (Bh hkid) (by omega)) ?_;refine IH (i+1) hlt (by omega) _ _ ⟨vsx (by omega),rfl,rfl,Ct ?_,trivial⟩ rfl rfl rfl;split<;>omega
 ·have:i=n.kids.length:=by have:=Bd h;omega
  subst this;refine Az func293 ?_;rw[I8];exact congrArg (fun x=>AV.val (.int .i64 x)) ((Ac (by omega) (by omega)).trans (by omega))
theorem Ax2(n:Nd)(hn:Ai n≤4000000000):Pure X 292 [nd n] (vi (Ai n)):=t1 n hn
def Oy(n:Nd):Bool:=decide (500<Ai n∨24<Dc n)
theorem Afm(n:Nd)(hn:Ai n≤4000000000):Pure X 264 [nd n] (vb (Oy n)):=by
 refine Pure.run func264 ?_;refine Al (Ax2 n hn) ?_;refine Db (fun h=>?_) (fun h=>?_)
 ·have h':500<Ai n:=by have:=A7 h;omega
  refine Au func264 ?_;simp[Oy,h']
 ·have h':¬500<Ai n:=by have:=Bd h;omega
  refine Al (Ax3 n hn) ?_;refine Au func264 ?_;simp[Oy,h'];omega
theorem Ao3:X.P.underlying 20=some (.interface (X.P.methodsAt 20)):=by kernel_rfl
theorem Asm(x:AV)(u:RS)(e:Nat)(n:Nd)(i:Int):DefOk X 321 [.ptr 0 0 0,.ptr 1 0 0] ⟨[[Af n],[[vi i]],[pc u e]],[]⟩ .returning .returning ⟨[[Af n],[[vi i]],[pc u e]],[]⟩:=by
 refine DefOk.run func321 (r:=.tup []) (v0:=.nilIface) (fun c0 cs h=>by simp[recoverD,h];obtain⟨_,_,_,_,_,_,_⟩:=c0;simp at h;subst h;rfl) ?_;refine Bj 100 rfl ?_;refine Bm (Apd Ao3) ?_;refine Ah ?_;exact D6 func321 rfl rfl
theorem Awi(u:RS)(e p:Nat):DefOk X 321 [.ptr 0 0 0,.ptr 1 0 0] ⟨[[zN],[[vi 0]],[pc u e]],[]⟩ (.panicking (pan p)) (.panicking [{ v:=.iface 345 (.agg ⟨[.int .i64 p]⟩),recovered:=true }]) ⟨[[zN],[[vi p]],[pc u e]],[]⟩:=by
 obtain⟨d,hd,hk⟩:=(X.ty_ok 345 _ rfl).agg;obtain⟨fields,rfl,_⟩:=hk;refine DefOk.run func321 (r:=.tup []) (v0:=.iface 345 (.agg ⟨[.int .i64 p]⟩)) (fun c0 cs h=>by simp[recoverD,h,pan]) ?_;refine Bj 100 rfl ?_;refine Bm (Ak0 Ao3) ?_;refine A1 ?_;refine Bm (Aim (x:=.agg [vi p]) hd (by simp) (fun E w=>.agg _ _ rfl fun j v x hv hx=>?_)) ?_
 ·cases j with
  |zero=>simp at hv hx;subst hv;subst hx;exact .val _
  |succ j=>simp at hx
 refine Ah ?_;refine D8 24 ?_;refine Dx (A8 rfl rfl rfl rfl rfl rfl rfl) ?_ ?_
 ·exact An (Cn rfl rfl rfl) G0
 refine Ch (A8 rfl rfl rfl rfl rfl rfl rfl) ?_;refine B6 ?_;exact D6 func321 rfl rfl
theorem Pure.less{X:Cx}{f:FuncId}{args:List AV}{r y:AV}(h:Pure X f args r) [hw:RinC [] [] r y]:Pure X f args y:=by
 refine⟨h.1,fun E w vs hd hI hs hr=>(h.2 E w vs hd hI hs hr).mono fun e w' he=>?_⟩;obtain⟨E1,S1,d1,d2,d3⟩:=he;cases e with
 |returned v=>
  obtain⟨r',hr',hre,rfl⟩:=d3;cases hre;exact⟨E1,_,d1,d2,y,hw.s.less hr',rfl,rfl⟩
 |panicked ch=>obtain⟨h,_⟩:=d3;cases h
 |outgrown=>exact d3.elim
def Aoo(r:RS)(e:Nat):Nd×Int:=if (El r).2.bad then(Cg,(El r).2.place e)else((El r).1,-1)
theorem Aqk{r:RS}(h:(El r).2.bad=false):(El r).2.ws.length≤(El r).2.at_:=by
 simp only[El,RS.ends]at h⊢;split at h
 ·simp[RS.spoil]at h
 ·rename_i hn;rw[if_neg hn];omega
theorem A1q(ws:List Wd)(e:Nat)(ho:(RS.mk ws 0 false).ok)(hw:(RS.mk ws 0 false).wk) :
 Pure X 301 [.sl (Hj ws) .no,vi e,.fn 302 []] (.tup [nd (Aoo ⟨ws,0,false⟩ e).1,vi (Aoo ⟨ws,0,false⟩ e).2]):=by
 have hp:=A0z ⟨ws,0,false⟩ e ho hw rfl;have he:=Aqk (r:=⟨ws,0,false⟩);unfold Aoo;generalize El ⟨ws,0,false⟩=T at hp he⊢;obtain⟨n,q⟩:=T;simp only at hp he⊢;by_cases g:q.bad=false
 ·rw[if_neg (by simp[g])];have he:=he g;refine⟨⟨_,func301,by kernel_rfl,rfl⟩,ACalls.defer (g:=321) (caps:=[.ptr 0 0 0,.ptr 1 0 0]) (n:=2) func301 fun us hus=>?_⟩;refine Bj 100 rfl ?_;refine Ie 8 (.ptr 2 0 0) ?_;refine Ie 15 (.ptr 2 0 0) ?_;refine Ae [2] [] (hp.ok g) ?_;refine Ah ?_ (ht:=by rw[Dz,Ad4];simp;omega);exact Avo hus func301 (Asm .junk q e n (-1))
 ·have g:=B8 g;rw[if_pos (by simp[g])];have:Pure X 301 [.sl (Hj ws) .no,vi e,.fn 302 []] (.tup [.agg zN,vi (q.place e)]):=by
   refine⟨⟨_,func301,by kernel_rfl,rfl⟩,ACalls.defer (g:=321) (caps:=[.ptr 0 0 0,.ptr 1 0 0]) (n:=2) func301 fun us hus=>?_⟩;refine Bj 100 rfl ?_;refine Ie 15 (.ptr 2 0 0) ?_;exact Avp hus func301 (Thr.hd [2] [] (hp.bad g)) rfl (Awi q e (q.place e))
  exact Pure.less this
theorem Af9:∀(f a:Nat)(r:List UInt8)(out:List Wd),(Hg f a r out).2.1=0→(Hg f a r out).2.2=0
 |0,a,r,out,h=>rfl
 |f+1,a,[],out,h=>rfl
 |f+1,a,c::l,out,h=>by
  simp only[Hg]at h⊢;split at h
  ·simp at h
  ·rename_i h1;rw[if_neg h1];split at h
   ·simp at h
   ·rename_i h2;rw[if_neg h2];exact Af9 f _ _ _ h
theorem Ara{s:List UInt8}(h:(C4 s).2.1=0):(C4 s).2.2=0:=by
 unfold C4 at h⊢;split at h
 ·simp at h
 ·rename_i h1;rw[if_neg h1];exact Af9 _ _ _ _ h
theorem Ax8(s:List UInt8)(hs:s.length≤900000000):Pure X 268 [str s] (.tup [nd (E8 s).1,.agg [vi (E8 s).2.1,vi (E8 s).2.2]]):=by
 have hw:Pure X 300 [str s] (.tup [.sl (Hj (C4 s).1) .no,.agg [vi (C4 s).2.1,vi (C4 s).2.2]]):=Ayb s hs;have hat:=Ara (s:=s);have ho:=Ah7 s;have hk:=Ah8 s;have hgood:=Xj ho hk;have hP:E8 s=if (C4 s).2.1=0 then
  (if (El ⟨(C4 s).1,0,false⟩).2.bad then(Cg,4,((El ⟨(C4 s).1,0,false⟩).2.place s.length:Int))
  else if 500<Ai (El ⟨(C4 s).1,0,false⟩).1∨24<Dc (El ⟨(C4 s).1,0,false⟩).1 then(Cg,5,0)else((El ⟨(C4 s).1,0,false⟩).1,0,0))
  else(Cg,(C4 s).2.1,((C4 s).2.2:Int)):=rfl
 rw[hP];simp only[rs0]at ho hk hgood;generalize C4 s=T at hw hat ho hk hgood⊢;obtain⟨ws,c,at_⟩:=T;simp only at hw hat ho hk hgood⊢;have hfl:R5 X.P 268=some [0,0]:=by kernel_rfl
 refine Pure.run func268 ?_;refine Al hw ?_;refine Bm (Vb (r:=!((c==0)&&(((at_:Int)==0)&&true))) rfl rfl rfl rfl rfl hfl rfl (.inr ⟨rfl,rfl⟩)) ?_;refine Ag (fun h=>?_) (fun h=>?_)
 ·have h':c≠0:=by
   intro h0;have:=hat h0;simp[h0,this]at h
  rw[if_neg h'];refine D8 12 ?_;refine Dx (A8 rfl rfl rfl rfl rfl rfl rfl) ?_ ?_
  ·exact An (Cn rfl rfl rfl) G0
  refine Ch (A8 rfl rfl rfl rfl rfl rfl rfl) ?_;refine B6 ?_;refine Au func268 ?_;rfl
 have h':c=0:=by simp at h;exact h.1
 rw[if_pos h'];have hR:=A1q ws s.length ho hk;unfold Aoo at hR;generalize El ⟨ws,0,false⟩=q at hR hgood⊢;obtain⟨n,u⟩:=q;simp only at hR hgood⊢;by_cases g:u.bad=true
 ·rw[if_pos g]at hR;rw[if_pos g];refine Al hR ?_;refine A1 ?_ (ht:=by simp);refine Au func268 ?_;rfl
 ·rw[if_neg g]at hR;rw[if_neg g];have g':u.bad=false:=by simpa using g
  obtain⟨g1,g2,g3⟩:=hgood g';have hl0:=ho.1;simp only at hl0 g2;have hc:Ai n≤4000000000:=by omega
  refine Al hR ?_;refine Ah ?_;refine Al (Afm n hc) ?_;refine Ag (fun h2=>?_) (fun h2=>?_)
  ·have h2':500<Ai n∨24<Dc n:=by simpa[Oy]using h2
   rw[if_pos h2'];refine Au func268 ?_;rfl
  ·have h2':¬(500<Ai n∨24<Dc n):=by simpa[Oy]using h2
   rw[if_neg h2'];refine Au func268 ?_;rfl
end Go.V
namespace Go.V
open Go
section
variable {X:Cx}{B:Bx}{E:Env}{S:St}{w:World}{F:C3}{a:Act}{N:Nat}{ops:Array Oper}{i:Nat}{o:Oper}
def Q8(s:List UInt8):List Value:=s.map fun b=>.int .u8 b.toNat
theorem V2(s:List UInt8):(Q8 s).length=s.length:=by simp[Q8]
theorem Ao2{s:List UInt8}{j:Nat}{x:UInt8}(h:s[j]?=some x):(Q8 s)[j]?=some (.int .u8 x.toNat):=by simp[Q8,h]
theorem A2c{s:List UInt8}{j:Nat}{v:Value}(h:(Q8 s)[j]?=some v):∃x,s[j]?=some x∧v=.int .u8 x.toNat:=by
 simp only[Q8,Gm]at h;cases hs:s[j]? with
 |none=>simp[hs]at h
 |some x=>simp[hs]at h;exact⟨x,rfl,h.symm⟩
theorem Ayx{tx:TypeId}(hk:X.P.underlying tx=some .string)(s:List UInt8):Src X.P 1 tx (.string ⟨⟨s⟩⟩) s.length (Q8 s) w:=by
 have:=Src.ofString (P:=X.P) w hk ⟨⟨s⟩⟩;exact this
theorem Aut{l:List Nat}{t x:Nat}(h:l[t]?=some x):l.set t x=l:=by
 apply Abo;intro j;rw[U4];split
 ·rename_i hj;subst hj;split
  ·exact h.symm
  ·rename_i hl;exact absurd (Aa h) hl
 ·rfl
theorem Ak4(hI:Inv X E S w){t:Nat}{tt tx ty te:TypeId}{ye:Ty}(hu:X.P.underlying tt=some (.slice te))(hye:X.ty te=some ye)(h1:ye.size=1)
 {s s':List UInt8}{u x:Value}(hsrc:Src X.P 1 tx x s'.length (Q8 s') w)(hp:Rel E w u (.buf te s t))(hS:S.toks[t]?=some s.length)(hb:s.length+s'.length≤100000000000) :
 ∃r E' w',(Builtin.append_ #[tt,tx] ty #[u,x]).run X.P w=.ok r w'∧Inv X E' ⟨S.boxes,S.toks.set t (s.length+s'.length)⟩ w'∧Evol E w E' w' E.boxes.length E.toks.length ∧
  Rel E' w' r (.buf te (s++s') t):=by
 obtain⟨i,z,hi,hsz,hby,hzv,hzc,hzl,_⟩:=(X.ty_ok te ye hye).info;rw[h1]at hsz hzl;rw[←hsz]at hsrc;cases hp with
 |buf _ _ _ a cap k hk1 hk2 hx hs hc=>
 have hkl:k.len=s.length:=by
  have h1:=hI.nt;have h2:(E.toks.map Tk.len)[t]?=some k.len:=by simp[hk1]
  rw[h1,hS]at h2;exact(Option.some.inj h2).symm
 have hba:=hs hkl.symm;by_cases h0:s'=[]
 ·subst h0;refine⟨.slice a s.length cap,E,w,?_,?_,Evol.refl _ _ _ _,?_⟩
  ·have hn:s.length+0≤cap:=hc;have hl:(Builtin.lenOf x).run X.P w=.ok 0 w:=hsrc.len w;have hf:(Builtin.firstCells i.size 0 x).run X.P w=.ok #[] w:=hsrc.cells;rcases hsrc.kind with⟨e',hk⟩|hk
   all_goals cases a with
   |none=>simp[Builtin.append_,run_underlying hu,run_underlying hk,sizeOf,typeInfo,hi,hl,hf,hc]
   |some a=>simp[Builtin.append_,run_underlying hu,run_underlying hk,sizeOf,typeInfo,hi,hl,hf,hc,storeCells]
  ·rw[show s.length+([]:List UInt8).length=s.length from rfl,Aut hS];exact hI
  ·rw[G4];exact .buf te s t a cap k hk1 hk2 hx hs hc
 have hnew:0<s'.length:=zzq67.2 h0;have hlen:(s++s').length=s.length+s'.length:=by simp
 by_cases hg:cap<s.length+s'.length
 ·have hold:(Builtin.firstCells i.size s.length (.slice a s.length cap)).run X.P w.drew=.ok (Q8 s).toArray w.drew:=by
   rcases Nat.eq_zero_or_pos s.length with h0|h0
   ·have hs0:s=[]:=zzq96.1 h0;rw[h0,hs0];cases a with
    |none=>exact run_firstCells_none _ _ _ _ _
    |some a0=>exact run_firstCells_some _ _ _ _ _ _ _ (by simp[Q8]) (fun j v hj=>by simp[Q8]at hj)
   ·unfold BufAt at hba;split at hba
    ·rw[hba.1]at h0;simp at h0
    ·obtain⟨rfl,rfl,rfl,q4,q5,q6⟩:=hba;refine run_firstCells_some _ _ _ _ _ _ _ (by rw[V2,hsz,Nat.mul_one]) (fun q v hq=>?_);obtain⟨x,hx,rfl⟩:=A2c hq;rw[F9,Jt];exact q6 q x hx
  have hby':(s.length+s'.length)*i.bytes≤140737488355328:=Nt (Nat.mul_le_mul_left _ hby) (by omega);have hrun:=run_append_grow_src w tt tx ty te i z hu hi hzv a s.length cap _ hold x s'.length _ hsrc hg (by omega) (growslice_fits hg hby');have hcc:=grownCap_ge w (s.length+s'.length) cap te;generalize grownCap w (s.length+s'.length) cap te=cc at hrun hcc;have hcs:((Q8 s++Q8 s').toArray++Builtin.zeroCells z.cells (cc-(s.length+s'.length))).size=cc*1:=by
   have hzs:z.cells.size=1:=by rw[←hzl,←hzc];simp
   have:(Builtin.zeroCells z.cells (cc-(s.length+s'.length))).size=(cc-(s.length+s'.length))*1:=by
    simp[Builtin.zeroCells,hzs]
   rw[Array.size_append,this,Abj,Es,V2,V2];omega
  have hpush:∀o:Obj,(w.drew.alloc o).heap=w.heap.push o:=fun _=>rfl;obtain⟨ev,hI',hmt⟩:=Nj (w':=w.drew.alloc (.cells ((Q8 s++Q8 s').toArray++Builtin.zeroCells z.cells (cc-(s.length+s'.length))) te)) hI (t:=t) (n:=s.length) (m:=s.length+s'.length)
   (b:=w.heap.size) (c:=cc) (sz:=1) hk1 hkl (by omega) (fun _=>hcc) rfl rfl rfl (by rw[hpush];simp) (fun q hq _=>by rw[hpush,Wq hq];simp[hq]) (.inl rfl) (by rw[hpush];simp)
   (fun o v _ h=>by have:=Jf h;omega) ⟨_,te,by rw[hpush];simp,fun _=>hcs⟩ (Evol.push (E:=E) (w:=w) ⟨_,hpush _⟩ rfl rfl rfl 0 0).ty
  refine⟨_,_,_,hrun,hI',ev,?_⟩;have hkt:=Aa hk1;have hheap:(w.drew.alloc (.cells ((Q8 s++Q8 s').toArray++Builtin.zeroCells z.cells (cc-(s.length+s'.length))) te)).heap[w.heap.size]? =
   some (.cells ((Q8 s++Q8 s').toArray++Builtin.zeroCells z.cells (cc-(s.length+s'.length))) te (0,0)):=by rw[hpush];simp
  refine(fun hsl:∀n,n=(s++s').length→Rel (E.setTok t ⟨s.length+s'.length,some (w.heap.size,cc,1)⟩) (w.drew.alloc (.cells ((Q8 s++Q8 s').toArray++Builtin.zeroCells z.cells (cc-(s.length+s'.length))) te)) (.slice (some ⟨w.heap.size,0,none⟩) n cc) (.buf te (s++s') t)=>hsl _ hlen.symm) ?_;rintro n rfl;refine .buf te (s++s') t _ cc ⟨s.length+s'.length,some (w.heap.size,cc,1)⟩ (by simp[Env.setTok,hkt]) (by rw[hlen];exact Bo _) (by unfold O0;omega) (fun _=>?_) (by omega);refine⟨rfl,rfl,rfl,by simp only[Fu,hheap],fun j hj=>hmt j (by omega),fun j x hx=>?_⟩;have hj:=Aa hx;simp only[World.cell?,hheap];rw[Zd (by simp[V2];omega),Rc];rw[show Q8 s++Q8 s'=Q8 (s++s') by simp[Q8]];exact Ao2 hx
 ·obtain⟨kl,ksp⟩:=k;cases ksp with
  |none=>simp only[BufAt]at hba;omega
  |some q=>
   obtain⟨b',c',s1⟩:=q;simp only[BufAt]at hba;simp only at hkl;obtain⟨rfl,rfl,rfl,q4,q5,q6⟩:=hba;subst hkl;obtain⟨h1,h00,cur,te',hh,hcs⟩:=hI.tok t _ b' cap 1 hk1;have h1:=h1 (by decide);have hcs:=hcs (by decide);have hte:te'=te:=by simpa[Fu,hh]using q4
   subst hte;have hfit:s.length*i.size+(Q8 s').length≤cur.size:=by rw[V2,hcs,hsz];omega
   have hrun:=Pz tt tx ty te' i hu hi b' s.length cap x s'.length _ hsrc (by omega) hh hfit;rw[hsz,Nat.mul_one]at hrun hfit;have hl':=V2 s';have hat:=setRow_heap w b' cur (cur.toList.take s.length++Q8 s'++cur.toList.drop (s.length+(Q8 s').length)).toArray te' _ hh;have hoth:∀q,q≠b'→(w.setRow b' (cur.toList.take s.length++Q8 s'++cur.toList.drop (s.length+(Q8 s').length)).toArray).heap[q]?=w.heap[q]?:=
    fun q hq=>setRow_other w b' q _ (by omega)
   have hspl:=fun q=>K4 cur.toList (Q8 s') s.length q (by simpa using hfit);have hsp1:∀q,q<s.length→(cur.toList.take s.length++Q8 s'++cur.toList.drop (s.length+(Q8 s').length))[q]?=cur.toList[q]?:=fun q h=>by
    rw[hspl,if_neg (by omega)]
   have hsp2:∀q,s.length≤q→q<s.length+(Q8 s').length→(cur.toList.take s.length++Q8 s'++cur.toList.drop (s.length+(Q8 s').length))[q]?=(Q8 s')[q-s.length]?:=fun q h1 h2=>by
    rw[hspl,if_pos ⟨h1,h2⟩]
   have hbw:b'<w.heap.size:=hI.own_lt (.inr ⟨t,_,cap,1,hk1⟩);obtain⟨ev,hI',hmt⟩:=Nj (w':=w.setRow b' (cur.toList.take s.length++Q8 s'++cur.toList.drop (s.length+(Q8 s').length)).toArray) hI (t:=t) (n:=s.length) (m:=s.length+s'.length)
    (b:=b') (c:=cap) (sz:=1) hk1 rfl (by omega) (fun _=>by omega) rfl rfl rfl (by simp) (fun q _ hq=>hoth q hq) (.inr rfl) (by simpa using hbw)
    (fun o v ho h=>by
      simp only[World.cell?,hh]at h;simp only[World.cell?,hat,Rc];rw[hsp1 o (by omega)];simpa using h)
    ⟨_,_,hat,fun _=>by rw[Abj,K5 _ _ _ (by simpa using hfit)];simpa using hcs⟩
    (fun q e he=>Ps (fun h=>by subst h;exact⟨_,_,_,_,hh,hat⟩) (hoth q) he)
   refine⟨_,_,_,hrun,hI',ev,?_⟩;have hkt:=Aa hk1;refine(fun hsl:∀n,n=(s++s').length→Rel (E.setTok t ⟨s.length+s'.length,some (b',cap,1)⟩) (w.setRow b' (cur.toList.take s.length++Q8 s'++cur.toList.drop (s.length+(Q8 s').length)).toArray) (.slice (some ⟨b',0,none⟩) n cap) (.buf te' (s++s') t)=>hsl _ hlen.symm) ?_;rintro n rfl;refine .buf te' (s++s') t _ cap ⟨s.length+s'.length,some (b',cap,1)⟩ (by simp[Env.setTok,hkt]) (by rw[hlen];exact Bo _) (by unfold O0;omega) (fun _=>?_) (by omega);refine⟨rfl,rfl,rfl,ev.ty _ _ q4,fun j hj=>hmt j (by omega),fun j x hx=>?_⟩;have hj:=Aa hx;by_cases hjs:j<s.length
   ·rw[Cr hjs]at hx;exact ev.cell _ _ _ (q5 j hjs) (q6 j x hx)
   ·rw[Gj (by omega)]at hx;simp only[World.cell?,hat,Rc];rw[hsp2 j (by omega) (by omega)];exact Ao2 hx
theorem X2{c:Call}{p q:Operand}{t tt tx te:Nat}{y yx ye:Ty}{s s':List UInt8}{tk:List Nat}(ho:ops[i]?=some o)(hw:A6 ops F o=some true)(hop:o.op=.call c)(hcal:c.callee=.builtin .append)(hargs:c.args.toList=[p,q])
 (htys:c.argTypes.toList=[tt,tx])(hp:Dt X F p=some (.buf te s t))(hq:Dt X F q=some (str s'))(hy:X.ty tt=some y)(hyk:y.k=.slc te)(hye:X.ty te=some ye)(h1:ye.size=1)(hyx:X.ty tx=some yx)(hyxk:yx.k=.string)
 (hS:S.toks[t]?=some s.length)(hb:s.length+s'.length≤100000000000)(htk:S.toks.set t (s.length+s'.length)=tk):Ndo X N ops i o F (.buf te (s++s') t) S ⟨S.boxes,tk⟩:=by
 subst htk;intro F' E w a hlk hI hF;obtain⟨callee,args,argTypes⟩:=c;simp only at hcal hargs htys;subst hcal;have ha:args=#[p,q]:=by rw[←zzq34];exact hargs
 have ht:argTypes=#[tt,tx]:=by rw[←zzq34];exact htys
 subst ha;subst ht;have hlo:=Gs hlk;rw[hop]at hlo;have r1:=Ak hI hF ((Di (X:=X) (F:=F) (F':=F') (o:=p) fun s hs=>hlo s (by simp[Op.operands,Call.operands,hs])).trans hp);have r2:=Ak hI hF ((Di (X:=X) (F:=F) (F':=F') (o:=q) fun s hs=>hlo s (by simp[Op.operands,Call.operands,hs])).trans hq);obtain⟨d1,hd1,hk1⟩:=(X.ty_ok tt y hy).agg;simp only[hyk]at hk1;obtain⟨rfl,ye',hye',hne0⟩:=hk1;obtain⟨d2,hd2,hk2⟩:=(X.ty_ok tx yx hyx).agg;simp only[hyxk]at hk2;subst hk2;generalize hv:a.eval q=v at r2;cases r2;obtain⟨v,E',w',g1,g2,g3,g4⟩:=Ak4 hI (ty:=o.type) hd1 hye h1 (Ayx hd2 s') r1 hS hb;exact Does.val ho (Cm hF (by rw[Cw hlk];exact hw)) (by simp[execOp,hop,resolve,invoke,builtin,hv,g1]) (.inl rfl) ⟨E',g2,g3,g4⟩
theorem X3{c:Call}{p:Operand}{te t tt:Nat}{s:List UInt8}{y:Ty}{e:Nat}(ho:ops[i]?=some o:=by rfl)(hw:A6 ops F o=some true:=by rfl)(hop:o.op=.call c:=by rfl)(hcal:c.callee=.builtin .len:=by rfl)(hargs:c.args=#[p]:=by rfl)
 (htys:c.argTypes=#[tt]:=by rfl)(hp:Dt X F p=some (.buf te s t):=by rfl)(hy:X.ty tt=some y:=by rfl)(hyk:y.k=.slc e:=by rfl):Ndo X N ops i o F (.val (.int .i64 s.length)) S S:=by
 refine Df ho hw fun F' E w a hc hI hF=>?_;rw[hop]at hc;simp only[Op.operands,Call.operands,hcal,hargs,Wt,zzq47]at hc;have r1:=Ak hI hF ((hc p (.inr (by simp))).trans hp);obtain⟨d,hd,hk⟩:=(X.ty_ok tt y hy).agg;simp only[hyk]at hk;obtain⟨rfl,_⟩:=hk;generalize hv:a.eval p=v at r1;cases r1;exact⟨_,by simp[execOp,hop,resolve,hcal,hargs,htys,hv,invoke,builtin,Builtin.len_,run_underlying hd,goInt],.val _⟩
theorem BufAt.nil{te:Nat}{k:Tk}{p:Option Addr}{cap:Nat}(h:BufAt E w te [] k p cap)(hc:cap=0)(hI:Inv X E S w){t:Nat}(hk:E.toks[t]?=some k):p=none:=by
 unfold BufAt at h;split at h
 ·exact h.2.2
 ·rename_i b c sz hsp;obtain⟨kl,ksp⟩:=k;simp only at hsp;subst hsp;obtain⟨h1,h2,_⟩:=hI.tok _ _ _ _ _ hk;have:=h1 (by rw[h.2.2.1];decide);have:=h.1;omega
theorem Va{c:Call}{p:Operand}{te t:Nat}{s:List UInt8}(hS:S.toks[t]?=some s.length)(ho:ops[i]?=some o:=by rfl)(hw:A6 ops F o=some true:=by rfl)(hop:o.op=.call c:=by rfl)(hcal:c.callee=.builtin .unsafeSliceData:=by rfl)(hargs:c.args=#[p]:=by rfl)
 (hp:Dt X F p=some (.buf te s t):=by rfl):Ndo X N ops i o F (.dat te s t) S S:=by
 refine Df ho hw fun F' E w a hc hI hF=>?_;rw[hop]at hc;simp only[Op.operands,Call.operands,hcal,hargs,Wt,zzq47]at hc;have r1:=Ak hI hF ((hc p (.inr (by simp))).trans hp);generalize hv:a.eval p=v at r1;cases r1 with
 |buf _ _ _ ad cap k hk1 hk2 hx hs hcp=>
 have hkl:k.len=s.length:=by
  have h1:=hI.nt;have h2:(E.toks.map Tk.len)[t]?=some k.len:=by simp[hk1]
  rw[h1,hS]at h2;exact(Option.some.inj h2).symm
 have hba:=hs hkl.symm;refine⟨.pointer ad,?_,.dat te s t ad k hk1 hk2 fun _ _=>⟨cap,hba⟩⟩;have hrun:(Builtin.unsafeSliceData_ c.argTypes o.type #[.slice ad s.length cap]).run X.P w=.ok (.pointer ad) w:=by
  cases ad with
  |none=>rfl
  |some ad=>
   refine Lib.run_unsafeSliceData_row w _ _ ad s.length cap fun h0=>?_;have hs0:s=[]:=by rw[h0]at hcp;exact zzq96.1 (by omega)
   subst hs0;have:=hba.nil h0 hI hk1;cases this
 simp[execOp,hop,resolve,hcal,hargs,hv,invoke,builtin,hrun]
theorem Ae5(w:World)(ad:Addr)(n q:Nat):(w.freeze ad n).heap[q]?=w.heap[q]?∨∃cs e z z',w.heap[q]?=some (.cells cs e z)∧(w.freeze ad n).heap[q]?=some (.cells cs e z'):=by
 unfold World.freeze;by_cases hn:n=0
 ·simp[hn]
 ·simp only[hn,if_false];rw[Array.getElem?_modify];by_cases hq:ad.block=q
  ·rw[if_pos hq];cases hh:w.heap[q]? with
   |none=>exact .inl rfl
   |some ob=>cases ob with
    |cells cs e z=>exact .inr ⟨cs,e,z,_,rfl,rfl⟩
    |_=>exact .inl rfl
  ·rw[if_neg hq];exact .inl rfl
theorem Aej(w:World)(ad:Addr)(n:Nat){q:Nat}{e:TypeId}(h:Fu w q=some e):Fu (w.freeze ad n) q=some e:=by
 unfold Fu at *;rcases Ae5 w ad n q with h1|⟨cs,e',z,z',h1,h2⟩
 ·rw[h1];exact h
 ·rw[h1]at h;rw[h2];exact h
theorem Ag7(w:World)(ad:Addr)(n q:Nat)(h:q≠ad.block):(w.freeze ad n).heap[q]?=w.heap[q]?:=by
 unfold World.freeze;by_cases hn:n=0
 ·simp[hn]
 ·simp only[hn,if_false];rw[Array.getElem?_modify,if_neg (fun he=>h he.symm)]
theorem Ai1(w:World)(ad p:Addr)(n:Nat):(w.freeze ad n).cell? p=w.cell? p:=by
 unfold World.cell?;rcases Ae5 w ad n p.block with h1|⟨cs,e',z,z',h1,h2⟩
 ·rw[h1]
 ·rw[h1,h2]
theorem Ai2(w:World)(ad:Addr)(n:Nat):(w.freeze ad n).heap.size=w.heap.size:=by
 unfold World.freeze;by_cases hn:n=0
 ·simp[hn]
 ·simp[hn]
theorem A4i(hI:Inv X E S w){t l:Nat}{k:Tk}{w':World}(hk:E.toks[t]?=some k)(hkl:k.len=l)(hos:w'.os=w.os)(htp:w'.tape=w.tape)(hout:w'.output=w.output)(hsize:w'.heap.size=w.heap.size)
 (hoth:∀q,(∀c sz,k.sp≠some (q,c,sz))→w'.heap[q]?=w.heap[q]?)(hcell:∀p,w'.cell? p=w.cell? p)(hty:∀q e,Fu w q=some e→Fu w' q=some e) :
 Evol E w (E.setTok t ⟨l+1,none⟩) w' E.boxes.length E.toks.length∧Inv X (E.setTok t ⟨l+1,none⟩) ⟨S.boxes,S.toks.set t (l+1)⟩ w':=by
 subst hkl;have hkt:=Aa hk;have htok:∀{q l b c sz:Nat},(E.setTok t ⟨k.len+1,none⟩).toks[q]?=some (Tk.mk l (some (b,c,sz)))→E.toks[q]?=some (Tk.mk l (some (b,c,sz)))∧q≠t:=fun{q l b c sz} h=>by
  rcases Ep h with⟨_,h⟩|⟨hq,h⟩
  ·cases h
  ·exact⟨h,hq⟩
 have hown:∀q,(E.setTok t ⟨k.len+1,none⟩).own q→E.own q:=fun q h=>by
  rcases h with h|⟨i,l,c,s,h⟩
  ·exact .inl h
  ·exact .inr ⟨i,l,c,s,(htok h).1⟩
 have hmt:∀q o,(E.setTok t ⟨k.len+1,none⟩).mt q o→E.mt q o:=fun q o h=>by
  rcases h with h|h|⟨i,l,c,s,h,h'⟩
  ·exact .inl h
  ·exact .inr (.inl h)
  ·exact .inr (.inr ⟨i,l,c,s,(htok h).1,h'⟩)
 have hfar:∀q,¬E.own q→w'.heap[q]?=w.heap[q]?:=fun q hq=>hoth q fun c sz he=>hq (.inr ⟨t,k.len,c,sz,by rw[hk];obtain⟨kl,ks⟩:=k;simp only at he;subst he;rfl⟩);have ev:Evol E w (E.setTok t ⟨k.len+1,none⟩) w' E.boxes.length E.toks.length:=by
  refine⟨rfl,fun _ _ h=>⟨h,fun _ h=>h⟩,fun q hq k' hk'=>?_,hos,htp,hout,by rw[hsize];exact Bo _,fun q _ hq=>hfar q hq,fun b o v _ hc=>by rw[hcell];exact hc,fun b o _ h=>hmt b o h,fun b _ h=>hown b h,rfl,hty,fun q _ k' b1 c1 g1 g2 g3 o ho=>?_⟩;by_cases hqt:q=t
  ·subst hqt;rw[hk]at hk';cases hk';exact⟨⟨k.len+1,none⟩,by simp[Env.setTok,hkt],.inr (Ad6 _)⟩
  ·exact⟨k',by simp only[Env.setTok];rw[Fj (by omega)];exact hk',.inl rfl⟩
  ·obtain⟨kl',ksp'⟩:=k';simp only at g2;subst g2;rw[hoth b1 fun c' sz' he=>?_]
   ·exact ho
   ·have hqt:=hI.tt q t b1 kl' c1 0 k.len c' sz' g1 (by rw[hk];obtain⟨kl,ks⟩:=k;simp only at he;subst he;rfl);subst hqt;have:=(htok g3).2;exact this rfl
 refine⟨ev,?_⟩;exact{
  nb:=hI.nb
  nt:=by simp only[Env.setTok,Zf,hI.nt]
  np:=hI.np
  box:=fun i b sz rows h1 h2=>by
   obtain⟨cs,e,hh,hs,hl,hr⟩:=hI.box i b sz rows h1 h2;have:w'.heap[b]?=w.heap[b]?:=hoth b fun c sz' he=>hI.bt i t b sz k.len c sz' h1 (by rw[hk];obtain⟨kl,ks⟩:=k;simp only at he;subst he;rfl);exact⟨cs,e,by rw[this];exact hh,hs,hl,fun k r j x v h3 h4 h5=>(hr k r j x v h3 h4 h5).step ev⟩
  tok:=fun q l b c sz h=>by
   obtain⟨h1,hq⟩:=htok h;obtain⟨h2,h3,cs,e,hh,hs⟩:=hI.tok q l b c sz h1;have:w'.heap[b]?=w.heap[b]?:=hoth b fun c' sz' he=>hq (hI.tt q t b l c sz k.len c' sz' h1 (by rw[hk];obtain⟨kl,ks⟩:=k;simp only at he;subst he;rfl));exact⟨h2,h3,cs,e,by rw[this];exact hh,hs⟩
  bb:=hI.bb
  bt:=fun i q b s l c sz h1 h2=>hI.bt i q b s l c sz h1 (htok h2).1
  tt:=fun i j b l c s l' c' s' h1 h2=>hI.tt i j b l c s l' c' s' (htok h1).1 (htok h2).1
  frlt:=fun b o h=>⟨fun h'=>(hI.frlt b o h).1 (hown b h'),by rw[hsize];exact(hI.frlt b o h).2⟩
  lo:=fun b h=>hI.lo b (hown b h)
  frlo:=hI.frlo
  sz:=by rw[hsize];exact hI.sz
  glob:=X.glob_st w w' (fun q hq=>hfar q fun h=>by have:=hI.lo q h;omega) hI.sz hos hI.glob }
theorem X5{c:Call}{p q:Operand}{te t:Nat}{s:List UInt8}{pt it:TypeId}{tk:List Nat}(hte:X.P.cellsOf te=1)(hpt:X.P.underlying pt=some (.pointer te))(hS:S.toks[t]?=some s.length)(hb:s.length≤100000000000)
 (htk:S.toks.set t (s.length+1)=tk)(ho:ops[i]?=some o:=by rfl)(hw:A6 ops F o=some true:=by rfl)(hop:o.op=.call c:=by rfl)(hcal:c.callee=.builtin .unsafeString:=by rfl)(hargs:c.args=#[p,q]:=by rfl)(htys:c.argTypes=#[pt,it]:=by rfl)
 (hp:Dt X F p=some (.dat te s t):=by rfl)(hq:Dt X F q=some (.val (.int .i64 s.length)):=by rfl):Ndo X N ops i o F (str s) S ⟨S.boxes,tk⟩:=by
 subst htk;intro F' E w a hlk hI hF;have hlo:=Gs hlk;rw[hop]at hlo;simp only[Op.operands,Call.operands,hcal,hargs,Wt,zzq47]at hlo;have r1:=Ak hI hF ((Di (X:=X) (F:=F) (F':=F') (o:=p) fun s hs=>hlo s (.inr (by simp[hs]))).trans hp);have r2:=Ak hI hF ((Di (X:=X) (F:=F) (F':=F') (o:=q) fun s hs=>hlo s (.inr (by simp[hs]))).trans hq);generalize hu:a.eval p=u at r1;generalize hv:a.eval q=v at r2;cases r2;cases r1 with
 |dat _ _ _ ad k hk1 hk2 hs=>
 have hkl:k.len=s.length:=by
  have h1:=hI.nt;have h2:(E.toks.map Tk.len)[t]?=some k.len:=by simp[hk1]
  rw[h1,hS]at h2;exact(Option.some.inj h2).symm
 have fin:∀w',(Builtin.unsafeString_ #[pt,it] o.type #[.pointer ad,.int .i64 s.length]).run X.P w=.ok (.string ⟨⟨s⟩⟩) w'→w'.os=w.os→w'.tape=w.tape→w'.output=w.output→w'.heap.size=w.heap.size →
  (∀q,(∀c sz,k.sp≠some (q,c,sz))→w'.heap[q]?=w.heap[q]?)→(∀p,w'.cell? p=w.cell? p)→(∀q e,Fu w q=some e→Fu w' q=some e) →
  Does X ops i a w fun v w'=>∃E',Inv X E' ⟨S.boxes,S.toks.set t (s.length+1)⟩ w'∧Evol E w E' w' E.boxes.length E.toks.length∧Rel E' w' v (str s):=fun w' hr h1 h2 h3 h4 h5 h6 h7=>by
  obtain⟨ev,hI'⟩:=A4i hI hk1 hkl h1 h2 h3 h4 h5 h6 h7;exact Does.val ho (Cm hF (by rw[Cw hlk];exact hw)) (by simp[execOp,hop,resolve,hcal,hargs,htys,hu,hv,invoke,builtin,hr]) (.inl rfl) ⟨_,hI',ev,.val _⟩
 by_cases h0:s=[]
 ·subst h0;exact fin w (Lib.run_unsafeString_none w pt it o.type ad) rfl rfl rfl rfl (fun _ _=>rfl) (fun _=>rfl) (fun _ _ h=>h)
 ·obtain⟨cap,hba⟩:=hs hkl.symm h0;unfold BufAt at hba;split at hba
  ·exact absurd hba.1 h0
  ·rename_i b cc sz hsp;obtain⟨rfl,rfl,rfl,q4,q5,q6⟩:=hba;obtain⟨kl,ksp⟩:=k;simp only at hsp hkl;subst hsp;subst hkl;obtain⟨g1,g2,cur,te',hh,hcs⟩:=hI.tok t _ b cap 1 hk1;have g1:=g1 (by decide);have hcs:=hcs (by decide);have hte':te'=te:=by simpa[Fu,hh]using q4
   subst hte';have hsh:w.shape? b=some (te',cur.size):=by simp[World.shape?,hh]
   refine fin (w.freeze ⟨b,0,none⟩ s.length) (Lib.run_unsafeString_row w pt it o.type te' hpt hte b cur.size hsh s h0 (by omega) (by omega) (fun j x hx=>?_)) ?_ ?_ ?_ (Ai2 _ _ _) (fun q hq=>Ag7 _ _ _ _ fun he=>hq cap 1 (by rw[he])) (fun p=>Ai1 _ _ _ _)
    (fun q e h=>Aej _ _ _ h)
   ·rw[F9,Jt];exact q6 j x hx
   ·unfold World.freeze;split<;>rfl
   ·unfold World.freeze;split<;>rfl
   ·unfold World.freeze;split<;>rfl
end
section
variable {X:Cx}{B:Bx}{E:Env}{S:St}{w:World}{F:C3}{a:Act}{N:Nat}{ops:Array Oper}{i:Nat}{o:Oper}
theorem Aqf{u v:Value}(h:Ib u=Ib v):u=v:=by
 unfold Ib at h;split at h<;>split at h
 ·rfl
 ·cases h
 ·cases h
 ·cases h;rfl
theorem Xg:∀{l l':List Value},l.map Ib=l'.map Ib→l=l'
 |[],[],_=>rfl
 |[],_::_,h=>by simp at h
 |_::_,[],h=>by simp at h
 |x::l,y::l',h=>by
  simp only[Nz,List.cons.injEq]at h;rw[Aqf h.1,Xg h.2]
theorem Inv.recell(hI:Inv X E S w){b:Nat}{rows rows':List (List AV)}(hS:S.boxes[b]?=some rows)(hl:rows'.length=rows.length)(hll:∀r,r∈rows'→∃r0,r0∈rows∧r.length=r0.length)
 (hr:∀(blk sz:Nat)(cs:Array Value)(te:TypeId),E.boxes[b]?=some (some (blk,sz))→w.heap[blk]?=some (.cells cs te (0,0))→∀(k:Nat)(r:List AV)(j:Nat)(x:AV)(v:Value),rows'[k]?=some r→r[j]?=some x→cs[k*sz+j]?=some v→Rel E w v x) :
 Inv X E ⟨S.boxes.set b rows',S.toks⟩ w:=
 { hI with
   nb:=by simp[hI.nb]
   box:=fun i blk sz q h1 h2=>by
    rcases Ep h2 with⟨rfl,rfl⟩|⟨_,h2⟩
    ·obtain⟨cs,e,hh,hs,hlen,_⟩:=hI.box i blk sz rows h1 hS;exact⟨cs,e,hh,by rw[hl];exact hs,fun r hm=>by obtain⟨r0,h0,he⟩:=hll r hm;rw[he];exact hlen r0 h0,hr blk sz cs e h1 hh⟩
    ·exact hI.box i blk sz q h1 h2 }
theorem Adg(hI:Inv X E S w)(t te:TypeId){v:Value}{rest:List Value}(hv:v.cells.toList=.pointer none::.slice none 0 0::rest) :
 ∃E' w',(newVar t v).run X.P w=.ok ⟨w.heap.size,0,none⟩ w'∧Inv X E' ⟨S.boxes++[[.tagN t S.boxes.length::.buf te [] S.toks.length::rest.map Ib]],S.toks++[0]⟩ w'∧Evol E w E' w' E.boxes.length E.toks.length ∧
  Rel E' w' (.pointer (some ⟨w.heap.size,0,none⟩)) (.ptr S.boxes.length 0 0):=by
 have hlen:v.cells.size=rest.length+2:=by have:=congrArg List.length hv;simpa using this
 obtain⟨ev,hI'⟩:=hI.newBox (w':=w.alloc (.cells v.cells t)) (cs:=v.cells) (e:=t) (sz:=rest.length+2) (rows:=[v.cells.toList.map Ib]) rfl rfl rfl rfl (by simp[hlen])
  (fun r hr=>by simp at hr;subst hr;simp[hlen]) (fun k r j x u h1 h2 h3=>by
    cases k with
    |zero=>
     simp at h1;subst h1;simp at h2 h3;obtain⟨u',h2,rfl⟩:=h2;rw[h3]at h2;cases h2;exact Mu u
    |succ k=>simp at h1)
 have hI2:=hI'.mint 0;have evm:=L1 (E.addBox w.heap.size (rest.length+2)) (w.alloc (.cells v.cells t)) 0;have hl:=ev.len;have ev2:=ev.trans (evm.weaken hl.1 hl.2);have hnb:E.boxes.length=S.boxes.length:=hI.nb;have hnt:E.toks.length=S.toks.length:=by rw[←hI.nt];simp
 have hbx:((E.addBox w.heap.size (rest.length+2)).mint 0).boxes[S.boxes.length]?=some (some (w.heap.size,rest.length+2)):=by
  show (E.addBox w.heap.size (rest.length+2)).boxes[S.boxes.length]?=_;rw[←hnb];exact getElem?_snoc_new _ _
 have hnew:(w.alloc (.cells v.cells t)).heap[w.heap.size]?=some (.cells v.cells t (0,0)):=by
  have:(w.alloc (.cells v.cells t)).heap=w.heap.push (.cells v.cells t (0,0)):=rfl;rw[this];simp
 have hty:Fu (w.alloc (.cells v.cells t)) w.heap.size=some t:=by simp only[Fu,hnew]
 refine⟨_,_,by simp[newVar,newRow],?_,ev2,?_⟩
 ·have hget:(S.boxes++[[v.cells.toList.map Ib]])[S.boxes.length]?=some [v.cells.toList.map Ib]:=by simp
  have:=hI2.recell (b:=S.boxes.length) (rows':=[.tagN t S.boxes.length::.buf te [] S.toks.length::rest.map Ib]) hget rfl (fun r hr=>⟨v.cells.toList.map Ib,by simp,by simp at hr;subst hr;simp[hlen]⟩) (fun blk sz cs e h1 h2 k r j x u h3 h4 h5=>by
   rw[hbx]at h1;cases h1;have hcs:cs=v.cells:=by
    rw[hnew]at h2;cases h2;rfl
   subst hcs;cases k with
   |succ k=>simp at h3
   |zero=>
    simp at h3;subst h3;have h5':v.cells.toList[j]?=some u:=by simpa using h5
    rw[hv]at h5';cases j with
    |zero=>simp at h4 h5';subst h4;subst h5';exact .tagN t _ _ _ hbx hty
    |succ j=>cases j with
     |zero=>
      simp at h4 h5';subst h4;subst h5';exact .buf te [] _ none 0 ⟨0,none⟩ (by simp only[Env.mint];rw[←hnt];exact getElem?_snoc_new _ _) (Bo _) (Cc _) (fun _=>⟨rfl,rfl,rfl⟩) (Bo _)
     |succ j=>
      simp at h4 h5';obtain⟨u',h4,rfl⟩:=h4;rw[h5']at h4;cases h4;exact Mu u)
  simpa using this
 ·have:=Rel.ptr (E:=(E.addBox w.heap.size (rest.length+2)).mint 0) (w:=w.alloc (.cells v.cells t)) S.boxes.length 0 0 w.heap.size (rest.length+2) hbx;simpa using this
theorem Akv{t:TypeId}{y:Ty}{rest:List Value}{bx:List (List (List AV))}{tk:List Nat}{b m:Nat}(te:TypeId)(ho:ops[i]?=some o)(hw:A6 ops F o=some true)(hop:o.op=.alloc t)(hy:X.ty t=some y)
 (hz:y.zero=(.pointer none::.slice none 0 0::rest).map Ib)(hb:Aac S.boxes=b)(hm:Aac S.toks=m)(hbx:S.boxes++[[.tagN t b::.buf te [] m::rest.map Ib]]=bx)(htk:S.toks++[0]=tk):Ndo X N ops i o F (.ptr b 0 0) S ⟨bx,tk⟩:=by
 subst hbx;subst htk;rw[Jz]at hb hm;subst hb;subst hm;intro F' E w a hl hI hF;obtain⟨z,hzr,hzc,_⟩:=I6 hy w;rw[hz]at hzc;obtain⟨E',w',h1,h2,h3,h4⟩:=Adg hI t te (v:=z) (Xg hzc);exact Does.val ho (Cm hF (by rw[Cw hl];exact hw)) (by simp[execOp,hop,Instr.alloc,hzr,h1]) (.inl rfl) ⟨E',h2,h3,h4⟩
theorem Akx{t:TypeId}{y:Ty}{cs:List Value}{fs:List (Nat×Nat)}(ho:ops[i]?=some o)(hw:A6 ops F o=some true)(hop:o.op=.build t #[])(hy:X.ty t=some y)(hk:y.k=.str fs)(hz:y.zero=cs.map Ib) :
 Ndo X N ops i o F (.val (.agg ⟨cs⟩)) S S:=by
 refine Df ho hw fun F' E w a hc hI hF=>?_;obtain⟨d,hd,hdd⟩:=(X.ty_ok t y hy).agg;simp only[hk]at hdd;obtain⟨fields,rfl,hm,_⟩:=hdd;obtain⟨z,_,hzc,hl,i,hi,hiz,his,_⟩:=I6 hy w;rw[hz]at hzc;have hcs:=Xg hzc;have hrun:=run_build (P:=X.P) w t #[] z.cells (by simp[Program.built,hi,hd,hiz,hm,Instr.fill]);refine⟨.agg z.cells,by simp[execOp,hop,hrun],?_⟩;have:z.cells=⟨cs⟩:=by rw[←zzq34];exact hcs
 rw[this];exact .val _
theorem Ar2{t:TypeId}{p:Operand}{rest:List Value}{bx:List (List (List AV))}{tk:List Nat}{b m:Nat}(te:TypeId)(ho:ops[i]?=some o)(hw:A6 ops F o=some true)(hop:o.op=.box t p)(hp:Dt X F p=some (.val (.agg ⟨.pointer none::.slice none 0 0::rest⟩)))
 (hb:Aac S.boxes=b)(hm:Aac S.toks=m)(hbx:S.boxes++[[.tagN t b::.buf te [] m::rest.map Ib]]=bx)(htk:S.toks++[0]=tk):Ndo X N ops i o F (.ptr b 0 0) S ⟨bx,tk⟩:=by
 subst hbx;subst htk;rw[Jz]at hb hm;subst hb;subst hm;intro F' E w a hl hI hF;have hlo:=Gs hl;rw[hop]at hlo;have r1:=Ak hI hF ((Di (X:=X) (F:=F) (F':=F') (o:=p) fun s hs=>hlo s (by simp[Op.operands,hs])).trans hp);generalize hv:a.eval p=v at r1;cases r1;obtain⟨E',w',h1,h2,h3,h4⟩:=Adg hI t te (v:=.agg ⟨.pointer none::.slice none 0 0::rest⟩) rfl;exact Does.val ho (Cm hF (by rw[Cw hl];exact hw)) (by simp[execOp,hop,Instr.box,hv,h1]) (.inl rfl) ⟨E',h2,h3,h4⟩
theorem Aew(hI:Inv X E S w){b r off blk sz:Nat}{rows:List (List AV)}{row:List AV}(hS:S.boxes[b]?=some rows)(hr:rows[r]?=some row)(ho:off<row.length)(hB:E.boxes[b]?=some (some (blk,sz))) :
 ∃cs e,w.heap[blk]?=some (.cells cs e (0,0))∧cs.size=rows.length*sz∧sz=row.length∧r*sz+off<cs.size:=by
 obtain⟨cs,e,hh,hs,hl,_⟩:=hI.box b blk sz rows hB hS;have hsz:=hl row (Bh hr);have hrl:=Aa hr;refine⟨cs,e,hh,hs,hsz.symm,?_⟩;rw[hs];exact Ig hrl (by omega)
theorem Adh{blk:Nat}{cs:Array Value}{e:TypeId}(h:w.heap[blk]?=some (.cells cs e (0,0))):(viewAt blk).run X.P w=.ok none w:=by
 have hsh:w.shape? blk=some (e,cs.size):=by simp[World.shape?,h]
 simp[viewAt,hsh]
theorem Am6{src dst t:TypeId}{p:Operand}{b r off:Nat}{y:Ty}{rows:List (List AV)}{row:List AV}(hu:X.P.underlying src=some (.pointer t))(hv:X.P.underlying dst=some .unsafePointer)(hy:X.ty t=some y)(hy0:y.size≠0)
 (ho:ops[i]?=some o:=by rfl)(hw:A6 ops F o=some true:=by rfl)(hop:o.op=.convert src dst p:=by rfl)(hp:Dt X F p=some (.ptr b r off):=by rfl)(hS:S.boxes[b]?=some rows:=by rfl)(hr:rows[r]?=some row:=by rfl)
 (hof:Nat.blt off row.length=true:=by rfl):Ndo X N ops i o F (.ptr b r off) S S:=by
 refine Df ho hw fun F' E w a hc hI hF=>?_;rw[hop]at hc;have r1:=Ak hI hF ((hc p (by simp[Op.operands])).trans hp);generalize hx:a.eval p=x at r1;cases r1 with
 |ptr _ _ _ blk sz hB=>
  obtain⟨cs,e,hh,hs,hsz,hin⟩:=Aew hI hS hr (by simpa[Fs]using hof) hB;have hsh:w.shape? blk=some (e,cs.size):=by simp[World.shape?,hh]
  refine⟨.pointer (some ⟨blk,r*sz+off,none⟩),?_,.ptr b r off blk sz hB⟩;have hnv:=Adh (X:=X) hh;have hlt:¬cs.size≤r*sz+off:=by omega
  simp[execOp,hop,hx,convert,run_underlying hu,run_underlying hv,Conv.unsafePointer,Conv.seenAt,hnv,cellsIn,hsh,De hy,hy0,hlt]
theorem Aeq{src dst t te:TypeId}{p:Operand}{b r off j:Nat}{rows:List (List AV)}{row:List AV}{y:Ty}(hu:X.P.underlying src=some .unsafePointer)(hv:X.P.underlying dst=some (.pointer t))(hy:X.ty t=some y)
 (hlies:∀n,n=rows.length*row.length→liesAt X.P X.P.depth te (n/X.P.cellsOf te) (r*row.length+off) t 1=true)(ho:ops[i]?=some o:=by rfl)(hw:A6 ops F o=some true:=by rfl)(hop:o.op=.convert src dst p:=by rfl)
 (hp:Dt X F p=some (.ptr b r off):=by rfl)(hS:S.boxes[b]?=some rows:=by rfl)(hr:rows[r]?=some row:=by rfl)(hof:Nat.blt off row.length=true:=by rfl)(hj:row[j]?=some (.tagN te b):=by rfl):Ndo X N ops i o F (.ptr b r off) S S:=by
 refine Df ho hw fun F' E w a hc hI hF=>?_;rw[hop]at hc;have r1:=Ak hI hF ((hc p (by simp[Op.operands])).trans hp);generalize hx:a.eval p=x at r1;cases r1 with
 |ptr _ _ _ blk sz hB=>
  obtain⟨cs,e,hh,hs,hsz,hin⟩:=Aew hI hS hr (by simpa[Fs]using hof) hB;have hte:e=te:=by
   obtain⟨cs',e',hh',_,hl,hrel⟩:=hI.box b blk sz rows hB hS;rw[hh]at hh';cases hh';have hjl:=Aa hj;obtain⟨v,hv⟩:∃v,cs[r*sz+j]?=some v:=⟨cs[r*sz+j]'(by rw[hs];exact Ig (Aa hr) (by omega)),by simp⟩
   have:=hrel r row j _ v hr hj hv;cases this with
   |tagN _ _ blk' sz' hB' ht=>
    rw[hB]at hB';cases hB';simpa[Fu,hh]using ht
  subst hte;have hsh:w.shape? blk=some (e,cs.size):=by simp[World.shape?,hh]
  refine⟨.pointer (some ⟨blk,r*sz+off,none⟩),?_,.ptr b r off blk sz hB⟩;have hnv:=Adh (X:=X) hh;have hl:=hlies cs.size (by rw[hs,hsz]);rw[←hsz]at hl;have hva:(variablesAt ⟨blk,r*sz+off,none⟩ t 1).run X.P w=.ok true w:=by simp[variablesAt,hsh,hl]
  by_cases h0:y.size=0
  ·simp[execOp,hop,hx,convert,run_underlying hu,run_underlying hv,Conv.unsafePointer,Conv.seenAt,hnv,De hy,h0,hva]
  ·simp[execOp,hop,hx,convert,run_underlying hu,run_underlying hv,Conv.unsafePointer,Conv.seenAt,hnv,De hy,h0,hva]
theorem Yh{t e:TypeId}(hd:X.P.underlying t=some (.pointer e))(d:Nat)(p:Option Addr)(w:World):(Op.equalIn (d+1) t (.pointer p) (.pointer none)).run X.P w=.ok p.isNone w:=by
 unfold Op.equalIn;cases p<;>simp[run_underlying hd]
theorem Aed{t e:TypeId}{y:Ty}(hd:X.P.underlying t=some (.pointer e))(hy:X.ty e=some y)(hy0:y.size≠0)(d:Nat)(p:Addr)(w:World):(Op.equalIn (d+1) t (.pointer (some p)) (.pointer (some p))).run X.P w=.ok true w:=by
 unfold Op.equalIn;simp[run_underlying hd,De hy,hy0,sameAddr]
theorem Aio{t t' e te b:TypeId}{p:Operand}(hu:X.P.underlying t=some (.pointer e))(ho:ops[i]?=some o:=by rfl)(hw:A6 ops F o=some true:=by rfl)(hop:o.op=.binOp .eql t p (.const (.pointer none)) t':=by rfl)
 (hp:Dt X F p=some (.tagN te b):=by rfl):Ndo X N ops i o F (.val (.bool true)) S S:=by
 refine Df ho hw fun F' E w a hc hI hF=>?_;rw[hop]at hc;have r1:=Ak hI hF ((hc p (by simp[Op.operands])).trans hp);generalize hx:a.eval p=x at r1;cases r1;have e1:=Yh hu 9999 none w;exact⟨.bool true,by simp only[execOp,hop,hx,show a.eval (.const (.pointer none))=.pointer none from rfl,eqGuard,binOp,Op.equal,Op.maxDepth];simp[e1],.val _⟩
theorem Aet{t t' e b r off:TypeId}{p:Operand}(hu:X.P.underlying t=some (.pointer e))(ho:ops[i]?=some o:=by rfl)(hw:A6 ops F o=some true:=by rfl)(hop:o.op=.binOp .eql t p (.const (.pointer none)) t':=by rfl)
 (hp:Dt X F p=some (.ptr b r off):=by rfl):Ndo X N ops i o F (.val (.bool false)) S S:=by
 refine Df ho hw fun F' E w a hc hI hF=>?_;rw[hop]at hc;have r1:=Ak hI hF ((hc p (by simp[Op.operands])).trans hp);generalize hx:a.eval p=x at r1;cases r1;have e1:=fun q=>Yh hu 9999 (some q) w;exact⟨.bool false,by simp only[execOp,hop,hx,show a.eval (.const (.pointer none))=.pointer none from rfl,eqGuard,binOp,Op.equal,Op.maxDepth];simp[e1],.val _⟩
theorem Aes{t t' e b r off:TypeId}{p q:Operand}{y:Ty}(hu:X.P.underlying t=some (.pointer e))(hy:X.ty e=some y)(hy0:y.size≠0)(ho:ops[i]?=some o:=by rfl)(hw:A6 ops F o=some true:=by rfl)(hop:o.op=.binOp .neq t p q t':=by rfl)
 (hp:Dt X F p=some (.ptr b r off):=by rfl)(hq:Dt X F q=some (.ptr b r off):=by rfl):Ndo X N ops i o F (.val (.bool false)) S S:=by
 refine Df ho hw fun F' E w a hc hI hF=>?_;rw[hop]at hc;have r1:=Ak hI hF ((hc p (by simp[Op.operands])).trans hp);have r2:=Ak hI hF ((hc q (by simp[Op.operands])).trans hq);generalize hx:a.eval p=x at r1;generalize hz:a.eval q=z at r2;cases r1 with
 |ptr _ _ _ blk sz hB=>
 cases r2 with
 |ptr _ _ _ blk' sz' hB'=>
 rw[hB]at hB';cases hB';have e1:=fun q=>Aed hu hy hy0 9999 q w;exact⟨.bool false,by simp only[execOp,hop,hx,hz,eqGuard,binOp,Op.equal,Op.maxDepth];simp[e1],.val _⟩
theorem Aer{c:Call}{fo p:Operand}{f:FuncId}{x:AV}(hr:∀v w,(callFunc f #[v]).run X.P w=.ok (.value v) w)(ho:ops[i]?=some o:=by rfl)(hw:A6 ops F o=some true:=by rfl)
 (hop:o.op=.call c:=by rfl)(hcal:c.callee=.value fo:=by rfl)(hargs:c.args=#[p]:=by rfl)(hfo:Dt X F fo=some (.fn f []):=by rfl)(hp:Dt X F p=some x:=by rfl):Ndo X N ops i o F x S S:=by
 refine Df ho hw fun F' E w a hc hI hF=>?_;rw[hop]at hc;simp only[Op.operands,Call.operands,hcal,hargs,Wt,zzq47]at hc;have h1:=Ak hI hF ((hc fo (.inl (by simp))).trans hfo);have h2:=Ak hI hF ((hc p (.inr (by simp))).trans hp);cases hh:a.eval fo<;>rw[hh]at h1<;>cases h1;rename_i caps hcl hcr;have hcaps:caps=#[]:=by apply Array.eq_empty_of_size_eq_zero;simpa using hcl
 subst hcaps;exact⟨a.eval p,by simp[execOp,hop,resolve,hcal,hargs,hh,Deferred.ofValue,invoke,hr],h2⟩
end
end Go.V
namespace Go.V
open Go Go.Proofs Go.Proofs.Tryz
section
variable {X:Cx}{B:Bx}{E:Env}{S:St}{w:World}{F:C3}{R:AE→St→Prop}{N:Nat}{ops:Array Oper}{i:Nat}{o:Oper}{k:List Item}
theorem Acj{t t':TypeId}{p q:Operand}{κ:IntKind}{a b r:Int}(hr:κ.wrap ((BitVec.ofInt κ.bits a &&& BitVec.ofInt κ.bits b).toNat)=r)(ho:ops[i]?=some o:=by rfl)(hw:A6 ops F o=some true:=by rfl)(hop:o.op=.binOp .and t p q t':=by rfl)
 (hp:Dt X F p=some (.val (.int κ a)):=by rfl)(hq:Dt X F q=some (.val (.int κ b)):=by rfl):Ndo X N ops i o F (.val (.int κ r)) S S:=by
 subst hr;refine Df ho hw fun F' E w ac hc hI hF=>?_;rw[hop]at hc;have r1:=Ak hI hF ((hc p (by simp[Op.operands])).trans hp);have r2:=Ak hI hF ((hc q (by simp[Op.operands])).trans hq);generalize hu:ac.eval p=u at r1;generalize hv:ac.eval q=v at r2;cases r1;cases r2;exact⟨_,by simp[execOp,hop,hu,hv,eqGuard,binOp,Op.intBits],.val _⟩
theorem Tw{t t':TypeId}{p q:Operand}{κ κ':IntKind}{a b r:Int}(h0:0≤b)(hr:a.fdiv (2^(min b.toNat κ.bits))=r)(ho:ops[i]?=some o:=by rfl)(hw:A6 ops F o=some true:=by rfl)(hop:o.op=.binOp .shr t p q t':=by rfl)
 (hp:Dt X F p=some (.val (.int κ a)):=by rfl)(hq:Dt X F q=some (.val (.int κ' b)):=by rfl):Ndo X N ops i o F (.val (.int κ r)) S S:=by
 subst hr;refine Df ho hw fun F' E w ac hc hI hF=>?_;rw[hop]at hc;have r1:=Ak hI hF ((hc p (by simp[Op.operands])).trans hp);have r2:=Ak hI hF ((hc q (by simp[Op.operands])).trans hq);generalize hu:ac.eval p=u at r1;generalize hv:ac.eval q=v at r2;cases r1;cases r2;have hn:¬b<0:=by omega
 exact⟨_,by simp[execOp,hop,hu,hv,eqGuard,binOp,Op.shift,hn],.val _⟩
theorem A2t{e:Bool}{x y:Code}{K:List Item}{F':C3}{S2:St}(hk:AK X B K F' S2 R)(he:Go.V.ev X B.fn.ntmps 200 (.code (if e then x else y)::k) F S=(K,F',S2):=by rfl):AK X B (.code (.cond (.const (.bool e)) x y)::k) F S R:=
 Ko (Bj 200 he hk) fun w a b cs=>step_cond (t:=e) rfl
end
theorem Ax6(y:Nat)(hy:y<64):Pure X 361 [.val (.int .u64 2),.val (.int .u64 y)] (.tup [.val (.int .u64 0),.val (.int .u64 (2*y:Nat))]):=by
 have b2:IntKind.u64.wrap ((BitVec.ofInt IntKind.u64.bits 2 &&& BitVec.ofInt IntKind.u64.bits 4294967295).toNat)=2:=by decide
 have b0:IntKind.u64.wrap ((BitVec.ofInt IntKind.u64.bits 0 &&& BitVec.ofInt IntKind.u64.bits 4294967295).toNat)=0:=by decide
 have s2:(2:Int).fdiv (2^(min (32:Int).toNat IntKind.u64.bits))=0:=by decide
 have s0:(0:Int).fdiv (2^(min (32:Int).toNat IntKind.u64.bits))=0:=by decide
 have hand:∀y:Nat,y<64→IntKind.u64.wrap ((BitVec.ofInt IntKind.u64.bits (y:Int) &&& BitVec.ofInt IntKind.u64.bits 4294967295).toNat)=(y:Int):=by decide
 have hshr:∀y:Nat,y<64→(y:Int).fdiv (2^(min (32:Int).toNat IntKind.u64.bits))=0:=by decide
 have hshr2:∀y:Nat,y<64→(IntKind.u64.wrap ((2:Int)*(y:Int))).fdiv (2^(min (32:Int).toNat IntKind.u64.bits))=0:=by decide
 have hmul:∀y:Nat,y<64→IntKind.u64.wrap ((2:Int)*(y:Int))=((2*y:Nat):Int):=by decide
 have hz:∀y:Nat,y<64→IntKind.u64.wrap ((BitVec.ofInt IntKind.u64.bits (IntKind.u64.wrap (IntKind.u64.wrap ((0:Int)*(y:Int))+0)) &&& BitVec.ofInt IntKind.u64.bits 4294967295).toNat)=0:=by decide
 have hz2:∀y:Nat,y<64→(IntKind.u64.wrap (IntKind.u64.wrap ((0:Int)*(y:Int))+0)).fdiv (2^(min (32:Int).toNat IntKind.u64.bits))=0:=by decide
 have s4:(IntKind.u64.wrap (0+IntKind.u64.wrap (2*0))).fdiv (2^(min (32:Int).toNat IntKind.u64.bits))=0:=by decide
 refine Pure.run func361 ?_;refine Bm (Acj b2) ?_;refine Bm (Tw (by decide) s2) ?_;refine Bm (Acj (hand y hy)) ?_;refine Bm (Tw (by decide) (hshr y hy)) ?_;refine Bm (Tw (by decide) (hshr2 y hy)) ?_;refine Bm (Acj (hz y hy)) ?_;refine Bm (Tw (by decide) (hz2 y hy)) ?_;refine Bm (Tw (by decide) s4) ?_;refine Au func361 ?_;rw[hmul y hy];rfl
theorem A3y(y:Nat)(hy:y<64):Pure X 334 [.val (.int .u64 2),.val (.int .u64 y)] (.tup [.val (.int .u64 0),.val (.int .u64 (2*y:Nat))]):=by
 refine Pure.run func334 ?_;refine A2t ?_;refine Al (Ax6 y hy) ?_;exact Au func334 rfl
def Ahz(s p:List UInt8):Bool:=s.take p.length==p
theorem Afl(s p:List UInt8)(hs:s.length≤1000000000000)(hp:p.length≤1000000000000):Pure X 362 [str s,str p] (vb (Ahz s p)):=by
 refine Pure.run func362 ?_;refine Db (fun h=>?_) (fun h=>?_)
 ·have h':p.length≤s.length:=by have:=A7 h;rw[F6,F6]at this;omega
  refine Bm (Pf (l:=0) (h:=(p.length:Int)) (r:=s.take p.length) rfl rfl rfl rfl rfl ?_ rfl rfl ?_ ?_ ?_ ?_) ?_
  ·show some _=_;rw[F6]
  ·omega
  ·omega
  ·omega
  ·simp
  refine Au func362 ?_;rfl
 ·have h':s.length<p.length:=by have:=Bd h;rw[F6,F6]at this;omega
  refine Au func362 ?_;have:Ahz s p=false:=by
   simp only[Ahz,beq_eq_false_iff_ne];intro he;have:=congrArg List.length he;simp at this;omega
  rw[this]
theorem Aua(s p:List UInt8)(hs:s.length≤1000000000000)(hp:p.length≤1000000000000):Pure X 335 [str s,str p] (vb (Ahz s p)):=by
 refine Pure.run func335 ?_;refine Al (Afl s p hs hp) ?_;exact Au func335 rfl
def J7(s p:List UInt8):List UInt8:=if Ahz s p then s.drop p.length else s
theorem Ax9(s p:List UInt8)(hs:s.length≤1000000000000)(hp:p.length≤1000000000000):Pure X 364 [str s,str p] (str (J7 s p)):=by
 refine Pure.run func364 ?_;refine Al (Afl s p hs hp) ?_;refine Ag (fun h=>?_) (fun h=>?_)
 ·have h':Ahz s p=true:=h;have hl:p.length≤s.length:=by
   have:=congrArg List.length (zzq56.1 h');simp at this;omega
  refine Bm (Pf (l:=(p.length:Int)) (h:=(s.length:Int)) (r:=s.drop p.length) rfl rfl rfl rfl ?_ rfl rfl rfl ?_ ?_ ?_ ?_) ?_
  ·show some _=_;rw[F6]
  ·omega
  ·omega
  ·omega
  ·rw[Hc,Hc,I8]
  refine Au func364 ?_;simp only[J7,h',if_true]
 ·have h':Ahz s p=false:=h;refine Au func364 ?_;simp[J7,h']
theorem Auf(s p:List UInt8)(hs:s.length≤1000000000000)(hp:p.length≤1000000000000):Pure X 339 [str s,str p] (str (J7 s p)):=by
 refine Pure.run func339 ?_;refine Al (Ax9 s p hs hp) ?_;exact Au func339 rfl
theorem Aue(k:Nat)(hk:k≤60):Pure X 317 [str [32,32],vi k] (str (List.replicate (2*k) 32)):=by
 have wk:∀k:Nat,k≤60→IntKind.u64.wrap (k:Int)=(k:Int):=by decide
 have wk2:∀k:Nat,k≤60→IntKind.i64.wrap ((2*k:Nat):Int)=((2*k:Nat):Int):=by decide
 have hm:Pure X 334 [.val (.int .u64 2),.val (.int .u64 (IntKind.u64.wrap (k:Int)))] (.tup [.val (.int .u64 0),.val (.int .u64 (2*k:Nat))]):=by
  rw[wk k hk];exact A3y k (by omega)
 refine Pure.run func317 ?_;refine Ag (fun h=>?_) (fun h=>?_)
 ·have h':k=0:=by simpa using h
  subst h';exact Au func317 rfl
 refine Ag (fun h1=>?_) (fun h1=>?_)
 ·have h':k=1:=by simp at h1;omega
  subst h';exact Au func317 rfl
 refine Ah ?_ (ht:=by simp);refine Al hm ?_;refine Ii ?_ (ht:=by simp);refine Ah ?_ (ht:=by simp;omega);refine Ah ?_;refine Je 0 (by omega) (b:=32) rfl ?_;refine A1 ?_;refine Hh ?_ (ht:=by rw[wk2 k hk];simp;omega);refine Al (Aua (List.replicate 128 32) [32,32] (by simp) (by simp)) ?_;refine A1 ?_;refine Bm (Pf (s:=List.replicate 128 32) (l:=0) (h:=IntKind.i64.wrap ((2*k:Nat):Int)) (r:=List.replicate (2*k) 32) rfl rfl rfl rfl rfl rfl rfl rfl ?_ ?_ ?_ ?_) ?_
 ·omega
 ·rw[wk2 k hk];omega
 ·rw[wk2 k hk];simp;omega
 ·rw[wk2 k hk,Hc,List.take_replicate];simp;omega
 exact Au func317 rfl
theorem Aek:X.P.underlying 308=some (.pointer 310):=by kernel_rfl
theorem Ay5:X.P.underlying 366=some .unsafePointer:=by kernel_rfl
theorem Axa:liesAt X.P X.P.depth 310 (2/X.P.cellsOf 310) 0 310 1=true:=by kernel_rfl
theorem Axb:liesAt X.P X.P.depth 312 (4/X.P.cellsOf 312) 0 310 1=true:=by kernel_rfl
theorem Azm(v:Value)(w:World):(callFunc 359 #[v]).run X.P w=.ok (.value v) w:=
 (run_callFunc_extern func359 (by kernel_rfl) (by kernel_rfl) (by kernel_rfl) (e:=Extern.AbiNoEscape.same) (by kernel_rfl) _ w).trans rfl
abbrev bA(A:AV)(s:List UInt8):List AV:=[A,.buf 5 s 0]
abbrev bQ(A:AV)(s:List UInt8)(ws:List (List UInt8))(h:Int):List AV:=[A,.buf 5 s 0,.sl (Dj ws) .no,vi h]
abbrev bP(A:AV)(s:List UInt8)(ws:List (List UInt8))(h:Int):List AV:=[A,.buf 5 s 0,.sl (Dj ws) (.tok 1),vi h]
abbrev bN(A:AV)(s:List UInt8)(h:Int):List AV:=[A,.buf 5 s 0,.sl [] .tight,vi h]
theorem A0d(s:List UInt8):Hands X 333 [.ptr 0 0 0] ⟨[[bA (.tagN 310 0) s]],[s.length]⟩ (.tup []) ⟨[[bA (.ptr 0 0 0) s]],[s.length]⟩:=by
 refine Hands.run (n:=1) (m:=1) func333 ?_;refine Bm (Aio Aek) ?_;refine A1 ?_;refine Bm (Am6 Aek Ay5 rfl (by simp)) ?_;refine Bm (Aer Azm) ?_;refine Bm (Aeq (te:=310) (j:=0) Ay5 Aek rfl ?_) ?_
 ·intro n hn;subst hn;exact Axa
 exact D6 func333 rfl rfl
theorem A0e(s:List UInt8):Hands X 333 [.ptr 0 0 0] ⟨[[bA (.ptr 0 0 0) s]],[s.length]⟩ (.tup []) ⟨[[bA (.ptr 0 0 0) s]],[s.length]⟩:=by
 refine Hands.run (n:=1) (m:=1) func333 ?_;refine Bm (Aet Aek) ?_;refine Ah ?_;refine Bm (Aes Aek rfl (by simp)) ?_;refine Ah ?_;exact D6 func333 rfl rfl
theorem A0g(s:List UInt8) (ws:List (List UInt8)) (h:Int):Hands X 333 [.ptr 0 0 0] ⟨[[bQ (.tagN 312 0) s ws h]],[s.length]⟩ (.tup []) ⟨[[bQ (.ptr 0 0 0) s ws h]],[s.length]⟩:=by
 refine Hands.run (n:=1) (m:=1) func333 ?_;refine Bm (Aio Aek) ?_;refine A1 ?_;refine Bm (Am6 Aek Ay5 rfl (by simp)) ?_;refine Bm (Aer Azm) ?_;refine Bm (Aeq (te:=312) (j:=0) Ay5 Aek rfl ?_) ?_
 ·intro n hn;subst hn;exact Axb
 exact D6 func333 rfl rfl
theorem A0h(s:List UInt8) (ws:List (List UInt8)) (h:Int):Hands X 333 [.ptr 0 0 0] ⟨[[bQ (.ptr 0 0 0) s ws h]],[s.length]⟩ (.tup []) ⟨[[bQ (.ptr 0 0 0) s ws h]],[s.length]⟩:=by
 refine Hands.run (n:=1) (m:=1) func333 ?_;refine Bm (Aet Aek) ?_;refine Ah ?_;refine Bm (Aes Aek rfl (by simp)) ?_;refine Ah ?_;exact D6 func333 rfl rfl
theorem A2h(s:List UInt8)(x:List UInt8)(hb:s.length+x.length≤100000000000):Hands X 316 [.ptr 0 0 0,str x] ⟨[[bA (.tagN 310 0) s]],[s.length]⟩ (.tup [vi x.length,.val .nilIface]) ⟨[[bA (.ptr 0 0 0) (s++x)]],[(s++x).length]⟩:=by
 refine Hands.run (n:=1) (m:=1) func316 ?_;refine Ae (τ':=[0]) [0] [0] (A0d s) ?_;refine Bm (X2 rfl rfl rfl rfl rfl rfl rfl rfl rfl rfl rfl rfl rfl rfl rfl hb rfl) ?_;rw[Es];exact Br func316 rfl rfl
theorem A2i(s:List UInt8)(x:List UInt8)(hb:s.length+x.length≤100000000000):Hands X 316 [.ptr 0 0 0,str x] ⟨[[bA (.ptr 0 0 0) s]],[s.length]⟩ (.tup [vi x.length,.val .nilIface]) ⟨[[bA (.ptr 0 0 0) (s++x)]],[(s++x).length]⟩:=by
 refine Hands.run (n:=1) (m:=1) func316 ?_;refine Ae (τ':=[0]) [0] [0] (A0e s) ?_;refine Bm (X2 rfl rfl rfl rfl rfl rfl rfl rfl rfl rfl rfl rfl rfl rfl rfl hb rfl) ?_;rw[Es];exact Br func316 rfl rfl
theorem A2j(s:List UInt8) (ws:List (List UInt8)) (h:Int)(x:List UInt8)(hb:s.length+x.length≤100000000000):Hands X 316 [.ptr 0 0 0,str x] ⟨[[bQ (.tagN 312 0) s ws h]],[s.length]⟩ (.tup [vi x.length,.val .nilIface]) ⟨[[bQ (.ptr 0 0 0) (s++x) ws h]],[(s++x).length]⟩:=by
 refine Hands.run (n:=1) (m:=1) func316 ?_;refine Ae (τ':=[0]) [0] [0] (A0g s ws h) ?_;refine Bm (X2 rfl rfl rfl rfl rfl rfl rfl rfl rfl rfl rfl rfl rfl rfl rfl hb rfl) ?_;rw[Es];exact Br func316 rfl rfl
theorem A2k(s:List UInt8) (ws:List (List UInt8)) (h:Int)(x:List UInt8)(hb:s.length+x.length≤100000000000):Hands X 316 [.ptr 0 0 0,str x] ⟨[[bQ (.ptr 0 0 0) s ws h]],[s.length]⟩ (.tup [vi x.length,.val .nilIface]) ⟨[[bQ (.ptr 0 0 0) (s++x) ws h]],[(s++x).length]⟩:=by
 refine Hands.run (n:=1) (m:=1) func316 ?_;refine Ae (τ':=[0]) [0] [0] (A0h s ws h) ?_;refine Bm (X2 rfl rfl rfl rfl rfl rfl rfl rfl rfl rfl rfl rfl rfl rfl rfl hb rfl) ?_;rw[Es];exact Br func316 rfl rfl
theorem Ay4:X.P.underlying 330=some (.pointer 5):=by kernel_rfl
theorem c5:X.P.cellsOf 5=1:=by kernel_rfl
theorem A13(s:List UInt8)(hb:s.length≤100000000000):Hands X 267 [.ptr 0 0 0] ⟨[[bA (.tagN 310 0) s]],[s.length]⟩ (str s) ⟨[[bA (.tagN 310 0) s]],[s.length+1]⟩:=by
 refine Hands.run (n:=1) (m:=1) func267 ?_;refine Hu 1024 4 ?_;refine A0 (Va rfl) ?_;refine Ft ?_ rfl;refine Ek (fun S'=>X3) ?_;refine Ch (X5 c5 Ay4 rfl hb rfl) ?_;refine Ar ?_;refine B6 ?_;exact Br func267 rfl rfl
theorem A14(s:List UInt8)(hb:s.length≤100000000000):Hands X 267 [.ptr 0 0 0] ⟨[[bA (.ptr 0 0 0) s]],[s.length]⟩ (str s) ⟨[[bA (.ptr 0 0 0) s]],[s.length+1]⟩:=by
 refine Hands.run (n:=1) (m:=1) func267 ?_;refine Hu 1024 4 ?_;refine A0 (Va rfl) ?_;refine Ft ?_ rfl;refine Ek (fun S'=>X3) ?_;refine Ch (X5 c5 Ay4 rfl hb rfl) ?_;refine Ar ?_;refine B6 ?_;exact Br func267 rfl rfl
theorem A15(s:List UInt8) (h:Int)(hb:s.length≤100000000000):Hands X 267 [.ptr 0 0 0] ⟨[[bN (.tagN 312 0) s h]],[s.length]⟩ (str s) ⟨[[bN (.tagN 312 0) s h]],[s.length+1]⟩:=by
 refine Hands.run (n:=1) (m:=1) func267 ?_;refine Hu 1024 4 ?_;refine A0 (Va rfl) ?_;refine Ft ?_ rfl;refine Ek (fun S'=>X3) ?_;refine Ch (X5 c5 Ay4 rfl hb rfl) ?_;refine Ar ?_;refine B6 ?_;exact Br func267 rfl rfl
theorem A16(s:List UInt8) (h:Int)(hb:s.length≤100000000000):Hands X 267 [.ptr 0 0 0] ⟨[[bN (.ptr 0 0 0) s h]],[s.length]⟩ (str s) ⟨[[bN (.ptr 0 0 0) s h]],[s.length+1]⟩:=by
 refine Hands.run (n:=1) (m:=1) func267 ?_;refine Hu 1024 4 ?_;refine A0 (Va rfl) ?_;refine Ft ?_ rfl;refine Ek (fun S'=>X3) ?_;refine Ch (X5 c5 Ay4 rfl hb rfl) ?_;refine Ar ?_;refine B6 ?_;exact Br func267 rfl rfl
def Nm(te k:Nat):Bool→AV
 |true=>.tagN te k
 |false=>.ptr k 0 0
instance{n m te k:Nat}{b:Bool} [h:LtC k n]:OK n m (Nm te k b):=⟨by cases b;exact .ptr k 0 0 h.lt;exact .tagN te k h.lt⟩
instance{σ τ:List Nat}{te k k':Nat}{b:Bool} [h:IdxC σ k k']:RinC σ τ (Nm te k b) (Nm te k' b):=⟨by cases b;exact .ptr k k' 0 0 h.h;exact .tagN te k k' h.h⟩
instance{σ τ:List Nat}{te k k':Nat}{b:Bool} [h:GetC σ k' k]:RoutC σ τ (Nm te k b) (Nm te k' b):=⟨by cases b;exact .ptr k k' 0 0 h.h;exact .tagN te k k' h.h⟩
theorem wA(b:Bool)(s x:List UInt8)(hb:s.length+x.length≤100000000000):Hands X 316 [.ptr 0 0 0,str x] ⟨[[bA (Nm 310 0 b) s]],[s.length]⟩ (.tup [vi x.length,.val .nilIface]) ⟨[[bA (.ptr 0 0 0) (s++x)]],[(s++x).length]⟩:=by
 cases b
 ·exact A2i s x hb
 ·exact A2h s x hb
theorem wQ(b:Bool)(s:List UInt8)(ws:List (List UInt8))(h:Int)(x:List UInt8)(hb:s.length+x.length≤100000000000) :
 Hands X 316 [.ptr 0 0 0,str x] ⟨[[bQ (Nm 312 0 b) s ws h]],[s.length]⟩ (.tup [vi x.length,.val .nilIface]) ⟨[[bQ (.ptr 0 0 0) (s++x) ws h]],[(s++x).length]⟩:=by
 cases b
 ·exact A2k s ws h x hb
 ·exact A2j s ws h x hb
theorem sA(b:Bool)(s:List UInt8)(hb:s.length≤100000000000):Hands X 267 [.ptr 0 0 0] ⟨[[bA (Nm 310 0 b) s]],[s.length]⟩ (str s) ⟨[[bA (Nm 310 0 b) s]],[s.length+1]⟩:=by
 cases b
 ·exact A14 s hb
 ·exact A13 s hb
theorem sN(b:Bool)(s:List UInt8)(h:Int)(hb:s.length≤100000000000):Hands X 267 [.ptr 0 0 0] ⟨[[bN (Nm 312 0 b) s h]],[s.length]⟩ (str s) ⟨[[bN (Nm 312 0 b) s h]],[s.length+1]⟩:=by
 cases b
 ·exact A16 s h hb
 ·exact A15 s h hb
abbrev Lu:List (List UInt8):=[[59],[91],[93],[41]]
abbrev L4:List (List UInt8):=[[40],[91],[108,101,110],[32,45]]
def Tl(a b:List UInt8):List UInt8:=if has Lu b||has L4 a then[]else[32]
theorem A3w(a b:List UInt8):Pure X 338 [str a,str b] (str (Tl a b)):=by
 have h1:Pure X 344 [.sl (Dj Lu) .no,str b] (vb (has Lu b)):=Sv Lu b (by decide);have h2:Pure X 344 [.sl (Dj L4) .no,str a] (vb (has L4 a)):=Sv L4 a (by decide);refine Pure.run func338 ?_;refine Al h1 ?_;refine Db (fun h=>?_) (fun h=>?_)
 ·refine A1 ?_;refine Au func338 ?_;rw[Tl,if_pos (by simp[h])]
 ·refine Al h2 ?_;refine Ag (fun h3=>?_) (fun h3=>?_)
  ·have h3':has L4 a=true:=h3;refine Au func338 ?_;rw[Tl,if_pos (by simp[h3'])]
  ·have h3':has L4 a=false:=h3;refine Au func338 ?_;rw[Tl,if_neg (by simp[h,h3'])]
def Ha:List UInt8→List (List UInt8)→List UInt8
 |_,[]=>[]
 |a,b::ws=>Tl a b++J7 b [32]++Ha b ws
def Pk:List (List UInt8)→List UInt8
 |[]=>[]
 |b::ws=>J7 b [32]++Ha b ws
def Adv(ws:List (List UInt8)):Nat→List UInt8
 |0=>Pk ws
 |i+1=>Ha (ws.getD i []) (ws.drop (i+1))
theorem Ami{ws:List (List UInt8)}{i:Nat}{b:List UInt8}(h:ws[i]?=some b):Adv ws i=(match i with|0=>[]|j+1=>Tl (ws.getD j []) b)++(J7 b [32]++Adv ws (i+1)):=by
 cases i with
 |zero=>
  cases ws with
  |nil=>simp at h
  |cons c ws=>simp at h;subst h;simp[Adv,Pk]
 |succ i=>
  have hd:=B5 h;simp only[Adv];rw[hd];simp only[Ha];rw[show ws.getD (i+1) []=b by simp[List.getD,h]];simp
theorem Aqx(ws:List (List UInt8)):Adv ws ws.length=[]:=by
 cases h:ws.length with
 |zero=>rw[zzq96.1 h];rfl
 |succ n=>simp only[Adv];rw[Ad9 (by omega)];rfl
theorem A0t(b:Bool)(s:List UInt8)(ws:List (List UInt8))(h:Int)(hw:ws.length≤1000000)(hl:(Pk ws).length≤10000000000)(hwl:∀x,x∈ws→x.length≤1000000) :
 Hands X 318 [.ptr 0 0 0] ⟨[[bQ (Nm 312 0 b) s ws h]],[s.length]⟩ (str (Pk ws)) ⟨[[bQ (Nm 312 0 b) s ws h]],[s.length]⟩:=by
 refine Hands.mk (n:=1) (m:=1) func318 rfl rfl (by kernel_rfl) rfl rfl ?_;refine Ks 1 100 rfl ?_;refine Bj 1 rfl ?_;refine Bm (Akv (y:=⟨2,.str [(0,1),(1,1)],[.val (.pointer none),.sl [] .tight],[false,false]⟩) (rest:=[]) 5 rfl rfl rfl rfl rfl rfl rfl rfl rfl) ?_;refine Av (ι:=Nat×List UInt8×Bool) 2 2 (fun i=>i.1≤ws.length∧i.2.1++Adv ws i.1=Pk ws) (fun i=>[(11,vi i.1),(10,vi ws.length),(9,.sl (Dj ws) .no),(3,.ptr 1 0 0),(0,.ptr 0 0 0)])
  (fun i=>⟨[[bQ (Nm 312 0 b) s ws h],[[Nm 310 1 i.2.2,.buf 5 i.2.1 1]]],[s.length,i.2.1.length]⟩) (fun i=>ws.length-i.1) ?_ (0,[],true) ⟨Cc _,rfl⟩ ⟨rfl,by rw[←Fy];rfl,rfl,rfl,rfl,trivial⟩
 rintro⟨i,out,c⟩ ⟨hi,hT⟩ IH;simp only at hi hT IH⊢;have hol:out.length≤10000000000:=by have:=congrArg List.length hT;simp at this;omega
 refine Dh (fun h1=>?_) (fun h1=>?_)
 ·have hlt:i<ws.length:=by have:=A7 h1;omega
  obtain⟨x,hx⟩:=Ab ws hlt;have hst:=Ami hx;have hxl:=hwl x (Bh hx);refine B7 i (by omega) (Q5 hx) ?_;refine Ag (fun h2=>?_) (fun h2=>?_)
  ·obtain⟨j,rfl⟩:∃j,i=j+1:=⟨i-1,by have:=A7 h2;omega⟩
   obtain⟨a,ha⟩:=Ab ws (i:=j) (by omega);have hga:ws.getD j []=a:=by simp[List.getD,ha]
   simp only[hga]at hst;rw[hst]at hT;have hl2:=congrArg List.length hT;simp only[Es]at hl2;have hj:IntKind.i64.wrap (((j+1:Nat):Int)-1)=(j:Int):=(Ac (by omega) (by omega)).trans (by omega);refine B7 (IntKind.i64.wrap (((j+1:Nat):Int)-1)) (by rw[hj];omega) (by rw[hj];exact Q5 ha) ?_;refine Al (A3w a x) ?_;refine Ae (τ':=[1]) [1] [1] (wA c out (Tl a x) (by omega)) ?_;refine Al (Auf x [32] (by omega) (by simp)) ?_;refine Ae (τ':=[1]) [1] [1] (wA false (out++Tl a x) (J7 x [32]) (by simp;omega)) ?_;exact IH (j+1+1,out++Tl a x++J7 x [32],false) ⟨hlt,by rw[←hT];simp⟩ (by simp only;omega) _ _ ⟨vsx (by omega),rfl,rfl,rfl,rfl,trivial⟩ rfl rfl rfl
  ·have hi0:i=0:=by have:=Bd h2;omega
   subst hi0;simp only[U8]at hst;rw[hst]at hT;have hl2:=congrArg List.length hT;simp only[Es]at hl2;refine Al (Auf x [32] (by omega) (by simp)) ?_;refine Ae (τ':=[1]) [1] [1] (wA c out (J7 x [32]) (by omega)) ?_;exact IH (0+1,out++J7 x [32],false) ⟨hlt,by rw[←hT];simp⟩ (by simp only;omega) _ _ ⟨vsx (by omega),rfl,rfl,rfl,rfl,trivial⟩ rfl rfl rfl
 ·have hie:i=ws.length:=by have:=Bd h1;omega
  subst hie;rw[Aqx,G4]at hT;subst hT;refine Ae (τ':=[1]) [1] [1] (sA c (Pk ws) (by omega)) ?_;exact Br func318 rfl rfl
def Em(ws:List (List UInt8))(h:Nat):List UInt8:=List.replicate (2*h) 32++Pk ws++[10]
theorem Ow(b:Bool)(s:List UInt8)(ws:List (List UInt8))(h:Nat)(hh:h≤60)(hw:ws.length≤1000000)(hl:(Pk ws).length≤10000000000)(hs:s.length≤10000000000)(hwl:∀x,x∈ws→x.length≤1000000) :
 Hands X 299 [.ptr 0 0 0] ⟨[[bQ (Nm 312 0 b) s ws h]],[s.length]⟩ (.tup []) ⟨[[bN (.ptr 0 0 0) (s++Em ws h) h]],[(s++Em ws h).length]⟩:=by
 have hlen:(Em ws h).length≤20000000000:=by simp[Em];omega
 refine Hands.run (n:=1) (m:=1) func299 ?_;refine Hu 4096 7 ?_;refine Ja (Aue h hh) ?_;refine Ft ?_ rfl;refine A0 (Hd (τ':=[0]) [0] [0] (A0t b s ws h hw hl hwl)) ?_;refine Ek (fun S'=>Rq rfl rfl rfl rfl rfl (by simp;omega) rfl) ?_;refine Ek (fun S'=>Rq rfl rfl rfl rfl rfl (by simp;omega) rfl) ?_;refine Ch (Hd (τ':=[0]) [0] [0] (wQ b s ws h (Em ws h) (by omega))) ?_;refine B6 ?_;exact D6 func299 rfl rfl
theorem Af1:∀l:List (List UInt8),M8 (Dj l)=true
 |[]=>rfl
 |s::l=>Af1 l
theorem Ai7(b:Bool)(s:List UInt8)(ws xs:List (List UInt8))(h:Int)(hw:ws.length+xs.length≤100000000000)(h0:Nat.ble 1 (Dj xs).length=true) :
 Hands X 294 [.ptr 0 0 0,.sl (Dj xs) .no] ⟨[[bP (Nm 312 0 b) s ws h]],[s.length,ws.length]⟩ (.tup []) ⟨[[bP (Nm 312 0 b) s (ws++xs) h]],[s.length,(ws++xs).length]⟩:=by
 refine Hands.run (n:=1) (m:=2) func294 ?_;refine Bm (Bv (res:=Dj (ws++xs)) rfl rfl rfl rfl rfl rfl rfl rfl rfl rfl rfl rfl rfl rfl (Fy _) (Acb _) (Acb _) (Af1 _) h0 ?_ ?_ rfl) ?_
 ·rw[Fy,Fy];exact hw
 ·simp[Dj]
 rw[Fy,Fy,Es];exact D6 func294 rfl rfl
end Go.V
