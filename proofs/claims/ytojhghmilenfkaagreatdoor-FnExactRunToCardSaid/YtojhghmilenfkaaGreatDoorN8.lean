/- A part of the proof of the claim that the last text states: no condition of its own. -/
import Derived.Test.YtojhghmilenfkaaGreatDoorN7
set_option linter.unusedVariables false
set_option linter.unusedSimpArgs false
namespace Go.V
open Go Go.Proofs Go.Proofs.Tryz
theorem Avo(c d:UInt8)(l:List UInt8)(h1:Em c=false)(h2:digit c=false):(Di [c,d]==3)=has Kc [c,d]:=by
 rw[Add c [d] h1 h2];have:has Kc [c,d]=has Kq [c,d]:=by
  simp only[has,Kc,Kq,Ze,List.any_nil,Vf];simp
 rw[this];cases has Kq [c,d]<;>rfl
def Aw0(c:UInt8):List UInt8→Nat
 |[]=>1
 |d::_=>if has Kc [c,d]then 2 else 1
theorem Aq0(c:UInt8)(l:List UInt8)(hs:l.length≤900000000):Pure X 319 [str (c::l)] (vi (Ll (c::l))):=by
 have hsz:((⟨⟨c::l⟩⟩:ByteArray).size:Int)=l.length+1:=M9 c l;obtain⟨T,hT⟩:∃T,Gx (c::l)=T:=⟨_,rfl⟩
 have hTle:T≤l.length+1:=by rw[←hT];exact Xu _
 have hE:Ll (c::l)=if T=0 then Aw0 c l else T:=by
  by_cases h:(Em c||digit c)=true
  ·have hw:T=1+Gx l:=by rw[←hT];simp only[Gx];rw[if_pos h]
   have he:Ll (c::l)=Gx (c::l):=by simp only[Ll];rw[if_pos h]
   rw[he,hT,if_neg (by omega)]
  ·have hw:T=0:=by rw[←hT];simp only[Gx];rw[if_neg h]
   have he:Ll (c::l)=Aw0 c l:=by simp only[Ll];rw[if_neg h];cases l<;>rfl
   rw[he,if_pos hw]
 have tail:AK X ⟨319,f319,0,0⟩ (Lm false 4 f319) [(3,vi T),(0,str (c::l))] ⟨[],[]⟩ (fun e S=>e=.ret (vi (Ll (c::l)))∧S=⟨[],[]⟩):=by
  rw[hE];refine D5 ?_;refine Bi 100 rfl ?_;refine Df (fun h=>?_) (fun h=>?_)
  ·have h0:T=0:=by have:((T:Int)==0)=true:=h;simpa using this
   have hcd:Em c=false∧digit c=false:=by
    rw[h0]at hT;simp only[Gx]at hT;split at hT
    ·omega
    ·rename_i h;simpa using h
   rw[if_pos h0];cases l with
   |nil=>
    refine Ii ?_;refine Ag ?_;refine Az func319 ?_;rw[h0];rfl
   |cons d l=>
    refine Hh ?_ (ht:=Zd (by rw[hsz];simp;omega));refine Bn (Pj (l:=0) (h:=2) (r:=[c,d]) rfl rfl rfl rfl rfl rfl rfl rfl ?_ ?_ ?_ rfl) ?_
    ·omega
    ·omega
    ·simp;omega
    refine Al (Akc [c,d] (by simp)) ?_;have e:=Avo c d l hcd.1 hcd.2;refine Ah (fun h2=>?_) (fun h2=>?_)
    ·have h2':has Kc [c,d]=true:=by rw[←e];exact h2
     refine Az func319 ?_;simp[h2',C8,Aw0]
    ·have h2':has Kc [c,d]=false:=by rw[←e];exact h2
     refine Az func319 ?_;simp[h2',h0,C8,Aw0]
  ·have h0:T≠0:=by have:((T:Int)==0)=false:=h;simpa using this
   rw[if_neg h0];refine Ii ?_;refine Ag ?_;refine Az func319 ?_;simp only[C8];rw[if_neg (by omega)]
 refine Pure.run func319 ?_;refine Ar (ι:=Nat) 0 0 (fun i=>i≤l.length+1∧T=i+Gx ((c::l).drop i)) (fun i=>[(3,vi i),(0,str (c::l))]) (fun _=>⟨[],[]⟩) (fun i=>l.length+1-i) ?_ 0 ⟨B3 _,by simpa using hT.symm⟩
  ⟨rfl,rfl,trivial⟩
 rintro i ⟨hi,hTi⟩ IH;refine Bi 100 rfl ?_;refine Df (fun h=>?_) (fun h=>?_)
 ·have hlt:i<(c::l).length:=by have:=A5 h;simp;omega
  obtain⟨b,hb⟩:=Ab (c::l) hlt;rw[B6 hb]at hTi;simp only[Gx]at hTi;refine Jh i (by omega) hb ?_;refine Al (Adt b) ?_;refine Df (fun h2=>?_) (fun h2=>?_)
  ·have h2':Em b=true:=h2;refine A0 ?_;rw[h2']at hTi;exact IH (i+1) ⟨by simp at hlt;omega,by rw[hTi];simp;omega⟩ (by simp at hlt;omega) _ _ ⟨vsx (by omega),rfl,trivial⟩ rfl rfl rfl
  ·have h2':Em b=false:=h2;refine Jh i (by omega) hb ?_;refine Al (Aic b) ?_;refine Ey 0 4 (fun h3=>?_) (fun h3=>?_)
   ·have h3':digit b=true:=h3;rw[h3']at hTi;refine Bi 100 rfl ?_;exact IH (i+1) ⟨by simp at hlt;omega,by rw[hTi];simp;omega⟩ (by simp at hlt;omega) _ _ ⟨vsx (by omega),rfl,trivial⟩ rfl rfl rfl
   ·have h3':digit b=false:=h3;rw[h2',h3']at hTi;have hTi':T=i:=by simpa using hTi
    rw[hTi']at tail;exact Bz 0 0 tail ⟨rfl,rfl,trivial⟩ rfl rfl rfl rfl rfl
 ·have hie:i=(c::l).length:=by have:=Ba h;simp;omega
  rw[hie,Hz]at hTi;have hTi':T=i:=by rw[hie,hTi];rfl
  rw[hTi']at tail;refine Ey 0 4 (fun h3=>?_) (fun h3=>?_)
  ·cases h3
  ·exact Bz 0 0 tail ⟨rfl,rfl,trivial⟩ rfl rfl rfl rfl rfl
theorem Ayt(s:List UInt8)(hs:s.length≤900000000):Pure X 300 [str s] (.tup [.sl (Hk (C4 s).1) .no,.agg [vi (C4 s).2.1,vi (C4 s).2.2]]):=by
 refine Pure.run func300 ?_;refine Ah (fun h=>?_) (fun h=>?_)
 ·have:s.length>4000:=by have:=A5 h;rw[F9]at this;omega
  refine If 2 (.sl [] .tight) ?_;refine As func300 ?_;simp only[C4];rw[if_pos this];rfl
 have hlen:¬s.length>4000:=by have:=Ba h;rw[F9]at this;omega
 generalize hT:C4 s=T;have hT':T=Hg (s.length+1) (Cd false s) (s.drop (Cd false s)) []:=by rw[←hT];simp only[C4];rw[if_neg hlen]
 refine N2 (d:=4) rfl rfl rfl ?_;refine Ar (ι:=Nat×List Wd) 1 1 (fun i=>i.1≤s.length∧i.2.length≤1500∧∃f,s.length-i.1<f∧T=Hg f (i.1+Cd false (s.drop i.1)) (s.drop (i.1+Cd false (s.drop i.1))) i.2)
  (fun i=>[(5,vi i.1),(4,.sl (Hk i.2) (.tok 0)),(0,str s),(3,.ptr 0 0 0)]) (fun i=>⟨[[[vi 0,vi 0]]],[i.2.length]⟩) (fun i=>s.length-i.1) ?_ (0,[]) ⟨B3 _,B3 _,s.length+1,by simp,by simpa using hT'⟩
  ⟨rfl,rfl,rfl,rfl,trivial⟩
 rintro⟨a,out⟩ ⟨ha,hout,f,hf,hTa⟩ IH;simp only at ha hout hf hTa IH⊢;refine C7 (fun h=>?_) (fun h=>?_)
 ·have hlt:a<s.length:=by have:=A5 h;rw[F9]at this;omega
  obtain⟨c,hc⟩:=Ab s hlt;have hd:=B6 hc;refine Jh a (by omega) hc ?_;have white:(c==32||c==10)=true→T=Hg f (a+1+Cd false (s.drop (a+1))) (s.drop (a+1+Cd false (s.drop (a+1)))) out:=fun hw=>by
   have e:Cd false (s.drop a)=1+Cd false (s.drop (a+1)):=by rw[hd];simp only[Cd];rw[if_pos hw]
   rw[hTa,e,show a+(1+Cd false (s.drop (a+1)))=a+1+Cd false (s.drop (a+1)) by omega]
  refine Ah (fun h1=>?_) (fun h1=>?_)
  ·have h1':(c==32)=true:=by rw[←cb];exact h1
   exact IH (a+1,out) ⟨by simp only;omega,hout,f,by simp only;omega,white (by rw[h1'];rfl)⟩ (by simp only;omega) _ _ ⟨vsx (by omega),rfl,rfl,rfl,trivial⟩ rfl rfl rfl
  have h1':(c==32)=false:=by rw[←cb];exact h1
  refine Ah (fun h2=>?_) (fun h2=>?_)
  ·have h2':(c==10)=true:=by rw[←cb];exact h2
   exact IH (a+1,out) ⟨by simp only;omega,hout,f,by simp only;omega,white (by rw[h2'];simp)⟩ (by simp only;omega) _ _ ⟨vsx (by omega),rfl,rfl,rfl,trivial⟩ rfl rfl rfl
  have h2':(c==10)=false:=by rw[←cb];exact h2
  refine Ah (fun h3=>?_) (fun h3=>?_)
  ·have h3':(c==35)=true:=by rw[←cb];exact h3
   have hE:Cd false (s.drop a)=Cd true (s.drop a):=by rw[hd];simp only[Cd];rw[if_neg (by simp[h1',h2']),if_pos h3',if_neg (by simp[h2'])]
   rw[hE]at hTa;refine Ar (ι:=Nat) 1 1 (fun i=>a≤i∧i≤s.length∧T=Hg f (i+Cd true (s.drop i)) (s.drop (i+Cd true (s.drop i))) out) (fun i=>[(5,vi i),(4,.sl (Hk out) (.tok 0)),(0,str s),(3,.ptr 0 0 0)])
    (fun _=>⟨[[[vi 0,vi 0]]],[out.length]⟩) (fun i=>s.length-i) ?_ a ⟨Bo _,ha,hTa⟩ ⟨rfl,rfl,rfl,rfl,trivial⟩
   rintro i ⟨hai,hi,hTi⟩ IH2;refine Bi 100 rfl ?_;refine Df (fun h4=>?_) (fun h4=>?_)
   ·have hlt2:i<s.length:=by have:=A5 h4;rw[F9]at this;omega
    obtain⟨b,hb⟩:=Ab s hlt2;have hd2:=B6 hb;refine Jh i (by omega) hb ?_;refine Ah (fun h5=>?_) (fun h5=>?_)
    ·have h5':(b==10)=false:=by
      have:(!((b.toNat:Int)==10))=true:=h5;rw[←cb];simpa using this
     have e:Cd true (s.drop i)=1+Cd true (s.drop (i+1)):=by rw[hd2];simp only[Cd];rw[if_neg (by simp[h5'])]
     exact IH2 (i+1) ⟨by omega,by omega,by rw[hTi,e,show i+(1+Cd true (s.drop (i+1)))=i+1+Cd true (s.drop (i+1)) by omega]⟩ (by omega) _ _ ⟨vsx (by omega),rfl,rfl,rfl,trivial⟩ rfl rfl rfl
    ·have h5':(b==10)=true:=by
      have:(!((b.toNat:Int)==10))=false:=h5;rw[←cb];simpa using this
     have e:Cd true (s.drop i)=Cd false (s.drop i):=by rw[hd2];simp only[Cd];rw[if_pos h5',if_pos (by rw[h5'];simp)]
     have hne:a≠i:=by
      rintro rfl;rw[hc]at hb;cases hb;rw[h5']at h2';cases h2'
     exact IH (i,out) ⟨by simp only;omega,hout,f,by simp only;omega,by rw[e]at hTi;exact hTi⟩ (by simp only;omega) _ _ ⟨rfl,rfl,rfl,rfl,trivial⟩ rfl rfl rfl
   ·have hie:i=s.length:=by have:=Ba h4;rw[F9]at this;omega
    have e:Cd true (s.drop i)=Cd false (s.drop i):=by rw[hie,Hz];rfl
    refine Ag ?_;exact IH (i,out) ⟨by simp only;omega,hout,f,by simp only;omega,by rw[e]at hTi;exact hTi⟩ (by simp only;omega) _ _ ⟨rfl,rfl,rfl,rfl,trivial⟩ rfl rfl rfl
  have h3':(c==35)=false:=by rw[←cb];exact h3
  have h0:Cd false (s.drop a)=0:=by rw[hd];simp only[Cd];rw[if_neg (by simp[h1',h2']),if_neg (by simp[h3'])]
  rw[h0,Px]at hTa;obtain⟨g,rfl⟩:∃g,f=g+1:=⟨f-1,by omega⟩
  obtain⟨n,hn⟩:∃n,Ll (s.drop a)=n:=⟨_,rfl⟩
  have hbd:=Anu c (s.drop (a+1));rw[←hd,hn]at hbd;have hdl:(s.drop a).length=s.length-a:=by simp
  rw[hdl]at hbd;obtain⟨t,ht⟩:∃t,(s.drop a).take n=t:=⟨_,rfl⟩
  have htl:t.length=n:=by rw[←ht];simp;omega
  have hstep:T=if Di t==0 then([],2,a)else if out.length==1500 then([],3,a)else
   Hg g (a+n+Cd false (s.drop (a+n))) (s.drop (a+n+Cd false (s.drop (a+n)))) (out++[⟨Di t,t,a⟩]):=by
   rw[hTa]
   conv=>lhs;unfold Hg
   rw[hd];simp only;rw[←hd,hn,ht,Aed,Aed];rw[show a+(n+Cd false (s.drop (a+n)))=a+n+Cd false (s.drop (a+n)) by omega]
  have hlong:Pure X 319 [str (s.drop a)] (vi n):=by
   have:=Aq0 c (s.drop (a+1)) (by simp;omega);rw[←hd,hn]at this;exact this
  refine Bn (Pj (l:=(a:Int)) (h:=(s.length:Int)) (r:=s.drop a) rfl rfl rfl rfl rfl rfl rfl rfl ?_ ?_ ?_ ?_) ?_
  ·omega
  ·omega
  ·omega
  ·simp
  refine Al hlong ?_;have hwr:IntKind.i64.wrap ((a:Int)+(n:Int))=(a+n:Nat):=(Ac (by omega) (by omega)).trans (by omega);refine Bn (Pj (l:=(a:Int)) (h:=IntKind.i64.wrap ((a:Int)+(n:Int))) (r:=t) rfl rfl rfl rfl rfl rfl rfl rfl ?_ ?_ ?_ ?_) ?_
  ·omega
  ·rw[hwr];omega
  ·rw[hwr];omega
  ·rw[hwr,←ht];rw[show ((a+n:Nat):Int).toNat=a+n by omega,show ((a:Nat):Int).toNat=a by omega,List.drop_take,show a+n-a=n by omega]
  refine Al (Akc t (by omega)) ?_;refine Ah (fun h4=>?_) (fun h4=>?_)
  ·have h4':(Di t==0)=true:=h4;refine If 2 (.sl [] .tight) ?_;refine As func300 ?_;rw[hstep,h4'];rfl
  have h4':(Di t==0)=false:=h4;refine Ah (fun h5=>?_) (fun h5=>?_)
  ·have h5':(out.length==1500)=true:=by
    have:(((Hk out).length:Int)==1500)=true:=h5;rw[D2]at this;simp at this⊢;omega
   refine If 2 (.sl [] .tight) ?_;refine As func300 ?_;rw[hstep,h4',h5'];rfl
  have h5':(out.length==1500)=false:=by
   have:(((Hk out).length:Int)==1500)=false:=h5;rw[D2]at this;simp at this⊢;omega
  have h5'':out.length≠1500:=by simpa using h5'
  refine Bn (Bu (res:=Hk (out++[⟨Di t,t,a⟩])) rfl rfl rfl rfl rfl rfl rfl rfl rfl rfl rfl rfl rfl rfl (D2 out) (Ad7 out) rfl rfl rfl ?_ ?_ rfl) ?_
  ·rw[D2];simp;omega
  ·simp[Hk,U8]
  have hst:((⟨⟨t⟩⟩:ByteArray).size:Int)=n:=by rw[F9,htl]
  refine IH (a+n,out++[⟨Di t,t,a⟩]) ⟨by simp only;omega,by simp;omega,g,by simp only;omega,by rw[hstep,h4',h5'];rfl⟩ (by simp only;omega) _ _ ⟨?_,rfl,rfl,rfl,trivial⟩ ?_ rfl rfl
  ·exact Ci (by rw[hst];exact hwr)
  ·simp[St.drop,D2]
 ·have hae:a=s.length:=by have:=Ba h;rw[F9]at this;omega
  refine As func300 ?_;obtain⟨g,rfl⟩:∃g,f=g+1:=⟨f-1,by omega⟩
  rw[hTa,hae,Hz];simp only[Cd,Px,Hz];rfl
def pc(r:RS)(e:Nat):List AV:=[.sl (Hk (r.ws.drop r.at_)) .no,vi e]
instance{n m:Nat}{r:RS}{e:Nat}:OKL n m (pc r e):=⟨fun x hx=>by
 simp[pc]at hx;rcases hx with rfl|rfl
 ·exact .sl _ _ (fun q hq y hy=>(inferInstance:OKR n m (Hk _)).ok q hq y hy) (fun t ht=>by cases ht)
 ·exact .val _⟩
def pan(p:Nat):List PanicEntry:=[{ v:=.iface 345 (.agg ⟨[.int .i64 p]⟩),recovered:=false }]
theorem Ae5{r:RS}{w:Wd}(h:r.ws[r.at_]?=some w):r.ws.drop r.at_=w::r.ws.drop (r.at_+1):=B6 h
theorem Sb(r:RS)(e:Nat):Hands X 346 [.ptr 0 0 0] ⟨[[pc r e]],[]⟩ (.agg [vi r.kind,str r.text,vi (r.place e)]) ⟨[[pc r e]],[]⟩:=by
 cases hw:r.ws[r.at_]? with
 |none=>
  have hd:r.ws.drop r.at_=[]:=Aef (by have:=List.getElem?_eq_none_iff.1 hw;omega);have hp:pc r e=[.sl [] .no,vi e]:=by simp[pc,hd,Hk]
  simp only[RS.kind,RS.text,RS.place,hw];rw[hp];refine Hands.run func346 ?_;refine A0 ?_;exact Bq func346 rfl rfl
 |some w=>
  have hp:pc r e=[.sl (Hk (w::r.ws.drop (r.at_+1))) .no,vi e]:=by simp only[pc,Ae5 hw]
  simp only[RS.kind,RS.text,RS.place,hw];rw[hp];refine Hands.run func346 ?_;refine Ag ?_ (ht:=by simp[Hk];omega);refine B4 0 (by omega) (r:=U8 w) rfl ?_;exact Bq func346 rfl rfl
theorem Yj(r:RS)(e:Nat):Throws X 322 [.ptr 0 0 0] ⟨[[pc r e]],[]⟩ (pan (r.place e)) ⟨[[pc r e]],[]⟩:=by
 refine Throws.run func322 ?_;refine Ae [0] [] (Sb r e) ?_;refine Bn Apl ?_;exact Fu func322 Thr.go rfl
theorem A1h(r:RS)(e:Nat)(s:List UInt8):Hands X 347 [.ptr 0 0 0,str s] ⟨[[pc r e]],[]⟩ (vb (r.text==s)) ⟨[[pc r e]],[]⟩:=by
 refine Hands.run func347 ?_;refine Ae [0] [] (Sb r e) ?_;exact Bq func347 rfl rfl
theorem Z3(r:RS)(e:Nat)(h:r.at_<r.ws.length):Hands X 348 [.ptr 0 0 0] ⟨[[pc r e]],[]⟩ (.agg [vi r.kind,str r.text,vi (r.place e)]) ⟨[[pc r.step e]],[]⟩:=by
 obtain⟨w,hw⟩:=Ab r.ws h;refine Hands.run func348 ?_;refine Ae [0] [] (Sb r e) ?_;refine Bn (Aby (l:=1) (h:=((Hk (r.ws.drop r.at_)).length:Int)) (r:=Hk (r.ws.drop (r.at_+1))) rfl rfl rfl rfl rfl rfl rfl rfl rfl ?_ ?_ ?_ ?_ ?_) ?_
 ·omega
 ·rw[D2];simp;omega
 ·omega
 ·exact Ad7 _
 ·rw[Hl,I2,Ae5 hw];rfl
 exact Bq func348 rfl rfl
theorem Jw{r:RS}(h:r.bad=false)(s:List UInt8):r.takes s=(r.text==s):=by simp[RS.takes,h]
theorem I4(r:RS)(e:Nat)(s:List UInt8)(hb:r.bad=false)(hs:s≠[]):Hands X 323 [.ptr 0 0 0,str s] ⟨[[pc r e]],[]⟩ (vb (r.takes s)) ⟨[[pc (r.take s) e]],[]⟩:=by
 refine Hands.run func323 ?_;refine Ae [0] [] (A1h r e s) ?_;refine Ah (fun h=>?_) (fun h=>?_)
 ·have h':r.takes s=false:=by rw[Jw hb];have:(!(r.text==s))=true:=h;simpa using this
  have ht:r.take s=r:=by simp[RS.take,h']
  rw[h',ht];exact Bq func323 rfl rfl
 ·have h':r.takes s=true:=by rw[Jw hb];have:(!(r.text==s))=false:=h;simpa using this
  have ht:r.take s=r.step:=by simp[RS.take,h']
  rw[h',ht];refine Ae [0] [] (Z3 r e (Ay h' hs).1) ?_;exact Bq func323 rfl rfl
def RS.needs(r:RS)(l:List (List UInt8)):RS:=l.foldl RS.need r
theorem Adp{r:RS}{s:List UInt8}(h:r.takes s=false)(e:Nat):(r.need s).place e=r.place e:=by simp[RS.need,h,RS.spoil,RS.place]
theorem Aot{r:RS}{s:List UInt8}(h:r.takes s=false)(e:Nat):pc (r.need s) e=pc r e:=by simp[RS.need,h,RS.spoil,pc]
theorem Cm{r:RS}(h:r.bad=true)(s:List UInt8):r.need s=r:=by
 obtain⟨ws,a,b⟩:=r;simp only at h;subst h;simp[RS.need,RS.takes,RS.spoil]
theorem Aqp{r:RS}(h:r.bad=true):∀l:List (List UInt8),r.needs l=r:=by
 intro l
 induction l with
 |nil=>rfl
 |cons s l ih=>show (r.need s).needs l=r;rw[Cm h s,ih]
theorem Agi(r0:RS)(e:Nat)(l:List (List UInt8))(hl:l.length≤1000)(hne:∀s,s∈l→s≠[])(hb0:r0.bad=false)(R:AE→St→Prop)
 (h1:(r0.needs l).bad=false→R (.ret (.tup [])) ⟨[[pc (r0.needs l) e]],[]⟩)(hp:(r0.needs l).bad=true→R (.panic (pan ((r0.needs l).place e))) ⟨[[pc (r0.needs l) e]],[]⟩) :
 AK X ⟨325,f325,1,0⟩ (Lm false 0 f325) [(0,.ptr 0 0 0),(1,.sl (Dl l) .no)] ⟨[[pc r0 e]],[]⟩ R:=by
 refine D5 ?_;refine Bi 100 rfl ?_;refine Ar (ι:=Nat×RS) 1 0 (fun i=>i.1≤l.length∧i.2.bad=false∧r0.needs l=i.2.needs (l.drop i.1)) (fun i=>[(8,vi i.1),(7,vi l.length),(6,.sl (Dl l) .no),(0,.ptr 0 0 0)]) (fun i=>⟨[[pc i.2 e]],[]⟩) (fun i=>l.length-i.1) ?_ (0,r0)
  ⟨B3 _,hb0,rfl⟩ ⟨rfl,by rw[←F6];rfl,rfl,rfl,trivial⟩
 rintro⟨i,r⟩ ⟨hi,hb,hN⟩ IH;simp only at hi hb hN IH⊢;refine C7 (fun h=>?_) (fun h=>?_)
 ·have hlt:i<l.length:=by have:=A5 h;omega
  obtain⟨s,hsg⟩:=Ab l hlt;have hs:=hne s (Bh hsg);rw[B6 hsg]at hN;have hN':r0.needs l=(r.need s).needs (l.drop (i+1)):=hN;refine B4 i (by omega) (Q5 hsg) ?_;refine Ae [0] [] (I4 r e s hb hs) ?_;refine Ah (fun h3=>?_) (fun h3=>?_)
  ·have h2':r.takes s=false:=by have:(!r.takes s)=true:=h3;simpa using this
   have ht:r.take s=r:=by simp[RS.take,h2']
   have hbad:(r.need s).bad=true:=by simp[RS.need,h2',RS.spoil]
   rw[Aqp hbad]at hN';rw[ht];rw[hN']at hp;refine Arw (B:=⟨325,f325,1,0⟩) func325 (Thr.hd [0] [] (Yj r e)) 0 (Bo _) (fun rows hr=>?_) ?_
   ·have e:rows=[pc r e]:=by simpa[upd]using hr
    subst e;exact(inferInstance:OKR 1 0 [pc r _]).ok
   ·have:=hp hbad;rw[Adp h2',Aot h2']at this;exact this
  ·have h2':r.takes s=true:=by have:(!r.takes s)=false:=h3;simpa using this
   have ht:r.take s=r.need s:=by simp[RS.take,RS.need,h2']
   have hb':(r.need s).bad=false:=by simp[RS.need,h2',RS.step,hb]
   rw[ht];exact IH (i+1,r.need s) ⟨hlt,hb',hN'⟩ (by simp only;omega) _ _ ⟨vsx (by omega),rfl,rfl,rfl,trivial⟩ rfl rfl rfl
 ·have hie:i=l.length:=by have:=Ba h;omega
  rw[hie,Hz]at hN;have hN':r0.needs l=r:=hN;rw[hN']at h1;refine Anb (B:=⟨325,f325,1,0⟩) func325 rfl 0 (Bo _) (.same _ (.tup [] (fun x hx=>by cases hx))) (fun rows hr=>?_) ?_
  ·have e:rows=[pc r e]:=by simpa[upd]using hr
   subst e;exact(inferInstance:OKR 1 0 [pc r _]).ok
  ·exact h1 hb
theorem Al2(r:RS)(e:Nat)(l:List (List UInt8))(hl:l.length≤1000)(hne:∀s,s∈l→s≠[])(hb:r.bad=false)(h:(r.needs l).bad=false) :
 Hands X 325 [.ptr 0 0 0,.sl (Dl l) .no] ⟨[[pc r e]],[]⟩ (.tup []) ⟨[[pc (r.needs l) e]],[]⟩:=by
 refine Hands.mk func325 rfl rfl (by kernel_rfl) rfl rfl ?_;refine Kv 0 100 rfl ?_;exact Agi r e l hl hne hb _ (fun _=>⟨rfl,rfl⟩) (fun hc=>by rw[h]at hc;cases hc)
theorem Ahp(r:RS)(e:Nat)(l:List (List UInt8))(hl:l.length≤1000)(hne:∀s,s∈l→s≠[])(hb:r.bad=false)(h:(r.needs l).bad=true) :
 Throws X 325 [.ptr 0 0 0,.sl (Dl l) .no] ⟨[[pc r e]],[]⟩ (pan ((r.needs l).place e)) ⟨[[pc (r.needs l) e]],[]⟩:=by
 refine⟨⟨_,func325,by kernel_rfl,rfl⟩,Jq (n:=1) (m:=0) func325 rfl rfl rfl rfl ?_⟩;refine Kv 0 100 rfl ?_;exact Agi r e l hl hne hb _ (fun hc=>by rw[h]at hc;cases hc) (fun _=>⟨rfl,rfl⟩)
theorem Ly(r:RS)(e:Nat)(s:List UInt8)(hs:s≠[])(hb:r.bad=false)(h:(r.need s).bad=false) :
 Hands X 325 [.ptr 0 0 0,.sl [[str s]] .no] ⟨[[pc r e]],[]⟩ (.tup []) ⟨[[pc (r.need s) e]],[]⟩:=Al2 r e [s] (by simp) (by simpa using hs) hb h
theorem Jv(r:RS)(e:Nat)(s:List UInt8)(hs:s≠[])(hb:r.bad=false)(h:(r.need s).bad=true) :
 Throws X 325 [.ptr 0 0 0,.sl [[str s]] .no] ⟨[[pc r e]],[]⟩ (pan ((r.need s).place e)) ⟨[[pc (r.need s) e]],[]⟩:=Ahp r e [s] (by simp) (by simpa using hs) hb h
theorem Afq{r:RS}(hb:r.bad=false):r.named=(r.kind==1):=by simp[RS.named,hb]
theorem Xb(r:RS)(e:Nat)(hb:r.bad=false)(h:r.nameR.bad=false):Hands X 324 [.ptr 0 0 0] ⟨[[pc r e]],[]⟩ (str r.name) ⟨[[pc r.nameR e]],[]⟩:=by
 have hn:r.named=true:=by
  cases hn:r.named with
  |true=>rfl
  |false=>simp[RS.nameR,hn,RS.spoil]at h
 have hk:(r.kind==1)=true:=by rw[←Afq hb];exact hn
 have hlt:r.at_<r.ws.length:=Se (by have:r.kind=1:=by simpa using hk
                                    omega)
 have e1:r.name=r.text:=by simp[RS.name,hn]
 have e2:r.nameR=r.step:=by simp[RS.nameR,hn]
 rw[e1,e2];refine Hands.run func324 ?_;refine Ae [0] [] (Sb r e) ?_;refine Ag ?_ (ht:=by simpa using hk);refine Ae [0] [] (Z3 r e hlt) ?_;exact Bq func324 rfl rfl
theorem Sa(r:RS)(e:Nat)(hb:r.bad=false)(h:r.nameR.bad=true):Throws X 324 [.ptr 0 0 0] ⟨[[pc r e]],[]⟩ (pan (r.nameR.place e)) ⟨[[pc r.nameR e]],[]⟩:=by
 have hn:r.named=false:=by
  cases hn:r.named with
  |false=>rfl
  |true=>simp[RS.nameR,hn,RS.step,hb]at h
 have hk:(r.kind==1)=false:=by rw[←Afq hb];exact hn
 have e1:r.nameR.place e=r.place e:=by simp[RS.nameR,hn,RS.spoil,RS.place]
 have e2:pc r.nameR e=pc r e:=by simp[RS.nameR,hn,RS.spoil,pc]
 rw[e1,e2];refine Throws.run func324 ?_;refine Ae [0] [] (Sb r e) ?_;refine A0 ?_ (ht:=by simpa using hk);exact Fu func324 (Thr.hd [0] [] (Yj r e)) rfl
theorem Az2(r:RS)(e:Nat)(hw:r.wk)(hk:r.kind=2):Hands X 326 [.ptr 0 0 0] ⟨[[pc r e]],[]⟩ (vi (Dp r.text)) ⟨[[pc r.step e]],[]⟩:=by
 have hlt:r.at_<r.ws.length:=Se (by omega);have hkt:=Oj hw (by omega);obtain⟨n,hn,hs,hv⟩:=(Pr r.text).1 (Z6 (by rw[←hkt];exact hk));have hr:=Af0 hn hs;have hlen:r.text.length≤1000000000:=by rw[hs];have:=Vm n hn;omega
 have hN:=Afy r.text hlen;rw[hr.2,←hv]at hN;refine Hands.run func326 ?_;refine Ae [0] [] (Sb r e) ?_;refine Ag ?_ (ht:=by simp[hk]);refine Ae [0] [] (Z3 r e hlt) ?_;refine Al hN ?_;exact Bq func326 rfl rfl
theorem A1i(r:RS)(e:Nat)(hk:r.kind≠2):Throws X 326 [.ptr 0 0 0] ⟨[[pc r e]],[]⟩ (pan (r.place e)) ⟨[[pc r e]],[]⟩:=by
 refine Throws.run func326 ?_;refine Ae [0] [] (Sb r e) ?_;refine A0 ?_ (ht:=by simpa using hk);exact Fu func326 (Thr.hd [0] [] (Yj r e)) rfl
theorem Axg(r:RS)(e:Nat)(n:Nd)(hb:r.bad=false)(h:(r.need [59]).bad=false):Hands X 349 [.ptr 0 0 0,nd n] ⟨[[pc r e]],[]⟩ (nd n) ⟨[[pc (r.need [59]) e]],[]⟩:=by
 refine Hands.run func349 ?_;refine Ae [0] [] (Ly r e [59] (by simp) hb h) ?_;exact Bq func349 rfl rfl
theorem Atf(r:RS)(e:Nat)(n:Nd)(hb:r.bad=false)(h:(r.need [59]).bad=true):Throws X 349 [.ptr 0 0 0,nd n] ⟨[[pc r e]],[]⟩ (pan ((r.need [59]).place e)) ⟨[[pc (r.need [59]) e]],[]⟩:=by
 refine Throws.run func349 ?_;exact Fu func349 (Thr.hd [0] [] (Jv r e [59] (by simp) hb h)) rfl
def Rp(T:Nd×RS)(e:Nat):AE→St→Prop:=fun ae S=>ae=(if T.2.bad then .panic (pan (T.2.place e))else .ret (nd T.1))∧S=⟨[[pc T.2 e]],[]⟩
theorem Ka{n:Nd}{q:RS}{e:Nat}(h:q.bad=false):Rp (n,q) e=fun ae S=>ae=.ret (nd n)∧S=⟨[[pc q e]],[]⟩:=by funext ae S;simp[Rp,h]
theorem Da{n:Nd}{q:RS}{e:Nat}(h:q.bad=true):Rp (n,q) e=fun ae S=>ae=.panic (pan (q.place e))∧S=⟨[[pc q e]],[]⟩:=by funext ae S;simp[Rp,h]
structure GoesI (f:FuncId)(T:Nd×RS)(r:RS)(e:Nat):Prop where
 ok:T.2.bad=false→Hands X f [.ptr 0 0 0] ⟨[[pc r e]],[]⟩ (nd T.1) ⟨[[pc T.2 e]],[]⟩
 bad:T.2.bad=true→Throws X f [.ptr 0 0 0] ⟨[[pc r e]],[]⟩ (pan (T.2.place e)) ⟨[[pc T.2 e]],[]⟩
theorem GoesI.run{f:FuncId}{fn:Func}{c:Code}{T:Nd×RS}{r:RS}{e:Nat}{K:List Item}{F':C5}{S2:St}(hf:X.P.funcs[f]?=some fn)(h:AK X ⟨f,fn,1,0⟩ K F' S2 (Rp T e))(hb:fn.body=some c:=by rfl)
 (hl:Nat.ble 1 fn.ntmps=true:=by rfl)(hnm:(fn.name == "runtime.NumGoroutine")=false:=by kernel_rfl)(he:Go.V.ev X fn.ntmps 200 [.code c] [(0,.ptr 0 0 0)] ⟨[[pc r e]],[]⟩=(K,F',S2):=by rfl):GoesI f T r e:=by
 obtain⟨n,q⟩:=T;refine⟨fun hg=>?_,fun hg=>?_⟩
 ·rw[Ka hg]at h;exact Hands.mk hf hb hl hnm rfl rfl (Bi 200 he h)
 ·rw[Da hg]at h;exact⟨⟨fn,hf,hnm,by rw[hb];rfl⟩,Jq hf hb hl rfl rfl (Bi 200 he h)⟩
theorem Aqn{r:RS}(h:r.bad=true):r.nameR=r:=by
 obtain⟨ws,a,b⟩:=r;simp only at h;subst h;simp[RS.nameR,RS.named,RS.spoil]
theorem Aar{f:Nat}{x:Nd}{r:RS}(h:r.bad=true):Hy f x r=(x,r):=by
 cases f with
 |zero=>rfl
 |succ f=>simp only[Hy];rw[if_neg (by simp[Du h])]
theorem Vn{f:Nat}{x:Nd}{r:RS}(h:r.bad=true):G6 f x r=(x,r):=by
 cases f with
 |zero=>rfl
 |succ f=>simp only[G6];rw[if_neg (by simp[Du h]),if_neg (by simp[Du h])]
theorem B7{b:Bool}(h:¬b=false):b=true:=by cases b<;>simp at h⊢
theorem Es{r:RS}{s:List UInt8}(h:r.takes s=true):r.take s=r.step:=by simp[RS.take,h]
theorem Fs{r:RS}{s:List UInt8}(h:r.takes s=false):r.take s=r:=by simp[RS.take,h]
theorem Q6{r:RS}{s s':List UInt8}(h:r.takes s=true)(hne:s≠s'):r.takes s'=false:=by
 simp only[RS.takes,Ml,Pe,Ago,zzq54]at h;simp only[RS.takes,h.1,h.2,Bool.false_or];simpa using hne
def Av9(f:Nat):Prop:=∀(r:RS)(e:Nat),r.ok→r.wk→r.bad=false→4*r.left+1≤f→GoesI 378 (Fi f r) r e
def Asb(f:Nat):Prop:=∀(r:RS)(e:Nat),r.ok→r.wk→r.bad=false→4*r.left+2≤f→GoesI 367 (Ek f r) r e
def Ar9(f:Nat):Prop:=∀(r:RS)(e:Nat),r.ok→r.wk→r.bad=false→4*r.left+3≤f→GoesI 352 (Ez f r) r e
theorem A3y(f:Nat)(i1:∀g,g<f→Av9 g)(i4:∀g,g<f→Ar9 g):Av9 f:=by
 intro r e ho hw hb hf;obtain⟨g,rfl⟩:∃g,f=g+1:=⟨f-1,by omega⟩
 refine GoesI.run func378 ?_;have hM:Fi (g+1) r=if r.takes [45]then(.mk 5 [] 0 [(Fi g r.step).1],(Fi g r.step).2)
  else if r.kind==2 then(.mk 1 [] (Dp r.text) [],r.step)
  else if r.takes [40]then((Ez g r.step).1,(Ez g r.step).2.need [41])
  else if r.takes [108,101,110]then(.mk 4 (r.step.need [40]).name 0 [],(r.step.need [40]).nameR.need [41])
  else if r.nameR.takes [91]then(.mk 3 r.name 0 [(Ez g r.nameR.step).1],(Ez g r.nameR.step).2.need [93])
  else(.mk 2 r.name 0 [],r.nameR):=by simp only[Fi];rw[if_neg (by simp[hb])]
 rw[hM];refine Ae [0] [] (I4 r e [45] hb (by simp)) ?_;refine Ah (fun h1=>?_) (fun h1=>?_)
 ·have h1':r.takes [45]=true:=h1;have hl:=(Ay h1' (by simp)).1;have ls:=Ca hl;have s:=Aj hl;rw[if_pos h1',Es h1'];have ih:=i1 g (by omega) r.step e (s.ok ho) (s.wk hw) hb (by omega);by_cases hg:(Fi g r.step).2.bad=false
  ·rw[Ka hg];refine Ae [0] [] (ih.ok hg) ?_;rw[Lh];exact Bq func378 rfl rfl
  ·have hg:=B7 hg;rw[Da hg];exact Fu func378 (Thr.hd [0] [] (ih.bad hg)) rfl
 have h1':r.takes [45]=false:=h1;rw[if_neg (by simp[h1']),Fs h1'];refine Ae [0] [] (Sb r e) ?_;refine Ah (fun h2=>?_) (fun h2=>?_)
 ·have h2':(r.kind==2)=true:=h2;rw[if_pos h2',Ka (show r.step.bad=false from hb)];refine Ae [0] [] (Az2 r e hw (by simpa using h2')) ?_;exact Bq func378 rfl rfl
 have h2':(r.kind==2)=false:=h2;rw[if_neg (by simp[h2'])];refine Ae [0] [] (I4 r e [108,101,110] hb (by simp)) ?_;refine Ah (fun h3=>?_) (fun h3=>?_)
 ·have h3':r.takes [108,101,110]=true:=h3;have hn:=Q6 (s':=[40]) h3' (by simp);have hl:=(Ay h3' (by simp)).1;have s:=Aj hl;rw[if_neg (by simp[hn]),if_pos h3',Es h3'];have hb1:r.step.bad=false:=hb;by_cases g1:(r.step.need [40]).bad=false
  ·refine Ae [0] [] (Ly r.step e [40] (by simp) hb1 g1) ?_;by_cases g2:(r.step.need [40]).nameR.bad=false
   ·refine Ae [0] [] (Xb (r.step.need [40]) e g1 g2) ?_;by_cases g3:((r.step.need [40]).nameR.need [41]).bad=false
    ·rw[Ka g3];refine Ae [0] [] (Ly (r.step.need [40]).nameR e [41] (by simp) g2 g3) ?_;exact Bq func378 rfl rfl
    ·have g3:=B7 g3;rw[Da g3];exact Fu func378 (Thr.hd [0] [] (Jv (r.step.need [40]).nameR e [41] (by simp) g2 g3)) rfl
   ·have g2:=B7 g2;rw[Cm g2,Da g2];exact Fu func378 (Thr.hd [0] [] (Sa (r.step.need [40]) e g1 g2)) rfl
  ·have g1:=B7 g1;rw[Aqn g1,Cm g1,Da g1];exact Fu func378 (Thr.hd [0] [] (Jv r.step e [40] (by simp) hb1 g1)) rfl
 have h3':r.takes [108,101,110]=false:=h3;rw[Fs h3'];refine Ae [0] [] (I4 r e [40] hb (by simp)) ?_;refine Ah (fun h4=>?_) (fun h4=>?_)
 ·have h4':r.takes [40]=true:=h4;have hl:=(Ay h4' (by simp)).1;have ls:=Ca hl;have s:=Aj hl;rw[if_pos h4',Es h4'];have ih:=i4 g (by omega) r.step e (s.ok ho) (s.wk hw) hb (by omega);by_cases g1:(Ez g r.step).2.bad=false
  ·refine Ae [0] [] (ih.ok g1) ?_;by_cases g2:((Ez g r.step).2.need [41]).bad=false
   ·rw[Ka g2];refine Ae [0] [] (Ly (Ez g r.step).2 e [41] (by simp) g1 g2) ?_;exact Bq func378 rfl rfl
   ·have g2:=B7 g2;rw[Da g2];exact Fu func378 (Thr.hd [0] [] (Jv (Ez g r.step).2 e [41] (by simp) g1 g2)) rfl
  ·have g1:=B7 g1;rw[Cm g1,Da g1];exact Fu func378 (Thr.hd [0] [] (ih.bad g1)) rfl
 have h4':r.takes [40]=false:=h4;rw[if_neg (by simp[h4']),if_neg (by simp[h3']),Fs h4'];by_cases g1:r.nameR.bad=false
 ·have an:=Cv ho;refine Ae [0] [] (Xb r e hb g1) ?_;refine Ae [0] [] (I4 r.nameR e [91] g1 (by simp)) ?_;refine Ah (fun h5=>?_) (fun h5=>?_)
  ·have h5':r.nameR.takes [91]=false:=by have:(!r.nameR.takes [91])=true:=h5;simpa using this
   rw[if_neg (by simp[h5']),Fs h5',Ka g1];exact Bq func378 rfl rfl
  ·have h5':r.nameR.takes [91]=true:=by have:(!r.nameR.takes [91])=false:=h5;simpa using this
   have hl:=(Ay h5' (by simp)).1;have ls:=Ca hl;have la:=Bg an;have s:=an.trans (Aj hl);rw[if_pos h5',Es h5'];have ih:=i4 g (by omega) r.nameR.step e (s.ok ho) (s.wk hw) g1 (by omega);by_cases g2:(Ez g r.nameR.step).2.bad=false
   ·refine Ae [0] [] (ih.ok g2) ?_;by_cases g3:((Ez g r.nameR.step).2.need [93]).bad=false
    ·rw[Ka g3];refine Ae [0] [] (Ly (Ez g r.nameR.step).2 e [93] (by simp) g2 g3) ?_;rw[Lh];exact Bq func378 rfl rfl
    ·have g3:=B7 g3;rw[Da g3];exact Fu func378 (Thr.hd [0] [] (Jv (Ez g r.nameR.step).2 e [93] (by simp) g2 g3)) rfl
   ·have g2:=B7 g2;rw[Cm g2,Da g2];exact Fu func378 (Thr.hd [0] [] (ih.bad g2)) rfl
 ·have g1:=B7 g1;rw[if_neg (by simp[Du g1]),Da g1];exact Fu func378 (Thr.hd [0] [] (Sa r e hb g1)) rfl
theorem Wy{X:Cx}{S:St}{F F':C5}{N:Nat}{ops:Array Oper}{i:Nat}{o:Oper}{os:List Oper}{x y:AV}{bs:List Nat}{em:Nat}{Hs:List St}{pend:List J2}{KK:C5→St→Prop}
 (k:Drv X N ops bs em os (i+1) F' S Hs pend KK)(ho:ops[i]?=some o:=by rfl)(hw:A8 ops F o=some true:=by rfl)(h:∀bx tk,Kl X F ⟨bx,tk⟩ o.op=some (x,⟨bx,tk⟩):=by intro _ _;rfl) [hr:RinC [] [] x y]
 (hF:P2 N o.dst y F=some F':=by rfl):Drv X N ops bs em (o::os) i F S Hs pend KK:=by
 obtain⟨h1,rfl⟩:=Gi hF;exact Kk (fun⟨bx,tk⟩=>Ale (Lu ho hw (h bx tk))) h1 k
theorem A1m(f:Nat)(i1:∀g,g<f→Av9 g):Asb f:=by
 intro r e ho hw hb hf;obtain⟨g,rfl⟩:∃g,f=g+1:=⟨f-1,by omega⟩
 refine GoesI.run func367 ?_;have hM:Ek (g+1) r=Hy g (Fi g r).1 (Fi g r).2:=by simp only[Ek]
 rw[hM];have ih:=i1 g (by omega) r e ho hw hb (by omega);have af:=(Fo g).1 r ho;have lf:=Bg af;generalize Fi g r=q at ih af lf⊢;obtain⟨x,q⟩:=q;simp only at ih af lf⊢;by_cases g1:q.bad=false
 ·refine Ae [0] [] (ih.ok g1) ?_;generalize hT:Hy g x q=T;refine Ar (ι:=Nat×Nd×RS) 3 0 (fun i=>i.2.2.ok∧i.2.2.wk∧i.2.2.bad=false∧4*i.2.2.left+1≤i.1∧i.1≤g∧T=Hy i.1 i.2.1 i.2.2) (fun _=>[(0,.ptr 0 0 0),(2,.ptr 1 0 0),(3,.ptr 2 0 0)])
   (fun i=>⟨[[pc i.2.2 e],[zN],[Af i.2.1]],[]⟩) (fun i=>i.1) ?_ (g,x,q) ⟨af.ok ho,af.wk hw,g1,by simp only;omega,Bo _,hT.symm⟩ ⟨rfl,rfl,rfl,trivial⟩
  rintro⟨n,y,q⟩ ⟨hqo,hqw,hqb,hfu,hng,hTn⟩ IH;simp only at hqo hqw hqb hfu hng hTn IH⊢;obtain⟨m,rfl⟩:∃m,n=m+1:=⟨n-1,by omega⟩
  have hL:T=if q.takes [42]then Hy m (.mk 8 [] 0 [y,(Fi m q.step).1]) (Fi m q.step).2 else(y,q):=by rw[hTn];simp only[Hy]
  refine Bi 100 rfl ?_;refine Ae [0] [] (I4 q e [42] hqb (by simp)) ?_;refine Ah (fun h=>?_) (fun h=>?_)
  ·have h':q.takes [42]=true:=h;have hl:=(Ay h' (by simp)).1;have ls:=Ca hl;have s:=Aj hl;rw[if_pos h']at hL;rw[Es h'];have ih2:=i1 m (by omega) q.step e (s.ok hqo) (s.wk hqw) hqb (by omega);have af2:=(Fo m).1 q.step (s.ok hqo);have lf2:=Bg af2;by_cases g2:(Fi m q.step).2.bad=false
   ·refine Hw 36 2 ?_;refine Dz (Hd [0] [] (ih2.ok g2)) ?_ ?_
    ·exact An (Ck rfl rfl rfl) Gy
    refine Wy ?_;refine Av ?_;refine Ch (A7 rfl rfl rfl rfl rfl rfl rfl) ?_;refine B2 ?_;refine IH (m,.mk 8 [] 0 [y,(Fi m q.step).1],(Fi m q.step).2) ⟨(s.trans af2).ok hqo,(s.trans af2).wk hqw,g2,by simp only;omega,by simp only;omega,hL⟩ (by simp only;omega) _ _ ⟨rfl,rfl,rfl,trivial⟩ ?_ rfl rfl;simp[St.drop,upd,Af,Au]
   ·have g2:=B7 g2;rw[Aar g2]at hL;rw[hL,Da g2];refine Lr (S1:=?S1) 2 36 2 func367 ?hk ?hS
    case hk=>
     refine Ls ?_;exact Thr.hd [0] [] (ih2.bad g2)
    case hS=>rfl
  ·have h':q.takes [42]=false:=h;rw[if_neg (by simp[h'])]at hL;rw[Fs h',hL,Ka hqb];exact Bq func367 rfl rfl
 ·have g1:=B7 g1;rw[Aar g1,Da g1];exact Fu func367 (Thr.hd [0] [] (ih.bad g1)) rfl
theorem A1g(f:Nat)(i2:∀g,g<f→Asb g):Ar9 f:=by
 intro r e ho hw hb hf;obtain⟨g,rfl⟩:∃g,f=g+1:=⟨f-1,by omega⟩
 refine GoesI.run func352 ?_;have hM:Ez (g+1) r=G6 g (Ek g r).1 (Ek g r).2:=by simp only[Ez]
 rw[hM];have ih:=i2 g (by omega) r e ho hw hb (by omega);have af:=(Fo g).2.1 r ho;have lf:=Bg af;generalize Ek g r=q at ih af lf⊢;obtain⟨x,q⟩:=q;simp only at ih af lf⊢;by_cases g1:q.bad=false
 ·refine Ae [0] [] (ih.ok g1) ?_;generalize hT:G6 g x q=T;refine Ar (ι:=Nat×Nd×RS) 3 0 (fun i=>i.2.2.ok∧i.2.2.wk∧i.2.2.bad=false∧4*i.2.2.left+2≤i.1∧i.1≤g∧T=G6 i.1 i.2.1 i.2.2) (fun _=>[(0,.ptr 0 0 0),(2,.ptr 1 0 0),(3,.ptr 2 0 0)])
   (fun i=>⟨[[pc i.2.2 e],[zN],[Af i.2.1]],[]⟩) (fun i=>i.1) ?_ (g,x,q) ⟨af.ok ho,af.wk hw,g1,by simp only;omega,Bo _,hT.symm⟩ ⟨rfl,rfl,rfl,trivial⟩
  rintro⟨n,y,q⟩ ⟨hqo,hqw,hqb,hfu,hng,hTn⟩ IH;simp only at hqo hqw hqb hfu hng hTn IH⊢;obtain⟨m,rfl⟩:∃m,n=m+1:=⟨n-1,by omega⟩
  have hL:T=if q.takes [43]then G6 m (.mk 6 [] 0 [y,(Ek m q.step).1]) (Ek m q.step).2
   else if q.takes [45]then G6 m (.mk 7 [] 0 [y,(Ek m q.step).1]) (Ek m q.step).2 else(y,q):=by rw[hTn];simp only[G6]
  refine Bi 100 rfl ?_;refine Ae [0] [] (A1h q e [45]) ?_;refine Ah (fun h=>?_) (fun h=>?_)
  ·have h':q.takes [45]=true:=by rw[Jw hqb];exact h
   rw[if_neg (by simp[Q6 (s':=[43]) h' (by simp)]),if_pos h']at hL;have hl:=(Ay h' (by simp)).1;have ls:=Ca hl;have s:=Aj hl;have ih2:=i2 m (by omega) q.step e (s.ok hqo) (s.wk hqw) hqb (by omega);have af2:=(Fo m).2.1 q.step (s.ok hqo);have lf2:=Bg af2;refine Ae [0] [] (Z3 q e hl) ?_;by_cases g2:(Ek m q.step).2.bad=false
   ·refine Hw 72 3 ?_;refine Dz (Hd [0] [] (ih2.ok g2)) ?_ ?_
    ·exact An (Ck rfl rfl rfl) Gy
    refine Wy ?_;refine Av ?_;refine Ch (A7 rfl rfl rfl rfl rfl rfl rfl) ?_;refine B2 ?_;refine IH (m,.mk 7 [] 0 [y,(Ek m q.step).1],(Ek m q.step).2) ⟨(s.trans af2).ok hqo,(s.trans af2).wk hqw,g2,by simp only;omega,by simp only;omega,hL⟩ (by simp only;omega) _ _ ⟨rfl,rfl,rfl,trivial⟩ ?_ rfl rfl;simp[St.drop,upd,Af,Au]
   ·have g2:=B7 g2;rw[Vn g2]at hL;rw[hL,Da g2];refine Lr (S1:=?S1) 3 72 3 func352 ?hk ?hS
    case hk=>
     refine Ls ?_;exact Thr.hd [0] [] (ih2.bad g2)
    case hS=>rfl
  ·have h0:q.takes [45]=false:=by rw[Jw hqb];exact h
   refine Ae [0] [] (A1h q e [43]) ?_;refine Ah (fun h2=>?_) (fun h2=>?_)
   ·have h':q.takes [43]=false:=by rw[Jw hqb];have:(!(q.text==[43]))=true:=h2;simpa using this
    rw[if_neg (by simp[h']),if_neg (by simp[h0])]at hL;rw[hL,Ka hqb];exact Bq func352 rfl rfl
   ·have h':q.takes [43]=true:=by rw[Jw hqb];have:(!(q.text==[43]))=false:=h2;simpa using this
    rw[if_pos h']at hL;have hl:=(Ay h' (by simp)).1;have ls:=Ca hl;have s:=Aj hl;have ih2:=i2 m (by omega) q.step e (s.ok hqo) (s.wk hqw) hqb (by omega);have af2:=(Fo m).2.1 q.step (s.ok hqo);have lf2:=Bg af2;refine Ae [0] [] (Z3 q e hl) ?_;by_cases g2:(Ek m q.step).2.bad=false
    ·refine Hw 72 3 ?_;refine Dz (Hd [0] [] (ih2.ok g2)) ?_ ?_
     ·exact An (Ck rfl rfl rfl) Gy
     refine Wy ?_;refine Av ?_;refine Ch (A7 rfl rfl rfl rfl rfl rfl rfl) ?_;refine B2 ?_;refine IH (m,.mk 6 [] 0 [y,(Ek m q.step).1],(Ek m q.step).2) ⟨(s.trans af2).ok hqo,(s.trans af2).wk hqw,g2,by simp only;omega,by simp only;omega,hL⟩ (by simp only;omega) _ _ ⟨rfl,rfl,rfl,trivial⟩ ?_ rfl rfl;simp[St.drop,upd,Af,Au]
    ·have g2:=B7 g2;rw[Vn g2]at hL;rw[hL,Da g2];refine Lr (S1:=?S1) 3 72 3 func352 ?hk ?hS
     case hk=>
      refine Ls ?_;exact Thr.hd [0] [] (ih2.bad g2)
     case hS=>rfl
 ·have g1:=B7 g1;rw[Vn g1,Da g1];exact Fu func352 (Thr.hd [0] [] (ih.bad g1)) rfl
theorem Axh:∀f:Nat,Av9 f∧Asb f∧Ar9 f:=by
 intro f
 induction f using Nat.strongRecOn with
 |ind f ih=>exact⟨A3y f (fun g hg=>(ih g hg).1) (fun g hg=>(ih g hg).2.2),A1m f (fun g hg=>(ih g hg).1),A1g f (fun g hg=>(ih g hg).2.1)⟩
theorem R9(r:RS)(e:Nat)(ho:r.ok)(hw:r.wk)(hb:r.bad=false):GoesI 352 (B8 r) r e:=
 (Axh 6010).2.2 r e ho hw hb (by have:=ho.1;simp only[RS.left];omega)
abbrev Aux:List (List UInt8):=[[60],[60,61],[62],[62,61],[61,61],[33,61]]
theorem Auw(s:List UInt8):E6 0 Aux s=if relS s=0 then -1 else relS s-11:=by
 simp only[E6,relS]
 repeat' split
 all_goals simp_all
theorem Ase{X:Cx}{S:St}{F:C5}{N t n e:Nat}{ops:Array Oper}{i:Nat}{o:Oper}{p:Operand}{cs:List AV}{y ye:Ty}{rows:List (List AV)}(hrows:cs.map (fun x=>[x])=rows)(ho:ops[i]?=some o:=by rfl)(hw:A8 ops F o=some true:=by rfl)
 (hop:o.op=.slice t p none none none:=by rfl)(hp:Dw X F p=some (.cptr cs):=by rfl)(hy:X.ty t=some y:=by rfl)(hyk:y.k=.arr n e:=by rfl)(hye:X.ty e=some ye:=by rfl)(h1:ye.size=1:=by rfl)
 (hl:cs.length=n:=by rfl)(hx:Nat.ble n 1000=true:=by rfl):Ndo X N ops i o F (.sl rows .no) S S:=by
 subst hrows;refine Dj ho hw fun F' E w a hc hI hF=>?_;rw[hop]at hc;have r1:=Ak hI hF ((hc p (by simp[Op.operands])).trans hp);obtain⟨d,hdd,hd2⟩:=(X.ty_ok t y hy).agg;simp only[hyk]at hd2;obtain⟨rfl,ye',hye',hne0⟩:=hd2;rw[hye]at hye';cases hye';have hn:=Jz hx;generalize hv:a.eval p=u at r1;cases r1 with
 |cptr _ b o' vals hm hcl hr=>
  refine⟨.slice (some ⟨b,o',none⟩) n n,?_,?_⟩
  ·simp[execOp,hop,hv,Instr.sliceAt,run_underlying hdd,Dr hye,Instr.sureAddr,asAddr,Instr.sliceBounds,Ge]
  ·refine .sl _ .no _ n n b o' 1 (fun i' _=>vals i') (by simp[hl]) (by unfold Pg;omega) (fun _=>rfl) (fun r hr=>?_) (fun i' j' hi hj=>?_) (fun i' j' hi hj=>?_) (fun i' j' r x hi hj=>?_) trivial (Bo _)
   ·obtain⟨x,_,rfl⟩:=zzq66.1 hr;rfl
   ·have:=hm i' (by omega);rw[show o'+i'*1+j'=o'+i' by omega];exact this
   ·have:=hcl i' (by omega);rw[show o'+i'*1+j'=o'+i' by omega];exact this
   ·rw[Gl]at hi;cases hx':cs[i']? with
    |none=>rw[hx']at hi;cases hi
    |some z=>
     rw[hx']at hi;cases hi;cases j' with
     |zero=>simp at hj;subst hj;exact hr i' z hx'
     |succ j=>simp at hj
theorem Al1(r:RS)(e:Nat)(ho:r.ok)(hw:r.wk)(hb:r.bad=false):GoesI 350 (Dm r) r e:=by
 refine GoesI.run func350 ?_;have ih:=R9 r e ho hw hb;have af:=B9 ho;simp only[Dm];generalize B8 r=q at ih af⊢;obtain⟨x,q⟩:=q;simp only at ih af⊢;by_cases g1:q.bad=false
 ·refine Ae [0] [] (ih.ok g1) ?_;have hidx:=Auw q.text;refine Hw 0 0 ?_;refine Eo (fun S'=>Ase (cs:=condG) (rows:=Dl Aux) rfl) ?_;refine M0 1 ?_;refine A2 (Hd [0] [] (Sb q e)) ?_;refine Fx ?_;refine Js (Acb Aux q.text (by decide)) ?_;refine Fx ?_;refine B2 ?_;rw[hidx];by_cases hz:relS q.text=0
  ·rw[if_pos hz,if_pos (by simp[hz]),Da (show q.spoil.bad=true from rfl)];refine A0 ?_;exact Fu func350 (Thr.hd [0] [] (Yj q e)) rfl
  ·have hrr:=Adw hz;rw[if_neg hz,if_neg (by simp[g1,hz])];have hl:=V4 hz;have s:=af.trans (Aj hl);have ih2:=R9 q.step e (s.ok ho) (s.wk hw) g1;refine Ag ?_ (ht:=Mc (by omega));refine Ae [0] [] (Z3 q e hl) ?_;have hwr:IntKind.i64.wrap (11+(relS q.text-11))=relS q.text:=(Ac (by omega) (by omega)).trans (by omega);by_cases g2:(B8 q.step).2.bad=false
   ·rw[Ka g2];refine Hw 144 4 ?_;refine Dz (Hd [0] [] (ih2.ok g2)) ?_ ?_
    ·exact An (Ck rfl rfl rfl) Gy
    refine Tu ?_;refine Av ?_;refine Ch (A7 rfl rfl rfl rfl rfl rfl rfl) ?_;refine B2 ?_;refine Bq func350 ?_ rfl;rw[hwr,Lh];rfl
   ·have g2:=B7 g2;rw[Da g2];refine Lr (S1:=?S1) 4 144 4 func350 ?hk ?hS
    case hk=>
     refine Ls ?_;exact Thr.hd [0] [] (ih2.bad g2)
    case hS=>rfl
 ·have g1:=B7 g1;rw[if_pos (by simp[g1]),Da (show q.spoil.bad=true from rfl)];have e1:q.spoil=q:=by
   obtain⟨ws,a,b⟩:=q;simp only at g1;subst g1;rfl
  rw[e1];exact Fu func350 (Thr.hd [0] [] (ih.bad g1)) rfl
end Go.V
namespace Go.V
open Go
section
variable {X:Cx}{B:Bx}{E:Env}{S:St}{w:World}{F:C5}{a:Act}{N:Nat}{ops:Array Oper}{i:Nat}{o:Oper}{p q:Operand}
theorem Awd{t n e:Nat}{ps:Array (Nat×Operand)}{y ye:Ty}{rows:List (List AV)}{bx:List (List (List AV))}{b:Nat}(ho:ops[i]?=some o:=by rfl)(hw:A8 ops F o=some true:=by rfl)(hop:o.op=.buildSlice t n ps:=by rfl)
 (hy:X.ty t=some y:=by rfl)(hk:y.k=.slc e:=by rfl)(hye:X.ty e=some ye:=by rfl)(hble:Nat.ble (n*ye.size) 1000000=true:=by rfl)
 (hr:Uk X F ye.size ps.toList (List.replicate n ye.zero)=some (.sl rows .tight):=by rfl)(hb:Z8 S.boxes=b:=by rfl)(hbx:S.boxes++[rows]=bx:=by rfl):Ndo X N ops i o F (.bsl b n) S ⟨bx,S.toks⟩:=by
 subst hbx;rw[J5]at hb;subst hb;intro F' E w a hl hI hF;have hlr:Uk X F' ye.size ps.toList (List.replicate n ye.zero)=some (.sl rows .tight):=by
  have hc:=G0 hl;rw[hop]at hc;have:∀(l:List (Nat×Operand)) (rs:List (List AV)),(∀x,x∈l→∀k,x.2=.tmp k→lk F' k=lk F k)→Uk X F' ye.size l rs=Uk X F ye.size l rs:=by
   intro l
   induction l with
   |nil=>intro rs _;rfl
   |cons z l ih=>
    intro rs h;obtain⟨j,z⟩:=z;simp only[Uk];rw[Dk (F':=F') (F:=F) fun k hk=>h (j,z) (by simp) k hk];cases Dw X F z with
    |none=>rfl
    |some v=>
     simp only;cases cellsOf v with
     |none=>rfl
     |some xs=>
      simp only;cases Nat.beq xs.length ye.size with
      |false=>rfl
      |true=>
       simp only;have:∀(l2:List (List AV)) (j:Nat) (x:List AV) (k1 k2:List (List AV)→Option AV),(∀r,k1 r=k2 r)→Xo l2 j x k1=Xo l2 j x k2:=by
        intro l2
        induction l2 with
        |nil=>intro j x k1 k2 h;cases j<;>rfl
        |cons c l2 ih2=>
         intro j x k1 k2 h;cases j with
         |zero=>simp only[Xo];exact h _
         |succ j=>simp only[Xo];exact ih2 j x _ _ fun r=>h _
       exact this _ _ _ _ _ fun r=>ih r fun x hx=>h x (by simp[hx])
  rw[this]
  ·exact hr
  ·intro x hx k hk;exact hc k (by simp only[Op.operands];simp;exact⟨x.1,by rw[←hk];simpa using hx⟩)
 have hle:n*ye.size≤1000000:=Jz hble;obtain⟨d,hd,hdd⟩:=(X.ty_ok t y hy).agg;simp only[hk]at hdd;obtain⟨rfl,ye',hye',hne⟩:=hdd;rw[hye]at hye';cases hye';obtain⟨z,hz,hzc,hzl,i',hi,hiz,his,hib⟩:=Jx hye w;have hzs:z.cells.size=ye.size:=by rw[←hzl,←hzc];simp
 have hg0:Rn E w ye.size ((Array.range (n*ye.size)).map (z.cells[·%z.cells.size]!)) (List.replicate n ye.zero):=by
  refine Vt hzc hzl _ (by simp) (fun i hi=>?_);have hm:i%ye.size<z.cells.size:=by rw[hzs];exact Nat.mod_lt _ (Aeb hne)
  have hr0:(Array.range (n*ye.size))[i]?=some i:=by simp[hi]
  rw[Array.getElem?_map,hr0];simp only[Lk];rw[hzs,getElem!_pos z.cells (i%ye.size) hm,Aku hm]
 obtain⟨cells',rows',hf',hg',hl',hrr⟩:=Xf hI hF ps.toList _ _ _ hg0 hlr;cases hrr;have hn:rows.length=n:=by simpa using hl'
 obtain⟨ev,hI'⟩:=hI.newBox (w':=w.alloc (.cells cells' e)) (cs:=cells') (e:=e) (sz:=ye.size) (rows:=rows) rfl rfl rfl rfl hg'.1 hg'.2.1 hg'.2.2;refine Does.val ho (Cr hF (by rw[C6 hl];exact hw)) (v:=.slice (some ⟨w.heap.size,0,none⟩) n n) ?_ (.inl rfl) ⟨_,hI',ev,?_⟩
 ·have hsz:=Dr hye w;have hpp:(ps.map fun(x:Nat×Operand)=>(x.1,a.eval x.2)).toList=ps.toList.map fun p=>(p.1,a.eval p.2):=by simp
  have h24:¬(n*ye.size>16777216):=by omega
  simp only[execOp,hop,Instr.buildSlice,Sem.run_bind,run_underlying hd,Result.andThen_ok,hsz];by_cases h0:n*ye.size=0
  ·have hn0:n=0:=by
    rcases Nat.mul_eq_zero.1 h0 with h|h
    ·exact h
    ·exact absurd h hne
   subst hn0;have e1:∀f:Nat→Value,(Array.range 0).map f=#[]:=fun f=>by rw[←zzq34];simp
   have hf2:=hf';simp only[Nat.zero_mul,e1]at hf2;simp[hf2,newRow,hn,e1]
  ·simp[h24,h0,hz,hf',newRow,hn]
 ·exact .bsl S.boxes.length w.heap.size ye.size n n (by rw[←hI.nb];exact getElem?_snoc_new _ _) (Bo _)
theorem Gd{t e b n:Nat}{ik:IntKind}{j:Nat}{y ye:Ty}{rows:List (List AV)}{r:List AV}(ho:ops[i]?=some o:=by rfl)(hw:A8 ops F o=some true:=by rfl)(hop:o.op=.indexAddr t p q:=by rfl)(hp:Dw X F p=some (.bsl b n):=by rfl)
 (hq:Dw X F q=some (.val (.int ik j)):=by rfl)(hy:X.ty t=some y:=by rfl)(hyk:y.k=.slc e:=by rfl)(hye:X.ty e=some ye:=by rfl)(hj:Nat.blt j n=true:=by rfl)(hb:S.boxes[b]?=some rows:=by rfl)(hr:rows[j]?=some r:=by rfl)(hl:r.length=ye.size:=by rfl):Ndo X N ops i o F (.ptr b j 0) S S:=by
 refine Dj ho hw fun F' E w a hc hI hF=>?_;rw[hop]at hc;have h1:=Ak hI hF ((hc p (by simp[Op.operands])).trans hp);have h2:=Ak hI hF ((hc q (by simp[Op.operands])).trans hq);obtain⟨d,hdd,hd2⟩:=(X.ty_ok t y hy).agg;simp only[hyk]at hd2;obtain⟨rfl,ye',hye',hne⟩:=hd2;rw[hye]at hye';cases hye';have hlt:j<n:=by simpa[Fw]using hj
 cases hh2:a.eval q<;>rw[hh2]at h2<;>cases h2;generalize hh1:a.eval p=u at h1;cases h1 with
 |bsl _ blk sz _ cap hB hcap=>
  obtain⟨arr,e',hh,hs,hlen,hrel⟩:=hI.box b blk sz rows hB hb;have hsz:sz=ye.size:=by rw[←hl,hlen r (Bh hr)]
  subst hsz;refine⟨.pointer (some ⟨blk,j*ye.size,none⟩),?_,?_⟩
  ·have hin:(j:Int)<(n:Int):=by omega
   simp[execOp,hop,hh1,hh2,Instr.indexAt,asIntOf,run_underlying hdd,hin,Dr hye,Ge];intro h;omega
  ·have:=Rel.ptr (E:=E) (w:=w) b j 0 blk ye.size hB;simpa using this
class BoxC (bx:List (List (List AV)))(b:Nat)(rows:outParam (List (List AV))):Prop where
 h:bx[b]?=some rows
instance{x:List (List AV)}{l:List (List (List AV))}:BoxC (x::l) 0 x:=⟨rfl⟩
instance{x y:List (List AV)}{l:List (List (List AV))}{b:Nat} [h:BoxC l b y]:BoxC (x::l) (b+1) y:=⟨by simpa using h.h⟩
class LeC (n b:Nat):Prop where
 h:n≤b
instance{b:Nat}:LeC 0 b:=⟨B3 _⟩
instance{n b:Nat} [h:LeC n b]:LeC (n+1) (b+1):=⟨Nat.succ_le_succ h.h⟩
class LenC (l:List (List AV))(k:Nat):Prop where
 h:k=l.length∧k≤Pg
instance{a b c:List AV}:LenC [a,b,c] 3:=⟨rfl,by decide⟩
instance{bx:List (List (List AV))}{tk:List Nat}{n m b k:Nat}{rows rows':List (List AV)} [h1:BoxC bx b rows] [h2:LeC n b] [h3:LenC rows k] [h4:FzRC ⟨bx,tk⟩ n m rows rows']:FzC ⟨bx,tk⟩ n m (.bsl b k) (.sl rows' .no):=
 ⟨.bsl b k rows rows' h2.h h1.h (Nat.le_of_eq h3.h.1) h3.h.2 (h4.s.get.1.trans h3.h.1.symm) (fun i r r' h1 h2=>(h4.s.get.2 i r r' h1 h2).get.1) (fun i j r r' x y h1 h2 h3 h5=>(h4.s.get.2 i r r' h1 h2).get.2 j x y h3 h5)⟩
end
end Go.V
namespace Go.V
open Go Go.Proofs Go.Proofs.Tryz
theorem Ajz{f:Nat}{r:RS}(h:r.bad=true):(Fi f r).2=r:=by
 cases f with
 |zero=>rfl
 |succ f=>simp only[Fi];rw[if_pos h]
theorem Age{f:Nat}{r:RS}(h:r.bad=true):(Ek f r).2=r:=by
 cases f with
 |zero=>rfl
 |succ f=>simp only[Ek];rw[Aar (by rw[Ajz h];exact h),Ajz h]
theorem Ap4{f:Nat}{r:RS}(h:r.bad=true):(Ez f r).2=r:=by
 cases f with
 |zero=>rfl
 |succ f=>simp only[Ez];rw[Vn (by rw[Age h];exact h),Age h]
theorem H3{r:RS}(h:r.bad=true):(B8 r).2=r:=Ap4 h
theorem Are{r:RS}(h:r.bad=true):r.spoil=r:=by
 obtain⟨ws,a,b⟩:=r;simp only at h;subst h;rfl
theorem Qr{f:Nat}{acc:List Nd}{r:RS}(h:r.bad=true):Ed f acc r=(acc,r):=by
 cases f with
 |zero=>rfl
 |succ f=>simp only[Ed];rw[if_neg (by simp[h])]
theorem Ky{f:Nat}{r:RS}(h:r.bad=true):(Ct f r).2=r:=by
 cases f with
 |zero=>rfl
 |succ f=>simp only[Ct];rw[Cm h,Qr h];exact Cm h _
theorem Arf{f:Nat}{r:RS}(hb:r.bad=false)(h:r.ws.length≤r.at_):(Dc (f+1) r).2=r.spoil:=by
 have ht:r.text=[]:=by simp[RS.text,U9 h]
 have hk:r.kind=0:=by simp[RS.kind,U9 h]
 have no:∀s:List UInt8,s≠[]→r.takes s=false:=fun s hs=>by
  rw[Jw hb,ht];simpa using Ne.symm hs
 have hn:r.nameR=r.spoil:=by simp[RS.nameR,RS.named,hb,hk]
 have hsb:r.spoil.bad=true:=rfl;simp only[Dc];rw[if_neg (by simp[no]),if_neg (by simp[no]),if_neg (by simp[no])];simp only[Cz];rw[if_neg (by simp[no]),if_neg (by simp[no]),if_neg (by simp[no]),if_neg (by simp[no])];simp only[Qz];rw[hn,if_neg (by simp[Du hsb]),Cm hsb];simp only[H3 hsb];exact Cm hsb _
def Asa(f:Nat):Prop:=∀(r:RS)(e:Nat),r.ok→r.wk→r.bad=false→3*r.left+1≤f→f≤100000→GoesI 327 (Dc f r) r e
def Ak6(f:Nat):Prop:=∀(r:RS)(e:Nat),r.ok→r.wk→r.bad=false→3*r.left+3≤f→f≤100000→GoesI 351 (Ct f r) r e
theorem Axf(f:Nat)(ih:∀g,g<f→Asa g):Ak6 f:=by
 intro r e ho hw hb hf hF;obtain⟨g,rfl⟩:∃g,f=g+1:=⟨f-1,by omega⟩
 refine GoesI.run func351 ?_;simp only[Ct];by_cases g1:(r.need [123]).bad=false
 ·obtain⟨n1,n2,n3⟩:=F4 g1;have hl:=(Ay n1 (by simp)).1;have ls:=Ca hl;have s:=Aj hl;refine Ae [0] [] (Ly r e [123] (by simp) hb g1) ?_;rw[n2];generalize hT:Ed g [] r.step=T;refine En 2 0 3 rfl rfl rfl rfl rfl rfl ?_;refine Ar (ι:=Nat×List Nd×RS) 3 1 (fun i=>i.2.2.ok∧i.2.2.wk∧i.2.2.bad=false∧i.2.1.length+i.1≤g∧3*i.2.2.left+2≤i.1∧T=Ed i.1 i.2.1 i.2.2) (fun _=>[(0,.ptr 0 0 0),(2,.ptr 1 0 0),(3,.ptr 2 0 0)])
   (fun i=>⟨[[pc i.2.2 e],[zN],[[vi 30,str [],vi 0,.sl (Ap i.2.1) (.tok 0)]]],[i.2.1.length]⟩) (fun i=>i.1) ?_ (g,[],r.step) ⟨s.ok ho,s.wk hw,hb,by simp,by simp only;omega,hT.symm⟩ ⟨rfl,rfl,rfl,trivial⟩
  rintro⟨n,acc,q⟩ ⟨hqo,hqw,hqb,hlen,hfu,hTn⟩ IH;simp only at hqo hqw hqb hlen hfu hTn IH⊢;obtain⟨m,rfl⟩:∃m,n=m+1:=⟨n-1,by omega⟩
  have hL:T=if !q.bad&&decide (q.at_<q.ws.length)&&!(q.text==[125])then Ed m (acc++[(Dc m q).1]) (Dc m q).2 else(acc,q):=by rw[hTn];simp only[Ed]
  refine Bi 100 rfl ?_;refine Ae [0] [] (I4 q e [125] hqb (by simp)) ?_;refine Ah (fun h=>?_) (fun h=>?_)
  ·have h':q.takes [125]=false:=by have:(!q.takes [125])=true:=h;simpa using this
   have h'':(q.text==[125])=false:=by rw[←Jw hqb];exact h'
   rw[Fs h'];have ih2:=ih m (by omega) q e hqo hqw hqb (by omega) (by omega);by_cases hlt:q.at_<q.ws.length
   ·rw[if_pos (by simp[hqb,hlt,h''])]at hL;have af:=(F5 m).1 q hqo;have lf:=Bg af;by_cases g2:(Dc m q).2.bad=false
    ·have hon:q.at_<(Dc m q).2.at_:=by
      obtain⟨p,rfl⟩:∃p,m=p+1:=⟨m-1,by omega⟩
      rcases Y1 p hqo with h|h
      ·rw[g2]at h;cases h
      ·exact h
     have hll:(Dc m q).2.left+1≤q.left:=by
      have e1:=af.1;have e2:=af.2.2;simp only[RS.left,e1]at *;omega
     refine Hw 168 3 ?_;refine Dz (Hd [0] [] (ih2.ok g2)) ?_ ?_
     ·exact An (Ck rfl rfl rfl) Gy
     refine Tu ?_;refine Ch (Bu (res:=Ap (acc++[(Dc m q).1])) rfl rfl rfl rfl rfl rfl rfl rfl rfl rfl rfl rfl rfl rfl (Ad acc) (Ew acc) rfl rfl rfl ?_ ?_ rfl) ?_
     ·rw[Ad];simp;omega
     ·rw[Au,Au,Kr];rfl
     refine Av ?_;refine Ch (A7 rfl rfl rfl rfl rfl rfl rfl) ?_;refine B2 ?_;refine IH (m,acc++[(Dc m q).1],(Dc m q).2) ⟨af.ok hqo,af.wk hqw,g2,by simp;omega,by simp only;omega,hL⟩ (by simp only;omega) _ _ ⟨rfl,rfl,rfl,trivial⟩ ?_ rfl rfl;simp[St.drop,Ad,upd]
    ·have g2:=B7 g2;rw[Qr g2]at hL;rw[hL,Cm g2,Da g2];refine Lr (S1:=?S1) 3 168 3 func351 ?hk ?hS
     case hk=>
      refine Ls ?_;exact Thr.hd [0] [] (ih2.bad g2)
     case hS=>rfl
   ·rw[if_neg (by simp[hlt])]at hL;obtain⟨p,rfl⟩:∃p,m=p+1:=⟨m-1,by omega⟩
    have hE:=Arf (f:=p) hqb (by omega);have hN:q.need [125]=q.spoil:=by simp[RS.need,h']
    have g2:(Dc (p+1) q).2.bad=true:=by rw[hE];rfl
    have ihb:=ih2.bad g2;rw[hE]at ihb;rw[hL,hN,Da (show q.spoil.bad=true from rfl)];refine Lr (S1:=?S2) 3 168 3 func351 ?hk ?hS
    case hk=>
     refine Ls ?_;exact Thr.hd [0] [] ihb
    case hS=>rfl
  ·have h':q.takes [125]=true:=by have:(!q.takes [125])=false:=h;simpa using this
   have h'':(q.text==[125])=true:=by rw[←Jw hqb];exact h'
   have hN:q.need [125]=q.step:=by simp[RS.need,h']
   rw[if_neg (by simp[h''])]at hL;rw[hL,hN,Es h',Ka (show q.step.bad=false from hqb),Lh];refine Bq func351 ?_ rfl;rw[Au]
 ·have g1:=B7 g1;rw[Qr g1,Cm g1,Da g1];exact Fu func351 (Thr.hd [0] [] (Jv r e [123] (by simp) hb g1)) rfl
theorem Az4(r:RS)(s t:List UInt8):r.needs [s,t]=(r.need s).need t:=rfl
theorem Ap2(r:RS)(e:Nat)(n:Nd){x:AV}(hx:nd n=x)(hb:r.bad=false)(h:(r.need [59]).bad=false):Hands X 349 [.ptr 0 0 0,x] ⟨[[pc r e]],[]⟩ x ⟨[[pc (r.need [59]) e]],[]⟩:=by
 subst hx;exact Axg r e n hb h
theorem Ap1(r:RS)(e:Nat)(n:Nd){x:AV}(hx:nd n=x)(hb:r.bad=false)(h:(r.need [59]).bad=true):Throws X 349 [.ptr 0 0 0,x] ⟨[[pc r e]],[]⟩ (pan ((r.need [59]).place e)) ⟨[[pc (r.need [59]) e]],[]⟩:=by
 subst hx;exact Atf r e n hb h
theorem nd1(k:Int)(s:List UInt8)(m:Int)(a:Nd):nd (.mk k s m [a])=.agg [vi k,str s,vi m,.sl [Af a] .no]:=by rw[Lh];rfl
theorem nd2(k:Int)(s:List UInt8)(m:Int)(a b:Nd):nd (.mk k s m [a,b])=.agg [vi k,str s,vi m,.sl [Af a,Af b] .no]:=by rw[Lh];rfl
theorem nd3(k:Int)(s:List UInt8)(m:Int)(a b c:Nd):nd (.mk k s m [a,b,c])=.agg [vi k,str s,vi m,.sl [Af a,Af b,Af c] .no]:=by rw[Lh];rfl
theorem Ah2(k:Int)(s:List UInt8)(m:Int):nd (.mk k s m [])=.agg [vi k,str s,vi m,.sl [] .no]:=by rw[Lh];rfl
theorem Be{X:Cx}{B:Bx}{F:C5}{S:St}{R:AE→St→Prop}{K:List Item}(S':St)(hk:AK X B K F S' R)(h:S=S':=by rfl):AK X B K F S R:=by
 subst h;exact hk
theorem A3z(r:RS)(e:Nat)(ho:r.ok)(hw:r.wk)(hb:r.bad=false) :
 AK X ⟨327,f327,1,0⟩ (Lm false 23 f327) [(0,.ptr 0 0 0),(2,.ptr 1 0 0)] ⟨[[pc r e],[zN]],[]⟩ (Rp ((Qz r).1,(Qz r).2.need [59]) e):=by
 refine D5 ?_;refine Bi 100 rfl ?_;simp only[Qz];by_cases g1:r.nameR.bad=false
 ·have an:=Cv ho;refine Ae [0] [] (Xb r e hb g1) ?_;refine Ae [0] [] (I4 r.nameR e [91] g1 (by simp)) ?_;refine Ah (fun h=>?_) (fun h=>?_)
  ·have h':r.nameR.takes [91]=true:=h;have hl:=(Ay h' (by simp)).1;have s:=an.trans (Aj hl);have hsb:r.nameR.step.bad=false:=g1;have ih:=R9 r.nameR.step e (s.ok ho) (s.wk hw) hsb;have a1:=s.trans (B9 (s.ok ho));rw[if_pos h',Es h'];simp only;by_cases g2:(B8 r.nameR.step).2.bad=false
   ·refine Ae [0] [] (ih.ok g2) ?_;rw[←Az4];by_cases g3:((B8 r.nameR.step).2.needs [[93],[61]]).bad=false
    ·refine Ae [0] [] (Al2 (B8 r.nameR.step).2 e [[93],[61]] (by simp) (by simp) g2 g3) ?_;have a3:r.after ((B8 r.nameR.step).2.needs [[93],[61]]):=by
      have b1:=a1.trans (Bb (s:=[93]) (a1.ok ho) (by simp));exact b1.trans (Bb (s:=[61]) (b1.ok ho) (by simp))
     have ih2:=R9 _ e (a3.ok ho) (a3.wk hw) g3;generalize (B8 r.nameR.step).2.needs [[93],[61]]=u at g3 ih2 a3⊢;by_cases g4:(B8 u).2.bad=false
     ·by_cases g5:((B8 u).2.need [59]).bad=false
      ·rw[Ka g5];refine Hw 400 4 ?_;refine Dz (Hd [0] [] (ih2.ok g4)) ?_ ?_
       ·exact An (Ck rfl rfl rfl) Gy
       refine Wy ?_;refine Av ?_;refine Ch (Hd [0] [] (Ap2 (B8 u).2 e (.mk 22 r.name 0 [(B8 r.nameR.step).1,(B8 u).1]) (nd2 22 r.name 0 _ _) g4 g5)) ?_;refine Ch (A7 rfl rfl rfl rfl rfl rfl rfl) ?_;refine B2 ?_;rw[nd2];exact Bq func327 rfl rfl
      ·have g5:=B7 g5;rw[Da g5];refine Lr (S1:=?S1) 7 400 4 func327 ?hk ?hS
       case hk=>
        refine Dz (Hd [0] [] (ih2.ok g4)) ?_ ?_
        ·exact An (Ck rfl rfl rfl) Gy
        refine Wy ?_;refine Av ?_;refine Ls ?_;exact Thr.hd [0] [] (Ap1 (B8 u).2 e (.mk 22 r.name 0 [(B8 r.nameR.step).1,(B8 u).1]) (nd2 22 r.name 0 _ _) g4 g5)
       case hS=>rfl
     ·have g4:=B7 g4;rw[Cm g4,Da g4];refine Lr (S1:=?S2) 4 400 4 func327 ?hk ?hS
      case hk=>
       refine Ls ?_;exact Thr.hd [0] [] (ih2.bad g4)
      case hS=>rfl
    ·have g3:=B7 g3;rw[H3 g3,Cm g3,Da g3];exact Fu func327 (Thr.hd [0] [] (Ahp (B8 r.nameR.step).2 e [[93],[61]] (by simp) (by simp) g2 g3)) rfl
   ·have g2:=B7 g2;rw[Cm g2,Cm g2,H3 g2,Cm g2,Da g2];exact Fu func327 (Thr.hd [0] [] (ih.bad g2)) rfl
  ·have h':r.nameR.takes [91]=false:=h;rw[if_neg (by simp[h']),Fs h'];simp only;by_cases g2:(r.nameR.need [61]).bad=false
   ·have a2:=an.trans (Bb (s:=[61]) (an.ok ho) (by simp));refine Ae [0] [] (Ly r.nameR e [61] (by simp) g1 g2) ?_;have ih2:=R9 _ e (a2.ok ho) (a2.wk hw) g2;generalize r.nameR.need [61]=u at g2 ih2 a2⊢;by_cases g4:(B8 u).2.bad=false
    ·refine Ak0 0 [0] [] (ih2.ok g4) ?_;refine Bn (Ale (Lu rfl rfl rfl)) ?_;by_cases g5:((B8 u).2.need [59]).bad=false
     ·rw[Ka g5];refine Ae [0] [] (Ap2 (B8 u).2 e (.mk 21 r.name 0 [(B8 u).1]) (nd1 21 r.name 0 _) g4 g5) ?_;rw[nd1];exact Bq func327 rfl rfl
     ·have g5:=B7 g5;rw[Da g5];exact Fu func327 (Thr.hd [0] [] (Ap1 (B8 u).2 e (.mk 21 r.name 0 [(B8 u).1]) (nd1 21 r.name 0 _) g4 g5)) rfl
    ·have g4:=B7 g4;rw[Cm g4,Da g4];exact Fu func327 (Thr.hd [0] [] (ih2.bad g4)) rfl
   ·have g2:=B7 g2;rw[H3 g2,Cm g2,Da g2];exact Fu func327 (Thr.hd [0] [] (Jv r.nameR e [61] (by simp) g1 g2)) rfl
 ·have g1:=B7 g1;rw[if_neg (by simp[Du g1])];simp only;rw[Cm g1,H3 g1,Cm g1,Da g1];exact Fu func327 (Thr.hd [0] [] (Sa r e hb g1)) rfl
theorem A1k(f:Nat)(ih:∀g,g<f→Ak6 g):Asa f:=by
 intro r e ho hw hb hf hF;obtain⟨g,rfl⟩:∃g,f=g+1:=⟨f-1,by omega⟩
 have hset:=A3z r e ho hw hb;refine GoesI.run func327 ?_;have hM:Dc (g+1) r=if r.takes V9 then
  (if (Ct g (Dm r.step).2).2.takes Iu then
    (.mk 24 [] 0 [(Dm r.step).1,(Ct g (Dm r.step).2).1,(Ct g (Ct g (Dm r.step).2).2.step).1],(Ct g (Ct g (Dm r.step).2).2.step).2)
  else(.mk 24 [] 0 [(Dm r.step).1,(Ct g (Dm r.step).2).1,.mk 30 [] 0 []],(Ct g (Dm r.step).2).2))
  else if r.takes Gp then(.mk 25 [] 0 [(Dm r.step).1,(Ct g (Dm r.step).2).1],(Ct g (Dm r.step).2).2)
  else if r.takes L9 then
   (.mk 26 r.step.name 0 [(B8 (Yh r.step)).1,(B8 (Zz r.step)).1,(Ct g (B8 (Zz r.step)).2).1],(Ct g (B8 (Zz r.step)).2).2)
  else((Cz r).1,(Cz r).2.need [59]):=by simp only[Dc]
 have hS:Cz r=if r.takes Ga then(.mk 27 [] 0 [(Dm r.step).1],(Dm r.step).2)
  else if r.takes Iv then(.mk 23 r.step.name 0 [],r.step.nameR)
  else if r.takes I1 then(.mk 28 [] 0 [],r.step)
  else if r.takes Jb then(.mk 29 [] 0 [],r.step)
  else Qz r:=by simp only[Cz]
 rw[hM];refine Ae [0] [] (I4 r e Iv hb (by simp)) ?_;refine Ah (fun h1=>?_) (fun h1=>?_)
 ·have h1':r.takes Iv=true:=h1;have s:=Aj (Ay h1' (by simp)).1;have hsb:r.step.bad=false:=hb;rw[if_neg (by simp[Q6 (s':=V9) h1' (by simp)]),if_neg (by simp[Q6 (s':=Gp) h1' (by simp)]),if_neg (by simp[Q6 (s':=L9) h1' (by simp)]),hS,if_neg (by simp[Q6 (s':=Ga) h1' (by simp)]),if_pos h1',Es h1'];simp only;by_cases g1:r.step.nameR.bad=false
  ·refine Ae [0] [] (Xb r.step e hsb g1) ?_;by_cases g2:(r.step.nameR.need [59]).bad=false
   ·rw[Ka g2];refine Ae [0] [] (Ap2 r.step.nameR e (.mk 23 r.step.name 0 []) (Ah2 23 r.step.name 0) g1 g2) ?_;rw[Ah2];exact Bq func327 rfl rfl
   ·have g2:=B7 g2;rw[Da g2];exact Fu func327 (Thr.hd [0] [] (Ap1 r.step.nameR e (.mk 23 r.step.name 0 []) (Ah2 23 r.step.name 0) g1 g2)) rfl
  ·have g1:=B7 g1;rw[Cm g1,Da g1];exact Fu func327 (Thr.hd [0] [] (Sa r.step e hsb g1)) rfl
 have n1:r.takes Iv=false:=h1;rw[Fs n1];refine Ae [0] [] (I4 r e V9 hb (by simp)) ?_;refine Ah (fun h2=>?_) (fun h2=>?_)
 ·have h2':r.takes V9=true:=h2;have hl:=(Ay h2' (by simp)).1;have ls:=Ca hl;have s:=Aj hl;have hsb:r.step.bad=false:=hb;rw[if_pos h2',Es h2'];have ic:=Al1 r.step e (s.ok ho) (s.wk hw) hsb;have c:=s.trans (Dy (s.ok ho));have lc:=Bg (Dy (s.ok ho));generalize Dm r.step=q at ic c lc⊢;obtain⟨x,q⟩:=q;simp only at ic c lc⊢;by_cases g1:q.bad=false
  ·refine Ae [0] [] (ic.ok g1) ?_;have ib:=ih g (by omega) q e (c.ok ho) (c.wk hw) g1 (by omega) (by omega);have d:=c.trans ((F5 g).2.1 q (c.ok ho));have ld:=Bg ((F5 g).2.1 q (c.ok ho));generalize Ct g q=u at ib d ld⊢;obtain⟨y,u⟩:=u;simp only at ib d ld⊢;by_cases g2:u.bad=false
   ·refine Ak0 1 [0] [] (ib.ok g2) ?_;refine Ait 23 ?_;refine Bn (Awd (b:=2)) ?_;refine Ae [0] [] (I4 u e Iu g2 (by simp)) ?_;refine Ah (fun h3=>?_) (fun h3=>?_)
    ·have h3':u.takes Iu=true:=h3;have hl2:=(Ay h3' (by simp)).1;have ls2:=Ca hl2;have s2:=d.trans (Aj hl2);rw[if_pos h3',Es h3'];have ib2:=ih g (by omega) u.step e (s2.ok ho) (s2.wk hw) g2 (by omega) (by omega);generalize Ct g u.step=v at ib2⊢;obtain⟨z,v⟩:=v;simp only at ib2⊢;by_cases g3:v.bad=false
     ·rw[Ka g3];refine Hw 40 3 ?_;refine Dz (Hd [0] [] (ib2.ok g3)) ?_ ?_
      ·exact An (Ck rfl rfl rfl) Gy
      refine P8 (An (Gd (j:=2)) (An (Gd (j:=2)) Gy)) rfl ?_;refine Ch (A7 rfl rfl rfl rfl rfl rfl rfl) ?_;refine B2 ?_;refine Be ⟨[[pc v e],[[vi 24,str [],vi 0,.bsl 2 3]],[Af x,Af y,Af z],[[vi 24,str [],vi 0,.bsl 2 3]]],[]⟩ ?_;rw[nd3];exact Bq func327 rfl rfl
     ·have g3:=B7 g3;rw[Da g3];refine Lr (S1:=?S1) 3 40 3 func327 ?hk ?hS
      case hk=>
       refine Ls ?_;exact Thr.hd [0] [] (ib2.bad g3)
      case hS=>rfl
    ·have h3':u.takes Iu=false:=h3;rw[if_neg (by simp[h3']),Fs h3',Ka g2];refine Be ⟨[[pc u e],[[vi 24,str [],vi 0,.bsl 2 3]],[Af x,Af y,Af (.mk 30 [] 0 [])],[[vi 24,str [],vi 0,.bsl 2 3]]],[]⟩ ?_;rw[nd3];exact Bq func327 rfl rfl
   ·have g2:=B7 g2;rw[if_neg (by simp[Du g2]),Da g2];exact Fu func327 (Thr.hd [0] [] (ib.bad g2)) rfl
  ·have g1:=B7 g1;have e1:=Ky (f:=g) g1;rw[e1,if_neg (by simp[Du g1]),Da g1];exact Fu func327 (Thr.hd [0] [] (ic.bad g1)) rfl
 have n2:r.takes V9=false:=h2;rw[if_neg (by simp[n2]),Fs n2];refine Ae [0] [] (I4 r e Gp hb (by simp)) ?_;refine Ah (fun h3=>?_) (fun h3=>?_)
 ·have h3':r.takes Gp=true:=h3;have hl:=(Ay h3' (by simp)).1;have ls:=Ca hl;have s:=Aj hl;have hsb:r.step.bad=false:=hb;rw[if_pos h3',Es h3'];have ic:=Al1 r.step e (s.ok ho) (s.wk hw) hsb;have c:=s.trans (Dy (s.ok ho));have lc:=Bg (Dy (s.ok ho));generalize Dm r.step=q at ic c lc⊢;obtain⟨x,q⟩:=q;simp only at ic c lc⊢;by_cases g1:q.bad=false
  ·refine Ae [0] [] (ic.ok g1) ?_;have ib:=ih g (by omega) q e (c.ok ho) (c.wk hw) g1 (by omega) (by omega);generalize Ct g q=u at ib⊢;obtain⟨y,u⟩:=u;simp only at ib⊢;by_cases g2:u.bad=false
   ·rw[Ka g2];refine Ae [0] [] (ib.ok g2) ?_;rw[nd2];exact Bq func327 rfl rfl
   ·have g2:=B7 g2;rw[Da g2];exact Fu func327 (Thr.hd [0] [] (ib.bad g2)) rfl
  ·have g1:=B7 g1;rw[Ky g1,Da g1];exact Fu func327 (Thr.hd [0] [] (ic.bad g1)) rfl
 have n3:r.takes Gp=false:=h3;rw[if_neg (by simp[n3]),Fs n3];refine Ae [0] [] (I4 r e L9 hb (by simp)) ?_;refine Ah (fun h4=>?_) (fun h4=>?_)
 ·have h4':r.takes L9=true:=h4;have hl:=(Ay h4' (by simp)).1;have ls:=Ca hl;have s:=Aj hl;have hsb:r.step.bad=false:=hb;rw[if_pos h4',Es h4'];have fa:=R7 (s.ok ho);have fb:=K3 (s.ok ho);have lb:=Bg fb;simp only[Zz,Yh]at fb lb⊢;simp only[Yh]at fa;by_cases g1:r.step.nameR.bad=false
  ·refine Ae [0] [] (Xb r.step e hsb g1) ?_;by_cases g2:(r.step.nameR.need Jn).bad=false
   ·refine Ae [0] [] (Ly r.step.nameR e Jn (by simp) g1 g2) ?_;have f1:=s.trans fa;have i1:=R9 _ e (f1.ok ho) (f1.wk hw) g2;generalize r.step.nameR.need Jn=q1 at g2 i1 fb lb⊢;generalize B8 q1=t1 at i1 fb lb⊢;obtain⟨x1,u1⟩:=t1;simp only at i1 fb lb⊢;by_cases g3:u1.bad=false
    ·refine Ae [0] [] (i1.ok g3) ?_;by_cases g4:(u1.need wTo).bad=false
     ·refine Ae [0] [] (Ly u1 e wTo (by simp) g3 g4) ?_;have f2:=s.trans fb;have i2:=R9 _ e (f2.ok ho) (f2.wk hw) g4;have f3:=f2.trans (B9 (f2.ok ho));have l3:=Bg (B9 (f2.ok ho));generalize u1.need wTo=q2 at g4 i2 f2 f3 l3 lb⊢;generalize B8 q2=t2 at i2 f3 l3⊢;obtain⟨x2,u2⟩:=t2;simp only at i2 f3 l3⊢;by_cases g5:u2.bad=false
      ·have ib:=ih g (by omega) u2 e (f3.ok ho) (f3.wk hw) g5 (by omega) (by omega);generalize Ct g u2=v at ib⊢;obtain⟨y,v⟩:=v;simp only at ib⊢;by_cases g6:v.bad=false
       ·rw[Ka g6];refine Hw 148 2 ?_;refine Dz (Hd [0] [] (i2.ok g5)) ?_ ?_
        ·exact An (Ck rfl rfl rfl) Gy
        refine Av ?_;refine Dz (Hd [0] [] (ib.ok g6)) ?_ ?_
        ·intro p hp;replace hp:=(zzq56.1 hp).1;revert p;exact An (Ck rfl rfl rfl) Gy
        refine Tu ?_;refine Av ?_;refine Ch (A7 rfl rfl rfl rfl rfl rfl rfl) ?_;refine B2 ?_;rw[nd3];exact Bq func327 rfl rfl
       ·have g6:=B7 g6;rw[Da g6];refine Lr (S1:=?S2) 4 148 2 func327 ?hk ?hS
        case hk=>
         refine Dz (Hd [0] [] (i2.ok g5)) ?_ ?_
         ·exact An (Ck rfl rfl rfl) Gy
         refine Av ?_;refine Ls ?_;exact Thr.hd [0] [] (ib.bad g6)
        case hS=>rfl
      ·have g5:=B7 g5;rw[Ky g5,Da g5];refine Lr (S1:=?S3) 2 148 2 func327 ?hk ?hS
       case hk=>
        refine Ls ?_;exact Thr.hd [0] [] (i2.bad g5)
       case hS=>rfl
     ·have g4:=B7 g4;have eb:(B8 (u1.need wTo)).2=u1.need wTo:=H3 g4;rw[eb,Ky g4,Da g4];exact Fu func327 (Thr.hd [0] [] (Jv u1 e wTo (by simp) g3 g4)) rfl
    ·have g3:=B7 g3;rw[Cm g3,H3 g3,Ky g3,Da g3];exact Fu func327 (Thr.hd [0] [] (i1.bad g3)) rfl
   ·have g2:=B7 g2;rw[H3 g2,Cm g2,H3 g2,Ky g2,Da g2];exact Fu func327 (Thr.hd [0] [] (Jv r.step.nameR e Jn (by simp) g1 g2)) rfl
  ·have g1:=B7 g1;rw[Cm g1,H3 g1,Cm g1,H3 g1,Ky g1,Da g1];exact Fu func327 (Thr.hd [0] [] (Sa r.step e hsb g1)) rfl
 have n4:r.takes L9=false:=h4;rw[if_neg (by simp[n4]),Fs n4];refine Ae [0] [] (I4 r e Ga hb (by simp)) ?_;refine Ah (fun h5=>?_) (fun h5=>?_)
 ·have h5':r.takes Ga=true:=h5;have hl:=(Ay h5' (by simp)).1;have s:=Aj hl;have hsb:r.step.bad=false:=hb;rw[hS,if_pos h5',Es h5'];simp only;have ic:=Al1 r.step e (s.ok ho) (s.wk hw) hsb;generalize Dm r.step=q at ic⊢;obtain⟨x,q⟩:=q;simp only at ic⊢;by_cases g1:q.bad=false
  ·refine Ak0 0 [0] [] (ic.ok g1) ?_;refine Bn (Ale (Lu rfl rfl rfl)) ?_;by_cases g2:(q.need [59]).bad=false
   ·rw[Ka g2];refine Ae [0] [] (Ap2 q e (.mk 27 [] 0 [x]) (nd1 27 [] 0 x) g1 g2) ?_;rw[nd1];exact Bq func327 rfl rfl
   ·have g2:=B7 g2;rw[Da g2];exact Fu func327 (Thr.hd [0] [] (Ap1 q e (.mk 27 [] 0 [x]) (nd1 27 [] 0 x) g1 g2)) rfl
  ·have g1:=B7 g1;rw[Cm g1,Da g1];exact Fu func327 (Thr.hd [0] [] (ic.bad g1)) rfl
 have n5:r.takes Ga=false:=h5;rw[hS,if_neg (by simp[n5]),if_neg (by simp[n1]),Fs n5];refine Ae [0] [] (I4 r e I1 hb (by simp)) ?_;refine Ah (fun h6=>?_) (fun h6=>?_)
 ·have h6':r.takes I1=true:=h6;have hsb:r.step.bad=false:=hb;rw[if_pos h6',Es h6'];simp only;by_cases g2:(r.step.need [59]).bad=false
  ·rw[Ka g2];refine Ae [0] [] (Ap2 r.step e (.mk 28 [] 0 []) (Ah2 28 [] 0) hsb g2) ?_;rw[Ah2];exact Bq func327 rfl rfl
  ·have g2:=B7 g2;rw[Da g2];exact Fu func327 (Thr.hd [0] [] (Ap1 r.step e (.mk 28 [] 0 []) (Ah2 28 [] 0) hsb g2)) rfl
 have n6:r.takes I1=false:=h6;rw[if_neg (by simp[n6]),Fs n6];refine Ae [0] [] (I4 r e Jb hb (by simp)) ?_;refine Ey 0 23 (fun h6=>?_) (fun h6=>?_)
 ·have h6':r.takes Jb=true:=h6;have hsb:r.step.bad=false:=hb;rw[if_pos h6',Es h6'];simp only;refine Bi 100 rfl ?_;by_cases g2:(r.step.need [59]).bad=false
  ·rw[Ka g2];refine Ae [0] [] (Ap2 r.step e (.mk 29 [] 0 []) (Ah2 29 [] 0) hsb g2) ?_;rw[Ah2];exact Bq func327 rfl rfl
  ·have g2:=B7 g2;rw[Da g2];exact Fu func327 (Thr.hd [0] [] (Ap1 r.step e (.mk 29 [] 0 []) (Ah2 29 [] 0) hsb g2)) rfl
 ·have h6':r.takes Jb=false:=h6;rw[if_neg (by simp[h6']),Fs h6'];exact Bz 2 0 hset ⟨rfl,rfl,trivial⟩ rfl rfl rfl rfl rfl
theorem Axi:∀f:Nat,Asa f∧Ak6 f:=by
 intro f
 induction f using Nat.strongRecOn with
 |ind f ih=>exact⟨A1k f (fun g hg=>(ih g hg).2),Axf f (fun g hg=>(ih g hg).1)⟩
theorem Akl{f:Nat}{r:RS}(hb:r.bad=false)(hw:r.wk)(ht:r.text=[125]):(Dc (f+1) r).2=r.spoil:=by
 have hk:(r.kind==1)=false:=by
  by_cases h0:r.kind=0
  ·simp[h0]
  ·have hkt:=Oj hw h0;rw[hkt,ht];decide
 have no:∀s:List UInt8,s≠[125]→r.takes s=false:=fun s hs=>by
  rw[Jw hb,ht];simpa using Ne.symm hs
 have hn:r.nameR=r.spoil:=by simp[RS.nameR,RS.named,hb,hk]
 have hsb:r.spoil.bad=true:=rfl;simp only[Dc];rw[if_neg (by simp[no]),if_neg (by simp[no]),if_neg (by simp[no])];simp only[Cz];rw[if_neg (by simp[no]),if_neg (by simp[no]),if_neg (by simp[no]),if_neg (by simp[no])];simp only[Qz];rw[hn,if_neg (by simp[Du hsb]),Cm hsb];simp only[H3 hsb];exact Cm hsb _
theorem Ms{f:Nat}{acc:List Nd}{r:RS}(h:r.bad=true):E9 f acc r=(acc,r):=by
 cases f with
 |zero=>rfl
 |succ f=>simp only[E9];rw[if_neg (by simp[Hq,Du h])]
theorem Ai6{r:RS}(h:r.bad=true):r.ends=r:=by
 simp only[RS.ends];split
 ·exact Are h
 ·rfl
def Abh(T:List Nd×RS):Nd×RS:=(.mk 40 [] 0 (T.1++[.mk 30 [] 0 (Ed 5000 [] T.2).1]),(Ed 5000 [] T.2).2.ends)
theorem Aml(r:RS):Ep r=Abh (E9 2000 [] r):=rfl
theorem Arh{acc:List Nd}{r:RS}(h:r.bad=true):(Abh (acc,r)).2=r:=by
 simp only[Abh,Qr h];exact Ai6 h
abbrev gI:C5:=[(0,.ptr 0 0 0),(2,.ptr 1 0 0),(3,.ptr 2 0 0)]
abbrev sI(q:RS)(e:Nat)(acc:List Nd):St:=⟨[[pc q e],[zN],[[vi 40,str [],vi 0,.sl (Ap acc) (.tok 0)]]],[acc.length]⟩
theorem A1l(q:RS)(e:Nat)(acc:List Nd)(ho:q.ok)(hw:q.wk)(hb:q.bad=false)(hl:acc.length≤2000) :
 AK X ⟨302,f302,1,0⟩ (Lm false 13 f302) gI (sI q e acc) (Rp (Abh (acc,q)) e):=by
 refine D5 ?_;refine Bi 100 rfl ?_;have hq1:=ho.1;have hleft:q.left≤1500:=by simp only[RS.left];omega
 generalize hT:Abh (acc,q)=T;refine En 3 0 3 rfl rfl rfl rfl rfl rfl ?_;refine Ar (ι:=Nat×List Nd×RS) 4 2 (fun i=>i.2.2.ok∧i.2.2.wk∧i.2.2.bad=false∧i.2.1.length+i.1≤5000∧3*i.2.2.left+2≤i.1∧T=(.mk 40 [] 0 (acc++[Nd.mk 30 [] 0 (Ed i.1 i.2.1 i.2.2).1]),(Ed i.1 i.2.1 i.2.2).2.ends)) (fun _=>(5,.ptr 3 0 0)::gI)
  (fun i=>⟨[[pc i.2.2 e],[zN],[[vi 40,str [],vi 0,.sl (Ap acc) (.tok 0)]],[[vi 30,str [],vi 0,.sl (Ap i.2.1) (.tok 1)]]],[acc.length,i.2.1.length]⟩) (fun i=>i.1) ?_ (5000,[],q) ⟨ho,hw,hb,by simp,by simp only;omega,hT.symm⟩ ⟨rfl,rfl,rfl,rfl,trivial⟩
 rintro⟨n,ks,u⟩ ⟨huo,huw,hub,hlen,hfu,hTn⟩ IH;simp only at huo huw hub hlen hfu hTn IH⊢;obtain⟨m,rfl⟩:∃m,n=m+1:=⟨n-1,by omega⟩
 have hL:Ed (m+1) ks u=if !u.bad&&decide (u.at_<u.ws.length)&&!(u.text==[125])then Ed m (ks++[(Dc m u).1]) (Dc m u).2 else(ks,u):=by simp only[Ed]
 have hu1:=huo.1;refine C7 (fun h=>?_) (fun h=>?_)
 ·have hlt:u.at_<u.ws.length:=by
   have h1:=A5 h;rw[D2,Ad9]at h1;omega
  have ih2:=(Axi m).1 u e huo huw hub (by omega) (by omega);by_cases ht:u.text=[125]
  ·obtain⟨p,rfl⟩:∃p,m=p+1:=⟨m-1,by omega⟩
   have hC:=Akl (f:=p) hub huw ht;have g2:(Dc (p+1) u).2.bad=true:=by rw[hC];rfl
   have ihb:=ih2.bad g2;rw[hC]at ihb;rw[if_neg (by simp[ht])]at hL;rw[hL]at hTn;have he:u.ends=u.spoil:=by simp only[RS.ends];rw[if_pos hlt]
   rw[he]at hTn;rw[hTn,Da (show u.spoil.bad=true from rfl)];refine Lr (S1:=?S1) 3 168 3 func302 ?hk ?hS
   case hk=>
    refine Ls ?_;exact Thr.hd [0] [] ihb
   case hS=>rfl
  ·rw[if_pos (by simp[hub,hlt,ht])]at hL;rw[hL]at hTn;have af:=(F5 m).1 u huo;have lf:=Bg af;by_cases g2:(Dc m u).2.bad=false
   ·have hon:u.at_<(Dc m u).2.at_:=by
     obtain⟨p,rfl⟩:∃p,m=p+1:=⟨m-1,by omega⟩
     rcases Y1 p huo with h|h
     ·rw[g2]at h;cases h
     ·exact h
    have hll:(Dc m u).2.left+1≤u.left:=by
     have e1:=af.1;have e2:=af.2.2;simp only[RS.left,e1]at *;omega
    refine Hw 168 3 ?_;refine Dz (Hd [0] [] (ih2.ok g2)) ?_ ?_
    ·exact An (Ck rfl rfl rfl) Gy
    refine Tu ?_;refine Ch (Bu (res:=Ap (ks++[(Dc m u).1])) rfl rfl rfl rfl rfl rfl rfl rfl rfl rfl rfl rfl rfl rfl (Ad ks) (Ew ks) rfl rfl rfl ?_ ?_ rfl) ?_
    ·rw[Ad];simp;omega
    ·rw[Au,Au,Kr];rfl
    refine Av ?_;refine Ch (A7 rfl rfl rfl rfl rfl rfl rfl) ?_;refine B2 ?_;refine IH (m,ks++[(Dc m u).1],(Dc m u).2) ⟨af.ok huo,af.wk huw,g2,by simp;omega,by simp only;omega,hTn⟩ (by simp only;omega) _ _ ⟨rfl,rfl,rfl,rfl,trivial⟩ ?_ rfl rfl;simp[St.drop,Ad,upd]
   ·have g2:=B7 g2;rw[Qr g2,Ai6 g2]at hTn;rw[hTn,Da g2];refine Lr (S1:=?S2) 3 168 3 func302 ?hk ?hS
    case hk=>
     refine Ls ?_;exact Thr.hd [0] [] (ih2.bad g2)
    case hS=>rfl
 ·have hge:u.ws.length≤u.at_:=by
   have h1:=Ba h;rw[D2,Ad9]at h1;omega
  rw[if_neg (by simp;omega)]at hL;rw[hL]at hTn;have he:u.ends=u:=by simp only[RS.ends];rw[if_neg (by omega)]
  rw[he]at hTn;rw[hTn,Ka hub];refine Bi 100 rfl ?_;refine Ait 62 ?_;refine Bn (Bu (res:=Ap (acc++[Nd.mk 30 [] 0 ks])) rfl rfl rfl rfl rfl rfl rfl rfl rfl rfl rfl rfl rfl rfl (Ad acc) (Ew acc) rfl rfl rfl ?_ ?_ rfl) ?_
  ·rw[Ad];simp;omega
  ·rw[Au acc,Au (acc++_),Kr];rfl
  rw[Lh];refine Bq func302 ?_ rfl;rw[Au]
theorem Apw(f:Nat)(acc:List Nd)(r:RS):E9 (f+1) acc r=if Hq r then E9 f (acc++[(Ji r).1]) ((Ji r).2.need [59])else(acc,r):=rfl
theorem Arb{q:RS}(hb:q.bad=false)(hk:q.kind=2):I0 q=(Dp q.text,q.step):=by simp only[I0];rw[if_pos (by simp[hb,hk])]
theorem Af4{q:RS}(hk:q.kind≠2):I0 q=(-1,q.need [63]):=by simp only[I0];rw[if_neg (by simp[hk])]
theorem Af5{q:RS}(h:q.bad=true):(I0 q).2=q:=by simp only[I0];rw[if_neg (by simp[h])];exact Cm h _
theorem Vk{acc:List Nd}{q:RS}{e:Nat}(h:q.bad=true):Rp (Abh (acc,q)) e=fun ae S=>ae=.panic (pan (q.place e))∧S=⟨[[pc q e]],[]⟩:=by
 have hq:=Arh (acc:=acc) h;generalize Abh (acc,q)=T at hq⊢;obtain⟨n,u⟩:=T;simp only at hq;subst hq;exact Da h
set_option maxHeartbeats 800000 in
theorem A1j(r:RS)(e:Nat)(hr:r.ok)(hw:r.wk)(hb:r.bad=false):GoesI 302 (Ep r) r e:=by
 refine GoesI.run func302 ?_;rw[Aml];generalize hTT:E9 2000 [] r=T;have hleft:r.left≤1500:=by have:=hr.1;simp only[RS.left];omega
 refine En 2 0 3 rfl rfl rfl rfl rfl rfl ?_;refine Ar (ι:=Nat×List Nd×RS) 3 1 (fun i=>i.2.2.ok∧i.2.2.wk∧i.2.2.bad=false∧i.2.1.length+i.1≤2000∧i.2.2.left+1≤i.1∧T=E9 i.1 i.2.1 i.2.2) (fun _=>gI) (fun i=>sI i.2.2 e i.2.1) (fun i=>i.1) ?_ (2000,[],r)
  ⟨hr,hw,hb,by simp,by simp only;omega,hTT.symm⟩ ⟨rfl,rfl,rfl,trivial⟩
 rintro⟨n,acc,q⟩ ⟨hq,hqw,hqb,hlen,hfu,hTn⟩ IH;simp only at hq hqw hqb hlen hfu hTn IH⊢;obtain⟨m,rfl⟩:∃m,n=m+1:=⟨n-1,by omega⟩
 rw[Apw]at hTn;refine Bi 100 rfl ?_;refine Ae [0] [] (I4 q e Nm hqb (by simp)) ?_;refine Ah (fun h1=>?_) (fun h1=>?_)
 ·have h1':q.takes Nm=true:=h1;have hD:Hq q=true:=by simp[Hq,h1']
  have hR:Ji q=(.mk 31 q.step.name 0 [],q.step.nameR):=by simp only[Ji];rw[if_pos h1']
  obtain⟨af,hlt⟩:=La hq hD;have a:=Aj hlt;have l1:=Ca hlt;rw[if_pos hD,hR]at hTn;rw[hR]at af;simp only at hTn af;rw[Es h1'];have hsb:q.step.bad=false:=hqb;by_cases g1:q.step.nameR.bad=false
  ·refine Hw 328 3 ?_;refine Dz (Hd [0] [] (Xb q.step e hsb g1)) ?_ ?_
   ·exact An (Ck rfl rfl rfl) Gy
   refine Av ?_;refine Wy ?_;refine Ch (Bu (res:=Ap (acc++[.mk 31 q.step.name 0 []])) rfl rfl rfl rfl rfl rfl rfl rfl rfl rfl rfl rfl rfl rfl (Ad acc) (Ew acc) rfl rfl rfl ?_ ?_ rfl) ?_
   ·rw[Ad];simp;omega
   ·rw[Au acc,Au (acc++_),Kr];rfl
   refine Av ?_;refine Ch (A7 rfl rfl rfl rfl rfl rfl rfl) ?_;refine B2 ?_;by_cases g2:(q.step.nameR.need [59]).bad=false
   ·refine Ae [0] [] (Ly q.step.nameR e [59] (by simp) g1 g2) ?_;have an:=af.trans (Bb (s:=[59]) (af.ok (a.ok hq)) (by simp));have ln:=Bg an;have at':=a.trans an;refine IH (m,acc++[.mk 31 q.step.name 0 []],q.step.nameR.need [59]) ⟨at'.ok hq,at'.wk hqw,g2,by simp;omega,by simp only;omega,hTn⟩ (by simp only;omega) _ _ ⟨rfl,rfl,rfl,trivial⟩ ?_ rfl rfl;simp[St.drop,Ad,upd]
   ·have g2:=B7 g2;rw[Ms g2]at hTn;rw[hTn,Vk g2];exact Fu func302 (Thr.hd [0] [] (Jv q.step.nameR e [59] (by simp) g1 g2)) rfl
  ·have g1:=B7 g1;rw[Cm g1,Ms g1]at hTn;rw[hTn,Vk g1];refine Lr (S1:=?S1) 3 328 3 func302 ?hk ?hS
   case hk=>
    refine Ls ?_;exact Thr.hd [0] [] (Sa q.step e hsb g1)
   case hS=>rfl
 have h1':q.takes Nm=false:=h1;rw[Fs h1'];refine Ae [0] [] (I4 q e Fj hqb (by simp)) ?_;refine Ey 0 13 (fun h2=>?_) (fun h2=>?_)
 ·have h2':q.takes Fj=true:=h2;have hD:Hq q=true:=by simp[Hq,h2']
  have hR:Ji q=(.mk 32 q.step.name (I0 (q.step.nameR.need [91])).1 [],(I0 (q.step.nameR.need [91])).2.need [93]):=by simp only[Ji];rw[if_neg (by simp[h1'])]
  obtain⟨af,hlt⟩:=La hq hD;have a:=Aj hlt;have l1:=Ca hlt;rw[if_pos hD,hR]at hTn;rw[hR]at af;simp only at hTn af;rw[Es h2'];have hsb:q.step.bad=false:=hqb;by_cases g1:q.step.nameR.bad=false
  ·have b:=a.trans (Cv (a.ok hq));refine Ae [0] [] (Xb q.step e hsb g1) ?_;by_cases g2:(q.step.nameR.need [91]).bad=false
   ·have c:=b.trans (Bb (s:=[91]) (b.ok hq) (by simp));refine Ae [0] [] (Ly q.step.nameR e [91] (by simp) g1 g2) ?_;generalize q.step.nameR.need [91]=u at g2 c hTn af⊢;have fin:∀(v:Int) (u':RS),I0 u=(v,u')→u'.bad=false→AK X ⟨302,f302,1,0⟩ (Lm false 11 f302) ((4,.ptr 3 0 0)::gI)
     ⟨[[pc u' e],[zN],[[vi 40,str [],vi 0,.sl (Ap acc) (.tok 0)]],[[vi 32,str q.step.name,vi v,.sl [] .tight]]],[acc.length]⟩ (Rp (Abh T) e):=fun v u' hv hub=>by
     rw[hv]at hTn af;simp only at hTn af;rw[←Az4]at hTn;refine D5 ?_;refine Bi 100 rfl ?_;by_cases g4:(u'.needs [[93],[59]]).bad=false
     ·refine Ae [0] [] (Al2 u' e [[93],[59]] (by simp) (by simp) hub g4) ?_;refine Ait 42 ?_;refine Bn (Bu (res:=Ap (acc++[.mk 32 q.step.name v []])) rfl rfl rfl rfl rfl rfl rfl rfl rfl rfl rfl rfl rfl rfl (Ad acc) (Ew acc) rfl rfl rfl ?_ ?_ rfl) ?_
      ·rw[Ad];simp;omega
      ·rw[Au acc,Au (acc++_),Kr];rfl
      have an:q.step.after (u'.needs [[93],[59]]):=af.trans (Bb (s:=[59]) (af.ok (a.ok hq)) (by simp));have ln:=Bg an;have at':=a.trans an;refine IH (m,acc++[.mk 32 q.step.name v []],u'.needs [[93],[59]]) ⟨at'.ok hq,at'.wk hqw,g4,by simp;omega,by simp only;omega,hTn⟩ (by simp only;omega) _ _ ⟨rfl,rfl,rfl,trivial⟩ ?_ rfl rfl;simp[St.drop,Ad,upd]
     ·have g4:=B7 g4;rw[Ms g4]at hTn;rw[hTn,Vk g4];exact Fu func302 (Thr.hd [0] [] (Ahp u' e [[93],[59]] (by simp) (by simp) hub g4)) rfl
    refine Ae [0] [] (I4 u e [63] g2 (by simp)) ?_;refine Ey 11 0 (fun h3=>?_) (fun h3=>?_)
    ·have h3':u.takes [63]=true:=h3;have hk:u.kind≠2:=fun hk=>by
      have hkt:=Oj (c.wk hqw) (by omega);have ht:u.text=[63]:=by rw[Jw g2]at h3';simpa using h3'
      rw[hk,ht]at hkt;revert hkt;decide
     have hN:u.need [63]=u.step:=by simp[RS.need,h3']
     rw[Es h3'];exact Bz 4 1 (fin (-1) u.step (by rw[Af4 hk,hN]) g2) ⟨rfl,rfl,rfl,rfl,trivial⟩ rfl rfl rfl rfl rfl
    ·have h3':u.takes [63]=false:=h3;rw[Fs h3'];by_cases hk:u.kind=2
     ·refine Agr 11 [0] [] (Az2 u e (c.wk hqw) hk) ?_;exact Bz 4 1 (fin (Dp u.text) u.step (Arb g2 hk) g2) ⟨rfl,rfl,rfl,rfl,trivial⟩ rfl rfl rfl rfl rfl
     ·have hs:(u.need [63]).bad=true:=by simp[RS.need,h3',RS.spoil]
      have hp:(u.need [63]).place e=u.place e:=Adp h3' e;have hpc:pc (u.need [63]) e=pc u e:=Aot h3' e;rw[Af4 hk]at hTn;simp only at hTn;rw[Cm hs,Cm hs,Ms hs]at hTn;rw[hTn,Vk hs,hp,hpc];exact Fu func302 (Thr.hd [0] [] (A1i u e hk)) rfl
   ·have g2:=B7 g2;rw[Af5 g2,Cm g2,Cm g2,Ms g2]at hTn;rw[hTn,Vk g2];exact Fu func302 (Thr.hd [0] [] (Jv q.step.nameR e [91] (by simp) g1 g2)) rfl
  ·have g1:=B7 g1;rw[Cm g1,Af5 g1,Cm g1,Cm g1,Ms g1]at hTn;rw[hTn,Vk g1];exact Fu func302 (Thr.hd [0] [] (Sa q.step e hsb g1)) rfl
 ·have h2':q.takes Fj=false:=h2;rw[Fs h2'];rw[if_neg (by simp[Hq,h1',h2'])]at hTn;rw[hTn];exact Bz 3 1 (A1l q e acc hq hqw hqb (by omega)) ⟨rfl,rfl,rfl,trivial⟩ rfl rfl rfl rfl rfl
end Go.V
