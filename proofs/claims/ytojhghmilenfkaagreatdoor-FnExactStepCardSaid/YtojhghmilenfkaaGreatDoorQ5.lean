/- A part of the proof of the claim that the last text states: no condition of its own. -/
import Derived.Test.YtojhghmilenfkaaGreatDoorQ4
set_option linter.unusedVariables false
set_option linter.unusedSimpArgs false
namespace Go.V
open Go Go.Proofs Go.Proofs.Tryz
def Do(s:Ad):Int:=if has U7 s then 4 else if nameS s then 1 else if D8 s≥0 then 2 else if has Kp s then 3 else 0
theorem A25(s:Ad)(hs:s.length≤1000000000):Pure X 284 [str s] (vi (Do s)):=by
 refine Pure.run func284 ?_;refine Aj (A03 s) ?_;refine Ai (fun h1=>?_) (fun h1=>?_)
 ·refine Az func284 ?_;simp[Do,h1,De]
 refine Aj (Am5 s hs) ?_;refine Ai (fun h2=>?_) (fun h2=>?_)
 ·refine Az func284 ?_;simp[Do,h1,h2,De]
 refine Aj (Ad5 s) ?_;refine Ai (fun h3=>?_) (fun h3=>?_)
 ·refine Az func284 ?_;have:=A6 h3;simp[Do,h1,h2,this,De]
 have h3':=Bd h3;refine Aj (Au2 s) ?_;refine Ai (fun h4=>?_) (fun h4=>?_)
 ·refine Az func284 ?_;simp only[Do,h1,h2,h4,if_neg h3',De];rfl
 ·refine Az func284 ?_;simp only[Do,h1,h2,h4,if_neg h3',De];rfl
def Cj:Bool→Ad→Nat
 |_,[]=>0
 |false,c::l=>if c==32||c==10 then 1+Cj false l else if c==35 then 1+Cj true l else 0
 |true,c::l=>if c==10 then 1+Cj false l else 1+Cj true l
theorem Zm:∀(l:Ad)(b:Bool),Cj b l≤l.length
 |[],b=>by cases b<;>simp[Cj]
 |c::l,b=>by
  have h1:=Zm l false;have h2:=Zm l true;cases b
  ·simp only[Cj,N6]
   repeat' split
   all_goals omega
  ·simp only[Cj,N6]
   repeat' split
   all_goals omega
theorem Au3(s:Ad)(a:Nat)(ha:a≤s.length)(hs:s.length≤1000000000):Pure X 282 [str s,vi a] (vi (a+Cj false (s.drop a):Nat)):=by
 refine Pure.run func282 ?_;generalize hT:a+Cj false (s.drop a)=T;refine Ar (ι:=Nat) 0 0 (fun i=>i≤s.length∧T=i+Cj false (s.drop i)) (fun i=>[(1,vi i),(0,str s)]) (fun _=>⟨[],[]⟩) (fun i=>s.length-i) ?_ a ⟨ha,hT.symm⟩
  ⟨rfl,rfl,trivial⟩
 intro i hi IH;refine Cp (fun h=>?_) (fun h=>?_)
 ·have hlt:i<s.length:=by have:=A6 h;rw[Gj]at this;omega
  obtain⟨x,hx⟩:=Ab s hlt;have hd:Cj false (s.drop i)=if x==32||x==10 then 1+Cj false (s.drop (i+1))else if x==35 then 1+Cj true (s.drop (i+1))else 0:=by rw[Bp hx];rfl
  have hd2:Cj true (s.drop i)=if x==10 then 1+Cj false (s.drop (i+1))else 1+Cj true (s.drop (i+1)):=by rw[Bp hx];rfl
  refine Jy i (by omega) hx ?_;refine Db (fun h2=>?_) (fun h2=>?_)
  ·have h2':(x==32)=true:=by rw[←cb];exact h2
   refine Ay ?_;exact IH (i+1) ⟨hlt,by rw[hi.2,hd,h2'];simp;omega⟩ (by omega) _ _ ⟨vsx (by omega),rfl,trivial⟩ rfl rfl rfl
  ·have h2':(x==32)=false:=by rw[←cb];exact h2
   refine Jy i (by omega) hx ?_;refine Ai (fun h3=>?_) (fun h3=>?_)
   ·have h3':(x==10)=true:=by rw[←cb];exact h3
    exact IH (i+1) ⟨hlt,by rw[hi.2,hd,h2',h3'];simp;omega⟩ (by omega) _ _ ⟨vsx (by omega),rfl,trivial⟩ rfl rfl rfl
   ·have h3':(x==10)=false:=by rw[←cb];exact h3
    refine Jy i (by omega) hx ?_;refine Ai (fun h4=>?_) (fun h4=>?_)
    ·have h4':(x==35)=true:=by rw[←cb];exact h4
     refine Ar (ι:=Nat) 0 0 (fun j=>i≤j∧j≤s.length∧T=j+Cj true (s.drop j)) (fun j=>[(1,vi j),(0,str s)]) (fun _=>⟨[],[]⟩) (fun j=>s.length-j) ?_ i
      ⟨Bt _,hi.1,by rw[hi.2,hd,hd2,h2',h3',h4'];rfl⟩ ⟨rfl,rfl,trivial⟩
     intro j hj IH2;obtain⟨hj1,hj2,hj3⟩:=hj;refine Ba 100 rfl ?_;refine Db (fun h5=>?_) (fun h5=>?_)
     ·have hltj:j<s.length:=by have:=A6 h5;rw[Gj]at this;omega
      obtain⟨y,hy⟩:=Ab s hltj;have hdj:Cj true (s.drop j)=if y==10 then 1+Cj false (s.drop (j+1))else 1+Cj true (s.drop (j+1)):=by rw[Bp hy];rfl
      have hdf:(y==10)=true→Cj false (s.drop j)=1+Cj false (s.drop (j+1)):=fun hy10=>by rw[Bp hy];simp only[Cj];rw[hy10];simp
      refine Jy j (by omega) hy ?_;refine Ai (fun h6=>?_) (fun h6=>?_)
      ·have h6':(y==10)=false:=by rw[←cb];have:(!((y.toNat:Int)==10))=true:=h6;simpa using this
       exact IH2 (j+1) ⟨by omega,hltj,by rw[hj3,hdj,h6'];simp;omega⟩ (by omega) _ _ ⟨vsx (by omega),rfl,trivial⟩ rfl rfl rfl
      ·have h6':(y==10)=true:=by rw[←cb];have:(!((y.toNat:Int)==10))=false:=h6;simpa using this
       have hne:i≠j:=fun e=>by
        subst e;rw[hx]at hy;cases hy;rw[h3']at h6';cases h6'
       exact IH j ⟨hj2,by rw[hj3,hdj,h6',hdf h6'];rfl⟩ (by omega) _ _ ⟨rfl,rfl,trivial⟩ rfl rfl rfl
     ·have hje:j=s.length:=by have:=Bd h5;rw[Gj]at this;omega
      refine Ah ?_;exact IH j ⟨hj2,by rw[hj3,hje,Hr];rfl⟩ (by omega) _ _ ⟨rfl,rfl,trivial⟩ rfl rfl rfl
    ·have h4':(x==35)=false:=by rw[←cb];exact h4
     refine Az func282 ?_;rw[hi.2,hd,h2',h3',h4'];rfl
 ·have hie:i=s.length:=by have:=Bd h;rw[Gj]at this;omega
  refine Az func282 ?_;rw[hi.2,hie,Hr];rfl
def Hf:Ad→Nat
 |[]=>0
 |c::l=>if E4 c||digit c then 1+Hf l else 0
def Lx(r:Ad):Nat:=match r with
 |[]=>0
 |c::l=>if E4 c||digit c then Hf (c::l)else match l with
  |[]=>1
  |d::_=>if has Kp [c,d]then 2 else 1
theorem A5j(s:Ad)(a:Nat)(ha:a<s.length)(hs:s.length≤1000000000):Pure X 283 [str s,vi a] (vi (a+Lx (s.drop a):Nat)):=by
 refine Pure.run func283 ?_;generalize hT:a+Lx (s.drop a)=T;obtain⟨c,hc⟩:=Ab s ha;have hd:=Bp hc;have L:(E4 c||digit c)=true→∀F,Sub [(1,vi a),(0,str s)] F→PG 283 f283 (J6 true 2 f283) F (vi T):=fun hw F hF=>by
  have hT':T=a+Hf (s.drop a):=by rw[←hT,hd];simp only[Lx];rw[hw];rfl
  refine Dj ?_;refine Ar (ι:=Nat) 0 0 (fun i=>i≤s.length∧T=i+Hf (s.drop i)) (fun i=>[(1,vi i),(0,str s)]) (fun _=>⟨[],[]⟩) (fun i=>s.length-i) ?_ a ⟨by omega,hT'⟩
   hF
  intro i hi IH;refine Ba 100 rfl ?_;refine Db (fun h5=>?_) (fun h5=>?_)
  ·have hlt:i<s.length:=by have:=A6 h5;rw[Gj]at this;omega
   obtain⟨y,hy⟩:=Ab s hlt;have hdi:Hf (s.drop i)=if E4 y||digit y then 1+Hf (s.drop (i+1))else 0:=by rw[Bp hy];rfl
   refine Jy i (by omega) hy ?_;refine Aj (Zg y) ?_;refine Db (fun h6=>?_) (fun h6=>?_)
   ·refine Ay ?_;exact IH (i+1) ⟨hlt,by rw[hi.2,hdi,h6];simp;omega⟩ (by omega) _ _ ⟨vsx (by omega),rfl,trivial⟩ rfl rfl rfl
   ·refine Jy i (by omega) hy ?_;refine Aj (Acm y) ?_;refine Ai (fun h7=>?_) (fun h7=>?_)
    ·exact IH (i+1) ⟨hlt,by rw[hi.2,hdi,h7];simp;omega⟩ (by omega) _ _ ⟨vsx (by omega),rfl,trivial⟩ rfl rfl rfl
    ·refine Az func283 ?_;rw[hi.2,hdi,h6,h7];rfl
  ·have hie:i=s.length:=by have:=Bd h5;rw[Gj]at this;omega
   refine Ah ?_;refine Az func283 ?_;rw[hi.2,hie,Hr];rfl
 refine Jy a (by omega) hc ?_;refine Aj (Zg c) ?_;refine Db (fun h1=>?_) (fun h1=>?_)
 ·refine Ay ?_;refine L (by rw[h1];rfl) _ ?_;exact⟨rfl,rfl,trivial⟩
 ·refine Jy a (by omega) hc ?_;refine Aj (Acm c) ?_;refine Ai (fun h2=>?_) (fun h2=>?_)
  ·refine L (by rw[h2];simp) _ ?_;exact⟨rfl,rfl,trivial⟩
  ·have hw1:IntKind.i64.wrap ((a:Int)+1)=(a:Int)+1:=Ac (by omega) (by omega);have hw2:IntKind.i64.wrap ((a:Int)+2)=(a:Int)+2:=Ac (by omega) (by omega);have hTT:T=a+(match s.drop (a+1)with
    |[]=>1
    |d::_=>if has Kp [c,d]then 2 else 1):=by rw[←hT,hd];simp only[Lx];rw[h1,h2];rfl
   refine Db (fun h3=>?_) (fun h3=>?_)
   ·have hlt:a+1<s.length:=by have:=A6 h3;rw[hw1,Gj]at this;omega
    obtain⟨d,hdd⟩:=Ab s hlt;rw[Bp hdd]at hTT;simp only at hTT;refine Bs (P3 (r:=[c,d]) rfl rfl rfl rfl rfl rfl rfl rfl ?_ ?_ ?_ ?_) ?_
    ·omega
    ·rw[hw2];omega
    ·rw[hw2];omega
    ·rw[hw2];have e1:((a:Int)+2).toNat=a+2:=by omega
     have e2:(a:Int).toNat=a:=by omega
     rw[e1,e2,List.drop_take,hd,Bp hdd];have e3:a+2-a=2:=by omega
     rw[e3];rfl
    refine Aj (Au2 [c,d]) ?_;refine Ai (fun h4=>?_) (fun h4=>?_)
    ·refine Az func283 ?_;rw[hTT,h4,hw2];simp[De]
    ·refine Az func283 ?_;rw[hTT,h4,hw1];simp[De]
   ·have hge:s.length≤a+1:=by have:=Bd h3;rw[hw1,Gj]at this;omega
    refine Ah ?_;refine Az func283 ?_;rw[hTT,Aet hge,hw1];simp[De]
structure Wd where
 kind:Int
 text:List UInt8
 pos:Nat
def Vs(w:Wd):An:=[vi w.kind,str w.text,vi w.pos]
def H8(l:List Wd):A7:=l.map Vs
theorem Ef(l:List Wd):(H8 l).length=l.length:=by simp[H8]
theorem Aen(l:List Wd):Mf 3 (H8 l)=true:=Pf (f:=Vs) (fun _=>rfl) l
theorem Rw{l:List Wd}{i:Nat}{w:Wd}(h:l[i]?=some w):(H8 l)[i]?=some (Vs w):=by simp[H8,h]
instance{n m:Nat}{l:List Wd}:OKR n m (H8 l):=⟨fun r hr x hx=>by
 obtain⟨s,_,rfl⟩:=zzq50.1 hr;simp[Vs]at hx;rcases hx with rfl|rfl|rfl<;>exact .val _⟩
def H6:Nat→Nat→Ad→List Wd→List Wd×Int×Nat
 |0,_,_,out=>(out,0,0)
 |f+1,a,r,out=>match r with
  |[]=>(out,0,0)
  |c::l=>
   let n:=Lx (c::l)
   let t:=(c::l).take n
   let k:=Do t
   if k==0 then([],2,a)else if out.length==1500 then([],3,a)else
    let b:=Cj false ((c::l).drop n)
    H6 f (a+n+b) ((c::l).drop (n+b)) (out++[⟨k,t,a⟩])
def Da(s:Ad):List Wd×Int×Nat:=
 if s.length>4000 then([],1,0)else H6 (s.length+1) (Cj false s) (s.drop (Cj false s)) []
def A4j(o:List Wd×Int×Nat):AV:=.tup [.sl (H8 o.1) .no,.agg [vi o.2.1,vi o.2.2]]
theorem Yg:∀l:Ad,Hf l≤l.length
 |[]=>by simp[Hf]
 |c::l=>by
  have:=Yg l;simp only[Hf,N6];split<;>omega
theorem Aog(c:UInt8)(l:Ad):1≤Lx (c::l)∧Lx (c::l)≤(c::l).length:=by
 simp only[Lx];split
 ·rename_i h;refine⟨?_,Yg _⟩;simp only[Hf];rw[if_pos h];omega
 ·cases l with
  |nil=>simp
  |cons d l=>simp only;split<;>simp
theorem Ay7(s:Ad)(hs:s.length≤1000000000):Pure X 262 [str s] (A4j (Da s)):=by
 refine Pure.run func262 ?_;refine Ai (fun h=>?_) (fun h=>?_)
 ·refine Ao func262 ?_;have:=A6 h;rw[Gj]at this;simp only[Da];rw[if_pos (by omega)];rfl
 have hlen:¬s.length>4000:=by have:=Bd h;rw[Gj]at this;omega
 generalize hT:Da s=T;have hT':T=H6 (s.length+1) (Cj false s) (s.drop (Cj false s)) []:=by rw[←hT];simp only[Da];rw[if_neg hlen]
 refine Aj (Au3 s 0 (Cb _) hs) ?_;refine R6 (d:=4) rfl rfl rfl ?_;have hsk:=Zm s false;refine Ar (ι:=Nat×List Wd) 1 1 (fun i=>i.1≤s.length∧i.2.length≤1500∧∃f,s.length-i.1<f∧T=H6 f i.1 (s.drop i.1) i.2) (fun i=>[(5,vi i.1),(4,.sl (H8 i.2) (.tok 0)),(0,str s),(3,.ptr 0 0 0)])
  (fun i=>⟨[[[vi 0,vi 0]]],[i.2.length]⟩) (fun i=>s.length-i.1) ?_ (Cj false s,[]) ⟨hsk,Cb _,s.length+1,by simp only;omega,hT'⟩
  ⟨by simp[lk],rfl,rfl,rfl,trivial⟩
 rintro⟨a,out⟩ ⟨ha,hout,f,hf,hTa⟩ IH;simp only at ha hout hf hTa IH⊢;refine Cp (fun h=>?_) (fun h=>?_)
 ·have hlt:a<s.length:=by have:=A6 h;rw[Gj]at this;omega
  obtain⟨c,hc⟩:=Ab s hlt;have hd:=Bp hc;obtain⟨g,rfl⟩:∃g,f=g+1:=⟨f-1,by omega⟩
  obtain⟨n,hn⟩:∃n,Lx (s.drop a)=n:=⟨_,rfl⟩
  have hbd:=Aog c (s.drop (a+1));rw[←hd,hn]at hbd;have hdl:(s.drop a).length=s.length-a:=by simp
  rw[hdl]at hbd;obtain⟨t,ht⟩:∃t,(s.drop a).take n=t:=⟨_,rfl⟩
  have htl:t.length≤1000000000:=by rw[←ht];simp;omega
  have hstep:T=if Do t==0 then([],2,a)else if out.length==1500 then([],3,a)else
   H6 g (a+n+Cj false (s.drop (a+n))) (s.drop (a+n+Cj false (s.drop (a+n)))) (out++[⟨Do t,t,a⟩]):=by
   rw[hTa]
   conv=>lhs;unfold H6
   rw[hd];simp only;rw[←hd,hn,ht,Aes,Aes];rw[show a+(n+Cj false (s.drop (a+n)))=a+n+Cj false (s.drop (a+n)) by omega]
  have sub:∀{F:Cw} {ops:Array Oper} {i:Nat} {o:Oper} {ty:Nat} {p:Operand} {lo hi:Option Operand} {y:Ty} (ho:ops[i]?=some o) (hw:Bc ops F o=some true) (hop:o.op=.slice ty p lo hi none)
   (hp:Dv X F p=some (str s))(hlo:T9 X F lo 0=some (a:Int))(hhi:T9 X F hi (s.length:Int)=some ((a+Lx (s.drop a):Nat):Int))(hy:X.ty ty=some y)(hyk:y.k=.string){N:Nat}{S:St},Ndo X N ops i o F (str t) S S:=
   fun{F ops i o ty p lo hi y} ho hw hop hp hlo hhi hy hyk {N S}=>by
    refine P3 ho hw hop hp hlo hhi hy hyk ?_ ?_ ?_ ?_
    ·omega
    ·rw[hn];omega
    ·rw[hn];omega
    ·have e1:(((a+Lx (s.drop a):Nat):Int)).toNat=a+n:=by rw[hn];omega
     have e2:(a:Int).toNat=a:=by omega
     rw[e1,e2,List.drop_take,show a+n-a=n by omega,ht]
  refine Aj (A5j s a hlt hs) ?_;refine Bs (sub rfl rfl rfl rfl rfl rfl rfl rfl) ?_;refine Aj (A25 t htl) ?_;refine Ai (fun h2=>?_) (fun h2=>?_)
  ·have h2':(Do t==0)=true:=h2;refine Ao func262 ?_;rw[hstep,h2'];rfl
  have h2':(Do t==0)=false:=h2;refine Ai (fun h3=>?_) (fun h3=>?_)
  ·have h3':(out.length==1500)=true:=by
    have:(((H8 out).length:Int)==1500)=true:=h3;rw[Ef]at this;simp at this⊢;omega
   refine Ao func262 ?_;rw[hstep,h2',h3'];rfl
  have h3':(out.length==1500)=false:=by
   have:(((H8 out).length:Int)==1500)=false:=h3;rw[Ef]at this;simp at this⊢;omega
  have h3'':out.length≠1500:=by simpa using h3'
  refine Bs (sub rfl rfl rfl rfl rfl rfl rfl rfl) ?_;refine Bs (Cn (res:=H8 (out++[⟨Do t,t,a⟩])) rfl rfl rfl rfl rfl rfl rfl rfl rfl rfl rfl rfl rfl rfl (Ef out) (Aen out) rfl rfl rfl ?_ ?_ rfl) ?_
  ·rw[Ef];simp;omega
  ·simp[H8,Vs]
  have hsl:a+Lx (s.drop a)≤s.length:=by rw[hn];omega
  refine Aj (Au3 s (a+Lx (s.drop a)) hsl hs) ?_;have hsk2:=Zm (s.drop (a+n)) false;have hdl2:(s.drop (a+n)).length=s.length-(a+n):=by simp
  rw[hdl2]at hsk2;refine IH (a+n+Cj false (s.drop (a+n)),out++[⟨Do t,t,a⟩]) ⟨by simp only;omega,by simp;omega,g,by simp only;omega,by rw[hstep,h2',h3'];rfl⟩ (by simp only;omega) _ _ ⟨?_,rfl,rfl,rfl,trivial⟩ ?_ rfl rfl
  ·rw[←hn];rfl
  ·simp[St.drop,Ef]
 ·have hae:a=s.length:=by have:=Bd h;rw[Gj]at this;omega
  refine Ao func262 ?_;obtain⟨g,rfl⟩:∃g,f=g+1:=⟨f-1,by omega⟩
  rw[hTa,hae,Hr];rfl
theorem Nb(n lo hi:Int):Pure X 108 [vi n,vi lo,vi hi] (vb (A8 n lo hi)):=by
 refine Pure.run func108 ?_;refine Db (fun h=>?_) (fun h=>?_)
 ·refine Az func108 ?_;simp_all [A8,De]
 ·refine Az func108 ?_;simp_all [A8,De];omega
theorem Acr(n:Int):Pure X 132 [vi n] (vb (A8 n (-1000000) 1000000)):=by
 refine Pure.run func132 ?_;refine Aj (Nb n (-1000000) 1000000) ?_;exact Az func132 rfl
theorem Agg(n m:Int)(hm:-1000000000≤m)(hm':m≤1000000000):Pure X 53 [vi n,vi m] (vb (A8 n 0 (m-1))):=by
 refine Pure.run func53 ?_;have hw:IntKind.i64.wrap (m-1)=m-1:=Ac (by omega) (by omega);have hq:=Nb n 0 (IntKind.i64.wrap (m-1));refine Aj hq ?_;refine Az func53 ?_;rw[hw];rfl
theorem Aea(c:UInt8):Pure X 340 [vc c] (vb (E4 c)):=by
 refine Pure.run func340 ?_;refine Db (fun h=>?_) (fun h=>?_)
 ·refine Az func340 ?_;simp_all [E4,A8,De]
 ·refine Az func340 ?_;simp_all [E4,A8,De];omega
theorem Aix(c:UInt8):Pure X 341 [vc c] (vb (digit c)):=by
 refine Pure.run func341 ?_;refine Db (fun h=>?_) (fun h=>?_)
 ·refine Az func341 ?_;simp_all [digit,A8,De]
 ·refine Az func341 ?_;simp_all [digit,A8,De];omega
def Fe:Nat→List Ad→Ad→Int
 |_,[],_=>-1
 |i,x::l,s=>if s==x then i else Fe (i+1) l s
theorem U6(l:List Ad):∀(i:Nat)(s:Ad),decide (Fe i l s≥0)=has l s:=by
 induction l with
 |nil=>intro i s;simp[Fe,has]
 |cons x l ih=>
  intro i s;have hb:has (x::l) s=(x==s||has l s):=rfl;rw[hb,←ih (i+1) s];by_cases h:s=x
  ·subst h;simp[Fe]
  ·have h1:(s==x)=false:=by simpa using h
   have h2:(x==s)=false:=by simpa using Ne.symm h
   have:Fe i (x::l) s=Fe (i+1) l s:=by simp only[Fe];rw[if_neg (by simpa using h)]
   rw[this,h2];rfl
theorem Acp(l:List Ad)(s:Ad)(hl:l.length≤1000000000):Pure X 109 [.sl (Eu l) .no,str s] (vi (Fe 0 l s)):=by
 refine Pure.run func109 ?_;refine Ar (ι:=Nat) 0 0 (fun i=>i≤l.length∧Fe 0 l s=Fe i (l.drop i) s) (fun i=>[(8,vi i),(7,vi l.length),(0,.sl (Eu l) .no),(1,str s)]) (fun _=>⟨[],[]⟩) (fun i=>l.length-i) ?_ 0 ⟨Cb _,rfl⟩
  ⟨rfl,by rw[←Ft];rfl,rfl,rfl,trivial⟩
 intro i hi IH;refine Cp (fun h=>?_) (fun h=>?_)
 ·have hlt:i<l.length:=by have:=A6 h;omega
  obtain⟨x,hx⟩:=Ab l hlt;have hd:Fe i (l.drop i) s=if s==x then(i:Int)else Fe (i+1) (l.drop (i+1)) s:=by rw[Bp hx];rfl
  refine Bv i (by omega) (Rr hx) ?_;refine Ai (fun h2=>?_) (fun h2=>?_)
  ·refine Az func109 ?_;have h3:(s==x)=true:=h2;rw[hi.2,hd,h3];rfl
  ·have h3:(s==x)=false:=h2;exact IH (i+1) ⟨hlt,by rw[hi.2,hd,h3];rfl⟩ (by omega) _ _ ⟨vsx (by omega),rfl,rfl,rfl,trivial⟩ rfl rfl rfl
 ·have:i=l.length:=by have:=Bd h;omega
  refine Az func109 ?_;rw[hi.2,this,Hr];rfl
theorem Tq(l:List Ad)(s:Ad)(hl:l.length≤1000000000):Pure X 344 [.sl (Eu l) .no,str s] (vb (has l s)):=by
 refine Pure.run func344 ?_;refine Aj (Acp l s hl) ?_;refine Az func344 ?_;rw[←U6 l 0 s];rfl
theorem Azi(s:Ad):Pure X 342 [str s] (vb (has U7 s)):=by
 refine Pure.run func342 ?_;refine Aj (Tq U7 s (by decide)) ?_;exact Az func342 rfl
def rd(ws:List Wd)(a:Int)(bad:Bool):An:=[.sl (H8 ws) .no,vi a,vb bad]
instance{n m:Nat}{ws:List Wd}{a:Int}{b:Bool}:OKL n m (rd ws a b):=⟨fun x hx=>by
 simp[rd]at hx;rcases hx with rfl|rfl|rfl
 ·exact(inferInstance:OK n m (.sl (H8 ws) .no)).ok
 ·exact .val _
 ·exact .val _⟩
structure RS where
 ws:List Wd
 at_:Nat
 bad:Bool
def rc(r:RS):An:=rd r.ws r.at_ r.bad
instance{n m:Nat}{r:RS}:OKL n m (rc r):=⟨(inferInstance:OKL n m (rd r.ws r.at_ r.bad)).ok⟩
def RS.text(r:RS):Ad:=match r.ws[r.at_]? with
 |some w=>w.text
 |none=>[]
def RS.kind(r:RS):Int:=match r.ws[r.at_]? with
 |some w=>w.kind
 |none=>0
def RS.step(r:RS):RS:=⟨r.ws,r.at_+1,r.bad⟩
def RS.spoil(r:RS):RS:=⟨r.ws,r.at_,true⟩
def RS.takes(r:RS)(s:Ad):Bool:=!(r.bad||!(r.text==s))
def RS.take(r:RS)(s:Ad):RS:=if r.takes s then r.step else r
def RS.need(r:RS)(s:Ad):RS:=if r.takes s then r.step else r.spoil
def RS.named(r:RS):Bool:=!(r.bad||!(r.kind==1))
def RS.name(r:RS):Ad:=if r.named then r.text else[]
def RS.nameR(r:RS):RS:=if r.named then r.step else r.spoil
def RS.ok(r:RS):Prop:=r.ws.length≤1500∧r.at_≤r.ws.length
theorem Aiz(r:RS):Hands X 290 [.ptr 0 0 0] ⟨[[rc r]],[]⟩ (str r.text) ⟨[[rc r]],[]⟩:=by
 obtain⟨ws,a,b⟩:=r;refine Hands.run func290 ?_;refine Anx ?_;refine Ai (fun h=>?_) (fun h=>?_)
 ·have hlt:a<ws.length:=by have:=A6 h;simp only at this;rw[Ef]at this;omega
  obtain⟨x,hx⟩:=Ab ws hlt;refine Eo 0 ?_;refine D6 (fun S'=>Ca (r:=Vs x) rfl rfl rfl rfl rfl rfl rfl rfl rfl ?_ ?_) ?_
  ·simp
  ·exact Rw hx
  refine C9 ?_;refine Bu ?_;refine Bz func290 ?_ rfl;simp[RS.text,hx]
 ·have hge:¬a<ws.length:=by have:=Bd h;simp only at this;rw[Ef]at this;omega
  refine Bz func290 ?_ rfl;simp[RS.text,Oo (show ws.length≤a by omega)]
theorem Ang(r:RS):Hands X 288 [.ptr 0 0 0] ⟨[[rc r]],[]⟩ (vi r.kind) ⟨[[rc r]],[]⟩:=by
 obtain⟨ws,a,b⟩:=r;refine Hands.run func288 ?_;refine Anx ?_;refine Ai (fun h=>?_) (fun h=>?_)
 ·have hlt:a<ws.length:=by have:=A6 h;simp only at this;rw[Ef]at this;omega
  obtain⟨x,hx⟩:=Ab ws hlt;refine Eo 0 ?_;refine D6 (fun S'=>Ca (r:=Vs x) rfl rfl rfl rfl rfl rfl rfl rfl rfl ?_ ?_) ?_
  ·simp
  ·exact Rw hx
  refine C9 ?_;refine Bu ?_;refine Bz func288 ?_ rfl;simp[RS.kind,hx]
 ·have hge:¬a<ws.length:=by have:=Bd h;simp only at this;rw[Ef]at this;omega
  refine Bz func288 ?_ rfl;simp[RS.kind,Oo (show ws.length≤a by omega)]
theorem Acs(r:RS)(hr:r.ok):rd r.ws (IntKind.i64.wrap ((r.at_:Int)+1)) r.bad=rc r.step:=by
 have:=hr.2;have:=hr.1;simp only[rc,RS.step,rd];rw[Ac (by omega) (by omega)];simp
theorem Jl(r:RS)(s:Ad)(hr:r.ok):Hands X 285 [.ptr 0 0 0,str s] ⟨[[rc r]],[]⟩ (vb (r.takes s)) ⟨[[rc (r.take s)]],[]⟩:=by
 refine Hands.run func285 ?_;refine Db (fun h=>?_) (fun h=>?_)
 ·have h':r.bad=true:=h;refine Ay ?_;have ht:r.takes s=false:=by simp[RS.takes,h']
  have hk:r.take s=r:=by simp[RS.take,ht]
  rw[ht,hk];exact Bz func285 rfl rfl
 ·have h':r.bad=false:=h;refine Af [0] [] (Aiz r) ?_;refine Ai (fun h2=>?_) (fun h2=>?_)
  ·have h2':(!(r.text==s))=true:=h2;have ht:r.takes s=false:=by simp only[RS.takes];rw[h',h2'];rfl
   have hk:r.take s=r:=by simp[RS.take,ht]
   rw[ht,hk];exact Bz func285 rfl rfl
  ·have h2':(!(r.text==s))=false:=h2;have ht:r.takes s=true:=by simp only[RS.takes];rw[h',h2'];rfl
   have hk:r.take s=r.step:=by simp[RS.take,ht]
   rw[ht,hk,←Acs r hr];exact Bz func285 rfl rfl
theorem Iz(r:RS)(s:Ad)(hr:r.ok):Hands X 287 [.ptr 0 0 0,str s] ⟨[[rc r]],[]⟩ (.tup []) ⟨[[rc (r.need s)]],[]⟩:=by
 refine Hands.run func287 ?_;refine Af [0] [] (Jl r s hr) ?_;refine Ai (fun h=>?_) (fun h=>?_)
 ·have ht:r.takes s=false:=by simpa using h
  have hk:r.take s=r:=by simp[RS.take,ht]
  have hn:r.need s=r.spoil:=by simp[RS.need,ht]
  rw[hn];refine Ek func287 rfl ?_;rw[hk];rfl
 ·have ht:r.takes s=true:=by simpa using h
  have hk:r.take s=r.need s:=by simp[RS.take,RS.need,ht]
  rw[←hk];exact Ek func287 rfl rfl
theorem Apr(r:RS)(h:r.kind≠0):∃w,r.ws[r.at_]?=some w∧r.kind=w.kind∧r.text=w.text:=by
 cases hw:r.ws[r.at_]? with
 |none=>simp[RS.kind,hw]at h
 |some w=>exact⟨w,rfl,by simp[RS.kind,hw],by simp[RS.text,hw]⟩
theorem A0u(a:Nat)(ha:a≤1000000):IntKind.i64.wrap (IntKind.i64.wrap ((a:Int)+1)-1)=(a:Int):=by
 rw[Ac (n:=(a:Int)+1) (by omega) (by omega),Ac (by omega) (by omega)];omega
theorem X7(r:RS)(hr:r.ok):Hands X 286 [.ptr 0 0 0] ⟨[[rc r]],[]⟩ (str r.name) ⟨[[rc r.nameR]],[]⟩:=by
 have bad:r.named=false→r.name=[]∧r.nameR=r.spoil:=fun h=>⟨by simp[RS.name,h],by simp[RS.nameR,h]⟩
 refine Hands.run func286 ?_;refine Db (fun h=>?_) (fun h=>?_)
 ·have h':r.bad=true:=h;obtain⟨b1,b2⟩:=bad (by simp[RS.named,h']);refine Ay ?_;rw[b1,b2];exact Bz func286 rfl rfl
 ·have h':r.bad=false:=h;refine Af [0] [] (Ang r) ?_;refine Ai (fun h2=>?_) (fun h2=>?_)
  ·have h2':(!(r.kind==1))=true:=h2;obtain⟨b1,b2⟩:=bad (by simp only[RS.named];rw[h',h2'];rfl);rw[b1,b2];exact Bz func286 rfl rfl
  ·have h2':(!(r.kind==1))=false:=h2;have hn:r.named=true:=by simp only[RS.named];rw[h',h2'];rfl
   have hk:r.kind=1:=by simpa using h2'
   obtain⟨w,hw,_,hwt⟩:=Apr r (by omega);have e1:r.name=w.text:=by simp[RS.name,hn,hwt]
   have e2:r.nameR=r.step:=by simp[RS.nameR,hn]
   have hb:=A0u r.at_ (by have:=hr.2;have:=hr.1;omega);rw[e1,e2,←Acs r hr];refine Eo 0 ?_;refine D6 (fun S'=>Ca (r:=Vs w) rfl rfl rfl rfl rfl rfl rfl rfl rfl ?_ ?_) ?_
   ·rw[hb];omega
   ·rw[hb];exact Rw hw
   refine C9 ?_;refine Bu ?_;exact Bz func286 rfl rfl
abbrev nd(n:Nd):AV:=.agg (Ag n)
theorem Apf(k:Int)(a:Nd):Pure X 270 [vi k,nd a] (nd (.mk k [] 0 [a])):=by
 refine Pure.run func270 ?_;refine Ao func270 ?_;show AV.agg [_,_,_,.sl _ _]=AV.agg [_,_,_,.sl (Av [a]) _];rw[Ax [a]];rfl
theorem Zi(k:Int)(a b:Nd):Pure X 231 [vi k,nd a,nd b] (nd (.mk k [] 0 [a,b])):=by
 refine Pure.run func231 ?_;refine Ao func231 ?_;show AV.agg [_,_,_,.sl _ _]=AV.agg [_,_,_,.sl (Av [a,b]) _];rw[Ax [a,b]];rfl
def relS(s:Ad):Int:=if s==[60]then 11 else if s==[60,61]then 12 else if s==[62]then 13 else if s==[62,61]then 14 else if s==[61,61]then 15 else if s==[33,61]then 16 else 0
theorem A5m(s:Ad):Pure X 353 [str s] (vi (relS s)):=by
 refine Pure.run func353 ?_;refine Ai (fun h1=>?_) (fun h1=>?_)
 ·refine Az func353 ?_;have h1':(s==[60])=true:=h1;simp only[relS];rw[h1'];rfl
 refine Ai (fun h2=>?_) (fun h2=>?_)
 ·refine Az func353 ?_;have h1':(s==[60])=false:=h1;have h2':(s==[60,61])=true:=h2;simp only[relS];rw[h1',h2'];rfl
 refine Ai (fun h3=>?_) (fun h3=>?_)
 ·refine Az func353 ?_;have h1':(s==[60])=false:=h1;have h2':(s==[60,61])=false:=h2;have h3':(s==[62])=true:=h3;simp only[relS];rw[h1',h2',h3'];rfl
 refine Ai (fun h4=>?_) (fun h4=>?_)
 ·refine Az func353 ?_;have h1':(s==[60])=false:=h1;have h2':(s==[60,61])=false:=h2;have h3':(s==[62])=false:=h3;have h4':(s==[62,61])=true:=h4;simp only[relS];rw[h1',h2',h3',h4'];rfl
 refine Ai (fun h5=>?_) (fun h5=>?_)
 ·refine Az func353 ?_;have h1':(s==[60])=false:=h1;have h2':(s==[60,61])=false:=h2;have h3':(s==[62])=false:=h3;have h4':(s==[62,61])=false:=h4;have h5':(s==[61,61])=true:=h5;simp only[relS];rw[h1',h2',h3',h4',h5'];rfl
 have h1':(s==[60])=false:=h1;have h2':(s==[60,61])=false:=h2;have h3':(s==[62])=false:=h3;have h4':(s==[62,61])=false:=h4;have h5':(s==[61,61])=false:=h5;refine Ai (fun h6=>?_) (fun h6=>?_)
 ·refine Az func353 ?_;have h6':(s==[33,61])=true:=h6;simp only[relS];rw[h1',h2',h3',h4',h5',h6'];rfl
 ·refine Az func353 ?_;have h6':(s==[33,61])=false:=h6;simp only[relS];rw[h1',h2',h3',h4',h5',h6'];rfl
def Cm:Nd:=.mk 0 [] 0 []
mutual
def Fw:Nat→RS→Nd×RS
 |0,r=>(Cm,r)
 |f+1,r=>
  if r.bad then(Cm,r)
  else if r.takes [45]then(.mk 5 [] 0 [(Fw f r.step).1],(Fw f r.step).2)
  else if r.kind==2 then(.mk 1 [] (D8 r.text) [],r.step)
  else if r.takes [40]then((Fa f r.step).1,(Fa f r.step).2.need [41])
  else if r.takes [108,101,110]then(.mk 4 (r.step.need [40]).name 0 [],(r.step.need [40]).nameR.need [41])
  else if r.nameR.takes [91]then(.mk 3 r.name 0 [(Fa f r.nameR.step).1],(Fa f r.nameR.step).2.need [93])
  else(.mk 2 r.name 0 [],r.nameR)
def Ev:Nat→RS→Nd×RS
 |0,r=>(Cm,r)
 |f+1,r=>Ii f (Fw f r).1 (Fw f r).2
def Ii:Nat→Nd→RS→Nd×RS
 |0,x,r=>(x,r)
 |f+1,x,r=>if r.takes [42]then Ii f (.mk 8 [] 0 [x,(Fw f r.step).1]) (Fw f r.step).2 else(x,r)
def Fa:Nat→RS→Nd×RS
 |0,r=>(Cm,r)
 |f+1,r=>Hn f (Ev f r).1 (Ev f r).2
def Hn:Nat→Nd→RS→Nd×RS
 |0,x,r=>(x,r)
 |f+1,x,r=>
  if r.takes [43]then Hn f (.mk 6 [] 0 [x,(Ev f r.step).1]) (Ev f r.step).2
  else if r.takes [45]then Hn f (.mk 7 [] 0 [x,(Ev f r.step).1]) (Ev f r.step).2
  else(x,r)
end
def RS.after(r r':RS):Prop:=r'.ws=r.ws∧r.at_≤r'.at_∧r'.at_≤r'.ws.length
theorem Fu{r:RS}(h:r.ok):r.after r:=⟨rfl,Bt _,h.2⟩
theorem RS.after.ok{r r':RS}(h:r.after r')(hr:r.ok):r'.ok:=⟨by rw[h.1];exact hr.1,h.2.2⟩
theorem RS.after.trans{r r' r'':RS}(h:r.after r')(k:r'.after r''):r.after r'':=⟨k.1.trans h.1,Vt h.2.1 k.2.1,k.2.2⟩
theorem Apz{r:RS}(h:r.text≠[]):r.at_<r.ws.length:=by
 rcases Ga r.at_ r.ws.length with h'|h'
 ·exact h'
 ·exact absurd (by simp[RS.text,Oo h']) h
theorem Tc{r:RS}(h:r.kind≠0):r.at_<r.ws.length:=by
 rcases Ga r.at_ r.ws.length with h'|h'
 ·exact h'
 ·exact absurd (by simp[RS.kind,Oo h']) h
theorem A2{r:RS}{s:Ad}(h:r.takes s=true)(hs:s≠[]):r.at_<r.ws.length∧r.text=s∧r.bad=false:=by
 simp only[RS.takes,N4,T6,Bool.not_eq_false',zzq34]at h;exact⟨Apz (by rw[h.2];exact hs),h.2,h.1⟩
theorem Ak{r:RS}(h:r.at_<r.ws.length):r.after r.step:=⟨rfl,Nat.le_succ _,h⟩
theorem Qf{r:RS}(h:r.ok):r.after r.spoil:=⟨rfl,Bt _,h.2⟩
theorem Bh{r:RS}{s:Ad}(h:r.ok)(hs:s≠[]):r.after (r.need s):=by
 simp only[RS.need];split
 ·rename_i ht;exact Ak (A2 ht hs).1
 ·exact Qf h
theorem C5{r:RS}(h:r.ok):r.after r.nameR:=by
 simp only[RS.nameR];split
 ·rename_i ht;simp only[RS.named,N4,T6,Bool.not_eq_false',zzq34]at ht;exact Ak (Tc (by omega))
 ·exact Qf h
theorem F4:∀(f:Nat),(∀r:RS,r.ok→r.after (Fw f r).2)∧(∀r:RS,r.ok→r.after (Ev f r).2)∧(∀(x:Nd)(r:RS),r.ok→r.after (Ii f x r).2)∧(∀r:RS,r.ok→r.after (Fa f r).2)∧(∀(x:Nd)(r:RS),r.ok→r.after (Hn f x r).2):=by
 intro f
 induction f with
 |zero=>exact⟨fun r h=>by simp only[Fw];exact Fu h,fun r h=>by simp only[Ev];exact Fu h,fun x r h=>by simp only[Ii];exact Fu h,fun r h=>by simp only[Fa];exact Fu h,fun x r h=>by simp only[Hn];exact Fu h⟩
 |succ f ih=>
  obtain⟨i1,i2,i3,i4,i5⟩:=ih;refine⟨fun r h=>?_,fun r h=>?_,fun x r h=>?_,fun r h=>?_,fun x r h=>?_⟩
  ·simp only[Fw];split
   ·exact Fu h
   split
   ·rename_i ht;have a:=Ak (A2 ht (by simp)).1;exact a.trans (i1 _ (a.ok h))
   split
   ·rename_i hk
    exact Ak (Tc (by have:r.kind=2:=by simpa using hk
                     omega))
   split
   ·rename_i ht;have a:=Ak (A2 ht (by simp)).1;have b:=a.trans (i4 _ (a.ok h));exact b.trans (Bh (b.ok h) (by simp))
   split
   ·rename_i ht;have a:=Ak (A2 ht (by simp)).1;have b:=a.trans (Bh (s:=[40]) (a.ok h) (by simp));have c:=b.trans (C5 (b.ok h));exact c.trans (Bh (c.ok h) (by simp))
   have a:=C5 h;split
   ·rename_i ht;have b:=a.trans (Ak (A2 ht (by simp)).1);have c:=b.trans (i4 _ (b.ok h));exact c.trans (Bh (c.ok h) (by simp))
   ·exact a
  ·simp only[Ev];have a:=i1 r h;exact a.trans (i3 _ _ (a.ok h))
  ·simp only[Ii];split
   ·rename_i ht;have a:=Ak (A2 ht (by simp)).1;have b:=a.trans (i1 _ (a.ok h));exact b.trans (i3 _ _ (b.ok h))
   ·exact Fu h
  ·simp only[Fa];have a:=i2 r h;exact a.trans (i5 _ _ (a.ok h))
  ·simp only[Hn];split
   ·rename_i ht;have a:=Ak (A2 ht (by simp)).1;have b:=a.trans (i2 _ (a.ok h));exact b.trans (i5 _ _ (b.ok h))
   split
   ·rename_i ht;have a:=Ak (A2 ht (by simp)).1;have b:=a.trans (i2 _ (a.ok h));exact b.trans (i5 _ _ (b.ok h))
   ·exact Fu h
abbrev zN:An:=[vi 0,str [],vi 0,.sl [] .tight]
def RS.left(r:RS):Nat:=r.ws.length-r.at_
theorem Bm{r r':RS}(h:r.after r'):r'.left≤r.left:=by have:=h.1;have:=h.2.1;simp only[RS.left,h.1];omega
theorem Ch{r:RS}(h:r.at_<r.ws.length):r.step.left+1=r.left:=by simp only[RS.left,RS.step];omega
def Aw1(f:Nat):Prop:=∀r:RS,r.ok→4*r.left+1≤f→Hands X 368 [.ptr 0 0 0] ⟨[[rc r]],[]⟩ (nd (Fw f r).1) ⟨[[rc (Fw f r).2]],[]⟩
def As3(f:Nat):Prop:=∀r:RS,r.ok→4*r.left+2≤f→Hands X 354 [.ptr 0 0 0] ⟨[[rc r]],[]⟩ (nd (Ev f r).1) ⟨[[rc (Ev f r).2]],[]⟩
def As0(f:Nat):Prop:=∀r:RS,r.ok→4*r.left+3≤f→Hands X 331 [.ptr 0 0 0] ⟨[[rc r]],[]⟩ (nd (Fa f r).1) ⟨[[rc (Fa f r).2]],[]⟩
theorem A3n(f:Nat)(ih:∀g,g<f→Aw1 g):As3 f:=by
 intro r hr hf;obtain⟨g,rfl⟩:∃g,f=g+1:=⟨f-1,by omega⟩
 have a1:=(F4 g).1 r hr;have l1:=Bm a1;refine Hands.run func354 ?_;refine Af [0] [] (ih g (by omega) r hr (by omega)) ?_;obtain⟨x0,hx0⟩:∃x0,(Fw g r).1=x0:=⟨_,rfl⟩
 obtain⟨r0,hr0⟩:∃r0,(Fw g r).2=r0:=⟨_,rfl⟩
 have hT:Ev (g+1) r=Ii g x0 r0:=by simp only[Ev];rw[hx0,hr0]
 rw[hT,hx0,hr0];rw[hr0]at a1 l1;generalize hTT:Ii g x0 r0=T;refine Ar (ι:=Nat×Nd×RS) 3 0 (fun i=>i.2.2.ok∧4*i.2.2.left+1≤i.1∧i.1≤g∧T=Ii i.1 i.2.1 i.2.2) (fun i=>[(0,.ptr 0 0 0),(2,.ptr 1 0 0),(3,.ptr 2 0 0)])
  (fun i=>⟨[[rc i.2.2],[zN],[Ag i.2.1]],[]⟩) (fun i=>i.1) ?_ (g,x0,r0) ⟨a1.ok hr,by simp only;omega,Bt _,hTT.symm⟩ ⟨rfl,rfl,rfl,trivial⟩
 rintro⟨n,x,q⟩ ⟨hq,hn,hng,hTn⟩ IH;simp only at hq hn hng hTn IH⊢;obtain⟨m,rfl⟩:∃m,n=m+1:=⟨n-1,by omega⟩
 refine Ba 100 rfl ?_;refine Af [0] [] (Jl q [42] hq) ?_;refine Ai (fun h=>?_) (fun h=>?_)
 ·have ht:=A2 h (by simp);have hk:q.take [42]=q.step:=by simp[RS.take,h]
  have asx:=Ak ht.1;have ls:=Ch ht.1;have ao:=(F4 m).1 q.step (asx.ok hq);have lo:=Bm ao;rw[hk];refine Af [0] [] (ih m (by omega) q.step (asx.ok hq) (by omega)) ?_;refine Aj (Zi 8 x (Fw m q.step).1) ?_;refine IH (m,.mk 8 [] 0 [x,(Fw m q.step).1],(Fw m q.step).2) ⟨ao.ok (asx.ok hq),by simp only;omega,by simp only;omega,?_⟩ (by simp only;omega) _ _ ⟨rfl,rfl,rfl,trivial⟩ rfl rfl rfl;rw[hTn];simp only[Ii];rw[if_pos h]
 ·have hk:q.take [42]=q:=by simp[RS.take,h]
  have:T=(x,q):=by rw[hTn];simp only[Ii];rw[if_neg (by simp[h])]
  rw[this,hk];exact Bz func354 rfl rfl
theorem A3i(f:Nat)(ih:∀g,g<f→As3 g):As0 f:=by
 intro r hr hf;obtain⟨g,rfl⟩:∃g,f=g+1:=⟨f-1,by omega⟩
 have a1:=(F4 g).2.1 r hr;have l1:=Bm a1;refine Hands.run func331 ?_;refine Af [0] [] (ih g (by omega) r hr (by omega)) ?_;obtain⟨x0,hx0⟩:∃x0,(Ev g r).1=x0:=⟨_,rfl⟩
 obtain⟨r0,hr0⟩:∃r0,(Ev g r).2=r0:=⟨_,rfl⟩
 have hT:Fa (g+1) r=Hn g x0 r0:=by simp only[Fa];rw[hx0,hr0]
 rw[hT,hx0,hr0];rw[hr0]at a1 l1;generalize hTT:Hn g x0 r0=T;refine Ar (ι:=Nat×Nd×RS) 3 0 (fun i=>i.2.2.ok∧4*i.2.2.left+1≤i.1∧i.1≤g∧T=Hn i.1 i.2.1 i.2.2) (fun i=>[(0,.ptr 0 0 0),(2,.ptr 1 0 0),(3,.ptr 2 0 0)])
  (fun i=>⟨[[rc i.2.2],[zN],[Ag i.2.1]],[]⟩) (fun i=>i.1) ?_ (g,x0,r0) ⟨a1.ok hr,by simp only;omega,Bt _,hTT.symm⟩ ⟨rfl,rfl,rfl,trivial⟩
 rintro⟨n,x,q⟩ ⟨hq,hn,hng,hTn⟩ IH;simp only at hq hn hng hTn IH⊢;obtain⟨m,rfl⟩:∃m,n=m+1:=⟨n-1,by omega⟩
 refine Ba 100 rfl ?_;refine Af [0] [] (Jl q [43] hq) ?_;refine Ai (fun h=>?_) (fun h=>?_)
 ·have ht:=A2 h (by simp);have hk:q.take [43]=q.step:=by simp[RS.take,h]
  have asx:=Ak ht.1;have ls:=Ch ht.1;have ao:=(F4 m).2.1 q.step (asx.ok hq);have lo:=Bm ao;rw[hk];refine Af [0] [] (ih m (by omega) q.step (asx.ok hq) (by omega)) ?_;refine Aj (Zi 6 x (Ev m q.step).1) ?_;refine IH (m,.mk 6 [] 0 [x,(Ev m q.step).1],(Ev m q.step).2) ⟨ao.ok (asx.ok hq),by simp only;omega,by simp only;omega,?_⟩ (by simp only;omega) _ _ ⟨rfl,rfl,rfl,trivial⟩ rfl rfl rfl;rw[hTn];simp only[Hn];rw[if_pos h]
 have hk:q.take [43]=q:=by simp[RS.take,h]
 rw[hk];refine Af [0] [] (Jl q [45] hq) ?_;refine Ai (fun h2=>?_) (fun h2=>?_)
 ·have ht:=A2 h2 (by simp);have hk:q.take [45]=q.step:=by simp[RS.take,h2]
  have asx:=Ak ht.1;have ls:=Ch ht.1;have ao:=(F4 m).2.1 q.step (asx.ok hq);have lo:=Bm ao;rw[hk];refine Af [0] [] (ih m (by omega) q.step (asx.ok hq) (by omega)) ?_;refine Aj (Zi 7 x (Ev m q.step).1) ?_;refine IH (m,.mk 7 [] 0 [x,(Ev m q.step).1],(Ev m q.step).2) ⟨ao.ok (asx.ok hq),by simp only;omega,by simp only;omega,?_⟩ (by simp only;omega) _ _ ⟨rfl,rfl,rfl,trivial⟩ rfl rfl rfl;rw[hTn];simp only[Hn];rw[if_neg (by simp[h]),if_pos h2]
 ·have hk:q.take [45]=q:=by simp[RS.take,h2]
  have:T=(x,q):=by rw[hTn];simp only[Hn];rw[if_neg (by simp[h]),if_neg (by simp[h2])]
  rw[this,hk];exact Bz func331 rfl rfl
theorem A5w(f:Nat)(ih:∀g,g<f→Aw1 g)(ihe:∀g,g<f→As0 g):Aw1 f:=by
 intro r hr hf;obtain⟨g,rfl⟩:∃g,f=g+1:=⟨f-1,by omega⟩
 refine Hands.run func368 ?_;refine Ai (fun h=>?_) (fun h=>?_)
 ·have h':r.bad=true:=h;have hT:Fw (g+1) r=(Cm,r):=by simp only[Fw];rw[if_pos h']
  rw[hT];exact Bz func368 rfl rfl
 have h':r.bad=false:=h;refine Af [0] [] (Jl r [45] hr) ?_;refine Ai (fun h1=>?_) (fun h1=>?_)
 ·have ht:=A2 h1 (by simp);have hk:r.take [45]=r.step:=by simp[RS.take,h1]
  have asx:=Ak ht.1;have ls:=Ch ht.1;have hT:Fw (g+1) r=(.mk 5 [] 0 [(Fw g r.step).1],(Fw g r.step).2):=by simp only[Fw];rw[if_neg (by simp[h']),if_pos h1]
  rw[hk,hT];refine Af [0] [] (ih g (by omega) r.step (asx.ok hr) (by omega)) ?_;refine Aj (Apf 5 (Fw g r.step).1) ?_;exact Bz func368 rfl rfl
 have hk1:r.take [45]=r:=by simp[RS.take,h1]
 rw[hk1];refine Af [0] [] (Ang r) ?_;refine Ai (fun h2=>?_) (fun h2=>?_)
 ·have h2':r.kind=2:=by have:(r.kind==2)=true:=h2;simpa using this
  obtain⟨w,hw,_,hwt⟩:=Apr r (by omega);have hT:Fw (g+1) r=(.mk 1 [] (D8 w.text) [],r.step):=by simp only[Fw];rw[if_neg (by simp[h']),if_neg (by simp[h1]),if_pos (by simp[h2']),hwt]
  have hb:=A0u r.at_ (by have:=hr.2;have:=hr.1;omega);rw[hT,←Acs r hr];refine Eo 16384 ?_;refine D6 (fun S'=>Ca (r:=Vs w) rfl rfl rfl rfl rfl rfl rfl rfl rfl ?_ ?_) ?_
  ·rw[hb];omega
  ·rw[hb];exact Rw hw
  refine C9 ?_;refine Hz (Ad5 w.text) ?_;refine A0 ?_;refine C4 (Bg rfl rfl rfl rfl rfl rfl rfl) ?_;refine Bu ?_;exact Bz func368 rfl rfl
 have h2':¬(r.kind==2)=true:=by have:(r.kind==2)=false:=h2;simp[this]
 refine Af [0] [] (Jl r [40] hr) ?_;refine Ai (fun h3=>?_) (fun h3=>?_)
 ·have ht:=A2 h3 (by simp);have hk:r.take [40]=r.step:=by simp[RS.take,h3]
  have asx:=Ak ht.1;have ls:=Ch ht.1;have ae:=asx.trans ((F4 g).2.2.2.1 r.step (asx.ok hr));have hT:Fw (g+1) r=((Fa g r.step).1,(Fa g r.step).2.need [41]):=by simp only[Fw];rw[if_neg (by simp[h']),if_neg (by simp[h1]),if_neg h2',if_pos h3]
  rw[hk,hT];refine Af [0] [] (ihe g (by omega) r.step (asx.ok hr) (by omega)) ?_;refine Af [0] [] (Iz (Fa g r.step).2 [41] (ae.ok hr)) ?_;exact Bz func368 rfl rfl
 have hk3:r.take [40]=r:=by simp[RS.take,h3]
 rw[hk3];refine Af [0] [] (Jl r [108,101,110] hr) ?_;refine Ai (fun h4=>?_) (fun h4=>?_)
 ·have ht:=A2 h4 (by simp);have hk:r.take [108,101,110]=r.step:=by simp[RS.take,h4]
  have asx:=Ak ht.1;have a2:=asx.trans (Bh (s:=[40]) (asx.ok hr) (by simp));have a3:=a2.trans (C5 (a2.ok hr));have hT:Fw (g+1) r=(.mk 4 (r.step.need [40]).name 0 [],(r.step.need [40]).nameR.need [41]):=by simp only[Fw];rw[if_neg (by simp[h']),if_neg (by simp[h1]),if_neg h2',if_neg (by simp[h3]),if_pos h4]
  rw[hk,hT];refine Af [0] [] (Iz r.step [40] (asx.ok hr)) ?_;refine Af [0] [] (X7 (r.step.need [40]) (a2.ok hr)) ?_;refine Af [0] [] (Iz (r.step.need [40]).nameR [41] (a3.ok hr)) ?_;exact Bz func368 rfl rfl
 have hk4:r.take [108,101,110]=r:=by simp[RS.take,h4]
 rw[hk4];have an:=C5 hr;have ln:=Bm an;refine Af [0] [] (X7 r hr) ?_;refine Af [0] [] (Jl r.nameR [91] (an.ok hr)) ?_;refine Ai (fun h5=>?_) (fun h5=>?_)
 ·have ht:=A2 h5 (by simp);have hk:r.nameR.take [91]=r.nameR.step:=by simp[RS.take,h5]
  have asx:=Ak ht.1;have ls:=Ch ht.1;have a2:=an.trans asx;have ae:=a2.trans ((F4 g).2.2.2.1 r.nameR.step (a2.ok hr));have hT:Fw (g+1) r=(.mk 3 r.name 0 [(Fa g r.nameR.step).1],(Fa g r.nameR.step).2.need [93]):=by
   simp only[Fw];rw[if_neg (by simp[h']),if_neg (by simp[h1]),if_neg h2',if_neg (by simp[h3]),if_neg (by simp[h4]),if_pos h5]
  rw[hk,hT];refine Af [0] [] (ihe g (by omega) r.nameR.step (a2.ok hr) (by omega)) ?_;refine Aj (Apf 3 (Fa g r.nameR.step).1) ?_;refine Af [0] [] (Iz (Fa g r.nameR.step).2 [93] (ae.ok hr)) ?_;exact Bz func368 rfl rfl
 ·have hk:r.nameR.take [91]=r.nameR:=by simp[RS.take,h5]
  have hT:Fw (g+1) r=(.mk 2 r.name 0 [],r.nameR):=by
   simp only[Fw];rw[if_neg (by simp[h']),if_neg (by simp[h1]),if_neg h2',if_neg (by simp[h3]),if_neg (by simp[h4]),if_neg (by simp[h5])]
  rw[hk,hT];exact Bz func368 rfl rfl
theorem Azr:∀f,Aw1 f∧As3 f∧As0 f:=by
 intro f
 induction f using Nat.strongRecOn with
 |ind f ih=>
  exact⟨A5w f (fun g h=>(ih g h).1) (fun g h=>(ih g h).2.2),A3n f (fun g h=>(ih g h).1),A3i f (fun g h=>(ih g h).2.1)⟩
def Cd(r:RS):Nd×RS:=Fa 6010 r
theorem Cg{r:RS}(h:r.ok):r.after (Cd r).2:=(F4 6010).2.2.2.1 r h
theorem Ts(r:RS)(h:r.ok):Hands X 331 [.ptr 0 0 0] ⟨[[rc r]],[]⟩ (nd (Cd r).1) ⟨[[rc (Cd r).2]],[]⟩:=
 (Azr 6010).2.2 r h (by have:=h.1;simp only[RS.left];omega)
def Dr(r:RS):Nd×RS:=
 if (Cd r).2.bad||relS (Cd r).2.text==0 then(Cm,(Cd r).2.spoil)
 else(.mk (relS (Cd r).2.text) [] 0 [(Cd r).1,(Cd (Cd r).2.step).1],(Cd (Cd r).2.step).2)
theorem Wo{r:RS}(h:relS r.text≠0):r.at_<r.ws.length:=Apz fun e=>h (by rw[e];rfl)
theorem D7{r:RS}(h:r.ok):r.after (Dr r).2:=by
 have a:=Cg h;simp only[Dr];split
 ·exact a.trans (Qf (a.ok h))
 ·rename_i hc;simp only[My,not_or,zzq34]at hc;have b:=a.trans (Ak (Wo hc.2));exact b.trans (Cg (b.ok h))
theorem Anc(r:RS)(hr:r.ok):Hands X 329 [.ptr 0 0 0] ⟨[[rc r]],[]⟩ (nd (Dr r).1) ⟨[[rc (Dr r).2]],[]⟩:=by
 have a:=Cg hr;refine Hands.run func329 ?_;refine Af [0] [] (Ts r hr) ?_;obtain⟨x,hx⟩:∃x,(Cd r).1=x:=⟨_,rfl⟩
 obtain⟨q,hq⟩:∃q,(Cd r).2=q:=⟨_,rfl⟩
 have hT:Dr r=if q.bad||relS q.text==0 then(Cm,q.spoil)else(.mk (relS q.text) [] 0 [x,(Cd q.step).1],(Cd q.step).2):=by simp only[Dr];rw[hx,hq]
 rw[hT,hx,hq];rw[hq]at a;refine Af [0] [] (Aiz q) ?_;refine Aj (A5m q.text) ?_;refine Db (fun h=>?_) (fun h=>?_)
 ·have h':q.bad=true:=h;refine Ay ?_;rw[if_pos (by simp[h'])];exact Bz func329 rfl rfl
 have h':q.bad=false:=h;refine Ai (fun h2=>?_) (fun h2=>?_)
 ·have h2':(relS q.text==0)=true:=h2;rw[if_pos (by simp only[h',h2'];rfl)];exact Bz func329 rfl rfl
 ·have h2':(relS q.text==0)=false:=h2;have hne:relS q.text≠0:=by simpa using h2'
  have b:=a.trans (Ak (Wo hne));have qo:=a.ok hr;rw[if_neg (by simp only[h',h2'];decide)];have hw:rd q.ws (IntKind.i64.wrap ((q.at_:Int)+1)) q.bad=rc q.step:=Acs q qo;have hrun:=Ts q.step (b.ok hr);rw[←hw]at hrun;refine Af [0] [] hrun ?_;refine Aj (Zi (relS q.text) x (Cd q.step).1) ?_;exact Bz func329 rfl rfl
abbrev Wv:Ad:=[105,102]
abbrev I9:Ad:=[101,108,115,101]
abbrev G1:Ad:=[119,104,105,108,101]
abbrev Mr:Ad:=[102,111,114]
abbrev J4:Ad:=[102,114,111,109]
abbrev wTo:Ad:=[116,111]
abbrev Gl:Ad:=[99,104,101,99,107]
abbrev Ja:Ad:=[114,101,97,100]
abbrev Jg:Ad:=[115,107,105,112]
abbrev Jn:Ad:=[115,116,111,112]
abbrev N3:Ad:=[118,97,114]
abbrev Fx:Ad:=[97,114,114,97,121]
def Ro(r:RS):Nd×RS:=
 if r.nameR.takes [91]then
  (.mk 22 r.name 0 [(Cd r.nameR.step).1,(Cd (((Cd r.nameR.step).2.need [93]).need [61])).1],(Cd (((Cd r.nameR.step).2.need [93]).need [61])).2)
 else(.mk 21 r.name 0 [(Cd (r.nameR.need [61])).1],(Cd (r.nameR.need [61])).2)
def C8(r:RS):Nd×RS:=
 if r.takes Gl then(.mk 27 [] 0 [(Dr r.step).1],(Dr r.step).2)
 else if r.takes Ja then(.mk 23 r.step.name 0 [],r.step.nameR)
 else if r.takes Jg then(.mk 28 [] 0 [],r.step)
 else if r.takes Jn then(.mk 29 [] 0 [],r.step)
 else Ro r
def Y4(r:RS):RS:=r.nameR.need J4
def Aak(r:RS):RS:=(Cd (Y4 r)).2.need wTo
mutual
def Dm:Nat→RS→Nd×RS
 |0,r=>(Cm,r)
 |f+1,r=>
  if r.takes Wv then
   if (Cz f (Dr r.step).2).2.takes I9 then
    (.mk 24 [] 0 [(Dr r.step).1,(Cz f (Dr r.step).2).1,(Cz f (Cz f (Dr r.step).2).2.step).1],(Cz f (Cz f (Dr r.step).2).2.step).2)
   else(.mk 24 [] 0 [(Dr r.step).1,(Cz f (Dr r.step).2).1,.mk 30 [] 0 []],(Cz f (Dr r.step).2).2)
  else if r.takes G1 then(.mk 25 [] 0 [(Dr r.step).1,(Cz f (Dr r.step).2).1],(Cz f (Dr r.step).2).2)
  else if r.takes Mr then
   (.mk 26 r.step.name 0 [(Cd (Y4 r.step)).1,(Cd (Aak r.step)).1,(Cz f (Cd (Aak r.step)).2).1],(Cz f (Cd (Aak r.step)).2).2)
  else((C8 r).1,(C8 r).2.need [59])
def Cz:Nat→RS→Nd×RS
 |0,r=>(Cm,r)
 |f+1,r=>(.mk 30 [] 0 (El f [] (r.need [123])).1,(El f [] (r.need [123])).2.need [125])
def El:Nat→List Nd→RS→List Nd×RS
 |0,acc,r=>(acc,r)
 |f+1,acc,r=>if !r.bad&&decide (r.at_<r.ws.length)&&!(r.text==[125])then El f (acc++[(Dm f r).1]) (Dm f r).2 else(acc,r)
end
theorem Ank{r:RS}(h:r.ok):r.after (Ro r).2:=by
 have a:=C5 h;simp only[Ro];split
 ·rename_i ht;have b:=a.trans (Ak (A2 ht (by simp)).1);have c:=b.trans (Cg (b.ok h));have d:=c.trans (Bh (s:=[93]) (c.ok h) (by simp));have e:=d.trans (Bh (s:=[61]) (d.ok h) (by simp));exact e.trans (Cg (e.ok h))
 ·have b:=a.trans (Bh (s:=[61]) (a.ok h) (by simp));exact b.trans (Cg (b.ok h))
theorem Qn{r:RS}(h:r.ok):r.after (C8 r).2:=by
 simp only[C8];split
 ·rename_i ht;have b:=Ak (A2 ht (by simp)).1;exact b.trans (D7 (b.ok h))
 split
 ·rename_i ht;have b:=Ak (A2 ht (by simp)).1;exact b.trans (C5 (b.ok h))
 split
 ·rename_i ht;exact Ak (A2 ht (by simp)).1
 split
 ·rename_i ht;exact Ak (A2 ht (by simp)).1
 exact Ank h
theorem Sx{r:RS}(h:r.ok):r.after (Y4 r):=by
 have a:=C5 h;exact a.trans (Bh (a.ok h) (by simp))
theorem Ld{r:RS}(h:r.ok):r.after (Aak r):=by
 have a:=Sx h;have b:=a.trans (Cg (a.ok h));exact b.trans (Bh (b.ok h) (by simp))
theorem Gh:∀(f:Nat),(∀r:RS,r.ok→r.after (Dm f r).2)∧(∀r:RS,r.ok→r.after (Cz f r).2)∧(∀(acc:List Nd)(r:RS),r.ok→r.after (El f acc r).2):=by
 intro f
 induction f with
 |zero=>exact⟨fun r h=>by simp only[Dm];exact Fu h,fun r h=>by simp only[Cz];exact Fu h,fun x r h=>by simp only[El];exact Fu h⟩
 |succ f ih=>
  obtain⟨i1,i2,i3⟩:=ih;refine⟨fun r h=>?_,fun r h=>?_,fun acc r h=>?_⟩
  ·simp only[Dm];split
   ·rename_i ht;have b:=Ak (A2 ht (by simp)).1;have c:=b.trans (D7 (b.ok h));have d:=c.trans (i2 _ (c.ok h));split
    ·rename_i ht2;have e:=d.trans (Ak (A2 ht2 (by simp)).1);exact e.trans (i2 _ (e.ok h))
    ·exact d
   split
   ·rename_i ht;have b:=Ak (A2 ht (by simp)).1;have c:=b.trans (D7 (b.ok h));exact c.trans (i2 _ (c.ok h))
   split
   ·rename_i ht;have b:=Ak (A2 ht (by simp)).1;have c:=b.trans (Ld (b.ok h));have d:=c.trans (Cg (c.ok h));exact d.trans (i2 _ (d.ok h))
   ·have a:=Qn h;exact a.trans (Bh (a.ok h) (by simp))
  ·simp only[Cz];have a:=Bh (s:=[123]) h (by simp);have b:=a.trans (i3 [] _ (a.ok h));exact b.trans (Bh (b.ok h) (by simp))
  ·simp only[El];split
   ·have a:=i1 r h;exact a.trans (i3 _ _ (a.ok h))
   ·exact Fu h
def As2(f:Nat):Prop:=∀r:RS,r.ok→3*r.left+1≤f→f≤100000→Hands X 312 [.ptr 0 0 0] ⟨[[rc r]],[]⟩ (nd (Dm f r).1) ⟨[[rc (Dm f r).2]],[]⟩
def Alu(f:Nat):Prop:=∀r:RS,r.ok→3*r.left+3≤f→f≤100000→Hands X 330 [.ptr 0 0 0] ⟨[[rc r]],[]⟩ (nd (Cz f r).1) ⟨[[rc (Cz f r).2]],[]⟩
def As1(f:Nat):Prop:=∀r:RS,r.ok→3*r.left+2≤f→f≤100000→Hands X 291 [.ptr 0 0 0] ⟨[[rc r]],[]⟩ (nd (.mk 30 [] 0 (El f [] r).1)) ⟨[[rc (El f [] r).2]],[]⟩
theorem Azq(f:Nat)(ih:∀g,g<f→As1 g):Alu f:=by
 intro r hr hf hF;obtain⟨g,rfl⟩:∃g,f=g+1:=⟨f-1,by omega⟩
 have a:=Bh (s:=[123]) hr (by simp);have la:=Bm a;have b:=a.trans ((Gh g).2.2 [] _ (a.ok hr));refine Hands.run func330 ?_;simp only[Cz];refine Af [0] [] (Iz r [123] hr) ?_;refine Af [0] [] (ih g (by omega) (r.need [123]) (a.ok hr) (by omega) (by omega)) ?_;refine Af [0] [] (Iz (El g [] (r.need [123])).2 [125] (b.ok hr)) ?_;exact Bz func330 rfl rfl
theorem Lr(k:Int)(s:Ad)(m:Int)(ks:List Nd):nd (.mk k s m ks)=.agg [vi k,str s,vi m,.sl (ks.map Ag) .no]:=by
 show AV.agg [_,_,_,.sl (Av ks) _]=_;rw[Ax];rfl
theorem A3m(f:Nat)(ihb:∀g,g<f→Alu g):As2 f:=by
 intro r hr hf hF;obtain⟨g,rfl⟩:∃g,f=g+1:=⟨f-1,by omega⟩
 refine Hands.run func312 ?_;refine Af [0] [] (Jl r Wv hr) ?_;refine Ai (fun h1=>?_) (fun h1=>?_)
 ·have ht:=A2 h1 (by simp);have hk:r.take Wv=r.step:=by simp[RS.take,h1]
  have a:=Ak ht.1;have ls:=Ch ht.1;have c:=a.trans (D7 (a.ok hr));have lc:=Bm (D7 (a.ok hr));have d:=c.trans ((Gh g).2.1 _ (c.ok hr));have ld:=Bm ((Gh g).2.1 _ (c.ok hr));simp only[Dm];rw[if_pos h1,hk];refine Af [0] [] (Anc r.step (a.ok hr)) ?_;refine Af [0] [] (ihb g (by omega) (Dr r.step).2 (c.ok hr) (by omega) (by omega)) ?_;refine Af [0] [] (Jl (Cz g (Dr r.step).2).2 I9 (d.ok hr)) ?_;refine Ai (fun h2=>?_) (fun h2=>?_)
  ·have ht2:=A2 h2 (by simp);have hk2:(Cz g (Dr r.step).2).2.take I9=(Cz g (Dr r.step).2).2.step:=by simp[RS.take,h2]
   have e:=Ak ht2.1;have le:=Ch ht2.1;rw[if_pos h2,hk2];refine Af [0] [] (ihb g (by omega) (Cz g (Dr r.step).2).2.step (e.ok (d.ok hr)) (by omega) (by omega)) ?_;rw[Lr];exact Bz func312 rfl rfl
  ·have hk2:(Cz g (Dr r.step).2).2.take I9=(Cz g (Dr r.step).2).2:=by simp[RS.take,h2]
   rw[if_neg (by simp[h2]),hk2,Lr];exact Bz func312 rfl rfl
 have hk1:r.take Wv=r:=by simp[RS.take,h1]
 rw[hk1];refine Af [0] [] (Jl r G1 hr) ?_;refine Ai (fun h2=>?_) (fun h2=>?_)
 ·have ht:=A2 h2 (by simp);have hk:r.take G1=r.step:=by simp[RS.take,h2]
  have a:=Ak ht.1;have ls:=Ch ht.1;have c:=a.trans (D7 (a.ok hr));have lc:=Bm (D7 (a.ok hr));simp only[Dm];rw[if_neg (by simp[h1]),if_pos h2,hk];refine Af [0] [] (Anc r.step (a.ok hr)) ?_;refine Af [0] [] (ihb g (by omega) (Dr r.step).2 (c.ok hr) (by omega) (by omega)) ?_;refine Aj (Zi 25 (Dr r.step).1 (Cz g (Dr r.step).2).1) ?_;exact Bz func312 rfl rfl
 have hk2:r.take G1=r:=by simp[RS.take,h2]
 rw[hk2];refine Af [0] [] (Jl r Mr hr) ?_;refine Ai (fun h3=>?_) (fun h3=>?_)
 ·have ht:=A2 h3 (by simp);have hk:r.take Mr=r.step:=by simp[RS.take,h3]
  have a:=Ak ht.1;have ls:=Ch ht.1;have b:=a.trans (C5 (a.ok hr));have c:=a.trans (Sx (a.ok hr));have d:=c.trans (Cg (c.ok hr));have e:=a.trans (Ld (a.ok hr));have e2:=e.trans (Cg (e.ok hr));have l1:=Bm (Ld (a.ok hr));have l2:=Bm (Cg (e.ok hr));simp only[Dm];rw[if_neg (by simp[h1]),if_neg (by simp[h2]),if_pos h3,hk];refine Af [0] [] (X7 r.step (a.ok hr)) ?_;refine Af [0] [] (Iz r.step.nameR J4 (b.ok hr)) ?_;refine Af [0] [] (Ts (Y4 r.step) (c.ok hr)) ?_;refine Af [0] [] (Iz (Cd (Y4 r.step)).2 wTo (d.ok hr)) ?_;refine Af [0] [] (Ts (Aak r.step) (e.ok hr)) ?_;refine Af [0] [] (ihb g (by omega) (Cd (Aak r.step)).2 (e2.ok hr) (by omega) (by omega)) ?_;rw[Lr];exact Bz func312 rfl rfl
 have hk3:r.take Mr=r:=by simp[RS.take,h3]
 rw[hk3];have hs:=Qn hr;have hT:Dm (g+1) r=((C8 r).1,(C8 r).2.need [59]):=by simp only[Dm];rw[if_neg (by simp[h1]),if_neg (by simp[h2]),if_neg (by simp[h3])]
 rw[hT];refine Af [0] [] (Jl r Gl hr) ?_;refine Ai (fun h4=>?_) (fun h4=>?_)
 ·have ht:=A2 h4 (by simp);have hk:r.take Gl=r.step:=by simp[RS.take,h4]
  have a:=Ak ht.1;have c:=a.trans (D7 (a.ok hr));have hS:C8 r=(.mk 27 [] 0 [(Dr r.step).1],(Dr r.step).2):=by simp only[C8];rw[if_pos h4]
  rw[hk,hS];refine Af [0] [] (Anc r.step (a.ok hr)) ?_;refine Aj (Apf 27 (Dr r.step).1) ?_;refine Af [0] [] (Iz (Dr r.step).2 [59] (c.ok hr)) ?_;exact Bz func312 rfl rfl
 have hk4:r.take Gl=r:=by simp[RS.take,h4]
 rw[hk4];refine Af [0] [] (Jl r Ja hr) ?_;refine Ai (fun h5=>?_) (fun h5=>?_)
 ·have ht:=A2 h5 (by simp);have hk:r.take Ja=r.step:=by simp[RS.take,h5]
  have a:=Ak ht.1;have c:=a.trans (C5 (a.ok hr));have hS:C8 r=(.mk 23 r.step.name 0 [],r.step.nameR):=by simp only[C8];rw[if_neg (by simp[h4]),if_pos h5]
  rw[hk,hS,Lr];refine Af [0] [] (X7 r.step (a.ok hr)) ?_;refine Af [0] [] (Iz r.step.nameR [59] (c.ok hr)) ?_;exact Bz func312 rfl rfl
 have hk5:r.take Ja=r:=by simp[RS.take,h5]
 rw[hk5];refine Af [0] [] (Jl r Jg hr) ?_;refine Ai (fun h6=>?_) (fun h6=>?_)
 ·have ht:=A2 h6 (by simp);have hk:r.take Jg=r.step:=by simp[RS.take,h6]
  have a:=Ak ht.1;have hS:C8 r=(.mk 28 [] 0 [],r.step):=by simp only[C8];rw[if_neg (by simp[h4]),if_neg (by simp[h5]),if_pos h6]
  rw[hk,hS,Lr];refine Af [0] [] (Iz r.step [59] (a.ok hr)) ?_;exact Bz func312 rfl rfl
 have hk6:r.take Jg=r:=by simp[RS.take,h6]
 rw[hk6];refine Af [0] [] (Jl r Jn hr) ?_;refine Ai (fun h7=>?_) (fun h7=>?_)
 ·have ht:=A2 h7 (by simp);have hk:r.take Jn=r.step:=by simp[RS.take,h7]
  have a:=Ak ht.1;have hS:C8 r=(.mk 29 [] 0 [],r.step):=by simp only[C8];rw[if_neg (by simp[h4]),if_neg (by simp[h5]),if_neg (by simp[h6]),if_pos h7]
  rw[hk,hS,Lr];refine Af [0] [] (Iz r.step [59] (a.ok hr)) ?_;exact Bz func312 rfl rfl
 have hk7:r.take Jn=r:=by simp[RS.take,h7]
 have hS:C8 r=Ro r:=by simp only[C8];rw[if_neg (by simp[h4]),if_neg (by simp[h5]),if_neg (by simp[h6]),if_neg (by simp[h7])]
 rw[hk7,hS];have a:=C5 hr;refine Af [0] [] (X7 r hr) ?_;refine Af [0] [] (Jl r.nameR [91] (a.ok hr)) ?_;refine Ai (fun h8=>?_) (fun h8=>?_)
 ·have ht:=A2 h8 (by simp);have hk:r.nameR.take [91]=r.nameR.step:=by simp[RS.take,h8]
  have b:=a.trans (Ak ht.1);have c:=b.trans (Cg (b.ok hr));have d:=c.trans (Bh (s:=[93]) (c.ok hr) (by simp));have e:=d.trans (Bh (s:=[61]) (d.ok hr) (by simp));have f:=e.trans (Cg (e.ok hr));simp only[Ro];rw[if_pos h8,hk];refine Af [0] [] (Ts r.nameR.step (b.ok hr)) ?_;refine Af [0] [] (Iz (Cd r.nameR.step).2 [93] (c.ok hr)) ?_;refine Af [0] [] (Iz ((Cd r.nameR.step).2.need [93]) [61] (d.ok hr)) ?_;refine Af [0] [] (Ts (((Cd r.nameR.step).2.need [93]).need [61]) (e.ok hr)) ?_;refine Aj (Zi 22 (Cd r.nameR.step).1 (Cd (((Cd r.nameR.step).2.need [93]).need [61])).1) ?_;refine Af [0] [] (Iz (Cd (((Cd r.nameR.step).2.need [93]).need [61])).2 [59] (f.ok hr)) ?_;exact Bz func312 rfl rfl
 ·have hk:r.nameR.take [91]=r.nameR:=by simp[RS.take,h8]
  have b:=a.trans (Bh (s:=[61]) (a.ok hr) (by simp));have c:=b.trans (Cg (b.ok hr));simp only[Ro];rw[if_neg (by simp[h8]),hk];refine Af [0] [] (Iz r.nameR [61] (a.ok hr)) ?_;refine Af [0] [] (Ts (r.nameR.need [61]) (b.ok hr)) ?_;refine Aj (Apf 21 (Cd (r.nameR.need [61])).1) ?_;refine Af [0] [] (Iz (Cd (r.nameR.need [61])).2 [59] (c.ok hr)) ?_;exact Bz func312 rfl rfl
theorem Ee{r:RS}(h:r.bad=true)(s:Ad):r.takes s=false:=by simp[RS.takes,h]
theorem Up{r:RS}(h:r.bad=true)(s:Ad):(r.need s).bad=true:=by simp[RS.need,Ee h s,RS.spoil]
theorem Afl{r:RS}(h:r.bad=true):r.nameR.bad=true:=by simp[RS.nameR,RS.named,h,RS.spoil]
theorem Aah:∀(f:Nat),(∀r:RS,r.bad=true→(Fw f r).2.bad=true)∧(∀r:RS,r.bad=true→(Ev f r).2.bad=true)∧(∀(x:Nd)(r:RS),r.bad=true→(Ii f x r).2.bad=true) ∧
 (∀r:RS,r.bad=true→(Fa f r).2.bad=true)∧(∀(x:Nd)(r:RS),r.bad=true→(Hn f x r).2.bad=true):=by
 intro f
 induction f with
 |zero=>exact⟨fun r h=>by simpa only[Fw]using h,fun r h=>by simpa only[Ev]using h,fun x r h=>by simpa only[Ii]using h,fun r h=>by simpa only[Fa]using h,fun x r h=>by simpa only[Hn]using h⟩
 |succ f ih=>
  obtain⟨i1,i2,i3,i4,i5⟩:=ih;refine⟨fun r h=>?_,fun r h=>?_,fun x r h=>?_,fun r h=>?_,fun x r h=>?_⟩
  ·simp only[Fw];rw[if_pos h];exact h
  ·simp only[Ev];exact i3 _ _ (i1 r h)
  ·simp only[Ii];rw[if_neg (by simp[Ee h])];exact h
  ·simp only[Fa];exact i5 _ _ (i2 r h)
  ·simp only[Hn];rw[if_neg (by simp[Ee h]),if_neg (by simp[Ee h])];exact h
theorem O3{r:RS}(h:r.bad=true):(Cd r).2.bad=true:=(Aah 6010).2.2.2.1 r h
def RS.on(r r':RS):Prop:=r'.bad=true∨r.at_<r'.at_
theorem Ao7{r r':RS}(h:r.on r')(hk:r'.ok)(s:Ad)(hs:s≠[]):r.on (r'.need s):=by
 rcases h with h|h
 ·exact .inl (Up h s)
 ·exact .inr (Ng h (Bh hk hs).2.1)
theorem Auq{r r':RS}(h:r.on r')(hk:r'.ok):r.on (Cd r').2:=by
 rcases h with h|h
 ·exact .inl (O3 h)
 ·exact .inr (Ng h (Cg hk).2.1)
theorem Nx{r r':RS}(h:r.step.after r'):r.on r':=.inr (Ng (Aeq r.at_) h.2.1)
theorem Aur{r:RS}:r.on r.nameR:=by
 simp only[RS.nameR];split
 ·exact .inr (Aeq _)
 ·exact .inl rfl
theorem Az5{r:RS}(h:r.ok):r.on (Ro r).2:=by
 have a:=C5 h;have o:=Aur (r:=r);simp only[Ro];split
 ·rename_i ht;have b:=a.trans (Ak (A2 ht (by simp)).1);have c:=b.trans (Cg (b.ok h));have d:=c.trans (Bh (s:=[93]) (c.ok h) (by simp));have e:=d.trans (Bh (s:=[61]) (d.ok h) (by simp));rcases o with o|o
  ·rw[Ee o]at ht;cases ht
  ·exact .inr (Ng o ((Ak (A2 ht (by simp)).1).trans ((Cg (b.ok h)).trans ((Bh (s:=[93]) (c.ok h) (by simp)).trans ((Bh (s:=[61]) (d.ok h) (by simp)).trans (Cg (e.ok h)))))).2.1)
 ·have b:=a.trans (Bh (s:=[61]) (a.ok h) (by simp));exact Auq (Ao7 o (a.ok h) [61] (by simp)) (b.ok h)
theorem Anl{r:RS}(h:r.ok):r.on (C8 r).2:=by
 simp only[C8];split
 ·rename_i ht;have b:=Ak (A2 ht (by simp)).1;exact Nx (D7 (b.ok h))
 split
 ·rename_i ht;have b:=Ak (A2 ht (by simp)).1;exact Nx (C5 (b.ok h))
 split
 ·rename_i ht;exact Nx (Fu ((Ak (A2 ht (by simp)).1).ok h))
 split
 ·rename_i ht;exact Nx (Fu ((Ak (A2 ht (by simp)).1).ok h))
 exact Az5 h
theorem Zp(f:Nat){r:RS}(h:r.ok):r.on (Dm (f+1) r).2:=by
 have i2:=(Gh f).2.1;simp only[Dm];split
 ·rename_i ht;have b:=Ak (A2 ht (by simp)).1;have c:=D7 (b.ok h);have d:=c.trans (i2 _ (c.ok (b.ok h)));split
  ·rename_i ht2;have e:=d.trans (Ak (A2 ht2 (by simp)).1);exact Nx (e.trans (i2 _ (e.ok (b.ok h))))
  ·exact Nx d
 split
 ·rename_i ht;have b:=Ak (A2 ht (by simp)).1;have c:=D7 (b.ok h);exact Nx (c.trans (i2 _ (c.ok (b.ok h))))
 split
 ·rename_i ht;have b:=Ak (A2 ht (by simp)).1;have c:=Ld (b.ok h);have d:=c.trans (Cg (c.ok (b.ok h)));exact Nx (d.trans (i2 _ (d.ok (b.ok h))))
 ·exact Ao7 (Anl h) ((Qn h).ok h) [59] (by simp)
theorem E9(l:List Nd):Mf 4 (Av l)=true:=by rw[Ax];exact Pf (f:=Ag) (fun _=>rfl) l
theorem A3j(f:Nat)(ih:∀g,g<f→As2 g):As1 f:=by
 intro r hr hf hF;refine Hands.run func291 ?_;generalize hTT:El f [] r=T;refine E6 2 0 3 rfl rfl rfl rfl rfl rfl ?_;refine Ar (ι:=Nat×List Nd×RS) 3 1 (fun i=>i.2.2.ok∧i.2.1.length+i.1≤f∧(i.2.2.bad=true∨3*i.2.2.left+2≤i.1)∧T=El i.1 i.2.1 i.2.2)
  (fun i=>[(0,.ptr 0 0 0),(2,.ptr 1 0 0),(3,.ptr 2 0 0)])
  (fun i=>⟨[[rc i.2.2],[zN],[[vi 30,str [],vi 0,.sl (Av i.2.1) (.tok 0)]]],[i.2.1.length]⟩) (fun i=>i.1) ?_ (f,[],r) ⟨hr,by simp,.inr hf,hTT.symm⟩ ⟨rfl,rfl,rfl,trivial⟩
 rintro⟨n,acc,q⟩ ⟨hq,hlen,hfu,hTn⟩ IH;simp only at hq hlen hfu hTn IH⊢;refine Ba 100 rfl ?_;cases hb:q.bad with
 |true=>
  have hT:T=(acc,q):=by
   rw[hTn];cases n with
   |zero=>rfl
   |succ n=>simp only[El];rw[if_neg (by simp[hb])]
  refine Hb 0 5 ?_;refine Hm false ?_ (hb:=by simp[hb]);refine Hy 11 ?_;refine Hm false ?_;refine C9 ?_;refine Bu ?_;refine Ah ?_;rw[hT,Lr];refine Bz func291 ?_ rfl;rw[Ax]
 |false=>
  by_cases hlt:q.at_<q.ws.length
  ·refine Hb 0 5 ?_;refine Hm true ?_ (hb:=by simp[hb]);refine Hy 11 ?_;refine Hm true ?_ (hb:=Ry (by rw[Ef];omega));refine Hy 1 ?_;refine A4 (H0 [0] [] (Aiz q)) ?_;refine C9 ?_;refine Bu ?_;refine Ai (fun h=>?_) (fun h=>?_)
   ·have h':(!(q.text==[125]))=true:=h;have hn1:2≤n:=by
     rcases hfu with h|h
     ·rw[hb]at h;cases h
     ·omega
    obtain⟨m,rfl⟩:∃m,n=m+1:=⟨n-1,by omega⟩
    have hfu':3*q.left+2≤m+1:=by
     rcases hfu with h|h
     ·rw[hb]at h;cases h
     ·exact h
    have hT:T=El m (acc++[(Dm m q).1]) (Dm m q).2:=by
     rw[hTn];simp only[El];rw[if_pos (by simp only[hb,h',Bool.not_false,N5,Bool.and_true];exact Ry hlt)]
    have af:=(Gh m).1 q hq;have lf:=Bm af;have hon:q.on (Dm m q).2:=by
     obtain⟨p,rfl⟩:∃p,m=p+1:=⟨m-1,by omega⟩
     exact Zp p hq
    refine Hb 168 3 ?_;refine Er (H0 [0] [] (ih m (by omega) q hq (by omega) (by omega))) ?_ ?_
    ·exact Aq (Cy rfl rfl rfl) G6
    refine Ac0 ?_;refine C4 (Cn (res:=Av (acc++[(Dm m q).1])) rfl rfl rfl rfl rfl rfl rfl rfl rfl rfl rfl rfl rfl rfl (Ae acc) (E9 acc) rfl rfl rfl ?_ ?_ rfl) ?_
    ·rw[Ae];simp;omega
    ·rw[Ax,Ax,Jp];rfl
    refine A0 ?_;refine C4 (Bg rfl rfl rfl rfl rfl rfl rfl) ?_;refine Bu ?_;refine IH (m,acc++[(Dm m q).1],(Dm m q).2) ⟨af.ok hq,by simp;omega,?_,hT⟩ (by simp only;omega) _ _ ⟨rfl,rfl,rfl,trivial⟩ ?_ rfl rfl
    ·rcases hon with h|h
     ·exact .inl h
     ·refine .inr ?_;simp only;have h3:(Dm m q).2.left+1≤q.left:=by
       have e1:=af.1;have e2:=af.2.2;simp only[RS.left,e1]at *;omega
      omega
    ·simp[St.drop,Ae,upd]
   ·have h':(!(q.text==[125]))=false:=h;have hT:T=(acc,q):=by
     rw[hTn];cases n with
     |zero=>rfl
     |succ n=>simp only[El];rw[if_neg (by simp[h'])]
    rw[hT,Lr];refine Bz func291 ?_ rfl;rw[Ax]
  ·have hT:T=(acc,q):=by
    rw[hTn];cases n with
    |zero=>rfl
    |succ n=>simp only[El];rw[if_neg (by simp[hlt])]
   refine Hb 0 5 ?_;refine Hm true ?_ (hb:=by simp[hb]);refine Hy 11 ?_;refine Hm false ?_ (hb:=Ks (by rw[Ef];omega));refine C9 ?_;refine Bu ?_;refine Ah ?_;rw[hT,Lr];refine Bz func291 ?_ rfl;rw[Ax]
theorem Azs:∀f,As2 f∧Alu f∧As1 f:=by
 intro f
 induction f using Nat.strongRecOn with
 |ind f ih=>exact⟨A3m f (fun g h=>(ih g h).2.1),Azq f (fun g h=>(ih g h).2.2),A3j f (fun g h=>(ih g h).1)⟩
def Jf(q:RS):Int×RS:=if !q.bad&&q.kind==2 then(D8 q.text,q.step)else(-1,q.need [63])
def J0(r:RS):Nd×RS:=
 if r.takes N3 then(.mk 31 r.step.name 0 [],r.step.nameR)
 else(.mk 32 r.step.name (Jf (r.step.nameR.need [91])).1 [],(Jf (r.step.nameR.need [91])).2.need [93])
def Ie(r:RS):Bool:=r.takes N3||r.takes Fx
def Fl:Nat→List Nd→RS→List Nd×RS
 |0,acc,r=>(acc,r)
 |f+1,acc,r=>if Ie r then Fl f (acc++[(J0 r).1]) ((J0 r).2.need [59])else(acc,r)
def RS.ends(r:RS):RS:=if r.at_<r.ws.length then r.spoil else r
def Ex(r:RS):Nd×RS:=
 (.mk 40 [] 0 ((Fl 2000 [] r).1++[.mk 30 [] 0 (El 5000 [] (Fl 2000 [] r).2).1]),(El 5000 [] (Fl 2000 [] r).2).2.ends)
theorem Abw{q:RS}(h:q.ok):q.after (Jf q).2:=by
 simp only[Jf];split
 ·rename_i hc;simp only[Du,zzq34]at hc;exact Ak (Tc (by omega))
 ·exact Bh h (by simp)
theorem Lj{r:RS}(h:r.ok)(hd:Ie r=true):r.step.after (J0 r).2∧r.at_<r.ws.length:=by
 simp only[Ie,My]at hd;have hlt:r.at_<r.ws.length:=by
  rcases hd with hd|hd
  ·exact(A2 hd (by simp)).1
  ·exact(A2 hd (by simp)).1
 have so:=(Ak hlt).ok h;refine⟨?_,hlt⟩;simp only[J0];split
 ·exact C5 so
 ·have a:=C5 so;have b:=a.trans (Bh (s:=[91]) (a.ok so) (by simp));have c:=b.trans (Abw (b.ok so));exact c.trans (Bh (c.ok so) (by simp))
theorem Ow:∀(f:Nat)(acc:List Nd)(r:RS),r.ok→r.after (Fl f acc r).2
 |0,acc,r,h=>by simp only[Fl];exact Fu h
 |f+1,acc,r,h=>by
  simp only[Fl];split
  ·rename_i hd;obtain⟨a,hlt⟩:=Lj h hd;have b:=(Ak hlt).trans a;have c:=b.trans (Bh (s:=[59]) (b.ok h) (by simp));exact c.trans (Ow f _ _ (c.ok h))
  ·exact Fu h
abbrev gP:Cw:=[(0,.ptr 0 0 0),(2,.ptr 1 0 0),(3,.ptr 2 0 0)]
abbrev sP(q:RS)(acc:List Nd):St:=⟨[[rc q],[zN],[[vi 40,str [],vi 0,.sl (Av acc) (.tok 0)]]],[acc.length]⟩
theorem A3k(r:RS)(hr:r.ok):Hands X 263 [.ptr 0 0 0] ⟨[[rc r]],[]⟩ (nd (Ex r).1) ⟨[[rc (Ex r).2]],[]⟩:=by
 refine Hands.run func263 ?_;obtain⟨T,hTT⟩:∃T,Fl 2000 [] r=T:=⟨_,rfl⟩
 have hleft:r.left≤1500:=by have:=hr.1;simp only[RS.left];omega
 have aT:r.after T.2:=by rw[←hTT];exact Ow 2000 [] r hr
 have hTl:T.1.length≤2000→AK X ⟨263,f263,1,0⟩ (J6 false 16 f263) gP (sP T.2 T.1) (fun e S=>e=.ret (nd (Ex r).1)∧S=⟨[[rc (Ex r).2]],[]⟩):=fun hlen=>by
  refine Dj ?_;have to:=aT.ok hr;have al:=(Gh 5000).2.2 [] T.2 to;have hl5:3*T.2.left+2≤5000:=by have:=to.1;simp only[RS.left];omega
  refine Hb 168 3 ?_;refine Er (H0 [0] [] ((Azs 5000).2.2 T.2 to hl5 (by omega))) ?_ ?_
  ·exact Aq (Cy rfl rfl rfl) G6
  refine Ac0 ?_;refine C4 (Cn (res:=Av (T.1++[.mk 30 [] 0 (El 5000 [] T.2).1])) rfl rfl rfl rfl rfl rfl rfl rfl rfl rfl rfl rfl rfl rfl (Ae T.1) (E9 T.1) rfl rfl rfl ?_ ?_ rfl) ?_
  ·rw[Ae];simp;omega
  ·rw[Ax,Ax,Jp];rfl
  refine A0 ?_;refine C4 (Bg rfl rfl rfl rfl rfl rfl rfl) ?_;refine Bu ?_;refine Anx ?_;have hP:Ex r=(.mk 40 [] 0 (T.1++[.mk 30 [] 0 (El 5000 [] T.2).1]),(El 5000 [] T.2).2.ends):=by simp only[Ex];rw[hTT]
  rw[hP];refine Ai (fun h=>?_) (fun h=>?_)
  ·have h':(El 5000 [] T.2).2.at_<(El 5000 [] T.2).2.ws.length:=by have:=A6 h;rw[Ef]at this;omega
   have he:(El 5000 [] T.2).2.ends=(El 5000 [] T.2).2.spoil:=by simp only[RS.ends];rw[if_pos h']
   rw[he,Lr];refine Bz func263 ?_ rfl;rw[Ax]
  ·have h':¬(El 5000 [] T.2).2.at_<(El 5000 [] T.2).2.ws.length:=by have:=Bd h;rw[Ef]at this;omega
   have he:(El 5000 [] T.2).2.ends=(El 5000 [] T.2).2:=by simp only[RS.ends];rw[if_neg h']
   rw[he,Lr];refine Bz func263 ?_ rfl;rw[Ax]
 refine E6 2 0 3 rfl rfl rfl rfl rfl rfl ?_;refine Ar (ι:=Nat×List Nd×RS) 3 1 (fun i=>i.2.2.ok∧i.2.1.length+i.1≤2000∧i.2.2.left+1≤i.1∧T=Fl i.1 i.2.1 i.2.2) (fun _=>gP) (fun i=>sP i.2.2 i.2.1) (fun i=>i.1) ?_ (2000,[],r)
  ⟨hr,by simp,by simp only;omega,hTT.symm⟩ ⟨rfl,rfl,rfl,trivial⟩
 rintro⟨n,acc,q⟩ ⟨hq,hlen,hfu,hTn⟩ IH;simp only at hq hlen hfu hTn IH⊢;obtain⟨m,rfl⟩:∃m,n=m+1:=⟨n-1,by omega⟩
 have out:Ie q=false→T=(acc,q):=fun h=>by rw[hTn];simp only[Fl];rw[if_neg (by simp[h])]
 refine Cp (fun h=>?_) (fun h=>?_)
 ·have hb:q.bad=false:=by have:(!q.bad)=true:=h;simpa using this
  have fin:∀(d:Nd) (q':RS),J0 q=(d,q')→Ie q=true→d.kids=[] →
   AK X ⟨263,f263,1,0⟩ (J6 false 14 f263) ((4,.ptr 3 0 0)::gP)
    ⟨[[rc q'],[zN],[[vi 40,str [],vi 0,.sl (Av acc) (.tok 0)]],[[vi d.kind,str d.name,vi d.num,.sl [] .tight]]],[acc.length]⟩ (fun e S=>e=.ret (nd (Ex r).1)∧S=⟨[[rc (Ex r).2]],[]⟩):=fun d q' hd hD hk=>by
   obtain⟨af,hlt⟩:=Lj hq hD;rw[hd]at af;have aq:=(Ak hlt).trans af;have an:=aq.trans (Bh (s:=[59]) (aq.ok hq) (by simp));have l1:=Ch hlt;have l2:(q'.need [59]).left≤q.step.left:=Bm (af.trans (Bh (s:=[59]) (aq.ok hq) (by simp)));refine Dj ?_;refine Ba 100 rfl ?_;refine Af [0] [] (Iz q' [59] (aq.ok hq)) ?_;refine Ajd 54 ?_;refine Bs (Cn (res:=Av (acc++[d])) rfl rfl rfl rfl rfl rfl rfl rfl rfl rfl rfl rfl rfl rfl (Ae acc) (E9 acc) rfl rfl rfl ?_ ?_ rfl) ?_
   ·rw[Ae];simp;omega
   ·rw[Ax,Ax,Jp];obtain⟨k,s,v,ks⟩:=d;simp only[Nd.kids]at hk;subst hk;rfl
   refine IH (m,acc++[d],q'.need [59]) ⟨an.ok hq,by simp;omega,by simp only;omega,?_⟩ (by simp only;omega) _ _ ⟨rfl,rfl,rfl,trivial⟩ ?_ rfl rfl
   ·rw[hTn];simp only[Fl];rw[if_pos hD,hd]
   ·simp[St.drop,Ae,upd]
  refine Af [0] [] (Jl q N3 hq) ?_;refine Ai (fun h1=>?_) (fun h1=>?_)
  ·have ht:=A2 h1 (by simp);have hk:q.take N3=q.step:=by simp[RS.take,h1]
   have a:=Ak ht.1;rw[hk];refine Ahd 14 [0] [] (X7 q.step (a.ok hq)) ?_;exact Br 4 1 (fin (.mk 31 q.step.name 0 []) q.step.nameR (by simp only[J0];rw[if_pos h1]) (by simp[Ie,h1]) rfl) ⟨rfl,rfl,rfl,rfl,trivial⟩ rfl rfl rfl rfl rfl
  have hk1:q.take N3=q:=by simp[RS.take,h1]
  rw[hk1];refine Af [0] [] (Jl q Fx hq) ?_;refine Ai (fun h2=>?_) (fun h2=>?_)
  ·have ht:=A2 h2 (by simp);have hk:q.take Fx=q.step:=by simp[RS.take,h2]
   have a:=Ak ht.1;have b:=a.trans (C5 (a.ok hq));have c:=b.trans (Bh (s:=[91]) (b.ok hq) (by simp));have hD:Ie q=true:=by simp[Ie,h2]
   have hR:J0 q=(.mk 32 q.step.name (Jf (q.step.nameR.need [91])).1 [],(Jf (q.step.nameR.need [91])).2.need [93]):=by simp only[J0];rw[if_neg (by simp[h1])]
   rw[hk];refine Af [0] [] (X7 q.step (a.ok hq)) ?_;refine Af [0] [] (Iz q.step.nameR [91] (b.ok hq)) ?_;generalize hu:q.step.nameR.need [91]=u at hR c⊢;have hok:=c.ok hq;have e:=c.trans (Abw hok);have fin13:∀(v:Int) (u':RS),Jf u=(v,u')→AK X ⟨263,f263,1,0⟩ (J6 false 13 f263) ((4,.ptr 3 0 0)::gP)
    ⟨[[rc u'],[zN],[[vi 40,str [],vi 0,.sl (Av acc) (.tok 0)]],[[vi 32,str q.step.name,vi v,.sl [] .tight]]],[acc.length]⟩ (fun e S=>e=.ret (nd (Ex r).1)∧S=⟨[[rc (Ex r).2]],[]⟩):=fun v u' hv=>by
    rw[hv]at hR e;refine Dj ?_;refine Ba 100 rfl ?_;refine Ahd 14 [0] [] (Iz u' [93] (e.ok hq)) ?_;exact Br 4 1 (fin (.mk 32 q.step.name v []) (u'.need [93]) hR hD rfl) ⟨rfl,rfl,rfl,rfl,trivial⟩ rfl rfl rfl rfl rfl
   have hno:(!u.bad&&u.kind==2)=false→AK X ⟨263,f263,1,0⟩ (J6 false 12 f263) ((4,.ptr 3 0 0)::gP)
    ⟨[[rc u],[zN],[[vi 40,str [],vi 0,.sl (Av acc) (.tok 0)]],[[vi 32,str q.step.name,vi (-1),.sl [] .tight]]],[acc.length]⟩ (fun e S=>e=.ret (nd (Ex r).1)∧S=⟨[[rc (Ex r).2]],[]⟩):=fun hc=>by
    refine Dj ?_;refine Ba 100 rfl ?_;refine Ahd 13 [0] [] (Iz u [63] hok) ?_;exact Br 4 1 (fin13 (-1) (u.need [63]) (by simp only[Jf];rw[if_neg (by simp[hc])])) ⟨rfl,rfl,rfl,rfl,trivial⟩ rfl rfl rfl rfl rfl
   refine Db (fun h3=>?_) (fun h3=>?_)
   ·refine Af [0] [] (Ang u) ?_;refine Ec 0 12 (fun h4=>?_) (fun h4=>?_)
    ·have hk2:u.kind=2:=by have:(u.kind==2)=true:=h4;simpa using this
     have hlt:=Tc (r:=u) (by omega);refine Af [0] [] (Aiz u) ?_;have hsz:Jf u=(D8 u.text,u.step):=by simp only[Jf];rw[if_pos (by simp[hk2];simpa using h3)]
     have hu1:=hok.1;refine Asp 13 (Ad5 u.text) ?_;refine Br 4 1 (fin13 (D8 u.text) u.step hsz) ⟨rfl,rfl,rfl,rfl,trivial⟩ ?_ rfl rfl rfl rfl;simp only[rc,rd,RS.step];rw[show ((u.at_+1:Nat):Int)=IntKind.i64.wrap ((u.at_:Int)+1)from((Ac (by omega) (by omega)).trans (by omega)).symm];rfl
    ·have hk2:(u.kind==2)=false:=h4;exact Br 4 1 (hno (by simp[hk2])) ⟨rfl,rfl,rfl,rfl,trivial⟩ rfl rfl rfl rfl rfl
   ·refine Ec 0 12 (fun h4=>?_) (fun _=>?_)
    ·cases h4
    exact Br 4 1 (hno (by simp[h3])) ⟨rfl,rfl,rfl,rfl,trivial⟩ rfl rfl rfl rfl rfl
  ·have hk2:q.take Fx=q:=by simp[RS.take,h2]
   have hT:=out (by simp[Ie,h1,h2]);rw[hT]at hTl;rw[hk2];exact Br 3 1 (hTl (by simp only;omega)) ⟨rfl,rfl,rfl,trivial⟩ rfl rfl rfl rfl rfl
 ·have hb:q.bad=true:=by have:(!q.bad)=false:=h;simpa using this
  have hT:=out (by simp[Ie,Ee hb]);rw[hT]at hTl;exact Br 3 1 (hTl (by simp only;omega)) ⟨rfl,rfl,rfl,trivial⟩ rfl rfl rfl rfl rfl
mutual
def Dn:Nd→Nat
 |.mk _ _ _ ks=>G7 ks+1
def G7:List Nd→Nat
 |[]=>0
 |n::l=>max (Dn n) (G7 l)
end
theorem Kg(n:Nd):Dn n=G7 n.kids+1:=by cases n;simp[Dn,Nd.kids]
theorem Ae0(a b:List Nd):G7 (a++b)=max (G7 a) (G7 b):=by
 induction a with
 |nil=>simp[G7]
 |cons x a ih=>simp only[R1,G7,ih];omega
theorem Abk{l:List Nd}{i:Nat}{n:Nd}(h:l[i]?=some n):G7 (l.take (i+1))=max (G7 (l.take i)) (Dn n):=by
 rw[Hq,h,Ae0];simp[G7]
theorem Us(n:Nd):Dn n≤Al n:=by
 induction n using Nd.ind with
 |h n ih=>
  have key:∀l:List Nd,(∀k,k∈l→Dn k≤Al k)→G7 l≤Bb l:=by
   intro l
   induction l with
   |nil=>intro _;simp[G7]
   |cons x l ihl=>
    intro h;have h1:=h x (by simp);have h2:=ihl (fun k hk=>h k (by simp[hk]));simp only[G7,Bb];omega
  rw[Kg,Co];have:=key n.kids ih;omega
mutual
def wN:Nd→Nat
 |.mk _ s _ ks=>1+s.length+wL ks
def wL:List Nd→Nat
 |[]=>0
 |n::l=>wN n+wL l
end
theorem Xf(n:Nd):wN n=1+n.name.length+wL n.kids:=by cases n;rfl
theorem Qp{l:List Nd}{k:Nd}(h:k∈l):wN k≤wL l:=by
 induction l with
 |nil=>cases h
 |cons x l ih=>
  simp only[wL];rcases zzq8.1 h with rfl|h
  ·omega
  ·have:=ih h;omega
theorem Jx{n k:Nd}(h:k∈n.kids):wN k<wN n:=by
 have:=Qp h;rw[Xf n];omega
theorem Pi(n:Nd):Al n≤wN n:=by
 induction n using Nd.ind with
 |h n ih=>
  have key:∀l:List Nd,(∀k,k∈l→Al k≤wN k)→Bb l≤wL l:=by
   intro l
   induction l with
   |nil=>intro _;simp[Bb]
   |cons x l ihl=>
    intro h;have h1:=h x (by simp);have h2:=ihl (fun k hk=>h k (by simp[hk]));simp only[Bb,wL];omega
  rw[Xf,Co];have:=key n.kids ih;omega
theorem Ho(n:Nd):n.kids.length<wN n:=by
 have:=Bq n.kids;have:=Pi n;rw[Co]at this;omega
theorem Arf(n:Nd):n.name.length<wN n:=by rw[Xf];omega
theorem Apc(n:Nd)(hn:Al n≤4000000000):Pure X 257 [nd n] (vi (Al n)):=by
 induction n using Nd.ind with
 |h n ih=>
 refine Pure.run func257 ?_;have hc:=Co n;have hll:=Bq n.kids;refine Ar (ι:=Nat) 1 0 (fun i=>i≤n.kids.length) (fun i=>[(4,vi i),(3,vi (1+Bb (n.kids.take i):Nat)),(1,.ptr 0 0 0)]) (fun _=>⟨[[Ag n]],[]⟩) (fun i=>n.kids.length-i) ?_ 0 (Cb _)
  ⟨rfl,rfl,rfl,trivial⟩
 intro i hi IH;refine Cp (fun h=>?_) (fun h=>?_)
 ·have hlt:i<n.kids.length:=by have:=A6 h;rw[Ae]at this;omega
  obtain⟨kid,hkid⟩:=Ab n.kids hlt;have hsn:=P5 hkid;have hle:=Q5 (l:=n.kids) (i:=i+1);refine Bv i (by omega) (Ap hkid) ?_;refine Aj (ih kid (Bn hkid) (by omega)) ?_;exact IH (i+1) hlt (by omega) _ _ ⟨vsx (by omega),vsx (by omega),rfl,trivial⟩ rfl rfl rfl
 ·have:i=n.kids.length:=by have:=Bd h;rw[Ae]at this;omega
  subst this;refine Az func257 ?_;rw[hc,Jh];rfl
theorem Apd(n:Nd)(hn:Al n≤4000000000):Pure X 258 [nd n] (vi (Dn n)):=by
 induction n using Nd.ind with
 |h n ih=>
 refine Pure.run func258 ?_;have hc:=Co n;have hll:=Bq n.kids;have hd:=Us n;rw[Kg]at hd⊢;refine Ar (ι:=Nat) 1 0 (fun i=>i≤n.kids.length) (fun i=>[(4,vi i),(3,vi (G7 (n.kids.take i):Nat)),(1,.ptr 0 0 0)]) (fun _=>⟨[[Ag n]],[]⟩) (fun i=>n.kids.length-i) ?_ 0 (Cb _)
  ⟨rfl,rfl,rfl,trivial⟩
 intro i hi IH;refine Cp (fun h=>?_) (fun h=>?_)
 ·have hlt:i<n.kids.length:=by have:=A6 h;rw[Ae]at this;omega
  obtain⟨kid,hkid⟩:=Ab n.kids hlt;have hsn:=Abk hkid;have hcs:=P5 hkid;have hle:=Q5 (l:=n.kids) (i:=i+1);refine Bv i (by omega) (Ap hkid) ?_;refine Aj (ih kid (Bn hkid) (by omega)) ?_;refine Ai (fun h2=>?_) (fun h2=>?_)
  ·have:=A6 h2;exact IH (i+1) hlt (by omega) _ _ ⟨vsx (by omega),Ci (by omega),rfl,trivial⟩ rfl rfl rfl
  ·have:=Bd h2;exact IH (i+1) hlt (by omega) _ _ ⟨vsx (by omega),Ci (by omega),rfl,trivial⟩ rfl rfl rfl
 ·have:i=n.kids.length:=by have:=Bd h;rw[Ae]at this;omega
  subst this;refine Az func258 ?_;rw[Jh];exact congrArg (fun x=>AV.val (.int .i64 x)) ((Ac (by omega) (by omega)).trans (by omega))
def K7(k:Int):Bool:=A8 k 1 8
def Tb(k:Int):Bool:=A8 k 11 16
def Y8(k:Int):Bool:=A8 k 21 29
theorem Auy(k:Int):Pure X 309 [vi k] (vb (K7 k)):=by
 refine Pure.run func309 ?_;refine Aj (Gg k 1 8) ?_;exact Az func309 rfl
theorem Aux(k:Int):Pure X 307 [vi k] (vb (Tb k)):=by
 refine Pure.run func307 ?_;refine Aj (Gg k 11 16) ?_;exact Az func307 rfl
theorem Auz(k:Int):Pure X 308 [vi k] (vb (Y8 k)):=by
 refine Pure.run func308 ?_;refine Aj (Gg k 21 29) ?_;exact Az func308 rfl
def Bo(k:Int):Int×Bool×Bool:=
 if k=1∨k=28∨k=29 then(0,false,true)
 else if k=2∨k=4∨k=23∨k=31∨k=32 then(0,true,true)
 else if k=3∨k=21 then(1,true,true)
 else if k=5∨k=27 then(1,false,true)
 else if k=6∨k=7∨k=8∨k=11∨k=12∨k=13∨k=14∨k=15∨k=16∨k=25 then(2,false,true)
 else if k=22 then(2,true,true)
 else if k=24 then(3,false,true)
 else if k=26 then(3,true,true)
 else if k=30∨k=40 then(-1,false,true)
 else(0,false,false)
theorem Ay3(k:Int):Pure X 278 [vi k] (.tup [vi (Bo k).1,vb (Bo k).2.1,vb (Bo k).2.2]):=by
 refine Pure.run func278 ?_
 repeat' (refine Ai (fun _=>?_) (fun _=>?_))
 all_goals refine Az func278 ?_
 all_goals (simp_all [Bo,De])
def Lf(n:Nd)(i k:Int):Bool:=
 if n.kind=24∨n.kind=25∨n.kind=27 then(if i=0 then Tb k else k==30)
 else if n.kind=26∧i=2 then k==30
 else if n.kind=30 then Y8 k
 else if n.kind=40 then(if i=n.kids.length-1 then k==30 else k==31||k==32)
 else K7 k
theorem A5k(n:Nd)(i k:Int)(hn:n.kids.length≤4000000000):Pure X 280 [nd n,vi i,vi k] (vb (Lf n i k)):=by
 refine Pure.run func280 ?_;have hw:IntKind.i64.wrap ((Av n.kids).length-1:Int)=n.kids.length-1:=by rw[Ae];exact Ac (by omega) (by omega)
 repeat' (first|refine Ai (fun _=>?_) (fun _=>?_)|refine Db (fun _=>?_) (fun _=>?_)|refine Aj (Aux k) ?_|refine Aj (Auz k) ?_|refine Aj (Auy k) ?_)
 all_goals refine Az func280 ?_
 all_goals (simp_all [Lf,De])
def Fv(k m:Int):Bool:=if k=1 then A8 m 0 1000000 else if k=32 then A8 m (-1) 1000000 else m==0
def Iq(k:Int)(s:Ad)(m:Int)(len:Nat):Bool:=
 (Bo k).2.2&&(decide ((Bo k).1<0)||((len:Int)==(Bo k).1))&&((Bo k).2.1==!(s==[]))&&(!(Bo k).2.1||nameS s)&&!(k==40&&len==0)&&Fv k m
mutual
def Cr:Nd→Bool
 |.mk k s m ks=>Iq k s m ks.length&&E7 (.mk k s m ks) 0 ks
def E7:Nd→Nat→List Nd→Bool
 |_,_,[]=>true
 |p,i,x::l=>Lf p i x.kind&&(Cr x&&E7 p (i+1) l)
end
theorem Le(n:Nd):Cr n=(Iq n.kind n.name n.num n.kids.length&&E7 n 0 n.kids):=by cases n;rfl
theorem Auv(n:Nd)(hn:wN n≤1000000000):Pure X 259 [nd n] (vb (Cr n)):=by
 induction n using Nd.ind with
 |h n ih=>
 have hll:=Ho n;have hloop:∀T:Bool,E7 n 0 n.kids=T→AK X ⟨259,f259,0,0⟩ (J6 false 13 f259) [(1,.ptr 0 0 0)] ⟨[[Ag n]],[]⟩ (fun e S=>e=.ret (vb T)∧S=⟨[],[]⟩):=fun T hT=>by
  refine Dj ?_;refine Ba 100 rfl ?_;refine Ar (ι:=Nat) 1 0 (fun i=>i≤n.kids.length∧T=E7 n i (n.kids.drop i)) (fun i=>[(6,vi i),(1,.ptr 0 0 0)]) (fun _=>⟨[[Ag n]],[]⟩) (fun i=>n.kids.length-i) ?_ 0 ⟨Cb _,hT.symm⟩
   ⟨rfl,rfl,trivial⟩
  rintro i ⟨hi,hTi⟩ IH;refine Cp (fun h=>?_) (fun h=>?_)
  ·have hlt:i<n.kids.length:=by have:=A6 h;rw[Ae]at this;omega
   obtain⟨kid,hkid⟩:=Ab n.kids hlt;have hkw:=Jx (Bn hkid);rw[Bp hkid]at hTi;simp only[E7]at hTi;refine Eo 0 ?_;refine D6 (fun S'=>Ca rfl rfl rfl rfl rfl rfl rfl rfl rfl (by omega) (Ap hkid)) ?_;refine C9 ?_;refine Hz (A5k n i kid.kind (by omega)) ?_;refine Hy 1 ?_;cases hk:Lf n i kid.kind with
   |false=>
    refine Hm true ?_;refine C9 ?_;refine Bu ?_;refine Ay ?_;refine Az func259 ?_;rw[hTi,hk];rfl
   |true=>
    refine Hm false ?_;refine C9 ?_;refine D6 (fun S'=>Ca rfl rfl rfl rfl rfl rfl rfl rfl rfl (by omega) (Ap hkid)) ?_;refine C9 ?_;refine Hz (ih kid (Bn hkid) (by omega)) ?_;refine C9 ?_;refine Bu ?_;refine Ai (fun h2=>?_) (fun h2=>?_)
    ·have h2':(!Cr kid)=true:=h2;refine Az func259 ?_;rw[hTi];simp at h2';simp[h2',De]
    ·have h2':(!Cr kid)=false:=h2;simp at h2';refine IH (i+1) ⟨hlt,?_⟩ (by omega) _ _ ⟨vsx (by omega),rfl,trivial⟩ rfl rfl rfl;rw[hTi,hk,h2'];simp
  ·have:i=n.kids.length:=by have:=Bd h;rw[Ae]at this;omega
   subst this;refine Az func259 ?_;rw[hTi,Hr];rfl
 have hnl:n.name.length≤1000000000:=by have:=Arf n;omega
 have hF:=Le n;have hcont:Iq n.kind n.name 0 n.kids.length=Iq n.kind n.name 0 n.kids.length→∀z,(Iq n.kind n.name n.num n.kids.length=Fv n.kind n.num)→z=Cr n →
  AK X ⟨259,f259,0,0⟩ (J6 false 4 f259) [(1,.ptr 0 0 0)] ⟨[[Ag n]],[]⟩ (fun e S=>e=.ret (vb z)∧S=⟨[],[]⟩):=fun _ z hH hz=>by
  subst hz;rw[hH]at hF;refine Dj ?_;refine Cp (fun h1=>?_) (fun h1=>?_)
  ·refine Aj (Gg n.num 0 1000000) ?_;refine Ec 0 13 (fun h2=>?_) (fun h2=>?_)
   ·refine Az func259 ?_;rw[hF];simp_all [Fv,De]
   ·refine Br 1 0 (hloop _ ?_) ⟨rfl,trivial⟩ rfl rfl rfl rfl rfl;simp_all [Fv]
  ·refine Ai (fun h2=>?_) (fun h2=>?_)
   ·refine Aj (Gg n.num (-1) 1000000) ?_;refine Ec 0 13 (fun h2=>?_) (fun h2=>?_)
    ·refine Az func259 ?_;rw[hF];simp_all [Fv,De]
    ·refine Br 1 0 (hloop _ ?_) ⟨rfl,trivial⟩ rfl rfl rfl rfl rfl;simp_all [Fv]
   ·refine Ec 0 13 (fun h2=>?_) (fun h2=>?_)
    ·refine Az func259 ?_;rw[hF];simp_all [Fv,De]
    ·refine Br 1 0 (hloop _ ?_) ⟨rfl,trivial⟩ rfl rfl rfl rfl rfl;simp_all [Fv]
 refine Pure.run func259 ?_;refine Aj (Ay3 n.kind) ?_;generalize hsh:Bo n.kind=sh;obtain⟨a,b,c⟩:=sh;have hlen:((Av n.kids).length:Int)=n.kids.length:=by rw[Ae]
 have hH:Iq n.kind n.name n.num n.kids.length=(c&&(decide (a<0)||((n.kids.length:Int)==a))&&(b==!(n.name==[]))&&(!b||nameS n.name)&&!(n.kind==40&&n.kids.length==0)&&Fv n.kind n.num):=by simp only[Iq,hsh]
 cases c with
 |false=>
  refine Ep ?_;refine Ep ?_;refine Ep ?_;refine Ep ?_;refine Ay ?_;refine Az func259 ?_;rw[hF,hH];simp_all [De]<;>(intros;omega)
 |true=>
  refine Gm ?_;refine Db (fun h1=>?_) (fun h1=>?_)
  ·refine Db (fun h2=>?_) (fun h2=>?_)
   ·refine Ep ?_;refine Ep ?_;refine Ay ?_;refine Az func259 ?_;rw[hF,hH];simp_all [De]<;>(intros;omega)
   ·skip
    refine Db (fun h3=>?_) (fun h3=>?_)
    ·refine Ep ?_;refine Ay ?_;refine Az func259 ?_;rw[hF,hH];simp_all [De]<;>(intros;omega)
    ·cases b with
     |true=>
      refine Ep ?_;refine Aj (Am5 n.name hnl) ?_;refine Db (fun h4=>?_) (fun h4=>?_)
      ·skip
       refine Ay ?_;refine Az func259 ?_;rw[hF,hH];simp_all [De]<;>(intros;omega)
      ·skip
       refine Db (fun h5=>?_) (fun h5=>?_)
       ·refine Ec 0 4 (fun h6=>?_) (fun h6=>?_)
        ·refine Az func259 ?_;rw[hF,hH];simp_all [De]<;>(intros;omega)
        ·refine Br 1 0 (hcont rfl _ ?_ rfl) ⟨rfl,trivial⟩ rfl rfl rfl rfl rfl;rw[hH];simp_all<;>(intro _ hk;rw[Ae,hk]at hlen;simp at hlen;omega)
       ·refine Ec 0 4 (fun h6=>?_) (fun h6=>?_)
        ·cases h6
        ·refine Br 1 0 (hcont rfl _ ?_ rfl) ⟨rfl,trivial⟩ rfl rfl rfl rfl rfl;rw[hH];simp_all<;>(intro _ hk;rw[Ae,hk]at hlen;simp at hlen;omega)
     |false=>
      refine Gm ?_;refine Gm ?_;refine Db (fun h5=>?_) (fun h5=>?_)
      ·refine Ec 0 4 (fun h6=>?_) (fun h6=>?_)
       ·refine Az func259 ?_;rw[hF,hH];simp_all [De]<;>(intros;omega)
       ·refine Br 1 0 (hcont rfl _ ?_ rfl) ⟨rfl,trivial⟩ rfl rfl rfl rfl rfl;rw[hH];simp_all<;>(intro _ hk;rw[Ae,hk]at hlen;simp at hlen;omega)
      ·refine Ec 0 4 (fun h6=>?_) (fun h6=>?_)
       ·cases h6
       ·refine Br 1 0 (hcont rfl _ ?_ rfl) ⟨rfl,trivial⟩ rfl rfl rfl rfl rfl;rw[hH];simp_all<;>(intro _ hk;rw[Ae,hk]at hlen;simp at hlen;omega)
  ·refine Gm ?_;refine Db (fun h3=>?_) (fun h3=>?_)
   ·refine Ep ?_;refine Ay ?_;refine Az func259 ?_;rw[hF,hH];simp_all [De]<;>(intros;omega)
   ·cases b with
    |true=>
     refine Ep ?_;refine Aj (Am5 n.name hnl) ?_;refine Db (fun h4=>?_) (fun h4=>?_)
     ·skip
      refine Ay ?_;refine Az func259 ?_;rw[hF,hH];simp_all [De]<;>(intros;omega)
     ·skip
      refine Db (fun h5=>?_) (fun h5=>?_)
      ·refine Ec 0 4 (fun h6=>?_) (fun h6=>?_)
       ·refine Az func259 ?_;rw[hF,hH];simp_all [De]<;>(intros;omega)
       ·refine Br 1 0 (hcont rfl _ ?_ rfl) ⟨rfl,trivial⟩ rfl rfl rfl rfl rfl;rw[hH];simp_all<;>(intro _ hk;rw[Ae,hk]at hlen;simp at hlen;omega)
      ·refine Ec 0 4 (fun h6=>?_) (fun h6=>?_)
       ·cases h6
       ·refine Br 1 0 (hcont rfl _ ?_ rfl) ⟨rfl,trivial⟩ rfl rfl rfl rfl rfl;rw[hH];simp_all<;>(intro _ hk;rw[Ae,hk]at hlen;simp at hlen;omega)
    |false=>
     refine Gm ?_;refine Gm ?_;refine Db (fun h5=>?_) (fun h5=>?_)
     ·refine Ec 0 4 (fun h6=>?_) (fun h6=>?_)
      ·refine Az func259 ?_;rw[hF,hH];simp_all [De]<;>(intros;omega)
      ·refine Br 1 0 (hcont rfl _ ?_ rfl) ⟨rfl,trivial⟩ rfl rfl rfl rfl rfl;rw[hH];simp_all<;>(intro _ hk;rw[Ae,hk]at hlen;simp at hlen;omega)
     ·refine Ec 0 4 (fun h6=>?_) (fun h6=>?_)
      ·cases h6
      ·refine Br 1 0 (hcont rfl _ ?_ rfl) ⟨rfl,trivial⟩ rfl rfl rfl rfl rfl;rw[hH];simp_all<;>(intro _ hk;rw[Ae,hk]at hlen;simp at hlen;omega)
end Go.V
