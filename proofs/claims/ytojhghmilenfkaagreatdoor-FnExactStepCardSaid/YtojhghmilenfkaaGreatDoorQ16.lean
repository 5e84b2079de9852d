/- A part of the proof of the claim that the last text states: no condition of its own. -/
import Derived.Test.YtojhghmilenfkaaGreatDoorQ15
set_option linter.unusedVariables false
set_option linter.unusedSimpArgs false
namespace Go.V
open Go Go.Proofs Go.Proofs.Tryz
def Aw8(q:Bool)(x:Nd)(r:An)(c:Nat):Prop:=
 ∃a1 a2 a3:Value,r=[.val a1,.val a2,.val a3,.bsl c x.kids.length]∧(q=true→[AV.val a1,.val a2,.val a3]=[vi x.kind,str x.name,vi x.num])
mutual
def TRn(q:Bool)(lo hi:Nat)(bx:List (List (List AV)))(b:Nat):Nd→Prop
 |.mk _ _ _ ks=>(lo≤b∧b<hi)∧∃rows,bx[b]?=some rows∧TRl q lo hi bx rows ks
def TRl(q:Bool)(lo hi:Nat)(bx:List (List (List AV))):List (List AV)→List Nd→Prop
 |[],[]=>True
 |r::rs,x::l=>(∃c,Aw8 q x r c∧TRn q lo hi bx c x)∧TRl q lo hi bx rs l
 |_,_=>False
end
theorem M5{q:Bool}{lo hi:Nat}{bx:B3}{b:Nat}{n:Nd}:TRn q lo hi bx b n↔(lo≤b∧b<hi)∧∃rows,bx[b]?=some rows∧TRl q lo hi bx rows n.kids:=by cases n;simp[TRn,Nd.kids]
theorem V6{q:Bool}{lo hi:Nat}{bx:B3}:∀{rs:A7}{l:List Nd},TRl q lo hi bx rs l→rs.length=l.length
 |[],[],_=>rfl
 |r::rs,x::l,h=>by simp only[TRl]at h;simp[V6 h.2]
 |[],_::_,h=>by simp[TRl]at h
 |_::_,[],h=>by simp[TRl]at h
theorem Si{q:Bool}{lo hi:Nat}{bx:B3}:∀{rs:A7}{l:List Nd},TRl q lo hi bx rs l→∀(i:Nat)(x:Nd),l[i]?=some x→∃r c,rs[i]?=some r∧Aw8 q x r c∧TRn q lo hi bx c x
 |[],[],_,i,x,h=>by simp at h
 |r::rs,y::l,h,i,x,hx=>by
  simp only[TRl]at h;cases i with
  |zero=>simp at hx;subst hx;obtain⟨⟨c,h1,h2⟩,_⟩:=h;exact⟨r,c,rfl,h1,h2⟩
  |succ i=>simpa using Si h.2 i x (by simpa using hx)
 |[],_::_,h,_,_,_=>by simp[TRl]at h
 |_::_,[],h,_,_,_=>by simp[TRl]at h
theorem Aaa{q:Bool}{lo hi:Nat}{bx:B3}:∀{rs:A7}{l:List Nd},rs.length=l.length→(∀(i:Nat)(x:Nd),l[i]?=some x→∃r c,rs[i]?=some r∧Aw8 q x r c∧TRn q lo hi bx c x)→TRl q lo hi bx rs l
 |[],[],_,_=>trivial
 |r::rs,y::l,h,hg=>by
  simp only[TRl];obtain⟨r',c,h1,h2,h3⟩:=hg 0 y rfl;simp at h1;subst h1;exact⟨⟨c,h2,h3⟩,Aaa (by simpa using h) fun i x hx=>by simpa using hg (i+1) x (by simpa using hx)⟩
 |[],_::_,h,_=>by simp at h
 |_::_,[],h,_=>by simp at h
theorem Axg(n:Nd):∀{lo hi b:Nat}{bx:B3},TRn true lo hi bx b n→TRn false lo hi bx b n:=by
 induction n using Nd.ind with
 |h n ih=>
 intro lo hi b bx h;obtain⟨h1,rows,h2,h3⟩:=M5.1 h;refine M5.2 ⟨h1,rows,h2,Aaa (V6 h3) fun i x hx=>?_⟩;obtain⟨r,c,g1,⟨a1,a2,a3,g2,_⟩,g4⟩:=Si h3 i x hx;exact⟨r,c,g1,⟨a1,a2,a3,g2,fun h=>by cases h⟩,ih x (Bn hx) g4⟩
theorem Sg{q:Bool}(n:Nd):∀{lo hi lo' hi' b:Nat}{bx bx':B3},lo'≤lo→hi≤hi'→(∀(i:Nat) y,lo≤i→i<hi→bx[i]?=some y→bx'[i]?=some y)→TRn q lo hi bx b n→TRn q lo' hi' bx' b n:=by
 induction n using Nd.ind with
 |h n ih=>
 intro lo hi lo' hi' b bx bx' h0 h9 hb h;obtain⟨h1,rows,h2,h3⟩:=M5.1 h;refine M5.2 ⟨by omega,rows,hb b rows h1.1 h1.2 h2,Aaa (V6 h3) fun i x hx=>?_⟩;obtain⟨r,c,g1,g2,g4⟩:=Si h3 i x hx;exact⟨r,c,g1,g2,ih x (Bn hx) h0 h9 hb g4⟩
theorem A40(n:Nd):∀{lo hi b:Nat}{S:St},Al n≤1000000000→TRn true lo hi S.boxes b n→Fz S 0 0 (.bsl b n.kids.length) (.sl (Av n.kids) .no):=by
 induction n using Nd.ind with
 |h n ih=>
 intro lo hi b S hn h;obtain⟨h1,rows,h2,h3⟩:=M5.1 h;have hlen:=V6 h3;have hcn:=Co n;have hll:=Bq n.kids;have hrow:∀(i:Nat) (r r':An),rows[i]?=some r→(Av n.kids)[i]?=some r'→∃x c,x∈n.kids∧r'=Ag x∧r=[vi x.kind,str x.name,vi x.num,.bsl c x.kids.length]∧TRn true lo hi S.boxes c x:=by
  intro i r r' hr hr';obtain⟨x,hx⟩:=Ab n.kids (i:=i) (by have:=Aa hr;omega);obtain⟨r0,c,g1,⟨a1,a2,a3,g2,g3⟩,g4⟩:=Si h3 i x hx;rw[hr]at g1;cases g1;have:=g3 rfl;simp only[List.cons.injEq,and_true]at this;rw[Ap hx]at hr';exact⟨x,c,Bn hx,(Option.some.inj hr').symm,by rw[g2,this.1,this.2.1,this.2.2],g4⟩
 refine .bsl b n.kids.length rows (Av n.kids) (Cb _) h2 (by omega) (by unfold P1;omega) (Ae _) (fun i r r' hr hr'=>?_) (fun i j r r' x y hr hr' hx hy=>?_)
 ·obtain⟨x,c,_,rfl,rfl,_⟩:=hrow i r r' hr hr';rfl
 ·obtain⟨z,c,hz,rfl,rfl,hT⟩:=hrow i r r' hr hr'
  match j,hx,hy with
  |0,hx,hy=>simp[Ag]at hx hy;subst hx;subst hy;exact .same _ (.val _)
  |1,hx,hy=>simp[Ag]at hx hy;subst hx;subst hy;exact .same _ (.val _)
  |2,hx,hy=>simp[Ag]at hx hy;subst hx;subst hy;exact .same _ (.val _)
  |3,hx,hy=>simp[Ag]at hx hy;subst hx;subst hy;exact ih z hz (by have:=Fc hz;omega) hT
  |j+4,hx,_=>simp at hx
structure Mk (lo hi:Nat)(bx bx':List (List (List AV))):Prop where
 len:bx.length≤bx'.length
 far:∀b,b<bx.length→b<lo∨hi≤b→bx'[b]?=bx[b]?
 row:∀(b:Nat) rows,bx[b]?=some rows→∃rows',bx'[b]?=some rows'∧rows'.length=rows.length ∧
  ∀(i:Nat) (a1 a2 a3:Value) (x:AV),rows[i]?=some [.val a1,.val a2,.val a3,x]→∃b1 b2 b3:Value,rows'[i]?=some [.val b1,.val b2,.val b3,x]
theorem Mk.refl(lo hi:Nat)(bx:B3):Mk lo hi bx bx:=⟨Bt _,fun _ _ _=>rfl,fun b rows h=>⟨rows,h,rfl,fun i a1 a2 a3 x h=>⟨a1,a2,a3,h⟩⟩⟩
theorem Mk.trans{lo hi:Nat}{bx bx' bx'':B3}(h:Mk lo hi bx bx')(h':Mk lo hi bx' bx''):Mk lo hi bx bx'':=by
 refine⟨Vt h.len h'.len,fun b hl hb=>(h'.far b (Ng hl h.len) hb).trans (h.far b hl hb),fun b rows hr=>?_⟩;obtain⟨rows1,h1,h2,h3⟩:=h.row b rows hr;obtain⟨rows2,g1,g2,g3⟩:=h'.row b rows1 h1;refine⟨rows2,g1,g2.trans h2,fun i a1 a2 a3 x hx=>?_⟩;obtain⟨b1,b2,b3,h4⟩:=h3 i a1 a2 a3 x hx;exact g3 i b1 b2 b3 x h4
theorem Mk.set{lo hi b i:Nat}{bx:B3}{rows:A7}{a1 a2 a3 b1 b2 b3:Value}{x:AV}(h1:lo≤b)(h2:b<hi)(hb:bx[b]?=some rows)(hr:rows[i]?=some [.val a1,.val a2,.val a3,x]) :
 Mk lo hi bx (bx.set b (rows.set i [.val b1,.val b2,.val b3,x])):=by
 have hbl:=Aa hb;have hil:=Aa hr;refine⟨by simp,fun c _ hc=>Fi (by omega),fun c rows' hc=>?_⟩;by_cases he:c=b
 ·subst he;rw[hb]at hc;cases hc;refine⟨_,Ez hbl,by simp,fun j c1 c2 c3 y hy=>?_⟩;by_cases hj:j=i
  ·subst hj;rw[hr]at hy;cases hy;exact⟨b1,b2,b3,Ez hil⟩
  ·exact⟨c1,c2,c3,by rw[Fi (Ne.symm hj)];exact hy⟩
 ·exact⟨rows',by rw[Fi (Ne.symm he)];exact hc,rfl,fun j c1 c2 c3 y hy=>⟨c1,c2,c3,hy⟩⟩
theorem Mk.snoc(lo hi:Nat)(bx:B3)(r:A7):Mk lo hi bx (bx++[r]):=
 ⟨by simp,fun b hl _=>Dd hl,fun b rows h=>⟨rows,by rw[Dd (Aa h)];exact h,rfl,fun i a1 a2 a3 x h=>⟨a1,a2,a3,h⟩⟩⟩
theorem Mk.tree(n:Nd):∀{lo hi b:Nat}{bx bx':B3},Mk lo hi bx bx'→TRn false lo hi bx b n→TRn false lo hi bx' b n:=by
 induction n using Nd.ind with
 |h n ih=>
 intro lo hi b bx bx' hm h;obtain⟨h1,rows,h2,h3⟩:=M5.1 h;obtain⟨rows',g1,g2,g3⟩:=hm.row b rows h2;refine M5.2 ⟨h1,rows',g1,Aaa (by rw[g2];exact V6 h3) fun i x hx=>?_⟩;obtain⟨r,c,k1,⟨a1,a2,a3,rfl,_⟩,k4⟩:=Si h3 i x hx;obtain⟨b1,b2,b3,k5⟩:=g3 i a1 a2 a3 _ k1;exact⟨_,c,k5,⟨b1,b2,b3,rfl,fun h=>by cases h⟩,ih x (Bn hx) hm k4⟩
mutual
def Gx(d:Nat):AV→AV
 |.val v=>.val v
 |.bsl b k=>.bsl (b+d) k
 |.sl [] _=>.sl [] .no
 |.psl [] _ _=>.sl [] .no
 |.agg cs=>.agg (Qm d cs)
 |.tup cs=>.tup (Qm d cs)
 |_=>.junk
def Qm(d:Nat):List AV→List AV
 |[]=>[]
 |x::l=>Gx d x::Qm d l
end
theorem Aps(d:Nat):∀l:An,Qm d l=l.map (Gx d)
 |[]=>rfl
 |x::l=>by simp[Qm,Aps d l]
def Lu(d:Nat)(bx:B3):B3:=bx.map fun rows=>rows.map fun r=>r.map (Gx d)
mutual
theorem Od(d:Nat):∀x:AV,Sh d x (Gx d x)
 |.val v=>by simp only[Gx];exact .val v
 |.bsl b k=>by simp only[Gx];exact .bsl b k
 |.sl [] sp=>by simp only[Gx];exact .nil sp
 |.psl [] t v=>by simp only[Gx];exact .pnil t v
 |.agg cs=>by simp only[Gx];exact .aggL (Acv d cs)
 |.tup cs=>by simp only[Gx];have h:=(Acv d cs).get;exact .tup _ _ h.1 h.2
 |.sl (r::l) sp=>by simp only[Gx];exact .junk _
 |.psl (r::l) t v=>by simp only[Gx];exact .junk _
 |.ptr _ _ _=>by simp only[Gx];exact .junk _
 |.cptr _=>by simp only[Gx];exact .junk _
 |.bst _ _ _=>by simp only[Gx];exact .junk _
 |.fn _ _=>by simp only[Gx];exact .junk _
 |.lit _=>by simp only[Gx];exact .junk _
 |.junk=>by simp only[Gx];exact .junk _
 |.err=>by simp only[Gx];exact .junk _
 |.tagN _ _=>by simp only[Gx];exact .junk _
 |.buf _ _ _=>by simp only[Gx];exact .junk _
 |.dat _ _ _=>by simp only[Gx];exact .junk _
 |.pp _ _ _ _ _=>by simp only[Gx];exact .junk _
theorem Acv(d:Nat):∀l:List AV,ShL d l (Qm d l)
 |[]=>by simp only[Qm];exact .nil
 |x::l=>by simp only[Qm];exact .cons (Od d x) (Acv d l)
end
theorem Az6(d:Nat)(l:An):ShL d l (l.map (Gx d)):=by rw[←Aps];exact Acv d l
theorem Jw(d:Nat)(bx:B3):ShB d bx (Lu d bx):=by
 refine⟨by simp[Lu],fun i x y hx hy=>?_⟩;simp only[Lu,Hd,hx,K4,Option.some.injEq]at hy;subst hy;refine⟨by simp,fun j a b ha hb=>?_⟩;simp only[Hd,ha,K4,Option.some.injEq]at hb;subst hb;exact Az6 d a
theorem O0(d:Nat)(bx:B3):(Lu d bx).length=bx.length:=by simp[Lu]
def Ik:AV→List Nat
 |.bsl b _=>[b]
 |_=>[]
def SlG(bx:B3)(x:AV)(rows:A7):Prop:=(∃b ex,x=.bsl b rows.length∧bx[b]?=some (rows++ex))∨(rows=[]∧Gx 0 x=.sl [] .no∧Ik x=[])
def SlB(bx:B3)(x:AV)(rows:A7):Prop:=(∃b ex,x=.bsl b rows.length∧bx[b]?=some (rows++ex))∨(rows=[]∧∃sp,x=.sl [] sp)
theorem Apt{d:Nat}{x:AV}(h:Gx 0 x=.sl [] .no):Gx d x=.sl [] .no:=by
 revert h;cases x with
 |sl l sp=>cases l<;>simp[Gx]
 |psl l t v=>cases l<;>simp[Gx]
 |_=>simp[Gx]
theorem SlG.held{pre bx:B3}{x:AV}{rows:A7}(h:SlG bx x rows):SlB (pre++Lu pre.length bx) (Gx pre.length x) (rows.map fun r=>r.map (Gx pre.length)):=by
 rcases h with⟨b,ex,rfl,h⟩|⟨rfl,h,_⟩
 ·refine .inl ⟨b+pre.length,ex.map fun r=>r.map (Gx pre.length),by simp[Gx],?_⟩;rw[Gz (by omega),Aex,Lu,Hd,h];simp
 ·exact .inr ⟨rfl,.no,Apt h⟩
theorem Ze(d:Nat)(x:AV):Ik (Gx d x)=(Ik x).map (·+d):=by
 cases x with
 |sl l sp=>cases l<;>simp[Gx,Ik]
 |psl l t v=>cases l<;>simp[Gx,Ik]
 |_=>simp[Gx,Ik]
theorem Qb(d:Nat)(l:List Int):(Fh l).map (fun r=>r.map (Gx d))=Fh l:=by
 simp[Fh,Gx]
theorem Je(d:Nat)(l:List (Bool×Int)):(G5 l).map (fun r=>r.map (Gx d))=G5 l:=by
 simp[G5,Gx]
theorem SlB.fz{S:St}{x:AV}{rows rows':A7}(h:SlB S.boxes x rows)(hl:rows.length≤1000000000000)(hlen:rows'.length=rows.length)(hll:∀(i:Nat)(r r':An),rows[i]?=some r→rows'[i]?=some r'→r'.length=r.length)
 (hz:∀(i j:Nat)(r r':An)(x y:AV),rows[i]?=some r→rows'[i]?=some r'→r[j]?=some x→r'[j]?=some y→Fz S 0 0 x y):Fz S 0 0 x (.sl rows' .no):=by
 rcases h with⟨b,ex,rfl,h⟩|⟨rfl,sp,rfl⟩
 ·have hg:∀{i:Nat} {r:An},i<rows'.length→(rows++ex)[i]?=some r→rows[i]?=some r:=fun{i r} hi h=>by rw[Dd (by omega)]at h;exact h
  refine .bsl b rows.length (rows++ex) rows' (Cb _) h (by simp) (by unfold P1;omega) hlen (fun i r r' h1 h2=>hll i r r' (hg (Aa h2) h1) h2) (fun i j r r' x y h1 h2 h3 h4=>hz i j r r' x y (hg (Aa h2) h1) h2 h3 h4)
 ·have:rows'=[]:=zzq84.1 hlen;subst this;exact .strip [] [] sp rfl (fun i r r' h=>by simp at h) (fun i j r r' x y h=>by simp at h)
theorem SlB.flat{S:St}{x:AV}{rows:A7}(h:SlB S.boxes x rows)(hl:rows.length≤1000000000000)(hok:OKR 0 0 rows):Fz S 0 0 x (.sl rows .no):=by
 refine h.fz hl rfl (fun i r r' h1 h2=>by rw[h1]at h2;cases h2;rfl) fun i j r r' x y h1 h2 h3 h4=>?_;rw[h1]at h2;cases h2;rw[h3]at h4;cases h4;exact .same _ (hok.ok r (Bn h1) x (Bn h3))
def Chg(ids:List Nat)(bx bx':B3):Prop:=bx.length≤bx'.length∧∀b,b<bx.length→b∉ids→bx'[b]?=bx[b]?
theorem Chg.refl(ids:List Nat)(bx:B3):Chg ids bx bx:=⟨Bt _,fun _ _ _=>rfl⟩
theorem Chg.trans{a b:List Nat}{bx bx' bx'':B3}(h:Chg a bx bx')(h':Chg b bx' bx''):Chg (a++b) bx bx'':=
 ⟨Vt h.1 h'.1,fun i hl hi=>by rw[zzq26,not_or]at hi;exact(h'.2 i (Ng hl h.1) hi.2).trans (h.2 i hl hi.1)⟩
theorem Chg.more{a b:List Nat}{bx bx':B3}(h:Chg a bx bx')(hs:∀i,i∈a→i∈b):Chg b bx bx':=⟨h.1,fun i hl hi=>h.2 i hl fun hh=>hi (hs i hh)⟩
theorem Chg.snoc(ids:List Nat)(bx:B3)(r:A7):Chg ids bx (bx++[r]):=⟨by simp,fun b hl _=>Dd hl⟩
theorem Mk.chg{lo hi:Nat}{bx bx':B3}(h:Mk lo hi bx bx'):Chg ((List.range (hi-lo)).map (lo+·)) bx bx':=
 ⟨h.len,fun b hl hb=>h.far b hl (by
   rcases Ga b lo with h1|h1
   ·exact .inl h1
   ·refine .inr (Nat.le_of_not_lt fun h2=>hb (zzq50.2 ⟨b-lo,zzq33.2 (by omega),by omega⟩)))⟩
theorem SlB.chg{ids:List Nat}{bx bx':B3}{x:AV}{rows:A7}(h:SlB bx x rows)(hc:Chg ids bx bx')(hd:∀i,i∈Ik x→i∉ids):SlB bx' x rows:=by
 rcases h with⟨b,ex,rfl,h⟩|⟨rfl,sp,rfl⟩
 ·exact .inl ⟨b,ex,rfl,by rw[hc.2 b (Aa h) (hd b (by simp[Ik]))];exact h⟩
 ·exact .inr ⟨rfl,sp,rfl⟩
theorem SlB.more{bx bx':B3}{x:AV}{rows:A7}(h:SlB bx x rows):SlB (bx++bx') x rows:=by
 rcases h with⟨b,ex,rfl,h⟩|⟨rfl,sp,rfl⟩
 ·exact .inl ⟨b,ex,rfl,by rw[Dd (Aa h)];exact h⟩
 ·exact .inr ⟨rfl,sp,rfl⟩
structure CfB (Sl:List (List (List AV))→AV→List (List AV)→Prop)(bx:List (List (List AV)))(x:AV)(ids:List Nat)(c:Cf):Prop where
 ex:∃(V C:AV) (ys:List AV),x=.agg [vi c.pt,V,C,vi c.used,vi c.steps,vi c.trap,vi c.edge,vi c.acc]∧ids=Ik V++(Ik C++ys.flatMap Ik)∧ids.Nodup∧Sl bx V (Fh c.vars)∧Sl bx C (ys.map fun y=>[y]) ∧
  ys.length=c.cells.length∧∀(j:Nat) (y:AV) (l:List (Bool×Int)),ys[j]?=some y→c.cells[j]?=some l→Sl bx y (G5 l)
theorem CfB.held{pre bx:B3}{x:AV}{ids:List Nat}{c:Cf}(h:CfB SlG bx x ids c):CfB SlB (pre++Lu pre.length bx) (Gx pre.length x) (ids.map (·+pre.length)) c:=by
 obtain⟨V,C,ys,rfl,rfl,h3,h4,h5,h6,h7⟩:=h.ex;refine⟨Gx pre.length V,Gx pre.length C,ys.map (Gx pre.length),by simp[Gx,Qm],?_,?_,?_,?_,by simpa using h6,fun j y l hy hl=>?_⟩
 ·simp only[Jp,Ze,List.map_flatMap,List.flatMap_map]
 ·exact List.Pairwise.map _ (fun a b h=>by simp only[ne_eq]at h⊢;omega) h3
 ·have:=h4.held (pre:=pre);rw[Qb]at this;exact this
 ·have:=h5.held (pre:=pre);rw[Z2]at this;rw[Z2];exact this
 ·rw[Hd]at hy;cases hy':ys[j]? with
  |none=>rw[hy']at hy;cases hy
  |some y0=>
   rw[hy']at hy;cases hy;have:=(h7 j y0 l hy' hl).held (pre:=pre);rw[Je]at this;exact this
theorem CfB.more{bx bx':B3}{x:AV}{ids:List Nat}{c:Cf}(h:CfB SlB bx x ids c):CfB SlB (bx++bx') x ids c:=by
 obtain⟨V,C,ys,h1,h2,h3,h4,h5,h6,h7⟩:=h.ex;exact⟨V,C,ys,h1,h2,h3,h4.more,h5.more,h6,fun j y l hy hl=>(h7 j y l hy hl).more⟩
theorem CfB.chg{js:List Nat}{bx bx':B3}{x:AV}{ids:List Nat}{c:Cf}(h:CfB SlB bx x ids c)(hc:Chg js bx bx')(hd:∀i,i∈ids→i∉js):CfB SlB bx' x ids c:=by
 obtain⟨V,C,ys,h1,h2,h3,h4,h5,h6,h7⟩:=h.ex;refine⟨V,C,ys,h1,h2,h3,h4.chg hc fun i hi=>hd i (by simp[h2,hi]),h5.chg hc fun i hi=>hd i (by simp[h2,hi]),h6,fun j y l hy hl=>(h7 j y l hy hl).chg hc fun i hi=>hd i ?_⟩;rw[h2,zzq26,zzq26,zzq100];exact .inr (.inr ⟨y,Bn hy,hi⟩)
theorem CfB.fzC{S:St}{x:AV}{ids:List Nat}{c:Cf}(h:CfB SlB S.boxes x ids c)(hc:CfOk c):∃cs,x=.agg cs∧cs.length=8∧∀(j:Nat)(a b:AV),cs[j]?=some a→(G3 c)[j]?=some b→Fz S 0 0 a b:=by
 obtain⟨V,C,ys,rfl,_,_,h4,h5,h6,h7⟩:=h.ex;have l1:=hc.vars;have l2:=hc.cells;have fV:Fz S 0 0 V (.sl (Fh c.vars) .no):=h4.flat (by rw[Fb];omega) inferInstance;have fC:Fz S 0 0 C (.sl (H9 c.cells) .no):=by
  refine h5.fz (by simp;omega) (by rw[Mi];simp[h6]) (fun i r r' h1 h2=>?_) fun i j r r' x y h1 h2 h3 h4=>?_
  ·rw[Hd]at h1;cases hy:ys[i]? with
   |none=>rw[hy]at h1;cases h1
   |some y=>
    rw[hy]at h1;cases h1;simp only[H9,Hd]at h2;cases hl:c.cells[i]? with
    |none=>rw[hl]at h2;cases h2
    |some l=>rw[hl]at h2;cases h2;rfl
  ·rw[Hd]at h1;cases hy:ys[i]? with
   |none=>rw[hy]at h1;cases h1
   |some y0=>
    rw[hy]at h1;cases h1;simp only[H9,Hd]at h2;cases hl:c.cells[i]? with
    |none=>rw[hl]at h2;cases h2
    |some l=>
     rw[hl]at h2;cases h2;have hj:j=0:=by have:=Aa h3;simp at this;omega
     subst hj;simp at h3 h4;subst h3;subst h4;exact(h7 i _ l hy hl).flat (by have:=hc.rows l (Bn hl);rw[Gs];omega) inferInstance
 refine⟨_,rfl,rfl,fun j a b ha hb=>?_⟩
 match j,ha,hb with
 |0,ha,hb=>simp at ha hb;subst ha;subst hb;exact .same _ (.val _)
 |1,ha,hb=>simp at ha hb;subst ha;subst hb;exact fV
 |2,ha,hb=>simp at ha hb;subst ha;subst hb;exact fC
 |3,ha,hb=>simp at ha hb;subst ha;subst hb;exact .same _ (.val _)
 |4,ha,hb=>simp at ha hb;subst ha;subst hb;exact .same _ (.val _)
 |5,ha,hb=>simp at ha hb;subst ha;subst hb;exact .same _ (.val _)
 |6,ha,hb=>simp at ha hb;subst ha;subst hb;exact .same _ (.val _)
 |7,ha,hb=>simp at ha hb;subst ha;subst hb;exact .same _ (.val _)
 |j+8,ha,_=>simp at ha
theorem CfB.fz{S:St}{x:AV}{ids:List Nat}{c:Cf}(h:CfB SlB S.boxes x ids c)(hc:CfOk c):Fz S 0 0 x (cf c):=by
 obtain⟨cs,rfl,h1,h2⟩:=h.fzC hc;exact .agg _ _ h1.symm h2
def bgM:List Int→List Int→Option (List Nat)
 |[],[]=>some []
 |[],_::_=>none
 |s::ss,ls=>if s<0 then(match ls with
   |[]=>none
   |l::ls'=>if A8 l 0 60 then(bgM ss ls').map (l.toNat::·)else none)else(bgM ss ls).map (s.toNat::·)
def zC:Cf:=⟨0,[],[],0,0,0,0,0⟩
def Ain(n:Nat)(s:Ad):Ad:=if h:n=0 then s else Ain (n/10) (UInt8.ofNat (48+n%10)::s)
theorem A0e(k:Nat)(h1:1≤k)(h2:k≤100000000000):Pure X 60 [vi k] (str (109::Ain k [])):=by
 refine Pure.run func60 ?_;refine Ah ?_ (ht:=Ks (by omega));refine Ar (ι:=Nat×Ad) 0 0 (fun i=>i.1≤k∧i.2.length+i.1≤k∧Ain i.1 i.2=Ain k []) (fun i=>[(0,vi i.1),(3,str i.2)]) (fun _=>⟨[],[]⟩) (fun i=>i.1) ?_ (k,[]) ⟨Bt _,by simp,rfl⟩
  ⟨rfl,rfl,trivial⟩
 intro i hi IH;obtain⟨m,s⟩:=i;obtain⟨hm,hl,he⟩:=hi;simp only at hm hl he;refine Cp (fun h=>?_) (fun h=>?_)
 ·have h':0<m:=by have:=A6 h;simp only at this;omega
  have hd:(m:Int).tdiv 10=((m/10:Nat):Int):=by rw[Int.tdiv_eq_ediv_of_nonneg (by omega)];omega
  have hr:((m:Int).tmod 10)=((m%10:Nat):Int):=by rw[Int.tmod_eq_emod_of_nonneg (by omega)];omega
  refine Bs (Ac5 (s:=[UInt8.ofNat (48+m%10)]) rfl rfl rfl rfl rfl rfl rfl rfl rfl rfl ?_) ?_
  ·show [[_]]=[[_]]
   simp only[hr,Xr (m%10) (by omega)]
  refine Bs (Se rfl rfl rfl rfl rfl ?_ rfl) ?_
  ·simp;omega
  refine IH (m/10,UInt8.ofNat (48+m%10)::s) ⟨by simp only;omega,by simp;omega,?_⟩ (by simp only;omega) _ _ ⟨Ci ?_,rfl,trivial⟩ rfl rfl rfl
  ·rw[←he];conv=>rhs;rw[Ain]
   rw[dif_neg (by omega)]
  ·simp only[hd];exact Ac (by omega) (by omega)
 ·have h':m=0:=by have:=Bd h;simp only at this;omega
  subst h';have:Ain 0 s=s:=by rw[Ain];rfl
  rw[this]at he;simp only[Rx]at hl;refine Bs (Se rfl rfl rfl rfl rfl ?_ rfl) ?_
  ·simp;omega
  refine Ao func60 ?_;rw[←he];rfl
mutual
def mcN:Nd→Nat
 |.mk _ _ _ ks=>mcL ks
def mcL:List Nd→Nat
 |[]=>0
 |x::l=>3+mcN x+mcL l
end
theorem A2w(n:Nd):mcN n=mcL n.kids:=by cases n;simp[mcN,Nd.kids]
theorem Aim:∀l l':List Nd,mcL (l++l')=mcL l+mcL l'
 |[],l'=>by simp[mcL]
 |x::l,l'=>by simp[mcL,Aim l l'];omega
def MkP(lo hi:Nat)(S:St)(k:Nat)(r:AV)(S':St):Prop:=r=vi k∧S'.toks=S.toks∧Mk lo hi S.boxes S'.boxes
theorem Ao3:∀l:List Nd,l.length≤mcL l
 |[]=>Cb _
 |x::l=>by have:=Ao3 l;simp[mcL];omega
theorem Am0{lo hi b i:Nat}{S:St}{rows:A7}{a1 a2 a3:Value}{x:AV}(h12:lo≤b∧b<hi)(hb:S.boxes[b]?=some rows)(hr:rows[i]?=some [.val a1,.val a2,.val a3,x])(b1 b2 b3:Value) :
 ∃S2 rows2,S2=(⟨S.boxes.set b (rows.set i [.val b1,.val b2,.val b3,x]),S.toks⟩:St)∧S2.boxes[b]?=some rows2∧rows2[i]?=some [.val b1,.val b2,.val b3,x]∧Mk lo hi S.boxes S2.boxes∧S2.toks=S.toks:=
 ⟨_,_,rfl,Ez (Aa hb),Ez (Aa hr),Mk.set h12.1 h12.2 hb hr,rfl⟩
theorem Awa(n:Nd):∀{lo hi b:Nat}{S:St}{k:Nat},TRn false lo hi S.boxes b n→1≤k→k+mcN n≤100000000000 →
 Runs X 59 [.bsl b n.kids.length,vi k] S (MkP lo hi S (k+mcN n)):=by
 induction n using Nd.ind with
 |h n ih=>
 intro lo hi b S k hT hk1 hk2;rw[A2w]at hk2⊢;have hlm:=Ao3 n.kids;refine Runs.run func59 ?_;refine I6 (ι:=Nat×St) (fun i=>i.1≤n.kids.length∧i.2.toks=S.toks∧Mk lo hi S.boxes i.2.boxes) (fun i=>[(5,vi i.1),(1,vi ((k+mcL (n.kids.take i.1):Nat):Int)),(0,.bsl b n.kids.length)]) (fun i=>i.2) (fun i=>n.kids.length-i.1) ?_ (0,S)
  ⟨Cb _,rfl,Mk.refl _ _ _⟩ ⟨rfl,rfl,rfl,trivial⟩ rfl
 intro i hi IH;obtain⟨i,S1⟩:=i;obtain⟨hi,ht,hM⟩:=hi;simp only at hi ht hM;refine Cp (fun g=>?_) (fun g=>?_)
 ·have hlt:i<n.kids.length:=by have:=A6 g;simp only at this;omega
  obtain⟨x,hx⟩:=Ab n.kids hlt;have hxm:=Bn hx;have hmc:mcL (n.kids.take (i+1))=mcL (n.kids.take i)+(3+mcN x):=by rw[Hq,hx,Aha,Aim];simp[mcL]
  have hle:mcL (n.kids.take (i+1))≤mcL n.kids:=by
   have h0:mcL n.kids=mcL (n.kids.take (i+1))+mcL (n.kids.drop (i+1)):=by rw[←Aim,Ag9]
   omega
  have hT1:=hM.tree n hT;obtain⟨hb12,rows,hb,hR⟩:=M5.1 hT1;obtain⟨r,c,hr,⟨a1,a2,a3,rfl,_⟩,hTx⟩:=Si hR i x hx;generalize hq:mcL (n.kids.take i)=q at *;have e1:IntKind.i64.wrap (((k+q:Nat):Int)+1)=((k+q+1:Nat):Int):=by rw[Ac (by omega) (by omega)];omega
  have e2:IntKind.i64.wrap (IntKind.i64.wrap (((k+q:Nat):Int)+1)+1)=((k+q+2:Nat):Int):=by rw[e1,Ac (by omega) (by omega)];omega
  have e3:IntKind.i64.wrap (IntKind.i64.wrap (IntKind.i64.wrap (((k+q:Nat):Int)+1)+1)+1)=((k+q+3:Nat):Int):=by rw[e2,Ac (by omega) (by omega)];omega
  have p1:=A0e (k+q+1) (by omega) (by omega);rw[←e1]at p1;obtain⟨S2,rows2,hS2,hb2,hr2,hM2,ht2⟩:=Am0 hb12 hb hr (.int .i64 ((k+q:Nat):Int)) a2 a3;obtain⟨S3,rows3,hS3,hb3,hr3,hM3,ht3⟩:=Am0 hb12 hb2 hr2 (.int .i64 ((k+q:Nat):Int)) (.string ⟨⟨109::Ain (k+q+1) []⟩⟩) a3;obtain⟨S4,rows4,hS4,hb4,hr4,hM4,ht4⟩:=Am0 hb12 hb3 hr3 (.int .i64 ((k+q:Nat):Int)) (.string ⟨⟨109::Ain (k+q+1) []⟩⟩) (.int .i64 (IntKind.i64.wrap (IntKind.i64.wrap (((k+q:Nat):Int)+1)+1)));have hM4':=((hM.trans hM2).trans hM3).trans hM4;have hTx4:=(((hM2.trans hM3).trans hM4).tree x hTx)
  have ih4:=@ih x hxm _ _ _ _ (k+q+3) hTx4 (by omega) (by omega);have e3':(vi ((k+q+3:Nat):Int))=vi (IntKind.i64.wrap (IntKind.i64.wrap (IntKind.i64.wrap (((k+q:Nat):Int)+1)+1)+1)):=by rw[e3]
  rw[e3']at ih4;refine Jr i hlt hb hr rfl ?_;refine L5 hb hr rfl ?_;refine Bl S2 ?_ hS2.symm;refine Aj p1 ?_;refine Jr i hlt hb2 hr2 rfl ?_;refine L5 hb2 hr2 rfl ?_;refine Bl S3 ?_ hS3.symm;refine Jr i hlt hb3 hr3 rfl ?_;refine L5 hb3 hr3 rfl ?_;refine Bl S4 ?_ hS4.symm;refine Jr i hlt hb4 hr4 rfl ?_;refine L3 hb4 hr4 ?_;refine Hl ih4 ?_;intro r5 S5 hP _ _;obtain⟨rfl,ht5,hM5⟩:=hP;refine Ba 100 rfl ?_;refine IH (i+1,S5) ⟨hlt,by rw[ht5,ht4,ht3,ht2];exact ht,hM4'.trans hM5⟩ (by simp only;omega) _ _ ⟨Ci ((Ac (by omega) (by omega)).trans (by simp only;omega)),?_,rfl,trivial⟩ rfl;exact Ci (by simp only[hmc];omega)
 ·have:i=n.kids.length:=by have:=Bd g;simp only at this;omega
  subst this;rw[Jh];refine Bf func59 (h:=rfl) ⟨_,rfl,rfl,ht,hM⟩
theorem A0d(n:Nd){lo hi b:Nat}{S:St}{k:Nat}(hT:TRn false lo hi S.boxes b n)(hk1:1≤k)(hk2:k+mcN n≤100000000000) :
 Runs X 16 [.agg [vi n.kind,str n.name,vi n.num,.bsl b n.kids.length],vi k] S (MkP lo hi S (k+mcN n)):=by
 have hM:=Mk.snoc lo hi S.boxes [[vi n.kind,str n.name,vi n.num,.bsl b n.kids.length]];refine Runs.run func16 ?_;refine Ug rfl rfl ?_;have hb:(S.boxes++[[[vi n.kind,str n.name,vi n.num,AV.bsl b n.kids.length]]])[S.boxes.length]?=some [[vi n.kind,str n.name,vi n.num,.bsl b n.kids.length]]:=by simp
 have hr:([[vi n.kind,str n.name,vi n.num,AV.bsl b n.kids.length]]:A7)[0]?=some [vi n.kind,str n.name,vi n.num,.bsl b n.kids.length]:=rfl;refine L3 hb hr ?_;refine Hl (Awa n (S:=⟨_,S.toks⟩) (hM.tree n hT) hk1 hk2) ?_;intro r S2 hP _ _;obtain⟨rfl,ht,hM2⟩:=hP;refine Ba 100 rfl ?_;exact Bf func16 (h:=rfl) ⟨_,rfl,rfl,ht,hM.trans hM2⟩
def mkI(k:Nat)(n:Nat):List Int:=(List.range n).map fun i=>((k+i:Nat):Int)
def mb(k:Nat):Bool:=((k:Int).tmod 3==0)
def mkC(k:Nat)(n:Nat):List (Bool×Int):=(List.range n).map fun i=>(mb (k+2*i),((k+2*i+1:Nat):Int))
def Aaw(k:Nat):List Nat→List (List (Bool×Int))
 |[]=>[]
 |n::l=>mkC k n::Aaw (k+2*n) l
theorem Acl(k n:Nat):(mkI k n).length=n:=by simp[mkI]
theorem Ack(k n:Nat):(mkC k n).length=n:=by simp[mkC]
theorem Ve:∀(l:List Nat)(k:Nat),(Aaw k l).length=l.length
 |[],k=>rfl
 |n::l,k=>by simp[Aaw,Ve l]
theorem Auk(k n:Nat):mkI k (n+1)=mkI k n++[((k+n:Nat):Int)]:=by simp[mkI,List.range_succ]
theorem Auj(k n:Nat):mkC k (n+1)=mkC k n++[(mb (k+2*n),((k+2*n+1:Nat):Int))]:=by simp[mkC,List.range_succ]
theorem Ayr{k n i:Nat}(h:i<n):(mkI k n)[i]?=some ((k+i:Nat):Int):=by simp[mkI,h]
theorem Ayq{k n i:Nat}(h:i<n):(mkC k n)[i]?=some (mb (k+2*i),((k+2*i+1:Nat):Int)):=by simp[mkC,h]
theorem Zc:∀{l:List Nat}{k i m:Nat},l[i]?=some m→(Aaw k l)[i]?=some (mkC (k+2*(l.take i).sum) m)
 |[],k,i,m,h=>by simp at h
 |n::l,k,0,m,h=>by simp at h;subst h;simp[Aaw]
 |n::l,k,i+1,m,h=>by
  simp only[Ap6]at h;simp only[Aaw,Ap6,List.take_succ_cons,List.sum_cons];rw[Zc h];congr 2;omega
theorem Avx{α:Type}{a c ex:List α}{i:Nat}(ha:a.length=i)(hc:i<c.length):(a++(c.drop i++ex))[i]?=c[i]?:=by
 rw[Gz (by omega),ha,Iw,Dd (by rw[Anu];omega),R0,Rx]
theorem Apq{α:Type}{a c ex:List α}{i:Nat}(y:α)(ha:a.length=i)(hc:i<c.length):(a++(c.drop i++ex)).set i y=(a++[y])++(c.drop (i+1)++ex):=by
 rw[Jb _ _ (by omega),ha,Iw,Ap5 hc,R1,List.set_cons_zero,Gv,List.singleton_append]
theorem A0o(a b:List Int):Fh (a++b)=Fh a++Fh b:=by simp[Fh]
theorem Axo(a b:List (Bool×Int)):G5 (a++b)=G5 a++G5 b:=by simp[G5]
def MaP(x:AV)(rows:A7)(S:St)(k:Nat)(r:AV)(S':St):Prop:=r=vi k∧S'.toks=S.toks∧Chg (Ik x) S.boxes S'.boxes∧SlB S'.boxes x rows
theorem MaP.of{b n:Nat}{S:St}{rows ex:A7}{k:Nat}(hn:rows.length=n)(hb:b<S.boxes.length):MaP (.bsl b n) rows S k (vi k) ⟨S.boxes.set b (rows++ex),S.toks⟩:=by
 subst hn;exact⟨rfl,rfl,⟨by simp,fun c _ hc=>Fi (fun h=>hc (by simp[Ik,h]))⟩,.inl ⟨b,ex,rfl,Ez hb⟩⟩
theorem Apy{S:St}{x:AV}{l:List Int}(h:SlB S.boxes x (Fh l))(k:Nat)(h1:k+l.length≤1000000000000) :
 Runs X 24 [x,vi k] S (MaP x (Fh (mkI k l.length)) S (k+l.length)):=by
 have hlen:=Fb l;rcases h with⟨b,ex,rfl,hb⟩|⟨he,sp,rfl⟩
 ·have hbl:=Aa hb;rw[hlen];refine Runs.run func24 ?_;refine I6 (ι:=Nat) (fun i=>i≤l.length) (fun i=>[(5,vi i),(1,vi ((k+i:Nat):Int)),(0,.bsl b l.length)]) (fun i=>⟨S.boxes.set b (Fh (mkI k i)++((Fh l).drop i++ex)),S.toks⟩) (fun i=>l.length-i) ?_ 0 (Cb _)
   ⟨rfl,rfl,rfl,trivial⟩ (by obtain⟨bx,tk⟩:=S;simp only[St.mk.injEq,and_true];obtain⟨_,e⟩:=zzq99.1 hb;simp only[mkI,List.range_zero,List.map_nil,Fh,T8,List.drop_zero];rw[←Fh,←e,List.set_getElem_self])
  intro i hi IH;refine Cp (fun g=>?_) (fun g=>?_)
  ·have hlt:i<l.length:=by have:=A6 g;omega
   have hm:(Fh (mkI k i)).length=i:=by rw[Fb,Acl]
   obtain⟨a,ha⟩:=Ab l hlt;have hr:(Fh (mkI k i)++((Fh l).drop i++ex))[i]?=some [vi a]:=by rw[Avx hm (by omega)];exact Dl (f:=fun m=>[vi m]) ha
   refine Jr i hlt (Ez hbl) hr rfl ?_;refine L5 (Ez hbl) hr rfl ?_;refine IH (i+1) hlt (by omega) _ _ ⟨vsx (by omega),vsx (by omega),rfl,trivial⟩ ?_;simp only[St.mk.injEq,and_true];rw[List.set_set,Apq _ hm (by omega),Auk,A0o];rfl
  ·have:i=l.length:=by have:=Bd g;omega
   subst this;exact Bf func24 (h:=rfl) ⟨_,rfl,MaP.of (by rw[Fb,Acl]) hbl⟩
 ·have h0:l=[]:=by cases l with|nil=>rfl|cons a l=>simp[Fh]at he
  subst h0;refine Runs.run func24 ?_;refine Oq ?_;refine Ba 100 rfl ?_;refine Ah ?_;exact Bf func24 (h:=rfl) ⟨_,rfl,rfl,rfl,Chg.refl _ _,.inr ⟨rfl,sp,rfl⟩⟩
theorem A0c{S:St}{x:AV}{l:List (Bool×Int)}(h:SlB S.boxes x (G5 l))(k:Nat)(h1:k+2*l.length≤1000000000000) :
 Runs X 111 [x,vi k] S (MaP x (G5 (mkC k l.length)) S (k+2*l.length)):=by
 have hlen:=Gs l;rcases h with⟨b,ex,rfl,hb⟩|⟨he,sp,rfl⟩
 ·have hbl:=Aa hb;rw[hlen];refine Runs.run func111 ?_;refine I6 (ι:=Nat) (fun i=>i≤l.length) (fun i=>[(5,vi i),(1,vi ((k+2*i:Nat):Int)),(0,.bsl b l.length)]) (fun i=>⟨S.boxes.set b (G5 (mkC k i)++((G5 l).drop i++ex)),S.toks⟩) (fun i=>l.length-i) ?_ 0 (Cb _)
   ⟨rfl,rfl,rfl,trivial⟩ (by obtain⟨bx,tk⟩:=S;simp only[St.mk.injEq,and_true];obtain⟨_,e⟩:=zzq99.1 hb;simp only[mkC,List.range_zero,List.map_nil,G5,T8,List.drop_zero];rw[←G5,←e,List.set_getElem_self])
  intro i hi IH;refine Cp (fun g=>?_) (fun g=>?_)
  ·have hlt:i<l.length:=by have:=A6 g;omega
   have hm:(G5 (mkC k i)).length=i:=by rw[Gs,Ack]
   obtain⟨a,ha⟩:=Ab l hlt;have hr:(G5 (mkC k i)++((G5 l).drop i++ex))[i]?=some [vb a.1,vi a.2]:=by rw[Avx hm (by omega)];exact Dl (f:=Hc) ha
   have hil:i<(G5 (mkC k i)++((G5 l).drop i++ex)).length:=Aa hr;have hb2:((S.boxes.set b (G5 (mkC k i)++((G5 l).drop i++ex))).set b ((G5 (mkC k i)++((G5 l).drop i++ex)).set i [vb (mb (k+2*i)),vi a.2]))[b]?=some ((G5 (mkC k i)++((G5 l).drop i++ex)).set i [vb (mb (k+2*i)),vi a.2]):=Ez (by simpa using hbl);have hr2:((G5 (mkC k i)++((G5 l).drop i++ex)).set i [vb (mb (k+2*i)),vi a.2])[i]?=some [vb (mb (k+2*i)),vi a.2]:=Ez hil;refine Jr i hlt (Ez hbl) hr rfl ?_;refine L5 (Ez hbl) hr rfl ?_;refine Jr i hlt hb2 hr2 rfl ?_;refine L5 hb2 hr2 rfl ?_;have e1:IntKind.i64.wrap (((k+2*i:Nat):Int)+1)=((k+2*i+1:Nat):Int):=by rw[Ac (by omega) (by omega)];omega
   refine IH (i+1) hlt (by omega) _ _ ⟨vsx (by omega),Ci (by rw[e1,Ac (by omega) (by omega)];omega),rfl,trivial⟩ ?_;simp only[St.mk.injEq,and_true];rw[List.set_set,List.set_set,List.set_set,Apq _ hm (by omega),Auj,Axo,e1];rfl
  ·have:i=l.length:=by have:=Bd g;omega
   subst this;exact Bf func111 (h:=rfl) ⟨_,rfl,MaP.of (by rw[Gs,Ack]) hbl⟩
 ·have h0:l=[]:=by cases l with|nil=>rfl|cons a l=>simp[G5]at he
  subst h0;refine Runs.run func111 ?_;refine Oq ?_;refine Ba 100 rfl ?_;refine Ah ?_;exact Bf func111 (h:=rfl) ⟨_,rfl,rfl,rfl,Chg.refl _ _,.inr ⟨rfl,sp,rfl⟩⟩
theorem Ao5:∀{ys:An},(ys.flatMap Ik).Nodup→∀{i j b:Nat}{y z:AV},i≠j→ys[i]?=some y→ys[j]?=some z→b∈Ik y→b∉Ik z
 |[],_,i,j,b,y,z,_,h,_=>by simp at h
 |x::ys,hn,i,j,b,y,z,hij,hy,hz=>fun hb hb'=>by
  simp only[List.flatMap_cons]at hn;obtain⟨_,h2,h3⟩:=zzq101.1 hn
  match i,j,hij,hy,hz with
  |0,0,hij,_,_=>exact hij rfl
  |0,j+1,_,hy,hz=>
   simp at hy hz;subst hy;exact h3 b hb b (zzq100.2 ⟨z,Bn hz,hb'⟩) rfl
  |i+1,0,_,hy,hz=>
   simp at hy hz;subst hz;exact h3 b hb' b (zzq100.2 ⟨y,Bn hy,hb⟩) rfl
  |i+1,j+1,hij,hy,hz=>exact Ao5 h2 (i:=i) (j:=j) (by omega) (by simpa using hy) (by simpa using hz) hb hb'
theorem SlB.lt{bx:B3}{x:AV}{rows:A7}(h:SlB bx x rows):∀b,b∈Ik x→b<bx.length:=by
 rcases h with⟨b,ex,rfl,h⟩|⟨rfl,sp,rfl⟩
 ·intro c hc;simp[Ik]at hc;subst hc;exact Aa h
 ·intro c hc;simp[Ik]at hc
theorem SlB.shape{bx:B3}{x:AV}{rows:A7}(h:SlB bx x rows):(∃b n,x=.bsl b n)∨∃sp,x=.sl [] sp:=by
 rcases h with⟨b,ex,rfl,h⟩|⟨rfl,sp,rfl⟩
 ·exact .inl ⟨b,_,rfl⟩
 ·exact .inr ⟨sp,rfl⟩
def I1(cells:List (List (Bool×Int))):List Nat:=cells.map List.length
theorem Af7{cells:List (List (Bool×Int))}{i:Nat}{l:List (Bool×Int)}(h:cells[i]?=some l):(I1 cells)[i]?=some l.length:=by simp[I1,h]
theorem Ak6{l:List Nat}{i m:Nat}(h:l[i]?=some m):(l.take (i+1)).sum=(l.take i).sum+m:=by rw[Hq,h,Aha,List.sum_append];simp
theorem Vq:∀(l:List Nat)(i:Nat),(l.take i).sum≤l.sum
 |[],i=>by simp
 |a::l,0=>by simp
 |a::l,i+1=>by have:=Vq l i;simp;omega
theorem Av9{S:St}{C:AV}{ys:An}{cells:List (List (Bool×Int))}(hC:SlB S.boxes C (ys.map fun y=>[y]))(hl:ys.length=cells.length)(hr:∀(j:Nat)(y:AV)(l:List (Bool×Int)),ys[j]?=some y→cells[j]?=some l→SlB S.boxes y (G5 l))
 (nd:(Ik C++ys.flatMap Ik).Nodup)(hcl:cells.length≤1000000000)(k:Nat)(h1:k+2*(I1 cells).sum≤1000000000000) :
 Runs X 65 [C,vi k] S (fun r S'=>r=vi ((k+2*(I1 cells).sum:Nat):Int)∧S'.toks=S.toks∧Chg (ys.flatMap Ik) S.boxes S'.boxes∧∀(j:Nat) (y:AV) (l:List (Bool×Int)),ys[j]?=some y→(Aaw k (I1 cells))[j]?=some l→SlB S'.boxes y (G5 l)):=by
 obtain⟨_,nd2,nd3⟩:=zzq101.1 nd;have hlens:(I1 cells).length=ys.length:=by simp[I1,hl]
 rcases hC with⟨b,ex,rfl,hb⟩|⟨he,sp,rfl⟩
 ·rw[Py];refine Runs.run func65 ?_;refine I6 (ι:=Nat×St) (fun i=>i.1≤ys.length∧i.2.toks=S.toks∧Chg (ys.flatMap Ik) S.boxes i.2.boxes∧(∀(j:Nat) (y:AV) (l:List (Bool×Int)),j<i.1→ys[j]?=some y→(Aaw k (I1 cells))[j]?=some l→SlB i.2.boxes y (G5 l)) ∧
   ∀(j:Nat) (y:AV) (l:List (Bool×Int)),i.1≤j→ys[j]?=some y→cells[j]?=some l→SlB i.2.boxes y (G5 l))
   (fun i=>[(5,vi i.1),(1,vi ((k+2*((I1 cells).take i.1).sum:Nat):Int)),(0,.bsl b ys.length)]) (fun i=>i.2) (fun i=>ys.length-i.1) ?_ (0,S)
   ⟨Cb _,rfl,Chg.refl _ _,fun j y l h=>absurd h (Aeu _),fun j y l _=>hr j y l⟩ ⟨rfl,rfl,rfl,trivial⟩ rfl
  intro i hi IH;obtain⟨i,S1⟩:=i;obtain⟨hi,ht,hch,hdone,hleft⟩:=hi;simp only at hi ht hch hdone hleft;refine Cp (fun g=>?_) (fun g=>?_)
  ·have hlt:i<ys.length:=by have:=A6 g;simp only at this;omega
   obtain⟨y,hy⟩:=Ab ys hlt;obtain⟨l,hl'⟩:=Ab cells (i:=i) (by omega);have hm:=Af7 hl';have hs:=Ak6 hm;have hsl:=Vq (I1 cells) (i+1);have hb1:S1.boxes[b]?=some ((ys.map fun y=>[y])++ex):=by
    rw[hch.2 b (Aa hb) fun h=>nd3 b (by simp[Ik]) b h rfl];exact hb
   have hr1:((ys.map fun y=>[y])++ex)[i]?=some [y]:=by rw[Dd (by simpa using hlt),Hd,hy];rfl
   refine Jr i hlt hb1 hr1 rfl ?_;refine L3 hb1 hr1 ?_;refine Hl (xs:=[y,vi ((k+2*((I1 cells).take i).sum:Nat):Int)]) (A0c (hleft i y l (Bt _) hy hl') (k+2*((I1 cells).take i).sum) (by omega)) ?_ (hx:=by rcases(hleft i y l (Bt _) hy hl').shape with⟨b',n',rfl⟩|⟨sp',rfl⟩<;>rfl);intro r S2 hP _ _;obtain⟨rfl,ht2,hc2,hs2⟩:=hP;refine Ba 100 rfl ?_;refine IH (i+1,S2) ⟨hlt,ht2.trans ht,?_,?_,?_⟩ (by simp only;omega) _ _ ⟨Ci ((Ac (by omega) (by omega)).trans (by simp only;omega)),Ci (by simp only[hs];omega),rfl,trivial⟩ rfl
   ·exact(hch.trans hc2).more fun a ha=>by
     rcases zzq26.1 ha with h|h
     ·exact h
     ·exact zzq100.2 ⟨y,Bn hy,h⟩
   ·intro j z m hj hz hm';rcases Ga j i with h|h
    ·exact(hdone j z m h hz hm').chg hc2 fun c h1 h2=>Ao5 nd2 (by omega) hz hy h1 h2
    ·have:j=i:=by simp only at hj;omega
     subst this;rw[hy]at hz;cases hz;rw[Zc hm]at hm';cases hm';exact hs2
   ·intro j z m hj hz hm';simp only at hj;exact(hleft j z m (by omega) hz hm').chg hc2 fun c h1 h2=>Ao5 nd2 (by omega) hz hy h1 h2
  ·have:i=ys.length:=by have:=Bd g;simp only at this;omega
   subst this;have hst:(I1 cells).take ys.length=I1 cells:=by rw[←hlens,Jh]
   rw[hst];exact Bf func65 (h:=rfl) ⟨_,rfl,rfl,ht,hch,fun j y l hy hm=>hdone j y l (Aa hy) hy hm⟩
 ·have h0:ys=[]:=by simpa using he
  subst h0;have h2:cells=[]:=zzq84.1 hl.symm;subst h2;refine Runs.run func65 ?_;refine Oq ?_;refine Ba 100 rfl ?_;refine Ah ?_;exact Bf func65 (h:=rfl) ⟨_,rfl,rfl,rfl,Chg.refl _ _,fun j y l h=>by simp at h⟩
def Aki(k:Nat)(c:Cf):Cf:={ c with vars:=mkI k c.vars.length,cells:=Aaw (k+c.vars.length) (I1 c.cells) }
def Po(c:Cf):Nat:=c.vars.length+2*(I1 c.cells).sum
abbrev En(c:Cf)(V C:AV):An:=[vi c.pt,V,C,vi c.used,vi c.steps,vi c.trap,vi c.edge,vi c.acc]
theorem Ak8{S:St}{x:AV}{ids:List Nat}{c:Cf}(h:CfB SlB S.boxes x ids c)(hcl:c.cells.length≤1000000000)(k:Nat)(h1:k+Po c≤1000000000000) :
 Runs X 25 [x,vi k] S (fun r S'=>r=vi ((k+Po c:Nat):Int)∧S'.toks=S.toks∧Chg ids S.boxes S'.boxes∧CfB SlB S'.boxes x ids (Aki k c)):=by
 unfold Po at h1⊢;obtain⟨V,C,ys,rfl,hids,nd,hV,hC,hl,hr⟩:=h.ex;have Cm:=nd;rw[hids]at nd;obtain⟨ndV,nd2,nd3⟩:=zzq101.1 nd;refine Runs.run func25 ?_;refine Ug (cs:=[vi c.pt,V,C,vi c.used,vi c.steps,vi c.trap,vi c.edge,vi c.acc]) rfl rfl ?_ (hc:=by rcases hV.shape with⟨b',n',rfl⟩|⟨sp',rfl⟩<;>rcases hC.shape with⟨b',n',rfl⟩|⟨sp',rfl⟩<;>rfl);have hb:(S.boxes++[[[vi c.pt,V,C,vi c.used,vi c.steps,vi c.trap,vi c.edge,vi c.acc]]])[S.boxes.length]?=some [[vi c.pt,V,C,vi c.used,vi c.steps,vi c.trap,vi c.edge,vi c.acc]]:=by simp
 have hrw:([[vi c.pt,V,C,vi c.used,vi c.steps,vi c.trap,vi c.edge,vi c.acc]]:A7)[0]?=some [vi c.pt,V,C,vi c.used,vi c.steps,vi c.trap,vi c.edge,vi c.acc]:=rfl;refine L3 hb hrw ?_;refine Hl (xs:=[V,vi k]) (Apy (S:=⟨_,S.toks⟩) (l:=c.vars) hV.more k (by omega)) ?_ (hx:=by rcases hV.shape with⟨b',n',rfl⟩|⟨sp',rfl⟩<;>rfl);intro r S2 hP _ _;obtain⟨rfl,ht2,hc2,hV2⟩:=hP;refine Ba 1 rfl ?_;refine Ba 1 rfl ?_;refine Ce 20 rfl ?_;have hfar:∀a,a∈Ik V→a<S.boxes.length:=hV.lt;have hb2:S2.boxes[S.boxes.length]?=some [[vi c.pt,V,C,vi c.used,vi c.steps,vi c.trap,vi c.edge,vi c.acc]]:=by
  rw[hc2.2 S.boxes.length (by simp) fun h=>by have:=hfar _ h;omega];exact hb
 refine L3 hb2 hrw ?_;have hC2:SlB S2.boxes C (ys.map fun y=>[y]):=hC.more.chg hc2 fun i hi hi2=>nd3 i hi2 i (List.mem_append_left _ hi) rfl;have hr2:∀(j:Nat) (y:AV) (l:List (Bool×Int)),ys[j]?=some y→c.cells[j]?=some l→SlB S2.boxes y (G5 l):=fun j y l hy hl=>
  (hr j y l hy hl).more.chg hc2 fun i hi hi2=>nd3 i hi2 i (Ab5 _ (zzq100.2 ⟨y,Bn hy,hi⟩)) rfl
 refine Hl (xs:=[C,vi ((k+c.vars.length:Nat):Int)]) (Av9 hC2 hl hr2 nd2 hcl (k+c.vars.length) (by omega)) ?_ (hx:=by rcases hC.shape with⟨b',n',rfl⟩|⟨sp',rfl⟩<;>rfl);intro r S3 hP _ _;obtain⟨rfl,ht3,hc3,hcs⟩:=hP;refine Ba 100 rfl ?_;have hV3:SlB S3.boxes V (Fh (mkI k c.vars.length)):=hV2.chg hc3 fun i hi hi2=>nd3 i hi i (Ab5 _ hi2) rfl;have hC3:SlB S3.boxes C (ys.map fun y=>[y]):=hC2.chg hc3 fun i hi hi2=>(zzq101.1 nd2).2.2 i hi i hi2 rfl;refine Bf func25 (h:=rfl) ⟨_,rfl,?_,ht3.trans ht2,?_,⟨V,C,ys,rfl,hids,Cm,hV3,hC3,?_,hcs⟩⟩
 ·rw[Qi];rfl
 ·refine(((Chg.snoc (Ik V) S.boxes _).trans hc2).trans hc3).more fun i hi=>?_;rw[hids];simp only[zzq26]at hi⊢;rcases hi with(hi|hi)|hi
  ·exact .inl hi
  ·exact .inl hi
  ·exact .inr (.inr hi)
 ·show ys.length=(Aaw _ _).length;rw[Ve,I1,Py];exact hl
theorem A0b(k n:Nat)(hn:k+n≤1000000000000):Pure X 34 [.sl (Fh (mkI k n)) .no,vi k] (vi ((k+n:Nat):Int)):=by
 have hlen:(Fh (mkI k n)).length=n:=by rw[Fb,Acl]
 refine Pure.run func34 ?_;refine Ar (ι:=Nat) 0 0 (fun i=>i≤n) (fun i=>[(5,vi i),(1,vi ((k+i:Nat):Int)),(0,.sl (Fh (mkI k n)) .no)]) (fun i=>⟨[],[]⟩) (fun i=>n-i) ?_ 0 (Cb _)
  ⟨rfl,rfl,rfl,trivial⟩
 intro i hi IH;refine Cp (fun h=>?_) (fun h=>?_)
 ·have hlt:i<n:=by have:=A6 h;rw[hlen]at this;omega
  refine Bv i (by omega) (Dl (f:=fun m=>[vi m]) (Ayr hlt)) ?_;refine Ah ?_ (ht:=by simp);refine IH (i+1) hlt (by omega) _ _ ⟨vsx (by omega),vsx (by omega),rfl,trivial⟩ rfl rfl rfl
 ·have:i=n:=by have:=Bd h;rw[hlen]at this;omega
  subst this;exact Ao func34 rfl
theorem A0a(k n:Nat)(hn:k+2*n≤1000000000000):Pure X 112 [.sl (G5 (mkC k n)) .no,vi k] (vi ((k+2*n:Nat):Int)):=by
 have hlen:(G5 (mkC k n)).length=n:=by rw[Gs,Ack]
 refine Pure.run func112 ?_;refine Ar (ι:=Nat) 0 0 (fun i=>i≤n) (fun i=>[(5,vi i),(1,vi ((k+2*i:Nat):Int)),(0,.sl (G5 (mkC k n)) .no)]) (fun i=>⟨[],[]⟩) (fun i=>n-i) ?_ 0 (Cb _)
  ⟨rfl,rfl,rfl,trivial⟩
 intro i hi IH;refine Cp (fun h=>?_) (fun h=>?_)
 ·have hlt:i<n:=by have:=A6 h;rw[hlen]at this;omega
  have e1:IntKind.i64.wrap (((k+2*i:Nat):Int)+1)=((k+2*i+1:Nat):Int):=by rw[Ac (by omega) (by omega)];omega
  have hg:=Dl (f:=Hc) (Ayq (k:=k) hlt);refine Bv i (by omega) hg ?_;refine Ah ?_ (ht:=by simp[mb]);refine Bv i (by omega) hg ?_;refine Ah ?_ (ht:=by rw[e1];simp);refine IH (i+1) hlt (by omega) _ _ ⟨vsx (by omega),Ci (by rw[e1,Ac (by omega) (by omega)];omega),rfl,trivial⟩ rfl rfl rfl
 ·have:i=n:=by have:=Bd h;rw[hlen]at this;omega
  subst this;exact Ao func112 rfl
theorem Av8(k:Nat)(ls:List Nat)(hll:ls.length≤1000000000)(hn:k+2*ls.sum≤1000000000000):Pure X 66 [.sl (H9 (Aaw k ls)) .no,vi k] (vi ((k+2*ls.sum:Nat):Int)):=by
 have hlen:(H9 (Aaw k ls)).length=ls.length:=by rw[Mi,Ve]
 refine Pure.run func66 ?_;refine Ar (ι:=Nat) 0 0 (fun i=>i≤ls.length) (fun i=>[(5,vi i),(1,vi ((k+2*(ls.take i).sum:Nat):Int)),(0,.sl (H9 (Aaw k ls)) .no)]) (fun i=>⟨[],[]⟩) (fun i=>ls.length-i) ?_ 0 (Cb _)
  ⟨rfl,rfl,rfl,trivial⟩
 intro i hi IH;refine Cp (fun h=>?_) (fun h=>?_)
 ·have hlt:i<ls.length:=by have:=A6 h;rw[hlen]at this;omega
  obtain⟨m,hm⟩:=Ab ls hlt;have hs:=Ak6 hm;have hsl:=Vq ls (i+1);refine Bv i (by omega) (Dl (f:=Oa) (Zc (k:=k) hm)) ?_;refine Aj (A0a (k+2*(ls.take i).sum) m (by omega)) ?_;refine Ah ?_ (ht:=Ks (by omega));refine IH (i+1) hlt (by omega) _ _ ⟨vsx (by omega),Ci (by simp only[hs];omega),rfl,trivial⟩ rfl rfl rfl
 ·have:i=ls.length:=by have:=Bd h;rw[hlen]at this;omega
  subst this;rw[Jh];exact Ao func66 rfl
theorem Ak7(k:Nat)(c:Cf)(hcl:c.cells.length≤1000000000)(h1:k+Po c≤1000000000000):Pure X 26 [cf (Aki k c),vi k] (vi ((k+Po c:Nat):Int)):=by
 unfold Po at h1⊢;refine Pure.run func26 ?_;refine Aj (A0b k c.vars.length (by omega)) ?_;refine Ah ?_ (ht:=Ks (by omega));refine Aj (Av8 (k+c.vars.length) (I1 c.cells) (by simpa[I1]using hcl) (by omega)) ?_;refine Ah ?_ (ht:=Ks (by omega));refine Ao func26 ?_;rw[Qi]
theorem Ao4{k:Nat}{c:Cf}(h:CfOk c):CfOk (Aki k c):=by
 refine⟨by simp only[Aki,Acl];exact h.vars,by simp only[Aki,Ve,I1,Py];exact h.cells,fun x hx=>?_⟩;obtain⟨i,hi⟩:=B9 hx;have hil:=Aa hi;simp only[Aki,Ve,I1,Py]at hil;obtain⟨l,hl⟩:=Ab c.cells hil;simp only[Aki]at hi;rw[Zc (Af7 hl)]at hi;cases hi;rw[Ack];exact h.rows l (Bn hl)
abbrev wkp(n:Nd)(bc:Nat)(d:Int):An:=[.cptr (Oj n),.ptr bc 0 0,vi d]
structure CfS (S:St)(bc:Nat)(V C:AV)(ids:List Nat)(c:Cf):Prop where
 box:S.boxes[bc]?=some [En c V C]
 cf:CfB SlB S.boxes (.agg (En c V C)) ids c
 ne:bc∉ids
structure WkS (n:Nd)(S:St)(bw bc:Nat)(V C:AV)(ids:List Nat)(c:Cf)(d:Int):Prop where
 w:S.boxes[bw]?=some [wkp n bc d]
 c:CfS S bc V C ids c
 ne:bw≠bc∧bw∉ids
theorem CfS.more{S S':St}{bc:Nat}{V C:AV}{ids:List Nat}{c:Cf}(h:CfS S bc V C ids c){m:B3}(hb:S'.boxes=S.boxes++m):CfS S' bc V C ids c:=
 ⟨by rw[hb,Dd (Aa h.box)];exact h.box,by rw[hb];exact h.cf.more,h.ne⟩
theorem CfS.chg{S S':St}{bc:Nat}{V C:AV}{ids js:List Nat}{c:Cf}(h:CfS S bc V C ids c)(hc:Chg js S.boxes S'.boxes)(hb:bc∉js)(hd:∀i,i∈ids→i∉js):CfS S' bc V C ids c:=
 ⟨(hc.2 bc (Aa h.box) hb).trans h.box,h.cf.chg hc hd,h.ne⟩
theorem WkS.more{n:Nd}{S S':St}{bw bc:Nat}{V C:AV}{ids:List Nat}{c:Cf}{d:Int}(h:WkS n S bw bc V C ids c d){m:B3}(hb:S'.boxes=S.boxes++m):WkS n S' bw bc V C ids c d:=
 ⟨by rw[hb,Dd (Aa h.w)];exact h.w,h.c.more hb,h.ne⟩
theorem WkS.chg{n:Nd}{S S':St}{bw bc:Nat}{V C:AV}{ids js:List Nat}{c:Cf}{d:Int}(h:WkS n S bw bc V C ids c d)(hc:Chg js S.boxes S'.boxes)(hw:bw∉js)(hb:bc∉js)(hd:∀i,i∈ids→i∉js):WkS n S' bw bc V C ids c d:=
 ⟨(hc.2 bw (Aa h.w) hw).trans h.w,h.c.chg hc hb hd,h.ne⟩
theorem CfS.vars{S:St}{bc:Nat}{V C:AV}{ids:List Nat}{c:Cf}(h:CfS S bc V C ids c){i:Nat}{v:Int}(hv:c.vars[i]?=some v):∃(b:Nat)(ex:A7),V=.bsl b c.vars.length∧S.boxes[b]?=some (Fh c.vars++ex)∧(Fh c.vars++ex)[i]?=some [vi v]:=by
 obtain⟨V',C',ys,h1,_,_,h4,_⟩:=h.cf.ex;simp only[AV.agg.injEq,List.cons.injEq,and_true,true_and]at h1;obtain⟨rfl,rfl⟩:=h1;rcases h4 with⟨b,ex,rfl,hb⟩|⟨he,_⟩
 ·rw[Fb];exact⟨b,ex,rfl,hb,by rw[Dd (by rw[Fb];exact Aa hv)];exact Nr hv⟩
 ·cases hc:c.vars with
  |nil=>rw[hc]at hv;simp at hv
  |cons a l=>rw[hc]at he;simp[Fh]at he
theorem CfS.row{S:St}{bc:Nat}{V C:AV}{ids:List Nat}{c:Cf}(h:CfS S bc V C ids c){i:Nat}{r:List (Bool×Int)}(hv:c.cells[i]?=some r):∃(b:Nat)(ys:An)(ex:A7)(y:AV),C=.bsl b c.cells.length∧ys.length=c.cells.length∧S.boxes[b]?=some (ys.map (fun y=>[y])++ex)∧ys[i]?=some y∧(ys.map (fun y=>[y])++ex)[i]?=some [y]∧SlB S.boxes y (G5 r):=by
 obtain⟨V',C',ys,h1,_,_,_,h5,h6,h7⟩:=h.cf.ex;simp only[AV.agg.injEq,List.cons.injEq,and_true,true_and]at h1;obtain⟨rfl,rfl⟩:=h1;obtain⟨y,hy⟩:=Ab ys (i:=i) (by rw[h6];exact Aa hv);rcases h5 with⟨b,ex,rfl,hb⟩|⟨he,_⟩
 ·exact⟨b,ys,ex,y,by simp[h6],h6,hb,hy,by rw[Dd (by simpa using Aa hy),Hd,hy];rfl,h7 i y r hy hv⟩
 ·have:ys=[]:=by simpa using he
  subst this;simp at hy
theorem Apn(n:Nd){S:St}{bw bc:Nat}{V C:AV}{ids:List Nat}{c:Cf}{d:Int}(h:WkS n S bw bc V C ids c d){i:Nat}{r:List (Bool×Int)}(hr:c.cells[i]?=some r)(hl:r.length≤60)(x:Int) :
 Runs X 189 [.ptr bw 0 0,vi i,vi x] S (fun v S'=>v=vi (if A8 x 0 ((r.length:Int)-1)=true then 0 else 1)∧S'=S):=by
 obtain⟨b,ys,ex,y,hC,hyl,hb,hy,hrow,hsl⟩:=h.c.row hr;have hp:=Agg x (r.length:Int) (by omega) (by omega);have z1:=h.w;have z2:=h.c.box;have hi:=Aa hr;subst hC;rcases hsl with⟨b2,ex2,rfl,_⟩|⟨he,sp,rfl⟩
 ·rw[Gs]at hrow;refine Runs.run func189 ?_;refine Aw z1 ?_;refine Aw z2 ?_;refine Jr i hi hb hrow rfl ?_;refine L3 hb hrow ?_;refine L4 hp ?_;refine Gn (fun g=>?_) (fun g=>?_)
  ·have g':A8 x 0 ((r.length:Int)-1)=false:=by simpa using g
   refine Bf func189 (h:=rfl) ⟨_,rfl,?_,rfl⟩;rw[if_neg (by rw[g'];decide)];rfl
  ·have g':A8 x 0 ((r.length:Int)-1)=true:=by simpa using g
   refine Bf func189 (h:=rfl) ⟨_,rfl,?_,rfl⟩;rw[if_pos g'];rfl
 ·have h0:r=[]:=by cases r with|nil=>rfl|cons a l=>simp[G5]at he
  subst h0;refine Runs.run func189 ?_;refine Aw z1 ?_;refine Aw z2 ?_;refine Jr i hi hb hrow rfl ?_;refine L3 hb hrow ?_;refine L4 hp ?_;refine Gn (fun g=>?_) (fun g=>?_)
  ·have g':A8 x 0 (((([]:List (Bool×Int)).length):Int)-1)=false:=by simpa using g
   refine Bf func189 (h:=rfl) ⟨_,rfl,?_,rfl⟩;rw[if_neg (by rw[g'];decide)];rfl
  ·have g':A8 x 0 (((([]:List (Bool×Int)).length):Int)-1)=true:=by simpa using g
   refine Bf func189 (h:=rfl) ⟨_,rfl,?_,rfl⟩;rw[if_pos g'];rfl
def VrP(n:Nd)(bw bc:Nat)(V C:AV)(ids:List Nat)(c:Cf)(S:St)(T:VR)(r:AV)(S':St):Prop:=r=vR T∧S'.toks=S.toks∧Chg [bw] S.boxes S'.boxes∧WkS n S' bw bc V C ids c T.2.2
structure VrS (n:Nd)(bw bc:Nat)(V C:AV)(ids:List Nat)(c:Cf)(S T0:St)(e:Nd)(l1 l2:Nat)(a b d:Int):Prop where
 e:T0.boxes[l1]?=some [Ag e]
 a:T0.boxes[l2]?=some [[vi a,vi b]]
 w:WkS n T0 bw bc V C ids c d
 toks:T0.toks=S.toks
 chg:Chg [bw] S.boxes T0.boxes
 ne:bw≠l1∧bw≠l2
abbrev VrA(n:Nd)(bw bc:Nat)(V C:AV)(ids:List Nat)(c:Cf)(S T0:St)(l1 l2 m t:Nat)(T:VR):Prop:=
 AK X ⟨187,f187,m,t⟩ (J6 false 10 f187) [(0,.ptr bw 0 0),(3,.ptr l1 0 0),(6,.ptr l2 0 0)] T0 (fun e S'=>∃r,e=.ret r∧VrP n bw bc V C ids c S T r S')
section
variable {n:Nd}{bw bc:Nat}{V C:AV}{ids:List Nat}{c:Cf}{S T0:St}{l1 l2 m t:Nat}
theorem Azx(k d:Int)(h:VrS n bw bc V C ids c S T0 (.mk 1 [] k []) l1 l2 0 0 d):VrA n bw bc V C ids c S T0 l1 l2 m t (k,0,d):=by
 have zE:=h.e;refine Dj ?_;refine Ce 60 rfl ?_;refine Aw zE ?_;refine Ej ?_;refine Aw zE ?_;exact Bf func187 (h:=rfl) ⟨_,rfl,rfl,h.toks,h.chg,h.w⟩
theorem Azz(hk:VOk n c)(s:Ad)(hs:Fe 0 (A3 n 31) s≥0)(d:Int)(h:VrS n bw bc V C ids c S T0 (.mk 2 s 0 []) l1 l2 0 0 d):VrA n bw bc V C ids c S T0 l1 l2 m t (c.vars.getD (Fe 0 (A3 n 31) s).toNat 0,0,d):=by
 obtain⟨i,v,h1,h2,h3⟩:=hk.var hs;obtain⟨bv,ex,hV,hb,hrow⟩:=h.w.c.vars h2;have hi:=Aa h2;subst hV;have kl:=hk.kl;have hq:=X6 n s (by omega);rw[h1]at hq;rw[h3];have zE:=h.e;have zw:=h.w.w;have zc:=h.w.c.box;refine Dj ?_;refine Ce 60 rfl ?_;refine Aw zE ?_;refine Cv ?_;refine Ej ?_;refine Di 0 (by kernel_rfl) ?_
 iterate 3 refine A0 ?_
 refine A4 (As zw) ?_
 iterate 2 refine A0 ?_
 refine A4 (As zc) ?_
 iterate 3 refine A0 ?_
 refine A4 (As zw) ?_;refine A0 ?_;refine A4 (As zE) ?_;refine Hz hq ?_;refine A4 (Gp (hj:=by simpa[Hp]using hi) (hb:=hb) (hr:=hrow) (hl:=rfl)) ?_;refine A4 (Ou hb hrow) ?_
 iterate 2 refine A0 ?_
 refine G0 ?_;exact Bf func187 (h:=rfl) ⟨_,rfl,rfl,h.toks,h.chg,h.w⟩
theorem Azu(hk:VOk n c)(s:Ad)(hs:Fe 0 (A3 n 32) s≥0)(d:Int)(h:VrS n bw bc V C ids c S T0 (.mk 4 s 0 []) l1 l2 0 0 d):VrA n bw bc V C ids c S T0 l1 l2 m t ((X9 n c s).length,0,d):=by
 obtain⟨i,r,h1,h2,h3,h4⟩:=hk.row hs;obtain⟨b,ys,ex,y,hC,hyl,hb,hy,hrow,hsl⟩:=h.w.c.row h2;have hi:=Aa h2;subst hC;have kl:=hk.kl;have hq:=Aiv n s (by omega);rw[h1]at hq;rw[h3];have zE:=h.e;have zw:=h.w.w;have zc:=h.w.c.box;rcases hsl with⟨b2,ex2,rfl,_⟩|⟨he,sp,rfl⟩
 ·rw[Gs]at hrow;refine Dj ?_;refine Ce 60 rfl ?_;refine Aw zE ?_
  iterate 2 refine Cv ?_
  refine Ej ?_;refine Di 0 (by kernel_rfl) ?_
  iterate 3 refine A0 ?_
  refine A4 (As zw) ?_
  iterate 2 refine A0 ?_
  refine A4 (As zc) ?_
  iterate 3 refine A0 ?_
  refine A4 (As zw) ?_;refine A0 ?_;refine A4 (As zE) ?_;refine Hz hq ?_;refine A4 (Gp (hj:=by simpa[Hp]using hi) (hb:=hb) (hr:=hrow) (hl:=rfl)) ?_;refine A4 (Ou hb hrow) ?_
  iterate 3 refine A0 ?_
  refine G0 ?_;exact Bf func187 (h:=rfl) ⟨_,rfl,rfl,h.toks,h.chg,h.w⟩
 ·have h0:r=[]:=by cases r with|nil=>rfl|cons a l=>simp[G5]at he
  subst h0;refine Dj ?_;refine Ce 60 rfl ?_;refine Aw zE ?_
  iterate 2 refine Cv ?_
  refine Ej ?_;refine Di 0 (by kernel_rfl) ?_
  iterate 3 refine A0 ?_
  refine A4 (As zw) ?_
  iterate 2 refine A0 ?_
  refine A4 (As zc) ?_
  iterate 3 refine A0 ?_
  refine A4 (As zw) ?_;refine A0 ?_;refine A4 (As zE) ?_;refine Hz hq ?_;refine A4 (Gp (hj:=by simpa[Hp]using hi) (hb:=hb) (hr:=hrow) (hl:=rfl)) ?_;refine A4 (Ou hb hrow) ?_
  iterate 3 refine A0 ?_
  refine G0 ?_;exact Bf func187 (h:=rfl) ⟨_,rfl,rfl,h.toks,h.chg,h.w⟩
theorem Azw(x:List Nd)(a b d:Int)(h:VrS n bw bc V C ids c S T0 (.mk 5 [] 0 x) l1 l2 a b d):VrA n bw bc V C ids c S T0 l1 l2 m t (N9 (IntKind.i64.wrap (-a)) d):=by
 have zE:=h.e;have zA:=h.a;have e1:(N9 (IntKind.i64.wrap (-a)) d).2.2=d:=by unfold N9;split<;>rfl
 refine Dj ?_;refine Ce 60 rfl ?_;refine Aw zE ?_
 iterate 3 refine Cv ?_
 refine Ej ?_
 iterate 1 refine Aw zA ?_
 refine L4 (Wn (IntKind.i64.wrap (-a)) d) ?_;exact Bf func187 (h:=rfl) ⟨_,rfl,rfl,h.toks,h.chg,by rw[e1];exact h.w⟩
theorem Azt(x:List Nd)(a b d:Int)(h:VrS n bw bc V C ids c S T0 (.mk 6 [] 0 x) l1 l2 a b d):VrA n bw bc V C ids c S T0 l1 l2 m t (N9 (IntKind.i64.wrap (a+b)) d):=by
 have zE:=h.e;have zA:=h.a;have e1:(N9 (IntKind.i64.wrap (a+b)) d).2.2=d:=by unfold N9;split<;>rfl
 refine Dj ?_;refine Ce 60 rfl ?_;refine Aw zE ?_
 iterate 4 refine Cv ?_
 refine Ej ?_
 iterate 2 refine Aw zA ?_
 refine L4 (Wn (IntKind.i64.wrap (a+b)) d) ?_;exact Bf func187 (h:=rfl) ⟨_,rfl,rfl,h.toks,h.chg,by rw[e1];exact h.w⟩
theorem Azy(x:List Nd)(a b d:Int)(h:VrS n bw bc V C ids c S T0 (.mk 7 [] 0 x) l1 l2 a b d):VrA n bw bc V C ids c S T0 l1 l2 m t (N9 (IntKind.i64.wrap (a-b)) d):=by
 have zE:=h.e;have zA:=h.a;have e1:(N9 (IntKind.i64.wrap (a-b)) d).2.2=d:=by unfold N9;split<;>rfl
 refine Dj ?_;refine Ce 60 rfl ?_;refine Aw zE ?_
 iterate 5 refine Cv ?_
 refine Ej ?_
 iterate 2 refine Aw zA ?_
 refine L4 (Wn (IntKind.i64.wrap (a-b)) d) ?_;exact Bf func187 (h:=rfl) ⟨_,rfl,rfl,h.toks,h.chg,by rw[e1];exact h.w⟩
theorem Azv(x:List Nd)(a b d:Int)(h:VrS n bw bc V C ids c S T0 (.mk 8 [] 0 x) l1 l2 a b d):VrA n bw bc V C ids c S T0 l1 l2 m t (N9 (IntKind.i64.wrap (a*b)) d):=by
 have zE:=h.e;have zA:=h.a;have e1:(N9 (IntKind.i64.wrap (a*b)) d).2.2=d:=by unfold N9;split<;>rfl
 refine Dj ?_;refine Ce 60 rfl ?_;refine Aw zE ?_
 iterate 6 refine Cv ?_
 refine Ej ?_
 iterate 2 refine Aw zA ?_
 refine L4 (Wn (IntKind.i64.wrap (a*b)) d) ?_;exact Bf func187 (h:=rfl) ⟨_,rfl,rfl,h.toks,h.chg,by rw[e1];exact h.w⟩
end
section
variable {n:Nd}{bw bc:Nat}{V C:AV}{ids:List Nat}{c:Cf}{S T0:St}{l1 l2 m t:Nat}
theorem Avs(hk:VOk n c)(s:Ad)(hs:Fe 0 (A3 n 32) s≥0)(x:List Nd)(a d:Int)(hS:S.boxes.length≤l2)(h:VrS n bw bc V C ids c S T0 (.mk 3 s 0 x) l1 l2 a 0 d):VrA n bw bc V C ids c S T0 l1 l2 m t (Og (X9 n c s) a d):=by
 obtain⟨i,r,h1,h2,h3,h4⟩:=hk.row hs;obtain⟨b,ys,ex,y,hC,hyl,hb,hy,hrow,hsl⟩:=h.w.c.row h2;have hi:=Aa h2;subst hC;have kl:=hk.kl;have hq:=Aiv n s (by omega);rw[h1]at hq;rw[h3];have zE:=h.e;have zA:=h.a;have zw:=h.w.w;have zc:=h.w.c.box;refine Dj ?_;refine Ce 60 rfl ?_;refine Aw zE ?_
 iterate 7 refine Cv ?_
 refine Di 0 (by kernel_rfl) ?_
 iterate 3 refine A0 ?_
 refine A4 (As zw) ?_;refine A0 ?_;refine A4 (As zE) ?_;refine Hz hq ?_;refine A0 ?_;refine G0 ?_;refine Aw zA ?_;refine Hl (Apn n h.w h2 h4 a) ?_;intro v S' hP _ _;obtain⟨rfl,rfl⟩:=hP;refine Ce 60 rfl ?_;cases hbt:A8 a 0 ((r.length:Int)-1)with
 |false=>
  rw[if_neg (by simp)];have e1:Og r a d=(0,1,d):=by unfold Og;rw[if_neg (by simp[hbt])]
  rw[e1];refine Ej ?_;exact Bf func187 (h:=rfl) ⟨_,rfl,rfl,h.toks,h.chg,h.w⟩
 |true=>
  rw[if_pos rfl];have hb':=Ck.1 hbt;obtain⟨j,rfl⟩:∃j:Nat,a=j:=⟨a.toNat,by omega⟩
  obtain⟨z,hz⟩:=Ab r (i:=j) (by omega);obtain⟨w,mm⟩:=z;rcases hsl with⟨b2,ex2,rfl,hb2⟩|⟨he,sp,rfl⟩
  ·have hjl:j<(G5 r).length:=by rw[Gs];exact Aa hz
   have hrow2:(G5 r++ex2)[j]?=some [vb w,vi mm]:=by rw[Dd hjl];exact Dl (f:=Hc) hz
   have gx:∀{i:Nat} {y:A7} {more:B3},S'.boxes[i]?=some y→(S'.boxes++more)[i]?=some y:=fun{i y more} h=>by rw[Dd (Aa h)];exact h
   have e1:Og r j d=if w=true then(mm,0,IntKind.i64.wrap (d+1))else(0,2,d):=by
    unfold Og;rw[if_pos hbt,I3,Ap7,hz];rfl
   refine Cv ?_;refine Di 49152 (by kernel_rfl) ?_
   iterate 3 refine A0 ?_
   refine A4 (As zw) ?_
   iterate 2 refine A0 ?_
   refine A4 (As zc) ?_;refine A0 ?_;refine A4 (Gp (hj:=by simpa[Hp]using hi) (hb:=hb) (hr:=hrow) (hl:=rfl)) ?_;refine A4 (Ou hb hrow) ?_;refine A0 ?_;refine A4 (As zA) ?_;refine A4 (Gp (hj:=by simpa[Hp]using hjl) (hb:=hb2) (hr:=hrow2) (hl:=rfl)) ?_;refine A4 (Ou hb2 hrow2) ?_;refine Er (Md rfl rfl) ?_ ?_
   ·exact Aq (Ou (gx hb2) hrow2) (Aq (Gp (hj:=by simpa[Hp]using hjl) (hb:=gx hb2) (hr:=hrow2) (hl:=rfl)) (Aq (As (gx zA)) (Aq (Ou (gx hb) hrow)
     (Aq (Gp (hj:=by simpa[Hp]using hi) (hb:=gx hb) (hr:=hrow) (hl:=rfl)) (Aq (As (gx zc)) (Aq (As (gx zw)) G6))))))
   have z13:(S'.boxes++[[[vb false,vi 0]]])[S'.boxes.length]?=some [[vb false,vi 0]]:=by simp
   refine C4 (Ji (r:=0) z13 rfl rfl) ?_;refine G0 ?_;obtain⟨S2,hS2⟩:∃S2:St,S2=⟨S'.boxes++[[[vb w,vi mm]]],S'.toks⟩:=⟨_,rfl⟩
   refine Bl S2 ?_ (by rw[hS2];exact congrArg (fun x=>St.mk x _) (by rw[Jb _ _ (Bt _),Iw];rfl));have z2:S2.boxes[S'.boxes.length]?=some [[vb w,vi mm]]:=by rw[hS2];simp
   have hW2:WkS n S2 bw bc V (.bsl b c.cells.length) ids c d:=h.w.more (by rw[hS2]);have hch2:Chg [bw] S.boxes S2.boxes:=by rw[hS2];exact(h.chg.trans (Chg.snoc [] S'.boxes _)).more fun i hi=>by simpa using hi
   have htk2:S2.toks=S.toks:=by rw[hS2];exact h.toks
   refine Aw z2 ?_;cases w with
   |false=>
    refine Ej ?_;rw[e1,if_neg (by simp)];exact Bf func187 (h:=rfl) ⟨_,rfl,rfl,htk2,hch2,hW2⟩
   |true=>
    refine Cv ?_;refine Aw hW2.w ?_;refine Ct hW2.w rfl ?_;have hbl:=Aa hW2.w;have hch3:Chg [bw] S2.boxes (S2.boxes.set bw [wkp n bc (IntKind.i64.wrap (d+1))]):=⟨by simp,fun i _ hi=>Fi (fun h=>hi (by simp[h]))⟩
    have hne:bw≠S'.boxes.length:=by have:=Aa zw;omega
    refine Aw (b:=S'.boxes.length) (cs:=[vb true,vi mm]) (by rw[Fi hne];exact z2) ?_;rw[e1,if_pos rfl];refine Bf func187 (h:=rfl) ⟨_,rfl,rfl,htk2,(hch2.trans hch3).more fun i hi=>by simpa using hi,⟨Ez hbl,hW2.c.chg hch3 (by simpa using hW2.ne.1.symm) fun i hi hi2=>?_,hW2.ne⟩⟩;simp at hi2;subst hi2;exact hW2.ne.2 hi
  ·have h0:r=[]:=by cases r with|nil=>rfl|cons a l=>simp[G5]at he
   subst h0;simp at hz
end
abbrev VrR(n:Nd)(bw bc:Nat)(V C:AV)(ids:List Nat)(c:Cf)(e:Nd)(d:Int)(T:VR):Prop:=
 ∀S:St,WkS n S bw bc V C ids c d→Runs X 187 [.ptr bw 0 0,nd e] S (VrP n bw bc V C ids c S T)
section
variable {n:Nd}{bw bc:Nat}{V C:AV}{ids:List Nat}{c:Cf}
theorem VrS.step{S T1 T2:St}{e:Nd}{l1 l2:Nat}{a b a' b' d d':Int}(h:VrS n bw bc V C ids c S T1 e l1 l2 a b d)(hb:T2.boxes[l1]?=some [Ag e])(ha:T2.boxes[l2]?=some [[vi a',vi b']])(hw:WkS n T2 bw bc V C ids c d')(ht:T2.toks=S.toks)(hc:Chg [bw] S.boxes T2.boxes) :
 VrS n bw bc V C ids c S T2 e l1 l2 a' b' d':=⟨hb,ha,hw,ht,hc,h.ne⟩
theorem Ur{S:St}(h:CfS S bc V C ids c):∀i,i∈ids→i<S.boxes.length:=by
 obtain⟨V',C',ys,_,rfl,_,h4,h5,h6,h7⟩:=h.cf.ex;intro i hi;simp only[zzq26,zzq100]at hi;rcases hi with h|h|⟨y,hy,hi⟩
 ·exact h4.lt i h
 ·exact h5.lt i h
 ·obtain⟨j,hj⟩:=B9 hy;obtain⟨l,hl⟩:=Ab c.cells (i:=j) (by rw[←h6];exact Aa hj);exact(h7 j y l hj hl).lt i hi
theorem Avt(k:Int)(s:Ad)(m d:Int)(T:VR)(h:∀{S T0:St}{l1 l2 m' t':Nat},VrS n bw bc V C ids c S T0 (.mk k s m []) l1 l2 0 0 d→VrA n bw bc V C ids c S T0 l1 l2 m' t' T):VrR n bw bc V C ids c (.mk k s m []) d T:=by
 intro S hW;refine Runs.run func187 ?_;refine Ug rfl rfl ?_;refine Hg Xq rfl rfl ?_;refine M0 (b:=S.boxes.length+1) (by simp) rfl ?_;refine Ct (b:=S.boxes.length+1) (cs:=[vi 0,vi 0]) (by simp) rfl ?_;obtain⟨T0,hT0⟩:∃T0:St,T0=⟨S.boxes++[[Ag (.mk k s m [])]]++[[[vi 0,vi 0]]],S.toks⟩:=⟨_,rfl⟩
 refine Bl T0 ?_ (by rw[hT0];exact congrArg (fun x=>St.mk x _) (by rw[show S.boxes.length+1=(S.boxes++[[Ag (.mk k s m [])]]).length by simp];exact(by rw[Jb _ _ (Bt _),Iw];rfl)));have hbw:=Aa hW.w;have h0:VrS n bw bc V C ids c S T0 (.mk k s m []) S.boxes.length (S.boxes.length+1) 0 0 d:=
  ⟨by rw[hT0];simp,by rw[hT0];simp,hW.more (m:=[[Ag (.mk k s m [])],[[vi 0,vi 0]]]) (by rw[hT0];simp),by rw[hT0],by rw[hT0];exact((Chg.snoc [] S.boxes _).trans (Chg.snoc [] _ _)).more fun i hi=>by simp at hi,by omega,by omega⟩
 refine Aw h0.e ?_;refine Oq ?_;refine Ce 60 rfl ?_;refine Ec (e:=false) 0 10 (fun h=>nomatch h) (fun _=>?_);exact Qj (G:=[(0,.ptr bw 0 0),(3,.ptr S.boxes.length 0 0),(6,.ptr (S.boxes.length+1) 0 0)]) ⟨rfl,rfl,rfl,trivial⟩ (h h0)
theorem A06(k:Int)(s:Ad)(m d:Int)(x:Nd)(v t d1:Int)(T:VR)(ihx:VrR n bw bc V C ids c x d (v,t,d1))(hno:¬t=0→T=(0,t,d1))
 (h:t=0→∀{S T0:St}{l1 l2 m' t':Nat},S.boxes.length≤l2→VrS n bw bc V C ids c S T0 (.mk k s m [x]) l1 l2 v 0 d1→VrA n bw bc V C ids c S T0 l1 l2 m' t' T):VrR n bw bc V C ids c (.mk k s m [x]) d T:=by
 intro S hW;refine Runs.run func187 ?_;refine Ug rfl rfl ?_;refine Hg Xq rfl rfl ?_;refine M0 (b:=S.boxes.length+1) (by simp) rfl ?_;refine Ct (b:=S.boxes.length+1) (cs:=[vi 0,vi 0]) (by simp) rfl ?_;obtain⟨T0,hT0⟩:∃T0:St,T0=⟨S.boxes++[[Ag (.mk k s m [x])]]++[[[vi 0,vi 0]]],S.toks⟩:=⟨_,rfl⟩
 refine Bl T0 ?_ (by rw[hT0];exact congrArg (fun x=>St.mk x _) (by rw[show S.boxes.length+1=(S.boxes++[[Ag (.mk k s m [x])]]).length by simp];exact(by rw[Jb _ _ (Bt _),Iw];rfl)));have hbw:=Aa hW.w;have h0:VrS n bw bc V C ids c S T0 (.mk k s m [x]) S.boxes.length (S.boxes.length+1) 0 0 d:=
  ⟨by rw[hT0];simp,by rw[hT0];simp,hW.more (m:=[[Ag (.mk k s m [x])],[[vi 0,vi 0]]]) (by rw[hT0];simp),by rw[hT0],by rw[hT0];exact((Chg.snoc [] S.boxes _).trans (Chg.snoc [] _ _)).more fun i hi=>by simp at hi,by omega,by omega⟩
 refine Aw h0.e ?_;refine Oq ?_;have hl0:=Aa h0.a;have hbw0:=Aa h0.w.w;refine Ce 60 rfl ?_;refine Ej ?_;refine M1 0 (by decide) (Ap (l:=[x]) rfl) ?_;refine M0 (b:=T0.boxes.length) rfl rfl ?_;refine Ct (b:=T0.boxes.length) (cs:=zN) (by simp) rfl ?_;obtain⟨U0,hU0⟩:∃U:St,U=⟨T0.boxes++[[Ag x]],T0.toks⟩:=⟨_,rfl⟩
 refine Bl U0 ?_ (by rw[hU0];exact congrArg (fun x=>St.mk x _) (by rw[Jb _ _ (Bt _),Iw];rfl));have hu0:U0.boxes[T0.boxes.length]?=some [Ag x]:=by rw[hU0];simp
 refine Aw hu0 ?_;refine Hl (ihx U0 (h0.w.more (by rw[hU0]))) ?_;intro r W0 hP _ _;obtain⟨rfl,ht0,hc0,hW0⟩:=hP;refine Ce 60 rfl ?_;have hcc0:Chg [bw] S.boxes W0.boxes:=((h0.chg.trans (Chg.snoc [] T0.boxes [Ag x])).trans (by rw[hU0]at hc0;exact hc0)).more fun i hi=>by simpa using hi
 have htt0:W0.toks=S.toks:=by rw[ht0,hU0];exact h0.toks
 refine Gn (fun g=>?_) (fun g=>?_)
 ·have g':¬t=0:=by simpa using(show (t != 0)=true from g)
  rw[hno g'];exact Bf func187 (h:=rfl) ⟨_,rfl,rfl,htt0,hcc0,hW0⟩
 have gt:t=0:=by simpa using(show (t != 0)=false from g)
 have up0:∀{i:Nat} {y:A7},i≠bw→T0.boxes[i]?=some y→W0.boxes[i]?=some y:=fun{i y} hi h=>(hc0.2 i (by rw[hU0];simp;have:=Aa h;omega) (by simpa using hi)).trans (by rw[hU0,Dd (Aa h)];exact h);have ha0:=up0 h0.ne.2.symm h0.a;refine Hg (Ac2 (m:=2) (n:=0) (by decide) (by decide)) rfl rfl ?_;refine Ct ha0 rfl ?_;obtain⟨T1,hT1⟩:∃U:St,U=⟨W0.boxes.set (S.boxes.length+1) [[vi v,vi 0]],W0.toks⟩:=⟨_,rfl⟩
 refine Bl T1 ?_ hT1.symm;have hsb0:Chg [S.boxes.length+1] W0.boxes T1.boxes:=by rw[hT1];exact⟨by simp,fun i _ hi=>Fi (fun h=>hi (by simp[h]))⟩
 have h1:VrS n bw bc V C ids c S T1 (.mk k s m [x]) S.boxes.length (S.boxes.length+1) v 0 d1:=
  h0.step (by rw[hT1,Fi (by omega)];exact up0 h0.ne.1.symm h0.e) (by rw[hT1];exact Ez (Aa ha0))
   (hW0.chg hsb0 (by simp;omega) (by have:=Aa hW.c.box;simp;omega) fun i hi hi2=>by simp at hi2;have:=Ur hW.c i hi;omega) (by rw[hT1];exact htt0)
   ⟨by rw[hT1];simpa using hcc0.1,fun i hi hi2=>(hsb0.2 i (Ng hi hcc0.1) (by simp;omega)).trans (hcc0.2 i hi hi2)⟩
 refine Qr ?_;refine Ce 60 rfl ?_;refine Ec (e:=false) 0 10 (fun h=>nomatch h) (fun _=>?_);exact Qj (G:=[(0,.ptr bw 0 0),(3,.ptr S.boxes.length 0 0),(6,.ptr (S.boxes.length+1) 0 0)]) ⟨rfl,rfl,rfl,trivial⟩ (h gt (by omega) h1)
theorem A5x(k:Int)(s:Ad)(m d:Int)(x y:Nd)(v t d1 v2 t2 d2:Int)(T:VR)(ihx:VrR n bw bc V C ids c x d (v,t,d1))(ihy:VrR n bw bc V C ids c y d1 (v2,t2,d2))(hno:¬t=0→T=(0,t,d1))(hno2:t=0→¬t2=0→T=(0,t2,d2))
 (h:t=0→t2=0→∀{S T0:St}{l1 l2 m' t':Nat},VrS n bw bc V C ids c S T0 (.mk k s m [x,y]) l1 l2 v v2 d2→VrA n bw bc V C ids c S T0 l1 l2 m' t' T):VrR n bw bc V C ids c (.mk k s m [x,y]) d T:=by
 intro S hW;refine Runs.run func187 ?_;refine Ug rfl rfl ?_;refine Hg Xq rfl rfl ?_;refine M0 (b:=S.boxes.length+1) (by simp) rfl ?_;refine Ct (b:=S.boxes.length+1) (cs:=[vi 0,vi 0]) (by simp) rfl ?_;obtain⟨T0,hT0⟩:∃T0:St,T0=⟨S.boxes++[[Ag (.mk k s m [x,y])]]++[[[vi 0,vi 0]]],S.toks⟩:=⟨_,rfl⟩
 refine Bl T0 ?_ (by rw[hT0];exact congrArg (fun x=>St.mk x _) (by rw[show S.boxes.length+1=(S.boxes++[[Ag (.mk k s m [x,y])]]).length by simp];exact(by rw[Jb _ _ (Bt _),Iw];rfl)));have hbw:=Aa hW.w;have h0:VrS n bw bc V C ids c S T0 (.mk k s m [x,y]) S.boxes.length (S.boxes.length+1) 0 0 d:=
  ⟨by rw[hT0];simp,by rw[hT0];simp,hW.more (m:=[[Ag (.mk k s m [x,y])],[[vi 0,vi 0]]]) (by rw[hT0];simp),by rw[hT0],by rw[hT0];exact((Chg.snoc [] S.boxes _).trans (Chg.snoc [] _ _)).more fun i hi=>by simp at hi,by omega,by omega⟩
 refine Aw h0.e ?_;refine Oq ?_;have hl0:=Aa h0.a;have hbw0:=Aa h0.w.w;refine Ce 60 rfl ?_;refine Ej ?_;refine M1 0 (by decide) (Ap (l:=[x,y]) rfl) ?_;refine M0 (b:=T0.boxes.length) rfl rfl ?_;refine Ct (b:=T0.boxes.length) (cs:=zN) (by simp) rfl ?_;obtain⟨U0,hU0⟩:∃U:St,U=⟨T0.boxes++[[Ag x]],T0.toks⟩:=⟨_,rfl⟩
 refine Bl U0 ?_ (by rw[hU0];exact congrArg (fun x=>St.mk x _) (by rw[Jb _ _ (Bt _),Iw];rfl));have hu0:U0.boxes[T0.boxes.length]?=some [Ag x]:=by rw[hU0];simp
 refine Aw hu0 ?_;refine Hl (ihx U0 (h0.w.more (by rw[hU0]))) ?_;intro r W0 hP _ _;obtain⟨rfl,ht0,hc0,hW0⟩:=hP;refine Ce 60 rfl ?_;have hcc0:Chg [bw] S.boxes W0.boxes:=((h0.chg.trans (Chg.snoc [] T0.boxes [Ag x])).trans (by rw[hU0]at hc0;exact hc0)).more fun i hi=>by simpa using hi
 have htt0:W0.toks=S.toks:=by rw[ht0,hU0];exact h0.toks
 refine Gn (fun g=>?_) (fun g=>?_)
 ·have g':¬t=0:=by simpa using(show (t != 0)=true from g)
  rw[hno g'];exact Bf func187 (h:=rfl) ⟨_,rfl,rfl,htt0,hcc0,hW0⟩
 have gt:t=0:=by simpa using(show (t != 0)=false from g)
 have up0:∀{i:Nat} {y:A7},i≠bw→T0.boxes[i]?=some y→W0.boxes[i]?=some y:=fun{i y} hi h=>(hc0.2 i (by rw[hU0];simp;have:=Aa h;omega) (by simpa using hi)).trans (by rw[hU0,Dd (Aa h)];exact h);have ha0:=up0 h0.ne.2.symm h0.a;refine Hg (Ac2 (m:=2) (n:=0) (by decide) (by decide)) rfl rfl ?_;refine Ct ha0 rfl ?_;obtain⟨T1,hT1⟩:∃U:St,U=⟨W0.boxes.set (S.boxes.length+1) [[vi v,vi 0]],W0.toks⟩:=⟨_,rfl⟩
 refine Bl T1 ?_ hT1.symm;have hsb0:Chg [S.boxes.length+1] W0.boxes T1.boxes:=by rw[hT1];exact⟨by simp,fun i _ hi=>Fi (fun h=>hi (by simp[h]))⟩
 have h1:VrS n bw bc V C ids c S T1 (.mk k s m [x,y]) S.boxes.length (S.boxes.length+1) v 0 d1:=
  h0.step (by rw[hT1,Fi (by omega)];exact up0 h0.ne.1.symm h0.e) (by rw[hT1];exact Ez (Aa ha0))
   (hW0.chg hsb0 (by simp;omega) (by have:=Aa hW.c.box;simp;omega) fun i hi hi2=>by simp at hi2;have:=Ur hW.c i hi;omega) (by rw[hT1];exact htt0)
   ⟨by rw[hT1];simpa using hcc0.1,fun i hi hi2=>(hsb0.2 i (Ng hi hcc0.1) (by simp;omega)).trans (hcc0.2 i hi hi2)⟩
 refine Qr ?_;have hno2':=hno2 gt;have hl1:=Aa h1.a;have hbw1:=Aa h1.w.w;refine Ce 60 rfl ?_;refine Ej ?_;refine M1 1 (by decide) (Ap (l:=[x,y]) rfl) ?_;refine M0 (b:=T1.boxes.length) rfl rfl ?_;refine Ct (b:=T1.boxes.length) (cs:=zN) (by simp) rfl ?_;obtain⟨U1,hU1⟩:∃U:St,U=⟨T1.boxes++[[Ag y]],T1.toks⟩:=⟨_,rfl⟩
 refine Bl U1 ?_ (by rw[hU1];exact congrArg (fun x=>St.mk x _) (by rw[Jb _ _ (Bt _),Iw];rfl));have hu1:U1.boxes[T1.boxes.length]?=some [Ag y]:=by rw[hU1];simp
 refine Aw hu1 ?_;refine Hl (ihy U1 (h1.w.more (by rw[hU1]))) ?_;intro r W1 hP _ _;obtain⟨rfl,ht1,hc1,hW1⟩:=hP;refine Ce 60 rfl ?_;have hcc1:Chg [bw] S.boxes W1.boxes:=((h1.chg.trans (Chg.snoc [] T1.boxes [Ag y])).trans (by rw[hU1]at hc1;exact hc1)).more fun i hi=>by simpa using hi
 have htt1:W1.toks=S.toks:=by rw[ht1,hU1];exact h1.toks
 refine Gn (fun g=>?_) (fun g=>?_)
 ·have g':¬t2=0:=by simpa using(show (t2 != 0)=true from g)
  rw[hno2' g'];exact Bf func187 (h:=rfl) ⟨_,rfl,rfl,htt1,hcc1,hW1⟩
 have gt2:t2=0:=by simpa using(show (t2 != 0)=false from g)
 have up1:∀{i:Nat} {y:A7},i≠bw→T1.boxes[i]?=some y→W1.boxes[i]?=some y:=fun{i y} hi h=>(hc1.2 i (by rw[hU1];simp;have:=Aa h;omega) (by simpa using hi)).trans (by rw[hU1,Dd (Aa h)];exact h);have ha1:=up1 h1.ne.2.symm h1.a;refine Hg (Ac2 (m:=2) (n:=1) (by decide) (by decide)) rfl rfl ?_;refine Ct ha1 rfl ?_;obtain⟨T2,hT2⟩:∃U:St,U=⟨W1.boxes.set (S.boxes.length+1) [[vi v,vi v2]],W1.toks⟩:=⟨_,rfl⟩
 refine Bl T2 ?_ hT2.symm;have hsb1:Chg [S.boxes.length+1] W1.boxes T2.boxes:=by rw[hT2];exact⟨by simp,fun i _ hi=>Fi (fun h=>hi (by simp[h]))⟩
 have h2:VrS n bw bc V C ids c S T2 (.mk k s m [x,y]) S.boxes.length (S.boxes.length+1) v v2 d2:=
  h1.step (by rw[hT2,Fi (by omega)];exact up1 h1.ne.1.symm h1.e) (by rw[hT2];exact Ez (Aa ha1))
   (hW1.chg hsb1 (by simp;omega) (by have:=Aa hW.c.box;simp;omega) fun i hi hi2=>by simp at hi2;have:=Ur hW.c i hi;omega) (by rw[hT2];exact htt1)
   ⟨by rw[hT2];simpa using hcc1.1,fun i hi hi2=>(hsb1.2 i (Ng hi hcc1.1) (by simp;omega)).trans (hcc1.2 i hi hi2)⟩
 refine Qr ?_;refine Ce 60 rfl ?_;refine Ec (e:=false) 0 10 (fun h=>nomatch h) (fun _=>?_);exact Qj (G:=[(0,.ptr bw 0 0),(3,.ptr S.boxes.length 0 0),(6,.ptr (S.boxes.length+1) 0 0)]) ⟨rfl,rfl,rfl,trivial⟩ (h gt gt2 h2)
theorem Zl(hk:VOk n c){e:Nd}(h:FE e):Fs (A3 n 31) (A3 n 32) e=true→∀d,VrR n bw bc V C ids c e d (Df n c e d):=by
 induction h with
 |num m h0 h1=>
  intro _ d;exact Avt 1 [] m d (m,0,d) (Azx m d)
 |var s h=>
  intro hn d;exact Avt 2 s 0 d _ (Azz hk s ((Xa hn).1 rfl) d)
 |cell s a h ha ih=>
  intro hn d;have hi:=ih (Aih hn) d;rcases hv:Df n c a d with⟨v,t,d1⟩
  rw[hv]at hi;rw[Agy hv];refine A06 3 s 0 d a v t d1 _ hi (fun g=>if_neg g) (fun g=>?_);intro S T0 l1 l2 m' t' hl hS;rw[if_pos g];exact Avs hk s ((Xa hn).2 rfl) [a] v d1 hl hS
 |len s h=>
  intro hn d;exact Avt 4 s 0 d _ (Azu hk s ((Xa hn).2 rfl) d)
 |neg a ha ih=>
  intro hn d;have hi:=ih (Aih hn) d;rcases hv:Df n c a d with⟨v,t,d1⟩
  rw[hv]at hi;rw[Agy hv];refine A06 5 [] 0 d a v t d1 _ hi (fun g=>if_neg g) (fun g=>?_);intro S T0 l1 l2 m' t' _ hS;rw[if_pos g];exact Azw [a] v 0 d1 hS
 |two k a b hk' ha hb iha ihb=>
  intro hn d;obtain⟨n1,n2⟩:=Aas hn;rcases hv:Df n c a d with⟨v,t,d1⟩
  rcases hv2:Df n c b d1 with⟨v2,t2,d2⟩
  have h1:=iha n1 d;have h2:=ihb n2 d1;rw[hv]at h1;rw[hv2]at h2;rw[Awh hv hv2];refine A5x k [] 0 d a b v t d1 v2 t2 d2 _ h1 h2 (fun g=>if_neg g) (fun g g2=>by rw[if_pos g,if_neg g2]) (fun g g2=>?_);intro S T0 l1 l2 m' t' hS;rw[if_pos g,if_pos g2];rcases hk' with rfl|rfl|rfl
  ·exact Azt [a,b] v v2 d2 hS
  ·exact Azy [a,b] v v2 d2 hS
  ·exact Azv [a,b] v v2 d2 hS
end
theorem VOk.ok{n:Nd}{c:Cf}(h:VOk n c):CfOk c:=by
 have:=h.kl;have:=Ht n 31;have:=Ht n 32;exact⟨by rw[h.vars];omega,by rw[h.cells];omega,fun x hx=>by have:=h.rows x hx;omega⟩
theorem CfS.fzp{S:St}{bc:Nat}{V C:AV}{ids:List Nat}{c:Cf}(h:CfS S bc V C ids c)(hc:CfOk c):Fz S 0 0 (.ptr bc 0 0) (.cptr (G3 c)):=by
 obtain⟨cs,h1,h2,h3⟩:=h.cf.fzC hc;cases h1;exact .ptr bc 0 0 _ _ _ (Cb _) h.box rfl rfl fun j x y hx hy=>h3 j x y (by simpa using hx) hy
theorem Avo(n:Nd)(c:Cf)(hpts:(D9 (A1 n)).pts≤2000000):Pure X 118 [.cptr (Oj n),.cptr (G3 c)] (vb (Pu n c)):=by
 have hw:IntKind.i64.wrap ((((D9 (A1 n)).pts:Nat):Int)-1)=(((D9 (A1 n)).pts:Nat):Int)-1:=Ac (by omega) (by omega);have e0:Pu n c=((c.trap != 0)||((c.pt==IntKind.i64.wrap ((((D9 (A1 n)).pts:Nat):Int)-1))||(c.steps==5000))):=by rw[hw];rfl
 rw[e0];refine Pure.run func118 ?_;refine Hb 0 5 ?_;cases h1:(c.trap != 0)with
 |true=>
  refine Hm true ?_;refine Hy 12 ?_;refine Hm true ?_;refine C9 ?_;refine Bu ?_;exact Ao func118 rfl
 |false=>
  refine Hm false ?_;refine Hy 12 ?_;cases h2:(c.pt==IntKind.i64.wrap ((((D9 (A1 n)).pts:Nat):Int)-1))with
  |true=>
   refine Hm true ?_;refine C9 ?_;refine Bu ?_;exact Ao func118 rfl
  |false=>
   refine Hm false ?_;refine C9 ?_;refine Bu ?_;exact Ao func118 rfl
abbrev HR:=Bool×Int×Int
def Lo(n:Nd)(c:Cf)(x:Nd)(d:Int):HR:=match x.kids with
 |[a,b]=>
  if (Df n c a d).2.1=0 then
   if (Df n c b (Df n c a d).2.2).2.1=0 then(Pl x.kind (Df n c a d).1 (Df n c b (Df n c a d).2.2).1,0,(Df n c b (Df n c a d).2.2).2.2)
   else(false,(Df n c b (Df n c a d).2.2).2)
  else(false,(Df n c a d).2)
 |_=>(false,0,d)
def HrP(n:Nd)(bw bc:Nat)(V C:AV)(ids:List Nat)(c:Cf)(S:St)(T:HR)(r:AV)(S':St):Prop:=r=.tup [vb T.1,vi T.2.1]∧S'.toks=S.toks∧Chg [bw] S.boxes S'.boxes∧WkS n S' bw bc V C ids c T.2.2
theorem Apm{n:Nd}{bw bc:Nat}{V C:AV}{ids:List Nat}{c:Cf}(hk:VOk n c){x:Nd}(hx:FC x)(hn:Fs (A3 n 31) (A3 n 32) x=true)(d:Int)(S:St)(hW:WkS n S bw bc V C ids c d) :
 Runs X 190 [.ptr bw 0 0,nd x] S (HrP n bw bc V C ids c S (Lo n c x d)):=by
 cases hx with
 |mk k a b h0 h1 ha hb=>
 obtain⟨n1,n2⟩:=Aas hn;have ia:=Zl (bw:=bw) (bc:=bc) (V:=V) (C:=C) (ids:=ids) hk ha n1 d;have ib:=Zl (bw:=bw) (bc:=bc) (V:=V) (C:=C) (ids:=ids) hk hb n2 (Df n c a d).2.2;simp only[Lo,Nd.kids,Nd.kind];rcases hv:Df n c a d with⟨v,t,d1⟩
 rw[hv]at ia ib;simp only at ib⊢;rcases hv2:Df n c b d1 with⟨v2,t2,d2⟩
 rw[hv2]at ib;simp only;refine Runs.run func190 ?_;refine Ug (b:=S.boxes.length) rfl rfl ?_;obtain⟨U,hU⟩:∃U:St,U=⟨S.boxes++[[Ag (.mk k [] 0 [a,b])]],S.toks⟩:=⟨_,rfl⟩
 refine Bl U ?_ hU.symm;have zE:U.boxes[S.boxes.length]?=some [Ag (.mk k [] 0 [a,b])]:=by rw[hU];simp
 have hbw:=Aa hW.w;refine Aw zE ?_;refine M1 0 (by decide) (Ap (l:=[a,b]) rfl) ?_;refine Hl (ia U (hW.more (by rw[hU]))) ?_;intro r U1 hP _ _;obtain⟨rfl,ht1,hc1,hW1⟩:=hP;have zE1:=(hc1.2 _ (Aa zE) (by simp;omega)).trans zE;have hcc:Chg [bw] S.boxes U1.boxes:=((Chg.snoc [] S.boxes [Ag (.mk k [] 0 [a,b])]).trans (by rw[hU]at hc1;exact hc1)).more fun i hi=>by simpa using hi
 have htt:U1.toks=S.toks:=by rw[ht1,hU]
 refine Ce 60 rfl ?_;refine Gn (fun g=>?_) (fun g=>?_)
 ·have g':¬t=0:=by simpa using(show (t != 0)=true from g)
  rw[if_neg g'];exact Bf func190 (h:=rfl) ⟨_,rfl,rfl,htt,hcc,hW1⟩
 have gt:t=0:=by simpa using(show (t != 0)=false from g)
 rw[if_pos gt];refine Aw zE1 ?_;refine M1 1 (by decide) (Ap (l:=[a,b]) rfl) ?_;refine Hl (ib U1 hW1) ?_;intro r U2 hP _ _;obtain⟨rfl,ht2,hc2,hW2⟩:=hP;have zE2:=(hc2.2 _ (Aa zE1) (by simp;omega)).trans zE1;have hcc2:Chg [bw] S.boxes U2.boxes:=(hcc.trans hc2).more fun i hi=>by simpa using hi
 have htt2:U2.toks=S.toks:=ht2.trans htt;refine Ce 60 rfl ?_;refine Gn (fun g2=>?_) (fun g2=>?_)
 ·have g':¬t2=0:=by simpa using(show (t2 != 0)=true from g2)
  rw[if_neg g'];exact Bf func190 (h:=rfl) ⟨_,rfl,rfl,htt2,hcc2,hW2⟩
 have gt2:t2=0:=by simpa using(show (t2 != 0)=false from g2)
 rw[if_pos gt2];refine Hg Aly rfl rfl ?_;refine Ce 60 rfl ?_;refine Aw zE2 ?_;have hw:IntKind.i64.wrap (k-11)=k-11:=Ac (by omega) (by omega);have hr:[vb (decide (v<v2)),vb (decide (v≤v2)),vb (decide (v>v2)),vb (decide (v≥v2)),vb (v==v2),vb (v != v2)][(IntKind.i64.wrap (k-11)).toNat]?=some (vb (Pl k v v2)):=by
  rw[hw];have:k=11∨k=12∨k=13∨k=14∨k=15∨k=16:=by omega
  rcases this with rfl|rfl|rfl|rfl|rfl|rfl<;>rfl
 refine Hg (Xp rfl rfl rfl rfl rfl rfl rfl rfl rfl (show 0≤IntKind.i64.wrap (k-11) by rw[hw];omega) (show IntKind.i64.wrap (k-11)<((6:Nat):Int) by rw[hw];omega) hr) rfl rfl ?_;refine Ce 60 rfl ?_;exact Bf func190 (h:=rfl) ⟨_,rfl,rfl,htt2,hcc2,hW2⟩
theorem A0p(l:List Int)(i:Nat)(v:Int):(Fh l).set i [vi v]=Fh (l.set i v):=by simp[Fh,Z1]
theorem Axp(l:List (Bool×Int))(i:Nat)(v:Bool×Int):(G5 l).set i (Hc v)=G5 (l.set i v):=by simp[G5,Z1]
theorem C6(bx:B3)(b:Nat)(rows:A7):Chg [b] bx (bx.set b rows):=⟨by simp,fun i _ hi=>Fi (fun h=>hi (by simp[h]))⟩
section
variable {S:St}{bc:Nat}{V C:AV}{ids:List Nat}{c:Cf}
theorem CfS.upd(h:CfS S bc V C ids c){c':Cf}(hv:c'.vars=c.vars)(hc:c'.cells=c.cells):CfS ⟨S.boxes.set bc [En c' V C],S.toks⟩ bc V C ids c':=by
 obtain⟨V',C',ys,h1,h2,h3,h4,h5,h6,h7⟩:=(h.cf.chg (C6 S.boxes bc [En c' V C]) fun i hi hi2=>by simp at hi2;subst hi2;exact h.ne hi).ex;simp only[AV.agg.injEq,List.cons.injEq,and_true,true_and]at h1;obtain⟨rfl,rfl⟩:=h1;exact⟨Ez (Aa h.box),⟨V,C,ys,rfl,h2,h3,by rw[hv];exact h4,h5,by rw[hc];exact h6,by rw[hc];exact h7⟩,h.ne⟩
theorem CfS.wrV(h:CfS S bc V C ids c){i b:Nat}{ex:A7}(v:Int)(hi:i<c.vars.length)(hV:V=.bsl b c.vars.length)(hb:S.boxes[b]?=some (Fh c.vars++ex)) :
 CfS ⟨S.boxes.set b ((Fh c.vars++ex).set i [vi v]),S.toks⟩ bc V C ids { c with vars:=c.vars.set i v }∧Chg ids S.boxes (S.boxes.set b ((Fh c.vars++ex).set i [vi v])):=by
 obtain⟨V',C',ys,h1,h2,h3,h4,h5,h6,h7⟩:=h.cf.ex;simp only[AV.agg.injEq,List.cons.injEq,and_true,true_and]at h1;obtain⟨rfl,rfl⟩:=h1;subst hV;have hbi:b∈ids:=by rw[h2];simp[Ik]
 have hnd:=h3;rw[h2]at hnd;obtain⟨_,_,hd⟩:=zzq101.1 hnd;have hne:∀j,j∈Ik C++ys.flatMap Ik→j∉[b]:=fun j hj hj2=>by simp at hj2;subst hj2;exact hd j (by simp[Ik]) j hj rfl
 have hch:=C6 S.boxes b ((Fh c.vars++ex).set i [vi v]);have hbne:b≠bc:=fun e=>h.ne (e▸hbi);refine⟨⟨by rw[Fi hbne];exact h.box,⟨_,C,ys,rfl,h2,h3,.inl ⟨b,ex,by rw[Fb,List.length_set],?_⟩,h5.chg hch fun j hj=>hne j (List.mem_append_left _ hj),h6,fun j y l hy hl=>(h7 j y l hy hl).chg hch fun k hk=>hne k (Ab5 _ (zzq100.2 ⟨y,Bn hy,hk⟩))⟩,h.ne⟩,hch.more fun j hj=>by simp at hj;subst hj;exact hbi⟩;rw[Ez (Aa hb),List.set_append_left _ _ (by rw[Fb];exact hi),A0p]
theorem CfS.wrC(h:CfS S bc V C ids c){i j b b2:Nat}{ys:An}{ex ex2:A7}{r:List (Bool×Int)}(v:Int)(hr:c.cells[i]?=some r)(hj:j<r.length)(hC:C=.bsl b c.cells.length)(hyl:ys.length=c.cells.length)(hb:S.boxes[b]?=some (ys.map (fun y=>[y])++ex))(hy:ys[i]?=some (.bsl b2 r.length))(hb2:S.boxes[b2]?=some (G5 r++ex2)) :
 b2∈ids∧CfS ⟨S.boxes.set b2 ((G5 r++ex2).set j [vb true,vi v]),S.toks⟩ bc V C ids { c with cells:=c.cells.set i (r.set j (true,v)) }∧Chg ids S.boxes (S.boxes.set b2 ((G5 r++ex2).set j [vb true,vi v])):=by
 obtain⟨V',C',zs,h1,h2,h3,h4,h5,h6,h7⟩:=h.cf.ex;simp only[AV.agg.injEq,List.cons.injEq,and_true,true_and]at h1;obtain⟨rfl,rfl⟩:=h1;subst hC;have hz:zs=ys:=by
  rcases h5 with⟨b',ex',e1,hb'⟩|⟨_,sp,e1⟩
  ·simp only[AV.bsl.injEq]at e1;obtain⟨rfl,e2⟩:=e1;rw[hb]at hb';have e3:=Option.some.inj hb';have e4:=(List.append_inj e3 (by simp[h6,hyl])).1;have:∀{a b:An},a.map (fun y=>[y])=b.map (fun y=>[y])→b=a:=fun{a}=>by
    induction a with
    |nil=>intro b h;cases b with
     |nil=>rfl
     |cons y b=>simp at h
    |cons x a ih=>intro b h;cases b with
     |nil=>simp at h
     |cons y b=>simp only[Om,List.cons.injEq,and_true]at h;rw[h.1,ih h.2]
   exact this e4
  ·cases e1
 subst hz;have hbm:b2∈zs.flatMap Ik:=zzq100.2 ⟨_,Bn hy,by simp[Ik]⟩;have hbi:b2∈ids:=by rw[h2];exact Ab5 _ (Ab5 _ hbm)
 have hnd:=h3;rw[h2]at hnd;obtain⟨_,nd2,hd⟩:=zzq101.1 hnd;obtain⟨_,nd3,hd2⟩:=zzq101.1 nd2;have hch:=C6 S.boxes b2 ((G5 r++ex2).set j [vb true,vi v]);have hbne:b2≠bc:=fun e=>h.ne (e▸hbi);refine⟨hbi,⟨by rw[Fi hbne];exact h.box,⟨V,_,zs,rfl,h2,h3,h4.chg hch fun k hk hk2=>?_,h5.chg hch fun k hk hk2=>?_,by simpa using h6,fun k y l hy' hl=>?_⟩,h.ne⟩,hch.more fun k hk=>by simp at hk;subst hk;exact hbi⟩
 ·simp at hk2;subst hk2;exact hd k hk k (Ab5 _ hbm) rfl
 ·simp at hk2;subst hk2;exact hd2 k hk k hbm rfl
 ·rcases E8 hl with⟨rfl,rfl⟩|⟨hne,hl⟩
  ·rw[hy]at hy';cases hy';refine .inl ⟨b2,ex2,by rw[Gs,List.length_set],?_⟩;rw[Ez (Aa hb2),List.set_append_left _ _ (by rw[Gs];exact hj)];congr 2;exact Axp r j (true,v)
  ·refine(h7 k y l hy' hl).chg hch fun q hq hq2=>?_;simp at hq2;subst hq2;exact Ao5 nd3 (Ne.symm hne) hy hy' (by simp[Ik]) hq
end
theorem Aic{l:List Nat}{i m:Nat}(h:l[i]?=some m):(T4 l)[i]?=some [vi m]:=by simp[T4,h]
theorem Azk(n:Nd){p i j:Nat}{e:Eg}(hp:p<(D9 (A1 n)).pts)(he:(Ia (A1 n))[i]?=some e)(hf:e.f=(p:Int))(hl:Ki Eg.f (Ia (A1 n)) p=[i,j])(hij:i<j):Pure X 191 [.cptr (Oj n),vi i] (vi j):=by
 obtain⟨f,t,k,y,x⟩:=e;simp only at hf;subst hf;have hrow:=Adv Eg.f (Ia (A1 n)) hp;rw[hl]at hrow;refine Pure.run func191 ?_;refine Eo 0 ?_;refine Dk i (by omega) (Ge he) ?_;refine Dk p (by omega) hrow ?_;refine Bu ?_;refine Oq ?_;refine Ba 100 rfl ?_;refine Ay ?_;refine Bv 0 (by decide) (Aic (l:=[i,j]) (i:=0) rfl) ?_;refine Ah ?_ (ht:=by simp);refine Qr ?_;refine Ba 100 rfl ?_;refine Ay ?_;refine Bv 1 (by decide) (Aic (l:=[i,j]) (i:=1) rfl) ?_;refine Ay ?_ (ht:=by simp;omega);exact Ao func191 rfl
end Go.V
