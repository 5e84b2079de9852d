/- A part of the proof of the claim that the last text states: no condition of its own. -/
import Derived.Test.YtfpfmkljakiedaaGreatDoorC12
import Derived.Laws.MakeOwn
set_option linter.unusedVariables false
set_option linter.unusedSimpArgs false
namespace Go.V
open Go Go.Proofs
def toExit (x:Int)(e:Eg):Eg:=if e.t<0 then { e with t:=x } else e
def mixE (x:Int)(l:List Eg)(i:Nat):List Eg:=(l.take i).map (toExit x)++l.drop i
def verE (l:List Eg)(i:Nat):Nat:=l.length+((l.take i).filter fun e=>decide (e.t<0)).length
theorem mixE_len (x:Int)(l:List Eg)(i:Nat):(mixE x l i).length=l.length:=by simp [mixE];omega
theorem mixE_zero (x:Int)(l:List Eg):mixE x l 0=l:=by simp [mixE]
theorem mixE_all (x:Int)(l:List Eg):mixE x l l.length=l.map (toExit x):=by simp [mixE]
theorem verE_zero (l:List Eg):verE l 0=l.length:=by simp [verE]
theorem mixE_get {x:Int}{l:List Eg}{i:Nat}{e:Eg}(h:l[i]?=some e):(mixE x l i)[i]?=some e:=by
 have hi:=lt_of_get h
 simp only [mixE]
 rw [List.getElem?_append_right (by simp;omega),List.getElem?_drop]
 simp [show i+(i-min i l.length)=i by omega,h]
theorem mixE_set {x:Int}{l:List Eg}{i:Nat}{e:Eg}(h:l[i]?=some e):(mixE x l i).set i (toExit x e)=mixE x l (i+1):=by
 have hi:=lt_of_get h
 simp only [mixE]
 rw [List.set_append_right _ _ (by simp;omega),List.take_add_one,h,List.map_append,drop_cons h]
 simp [show i-min i l.length=0 by omega]
theorem mixE_keep {x:Int}{l:List Eg}{i:Nat}{e:Eg}(h:l[i]?=some e)(ht:¬ e.t<0):mixE x l (i+1)=mixE x l i:=by
 rw [← mixE_set h]
 have:toExit x e=e:=by simp [toExit,ht]
 rw [this]
 apply List.ext_getElem?
 intro j
 rw [List.getElem?_set]
 split
 ·rename_i hj;subst hj
  rw [mixE_get h];simp [mixE_len,lt_of_get h]
 ·rfl
theorem verE_neg {l:List Eg}{i:Nat}{e:Eg}(h:l[i]?=some e)(ht:e.t<0):verE l (i+1)=verE l i+1:=by
 simp only [verE];rw [List.take_add_one,h];simp [ht];omega
theorem verE_pos {l:List Eg}{i:Nat}{e:Eg}(h:l[i]?=some e)(ht:¬ e.t<0):verE l (i+1)=verE l i:=by
 simp only [verE];rw [List.take_add_one,h];simp [ht]
def gAll (l:List Nd):Gr:=gLeaf 6 nd0 (gL l nd0 ⟨1,0,[],[],[],0⟩)
def gEs (l:List Nd):List Eg:=(gAll l).es.map (toExit (gAll l).pt)
def planL (n:Nd):List Nd:=(lastN (plainM n)).kids
theorem FP_plan {n:Nd}(h:FP n):∃ ds,plainM n=.mk 40 [] 0 (ds++[.mk 30 [] 0 (planL n)])∧n.kids.dropLast=ds∧(∀ x,x∈planL n→PS x)∧wL (planL n)≤10*wN n:=by
 have hw:=(plain_w n).1
 cases h with
 | mk ds l hd hl =>
   have e1:planL (.mk 40 [] 0 (ds++[.mk 30 [] 0 l]))=plainML l:=by
    unfold planL lastN
    rw [plain_P hd,kids_mk]
    simp [kids_mk]
   rw [e1]
   refine ⟨ds,plain_P hd,by rw [kids_mk];simp,plainML_PS fun x hx=>FS_PS (hl x hx),?_⟩
   rw [plain_P hd] at hw
   simp only [wN,wL,wL_app] at hw ⊢
   omega
theorem erow_set (e:Eg)(x:Int)(h:e.t<0):(erow e).take 1++[vi x]++(erow e).drop (1+[vi x].length)=erow (toExit x e):=by simp [erow,toExit,h]
theorem erows_set (l:List Eg)(i:Nat)(e:Eg):(erows l).set i (erow e)=erows (l.set i e):=by simp [erows,List.map_set]
theorem erows_get {l:List Eg}{i:Nat}{e:Eg}(h:l[i]?=some e):(erows l)[i]?=some (erow e):=by simp [erows,h]
abbrev gBx (n:Nd)(p:Nat)(rows:List (List AV))(v:Nat):List (List (List AV)):=[[ncells n],[[vi 0,.sl [] .tight]],[ncells (plainM n)],[[vi p,.psl rows 0 v]]]
theorem g_graph (n:Nd)(h:FP n)(hw:wN n≤1000000):Pure X 80 [nd n] (.agg [vi (gAll (planL n)).pts,.sl (erows (gEs (planL n))) .no]):=by
 obtain ⟨ds,hpl,_,hps,hwl⟩:=FP_plan h
 have hpw:=(plain_w n).1
 have hdl:IntKind.i64.wrap (((nrows (plainM n).kids).length:Int)-1)=ds.length:=by
  have hkl:=kids_le_w (plainM n)
  have e:(nrows (plainM n).kids).length=ds.length+1:=by rw [nrows_len,hpl,kids_mk];simp
  rw [nrows_len] at e
  rw [nrows_len,wrap_small (by omega) (by omega)];omega
 have hlast:(nrows (plainM n).kids)[(IntKind.i64.wrap (((nrows (plainM n).kids).length:Int)-1)).toNat]?=some (ncells (.mk 30 [] 0 (planL n))):=by
  rw [hdl,hpl,kids_mk]
  exact nrows_get (by simp)
 have h0:0≤IntKind.i64.wrap (((nrows (plainM n).kids).length:Int)-1):=by rw [hdl];omega
 refine Pure.run Tryz.func80 ?_
 refine AK.pc (p_plainProg n h (by omega)) ?_
 refine AK.mintP (bx:=gBx n 0 [] 0) (tk:=[0]) 3 0 1 ?_
 refine AK.as_ 4 (.ptr 3 0 0) ?_
 refine AK.db 3072 ?_
 refine Drv.ig _ h0 hlast ?_
 refine Drv.wl (Ndo.hd (τ':=[0]) [3] [0] (g_point 0 [] (by omega))) ?_ ?_
 ·exact strip_eq (Ndo.ev rfl rfl rfl) (strip_eq (Ndo.ev rfl rfl rfl) (strip_eq (Ndo.ev rfl rfl rfl) allN))
 have c0:Gb ⟨1,0,[],[],[],0⟩ (wL (planL n)):=⟨by decide,by show 1+_≤_;omega,by show 0+_≤_;omega⟩
 have l0:=PSL_le hps nd0 _ c0.pt
 have i0:Hands X 135 [.ptr 0 0 0,nd (.mk 30 [] 0 (planL n)),vi (0:Nat)] ⟨[mbx (0+1) []],[([]:List Eg).length]⟩ (vi (gL (planL n) nd0 ⟨1,0,[],[],[],0⟩).pt) (gSt (gL (planL n) nd0 ⟨1,0,[],[],[],0⟩)) :=
  g_list hps (fun x hx=>g_stmt (hps x hx)) nd0 _ c0
 have c1:Gb (gL (planL n) nd0 ⟨1,0,[],[],[],0⟩) 0:=c0.step l0 (by omega)
 generalize hg:gL (planL n) nd0 ⟨1,0,[],[],[],0⟩=g at *
 refine Drv.w (Ndo.hd (τ':=[0]) [3] [0] i0) ?_
 refine Drv.e ?_
 refine Drv.z ?_
 have b1:=c1.pts
 have b2:=c1.es
 refine AK.hc (τ':=[0]) [3] [0] (g_point g.pts g.es (by omega)) ?_
 refine AK.hc (τ':=[0]) [3] [0] (g_edge0 (g.pts+1) g.es g.pt g.pts 6 false (by omega)) ?_
 have hG:gAll (planL n)=gLeaf 6 nd0 g:=by unfold gAll;rw [hg]
 have hE:gEs (planL n)=(g.es++[(⟨g.pt,g.pts,6,false,nd0⟩:Eg)]).map (toExit g.pts):=by unfold gEs;rw [hG];rfl
 rw [hE,hG]
 show AK X _ _ _ _ fun e S=>e=.ret (.agg [vi (g.pts+1:Nat),.sl (erows ((g.es++[(⟨g.pt,g.pts,6,false,nd0⟩:Eg)]).map (toExit g.pts))) .no])∧S=⟨[],[]⟩
 have hel:(g.es++[(⟨g.pt,g.pts,6,false,nd0⟩:Eg)]).length≤1000000001:=by simp;omega
 generalize g.es++[(⟨g.pt,g.pts,6,false,nd0⟩:Eg)]=es at *
 refine AK.sto ⟨gBx n (g.pts+1) (erows (mixE g.pts es 0)) (verE es 0),[verE es 0]⟩ ?_ (by rw [mixE_zero,verE_zero];rfl)
 refine AK.while_ (ι:=Nat) 4 1 (fun i=>i≤es.length) (fun i=>[(7,vi i),(4,.ptr 3 0 0),(6,vi g.pts),(2,.ptr 1 0 0)])
  (fun i=>⟨gBx n (g.pts+1) (erows (mixE g.pts es i)) (verE es i),[verE es i]⟩) (fun i=>es.length-i) ?_ 0
  (Nat.zero_le _) ⟨rfl,rfl,rfl,rfl,trivial⟩ rfl rfl rfl rfl rfl (fun _=>inferInstance) (fun _=>inferInstance)
 intro i hi IH
 refine AK.ev 100 rfl ?_
 refine AK.if_ (fun h=>?_) (fun h=>?_)
 ·have hlt:i<es.length:=by have:=of_decide_eq_true h;rw [erows_len,mixE_len] at this;omega
  obtain ⟨e,he⟩:=lget_of_lt es hlt
  have hil:i<(erows (mixE g.pts es i)).length:=by rw [erows_len,mixE_len];exact hlt
  have hrow:=erows_get (mixE_get (x:=g.pts) he)
  refine AK.op (Ndo.ixP (n:=i) hil rfl (erows_sz _) rfl rfl rfl rfl rfl rfl rfl rfl) ?_
  refine AK.op (Ndo.ldP (x:=vi e.t) hrow rfl (by show 1+1≤8;omega) rfl rfl rfl rfl rfl rfl) ?_
  refine AK.if_ (fun h2=>?_) (fun h2=>?_)
  ·have h2':e.t<0:=of_decide_eq_true h2
   refine AK.op (Ndo.ixP (n:=i) hil rfl (erows_sz _) rfl rfl rfl rfl rfl rfl rfl rfl) ?_
   refine AK.op (Ndo.stP (b:=3) (r:=0) (g:=1) (xs:=[vi g.pts]) (bx:=gBx n (g.pts+1) (erows (mixE g.pts es (i+1))) (verE es (i+1))) (tk':=[verE es (i+1)]) rfl hrow (by show 1+1≤8;omega) (fun z hz=>by simp at hz;subst hz;exact .val _) rfl rfl rfl
    ?_ ?_ rfl rfl rfl rfl rfl rfl rfl rfl) ?_
   ·show gBx n (g.pts+1) ((erows (mixE g.pts es i)).set i ((erow e).take 1++[vi g.pts]++(erow e).drop (1+[vi g.pts].length))) (verE es i+1)=_
    rw [erow_set e _ h2',erows_set,mixE_set he,← verE_neg he h2']
   ·show [verE es i+1]=_
    rw [← verE_neg he h2']
   exact IH (i+1) hlt (by omega) _ _ ⟨vint ((wrap_small (by omega) (by omega)).trans (by omega)),rfl,rfl,rfl,trivial⟩ rfl rfl rfl
  ·have h2':¬ e.t<0:=of_decide_eq_false h2
   rw [← mixE_keep (x:=g.pts) he h2',← verE_pos he h2']
   exact IH (i+1) hlt (by omega) _ _ ⟨vint ((wrap_small (by omega) (by omega)).trans (by omega)),rfl,rfl,rfl,trivial⟩ rfl rfl rfl
 ·have:i=es.length:=by have:=of_decide_eq_false h;rw [erows_len,mixE_len] at this;omega
  subst this
  rw [mixE_all]
  refine AK.db 512 ?_
  refine Drv.w (Ndo.store rfl rfl rfl rfl rfl rfl rfl) ?_
  refine Drv.z ?_
  exact AK.rz Tryz.func80 rfl
def irs (l:List Nat):List (List AV):=l.map fun (i:Nat)=>[vi i]
theorem irs_len (l:List Nat):(irs l).length=l.length:=by simp [irs]
theorem irs_al (l:List Nat):allLen 1 (irs l)=true:=allLen_map (f:=fun (i:Nat)=>[vi i]) (fun _=>rfl) l
theorem irs_snoc (l:List Nat)(i:Nat):irs l++[[vi i]]=irs (l++[i]):=by simp [irs]
instance {n m:Nat}{l:List Nat}:OKR n m (irs l):=⟨fun r hr x hx=>by obtain ⟨e,_,rfl⟩:=List.mem_map.1 hr;simp at hx;subst hx;exact .val _⟩
def lrow (l:Lp):List AV:=ncells l.a++ncells l.l++[vi l.h,vi l.x]
def lrows (l:List Lp):List (List AV):=l.map lrow
theorem lrows_len (l:List Lp):(lrows l).length=l.length:=by simp [lrows]
theorem lrows_sz (l:List Lp):∀ r,r∈lrows l→r.length=10:=fun r h=>by obtain ⟨e,_,rfl⟩:=List.mem_map.1 h;rfl
theorem lrows_snoc (l:List Lp)(e:Lp):lrows l++[lrow e]=lrows (l++[e]):=by simp [lrows]
theorem lrow_flat (e:Lp):∀ x,x∈lrow e→Flat x:=fun x hx=>by
 simp only [lrow,List.mem_append,List.mem_cons,List.not_mem_nil,or_false] at hx
 rcases hx with (hx | hx) | rfl | rfl
 ·exact ncells_flat _ x hx
 ·exact ncells_flat _ x hx
 ·exact .val _
 ·exact .val _
theorem lrow1_flat (e:Lp):∀ r,r∈[lrow e]→∀ x,x∈r→Flat x:=fun r hr x hx=>by simp at hr;subst hr;exact lrow_flat e x hx
instance {n m:Nat}{l:List Lp}:OKR n m (lrows l):=⟨fun r hr x hx=>by obtain ⟨e,_,rfl⟩:=List.mem_map.1 hr;exact (lrow_flat e x hx).ok⟩
abbrev mx (p:Nat)(es:List Eg)(at_:Nat)(sts:List Nat)(lps:List Lp)(v:Nat):List (List AV):=[[vi p,.psl (erows es) 0 es.length,vi at_,.sl (irs sts) (.tok 1),.psl (lrows lps) 2 v]]
abbrev mS (p:Nat)(es:List Eg)(at_:Nat)(sts:List Nat)(lps:List Lp)(v:Nat):St:=⟨[mx p es at_ sts lps v],[es.length,sts.length,v]⟩
def iE (g:Gr):List Eg:=g.es.map (toExit 0)
abbrev gM (g:Gr):St:=mS g.pts (iE g) g.pt g.sts g.lps g.ver
theorem iE_len (g:Gr):(iE g).length=g.es.length:=by simp [iE]
theorem iE_leaf (k:Int)(n:Nd)(g:Gr):iE (gLeaf k n g)=iE g++[⟨g.pt,g.pts,k,false,n⟩]:=by simp [iE,gLeaf,toExit];intro h;omega
theorem iE_way (p:Nat)(c:Nd)(y:Bool)(g:Gr):iE (gWay p c y g)=iE g++[⟨p,g.pts,4,y,c⟩]:=by simp [iE,gWay,toExit];intro h;omega
theorem iE_stop (g:Gr):iE (gStop g)=iE g++[⟨g.pt,0,7,false,nd0⟩]:=by simp [iE,gStop,toExit]
theorem iE_back (h:Nat)(g:Gr):iE (gBack h g)=iE g++[⟨g.pt,h,6,false,nd0⟩]:=by simp [iE,gBack,gEdge,toExit];intro h;omega
theorem iE_join (p:Nat)(g:Gr):iE (gJoin p g)=iE g++[⟨p,g.pts,6,false,nd0⟩]++[⟨g.pt,g.pts,6,false,nd0⟩]:=by simp [iE,gJoin,gEdge,toExit];intro h;omega
section
variable (p:Nat)(es:List Eg)(a:Nat)(sts:List Nat)(lps:List Lp)(v:Nat)
theorem j_point (h:p≤1000000000000):Hands X 220 [.ptr 0 0 0] (mS p es a sts lps v) (vi p) (mS (p+1) es a sts lps v):=by
 refine Hands.run Tryz.func220 ?_
 have e1:IntKind.i64.wrap ((p:Int)+1)=((p+1:Nat):Int):=(wrap_small (by omega) (by omega)).trans (by omega)
 have e2:IntKind.i64.wrap (IntKind.i64.wrap ((p:Int)+1)-1)=(p:Int):=by rw [e1];exact (wrap_small (by omega) (by omega)).trans (by omega)
 refine AK.as_ 2 (vi p) ?_ (vint e2)
 refine AK.sto (mS (p+1) es a sts lps v) ?_ (by rw [mS,mx,← e1])
 exact AK.rb Tryz.func220 rfl rfl
theorem j_edge (e:Eg)(hp:PlO e.n)(hpl:plainM e.n=e.n)(hw:wN e.n≤1000000000)(hl:es.length≤1000000000) :
 Hands X 221 [.ptr 0 0 0,vi e.f,vi e.t,vi e.k,vb e.y,nd e.n] (mS p es a sts lps v) (.tup []) (mS p (es++[e]) a sts lps v):=by
 have hq:=q_plainOf e.n hp hw
 rw [hpl] at hq
 refine Hands.run Tryz.func221 ?_
 refine AK.db 278528 ?_
 refine Drv.pg hq ?_
 refine Drv.w (Ndo.appP (ver:=es.length) rfl (erows_sz es) (erow1_flat e) ?_ (erows_snoc es e) rfl rfl rfl rfl rfl rfl rfl rfl rfl rfl rfl rfl rfl rfl rfl rfl rfl) ?_
 ·rw [erows_len];simp;omega
 refine Drv.e ?_
 refine Drv.e ?_
 refine Drv.e ?_
 refine Drv.w (Ndo.store rfl rfl rfl rfl rfl rfl rfl) ?_
 refine Drv.z ?_
 refine AK.sto ⟨[mx p (es++[e]) a sts lps v,[ncells e.n]],[(es++[e]).length,sts.length,v]⟩ ?_ (by simp)
 exact AK.fb Tryz.func221 rfl rfl
theorem j_edge' (f t k:Int)(y:Bool)(n:Nd)(hp:PlO n)(hpl:plainM n=n)(hw:wN n≤1000000000)(hl:es.length≤1000000000) :
 Hands X 221 [.ptr 0 0 0,vi f,vi t,vi k,vb y,nd n] (mS p es a sts lps v) (.tup []) (mS p (es++[⟨f,t,k,y,n⟩]) a sts lps v):=j_edge p es a sts lps v ⟨f,t,k,y,n⟩ hp hpl hw hl
theorem j_edge0 (f t k:Int)(y:Bool)(hl:es.length≤1000000000) :
 Hands X 221 [.ptr 0 0 0,vi f,vi t,vi k,vb y,.agg [vi 0,str [],vi 0,.sl [] .no]] (mS p es a sts lps v) (.tup []) (mS p (es++[⟨f,t,k,y,nd0⟩]) a sts lps v) :=
 j_edge p es a sts lps v ⟨f,t,k,y,nd0⟩ .leaf (by show plainM nd0=nd0;rw [nd0,plainM_mk,plainML_nil]) (by show wN nd0≤1000000000;decide) hl
end
theorem j_goOn (g:Gr)(k:Int)(n:Nd)(hp:PlO n)(hpl:plainM n=n)(hw:wN n≤1000000000)(h1:g.pts≤1000000000000)(hl:g.es.length≤1000000000) :
 Hands X 189 [.ptr 0 0 0,vi k,nd n] (gM g) (.tup []) (gM (gLeaf k n g)):=by
 refine Hands.run Tryz.func189 ?_
 refine AK.hc (τ':=[0,1,2]) [0] [0,1,2] (j_point g.pts (iE g) g.pt g.sts g.lps g.ver h1) ?_
 refine AK.db 256 ?_
 refine Drv.w (Ndo.hd (τ':=[0,1,2]) [0] [0,1,2] (j_edge' (g.pts+1) (iE g) g.pt g.sts g.lps g.ver g.pt g.pts k false n hp hpl hw (by rw [iE_len];exact hl))) ?_
 refine Drv.z ?_
 rw [← iE_leaf]
 exact AK.fb Tryz.func189 rfl rfl
theorem j_way (g:Gr)(q:Nat)(c:Nd)(y:Bool)(hp:PlO c)(hpl:plainM c=c)(hw:wN c≤1000000000)(h1:g.pts≤1000000000000)(hl:g.es.length≤1000000000) :
 Hands X 259 [.ptr 0 0 0,vi q,nd c,vb y] (gM g) (.tup []) (gM (gWay q c y g)):=by
 refine Hands.run Tryz.func259 ?_
 refine AK.hc (τ':=[0,1,2]) [0] [0,1,2] (j_point g.pts (iE g) g.pt g.sts g.lps g.ver h1) ?_
 refine AK.db 256 ?_
 refine Drv.w (Ndo.hd (τ':=[0,1,2]) [0] [0,1,2] (j_edge' (g.pts+1) (iE g) g.pts g.sts g.lps g.ver q g.pts 4 y c hp hpl hw (by rw [iE_len];exact hl))) ?_
 refine Drv.z ?_
 rw [← iE_way]
 exact AK.fb Tryz.func259 rfl rfl
structure Gc (g:Gr)(k:Nat):Prop where
 b:Gb g k
 lps:g.lps.length+24*k≤1000000000
 sts:g.sts.length+24*k≤1000000000
theorem Gc.step1 {g g':Gr}{j k m:Nat}(h:Gc g m)(hl:g.le g' j)(hj:j≤6*m)(hm:j+6*k≤6*m):Gc g' k:=by
 obtain ⟨l,h1,h2⟩:=hl.lps
 obtain ⟨s,h3,h4⟩:=hl.sts
 have:=h.lps
 have:=h.sts
 refine ⟨h.b.step1 hl hj hm,?_,?_⟩
 ·rw [h1,List.length_append];omega
 ·rw [h3,List.length_append];omega
def JSt (n:Nd):Prop:=∀ (a:Nd)(g:Gr),Gc g (wN n)→Hands X 219 [.ptr 0 0 0,nd n,nd a] (gM g) (.tup []) (gM (gS n a g))
def JLs (l:List Nd):Prop:=∀ (g:Gr),Gc g (wL l)→Hands X 188 [.ptr 0 0 0,.sl (nrows l) .no] (gM g) (.tup []) (gM (gL l nd0 g))
theorem j_list {l:List Nd}(hp:∀ x,x∈l→PS x)(hs:∀ x,x∈l→JSt x):JLs l:=by
 intro g hb
 have hlw:=len_le_wL l
 have hbe:=hb.b.es
 refine Hands.run Tryz.func188 ?_
 refine AK.wkB 1 0 3 (.sl [] .no) ?_
 refine AK.while_ (ι:=Nat) 2 3 (fun i=>i≤l.length) (fun i=>[(10,vi i),(9,vi l.length),(8,.sl (nrows l) .no),(0,.ptr 0 0 0),(4,.ptr 1 0 0)])
  (fun i=>⟨[mx (gL (l.take i) nd0 g).pts (iE (gL (l.take i) nd0 g)) (gL (l.take i) nd0 g).pt (gL (l.take i) nd0 g).sts (gL (l.take i) nd0 g).lps (gL (l.take i) nd0 g).ver,[ncells ((l.take i).getLastD nd0)]],[(iE (gL (l.take i) nd0 g)).length,(gL (l.take i) nd0 g).sts.length,(gL (l.take i) nd0 g).ver]⟩) (fun i=>l.length-i) ?_ 0
  (Nat.zero_le _) ⟨rfl,by rw [← nrows_len l];rfl,rfl,rfl,rfl,trivial⟩ rfl rfl rfl rfl rfl (fun _=>inferInstance) (fun _=>inferInstance)
 intro i hi IH
 have hgi:g.le (gL (l.take i) nd0 g) (bG (wL (l.take i))):=PSL_le (fun x hx=>hp x (List.mem_of_mem_take hx)) nd0 g hb.b.pt
 refine AK.ev 100 rfl ?_
 refine AK.if_ (fun h=>?_) (fun h=>?_)
 ·have hlt:i<l.length:=by have:=of_decide_eq_true h;omega
  obtain ⟨x,hx⟩:=lget_of_lt l hlt
  have hwt:=wL_take hx
  have hbi:Gc (gL (l.take i) nd0 g) (wN x):=hb.step1 hgi (by simp only [bG];omega) (by simp only [bG];omega)
  refine AK.ix i (by omega) (nrows_get (l:=l) hx) ?_
  refine AK.hc (τ':=[0,1,2]) [0] [0,1,2] (hs x (List.mem_of_getElem? hx) ((l.take i).getLastD nd0) _ hbi) ?_
  rw [← gL_take hx]
  have hla:(l.take (i+1)).getLastD nd0=x:=by rw [List.take_add_one,hx];simp
  refine IH (i+1) hlt (by omega) _ _ ⟨vint ((wrap_small (by omega) (by omega)).trans (by omega)),rfl,rfl,rfl,rfl,trivial⟩ ?_ rfl rfl
  simp only
  rw [hla];rfl
 ·have:i=l.length:=by have:=of_decide_eq_false h;omega
  subst this
  rw [List.take_length] at hgi ⊢
  exact AK.fb Tryz.func188 rfl rfl
theorem j_goOn0 (g:Gr)(h1:g.pts≤1000000000000)(hl:g.es.length≤1000000000) :
 Hands X 189 [.ptr 0 0 0,vi 6,.agg [vi 0,str [],vi 0,.sl [] .no]] (gM g) (.tup []) (gM (gLeaf 6 nd0 g)) :=
 j_goOn g 6 nd0 .leaf (by rw [nd0,plainM_mk,plainML_nil]) (by decide) h1 hl
theorem plain_set (s:List UInt8){a:Nd}(ha:FE a):plainM (.mk 21 s 0 [a])=.mk 21 s 0 [a]:=by rw [plainM_mk,plainML_cons,plainML_nil,plain1_E ha];rfl
theorem plain_put (s:List UInt8){a b:Nd}(ha:FE a)(hb:FE b):plainM (.mk 22 s 0 [a,b])=.mk 22 s 0 [a,b]:=by rw [plainM_mk,plainML_cons,plainML_cons,plainML_nil,plain1_E ha,plain1_E hb];rfl
theorem plain_read (s:List UInt8):plainM (.mk 23 s 0 [])=.mk 23 s 0 []:=by rw [plainM_mk,plainML_nil]
theorem lrow_set (l:Lp)(x:Int):(lrow l).take 9++[vi x]++(lrow l).drop (9+[vi x].length)=lrow { l with x:=x }:=by simp [lrow,ncells]
theorem lrows_set (l:List Lp)(i:Nat)(e:Lp):(lrows l).set i (lrow e)=lrows (l.set i e):=by simp [lrows,List.map_set]
theorem lrows_get {l:List Lp}{i:Nat}{e:Lp}(h:l[i]?=some e):(lrows l)[i]?=some (lrow e):=by simp [lrows,h]
theorem modify_at {l:List Lp}{i:Nat}{e:Lp}(h:l[i]?=some e)(f:Lp→Lp):l.modify i f=l.set i (f e):=by
 apply List.ext_getElem?
 intro j
 rw [List.getElem?_modify,List.getElem?_set]
 by_cases hj:i=j
 ·subst hj;rw [h];simp [lt_of_get h]
 ·simp [hj]
abbrev mS3 (p:Nat)(es:List Eg)(at_:Nat)(sts:List Nat)(lps:List Lp)(v:Nat)(n a:Nd):St:=⟨[mx p es at_ sts lps v,[ncells n],[ncells a]],[es.length,sts.length,v]⟩
abbrev gM3 (g:Gr)(n a:Nd):St:=mS3 g.pts (iE g) g.pt g.sts g.lps g.ver n a
set_option maxHeartbeats 4000000 in
theorem j_stmt {n:Nd}(h:PS n):JSt n:=by
 induction h with
 | set s x h hx =>
   intro a g hb
   have b1:=hb.b.pts
   have b2:=hb.b.es
   have b3:=hb.lps
   have b4:=hb.sts
   refine Hands.run Tryz.func219 ?_
   rw [gS_set]
   refine AK.yes ?_
   refine AK.hc (τ':=[0,1,2]) [0] [0,1,2] (j_goOn g 1 (.mk 21 s 0 [x]) (FS_PlO (.set s x h hx)) (plain_set s hx) (by omega) (by omega) (by omega)) ?_
   exact AK.fb Tryz.func219 rfl rfl
 | put s x y h hx hy =>
   intro a g hb
   have b1:=hb.b.pts
   have b2:=hb.b.es
   have b3:=hb.lps
   have b4:=hb.sts
   refine Hands.run Tryz.func219 ?_
   rw [gS_put]
   refine AK.no ?_
   refine AK.yes ?_
   refine AK.hc (τ':=[0,1,2]) [0] [0,1,2] (j_goOn g 2 (.mk 22 s 0 [x,y]) (FS_PlO (.put s x y h hx hy)) (plain_put s hx hy) (by omega) (by omega) (by omega)) ?_
   exact AK.fb Tryz.func219 rfl rfl
 | read s h =>
   intro a g hb
   have b1:=hb.b.pts
   have b2:=hb.b.es
   have b3:=hb.lps
   have b4:=hb.sts
   refine Hands.run Tryz.func219 ?_
   rw [gS_read]
   refine AK.no ?_
   refine AK.no ?_
   refine AK.yes ?_
   refine AK.hc (τ':=[0,1,2]) [0] [0,1,2] (j_goOn g 3 (.mk 23 s 0 []) (FS_PlO (.read s h)) (plain_read s) (by omega) (by omega) (by omega)) ?_
   exact AK.fb Tryz.func219 rfl rfl
 | check c hc =>
   intro a g hb
   have b1:=hb.b.pts
   have b2:=hb.b.es
   have b3:=hb.lps
   have b4:=hb.sts
   refine Hands.run Tryz.func219 ?_
   have hwc:wN c<wN (.mk 27 [] 0 [c]):=wN_kid (n:=.mk 27 [] 0 [c]) (by simp)
   rw [gS_check]
   refine AK.no ?_
   refine AK.no ?_
   refine AK.no ?_
   refine AK.yes ?_
   refine AK.ix 0 (by omega) (nrows_get (l:=[c]) rfl) ?_
   refine AK.hc (τ':=[0,1,2]) [0] [0,1,2] (j_goOn g 5 c (FC_PlO hc) (plainC hc) (by omega) (by omega) (by omega)) ?_
   exact AK.fb Tryz.func219 rfl rfl
 | skip =>
   intro a g hb
   have b1:=hb.b.pts
   have b2:=hb.b.es
   have b3:=hb.lps
   have b4:=hb.sts
   refine Hands.run Tryz.func219 ?_
   rw [gS_skip]
   refine AK.no ?_
   refine AK.no ?_
   refine AK.no ?_
   refine AK.no ?_
   refine AK.yes ?_
   refine AK.hc (τ':=[0,1,2]) [0] [0,1,2] (j_goOn0 g (by omega) (by omega)) ?_
   exact AK.fb Tryz.func219 rfl rfl
 | stop =>
   intro a g hb
   have b1:=hb.b.pts
   have b2:=hb.b.es
   have b3:=hb.lps
   have b4:=hb.sts
   refine Hands.run Tryz.func219 ?_
   rw [gS_stop]
   refine AK.no ?_
   refine AK.no ?_
   refine AK.no ?_
   refine AK.no ?_
   refine AK.no ?_
   refine AK.yes ?_
   refine AK.db 36864 ?_
   refine Drv.w (Ndo.append (res:=irs (g.sts++[g.es.length])) rfl rfl rfl rfl rfl rfl rfl rfl rfl rfl rfl rfl rfl rfl (irs_len _) (irs_al _) rfl rfl rfl ?_ ?_ rfl) ?_
   ·rw [irs_len];show g.sts.length+1≤_;omega
   ·show irs g.sts++[[vi (erows (iE g)).length]]=_;rw [erows_len,iE_len,irs_snoc]
   refine Drv.e ?_
   refine Drv.e ?_
   refine Drv.w (Ndo.store rfl rfl rfl rfl rfl rfl rfl) ?_
   refine Drv.z ?_
   refine AK.sto ⟨[mx g.pts (iE g) g.pt (g.sts++[g.es.length]) g.lps g.ver,[ncells (.mk 29 [] 0 [])],[ncells a]],[(iE g).length,(g.sts++[g.es.length]).length,g.ver]⟩ ?_ (by simp [irs])
   refine AK.hc (τ':=[0,1,2]) [0] [0,1,2] (j_edge0 g.pts (iE g) g.pt (g.sts++[g.es.length]) g.lps g.ver g.pt 0 7 false (by rw [iE_len];omega)) ?_
   refine AK.hc (τ':=[0,1,2]) [0] [0,1,2] (j_point g.pts _ g.pt (g.sts++[g.es.length]) g.lps g.ver (by omega)) ?_
   rw [← iE_stop]
   exact AK.fb Tryz.func219 rfl rfl
 | ifs c l l' hc hl hl' ihl ihl' =>
   intro a g hb
   have b1:=hb.b.pts
   have b2:=hb.b.es
   have b3:=hb.lps
   have b4:=hb.sts
   refine Hands.run Tryz.func219 ?_
   have hwc:wN c<wN (.mk 24 [] 0 [c,.mk 30 [] 0 l,.mk 30 [] 0 l']):=wN_kid (n:=.mk 24 [] 0 [c,.mk 30 [] 0 l,.mk 30 [] 0 l']) (by simp)
   have hws:wN (.mk 24 [] 0 [c,.mk 30 [] 0 l,.mk 30 [] 0 l'])=3+wN c+wL l+wL l':=by simp only [wN,wL,List.length_nil];omega
   rw [gS_if]
   unfold gIf
   refine AK.no ?_
   refine AK.no ?_
   refine AK.no ?_
   refine AK.no ?_
   refine AK.no ?_
   refine AK.no ?_
   refine AK.yes ?_
   refine AK.ix 0 (by omega) (nrows_get (l:=[c,.mk 30 [] 0 l,.mk 30 [] 0 l']) rfl) ?_
   refine AK.hc (τ':=[0,1,2]) [0] [0,1,2] (j_way g g.pt c true (FC_PlO hc) (plainC hc) (by omega) (by omega) (by omega)) ?_
   refine AK.sto (gM3 (gWay g.pt c true g) (.mk 24 [] 0 [c,.mk 30 [] 0 l,.mk 30 [] 0 l']) a) ?_
   have l1:=way_le g.pt c true hb.b.pt
   have c1:Gc (gWay g.pt c true g) (wL l):=hb.step1 l1 (by omega) (by omega)
   have a2:=PSL_le hl nd0 _ c1.b.pt
   refine AK.ix 1 (by omega) (nrows_get (l:=[c,.mk 30 [] 0 l,.mk 30 [] 0 l']) rfl) ?_
   refine AK.hc (τ':=[0,1,2]) [0] [0,1,2] (j_list hl ihl (gWay g.pt c true g) c1) ?_
   refine AK.sto (gM3 (gL l nd0 (gWay g.pt c true g)) (.mk 24 [] 0 [c,.mk 30 [] 0 l,.mk 30 [] 0 l']) a) ?_
   have l12:=l1.trans a2 (Nat.le_refl _)
   generalize gL l nd0 (gWay g.pt c true g)=g2 at *
   have c2:Gc g2 (wL l'+1):=hb.step1 l12 (by simp only [bG];omega) (by simp only [bG];omega)
   have b5:=c2.b.pts
   have b6:=c2.b.es
   refine AK.ix 0 (by omega) (nrows_get (l:=[c,.mk 30 [] 0 l,.mk 30 [] 0 l']) rfl) ?_
   refine AK.hc (τ':=[0,1,2]) [0] [0,1,2] (j_way g2 g.pt c false (FC_PlO hc) (plainC hc) (by omega) (by omega) (by omega)) ?_
   refine AK.sto (gM3 (gWay g.pt c false g2) (.mk 24 [] 0 [c,.mk 30 [] 0 l,.mk 30 [] 0 l']) a) ?_
   have hp2:g.pt<g2.pts:=Nat.lt_of_lt_of_le hb.b.pt l12.pts.1
   have l3:=way_le g.pt c false hp2
   have c3:Gc (gWay g.pt c false g2) (wL l'):=c2.step1 l3 (by omega) (by omega)
   have a4:=PSL_le hl' nd0 _ c3.b.pt
   refine AK.ix 2 (by omega) (nrows_get (l:=[c,.mk 30 [] 0 l,.mk 30 [] 0 l']) rfl) ?_
   refine AK.hc (τ':=[0,1,2]) [0] [0,1,2] (j_list hl' ihl' (gWay g.pt c false g2) c3) ?_
   refine AK.sto (gM3 (gL l' nd0 (gWay g.pt c false g2)) (.mk 24 [] 0 [c,.mk 30 [] 0 l,.mk 30 [] 0 l']) a) ?_
   have l34:=l3.trans a4 (Nat.le_refl _)
   generalize gL l' nd0 (gWay g.pt c false g2)=g4 at *
   have c4:Gc g4 0:=c2.step1 l34 (by simp only [bG];omega) (by simp only [bG];omega)
   have b7:=c4.b.pts
   have b8:=c4.b.es
   refine AK.hc (τ':=[0,1,2]) [0] [0,1,2] (j_point g4.pts (iE g4) g4.pt g4.sts g4.lps g4.ver (by omega)) ?_
   refine AK.sto (mS3 (g4.pts+1) (iE g4) g4.pt g4.sts g4.lps g4.ver (.mk 24 [] 0 [c,.mk 30 [] 0 l,.mk 30 [] 0 l']) a) ?_
   refine AK.hc (τ':=[0,1,2]) [0] [0,1,2] (j_edge0 (g4.pts+1) (iE g4) g4.pt g4.sts g4.lps g4.ver g2.pt g4.pts 6 false (by rw [iE_len];omega)) ?_
   refine AK.sto (mS3 (g4.pts+1) (iE g4++[⟨g2.pt,g4.pts,6,false,nd0⟩]) g4.pt g4.sts g4.lps g4.ver (.mk 24 [] 0 [c,.mk 30 [] 0 l,.mk 30 [] 0 l']) a) ?_
   refine AK.hc (τ':=[0,1,2]) [0] [0,1,2] (j_edge0 (g4.pts+1) (iE g4++[⟨g2.pt,g4.pts,6,false,nd0⟩]) g4.pt g4.sts g4.lps g4.ver g4.pt g4.pts 6 false ?_) ?_
   ·obtain ⟨e1,e2,e3,_⟩:=l34.es
    have:=c2.b.es
    simp only [bG] at e3
    rw [List.length_append,iE_len,e2,List.length_append]
    simp only [List.length_singleton];omega
   rw [← iE_join]
   exact AK.fb Tryz.func219 rfl rfl
 | whil c l hc hl ihl =>
   intro a g hb
   have b1:=hb.b.pts
   have b2:=hb.b.es
   have b3:=hb.lps
   have b4:=hb.sts
   refine Hands.run Tryz.func219 ?_
   have hwc:wN c<wN (.mk 25 [] 0 [c,.mk 30 [] 0 l]):=wN_kid (n:=.mk 25 [] 0 [c,.mk 30 [] 0 l]) (by simp)
   have hws:wN (.mk 25 [] 0 [c,.mk 30 [] 0 l])=2+wN c+wL l:=by simp only [wN,wL,List.length_nil];omega
   have hwn:=wN_eq c
   rw [gS_wh]
   unfold gWh
   refine AK.no ?_
   refine AK.no ?_
   refine AK.no ?_
   refine AK.no ?_
   refine AK.no ?_
   refine AK.no ?_
   refine AK.no ?_
   refine AK.yes ?_
   refine AK.hc (τ':=[0,1,2]) [0] [0,1,2] (j_goOn0 g (by omega) (by omega)) ?_
   refine AK.sto (gM3 (gLeaf 6 nd0 g) (.mk 25 [] 0 [c,.mk 30 [] 0 l]) a) ?_
   refine AK.dr ?_
   refine AK.db 9216 ?_
   refine Drv.w (Ndo.appP (ver:=g.ver) rfl (lrows_sz g.lps) (lrow1_flat ⟨a,(.mk 25 [] 0 [c,.mk 30 [] 0 l]),g.pts,0⟩) ?_ (lrows_snoc g.lps ⟨a,(.mk 25 [] 0 [c,.mk 30 [] 0 l]),g.pts,0⟩) rfl rfl rfl rfl rfl rfl rfl rfl rfl rfl rfl rfl rfl rfl rfl rfl rfl) ?_
   ·rw [lrows_len];simp;omega
   refine Drv.e ?_
   refine Drv.e ?_
   refine Drv.w (Ndo.store rfl rfl rfl rfl rfl rfl rfl) ?_
   refine Drv.z ?_
   have l1:=leaf_le 6 nd0 hb.b.pt
   have l2:=loop_le a (.mk 25 [] 0 [c,.mk 30 [] 0 l]) l1.pt
   have l12:=l1.trans l2 (Nat.le_refl _)
   have c0:Gc (gLoop a (.mk 25 [] 0 [c,.mk 30 [] 0 l]) (gLeaf 6 nd0 g)) (wL l+1):=hb.step1 l12 (by omega) (by omega)
   refine AK.sto (gM3 (gLoop a (.mk 25 [] 0 [c,.mk 30 [] 0 l]) (gLeaf 6 nd0 g)) (.mk 25 [] 0 [c,.mk 30 [] 0 l]) a) ?_
   refine AK.as_ 9 (vi g.pts) ?_
   refine AK.as_ 10 (vi g.lps.length) ?_ (by show lk _ 10=_;rw [← lrows_len];rfl)
   refine AK.ix 0 (by omega) (nrows_get (l:=[c,.mk 30 [] 0 l]) rfl) ?_
   have hh:g.pts<(gLoop a (.mk 25 [] 0 [c,.mk 30 [] 0 l]) (gLeaf 6 nd0 g)).pts:=by simp [gLoop,gLeaf]
   have hlk:(gLoop a (.mk 25 [] 0 [c,.mk 30 [] 0 l]) (gLeaf 6 nd0 g)).lps[g.lps.length]?=some ⟨a,(.mk 25 [] 0 [c,.mk 30 [] 0 l]),g.pts,0⟩:=by simp [gLoop,gLeaf]
   generalize gLoop a (.mk 25 [] 0 [c,.mk 30 [] 0 l]) (gLeaf 6 nd0 g)=g1 at *
   have b5:=c0.b.pts
   have b6:=c0.b.es
   refine AK.hc (τ':=[0,1,2]) [0] [0,1,2] (j_way g1 g.pts c true (FC_PlO hc) (plainC hc) (by omega) (by omega) (by omega)) ?_
   refine AK.sto (gM3 (gWay g.pts c true g1) (.mk 25 [] 0 [c,.mk 30 [] 0 l]) a) ?_
   have l3:=way_le g.pts c true hh
   have c1:Gc (gWay g.pts c true g1) (wL l):=c0.step1 l3 (by omega) (by omega)
   have a2:=PSL_le hl nd0 _ c1.b.pt
   refine AK.ix 1 (by omega) (nrows_get (l:=[c,.mk 30 [] 0 l]) rfl) ?_
   refine AK.hc (τ':=[0,1,2]) [0] [0,1,2] (j_list hl ihl (gWay g.pts c true g1) c1) ?_
   refine AK.sto (gM3 (gL l nd0 (gWay g.pts c true g1)) (.mk 25 [] 0 [c,.mk 30 [] 0 l]) a) ?_
   have l34:=l3.trans a2 (Nat.le_refl _)
   have hh2:=Nat.lt_of_lt_of_le hh l34.pts.1
   obtain ⟨lx,hlx,_⟩:=l34.lps
   have hlk2:(gL l nd0 (gWay g.pts c true g1)).lps[g.lps.length]?=some ⟨a,(.mk 25 [] 0 [c,.mk 30 [] 0 l]),g.pts,0⟩:=by rw [hlx,List.getElem?_append_left (lt_of_get hlk)];exact hlk
   generalize gL l nd0 (gWay g.pts c true g1)=g2 at *
   have c2:Gc g2 0:=c0.step1 l34 (by simp only [bG];omega) (by simp only [bG];omega)
   have b7:=c2.b.pts
   have b8:=c2.b.es
   have b9:g2.es.length+1≤1000000000:=by
    obtain ⟨e1,e2,e3,_⟩:=l34.es
    have:=c0.b.es
    simp only [bG] at e3
    rw [e2,List.length_append];omega
   refine AK.hc (τ':=[0,1,2]) [0] [0,1,2] (j_edge0 g2.pts (iE g2) g2.pt g2.sts g2.lps g2.ver g2.pt g.pts 6 false (by rw [iE_len];omega)) ?_
   rw [← iE_back]
   refine AK.sto (gM3 (gBack g.pts g2) (.mk 25 [] 0 [c,.mk 30 [] 0 l]) a) ?_
   refine AK.ix 0 (by omega) (nrows_get (l:=[c,.mk 30 [] 0 l]) rfl) ?_
   refine AK.hc (τ':=[0,1,2]) [0] [0,1,2] (j_way (gBack g.pts g2) g.pts c false (FC_PlO hc) (plainC hc) (by omega) (by show g2.pts≤_;omega) (by simp only [gBack,gEdge];rw [List.length_append];simp;omega)) ?_
   refine AK.sto (gM3 (gWay g.pts c false (gBack g.pts g2)) (.mk 25 [] 0 [c,.mk 30 [] 0 l]) a) ?_
   have hlk3:(gWay g.pts c false (gBack g.pts g2)).lps[g.lps.length]?=some ⟨a,(.mk 25 [] 0 [c,.mk 30 [] 0 l]),g.pts,0⟩:=hlk2
   generalize gWay g.pts c false (gBack g.pts g2)=g3 at *
   have hll:g.lps.length<(lrows g3.lps).length:=by rw [lrows_len];exact lt_of_get hlk3
   have hlr:=lrows_get hlk3
   have hmod:=modify_at hlk3 fun l=>{ l with x:=g3.pt }
   refine AK.db 2048 ?_
   refine Drv.lo (Ndo.ixP (n:=g.lps.length) hll rfl (lrows_sz _) rfl rfl rfl rfl rfl rfl rfl rfl) ?_
   refine Drv.e ?_
   refine Drv.w (Ndo.stP (b:=0) (r:=0) (g:=4) (xs:=[vi g3.pt]) (bx:=[mx g3.pts (iE g3) g3.pt g3.sts (g3.lps.modify g.lps.length fun l=>{ l with x:=g3.pt }) (g3.ver+1),[ncells (.mk 25 [] 0 [c,.mk 30 [] 0 l])],[ncells a]]) (tk':=[(iE g3).length,g3.sts.length,g3.ver+1])
    rfl hlr (by show 9+1≤10;omega) (fun z hz=>by simp at hz;subst hz;exact .val _) rfl rfl rfl ?_ rfl rfl rfl rfl rfl rfl rfl rfl rfl) ?_
   ·show [[[vi g3.pts,.psl (erows (iE g3)) 0 (iE g3).length,vi g3.pt,.sl (irs g3.sts) (.tok 1),.psl ((lrows g3.lps).set g.lps.length ((lrow ⟨a,(.mk 25 [] 0 [c,.mk 30 [] 0 l]),g.pts,0⟩).take 9++[vi g3.pt]++(lrow ⟨a,(.mk 25 [] 0 [c,.mk 30 [] 0 l]),g.pts,0⟩).drop (9+[vi g3.pt].length))) 2 (g3.ver+1)]],[ncells (.mk 25 [] 0 [c,.mk 30 [] 0 l])],[ncells a]]=_
    rw [lrow_set,lrows_set,hmod]
   refine Drv.z ?_
   exact AK.fb Tryz.func219 rfl rfl
def stI (k:Nat):List Eg→List Nat
 | []=>[]
 | e::l=>if e.t<0 then k::stI (k+1) l else stI (k+1) l
theorem stI_app:∀ (l l':List Eg)(k:Nat),stI k (l++l')=stI k l++stI (k+l.length) l'
 | [],l',k=>by simp [stI]
 | e::l,l',k=>by
   simp only [List.cons_append,stI,List.length_cons]
   rw [stI_app l l' (k+1),show k+1+l.length=k+(l.length+1) by omega]
   split<;>simp
theorem stI_none {l:List Eg}(h:∀ e,e∈l→0≤e.t)(k:Nat):stI k l=[]:=by
 induction l generalizing k with
 | nil=>rfl
 | cons e l ih =>
   have:=h e (by simp)
   simp only [stI];rw [if_neg (by omega)]
   exact ih (fun x hx=>h x (by simp [hx])) (k+1)
theorem stI_lt:∀ (l:List Eg)(k i:Nat),i∈stI k l→i<k+l.length
 | [],k,i,h=>by simp [stI] at h
 | e::l,k,i,h=>by
   simp only [stI] at h
   simp only [List.length_cons]
   split at h
   ·rcases List.mem_cons.1 h with rfl | h
    ·omega
    ·have:=stI_lt l (k+1) i h;omega
   ·have:=stI_lt l (k+1) i h;omega
theorem stI_len:∀ (l:List Eg)(k:Nat),(stI k l).length≤l.length
 | [],k=>by simp [stI]
 | e::l,k=>by
   simp only [stI,List.length_cons]
   have:=stI_len l (k+1)
   split<;>simp<;>omega
def SI (g:Gr):Prop:=g.sts=stI 0 g.es
theorem SI_add {g g':Gr}(h:SI g)(l:List Eg)(he:g'.es=g.es++l)(hl:∀ e,e∈l→0≤e.t)(hs:g'.sts=g.sts):SI g':=by
 unfold SI at h ⊢
 rw [he,hs,h,stI_app,stI_none hl];simp
theorem SI_leaf {g:Gr}(k:Int)(n:Nd)(h:SI g):SI (gLeaf k n g):=SI_add h _ rfl (fun e he=>by simp at he;subst he;simp) rfl
theorem SI_way {g:Gr}(p:Nat)(c:Nd)(y:Bool)(h:SI g):SI (gWay p c y g):=SI_add h _ rfl (fun e he=>by simp at he;subst he;simp) rfl
theorem SI_back {g:Gr}(p:Nat)(h:SI g):SI (gBack p g):=SI_add h _ rfl (fun e he=>by simp at he;subst he;simp) rfl
theorem SI_join {g:Gr}(p:Nat)(h:SI g):SI (gJoin p g):=SI_add h [⟨p,g.pts,6,false,nd0⟩,⟨g.pt,g.pts,6,false,nd0⟩] (by simp [gJoin,gEdge]) (fun e he=>by simp at he;rcases he with rfl | rfl<;>simp) rfl
theorem SI_stop {g:Gr}(h:SI g):SI (gStop g):=by
 unfold SI at h ⊢
 simp only [gStop]
 rw [h,stI_app]
 simp [stI]
theorem SI_loop {g:Gr}(a n:Nd)(h:SI g):SI (gLoop a n g):=h
theorem SI_exit {g:Gr}(i:Nat)(h:SI g):SI (gExit i g):=h
theorem SI_L {l:List Nd}(h:∀ x,x∈l→∀ (a:Nd)(g:Gr),SI g→SI (gS x a g)):∀ (a:Nd)(g:Gr),SI g→SI (gL l a g):=by
 induction l with
 | nil=>intro a g hg;exact hg
 | cons x l ih=>intro a g hg;rw [gL_cons];exact ih (fun y hy=>h y (by simp [hy])) x _ (h x (by simp) a g hg)
theorem PS_SI {n:Nd}(h:PS n):∀ (a:Nd)(g:Gr),SI g→SI (gS n a g):=by
 induction h with
 | set s b h hb=>intro a g hg;rw [gS_set];exact SI_leaf _ _ hg
 | put s b c h hb hc=>intro a g hg;rw [gS_put];exact SI_leaf _ _ hg
 | read s h=>intro a g hg;rw [gS_read];exact SI_leaf _ _ hg
 | ifs c l l' hc hl hl' ihl ihl'=>intro a g hg;rw [gS_if];unfold gIf;exact SI_join _ (SI_L ihl' _ _ (SI_way _ _ _ (SI_L ihl _ _ (SI_way _ _ _ hg))))
 | whil c l hc hl ihl=>intro a g hg;rw [gS_wh];unfold gWh;exact SI_exit _ (SI_way _ _ _ (SI_back _ (SI_L ihl _ _ (SI_way _ _ _ (SI_loop _ _ (SI_leaf 6 nd0 hg))))))
 | check c hc=>intro a g hg;rw [gS_check];exact SI_leaf _ _ hg
 | skip=>intro a g hg;rw [gS_skip];exact SI_leaf _ _ hg
 | stop=>intro a g hg;rw [gS_stop];exact SI_stop hg
def setTo (x:Int):List Eg→List Nat→List Eg
 | l,[]=>l
 | l,i::s=>setTo x (l.modify i fun e=>{ e with t:=x }) s
theorem setTo_snoc (x:Int):∀ (l:List Eg)(s:List Nat)(i:Nat),setTo x l (s++[i])=(setTo x l s).modify i fun e=>{ e with t:=x }
 | l,[],i=>rfl
 | l,j::s,i=>setTo_snoc x _ s i
theorem setTo_len (x:Int):∀ (l:List Eg)(s:List Nat),(setTo x l s).length=l.length
 | l,[]=>rfl
 | l,j::s=>by simp only [setTo];rw [setTo_len];simp
theorem setTo_all (x:Int):∀ (l pre:List Eg),setTo x (pre++l.map (toExit 0)) (stI pre.length l)=pre++l.map (toExit x)
 | [],pre=>by simp [stI,setTo]
 | e::l,pre=>by
   simp only [stI,List.map_cons]
   have ih:=setTo_all x l (pre++[toExit x e])
   have e1:(pre++[toExit x e]).length=pre.length+1:=by simp
   rw [e1] at ih
   split
   ·rename_i ht
    simp only [setTo]
    rw [modify_app]
    have:(toExit 0 e::l.map (toExit 0)).modify 0 (fun e=>{ e with t:=x })=toExit x e::l.map (toExit 0):=by simp [toExit,ht]
    rw [this]
    simpa using ih
   ·rename_i ht
    have:toExit 0 e=toExit x e:=by simp [toExit,ht]
    rw [this]
    simpa using ih
theorem erow_setT (e:Eg)(x:Int):(erow e).take 1++[vi x]++(erow e).drop (1+[vi x].length)=erow { e with t:=x }:=by simp [erow]
theorem modify_atE {l:List Eg}{i:Nat}{e:Eg}(h:l[i]?=some e)(f:Eg→Eg):l.modify i f=l.set i (f e):=by
 apply List.ext_getElem?
 intro j
 rw [List.getElem?_modify,List.getElem?_set]
 by_cases hj:i=j
 ·subst hj;rw [h];simp [lt_of_get h]
 ·simp [hj]
abbrev madeC (l:List Nd):List AV:=[vi (gAll l).pts,.sl (erows (gEs l)) .no,vi (gAll l).pt,.sl (irs (gAll l).sts) .no,.sl (lrows (gAll l).lps) .no]
theorem j_made (P:Nd)(hne:P.kids≠[])(hps:∀ x,x∈(lastN P).kids→PS x)(hw:wL (lastN P).kids≤10000000)(hk:P.kids.length≤1000000000) :
 Pure X 145 [nd P] (.cptr (madeC (lastN P).kids)):=by
 show Pure X 145 [nd P] (.cptr [vi (gAll (lastN P).kids).pts,.sl (erows ((gAll (lastN P).kids).es.map (toExit (gAll (lastN P).kids).pt))) .no,vi (gAll (lastN P).kids).pt,.sl (irs (gAll (lastN P).kids).sts) .no,.sl (lrows (gAll (lastN P).kids).lps) .no])
 refine Pure.run Tryz.func145 ?_
 refine AK.mintP (bx:=[[ncells P],[[vi 1,.psl [] 0 0,vi 0,.sl [] .tight,.sl [] .tight]]]) (tk:=[0]) 1 0 1 ?_
 refine AK.mintB (bx:=[[ncells P],[[vi 1,.psl [] 0 0,vi 0,.sl [] (.tok 1),.sl [] .tight]]]) (tk:=[0,0]) 1 0 3 rfl rfl rfl rfl rfl rfl ?_
 refine AK.mintP (bx:=[[ncells P],mx 1 (iE ⟨1,0,[],[],[],0⟩) 0 [] [] 0]) (tk:=[0,0,0]) 1 0 4 ?_
 refine AK.as_ 3 (.ptr 1 0 0) ?_
 refine AK.as_ 9 (.ptr 1 0 0) ?_
 have c0:Gc ⟨1,0,[],[],[],0⟩ (wL (lastN P).kids):=⟨⟨by decide,by show 1+_≤_;omega,by show 0+_≤_;omega⟩,by show 0+_≤_;omega,by show 0+_≤_;omega⟩
 have l0:=PSL_le hps nd0 _ c0.b.pt
 have s0:SI (gL (lastN P).kids nd0 ⟨1,0,[],[],[],0⟩):=SI_L (fun x hx=>PS_SI (hps x hx)) _ _ rfl
 refine AK.pc (q_body P hne hk) ?_
 refine AK.hc (τ':=[0,1,2]) [1] [0,1,2] (j_list hps (fun x hx=>j_stmt (hps x hx)) _ c0) ?_
 have c1:Gc (gL (lastN P).kids nd0 ⟨1,0,[],[],[],0⟩) 0:=c0.step1 l0 (by simp only [bG];omega) (by simp only [bG];omega)
 have hA:gAll (lastN P).kids=gLeaf 6 nd0 (gL (lastN P).kids nd0 ⟨1,0,[],[],[],0⟩):=rfl
 rw [hA]
 generalize gL (lastN P).kids nd0 ⟨1,0,[],[],[],0⟩=g at *
 have b1:=c1.b.pts
 have b2:=c1.b.es
 refine AK.sto ⟨[[ncells P],mx g.pts (iE g) g.pt g.sts g.lps g.ver],[(iE g).length,g.sts.length,g.ver]⟩ ?_
 refine AK.hc (τ':=[0,1,2]) [1] [0,1,2] (j_goOn0 g (by omega) (by omega)) ?_
 have s1:SI (gLeaf 6 nd0 g):=SI_leaf 6 nd0 s0
 have b3:(gLeaf 6 nd0 g).es.length≤1000000001:=by simp [gLeaf];omega
 generalize gLeaf 6 nd0 g=h at *
 have hst:setTo h.pt (iE h) h.sts=h.es.map (toExit h.pt):=by
  rw [s1];exact setTo_all h.pt h.es []
 have hsl:h.sts.length≤h.es.length:=by rw [s1];exact stI_len _ _
 have hslt:∀ i,i∈h.sts→i<(iE h).length:=fun i hi=>by
  rw [s1] at hi
  have:=stI_lt _ _ _ hi
  rw [iE_len];omega
 refine AK.sto ⟨[[ncells P],[[vi h.pts,.psl (erows (setTo h.pt (iE h) (h.sts.take 0))) 0 ((iE h).length+0),vi h.pt,.sl (irs h.sts) (.tok 1),.psl (lrows h.lps) 2 h.ver]]],[(iE h).length+0,h.sts.length,h.ver]⟩ ?_
 refine AK.while_ (ι:=Nat) 2 3 (fun i=>i≤h.sts.length) (fun i=>[(22,vi i),(21,vi h.sts.length),(20,.sl (irs h.sts) (.tok 1)),(3,.ptr 1 0 0)])
  (fun i=>⟨[[ncells P],[[vi h.pts,.psl (erows (setTo h.pt (iE h) (h.sts.take i))) 0 ((iE h).length+i),vi h.pt,.sl (irs h.sts) (.tok 1),.psl (lrows h.lps) 2 h.ver]]],[(iE h).length+i,h.sts.length,h.ver]⟩) (fun i=>h.sts.length-i) ?_ 0
  (Nat.zero_le _) ⟨rfl,by rw [← irs_len h.sts];rfl,rfl,rfl,trivial⟩ rfl rfl rfl rfl rfl (fun _=>inferInstance) (fun _=>inferInstance)
 intro i hi IH
 refine AK.ev 100 rfl ?_
 refine AK.if_ (fun h2=>?_) (fun h2=>?_)
 ·have hlt:i<h.sts.length:=by have:=of_decide_eq_true h2;omega
  obtain ⟨k,hk⟩:=lget_of_lt h.sts hlt
  have hkl:=hslt k (List.mem_of_getElem? hk)
  have hgk:(irs h.sts)[i]?=some [vi k]:=by simp [irs,hk]
  have hkr:k<(erows (setTo h.pt (iE h) (h.sts.take i))).length:=by rw [erows_len,setTo_len];exact hkl
  obtain ⟨e,he⟩:=lget_of_lt (setTo h.pt (iE h) (h.sts.take i)) (i:=k) (by rw [setTo_len];exact hkl)
  have hrow:=erows_get he
  have hsn:setTo h.pt (iE h) (h.sts.take (i+1))=(setTo h.pt (iE h) (h.sts.take i)).modify k fun e=>{ e with t:=h.pt }:=by
   rw [List.take_add_one,hk];exact setTo_snoc _ _ _ _
  refine AK.ix i (by omega) hgk ?_
  refine AK.db 4096 ?_
  refine Drv.lo (Ndo.ixP (n:=k) hkr rfl (erows_sz _) rfl rfl rfl rfl rfl rfl rfl rfl) ?_
  refine Drv.e ?_
  refine Drv.w (Ndo.stP (b:=1) (r:=0) (g:=1) (xs:=[vi h.pt]) (bx:=[[ncells P],[[vi h.pts,.psl (erows (setTo h.pt (iE h) (h.sts.take (i+1)))) 0 ((iE h).length+(i+1)),vi h.pt,.sl (irs h.sts) (.tok 1),.psl (lrows h.lps) 2 h.ver]]]) (tk':=[(iE h).length+(i+1),h.sts.length,h.ver])
   rfl hrow (by show 1+1≤8;omega) (fun z hz=>by simp at hz;subst hz;exact .val _) rfl rfl rfl ?_ rfl rfl rfl rfl rfl rfl rfl rfl rfl) ?_
  ·show [[ncells P],[[vi h.pts,.psl ((erows (setTo h.pt (iE h) (h.sts.take i))).set k ((erow e).take 1++[vi h.pt]++(erow e).drop (1+[vi h.pt].length))) 0 ((iE h).length+i+1),vi h.pt,.sl (irs h.sts) (.tok 1),.psl (lrows h.lps) 2 h.ver]]]=_
   rw [erow_setT,erows_set,hsn,modify_atE he];rfl
  refine Drv.z ?_
  exact IH (i+1) hlt (by omega) _ _ ⟨vint ((wrap_small (by omega) (by omega)).trans (by omega)),rfl,rfl,rfl,trivial⟩ rfl rfl rfl
 ·have:i=h.sts.length:=by have:=of_decide_eq_false h2;omega
  subst this
  rw [List.take_length,hst]
  exact AK.rz Tryz.func145 rfl
theorem j_graphOf (P:Nd)(hne:P.kids≠[])(hps:∀ x,x∈(lastN P).kids→PS x)(hw:wL (lastN P).kids≤10000000)(hk:P.kids.length≤1000000000) :
 Pure X 82 [nd P] (.agg [vi (gAll (lastN P).kids).pts,.sl (erows (gEs (lastN P).kids)) .no]):=by
 refine Pure.run Tryz.func82 ?_
 refine AK.pc (j_made P hne hps hw hk) ?_
 exact AK.rz Tryz.func82 rfl
end Go.V
namespace Go.V
open Go
section
variable {X:Cx}{E:Env}{S:St}{w:World}{F:Frm}{N:Nat}{ops:Array Oper}{i:Nat}{o:Oper}{p q:Operand}
theorem Ndo.mkS {t e n b:Nat}{ik ik':IntKind}{y ye:Ty}{bx:List (List (List AV))}(hn:n≤1000000000)(hb:S.boxes.length=b)(hbx:S.boxes++[List.replicate n ye.zero]=bx)(ho:ops[i]?=some o)(hw:wantA ops F o=some true)(hop:o.op=.makeSlice t p q)
 (hp:opr X F p=some (.val (.int ik n)))(hq:opr X F q=some (.val (.int ik' n)))(hy:X.ty t=some y)(hk:y.k=.slc e)(hye:X.ty e=some ye):Ndo X N ops i o F (.bsl b n) S ⟨bx,S.toks⟩:=by
 subst hbx;subst hb
 intro F' E w a hl hI hF
 have hlo:=looks_of hl
 rw [hop] at hlo
 have r1:=opr_sound hI hF ((opr_congr (X:=X) (F:=F) (F':=F') (o:=p) fun s hs=>hlo s (by simp [Op.operands,hs])).trans hp)
 have r2:=opr_sound hI hF ((opr_congr (X:=X) (F:=F) (F':=F') (o:=q) fun s hs=>hlo s (by simp [Op.operands,hs])).trans hq)
 cases hh1:a.eval p<;>rw [hh1] at r1<;>cases r1
 cases hh2:a.eval q<;>rw [hh2] at r2<;>cases r2
 obtain ⟨d,hd,hdd⟩:=(X.ty_ok t y hy).agg
 simp only [hk] at hdd
 obtain ⟨rfl,ye',hye',hne⟩:=hdd
 rw [hye] at hye';cases hye'
 obtain ⟨z,hz,hzc,hzl,i',hi,hiz,his,hib⟩:=zero_run hye w
 have hzs:z.cells.size=ye.size:=by rw [← hzl,← hzc];simp
 have hbn:i'.bytes*n≤1024*n:=Nat.mul_le_mul_right _ hib
 have hrun:=run_make (P:=X.P) w t e i' z hd hi hiz ik ik' (n:Int) (n:Int) (by omega) (Int.le_refl _) (by
  have:((i'.bytes*n:Nat):Int)≤281474976710656:=by omega
  rwa [Int.natCast_mul] at this) (by omega)
 simp only [Int.toNat_natCast] at hrun
 have hg0:Grid E w ye.size (madeCells z.cells (n*i'.size)) (List.replicate n ye.zero):=by
  refine grid_zero hzc hzl _ (by rw [size_madeCells,his]) (fun j hj=>?_)
  have hm:j % ye.size<z.cells.size:=by rw [hzs];exact Nat.mod_lt _ (Nat.pos_of_ne_zero hne)
  unfold madeCells
  rw [his]
  have hr0:(Array.range (n*ye.size))[j]?=some j:=by simp [hj]
  rw [Array.getElem?_map,hr0]
  simp only [Option.map_some]
  rw [hzs,getElem!_pos z.cells (j % ye.size) hm,Array.getElem?_eq_getElem hm]
 obtain ⟨ev,hI'⟩:=hI.newBox (w':=w.alloc (.cells (madeCells z.cells (n*i'.size)) e)) (cs:=madeCells z.cells (n*i'.size)) (e:=e) (sz:=ye.size) (rows:=List.replicate n ye.zero) rfl rfl rfl rfl hg0.1 hg0.2.1 hg0.2.2
 refine Does.val ho (wanted_of hF (by rw [wantA_congr hl];exact hw)) (v:=.slice (some ⟨w.heap.size,0,none⟩) n n) (by simp [execOp,hop,hh1,hh2,hrun]) (.inl rfl) ⟨_,hI',ev,?_⟩
 exact .bsl S.boxes.length w.heap.size ye.size n n (by rw [← hI.nb];exact getElem?_snoc_new _ _) (Nat.le_refl _)
end
end Go.V
namespace Go.V
open Go Go.Proofs
def zrs (l:List Int):List (List AV):=l.map fun m=>[vi m]
theorem zrs_len (l:List Int):(zrs l).length=l.length:=by simp [zrs]
theorem zrs_al (l:List Int):allLen 1 (zrs l)=true:=allLen_map (f:=fun (i:Int)=>[vi i]) (fun _=>rfl) l
theorem zrs_get {l:List Int}{i:Nat}{m:Int}(h:l[i]?=some m):(zrs l)[i]?=some [vi m]:=by simp [zrs,h]
instance {n m:Nat}{l:List Int}:OKR n m (zrs l):=⟨fun r hr x hx=>by obtain ⟨e,_,rfl⟩:=List.mem_map.1 hr;simp at hx;subst hx;exact .val _⟩
def sizesT (n:Nd):List Int:=(declK n 32).map Nd.num
theorem declS_K (n:Nd)(k:Int):declS n k=(declK n k).map Nd.name:=rfl
theorem declK_le (n:Nd)(k:Int):(declK n k).length≤n.kids.length:=by
 unfold declK
 exact Nat.le_trans (List.length_filter_le _ _) (by simp)
theorem q_namesOf (n:Nd)(k:Int)(hne:n.kids≠[])(hl:n.kids.length≤1000000000):Pure X 106 [nd n,vi k] (.sl (strR (declS n k)) .no):=by
 have hdl:=declK_le n k
 rw [declS_K]
 refine Pure.run Tryz.func106 ?_
 refine AK.pc (q_declared n k hne hl) ?_
 generalize declK n k=ds at *
 refine AK.mint (d:=5) rfl rfl rfl ?_
 refine AK.while_ (ι:=Nat) 1 1 (fun i=>i≤ds.length) (fun i=>[(13,vi i),(12,vi ds.length),(11,.sl (nrows ds) .no),(5,.sl (strR ((ds.take i).map Nd.name)) (.tok 0))]) (fun i=>⟨[[ncells n]],[i]⟩) (fun i=>ds.length-i) ?_ 0
  (Nat.zero_le _) ⟨rfl,by rw [← nrows_len ds];rfl,rfl,rfl,trivial⟩ rfl rfl rfl rfl rfl (fun _=>inferInstance) (fun _=>inferInstance)
 intro i hi IH
 have htl:(strR ((ds.take i).map Nd.name)).length=i:=by rw [strR_len];simp;omega
 refine AK.ev 100 rfl ?_
 refine AK.if_ (fun h=>?_) (fun h=>?_)
 ·have hlt:i<ds.length:=by have:=of_decide_eq_true h;omega
  obtain ⟨x,hx⟩:=lget_of_lt ds hlt
  refine AK.ix i (by omega) (nrows_get hx) ?_
  refine AK.op (Ndo.append (res:=strR ((ds.take (i+1)).map Nd.name)) rfl rfl rfl rfl rfl rfl rfl rfl rfl rfl rfl rfl rfl rfl htl (strR_al _) rfl rfl rfl ?_ ?_ rfl) ?_
  ·rw [htl];simp;omega
  ·rw [List.take_add_one,hx];simp [strR]
  refine IH (i+1) hlt (by omega) _ _ ⟨vint ((wrap_small (by omega) (by omega)).trans (by omega)),rfl,rfl,rfl,trivial⟩ ?_ rfl rfl
  show St.mk [[ncells n]] [_+1]=St.mk [[ncells n]] [i+1]
  rw [htl]
 ·have:i=ds.length:=by have:=of_decide_eq_false h;omega
  subst this
  rw [List.take_length]
  exact AK.rz Tryz.func106 rfl
theorem q_sizesOf (n:Nd)(hne:n.kids≠[])(hl:n.kids.length≤1000000000):Pure X 107 [nd n] (.sl (zrs (sizesT n)) .no):=by
 have hdl:=declK_le n 32
 unfold sizesT
 refine Pure.run Tryz.func107 ?_
 refine AK.pc (q_declared n 32 hne hl) ?_
 generalize declK n 32=ds at *
 refine AK.mint (d:=3) rfl rfl rfl ?_
 refine AK.while_ (ι:=Nat) 1 1 (fun i=>i≤ds.length) (fun i=>[(10,vi i),(9,vi ds.length),(8,.sl (nrows ds) .no),(3,.sl (zrs ((ds.take i).map Nd.num)) (.tok 0))]) (fun i=>⟨[[ncells n]],[i]⟩) (fun i=>ds.length-i) ?_ 0
  (Nat.zero_le _) ⟨rfl,by rw [← nrows_len ds];rfl,rfl,rfl,trivial⟩ rfl rfl rfl rfl rfl (fun _=>inferInstance) (fun _=>inferInstance)
 intro i hi IH
 have htl:(zrs ((ds.take i).map Nd.num)).length=i:=by rw [zrs_len];simp;omega
 refine AK.ev 100 rfl ?_
 refine AK.if_ (fun h=>?_) (fun h=>?_)
 ·have hlt:i<ds.length:=by have:=of_decide_eq_true h;omega
  obtain ⟨x,hx⟩:=lget_of_lt ds hlt
  refine AK.ix i (by omega) (nrows_get hx) ?_
  refine AK.op (Ndo.append (res:=zrs ((ds.take (i+1)).map Nd.num)) rfl rfl rfl rfl rfl rfl rfl rfl rfl rfl rfl rfl rfl rfl htl (zrs_al _) rfl rfl rfl ?_ ?_ rfl) ?_
  ·rw [htl];simp;omega
  ·rw [List.take_add_one,hx];simp [zrs]
  refine IH (i+1) hlt (by omega) _ _ ⟨vint ((wrap_small (by omega) (by omega)).trans (by omega)),rfl,rfl,rfl,trivial⟩ ?_ rfl rfl
  show St.mk [[ncells n]] [_+1]=St.mk [[ncells n]] [i+1]
  rw [htl]
 ·have:i=ds.length:=by have:=of_decide_eq_false h;omega
  subst this
  rw [List.take_length]
  exact AK.rz Tryz.func107 rfl
theorem p_sizes (n:Nd)(hn:wN n≤1000000000):Pure X 101 [nd n] (.sl (zrs (sizesT n)) .no):=by
 let sz (l:List Nd):List Int:=(l.filter fun x=>x.kind==32).map Nd.num
 have szle:∀ l:List Nd,(sz l).length≤l.length:=fun l=>by simp only [sz,List.length_map];exact List.length_filter_le _ _
 refine Pure.run Tryz.func101 ?_
 have hkl:=kids_le_w n
 have hw:IntKind.i64.wrap ((nrows n.kids).length-1:Int)=n.kids.length-1:=by rw [nrows_len];exact wrap_small (by omega) (by omega)
 refine AK.mint (d:=3) rfl rfl rfl ?_
 refine AK.while_ (ι:=Nat) 1 1 (fun i=>i≤n.kids.length-1) (fun i=>[(4,vi i),(3,.sl (zrs (sz (n.kids.take i))) (.tok 0)),(1,.ptr 0 0 0)]) (fun i=>⟨[[ncells n]],[(sz (n.kids.take i)).length]⟩) (fun i=>n.kids.length-i) ?_ 0
  (Nat.zero_le _) ⟨rfl,rfl,rfl,trivial⟩ rfl rfl rfl rfl rfl (fun _=>inferInstance) (fun _=>inferInstance)
 intro i hi IH
 refine AK.ev 100 rfl ?_
 refine AK.if_ (fun h=>?_) (fun h=>?_)
 ·have hlt:i<n.kids.length-1:=by have:=of_decide_eq_true h;rw [hw] at this;omega
  obtain ⟨x,hx⟩:=lget_of_lt n.kids (i:=i) (by omega)
  have hle:=szle (n.kids.take i)
  have htl:(n.kids.take i).length=i:=by simp;omega
  refine AK.ix i (by omega) (nrows_get hx) ?_
  refine AK.if_ (fun h2=>?_) (fun h2=>?_)
  ·have h2':(x.kind==32)=true:=h2
   have hs:sz (n.kids.take (i+1))=sz (n.kids.take i)++[x.num]:=by simp [sz,List.take_add_one,hx,List.filter_append,List.filter_cons,h2']
   refine AK.ix i (by omega) (nrows_get hx) ?_
   refine AK.op (Ndo.append (res:=zrs (sz (n.kids.take i)++[x.num])) rfl rfl rfl rfl rfl rfl rfl rfl rfl rfl rfl rfl rfl rfl (zrs_len _) (zrs_al _) rfl rfl rfl ?_ ?_ rfl) ?_
   ·rw [zrs_len];simp;omega
   ·simp [zrs]
   refine IH (i+1) (by omega) (by omega) _ _ ⟨vint ((wrap_small (by omega) (by omega)).trans (by omega)),?_,rfl,trivial⟩ ?_ rfl rfl
   ·rw [hs];rfl
   ·rw [hs];simp [St.drop,zrs_len]
  ·have h2':(x.kind==32)=false:=h2
   have hs:sz (n.kids.take (i+1))=sz (n.kids.take i):=by simp [sz,List.take_add_one,hx,List.filter_append,List.filter_cons,h2']
   refine IH (i+1) (by omega) (by omega) _ _ ⟨vint ((wrap_small (by omega) (by omega)).trans (by omega)),?_,rfl,trivial⟩ ?_ rfl rfl
   ·rw [hs];rfl
   ·rw [hs];rfl
 ·have:i=n.kids.length-1:=by have:=of_decide_eq_false h;rw [hw] at this;omega
  refine AK.rz Tryz.func101 ?_
  rw [this,sizesT,declK,List.dropLast_eq_take]
end Go.V
namespace Go.V
open Go
section
variable {X:Cx}{B:Bx}{E:Env}{S:St}{w:World}{F:Frm}{a:Act}{N:Nat}{R:AE→St→Prop}
def DrvP (X:Cx)(N:Nat)(ops:Array Oper)(ix:Nat→Nat)(bp:Nat→Nat→Bool)(em:Nat→Bool):List Oper→Nat→Frm→St→List St→List Pend→(Frm→St→Prop)→Prop
 | [],_,F,S,_,_,K=>K F S
 | o::os,i,F,S,Hs,pend,K =>
   (∃ x,dstOk N o.dst=true∧(∀ S',Ndo X N ops (ix i) o F x S' S')∧DrvP X N ops ix bp em os (i+1) (putF o.dst x F) S Hs pend K) ∨
   (∃ x,dstOk N o.dst=true∧(∀ S',S'∈Hs→Ndo X N ops (ix i) o F x S' S')∧DrvP X N ops ix bp em os (i+1) (putF o.dst x F) S Hs ((i,o,F,x)::pend) K) ∨
   (∃ x S' pend',em i=true∧dstOk N o.dst=true∧Ndo X N ops (ix i) o F x S S'∧pend.filter (fun p=>!bp p.1 i)=pend'∧(∀ p,p∈pend'→Ndo X N ops (ix p.1) p.2.1 p.2.2.1 p.2.2.2 S' S') ∧
     DrvP X N ops ix bp em os (i+1) (putF o.dst x F) S' (S'::Hs) pend' K)
structure DDataP (X:Cx)(N:Nat)(ops:Array Oper)(ix:Nat→Nat)(bp:Nat→Nat→Bool)(em:Nat→Bool)(i n:Nat)(eff:Nat→Bool)(x:Nat→AV)(FF:Nat→Frm)(SS:Nat→St)(Hs:List St)(pend:List Pend):Prop where
 step:∀ j,i≤j→j<n→∀ o,ops[ix j]?=some o→FF (j+1)=putF o.dst (x j) (FF j)∧dstOk N o.dst=true
 eff0:∀ j,i≤j→j<n→eff j=false→SS (j+1)=SS j
 eff1:∀ j,i≤j→j<n→eff j=true→∀ o,ops[ix j]?=some o→em j=true∧Ndo X N ops (ix j) o (FF j) (x j) (SS j) (SS (j+1))
 was:∀ j,i≤j→j<n→eff j=false→∀ o,ops[ix j]?=some o→∀ S',S'∈Hs→Ndo X N ops (ix j) o (FF j) (x j) S' S'
 will:∀ j,i≤j→j<n→eff j=false→∀ o,ops[ix j]?=some o→∀ p,i≤p→p≤n→(∀ e,j≤e→e<p→eff e=true→bp j e=false)→Ndo X N ops (ix j) o (FF j) (x j) (SS p) (SS p)
 pend:∀ q,q∈pend→∀ p,i≤p→p≤n→(∀ e,i≤e→e<p→eff e=true→bp q.1 e=false)→Ndo X N ops (ix q.1) q.2.1 q.2.2.1 q.2.2.2 (SS p) (SS p)
theorem DrvP.data {ops:Array Oper}{ix:Nat→Nat}{bp:Nat→Nat→Bool}{em:Nat→Bool}:∀ (os:List Oper)(i:Nat)(F:Frm)(S:St)(Hs:List St)(pend:List Pend)(K:Frm→St→Prop),
 DrvP X N ops ix bp em os i F S Hs pend K→(∀ k,k<os.length→ops[ix (i+k)]?=os[k]?)→S∈Hs→(∀ q,q∈pend→Ndo X N ops (ix q.1) q.2.1 q.2.2.1 q.2.2.2 S S) →
 ∃ eff x FF SS,FF i=F∧SS i=S∧K (FF (i+os.length)) (SS (i+os.length))∧DDataP X N ops ix bp em i (i+os.length) eff x FF SS Hs pend
 | [],i,F,S,Hs,pend,K,h,_,hS,hp=>by
   refine ⟨fun _=>false,fun _=>.junk,fun _=>F,fun _=>S,rfl,rfl,h,?_⟩
   exact { step:=fun j h1 h2=>by simp at h2;omega
           eff0:=fun j h1 h2=>by simp at h2;omega
           eff1:=fun j h1 h2=>by simp at h2;omega
           was:=fun j h1 h2=>by simp at h2;omega
           will:=fun j h1 h2=>by simp at h2;omega
           pend:=fun q hq p _ _ _=>hp q hq }
 | o::os,i,F,S,Hs,pend,K,h,hops,hS,hp=>by
   have ho:ops[ix i]?=some o:=by have:=hops 0 (by simp);simpa using this
   have hops':∀ k,k<os.length→ops[ix (i+1+k)]?=os[k]?:=fun k hk=>by
    have:=hops (k+1) (by simp;omega)
    rw [show i+1+k=i+(k+1) by omega]
    simpa using this
   have hlen:i+(o::os).length=i+1+os.length:=by simp;omega
   rw [hlen]
   simp only [DrvP] at h
   have upd:∀ {β:Type} (f:Nat→β) (v:β) (j:Nat),(fun j=>if j=i then v else f j) j=if j=i then v else f j:=fun _ _ _=>rfl
   rcases h with ⟨x,hd,hn,hk⟩ | ⟨x,hd,hn,hk⟩ | ⟨x,S',pend',he,hd,hn,hpf,hpn,hk⟩
   ·obtain ⟨eff,xs,FF,SS,h1,h2,h3,D⟩:=DrvP.data os (i+1) _ S Hs pend K hk hops' hS hp
    refine ⟨fun j=>if j=i then false else eff j,fun j=>if j=i then x else xs j,fun j=>if j=i then F else FF j,fun j=>if j=i then S else SS j,by simp,by simp,?_,?_⟩
    ·have:¬ (i+1+os.length=i):=by omega
     simpa [this] using h3
    ·refine ⟨fun j a b o' ho'=>?_,fun j a b c=>?_,fun j a b c o' ho'=>?_,fun j a b c o' ho' S' hS'=>?_,fun j a b c o' ho' p hp1 hp2 hpe=>?_,fun q hq p hp1 hp2 hpe=>?_⟩
     ·by_cases hj:j=i
      ·subst hj;rw [ho] at ho';cases ho'
       simp [h1,hd]
      ·have h4:¬ (j+1=i):=by omega
       simp only [hj,h4,if_false]
       exact D.step j (by omega) b o' ho'
     ·by_cases hj:j=i
      ·subst hj;simp [h2]
      ·have h4:¬ (j+1=i):=by omega
       simp only [hj,h4,if_false] at c ⊢
       exact D.eff0 j (by omega) b c
     ·by_cases hj:j=i
      ·subst hj;simp at c
      ·have h4:¬ (j+1=i):=by omega
       simp only [hj,h4,if_false] at c ⊢
       exact D.eff1 j (by omega) b c o' ho'
     ·by_cases hj:j=i
      ·subst hj;rw [ho] at ho';cases ho';simp only [if_true];exact hn S'
      ·simp only [hj,if_false] at c ⊢
       exact D.was j (by omega) b c o' ho' S' hS'
     ·by_cases hj:j=i
      ·subst hj;rw [ho] at ho';cases ho';simp only [if_true];exact hn _
      ·simp only [hj,if_false] at c ⊢
       by_cases hpi:p=i
       ·subst hpi;simp only [if_true];exact D.was j (by omega) b c o' ho' S hS
       ·simp only [hpi,if_false]
        refine D.will j (by omega) b c o' ho' p (by omega) hp2 (fun e e1 e2 e3=>hpe e e1 e2 ?_)
        have:¬ (e=i):=by omega
        simpa [this] using e3
     ·by_cases hpi:p=i
      ·subst hpi;simp only [if_true];exact hp q hq
      ·simp only [hpi,if_false]
       refine D.pend q hq p (by omega) hp2 (fun e e1 e2 e3=>hpe e (by omega) e2 ?_)
       have:¬ (e=i):=by omega
       simpa [this] using e3
   ·obtain ⟨eff,xs,FF,SS,h1,h2,h3,D⟩:=DrvP.data os (i+1) _ S Hs ((i,o,F,x)::pend) K hk hops' hS (fun q hq=>by
     rcases List.mem_cons.1 hq with rfl | hq
     ·exact hn S hS
     ·exact hp q hq)
    refine ⟨fun j=>if j=i then false else eff j,fun j=>if j=i then x else xs j,fun j=>if j=i then F else FF j,fun j=>if j=i then S else SS j,by simp,by simp,?_,?_⟩
    ·have:¬ (i+1+os.length=i):=by omega
     simpa [this] using h3
    ·refine ⟨fun j a b o' ho'=>?_,fun j a b c=>?_,fun j a b c o' ho'=>?_,fun j a b c o' ho' S' hS'=>?_,fun j a b c o' ho' p hp1 hp2 hpe=>?_,fun q hq p hp1 hp2 hpe=>?_⟩
     ·by_cases hj:j=i
      ·subst hj;rw [ho] at ho';cases ho'
       simp [h1,hd]
      ·have h4:¬ (j+1=i):=by omega
       simp only [hj,h4,if_false]
       exact D.step j (by omega) b o' ho'
     ·by_cases hj:j=i
      ·subst hj;simp [h2]
      ·have h4:¬ (j+1=i):=by omega
       simp only [hj,h4,if_false] at c ⊢
       exact D.eff0 j (by omega) b c
     ·by_cases hj:j=i
      ·subst hj;simp at c
      ·have h4:¬ (j+1=i):=by omega
       simp only [hj,h4,if_false] at c ⊢
       exact D.eff1 j (by omega) b c o' ho'
     ·by_cases hj:j=i
      ·subst hj;rw [ho] at ho';cases ho';simp only [if_true];exact hn S' hS'
      ·simp only [hj,if_false] at c ⊢
       exact D.was j (by omega) b c o' ho' S' hS'
     ·by_cases hpi:p=i
      ·subst hpi
       simp only [if_true]
       by_cases hj:j=p
       ·subst hj;rw [ho] at ho';cases ho';simp only [if_true];exact hn S hS
       ·simp only [hj,if_false] at c ⊢;exact D.was j (by omega) b c o' ho' S hS
      ·simp only [hpi,if_false]
       by_cases hj:j=i
       ·subst hj;rw [ho] at ho';cases ho';simp only [if_true]
        refine D.pend (j,o,F,x) (by simp) p (by omega) hp2 (fun e e1 e2 e3=>hpe e (by omega) e2 ?_)
        have:¬ (e=j):=by omega
        simpa [this] using e3
       ·simp only [hj,if_false] at c ⊢
        refine D.will j (by omega) b c o' ho' p (by omega) hp2 (fun e e1 e2 e3=>hpe e e1 e2 ?_)
        have:¬ (e=i):=by omega
        simpa [this] using e3
     ·by_cases hpi:p=i
      ·subst hpi;simp only [if_true];exact hp q hq
      ·simp only [hpi,if_false]
       refine D.pend q (by simp [hq]) p (by omega) hp2 (fun e e1 e2 e3=>hpe e (by omega) e2 ?_)
       have:¬ (e=i):=by omega
       simpa [this] using e3
   ·obtain ⟨eff,xs,FF,SS,h1,h2,h3,D⟩:=DrvP.data os (i+1) _ S' (S'::Hs) pend' K hk hops' (by simp) hpn
    refine ⟨fun j=>if j=i then true else eff j,fun j=>if j=i then x else xs j,fun j=>if j=i then F else FF j,fun j=>if j=i then S else SS j,by simp,by simp,?_,?_⟩
    ·have:¬ (i+1+os.length=i):=by omega
     simpa [this] using h3
    ·refine ⟨fun j a b o' ho'=>?_,fun j a b c=>?_,fun j a b c o' ho'=>?_,fun j a b c o' ho' S' hS'=>?_,fun j a b c o' ho' p hp1 hp2 hpe=>?_,fun q hq p hp1 hp2 hpe=>?_⟩
     ·by_cases hj:j=i
      ·subst hj;rw [ho] at ho';cases ho'
       simp [h1,hd]
      ·have h4:¬ (j+1=i):=by omega
       simp only [hj,h4,if_false]
       exact D.step j (by omega) b o' ho'
     ·by_cases hj:j=i
      ·subst hj;simp at c
      ·have h4:¬ (j+1=i):=by omega
       simp only [hj,h4,if_false] at c ⊢
       exact D.eff0 j (by omega) b c
     ·by_cases hj:j=i
      ·subst hj;rw [ho] at ho';cases ho'
       simp [h2,he];exact hn
      ·have h4:¬ (j+1=i):=by omega
       simp only [hj,h4,if_false] at c ⊢
       exact D.eff1 j (by omega) b c o' ho'
     ·by_cases hj:j=i
      ·subst hj;simp at c
      ·simp only [hj,if_false] at c ⊢
       exact D.was j (by omega) b c o' ho' S' (by simp [hS'])
     ·by_cases hj:j=i
      ·subst hj;simp at c
      ·simp only [hj,if_false] at c ⊢
       by_cases hpi:p=i
       ·subst hpi;simp only [if_true];exact D.was j (by omega) b c o' ho' S (by simp [hS])
       ·simp only [hpi,if_false]
        refine D.will j (by omega) b c o' ho' p (by omega) hp2 (fun e e1 e2 e3=>hpe e e1 e2 ?_)
        have:¬ (e=i):=by omega
        simpa [this] using e3
     ·by_cases hpi:p=i
      ·subst hpi;simp only [if_true];exact hp q hq
      ·simp only [hpi,if_false]
       have hb:bp q.1 i=false:=hpe i (Nat.le_refl _) (by omega) (by simp)
       refine D.pend q (by rw [← hpf];exact List.mem_filter.2 ⟨hq,by simp [hb]⟩) p (by omega) hp2 (fun e e1 e2 e3=>hpe e (by omega) e2 ?_)
       have:¬ (e=i):=by omega
       simpa [this] using e3
def FDP (ops:Array Oper)(ix:Nat→Nat)(x:Nat→AV)(listed:Nat→Bool)(F:Frm):Nat→Frm
 | 0=>F
 | j+1=>match listed j with
   | true=>match ops[ix j]? with
     | some o=>putF o.dst (x j) (FDP ops ix x listed F j)
     | none=>FDP ops ix x listed F j
   | false=>FDP ops ix x listed F j
theorem lkFDP_none {ops:Array Oper}{ix:Nat→Nat}{x:Nat→AV}{listed:Nat→Bool}{t:Nat}:∀ n,(∀ j,j<n→listed j=true→∀ o,ops[ix j]?=some o→o.dst≠some t)→lk (FDP ops ix x listed F n) t=lk F t
 | 0,_=>rfl
 | n+1,h=>by
   have ih:lk (FDP ops ix x listed F n) t=lk F t:=lkFDP_none n (fun j hj=>h j (by omega))
   simp only [FDP]
   split
   ·rename_i hl
    split
    ·rename_i o ho
     rw [lk_putF,if_neg (h n (by omega) hl o ho),ih]
    ·exact ih
   ·exact ih
theorem lkFDP_some {ops:Array Oper}{ix:Nat→Nat}{x:Nat→AV}{listed:Nat→Bool}{t j:Nat}{o:Oper}(ho:ops[ix j]?=some o)(hd:o.dst=some t)(hl:listed j=true) :
 ∀ n,j<n→(∀ (j':Nat) (o':Oper),j'<n→j≠j'→ops[ix j']?=some o'→o'.dst≠some t)→lk (FDP ops ix x listed F n) t=some (x j)
 | 0,h,_=>by omega
 | n+1,h,hu=>by
   simp only [FDP]
   by_cases hj:j=n
   ·subst hj
    simp only [hl,ho]
    rw [lk_putF,if_pos hd]
   ·have ih:lk (FDP ops ix x listed F n) t=some (x j):=lkFDP_some ho hd hl n (by omega) (fun j' o' h'=>hu j' o' (by omega))
    split
    ·split
     ·rename_i o' ho'
      rw [lk_putF,if_neg (hu n o' (by omega) hj ho'),ih]
     ·exact ih
    ·exact ih
structure DrawOkP (ops:Array Oper)(ix:Nat→Nat)(n:Nat)(bp:Nat→Nat→Bool)(em:Nat→Bool):Prop where
 at_:∀ j,j<n→∃ o,ops[ix j]?=some o
 looks:∀ (i j:Nat) (oi oj:Oper),i<n→j<n→ops[ix i]?=some oi→ops[ix j]?=some oj→∀ t,oj.dst=some t→t∈oi.looksAt ops→(j<i∧bp j i=true)∨(i<j∧bp i j=true)
 dsts:∀ (i j:Nat) (oi oj:Oper),i<n→j<n→ops[ix i]?=some oi→ops[ix j]?=some oj→i≠j→∀ t,oi.dst=some t→oj.dst≠some t
 effs:∀ (i j:Nat),i<j→j<n→em i=true→em j=true→bp i j=true
def OrdP (bp:Nat→Nat→Bool)(n:Nat):List Nat→(Nat→Bool)→Prop
 | [],listed=>∀ j,j<n→listed j=true
 | i::l,listed=>i<n∧listed i=false∧(∀ e,e<n→bp e i=true→listed e=true)∧OrdP bp n l (fun j=>if i=j then true else listed j)
def CloP (bp:Nat→Nat→Bool)(n:Nat)(listed:Nat→Bool):Prop:=∀ j e,j<n→e<n→listed j=true→bp e j=true→listed e=true
theorem CloP.put {bp:Nat→Nat→Bool}{n i:Nat}{listed:Nat→Bool}(h:CloP bp n listed)(hb:∀ e,e<n→bp e i=true→listed e=true):CloP bp n (fun j=>if i=j then true else listed j):=fun j e hj he hl hb'=>by
 by_cases h1:i=e
 ·simp [h1]
 ·simp only [h1,if_false]
  by_cases h2:i=j
  ·subst h2;exact hb e he hb'
  ·simp only [h2,if_false] at hl;exact h j e hj he hl hb'
theorem draw_goP {ops:Array Oper}{ix:Nat→Nat}{n:Nat}{bp:Nat→Nat→Bool}{em:Nat→Bool}(dk:DrawOkP ops ix n bp em){eff:Nat→Bool}{x:Nat→AV}{FF:Nat→Frm}{SS:Nat→St}{Hs:List St}{pend:List Pend}
 (D:DDataP X N ops ix bp em 0 n eff x FF SS Hs pend)(hF0:FF 0=F)(k:List Item):∀ (l:List Nat)(listed:Nat→Bool)(a:Act)(w:World)(E:Env)(p:Nat),
 OrdP bp n l listed→CloP bp n listed→p≤n→(∀ e,e<n→eff e=true→(listed e=true↔e<p)) →
 Inv X E (SS p) w→FR E w (FDP ops ix x listed F n) a N→∀ (b:Frame) (cs:List Frame),
  ∃ E' w' a',Steps X.P (lone (b.at a (.inRegion ops (l.map ix)::k)) cs w) (lone (b.at a' k) cs w')∧Inv X E' (SS n) w' ∧
   FR E' w' (FF n) a' N∧Evol E w E' w' E.boxes.length E.toks.length:=by
 have hFF:∀ m,m≤n→FF m=FDP ops ix x (fun _=>true) F m:=by
  intro m
  induction m with
  | zero=>intro _;exact hF0
  | succ m ih =>
    intro hn
    obtain ⟨o,ho⟩:=dk.at_ m (by omega)
    rw [(D.step m (Nat.zero_le _) (by omega) _ ho).1,ih (by omega)]
    simp [FDP,ho]
 have hSS:∀ p q,p≤q→q≤n→(∀ e,p≤e→e<q→eff e=false)→SS q=SS p:=by
  intro p q hpq
  induction q with
  | zero=>intro _ _;rw [show p=0 by omega]
  | succ q ih =>
    intro hq he
    by_cases h:p=q+1
    ·rw [h]
    ·rw [D.eff0 q (Nat.zero_le _) (by omega) (he q (by omega) (by omega))]
     exact ih (by omega) (by omega) (fun e h1 h2=>he e h1 (by omega))
 intro l
 induction l with
 | nil =>
   intro listed a w E p hall hc hp hpe hI hF b cs
   refine ⟨E,w,a,.one step_region_end,?_,?_,Evol.refl _ _ _ _⟩
   ·rw [hSS p n hp (Nat.le_refl _) fun e h1 h2=>by
     cases he:eff e with
     | false=>rfl
     | true=>have:=(hpe e h2 he).1 (hall e h2);omega]
    exact hI
   ·rw [hFF _ (Nat.le_refl _)]
    have:FDP ops ix x listed F n=FDP ops ix x (fun _=>true) F n:=by
     have:∀ m,m≤n→FDP ops ix x listed F m=FDP ops ix x (fun _=>true) F m:=by
      intro m
      induction m with
      | zero=>intro _;rfl
      | succ m ih=>intro hn;simp only [FDP,hall m (by omega),ih (by omega)]
     exact this _ (Nat.le_refl _)
    rw [← this];exact hF
 | cons i l ih =>
   intro listed a w E p hord hc hp hpe hI hF b cs
   obtain ⟨hin,hilf,rbit,hrest⟩:=hord
   obtain ⟨o,ho⟩:=dk.at_ i hin
   simp only [List.map_cons]
   have notbit:∀ e,e<n→listed e=true→bp i e=false:=fun e he hl=>by
    cases hb:bp i e with
    | false=>rfl
    | true=>have:=hc e i he hin hl hb;rw [hilf] at this;cases this
   have hagree:∀ t,t∈o.looksAt ops→lk (FDP ops ix x listed F n) t=lk (FF i) t:=fun t ht=>by
    rw [hFF i (by omega)]
    by_cases hw:∃ (j:Nat) (oj:Oper),j<n∧ops[ix j]?=some oj∧oj.dst=some t
    ·obtain ⟨j,oj,hjn,hj,hd⟩:=hw
     have hu:∀ (j':Nat) (o':Oper),j'<n→j≠j'→ops[ix j']?=some o'→o'.dst≠some t:=fun j' o' hjn' hne ho'=>dk.dsts j j' oj o' hjn hjn' hj ho' hne t hd
     rcases dk.looks i j o oj hin hjn ho hj t hd ht with ⟨h1,h2⟩ | ⟨h1,h2⟩
     ·rw [lkFDP_some (listed:=listed) hj hd (rbit j hjn h2) n hjn (fun j' o' hj'=>hu j' o' hj'),lkFDP_some (listed:=fun _=>true) hj hd rfl i h1 (fun j' o' hj'=>hu j' o' (by omega))]
     ·have hjl:listed j=false:=by
       cases hl:listed j with
       | false=>rfl
       | true=>have:=notbit j hjn hl;rw [h2] at this;cases this
      rw [lkFDP_none n fun j' hj' hl' o' ho' hc'=>by
       by_cases hjj:j=j'
       ·subst hjj;rw [hjl] at hl';cases hl'
       ·exact hu j' o' hj' hjj ho' hc',
       lkFDP_none i fun j' hj' _ o' ho' hc'=>by
        by_cases hjj:j=j'
        ·omega
        ·exact hu j' o' (by omega) hjj ho' hc']
    ·rw [lkFDP_none n fun j' hj' _ o' ho' hc'=>hw ⟨j',o',hj',ho',hc'⟩,lkFDP_none i fun j' hj' _ o' ho' hc'=>hw ⟨j',o',by omega,ho',hc'⟩]
   have hcl':=hc.put rbit
   have hlk':∀ t,lk (FDP ops ix x (fun j=>if i=j then true else listed j) F n) t=lk (putF o.dst (x i) (FDP ops ix x listed F n)) t:=fun t=>by
    rw [lk_putF]
    by_cases hd:o.dst=some t
    ·rw [if_pos hd]
     exact lkFDP_some ho hd (by simp) n hin (fun j' o' hj' hne ho'=>dk.dsts i j' o o' hin hj' ho ho' hne t hd)
    ·rw [if_neg hd]
     have:∀ m,lk (FDP ops ix x (fun j=>if i=j then true else listed j) F m) t=lk (FDP ops ix x listed F m) t:=by
      intro m
      induction m with
      | zero=>rfl
      | succ m ihn =>
        simp only [FDP]
        by_cases hn:i=m
        ·subst hn
         simp only [if_true,hilf,ho]
         rw [lk_putF,if_neg hd,ihn]
        ·simp only [hn,if_false]
         split
         ·split
          ·rw [lk_putF,lk_putF,ihn]
          ·exact ihn
         ·exact ihn
     exact this _
   have next:∀ (p':Nat),p'≤n→(∀ e,e<n→eff e=true→((if i=e then true else listed e)=true↔e<p'))→Ndo X N ops (ix i) o (FF i) (x i) (SS p) (SS p') →
    ∃ E' w' a',Steps X.P (lone (b.at a (.inRegion ops (ix i::l.map ix)::k)) cs w) (lone (b.at a' k) cs w') ∧
     Inv X E' (SS n) w'∧FR E' w' (FF n) a' N∧Evol E w E' w' E.boxes.length E.toks.length:=fun p' hp' hpe' hn=>by
    obtain ⟨v,w1,⟨E1,h1,h2,h3⟩,h4⟩:=hn _ E w a hagree hI hF b k cs (l.map ix)
    rw [ho] at h4
    have hd:=(D.step i (Nat.zero_le _) hin o ho).2
    have hF1:FR E1 w1 (FDP ops ix x (fun j=>if i=j then true else listed j) F n) (a.put o.dst v) N:=by
     have:=(hF.step h2).putF hd h3
     exact ⟨this.size,this.nod,fun q y hq=>this.rel q y (by rw [← hlk' q];exact hq)⟩
    obtain ⟨E',w',a',k1,k2,k3,k4⟩:=ih _ _ w1 E1 p' hrest hcl' hp' hpe' h1 hF1 b cs
    have hlen:=h2.len
    exact ⟨E',w',a',h4.trans k1,k2,k3,h2.trans (k4.weaken hlen.1 hlen.2)⟩
   cases he:eff i with
   | false =>
     refine next p hp (fun e hen hee=>?_) ?_
     ·by_cases hie:i=e
      ·subst hie;rw [he] at hee;cases hee
      ·rw [if_neg hie];exact hpe e hen hee
     ·exact D.will i (Nat.zero_le _) hin he o ho p (Nat.zero_le _) hp (fun e h1 h2 h3=>notbit e (by omega) ((hpe e (by omega) h3).2 h2))
   | true =>
     obtain ⟨es,hn⟩:=D.eff1 i (Nat.zero_le _) hin he o ho
     have hpi:p≤i:=by
      rcases Nat.lt_or_ge i p with h | h
      ·have:=(hpe i hin he).2 h;rw [hilf] at this;cases this
      ·exact h
     have before:∀ e,e<i→eff e=true→listed e=true:=fun e hei hee=>by
      obtain ⟨oe,hoe⟩:=dk.at_ e (by omega)
      exact rbit e (by omega) (dk.effs e i hei hin (D.eff1 e (Nat.zero_le _) (by omega) hee _ hoe).1 es)
     have hSp:SS i=SS p:=hSS p i hpi (by omega) (fun e h1 h2=>by
      cases hee:eff e with
      | false=>rfl
      | true=>have:=(hpe e (by omega) hee).1 (before e h2 hee);omega)
     refine next (i+1) (by omega) (fun e hen hee=>?_) (by rw [← hSp];exact hn)
     by_cases hie:i=e
     ·subst hie;simp
     ·rw [if_neg hie]
      constructor
      ·intro hl
       rcases Nat.lt_or_ge e (i+1) with h | h
       ·exact h
       ·obtain ⟨oe,hoe⟩:=dk.at_ e hen
        have:=dk.effs i e (by omega) hen es (D.eff1 e (Nat.zero_le _) hen hee _ hoe).1
        have h2:=notbit e hen hl
        rw [this] at h2;cases h2
      ·intro hlt
       exact before e (by omega) hee
end
def AB (a b:Nat):List Nat→(Nat→Bool)→Prop
 | [],_=>True
 | i::l,listed=>(i=b→listed a=true)∧AB a b l (fun j=>if i=j then true else listed j)
theorem AB_done {a b:Nat}:∀ (l:List Nat)(listed:Nat→Bool),listed a=true→AB a b l listed
 | [],_,_=>trivial
 | i::l,listed,h=>⟨fun _=>h,AB_done l _ (by simp [h])⟩
theorem AB_or {a b:Nat}(hne:a≠b):∀ (l:List Nat)(listed:Nat→Bool),AB a b l listed∨AB b a l listed
 | [],_=>.inl trivial
 | i::l,listed=>by
   by_cases ha:i=a
   ·subst ha
    exact .inl ⟨fun h=>absurd h hne,AB_done l _ (by simp)⟩
   ·by_cases hb:i=b
    ·subst hb
     exact .inr ⟨fun h=>absurd h.symm hne,AB_done l _ (by simp)⟩
    ·rcases AB_or hne l (fun j=>if i=j then true else listed j) with h | h
     ·exact .inl ⟨fun h'=>absurd h' hb,h⟩
     ·exact .inr ⟨fun h'=>absurd h' ha,h⟩
theorem AB_of {bp:Nat→Nat→Bool}{n a b c:Nat}(hb:b<n)(hbc:bp b c=true):∀ (l:List Nat)(listed:Nat→Bool),OrdP bp n l listed→AB a b l listed→(listed b=true→listed a=true)→AB a c l listed
 | [],_,_,_,_=>trivial
 | i::l,listed,⟨_,_,g3,g4⟩,⟨h1,h2⟩,h3=>⟨fun hi=>h3 (g3 b hb (by rw [hi];exact hbc)),AB_of hb hbc l _ g4 h2 (fun hl=>by
    by_cases hib:i=b
    ·by_cases hia:i=a
     ·simp [hia]
     ·simp [hia,h1 hib]
    ·simp only [hib,if_false] at hl
     by_cases hia:i=a
     ·simp [hia]
     ·simp [hia,h3 hl])⟩
theorem OrdP.congr {bp:Nat→Nat→Bool}{n:Nat}:∀ (l:List Nat){f g:Nat→Bool},(∀ p,p<n→f p=g p)→OrdP bp n l f→OrdP bp n l g
 | [],f,g,h,ho=>fun j hj=>by rw [← h j hj];exact ho j hj
 | i::l,f,g,h,⟨g1,g2,g3,g4⟩=>⟨g1,by rw [← h i g1];exact g2,fun e he hb=>by rw [← h e he];exact g3 e he hb,OrdP.congr l (fun p hp=>by
    by_cases hi:i=p
    ·simp [hi]
    ·simp [hi,h p hp]) g4⟩
theorem OrdP.map {bp:Nat→Nat→Bool}{n:Nat}{σ ix:Nat→Nat}(h1:∀ i,i<n→σ i<n∧ix (σ i)=i)(h2:∀ p,p<n→ix p<n∧σ (ix p)=p){asm:List (Nat × Nat)}:∀ (l:List Nat)(listed:Nat→Bool),OrdP bp n l listed →
 (∀ ab,ab∈asm→AB ab.1 ab.2 l listed)→OrdP (fun q p=>bp (ix q) (ix p)||asm.contains (ix q,ix p)) n (l.map σ) (fun p=>listed (ix p))∧(l.map σ).map ix=l
 | [],listed,h,_=>⟨fun j hj=>h _ (h2 j hj).1,rfl⟩
 | i::l,listed,h,ha=>by
   obtain ⟨g1,g2,g3,g4⟩:=h
   obtain ⟨k1,k2⟩:=h1 i g1
   have ih:=OrdP.map h1 h2 l _ g4 (fun ab hab=>(ha ab hab).2)
   refine ⟨⟨k1,by simp only [k2];exact g2,fun e he hb=>?_,OrdP.congr _ (fun p hp=>?_) ih.1⟩,by simp only [List.map_cons,k2,ih.2]⟩
   ·simp only [k2,Bool.or_eq_true] at hb
    rcases hb with hb | hb
    ·exact g3 _ (h2 e he).1 hb
    ·have hm:=List.contains_iff_mem.1 hb
     exact (ha _ hm).1 rfl
   ·by_cases hi:i=ix p
    ·have:σ i=p:=by rw [hi];exact (h2 p hp).2
     simp only [this,if_true,if_pos hi]
    ·have hs:¬ σ i=p:=fun h=>hi (by rw [← h];exact k2.symm)
     simp [hi,hs]
theorem lin_ord {ops:Array Oper}{bs:List Nat}(hb:bitsOk ops bs=true):∀ (fuel t:Nat)(listed:Array Bool),listed.size=ops.size→Closed ops listed→cntU listed ops.size≤fuel →
 OrdP (bitOf bs) ops.size (Region.linearise.go .any ops fuel t listed []) (fun j=>listed.getD j false):=by
 have fin:∀ (listed:Array Bool),(∀ j,j<ops.size→listed.getD j false=true)→OrdP (bitOf bs) ops.size [] (fun j=>listed.getD j false):=fun _ h=>h
 intro fuel
 induction fuel with
 | zero =>
   intro t listed hs hc hcnt
   refine fin listed fun j hj=>?_
   cases hl:listed.getD j false with
   | true=>rfl
   | false =>
     have:j∈(List.range ops.size).filter fun j=>!listed.getD j false:=List.mem_filter.2 ⟨List.mem_range.2 hj,by simp only [hl];rfl⟩
     unfold cntU at hcnt
     have:=List.length_pos_of_mem this
     omega
 | succ fuel ih =>
   intro t listed hs hc hcnt
   simp only [Region.linearise.go]
   change OrdP (bitOf bs) ops.size (match (Region.ready .any ops listed)[t % (Region.ready .any ops listed).length]? with
    | some i=>Region.linearise.go .any ops fuel (t / (Region.ready .any ops listed).length) (listed.setIfInBounds i true) [i]
    | none=>[].reverse) _
   cases hi:(Region.ready .any ops listed)[t % (Region.ready .any ops listed).length]? with
   | none =>
     have hnil:Region.ready .any ops listed=[]:=by
      cases hr:Region.ready .any ops listed with
      | nil=>rfl
      | cons y ys =>
        rw [hr] at hi
        have hlt:t % (y::ys).length<(y::ys).length:=Nat.mod_lt _ (by simp)
        simp at hi
        simp at hlt
        omega
     exact fin listed (all_listed hb hs hnil)
   | some i =>
     obtain ⟨hin,hil,o,ho,hafter⟩:=mem_ready (List.mem_of_getElem? hi)
     have hilf:listed.getD i false=false:=by
      have:i<listed.size:=by omega
      simp [Array.getD,this] at hil ⊢;exact hil
     simp only []
     rw [linearise_go_acc,List.reverse_singleton,List.singleton_append]
     have rbit:∀ e,e<ops.size→bitOf bs e i=true→listed.getD e false=true:=fun e he hbit=>by
      have hk:=List.all_eq_true.1 hb i (List.mem_range.2 hin)
      rw [ho] at hk
      simp only [Bool.and_eq_true,beq_iff_eq] at hk
      unfold bitOf at hbit
      rw [hk.1] at hbit
      rcases bits_fold bs e _ 0 hbit with h | ⟨e',he',hbe,h⟩
      ·simp at h
      ·have hl':=hafter e' he' hbe
       rcases h with rfl | h
       ·exact hl'
       ·have:e'.on<ops.size:=by
         have h2:=List.all_eq_true.1 hk.2 e' he'
         simp only [hbe,Bool.not_true,Bool.or_false] at h2
         have:e'.on<i:=by simpa [Nat.blt_eq] using h2
         omega
        exact hc.bit hb e'.on e this hl' h
     have hcl':Closed ops (listed.setIfInBounds i true):=fun j oj hj hoj e he hb=>by
      rw [getD_set (by omega)] at hj ⊢
      by_cases hie:i=e.on
      ·rw [if_pos hie]
      ·rw [if_neg hie]
       by_cases hij:i=j
       ·subst hij;rw [ho] at hoj;cases hoj;exact hafter e he hb
       ·rw [if_neg hij] at hj;exact hc j oj hj hoj e he hb
     have hcu:=cntU_set hin hs hilf
     refine ⟨hin,hilf,rbit,OrdP.congr _ (fun p _=>?_) (ih _ (listed.setIfInBounds i true) (by simp [hs]) hcl' (by omega))⟩
     rw [getD_set (by omega)]
def bpP (bs:List Nat)(π:List Nat)(asm:List (Nat × Nat))(q p:Nat):Bool:=bitOf bs (π.getD q 0) (π.getD p 0)||asm.contains (π.getD q 0,π.getD p 0)
def okP (ops:Array Oper)(bs π:List Nat)(asm:List (Nat × Nat))(em:Nat):Bool :=
 ((List.range ops.size).all fun i=>Nat.blt (π.idxOf i) ops.size&&π.getD (π.idxOf i) 0==i) &&
 ((List.range ops.size).all fun p=>Nat.blt (π.getD p 0) ops.size&&π.idxOf (π.getD p 0)==p) &&
 (List.range ops.size).all fun i=>match ops[π.getD i 0]? with
   | none=>false
   | some oi=>(List.range ops.size).all fun j=>match ops[π.getD j 0]? with
     | none=>false
     | some oj =>
       (match oj.dst with
         | some t=>!(oi.looksAt ops).contains t||(Nat.blt j i&&bpP bs π asm j i)||(Nat.blt i j&&bpP bs π asm i j)
         | none=>true) &&
       (i==j||(match oi.dst with
         | some t=>oj.dst != some t
         | none=>true)) &&
       (Nat.ble j i||!(em.testBit (π.getD i 0)&&em.testBit (π.getD j 0))||bpP bs π asm i j)
theorem okP_spec {ops:Array Oper}{bs π:List Nat}{asm:List (Nat × Nat)}{em:Nat}(h:okP ops bs π asm em=true) :
 (∀ i,i<ops.size→π.idxOf i<ops.size∧π.getD (π.idxOf i) 0=i)∧(∀ p,p<ops.size→π.getD p 0<ops.size∧π.idxOf (π.getD p 0)=p) ∧
 DrawOkP ops (π.getD · 0) ops.size (bpP bs π asm) (fun j=>em.testBit (π.getD j 0)):=by
 unfold okP at h
 rw [Bool.and_eq_true,Bool.and_eq_true] at h
 obtain ⟨⟨h1,h2⟩,h3⟩:=h
 have key:∀ (i j:Nat) (oi oj:Oper),i<ops.size→j<ops.size→ops[π.getD i 0]?=some oi→ops[π.getD j 0]?=some oj →
  ((match oj.dst with
     | some t=>!(oi.looksAt ops).contains t||(Nat.blt j i&&bpP bs π asm j i)||(Nat.blt i j&&bpP bs π asm i j)
     | none=>true) &&
    (i==j||(match oi.dst with
      | some t=>oj.dst != some t
      | none=>true)) &&
    (Nat.ble j i||!(em.testBit (π.getD i 0)&&em.testBit (π.getD j 0))||bpP bs π asm i j))=true:=fun i j oi oj li lj hi hj=>by
  have a1:=List.all_eq_true.1 h3 i (List.mem_range.2 li)
  rw [hi] at a1
  have a2:=List.all_eq_true.1 a1 j (List.mem_range.2 lj)
  rw [hj] at a2
  exact a2
 have at_:∀ j,j<ops.size→∃ o,ops[π.getD j 0]?=some o:=fun j hj=>by
  have a1:=List.all_eq_true.1 h3 j (List.mem_range.2 hj)
  cases ho:ops[π.getD j 0]? with
  | none=>rw [ho] at a1;cases a1
  | some o=>exact ⟨o,rfl⟩
 refine ⟨fun i hi=>?_,fun p hp=>?_,at_,fun i j oi oj li lj hi hj t ht hm=>?_,fun i j oi oj li lj hi hj hne t ht hc=>?_,fun i j hij lj e1 e2=>?_⟩
 ·have:=List.all_eq_true.1 h1 i (List.mem_range.2 hi)
  simpa [Nat.blt_eq] using this
 ·have:=List.all_eq_true.1 h2 p (List.mem_range.2 hp)
  simpa [Nat.blt_eq] using this
 ·have:=key i j oi oj li lj hi hj
  simp only [Bool.and_eq_true,ht,Bool.or_eq_true,Bool.not_eq_true',Nat.blt_eq] at this
  rcases this.1.1 with (h | h) | h
  ·have hc:(oi.looksAt ops).contains t=true:=List.contains_iff_mem.2 hm
   rw [hc] at h;cases h
  ·exact .inl h
  ·exact .inr h
 ·have:=key i j oi oj li lj hi hj
  simp only [Bool.and_eq_true,ht,Bool.or_eq_true] at this
  rcases this.1.2 with h' | h'
  ·simp at h';exact hne h'
  ·rw [hc] at h';simp at h'
 ·obtain ⟨oi,hi⟩:=at_ i (by omega)
  obtain ⟨oj,hj⟩:=at_ j lj
  have:=key i j oi oj (by omega) lj hi hj
  simp only [Bool.and_eq_true,Bool.or_eq_true,e1,e2] at this
  rcases this.2 with (h' | h') | h'
  ·have:=Nat.le_of_ble_eq_true h';omega
  ·simp at h'
  ·exact h'
section
variable {X:Cx}{B:Bx}{E:Env}{S:St}{w:World}{F:Frm}{a:Act}{N:Nat}{R:AE→St→Prop}
def Way (X:Cx)(N:Nat)(ops:Array Oper)(F:Frm)(S:St)(K:Frm→St→Prop)(l:List Nat):Prop :=
 ∃ (π:List Nat) (asm:List (Nat × Nat)) (em:Nat) (os:List Oper),(∀ ab,ab∈asm→AB ab.1 ab.2 l fun _=>false)∧okP ops (mkBits ops.toList []) π asm em=true∧os.length=ops.size ∧
  (π.map fun i=>ops[i]?)=os.map some∧DrvP X N ops (π.getD · 0) (bpP (mkBits ops.toList []) π asm) (fun j=>em.testBit (π.getD j 0)) os 0 F S [S] [] K
theorem Way.mk {ops:Array Oper}{K:Frm→St→Prop}{l:List Nat}(π:List Nat)(asm:List (Nat × Nat))(em:Nat){os:List Oper}(ha:∀ ab,ab∈asm→AB ab.1 ab.2 l fun _=>false)(hos:(π.filterMap fun i=>ops[i]?)=os)
 (hd:DrvP X N ops (π.getD · 0) (bpP (mkBits ops.toList []) π asm) (fun j=>em.testBit (π.getD j 0)) os 0 F S [S] [] K)(hok:okP ops (mkBits ops.toList []) π asm em=true:=by kernel_rfl)(hl:os.length=ops.size:=by rfl)(hm:(π.map fun i=>ops[i]?)=os.map some:=by rfl):Way X N ops F S K l :=
 ⟨π,asm,em,os,ha,hok,hl,hm,hd⟩
theorem AK.ways {id:Nat}{ops:Array Oper}{k:List Item}(h:∀ l:List Nat,OrdP (bitOf (mkBits ops.toList [])) ops.size l (fun _=>false)→Way X B.fn.ntmps ops F S (fun F' S'=>AK X B k F' S' R) l)(hb:bitsOk ops (mkBits ops.toList [])=true:=by kernel_rfl):AK X B (.code (.region id ops true)::k) F S R:=by
 intro E w a b cs hI hF hn hm hbf
 have hord:=lin_ord hb ops.size (w.tape w.drawn (.order b.fn id)) (Array.replicate ops.size false) (by simp) (fun j o hj=>by simp [Array.getD] at hj) (by
  unfold cntU
  exact Nat.le_trans (List.length_filter_le _ _) (by simp))
 generalize hl:Region.linearise.go .any ops ops.size (w.tape w.drawn (.order b.fn id)) (Array.replicate ops.size false) []=l at hord
 have hord':=OrdP.congr (g:=fun _=>false) l (fun p _=>by simp [Array.getD]) hord
 obtain ⟨π,asm,em,os,ha,hok,hos,hmap,hd⟩:=h l hord'
 obtain ⟨k1,k2,dk⟩:=okP_spec hok
 obtain ⟨o1,o2⟩:=OrdP.map (σ:=π.idxOf) (ix:=(π.getD · 0)) k1 k2 l _ hord' ha
 have hget:∀ j,j<os.length→ops[π.getD (0+j) 0]?=os[j]?:=fun j hj=>by
  have h1:=congrArg (fun l=>l[j]?) hmap
  simp only [List.getElem?_map] at h1
  rw [Nat.zero_add]
  cases hp:π[j]? with
  | none=>rw [hp] at h1;simp [List.getElem?_eq_getElem hj] at h1
  | some i =>
    rw [hp] at h1
    simp only [Option.map_some] at h1
    have:π.getD j 0=i:=by simp [List.getD,hp]
    rw [this]
    cases ho:os[j]? with
    | none=>rw [List.getElem?_eq_getElem hj] at ho;cases ho
    | some o=>rw [ho] at h1;simpa using h1
 obtain ⟨eff,x,FF,SS,h1,h2,h3,D⟩:=DrvP.data os 0 F S [S] [] _ hd hget (by simp) (fun q hq=>by cases hq)
 have hlen:0+os.length=ops.size:=by omega
 rw [hlen] at h3 D
 have hI1:Inv X E (SS 0) { w with drawn:=w.drawn+1 }:=by rw [h2];exact hI.keep (Evol.tapeStep E w _ _) (fun _ _=>rfl)
 have hF1:FR E { w with drawn:=w.drawn+1 } (FDP ops (π.getD · 0) x (fun _=>false) F ops.size) a B.fn.ntmps:=by
  have hF':=hF.step (Evol.tapeStep E w _ _)
  have:FDP ops (π.getD · 0) x (fun _=>false) F ops.size=F:=by
   have:∀ n,FDP ops (π.getD · 0) x (fun _=>false) F n=F:=by
    intro n
    induction n with
    | zero=>rfl
    | succ n ih=>simp only [FDP];exact ih
   exact this _
  rw [this];exact hF'
 obtain ⟨E',w',a',g1,g2,g3,g4⟩:=draw_goP dk D h1 k (l.map π.idxOf) (fun _=>false) a { w with drawn:=w.drawn+1 } E 0 o1
  (fun j e _ _ hj=>by cases hj) (Nat.zero_le _) (fun e he hee=>by simp) hI1 hF1 b cs
 rw [o2] at g1
 have hst:Steps X.P (lone (b.at a (.code (.region id ops true)::k)) cs w) (lone (b.at a' k) cs w'):=by
  refine .head step_region_draw ?_
  simp only [Region.schedule,X.mixed,Bool.true_or,if_true]
  have hl':Region.linearise .any ops (w.tape w.drawn (.order b.fn id))=l:=hl
  rw [hl']
  exact g1
 have g4':=(Evol.tapeStep E w _ _).trans g4
 have hll:=g4'.len
 have nt:E.toks.length=S.toks.length:=by rw [← hI.nt];simp
 have nt':E'.toks.length=(SS ops.size).toks.length:=by rw [← g2.nt];simp
 exact Fin.from hst (g4'.weaken (by rw [hI.nb];exact hn) (by omega)) (h3 E' w' a' b cs g2 g3 (by rw [← g2.nb];have:=hI.nb;omega) (by omega) hbf)
end
section
variable {X:Cx}{B:Bx}{S S':St}{F F':Frm}{R:AE→St→Prop}{ops:Array Oper}{N:Nat}{ix:Nat→Nat}{bp:Nat→Nat→Bool}{em:Nat→Bool}{KK:Frm→St→Prop}
theorem DrvP.runs:∀ (n:Nat)(os:List Oper)(i:Nat)(F:Frm)(pend:List Pend),(∀ k,k<os.length→ops[ix (i+k)]?=os[k]?) →
 DrvP X N ops ix bp em (runK X N ops S n os i F pend).1 (runK X N ops S n os i F pend).2.1 (runK X N ops S n os i F pend).2.2.1 S [S] (runK X N ops S n os i F pend).2.2.2 KK→DrvP X N ops ix bp em os i F S [S] pend KK
 | 0,os,i,F,p,_,h=>h
 | n+1,[],i,F,p,_,h=>h
 | n+1,o::os,i,F,p,hos,h=>by
   have ho:ops[ix i]?=some o:=by have:=hos 0 (by simp);simpa using this
   have hos':∀ k,k<os.length→ops[ix (i+1+k)]?=os[k]?:=fun k hk=>by
    have:=hos (k+1) (by simp;omega)
    rw [show i+1+k=i+(k+1) by omega]
    simpa using this
   unfold runK at h
   split at h
   ·rename_i hw
    split at h
    ·rename_i x hx
     split at h
     ·rename_i F' hF
      obtain ⟨h1,rfl⟩:=putO_eq hF
      split at h
      ·exact .inr (.inl ⟨x,h1,fun S' hS'=>by simp at hS';subst hS';exact Ndo.ev ho hw hx,DrvP.runs n os (i+1) _ _ hos' h⟩)
      ·rename_i hl
       exact .inl ⟨x,h1,fun S'=>Ndo.ev ho hw (by rw [← evalR_free (S:=S) hl];exact hx),DrvP.runs n os (i+1) _ _ hos' h⟩
     ·exact h
    ·split at h
     ·rename_i x hx
      split at h
      ·rename_i F' hF
       obtain ⟨h1,rfl⟩:=putO_eq hF
       exact .inl ⟨x,h1,fun S'=>Ndo.mem ho hw (evalB_free hx S'.boxes S'.toks),DrvP.runs n os (i+1) _ _ hos' h⟩
      ·exact h
     ·exact h
   ·rename_i hw
    split at h
    ·rename_i F' hF
     obtain ⟨h1,rfl⟩:=putO_eq hF
     exact .inl ⟨_,h1,fun S'=>Ndo.skip ho hw,DrvP.runs n os (i+1) _ _ hos' h⟩
    ·exact h
   ·exact h
theorem DrvP.go {os os':List Oper}{i i':Nat}{F':Frm}{pend pend':List Pend}(n:Nat)(k:DrvP X N ops ix bp em os' i' F' S [S] pend' KK)(h:runK X N ops S n os i F pend=(os',i',F',pend'):=by rfl)
 (hos:((List.range os.length).map fun k=>ops[ix (i+k)]?)=os.map some:=by rfl):DrvP X N ops ix bp em os i F S [S] pend KK :=
 DrvP.runs n os i F pend (fun k hk=>by
  have h1:=congrArg (fun l=>l[k]?) hos
  simp only [List.getElem?_map,List.getElem?_range hk,Option.map_some,List.getElem?_eq_getElem hk] at h1
  rw [List.getElem?_eq_getElem hk]
  exact Option.some.inj h1) (by rw [h];exact k)
theorem DrvP.e {os:List Oper}{i:Nat}{o:Oper}{x:AV}{Hs:List St}{pend:List Pend}(k:DrvP X N ops ix bp em os (i+1) F' S Hs pend KK)(ho:ops[ix i]?=some o:=by rfl)(hw:wantA ops F o=some true:=by rfl)(h:∀ S',evalR X F S' o.op=some x:=by intro;rfl)(hF:putO N o.dst x F=some F':=by rfl) :
 DrvP X N ops ix bp em (o::os) i F S Hs pend KK:=by
 obtain ⟨h1,rfl⟩:=putO_eq hF
 exact .inl ⟨x,h1,fun S'=>Ndo.ev ho hw (h S'),k⟩
theorem DrvP.w {os:List Oper}{i:Nat}{o:Oper}{x:AV}{Hs:List St}{pend:List Pend}(h:Ndo X N ops (ix i) o F x S S')(hr:∀ p,p∈pend→Ndo X N ops (ix p.1) p.2.1 p.2.2.1 p.2.2.2 S' S')
 (k:DrvP X N ops ix bp em os (i+1) F' S' (S'::Hs) (pend.filter fun p=>!bp p.1 i) KK)(he:em i=true:=by rfl)(hF:putO N o.dst x F=some F':=by rfl):DrvP X N ops ix bp em (o::os) i F S Hs pend KK:=by
 obtain ⟨h1,rfl⟩:=putO_eq hF
 exact .inr (.inr ⟨x,S',_,he,h1,h,rfl,fun p hp=>hr p (List.mem_filter.1 hp).1,k⟩)
theorem DrvP.w0 {os:List Oper}{i:Nat}{o:Oper}{x:AV}{Hs:List St}{pend:List Pend}(h:Ndo X N ops (ix i) o F x S S')
 (k:DrvP X N ops ix bp em os (i+1) F' S' (S'::Hs) [] KK)(he:em i=true:=by rfl)(hF:putO N o.dst x F=some F':=by rfl)(hp:pend.filter (fun p=>!bp p.1 i)=[]:=by kernel_rfl):DrvP X N ops ix bp em (o::os) i F S Hs pend KK:=by
 obtain ⟨h1,rfl⟩:=putO_eq hF
 exact .inr (.inr ⟨x,S',[],he,h1,h,hp,fun p hp'=>(by cases hp'),k⟩)
theorem DrvP.zj {i:Nat}{Hs:List St}{pend:List Pend}{k K:List Item}{S2:St}(id:Nat)(hk:AK X B K F' S2 R)(he:evT X B.fn.ntmps id 100 k F S=(K,F',S2):=by rfl):DrvP X N ops ix bp em [] i F S Hs pend fun F1 S1=>AK X B k F1 S1 R :=
 AK.evj id 100 he hk
inductive SubR (σ:List Nat)(F:Frm):Frm→Prop where
 | nil:SubR σ F []
 | cons {k:Nat} {x y:AV} {G:Frm} (hx:lk F k=some x) (hr:RinC σ [] x y) (t:SubR σ F G):SubR σ F ((k,y)::G)
theorem SubR.get {σ:List Nat}{G:Frm}(h:SubR σ F G):∀ k y,lk G k=some y→∃ x,lk F k=some x∧Ren true σ [] x y:=by
 induction h with
 | nil=>intro k y hy;simp [lk] at hy
 | cons hx hr t ih =>
   intro k y hy
   rw [lk_cons] at hy
   split at hy
   ·rename_i hk;subst hk;cases hy;exact ⟨_,hx,hr.s⟩
   ·exact ih k y hy
instance {n m c:Nat}{x:List AV} [h:OKL n m x]:OKR n m (List.replicate c x):=⟨fun r hr=>by rw [List.eq_of_mem_replicate hr];exact h.ok⟩
theorem AK.perm {f:FuncId}{fn:Func}{K:List Item}{G:Frm}{bx bx2:List (List (List AV))}(σ:List Nat)(hk:AK X ⟨f,fn,0,0⟩ K G ⟨bx2,[]⟩ R)(hG:SubR σ F G)(hS:S=⟨bx,[]⟩)(hn:nodupN σ=true)(hl:σ.length=bx.length)(hlt:(σ.all fun i=>Nat.blt i bx.length)=true)(hal:((List.range bx.length).all fun i=>σ.contains i)=true)
 {bx3:List (List (List AV))}(hsb:(σ.map fun i=>bx.getD i [])=bx3:=by rfl) [hb:RinB σ [] bx3 bx2]:AK X ⟨f,fn,0,0⟩ K F S R:=by
 subst hS;subst hsb
 intro E w a b cs hI hF _ _ hbf
 have nt0:E.toks=[]:=by have:=hI.nt;simpa using this
 have hσ:=nodupN_eq hn
 have hσl:∀ i,i∈σ→i<bx.length:=fun i hi=>by have:=List.all_eq_true.1 hlt i hi;simpa [Nat.blt_eq] using this
 have hτl:∀ t,t∈([]:List Nat)→t<E.toks.length:=fun t h=>by cases h
 have hI2:=(hI.sub (Sc:=⟨bx2,[]⟩) hσ List.nodup_nil hτl hb.s hσl rfl).dfE E.df
 have hall:∀ i,i<bx.length→i∈σ:=by
  intro i hi
  have:=List.all_eq_true.1 hal i (List.mem_range.2 hi)
  exact List.contains_iff_mem.1 this
 have hown:∀ b,E.own b↔E.ownS σ [] b:=fun b=>by
  constructor
  ·rintro (⟨i,s,h⟩ | ⟨t,l,c,s,h⟩)
   ·have:=lt_of_get h
    rw [hI.nb] at this
    exact .inl ⟨i,s,hall i this,h⟩
   ·rw [nt0] at h;simp at h
  ·exact ownS_own
 have hfr:((E.sub σ []).dfs E.df).fr=E.fr:=by
  funext b o
  apply propext
  show (E.mt b o∧¬ E.ownS σ [] b)↔E.fr b o
  constructor
  ·rintro ⟨h,hn⟩
   rcases mt_own hI h with h' | h'
   ·exact absurd ((hown b).1 h') hn
   ·exact h'
  ·exact fun h=>⟨.inl h,fun ho=>(hI.frlt b o h).1 ((hown b).2 ho)⟩
 have ev:Evol E w ((E.sub σ []).dfs E.df) w 0 0 :=
  ⟨hfr,fun i hi=>absurd hi (Nat.not_lt_zero _),fun t ht=>absurd ht (Nat.not_lt_zero _),rfl,rfl,rfl,Nat.le_refl _,fun _ _ _=>rfl,fun _ _ _ _ h=>h,fun b o _ h=>sub_mt hτl h,fun b _ h=>ownS_own ((sub_own hτl).1 h),rfl,fun _ _ h=>h,fun t ht=>absurd ht (Nat.not_lt_zero _)⟩
 refine Fin.from (Steps.refl _ _) ev (hk _ w a b cs hI2 ⟨hF.size,hF.nod,fun k y hy=>?_⟩ (Nat.zero_le _) (Nat.zero_le _) hbf)
 obtain ⟨x,hx,hr⟩:=hG.get k y hy
 obtain ⟨v,hv,hrel⟩:=hF.rel k x hx
 exact ⟨v,hv,(hr.fwd (Eb:=(E.sub σ []).dfs E.df) (fun b o h=>sub_mt hτl h) (fun i j q h1 h2=>(sub_box (E:=E) (σ:=σ) (τ:=[])).2 ⟨i,h1,h2⟩) (fun i j k h1 h2=>by simp at h1) hrel)⟩
end
end Go.V
