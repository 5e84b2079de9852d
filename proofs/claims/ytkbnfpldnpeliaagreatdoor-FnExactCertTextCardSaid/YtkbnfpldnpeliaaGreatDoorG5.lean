/- A part of the proof of the claim that the last text states: no condition of its own. -/
import Derived.Test.YtkbnfpldnpeliaaGreatDoorG4
import Derived.Laws.Externs
import Derived.Lib.ItoaNum
import Derived.Test.YtkbnfpldnpeliaaGreatDoorChecked
set_option linter.unusedVariables false
set_option linter.unusedSimpArgs false
namespace Go.V
open Go
section
variable {X:Cx}{B:Bx}{S:St}{F:Frm}{N:Nat}{ops:Array Oper}{i:Nat}{o:Oper}
theorem Pure.of_calls {f:FuncId}{args:List AV}{r:AV}{vs:List Value}(hE:Enters X.P f)(ha:args=vs.map .val)
 (h:∀ w,X.Glob w→Calls X.P f ⟨vs⟩ w fun e w'=>(∃ v,e=.returned v∧∀ E w,Rel E w v r)∧RowKit.Below w.heap.size w w'):Pure X f args r:=by
 refine ⟨hE,fun E w us _ hI hs hr=>?_⟩
 have:us=⟨vs⟩:=by
  subst ha
  apply Array.ext
  ·simpa using hs
  ·intro j h1 h2
   have:=hr j us[j] (.val vs[j]) (by simp [h1]) (by simp at h2;simp [h2])
   generalize us[j]=z at this
   cases this
   simp
 subst this
 refine (h w hI.glob).mono fun e w' he=>?_
 obtain ⟨⟨v,rfl,hv⟩,hb⟩:=he
 have hlt:∀ b o v,w.cell? ⟨b,o,none⟩=some v→w'.cell? ⟨b,o,none⟩=some v:=fun b o v hc=>by
  have hl:=cell_lt hc
  unfold World.cell? at hc ⊢
  rw [hb.block b hl];exact hc
 have ev:Evol E w E w' E.boxes.length E.toks.length:=⟨rfl,fun _ _ h=>⟨h,fun _ h=>h⟩,fun _ _ k h=>⟨k,h,.inl rfl⟩,hb.os,hb.tape,hb.output,hb.size,fun k hk _=>hb.block k hk,fun b o v _ hc=>hlt b o v hc,fun _ _ _ h=>h,fun _ _ h=>h,rfl,fun q e he=>by
  have hl:q<w.heap.size:=by
   rcases Nat.lt_or_ge q w.heap.size with h | h
   ·exact h
   ·simp [typeAt,Array.getElem?_eq_none h] at he
  unfold typeAt at he ⊢
  rw [hb.block q hl];exact he,fun _ _ _ b _ _ _ _ o ho=>(hb.block b (heap_lt ho)).trans ho⟩
 exact ⟨E,⟨[],[]⟩,hI.keep ev (fun b hb'=>hb.block b (hI.own_lt hb')),ev.weaken (Nat.zero_le _) (Nat.zero_le _),r,hv E w',rfl,rfl⟩
theorem Ndo.extern {c:Call}{fo:Operand}{f:FuncId}{us:List Value}{xs:List AV}{v:Value}(hr:∀ w,(callFunc f ⟨us⟩).run X.P w=.ok (.value v) w)(ho:ops[i]?=some o:=by rfl)(hw:wantA ops F o=some true:=by rfl)
 (hop:o.op=.call c:=by rfl)(hcal:c.callee=.value fo:=by rfl)(hfo:opr X F fo=some (.fn f []):=by rfl)(hx:oprs X F c.args.toList=some xs:=by rfl)(hu:toVals xs=some us:=by rfl):Ndo X N ops i o F (.val v) S S:=by
 refine Ndo.val ho hw fun F' E w a hc hI hF=>?_
 rw [hop] at hc
 simp only [Op.operands,Call.operands,hcal,Array.toList_append,List.mem_append] at hc
 have h1:=opr_sound hI hF ((hc fo (.inl (by simp))).trans hfo)
 have e2:oprs X F' c.args.toList=oprs X F c.args.toList:=by
  have:∀ l:List Operand,(∀ p,p∈l→opr X F' p=opr X F p)→oprs X F' l=oprs X F l:=by
   intro l
   induction l with
   | nil=>intro _;rfl
   | cons p l ih=>intro h;simp only [oprs];rw [h p (by simp),ih fun q hq=>h q (by simp [hq])]
  exact this _ fun p hp=>hc p (.inr hp)
 obtain ⟨hl,hrr⟩:=oprs_sound_arr hI hF (e2.trans hx)
 have hxs:=toVals_eq hu
 subst hxs
 have hargs:c.args.map a.eval=⟨us⟩:=by
  apply Array.ext
  ·simpa using hl
  ·intro j h1 h2
   have:=hrr j (c.args.map a.eval)[j] (.val us[j]) (Array.getElem?_eq_getElem h1) (by simp at h2;simp [h2])
   generalize (c.args.map a.eval)[j]=z at this
   cases this
   simp
 cases hh:a.eval fo<;>rw [hh] at h1<;>cases h1
 rename_i caps hcl hcr
 have hcaps:caps=#[]:=by apply Array.eq_empty_of_size_eq_zero;simpa using hcl
 subst hcaps
 refine ⟨v,?_,.val v⟩
 have:=hr w
 rw [← hargs] at this
 simp [execOp,hop,resolve,hcal,hh,Deferred.ofValue,invoke,this]
end
end Go.V
namespace Go.V
open Go Go.Proofs
def tyL:List (Nat × Ty):=[
 (36,⟨4,.str [(0,1),(1,1),(2,1),(3,1)],[.val (.int .i64 0),.val (.string ⟨#[]⟩),.val (.int .i64 0),.sl [] .tight],[false,false,false,false]⟩),
 (3,⟨1,.int .i64,[.val (.int .i64 0)],[]⟩),
 (9,⟨1,.string,[.val (.string ⟨#[]⟩)],[]⟩),
 (34,⟨1,.slc 36,[.sl [] .tight],[]⟩),
 (67,⟨1,.slc 9,[.sl [] .tight],[]⟩),
 (152,⟨2,.str [(0,1),(1,1)],[.val (.int .i64 0),.val (.int .i64 0)],[false,false]⟩),
 (41,⟨3,.str [(0,2),(2,1)],[.val (.int .i64 0),.sl [] .tight,.sl [] .tight],[true,false]⟩),
 (25,⟨1,.slc 3,[.sl [] .tight],[]⟩),
 (281,⟨1,.flat,[.val (.pointer none)],[]⟩),
 (119,⟨3,.str [(0,1),(1,1),(2,1)],[.sl [] .tight,.sl [] .tight,.sl [] .tight],[false,false,false]⟩),
 (89,⟨1,.slc 5,[.sl [] .tight],[]⟩),
 (38,⟨2,.str [(0,1),(1,1)],[.val (.int .i64 0),.sl [] .tight],[false,false]⟩),
 (227,⟨1,.flat,[.val (.pointer none)],[]⟩),
 (5,⟨1,.int .u8,[.val (.int .u8 0)],[]⟩),
 (4,⟨1,.bool,[.val (.bool false)],[]⟩),
 (157,⟨2,.str [(0,1),(1,1)],[.val (.int .i64 0),.val (.int .i64 0)],[false,false]⟩),
 (107,⟨2,.str [(0,1),(1,1)],[.val (.int .i64 0),.val (.string ⟨#[]⟩)],[false,false]⟩),
 (149,⟨1,.slc 152,[.sl [] .tight],[]⟩),
 (268,⟨1,.flat,[.val (.pointer none)],[]⟩),
 (116,⟨1,.slc 149,[.sl [] .tight],[]⟩),
 (159,⟨3,.str [(0,2),(2,1)],[.val (.int .i64 0),.val (.int .i64 0),.val (.bool false)],[true,false]⟩),
 (182,⟨2,.str [(0,1),(1,1)],[.val (.int .i64 0),.val (.int .i64 0)],[false,false]⟩),
 (49,⟨1,.slc 41,[.sl [] .tight],[]⟩),
 (93,⟨2,.str [(0,1),(1,1)],[.val (.pointer none),.sl [] .tight],[false,false]⟩),
 (24,⟨4,.str [(0,1),(1,1),(2,1),(3,1)],[.val (.int .i64 0),.val (.string ⟨#[]⟩),.val (.int .i64 0),.sl [] .tight],[false,false,false,false]⟩),
 (224,⟨1,.slc 232,[.sl [] .tight],[]⟩),
 (229,⟨3,.str [(0,1),(1,1),(2,1)],[.sl [] .tight,.val (.int .i64 0),.val (.bool false)],[false,false,false]⟩),
 (72,⟨5,.str [(0,1),(1,1),(2,1),(3,2)],[.sl [] .tight,.sl [] .tight,.sl [] .tight,.val (.int .i64 0),.sl [] .tight],[false,false,false,true]⟩),
 (59,⟨4,.str [(0,1),(1,1),(2,1),(3,1)],[.val (.int .i64 0),.val (.int .i64 0),.sl [] .tight,.sl [] .tight],[false,false,false,false]⟩),
 (117,⟨1,.slc 159,[.sl [] .tight],[]⟩),
 (39,⟨1,.slc 119,[.sl [] .tight],[]⟩),
 (232,⟨3,.str [(0,1),(1,1),(2,1)],[.val (.int .i64 0),.val (.string ⟨#[]⟩),.val (.int .i64 0)],[false,false,false]⟩),
 (103,⟨1,.slc 4,[.sl [] .tight],[]⟩),
 (200,⟨5,.str [(0,2),(2,1),(3,1),(4,1)],[.val (.int .i64 0),.sl [] .tight,.val (.int .i64 0),.sl [] .tight,.sl [] .tight],[true,false,false,false]⟩),
 (139,⟨1,.flat,[.val (.pointer none)],[]⟩),
 (30,⟨3,.str [(0,2),(2,1)],[.val (.int .i64 0),.sl [] .tight,.sl [] .tight],[true,false]⟩),
 (201,⟨1,.flat,[.val (.pointer none)],[]⟩),
 (217,⟨1,.int .u64,[.val (.int .u64 0)],[]⟩),
 (68,⟨1,.slc 145,[.sl [] .tight],[]⟩),
 (70,⟨2,.str [(0,1),(1,1)],[.val (.int .i64 0),.sl [] .tight],[false,false]⟩),
 (87,⟨11,.str [(0,2),(2,1),(3,1),(4,1),(5,1),(6,1),(7,4)],[.val (.int .i64 0),.sl [] .tight,.sl [] .tight,.sl [] .tight,.sl [] .tight,.sl [] .tight,.sl [] .tight,.val (.int .i64 0),.val (.string ⟨#[]⟩),.val (.int .i64 0),.sl [] .tight],[true,false,false,false,false,false,true]⟩),
 (257,⟨1,.int .u32,[.val (.int .u32 0)],[]⟩),
 (46,⟨1,.slc 30,[.sl [] .tight],[]⟩),
 (55,⟨4,.str [(0,1),(1,1),(2,1),(3,1)],[.val (.int .i64 0),.val (.int .i64 0),.sl [] .tight,.sl [] .tight],[false,false,false,false]⟩),
 (259,⟨1,.int .u64,[.val (.int .u64 0)],[]⟩),
 (270,⟨4,.str [(0,2),(2,1),(3,1)],[.val (.pointer none),.sl [] .tight,.sl [] .tight,.val (.int .i64 0)],[true,false,false]⟩),
 (105,⟨3,.str [(0,1),(1,1),(2,1)],[.sl [] .tight,.sl [] .tight,.sl [] .tight],[false,false,false]⟩),
 (145,⟨8,.str [(0,1),(1,1),(2,1),(3,1),(4,4)],[.val (.int .i64 0),.val (.int .i64 0),.val (.int .i64 0),.val (.bool false),.val (.int .i64 0),.val (.string ⟨#[]⟩),.val (.int .i64 0),.sl [] .tight],[false,false,false,false,true]⟩),
 (85,⟨1,.slc 25,[.sl [] .tight],[]⟩),
 (141,⟨2,.str [(0,1),(1,1)],[.val (.int .i64 0),.sl [] .tight],[false,false]⟩),
 (22,⟨1,.slc 24,[.sl [] .tight],[]⟩),
 (28,⟨1,.slc 105,[.sl [] .tight],[]⟩),
 (101,⟨1,.slc 179,[.sl [] .tight],[]⟩),
 (27,⟨2,.str [(0,1),(1,1)],[.val (.int .i64 0),.sl [] .tight],[false,false]⟩),
 (91,⟨1,.flat,[.val (.pointer none)],[]⟩),
 (198,⟨1,.slc 285,[.sl [] .tight],[]⟩),
 (297,⟨2,.str [(0,1),(1,1)],[.sl [] .tight,.val (.int .i64 0)],[false,false]⟩),
 (78,⟨1,.flat,[.val (.pointer none)],[]⟩),
 (179,⟨1,.slc 239,[.sl [] .tight],[]⟩),
 (102,⟨1,.slc 193,[.sl [] .tight],[]⟩),
 (258,⟨65,.arr 65 5,[.val (.int .u8 0),.val (.int .u8 0),.val (.int .u8 0),.val (.int .u8 0),.val (.int .u8 0),.val (.int .u8 0),.val (.int .u8 0),.val (.int .u8 0),.val (.int .u8 0),.val (.int .u8 0),.val (.int .u8 0),.val (.int .u8 0),.val (.int .u8 0),.val (.int .u8 0),.val (.int .u8 0),.val (.int .u8 0),.val (.int .u8 0),.val (.int .u8 0),.val (.int .u8 0),.val (.int .u8 0),.val (.int .u8 0),.val (.int .u8 0),.val (.int .u8 0),.val (.int .u8 0),.val (.int .u8 0),.val (.int .u8 0),.val (.int .u8 0),.val (.int .u8 0),.val (.int .u8 0),.val (.int .u8 0),.val (.int .u8 0),.val (.int .u8 0),.val (.int .u8 0),.val (.int .u8 0),.val (.int .u8 0),.val (.int .u8 0),.val (.int .u8 0),.val (.int .u8 0),.val (.int .u8 0),.val (.int .u8 0),.val (.int .u8 0),.val (.int .u8 0),.val (.int .u8 0),.val (.int .u8 0),.val (.int .u8 0),.val (.int .u8 0),.val (.int .u8 0),.val (.int .u8 0),.val (.int .u8 0),.val (.int .u8 0),.val (.int .u8 0),.val (.int .u8 0),.val (.int .u8 0),.val (.int .u8 0),.val (.int .u8 0),.val (.int .u8 0),.val (.int .u8 0),.val (.int .u8 0),.val (.int .u8 0),.val (.int .u8 0),.val (.int .u8 0),.val (.int .u8 0),.val (.int .u8 0),.val (.int .u8 0),.val (.int .u8 0)],[]⟩),
 (312,⟨3,.str [(0,1),(1,1),(2,1)],[.val (.string ⟨#[]⟩),.val (.string ⟨#[]⟩),.val .nilIface],[false,false,false]⟩),
 (66,⟨1,.flat,[.val .nilFunc],[]⟩),
 (2,⟨1,.int .i64,[.val (.int .i64 0)],[]⟩),
 (95,⟨1,.flat,[.val .nilIface],[]⟩),
 (239,⟨2,.str [(0,1),(1,1)],[.val (.int .i64 0),.val (.int .i64 0)],[false,false]⟩),
 (193,⟨3,.str [(0,2),(2,1)],[.val (.int .i64 0),.val (.int .i64 0),.val (.bool false)],[true,false]⟩),
 (191,⟨2,.str [(0,1),(1,1)],[.val (.int .i64 0),.val (.int .i64 0)],[false,false]⟩),
 (216,⟨24,.arr 24 5,[.val (.int .u8 0),.val (.int .u8 0),.val (.int .u8 0),.val (.int .u8 0),.val (.int .u8 0),.val (.int .u8 0),.val (.int .u8 0),.val (.int .u8 0),.val (.int .u8 0),.val (.int .u8 0),.val (.int .u8 0),.val (.int .u8 0),.val (.int .u8 0),.val (.int .u8 0),.val (.int .u8 0),.val (.int .u8 0),.val (.int .u8 0),.val (.int .u8 0),.val (.int .u8 0),.val (.int .u8 0),.val (.int .u8 0),.val (.int .u8 0),.val (.int .u8 0),.val (.int .u8 0)],[]⟩),
 (291,⟨6,.arr 6 9,[.val (.string ⟨#[]⟩),.val (.string ⟨#[]⟩),.val (.string ⟨#[]⟩),.val (.string ⟨#[]⟩),.val (.string ⟨#[]⟩),.val (.string ⟨#[]⟩)],[]⟩),
 (294,⟨1,.str [(0,1)],[.val (.int .i64 0)],[false]⟩),
 (148,⟨1,.flat,[.val .nilFunc],[]⟩),
 (175,⟨1,.flat,[.val (.pointer none)],[]⟩),
 (256,⟨20,.arr 20 217,[.val (.int .u64 0),.val (.int .u64 0),.val (.int .u64 0),.val (.int .u64 0),.val (.int .u64 0),.val (.int .u64 0),.val (.int .u64 0),.val (.int .u64 0),.val (.int .u64 0),.val (.int .u64 0),.val (.int .u64 0),.val (.int .u64 0),.val (.int .u64 0),.val (.int .u64 0),.val (.int .u64 0),.val (.int .u64 0),.val (.int .u64 0),.val (.int .u64 0),.val (.int .u64 0),.val (.int .u64 0)],[]⟩),
 (287,⟨32,.arr 32 5,[.val (.int .u8 0),.val (.int .u8 0),.val (.int .u8 0),.val (.int .u8 0),.val (.int .u8 0),.val (.int .u8 0),.val (.int .u8 0),.val (.int .u8 0),.val (.int .u8 0),.val (.int .u8 0),.val (.int .u8 0),.val (.int .u8 0),.val (.int .u8 0),.val (.int .u8 0),.val (.int .u8 0),.val (.int .u8 0),.val (.int .u8 0),.val (.int .u8 0),.val (.int .u8 0),.val (.int .u8 0),.val (.int .u8 0),.val (.int .u8 0),.val (.int .u8 0),.val (.int .u8 0),.val (.int .u8 0),.val (.int .u8 0),.val (.int .u8 0),.val (.int .u8 0),.val (.int .u8 0),.val (.int .u8 0),.val (.int .u8 0),.val (.int .u8 0)],[]⟩),
 (288,⟨64,.arr 64 5,[.val (.int .u8 0),.val (.int .u8 0),.val (.int .u8 0),.val (.int .u8 0),.val (.int .u8 0),.val (.int .u8 0),.val (.int .u8 0),.val (.int .u8 0),.val (.int .u8 0),.val (.int .u8 0),.val (.int .u8 0),.val (.int .u8 0),.val (.int .u8 0),.val (.int .u8 0),.val (.int .u8 0),.val (.int .u8 0),.val (.int .u8 0),.val (.int .u8 0),.val (.int .u8 0),.val (.int .u8 0),.val (.int .u8 0),.val (.int .u8 0),.val (.int .u8 0),.val (.int .u8 0),.val (.int .u8 0),.val (.int .u8 0),.val (.int .u8 0),.val (.int .u8 0),.val (.int .u8 0),.val (.int .u8 0),.val (.int .u8 0),.val (.int .u8 0),.val (.int .u8 0),.val (.int .u8 0),.val (.int .u8 0),.val (.int .u8 0),.val (.int .u8 0),.val (.int .u8 0),.val (.int .u8 0),.val (.int .u8 0),.val (.int .u8 0),.val (.int .u8 0),.val (.int .u8 0),.val (.int .u8 0),.val (.int .u8 0),.val (.int .u8 0),.val (.int .u8 0),.val (.int .u8 0),.val (.int .u8 0),.val (.int .u8 0),.val (.int .u8 0),.val (.int .u8 0),.val (.int .u8 0),.val (.int .u8 0),.val (.int .u8 0),.val (.int .u8 0),.val (.int .u8 0),.val (.int .u8 0),.val (.int .u8 0),.val (.int .u8 0),.val (.int .u8 0),.val (.int .u8 0),.val (.int .u8 0),.val (.int .u8 0)],[]⟩),
 (132,⟨1,.flat,[.val (.pointer none)],[]⟩),
 (155,⟨1,.flat,[.val .nilFunc],[]⟩),
 (169,⟨1,.flat,[.val .nilFunc],[]⟩),
 (285,⟨10,.str [(0,4),(4,4),(8,1),(9,1)],[.val (.int .i64 0),.val (.string ⟨#[]⟩),.val (.int .i64 0),.sl [] .tight,.val (.int .i64 0),.val (.string ⟨#[]⟩),.val (.int .i64 0),.sl [] .tight,.val (.int .i64 0),.val (.int .i64 0)],[true,true,false,false]⟩),
 (290,⟨2,.arr 2 9,[.val (.string ⟨#[]⟩),.val (.string ⟨#[]⟩)],[]⟩),
 (322,⟨1,.str [(0,1)],[.val (.string ⟨#[]⟩)],[false]⟩),
 (43,⟨1,.flat,[.val .nilFunc],[]⟩),
 (280,⟨1,.flat,[.val .nilFunc],[]⟩)]
def tyAt:Nat→Option Ty:=tabAt tyL
set_option maxRecDepth 100000 in
theorem tyOk:TabOk Tryz.prog tyAt tyL:=by
 unfold tyL
 refine ⟨by kernel_rfl,by kernel_rfl,?_⟩
 refine ⟨by kernel_rfl,by kernel_rfl,?_⟩
 refine ⟨by kernel_rfl,by kernel_rfl,?_⟩
 refine ⟨by kernel_rfl,by kernel_rfl,?_⟩
 refine ⟨by kernel_rfl,by kernel_rfl,?_⟩
 refine ⟨by kernel_rfl,by kernel_rfl,?_⟩
 refine ⟨by kernel_rfl,by kernel_rfl,?_⟩
 refine ⟨by kernel_rfl,by kernel_rfl,?_⟩
 refine ⟨by kernel_rfl,by kernel_rfl,?_⟩
 refine ⟨by kernel_rfl,by kernel_rfl,?_⟩
 refine ⟨by kernel_rfl,by kernel_rfl,?_⟩
 refine ⟨by kernel_rfl,by kernel_rfl,?_⟩
 refine ⟨by kernel_rfl,by kernel_rfl,?_⟩
 refine ⟨by kernel_rfl,by kernel_rfl,?_⟩
 refine ⟨by kernel_rfl,by kernel_rfl,?_⟩
 refine ⟨by kernel_rfl,by kernel_rfl,?_⟩
 refine ⟨by kernel_rfl,by kernel_rfl,?_⟩
 refine ⟨by kernel_rfl,by kernel_rfl,?_⟩
 refine ⟨by kernel_rfl,by kernel_rfl,?_⟩
 refine ⟨by kernel_rfl,by kernel_rfl,?_⟩
 refine ⟨by kernel_rfl,by kernel_rfl,?_⟩
 refine ⟨by kernel_rfl,by kernel_rfl,?_⟩
 refine ⟨by kernel_rfl,by kernel_rfl,?_⟩
 refine ⟨by kernel_rfl,by kernel_rfl,?_⟩
 refine ⟨by kernel_rfl,by kernel_rfl,?_⟩
 refine ⟨by kernel_rfl,by kernel_rfl,?_⟩
 refine ⟨by kernel_rfl,by kernel_rfl,?_⟩
 refine ⟨by kernel_rfl,by kernel_rfl,?_⟩
 refine ⟨by kernel_rfl,by kernel_rfl,?_⟩
 refine ⟨by kernel_rfl,by kernel_rfl,?_⟩
 refine ⟨by kernel_rfl,by kernel_rfl,?_⟩
 refine ⟨by kernel_rfl,by kernel_rfl,?_⟩
 refine ⟨by kernel_rfl,by kernel_rfl,?_⟩
 refine ⟨by kernel_rfl,by kernel_rfl,?_⟩
 refine ⟨by kernel_rfl,by kernel_rfl,?_⟩
 refine ⟨by kernel_rfl,by kernel_rfl,?_⟩
 refine ⟨by kernel_rfl,by kernel_rfl,?_⟩
 refine ⟨by kernel_rfl,by kernel_rfl,?_⟩
 refine ⟨by kernel_rfl,by kernel_rfl,?_⟩
 refine ⟨by kernel_rfl,by kernel_rfl,?_⟩
 refine ⟨by kernel_rfl,by kernel_rfl,?_⟩
 refine ⟨by kernel_rfl,by kernel_rfl,?_⟩
 refine ⟨by kernel_rfl,by kernel_rfl,?_⟩
 refine ⟨by kernel_rfl,by kernel_rfl,?_⟩
 refine ⟨by kernel_rfl,by kernel_rfl,?_⟩
 refine ⟨by kernel_rfl,by kernel_rfl,?_⟩
 refine ⟨by kernel_rfl,by kernel_rfl,?_⟩
 refine ⟨by kernel_rfl,by kernel_rfl,?_⟩
 refine ⟨by kernel_rfl,by kernel_rfl,?_⟩
 refine ⟨by kernel_rfl,by kernel_rfl,?_⟩
 refine ⟨by kernel_rfl,by kernel_rfl,?_⟩
 refine ⟨by kernel_rfl,by kernel_rfl,?_⟩
 refine ⟨by kernel_rfl,by kernel_rfl,?_⟩
 refine ⟨by kernel_rfl,by kernel_rfl,?_⟩
 refine ⟨by kernel_rfl,by kernel_rfl,?_⟩
 refine ⟨by kernel_rfl,by kernel_rfl,?_⟩
 refine ⟨by kernel_rfl,by kernel_rfl,?_⟩
 refine ⟨by kernel_rfl,by kernel_rfl,?_⟩
 refine ⟨by kernel_rfl,by kernel_rfl,?_⟩
 refine ⟨by kernel_rfl,by kernel_rfl,?_⟩
 refine ⟨by kernel_rfl,by kernel_rfl,?_⟩
 refine ⟨by kernel_rfl,by kernel_rfl,?_⟩
 refine ⟨by kernel_rfl,by kernel_rfl,?_⟩
 refine ⟨by kernel_rfl,by kernel_rfl,?_⟩
 refine ⟨by kernel_rfl,by kernel_rfl,?_⟩
 refine ⟨by kernel_rfl,by kernel_rfl,?_⟩
 refine ⟨by kernel_rfl,by kernel_rfl,?_⟩
 refine ⟨by kernel_rfl,by kernel_rfl,?_⟩
 refine ⟨by kernel_rfl,by kernel_rfl,?_⟩
 refine ⟨by kernel_rfl,by kernel_rfl,?_⟩
 refine ⟨by kernel_rfl,by kernel_rfl,?_⟩
 refine ⟨by kernel_rfl,by kernel_rfl,?_⟩
 refine ⟨by kernel_rfl,by kernel_rfl,?_⟩
 refine ⟨by kernel_rfl,by kernel_rfl,?_⟩
 refine ⟨by kernel_rfl,by kernel_rfl,?_⟩
 refine ⟨by kernel_rfl,by kernel_rfl,?_⟩
 refine ⟨by kernel_rfl,by kernel_rfl,?_⟩
 refine ⟨by kernel_rfl,by kernel_rfl,?_⟩
 refine ⟨by kernel_rfl,by kernel_rfl,?_⟩
 refine ⟨by kernel_rfl,by kernel_rfl,?_⟩
 refine ⟨by kernel_rfl,by kernel_rfl,?_⟩
 refine ⟨by kernel_rfl,by kernel_rfl,?_⟩
 refine ⟨by kernel_rfl,by kernel_rfl,?_⟩
 refine ⟨by kernel_rfl,by kernel_rfl,?_⟩
 trivial
def condG:List AV:=[.val (.string ⟨#[60]⟩),.val (.string ⟨#[60,61]⟩),.val (.string ⟨#[62]⟩),.val (.string ⟨#[62,61]⟩),.val (.string ⟨#[61,61]⟩),.val (.string ⟨#[33,61]⟩)]
noncomputable def gK:Nat:=Tryz.prog.globals.size
def noneG:List AV:=[.val (.int .i64 1),.val (.int .i64 0)]
def gAt (g:Nat):Option (List AV) :=
 match Nat.beq g 5 with
 | true=>some condG
 | false =>
   match Nat.beq g 0 with
   | true=>some noneG
   | false=>none
def IfaceV (w:World)(g:Nat):Prop:=∃ ev,w.cell? ⟨g,0,none⟩=some ev∧(ev=.nilIface∨∃ te pe,ev=.iface te pe)
structure gOk (w:World):Prop where
 cond:∀ (j:Nat) (x:AV),condG[j]?=some x→∃ v,w.cell? ⟨5,j,none⟩=some v∧x=.val v
 tab:∃ e z,w.heap[1]?=some (.cells (Lib.pow10Tab.map fun z=>Value.int .u64 z).toArray e z)
 syn:IfaceV w 6
 rng:IfaceV w 7
 non:∀ (j:Nat) (x:AV),noneG[j]?=some x→∃ v,w.cell? ⟨0,j,none⟩=some v∧x=.val v
theorem gK_lt {k:Nat}(h:decide (k<Tryz.prog.globals.size)=true):k<gK:=by unfold gK;exact of_decide_eq_true h
theorem IfaceV.st {w w':World}{g:Nat}(h:∀ k,k<gK→w'.heap[k]?=w.heap[k]?)(hg:g<gK)(hv:IfaceV w g):IfaceV w' g:=by
 obtain ⟨ev,h1,h2⟩:=hv
 refine ⟨ev,?_,h2⟩
 unfold World.cell? at h1 ⊢
 rw [h g hg];exact h1
noncomputable def X:Cx where
 P:=Tryz.prog
 ty:=tyAt
 G:=gAt
 K0:=gK
 Glob:=gOk
 ty_ok:=tab_ok tyOk
 glob_st w w' h hs _ hg:={
  cond:=fun j x hx=>by
   obtain ⟨v,hv,he⟩:=hg.cond j x hx
   refine ⟨v,?_,he⟩
   unfold World.cell? at hv ⊢
   rw [h 5 (gK_lt (by kernel_rfl))]
   exact hv
  tab:=by
   obtain ⟨e,z,ht⟩:=hg.tab
   exact ⟨e,z,(h _ (gK_lt (by kernel_rfl))).trans ht⟩
  syn:=hg.syn.st h (gK_lt (by kernel_rfl))
  non:=fun j x hx=>by
   obtain ⟨v,hv,he⟩:=hg.non j x hx
   refine ⟨v,?_,he⟩
   unfold World.cell? at hv ⊢
   rw [h 0 (gK_lt (by kernel_rfl))]
   exact hv
  rng:=hg.rng.st h (gK_lt (by kernel_rfl)) }
 glob_G w hw g cells hg:=by
  unfold gAt at hg
  split at hg
  ·rename_i hb
   cases hg
   have:=Nat.eq_of_beq_eq_true hb
   subst this
   exact ⟨gK_lt (by kernel_rfl),hw.cond⟩
  ·split at hg
   ·rename_i hb
    cases hg
    have:=Nat.eq_of_beq_eq_true hb
    subst this
    exact ⟨gK_lt (by kernel_rfl),hw.non⟩
   ·cases hg
 mixed:=by kernel_rfl
inductive Nd where
 | mk (kind:Int) (name:List UInt8) (num:Int) (kids:List Nd)
def Nd.kind:Nd→Int | .mk k _ _ _=>k
def Nd.name:Nd→List UInt8 | .mk _ s _ _=>s
def Nd.num:Nd→Int | .mk _ _ m _=>m
def Nd.kids:Nd→List Nd | .mk _ _ _ ks=>ks
mutual
def ncell:Nd→List AV
 | .mk k s m ks=>[.val (.int .i64 k),.val (.string ⟨⟨s⟩⟩),.val (.int .i64 m),.sl (nrows ks) .no]
def nrows:List Nd→List (List AV)
 | []=>[]
 | n::l=>ncell n::nrows l
end
def ncells (n:Nd):List AV:=[.val (.int .i64 n.kind),.val (.string ⟨⟨n.name⟩⟩),.val (.int .i64 n.num),.sl (nrows n.kids) .no]
theorem ncell_eq (n:Nd):ncell n=ncells n:=by cases n;rfl
theorem nrows_map (l:List Nd):nrows l=l.map ncells:=by
 induction l with
 | nil=>rfl
 | cons n l ih=>simp only [nrows,ih,ncell_eq,List.map_cons]
theorem nrows_get {l:List Nd}{i:Nat}{n:Nd}(h:l[i]?=some n):(nrows l)[i]?=some (ncells n):=by rw [nrows_map];simp [h]
theorem nrows_len (l:List Nd):(nrows l).length=l.length:=by rw [nrows_map];simp
theorem Nd.ind {P:Nd→Prop}(h:∀ n,(∀ k,k∈n.kids→P k)→P n):∀ n,P n:=by
 intro n
 have:∀ m:Nat,∀ n:Nd,SizeOf.sizeOf n<m→P n:=by
  intro m
  induction m with
  | zero=>intro n h;omega
  | succ m ih =>
    intro n hn
    refine h n fun k hk=>ih k ?_
    cases n with
    | mk a b c ks =>
      have:=List.sizeOf_lt_of_mem hk
      simp only [Nd.kids] at this
      simp at hn
      omega
 exact this _ n (Nat.lt_succ_self _)
theorem flat_nd:∀ n:Nd,∀ x,x∈ncells n→Ok 0 0 x:=by
 intro n
 induction n using Nd.ind with
 | h n ih =>
   intro x hx
   simp only [ncells,List.mem_cons,List.not_mem_nil,or_false] at hx
   rcases hx with rfl | rfl | rfl | rfl
   ·exact .val _
   ·exact .val _
   ·exact .val _
   ·refine .sl _ _ (fun r hr y hy=>?_) (fun t ht=>by cases ht)
    rw [nrows_map] at hr
    obtain ⟨k,hk,rfl⟩:=List.mem_map.1 hr
    exact ih k hk y hy
theorem flat_rows (l:List Nd):RowsOk 0 0 (nrows l):=fun r hr x hx=>by
 rw [nrows_map] at hr
 obtain ⟨k,_,rfl⟩:=List.mem_map.1 hr
 exact flat_nd k x hx
mutual
def countN:Nd→Nat
 | .mk _ _ _ ks=>1+countL ks
def countL:List Nd→Nat
 | []=>0
 | n::l=>countN n+countL l
end
theorem countN_eq (n:Nd):countN n=1+countL n.kids:=by cases n;rfl
theorem countL_append (a b:List Nd):countL (a++b)=countL a+countL b:=by
 induction a with
 | nil=>simp [countL]
 | cons x a ih=>simp [countL,ih];omega
theorem countL_le {l:List Nd}{i:Nat}:countL (l.take i)≤countL l:=by
 have:=countL_append (l.take i) (l.drop i)
 rw [List.take_append_drop] at this;omega
theorem countL_snoc {l:List Nd}{i:Nat}{n:Nd}(h:l[i]?=some n):countL (l.take (i+1))=countL (l.take i)+countN n:=by
 rw [List.take_add_one,h,countL_append];simp [countL]
theorem length_le_countL (l:List Nd):l.length≤countL l:=by
 induction l with
 | nil=>simp [countL]
 | cons x l ih=>have:=countN_eq x;simp [countL];omega
theorem wrap_small {n:Int}(h0:-9223372036854775808≤n)(h:n≤9223372036854775807):IntKind.i64.wrap n=n:=by
 unfold IntKind.wrap;simp [IntKind.bits,IntKind.signed];omega
instance {n m:Nat}{k:Nd}:OKL n m (ncells k):=⟨fun x hx=>(flat_nd k x hx).mono (Nat.zero_le _) (Nat.zero_le _)⟩
instance {n m:Nat}{l:List Nd}:OKR n m (nrows l):=⟨fun r hr x hx=>(flat_rows l r hr x hx).mono (Nat.zero_le _) (Nat.zero_le _)⟩
theorem vint {a b:Int}{k:IntKind}(h:a=b):some (AV.val (.int k a))=some (AV.val (.int k b)):=by rw [h]
theorem t1 (n:Nd)(hn:countN n≤4000000000):Pure X 260 [.agg (ncells n)] (.val (.int .i64 (countN n))):=by
 induction n using Nd.ind with
 | h n ih =>
 refine Pure.mk Tryz.func260 rfl rfl (by kernel_rfl) ?_
 refine AK.ev 100 rfl ?_
 have hc:=countN_eq n
 have hll:=length_le_countL n.kids
 refine AK.while_ (ι:=Nat) 1 0 (fun i=>i≤n.kids.length) (fun i=>[(9,.val (.int .i64 i)),(8,.val (.int .i64 n.kids.length)),(7,.sl (nrows n.kids) .no),(3,.val (.int .i64 (1+countL (n.kids.take i):Nat)))])
  (fun _=>⟨[[ncells n]],[]⟩) (fun i=>n.kids.length-i) ?_ 0 (Nat.zero_le _) ⟨rfl,by rw [← nrows_len];rfl,rfl,rfl,trivial⟩ rfl rfl rfl rfl rfl (fun _=>inferInstance) (fun _=>inferInstance)
 intro i hi IH
 refine AK.ev 100 rfl ?_
 refine AK.cond rfl (fun hlt=>?_) (fun hge=>?_)
 ·have hlt':i<n.kids.length:=by have:=of_decide_eq_true hlt;omega
  obtain ⟨kid,hkid⟩:=lget_of_lt n.kids hlt'
  have hsn:=countL_snoc hkid
  have hle:=countL_le (l:=n.kids) (i:=i+1)
  refine AK.ev 100 rfl ?_
  refine AK.index rfl rfl rfl rfl rfl rfl rfl rfl rfl rfl (by omega) (nrows_get hkid) ?_
  refine AK.ev 100 rfl ?_
  refine AK.call (ih kid (List.mem_of_getElem? hkid) (by omega)) rfl rfl rfl rfl rfl rfl rfl rfl ?_
  refine AK.ev 100 rfl ?_
  exact IH (i+1) hlt' (by omega) _ _ ⟨vint ((wrap_small (by omega) (by omega)).trans (by omega)),rfl,rfl,vint ((wrap_small (by omega) (by omega)).trans (by omega)),trivial⟩ rfl rfl rfl
 ·have:i=n.kids.length:=by have:=of_decide_eq_false hge;omega
  subst this
  refine AK.ev 100 rfl ?_
  exact AK.ret Tryz.func260 rfl rfl rfl (by rw [hc,List.take_length];rfl)
abbrev vi (n:Int):AV:=.val (.int .i64 n)
abbrev vb (b:Bool):AV:=.val (.bool b)
abbrev vc (c:UInt8):AV:=.val (.int .u8 c.toNat)
def between (n lo hi:Int):Bool:=decide (lo≤n)&&decide (n≤hi)
def letter (c:UInt8):Bool:=between c.toNat 97 122
def digit (c:UInt8):Bool:=between c.toNat 48 57
theorem p_between (n lo hi:Int):Pure X 89 [vi n,vi lo,vi hi] (vb (between n lo hi)):=by
 refine Pure.run Tryz.func89 ?_
 refine AK.gd (fun h=>?_) (fun h=>?_)
 ·refine AK.rt Tryz.func89 ?_
  simp_all [between,retA]
 ·refine AK.rt Tryz.func89 ?_
  simp_all [between,retA]
  omega
theorem p_letter (c:UInt8):Pure X 203 [vc c] (vb (letter c)):=by
 refine Pure.run Tryz.func203 ?_
 refine AK.gd (fun h=>?_) (fun h=>?_)
 ·refine AK.rt Tryz.func203 ?_
  simp_all [letter,between,retA]
 ·refine AK.rt Tryz.func203 ?_
  simp_all [letter,between,retA]
  omega
theorem p_digit (c:UInt8):Pure X 205 [vc c] (vb (digit c)):=by
 refine Pure.run Tryz.func205 ?_
 refine AK.gd (fun h=>?_) (fun h=>?_)
 ·refine AK.rt Tryz.func205 ?_
  simp_all [digit,between,retA]
 ·refine AK.rt Tryz.func205 ?_
  simp_all [digit,between,retA]
  omega
def strR (l:List (List UInt8)):List (List AV):=l.map fun s=>[str s]
theorem strR_get {l:List (List UInt8)}{i:Nat}{s:List UInt8}(h:l[i]?=some s):(strR l)[i]?=some [str s]:=by simp [strR,h]
theorem strR_len (l:List (List UInt8)):(strR l).length=l.length:=by simp [strR]
instance {n m:Nat}{l:List (List UInt8)}:OKR n m (strR l):=⟨fun r hr x hx=>by
 obtain ⟨s,_,rfl⟩:=List.mem_map.1 hr
 simp at hx;subst hx;exact .val _⟩
theorem drop_cons {α:Type}{l:List α}{i:Nat}{x:α}(h:l[i]?=some x):l.drop i=x::l.drop (i+1):=by
 have hi:=lt_of_get h
 rw [List.getElem?_eq_getElem hi] at h
 rw [List.drop_eq_getElem_cons hi,Option.some.inj h]
def has (l:List (List UInt8))(s:List UInt8):Bool:=l.any fun x=>x==s
theorem p_has (l:List (List UInt8))(s:List UInt8)(hl:l.length≤1000000000):Pure X 245 [.sl (strR l) .no,str s] (vb (has l s)):=by
 refine Pure.run Tryz.func245 ?_
 refine AK.while_ (ι:=Nat) 0 0 (fun i=>i≤l.length∧has l s=has (l.drop i) s) (fun i=>[(5,vi i),(0,.sl (strR l) .no),(1,str s)]) (fun _=>⟨[],[]⟩) (fun i=>l.length-i) ?_ 0 ⟨Nat.zero_le _,rfl⟩
  ⟨rfl,rfl,rfl,trivial⟩ rfl rfl rfl rfl rfl (fun _=>inferInstance) (fun _=>inferInstance)
 intro i hi IH
 refine AK.ev 100 rfl ?_
 refine AK.if_ (fun h=>?_) (fun h=>?_)
 ·have hlt:i<l.length:=by have:=of_decide_eq_true h;rw [strR_len] at this;omega
  obtain ⟨x,hx⟩:=lget_of_lt l hlt
  have hd:has (l.drop i) s=(x==s||has (l.drop (i+1)) s):=by rw [drop_cons hx];rfl
  refine AK.ix i (by omega) (strR_get hx) ?_
  refine AK.if_ (fun h2=>?_) (fun h2=>?_)
  ·refine AK.rt Tryz.func245 ?_
   have h3:(x==s)=true:=h2
   rw [hi.2,hd,h3];rfl
  ·have h3:(x==s)=false:=h2
   exact IH (i+1) ⟨hlt,by rw [hi.2,hd,h3];rfl⟩ (by omega) _ _ ⟨vint ((wrap_small (by omega) (by omega)).trans (by omega)),rfl,rfl,trivial⟩ rfl rfl rfl
 ·have:i=l.length:=by have:=of_decide_eq_false h;rw [strR_len] at this;omega
  refine AK.rt Tryz.func245 ?_
  rw [hi.2,this,List.drop_length];rfl
def keys:List (List UInt8):=[[97,114,114,97,121],[99,104,101,99,107],[101,108,115,101],[102,111,114],[102,114,111,109],[105,102],[108,101,110],[114,101,97,100],[115,107,105,112],[115,116,111,112],[116,111],[118,97,114],[119,104,105,108,101]]
def signs:List (List UInt8):=[[43],[45],[42],[40],[41],[91],[93],[123],[125],[59],[61],[60],[62],[63],[61,61],[33,61],[60,61],[62,61]]
theorem p_key (s:List UInt8):Pure X 204 [str s] (vb (has keys s)):=by
 refine Pure.run Tryz.func204 ?_
 refine AK.pc (p_has keys s (by decide)) ?_
 exact AK.rt Tryz.func204 rfl
theorem p_sign (s:List UInt8):Pure X 258 [str s] (vb (has signs s)):=by
 refine Pure.run Tryz.func258 ?_
 refine AK.pc (p_has signs s (by decide)) ?_
 exact AK.rt Tryz.func258 rfl
def word (s:List UInt8):Bool:=s.all fun c=>letter c||digit c
def nameS (s:List UInt8):Bool:=match s with
 | []=>false
 | c::l=>decide (l.length<8)&&letter c&&!has keys (c::l)&&word (c::l)
theorem p_name (s:List UInt8)(hs:s.length≤1000000000):Pure X 158 [str s] (vb (nameS s)):=by
 refine Pure.run Tryz.func158 ?_
 have fin:∀ {b:Bool},nameS s=b→retA [vb b]=vb (nameS s):=fun h=>by rw [h];rfl
 cases s with
 | nil =>
   refine AK.gy ?_
   refine AK.gy ?_
   refine AK.gy ?_
   refine AK.yes ?_
   exact AK.rt Tryz.func158 rfl
 | cons c l =>
   have hsz:((⟨⟨c::l⟩⟩:ByteArray).size:Int)=(l.length:Int)+1:=by show ((c::l).length:Int)=_;simp
   refine AK.gn ?_ (ht:=by rw [hsz];exact decide_eq_false (by omega))
   refine AK.gd (fun h1=>?_) (fun h1=>?_)
   ·refine AK.gy ?_
    refine AK.yes ?_
    refine AK.rt Tryz.func158 (fin ?_)
    have:=of_decide_eq_true h1
    rw [hsz] at this
    simp only [nameS]
    rw [decide_eq_false (by omega)];rfl
   ·have hl:l.length<8:=by have:=of_decide_eq_false h1;rw [hsz] at this;omega
    refine AK.by 0 (by omega) (b:=c) rfl ?_
    refine AK.pc (p_letter c) ?_
    refine AK.gd (fun h2=>?_) (fun h2=>?_)
    ·refine AK.yes ?_
     refine AK.rt Tryz.func158 (fin ?_)
     have h3:letter c=false:=by simpa using h2
     simp [nameS,h3]
    have h3:letter c=true:=by simpa using h2
    refine AK.pc (p_key (c::l)) ?_
    refine AK.if_ (fun h4=>?_) (fun h4=>?_)
    ·refine AK.rt Tryz.func158 (fin ?_)
     simp [nameS,h4]
    have hn:nameS (c::l)=word (c::l):=by simp [nameS,h3,h4,hl]
    rw [hn]
    refine AK.while_ (ι:=Nat) 0 0 (fun i=>i≤(c::l).length∧word (c::l)=word ((c::l).drop i)) (fun i=>[(3,vi i),(0,str (c::l))]) (fun _=>⟨[],[]⟩) (fun i=>(c::l).length-i) ?_ 0 ⟨Nat.zero_le _,rfl⟩
     ⟨rfl,rfl,trivial⟩ rfl rfl rfl rfl rfl (fun _=>inferInstance) (fun _=>inferInstance)
    intro i hi IH
    refine AK.ev 100 rfl ?_
    refine AK.if_ (fun h=>?_) (fun h=>?_)
    ·have hlt:i<(c::l).length:=by have:=of_decide_eq_true h;rw [hsz] at this;simp;omega
     obtain ⟨x,hx⟩:=lget_of_lt (c::l) hlt
     have hd:word ((c::l).drop i)=((letter x||digit x)&&word ((c::l).drop (i+1))):=by rw [drop_cons hx];rfl
     refine AK.by i (by omega) hx ?_
     refine AK.pc (p_letter x) ?_
     have go:(letter x||digit x)=true→∀ F' S',Sub [(3,vi (i+1:Nat)),(0,str (c::l))] F'→S'.drop 0 0=⟨[],[]⟩→Nat.ble 0 S'.boxes.length=true→Nat.ble 0 S'.toks.length=true→AK X _ _ F' S' _ :=
      fun ho=>IH (i+1) ⟨hlt,by rw [hi.2,hd,ho];rfl⟩ (by omega)
     refine AK.gd (fun h5=>?_) (fun h5=>?_)
     ·have h5':letter x=false:=by simpa using h5
      refine AK.by i (by omega) hx ?_
      refine AK.pc (p_digit x) ?_
      refine AK.if_ (fun h6=>?_) (fun h6=>?_)
      ·refine AK.rt Tryz.func158 ?_
       have h6':digit x=false:=by simpa using h6
       rw [hi.2,hd,h5',h6'];rfl
      ·have h6':digit x=true:=by simpa using h6
       exact go (by rw [h6'];simp) _ _ ⟨vint ((wrap_small (by omega) (by omega)).trans (by omega)),rfl,trivial⟩ rfl rfl rfl
     ·have h5':letter x=true:=by simpa using h5
      refine AK.no ?_
      exact go (by rw [h5'];simp) _ _ ⟨vint ((wrap_small (by omega) (by omega)).trans (by omega)),rfl,trivial⟩ rfl rfl rfl
    ·have:i=(c::l).length:=by have:=of_decide_eq_false h;rw [hsz] at this;have:=hi.1;simp at *;omega
     refine AK.rt Tryz.func158 ?_
     rw [hi.2,this,List.drop_length];rfl
theorem p_mk8 (n:Int)(h0:0≤n)(h1:n<256):IntKind.u8.wrap n=n:=by
 unfold IntKind.wrap;simp [IntKind.bits,IntKind.signed];omega
def dec (n:Nat):List UInt8:=if n<10 then [UInt8.ofNat (48+n)] else dec (n / 10)++[UInt8.ofNat (48+n % 10)]
theorem dec_len (n:Nat):(dec n).length≤n+1:=by
 induction n using Nat.strongRecOn with
 | ind n ih =>
   unfold dec
   split
   ·simp
   ·have:=ih (n / 10) (by omega)
    simp
    omega
theorem tdiv10 (n:Nat)(hn:n≤1000000000000):IntKind.i64.wrap ((n:Int).tdiv 10)=((n / 10:Nat):Int):=by
 have:(n:Int).tdiv 10=((n / 10:Nat):Int):=by rw [Int.tdiv_eq_ediv_of_nonneg (by omega)];omega
 rw [this];exact wrap_small (by omega) (by omega)
theorem digit_byte (m:Nat)(h:m<10):IntKind.u8.wrap (IntKind.i64.wrap (48+(m:Int)))=((UInt8.ofNat (48+m)).toNat:Int):=by
 rw [wrap_small (by omega) (by omega),p_mk8 _ (by omega) (by omega)]
 have:(UInt8.ofNat (48+m)).toNat=48+m:=by rw [UInt8.toNat_ofNat'];omega
 rw [this];simp
theorem p_digits (n:Nat)(hn:n≤1000000000):Pure X 44 [vi n] (str (dec n)):=by
 induction n using Nat.strongRecOn with
 | ind n ih =>
 refine Pure.run Tryz.func44 ?_
 refine AK.no ?_ (ht:=decide_eq_false (by omega))
 refine AK.no ?_ (ht:=decide_eq_false (by omega))
 refine AK.if_ (fun h=>?_) (fun h=>?_)
 ·have h':=of_decide_eq_true h
  refine AK.op (Ndo.bstr (s:=[UInt8.ofNat (48+n)]) rfl rfl rfl rfl rfl rfl rfl rfl rfl rfl ?_) ?_
  ·show [[_]]=[[_]]
   rw [digit_byte n (by omega)]
  refine AK.rt Tryz.func44 ?_
  unfold dec
  rw [if_pos (by omega)];rfl
 ·have h':=of_decide_eq_false h
  have ihq:Pure X 44 [vi (IntKind.i64.wrap ((n:Int).tdiv 10))] (str (dec (n / 10))):=by
   rw [tdiv10 n (by omega)];exact ih (n / 10) (by omega) (by omega)
  have hm:((n:Int).tmod 10)=((n % 10:Nat):Int):=by rw [Int.tmod_eq_emod_of_nonneg (by omega)];omega
  refine AK.drawn 0 (by kernel_rfl) ?_
  refine Drv.e ?_
  refine Drv.e ?_
  refine Drv.pc ihq ?_
  refine Drv.e ?_
  refine Drv.e ?_
  refine Drv.e ?_
  refine Drv.e ?_
  refine Drv.m ?_
  refine Drv.ru (fun S'=>Ndo.bstr (s:=[UInt8.ofNat (48+n % 10)]) rfl rfl rfl rfl rfl rfl rfl rfl rfl rfl ?_) ?_
  ·show [[_]]=[[_]]
   rw [hm,digit_byte (n % 10) (by omega)]
  refine Drv.ru (fun S'=>Ndo.cat rfl rfl rfl rfl rfl ?_ rfl) ?_
  ·have:=dec_len (n / 10)
   simp;omega
  refine Drv.e ?_
  refine Drv.z ?_
  refine AK.rt Tryz.func44 ?_
  conv=>rhs;unfold dec
  rw [if_neg (by omega)];rfl
theorem cb (c d:UInt8):((c.toNat:Int)==(d.toNat:Int))=(c==d):=by
 by_cases h:c=d
 ·subst h;simp
 ·have:¬ (c.toNat:Int)=(d.toNat:Int):=fun e=>h (UInt8.toNat_inj.1 (by omega))
  rw [beq_eq_false_iff_ne.2 h,beq_eq_false_iff_ne.2 this]
abbrev PG (f:Nat)(fn:Func)(K:List Item)(F:Frm)(r:AV):Prop:=AK X ⟨f,fn,0,0⟩ K F ⟨[],[]⟩ fun e S=>e=.ret r∧S=⟨[],[]⟩
def numGo (n:Int):List UInt8→Int
 | []=>if n > 1000000 then -1 else n
 | c::l=>if digit c then numGo (10*n+c.toNat-48) l else -1
def numberS (s:List UInt8):Int:=match s with
 | []=>-1
 | c::l=>if l.length > 6 then -1 else if l.length > 0&&c==48 then -1 else numGo 0 (c::l)
theorem digit_range {c:UInt8}(h:digit c=true):(48:Int)≤c.toNat∧(c.toNat:Int)≤57:=by
 simp only [digit,between,Bool.and_eq_true,decide_eq_true_eq] at h
 exact h
theorem sz_cons (c:UInt8)(l:List UInt8):((⟨⟨c::l⟩⟩:ByteArray).size:Int)=(l.length:Int)+1:=by show ((c::l).length:Int)=_;simp
theorem sz_str (s:List UInt8):((⟨⟨s⟩⟩:ByteArray).size:Int)=(s.length:Int):=rfl
theorem p_number (s:List UInt8):Pure X 231 [str s] (vi (numberS s)):=by
 refine Pure.run Tryz.func231 ?_
 have fin:∀ {b:Int},numberS s=b→retA [vi b]=vi (numberS s):=fun h=>by rw [h];rfl
 cases s with
 | nil =>
   refine AK.gy ?_
   refine AK.gy ?_
   refine AK.yes ?_
   exact AK.rt Tryz.func231 rfl
 | cons c l =>
   refine AK.gn ?_ (ht:=by rw [sz_cons];exact decide_eq_false (by omega))
   refine AK.gd (fun h1=>?_) (fun h1=>?_)
   ·refine AK.yes ?_
    refine AK.rt Tryz.func231 (fin ?_)
    have:=of_decide_eq_true h1
    rw [sz_cons] at this
    simp only [numberS];rw [if_pos (by omega)]
   have h1':¬ l.length > 6:=by have:=of_decide_eq_false h1;rw [sz_cons] at this;omega
   have L:numberS (c::l)=numGo 0 (c::l)→∀ F,Sub [(4,vi 0),(3,vi 0),(0,str (c::l))] F→PG 231 Tryz.f231 (locG true 5 Tryz.f231) F (vi (numberS (c::l))):=fun hg F hF=>by
    refine AK.at_ ?_
    refine AK.while_ (ι:=Nat × Int) 0 0 (fun i=>i.1≤(c::l).length∧0≤i.2∧i.2<10 ^ i.1∧numberS (c::l)=numGo i.2 ((c::l).drop i.1)) (fun i=>[(4,vi i.1),(3,vi i.2),(0,str (c::l))]) (fun _=>⟨[],[]⟩)
     (fun i=>(c::l).length-i.1) ?_ (0,0) ⟨Nat.zero_le _,Int.le_refl _,by simp,hg⟩ hF rfl rfl rfl rfl rfl (fun _=>inferInstance) (fun _=>inferInstance)
    rintro ⟨i,n⟩ ⟨hi,hn0,hn1,hnum⟩ IH
    simp only at hi hn0 hn1 hnum IH ⊢
    have hcl:(c::l).length=l.length+1:=rfl
    have hpow:(10:Int) ^ i≤10000000:=by
     have h7:i≤7:=by simp at hi;omega
     have:=Nat.pow_le_pow_right (show 0<10 by omega) h7
     have h10:((10 ^ i:Nat):Int)≤((10 ^ 7:Nat):Int):=Int.ofNat_le.2 this
     simpa using h10
    refine AK.ev 100 rfl ?_
    refine AK.if_ (fun h=>?_) (fun h=>?_)
    ·have hlt:i<(c::l).length:=by have:=of_decide_eq_true h;rw [sz_cons] at this;simp;omega
     obtain ⟨x,hx⟩:=lget_of_lt (c::l) hlt
     have hd:numGo n ((c::l).drop i)=if digit x then numGo (10*n+x.toNat-48) ((c::l).drop (i+1)) else -1:=by rw [drop_cons hx];rfl
     refine AK.by i (by omega) hx ?_
     refine AK.pc (p_digit x) ?_
     refine AK.if_ (fun h2=>?_) (fun h2=>?_)
     ·have h2':digit x=false:=by simpa using h2
      refine AK.rt Tryz.func231 ?_
      rw [hnum,hd,h2'];rfl
     ·have h2':digit x=true:=by simpa using h2
      obtain ⟨d1,d2⟩:=digit_range h2'
      refine AK.by i (by omega) hx ?_
      have hp1:(10:Int) ^ (i+1)=10*10 ^ i:=by rw [Int.pow_succ];omega
      refine IH (i+1,10*n+x.toNat-48) ⟨hlt,by simp only;omega,by simp only;omega,by rw [hnum,hd,h2'];rfl⟩ (by simp only;omega) _ _ ⟨vint ((wrap_small (by omega) (by omega)).trans (by simp)),vint ?_,rfl,trivial⟩ rfl rfl rfl
      rw [wrap_small (n:=10*n) (by omega) (by omega),wrap_small (n:=(x.toNat:Int)) (by omega) (by omega),wrap_small (n:=10*n+x.toNat) (by omega) (by omega),wrap_small (by omega) (by omega)]
    ·have:i=(c::l).length:=by have:=of_decide_eq_false h;rw [sz_cons] at this;simp at *;omega
     have hg2:numberS (c::l)=if n > 1000000 then -1 else n:=by rw [hnum,this,List.drop_length];rfl
     refine AK.if_ (fun h2=>?_) (fun h2=>?_)
     ·refine AK.rt Tryz.func231 ?_
      rw [hg2,if_pos (of_decide_eq_true h2)];rfl
     ·refine AK.rt Tryz.func231 ?_
      rw [hg2,if_neg (of_decide_eq_false h2)];rfl
   refine AK.gd (fun h2=>?_) (fun h2=>?_)
   ·have h2':l.length > 0:=by have:=of_decide_eq_true h2;rw [sz_cons] at this;omega
    refine AK.by 0 (by omega) (b:=c) rfl ?_
    refine AK.if_ (fun h3=>?_) (fun h3=>?_)
    ·refine AK.rt Tryz.func231 (fin ?_)
     have h3':(c==48)=true:=by rw [← cb];exact h3
     simp only [numberS];rw [if_neg h1',h3',if_pos (by simp [h2'])]
    ·have h3':(c==48)=false:=by rw [← cb];exact h3
     refine L (by simp only [numberS];rw [if_neg h1',h3'];simp) _ ?_
     exact ⟨rfl,rfl,rfl,trivial⟩
   ·have h2':¬ l.length > 0:=by have:=of_decide_eq_false h2;rw [sz_cons] at this;omega
    refine AK.no ?_
    refine L (by simp only [numberS];rw [if_neg h1',if_neg (by simp [h2'])]) _ ?_
    exact ⟨rfl,rfl,rfl,trivial⟩
def kindS (s:List UInt8):Int:=if has keys s then 4 else if nameS s then 1 else if numberS s≥0 then 2 else if has signs s then 3 else 0
theorem p_kind (s:List UInt8)(hs:s.length≤1000000000):Pure X 226 [str s] (vi (kindS s)):=by
 refine Pure.run Tryz.func226 ?_
 refine AK.pc (p_key s) ?_
 refine AK.if_ (fun h1=>?_) (fun h1=>?_)
 ·refine AK.rt Tryz.func226 ?_
  simp [kindS,h1,retA]
 refine AK.pc (p_name s hs) ?_
 refine AK.if_ (fun h2=>?_) (fun h2=>?_)
 ·refine AK.rt Tryz.func226 ?_
  simp [kindS,h1,h2,retA]
 refine AK.pc (p_number s) ?_
 refine AK.if_ (fun h3=>?_) (fun h3=>?_)
 ·refine AK.rt Tryz.func226 ?_
  have:=of_decide_eq_true h3
  simp [kindS,h1,h2,this,retA]
 have h3':=of_decide_eq_false h3
 refine AK.pc (p_sign s) ?_
 refine AK.if_ (fun h4=>?_) (fun h4=>?_)
 ·refine AK.rt Tryz.func226 ?_
  simp only [kindS,h1,h2,h4,if_neg h3',retA];rfl
 ·refine AK.rt Tryz.func226 ?_
  simp only [kindS,h1,h2,h4,if_neg h3',retA];rfl
def skipG:Bool→List UInt8→Nat
 | _,[]=>0
 | false,c::l=>if c==32||c==10 then 1+skipG false l else if c==35 then 1+skipG true l else 0
 | true,c::l=>if c==10 then 1+skipG false l else 1+skipG true l
theorem skipG_le:∀ (l:List UInt8)(b:Bool),skipG b l≤l.length
 | [],b=>by cases b<;>simp [skipG]
 | c::l,b=>by
   have h1:=skipG_le l false
   have h2:=skipG_le l true
   cases b
   ·simp only [skipG,List.length_cons]
    repeat' split
    all_goals omega
   ·simp only [skipG,List.length_cons]
    repeat' split
    all_goals omega
theorem p_skip (s:List UInt8)(a:Nat)(ha:a≤s.length)(hs:s.length≤1000000000):Pure X 224 [str s,vi a] (vi (a+skipG false (s.drop a):Nat)):=by
 refine Pure.run Tryz.func224 ?_
 generalize hT:a+skipG false (s.drop a)=T
 refine AK.while_ (ι:=Nat) 0 0 (fun i=>i≤s.length∧T=i+skipG false (s.drop i)) (fun i=>[(1,vi i),(0,str s)]) (fun _=>⟨[],[]⟩) (fun i=>s.length-i) ?_ a ⟨ha,hT.symm⟩
  ⟨rfl,rfl,trivial⟩ rfl rfl rfl rfl rfl (fun _=>inferInstance) (fun _=>inferInstance)
 intro i hi IH
 refine AK.ev 100 rfl ?_
 refine AK.if_ (fun h=>?_) (fun h=>?_)
 ·have hlt:i<s.length:=by have:=of_decide_eq_true h;rw [sz_str] at this;omega
  obtain ⟨x,hx⟩:=lget_of_lt s hlt
  have hd:skipG false (s.drop i)=if x==32||x==10 then 1+skipG false (s.drop (i+1)) else if x==35 then 1+skipG true (s.drop (i+1)) else 0:=by rw [drop_cons hx];rfl
  have hd2:skipG true (s.drop i)=if x==10 then 1+skipG false (s.drop (i+1)) else 1+skipG true (s.drop (i+1)):=by rw [drop_cons hx];rfl
  refine AK.by i (by omega) hx ?_
  refine AK.gd (fun h2=>?_) (fun h2=>?_)
  ·have h2':(x==32)=true:=by rw [← cb];exact h2
   refine AK.yes ?_
   exact IH (i+1) ⟨hlt,by rw [hi.2,hd,h2'];simp;omega⟩ (by omega) _ _ ⟨vint ((wrap_small (by omega) (by omega)).trans (by omega)),rfl,trivial⟩ rfl rfl rfl
  ·have h2':(x==32)=false:=by rw [← cb];exact h2
   refine AK.by i (by omega) hx ?_
   refine AK.if_ (fun h3=>?_) (fun h3=>?_)
   ·have h3':(x==10)=true:=by rw [← cb];exact h3
    exact IH (i+1) ⟨hlt,by rw [hi.2,hd,h2',h3'];simp;omega⟩ (by omega) _ _ ⟨vint ((wrap_small (by omega) (by omega)).trans (by omega)),rfl,trivial⟩ rfl rfl rfl
   ·have h3':(x==10)=false:=by rw [← cb];exact h3
    refine AK.by i (by omega) hx ?_
    refine AK.if_ (fun h4=>?_) (fun h4=>?_)
    ·have h4':(x==35)=true:=by rw [← cb];exact h4
     refine AK.while_ (ι:=Nat) 0 0 (fun j=>i≤j∧j≤s.length∧T=j+skipG true (s.drop j)) (fun j=>[(1,vi j),(0,str s)]) (fun _=>⟨[],[]⟩) (fun j=>s.length-j) ?_ i
      ⟨Nat.le_refl _,hi.1,by rw [hi.2,hd,hd2,h2',h3',h4'];rfl⟩ ⟨rfl,rfl,trivial⟩ rfl rfl rfl rfl rfl (fun _=>inferInstance) (fun _=>inferInstance)
     intro j hj IH2
     obtain ⟨hj1,hj2,hj3⟩:=hj
     refine AK.ev 100 rfl ?_
     refine AK.gd (fun h5=>?_) (fun h5=>?_)
     ·have hltj:j<s.length:=by have:=of_decide_eq_true h5;rw [sz_str] at this;omega
      obtain ⟨y,hy⟩:=lget_of_lt s hltj
      have hdj:skipG true (s.drop j)=if y==10 then 1+skipG false (s.drop (j+1)) else 1+skipG true (s.drop (j+1)):=by rw [drop_cons hy];rfl
      have hdf:(y==10)=true→skipG false (s.drop j)=1+skipG false (s.drop (j+1)):=fun hy10=>by rw [drop_cons hy];simp only [skipG];rw [hy10];simp
      refine AK.by j (by omega) hy ?_
      refine AK.if_ (fun h6=>?_) (fun h6=>?_)
      ·have h6':(y==10)=false:=by rw [← cb];have:(!((y.toNat:Int)==10))=true:=h6;simpa using this
       exact IH2 (j+1) ⟨by omega,hltj,by rw [hj3,hdj,h6'];simp;omega⟩ (by omega) _ _ ⟨vint ((wrap_small (by omega) (by omega)).trans (by omega)),rfl,trivial⟩ rfl rfl rfl
      ·have h6':(y==10)=true:=by rw [← cb];have:(!((y.toNat:Int)==10))=false:=h6;simpa using this
       have hne:i≠j:=fun e=>by
        subst e
        rw [hx] at hy;cases hy
        rw [h3'] at h6';cases h6'
       exact IH j ⟨hj2,by rw [hj3,hdj,h6',hdf h6'];rfl⟩ (by omega) _ _ ⟨rfl,rfl,trivial⟩ rfl rfl rfl
     ·have hje:j=s.length:=by have:=of_decide_eq_false h5;rw [sz_str] at this;omega
      refine AK.no ?_
      exact IH j ⟨hj2,by rw [hj3,hje,List.drop_length];rfl⟩ (by omega) _ _ ⟨rfl,rfl,trivial⟩ rfl rfl rfl
    ·have h4':(x==35)=false:=by rw [← cb];exact h4
     refine AK.rt Tryz.func224 ?_
     rw [hi.2,hd,h2',h3',h4'];rfl
 ·have hie:i=s.length:=by have:=of_decide_eq_false h;rw [sz_str] at this;omega
  refine AK.rt Tryz.func224 ?_
  rw [hi.2,hie,List.drop_length];rfl
def wordLen:List UInt8→Nat
 | []=>0
 | c::l=>if letter c||digit c then 1+wordLen l else 0
def endN (r:List UInt8):Nat:=match r with
 | []=>0
 | c::l=>if letter c||digit c then wordLen (c::l) else match l with
   | []=>1
   | d::_=>if has signs [c,d] then 2 else 1
theorem p_end (s:List UInt8)(a:Nat)(ha:a<s.length)(hs:s.length≤1000000000):Pure X 225 [str s,vi a] (vi (a+endN (s.drop a):Nat)):=by
 refine Pure.run Tryz.func225 ?_
 generalize hT:a+endN (s.drop a)=T
 obtain ⟨c,hc⟩:=lget_of_lt s ha
 have hd:=drop_cons hc
 have L:(letter c||digit c)=true→∀ F,Sub [(1,vi a),(0,str s)] F→PG 225 Tryz.f225 (locG true 2 Tryz.f225) F (vi T):=fun hw F hF=>by
  have hT':T=a+wordLen (s.drop a):=by rw [← hT,hd];simp only [endN];rw [hw];rfl
  refine AK.at_ ?_
  refine AK.while_ (ι:=Nat) 0 0 (fun i=>i≤s.length∧T=i+wordLen (s.drop i)) (fun i=>[(1,vi i),(0,str s)]) (fun _=>⟨[],[]⟩) (fun i=>s.length-i) ?_ a ⟨by omega,hT'⟩
   hF rfl rfl rfl rfl rfl (fun _=>inferInstance) (fun _=>inferInstance)
  intro i hi IH
  refine AK.ev 100 rfl ?_
  refine AK.gd (fun h5=>?_) (fun h5=>?_)
  ·have hlt:i<s.length:=by have:=of_decide_eq_true h5;rw [sz_str] at this;omega
   obtain ⟨y,hy⟩:=lget_of_lt s hlt
   have hdi:wordLen (s.drop i)=if letter y||digit y then 1+wordLen (s.drop (i+1)) else 0:=by rw [drop_cons hy];rfl
   refine AK.by i (by omega) hy ?_
   refine AK.pc (p_letter y) ?_
   refine AK.gd (fun h6=>?_) (fun h6=>?_)
   ·refine AK.yes ?_
    exact IH (i+1) ⟨hlt,by rw [hi.2,hdi,h6];simp;omega⟩ (by omega) _ _ ⟨vint ((wrap_small (by omega) (by omega)).trans (by omega)),rfl,trivial⟩ rfl rfl rfl
   ·refine AK.by i (by omega) hy ?_
    refine AK.pc (p_digit y) ?_
    refine AK.if_ (fun h7=>?_) (fun h7=>?_)
    ·exact IH (i+1) ⟨hlt,by rw [hi.2,hdi,h7];simp;omega⟩ (by omega) _ _ ⟨vint ((wrap_small (by omega) (by omega)).trans (by omega)),rfl,trivial⟩ rfl rfl rfl
    ·refine AK.rt Tryz.func225 ?_
     rw [hi.2,hdi,h6,h7];rfl
  ·have hie:i=s.length:=by have:=of_decide_eq_false h5;rw [sz_str] at this;omega
   refine AK.no ?_
   refine AK.rt Tryz.func225 ?_
   rw [hi.2,hie,List.drop_length];rfl
 refine AK.by a (by omega) hc ?_
 refine AK.pc (p_letter c) ?_
 refine AK.gd (fun h1=>?_) (fun h1=>?_)
 ·refine AK.yes ?_
  refine L (by rw [h1];rfl) _ ?_
  exact ⟨rfl,rfl,trivial⟩
 ·refine AK.by a (by omega) hc ?_
  refine AK.pc (p_digit c) ?_
  refine AK.if_ (fun h2=>?_) (fun h2=>?_)
  ·refine L (by rw [h2];simp) _ ?_
   exact ⟨rfl,rfl,trivial⟩
  ·have hw1:IntKind.i64.wrap ((a:Int)+1)=(a:Int)+1:=wrap_small (by omega) (by omega)
   have hw2:IntKind.i64.wrap ((a:Int)+2)=(a:Int)+2:=wrap_small (by omega) (by omega)
   have hTT:T=a+(match s.drop (a+1) with
    | []=>1
    | d::_=>if has signs [c,d] then 2 else 1):=by rw [← hT,hd];simp only [endN];rw [h1,h2];rfl
   refine AK.gd (fun h3=>?_) (fun h3=>?_)
   ·have hlt:a+1<s.length:=by have:=of_decide_eq_true h3;rw [hw1,sz_str] at this;omega
    obtain ⟨d,hdd⟩:=lget_of_lt s hlt
    rw [drop_cons hdd] at hTT
    simp only at hTT
    refine AK.op (Ndo.sub (r:=[c,d]) rfl rfl rfl rfl rfl rfl rfl rfl ?_ ?_ ?_ ?_) ?_
    ·omega
    ·rw [hw2];omega
    ·rw [hw2];omega
    ·rw [hw2]
     have e1:((a:Int)+2).toNat=a+2:=by omega
     have e2:(a:Int).toNat=a:=by omega
     rw [e1,e2,List.drop_take,hd,drop_cons hdd]
     have e3:a+2-a=2:=by omega
     rw [e3];rfl
    refine AK.pc (p_sign [c,d]) ?_
    refine AK.if_ (fun h4=>?_) (fun h4=>?_)
    ·refine AK.rt Tryz.func225 ?_
     rw [hTT,h4,hw2];simp [retA]
    ·refine AK.rt Tryz.func225 ?_
     rw [hTT,h4,hw1];simp [retA]
   ·have hge:s.length≤a+1:=by have:=of_decide_eq_false h3;rw [hw1,sz_str] at this;omega
    refine AK.no ?_
    refine AK.rt Tryz.func225 ?_
    rw [hTT,List.drop_eq_nil_of_le hge,hw1];simp [retA]
structure Wd where
 kind:Int
 text:List UInt8
 pos:Nat
def wcell (w:Wd):List AV:=[vi w.kind,str w.text,vi w.pos]
def wrows (l:List Wd):List (List AV):=l.map wcell
theorem wrows_len (l:List Wd):(wrows l).length=l.length:=by simp [wrows]
theorem wrows_al (l:List Wd):allLen 3 (wrows l)=true:=allLen_map (f:=wcell) (fun _=>rfl) l
theorem wrows_get {l:List Wd}{i:Nat}{w:Wd}(h:l[i]?=some w):(wrows l)[i]?=some (wcell w):=by simp [wrows,h]
instance {n m:Nat}{l:List Wd}:OKR n m (wrows l):=⟨fun r hr x hx=>by
 obtain ⟨s,_,rfl⟩:=List.mem_map.1 hr
 simp [wcell] at hx
 rcases hx with rfl | rfl | rfl<;>exact .val _⟩
def wordsG:Nat→Nat→List UInt8→List Wd→List Wd × Int × Nat
 | 0,_,_,out=>(out,0,0)
 | f+1,a,r,out=>match r with
   | []=>(out,0,0)
   | c::l =>
     let n:=endN (c::l)
     let t:=(c::l).take n
     let k:=kindS t
     if k==0 then ([],2,a) else if out.length==1500 then ([],3,a) else
      let b:=skipG false ((c::l).drop n)
      wordsG f (a+n+b) ((c::l).drop (n+b)) (out++[⟨k,t,a⟩])
def wordsS (s:List UInt8):List Wd × Int × Nat :=
 if s.length > 4000 then ([],1,0) else wordsG (s.length+1) (skipG false s) (s.drop (skipG false s)) []
def wordsV (o:List Wd × Int × Nat):AV:=.tup [.sl (wrows o.1) .no,.agg [vi o.2.1,vi o.2.2]]
theorem wordLen_le:∀ l:List UInt8,wordLen l≤l.length
 | []=>by simp [wordLen]
 | c::l=>by
   have:=wordLen_le l
   simp only [wordLen,List.length_cons]
   split<;>omega
theorem endN_bd (c:UInt8)(l:List UInt8):1≤endN (c::l)∧endN (c::l)≤(c::l).length:=by
 simp only [endN]
 split
 ·rename_i h
  refine ⟨?_,wordLen_le _⟩
  simp only [wordLen]
  rw [if_pos h];omega
 ·cases l with
  | nil=>simp
  | cons d l=>simp only;split<;>simp
theorem p_words (s:List UInt8)(hs:s.length≤1000000000):Pure X 176 [str s] (wordsV (wordsS s)):=by
 refine Pure.run Tryz.func176 ?_
 refine AK.if_ (fun h=>?_) (fun h=>?_)
 ·refine AK.rz Tryz.func176 ?_
  have:=of_decide_eq_true h
  rw [sz_str] at this
  simp only [wordsS];rw [if_pos (by omega)];rfl
 have hlen:¬ s.length > 4000:=by have:=of_decide_eq_false h;rw [sz_str] at this;omega
 generalize hT:wordsS s=T
 have hT':T=wordsG (s.length+1) (skipG false s) (s.drop (skipG false s)) []:=by rw [← hT];simp only [wordsS];rw [if_neg hlen]
 refine AK.pc (p_skip s 0 (Nat.zero_le _) hs) ?_
 refine AK.mint (d:=4) rfl rfl rfl ?_
 have hsk:=skipG_le s false
 refine AK.while_ (ι:=Nat × List Wd) 1 1 (fun i=>i.1≤s.length∧i.2.length≤1500∧∃ f,s.length-i.1<f∧T=wordsG f i.1 (s.drop i.1) i.2) (fun i=>[(5,vi i.1),(4,.sl (wrows i.2) (.tok 0)),(0,str s),(3,.ptr 0 0 0)])
  (fun i=>⟨[[[vi 0,vi 0]]],[i.2.length]⟩) (fun i=>s.length-i.1) ?_ (skipG false s,[]) ⟨hsk,Nat.zero_le _,s.length+1,by simp only;omega,hT'⟩
  ⟨by simp [lk],rfl,rfl,rfl,trivial⟩ rfl rfl rfl rfl rfl (fun _=>inferInstance) (fun _=>inferInstance)
 rintro ⟨a,out⟩ ⟨ha,hout,f,hf,hTa⟩ IH
 simp only at ha hout hf hTa IH ⊢
 refine AK.ev 100 rfl ?_
 refine AK.if_ (fun h=>?_) (fun h=>?_)
 ·have hlt:a<s.length:=by have:=of_decide_eq_true h;rw [sz_str] at this;omega
  obtain ⟨c,hc⟩:=lget_of_lt s hlt
  have hd:=drop_cons hc
  obtain ⟨g,rfl⟩:∃ g,f=g+1:=⟨f-1,by omega⟩
  obtain ⟨n,hn⟩:∃ n,endN (s.drop a)=n:=⟨_,rfl⟩
  have hbd:=endN_bd c (s.drop (a+1))
  rw [← hd,hn] at hbd
  have hdl:(s.drop a).length=s.length-a:=by simp
  rw [hdl] at hbd
  obtain ⟨t,ht⟩:∃ t,(s.drop a).take n=t:=⟨_,rfl⟩
  have htl:t.length≤1000000000:=by rw [← ht];simp;omega
  have hstep:T=if kindS t==0 then ([],2,a) else if out.length==1500 then ([],3,a) else
   wordsG g (a+n+skipG false (s.drop (a+n))) (s.drop (a+n+skipG false (s.drop (a+n)))) (out++[⟨kindS t,t,a⟩]):=by
   rw [hTa]
   conv=>lhs;unfold wordsG
   rw [hd]
   simp only
   rw [← hd,hn,ht,List.drop_drop,List.drop_drop]
   rw [show a+(n+skipG false (s.drop (a+n)))=a+n+skipG false (s.drop (a+n)) by omega]
  have sub:∀ {F:Frm} {ops:Array Oper} {i:Nat} {o:Oper} {ty:Nat} {p:Operand} {lo hi:Option Operand} {y:Ty} (ho:ops[i]?=some o) (hw:wantA ops F o=some true) (hop:o.op=.slice ty p lo hi none)
   (hp:opr X F p=some (str s))(hlo:bndI X F lo 0=some (a:Int))(hhi:bndI X F hi (s.length:Int)=some ((a+endN (s.drop a):Nat):Int))(hy:X.ty ty=some y)(hyk:y.k=.string){N:Nat}{S:St},Ndo X N ops i o F (str t) S S :=
   fun {F ops i o ty p lo hi y} ho hw hop hp hlo hhi hy hyk {N S}=>by
    refine Ndo.sub ho hw hop hp hlo hhi hy hyk ?_ ?_ ?_ ?_
    ·omega
    ·rw [hn];omega
    ·rw [hn];omega
    ·have e1:(((a+endN (s.drop a):Nat):Int)).toNat=a+n:=by rw [hn];omega
     have e2:(a:Int).toNat=a:=by omega
     rw [e1,e2,List.drop_take,show a+n-a=n by omega,ht]
  refine AK.pc (p_end s a hlt hs) ?_
  refine AK.op (sub rfl rfl rfl rfl rfl rfl rfl rfl) ?_
  refine AK.pc (p_kind t htl) ?_
  refine AK.if_ (fun h2=>?_) (fun h2=>?_)
  ·have h2':(kindS t==0)=true:=h2
   refine AK.rz Tryz.func176 ?_
   rw [hstep,h2'];rfl
  have h2':(kindS t==0)=false:=h2
  refine AK.if_ (fun h3=>?_) (fun h3=>?_)
  ·have h3':(out.length==1500)=true:=by
    have:(((wrows out).length:Int)==1500)=true:=h3
    rw [wrows_len] at this
    simp at this ⊢;omega
   refine AK.rz Tryz.func176 ?_
   rw [hstep,h2',h3'];rfl
  have h3':(out.length==1500)=false:=by
   have:(((wrows out).length:Int)==1500)=false:=h3
   rw [wrows_len] at this
   simp at this ⊢;omega
  have h3'':out.length≠1500:=by simpa using h3'
  refine AK.op (sub rfl rfl rfl rfl rfl rfl rfl rfl) ?_
  refine AK.op (Ndo.append (res:=wrows (out++[⟨kindS t,t,a⟩])) rfl rfl rfl rfl rfl rfl rfl rfl rfl rfl rfl rfl rfl rfl (wrows_len out) (wrows_al out) rfl rfl rfl ?_ ?_ rfl) ?_
  ·rw [wrows_len];simp;omega
  ·simp [wrows,wcell]
  have hsl:a+endN (s.drop a)≤s.length:=by rw [hn];omega
  refine AK.pc (p_skip s (a+endN (s.drop a)) hsl hs) ?_
  have hsk2:=skipG_le (s.drop (a+n)) false
  have hdl2:(s.drop (a+n)).length=s.length-(a+n):=by simp
  rw [hdl2] at hsk2
  refine IH (a+n+skipG false (s.drop (a+n)),out++[⟨kindS t,t,a⟩]) ⟨by simp only;omega,by simp;omega,g,by simp only;omega,by rw [hstep,h2',h3'];rfl⟩ (by simp only;omega) _ _ ⟨?_,rfl,rfl,rfl,trivial⟩ ?_ rfl rfl
  ·rw [← hn];rfl
  ·simp [St.drop,wrows_len]
 ·have hae:a=s.length:=by have:=of_decide_eq_false h;rw [sz_str] at this;omega
  refine AK.rz Tryz.func176 ?_
  obtain ⟨g,rfl⟩:∃ g,f=g+1:=⟨f-1,by omega⟩
  rw [hTa,hae,List.drop_length];rfl
theorem q_inRange (n lo hi:Int):Pure X 147 [vi n,vi lo,vi hi] (vb (between n lo hi)):=by
 refine Pure.run Tryz.func147 ?_
 refine AK.gd (fun h=>?_) (fun h=>?_)
 ·refine AK.rt Tryz.func147 ?_
  simp_all [between,retA]
 ·refine AK.rt Tryz.func147 ?_
  simp_all [between,retA]
  omega
theorem q_isVal (n:Int):Pure X 244 [vi n] (vb (between n (-1000000) 1000000)):=by
 refine Pure.run Tryz.func244 ?_
 refine AK.pc (q_inRange n (-1000000) 1000000) ?_
 exact AK.rt Tryz.func244 rfl
theorem q_isPlace (n m:Int)(hm:-1000000000≤m)(hm':m≤1000000000):Pure X 197 [vi n,vi m] (vb (between n 0 (m-1))):=by
 refine Pure.run Tryz.func197 ?_
 have hw:IntKind.i64.wrap (m-1)=m-1:=wrap_small (by omega) (by omega)
 have hq:=q_inRange n 0 (IntKind.i64.wrap (m-1))
 refine AK.pc hq ?_
 refine AK.rt Tryz.func197 ?_
 rw [hw];rfl
theorem q_letter (c:UInt8):Pure X 210 [vc c] (vb (letter c)):=by
 refine Pure.run Tryz.func210 ?_
 refine AK.gd (fun h=>?_) (fun h=>?_)
 ·refine AK.rt Tryz.func210 ?_
  simp_all [letter,between,retA]
 ·refine AK.rt Tryz.func210 ?_
  simp_all [letter,between,retA]
  omega
theorem q_digit (c:UInt8):Pure X 211 [vc c] (vb (digit c)):=by
 refine Pure.run Tryz.func211 ?_
 refine AK.gd (fun h=>?_) (fun h=>?_)
 ·refine AK.rt Tryz.func211 ?_
  simp_all [digit,between,retA]
 ·refine AK.rt Tryz.func211 ?_
  simp_all [digit,between,retA]
  omega
def idxS:Nat→List (List UInt8)→List UInt8→Int
 | _,[],_=>-1
 | i,x::l,s=>if s==x then i else idxS (i+1) l s
theorem idxS_has (l:List (List UInt8)):∀ (i:Nat)(s:List UInt8),decide (idxS i l s≥0)=has l s:=by
 induction l with
 | nil=>intro i s;simp [idxS,has]
 | cons x l ih =>
   intro i s
   have hb:has (x::l) s=(x==s||has l s):=rfl
   rw [hb,← ih (i+1) s]
   by_cases h:s=x
   ·subst h;simp [idxS]
   ·have h1:(s==x)=false:=by simpa using h
    have h2:(x==s)=false:=by simpa using Ne.symm h
    have:idxS i (x::l) s=idxS (i+1) l s:=by simp only [idxS];rw [if_neg (by simpa using h)]
    rw [this,h2];rfl
theorem q_index (l:List (List UInt8))(s:List UInt8)(hl:l.length≤1000000000):Pure X 249 [.sl (strR l) .no,str s] (vi (idxS 0 l s)):=by
 refine Pure.run Tryz.func249 ?_
 refine AK.while_ (ι:=Nat) 0 0 (fun i=>i≤l.length∧idxS 0 l s=idxS i (l.drop i) s) (fun i=>[(8,vi i),(7,vi l.length),(0,.sl (strR l) .no),(1,str s)]) (fun _=>⟨[],[]⟩) (fun i=>l.length-i) ?_ 0 ⟨Nat.zero_le _,rfl⟩
  ⟨rfl,by rw [← strR_len];rfl,rfl,rfl,trivial⟩ rfl rfl rfl rfl rfl (fun _=>inferInstance) (fun _=>inferInstance)
 intro i hi IH
 refine AK.ev 100 rfl ?_
 refine AK.if_ (fun h=>?_) (fun h=>?_)
 ·have hlt:i<l.length:=by have:=of_decide_eq_true h;omega
  obtain ⟨x,hx⟩:=lget_of_lt l hlt
  have hd:idxS i (l.drop i) s=if s==x then (i:Int) else idxS (i+1) (l.drop (i+1)) s:=by rw [drop_cons hx];rfl
  refine AK.ix i (by omega) (strR_get hx) ?_
  refine AK.if_ (fun h2=>?_) (fun h2=>?_)
  ·refine AK.rt Tryz.func249 ?_
   have h3:(s==x)=true:=h2
   rw [hi.2,hd,h3];rfl
  ·have h3:(s==x)=false:=h2
   exact IH (i+1) ⟨hlt,by rw [hi.2,hd,h3];rfl⟩ (by omega) _ _ ⟨vint ((wrap_small (by omega) (by omega)).trans (by omega)),rfl,rfl,rfl,trivial⟩ rfl rfl rfl
 ·have:i=l.length:=by have:=of_decide_eq_false h;omega
  refine AK.rt Tryz.func249 ?_
  rw [hi.2,this,List.drop_length];rfl
theorem q_contains (l:List (List UInt8))(s:List UInt8)(hl:l.length≤1000000000):Pure X 213 [.sl (strR l) .no,str s] (vb (has l s)):=by
 refine Pure.run Tryz.func213 ?_
 refine AK.pc (q_index l s hl) ?_
 refine AK.rt Tryz.func213 ?_
 rw [← idxS_has l 0 s];rfl
theorem q_isKey (s:List UInt8):Pure X 209 [str s] (vb (has keys s)):=by
 refine Pure.run Tryz.func209 ?_
 refine AK.pc (q_contains keys s (by decide)) ?_
 exact AK.rt Tryz.func209 rfl
def rd (ws:List Wd)(a:Int)(bad:Bool):List AV:=[.sl (wrows ws) .no,vi a,vb bad]
instance {n m:Nat}{ws:List Wd}{a:Int}{b:Bool}:OKL n m (rd ws a b):=⟨fun x hx=>by
 simp [rd] at hx
 rcases hx with rfl | rfl | rfl
 ·exact (inferInstance:OK n m (.sl (wrows ws) .no)).ok
 ·exact .val _
 ·exact .val _⟩
structure RS where
 ws:List Wd
 at_:Nat
 bad:Bool
def rc (r:RS):List AV:=rd r.ws r.at_ r.bad
instance {n m:Nat}{r:RS}:OKL n m (rc r):=⟨(inferInstance:OKL n m (rd r.ws r.at_ r.bad)).ok⟩
def RS.text (r:RS):List UInt8:=match r.ws[r.at_]? with
 | some w=>w.text
 | none=>[]
def RS.kind (r:RS):Int:=match r.ws[r.at_]? with
 | some w=>w.kind
 | none=>0
def RS.step (r:RS):RS:=⟨r.ws,r.at_+1,r.bad⟩
def RS.spoil (r:RS):RS:=⟨r.ws,r.at_,true⟩
def RS.takes (r:RS)(s:List UInt8):Bool:=!(r.bad||!(r.text==s))
def RS.take (r:RS)(s:List UInt8):RS:=if r.takes s then r.step else r
def RS.need (r:RS)(s:List UInt8):RS:=if r.takes s then r.step else r.spoil
def RS.named (r:RS):Bool:=!(r.bad||!(r.kind==1))
def RS.name (r:RS):List UInt8:=if r.named then r.text else []
def RS.nameR (r:RS):RS:=if r.named then r.step else r.spoil
def RS.ok (r:RS):Prop:=r.ws.length≤1500∧r.at_≤r.ws.length
theorem r_text (r:RS):Hands X 232 [.ptr 0 0 0] ⟨[[rc r]],[]⟩ (str r.text) ⟨[[rc r]],[]⟩:=by
 obtain ⟨ws,a,b⟩:=r
 refine Hands.run Tryz.func232 ?_
 refine AK.dr ?_
 refine AK.if_ (fun h=>?_) (fun h=>?_)
 ·have hlt:a<ws.length:=by have:=of_decide_eq_true h;simp only at this;rw [wrows_len] at this;omega
  obtain ⟨x,hx⟩:=lget_of_lt ws hlt
  refine AK.db 0 ?_
  refine Drv.ru (fun S'=>Ndo.index (r:=wcell x) rfl rfl rfl rfl rfl rfl rfl rfl rfl ?_ ?_) ?_
  ·simp
  ·exact wrows_get hx
  refine Drv.go ?_
  refine Drv.z ?_
  refine AK.rb Tryz.func232 ?_ rfl
  simp [RS.text,hx]
 ·have hge:¬ a<ws.length:=by have:=of_decide_eq_false h;simp only at this;rw [wrows_len] at this;omega
  refine AK.rb Tryz.func232 ?_ rfl
  simp [RS.text,List.getElem?_eq_none (show ws.length≤a by omega)]
theorem r_kind (r:RS):Hands X 230 [.ptr 0 0 0] ⟨[[rc r]],[]⟩ (vi r.kind) ⟨[[rc r]],[]⟩:=by
 obtain ⟨ws,a,b⟩:=r
 refine Hands.run Tryz.func230 ?_
 refine AK.dr ?_
 refine AK.if_ (fun h=>?_) (fun h=>?_)
 ·have hlt:a<ws.length:=by have:=of_decide_eq_true h;simp only at this;rw [wrows_len] at this;omega
  obtain ⟨x,hx⟩:=lget_of_lt ws hlt
  refine AK.db 0 ?_
  refine Drv.ru (fun S'=>Ndo.index (r:=wcell x) rfl rfl rfl rfl rfl rfl rfl rfl rfl ?_ ?_) ?_
  ·simp
  ·exact wrows_get hx
  refine Drv.go ?_
  refine Drv.z ?_
  refine AK.rb Tryz.func230 ?_ rfl
  simp [RS.kind,hx]
 ·have hge:¬ a<ws.length:=by have:=of_decide_eq_false h;simp only at this;rw [wrows_len] at this;omega
  refine AK.rb Tryz.func230 ?_ rfl
  simp [RS.kind,List.getElem?_eq_none (show ws.length≤a by omega)]
theorem rs_step (r:RS)(hr:r.ok):rd r.ws (IntKind.i64.wrap ((r.at_:Int)+1)) r.bad=rc r.step:=by
 have:=hr.2
 have:=hr.1
 simp only [rc,RS.step,rd]
 rw [wrap_small (by omega) (by omega)]
 simp
theorem r_take (r:RS)(s:List UInt8)(hr:r.ok):Hands X 227 [.ptr 0 0 0,str s] ⟨[[rc r]],[]⟩ (vb (r.takes s)) ⟨[[rc (r.take s)]],[]⟩:=by
 refine Hands.run Tryz.func227 ?_
 refine AK.gd (fun h=>?_) (fun h=>?_)
 ·have h':r.bad=true:=h
  refine AK.yes ?_
  have ht:r.takes s=false:=by simp [RS.takes,h']
  have hk:r.take s=r:=by simp [RS.take,ht]
  rw [ht,hk]
  exact AK.rb Tryz.func227 rfl rfl
 ·have h':r.bad=false:=h
  refine AK.hc [0] [] (r_text r) ?_
  refine AK.if_ (fun h2=>?_) (fun h2=>?_)
  ·have h2':(!(r.text==s))=true:=h2
   have ht:r.takes s=false:=by simp only [RS.takes];rw [h',h2'];rfl
   have hk:r.take s=r:=by simp [RS.take,ht]
   rw [ht,hk]
   exact AK.rb Tryz.func227 rfl rfl
  ·have h2':(!(r.text==s))=false:=h2
   have ht:r.takes s=true:=by simp only [RS.takes];rw [h',h2'];rfl
   have hk:r.take s=r.step:=by simp [RS.take,ht]
   rw [ht,hk,← rs_step r hr]
   exact AK.rb Tryz.func227 rfl rfl
theorem r_need (r:RS)(s:List UInt8)(hr:r.ok):Hands X 229 [.ptr 0 0 0,str s] ⟨[[rc r]],[]⟩ (.tup []) ⟨[[rc (r.need s)]],[]⟩:=by
 refine Hands.run Tryz.func229 ?_
 refine AK.hc [0] [] (r_take r s hr) ?_
 refine AK.if_ (fun h=>?_) (fun h=>?_)
 ·have ht:r.takes s=false:=by simpa using h
  have hk:r.take s=r:=by simp [RS.take,ht]
  have hn:r.need s=r.spoil:=by simp [RS.need,ht]
  rw [hn]
  refine AK.fb Tryz.func229 rfl ?_
  rw [hk];rfl
 ·have ht:r.takes s=true:=by simpa using h
  have hk:r.take s=r.need s:=by simp [RS.take,RS.need,ht]
  rw [← hk]
  exact AK.fb Tryz.func229 rfl rfl
theorem rs_kind (r:RS)(h:r.kind≠0):∃ w,r.ws[r.at_]?=some w∧r.kind=w.kind∧r.text=w.text:=by
 cases hw:r.ws[r.at_]? with
 | none=>simp [RS.kind,hw] at h
 | some w=>exact ⟨w,rfl,by simp [RS.kind,hw],by simp [RS.text,hw]⟩
theorem back1 (a:Nat)(ha:a≤1000000):IntKind.i64.wrap (IntKind.i64.wrap ((a:Int)+1)-1)=(a:Int):=by
 rw [wrap_small (n:=(a:Int)+1) (by omega) (by omega),wrap_small (by omega) (by omega)];omega
theorem r_name (r:RS)(hr:r.ok):Hands X 228 [.ptr 0 0 0] ⟨[[rc r]],[]⟩ (str r.name) ⟨[[rc r.nameR]],[]⟩:=by
 have bad:r.named=false→r.name=[]∧r.nameR=r.spoil:=fun h=>⟨by simp [RS.name,h],by simp [RS.nameR,h]⟩
 refine Hands.run Tryz.func228 ?_
 refine AK.gd (fun h=>?_) (fun h=>?_)
 ·have h':r.bad=true:=h
  obtain ⟨b1,b2⟩:=bad (by simp [RS.named,h'])
  refine AK.yes ?_
  rw [b1,b2]
  exact AK.rb Tryz.func228 rfl rfl
 ·have h':r.bad=false:=h
  refine AK.hc [0] [] (r_kind r) ?_
  refine AK.if_ (fun h2=>?_) (fun h2=>?_)
  ·have h2':(!(r.kind==1))=true:=h2
   obtain ⟨b1,b2⟩:=bad (by simp only [RS.named];rw [h',h2'];rfl)
   rw [b1,b2]
   exact AK.rb Tryz.func228 rfl rfl
  ·have h2':(!(r.kind==1))=false:=h2
   have hn:r.named=true:=by simp only [RS.named];rw [h',h2'];rfl
   have hk:r.kind=1:=by simpa using h2'
   obtain ⟨w,hw,_,hwt⟩:=rs_kind r (by omega)
   have e1:r.name=w.text:=by simp [RS.name,hn,hwt]
   have e2:r.nameR=r.step:=by simp [RS.nameR,hn]
   have hb:=back1 r.at_ (by have:=hr.2;have:=hr.1;omega)
   rw [e1,e2,← rs_step r hr]
   refine AK.db 0 ?_
   refine Drv.ru (fun S'=>Ndo.index (r:=wcell w) rfl rfl rfl rfl rfl rfl rfl rfl rfl ?_ ?_) ?_
   ·rw [hb];omega
   ·rw [hb];exact wrows_get hw
   refine Drv.go ?_
   refine Drv.z ?_
   exact AK.rb Tryz.func228 rfl rfl
abbrev nd (n:Nd):AV:=.agg (ncells n)
theorem p_one (k:Int)(a:Nd):Pure X 234 [vi k,nd a] (nd (.mk k [] 0 [a])):=by
 refine Pure.run Tryz.func234 ?_
 refine AK.rz Tryz.func234 ?_
 show AV.agg [_,_,_,.sl _ _]=AV.agg [_,_,_,.sl (nrows [a]) _]
 rw [nrows_map [a]];rfl
theorem p_two (k:Int)(a b:Nd):Pure X 179 [vi k,nd a,nd b] (nd (.mk k [] 0 [a,b])):=by
 refine Pure.run Tryz.func179 ?_
 refine AK.rz Tryz.func179 ?_
 show AV.agg [_,_,_,.sl _ _]=AV.agg [_,_,_,.sl (nrows [a,b]) _]
 rw [nrows_map [a,b]];rfl
def relS (s:List UInt8):Int:=if s==[60] then 11 else if s==[60,61] then 12 else if s==[62] then 13 else if s==[62,61] then 14 else if s==[61,61] then 15 else if s==[33,61] then 16 else 0
theorem p_rel (s:List UInt8):Pure X 299 [str s] (vi (relS s)):=by
 refine Pure.run Tryz.func299 ?_
 refine AK.if_ (fun h1=>?_) (fun h1=>?_)
 ·refine AK.rt Tryz.func299 ?_
  have h1':(s==[60])=true:=h1
  simp only [relS];rw [h1'];rfl
 refine AK.if_ (fun h2=>?_) (fun h2=>?_)
 ·refine AK.rt Tryz.func299 ?_
  have h1':(s==[60])=false:=h1
  have h2':(s==[60,61])=true:=h2
  simp only [relS];rw [h1',h2'];rfl
 refine AK.if_ (fun h3=>?_) (fun h3=>?_)
 ·refine AK.rt Tryz.func299 ?_
  have h1':(s==[60])=false:=h1
  have h2':(s==[60,61])=false:=h2
  have h3':(s==[62])=true:=h3
  simp only [relS];rw [h1',h2',h3'];rfl
 refine AK.if_ (fun h4=>?_) (fun h4=>?_)
 ·refine AK.rt Tryz.func299 ?_
  have h1':(s==[60])=false:=h1
  have h2':(s==[60,61])=false:=h2
  have h3':(s==[62])=false:=h3
  have h4':(s==[62,61])=true:=h4
  simp only [relS];rw [h1',h2',h3',h4'];rfl
 refine AK.if_ (fun h5=>?_) (fun h5=>?_)
 ·refine AK.rt Tryz.func299 ?_
  have h1':(s==[60])=false:=h1
  have h2':(s==[60,61])=false:=h2
  have h3':(s==[62])=false:=h3
  have h4':(s==[62,61])=false:=h4
  have h5':(s==[61,61])=true:=h5
  simp only [relS];rw [h1',h2',h3',h4',h5'];rfl
 have h1':(s==[60])=false:=h1
 have h2':(s==[60,61])=false:=h2
 have h3':(s==[62])=false:=h3
 have h4':(s==[62,61])=false:=h4
 have h5':(s==[61,61])=false:=h5
 refine AK.if_ (fun h6=>?_) (fun h6=>?_)
 ·refine AK.rt Tryz.func299 ?_
  have h6':(s==[33,61])=true:=h6
  simp only [relS];rw [h1',h2',h3',h4',h5',h6'];rfl
 ·refine AK.rt Tryz.func299 ?_
  have h6':(s==[33,61])=false:=h6
  simp only [relS];rw [h1',h2',h3',h4',h5',h6'];rfl
def nd0:Nd:=.mk 0 [] 0 []
mutual
def oneM:Nat→RS→Nd × RS
 | 0,r=>(nd0,r)
 | f+1,r =>
   if r.bad then (nd0,r)
   else if r.takes [45] then (.mk 5 [] 0 [(oneM f r.step).1],(oneM f r.step).2)
   else if r.kind==2 then (.mk 1 [] (numberS r.text) [],r.step)
   else if r.takes [40] then ((exprM f r.step).1,(exprM f r.step).2.need [41])
   else if r.takes [108,101,110] then (.mk 4 (r.step.need [40]).name 0 [],(r.step.need [40]).nameR.need [41])
   else if r.nameR.takes [91] then (.mk 3 r.name 0 [(exprM f r.nameR.step).1],(exprM f r.nameR.step).2.need [93])
   else (.mk 2 r.name 0 [],r.nameR)
def termM:Nat→RS→Nd × RS
 | 0,r=>(nd0,r)
 | f+1,r=>termL f (oneM f r).1 (oneM f r).2
def termL:Nat→Nd→RS→Nd × RS
 | 0,x,r=>(x,r)
 | f+1,x,r=>if r.takes [42] then termL f (.mk 8 [] 0 [x,(oneM f r.step).1]) (oneM f r.step).2 else (x,r)
def exprM:Nat→RS→Nd × RS
 | 0,r=>(nd0,r)
 | f+1,r=>exprL f (termM f r).1 (termM f r).2
def exprL:Nat→Nd→RS→Nd × RS
 | 0,x,r=>(x,r)
 | f+1,x,r =>
   if r.takes [43] then exprL f (.mk 6 [] 0 [x,(termM f r.step).1]) (termM f r.step).2
   else if r.takes [45] then exprL f (.mk 7 [] 0 [x,(termM f r.step).1]) (termM f r.step).2
   else (x,r)
end
def RS.after (r r':RS):Prop:=r'.ws=r.ws∧r.at_≤r'.at_∧r'.at_≤r'.ws.length
theorem after_refl {r:RS}(h:r.ok):r.after r:=⟨rfl,Nat.le_refl _,h.2⟩
theorem RS.after.ok {r r':RS}(h:r.after r')(hr:r.ok):r'.ok:=⟨by rw [h.1];exact hr.1,h.2.2⟩
theorem RS.after.trans {r r' r'':RS}(h:r.after r')(k:r'.after r''):r.after r'':=⟨k.1.trans h.1,Nat.le_trans h.2.1 k.2.1,k.2.2⟩
theorem text_lt {r:RS}(h:r.text≠[]):r.at_<r.ws.length:=by
 rcases Nat.lt_or_ge r.at_ r.ws.length with h' | h'
 ·exact h'
 ·exact absurd (by simp [RS.text,List.getElem?_eq_none h']) h
theorem kind_lt {r:RS}(h:r.kind≠0):r.at_<r.ws.length:=by
 rcases Nat.lt_or_ge r.at_ r.ws.length with h' | h'
 ·exact h'
 ·exact absurd (by simp [RS.kind,List.getElem?_eq_none h']) h
theorem takes_lt {r:RS}{s:List UInt8}(h:r.takes s=true)(hs:s≠[]):r.at_<r.ws.length∧r.text=s∧r.bad=false:=by
 simp only [RS.takes,Bool.not_eq_true',Bool.or_eq_false_iff,Bool.not_eq_false',beq_iff_eq] at h
 exact ⟨text_lt (by rw [h.2];exact hs),h.2,h.1⟩
theorem step_after {r:RS}(h:r.at_<r.ws.length):r.after r.step:=⟨rfl,Nat.le_succ _,h⟩
theorem spoil_after {r:RS}(h:r.ok):r.after r.spoil:=⟨rfl,Nat.le_refl _,h.2⟩
theorem need_after {r:RS}{s:List UInt8}(h:r.ok)(hs:s≠[]):r.after (r.need s):=by
 simp only [RS.need]
 split
 ·rename_i ht;exact step_after (takes_lt ht hs).1
 ·exact spoil_after h
theorem nameR_after {r:RS}(h:r.ok):r.after r.nameR:=by
 simp only [RS.nameR]
 split
 ·rename_i ht
  simp only [RS.named,Bool.not_eq_true',Bool.or_eq_false_iff,Bool.not_eq_false',beq_iff_eq] at ht
  exact step_after (kind_lt (by omega))
 ·exact spoil_after h
theorem exprs_after:∀ (f:Nat),(∀ r:RS,r.ok→r.after (oneM f r).2)∧(∀ r:RS,r.ok→r.after (termM f r).2)∧(∀ (x:Nd)(r:RS),r.ok→r.after (termL f x r).2)∧(∀ r:RS,r.ok→r.after (exprM f r).2)∧(∀ (x:Nd)(r:RS),r.ok→r.after (exprL f x r).2):=by
 intro f
 induction f with
 | zero=>exact ⟨fun r h=>by simp only [oneM];exact after_refl h,fun r h=>by simp only [termM];exact after_refl h,fun x r h=>by simp only [termL];exact after_refl h,fun r h=>by simp only [exprM];exact after_refl h,fun x r h=>by simp only [exprL];exact after_refl h⟩
 | succ f ih =>
   obtain ⟨i1,i2,i3,i4,i5⟩:=ih
   refine ⟨fun r h=>?_,fun r h=>?_,fun x r h=>?_,fun r h=>?_,fun x r h=>?_⟩
   ·simp only [oneM]
    split
    ·exact after_refl h
    split
    ·rename_i ht
     have a:=step_after (takes_lt ht (by simp)).1
     exact a.trans (i1 _ (a.ok h))
    split
    ·rename_i hk
     exact step_after (kind_lt (by have:r.kind=2:=by simpa using hk
                                   omega))
    split
    ·rename_i ht
     have a:=step_after (takes_lt ht (by simp)).1
     have b:=a.trans (i4 _ (a.ok h))
     exact b.trans (need_after (b.ok h) (by simp))
    split
    ·rename_i ht
     have a:=step_after (takes_lt ht (by simp)).1
     have b:=a.trans (need_after (s:=[40]) (a.ok h) (by simp))
     have c:=b.trans (nameR_after (b.ok h))
     exact c.trans (need_after (c.ok h) (by simp))
    have a:=nameR_after h
    split
    ·rename_i ht
     have b:=a.trans (step_after (takes_lt ht (by simp)).1)
     have c:=b.trans (i4 _ (b.ok h))
     exact c.trans (need_after (c.ok h) (by simp))
    ·exact a
   ·simp only [termM]
    have a:=i1 r h
    exact a.trans (i3 _ _ (a.ok h))
   ·simp only [termL]
    split
    ·rename_i ht
     have a:=step_after (takes_lt ht (by simp)).1
     have b:=a.trans (i1 _ (a.ok h))
     exact b.trans (i3 _ _ (b.ok h))
    ·exact after_refl h
   ·simp only [exprM]
    have a:=i2 r h
    exact a.trans (i5 _ _ (a.ok h))
   ·simp only [exprL]
    split
    ·rename_i ht
     have a:=step_after (takes_lt ht (by simp)).1
     have b:=a.trans (i2 _ (a.ok h))
     exact b.trans (i5 _ _ (b.ok h))
    split
    ·rename_i ht
     have a:=step_after (takes_lt ht (by simp)).1
     have b:=a.trans (i2 _ (a.ok h))
     exact b.trans (i5 _ _ (b.ok h))
    ·exact after_refl h
abbrev zN:List AV:=[vi 0,str [],vi 0,.sl [] .tight]
def RS.left (r:RS):Nat:=r.ws.length-r.at_
theorem left_after {r r':RS}(h:r.after r'):r'.left≤r.left:=by have:=h.1;have:=h.2.1;simp only [RS.left,h.1];omega
theorem left_step {r:RS}(h:r.at_<r.ws.length):r.step.left+1=r.left:=by simp only [RS.left,RS.step];omega
def HOne (f:Nat):Prop:=∀ r:RS,r.ok→4*r.left+1≤f→Hands X 317 [.ptr 0 0 0] ⟨[[rc r]],[]⟩ (nd (oneM f r).1) ⟨[[rc (oneM f r).2]],[]⟩
def HTerm (f:Nat):Prop:=∀ r:RS,r.ok→4*r.left+2≤f→Hands X 300 [.ptr 0 0 0] ⟨[[rc r]],[]⟩ (nd (termM f r).1) ⟨[[rc (termM f r).2]],[]⟩
def HExpr (f:Nat):Prop:=∀ r:RS,r.ok→4*r.left+3≤f→Hands X 277 [.ptr 0 0 0] ⟨[[rc r]],[]⟩ (nd (exprM f r).1) ⟨[[rc (exprM f r).2]],[]⟩
theorem r_term (f:Nat)(ih:∀ g,g<f→HOne g):HTerm f:=by
 intro r hr hf
 obtain ⟨g,rfl⟩:∃ g,f=g+1:=⟨f-1,by omega⟩
 have a1:=(exprs_after g).1 r hr
 have l1:=left_after a1
 refine Hands.run Tryz.func300 ?_
 refine AK.hc [0] [] (ih g (by omega) r hr (by omega)) ?_
 obtain ⟨x0,hx0⟩:∃ x0,(oneM g r).1=x0:=⟨_,rfl⟩
 obtain ⟨r0,hr0⟩:∃ r0,(oneM g r).2=r0:=⟨_,rfl⟩
 have hT:termM (g+1) r=termL g x0 r0:=by simp only [termM];rw [hx0,hr0]
 rw [hT,hx0,hr0]
 rw [hr0] at a1 l1
 generalize hTT:termL g x0 r0=T
 refine AK.while_ (ι:=Nat × Nd × RS) 3 0 (fun i=>i.2.2.ok∧4*i.2.2.left+1≤i.1∧i.1≤g∧T=termL i.1 i.2.1 i.2.2) (fun i=>[(0,.ptr 0 0 0),(2,.ptr 1 0 0),(3,.ptr 2 0 0)])
  (fun i=>⟨[[rc i.2.2],[zN],[ncells i.2.1]],[]⟩) (fun i=>i.1) ?_ (g,x0,r0) ⟨a1.ok hr,by simp only;omega,Nat.le_refl _,hTT.symm⟩ ⟨rfl,rfl,rfl,trivial⟩ rfl rfl rfl rfl rfl (fun _=>inferInstance) (fun _=>inferInstance)
 rintro ⟨n,x,q⟩ ⟨hq,hn,hng,hTn⟩ IH
 simp only at hq hn hng hTn IH ⊢
 obtain ⟨m,rfl⟩:∃ m,n=m+1:=⟨n-1,by omega⟩
 refine AK.ev 100 rfl ?_
 refine AK.hc [0] [] (r_take q [42] hq) ?_
 refine AK.if_ (fun h=>?_) (fun h=>?_)
 ·have ht:=takes_lt h (by simp)
  have hk:q.take [42]=q.step:=by simp [RS.take,h]
  have asx:=step_after ht.1
  have ls:=left_step ht.1
  have ao:=(exprs_after m).1 q.step (asx.ok hq)
  have lo:=left_after ao
  rw [hk]
  refine AK.hc [0] [] (ih m (by omega) q.step (asx.ok hq) (by omega)) ?_
  refine AK.pc (p_two 8 x (oneM m q.step).1) ?_
  refine IH (m,.mk 8 [] 0 [x,(oneM m q.step).1],(oneM m q.step).2) ⟨ao.ok (asx.ok hq),by simp only;omega,by simp only;omega,?_⟩ (by simp only;omega) _ _ ⟨rfl,rfl,rfl,trivial⟩ rfl rfl rfl
  rw [hTn];simp only [termL];rw [if_pos h]
 ·have hk:q.take [42]=q:=by simp [RS.take,h]
  have:T=(x,q):=by rw [hTn];simp only [termL];rw [if_neg (by simp [h])]
  rw [this,hk]
  exact AK.rb Tryz.func300 rfl rfl
theorem r_expr (f:Nat)(ih:∀ g,g<f→HTerm g):HExpr f:=by
 intro r hr hf
 obtain ⟨g,rfl⟩:∃ g,f=g+1:=⟨f-1,by omega⟩
 have a1:=(exprs_after g).2.1 r hr
 have l1:=left_after a1
 refine Hands.run Tryz.func277 ?_
 refine AK.hc [0] [] (ih g (by omega) r hr (by omega)) ?_
 obtain ⟨x0,hx0⟩:∃ x0,(termM g r).1=x0:=⟨_,rfl⟩
 obtain ⟨r0,hr0⟩:∃ r0,(termM g r).2=r0:=⟨_,rfl⟩
 have hT:exprM (g+1) r=exprL g x0 r0:=by simp only [exprM];rw [hx0,hr0]
 rw [hT,hx0,hr0]
 rw [hr0] at a1 l1
 generalize hTT:exprL g x0 r0=T
 refine AK.while_ (ι:=Nat × Nd × RS) 3 0 (fun i=>i.2.2.ok∧4*i.2.2.left+1≤i.1∧i.1≤g∧T=exprL i.1 i.2.1 i.2.2) (fun i=>[(0,.ptr 0 0 0),(2,.ptr 1 0 0),(3,.ptr 2 0 0)])
  (fun i=>⟨[[rc i.2.2],[zN],[ncells i.2.1]],[]⟩) (fun i=>i.1) ?_ (g,x0,r0) ⟨a1.ok hr,by simp only;omega,Nat.le_refl _,hTT.symm⟩ ⟨rfl,rfl,rfl,trivial⟩ rfl rfl rfl rfl rfl (fun _=>inferInstance) (fun _=>inferInstance)
 rintro ⟨n,x,q⟩ ⟨hq,hn,hng,hTn⟩ IH
 simp only at hq hn hng hTn IH ⊢
 obtain ⟨m,rfl⟩:∃ m,n=m+1:=⟨n-1,by omega⟩
 refine AK.ev 100 rfl ?_
 refine AK.hc [0] [] (r_take q [43] hq) ?_
 refine AK.if_ (fun h=>?_) (fun h=>?_)
 ·have ht:=takes_lt h (by simp)
  have hk:q.take [43]=q.step:=by simp [RS.take,h]
  have asx:=step_after ht.1
  have ls:=left_step ht.1
  have ao:=(exprs_after m).2.1 q.step (asx.ok hq)
  have lo:=left_after ao
  rw [hk]
  refine AK.hc [0] [] (ih m (by omega) q.step (asx.ok hq) (by omega)) ?_
  refine AK.pc (p_two 6 x (termM m q.step).1) ?_
  refine IH (m,.mk 6 [] 0 [x,(termM m q.step).1],(termM m q.step).2) ⟨ao.ok (asx.ok hq),by simp only;omega,by simp only;omega,?_⟩ (by simp only;omega) _ _ ⟨rfl,rfl,rfl,trivial⟩ rfl rfl rfl
  rw [hTn];simp only [exprL];rw [if_pos h]
 have hk:q.take [43]=q:=by simp [RS.take,h]
 rw [hk]
 refine AK.hc [0] [] (r_take q [45] hq) ?_
 refine AK.if_ (fun h2=>?_) (fun h2=>?_)
 ·have ht:=takes_lt h2 (by simp)
  have hk:q.take [45]=q.step:=by simp [RS.take,h2]
  have asx:=step_after ht.1
  have ls:=left_step ht.1
  have ao:=(exprs_after m).2.1 q.step (asx.ok hq)
  have lo:=left_after ao
  rw [hk]
  refine AK.hc [0] [] (ih m (by omega) q.step (asx.ok hq) (by omega)) ?_
  refine AK.pc (p_two 7 x (termM m q.step).1) ?_
  refine IH (m,.mk 7 [] 0 [x,(termM m q.step).1],(termM m q.step).2) ⟨ao.ok (asx.ok hq),by simp only;omega,by simp only;omega,?_⟩ (by simp only;omega) _ _ ⟨rfl,rfl,rfl,trivial⟩ rfl rfl rfl
  rw [hTn];simp only [exprL];rw [if_neg (by simp [h]),if_pos h2]
 ·have hk:q.take [45]=q:=by simp [RS.take,h2]
  have:T=(x,q):=by rw [hTn];simp only [exprL];rw [if_neg (by simp [h]),if_neg (by simp [h2])]
  rw [this,hk]
  exact AK.rb Tryz.func277 rfl rfl
theorem r_one (f:Nat)(ih:∀ g,g<f→HOne g)(ihe:∀ g,g<f→HExpr g):HOne f:=by
 intro r hr hf
 obtain ⟨g,rfl⟩:∃ g,f=g+1:=⟨f-1,by omega⟩
 refine Hands.run Tryz.func317 ?_
 refine AK.if_ (fun h=>?_) (fun h=>?_)
 ·have h':r.bad=true:=h
  have hT:oneM (g+1) r=(nd0,r):=by simp only [oneM];rw [if_pos h']
  rw [hT]
  exact AK.rb Tryz.func317 rfl rfl
 have h':r.bad=false:=h
 refine AK.hc [0] [] (r_take r [45] hr) ?_
 refine AK.if_ (fun h1=>?_) (fun h1=>?_)
 ·have ht:=takes_lt h1 (by simp)
  have hk:r.take [45]=r.step:=by simp [RS.take,h1]
  have asx:=step_after ht.1
  have ls:=left_step ht.1
  have hT:oneM (g+1) r=(.mk 5 [] 0 [(oneM g r.step).1],(oneM g r.step).2):=by simp only [oneM];rw [if_neg (by simp [h']),if_pos h1]
  rw [hk,hT]
  refine AK.hc [0] [] (ih g (by omega) r.step (asx.ok hr) (by omega)) ?_
  refine AK.pc (p_one 5 (oneM g r.step).1) ?_
  exact AK.rb Tryz.func317 rfl rfl
 have hk1:r.take [45]=r:=by simp [RS.take,h1]
 rw [hk1]
 refine AK.hc [0] [] (r_kind r) ?_
 refine AK.if_ (fun h2=>?_) (fun h2=>?_)
 ·have h2':r.kind=2:=by have:(r.kind==2)=true:=h2;simpa using this
  obtain ⟨w,hw,_,hwt⟩:=rs_kind r (by omega)
  have hT:oneM (g+1) r=(.mk 1 [] (numberS w.text) [],r.step):=by simp only [oneM];rw [if_neg (by simp [h']),if_neg (by simp [h1]),if_pos (by simp [h2']),hwt]
  have hb:=back1 r.at_ (by have:=hr.2;have:=hr.1;omega)
  rw [hT,← rs_step r hr]
  refine AK.db 16384 ?_
  refine Drv.ru (fun S'=>Ndo.index (r:=wcell w) rfl rfl rfl rfl rfl rfl rfl rfl rfl ?_ ?_) ?_
  ·rw [hb];omega
  ·rw [hb];exact wrows_get hw
  refine Drv.go ?_
  refine Drv.pc (p_number w.text) ?_
  refine Drv.e ?_
  refine Drv.w (Ndo.store rfl rfl rfl rfl rfl rfl rfl) ?_
  refine Drv.z ?_
  exact AK.rb Tryz.func317 rfl rfl
 have h2':¬ (r.kind==2)=true:=by have:(r.kind==2)=false:=h2;simp [this]
 refine AK.hc [0] [] (r_take r [40] hr) ?_
 refine AK.if_ (fun h3=>?_) (fun h3=>?_)
 ·have ht:=takes_lt h3 (by simp)
  have hk:r.take [40]=r.step:=by simp [RS.take,h3]
  have asx:=step_after ht.1
  have ls:=left_step ht.1
  have ae:=asx.trans ((exprs_after g).2.2.2.1 r.step (asx.ok hr))
  have hT:oneM (g+1) r=((exprM g r.step).1,(exprM g r.step).2.need [41]):=by simp only [oneM];rw [if_neg (by simp [h']),if_neg (by simp [h1]),if_neg h2',if_pos h3]
  rw [hk,hT]
  refine AK.hc [0] [] (ihe g (by omega) r.step (asx.ok hr) (by omega)) ?_
  refine AK.hc [0] [] (r_need (exprM g r.step).2 [41] (ae.ok hr)) ?_
  exact AK.rb Tryz.func317 rfl rfl
 have hk3:r.take [40]=r:=by simp [RS.take,h3]
 rw [hk3]
 refine AK.hc [0] [] (r_take r [108,101,110] hr) ?_
 refine AK.if_ (fun h4=>?_) (fun h4=>?_)
 ·have ht:=takes_lt h4 (by simp)
  have hk:r.take [108,101,110]=r.step:=by simp [RS.take,h4]
  have asx:=step_after ht.1
  have a2:=asx.trans (need_after (s:=[40]) (asx.ok hr) (by simp))
  have a3:=a2.trans (nameR_after (a2.ok hr))
  have hT:oneM (g+1) r=(.mk 4 (r.step.need [40]).name 0 [],(r.step.need [40]).nameR.need [41]):=by simp only [oneM];rw [if_neg (by simp [h']),if_neg (by simp [h1]),if_neg h2',if_neg (by simp [h3]),if_pos h4]
  rw [hk,hT]
  refine AK.hc [0] [] (r_need r.step [40] (asx.ok hr)) ?_
  refine AK.hc [0] [] (r_name (r.step.need [40]) (a2.ok hr)) ?_
  refine AK.hc [0] [] (r_need (r.step.need [40]).nameR [41] (a3.ok hr)) ?_
  exact AK.rb Tryz.func317 rfl rfl
 have hk4:r.take [108,101,110]=r:=by simp [RS.take,h4]
 rw [hk4]
 have an:=nameR_after hr
 have ln:=left_after an
 refine AK.hc [0] [] (r_name r hr) ?_
 refine AK.hc [0] [] (r_take r.nameR [91] (an.ok hr)) ?_
 refine AK.if_ (fun h5=>?_) (fun h5=>?_)
 ·have ht:=takes_lt h5 (by simp)
  have hk:r.nameR.take [91]=r.nameR.step:=by simp [RS.take,h5]
  have asx:=step_after ht.1
  have ls:=left_step ht.1
  have a2:=an.trans asx
  have ae:=a2.trans ((exprs_after g).2.2.2.1 r.nameR.step (a2.ok hr))
  have hT:oneM (g+1) r=(.mk 3 r.name 0 [(exprM g r.nameR.step).1],(exprM g r.nameR.step).2.need [93]):=by
   simp only [oneM];rw [if_neg (by simp [h']),if_neg (by simp [h1]),if_neg h2',if_neg (by simp [h3]),if_neg (by simp [h4]),if_pos h5]
  rw [hk,hT]
  refine AK.hc [0] [] (ihe g (by omega) r.nameR.step (a2.ok hr) (by omega)) ?_
  refine AK.pc (p_one 3 (exprM g r.nameR.step).1) ?_
  refine AK.hc [0] [] (r_need (exprM g r.nameR.step).2 [93] (ae.ok hr)) ?_
  exact AK.rb Tryz.func317 rfl rfl
 ·have hk:r.nameR.take [91]=r.nameR:=by simp [RS.take,h5]
  have hT:oneM (g+1) r=(.mk 2 r.name 0 [],r.nameR):=by
   simp only [oneM];rw [if_neg (by simp [h']),if_neg (by simp [h1]),if_neg h2',if_neg (by simp [h3]),if_neg (by simp [h4]),if_neg (by simp [h5])]
  rw [hk,hT]
  exact AK.rb Tryz.func317 rfl rfl
theorem r_exprs:∀ f,HOne f∧HTerm f∧HExpr f:=by
 intro f
 induction f using Nat.strongRecOn with
 | ind f ih =>
   exact ⟨r_one f (fun g h=>(ih g h).1) (fun g h=>(ih g h).2.2),r_term f (fun g h=>(ih g h).1),r_expr f (fun g h=>(ih g h).2.1)⟩
def exprR (r:RS):Nd × RS:=exprM 6010 r
theorem exprR_after {r:RS}(h:r.ok):r.after (exprR r).2:=(exprs_after 6010).2.2.2.1 r h
theorem r_exprR (r:RS)(h:r.ok):Hands X 277 [.ptr 0 0 0] ⟨[[rc r]],[]⟩ (nd (exprR r).1) ⟨[[rc (exprR r).2]],[]⟩ :=
 (r_exprs 6010).2.2 r h (by have:=h.1;simp only [RS.left];omega)
def condR (r:RS):Nd × RS :=
 if (exprR r).2.bad||relS (exprR r).2.text==0 then (nd0,(exprR r).2.spoil)
 else (.mk (relS (exprR r).2.text) [] 0 [(exprR r).1,(exprR (exprR r).2.step).1],(exprR (exprR r).2.step).2)
theorem relS_text {r:RS}(h:relS r.text≠0):r.at_<r.ws.length:=text_lt fun e=>h (by rw [e];rfl)
theorem condR_after {r:RS}(h:r.ok):r.after (condR r).2:=by
 have a:=exprR_after h
 simp only [condR]
 split
 ·exact a.trans (spoil_after (a.ok h))
 ·rename_i hc
  simp only [Bool.or_eq_true,not_or,beq_iff_eq] at hc
  have b:=a.trans (step_after (relS_text hc.2))
  exact b.trans (exprR_after (b.ok h))
theorem r_cond (r:RS)(hr:r.ok):Hands X 275 [.ptr 0 0 0] ⟨[[rc r]],[]⟩ (nd (condR r).1) ⟨[[rc (condR r).2]],[]⟩:=by
 have a:=exprR_after hr
 refine Hands.run Tryz.func275 ?_
 refine AK.hc [0] [] (r_exprR r hr) ?_
 obtain ⟨x,hx⟩:∃ x,(exprR r).1=x:=⟨_,rfl⟩
 obtain ⟨q,hq⟩:∃ q,(exprR r).2=q:=⟨_,rfl⟩
 have hT:condR r=if q.bad||relS q.text==0 then (nd0,q.spoil) else (.mk (relS q.text) [] 0 [x,(exprR q.step).1],(exprR q.step).2):=by simp only [condR];rw [hx,hq]
 rw [hT,hx,hq]
 rw [hq] at a
 refine AK.hc [0] [] (r_text q) ?_
 refine AK.pc (p_rel q.text) ?_
 refine AK.gd (fun h=>?_) (fun h=>?_)
 ·have h':q.bad=true:=h
  refine AK.yes ?_
  rw [if_pos (by simp [h'])]
  exact AK.rb Tryz.func275 rfl rfl
 have h':q.bad=false:=h
 refine AK.if_ (fun h2=>?_) (fun h2=>?_)
 ·have h2':(relS q.text==0)=true:=h2
  rw [if_pos (by simp only [h',h2'];rfl)]
  exact AK.rb Tryz.func275 rfl rfl
 ·have h2':(relS q.text==0)=false:=h2
  have hne:relS q.text≠0:=by simpa using h2'
  have b:=a.trans (step_after (relS_text hne))
  have qo:=a.ok hr
  rw [if_neg (by simp only [h',h2'];decide)]
  have hw:rd q.ws (IntKind.i64.wrap ((q.at_:Int)+1)) q.bad=rc q.step:=rs_step q qo
  have hrun:=r_exprR q.step (b.ok hr)
  rw [← hw] at hrun
  refine AK.hc [0] [] hrun ?_
  refine AK.pc (p_two (relS q.text) x (exprR q.step).1) ?_
  exact AK.rb Tryz.func275 rfl rfl
abbrev wIf:List UInt8:=[105,102]
abbrev wElse:List UInt8:=[101,108,115,101]
abbrev wWhile:List UInt8:=[119,104,105,108,101]
abbrev wFor:List UInt8:=[102,111,114]
abbrev wFrom:List UInt8:=[102,114,111,109]
abbrev wTo:List UInt8:=[116,111]
abbrev wCheck:List UInt8:=[99,104,101,99,107]
abbrev wRead:List UInt8:=[114,101,97,100]
abbrev wSkip:List UInt8:=[115,107,105,112]
abbrev wStop:List UInt8:=[115,116,111,112]
abbrev wVar:List UInt8:=[118,97,114]
abbrev wArray:List UInt8:=[97,114,114,97,121]
def setR (r:RS):Nd × RS :=
 if r.nameR.takes [91] then
  (.mk 22 r.name 0 [(exprR r.nameR.step).1,(exprR (((exprR r.nameR.step).2.need [93]).need [61])).1],(exprR (((exprR r.nameR.step).2.need [93]).need [61])).2)
 else (.mk 21 r.name 0 [(exprR (r.nameR.need [61])).1],(exprR (r.nameR.need [61])).2)
def simpleR (r:RS):Nd × RS :=
 if r.takes wCheck then (.mk 27 [] 0 [(condR r.step).1],(condR r.step).2)
 else if r.takes wRead then (.mk 23 r.step.name 0 [],r.step.nameR)
 else if r.takes wSkip then (.mk 28 [] 0 [],r.step)
 else if r.takes wStop then (.mk 29 [] 0 [],r.step)
 else setR r
def forA (r:RS):RS:=r.nameR.need wFrom
def forB (r:RS):RS:=(exprR (forA r)).2.need wTo
mutual
def stmtM:Nat→RS→Nd × RS
 | 0,r=>(nd0,r)
 | f+1,r =>
   if r.takes wIf then
    if (blockM f (condR r.step).2).2.takes wElse then
     (.mk 24 [] 0 [(condR r.step).1,(blockM f (condR r.step).2).1,(blockM f (blockM f (condR r.step).2).2.step).1],(blockM f (blockM f (condR r.step).2).2.step).2)
    else (.mk 24 [] 0 [(condR r.step).1,(blockM f (condR r.step).2).1,.mk 30 [] 0 []],(blockM f (condR r.step).2).2)
   else if r.takes wWhile then (.mk 25 [] 0 [(condR r.step).1,(blockM f (condR r.step).2).1],(blockM f (condR r.step).2).2)
   else if r.takes wFor then
    (.mk 26 r.step.name 0 [(exprR (forA r.step)).1,(exprR (forB r.step)).1,(blockM f (exprR (forB r.step)).2).1],(blockM f (exprR (forB r.step)).2).2)
   else ((simpleR r).1,(simpleR r).2.need [59])
def blockM:Nat→RS→Nd × RS
 | 0,r=>(nd0,r)
 | f+1,r=>(.mk 30 [] 0 (listM f [] (r.need [123])).1,(listM f [] (r.need [123])).2.need [125])
def listM:Nat→List Nd→RS→List Nd × RS
 | 0,acc,r=>(acc,r)
 | f+1,acc,r=>if !r.bad&&decide (r.at_<r.ws.length)&&!(r.text==[125]) then listM f (acc++[(stmtM f r).1]) (stmtM f r).2 else (acc,r)
end
theorem setR_after {r:RS}(h:r.ok):r.after (setR r).2:=by
 have a:=nameR_after h
 simp only [setR]
 split
 ·rename_i ht
  have b:=a.trans (step_after (takes_lt ht (by simp)).1)
  have c:=b.trans (exprR_after (b.ok h))
  have d:=c.trans (need_after (s:=[93]) (c.ok h) (by simp))
  have e:=d.trans (need_after (s:=[61]) (d.ok h) (by simp))
  exact e.trans (exprR_after (e.ok h))
 ·have b:=a.trans (need_after (s:=[61]) (a.ok h) (by simp))
  exact b.trans (exprR_after (b.ok h))
theorem simpleR_after {r:RS}(h:r.ok):r.after (simpleR r).2:=by
 simp only [simpleR]
 split
 ·rename_i ht
  have b:=step_after (takes_lt ht (by simp)).1
  exact b.trans (condR_after (b.ok h))
 split
 ·rename_i ht
  have b:=step_after (takes_lt ht (by simp)).1
  exact b.trans (nameR_after (b.ok h))
 split
 ·rename_i ht
  exact step_after (takes_lt ht (by simp)).1
 split
 ·rename_i ht
  exact step_after (takes_lt ht (by simp)).1
 exact setR_after h
theorem forA_after {r:RS}(h:r.ok):r.after (forA r):=by
 have a:=nameR_after h
 exact a.trans (need_after (a.ok h) (by simp))
theorem forB_after {r:RS}(h:r.ok):r.after (forB r):=by
 have a:=forA_after h
 have b:=a.trans (exprR_after (a.ok h))
 exact b.trans (need_after (b.ok h) (by simp))
theorem stmts_after:∀ (f:Nat),(∀ r:RS,r.ok→r.after (stmtM f r).2)∧(∀ r:RS,r.ok→r.after (blockM f r).2)∧(∀ (acc:List Nd)(r:RS),r.ok→r.after (listM f acc r).2):=by
 intro f
 induction f with
 | zero=>exact ⟨fun r h=>by simp only [stmtM];exact after_refl h,fun r h=>by simp only [blockM];exact after_refl h,fun x r h=>by simp only [listM];exact after_refl h⟩
 | succ f ih =>
   obtain ⟨i1,i2,i3⟩:=ih
   refine ⟨fun r h=>?_,fun r h=>?_,fun acc r h=>?_⟩
   ·simp only [stmtM]
    split
    ·rename_i ht
     have b:=step_after (takes_lt ht (by simp)).1
     have c:=b.trans (condR_after (b.ok h))
     have d:=c.trans (i2 _ (c.ok h))
     split
     ·rename_i ht2
      have e:=d.trans (step_after (takes_lt ht2 (by simp)).1)
      exact e.trans (i2 _ (e.ok h))
     ·exact d
    split
    ·rename_i ht
     have b:=step_after (takes_lt ht (by simp)).1
     have c:=b.trans (condR_after (b.ok h))
     exact c.trans (i2 _ (c.ok h))
    split
    ·rename_i ht
     have b:=step_after (takes_lt ht (by simp)).1
     have c:=b.trans (forB_after (b.ok h))
     have d:=c.trans (exprR_after (c.ok h))
     exact d.trans (i2 _ (d.ok h))
    ·have a:=simpleR_after h
     exact a.trans (need_after (a.ok h) (by simp))
   ·simp only [blockM]
    have a:=need_after (s:=[123]) h (by simp)
    have b:=a.trans (i3 [] _ (a.ok h))
    exact b.trans (need_after (b.ok h) (by simp))
   ·simp only [listM]
    split
    ·have a:=i1 r h
     exact a.trans (i3 _ _ (a.ok h))
    ·exact after_refl h
def HStmt (f:Nat):Prop:=∀ r:RS,r.ok→3*r.left+1≤f→f≤100000→Hands X 259 [.ptr 0 0 0] ⟨[[rc r]],[]⟩ (nd (stmtM f r).1) ⟨[[rc (stmtM f r).2]],[]⟩
def HBlock (f:Nat):Prop:=∀ r:RS,r.ok→3*r.left+3≤f→f≤100000→Hands X 276 [.ptr 0 0 0] ⟨[[rc r]],[]⟩ (nd (blockM f r).1) ⟨[[rc (blockM f r).2]],[]⟩
def HList (f:Nat):Prop:=∀ r:RS,r.ok→3*r.left+2≤f→f≤100000→Hands X 233 [.ptr 0 0 0] ⟨[[rc r]],[]⟩ (nd (.mk 30 [] 0 (listM f [] r).1)) ⟨[[rc (listM f [] r).2]],[]⟩
theorem r_block (f:Nat)(ih:∀ g,g<f→HList g):HBlock f:=by
 intro r hr hf hF
 obtain ⟨g,rfl⟩:∃ g,f=g+1:=⟨f-1,by omega⟩
 have a:=need_after (s:=[123]) hr (by simp)
 have la:=left_after a
 have b:=a.trans ((stmts_after g).2.2 [] _ (a.ok hr))
 refine Hands.run Tryz.func276 ?_
 simp only [blockM]
 refine AK.hc [0] [] (r_need r [123] hr) ?_
 refine AK.hc [0] [] (ih g (by omega) (r.need [123]) (a.ok hr) (by omega) (by omega)) ?_
 refine AK.hc [0] [] (r_need (listM g [] (r.need [123])).2 [125] (b.ok hr)) ?_
 exact AK.rb Tryz.func276 rfl rfl
theorem nd_eq (k:Int)(s:List UInt8)(m:Int)(ks:List Nd):nd (.mk k s m ks)=.agg [vi k,str s,vi m,.sl (ks.map ncells) .no]:=by
 show AV.agg [_,_,_,.sl (nrows ks) _]=_
 rw [nrows_map];rfl
end Go.V
