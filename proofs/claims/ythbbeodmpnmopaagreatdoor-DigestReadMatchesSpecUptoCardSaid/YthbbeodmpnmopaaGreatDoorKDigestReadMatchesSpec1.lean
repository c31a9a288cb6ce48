/- Part 1 of the proof of the law DigestReadMatchesSpec: what it needs. -/
import Derived.Test.YthbbeodmpnmopaaGreatDoorProg
import Derived.Lib.ItoaNum
import Derived.Lib.DecodeN
import Derived.WalkKit
import Derived.TacticsIn
import Derived.OrdersIn
import Derived.OwnWalkIn
import Derived.LoopNIn
import Derived.Laws.Strings
import Derived.Laws.Strings2
import Derived.Laws.Concat
import Derived.Laws.Cells
import Derived.Laws.CopyRow
import Derived.RangeFuncLeaves
import Derived.Laws.AppendOwn
import Derived.Lib.AppendStr
import Derived.Laws.BytesArg
import Derived.Lib.SlBytesConst
import Derived.Orders
import Derived.RangeFuncIn
import Derived.RangeFuncRecord
set_option linter.unusedVariables false
set_option linter.unusedSimpArgs false
namespace Go.Proofs.YthbbeodmpnmopaaGreatDoor
open Go.RowKit
theorem jAc:type_of% @Option.bind_some:=@Option.bind_some
theorem jAd:type_of% @List.getElem?_eq_some_iff:=@List.getElem?_eq_some_iff
theorem jAe:type_of% @List.getElem?_eq_getElem:=@List.getElem?_eq_getElem
theorem jAf:type_of% @Nat.le_of_ble_eq_true:=@Nat.le_of_ble_eq_true
theorem jAg:type_of% @Array.getD_eq_getD_getElem?:=@Array.getD_eq_getD_getElem?
theorem jAh:type_of% @Option.map_eq_some_iff:=@Option.map_eq_some_iff
theorem jAi:type_of% @List.mem_of_getElem?:=@List.mem_of_getElem?
theorem jAj:type_of% @List.getD_eq_getElem?_getD:=@List.getD_eq_getElem?_getD
theorem jAk:type_of% @List.getElem?_map:=@List.getElem?_map
theorem jAl:type_of% @Nat.eq_of_beq_eq_true:=@Nat.eq_of_beq_eq_true
theorem jAm:type_of% @Nat.le_refl:=@Nat.le_refl
theorem jAn:type_of% @Bool.and_eq_true:=@Bool.and_eq_true
theorem jAo:type_of% @Result.andThen_ok:=@Result.andThen_ok
theorem jAp:type_of% @List.all_eq_true:=@List.all_eq_true
theorem jAq:type_of% @List.getElem?_append_right:=@List.getElem?_append_right
theorem jAr:type_of% @Sem.run_bind:=@Sem.run_bind
theorem jAs:type_of% @Bool.false_eq_true:=@Bool.false_eq_true
theorem jAt:type_of% @Nat.le_trans:=@Nat.le_trans
theorem jAu:type_of% @Nat.lt_or_ge:=@Nat.lt_or_ge
theorem jAv:type_of% @Sem.run_pure:=@Sem.run_pure
theorem jAw:type_of% @Array.getElem?_append_left:=@Array.getElem?_append_left
theorem jAx:type_of% @List.length_map:=@List.length_map
theorem jAy:type_of% @List.getElem?_append_left:=@List.getElem?_append_left
theorem jAz:type_of% @Oper.semAt_plain:=@Oper.semAt_plain
theorem jBc:type_of% @Nat.mul_le_mul_right:=@Nat.mul_le_mul_right
theorem jBd:type_of% @List.getElem?_take_of_lt:=@List.getElem?_take_of_lt
theorem jBe:type_of% @Int.le_refl:=@Int.le_refl
theorem jBf:type_of% @Oper.uponIn_value:=@Oper.uponIn_value
theorem jBg:type_of% @Bool.eq_iff_iff:=@Bool.eq_iff_iff
theorem jBh:type_of% @Array.getElem?_eq_some_iff:=@Array.getElem?_eq_some_iff
theorem jBi:type_of% @Nat.zero_le:=@Nat.zero_le
theorem jBj:type_of% @List.length_cons:=@List.length_cons
theorem jBk:type_of% @List.getElem?_toArray:=@List.getElem?_toArray
theorem jBl:type_of% @Array.getElem?_modify:=@Array.getElem?_modify
theorem jBm:type_of% @Nat.le_of_eq:=@Nat.le_of_eq
theorem jBn:type_of% @Nat.add_mul:=@Nat.add_mul
theorem jBo:type_of% @Bool.not_true:=@Bool.not_true
theorem jBp:type_of% @Nat.lt_of_lt_of_le:=@Nat.lt_of_lt_of_le
theorem jBq:type_of% @Array.getElem?_setIfInBounds:=@Array.getElem?_setIfInBounds
theorem jBr:type_of% @Bool.or_eq_true:=@Bool.or_eq_true
theorem jBs:type_of% @List.length_append:=@List.length_append
theorem jBt:type_of% @Array.length_toList:=@Array.length_toList
theorem jBu:type_of% @List.getElem?_drop:=@List.getElem?_drop
theorem jBv:type_of% @Bool.not_eq_true':=@Bool.not_eq_true'
theorem jBw:type_of% @Array.eq_empty_of_size_eq_zero:=@Array.eq_empty_of_size_eq_zero
theorem jBx:type_of% @List.append_assoc:=@List.append_assoc
theorem jBy:type_of% @Nat.add_zero:=@Nat.add_zero
theorem jBz:type_of% @List.getElem_of_mem:=@List.getElem_of_mem
theorem jCc:type_of% @Nat.zero_add:=@Nat.zero_add
theorem jCd:type_of% @List.mem_singleton:=@List.mem_singleton
theorem jCe:type_of% @List.mem_map:=@List.mem_map
theorem jCf:type_of% @List.nil_append:=@List.nil_append
theorem jCg:type_of% @List.drop_eq_getElem_cons:=@List.drop_eq_getElem_cons
theorem jCh:type_of% @List.length_take:=@List.length_take
theorem jCi:type_of% @List.eq_nil_of_length_eq_zero:=@List.eq_nil_of_length_eq_zero
theorem jCj:type_of% @List.length_singleton:=@List.length_singleton
theorem jCk:type_of% @List.mem_append:=@List.mem_append
theorem jCl:type_of% @List.length_nil:=@List.length_nil
theorem jCm:type_of% @UInt8.toNat_ofNat':=@UInt8.toNat_ofNat'
theorem jCn:type_of% @Option.getD_some:=@Option.getD_some
theorem jCo:type_of% @List.getElem?_of_mem:=@List.getElem?_of_mem
theorem jCp:type_of% @List.take_add_one:=@List.take_add_one
theorem jCq:type_of% @List.flatMap_cons:=@List.flatMap_cons
theorem jCr:type_of% @List.length_pos_iff:=@List.length_pos_iff
theorem jCs:type_of% @Array.getElem?_append_right:=@Array.getElem?_append_right
theorem jCt:type_of% @List.isSuffixOf_iff_suffix:=@List.isSuffixOf_iff_suffix
theorem jCu:type_of% @List.length_drop:=@List.length_drop
theorem jCv:type_of% @List.getElem?_eq_none:=@List.getElem?_eq_none
theorem jCw:type_of% @Option.map_some:=@Option.map_some
theorem jCx:type_of% @List.map_inj_left:=@List.map_inj_left
theorem jCy:type_of% @List.mem_filterMap:=@List.mem_filterMap
theorem jCz:type_of% @Nat.mul_one:=@Nat.mul_one
theorem jDc:type_of% @List.append_nil:=@List.append_nil
theorem jDd:type_of% @Oper.uponIn_enter:=@Oper.uponIn_enter
theorem jDe:type_of% @UInt8.toNat_lt:=@UInt8.toNat_lt
theorem jDf:type_of% @List.mem_range:=@List.mem_range
theorem jDg:type_of% @List.mem_or_eq_of_mem_set:=@List.mem_or_eq_of_mem_set
theorem jDh:type_of% @Array.getElem?_eq_getElem:=@Array.getElem?_eq_getElem
theorem jDi:type_of% @List.getElem_mem:=@List.getElem_mem
theorem jDj:type_of% @UInt8.toNat_inj:=@UInt8.toNat_inj
theorem jDk:type_of% @Option.bind_eq_some_iff:=@Option.bind_eq_some_iff
theorem jDl:type_of% @List.mem_cons:=@List.mem_cons
theorem jDm:type_of% @List.map_cons:=@List.map_cons
theorem jDn:type_of% @Bool.true_and:=@Bool.true_and
theorem jDo:type_of% @Bool.not_false:=@Bool.not_false
theorem jDp:type_of% @Nat.sub_zero:=@Nat.sub_zero
theorem jDq:type_of% @Array.getElem?_toList:=@Array.getElem?_toList
end Go.Proofs.YthbbeodmpnmopaaGreatDoor
set_option maxRecDepth 100000
set_option maxHeartbeats 40000000
namespace Go.Proofs.YthbbeodmpnmopaaGreatDoor
open Go.RowKit
def yKb:List (Nat × Nat):=[(1,0)]
def zmb:Array Value:=((List.range 256).map fun c=>Value.int .u8 (Lib.firstT c)).toArray
def K2a:Array Value:=((List.range 16).flatMap fun i=>[Value.int .u8 (Lib.accLo i),Value.int .u8 (Lib.accHi i)]).toArray
def wGb:List (Nat × Array Value):=[(0,(Lib.pow10Tab.map fun z=>Value.int .u64 z).toArray),(2,zmb),(3,K2a)]
def qSb:List Nat:=[6,7]
def cellV:Value->Bool
 | .agg _=>false
 | .tuple _=>false
 | _=>true
inductive PV where
 | b (v:Value)
 | sl (nl:Option Bool) (elems:List (List PV))
inductive AV where
 | any
 | pv (p:PV)
 | agg (cs:List AV)
 | tup (vs:List AV)
 | ptr (o off:Nat)
 | ep (cells:List PV)
 | hs (r off:Nat)
 | hp (r idx off:Nat)
 | fn (f:Fn) (first captured:List AV)
 | mp (o:Nat)
 | hsub (r lo:Nat)
 | z0
 | hpre (r hi:Nat)
 | ifc (b:Bool)
 | ns (r:Nat)
 | np (r idx off:Nat)
 | hn (r idx:Nat)
 | hnp (r idx k off:Nat)
 | nn (b:Bool)
 | ls (o:Nat)
 | mr (o:Nat)
inductive Loc where
 | none
 | blk (b:Nat)
 | nilRow
 | row (b off cap size n:Nat)
 | map (b:Nat)
 | nest (b off cap size n size2:Nat) (subs:List (Option (Nat × Nat × Nat × Nat)))
 | mapr (b:Nat) (subs:List (Option (Nat × Nat × Nat × Nat)))
structure G where
 w:World
 u:Nat->Nat
 loc:Nat->Loc
inductive RelP (w:World) (u:Nat->Nat):PV->Value->Prop
 | b {v:Value} (hv:cellV v=true):RelP w u (.b v) v
 | sl {nl:Option Bool} {elems:List (List PV)} {a:Option Addr} {cap:Nat} (size b off:Nat) (val:Nat->Value)
  (hn:∀x,nl=some x->a.isNone=x) (h0:a=none->cap=0/\elems=[]) (hc:elems.length<=cap)
  (hz:∀e∈elems,e.length=size) (ha:elems≠ []->a=some ⟨b,off,none⟩) (hu:elems≠ []->off+elems.length * size<=u b/\b < w.heap.size)
  (hcell:∀i,i < elems.length * size->w.cell? ⟨b,off+i,none⟩=some (val i))
  (h:∀i j e c,elems[i]? =some e->e[j]? =some c->RelP w u c (val (i * size+j))):RelP w u (.sl nl elems) (.slice a elems.length cap)
structure Ext (w:World) (u:Nat->Nat) (w' :World) (u' :Nat->Nat):Prop where
 size:w.heap.size<=w'.heap.size
 pub:∀k,k < w.heap.size->u k<=u' k
 cell:∀k i,k < w.heap.size->i < u k->w'.cell? ⟨k,i,none⟩=w.cell? ⟨k,i,none⟩
 df:∀r:Nat,w.heap[r]? =some (Obj.deferred (some []))->w'.heap[r]? =some (Obj.deferred (some []))
theorem Ext.refl(w:World)(u:Nat->Nat):Ext w u w u:=⟨jAm _,fun _ _=>jAm _,fun _ _ _ _=>rfl,fun _ h=>h⟩
theorem Ext.trans{w w' w'' :World}{u u' u'' :Nat->Nat}(h:Ext w u w' u')(k:Ext w' u' w'' u''):Ext w u w'' u'' :=
 ⟨jAt h.size k.size,fun b hb=>jAt (h.pub b hb) (k.pub b (jBp hb h.size)),
  fun b i hb hi=>(k.cell b i (jBp hb h.size) (jBp hi (h.pub b hb))).trans (h.cell b i hb hi),fun r hr=>k.df r (h.df r hr)⟩
structure Ext0 (w:World) (u:Nat->Nat) (w' :World) (u' :Nat->Nat):Prop where
 size:w.heap.size<=w'.heap.size
 pub:∀k,k < w.heap.size->u k<=u' k
 cell:∀k i,k < w.heap.size->i < u k->w'.cell? ⟨k,i,none⟩=w.cell? ⟨k,i,none⟩
theorem Ext0.trans{w w' w'' :World}{u u' u'' :Nat->Nat}(h:Ext0 w u w' u')(k:Ext0 w' u' w'' u''):Ext0 w u w'' u'' :=
 ⟨jAt h.size k.size,fun b hb=>jAt (h.pub b hb) (k.pub b (jBp hb h.size)),
  fun b i hb hi=>(k.cell b i (jBp hb h.size) (jBp hi (h.pub b hb))).trans (h.cell b i hb hi)⟩
theorem Ext.to0{w w' :World}{u u' :Nat->Nat}(h:Ext w u w' u'):Ext0 w u w' u' :=⟨h.size,h.pub,h.cell⟩
theorem RelP.mono0{w w' :World}{u u' :Nat->Nat}(hx:Ext0 w u w' u'){p:PV}{v:Value}(h:RelP w u p v):RelP w' u' p v:=by
 induction h with
 | b hv=>exact .b hv
 | @sl nl elems a cap size b off val hn h0 hc hz ha hu hcell h ih=>
  refine .sl size b off val hn h0 hc hz ha ?_ ?_ ih
  .intro he;obtain ⟨h1,h2⟩:=hu he;exact ⟨jAt h1 (hx.pub b h2),jBp h2 hx.size⟩
  intro i hi;have he:elems≠ []:=by rintro rfl;simp at hi
  obtain ⟨h1,h2⟩:=hu he;rw[hx.cell b (off+i) h2 (by omega)]
  simp_all
theorem RelP.mono{w w' :World}{u u' :Nat->Nat}(hx:Ext w u w' u'){p:PV}{v:Value}(h:RelP w u p v):RelP w' u' p v:=h.mono0 hx.to0
theorem RelP.cellV{w:World}{u:Nat->Nat}{p:PV}{v:Value}(h:RelP w u p v):cellV v=true:=by
 cases h with
 | b hv=>exact hv
 | sl=>rfl
def ifcV:Value->Option Bool
 | .nilIface=>some false
 | .iface _ _=>some true
 | _=>none
inductive Rel (g:G):AV->Value->Prop
 | any (v:Value):Rel g .any v
 | pv {p:PV} {v:Value} (h:RelP g.w g.u p v):Rel g (.pv p) v
 | agg {cs:List AV} {vs:Array Value} (hl:vs.size=cs.length) (hc:∀i,i < vs.size->cellV (vs.getD i undef)=true)
  (h:∀i c,cs[i]? =some c->Rel g c (vs.getD i undef)):Rel g (.agg cs) (.agg vs)
 | tup {cs:List AV} {vs:Array Value} (hl:vs.size=cs.length) (h:∀i c,cs[i]? =some c->Rel g c (vs.getD i undef)):Rel g (.tup cs) (.tuple vs)
 | ptr {o off b:Nat} (hl:g.loc o=.blk b):Rel g (.ptr o off) (.pointer (some ⟨b,off,none⟩))
 | ep {cells:List PV} {b off:Nat} (val:Nat->Value) (hu:off+cells.length<=g.u b) (hb:b < g.w.heap.size)
  (hcell:∀i,i < cells.length->g.w.cell? ⟨b,off+i,none⟩=some (val i)) (h:∀i c,cells[i]? =some c->RelP g.w g.u c (val i)):
  Rel g (.ep cells) (.pointer (some ⟨b,off,none⟩))
 | hsNil {r:Nat} (a:Option Addr) (hl:g.loc r=.nilRow):Rel g (.hs r 0) (.slice a 0 0)
 | hs {r b off cap size n:Nat} {a:Addr} (hl:g.loc r=.row b off cap size n) (ha:0 < cap->a=⟨b,off * size,none⟩):Rel g (.hs r 0) (.slice (some a) n cap)
 | hp {r idx j b off cap size n:Nat} (hl:g.loc r=.row b off cap size n) (hi:idx < n):Rel g (.hp r idx j) (.pointer (some ⟨b,(off+idx) * size+j,none⟩))
 | fn {f:Fn} {first captured:List AV} {fv cv:Array Value} (h1:fv.size=first.length) (h2:cv.size=captured.length)
  (hf:∀i c,first[i]? =some c->Rel g c (fv.getD i undef)) (hc:∀i c,captured[i]? =some c->Rel g c (cv.getD i undef)):Rel g (.fn f first captured) (.func f fv cv)
 | mp {o b:Nat} (hl:g.loc o=.map b):Rel g (.mp o) (.map (some b))
 | hsubNil {r lo:Nat} (a:Option Addr) (hl:g.loc r=.nilRow):Rel g (.hsub r lo) (.slice a 0 0)
 | hsub {r lo b off cap size n:Nat} {a:Addr} (hl:g.loc r=.row b off cap size n) (hle:lo<=n) (ha:lo < cap->a=⟨b,(off+lo) * size,none⟩):Rel g (.hsub r lo) (.slice (some a) (n - lo) (cap - lo))
 | z0 (a:Option Addr):Rel g .z0 (.slice a 0 0)
 | ifc {b:Bool} {v:Value} (h:ifcV v=some b):Rel g (.ifc b) v
 | hpreNil {r:Nat} (a:Option Addr) (hl:g.loc r=.nilRow):Rel g (.hpre r 0) (.slice a 0 0)
 | hpre {r hi b off cap size n:Nat} {a:Addr} (hl:g.loc r=.row b off cap size n) (hle:hi<=n) (ha:0 < cap->a=⟨b,off * size,none⟩):Rel g (.hpre r hi) (.slice (some a) hi cap)
 | nsNil {r:Nat} (a:Option Addr) (hl:g.loc r=.nilRow):Rel g (.ns r) (.slice a 0 0)
 | ns {r b off cap size n size2:Nat} {subs:List (Option (Nat × Nat × Nat × Nat))} {a:Addr} (hl:g.loc r=.nest b off cap size n size2 subs) (ha:0 < cap->a=⟨b,off * size,none⟩):Rel g (.ns r) (.slice (some a) n cap)
 | np {r idx j b off cap size n size2:Nat} {subs:List (Option (Nat × Nat × Nat × Nat))} (hl:g.loc r=.nest b off cap size n size2 subs) (hi:idx < n):Rel g (.np r idx j) (.pointer (some ⟨b,(off+idx) * size+j,none⟩))
 | hnNil {r idx b off cap size n size2:Nat} {subs:List (Option (Nat × Nat × Nat × Nat))} (a:Option Addr) (cap2:Nat) (hl:g.loc r=.nest b off cap size n size2 subs) (hs:subs[idx]? =some none):Rel g (.hn r idx) (.slice a 0 cap2)
 | hn {r idx b off cap size n size2 b2 off2 cap2 n2:Nat} {subs:List (Option (Nat × Nat × Nat × Nat))} (hl:g.loc r=.nest b off cap size n size2 subs) (hs:subs[idx]? =some (some (b2,off2,cap2,n2))):Rel g (.hn r idx) (.slice (some ⟨b2,off2 * size2,none⟩) n2 cap2)
 | hnp {r idx k j b off cap size n size2 b2 off2 cap2 n2:Nat} {subs:List (Option (Nat × Nat × Nat × Nat))} (hl:g.loc r=.nest b off cap size n size2 subs) (hs:subs[idx]? =some (some (b2,off2,cap2,n2))) (hk:k < n2):Rel g (.hnp r idx k j) (.pointer (some ⟨b2,(off2+k) * size2+j,none⟩))
 | nn {b:Bool} {a:Option Addr} {n cap:Nat} (h:a.isNone=b):Rel g (.nn b) (.slice a n cap)
 | ls {o b:Nat} (hl:g.loc o=.blk b):Rel g (.ls o) (.slice (some ⟨b,0,none⟩) 1 1)
 | mr {o b:Nat} {subs:List (Option (Nat × Nat × Nat × Nat))} (hl:g.loc o=.mapr b subs):Rel g (.mr o) (.map (some b))
mutual
def AV.has(o:Nat):AV->Bool
 | .any=>false
 | .pv _=>false
 | .agg cs=>AV.hasL o cs
 | .tup cs=>AV.hasL o cs
 | .ptr o' _=>Nat.beq o' o
 | .ep _=>false
 | .hs r _=>Nat.beq r o
 | .hp r _ _=>Nat.beq r o
 | .fn _ f c=>AV.hasL o f || AV.hasL o c
 | .mp o' =>Nat.beq o' o
 | .hsub r _=>Nat.beq r o
 | .z0=>false
 | .hpre r _=>Nat.beq r o
 | .ifc _=>false
 | .ns r=>Nat.beq r o
 | .np r _ _=>Nat.beq r o
 | .hn r _=>Nat.beq r o
 | .hnp r _ _ _=>Nat.beq r o
 | .nn _=>false
 | .ls r=>Nat.beq r o
 | .mr r=>Nat.beq r o
def AV.hasL(o:Nat):List AV->Bool
 | []=>false
 | c::cs=>AV.has o c || AV.hasL o cs
end
theorem AV.hasL_of{o:Nat}{cs:List AV}{i:Nat}{c:AV}(h:cs[i]? =some c)(hc:AV.has o c=true):AV.hasL o cs=true:=by
 induction cs generalizing i with
 | nil=>grind
 | cons d cs ih=>
  unfold AV.hasL
  grind
theorem Rel.mono0{g g' :G}(hx:Ext0 g.w g.u g'.w g'.u){c:AV}{v:Value}(h:Rel g c v):(∀o,c.has o=true->g'.loc o=g.loc o)->Rel g' c v:=by
 induction h with
 | any v=>exact fun _=>.any v
 | pv h=>exact fun _=>.pv (h.mono0 hx)
 | @agg cs vs hl hc h ih=>exact fun hh=>.agg hl hc (fun i c hi=>ih i c hi fun o ho=>hh o (by unfold AV.has;exact AV.hasL_of hi ho))
 | @tup cs vs hl h ih=>exact fun hh=>.tup hl (fun i c hi=>ih i c hi fun o ho=>hh o (by unfold AV.has;exact AV.hasL_of hi ho))
 | @ptr o off b hl=>exact fun hh=>.ptr ((hh o (by simp[AV.has])).trans hl)
 | @ep cells b off val hu hb hcell h=>
  intro _;refine .ep val (jAt hu (hx.pub b hb)) (jBp hb hx.size) (fun i hi=>?_) (fun i c hi=>(h i c hi).mono0 hx);rw[hx.cell b (off+i) hb (by omega)]
  simp_all
 | @hsNil r a hl=>exact fun hh=>.hsNil a ((hh r (by simp[AV.has])).trans hl)
 | @hs r b off cap size n a hl ha=>exact fun hh=>.hs ((hh r (by simp[AV.has])).trans hl) ha
 | @hp r idx j b off cap size n hl hi=>exact fun hh=>.hp ((hh r (by simp[AV.has])).trans hl) hi
 | @fn f first captured fv cv h1 h2 hf hc ihf ihc=>
  exact fun hh=>.fn h1 h2 (fun i c hi=>ihf i c hi fun o ho=>hh o (by simp[AV.has,AV.hasL_of hi ho])) (fun i c hi=>ihc i c hi fun o ho=>hh o (by simp[AV.has,AV.hasL_of hi ho]))
 | @mp o b hl=>exact fun hh=>.mp ((hh o (by simp[AV.has])).trans hl)
 | @hsubNil r lo a hl=>exact fun hh=>.hsubNil a ((hh r (by simp[AV.has])).trans hl)
 | @hsub r lo b off cap size n a hl hle ha=>exact fun hh=>.hsub ((hh r (by simp[AV.has])).trans hl) hle ha
 | z0 a=>exact fun _=>.z0 a
 | ifc h=>exact fun _=>.ifc h
 | @hpreNil r a hl=>exact fun hh=>.hpreNil a ((hh r (by simp[AV.has])).trans hl)
 | @hpre r hi b off cap size n a hl hle ha=>exact fun hh=>.hpre ((hh r (by simp[AV.has])).trans hl) hle ha
 | @nsNil r a hl=>exact fun hh=>.nsNil a ((hh r (by simp[AV.has])).trans hl)
 | @ns r b off cap size n size2 subs a hl ha=>exact fun hh=>.ns ((hh r (by simp[AV.has])).trans hl) ha
 | @np r idx j b off cap size n size2 subs hl hi=>exact fun hh=>.np ((hh r (by simp[AV.has])).trans hl) hi
 | @hnNil r idx b off cap size n size2 subs a cap2 hl hs=>exact fun hh=>.hnNil a cap2 ((hh r (by simp[AV.has])).trans hl) hs
 | @hn r idx b off cap size n size2 b2 off2 cap2 n2 subs hl hs=>exact fun hh=>.hn ((hh r (by simp[AV.has])).trans hl) hs
 | @hnp r idx k j b off cap size n size2 b2 off2 cap2 n2 subs hl hs hk=>exact fun hh=>.hnp ((hh r (by simp[AV.has])).trans hl) hs hk
 | nn h=>exact fun _=>.nn h
 | @ls o b hl=>exact fun hh=>.ls ((hh o (by simp[AV.has])).trans hl)
 | @mr o b subs hl=>exact fun hh=>.mr ((hh o (by simp[AV.has])).trans hl)
theorem Rel.mono{g g' :G}(hx:Ext g.w g.u g'.w g'.u){c:AV}{v:Value}(h:Rel g c v):(∀o,c.has o=true->g'.loc o=g.loc o)->Rel g' c v:=h.mono0 hx.to0
def Gl(g:G):Prop:=(∀p∈yKb,p.1 < g.w.heap.size/\p.2 < g.u p.1/\∃n,g.w.cell? ⟨p.1,p.2,none⟩=some (.int .i64 n))/\(∀p∈wGb,∃t fz,g.w.heap[p.1]? =some (.cells p.2 t fz))/\∀k∈qSb,∃tp x t fz,g.w.heap[k]? =some (.cells #[.iface tp x] t fz)
def GlB(k:Nat):Prop:=(∃p∈wGb,p.1=k)∨k∈qSb
theorem Gl.mono{g g' :G}(hx:Ext g.w g.u g'.w g'.u)(hb:∀k,k < g.w.heap.size->GlB k->g'.w.heap[k]? =g.w.heap[k]?)(h:Gl g):Gl g' :=⟨fun p hp=>by
 obtain ⟨h1,h2,n,h3⟩:=h.1 p hp;exact ⟨jBp h1 hx.size,jBp h2 (hx.pub p.1 h1),n,by rw[hx.cell p.1 p.2 h1 h2];exact h3⟩,fun p hp=>by
 obtain ⟨t,fz,h1⟩:=h.2.1 p hp;have hlt:p.1 < g.w.heap.size:=by
  rcases jAu p.1 g.w.heap.size with h2 | h2
  .exact h2
  simp_all
 exact ⟨t,fz,(hb p.1 hlt (.inl ⟨p,hp,rfl⟩)).trans h1⟩,fun k hk=>by
 obtain ⟨tp,x,t,fz,h1⟩:=h.2.2 k hk;have hlt:k < g.w.heap.size:=by
  rcases jAu k g.w.heap.size with h2 | h2
  .exact h2
  simp_all
 exact ⟨tp,x,t,fz,(hb k hlt (.inr hk)).trans h1⟩⟩
section
abbrev Fr:=List (Nat × AV)
def Fr.get:Fr->Nat->AV
 | [],_=>.any
 | (k,a)::r,d=>bif Nat.beq k d then a else Fr.get r d
inductive AO where
 | cells (cs:List AV)
 | row (e:TypeId) (mu:Bool) (size:Nat) (elems:List (List PV))
 | hold (c:AV) (v:Value)
 | sus (B:Nat) (ds:List Deferred)
 | lp (b:Nat) (L:Loop)
 | it (s:ByteArray) (pos:Nat)
 | buf (l:List UInt8)
 | mapo (ag:Bool) (es:List (Value × List PV))
 | opq (t:TypeId) (n:Nat) (Q:World->(Nat->Nat)->Array Value->Prop)
 | nrow (e:TypeId) (size j:Nat) (e2:TypeId) (size2 m:Nat) (elems:List (List PV))
 | mapr (e:TypeId) (size:Nat) (tk:Option Nat) (es:List (Value × List (List PV)))
abbrev Sto:=List (Nat × AO)
def Sto.get:Sto->Nat->Option AO
 | [],_=>none
 | (k,a)::r,d=>bif Nat.beq k d then some a else Sto.get r d
def AO.has(o:Nat):AO->Bool
 | .cells cs=>AV.hasL o cs
 | .row _ _ _ _=>false
 | .hold c _=>c.has o
 | .sus _ _=>false
 | .lp _ _=>false
 | .it _ _=>false
 | .buf _=>false
 | .mapo _ _=>false
 | .opq _ _ _=>false
 | .nrow _ _ _ _ _ _ _=>false
 | .mapr _ _ _ _=>false
def Fr.has(o:Nat):Fr->Bool
 | []=>false
 | (_,a)::r=>a.has o || Fr.has o r
def Sto.has(o:Nat):Sto->Bool
 | []=>false
 | (_,a)::r=>a.has o || Sto.has o r
theorem Fr.get_cons(k:Nat)(a:AV)(r:Fr)(d:Nat):Fr.get ((k,a)::r) d=if k=d then a else Fr.get r d:=by
 by_cases h:k=d
 .subst h;simp[Fr.get]
 have:Nat.beq k d=false:=by cases hb:Nat.beq k d with
  | false=>rfl
  | true=>simp_all
 simp[Fr.get,this,h]
theorem Sto.get_cons(k:Nat)(a:AO)(r:Sto)(d:Nat):Sto.get ((k,a)::r) d=if k=d then some a else Sto.get r d:=by
 by_cases h:k=d
 .subst h;simp[Sto.get]
 have:Nat.beq k d=false:=by cases hb:Nat.beq k d with
  | false=>rfl
  | true=>simp_all
 simp[Sto.get,this,h]
theorem Fr.has_get{o:Nat}{fr:Fr}{d:Nat}(h:(fr.get d).has o=true):fr.has o=true:=by
 induction fr with
 | nil=>simp[Fr.get,AV.has]at h
 | cons x r ih=>
  obtain ⟨k,a⟩:=x;rw[Fr.get_cons]at h;unfold Fr.has
  grind
theorem Sto.has_get{o d:Nat}{σ:Sto}{ob:AO}(h:σ.get d=some ob)(hh:ob.has o=true):σ.has o=true:=by
 induction σ with
 | nil=>simp[Sto.get]at h
 | cons x r ih=>
  obtain ⟨k,a⟩:=x;rw[Sto.get_cons]at h;unfold Sto.has
  grind
def Loc.block:Loc->Option Nat
 | .blk b=>some b
 | .row b _ _ _ _=>some b
 | .map b=>some b
 | .nest b _ _ _ _ _ _=>some b
 | .mapr b _=>some b
 | _=>Option.none
def vma(subs:List (Option (Nat × Nat × Nat × Nat))):List Nat:=subs.filterMap fun s=>s.map (·.1)
def Loc.subs:Loc->List Nat
 | .nest _ _ _ _ _ _ subs=>vma subs
 | .mapr _ subs=>vma subs
 | _=>[]
def AO.own:AO->Loc->Nat->Prop
 | .hold _ _,_,_=>False
 | .sus _ _,_,_=>False
 | .nrow _ _ _ _ _ _ _,l,b=>l.block=some b∨b∈l.subs
 | .mapr _ _ _ _,l,b=>l.block=some b∨b∈l.subs
 | _,l,b=>l.block=some b
def Dok(B:Nat)(w:World)(ds:List Deferred):Prop:=∃bs:List Nat,ds=bs.map (fun r=>⟨.collected r, #[]⟩)/\bs.Nodup/\∀r∈bs,B<=r/\w.heap[r]? =some (.deferred (some []))
theorem Dok.nil(B:Nat)(w:World):Dok B w []:=⟨[],rfl,.nil,fun _ h=>by cases h⟩
theorem Dok.mono{B:Nat}{w w' :World}{u u' :Nat->Nat}{ds:List Deferred}(h:Dok B w ds)(hx:Ext w u w' u'):Dok B w' ds:=by
 obtain ⟨bs,h1,h2,h3⟩:=h;exact ⟨bs,h1,h2,fun r hr=>⟨(h3 r hr).1,hx.df r (h3 r hr).2⟩⟩
def RelMV(w:World)(u:Nat->Nat)(ag:Bool)(cs:List PV)(v:Value):Prop:=
 match ag with
 | true=>∃vs,v=.agg vs/\vs.size=cs.length/\∀i c,cs[i]? =some c->RelP w u c (vs.getD i undef)
 | false=>∃p,cs=[p]/\RelP w u p v
theorem RelMV.mono{w w' :World}{u u' :Nat->Nat}(hx:Ext w u w' u'){ag:Bool}{cs:List PV}{v:Value}(h:RelMV w u ag cs v):RelMV w' u' ag cs v:=by
 cases ag with
 | true=>obtain ⟨vs,h1,h2,h3⟩:=h;exact ⟨vs,h1,h2,fun i c hi=>(h3 i c hi).mono hx⟩
 | false=>obtain ⟨p,h1,h2⟩:=h;exact ⟨p,h1,h2.mono hx⟩
structure WDa (w:World) (u:Nat->Nat) (e:TypeId) (mu:Bool) (size:Nat) (rows:List (List PV)) (s:Nat × Nat × Nat × Nat) (v:Value):Prop where
 val:v=.slice (some ⟨s.1,s.2.1 * size,none⟩) s.2.2.2 s.2.2.1
 n:rows.length=s.2.2.2
 pos:0 < s.2.2.2
 blk:∃vs:Array Value,w.heap[s.1]? =some (.cells vs e (0,0))/\vs.size=(s.2.1+s.2.2.1) * size/\∀i j x c,rows[i]? =some x->x[j]? =some c->RelP w u c (vs.getD ((s.2.1+i) * size+j) undef)
 cap:s.2.2.1<=maxLen
 le:s.2.2.2<=s.2.2.1
 z:∀x∈rows,x.length=size
 hu:u s.1<=(s.2.1+s.2.2.2) * size
 hmu:mu=true->u s.1=0
def qTb(w:World)(u:Nat->Nat)(e:TypeId)(size:Nat)(rows:List (List PV))(s:Option (Nat × Nat × Nat × Nat))(v:Value):Prop:=
 match s with
 | none=>rows=[]/\∃a cap,v=.slice a 0 cap/\(a=none->cap=0)
 | some s=>WDa w u e true size rows s v
theorem WDa.mono{w w' :World}{u u' :Nat->Nat}{e:TypeId}{mu:Bool}{size:Nat}{rows:List (List PV)}{s:Nat × Nat × Nat × Nat}{v:Value}(h:WDa w u e mu size rows s v)(hx:Ext0 w u w' u')(hb:w'.heap[s.1]? =w.heap[s.1]? /\u' s.1=u s.1):WDa w' u' e mu size rows s v:=by
 obtain ⟨vs,h1,h2,h3⟩:=h.blk;exact ⟨h.val,h.n,h.pos,⟨vs,hb.1.trans h1,h2,fun i j x c hi hj=>(h3 i j x c hi hj).mono0 hx⟩,h.cap,h.le,h.z,by rw[hb.2];exact h.hu,fun hm=>by rw[hb.2];exact h.hmu hm⟩
theorem qTb.mono{w w' :World}{u u' :Nat->Nat}{e:TypeId}{size:Nat}{rows:List (List PV)}{s:Option (Nat × Nat × Nat × Nat)}{v:Value}(h:qTb w u e size rows s v)(hx:Ext0 w u w' u')(hb:∀t,s=some t->w'.heap[t.1]? =w.heap[t.1]? /\u' t.1=u t.1):qTb w' u' e size rows s v:=by
 cases s with
 | none=>exact h
 | some t=>exact WDa.mono h hx (hb t rfl)
theorem yLb{subs:List (Option (Nat × Nat × Nat × Nat))}{i:Nat}{t:Nat × Nat × Nat × Nat}(h:subs[i]? =some (some t)):t.1∈vma subs:=by
 unfold vma;rw[jCy];exact ⟨some t,jAi h,rfl⟩
inductive RelO (g:G) (o:Nat):AO->Prop
 | cells {cs:List AV} {b:Nat} {t:TypeId} {vs:Array Value} (hl:g.loc o=.blk b) (hb:g.w.heap[b]? =some (.cells vs t (0,0))) (hn:vs.size=cs.length) (hu:g.u b=0)
  (hc:∀i,i < vs.size->cellV (vs.getD i undef)=true) (h:∀i c,cs[i]? =some c->Rel g c (vs.getD i undef)):RelO g o (.cells cs)
 | nil {e:TypeId} {mu:Bool} {size:Nat} (hl:g.loc o=.nilRow):RelO g o (.row e mu size [])
 | row {e:TypeId} {mu:Bool} {size:Nat} {elems:List (List PV)} {b off cap:Nat} {vs:Array Value} (hl:g.loc o=.row b off cap size elems.length) (hb:g.w.heap[b]? =some (.cells vs e (0,0))) (hn:vs.size=(off+cap) * size)
  (hm:cap<=maxLen) (hle:elems.length<=cap) (hz:∀x∈elems,x.length=size) (hu:g.u b<=(off+elems.length) * size) (hmu:mu=true->g.u b=0)
  (h:∀i j x c,elems[i]? =some x->x[j]? =some c->RelP g.w g.u c (vs.getD ((off+i) * size+j) undef)):RelO g o (.row e mu size elems)
 | hold {c:AV} {v:Value} (h:Rel g c v):RelO g o (.hold c v)
 | sus {B:Nat} {ds:List Deferred} (h:Dok B g.w ds):RelO g o (.sus B ds)
 | lp {L:Loop} {b:Nat} (hl:g.loc o=.map b) (hb:g.w.heap[b]? =some (.loop L)):RelO g o (.lp b L)
 | it {s:ByteArray} {pos b:Nat} (hl:g.loc o=.blk b) (hb:g.w.heap[b]? =some (.stringIter s pos)) (hu:g.u b=0):RelO g o (.it s pos)
 | buf {l:List UInt8} {e:TypeId} {b cap:Nat} {vs:Array Value} (hl:g.loc o=.row b 0 cap 1 l.length) (hb:g.w.heap[b]? =some (.cells vs e (cap,cap+1))) (hn:vs.size=cap) (hle:l.length<=cap) (hu:g.u b=0)
  (h:∀i c,l[i]? =some c->vs.getD i undef=.int .u8 (c.toNat:Int)):RelO g o (.buf l)
 | mapo {ag:Bool} {es:List (Value × List PV)} {b clock:Nat} {ents:Array MapEntry} (hl:g.loc o=.map b) (hb:g.w.heap[b]? =some (.map ents clock)) (hu:g.u b=0) (hn:ents.size=es.length)
  (h:∀(i:Nat) (k:Value) (c:List PV),es[i]? =some (k,c)->∃x:MapEntry,ents[i]? =some x/\x.key=k/\RelMV g.w g.u ag c x.val):RelO g o (.mapo ag es)
 | opq {t t1:TypeId} {n:Nat} {Q:World->(Nat->Nat)->Array Value->Prop} {b:Nat} {vs:Array Value} (hl:g.loc o=.blk b) (hb:g.w.heap[b]? =some (.cells vs t1 (0,0))) (hn:vs.size=n) (hu:g.u b=0)
  (h:∀w' u',Ext0 g.w g.u w' u' ->Q w' u' vs):RelO g o (.opq t n Q)
 | nrowNil {e:TypeId} {size j:Nat} {e2:TypeId} {size2:Nat} (hl:g.loc o=.nilRow):RelO g o (.nrow e size j e2 size2 0 [])
 | nrow {e:TypeId} {size j:Nat} {e2:TypeId} {size2 m:Nat} {elems:List (List PV)} {b off cap:Nat} {vs:Array Value} {subs:List (Option (Nat × Nat × Nat × Nat))} (hl:g.loc o=.nest b off cap size elems.length size2 subs) (hb:g.w.heap[b]? =some (.cells vs e (0,0)))
  (hn:vs.size=(off+cap) * size) (hm:cap<=maxLen) (hle:elems.length<=cap) (hz:∀x∈elems,x.length=size) (hu:g.u b=0) (hs:subs.length=m) (hsl:m<=elems.length) (hd:(b::vma subs).Nodup)
  (h:∀i j' x c,elems[i]? =some x->x[j']? =some c->(m<=i∨j' ≠j)->RelP g.w g.u c (vs.getD ((off+i) * size+j') undef))
  (hsub:∀i s x,subs[i]? =some s->elems[i]? =some x->∃rows,x[j]? =some (.sl none rows)/\qTb g.w g.u e2 size2 rows s (vs.getD ((off+i) * size+j) undef)):RelO g o (.nrow e size j e2 size2 m elems)
 | mapr {e:TypeId} {size:Nat} {tk:Option Nat} {es:List (Value × List (List PV))} {b clock:Nat} {ents:Array MapEntry} {subs:List (Option (Nat × Nat × Nat × Nat))} (hl:g.loc o=.mapr b subs) (hb:g.w.heap[b]? =some (.map ents clock)) (hu:g.u b=0)
  (hn:ents.size=es.length) (hs:subs.length=es.length) (hd:(b::vma subs).Nodup)
  (h:∀(i:Nat) (k:Value) (rows:List (List PV)),es[i]? =some (k,rows)->∃x:MapEntry,ents[i]? =some x/\x.key=k/\cellV x.val=true/\(tk=some i/\subs[i]? =some none∨tk≠some i/\∃s,subs[i]? =some (some s)/\WDa g.w g.u e false size rows s x.val)):RelO g o (.mapr e size tk es)
structure Old (S:Nat->Prop) (g0 g:G):Prop where
 os:g.w.os=g0.w.os
 tape:g.w.tape=g0.w.tape
 output:g.w.output=g0.w.output
 ext:Ext g0.w g0.u g.w g.u
 block:∀k,k < g0.w.heap.size->¬S k->g.w.heap[k]? =g0.w.heap[k]? /\g.u k=g0.u k
theorem Old.refl(S:Nat->Prop)(g:G):Old S g g:=⟨rfl,rfl,rfl,Ext.refl _ _,fun _ _ _=>⟨rfl,rfl⟩⟩
theorem Old.trans{S:Nat->Prop}{g0 g g' :G}(h:Old S g0 g)(k:Old (fun b=>S b∨g0.w.heap.size<=b) g g'):Old S g0 g' :=
 ⟨k.os.trans h.os,k.tape.trans h.tape,k.output.trans h.output,h.ext.trans k.ext,fun b hb hs=>by
  obtain ⟨h1,h2⟩:=h.block b hb hs;obtain ⟨k1,k2⟩:=k.block b (jBp hb h.ext.size) (fun hx=>hx.elim hs (fun hy=>by omega))
  simp_all⟩
theorem Old.mono{S S' :Nat->Prop}{g0 g:G}(h:Old S g0 g)(hs:∀b,b < g0.w.heap.size->S b->S' b):Old S' g0 g:=
 ⟨h.os,h.tape,h.output,h.ext,fun b hb hn=>h.block b hb fun hx=>hn (hs b hb hx)⟩
def Wf(g:G):Prop:=∀k,g.w.heap.size<=k->g.u k=0
structure Sok (S:Nat->Prop) (g0 g:G) (σ:Sto):Prop where
 obj:∀o ob,σ.get o=some ob->RelO g o ob
 apart:∀o o' ob ob' b,σ.get o=some ob->σ.get o' =some ob' ->ob.own (g.loc o) b->ob'.own (g.loc o') b->o=o'
 mine:∀o ob b,σ.get o=some ob->ob.own (g.loc o) b->g0.w.heap.size<=b∨S b
 old:Old S g0 g
 wf:Wf g
structure Env where
 P:Program
 rd:Option Nat
 g0:G
 N:Nat
 nd:Bool
 gl:Gl g0
 S:Nat->Prop
 sg:∀k,GlB k->¬S k
theorem Env.glOf(E:Env){g:G}{σ:Sto}(h:Sok E.S E.g0 g σ):Gl g:=E.gl.mono h.old.ext fun k hk hb=>(h.old.block k hk (E.sg k hb)).1
def fen(rd:Option Nat):Fence:={fn:=fun _=>True,depth:=none,alive:=false,round:=rd}
structure DokE (E:Env) (w:World) (ds:List Deferred):Prop where
 ok:Dok E.g0.w.heap.size w ds
 no:E.nd=true->ds=[]
theorem DokE.mono{E:Env}{w w' :World}{u u' :Nat->Nat}{ds:List Deferred}(h:DokE E w ds)(hx:Ext w u w' u'):DokE E w' ds:=⟨h.ok.mono hx,h.no⟩
structure St (E:Env) (g:G) (a:Act) (fr:Fr) (σ:Sto):Prop where
 fr:∀d,Rel g (fr.get d) (a.tmps.getD d undef)
 n:a.tmps.size=E.N
 df:DokE E g.w a.defers
 so:Sok E.S E.g0 g σ
abbrev Post:=Exit->Fr->Sto->Prop
def Ends(E:Env)(K:Post)(e:Exit)(a:Act)(w:World):Prop:=∃g fr σ,g.w=w/\St E g a fr σ/\K e fr σ
structure AWP (E:Env) (c:Code) (fr:Fr) (σ:Sto) (K:Post):Prop where
 go:∀g a,St E g a fr σ->c.wpIn (fen E.rd) 0 E.P (Ends E K) a g.w
def kthen(E:Env)(y:Code)(K:Post):Post
 | .normal,fr,σ=>AWP E y fr σ K
 | e,fr,σ=>K e fr σ
def Q6a(id:Nat)(K:Post):Post
 | .exit i,fr,σ=>if i=id then K .normal fr σ else K (.exit i) fr σ
 | e,fr,σ=>K e fr σ
variable {E:Env} {fr:Fr} {σ:Sto} {K:Post}
theorem K3a{c:Code}{K' :Post}(h:AWP E c fr σ K)(hk:∀e fr σ,K e fr σ->K' e fr σ):AWP E c fr σ K' :=
 ⟨fun g a hs=>wpIn_mono (h.go g a hs) fun _ _ _ ⟨g',fr',σ',h1,h2,h3⟩=>⟨g',fr',σ',h1,h2,hk _ _ _ h3⟩⟩
theorem awp_skip(h:K .normal fr σ):AWP E .skip fr σ K:=⟨fun g a hs=>wpIn_skip ⟨g,fr,σ,rfl,hs,h⟩⟩
theorem yMb(h:K .ret fr σ):AWP E .ret fr σ K:=⟨fun g a hs=>wpIn_ret ⟨g,fr,σ,rfl,hs,h⟩⟩
theorem awp_exit{id:Nat}(h:K (.exit id) fr σ):AWP E (.exit id) fr σ K:=⟨fun g a hs=>wpIn_exit ⟨g,fr,σ,rfl,hs,h⟩⟩
theorem qUb{x y:Code}(h:AWP E x fr σ (kthen E y K)):AWP E (.seq x y) fr σ K:=
 ⟨fun g a hs=>wpIn_seq (wpIn_mono (h.go g a hs) fun e a' w' ⟨g',fr',σ',h1,h2,h3⟩=>by
  subst h1;cases e <;> first | exact h3.go g' a' h2 | exact ⟨g',fr',σ',rfl,h2,h3⟩)⟩
theorem yNb{id:Nat}{x:Code}(h:AWP E x fr σ (Q6a id K)):AWP E (.block id x) fr σ K:=
 ⟨fun g a hs=>wpIn_block (wpIn_mono (h.go g a hs) fun e a' w' ⟨g',fr',σ',h1,h2,h3⟩=>by
  cases e
  case exit i=>
   simp only[Q6a]at h3;simp only[Exit.inBlock];split
   .rename_i hi;rw[if_pos hi]at h3;exact ⟨g',fr',σ',h1,h2,h3⟩
   rename_i hi;rw[if_neg hi]at h3;exact ⟨g',fr',σ',h1,h2,h3⟩
  all_goals exact ⟨g',fr',σ',h1,h2,h3⟩)⟩
theorem kib{y:Code}(h:AWP E y fr σ K):kthen E y K .normal fr σ:=h
theorem qVb{id:Nat}(h:K .normal fr σ):Q6a id K (.exit id) fr σ:=by simp only[Q6a,if_true];exact h
theorem kjb{id i:Nat}(hi:Nat.beq i id=false)(h:K (.exit i) fr σ):Q6a id K (.exit i) fr σ:=by
 simp only[Q6a];rw[if_neg (by rintro rfl;simp at hi)];exact h
def qXa:Value->AV
 | .slice none 0 0=>.pv (.sl (some true) [])
 | .agg _=>.any
 | .tuple _=>.any
 | .slice _ _ _=>.any
 | v=>.pv (.b v)
def Fr.ev(fr:Fr):Operand->AV
 | .tmp t=>fr.get t
 | .const v=>qXa v
 | .global g=>.pv (.b (.pointer (some ⟨g,0,none⟩)))
 | .func f=>.fn (.func f) [] []
theorem znb(w:World)(u:Nat->Nat):RelP w u (.sl (some true) []) (.slice none 0 0):=
 .sl (a:=none) (cap:=0) 1 0 0 (fun _=>undef) (fun x hx=>by simp_all) (fun _=>⟨rfl,rfl⟩) (by simp) (by simp) (by simp) (by simp) (fun i hi=>by grind) (fun i j e c hi=>by grind)
theorem vUa(g:G)(v:Value):Rel g (qXa v) v:=by
 unfold qXa;split <;> first | exact .any _ | exact .pv (znb _ _) | (rename_i h1 h2 h3 h4;refine .pv (.b ?_);cases v <;> simp_all [cellV])
theorem St.ev{g:G}{a:Act}(h:St E g a fr σ)(x:Operand):Rel g (fr.ev x) (a.eval x):=by
 cases x with
 | tmp t=>exact h.fr t
 | const v=>exact vUa g v
 | global k=>exact .pv (.b rfl)
 | func f=>exact .fn (by simp) (by simp) (fun i c h=>by grind) (fun i c h=>by grind)
theorem yka{g:G}{t:Bool}{v:Value}(h:Rel g (.pv (.b (.bool t))) v):v=.bool t:=by
 cases h with
 | pv h=>cases h;rfl
theorem zKa{g:G}{x v:Value}(h:Rel g (.pv (.b x)) v):v=x:=by
 cases h with
 | pv h=>cases h;rfl
theorem zob{c:Operand}{x y:Code}{t:Bool}(hc:fr.ev c=.pv (.b (.bool t)))(ht:t=true->AWP E x fr σ K)(hf:t=false->AWP E y fr σ K):AWP E (.cond c x y) fr σ K:=
 ⟨fun g a hs=>by
  have hv:=hs.ev c;rw[hc]at hv;refine wpIn_cond_split (yka hv) (fun h=>(ht h).go g a hs) (fun h=>(hf h).go g a hs)⟩
def PV.weak:PV->PV
 | .sl _ es=>.sl none es
 | p=>p
mutual
def AV.weak:AV->AV
 | .pv p=>.pv p.weak
 | .agg cs=>.agg (AV.weakL cs)
 | .tup cs=>.tup (AV.weakL cs)
 | c=>c
def AV.weakL:List AV->List AV
 | []=>[]
 | c::cs=>c.weak::AV.weakL cs
end
theorem AV.weakL_eq(cs:List AV):AV.weakL cs=cs.map AV.weak:=by
 induction cs with
 | nil=>rfl
 | cons c cs ih=>unfold AV.weakL;simp_all
theorem kkb{w:World}{u:Nat->Nat}{p:PV}{v:Value}(h:RelP w u p v):RelP w u p.weak v:=by
 cases h with
 | b hv=>exact .b hv
 | sl size b off val hn h0 hc hz ha hu hcell h=>exact .sl size b off val (fun x hx=>by cases hx) h0 hc hz ha hu hcell h
theorem qUa{g:G}{c:AV}{v:Value}(h:Rel g c v):Rel g c.weak v:=by
 induction h with
 | any v=>exact .any v
 | pv h=>exact .pv (kkb h)
 | agg hl hc h ih=>
  unfold AV.weak;rw[AV.weakL_eq];refine .agg (by grind) hc fun i c hi=>?_
  grind
 | tup hl h ih=>
  unfold AV.weak;rw[AV.weakL_eq];refine .tup (by grind) fun i c hi=>?_
  grind
 | ptr h=>exact .ptr h
 | ep v1 h1 h2 h3 h4=>exact .ep v1 h1 h2 h3 h4
 | hsNil a h=>exact .hsNil a h
 | hs h1 h2=>exact .hs h1 h2
 | hp h1 h2=>exact .hp h1 h2
 | fn h1 h2 h3 h4=>exact .fn h1 h2 h3 h4
 | mp h=>exact .mp h
 | hsubNil a h=>exact .hsubNil a h
 | hsub h1 h2 h3=>exact .hsub h1 h2 h3
 | z0 a=>exact .z0 a
 | ifc h=>exact .ifc h
 | hpreNil a h=>exact .hpreNil a h
 | hpre h1 h2 h3=>exact .hpre h1 h2 h3
 | nsNil a h=>exact .nsNil a h
 | ns h1 h2=>exact .ns h1 h2
 | np h1 h2=>exact .np h1 h2
 | hnNil a c h1 h2=>exact .hnNil a c h1 h2
 | hn h1 h2=>exact .hn h1 h2
 | hnp h1 h2 h3=>exact .hnp h1 h2 h3
 | nn h=>exact .nn h
 | ls h=>exact .ls h
 | mr h=>exact .mr h
def FrLe(fr fr' :Fr):Prop:=∀d,fr'.get d=.any∨fr.get d=fr'.get d∨(fr.get d).weak=fr'.get d
def zTa(σ σ' :Sto):Prop:=∀o ob,σ'.get o=some ob->σ.get o=some ob∨∃cs,σ.get o=some (.cells cs)/\ob=.cells (AV.weakL cs)
theorem klb{g:G}{o:Nat}{cs:List AV}(h:RelO g o (.cells cs)):RelO g o (.cells (AV.weakL cs)):=by
 cases h with
 | cells h1 h2 h3 h4 h5 h6=>
  rw[AV.weakL_eq];refine .cells h1 h2 (by simp_all) h4 h5 fun i c hi=>?_
  simp only[jAk,jAh]at hi;obtain ⟨c',hc,rfl⟩:=hi;exact qUa (h6 i c' hc)
theorem zTa.obj{σ σ' :Sto}(h:zTa σ σ'){g:G}(hs:∀o ob,σ.get o=some ob->RelO g o ob):∀o ob,σ'.get o=some ob->RelO g o ob:=fun o ob ho=>by
 rcases h o ob ho with h1 | ⟨cs,h1,rfl⟩
 .simp_all
 exact klb (hs o _ h1)
theorem zTa.some{σ σ' :Sto}(h:zTa σ σ'){o:Nat}{ob:AO}(ho:σ'.get o=some ob):∃ob',σ.get o=some ob' /\∀l,ob'.own l=ob.own l:=by
 rcases h o ob ho with h1 | ⟨cs,h1,rfl⟩
 .simp_all
 exact ⟨_,h1,fun _=>rfl⟩
theorem St.le{g:G}{a:Act}{fr' :Fr}{σ' :Sto}(h:St E g a fr σ)(hf:FrLe fr fr')(hs:zTa σ σ'):St E g a fr' σ' where
 fr d:=by
  rcases hf d with h1 | h1 | h1
  .rw[h1];exact .any _
  .rw[<-h1];exact h.fr d
  rw[<-h1];exact qUa (h.fr d)
 n:=h.n
 df:=h.df
 so:=⟨hs.obj h.so.obj,fun o o' ob ob' b h1 h2=>by
  obtain ⟨_,h1,e1⟩:=hs.some h1;obtain ⟨_,h2,e2⟩:=hs.some h2;rw[<-e1,<-e2];exact h.so.apart o o' _ _ b h1 h2,fun o ob b h1=>by
  obtain ⟨_,h1,e1⟩:=hs.some h1;rw[<-e1];exact h.so.mine o _ b h1,h.so.old,h.so.wf⟩
theorem vZb{c:Code}{fr' :Fr}{σ' :Sto}(hf:FrLe fr fr')(hs:zTa σ σ')(h:AWP E c fr' σ' K):AWP E c fr σ K:=⟨fun g a hst=>h.go g a (hst.le hf hs)⟩
theorem Q7a:FrLe fr []:=fun _=>.inl rfl
theorem Z7a{fr' :Fr}{k:Nat}{a:AV}(h:fr.get k=a)(hr:FrLe fr fr'):FrLe fr ((k,a)::fr'):=fun d=>by
 rw[Fr.get_cons];split
 .simp_all
 exact hr d
theorem yOb{fr' :Fr}{k:Nat}{a:AV}(h:(fr.get k).weak=a)(hr:FrLe fr fr'):FrLe fr ((k,a)::fr'):=fun d=>by
 rw[Fr.get_cons];split
 .simp_all
 exact hr d
theorem kza:FrLe fr fr:=fun _=>.inr (.inl rfl)
mutual
theorem AV.weak_weak:∀c:AV,c.weak.weak=c.weak
 | .any=>rfl
 | .pv (.b _)=>rfl
 | .pv (.sl _ _)=>rfl
 | .agg cs=>by simp only[AV.weak];rw[AV.weakL_weakL cs]
 | .tup cs=>by simp only[AV.weak];rw[AV.weakL_weakL cs]
 | .ptr _ _=>rfl
 | .ep _=>rfl
 | .hs _ _=>rfl
 | .hp _ _ _=>rfl
 | .fn _ _ _=>rfl
 | .mp _=>rfl
 | .hsub _ _=>rfl
 | .z0=>rfl
 | .hpre _ _=>rfl
 | .ifc _=>rfl
 | .ns _=>rfl
 | .np _ _ _=>rfl
 | .hn _ _=>rfl
 | .hnp _ _ _ _=>rfl
 | .nn _=>rfl
 | .ls _=>rfl
 | .mr _=>rfl
theorem AV.weakL_weakL:∀cs:List AV,AV.weakL (AV.weakL cs)=AV.weakL cs
 | []=>rfl
 | c::cs=>by simp only[AV.weakL];rw[AV.weak_weak c,AV.weakL_weakL cs]
end
theorem K4a{fr1 fr2 fr3:Fr}(h:FrLe fr1 fr2)(k:FrLe fr2 fr3):FrLe fr1 fr3:=fun d=>by
 rcases k d with k1 | k1 | k1
 .simp_all
 .rcases h d with h1 | h1 | h1
  all_goals simp_all
 rcases h d with h1 | h1 | h1
 .rw[h1]at k1;exact .inl k1.symm
 .simp_all
 refine .inr (.inr ?_);rw[<-h1,AV.weak_weak]at k1;exact k1
theorem kKa{σ1 σ2 σ3:Sto}(h:zTa σ1 σ2)(k:zTa σ2 σ3):zTa σ1 σ3:=fun o ob ho=>by
 rcases k o ob ho with k1 | ⟨cs,k1,rfl⟩
 .exact h o ob k1
 rcases h o _ k1 with h1 | ⟨cs',h1,h2⟩
 .simp_all
 cases h2;exact .inr ⟨cs',h1,by rw[AV.weakL_weakL]⟩
theorem kXa:zTa σ []:=fun _ _ h=>by simp[Sto.get]at h
theorem zCa{σ' :Sto}{k:Nat}{a:AO}(h:σ.get k=some a)(hr:zTa σ σ'):zTa σ ((k,a)::σ'):=fun o ob ho=>by
 rw[Sto.get_cons]at ho;split at ho
 .simp_all
 exact hr o ob ho
theorem wHb{σ' :Sto}{k:Nat}{cs cs' :List AV}(h:σ.get k=some (.cells cs))(hw:AV.weakL cs=cs')(hr:zTa σ σ'):zTa σ ((k,.cells cs')::σ'):=fun o ob ho=>by
 rw[Sto.get_cons]at ho;split at ho
 .simp_all
 exact hr o ob ho
theorem qia:zTa σ σ:=fun _ _ h=>.inl h
inductive Step (A R:Type) where
 | cont (a:A)
 | out (r:R)
end
section
section iter
variable {A R:Type}
def Z3a(body:A->Option (Step A R)):Nat->A->Option R
 | 0,_=>none
 | n+1,s=>match body s with
  | none=>none
  | some (.out r)=>some r
  | some (.cont s')=>Z3a body n s'
theorem wIb{body:A->Option (Step A R)}:∀{n:Nat} {s:A} {r:R},Z3a body n s=some r->Z3a body (n+1) s=some r:=by
 intro n;induction n with
 | zero=>intro s r h;simp[Z3a]at h
 | succ n ih=>
  intro s r h;unfold Z3a at h ⊢
  grind
theorem v0b{body:A->Option (Step A R)}{n m:Nat}{s:A}{r:R}(h:Z3a body n s=some r)(hm:n<=m):Z3a body m s=some r:=by
 induction m with
 | zero=>simp_all
 | succ m ih=>
  rcases jAu m n with h1 | h1
  .grind
  exact wIb (ih h1)
theorem v1b{body:A->Option (Step A R)}{n m:Nat}{s:A}{a b:R}(h1:Z3a body n s=some a)(h2:Z3a body m s=some b):a=b:=by
 have a' :=v0b h1 (Nat.le_max_left _ m);have b' :=v0b h2 (Nat.le_max_right n m)
 simp_all
open Classical in
noncomputable def iter(body:A->Option (Step A R))(s:A):Option R:=match Z3a body 1000000 s with
 | some r=>some r
 | none=>if h:∃n r,Z3a body n s=some r then some (Classical.choose (Classical.choose_spec h)) else none
theorem WWa{body:A->Option (Step A R)}{s:A}{r:R}:iter body s=some r↔∃n,Z3a body n s=some r:=by
 unfold iter;split
 .rename_i r' h;exact ⟨fun e=>by grind,fun ⟨n,hn⟩=>by rw[v1b h hn]⟩
 split
 .rename_i h;have h1:=Classical.choose_spec (Classical.choose_spec h);exact ⟨fun h2=>by grind,fun ⟨n,hn⟩=>by rw[v1b h1 hn]⟩
 simp_all
attribute [irreducible] iter
theorem yPb(body:A->Option (Step A R))(s:A):iter body s=(body s).bind fun x=>match x with | .out r=>some r | .cont s' =>iter body s' :=by
 have key:∀r,iter body s=some r↔((body s).bind fun x=>match x with | .out r=>some r | .cont s' =>iter body s')=some r:=by
  intro r;rw[WWa];constructor
  .rintro ⟨n,hn⟩;cases n with
   | zero=>simp[Z3a]at hn
   | succ n=>
    unfold Z3a at hn;cases hb:body s with
    | none=>simp_all
    | some x=>
     rw[hb]at hn;cases x with
     | out r' =>simp_all
     | cont s' =>simpa using WWa.2 ⟨n,by omega⟩
  intro h;cases hb:body s with
  | none=>simp_all
  | some x=>
   rw[hb]at h;cases x with
   | out r' =>exact ⟨1,by simpa[Z3a,hb]using h⟩
   | cont s' =>
    obtain ⟨n,hn⟩:=WWa.1 (by simpa using h);exact ⟨n+1,by simpa[Z3a,hb]using hn⟩
 cases h:iter body s with
 | some r=>grind
 | none=>
  cases h' :((body s).bind fun x=>match x with | .out r=>some r | .cont s' =>iter body s') with
  | none=>rfl
  | some r=>simp_all
theorem zXa{body:A->Option (Step A R)}{s:A}{r:R}(h:body s=some (.out r)):iter body s=some r:=by rw[yPb,h];rfl
theorem kYa{body:A->Option (Step A R)}{s s' :A}(h:body s=some (.cont s')):iter body s=iter body s' :=by rw[yPb,h];rfl
theorem iter_ind{body:A->Option (Step A R)}(M:A->R->Prop)(ho:∀s r,body s=some (.out r)->M s r)(hc:∀s s' r,body s=some (.cont s')->M s' r->M s r):
 ∀s r,iter body s=some r->M s r:=by
 intro s r h;obtain ⟨n,hn⟩:=WWa.1 h;clear h;induction n generalizing s with
 | zero=>simp[Z3a]at hn
 | succ n ih=>
  unfold Z3a at hn
  grind
end iter
variable {E:Env} {fr:Fr} {σ:Sto} {K:Post}
def At(e0:Exit)(fr0:Fr)(σ0:Sto):Post:=fun e fr σ=>e=e0/\FrLe fr fr0/\zTa σ σ0
def jTa{A R:Type}(frs:A->Fr)(stos:A->Sto)(Q:R->Post):Step A R->Post
 | .cont s=>At .normal (frs s) (stos s)
 | .out r=>fun e fr σ=>e≠ .normal/\Q r e fr σ
theorem awp_loop{A R:Type}{c:Code}(body:A->Option (Step A R))(frs:A->Fr)(stos:A->Sto)(Q:R->Post)
 (h:∀s x,body s=some x->AWP E c (frs s) (stos s) (jTa frs stos Q x)) (s:A) {r:R} (hr:iter body s=some r) (hf:FrLe fr (frs s)) (hs:zTa σ (stos s))
 (hK:∀e fr σ,Q r e fr σ->K e fr σ):AWP E (.loop c) fr σ K:=by
 refine vZb hf hs ?_;refine K3a (K:=Q r) ?_ hK;clear hK hf hs
 suffices h' :∃m,∀g a,St E g a (frs s) (stos s)->Code.roundsIn (fen E.rd) 0 E.P c (Ends E (Q r)) m a g.w by
  obtain ⟨m,hm⟩:=h';exact ⟨fun g a hst=>wpIn_loop_rounds m (hm g a hst)⟩
 refine iter_ind (fun s r=>∃m,∀g a,St E g a (frs s) (stos s)->Code.roundsIn (fen E.rd) 0 E.P c (Ends E (Q r)) m a g.w) ?_ ?_ s r hr
 .intro s r hb;refine ⟨1,fun g a hst=>(wpIn_mono ((h s _ hb).go g a hst) ?_)⟩;rintro e a' w' ⟨g',fr',σ',h1,h2,h3,h4⟩;subst h1;cases e <;> first | (simp_all;done) | exact ⟨g',fr',σ',rfl,h2,h4⟩
 rintro s s' r hb ⟨m,ih⟩;refine ⟨m+1,fun g a hst=>(wpIn_mono ((h s _ hb).go g a hst) ?_)⟩;rintro e a' w' ⟨g',fr',σ',h1,h2,rfl,h4,h5⟩;subst h1;exact ih g' a' (h2.le h4 h5)
structure AWPL (E:Env) (ops:Array Oper) (l:List Oper) (fr:Fr) (σ:Sto) (K:Post):Prop where
 go:∀g a,St E g a fr σ->wpListIn (fen E.rd) 0 E.P ops (Ends E K) l a g.w
structure OpTo (E:Env) (o:Oper) (fr:Fr) (σ:Sto) (fr' :Fr) (σ' :Sto):Prop where
 go:∀g a (K:Act->World->Prop) (Q:Exit->Act->World->Prop),St E g a fr σ->(∀g' a',St E g' a' fr' σ' ->K a' g'.w)->o.wpIn (fen E.rd) 0 E.P a g.w K Q
theorem VNa{id:Nat}{l:List Oper}(h:AWPL E l.toArray l fr σ K):AWP E (.region id l.toArray false) fr σ K:=⟨fun g a hs=>wpIn_region_lit (h.go g a hs)⟩
theorem WXa{ops:Array Oper}(h:K .normal fr σ):AWPL E ops [] fr σ K:=⟨fun g _ hs=>⟨g,fr,σ,rfl,hs,h⟩⟩
theorem z4a{ops:Array Oper}{o:Oper}{rest:List Oper}{fr' :Fr}{σ' :Sto}(hg:o.guard=none)(ho:OpTo E o fr σ fr' σ')(h:AWPL E ops rest fr' σ' K):AWPL E ops (o::rest) fr σ K:=
 ⟨fun g a hs=>by
  have hw:Region.wanted o (yielded ops a.tmps)=true:=by simp[Region.wanted,hg]
  simp only[wpListIn,hw,if_true];exact ho.go g a _ _ hs fun g' a' hs' =>h.go g' a' hs'⟩
theorem K5a{ops:Array Oper}{g:G}{a:Act}{j d:Nat}{t:Bool}(hs:St E g a fr σ)(hj:(ops[j]?).bind (·.dst)=some d)(hv:fr.get d=.pv (.b (.bool t))):yielded ops a.tmps j=some t:=by
 have h1:=hs.fr d;rw[hv]at h1;have h2:=yka h1;unfold yielded;rw[hj];simp only[jAc];have h3:a.tmps[d]? =some (.bool t):=by
  rw[jAg]at h2;cases hx:a.tmps[d]? with
  | none=>rw[hx]at h2;simp[undef]at h2
  | some x=>simp_all
 rw[h3]
theorem zpb{ops:Array Oper}{o:Oper}{rest:List Oper}{fr' :Fr}{σ' :Sto}{j d:Nat}{want t:Bool}(hg:o.guard=some (j,want))(hj:(ops[j]?).bind (·.dst)=some d)(hv:fr.get d=.pv (.b (.bool t)))(ht:t=want)
 (ho:OpTo E o fr σ fr' σ') (h:AWPL E ops rest fr' σ' K):AWPL E ops (o::rest) fr σ K:=
 ⟨fun g a hs=>by
  have hy:=K5a hs hj hv;have hw:Region.wanted o (yielded ops a.tmps)=true:=by simp[Region.wanted,hg,hy,ht]
  simp only[wpListIn,hw,if_true];exact ho.go g a _ _ hs fun g' a' hs' =>h.go g' a' hs'⟩
theorem k4a(xs:Array Value)(d e:Nat)(v x:Value):(xs.setIfInBounds d v).getD e x=if d=e/\d < xs.size then v else xs.getD e x:=by
 by_cases h:d=e;all_goals simp_all
theorem St.put{g:G}{a:Act}{d:Nat}{c:AV}{v:Value}(hs:St E g a fr σ)(hd:d < E.N)(h:Rel g c v):St E g (a.put (some d) v) ((d,c)::fr) σ where
 fr e:=by
  rw[Fr.get_cons];simp only[Act.put];rw[k4a];split
  .rename_i he;rw[if_pos ⟨he,by rw[hs.n];exact hd⟩];exact h
  rename_i he;rw[if_neg (fun x=>he x.1)];exact hs.fr e
 n:=by simp[Act.put,hs.n]
 df:=hs.df
 so:=hs.so
theorem St.putUndef{g:G}{a:Act}{dst:Option Nat}(hs:St E g a fr σ):St E g (a.put dst undef) ((dst.map fun d=>(d,AV.tup [])).toList++fr) σ where
 fr e:=by
  cases dst with
  | none=>exact hs.fr e
  | some d=>
   show Rel g (Fr.get ((d,AV.tup [])::fr) e) _;rw[Fr.get_cons];simp only[Act.put];rw[k4a];split
   .rename_i he;subst he;by_cases h2:d < a.tmps.size
    .rw[if_pos ⟨rfl,h2⟩];exact .tup rfl (fun i c hi=>by grind)
    rw[if_neg (fun x=>h2 x.2)];rw[show a.tmps.getD d undef=undef by simp_all];exact .tup rfl (fun i c hi=>by grind)
   rename_i he;rw[if_neg (fun x=>he x.1)];exact hs.fr e
 n:=by cases dst <;> simp[Act.put,hs.n]
 df:=by cases dst <;> exact hs.df
 so:=hs.so
theorem St.put_none{g:G}{a:Act}{v:Value}(hs:St E g a fr σ):St E g (a.put none v) fr σ:=hs
theorem zqb{ops:Array Oper}{o:Oper}{rest:List Oper}{j d:Nat}{want t:Bool}(hg:o.guard=some (j,want))(hj:(ops[j]?).bind (·.dst)=some d)(hv:fr.get d=.pv (.b (.bool t)))(ht:t= !want)
 (h:AWPL E ops rest ((o.dst.map fun d=>(d,AV.tup [])).toList++fr) σ K):AWPL E ops (o::rest) fr σ K:=
 ⟨fun g a hs=>by
  have hy:=K5a hs hj hv;have hw:Region.wanted o (yielded ops a.tmps)=false:=by cases want <;> simp_all [Region.wanted]
  simp only[wpListIn,hw];exact ⟨fun _ _=>trivial,h.go g _ hs.putUndef⟩⟩
theorem kmb{ops:Array Oper}{o:Oper}{rest:List Oper}{j d:Nat}{want:Bool}(hg:o.guard=some (j,want))(hj:(ops[j]?).bind (·.dst)=some d)(hv:fr.get d=.tup [])
 (h:AWPL E ops rest ((o.dst.map fun d=>(d,AV.tup [])).toList++fr) σ K):AWPL E ops (o::rest) fr σ K:=
 ⟨fun g a hs=>by
  have hy:yielded ops a.tmps j=none:=by
   have h1:=hs.fr d;rw[hv]at h1;unfold yielded;rw[hj];simp only[jAc];cases hx:a.tmps[d]? with
   | none=>rfl
   | some x=>
    rw[jAg,hx]at h1;simp only[jCn]at h1;cases h1;rfl
  have hw:Region.wanted o (yielded ops a.tmps)=false:=by simp[Region.wanted,hg,hy]
  simp only[wpListIn,hw];exact ⟨fun _ _=>trivial,h.go g _ hs.putUndef⟩⟩
structure EvQ (P:Program) (o:Oper) (ρ:Operand->AV) (σ:Sto) (c:AV):Prop where
 nd:∀c,o.op≠ .defer c
 run:∀g ρv,(∀x∈o.op.operands,Rel g (ρ x) (ρv x))->(∀k ob,σ.get k=some ob->RelO g k ob)->∃v,(execOp ρv o).run P g.w=.ok (.value v) g.w/\Rel g c v
theorem qja{o:Oper}{d:Nat}{c:AV}(hd:o.dst=some d)(hN:Nat.ble (d+1) E.N=true)(h:EvQ E.P o fr.ev σ c):OpTo E o fr σ ((d,c)::fr) σ:=
 ⟨fun g a K Q hs hK=>by
  obtain ⟨v,hr,hv⟩:=h.run g a.eval (fun x _=>hs.ev x) hs.so.obj;refine ⟨fun _ _=>trivial,?_⟩;rw[jAz _ _ _ h.nd,hr,jBf,hd];exact hK g _ (hs.put (jAf hN) hv)⟩
end
section
abbrev Str:=List UInt8
def strB(s:Str):ByteArray:=⟨s.toArray⟩
abbrev AV.i(n:Int):AV:=.pv (.b (.int .i64 n))
abbrev AV.u8(c:UInt8):AV:=.pv (.b (.int .u8 (c.toNat:Int)))
abbrev AV.bo(b:Bool):AV:=.pv (.b (.bool b))
abbrev AV.s(s:Str):AV:=.pv (.b (.string (strB s)))
variable {P:Program} {ρ:Operand->AV} {σ:Sto} {dst:Option Tmp} {ty:TypeId} {pos:String} {af:Array Edge} {gu:Option (Nat × Bool)}
theorem VOa{x:Operand}:EvQ P ⟨dst,.move x,ty,pos,af,gu⟩ ρ σ (ρ x):=
 ⟨fun c=>by simp,fun g ρv h _=>⟨ρv x,by simp[execOp,go_sem],h x (by simp[Op.operands])⟩⟩
theorem Q8a{x:Operand}:EvQ P ⟨dst,.assign x,ty,pos,af,gu⟩ ρ σ (ρ x):=
 ⟨fun c=>by simp,fun g ρv h _=>⟨ρv x,by simp[execOp,go_sem],h x (by simp[Op.operands])⟩⟩
theorem ops2{o:Oper}{x y:Operand}{g:G}{ρv:Operand->Value}(ho:o.op.operands= #[x,y])(h:∀x∈o.op.operands,Rel g (ρ x) (ρv x)):Rel g (ρ x) (ρv x)/\Rel g (ρ y) (ρv y):=
 ⟨h x (by simp_all),h y (by simp_all)⟩
section binops
variable {t t' :TypeId} {x y:Operand} {k:IntKind} {a b:Int}
theorem Z8a{op:BinOp}{r:Int}(hx:ρ x=.pv (.b (.int k a)))(hy:ρ y=.pv (.b (.int k b)))
 (hr:(op=.add/\r=k.wrap (a+b))∨(op=.sub/\r=k.wrap (a - b))∨(op=.mul/\r=k.wrap (a * b))):EvQ P ⟨dst,.binOp op t x y t',ty,pos,af,gu⟩ ρ σ (.pv (.b (.int k r))):=
 ⟨fun c=>by simp,fun g ρv h _=>by
  obtain ⟨h1,h2⟩:=ops2 (o:=⟨dst,.binOp op t x y t',ty,pos,af,gu⟩) (x:=x) (y:=y) rfl h;rw[hx]at h1;rw[hy]at h2;have e1:=zKa h1;have e2:=zKa h2;refine ⟨.int k r,?_,.pv (.b rfl)⟩;rcases hr with ⟨rfl,rfl⟩ | ⟨rfl,rfl⟩ | ⟨rfl,rfl⟩ <;> simp[execOp,e1,e2,go_sem,eqGuard,binOp,Op.intArith]⟩
theorem ev_add(hx:ρ x=.pv (.b (.int k a)))(hy:ρ y=.pv (.b (.int k b))):EvQ P ⟨dst,.binOp .add t x y t',ty,pos,af,gu⟩ ρ σ (.pv (.b (.int k (k.wrap (a+b))))):=Z8a hx hy (.inl ⟨rfl,rfl⟩)
theorem ev_sub(hx:ρ x=.pv (.b (.int k a)))(hy:ρ y=.pv (.b (.int k b))):EvQ P ⟨dst,.binOp .sub t x y t',ty,pos,af,gu⟩ ρ σ (.pv (.b (.int k (k.wrap (a - b))))):=Z8a hx hy (.inr (.inl ⟨rfl,rfl⟩))
theorem ev_mul(hx:ρ x=.pv (.b (.int k a)))(hy:ρ y=.pv (.b (.int k b))):EvQ P ⟨dst,.binOp .mul t x y t',ty,pos,af,gu⟩ ρ σ (.pv (.b (.int k (k.wrap (a * b))))):=Z8a hx hy (.inr (.inr ⟨rfl,rfl⟩))
theorem ywa{op:BinOp}{r:Bool}(hx:ρ x=.pv (.b (.int k a)))(hy:ρ y=.pv (.b (.int k b)))
 (hr:(op=.eql/\r=(a==b))∨(op=.neq/\r=(a !=b))∨(op=.lss/\r=decide (a < b))∨(op=.leq/\r=decide (a<=b))∨(op=.gtr/\r=decide (b < a))∨(op=.geq/\r=decide (b<=a))):
 EvQ P ⟨dst,.binOp op t x y t',ty,pos,af,gu⟩ ρ σ (.pv (.b (.bool r))):=
 ⟨fun c=>by simp,fun g ρv h _=>by
  obtain ⟨h1,h2⟩:=ops2 (o:=⟨dst,.binOp op t x y t',ty,pos,af,gu⟩) (x:=x) (y:=y) rfl h;rw[hx]at h1;rw[hy]at h2;have e1:=zKa h1;have e2:=zKa h2;refine ⟨.bool r,?_,.pv (.b rfl)⟩;rcases hr with ⟨rfl,rfl⟩ | ⟨rfl,rfl⟩ | ⟨rfl,rfl⟩ | ⟨rfl,rfl⟩ | ⟨rfl,rfl⟩ | ⟨rfl,rfl⟩ <;> simp[execOp,e1,e2,go_sem,eqGuard,binOp,Op.intCmp]⟩
theorem ev_eql(hx:ρ x=.pv (.b (.int k a)))(hy:ρ y=.pv (.b (.int k b))):EvQ P ⟨dst,.binOp .eql t x y t',ty,pos,af,gu⟩ ρ σ (.pv (.b (.bool (a==b)))):=ywa hx hy (.inl ⟨rfl,rfl⟩)
theorem ev_neq(hx:ρ x=.pv (.b (.int k a)))(hy:ρ y=.pv (.b (.int k b))):EvQ P ⟨dst,.binOp .neq t x y t',ty,pos,af,gu⟩ ρ σ (.pv (.b (.bool (a !=b)))):=ywa hx hy (.inr (.inl ⟨rfl,rfl⟩))
theorem ev_lss(hx:ρ x=.pv (.b (.int k a)))(hy:ρ y=.pv (.b (.int k b))):EvQ P ⟨dst,.binOp .lss t x y t',ty,pos,af,gu⟩ ρ σ (.pv (.b (.bool (decide (a < b))))):=ywa hx hy (.inr (.inr (.inl ⟨rfl,rfl⟩)))
theorem ev_leq(hx:ρ x=.pv (.b (.int k a)))(hy:ρ y=.pv (.b (.int k b))):EvQ P ⟨dst,.binOp .leq t x y t',ty,pos,af,gu⟩ ρ σ (.pv (.b (.bool (decide (a<=b))))):=ywa hx hy (.inr (.inr (.inr (.inl ⟨rfl,rfl⟩))))
theorem ev_gtr(hx:ρ x=.pv (.b (.int k a)))(hy:ρ y=.pv (.b (.int k b))):EvQ P ⟨dst,.binOp .gtr t x y t',ty,pos,af,gu⟩ ρ σ (.pv (.b (.bool (decide (b < a))))):=ywa hx hy (.inr (.inr (.inr (.inr (.inl ⟨rfl,rfl⟩)))))
theorem ev_geq(hx:ρ x=.pv (.b (.int k a)))(hy:ρ y=.pv (.b (.int k b))):EvQ P ⟨dst,.binOp .geq t x y t',ty,pos,af,gu⟩ ρ σ (.pv (.b (.bool (decide (b<=a))))):=ywa hx hy (.inr (.inr (.inr (.inr (.inr ⟨rfl,rfl⟩)))))
theorem yQb(s:Str):(strB s).toList=s:=Go.ByteArray.toList_mk s
theorem zta(s:Str):(strB s).size=s.length:=rfl
theorem VPa{op:BinOp}{r:Bool}{a b:Str}(hx:ρ x=.s a)(hy:ρ y=.s b)
 (hr:(op=.eql/\r=(a==b))∨(op=.neq/\r=(a !=b))∨(op=.lss/\r=Op.bytesLess a b)):
 EvQ P ⟨dst,.binOp op t x y t',ty,pos,af,gu⟩ ρ σ (.bo r):=
 ⟨fun c=>by simp,fun g ρv h _=>by
  obtain ⟨h1,h2⟩:=ops2 (o:=⟨dst,.binOp op t x y t',ty,pos,af,gu⟩) (x:=x) (y:=y) rfl h;rw[hx]at h1;rw[hy]at h2;have e1:=zKa h1;have e2:=zKa h2;refine ⟨.bool r,?_,.pv (.b rfl)⟩;rcases hr with ⟨rfl,rfl⟩ | ⟨rfl,rfl⟩ | ⟨rfl,rfl⟩ <;> simp[execOp,e1,e2,go_sem,eqGuard,binOp,Op.stringOp,yQb,bne]⟩
theorem ev_seql{a b:Str}(hx:ρ x=.s a)(hy:ρ y=.s b):EvQ P ⟨dst,.binOp .eql t x y t',ty,pos,af,gu⟩ ρ σ (.bo (a==b)):=VPa hx hy (.inl ⟨rfl,rfl⟩)
theorem ev_sneq{a b:Str}(hx:ρ x=.s a)(hy:ρ y=.s b):EvQ P ⟨dst,.binOp .neq t x y t',ty,pos,af,gu⟩ ρ σ (.bo (a !=b)):=VPa hx hy (.inr (.inl ⟨rfl,rfl⟩))
theorem ev_slss{a b:Str}(hx:ρ x=.s a)(hy:ρ y=.s b):EvQ P ⟨dst,.binOp .lss t x y t',ty,pos,af,gu⟩ ρ σ (.bo (Op.bytesLess a b)):=VPa hx hy (.inr (.inr ⟨rfl,rfl⟩))
end binops
theorem ev_not{t:TypeId}{x:Operand}{b:Bool}(hx:ρ x=.bo b):EvQ P ⟨dst,.unOp .not t x,ty,pos,af,gu⟩ ρ σ (.bo (!b)):=
 ⟨fun c=>by simp,fun g ρv h _=>by
  have h1:=h x (by simp[Op.operands]);rw[hx]at h1;have e1:=zKa h1;exact ⟨.bool !b,by simp[execOp,e1,go_sem,Op.unary],.pv (.b rfl)⟩⟩
theorem yRb{c x y:Operand}{t:Bool}{a b:AV}(hc:ρ c=.bo t)(hx:ρ x=a)(hy:ρ y=b):EvQ P ⟨dst,.pick c x y,ty,pos,af,gu⟩ ρ σ (bif t then a else b):=
 ⟨fun c=>by simp,fun g ρv h _=>by
  have h1:=h c (by simp[Op.operands]);have h2:=h x (by simp[Op.operands]);have h3:=h y (by simp[Op.operands]);rw[hc]at h1;have e1:=zKa h1;cases t
  .exact ⟨ρv y,by simp[execOp,e1,go_sem,asBool],by simp_all⟩
  exact ⟨ρv x,by simp[execOp,e1,go_sem,asBool],by simp_all⟩⟩
theorem Z9a{c x y:Operand}{t:Bool}(hc:ρ c=.bo t)(ht:t=true):EvQ P ⟨dst,.pick c x y,ty,pos,af,gu⟩ ρ σ (ρ x):=by
 subst ht;exact yRb hc rfl rfl
theorem Q9a{c x y:Operand}{t:Bool}(hc:ρ c=.bo t)(ht:t=false):EvQ P ⟨dst,.pick c x y,ty,pos,af,gu⟩ ρ σ (ρ y):=by
 subst ht;exact yRb hc rfl rfl
theorem ev_len{x:Operand}{t:TypeId}{nl:Option Bool}{es:List (List PV)}{e:TypeId}(hx:ρ x=.pv (.sl nl es))(ht:P.underlying t=some (.slice e)):EvQ P ⟨dst,.call ⟨.builtin .len, #[x], #[t]⟩,ty,pos,af,gu⟩ ρ σ (.i es.length):=
 ⟨fun c=>by simp,fun g ρv h _=>by
  have h1:=h x (by simp[Op.operands,Call.operands]);rw[hx]at h1;cases h1 with
  | pv h1=>
   generalize hv:ρv x=v at h1;cases h1 with
   | sl=>
    refine ⟨.int .i64 es.length,?_,.pv (.b rfl)⟩;simp[execOp,resolve,invoke,builtin,Builtin.len_,hv,go_sem,underlying,ht,goInt]⟩
theorem ev_slen{x:Operand}{t:TypeId}{s:Str}(hx:ρ x=.s s)(ht:P.underlying t=some .string):EvQ P ⟨dst,.call ⟨.builtin .len, #[x], #[t]⟩,ty,pos,af,gu⟩ ρ σ (.i s.length):=
 ⟨fun c=>by simp,fun g ρv h _=>by
  have h1:=h x (by simp[Op.operands,Call.operands]);rw[hx]at h1;have e1:=zKa h1;refine ⟨.int .i64 s.length,?_,.pv (.b rfl)⟩;simp[execOp,resolve,invoke,builtin,Builtin.len_,e1,go_sem,underlying,ht,goInt,zta]⟩
theorem wJb{x:Operand}{cs:List AV}{i:Nat}{c:AV}(hx:ρ x=.tup cs)(hi:cs[i]? =some c):EvQ P ⟨dst,.extract x i,ty,pos,af,gu⟩ ρ σ c:=
 ⟨fun c=>by simp,fun g ρv h _=>by
  have h1:=h x (by simp[Op.operands]);rw[hx]at h1;generalize hv:ρv x=v at h1;cases h1 with
  | @tup _ vs hl hh=>
   have hlt:i < vs.size:=by rw[hl];exact (jAd.1 hi).1
   refine ⟨vs[i],?_,by simpa[Array.getD,hlt]using hh i c hi⟩;simp[execOp,Instr.extract,hv,go_sem,hlt]⟩
theorem rel_sl{g:G}{nl:Option Bool}{es:List (List PV)}{v:Value}(h:Rel g (.pv (.sl nl es)) v){i:Nat}{e:List PV}(hi:es[i]? =some e):
 ∃b off cap size,v=.slice (some ⟨b,off,none⟩) es.length cap/\e.length=size/\Rel g (.ep e) (.pointer (some ⟨b,off+i * size,none⟩)):=by
 cases h with
 | pv h=>
  cases h with
  | sl size b off val hn h0 hc hz ha hu hcell h=>
   rename_i a cap;have hne:es≠ []:=by rintro rfl;simp at hi
   have hlt:i < es.length:=(jAd.1 hi).1;have hz' :e.length=size:=hz e (jAi hi);have ea:=ha hne;obtain ⟨hu1,hu2⟩:=hu hne;subst ea;have hm:i * size+size<=es.length * size:=by
    have:(i+1) * size<=es.length * size:=jBc _ hlt;rw[jBn]at this;omega
   refine ⟨b,off,cap,size,rfl,hz',.ep (fun j=>val (i * size+j)) (by omega) hu2 (fun j hj=>?_) (fun j c hj=>h i j e c hi hj)⟩
   grind
theorem knb{t e:TypeId}{x y:Operand}{nl:Option Bool}{es:List (List PV)}{k:IntKind}{n:Int}{el:List PV}{i:TypeInfo}(hx:ρ x=.pv (.sl nl es))(hy:ρ y=.pv (.b (.int k n)))
 (ht:P.underlying t=some (.slice e)) (hinfo:P.info? e=some i) (hz:i.size=el.length) (h0:0<=n) (he:es[n.toNat]? =some el):EvQ P ⟨dst,.indexAddr t x y,ty,pos,af,gu⟩ ρ σ (.ep el):=
 ⟨fun c=>by simp,fun g ρv h _=>by
  obtain ⟨h1,h2⟩:=ops2 (o:=⟨dst,.indexAddr t x y,ty,pos,af,gu⟩) (x:=x) (y:=y) rfl h;rw[hx]at h1;rw[hy]at h2;have e2:=zKa h2;obtain ⟨b,off,cap,size,ev,hs,hr⟩:=rel_sl h1 he;have hlt:n.toNat < es.length:=(jAd.1 he).1;refine ⟨_,?_,hr⟩;have hn2:n < es.length:=by omega
  have hadd:Addr.add ⟨b,off,none⟩ (n.toNat * size)=⟨b,off+n.toNat * size,none⟩:=by
   unfold Addr.add;split
   .simp_all
   rfl
  rw[hs]at hz;simp[execOp,Instr.indexAt,e2,ev,go_sem,asIntOf,underlying,ht,sizeOf,typeInfo,hinfo,hz,h0,hn2,hadd]⟩
end
section
structure TyOk (P:Program) (t:TypeId) (size bytes:Nat) (zero:Value) (d:TypeDesc):Prop where
 i:(P.info? t).map (fun i=>(i.size,i.bytes,i.zero))=some (size,bytes,some zero)
 u:P.underlying t=some d
def dAgg:TypeDesc->Bool
 | .struct _=>true
 | .array _ _=>true
 | _=>false
section
variable {P:Program} {t:TypeId} {size bytes:Nat} {zero:Value} {d:TypeDesc}
theorem TyOk.info(h:TyOk P t size bytes zero d):∃i,P.info? t=some i/\i.size=size/\i.bytes=bytes/\i.zero=some zero:=by
 have:=h.i
 simp_all
theorem TyOk.sizeOf(h:TyOk P t size bytes zero d)(w:World):(Go.sizeOf t).run P w=.ok size w:=by
 obtain ⟨i,h1,h2,_⟩:=h.info;simp[Go.sizeOf,typeInfo,go_sem,h1,h2]
theorem TyOk.zeroValue(h:TyOk P t size bytes zero d)(w:World):(Go.zeroValue t).run P w=.ok zero w:=by
 obtain ⟨i,h1,_,_,h2⟩:=h.info;simp[Go.zeroValue,typeInfo,go_sem,h1,h2]
theorem TyOk.isAgg(h:TyOk P t size bytes zero d)(w:World):(Go.isAgg t).run P w=.ok (dAgg d) w:=by
 have:=h.u;cases d <;> simp[Go.isAgg,underlying,go_sem,this,dAgg]
end
theorem qwa(b off i:Nat):Addr.add ⟨b,off,none⟩ i=⟨b,off+i,none⟩:=by
 unfold Addr.add;simp_all
section
variable {P:Program} {t:TypeId} {size bytes:Nat} {zero:Value} {d:TypeDesc} {w:World} {b off:Nat}
theorem wIa(h:TyOk P t size bytes zero d)(hd:dAgg d=false){v:Value}(hc:w.cell? ⟨b,off,none⟩=some v):(loadVar t ⟨b,off,none⟩).run P w=.ok v w:=by
 simp only[loadVar,jAr,h.isAgg,Result.andThen,hd]
 simp_all
theorem jha(h:TyOk P t size bytes zero d)(hd:dAgg d=true){f:Nat->Value}(hc:∀j,j < size->w.cell? ⟨b,off+j,none⟩=some (f j)):
 (loadVar t ⟨b,off,none⟩).run P w=.ok (.agg ((List.range size).map f).toArray) w:=by
 simp only[loadVar,jAr,h.isAgg,Result.andThen,hd,if_true,h.sizeOf];rw[run_loadCells w _ size f (fun j hj=>by rw[qwa];simp_all)];rfl
end
variable {P:Program} {ρ:Operand->AV} {σ:Sto} {dst:Option Tmp} {ty:TypeId} {pos:String} {af:Array Edge} {gu:Option (Nat × Bool)}
section
variable {t:TypeId} {size bytes:Nat} {zero:Value} {d:TypeDesc} {x:Operand}
theorem vDa{ρv:Operand->Value}{w:World}{a:Addr}{v:Value}(hv:ρv x=.pointer (some a))(hl:(loadVar t a).run P w=.ok v w):(execOp ρv ⟨dst,.load t x,ty,pos,af,gu⟩).run P w=.ok (.value v) w:=by
 show Sem.run P (do let v <-Instr.loadAt t (ρv x);pure (Next.value v)) w=_;rw[hv,jAr,show Instr.loadAt t (.pointer (some a))=loadVar t a from rfl,hl];rfl
theorem yDa(f:Nat->Value)(n i:Nat)(h:i < n):(((List.range n).map f).toArray).getD i undef=f i:=by
 simp[h]
theorem wKb{el:List PV}{c:PV}(hx:ρ x=.ep el)(ht:TyOk P t size bytes zero d)(hd:dAgg d=false)(h0:el[0]? =some c):EvQ P ⟨dst,.load t x,ty,pos,af,gu⟩ ρ σ (.pv c):=
 ⟨fun c=>by simp,fun g ρv h _=>by
  have h1:=h x (by simp[Op.operands]);rw[hx]at h1;generalize hv:ρv x=v at h1;cases h1 with
  | @ep _ b off val hu hb hcell hh=>
   have hlt:0 < el.length:=(jAd.1 h0).1;refine ⟨val 0,?_,.pv (hh 0 c h0)⟩;have hl:=wIa (w:=g.w) ht hd (by simpa using hcell 0 hlt);exact vDa hv hl⟩
theorem qWb{el:List PV}(hx:ρ x=.ep el)(ht:TyOk P t size bytes zero d)(hd:dAgg d=true)(hn:el.length=size):EvQ P ⟨dst,.load t x,ty,pos,af,gu⟩ ρ σ (.agg (el.map .pv)):=
 ⟨fun c=>by simp,fun g ρv h _=>by
  have h1:=h x (by simp[Op.operands]);rw[hx]at h1;generalize hv:ρv x=v at h1;cases h1 with
  | @ep _ b off val hu hb hcell hh=>
   subst hn;have hl:=jha (w:=g.w) ht hd (f:=val) hcell;refine ⟨_,vDa hv hl,.agg (by simp) (fun i hi=>?_) (fun i c hi=>?_)⟩
   .simp at hi;rw[yDa _ _ _ hi];exact (hh i _ (jAe hi)).cellV
   simp only[jAk,jAh]at hi;obtain ⟨c',h1,rfl⟩:=hi;rw[yDa _ _ _ (jAd.1 h1).1];exact .pv (hh i c' h1)⟩
theorem kda{w:World}{b i:Nat}{vs:Array Value}{t:TypeId}{fz:Nat × Nat}(h:w.heap[b]? =some (.cells vs t fz))(hi:i < vs.size):w.cell? ⟨b,i,none⟩=some (vs.getD i undef):=by
 simp[World.cell?,h,Array.getD,hi]
theorem ev_load{o off:Nat}{cs:List AV}{c:AV}(hx:ρ x=.ptr o off)(ho:σ.get o=some (.cells cs))(ht:TyOk P t size bytes zero d)(hd:dAgg d=false)(h0:cs[off]? =some c):EvQ P ⟨dst,.load t x,ty,pos,af,gu⟩ ρ σ c:=
 ⟨fun c=>by simp,fun g ρv h hs=>by
  have h1:=h x (by simp[Op.operands]);rw[hx]at h1;generalize hv:ρv x=v at h1;cases h1 with
  | @ptr _ _ b hl=>
   cases hs o _ ho with
   | @cells _ b' t' vs hl' hb hn hu hc hh=>
    obtain rfl:b=b' :=by simp_all
    have hlt:off < vs.size:=by rw[hn];exact (jAd.1 h0).1
    refine ⟨vs.getD off undef,?_,hh off c h0⟩;have hl:=wIa (w:=g.w) ht hd (kda hb hlt);exact vDa hv hl⟩
theorem ev_loadN{o off:Nat}{cs:List AV}(hx:ρ x=.ptr o off)(ho:σ.get o=some (.cells cs))(ht:TyOk P t size bytes zero d)(hd:dAgg d=true)(hn:Nat.ble (off+size) cs.length=true):
 EvQ P ⟨dst,.load t x,ty,pos,af,gu⟩ ρ σ (.agg ((cs.drop off).take size)):=
 ⟨fun c=>by simp,fun g ρv h hs=>by
  have hn:=jAf hn;have h1:=h x (by simp[Op.operands]);rw[hx]at h1;generalize hv:ρv x=v at h1;cases h1 with
  | @ptr _ _ b hl=>
   cases hs o _ ho with
   | @cells _ b' t' vs hl' hb hz hu hc hh=>
    obtain rfl:b=b' :=by simp_all
    have hl:=jha (w:=g.w) (b:=b) (off:=off) ht hd (f:=fun j=>vs.getD (off+j) undef) (fun j hj=>kda hb (by omega));refine ⟨_,vDa hv hl,.agg (by grind) (fun i hi=>?_) (fun i c hi=>?_)⟩
    .simp at hi;rw[yDa _ _ _ hi]
     grind
    have hi2:i < size:=by
     have:=(jAd.1 hi).1;simp at this;omega
    simp_all⟩
theorem kob{o off f:Nat}{fs:Array Field}{fl:Field}{fsize fbytes:Nat}{fzero:Value}{fd:TypeDesc}(hx:ρ x=.ptr o off)(ht:P.underlying t=some (.struct fs))(hf:fs[f]? =some fl)(hft:TyOk P fl.type fsize fbytes fzero fd)(hz:Nat.beq fsize 0=false):
 EvQ P ⟨dst,.fieldAddr t x f,ty,pos,af,gu⟩ ρ σ (.ptr o (off+fl.offset)):=
 ⟨fun c=>by simp,fun g ρv h hs=>by
  have h1:=h x (by simp[Op.operands]);rw[hx]at h1;generalize hv:ρv x=v at h1;cases h1 with
  | @ptr _ _ b hl=>
   have hz' :fsize≠0:=by rintro rfl;simp at hz
   refine ⟨.pointer (some ⟨b,off+fl.offset,none⟩),?_,.ptr hl⟩;simp[execOp,Instr.fieldAt,Instr.sureAddr,hv,go_sem,underlying,ht,hf,fieldPlace,hft.sizeOf,hz',qwa]⟩
theorem Yia{el:List PV}{f:Nat}{fs:Array Field}{fl:Field}{fsize fbytes:Nat}{fzero:Value}{fd:TypeDesc}(hx:ρ x=.ep el)(ht:P.underlying t=some (.struct fs))(hf:fs[f]? =some fl)(hft:TyOk P fl.type fsize fbytes fzero fd)(hz:Nat.beq fsize 0=false)
 (hle:Nat.ble fl.offset el.length=true):EvQ P ⟨dst,.fieldAddr t x f,ty,pos,af,gu⟩ ρ σ (.ep (el.drop fl.offset)):=
 ⟨fun c=>by simp,fun g ρv h hs=>by
  have hle:=jAf hle;have h1:=h x (by simp[Op.operands]);rw[hx]at h1;generalize hv:ρv x=v at h1;cases h1 with
  | @ep _ b off val hu hb hcell hh=>
   have hz' :fsize≠0:=by rintro rfl;simp at hz
   refine ⟨.pointer (some ⟨b,off+fl.offset,none⟩),?_,.ep (fun i=>val (fl.offset+i)) (by grind) hb (fun i hi=>?_) (fun i c hi=>?_)⟩
   .simp[execOp,Instr.fieldAt,Instr.sureAddr,hv,go_sem,underlying,ht,hf,fieldPlace,hft.sizeOf,hz',qwa]
   all_goals grind⟩
end
def Sto.upd:Sto->Nat->AO->Sto
 | [],_,_=>[]
 | (k,a)::r,o,ob=>bif Nat.beq k o then (k,ob)::r else (k,a)::Sto.upd r o ob
theorem Sto.get_upd{σ:Sto}{o:Nat}{ob ob0:AO}(h:σ.get o=some ob0)(d:Nat):(σ.upd o ob).get d=if d=o then some ob else σ.get d:=by
 induction σ with
 | nil=>simp[Sto.get]at h
 | cons x r ih=>
  obtain ⟨k,a⟩:=x;rw[Sto.get_cons]at h;unfold Sto.upd;by_cases hk:k=o
  .subst hk;simp only[Nat.beq_refl,cond_true,Sto.get_cons]
   grind
  have hb:Nat.beq k o=false:=by cases hb:Nat.beq k o with
   | false=>rfl
   | true=>simp_all
  rw[if_neg hk]at h;simp only[hb,cond_false,Sto.get_cons,ih h]
  grind
variable {E:Env} {fr:Fr}
theorem RelO.mono{g g' :G}{o:Nat}{ob:AO}(h:RelO g o ob)(hx:Ext g.w g.u g'.w g'.u)(hl:g'.loc o=g.loc o)(hh:∀k,ob.has k=true->g'.loc k=g.loc k)
 (hb:∀b,ob.own (g.loc o) b->g'.w.heap[b]? =g.w.heap[b]? /\g'.u b=g.u b):RelO g' o ob:=by
 cases h with
 | @cells cs b t vs h1 h2 h3 h4 h5 h6=>
  obtain ⟨b1,b2⟩:=hb b (by rw[h1];rfl);exact .cells (hl.trans h1) (b1.trans h2) h3 (b2.trans h4) h5 fun i c hi=>(h6 i c hi).mono hx fun k hk=>hh k (AV.hasL_of hi hk)
 | nil h1=>exact .nil (hl.trans h1)
 | @row e mu size elems b off cap vs h1 h2 h3 h3' h4 h5 h6 h7 h9=>
  obtain ⟨b1,b2⟩:=hb b (by rw[h1];rfl);exact .row (hl.trans h1) (b1.trans h2) h3 h3' h4 h5 (by omega) (by simp_all) fun i j x c hi hj=>(h9 i j x c hi hj).mono hx
 | hold h=>exact .hold (h.mono hx fun k hk=>hh k hk)
 | sus h=>exact .sus (h.mono hx)
 | @lp L b h1 h2=>
  obtain ⟨b1,_⟩:=hb b (by rw[h1];rfl);exact .lp (hl.trans h1) (b1.trans h2)
 | @it s pos b h1 h2 h3=>
  obtain ⟨b1,b2⟩:=hb b (by rw[h1];rfl);exact .it (hl.trans h1) (b1.trans h2) (b2.trans h3)
 | @buf l e b cap vs h1 h2 h3 h4 h5 h6=>
  obtain ⟨b1,b2⟩:=hb b (by rw[h1];rfl);exact .buf (hl.trans h1) (b1.trans h2) h3 h4 (b2.trans h5) h6
 | @mapo ag es b clock ents h1 h2 h3 h4 h5=>
  obtain ⟨b1,b2⟩:=hb b (by rw[h1];rfl);exact .mapo (hl.trans h1) (b1.trans h2) (b2.trans h3) h4 fun i k c hi=>by
   obtain ⟨x,e1,e2,e3⟩:=h5 i k c hi;exact ⟨x,e1,e2,e3.mono hx⟩
 | @opq t t1 n Q b vs h1 h2 h3 h4 h5=>
  obtain ⟨b1,b2⟩:=hb b (by rw[h1];rfl);exact .opq (hl.trans h1) (b1.trans h2) h3 (b2.trans h4) fun w' u' hx' =>h5 w' u' (hx.to0.trans hx')
 | nrowNil h1=>exact .nrowNil (hl.trans h1)
 | @nrow e size j e2 size2 m elems b off cap vs subs h1 h2 h3 h4 h5 h6 h7 h8 h9 h10 h11 h12=>
  obtain ⟨b1,b2⟩:=hb b (by rw[h1];exact .inl rfl);refine .nrow (hl.trans h1) (b1.trans h2) h3 h4 h5 h6 (b2.trans h7) h8 h9 h10 (fun i j' x c hi hj hij=>(h11 i j' x c hi hj hij).mono hx) fun i s x hi hxi=>?_
  obtain ⟨rows,q1,q2⟩:=h12 i s x hi hxi;exact ⟨rows,q1,q2.mono hx.to0 fun t ht=>hb t.1 (by subst ht;rw[h1];exact .inr (yLb hi))⟩
 | @mapr e size tk es b clock ents subs h1 h2 h3 h4 h5 h6 h7=>
  obtain ⟨b1,b2⟩:=hb b (by rw[h1];exact .inl rfl);refine .mapr (hl.trans h1) (b1.trans h2) (b2.trans h3) h4 h5 h6 fun i k rows hi=>?_
  obtain ⟨x,q1,q2,q3,q4⟩:=h7 i k rows hi;refine ⟨x,q1,q2,q3,q4.imp id fun ⟨q5,s,q6,q7⟩=>⟨q5,s,q6,q7.mono hx.to0 (hb s.1 ?_)⟩⟩;rw[h1];exact .inr (yLb q6)
theorem zVa{w:World}{b:Nat}{o:Obj}(h:w.heap[b]? =some o):b < w.heap.size:=by
 grind
theorem RelO.block_lt{g:G}{o b:Nat}{ob:AO}(h:RelO g o ob)(hb:ob.own (g.loc o) b):b < g.w.heap.size:=by
 cases h with
 | cells h1 h2=>rw[h1]at hb;cases hb;grind
 | nil h1=>rw[h1]at hb;cases hb
 | row h1 h2=>rw[h1]at hb;cases hb;grind
 | hold _=>cases hb
 | sus _=>cases hb
 | lp h1 h2=>rw[h1]at hb;cases hb;grind
 | it h1 h2 _=>rw[h1]at hb;cases hb;grind
 | buf h1 h2=>rw[h1]at hb;cases hb;grind
 | mapo h1 h2=>rw[h1]at hb;cases hb;grind
 | opq h1 h2=>rw[h1]at hb;cases hb;grind
 | nrowNil h1=>rw[h1]at hb;rcases hb with hb | hb <;> cases hb
 | @nrow e size j e2 size2 m elems b1 off cap vs subs h1 h2 h3 h4 h5 h6 h7 h8 h9 h10 h11 h12=>
  rw[h1]at hb;rcases hb with hb | hb
  .cases hb;grind
  obtain ⟨s,hs,hsb⟩:=jCy.1 hb;cases s with
  | none=>grind
  | some s=>
   cases hsb;obtain ⟨i,hi,hii⟩:=jBz hs;have hie:i < elems.length:=by omega
   obtain ⟨rows,q1,q2⟩:=h12 i _ _ (by rw[jAe hi,hii]) (jAe hie);obtain ⟨vs',q3,_⟩:=q2.blk
   grind
 | @mapr e size tk es b1 clock ents subs h1 h2 h3 h4 h5 h6 h7=>
  rw[h1]at hb;rcases hb with hb | hb
  .cases hb;grind
  obtain ⟨s,hs,hsb⟩:=jCy.1 hb;cases s with
  | none=>grind
  | some s=>
   cases hsb;obtain ⟨i,hi,hii⟩:=jBz hs;have hie:i < es.length:=by omega
   obtain ⟨x,_,_,_,q4⟩:=h7 i es[i].1 es[i].2 (by simp_all);rcases q4 with ⟨_,q5⟩ | ⟨_,s',q5,q6⟩
   .simp_all
   rw[jAe hi,hii]at q5;cases q5;obtain ⟨vs',q3,_⟩:=q6.blk
   grind
theorem Sok.grow{S:Nat->Prop}{g0 g g' :G}(h:Sok S g0 g σ)(ho:Old (fun _=>False) g g')(hw:Wf g')(hl:∀k,(σ.get k).isSome=true∨σ.has k=true->g'.loc k=g.loc k):Sok S g0 g' σ where
 obj o ob hg:=(h.obj o ob hg).mono ho.ext (hl o (.inl (by grind))) (fun k hk=>hl k (.inr (Sto.has_get hg hk))) fun b hb=>ho.block b ((h.obj o ob hg).block_lt hb) (by simp)
 apart o o' ob ob' b h1 h2 h3 h4:=h.apart o o' ob ob' b h1 h2 (by simp_all) (by simp_all)
 mine o ob b h1 h2:=h.mine o ob b h1 (by simp_all)
 old:=h.old.trans (ho.mono (by simp_all))
 wf:=hw
theorem St.grow{g g' :G}{a:Act}(h:St E g a fr σ)(ho:Old (fun _=>False) g g')(hw:Wf g')(hl:∀k,(σ.get k).isSome=true∨σ.has k=true∨fr.has k=true->g'.loc k=g.loc k):St E g' a fr σ where
 fr d:=(h.fr d).mono ho.ext fun k hk=>hl k (.inr (.inr (Fr.has_get hk)))
 n:=h.n
 df:=h.df.mono ho.ext
 so:=h.so.grow ho hw fun k hk=>hl k (hk.elim .inl (fun h=>.inr (.inl h)))
def G.alloc(g:G)(vs:Array Value)(t:TypeId)(n:Nat)(id:Nat)(l:Loc):G:=⟨g.w.alloc (.cells vs t),fun k=>if k=g.w.heap.size then n else g.u k,fun k=>if k=id then l else g.loc k⟩
theorem yEa(g:G)(vs:Array Value)(t:TypeId)(n id:Nat)(l:Loc):Old (fun _=>False) g (g.alloc vs t n id l) where
 os:=rfl
 tape:=rfl
 output:=rfl
 ext:=⟨by show g.w.heap.size<=(g.w.alloc _).heap.size;simp,fun k hk=>by simp[G.alloc];grind,fun k i hk hi=>by
  simp only[World.cell?];rw[show (g.alloc vs t n id l).w.heap[k]? =g.w.heap[k]? from Below.heap_alloc _ _ _ hk],fun r hr=>(Below.heap_alloc _ _ _ (zVa hr)).trans hr⟩
 block k hk _:=⟨Below.heap_alloc _ _ _ hk,by simp[G.alloc];omega⟩
theorem WYa{g:G}(h:Wf g)(vs:Array Value)(t:TypeId)(n id:Nat)(l:Loc):Wf (g.alloc vs t n id l):=by
 intro k hk;have hk:g.w.heap.size+1<=k:=by simpa[G.alloc]using hk
 show (if k=g.w.heap.size then n else g.u k)=0;rw[if_neg (by omega)];exact h k (by omega)
theorem St.box{g:G}{a:Act}(h:St E g a fr σ)(id:Nat)(hf:fr.has id=false)(hs:σ.has id=false){vs:Array Value}(t:TypeId){cs:List AV}(hn:vs.size=cs.length)(hc:∀i,i < vs.size->cellV (vs.getD i undef)=true)
 (hr:∀i c,cs[i]? =some c->Rel g c (vs.getD i undef)) (hcs:AV.hasL id cs=false):St E (g.alloc vs t 0 id (.blk g.w.heap.size)) a fr ((id,.cells cs)::σ):=by
 have hold:=yEa g vs t 0 id (.blk g.w.heap.size);have hloc:∀k,k≠id->(g.alloc vs t 0 id (.blk g.w.heap.size)).loc k=g.loc k:=fun k hk=>if_neg hk
 have hid:(g.alloc vs t 0 id (.blk g.w.heap.size)).loc id=.blk g.w.heap.size:=if_pos rfl;have hgetid:∀o ob,Sto.get ((id,.cells cs)::σ) o=some ob->(o=id/\ob=.cells cs)∨(o≠id/\σ.get o=some ob):=by
  intro o ob hg;rw[Sto.get_cons]at hg;split at hg
  .simp_all
  grind
 refine ⟨fun d=>(h.fr d).mono hold.ext fun k hk=>hloc k ?_,h.n,h.df.mono hold.ext,⟨?_,?_,?_,h.so.old.trans (hold.mono (by simp_all)),WYa h.so.wf _ _ _ _ _⟩⟩
 .rintro rfl;rw[Fr.has_get hk]at hf;cases hf
 .intro o ob hg;rcases hgetid o ob hg with ⟨rfl,rfl⟩ | ⟨hne,hg1⟩
  .refine .cells hid (heap_alloc_new _ _) hn (if_pos rfl) hc fun i c hi=>(hr i c hi).mono hold.ext fun k hk=>hloc k ?_
   rintro rfl;rw[AV.hasL_of hi hk]at hcs;grind
  refine (h.so.obj o ob hg1).mono hold.ext (hloc o hne) (fun k hk=>hloc k ?_) fun b hb=>hold.block b ((h.so.obj o ob hg1).block_lt hb) (by simp)
  rintro rfl;rw[Sto.has_get hg1 hk]at hs;cases hs
 .intro o o' ob ob' b h1 h2 h3 h4;rcases hgetid o ob h1 with ⟨rfl,rfl⟩ | ⟨hne,hg⟩ <;> rcases hgetid o' ob' h2 with ⟨rfl,rfl⟩ | ⟨hne',hg'⟩
  .rfl
  .rw[hid]at h3;cases h3;rw[hloc o' hne']at h4;have:=(h.so.obj o' ob' hg').block_lt h4;omega
  .rw[hid]at h4;cases h4;rw[hloc o hne]at h3;have:=(h.so.obj o ob hg).block_lt h3;omega
  rw[hloc o hne]at h3;rw[hloc o' hne']at h4;exact h.so.apart o o' ob ob' b hg hg' h3 h4
 intro o ob b h1 h2;rcases hgetid o ob h1 with ⟨rfl,rfl⟩ | ⟨hne,hg⟩
 .rw[hid]at h2;cases h2;exact .inl h.so.old.ext.size
 rw[hloc o hne]at h2;exact h.so.mine o ob b hg h2
end
section
variable {P:Program} {σ:Sto} {dst:Option Tmp} {ty:TypeId} {pos:String} {af:Array Edge} {gu:Option (Nat × Bool)} {E:Env} {fr:Fr}
def AV.cells:AV->Option (List AV)
 | .any=>none
 | .tup _=>none
 | .agg cs=>some cs
 | c=>some [c]
theorem jUa{g:G}{c:AV}{v:Value}(h:Rel g c v){cs:List AV}(hc:c.cells=some cs):
 v.cells.size=cs.length/\(∀i,i < v.cells.size->cellV (v.cells.getD i undef)=true)/\∀i c,cs[i]? =some c->Rel g c (v.cells.getD i undef):=by
 have one:∀{c:AV} {v:Value},Rel g c v->cellV v=true->v.cells= #[v]->(#[v]:Array Value).size=[c].length/\(∀i,i < (#[v]:Array Value).size->cellV ((#[v]:Array Value).getD i undef)=true)/\∀i c',[c][i]? =some c' ->Rel g c' ((#[v]:Array Value).getD i undef):=by
  intro c v hr hv _;refine ⟨rfl,fun i hi=>?_,fun i c' hi=>?_⟩
  .simp_all
  have:i=0:=by
   have:=(jAd.1 hi).1;simp at this;exact this
  simp_all
 cases h with
 | any=>simp[AV.cells]at hc
 | tup=>simp[AV.cells]at hc
 | agg hl h1 h2=>simp[AV.cells]at hc;subst hc;exact ⟨hl,h1,h2⟩
 | pv h=>
  simp[AV.cells]at hc;subst hc;have hv:=h.cellV;have e:v.cells= #[v]:=by cases v <;> first | rfl | simp[cellV]at hv
  rw[e];exact one (.pv h) hv e
 | ptr h=>simp[AV.cells]at hc;subst hc;exact one (.ptr h) rfl rfl
 | ep v1 h1 h2 h3 h4=>simp[AV.cells]at hc;subst hc;exact one (.ep v1 h1 h2 h3 h4) rfl rfl
 | hsNil a h=>simp[AV.cells]at hc;subst hc;exact one (.hsNil a h) rfl rfl
 | hs h1 h2=>simp[AV.cells]at hc;subst hc;exact one (.hs h1 h2) rfl rfl
 | hp h1 h2=>simp[AV.cells]at hc;subst hc;exact one (.hp h1 h2) rfl rfl
 | fn h1 h2 h3 h4=>simp[AV.cells]at hc;subst hc;exact one (.fn h1 h2 h3 h4) rfl rfl
 | mp h=>simp[AV.cells]at hc;subst hc;exact one (.mp h) rfl rfl
 | hsubNil a h=>simp[AV.cells]at hc;subst hc;exact one (.hsubNil a h) rfl rfl
 | hsub h1 h2 h3=>simp[AV.cells]at hc;subst hc;exact one (.hsub h1 h2 h3) rfl rfl
 | z0 a=>simp[AV.cells]at hc;subst hc;exact one (.z0 a) rfl rfl
 | @ifc b v h=>
  simp[AV.cells]at hc;subst hc;have e:v.cells= #[v]:=by cases v <;> first | rfl | cases h
  have e2:cellV v=true:=by cases v <;> first | rfl | cases h
  rw[e];exact one (.ifc h) e2 e
 | hpreNil a h=>simp[AV.cells]at hc;subst hc;exact one (.hpreNil a h) rfl rfl
 | hpre h1 h2 h3=>simp[AV.cells]at hc;subst hc;exact one (.hpre h1 h2 h3) rfl rfl
 | nsNil a h=>simp[AV.cells]at hc;subst hc;exact one (.nsNil a h) rfl rfl
 | ns h1 h2=>simp[AV.cells]at hc;subst hc;exact one (.ns h1 h2) rfl rfl
 | np h1 h2=>simp[AV.cells]at hc;subst hc;exact one (.np h1 h2) rfl rfl
 | hnNil a c h1 h2=>simp[AV.cells]at hc;subst hc;exact one (.hnNil a c h1 h2) rfl rfl
 | hn h1 h2=>simp[AV.cells]at hc;subst hc;exact one (.hn h1 h2) rfl rfl
 | hnp h1 h2 h3=>simp[AV.cells]at hc;subst hc;exact one (.hnp h1 h2 h3) rfl rfl
 | nn h=>simp[AV.cells]at hc;subst hc;exact one (.nn h) rfl rfl
 | ls h=>simp[AV.cells]at hc;subst hc;exact one (.ls h) rfl rfl
 | mr h=>simp[AV.cells]at hc;subst hc;exact one (.mr h) rfl rfl
theorem VQa{t:TypeId}{v:Value}{w:World}:(newVar t v).run P w=.ok ⟨w.heap.size,0,none⟩ (w.alloc (.cells v.cells t)):=rfl
section
variable {t:TypeId} {size bytes:Nat} {zero:Value} {d:TypeDesc}
theorem K6a{k:Nat}(id:Nat){cs:List AV}(hN:Nat.ble (k+1) E.N=true)(ht:TyOk E.P t size bytes zero d)(hz:(qXa zero).cells=some cs∨zero.cells.toList.map qXa=cs/\zero.cells.toList.all cellV=true)(hf:fr.has id=false)(hs:σ.has id=false)(hcs:AV.hasL id cs=false):
 OpTo E ⟨some k,.alloc t,ty,pos,af,gu⟩ fr σ ((k,.ptr id 0)::fr) ((id,.cells cs)::σ):=
 ⟨fun g a K Q hst hK=>by
  refine ⟨fun _ _=>trivial,?_⟩;rw[jAz _ _ _ (fun c=>by simp)];have hr:(execOp a.eval ⟨some k,.alloc t,ty,pos,af,gu⟩).run E.P g.w=.ok (.value (.pointer (some ⟨g.w.heap.size,0,none⟩))) (g.w.alloc (.cells zero.cells t)):=by
   show Sem.run E.P (do let v <-Instr.alloc t true (.tuple #[]);pure (Next.value v)) g.w=_;simp only[Instr.alloc,jAr,ht.zeroValue,jAo,VQa,jAv]
  rw[hr,jBf];have key:zero.cells.size=cs.length/\(∀i,i < zero.cells.size->cellV (zero.cells.getD i undef)=true)/\∀i c,cs[i]? =some c->Rel g c (zero.cells.getD i undef):=by
   rcases hz with hz | ⟨rfl,hz⟩
   .exact jUa (vUa g zero) hz
   refine ⟨by simp,fun i hi=>?_,fun i c hi=>?_⟩
   .simp_all
   simp only[jAk,jAh,jDq]at hi;obtain ⟨v,hv,rfl⟩:=hi;rw[jAg,hv];exact vUa g v
  obtain ⟨h1,h2,h3⟩:=key;have hst' :=hst.box id hf hs t h1 h2 h3 hcs;exact hK _ _ (hst'.put (jAf hN) (.ptr (if_pos rfl)))⟩
theorem vVa{k:Nat}(id:Nat){x:Operand}{cs:List AV}(hN:Nat.ble (k+1) E.N=true)(hc:(fr.ev x).cells=some cs)(hf:fr.has id=false)(hs:σ.has id=false)(hcs:AV.hasL id cs=false):
 OpTo E ⟨some k,.box t x,ty,pos,af,gu⟩ fr σ ((k,.ptr id 0)::fr) ((id,.cells cs)::σ):=
 ⟨fun g a K Q hst hK=>by
  refine ⟨fun _ _=>trivial,?_⟩;rw[jAz _ _ _ (fun c=>by simp)];have hr:(execOp a.eval ⟨some k,.box t x,ty,pos,af,gu⟩).run E.P g.w=.ok (.value (.pointer (some ⟨g.w.heap.size,0,none⟩))) (g.w.alloc (.cells (a.eval x).cells t)):=by
   show Sem.run E.P (do let v <-Instr.box t (a.eval x);pure (Next.value v)) g.w=_;simp only[Instr.box,jAr,jAo,VQa,jAv]
  rw[hr,jBf];obtain ⟨h1,h2,h3⟩:=jUa (hst.ev x) hc;have hst' :=hst.box id hf hs t h1 h2 h3 hcs;exact hK _ _ (hst'.put (jAf hN) (.ptr (if_pos rfl)))⟩
def Qta(cs:List AV)(off:Nat)(vs:List AV):List AV:=cs.take off++vs++cs.drop (off+vs.length)
theorem St.store{g:G}{a:Act}(h:St E g a fr σ){o b:Nat}{cs cs' :List AV}{vs vs' :Array Value}{t:TypeId}(ho:σ.get o=some (.cells cs))(hl:g.loc o=.blk b)(hb:g.w.heap[b]? =some (.cells vs t (0,0)))
 (hu:g.u b=0) (hn:vs'.size=cs'.length) (hc:∀i,i < vs'.size->cellV (vs'.getD i undef)=true) (hr:∀i c,cs'[i]? =some c->Rel g c (vs'.getD i undef)):
 St E ⟨g.w.setRow b vs',g.u,g.loc⟩ a fr (σ.upd o (.cells cs')):=by
 have hheap:∀k,k≠b->(g.w.setRow b vs').heap[k]? =g.w.heap[k]? :=fun k hk=>by
  simp only[World.setRow,jBl];grind
 have hbl:=zVa hb;have hsz:(g.w.setRow b vs').heap.size=g.w.heap.size:=by simp[World.setRow]
 have hx:Ext g.w g.u (g.w.setRow b vs') g.u:=⟨jBm hsz.symm,fun _ _=>jAm _,fun k i hk hi=>by
  by_cases hkb:k=b
  .simp_all
  simp only[World.cell?];grind,fun r hr=>(hheap r (by grind)).trans hr⟩
 have hget:=Sto.get_upd (ob:=.cells cs') ho;refine ⟨fun d=>(h.fr d).mono hx (fun _ _=>rfl),h.n,h.df.mono hx,⟨?_,?_,?_,?_,?_⟩⟩
 .intro k ob hk;rw[hget]at hk;split at hk
  .rename_i hko;subst hko;cases hk;exact .cells hl (setRow_heap g.w b vs vs' t _ hb) hn hu hc fun i c hi=>(hr i c hi).mono hx (fun _ _=>rfl)
  rename_i hko;refine (h.so.obj k ob hk).mono hx rfl (fun _ _=>rfl) fun b' hb' =>⟨hheap b' ?_,rfl⟩
  rintro rfl;exact hko (h.so.apart k o ob _ b' hk ho hb' (by rw[hl];rfl))
 .intro k k' ob ob' b' h1 h2 h3 h4;rw[hget]at h1 h2;have e1:∃ob',σ.get k=some ob' /\∀l,ob'.own l=ob.own l:=by
   split at h1
   .rename_i hk;cases h1;exact ⟨.cells cs,hk▸ho,fun _=>rfl⟩
   simp_all
  have e2:∃ob1,σ.get k' =some ob1/\∀l,ob1.own l=ob'.own l:=by
   split at h2
   .rename_i hk;cases h2;exact ⟨.cells cs,hk▸ho,fun _=>rfl⟩
   simp_all
  obtain ⟨_,e1,q1⟩:=e1;obtain ⟨_,e2,q2⟩:=e2;rw[<-q1]at h3;rw[<-q2]at h4;exact h.so.apart k k' _ _ b' e1 e2 h3 h4
 .intro k ob b' h1 h2;rw[hget]at h1;split at h1
  .rename_i hk;cases h1;exact h.so.mine k (.cells cs) b' (hk▸ho) h2
  exact h.so.mine k _ b' h1 h2
 .refine h.so.old.trans ⟨rfl,rfl,rfl,hx,fun k hk hs=>⟨hheap k ?_,rfl⟩⟩;rintro rfl;rcases h.so.mine o _ k ho (by rw[hl];rfl) with h1 | h1
  all_goals simp_all
 intro k hk;exact h.so.wf k (by simp_all)
theorem JIa{x y:Operand}{o off:Nat}{cs vs:List AV}(hx:fr.ev x=.ptr o off)(ho:σ.get o=some (.cells cs))(hy:(fr.ev y).cells=some vs)(ht:TyOk E.P t size bytes zero d)(hz:Nat.beq vs.length size=true)(hle:Nat.ble (off+vs.length) cs.length=true):
 OpTo E ⟨none,.store t x y,ty,pos,af,gu⟩ fr σ fr (σ.upd o (.cells (Qta cs off vs))):=
 ⟨fun g a K Q hst hK=>by
  have hle:=jAf hle;have hz:=jAl hz;refine ⟨fun _ _=>trivial,?_⟩;rw[jAz _ _ _ (fun c=>by simp)];have h1:=hst.ev x;rw[hx]at h1;generalize hv:a.eval x=v at h1;obtain ⟨v1,v2,v3⟩:=jUa (hst.ev y) hy;cases h1 with
  | @ptr _ _ b hl=>
   cases hst.so.obj o _ ho with
   | @cells _ b' t' cur hl' hb hn hu hc hh=>
    obtain rfl:b=b' :=by simp_all
    have hone:∀u∈(a.eval y).cells.toList,u.oneCell' =true:=by
     intro u hu;obtain ⟨i,hi,rfl⟩:=jBz hu;have h0:=v2 i (by omega);rw[show (a.eval y).cells.getD i undef=(a.eval y).cells.toList[i] by simp[Array.getD,show i < (a.eval y).cells.size by omega]]at h0;cases hcase:(a.eval y).cells.toList[i] <;> rw[hcase]at h0 <;> first | rfl | simp[cellV]at h0
    have hs:=run_storeCells_at (P:=E.P) b off t' (a.eval y).cells.toList 0 cur g.w hb (by grind) hone;have hr:(execOp a.eval ⟨none,.store t x y,ty,pos,af,gu⟩).run E.P g.w=.ok .skip (g.w.setRow b (cur.toList.take (off+0)++(a.eval y).cells.toList++cur.toList.drop (off+0+(a.eval y).cells.toList.length)).toArray):=by
     show Sem.run E.P (do Instr.storeAt t (a.eval x) (a.eval y);pure Next.skip) g.w=_;rw[hv];simp only[Instr.storeAt,Instr.sureAddr,storeVar,jAr,jAv,jAo,ht.sizeOf];rw[if_neg (by omega)];simp only[jAr,jAv,jAo,hs]
    rw[hr,Oper.uponIn_skip];simp only[jBy];refine hK _ _ (St.put_none (hst.store ho hl hb hu ?_ ?_ ?_))
    .simp[Qta];omega
    .intro i hi;simp at hi;rw[jAg,jBk];rcases jAu i off with hlt | hge
     .rw[jBx,jAy (by grind),jBd hlt];have:=hc i (by omega)
      simp_all
     rw[jBx,jAq (by grind)];simp only[jCh,jBt,show min off cur.size=off by omega];rcases jAu (i - off) (a.eval y).cells.size with hlt | hge2
     .rw[jAy (by omega)]
      simp_all
     rw[jAq (by omega),jBu];simp only[jBt];have e:off+(a.eval y).cells.size+(i - off - (a.eval y).cells.size)=i:=by omega
     rw[e];have:=hc i (by omega)
     simp_all
    intro i c hi;rw[jAg,jBk];unfold Qta at hi;rcases jAu i off with hlt | hge
    .rw[jBx,jAy (by grind),jBd hlt]at hi;rw[jBx,jAy (by grind),jBd hlt]
     simp_all
    rw[jBx,jAq (by grind)]at hi;rw[jBx,jAq (by grind)];simp only[jCh,jBt,show min off cur.size=off by omega,show min off cs.length=off by omega]at hi ⊢;rcases jAu (i - off) (a.eval y).cells.size with hlt | hge2
    .rw[jAy (by omega)]at hi;rw[jAy (by omega)];have:=v3 (i - off) c hi
     simp_all
    rw[jAq (by omega),jBu]at hi;rw[jAq (by omega),jBu]
    simp_all⟩
end
end
section
structure FnOk (P:Program) (f:FuncId) (fn:Func) (c:Code):Prop where
 f:P.funcs[f]? =some fn
 b:fn.body=some c
 n : (fn.name == "runtime.NumGoroutine") = false
def wma(g:G)(args:List AV)(vs:Array Value):Prop:=vs.size=args.length/\∀i c,args[i]? =some c->Rel g c (vs.getD i undef)
structure Run (P:Program) (f:FuncId) (args:List AV) (r:AV):Prop where
 ok:∃fn c,FnOk P f fn c
 run:∀g vs,Wf g->Gl g->wma g args vs->CallsIn (fen none) 0 P f vs g.w fun e w' =>∃g' v,g'.w=w' /\g'.loc=g.loc/\Old (fun _=>False) g g' /\Wf g' /\e=.returned v/\Rel g' r v
theorem vEa{rd:Option Nat}{n:Nat}{P:Program}{f:FuncId}{args:Array Value}{w:World}{R:Ending->World->Prop}(h:CallsIn (fen none) n P f args w R):CallsIn (fen rd) n P f args w R:=h
variable {P:Program} {σ:Sto} {dst:Option Tmp} {ty:TypeId} {pos:String} {af:Array Edge} {gu:Option (Nat × Bool)} {E:Env} {fr:Fr}
theorem Wma{f:FuncId}{fn:Func}{c:Code}(h:FnOk P f fn c)(args:Array Value)(w:World):(callFunc f args).run P w=.ok (.enter f args) w:=by
 have hn:=h.n;simp at hn;simp[callFunc,program,Sem.run,h.f,hn,h.b]
theorem vFa{f:FuncId}{fn:Func}{c:Code}(h:FnOk P f fn c){ρv:Operand->Value}{fx:Operand}{first cap:Array Value}(hf:ρv fx=.func (.func f) first cap)(xs:Array Operand)(ats:Array TypeId)(w:World):
 (execOp ρv ⟨dst,.call ⟨.value fx,xs,ats⟩,ty,pos,af,gu⟩).run P w=.ok (.enter f (first++xs.map ρv++cap)) w:=by
 show Sem.run P (do let d <-resolve ρv ⟨.value fx,xs,ats⟩ ty;invoke d.target d.args) w=_;simp only[resolve,hf,Deferred.ofValue,jAr,jAv,jAo,invoke];exact Wma h _ w
theorem ySb{f:FuncId}{k:Nat}{xs:List Operand}{ats:Array TypeId}{args:List AV}{r:AV}(hr:Run E.P f args r)(hN:Nat.ble (k+1) E.N=true)(ha:xs.map (fun x=>(fr.ev x).weak)=args):
 OpTo E ⟨some k,.call ⟨.value (.func f),xs.toArray,ats⟩,ty,pos,af,gu⟩ fr σ ((k,r)::fr) σ:=
 ⟨fun g a K Q hst hK=>by
  obtain ⟨fn,c,hok⟩:=hr.ok;refine ⟨fun _ _=>trivial,?_⟩;rw[jAz _ _ _ (fun c=>by simp),vFa hok (first:= #[]) (cap:= #[]) rfl,jDd];refine ⟨fun h=>by simp[fen]at h,?_⟩;have hargs:wma g args (#[]++xs.toArray.map a.eval++ #[]):=by
   subst ha;refine ⟨by simp,fun i c hi=>?_⟩;simp only[jAk,jAh]at hi;obtain ⟨x,hx,rfl⟩:=hi;have:=qUa (hst.ev x);simpa[hx]using this
  refine (vEa (hr.run g _ hst.so.wf (E.glOf hst.so) hargs)).mono ?_;rintro e w' ⟨g',v,rfl,hl,ho,hw,rfl,hv⟩;exact hK g' _ ((hst.grow ho hw (fun k _=>by rw[hl])).put (jAf hN) hv)⟩
def v2b(P:Program)(tmps:Array Value):ResultVar->Sem Value
 | .tmp t=>pure (tmps.getD t undef)
 | .cell a t=>do loadVar t (<-asAddr (tmps.getD a undef))
structure Res1 (P:Program) (fr:Fr) (σ:Sto) (rv:ResultVar) (c:AV):Prop where
 run:∀g (tmps:Array Value),(∀d,Rel g (fr.get d) (tmps.getD d undef))->(∀k cs,σ.get k=some (.cells cs)->RelO g k (.cells cs))->∃v,(v2b P tmps rv).run P g.w=.ok v g.w/\Rel g c v
theorem yTb{t:Nat}{c:AV}(h:fr.get t=c):Res1 P fr σ (.tmp t) c:=⟨fun g tmps hf _=>⟨_,rfl,h▸hf t⟩⟩
section
variable {t:TypeId} {size bytes:Nat} {zero:Value} {d:TypeDesc} {a o:Nat} {cs:List AV}
theorem res_cell{c:AV}(hx:fr.get a=.ptr o 0)(ho:σ.get o=some (.cells cs))(ht:TyOk P t size bytes zero d)(hd:dAgg d=false)(h0:cs[0]? =some c):Res1 P fr σ (.cell a t) c:=
 ⟨fun g tmps hf hs=>by
  have:=hf a;rw[hx]at this;generalize hv:tmps.getD a undef=v at this;cases this with
  | @ptr _ _ b hl=>
   cases hs o _ ho with
   | @cells _ b' t' vs hl' hb hn hu hc hh=>
    obtain rfl:b=b' :=by simp_all
    have hlt:0 < vs.size:=by rw[hn];exact (jAd.1 h0).1
    refine ⟨vs.getD 0 undef,?_,hh 0 c h0⟩;show Sem.run P (do loadVar t (<-asAddr (tmps.getD a undef))) g.w=_;rw[hv];exact wIa (w:=g.w) ht hd (kda hb hlt)⟩
theorem yUb(hx:fr.get a=.ptr o 0)(ho:σ.get o=some (.cells cs))(ht:TyOk P t size bytes zero d)(hd:dAgg d=true)(hn:Nat.ble size cs.length=true):Res1 P fr σ (.cell a t) (.agg (cs.take size)):=
 ⟨fun g tmps hf hs=>by
  have hn:=jAf hn;have:=hf a;rw[hx]at this;generalize hv:tmps.getD a undef=v at this;cases this with
  | @ptr _ _ b hl=>
   cases hs o _ ho with
   | @cells _ b' t' vs hl' hb hz hu hc hh=>
    obtain rfl:b=b' :=by simp_all
    have hl:=jha (P:=P) (w:=g.w) (b:=b) (off:=0) ht hd (f:=fun j=>vs.getD j undef) (fun j hj=>by rw[jCc];exact kda hb (by omega));refine ⟨_,?_,.agg (vs:=((List.range size).map fun j=>vs.getD j undef).toArray) (by grind) (fun i hi=>?_) (fun i c hi=>?_)⟩
    .show Sem.run P (do loadVar t (<-asAddr (tmps.getD a undef))) g.w=_;rw[hv];exact hl
    .simp at hi;rw[yDa _ _ _ hi]
     grind
    have hi2:i < size:=by
     have:=(jAd.1 hi).1;simp at this;omega
    rw[yDa _ _ _ hi2]
    grind⟩
end
inductive ResL (P:Program) (fr:Fr) (σ:Sto):List ResultVar->List AV->Prop
 | nil:ResL P fr σ [] []
 | cons {rv:ResultVar} {l:List ResultVar} {c:AV} {cs:List AV} (h:Res1 P fr σ rv c) (hl:ResL P fr σ l cs):ResL P fr σ (rv::l) (c::cs)
def Vaa:List AV->AV
 | [c]=>c.weak
 | cs=>.tup (cs.map AV.weak)
def retI:List AV->AV
 | [c]=>c
 | cs=>.tup cs
theorem yVb:∀cs:List AV,(retI cs).weak=Vaa cs
 | [c]=>rfl
 | []=>rfl
 | c1::c2::cs=>by show AV.tup (AV.weakL _)=_;rw[AV.weakL_eq];rfl
theorem resL_run{l:List ResultVar}{cs:List AV}(h:ResL P fr σ l cs){g:G}{tmps:Array Value}(hf:∀d,Rel g (fr.get d) (tmps.getD d undef))(hs:∀k cs,σ.get k=some (.cells cs)->RelO g k (.cells cs)):
 ∃vs:List Value,vs.length=cs.length/\(l.mapM (v2b P tmps)).run P g.w=.ok vs g.w/\∀(i:Nat) (c:AV),cs[i]? =some c->∃v,vs[i]? =some v/\Rel g c v:=by
 induction h with
 | nil=>simp_all
 | @cons rv l c cs h hl ih=>
  obtain ⟨v,h1,h2⟩:=h.run g tmps hf hs;obtain ⟨vs,h3,h4,h5⟩:=ih;refine ⟨v::vs,by grind,?_,?_⟩
  .simp_all
  grind
def Kret(P:Program)(fn:Func)(r:AV):Post:=fun e fr σ=>(e=.ret∨e=.normal)/\∃cs,ResL P fr σ fn.results.toList cs/\Vaa cs=r
theorem Wna{fn:Func}{cs:List AV}(h:ResL P fr σ fn.results.toList cs){g:G}{tmps:Array Value}(hf:∀d,Rel g (fr.get d) (tmps.getD d undef))(hs:∀k cs,σ.get k=some (.cells cs)->RelO g k (.cells cs)):
 ∃v,(results fn tmps).run P g.w=.ok v g.w/\Rel g (retI cs) v:=by
 obtain ⟨vs,h1,h2,h3⟩:=resL_run h hf hs;have e:results fn tmps=(do
  let vs <-fn.results.mapM (v2b P tmps)
  pure (if h:vs.size=1 then vs[0] else .tuple vs)):=by
  unfold results
  congr 1
 have e2:Sem.run P (fn.results.mapM (v2b P tmps)) g.w=.ok vs.toArray g.w:=by
  rw[<-Array.toArray_toList (xs:=fn.results),List.mapM_toArray];simp[h2]
 rw[e,jAr,e2];simp only[jAo,jAv];refine ⟨_,rfl,?_⟩
 match cs,vs,h1,h3 with
 | [c],[v],_,h3=>
  obtain ⟨v',h4,h5⟩:=h3 0 c rfl;simp at h4;subst h4;exact h5
 | [],[],_,h3=>
  exact .tup (by simp) (fun i c hi=>by grind)
 | c1::c2::cs,v1::v2::vs,hl,h3=>
  rw[dif_neg (by simp)];refine .tup (by omega) fun i c hi=>?_
  obtain ⟨v,h5,h6⟩:=h3 i c hi
  simp_all
theorem Zsa{fn:Func}{cs:List AV}(h:ResL P fr σ fn.results.toList cs){g:G}{tmps:Array Value}(hf:∀d,Rel g (fr.get d) (tmps.getD d undef))(hs:∀k cs,σ.get k=some (.cells cs)->RelO g k (.cells cs)):
 ∃v,(results fn tmps).run P g.w=.ok v g.w/\Rel g (Vaa cs) v:=by
 obtain ⟨v,h1,h2⟩:=Wna h hf hs;exact ⟨v,h1,yVb cs▸qUa h2⟩
def z0a(i:Nat):List AV->Fr
 | []=>[]
 | c::cs=>(i,c)::z0a (i+1) cs
theorem q9a(cs:List AV):∀(i d:Nat),(z0a i cs).get d=if i<=d then (cs[d - i]?).getD .any else .any:=by
 induction cs with
 | nil=>intro i d;simp[z0a,Fr.get]
 | cons c cs ih=>
  intro i d;simp only[z0a,Fr.get_cons,ih]
  grind
structure Took (w:World) (bs:List Nat) (w' :World):Prop where
 os:w'.os=w.os
 tape:w'.tape=w.tape
 output:w'.output=w.output
 size:w'.heap.size=w.heap.size
 block:∀k,k ∉ bs->w'.heap[k]? =w.heap[k]?
 took:∀k∈bs,w'.heap[k]? =some (.deferred none)
theorem kZa{F:Fence}{n:Nat}{fn:Func}{tmps:Array Value}{R:Ending->World->Prop}:∀(bs:List Nat) (w:World),bs.Nodup->(∀r∈bs,w.heap[r]? =some (.deferred (some [])))->
 (∀w',Took w bs w' ->∃v,(results fn tmps).run P w' =.ok v w' /\R (.returned v) w')->LeavesInM F n P fn tmps R (bs.map fun r=>⟨.collected r, #[]⟩) .returning w
 | [],w,_,_,h=>h w ⟨rfl,rfl,rfl,rfl,fun _ _=>rfl,fun _ hk=>by cases hk⟩
 | r::bs,w,hn,hb,h=>by
  have hr:=hb r (by simp);have hnb:=List.nodup_cons.1 hn;refine ⟨by simp,.inl ⟨r,{w with heap:=w.heap.setIfInBounds r (.deferred none)},rfl,?_,kZa bs _ hnb.2 (fun r' hr' =>?_) (fun w' ht=>h w' ?_)⟩⟩
  .have hg:Sem.run P (getObj r) w=.ok (.deferred (some [])) w:=by simp[getObj,Sem.run,hr]
   have hs:Sem.run P (setObj r (.deferred none)) w=.ok () {w with heap:=w.heap.setIfInBounds r (.deferred none)}:=by simp[setObj,Sem.run,hr]
   simp only[Instr.takeDeferred,jAr,hg,jAo,hs,jAv]
  .grind
  refine ⟨ht.os,ht.tape,ht.output,by rw[ht.size];simp,fun k hk=>?_,fun k hk=>?_⟩
  .rw[ht.block k (fun hx=>hk (by grind))]
   grind
  rcases jDl.1 hk with rfl | hk
  .rw[ht.block k hnb.1]
   grind
  exact ht.took k hk
theorem JJa{f:FuncId}{fn:Func}{c:Code}(hok:FnOk P f fn c){args:List AV}{r:AV}(hN:Nat.ble args.length fn.ntmps=true)(hr:∀k,r.has k=false)
 (h:∀g0 (hg:Gl g0),AWP ⟨P,none,g0,fn.ntmps,false,hg,fun _=>False,fun _ _ h=>h⟩ c (z0a 0 args) [] (Kret P fn r)):Run P f args r:=by
 refine ⟨⟨fn,c,hok⟩,fun g vs hw hgl ⟨hsz,ha⟩=>?_⟩;have hN:=jAf hN;refine callsIn_of_wp_marks hok.f hok.b trivial<|wpIn_mono ((h g hgl).go g _ ⟨fun d=>?_,by grind,⟨Dok.nil _ _,fun _=>rfl⟩,⟨fun o ob ho=>by simp[Sto.get]at ho,fun o o' ob ob' b ho=>by simp[Sto.get]at ho,fun o ob b ho=>by simp[Sto.get]at ho,Old.refl _ g,hw⟩⟩) ?_
 .rw[q9a];simp only[jBi,if_true,jDp];cases hc:args[d]? with
  | none=>exact .any _
  | some c=>
   have hlt:d < vs.size:=by rw[hsz];exact (jAd.1 hc).1
   have:=ha d c hc;rw[jAg,jAw hlt,<-jAg]
   grind
 rintro e a w' ⟨g',fr',σ',rfl,hst,he,cs,hres,rfl⟩;obtain ⟨bs,hds,hnd,hbs⟩:=hst.df.ok;have key:∀w',Took g'.w bs w' ->∃v,(results fn a.tmps).run P w' =.ok v w' /\∃g'' v',g''.w=w' /\g''.loc=g.loc/\Old (fun _=>False) g g'' /\Wf g'' /\Ending.returned v=.returned v' /\Rel g'' (Vaa cs) v' :=by
  intro w' ht;have hcellb:∀(k:Nat) (vs:Array Value) (t:TypeId) (fz:Nat × Nat),g'.w.heap[k]? =some (Obj.cells vs t fz)->w'.heap[k]? =g'.w.heap[k]? :=by
   intro k vs t fz hk;refine ht.block k fun hx=>?_
   rw[(hbs k hx).2]at hk;cases hk
  have hx0:Ext0 g'.w g'.u w' g'.u:=⟨jBm ht.size.symm,fun _ _=>jAm _,fun k i hk hi=>by
   by_cases hkb:k∈bs
   .simp[World.cell?,(hbs k hkb).2,ht.took k hkb]
   simp only[World.cell?];rw[ht.block k hkb]⟩
  obtain ⟨v,h1,h2⟩:=Zsa (P:=P) (g:=⟨w',g'.u,g'.loc⟩) hres (fun d=>(hst.fr d).mono0 hx0 (fun _ _=>rfl)) (fun k cs' hk=>by
   cases hst.so.obj k _ hk with
   | cells q1 q2 q3 q4 q5 q6=>exact .cells q1 ((hcellb _ _ _ _ q2).trans q2) q3 q4 q5 fun i c hi=>(q6 i c hi).mono0 hx0 (fun _ _=>rfl))
  refine ⟨v,h1,⟨w',g'.u,g.loc⟩,v,rfl,rfl,⟨ht.os.trans hst.so.old.os,ht.tape.trans hst.so.old.tape,ht.output.trans hst.so.old.output,⟨by rw[ht.size];exact hst.so.old.ext.size,hst.so.old.ext.pub,fun k i hk hi=>?_,fun r' hr' =>?_⟩,fun k hk hs=>?_⟩,fun k hk=>hst.so.wf k (by rw[<-ht.size];exact hk),rfl,
   Rel.mono (g:=⟨w',g'.u,g'.loc⟩) (g' :=⟨w',g'.u,g.loc⟩) (Ext.refl w' g'.u) h2 (fun k hk=>by simp_all)⟩
  .have hkb:k ∉ bs:=fun hx=>by grind
   simp only[World.cell?];rw[ht.block k hkb];exact hst.so.old.ext.cell k i hk hi
  .have hkb:r' ∉ bs:=fun hx=>by simp_all
   rw[ht.block r' hkb];exact hst.so.old.ext.df r' hr'
  have hkb:k ∉ bs:=fun hx=>by grind
  rw[ht.block k hkb];exact hst.so.old.block k hk hs
 rcases he with rfl | rfl
 .show LeavesInM _ _ _ _ _ _ _ _ _;rw[hds];exact kZa bs g'.w hnd (fun r' hr' =>(hbs r' hr').2) key
 show LeavesInM _ _ _ _ _ _ _ _ _;rw[hds];exact kZa bs g'.w hnd (fun r' hr' =>(hbs r' hr').2) key
end
section
theorem zaa{α β:Type}{o:Option α}{f:α->Option β}{r:β}(h:o.bind f=some r):∃x,o=some x/\f x=some r:=by
 cases o with
 | none=>cases h
 | some x=>simp_all
theorem jVa{α:Type}{c:Bool}{a b x:α}(hc:c=true)(h:(bif c then a else b)=x):a=x:=by simp_all
theorem jWa{α:Type}{c:Bool}{a b x:α}(hc:c=false)(h:(bif c then a else b)=x):b=x:=by simp_all
abbrev pI(n:Int):PV:=.b (.int .i64 n)
abbrev pU(c:UInt8):PV:=.b (.int .u8 (c.toNat:Int))
abbrev pB(b:Bool):PV:=.b (.bool b)
abbrev pS(s:Str):PV:=.b (.string (strB s))
abbrev pL{α:Type}(f:α->List PV)(l:List α):PV:=.sl none (l.map f)
def cI(n:Int):List PV:=[pI n]
def cU(c:UInt8):List PV:=[pU c]
def cS(s:Str):List PV:=[pS s]
def cL{α:Type}(f:α->List PV)(l:List α):List PV:=[pL f l]
abbrev AV.l{α:Type}(f:α->List PV)(l:List α):AV:=.pv (pL f l)
def idx{α:Type}(l:List α)(i:Int):Option α:=if 0<=i then l[i.toNat]? else none
theorem wza{α:Type}{l:List α}{i:Int}{x:α}(h:idx l i=some x):0<=i/\l[i.toNat]? =some x:=by
 unfold idx at h
 simp_all
def cut{α:Type}(l:List α)(lo hi:Int):Option (List α):=if 0<=lo/\lo<=hi/\hi<=l.length then some ((l.drop lo.toNat).take (hi - lo).toNat) else none
theorem WZa{α:Type}{l:List α}{lo hi:Int}{x:List α}(h:cut l lo hi=some x):0<=lo/\lo<=hi/\hi<=l.length/\x=(l.drop lo.toNat).take (hi - lo).toNat:=by
 unfold cut at h
 simp_all
variable {E:Env} {fr:Fr} {σ:Sto} {K:Post}
def JoinK{J:Type}(K:Post)(frs:J->Fr)(stos:J->Sto)(M:J->Prop):Post
 | .normal,fr,σ=>∃j,M j/\FrLe fr (frs j)/\zTa σ (stos j)
 | e,fr,σ=>K e fr σ
theorem zrb{J:Type}{x y:Code}(frs:J->Fr)(stos:J->Sto)(M:J->Prop)(hx:AWP E x fr σ (JoinK K frs stos M))(hy:∀j,M j->AWP E y (frs j) (stos j) K):AWP E (.seq x y) fr σ K:=by
 refine qUb (K3a hx ?_);intro e fr' σ' h;cases e <;> first
  | exact h
  | (
   obtain ⟨j,hm,hf,hs⟩:=h;exact vZb hf hs (hy j hm))
theorem Woa{J:Type}{frs:J->Fr}{stos:J->Sto}{M:J->Prop}(j:J)(hm:M j)(hf:FrLe fr (frs j))(hs:zTa σ (stos j)):JoinK K frs stos M .normal fr σ:=⟨j,hm,hf,hs⟩
theorem kret'{P:Program}{fn:Func}{cs:List AV}{l:List ResultVar}{r:AV}(hl:fn.results=l.toArray)(h:ResL P fr σ l cs)(hr:Vaa cs=r):Kret P fn r .ret fr σ:=⟨.inl rfl,cs,by simp_all,hr⟩
theorem res1_le{P:Program}{rv:ResultVar}{c:AV}{fr0:Fr}{σ0:Sto}(hf:FrLe fr fr0)(hs:zTa σ σ0)(h:Res1 P fr0 σ0 rv c):Res1 P fr σ rv c:=
 ⟨fun g tmps hr ho=>h.run g tmps (fun d=>by
  rcases hf d with h1 | h1 | h1
  .rw[h1];exact .any _
  .grind
  rw[<-h1];exact qUa (hr d)) (fun k cs hk=>by
  rcases hs k _ hk with h1 | ⟨cs',h1,h2⟩
  .simp_all
  cases h2;exact klb (ho k _ h1))⟩
variable {P:Program} {ρ:Operand->AV} {dst:Option Tmp} {ty:TypeId} {pos:String} {af:Array Edge} {gu:Option (Nat × Bool)}
section
variable {t e:TypeId} {x y:Operand} {k:IntKind} {n:Int} {size bytes sb:Nat} {zero sz:Value} {d:TypeDesc} {ss:Nat}
theorem ZSa{α:Type}{f:α->List PV}{l:List α}{a:α}{nl:Option Bool}(hx:ρ x=.pv (.sl nl (l.map f)))(hy:ρ y=.pv (.b (.int k n)))(ht:TyOk P t ss sb sz (.slice e))(he:TyOk P e size bytes zero d)(hz:(f a).length=size)(hi:idx l n=some a):
 EvQ P ⟨dst,.indexAddr t x y,ty,pos,af,gu⟩ ρ σ (.ep (f a)):=by
 obtain ⟨h0,h1⟩:=wza hi;obtain ⟨i,hinfo,hs,_⟩:=he.info;exact knb hx hy ht.u hinfo (hs.trans hz.symm) h0 (by grind)
theorem Kaa{s:Str}{c:UInt8}(hx:ρ x=.s s)(hy:ρ y=.pv (.b (.int k n)))(ht:TyOk P t ss sb sz .string)(hi:idx s n=some c):EvQ P ⟨dst,.index t x y,ty,pos,af,gu⟩ ρ σ (.u8 c):=
 ⟨fun c=>by simp,fun g ρv h _=>by
  obtain ⟨h1,h2⟩:=ops2 (o:=⟨dst,.index t x y,ty,pos,af,gu⟩) (x:=x) (y:=y) rfl h;rw[hx]at h1;rw[hy]at h2;have e1:=zKa h1;have e2:=zKa h2;obtain ⟨h0,hc⟩:=wza hi;refine ⟨.int .u8 c.toNat,?_,.pv (.b rfl)⟩;have hlt:n.toNat < s.length:=(jAd.1 hc).1;have hb:(strB s)[n.toNat]? =some c:=by
   rw[Go.ByteArray.getElem?_lt' _ _ (by rw[zta];omega)];have:=(jAd.1 hc).2;simp only[Option.some.injEq];rw[<-this];rfl
  simp[execOp,Instr.index,e1,e2,go_sem,asIntOf,underlying,ht.u,h0,hb]⟩
end
end
section
abbrev w64(n:Int):Int:=IntKind.i64.wrap n
theorem vna{n:Int}(h0: -9223372036854775808<=n)(h1:n<=9223372036854775807):w64 n=n:=by
 simp only[w64,IntKind.wrap,IntKind.bits,IntKind.signed]
 grind
def toU8(n:Int):UInt8:=UInt8.ofNat (n % 256).toNat
theorem Yja(n:Int):IntKind.u8.wrap n=((toU8 n).toNat:Int):=by
 simp only[IntKind.wrap,IntKind.bits,IntKind.signed,toU8];have e:(2:Int) ^ 8=256:=rfl;simp only[e,Bool.false_and,jAs,if_false,jCm];omega
def cat(a b:Str):Option Str:=if a.length+b.length<=9223372036854775807 then some (a++b) else none
theorem cat_spec{a b r:Str}(h:cat a b=some r):a.length+b.length<=9223372036854775807/\r=a++b:=by
 unfold cat at h
 simp_all
variable {P:Program} {ρ:Operand->AV} {σ:Sto} {dst:Option Tmp} {ty:TypeId} {pos:String} {af:Array Edge} {gu:Option (Nat × Bool)}
section
variable {t t' e:TypeId} {x y z:Operand} {k:IntKind} {n:Int} {size bytes sb sb' ss ss' :Nat} {zero sz sz' :Value} {d:TypeDesc}
theorem VRa{α:Type}{f:α->List PV}{l:List α}{nl:Option Bool}(hx:ρ x=.pv (.sl nl (l.map f)))(ht:P.underlying t=some (.slice e)):EvQ P ⟨dst,.call ⟨.builtin .len, #[x], #[t]⟩,ty,pos,af,gu⟩ ρ σ (.i l.length):=by
 have:=ev_len (dst:=dst) (ty:=ty) (pos:=pos) (af:=af) (gu:=gu) (σ:=σ) hx ht
 simp_all
theorem ev_u8int{c:UInt8}(hx:ρ x=.u8 c)(ha:TyOk P t ss sb sz (.int .u8))(hb:TyOk P t' ss' sb' sz' (.int .i64)):EvQ P ⟨dst,.convert t t' x,ty,pos,af,gu⟩ ρ σ (.i c.toNat):=
 ⟨fun c=>by simp,fun g ρv h _=>by
  have h1:=h x (by simp[Op.operands]);rw[hx]at h1;have e1:=zKa h1;have hlt:=c.toNat_lt;have hw:IntKind.i64.wrap (c.toNat:Int)=c.toNat:=vna (by omega) (by omega);refine ⟨.int .i64 c.toNat,?_,.pv (.b rfl)⟩;simp[execOp,convert,e1,go_sem,underlying,ha.u,hb.u,Conv.intToInt,hw]⟩
theorem ev_s2s{s:Str}(hx:ρ x=.s s)(ha:TyOk P t ss sb sz .string)(hb:TyOk P t' ss' sb' sz' .string):EvQ P ⟨dst,.convert t t' x,ty,pos,af,gu⟩ ρ σ (.s s):=
 ⟨fun c=>by simp,fun g ρv h _=>by
  have h1:=h x (by simp[Op.operands]);rw[hx]at h1;have e1:=zKa h1;refine ⟨.string (strB s),?_,.pv (.b rfl)⟩;simp[execOp,convert,e1,go_sem,underlying,ha.u,hb.u]⟩
theorem vWa{a b r:Str}(hx:ρ x=.s a)(hy:ρ y=.s b)(hr:cat a b=some r):EvQ P ⟨dst,.binOp .add t x y t',ty,pos,af,gu⟩ ρ σ (.s r):=
 ⟨fun c=>by simp,fun g ρv h _=>by
  obtain ⟨h1,h2⟩:=ops2 (o:=⟨dst,.binOp .add t x y t',ty,pos,af,gu⟩) (x:=x) (y:=y) rfl h;rw[hx]at h1;rw[hy]at h2;have e1:=zKa h1;have e2:=zKa h2;obtain ⟨hle,rfl⟩:=cat_spec hr;refine ⟨.string (strB (a++b)),?_,.pv (.b rfl)⟩;have hm:¬(((strB a).size+(strB b).size:Nat):Int) > IntKind.i64.max:=by
   rw[zta,zta];have:IntKind.i64.max=9223372036854775807:=rfl;omega
  have happ:strB a++strB b=strB (a++b):=Go.ByteArray.mk_append_mk a b;show Sem.run P (do let v <-(do eqGuard .add t x y (ρv x) (ρv y);binOp .add t (ρv x) (ρv y));pure (Next.value v)) g.w=_;rw[e1,e2];simp only[eqGuard,binOp,Op.stringOp,jAr,if_neg hm]
  simp_all⟩
structure EqOk (P:Program) (t:TypeId) (x y:Value) (r:Bool):Prop where
 run:∀d w,(Op.equalIn (d+1) t x y).run P w=.ok r w
theorem qXb{a b:Bool}(ht:P.underlying t=some .bool):EqOk P t (.bool a) (.bool b) (a==b):=⟨fun d w=>by
 unfold Op.equalIn;simp only[jAr,underlying,program,Sem.run,ht,jAo,jAv]⟩
theorem eq_int{k kk:IntKind}{a b:Int}(ht:P.underlying t=some (.int kk)):EqOk P t (.int k a) (.int k b) (a==b):=⟨fun d w=>by
 unfold Op.equalIn;simp only[jAr,underlying,program,Sem.run,ht,jAo,jAv,if_true]⟩
theorem strB_beq(a b:Str):(strB a==strB b)=(a==b):=by
 show ((strB a).data==(strB b).data)=(a==b);simp[strB]
theorem eq_str{a b:Str}(ht:P.underlying t=some .string):EqOk P t (.string (strB a)) (.string (strB b)) (a==b):=⟨fun d w=>by
 unfold Op.equalIn;simp only[jAr,underlying,program,Sem.run,ht,jAo,jAv,strB_beq]⟩
theorem ev_beql{a b:Bool}(hx:ρ x=.bo a)(hy:ρ y=.bo b)(ht:TyOk P t ss sb sz .bool):EvQ P ⟨dst,.binOp .eql t x y t',ty,pos,af,gu⟩ ρ σ (.bo (a==b)):=
 ⟨fun c=>by simp,fun g ρv h _=>by
  obtain ⟨h1,h2⟩:=ops2 (o:=⟨dst,.binOp .eql t x y t',ty,pos,af,gu⟩) (x:=x) (y:=y) rfl h;rw[hx]at h1;rw[hy]at h2;have e1:=zKa h1;have e2:=zKa h2;refine ⟨.bool (a==b),?_,.pv (.b rfl)⟩;show Sem.run P (do let v <-(do eqGuard .eql t x y (ρv x) (ρv y);binOp .eql t (ρv x) (ρv y));pure (Next.value v)) g.w=_;rw[e1,e2];have he:Sem.run P (Op.equal t (.bool a) (.bool b)) g.w=.ok (a==b) g.w:=(qXb ht.u).run 9999 g.w;simp[eqGuard,binOp,jAr,he,jAv]⟩
theorem ev_bneq{a b:Bool}(hx:ρ x=.bo a)(hy:ρ y=.bo b)(ht:TyOk P t ss sb sz .bool):EvQ P ⟨dst,.binOp .neq t x y t',ty,pos,af,gu⟩ ρ σ (.bo (a !=b)):=
 ⟨fun c=>by simp,fun g ρv h _=>by
  obtain ⟨h1,h2⟩:=ops2 (o:=⟨dst,.binOp .neq t x y t',ty,pos,af,gu⟩) (x:=x) (y:=y) rfl h;rw[hx]at h1;rw[hy]at h2;have e1:=zKa h1;have e2:=zKa h2;refine ⟨.bool (a !=b),?_,.pv (.b rfl)⟩;show Sem.run P (do let v <-(do eqGuard .neq t x y (ρv x) (ρv y);binOp .neq t (ρv x) (ρv y));pure (Next.value v)) g.w=_;rw[e1,e2];have he:Sem.run P (Op.equal t (.bool a) (.bool b)) g.w=.ok (a==b) g.w:=(qXb ht.u).run 9999 g.w;simp[eqGuard,binOp,jAr,he,jAv,bne]⟩
def Z4a:List Bool->Bool
 | []=>true
 | b::l=>b && Z4a l
theorem yWb{l:List Field}{xs ys:Array Value}{rs:List Bool}(ht:P.underlying t=some (.struct l.toArray))(hst:P.stoodInHeld t=false)(hl:rs.length=l.length)
 (h : ∀ (i : Nat) f r, l[i]? = some f -> rs[i]? = some r -> f.name ≠ "_" /\ ∃ x y, (∀ w, (part f.type xs f.offset).run P w = .ok x w) /\ (∀ w, (part f.type ys f.offset).run P w = .ok y w) /\ EqOk P f.type x y r) (d : Nat) (w : World) :
 (Op.equalIn (d+2) t (.agg xs) (.agg ys)).run P w=.ok (Z4a rs) w:=by
 unfold Op.equalIn;simp only[jAr,underlying,program,Sem.run,ht,jAo,jAv,hst,jAs,if_false];rw[List.forIn_toArray];have key:∀(l:List Field) (rs:List Bool),rs.length=l.length->
  (∀ (i : Nat) f r, l[i]? = some f -> rs[i]? = some r -> f.name ≠ "_" /\ ∃ x y, (∀ w, (part f.type xs f.offset).run P w = .ok x w) /\ (∀ w, (part f.type ys f.offset).run P w = .ok y w) /\ EqOk P f.type x y r) ->
  Sem.run P (forIn l (none,()) fun (f:Field) (_:Option Bool × Unit)=>
   if f.name ≠ "_" then do
    let a <-part f.type xs f.offset;let b <-part f.type ys f.offset;let c <-Op.equalIn (d+1) f.type a b
    if (!c)=true then pure (ForInStep.done (some false,())) else pure (ForInStep.yield (none,()))
   else pure (ForInStep.yield (none,()))) w=.ok ((if Z4a rs then none else some false),()) w:=by
  intro l;induction l with
  | nil=>intro rs hl _;obtain rfl:rs=[]:=jCi (by omega);rfl
  | cons f l ih=>
   intro rs hl h;cases rs with
   | nil=>grind
   | cons r rs=>
    obtain ⟨hn,x,y,h1,h2,h3⟩:=h 0 f r rfl rfl;have ih' :=ih rs (by simp_all) (fun i f r hf hr=>h (i+1) f r (by simp_all) (by simp_all));rw[List.forIn_cons,jAr,if_pos hn,jAr,h1,jAo,jAr,h2,jAo,jAr,h3.run,jAo];cases r with
    | false=>simp[jAv,Z4a]
    | true=>
     simp only[jBo,jAs,if_false,jAv,jAo];rw[ih'];simp[Z4a]
 rw[key l rs hl h];cases Z4a rs <;> rfl
theorem run_scut{P:Program}{w:World}{s:Str}{lo hi:Option Value}{l h:Int}{r:Str}(ht:P.underlying t=some .string)(hlo:lo=none/\l=0∨∃k,lo=some (.int k l))(hhi:hi=none/\h=s.length∨∃k,hi=some (.int k h))(hr:cut s l h=some r):
 (Instr.sliceAt t (.string (strB s)) lo hi none).run P w=.ok (.string (strB r)) w:=by
 obtain ⟨h0,h1,h2,rfl⟩:=WZa hr;have hx:(strB s).extract l.toNat h.toNat=strB ((s.drop l.toNat).take (h - l).toNat):=by
  have:h.toNat - l.toNat=(h - l).toNat:=by omega
  rw[<-this];exact Go.ByteArray.extract_mk s l.toNat h.toNat
 have hbl:(Instr.sliceBounds false (strB s).size (strB s).size lo hi none).run P w=.ok (l.toNat,h.toNat,s.length) w:=by
  rw[zta];rcases hlo with ⟨rfl,rfl⟩ | ⟨k1,rfl⟩ <;> rcases hhi with ⟨rfl,rfl⟩ | ⟨k2,rfl⟩
  .simp[Instr.sliceBounds]
  .have a1:0<=h/\h<=(s.length:Int):=⟨by omega,by omega⟩;simp[Instr.sliceBounds,Instr.sliceBound,asIntOf,a1]
  .have a1:0<=l/\l<=(s.length:Int):=⟨by omega,by omega⟩;simp[Instr.sliceBounds,Instr.sliceBound,asIntOf,a1]
  have a1:0<=h/\h<=(s.length:Int):=⟨by omega,by omega⟩;have a2:0<=l/\l<=h:=⟨by omega,by omega⟩;have a3:max h 0=h:=by omega
  simp[Instr.sliceBounds,Instr.sliceBound,asIntOf,a1,a2,a3]
 simp only[Instr.sliceAt,underlying,program,jAr,Sem.run,ht,jAo,jAv,Instr.slice,hbl,hx,Option.isSome_none,jAs,if_false]
theorem zsb{s r:Str}{lo hi:Option Operand}{l h:Int}(hx:ρ x=.s s)(hlo:lo=none/\l=0∨∃o k,lo=some o/\ρ o=.pv (.b (.int k l)))(hhi:hi=none/\h=s.length∨∃o k,hi=some o/\ρ o=.pv (.b (.int k h)))(ht:TyOk P t ss sb sz .string)(hr:cut s l h=some r):
 EvQ P ⟨dst,.slice t x lo hi none,ty,pos,af,gu⟩ ρ σ (.s r):=
 ⟨fun c=>by simp,fun g ρv hh _=>by
  have h1:=hh x (by simp[Op.operands]);rw[hx]at h1;have e1:=zKa h1;refine ⟨.string (strB r),?_,.pv (.b rfl)⟩;show Sem.run P (do let v <-Instr.sliceAt t (ρv x) (lo.map ρv) (hi.map ρv) none;pure (Next.value v)) g.w=_;rw[e1,jAr,run_scut (s:=s) (l:=l) (h:=h) (r:=r) ht.u ?_ ?_ hr]
  .rfl
  .rcases hlo with ⟨rfl,rfl⟩ | ⟨o,k,rfl,ho⟩
   .simp_all
   have h2:=hh o (by simp[Op.operands]);rw[ho]at h2;exact .inr ⟨k,by simp[zKa h2]⟩
  rcases hhi with ⟨rfl,rfl⟩ | ⟨o,k,rfl,ho⟩
  .simp_all
  have h2:=hh o (by simp[Op.operands]);rw[ho]at h2;exact .inr ⟨k,by simp[zKa h2]⟩⟩
section
variable {s r:Str} {l h:Int} {k' :IntKind}
theorem ztb(hx:ρ x=.s s)(hy:ρ y=.pv (.b (.int k l)))(ht:TyOk P t ss sb sz .string)(hr:cut s l s.length=some r):EvQ P ⟨dst,.slice t x (some y) none none,ty,pos,af,gu⟩ ρ σ (.s r):=zsb hx (.inr ⟨y,k,rfl,hy⟩) (.inl ⟨rfl,rfl⟩) ht hr
theorem v3b(hx:ρ x=.s s)(hz:ρ z=.pv (.b (.int k h)))(ht:TyOk P t ss sb sz .string)(hr:cut s 0 h=some r):EvQ P ⟨dst,.slice t x none (some z) none,ty,pos,af,gu⟩ ρ σ (.s r):=zsb hx (.inl ⟨rfl,rfl⟩) (.inr ⟨z,k,rfl,hz⟩) ht hr
theorem yXb(hx:ρ x=.s s)(hy:ρ y=.pv (.b (.int k l)))(hz:ρ z=.pv (.b (.int k' h)))(ht:TyOk P t ss sb sz .string)(hr:cut s l h=some r):EvQ P ⟨dst,.slice t x (some y) (some z) none,ty,pos,af,gu⟩ ρ σ (.s r):=zsb hx (.inr ⟨y,k,rfl,hy⟩) (.inr ⟨z,k',rfl,hz⟩) ht hr
end
end
end
section
open Go.RowKit Go.Lib
def app{α:Type}(lim:Nat)(l xs:List α):Option (List α):=if l.length+xs.length<=lim then some (l++xs) else none
theorem zub{α:Type}{lim:Nat}{l xs r:List α}(h:app lim l xs=some r):l.length+xs.length<=lim/\r=l++xs:=by
 unfold app at h
 simp_all
structure News {α:Type} (w:World) (u:Nat->Nat) (size:Nat) (F:α->List PV) (xs:List α) (news:List Value):Prop where
 len:news.length=xs.length * size
 z:∀x∈xs,(F x).length=size
 rel:∀i j x c,xs[i]? =some x->(F x)[j]? =some c->∃v,news[i * size+j]? =some v/\RelP w u c v
theorem News.cell{α:Type}{w:World}{u:Nat->Nat}{size:Nat}{F:α->List PV}{xs:List α}{news:List Value}(h:News w u size F xs news){k:Nat}{v:Value}(hk:news[k]? =some v):∃i j x c,k=i * size+j/\xs[i]? =some x/\(F x)[j]? =some c/\RelP w u c v:=by
 have hlt:=(jAd.1 hk).1;rw[h.len]at hlt;have hs:0 < size:=by
  rcases Nat.eq_zero_or_pos size with h0 | h0
  .simp_all
  exact h0
 have hi:k / size < xs.length:=Nat.div_lt_of_lt_mul (by grind);have hx:=h.z xs[k / size] (jDi hi);have hj:k % size < (F xs[k / size]).length:=by rw[hx];exact Nat.mod_lt _ hs
 have e:k=k / size * size+k % size:=(Nat.div_add_mod' k size).symm;obtain ⟨v',h1,h2⟩:=h.rel (k / size) (k % size) _ _ (jAe hi) (jAe hj);rw[<-e,hk]at h1;cases h1;exact ⟨k / size,k % size,_,_,e,jAe hi,jAe hj,h2⟩
theorem News.one{α:Type}{w:World}{u:Nat->Nat}{size:Nat}{F:α->List PV}{xs:List α}{news:List Value}(h:News w u size F xs news):∀v∈news,v.oneCell' =true:=by
 intro v hv;obtain ⟨k,hk,rfl⟩:=jBz hv;obtain ⟨_,_,_,c,_,_,_,hr⟩:=h.cell (jAe hk);have:=hr.cellV;cases hc:news[k] <;> rw[hc]at this <;> first | rfl | simp[cellV]at this
def Qua(size k:Nat):Option Addr × Option (Nat × Nat × Nat × Array Value)->List Value
 | (_,none)=>[]
 | (_,some (_,off,_,cur))=>(cur.toList.drop (off * size)).take k
inductive Qva (w:World) (e:TypeId) (size:Nat) (old:Option Addr × Option (Nat × Nat × Nat × Array Value)) (n m:Nat) (news:List Value):Value->World->Prop
 | same (hm:m=0) (v:Value) (hv:v=match old with | (a,none)=>.slice a 0 0 | (a,some (_,_,cap,_))=>.slice a n cap):Qva w e size old n m news v w
 | room {a:Option Addr} {b off cap:Nat} {cur:Array Value} (ho:old=(a,some (b,off,cap,cur))) (hle:n+m<=cap) (hm:0 < m):
  Qva w e size old n m news (.slice (some ⟨b,off * size,none⟩) (n+m) cap) (w.setRow b (cur.toList.take ((off+n) * size)++news++cur.toList.drop ((off+n) * size+news.length)).toArray)
 | fresh {cap:Nat} {cells:Array Value} (hc:cells.size=cap * size) (hle:n+m<=cap) (hm:cap<=maxLen)
  (ht:cells.toList.take ((n+m) * size)=Qua size (n * size) old++news):
  Qva w e size old n m news (.slice (some ⟨w.heap.size,0,none⟩) (n+m) cap) (w.drew.alloc (.cells cells e))
def oldV(n:Nat):Option Addr × Option (Nat × Nat × Nat × Array Value)->Value
 | (a,none)=>.slice a 0 0
 | (a,some (_,_,cap,_))=>.slice a n cap
def yYb(w:World)(e:TypeId)(size n:Nat):Option Addr × Option (Nat × Nat × Nat × Array Value)->Prop
 | (_,none)=>n=0
 | (a,some (b,off,cap,cur))=>w.heap[b]? =some (.cells cur e (0,0))/\cur.size=(off+cap) * size/\n<=cap/\cap<=maxLen/\(∃ad,a=some ad/\(0 < cap->ad=⟨b,off * size,none⟩))
theorem Vba{P:Program}(w:World)(t ty e:TypeId)(i:TypeInfo)(ht:P.underlying t=some (.slice e))(hi:P.info? e=some i)
 (g off sLen sCap:Nat) (cur:Array Value) (hg:w.heap[g]? =some (.cells cur e (0,0)))
 (a:Addr) (m c:Nat) (news:List Value) (hl:news.length=m * i.size) (hnews:∀j u,news[j]? =some u->w.cell? (a.add j)=some u) (h1:∀u∈news,u.oneCell' =true)
 (hroom:sLen+m<=sCap) (hfit:(off+sLen) * i.size+news.length<=cur.size):
 (Builtin.append_ #[t,t] ty #[.slice (some ⟨g,off * i.size,none⟩) sLen sCap,.slice (some a) m c]).run P w=
  .ok (.slice (some ⟨g,off * i.size,none⟩) (sLen+m) sCap) (w.setRow g (cur.toList.take ((off+sLen) * i.size)++news++cur.toList.drop ((off+sLen) * i.size+news.length)).toArray):=by
 have hf:=run_firstCells_some (P:=P) w i.size m a m c news hl hnews;have hst:=run_storeCells_at P g ((off+sLen) * i.size) e news 0 cur w hg (by omega) h1;simp only[jBy]at hst;rw[jBn]at hst ⊢;simp[Builtin.append_,run_underlying ht,sizeOf,typeInfo,hi,Builtin.lenOf,hroom,hf,Addr.add_lit,hst]
section
variable {P:Program} {w:World} {t tx ty e:TypeId} {size bytes sb:Nat} {zero sz:Value} {d:TypeDesc} {ss:Nat}
theorem Vca(ht:TyOk P t ss sb sz (.slice e))(he:TyOk P e size bytes zero d)(hz:zero.cells.size=size)(hs:0 < size){old:Option Addr × Option (Nat × Nat × Nat × Array Value)}{n:Nat}(ho:yYb w e size n old)
 {a:Addr} {m c:Nat} {news:List Value} (hl:news.length=m * size) (hnews:∀j u,news[j]? =some u->w.cell? (a.add j)=some u) (h1:∀u∈news,u.oneCell' =true) (hlim:(n+m) * bytes<=140737488355328) (hmax:n+m<=maxLen):
 ∃v' w',(Builtin.append_ #[t,t] ty #[oldV n old,.slice (some a) m c]).run P w=.ok v' w' /\Qva w e size old n m news v' w' :=by
 obtain ⟨i,hi,hsz,hby,hzero⟩:=he.info;subst hsz;subst hby;have h63:((n+m:Nat):Int)<=9223372036854775807:=by unfold maxLen at hmax;omega
 have fresh:∀(old0:Nat) (olds:List Value),olds.length=n * i.size->∃cells:Array Value,cells=olds.toArray++news.toArray++Builtin.zeroCells zero.cells (grownCap w (n+m) old0 e - (n+m))/\cells.size=grownCap w (n+m) old0 e * i.size/\
  cells.toList.take ((n+m) * i.size)=olds++news/\n+m<=grownCap w (n+m) old0 e/\grownCap w (n+m) old0 e<=maxLen:=by
  intro old0 olds hol;have hge:=grownCap_ge w (n+m) old0 e;refine ⟨_,rfl,?_,?_,hge,grownCap_le_maxLen w (n+m) old0 e hmax⟩
  .simp only[Array.size_append,List.size_toArray,size_zeroCells,hz,hol,hl,<-jBn]
   simp_all
  have hlen:(olds++news).length=(n+m) * i.size:=by rw[jBs,hol,hl,jBn]
  grind
 obtain ⟨a0,old⟩:=old;cases old with
 | none=>
  obtain rfl:n=0:=ho;by_cases hm:m=0
  .subst hm;have hn:news=[]:=jCi (by omega);subst hn;refine ⟨.slice a0 0 0,w,?_,.same rfl _ rfl⟩;cases a0 <;> simp[oldV,Builtin.append_,run_underlying ht.u,sizeOf,typeInfo,hi,Builtin.lenOf,Builtin.firstCells,loadCells,loadCellsFrom,storeCells]
  cases a0 with
  | none=>
   have hr:=run_append_nil (P:=P) w t ty e i zero ht.u hi hzero a m c news hl hnews (by omega) (by omega) (by grind);obtain ⟨cells,hcd,hc1,hc2,hc3,hc4⟩:=fresh 0 [] (by simp);simp only[jCc,Array.empty_append,jCf]at hcd hc1 hc2 hc3 hc4;rw[<-hcd]at hr;refine ⟨_,_,hr,?_⟩;have:=Qva.fresh (w:=w) (e:=e) (size:=i.size) (old:=(none,none)) (n:=0) (m:=m) (news:=news) (cap:=grownCap w m 0 e) (cells:=cells) hc1 (by omega) hc4 (by simpa[Qua]using hc2)
   simp_all
  | some ad=>
   have hr:=run_append_grow (P:=P) w t ty e i zero ht.u hi hzero ad 0 0 [] (by simp) (fun j v hj=>by grind) a m c news hl hnews (by omega) h63 (growslice_fits (by omega) hlim);obtain ⟨cells,hcd,hc1,hc2,hc3,hc4⟩:=fresh 0 [] (by simp);rw[<-hcd]at hr;exact ⟨_,_,hr,.fresh hc1 hc3 hc4 (by simpa[Qua]using hc2)⟩
 | some o=>
  obtain ⟨b,off,cap,cur⟩:=o;obtain ⟨hb,hcs,hnc,hcm,a0,rfl,ha0⟩:=ho;by_cases hm:m=0
  .subst hm;have hn:news=[]:=jCi (by omega);subst hn;refine ⟨.slice (some a0) n cap,w,?_,.same rfl _ rfl⟩;simp[oldV,Builtin.append_,run_underlying ht.u,sizeOf,typeInfo,hi,Builtin.lenOf,Builtin.firstCells,loadCells,loadCellsFrom,hnc,storeCells]
  by_cases hroom:n+m<=cap
  .obtain rfl:=ha0 (by omega);have hfit:(off+n) * i.size+news.length<=cur.size:=by rw[hl,hcs,<-jBn];exact jBc _ (by omega)
   exact ⟨_,_,Vba (P:=P) w t ty e i ht.u hi b off n cap cur hb a m c news hl hnews h1 hroom hfit,.room rfl hroom (by omega)⟩
  have hol:((cur.toList.drop (off * i.size)).take (n * i.size)).length=n * i.size:=by
   simp only[jCh,jCu,jBt,hcs];rw[jBn,Nat.add_sub_cancel_left];exact Nat.min_eq_left (jBc _ hnc)
  have holds:∀j v,((cur.toList.drop (off * i.size)).take (n * i.size))[j]? =some v->w.cell? (a0.add j)=some v:=by
   intro j v hj;have hlt:j < n * i.size:=by have:=(jAd.1 hj).1;rwa [hol]at this
   have hn0:0 < n:=by
    rcases Nat.eq_zero_or_pos n with h | h
    .simp_all
    exact h
   obtain rfl:=ha0 (by omega);rw[jBd hlt,jBu]at hj;rw[qwa];simp only[World.cell?,hb];simpa using hj
  have hr:=run_append_grow (P:=P) w t ty e i zero ht.u hi hzero a0 n cap _ hol holds a m c news hl hnews (by omega) h63 (growslice_fits (by omega) hlim);obtain ⟨cells,hcd,hc1,hc2,hc3,hc4⟩:=fresh cap _ hol;rw[<-hcd]at hr;exact ⟨_,_,hr,.fresh hc1 hc3 hc4 hc2⟩
theorem Wpa(ht:TyOk P t ss sb sz (.slice e))(he:TyOk P e size bytes zero d){old:Option Addr × Option (Nat × Nat × Nat × Array Value)}{n:Nat}(ho:yYb w e size n old):
 ∃v' w',(Builtin.append_ #[t,t] ty #[oldV n old,.slice none 0 0]).run P w=.ok v' w' /\Qva w e size old n 0 [] v' w' :=by
 obtain ⟨i,hi,hsz,hby,hzero⟩:=he.info;obtain ⟨a0,old⟩:=old;cases old with
 | none=>
  obtain rfl:n=0:=ho;refine ⟨.slice a0 0 0,w,?_,.same rfl _ rfl⟩;cases a0 <;> simp[oldV,Builtin.append_,run_underlying ht.u,sizeOf,typeInfo,hi,Builtin.lenOf,Builtin.firstCells,storeCells]
 | some o=>
  obtain ⟨b,off,cap,cur⟩:=o;obtain ⟨hb,hcs,hnc,hcm,a0,rfl,ha0⟩:=ho;refine ⟨.slice (some a0) n cap,w,?_,.same rfl _ rfl⟩;simp[oldV,Builtin.append_,run_underlying ht.u,sizeOf,typeInfo,hi,Builtin.lenOf,Builtin.firstCells,hnc,storeCells]
theorem qYb(ht:TyOk P t ss sb sz (.slice e))(hx:P.underlying tx=some .string)(he:TyOk P e 1 1 (.int .u8 0) d){old:Option Addr × Option (Nat × Nat × Nat × Array Value)}{n:Nat}(ho:yYb w e 1 n old)(s:ByteArray)
 (hlim:n+s.size<=140737488355328):
 ∃v' w',(Builtin.append_ #[t,tx] ty #[oldV n old,.string s]).run P w=.ok v' w' /\Qva w e 1 old n s.size (strCells s) v' w' :=by
 obtain ⟨i,hi,hsz,hby,hzero⟩:=he.info;have hmax:n+s.size<=maxLen:=by unfold maxLen;omega
 have fresh:∀(old0:Nat) (olds:List Value),olds.length=n->∃cells:Array Value,cells=olds.toArray++(strCells s).toArray++Builtin.zeroCells #[.int .u8 0] (grownCap w (n+s.size) old0 e - (n+s.size))/\cells.size=grownCap w (n+s.size) old0 e * 1/\
  cells.toList.take ((n+s.size) * 1)=olds++strCells s/\n+s.size<=grownCap w (n+s.size) old0 e/\grownCap w (n+s.size) old0 e<=maxLen:=by
  intro old0 olds hol;have hge:=grownCap_ge w (n+s.size) old0 e;refine ⟨_,rfl,?_,?_,hge,grownCap_le_maxLen w (n+s.size) old0 e hmax⟩
  .simp only[Array.size_append,List.size_toArray,size_zeroCells,hol,strCells_length]
   grind
  have hlen:(olds++strCells s).length=(n+s.size) * 1:=by rw[jBs,hol,strCells_length];omega
  grind
 obtain ⟨a0,old⟩:=old;cases old with
 | none=>
  obtain rfl:n=0:=ho;by_cases hm:s.size=0
  .refine ⟨.slice a0 0 0,w,?_,?_⟩
   .have hd:s.data= #[]:=jBw hm;cases a0 <;> simp[oldV,Builtin.append_,run_underlying ht.u,run_underlying hx,sizeOf,typeInfo,hi,Builtin.lenOf,Builtin.firstCells,hm,storeCells,hd]
   exact .same hm _ rfl
  cases a0 with
  | none=>
   have hr:=run_append_nil_string (P:=P) w t tx ty e i (.int .u8 0) ht.u hx hi hzero s (by omega) (by omega) (by grind);obtain ⟨cells,hcd,hc1,hc2,hc3,hc4⟩:=fresh 0 [] rfl;simp only[jCc,Array.empty_append,jCf]at hcd hc1 hc2 hc3 hc4;have e2:(strCells s).toArray=s.data.map (fun b=>Value.int .u8 b.toNat):=by apply Array.ext';simp[strCells]
   rw[e2]at hcd;have hr' :(Builtin.append_ #[t,tx] ty #[oldV 0 (none,none),.string s]).run P w=.ok (.slice (some ⟨w.heap.size,0,none⟩) s.size (grownCap w s.size 0 e)) (w.drew.alloc (.cells cells e)):=by rw[hcd];exact hr
   refine ⟨_,_,hr',?_⟩;have:=Qva.fresh (w:=w) (e:=e) (size:=1) (old:=(none,none)) (n:=0) (m:=s.size) (news:=strCells s) (cap:=grownCap w s.size 0 e) (cells:=cells) hc1 (by omega) hc4 (by simpa[Qua]using hc2)
   simp_all
  | some ad=>
   have hr:=run_append_grow_string (P:=P) w t tx ty e i (.int .u8 0) ht.u hx hi hzero ad 0 0 [] (by simp) (fun j v hj=>by grind) s (by omega) (by omega) (by rw[hby];exact growslice_fits (by omega) (by omega));obtain ⟨cells,hcd,hc1,hc2,hc3,hc4⟩:=fresh 0 [] rfl;have hr' :(Builtin.append_ #[t,tx] ty #[oldV 0 (some ad,none),.string s]).run P w=.ok (.slice (some ⟨w.heap.size,0,none⟩) (0+s.size) (grownCap w (0+s.size) 0 e)) (w.drew.alloc (.cells cells e)):=by rw[hcd];exact hr
   exact ⟨_,_,hr',.fresh hc1 hc3 hc4 (by simpa[Qua]using hc2)⟩
 | some o=>
  obtain ⟨b,off,cap,cur⟩:=o;obtain ⟨hb,hcs,hnc,hcm,a0,rfl,ha0⟩:=ho;simp only[jCz]at hcs ha0;by_cases hm:s.size=0
  .refine ⟨.slice (some a0) n cap,w,?_,.same hm _ rfl⟩;have hd:s.data= #[]:=jBw hm;simp[oldV,Builtin.append_,run_underlying ht.u,run_underlying hx,sizeOf,typeInfo,hi,Builtin.lenOf,Builtin.firstCells,hm,hnc,storeCells,hd]
  by_cases hroom:n+s.size<=cap
  .obtain rfl:=ha0 (by omega);have hf:=run_firstCells_string (P:=P) w 1 s;have hst:=run_storeCells_at P b (off+n) e (strCells s) 0 cur w hb (by simp[strCells_length];omega) (strCells_oneCell s);simp only[jBy,strCells_length]at hst;have hr:(Builtin.append_ #[t,tx] ty #[.slice (some ⟨b,off,none⟩) n cap,.string s]).run P w=
    .ok (.slice (some ⟨b,off,none⟩) (n+s.size) cap) (w.setRow b (cur.toList.take (off+n)++strCells s++cur.toList.drop (off+n+s.size)).toArray):=by
    simp[Builtin.append_,run_underlying ht.u,run_underlying hx,sizeOf,typeInfo,hi,hsz,Builtin.lenOf,hroom,hf,Addr.add_lit,hst]
   refine ⟨_,_,hr,?_⟩;have:=Qva.room (w:=w) (e:=e) (size:=1) (old:=(some ⟨b,off,none⟩,some (b,off,cap,cur))) (n:=n) (m:=s.size) (news:=strCells s) rfl hroom (by omega);simpa[strCells_length]using this
  have hol:((cur.toList.drop off).take n).length=n:=by
   simp only[jCh,jCu,jBt,hcs];omega
  have holds:∀j v,((cur.toList.drop off).take n)[j]? =some v->w.cell? (a0.add j)=some v:=by
   intro j v hj;have hlt:j < n:=by have:=(jAd.1 hj).1;rwa [hol]at this
   obtain rfl:=ha0 (by omega);rw[jBd hlt,jBu]at hj;rw[qwa];simp only[World.cell?,hb];simpa using hj
  have hr:=run_append_grow_string (P:=P) w t tx ty e i (.int .u8 0) ht.u hx hi hzero a0 n cap _ (by simp_all) holds s (by omega) (by omega) (by rw[hby];exact growslice_fits (by omega) (by omega));obtain ⟨cells,hcd,hc1,hc2,hc3,hc4⟩:=fresh cap _ hol;have hr' :(Builtin.append_ #[t,tx] ty #[oldV n (some a0,some (b,off,cap,cur)),.string s]).run P w=.ok (.slice (some ⟨w.heap.size,0,none⟩) (n+s.size) (grownCap w (n+s.size) cap e)) (w.drew.alloc (.cells cells e)):=by rw[hcd];exact hr
  exact ⟨_,_,hr',.fresh hc1 hc3 hc4 (by simpa[Qua]using hc2)⟩
end
end
section
open Go.RowKit Go.Lib
def AV.clr(r:Nat)(c:AV):AV:=bif c.has r then .any else c
def Fr.clr(r:Nat):Fr->Fr
 | []=>[]
 | (k,a)::l=>(k,a.clr r)::Fr.clr r l
def AO.clr(r:Nat):AO->AO
 | .cells cs=>.cells (cs.map (AV.clr r))
 | .hold c v=>.hold (c.clr r) v
 | o=>o
def Sto.clr(r:Nat):Sto->Sto
 | []=>[]
 | (k,a)::l=>(k,a.clr r)::Sto.clr r l
theorem Fr.get_clr(r:Nat)(fr:Fr)(d:Nat):(fr.clr r).get d=(fr.get d).clr r:=by
 induction fr with
 | nil=>rfl
 | cons x l ih=>
  obtain ⟨k,a⟩:=x;simp only[Fr.clr,Fr.get_cons,ih]
  grind
theorem Sto.get_clr(r:Nat)(σ:Sto)(o:Nat):(σ.clr r).get o=(σ.get o).map (AO.clr r):=by
 induction σ with
 | nil=>rfl
 | cons x l ih=>
  obtain ⟨k,a⟩:=x;simp only[Sto.clr,Sto.get_cons,ih]
  grind
theorem zvb{g g' :G}{r:Nat}(hx:Ext g.w g.u g'.w g'.u)(hl:∀k,k≠r->g'.loc k=g.loc k){c:AV}{v:Value}(h:Rel g c v):Rel g' (c.clr r) v:=by
 unfold AV.clr;cases hc:c.has r with
 | true=>exact .any _
 | false=>exact h.mono hx fun k hk=>hl k (by grind)
variable {E:Env} {fr:Fr} {σ:Sto} {K:Post}
theorem St.row_upd{g g' :G}{a:Act}(h:St E g a fr σ){r:Nat}{ob0 ob:AO}(hr:σ.get r=some ob0)(hx:Ext g.w g.u g'.w g'.u)(hl:∀k,k≠r->g'.loc k=g.loc k)
 (hos:g'.w.os=g.w.os) (htape:g'.w.tape=g.w.tape) (hout:g'.w.output=g.w.output)
 (hb:∀b,b < g.w.heap.size->(g.loc r).block≠some b->g'.w.heap[b]? =g.w.heap[b]? /\g'.u b=g.u b) (hwf:Wf g') (hob:RelO g' r ob)
 (hnew:∀b,(g'.loc r).block=some b->(g.loc r).block=some b∨g.w.heap.size<=b) (hk0:∀l b,ob0.own l b=(l.block=some b):=by intro _ _;rfl) (hk1:∀l b,ob.own l b=(l.block=some b):=by intro _ _;rfl):St E g' a (fr.clr r) ((σ.clr r).upd r ob):=by
 have hgr:(σ.clr r).get r=some (ob0.clr r):=by rw[Sto.get_clr,hr];rfl
 have hget:∀o ob',((σ.clr r).upd r ob).get o=some ob' ->(o=r/\ob' =ob)∨(o≠r/\∃ob1,σ.get o=some ob1/\ob' =ob1.clr r):=by
  intro o ob' ho;rw[Sto.get_upd hgr]at ho;split at ho
  .simp_all
  rename_i hor;rw[Sto.get_clr]at ho;cases ho1:σ.get o with
  | none=>simp_all
  | some ob1=>simp_all
 have hclr:∀(ob1:AO) l,(ob1.clr r).own l=ob1.own l:=by intro ob1 l;cases ob1 <;> rfl
 have hblk:∀o ob1 b,o≠r->σ.get o=some ob1->ob1.own (g.loc o) b->(g.loc r).block≠some b:=fun o ob1 b hne ho hb hc=>hne (h.so.apart o r ob1 ob0 b ho hr hb (by simp_all))
 refine ⟨fun d=>by rw[Fr.get_clr];exact zvb hx hl (h.fr d),h.n,h.df.mono hx,⟨?_,?_,?_,?_,hwf⟩⟩
 .intro o ob' ho;rcases hget o ob' ho with ⟨rfl,rfl⟩ | ⟨hne,ob1,ho1,rfl⟩
  .omega
  have hro:=h.so.obj o ob1 ho1;have hro' :=hro;cases hro' with
  | @cells cs b t vs h1 h2 h3 h4 h5 h6=>
   obtain ⟨b1,b2⟩:=hb b (zVa h2) (hblk o _ b hne ho1 (by rw[h1];rfl));refine .cells ((hl o hne).trans h1) (b1.trans h2) (by simp_all) (b2.trans h4) h5 fun i c hi=>?_
   simp only[jAk,jAh]at hi;obtain ⟨c',hc',rfl⟩:=hi;exact zvb hx hl (h6 i c' hc')
  | nil h1=>exact .nil ((hl o hne).trans h1)
  | @row e mu size elems b off cap vs h1 h2 h3 h3' h4 h5 h6 h7 h9=>
   obtain ⟨b1,b2⟩:=hb b (zVa h2) (hblk o _ b hne ho1 (by rw[h1];rfl));exact .row ((hl o hne).trans h1) (b1.trans h2) h3 h3' h4 h5 (by omega) (by simp_all) fun i j x c hi hj=>(h9 i j x c hi hj).mono hx
  | hold h1=>exact .hold (zvb hx hl h1)
  | sus h1=>exact .sus (h1.mono hx)
  | @lp L b h1 h2=>
   obtain ⟨b1,b2⟩:=hb b (zVa h2) (hblk o _ b hne ho1 (by rw[h1];rfl));exact .lp ((hl o hne).trans h1) (b1.trans h2)
  | @it s pos b h1 h2 h3=>
   obtain ⟨b1,b2⟩:=hb b (zVa h2) (hblk o _ b hne ho1 (by rw[h1];rfl));exact .it ((hl o hne).trans h1) (b1.trans h2) (b2.trans h3)
  | @buf l e b cap vs h1 h2 h3 h4 h5 h6=>
   obtain ⟨b1,b2⟩:=hb b (zVa h2) (hblk o _ b hne ho1 (by rw[h1];rfl));exact .buf ((hl o hne).trans h1) (b1.trans h2) h3 h4 (b2.trans h5) h6
  | @mapo ag es b clock ents h1 h2 h3 h4 h5=>
   obtain ⟨b1,b2⟩:=hb b (zVa h2) (hblk o _ b hne ho1 (by rw[h1];rfl));exact .mapo ((hl o hne).trans h1) (b1.trans h2) (b2.trans h3) h4 fun i k c hi=>by
    obtain ⟨x,e1,e2,e3⟩:=h5 i k c hi;exact ⟨x,e1,e2,e3.mono hx⟩
  | @opq t t1 n Q b vs h1 h2 h3 h4 h5=>
   obtain ⟨b1,b2⟩:=hb b (zVa h2) (hblk o _ b hne ho1 (by rw[h1];rfl));exact .opq ((hl o hne).trans h1) (b1.trans h2) h3 (b2.trans h4) fun w' u' hx' =>h5 w' u' (hx.to0.trans hx')
  | nrowNil h1=>exact .nrowNil ((hl o hne).trans h1)
  | nrow h1 h2 h3 h4 h5 h6 h7 h8 h9 h10 h11 h12=>exact (RelO.nrow h1 h2 h3 h4 h5 h6 h7 h8 h9 h10 h11 h12).mono hx (hl o hne) (fun _ hk=>by cases hk) fun b' hb' =>hb b' (hro.block_lt hb') (hblk o _ b' hne ho1 hb')
  | mapr h1 h2 h3 h4 h5 h6 h7=>exact (RelO.mapr h1 h2 h3 h4 h5 h6 h7).mono hx (hl o hne) (fun _ hk=>by cases hk) fun b' hb' =>hb b' (hro.block_lt hb') (hblk o _ b' hne ho1 hb')
 .intro o o' ob1 ob2 b h1 h2 h3 h4;rcases hget o ob1 h1 with ⟨rfl,rfl⟩ | ⟨hne,ob1,ho1,rfl⟩ <;> rcases hget o' ob2 h2 with ⟨rfl,rfl⟩ | ⟨hne',ob2,ho2,rfl⟩
  .rfl
  .rw[hclr,hl o' hne']at h4;rw[hk1]at h3;rcases hnew b h3 with h5 | h5
   .grind
   have:=(h.so.obj o' _ ho2).block_lt h4;omega
  .rw[hclr,hl o hne]at h3;rw[hk1]at h4;rcases hnew b h4 with h5 | h5
   .grind
   have:=(h.so.obj o _ ho1).block_lt h3;omega
  rw[hclr,hl o hne]at h3;rw[hclr,hl o' hne']at h4;exact h.so.apart o o' _ _ b ho1 ho2 h3 h4
 .intro o ob1 b h1 h2;rcases hget o ob1 h1 with ⟨rfl,rfl⟩ | ⟨hne,ob1,ho1,rfl⟩
  .rw[hk1]at h2;rcases hnew b h2 with h5 | h5
   .exact h.so.mine o _ b hr (by simp_all)
   exact .inl (jAt h.so.old.ext.size h5)
  rw[hclr,hl o hne]at h2;exact h.so.mine o _ b ho1 h2
 refine h.so.old.trans ⟨hos,htape,hout,hx,fun b hbl hs=>hb b hbl fun hc=>?_⟩;rcases h.so.mine r _ b hr (by simp_all) with h1 | h1
 all_goals simp_all
section
variable {α:Type} {F:α->List PV} {l xs:List α} {r size:Nat} {e:TypeId} {mu:Bool}
theorem Yka{g:G}(h:Wf g){w:World}(hw:g.w.heap.size<=w.heap.size)(l:Nat->Loc):Wf ⟨w,g.u,l⟩:=fun k hk=>h k (jAt hw hk)
def yZb(g:G)(r:Nat)(mu:Bool)(size:Nat)(F:α->List PV)(l:List α):Option Addr × Option (Nat × Nat × Nat × Array Value)->Prop
 | (_,none)=>g.loc r=.nilRow/\l=[]
 | (_,some (b,off,cap,cur))=>g.loc r=.row b off cap size l.length/\g.u b<=(off+l.length) * size/\(mu=true->g.u b=0)/\(∀x∈l,(F x).length=size)/\∀i j x c,l[i]? =some x->(F x)[j]? =some c->RelP g.w g.u c (cur.getD ((off+i) * size+j) undef)
theorem RelO.old{g:G}(h:RelO g r (.row e mu size (l.map F))){v:Value}(hv:Rel g (.hs r 0) v):∃old,yYb g.w e size l.length old/\v=oldV l.length old/\yZb g r mu size F l old:=by
 generalize hls:l.map F=ls at h;cases h with
 | nil hl=>
  obtain rfl:l=[]:=by simp_all
  cases hv with
  | hsNil a=>exact ⟨(a,none),rfl,rfl,hl,rfl⟩
  | hs h1=>simp_all
 | @row _ _ _ _ b off cap vs h1 h2 h3 h3' h4 h5 h6 h7 h9=>
  subst hls;simp only[jAx]at h1 h4 h6;cases hv with
  | hsNil a hl=>simp_all
  | @hs _ _ _ _ _ _ ad hl ha=>
   rw[h1]at hl;cases hl;exact ⟨(some ad,some (b,off,cap,vs)),⟨h2,h3,h4,h3',ad,rfl,ha⟩,rfl,h1,h6,h7,fun x hx=>h5 _ (List.mem_map_of_mem hx),fun i j x c hi hj=>h9 i j (F x) c (by grind) hj⟩
theorem Wqa{w:World}{u:Nat->Nat}{vs:List Value}{k:Nat}{v:Value}{c:PV}(h:vs[k]? =some v)(hr:RelP w u c v):RelP w u c (vs.toArray.getD k undef):=by
 simp_all
theorem St.appended{g:G}{a:Act}(h:St E g a fr σ)(hr:σ.get r=some (.row e mu size (l.map F))){old:Option Addr × Option (Nat × Nat × Nat × Array Value)}(hold:yYb g.w e size l.length old)
 (hobj:yZb g r mu size F l old)
 {news:List Value} (hn:News g.w g.u size F xs news) {v' :Value} {w' :World} (hres:Qva g.w e size old l.length xs.length news v' w'):
 ∃g',g'.w=w' /\St E g' a (fr.clr r) ((σ.clr r).upd r (.row e mu size ((l++xs).map F)))/\Rel g' (.hs r 0) v' :=by
 have hz:∀x∈l++xs,(F x).length=size:=by
  intro x hx;rcases jCk.1 hx with h1 | h1
  .obtain ⟨a0,old⟩:=old;cases old with
   | none=>rw[hobj.2]at h1;cases h1
   | some o=>obtain ⟨b,off,cap,cur⟩:=o;exact hobj.2.2.2.1 x h1
  exact hn.z x h1
 have hidx:∀(i j:Nat) x c,(l++xs)[i]? =some x->(F x)[j]? =some c->(i < l.length/\l[i]? =some x)∨(l.length<=i/\xs[i - l.length]? =some x):=by
  intro i j x c hi _;rcases jAu i l.length with h1 | h1
  .grind
  grind
 have hj:∀{i j:Nat} {x:α} {c:PV},(l++xs)[i]? =some x->(F x)[j]? =some c->j < size:=by
  intro i j x c hi hj;have:=(jAd.1 hj).1
  rwa [hz x (jAi hi)]at this
 cases hres with
 | same hm _ hv=>
  have hxs:xs=[]:=jCi hm;subst hxs;refine ⟨g,rfl,?_,?_⟩
  .rw[jDc];exact h.row_upd hr (Ext.refl _ _) (fun _ _=>rfl) rfl rfl rfl (fun _ _ _=>⟨rfl,rfl⟩) h.so.wf (h.so.obj r _ hr) (fun b hb=>.inl hb)
  subst hv;obtain ⟨a0,old⟩:=old;cases old with
  | none=>exact .hsNil _ hobj.1
  | some o=>
   obtain ⟨b,off,cap,cur⟩:=o;obtain ⟨ad,rfl,had⟩:=hold.2.2.2.2;have:=Rel.hs (g:=g) (r:=r) (a:=ad) hobj.1 had;omega
 | @room a0 b off cap cur ho hle hm0=>
  subst ho;obtain ⟨hl1,hl2,hl3,hl4,hl5⟩:=hobj;obtain ⟨hb,hcs,hnc,hcm,ad0,rfl,ha0⟩:=hold;have hbl:=zVa hb;have hfit:(off+l.length) * size+news.length<=cur.size:=by rw[hn.len,hcs,<-jBn];exact jBc _ (by omega)
  generalize hcells:(cur.toList.take ((off+l.length) * size)++news++cur.toList.drop ((off+l.length) * size+news.length))=cells;have hlen:cells.length=cur.size:=by rw[<-hcells];simp;omega
  have hpre:∀k,k < (off+l.length) * size->cells[k]? =cur.toList[k]? :=by
   intro k hk;rw[<-hcells,jBx,jAy (by grind),jBd hk]
  have hmid:∀k,k < news.length->cells[(off+l.length) * size+k]? =news[k]? :=by
   intro k hk;rw[<-hcells,jBx,jAq (by grind),jAy (by grind)]
   congr 1
   simp;omega
  have hheap:∀k,k≠b->(g.w.setRow b cells.toArray).heap[k]? =g.w.heap[k]? :=fun k hk=>by
   simp only[World.setRow,jBl];grind
  have hnewb:=setRow_heap g.w b cur cells.toArray e _ hb;have hsz:(g.w.setRow b cells.toArray).heap.size=g.w.heap.size:=by simp[World.setRow]
  have hx:Ext g.w g.u (g.w.setRow b cells.toArray) g.u:=⟨jBm hsz.symm,fun _ _=>jAm _,fun k i hk hi=>by
   by_cases hkb:k=b
   .subst hkb;have:i < (off+l.length) * size:=by omega
    simp only[World.cell?,hnewb,hb]
    simp_all
   simp only[World.cell?];grind,fun r' hr' =>(hheap r' (by grind)).trans hr'⟩
  refine ⟨⟨g.w.setRow b cells.toArray,g.u,fun k=>if k=r then .row b off cap size (l++xs).length else g.loc k⟩,rfl,?_,?_⟩
  .refine h.row_upd hr hx (fun k hk=>if_neg hk) rfl rfl rfl (fun k hk hne=>⟨hheap k (by rintro rfl;exact hne (by rw[hl1];rfl)),rfl⟩) (Yka h.so.wf (jBm hsz.symm) _) ?_ (fun b' hb' =>.inl (by simp only[if_true]at hb';rw[hl1];exact hb'));refine .row (off:=off) (by simp) hnewb (by simp_all) hcm (by simp_all) (fun x hx' =>?_) (by show g.u b<=_;simp[jBn]at hl2 ⊢;omega) hl3 (fun i j x c hi hj' =>?_)
   .grind
   simp only[jAk,jAh]at hi;obtain ⟨y,hy,rfl⟩:=hi;have hjs:=hj hy hj';rcases hidx i j y c hy hj' with ⟨hlt,hiy⟩ | ⟨hge,hiy⟩
   .have hk:(off+i) * size+j < (off+l.length) * size:=by
     have:(off+i+1) * size<=(off+l.length) * size:=jBc _ (by omega);rw[jBn (off+i)]at this;omega
    have:=(hl5 i j y c hiy hj').mono hx
    simp_all
   obtain ⟨v,hv,hrel⟩:=hn.rel (i - l.length) j y c hiy hj';have hk:(i - l.length) * size+j < news.length:=(jAd.1 hv).1;have e1:(off+i) * size+j=(off+l.length) * size+((i - l.length) * size+j):=by
    rw[<-Nat.add_assoc,<-jBn];congr 2;omega
   rw[e1];exact Wqa ((hmid _ hk).trans hv) (hrel.mono hx)
  have:=Rel.hs (g:=⟨g.w.setRow b cells.toArray,g.u,fun k=>if k=r then .row b off cap size (l++xs).length else g.loc k⟩) (r:=r) (a:=⟨b,off * size,none⟩) (if_pos rfl) (fun _=>rfl)
  simp_all
 | @fresh cap cells hc hle hm ht=>
  generalize hpr:Qua size (l.length * size) old=pre at ht;have hplen:pre.length=l.length * size:=by
   subst hpr;obtain ⟨a0,old⟩:=old;cases old with
   | none=>rw[hobj.2];simp[Qua]
   | some o=>
    obtain ⟨b,off,cap,cur⟩:=o;obtain ⟨hb,hcs,hnc,hcm,ad0,rfl,ha0⟩:=hold;simp only[Qua,jCh,jCu,jBt,hcs];rw[jBn,Nat.add_sub_cancel_left]
    simp_all
  have hprel:∀i j x c,l[i]? =some x->(F x)[j]? =some c->j < size->∃v,pre[i * size+j]? =some v/\RelP g.w g.u c v:=by
   intro i j x c hi hj' hjs;subst hpr;obtain ⟨a0,old⟩:=old;cases old with
   | none=>rw[hobj.2]at hi;grind
   | some o=>
    obtain ⟨b,off,cap,cur⟩:=o;obtain ⟨hb,hcs,hnc,hcm,ad0,rfl,ha0⟩:=hold;have hlt:=(jAd.1 hi).1;have hk:i * size+j < l.length * size:=by
     have:(i+1) * size<=l.length * size:=jBc _ hlt;rw[jBn]at this;omega
    have hk3:l.length * size<=cap * size:=jBc _ hnc;have hk2:(off+i) * size+j < cur.size:=by rw[hcs];rw[jBn]at *;rw[jBn];omega
    have hk4:off * size+(i * size+j)=(off+i) * size+j:=by rw[jBn];omega
    refine ⟨cur[(off+i) * size+j],?_,?_⟩
    .simp only[Qua];simp_all
    have:=hobj.2.2.2.2 i j x c hi hj';simpa[Array.getD,hk2]using this
  have hgetc:∀k,k < (l.length+xs.length) * size->cells.toList[k]? =(pre++news)[k]? :=by
   intro k hk;rw[<-ht,jBd hk]
  have hx:Ext g.w g.u (g.w.drew.alloc (.cells cells e)) g.u:=⟨by simp,fun _ _=>jAm _,fun k i hk _=>by
   simp only[World.cell?];rw[show (g.w.drew.alloc (.cells cells e)).heap[k]? =g.w.heap[k]? from Below.heap_alloc g.w.drew _ _ hk],fun r' hr' =>(Below.heap_alloc g.w.drew _ _ (zVa hr')).trans hr'⟩
  have hnewb:(g.w.drew.alloc (.cells cells e)).heap[g.w.heap.size]? =some (.cells cells e (0,0)):=heap_alloc_new g.w.drew _;have hu0:g.u g.w.heap.size=0:=h.so.wf _ (jAm _);refine ⟨⟨g.w.drew.alloc (.cells cells e),g.u,fun k=>if k=r then .row g.w.heap.size 0 cap size (l++xs).length else g.loc k⟩,rfl,?_,?_⟩
  .refine h.row_upd hr hx (fun k hk=>if_neg hk) rfl rfl rfl (fun k hk _=>⟨Below.heap_alloc g.w.drew _ _ hk,rfl⟩) (Yka h.so.wf hx.size _) ?_ (fun b' hb' =>.inr (by simp only[if_true]at hb';cases hb';omega));refine .row (off:=0) (by simp) hnewb (by simp_all) hm (by simp_all) (fun x hx' =>?_) (by simp_all) (fun _=>hu0) (fun i j x c hi hj' =>?_)
   .grind
   simp only[jAk,jAh]at hi;obtain ⟨y,hy,rfl⟩:=hi;have hjs:=hj hy hj';have hil:i < l.length+xs.length:=by have:=(jAd.1 hy).1;simpa using this
   have hk:i * size+j < (l.length+xs.length) * size:=by
    have:(i+1) * size<=(l.length+xs.length) * size:=jBc _ hil;rw[jBn]at this;omega
   have hck:=hgetc _ hk;have:∃v,(pre++news)[i * size+j]? =some v/\RelP g.w g.u c v:=by
    rcases hidx i j y c hy hj' with ⟨hlt,hiy⟩ | ⟨hge,hiy⟩
    .grind
    obtain ⟨v,hv,hrel⟩:=hn.rel (i - l.length) j y c hiy hj';refine ⟨v,?_,hrel⟩;have e1:i * size+j=l.length * size+((i - l.length) * size+j):=by
     rw[<-Nat.add_assoc,<-jBn];congr 2;omega
    grind
   obtain ⟨v,hv,hrel⟩:=this;rw[hv]at hck;have h5:=Wqa hck (hrel.mono hx)
   simp_all
  have:=Rel.hs (g:=⟨g.w.drew.alloc (.cells cells e),g.u,fun k=>if k=r then .row g.w.heap.size 0 cap size (l++xs).length else g.loc k⟩) (r:=r) (a:=⟨g.w.heap.size,0,none⟩) (if_pos rfl) (fun _=>by simp)
  simp_all
end
end
section
open Go.RowKit Go.Lib
variable {E:Env} {fr:Fr} {σ:Sto} {K:Post} {P:Program} {ρ:Operand->AV}
variable {dst:Option Tmp} {ty:TypeId} {pos:String} {af:Array Edge} {gu:Option (Nat × Bool)}
theorem qZb{α:Type}{w:World}{u:Nat->Nat}{nl:Option Bool}{F:α->List PV}{xs:List α}{v:Value}{size:Nat}(hF:∀x,(F x).length=size)(h:RelP w u (.sl nl (xs.map F)) v):
 (v=.slice none 0 0/\xs=[])∨∃a c news,v=.slice (some a) xs.length c/\News w u size F xs news/\∀j u',news[j]? =some u' ->w.cell? (a.add j)=some u' :=by
 generalize hes:xs.map F=es at h;cases h with
 | @sl _ _ a cap size' b off val hn h0 hc hz ha hu hcell h=>
  subst hes;by_cases hx:xs=[]
  .subst hx;cases a with
   | none=>simp_all
   | some a=>exact .inr ⟨a,cap,[],rfl,⟨by simp,by simp,fun i j x c hi=>by grind⟩,fun j u' hj=>by grind⟩
  have hne:xs.map F≠ []:=by simpa using hx
  have hs:size' =size:=by
   cases xs with
   | nil=>simp_all
   | cons x xs=>simp_all
  subst hs;have ea:=ha hne;subst ea;simp only[jAx]at hcell hu hc;refine .inr ⟨⟨b,off,none⟩,cap,(List.range (xs.length * size')).map val,by simp,⟨by simp,fun x _=>hF x,fun i j x c hi hj=>?_⟩,fun j u' hj=>?_⟩
  .have hlt:=(jAd.1 hi).1;have hjs:j < size' :=by have:=(jAd.1 hj).1;rwa [hF]at this
   have hk:i * size' +j < xs.length * size' :=by
    have:(i+1) * size' <=xs.length * size' :=jBc _ hlt;rw[jBn]at this;omega
   simp_all
  have hk:=(jAd.1 hj).1;simp at hk;rw[qwa,hcell j hk]
  simp_all
section
variable {α:Type} {F:α->List PV} {l xs r' :List α} {r size bytes sb ss k lim:Nat} {e t tx:TypeId} {mu:Bool} {zero sz:Value} {d:TypeDesc} {x y:Operand} {nl:Option Bool}
theorem vXa{ρv:Operand->Value}{w w' :World}{v' :Value}(h:(Builtin.append_ #[t,tx] ty #[ρv x,ρv y]).run P w=.ok v' w'):
 (execOp ρv ⟨dst,.call ⟨.builtin .append, #[x,y], #[t,tx]⟩,ty,pos,af,gu⟩).run P w=.ok (.value v') w' :=by
 show Sem.run P (do let d <-resolve ρv ⟨.builtin .append, #[x,y], #[t,tx]⟩ ty;invoke d.target d.args) w=_;simp only[resolve,jAr,jAv,jAo,invoke,builtin];simp[h]
theorem Yla(hN:Nat.ble (k+1) E.N=true)(hx:fr.ev x=.hs r 0)(hr:σ.get r=some (.row e mu size (l.map F)))(hy:fr.ev y=.pv (.sl nl (xs.map F)))(ht:TyOk E.P t ss sb sz (.slice e))(he:TyOk E.P e size bytes zero d)
 (hzz:Nat.beq zero.cells.size size=true) (hs:Nat.ble 1 size=true) (hF:∀x,(F x).length=size) (hlim:(Nat.ble (lim * bytes) 140737488355328 && Nat.ble lim 9223372036854775807)=true) (h:app lim l xs=some r'):
 OpTo E ⟨some k,.call ⟨.builtin .append, #[x,y], #[t,t]⟩,ty,pos,af,gu⟩ fr σ ((k,.hs r 0)::fr.clr r) ((σ.clr r).upd r (.row e mu size (r'.map F))):=
 ⟨fun g a K Q hst hK=>by
  obtain ⟨hle,rfl⟩:=zub h;simp only[jAn]at hlim;have hl1:=jAf hlim.1;have hl2:=jAf hlim.2;have hzz:=jAl hzz;have hs:=jAf hs;refine ⟨fun _ _=>trivial,?_⟩;rw[jAz _ _ _ (fun c=>by simp)];have h1:=hst.ev x;rw[hx]at h1;obtain ⟨old,ho1,ev,ho3⟩:=(hst.so.obj r _ hr).old h1;have h2:=hst.ev y;rw[hy]at h2;have hlb:(l.length+xs.length) * bytes<=140737488355328:=jAt (jBc _ hle) hl1;cases h2 with
  | pv h2=>
   rcases qZb hF h2 with ⟨e2,rfl⟩ | ⟨a0,c,news,e2,hnews,hcells⟩
   .obtain ⟨v',w',hrun,hres⟩:=Wpa (ty:=ty) ht he ho1;rw[vXa (x:=x) (y:=y) (w:=g.w) (by rw[ev,e2];omega),jBf];obtain ⟨g',rfl,hst',hv⟩:=hst.appended (xs:=[]) hr ho1 ho3 (news:=[]) ⟨by simp,by simp,fun i j x c hi=>by grind⟩ hres;exact hK g' _ (hst'.put (jAf hN) hv)
   obtain ⟨v',w',hrun,hres⟩:=Vca (ty:=ty) (c:=c) ht he hzz (by omega) ho1 hnews.len hcells hnews.one hlb (by unfold maxLen;omega);rw[vXa (x:=x) (y:=y) (w:=g.w) (by rw[ev,e2];omega),jBf];obtain ⟨g',rfl,hst',hv⟩:=hst.appended hr ho1 ho3 hnews hres;exact hK g' _ (hst'.put (jAf hN) hv)⟩
theorem news_str(s:Str)(w:World)(u:Nat->Nat):News w u 1 cU s (strCells (strB s)) where
 len:=by rw[strCells_length,zta,jCz]
 z:=fun _ _=>rfl
 rel i j x c hi hj:=by
  have:j=0:=by have:=(jAd.1 hj).1;simp[cU]at this;exact this
  subst this;simp[cU]at hj;subst hj;exact ⟨.int .u8 x.toNat,by simp[strCells,strB,hi],.b rfl⟩
theorem wJa{l r' :List UInt8}{s:Str}(hN:Nat.ble (k+1) E.N=true)(hx:fr.ev x=.hs r 0)(hr:σ.get r=some (.row e mu 1 (l.map cU)))(hy:fr.ev y=.s s)(ht:TyOk E.P t ss sb sz (.slice e))(htx:E.P.underlying tx=some .string)
 (he:TyOk E.P e 1 1 (.int .u8 0) d) (hlim:Nat.ble lim 140737488355328=true) (h:app lim l s=some r'):
 OpTo E ⟨some k,.call ⟨.builtin .append, #[x,y], #[t,tx]⟩,ty,pos,af,gu⟩ fr σ ((k,.hs r 0)::fr.clr r) ((σ.clr r).upd r (.row e mu 1 (r'.map cU))):=
 ⟨fun g a K Q hst hK=>by
  obtain ⟨hle,rfl⟩:=zub h;have hl1:=jAf hlim;refine ⟨fun _ _=>trivial,?_⟩;rw[jAz _ _ _ (fun c=>by simp)];have h1:=hst.ev x;rw[hx]at h1;obtain ⟨old,ho1,ev,ho3⟩:=(hst.so.obj r _ hr).old h1;have h2:=hst.ev y;rw[hy]at h2;have e2:=zKa h2;obtain ⟨v',w',hrun,hres⟩:=qYb (ty:=ty) ht htx he ho1 (strB s) (by rw[zta];omega);rw[vXa (x:=x) (y:=y) (w:=g.w) (by rw[ev,e2];omega),jBf];obtain ⟨g',rfl,hst',hv⟩:=hst.appended (F:=cU) (xs:=s) hr ho1 ho3 (news_str s _ _) (by rw[zta]at hres;omega);exact hK g' _ (hst'.put (jAf hN) hv)⟩
theorem St.adopt{g:G}{a:Act}(h:St E g a fr σ)(r:Nat)(e:TypeId)(mu:Bool)(size:Nat)(hf:fr.has r=false)(hs:σ.has r=false):
 St E ⟨g.w,g.u,fun k=>if k=r then .nilRow else g.loc k⟩ a fr ((r,.row e mu size [])::σ):=by
 have hloc:∀k,k≠r->(⟨g.w,g.u,fun k=>if k=r then Loc.nilRow else g.loc k⟩:G).loc k=g.loc k:=fun k hk=>if_neg hk
 have hget:∀o ob,Sto.get ((r,.row e mu size [])::σ) o=some ob->(o=r/\ob=.row e mu size [])∨(o≠r/\σ.get o=some ob):=by
  intro o ob hg;rw[Sto.get_cons]at hg;split at hg
  .simp_all
  grind
 refine ⟨fun d' =>Rel.mono (g:=g) (g' :=⟨g.w,g.u,fun k=>if k=r then Loc.nilRow else g.loc k⟩) (Ext.refl _ _) (h.fr d') fun k hk=>hloc k ?_,h.n,h.df,⟨?_,?_,?_,⟨h.so.old.os,h.so.old.tape,h.so.old.output,h.so.old.ext,h.so.old.block⟩,h.so.wf⟩⟩
 .rintro rfl;rw[Fr.has_get hk]at hf;cases hf
 .intro o ob hg;rcases hget o ob hg with ⟨rfl,rfl⟩ | ⟨hne,hg1⟩
  .exact .nil (if_pos rfl)
  refine RelO.mono (g:=g) (g' :=⟨g.w,g.u,fun k=>if k=r then Loc.nilRow else g.loc k⟩) (h.so.obj o ob hg1) (Ext.refl _ _) (hloc o hne) (fun k hk=>hloc k ?_) fun b hb=>⟨rfl,rfl⟩
  rintro rfl;rw[Sto.has_get hg1 hk]at hs;cases hs
 .intro o o' ob ob' b h1 h2 h3 h4;rcases hget o ob h1 with ⟨rfl,rfl⟩ | ⟨hne,hg⟩
  .simp[AO.own,Loc.block]at h3
  rcases hget o' ob' h2 with ⟨rfl,rfl⟩ | ⟨hne',hg'⟩
  .simp[AO.own,Loc.block]at h4
  simp only[hne,hne',if_false]at h3 h4;exact h.so.apart o o' ob ob' b hg hg' h3 h4
 intro o ob b h1 h2;rcases hget o ob h1 with ⟨rfl,rfl⟩ | ⟨hne,hg⟩
 .simp[AO.own,Loc.block]at h2
 simp only[hne,if_false]at h2;exact h.so.mine o ob b hg h2
theorem zwb{g:G}{v:Value}(h:Rel g (.pv (.sl (some true) [])) v):v=.slice none 0 0:=by
 cases h with
 | pv h=>
  generalize hes:([]:List (List PV))=es at h;cases h with
  | @sl _ _ a cap size b off val hn h0=>
   simp_all
theorem St.reslot{g:G}{a:Act}{d:Nat}{c:AV}(h:St E g a fr σ)(hr:Rel g c (a.tmps.getD d undef)):St E g a ((d,c)::fr) σ where
 fr e:=by
  rw[Fr.get_cons];split
  .simp_all
  exact h.fr e
 n:=h.n
 df:=h.df
 so:=h.so
theorem zUa{ops:Array Oper}{l:List Oper}{d:Nat}(r:Nat)(e:TypeId)(size:Nat)(hd:fr.get d=.pv (.sl (some true) []))(hf:fr.has r=false)(hs:σ.has r=false)
 (h:AWPL E ops l ((d,.hs r 0)::fr) ((r,.row e false size [])::σ) K):AWPL E ops l fr σ K:=
 ⟨fun g a hst=>by
  have h1:=hst.fr d;rw[hd]at h1;have hst' :=(hst.adopt r e false size hf hs).reslot (d:=d) (c:=.hs r 0) (by rw[zwb h1];exact .hsNil _ (if_pos rfl));exact h.go ⟨g.w,g.u,fun k=>if k=r then .nilRow else g.loc k⟩ a hst'⟩
theorem St.recell{g:G}{a:Act}{o j:Nat}{cs:List AV}{c c0:AV}(h:St E g a fr σ)(ho:σ.get o=some (.cells cs))(hj:cs[j]? =some c0)(hr:∀v,Rel g c0 v->Rel g c v):St E g a fr (σ.upd o (.cells (cs.set j c))) where
 fr:=h.fr
 n:=h.n
 df:=h.df
 so:=by
  have hget:=Sto.get_upd (ob:=.cells (cs.set j c)) ho;have hsome:∀k ob,(σ.upd o (.cells (cs.set j c))).get k=some ob->∃ob',σ.get k=some ob' /\∀l,ob'.own l=ob.own l:=by
   intro k ob hk;rw[hget]at hk;split at hk
   .rename_i hko;cases hk;exact ⟨.cells cs,hko▸ho,fun _=>rfl⟩
   simp_all
  refine ⟨?_,fun k k' ob ob' b h1 h2=>?_,fun k ob b h1=>?_,h.so.old,h.so.wf⟩
  .intro k ob hk;rw[hget]at hk;split at hk
   .rename_i hko;subst hko;cases hk;cases h.so.obj k _ ho with
    | cells h1 h2 h3 h4 h5 h6=>
     refine .cells h1 h2 (by simp_all) h4 h5 fun i c' hi=>?_
     grind
   exact h.so.obj k ob hk
  .obtain ⟨_,e1,q1⟩:=hsome k _ h1;obtain ⟨_,e2,q2⟩:=hsome k' _ h2;rw[<-q1,<-q2];exact h.so.apart k k' _ _ b e1 e2
  obtain ⟨_,e1,q1⟩:=hsome k _ h1;rw[<-q1];exact h.so.mine k _ b e1
theorem zza{ops:Array Oper}{l:List Oper}{o j:Nat}{cs:List AV}(r:Nat)(e:TypeId)(size:Nat)(ho:σ.get o=some (.cells cs))(hj:cs[j]? =some (.pv (.sl (some true) [])))(hf:fr.has r=false)(hs:σ.has r=false)
 (h:AWPL E ops l fr ((r,.row e false size [])::σ.upd o (.cells (cs.set j (.hs r 0)))) K) (hor:Nat.beq r o=false:=by rfl):AWPL E ops l fr σ K:=
 ⟨fun g a hst=>by
  have hst' :=hst.adopt r e false size hf hs;have hne:r≠o:=by rintro rfl;simp at hor
  have hst2:=hst'.recell (o:=o) (j:=j) (cs:=cs) (c:=.hs r 0) (c0:=.pv (.sl (some true) [])) (by rw[Sto.get_cons,if_neg hne];exact ho) hj (fun v hv=>by rw[zwb hv];exact .hsNil _ (if_pos rfl));have e1:Sto.upd ((r,.row e false size [])::σ) o (.cells (cs.set j (.hs r 0)))=(r,.row e false size [])::σ.upd o (.cells (cs.set j (.hs r 0))):=by
   show (bif Nat.beq r o then _ else _)=_;rw[hor];rfl
  rw[e1]at hst2;exact h.go ⟨g.w,g.u,fun k=>if k=r then .nilRow else g.loc k⟩ a hst2⟩
theorem qYa{ops:Array Oper}{l:List Oper}{d:Nat}(r:Nat)(e:TypeId)(size:Nat)(hd:fr.get d=.pv (.sl (some true) []))(hf:fr.has r=false)(hs:σ.has r=false)
 (h:AWPL E ops l ((d,.hs r 0)::fr) ((r,.row e true size [])::σ) K):AWPL E ops l fr σ K:=
 ⟨fun g a hst=>by
  have h1:=hst.fr d;rw[hd]at h1;have hst' :=(hst.adopt r e true size hf hs).reslot (d:=d) (c:=.hs r 0) (by rw[zwb h1];exact .hsNil _ (if_pos rfl));exact h.go ⟨g.w,g.u,fun k=>if k=r then .nilRow else g.loc k⟩ a hst'⟩
theorem Wra{ops:Array Oper}{l:List Oper}{o j:Nat}{cs:List AV}(r:Nat)(e:TypeId)(size:Nat)(ho:σ.get o=some (.cells cs))(hj:cs[j]? =some (.pv (.sl (some true) [])))(hf:fr.has r=false)(hs:σ.has r=false)
 (h:AWPL E ops l fr ((r,.row e true size [])::σ.upd o (.cells (cs.set j (.hs r 0)))) K) (hor:Nat.beq r o=false:=by rfl):AWPL E ops l fr σ K:=
 ⟨fun g a hst=>by
  have hst' :=hst.adopt r e true size hf hs;have hne:r≠o:=by rintro rfl;simp at hor
  have hst2:=hst'.recell (o:=o) (j:=j) (cs:=cs) (c:=.hs r 0) (c0:=.pv (.sl (some true) [])) (by rw[Sto.get_cons,if_neg hne];exact ho) hj (fun v hv=>by rw[zwb hv];exact .hsNil _ (if_pos rfl));have e1:Sto.upd ((r,.row e true size [])::σ) o (.cells (cs.set j (.hs r 0)))=(r,.row e true size [])::σ.upd o (.cells (cs.set j (.hs r 0))):=by
   show (bif Nat.beq r o then _ else _)=_;rw[hor];rfl
  rw[e1]at hst2;exact h.go ⟨g.w,g.u,fun k=>if k=r then .nilRow else g.loc k⟩ a hst2⟩
theorem St.pub{g:G}{a:Act}(h:St E g a fr σ)(hr:σ.get r=some (.row e false size (l.map F))):
 ∃g',g'.w=g.w/\g'.loc=g.loc/\St E g' a fr σ/\∀v,Rel g' (.hs r 0) v->Rel g' (.l F l) v:=by
 have hob:=h.so.obj r _ hr;generalize hls:l.map F=ls at hob;cases hob with
 | nil hl1=>
  obtain rfl:l=[]:=by simp_all
  refine ⟨g,rfl,rfl,h,fun v hv=>?_⟩;cases hv with
  | hsNil a=>exact .pv (.sl (elems:=[]) 1 0 0 (fun _=>undef) (fun x hx=>by cases hx) (fun _=>⟨rfl,rfl⟩) (by simp) (by simp) (by simp) (by simp) (fun i hi=>by grind) (fun i j e c hi=>by grind))
  | hs h1=>simp_all
 | @row _ _ _ _ b off cap cur hl1 hb hcs hcm hnc hl4 hl2 hl3 hl5=>
  subst hls;simp only[jAx]at hl1 hnc hl2;have hbl:=zVa hb;have hx:Ext g.w g.u g.w (fun k=>if k=b then (off+l.length) * size else g.u k):=⟨jAm _,fun k _=>by grind,fun _ _ _ _=>rfl,fun _ h=>h⟩;have hsub:∀o ob b',σ.get o=some ob->ob.own (g.loc o) b' ->o≠r->b' ≠b:=by
   rintro o ob b' ho hb' hne rfl;exact hne (h.so.apart o r ob _ b' ho hr hb' (by rw[hl1];rfl))
  refine ⟨⟨g.w,fun k=>if k=b then (off+l.length) * size else g.u k,g.loc⟩,rfl,rfl,⟨fun d' =>(h.fr d').mono hx (fun _ _=>rfl),h.n,h.df,⟨?_,h.so.apart,h.so.mine,?_,?_⟩⟩,?_⟩
  .intro o ob ho;by_cases hor:o=r
   .subst hor;rw[hr]at ho;cases ho;exact .row (off:=off) (by simp_all) hb hcs hcm (by simp_all) hl4 (by simp) (fun hc=>by cases hc) (fun i j x' c hi hj=>(hl5 i j x' c hi hj).mono hx)
   exact (h.so.obj o ob ho).mono hx rfl (fun _ _=>rfl) fun b' hb' =>⟨rfl,if_neg (hsub o ob b' ho hb' hor)⟩
  .refine h.so.old.trans ⟨rfl,rfl,rfl,hx,fun k hk hs=>⟨rfl,if_neg ?_⟩⟩;rintro rfl;rcases h.so.mine r _ k hr (by rw[hl1];rfl) with h1 | h1
   all_goals simp_all
  .intro k hk;show (if k=b then (off+l.length) * size else g.u k)=0;rw[if_neg (by grind)];exact h.so.wf k hk
  intro v hv;cases hv with
  | hsNil a hl=>simp_all
  | @hs _ b' off' cap' size' n' a' hl ha=>
   rw[show g.loc r=_ from hl]at hl1;cases hl1;refine .pv ?_;have:=RelP.sl (w:=g.w) (u:=fun k=>if k=b then (off+l.length) * size else g.u k) (nl:=none) (elems:=l.map F) (a:=some a') (cap:=cap) size b (off * size) (fun i=>cur.getD (off * size+i) undef)
    (fun x hx=>by cases hx) (fun hx=>by cases hx) (by simp_all) hl4 (fun hne=>by
     have:0 < l.length:=by rcases l with _ | ⟨y,l⟩ <;> simp_all
     grind) (fun _=>⟨by grind,hbl⟩)
    (fun i hi=>by
     refine kda hb ?_;rw[hcs,jBn];have:=jBc size hnc
     grind)
    (fun i j x' c hi hj=>by
     have:=(hl5 i j x' c hi hj).mono hx
     grind)
   simp_all
theorem kTa{c:Code}{d:Nat}(hd:fr.get d=.hs r 0)(hr:σ.get r=some (.row e false size (l.map F)))(h:AWP E c ((d,.l F l)::fr) σ K):AWP E c fr σ K:=
 ⟨fun g a hst=>by
  obtain ⟨g',hw,hl,hst',hv⟩:=hst.pub hr;have h1:=hst'.fr d;rw[hd]at h1;have:=h.go g' a (hst'.reslot (d:=d) (hv _ h1))
  simp_all⟩
theorem jia{ops:Array Oper}{ol:List Oper}{d:Nat}(hd:fr.get d=.hs r 0)(hr:σ.get r=some (.row e false size (l.map F)))(h:AWPL E ops ol ((d,.l F l)::fr) σ K):AWPL E ops ol fr σ K:=
 ⟨fun g a hst=>by
  obtain ⟨g',hw,hl,hst',hv⟩:=hst.pub hr;have h1:=hst'.fr d;rw[hd]at h1;have:=h.go g' a (hst'.reslot (d:=d) (hv _ h1))
  simp_all⟩
theorem Zta{c:Code}{o j:Nat}{cs:List AV}(ho:σ.get o=some (.cells cs))(hj:cs[j]? =some (.hs r 0))(hr:σ.get r=some (.row e false size (l.map F)))(h:AWP E c fr (σ.upd o (.cells (cs.set j (.l F l)))) K):AWP E c fr σ K:=
 ⟨fun g a hst=>by
  obtain ⟨g',hw,hl,hst',hv⟩:=hst.pub hr;have:=h.go g' a (hst'.recell ho hj hv)
  simp_all⟩
theorem y0b(hx:ρ x=.hs r 0)(hr:σ.get r=some (.row e mu size (l.map F)))(ht:P.underlying t=some (.slice tx)):EvQ P ⟨dst,.call ⟨.builtin .len, #[x], #[t]⟩,ty,pos,af,gu⟩ ρ σ (.i l.length):=
 ⟨fun c=>by simp,fun g ρv h hs=>by
  have h1:=h x (by simp[Op.operands,Call.operands]);rw[hx]at h1;obtain ⟨old,ho1,e1,ho3⟩:=(hs r _ hr).old h1;refine ⟨.int .i64 l.length,?_,.pv (.b rfl)⟩;obtain ⟨a0,old⟩:=old;cases old with
  | none=>
   obtain ⟨_,rfl⟩:=ho3;simp[execOp,resolve,invoke,builtin,Builtin.len_,e1,oldV,go_sem,underlying,ht,goInt]
  | some o=>simp[execOp,resolve,invoke,builtin,Builtin.len_,e1,oldV,go_sem,underlying,ht,goInt]⟩
end
end
section
open Go.RowKit Go.Lib
variable {E:Env} {fr:Fr} {σ:Sto} {K:Post} {P:Program} {ρ:Operand->AV}
variable {dst:Option Tmp} {ty:TypeId} {pos:String} {af:Array Edge} {gu:Option (Nat × Bool)}
section
variable {α:Type} {F:α->List PV} {l xs r' :List α} {r size bytes sb ss k lim:Nat} {e t tx:TypeId} {mu:Bool} {zero sz:Value} {d:TypeDesc} {x y z:Operand} {nl:Option Bool}
theorem yFa{w:World}{len cap:Nat}{lo hi:Option Value}{a b:Int}(hc:len<=cap)(hlo:lo=none/\a=0∨∃k,lo=some (.int k a))(hhi:hi=none/\b=len∨∃k,hi=some (.int k b))(h0:0<=a)(h1:a<=b)(h2:b<=len):
 (Instr.sliceBounds true len cap lo hi none).run P w=.ok (a.toNat,b.toNat,cap) w:=by
 have a1:0<=b/\b<=(cap:Int):=⟨by omega,by omega⟩;rcases hlo with ⟨rfl,rfl⟩ | ⟨k1,rfl⟩ <;> rcases hhi with ⟨rfl,rfl⟩ | ⟨k2,rfl⟩
 .simp[Instr.sliceBounds]
 .simp[Instr.sliceBounds,Instr.sliceBound,asIntOf,a1]
 .have a2:0<=a/\a<=(len:Int):=⟨by omega,by omega⟩;simp[Instr.sliceBounds,Instr.sliceBound,asIntOf,a2]
 have a2:0<=a/\a<=b:=⟨by omega,by omega⟩;have a3:max b 0=b:=by omega
 simp[Instr.sliceBounds,Instr.sliceBound,asIntOf,a1,a2,a3]
theorem QNa{w:World}{u:Nat->Nat}{nl:Option Bool}{es:List (List PV)}{v:Value}(h:RelP w u (.sl nl es) v):
 ∃(a:Option Addr) (cap size b off:Nat) (val:Nat->Value),v=.slice a es.length cap/\(a=none->cap=0/\es=[])/\es.length<=cap/\(∀x∈es,x.length=size)/\(es≠ []->a=some ⟨b,off,none⟩)/\(es≠ []->off+es.length * size<=u b/\b < w.heap.size)/\
  (∀i,i < es.length * size->w.cell? ⟨b,off+i,none⟩=some (val i))/\∀i j e c,es[i]? =some e->e[j]? =some c->RelP w u c (val (i * size+j)):=by
 cases h with
 | @sl _ _ a cap size b off val hn h0 hc hz ha hu hcell h=>exact ⟨a,cap,size,b,off,val,rfl,h0,hc,hz,ha,hu,hcell,h⟩
theorem relP_cut{w:World}{u:Nat->Nat}{a:Option Addr}{cap:Nat}{i j:Nat}(hF:∀x,(F x).length=size)(h:RelP w u (.sl nl (l.map F)) (.slice a l.length cap))(hij:i<=j)(hj:j<=l.length):
 RelP w u (.sl none (((l.drop i).take (j - i)).map F)) (.slice (if cap=i then a else a.map (·.add (i * size))) (j - i) (cap - i)):=by
 obtain ⟨a',cap',size',b,off,val,hv,h0,hc,hz,ha,hu,hcell,hrel⟩:=QNa h;rw[jAx]at hv;cases hv
 skip
 simp only[jAx]at hc;have hlen:((l.drop i).take (j - i)).length=j - i:=by simp;omega
 have hb:(((l.drop i).take (j - i)).map F).length=j - i:=by rw[jAx,hlen]
 by_cases hlt:i < j
 .have hne:l.map F≠ []:=by
   intro hx;have:l=[]:=by simpa using hx
   subst this;simp at hj;omega
  have hs:size' =size:=by
   cases l with
   | nil=>grind
   | cons x l=>simp_all
  subst hs;have ea:=ha hne;subst ea;obtain ⟨hu1,hu2⟩:=hu hne;simp only[jAx]at hu1 hcell;have hci:cap≠i:=by omega
  rw[if_neg hci];simp only[jCw,qwa];have hmul:∀q,q < (j - i) * size' ->i * size' +q < l.length * size' :=by
   intro q hq;have:i * size' +(j - i) * size' <=l.length * size' :=by rw[<-jBn];exact jBc _ (by omega)
   omega
  have:=RelP.sl (w:=w) (u:=u) (nl:=none) (elems:=((l.drop i).take (j - i)).map F) (a:=some ⟨b,off+i * size',none⟩) (cap:=cap - i) size' b (off+i * size') (fun q=>val (i * size' +q))
   (fun x hx=>by cases hx) (fun hx=>by cases hx) (by omega) (fun x' hx' =>by grind) (fun _=>rfl)
   (fun _=>⟨by
    rw[hb];have:i * size' +(j - i) * size' <=l.length * size' :=by rw[<-jBn];exact jBc _ (by omega)
    omega,hu2⟩)
   (fun q hq=>by
    grind)
   (fun p q e' c hp hq=>by
    simp only[jAk,jAh]at hp;obtain ⟨y',hy',rfl⟩:=hp;have hpl:p < j - i:=by have:=(jAd.1 hy').1;omega
    rw[jBd hpl,jBu]at hy';have:=hrel (i+p) q (F y') c (by grind) hq
    grind)
  simp_all
 obtain rfl:i=j:=by omega
 simp only[Nat.sub_self,List.take_zero,List.map_nil];have key:∀a'' :Option Addr,(a'' =none->a=none)->RelP w u (.sl none []) (.slice a'' 0 (cap - i)):=by
  intro a'' hn'';exact .sl (elems:=[]) 1 0 0 (fun _=>undef) (fun x hx=>by cases hx) (fun hx=>⟨by simp_all,rfl⟩) (by simp) (by simp) (by simp) (by simp) (fun i hi=>by grind) (fun i j e c hi=>by grind)
 split;all_goals simp_all
theorem q0b{lo hi:Option Operand}{p q:Int}{v:List α}(hx:ρ x=.pv (.sl nl (l.map F)))(hlo:lo=none/\p=0∨∃o k,lo=some o/\ρ o=.pv (.b (.int k p)))(hhi:hi=none/\q=l.length∨∃o k,hi=some o/\ρ o=.pv (.b (.int k q)))
 (ht:TyOk P t ss sb sz (.slice e)) (he:TyOk P e size bytes zero d) (hF:∀x,(F x).length=size) (hr:cut l p q=some v):EvQ P ⟨dst,.slice t x lo hi none,ty,pos,af,gu⟩ ρ σ (.l F v):=
 ⟨fun c=>by simp,fun g ρv hh _=>by
  have h1:=hh x (by simp[Op.operands]);rw[hx]at h1;obtain ⟨h0,h01,h02,rfl⟩:=WZa hr;cases h1 with
  | pv h1=>
   have hval:∃a cap,ρv x=.slice a l.length cap/\l.length<=cap:=by
    obtain ⟨a',cap',size',b,off,val,hv,_,hc,_⟩:=QNa h1;exact ⟨a',cap',by simp_all,by simp_all⟩
   obtain ⟨a,cap,ev,hcap⟩:=hval;rw[ev]at h1;have hrel:=relP_cut (i:=p.toNat) (j:=q.toNat) hF h1 (by omega) (by omega);have e1:q.toNat - p.toNat=(q - p).toNat:=by omega
   rw[e1]at hrel;refine ⟨_,?_,.pv hrel⟩;show Sem.run P (do let v <-Instr.sliceAt t (ρv x) (lo.map ρv) (hi.map ρv) none;pure (Next.value v)) g.w=_;have hb:=yFa (P:=P) (w:=g.w) (len:=l.length) (cap:=cap) (lo:=lo.map ρv) (hi:=hi.map ρv) (a:=p) (b:=q) hcap
    (by
     rcases hlo with ⟨rfl,rfl⟩ | ⟨o,k,rfl,ho⟩
     .simp_all
     have h2:=hh o (by simp[Op.operands]);rw[ho]at h2;exact .inr ⟨k,by simp[zKa h2]⟩)
    (by
     rcases hhi with ⟨rfl,rfl⟩ | ⟨o,k,rfl,ho⟩
     .simp_all
     have h2:=hh o (by simp[Op.operands]);rw[ho]at h2;exact .inr ⟨k,by simp[zKa h2]⟩) h0 h01 h02
   rw[ev];simp only[Instr.sliceAt,underlying,program,jAr,Sem.run,ht.u,jAo,jAv,Instr.slice,hb,he.sizeOf,e1]⟩
section
variable {p q:Int} {v:List α} {k1 k2:IntKind}
theorem y1b(hx:ρ x=.pv (.sl nl (l.map F)))(hy:ρ y=.pv (.b (.int k1 p)))(ht:TyOk P t ss sb sz (.slice e))(he:TyOk P e size bytes zero d)(hF:∀x,(F x).length=size)(hr:cut l p l.length=some v):EvQ P ⟨dst,.slice t x (some y) none none,ty,pos,af,gu⟩ ρ σ (.l F v):=q0b hx (.inr ⟨y,k1,rfl,hy⟩) (.inl ⟨rfl,rfl⟩) ht he hF hr
theorem ev_cutH(hx:ρ x=.pv (.sl nl (l.map F)))(hz:ρ z=.pv (.b (.int k1 q)))(ht:TyOk P t ss sb sz (.slice e))(he:TyOk P e size bytes zero d)(hF:∀x,(F x).length=size)(hr:cut l 0 q=some v):EvQ P ⟨dst,.slice t x none (some z) none,ty,pos,af,gu⟩ ρ σ (.l F v):=q0b hx (.inl ⟨rfl,rfl⟩) (.inr ⟨z,k1,rfl,hz⟩) ht he hF hr
theorem v4b(hx:ρ x=.pv (.sl nl (l.map F)))(hy:ρ y=.pv (.b (.int k1 p)))(hz:ρ z=.pv (.b (.int k2 q)))(ht:TyOk P t ss sb sz (.slice e))(he:TyOk P e size bytes zero d)(hF:∀x,(F x).length=size)(hr:cut l p q=some v):EvQ P ⟨dst,.slice t x (some y) (some z) none,ty,pos,af,gu⟩ ρ σ (.l F v):=q0b hx (.inr ⟨y,k1,rfl,hy⟩) (.inr ⟨z,k2,rfl,hz⟩) ht he hF hr
end
theorem VSa{s:Str}(hx:ρ x=.pv (.sl nl (s.map cU)))(ht:TyOk P t ss sb sz (.slice e))(he:TyOk P e size bytes zero (.int .u8)){ss' sb' :Nat}{sz' :Value}(htx:TyOk P tx ss' sb' sz' .string):
 EvQ P ⟨dst,.convert t tx x,ty,pos,af,gu⟩ ρ σ (.s s):=
 ⟨fun c=>by simp,fun g ρv hh _=>by
  have h1:=hh x (by simp[Op.operands]);rw[hx]at h1;refine ⟨.string (strB s),?_,.pv (.b rfl)⟩;show Sem.run P (do let v <-convert t tx (ρv x);pure (Next.value v)) g.w=_
  suffices hs:Sem.run P (convert t tx (ρv x)) g.w=.ok (.string (strB s)) g.w by simp_all
  cases h1 with
  | pv h1=>
   rcases qZb (F:=cU) (size:=1) (fun _=>rfl) h1 with ⟨ev,rfl⟩ | ⟨a0,c,news,ev,hnews,hcells⟩
   .rw[ev];exact run_convert_bytes_nil g.w t e ht.u he.u 0 0 tx htx.u
   rw[ev,run_convert_bytes_string g.w t tx e _ _ _ ht.u he.u htx.u];have hn2:news=s.map fun c=>Value.int .u8 (c.toNat:Int):=by
    apply List.ext_getElem?;intro i;by_cases hi:i < s.length
    .obtain ⟨v,h3,h4⟩:=hnews.rel i 0 s[i] (pU s[i]) (jAe hi) rfl;rw[jCz,jBy]at h3;rw[h3];cases h4
     grind
    have hl:=hnews.len
    simp_all
   have hload:=run_loadCells_list (P:=P) g.w a0 news hcells;rw[hnews.len,jCz]at hload;subst hn2;have hr:=run_bytesToString (P:=P) g.w a0 s.length c (s.map fun c=>(c.toNat:Int)) (by simp_all);rw[hr,foldl_push_bytes];simp[strB,Function.comp_def]⟩
end
end
section
open Go.RowKit Go.Lib
variable {E:Env} {fr:Fr} {σ:Sto} {K:Post} {P:Program} {ρ:Operand->AV}
variable {dst:Option Tmp} {ty:TypeId} {pos:String} {af:Array Edge} {gu:Option (Nat × Bool)}
theorem Qwa(off:Nat):∀(vs:List Value) (k:Nat) (cs:Array Value),off+k+vs.length<=cs.size->
 ((vs.zipIdx k).foldl (fun (cs:Array Value) (x:Value × Nat)=>cs.setIfInBounds (off+x.2) x.1) cs).size=cs.size/\
 ∀p,((vs.zipIdx k).foldl (fun (cs:Array Value) (x:Value × Nat)=>cs.setIfInBounds (off+x.2) x.1) cs).getD p undef=if off+k<=p/\p < off+k+vs.length then (vs[p - (off+k)]?).getD undef else cs.getD p undef
 | [],k,cs,_=>⟨rfl,fun p=>by simp;omega⟩
 | v::vs,k,cs,h=>by
  have ih:=Qwa off vs (k+1) (cs.setIfInBounds (off+k) v) (by grind);simp only[List.zipIdx_cons,List.foldl_cons];refine ⟨by simp_all,fun p=>?_⟩;rw[ih.2 p];simp only[jBj]at h ⊢;by_cases hp:p=off+k
  .subst hp;rw[if_neg (by omega),if_pos (by omega),k4a,if_pos ⟨rfl,by omega⟩];simp
  by_cases hr:off+(k+1)<=p/\p < off+(k+1)+vs.length
  .grind
  rw[if_neg hr,if_neg (by omega),k4a,if_neg (by omega)]
theorem y2b(off:Nat)(vs cs:Array Value)(h:off+vs.size<=cs.size):
 (vs.zipIdx.foldl (fun cs (x:Value × Nat)=>cs.setIfInBounds (off+x.2) x.1) cs).size=cs.size/\
 ∀p,(vs.zipIdx.foldl (fun cs (x:Value × Nat)=>cs.setIfInBounds (off+x.2) x.1) cs).getD p undef=if off<=p/\p < off+vs.size then vs.getD (p - off) undef else cs.getD p undef:=by
 have:=Qwa off vs.toList 0 cs (by omega);rw[<-Array.foldl_toList,Array.toList_zipIdx]
 simp_all
structure q1b (g:G) (cs:List AV) (vs:Array Value):Prop where
 n:vs.size=cs.length
 c:∀i,i < vs.size->cellV (vs.getD i undef)=true
 r:∀i c,cs[i]? =some c->Rel g c (vs.getD i undef)
def Jja(place:Nat->Option (Nat × Nat)):List AV->List (Nat × AV)->Option (List AV)
 | cs,[]=>some cs
 | cs,(i,c)::rest=>
  match place i,c.cells with
  | some (off,size),some vs=>bif Nat.beq vs.length size && Nat.ble (off+vs.length) cs.length then Jja place (Qta cs off vs) rest else none
  | _,_=>none
theorem wLb(cs:List AV)(off:Nat)(vs:List AV)(h:off+vs.length<=cs.length)(p:Nat):(Qta cs off vs)[p]? =if off<=p/\p < off+vs.length then vs[p - off]? else cs[p]? :=by
 unfold Qta;by_cases h1:p < off;all_goals grind
theorem Yma{g:G}{place:Nat->Option (Nat × Nat)}:∀(ps:List (Nat × AV)) (vps:List (Nat × Value)) (cs:List AV) (vs:Array Value) (r:List AV),q1b g cs vs->
 ps.length=vps.length->(∀(i:Nat) p v,ps[i]? =some p->vps[i]? =some v->p.1=v.1/\Rel g p.2 v.2)->Jja place cs ps=some r->∃out,Instr.fill place vs vps=some out/\q1b g r out
 | [],[],cs,vs,r,hc,_,_,hr=>by cases hr;exact ⟨vs,rfl,hc⟩
 | [],_::_,_,_,_,_,hl,_,_=>by grind
 | _::_,[],_,_,_,_,hl,_,_=>by grind
 | (i,c)::ps,(i',v)::vps,cs,vs,r,hc,hl,hrel,hr=>by
  obtain ⟨hi,hv⟩:=hrel 0 (i,c) (i',v) rfl rfl;simp only at hi hv;subst hi;unfold Jja at hr;unfold Instr.fill;split at hr
  .rename_i off size cells hp hcells;simp only[hp];obtain ⟨v1,v2,v3⟩:=jUa hv hcells;cases hb:(Nat.beq cells.length size && Nat.ble (off+cells.length) cs.length) with
   | false=>simp_all
   | true=>
    rw[hb]at hr;simp only[cond_true]at hr;simp only[jAn]at hb;have hb1:=jAl hb.1;have hb2:=jAf hb.2;have hcond:¬((v.cells.size≠size || off+v.cells.size > vs.size)=true):=by
     simp only[jBr,decide_eq_true_eq,not_or,Decidable.not_not,Nat.not_lt];exact ⟨by omega,by rw[v1,hc.n];omega⟩
    rw[if_neg hcond];obtain ⟨f1,f2⟩:=y2b off v.cells vs (by simp_all);refine Yma ps vps (Qta cs off cells) _ r ⟨by rw[f1,hc.n];simp[Qta];omega,fun p hp=>?_,fun p c' hp=>?_⟩ (by simp_all) (fun k p q h1 h2=>hrel (k+1) p q (by simp_all) (by simp_all)) hr
    .rw[f1]at hp;rw[f2];by_cases hh:off<=p/\p < off+v.cells.size
     .grind
     rw[if_neg hh];exact hc.c p hp
    rw[wLb _ _ _ hb2]at hp;rw[f2,v1];split at hp
    .simp_all
    rename_i hh;rw[if_neg hh];exact hc.r _ _ hp
  grind
theorem JKa(g:G)(zero:Value){cs:List AV}(hz:(qXa zero).cells=some cs∨zero.cells.toList.map qXa=cs/\zero.cells.toList.all cellV=true):q1b g cs zero.cells:=by
 rcases hz with hz | ⟨rfl,hz⟩
 .obtain ⟨h1,h2,h3⟩:=jUa (vUa g zero) hz;exact ⟨h1,h2,h3⟩
 refine ⟨by simp,fun i hi=>?_,fun i c hi=>?_⟩
 .simp_all
 simp only[jAk,jAh,jDq]at hi;obtain ⟨v,hv,rfl⟩:=hi;rw[jAg,hv];exact vUa g v
section
variable {t e:TypeId} {size bytes ss sb:Nat} {zero sz:Value} {d:TypeDesc} {x y:Operand}
theorem ev_build{ps:List (Nat × Operand)}{fs:Array Field}{places:Array (Nat × Nat)}{z cs:List AV}(ht:TyOk P t ss sb zero (.struct fs))(hp:∀w,Sem.run P (fs.mapM fun f=>do pure (f.offset,<-sizeOf f.type)) w=.ok places w)
 (hz:(qXa zero).cells=some z∨zero.cells.toList.map qXa=z/\zero.cells.toList.all cellV=true) (hc:Jja (places[·]?) z (ps.map fun p=>(p.1,ρ p.2))=some cs):EvQ P ⟨dst,.build t ps.toArray,ty,pos,af,gu⟩ ρ σ (.agg cs):=
 ⟨fun c=>by simp,fun g ρv hh _=>by
  obtain ⟨out,h1,h2⟩:=Yma (g:=g) (ps.map fun p=>(p.1,ρ p.2)) (ps.map fun p=>(p.1,ρv p.2)) z zero.cells cs (JKa g zero hz) (by simp) (fun i p v hp hv=>by
   simp only[jAk,jAh]at hp hv;obtain ⟨q,hq,rfl⟩:=hp;obtain ⟨q',hq',rfl⟩:=hv;rw[hq]at hq';cases hq';refine ⟨rfl,hh q.2 ?_⟩;simp only[Op.operands]
   grind) hc
  refine ⟨.agg out,?_,.agg h2.n h2.c h2.r⟩;show Sem.run P (do let v <-Instr.build t (ps.toArray.map fun (i,x)=>(i,ρv x));pure (Next.value v)) g.w=_;simp only[Instr.build,underlying,program,jAr,Sem.run,ht.u,ht.zeroValue,jAo,jAv,hp]
  simp_all⟩
theorem ev_field{f:Nat}{fs:Array Field}{fl:Field}{cs:List AV}{c:AV}(hx:ρ x=.agg cs)(ht:P.underlying t=some (.struct fs))(hf:fs[f]? =some fl)(hft:TyOk P fl.type size bytes zero d)(hd:dAgg d=false)(hc:cs[fl.offset]? =some c):
 EvQ P ⟨dst,.field t x f,ty,pos,af,gu⟩ ρ σ c:=
 ⟨fun c=>by simp,fun g ρv hh _=>by
  have h1:=hh x (by simp[Op.operands]);rw[hx]at h1;generalize hv:ρv x=v at h1;cases h1 with
  | @agg _ vs hl hcv hr=>
   have hlt:fl.offset < vs.size:=by rw[hl];exact (jAd.1 hc).1
   refine ⟨vs[fl.offset],?_,by simpa[Array.getD,hlt]using hr _ _ hc⟩;show Sem.run P (do let v <-Instr.field t (ρv x) f;pure (Next.value v)) g.w=_;rw[hv];simp only[Instr.field,underlying,program,jAr,Sem.run,ht,jAo,jAv,hf,asAgg,part,hft.isAgg,hd];simp[hlt]⟩
inductive vYa (P:Program):Nat->List Field->List AV->List AV->List Bool->Prop
 | nil {i:Nat}:vYa P i [] [] [] []
 | int {i : Nat} {f : Field} {fs : List Field} {a b : Int} {k kk : IntKind} {xs ys : List AV} {rs : List Bool} {s1 s2 : Nat} {z : Value} (ho : f.offset = i) (hn : f.name ≠ "_") (ht : TyOk P f.type s1 s2 z (.int kk)) (h : vYa P (i + 1) fs xs ys rs) :
  vYa P i (f::fs) (.pv (.b (.int k a))::xs) (.pv (.b (.int k b))::ys) ((a==b)::rs)
 | str {i : Nat} {f : Field} {fs : List Field} {a b : Str} {xs ys : List AV} {rs : List Bool} {s1 s2 : Nat} {z : Value} (ho : f.offset = i) (hn : f.name ≠ "_") (ht : TyOk P f.type s1 s2 z .string) (h : vYa P (i + 1) fs xs ys rs) :
  vYa P i (f::fs) (.s a::xs) (.s b::ys) ((a==b)::rs)
 | bool {i : Nat} {f : Field} {fs : List Field} {a b : Bool} {xs ys : List AV} {rs : List Bool} {s1 s2 : Nat} {z : Value} (ho : f.offset = i) (hn : f.name ≠ "_") (ht : TyOk P f.type s1 s2 z .bool) (h : vYa P (i + 1) fs xs ys rs) :
  vYa P i (f::fs) (.bo a::xs) (.bo b::ys) ((a==b)::rs)
theorem Zua{w:World}{vs:Array Value}{off:Nat}{s1 s2:Nat}{z:Value}(ht:TyOk P t s1 s2 z d)(hd:dAgg d=false)(h:off < vs.size):(part t vs off).run P w=.ok (vs.getD off undef) w:=by
 simp only[part,jAr,ht.isAgg,jAo,hd]
 simp_all
theorem zxb{g:G}{vx vy:Array Value}{CX CY:List AV}(hx:Rel g (.agg CX) (.agg vx))(hy:Rel g (.agg CY) (.agg vy)):∀{n:Nat} {l:List Field} {xs ys:List AV} {rs:List Bool},vYa P n l xs ys rs->CX.drop n=xs->CY.drop n=ys->
 rs.length = l.length /\ ∀ (i : Nat) f r, l[i]? = some f -> rs[i]? = some r -> f.name ≠ "_" /\ ∃ x y, (∀ w, (part f.type vx f.offset).run P w = .ok x w) /\ (∀ w, (part f.type vy f.offset).run P w = .ok y w) /\ EqOk P f.type x y r := by
 cases hx with
 | agg hxl hxc hxr=>
  cases hy with
  | agg hyl hyc hyr=>
   have step:∀{n:Nat} {cx cy:AV} {xs ys:List AV},CX.drop n=cx::xs->CY.drop n=cy::ys->CX[n]? =some cx/\CY[n]? =some cy/\CX.drop (n+1)=xs/\CY.drop (n+1)=ys/\n < vx.size/\n < vy.size:=by
    intro n cx cy xs ys h1 h2;have a1:CX[n]? =some cx:=by have:=congrArg (fun l=>l[0]?) h1;simpa using this
    have a2:CY[n]? =some cy:=by have:=congrArg (fun l=>l[0]?) h2;simpa using this
    refine ⟨a1,a2,?_,?_,by grind,by grind⟩
    .rw[<-List.drop_drop,h1];rfl
    rw[<-List.drop_drop,h2];rfl
   intro n l xs ys rs h;induction h with
   | nil=>simp_all
   | @int i f fs a b k kk xs ys rs s1 s2 z ho hn ht h ih=>
    intro h1 h2;obtain ⟨a1,a2,a3,a4,a5,a6⟩:=step h1 h2;obtain ⟨ih1,ih2⟩:=ih a3 a4;refine ⟨by grind,fun q f' r hf hr=>?_⟩;cases q with
    | zero=>
     simp at hf hr;subst hf;subst hr;refine ⟨hn,vx.getD i undef,vy.getD i undef,fun w=>?_,fun w=>?_,?_⟩
     .rw[ho];exact Zua ht rfl a5
     .rw[ho];exact Zua ht rfl a6
     rw[zKa (hxr i _ a1),zKa (hyr i _ a2)];exact eq_int ht.u
    | succ q=>grind
   | @str i f fs a b xs ys rs s1 s2 z ho hn ht h ih=>
    intro h1 h2;obtain ⟨a1,a2,a3,a4,a5,a6⟩:=step h1 h2;obtain ⟨ih1,ih2⟩:=ih a3 a4;refine ⟨by grind,fun q f' r hf hr=>?_⟩;cases q with
    | zero=>
     simp at hf hr;subst hf;subst hr;refine ⟨hn,vx.getD i undef,vy.getD i undef,fun w=>?_,fun w=>?_,?_⟩
     .rw[ho];exact Zua ht rfl a5
     .rw[ho];exact Zua ht rfl a6
     rw[zKa (hxr i _ a1),zKa (hyr i _ a2)];exact eq_str ht.u
    | succ q=>grind
   | @bool i f fs a b xs ys rs s1 s2 z ho hn ht h ih=>
    intro h1 h2;obtain ⟨a1,a2,a3,a4,a5,a6⟩:=step h1 h2;obtain ⟨ih1,ih2⟩:=ih a3 a4;refine ⟨by grind,fun q f' r hf hr=>?_⟩;cases q with
    | zero=>
     simp at hf hr;subst hf;subst hr;refine ⟨hn,vx.getD i undef,vy.getD i undef,fun w=>?_,fun w=>?_,?_⟩
     .rw[ho];exact Zua ht rfl a5
     .rw[ho];exact Zua ht rfl a6
     rw[zKa (hxr i _ a1),zKa (hyr i _ a2)];exact qXb ht.u
    | succ q=>grind
structure y3b (P:Program) (t:TypeId):Prop where
 s:P.stoodInHeld t=false
 g:P.eqGuardType P.depth t=false
theorem ZTa{g:G}{vx vy:Value}{CX CY:List AV}{l:List Field}{rs:List Bool}(hx:Rel g (.agg CX) vx)(hy:Rel g (.agg CY) vy)(ht:P.underlying t=some (.struct l.toArray))(hc:y3b P t)(h:vYa P 0 l CX CY rs)(w:World):
 (Op.equal t vx vy).run P w=.ok (Z4a rs) w/\∃a b,vx=.agg a/\vy=.agg b:=by
 cases hx with
 | agg h1 h2 h3=>
  cases hy with
  | agg k1 k2 k3=>
   obtain ⟨e1,e2⟩:=zxb (.agg h1 h2 h3) (.agg k1 k2 k3) h rfl rfl;exact ⟨yWb ht hc.s e1 e2 9998 w,_,_,rfl,rfl⟩
theorem q2b{CX CY:List AV}{l:List Field}{rs:List Bool}{t' :TypeId}(hx:ρ x=.agg CX)(hy:ρ y=.agg CY)(ht:TyOk P t ss sb sz (.struct l.toArray))(hc:y3b P t)(h:vYa P 0 l CX CY rs):
 EvQ P ⟨dst,.binOp .eql t x y t',ty,pos,af,gu⟩ ρ σ (.bo (Z4a rs)):=
 ⟨fun c=>by simp,fun g ρv hh _=>by
  obtain ⟨h1,h2⟩:=ops2 (o:=⟨dst,.binOp .eql t x y t',ty,pos,af,gu⟩) (x:=x) (y:=y) rfl hh;rw[hx]at h1;rw[hy]at h2;obtain ⟨he,a,b,ea,eb⟩:=ZTa h1 h2 ht.u hc h g.w;refine ⟨.bool (Z4a rs),?_,.pv (.b rfl)⟩;show Sem.run P (do let v <-(do eqGuard .eql t x y (ρv x) (ρv y);binOp .eql t (ρv x) (ρv y));pure (Next.value v)) g.w=_;rw[ea,eb]at he ⊢;simp[eqGuard,binOp,jAr,he,jAv,program,Sem.run,hc.g]⟩
theorem Yna{CX CY:List AV}{l:List Field}{rs:List Bool}{t' :TypeId}(hx:ρ x=.agg CX)(hy:ρ y=.agg CY)(ht:TyOk P t ss sb sz (.struct l.toArray))(hc:y3b P t)(h:vYa P 0 l CX CY rs):
 EvQ P ⟨dst,.binOp .neq t x y t',ty,pos,af,gu⟩ ρ σ (.bo (!Z4a rs)):=
 ⟨fun c=>by simp,fun g ρv hh _=>by
  obtain ⟨h1,h2⟩:=ops2 (o:=⟨dst,.binOp .neq t x y t',ty,pos,af,gu⟩) (x:=x) (y:=y) rfl hh;rw[hx]at h1;rw[hy]at h2;obtain ⟨he,a,b,ea,eb⟩:=ZTa h1 h2 ht.u hc h g.w;refine ⟨.bool (!Z4a rs),?_,.pv (.b rfl)⟩;show Sem.run P (do let v <-(do eqGuard .neq t x y (ρv x) (ρv y);binOp .neq t (ρv x) (ρv y));pure (Next.value v)) g.w=_;rw[ea,eb]at he ⊢;simp[eqGuard,binOp,jAr,he,jAv,program,Sem.run,hc.g]⟩
end
end
section
open Go.RowKit Go.Lib
variable {E:Env} {fr:Fr} {σ:Sto} {K:Post}
variable {ty:TypeId} {pos:String} {af:Array Edge} {gu:Option (Nat × Bool)}
section
variable {α:Type} {F:α->List PV} {l:List α} {size bytes sb ss k n:Nat} {e t:TypeId} {zero sz:Value} {d:TypeDesc}
theorem Zva(hF:∀x,(F x).length=size):∀(l:List α) (i j:Nat) (x:α) (c:PV),l[i]? =some x->(F x)[j]? =some c->(l.flatMap fun x=>(F x).map AV.pv)[i * size+j]? =some (.pv c)
 | [],i,j,x,c,hi,_=>by grind
 | y::l,0,j,x,c,hi,hj=>by
  grind
 | y::l,i+1,j,x,c,hi,hj=>by
  rw[jCq,jAq (by grind)];have e1:(i+1) * size+j - ((F y).map AV.pv).length=i * size+j:=by simp[hF,jBn];omega
  rw[e1];exact Zva hF l i j x c (by simp_all) hj
theorem QOa(hF:∀x,(F x).length=size):∀(l:List α),(l.flatMap fun x=>(F x).map AV.pv).length=l.length * size
 | []=>by simp
 | y::l=>by rw[jCq,jBs,QOa hF l];grind
theorem rel_new{g:G}{out:Array Value}{cap:Nat}(hF:∀x,(F x).length=size)(hl:l.length * size<=out.size)(hcap:l.length<=cap){g' :G}(hb:g'.w.heap[g.w.heap.size]? ≠none)(hcell:∀i,i < out.size->g'.w.cell? ⟨g.w.heap.size,i,none⟩=some (out.getD i undef))(hu:g'.u g.w.heap.size=l.length * size)
 (hr:∀i j x c,l[i]? =some x->(F x)[j]? =some c->RelP g'.w g'.u c (out.getD (i * size+j) undef)):Rel g' (.l F l) (.slice (some ⟨g.w.heap.size,0,none⟩) l.length cap):=by
 have hlt:g.w.heap.size < g'.w.heap.size:=by
  rcases jAu g.w.heap.size g'.w.heap.size with h | h
  .exact h
  simp_all
 have:=RelP.sl (w:=g'.w) (u:=g'.u) (nl:=none) (elems:=l.map F) (a:=some ⟨g.w.heap.size,0,none⟩) (cap:=cap) size g.w.heap.size 0 (fun i=>out.getD i undef)
  (fun x hx=>by cases hx) (fun hx=>by cases hx) (by simp_all) (fun x' hx' =>by grind) (fun _=>rfl) (fun _=>⟨by grind,hlt⟩)
  (fun i hi=>by grind)
  (fun i j x' c hi hj=>by
   grind)
 rw[jAx]at this;exact .pv this
end
end
section
def upd(D:Nat->Bool)(i:Nat):Nat->Bool:=fun j=>if j=i then true else D j
def vZa(md:Region.Mode)(ops:Array Oper):Bool:=ops.toList.zipIdx.all fun p=>p.1.after.all fun e=> !Region.binds md e || decide (e.on < p.2)
theorem Qxa{md:Region.Mode}{ops:Array Oper}(h:vZa md ops=true){i:Nat}{o:Oper}(ho:ops[i]? =some o):∀e∈o.after,Region.binds md e=true->e.on < i:=by
 intro e he hb;unfold vZa at h;rw[jAp]at h;have hm:(o,i)∈ops.toList.zipIdx:=by
  rw[List.mem_zipIdx_iff_getElem?];simpa using ho
 have:=h _ hm;simp only[Array.all_eq_true']at this
 grind
theorem JLa{md:Region.Mode}{ops:Array Oper}{listed:Array Bool}{i:Nat}(h:i∈Region.ready md ops listed):
 ∃o,ops[i]? =some o/\listed.getD i true=false/\∀e∈o.after,Region.binds md e=true->listed.getD e.on false=true:=by
 unfold Region.ready at h;rw[List.mem_filter]at h;obtain ⟨_,h2⟩:=h;rw[jAn]at h2;obtain ⟨h3,h4⟩:=h2;cases ho:ops[i]? with
 | none=>simp_all
 | some o=>
  rw[ho]at h4;refine ⟨o,rfl,by simp_all,fun e he hb=>?_⟩;simp only[jCw,jCn,Array.all_eq_true']at h4
  grind
theorem JMa{md:Region.Mode}{ops:Array Oper}(hl:vZa md ops=true){listed:Array Bool}(hs:listed.size=ops.size)(h:Region.ready md ops listed=[]):∀i,i < ops.size->listed.getD i false=true:=by
 intro i;induction i using Nat.strongRecOn with
 | _ i ih=>
  intro hi;cases hx:listed.getD i false with
  | true=>rfl
  | false=>
   exfalso;have hm:i∈Region.ready md ops listed:=by
    unfold Region.ready;rw[List.mem_filter];refine ⟨jDf.2 hi,?_⟩;have ho:ops[i]? =some ops[i]:=jDh hi;rw[ho];have h1:listed.getD i true=false:=by
     have hi2:i < listed.size:=by omega
     simp[Array.getD,hi2]at hx ⊢;exact hx
    rw[h1];simp only[jDo,jCw,jCn,jDn,Array.all_eq_true'];intro e he;cases hb:Region.binds md e with
    | false=>simp
    | true=>
     have hlt:=Qxa hl ho e he hb
     grind
   simp_all
def y4b(listed:Array Bool):Nat:=(listed.toList.filter (!·)).length
theorem v5b{listed:Array Bool}{i:Nat}(hi:i < listed.size)(h:listed.getD i true=false):y4b (listed.setIfInBounds i true) < y4b listed:=by
 unfold y4b;have h0:listed.toList[i]? =some false:=by
  simp[Array.getD,hi]at h;simp[hi,h]
 have hs:(listed.setIfInBounds i true).toList=listed.toList.set i true:=by simp
 rw[hs];generalize listed.toList=l at *;clear hs hi h;induction l generalizing i with
 | nil=>grind
 | cons b l ih=>
  cases i with
  | zero=>
   simp_all
  | succ i=>
   grind
section
variable {F:Fence} {n:Nat} {P:Program} {md:Region.Mode} {ops:Array Oper} {Q:Exit->Act->World->Prop}
theorem Jka(hl:vZa md ops=true)(J:(Nat->Bool)->Act->World->Prop)
 (hfin:∀D a w,J D a w->(∀i,i < ops.size->D i=true)->Q .normal a w)
 (Kza:∀D a w i o,J D a w->ops[i]? =some o->D i=false->(∀e∈o.after,Region.binds md e=true->D e.on=true)->wpOpIn F n P ops Q i (J (upd D i)) a w):
 ∀(fuel:Nat) (listed:Array Bool) (a:Act) (w:World),listed.size=ops.size->y4b listed<=fuel->J (fun i=>listed.getD i false) a w->wpAnyIn F n P md ops Q fuel listed a w:=by
 intro fuel;induction fuel with
 | zero=>
  intro listed a w hs hc hJ;have hr:Region.ready md ops listed=[]:=by
   rcases hr:Region.ready md ops listed with _ | ⟨i,r⟩
   .rfl
   obtain ⟨o,ho,h1,_⟩:=JLa (md:=md) (ops:=ops) (listed:=listed) (i:=i) (by simp_all);have hi:i < ops.size:=(jBh.1 ho).1;have:=v5b (listed:=listed) (i:=i) (by omega) h1;omega
  exact ⟨hr,hfin _ a w hJ (JMa hl hs hr)⟩
 | succ fuel ih=>
  intro listed a w hs hc hJ;refine ⟨fun hr=>hfin _ a w hJ (JMa hl hs hr),fun i hi=>?_⟩;obtain ⟨o,ho,h1,h2⟩:=JLa hi;have hlt:i < ops.size:=(jBh.1 ho).1;have hD:listed.getD i false=false:=by
   have hi2:i < listed.size:=by omega
   simp[Array.getD,hi2]at h1 ⊢;exact h1
  refine wpOpIn_mono (fun a' w' hJ' =>?_) (Kza _ a w i o hJ ho hD h2);refine ih _ a' w' (by simp_all) (by have:=v5b (listed:=listed) (i:=i) (by omega) h1;omega) ?_;have e:(fun j=>(listed.setIfInBounds i true).getD j false)=upd (fun j=>listed.getD j false) i:=by
   funext j;unfold upd;by_cases hj:j=i
   .simp_all
   rw[if_neg hj];simp[Array.getElem?_setIfInBounds_ne (Ne.symm hj)]
  simp_all
theorem v0a{id:Nat}{a:Act}{w:World}(hm:P.follows .mixedOrders=true)(hl:vZa .any ops=true)(J:(Nat->Bool)->Act->World->Prop)(h0:J (fun _=>false) a w.drew)
 (hfin:∀D a w,J D a w->(∀i,i < ops.size->D i=true)->Q .normal a w)
 (Kza:∀D a w i o,J D a w->ops[i]? =some o->D i=false->(∀e∈o.after,Region.binds .any e=true->D e.on=true)->wpOpIn F n P ops Q i (J (upd D i)) a w):
 (Code.region id ops true).wpIn F n P Q a w:=by
 refine wpIn_region_any hm (Jka hl J hfin Kza ops.size _ a _ (by simp) ?_ ?_)
 .unfold y4b
  simp_all
 have e:(fun i=>(Array.replicate ops.size false).getD i false)=fun _:Nat=>false:=by
  funext i;by_cases hi:i < ops.size
  .simp_all
  simp_all
 simp_all
variable {o:Oper} {i:Nat} {K:Act->World->Prop} {a:Act} {w w' :World} {v:Value}
end
end
section
open Go.RowKit Go.Lib
structure OpG (E:Env) (o:Oper) (fr:Fr) (σ:Sto) (c:AV):Prop where
 go:∀g a (K:Act->World->Prop) (Q:Exit->Act->World->Prop),(∀x∈o.op.operands,Rel g (fr.ev x) (a.eval x))->Sok E.S E.g0 g σ->(∀g' v,Old (fun _=>False) g g' ->Wf g' ->g'.loc=g.loc->Rel g' c v->K (a.put o.dst v) g'.w)->o.wpIn (fen E.rd) 0 E.P a g.w K Q
variable {E:Env} {fr:Fr} {σ:Sto} {K:Post}
theorem zGa{o:Oper}{c:AV}(h:EvQ E.P o fr.ev σ c):OpG E o fr σ c:=
 ⟨fun g a K Q hx hs hK=>by
  obtain ⟨v,hr,hv⟩:=h.run g a.eval hx hs.obj;refine ⟨fun _ _=>trivial,?_⟩;rw[jAz _ _ _ h.nd,hr,jBf];exact hK g v (Old.refl _ g) hs.wf rfl hv⟩
theorem zua{f:FuncId}{dst:Option Tmp}{ty:TypeId}{pos:String}{af:Array Edge}{gu:Option (Nat × Bool)}{xs:List Operand}{ats:Array TypeId}{args:List AV}{r:AV}(hr:Run E.P f args r)(ha:xs.map (fun x=>(fr.ev x).weak)=args):
 OpG E ⟨dst,.call ⟨.value (.func f),xs.toArray,ats⟩,ty,pos,af,gu⟩ fr σ r:=
 ⟨fun g a K Q hx hs hK=>by
  obtain ⟨fn,c,hok⟩:=hr.ok;refine ⟨fun _ _=>trivial,?_⟩;rw[jAz _ _ _ (fun c=>by simp),vFa hok (first:= #[]) (cap:= #[]) rfl,jDd];refine ⟨fun h=>by simp[fen]at h,?_⟩;have hargs:wma g args (#[]++xs.toArray.map a.eval++ #[]):=by
   subst ha;refine ⟨by simp,fun i c hi=>?_⟩;simp only[jAk,jAh]at hi;obtain ⟨x,hx',rfl⟩:=hi;have:=qUa (hx x (by simp[Op.operands,Call.operands];exact .inr (jAi hx')));simpa[hx']using this
  refine (vEa (hr.run g _ hs.wf (E.glOf hs) hargs)).mono ?_;rintro e w' ⟨g',v,rfl,hl,ho,hw,rfl,hv⟩;exact hK g' v ho hw hl hv⟩
inductive kta (ops:Array Oper) (fr:Fr) (o:Oper):Prop
 | plain (h:o.guard=none)
 | yes {j d:Nat} {want t:Bool} (hg:o.guard=some (j,want)) (hj:(ops[j]?).bind (·.dst)=some d) (hv:fr.get d=.pv (.b (.bool t))) (ht:t=want)
inductive Zwa (ops:Array Oper) (fr:Fr) (o:Oper):Prop
 | no {j d:Nat} {want t:Bool} (hg:o.guard=some (j,want)) (hj:(ops[j]?).bind (·.dst)=some d) (hv:fr.get d=.pv (.b (.bool t))) (ht:t= !want)
 | none {j d:Nat} {want:Bool} (hg:o.guard=some (j,want)) (hj:(ops[j]?).bind (·.dst)=some d) (hv:fr.get d=.tup [])
inductive Pres (E:Env) (ops:Array Oper) (fr:Fr) (σ:Sto):List Oper->List AV->Prop
 | nil:Pres E ops fr σ [] []
 | run {o:Oper} {l:List Oper} {c:AV} {cs:List AV} (hg:kta ops fr o) (h:OpG E o fr σ c) (hr:Pres E ops fr σ l cs):Pres E ops fr σ (o::l) (c::cs)
 | skip {o:Oper} {l:List Oper} {cs:List AV} (hg:Zwa ops fr o) (hr:Pres E ops fr σ l cs):Pres E ops fr σ (o::l) (.tup []::cs)
theorem Pres.len{ops:Array Oper}{l:List Oper}{cs:List AV}(h:Pres E ops fr σ l cs):cs.length=l.length:=by
 induction h with
 | nil=>rfl
 | run _ _ _ ih=>simp[ih]
 | skip _ _ ih=>simp[ih]
theorem Pres.get{ops:Array Oper}{l:List Oper}{cs:List AV}(h:Pres E ops fr σ l cs):∀{i:Nat} {o:Oper} {c:AV},l[i]? =some o->cs[i]? =some c->(kta ops fr o/\OpG E o fr σ c)∨(Zwa ops fr o/\c=.tup []):=by
 induction h with
 | nil=>intro i o c h1;simp at h1
 | run hg h _ ih=>
  intro i o c h1 h2;cases i with
  | zero=>simp at h1 h2;subst h1;subst h2;exact .inl ⟨hg,h⟩
  | succ i=>exact ih (by simpa using h1) (by simpa using h2)
 | skip hg _ ih=>
  intro i o c h1 h2;cases i with
  | zero=>simp at h1 h2;subst h1;subst h2;exact .inr ⟨hg,rfl⟩
  | succ i=>exact ih (by simpa using h1) (by simpa using h2)
def wKa:List Oper->List AV->Fr->Fr
 | o::l,c::cs,fr=>wKa l cs (match o.dst with | some d=>(d,c)::fr | none=>fr)
 | _,_,fr=>fr
def Wsa(o:Oper):List Nat:=o.op.operands.toList.filterMap fun | .tmp t=>some t | _=>none
def maskOf(acc:List Nat)(o:Oper):Nat:=o.after.toList.foldl (fun s e=>bif Region.binds .any e then s ||| (2 ^ e.on ||| acc.getD e.on 0) else s) 0
def K7a(l:List Oper)(n:Nat)(acc:List Nat):List Nat:=acc++ [match l[n]? with | some o=>maskOf acc o | none=>0]
def wka(l:List Oper):Nat->List Nat
 | 0=>[]
 | n+1=>K7a l n (wka l n)
def qxa(o:Oper)(j:Nat):Bool:=o.after.toList.any fun e=>Region.binds .any e && Nat.beq e.on j
def y5b(l:List Oper)(m:Nat):Bool:=
 vZa .any l.toArray &&
 ((l.take m).all fun o=>o.dst.isSome) &&
 (List.range m).all (fun i=>(List.range m).all fun j=>Nat.beq i j || (l[i]?).bind (·.dst) !=(l[j]?).bind (·.dst)) &&
 ((l.take m).all fun o=>(Wsa o).all fun t=>(List.range m).all fun j=>(l[j]?).bind (·.dst) !=some t || qxa o j) &&
 ((l.take m).all fun o=>match o.guard with | none=>true | some (j,_)=>qxa o j) &&
 (List.range l.length).all (fun i=>Nat.ble (i+1) m || (List.range i).all fun j=>((wka l l.length).getD i 0).testBit j)
theorem VTa{D:Nat->Bool}(acc:List Nat)(hacc:∀i j,(acc.getD i 0).testBit j=true->D i=true->D j=true):∀(es:List Edge) (s:Nat),(∀e∈es,Region.binds .any e=true->D e.on=true)->(∀j,s.testBit j=true->D j=true)->
 ∀j,(es.foldl (fun s e=>bif Region.binds .any e then s ||| (2 ^ e.on ||| acc.getD e.on 0) else s) s).testBit j=true->D j=true
 | [],s,_,hs,j,h=>hs j h
 | e::es,s,he,hs,j,h=>by
  rw[List.foldl_cons]at h;refine VTa acc hacc es _ (fun e' h' =>he e' (by simp[h'])) ?_ j h;intro j' hj';cases hb:Region.binds .any e with
  | false=>rw[hb]at hj';exact hs j' hj'
  | true=>
   rw[hb]at hj';simp only[cond_true,Nat.testBit_or,jBr]at hj';have hd:=he e (by simp) hb;rcases hj' with h1 | h1 | h1
   .exact hs j' h1
   .rw[Nat.testBit_two_pow]at h1;simp at h1;rw[<-h1];exact hd
   exact hacc e.on j' h1 hd
theorem vaa(l:List Oper):∀n,(wka l n).length=n
 | 0=>rfl
 | n+1=>by simp[wka,K7a,vaa l n]
theorem Kba{D:Nat->Bool}{l:List Oper}(hcl:∀i o,l[i]? =some o->D i=true->∀e∈o.after,Region.binds .any e=true->D e.on=true):∀(n i j:Nat),((wka l n).getD i 0).testBit j=true->D i=true->D j=true
 | 0,i,j,h,_=>by simp[wka]at h
 | n+1,i,j,h,hd=>by
  have ih:=Kba hcl n;rcases Nat.lt_trichotomy i n with hlt | heq | hgt
  .rw[wka,K7a,jAj,jAy (by rw[vaa];exact hlt),<-jAj]at h;exact ih i j h hd
  .subst heq;rw[wka,K7a,jAj,jAq (by rw[vaa];exact jAm _),vaa,Nat.sub_self]at h;cases ho:l[i]? with
   | none=>rw[ho]at h;simp at h
   | some o=>
    rw[ho]at h;exact VTa _ ih o.after.toList 0 (fun e he hb=>hcl i o ho hd e (by simpa using he) hb) (fun j hj=>by simp at hj) j h
  rw[jAj,jCv (by rw[vaa];omega)]at h;simp at h
theorem yGa{D:Nat->Bool}{l:List Oper}(hcl:∀i o,l[i]? =some o->D i=true->∀e∈o.after,Region.binds .any e=true->D e.on=true):∀(n i:Nat) (o:Oper),l[i]? =some o->(∀e∈o.after,Region.binds .any e=true->D e.on=true)->∀j,((wka l n).getD i 0).testBit j=true->D j=true
 | 0,i,o,_,_,j,h=>by simp[wka]at h
 | n+1,i,o,ho,he,j,h=>by
  rcases Nat.lt_trichotomy i n with hlt | heq | hgt
  .rw[wka,K7a,jAj,jAy (by rw[vaa];exact hlt),<-jAj]at h;exact yGa hcl n i o ho he j h
  .subst heq;rw[wka,K7a,jAj,jAq (by rw[vaa];exact jAm _),vaa,Nat.sub_self,ho]at h;exact VTa _ (Kba hcl i) o.after.toList 0 (fun e hm hb=>he e (by simpa using hm) hb) (fun j hj=>by simp at hj) j h
  rw[jAj,jCv (by rw[vaa];omega)]at h;simp at h
theorem St.drew{g:G}{a:Act}(h:St E g a fr σ):St E ⟨g.w.drew,g.u,g.loc⟩ a fr σ:=by
 have hold:Old (fun _=>False) g ⟨g.w.drew,g.u,g.loc⟩:=⟨rfl,rfl,rfl,⟨jAm _,fun _ _=>jAm _,fun _ _ _ _=>rfl,fun _ h=>h⟩,fun _ _ _=>⟨rfl,rfl⟩⟩;exact h.grow hold h.so.wf (fun _ _=>rfl)
theorem wna:∀(l:List Oper) (cs:List AV) (fr:Fr) (d:Nat),(∀o∈l,o.dst≠some d)->(wKa l cs fr).get d=fr.get d
 | [],cs,fr,d,_=>by cases cs <;> rfl
 | o::l,[],fr,d,_=>rfl
 | o::l,c::cs,fr,d,h=>by
  rw[wKa,wna l cs _ d (fun o' h' =>h o' (by simp[h']))];cases hd:o.dst with
  | none=>rfl
  | some d' =>
   show Fr.get ((d',c)::fr) d=_;rw[Fr.get_cons,if_neg];rintro rfl;exact h o (by simp) hd
theorem Kca:∀(l:List Oper) (cs:List AV) (fr:Fr) (i:Nat) (o:Oper) (c:AV) (d:Nat),(∀(i j:Nat) (o o' :Oper),l[i]? =some o->l[j]? =some o' ->i≠j->o.dst≠o'.dst)->l[i]? =some o->cs[i]? =some c->o.dst=some d->(wKa l cs fr).get d=c
 | [],cs,fr,i,o,c,d,_,h1,_,_=>by simp at h1
 | o' ::l,[],fr,i,o,c,d,_,_,h2,_=>by simp at h2
 | o' ::l,c' ::cs,fr,0,o,c,d,hd,h1,h2,h3=>by
  simp at h1 h2;subst h1;subst h2;rw[wKa,wna]
  .rw[h3];show Fr.get ((d,c')::fr) d=c';rw[Fr.get_cons,if_pos rfl]
  intro o2 ho2;obtain ⟨j,hj,rfl⟩:=jBz ho2;rw[<-h3];exact fun hc=>hd 0 (j+1) o' l[j] rfl (by simp[hj]) (by omega) hc.symm
 | o' ::l,c' ::cs,fr,i+1,o,c,d,hd,h1,h2,h3=>by
  rw[wKa];exact Kca l cs _ i o c d (fun i j o o' hi hj hne=>hd (i+1) (j+1) o o' (by simpa using hi) (by simpa using hj) (by omega)) (by simpa using h1) (by simpa using h2) h3
theorem k0a:∀(l:List Oper) (cs:List AV) (fr fr' :Fr),wKa l cs (fr++fr')=wKa l cs fr++fr'
 | [],cs,fr,fr' =>by cases cs <;> rfl
 | o::l,[],fr,fr' =>rfl
 | o::l,c::cs,fr,fr' =>by
  rw[wKa,wKa,<-k0a];cases o.dst <;> rfl
def JD(E:Env)(l:List Oper)(m:Nat)(cs:List AV)(fr:Fr)(σ:Sto)(K:Post)(D:Nat->Bool)(a:Act)(w:World):Prop:=
 (∀i o,l[i]? =some o->D i=true->∀e∈o.after,Region.binds .any e=true->D e.on=true)/\
 ((∃g,g.w=w/\(∀i,m<=i->D i=false)/\(∃i,i < m/\D i=false)/\a.tmps.size=E.N/\DokE E g.w a.defers/\Sok E.S E.g0 g σ/\
  (∀d,(∀i o,i < m->l[i]? =some o->o.dst≠some d)->Rel g (fr.get d) (a.tmps.getD d undef))/\
  (∀i o c d,i < m->D i=true->l[i]? =some o->cs[i]? =some c->o.dst=some d->Rel g c (a.tmps.getD d undef)))
  ∨(∃s,m<=s/\(∀i,i < l.length->(D i=true↔i < s))/\s<=l.length/\wpListIn (fen E.rd) 0 E.P l.toArray (Ends E K) (l.drop s) a w))
set_option maxHeartbeats 1000000 in
theorem y6b{id:Nat}{l:List Oper}(m:Nat)(new:Fr){cs:List AV}(hmix:E.P.follows .mixedOrders=true)(hok:y5b l m=true)(hm:Nat.ble m l.length=true)(hN:((l.take m).all fun o=>o.dst.all fun d=>Nat.ble (d+1) E.N)=true)
 (hp:Pres E l.toArray (new++fr) σ (l.take m) cs) (hnew:wKa (l.take m) cs []=new) (h:AWPL E l.toArray (l.drop m) (new++fr) σ K):AWP E (.region id l.toArray true) fr σ K:=by
 have hm:=jAf hm;simp only[y5b,jAn,jAp]at hok;obtain ⟨⟨⟨⟨⟨hlb,hsome⟩,hdist⟩,hdat⟩,hgrd⟩,hsuf⟩:=hok;have hcslen:cs.length=m:=by rw[hp.len];simp;omega
 have htake:∀i,i < m->(l.take m)[i]? =l[i]? :=fun i hi=>jBd hi
 have hmem:∀i o,i < m->l[i]? =some o->o∈l.take m:=fun i o hi ho=>jAi (by rw[htake i hi];exact ho)
 have hdist' :∀i j o o',i < m->j < m->l[i]? =some o->l[j]? =some o' ->i≠j->o.dst≠o'.dst:=by
  intro i j o o' hi hj ho ho' hne hc;have:=hdist i (by simpa using hi) j (by simpa using hj);simp only[jBr,bne_iff_ne,ne_eq]at this;rcases this with h1 | h1
  .exact hne (jAl h1)
  exact h1 (by rw[ho,ho'];simpa using hc)
 have hA:∀d,(∀i o,i < m->l[i]? =some o->o.dst≠some d)->(new++fr).get d=fr.get d:=by
  intro d hd;rw[<-hnew,<-k0a,jCf];refine wna _ _ _ _ fun o ho=>?_
  obtain ⟨i,hi,rfl⟩:=jBz ho;have hi' :i < m:=by simp at hi;omega
  exact hd i _ hi' (by rw[<-htake i hi'];exact jAe hi)
 have hB:∀i o c d,i < m->l[i]? =some o->cs[i]? =some c->o.dst=some d->(new++fr).get d=c:=by
  intro i o c d hi ho hc hd;rw[<-hnew,<-k0a,jCf];refine Kca _ _ _ i o c d (fun i j o o' h1 h2 hne=>?_) (by rw[htake i hi];exact ho) hc hd;have hi1:i < m:=by have:=(jAd.1 h1).1;simp at this;omega
  have hj1:j < m:=by have:=(jAd.1 h2).1;simp at this;omega
  rw[htake i hi1]at h1;rw[htake j hj1]at h2;exact hdist' i j o o' hi1 hj1 h1 h2 hne
 have hsuf' :∀{D:Nat->Bool} i o,(∀i o,l[i]? =some o->D i=true->∀e∈o.after,Region.binds .any e=true->D e.on=true)->m<=i->l[i]? =some o->(∀e∈o.after,Region.binds .any e=true->D e.on=true)->∀j,j < i->D j=true:=by
  intro D i o hcl hi ho he j hj;have hil:i < l.length:=(jAd.1 ho).1;have:=hsuf i (by simpa using hil);simp only[jBr,jAp]at this;rcases this with h1 | h1
  .have:=jAf h1;omega
  exact yGa hcl l.length i o ho he j (h1 j (by simpa using hj))
 have hdir:∀{D:Nat->Bool} {o:Oper} {j:Nat},(∀e∈o.after,Region.binds .any e=true->D e.on=true)->qxa o j=true->D j=true:=by
  intro D o j he hd;simp only[qxa,List.any_eq_true,jAn]at hd;obtain ⟨e,h1,h2,h3⟩:=hd;rw[<-jAl h3];exact he e (by simpa using h1) h2
 refine ⟨fun g a hst=>?_⟩;have hst0:=hst.drew;refine v0a hmix hlb (JD E l m cs fr σ K) ⟨fun i o _ hd=>by simp at hd,?_⟩ ?_ ?_
 .by_cases h0:m=0
  .subst h0;refine .inr ⟨0,jAm _,fun i _=>by simp,jBi _,?_⟩;have hn:new=[]:=by rw[<-hnew];simp[wKa]
   subst hn;have:=h.go _ a hst0;simpa using this
  exact .inl ⟨⟨g.w.drew,g.u,g.loc⟩,rfl,fun _ _=>rfl,⟨0,by omega,rfl⟩,hst0.n,hst0.df,hst0.so,fun d _=>hst0.fr d,fun i o c d _ hd=>by simp at hd⟩
 .rintro D a w ⟨_,⟨g,_,_,⟨i,hi,hd⟩,_⟩ | ⟨s,hs1,hs2,hs3,hs4⟩⟩ hall
  .rw[hall i (by simp;omega)]at hd;cases hd
  have:s=l.length:=by
   rcases jAu s l.length with h1 | h1
   .have:=(hs2 s h1).1 (hall s (by simpa using h1));omega
   omega
  subst this;rw[List.drop_length]at hs4;exact hs4
 rintro D a w i o ⟨hcl,hJ⟩ ho hDi he;have ho' :l[i]? =some o:=by simpa using ho
 have hcl' :∀i' o',l[i']? =some o' ->upd D i i' =true->∀e∈o'.after,Region.binds .any e=true->upd D i e.on=true:=by
  intro i' o' h1 h2 e h3 h4;unfold upd at h2 ⊢;split
  .rfl
  split at h2
  .rename_i hii;subst hii;rw[ho']at h1;cases h1;exact he e h3 h4
  exact hcl i' o' h1 h2 e h3 h4
 rcases hJ with ⟨g,rfl,hge,⟨i0,hi0,hd0⟩,hsz,hdf,hso,hf0,hfD⟩ | ⟨s,hs1,hs2,hs3,hs4⟩
 .have him:i < m:=by
   rcases jAu i m with h1 | h1
   .exact h1
   have:=hsuf' i o hcl h1 ho' he i0 (by omega);rw[hd0]at this;cases this
  obtain ⟨c,hc⟩:∃c,cs[i]? =some c:=⟨cs[i]'(by omega),jAe (by omega)⟩;have hslot:∀d,(∃j o' ,j < m/\l[j]? =some o' /\o'.dst=some d/\D j=true)∨(∀j o',j < m->l[j]? =some o' ->o'.dst≠some d)->Rel g ((new++fr).get d) (a.tmps.getD d undef):=by
   rintro d (⟨j,o',hj,ho1,hd1,hD1⟩ | hno)
   .obtain ⟨c',hc'⟩:∃c,cs[j]? =some c:=⟨cs[j]'(by omega),jAe (by omega)⟩;rw[hB j o' c' d hj ho1 hc' hd1];exact hfD j o' c' d hj hD1 ho1 hc' hd1
   rw[hA d hno];exact hf0 d hno
  have hops:∀x∈o.op.operands,Rel g ((new++fr).ev x) (a.eval x):=by
   intro x hx;cases x with
   | const v=>exact vUa g v
   | global q=>exact .pv (.b rfl)
   | func f=>exact .fn (by simp) (by simp) (fun i c h=>by simp at h) (fun i c h=>by simp at h)
   | tmp t=>
    refine hslot t ?_;by_cases hex:∃j o',j < m/\l[j]? =some o' /\o'.dst=some t
    .obtain ⟨j,o',hj,ho1,hd1⟩:=hex;have h1:=hdat o (hmem i o him ho') t (by simp only[Wsa,jCy];exact ⟨.tmp t,by simpa using hx,rfl⟩) j (by simpa using hj);simp only[jBr,bne_iff_ne,ne_eq]at h1;rcases h1 with h1 | h1
     .exact absurd (by rw[ho1];simpa using hd1) h1
     exact .inl ⟨j,o',hj,ho1,hd1,hdir he h1⟩
    exact .inr fun j o' hj ho1 hd1=>hex ⟨j,o',hj,ho1,hd1⟩
  have hguard:∀j want d,o.guard=some (j,want)->(l.toArray[j]?).bind (·.dst)=some d->Rel g ((new++fr).get d) (a.tmps.getD d undef):=by
   intro j want d hg hj;have h1:=hgrd o (hmem i o him ho');rw[hg]at h1;have hDj:=hdir he h1;have hjm:j < m:=by
    rcases jAu j m with h2 | h2
    .exact h2
    rw[hge j h2]at hDj;cases hDj
   cases hoj:l[j]? with
   | none=>rw[jBk,hoj]at hj;cases hj
   | some o' =>
    rw[jBk,hoj]at hj;exact hslot d (.inl ⟨j,o',hjm,hoj,by simpa using hj,hDj⟩)
  have hafter:∀(g' :G) (v:Value) (d:Nat),o.dst=some d->Old (fun _=>False) g g' ->Wf g' ->g'.loc=g.loc->Rel g' c v->JD E l m cs fr σ K (upd D i) (a.put o.dst v) g'.w:=by
   intro g' v d hd hold hwf hloc hv;refine ⟨hcl',?_⟩;have hdN:d < E.N:=by
    rw[jAp]at hN;have:=hN o (hmem i o him ho');rw[hd]at this;exact jAf (by simpa using this)
   have hmono:∀c v,Rel g c v->Rel g' c v:=fun c v hr=>hr.mono hold.ext (fun k _=>by rw[hloc])
   have hso' :=hso.grow hold hwf (fun k _=>by rw[hloc]);have hget:∀d',(a.put o.dst v).tmps.getD d' undef=if d=d' then v else a.tmps.getD d' undef:=by
    intro d';rw[hd];simp only[Act.put];rw[k4a];by_cases h1:d=d'
    .rw[if_pos ⟨h1,by omega⟩,if_pos h1]
    rw[if_neg (fun x=>h1 x.1),if_neg h1]
   have hsz' :(a.put o.dst v).tmps.size=E.N:=by rw[hd];simp[Act.put,hsz]
   have hdf' :DokE E g'.w (a.put o.dst v).defers:=by rw[hd];exact hdf.mono hold.ext
   have hF0:∀d',(∀i o,i < m->l[i]? =some o->o.dst≠some d')->Rel g' (fr.get d') ((a.put o.dst v).tmps.getD d' undef):=by
    intro d' hno;rw[hget,if_neg (by rintro rfl;exact hno i o him ho' hd)];exact hmono _ _ (hf0 d' hno)
   have hFD:∀i' o' c' d',i' < m->upd D i i' =true->l[i']? =some o' ->cs[i']? =some c' ->o'.dst=some d' ->Rel g' c' ((a.put o.dst v).tmps.getD d' undef):=by
    intro i' o' c' d' hi' hD' h1 h2 h3;by_cases hii:i' =i
    .subst hii;rw[ho']at h1;cases h1;rw[hc]at h2;cases h2;rw[hd]at h3;cases h3;rw[hget,if_pos rfl];exact hv
    have hD1:D i' =true:=by unfold upd at hD';rwa [if_neg hii]at hD'
    have hne:d≠d' :=by
     rintro rfl;exact hdist' i' i o' o hi' him h1 ho' hii (h3.trans hd.symm)
    rw[hget,if_neg hne];exact hmono _ _ (hfD i' o' c' d' hi' hD1 h1 h2 h3)
   have hge' :∀i',m<=i' ->upd D i i' =false:=by
    intro i' hi';unfold upd;rw[if_neg (by omega)];exact hge i' hi'
   by_cases hex:∃i',i' < m/\upd D i i' =false
   .exact .inl ⟨g',rfl,hge',hex,hsz',hdf',hso',hF0,hFD⟩
   refine .inr ⟨m,jAm _,fun i' _=>⟨fun h1=>?_,fun h1=>?_⟩,hm,h.go g' _ ⟨fun d' =>?_,hsz',hdf',hso'⟩⟩
   .rcases jAu i' m with h2 | h2
    .exact h2
    rw[hge' i' h2]at h1;cases h1
   .cases h2:upd D i i' with
    | true=>rfl
    | false=>exact absurd ⟨i',h1,h2⟩ hex
   by_cases hex2:∃j o',j < m/\l[j]? =some o' /\o'.dst=some d'
   .obtain ⟨j,o',hj,h1,h2⟩:=hex2;obtain ⟨c',hc'⟩:∃c,cs[j]? =some c:=⟨cs[j]'(by omega),jAe (by omega)⟩;rw[hB j o' c' d' hj h1 hc' h2];refine hFD j o' c' d' hj ?_ h1 hc' h2;cases h3:upd D i j with
    | true=>rfl
    | false=>exact absurd ⟨j,hj,h3⟩ hex
   rw[hA d' (fun j o' hj h1 h2=>hex2 ⟨j,o',hj,h1,h2⟩)];exact hF0 d' (fun j o' hj h1 h2=>hex2 ⟨j,o',hj,h1,h2⟩)
  obtain ⟨d,hd⟩:∃d,o.dst=some d:=by
   have:=hsome o (hmem i o him ho');cases hd:o.dst with
   | none=>rw[hd]at this;cases this
   | some d=>exact ⟨d,rfl⟩
  unfold wpOpIn;rw[ho];simp only;rcases hp.get (i:=i) (by rw[htake i him];exact ho') hc with ⟨hg,hop⟩ | ⟨hg,rfl⟩
  .have hw:Region.wanted o (yielded l.toArray a.tmps)=true:=by
    cases hg with
    | plain h1=>simp[Region.wanted,h1]
    | @yes j d' want t h1 h2 h3 h4=>
     have hr:=hguard j want d' h1 h2;rw[h3]at hr;have hy:yielded l.toArray a.tmps j=some t:=by
      unfold yielded;rw[h2];simp only[jAc];have h5:=yka hr;cases hx:a.tmps[d']? with
      | none=>rw[jAg,hx]at h5;simp[undef]at h5
      | some x=>rw[jAg,hx]at h5;simp at h5;rw[h5]
     have h6:(yielded l.toArray a.tmps j==some want)=true:=by rw[hy,h4];cases want <;> rfl
     simp only[Region.wanted,h1,h6]
   simp only[hw,if_true];exact hop.go g a _ _ hops hso fun g' v h1 h2 h3 h4=>hafter g' v d hd h1 h2 h3 h4
  have hw:Region.wanted o (yielded l.toArray a.tmps)=false:=by
   cases hg with
   | @no j d' want t h1 h2 h3 h4=>
    have hr:=hguard j want d' h1 h2;rw[h3]at hr;have hy:yielded l.toArray a.tmps j=some t:=by
     unfold yielded;rw[h2];simp only[jAc];have h5:=yka hr;cases hx:a.tmps[d']? with
     | none=>rw[jAg,hx]at h5;simp[undef]at h5
     | some x=>rw[jAg,hx]at h5;simp at h5;rw[h5]
    have h6:(yielded l.toArray a.tmps j==some want)=false:=by rw[hy,h4];cases want <;> rfl
    simp only[Region.wanted,h1,h6]
   | @none j d' want h1 h2 h3=>
    have hr:=hguard j want d' h1 h2;rw[h3]at hr;have hy:yielded l.toArray a.tmps j=none:=by
     unfold yielded;rw[h2];simp only[jAc];cases hx:a.tmps[d']? with
     | none=>rfl
     | some x=>rw[jAg,hx]at hr;simp only[jCn]at hr;cases hr;rfl
    have h6:(yielded l.toArray a.tmps j==some want)=false:=by rw[hy];rfl
    simp only[Region.wanted,h1,h6]
  simp only[hw];exact ⟨fun _ _=>trivial,hafter g undef d hd (Old.refl _ g) hso.wf rfl (.tup rfl (fun i c hi=>by simp at hi))⟩
 have hil:i < l.length:=(jAd.1 ho').1;have his:s<=i:=by
  rcases jAu i s with h1 | h1
  .rw[(hs2 i hil).2 h1]at hDi;cases hDi
  exact h1
 have hsi:i=s:=by
  rcases jAu s i with h1 | h1
  .have:=hsuf' i o hcl (by omega) ho' he s h1;have:=(hs2 s (by omega)).1 this;omega
  omega
 subst hsi;have hdrop:l.drop i=o::l.drop (i+1):=by
  rw[jCg hil]
  congr 1
  exact (jAd.1 ho').2
 rw[hdrop]at hs4;unfold wpOpIn;rw[ho];simp only[wpListIn]at hs4 ⊢;have hJ' :∀a' w',wpListIn (fen E.rd) 0 E.P l.toArray (Ends E K) (l.drop (i+1)) a' w' ->JD E l m cs fr σ K (upd D i) a' w' :=by
  intro a' w' hw';refine ⟨hcl',.inr ⟨i+1,by omega,fun i' hi' =>?_,by omega,hw'⟩⟩;unfold upd;split
  .rename_i hii;subst hii;simp
  rename_i hii;rw[hs2 i' hi'];omega
 split
 .rename_i hw;rw[if_pos hw]at hs4;exact Oper.wpIn_mono hJ' hs4
 rename_i hw;rw[if_neg hw]at hs4;exact ⟨hs4.1,hJ' _ _ hs4.2⟩
end
section
open Go.RowKit Go.Lib
variable {E:Env} {fr:Fr} {σ:Sto} {K:Post}
variable {dst:Option Tmp} {ty:TypeId} {pos:String} {af:Array Edge} {gu:Option (Nat × Bool)}
theorem y7b{o:Oper}{d:Nat}{c:AV}(hd:o.dst=some d)(hN:Nat.ble (d+1) E.N=true)(h:OpG E o fr σ c):OpTo E o fr σ ((d,c)::fr) σ:=
 ⟨fun g a K Q hst hK=>h.go g a K Q (fun x _=>hst.ev x) hst.so fun g' v ho hw hl hv=>by
  rw[hd];exact hK g' _ ((hst.grow ho hw (fun k _=>by rw[hl])).put (jAf hN) hv)⟩
structure OpGN (E:Env) (o:Oper) (fr:Fr) (σ:Sto) (c:AV):Prop where
 go:∀g a (K:Act->World->Prop) (Q:Exit->Act->World->Prop),(∀x∈o.op.operands,Rel g (fr.ev x) (a.eval x))->Sok E.S E.g0 g σ->(∀g' v,Old (fun _=>False) g g' ->Wf g' ->g'.loc=g.loc->Rel g' c v->(∃n cp,v=.slice (some ⟨g.w.heap.size,0,none⟩) n cp)->K (a.put o.dst v) g'.w)->o.wpIn (fen E.rd) 0 E.P a g.w K Q
theorem OpGN.g{E:Env}{o:Oper}{fr:Fr}{σ:Sto}{c:AV}(h:OpGN E o fr σ c):OpG E o fr σ c:=⟨fun g a K Q hx hs hK=>h.go g a K Q hx hs fun g' v h1 h2 h3 h4 _=>hK g' v h1 h2 h3 h4⟩
section
variable {α:Type} {F:α->List PV} {l:List α} {size bytes sb ss k n:Nat} {e t:TypeId} {zero sz:Value} {d:TypeDesc}
theorem Vda{ps:List (Nat × Operand)}(ht:TyOk E.P t ss sb sz (.slice e))(he:TyOk E.P e size bytes zero d)(hzs:(Nat.beq zero.cells.size size && Nat.ble 1 size && zero.cells.toList.all cellV)=true)(hF:∀x,(F x).length=size)(hln:Nat.beq l.length n && Nat.ble (n * size) 16777216)
 (hc:Jja (fun i=>some (i * size,size)) (List.replicate (n * size) .any) (ps.map fun p=>(p.1,(fr.ev p.2).weak))=some (l.flatMap fun x=>(F x).map AV.pv)):
 OpGN E ⟨dst,.buildSlice t n ps.toArray,ty,pos,af,gu⟩ fr σ (.l F l):=
 ⟨fun g a K Q hx0 hso hK=>by
  simp only[jAn]at hzs hln;have hz1:=jAl hzs.1.1;have hz2:=jAf hzs.1.2;have hn1:=jAl hln.1;have hn2:=jAf hln.2;subst hn1;refine ⟨fun _ _=>trivial,?_⟩;rw[jAz _ _ _ (fun c=>by simp)];generalize hzero:(if l.length * size=0 then #[] else zero.cells)=zc;generalize harr:((Array.range (l.length * size)).map (fun i=>zc[i % zc.size]!))=arr;have hasz:arr.size=l.length * size:=by rw[<-harr];simp
  have hacell:∀i,i < arr.size->cellV (arr.getD i undef)=true:=by
   intro i hi;rw[hasz]at hi;have hne:l.length * size≠0:=by omega
   rw[if_neg hne]at hzero;subst hzero;have hlt:i % zero.cells.size < zero.cells.size:=Nat.mod_lt _ (by omega);have:arr.getD i undef=zero.cells[i % zero.cells.size]:=by
    rw[<-harr];simp[hi,hlt]
   rw[this];have h3:=hzs.2;rw[jAp]at h3;exact h3 _ (by simp)
  obtain ⟨out,h1,h2⟩:=Yma (g:=g) (ps.map fun p=>(p.1,(fr.ev p.2).weak)) (ps.map fun p=>(p.1,a.eval p.2)) (List.replicate (l.length * size) .any) arr (l.flatMap fun x=>(F x).map AV.pv)
   ⟨by grind,hacell,fun i c hi=>by
    have:=jAi hi;rw[List.mem_replicate]at this;rw[this.2];exact .any _⟩ (by simp) (fun i p v hp hv=>by
   simp only[jAk,jAh]at hp hv;obtain ⟨q,hq,rfl⟩:=hp;obtain ⟨q',hq',rfl⟩:=hv;rw[hq]at hq';cases hq';exact ⟨rfl,qUa (hx0 q.2 (by simp only[Op.operands,List.mem_toArray,jCe];grind))⟩) hc
  have hrun:(execOp a.eval ⟨dst,.buildSlice t l.length ps.toArray,ty,pos,af,gu⟩).run E.P g.w=.ok (.value (.slice (some ⟨g.w.heap.size,0,none⟩) l.length l.length)) (g.w.alloc (.cells out e)):=by
   show Sem.run E.P (do let v <-Instr.buildSlice t l.length (ps.toArray.map fun (i,x)=>(i,a.eval x));pure (Next.value v)) g.w=_;have e1:(ps.toArray.map fun (x:Nat × Operand)=>(x.1,a.eval x.2)).toList=ps.map fun p=>(p.1,a.eval p.2):=by simp
   have hgt:¬(l.length * size > 2 ^ 24):=by simp;omega
   by_cases h0:l.length * size=0
   .rw[if_pos h0]at hzero;subst hzero;simp only[Instr.buildSlice,underlying,program,jAr,Sem.run,ht.u,he.sizeOf,jAo,jAv,if_neg hgt,if_pos h0,e1,harr,h1];rfl
   rw[if_neg h0]at hzero;subst hzero;simp only[Instr.buildSlice,underlying,program,jAr,Sem.run,ht.u,he.sizeOf,jAo,jAv,if_neg hgt,if_neg h0,he.zeroValue,e1,harr,h1];rfl
  rw[hrun,jBf];have hosz:out.size=l.length * size:=by rw[h2.n,QOa hF]
  have hold:=yEa g out e (l.length * size) 0 (g.loc 0);have hwf:=WYa hso.wf out e (l.length * size) 0 (g.loc 0);have hloc:∀q,(g.alloc out e (l.length * size) 0 (g.loc 0)).loc q=g.loc q:=fun q=>by show (if q=0 then g.loc 0 else g.loc q)=g.loc q;simp_all
  refine hK _ _ hold hwf (funext hloc) (rel_new (g:=g) (out:=out) hF (jBm hosz.symm) (jAm _) ?_ ?_ (if_pos rfl) ?_) ⟨_,_,rfl⟩
  .rw[show (g.alloc out e (l.length * size) 0 (g.loc 0)).w.heap[g.w.heap.size]? =some (.cells out e (0,0)) from heap_alloc_new _ _];simp
  .intro i hi;exact kda (heap_alloc_new _ _) hi
  intro i j x c hi hj;have:=h2.r _ _ (Zva hF l i j x c hi hj);cases this with
  | pv h=>exact h.mono hold.ext⟩
theorem yba{ps:List (Nat × Operand)}(ht:TyOk E.P t ss sb sz (.slice e))(he:TyOk E.P e size bytes zero d)(hzs:(Nat.beq zero.cells.size size && Nat.ble 1 size && zero.cells.toList.all cellV)=true)(hF:∀x,(F x).length=size)(hln:Nat.beq l.length n && Nat.ble (n * size) 16777216)
 (hc:Jja (fun i=>some (i * size,size)) (List.replicate (n * size) .any) (ps.map fun p=>(p.1,(fr.ev p.2).weak))=some (l.flatMap fun x=>(F x).map AV.pv)):
 OpG E ⟨dst,.buildSlice t n ps.toArray,ty,pos,af,gu⟩ fr σ (.l F l):=(Vda ht he hzs hF hln hc).g
end
end
section
open Go.RowKit Go.Lib
variable {E:Env} {fr:Fr} {σ:Sto} {K:Post}
inductive Keep (fr:Fr):Fr->Prop
 | nil:Keep fr []
 | cons {k:Nat} {c:AV} {l:Fr} (h:fr.get k=c) (hr:Keep fr l):Keep fr ((k,c)::l)
def holds(base:Nat)(T:Array Value):Fr->Sto
 | []=>[]
 | (d,c)::l=>(base+d,.hold c (T.getD d undef))::holds base T l
inductive Held (σ:Sto) (base:Nat) (T:Array Value):Fr->Prop
 | nil:Held σ base T []
 | cons {d:Nat} {c:AV} {l:Fr} (h:σ.get (base+d)=some (.hold c (T.getD d undef))) (hr:Held σ base T l):Held σ base T ((d,c)::l)
theorem St.addHold{g:G}{a:Act}(h:St E g a fr σ)(id:Nat){c:AV}{v:Value}(hr:Rel g c v):St E g a fr ((id,.hold c v)::σ):=by
 have hget:∀o ob,Sto.get ((id,.hold c v)::σ) o=some ob->ob=.hold c v∨σ.get o=some ob:=by
  intro o ob hg;rw[Sto.get_cons]at hg;split at hg
  .simp_all
  simp_all
 refine ⟨h.fr,h.n,h.df,⟨fun o ob ho=>?_,fun o o' ob ob' b h1 h2 h3 h4=>?_,fun o ob b h1 h2=>?_,h.so.old,h.so.wf⟩⟩
 .rcases hget o ob ho with rfl | h1
  .exact .hold hr
  exact h.so.obj o ob h1
 .rcases hget o ob h1 with rfl | h1
  .cases h3
  rcases hget o' ob' h2 with rfl | h2
  .cases h4
  exact h.so.apart o o' ob ob' b h1 h2 h3 h4
 rcases hget o ob h1 with rfl | h1
 .cases h2
 exact h.so.mine o ob b h1 h2
theorem St.addSus{g:G}{a:Act}(h:St E g a fr σ)(id B:Nat){ds:List Deferred}(hr:Dok B g.w ds):St E g a fr ((id,.sus B ds)::σ):=by
 have hget:∀o ob,Sto.get ((id,.sus B ds)::σ) o=some ob->ob=.sus B ds∨σ.get o=some ob:=by
  intro o ob hg;rw[Sto.get_cons]at hg;split at hg
  .simp_all
  simp_all
 refine ⟨h.fr,h.n,h.df,⟨fun o ob ho=>?_,fun o o' ob ob' b h1 h2 h3 h4=>?_,fun o ob b h1 h2=>?_,h.so.old,h.so.wf⟩⟩
 .rcases hget o ob ho with rfl | h1
  .exact .sus hr
  exact h.so.obj o ob h1
 .rcases hget o ob h1 with rfl | h1
  .cases h3
  rcases hget o' ob' h2 with rfl | h2
  .cases h4
  exact h.so.apart o o' ob ob' b h1 h2 h3 h4
 rcases hget o ob h1 with rfl | h1
 .cases h2
 exact h.so.mine o ob b h1 h2
theorem St.addHolds{g:G}{a:Act}{keep:Fr}(h:St E g a fr σ)(base:Nat)(hk:Keep fr keep):St E g a fr (holds base a.tmps keep++σ):=by
 induction hk with
 | nil=>exact h
 | @cons k c l h1 hr ih=>exact ih.addHold (base+k) (by have:=h.fr k;simp_all)
theorem K8a{g:G}{base:Nat}{T:Array Value}{fr' :Fr}(hs:∀o ob,σ.get o=some ob->RelO g o ob)(h:Held σ base T fr'):∀d,Rel g (fr'.get d) (T.getD d undef):=by
 induction h with
 | nil=>exact fun d=>.any _
 | @cons d c l h1 hr ih=>
  intro e;rw[Fr.get_cons];split
  .rename_i he;subst he;cases hs _ _ h1 with
   | hold h2=>exact h2
  simp_all
theorem St.frame{E' :Env}{g:G}{a a' :Act}{fr' :Fr}(h:St E g a fr σ)(hS:E'.S=E.S)(hg:E'.g0=E.g0)(hf:∀d,Rel g (fr'.get d) (a'.tmps.getD d undef))(hn:a'.tmps.size=E'.N)(hd:DokE E' g.w a'.defers):St E' g a' fr' σ:=
 ⟨hf,hn,hd,by rw[hS,hg];exact h.so⟩
structure Wta (E:Env) (ops:Array Oper) (o:Oper) (fr:Fr) (σ:Sto):Prop where
 go:∀g a,St E g a fr σ->Region.wanted o (yielded ops a.tmps)=true
theorem z1a{ops:Array Oper}{o:Oper}(hg:o.guard=none):Wta E ops o fr σ:=⟨fun g a hs=>by simp[Region.wanted,hg]⟩
theorem q3b{gu:Option (Nat × Bool)}{ops rest}{k f:Nat}{fn:Func}{c:Code}{fx:Operand}{xs:List Operand}{ats:Array TypeId}{ty:TypeId}{pos:String}{af:Array Edge}{first cap args:List AV}(base sid:Nat)(keep:Fr)(hw:Wta E ops ⟨some k,.call ⟨.value fx,xs.toArray,ats⟩,ty,pos,af,gu⟩ fr σ)(hf:fr.ev fx=.fn (.func f) first cap)(hok:FnOk E.P f fn c)
 (hN:(Nat.ble (k+1) E.N && Nat.ble args.length fn.ntmps)=true) (ha:first++xs.map fr.ev++cap=args) (hk:Keep fr keep)
 (h:∀(T:Array Value) (ds:List Deferred),T.size=E.N->AWP ⟨E.P,none,E.g0,fn.ntmps,true,E.gl,E.S,E.sg⟩ c (z0a 0 args) ((sid,.sus E.g0.w.heap.size ds)::(holds base T keep++σ))
  (fun e fr' σ' =>(e=.ret∨e=.normal)/\∃cs fr'' σ'',ResL E.P fr' σ' fn.results.toList cs/\Held σ' base T fr'' /\σ'.get sid=some (.sus E.g0.w.heap.size ds)/\zTa σ' σ'' /\AWPL E ops rest ((k,retI cs)::fr'') σ'' K)):
 AWPL E ops (⟨some k,.call ⟨.value fx,xs.toArray,ats⟩,ty,pos,af,gu⟩::rest) fr σ K:=
 ⟨fun g a hst=>by
  simp only[jAn]at hN;have hk1:=jAf hN.1;have hN2:=jAf hN.2;have hw:=hw.go g a hst;simp only[wpListIn,hw,if_true];refine ⟨fun _ _=>trivial,?_⟩;have hfv:=hst.ev fx;rw[hf]at hfv;generalize hev:a.eval fx=fv at hfv;cases hfv with
  | @fn _ _ _ firstV capV l1 l2 r1 r2=>
   rw[jAz _ _ _ (fun c=>by simp),vFa hok hev,jDd];refine ⟨fun h=>by simp[fen]at h,?_⟩;have hargs:wma g args (firstV++xs.toArray.map a.eval++capV):=by
    subst ha;refine ⟨by simp_all,fun i c' hi=>?_⟩;rw[jAg];rcases jAu i (first.length+xs.length) with hlt | hge
    .rw[jAw (by simp_all)];rw[jAy (by grind)]at hi;rcases jAu i first.length with hlt2 | hge2
     .rw[jAw (by omega),<-jAg]
      grind
     rw[jCs (by omega),l1];rw[jAq hge2]at hi;simp only[jAk,jAh]at hi;obtain ⟨x,hx,rfl⟩:=hi;have:=hst.ev x
     simp_all
    rw[jCs (by simp_all)];rw[jAq (by grind)]at hi
    simp_all
   obtain ⟨hsz,ha'⟩:=hargs;refine vEa (callsIn_of_wp hok.f hok.b trivial ?_);have hst1:=(hst.addHolds base hk).addSus sid E.g0.w.heap.size hst.df.ok;refine wpIn_mono ((h a.tmps a.defers hst.n).go g _ (hst1.frame (E' :=⟨E.P,none,E.g0,fn.ntmps,true,E.gl,E.S,E.sg⟩) rfl rfl (fun d=>?_) (by grind) ⟨Dok.nil _ _,fun _=>rfl⟩)) ?_
   .rw[q9a];simp only[jBi,if_true,jDp];cases hc:args[d]? with
    | none=>exact .any _
    | some c' =>
     have hlt:d < (firstV++xs.toArray.map a.eval++capV).size:=by rw[hsz];exact (jAd.1 hc).1
     have:=ha' d c' hc;rw[jAg,jAw hlt,<-jAg]
     grind
   rintro e a2 w' ⟨g',fr',σ',rfl,hst',he,cs,fr'',σ'',hres,hheld,hsus,hle,hrest⟩;obtain ⟨v,h1,h2⟩:=Wna (P:=E.P) hres hst'.fr (fun k cs hk=>hst'.so.obj k _ hk);have hd0:a2.defers=[]:=hst'.df.no rfl;have hdok:Dok E.g0.w.heap.size g'.w a.defers:=by
    cases hst'.so.obj sid _ hsus with
    | sus h3=>exact h3
   have hstc:St E g' a fr'' σ' :=hst'.frame (E' :=E) rfl rfl (K8a hst'.so.obj hheld) hst.n ⟨hdok,hst.df.no⟩;have hfin:=hrest.go g' _ ((hstc.le kza hle).put hk1 h2);rcases he with rfl | rfl
   .exact ⟨hd0,v,h1,hfin⟩
   exact ⟨hd0,v,h1,hfin⟩⟩
end
section
open Go.RowKit Go.Lib
variable {E:Env} {fr:Fr} {σ:Sto} {K:Post}
theorem St.addObj{g g' :G}{a:Act}(h:St E g a fr σ)(id:Nat){ob:AO}(hf:fr.has id=false)(hs:σ.has id=false)(hold:Old (fun _=>False) g g')(hwf:Wf g')(hloc:∀k,k≠id->g'.loc k=g.loc k)(hob:RelO g' id ob)
 (hnew:∀b,ob.own (g'.loc id) b->g.w.heap.size<=b):St E g' a fr ((id,ob)::σ):=by
 have hget:∀o ob',Sto.get ((id,ob)::σ) o=some ob' ->(o=id/\ob' =ob)∨(o≠id/\σ.get o=some ob'):=by
  intro o ob' hg;rw[Sto.get_cons]at hg;split at hg
  .simp_all
  grind
 refine ⟨fun d=>(h.fr d).mono hold.ext fun k hk=>hloc k ?_,h.n,h.df.mono hold.ext,⟨?_,?_,?_,h.so.old.trans (hold.mono (by simp_all)),hwf⟩⟩
 .rintro rfl;rw[Fr.has_get hk]at hf;cases hf
 .intro o ob' hg;rcases hget o ob' hg with ⟨rfl,rfl⟩ | ⟨hne,hg1⟩
  .omega
  refine (h.so.obj o ob' hg1).mono hold.ext (hloc o hne) (fun k hk=>hloc k ?_) fun b hb=>hold.block b ((h.so.obj o ob' hg1).block_lt hb) (by simp)
  rintro rfl;rw[Sto.has_get hg1 hk]at hs;cases hs
 .intro o o' ob1 ob2 b h1 h2 h3 h4;rcases hget o ob1 h1 with ⟨rfl,rfl⟩ | ⟨hne,hg⟩ <;> rcases hget o' ob2 h2 with ⟨rfl,rfl⟩ | ⟨hne',hg'⟩
  .rfl
  .rw[hloc o' hne']at h4;have:=(h.so.obj o' ob2 hg').block_lt h4
   grind
  .rw[hloc o hne]at h3;have:=(h.so.obj o ob1 hg).block_lt h3
   grind
  rw[hloc o hne]at h3;rw[hloc o' hne']at h4;exact h.so.apart o o' ob1 ob2 b hg hg' h3 h4
 intro o ob1 b h1 h2;rcases hget o ob1 h1 with ⟨rfl,rfl⟩ | ⟨hne,hg⟩
 .exact .inl (jAt h.so.old.ext.size (hnew b h2))
 rw[hloc o hne]at h2;exact h.so.mine o ob1 b hg h2
theorem St.lpset{g:G}{a:Act}{o b:Nat}{L L' :Loop}(h:St E g a fr σ)(ho:σ.get o=some (.lp b L)):g.w.heap[b]? =some (.loop L)/\St E ⟨{g.w with heap:=g.w.heap.setIfInBounds b (.loop L')},g.u,g.loc⟩ a fr (σ.upd o (.lp b L')):=by
 cases h.so.obj o _ ho with
 | lp hl hb=>
  refine ⟨hb,?_⟩;have hbl:=zVa hb;generalize hw:({g.w with heap:=g.w.heap.setIfInBounds b (.loop L')}:World)=w';have hheap:∀k,k≠b->w'.heap[k]? =g.w.heap[k]? :=fun k hk=>by grind
  have hnew:w'.heap[b]? =some (.loop L'):=by subst hw;exact Array.getElem?_setIfInBounds_self_of_lt hbl
  have hsz:w'.heap.size=g.w.heap.size:=by subst hw;simp
  have hx:Ext g.w g.u w' g.u:=⟨jBm hsz.symm,fun _ _=>jAm _,fun k i hk hi=>by
   by_cases hkb:k=b
   .subst hkb;simp[World.cell?,hb,hnew]
   simp only[World.cell?];grind,fun r hr=>(hheap r (by grind)).trans hr⟩
  have hget:=Sto.get_upd (ob:=.lp b L') ho;have hsome:∀k ob,(σ.upd o (.lp b L')).get k=some ob->∃ob',σ.get k=some ob' /\∀l,ob'.own l=ob.own l:=by
   intro k ob hk;rw[hget]at hk;split at hk
   .rename_i hko;cases hk;exact ⟨.lp b L,hko▸ho,fun _=>rfl⟩
   simp_all
  refine ⟨fun d=>(h.fr d).mono (g' :=⟨w',g.u,g.loc⟩) hx (fun _ _=>rfl),h.n,h.df.mono hx,⟨?_,fun k k' ob ob' b' h1 h2=>?_,fun k ob b' h1=>?_,?_,?_⟩⟩
  .intro k ob hk;rw[hget]at hk;split at hk
   .rename_i hko;subst hko;cases hk;exact .lp hl hnew
   rename_i hko;refine (h.so.obj k ob hk).mono (g' :=⟨w',g.u,g.loc⟩) hx rfl (fun _ _=>rfl) fun b' hb' =>⟨hheap b' ?_,rfl⟩
   rintro rfl;exact hko (h.so.apart k o ob _ b' hk ho hb' (by rw[hl];rfl))
  .obtain ⟨_,e1,q1⟩:=hsome k _ h1;obtain ⟨_,e2,q2⟩:=hsome k' _ h2;rw[<-q1,<-q2];exact h.so.apart k k' _ _ b' e1 e2
  .obtain ⟨_,e1,q1⟩:=hsome k _ h1;rw[<-q1];exact h.so.mine k _ b' e1
  .refine h.so.old.trans ⟨by grind,by grind,by grind,hx,fun k hk hs=>⟨hheap k ?_,rfl⟩⟩;rintro rfl;rcases h.so.mine o _ k ho (by rw[hl];rfl) with h1 | h1
   all_goals simp_all
  intro k hk;exact h.so.wf k (by simp_all)
theorem QPa{P:Program}{w:World}{b:Nat}{L:Loop}(h:w.heap[b]? =some (.loop L)):(Instr.getLoop b).run P w=.ok L w:=by
 simp[Instr.getLoop,getObj,Sem.run,h]
theorem QQa{P:Program}{w:World}{b:Nat}{L L' :Loop}(h:w.heap[b]? =some (.loop L)):(setObj b (.loop L')).run P w=.ok () {w with heap:=w.heap.setIfInBounds b (.loop L')}:=by
 simp[setObj,Sem.run,h]
theorem y8b{lid base:Nat}{T:Array Value}{keep:Fr}(hk:Keep fr keep)(hfr:fr.has lid=false):Sto.has lid (holds base T keep++σ)=σ.has lid:=by
 induction hk with
 | nil=>rfl
 | @cons k c l h hr ih=>
  have hc:c.has lid=false:=by
   cases hh:c.has lid with
   | false=>rfl
   | true=>rw[Fr.has_get (fr:=fr) (d:=k) (by simp_all)]at hfr;omega
  show (AO.has lid (.hold c _) || Sto.has lid (holds base T l++σ))=_;rw[ih];simp[AO.has,hc]
theorem y9b{fx:Operand}{ps:Array Tmp}{assign body:Code}{f0:FuncId}{fn0:Func}{c0:Code}{cap args:List AV}(base lid sid:Nat)(keep:Fr)(hnd:E.nd=false)(hrd:E.rd=none)(hf:fr.ev fx=.fn (.func f0) [] cap)(hok:FnOk E.P f0 fn0 c0)
 (hres:fn0.results= #[]) (hN:Nat.ble (cap.length+1) fn0.ntmps=true) (hfr:fr.has lid=false) (hso:σ.has lid=false) (hcap:AV.hasL lid cap=false) (hk:Keep fr keep)
 (h:∀(T:Array Value) (b fid dfb:Nat) (ds:List Deferred),T.size=E.N->AWP ⟨E.P,none,E.g0,fn0.ntmps,true,E.gl,E.S,E.sg⟩ c0 (z0a 0 (.fn (.yield b) [] []::cap)) ((sid,.sus E.g0.w.heap.size ds)::(lid,.lp b ⟨.ready,none,fid,T,ps,assign,body,dfb⟩)::(holds base T keep++σ))
  (fun e _ σ' =>(e=.ret∨e=.normal)/\∃L' fr'' σ'',σ'.get lid=some (.lp b L')/\(L'.state==.busy)=false/\Held (σ'.upd lid (.lp b {L' with state:=.exhausted})) base T fr'' /\(σ'.upd lid (.lp b {L' with state:=.exhausted})).get sid=some (.sus E.g0.w.heap.size ds)/\
   zTa (σ'.upd lid (.lp b {L' with state:=.exhausted})) σ'' /\(match L'.pending with | none=>K .normal fr'' σ'' | some c=>AWP E c fr'' σ'' K))):
 AWP E (.rangeFunc fx ps assign body) fr σ K:=
 ⟨fun g a hst=>by
  refine wpIn_rangeFunc fun fid _=>?_
  have hfv:=hst.ev fx;rw[hf]at hfv;generalize hev:a.eval fx=fv at hfv;cases hfv with
  | @fn _ _ _ firstV capV l1 l2 r1 r2=>
   have hfirst:firstV= #[]:=jBw (by omega);subst hfirst;generalize hL:(⟨.ready,none,fid,a.tmps,ps,assign,body,g.w.heap.size⟩:Loop)=L;have e1:(Instr.enterLoop fid a.tmps ps assign body (fen E.rd).round).run E.P g.w=.ok (g.w.heap.size+1,[⟨.collected g.w.heap.size, #[]⟩]) ((g.w.alloc (.deferred (some []))).alloc (.loop L)):=by
    rw[hrd,<-hL];simp[fen,Instr.enterLoop,newObj,Sem.run,World.alloc_eq]
   have e2:(resolve a.eval (rangeCall fx (g.w.heap.size+1)) 0).run E.P ((g.w.alloc (.deferred (some []))).alloc (.loop L))=.ok ⟨.fn (.func f0) capV, #[.func (.yield (g.w.heap.size+1)) #[] #[]]⟩ ((g.w.alloc (.deferred (some []))).alloc (.loop L)):=by
    have h1:(#[Operand.const (Value.func (.yield (g.w.heap.size+1)) #[] #[])].map a.eval)= #[.func (.yield (g.w.heap.size+1)) #[] #[]]:=by simp[Act.eval]
    simp only[resolve,rangeCall,h1,hev,Deferred.ofValue,jAv];rfl
   have e3:(invoke (.fn (.func f0) capV) #[.func (.yield (g.w.heap.size+1)) #[] #[]]).run E.P ((g.w.alloc (.deferred (some []))).alloc (.loop L))=.ok (.enter f0 (#[.func (.yield (g.w.heap.size+1)) #[] #[]]++capV)) ((g.w.alloc (.deferred (some []))).alloc (.loop L)):=Wma hok _ _;refine ⟨_,_,_,_,_,f0,_,_,e1,e2,fun _ _=>trivial,e3,fun h=>by simp[fen]at h,?_⟩;generalize hw1:(g.w.alloc (.deferred (some []))).alloc (.loop L)=w1;have hs1:w1.heap.size=g.w.heap.size+2:=by subst hw1;simp
   have hold1:∀k,k < g.w.heap.size->w1.heap[k]? =g.w.heap[k]? :=by
    intro k hk;subst hw1;rw[Below.heap_alloc _ _ _ (by simp;omega),Below.heap_alloc _ _ _ hk]
   have hdf1:w1.heap[g.w.heap.size]? =some (.deferred (some [])):=by
    subst hw1;rw[Below.heap_alloc _ _ _ (by simp)];exact heap_alloc_new _ _
   have hlp1:w1.heap[g.w.heap.size+1]? =some (.loop L):=by
    subst hw1;have:=heap_alloc_new (g.w.alloc (.deferred (some []))) (.loop L);simpa using this
   have hold:Old (fun _=>False) g ⟨w1,g.u,fun k=>if k=lid then .map (g.w.heap.size+1) else g.loc k⟩:=by
    refine ⟨by subst hw1;rfl,by subst hw1;rfl,by subst hw1;rfl,⟨by simp_all,fun _ _=>jAm _,fun k i hk _=>?_,fun r hr=>(hold1 r (zVa hr)).trans hr⟩,fun k hk _=>⟨hold1 k hk,rfl⟩⟩;simp only[World.cell?];rw[hold1 k hk]
   have hwf:Wf ⟨w1,g.u,fun k=>if k=lid then .map (g.w.heap.size+1) else g.loc k⟩:=fun k hk=>hst.so.wf k (by grind)
   have hst0:=(hst.addHolds base hk);have hsoh:Sto.has lid (holds base a.tmps keep++σ)=false:=by rw[y8b hk hfr];exact hso
   have hst1:=hst0.addObj lid (ob:=.lp (g.w.heap.size+1) L) hfr hsoh hold hwf (fun k hk=>if_neg hk) (.lp (if_pos rfl) hlp1) (fun b hb=>by
    simp only[AO.own,if_true,Loc.block]at hb
    grind)
   have hdok:Dok E.g0.w.heap.size w1 (⟨.collected g.w.heap.size, #[]⟩::a.defers):=by
    obtain ⟨bs,h1,h2,h3⟩:=hst.df.ok;refine ⟨g.w.heap.size::bs,by simp_all,List.nodup_cons.2 ⟨fun hx=>?_,h2⟩,fun r hr=>?_⟩
    .grind
    rcases jDl.1 hr with rfl | hr
    .exact ⟨hst.so.old.ext.size,hdf1⟩
    grind
   have hst2:=hst1.addSus sid E.g0.w.heap.size (ds:=⟨.collected g.w.heap.size, #[]⟩::a.defers) hdok;have hN:=jAf hN;refine callsIn_of_wp hok.f hok.b trivial ?_ hrd;subst hL;have hrdE:(fen E.rd)=fen none:=by rw[hrd]
   rw[hrdE];refine wpIn_mono ((h a.tmps (g.w.heap.size+1) fid g.w.heap.size (⟨.collected g.w.heap.size, #[]⟩::a.defers) hst.n).go ⟨w1,g.u,fun k=>if k=lid then .map (g.w.heap.size+1) else g.loc k⟩ _ (hst2.frame (E' :=⟨E.P,none,E.g0,fn0.ntmps,true,E.gl,E.S,E.sg⟩) rfl rfl (fun d=>?_) (by grind) ⟨Dok.nil _ _,fun _=>rfl⟩)) ?_
   .rw[q9a];simp only[jBi,if_true,jDp];cases d with
    | zero=>
     simp only[List.getElem?_cons_zero,jCn];have hval:((#[Value.func (.yield (g.w.heap.size+1)) #[] #[]]++capV)++Array.replicate (fn0.ntmps - (#[Value.func (.yield (g.w.heap.size+1)) #[] #[]]++capV).size) undef).getD 0 undef=.func (.yield (g.w.heap.size+1)) #[] #[]:=by
      rw[jAg,jAw (by grind),jAw (by simp)];rfl
     rw[hval];exact .fn rfl rfl (fun i c h=>by grind) (fun i c h=>by grind)
    | succ d=>
     simp only[List.getElem?_cons_succ];cases hc:cap[d]? with
     | none=>exact .any _
     | some c' =>
      have hlt:d < capV.size:=by rw[l2];exact (jAd.1 hc).1
      have:=(r2 d c' hc).mono hold.ext (fun k hkk=>if_neg (by rintro rfl;rw[AV.hasL_of hc hkk]at hcap;grind));rw[jAg,jAw (by grind),jCs (by simp)]
      simp_all
   rintro e a2 w' ⟨g',fr',σ',rfl,hst',he,L',fr'',σ'',hlp,hbusy,hheld,hsus,hle,hcont⟩;have hd0:a2.defers=[]:=hst'.df.no rfl;obtain ⟨hb',hst4⟩:=hst'.lpset (L' :={L' with state:=.exhausted}) hlp;have hend:(Instr.endLoop (g.w.heap.size+1)).run E.P g'.w=.ok L'.pending {g'.w with heap:=g'.w.heap.setIfInBounds (g.w.heap.size+1) (.loop {L' with state:=.exhausted})}:=by
    simp only[Instr.endLoop,jAr,QPa hb',jAo];rw[if_neg (by simp_all)];simp[QQa hb']
   have hresrun:(results fn0 a2.tmps).run E.P g'.w=.ok (.tuple #[]) g'.w:=by
    simp[results,hres]
   have hdok4:Dok E.g0.w.heap.size {g'.w with heap:=g'.w.heap.setIfInBounds (g.w.heap.size+1) (.loop {L' with state:=.exhausted})} (⟨.collected g.w.heap.size, #[]⟩::a.defers):=by
    cases hst4.so.obj sid _ hsus with
    | sus h3=>exact h3
   have hstc:St E _ {a with defers:=[⟨.collected g.w.heap.size, #[]⟩]++a.defers} fr'' _:=hst4.frame (E' :=E) rfl rfl (K8a hst4.so.obj hheld) hst.n ⟨hdok4,fun hx=>by simp_all⟩;have hfin:rangePost (fen none) 0 E.P (g.w.heap.size+1) (Ends E K) {a with defers:=[⟨.collected g.w.heap.size, #[]⟩]++a.defers} (.returned (.tuple #[])) g'.w:=by
    refine ⟨L'.pending,_,hend,?_⟩;have aux:∀pd:Option Code,(match pd with | none=>K .normal fr'' σ'' | some c=>AWP E c fr'' σ'' K)->(match pd with
     | none=>Ends E K .normal {a with defers:=[⟨.collected g.w.heap.size, #[]⟩]++a.defers} {g'.w with heap:=g'.w.heap.setIfInBounds (g.w.heap.size+1) (.loop {L' with state:=.exhausted})}
     | some c=>c.wpIn (fen none) 0 E.P (Ends E K) {a with defers:=[⟨.collected g.w.heap.size, #[]⟩]++a.defers} {g'.w with heap:=g'.w.heap.setIfInBounds (g.w.heap.size+1) (.loop {L' with state:=.exhausted})}):=by
     intro pd hc;cases pd with
     | none=>exact ⟨_,fr'',σ'',rfl,hstc.le kza hle,hc⟩
     | some c=>
      have:=hc.go _ _ (hstc.le kza hle)
      simp_all
    exact aux _ hcont
   rcases he with rfl | rfl
   .exact ⟨hd0,_,hresrun,hfin⟩
   exact ⟨hd0,_,hresrun,hfin⟩⟩
end
section
open Go.RowKit Go.Lib
variable {E:Env} {fr:Fr} {σ:Sto} {K:Post}
def q4b:List Nat->List AV->Fr->Fr
 | p::ps,c::cs,fr=>q4b ps cs ((p,c)::fr)
 | _,_,fr=>fr
def setT:List Nat->List Value->Array Value->Array Value
 | p::ps,v::vs,t=>setT ps vs (t.setIfInBounds p v)
 | _,_,t=>t
theorem setT_eq(ps:List Nat)(vs:List Value)(t:Array Value):(ps.zip vs).foldl (fun t (x:Nat × Value)=>t.setIfInBounds x.1 x.2) t=setT ps vs t:=by
 induction ps generalizing vs t with
 | nil=>simp[setT]
 | cons p ps ih=>
  cases vs with
  | nil=>simp[setT]
  | cons v vs=>simp only[List.zip_cons_cons,List.foldl_cons];rw[ih];rfl
theorem jab(ps:List Nat)(vs:List Value)(t:Array Value):(setT ps vs t).size=t.size:=by
 induction ps generalizing vs t with
 | nil=>simp[setT]
 | cons p ps ih=>
  cases vs with
  | nil=>simp[setT]
  | cons v vs=>simp only[setT];simp_all
theorem setT_rel{g:G}{ps:List Nat}{cs:List AV}{vs:List Value}{t:Array Value}{fr:Fr}(hp:∀p∈ps,p < t.size)(hl:vs.length=cs.length)(hc:∀(i:Nat) (c:AV),cs[i]? =some c->Rel g c (vs.getD i undef))(h:∀d,Rel g (fr.get d) (t.getD d undef)):
 ∀d,Rel g ((q4b ps cs fr).get d) ((setT ps vs t).getD d undef):=by
 induction ps generalizing cs vs t fr with
 | nil=>intro d;simpa[setT,q4b]using h d
 | cons p ps ih=>
  cases cs with
  | nil=>
   cases vs with
   | nil=>intro d;simpa[setT,q4b]using h d
   | cons v vs=>grind
  | cons c cs=>
   cases vs with
   | nil=>grind
   | cons v vs=>
    refine ih (cs:=cs) (vs:=vs) (t:=t.setIfInBounds p v) (fr:=(p,c)::fr) (fun q hq=>by simp_all) (by simp_all) (fun i c' hi=>by simpa using hc (i+1) c' (by simp_all)) fun d=>?_
    rw[Fr.get_cons,k4a];by_cases hd:p=d
    .rw[if_pos hd,if_pos ⟨hd,hp p (List.mem_cons_self ..)⟩];simpa using hc 0 c rfl
    simp_all
inductive Jump:Exit->Option Code->Prop
 | end:Jump .normal none
 | ret:Jump .ret (some .ret)
 | exit (id:Nat):Jump (.exit id) (some (.exit id))
theorem wMb{gu:Option (Nat × Bool)}{ops rest}{k b NN:Nat}{fy:Operand}{xs:List Operand}{ats:Array TypeId}{ty:TypeId}{pos:String}{af:Array Edge}{L:Loop}{args:List AV}{ps:List Nat}{frO:Fr}(base base2 lid sid2:Nat)(keep:Fr)
 (hw:Wta E ops ⟨some k,.call ⟨.value fy,xs.toArray,ats⟩,ty,pos,af,gu⟩ fr σ) (hf:fr.ev fy=.fn (.yield b) [] []) (hl:σ.get lid=some (.lp b L)) (hready:L.state=.ready) (hN:Nat.ble (k+1) E.N=true) (hNN:L.tmps.size=NN) (hps:L.params=ps.toArray) (ha:xs.map fr.ev=args) (hlen:ps.length=args.length) (hlt:(ps.all fun p=>Nat.blt p NN)=true) (hk:Keep fr keep)
 (hheld:Held σ base L.tmps frO)
 (h:∀(T2:Array Value) (ds2:List Deferred),T2.size=E.N->AWP ⟨E.P,some b,E.g0,NN,true,E.gl,E.S,E.sg⟩ L.assign (q4b ps args frO) ((sid2,.sus E.g0.w.heap.size ds2)::(holds base2 T2 keep++σ))
  (fun e fr1 σ1=>e=.normal/\∃L1,σ1.get lid=some (.lp b L1)/\L1.state=.ready/\
   AWP ⟨E.P,some b,E.g0,NN,true,E.gl,E.S,E.sg⟩ L.body fr1 (σ1.upd lid (.lp b {L1 with state:=.busy})) (fun e2 _ σ2=>∃jump L2 fr'' σ'',Jump e2 jump/\σ2.get lid=some (.lp b L2)/\
    Held (σ2.upd lid (.lp b {L2 with state:=if jump.isNone then .ready else .done,pending:=jump})) base2 T2 fr'' /\
    (σ2.upd lid (.lp b {L2 with state:=if jump.isNone then .ready else .done,pending:=jump})).get sid2=some (.sus E.g0.w.heap.size ds2)/\
    zTa (σ2.upd lid (.lp b {L2 with state:=if jump.isNone then .ready else .done,pending:=jump})) σ'' /\AWPL E ops rest ((k,.pv (.b (.bool jump.isNone)))::fr'') σ'' K))):
 AWPL E ops (⟨some k,.call ⟨.value fy,xs.toArray,ats⟩,ty,pos,af,gu⟩::rest) fr σ K:=
 ⟨fun g a hst=>by
  have hk1:=jAf hN;have hw:=hw.go g a hst;simp only[wpListIn,hw,if_true];refine ⟨fun _ _=>trivial,?_⟩;have hfv:=hst.ev fy;rw[hf]at hfv;generalize hev:a.eval fy=fv at hfv;cases hfv with
  | @fn _ _ _ firstV capV l1 l2 r1 r2=>
   have hfirst:firstV= #[]:=jBw (by omega);have hcap:capV= #[]:=jBw (by omega);subst hfirst;subst hcap;have hb:g.w.heap[b]? =some (.loop L):=by
    cases hst.so.obj lid _ hl with
    | lp _ h=>exact h
   have hrun:(execOp a.eval ⟨some k,.call ⟨.value fy,xs.toArray,ats⟩,ty,pos,af,gu⟩).run E.P g.w=.ok (.round b L.fn (setT ps (xs.map a.eval) L.tmps) L.assign L.body) g.w:=by
    show Sem.run E.P (do let d <-resolve a.eval ⟨.value fy,xs.toArray,ats⟩ ty;invoke d.target d.args) g.w=_;simp only[resolve,hev,Deferred.ofValue,jAr,jAv,jAo];have:=run_yield (P:=E.P) (args:=xs.toArray.map a.eval) hb (by grind);have e2:invoke (.fn (.yield b) #[]) (#[]++xs.toArray.map a.eval)=Instr.yield b (xs.toArray.map a.eval):=by
     simp[invoke]
    rw[e2,this,hps]
    congr 2
    rw[<-setT_eq];simp[<-Array.foldl_toList]
   rw[jAz _ _ _ (fun c=>by simp),hrun,Oper.uponIn_round];refine ⟨fun h=>by simp[fen]at h,?_⟩;refine roundIn_of_wpIn trivial ?_;have hst1:=(hst.addHolds base2 hk).addSus sid2 E.g0.w.heap.size hst.df.ok;have hrel:∀d,Rel g ((q4b ps args frO).get d) ((setT ps (xs.map a.eval) L.tmps).getD d undef):=by
    refine setT_rel (fun p hp=>?_) (by grind) (fun i c hi=>?_) (K8a hst.so.obj hheld)
    .simp_all
    subst ha;simp only[jAk,jAh]at hi;obtain ⟨x,hx,rfl⟩:=hi;have:=hst.ev x
    simp_all
   refine wpIn_mono ((h a.tmps a.defers hst.n).go g {tmps:=setT ps (xs.map a.eval) L.tmps,defers:=[]} (hst1.frame (E' :=⟨E.P,some b,E.g0,NN,true,E.gl,E.S,E.sg⟩) rfl rfl hrel (by rw[<-hNN];exact jab ..) ⟨Dok.nil _ _,fun _=>rfl⟩)) ?_;rintro e a1 w1 ⟨g1,fr1,σ1,rfl,hs1,rfl,L1,hl1,hr1,hbody⟩;obtain ⟨hb1,hs1'⟩:=hs1.lpset (L' :={L1 with state:=.busy}) hl1;have hbr:(Instr.beginRound b).run E.P g1.w=.ok () {g1.w with heap:=g1.w.heap.setIfInBounds b (.loop {L1 with state:=.busy})}:=by
    simp only[Instr.beginRound,jAr,QPa hb1,jAo,QQa hb1,hr1];rfl
   refine ⟨_,hbr,wpIn_mono (hbody.go _ a1 hs1') ?_⟩;rintro e2 a2 w2 ⟨g2,fr2,σ2,rfl,hs2,jump,L2,fr'',σ'',hj,hl2,hh2,hsus,hle,hrest⟩;obtain ⟨hb2,hs2'⟩:=hs2.lpset (L' :={L2 with state:=if jump.isNone then .ready else .done,pending:=jump}) hl2;have hend:(Instr.endRound b jump).run E.P g2.w=.ok (.bool jump.isNone) {g2.w with heap:=g2.w.heap.setIfInBounds b (.loop {L2 with state:=if jump.isNone then .ready else .done,pending:=jump})}:=by
    simp only[Instr.endRound,jAr,QPa hb2,jAo,QQa hb2];rfl
   have hdok:Dok E.g0.w.heap.size {g2.w with heap:=g2.w.heap.setIfInBounds b (.loop {L2 with state:=if jump.isNone then .ready else .done,pending:=jump})} a.defers:=by
    cases hs2'.so.obj sid2 _ hsus with
    | sus h3=>exact h3
   have hstc:St E _ a fr'' _:=hs2'.frame (E' :=E) rfl rfl (K8a hs2'.so.obj hh2) hst.n ⟨hdok,hst.df.no⟩;have hfin:=hrest.go _ _ ((hstc.le kza hle).put hk1 (.pv (.b rfl)));cases hj with
   | «end»=>exact ⟨_,_,hend,hfin⟩
   | ret=>exact ⟨_,_,hend,hfin⟩
   | exit id=>exact ⟨_,_,hend,hfin⟩⟩
end
section
open Go.RowKit Go.Lib
section
variable {P:Program} {ρ:Operand->AV} {σ:Sto} {dst:Option Tmp} {ty:TypeId} {pos:String} {af:Array Edge} {gu:Option (Nat × Bool)}
theorem q5b{f:Fn}{xs ys:List Operand}{c1 c2:List AV}(h1:xs.map ρ=c1)(h2:ys.map ρ=c2):EvQ P ⟨dst,.makeFunc f xs.toArray ys.toArray,ty,pos,af,gu⟩ ρ σ (.fn f c1 c2):=
 ⟨fun c=>by simp,fun g ρv h _=>by
  subst h1;subst h2;refine ⟨.func f (xs.toArray.map ρv) (ys.toArray.map ρv),rfl,.fn (by simp) (by simp) (fun i c hi=>?_) (fun i c hi=>?_)⟩
  .simp only[jAk,jAh]at hi;obtain ⟨x,hx,rfl⟩:=hi;have:=h x (by simp[Op.operands];grind)
   simp_all
  simp only[jAk,jAh]at hi;obtain ⟨x,hx,rfl⟩:=hi;have:=h x (by simp[Op.operands];grind)
  simp_all⟩
theorem ev_min{k:IntKind}{a b:Int}{x y:Operand}{ats:Array TypeId}(hx:ρ x=.pv (.b (.int k a)))(hy:ρ y=.pv (.b (.int k b))):EvQ P ⟨dst,.call ⟨.builtin .min, #[x,y],ats⟩,ty,pos,af,gu⟩ ρ σ (.pv (.b (.int k (min a b)))):=
 ⟨fun c=>by simp,fun g ρv h _=>by
  have h1:=h x (by simp[Op.operands,Call.operands]);have h2:=h y (by simp[Op.operands,Call.operands]);rw[hx]at h1;rw[hy]at h2;have e1:=zKa h1;have e2:=zKa h2;refine ⟨.int k (min a b),?_,.pv (.b rfl)⟩;have:(if b < a then b else a)=min a b:=by omega
  simp[execOp,resolve,Deferred.ofValue,invoke,builtin,Builtin.min_,Builtin.min2,e1,e2,go_sem,this]⟩
theorem v6b{k:IntKind}{a b:Int}{x y:Operand}{ats:Array TypeId}(hx:ρ x=.pv (.b (.int k a)))(hy:ρ y=.pv (.b (.int k b))):EvQ P ⟨dst,.call ⟨.builtin .max, #[x,y],ats⟩,ty,pos,af,gu⟩ ρ σ (.pv (.b (.int k (max a b)))):=
 ⟨fun c=>by simp,fun g ρv h _=>by
  have h1:=h x (by simp[Op.operands,Call.operands]);have h2:=h y (by simp[Op.operands,Call.operands]);rw[hx]at h1;rw[hy]at h2;have e1:=zKa h1;have e2:=zKa h2;refine ⟨.int k (max a b),?_,.pv (.b rfl)⟩;have:(if a < b then b else a)=max a b:=by omega
  simp[execOp,resolve,Deferred.ofValue,invoke,builtin,Builtin.max_,Builtin.max2,e1,e2,go_sem,this]⟩
end
theorem kpb(w:World)(B n:Nat):∃w',w' =w.freeze ⟨B,n,none⟩ 1/\w'.heap.size=w.heap.size/\w'.os=w.os/\w'.tape=w.tape/\w'.output=w.output/\(∀k,k≠B->w'.heap[k]? =w.heap[k]?)/\(∀k i,w'.cell? ⟨k,i,none⟩=w.cell? ⟨k,i,none⟩)/\(∀r:Nat,w.heap[r]? =some (Obj.deferred (some []))->w'.heap[r]? =some (Obj.deferred (some []))):=by
 refine ⟨_,rfl,by simp[World.freeze],by simp[World.freeze],by simp[World.freeze],by simp[World.freeze],fun k hk=>?_,fun k i=>?_,fun r hr=>?_⟩
 .simp only[World.freeze,Nat.one_ne_zero,if_false,jBl]
  grind
 .simp only[World.cell?,World.freeze,Nat.one_ne_zero,if_false,jBl]
  grind
 simp only[World.freeze,Nat.one_ne_zero,if_false,jBl,hr]
 simp_all
theorem VUa(P:Program)(w:World)(B:Nat)(o:Nat:=0):∃w',(markStringish ⟨B,o,none⟩).run P w=.ok () w' /\w'.heap.size=w.heap.size/\w'.os=w.os/\w'.tape=w.tape/\w'.output=w.output/\(∀k,k≠B->w'.heap[k]? =w.heap[k]?)/\(∀k i,w'.cell? ⟨k,i,none⟩=w.cell? ⟨k,i,none⟩)/\(∀r:Nat,w.heap[r]? =some (Obj.deferred (some []))->w'.heap[r]? =some (Obj.deferred (some []))):=by
 cases hsh:w.shape? B with
 | none=>
  refine ⟨w,?_,rfl,rfl,rfl,rfl,fun _ _=>rfl,fun _ _=>rfl,fun _ h=>h⟩;simp[markStringish,shape,Sem.run,hsh]
 | some p=>
  obtain ⟨w',e,h⟩:=kpb w B p.2;refine ⟨w',?_,h⟩;rw[e];simp[markStringish,shape,freeze,Sem.run,hsh]
variable {E:Env} {fr:Fr} {σ:Sto} {K:Post}
theorem jja{ops rest}{k1 k2:Nat}{o1:Oper}{t e:TypeId}{l:List UInt8}{ss sb s1 s2:Nat}{sz z:Value}{ty:TypeId}{pos:String}{af:Array Edge}{gu:Option (Nat × Bool)}(hd:o1.dst=some k1)(h1:OpGN E o1 fr σ (.l cU l))(ht:TyOk E.P t ss sb sz (.slice e))(he:TyOk E.P e s1 s2 z (.int .u8))
 (hw1:Wta E ops o1 fr σ) (hw2:Wta E ops ⟨some k2,.convert t t (.tmp k1),ty,pos,af,gu⟩ ((k1,.l cU l)::fr) σ) (hN:(Nat.ble (k1+1) E.N && Nat.ble (k2+1) E.N)=true)
 (h:AWPL E ops rest ((k2,.l cU l)::(k1,.l cU l)::fr) σ K):AWPL E ops (o1::⟨some k2,.convert t t (.tmp k1),ty,pos,af,gu⟩::rest) fr σ K:=
 ⟨fun g a hst=>by
  simp only[jAn]at hN;have hN1:=jAf hN.1;have hN2:=jAf hN.2;simp only[wpListIn,hw1.go g a hst,if_true];refine h1.go g a _ _ (fun x _=>hst.ev x) hst.so fun g' v hold hwf hloc hv hn=>?_
  obtain ⟨n,cp,rfl⟩:=hn;have hst1:St E g' (a.put o1.dst (.slice (some ⟨g.w.heap.size,0,none⟩) n cp)) ((k1,.l cU l)::fr) σ:=by rw[hd];exact (hst.grow hold hwf (fun k _=>by grind)).put hN1 hv
  rw[hw2.go g' _ hst1];simp only[if_true];refine ⟨fun _ _=>trivial,?_⟩;have hev:(a.put o1.dst (.slice (some ⟨g.w.heap.size,0,none⟩) n cp)).eval (.tmp k1)=.slice (some ⟨g.w.heap.size,0,none⟩) n cp:=by
   rw[hd];simp only[Act.put,Act.eval];rw[k4a,if_pos ⟨rfl,by rw[hst.n];omega⟩]
  obtain ⟨w2,hrun,hsz,hos,htp,hout,hblk,hcell,hdf⟩:=VUa E.P g'.w g.w.heap.size;have hrun2:(execOp (a.put o1.dst (.slice (some ⟨g.w.heap.size,0,none⟩) n cp)).eval ⟨some k2,.convert t t (.tmp k1),ty,pos,af,gu⟩).run E.P g'.w=.ok (.value (.slice (some ⟨g.w.heap.size,0,none⟩) n cp)) w2:=by
   show Sem.run E.P (do let v <-convert t t _;pure (Next.value v)) g'.w=_;rw[hev];simp only[convert,underlying,program,jAr,Sem.run,ht.u,he.u,jAo,jAv,beq_self_eq_true,hrun]
  rw[jAz _ _ _ (fun c=>by simp),hrun2,jBf];have hx:Ext g'.w g'.u w2 g'.u:=⟨jBm hsz.symm,fun _ _=>jAm _,fun k i _ _=>hcell k i,hdf⟩;have hold2:Old (fun _=>False) g ⟨w2,g'.u,g'.loc⟩:=by
   refine ⟨hos.trans hold.os,htp.trans hold.tape,hout.trans hold.output,hold.ext.trans hx,fun k hk hs=>?_⟩;obtain ⟨b1,b2⟩:=hold.block k hk hs;exact ⟨(hblk k (by omega)).trans b1,b2⟩
  have hwf2:Wf ⟨w2,g'.u,g'.loc⟩:=fun k hk=>hwf k (by simp_all)
  have hv2:Rel ⟨w2,g'.u,g'.loc⟩ (.l cU l) (.slice (some ⟨g.w.heap.size,0,none⟩) n cp):=hv.mono hx (fun _ _=>rfl);have hst2:St E ⟨w2,g'.u,g'.loc⟩ (a.put o1.dst (.slice (some ⟨g.w.heap.size,0,none⟩) n cp)) ((k1,.l cU l)::fr) σ:=by rw[hd];exact (hst.grow hold2 hwf2 (fun k _=>by simp_all)).put hN1 hv2
  exact h.go _ _ (hst2.put hN2 hv2)⟩
section
variable {dst:Option Tmp} {ty t tx e:TypeId} {pos:String} {af:Array Edge} {gu:Option (Nat × Bool)} {α:Type} {F:α->List PV} {xs r' :List α} {x y:Operand} {nl:Option Bool} {ss sb size bytes lim:Nat} {sz zero:Value} {d:TypeDesc}
end
end
section
open Go.RowKit Go.Lib
variable {E:Env} {fr:Fr} {σ:Sto} {K:Post}
def busy(L:Loop):Loop:={L with state:=.busy}
def stop(L:Loop)(c:Code):Loop:={L with state:=.done,pending:=some c}
def InlK(E:Env)(ops:Array Oper)(rest:List Oper)(k:Nat)(fn:Func)(base sid:Nat)(T:Array Value)(ds:List Deferred)(K:Post):Post:=fun e fr' σ' =>(e=.ret∨e=.normal)/\∃fr2 σ2 cs fr'' σ'',FrLe fr' fr2/\zTa σ' σ2/\ResL E.P fr2 σ2 fn.results.toList cs/\Held σ2 base T fr'' /\σ2.get sid=some (.sus E.g0.w.heap.size ds)/\zTa σ2 σ'' /\AWPL E ops rest ((k,retI cs)::fr'') σ'' K
theorem inlK{ops:Array Oper}{rest:List Oper}{k:Nat}{fn:Func}{base sid:Nat}{T:Array Value}{ds:List Deferred}{e:Exit}{fr' fr2 fr'' :Fr}{σ' σ2 σ'' :Sto}{cs:List AV}(he:e=.ret∨e=.normal)(hf:FrLe fr' fr2)(hs:zTa σ' σ2)(hr:ResL E.P fr2 σ2 fn.results.toList cs)(hh:Held σ2 base T fr'')(hsu:σ2.get sid=some (.sus E.g0.w.heap.size ds))(hle:zTa σ2 σ'')
 (h:AWPL E ops rest ((k,retI cs)::fr'') σ'' K):InlK E ops rest k fn base sid T ds K e fr' σ' :=⟨he,fr2,σ2,cs,fr'',σ'',hf,hs,hr,hh,hsu,hle,h⟩
theorem ResL.le{P:Program}{fr fr' :Fr}{σ σ' :Sto}{rvs:List ResultVar}{cs:List AV}(hf:FrLe fr fr')(hs:zTa σ σ')(h:ResL P fr' σ' rvs cs):ResL P fr σ rvs cs:=by
 induction h with
 | nil=>exact .nil
 | cons h _ ih=>exact .cons (res1_le hf hs h) ih
theorem Held.le{base:Nat}{T:Array Value}{l:Fr}{σ' :Sto}(hs:zTa σ σ')(h:Held σ' base T l):Held σ base T l:=by
 induction h with
 | nil=>exact .nil
 | cons h _ ih=>
  refine .cons ?_ ih;rcases hs _ _ h with h1 | ⟨cs,_,h1⟩
  all_goals simp_all
theorem Yoa{σ' :Sto}{o B:Nat}{ds:List Deferred}(hs:zTa σ σ')(h:σ'.get o=some (.sus B ds)):σ.get o=some (.sus B ds):=by
 rcases hs _ _ h with h1 | ⟨cs,_,h1⟩
 all_goals simp_all
theorem W0a{σ' :Sto}{o b:Nat}{L:Loop}(hs:zTa σ σ')(h:σ'.get o=some (.lp b L)):σ.get o=some (.lp b L):=by
 rcases hs _ _ h with h1 | ⟨cs,_,h1⟩
 all_goals simp_all
theorem awpl_inl{gu:Option (Nat × Bool)}{ops rest}{k f:Nat}{fn:Func}{c:Code}{fx:Operand}{xs:List Operand}{ats:Array TypeId}{ty:TypeId}{pos:String}{af:Array Edge}{first cap args:List AV}(base sid:Nat)(keep:Fr)(hw:Wta E ops ⟨some k,.call ⟨.value fx,xs.toArray,ats⟩,ty,pos,af,gu⟩ fr σ)(hf:fr.ev fx=.fn (.func f) first cap)(hok:FnOk E.P f fn c)
 (hN:(Nat.ble (k+1) E.N && Nat.ble args.length fn.ntmps)=true) (ha:first++xs.map fr.ev++cap=args) (hk:Keep fr keep)
 (h:∀(T:Array Value) (ds:List Deferred),T.size=E.N->AWP ⟨E.P,none,E.g0,fn.ntmps,true,E.gl,E.S,E.sg⟩ c (z0a 0 args) ((sid,.sus E.g0.w.heap.size ds)::(holds base T keep++σ)) (InlK E ops rest k fn base sid T ds K)):
 AWPL E ops (⟨some k,.call ⟨.value fx,xs.toArray,ats⟩,ty,pos,af,gu⟩::rest) fr σ K:=
 q3b base sid keep hw hf hok hN ha hk fun T ds hT=>K3a (h T ds hT) fun e fr' σ' ⟨he,fr2,σ2,cs,fr'',σ'',hf,hs,hr,hh,hsu,hle,h⟩=>
  ⟨he,cs,fr'',σ'',hr.le hf hs,hh.le hs,Yoa hs hsu,kKa hs hle,h⟩
inductive Ypa (E:Env) (K:Post) (L:Loop) (fr:Fr) (σ:Sto):Loop->Prop
 | off (h:K .normal fr σ):Ypa E K L fr σ L
 | jump {c:Code} (h:AWP E c fr σ K):Ypa E K L fr σ (stop L c)
def ItrK(E:Env)(base sid lid b:Nat)(L:Loop)(T:Array Value)(ds:List Deferred)(K:Post):Post:=fun e fr' σ' =>(e=.ret∨e=.normal)/\∃σ2 L' fr'' σ'',zTa σ' σ2/\σ2.get lid=some (.lp b L')/\Held σ2 base T fr'' /\σ2.get sid=some (.sus E.g0.w.heap.size ds)/\zTa σ2 σ'' /\σ''.get lid=none/\Ypa E K L fr'' σ'' L'
theorem itrK{base sid lid b:Nat}{L L' :Loop}{T:Array Value}{ds:List Deferred}{e:Exit}{fr' fr'' :Fr}{σ' σ2 σ'' :Sto}(he:e=.ret∨e=.normal)(hs:zTa σ' σ2)(hl:σ2.get lid=some (.lp b L'))(hh:Held σ2 base T fr'')(hsu:σ2.get sid=some (.sus E.g0.w.heap.size ds))(hle:zTa σ2 σ'')(hn:σ''.get lid=none)
 (h:Ypa E K L fr'' σ'' L'):ItrK E base sid lid b L T ds K e fr' σ' :=⟨he,σ2,L',fr'',σ'',hs,hl,hh,hsu,hle,hn,h⟩
theorem Held.upd{base lid b:Nat}{T:Array Value}{l:Fr}{L L' :Loop}(hl:σ.get lid=some (.lp b L))(h:Held σ base T l):Held (σ.upd lid (.lp b L')) base T l:=by
 induction h with
 | nil=>exact .nil
 | cons h _ ih=>
  refine .cons ?_ ih;rw[Sto.get_upd hl]
  grind
theorem K9a{fx:Operand}{ps:Array Tmp}{assign body:Code}{f0:FuncId}{fn0:Func}{c0:Code}{cap:List AV}(base lid sid:Nat)(keep:Fr)(hnd:E.nd=false)(hrd:E.rd=none)(hf:fr.ev fx=.fn (.func f0) [] cap)(hok:FnOk E.P f0 fn0 c0)
 (hres:fn0.results= #[]) (hN:Nat.ble (cap.length+1) fn0.ntmps=true) (hfr:fr.has lid=false) (hso:σ.has lid=false) (hcap:AV.hasL lid cap=false) (hk:Keep fr keep)
 (h:∀(T:Array Value) (b:Nat) (L:Loop) (ds:List Deferred),T.size=E.N->L.state=.ready->L.pending=none->L.tmps=T->L.params=ps->L.assign=assign->L.body=body->
  AWP ⟨E.P,none,E.g0,fn0.ntmps,true,E.gl,E.S,E.sg⟩ c0 (z0a 0 (.fn (.yield b) [] []::cap)) ((sid,.sus E.g0.w.heap.size ds)::(lid,.lp b L)::(holds base T keep++σ)) (ItrK E base sid lid b L T ds K)):
 AWP E (.rangeFunc fx ps assign body) fr σ K:=by
 refine y9b (args:=[]) base lid sid keep hnd hrd hf hok hres hN hfr hso hcap hk fun T b fid dfb ds hT=>K3a (h T b ⟨.ready,none,fid,T,ps,assign,body,dfb⟩ ds hT rfl rfl rfl rfl rfl rfl) ?_
 rintro e fr' σ' ⟨he,σ2,L',fr'',σ'',hs,hl,hh,hsu,hle,hn,hend⟩;have hl' :=W0a hs hl;have hle' :=kKa hs hle;refine ⟨he,L',fr'',σ'',hl',?_,(hh.le hs).upd hl',?_,?_,?_⟩
 .cases hend <;> rfl
 .rw[Sto.get_upd hl'];split
  .simp_all
  exact Yoa hs hsu
 .intro o ob ho;have hne:o≠lid:=by rintro rfl;rw[hn]at ho;cases ho
  rw[Sto.get_upd hl',if_neg hne];exact hle' o ob ho
 cases hend with
 | off h=>exact h
 | jump h=>exact h
inductive Qaa (L:Loop):Exit->Loop->Bool->Prop
 | off:Qaa L .normal L true
 | ret:Qaa L .ret (stop L .ret) false
 | exit (id:Nat):Qaa L (.exit id) (stop L (.exit id)) false
def RndK(E:Env)(ops:Array Oper)(rest:List Oper)(k base2 sid2 lid b:Nat)(L:Loop)(T2:Array Value)(ds2:List Deferred)(K:Post):Post:=fun e _ σ' =>∃L' t σ2 fr'' σ'',Qaa L e L' t/\zTa σ' σ2/\σ2.get lid=some (.lp b (busy L))/\Held σ2 base2 T2 fr'' /\σ2.get sid2=some (.sus E.g0.w.heap.size ds2)/\zTa (σ2.upd lid (.lp b L')) σ'' /\AWPL E ops rest ((k,.pv (.b (.bool t)))::fr'') σ'' K
theorem rndK{ops:Array Oper}{rest:List Oper}{k base2 sid2 lid b:Nat}{L L' :Loop}{t:Bool}{T2:Array Value}{ds2:List Deferred}{e:Exit}{fr' fr'' :Fr}{σ' σ2 σ'' :Sto}(hr:Qaa L e L' t)(hs:zTa σ' σ2)(hl:σ2.get lid=some (.lp b (busy L)))(hh:Held σ2 base2 T2 fr'')(hsu:σ2.get sid2=some (.sus E.g0.w.heap.size ds2))(hle:zTa (σ2.upd lid (.lp b L')) σ'')
 (h:AWPL E ops rest ((k,.pv (.b (.bool t)))::fr'') σ'' K):RndK E ops rest k base2 sid2 lid b L T2 ds2 K e fr' σ' :=⟨L',t,σ2,fr'',σ'',hr,hs,hl,hh,hsu,hle,h⟩
def AsgK(E2:Env)(lid b:Nat)(L:Loop)(body:Code)(K:Post):Post:=fun e fr1 σ1=>e=.normal/\∃fr2 σ2,FrLe fr1 fr2/\zTa σ1 σ2/\σ2.get lid=some (.lp b L)/\AWP E2 body fr2 (σ2.upd lid (.lp b (busy L))) K
theorem asgK{E2:Env}{lid b:Nat}{L:Loop}{body:Code}{fr1 fr2:Fr}{σ1 σ2:Sto}(hf:FrLe fr1 fr2)(hs:zTa σ1 σ2)(hl:σ2.get lid=some (.lp b L))(h:AWP E2 body fr2 (σ2.upd lid (.lp b (busy L))) K):AsgK E2 lid b L body K .normal fr1 σ1:=⟨rfl,fr2,σ2,hf,hs,hl,h⟩
theorem kqb{σ' :Sto}{lid b:Nat}{L L' :Loop}(hs:zTa σ σ')(hl:σ'.get lid=some (.lp b L)):zTa (σ.upd lid (.lp b L')) (σ'.upd lid (.lp b L')):=by
 intro o ob ho;rw[Sto.get_upd hl]at ho;rw[Sto.get_upd (W0a hs hl)];split at ho
 .simp_all
 rename_i he;rw[if_neg he];exact hs o ob ho
theorem Zxa{gu:Option (Nat × Bool)}{ops rest}{k b NN:Nat}{fy:Operand}{xs:List Operand}{ats:Array TypeId}{ty:TypeId}{pos:String}{af:Array Edge}{L:Loop}{args:List AV}{ps:List Nat}{T:Array Value}{assign body:Code}(base base2 lid sid2:Nat)(frO keep:Fr)
 (hw:Wta E ops ⟨some k,.call ⟨.value fy,xs.toArray,ats⟩,ty,pos,af,gu⟩ fr σ) (hf:fr.ev fy=.fn (.yield b) [] []) (hl:σ.get lid=some (.lp b L)) (hready:L.state=.ready) (hpend:L.pending=none) (hT:L.tmps=T) (hps:L.params=ps.toArray) (hasg:L.assign=assign) (hbody:L.body=body) (hNN:T.size=NN) (hN:Nat.ble (k+1) E.N=true) (ha:xs.map fr.ev=args) (hlen:ps.length=args.length) (hlt:(ps.all fun p=>Nat.blt p NN)=true) (hk:Keep fr keep)
 (hheld:Held σ base T frO)
 (h:∀(T2:Array Value) (ds2:List Deferred),T2.size=E.N->AWP ⟨E.P,some b,E.g0,NN,true,E.gl,E.S,E.sg⟩ assign (q4b ps args frO) ((sid2,.sus E.g0.w.heap.size ds2)::(holds base2 T2 keep++σ))
  (AsgK ⟨E.P,some b,E.g0,NN,true,E.gl,E.S,E.sg⟩ lid b L body (RndK E ops rest k base2 sid2 lid b L T2 ds2 K))):
 AWPL E ops (⟨some k,.call ⟨.value fy,xs.toArray,ats⟩,ty,pos,af,gu⟩::rest) fr σ K:=by
 subst hT hasg hbody;refine wMb base base2 lid sid2 keep hw hf hl hready hN hNN hps ha hlen hlt hk hheld fun T2 ds2 hT2=>K3a (h T2 ds2 hT2) ?_
 rintro e fr1 σ1 ⟨rfl,fr2,σ2,hf2,hs2,hl2,hb⟩;refine ⟨rfl,L,W0a hs2 hl2,hready,K3a (vZb hf2 (kqb hs2 hl2) hb) ?_⟩;rintro e2 fr3 σ3 ⟨L',t,σ4,fr'',σ'',hr,hs4,hl4,hh,hsu,hle,hrest⟩;have hl3:=W0a hs4 hl4;have hend:∃jump,Jump e2 jump/\jump.isNone=t/\{(busy L) with state:=if jump.isNone then .ready else .done,pending:=jump}=L' :=by
  cases hr with
  | off=>refine ⟨none,.end,rfl,?_⟩;cases L;simp only at hready hpend;subst hready;subst hpend;rfl
  | ret=>exact ⟨_,.ret,rfl,rfl⟩
  | exit id=>exact ⟨_,.exit id,rfl,rfl⟩
 obtain ⟨jump,hj,rfl,hL⟩:=hend;refine ⟨jump,busy L,fr'',σ'',hj,hl3,?_,?_,?_,hrest⟩
 .exact (hh.le hs4).upd hl3
 .rw[Sto.get_upd hl3];split
  .simp_all
  exact Yoa hs4 hsu
 rw[hL];exact kKa (kqb hs4 hl4) hle
end
section
open Go.RowKit Go.Lib
variable {E:Env} {fr:Fr} {σ:Sto} {K:Post}
abbrev Node:=List Bool × Fr × Sto
def readyB(l:List Oper)(D:List Bool)(i:Nat):Bool:=match l[i]? with
 | some o=> !(D.getD i false) && o.after.toList.all fun e=> !Region.binds .any e || D.getD e.on false
 | none=>false
def krb(l:List Oper)(D:List Bool):List Nat:=(List.range l.length).filter (readyB l D)
inductive StepOk (E:Env) (l:List Oper) (all:List Node) (D:List Bool) (fr:Fr) (σ:Sto) (i:Nat):Prop
 | yes {o:Oper} {fr' fr2:Fr} {σ' σ2:Sto} (j:Nat) (ho:l[i]? =some o) (hw:Wta E l.toArray o fr σ) (hop:OpTo E o fr σ fr' σ') (hn:all[j]? =some (D.set i true,fr2,σ2)) (hf:FrLe fr' fr2) (hs:zTa σ' σ2)
 | no {o:Oper} {fr2:Fr} {σ2:Sto} (j:Nat) (ho:l[i]? =some o) (hg:Zwa l.toArray fr o) (hn:all[j]? =some (D.set i true,fr2,σ2)) (hf:FrLe ((o.dst.map fun d=>(d,AV.tup [])).toList++fr) fr2) (hs:zTa σ σ2)
inductive VVa (E:Env) (l:List Oper) (all:List Node) (D:List Bool) (fr:Fr) (σ:Sto):List Nat->Prop
 | nil:VVa E l all D fr σ []
 | cons {i:Nat} {is:List Nat} (h:StepOk E l all D fr σ i) (r:VVa E l all D fr σ is):VVa E l all D fr σ (i::is)
inductive v7b (E:Env) (l:List Oper) (K:Post) (all:List Node):Node->Prop
 | full {D:List Bool} {fr:Fr} {σ:Sto} (hD:krb l D=[]) (h:K .normal fr σ):v7b E l K all (D,fr,σ)
 | step {D:List Bool} {fr:Fr} {σ:Sto} (is:List Nat) (hD:krb l D=is) (hn:D.all id=false) (h:VVa E l all D fr σ is):v7b E l K all (D,fr,σ)
inductive Yqa (E:Env) (l:List Oper) (K:Post) (all:List Node):List Node->Prop
 | nil:Yqa E l K all []
 | cons {nd:Node} {r:List Node} (h:v7b E l K all nd) (hr:Yqa E l K all r):Yqa E l K all (nd::r)
theorem VVa.get{l:List Oper}{all:List Node}{D:List Bool}{is:List Nat}(h:VVa E l all D fr σ is){i:Nat}(hi:i∈is):StepOk E l all D fr σ i:=by
 induction h with
 | nil=>cases hi
 | cons h _ ih=>
  grind
theorem Yqa.get{l:List Oper}{all r:List Node}(h:Yqa E l K all r){nd:Node}(hi:nd∈r):v7b E l K all nd:=by
 induction h with
 | nil=>cases hi
 | cons h _ ih=>
  grind
end
section
open Go.RowKit Go.Lib
variable {E:Env} {fr:Fr} {σ:Sto} {K:Post}
section
variable {ty:TypeId} {pos:String} {af:Array Edge} {gu:Option (Nat × Bool)}
variable {α:Type} {F:α->List PV} {l:List α} {size bytes sb ss k n:Nat} {e t:TypeId} {zero sz:Value} {d:TypeDesc}
theorem q6b{k:Nat}{ps:List (Nat × Operand)}(r:Nat)(hN:Nat.ble (k+1) E.N=true)(hfr:fr.has r=false)(hsr:σ.has r=false)(ht:TyOk E.P t ss sb sz (.slice e))(he:TyOk E.P e size bytes zero d)(hzs:(Nat.beq zero.cells.size size && Nat.ble 1 size && zero.cells.toList.all cellV)=true)(hF:∀x,(F x).length=size)(hln:Nat.beq l.length n && Nat.ble (n * size) 16777216)
 (hc:Jja (fun i=>some (i * size,size)) (List.replicate (n * size) .any) (ps.map fun p=>(p.1,(fr.ev p.2).weak))=some (l.flatMap fun x=>(F x).map AV.pv)):
 OpTo E ⟨some k,.buildSlice t n ps.toArray,ty,pos,af,gu⟩ fr σ ((k,.hs r 0)::fr) ((r,.row e true size (l.map F))::σ):=
 ⟨fun g a K Q hst hK=>by
  have hx0:∀x∈(Op.buildSlice t n ps.toArray).operands,Rel g (fr.ev x) (a.eval x):=fun x _=>hst.ev x
  have hso:=hst.so;simp only[jAn]at hzs hln;have hz1:=jAl hzs.1.1;have hz2:=jAf hzs.1.2;have hn1:=jAl hln.1;have hn2:=jAf hln.2;subst hn1;refine ⟨fun _ _=>trivial,?_⟩;rw[jAz _ _ _ (fun c=>by simp)];generalize hzero:(if l.length * size=0 then #[] else zero.cells)=zc;generalize harr:((Array.range (l.length * size)).map (fun i=>zc[i % zc.size]!))=arr;have hasz:arr.size=l.length * size:=by rw[<-harr];simp
  have hacell:∀i,i < arr.size->cellV (arr.getD i undef)=true:=by
   intro i hi;rw[hasz]at hi;have hne:l.length * size≠0:=by omega
   rw[if_neg hne]at hzero;subst hzero;have hlt:i % zero.cells.size < zero.cells.size:=Nat.mod_lt _ (by omega);have:arr.getD i undef=zero.cells[i % zero.cells.size]:=by
    rw[<-harr];simp[hi,hlt]
   rw[this];have h3:=hzs.2;rw[jAp]at h3;exact h3 _ (by simp)
  obtain ⟨out,h1,h2⟩:=Yma (g:=g) (ps.map fun p=>(p.1,(fr.ev p.2).weak)) (ps.map fun p=>(p.1,a.eval p.2)) (List.replicate (l.length * size) .any) arr (l.flatMap fun x=>(F x).map AV.pv)
   ⟨by simp[hasz],hacell,fun i c hi=>by
    have:=jAi hi;rw[List.mem_replicate]at this;rw[this.2];exact .any _⟩ (by simp) (fun i p v hp hv=>by
   simp only[jAk,jAh]at hp hv;obtain ⟨q,hq,rfl⟩:=hp;obtain ⟨q',hq',rfl⟩:=hv;rw[hq]at hq';cases hq';exact ⟨rfl,qUa (hx0 q.2 (by simp only[Op.operands,List.mem_toArray,jCe];exact ⟨q,jAi hq,rfl⟩))⟩) hc
  have hrun:(execOp a.eval ⟨some k,.buildSlice t l.length ps.toArray,ty,pos,af,gu⟩).run E.P g.w=.ok (.value (.slice (some ⟨g.w.heap.size,0,none⟩) l.length l.length)) (g.w.alloc (.cells out e)):=by
   show Sem.run E.P (do let v <-Instr.buildSlice t l.length (ps.toArray.map fun (i,x)=>(i,a.eval x));pure (Next.value v)) g.w=_;have e1:(ps.toArray.map fun (x:Nat × Operand)=>(x.1,a.eval x.2)).toList=ps.map fun p=>(p.1,a.eval p.2):=by simp
   have hgt:¬(l.length * size > 2 ^ 24):=by simp;omega
   by_cases h0:l.length * size=0
   .rw[if_pos h0]at hzero;subst hzero;simp only[Instr.buildSlice,underlying,program,jAr,Sem.run,ht.u,he.sizeOf,jAo,jAv,if_neg hgt,if_pos h0,e1,harr,h1];rfl
   rw[if_neg h0]at hzero;subst hzero;simp only[Instr.buildSlice,underlying,program,jAr,Sem.run,ht.u,he.sizeOf,jAo,jAv,if_neg hgt,if_neg h0,he.zeroValue,e1,harr,h1];rfl
  rw[hrun,jBf];have hosz:out.size=l.length * size:=by rw[h2.n,QOa hF]
  have hold:=yEa g out e 0 r (.row g.w.heap.size 0 l.length size l.length);have hwf:=WYa hso.wf out e 0 r (.row g.w.heap.size 0 l.length size l.length);have hblk:(g.alloc out e 0 r (.row g.w.heap.size 0 l.length size l.length)).w.heap[g.w.heap.size]? =some (.cells out e (0,0)):=heap_alloc_new _ _;have hloc:(g.alloc out e 0 r (.row g.w.heap.size 0 l.length size l.length)).loc r=.row g.w.heap.size 0 l.length size l.length:=if_pos rfl;have hlen:l.length<=maxLen:=by
   have:l.length * 1<=l.length * size:=Nat.mul_le_mul_left _ hz2;unfold maxLen;omega
  have hst' :=hst.addObj r (ob:=.row e true size (l.map F)) hfr hsr hold hwf (fun q hq=>if_neg hq) (.row (off:=0) (by rw[hloc];simp) hblk (by rw[jCc];exact hosz) hlen (by simp) (fun x hx=>by obtain ⟨y,_,rfl⟩:=jCe.1 hx;exact hF y) (by show (if g.w.heap.size=g.w.heap.size then 0 else _)<=_;simp) (fun _=>if_pos rfl) (fun i j x c hi hj=>by
   simp only[jAk,jAh]at hi;obtain ⟨y,hy,rfl⟩:=hi;have:=h2.r _ _ (Zva hF l i j y c hy hj);cases this with
   | pv h=>rw[jCc];exact h.mono hold.ext)) (fun b hb=>by
   simp only[AO.own,hloc,Loc.block]at hb;cases hb;exact jAm _)
  exact hK _ _ (hst'.put (jAf hN) (.hs hloc (fun _=>by simp)))⟩
end
def Sto.del(r:Nat):Sto->Sto
 | []=>[]
 | (k,a)::s=>bif Nat.beq k r then Sto.del r s else (k,a)::Sto.del r s
theorem Sto.get_del(r:Nat)(σ:Sto)(o:Nat):(Sto.del r σ).get o=if o=r then none else σ.get o:=by
 induction σ with
 | nil=>simp[Sto.del,Sto.get]
 | cons x s ih=>
  obtain ⟨k,a⟩:=x;unfold Sto.del;cases hb:Nat.beq k r with
  | true=>
   have:=jAl hb;subst this;simp only[cond_true,ih,Sto.get_cons];by_cases ho:o=k
   .simp[ho]
   rw[if_neg ho,if_neg ho,if_neg (Ne.symm ho)]
  | false=>
   have hne:k≠r:=by rintro rfl;simp at hb
   simp only[cond_false,Sto.get_cons,ih];by_cases ho:k=o
   .subst ho;simp[hne]
   rw[if_neg ho,if_neg ho]
end
end Go.Proofs.YthbbeodmpnmopaaGreatDoor
