/- Part 3 of the proof of the law SpoolReadMatchesSpec: what it needs. -/
import Derived.Test.YtdblnmhmmfahkaaGreatKSpoolReadMatchesSpec2
import Derived.Laws.MakeOwn
import Derived.Test.YtdblnmhmmfahkaaGreatProg
import Derived.Lib.IndexMore
import Derived.Lib.IndexAny
import Derived.Lib.Atoi
import Derived.Lib.Join
import Derived.Lib.Repeat
import Derived.Lib.Split
import Derived.Lib.FieldsP
import Derived.Lib.Strings
import Derived.Shelf.Strings.SlTrimAscii
set_option linter.unusedVariables false
set_option linter.unusedSimpArgs false
set_option maxRecDepth 100000
set_option maxHeartbeats 40000000
namespace Go.Proofs.YtdblnmhmmfahkaaGreat
open Go.RowKit Go.Proofs.Tryz
section
theorem Sto.get_mem{σ:Sto}{o:Nat}{ob:AO}(h:σ.get o=some ob):(o,ob)∈σ:=by
 induction σ with
 | nil=>simp[Sto.get]at h
 | cons x s ih=>
  obtain ⟨k,a⟩:=x;rw[Sto.get_cons]at h;split at h
  .rename_i hk;cases h;subst hk;exact List.mem_cons_self
  exact List.mem_cons_of_mem _ (ih h)
theorem Sto.get_append(s1 s2:Sto)(o:Nat):Sto.get (s1++s2) o=(Sto.get s1 o).or (Sto.get s2 o):=by
 induction s1 with
 | nil=>simp[Sto.get]
 | cons x s ih=>
  obtain ⟨k,a⟩:=x;rw[List.cons_append,Sto.get_cons,Sto.get_cons,ih];split <;> rfl
theorem qBb{l:List Nat}{a:Nat}(h:l.contains a=true):a∈l:=by simpa using h
def AV.okS(rows:List Nat):AV->Bool
 | .pv _=>true
 | .hs r _=>rows.contains r
 | _=>false
def AO.okS(rows:List Nat):AO->Bool
 | .cells cs=>cs.all (AV.okS rows)
 | .row _ _ _ _=>true
 | .opq _ _ _=>true
 | _=>false
def Sto.okS(O:Nat)(rows:List Nat)(σ:Sto):Bool:=σ.all fun p=>(Nat.beq p.1 O || rows.contains p.1) && p.2.okS rows
theorem AV.okS_has{rows:List Nat}{c:AV}{k:Nat}(h:c.okS rows=true)(hk:c.has k=true):k∈rows:=by
 unfold AV.okS at h;split at h
 .simp[AV.has]at hk
 .have:=Nat.eq_of_beq_eq_true hk;subst this;exact qBb h
 cases h
theorem AV.hasL_mem{k:Nat}{cs:List AV}(h:AV.hasL k cs=true):∃c∈cs,c.has k=true:=by
 induction cs with
 | nil=>simp[AV.hasL]at h
 | cons c cs ih=>
  unfold AV.hasL at h;simp only[Bool.or_eq_true]at h;rcases h with h | h
  .exact ⟨c,List.mem_cons_self,h⟩
  obtain ⟨d,hd,h⟩:=ih h;exact ⟨d,List.mem_cons_of_mem _ hd,h⟩
theorem AO.okS_has{rows:List Nat}{ob:AO}{k:Nat}(h:ob.okS rows=true)(hk:ob.has k=true):k∈rows:=by
 cases ob with
 | cells cs=>
  obtain ⟨c,hc,hck⟩:=AV.hasL_mem hk;exact AV.okS_has (List.all_eq_true.1 h c hc) hck
 | row=>simp[AO.has]at hk
 | opq=>simp[AO.has]at hk
 | _=>cases h
theorem Sto.okS_get{O:Nat}{rows:List Nat}{σ:Sto}(h:σ.okS O rows=true){o:Nat}{ob:AO}(ho:σ.get o=some ob):(o=O∨o∈rows)/\ob.okS rows=true:=by
 have:=List.all_eq_true.1 h _ (Sto.get_mem ho);simp only[Bool.and_eq_true,Bool.or_eq_true]at this;exact ⟨this.1.imp Nat.eq_of_beq_eq_true qBb,this.2⟩
structure Own (g:G) (σ:Sto):Prop where
 obj:∀o ob,σ.get o=some ob->RelO g o ob
 apart:∀o o' ob ob' b,σ.get o=some ob->σ.get o' =some ob' ->ob.own (g.loc o) b->ob'.own (g.loc o') b->o=o'
 low:∀o ob b,σ.get o=some ob->ob.own (g.loc o) b->¬GlB b
def SB(g:G)(σ:Sto)(b:Nat):Prop:=∃o ob,σ.get o=some ob/\ob.own (g.loc o) b
structure RunS (P:Program) (f:FuncId) (args:List AV) (σ0:Sto) (r:AV) (σ1:Sto) (O:Nat) (rows:List Nat):Prop where
 ok:∃fn c,FnOk P f fn c
 ok0:σ0.okS O rows=true
 ok1:σ1.okS O rows=true
 run:∀g vs,Wf g->Gl g->Own g σ0->jEa g args vs->CallsIn (fen none) 0 P f vs g.w fun e w' =>∃g' v,g'.w=w' /\(∀k,k ∉ rows->g'.loc k=g.loc k)/\Old (SB g σ0) g g' /\Wf g' /\e=.returned v/\Rel g' r v/\
  (∀o ob,σ1.get o=some ob->RelO g' o ob)/\(∀o o' ob ob' b,σ1.get o=some ob->σ1.get o' =some ob' ->ob.own (g'.loc o) b->ob'.own (g'.loc o') b->o=o')/\
  (∀o ob b,σ1.get o=some ob->ob.own (g'.loc o) b->g.w.heap.size<=b∨SB g σ0 b)
variable {P:Program} {σ:Sto} {dst:Option Tmp} {ty:TypeId} {pos:String} {af:Array Edge} {gu:Option (Nat × Bool)} {E:Env} {fr:Fr} {K:Post}
theorem vrb{g g' :G}{o:Nat}{ob:AO}{rows:List Nat}(hk:ob.okS rows=true)(h:RelO g o ob)(hx:Ext0 g.w g.u g'.w g'.u)(hl:g'.loc o=g.loc o)(hh:∀k∈rows,g'.loc k=g.loc k)
 (hb:∀(b:Nat) (vs:Array Value) (t:TypeId) (fz:Nat × Nat),g.w.heap[b]? =some (Obj.cells vs t fz)->g'.w.heap[b]? =g.w.heap[b]?) (hu:g'.u=g.u):RelO g' o ob:=by
 cases h with
 | @cells cs b t vs h1 h2 h3 h4 h5 h6=>
  exact .cells (hl.trans h1) ((hb _ _ _ _ h2).trans h2) h3 (by rw[hu];exact h4) h5 fun i c hi=>(h6 i c hi).mono0 hx fun k hck=>hh k (AV.okS_has (List.all_eq_true.1 hk c (List.mem_of_getElem? hi)) hck)
 | nil h1=>exact .nil (hl.trans h1)
 | @row e mu size elems b off cap vs h1 h2 h3 h3' h4 h5 h6 h7 h9=>
  exact .row (hl.trans h1) ((hb _ _ _ _ h2).trans h2) h3 h3' h4 h5 (by rw[hu];exact h6) (by rw[hu];exact h7) fun i j x c hi hj=>(h9 i j x c hi hj).mono0 hx
 | @opq t t1 n Q b vs h1 h2 h3 h4 h5=>exact .opq (hl.trans h1) ((hb _ _ _ _ h2).trans h2) h3 (by rw[hu];exact h4) fun w' u' hx' =>h5 w' u' (hx.trans hx')
 | _=>cases hk
def vsb(P:Program)(fn:Func)(r hc:AV)(H:Nat)(T:Array Value)(σ1:Sto):Post:=fun e fr σ=>(e=.ret∨e=.normal)/\(∃cs,ResL P fr σ fn.results.toList cs/\VZa cs=r)/\kBa σ ((H,.hold hc (T.getD 0 undef))::σ1)
theorem vtb{fn:Func}{r hc:AV}{H:Nat}{T:Array Value}{σ1:Sto}:Mono (vsb P fn r hc H T σ1):=fun x fr σ fr' σ' hf hs ⟨h1,⟨cs,h2,h2'⟩,h3⟩=>⟨h1,⟨cs,h2.le hf hs,h2'⟩,qMa hs h3⟩
theorem zQb{f:FuncId}{fn:Func}{c:Code}(hok:FnOk P f fn c){args:List AV}{r hc:AV}{σ0 σ1:Sto}{O H:Nat}{rows:List Nat}(hN:Nat.ble args.length fn.ntmps=true)(hr:∀k,r.has k=true->k∈rows)
 (h0:(args[0]? =some hc/\∀(g g' :G) (v:Value) (ob:AO),(∀o ob,σ0.get o=some ob->RelO g o ob)->σ1.get O=some ob->RelO g' O ob->Rel g hc v->Rel g' hc v->g'.loc O=g.loc O)∨(hc=.any/\Sto.get σ1 O=none))
 (k0:σ0.okS O rows=true) (k1:σ1.okS O rows=true) (hH:Sto.get σ0 H=none) (hH1:Sto.get σ1 H=none)
 (h:∀g0 (hg:Gl g0) (S:Nat->Prop) (sg:∀k,GlB k->¬S k) (T:Array Value),AWP ⟨P,none,g0,fn.ntmps,false,hg,S,sg⟩ c (qda 0 args) ((H,.hold hc (T.getD 0 undef))::σ0) (vsb P fn r hc H T σ1)):RunS P f args σ0 r σ1 O rows:=by
 refine ⟨⟨fn,c,hok⟩,k0,k1,fun g vs hw hgl hown ⟨hsz,ha⟩=>?_⟩;have hN:=Nat.le_of_ble_eq_true hN;have hget0:∀o ob,Sto.get ((H,AO.hold hc (vs.getD 0 undef))::σ0) o=some ob->(o=H/\ob=.hold hc (vs.getD 0 undef))∨(o≠H/\σ0.get o=some ob):=by
  intro o ob ho;rw[Sto.get_cons]at ho;split at ho
  .rename_i hk;cases ho;exact .inl ⟨hk.symm,rfl⟩
  rename_i hk;exact .inr ⟨Ne.symm hk,ho⟩
 refine callsIn_of_wp_marks hok.f hok.b trivial<|wpIn_mono ((h g hgl (SB g σ0) (fun k hk ⟨o,ob,h1,h2⟩=>hown.low o ob k h1 h2 hk) vs).go g _ ⟨fun d=>?_,by simp;omega,⟨Dok.nil _ _,fun _=>rfl⟩,⟨?_,?_,?_,Old.refl _ g,hw⟩⟩) ?_
 .rw[wAa];simp only[Nat.zero_le,if_true,Nat.sub_zero];cases hc:args[d]? with
  | none=>exact .any _
  | some c=>
   have hlt:d < vs.size:=by rw[hsz];exact (List.getElem?_eq_some_iff.1 hc).1
   have:=ha d c hc;rw[Array.getD_eq_getD_getElem?,Array.getElem?_append_left hlt,<-Array.getD_eq_getD_getElem?];exact this
 .intro o ob ho;rcases hget0 o ob ho with ⟨rfl,rfl⟩ | ⟨_,ho⟩
  .rcases h0 with ⟨h0,_⟩ | ⟨rfl,_⟩
   .exact .hold (ha 0 _ h0)
   exact .hold (.any _)
  exact hown.obj o ob ho
 .intro o o' ob ob' b h1 h2 h3 h4;rcases hget0 o ob h1 with ⟨rfl,rfl⟩ | ⟨_,h1⟩
  .cases h3
  rcases hget0 o' ob' h2 with ⟨rfl,rfl⟩ | ⟨_,h2⟩
  .cases h4
  exact hown.apart o o' ob ob' b h1 h2 h3 h4
 .intro o ob b h1 h2;rcases hget0 o ob h1 with ⟨rfl,rfl⟩ | ⟨_,h1⟩
  .cases h2
  exact .inr ⟨o,ob,h1,h2⟩
 rintro e a w' ⟨g',fr',σ',rfl,hst,he,⟨cs,hres,rfl⟩,hle⟩;obtain ⟨bs,hds,hnd,hbs⟩:=hst.df.ok;have hle1:∀o ob,σ1.get o=some ob->∃ob',σ'.get o=some ob' /\RelO g' o ob/\∀l,ob.own l=ob'.own l:=by
  intro o ob ho;have hne:o≠H:=by rintro rfl;rw[hH1]at ho;cases ho
  have hg:Sto.get ((H,AO.hold hc (vs.getD 0 undef))::σ1) o=some ob:=by rw[Sto.get_cons,if_neg (Ne.symm hne)];exact ho
  obtain ⟨ob',h1,h2⟩:=hle.some hg;exact ⟨ob',h1,hle.obj hst.so.obj o ob hg,fun l=>(h2 l).symm⟩
 have hO:(∃ob,σ1.get O=some ob)->g'.loc O=g.loc O:=by
  rintro ⟨ob,hob⟩;rcases h0 with ⟨h0,hloc⟩ | ⟨_,h0⟩
  case inr=>rw[h0]at hob;cases hob
  have hh:=hle H (.hold hc (vs.getD 0 undef)) (by rw[Sto.get_cons,if_pos rfl]);have hh:σ'.get H=some (.hold hc (vs.getD 0 undef)):=by
   rcases hh with hh | ⟨cs,_,hh⟩
   .exact hh
   cases hh
  have h1:=hst.so.obj H _ hh;obtain ⟨_,_,hro,_⟩:=hle1 O ob hob;cases h1 with
  | hold h1=>exact hloc g g' _ ob hown.obj hob hro (ha 0 _ h0) h1
 have key:∀w',Took g'.w bs w' ->∃v,(results fn a.tmps).run P w' =.ok v w' /\∃g'' v',g''.w=w' /\(∀k,k ∉ rows->g''.loc k=g.loc k)/\Old (SB g σ0) g g'' /\Wf g'' /\Ending.returned v=.returned v' /\Rel g'' (VZa cs) v' /\
  (∀o ob,σ1.get o=some ob->RelO g'' o ob)/\(∀o o' ob ob' b,σ1.get o=some ob->σ1.get o' =some ob' ->ob.own (g''.loc o) b->ob'.own (g''.loc o') b->o=o')/\
  (∀o ob b,σ1.get o=some ob->ob.own (g''.loc o) b->g.w.heap.size<=b∨SB g σ0 b):=by
  intro w' ht;have hcellb:∀(k:Nat) (vs:Array Value) (t:TypeId) (fz:Nat × Nat),g'.w.heap[k]? =some (Obj.cells vs t fz)->w'.heap[k]? =g'.w.heap[k]? :=by
   intro k vs t fz hk;refine ht.block k fun hx=>?_
   rw[(hbs k hx).2]at hk;cases hk
  have hx0:Ext0 g'.w g'.u w' g'.u:=⟨Nat.le_of_eq ht.size.symm,fun _ _=>Nat.le_refl _,fun k i hk hi=>by
   by_cases hkb:k∈bs
   .simp[World.cell?,(hbs k hkb).2,ht.took k hkb]
   simp only[World.cell?];rw[ht.block k hkb]⟩
  obtain ⟨v,h1,h2⟩:=Zca (P:=P) (g:=⟨w',g'.u,g'.loc⟩) hres (fun d=>(hst.fr d).mono0 hx0 (fun _ _=>rfl)) (fun k cs' hk=>by
   cases hst.so.obj k _ hk with
   | cells q1 q2 q3 q4 q5 q6=>exact .cells q1 ((hcellb _ _ _ _ q2).trans q2) q3 q4 q5 fun i c hi=>(q6 i c hi).mono0 hx0 (fun _ _=>rfl))
  have hloc:∀o ob,σ1.get o=some ob->(if o∈rows then g'.loc o else g.loc o)=g'.loc o:=by
   intro o ob ho;rcases (Sto.okS_get k1 ho).1 with rfl | hin
   .split
    .rfl
    exact (hO ⟨ob,ho⟩).symm
   rw[if_pos hin]
  refine ⟨v,h1,⟨w',g'.u,fun k=>if k∈rows then g'.loc k else g.loc k⟩,v,rfl,fun k hk=>if_neg hk,⟨ht.os.trans hst.so.old.os,ht.tape.trans hst.so.old.tape,ht.output.trans hst.so.old.output,⟨by rw[ht.size];exact hst.so.old.ext.size,hst.so.old.ext.pub,fun k i hk hi=>?_,fun r' hr' =>?_⟩,fun k hk hs=>?_⟩,fun k hk=>hst.so.wf k (by rw[<-ht.size];exact hk),rfl,
   Rel.mono (g:=⟨w',g'.u,g'.loc⟩) (g' :=⟨w',g'.u,fun k=>if k∈rows then g'.loc k else g.loc k⟩) (Ext.refl w' g'.u) h2 (fun k hk=>if_pos (hr k hk)),?_,?_,?_⟩
  .have hkb:k ∉ bs:=fun hx=>by have:g.w.heap.size<=k:=(hbs k hx).1;omega
   simp only[World.cell?];rw[ht.block k hkb];exact hst.so.old.ext.cell k i hk hi
  .have hkb:r' ∉ bs:=fun hx=>by have:g.w.heap.size<=r' :=(hbs r' hx).1;have:=kJa hr';omega
   rw[ht.block r' hkb];exact hst.so.old.ext.df r' hr'
  .have hkb:k ∉ bs:=fun hx=>by have:g.w.heap.size<=k:=(hbs k hx).1;omega
   rw[ht.block k hkb];exact hst.so.old.block k hk hs
  .intro o ob ho;obtain ⟨_,_,hro,_⟩:=hle1 o ob ho;exact vrb (g:=g') (g' :=⟨w',g'.u,fun k=>if k∈rows then g'.loc k else g.loc k⟩) (Sto.okS_get k1 ho).2 hro hx0 (hloc o ob ho) (fun k hk=>if_pos hk) hcellb rfl
  .intro o o' ob ob' b q1 q2 q3 q4;simp only[hloc o ob q1]at q3;simp only[hloc o' ob' q2]at q4;obtain ⟨_,p1,_,e1⟩:=hle1 o ob q1;obtain ⟨_,p2,_,e2⟩:=hle1 o' ob' q2;rw[e1]at q3;rw[e2]at q4;exact hst.so.apart o o' _ _ b p1 p2 q3 q4
  intro o ob b q1 q2;simp only[hloc o ob q1]at q2;obtain ⟨_,p1,_,e1⟩:=hle1 o ob q1;rw[e1]at q2;exact hst.so.mine o _ b p1 q2
 rcases he with rfl | rfl
 .show LeavesInM _ _ _ _ _ _ _ _ _;rw[hds];exact vFa bs g'.w hnd (fun r' hr' =>(hbs r' hr').2) key
 show LeavesInM _ _ _ _ _ _ _ _ _;rw[hds];exact vFa bs g'.w hnd (fun r' hr' =>(hbs r' hr').2) key
theorem kVb{f:FuncId}{fn:Func}{c:Code}(hok:FnOk P f fn c){args:List AV}{r hc:AV}{σ0 σ1:Sto}{O H:Nat}{rows:List Nat}(hN:Nat.ble args.length fn.ntmps=true)(hr:∀k,r.has k=true->k∈rows)(h0:(hc=.ptr O 0/\args[0]? =some (.ptr O 0))∨(hc=.any/\Sto.get σ1 O=none))
 (k0:σ0.okS O rows=true) (k1:σ1.okS O rows=true) (hH:Sto.get σ0 H=none) (hH1:Sto.get σ1 H=none)
 (h:∀g0 (hg:Gl g0) (S:Nat->Prop) (sg:∀k,GlB k->¬S k) (T:Array Value),AWP ⟨P,none,g0,fn.ntmps,false,hg,S,sg⟩ c (qda 0 args) ((H,.hold hc (T.getD 0 undef))::σ0) (vsb P fn r hc H T σ1)):RunS P f args σ0 r σ1 O rows:=
 zQb hok hN hr (h0.imp (fun ⟨e,h⟩=>⟨e▸h,fun g g' v ob _ _ _ h1 h2=>by
  subst e;cases h1 with
  | ptr q1=>cases h2 with
   | ptr q2=>exact q2.trans q1.symm⟩) id) k0 k1 hH hH1 h
def Sto.dels(ids:List Nat):Sto->Sto
 | []=>[]
 | (k,a)::l=>bif ids.contains k then Sto.dels ids l else (k,a)::Sto.dels ids l
theorem Sto.get_dels(ids:List Nat)(σ:Sto)(o:Nat):(σ.dels ids).get o=if o∈ids then none else σ.get o:=by
 induction σ with
 | nil=>simp[Sto.dels,Sto.get]
 | cons x l ih=>
  obtain ⟨k,a⟩:=x;unfold Sto.dels;cases hc:ids.contains k with
  | true=>
   have hk:k∈ids:=by simpa using hc
   rw[cond_true,ih,Sto.get_cons];by_cases ho:o∈ids
   .rw[if_pos ho,if_pos ho]
   rw[if_neg ho,if_neg ho,if_neg (by rintro rfl;exact ho hk)]
  | false=>
   have hk:k ∉ ids:=by simpa using hc
   rw[cond_false,Sto.get_cons,Sto.get_cons,ih];by_cases ho:k=o
   .subst ho;simp[hk]
   rw[if_neg ho,if_neg ho]
def AV.clrs(rows:List Nat)(c:AV):AV:=bif rows.any (fun r=>c.has r) then .any else c
def Fr.clrs(rows:List Nat):Fr->Fr
 | []=>[]
 | (k,a)::l=>(k,a.clrs rows)::Fr.clrs rows l
def AO.clrs(rows:List Nat):AO->AO
 | .cells cs=>.cells (cs.map (AV.clrs rows))
 | .hold c v=>.hold (c.clrs rows) v
 | o=>o
def Sto.clrs(rows:List Nat):Sto->Sto
 | []=>[]
 | (k,a)::l=>(k,a.clrs rows)::Sto.clrs rows l
theorem Fr.get_clrs(rows:List Nat)(fr:Fr)(d:Nat):(fr.clrs rows).get d=(fr.get d).clrs rows:=by
 induction fr with
 | nil=>unfold Fr.clrs Fr.get AV.clrs;cases rows.any (fun r=>AV.has r AV.any) <;> rfl
 | cons x l ih=>
  obtain ⟨k,a⟩:=x;simp only[Fr.clrs,Fr.get_cons,ih];split <;> rfl
theorem Sto.get_clrs(rows:List Nat)(σ:Sto)(o:Nat):(σ.clrs rows).get o=(σ.get o).map (AO.clrs rows):=by
 induction σ with
 | nil=>rfl
 | cons x l ih=>
  obtain ⟨k,a⟩:=x;simp only[Sto.clrs,Sto.get_cons,ih];split <;> rfl
theorem Wma{g g' :G}{rows:List Nat}(hx:Ext g.w g.u g'.w g'.u)(hl:∀k,k ∉ rows->g'.loc k=g.loc k){c:AV}{v:Value}(h:Rel g c v):Rel g' (c.clrs rows) v:=by
 unfold AV.clrs;cases hc:rows.any (fun r=>c.has r) with
 | true=>exact .any _
 | false=>exact h.mono hx fun k hk=>hl k fun hin=>List.any_eq_false.1 hc k hin hk
theorem AO.own_clrs(rows:List Nat)(ob:AO)(l:Loc):(ob.clrs rows).own l=ob.own l:=by cases ob <;> rfl
theorem wJb{g g' :G}{o:Nat}{ob:AO}{rows:List Nat}(hro:RelO g o ob)(hx:Ext g.w g.u g'.w g'.u)(hl:∀k,k ∉ rows->g'.loc k=g.loc k)(ho:o ∉ rows)
 (hb:∀b,ob.own (g.loc o) b->g'.w.heap[b]? =g.w.heap[b]? /\g'.u b=g.u b):RelO g' o (ob.clrs rows):=by
 cases hro with
 | @cells cs b t vs h1 h2 h3 h4 h5 h6=>
  obtain ⟨b1,b2⟩:=hb b (by rw[h1];rfl);refine .cells ((hl o ho).trans h1) (b1.trans h2) (by simpa using h3) (b2.trans h4) h5 fun i c hi=>?_
  simp only[List.getElem?_map,Option.map_eq_some_iff]at hi;obtain ⟨c',hc',rfl⟩:=hi;exact Wma hx hl (h6 i c' hc')
 | nil h1=>exact .nil ((hl o ho).trans h1)
 | @row e mu size elems b off cap vs h1 h2 h3 h3' h4 h5 h6 h7 h9=>
  obtain ⟨b1,b2⟩:=hb b (by rw[h1];rfl);exact .row ((hl o ho).trans h1) (b1.trans h2) h3 h3' h4 h5 (by rw[b2];exact h6) (by rw[b2];exact h7) fun i j x c hi hj=>(h9 i j x c hi hj).mono hx
 | hold h1=>exact .hold (Wma hx hl h1)
 | sus h1=>exact .sus (h1.mono hx)
 | @lp L b h1 h2=>
  obtain ⟨b1,b2⟩:=hb b (by rw[h1];rfl);exact .lp ((hl o ho).trans h1) (b1.trans h2)
 | @it s pos b h1 h2 h3=>
  obtain ⟨b1,b2⟩:=hb b (by rw[h1];rfl);exact .it ((hl o ho).trans h1) (b1.trans h2) (b2.trans h3)
 | @buf l e b cap vs h1 h2 h3 h4 h5 h6=>
  obtain ⟨b1,b2⟩:=hb b (by rw[h1];rfl);exact .buf ((hl o ho).trans h1) (b1.trans h2) h3 h4 (b2.trans h5) h6
 | @mapo ag es b clock ents h1 h2 h3 h4 h5=>
  obtain ⟨b1,b2⟩:=hb b (by rw[h1];rfl);exact .mapo ((hl o ho).trans h1) (b1.trans h2) (b2.trans h3) h4 fun i k c hi=>by
   obtain ⟨x,e1,e2,e3⟩:=h5 i k c hi;exact ⟨x,e1,e2,e3.mono hx⟩
 | @opq t t1 n Q b vs h1 h2 h3 h4 h5=>
  obtain ⟨b1,b2⟩:=hb b (by rw[h1];rfl);exact .opq ((hl o ho).trans h1) (b1.trans h2) h3 (b2.trans h4) fun w' u' hx' =>h5 w' u' (hx.to0.trans hx')
 | nrowNil h1=>exact .nrowNil ((hl o ho).trans h1)
 | nrow h1 h2 h3 h4 h5 h6 h7 h8 h9 h10 h11 h12=>exact (RelO.nrow h1 h2 h3 h4 h5 h6 h7 h8 h9 h10 h11 h12).mono hx (hl o ho) (fun _ hk=>by cases hk) hb
 | mapr h1 h2 h3 h4 h5 h6 h7=>exact (RelO.mapr h1 h2 h3 h4 h5 h6 h7).mono hx (hl o ho) (fun _ hk=>by cases hk) hb
theorem gl_lt{g:G}(h:Gl g){k:Nat}(hk:GlB k):k < g.w.heap.size:=by
 rcases hk with ⟨p,hp,rfl⟩ | hk
 .obtain ⟨t,fz,h1⟩:=h.2.1 p hp;exact kJa h1
 obtain ⟨tp,x,t,fz,h1⟩:=h.2.2 k hk;exact kJa h1
theorem zUa{f:FuncId}{k:Nat}{xs:List Operand}{ats:Array TypeId}{args:List AV}{r:AV}{σ0 σ1:Sto}{O:Nat}{rows:List Nat}(hr:RunS E.P f args σ0 r σ1 O rows)(hN:Nat.ble (k+1) E.N=true)(ha:xs.map (fun x=>(fr.ev x).weak)=args)(hle:kBa σ σ0):
 OpTo E ⟨some k,.call ⟨.value (.func f),xs.toArray,ats⟩,ty,pos,af,gu⟩ fr σ ((k,r)::fr.clrs rows) (σ1++(σ.dels (O::rows)).clrs rows):=
 ⟨fun g a K Q hst hK=>by
  obtain ⟨fn,c,hok⟩:=hr.ok;refine ⟨fun _ _=>trivial,?_⟩;rw[Oper.semAt_plain _ _ _ (fun c=>by simp),yVa hok (first:= #[]) (cap:= #[]) rfl,Oper.uponIn_enter];refine ⟨fun h=>by simp[fen]at h,?_⟩;have hargs:jEa g args (#[]++xs.toArray.map a.eval++ #[]):=by
   subst ha;refine ⟨by simp,fun i c hi=>?_⟩;simp only[List.getElem?_map,Option.map_eq_some_iff]at hi;obtain ⟨x,hx,rfl⟩:=hi;have:=vya (hst.ev x);simpa[hx]using this
  have hsb:∀b,SB g σ0 b->b < g.w.heap.size/\(E.g0.w.heap.size<=b∨E.S b):=by
   rintro b ⟨o,ob,h1,h2⟩;obtain ⟨ob',h3,h4⟩:=hle.some h1;rw[<-h4]at h2;exact ⟨(hst.so.obj o ob' h3).block_lt h2,hst.so.mine o ob' b h3 h2⟩
  have hown:Own g σ0:=⟨hle.obj hst.so.obj,fun o o' ob ob' b h1 h2 h3 h4=>by
   obtain ⟨_,p1,e1⟩:=hle.some h1;obtain ⟨_,p2,e2⟩:=hle.some h2;rw[<-e1]at h3;rw[<-e2]at h4;exact hst.so.apart o o' _ _ b p1 p2 h3 h4,fun o ob b h1 h2 hb=>by
   rcases (hsb b ⟨o,ob,h1,h2⟩).2 with h3 | h3
   .have:=gl_lt E.gl hb;omega
   exact E.sg b hb h3⟩
  refine (yUa (hr.run g _ hst.so.wf (E.glOf hst.so) hown hargs)).mono ?_;rintro e w' ⟨g',v,rfl,hl,ho,hw,rfl,hv,hobj,hap,hmine⟩;have hget:∀o ob,Sto.get (σ1++(σ.dels (O::rows)).clrs rows) o=some ob->σ1.get o=some ob∨(o ∉ O::rows/\∃ob1,σ.get o=some ob1/\ob=ob1.clrs rows):=by
   intro o ob hg;rw[Sto.get_append]at hg;cases h1:σ1.get o with
   | some ob1=>rw[h1]at hg;exact .inl (by simpa using hg)
   | none=>
    rw[h1,Option.none_or,Sto.get_clrs,Sto.get_dels]at hg;split at hg
    .cases hg
    rename_i hno;cases h2:σ.get o with
    | none=>rw[h2]at hg;cases hg
    | some ob1=>rw[h2]at hg;exact .inr ⟨hno,ob1,rfl,by simpa using hg.symm⟩
  have hout:∀o ob1 b,o ∉ O::rows->σ.get o=some ob1->ob1.own (g.loc o) b->¬SB g σ0 b:=by
   rintro o ob1 b hno ho1 hb ⟨o2,ob2,h2,hb2⟩;obtain ⟨ob3,h3,e3⟩:=hle.some h2;rw[<-e3]at hb2;have:=hst.so.apart o o2 _ _ b ho1 h3 hb hb2;subst this;rcases (Sto.okS_get hr.ok0 h2).1 with rfl | hin
   .exact hno List.mem_cons_self
   exact hno (List.mem_cons_of_mem _ hin)
  have hnr:∀o,o ∉ O::rows->o ∉ rows:=fun o h hin=>h (List.mem_cons_of_mem _ hin)
  have hst' :St E g' a (fr.clrs rows) (σ1++(σ.dels (O::rows)).clrs rows):=by
   refine ⟨fun d=>by rw[Fr.get_clrs];exact Wma ho.ext hl (hst.fr d),hst.n,hst.df.mono ho.ext,⟨?_,?_,?_,?_,hw⟩⟩
   .intro o ob hg;rcases hget o ob hg with h1 | ⟨hno,ob1,ho1,rfl⟩
    .exact hobj o ob h1
    have hro:=hst.so.obj o ob1 ho1;exact wJb hro ho.ext hl (hnr o hno) fun b hb=>ho.block b (hro.block_lt hb) (hout o ob1 b hno ho1 hb)
   .intro o o' ob ob' b h1 h2 h3 h4;rcases hget o ob h1 with h1 | ⟨hno,ob1,ho1,rfl⟩ <;> rcases hget o' ob' h2 with h2 | ⟨hno',ob1',ho1',rfl⟩
    .exact hap o o' ob ob' b h1 h2 h3 h4
    .exfalso;rw[AO.own_clrs,hl o' (hnr o' hno')]at h4;have hlt:=(hst.so.obj o' ob1' ho1').block_lt h4;rcases hmine o ob b h1 h3 with h5 | h5
     .omega
     exact hout o' ob1' b hno' ho1' h4 h5
    .exfalso;rw[AO.own_clrs,hl o (hnr o hno)]at h3;have hlt:=(hst.so.obj o ob1 ho1).block_lt h3;rcases hmine o' ob' b h2 h4 with h5 | h5
     .omega
     exact hout o ob1 b hno ho1 h3 h5
    rw[AO.own_clrs,hl o (hnr o hno)]at h3;rw[AO.own_clrs,hl o' (hnr o' hno')]at h4;exact hst.so.apart o o' ob1 ob1' b ho1 ho1' h3 h4
   .intro o ob b h1 h2;rcases hget o ob h1 with h1 | ⟨hno,ob1,ho1,rfl⟩
    .rcases hmine o ob b h1 h2 with h5 | h5
     .exact .inl (Nat.le_trans hst.so.old.ext.size h5)
     exact (hsb b h5).2
    rw[AO.own_clrs,hl o (hnr o hno)]at h2;exact hst.so.mine o ob1 b ho1 h2
   refine hst.so.old.trans (ho.mono fun b _ hb=>?_);exact (hsb b hb).2.symm
  exact hK g' _ (hst'.put (Nat.le_of_ble_eq_true hN) hv)⟩
section
variable {α:Type} {F:α->List PV} {l:List α} {size:Nat} {e:TypeId}
end
section
variable {g g' :G} {r r' :Nat}
end
section
variable {α:Type} {F:α->List PV} {r' :List α} {size bytes sb ss k lim:Nat} {e t:TypeId} {zero sz:Value} {d:TypeDesc} {x:Operand} {n:Int} {z:α}
end
theorem rfS{P:Program}{f:FuncId}{fn:Func}{c:Code}{args:List AV}{r:AV}{σ0 σ1:Sto}{O H:Nat}{rows:List Nat}(hc:AV)(hok:FnOk P f fn c)(hN:Nat.ble args.length fn.ntmps=true)(hr:∀k,r.has k=true->k∈rows)(h0:(hc=.ptr O 0/\args[0]? =some (.ptr O 0))∨(hc=.any/\Sto.get σ1 O=none))
 (k0:σ0.okS O rows=true) (k1:σ1.okS O rows=true) (hH:Sto.get σ0 H=none) (hH1:Sto.get σ1 H=none)
 (h:∀g0 (hg:Gl g0) (S:Nat->Prop) (sg:∀k,GlB k->¬S k) (T:Array Value),(GS.code c (qda 0 args) ((H,.hold hc (T.getD 0 undef))::σ0) (.base (vsb P fn r hc H T σ1) vtb)).holds ⟨P,none,g0,fn.ntmps,false,hg,S,sg⟩):RunS P f args σ0 r σ1 O rows:=kVb hok hN hr h0 k0 k1 hH hH1 h
theorem krS{P:Program}{T:Tab}{Tm:Array Value}(hT:qba P T){e:Exit}{fn:Func}{cs:List AV}{r hc:AV}{H:Nat}{σ1:Sto}{hm:Mono (vsb P fn r hc H Tm σ1)}(he:isN e=true∨e=.ret)(h:WCa T fr σ fn.results.toList=some cs)(hr:VZa cs=r)(hs:kBa σ ((H,.hold hc (Tm.getD 0 undef))::σ1)):
 (GS.at e fr σ (.base (vsb P fn r hc H Tm σ1) hm)).holds E:=⟨by cases e <;> simp_all [isN],⟨cs,Zha hT h,hr⟩,hs⟩
def AV.okR(rows:List Nat):AV->Bool
 | .agg l=>l.all (AV.okS rows)
 | .ifc _=>true
 | c=>c.okS rows
def AV.okT(rows:List Nat):AV->Bool
 | .tup l=>l.all (AV.okR rows)
 | c=>c.okR rows
theorem AV.okR_has{rows:List Nat}{c:AV}(h:c.okR rows=true){k:Nat}(hk:c.has k=true):k∈rows:=by
 unfold AV.okR at h;split at h
 .obtain ⟨c',hc,hk'⟩:=AV.hasL_mem hk;exact AV.okS_has (List.all_eq_true.1 h c' hc) hk'
 .simp[AV.has]at hk
 exact AV.okS_has h hk
theorem hasT{rows:List Nat}{c:AV}(h:c.okT rows=true):∀k,c.has k=true->k∈rows:=by
 intro k hk;unfold AV.okT at h;split at h
 .obtain ⟨c',hc,hk'⟩:=AV.hasL_mem hk;exact AV.okR_has (List.all_eq_true.1 h c' hc) hk'
 exact AV.okR_has h hk
end
section
open Go.RowKit Go.Lib Go.Proofs.Tryz
variable {E:Env} {fr:Fr} {σ:Sto} {K:Post}
def purF:List Oper->List (Option AV)->List Bool->Fr
 | o::l,some c::cs,b::D=>(match o.dst with | some d=>[(d,bif b then c else .any)] | none=>[])++purF l cs D
 | _::l,none::cs,_::D=>purF l cs D
 | _,_,_=>[]
def y5a(l:List Oper)(cs:List (Option AV))(i:Nat):Option Nat:=match cs[i]? with
 | some (some _)=>(l[i]?).bind (·.dst)
 | _=>none
theorem kWa:∀(l:List Oper) (cs:List (Option AV)) (D:List Bool) (d:Nat),(∀i,y5a l cs i≠some d)->(purF l cs D++fr).get d=fr.get d
 | [],_,_,_,_=>rfl
 | _::_,[],_,_,_=>rfl
 | _::_,some _::_,[],_,_=>rfl
 | _::_,none::_,[],_,_=>rfl
 | o::l,none::cs,b::D,d,h=>kWa l cs D d fun i=>h (i+1)
 | o::l,some c::cs,b::D,d,h=>by
  have ih:=kWa l cs D d fun i=>h (i+1)
  have h0:o.dst≠some d:=h 0;unfold purF;cases hd:o.dst with
  | none=>exact ih
  | some d' =>
   show Fr.get ((d',_)::(purF l cs D++fr)) d=_;rw[Fr.get_cons,if_neg (fun e=>h0 (by rw[hd,e]))];exact ih
theorem qRa:∀(l:List Oper) (cs:List (Option AV)) (D:List Bool) (i:Nat) (c:AV) (d:Nat),(∀i j d,y5a l cs i=some d->y5a l cs j=some d->i=j)->l.length<=D.length->y5a l cs i=some d->cs[i]? =some (some c)->(purF l cs D++fr).get d=bif D.getD i false then c else .any
 | [],_,_,i,_,_,_,_,h,hc=>by unfold y5a at h;rw[hc]at h;simp at h
 | _::_,[],_,i,_,_,_,_,h,hc=>by simp at hc
 | _::_,_::_,[],_,_,_,_,hl,_,_=>by simp at hl
 | o::l,none::cs,b::D,0,c,d,_,_,h,hc=>by simp at hc
 | o::l,none::cs,b::D,i+1,c,d,hd,hl,h,hc=>by
  have:=qRa l cs D i c d (fun i j d h1 h2=>by have:=hd (i+1) (j+1) d h1 h2;omega) (by simpa using hl) h (by simpa using hc);simpa[purF]using this
 | o::l,some c0::cs,b::D,0,c,d,hd,hl,h,hc=>by
  simp at hc;subst hc;have h0:o.dst=some d:=h;unfold purF;rw[h0];show Fr.get ((d,_)::(purF l cs D++fr)) d=_;rw[Fr.get_cons,if_pos rfl];rfl
 | o::l,some c0::cs,b::D,i+1,c,d,hd,hl,h,hc=>by
  have ih:=qRa l cs D i c d (fun i j d h1 h2=>by have:=hd (i+1) (j+1) d h1 h2;omega) (by simpa using hl) h (by simpa using hc);unfold purF;cases h0:o.dst with
  | none=>simpa using ih
  | some d' =>
   show Fr.get ((d',_)::(purF l cs D++fr)) d=_;rw[Fr.get_cons,if_neg (fun e=>by
    have:=hd 0 (i+1) d (by show o.dst=some d;rw[h0,e]) h;omega)]
   simpa using ih
theorem Fr.has_append(q:Nat):∀(x y:Fr),Fr.has q (x++y)=(Fr.has q x || Fr.has q y)
 | [],y=>by simp[Fr.has]
 | (k,a)::x,y=>by simp[Fr.has,Fr.has_append q x y,Bool.or_assoc]
theorem JNa(q:Nat):∀(l:List Oper) (cs:List (Option AV)) (D T:List Bool),T=List.replicate D.length true->Fr.has q (purF l cs D)=true->Fr.has q (purF l cs T)=true
 | [],_,_,_,_,h=>by simp[purF,Fr.has]at h
 | _::_,[],_,_,_,h=>by simp[purF,Fr.has]at h
 | _::_,some _::_,[],_,_,h=>by simp[purF,Fr.has]at h
 | _::_,none::_,[],_,_,h=>by simp[purF,Fr.has]at h
 | o::l,none::cs,b::D,T,hT,h=>by
  subst hT;exact JNa q l cs D _ rfl (by simpa[purF]using h)
 | o::l,some c::cs,b::D,T,hT,h=>by
  subst hT;have ih:=JNa q l cs D _ rfl;unfold purF at h ⊢;simp only[List.length_cons,List.replicate_succ]at h ⊢;cases h0:o.dst with
  | none=>rw[h0]at h;simp[Fr.has_append,Fr.has]at h ⊢;exact ih h
  | some d=>
   rw[h0]at h;simp only[Fr.has_append,Fr.has,Bool.or_false,Bool.or_eq_true,cond_true]at h ⊢;rcases h with h | h
   .refine .inl ?_;cases b with
    | true=>exact h
    | false=>simp[AV.has]at h
   exact .inr (ih h)
structure HvS (E:Env) (o:Oper) (FR:Fr) (σ σ' :Sto):Prop where
 go:∀fr,(∀x∈o.op.operands,fr.ev x=FR.ev x)->(∀q,FR.has q=false->fr.has q=false)->OpTo E o fr σ fr σ'
structure HvD (E:Env) (o:Oper) (FR:Fr) (σ:Sto) (k:Nat) (c:AV) (rs:List Nat) (σ' :Sto):Prop where
 go:∀fr,(∀x∈o.op.operands,fr.ev x=FR.ev x)->(∀q,FR.has q=false->fr.has q=false)->OpTo E o fr σ ((k,c)::fr.clrs rs) σ'
structure HvP (E:Env) (o:Oper) (FR:Fr) (σ:Sto) (rs:List Nat) (σ' :Sto):Prop where
 go:∀fr,(∀x∈o.op.operands,fr.ev x=FR.ev x)->(∀q,FR.has q=false->fr.has q=false)->OpTo E o fr σ (fr.clrs rs) σ'
def allT(l:List Oper):List Bool:=List.replicate l.length true
def qCb(cs:List (Option AV))(rs:List Nat):Bool:=cs.all fun c=>match c with | some c=>rs.all fun r=> !c.has r | none=>true
inductive kWb (E:Env) (l:List Oper) (cs:List (Option AV)) (all:List Node) (H:List Bool) (fr:Fr) (σ:Sto) (i:Nat):Prop
 | pure {o:Oper} {c:AV} (ho:l[i]? =some o) (hc:cs[i]? =some (some c)) (h:OpG E o (purF l cs (allT l)++fr) σ c)
 | sto {o:Oper} {σ' σ2:Sto} {fr2:Fr} (j:Nat) (ho:l[i]? =some o) (hc:cs[i]? =some none) (h:HvS E o (purF l cs (allT l)++fr) σ σ') (hn:all[j]? =some (H.set i true,fr2,σ2)) (hf:FrLe fr fr2) (hs:kBa σ' σ2)
 | dst {o:Oper} {k:Nat} {c:AV} {rs:List Nat} {σ' σ2:Sto} {fr2:Fr} (j:Nat) (ho:l[i]? =some o) (hc:cs[i]? =some none) (hk:((List.range l.length).all fun i=>y5a l cs i !=some k)=true) (hrs:qCb cs rs=true)
  (h:HvD E o (purF l cs (allT l)++fr) σ k c rs σ') (hn:all[j]? =some (H.set i true,fr2,σ2)) (hf:FrLe ((k,c)::fr.clrs rs) fr2) (hs:kBa σ' σ2)
 | put {o:Oper} {rs:List Nat} {σ' σ2:Sto} {fr2:Fr} (j:Nat) (ho:l[i]? =some o) (hc:cs[i]? =some none) (hrs:qCb cs rs=true)
  (h:HvP E o (purF l cs (allT l)++fr) σ rs σ') (hn:all[j]? =some (H.set i true,fr2,σ2)) (hf:FrLe (fr.clrs rs) fr2) (hs:kBa σ' σ2)
inductive yla (E:Env) (l:List Oper) (cs:List (Option AV)) (all:List Node) (H:List Bool) (fr:Fr) (σ:Sto):List Nat->Prop
 | nil:yla E l cs all H fr σ []
 | cons {i:Nat} {is:List Nat} (h:kWb E l cs all H fr σ i) (r:yla E l cs all H fr σ is):yla E l cs all H fr σ (i::is)
def isHv(cs:List (Option AV))(i:Nat):Bool:=match cs[i]? with | some none=>true | _=>false
def mayL(l:List Oper)(cs:List (Option AV))(H:List Bool):List Nat:=(List.range l.length).filter fun i=>
 !(H.getD i false) && (List.range l.length).all fun j=> !(isHv cs j) || ((!(((wZa l l.length).getD i 0).testBit j) || H.getD j false) && (!(H.getD j false) || !(((wZa l l.length).getD j 0).testBit i)))
inductive kXb (E:Env) (l:List Oper) (cs:List (Option AV)) (K:Post) (all:List Node):Node->Prop
 | full {H:List Bool} {fr:Fr} {σ:Sto} (is:List Nat) (hD:mayL l cs H=is) (hs:yla E l cs all H fr σ is) {frJ:Fr} {σJ:Sto} (hf:FrLe (purF l cs (allT l)++fr) frJ) (hso:kBa σ σJ) (h:K .normal frJ σJ):kXb E l cs K all (H,fr,σ)
 | step {H:List Bool} {fr:Fr} {σ:Sto} (is:List Nat) (hD:mayL l cs H=is) (hn:((List.range l.length).all fun i=> !(isHv cs i) || H.getD i false)=false) (hs:yla E l cs all H fr σ is):kXb E l cs K all (H,fr,σ)
inductive KVa (E:Env) (l:List Oper) (cs:List (Option AV)) (K:Post) (all:List Node):List Node->Prop
 | nil:KVa E l cs K all []
 | cons {nd:Node} {r:List Node} (h:kXb E l cs K all nd) (hr:KVa E l cs K all r):KVa E l cs K all (nd::r)
theorem yla.get{l:List Oper}{cs:List (Option AV)}{all:List Node}{H:List Bool}{is:List Nat}(h:yla E l cs all H fr σ is){i:Nat}(hi:i∈is):kWb E l cs all H fr σ i:=by
 induction h with
 | nil=>cases hi
 | cons h _ ih=>
  rcases List.mem_cons.1 hi with rfl | hi
  .exact h
  exact ih hi
theorem KVa.get{l:List Oper}{cs:List (Option AV)}{all r:List Node}(h:KVa E l cs K all r){nd:Node}(hi:nd∈r):kXb E l cs K all nd:=by
 induction h with
 | nil=>cases hi
 | cons h _ ih=>
  rcases List.mem_cons.1 hi with rfl | hi
  .exact h
  exact ih hi
def wKb(N:Nat)(l:List Oper)(cs:List (Option AV)):Bool:=
 v9a .any l.toArray && Nat.beq cs.length l.length && (l.all fun o=>o.guard.isNone) &&
 (l.all fun o=>o.dst.all fun d=>Nat.ble (d+1) N) &&
 ((List.range l.length).all fun i=>isHv cs i || (y5a l cs i).isSome) &&
 ((List.range l.length).all fun i=>(List.range l.length).all fun j=>Nat.beq i j || (y5a l cs i).isNone || y5a l cs i !=y5a l cs j) &&
 (l.all fun o=>(Qwa o).all fun t=>(List.range l.length).all fun j=>y5a l cs j !=some t || qCa o j)
theorem Z1a{rs:List Nat}{c:AV}(h:(rs.all fun r=> !c.has r)=true):c.clrs rs=c:=by
 unfold AV.clrs;have:(rs.any fun r=>c.has r)=false:=by
  rw[List.any_eq_false];intro r hr;have:=List.all_eq_true.1 h r hr;simpa using this
 rw[this];rfl
theorem Y7a{id:Nat}{l:List Oper}(cs:List (Option AV))(all:List Node){H0:List Bool}{fr0:Fr}{σ0:Sto}(hmix:E.P.follows .mixedOrders=true)(hok:wKb E.N l cs=true)(h0:all[0]? =some (H0,fr0,σ0))(hH0:H0=List.replicate l.length false)
 (hf:FrLe fr fr0) (hs:kBa σ σ0) (h:KVa E l cs K all all):AWP E (.region id l.toArray true) fr σ K:=by
 simp only[wKb,Bool.and_eq_true,List.all_eq_true]at hok;obtain ⟨⟨⟨⟨⟨⟨hlb,hlen⟩,hgd⟩,hN⟩,hall⟩,hdist⟩,hdat⟩:=hok;have hlen:=Nat.eq_of_beq_eq_true hlen;have hdl:∀i d,y5a l cs i=some d->i < l.length:=by
  intro i d hd;rcases Nat.lt_or_ge i l.length with h1 | h1
  .exact h1
  unfold y5a at hd;rw[List.getElem?_eq_none (by omega)]at hd;cases hd
 have hdist' :∀i j d,y5a l cs i=some d->y5a l cs j=some d->i=j:=by
  intro i j d h1 h2;have:=hdist i (by simpa using hdl i d h1) j (by simpa using hdl j d h2);simp only[Bool.or_eq_true,bne_iff_ne,ne_eq]at this;rcases this with (h3 | h3) | h3
  .exact Nat.eq_of_beq_eq_true h3
  .rw[h1]at h3;cases h3
  exact absurd (h1.trans h2.symm) h3
 have hdirD:∀{D:Nat->Bool} {o:Oper} {j:Nat},(∀e∈o.after,Region.binds .any e=true->D e.on=true)->qCa o j=true->D j=true:=by
  intro D o j he hd;simp only[qCa,List.any_eq_true,Bool.and_eq_true]at hd;obtain ⟨e,h1,h2,h3⟩:=hd;rw[<-Nat.eq_of_beq_eq_true h3];exact he e (by simpa using h1) h2
 let bits:(Nat->Bool)->List Bool:=fun D=>(List.range l.length).map D
 have hbl:∀D,(bits D).length=l.length:=fun D=>by simp[bits]
 have hbg:∀D i,i < l.length->(bits D).getD i false=D i:=fun D i hi=>by simp[bits,List.getD_eq_getElem?_getD,hi]
 have hTl:(allT l).length=l.length:=by simp[allT]
 have hTg:∀i,i < l.length->(allT l).getD i false=true:=fun i hi=>by simp[allT,List.getD_eq_getElem?_getD,hi]
 have hslot:∀d,(∃i c,y5a l cs i=some d/\cs[i]? =some (some c)/\i < l.length)∨(∀i,y5a l cs i≠some d):=by
  intro d;by_cases hex:∃i,y5a l cs i=some d
  .obtain ⟨i,hi⟩:=hex;refine .inl ⟨i,?_⟩;have hil:=hdl i d hi;cases hc:cs[i]? with
   | none=>unfold y5a at hi;rw[hc]at hi;cases hi
   | some x=>
    cases x with
    | none=>unfold y5a at hi;rw[hc]at hi;cases hi
    | some c=>exact ⟨c,hi,rfl,hil⟩
  exact .inr fun i hi=>hex ⟨i,hi⟩
 have hev:∀(D:Nat->Bool) (o:Oper) (frA:Fr),o∈l->(∀e∈o.after,Region.binds .any e=true->D e.on=true)->∀x∈o.op.operands,(purF l cs (bits D)++frA).ev x=(purF l cs (allT l)++frA).ev x:=by
  intro D o frA hm he x hx;cases x with
  | const v=>rfl
  | global q=>rfl
  | func f=>rfl
  | tmp t=>
   show (purF l cs (bits D)++frA).get t=(purF l cs (allT l)++frA).get t;rcases hslot t with ⟨i,c,h1,h2,h3⟩ | h1
   .rw[qRa l cs (bits D) i c t hdist' (by rw[hbl];omega) h1 h2,qRa l cs (allT l) i c t hdist' (by rw[hTl];omega) h1 h2,hbg D i h3,hTg i h3];have:=hdat o hm t (by simp only[Qwa,List.mem_filterMap];exact ⟨.tmp t,by simpa using hx,rfl⟩) i (by simpa using h3);simp only[Bool.or_eq_true,bne_iff_ne,ne_eq]at this;rcases this with h4 | h4
    .exact absurd h1 h4
    rw[hdirD he h4]
   rw[kWa l cs _ t h1,kWa l cs _ t h1]
 have hhas:∀(D:Nat->Bool) (frA:Fr) q,(purF l cs (allT l)++frA).has q=false->(purF l cs (bits D)++frA).has q=false:=by
  intro D frA q hq;rw[Fr.has_append,Bool.or_eq_false_iff]at hq ⊢;refine ⟨?_,hq.2⟩;cases hb:Fr.has q (purF l cs (bits D)) with
  | false=>rfl
  | true=>
   have:=JNa q l cs (bits D) (allT l) (by rw[hbl];rfl) hb;rw[this]at hq;cases hq.1
 let J:(Nat->Bool)->Act->World->Prop:=fun D a w=>(∀i o,l[i]? =some o->D i=true->∀e∈o.after,Region.binds .any e=true->D e.on=true)/\
  ∃nd∈all,nd.1.length=l.length/\(∀i,i < l.length->isHv cs i=true->D i=nd.1.getD i false)/\(∀i,i < l.length->isHv cs i=false->nd.1.getD i false=false)/\∃g,g.w=w/\St E g a (purF l cs (bits D)++nd.2.1) nd.2.2
 refine ⟨fun g a hst=>qXa hmix hlb J ?_ ?_ ?_⟩
 .refine ⟨fun i o _ hd=>by simp at hd,_,List.mem_of_getElem? h0,by subst hH0;simp,fun i hi _=>by subst hH0;simp[List.getD_eq_getElem?_getD,hi],fun i hi _=>by subst hH0;simp[List.getD_eq_getElem?_getD,hi],⟨g.w.drew,g.u,g.loc⟩,rfl,(hst.le (fun d=>?_) hs).drew⟩;rcases hslot d with ⟨i,c,h1,h2,h3⟩ | h1
  .rw[qRa l cs _ i c d hdist' (by rw[hbl];omega) h1 h2,hbg _ i h3];exact .inl rfl
  rw[kWa l cs _ d h1];exact hf d
 .rintro D a w ⟨_,⟨H,frA,σA⟩,hm,hl,hD,_,g,rfl,hst'⟩ hfin;have hfin' :∀i,i < l.length->D i=true:=fun i hi=>hfin i (by simpa using hi)
  cases h.get hm with
  | full is _ _ hfJ hsJ hk=>
   refine ⟨g,_,_,rfl,St.le ?_ hfJ hsJ,hk⟩;have:bits D=allT l:=by
    apply List.ext_getElem (by rw[hbl,hTl]);intro i h1 h2;have hi:i < l.length:=by rw[hbl]at h1;exact h1
    simp[bits,allT,hfin' i hi]
   rw[<-this];exact hst'
  | step is _ hn _=>
   exfalso;have:((List.range l.length).all fun i=> !(isHv cs i) || H.getD i false)=true:=by
    rw[List.all_eq_true];intro i hi;have hi:i < l.length:=by simpa using hi
    cases hh:isHv cs i with
    | false=>rfl
    | true=>rw[<-hD i hi hh,hfin' i hi];rfl
   rw[this]at hn;cases hn
 rintro D a w i o ⟨hcl,⟨H,frA,σA⟩,hm,hl,hD,hD0,g,rfl,hst'⟩ ho hDi he;have ho' :l[i]? =some o:=by simpa using ho
 have hil:i < l.length:=(List.getElem?_eq_some_iff.1 ho').1;have hom:o∈l:=List.mem_of_getElem? ho';have hgo:o.guard=none:=by simpa using hgd o hom
 have hcl' :∀i' o',l[i']? =some o' ->upd D i i' =true->∀e∈o'.after,Region.binds .any e=true->upd D i e.on=true:=by
  intro i' o' h1 h2 e h3 h4;unfold upd at h2 ⊢;split
  .rfl
  split at h2
  .rename_i hii;subst hii;rw[ho']at h1;cases h1;exact he e h3 h4
  exact hcl i' o' h1 h2 e h3 h4
 have hmay:i∈mayL l cs H:=by
  simp only[mayL,List.mem_filter,List.mem_range,Bool.and_eq_true,Bool.not_eq_true',List.all_eq_true,Bool.or_eq_true];refine ⟨hil,?_,fun j hj=>?_⟩
  .cases hh:isHv cs i with
   | true=>rw[<-hD i hil hh];exact hDi
   | false=>exact hD0 i hil hh
  cases hh:isHv cs j with
  | false=>exact .inl rfl
  | true=>
   refine .inr ⟨?_,?_⟩
   .cases hb:((wZa l l.length).getD i 0).testBit j with
    | false=>exact .inl rfl
    | true=>exact .inr (by rw[<-hD j hj hh];exact w0a hcl l.length i o ho' he j hb)
   cases hHj:H.getD j false with
   | false=>exact .inl rfl
   | true=>
    refine .inr ?_;cases hb:((wZa l l.length).getD j 0).testBit i with
    | false=>rfl
    | true=>
     have:=ZWa hcl l.length j i hb (by rw[hD j hj hh];exact hHj);rw[hDi]at this;cases this
 have hstep:kWb E l cs all H frA σA i:=by
  cases h.get hm with
  | full is hD2 hs _ _ _=>exact (hD2▸hs:yla E l cs all H frA σA (mayL l cs H)).get hmay
  | step is hD2 _ hs=>exact (hD2▸hs:yla E l cs all H frA σA (mayL l cs H)).get hmay
 have hw:Region.wanted o (yielded l.toArray a.tmps)=true:=by simp[Region.wanted,hgo]
 have hheavy:∀(_:cs[i]? =some none),(∀k,k < l.length->isHv cs k=true->upd D i k=(H.set i true).getD k false)/\(∀k,k < l.length->isHv cs k=false->(H.set i true).getD k false=false)/\∀frX d,(purF l cs (bits (upd D i))++frX).get d=(purF l cs (bits D)++frX).get d:=by
  intro hc;have hhv:isHv cs i=true:=by unfold isHv;rw[hc]
  refine ⟨fun k hk hh=>?_,fun k hk hh=>?_,fun frX d=>?_⟩
  .unfold upd;simp only[List.getD_eq_getElem?_getD,List.getElem?_set];by_cases hki:k=i
   .subst hki;simp[hl,hk]
   rw[if_neg hki,if_neg (Ne.symm hki),<-List.getD_eq_getElem?_getD];exact hD k hk hh
  .have hki:k≠i:=by rintro rfl;rw[hhv]at hh;cases hh
   simp only[List.getD_eq_getElem?_getD,List.getElem?_set];rw[if_neg (Ne.symm hki),<-List.getD_eq_getElem?_getD];exact hD0 k hk hh
  rcases hslot d with ⟨j,c,h1,h2,h3⟩ | h1
  .rw[qRa l cs _ j c d hdist' (by rw[hbl];omega) h1 h2,qRa l cs _ j c d hdist' (by rw[hbl];omega) h1 h2,hbg _ j h3,hbg _ j h3];have hji:j≠i:=by rintro rfl;rw[hc]at h2;cases h2
   unfold upd;rw[if_neg hji]
  rw[kWa l cs _ d h1,kWa l cs _ d h1]
 unfold wpOpIn;rw[ho];simp only[hw,if_true];cases hstep with
 | @pure o2 c ho2 hc hop=>
  rw[ho']at ho2;cases ho2;have hhv:isHv cs i=false:=by unfold isHv;rw[hc]
  have hops:∀x∈o.op.operands,Rel g ((purF l cs (allT l)++frA).ev x) (a.eval x):=fun x hx=>by
   rw[<-hev D o frA hom he x hx];exact hst'.ev x
  obtain ⟨d,hd⟩:∃d,y5a l cs i=some d:=by
   have:=hall i (by simpa using hil);rw[hhv]at this;simpa[Option.isSome_iff_exists]using this
  have hod:o.dst=some d:=by
   unfold y5a at hd;rw[hc,ho']at hd;simpa using hd
  refine hop.go g a _ _ hops hst'.so fun g' v h1 h2 h3 h4=>⟨hcl',(H,frA,σA),hm,hl,fun k hk hh=>?_,hD0,g',rfl,?_⟩
  .have hki:k≠i:=by rintro rfl;rw[hhv]at hh;cases hh
   unfold upd;rw[if_neg hki];exact hD k hk hh
  have hdN:d < E.N:=by
   have:=hN o hom;rw[hod]at this;exact Nat.le_of_ble_eq_true (by simpa using this)
  have hsz:=hst'.n;refine ⟨fun d' =>?_,by rw[hod];simp[Act.put,hsz],by rw[hod];exact hst'.df.mono h1.ext,hst'.so.grow h1 h2 (fun k _=>by rw[h3])⟩;have hget:(a.put o.dst v).tmps.getD d' undef=if d=d' then v else a.tmps.getD d' undef:=by
   rw[hod];simp only[Act.put];rw[qNa];by_cases h5:d=d'
   .rw[if_pos ⟨h5,by omega⟩,if_pos h5]
   rw[if_neg (fun x=>h5 x.1),if_neg h5]
  rw[hget];by_cases h5:d=d'
  .subst h5;rw[if_pos rfl,qRa l cs _ i c d hdist' (by rw[hbl];omega) hd hc,hbg _ i hil];have:upd D i i=true:=by unfold upd;rw[if_pos rfl]
   rw[this];exact h4
  rw[if_neg h5];have hsame:(purF l cs (bits (upd D i))++frA).get d' =(purF l cs (bits D)++frA).get d' :=by
   rcases hslot d' with ⟨j,c',q1,q2,q3⟩ | q1
   .rw[qRa l cs _ j c' d' hdist' (by rw[hbl];omega) q1 q2,qRa l cs _ j c' d' hdist' (by rw[hbl];omega) q1 q2,hbg _ j q3,hbg _ j q3];have hji:j≠i:=by rintro rfl;rw[hd]at q1;cases q1;exact h5 rfl
    unfold upd;rw[if_neg hji]
   rw[kWa l cs _ d' q1,kWa l cs _ d' q1]
  rw[hsame];exact (hst'.fr d').mono h1.ext (fun k _=>by rw[h3])
 | @sto o2 σ' σ2 fr2 j ho2 hc hop hn hf2 hs2=>
  rw[ho']at ho2;cases ho2;obtain ⟨q1,q2,q3⟩:=hheavy hc;refine (hop.go _ (hev D o frA hom he) (hhas D frA)).go g a _ _ hst' fun g' a' hst2=>⟨hcl',_,List.mem_of_getElem? hn,by simp[hl],q1,q2,g',rfl,hst2.le (fun d=>?_) hs2⟩
  rw[q3];rcases hslot d with ⟨k,c,h1,h2,h3⟩ | h1
  .rw[qRa l cs _ k c d hdist' (by rw[hbl];omega) h1 h2,qRa l cs _ k c d hdist' (by rw[hbl];omega) h1 h2];exact .inr (.inl rfl)
  rw[kWa l cs _ d h1,kWa l cs _ d h1];exact hf2 d
 | @dst o2 k c rs σ' σ2 fr2 j ho2 hc hk hrs hop hn hf2 hs2=>
  rw[ho']at ho2;cases ho2;obtain ⟨q1,q2,q3⟩:=hheavy hc;refine (hop.go _ (hev D o frA hom he) (hhas D frA)).go g a _ _ hst' fun g' a' hst2=>⟨hcl',_,List.mem_of_getElem? hn,by simp[hl],q1,q2,g',rfl,hst2.le (fun d=>?_) hs2⟩
  rw[q3];rcases hslot d with ⟨m,c',h1,h2,h3⟩ | h1
  .have hkd:k≠d:=by
    rintro rfl;have:=List.all_eq_true.1 hk m (by simpa using h3);simp[h1]at this
   rw[Fr.get_cons,if_neg hkd,Fr.get_clrs,qRa l cs _ m c' d hdist' (by rw[hbl];omega) h1 h2,qRa l cs _ m c' d hdist' (by rw[hbl];omega) h1 h2];refine .inr (.inl ?_);cases (bits D).getD m false with
   | false=>exact Z1a (by rw[List.all_eq_true];intro r _;rfl)
   | true=>
    refine Z1a ?_;have:=List.all_eq_true.1 hrs _ (List.mem_of_getElem? h2);exact this
  have:=hf2 d;rw[Fr.get_cons,Fr.get_clrs]at this ⊢;rw[kWa l cs _ d h1,kWa l cs _ d h1];exact this
 | @put o2 rs σ' σ2 fr2 j ho2 hc hrs hop hn hf2 hs2=>
  rw[ho']at ho2;cases ho2;obtain ⟨q1,q2,q3⟩:=hheavy hc;refine (hop.go _ (hev D o frA hom he) (hhas D frA)).go g a _ _ hst' fun g' a' hst2=>⟨hcl',_,List.mem_of_getElem? hn,by simp[hl],q1,q2,g',rfl,hst2.le (fun d=>?_) hs2⟩
  rw[q3];rcases hslot d with ⟨m,c',h1,h2,h3⟩ | h1
  .rw[Fr.get_clrs,qRa l cs _ m c' d hdist' (by rw[hbl];omega) h1 h2,qRa l cs _ m c' d hdist' (by rw[hbl];omega) h1 h2];refine .inr (.inl ?_);cases (bits D).getD m false with
   | false=>exact Z1a (by rw[List.all_eq_true];intro r _;rfl)
   | true=>
    refine Z1a ?_;have:=List.all_eq_true.1 hrs _ (List.mem_of_getElem? h2);exact this
  have:=hf2 d;rw[Fr.get_clrs]at this ⊢;rw[kWa l cs _ d h1,kWa l cs _ d h1];exact this
section
variable {FR:Fr} {ty:TypeId} {pos:String} {af:Array Edge} {gu:Option (Nat × Bool)} {T:Tab} {P:Program} {id k r size bytes:Nat} {e t:TypeId} {zero:Value} {d:TypeDesc}
theorem mqz{o:Oper}{c:AV}(hT:qba E.P T)(h:qval T FR.ev σ o.op=some c):OpG E o FR σ c:=zta (Vna hT h)
theorem kYb{o:Oper}{fr' fr2:Fr}{σ' σ2:Sto}(h:OpTo E o fr σ fr' σ')(hf:FrLe fr' fr2)(hs:kBa σ' σ2):OpTo E o fr σ fr2 σ2:=
 ⟨fun g a K Q hst hK=>h.go g a K Q hst fun g' a' h' =>hK g' a' (h'.le hf hs)⟩
theorem vIa:kBa σ σ:=fun _ _ h=>.inl h
theorem Y8a{c:AV}:FrLe ((k,c)::fr) ((k,c)::fr.clrs []):=fun d=>by
 rw[Fr.get_cons,Fr.get_cons,Fr.get_clrs,Z1a rfl];exact .inr (.inl rfl)
theorem KCa{x y:Operand}{o off:Nat}{cs vs:List AV}(hx:FR.ev x=.ptr o off)(ho:σ.get o=some (.cells cs))(hy:(FR.ev y).cells=some vs)(ht:TyOk E.P t size bytes zero d)(hz:Nat.beq vs.length size=true)(hle:Nat.ble (off+vs.length) cs.length=true):
 HvS E ⟨none,.store t x y,ty,pos,af,gu⟩ FR σ (σ.upd o (.cells (KPa cs off vs))):=
 ⟨fun fr he _=>YYa ((he x (by simp[Op.operands,Call.operands])).trans hx) ho (by rw[he y (by simp[Op.operands,Call.operands])];exact hy) ht hz hle⟩
theorem JOa(id:Nat){cs:List AV}(hN:Nat.ble (k+1) E.N=true)(ht:TyOk E.P t size bytes zero d)(hz:(wna zero).cells=some cs∨zero.cells.toList.map wna=cs/\zero.cells.toList.all cellV=true)(hf:FR.has id=false)(hs:σ.has id=false)(hcs:AV.hasL id cs=false):
 HvD E ⟨some k,.alloc t,ty,pos,af,gu⟩ FR σ k (.ptr id 0) [] ((id,.cells cs)::σ):=
 ⟨fun fr _ hh=>kYb (Kwa id hN ht hz (hh id hf) hs hcs) Y8a vIa⟩
theorem JPa{f:FuncId}{xs:List Operand}{ats:Array TypeId}{args:List AV}{els:List (List PV)}(r:Nat)(hr:RunO E.P f args e size els)(hN:Nat.ble (k+1) E.N=true)(hf:FR.has r=false)(hs:σ.has r=false)(ha:xs.map (fun x=>(FR.ev x).weak)=args):
 HvD E ⟨some k,.call ⟨.value (.func f),xs.toArray,ats⟩,ty,pos,af,gu⟩ FR σ k (.hs r 0) [] ((r,.row e true size els)::σ):=
 ⟨fun fr he hh=>kYb (KBa r hr hN (hh r hf) hs (by
  rw[<-ha];refine List.map_congr_left fun x hx=>?_
  rw[he x (by simp[Op.operands,Call.operands,hx])])) Y8a vIa⟩
end
end
section
def wu64(n:Int):Int:=n % 18446744073709551616
theorem QHa(n:Int):IntKind.u64.wrap n=wu64 n:=by simp[IntKind.wrap,IntKind.bits,IntKind.signed,wu64]
def uOr(a b:Int):Int:=((BitVec.ofInt 64 a ||| BitVec.ofInt 64 b).toNat:Int)
def uAnd(a b:Int):Int:=((BitVec.ofInt 64 a &&& BitVec.ofInt 64 b).toNat:Int)
def uXor(a b:Int):Int:=((BitVec.ofInt 64 a ^^^ BitVec.ofInt 64 b).toNat:Int)
def uShl(a n:Int):Int:=wu64 (a * 2 ^ min n.toNat 64)
def uShr(a n:Int):Int:=a / 2 ^ min n.toNat 64
def nng(b:Int):Option Bool:=if 0<=b then some true else none
theorem KDa{b:Int}{r:Bool}(h:nng b=some r):0<=b:=by
 unfold nng at h;split at h
 .assumption
 cases h
theorem wu64_bv(v:BitVec 64):wu64 (v.toNat:Int)=(v.toNat:Int):=by
 have:=v.isLt;unfold wu64;omega
section
variable {P:Program} {ρ:Operand->AV} {σ:Sto} {dst:Option Tmp} {ty:TypeId} {pos:String} {af:Array Edge} {gu:Option (Nat × Bool)} {x y:Operand} {t t' :TypeId} {ss sb ss' sb' :Nat} {sz sz' :Value} {a b n:Int}
theorem WFa(hx:ρ x=.i n)(ha:TyOk P t ss sb sz (.int .i64))(hb:TyOk P t' ss' sb' sz' (.int .u64)):EvQ P ⟨dst,.convert t t' x,ty,pos,af,gu⟩ ρ σ (.pv (.b (.int .u64 (wu64 n)))):=
 ⟨fun c=>by simp,fun g ρv h _=>by
  have h1:=h x (by simp[Op.operands]);rw[hx]at h1;have e1:=ksa h1;refine ⟨.int .u64 (wu64 n),?_,.pv (.b rfl)⟩;simp[execOp,convert,e1,go_sem,underlying,ha.u,hb.u,Conv.intToInt,QHa]⟩
theorem jPa(hx:ρ x=.pv (.b (.int .u64 n)))(ha:TyOk P t ss sb sz (.int .u64))(hb:TyOk P t' ss' sb' sz' (.int .i64)):EvQ P ⟨dst,.convert t t' x,ty,pos,af,gu⟩ ρ σ (.i (w64 n)):=
 ⟨fun c=>by simp,fun g ρv h _=>by
  have h1:=h x (by simp[Op.operands]);rw[hx]at h1;have e1:=ksa h1;refine ⟨.int .i64 (w64 n),?_,.pv (.b rfl)⟩;simp[execOp,convert,e1,go_sem,underlying,ha.u,hb.u,Conv.intToInt]⟩
theorem JQa(hx:ρ x=.pv (.b (.int .u64 n)))(ha:TyOk P t ss sb sz (.int .u64))(hb:TyOk P t' ss' sb' sz' (.int .u8)):EvQ P ⟨dst,.convert t t' x,ty,pos,af,gu⟩ ρ σ (.u8 (toU8 n)):=
 ⟨fun c=>by simp,fun g ρv h _=>by
  have h1:=h x (by simp[Op.operands]);rw[hx]at h1;have e1:=ksa h1;refine ⟨.int .u8 (toU8 n).toNat,?_,.pv (.b rfl)⟩;simp[execOp,convert,e1,go_sem,underlying,ha.u,hb.u,Conv.intToInt,v4b]⟩
theorem KEa{c:UInt8}(hx:ρ x=.u8 c)(ha:TyOk P t ss sb sz (.int .u8))(hb:TyOk P t' ss' sb' sz' (.int .u64)):EvQ P ⟨dst,.convert t t' x,ty,pos,af,gu⟩ ρ σ (.pv (.b (.int .u64 (c.toNat:Int)))):=
 ⟨fun c=>by simp,fun g ρv h _=>by
  have h1:=h x (by simp[Op.operands]);rw[hx]at h1;have e1:=ksa h1;have hlt:=c.toNat_lt;have hw:IntKind.u64.wrap (c.toNat:Int)=c.toNat:=by rw[QHa];unfold wu64;omega
  refine ⟨.int .u64 c.toNat,?_,.pv (.b rfl)⟩;simp[execOp,convert,e1,go_sem,underlying,ha.u,hb.u,Conv.intToInt,hw]⟩
theorem zRb{op:BinOp}{r:Int}(hx:ρ x=.pv (.b (.int .u64 a)))(hy:ρ y=.pv (.b (.int .u64 b)))(hr:(op=.add/\r=wu64 (a+b))∨(op=.sub/\r=wu64 (a - b))∨(op=.mul/\r=wu64 (a * b))):EvQ P ⟨dst,.binOp op t x y t',ty,pos,af,gu⟩ ρ σ (.pv (.b (.int .u64 r))):=
 ⟨fun c=>by simp,fun g ρv h _=>by
  obtain ⟨h1,h2⟩:=ops2 (o:=⟨dst,.binOp op t x y t',ty,pos,af,gu⟩) (x:=x) (y:=y) rfl h;rw[hx]at h1;rw[hy]at h2;have e1:=ksa h1;have e2:=ksa h2;refine ⟨.int .u64 r,?_,.pv (.b rfl)⟩;rcases hr with ⟨rfl,rfl⟩ | ⟨rfl,rfl⟩ | ⟨rfl,rfl⟩ <;> simp[execOp,e1,e2,go_sem,eqGuard,binOp,Op.intArith,QHa]⟩
theorem ev_uadd(hx:ρ x=.pv (.b (.int .u64 a)))(hy:ρ y=.pv (.b (.int .u64 b))):EvQ P ⟨dst,.binOp .add t x y t',ty,pos,af,gu⟩ ρ σ (.pv (.b (.int .u64 (wu64 (a+b))))):=zRb hx hy (.inl ⟨rfl,rfl⟩)
theorem kZb(hx:ρ x=.pv (.b (.int .u64 a)))(hy:ρ y=.pv (.b (.int .u64 b))):EvQ P ⟨dst,.binOp .mul t x y t',ty,pos,af,gu⟩ ρ σ (.pv (.b (.int .u64 (wu64 (a * b))))):=zRb hx hy (.inr (.inr ⟨rfl,rfl⟩))
theorem qDb{op:BinOp}{r:Int}(hx:ρ x=.pv (.b (.int .u64 a)))(hy:ρ y=.pv (.b (.int .u64 b)))(hr:(op=.or/\r=uOr a b)∨(op=.and/\r=uAnd a b)∨(op=.xor/\r=uXor a b)):EvQ P ⟨dst,.binOp op t x y t',ty,pos,af,gu⟩ ρ σ (.pv (.b (.int .u64 r))):=
 ⟨fun c=>by simp,fun g ρv h _=>by
  obtain ⟨h1,h2⟩:=ops2 (o:=⟨dst,.binOp op t x y t',ty,pos,af,gu⟩) (x:=x) (y:=y) rfl h;rw[hx]at h1;rw[hy]at h2;have e1:=ksa h1;have e2:=ksa h2;refine ⟨.int .u64 r,?_,.pv (.b rfl)⟩;rcases hr with ⟨rfl,rfl⟩ | ⟨rfl,rfl⟩ | ⟨rfl,rfl⟩ <;> (simp[execOp,e1,e2,go_sem,eqGuard,binOp,Op.intBits];exact (QHa _).trans (wu64_bv _))⟩
theorem wLb(hx:ρ x=.pv (.b (.int .u64 a)))(hy:ρ y=.pv (.b (.int .u64 b))):EvQ P ⟨dst,.binOp .or t x y t',ty,pos,af,gu⟩ ρ σ (.pv (.b (.int .u64 (uOr a b)))):=qDb hx hy (.inl ⟨rfl,rfl⟩)
theorem wMb(hx:ρ x=.pv (.b (.int .u64 a)))(hy:ρ y=.pv (.b (.int .u64 b))):EvQ P ⟨dst,.binOp .xor t x y t',ty,pos,af,gu⟩ ρ σ (.pv (.b (.int .u64 (uXor a b)))):=qDb hx hy (.inr (.inr ⟨rfl,rfl⟩))
theorem zSb{op:BinOp}{r:Int}{yk:IntKind}(hx:ρ x=.pv (.b (.int .u64 a)))(hy:ρ y=.pv (.b (.int yk b)))(hb:0<=b)(hr:(op=.shl/\r=uShl a b)∨(op=.shr/\r=uShr a b)):EvQ P ⟨dst,.binOp op t x y t',ty,pos,af,gu⟩ ρ σ (.pv (.b (.int .u64 r))):=
 ⟨fun c=>by simp,fun g ρv h _=>by
  obtain ⟨h1,h2⟩:=ops2 (o:=⟨dst,.binOp op t x y t',ty,pos,af,gu⟩) (x:=x) (y:=y) rfl h;rw[hx]at h1;rw[hy]at h2;have e1:=ksa h1;have e2:=ksa h2;refine ⟨.int .u64 r,?_,.pv (.b rfl)⟩;have hnl:¬b < 0:=by omega
  have hp:(0:Int)<=2 ^ min b.toNat 64:=Int.le_of_lt (Int.pow_pos (by decide));rcases hr with ⟨rfl,rfl⟩ | ⟨rfl,rfl⟩
  .show Sem.run P (do let v <-(do eqGuard .shl t x y (ρv x) (ρv y);binOp .shl t (ρv x) (ρv y));pure (Next.value v)) g.w=_;rw[e1,e2];simp only[eqGuard,binOp,Op.shift,if_neg hnl,IntKind.bits,QHa];rfl
  show Sem.run P (do let v <-(do eqGuard .shr t x y (ρv x) (ρv y);binOp .shr t (ρv x) (ρv y));pure (Next.value v)) g.w=_;rw[e1,e2];simp only[eqGuard,binOp,Op.shift,if_neg hnl,IntKind.bits,Int.fdiv_eq_ediv_of_nonneg _ hp];rfl⟩
theorem k0b{yk:IntKind}(hx:ρ x=.pv (.b (.int .u64 a)))(hy:ρ y=.pv (.b (.int yk b)))(hb:0<=b):EvQ P ⟨dst,.binOp .shl t x y t',ty,pos,af,gu⟩ ρ σ (.pv (.b (.int .u64 (uShl a b)))):=zSb hx hy hb (.inl ⟨rfl,rfl⟩)
theorem k1b{yk:IntKind}(hx:ρ x=.pv (.b (.int .u64 a)))(hy:ρ y=.pv (.b (.int yk b)))(hb:0<=b):EvQ P ⟨dst,.binOp .shr t x y t',ty,pos,af,gu⟩ ρ σ (.pv (.b (.int .u64 (uShr a b)))):=zSb hx hy hb (.inr ⟨rfl,rfl⟩)
end
end
structure zqa where
 Code:Int
 Index:Int
def zqa.pc(x:zqa):List PV:=[pI x.Code,pI x.Index]
structure jua where
 Address:Str
 To:List Str
def jua.pc(x:jua):List PV:=[pS x.Address,pL cS x.To]
structure zba where
 Address:Str
 Notify:Int
def zba.pc(x:zba):List PV:=[pS x.Address,pI x.Notify]
structure zGa where
 From:Str
 To:List zba
 Id:Str
def zGa.pc(x:zGa):List PV:=[pS x.From,pL zba.pc x.To,pS x.Id]
structure zea where
 Name:Str
 Value:Str
def zea.pc(x:zea):List PV:=[pS x.Name,pS x.Value]
structure zxa where
 Fields:List zea
 Body:List UInt8
def zxa.pc(x:zxa):List PV:=[pL zea.pc x.Fields,pL cU x.Body]
structure kca where
 Envelope:zGa
 Message:zxa
def kca.pc(x:kca):List PV:=[pS x.Envelope.From,pL zba.pc x.Envelope.To,pS x.Envelope.Id,pL zea.pc x.Message.Fields,pL cU x.Message.Body]
structure zia where
 Recipient:zba
 Result:Int
 Busy:Bool
def zia.pc(x:zia):List PV:=[pS x.Recipient.Address,pI x.Recipient.Notify,pI x.Result,pB x.Busy]
structure zca where
 Id:Int
 Mail:kca
 Since:Int
 Tries:Int
 Due:Int
 To:List zia
def zca.pc(x:zca):List PV:=[pI x.Id,pS x.Mail.Envelope.From,pL zba.pc x.Mail.Envelope.To,pS x.Mail.Envelope.Id,pL zea.pc x.Mail.Message.Fields,pL cU x.Mail.Message.Body,pI x.Since,pI x.Tries,pI x.Due,pL zia.pc x.To]
structure zza where
 Entries:List zca
 Next:Int
def zza.pc(x:zza):List PV:=[pL zca.pc x.Entries,pI x.Next]
structure zva where
 Entry:Int
 Domain:Str
 To:List Int
def zva.pc(x:zva):List PV:=[pI x.Entry,pS x.Domain,pL cI x.To]
structure zla where
 Entry:Int
 Number:Int
 Result:Int
def zla.pc(x:zla):List PV:=[pI x.Entry,pI x.Number,pI x.Result]
structure zha where
 Kind:Int
 Now:Int
 Mail:kca
 Attempt:zva
 Results:List Int
def zha.pc(x:zha):List PV:=[pI x.Kind,pI x.Now,pS x.Mail.Envelope.From,pL zba.pc x.Mail.Envelope.To,pS x.Mail.Envelope.Id,pL zea.pc x.Mail.Message.Fields,pL cU x.Mail.Message.Body,pI x.Attempt.Entry,pS x.Attempt.Domain,pL cI x.Attempt.To,pL cI x.Results]
structure zma where
 out:List UInt8
def zma.pc(x:zma):List PV:=[pL cU x.out]
structure zja where
 b:List UInt8
 bad:Bool
def zja.pc(x:zja):List PV:=[pL cU x.b,pB x.bad]
structure zfa where
 b:List UInt8
 bad:Bool
def zfa.pc(x:zfa):List PV:=[pL cU x.b,pB x.bad]
section
open Go.RowKit Go.Lib Go.Proofs.Tryz
variable {E:Env} {fr:Fr} {σ:Sto} {K:Post} {T:Tab} {l:List Oper} {cs:List (Option AV)} {all:List Node} {H:List Bool}
theorem yla.of:∀{is:List Nat},(∀i∈is,kWb E l cs all H fr σ i)->yla E l cs all H fr σ is
 | [],_=>.nil
 | i::is,h=>.cons (h i (by simp)) (yla.of fun j hj=>h j (by simp[hj]))
def pureQ(T:Tab)(l:List Oper)(cs:List (Option AV))(fr:Fr)(σ:Sto)(i:Nat):Option AV:=(l[i]?).bind fun o=>qval T (purF l cs (allT l)++fr).ev σ o.op
def zTb(cs:List (Option AV))(i:Nat):Option AV:=(cs[i]?).bind id
def WGa(l:List Oper)(cs:List (Option AV))(H:List Bool)(is:List Nat):List Nat:=(mayL l cs H).filter fun i=> !is.contains i
theorem ms_all(hT:qba E.P T)(is:List Nat)(h1:((WGa l cs H is).map (pureQ T l cs fr σ),(WGa l cs H is).all (fun i=>(zTb cs i).isSome))=((WGa l cs H is).map (zTb cs),true))(h2:yla E l cs all H fr σ is):yla E l cs all H fr σ (mayL l cs H):=by
 refine yla.of fun i hi=>?_
 by_cases hc:is.contains i=true
 .exact h2.get (by simpa using hc)
 have hm:i∈WGa l cs H is:=by
  unfold WGa;rw[List.mem_filter];exact ⟨hi,by simpa using hc⟩
 have e1:=congrArg Prod.fst h1;have e2:=congrArg Prod.snd h1;have hq:pureQ T l cs fr σ i=zTb cs i:=List.map_inj_left.1 e1 i hm;have hs:(zTb cs i).isSome=true:=List.all_eq_true.1 e2 i hm;obtain ⟨c,hcc⟩:=Option.isSome_iff_exists.1 hs;rw[hcc]at hq;obtain ⟨o,ho,hv⟩:=Option.bind_eq_some_iff.1 hq;obtain ⟨x,hx,hxc⟩:=Option.bind_eq_some_iff.1 hcc;have hxc:x=some c:=hxc;subst hxc;exact .pure ho hx (zta (Vna hT hv))
theorem mn(hT:qba E.P T)(is:List Nat)(h1:(((List.range l.length).all fun i=> !(isHv cs i) || H.getD i false),(WGa l cs H is).map (pureQ T l cs fr σ),(WGa l cs H is).all (fun i=>(zTb cs i).isSome))=(false,(WGa l cs H is).map (zTb cs),true))(h2:yla E l cs all H fr σ is):kXb E l cs K all (H,fr,σ):=
 .step _ rfl (congrArg Prod.fst h1) (ms_all hT is (congrArg Prod.snd h1) h2)
theorem mf(hT:qba E.P T)(is:List Nat)(frJ:Fr)(h1:((WGa l cs H is).map (pureQ T l cs fr σ),(WGa l cs H is).all (fun i=>(zTb cs i).isSome))=((WGa l cs H is).map (zTb cs),true))(h2:yla E l cs all H fr σ is)(hf:FrLe (purF l cs (allT l)++fr) frJ)(h:K .normal frJ σ):kXb E l cs K all (H,fr,σ):=
 .full _ rfl (ms_all hT is h1 h2) hf vIa h
theorem mst(j:Nat){i:Nat}{o:Oper}{σ' :Sto}(ho:l[i]? =some o)(h:HvS E o (purF l cs (allT l)++fr) σ σ')(e:(cs[i]?,all[j]?)=(some none,some (H.set i true,fr,σ'))):kWb E l cs all H fr σ i:=
 .sto j ho (congrArg Prod.fst e) h (congrArg Prod.snd e) v7a vIa
theorem mdt(j:Nat){i k:Nat}{o:Oper}{c:AV}{rs:List Nat}{σ' :Sto}(ho:l[i]? =some o)(h:HvD E o (purF l cs (allT l)++fr) σ k c rs σ')(e:(((List.range l.length).all fun i=>y5a l cs i !=some k),qCb cs rs,cs[i]?,all[j]?)=(true,true,some none,some (H.set i true,(k,c)::fr.clrs rs,σ'))):kWb E l cs all H fr σ i:=
 .dst j ho (congrArg (fun x=>x.2.2.1) e) (congrArg (fun x=>x.1) e) (congrArg (fun x=>x.2.1) e) h (congrArg (fun x=>x.2.2.2) e) v7a vIa
theorem mpt(j:Nat){i:Nat}{o:Oper}{rs:List Nat}{σ' :Sto}(ho:l[i]? =some o)(h:HvP E o (purF l cs (allT l)++fr) σ rs σ')(e:(qCb cs rs,cs[i]?,all[j]?)=(true,some none,some (H.set i true,fr.clrs rs,σ'))):kWb E l cs all H fr σ i:=
 .put j ho (congrArg (fun x=>x.2.1) e) (congrArg (fun x=>x.1) e) h (congrArg (fun x=>x.2.2) e) v7a vIa
theorem mz{id:Nat}(cs:List (Option AV))(mk:Fr->Sto->List Node)(hmix:E.P.follows .mixedOrders=true)(hok:(wKb E.N l cs,(mk fr σ)[0]?)=(true,some (List.replicate l.length false,fr,σ)))(h:KVa E l cs K (mk fr σ) (mk fr σ)):AWP E (.region id l.toArray true) fr σ K:=
 Y7a cs (mk fr σ) hmix (congrArg Prod.fst hok) (congrArg Prod.snd hok) rfl v7a vIa h
end
section
open Go.RowKit Go.Lib Go.Proofs.Tryz
variable {E:Env} {fr:Fr} {σ:Sto} {K:Post} {T:Tab} {l:List Oper} {cs:List (Option AV)} {all:List Node} {H:List Bool}
def tget:List (Nat × AV)->Nat->Option AV
 | [],_=>none
 | (k,c)::r,i=>bif Nat.beq k i then some c else tget r i
inductive Told (E:Env) (l:List Oper) (cs:List (Option AV)) (fr:Fr) (L:List Sto):List (Nat × AV)->Prop
 | nil:Told E l cs fr L []
 | cons {i:Nat} {c:AV} {o:Oper} {r:List (Nat × AV)} (ho:l[i]? =some o) (hc:cs[i]? =some (some c)) (h:∀s,s∈L->OpG E o (purF l cs (allT l)++fr) s c) (hr:Told E l cs fr L r):Told E l cs fr L ((i,c)::r)
theorem t0{o:Oper}{FR:Fr}{c:AV}(h:OpG E o FR σ c):∀s,s∈ [σ]->OpG E o FR s c:=fun s hs=>by
 rw[List.mem_singleton.1 hs];exact h
theorem Told.get{L:List Sto}{tl:List (Nat × AV)}(h:Told E l cs fr L tl){i:Nat}(hi:(tget tl i).isSome=true):∃o c,l[i]? =some o/\cs[i]? =some (some c)/\∀s,s∈L->OpG E o (purF l cs (allT l)++fr) s c:=by
 induction h with
 | nil=>cases hi
 | @cons k c o r ho hc h _ ih=>
  unfold tget at hi;cases hb:Nat.beq k i with
  | true=>
   have:=Nat.eq_of_beq_eq_true hb;subst this;exact ⟨o,c,ho,hc,h⟩
  | false=>rw[hb]at hi;exact ih hi
theorem KVa.of:∀{r:List Node},(∀nd∈r,kXb E l cs K all nd)->KVa E l cs K all r
 | [],_=>.nil
 | nd::r,h=>.cons (h nd (by simp)) (KVa.of fun x hx=>h x (by simp[hx]))
end
section
open Go.RowKit Go.Lib Go.Proofs.Tryz
def Fr.mp(f:AV->AV):Fr->Fr
 | []=>[]
 | (k,c)::l=>(k,f c)::Fr.mp f l
def AO.mp(f:AV->AV):AO->AO
 | .cells cs=>.cells (cs.map f)
 | .hold c v=>.hold (f c) v
 | o=>o
def Sto.mp(f:AV->AV):Sto->Sto
 | []=>[]
 | (k,a)::l=>(k,a.mp f)::Sto.mp f l
theorem Fr.get_mp{f:AV->AV}(h0:f .any=.any)(fr:Fr)(d:Nat):(fr.mp f).get d=f (fr.get d):=by
 induction fr with
 | nil=>exact h0.symm
 | cons x l ih=>
  obtain ⟨k,c⟩:=x;simp only[Fr.mp,Fr.get_cons,ih];split <;> rfl
theorem Sto.get_mp(f:AV->AV)(σ:Sto)(o:Nat):(σ.mp f).get o=(σ.get o).map (AO.mp f):=by
 induction σ with
 | nil=>rfl
 | cons x l ih=>
  obtain ⟨k,c⟩:=x;simp only[Sto.mp,Sto.get_cons,ih];split <;> rfl
theorem AO.own_mp(f:AV->AV)(ob:AO)(l:Loc):(ob.mp f).own l=ob.own l:=by cases ob <;> rfl
def AV.on(f:AV->AV):AV->AV
 | .agg l=>.agg (l.map f)
 | c=>f c
theorem wNb{g g' :G}{f:AV->AV}(hf:∀c v,Rel g c v->Rel g' (f c) v){c:AV}{v:Value}(h:Rel g c v):Rel g' (AV.on f c) v:=by
 cases c
 case agg cs=>
  cases h with
  | agg hl hc h=>
   refine .agg (by simp[hl]) hc fun i c hi=>?_
   simp only[List.getElem?_map,Option.map_eq_some_iff]at hi;obtain ⟨c',h1,rfl⟩:=hi;exact hf _ _ (h i c' h1)
 all_goals exact hf _ _ h
variable {E:Env} {fr:Fr} {σ:Sto} {K:Post}
theorem St.turn{g g' :G}{a:Act}(h:St E g a fr σ){r:Nat}{ob0 ob:AO}(hr:σ.get r=some ob0)(R:List Nat)(hR:r ∉ R)(f:AV->AV)(hf0:f .any=.any)(hf:∀c v,Rel g c v->Rel g' (f c) v)
 (hx:Ext g.w g.u g'.w g'.u) (hl:∀k,k≠r->g'.loc k=g.loc k) (hos:g'.w.os=g.w.os) (htape:g'.w.tape=g.w.tape) (hout:g'.w.output=g.w.output)
 (hb:∀b,b < g.w.heap.size->(∀o ob1,(o=r∨o∈R)->σ.get o=some ob1->¬ob1.own (g.loc o) b)->g'.w.heap[b]? =g.w.heap[b]? /\g'.u b=g.u b) (hwf:Wf g') (hob:RelO g' r ob)
 (hnew:∀b,ob.own (g'.loc r) b->(∃o ob1,(o=r∨o∈R)/\σ.get o=some ob1/\ob1.own (g.loc o) b)∨g.w.heap.size<=b):St E g' a (fr.mp f) (((σ.dels R).mp f).upd r ob):=by
 have hgr:((σ.dels R).mp f).get r=some (ob0.mp f):=by rw[Sto.get_mp,Sto.get_dels,if_neg hR,hr];rfl
 have hget:∀o ob',(((σ.dels R).mp f).upd r ob).get o=some ob' ->(o=r/\ob' =ob)∨(o≠r/\o ∉ R/\∃ob1,σ.get o=some ob1/\ob' =ob1.mp f):=by
  intro o ob' ho;rw[Sto.get_upd hgr]at ho;split at ho
  .rename_i hor;cases ho;exact .inl ⟨hor,rfl⟩
  rename_i hor;rw[Sto.get_mp,Sto.get_dels]at ho;split at ho
  .cases ho
  rename_i hoR;cases ho1:σ.get o with
  | none=>rw[ho1]at ho;cases ho
  | some ob1=>rw[ho1]at ho;cases ho;exact .inr ⟨hor,hoR,ob1,rfl,rfl⟩
 have hdis:∀o ob1 b,o≠r->o ∉ R->σ.get o=some ob1->ob1.own (g.loc o) b->∀o' ob2,(o' =r∨o' ∈R)->σ.get o' =some ob2->¬ob2.own (g.loc o') b:=by
  intro o ob1 b hne hnR ho hbo o' ob2 ho' h2 hc;have:=h.so.apart o o' ob1 ob2 b ho h2 hbo hc;subst this;rcases ho' with rfl | ho'
  .exact hne rfl
  exact hnR ho'
 refine ⟨fun d=>by rw[Fr.get_mp hf0];exact hf _ _ (h.fr d),h.n,h.df.mono hx,⟨?_,?_,?_,?_,hwf⟩⟩
 .intro o ob' ho;rcases hget o ob' ho with ⟨rfl,rfl⟩ | ⟨hne,hnR,ob1,ho1,rfl⟩
  .exact hob
  have hro:=h.so.obj o ob1 ho1;have hbb:∀b,ob1.own (g.loc o) b->g'.w.heap[b]? =g.w.heap[b]? /\g'.u b=g.u b:=fun b hb' =>hb b (hro.block_lt hb') (hdis o ob1 b hne hnR ho1 hb')
  cases ob1
  case cells cs=>
   cases hro with
   | @cells _ b t vs h1 h2 h3 h4 h5 h6=>
    obtain ⟨b1,b2⟩:=hbb b (by rw[h1];rfl);refine .cells ((hl o hne).trans h1) (b1.trans h2) (by simpa using h3) (b2.trans h4) h5 fun i c hi=>?_
    simp only[List.getElem?_map,Option.map_eq_some_iff]at hi;obtain ⟨c',hc',rfl⟩:=hi;exact hf _ _ (h6 i c' hc')
  case hold c v=>cases hro with
   | hold h1=>exact .hold (hf _ _ h1)
  all_goals exact hro.mono hx (hl o hne) (fun _ hk=>by cases hk) hbb
 .intro o o' ob1 ob2 b h1 h2 h3 h4;rcases hget o ob1 h1 with ⟨rfl,rfl⟩ | ⟨hne,hnR,ob1,ho1,rfl⟩ <;> rcases hget o' ob2 h2 with ⟨rfl,rfl⟩ | ⟨hne',hnR',ob2,ho2,rfl⟩
  .rfl
  .rw[AO.own_mp,hl o' hne']at h4;rcases hnew b h3 with ⟨q,obq,hq,hq1,hq2⟩ | h5
   .exact absurd hq2 (hdis o' ob2 b hne' hnR' ho2 h4 q obq hq hq1)
   have:=(h.so.obj o' _ ho2).block_lt h4;omega
  .rw[AO.own_mp,hl o hne]at h3;rcases hnew b h4 with ⟨q,obq,hq,hq1,hq2⟩ | h5
   .exact absurd hq2 (hdis o ob1 b hne hnR ho1 h3 q obq hq hq1)
   have:=(h.so.obj o _ ho1).block_lt h3;omega
  rw[AO.own_mp,hl o hne]at h3;rw[AO.own_mp,hl o' hne']at h4;exact h.so.apart o o' _ _ b ho1 ho2 h3 h4
 .intro o ob1 b h1 h2;rcases hget o ob1 h1 with ⟨rfl,rfl⟩ | ⟨hne,hnR,ob1,ho1,rfl⟩
  .rcases hnew b h2 with ⟨q,obq,hq,hq1,hq2⟩ | h5
   .exact h.so.mine q obq b hq1 hq2
   exact .inl (Nat.le_trans h.so.old.ext.size h5)
  rw[AO.own_mp,hl o hne]at h2;exact h.so.mine o _ b ho1 h2
 refine h.so.old.trans ⟨hos,htape,hout,hx,fun b hbl hs=>hb b hbl fun q obq hq hq1 hq2=>?_⟩;rcases h.so.mine q obq b hq1 hq2 with h1 | h1
 .exact hs (.inr h1)
 exact hs (.inl h1)
def Zia(size2:Nat):Loc->Loc
 | .row b off cap size n=>.nest b off cap size n size2 []
 | l=>l
def AV.nst(r:Nat):AV->AV
 | .hs x off=>bif Nat.beq x r then .ns r else .hs x off
 | c=>bif c.has r then .any else c
theorem Vpa{g g' :G}{r:Nat}(hx:Ext g.w g.u g'.w g'.u)(hl:∀k,k≠r->g'.loc k=g.loc k){c:AV}{v:Value}(h:Rel g c v):Rel g' (bif c.has r then .any else c) v:=Jya hx hl h
theorem rel_nst{g g' :G}{r size2:Nat}(hx:Ext g.w g.u g'.w g'.u)(hk:∀k,k≠r->g'.loc k=g.loc k)(hl:g'.loc r=Zia size2 (g.loc r)){c:AV}{v:Value}(h:Rel g c v):Rel g' (c.nst r) v:=by
 cases c
 case hs x off=>
  cases hb:Nat.beq x r with
  | true=>
   rw[show AV.nst r (.hs x off)=.ns r by show (bif Nat.beq x r then AV.ns r else AV.hs x off)=_;rw[hb];rfl];have:x=r:=Nat.eq_of_beq_eq_true hb;subst this;cases h with
   | hsNil a h1=>exact .nsNil a (by rw[hl,h1];rfl)
   | hs h1 h2=>exact .ns (size2:=size2) (subs:=[]) (by rw[hl,h1];rfl) h2
  | false=>
   rw[show AV.nst r (.hs x off)=.hs x off by show (bif Nat.beq x r then AV.ns r else AV.hs x off)=_;rw[hb];rfl];have hne:x≠r:=by rintro rfl;simp at hb
   exact h.mono hx fun k hk' =>hk k (by have:=Nat.eq_of_beq_eq_true (show Nat.beq x k=true from hk');subst this;exact hne)
 all_goals exact Vpa hx hk h
theorem St.nest{g:G}{a:Act}{r size:Nat}{e:TypeId}{elems:List (List PV)}(h:St E g a fr σ)(hr:σ.get r=some (.row e true size elems))(j:Nat)(e2:TypeId)(size2:Nat):
 St E ⟨g.w,g.u,fun k=>if k=r then Zia size2 (g.loc r) else g.loc k⟩ a (fr.mp (AV.on (AV.nst r))) (((σ.dels []).mp (AV.on (AV.nst r))).upd r (.nrow e size j e2 size2 0 elems)):=by
 have hl:(⟨g.w,g.u,fun k=>if k=r then Zia size2 (g.loc r) else g.loc k⟩:G).loc r=Zia size2 (g.loc r):=if_pos rfl;have hob:=h.so.obj r _ hr;have hbl:(Zia size2 (g.loc r)).block=(g.loc r).block/\(∀b,b∈(Zia size2 (g.loc r)).subs->(g.loc r).block=some b):=by
  cases hob with
  | nil h1=>rw[h1];exact ⟨rfl,fun b hb=>by cases hb⟩
  | row h1=>rw[h1];exact ⟨rfl,fun b hb=>by cases hb⟩
 refine h.turn (g' :=⟨g.w,g.u,fun k=>if k=r then Zia size2 (g.loc r) else g.loc k⟩) hr [] (by simp) _ rfl (fun c v=>wNb fun c v=>rel_nst (g:=g) (g' :=⟨g.w,g.u,fun k=>if k=r then Zia size2 (g.loc r) else g.loc k⟩) (Ext.refl _ _) (fun k hk=>if_neg hk) hl) (Ext.refl _ _) (fun k hk=>if_neg hk) rfl rfl rfl (fun _ _ _=>⟨rfl,rfl⟩) h.so.wf ?_ (fun b hb=>.inl ⟨r,_,.inl rfl,hr,?_⟩)
 .cases hob with
  | nil h1=>exact .nrowNil (by rw[hl,h1];rfl)
  | row h1 h2 h3 h4 h5 h6 h7 h8 h9=>exact .nrow (subs:=[]) (by rw[hl,h1];rfl) h2 h3 h4 h5 h6 (h8 rfl) rfl (Nat.zero_le _) (by simp[zSa]) (fun i j' x c hi hj _=>h9 i j' x c hi hj) (fun i s x hi=>by simp at hi)
 rcases hb with hb | hb
 .rw[hl,hbl.1]at hb;exact hb
 rw[hl]at hb;exact hbl.2 b hb
theorem WHa{ops:Array Oper}{ol:List Oper}{size:Nat}{e:TypeId}{elems:List (List PV)}(r j:Nat)(e2:TypeId)(size2:Nat)(hr:σ.get r=some (.row e true size elems))
 (h:AWPL E ops ol (fr.mp (AV.on (AV.nst r))) (((σ.dels []).mp (AV.on (AV.nst r))).upd r (.nrow e size j e2 size2 0 elems)) K):AWPL E ops ol fr σ K:=
 ⟨fun g a hst=>h.go ⟨g.w,g.u,fun k=>if k=r then Zia size2 (g.loc r) else g.loc k⟩ a (hst.nest hr j e2 size2)⟩
def wCa:Loc->Loc
 | .nest b off cap size n _ _=>.row b off cap size n
 | l=>l
def pubU(size2:Nat)(subs:List (Option (Nat × Nat × Nat × Nat)))(u:Nat->Nat)(k:Nat):Nat:=
 match subs with
 | []=>u k
 | some (b,off,_,n)::l=>if b=k then (off+n) * size2 else pubU size2 l u k
 | none::l=>pubU size2 l u k
def locU:Loc->(Nat->Nat)->Nat->Nat
 | .nest _ _ _ _ _ size2 subs,u=>pubU size2 subs u
 | _,u=>u
theorem qOa(s:Option (Nat × Nat × Nat × Nat))(l:List (Option (Nat × Nat × Nat × Nat))):zSa (s::l)=(match s with | some t=>[t.1] | none=>[])++zSa l:=by
 cases s <;> simp[zSa]
theorem wka(l l' :List (Option (Nat × Nat × Nat × Nat))):zSa (l++l')=zSa l++zSa l' :=by simp[zSa]
theorem JRa{size2:Nat}{u:Nat->Nat}{k:Nat}:∀{subs:List (Option (Nat × Nat × Nat × Nat))},k ∉ zSa subs->pubU size2 subs u k=u k
 | [],_=>rfl
 | none::l,h=>JRa (subs:=l) (by simpa[qOa]using h)
 | some (b,off,cap,n)::l,h=>by
  simp only[qOa,List.mem_append,List.mem_singleton,not_or]at h;unfold pubU;rw[if_neg (Ne.symm h.1)];exact JRa h.2
theorem JSa{size2:Nat}{u:Nat->Nat}{b off cap n:Nat}:∀{subs:List (Option (Nat × Nat × Nat × Nat))} {i:Nat},(zSa subs).Nodup->subs[i]? =some (some (b,off,cap,n))->pubU size2 subs u b=(off+n) * size2
 | [],i,_,h=>by simp at h
 | none::l,0,_,h=>by simp at h
 | none::l,i+1,hd,h=>JSa (subs:=l) (by simpa[qOa]using hd) (by simpa using h)
 | some (b',off',cap',n')::l,0,_,h=>by
  simp only[List.getElem?_cons_zero,Option.some.injEq]at h;cases h;unfold pubU;rw[if_pos rfl]
 | some (b',off',cap',n')::l,i+1,hd,h=>by
  simp only[List.getElem?_cons_succ]at h;simp only[qOa,List.singleton_append,List.nodup_cons]at hd;unfold pubU;rw[if_neg (by rintro rfl;exact hd.1 (yRa h))];exact JSa hd.2 h
theorem Zba.pub{w:World}{u:Nat->Nat}{e:TypeId}{mu:Bool}{size:Nat}{rows:List (List PV)}{s:Nat × Nat × Nat × Nat}{v:Value}(h:Zba w u e mu size rows s v){u' :Nat->Nat}(hx:Ext0 w u w u')(hu:(s.2.1+s.2.2.2) * size<=u' s.1):RelP w u' (.sl none rows) v:=by
 obtain ⟨vs,h1,h2,h3⟩:=h.blk;have hv:=h.val;rw[<-h.n]at hv;subst hv;have hne:rows≠ []:=by rintro rfl;have:=h.pos;rw[<-h.n]at this;simp at this
 have hle:rows.length<=s.2.2.1:=by rw[h.n];exact h.le
 refine .sl size s.1 (s.2.1 * size) (fun i=>vs.getD (s.2.1 * size+i) undef) (fun x hx=>by cases hx) (fun hx=>by cases hx) hle h.z (fun _=>rfl) (fun _=>⟨?_,kJa h1⟩) (fun i hi=>?_) (fun i j x c hi hj=>?_)
 .rw[<-Nat.add_mul,h.n];exact hu
 .refine kGa h1 ?_;rw[h2,Nat.add_mul];have:=Nat.mul_le_mul_right size hle;omega
 have:=(h3 i j x c hi hj).mono0 hx;rw[show (s.2.1+i) * size+j=s.2.1 * size+(i * size+j) by rw[Nat.add_mul];omega]at this;exact this
theorem Qsa.pub{w:World}{u:Nat->Nat}{e:TypeId}{size:Nat}{rows:List (List PV)}{s:Option (Nat × Nat × Nat × Nat)}{v:Value}(h:Qsa w u e size rows s v){u' :Nat->Nat}(hx:Ext0 w u w u')(hu:∀t,s=some t->(t.2.1+t.2.2.2) * size<=u' t.1):RelP w u' (.sl none rows) v:=by
 cases s with
 | none=>
  obtain ⟨rfl,a,cap,rfl,h0⟩:=h;have:=RelP.sl (w:=w) (u:=u') (nl:=none) (elems:=[]) (a:=a) (cap:=cap) 1 0 0 (fun _=>undef) (fun x hx=>by cases hx) (fun hx=>⟨h0 hx,rfl⟩) (by simp) (by simp) (by simp) (by simp) (fun i hi=>by simp at hi) (fun i j e c hi=>by simp at hi);exact this
 | some t=>exact Zba.pub h hx (hu t rfl)
def AV.dnst(r:Nat):AV->AV
 | .ns x=>bif Nat.beq x r then .hs r 0 else .ns x
 | .np x i j=>bif Nat.beq x r then .hp x i j else .np x i j
 | c=>bif c.has r then .any else c
theorem rel_dnst{g g' :G}{r:Nat}(hx:Ext g.w g.u g'.w g'.u)(hk:∀k,k≠r->g'.loc k=g.loc k)(hl:g'.loc r=wCa (g.loc r)){c:AV}{v:Value}(h:Rel g c v):Rel g' (c.dnst r) v:=by
 cases c
 case ns x=>
  cases hb:Nat.beq x r with
  | true=>
   rw[show AV.dnst r (.ns x)=.hs r 0 by show (bif Nat.beq x r then AV.hs r 0 else AV.ns x)=_;rw[hb];rfl];have:x=r:=Nat.eq_of_beq_eq_true hb;subst this;cases h with
   | nsNil a h1=>exact .hsNil a (by rw[hl,h1];rfl)
   | ns h1 h2=>exact .hs (by rw[hl,h1];rfl) h2
  | false=>
   rw[show AV.dnst r (.ns x)=.ns x by show (bif Nat.beq x r then AV.hs r 0 else AV.ns x)=_;rw[hb];rfl];have hne:x≠r:=by rintro rfl;simp at hb
   exact h.mono hx fun k hk' =>hk k (by have:=Nat.eq_of_beq_eq_true (show Nat.beq x k=true from hk');subst this;exact hne)
 case np x i j=>
  cases hb:Nat.beq x r with
  | true=>
   rw[show AV.dnst r (.np x i j)=.hp x i j by show (bif Nat.beq x r then AV.hp x i j else AV.np x i j)=_;rw[hb];rfl];have:x=r:=Nat.eq_of_beq_eq_true hb;subst this;cases h with
   | np h1 h2=>exact .hp (by rw[hl,h1];rfl) h2
  | false=>
   rw[show AV.dnst r (.np x i j)=.np x i j by show (bif Nat.beq x r then AV.hp x i j else AV.np x i j)=_;rw[hb];rfl];have hne:x≠r:=by rintro rfl;simp at hb
   exact h.mono hx fun k hk' =>hk k (by have:=Nat.eq_of_beq_eq_true (show Nat.beq x k=true from hk');subst this;exact hne)
 all_goals exact Vpa hx hk h
theorem St.denest{g:G}{a:Act}{r size j size2 m:Nat}{e e2:TypeId}{elems:List (List PV)}(h:St E g a fr σ)(hr:σ.get r=some (.nrow e size j e2 size2 m elems)):
 St E ⟨g.w,locU (g.loc r) g.u,fun k=>if k=r then wCa (g.loc r) else g.loc k⟩ a (fr.mp (AV.on (AV.dnst r))) (((σ.dels []).mp (AV.on (AV.dnst r))).upd r (.row e true size elems)):=by
 have hl:(⟨g.w,locU (g.loc r) g.u,fun k=>if k=r then wCa (g.loc r) else g.loc k⟩:G).loc r=wCa (g.loc r):=if_pos rfl;have hob:=h.so.obj r _ hr;have hlt:∀b,(AO.nrow e size j e2 size2 m elems).own (g.loc r) b->b < g.w.heap.size:=fun b hb=>hob.block_lt hb
 have hu0:∀k,k ∉ (g.loc r).subs->locU (g.loc r) g.u k=g.u k:=by
  intro k hk;cases hg:g.loc r with
  | nest b off cap size' n size2' subs=>rw[hg]at hk;exact JRa hk
  | _=>rfl
 have hx:Ext g.w g.u g.w (locU (g.loc r) g.u):=⟨Nat.le_refl _,fun k hk=>by
  by_cases hin:k∈(g.loc r).subs
  .cases hob with
   | nrowNil h1=>rw[h1]at hin;cases hin
   | @nrow _ _ _ _ _ _ _ b off cap vs subs h1 h2 h3 h4 h5 h6 h7 h8 h9 h10 h11 h12=>
    rw[h1]at hin ⊢;obtain ⟨s,hs,hsb⟩:=List.mem_filterMap.1 hin;cases s with
    | none=>cases hsb
    | some s=>
     cases hsb;obtain ⟨i,hi,hii⟩:=List.getElem_of_mem hs;have hi' :subs[i]? =some (some s):=by rw[List.getElem?_eq_getElem hi,hii]
     have hie:i < elems.length:=by omega
     obtain ⟨rows,_,q2⟩:=h12 i _ _ hi' (List.getElem?_eq_getElem hie);show _<=pubU size2 subs g.u s.1;rw[JSa (List.nodup_cons.1 h10).2 hi',Zba.hmu q2 rfl];exact Nat.zero_le _
  rw[hu0 k hin];exact Nat.le_refl _,fun _ _ _ _=>rfl,fun _ h=>h⟩
 refine h.turn (g' :=⟨g.w,locU (g.loc r) g.u,fun k=>if k=r then wCa (g.loc r) else g.loc k⟩) hr [] (by simp) _ rfl (fun c v=>wNb fun c v=>rel_dnst (g:=g) (g' :=⟨g.w,locU (g.loc r) g.u,fun k=>if k=r then wCa (g.loc r) else g.loc k⟩) hx (fun k hk=>if_neg hk) hl) hx (fun k hk=>if_neg hk) rfl rfl rfl (fun b hb hn=>⟨rfl,hu0 b fun hin=>hn r _ (.inl rfl) hr (.inr hin)⟩) (fun k hk=>?_) ?_ (fun b hb=>.inl ⟨r,_,.inl rfl,hr,?_⟩)
 .show locU (g.loc r) g.u k=0;rw[hu0 k fun hin=>by have:=hlt k (.inr hin);exact absurd hk (by show ¬g.w.heap.size<=k;omega)];exact h.so.wf k hk
 .cases hob with
  | nrowNil h1=>exact .nil (by rw[hl,h1];rfl)
  | @nrow _ _ _ _ _ _ _ b off cap vs subs h1 h2 h3 h4 h5 h6 h7 h8 h9 h10 h11 h12=>
   have hub:locU (g.loc r) g.u b=0:=by rw[hu0 b (by rw[h1];exact (List.nodup_cons.1 h10).1)];exact h7
   refine .row (by rw[hl,h1];rfl) h2 h3 h4 h5 h6 (by show locU (g.loc r) g.u b<=_;rw[hub];exact Nat.zero_le _) (fun _=>hub) (fun i j' x c hi hj=>?_);by_cases hc:m<=i∨j' ≠j
   .exact (h11 i j' x c hi hj hc).mono hx
   have him:i < m:=by omega
   have hjj:j' =j:=by omega
   subst hjj;obtain ⟨rows,q1,q2⟩:=h12 i _ x (List.getElem?_eq_getElem (by omega:i < subs.length)) hi;rw[hj]at q1;cases q1;refine Qsa.pub q2 hx.to0 fun t ht=>?_
   show _<=locU (g.loc r) g.u t.1;rw[h1];have hi' :subs[i]? =some (some (t.1,t.2.1,t.2.2.1,t.2.2.2)):=by rw[List.getElem?_eq_getElem (by omega:i < subs.length),ht]
   exact Nat.le_of_eq (JSa (List.nodup_cons.1 h10).2 hi').symm
 show (g.loc r).block=some b∨_;have hb2:(wCa (g.loc r)).block=some b:=by rw[<-hl];exact hb
 clear hb;left;cases hob with
 | nrowNil h1=>rw[h1]at hb2;cases hb2
 | nrow h1=>rw[h1]at hb2 ⊢;exact hb2
theorem k2b{ops:Array Oper}{ol:List Oper}{size j size2 m:Nat}{e e2:TypeId}{elems:List (List PV)}(r:Nat)(hr:σ.get r=some (.nrow e size j e2 size2 m elems))
 (h:AWPL E ops ol (fr.mp (AV.on (AV.dnst r))) (((σ.dels []).mp (AV.on (AV.dnst r))).upd r (.row e true size elems)) K):AWPL E ops ol fr σ K:=
 ⟨fun g a hst=>h.go ⟨g.w,locU (g.loc r) g.u,fun k=>if k=r then wCa (g.loc r) else g.loc k⟩ a (hst.denest hr)⟩
theorem Y9a{c:Code}{size j size2 m:Nat}{e e2:TypeId}{elems:List (List PV)}(r:Nat)(hr:σ.get r=some (.nrow e size j e2 size2 m elems))
 (h:AWP E c (fr.mp (AV.on (AV.dnst r))) (((σ.dels []).mp (AV.on (AV.dnst r))).upd r (.row e true size elems)) K):AWP E c fr σ K:=
 ⟨fun g a hst=>h.go ⟨g.w,locU (g.loc r) g.u,fun k=>if k=r then wCa (g.loc r) else g.loc k⟩ a (hst.denest hr)⟩
end
section
open Go.RowKit Go.Lib Go.Proofs.Tryz
def nown(m:Nat)(n:Int):Option Bool:=if n.toNat < m then some true else none
theorem WIa{m:Nat}{n:Int}{r:Bool}(h:nown m n=some r):n.toNat < m:=by
 unfold nown at h;split at h
 .assumption
 cases h
def vub(m:Nat)(n:Int):Option Bool:=if n.toNat=m then some true else none
theorem Vqa{m:Nat}{n:Int}{r:Bool}(h:vub m n=some r):n.toNat=m:=by
 unfold vub at h;split at h
 .assumption
 cases h
def Jaa(m:Nat)(n:Int):Option Bool:=if m<=n.toNat then some true else none
theorem Qca{m:Nat}{n:Int}{r:Bool}(h:Jaa m n=some r):m<=n.toNat:=by
 unfold Jaa at h;split at h
 .assumption
 cases h
variable {E:Env} {fr:Fr} {σ:Sto} {K:Post} {P:Program} {ρ:Operand->AV}
variable {dst:Option Tmp} {ty:TypeId} {pos:String} {af:Array Edge} {gu:Option (Nat × Bool)}
section
variable {α β:Type} {F:α->List PV} {G2:β->List PV} {l:List α} {l2:List β} {r size size2 bytes sb ss k j m:Nat} {e e2 t:TypeId} {zero sz:Value} {d:TypeDesc} {x y:Operand}
structure NAt (g:G) (r:Nat) (e:TypeId) (size j:Nat) (e2:TypeId) (size2 m:Nat) (F:α->List PV) (l:List α) (b off cap:Nat) (vs:Array Value) (subs:List (Option (Nat × Nat × Nat × Nat))):Prop where
 loc:g.loc r=.nest b off cap size l.length size2 subs
 heap:g.w.heap[b]? =some (.cells vs e (0,0))
 sz:vs.size=(off+cap) * size
 max:cap<=maxLen
 le:l.length<=cap
 z:∀x∈l,(F x).length=size
 u:g.u b=0
 sl:subs.length=m
 ml:m<=l.length
 nd:(b::zSa subs).Nodup
 cell:∀i j' x c,l[i]? =some x->(F x)[j']? =some c->(m<=i∨j' ≠j)->RelP g.w g.u c (vs.getD ((off+i) * size+j') undef)
 sub:∀i s x,subs[i]? =some s->l[i]? =some x->∃rows,(F x)[j]? =some (.sl none rows)/\Qsa g.w g.u e2 size2 rows s (vs.getD ((off+i) * size+j) undef)
theorem NAt.obj{g:G}{b off cap:Nat}{vs:Array Value}{subs:List (Option (Nat × Nat × Nat × Nat))}(h:NAt g r e size j e2 size2 m F l b off cap vs subs):RelO g r (.nrow e size j e2 size2 m (l.map F)):=
 .nrow (by rw[List.length_map];exact h.loc) h.heap h.sz h.max (by rw[List.length_map];exact h.le) (fun x hx=>by obtain ⟨y,hy,rfl⟩:=List.mem_map.1 hx;exact h.z y hy) h.u h.sl (by rw[List.length_map];exact h.ml) h.nd
  (fun i j' x c hi hj hc=>by
   simp only[List.getElem?_map,Option.map_eq_some_iff]at hi;obtain ⟨y,hy,rfl⟩:=hi;exact h.cell i j' y c hy hj hc)
  (fun i s x hi hx=>by
   simp only[List.getElem?_map,Option.map_eq_some_iff]at hx;obtain ⟨y,hy,rfl⟩:=hx;exact h.sub i s y hi hy)
theorem wOb{g:G}(hob:RelO g r (.nrow e size j e2 size2 m (l.map F))):(g.loc r=.nilRow/\l=[]/\m=0)∨∃b off cap vs subs,NAt g r e size j e2 size2 m F l b off cap vs subs:=by
 generalize hls:l.map F=ls at hob;cases hob with
 | nrowNil hl=>exact .inl ⟨hl,by simpa using hls,rfl⟩
 | @nrow _ _ _ _ _ _ _ b off cap vs subs h1 h2 h3 h4 h5 h6 h7 h8 h9 h10 h11 h12=>
  subst hls;simp only[List.length_map]at h1 h5 h9;exact .inr ⟨b,off,cap,vs,subs,h1,h2,h3,h4,h5,fun x hx=>h6 _ (List.mem_map_of_mem hx),h7,h8,h9,h10,fun i j' x c hi hj hc=>h11 i j' (F x) c (by simp[hi]) hj hc,fun i s x hi hx=>h12 i s (F x) hi (by simp[hx])⟩
theorem VQa{g:G}{i:Nat}{v:α}(hob:RelO g r (.nrow e size j e2 size2 m (l.map F)))(hv:l[i]? =some v):∃b off cap vs subs,NAt g r e size j e2 size2 m F l b off cap vs subs:=by
 rcases wOb hob with ⟨_,rfl,_⟩ | h
 .simp at hv
 exact h
theorem zUb{g:G}{b off cap i j0:Nat}{vs:Array Value}{subs:List (Option (Nat × Nat × Nat × Nat))}{vp:Value}(h:NAt g r e size j e2 size2 m F l b off cap vs subs)(hp:Rel g (.np r i j0) vp):vp=.pointer (some ⟨b,(off+i) * size+j0,none⟩):=by
 cases hp with
 | np hl hi=>rw[h.loc]at hl;cases hl;rfl
theorem NAt.place{g:G}{b off cap i q:Nat}{vs:Array Value}{subs:List (Option (Nat × Nat × Nat × Nat))}(h:NAt g r e size j e2 size2 m F l b off cap vs subs)(hi:i < l.length)(hq:q < size):(off+i) * size+q < vs.size:=by
 rw[h.sz];exact kIb (s:=1) hi h.le hq
theorem k3b{tx:TypeId}(hx:ρ x=.ns r)(hr:σ.get r=some (.nrow e size j e2 size2 m (l.map F)))(ht:P.underlying t=some (.slice tx)):EvQ P ⟨dst,.call ⟨.builtin .len, #[x], #[t]⟩,ty,pos,af,gu⟩ ρ σ (.i l.length):=
 ⟨fun c=>by simp,fun g ρv h hs=>by
  have h1:=h x (by simp[Op.operands,Call.operands]);rw[hx]at h1;refine ⟨.int .i64 l.length,?_,.pv (.b rfl)⟩;generalize hv:ρv x=v at h1;rcases wOb (hs r _ hr) with ⟨hl,rfl,_⟩ | ⟨b,off,cap,vs,subs,hN⟩
  .cases h1 with
   | nsNil a h1=>simp[execOp,resolve,invoke,builtin,Builtin.len_,hv,go_sem,underlying,ht,goInt]
   | ns h1=>rw[hl]at h1;cases h1
  cases h1 with
  | nsNil a h1=>rw[hN.loc]at h1;cases h1
  | ns h1=>
   rw[hN.loc]at h1;cases h1;simp[execOp,resolve,invoke,builtin,Builtin.len_,hv,go_sem,underlying,ht,goInt]⟩
theorem WJa{n:Int}{kk:IntKind}{v:α}(hx:ρ x=.ns r)(hy:ρ y=.pv (.b (.int kk n)))(hr:σ.get r=some (.nrow e size j e2 size2 m (l.map F)))(ht:TyOk P t ss sb sz (.slice e))(he:TyOk P e size bytes zero d)(hv:idx l n=some v):
 EvQ P ⟨dst,.indexAddr t x y,ty,pos,af,gu⟩ ρ σ (.np r n.toNat 0):=
 ⟨fun c=>by simp,fun g ρv h hs=>by
  obtain ⟨h1,h2⟩:=ops2 (o:=⟨dst,.indexAddr t x y,ty,pos,af,gu⟩) (x:=x) (y:=y) rfl h;rw[hx]at h1;rw[hy]at h2;have e2:=ksa h2;obtain ⟨hn0,hv⟩:=vWa hv;have hlt:n.toNat < l.length:=(List.getElem?_eq_some_iff.1 hv).1;have hn2:n < l.length:=by omega
  obtain ⟨i,hi,hsz,hby,hzero⟩:=he.info;obtain ⟨b,off,cap,vs,subs,hN⟩:=VQa (hs r _ hr) hv;generalize ev:ρv x=vx at h1;cases h1 with
  | nsNil a h1=>rw[hN.loc]at h1;cases h1
  | ns h1 ha=>
   rw[hN.loc]at h1;cases h1;have ha:=ha (by have:=hN.le;omega);subst ha;refine ⟨.pointer (some ⟨b,(off+n.toNat) * size+0,none⟩),?_,.np hN.loc hlt⟩;simp[execOp,Instr.indexAt,e2,ev,go_sem,asIntOf,underlying,ht.u,sizeOf,typeInfo,hi,hsz,hn0,hn2,qta,Nat.add_mul]⟩
theorem WKa{i j0 f:Nat}{fs:Array Field}{fl:Field}{fsize fbytes:Nat}{fzero:Value}{fd:TypeDesc}(hx:ρ x=.np r i j0)(ht:P.underlying t=some (.struct fs))(hf:fs[f]? =some fl)(hft:TyOk P fl.type fsize fbytes fzero fd)(hz:Nat.beq fsize 0=false):
 EvQ P ⟨dst,.fieldAddr t x f,ty,pos,af,gu⟩ ρ σ (.np r i (j0+fl.offset)):=
 ⟨fun c=>by simp,fun g ρv h _=>by
  have h1:=h x (by simp[Op.operands]);rw[hx]at h1;generalize hv:ρv x=v at h1;cases h1 with
  | np hl hi=>
   have hz' :fsize≠0:=by rintro rfl;simp at hz
   refine ⟨_,?_,.np (j:=j0+fl.offset) hl hi⟩;simp[execOp,Instr.fieldAt,Instr.sureAddr,hv,go_sem,underlying,ht,hf,fieldPlace,hft.sizeOf,hz',qta,Nat.add_assoc]⟩
theorem V2a{i k0 j0 f:Nat}{fs:Array Field}{fl:Field}{fsize fbytes:Nat}{fzero:Value}{fd:TypeDesc}(hx:ρ x=.hnp r i k0 j0)(ht:P.underlying t=some (.struct fs))(hf:fs[f]? =some fl)(hft:TyOk P fl.type fsize fbytes fzero fd)(hz:Nat.beq fsize 0=false):
 EvQ P ⟨dst,.fieldAddr t x f,ty,pos,af,gu⟩ ρ σ (.hnp r i k0 (j0+fl.offset)):=
 ⟨fun c=>by simp,fun g ρv h _=>by
  have h1:=h x (by simp[Op.operands]);rw[hx]at h1;generalize hv:ρv x=v at h1;cases h1 with
  | hnp hl hs hk=>
   have hz' :fsize≠0:=by rintro rfl;simp at hz
   refine ⟨_,?_,.hnp (j:=j0+fl.offset) hl hs hk⟩;simp[execOp,Instr.fieldAt,Instr.sureAddr,hv,go_sem,underlying,ht,hf,fieldPlace,hft.sizeOf,hz',qta,Nat.add_assoc]⟩
section
variable {t' :TypeId} {size' bytes' :Nat} {zero' :Value} {d' :TypeDesc} {n:Int} {j0:Nat} {v v' :α} {c:PV}
theorem yma(hx:ρ x=.np r n.toNat j0)(hr:σ.get r=some (.nrow e size j e2 size2 m (l.map F)))(ht:TyOk P t' size' bytes' zero' d')(hd:dAgg d' =false)(hv:idx l n=some v)(hc:(F v)[j0]? =some c)(hj:Nat.beq j0 j=false∨m<=n.toNat):EvQ P ⟨dst,.load t' x,ty,pos,af,gu⟩ ρ σ (.pv c):=
 ⟨fun c=>by simp,fun g ρv h hs=>by
  have h1:=h x (by simp[Op.operands]);rw[hx]at h1;obtain ⟨hn0,hv⟩:=vWa hv;obtain ⟨b,off,cap,vs,subs,hN⟩:=VQa (hs r _ hr) hv;have e1:=zUb hN h1;have hjs:j0 < size:=by rw[<-hN.z v (List.mem_of_getElem? hv)];exact (List.getElem?_eq_some_iff.1 hc).1
  have hlt:=(List.getElem?_eq_some_iff.1 hv).1;refine ⟨_,vEa e1 (yea ht hd (kGa hN.heap (hN.place hlt hjs))),.pv (hN.cell _ _ _ _ hv hc ?_)⟩;rcases hj with hj | hj
  .right;rintro rfl;simp at hj
  exact .inl hj⟩
theorem Vra(hx:ρ x=.np r n.toNat j0)(hr:σ.get r=some (.nrow e size j e2 size2 m (l.map F)))(ht:TyOk P t' size' bytes' zero' d')(hd:dAgg d' =true)(hv:idx l n=some v)(hle:Nat.ble (j0+size') (F v).length=true)(hj:(Nat.ble (j+1) j0 || Nat.ble (j0+size') j)=true∨m<=n.toNat):EvQ P ⟨dst,.load t' x,ty,pos,af,gu⟩ ρ σ (.agg ((((F v).drop j0).take size').map .pv)):=
 ⟨fun c=>by simp,fun g ρv h hs=>by
  have h1:=h x (by simp[Op.operands]);rw[hx]at h1;obtain ⟨hn0,hv⟩:=vWa hv;have hle:=Nat.le_of_ble_eq_true hle;obtain ⟨b,off,cap,vs,subs,hN⟩:=VQa (hs r _ hr) hv;have e1:=zUb hN h1;have hlt:=(List.getElem?_eq_some_iff.1 hv).1;have hFz:=hN.z v (List.mem_of_getElem? hv);have hj' :∀q,q < size' ->m<=n.toNat∨j0+q≠j:=by
   intro q hq;rcases hj with hj | hj
   .right;simp only[Bool.or_eq_true]at hj;rcases hj with hj | hj <;> have:=Nat.le_of_ble_eq_true hj <;> omega
   exact .inl hj
  have hrel:∀q,q < size' ->∃c,(F v)[j0+q]? =some c/\RelP g.w g.u c (vs.getD ((off+n.toNat) * size+(j0+q)) undef):=by
   intro q hq;have h2:j0+q < (F v).length:=by omega
   exact ⟨_,List.getElem?_eq_getElem h2,hN.cell _ _ _ _ hv (List.getElem?_eq_getElem h2) (hj' q hq)⟩
  refine ⟨_,vEa e1 (yfa ht hd (f:=fun q=>vs.getD ((off+n.toNat) * size+(j0+q)) undef) fun q hq=>?_),.agg (by simp;omega) (fun q hq=>?_) (fun q c hq=>?_)⟩
  .rw[Nat.add_assoc];exact kGa hN.heap (hN.place hlt (by omega))
  .simp only[List.size_toArray,List.length_map,List.length_range]at hq;rw[v8a _ _ _ hq];obtain ⟨c,_,hr⟩:=hrel q hq;exact hr.cellV
  simp only[List.getElem?_map,Option.map_eq_some_iff]at hq;obtain ⟨c',hc',rfl⟩:=hq;have hq2:q < size' :=by have:=(List.getElem?_eq_some_iff.1 hc').1;simp at this;omega
  rw[List.getElem?_take_of_lt hq2,List.getElem?_drop]at hc';rw[v8a _ _ _ hq2];obtain ⟨c,hc,hr⟩:=hrel q hq2;rw[hc']at hc;cases hc;exact .pv hr⟩
theorem sub_val{g:G}{b off cap i:Nat}{vs:Array Value}{subs:List (Option (Nat × Nat × Nat × Nat))}{v:α}(hN:NAt g r e size j e2 size2 m F l b off cap vs subs)(hv:l[i]? =some v)(hm:i < m):Rel g (.hn r i) (vs.getD ((off+i) * size+j) undef):=by
 obtain ⟨s,hs⟩:∃s,subs[i]? =some s:=⟨_,List.getElem?_eq_getElem (by have:=hN.sl;omega)⟩;obtain ⟨rows,q1,q2⟩:=hN.sub i s v hs hv;cases s with
 | none=>
  obtain ⟨_,a,cp,hval,_⟩:=q2;rw[hval];exact .hnNil a cp hN.loc hs
 | some t=>
  rw[Zba.val q2];exact .hn (b2:=t.1) (off2:=t.2.1) (cap2:=t.2.2.1) (n2:=t.2.2.2) hN.loc hs
theorem wPb{w:World}{u:Nat->Nat}{e:TypeId}{size:Nat}{rows:List (List PV)}{s:Option (Nat × Nat × Nat × Nat)}{v:Value}(h:Qsa w u e size rows s v):cellV v=true:=by
 cases s with
 | none=>obtain ⟨_,a,cap,rfl,_⟩:=h;rfl
 | some t=>rw[Zba.val h];rfl
theorem JTa(hx:ρ x=.np r n.toNat j0)(hr:σ.get r=some (.nrow e size j e2 size2 m (l.map F)))(ht:TyOk P t' size' bytes' zero' d')(hd:dAgg d' =false)(hv:idx l n=some v)(hj:Nat.beq j0 j=true)(hm:n.toNat < m):EvQ P ⟨dst,.load t' x,ty,pos,af,gu⟩ ρ σ (.hn r n.toNat):=
 ⟨fun c=>by simp,fun g ρv h hs=>by
  have h1:=h x (by simp[Op.operands]);rw[hx]at h1;obtain rfl:=Nat.eq_of_beq_eq_true hj;obtain ⟨hn0,hv⟩:=vWa hv;obtain ⟨b,off,cap,vs,subs,hN⟩:=VQa (hs r _ hr) hv;have e1:=zUb hN h1;have hlt:=(List.getElem?_eq_some_iff.1 hv).1;obtain ⟨s,hss⟩:∃s,subs[n.toNat]? =some s:=⟨_,List.getElem?_eq_getElem (by have:=hN.sl;omega)⟩;obtain ⟨rows,q1,q2⟩:=hN.sub _ s v hss hv;have hjs:j0 < size:=by rw[<-hN.z v (List.mem_of_getElem? hv)];exact (List.getElem?_eq_some_iff.1 q1).1
  exact ⟨_,vEa e1 (yea ht hd (kGa hN.heap (hN.place hlt hjs))),sub_val hN hv hm⟩⟩
theorem sub_row{g:G}{b off cap i:Nat}{vs:Array Value}{subs:List (Option (Nat × Nat × Nat × Nat))}{v:α}{vx:Value}(hN:NAt g r e size j e2 size2 m F l b off cap vs subs)(hv:l[i]? =some v)(hF:(F v)[j]? =some (.sl none (l2.map G2)))(hx:Rel g (.hn r i) vx):
 (l2=[]/\∃a cp,vx=.slice a 0 cp)∨∃s,subs[i]? =some (some s)/\Zba g.w g.u e2 true size2 (l2.map G2) s vx:=by
 cases hx with
 | hnNil a cp hl hs=>
  rw[hN.loc]at hl;cases hl;obtain ⟨rows,q1,q2⟩:=hN.sub i _ v hs hv;rw[hF]at q1;cases q1;exact .inl ⟨by simpa using q2.1,a,cp,rfl⟩
 | hn hl hs=>
  rw[hN.loc]at hl;cases hl;obtain ⟨rows,q1,q2⟩:=hN.sub i _ v hs hv;rw[hF]at q1;cases q1;refine .inr ⟨_,hs,?_⟩;have h:=Zba.val q2;rw[h]at q2;exact q2
theorem JUa{n2:Int}{kk:IntKind}{w2:β}(hx:ρ x=.hn r n.toNat)(hy:ρ y=.pv (.b (.int kk n2)))(hr:σ.get r=some (.nrow e size j e2 size2 m (l.map F)))(ht:TyOk P t ss sb sz (.slice e2))(he:TyOk P e2 size2 bytes zero d)(hv:idx l n=some v)(hF:(F v)[j]? =some (.sl none (l2.map G2)))(hv2:idx l2 n2=some w2):
 EvQ P ⟨dst,.indexAddr t x y,ty,pos,af,gu⟩ ρ σ (.hnp r n.toNat n2.toNat 0):=
 ⟨fun c=>by simp,fun g ρv h hs=>by
  obtain ⟨h1,h2⟩:=ops2 (o:=⟨dst,.indexAddr t x y,ty,pos,af,gu⟩) (x:=x) (y:=y) rfl h;rw[hx]at h1;rw[hy]at h2;have ey:=ksa h2;obtain ⟨hn0,hv⟩:=vWa hv;obtain ⟨hn20,hv2⟩:=vWa hv2;have hlt:n2.toNat < l2.length:=(List.getElem?_eq_some_iff.1 hv2).1;have hn2:n2 < l2.length:=by omega
  obtain ⟨i,hi,hsz,hby,hzero⟩:=he.info;obtain ⟨b,off,cap,vs,subs,hN⟩:=VQa (hs r _ hr) hv;rcases sub_row hN hv hF h1 with ⟨rfl,a,cp,e1⟩ | ⟨s,hss,hR⟩
  .simp at hlt
  have e1:=hR.val;have en:=hR.n;rw[List.length_map]at en;refine ⟨.pointer (some ⟨s.1,(s.2.1+n2.toNat) * size2+0,none⟩),?_,.hnp (b2:=s.1) (off2:=s.2.1) (cap2:=s.2.2.1) (n2:=s.2.2.2) hN.loc hss (by omega)⟩;rw[<-en]at e1;simp[execOp,Instr.indexAt,ey,e1,go_sem,asIntOf,underlying,ht.u,sizeOf,typeInfo,hi,hsz,hn20,hn2,qta,Nat.add_mul]⟩
theorem hnp_val{g:G}{b off cap i k0 j2:Nat}{vs:Array Value}{subs:List (Option (Nat × Nat × Nat × Nat))}{v:α}{vp:Value}(hN:NAt g r e size j e2 size2 m F l b off cap vs subs)(hv:l[i]? =some v)(hF:(F v)[j]? =some (.sl none (l2.map G2)))(hp:Rel g (.hnp r i k0 j2) vp):
 ∃s val,subs[i]? =some (some s)/\Zba g.w g.u e2 true size2 (l2.map G2) s val/\vs.getD ((off+i) * size+j) undef=val/\k0 < l2.length/\vp=.pointer (some ⟨s.1,(s.2.1+k0) * size2+j2,none⟩):=by
 cases hp with
 | hnp hl hs hk=>
  rw[hN.loc]at hl;cases hl;obtain ⟨rows,q1,q2⟩:=hN.sub i _ v hs hv;rw[hF]at q1;cases q1;have:=q2.n;rw[List.length_map]at this;exact ⟨_,_,hs,q2,rfl,by rw[this];exact hk,rfl⟩
theorem Zba.lt{w:World}{u:Nat->Nat}{mu:Bool}{s:Nat × Nat × Nat × Nat}{vx:Value}{i q:Nat}{vs:Array Value}(h:Zba w u e mu size (l.map F) s vx)(hsz:vs.size=(s.2.1+s.2.2.1) * size)(hi:i < l.length)(hq:q < size):(s.2.1+i) * size+q < vs.size:=by
 rw[hsz];have h1:=h.n;have h2:=h.le;rw[List.length_map]at h1;exact kIb (s:=1) (n:=l.length) hi (by omega) hq
end
end
end
section
open Go.RowKit Go.Lib Go.Proofs.Tryz
structure Wrote (w w' :World) (b p:Nat) (t:TypeId) (cur new:Array Value) (cl:List Value):Prop where
 os:w'.os=w.os
 tape:w'.tape=w.tape
 output:w'.output=w.output
 size:w'.heap.size=w.heap.size
 other:∀k,k≠b->w'.heap[k]? =w.heap[k]?
 here:w'.heap[b]? =some (.cells new t (0,0))
 sz:new.size=cur.size
 inn:∀q,q < cl.length->new.getD (p+q) undef=cl.getD q undef
 out:∀q,(q < p∨p+cl.length<=q)->new.getD q undef=cur.getD q undef
theorem zVb{w:World}{b p:Nat}{t:TypeId}{cur:Array Value}{cl:List Value}(h:w.heap[b]? =some (.cells cur t (0,0)))(hf:p+cl.length<=cur.size):Wrote w (w.setRow b (cur.toList.take p++cl++cur.toList.drop (p+cl.length)).toArray) b p t cur (cur.toList.take p++cl++cur.toList.drop (p+cl.length)).toArray cl where
 os:=rfl
 tape:=rfl
 output:=rfl
 size:=by simp[World.setRow]
 other k hk:=by simp only[World.setRow,Array.getElem?_modify];rw[if_neg (Ne.symm hk)]
 here:=setRow_heap w b cur _ t _ h
 sz:=by simp;omega
 inn q hq:=by
  rw[Array.getD_eq_getD_getElem?,List.getElem?_toArray,List.append_assoc,List.getElem?_append_right (by simp;omega),List.getElem?_append_left (by simp;omega),List.getD_eq_getElem?_getD]
  congr 2
  simp;omega
 out q hq:=by
  rw[Array.getD_eq_getD_getElem?,List.getElem?_toArray,List.append_assoc,Array.getD_eq_getD_getElem?];rcases hq with hq | hq
  .rw[List.getElem?_append_left (by simp;omega),List.getElem?_take_of_lt hq,Array.getElem?_toList]
  rw[List.getElem?_append_right (by simp;omega),List.getElem?_append_right (by simp;omega),List.getElem?_drop,Array.getElem?_toList]
  congr 2
  simp;omega
theorem Wrote.ext{w w' :World}{b p:Nat}{t:TypeId}{cur new:Array Value}{cl:List Value}{u:Nat->Nat}(h:Wrote w w' b p t cur new cl)(hb:w.heap[b]? =some (.cells cur t (0,0)))(hu:u b=0):Ext w u w' u:=⟨Nat.le_of_eq h.size.symm,fun _ _=>Nat.le_refl _,fun k i hk hi=>by
 by_cases hkb:k=b
 .subst hkb;omega
 simp only[World.cell?];rw[h.other k hkb],fun r hr=>(h.other r (by rintro rfl;rw[hb]at hr;cases hr)).trans hr⟩
theorem sub_ne:∀{subs:List (Option (Nat × Nat × Nat × Nat))} {i i' :Nat} {s s' :Nat × Nat × Nat × Nat},(zSa subs).Nodup->subs[i]? =some (some s)->subs[i']? =some (some s')->i≠i' ->s.1≠s'.1
 | [],i,_,_,_,_,h,_,_=>by simp at h
 | x::l,0,0,_,_,_,_,_,hne=>absurd rfl hne
 | x::l,0,i' +1,s,s',hd,h1,h2,_=>by
  simp only[List.getElem?_cons_zero,Option.some.injEq]at h1;subst h1;simp only[qOa,List.singleton_append,List.nodup_cons]at hd;rintro he;exact hd.1 (he▸yRa (by simpa using h2))
 | x::l,i+1,0,s,s',hd,h1,h2,_=>by
  simp only[List.getElem?_cons_zero,Option.some.injEq]at h2;subst h2;simp only[qOa,List.singleton_append,List.nodup_cons]at hd;rintro he;exact hd.1 (he▸yRa (by simpa using h1))
 | x::l,i+1,i' +1,s,s',hd,h1,h2,hne=>by
  refine sub_ne (subs:=l) ?_ (by simpa using h1) (by simpa using h2) (by omega);rw[qOa]at hd;exact (List.nodup_append.1 hd).2.1
theorem VRa{vs:Array Value}(h:∀i,i < vs.size->cellV (vs.getD i undef)=true):∀u∈vs.toList,u.oneCell' =true:=by
 intro u hu;obtain ⟨i,hi,rfl⟩:=List.getElem_of_mem hu;have h0:=h i (by simpa using hi);rw[show vs.getD i undef=vs.toList[i] by simp[Array.getD,show i < vs.size by simpa using hi]]at h0;cases hcase:vs.toList[i] <;> rw[hcase]at h0 <;> first | rfl | simp[cellV]at h0
theorem y6a{P:Program}{ρv:Operand->Value}{w:World}{b p:Nat}{t t' :TypeId}{x y:Operand}{cur:Array Value}{size' bytes' :Nat}{zero' :Value}{d' :TypeDesc}{ty:TypeId}{pos:String}{af:Array Edge}{gu:Option (Nat × Bool)}
 (hx:ρv x=.pointer (some ⟨b,p,none⟩)) (ht:TyOk P t' size' bytes' zero' d') (hn:(ρv y).cells.size=size') (hc:∀i,i < (ρv y).cells.size->cellV ((ρv y).cells.getD i undef)=true) (hb:w.heap[b]? =some (.cells cur t (0,0))) (hf:p+size' <=cur.size):
 ∃w' new,(execOp ρv ⟨none,.store t' x y,ty,pos,af,gu⟩).run P w=.ok .skip w' /\Wrote w w' b p t cur new (ρv y).cells.toList:=by
 have hs:=run_storeCells_at (P:=P) b p t (ρv y).cells.toList 0 cur w hb (by simp;omega) (VRa hc);simp only[Nat.add_zero]at hs;refine ⟨_,_,?_,zVb hb (by simp;omega)⟩;show Sem.run P (do Instr.storeAt t' (ρv x) (ρv y);pure Next.skip) w=_;rw[hx];simp only[Instr.storeAt,Instr.sureAddr,storeVar,Sem.run_bind,Sem.run_pure,Result.andThen_ok,ht.sizeOf];rw[if_neg (by rw[hn];simp)];simp only[Sem.run_bind,Sem.run_pure,Result.andThen_ok,hs]
variable {E:Env} {fr:Fr} {σ:Sto} {K:Post} {P:Program} {ρ:Operand->AV}
variable {dst:Option Tmp} {ty:TypeId} {pos:String} {af:Array Edge} {gu:Option (Nat × Bool)}
section
variable {α β:Type} {F:α->List PV} {G2:β->List PV} {l:List α} {l2:List β} {r r2 size size2 bytes sb ss k j m:Nat} {e e2 t:TypeId} {zero sz:Value} {d:TypeDesc} {x y:Operand}
variable {t' :TypeId} {size' bytes' :Nat} {zero' :Value} {d' :TypeDesc} {n:Int} {j0:Nat} {v v' :α} {c:PV}
theorem JVa{off i i' q j0 len size:Nat}(hq:q < size)(hj:j0+len<=size)(h:i' ≠i∨q < j0∨j0+len<=q):(off+i') * size+q < (off+i) * size+j0∨(off+i) * size+j0+len<=(off+i') * size+q:=by
 by_cases hi:i' =i
 .subst hi;omega
 rcases Nat.lt_or_ge i' i with h2 | h2
 .have:(off+i' +1) * size<=(off+i) * size:=Nat.mul_le_mul_right _ (by omega);rw[Nat.add_mul (off+i')]at this;omega
 have:(off+i+1) * size<=(off+i') * size:=Nat.mul_le_mul_right _ (by omega);rw[Nat.add_mul (off+i)]at this;omega
theorem Z2a{pcs:List PV}(hx:fr.ev x=.np r n.toNat j0)(hr:σ.get r=some (.nrow e size j e2 size2 m (l.map F)))(hy:(fr.ev y).weak.cells=some (pcs.map .pv))(ht:TyOk E.P t' size' bytes' zero' d')(hz:Nat.beq pcs.length size' =true)
 (hv:idx l n=some v) (hle:Nat.ble (j0+pcs.length) (F v).length=true) (hj:(Nat.ble (j+1) j0 || Nat.ble (j0+pcs.length) j)=true) (hF' :F v' =(F v).take j0++pcs++(F v).drop (j0+pcs.length)):
 OpTo E ⟨none,.store t' x y,ty,pos,af,gu⟩ fr σ fr (σ.upd r (.nrow e size j e2 size2 m ((l.set n.toNat v').map F))):=
 ⟨fun g a K Q hst hK=>by
  have hle:=Nat.le_of_ble_eq_true hle;have hz:=Nat.eq_of_beq_eq_true hz;have hj:j < j0∨j0+pcs.length<=j:=by
   simp only[Bool.or_eq_true]at hj;rcases hj with hj | hj <;> have:=Nat.le_of_ble_eq_true hj <;> omega
  refine ⟨fun _ _=>trivial,?_⟩;rw[Oper.semAt_plain _ _ _ (fun c=>by simp)];have h1:=hst.ev x;rw[hx]at h1;obtain ⟨hn0,hv⟩:=vWa hv;obtain ⟨b,off,cap,cur,subs,hN⟩:=VQa (hst.so.obj r _ hr) hv;have e1:=zUb hN h1;obtain ⟨v1,v2,v3⟩:=yTa (vya (hst.ev y)) hy;rw[List.length_map]at v1;have hlt:=(List.getElem?_eq_some_iff.1 hv).1;have hFz:=hN.z v (List.mem_of_getElem? hv);have hfit:(off+n.toNat) * size+j0+pcs.length<=cur.size:=by rw[hN.sz];exact kIb hlt hN.le (by omega)
  obtain ⟨w',new,hrun,hW⟩:=y6a (P:=E.P) (w:=g.w) (ty:=ty) (pos:=pos) (af:=af) (gu:=gu) e1 ht (by omega) v2 hN.heap (by omega);rw[hrun,Oper.uponIn_skip];have hcl:(a.eval y).cells.toList.length=pcs.length:=by simpa using v1
  have hxx:=hW.ext (u:=g.u) hN.heap hN.u;have hFv' :(F v').length=size:=by rw[hF'];simp;omega
  have hjl:((F v).take j0).length=j0:=by simp;omega
  have hF1:∀q,(q < j0∨j0+pcs.length<=q)->(F v')[q]? =(F v)[q]? :=by
   intro q hq;rw[hF',List.append_assoc];rcases hq with hq | hq
   .rw[List.getElem?_append_left (by omega),List.getElem?_take_of_lt hq]
   rw[List.getElem?_append_right (by omega),hjl,List.getElem?_append_right (by omega),List.getElem?_drop]
   congr 1;omega
  have hF2:∀q,q < pcs.length->(F v')[j0+q]? =pcs[q]? :=by
   intro q hq;rw[hF',List.append_assoc,List.getElem?_append_right (by omega),hjl,List.getElem?_append_left (by omega)]
   congr 1;omega
  have hkeep:∀i' q,q < size->(i' ≠n.toNat∨q < j0∨j0+pcs.length<=q)->new.getD ((off+i') * size+q) undef=cur.getD ((off+i') * size+q) undef:=fun i' q hq h=>hW.out _ (by rw[hcl];exact JVa hq (by omega) h)
  have hN' :NAt ⟨w',g.u,g.loc⟩ r e size j e2 size2 m F (l.set n.toNat v') b off cap new subs:=by
   refine ⟨by rw[List.length_set];exact hN.loc,hW.here,hW.sz.trans hN.sz,hN.max,by rw[List.length_set];exact hN.le,fun z hz' =>?_,hN.u,hN.sl,by rw[List.length_set];exact hN.ml,hN.nd,fun i' j' z c hi' hj' hc=>?_,fun i' s z hs hz' =>?_⟩
   .rcases List.mem_or_eq_of_mem_set hz' with h2 | rfl
    .exact hN.z z h2
    exact hFv'
   .by_cases hin:i' =n.toNat
    .subst hin;rw[List.getElem?_set_self hlt]at hi';cases hi';have hjs:j' < size:=by rw[<-hFv'];exact (List.getElem?_eq_some_iff.1 hj').1
     by_cases hr' :j' < j0∨j0+pcs.length<=j'
     .rw[hkeep _ j' hjs (.inr hr')];rw[hF1 j' hr']at hj';exact (hN.cell _ j' v c hv hj' hc).mono hxx
     have hq:j' - j0 < pcs.length:=by omega
     have:=hF2 (j' - j0) hq;rw[show j0+(j' - j0)=j' by omega,hj']at this;have h5:=v3 (j' - j0) (.pv c) (by simp[<-this]);cases h5 with
     | pv h5=>
      have h6:=hW.inn (j' - j0) (by omega);rw[show (off+n.toNat) * size+j0+(j' - j0)=(off+n.toNat) * size+j' by omega]at h6;rw[h6];have h7:=h5.mono hxx;simpa using h7
    rw[List.getElem?_set_ne (by omega)]at hi';have hjs:j' < size:=by rw[<-hN.z z (List.mem_of_getElem? hi')];exact (List.getElem?_eq_some_iff.1 hj').1
    rw[hkeep i' j' hjs (.inl hin)];exact (hN.cell i' j' z c hi' hj' hc).mono hxx
   obtain ⟨z0,hz0,hFz0⟩:∃z0,l[i']? =some z0/\(F z)[j]? =(F z0)[j]? :=by
    by_cases hin:i' =n.toNat
    .subst hin;rw[List.getElem?_set_self hlt]at hz';cases hz';exact ⟨v,hv,hF1 j hj⟩
    rw[List.getElem?_set_ne (by omega)]at hz';exact ⟨z,hz',rfl⟩
   obtain ⟨rows,q1,q2⟩:=hN.sub i' s z0 hs hz0;have hjs:j < size:=by rw[<-hN.z z0 (List.mem_of_getElem? hz0)];exact (List.getElem?_eq_some_iff.1 q1).1
   refine ⟨rows,hFz0.trans q1,?_⟩;rw[hkeep i' j hjs (.inr hj)];refine q2.mono hxx.to0 fun t ht=>⟨hW.other t.1 ?_,rfl⟩
   rintro rfl;subst ht;exact (List.nodup_cons.1 hN.nd).1 (yRa hs)
  exact hK ⟨w',g.u,g.loc⟩ _ (St.put_none (hst.objset hr hxx rfl hW.os hW.tape hW.output (fun k hk hne=>⟨hW.other k (by rintro rfl;exact hne (by rw[hN.loc];exact .inl rfl)),rfl⟩) (jFa hst.so.wf (Nat.le_of_eq hW.size.symm) _) hN'.obj (fun _=>rfl)))⟩
theorem Zja{pcs:List PV}{n2:Int}{w2 w2' :β}(hx:fr.ev x=.hnp r n.toNat n2.toNat j0)(hr:σ.get r=some (.nrow e size j e2 size2 m (l.map F)))(hy:(fr.ev y).weak.cells=some (pcs.map .pv))(ht:TyOk E.P t' size' bytes' zero' d')(hz:Nat.beq pcs.length size' =true)
 (hv:idx l n=some v) (hF:(F v)[j]? =some (.sl none (l2.map G2))) (hv2:idx l2 n2=some w2) (hle:Nat.ble (j0+pcs.length) (G2 w2).length=true) (hG' :G2 w2' =(G2 w2).take j0++pcs++(G2 w2).drop (j0+pcs.length)) (hF' :F v' =(F v).set j (.sl none ((l2.set n2.toNat w2').map G2))):
 OpTo E ⟨none,.store t' x y,ty,pos,af,gu⟩ fr σ fr (σ.upd r (.nrow e size j e2 size2 m ((l.set n.toNat v').map F))):=
 ⟨fun g a K Q hst hK=>by
  have hle:=Nat.le_of_ble_eq_true hle;have hz:=Nat.eq_of_beq_eq_true hz;refine ⟨fun _ _=>trivial,?_⟩;rw[Oper.semAt_plain _ _ _ (fun c=>by simp)];have h1:=hst.ev x;rw[hx]at h1;obtain ⟨hn0,hv⟩:=vWa hv;obtain ⟨hn20,hv2⟩:=vWa hv2;obtain ⟨b,off,cap,cur,subs,hN⟩:=VQa (hst.so.obj r _ hr) hv;obtain ⟨s,val,hss,hR,hval,hk,e1⟩:=hnp_val hN hv hF h1;obtain ⟨vs2,b1,b2,b3⟩:=hR.blk;obtain ⟨v1,v2,v3⟩:=yTa (vya (hst.ev y)) hy;rw[List.length_map]at v1;have hlt:=(List.getElem?_eq_some_iff.1 hv).1;have hFz:=hN.z v (List.mem_of_getElem? hv);have hGz:=hR.z _ (List.mem_map_of_mem (List.mem_of_getElem? hv2));have hu2:=hR.hmu rfl;have hRn:=hR.n;rw[List.length_map]at hRn;have hfit:(s.2.1+n2.toNat) * size2+j0+pcs.length<=vs2.size:=by rw[b2];exact kIb (n:=l2.length) hk (by have:=hR.le;omega) (by omega)
  obtain ⟨w',new,hrun,hW⟩:=y6a (P:=E.P) (w:=g.w) (ty:=ty) (pos:=pos) (af:=af) (gu:=gu) e1 ht (by omega) v2 b1 (by omega);rw[hrun,Oper.uponIn_skip];have hcl:(a.eval y).cells.toList.length=pcs.length:=by simpa using v1
  have hxx:=hW.ext (u:=g.u) b1 hu2;have hG2:(G2 w2').length=size2:=by rw[hG'];simp;omega
  have hjl:((G2 w2).take j0).length=j0:=by simp;omega
  have hsb:s.1≠b:=by rintro rfl;exact (List.nodup_cons.1 hN.nd).1 (yRa hss)
  have hF1:∀q,q≠j->(F v')[q]? =(F v)[q]? :=fun q hq=>by rw[hF',List.getElem?_set_ne (Ne.symm hq)]
  have hjs:j < (F v).length:=(List.getElem?_eq_some_iff.1 hF).1;have hFj:(F v')[j]? =some (.sl none ((l2.set n2.toNat w2').map G2)):=by rw[hF',List.getElem?_set_self hjs]
  have hFv' :(F v').length=size:=by rw[hF',List.length_set,hFz]
  have hR' :Zba w' g.u e2 true size2 ((l2.set n2.toNat w2').map G2) s val:=by
   refine ⟨hR.val,by simp[hRn],hR.pos,⟨new,hW.here,hW.sz.trans b2,fun i' j' z c hi' hj' =>?_⟩,hR.cap,hR.le,fun z hz' =>?_,hR.hu,hR.hmu⟩
   .simp only[List.getElem?_map,Option.map_eq_some_iff]at hi';obtain ⟨z,hi',rfl⟩:=hi';by_cases hin:i' =n2.toNat
    .subst hin;rw[List.getElem?_set_self hk]at hi';cases hi';have hjs' :j' < size2:=by rw[<-hG2];exact (List.getElem?_eq_some_iff.1 hj').1
     by_cases hr' :j' < j0∨j0+pcs.length<=j'
     .rw[hW.out _ (by rw[hcl];exact JVa hjs' (by omega) (.inr hr'))];have hj2:(G2 w2)[j']? =some c:=by
       rw[<-hj',hG',List.append_assoc];rcases hr' with hq | hq
       .rw[List.getElem?_append_left (by omega),List.getElem?_take_of_lt hq]
       rw[List.getElem?_append_right (by omega),hjl,List.getElem?_append_right (by omega),List.getElem?_drop]
       congr 1;omega
      exact (b3 _ j' _ c (by simp[hv2]) hj2).mono hxx
     have hq:j' - j0 < pcs.length:=by omega
     have hj2:pcs[j' - j0]? =some c:=by
      rw[<-hj',hG',List.append_assoc,List.getElem?_append_right (by omega),hjl,List.getElem?_append_left (by omega)]
     have h5:=v3 (j' - j0) (.pv c) (by simp[hj2]);cases h5 with
     | pv h5=>
      have h6:=hW.inn (j' - j0) (by omega);rw[show (s.2.1+n2.toNat) * size2+j0+(j' - j0)=(s.2.1+n2.toNat) * size2+j' by omega]at h6;rw[h6];have h7:=h5.mono hxx;simpa using h7
    rw[List.getElem?_set_ne (by omega)]at hi';have hzz:=hR.z _ (List.mem_map_of_mem (List.mem_of_getElem? hi'));have hjs' :j' < size2:=by rw[<-hzz];exact (List.getElem?_eq_some_iff.1 hj').1
    rw[hW.out _ (by rw[hcl];exact JVa hjs' (by omega) (.inl hin))];exact (b3 i' j' _ c (by simp[hi']) hj').mono hxx
   obtain ⟨z0,hz0,rfl⟩:=List.mem_map.1 hz';rcases List.mem_or_eq_of_mem_set hz0 with h2 | rfl
   .exact hR.z _ (List.mem_map_of_mem h2)
   exact hG2
  have hN' :NAt ⟨w',g.u,g.loc⟩ r e size j e2 size2 m F (l.set n.toNat v') b off cap cur subs:=by
   refine ⟨by rw[List.length_set];exact hN.loc,(hW.other b (Ne.symm hsb)).trans hN.heap,hN.sz,hN.max,by rw[List.length_set];exact hN.le,fun z hz' =>?_,hN.u,hN.sl,by rw[List.length_set];exact hN.ml,hN.nd,fun i' j' z c hi' hj' hc=>?_,fun i' s' z hs hz' =>?_⟩
   .rcases List.mem_or_eq_of_mem_set hz' with h2 | rfl
    .exact hN.z z h2
    exact hFv'
   .by_cases hin:i' =n.toNat
    .subst hin;rw[List.getElem?_set_self hlt]at hi';cases hi';have him:n.toNat < m:=by have:=(List.getElem?_eq_some_iff.1 hss).1;have:=hN.sl;omega
     have hjj:j' ≠j:=by
      rcases hc with hc | hc; · omega
      exact hc
     rw[hF1 j' hjj]at hj';exact (hN.cell _ j' v c hv hj' hc).mono hxx
    rw[List.getElem?_set_ne (by omega)]at hi';exact (hN.cell i' j' z c hi' hj' hc).mono hxx
   by_cases hin:i' =n.toNat
   .subst hin;rw[List.getElem?_set_self hlt]at hz';cases hz';rw[hss]at hs;cases hs;exact ⟨_,hFj,by rw[hval];exact hR'⟩
   rw[List.getElem?_set_ne (by omega)]at hz';obtain ⟨rows,q1,q2⟩:=hN.sub i' s' z hs hz';refine ⟨rows,q1,q2.mono hxx.to0 fun t ht=>⟨hW.other t.1 ?_,rfl⟩⟩;subst ht;exact sub_ne (List.nodup_cons.1 hN.nd).2 hs hss hin
  exact hK ⟨w',g.u,g.loc⟩ _ (St.put_none (hst.objset hr hxx rfl hW.os hW.tape hW.output (fun k hk hne=>⟨hW.other k (by rintro rfl;exact hne (by rw[hN.loc];exact .inr (yRa hss))),rfl⟩) (jFa hst.so.wf (Nat.le_of_eq hW.size.symm) _) hN'.obj (fun _=>rfl)))⟩
end
end
section
open Go.RowKit Go.Lib Go.Proofs.Tryz
def Yva(l l' :Loc):Prop:=l' =l∨(∃b off cap size n size2 subs more,l=.nest b off cap size n size2 subs/\l' =.nest b off cap size n size2 (subs++more))∨∃b subs subs',l=.mapr b subs/\l' =.mapr b subs'
theorem Yva.plain{l l' :Loc}(h:Yva l l')(hn:∀b off cap size n size2 subs,l≠ .nest b off cap size n size2 subs/\l≠ .mapr b subs):l' =l:=by
 rcases h with h | ⟨b,off,cap,size,n,size2,subs,more,h,_⟩ | ⟨b,subs,subs',h,_⟩
 .exact h
 .exact absurd h (hn _ _ _ _ _ _ _).1
 exact absurd h (hn b 0 0 0 0 0 subs).2
theorem Yva.mapr{l' :Loc}{b:Nat}{subs:List (Option (Nat × Nat × Nat × Nat))}(h:Yva (.mapr b subs) l'):∃subs',l' =.mapr b subs' :=by
 rcases h with h | ⟨b',off',cap',size',n',size2',subs',more,h,h2⟩ | ⟨b',s1,s2,h,h2⟩
 .exact ⟨_,h⟩
 .cases h
 cases h;exact ⟨_,h2⟩
theorem Yva.nest{l' :Loc}{b off cap size n size2:Nat}{subs:List (Option (Nat × Nat × Nat × Nat))}(h:Yva (.nest b off cap size n size2 subs) l'):∃more,l' =.nest b off cap size n size2 (subs++more):=by
 rcases h with h | ⟨b',off',cap',size',n',size2',subs',more,h,h2⟩ | ⟨b',s1,s2,h,h2⟩
 .exact ⟨[],by rw[List.append_nil];exact h⟩
 .cases h;exact ⟨more,h2⟩
 cases h
theorem JWa{α:Type}{l more:List α}{i:Nat}{x:α}(h:l[i]? =some x):(l++more)[i]? =some x:=by
 rw[List.getElem?_append_left (List.getElem?_eq_some_iff.1 h).1];exact h
theorem Rel.more{g g' :G}(hx:Ext g.w g.u g'.w g'.u){c:AV}{v:Value}(h:Rel g c v):(∀o,c.has o=true->Yva (g.loc o) (g'.loc o))->Rel g' c v:=by
 have hx0:=hx.to0;induction h with
 | any v=>exact fun _=>.any v
 | pv h=>exact fun _=>.pv (h.mono0 hx0)
 | @agg cs vs hl hc h ih=>exact fun hh=>.agg hl hc (fun i c hi=>ih i c hi fun o ho=>hh o (by unfold AV.has;exact AV.hasL_of hi ho))
 | @tup cs vs hl h ih=>exact fun hh=>.tup hl (fun i c hi=>ih i c hi fun o ho=>hh o (by unfold AV.has;exact AV.hasL_of hi ho))
 | @ptr o off b hl=>exact fun hh=>.ptr (by have:=hh o (by simp[AV.has]);rw[hl]at this;exact this.plain (by intros;simp))
 | @ep cells b off val hu hb hcell h=>exact fun hh=>Rel.mono hx (.ep val hu hb hcell h) (fun o ho=>by cases ho)
 | @hsNil r a hl=>exact fun hh=>.hsNil a (by have:=hh r (by simp[AV.has]);rw[hl]at this;exact this.plain (by intros;simp))
 | @hs r b off cap size n a hl ha=>exact fun hh=>.hs (by have:=hh r (by simp[AV.has]);rw[hl]at this;exact this.plain (by intros;simp)) ha
 | @hp r idx j b off cap size n hl hi=>exact fun hh=>.hp (by have:=hh r (by simp[AV.has]);rw[hl]at this;exact this.plain (by intros;simp)) hi
 | @fn f first captured fv cv h1 h2 hf hc ihf ihc=>
  exact fun hh=>.fn h1 h2 (fun i c hi=>ihf i c hi fun o ho=>hh o (by simp[AV.has,AV.hasL_of hi ho])) (fun i c hi=>ihc i c hi fun o ho=>hh o (by simp[AV.has,AV.hasL_of hi ho]))
 | @mp o b hl=>exact fun hh=>.mp (by have:=hh o (by simp[AV.has]);rw[hl]at this;exact this.plain (by intros;simp))
 | @hsubNil r lo a hl=>exact fun hh=>.hsubNil a (by have:=hh r (by simp[AV.has]);rw[hl]at this;exact this.plain (by intros;simp))
 | @hsub r lo b off cap size n a hl hle ha=>exact fun hh=>.hsub (by have:=hh r (by simp[AV.has]);rw[hl]at this;exact this.plain (by intros;simp)) hle ha
 | z0 a=>exact fun _=>.z0 a
 | ifc h=>exact fun _=>.ifc h
 | @hpreNil r a hl=>exact fun hh=>.hpreNil a (by have:=hh r (by simp[AV.has]);rw[hl]at this;exact this.plain (by intros;simp))
 | @hpre r hi b off cap size n a hl hle ha=>exact fun hh=>.hpre (by have:=hh r (by simp[AV.has]);rw[hl]at this;exact this.plain (by intros;simp)) hle ha
 | @nsNil r a hl=>exact fun hh=>.nsNil a (by have:=hh r (by simp[AV.has]);rw[hl]at this;exact this.plain (by intros;simp))
 | @ns r b off cap size n size2 subs a hl ha=>exact fun hh=>by have:=hh r (by simp[AV.has]);rw[hl]at this;obtain ⟨more,h2⟩:=this.nest;exact .ns h2 ha
 | @np r idx j b off cap size n size2 subs hl hi=>exact fun hh=>by have:=hh r (by simp[AV.has]);rw[hl]at this;obtain ⟨more,h2⟩:=this.nest;exact .np h2 hi
 | @hnNil r idx b off cap size n size2 subs a cap2 hl hs=>exact fun hh=>by have:=hh r (by simp[AV.has]);rw[hl]at this;obtain ⟨more,h2⟩:=this.nest;exact .hnNil a cap2 h2 (JWa hs)
 | @hn r idx b off cap size n size2 b2 off2 cap2 n2 subs hl hs=>exact fun hh=>by have:=hh r (by simp[AV.has]);rw[hl]at this;obtain ⟨more,h2⟩:=this.nest;exact .hn h2 (JWa hs)
 | @hnp r idx k j b off cap size n size2 b2 off2 cap2 n2 subs hl hs hk=>exact fun hh=>by have:=hh r (by simp[AV.has]);rw[hl]at this;obtain ⟨more,h2⟩:=this.nest;exact .hnp h2 (JWa hs) hk
 | nn h=>exact fun _=>.nn h
 | @ls o b hl=>exact fun hh=>.ls (by have:=hh o (by simp[AV.has]);rw[hl]at this;exact this.plain (by intros;simp))
 | @mr o b subs hl=>exact fun hh=>by have:=hh o (by simp[AV.has]);rw[hl]at this;obtain ⟨s,h2⟩:=this.mapr;exact .mr h2
theorem zWb{g g' :G}{r r2:Nat}(hx:Ext g.w g.u g'.w g'.u)(hl:∀k,k≠r->g'.loc k=g.loc k)(hr:Yva (g.loc r) (g'.loc r)){c:AV}{v:Value}(h:Rel g c v):Rel g' (c.clr r2) v:=by
 unfold AV.clr;cases hc:c.has r2 with
 | true=>exact .any _
 | false=>
  refine h.more hx fun o ho=>?_
  by_cases hor:o=r
  .subst hor;exact hr
  exact .inl (hl o hor)
variable {E:Env} {fr:Fr} {σ:Sto} {K:Post} {P:Program} {ρ:Operand->AV}
variable {dst:Option Tmp} {ty:TypeId} {pos:String} {af:Array Edge} {gu:Option (Nat × Bool)}
section
variable {α β:Type} {F:α->List PV} {G2:β->List PV} {l:List α} {l2:List β} {r r2 size size2 bytes sb ss k j m:Nat} {e e2 t:TypeId} {zero sz:Value} {d:TypeDesc} {x y:Operand}
variable {t' :TypeId} {size' bytes' :Nat} {zero' :Value} {d' :TypeDesc} {n:Int} {j0:Nat} {v v' :α} {c:PV}
theorem Jba{g:G}{vx:Value}(hob:RelO g r2 (.row e2 true size2 (l2.map G2)))(hx:Rel g (.hs r2 0) vx):
 ∃s,Qsa g.w g.u e2 size2 (l2.map G2) s vx/\∀t,s=some t->(AO.row e2 true size2 (l2.map G2)).own (g.loc r2) t.1:=by
 generalize hls:l2.map G2=ls at hob;cases hob with
 | nil hl=>
  cases hx with
  | hsNil a h1=>exact ⟨none,⟨rfl,a,0,rfl,fun _=>rfl⟩,fun t ht=>by cases ht⟩
  | hs h1=>rw[hl]at h1;cases h1
 | @row _ _ _ _ b off cap vs h1 h2 h3 h4 h5 h6 h7 h8 h9=>
  cases hx with
  | hsNil a hl=>rw[h1]at hl;cases hl
  | @hs _ _ _ _ _ _ ad hl ha=>
   rw[h1]at hl;cases hl;rcases Nat.eq_zero_or_pos ls.length with h0 | h0
   .refine ⟨none,⟨List.eq_nil_of_length_eq_zero h0,some ad,cap,by rw[h0],fun hx=>by cases hx⟩,fun t ht=>by cases ht⟩
   have:=ha (by omega);subst this;exact ⟨some (b,off,cap,ls.length),⟨rfl,rfl,h0,⟨vs,h2,h3,h9⟩,h4,h5,h6,h7,fun _=>h8 rfl⟩,fun t ht=>by cases ht;rw[h1];rfl⟩
theorem vvb(hx:fr.ev x=.np r n.toNat j0)(hr:σ.get r=some (.nrow e size j e2 size2 m (l.map F)))(hy:fr.ev y=.hs r2 0)(hr2:σ.get r2=some (.row e2 true size2 (l2.map G2)))(hne:Nat.beq r r2=false)(ht:TyOk E.P t' 1 bytes' zero' d')
 (hj:Nat.beq j0 j=true) (hv:idx l n=some v) (hm:n.toNat=m) (hjs:Nat.ble (j+1) (F v).length=true) (hF' :F v' =(F v).set j (.sl none (l2.map G2))):
 OpTo E ⟨none,.store t' x y,ty,pos,af,gu⟩ fr σ (fr.mp (AV.clr r2)) (((σ.dels [r2]).mp (AV.clr r2)).upd r (.nrow e size j e2 size2 (m+1) ((l.set n.toNat v').map F))):=
 ⟨fun g a K Q hst hK=>by
  obtain rfl:=Nat.eq_of_beq_eq_true hj;have hjs:=Nat.le_of_ble_eq_true hjs;have hne:r≠r2:=by rintro rfl;simp at hne
  refine ⟨fun _ _=>trivial,?_⟩;rw[Oper.semAt_plain _ _ _ (fun c=>by simp)];have h1:=hst.ev x;rw[hx]at h1;have h2:=hst.ev y;rw[hy]at h2;obtain ⟨hn0,hv⟩:=vWa hv;have hob:=hst.so.obj r _ hr;obtain ⟨b,off,cap,cur,subs,hN⟩:=VQa hob hv;have e1:=zUb hN h1;obtain ⟨s,hS,hSown⟩:=Jba (hst.so.obj r2 _ hr2) h2;have hlt:=(List.getElem?_eq_some_iff.1 hv).1;have hFz:=hN.z v (List.mem_of_getElem? hv);have hcell:=wPb hS;have hcells:(a.eval y).cells= #[a.eval y]:=by cases hc:a.eval y <;> rw[hc]at hcell <;> first | rfl | cases hcell
  obtain ⟨w',new,hrun,hW⟩:=y6a (P:=E.P) (w:=g.w) (t:=e) (cur:=cur) (ty:=ty) (pos:=pos) (af:=af) (gu:=gu) (y:=y) e1 ht (by rw[hcells];rfl) (by rw[hcells];intro i hi;simp at hi;subst hi;exact hcell) hN.heap (by have:=hN.place hlt (by omega:j0 < size);omega);rw[hcells]at hW;rw[hrun,Oper.uponIn_skip];have hxx:=hW.ext (u:=g.u) hN.heap hN.u;have hFv' :(F v').length=size:=by rw[hF',List.length_set,hFz]
  have hFj:(F v')[j0]? =some (.sl none (l2.map G2)):=by rw[hF',List.getElem?_set_self (by omega)]
  have hF1:∀q,q≠j0->(F v')[q]? =(F v)[q]? :=fun q hq=>by rw[hF',List.getElem?_set_ne (Ne.symm hq)]
  have hkeep:∀i' q,q < size->(i' ≠n.toNat∨q≠j0)->new.getD ((off+i') * size+q) undef=cur.getD ((off+i') * size+q) undef:=fun i' q hq h=>hW.out _ (JVa (len:=1) hq (by omega) (by omega))
  have hnew:new.getD ((off+n.toNat) * size+j0) undef=a.eval y:=by
   have:=hW.inn 0 (by simp);simpa using this
  let g' :G:=⟨w',g.u,fun k=>if k=r then .nest b off cap size l.length size2 (subs++ [s]) else g.loc k⟩;have hl' :g'.loc r=.nest b off cap size l.length size2 (subs++ [s]):=if_pos rfl;have hk' :∀k,k≠r->g'.loc k=g.loc k:=fun k hk=>if_neg hk
  have hbn:∀t,s=some t->t.1≠b:=by
   rintro t ht rfl;exact hne (hst.so.apart r r2 _ _ t.1 hr hr2 (by rw[hN.loc];exact .inl rfl) (hSown t ht))
  have hS' :Qsa w' g.u e2 size2 (l2.map G2) s (a.eval y):=hS.mono hxx.to0 fun t ht=>⟨hW.other t.1 (hbn t ht),rfl⟩
  have hN' :NAt g' r e size j0 e2 size2 (m+1) F (l.set n.toNat v') b off cap new (subs++ [s]):=by
   refine ⟨by rw[List.length_set];exact hl',hW.here,hW.sz.trans hN.sz,hN.max,by rw[List.length_set];exact hN.le,fun z hz' =>?_,hN.u,by rw[List.length_append,hN.sl];rfl,by rw[List.length_set];omega,?_,fun i' j' z c hi' hj' hc=>?_,fun i' s' z hs hz' =>?_⟩
   .rcases List.mem_or_eq_of_mem_set hz' with h2 | rfl
    .exact hN.z z h2
    exact hFv'
   .rw[wka];have hnd:=hN.nd;cases hs:s with
    | none=>simpa[zSa]using hnd
    | some t=>
     have htb:=hbn t hs;have hnin:t.1 ∉ zSa subs:=fun hin=>hne (hst.so.apart r r2 _ _ t.1 hr hr2 (by rw[hN.loc];exact .inr hin) (hSown t hs))
     rw[show zSa [some t]=[t.1] from rfl,<-List.cons_append];rw[List.nodup_append];refine ⟨hnd,by simp,fun q hq q' hq' =>?_⟩;simp only[List.mem_singleton]at hq';subst hq';rintro rfl;rcases List.mem_cons.1 hq with h3 | h3
     .exact htb h3
     exact hnin h3
   .by_cases hin:i' =n.toNat
    .subst hin;rw[List.getElem?_set_self hlt]at hi';cases hi';have hjj:j' ≠j0:=by omega
     have hjs' :j' < size:=by rw[<-hFv'];exact (List.getElem?_eq_some_iff.1 hj').1
     rw[hkeep _ j' hjs' (.inr hjj)];rw[hF1 j' hjj]at hj';exact (hN.cell _ j' v c hv hj' (.inr hjj)).mono hxx
    rw[List.getElem?_set_ne (by omega)]at hi';have hjs' :j' < size:=by rw[<-hN.z z (List.mem_of_getElem? hi')];exact (List.getElem?_eq_some_iff.1 hj').1
    rw[hkeep i' j' hjs' (.inl hin)];exact (hN.cell i' j' z c hi' hj' (by omega)).mono hxx
   by_cases hin:i' =n.toNat
   .subst hin;rw[List.getElem?_set_self hlt]at hz';cases hz';rw[List.getElem?_append_right (by rw[hN.sl];omega),hN.sl,hm,Nat.sub_self]at hs;simp only[List.getElem?_cons_zero,Option.some.injEq]at hs;subst hs;exact ⟨_,hFj,by rw[hnew];exact hS'⟩
   rw[List.getElem?_set_ne (by omega)]at hz';have hil:i' < subs.length:=by
    have:=(List.getElem?_eq_some_iff.1 hs).1;simp only[List.length_append,List.length_singleton]at this;have:=hN.sl;omega
   rw[List.getElem?_append_left hil]at hs;obtain ⟨rows,q1,q2⟩:=hN.sub i' s' z hs hz';refine ⟨rows,q1,?_⟩;rw[hkeep i' j0 (by omega) (.inl hin)];refine q2.mono hxx.to0 fun t ht=>⟨hW.other t.1 ?_,rfl⟩
   rintro rfl;subst ht;exact (List.nodup_cons.1 hN.nd).1 (yRa hs)
  have hle:Yva (g.loc r) (g'.loc r):=.inr <| .inl ⟨b,off,cap,size,l.length,size2,subs,[s],hN.loc,hl'⟩;refine hK g' _ (St.put_none (hst.turn (g' :=g') hr [r2] (by simpa using hne) (AV.clr r2) rfl (fun c v h=>zWb hxx hk' hle h) hxx hk' hW.os hW.tape hW.output (fun q hq hno=>⟨hW.other q ?_,rfl⟩) (jFa hst.so.wf (Nat.le_of_eq hW.size.symm) _) hN'.obj (fun q hq=>.inl ?_)))
  .rintro rfl;exact hno r _ (.inl rfl) hr (by rw[hN.loc];exact .inl rfl)
  rw[hl']at hq;rcases hq with hq | hq
  .exact ⟨r,_,.inl rfl,hr,by rw[hN.loc];exact .inl hq⟩
  have hq:q∈zSa (subs++ [s]):=hq;rw[wka]at hq;rcases List.mem_append.1 hq with hq | hq
  .exact ⟨r,_,.inl rfl,hr,by rw[hN.loc];exact .inr hq⟩
  cases hs:s with
  | none=>rw[hs]at hq;cases hq
  | some t=>
   rw[hs,show zSa [some t]=[t.1] from rfl,List.mem_singleton]at hq;subst hq;exact ⟨r2,_,.inr (by simp),hr2,hSown t hs⟩⟩
end
end
section
open Go.RowKit Go.Lib Go.Proofs.Tryz
def nall(m n:Nat):Option Bool:=if m=n then some true else none
theorem wQb{m n:Nat}{r:Bool}(h:nall m n=some r):m=n:=by
 unfold nall at h;split at h
 .assumption
 cases h
variable {E:Env} {fr:Fr} {σ:Sto} {K:Post} {P:Program} {ρ:Operand->AV}
variable {dst:Option Tmp} {ty:TypeId} {pos:String} {af:Array Edge} {gu:Option (Nat × Bool)}
section
variable {α β:Type} {F:α->List PV} {G2:β->List PV} {l r' :List α} {l2:List β} {r r2 o size size2 bytes sb ss k j m lim:Nat} {e e2 t:TypeId} {zero sz:Value} {d:TypeDesc} {x y:Operand} {v:α} {cs:List AV}
theorem wRb(o:Nat)(hN:Nat.ble (k+1) E.N=true)(hfo:fr.has o=false)(hso:σ.has o=false)(ht:TyOk E.P t ss sb sz (.slice e))(he:TyOk E.P e size bytes zero d)(hzs:(Nat.beq zero.cells.size size && Nat.ble 1 size && zero.cells.toList.all cellV && Nat.ble size 16777216)=true)
 (hc:Jza (fun i=>some (i * size,size)) (List.replicate size .any) [(0,(fr.ev y).weak)]=some cs) (hcs:AV.hasL o cs=false):
 OpTo E ⟨some k,.buildSlice t 1 #[(0,y)],ty,pos,af,gu⟩ fr σ ((k,.ls o)::fr) ((o,.cells cs)::σ):=
 ⟨fun g a K Q hst hK=>by
  simp only[Bool.and_eq_true]at hzs;have hz1:=Nat.eq_of_beq_eq_true hzs.1.1.1;have hz2:=Nat.le_of_ble_eq_true hzs.1.1.2;have hz4:=Nat.le_of_ble_eq_true hzs.2;refine ⟨fun _ _=>trivial,?_⟩;rw[Oper.semAt_plain _ _ _ (fun c=>by simp)];generalize harr:((Array.range (1 * size)).map (fun i=>zero.cells[i % zero.cells.size]!))=arr;have hasz:arr.size=size:=by rw[<-harr];simp
  have hacell:∀i,i < arr.size->cellV (arr.getD i undef)=true:=by
   intro i hi;rw[hasz]at hi;have hlt:i % zero.cells.size < zero.cells.size:=Nat.mod_lt _ (by omega);have:arr.getD i undef=zero.cells[i % zero.cells.size]:=by
    rw[<-harr];simp[hi,hlt]
   rw[this];have h3:=hzs.1.2;rw[List.all_eq_true]at h3;exact h3 _ (by simp)
  obtain ⟨out,h1,h2⟩:=JAa (g:=g) [(0,(fr.ev y).weak)] [(0,a.eval y)] (List.replicate size .any) arr cs
   ⟨by simp[hasz],hacell,fun i c hi=>by
    have:=List.mem_of_getElem? hi;rw[List.mem_replicate]at this;rw[this.2];exact .any _⟩ (by simp) (fun i p v hp hv=>by
   cases i with
   | zero=>simp at hp hv;subst hp;subst hv;exact ⟨rfl,vya (hst.ev y)⟩
   | succ i=>simp at hp) hc
  have hrun:(execOp a.eval ⟨some k,.buildSlice t 1 #[(0,y)],ty,pos,af,gu⟩).run E.P g.w=.ok (.value (.slice (some ⟨g.w.heap.size,0,none⟩) 1 1)) (g.w.alloc (.cells out e)):=by
   show Sem.run E.P (do let v <-Instr.buildSlice t 1 ((#[(0,y)]:Array (Nat × Operand)).map fun (i,x)=>(i,a.eval x));pure (Next.value v)) g.w=_;have e1:((#[(0,y)]:Array (Nat × Operand)).map fun (x:Nat × Operand)=>(x.1,a.eval x.2)).toList=[(0,a.eval y)]:=by simp
   have hgt:¬(1 * size > 2 ^ 24):=by simp;omega
   have h0:¬(1 * size=0):=by omega
   simp only[Instr.buildSlice,underlying,program,Sem.run_bind,Sem.run,ht.u,he.sizeOf,Result.andThen_ok,Sem.run_pure,if_neg hgt,if_neg h0,he.zeroValue,e1,harr,h1];rfl
  rw[hrun,Oper.uponIn_value];have hst' :=hst.box o hfo hso e h2.n h2.c h2.r hcs;exact hK _ _ (hst'.put (Nat.le_of_ble_eq_true hN) (.ls (if_pos rfl)))⟩
theorem WLa{g:G}{a:Act}{subs:List (Option (Nat × Nat × Nat × Nat))}{s:Option (Nat × Nat × Nat × Nat)}{w' :World}{b' off' cap' :Nat}{nw:Array Value}(hst:St E g a fr σ)(hr:σ.get r=some (.nrow e size j e2 size2 l.length (l.map F)))(hr2:σ.get r2=some (.row e2 true size2 (l2.map G2)))(ho:σ.get o=some (.cells cs))(hne2:r≠r2)(hneo:r≠o)
 (hsub0:(g.loc r=.nilRow/\l=[]/\subs=[])∨∃b off cap n,g.loc r=.nest b off cap size n size2 subs)
 (hsl:subs.length=l.length) (hz:∀x∈l,(F x).length=size) (hFz:(F v).length=size) (hFj:(F v)[j]? =some (.sl none (l2.map G2)))
 (hos:w'.os=g.w.os) (htape:w'.tape=g.w.tape) (hout:w'.output=g.w.output) (hx:Ext g.w g.u w' g.u)
 (hheap:w'.heap[b']? =some (.cells nw e (0,0))) (hother:∀q,q < g.w.heap.size->q≠b' ->w'.heap[q]? =g.w.heap[q]?) (hb' :(AO.nrow e size j e2 size2 l.length (l.map F)).own (g.loc r) b' /\b' ∉ zSa subs∨g.w.heap.size<=b') (hu:g.u b' =0)
 (hnsz:nw.size=(off' +cap') * size) (hcap:cap' <=maxLen) (hle:l.length+1<=cap') (hwfs:g.w.heap.size<=w'.heap.size)
 (hold:∀i j' x c,l[i]? =some x->(F x)[j']? =some c->(l.length<=i∨j' ≠j)->RelP g.w g.u c (nw.getD ((off' +i) * size+j') undef))
 (holds:∀i s x,subs[i]? =some s->l[i]? =some x->∃rows,(F x)[j]? =some (.sl none rows)/\Qsa g.w g.u e2 size2 rows s (nw.getD ((off' +i) * size+j) undef))
 (hnew:∀j' c,(F v)[j']? =some c->j' ≠j->RelP g.w g.u c (nw.getD ((off' +l.length) * size+j') undef))
 (hnews:Qsa g.w g.u e2 size2 (l2.map G2) s (nw.getD ((off' +l.length) * size+j) undef)) (hsown:∀t,s=some t->(AO.row e2 true size2 (l2.map G2)).own (g.loc r2) t.1) (hnd:(zSa subs).Nodup):
 St E ⟨w',g.u,fun q=>if q=r then .nest b' off' cap' size (l++ [v]).length size2 (subs++ [s]) else g.loc q⟩ a (fr.mp (AV.clrs [r,r2,o])) (((σ.dels [r2,o]).mp (AV.clrs [r,r2,o])).upd r (.nrow e size j e2 size2 (l.length+1) ((l++ [v]).map F))):=by
 let g' :G:=⟨w',g.u,fun q=>if q=r then .nest b' off' cap' size (l++ [v]).length size2 (subs++ [s]) else g.loc q⟩;have hl' :g'.loc r=.nest b' off' cap' size (l++ [v]).length size2 (subs++ [s]):=if_pos rfl;have hk' :∀q,q≠r->g'.loc q=g.loc q:=fun q hq=>if_neg hq
 have hsubown:∀q,q∈zSa subs->(AO.nrow e size j e2 size2 l.length (l.map F)).own (g.loc r) q:=by
  intro q hq;rcases hsub0 with ⟨_,_,rfl⟩ | ⟨b,off,cap,n,h⟩
  .cases hq
  rw[h];exact .inr hq
 have hlt:∀q,(AO.nrow e size j e2 size2 l.length (l.map F)).own (g.loc r) q->q < g.w.heap.size:=fun q hq=>(hst.so.obj r _ hr).block_lt hq
 have hlt2:∀q,(AO.row e2 true size2 (l2.map G2)).own (g.loc r2) q->q < g.w.heap.size:=fun q hq=>(hst.so.obj r2 _ hr2).block_lt hq
 have hdis:∀q,(AO.nrow e size j e2 size2 l.length (l.map F)).own (g.loc r) q->¬(AO.row e2 true size2 (l2.map G2)).own (g.loc r2) q:=fun q h1 h2=>hne2 (hst.so.apart r r2 _ _ q hr hr2 h1 h2)
 have hb'sub:b' ∉ zSa subs:=by
  rcases hb' with h | h
  .exact h.2
  intro hin;have:=hlt _ (hsubown _ hin);omega
 have hb's:∀t,s=some t->t.1≠b' :=by
  rintro t ht rfl;rcases hb' with h | h
  .exact hdis _ h.1 (hsown t ht)
  have:=hlt2 _ (hsown t ht);omega
 have hN' :NAt g' r e size j e2 size2 (l.length+1) F (l++ [v]) b' off' cap' nw (subs++ [s]):=by
  refine ⟨hl',hheap,hnsz,hcap,by simpa using hle,fun z hz' =>?_,hu,by simp[hsl],by simp,?_,fun i' j' z c hi' hj' hc=>?_,fun i' s' z hs hz' =>?_⟩
  .rcases List.mem_append.1 hz' with h | h
   .exact hz z h
   simp only[List.mem_singleton]at h;rw[h];exact hFz
  .rw[wka];cases hs:s with
   | none=>rw[show zSa [none]=[] from rfl,List.append_nil];exact List.nodup_cons.2 ⟨hb'sub,hnd⟩
   | some t=>
    rw[show zSa [some t]=[t.1] from rfl,List.nodup_cons,List.nodup_append];refine ⟨fun hin=>?_,hnd,by simp,fun q hq q' hq' =>?_⟩
    .rcases List.mem_append.1 hin with h | h
     .exact hb'sub h
     simp only[List.mem_singleton]at h;exact hb's t hs h.symm
    simp only[List.mem_singleton]at hq';subst hq';rintro rfl;exact hdis _ (hsubown _ hq) (hsown t hs)
  .rcases Nat.lt_or_ge i' l.length with h | h
   .rw[List.getElem?_append_left h]at hi';exact (hold i' j' z c hi' hj' (by omega)).mono hx
   rw[List.getElem?_append_right h]at hi';have:i' =l.length:=by have:=(List.getElem?_eq_some_iff.1 hi').1;simp at this;omega
   subst this;rw[Nat.sub_self]at hi';cases hi';exact (hnew j' c hj' (by omega)).mono hx
  have hsame:∀t,s' =some t->t.1 < g.w.heap.size->t.1≠b' ->w'.heap[t.1]? =g.w.heap[t.1]? /\g.u t.1=g.u t.1:=fun t _ h1 h2=>⟨hother t.1 h1 h2,rfl⟩
  rcases Nat.lt_or_ge i' l.length with h | h
  .rw[List.getElem?_append_left h]at hz';rw[List.getElem?_append_left (by omega)]at hs;obtain ⟨rows,q1,q2⟩:=holds i' s' z hs hz';refine ⟨rows,q1,q2.mono hx.to0 fun t ht=>hsame t ht ?_ ?_⟩
   .subst ht;exact hlt _ (hsubown _ (yRa hs))
   subst ht;rintro rfl;exact hb'sub (yRa hs)
  rw[List.getElem?_append_right h]at hz';have:i' =l.length:=by have:=(List.getElem?_eq_some_iff.1 hz').1;simp at this;omega
  subst this;rw[Nat.sub_self]at hz';cases hz';rw[List.getElem?_append_right (by omega),hsl,Nat.sub_self]at hs;cases hs;exact ⟨_,hFj,hnews.mono hx.to0 fun t ht=>hsame t ht (hlt2 _ (hsown t ht)) (hb's t ht)⟩
 refine hst.turn (g' :=g') hr [r2,o] (by simp[hne2,hneo]) (AV.clrs [r,r2,o]) rfl (fun c vx h=>Wma hx (fun q hq=>hk' q (by rintro rfl;simp at hq)) h) hx hk' hos htape hout (fun q hq hno=>⟨hother q hq ?_,rfl⟩) (jFa hst.so.wf hwfs _) hN'.obj (fun q hq=>?_)
 .rintro rfl;rcases hb' with h | h
  .exact hno r _ (.inl rfl) hr h.1
  omega
 rw[hl']at hq;rcases hq with hq | hq
 .cases hq;rcases hb' with h | h
  .exact .inl ⟨r,_,.inl rfl,hr,h.1⟩
  exact .inr h
 have hq:q∈zSa (subs++ [s]):=hq;rw[wka]at hq;rcases List.mem_append.1 hq with hq | hq
 .exact .inl ⟨r,_,.inl rfl,hr,hsubown q hq⟩
 cases hs:s with
 | none=>rw[hs]at hq;cases hq
 | some t=>
  rw[hs,show zSa [some t]=[t.1] from rfl,List.mem_singleton]at hq;subst hq;exact .inl ⟨r2,_,.inr (by simp),hr2,hsown t hs⟩
theorem zXb(hN:Nat.ble (k+1) E.N=true)(hx:fr.ev x=.ns r)(hr:σ.get r=some (.nrow e size j e2 size2 m (l.map F)))(hy:fr.ev y=.ls o)(ho:σ.get o=some (.cells cs))(hcs:cs=((F v).map AV.pv).set j (.hs r2 0))(hr2:σ.get r2=some (.row e2 true size2 (l2.map G2)))(hne:(Nat.beq r r2 || Nat.beq r o)=false)
 (hFj:(F v)[j]? =some (.sl none (l2.map G2))) (hm:m=l.length) (ht:TyOk E.P t ss sb sz (.slice e)) (he:TyOk E.P e size bytes zero d)
 (hzz:Nat.beq zero.cells.size size=true) (hs:Nat.ble 1 size=true) (hF:∀x,(F x).length=size) (hlim:(Nat.ble (lim * bytes) 140737488355328 && Nat.ble lim 9223372036854775807)=true) (h:app lim l [v]=some r'):
 OpTo E ⟨some k,.call ⟨.builtin .append, #[x,y], #[t,t]⟩,ty,pos,af,gu⟩ fr σ ((k,.ns r)::fr.mp (AV.clrs [r,r2,o])) (((σ.dels [r2,o]).mp (AV.clrs [r,r2,o])).upd r (.nrow e size j e2 size2 (m+1) (r'.map F))):=
 ⟨fun g a K Q hst hK=>by
  obtain ⟨hle,rfl⟩:=Wha h;subst hm;simp only[Bool.and_eq_true]at hlim;simp only[Bool.or_eq_false_iff]at hne;have hne2:r≠r2:=by rintro rfl;simp at hne
  have hneo:r≠o:=by rintro rfl;simp at hne
  have hl1:=Nat.le_of_ble_eq_true hlim.1;have hl2:=Nat.le_of_ble_eq_true hlim.2;have hzz:=Nat.eq_of_beq_eq_true hzz;have hs:=Nat.le_of_ble_eq_true hs;simp only[List.length_singleton]at hle;refine ⟨fun _ _=>trivial,?_⟩;rw[Oper.semAt_plain _ _ _ (fun c=>by simp)];have h1:=hst.ev x;rw[hx]at h1;have h2:=hst.ev y;rw[hy]at h2;have hoo:=hst.so.obj o _ ho;have hlb:(l.length+1) * bytes<=140737488355328:=Nat.le_trans (Nat.mul_le_mul_right _ hle) hl1;generalize ev2:a.eval y=v2 at h2;cases hoo with
  | @cells _ b0 t0 vs0 q1 q2 q3 q4 q5 q6=>
  cases h2 with
  | ls p1=>
  rw[q1]at p1;cases p1;have hsz0:vs0.size=size:=by rw[q3,hcs];simp[hF]
  have hjs:j < size:=by rw[<-hF v];exact (List.getElem?_eq_some_iff.1 hFj).1
  have hnl:vs0.toList.length=1 * size:=by simp[hsz0]
  have hcells:∀q u,vs0.toList[q]? =some u->g.w.cell? (Addr.add ⟨b0,0,none⟩ q)=some u:=by
   intro q u hq;have hlt:q < vs0.size:=by simpa using (List.getElem?_eq_some_iff.1 hq).1
   rw[qta,Nat.zero_add,kGa q2 hlt];rw[Array.getD_eq_getD_getElem?,<-Array.getElem?_toList,hq];rfl
  have hone:=VRa q5;have hval:∀j' c,(F v)[j']? =some c->j' ≠j->RelP g.w g.u c (vs0.getD j' undef):=by
   intro j' c hc hne;have:=q6 j' (.pv c) (by rw[hcs,List.getElem?_set_ne (Ne.symm hne)];simp[hc]);cases this with
   | pv h=>exact h
  have hsv:Rel g (.hs r2 0) (vs0.getD j undef):=q6 j _ (by rw[hcs,List.getElem?_set_self (by simp[hF];exact hjs)]);obtain ⟨s,hS,hSown⟩:=Jba (hst.so.obj r2 _ hr2) hsv;obtain ⟨old,ev1,hold,hsubs⟩:∃old:Option Addr × Option (Nat × Nat × Nat × Array Value),a.eval x=oldV l.length old/\q3b g.w e size l.length old/\
   ((old.2=none/\g.loc r=.nilRow/\l=[])∨∃b off cap cur subs,old.2=some (b,off,cap,cur)/\NAt g r e size j e2 size2 l.length F l b off cap cur subs):=by
   rcases wOb (hst.so.obj r _ hr) with ⟨hl,rfl,_⟩ | ⟨b,off,cap,cur,subs,hNA⟩
   .generalize a.eval x=vx at h1;cases h1 with
    | nsNil ad h1=>exact ⟨(ad,none),rfl,rfl,.inl ⟨rfl,hl,rfl⟩⟩
    | ns h1=>rw[hl]at h1;cases h1
   generalize a.eval x=vx at h1;cases h1 with
   | nsNil ad h1=>rw[hNA.loc]at h1;cases h1
   | @ns _ _ _ _ _ _ _ _ ad h1 ha=>
    rw[hNA.loc]at h1;cases h1;exact ⟨(some ad,some (b,off,cap,cur)),rfl,⟨hNA.heap,hNA.sz,hNA.le,hNA.max,ad,rfl,ha⟩,.inr ⟨b,off,cap,cur,subs,rfl,hNA⟩⟩
  obtain ⟨v',w',hrun,hres⟩:=Zda (ty:=ty) (c:=1) (m:=1) ht he hzz (by omega) hold hnl hcells hone hlb (by unfold maxLen;omega);rw[k0a (x:=x) (y:=y) (w:=g.w) (by rw[ev1,ev2];exact hrun),Oper.uponIn_value];have hnewget:∀q,q < size->∀(nw:Array Value) (p:Nat),(∀q,q < vs0.toList.length->nw.getD (p+q) undef=vs0.toList.getD q undef)->nw.getD (p+q) undef=vs0.getD q undef:=by
   intro q hq nw p hh;rw[hh q (by rw[hnl];omega),List.getD_eq_getElem?_getD,Array.getElem?_toList,Array.getD_eq_getD_getElem?]
  cases hres with
  | same hm _ _=>omega
  | @room a0 b off cap cur ho2 hle2 _=>
   subst ho2;rcases hsubs with ⟨h3,_⟩ | ⟨b',off',cap',cur',subs,h3,hNA⟩
   .cases h3
   cases h3;have hfit:(off+l.length) * size+vs0.toList.length<=cur.size:=by rw[hnl,hNA.sz,<-Nat.add_mul];exact Nat.mul_le_mul_right _ (by omega)
   have hW:=zVb (w:=g.w) (p:=(off+l.length) * size) (cl:=vs0.toList) hNA.heap hfit;have hxx:=hW.ext (u:=g.u) hNA.heap hNA.u;have hkeep:∀i q,i < l.length->q < size->(cur.toList.take ((off+l.length) * size)++vs0.toList++cur.toList.drop ((off+l.length) * size+vs0.toList.length)).toArray.getD ((off+i) * size+q) undef=cur.getD ((off+i) * size+q) undef:=fun i q hi hq=>hW.out _ (.inl (by
    have:(off+i+1) * size<=(off+l.length) * size:=Nat.mul_le_mul_right _ (by omega);rw[Nat.add_mul (off+i)]at this;omega))
   have hst' :=WLa (v:=v) (o:=o) (cs:=cs) (w' :=g.w.setRow b _) (b' :=b) (off' :=off) (cap' :=cap) (s:=s) (subs:=subs) hst hr hr2 ho hne2 hneo (.inr ⟨_,_,_,_,hNA.loc⟩) hNA.sl hNA.z (hF v) hFj hW.os hW.tape hW.output hxx hW.here (fun q _ hq=>hW.other q hq) (.inl ⟨by rw[hNA.loc];exact .inl rfl,(List.nodup_cons.1 hNA.nd).1⟩) hNA.u (hW.sz.trans hNA.sz) hNA.max hle2 (Nat.le_of_eq hW.size.symm)
    (fun i j' x c hi hj hc=>by rw[hkeep i j' (List.getElem?_eq_some_iff.1 hi).1 (by rw[<-hF x];exact (List.getElem?_eq_some_iff.1 hj).1)];exact hNA.cell i j' x c hi hj hc)
    (fun i s x hi hx=>by rw[hkeep i j (List.getElem?_eq_some_iff.1 hx).1 hjs];exact hNA.sub i s x hi hx)
    (fun j' c hc hne=>by rw[hnewget j' (by rw[<-hF v];exact (List.getElem?_eq_some_iff.1 hc).1) _ _ hW.inn];exact hval j' c hc hne)
    (by rw[hnewget j hjs _ _ hW.inn];exact hS) hSown (List.nodup_cons.1 hNA.nd).2
   refine hK _ _ (hst'.put (Nat.le_of_ble_eq_true hN) ?_);have:=Rel.ns (g:=⟨g.w.setRow b (cur.toList.take ((off+l.length) * size)++vs0.toList++cur.toList.drop ((off+l.length) * size+vs0.toList.length)).toArray,g.u,fun q=>if q=r then .nest b off cap size (l++ [v]).length size2 (subs++ [s]) else g.loc q⟩) (r:=r) (a:=⟨b,off * size,none⟩) (if_pos rfl) (fun _=>rfl);simpa using this
  | @fresh cap cells hc hle2 hmx htk=>
   have hb0:(g.w.drew.alloc (.cells cells e)).heap[g.w.heap.size]? =some (.cells cells e (0,0)):=heap_alloc_new g.w.drew _;have hxx:Ext g.w g.u (g.w.drew.alloc (.cells cells e)) g.u:=⟨by simp,fun _ _=>Nat.le_refl _,fun q i hq _=>by
    simp only[World.cell?];rw[show (g.w.drew.alloc (.cells cells e)).heap[q]? =g.w.heap[q]? from Below.heap_alloc g.w.drew _ _ hq],fun r' hr' =>(Below.heap_alloc g.w.drew _ _ (kJa hr')).trans hr'⟩
   have hplen:(yYa size (l.length * size) old).length=l.length * size:=by
    obtain ⟨a0,old⟩:=old;rcases hsubs with ⟨h3,_,rfl⟩ | ⟨b,off,cap0,cur,subs,h3,hNA⟩
    .dsimp only at h3;subst h3;simp[yYa]
    dsimp only at h3;subst h3;simp only[yYa,List.length_take,List.length_drop,Array.length_toList,hNA.sz];rw[Nat.add_mul,Nat.add_sub_cancel_left];exact Nat.min_eq_left (Nat.mul_le_mul_right _ hNA.le)
   have hgetc:∀q,q < (l.length+1) * size->cells.getD q undef=(yYa size (l.length * size) old++vs0.toList).getD q undef:=by
    intro q hq;rw[Array.getD_eq_getD_getElem?,<-Array.getElem?_toList,List.getD_eq_getElem?_getD,<-htk,List.getElem?_take_of_lt hq]
   have hgnew:∀q,q < size->cells.getD ((0+l.length) * size+q) undef=vs0.getD q undef:=by
    intro q hq;rw[Nat.zero_add,hgetc _ (by rw[Nat.add_mul];omega),List.getD_eq_getElem?_getD,List.getElem?_append_right (by omega),hplen,Nat.add_sub_cancel_left,Array.getElem?_toList,Array.getD_eq_getD_getElem?]
   obtain ⟨subs,hs0,hsl,hz,hol,hsu,hnd⟩:∃subs,((g.loc r=.nilRow/\l=[]/\subs=[])∨∃b off cap n,g.loc r=.nest b off cap size n size2 subs)/\subs.length=l.length/\(∀x∈l,(F x).length=size)/\
    (∀i j' x c,l[i]? =some x->(F x)[j']? =some c->(l.length<=i∨j' ≠j)->RelP g.w g.u c (cells.getD ((0+i) * size+j') undef))/\(∀i s x,subs[i]? =some s->l[i]? =some x->∃rows,(F x)[j]? =some (.sl none rows)/\Qsa g.w g.u e2 size2 rows s (cells.getD ((0+i) * size+j) undef))/\(zSa subs).Nodup:=by
    obtain ⟨a0,old⟩:=old;rcases hsubs with ⟨h3,h4,rfl⟩ | ⟨b,off,cap0,cur,subs,h3,hNA⟩
    .exact ⟨[],.inl ⟨h4,rfl,rfl⟩,rfl,fun x hx=>(by cases hx),fun i j' x c hi=>(by simp at hi),fun i s x hi=>(by simp at hi),List.nodup_nil⟩
    dsimp only at h3;subst h3;have hkeep:∀i q,i < l.length->q < size->cells.getD ((0+i) * size+q) undef=cur.getD ((off+i) * size+q) undef:=by
     intro i q hi hq;have h5:i * size+q < l.length * size:=by
      have:(i+1) * size<=l.length * size:=Nat.mul_le_mul_right _ hi;rw[Nat.add_mul]at this;omega
     rw[Nat.zero_add,hgetc _ (by rw[Nat.add_mul];omega),List.getD_eq_getElem?_getD,List.getElem?_append_left (by omega)];simp only[yYa];rw[List.getElem?_take_of_lt h5,List.getElem?_drop,Array.getElem?_toList,Array.getD_eq_getD_getElem?]
     congr 2
     rw[Nat.add_mul];omega
    exact ⟨subs,.inr ⟨_,_,_,_,hNA.loc⟩,hNA.sl,hNA.z,fun i j' x c hi hj hc=>by rw[hkeep i j' (List.getElem?_eq_some_iff.1 hi).1 (by rw[<-hF x];exact (List.getElem?_eq_some_iff.1 hj).1)];exact hNA.cell i j' x c hi hj hc,
     fun i s x hi hx=>by rw[hkeep i j (List.getElem?_eq_some_iff.1 hx).1 hjs];exact hNA.sub i s x hi hx,(List.nodup_cons.1 hNA.nd).2⟩
   have hst' :=WLa (v:=v) (o:=o) (cs:=cs) (w' :=g.w.drew.alloc (.cells cells e)) (b' :=g.w.heap.size) (off' :=0) (cap' :=cap) (s:=s) (subs:=subs) hst hr hr2 ho hne2 hneo hs0 hsl hz (hF v) hFj rfl rfl rfl hxx hb0 (fun q hq _=>Below.heap_alloc g.w.drew _ _ hq) (.inr (Nat.le_refl _)) (hst.so.wf _ (Nat.le_refl _)) (by rw[Nat.zero_add];exact hc) hmx hle2 hxx.size hol hsu
    (fun j' c hc hne=>by rw[hgnew j' (by rw[<-hF v];exact (List.getElem?_eq_some_iff.1 hc).1)];exact hval j' c hc hne) (by rw[hgnew j hjs];exact hS) hSown hnd
   refine hK _ _ (hst'.put (Nat.le_of_ble_eq_true hN) ?_);have:=Rel.ns (g:=⟨g.w.drew.alloc (.cells cells e),g.u,fun q=>if q=r then .nest g.w.heap.size 0 cap size (l++ [v]).length size2 (subs++ [s]) else g.loc q⟩) (r:=r) (a:=⟨g.w.heap.size,0,none⟩) (if_pos rfl) (fun _=>by simp);simpa using this⟩
end
end
section
open Go.RowKit Go.Lib Go.Proofs.Tryz
variable {E:Env} {fr:Fr} {σ:Sto} {K:Post}
theorem St.split{g g' :G}{a:Act}(h:St E g a fr σ){r r1:Nat}{ob0 ob ob1:AO}(hr:σ.get r=some ob0)(hf1:fr.has r1=false)(hs1:σ.has r1=false)(hg1:σ.get r1=none)(hw:g'.w=g.w)(hu:g'.u=g.u)(hl:∀k,k≠r->k≠r1->g'.loc k=g.loc k)(hle:Yva (g.loc r) (g'.loc r))
 (hok:ob0.has r1=false) (hob:RelO g' r ob) (hob1:RelO g' r1 ob1) (hsub:∀b,ob.own (g'.loc r) b->ob0.own (g.loc r) b) (hsub1:∀b,ob1.own (g'.loc r1) b->ob0.own (g.loc r) b) (hdis:∀b,ob.own (g'.loc r) b->¬ob1.own (g'.loc r1) b)
 (hhas:∀o ob2,o≠r->σ.get o=some ob2->ob2.has r=true->∃cs,ob2=.cells cs∨∃c v,ob2=.hold c v):St E g' a fr ((r1,ob1)::σ.upd r ob):=by
 have hne:r≠r1:=by rintro rfl;rw[hr]at hg1;cases hg1
 have hx:Ext g.w g.u g'.w g'.u:=by rw[hw,hu];exact Ext.refl _ _
 have hrel:∀c v,c.has r1=false->Rel g c v->Rel g' c v:=fun c v hc hv=>hv.more hx fun o ho=>by
  by_cases h1:o=r
  .subst h1;exact hle
  by_cases h2:o=r1
  .subst h2;rw[hc]at ho;cases ho
  exact .inl (hl o h1 h2)
 have hgu:=Sto.get_upd (ob:=ob) hr;have hget:∀o ob',Sto.get ((r1,ob1)::σ.upd r ob) o=some ob' ->(o=r1/\ob' =ob1)∨(o=r/\ob' =ob)∨(o≠r/\o≠r1/\σ.get o=some ob'):=by
  intro o ob' ho;rw[Sto.get_cons]at ho;split at ho
  .rename_i h1;cases ho;exact .inl ⟨h1.symm,rfl⟩
  rename_i h1;rw[hgu]at ho;split at ho
  .rename_i h2;cases ho;exact .inr (.inl ⟨h2,rfl⟩)
  rename_i h2;exact .inr (.inr ⟨h2,Ne.symm h1,ho⟩)
 refine ⟨fun d=>hrel _ _ ?_ (h.fr d),h.n,by rw[hw];exact h.df,⟨?_,?_,?_,?_,fun k hk=>by rw[hu];exact h.so.wf k (by rw[<-hw];exact hk)⟩⟩
 .cases hh:(fr.get d).has r1 with
  | false=>rfl
  | true=>rw[Fr.has_get hh]at hf1;cases hf1
 .intro o ob' ho;rcases hget o ob' ho with ⟨rfl,rfl⟩ | ⟨rfl,rfl⟩ | ⟨h1,h2,ho⟩
  .exact hob1
  .exact hob
  have hro:=h.so.obj o ob' ho;have hn:ob'.has r1=false:=by
   cases hh:ob'.has r1 with
   | false=>rfl
   | true=>rw[Sto.has_get ho hh]at hs1;cases hs1
  cases ob' with
  | cells cs=>
   cases hro with
   | @cells _ b t vs q1 q2 q3 q4 q5 q6=>
    refine .cells ((hl o h1 h2).trans q1) (by rw[hw];exact q2) q3 (by rw[hu];exact q4) q5 fun i c hi=>hrel c _ ?_ (q6 i c hi)
    cases hh:c.has r1 with
    | false=>rfl
    | true=>rw[show (AO.cells cs).has r1=AV.hasL r1 cs from rfl,AV.hasL_of hi hh]at hn;cases hn
  | hold c v=>cases hro with
   | hold q1=>exact .hold (hrel c _ hn q1)
  | _=>exact hro.mono hx (hl o h1 h2) (fun _ hk=>by cases hk) fun b _=>by rw[hw,hu];exact ⟨rfl,rfl⟩
 .intro o o' oa ob' b h1 h2 h3 h4;rcases hget o oa h1 with ⟨rfl,rfl⟩ | ⟨rfl,rfl⟩ | ⟨p1,p2,p3⟩ <;> rcases hget o' ob' h2 with ⟨rfl,rfl⟩ | ⟨rfl,rfl⟩ | ⟨q1,q2,q3⟩
  .rfl
  .exact absurd h3 (hdis b h4)
  .rw[hl o' q1 q2]at h4;exact absurd (h.so.apart r o' _ _ b hr q3 (hsub1 b h3) h4) (Ne.symm q1)
  .exact absurd h4 (hdis b h3)
  .rfl
  .rw[hl o' q1 q2]at h4;exact absurd (h.so.apart o o' _ _ b hr q3 (hsub b h3) h4) (Ne.symm q1)
  .rw[hl o p1 p2]at h3;exact absurd (h.so.apart o r _ _ b p3 hr h3 (hsub1 b h4)) p1
  .rw[hl o p1 p2]at h3;exact absurd (h.so.apart o o' _ _ b p3 hr h3 (hsub b h4)) p1
  rw[hl o p1 p2]at h3;rw[hl o' q1 q2]at h4;exact h.so.apart o o' _ _ b p3 q3 h3 h4
 .intro o oa b h1 h2;rcases hget o oa h1 with ⟨rfl,rfl⟩ | ⟨rfl,rfl⟩ | ⟨p1,p2,p3⟩
  .exact h.so.mine r _ b hr (hsub1 b h2)
  .exact h.so.mine o _ b hr (hsub b h2)
  rw[hl o p1 p2]at h2;exact h.so.mine o _ b p3 h2
 exact ⟨by rw[hw];exact h.so.old.os,by rw[hw];exact h.so.old.tape,by rw[hw];exact h.so.old.output,h.so.old.ext.trans hx,fun b hb hs=>by rw[hw,hu];exact h.so.old.block b hb hs⟩
section
variable {κ β:Type} [BEq κ] [LawfulBEq κ] {KK:KeyK κ} {G2:β->List PV} {P:Program} {ρ:Operand->AV} {t kt e e1:TypeId} {m x y:Operand} {o r size sz1 bytes k0:Nat} {d:TypeDesc} {es:List (κ × List β)} {k:κ} {l:List β}
variable {dst:Option Tmp} {ty:TypeId} {pos:String} {af:Array Edge} {gu:Option (Nat × Bool)}
abbrev mencR(KK:KeyK κ)(G2:β->List PV)(es:List (κ × List β)):List (Value × List (List PV)):=es.map fun p=>(KK.kf p.1,p.2.map G2)
structure MAt (g:G) (o:Nat) (e:TypeId) (size:Nat) (tk:Option Nat) (KK:KeyK κ) (G2:β->List PV) (es:List (κ × List β)) (b clock:Nat) (ents:Array MapEntry) (subs:List (Option (Nat × Nat × Nat × Nat))):Prop where
 loc:g.loc o=.mapr b subs
 heap:g.w.heap[b]? =some (.map ents clock)
 u:g.u b=0
 n:ents.size=es.length
 sl:subs.length=es.length
 nd:(b::zSa subs).Nodup
 key:∀(i:Nat) p x,es[i]? =some p->ents[i]? =some x->x.key=KK.kf p.1
 cv:∀(i:Nat) x,ents[i]? =some x->cellV x.val=true
 ent:∀(i:Nat) p x,es[i]? =some p->ents[i]? =some x->(tk=some i/\subs[i]? =some none∨tk≠some i/\∃s,subs[i]? =some (some s)/\Zba g.w g.u e false size (p.2.map G2) s x.val)
theorem MAt.obj{g:G}{tk:Option Nat}{b clock:Nat}{ents:Array MapEntry}{subs:List (Option (Nat × Nat × Nat × Nat))}(h:MAt g o e1 size tk KK G2 es b clock ents subs):RelO g o (.mapr e1 size tk (mencR KK G2 es)):=
 .mapr h.loc h.heap h.u (by simpa[mencR]using h.n) (by simpa[mencR]using h.sl) h.nd fun i k' rows hi=>by
  simp only[mencR,List.getElem?_map,Option.map_eq_some_iff,Prod.mk.injEq]at hi;obtain ⟨p,hp,rfl,rfl⟩:=hi;have hlt:i < ents.size:=by rw[h.n];exact (List.getElem?_eq_some_iff.1 hp).1
  have hx:=Array.getElem?_eq_getElem hlt;exact ⟨_,hx,h.key i p _ hp hx,h.cv i _ hx,h.ent i p _ hp hx⟩
def Vsa:Loc->Loc
 | .map b=>.mapr b []
 | l=>l
def AV.mrs(o:Nat):AV->AV
 | .mp x=>bif Nat.beq x o then .mr o else .mp x
 | c=>bif c.has o then .any else c
theorem rel_mrs{g g' :G}(hx:Ext g.w g.u g'.w g'.u)(hk:∀k,k≠o->g'.loc k=g.loc k)(hl:g'.loc o=Vsa (g.loc o)){c:AV}{v:Value}(h:Rel g c v):Rel g' (c.mrs o) v:=by
 cases c
 case mp x=>
  cases hb:Nat.beq x o with
  | true=>
   rw[show AV.mrs o (.mp x)=.mr o by show (bif Nat.beq x o then AV.mr o else AV.mp x)=_;rw[hb];rfl];have:x=o:=Nat.eq_of_beq_eq_true hb;subst this;cases h with
   | mp h1=>exact .mr (subs:=[]) (by rw[hl,h1];rfl)
  | false=>
   rw[show AV.mrs o (.mp x)=.mp x by show (bif Nat.beq x o then AV.mr o else AV.mp x)=_;rw[hb];rfl];have hne:x≠o:=by rintro rfl;simp at hb
   exact h.mono hx fun k hk' =>hk k (by have:=Nat.eq_of_beq_eq_true (show Nat.beq x k=true from hk');subst this;exact hne)
 all_goals exact Vpa hx hk h
theorem St.mapr{g:G}{a:Act}(h:St E g a fr σ)(ho:σ.get o=some (.mapo false []))(e:TypeId)(size:Nat):
 St E ⟨g.w,g.u,fun k=>if k=o then Vsa (g.loc o) else g.loc k⟩ a (fr.mp (AV.on (AV.mrs o))) (((σ.dels []).mp (AV.on (AV.mrs o))).upd o (.mapr e size none [])):=by
 have hl:(⟨g.w,g.u,fun k=>if k=o then Vsa (g.loc o) else g.loc k⟩:G).loc o=Vsa (g.loc o):=if_pos rfl;have hob:=h.so.obj o _ ho;generalize hms:([]:List (Value × List PV))=ms at hob;cases hob with
 | @mapo _ _ b clock ents h1 h2 h3 h4 h5=>
  subst hms;refine h.turn (g' :=⟨g.w,g.u,fun k=>if k=o then Vsa (g.loc o) else g.loc k⟩) ho [] (by simp) _ rfl (fun c v=>wNb fun c v=>rel_mrs (g:=g) (g' :=⟨g.w,g.u,fun k=>if k=o then Vsa (g.loc o) else g.loc k⟩) (Ext.refl _ _) (fun k hk=>if_neg hk) hl) (Ext.refl _ _) (fun k hk=>if_neg hk) rfl rfl rfl (fun _ _ _=>⟨rfl,rfl⟩) h.so.wf ?_ (fun q hq=>.inl ⟨o,_,.inl rfl,ho,?_⟩)
  .exact .mapr (subs:=[]) (by rw[hl,h1];rfl) h2 h3 h4 rfl (by simp[zSa]) (fun i k rows hi=>by simp at hi)
  rw[hl,h1]at hq;rw[h1];rcases hq with hq | hq
  .exact hq
  cases hq
end
end
section
section
variable {E:Env} {ρ:Operand->AV} {P:Program} {fr FR:Fr} {σ:Sto} {dst:Option Nat} {ty:TypeId} {pos:String} {af:Array Edge} {gu:Option (Nat × Bool)}
theorem zFa{x:Operand}{r i j0:Nat}(hx:ρ x=.np r i j0):EvQ P ⟨dst,.nilCheck x,ty,pos,af,gu⟩ ρ σ (.np r i j0):=
 ⟨fun c=>by simp,fun g ρv h _=>by
  have h1:=h x (by simp[Op.operands]);rw[hx]at h1;generalize hv:ρv x=v at h1;cases h1 with
  | np hl hi=>
   refine ⟨_,?_,.np hl hi⟩;simp[execOp,hv,go_sem]⟩
theorem zua{x:Operand}{t:TypeId}{r i j0 f q:Nat}{fs:Array Field}{fl:Field}{fsize fbytes:Nat}{fzero:Value}{fd:TypeDesc}(hx:ρ x=.np r i j0)(ht:P.underlying t=some (.struct fs))(hf:fs[f]? =some fl)(hft:TyOk P fl.type fsize fbytes fzero fd)(hz:Nat.beq fsize 0=false)(hq:Nat.beq (j0+fl.offset) q=true):
 EvQ P ⟨dst,.fieldAddr t x f,ty,pos,af,gu⟩ ρ σ (.np r i q):=by
 rw[<-Nat.eq_of_beq_eq_true hq];exact WKa hx ht hf hft hz
theorem w2a{x:Operand}{t:TypeId}{r i k0 j0 f q:Nat}{fs:Array Field}{fl:Field}{fsize fbytes:Nat}{fzero:Value}{fd:TypeDesc}(hx:ρ x=.hnp r i k0 j0)(ht:P.underlying t=some (.struct fs))(hf:fs[f]? =some fl)(hft:TyOk P fl.type fsize fbytes fzero fd)(hz:Nat.beq fsize 0=false)(hq:Nat.beq (j0+fl.offset) q=true):
 EvQ P ⟨dst,.fieldAddr t x f,ty,pos,af,gu⟩ ρ σ (.hnp r i k0 q):=by
 rw[<-Nat.eq_of_beq_eq_true hq];exact V2a hx ht hf hft hz
theorem ev_min3{k:IntKind}{a b c:Int}{x y z:Operand}{ats:Array TypeId}(hx:ρ x=.pv (.b (.int k a)))(hy:ρ y=.pv (.b (.int k b)))(hz:ρ z=.pv (.b (.int k c))):EvQ P ⟨dst,.call ⟨.builtin .min, #[x,y,z],ats⟩,ty,pos,af,gu⟩ ρ σ (.pv (.b (.int k (min (min a b) c)))):=
 ⟨fun c=>by simp,fun g ρv h _=>by
  have h1:=h x (by simp[Op.operands,Call.operands]);have h2:=h y (by simp[Op.operands,Call.operands]);have h3:=h z (by simp[Op.operands,Call.operands]);rw[hx]at h1;rw[hy]at h2;rw[hz]at h3;have e1:=ksa h1;have e2:=ksa h2;have e3:=ksa h3;refine ⟨.int k (min (min a b) c),?_,.pv (.b rfl)⟩;have q1:(if b < a then b else a)=min a b:=by omega
  have q2:(if c < min a b then c else min a b)=min (min a b) c:=by omega
  simp[execOp,resolve,Deferred.ofValue,invoke,builtin,Builtin.min_,Builtin.min2,e1,e2,e3,go_sem,q1,q2]⟩
end
section
variable {E:Env} {FR:Fr} {σ:Sto} {ty:TypeId} {pos:String} {af:Array Edge} {gu:Option (Nat × Bool)} {α β:Type} {F:α->List PV} {G2:β->List PV} {l:List α} {l2:List β} {e e2 t' :TypeId} {size size2 size' bytes' j j0 m r r2:Nat} {zero' :Value} {d' :TypeDesc} {x y:Operand} {n n2:Int} {v v' :α} {w2 w2' :β} {pcs:List PV}
theorem Vta(hx:FR.ev x=.np r n.toNat j0)(hr:σ.get r=some (.nrow e size j e2 size2 m (l.map F)))(hy:(FR.ev y).weak.cells=some (pcs.map .pv))(ht:TyOk E.P t' size' bytes' zero' d')(hz:Nat.beq pcs.length size' =true)
 (hv:idx l n=some v) (hle:Nat.ble (j0+pcs.length) (F v).length=true) (hj:(Nat.ble (j+1) j0 || Nat.ble (j0+pcs.length) j)=true) (hF' :F v' =(F v).take j0++pcs++(F v).drop (j0+pcs.length)):
 HvS E ⟨none,.store t' x y,ty,pos,af,gu⟩ FR σ (σ.upd r (.nrow e size j e2 size2 m ((l.set n.toNat v').map F))):=
 ⟨fun fr he _=>Z2a ((he x (by simp[Op.operands,Call.operands])).trans hx) hr (by rw[he y (by simp[Op.operands,Call.operands])];exact hy) ht hz hv hle hj hF'⟩
theorem frLe_mp1{fr:Fr}:FrLe (fr.mp (AV.clr r2)) (fr.clrs [r2]):=fun d=>by
 rw[Fr.get_mp rfl,Fr.get_clrs];exact .inr (.inl (by simp[AV.clr,AV.clrs]))
theorem JXa(hx:FR.ev x=.np r n.toNat j0)(hr:σ.get r=some (.nrow e size j e2 size2 m (l.map F)))(hy:FR.ev y=.hs r2 0)(hr2:σ.get r2=some (.row e2 true size2 (l2.map G2)))(hne:Nat.beq r r2=false)(ht:TyOk E.P t' 1 bytes' zero' d')
 (hj:Nat.beq j0 j=true) (hv:idx l n=some v) (hm:n.toNat=m) (hjs:Nat.ble (j+1) (F v).length=true) (hF' :F v' =(F v).set j (.sl none (l2.map G2))):
 HvP E ⟨none,.store t' x y,ty,pos,af,gu⟩ FR σ [r2] (((σ.dels [r2]).mp (AV.clr r2)).upd r (.nrow e size j e2 size2 (m+1) ((l.set n.toNat v').map F))):=
 ⟨fun fr he _=>kYb (vvb ((he x (by simp[Op.operands,Call.operands])).trans hx) hr ((he y (by simp[Op.operands,Call.operands])).trans hy) hr2 hne ht hj hv hm hjs hF') frLe_mp1 vIa⟩
end
end
section
section
variable {P:Program} {t:TypeId}
variable {ρ:Operand->AV} {σ:Sto} {dst:Option Nat} {ty:TypeId} {pos:String} {af:Array Edge} {gu:Option (Nat × Bool)} {x y:Operand} {ss sb:Nat} {sz:Value}
end
end
theorem mixed:prog.follows .mixedOrders=true:=by kernel_rfl
theorem qDa:JCa prog 37:=⟨by kernel_rfl,by kernel_rfl⟩
theorem JYa:JCa prog 80:=⟨by kernel_rfl,by kernel_rfl⟩
theorem WMa:JCa prog 71:=⟨by kernel_rfl,by kernel_rfl⟩
theorem jQa:JCa prog 78:=⟨by kernel_rfl,by kernel_rfl⟩
theorem Zka:JCa prog 141:=⟨by kernel_rfl,by kernel_rfl⟩
theorem Ywa (w : World) : Sem.run prog (Array.mapM (fun (f : Field) => do pure (f.offset, <- sizeOf f.type)) #[⟨"Entry", 3, 0, false, "", "", 0⟩, ⟨"Domain", 9, 1, false, "", "", 8⟩, ⟨"To", 31, 2, false, "", "", 24⟩]) w = .ok #[(0, 1), (1, 1), (2, 1)] w := by kernel_rfl
theorem zYb (w : World) : Sem.run prog (Array.mapM (fun (f : Field) => do pure (f.offset, <- sizeOf f.type)) #[⟨"Id", 3, 0, false, "", "", 0⟩, ⟨"Mail", 30, 1, false, "", "", 8⟩, ⟨"Since", 3, 6, false, "", "", 112⟩, ⟨"Tries", 3, 7, false, "", "", 120⟩, ⟨"Due", 3, 8, false, "", "", 128⟩, ⟨"To", 95, 9, false, "", "", 136⟩]) w = .ok #[(0, 1), (1, 5), (6, 1), (7, 1), (8, 1), (9, 1)] w := by kernel_rfl
theorem WNa (w : World) : Sem.run prog (Array.mapM (fun (f : Field) => do pure (f.offset, <- sizeOf f.type)) #[⟨"From", 9, 0, false, "", "", 0⟩, ⟨"To", 23, 1, false, "", "", 16⟩, ⟨"Id", 9, 2, false, "", "", 40⟩]) w = .ok #[(0, 1), (1, 1), (2, 1)] w := by kernel_rfl
theorem zZb (w : World) : Sem.run prog (Array.mapM (fun (f : Field) => do pure (f.offset, <- sizeOf f.type)) #[⟨"Code", 3, 0, false, "", "", 0⟩, ⟨"Index", 3, 1, false, "", "", 8⟩]) w = .ok #[(0, 1), (1, 1)] w := by kernel_rfl
theorem z0b (w : World) : Sem.run prog (Array.mapM (fun (f : Field) => do pure (f.offset, <- sizeOf f.type)) #[⟨"Name", 9, 0, false, "", "", 0⟩, ⟨"Value", 9, 1, false, "", "", 16⟩]) w = .ok #[(0, 1), (1, 1)] w := by kernel_rfl
theorem k4b (w : World) : Sem.run prog (Array.mapM (fun (f : Field) => do pure (f.offset, <- sizeOf f.type)) #[⟨"Envelope", 25, 0, false, "", "", 0⟩, ⟨"Message", 28, 3, false, "", "", 56⟩]) w = .ok #[(0, 3), (3, 2)] w := by kernel_rfl
theorem Yxa (w : World) : Sem.run prog (Array.mapM (fun (f : Field) => do pure (f.offset, <- sizeOf f.type)) #[⟨"Fields", 26, 0, false, "", "", 0⟩, ⟨"Body", 22, 1, false, "", "", 24⟩]) w = .ok #[(0, 1), (1, 1)] w := by kernel_rfl
theorem Yya (w : World) : Sem.run prog (Array.mapM (fun (f : Field) => do pure (f.offset, <- sizeOf f.type)) #[⟨"Entry", 3, 0, false, "", "", 0⟩, ⟨"Number", 3, 1, false, "", "", 8⟩, ⟨"Result", 3, 2, false, "", "", 16⟩]) w = .ok #[(0, 1), (1, 1), (2, 1)] w := by kernel_rfl
theorem z1b (w : World) : Sem.run prog (Array.mapM (fun (f : Field) => do pure (f.offset, <- sizeOf f.type)) #[⟨"Entries", 52, 0, false, "", "", 0⟩, ⟨"Next", 3, 1, false, "", "", 24⟩]) w = .ok #[(0, 1), (1, 1)] w := by kernel_rfl
theorem V3a (w : World) : Sem.run prog (Array.mapM (fun (f : Field) => do pure (f.offset, <- sizeOf f.type)) #[⟨"Address", 9, 0, false, "", "", 0⟩, ⟨"Notify", 3, 1, false, "", "", 16⟩]) w = .ok #[(0, 1), (1, 1)] w := by kernel_rfl
theorem JZa (w : World) : Sem.run prog (Array.mapM (fun (f : Field) => do pure (f.offset, <- sizeOf f.type)) #[⟨"Kind", 3, 0, false, "", "", 0⟩, ⟨"Now", 3, 1, false, "", "", 8⟩, ⟨"Mail", 30, 2, false, "", "", 16⟩, ⟨"Attempt", 33, 7, false, "", "", 120⟩, ⟨"Results", 31, 10, false, "", "", 168⟩]) w = .ok #[(0, 1), (1, 1), (2, 5), (7, 3), (10, 1)] w := by kernel_rfl
theorem Yza (w : World) : Sem.run prog (Array.mapM (fun (f : Field) => do pure (f.offset, <- sizeOf f.type)) #[⟨"Recipient", 78, 0, false, "", "", 0⟩, ⟨"Result", 3, 2, false, "", "", 24⟩, ⟨"Busy", 4, 3, false, "", "", 32⟩]) w = .ok #[(0, 2), (2, 1), (3, 1)] w := by kernel_rfl
theorem Zla (w : World) : Sem.run prog (Array.mapM (fun (f : Field) => do pure (f.offset, <- sizeOf f.type)) #[⟨"b", 22, 0, false, "", "posthouse/posthouseref4", 0⟩, ⟨"bad", 4, 1, false, "", "posthouse/posthouseref4", 24⟩]) w = .ok #[(0, 1), (1, 1)] w := by kernel_rfl
theorem z2b (w : World) : Sem.run prog (Array.mapM (fun (f : Field) => do pure (f.offset, <- sizeOf f.type)) #[⟨"entry", 3, 0, false, "", "posthouse/queue", 0⟩, ⟨"domain", 9, 1, false, "", "posthouse/queue", 8⟩]) w = .ok #[(0, 1), (1, 1)] w := by kernel_rfl
theorem WOa (w : World) : Sem.run prog (Array.mapM (fun (f : Field) => do pure (f.offset, <- sizeOf f.type)) #[⟨"b", 22, 0, false, "", "posthouse/spool", 0⟩, ⟨"bad", 4, 1, false, "", "posthouse/spool", 24⟩]) w = .ok #[(0, 1), (1, 1)] w := by kernel_rfl
theorem WPa (w : World) : Sem.run prog (Array.mapM (fun (f : Field) => do pure (f.offset, <- sizeOf f.type)) #[⟨"out", 22, 0, false, "", "posthouse/spool", 0⟩]) w = .ok #[(0, 1)] w := by kernel_rfl
theorem YAa : TyOk prog 33 3 48 (.agg #[.int .i64 0, .string ⟨#[]⟩, .slice none 0 0]) (.struct #[⟨"Entry", 3, 0, false, "", "", 0⟩, ⟨"Domain", 9, 1, false, "", "", 8⟩, ⟨"To", 31, 2, false, "", "", 24⟩]) := ⟨by kernel_rfl, by kernel_rfl⟩
theorem zra : TyOk prog 97 10 160 (.agg #[.int .i64 0, .string ⟨#[]⟩, .slice none 0 0, .string ⟨#[]⟩, .slice none 0 0, .slice none 0 0, .int .i64 0, .int .i64 0, .int .i64 0, .slice none 0 0]) (.struct #[⟨"Id", 3, 0, false, "", "", 0⟩, ⟨"Mail", 30, 1, false, "", "", 8⟩, ⟨"Since", 3, 6, false, "", "", 112⟩, ⟨"Tries", 3, 7, false, "", "", 120⟩, ⟨"Due", 3, 8, false, "", "", 128⟩, ⟨"To", 95, 9, false, "", "", 136⟩]) := ⟨by kernel_rfl, by kernel_rfl⟩
theorem WQa : TyOk prog 25 3 56 (.agg #[.string ⟨#[]⟩, .slice none 0 0, .string ⟨#[]⟩]) (.struct #[⟨"From", 9, 0, false, "", "", 0⟩, ⟨"To", 23, 1, false, "", "", 16⟩, ⟨"Id", 9, 2, false, "", "", 40⟩]) := ⟨by kernel_rfl, by kernel_rfl⟩
theorem qEa : TyOk prog 37 2 16 (.agg #[.int .i64 0, .int .i64 0]) (.struct #[⟨"Code", 3, 0, false, "", "", 0⟩, ⟨"Index", 3, 1, false, "", "", 8⟩]) := ⟨by kernel_rfl, by kernel_rfl⟩
theorem qFa : TyOk prog 80 2 32 (.agg #[.string ⟨#[]⟩, .string ⟨#[]⟩]) (.struct #[⟨"Name", 9, 0, false, "", "", 0⟩, ⟨"Value", 9, 1, false, "", "", 16⟩]) := ⟨by kernel_rfl, by kernel_rfl⟩
theorem kXa : TyOk prog 30 5 104 (.agg #[.string ⟨#[]⟩, .slice none 0 0, .string ⟨#[]⟩, .slice none 0 0, .slice none 0 0]) (.struct #[⟨"Envelope", 25, 0, false, "", "", 0⟩, ⟨"Message", 28, 3, false, "", "", 56⟩]) := ⟨by kernel_rfl, by kernel_rfl⟩
theorem vra : TyOk prog 28 2 48 (.agg #[.slice none 0 0, .slice none 0 0]) (.struct #[⟨"Fields", 26, 0, false, "", "", 0⟩, ⟨"Body", 22, 1, false, "", "", 24⟩]) := ⟨by kernel_rfl, by kernel_rfl⟩
theorem waa : TyOk prog 71 3 24 (.agg #[.int .i64 0, .int .i64 0, .int .i64 0]) (.struct #[⟨"Entry", 3, 0, false, "", "", 0⟩, ⟨"Number", 3, 1, false, "", "", 8⟩, ⟨"Result", 3, 2, false, "", "", 16⟩]) := ⟨by kernel_rfl, by kernel_rfl⟩
theorem VSa : TyOk prog 54 2 32 (.agg #[.slice none 0 0, .int .i64 0]) (.struct #[⟨"Entries", 52, 0, false, "", "", 0⟩, ⟨"Next", 3, 1, false, "", "", 24⟩]) := ⟨by kernel_rfl, by kernel_rfl⟩
theorem kea : TyOk prog 78 2 24 (.agg #[.string ⟨#[]⟩, .int .i64 0]) (.struct #[⟨"Address", 9, 0, false, "", "", 0⟩, ⟨"Notify", 3, 1, false, "", "", 16⟩]) := ⟨by kernel_rfl, by kernel_rfl⟩
theorem qGa : TyOk prog 35 11 192 (.agg #[.int .i64 0, .int .i64 0, .string ⟨#[]⟩, .slice none 0 0, .string ⟨#[]⟩, .slice none 0 0, .slice none 0 0, .int .i64 0, .string ⟨#[]⟩, .slice none 0 0, .slice none 0 0]) (.struct #[⟨"Kind", 3, 0, false, "", "", 0⟩, ⟨"Now", 3, 1, false, "", "", 8⟩, ⟨"Mail", 30, 2, false, "", "", 16⟩, ⟨"Attempt", 33, 7, false, "", "", 120⟩, ⟨"Results", 31, 10, false, "", "", 168⟩]) := ⟨by kernel_rfl, by kernel_rfl⟩
theorem kIa : TyOk prog 100 4 40 (.agg #[.string ⟨#[]⟩, .int .i64 0, .int .i64 0, .bool false]) (.struct #[⟨"Recipient", 78, 0, false, "", "", 0⟩, ⟨"Result", 3, 2, false, "", "", 24⟩, ⟨"Busy", 4, 3, false, "", "", 32⟩]) := ⟨by kernel_rfl, by kernel_rfl⟩
theorem Qda:TyOk prog 4 1 1 (.bool false) .bool:=⟨by kernel_rfl,by kernel_rfl⟩
theorem z7a:TyOk prog 3 1 8 (.int .i64 0) (.int .i64):=⟨by kernel_rfl,by kernel_rfl⟩
theorem ty_int32:TyOk prog 21 1 4 (.int .i32 0) (.int .i32):=⟨by kernel_rfl,by kernel_rfl⟩
theorem qHa:TyOk prog 137 1 8 (.map none) (.map 141 4):=⟨by kernel_rfl,by kernel_rfl⟩
theorem vYa:TyOk prog 136 1 8 (.map none) (.map 9 3):=⟨by kernel_rfl,by kernel_rfl⟩
theorem Vua:TyOk prog 112 1 8 (.pointer none) (.pointer 114):=⟨by kernel_rfl,by kernel_rfl⟩
theorem Vva:TyOk prog 103 1 8 (.pointer none) (.pointer 105):=⟨by kernel_rfl,by kernel_rfl⟩
theorem wDa : TyOk prog 121 2 32 (.agg #[.slice none 0 0, .bool false]) (.struct #[⟨"b", 22, 0, false, "", "posthouse/posthouseref4", 0⟩, ⟨"bad", 4, 1, false, "", "posthouse/posthouseref4", 24⟩]) := ⟨by kernel_rfl, by kernel_rfl⟩
theorem jva : TyOk prog 141 2 24 (.agg #[.int .i64 0, .string ⟨#[]⟩]) (.struct #[⟨"entry", 3, 0, false, "", "posthouse/queue", 0⟩, ⟨"domain", 9, 1, false, "", "posthouse/queue", 8⟩]) := ⟨by kernel_rfl, by kernel_rfl⟩
theorem zAa:TyOk prog 52 1 24 (.slice none 0 0) (.slice 97):=⟨by kernel_rfl,by kernel_rfl⟩
theorem qga:TyOk prog 26 1 24 (.slice none 0 0) (.slice 80):=⟨by kernel_rfl,by kernel_rfl⟩
theorem wla:TyOk prog 55 1 24 (.slice none 0 0) (.slice 71):=⟨by kernel_rfl,by kernel_rfl⟩
theorem kga:TyOk prog 23 1 24 (.slice none 0 0) (.slice 78):=⟨by kernel_rfl,by kernel_rfl⟩
theorem qoa:TyOk prog 45 1 24 (.slice none 0 0) (.slice 35):=⟨by kernel_rfl,by kernel_rfl⟩
theorem zsa:TyOk prog 95 1 24 (.slice none 0 0) (.slice 100):=⟨by kernel_rfl,by kernel_rfl⟩
theorem QIa:TyOk prog 31 1 24 (.slice none 0 0) (.slice 3):=⟨by kernel_rfl,by kernel_rfl⟩
theorem z3b:TyOk prog 102 1 24 (.slice none 0 0) (.slice 22):=⟨by kernel_rfl,by kernel_rfl⟩
theorem WRa:TyOk prog 108 1 24 (.slice none 0 0) (.slice 9):=⟨by kernel_rfl,by kernel_rfl⟩
theorem zoa:TyOk prog 22 1 24 (.slice none 0 0) (.slice 5):=⟨by kernel_rfl,by kernel_rfl⟩
theorem WSa : TyOk prog 114 2 32 (.agg #[.slice none 0 0, .bool false]) (.struct #[⟨"b", 22, 0, false, "", "posthouse/spool", 0⟩, ⟨"bad", 4, 1, false, "", "posthouse/spool", 24⟩]) := ⟨by kernel_rfl, by kernel_rfl⟩
theorem WTa : TyOk prog 105 1 24 (.agg #[.slice none 0 0]) (.struct #[⟨"out", 22, 0, false, "", "posthouse/spool", 0⟩]) := ⟨by kernel_rfl, by kernel_rfl⟩
theorem z2a:TyOk prog 9 1 16 (.string ⟨#[]⟩) .string:=⟨by kernel_rfl,by kernel_rfl⟩
theorem ty_uint:TyOk prog 189 1 8 (.int .u64 0) (.int .u64):=⟨by kernel_rfl,by kernel_rfl⟩
theorem kKa:TyOk prog 82 1 8 (.int .u64 0) (.int .u64):=⟨by kernel_rfl,by kernel_rfl⟩
theorem zNa:TyOk prog 5 1 1 (.int .u8 0) (.int .u8):=⟨by kernel_rfl,by kernel_rfl⟩
def tab : Tab := [(33, ⟨3, 48, (.agg #[.int .i64 0, .string ⟨#[]⟩, .slice none 0 0]), (.struct #[⟨"Entry", 3, 0, false, "", "", 0⟩, ⟨"Domain", 9, 1, false, "", "", 8⟩, ⟨"To", 31, 2, false, "", "", 24⟩]), (some #[(0, 1), (1, 1), (2, 1)])⟩), (97, ⟨10, 160, (.agg #[.int .i64 0, .string ⟨#[]⟩, .slice none 0 0, .string ⟨#[]⟩, .slice none 0 0, .slice none 0 0, .int .i64 0, .int .i64 0, .int .i64 0, .slice none 0 0]), (.struct #[⟨"Id", 3, 0, false, "", "", 0⟩, ⟨"Mail", 30, 1, false, "", "", 8⟩, ⟨"Since", 3, 6, false, "", "", 112⟩, ⟨"Tries", 3, 7, false, "", "", 120⟩, ⟨"Due", 3, 8, false, "", "", 128⟩, ⟨"To", 95, 9, false, "", "", 136⟩]), (some #[(0, 1), (1, 5), (6, 1), (7, 1), (8, 1), (9, 1)])⟩), (25, ⟨3, 56, (.agg #[.string ⟨#[]⟩, .slice none 0 0, .string ⟨#[]⟩]), (.struct #[⟨"From", 9, 0, false, "", "", 0⟩, ⟨"To", 23, 1, false, "", "", 16⟩, ⟨"Id", 9, 2, false, "", "", 40⟩]), (some #[(0, 1), (1, 1), (2, 1)])⟩), (37, ⟨2, 16, (.agg #[.int .i64 0, .int .i64 0]), (.struct #[⟨"Code", 3, 0, false, "", "", 0⟩, ⟨"Index", 3, 1, false, "", "", 8⟩]), (some #[(0, 1), (1, 1)])⟩), (80, ⟨2, 32, (.agg #[.string ⟨#[]⟩, .string ⟨#[]⟩]), (.struct #[⟨"Name", 9, 0, false, "", "", 0⟩, ⟨"Value", 9, 1, false, "", "", 16⟩]), (some #[(0, 1), (1, 1)])⟩), (30, ⟨5, 104, (.agg #[.string ⟨#[]⟩, .slice none 0 0, .string ⟨#[]⟩, .slice none 0 0, .slice none 0 0]), (.struct #[⟨"Envelope", 25, 0, false, "", "", 0⟩, ⟨"Message", 28, 3, false, "", "", 56⟩]), (some #[(0, 3), (3, 2)])⟩), (28, ⟨2, 48, (.agg #[.slice none 0 0, .slice none 0 0]), (.struct #[⟨"Fields", 26, 0, false, "", "", 0⟩, ⟨"Body", 22, 1, false, "", "", 24⟩]), (some #[(0, 1), (1, 1)])⟩), (71, ⟨3, 24, (.agg #[.int .i64 0, .int .i64 0, .int .i64 0]), (.struct #[⟨"Entry", 3, 0, false, "", "", 0⟩, ⟨"Number", 3, 1, false, "", "", 8⟩, ⟨"Result", 3, 2, false, "", "", 16⟩]), (some #[(0, 1), (1, 1), (2, 1)])⟩), (54, ⟨2, 32, (.agg #[.slice none 0 0, .int .i64 0]), (.struct #[⟨"Entries", 52, 0, false, "", "", 0⟩, ⟨"Next", 3, 1, false, "", "", 24⟩]), (some #[(0, 1), (1, 1)])⟩), (78, ⟨2, 24, (.agg #[.string ⟨#[]⟩, .int .i64 0]), (.struct #[⟨"Address", 9, 0, false, "", "", 0⟩, ⟨"Notify", 3, 1, false, "", "", 16⟩]), (some #[(0, 1), (1, 1)])⟩), (35, ⟨11, 192, (.agg #[.int .i64 0, .int .i64 0, .string ⟨#[]⟩, .slice none 0 0, .string ⟨#[]⟩, .slice none 0 0, .slice none 0 0, .int .i64 0, .string ⟨#[]⟩, .slice none 0 0, .slice none 0 0]), (.struct #[⟨"Kind", 3, 0, false, "", "", 0⟩, ⟨"Now", 3, 1, false, "", "", 8⟩, ⟨"Mail", 30, 2, false, "", "", 16⟩, ⟨"Attempt", 33, 7, false, "", "", 120⟩, ⟨"Results", 31, 10, false, "", "", 168⟩]), (some #[(0, 1), (1, 1), (2, 5), (7, 3), (10, 1)])⟩), (100, ⟨4, 40, (.agg #[.string ⟨#[]⟩, .int .i64 0, .int .i64 0, .bool false]), (.struct #[⟨"Recipient", 78, 0, false, "", "", 0⟩, ⟨"Result", 3, 2, false, "", "", 24⟩, ⟨"Busy", 4, 3, false, "", "", 32⟩]), (some #[(0, 2), (2, 1), (3, 1)])⟩), (4, ⟨1, 1, (.bool false), .bool, none⟩), (3, ⟨1, 8, (.int .i64 0), (.int .i64), none⟩), (21, ⟨1, 4, (.int .i32 0), (.int .i32), none⟩), (137, ⟨1, 8, (.map none), (.map 141 4), none⟩), (136, ⟨1, 8, (.map none), (.map 9 3), none⟩), (112, ⟨1, 8, (.pointer none), (.pointer 114), none⟩), (103, ⟨1, 8, (.pointer none), (.pointer 105), none⟩), (121, ⟨2, 32, (.agg #[.slice none 0 0, .bool false]), (.struct #[⟨"b", 22, 0, false, "", "posthouse/posthouseref4", 0⟩, ⟨"bad", 4, 1, false, "", "posthouse/posthouseref4", 24⟩]), (some #[(0, 1), (1, 1)])⟩), (141, ⟨2, 24, (.agg #[.int .i64 0, .string ⟨#[]⟩]), (.struct #[⟨"entry", 3, 0, false, "", "posthouse/queue", 0⟩, ⟨"domain", 9, 1, false, "", "posthouse/queue", 8⟩]), (some #[(0, 1), (1, 1)])⟩), (52, ⟨1, 24, (.slice none 0 0), (.slice 97), none⟩), (26, ⟨1, 24, (.slice none 0 0), (.slice 80), none⟩), (55, ⟨1, 24, (.slice none 0 0), (.slice 71), none⟩), (23, ⟨1, 24, (.slice none 0 0), (.slice 78), none⟩), (45, ⟨1, 24, (.slice none 0 0), (.slice 35), none⟩), (95, ⟨1, 24, (.slice none 0 0), (.slice 100), none⟩), (31, ⟨1, 24, (.slice none 0 0), (.slice 3), none⟩), (102, ⟨1, 24, (.slice none 0 0), (.slice 22), none⟩), (108, ⟨1, 24, (.slice none 0 0), (.slice 9), none⟩), (22, ⟨1, 24, (.slice none 0 0), (.slice 5), none⟩), (114, ⟨2, 32, (.agg #[.slice none 0 0, .bool false]), (.struct #[⟨"b", 22, 0, false, "", "posthouse/spool", 0⟩, ⟨"bad", 4, 1, false, "", "posthouse/spool", 24⟩]), (some #[(0, 1), (1, 1)])⟩), (105, ⟨1, 24, (.agg #[.slice none 0 0]), (.struct #[⟨"out", 22, 0, false, "", "posthouse/spool", 0⟩]), (some #[(0, 1)])⟩), (9, ⟨1, 16, (.string ⟨#[]⟩), .string, none⟩), (189, ⟨1, 8, (.int .u64 0), (.int .u64), none⟩), (82, ⟨1, 8, (.int .u64 0), (.int .u64), none⟩), (5, ⟨1, 1, (.int .u8 0), (.int .u8), none⟩)]
theorem tk:qba prog tab:=(qea YAa Ywa (qea zra zYb (qea WQa WNa (qea qEa zZb (qea qFa z0b (qea kXa k4b (qea vra Yxa (qea waa Yya (qea VSa z1b (qea kea V3a (qea qGa JZa (qea kIa Yza (k2a Qda (k2a z7a (k2a ty_int32 (k2a qHa (k2a vYa (k2a Vua (k2a Vva (qea wDa Zla (qea jva z2b (k2a zAa (k2a qga (k2a wla (k2a kga (k2a qoa (k2a zsa (k2a QIa (k2a z3b (k2a WRa (k2a zoa (qea WSa WOa (qea WTa WPa (k2a z2a (k2a ty_uint (k2a kKa (k2a zNa tab_nil)))))))))))))))))))))))))))))))))))))
def zqa.ok(x:zqa):Prop:=ok64 x.Code/\ok64 x.Index
def zqa.bk(x:zqa):Nat:=(fun _=>1) x.Code+(fun _=>1) x.Index+1
instance:Inhabited zqa:=⟨⟨default,default⟩⟩
def jua.ok(x:jua):Prop:=zNb x.Address/\(okL zNb) x.To
def jua.bk(x:jua):Nat:=(fun s=>s.length+1) x.Address+(bkL (fun s=>s.length+1)) x.To+1
instance:Inhabited jua:=⟨⟨default,default⟩⟩
def zba.ok(x:zba):Prop:=zNb x.Address/\ok64 x.Notify
def zba.bk(x:zba):Nat:=(fun s=>s.length+1) x.Address+(fun _=>1) x.Notify+1
instance:Inhabited zba:=⟨⟨default,default⟩⟩
def zGa.ok(x:zGa):Prop:=zNb x.From/\(okL zba.ok) x.To/\zNb x.Id
def zGa.bk(x:zGa):Nat:=(fun s=>s.length+1) x.From+(bkL zba.bk) x.To+(fun s=>s.length+1) x.Id+1
instance:Inhabited zGa:=⟨⟨default,default,default⟩⟩
def zea.ok(x:zea):Prop:=zNb x.Name/\zNb x.Value
def zea.bk(x:zea):Nat:=(fun s=>s.length+1) x.Name+(fun s=>s.length+1) x.Value+1
instance:Inhabited zea:=⟨⟨default,default⟩⟩
def zxa.ok(x:zxa):Prop:=(okL zea.ok) x.Fields/\(okL (fun _=>True)) x.Body
def zxa.bk(x:zxa):Nat:=(bkL zea.bk) x.Fields+(bkL (fun _=>1)) x.Body+1
instance:Inhabited zxa:=⟨⟨default,default⟩⟩
def kca.ok(x:kca):Prop:=zGa.ok x.Envelope/\zxa.ok x.Message
def kca.bk(x:kca):Nat:=zGa.bk x.Envelope+zxa.bk x.Message+1
instance:Inhabited kca:=⟨⟨default,default⟩⟩
def zia.ok(x:zia):Prop:=zba.ok x.Recipient/\ok64 x.Result/\(fun _=>True) x.Busy
def zia.bk(x:zia):Nat:=zba.bk x.Recipient+(fun _=>1) x.Result+(fun _=>1) x.Busy+1
instance:Inhabited zia:=⟨⟨default,default,default⟩⟩
def zca.ok(x:zca):Prop:=ok64 x.Id/\kca.ok x.Mail/\ok64 x.Since/\ok64 x.Tries/\ok64 x.Due/\(okL zia.ok) x.To
def zca.bk(x:zca):Nat:=(fun _=>1) x.Id+kca.bk x.Mail+(fun _=>1) x.Since+(fun _=>1) x.Tries+(fun _=>1) x.Due+(bkL zia.bk) x.To+1
instance:Inhabited zca:=⟨⟨default,default,default,default,default,default⟩⟩
def zza.ok(x:zza):Prop:=(okL zca.ok) x.Entries/\ok64 x.Next
def zza.bk(x:zza):Nat:=(bkL zca.bk) x.Entries+(fun _=>1) x.Next+1
instance:Inhabited zza:=⟨⟨default,default⟩⟩
def zva.ok(x:zva):Prop:=ok64 x.Entry/\zNb x.Domain/\(okL ok64) x.To
def zva.bk(x:zva):Nat:=(fun _=>1) x.Entry+(fun s=>s.length+1) x.Domain+(bkL (fun _=>1)) x.To+1
instance:Inhabited zva:=⟨⟨default,default,default⟩⟩
def zla.ok(x:zla):Prop:=ok64 x.Entry/\ok64 x.Number/\ok64 x.Result
def zla.bk(x:zla):Nat:=(fun _=>1) x.Entry+(fun _=>1) x.Number+(fun _=>1) x.Result+1
instance:Inhabited zla:=⟨⟨default,default,default⟩⟩
def zha.ok(x:zha):Prop:=ok64 x.Kind/\ok64 x.Now/\kca.ok x.Mail/\zva.ok x.Attempt/\(okL ok64) x.Results
def zha.bk(x:zha):Nat:=(fun _=>1) x.Kind+(fun _=>1) x.Now+kca.bk x.Mail+zva.bk x.Attempt+(bkL (fun _=>1)) x.Results+1
instance:Inhabited zha:=⟨⟨default,default,default,default,default⟩⟩
def zma.ok(x:zma):Prop:=(okL (fun _=>True)) x.out
def zma.bk(x:zma):Nat:=(bkL (fun _=>1)) x.out+1
instance:Inhabited zma:=⟨⟨default⟩⟩
def zja.ok(x:zja):Prop:=(okL (fun _=>True)) x.b/\(fun _=>True) x.bad
def zja.bk(x:zja):Nat:=(bkL (fun _=>1)) x.b+(fun _=>1) x.bad+1
instance:Inhabited zja:=⟨⟨default,default⟩⟩
def zfa.ok(x:zfa):Prop:=(okL (fun _=>True)) x.b/\(fun _=>True) x.bad
def zfa.bk(x:zfa):Nat:=(bkL (fun _=>1)) x.b+(fun _=>1) x.bad+1
instance:Inhabited zfa:=⟨⟨default,default⟩⟩
theorem op_uint8:vpb prog 5 1 cU (fun _=>True) (fun _=>1):=opens_U zNa.u (by kernel_rfl)
theorem vwb:vpb prog 22 1 (cL cU) (okL (fun _=>True)) (bkL (fun _=>1)):=opens_L op_uint8 rfl zoa.u (by kernel_rfl)
def R_In(a0:Int)(a1:Int)(a2:Int):Option Bool:=
 ((bif decide (a1<=a0) then some (decide (a0<=a2)) else some false):Option Bool).bind fun (j1:Bool)=>some j1
def R_At(a0:Int)(a1:Int):Option zqa:=
 some ((zqa.mk a0 a1))
def qYa(a0:UInt8):Option Bool:=
 ((R_In ((a0.toNat:Int)) 97 122).bind fun v2=>(bif v2 then some true else (R_In ((a0.toNat:Int)) 65 90).bind fun v5=>(bif v5 then some true else (R_In ((a0.toNat:Int)) 48 57).bind fun v8=>some v8)):Option Bool).bind fun (j1:Bool)=>some j1
def QJa(a0:Str)(s1:Int):Option (Step Int (Unit ⊕ Int)):=
 (bif decide (s1 < (a0.length:Int)) then (idx a0 s1).bind fun v7=>(bif ((v7.toNat:Int)==64) then some (.out (.inr s1)) else some (.cont (w64 (s1+1)))) else some (.out (.inl (()))))
noncomputable def z4b(a0:Str):Option Int:=
 (iter (QJa a0) 0).bind (Sum.elim (fun b2=>some ((a0.length:Int))) (fun b3=>some b3))
def q9a(a0:Str)(s1:Int):Option (Step Int (Unit ⊕ Bool)):=
 (bif decide (s1 < (a0.length:Int)) then (idx a0 s1).bind fun v7=>((idx a0 s1).bind fun v10=>(bif ((v10.toNat:Int)==46) then (bif (s1==0) then some true else (bif (s1==(w64 ((a0.length:Int) - 1))) then some true else (idx a0 ((w64 (s1 - 1)))).bind fun v15=>some (((v15.toNat:Int)==46)))) else some false):Option Bool).bind fun (j9:Bool)=>(bif j9 then some (.out (.inr false)) else ((R_In ((v7.toNat:Int)) 97 122).bind fun v19=>(bif (!v19) then (R_In ((v7.toNat:Int)) 48 57).bind fun v22=>(bif (!v22) then (idx a0 s1).bind fun v25=>(bif ((v25.toNat:Int) !=45) then (idx a0 s1).bind fun v28=>some (((v28.toNat:Int) !=46)) else some false) else some false) else some false):Option Bool).bind fun (j18:Bool)=>(bif j18 then some (.out (.inr false)) else some (.cont (w64 (s1+1))))) else some (.out (.inl (()))))
noncomputable def yPa(a0:Str):Option Bool:=
 (iter (q9a a0) 0).bind (Sum.elim (fun b2=>(R_In ((a0.length:Int)) 1 60).bind fun v31=>some v31) (fun b3=>some b3))
def wba(a0:Str)(v1:Int)(s3:Int):Option (Step Int (Unit ⊕ Bool)):=
 (bif decide (s3 < v1) then (idx a0 s3).bind fun v9=>((qYa v9).bind fun v12=>(bif (!v12) then (bif ((v9.toNat:Int) !=45) then (bif ((v9.toNat:Int) !=95) then (bif ((v9.toNat:Int) !=46) then (bif ((v9.toNat:Int) !=43) then some (((v9.toNat:Int) !=61)) else some false) else some false) else some false) else some false) else some false):Option Bool).bind fun (j11:Bool)=>(bif j11 then some (.out (.inr false)) else some (.cont (w64 (s3+1)))) else some (.out (.inl (()))))
noncomputable def w3a(a0:Str):Option Bool:=
 (z4b a0).bind fun v1=>(iter (wba a0 v1) 0).bind (Sum.elim (fun b4=>((R_In v1 1 60).bind fun v21=>(bif v21 then (bif decide (v1 < (a0.length:Int)) then (cut a0 ((w64 (v1+1))) ((a0.length:Int))).bind fun v25=>(yPa v25).bind fun v27=>some v27 else some false) else some false):Option Bool).bind fun (j20:Bool)=>some j20) (fun b5=>some b5))
def zpa(a0:Int)(a1:Int):Option zqa:=
 some ((zqa.mk a0 a1))
def kpa:Option zqa:=
 some ((zqa.mk 0 0))
def z3a(a0:zqa):Option Bool:=
 some ((a0.Code !=0))
def qZa(a0:Int):Option Bool:=
 ((bif decide ((-68719476736)<=a0) then some (decide (a0<=68719476736)) else some false):Option Bool).bind fun (j1:Bool)=>some j1
def wsa(a0:UInt8):Option Bool:=
 ((bif decide (97<=(a0.toNat:Int)) then (bif decide ((a0.toNat:Int)<=122) then some true else (bif decide (65<=(a0.toNat:Int)) then (bif decide ((a0.toNat:Int)<=90) then some true else (bif decide (48<=(a0.toNat:Int)) then some (decide ((a0.toNat:Int)<=57)) else some false)) else (bif decide (48<=(a0.toNat:Int)) then some (decide ((a0.toNat:Int)<=57)) else some false))) else (bif decide (65<=(a0.toNat:Int)) then (bif decide ((a0.toNat:Int)<=90) then some true else (bif decide (48<=(a0.toNat:Int)) then some (decide ((a0.toNat:Int)<=57)) else some false)) else (bif decide (48<=(a0.toNat:Int)) then some (decide ((a0.toNat:Int)<=57)) else some false))):Option Bool).bind fun (j1:Bool)=>some j1
def qPa(a0:List Int)(s1:Int):Option (Step Int (Unit ⊕ Bool)):=
 (bif decide (s1 < (a0.length:Int)) then (idx a0 s1).bind fun v7=>(qZa v7).bind fun v9=>(bif (!v9) then some (.out (.inr false)) else some (.cont (w64 (s1+1)))) else some (.out (.inl (()))))
noncomputable def y7a(a0:List Int):Option Bool:=
 (iter (qPa a0) 0).bind fun o=>match o with | .inl b2=>some true | .inr b3=>some b3
def w4a(a0:List UInt8)(a1:List UInt8):Option Bool:=
 some ((a0==a1))
def qpa(a0:List UInt8)(a1:List UInt8):Option Bool:=
 ((bif decide ((a1.length:Int)<=(a0.length:Int)) then (cut a0 0 ((a1.length:Int))).bind fun v3=>(w4a v3 a1).bind fun v5=>some v5 else some false):Option Bool).bind fun (j1:Bool)=>some j1
def kka(s:Str)(c:UInt8):Option Int:=some (Lib.indexByte s c)
def qca(s t:Str):Option Bool:=if s.length < 4294967281 then some (Lib.contains s t) else none
def wqa(s t:Str):Option (Str × Str × Bool):=if s.length < 4294967281 then some (Lib.cut s t) else none
def kTa(a0:Int):Option Bool:=
 ((bif decide (0<=a0) then some (decide (a0 < 55296)) else some false):Option Bool).bind fun (j1:Bool)=>(bif j1 then some true else ((bif decide (57343 < a0) then some (decide (a0<=1114111)) else some false):Option Bool).bind fun (j4:Bool)=>(bif j4 then some true else some false))
def qSa(a0:Str)(s7:Nat):Option (Step Nat (Unit ⊕ Int)):=
 (bif decide (s7 < a0.length) then (bif ((KUa a0 s7)==65533) then some (.out (.inr (((s7:Nat):Int)))) else some (.cont (s7+jOa a0 s7))) else some (.out (.inl (()))))
def yCa(a0:Str)(a1:Int)(j23:Int × Int)(s36:Int):Option (Step Int Unit):=
 (bif decide (s36 < (((yja a1)).length:Int)) then (idx a0 ((w64 (j23.2 - s36)))).bind fun v40=>(idx ((yja a1)) ((w64 (j23.1 - s36)))).bind fun v42=>(bif ((v40.toNat:Int) !=(v42.toNat:Int)) then none else some (.cont (w64 (s36+1)))) else some (.out (())))
noncomputable def qTa(a0:Str)(a1:Int)(j23:Int × Int):Option (Step Int (Unit ⊕ Int)):=
 (iter (yCa a0 a1 j23) 1).bind fun b37=>some (.out (.inr ((w64 (j23.2 - j23.1)))))
noncomputable def qUa(a0:Str)(a1:Int)(s17:Int):Option (Step Int (Unit ⊕ Int)):=
 (bif decide (s17 < (a0.length:Int)) then (idx a0 s17).bind fun v24=>(idx ((yja a1)) ((w64 ((((yja a1)).length:Int) - 1)))).bind fun v26=>(bif ((v24.toNat:Int) !=(v26.toNat:Int)) then (cut a0 ((w64 (s17+1))) ((a0.length:Int))).bind fun v29=>(idx ((yja a1)) ((w64 ((((yja a1)).length:Int) - 1)))).bind fun v31=>(kka v29 v31).bind fun v33=>(bif decide (v33 < 0) then some (.out (.inr ((-1)))) else (qTa a0 a1 ((w64 ((((yja a1)).length:Int) - 1)),(w64 (s17+(w64 (v33+1))))))) else (qTa a0 a1 ((w64 ((((yja a1)).length:Int) - 1)),s17))) else some (.out (.inl (()))))
noncomputable def kHa(a0:Str)(a1:Int):Option Int:=
 ((bif decide (0<=a1) then some (decide (a1 < 128)) else some false):Option Bool).bind fun (j1:Bool)=>(bif j1 then (kka a0 ((toU8 a1))).bind fun v4=>some v4 else (bif (a1==65533) then (iter (qSa a0) 0).bind (Sum.elim (fun b8=>some ((-1))) (fun b9=>some b9)) else (kTa a1).bind fun v14=>(bif (!v14) then some ((-1)) else (iter (qUa a0 a1) ((w64 ((((yja a1)).length:Int) - 1)))).bind (Sum.elim (fun b18=>some ((-1))) (fun b19=>some b19)))))
def z8a(a0:Int):Option Bool:=
 some (decide (8 < a0))
noncomputable def qVa(a0:Str)(a1:Str)(s12:Nat):Option (Step Nat (Unit ⊕ Int)):=
 (bif decide (s12 < a0.length) then (kHa a1 ((KUa a0 s12))).bind fun v18=>(bif decide (0<=v18) then some (.out (.inr (((s12:Nat):Int)))) else some (.cont (s12+jOa a0 s12))) else some (.out (.inl (()))))
noncomputable def vZa(a0:Str)(a1:Str):Option Int:=
 (bif (a1==([]:Str)) then some ((-1)) else (bif ((a1.length:Int)==1) then (idx a1 0).bind fun v3=>((bif decide (128<=(v3.toNat:Int)) then some 65533 else some ((v3.toNat:Int))):Option Int).bind fun (j5:Int)=>(kHa a0 j5).bind fun v7=>some v7 else (z8a ((a0.length:Int))).bind fun v9=>(bif v9 then none else (iter (qVa a0 a1) 0).bind (Sum.elim (fun b13=>some ((-1))) (fun b14=>some b14)))))
def Jca(t:Str):Bool:=t.all fun c=>decide (c.toNat < 128)
def qxa(s t:Str):Option Int:=if s.length < 4294967281/\t.length < 4294967281/\2<=t.length/\Jca t=true then some (Lib.indexAny s t) else none
def kxa(a0:Str)(a1:Str):Option Bool:=
 ((bif decide ((a1.length:Int)<=(a0.length:Int)) then (cut a0 0 ((a1.length:Int))).bind fun v3=>some ((v3==a1)) else some false):Option Bool).bind fun (j1:Bool)=>some j1
def kYa(a0:Str)(a1:Str):Option Bool:=
 (kxa a0 a1).bind fun v1=>some v1
def kya(a0:Str)(a1:Str):Option Bool:=
 ((bif decide ((a1.length:Int)<=(a0.length:Int)) then (cut a0 ((w64 ((a0.length:Int) - (a1.length:Int)))) ((a0.length:Int))).bind fun v3=>some ((v3==a1)) else some false):Option Bool).bind fun (j1:Bool)=>some j1
def kZa(a0:Str)(a1:Str):Option Bool:=
 (kya a0 a1).bind fun v1=>some v1
def qIa(a0:Str)(s5:Int):Option (Step Int (Unit ⊕ Unit)):=
 (bif decide (s5 < (a0.length:Int)) then (idx a0 s5).bind fun v11=>((bif decide (97<=(v11.toNat:Int)) then (bif decide ((v11.toNat:Int)<=122) then some true else (bif decide (48<=(v11.toNat:Int)) then (bif decide ((v11.toNat:Int)<=57) then some true else (bif ((v11.toNat:Int)==45) then some true else some (((v11.toNat:Int)==46)))) else (bif ((v11.toNat:Int)==45) then some true else some (((v11.toNat:Int)==46))))) else (bif decide (48<=(v11.toNat:Int)) then (bif decide ((v11.toNat:Int)<=57) then some true else (bif ((v11.toNat:Int)==45) then some true else some (((v11.toNat:Int)==46)))) else (bif ((v11.toNat:Int)==45) then some true else some (((v11.toNat:Int)==46))))):Option Bool).bind fun (j13:Bool)=>(bif (!j13) then some (.out (.inr (()))) else some (.cont (w64 (s5+1)))) else some (.out (.inl (()))))
noncomputable def q0a(a0:Str):Option Bool:=
 ((bif (a0 !=([]:Str)) then (bif decide ((a0.length:Int)<=60) then ((iter (qIa a0) 0).bind (Sum.elim (fun b6=>some true) (fun b7=>some false)):Option Bool).bind fun (j4:Bool)=>(bif j4 then (kYa a0 (([46]:Str))).bind fun v26=>(bif (!v26) then (kZa a0 (([46]:Str))).bind fun v29=>(bif (!v29) then (qca a0 (([46,46]:Str))).bind fun v32=>some ((!v32)) else some false) else some false) else some false) else some false) else some false):Option Bool).bind fun (j1:Bool)=>some j1
def q1a(v1:Str × Str × Bool)(s8:Int):Option (Step Int (Unit ⊕ Unit)):=
 (bif decide (s8 < (v1.1.length:Int)) then (idx v1.1 s8).bind fun v14=>((wsa v14).bind fun v17=>(bif v17 then some true else (kka (([45,95,46,43,61]:Str)) v14).bind fun v20=>some (decide (0<=v20))):Option Bool).bind fun (j16:Bool)=>(bif (!j16) then some (.out (.inr (()))) else some (.cont (w64 (s8+1)))) else some (.out (.inl (()))))
noncomputable def vsa(a0:Str):Option (Str × Str × Bool):=
 (wqa a0 (([64]:Str))).bind fun v1=>((bif v1.2.2 then (bif (v1.1 !=([]:Str)) then (bif decide ((v1.1.length:Int)<=60) then ((iter (q1a v1) 0).bind (Sum.elim (fun b9=>some true) (fun b10=>some false)):Option Bool).bind fun (j7:Bool)=>(bif j7 then (q0a v1.2.1).bind fun v24=>some v24 else some false) else some false) else some false) else some false):Option Bool).bind fun (j3:Bool)=>some ((v1.1,v1.2.1,j3))
noncomputable def qya(a0:Str):Option Bool:=
 (vsa a0).bind fun v1=>some v1.2.2
def Zma(a0:Str)(s1:Int):Option (Step Int (Unit ⊕ Bool)):=
 (bif decide (s1 < (a0.length:Int)) then ((idx a0 s1).bind fun v8=>(qYa v8).bind fun v10=>(bif (!v10) then (idx a0 s1).bind fun v13=>(bif ((v13.toNat:Int) !=45) then (idx a0 s1).bind fun v16=>(bif ((v16.toNat:Int) !=95) then (idx a0 s1).bind fun v19=>some (((v19.toNat:Int) !=46)) else some false) else some false) else some false):Option Bool).bind fun (j7:Bool)=>(bif j7 then some (.out (.inr false)) else some (.cont (w64 (s1+1)))) else some (.out (.inl (()))))
noncomputable def QKa(a0:Str):Option Bool:=
 (iter (Zma a0) 0).bind (Sum.elim (fun b2=>(R_In ((a0.length:Int)) 1 60).bind fun v22=>some v22) (fun b3=>some b3))
def KFa(a0:List zba)(a1:Str)(s1:Int):Option (Step Int (Unit ⊕ Int)):=
 (bif decide (s1 < (a0.length:Int)) then (idx a0 s1).bind fun v7=>(bif (v7.Address==a1) then some (.out (.inr s1)) else some (.cont (w64 (s1+1)))) else some (.out (.inl (()))))
noncomputable def WUa(a0:List zba)(a1:Str):Option Int:=
 (iter (KFa a0 a1) 0).bind (Sum.elim (fun b2=>some ((-1))) (fun b3=>some b3))
noncomputable def qJa(a0:zGa)(s20:Int):Option (Step Int (Unit ⊕ zqa)):=
 (bif decide (s20 < (a0.To.length:Int)) then (idx a0.To s20).bind fun v26=>(w3a v26.Address).bind fun v28=>(bif (!v28) then (R_At 10 s20).bind fun v31=>some (.out (.inr v31)) else (idx a0.To s20).bind fun v33=>(R_In v33.Notify 0 7).bind fun v35=>(bif (!v35) then (R_At 3 s20).bind fun v38=>some (.out (.inr v38)) else (cut a0.To 0 s20).bind fun v40=>(idx a0.To s20).bind fun v42=>(WUa v40 v42.Address).bind fun v44=>(bif decide (0<=v44) then (R_At 7 s20).bind fun v47=>some (.out (.inr v47)) else some (.cont (w64 (s20+1)))))) else some (.out (.inl (()))))
noncomputable def vJa(a0:zGa):Option zqa:=
 ((bif (a0.From !=([]:Str)) then (w3a a0.From).bind fun v3=>some ((!v3)) else some false):Option Bool).bind fun (j1:Bool)=>(bif j1 then (R_At 10 ((-10))).bind fun v6=>some v6 else (R_In ((a0.To.length:Int)) 1 60).bind fun v8=>(bif (!v8) then (R_At 2 ((-11))).bind fun v11=>some v11 else ((bif (a0.Id !=([]:Str)) then (QKa a0.Id).bind fun v15=>some ((!v15)) else some false):Option Bool).bind fun (j13:Bool)=>(bif j13 then (R_At 10 ((-12))).bind fun v18=>some v18 else (iter (qJa a0) 0).bind (Sum.elim (fun b21=>some ((zqa.mk 0 0))) (fun b22=>some b22)))))
def wEa(a0:Str)(s5:Int):Option (Step Int (Unit ⊕ Unit)):=
 (bif decide (s5 < (a0.length:Int)) then (idx a0 s5).bind fun v11=>((wsa v11).bind fun v14=>(bif v14 then some true else (bif ((v11.toNat:Int)==45) then some true else (bif ((v11.toNat:Int)==95) then some true else some (((v11.toNat:Int)==46))))):Option Bool).bind fun (j13:Bool)=>(bif (!j13) then some (.out (.inr (()))) else some (.cont (w64 (s5+1)))) else some (.out (.inl (()))))
noncomputable def jRa(a0:Str):Option Bool:=
 ((bif (a0 !=([]:Str)) then (bif decide ((a0.length:Int)<=60) then ((iter (wEa a0) 0).bind (Sum.elim (fun b6=>some true) (fun b7=>some false)):Option Bool).bind fun (j4:Bool)=>some j4 else some false) else some false):Option Bool).bind fun (j1:Bool)=>some j1
def vKa(a0:Int):Option Bool:=
 ((bif decide (0<=a0) then some (decide (a0<=7)) else some false):Option Bool).bind fun (j1:Bool)=>some j1
def kUa(v7:zba)(v19:List zba)(s22:Int):Option (Step Int (Unit ⊕ Int)):=
 (bif decide (s22 < (v19.length:Int)) then (idx v19 s22).bind fun v28=>(bif (v28.Address==v7.Address) then some (.out (.inr s22)) else some (.cont (w64 (s22+1)))) else some (.out (.inl (()))))
noncomputable def qua(a0:List zba)(s1:Int):Option (Step Int (Unit ⊕ zqa)):=
 (bif decide (s1 < (a0.length:Int)) then (idx a0 s1).bind fun v7=>(qya v7.Address).bind fun v9=>(bif (!v9) then (zpa 10 s1).bind fun v12=>some (.out (.inr v12)) else (vKa v7.Notify).bind fun v14=>(bif (!v14) then (zpa 3 s1).bind fun v17=>some (.out (.inr v17)) else (cut a0 0 s1).bind fun v19=>((iter (kUa v7 v19) 0).bind (Sum.elim (fun b23=>some ((-1))) (fun b24=>some b24)):Option Int).bind fun (j21:Int)=>(bif decide (0<=j21) then (zpa 7 s1).bind fun v32=>some (.out (.inr v32)) else some (.cont (w64 (s1+1)))))) else some (.out (.inl (()))))
noncomputable def qqa(a0:List zba):Option zqa:=
 (iter (qua a0) 0).bind (Sum.elim (fun b2=>(kpa).bind fun v34=>some v34) (fun b3=>some b3))
noncomputable def q2a(a0:zGa):Option zqa:=
 ((bif (a0.From !=([]:Str)) then (qya a0.From).bind fun v3=>some ((!v3)) else some false):Option Bool).bind fun (j1:Bool)=>(bif j1 then (zpa 10 ((-10))).bind fun v6=>some v6 else ((bif decide ((a0.To.length:Int) < 1) then some true else some (decide (60 < (a0.To.length:Int)))):Option Bool).bind fun (j8:Bool)=>(bif j8 then (zpa 2 ((-11))).bind fun v11=>some v11 else ((bif (a0.Id !=([]:Str)) then (jRa a0.Id).bind fun v15=>some ((!v15)) else some false):Option Bool).bind fun (j13:Bool)=>(bif j13 then (zpa 10 ((-12))).bind fun v18=>some v18 else (qqa a0.To).bind fun v20=>some v20)))
def kFa(a0:Str)(a1:Str):Option Bool:=
 (qxa a0 a1).bind fun v1=>some (decide (0<=v1))
def yna(a0:Str)(s5:Int):Option (Step Int (Unit ⊕ Unit)):=
 (bif decide (s5 < (a0.length:Int)) then (idx a0 s5).bind fun v11=>((bif decide (33<=(v11.toNat:Int)) then (bif decide ((v11.toNat:Int)<=126) then some (((v11.toNat:Int) !=58)) else some false) else some false):Option Bool).bind fun (j13:Bool)=>(bif (!j13) then some (.out (.inr (()))) else some (.cont (w64 (s5+1)))) else some (.out (.inl (()))))
noncomputable def Z3a(a0:Str):Option Bool:=
 ((bif (a0 !=([]:Str)) then (bif decide ((a0.length:Int)<=60) then ((iter (yna a0) 0).bind (Sum.elim (fun b6=>some true) (fun b7=>some false)):Option Bool).bind fun (j4:Bool)=>some j4 else some false) else some false):Option Bool).bind fun (j1:Bool)=>some j1
def Z4a(a0:Str):Option Bool:=
 (kFa a0 (([13,10,0]:Str))).bind fun v1=>some v1
def vLa(a0:UInt8):Option Bool:=
 ((bif ((a0.toNat:Int)==32) then some true else some (((a0.toNat:Int)==9))):Option Bool).bind fun (j1:Bool)=>some j1
def jSa(a0:Str):Option Bool:=
 ((Z4a a0).bind fun v2=>(bif (!v2) then (bif (a0==([]:Str)) then some true else (idx a0 0).bind fun v6=>(vLa v6).bind fun v8=>(bif (!v8) then (idx a0 ((w64 ((a0.length:Int) - 1)))).bind fun v11=>(vLa v11).bind fun v13=>some ((!v13)) else some false)) else some false):Option Bool).bind fun (j1:Bool)=>some j1
def vaa(s1:Int × Int)(j5:Int):Option (Step (Int × Int) Int):=
 some (.cont (j5,(w64 (s1.2+1))))
def yJa(a0:Str)(s1:Int × Int):Option (Step (Int × Int) Int):=
 (bif decide (s1.2 < (a0.length:Int)) then ((idx a0 s1.2).bind fun v7=>(vLa v7).bind fun v9=>(bif (!v9) then some true else (idx a0 ((w64 (s1.2 - 1)))).bind fun v12=>(vLa v12).bind fun v14=>some v14):Option Bool).bind fun (j6:Bool)=>(bif j6 then (vaa s1 s1.1) else ((bif decide (0 < s1.1) then some (decide (78 < s1.2)) else some false):Option Bool).bind fun (j17:Bool)=>(bif j17 then some (.out s1.1) else (vaa s1 s1.2))) else some (.out s1.1))
noncomputable def jTa(a0:Str)(a1:Int):Option Int:=
 (iter (yJa a0) ((0,(max a1 1)))).bind fun b2=>some b2
noncomputable def yoa(s18:Str × Int × (List Str)):Option (Step (Str × Int × (List Str)) (Str × (List Str))):=
 (bif decide (78 < (s18.1.length:Int)) then (jTa s18.1 s18.2.1).bind fun v22=>(bif (v22==0) then some (.out ((s18.1,s18.2.2))) else (cut s18.1 0 v22).bind fun v25=>(app 8796093022208 s18.2.2 (([v25]:List Str))).bind fun v27=>(cut s18.1 v22 ((s18.1.length:Int))).bind fun v29=>some (.cont (v29,0,v27))) else some (.out ((s18.1,s18.2.2))))
def jwa(v31:List Str)(s34:Int):Option (Step Int (Unit ⊕ ((List Str) × zqa))):=
 (bif decide (s34 < (v31.length:Int)) then (idx v31 s34).bind fun v40=>(bif decide (998 < (v40.length:Int)) then (zpa 1 s34).bind fun v43=>some (.out (.inr (([],v43)))) else some (.cont (w64 (s34+1)))) else some (.out (.inl (()))))
noncomputable def jUa(a0:Str)(a1:Str):Option ((List Str) × zqa):=
 (Z3a a0).bind fun v1=>(bif (!v1) then (zpa 10 ((-1))).bind fun v4=>some (([],v4)) else (bif decide (4000 < (a1.length:Int)) then (zpa 1 ((-1))).bind fun v7=>some (([],v7)) else (jSa a1).bind fun v9=>(bif (!v9) then (zpa 11 ((-1))).bind fun v12=>some (([],v12)) else (cat a0 (([58,32]:Str))).bind fun v14=>(cat v14 a1).bind fun v16=>(iter (yoa) ((v16,(w64 ((a0.length:Int)+2)),([]:List Str)))).bind fun b19=>(app 8796093022208 b19.2 (([b19.1]:List Str))).bind fun v31=>(iter (jwa v31) 0).bind (Sum.elim (fun b35=>(kpa).bind fun v45=>some ((v31,v45))) (fun b36=>some ((b36.1,b36.2)))))))
noncomputable def vza(a0:List zea)(s4:Int):Option (Step Int (Unit ⊕ zqa)):=
 (bif decide (s4 < (a0.length:Int)) then (idx a0 s4).bind fun v10=>(jUa v10.Name v10.Value).bind fun v12=>(z3a v12.2).bind fun v14=>(bif v14 then (zpa v12.2.Code s4).bind fun v17=>some (.out (.inr v17)) else some (.cont (w64 (s4+1)))) else some (.out (.inl (()))))
noncomputable def vMa(a0:List zea):Option zqa:=
 (bif decide (60 < (a0.length:Int)) then (zpa 2 ((-1))).bind fun v2=>some v2 else (iter (vza a0) 0).bind (Sum.elim (fun b5=>(kpa).bind fun v19=>some v19) (fun b6=>some b6)))
def vma(v7:(List Str) × zqa)(s9:Int × (List UInt8)):Option (Step (Int × (List UInt8)) (List UInt8)):=
 (bif decide (s9.1 < (v7.1.length:Int)) then (idx v7.1 s9.1).bind fun v13=>(app 140737488355328 s9.2 v13).bind fun v15=>(app 140737488355328 v15 (([(13:UInt8),(10:UInt8)]:List UInt8))).bind fun v17=>some (.cont ((w64 (s9.1+1)),v17)) else some (.out s9.2))
noncomputable def vna(a0:zxa)(s1:Int × (List UInt8)):Option (Step (Int × (List UInt8)) (List UInt8)):=
 (bif decide (s1.1 < (a0.Fields.length:Int)) then (idx a0.Fields s1.1).bind fun v5=>(jUa v5.Name v5.Value).bind fun v7=>(iter (vma v7) ((0,s1.2))).bind fun b10=>some (.cont ((w64 (s1.1+1)),b10)) else some (.out s1.2))
noncomputable def wFa(a0:zxa):Option (List UInt8):=
 (iter (vna a0) ((0,([]:List UInt8)))).bind fun b2=>(app 140737488355328 b2 (([(13:UInt8),(10:UInt8)]:List UInt8))).bind fun v19=>(app 140737488355328 v19 a0.Body).bind fun v21=>some v21
def wGa(j7:Int × Int):Option (Step (Int × Int) (Unit ⊕ Int)):=
 some (.cont (j7.1,(w64 (j7.2+1))))
def v0a(a0:List UInt8)(s1:Int × Int):Option (Step (Int × Int) (Unit ⊕ Int)):=
 (bif decide (s1.2 < (a0.length:Int)) then (idx a0 s1.2).bind fun v8=>((bif ((v8.toNat:Int)==13) then (bif decide ((w64 (s1.2+1)) < (a0.length:Int)) then (idx a0 ((w64 (s1.2+1)))).bind fun v13=>some (((v13.toNat:Int)==10)) else some false) else some false):Option Bool).bind fun (j10:Bool)=>(bif j10 then (wGa (0,(w64 (s1.2+1)))) else ((bif ((v8.toNat:Int)==13) then some true else some (((v8.toNat:Int)==10))):Option Bool).bind fun (j16:Bool)=>(bif j16 then some (.out (.inr 11)) else (bif decide (998 < (w64 (s1.1+1))) then some (.out (.inr 1)) else (wGa ((w64 (s1.1+1)),s1.2))))) else some (.out (.inl (()))))
noncomputable def jVa(a0:List UInt8):Option Int:=
 (iter (v0a a0) ((0,0))).bind (Sum.elim (fun b2=>some 0) (fun b3=>some b3))
noncomputable def ypa(a0:List UInt8):Option zqa:=
 (jVa a0).bind fun v1=>(bif (v1==11) then (zpa 11 ((-5))).bind fun v4=>some v4 else (bif (v1==1) then (zpa 1 ((-6))).bind fun v7=>some v7 else (kpa).bind fun v9=>some v9))
noncomputable def voa(a0:zxa):Option zqa:=
 (vMa a0.Fields).bind fun v1=>(z3a v1).bind fun v3=>(bif v3 then some v1 else (wFa a0).bind fun v6=>(bif decide (12000 < (v6.length:Int)) then (zpa 1 ((-4))).bind fun v9=>some v9 else (ypa a0.Body).bind fun v11=>some v11))
noncomputable def qQa(a0:kca):Option zqa:=
 (q2a a0.Envelope).bind fun v1=>(z3a v1).bind fun v3=>(bif v3 then some v1 else (voa a0.Message).bind fun v6=>(z3a v6).bind fun v8=>(bif v8 then (zpa v6.Code ((-30))).bind fun v11=>some v11 else (kpa).bind fun v13=>some v13))
def wHa(a0:UInt8):Option Bool:=
 ((bif ((a0.toNat:Int)==32) then some true else some (((a0.toNat:Int)==9))):Option Bool).bind fun (j1:Bool)=>some j1
def k6a(s5:Str × Int × (List Str))(s9:Int × Int):Option (Step (Int × Int) Int):=
 ((bif decide (0 < s9.2) then some ((s9.1==0)) else some false):Option Bool).bind fun (j12:Bool)=>(bif j12 then (((bif decide (s5.2.1<=s9.2) then (idx s5.1 s9.2).bind fun v18=>(wHa v18).bind fun v20=>(bif v20 then (idx s5.1 ((w64 (s9.2 - 1)))).bind fun v23=>(wHa v23).bind fun v25=>some ((!v25)) else some false) else some false):Option Bool).bind fun (j16:Bool)=>(bif j16 then some s9.2 else some s9.1):Option Int).bind fun (j15:Int)=>some (.cont (j15,(w64 (s9.2 - 1)))) else some (.out s9.1))
def kLa(s5:Str × Int × (List Str))(s28:Int × Int):Option (Step (Int × Int) Int):=
 ((bif decide (s28.2 < (s5.1.length:Int)) then some ((s28.1==0)) else some false):Option Bool).bind fun (j31:Bool)=>(bif j31 then (((bif decide (s5.2.1<=s28.2) then (idx s5.1 s28.2).bind fun v37=>(wHa v37).bind fun v39=>(bif v39 then (idx s5.1 ((w64 (s28.2 - 1)))).bind fun v42=>(wHa v42).bind fun v44=>some ((!v44)) else some false) else some false):Option Bool).bind fun (j35:Bool)=>(bif j35 then some s28.2 else some s28.1):Option Int).bind fun (j34:Int)=>some (.cont (j34,(w64 (s28.2+1)))) else some (.out s28.1))
noncomputable def vNa(s5:Str × Int × (List Str)):Option (Step (Str × Int × (List Str)) (Str × (List Str))):=
 (bif decide (78 < (s5.1.length:Int)) then (iter (k6a s5) ((0,78))).bind fun b10=>(iter (kLa s5) ((b10,79))).bind fun b29=>(bif (b29==0) then some (.out ((s5.1,s5.2.2))) else (cut s5.1 0 b29).bind fun v48=>(app 8796093022208 s5.2.2 (([v48]:List Str))).bind fun v50=>(cut s5.1 b29 ((s5.1.length:Int))).bind fun v52=>some (.cont (v52,1,v50))) else some (.out ((s5.1,s5.2.2))))
noncomputable def wta(a0:Str)(a1:Str):Option (List Str):=
 (cat a0 (([58,32]:Str))).bind fun v1=>(cat v1 a1).bind fun v3=>(iter (vNa) ((v3,(w64 ((a0.length:Int)+2)),([]:List Str)))).bind fun b6=>(app 8796093022208 b6.2 (([b6.1]:List Str))).bind fun v54=>some v54
def wca(a0:zea)(s1:Int):Option (Step Int (Unit ⊕ Int)):=
 (bif decide (s1 < (a0.Name.length:Int)) then ((idx a0.Name s1).bind fun v8=>(R_In ((v8.toNat:Int)) 33 126).bind fun v10=>(bif (!v10) then some true else (idx a0.Name s1).bind fun v13=>some (((v13.toNat:Int)==58))):Option Bool).bind fun (j7:Bool)=>(bif j7 then some (.out (.inr 10)) else some (.cont (w64 (s1+1)))) else some (.out (.inl (()))))
def wda(a0:zea)(s20:Int):Option (Step Int (Unit ⊕ Int)):=
 (bif decide (s20 < (a0.Value.length:Int)) then ((idx a0.Value s20).bind fun v27=>(bif ((v27.toNat:Int)==0) then some true else (idx a0.Value s20).bind fun v30=>(bif ((v30.toNat:Int)==10) then some true else (idx a0.Value s20).bind fun v33=>some (((v33.toNat:Int)==13)))):Option Bool).bind fun (j26:Bool)=>(bif j26 then some (.out (.inr 11)) else some (.cont (w64 (s20+1)))) else some (.out (.inl (()))))
def wea(v48:List Str)(s50:Int):Option (Step Int (Unit ⊕ Int)):=
 (bif decide (s50 < (v48.length:Int)) then (idx v48 s50).bind fun v56=>(bif decide (998 < (v56.length:Int)) then some (.out (.inr 1)) else some (.cont (w64 (s50+1)))) else some (.out (.inl (()))))
noncomputable def y8a(a0:zea):Option Int:=
 (iter (wca a0) 0).bind (Sum.elim (fun b2=>(R_In ((a0.Name.length:Int)) 1 60).bind fun v16=>(bif (!v16) then some 10 else (bif decide (4000 < (a0.Value.length:Int)) then some 1 else (iter (wda a0) 0).bind (Sum.elim (fun b21=>((bif decide (0 < (a0.Value.length:Int)) then (idx a0.Value 0).bind fun v38=>(wHa v38).bind fun v40=>(bif v40 then some true else (idx a0.Value ((w64 ((a0.Value.length:Int) - 1)))).bind fun v43=>(wHa v43).bind fun v45=>some v45) else some false):Option Bool).bind fun (j36:Bool)=>(bif j36 then some 11 else (wta a0.Name a0.Value).bind fun v48=>(iter (wea v48) 0).bind (Sum.elim (fun b51=>some 0) (fun b52=>some b52)))) (fun b22=>some b22))))) (fun b3=>some b3))
def q3a(v9:List Str)(s11:Int × (List UInt8)):Option (Step (Int × (List UInt8)) (List UInt8)):=
 (bif decide (s11.1 < (v9.length:Int)) then (idx v9 s11.1).bind fun v15=>(app 140737488355328 s11.2 v15).bind fun v17=>(app 140737488355328 v17 (([(13:UInt8),(10:UInt8)]:List UInt8))).bind fun v19=>some (.cont ((w64 (s11.1+1)),v19)) else some (.out s11.2))
noncomputable def q4a(a0:zxa)(s1:Int × (List UInt8)):Option (Step (Int × (List UInt8)) (List UInt8)):=
 (bif decide (s1.1 < (a0.Fields.length:Int)) then (idx a0.Fields s1.1).bind fun v5=>(idx a0.Fields s1.1).bind fun v7=>(wta v5.Name v7.Value).bind fun v9=>(iter (q3a v9) ((0,s1.2))).bind fun b12=>some (.cont ((w64 (s1.1+1)),b12)) else some (.out s1.2))
noncomputable def wfa(a0:zxa):Option (List UInt8):=
 (iter (q4a a0) ((0,([]:List UInt8)))).bind fun b2=>(app 140737488355328 b2 (([(13:UInt8),(10:UInt8)]:List UInt8))).bind fun v21=>(app 140737488355328 v21 a0.Body).bind fun v23=>some v23
noncomputable def v1a(a0:zxa)(s4:Int):Option (Step Int (Unit ⊕ zqa)):=
 (bif decide (s4 < (a0.Fields.length:Int)) then (idx a0.Fields s4).bind fun v10=>(y8a v10).bind fun v12=>(bif (v12 !=0) then (R_At v12 s4).bind fun v15=>some (.out (.inr v15)) else some (.cont (w64 (s4+1)))) else some (.out (.inl (()))))
def q5a(j30:Int × Int):Option (Step (Int × Int) (Unit ⊕ zqa)):=
 some (.cont (j30.1,(w64 (j30.2+1))))
def qla(a0:zxa)(s24:Int × Int):Option (Step (Int × Int) (Unit ⊕ zqa)):=
 (bif decide (s24.2 < (a0.Body.length:Int)) then (idx a0.Body s24.2).bind fun v31=>((bif ((v31.toNat:Int)==13) then (bif decide ((w64 (s24.2+1)) < (a0.Body.length:Int)) then (idx a0.Body ((w64 (s24.2+1)))).bind fun v36=>some (((v36.toNat:Int)==10)) else some false) else some false):Option Bool).bind fun (j33:Bool)=>(bif j33 then (q5a (0,(w64 (s24.2+1)))) else ((bif ((v31.toNat:Int)==13) then some true else some (((v31.toNat:Int)==10))):Option Bool).bind fun (j39:Bool)=>(bif j39 then (R_At 11 ((-5))).bind fun v42=>some (.out (.inr v42)) else (bif decide (998 < (w64 (s24.1+1))) then (R_At 1 ((-6))).bind fun v45=>some (.out (.inr v45)) else (q5a ((w64 (s24.1+1)),s24.2))))) else some (.out (.inl (()))))
noncomputable def vta(a0:zxa):Option zqa:=
 (bif decide (60 < (a0.Fields.length:Int)) then (R_At 2 ((-1))).bind fun v2=>some v2 else (iter (v1a a0) 0).bind (Sum.elim (fun b5=>((bif decide (12000 < (a0.Body.length:Int)) then some true else (wfa a0).bind fun v19=>some (decide (12000 < (v19.length:Int)))):Option Bool).bind fun (j17:Bool)=>(bif j17 then (R_At 1 ((-4))).bind fun v22=>some v22 else (iter (qla a0) ((0,0))).bind (Sum.elim (fun b25=>some ((zqa.mk 0 0))) (fun b26=>some b26)))) (fun b6=>some b6)))
noncomputable def w5a(a0:kca):Option zqa:=
 (vJa a0.Envelope).bind fun v1=>(((bif (v1.Code==0) then (vta a0.Message).bind fun v6=>some ((v6.Code !=0)) else some false):Option Bool).bind fun (j4:Bool)=>(bif j4 then (vta a0.Message).bind fun v9=>(R_At v9.Code ((-30))).bind fun v11=>some ((v11.Code,v11.Index)) else some ((v1.Code,v1.Index))):Option (Int × Int)).bind fun (j3:Int × Int)=>some ((zqa.mk j3.1 j3.2))
def wma(a0:zxa)(a1:zxa)(s4:Int):Option (Step Int (Unit ⊕ Bool)):=
 (bif decide (s4 < (a0.Fields.length:Int)) then (idx a0.Fields s4).bind fun v10=>(idx a1.Fields s4).bind fun v12=>(bif (!(qwa [(v10.Name==v12.Name),(v10.Value==v12.Value)])) then some (.out (.inr false)) else some (.cont (w64 (s4+1)))) else some (.out (.inl (()))))
noncomputable def wIa(a0:zxa)(a1:zxa):Option Bool:=
 ((bif ((a0.Fields.length:Int) !=(a1.Fields.length:Int)) then some true else some ((a0.Body !=a1.Body))):Option Bool).bind fun (j1:Bool)=>(bif j1 then some false else (iter (wma a0 a1) 0).bind (Sum.elim (fun b5=>some true) (fun b6=>some b6)))
def yKa(a0:kca)(a1:kca)(s5:Int):Option (Step Int (Unit ⊕ Bool)):=
 (bif decide (s5 < (a0.Envelope.To.length:Int)) then (idx a0.Envelope.To s5).bind fun v11=>(idx a1.Envelope.To s5).bind fun v13=>(bif (!(qwa [(v11.Address==v13.Address),(v11.Notify==v13.Notify)])) then some (.out (.inr false)) else some (.cont (w64 (s5+1)))) else some (.out (.inl (()))))
noncomputable def jWa(a0:kca)(a1:kca):Option Bool:=
 ((bif (a0.Envelope.From !=a1.Envelope.From) then some true else (bif (a0.Envelope.Id !=a1.Envelope.Id) then some true else some (((a0.Envelope.To.length:Int) !=(a1.Envelope.To.length:Int))))):Option Bool).bind fun (j1:Bool)=>(bif j1 then some false else (iter (yKa a0 a1) 0).bind (Sum.elim (fun b6=>(wIa a0.Message a1.Message).bind fun v16=>some v16) (fun b7=>some b7)))
noncomputable def kqa(a0:List zea):Option (List zea):=
 (nilE a0.isEmpty (some ([])) ((app 4398046511104 ([]:List zea) a0).bind fun v2=>some v2))
noncomputable def qha(a0:kca):Option kca:=
 ((nilE a0.Envelope.To.isEmpty (some ([])) ((app 5864062014805 ([]:List zba) a0.Envelope.To).bind fun v3=>some v3)):Option (List zba)).bind fun (j1:List zba)=>(kqa a0.Message.Fields).bind fun v5=>((nilE a0.Message.Body.isEmpty (some ([])) ((app 140737488355328 ([]:List UInt8) a0.Message.Body).bind fun v9=>some v9)):Option (List UInt8)).bind fun (j7:List UInt8)=>some ((kca.mk ((zGa.mk a0.Envelope.From j1 a0.Envelope.Id)) ((zxa.mk v5 j7))))
def dates_split(a0:Int)(a1:Int):Option (Int × Int):=
 (nz a1).bind fun v1=>(nz a1).bind fun v3=>(nz a1).bind fun v5=>some (((iQuo ((w64 (a0 - (iRem ((w64 ((iRem a0 a1)+a1))) a1)))) a1),(iRem ((w64 ((iRem a0 a1)+a1))) a1)))
def kua(a0:List (List UInt8))(s1:Int × Int):Option (Step (Int × Int) Int):=
 (bif decide (s1.2 < (a0.length:Int)) then (idx a0 s1.2).bind fun v5=>(bif decide ((w64 (s1.1+(v5.length:Int))) < 0) then none else some (.cont ((w64 (s1.1+(v5.length:Int))),(w64 (s1.2+1))))) else some (.out s1.1))
def kva(a0:List (List UInt8))(s14:Int × (List UInt8)):Option (Step (Int × (List UInt8)) (List UInt8)):=
 (bif decide (s14.1 < (a0.length:Int)) then (idx a0 s14.1).bind fun v18=>(app 140737488355328 s14.2 v18).bind fun v20=>some (.cont ((w64 (s14.1+1)),v20)) else some (.out s14.2))
def kRa(a0:List (List UInt8))(s22:Int × (List UInt8)):Option (Step (Int × (List UInt8)) (List UInt8)):=
 (bif decide (s22.1 < (a0.length:Int)) then (idx a0 s22.1).bind fun v26=>(app 140737488355328 s22.2 v26).bind fun v28=>some (.cont ((w64 (s22.1+1)),v28)) else some (.out s22.2))
noncomputable def kMa(a0:List (List UInt8)):Option (List UInt8):=
 (iter (kua a0) ((0,0))).bind fun b2=>(bif decide (b2 < 0) then none else (bif decide (0 < (w64 (b2 - (w64 (0 - 0))))) then (zrep 140737488355328 ((w64 (b2 - (w64 (0 - 0))))) ((0:UInt8):UInt8)).bind fun v10=>(cut v10 0 0).bind fun v12=>(iter (kva a0) ((0,v12))).bind fun b15=>some b15 else (iter (kRa a0) ((0,([]:List UInt8)))).bind fun b23=>some b23))
def QLa(a0:List Int)(a1:List Int)(s2:Int):Option (Step Int (Unit ⊕ Bool)):=
 (bif decide (s2 < (a0.length:Int)) then (idx a0 s2).bind fun v8=>(idx a1 s2).bind fun v10=>(bif (v8 !=v10) then some (.out (.inr false)) else some (.cont (w64 (s2+1)))) else some (.out (.inl (()))))
noncomputable def Jda(a0:List Int)(a1:List Int):Option Bool:=
 (bif ((a0.length:Int) !=(a1.length:Int)) then some false else (iter (QLa a0 a1) 0).bind (Sum.elim (fun b3=>some true) (fun b4=>some b4)))
def y9a(a0:List Str)(s1:Int × (List zba)):Option (Step (Int × (List zba)) (List zba)):=
 (bif decide (s1.1 < (a0.length:Int)) then (idx a0 s1.1).bind fun v5=>(app 5864062014805 s1.2 (([(zba.mk v5 1)]:List zba))).bind fun v7=>some (.cont ((w64 (s1.1+1)),v7)) else some (.out s1.2))
noncomputable def QMa(a0:List Str):Option kca:=
 (iter (y9a a0) ((0,([]:List zba)))).bind fun b2=>some ((kca.mk ((zGa.mk (([115,64,120]:Str)) b2 (([55]:Str)))) ((zxa.mk ([]) ([])))))
def vpa(s2:Bool × Int)(j8:Bool):Option (Step (Bool × Int) (Bool ⊕ Bool)):=
 some (.cont (j8,(w64 (s2.2+1))))
def qza(a0:zca)(s2:Bool × Int):Option (Step (Bool × Int) (Bool ⊕ Bool)):=
 (bif decide (s2.2 < (a0.To.length:Int)) then (idx a0.To s2.2).bind fun v9=>((idx a0.Mail.Envelope.To s2.2).bind fun v12=>(bif (!(qwa [(v9.Recipient.Address==v12.Address),(v9.Recipient.Notify==v12.Notify)])) then some true else (bif (v9.Result !=0) then (bif (v9.Result !=1) then (bif (v9.Result !=3) then some true else (bif v9.Busy then some ((v9.Result !=0)) else some false)) else (bif v9.Busy then some ((v9.Result !=0)) else some false)) else (bif v9.Busy then some ((v9.Result !=0)) else some false))):Option Bool).bind fun (j11:Bool)=>(bif j11 then some (.out (.inr false)) else (bif s2.1 then (vpa s2 true) else (vpa s2 (v9.Result==0)))) else some (.out (.inl s2.1)))
noncomputable def vba(a0:zca):Option Bool:=
 (bif ((a0.To.length:Int) !=(a0.Mail.Envelope.To.length:Int)) then some false else (iter (qza a0) ((false,0))).bind (Sum.elim (fun b3=>some b3) (fun b4=>some b4)))
noncomputable def qma(a0:zza)(s9:Int × Int):Option (Step (Int × Int) (Unit ⊕ zqa)):=
 (bif decide (s9.2 < (a0.Entries.length:Int)) then (idx a0.Entries s9.2).bind fun v15=>(qQa v15.Mail).bind fun v17=>(z3a v17).bind fun v19=>(bif v19 then (zpa v17.Code s9.2).bind fun v22=>some (.out (.inr v22)) else ((bif decide (v15.Id<=s9.1) then some true else some (decide (a0.Next<=v15.Id))):Option Bool).bind fun (j24:Bool)=>(bif j24 then (zpa 19 s9.2).bind fun v27=>some (.out (.inr v27)) else ((qZa v15.Since).bind fun v30=>(bif (!v30) then some true else (qZa v15.Due).bind fun v33=>(bif (!v33) then some true else (bif decide (v15.Tries < 0) then some true else some (decide (1000000 < v15.Tries))))):Option Bool).bind fun (j29:Bool)=>(bif j29 then (zpa 3 s9.2).bind fun v38=>some (.out (.inr v38)) else (vba v15).bind fun v40=>(bif (!v40) then (zpa 5 s9.2).bind fun v43=>some (.out (.inr v43)) else some (.cont (v15.Id,(w64 (s9.2+1)))))))) else some (.out (.inl (()))))
noncomputable def vua(a0:zza):Option zqa:=
 (bif decide (20 < (a0.Entries.length:Int)) then (zpa 2 ((-1))).bind fun v2=>some v2 else ((bif decide (a0.Next < 0) then some true else some (decide (1000000 < a0.Next))):Option Bool).bind fun (j4:Bool)=>(bif j4 then (zpa 3 ((-2))).bind fun v7=>some v7 else (iter (qma a0) (((-1),0))).bind (Sum.elim (fun b10=>(kpa).bind fun v45=>some v45) (fun b11=>some b11))))
noncomputable def zZa(a0:List zca):Option (List zca):=
 (nilE a0.isEmpty (some ([])) ((app 879609302220 ([]:List zca) a0).bind fun v2=>some v2))
noncomputable def zLa(a0:List zia):Option (List zia):=
 (nilE a0.isEmpty (some ([])) ((app 3518437208883 ([]:List zia) a0).bind fun v2=>some v2))
noncomputable def yqa(v23:List zca)(s25:Int × Nat × (List zca)):Option (Step (Int × Nat × (List zca)) ((List zca) × Nat)):=
 (bif decide (s25.1 < (v23.length:Int)) then (idx s25.2.2 s25.1).bind fun v29=>(idx s25.2.2 s25.1).bind fun v31=>(qha v31.Mail).bind fun v33=>(Jaa s25.2.1 s25.1).bind fun v35=>(idx s25.2.2 s25.1).bind fun v37=>(zLa v37.To).bind fun v39=>(idx s25.2.2 s25.1).bind fun v41=>(vub s25.2.1 s25.1).bind fun v43=>(idx ((List.set s25.2.2 (Int.toNat s25.1) ((zca.mk v41.Id v33 v41.Since v41.Tries v41.Due v41.To)))) s25.1).bind fun v45=>some (.cont ((w64 (s25.1+1)),(s25.2.1+1),(List.set ((List.set s25.2.2 (Int.toNat s25.1) ((zca.mk v41.Id v33 v41.Since v41.Tries v41.Due v41.To)))) (Int.toNat s25.1) ((zca.mk v45.Id v45.Mail v45.Since v45.Tries v45.Due v39))))) else some (.out ((s25.2.2,s25.2.1))))
def wua(a1:kca)(s49:Int × (List zia)):Option (Step (Int × (List zia)) (List zia)):=
 (bif decide (s49.1 < (a1.Envelope.To.length:Int)) then (idx a1.Envelope.To s49.1).bind fun v53=>(app 3518437208883 s49.2 (([(zia.mk v53 0 false)]:List zia))).bind fun v55=>some (.cont ((w64 (s49.1+1)),v55)) else some (.out s49.2))
noncomputable def Z5a(a0:zza)(a1:kca)(a2:Int):Option (zza × Int × zqa):=
 (vua a0).bind fun v1=>(z3a v1).bind fun v3=>(bif v3 then some (((zza.mk ([]) 0),0,v1)) else (qQa a1).bind fun v6=>(z3a v6).bind fun v8=>(bif v8 then (zpa v6.Code ((-6))).bind fun v11=>some (((zza.mk ([]) 0),0,v11)) else (qZa a2).bind fun v13=>(bif (!v13) then (zpa 3 ((-7))).bind fun v16=>some (((zza.mk ([]) 0),0,v16)) else ((bif ((a0.Entries.length:Int)==20) then some true else some ((a0.Next==1000000))):Option Bool).bind fun (j18:Bool)=>(bif j18 then (zpa 2 ((-8))).bind fun v21=>some (((zza.mk ([]) 0),0,v21)) else (zZa a0.Entries).bind fun v23=>(iter (yqa v23) ((0,0,v23))).bind fun b26=>(qha a1).bind fun v47=>(iter (wua a1) ((0,([]:List zia)))).bind fun b50=>(nall b26.2 (List.length b26.1)).bind fun v57=>(app 879609302220 b26.1 [(zca.mk a0.Next v47 a2 0 a2 b50)]).bind fun v59=>(kpa).bind fun v61=>some (((zza.mk v59 ((w64 (a0.Next+1)))),a0.Next,v61))))))
noncomputable def vOa(a0:Str):Option Str:=
 (vsa a0).bind fun v1=>some v1.2.1
noncomputable def vva(v53:zca)(s55:Int × (List ((Int × Str) × Bool)) × (List (Str × Int))):Option (Step (Int × (List ((Int × Str) × Bool)) × (List (Str × Int))) ((List ((Int × Str) × Bool)) × (List (Str × Int)))):=
 (bif decide (s55.1 < (v53.To.length:Int)) then ((idx v53.To s55.1).bind fun v60=>(vOa v60.Recipient.Address).bind fun v62=>((bif v60.Busy then some ((!(((mget s55.2.1 ((v53.Id,v62))).getD false)))) else some false):Option Bool).bind fun (j64:Bool)=>(bif j64 then some (((mput s55.2.1 ((v53.Id,v62)) true),(mput s55.2.2 v62 ((w64 (((mget s55.2.2 v62).getD 0)+1)))))) else some ((s55.2.1,s55.2.2))):Option ((List ((Int × Str) × Bool)) × (List (Str × Int)))).bind fun (j59:(List ((Int × Str) × Bool)) × (List (Str × Int)))=>some (.cont ((w64 (s55.1+1)),j59.1,j59.2)) else some (.out ((s55.2.1,s55.2.2))))
noncomputable def wga(a0:zza)(s49:Int × (List ((Int × Str) × Bool)) × (List (Str × Int))):Option (Step (Int × (List ((Int × Str) × Bool)) × (List (Str × Int))) ((List ((Int × Str) × Bool)) × (List (Str × Int)))):=
 (bif decide (s49.1 < (a0.Entries.length:Int)) then (idx a0.Entries s49.1).bind fun v53=>(iter (vva v53) ((0,s49.2.1,s49.2.2))).bind fun b56=>some (.cont ((w64 (s49.1+1)),b56.1,b56.2)) else some (.out ((s49.2.1,s49.2.2))))
def vqa(a0:zza)(a1:zva)(s7:Int):Option (Step Int (Unit ⊕ Int)):=
 (bif decide (s7 < (a0.Entries.length:Int)) then (idx a0.Entries s7).bind fun v13=>(bif (v13.Id==a1.Entry) then some (.out (.inr s7)) else some (.cont (w64 (s7+1)))) else some (.out (.inl (()))))
noncomputable def kPa(a1:zva)(a2:Bool)(v19:zca)(s26:Int):Option (Step Int (Unit ⊕ (Int × zqa))):=
 (bif decide (s26 < (a1.To.length:Int)) then (idx a1.To s26).bind fun v32=>((bif decide (v32 < 0) then some true else (bif decide ((v19.To.length:Int)<=v32) then some true else (bif decide (0 < s26) then (idx a1.To ((w64 (s26 - 1)))).bind fun v38=>some (decide (v32<=v38)) else some false))):Option Bool).bind fun (j34:Bool)=>(bif j34 then (zpa 3 s26).bind fun v41=>some (.out (.inr ((0,v41)))) else (idx v19.To v32).bind fun v43=>(vOa v43.Recipient.Address).bind fun v45=>(bif (v45 !=a1.Domain) then (zpa 5 s26).bind fun v48=>some (.out (.inr ((0,v48)))) else ((idx v19.To v32).bind fun v51=>(bif (v51.Result !=0) then some true else (idx v19.To v32).bind fun v54=>some ((v54.Busy !=a2))):Option Bool).bind fun (j50:Bool)=>(bif j50 then (zpa 8 s26).bind fun v57=>some (.out (.inr ((0,v57)))) else some (.cont (w64 (s26+1)))))) else some (.out (.inl (()))))
noncomputable def v2a(a0:zza)(a1:zva)(a2:Bool):Option (Int × zqa):=
 (vua a0).bind fun v1=>(z3a v1).bind fun v3=>(bif v3 then some ((0,v1)) else ((iter (vqa a0 a1) 0).bind (Sum.elim (fun b8=>some ((-1))) (fun b9=>some b9)):Option Int).bind fun (j6:Int)=>(bif decide (j6 < 0) then (zpa 6 ((-3))).bind fun v17=>some ((0,v17)) else (idx a0.Entries j6).bind fun v19=>((bif ((a1.To.length:Int)==0) then some true else some (decide ((v19.To.length:Int) < (a1.To.length:Int)))):Option Bool).bind fun (j21:Bool)=>(bif j21 then (zpa 2 ((-4))).bind fun v24=>some ((0,v24)) else (iter (kPa a1 a2 v19) 0).bind (Sum.elim (fun b27=>(kpa).bind fun v59=>some ((j6,v59))) (fun b28=>some ((b28.1,b28.2)))))))
noncomputable def QNa(v10:zca)(s12:Int × (List ((Int × Str) × Bool)) × (List (Str × Int))):Option (Step (Int × (List ((Int × Str) × Bool)) × (List (Str × Int))) ((List ((Int × Str) × Bool)) × (List (Str × Int)))):=
 (bif decide (s12.1 < (v10.To.length:Int)) then ((idx v10.To s12.1).bind fun v17=>(vOa v17.Recipient.Address).bind fun v19=>((bif v17.Busy then some ((!(((mget s12.2.1 ((v10.Id,v19))).getD false)))) else some false):Option Bool).bind fun (j21:Bool)=>(bif j21 then some (((mput s12.2.1 ((v10.Id,v19)) true),(mput s12.2.2 v19 ((w64 (((mget s12.2.2 v19).getD 0)+1)))))) else some ((s12.2.1,s12.2.2))):Option ((List ((Int × Str) × Bool)) × (List (Str × Int)))).bind fun (j16:(List ((Int × Str) × Bool)) × (List (Str × Int)))=>some (.cont ((w64 (s12.1+1)),j16.1,j16.2)) else some (.out ((s12.2.1,s12.2.2))))
noncomputable def Zna(a0:zza)(s6:Int × (List ((Int × Str) × Bool)) × (List (Str × Int))):Option (Step (Int × (List ((Int × Str) × Bool)) × (List (Str × Int))) ((List ((Int × Str) × Bool)) × (List (Str × Int)))):=
 (bif decide (s6.1 < (a0.Entries.length:Int)) then (idx a0.Entries s6.1).bind fun v10=>(iter (QNa v10) ((0,s6.2.1,s6.2.2))).bind fun b13=>some (.cont ((w64 (s6.1+1)),b13.1,b13.2)) else some (.out ((s6.2.1,s6.2.2))))
noncomputable def Zoa(v29:List zca)(s31:Int × Nat × (List zca)):Option (Step (Int × Nat × (List zca)) ((List zca) × Nat)):=
 (bif decide (s31.1 < (v29.length:Int)) then (idx s31.2.2 s31.1).bind fun v35=>(idx s31.2.2 s31.1).bind fun v37=>(qha v37.Mail).bind fun v39=>(Jaa s31.2.1 s31.1).bind fun v41=>(idx s31.2.2 s31.1).bind fun v43=>(zLa v43.To).bind fun v45=>(idx s31.2.2 s31.1).bind fun v47=>(vub s31.2.1 s31.1).bind fun v49=>(idx ((List.set s31.2.2 (Int.toNat s31.1) ((zca.mk v47.Id v39 v47.Since v47.Tries v47.Due v47.To)))) s31.1).bind fun v51=>some (.cont ((w64 (s31.1+1)),(s31.2.1+1),(List.set ((List.set s31.2.2 (Int.toNat s31.1) ((zca.mk v47.Id v39 v47.Since v47.Tries v47.Due v47.To)))) (Int.toNat s31.1) ((zca.mk v51.Id v51.Mail v51.Since v51.Tries v51.Due v45))))) else some (.out ((s31.2.2,s31.2.1))))
def wJa(a1:zva)(v1:Int × zqa)(b32:(List zca) × Nat)(s53:Int × (List zca)):Option (Step (Int × (List zca)) (List zca)):=
 (bif decide (s53.1 < (a1.To.length:Int)) then (idx a1.To s53.1).bind fun v57=>(idx s53.2 v1.1).bind fun v59=>(nown b32.2 v1.1).bind fun v61=>(idx s53.2 v1.1).bind fun v63=>(idx s53.2 v1.1).bind fun v65=>(idx v65.To v57).bind fun v67=>(idx s53.2 v1.1).bind fun v69=>(idx v69.To v57).bind fun v71=>some (.cont ((w64 (s53.1+1)),(List.set s53.2 (Int.toNat v1.1) ((zca.mk v69.Id v69.Mail v69.Since v69.Tries v69.Due ((List.set v69.To (Int.toNat v57) ((zia.mk v71.Recipient v71.Result true))))))))) else some (.out s53.2))
noncomputable def jXa(a0:zza)(a1:zva):Option (zza × zqa):=
 (v2a a0 a1 false).bind fun v1=>(z3a v1.2).bind fun v3=>(bif v3 then some (((zza.mk ([]) 0),v1.2)) else (iter (Zna a0) ((0,([]:List ((Int × Str) × Bool)),([]:List (Str × Int))))).bind fun b7=>((bif decide (2<=((mget b7.2 a1.Domain).getD 0)) then some true else some (((mget b7.1 ((a1.Entry,a1.Domain))).getD false))):Option Bool).bind fun (j24:Bool)=>(bif j24 then (zpa 8 ((-5))).bind fun v27=>some (((zza.mk ([]) 0),v27)) else (zZa a0.Entries).bind fun v29=>(iter (Zoa v29) ((0,0,v29))).bind fun b32=>(iter (wJa a1 v1 b32) ((0,b32.1))).bind fun b54=>(kpa).bind fun v73=>some (((zza.mk b54 a0.Next),v73))))
def qKa(a1:Int)(s17:Int × Int):Option (Step (Int × Int) Int):=
 ((bif decide (s17.2 < a1) then some (decide (s17.1 < 14400)) else some false):Option Bool).bind fun (j20:Bool)=>(bif j20 then some (.cont ((min ((w64 (2 * s17.1))) 14400),(w64 (s17.2+1)))) else some (.out s17.1))
noncomputable def jYa(a0:Int)(a1:Int)(a2:Int):Option (Int × Bool × zqa):=
 (y7a (([a0,a2]:List Int))).bind fun v1=>(bif (!v1) then (zpa 3 ((-2))).bind fun v4=>some ((0,false,v4)) else ((bif decide (a1 < 1) then some true else some (decide (1000000 < a1))):Option Bool).bind fun (j6:Bool)=>(bif j6 then (zpa 3 ((-3))).bind fun v9=>some ((0,false,v9)) else (bif decide (a2 < a0) then (zpa 19 ((-4))).bind fun v12=>some ((0,false,v12)) else (bif decide ((w64 (a0+345600))<=a2) then (kpa).bind fun v15=>some ((0,false,v15)) else (iter (qKa a1) ((60,1))).bind fun b18=>(kpa).bind fun v23=>some (((min (min ((w64 (a2+b18))) ((w64 (a0+345600)))) 68719476736),true,v23))))))
def wKa(a2:List Int)(s10:Int):Option (Step Int (Unit ⊕ Int)):=
 (bif decide (s10 < (a2.length:Int)) then (idx a2 s10).bind fun v16=>((bif decide (v16 < 1) then some true else some (decide (4 < v16))):Option Bool).bind fun (j18:Bool)=>(bif j18 then some (.out (.inr s10)) else some (.cont (w64 (s10+1)))) else some (.out (.inl (()))))
noncomputable def Zpa(v34:List zca)(s36:Int × Nat × (List zca)):Option (Step (Int × Nat × (List zca)) ((List zca) × Nat)):=
 (bif decide (s36.1 < (v34.length:Int)) then (idx s36.2.2 s36.1).bind fun v40=>(idx s36.2.2 s36.1).bind fun v42=>(qha v42.Mail).bind fun v44=>(Jaa s36.2.1 s36.1).bind fun v46=>(idx s36.2.2 s36.1).bind fun v48=>(zLa v48.To).bind fun v50=>(idx s36.2.2 s36.1).bind fun v52=>(vub s36.2.1 s36.1).bind fun v54=>(idx ((List.set s36.2.2 (Int.toNat s36.1) ((zca.mk v52.Id v44 v52.Since v52.Tries v52.Due v52.To)))) s36.1).bind fun v56=>some (.cont ((w64 (s36.1+1)),(s36.2.1+1),(List.set ((List.set s36.2.2 (Int.toNat s36.1) ((zca.mk v52.Id v44 v52.Since v52.Tries v52.Due v52.To)))) (Int.toNat s36.1) ((zca.mk v56.Id v56.Mail v56.Since v56.Tries v56.Due v50))))) else some (.out ((s36.2.2,s36.2.1))))
def wLa(a2:List Int)(s62:Int):Option (Step Int (Unit ⊕ Int)):=
 (bif decide (s62 < (a2.length:Int)) then (idx a2 s62).bind fun v68=>((bif (v68==2) then some true else some ((v68==4))):Option Bool).bind fun (j70:Bool)=>(bif j70 then some (.out (.inr s62)) else some (.cont (w64 (s62+1)))) else some (.out (.inl (()))))
def vca(a1:zva)(a2:List Int)(v1:Int × zqa)(b37:(List zca) × Nat)(j60:Bool × (List zca))(s90:Int × (List zla) × (List zca)):Option (Step (Int × (List zla) × (List zca)) ((List zla) × (List zca))):=
 (bif decide (s90.1 < (a1.To.length:Int)) then ((idx a1.To s90.1).bind fun v95=>(idx a2 s90.1).bind fun v97=>(nown b37.2 v1.1).bind fun v99=>(idx s90.2.2 v1.1).bind fun v101=>(idx s90.2.2 v1.1).bind fun v103=>(idx v103.To v95).bind fun v105=>(idx s90.2.2 v1.1).bind fun v107=>(idx v107.To v95).bind fun v109=>(((bif (v97==2) then some true else some ((v97==4))):Option Bool).bind fun (j112:Bool)=>(bif j112 then some j60.1 else some false):Option Bool).bind fun (j111:Bool)=>(bif j111 then some ((s90.2.1,(List.set s90.2.2 (Int.toNat v1.1) ((zca.mk v107.Id v107.Mail v107.Since v107.Tries v107.Due ((List.set v107.To (Int.toNat v95) ((zia.mk v109.Recipient v109.Result false))))))))) else (((bif (v97==2) then some true else some ((v97==4))):Option Bool).bind fun (j117:Bool)=>(bif j117 then some 3 else some v97):Option Int).bind fun (j116:Int)=>(nown b37.2 v1.1).bind fun v120=>(idx ((List.set s90.2.2 (Int.toNat v1.1) ((zca.mk v107.Id v107.Mail v107.Since v107.Tries v107.Due ((List.set v107.To (Int.toNat v95) ((zia.mk v109.Recipient v109.Result false)))))))) v1.1).bind fun v122=>(idx ((List.set s90.2.2 (Int.toNat v1.1) ((zca.mk v107.Id v107.Mail v107.Since v107.Tries v107.Due ((List.set v107.To (Int.toNat v95) ((zia.mk v109.Recipient v109.Result false)))))))) v1.1).bind fun v124=>(idx v124.To v95).bind fun v126=>(idx ((List.set s90.2.2 (Int.toNat v1.1) ((zca.mk v107.Id v107.Mail v107.Since v107.Tries v107.Due ((List.set v107.To (Int.toNat v95) ((zia.mk v109.Recipient v109.Result false)))))))) v1.1).bind fun v128=>(idx v128.To v95).bind fun v130=>(idx ((List.set ((List.set s90.2.2 (Int.toNat v1.1) ((zca.mk v107.Id v107.Mail v107.Since v107.Tries v107.Due ((List.set v107.To (Int.toNat v95) ((zia.mk v109.Recipient v109.Result false)))))))) (Int.toNat v1.1) ((zca.mk v128.Id v128.Mail v128.Since v128.Tries v128.Due ((List.set v128.To (Int.toNat v95) ((zia.mk v130.Recipient j116 v130.Busy)))))))) v1.1).bind fun v132=>(app 5864062014805 s90.2.1 (([(zla.mk v132.Id v95 j116)]:List zla))).bind fun v134=>some ((v134,(List.set ((List.set s90.2.2 (Int.toNat v1.1) ((zca.mk v107.Id v107.Mail v107.Since v107.Tries v107.Due ((List.set v107.To (Int.toNat v95) ((zia.mk v109.Recipient v109.Result false)))))))) (Int.toNat v1.1) ((zca.mk v128.Id v128.Mail v128.Since v128.Tries v128.Due ((List.set v128.To (Int.toNat v95) ((zia.mk v130.Recipient j116 v130.Busy)))))))))):Option ((List zla) × (List zca))).bind fun (j94:(List zla) × (List zca))=>some (.cont ((w64 (s90.1+1)),j94.1,j94.2)) else some (.out ((s90.2.1,s90.2.2))))
noncomputable def jZa(a0:zza)(a1:zva)(a2:List Int)(a3:Int):Option (zza × (List zla) × zqa):=
 (v2a a0 a1 true).bind fun v1=>(z3a v1.2).bind fun v3=>(bif v3 then some (((zza.mk ([]) 0),[],v1.2)) else (bif ((a2.length:Int) !=(a1.To.length:Int)) then (zpa 9 ((-6))).bind fun v7=>some (((zza.mk ([]) 0),[],v7)) else ((iter (wKa a2) 0).bind (Sum.elim (fun b11=>some ((-1))) (fun b12=>some b12)):Option Int).bind fun (j9:Int)=>(bif decide (0<=j9) then (zpa 3 ((-6))).bind fun v22=>some (((zza.mk ([]) 0),[],v22)) else (qZa a3).bind fun v24=>(bif (!v24) then (zpa 3 ((-7))).bind fun v27=>some (((zza.mk ([]) 0),[],v27)) else (idx a0.Entries v1.1).bind fun v29=>(bif decide (a3 < v29.Since) then (zpa 19 ((-7))).bind fun v32=>some (((zza.mk ([]) 0),[],v32)) else (zZa a0.Entries).bind fun v34=>(iter (Zpa v34) ((0,0,v34))).bind fun b37=>(idx b37.1 v1.1).bind fun v58=>(((iter (wLa a2) 0).bind (Sum.elim (fun b63=>some ((-1))) (fun b64=>some b64)):Option Int).bind fun (j61:Int)=>(bif decide (0<=j61) then (idx b37.1 v1.1).bind fun v74=>(idx b37.1 v1.1).bind fun v76=>(idx ((List.set b37.1 (Int.toNat v1.1) ((zca.mk v76.Id v76.Mail v76.Since ((min ((w64 (v74.Tries+1))) 1000000)) v76.Due v76.To)))) v1.1).bind fun v78=>(idx ((List.set b37.1 (Int.toNat v1.1) ((zca.mk v76.Id v76.Mail v76.Since ((min ((w64 (v74.Tries+1))) 1000000)) v76.Due v76.To)))) v1.1).bind fun v80=>(jYa v78.Since v80.Tries a3).bind fun v82=>((bif v82.2.1 then (idx ((List.set b37.1 (Int.toNat v1.1) ((zca.mk v76.Id v76.Mail v76.Since ((min ((w64 (v74.Tries+1))) 1000000)) v76.Due v76.To)))) v1.1).bind fun v86=>(idx ((List.set b37.1 (Int.toNat v1.1) ((zca.mk v76.Id v76.Mail v76.Since ((min ((w64 (v74.Tries+1))) 1000000)) v76.Due v76.To)))) v1.1).bind fun v88=>some ((List.set ((List.set b37.1 (Int.toNat v1.1) ((zca.mk v76.Id v76.Mail v76.Since ((min ((w64 (v74.Tries+1))) 1000000)) v76.Due v76.To)))) (Int.toNat v1.1) ((zca.mk v88.Id v88.Mail v88.Since v88.Tries ((max v82.1 v86.Due)) v88.To)))) else some ((List.set b37.1 (Int.toNat v1.1) ((zca.mk v76.Id v76.Mail v76.Since ((min ((w64 (v74.Tries+1))) 1000000)) v76.Due v76.To))))):Option (List zca)).bind fun (j84:List zca)=>some ((v82.2.1,j84)) else some ((true,b37.1))):Option (Bool × (List zca))).bind fun (j60:Bool × (List zca))=>(iter (vca a1 a2 v1 b37 j60) ((0,([]:List zla),j60.2))).bind fun b91=>((idx b91.2 v1.1).bind fun v137=>(vba v137).bind fun v139=>(bif (!v139) then ((cut3 b91.2 v1.1 ((w64 (v1.1+1))) ((b91.2.length:Int))).bind fun v143=>(bif (v1.1==(w64 (v1.1+1))) then some b91.2 else (cut b91.2 0 v1.1).bind fun v146=>(cut b91.2 ((w64 (v1.1+1))) (b91.2.length:Int)).bind fun v148=>(shft b91.2 v1.1 ((w64 (v1.1+1)))).bind fun v150=>(WDa v150 (((((Int.toNat v1.1)+(b91.2.length - (Int.toNat ((w64 (v1.1+1)))))):Nat):Int)) ((b91.2.length:Int))).bind fun v152=>some ((List.take ((Int.toNat v1.1)+(b91.2.length - (Int.toNat ((w64 (v1.1+1)))))) ((clr0 v150 (Int.toNat (((((Int.toNat v1.1)+(b91.2.length - (Int.toNat ((w64 (v1.1+1)))))):Nat):Int))) ((zca.mk 0 ((kca.mk ((zGa.mk (([]:Str)) ([]) (([]:Str)))) ((zxa.mk ([]) ([]))))) 0 0 0 ([])))))))):Option (List zca)).bind fun (j142:List zca)=>some j142 else some b91.2):Option (List zca)).bind fun (j136:List zca)=>(kpa).bind fun v154=>some (((zza.mk j136 a0.Next),b91.1,v154)))))))
def j0a(a0:Int):Option Bool:=
 (R_In a0 ((-68719476736)) 68719476736).bind fun v1=>some v1
def Qea(a1:zva)(v4:Int × zqa)(b21:(List zca) × Nat)(s32:Int × (List zca)):Option (Step (Int × (List zca)) (List zca)):=
 (bif decide (s32.1 < (a1.To.length:Int)) then (idx s32.2 v4.1).bind fun v36=>(nown b21.2 v4.1).bind fun v38=>(idx s32.2 v4.1).bind fun v40=>(idx a1.To s32.1).bind fun v42=>(idx s32.2 v4.1).bind fun v44=>(idx v44.To v42).bind fun v46=>(idx s32.2 v4.1).bind fun v48=>(idx v48.To v42).bind fun v50=>some (.cont ((w64 (s32.1+1)),(List.set s32.2 (Int.toNat v4.1) ((zca.mk v48.Id v48.Mail v48.Since v48.Tries v48.Due ((List.set v48.To (Int.toNat v42) ((zia.mk v50.Recipient v50.Result true))))))))) else some (.out s32.2))
def jHa(a1:zva)(a2:List Int)(j3:Int × Int × Int)(b52:(List zca) × Nat)(j63:Int × (List zca))(s88:Int × (List zla) × (List zca)):Option (Step (Int × (List zla) × (List zca)) ((List zla) × (List zca))):=
 (bif decide (s88.1 < (a1.To.length:Int)) then ((idx a2 s88.1).bind fun v93=>(((bif (v93==2) then some true else some ((v93==4))):Option Bool).bind fun (j96:Bool)=>(bif j96 then some j63.1 else some v93):Option Int).bind fun (j95:Int)=>(idx s88.2.2 j3.1).bind fun v99=>(nown b52.2 j3.1).bind fun v101=>(idx s88.2.2 j3.1).bind fun v103=>(idx a1.To s88.1).bind fun v105=>(idx s88.2.2 j3.1).bind fun v107=>(idx v107.To v105).bind fun v109=>(idx s88.2.2 j3.1).bind fun v111=>(idx v111.To v105).bind fun v113=>(idx ((List.set s88.2.2 (Int.toNat j3.1) ((zca.mk v111.Id v111.Mail v111.Since v111.Tries v111.Due ((List.set v111.To (Int.toNat v105) ((zia.mk v113.Recipient v113.Result false)))))))) j3.1).bind fun v115=>(nown b52.2 j3.1).bind fun v117=>(idx ((List.set s88.2.2 (Int.toNat j3.1) ((zca.mk v111.Id v111.Mail v111.Since v111.Tries v111.Due ((List.set v111.To (Int.toNat v105) ((zia.mk v113.Recipient v113.Result false)))))))) j3.1).bind fun v119=>(idx a1.To s88.1).bind fun v121=>(idx ((List.set s88.2.2 (Int.toNat j3.1) ((zca.mk v111.Id v111.Mail v111.Since v111.Tries v111.Due ((List.set v111.To (Int.toNat v105) ((zia.mk v113.Recipient v113.Result false)))))))) j3.1).bind fun v123=>(idx v123.To v121).bind fun v125=>(idx ((List.set s88.2.2 (Int.toNat j3.1) ((zca.mk v111.Id v111.Mail v111.Since v111.Tries v111.Due ((List.set v111.To (Int.toNat v105) ((zia.mk v113.Recipient v113.Result false)))))))) j3.1).bind fun v127=>(idx v127.To v121).bind fun v129=>(bif (j95 !=0) then (idx a1.To s88.1).bind fun v132=>(app 5864062014805 s88.2.1 (([(zla.mk a1.Entry v132 j95)]:List zla))).bind fun v134=>some ((v134,(List.set ((List.set s88.2.2 (Int.toNat j3.1) ((zca.mk v111.Id v111.Mail v111.Since v111.Tries v111.Due ((List.set v111.To (Int.toNat v105) ((zia.mk v113.Recipient v113.Result false)))))))) (Int.toNat j3.1) ((zca.mk v127.Id v127.Mail v127.Since v127.Tries v127.Due ((List.set v127.To (Int.toNat v121) ((zia.mk v129.Recipient j95 v129.Busy))))))))) else some ((s88.2.1,(List.set ((List.set s88.2.2 (Int.toNat j3.1) ((zca.mk v111.Id v111.Mail v111.Since v111.Tries v111.Due ((List.set v111.To (Int.toNat v105) ((zia.mk v113.Recipient v113.Result false)))))))) (Int.toNat j3.1) ((zca.mk v127.Id v127.Mail v127.Since v127.Tries v127.Due ((List.set v127.To (Int.toNat v121) ((zia.mk v129.Recipient j95 v129.Busy)))))))))):Option ((List zla) × (List zca))).bind fun (j92:(List zla) × (List zca))=>some (.cont ((w64 (s88.1+1)),j92.1,j92.2)) else some (.out ((s88.2.1,s88.2.2))))
def vAa(a0:List zla)(a1:List zla)(s2:Int):Option (Step Int (Unit ⊕ Bool)):=
 (bif decide (s2 < (a0.length:Int)) then (idx a0 s2).bind fun v8=>(idx a1 s2).bind fun v10=>(bif (!(qwa [(v8.Entry==v10.Entry),(v8.Number==v10.Number),(v8.Result==v10.Result)])) then some (.out (.inr false)) else some (.cont (w64 (s2+1)))) else some (.out (.inl (()))))
noncomputable def vPa(a0:List zla)(a1:List zla):Option Bool:=
 (bif ((a0.length:Int) !=(a1.length:Int)) then some false else (iter (vAa a0 a1) 0).bind (Sum.elim (fun b3=>some true) (fun b4=>some b4)))
def yra(a0:kca):Option Bool:=
 ((bif (a0.Envelope.From==([]:Str)) then (bif (a0.Envelope.Id==([]:Str)) then some (((w64 ((w64 ((a0.Envelope.To.length:Int)+(a0.Message.Fields.length:Int)))+(a0.Message.Body.length:Int)))==0)) else some false) else some false):Option Bool).bind fun (j1:Bool)=>some j1
def ysa(a0:zha):Option Bool:=
 (bif (a0.Kind==2) then (yra a0.Mail).bind fun v2=>some v2 else ((bif (a0.Attempt.Entry==0) then (bif (a0.Attempt.Domain==([]:Str)) then some (((w64 ((a0.Attempt.To.length:Int)+(a0.Results.length:Int)))==0)) else some false) else some false):Option Bool).bind fun (j4:Bool)=>some j4)
def vda(a0:zha)(s16:Int):Option (Step Int (Unit ⊕ zqa)):=
 (bif decide (s16 < (a0.Attempt.To.length:Int)) then (idx a0.Attempt.To s16).bind fun v22=>((bif decide (v22 < 0) then some true else (bif decide (60<=v22) then some true else (bif decide (0 < s16) then (idx a0.Attempt.To ((w64 (s16 - 1)))).bind fun v28=>some (decide (v22<=v28)) else some false))):Option Bool).bind fun (j24:Bool)=>(bif j24 then (zpa 3 ((-4))).bind fun v31=>some (.out (.inr v31)) else some (.cont (w64 (s16+1)))) else some (.out (.inl (()))))
def wMa(a0:zha)(s37:Int):Option (Step Int (Unit ⊕ Int)):=
 (bif decide (s37 < (a0.Results.length:Int)) then (idx a0.Results s37).bind fun v43=>((bif decide (v43 < 1) then some true else some (decide (4 < v43))):Option Bool).bind fun (j45:Bool)=>(bif j45 then some (.out (.inr s37)) else some (.cont (w64 (s37+1)))) else some (.out (.inl (()))))
noncomputable def j1a(a0:zha):Option zqa:=
 ((bif decide (a0.Attempt.Entry < 0) then some true else some (decide (1000000 < a0.Attempt.Entry))):Option Bool).bind fun (j1:Bool)=>(bif j1 then (zpa 3 ((-3))).bind fun v4=>some v4 else (q0a a0.Attempt.Domain).bind fun v6=>(bif (!v6) then (zpa 10 ((-4))).bind fun v9=>some v9 else ((bif decide ((a0.Attempt.To.length:Int) < 1) then some true else some (decide (60 < (a0.Attempt.To.length:Int)))):Option Bool).bind fun (j11:Bool)=>(bif j11 then (zpa 2 ((-4))).bind fun v14=>some v14 else (iter (vda a0) 0).bind (Sum.elim (fun b17=>(bif ((a0.Results.length:Int) !=(a0.Attempt.To.length:Int)) then (zpa 9 ((-5))).bind fun v34=>some v34 else ((iter (wMa a0) 0).bind (Sum.elim (fun b38=>some ((-1))) (fun b39=>some b39)):Option Int).bind fun (j36:Int)=>(bif decide (0<=j36) then (zpa 3 ((-5))).bind fun v49=>some v49 else (kpa).bind fun v51=>some v51))) (fun b18=>some b18)))))
noncomputable def vQa(a0:zha):Option zqa:=
 ((bif (a0.Kind !=1) then some ((a0.Kind !=2)) else some false):Option Bool).bind fun (j1:Bool)=>(bif j1 then (zpa 4 ((-2))).bind fun v4=>some v4 else (qZa a0.Now).bind fun v6=>(bif (!v6) then (zpa 3 ((-7))).bind fun v9=>some v9 else (ysa a0).bind fun v11=>(bif (!v11) then (zpa 5 ((-8))).bind fun v14=>some v14 else (bif (a0.Kind==2) then (j1a a0).bind fun v17=>some v17 else (qQa a0.Mail).bind fun v19=>(z3a v19).bind fun v21=>(bif v21 then (zpa v19.Code ((-6))).bind fun v24=>some v24 else (kpa).bind fun v26=>some v26)))))
def kaa(a1:Int)(s1:Int × zma):Option (Step (Int × zma) zma):=
 (bif decide (s1.1 < 8) then (nng ((w64 (8 * s1.1)))).bind fun v5=>(app 140737488355328 s1.2.out (([(toU8 ((uShr ((wu64 a1)) ((w64 (8 * s1.1))))))]:List UInt8))).bind fun v7=>some (.cont ((w64 (s1.1+1)),(zma.mk v7))) else some (.out s1.2))
noncomputable def zJa(a0:zma)(a1:Int):Option zma:=
 (iter (kaa a1) ((0,a0))).bind fun b2=>some b2
noncomputable def z4a(a0:zma)(a1:Str):Option zma:=
 (zJa a0 ((a1.length:Int))).bind fun v1=>(app 140737488355328 v1.out a1).bind fun v3=>some ((zma.mk v3))
noncomputable def wNa(a0:zha)(s10:Int × zma):Option (Step (Int × zma) zma):=
 (bif decide (s10.1 < (a0.Mail.Envelope.To.length:Int)) then (idx a0.Mail.Envelope.To s10.1).bind fun v14=>(z4a s10.2 v14.Address).bind fun v16=>(zJa v16 v14.Notify).bind fun v18=>some (.cont ((w64 (s10.1+1)),v18)) else some (.out s10.2))
noncomputable def wOa(a0:zha)(s24:Int × zma):Option (Step (Int × zma) zma):=
 (bif decide (s24.1 < (a0.Mail.Message.Fields.length:Int)) then (idx a0.Mail.Message.Fields s24.1).bind fun v28=>(z4a s24.2 v28.Name).bind fun v30=>(z4a v30 v28.Value).bind fun v32=>some (.cont ((w64 (s24.1+1)),v32)) else some (.out s24.2))
def Zqa(v46:Int)(s48:Int × zma):Option (Step (Int × zma) zma):=
 (bif decide (s48.1 < 8) then (nng ((w64 (8 * s48.1)))).bind fun v52=>(app 140737488355328 s48.2.out (([(toU8 ((uShr ((wu64 v46)) ((w64 (8 * s48.1))))))]:List UInt8))).bind fun v54=>some (.cont ((w64 (s48.1+1)),(zma.mk v54))) else some (.out s48.2))
noncomputable def wPa(a0:zha)(s42:Int × zma):Option (Step (Int × zma) zma):=
 (bif decide (s42.1 < (a0.Attempt.To.length:Int)) then (idx a0.Attempt.To s42.1).bind fun v46=>(iter (Zqa v46) ((0,s42.2))).bind fun b49=>some (.cont ((w64 (s42.1+1)),b49)) else some (.out s42.2))
def Zra(v62:Int)(s64:Int × zma):Option (Step (Int × zma) zma):=
 (bif decide (s64.1 < 8) then (nng ((w64 (8 * s64.1)))).bind fun v68=>(app 140737488355328 s64.2.out (([(toU8 ((uShr ((wu64 v62)) ((w64 (8 * s64.1))))))]:List UInt8))).bind fun v70=>some (.cont ((w64 (s64.1+1)),(zma.mk v70))) else some (.out s64.2))
noncomputable def wQa(a0:zha)(s58:Int × zma):Option (Step (Int × zma) zma):=
 (bif decide (s58.1 < (a0.Results.length:Int)) then (idx a0.Results s58.1).bind fun v62=>(iter (Zra v62) ((0,s58.2))).bind fun b65=>some (.cont ((w64 (s58.1+1)),b65)) else some (.out s58.2))
noncomputable def j2a(a0:zha):Option (List UInt8):=
 (zJa ((zma.mk (([]:List UInt8)))) a0.Kind).bind fun v1=>(zJa v1 a0.Now).bind fun v3=>(bif (a0.Kind==1) then (z4a v3 a0.Mail.Envelope.From).bind fun v6=>(zJa v6 ((a0.Mail.Envelope.To.length:Int))).bind fun v8=>(iter (wNa a0) ((0,v8))).bind fun b11=>(z4a b11 a0.Mail.Envelope.Id).bind fun v20=>(zJa v20 ((a0.Mail.Message.Fields.length:Int))).bind fun v22=>(iter (wOa a0) ((0,v22))).bind fun b25=>(z4a b25 a0.Mail.Message.Body).bind fun v34=>some v34.out else (zJa v3 a0.Attempt.Entry).bind fun v36=>(z4a v36 a0.Attempt.Domain).bind fun v38=>(zJa v38 ((a0.Attempt.To.length:Int))).bind fun v40=>(iter (wPa a0) ((0,v40))).bind fun b43=>(zJa b43 ((a0.Results.length:Int))).bind fun v56=>(iter (wQa a0) ((0,v56))).bind fun b59=>some b59.out)
def yta(a0:List UInt8)(s1:Int × Int):Option (Step (Int × Int) Int):=
 (bif decide (s1.2 < (a0.length:Int)) then (idx a0 s1.2).bind fun v5=>some (.cont ((wu64 ((uXor s1.1 ((v5.toNat:Int))) * 1099511628211)),(w64 (s1.2+1)))) else some (.out s1.1))
noncomputable def Z6a(a0:List UInt8):Option Int:=
 (iter (yta a0) ((14695981039346656037,0))).bind fun b2=>some b2
noncomputable def wva(a0:zha):Option (List UInt8):=
 (j2a a0).bind fun v1=>(z4a ((zma.mk (([]:List UInt8)))) v1).bind fun v3=>(Z6a v1).bind fun v5=>(zJa v3 ((w64 v5))).bind fun v7=>some v7.out
noncomputable def q8a(a0:List UInt8)(a1:zha):Option ((List UInt8) × zqa):=
 (bif decide (200000 < (a0.length:Int)) then (zpa 1 ((-1))).bind fun v2=>some (([],v2)) else (vQa a1).bind fun v4=>(z3a v4).bind fun v6=>(bif v6 then some (([],v4)) else (wva a1).bind fun v9=>(kMa (([a0,v9]:List (List UInt8)))).bind fun v11=>(bif decide (200000 < (v11.length:Int)) then (zpa 1 ((-9))).bind fun v14=>some (([],v14)) else (kpa).bind fun v16=>some ((v11,v16)))))
def kCa(a0:zja)(s2:Int × Int):Option (Step (Int × Int) Int):=
 (bif decide (s2.2 < 8) then (idx a0.b s2.2).bind fun v6=>(nng ((w64 (8 * s2.2)))).bind fun v8=>some (.cont ((uOr s2.1 ((uShl ((v6.toNat:Int)) ((w64 (8 * s2.2)))))),(w64 (s2.2+1)))) else some (.out s2.1))
noncomputable def zDa(a0:zja):Option (Int × zja):=
 (bif decide ((a0.b.length:Int) < 8) then some ((0,(zja.mk ([]) true))) else (iter (kCa a0) ((0,0))).bind fun b3=>(cut a0.b 8 ((a0.b.length:Int))).bind fun v10=>some (((w64 b3),(zja.mk v10 a0.bad))))
noncomputable def z5a(a0:zja):Option (Str × zja):=
 (zDa a0).bind fun v1=>((bif decide (v1.1 < 0) then some true else some (decide ((v1.2.b.length:Int) < v1.1))):Option Bool).bind fun (j3:Bool)=>(bif j3 then some ((([]:Str),(zja.mk ([]) true))) else (cut v1.2.b 0 v1.1).bind fun v6=>(cut v1.2.b v1.1 ((v1.2.b.length:Int))).bind fun v8=>some ((v6,(zja.mk v8 v1.2.bad))))
noncomputable def vea(v9:Int × zja)(s11:Int × zja × (List zba)):Option (Step (Int × zja × (List zba)) (zja × (List zba))):=
 ((bif decide (s11.1 < v9.1) then some ((!s11.2.1.bad)) else some false):Option Bool).bind fun (j14:Bool)=>(bif j14 then (z5a s11.2.1).bind fun v17=>(zDa v17.2).bind fun v19=>(app 5864062014805 s11.2.2 (([(zba.mk v17.1 v19.1)]:List zba))).bind fun v21=>some (.cont ((w64 (s11.1+1)),v19.2,v21)) else some (.out ((s11.2.1,s11.2.2))))
noncomputable def vfa(v25:Int × zja)(s27:Int × zja × (List zea)):Option (Step (Int × zja × (List zea)) (zja × (List zea))):=
 ((bif decide (s27.1 < v25.1) then some ((!s27.2.1.bad)) else some false):Option Bool).bind fun (j30:Bool)=>(bif j30 then (z5a s27.2.1).bind fun v33=>(z5a v33.2).bind fun v35=>(app 4398046511104 s27.2.2 (([(zea.mk v33.1 v35.1)]:List zea))).bind fun v37=>some (.cont ((w64 (s27.1+1)),v35.2,v37)) else some (.out ((s27.2.1,s27.2.2))))
def Zsa(s47:Int × zja × (List Int))(s55:Int × Int):Option (Step (Int × Int) Int):=
 (bif decide (s55.2 < 8) then (idx s47.2.1.b s55.2).bind fun v59=>(nng ((w64 (8 * s55.2)))).bind fun v61=>some (.cont ((uOr s55.1 ((uShl ((v59.toNat:Int)) ((w64 (8 * s55.2)))))),(w64 (s55.2+1)))) else some (.out s55.1))
noncomputable def vga(v45:Int × zja)(s47:Int × zja × (List Int)):Option (Step (Int × zja × (List Int)) (zja × (List Int))):=
 ((bif decide (s47.1 < v45.1) then some ((!s47.2.1.bad)) else some false):Option Bool).bind fun (j50:Bool)=>(bif j50 then ((bif decide ((s47.2.1.b.length:Int) < 8) then some ((0,(zja.mk ([]) true))) else (iter (Zsa s47) ((0,0))).bind fun b56=>(cut s47.2.1.b 8 ((s47.2.1.b.length:Int))).bind fun v63=>some (((w64 b56),(zja.mk v63 s47.2.1.bad)))):Option (Int × zja)).bind fun (j53:Int × zja)=>(app 17592186044416 s47.2.2 (([j53.1]:List Int))).bind fun v65=>some (.cont ((w64 (s47.1+1)),j53.2,v65)) else some (.out ((s47.2.1,s47.2.2))))
def QOa(s69:Int × zja × (List Int))(s77:Int × Int):Option (Step (Int × Int) Int):=
 (bif decide (s77.2 < 8) then (idx s69.2.1.b s77.2).bind fun v81=>(nng ((w64 (8 * s77.2)))).bind fun v83=>some (.cont ((uOr s77.1 ((uShl ((v81.toNat:Int)) ((w64 (8 * s77.2)))))),(w64 (s77.2+1)))) else some (.out s77.1))
noncomputable def Zta(v67:Int × zja)(s69:Int × zja × (List Int)):Option (Step (Int × zja × (List Int)) (zja × (List Int))):=
 ((bif decide (s69.1 < v67.1) then some ((!s69.2.1.bad)) else some false):Option Bool).bind fun (j72:Bool)=>(bif j72 then ((bif decide ((s69.2.1.b.length:Int) < 8) then some ((0,(zja.mk ([]) true))) else (iter (QOa s69) ((0,0))).bind fun b78=>(cut s69.2.1.b 8 ((s69.2.1.b.length:Int))).bind fun v85=>some (((w64 b78),(zja.mk v85 s69.2.1.bad)))):Option (Int × zja)).bind fun (j75:Int × zja)=>(app 17592186044416 s69.2.2 (([j75.1]:List Int))).bind fun v87=>some (.cont ((w64 (s69.1+1)),j75.2,v87)) else some (.out ((s69.2.1,s69.2.2))))
noncomputable def j3a(a0:List UInt8):Option (zha × Bool):=
 (zDa ((zja.mk a0 false))).bind fun v1=>(zDa v1.2).bind fun v3=>((bif (v1.1==1) then (z5a v3.2).bind fun v7=>(zDa v7.2).bind fun v9=>(iter (vea v9) ((0,v9.2,([]:List zba)))).bind fun b12=>(z5a b12.1).bind fun v23=>(zDa v23.2).bind fun v25=>(iter (vfa v25) ((0,v25.2,([]:List zea)))).bind fun b28=>(z5a b28.1).bind fun v39=>some ((v39.2,(zha.mk v1.1 v3.1 ((kca.mk ((zGa.mk v7.1 b12.2 v23.1)) ((zxa.mk b28.2 v39.1)))) ((zva.mk 0 (([]:Str)) ([]))) ([])))) else (zDa v3.2).bind fun v41=>(z5a v41.2).bind fun v43=>(zDa v43.2).bind fun v45=>(iter (vga v45) ((0,v45.2,([]:List Int)))).bind fun b48=>(zDa b48.1).bind fun v67=>(iter (Zta v67) ((0,v67.2,([]:List Int)))).bind fun b70=>some ((b70.1,(zha.mk v1.1 v3.1 ((kca.mk ((zGa.mk (([]:Str)) ([]) (([]:Str)))) ((zxa.mk ([]) ([]))))) ((zva.mk v41.1 v43.1 b48.2)) b70.2)))):Option (zja × zha)).bind fun (j5:zja × zha)=>((bif (!j5.1.bad) then (bif ((j5.1.b.length:Int)==0) then (vQa j5.2).bind fun v92=>(z3a v92).bind fun v94=>some ((!v94)) else some false) else some false):Option Bool).bind fun (j89:Bool)=>some ((j5.2,j89))
noncomputable def vha(a0:List UInt8)(s5:Int × Int × (List zha)):Option (Step (Int × Int × (List zha)) ((Int × (List zha)) ⊕ (Int × (List zha)))):=
 (cut a0 s5.1 ((a0.length:Int))).bind fun v10=>(z5a ((zja.mk v10 false))).bind fun v12=>(zDa v12.2).bind fun v14=>(bif v14.2.bad then some (.out (.inl ((s5.2.1,s5.2.2)))) else (j3a v12.1).bind fun v17=>(wva v17.1).bind fun v19=>((bif (!v17.2) then some true else (cut a0 s5.1 ((a0.length:Int))).bind fun v23=>(qpa v23 v19).bind fun v25=>some ((!v25))):Option Bool).bind fun (j21:Bool)=>(bif j21 then some (.out (.inl ((s5.2.1,s5.2.2)))) else (app 733007751850 s5.2.2 (([v17.1]:List zha))).bind fun v28=>(bif ((v28.length:Int)==100) then some (.out (.inr (((w64 (s5.1+(v19.length:Int))),v28)))) else some (.cont ((w64 (s5.1+(v19.length:Int))),(w64 (s5.1+(v19.length:Int))),v28)))))
noncomputable def w6a(a0:List UInt8):Option ((List zha) × Int × zqa):=
 (bif decide (200000 < (a0.length:Int)) then (zpa 1 ((-1))).bind fun v2=>some (([],0,v2)) else ((iter (vha a0) ((0,0,([]:List zha)))).bind (Sum.elim (fun b6=>some ((b6.1,b6.2))) (fun b7=>some ((b7.1,b7.2)))):Option (Int × (List zha))).bind fun (j4:Int × (List zha))=>(kpa).bind fun v31=>some ((j4.2,j4.1,v31)))
noncomputable def vRa(a0:List zha)(s4:Int):Option (Step Int (Unit ⊕ (zza × (List zla) × zqa))):=
 (bif decide (s4 < (a0.length:Int)) then (idx a0 s4).bind fun v10=>(vQa v10).bind fun v12=>(z3a v12).bind fun v14=>(bif v14 then (zpa v12.Code s4).bind fun v17=>some (.out (.inr (((zza.mk ([]) 0),[],v17)))) else some (.cont (w64 (s4+1)))) else some (.out (.inl (()))))
noncomputable def q6a(a0:List zha)(s19:Int × (List zla) × (List zca) × Int):Option (Step (Int × (List zla) × (List zca) × Int) (((List zla) × (List zca) × Int) ⊕ (zza × (List zla) × zqa))):=
 (bif decide (s19.1 < (a0.length:Int)) then (idx a0 s19.1).bind fun v25=>((bif (v25.Kind==1) then (Z5a ((zza.mk s19.2.2.1 s19.2.2.2)) v25.Mail v25.Now).bind fun v29=>some ((v29.2.2.Code,v29.2.2.Index,s19.2.1,v29.1.Entries,v29.1.Next)) else (jXa ((zza.mk s19.2.2.1 s19.2.2.2)) v25.Attempt).bind fun v31=>(z3a v31.2).bind fun v33=>(bif (!v33) then (jZa v31.1 v25.Attempt v25.Results v25.Now).bind fun v36=>(app 5864062014805 s19.2.1 v36.2.1).bind fun v38=>some ((v36.2.2.Code,v36.2.2.Index,v38,v36.1.Entries,v36.1.Next)) else some ((v31.2.Code,v31.2.Index,s19.2.1,v31.1.Entries,v31.1.Next)))):Option (Int × Int × (List zla) × (List zca) × Int)).bind fun (j27:Int × Int × (List zla) × (List zca) × Int)=>(z3a ((zqa.mk j27.1 j27.2.1))).bind fun v40=>(bif v40 then (zpa j27.1 s19.1).bind fun v43=>some (.out (.inr (((zza.mk ([]) 0),[],v43)))) else some (.cont ((w64 (s19.1+1)),j27.2.2.1,j27.2.2.2.1,j27.2.2.2.2))) else some (.out (.inl ((s19.2.1,s19.2.2.1,s19.2.2.2)))))
noncomputable def wwa(a0:List zha):Option (zza × (List zla) × zqa):=
 (bif decide (100 < (a0.length:Int)) then (zpa 2 ((-1))).bind fun v2=>some (((zza.mk ([]) 0),[],v2)) else (iter (vRa a0) 0).bind (Sum.elim (fun b5=>(iter (q6a a0) ((0,([]:List zla),[],0))).bind (Sum.elim (fun b20=>(kpa).bind fun v45=>some (((zza.mk b20.2.1 b20.2.2),b20.1,v45))) (fun b21=>some ((b21.1,b21.2.1,b21.2.2))))) (fun b6=>some ((b6.1,b6.2.1,b6.2.2)))))
noncomputable def Z7a:Option Bool:=
 (QMa (([([97,64,121]:Str)]:List Str))).bind fun v1=>(q8a ([]) ((zha.mk 1 0 v1 ((zva.mk 0 (([]:Str)) ([]))) ([])))).bind fun v3=>(w6a v3.1).bind fun v5=>(wwa (([(zha.mk 1 0 v1 ((zva.mk 0 (([]:Str)) ([]))) ([])),(zha.mk 2 5 ((kca.mk ((zGa.mk (([]:Str)) ([]) (([]:Str)))) ((zxa.mk ([]) ([]))))) ((zva.mk 0 (([121]:Str)) (([0]:List Int)))) (([1]:List Int)))]:List zha))).bind fun v7=>(q8a ([]) ((zha.mk 0 0 ((kca.mk ((zGa.mk (([]:Str)) ([]) (([]:Str)))) ((zxa.mk ([]) ([]))))) ((zva.mk 0 (([]:Str)) ([]))) ([])))).bind fun v9=>((bif (v3.2.Code==0) then (bif (v5.2.2.Code==0) then (bif (v7.2.2.Code==0) then (R_At 4 ((-2))).bind fun v15=>(bif (qwa [(v9.2.Code==v15.Code),(v9.2.Index==v15.Index)]) then (bif decide (16 < (v3.1.length:Int)) then (bif (v5.2.1==(v3.1.length:Int)) then (bif ((v5.1.length:Int)==1) then (bif ((v7.1.Entries.length:Int)==0) then (bif (v7.1.Next==1) then (vPa v7.2.1 (([(zla.mk 0 0 1)]:List zla))).bind fun v23=>some v23 else some false) else some false) else some false) else some false) else some false) else some false) else some false) else some false) else some false):Option Bool).bind fun (j11:Bool)=>some j11
def qna(a0:zha)(s51:Int × Int):Option (Step (Int × Int) (Unit ⊕ zqa)):=
 (bif decide (s51.2 < (a0.Attempt.To.length:Int)) then (idx a0.Attempt.To s51.2).bind fun v57=>(R_In v57 ((w64 (s51.1+1))) 59).bind fun v59=>(bif (!v59) then (R_At 3 ((-4))).bind fun v62=>some (.out (.inr v62)) else (idx a0.Attempt.To s51.2).bind fun v64=>some (.cont (v64,(w64 (s51.2+1))))) else some (.out (.inl (()))))
def v3a(a0:zha)(s69:Int):Option (Step Int (Unit ⊕ zqa)):=
 (bif decide (s69 < (a0.Results.length:Int)) then (idx a0.Results s69).bind fun v75=>(R_In v75 1 4).bind fun v77=>(bif (!v77) then (R_At 3 ((-5))).bind fun v80=>some (.out (.inr v80)) else some (.cont (w64 (s69+1)))) else some (.out (.inl (()))))
noncomputable def wha(a0:zha):Option zqa:=
 ((bif (a0.Kind !=1) then some ((a0.Kind !=2)) else some false):Option Bool).bind fun (j1:Bool)=>(bif j1 then (R_At 4 ((-2))).bind fun v4=>some v4 else (j0a a0.Now).bind fun v6=>(bif (!v6) then (R_At 3 ((-7))).bind fun v9=>some v9 else ((bif (a0.Attempt.Entry==0) then (bif (a0.Attempt.Domain==([]:Str)) then (bif ((a0.Attempt.To.length:Int)==0) then some (((a0.Results.length:Int)==0)) else some false) else some false) else some false):Option Bool).bind fun (j11:Bool)=>((bif (a0.Mail.Envelope.From==([]:Str)) then (bif (a0.Mail.Envelope.Id==([]:Str)) then (bif ((a0.Mail.Envelope.To.length:Int)==0) then (bif ((a0.Mail.Message.Fields.length:Int)==0) then some (((a0.Mail.Message.Body.length:Int)==0)) else some false) else some false) else some false) else some false):Option Bool).bind fun (j15:Bool)=>((bif (a0.Kind==1) then (bif (!j11) then some true else (bif (a0.Kind==2) then some ((!j15)) else some false)) else (bif (a0.Kind==2) then some ((!j15)) else some false)):Option Bool).bind fun (j20:Bool)=>(bif j20 then (R_At 5 ((-8))).bind fun v26=>some v26 else (bif (a0.Kind==1) then (w5a a0.Mail).bind fun v29=>(bif (v29.Code !=0) then (w5a a0.Mail).bind fun v32=>(R_At v32.Code ((-6))).bind fun v34=>some v34 else some ((zqa.mk 0 0))) else (R_In a0.Attempt.Entry 0 1000000).bind fun v36=>(bif (!v36) then (R_At 3 ((-3))).bind fun v39=>some v39 else (yPa a0.Attempt.Domain).bind fun v41=>(bif (!v41) then (R_At 10 ((-4))).bind fun v44=>some v44 else (R_In ((a0.Attempt.To.length:Int)) 1 60).bind fun v46=>(bif (!v46) then (R_At 2 ((-4))).bind fun v49=>some v49 else (iter (qna a0) (((-1),0))).bind (Sum.elim (fun b52=>(bif ((a0.Results.length:Int) !=(a0.Attempt.To.length:Int)) then (R_At 9 ((-5))).bind fun v67=>some v67 else (iter (v3a a0) 0).bind (Sum.elim (fun b70=>some ((zqa.mk 0 0))) (fun b71=>some b71)))) (fun b53=>some b53)))))))))
def KWa(a0:List UInt8)(s1:Int × Int):Option (Step (Int × Int) Int):=
 (bif decide (s1.2 < (a0.length:Int)) then (idx a0 s1.2).bind fun v5=>some (.cont ((wu64 ((uXor s1.1 ((v5.toNat:Int))) * 1099511628211)),(w64 (s1.2+1)))) else some (.out s1.1))
noncomputable def Zua(a0:List UInt8):Option Int:=
 (iter (KWa a0) ((14695981039346656037,0))).bind fun b2=>some b2
def qra(a0:zfa)(s4:Int × Int):Option (Step (Int × Int) Int):=
 (bif decide (0<=s4.2) then (idx a0.b s4.2).bind fun v8=>some (.cont ((wu64 ((wu64 (256 * s4.1))+(v8.toNat:Int))),(w64 (s4.2 - 1)))) else some (.out s4.1))
noncomputable def zXa(a0:zfa):Option (zfa × Int):=
 ((bif a0.bad then some true else some (decide ((a0.b.length:Int) < 8))):Option Bool).bind fun (j1:Bool)=>(bif j1 then some (((zfa.mk ([]) true),0)) else (iter (qra a0) ((0,7))).bind fun b5=>(cut a0.b 8 ((a0.b.length:Int))).bind fun v10=>some (((zfa.mk v10 false),(w64 b5))))
noncomputable def k9a(a0:zfa):Option (zfa × Str):=
 (zXa a0).bind fun v1=>((bif v1.1.bad then some true else (R_In v1.2 0 ((v1.1.b.length:Int))).bind fun v5=>some ((!v5))):Option Bool).bind fun (j3:Bool)=>(bif j3 then some (((zfa.mk ([]) true),([]:Str))) else (cut v1.1.b v1.2 ((v1.1.b.length:Int))).bind fun v8=>(cut v1.1.b 0 v1.2).bind fun v10=>some (((zfa.mk v8 false),v10)))
noncomputable def via(v3:zfa × Int)(s8:Int × (List zba) × (List UInt8) × Bool):Option (Step (Int × (List zba) × (List UInt8) × Bool) ((List zba) × (List UInt8) × Bool)):=
 (bif decide (s8.1 < v3.2) then (k9a ((zfa.mk s8.2.2.1 s8.2.2.2))).bind fun v12=>(zXa v12.1).bind fun v14=>(app 5864062014805 s8.2.1 (([(zba.mk v12.2 v14.2)]:List zba))).bind fun v16=>some (.cont ((w64 (s8.1+1)),v16,v14.1.b,v14.1.bad)) else some (.out ((s8.2.1,s8.2.2.1,s8.2.2.2))))
noncomputable def vja(v20:zfa × Int)(s25:Int × (List zea) × (List UInt8) × Bool):Option (Step (Int × (List zea) × (List UInt8) × Bool) ((List zea) × (List UInt8) × Bool)):=
 (bif decide (s25.1 < v20.2) then (k9a ((zfa.mk s25.2.2.1 s25.2.2.2))).bind fun v29=>(k9a v29.1).bind fun v31=>(app 4398046511104 s25.2.1 (([(zea.mk v29.2 v31.2)]:List zea))).bind fun v33=>some (.cont ((w64 (s25.1+1)),v33,v31.1.b,v31.1.bad)) else some (.out ((s25.2.1,s25.2.2.1,s25.2.2.2))))
noncomputable def w7a(a0:zfa):Option (zfa × kca):=
 (k9a a0).bind fun v1=>(zXa v1.1).bind fun v3=>(R_In v3.2 0 60).bind fun v5=>(bif (!v5) then some (((zfa.mk ([]) true),(kca.mk ((zGa.mk v1.2 (([]:List zba)) (([]:Str)))) ((zxa.mk (([]:List zea)) ([])))))) else (iter (via v3) ((0,([]:List zba),v3.1.b,v3.1.bad))).bind fun b9=>(k9a ((zfa.mk b9.2.1 b9.2.2))).bind fun v18=>(zXa v18.1).bind fun v20=>(R_In v20.2 0 60).bind fun v22=>(bif (!v22) then some (((zfa.mk ([]) true),(kca.mk ((zGa.mk v1.2 b9.1 v18.2)) ((zxa.mk (([]:List zea)) ([])))))) else (iter (vja v20) ((0,([]:List zea),v20.1.b,v20.1.bad))).bind fun b26=>(k9a ((zfa.mk b26.2.1 b26.2.2))).bind fun v35=>some ((v35.1,(kca.mk ((zGa.mk v1.2 b9.1 v18.2)) ((zxa.mk b26.1 v35.2)))))))
noncomputable def kQa(v1:zfa × Int)(s8:Int × (List Int) × (List UInt8) × Bool):Option (Step (Int × (List Int) × (List UInt8) × Bool) ((List Int) × (List UInt8) × Bool)):=
 ((bif decide (s8.1 < v1.2) then some ((!s8.2.2.2)) else some false):Option Bool).bind fun (j11:Bool)=>(bif j11 then (zXa ((zfa.mk s8.2.2.1 s8.2.2.2))).bind fun v14=>(app 17592186044416 s8.2.1 (([v14.2]:List Int))).bind fun v16=>some (.cont ((w64 (s8.1+1)),v16,v14.1.b,v14.1.bad)) else some (.out ((s8.2.1,s8.2.2.1,s8.2.2.2))))
noncomputable def k3a(a0:zfa):Option (zfa × (List Int)):=
 (zXa a0).bind fun v1=>((bif v1.1.bad then some true else (R_In v1.2 0 ((v1.1.b.length:Int))).bind fun v5=>some ((!v5))):Option Bool).bind fun (j3:Bool)=>(bif j3 then some (((zfa.mk ([]) true),[])) else (iter (kQa v1) ((0,([]:List Int),v1.1.b,v1.1.bad))).bind fun b9=>some (((zfa.mk b9.2.1 b9.2.2),b9.1)))
noncomputable def jaa(a0:List UInt8):Option (zha × Int):=
 (k9a ((zfa.mk a0 false))).bind fun v1=>(zXa v1.1).bind fun v3=>((bif v3.1.bad then some true else (Zua v1.2).bind fun v7=>some ((v3.2 !=(w64 v7)))):Option Bool).bind fun (j5:Bool)=>(bif j5 then some (((zha.mk 0 0 ((kca.mk ((zGa.mk (([]:Str)) ([]) (([]:Str)))) ((zxa.mk ([]) ([]))))) ((zva.mk 0 (([]:Str)) ([]))) ([])),0)) else (zXa ((zfa.mk v1.2 false))).bind fun v10=>(zXa v10.1).bind fun v12=>((bif (v10.2==1) then (w7a v12.1).bind fun v16=>some (((w64 ((a0.length:Int) - (v3.1.b.length:Int))),(zha.mk v10.2 v12.2 v16.2 ((zva.mk 0 (([]:Str)) ([]))) ([])),v16.1.b,v16.1.bad)) else (zXa v12.1).bind fun v18=>(k9a v18.1).bind fun v20=>(k3a v20.1).bind fun v22=>(k3a v22.1).bind fun v24=>some (((w64 ((a0.length:Int) - (v3.1.b.length:Int))),(zha.mk v10.2 v12.2 ((kca.mk ((zGa.mk (([]:Str)) ([]) (([]:Str)))) ((zxa.mk ([]) ([]))))) ((zva.mk v18.2 v20.2 v22.2)) v24.2),v24.1.b,v24.1.bad))):Option (Int × zha × (List UInt8) × Bool)).bind fun (j14:Int × zha × (List UInt8) × Bool)=>((bif j14.2.2.2 then some true else (bif decide (0 < (j14.2.2.1.length:Int)) then some true else (wha j14.2.1).bind fun v29=>some ((v29.Code !=0)))):Option Bool).bind fun (j26:Bool)=>(bif j26 then some (((zha.mk 0 0 ((kca.mk ((zGa.mk (([]:Str)) ([]) (([]:Str)))) ((zxa.mk ([]) ([]))))) ((zva.mk 0 (([]:Str)) ([]))) ([])),0)) else some ((j14.2.1,j14.1))))
noncomputable def k7a(a0:List UInt8)(s1:Int × (List zha)):Option (Step (Int × (List zha)) (Int × (List zha))):=
 (bif decide ((s1.2.length:Int) < 100) then (cut a0 s1.1 ((a0.length:Int))).bind fun v5=>(jaa v5).bind fun v7=>(bif (v7.2==0) then some (.out ((s1.1,s1.2))) else (app 733007751850 s1.2 (([v7.1]:List zha))).bind fun v10=>some (.cont ((w64 (s1.1+v7.2)),v10))) else some (.out ((s1.1,s1.2))))
noncomputable def yua(a0:List UInt8):Option ((List zha) × Int):=
 (iter (k7a a0) ((0,([]:List zha)))).bind fun b2=>some ((b2.2,b2.1))
noncomputable def wRa(a0:zha)(a1:zha):Option Bool:=
 ((bif (a0.Kind==a1.Kind) then (bif (a0.Now==a1.Now) then (jWa a0.Mail a1.Mail).bind fun v4=>(bif v4 then (bif (a0.Attempt.Entry==a1.Attempt.Entry) then (bif (a0.Attempt.Domain==a1.Attempt.Domain) then (Jda a0.Attempt.To a1.Attempt.To).bind fun v9=>(bif v9 then (Jda a0.Results a1.Results).bind fun v12=>some v12 else some false) else some false) else some false) else some false) else some false) else some false):Option Bool).bind fun (j1:Bool)=>some j1
noncomputable def v4a(a0:List zha)(a1:List zha)(s2:Int):Option (Step Int (Unit ⊕ Bool)):=
 (bif decide (s2 < (a0.length:Int)) then (idx a0 s2).bind fun v8=>(idx a1 s2).bind fun v10=>(wRa v8 v10).bind fun v12=>(bif (!v12) then some (.out (.inr false)) else some (.cont (w64 (s2+1)))) else some (.out (.inl (()))))
noncomputable def wia(a0:List zha)(a1:List zha):Option Bool:=
 (bif ((a0.length:Int) !=(a1.length:Int)) then some false else (iter (v4a a0 a1) 0).bind (Sum.elim (fun b3=>some true) (fun b4=>some b4)))
noncomputable def qfa(a0:List UInt8):Option Bool:=
 (w6a a0).bind fun v1=>(Z7a).bind fun v3=>(bif (!v3) then some false else (bif decide (200000 < (a0.length:Int)) then ((R_At 1 ((-1))).bind fun v8=>(bif (qwa [(v1.2.2.Code==v8.Code),(v1.2.2.Index==v8.Index)]) then (bif ((v1.1.length:Int)==0) then some ((v1.2.1==0)) else some false) else some false):Option Bool).bind fun (j7:Bool)=>some j7 else (yua a0).bind fun v12=>((bif (v1.2.2.Code==0) then (bif (v1.2.1==v12.2) then (wia v1.1 v12.1).bind fun v17=>some v17 else some false) else some false):Option Bool).bind fun (j14:Bool)=>some j14))
section
theorem z5b(a b:Nat)(h:a+b<=9223372036854775807):w64 ((a:Int)+(b:Int))=((a+b:Nat):Int):=by
 rw[q7a (by omega) (by omega)];simp
theorem w64_ns(a b:Nat)(h:b<=a)(ha:a<=9223372036854775807):w64 ((a:Int) - (b:Int))=((a - b:Nat):Int):=by
 rw[q7a (by omega) (by omega)];omega
theorem YBa(a:Nat)(h:a<=9223372036854775807):w64 (a:Int)=(a:Int):=q7a (by omega) (by omega)
theorem jna(c:UInt8)(k:Nat)(hk:OfNat.ofNat k < 256):((c.toNat:Int)==no_index (OfNat.ofNat k:Int))=(c==OfNat.ofNat k):=by
 have e:(OfNat.ofNat k:Int)=((OfNat.ofNat k:Nat):Int):=rfl;have h2:(OfNat.ofNat k:UInt8).toNat=(OfNat.ofNat k:Nat):=by
  show (UInt8.ofNat k).toNat=k;rw[UInt8.toNat_ofNat'];exact Nat.mod_eq_of_lt hk
 rw[Bool.eq_iff_iff,beq_iff_eq,beq_iff_eq,<-UInt8.toNat_inj,h2,e];omega
theorem WVa(c:UInt8)(k:Nat)(hk:OfNat.ofNat k < 256):((c.toNat:Int) !=no_index (OfNat.ofNat k:Int))=(c !=OfNat.ofNat k):=by
 unfold bne;rw[jna c k hk]
section
variable {α:Type}
theorem Vwa(l:List α)(i:Nat):idx l (i:Int)=l[i]? :=by unfold idx;rw[if_pos (by omega)];simp
theorem Jea{l:List α}{i:Nat}(h:i < l.length):idx l (i:Int)=some l[i]:=by rw[Vwa];exact List.getElem?_eq_getElem h
theorem cut_nn{l:List α}{a b:Nat}(h1:a<=b)(h2:b<=l.length):cut l (a:Int) (b:Int)=some ((l.drop a).take (b - a)):=by
 unfold cut;rw[if_pos (by omega)];simp
theorem ZBa{l:List α}{a:Nat}(h1:a<=l.length):cut l (a:Int) (l.length:Int)=some (l.drop a):=by
 rw[cut_nn h1 (Nat.le_refl _)];rw[List.take_of_length_le (by simp)]
theorem KXa{l:List α}{b:Nat}(h2:b<=l.length):cut l 0 (b:Int)=some (l.take b):=by
 have:=cut_nn (l:=l) (a:=0) (b:=b) (by omega) h2;simpa using this
theorem qva{lim:Nat}{l xs:List α}(h:l.length+xs.length<=lim):app lim l xs=some (l++xs):=by unfold app;rw[if_pos h]
theorem cat_ok{a b:Str}(h:a.length+b.length<=9223372036854775807):cat a b=some (a++b):=by unfold cat;rw[if_pos h]
end
section
variable {A R:Type} {body:A->Option (Step A R)}
theorem J0a(Inv:A->Prop)(m:A->Nat)(Post:A->R->Prop)
 (h:∀s,Inv s->(∃r,body s=some (.out r)/\Post s r)∨∃s',body s=some (.cont s')/\Inv s' /\m s' < m s/\∀r,Post s' r->Post s r):
 ∀s,Inv s->∃r,iter body s=some r/\Post s r:=by
 intro s;induction hn:m s using Nat.strongRecOn generalizing s with
 | _ n ih=>
  intro hi;rcases h s hi with ⟨r,h1,h2⟩ | ⟨s',h1,h2,h3,h4⟩
  .exact ⟨r,zEa h1,h2⟩
  obtain ⟨r,h5,h6⟩:=ih (m s') (by omega) s' rfl h2;exact ⟨r,(zTa h1).trans h5,h4 r h6⟩
theorem QPa{α S:Type}(l:List α)(enc:Nat->S->A)(spec:Nat->List α->S->R)
 (h0:∀s,body (enc l.length s)=some (.out (spec l.length [] s)))
 (h1:∀p x r s,l=p++x::r->(body (enc p.length s)=some (.out (spec p.length (x::r) s)))∨∃s',body (enc p.length s)=some (.cont (enc (p.length+1) s'))/\spec p.length (x::r) s=spec (p.length+1) r s'):
 ∀{s0:A} (s:S) (_:s0=enc 0 s),iter body s0=some (spec 0 l s):=by
 have key:∀r p s,l=p++r->iter body (enc p.length s)=some (spec p.length r s):=by
  intro r;induction r with
  | nil=>
   intro p s h;have:p=l:=by simp[h]
   subst this;exact zEa (h0 s)
  | cons x r ih=>
   intro p s h;rcases h1 p x r s h with hb | ⟨s',hb,hs⟩
   .exact zEa hb
   rw[zTa hb,hs];have:=ih (p++ [x]) s' (by simp[h]);simpa using this
 rintro _ s rfl;exact key l [] s rfl
theorem Vxa{α S:Type}(l:List α)(enc:Nat->S->A)(spec:Nat->List α->S->R)(Inv:Nat->List α->S->Prop)
 (h0:∀s,Inv l.length [] s->body (enc l.length s)=some (.out (spec l.length [] s)))
 (h1:∀p x r s,l=p++x::r->Inv p.length (x::r) s->(body (enc p.length s)=some (.out (spec p.length (x::r) s)))∨∃s',body (enc p.length s)=some (.cont (enc (p.length+1) s'))/\spec p.length (x::r) s=spec (p.length+1) r s' /\Inv (p.length+1) r s'):
 ∀{s0:A} (s:S) (_:s0=enc 0 s) (_:Inv 0 l s),iter body s0=some (spec 0 l s):=by
 have key:∀r p s,l=p++r->Inv p.length r s->iter body (enc p.length s)=some (spec p.length r s):=by
  intro r;induction r with
  | nil=>
   intro p s h hi;have:p=l:=by simp[h]
   subst this;exact zEa (h0 s hi)
  | cons x r ih=>
   intro p s h hi;rcases h1 p x r s h hi with hb | ⟨s',hb,hs,hi'⟩
   .exact zEa hb
   rw[zTa hb,hs];have:=ih (p++ [x]) s' (by simp[h]) (by simpa using hi');simpa using this
 rintro _ s rfl hi;exact key l [] s rfl hi
end
end
section
section
variable {α R O A S:Type}
def kba(q:Nat->α->Option R):Nat->List α->Option R
 | _,[]=>none
 | i,x::r=>match q i x with | some y=>some y | none=>kba q (i+1) r
theorem z0a(l:List α)(q:Nat->α->Option R)(oN:O)(oS:R->O){body:Int->Option (Step Int O)}(hl:body (l.length:Int)=some (.out oN))
 (hs:∀(i:Nat) x,l[i]? =some x->body (i:Int)=some ((q i x).elim (.cont ((i+1:Nat):Int)) fun r=>.out (oS r))):
 iter body 0=some ((kba q 0 l).elim oN oS):=by
 have key:∀r p,l=p++r->iter body (p.length:Int)=some ((kba q p.length r).elim oN oS):=by
  intro r;induction r with
  | nil=>
   intro p h;have:p=l:=by simp[h]
   subst this;exact zEa hl
  | cons x r ih=>
   intro p h;have hx:=hs p.length x (by simp[h]);unfold kba;cases hq:q p.length x with
   | some y=>rw[hq]at hx;exact zEa hx
   | none=>
    rw[hq]at hx;rw[zTa hx];have:=ih (p++ [x]) (by simp[h]);simpa using this
 exact key l [] rfl
theorem vxb(l:List α)(enc:Int->S->A)(f:Nat->S->α->S)(out:S->O)(Inv:Nat->S->Prop){body:A->Option (Step A O)}
 (hl:∀s,Inv l.length s->body (enc l.length s)=some (.out (out s)))
 (hs:∀(i:Nat) x s,l[i]? =some x->Inv i s->body (enc i s)=some (.cont (enc ((i+1:Nat):Int) (f i s x)))/\Inv (i+1) (f i s x)) (s:S) (h0:Inv 0 s):
 ∃t,iter body (enc 0 s)=some (out t)/\Inv l.length t/\t=(l.zipIdx.foldl (fun s p=>f p.2 s p.1) s):=by
 have key:∀r p s,l=p++r->Inv p.length s->∃t,iter body (enc (p.length:Int) s)=some (out t)/\Inv l.length t/\t=((r.zipIdx p.length).foldl (fun s p=>f p.2 s p.1) s):=by
  intro r;induction r with
  | nil=>
   intro p s h hi;have:p=l:=by simp[h]
   subst this;exact ⟨s,zEa (hl s hi),hi,rfl⟩
  | cons x r ih=>
   intro p s h hi;obtain ⟨h1,h2⟩:=hs p.length x s (by simp[h]) hi;rw[zTa h1];obtain ⟨t,h3,h4,h5⟩:=ih (p++ [x]) (f p.length s x) (by simp[h]) (by simpa using h2);refine ⟨t,by simpa using h3,h4,?_⟩;rw[h5];simp
 exact key l [] s rfl h0
theorem z6b(f:S->α->S)(l:List α):∀(n:Nat) (s:S),(l.zipIdx n).foldl (fun s p=>f s p.1) s=l.foldl f s:=by
 induction l with
 | nil=>intro n s;rfl
 | cons x r ih=>intro n s;simp[ih]
theorem Z8a(l:List α)(enc:Int->S->A)(f:S->α->S)(out:S->O)(Inv:Nat->S->Prop){body:A->Option (Step A O)}
 (hl:∀s,Inv l.length s->body (enc l.length s)=some (.out (out s)))
 (hs:∀(i:Nat) x s,l[i]? =some x->Inv i s->body (enc i s)=some (.cont (enc ((i+1:Nat):Int) (f s x)))/\Inv (i+1) (f s x)) (s:S) (h0:Inv 0 s):
 iter body (enc 0 s)=some (out (l.foldl f s))/\Inv l.length (l.foldl f s):=by
 obtain ⟨t,h1,h2,h3⟩:=vxb l enc (fun _=>f) out Inv hl hs s h0;have:t=l.foldl f s:=by rw[h3];exact z6b f l 0 s
 subst this;exact ⟨h1,h2⟩
theorem yQa(c:α->Bool)(r:R)(l:List α)(n:Nat):kba (fun _ x=>if c x then some r else none) n l=if l.any c then some r else none:=by
 induction l generalizing n with
 | nil=>rfl
 | cons x l ih=>unfold kba;cases h:c x <;> simp[h,ih]
theorem vka{q:Nat->α->Option R}{l:List α}{n:Nat}:kba q n l=none↔∀(i:Nat) x,l[i]? =some x->q (n+i) x=none:=by
 induction l generalizing n with
 | nil=>simp[kba]
 | cons x l ih=>
  unfold kba;cases h:q n x with
  | some y=>
   simp only[reduceCtorEq,false_iff];intro hh;have:=hh 0 x rfl;rw[Nat.add_zero,h]at this;cases this
  | none=>
   rw[ih];constructor
   .intro hh i y hy;cases i with
    | zero=>simp at hy;subst hy;exact h
    | succ i=>rw[show n+(i+1)=n+1+i by omega];exact hh i y (by simpa using hy)
   intro hh i y hy;rw[show n+1+i=n+(i+1) by omega];exact hh (i+1) y (by simpa using hy)
theorem Zva{q:Nat->α->Option R}{l:List α}{n:Nat}{r:R}(h:kba q n l=some r):∃(i:Nat) (x:α),l[i]? =some x/\q (n+i) x=some r:=by
 induction l generalizing n with
 | nil=>cases h
 | cons x l ih=>
  unfold kba at h;cases hq:q n x with
  | some y=>rw[hq]at h;cases h;exact ⟨0,x,rfl,hq⟩
  | none=>
   rw[hq]at h;obtain ⟨i,y,h1,h2⟩:=ih h;exact ⟨i+1,y,by simpa using h1,by rw[show n+(i+1)=n+1+i by omega];exact h2⟩
theorem zYa{l:List α}{i:Nat}{x:α}(h:l[i]? =some x):i < l.length:=(List.getElem?_eq_some_iff.1 h).1
theorem kfa{l:List α}{i:Nat}{x:α}(h:l[i]? =some x):decide ((i:Int) < (l.length:Int))=true:=by have:=zYa h;simp;omega
theorem zQa(l:List α):decide ((l.length:Int) < (l.length:Int))=false:=by simp
theorem zwa{l:List α}{i:Nat}{x:α}(h:l[i]? =some x):idx l (i:Int)=some x:=by rw[Vwa];exact h
end
end
section
theorem wSb{α:Type}(c:α->Bool)(l:List α):∀n:Nat,decide ((0:Int)<=(kba (fun i x=>if c x then some ((i:Nat):Int) else none) n l).getD (-1))=l.any c:=by
 induction l with
 | nil=>intro n;rfl
 | cons x l ih=>
  intro n;unfold kba;cases hc:c x with
  | true=>simp[hc]
  | false=>simp only[Bool.false_eq_true,if_false,List.any_cons,hc,Bool.false_or];exact ih (n+1)
theorem QQa(o:Option Int):Sum.elim (fun _=>some (-1)) (fun b=>some b) (o.elim (Sum.inl ()) Sum.inr:Unit ⊕ Int)=some (o.getD (-1)):=by cases o <;> rfl
theorem sc(i:Nat)(h:i < 9223372036854775807):w64 ((i:Int)+1)=((i+1:Nat):Int):=by rw[show ((i:Int)+1)=((i+1:Nat):Int) by omega,YBa _ (by omega)]
theorem bkL_len{T:Type}{bk:T->Nat}(hb:∀x,1<=bk x)(l:List T):l.length+1<=bkL bk l:=by
 induction l with
 | nil=>simp[bkL]
 | cons y l ih=>unfold bkL;have:=hb y;simp;omega
section
variable {α:Type}
end
theorem vyb{V:Type}(m:List (Str × V))(k:Str)(v:V)(x:Str):mget (mput m k v) x=if k==x then some v else mget m x:=by
 induction m with
 | nil=>rfl
 | cons p m ih=>
  obtain ⟨k',v'⟩:=p;unfold mput;by_cases h:k' =k
  .subst h;simp only[beq_self_eq_true,if_true,mget];cases k' ==x <;> simp
  have h1:(k' ==k)=false:=by simpa using h
  rw[h1];simp only[Bool.false_eq_true,if_false,mget];rw[ih];by_cases h2:k' =x
  .subst h2;have:(k==k')=false:=by simpa using fun h' =>h h'.symm
   simp[this]
  have:(k' ==x)=false:=by simpa using h2
  rw[this];simp
section
variable {α A S O:Type}
end
end
end Go.Proofs.YtdblnmhmmfahkaaGreat
