/- Part 3 of the proof of the law DigestReadMatchesSpec: what it needs. -/
import Derived.Test.YthbbeodmpnmopaaGreatDoorKDigestReadMatchesSpec2
import Derived.Laws.MakeOwn
import Derived.Test.YthbbeodmpnmopaaGreatDoorProg
import Derived.Lib.IndexMore
import Derived.Lib.IndexAny
import Derived.Laws.RangeAny
import Derived.Lib.Atoi
import Derived.Lib.AtoiAll
import Derived.Lib.Join
import Derived.Lib.Repeat
import Derived.Lib.Split
import Derived.Lib.FieldsP
import Derived.Lib.Strings
import Derived.Lib.ItoaMem
import Derived.Shelf.Strings.SlTrimAscii
import Derived.Lib.ValidU
import Derived.Shelf.Unicode.DecodeSlow
set_option linter.unusedVariables false
set_option linter.unusedSimpArgs false
noncomputable section
set_option maxRecDepth 100000
set_option maxHeartbeats 40000000
namespace Go.Proofs.YthbbeodmpnmopaaGreatDoor
open Go.RowKit Go.Proofs.Tryz
section
theorem Sto.get_mem{σ:Sto}{o:Nat}{ob:AO}(h:σ.get o=some ob):(o,ob)∈σ:=by
 induction σ with
 | nil=>simp[Sto.get]at h
 | cons x s ih=>
  obtain ⟨k,a⟩:=x;rw[Sto.get_cons]at h
  grind
theorem Sto.get_append(s1 s2:Sto)(o:Nat):Sto.get (s1++s2) o=(Sto.get s1 o).or (Sto.get s2 o):=by
 induction s1 with
 | nil=>simp[Sto.get]
 | cons x s ih=>
  obtain ⟨k,a⟩:=x;rw[List.cons_append,Sto.get_cons,Sto.get_cons,ih]
  grind
theorem wbb{l:List Nat}{a:Nat}(h:l.contains a=true):a∈l:=by simp_all
def AV.okS(rows:List Nat):AV->Bool
 | .pv _=>true
 | .hs r _=>rows.contains r
 | _=>false
def AO.okS(rows:List Nat):AO->Bool
 | .cells cs=>cs.all (AV.okS rows)
 | .row _ _ _ _=>true
 | .opq _ _ _=>true
 | _=>false
def Sto.okS(O:Nat)(rows:List Nat)(σ:Sto):Bool:=σ.all fun p=>(Nat.beq p.1 O || rows.contains p.1) && p.2.okS rows
theorem AV.okS_has{rows:List Nat}{c:AV}{k:Nat}(h:c.okS rows=true)(hk:c.has k=true):k∈rows:=by
 unfold AV.okS at h;split at h
 .simp[AV.has]at hk
 .have:=jAl hk
  simp_all
 grind
theorem AV.hasL_mem{k:Nat}{cs:List AV}(h:AV.hasL k cs=true):∃c∈cs,c.has k=true:=by
 induction cs with
 | nil=>simp[AV.hasL]at h
 | cons c cs ih=>
  unfold AV.hasL at h
  grind
theorem AO.okS_has{rows:List Nat}{ob:AO}{k:Nat}(h:ob.okS rows=true)(hk:ob.has k=true):k∈rows:=by
 cases ob with
 | cells cs=>
  obtain ⟨c,hc,hck⟩:=AV.hasL_mem hk;exact AV.okS_has (jAp.1 h c hc) hck
 | row=>simp[AO.has]at hk
 | opq=>simp[AO.has]at hk
 | _=>cases h
theorem Sto.okS_get{O:Nat}{rows:List Nat}{σ:Sto}(h:σ.okS O rows=true){o:Nat}{ob:AO}(ho:σ.get o=some ob):(o=O∨o∈rows)/\ob.okS rows=true:=by
 have:=jAp.1 h _ (Sto.get_mem ho)
 simp_all
structure Own (g:G) (σ:Sto):Prop where
 obj:∀o ob,σ.get o=some ob->RelO g o ob
 apart:∀o o' ob ob' b,σ.get o=some ob->σ.get o' =some ob' ->ob.own (g.loc o) b->ob'.own (g.loc o') b->o=o'
 low:∀o ob b,σ.get o=some ob->ob.own (g.loc o) b->¬GlB b
def SB(g:G)(σ:Sto)(b:Nat):Prop:=∃o ob,σ.get o=some ob/\ob.own (g.loc o) b
structure RunS (P:Program) (f:FuncId) (args:List AV) (σ0:Sto) (r:AV) (σ1:Sto) (O:Nat) (rows:List Nat):Prop where
 ok:∃fn c,FnOk P f fn c
 ok0:σ0.okS O rows=true
 ok1:σ1.okS O rows=true
 run:∀g vs,Wf g->Gl g->Own g σ0->wma g args vs->CallsIn (fen none) 0 P f vs g.w fun e w' =>∃g' v,g'.w=w' /\(∀k,k ∉ rows->g'.loc k=g.loc k)/\Old (SB g σ0) g g' /\Wf g' /\e=.returned v/\Rel g' r v/\
  (∀o ob,σ1.get o=some ob->RelO g' o ob)/\(∀o o' ob ob' b,σ1.get o=some ob->σ1.get o' =some ob' ->ob.own (g'.loc o) b->ob'.own (g'.loc o') b->o=o')/\
  (∀o ob b,σ1.get o=some ob->ob.own (g'.loc o) b->g.w.heap.size<=b∨SB g σ0 b)
variable {P:Program} {σ:Sto} {dst:Option Tmp} {ty:TypeId} {pos:String} {af:Array Edge} {gu:Option (Nat × Bool)} {E:Env} {fr:Fr} {K:Post}
theorem w1b{g g' :G}{o:Nat}{ob:AO}{rows:List Nat}(hk:ob.okS rows=true)(h:RelO g o ob)(hx:Ext0 g.w g.u g'.w g'.u)(hl:g'.loc o=g.loc o)(hh:∀k∈rows,g'.loc k=g.loc k)
 (hb:∀(b:Nat) (vs:Array Value) (t:TypeId) (fz:Nat × Nat),g.w.heap[b]? =some (Obj.cells vs t fz)->g'.w.heap[b]? =g.w.heap[b]?) (hu:g'.u=g.u):RelO g' o ob:=by
 cases h with
 | @cells cs b t vs h1 h2 h3 h4 h5 h6=>
  exact .cells (hl.trans h1) ((hb _ _ _ _ h2).trans h2) h3 (by simp_all) h5 fun i c hi=>(h6 i c hi).mono0 hx fun k hck=>hh k (AV.okS_has (jAp.1 hk c (jAi hi)) hck)
 | nil h1=>exact .nil (hl.trans h1)
 | @row e mu size elems b off cap vs h1 h2 h3 h3' h4 h5 h6 h7 h9=>
  exact .row (hl.trans h1) ((hb _ _ _ _ h2).trans h2) h3 h3' h4 h5 (by simp_all) (by simp_all) fun i j x c hi hj=>(h9 i j x c hi hj).mono0 hx
 | @opq t t1 n Q b vs h1 h2 h3 h4 h5=>exact .opq (hl.trans h1) ((hb _ _ _ _ h2).trans h2) h3 (by simp_all) fun w' u' hx' =>h5 w' u' (hx.trans hx')
 | _=>cases hk
def Jma(P:Program)(fn:Func)(r hc:AV)(H:Nat)(T:Array Value)(σ1:Sto):Post:=fun e fr σ=>(e=.ret∨e=.normal)/\(∃cs,ResL P fr σ fn.results.toList cs/\∀g v,Rel g (Vaa cs) v->Rel g r v)/\zTa σ ((H,.hold hc (T.getD 0 undef))::σ1)
theorem w2b{fn:Func}{r hc:AV}{H:Nat}{T:Array Value}{σ1:Sto}:Mono (Jma P fn r hc H T σ1):=fun x fr σ fr' σ' hf hs ⟨h1,⟨cs,h2,h2'⟩,h3⟩=>⟨h1,⟨cs,h2.le hf hs,h2'⟩,kKa hs h3⟩
theorem kFb{f:FuncId}{fn:Func}{c:Code}(hok:FnOk P f fn c){args:List AV}{r hc:AV}{σ0 σ1:Sto}{O H:Nat}{rows:List Nat}(hN:Nat.ble args.length fn.ntmps=true)(hr:∀k,r.has k=true->k∈rows)
 (h0:(args[0]? =some hc/\∀(g g' :G) (v:Value) (ob:AO),(∀o ob,σ0.get o=some ob->RelO g o ob)->σ1.get O=some ob->RelO g' O ob->Rel g hc v->Rel g' hc v->g'.loc O=g.loc O)∨(hc=.any/\Sto.get σ1 O=none))
 (k0:σ0.okS O rows=true) (k1:σ1.okS O rows=true) (hH:Sto.get σ0 H=none) (hH1:Sto.get σ1 H=none)
 (h:∀g0 (hg:Gl g0) (S:Nat->Prop) (sg:∀k,GlB k->¬S k) (T:Array Value),AWP ⟨P,none,g0,fn.ntmps,false,hg,S,sg⟩ c (z0a 0 args) ((H,.hold hc (T.getD 0 undef))::σ0) (Jma P fn r hc H T σ1)):RunS P f args σ0 r σ1 O rows:=by
 refine ⟨⟨fn,c,hok⟩,k0,k1,fun g vs hw hgl hown ⟨hsz,ha⟩=>?_⟩;have hN:=jAf hN;have hget0:∀o ob,Sto.get ((H,AO.hold hc (vs.getD 0 undef))::σ0) o=some ob->(o=H/\ob=.hold hc (vs.getD 0 undef))∨(o≠H/\σ0.get o=some ob):=by
  intro o ob ho;rw[Sto.get_cons]at ho;split at ho
  .simp_all
  grind
 refine callsIn_of_wp_marks hok.f hok.b trivial<|wpIn_mono ((h g hgl (SB g σ0) (fun k hk ⟨o,ob,h1,h2⟩=>hown.low o ob k h1 h2 hk) vs).go g _ ⟨fun d=>?_,by grind,⟨Dok.nil _ _,fun _=>rfl⟩,⟨?_,?_,?_,Old.refl _ g,hw⟩⟩) ?_
 .rw[q9a];simp only[jBi,if_true,jDp];cases hc:args[d]? with
  | none=>exact .any _
  | some c=>
   have hlt:d < vs.size:=by rw[hsz];exact (jAd.1 hc).1
   have:=ha d c hc;rw[jAg,jAw hlt,<-jAg]
   grind
 .intro o ob ho;rcases hget0 o ob ho with ⟨rfl,rfl⟩ | ⟨_,ho⟩
  .rcases h0 with ⟨h0,_⟩ | ⟨rfl,_⟩
   .exact .hold (ha 0 _ h0)
   exact .hold (.any _)
  exact hown.obj o ob ho
 .intro o o' ob ob' b h1 h2 h3 h4;rcases hget0 o ob h1 with ⟨rfl,rfl⟩ | ⟨_,h1⟩
  .cases h3
  rcases hget0 o' ob' h2 with ⟨rfl,rfl⟩ | ⟨_,h2⟩
  .cases h4
  exact hown.apart o o' ob ob' b h1 h2 h3 h4
 .intro o ob b h1 h2;rcases hget0 o ob h1 with ⟨rfl,rfl⟩ | ⟨_,h1⟩
  .cases h2
  exact .inr ⟨o,ob,h1,h2⟩
 rintro e a w' ⟨g',fr',σ',rfl,hst,he,⟨cs,hres,hrw⟩,hle⟩;obtain ⟨bs,hds,hnd,hbs⟩:=hst.df.ok;have hle1:∀o ob,σ1.get o=some ob->∃ob',σ'.get o=some ob' /\RelO g' o ob/\∀l,ob.own l=ob'.own l:=by
  intro o ob ho;have hne:o≠H:=by rintro rfl;rw[hH1]at ho;cases ho
  have hg:Sto.get ((H,AO.hold hc (vs.getD 0 undef))::σ1) o=some ob:=by rw[Sto.get_cons,if_neg (Ne.symm hne)];exact ho
  obtain ⟨ob',h1,h2⟩:=hle.some hg;exact ⟨ob',h1,hle.obj hst.so.obj o ob hg,fun l=>(h2 l).symm⟩
 have hO:(∃ob,σ1.get O=some ob)->g'.loc O=g.loc O:=by
  rintro ⟨ob,hob⟩;rcases h0 with ⟨h0,hloc⟩ | ⟨_,h0⟩
  case inr=>simp_all
  have hh:=hle H (.hold hc (vs.getD 0 undef)) (by rw[Sto.get_cons,if_pos rfl]);have hh:σ'.get H=some (.hold hc (vs.getD 0 undef)):=by
   rcases hh with hh | ⟨cs,_,hh⟩
   .exact hh
   cases hh
  have h1:=hst.so.obj H _ hh;obtain ⟨_,_,hro,_⟩:=hle1 O ob hob;cases h1 with
  | hold h1=>exact hloc g g' _ ob hown.obj hob hro (ha 0 _ h0) h1
 have key:∀w',Took g'.w bs w' ->∃v,(results fn a.tmps).run P w' =.ok v w' /\∃g'' v',g''.w=w' /\(∀k,k ∉ rows->g''.loc k=g.loc k)/\Old (SB g σ0) g g'' /\Wf g'' /\Ending.returned v=.returned v' /\Rel g'' r v' /\
  (∀o ob,σ1.get o=some ob->RelO g'' o ob)/\(∀o o' ob ob' b,σ1.get o=some ob->σ1.get o' =some ob' ->ob.own (g''.loc o) b->ob'.own (g''.loc o') b->o=o')/\
  (∀o ob b,σ1.get o=some ob->ob.own (g''.loc o) b->g.w.heap.size<=b∨SB g σ0 b):=by
  intro w' ht;have hcellb:∀(k:Nat) (vs:Array Value) (t:TypeId) (fz:Nat × Nat),g'.w.heap[k]? =some (Obj.cells vs t fz)->w'.heap[k]? =g'.w.heap[k]? :=by
   intro k vs t fz hk;refine ht.block k fun hx=>?_
   rw[(hbs k hx).2]at hk;cases hk
  have hx0:Ext0 g'.w g'.u w' g'.u:=⟨jBm ht.size.symm,fun _ _=>jAm _,fun k i hk hi=>by
   by_cases hkb:k∈bs
   .simp[World.cell?,(hbs k hkb).2,ht.took k hkb]
   simp only[World.cell?];rw[ht.block k hkb]⟩
  obtain ⟨v,h1,h2⟩:=Zsa (P:=P) (g:=⟨w',g'.u,g'.loc⟩) hres (fun d=>(hst.fr d).mono0 hx0 (fun _ _=>rfl)) (fun k cs' hk=>by
   cases hst.so.obj k _ hk with
   | cells q1 q2 q3 q4 q5 q6=>exact .cells q1 ((hcellb _ _ _ _ q2).trans q2) q3 q4 q5 fun i c hi=>(q6 i c hi).mono0 hx0 (fun _ _=>rfl))
  have hloc:∀o ob,σ1.get o=some ob->(if o∈rows then g'.loc o else g.loc o)=g'.loc o:=by
   intro o ob ho;rcases (Sto.okS_get k1 ho).1 with rfl | hin
   .simp_all
   simp_all
  refine ⟨v,h1,⟨w',g'.u,fun k=>if k∈rows then g'.loc k else g.loc k⟩,v,rfl,fun k hk=>if_neg hk,⟨ht.os.trans hst.so.old.os,ht.tape.trans hst.so.old.tape,ht.output.trans hst.so.old.output,⟨by rw[ht.size];exact hst.so.old.ext.size,hst.so.old.ext.pub,fun k i hk hi=>?_,fun r' hr' =>?_⟩,fun k hk hs=>?_⟩,fun k hk=>hst.so.wf k (by rw[<-ht.size];exact hk),rfl,
   Rel.mono (g:=⟨w',g'.u,g'.loc⟩) (g' :=⟨w',g'.u,fun k=>if k∈rows then g'.loc k else g.loc k⟩) (Ext.refl w' g'.u) (hrw _ _ h2) (fun k hk=>if_pos (hr k hk)),?_,?_,?_⟩
  .have hkb:k ∉ bs:=fun hx=>by grind
   simp only[World.cell?];rw[ht.block k hkb];exact hst.so.old.ext.cell k i hk hi
  .have hkb:r' ∉ bs:=fun hx=>by simp_all
   rw[ht.block r' hkb];exact hst.so.old.ext.df r' hr'
  .have hkb:k ∉ bs:=fun hx=>by grind
   rw[ht.block k hkb];exact hst.so.old.block k hk hs
  .intro o ob ho;obtain ⟨_,_,hro,_⟩:=hle1 o ob ho;exact w1b (g:=g') (g' :=⟨w',g'.u,fun k=>if k∈rows then g'.loc k else g.loc k⟩) (Sto.okS_get k1 ho).2 hro hx0 (hloc o ob ho) (fun k hk=>if_pos hk) hcellb rfl
  .intro o o' ob ob' b q1 q2 q3 q4;simp only[hloc o ob q1]at q3;simp only[hloc o' ob' q2]at q4;obtain ⟨_,p1,_,e1⟩:=hle1 o ob q1;obtain ⟨_,p2,_,e2⟩:=hle1 o' ob' q2;rw[e1]at q3;rw[e2]at q4;exact hst.so.apart o o' _ _ b p1 p2 q3 q4
  intro o ob b q1 q2;simp only[hloc o ob q1]at q2;obtain ⟨_,p1,_,e1⟩:=hle1 o ob q1;rw[e1]at q2;exact hst.so.mine o _ b p1 q2
 rcases he with rfl | rfl
 .show LeavesInM _ _ _ _ _ _ _ _ _;rw[hds];exact kZa bs g'.w hnd (fun r' hr' =>(hbs r' hr').2) key
 show LeavesInM _ _ _ _ _ _ _ _ _;rw[hds];exact kZa bs g'.w hnd (fun r' hr' =>(hbs r' hr').2) key
theorem vpb{f:FuncId}{fn:Func}{c:Code}(hok:FnOk P f fn c){args:List AV}{r hc:AV}{σ0 σ1:Sto}{O H:Nat}{rows:List Nat}(hN:Nat.ble args.length fn.ntmps=true)(hr:∀k,r.has k=true->k∈rows)(h0:(hc=.ptr O 0/\args[0]? =some (.ptr O 0))∨(hc=.any/\Sto.get σ1 O=none))
 (k0:σ0.okS O rows=true) (k1:σ1.okS O rows=true) (hH:Sto.get σ0 H=none) (hH1:Sto.get σ1 H=none)
 (h:∀g0 (hg:Gl g0) (S:Nat->Prop) (sg:∀k,GlB k->¬S k) (T:Array Value),AWP ⟨P,none,g0,fn.ntmps,false,hg,S,sg⟩ c (z0a 0 args) ((H,.hold hc (T.getD 0 undef))::σ0) (Jma P fn r hc H T σ1)):RunS P f args σ0 r σ1 O rows:=
 kFb hok hN hr (h0.imp (fun ⟨e,h⟩=>⟨e▸h,fun g g' v ob _ _ _ h1 h2=>by
  subst e;cases h1 with
  | ptr q1=>cases h2 with
   | ptr q2=>simp_all⟩) id) k0 k1 hH hH1 h
def Sto.dels(ids:List Nat):Sto->Sto
 | []=>[]
 | (k,a)::l=>bif ids.contains k then Sto.dels ids l else (k,a)::Sto.dels ids l
theorem Sto.get_dels(ids:List Nat)(σ:Sto)(o:Nat):(σ.dels ids).get o=if o∈ids then none else σ.get o:=by
 induction σ with
 | nil=>simp[Sto.dels,Sto.get]
 | cons x l ih=>
  obtain ⟨k,a⟩:=x;unfold Sto.dels;cases hc:ids.contains k with
  | true=>
   have hk:k∈ids:=by simpa using hc
   rw[cond_true,ih,Sto.get_cons]
   grind
  | false=>
   have hk:k ∉ ids:=by simpa using hc
   rw[cond_false,Sto.get_cons,Sto.get_cons,ih]
   grind
def AV.clrs(rows:List Nat)(c:AV):AV:=bif rows.any (fun r=>c.has r) then .any else c
def Fr.clrs(rows:List Nat):Fr->Fr
 | []=>[]
 | (k,a)::l=>(k,a.clrs rows)::Fr.clrs rows l
def AO.clrs(rows:List Nat):AO->AO
 | .cells cs=>.cells (cs.map (AV.clrs rows))
 | .hold c v=>.hold (c.clrs rows) v
 | o=>o
def Sto.clrs(rows:List Nat):Sto->Sto
 | []=>[]
 | (k,a)::l=>(k,a.clrs rows)::Sto.clrs rows l
theorem Fr.get_clrs(rows:List Nat)(fr:Fr)(d:Nat):(fr.clrs rows).get d=(fr.get d).clrs rows:=by
 induction fr with
 | nil=>unfold Fr.clrs Fr.get AV.clrs;simp_all
 | cons x l ih=>
  obtain ⟨k,a⟩:=x;simp only[Fr.clrs,Fr.get_cons,ih]
  grind
theorem Sto.get_clrs(rows:List Nat)(σ:Sto)(o:Nat):(σ.clrs rows).get o=(σ.get o).map (AO.clrs rows):=by
 induction σ with
 | nil=>rfl
 | cons x l ih=>
  obtain ⟨k,a⟩:=x;simp only[Sto.clrs,Sto.get_cons,ih]
  grind
theorem W9a{g g' :G}{rows:List Nat}(hx:Ext g.w g.u g'.w g'.u)(hl:∀k,k ∉ rows->g'.loc k=g.loc k){c:AV}{v:Value}(h:Rel g c v):Rel g' (c.clrs rows) v:=by
 unfold AV.clrs;cases hc:rows.any (fun r=>c.has r) with
 | true=>exact .any _
 | false=>exact h.mono hx fun k hk=>hl k fun hin=>List.any_eq_false.1 hc k hin hk
theorem AO.own_clrs(rows:List Nat)(ob:AO)(l:Loc):(ob.clrs rows).own l=ob.own l:=by cases ob <;> rfl
theorem kGb{g g' :G}{o:Nat}{ob:AO}{rows:List Nat}(hro:RelO g o ob)(hx:Ext g.w g.u g'.w g'.u)(hl:∀k,k ∉ rows->g'.loc k=g.loc k)(ho:o ∉ rows)
 (hb:∀b,ob.own (g.loc o) b->g'.w.heap[b]? =g.w.heap[b]? /\g'.u b=g.u b):RelO g' o (ob.clrs rows):=by
 cases hro with
 | @cells cs b t vs h1 h2 h3 h4 h5 h6=>
  obtain ⟨b1,b2⟩:=hb b (by rw[h1];rfl);refine .cells ((hl o ho).trans h1) (b1.trans h2) (by simp_all) (b2.trans h4) h5 fun i c hi=>?_
  simp only[jAk,jAh]at hi;obtain ⟨c',hc',rfl⟩:=hi;exact W9a hx hl (h6 i c' hc')
 | nil h1=>exact .nil ((hl o ho).trans h1)
 | @row e mu size elems b off cap vs h1 h2 h3 h3' h4 h5 h6 h7 h9=>
  obtain ⟨b1,b2⟩:=hb b (by rw[h1];rfl);exact .row ((hl o ho).trans h1) (b1.trans h2) h3 h3' h4 h5 (by omega) (by simp_all) fun i j x c hi hj=>(h9 i j x c hi hj).mono hx
 | hold h1=>exact .hold (W9a hx hl h1)
 | sus h1=>exact .sus (h1.mono hx)
 | @lp L b h1 h2=>
  obtain ⟨b1,b2⟩:=hb b (by rw[h1];rfl);exact .lp ((hl o ho).trans h1) (b1.trans h2)
 | @it s pos b h1 h2 h3=>
  obtain ⟨b1,b2⟩:=hb b (by rw[h1];rfl);exact .it ((hl o ho).trans h1) (b1.trans h2) (b2.trans h3)
 | @buf l e b cap vs h1 h2 h3 h4 h5 h6=>
  obtain ⟨b1,b2⟩:=hb b (by rw[h1];rfl);exact .buf ((hl o ho).trans h1) (b1.trans h2) h3 h4 (b2.trans h5) h6
 | @mapo ag es b clock ents h1 h2 h3 h4 h5=>
  obtain ⟨b1,b2⟩:=hb b (by rw[h1];rfl);exact .mapo ((hl o ho).trans h1) (b1.trans h2) (b2.trans h3) h4 fun i k c hi=>by
   obtain ⟨x,e1,e2,e3⟩:=h5 i k c hi;exact ⟨x,e1,e2,e3.mono hx⟩
 | @opq t t1 n Q b vs h1 h2 h3 h4 h5=>
  obtain ⟨b1,b2⟩:=hb b (by rw[h1];rfl);exact .opq ((hl o ho).trans h1) (b1.trans h2) h3 (b2.trans h4) fun w' u' hx' =>h5 w' u' (hx.to0.trans hx')
 | nrowNil h1=>exact .nrowNil ((hl o ho).trans h1)
 | nrow h1 h2 h3 h4 h5 h6 h7 h8 h9 h10 h11 h12=>exact (RelO.nrow h1 h2 h3 h4 h5 h6 h7 h8 h9 h10 h11 h12).mono hx (hl o ho) (fun _ hk=>by cases hk) hb
 | mapr h1 h2 h3 h4 h5 h6 h7=>exact (RelO.mapr h1 h2 h3 h4 h5 h6 h7).mono hx (hl o ho) (fun _ hk=>by cases hk) hb
theorem gl_lt{g:G}(h:Gl g){k:Nat}(hk:GlB k):k < g.w.heap.size:=by
 rcases hk with ⟨p,hp,rfl⟩ | hk
 .obtain ⟨t,fz,h1⟩:=h.2.1 p hp
  grind
 obtain ⟨tp,x,t,fz,h1⟩:=h.2.2 k hk
 grind
theorem Qca{f:FuncId}{k:Nat}{xs:List Operand}{ats:Array TypeId}{args:List AV}{r:AV}{σ0 σ1:Sto}{O:Nat}{rows:List Nat}(hr:RunS E.P f args σ0 r σ1 O rows)(hN:Nat.ble (k+1) E.N=true)(ha:xs.map (fun x=>(fr.ev x).weak)=args)(hle:zTa σ σ0):
 OpTo E ⟨some k,.call ⟨.value (.func f),xs.toArray,ats⟩,ty,pos,af,gu⟩ fr σ ((k,r)::fr.clrs rows) (σ1++(σ.dels (O::rows)).clrs rows):=
 ⟨fun g a K Q hst hK=>by
  obtain ⟨fn,c,hok⟩:=hr.ok;refine ⟨fun _ _=>trivial,?_⟩;rw[jAz _ _ _ (fun c=>by simp),vFa hok (first:= #[]) (cap:= #[]) rfl,jDd];refine ⟨fun h=>by simp[fen]at h,?_⟩;have hargs:wma g args (#[]++xs.toArray.map a.eval++ #[]):=by
   subst ha;refine ⟨by simp,fun i c hi=>?_⟩;simp only[jAk,jAh]at hi;obtain ⟨x,hx,rfl⟩:=hi;have:=qUa (hst.ev x);simpa[hx]using this
  have hsb:∀b,SB g σ0 b->b < g.w.heap.size/\(E.g0.w.heap.size<=b∨E.S b):=by
   rintro b ⟨o,ob,h1,h2⟩;obtain ⟨ob',h3,h4⟩:=hle.some h1;rw[<-h4]at h2;exact ⟨(hst.so.obj o ob' h3).block_lt h2,hst.so.mine o ob' b h3 h2⟩
  have hown:Own g σ0:=⟨hle.obj hst.so.obj,fun o o' ob ob' b h1 h2 h3 h4=>by
   obtain ⟨_,p1,e1⟩:=hle.some h1;obtain ⟨_,p2,e2⟩:=hle.some h2;rw[<-e1]at h3;rw[<-e2]at h4;exact hst.so.apart o o' _ _ b p1 p2 h3 h4,fun o ob b h1 h2 hb=>by
   rcases (hsb b ⟨o,ob,h1,h2⟩).2 with h3 | h3
   .have:=gl_lt E.gl hb;omega
   exact E.sg b hb h3⟩
  refine (vEa (hr.run g _ hst.so.wf (E.glOf hst.so) hown hargs)).mono ?_;rintro e w' ⟨g',v,rfl,hl,ho,hw,rfl,hv,hobj,hap,hmine⟩;have hget:∀o ob,Sto.get (σ1++(σ.dels (O::rows)).clrs rows) o=some ob->σ1.get o=some ob∨(o ∉ O::rows/\∃ob1,σ.get o=some ob1/\ob=ob1.clrs rows):=by
   intro o ob hg;rw[Sto.get_append]at hg;cases h1:σ1.get o with
   | some ob1=>simp_all
   | none=>
    rw[h1,Option.none_or,Sto.get_clrs,Sto.get_dels]at hg;split at hg
    .cases hg
    rename_i hno;cases h2:σ.get o with
    | none=>simp_all
    | some ob1=>simp_all
  have hout:∀o ob1 b,o ∉ O::rows->σ.get o=some ob1->ob1.own (g.loc o) b->¬SB g σ0 b:=by
   rintro o ob1 b hno ho1 hb ⟨o2,ob2,h2,hb2⟩;obtain ⟨ob3,h3,e3⟩:=hle.some h2;rw[<-e3]at hb2;have:=hst.so.apart o o2 _ _ b ho1 h3 hb hb2;subst this;rcases (Sto.okS_get hr.ok0 h2).1 with rfl | hin
   .simp_all
   simp_all
  have hnr:∀o,o ∉ O::rows->o ∉ rows:=fun o h hin=>h (List.mem_cons_of_mem _ hin)
  have hst' :St E g' a (fr.clrs rows) (σ1++(σ.dels (O::rows)).clrs rows):=by
   refine ⟨fun d=>by rw[Fr.get_clrs];exact W9a ho.ext hl (hst.fr d),hst.n,hst.df.mono ho.ext,⟨?_,?_,?_,?_,hw⟩⟩
   .intro o ob hg;rcases hget o ob hg with h1 | ⟨hno,ob1,ho1,rfl⟩
    .simp_all
    have hro:=hst.so.obj o ob1 ho1;exact kGb hro ho.ext hl (hnr o hno) fun b hb=>ho.block b (hro.block_lt hb) (hout o ob1 b hno ho1 hb)
   .intro o o' ob ob' b h1 h2 h3 h4;rcases hget o ob h1 with h1 | ⟨hno,ob1,ho1,rfl⟩ <;> rcases hget o' ob' h2 with h2 | ⟨hno',ob1',ho1',rfl⟩
    .grind
    .exfalso;rw[AO.own_clrs,hl o' (hnr o' hno')]at h4;have hlt:=(hst.so.obj o' ob1' ho1').block_lt h4
     grind
    .exfalso;rw[AO.own_clrs,hl o (hnr o hno)]at h3;have hlt:=(hst.so.obj o ob1 ho1).block_lt h3
     grind
    rw[AO.own_clrs,hl o (hnr o hno)]at h3;rw[AO.own_clrs,hl o' (hnr o' hno')]at h4;exact hst.so.apart o o' ob1 ob1' b ho1 ho1' h3 h4
   .intro o ob b h1 h2;rcases hget o ob h1 with h1 | ⟨hno,ob1,ho1,rfl⟩
    .rcases hmine o ob b h1 h2 with h5 | h5
     .exact .inl (jAt hst.so.old.ext.size h5)
     simp_all
    rw[AO.own_clrs,hl o (hnr o hno)]at h2;exact hst.so.mine o ob1 b ho1 h2
   refine hst.so.old.trans (ho.mono fun b _ hb=>?_)
   grind
  exact hK g' _ (hst'.put (jAf hN) hv)⟩
section
variable {α:Type} {F:α->List PV} {l:List α} {size:Nat} {e:TypeId}
end
def AV.ren1(r r' :Nat):AV->AV
 | .hs x off=>bif Nat.beq x r then .hs r' off else .hs x off
 | c=>bif c.has r then .any else c
def AV.ren(r r' :Nat):AV->AV
 | .agg l=>.agg (l.map (AV.ren1 r r'))
 | c=>c.ren1 r r'
def Fr.ren(r r' :Nat):Fr->Fr
 | []=>[]
 | (k,c)::l=>(k,c.ren r r')::Fr.ren r r' l
theorem Fr.get_ren(r r' :Nat)(fr:Fr)(d:Nat):(fr.ren r r').get d=(fr.get d).ren r r' :=by
 induction fr with
 | nil=>rfl
 | cons x l ih=>
  obtain ⟨k,c⟩:=x;simp only[Fr.ren,Fr.get_cons,ih]
  grind
def AO.ren(r r' :Nat):AO->AO
 | .cells cs=>.cells (cs.map (AV.ren r r'))
 | .hold c v=>.hold (c.ren r r') v
 | o=>o
def Sto.ren(r r' :Nat):Sto->Sto
 | []=>[]
 | (k,a)::l=>(k,a.ren r r')::Sto.ren r r' l
theorem Sto.get_ren(r r' :Nat)(σ:Sto)(o:Nat):(σ.ren r r').get o=(σ.get o).map (AO.ren r r'):=by
 induction σ with
 | nil=>rfl
 | cons x l ih=>
  obtain ⟨k,a⟩:=x;simp only[Sto.ren,Sto.get_cons,ih]
  grind
theorem AO.own_ren(r r' :Nat)(ob:AO)(l:Loc):(ob.ren r r').own l=ob.own l:=by cases ob <;> rfl
section
variable {g g' :G} {r r' :Nat}
theorem rel_ren0(hw:g'.w=g.w)(hu:g'.u=g.u)(hk:∀k,k≠r' ->g'.loc k=g.loc k){c:AV}{v:Value}(h:Rel g c v)(hn:c.has r' =false):Rel g' (bif c.has r then .any else c) v:=by
 have hx:Ext g.w g.u g'.w g'.u:=by rw[hw,hu];exact Ext.refl _ _
 cases hc:c.has r with
 | true=>exact .any _
 | false=>exact h.mono hx fun k hk' =>hk k (by grind)
theorem wcb(hw:g'.w=g.w)(hu:g'.u=g.u)(hl:g'.loc r' =g.loc r)(hk:∀k,k≠r' ->g'.loc k=g.loc k){c:AV}{v:Value}(h:Rel g c v)(hn:c.has r' =false):Rel g' (c.ren1 r r') v:=by
 cases c
 case hs x off=>
  have hxr:x≠r' :=by rintro rfl;simp[AV.has]at hn
  cases hb:Nat.beq x r with
  | true=>
   rw[show AV.ren1 r r' (.hs x off)=.hs r' off by show (bif Nat.beq x r then AV.hs r' off else AV.hs x off)=_;simp_all];have:x=r:=jAl hb;subst this;cases h with
   | hsNil a h1=>exact .hsNil a (hl.trans h1)
   | hs h1 h2=>exact .hs (hl.trans h1) h2
  | false=>
   rw[show AV.ren1 r r' (.hs x off)=.hs x off by show (bif Nat.beq x r then AV.hs r' off else AV.hs x off)=_;simp_all];cases h with
   | hsNil a h1=>exact .hsNil a ((hk x hxr).trans h1)
   | hs h1 h2=>exact .hs ((hk x hxr).trans h1) h2
 all_goals exact rel_ren0 (r:=r) hw hu hk h hn
theorem vqb(hw:g'.w=g.w)(hu:g'.u=g.u)(hl:g'.loc r' =g.loc r)(hk:∀k,k≠r' ->g'.loc k=g.loc k){c:AV}{v:Value}(h:Rel g c v)(hn:c.has r' =false):Rel g' (c.ren r r') v:=by
 cases c
 case agg cs=>
  cases h with
  | agg hl2 hc2 h=>
   refine .agg (by grind) hc2 fun i c hi=>?_
   simp only[jAk,jAh]at hi;obtain ⟨c',h1,rfl⟩:=hi;refine wcb hw hu hl hk (h i c' h1) ?_;cases hh:c'.has r' with
   | false=>rfl
   | true=>rw[show (AV.agg cs).has r' =AV.hasL r' cs from rfl,AV.hasL_of h1 hh]at hn;cases hn
 all_goals exact wcb hw hu hl hk h hn
theorem relO_ren(hw:g'.w=g.w)(hu:g'.u=g.u)(hl:g'.loc r' =g.loc r)(hk:∀k,k≠r' ->g'.loc k=g.loc k){o:Nat}{ob:AO}(h:RelO g o ob)(ho:o≠r')(hn:ob.has r' =false):RelO g' o (ob.ren r r'):=by
 have hx:Ext g.w g.u g'.w g'.u:=by rw[hw,hu];exact Ext.refl _ _
 have hh:∀k,ob.has k=true->g'.loc k=g.loc k:=fun k hk' =>hk k (by grind)
 cases ob
 case cells cs=>
  cases h with
  | @cells _ b t vs h1 h2 h3 h4 h5 h6=>
   refine .cells ((hk o ho).trans h1) (by rw[hw];exact h2) (by simp_all) (by simp_all) h5 fun i c hi=>?_
   simp only[jAk,jAh]at hi;obtain ⟨c',hc',rfl⟩:=hi;refine vqb hw hu hl hk (h6 i c' hc') ?_;cases hh' :c'.has r' with
   | false=>rfl
   | true=>rw[show (AO.cells cs).has r' =AV.hasL r' cs from rfl,AV.hasL_of hc' hh']at hn;cases hn
 case hold c v=>cases h with
  | hold h1=>exact .hold (vqb hw hu hl hk h1 hn)
 all_goals exact h.mono hx (hk o ho) hh fun b _=>by simp_all
end
theorem St.ren{g:G}{a:Act}{r r' :Nat}{ob:AO}(h:St E g a fr σ)(hr:σ.get r=some ob)(hne:Nat.beq r r' =false)(hf:fr.has r' =false)(hs:σ.has r' =false)(hg:σ.get r' =none)(hob:ob.okS []=true):
 St E ⟨g.w,g.u,fun k=>if k=r' then g.loc r else g.loc k⟩ a (fr.ren r r') ((r',ob)::(σ.del r).ren r r'):=by
 have hne:r≠r' :=by rintro rfl;simp at hne
 have hk:∀k,k≠r' ->(⟨g.w,g.u,fun k=>if k=r' then g.loc r else g.loc k⟩:G).loc k=g.loc k:=fun k hk=>if_neg hk
 have hl:(⟨g.w,g.u,fun k=>if k=r' then g.loc r else g.loc k⟩:G).loc r' =g.loc r:=if_pos rfl;have hhas:∀k,ob.has k=false:=fun k=>by
  cases hh:ob.has k with
  | false=>rfl
  | true=>exact absurd (AO.okS_has hob hh) (by simp)
 have hget:∀o ob1,Sto.get ((r',ob)::(σ.del r).ren r r') o=some ob1->(o=r' /\ob1=ob)∨(o≠r' /\o≠r/\∃ob2,σ.get o=some ob2/\ob1=ob2.ren r r'):=by
  intro o ob1 ho;rw[Sto.get_cons]at ho;split at ho
  .simp_all
  rename_i hk;rw[Sto.get_ren,Sto.get_del]at ho;split at ho
  .cases ho
  rename_i hor;cases h2:σ.get o with
  | none=>simp_all
  | some ob2=>grind
 refine ⟨fun d=>?_,h.n,h.df,⟨?_,?_,?_,⟨h.so.old.os,h.so.old.tape,h.so.old.output,h.so.old.ext,h.so.old.block⟩,h.so.wf⟩⟩
 .rw[Fr.get_ren];refine vqb (g:=g) (g' :=⟨g.w,g.u,fun k=>if k=r' then g.loc r else g.loc k⟩) rfl rfl hl hk (h.fr d) ?_;cases hh:(fr.get d).has r' with
  | false=>rfl
  | true=>rw[Fr.has_get hh]at hf;cases hf
 .intro o ob1 ho;rcases hget o ob1 ho with ⟨rfl,rfl⟩ | ⟨h1,h2,ob2,h3,rfl⟩
  .have hro:=h.so.obj r ob1 hr;cases ob1 with
   | cells cs=>
    cases hro with
    | @cells _ b t vs q1 q2 q3 q4 q5 q6=>
     exact .cells (hl.trans q1) q2 q3 q4 q5 fun i c hi=>Rel.mono (g:=g) (g' :=⟨g.w,g.u,fun k=>if k=o then g.loc r else g.loc k⟩) (Ext.refl _ _) (q6 i c hi) fun k hck=>by
      have:=hhas k;rw[show (AO.cells cs).has k=AV.hasL k cs from rfl,AV.hasL_of hi hck]at this
      grind
   | row e mu size elems=>
    cases hro with
    | nil q1=>exact .nil (hl.trans q1)
    | row q1 q2 q3 q4 q5 q6 q7 q8 q9=>exact .row (hl.trans q1) q2 q3 q4 q5 q6 q7 q8 q9
   | opq t n Q=>
    cases hro with
    | opq q1 q2 q3 q4 q5=>exact .opq (hl.trans q1) q2 q3 q4 q5
   | _=>cases hob
  refine relO_ren (g:=g) (g' :=⟨g.w,g.u,fun k=>if k=r' then g.loc r else g.loc k⟩) rfl rfl hl hk (h.so.obj o ob2 h3) h1 ?_;cases hh:ob2.has r' with
  | false=>rfl
  | true=>rw[Sto.has_get h3 hh]at hs;cases hs
 .intro o o' ob1 ob2 b q1 q2 q3 q4;rcases hget o ob1 q1 with ⟨rfl,rfl⟩ | ⟨h1,h2,ob3,h3,rfl⟩ <;> rcases hget o' ob2 q2 with ⟨rfl,rfl⟩ | ⟨h1',h2',ob4,h4,rfl⟩
  .rfl
  .rw[AO.own_ren]at q4;simp only[if_true]at q3;simp only[if_neg h1']at q4;exact absurd (h.so.apart r o' _ _ b hr h4 q3 q4) (Ne.symm h2')
  .rw[AO.own_ren]at q3;simp only[if_neg h1]at q3;simp only[if_true]at q4;exact absurd (h.so.apart o r _ _ b h3 hr q3 q4) h2
  rw[AO.own_ren]at q3 q4;simp only[if_neg h1]at q3;simp only[if_neg h1']at q4;exact h.so.apart o o' _ _ b h3 h4 q3 q4
 intro o ob1 b q1 q2;rcases hget o ob1 q1 with ⟨rfl,rfl⟩ | ⟨h1,h2,ob3,h3,rfl⟩
 .simp only[if_true]at q2;exact h.so.mine r _ b hr q2
 rw[AO.own_ren]at q2;simp only[if_neg h1]at q2;exact h.so.mine o _ b h3 q2
theorem Yaa{ops:Array Oper}{ol:List Oper}(r r' :Nat){ob:AO}(hr:σ.get r=some ob)(hne:Nat.beq r r' =false)(hf:fr.has r' =false)(hs:σ.has r' =false)(hg:σ.get r' =none)(hob:ob.okS []=true)
 (h:AWPL E ops ol (fr.ren r r') ((r',ob)::(σ.del r).ren r r') K):AWPL E ops ol fr σ K:=
 ⟨fun g a hst=>h.go ⟨g.w,g.u,fun k=>if k=r' then g.loc r else g.loc k⟩ a (hst.ren hr hne hf hs hg hob)⟩
theorem YAa{c:Code}(r r' :Nat){ob:AO}(hr:σ.get r=some ob)(hne:Nat.beq r r' =false)(hf:fr.has r' =false)(hs:σ.has r' =false)(hg:σ.get r' =none)(hob:ob.okS []=true)
 (h:AWP E c (fr.ren r r') ((r',ob)::(σ.del r).ren r r') K):AWP E c fr σ K:=
 ⟨fun g a hst=>h.go ⟨g.w,g.u,fun k=>if k=r' then g.loc r else g.loc k⟩ a (hst.ren hr hne hf hs hg hob)⟩
section
variable {α:Type} {F:α->List PV} {r' :List α} {size bytes sb ss k lim:Nat} {e t:TypeId} {zero sz:Value} {d:TypeDesc} {x:Operand} {n:Int} {z:α}
end
theorem rfS{P:Program}{f:FuncId}{fn:Func}{c:Code}{args:List AV}{r:AV}{σ0 σ1:Sto}{O H:Nat}{rows:List Nat}(hc:AV)(hok:FnOk P f fn c)(hN:Nat.ble args.length fn.ntmps=true)(hr:∀k,r.has k=true->k∈rows)(h0:(hc=.ptr O 0/\args[0]? =some (.ptr O 0))∨(hc=.any/\Sto.get σ1 O=none))
 (k0:σ0.okS O rows=true) (k1:σ1.okS O rows=true) (hH:Sto.get σ0 H=none) (hH1:Sto.get σ1 H=none)
 (h:∀g0 (hg:Gl g0) (S:Nat->Prop) (sg:∀k,GlB k->¬S k) (T:Array Value),(GS.code c (z0a 0 args) ((H,.hold hc (T.getD 0 undef))::σ0) (.base (Jma P fn r hc H T σ1) w2b)).holds ⟨P,none,g0,fn.ntmps,false,hg,S,sg⟩):RunS P f args σ0 r σ1 O rows:=vpb hok hN hr h0 k0 k1 hH hH1 h
theorem krS{P:Program}{T:Tab}{Tm:Array Value}(hT:zDa P T){e:Exit}{fn:Func}{cs:List AV}{r hc:AV}{H:Nat}{σ1:Sto}{hm:Mono (Jma P fn r hc H Tm σ1)}(he:isN e=true∨e=.ret)(h:Qja T fr σ fn.results.toList=some cs)(hr:Vaa cs=r)(hs:zTa σ ((H,.hold hc (Tm.getD 0 undef))::σ1)):
 (GS.at e fr σ (.base (Jma P fn r hc H Tm σ1) hm)).holds E:=⟨by cases e <;> simp_all [isN],⟨cs,yla hT h,fun _ _ q=>hr▸q⟩,hs⟩
theorem krSw{P:Program}{T:Tab}{Tm:Array Value}(hT:zDa P T){e:Exit}{fn:Func}{cs:List AV}{r hc:AV}{H:Nat}{σ1:Sto}{hm:Mono (Jma P fn r hc H Tm σ1)}(he:isN e=true∨e=.ret)(h:Qja T fr σ fn.results.toList=some cs)(hr:∀g v,Rel g (Vaa cs) v->Rel g r v)(hs:zTa σ ((H,.hold hc (Tm.getD 0 undef))::σ1)):
 (GS.at e fr σ (.base (Jma P fn r hc H Tm σ1) hm)).holds E:=⟨by cases e <;> simp_all [isN],⟨cs,yla hT h,hr⟩,hs⟩
def AV.okR(rows:List Nat):AV->Bool
 | .agg l=>l.all (AV.okS rows)
 | .ifc _=>true
 | c=>c.okS rows
def AV.okT(rows:List Nat):AV->Bool
 | .tup l=>l.all (AV.okR rows)
 | c=>c.okR rows
theorem AV.okR_has{rows:List Nat}{c:AV}(h:c.okR rows=true){k:Nat}(hk:c.has k=true):k∈rows:=by
 unfold AV.okR at h;split at h
 .obtain ⟨c',hc,hk'⟩:=AV.hasL_mem hk;exact AV.okS_has (jAp.1 h c' hc) hk'
 .simp[AV.has]at hk
 exact AV.okS_has h hk
theorem hasT{rows:List Nat}{c:AV}(h:c.okT rows=true):∀k,c.has k=true->k∈rows:=by
 intro k hk;unfold AV.okT at h;split at h
 .obtain ⟨c',hc,hk'⟩:=AV.hasL_mem hk;exact AV.okR_has (jAp.1 h c' hc) hk'
 exact AV.okR_has h hk
end
section
open Go.RowKit Go.Lib Go.Proofs.Tryz
variable {E:Env} {fr:Fr} {σ:Sto} {K:Post}
def purF:List Oper->List (Option AV)->List Bool->Fr
 | o::l,some c::cs,b::D=>(match o.dst with | some d=>[(d,bif b then c else .any)] | none=>[])++purF l cs D
 | _::l,none::cs,_::D=>purF l cs D
 | _,_,_=>[]
def yma(l:List Oper)(cs:List (Option AV))(i:Nat):Option Nat:=match cs[i]? with
 | some (some _)=>(l[i]?).bind (·.dst)
 | _=>none
theorem kka:∀(l:List Oper) (cs:List (Option AV)) (D:List Bool) (d:Nat),(∀i,yma l cs i≠some d)->(purF l cs D++fr).get d=fr.get d
 | [],_,_,_,_=>rfl
 | _::_,[],_,_,_=>rfl
 | _::_,some _::_,[],_,_=>rfl
 | _::_,none::_,[],_,_=>rfl
 | o::l,none::cs,b::D,d,h=>kka l cs D d fun i=>h (i+1)
 | o::l,some c::cs,b::D,d,h=>by
  have ih:=kka l cs D d fun i=>h (i+1)
  have h0:o.dst≠some d:=h 0;unfold purF;cases hd:o.dst with
  | none=>exact ih
  | some d' =>
   show Fr.get ((d',_)::(purF l cs D++fr)) d=_;rw[Fr.get_cons,if_neg (fun e=>h0 (by grind))];exact ih
theorem qda:∀(l:List Oper) (cs:List (Option AV)) (D:List Bool) (i:Nat) (c:AV) (d:Nat),(∀i j d,yma l cs i=some d->yma l cs j=some d->i=j)->l.length<=D.length->yma l cs i=some d->cs[i]? =some (some c)->(purF l cs D++fr).get d=bif D.getD i false then c else .any
 | [],_,_,i,_,_,_,_,h,hc=>by unfold yma at h;simp_all
 | _::_,[],_,i,_,_,_,_,h,hc=>by grind
 | _::_,_::_,[],_,_,_,_,hl,_,_=>by grind
 | o::l,none::cs,b::D,0,c,d,_,_,h,hc=>by grind
 | o::l,none::cs,b::D,i+1,c,d,hd,hl,h,hc=>by
  have:=qda l cs D i c d (fun i j d h1 h2=>by have:=hd (i+1) (j+1) d h1 h2;omega) (by simp_all) h (by simp_all);simpa[purF]using this
 | o::l,some c0::cs,b::D,0,c,d,hd,hl,h,hc=>by
  simp at hc;subst hc;have h0:o.dst=some d:=h;unfold purF;rw[h0];show Fr.get ((d,_)::(purF l cs D++fr)) d=_;rw[Fr.get_cons,if_pos rfl];rfl
 | o::l,some c0::cs,b::D,i+1,c,d,hd,hl,h,hc=>by
  have ih:=qda l cs D i c d (fun i j d h1 h2=>by have:=hd (i+1) (j+1) d h1 h2;omega) (by simp_all) h (by simp_all);unfold purF;cases h0:o.dst with
  | none=>simp_all
  | some d' =>
   show Fr.get ((d',_)::(purF l cs D++fr)) d=_;rw[Fr.get_cons,if_neg (fun e=>by
    have:=hd 0 (i+1) d (by show o.dst=some d;grind) h;omega)]
   simp_all
theorem Fr.has_append(q:Nat):∀(x y:Fr),Fr.has q (x++y)=(Fr.has q x || Fr.has q y)
 | [],y=>by simp[Fr.has]
 | (k,a)::x,y=>by simp[Fr.has,Fr.has_append q x y,Bool.or_assoc]
theorem zMb(q:Nat):∀(l:List Oper) (cs:List (Option AV)) (D T:List Bool),T=List.replicate D.length true->Fr.has q (purF l cs D)=true->Fr.has q (purF l cs T)=true
 | [],_,_,_,_,h=>by simp[purF,Fr.has]at h
 | _::_,[],_,_,_,h=>by simp[purF,Fr.has]at h
 | _::_,some _::_,[],_,_,h=>by simp_all
 | _::_,none::_,[],_,_,h=>by simp_all
 | o::l,none::cs,b::D,T,hT,h=>by
  subst hT;exact zMb q l cs D _ rfl (by simpa[purF]using h)
 | o::l,some c::cs,b::D,T,hT,h=>by
  subst hT;have ih:=zMb q l cs D _ rfl;unfold purF at h ⊢;simp only[jBj,List.replicate_succ]at h ⊢;cases h0:o.dst with
  | none=>simp_all
  | some d=>
   rw[h0]at h;simp only[Fr.has_append,Fr.has,Bool.or_false,jBr,cond_true]at h ⊢;rcases h with h | h
   .refine .inl ?_;cases b with
    | true=>exact h
    | false=>simp[AV.has]at h
   simp_all
structure HvS (E:Env) (o:Oper) (FR:Fr) (σ σ' :Sto):Prop where
 go:∀fr,(∀x∈o.op.operands,fr.ev x=FR.ev x)->(∀q,FR.has q=false->fr.has q=false)->OpTo E o fr σ fr σ'
structure HvD (E:Env) (o:Oper) (FR:Fr) (σ:Sto) (k:Nat) (c:AV) (rs:List Nat) (σ' :Sto):Prop where
 go:∀fr,(∀x∈o.op.operands,fr.ev x=FR.ev x)->(∀q,FR.has q=false->fr.has q=false)->OpTo E o fr σ ((k,c)::fr.clrs rs) σ'
structure HvP (E:Env) (o:Oper) (FR:Fr) (σ:Sto) (rs:List Nat) (σ' :Sto):Prop where
 go:∀fr,(∀x∈o.op.operands,fr.ev x=FR.ev x)->(∀q,FR.has q=false->fr.has q=false)->OpTo E o fr σ (fr.clrs rs) σ'
def allT(l:List Oper):List Bool:=List.replicate l.length true
def wdb(cs:List (Option AV))(rs:List Nat):Bool:=cs.all fun c=>match c with | some c=>rs.all fun r=> !c.has r | none=>true
inductive kHb (E:Env) (l:List Oper) (cs:List (Option AV)) (all:List Node) (H:List Bool) (fr:Fr) (σ:Sto) (i:Nat):Prop
 | pure {o:Oper} {c:AV} (ho:l[i]? =some o) (hc:cs[i]? =some (some c)) (h:OpG E o (purF l cs (allT l)++fr) σ c)
 | sto {o:Oper} {σ' σ2:Sto} {fr2:Fr} (j:Nat) (ho:l[i]? =some o) (hc:cs[i]? =some none) (h:HvS E o (purF l cs (allT l)++fr) σ σ') (hn:all[j]? =some (H.set i true,fr2,σ2)) (hf:FrLe fr fr2) (hs:zTa σ' σ2)
 | dst {o:Oper} {k:Nat} {c:AV} {rs:List Nat} {σ' σ2:Sto} {fr2:Fr} (j:Nat) (ho:l[i]? =some o) (hc:cs[i]? =some none) (hk:((List.range l.length).all fun i=>yma l cs i !=some k)=true) (hrs:wdb cs rs=true)
  (h:HvD E o (purF l cs (allT l)++fr) σ k c rs σ') (hn:all[j]? =some (H.set i true,fr2,σ2)) (hf:FrLe ((k,c)::fr.clrs rs) fr2) (hs:zTa σ' σ2)
 | put {o:Oper} {rs:List Nat} {σ' σ2:Sto} {fr2:Fr} (j:Nat) (ho:l[i]? =some o) (hc:cs[i]? =some none) (hrs:wdb cs rs=true)
  (h:HvP E o (purF l cs (allT l)++fr) σ rs σ') (hn:all[j]? =some (H.set i true,fr2,σ2)) (hf:FrLe (fr.clrs rs) fr2) (hs:zTa σ' σ2)
inductive voa (E:Env) (l:List Oper) (cs:List (Option AV)) (all:List Node) (H:List Bool) (fr:Fr) (σ:Sto):List Nat->Prop
 | nil:voa E l cs all H fr σ []
 | cons {i:Nat} {is:List Nat} (h:kHb E l cs all H fr σ i) (r:voa E l cs all H fr σ is):voa E l cs all H fr σ (i::is)
def isHv(cs:List (Option AV))(i:Nat):Bool:=match cs[i]? with | some none=>true | _=>false
def mayL(l:List Oper)(cs:List (Option AV))(H:List Bool):List Nat:=(List.range l.length).filter fun i=>
 !(H.getD i false) && (List.range l.length).all fun j=> !(isHv cs j) || ((!(((wka l l.length).getD i 0).testBit j) || H.getD j false) && (!(H.getD j false) || !(((wka l l.length).getD j 0).testBit i)))
inductive zNb (E:Env) (l:List Oper) (cs:List (Option AV)) (K:Post) (all:List Node):Node->Prop
 | full {H:List Bool} {fr:Fr} {σ:Sto} (is:List Nat) (hD:mayL l cs H=is) (hs:voa E l cs all H fr σ is) {frJ:Fr} {σJ:Sto} (hf:FrLe (purF l cs (allT l)++fr) frJ) (hso:zTa σ σJ) (h:K .normal frJ σJ):zNb E l cs K all (H,fr,σ)
 | step {H:List Bool} {fr:Fr} {σ:Sto} (is:List Nat) (hD:mayL l cs H=is) (hn:((List.range l.length).all fun i=> !(isHv cs i) || H.getD i false)=false) (hs:voa E l cs all H fr σ is):zNb E l cs K all (H,fr,σ)
inductive ZUa (E:Env) (l:List Oper) (cs:List (Option AV)) (K:Post) (all:List Node):List Node->Prop
 | nil:ZUa E l cs K all []
 | cons {nd:Node} {r:List Node} (h:zNb E l cs K all nd) (hr:ZUa E l cs K all r):ZUa E l cs K all (nd::r)
theorem voa.get{l:List Oper}{cs:List (Option AV)}{all:List Node}{H:List Bool}{is:List Nat}(h:voa E l cs all H fr σ is){i:Nat}(hi:i∈is):kHb E l cs all H fr σ i:=by
 induction h with
 | nil=>cases hi
 | cons h _ ih=>
  grind
theorem ZUa.get{l:List Oper}{cs:List (Option AV)}{all r:List Node}(h:ZUa E l cs K all r){nd:Node}(hi:nd∈r):zNb E l cs K all nd:=by
 induction h with
 | nil=>cases hi
 | cons h _ ih=>
  grind
def kIb(N:Nat)(l:List Oper)(cs:List (Option AV)):Bool:=
 vZa .any l.toArray && Nat.beq cs.length l.length && (l.all fun o=>o.guard.isNone) &&
 (l.all fun o=>o.dst.all fun d=>Nat.ble (d+1) N) &&
 ((List.range l.length).all fun i=>isHv cs i || (yma l cs i).isSome) &&
 ((List.range l.length).all fun i=>(List.range l.length).all fun j=>Nat.beq i j || (yma l cs i).isNone || yma l cs i !=yma l cs j) &&
 (l.all fun o=>(Wsa o).all fun t=>(List.range l.length).all fun j=>yma l cs j !=some t || qxa o j)
theorem Kha{rs:List Nat}{c:AV}(h:(rs.all fun r=> !c.has r)=true):c.clrs rs=c:=by
 unfold AV.clrs
 grind
theorem VYa{id:Nat}{l:List Oper}(cs:List (Option AV))(all:List Node){H0:List Bool}{fr0:Fr}{σ0:Sto}(hmix:E.P.follows .mixedOrders=true)(hok:kIb E.N l cs=true)(h0:all[0]? =some (H0,fr0,σ0))(hH0:H0=List.replicate l.length false)
 (hf:FrLe fr fr0) (hs:zTa σ σ0) (h:ZUa E l cs K all all):AWP E (.region id l.toArray true) fr σ K:=by
 simp only[kIb,jAn,jAp]at hok;obtain ⟨⟨⟨⟨⟨⟨hlb,hlen⟩,hgd⟩,hN⟩,hall⟩,hdist⟩,hdat⟩:=hok;have hlen:=jAl hlen;have hdl:∀i d,yma l cs i=some d->i < l.length:=by
  intro i d hd;rcases jAu i l.length with h1 | h1
  .exact h1
  unfold yma at hd;rw[jCv (by omega)]at hd;cases hd
 have hdist' :∀i j d,yma l cs i=some d->yma l cs j=some d->i=j:=by
  intro i j d h1 h2;have:=hdist i (by simpa using hdl i d h1) j (by simpa using hdl j d h2);simp only[jBr,bne_iff_ne,ne_eq]at this;rcases this with (h3 | h3) | h3
  .exact jAl h3
  .rw[h1]at h3;cases h3
  exact absurd (h1.trans h2.symm) h3
 have hdirD:∀{D:Nat->Bool} {o:Oper} {j:Nat},(∀e∈o.after,Region.binds .any e=true->D e.on=true)->qxa o j=true->D j=true:=by
  intro D o j he hd;simp only[qxa,List.any_eq_true,jAn]at hd;obtain ⟨e,h1,h2,h3⟩:=hd;rw[<-jAl h3];exact he e (by simpa using h1) h2
 let bits:(Nat->Bool)->List Bool:=fun D=>(List.range l.length).map D
 have hbl:∀D,(bits D).length=l.length:=fun D=>by simp[bits]
 have hbg:∀D i,i < l.length->(bits D).getD i false=D i:=fun D i hi=>by simp[bits,jAj,hi]
 have hTl:(allT l).length=l.length:=by simp[allT]
 have hTg:∀i,i < l.length->(allT l).getD i false=true:=fun i hi=>by simp[allT,jAj,hi]
 have hslot:∀d,(∃i c,yma l cs i=some d/\cs[i]? =some (some c)/\i < l.length)∨(∀i,yma l cs i≠some d):=by
  intro d;by_cases hex:∃i,yma l cs i=some d
  .obtain ⟨i,hi⟩:=hex;refine .inl ⟨i,?_⟩;have hil:=hdl i d hi;cases hc:cs[i]? with
   | none=>unfold yma at hi;rw[hc]at hi;cases hi
   | some x=>
    cases x with
    | none=>unfold yma at hi;rw[hc]at hi;cases hi
    | some c=>exact ⟨c,hi,rfl,hil⟩
  exact .inr fun i hi=>hex ⟨i,hi⟩
 have hev:∀(D:Nat->Bool) (o:Oper) (frA:Fr),o∈l->(∀e∈o.after,Region.binds .any e=true->D e.on=true)->∀x∈o.op.operands,(purF l cs (bits D)++frA).ev x=(purF l cs (allT l)++frA).ev x:=by
  intro D o frA hm he x hx;cases x with
  | const v=>rfl
  | global q=>rfl
  | func f=>rfl
  | tmp t=>
   show (purF l cs (bits D)++frA).get t=(purF l cs (allT l)++frA).get t;rcases hslot t with ⟨i,c,h1,h2,h3⟩ | h1
   .rw[qda l cs (bits D) i c t hdist' (by rw[hbl];omega) h1 h2,qda l cs (allT l) i c t hdist' (by rw[hTl];omega) h1 h2,hbg D i h3,hTg i h3];have:=hdat o hm t (by simp only[Wsa,jCy];exact ⟨.tmp t,by simpa using hx,rfl⟩) i (by simpa using h3);simp only[jBr,bne_iff_ne,ne_eq]at this;rcases this with h4 | h4
    .exact absurd h1 h4
    rw[hdirD he h4]
   rw[kka l cs _ t h1,kka l cs _ t h1]
 have hhas:∀(D:Nat->Bool) (frA:Fr) q,(purF l cs (allT l)++frA).has q=false->(purF l cs (bits D)++frA).has q=false:=by
  intro D frA q hq;rw[Fr.has_append,Bool.or_eq_false_iff]at hq ⊢;refine ⟨?_,hq.2⟩;cases hb:Fr.has q (purF l cs (bits D)) with
  | false=>rfl
  | true=>
   have:=zMb q l cs (bits D) (allT l) (by rw[hbl];rfl) hb;rw[this]at hq;cases hq.1
 let J:(Nat->Bool)->Act->World->Prop:=fun D a w=>(∀i o,l[i]? =some o->D i=true->∀e∈o.after,Region.binds .any e=true->D e.on=true)/\
  ∃nd∈all,nd.1.length=l.length/\(∀i,i < l.length->isHv cs i=true->D i=nd.1.getD i false)/\(∀i,i < l.length->isHv cs i=false->nd.1.getD i false=false)/\∃g,g.w=w/\St E g a (purF l cs (bits D)++nd.2.1) nd.2.2
 refine ⟨fun g a hst=>v0a hmix hlb J ?_ ?_ ?_⟩
 .refine ⟨fun i o _ hd=>by simp at hd,_,jAi h0,by subst hH0;simp,fun i hi _=>by subst hH0;simp[jAj,hi],fun i hi _=>by subst hH0;simp[jAj,hi],⟨g.w.drew,g.u,g.loc⟩,rfl,(hst.le (fun d=>?_) hs).drew⟩;rcases hslot d with ⟨i,c,h1,h2,h3⟩ | h1
  .rw[qda l cs _ i c d hdist' (by rw[hbl];omega) h1 h2,hbg _ i h3];exact .inl rfl
  rw[kka l cs _ d h1];exact hf d
 .rintro D a w ⟨_,⟨H,frA,σA⟩,hm,hl,hD,_,g,rfl,hst'⟩ hfin;have hfin' :∀i,i < l.length->D i=true:=fun i hi=>hfin i (by simpa using hi)
  cases h.get hm with
  | full is _ _ hfJ hsJ hk=>
   refine ⟨g,_,_,rfl,St.le ?_ hfJ hsJ,hk⟩;have:bits D=allT l:=by
    apply List.ext_getElem (by rw[hbl,hTl]);intro i h1 h2;have hi:i < l.length:=by rw[hbl]at h1;exact h1
    simp[bits,allT,hfin' i hi]
   rw[<-this];exact hst'
  | step is _ hn _=>
   exfalso;have:((List.range l.length).all fun i=> !(isHv cs i) || H.getD i false)=true:=by
    rw[jAp];intro i hi;have hi:i < l.length:=by simpa using hi
    cases hh:isHv cs i with
    | false=>rfl
    | true=>rw[<-hD i hi hh,hfin' i hi];rfl
   rw[this]at hn;cases hn
 rintro D a w i o ⟨hcl,⟨H,frA,σA⟩,hm,hl,hD,hD0,g,rfl,hst'⟩ ho hDi he;have ho' :l[i]? =some o:=by simpa using ho
 have hil:i < l.length:=(jAd.1 ho').1;have hom:o∈l:=jAi ho';have hgo:o.guard=none:=by simpa using hgd o hom
 have hcl' :∀i' o',l[i']? =some o' ->upd D i i' =true->∀e∈o'.after,Region.binds .any e=true->upd D i e.on=true:=by
  intro i' o' h1 h2 e h3 h4;unfold upd at h2 ⊢;split
  .rfl
  split at h2
  .rename_i hii;subst hii;rw[ho']at h1;cases h1;exact he e h3 h4
  exact hcl i' o' h1 h2 e h3 h4
 have hmay:i∈mayL l cs H:=by
  simp only[mayL,List.mem_filter,jDf,jAn,jBv,jAp,jBr];refine ⟨hil,?_,fun j hj=>?_⟩
  .cases hh:isHv cs i with
   | true=>rw[<-hD i hil hh];exact hDi
   | false=>exact hD0 i hil hh
  cases hh:isHv cs j with
  | false=>exact .inl rfl
  | true=>
   refine .inr ⟨?_,?_⟩
   .cases hb:((wka l l.length).getD i 0).testBit j with
    | false=>exact .inl rfl
    | true=>exact .inr (by rw[<-hD j hj hh];exact yGa hcl l.length i o ho' he j hb)
   cases hHj:H.getD j false with
   | false=>exact .inl rfl
   | true=>
    refine .inr ?_;cases hb:((wka l l.length).getD j 0).testBit i with
    | false=>rfl
    | true=>
     have:=Kba hcl l.length j i hb (by rw[hD j hj hh];exact hHj);rw[hDi]at this;cases this
 have Kza:kHb E l cs all H frA σA i:=by
  cases h.get hm with
  | full is hD2 hs _ _ _=>exact (hD2▸hs:voa E l cs all H frA σA (mayL l cs H)).get hmay
  | step is hD2 _ hs=>exact (hD2▸hs:voa E l cs all H frA σA (mayL l cs H)).get hmay
 have hw:Region.wanted o (yielded l.toArray a.tmps)=true:=by simp[Region.wanted,hgo]
 have hheavy:∀(_:cs[i]? =some none),(∀k,k < l.length->isHv cs k=true->upd D i k=(H.set i true).getD k false)/\(∀k,k < l.length->isHv cs k=false->(H.set i true).getD k false=false)/\∀frX d,(purF l cs (bits (upd D i))++frX).get d=(purF l cs (bits D)++frX).get d:=by
  intro hc;have hhv:isHv cs i=true:=by unfold isHv;rw[hc]
  refine ⟨fun k hk hh=>?_,fun k hk hh=>?_,fun frX d=>?_⟩
  .unfold upd;simp only[jAj,List.getElem?_set];by_cases hki:k=i
   .subst hki;simp[hl,hk]
   rw[if_neg hki,if_neg (Ne.symm hki),<-jAj];exact hD k hk hh
  .have hki:k≠i:=by rintro rfl;rw[hhv]at hh;cases hh
   simp only[jAj,List.getElem?_set];rw[if_neg (Ne.symm hki),<-jAj];exact hD0 k hk hh
  rcases hslot d with ⟨j,c,h1,h2,h3⟩ | h1
  .rw[qda l cs _ j c d hdist' (by rw[hbl];omega) h1 h2,qda l cs _ j c d hdist' (by rw[hbl];omega) h1 h2,hbg _ j h3,hbg _ j h3];have hji:j≠i:=by rintro rfl;rw[hc]at h2;cases h2
   unfold upd;rw[if_neg hji]
  rw[kka l cs _ d h1,kka l cs _ d h1]
 unfold wpOpIn;rw[ho];simp only[hw,if_true];cases Kza with
 | @pure o2 c ho2 hc hop=>
  rw[ho']at ho2;cases ho2;have hhv:isHv cs i=false:=by unfold isHv;rw[hc]
  have hops:∀x∈o.op.operands,Rel g ((purF l cs (allT l)++frA).ev x) (a.eval x):=fun x hx=>by
   rw[<-hev D o frA hom he x hx];exact hst'.ev x
  obtain ⟨d,hd⟩:∃d,yma l cs i=some d:=by
   have:=hall i (by simpa using hil);rw[hhv]at this;simpa[Option.isSome_iff_exists]using this
  have hod:o.dst=some d:=by
   unfold yma at hd;rw[hc,ho']at hd;simpa using hd
  refine hop.go g a _ _ hops hst'.so fun g' v h1 h2 h3 h4=>⟨hcl',(H,frA,σA),hm,hl,fun k hk hh=>?_,hD0,g',rfl,?_⟩
  .have hki:k≠i:=by rintro rfl;rw[hhv]at hh;cases hh
   unfold upd;rw[if_neg hki];exact hD k hk hh
  have hdN:d < E.N:=by
   have:=hN o hom;rw[hod]at this;exact jAf (by simpa using this)
  have hsz:=hst'.n;refine ⟨fun d' =>?_,by rw[hod];simp[Act.put,hsz],by rw[hod];exact hst'.df.mono h1.ext,hst'.so.grow h1 h2 (fun k _=>by rw[h3])⟩;have hget:(a.put o.dst v).tmps.getD d' undef=if d=d' then v else a.tmps.getD d' undef:=by
   rw[hod];simp only[Act.put];rw[k4a];by_cases h5:d=d'
   .rw[if_pos ⟨h5,by omega⟩,if_pos h5]
   rw[if_neg (fun x=>h5 x.1),if_neg h5]
  rw[hget];by_cases h5:d=d'
  .subst h5;rw[if_pos rfl,qda l cs _ i c d hdist' (by rw[hbl];omega) hd hc,hbg _ i hil];have:upd D i i=true:=by unfold upd;rw[if_pos rfl]
   rw[this];exact h4
  rw[if_neg h5];have hsame:(purF l cs (bits (upd D i))++frA).get d' =(purF l cs (bits D)++frA).get d' :=by
   rcases hslot d' with ⟨j,c',q1,q2,q3⟩ | q1
   .rw[qda l cs _ j c' d' hdist' (by rw[hbl];omega) q1 q2,qda l cs _ j c' d' hdist' (by rw[hbl];omega) q1 q2,hbg _ j q3,hbg _ j q3];have hji:j≠i:=by rintro rfl;rw[hd]at q1;cases q1;exact h5 rfl
    unfold upd;rw[if_neg hji]
   rw[kka l cs _ d' q1,kka l cs _ d' q1]
  rw[hsame];exact (hst'.fr d').mono h1.ext (fun k _=>by rw[h3])
 | @sto o2 σ' σ2 fr2 j ho2 hc hop hn hf2 hs2=>
  rw[ho']at ho2;cases ho2;obtain ⟨q1,q2,q3⟩:=hheavy hc;refine (hop.go _ (hev D o frA hom he) (hhas D frA)).go g a _ _ hst' fun g' a' hst2=>⟨hcl',_,jAi hn,by simp[hl],q1,q2,g',rfl,hst2.le (fun d=>?_) hs2⟩
  rw[q3];rcases hslot d with ⟨k,c,h1,h2,h3⟩ | h1
  .rw[qda l cs _ k c d hdist' (by rw[hbl];omega) h1 h2,qda l cs _ k c d hdist' (by rw[hbl];omega) h1 h2];exact .inr (.inl rfl)
  rw[kka l cs _ d h1,kka l cs _ d h1];exact hf2 d
 | @dst o2 k c rs σ' σ2 fr2 j ho2 hc hk hrs hop hn hf2 hs2=>
  rw[ho']at ho2;cases ho2;obtain ⟨q1,q2,q3⟩:=hheavy hc;refine (hop.go _ (hev D o frA hom he) (hhas D frA)).go g a _ _ hst' fun g' a' hst2=>⟨hcl',_,jAi hn,by simp[hl],q1,q2,g',rfl,hst2.le (fun d=>?_) hs2⟩
  rw[q3];rcases hslot d with ⟨m,c',h1,h2,h3⟩ | h1
  .have hkd:k≠d:=by
    rintro rfl;have:=jAp.1 hk m (by simpa using h3);simp[h1]at this
   rw[Fr.get_cons,if_neg hkd,Fr.get_clrs,qda l cs _ m c' d hdist' (by rw[hbl];omega) h1 h2,qda l cs _ m c' d hdist' (by rw[hbl];omega) h1 h2];refine .inr (.inl ?_);cases (bits D).getD m false with
   | false=>exact Kha (by rw[jAp];intro r _;rfl)
   | true=>
    refine Kha ?_;have:=jAp.1 hrs _ (jAi h2);exact this
  have:=hf2 d;rw[Fr.get_cons,Fr.get_clrs]at this ⊢;rw[kka l cs _ d h1,kka l cs _ d h1];exact this
 | @put o2 rs σ' σ2 fr2 j ho2 hc hrs hop hn hf2 hs2=>
  rw[ho']at ho2;cases ho2;obtain ⟨q1,q2,q3⟩:=hheavy hc;refine (hop.go _ (hev D o frA hom he) (hhas D frA)).go g a _ _ hst' fun g' a' hst2=>⟨hcl',_,jAi hn,by simp[hl],q1,q2,g',rfl,hst2.le (fun d=>?_) hs2⟩
  rw[q3];rcases hslot d with ⟨m,c',h1,h2,h3⟩ | h1
  .rw[Fr.get_clrs,qda l cs _ m c' d hdist' (by rw[hbl];omega) h1 h2,qda l cs _ m c' d hdist' (by rw[hbl];omega) h1 h2];refine .inr (.inl ?_);cases (bits D).getD m false with
   | false=>exact Kha (by rw[jAp];intro r _;rfl)
   | true=>
    refine Kha ?_;have:=jAp.1 hrs _ (jAi h2);exact this
  have:=hf2 d;rw[Fr.get_clrs]at this ⊢;rw[kka l cs _ d h1,kka l cs _ d h1];exact this
section
variable {FR:Fr} {ty:TypeId} {pos:String} {af:Array Edge} {gu:Option (Nat × Bool)} {T:Tab} {P:Program} {id k r size bytes:Nat} {e t:TypeId} {zero:Value} {d:TypeDesc}
theorem mqz{o:Oper}{c:AV}(hT:zDa E.P T)(h:qval T FR.ev σ o.op=some c):OpG E o FR σ c:=zGa (Kfa hT h)
theorem jzb{o:Oper}{fr' fr2:Fr}{σ' σ2:Sto}(h:OpTo E o fr σ fr' σ')(hf:FrLe fr' fr2)(hs:zTa σ' σ2):OpTo E o fr σ fr2 σ2:=
 ⟨fun g a K Q hst hK=>h.go g a K Q hst fun g' a' h' =>hK g' a' (h'.le hf hs)⟩
theorem kLa:zTa σ σ:=fun _ _ h=>.inl h
theorem w3b{c:AV}:FrLe ((k,c)::fr) ((k,c)::fr.clrs []):=fun d=>by
 rw[Fr.get_cons,Fr.get_cons,Fr.get_clrs,Kha rfl];exact .inr (.inl rfl)
theorem w4b{c:AV}:FrLe ((k,c)::fr.clr r) ((k,c)::fr.clrs [r]):=fun d=>by
 rw[Fr.get_cons,Fr.get_cons,Fr.get_clrs,Fr.get_clr];refine .inr (.inl ?_);split
 .rfl
 simp[AV.clr,AV.clrs]
theorem hv_store{x y:Operand}{o off:Nat}{cs vs:List AV}(hx:FR.ev x=.ptr o off)(ho:σ.get o=some (.cells cs))(hy:(FR.ev y).cells=some vs)(ht:TyOk E.P t size bytes zero d)(hz:Nat.beq vs.length size=true)(hle:Nat.ble (off+vs.length) cs.length=true):
 HvS E ⟨none,.store t x y,ty,pos,af,gu⟩ FR σ (σ.upd o (.cells (Qta cs off vs))):=
 ⟨fun fr he _=>JIa ((he x (by simp[Op.operands,Call.operands])).trans hx) ho (by rw[he y (by simp[Op.operands,Call.operands])];exact hy) ht hz hle⟩
theorem kJb{α:Type}{F:α->List PV}{l:List α}{x y:Operand}{n:Int}{j:Nat}{v v' :α}{pcs:List PV}{e:TypeId}{esize:Nat}(hx:FR.ev x=.hp r n.toNat j)(hr:σ.get r=some (.row e true esize (l.map F)))(hy:(FR.ev y).weak.cells=some (pcs.map .pv))(ht:TyOk E.P t size bytes zero d)(hz:Nat.beq pcs.length size=true)
 (hv:idx l n=some v) (hle:Nat.ble (j+pcs.length) (F v).length=true) (hF' :F v' =(F v).take j++pcs++(F v).drop (j+pcs.length)):
 HvS E ⟨none,.store t x y,ty,pos,af,gu⟩ FR σ (σ.upd r (.row e true esize ((l.set n.toNat v').map F))):=
 ⟨fun fr he _=>qZa ((he x (by simp[Op.operands,Call.operands])).trans hx) hr (by rw[he y (by simp[Op.operands,Call.operands])];exact hy) ht hz hv hle hF'⟩
theorem YBa{α:Type}{F:α->List PV}{l xs r' :List α}{lim sb ss:Nat}{nl:Option Bool}{x y:Operand}{mu:Bool}{sz:Value}(hN:Nat.ble (k+1) E.N=true)(hx:FR.ev x=.hs r 0)(hr:σ.get r=some (.row e mu size (l.map F)))(hy:FR.ev y=.pv (.sl nl (xs.map F)))(ht:TyOk E.P t ss sb sz (.slice e))(he:TyOk E.P e size bytes zero d)
 (hzz:Nat.beq zero.cells.size size=true) (hs:Nat.ble 1 size=true) (hF:∀x,(F x).length=size) (hlim:(Nat.ble (lim * bytes) 140737488355328 && Nat.ble lim 9223372036854775807)=true) (h:app lim l xs=some r'):
 HvD E ⟨some k,.call ⟨.builtin .append, #[x,y], #[t,t]⟩,ty,pos,af,gu⟩ FR σ k (.hs r 0) [r] ((σ.clr r).upd r (.row e mu size (r'.map F))):=
 ⟨fun fr hE _=>jzb (Yla hN ((hE x (by simp[Op.operands,Call.operands])).trans hx) hr ((hE y (by simp[Op.operands,Call.operands])).trans hy) ht he hzz hs hF hlim h) w4b kLa⟩
end
end
section
section
variable {P:Program} {ρ:Operand->AV} {σ:Sto} {dst:Option Tmp} {ty:TypeId} {pos:String} {af:Array Edge} {gu:Option (Nat × Bool)} {x y:Operand} {t t' :TypeId} {ss sb ss' sb' :Nat} {sz sz' :Value} {a b n:Int}
end
end
structure zja where
 Code:Int
 Index:Int
def zja.pc(x:zja):List PV:=[pI x.Code,pI x.Index]
structure jla where
 Address:Str
 To:List Str
def jla.pc(x:jla):List PV:=[pS x.Address,pL cS x.To]
structure zpa where
 Address:Str
 Notify:Int
def zpa.pc(x:zpa):List PV:=[pS x.Address,pI x.Notify]
structure q1a where
 From:Str
 To:List zpa
 Id:Str
def q1a.pc(x:q1a):List PV:=[pS x.From,pL zpa.pc x.To,pS x.Id]
structure zba where
 Name:Str
 Value:Str
def zba.pc(x:zba):List PV:=[pS x.Name,pS x.Value]
structure zda where
 Fields:List zba
 Body:List UInt8
def zda.pc(x:zda):List PV:=[pL zba.pc x.Fields,pL cU x.Body]
structure ZAa where
 Envelope:q1a
 Message:zda
def ZAa.pc(x:ZAa):List PV:=[pS x.Envelope.From,pL zpa.pc x.Envelope.To,pS x.Envelope.Id,pL zba.pc x.Message.Fields,pL cU x.Message.Body]
structure yIa where
 Code:Int
 Lines:List Str
def yIa.pc(x:yIa):List PV:=[pI x.Code,pL cS x.Lines]
structure j0a where
 Year:Int
 Month:Int
 Day:Int
 Hour:Int
 Minute:Int
 Second:Int
 Zone:Int
def j0a.pc(x:j0a):List PV:=[pI x.Year,pI x.Month,pI x.Day,pI x.Hour,pI x.Minute,pI x.Second,pI x.Zone]
structure jAa where
 Name:Str
 Mail:ZAa
 Pipelined:Bool
 Buffer:List UInt8
 Expected:Int
 Whole:Bool
 Done:Bool
 Results:List Int
def jAa.pc(x:jAa):List PV:=[pS x.Name,pS x.Mail.Envelope.From,pL zpa.pc x.Mail.Envelope.To,pS x.Mail.Envelope.Id,pL zba.pc x.Mail.Message.Fields,pL cU x.Mail.Message.Body,pB x.Pipelined,pL cU x.Buffer,pI x.Expected,pB x.Whole,pB x.Done,pL cI x.Results]
structure z5a where
 Client:jAa
 content:List UInt8
 chunk:Bool
 out:List UInt8
def z5a.pc(x:z5a):List PV:=[pS x.Client.Name,pS x.Client.Mail.Envelope.From,pL zpa.pc x.Client.Mail.Envelope.To,pS x.Client.Mail.Envelope.Id,pL zba.pc x.Client.Mail.Message.Fields,pL cU x.Client.Mail.Message.Body,pB x.Client.Pipelined,pL cU x.Client.Buffer,pI x.Client.Expected,pB x.Client.Whole,pB x.Client.Done,pL cI x.Client.Results,pL cU x.content,pB x.chunk,pL cU x.out]
structure wpa where
 Name:Str
 Size:Int
 Many:Int
 Phase:Int
 Greeted:Bool
 Mailing:Bool
 From:Str
 To:List zpa
 Buffer:List UInt8
 Data:List UInt8
 Lost:Int
 Dots:Int
 Chunked:Bool
 Left:Int
 Last:Bool
 Ignore:Bool
 Count:Int
def wpa.pc(x:wpa):List PV:=[pS x.Name,pI x.Size,pI x.Many,pI x.Phase,pB x.Greeted,pB x.Mailing,pS x.From,pL zpa.pc x.To,pL cU x.Buffer,pL cU x.Data,pI x.Lost,pI x.Dots,pB x.Chunked,pI x.Left,pB x.Last,pB x.Ignore,pI x.Count]
structure kpa where
 Server:wpa
 replies:List yIa
 mails:List ZAa
def kpa.pc(x:kpa):List PV:=[pS x.Server.Name,pI x.Server.Size,pI x.Server.Many,pI x.Server.Phase,pB x.Server.Greeted,pB x.Server.Mailing,pS x.Server.From,pL zpa.pc x.Server.To,pL cU x.Server.Buffer,pL cU x.Server.Data,pI x.Server.Lost,pI x.Server.Dots,pB x.Server.Chunked,pI x.Server.Left,pB x.Server.Last,pB x.Server.Ignore,pI x.Server.Count,pL yIa.pc x.replies,pL ZAa.pc x.mails]
structure zFa where
 S:wpa
 Replies:List yIa
 Mails:List ZAa
def zFa.pc(x:zFa):List PV:=[pS x.S.Name,pI x.S.Size,pI x.S.Many,pI x.S.Phase,pB x.S.Greeted,pB x.S.Mailing,pS x.S.From,pL zpa.pc x.S.To,pL cU x.S.Buffer,pL cU x.S.Data,pI x.S.Lost,pI x.S.Dots,pB x.S.Chunked,pI x.S.Left,pB x.S.Last,pB x.S.Ignore,pI x.S.Count,pL yIa.pc x.Replies,pL ZAa.pc x.Mails]
structure zca where
 name:Str
 number:Int
 star:Bool
 value:Str
def zca.pc(x:zca):List PV:=[pS x.name,pI x.number,pB x.star,pS x.value]
structure zia where
 Name:Str
 Value:Str
def zia.pc(x:zia):List PV:=[pS x.Name,pS x.Value]
structure zYa where
 Type_:Str
 Sub:Str
 Params:List zia
def zYa.pc(x:zYa):List PV:=[pS x.Type_,pS x.Sub,pL zia.pc x.Params]
structure zfa where
 s:Str
def zfa.pc(x:zfa):List PV:=[pS x.s]
structure zka where
 Fields:List zba
 Body:List UInt8
 Parts:List zka
def zka.pcn:Nat->zka->List PV
 | 0,x=>[pL zba.pc x.Fields,pL cU x.Body,.sl none []]
 | n+1,x=>[pL zba.pc x.Fields,pL cU x.Body,pL (zka.pcn n) x.Parts]
structure jBa where
 part:zka
 depth:Int
structure zea where
 many:Int
 fault:zja
def zea.pc(x:zea):List PV:=[pI x.many,pI x.fault.Code,pI x.fault.Index]
def zN0(x:j0a):List AV:=[.i x.Year,.i x.Month,.i x.Day,.i x.Hour,.i x.Minute,.i x.Second,.i x.Zone]
section
open Go.RowKit Go.Lib Go.Proofs.Tryz
variable {E:Env} {fr:Fr} {σ:Sto} {K:Post} {T:Tab} {l:List Oper} {cs:List (Option AV)} {all:List Node} {H:List Bool}
theorem voa.of:∀{is:List Nat},(∀i∈is,kHb E l cs all H fr σ i)->voa E l cs all H fr σ is
 | [],_=>.nil
 | i::is,h=>.cons (h i (by simp)) (voa.of fun j hj=>h j (by grind))
def zOb(T:Tab)(l:List Oper)(cs:List (Option AV))(fr:Fr)(σ:Sto)(i:Nat):Option AV:=(l[i]?).bind fun o=>qval T (purF l cs (allT l)++fr).ev σ o.op
def Qka(cs:List (Option AV))(i:Nat):Option AV:=(cs[i]?).bind id
def Kia(l:List Oper)(cs:List (Option AV))(H:List Bool)(is:List Nat):List Nat:=(mayL l cs H).filter fun i=> !is.contains i
theorem ms_all(hT:zDa E.P T)(is:List Nat)(h1:((Kia l cs H is).map (zOb T l cs fr σ),(Kia l cs H is).all (fun i=>(Qka cs i).isSome))=((Kia l cs H is).map (Qka cs),true))(h2:voa E l cs all H fr σ is):voa E l cs all H fr σ (mayL l cs H):=by
 refine voa.of fun i hi=>?_
 by_cases hc:is.contains i=true
 .exact h2.get (by simp_all)
 have hm:i∈Kia l cs H is:=by
  unfold Kia;rw[List.mem_filter];exact ⟨hi,by simp_all⟩
 have e1:=congrArg Prod.fst h1;have e2:=congrArg Prod.snd h1;have hq:zOb T l cs fr σ i=Qka cs i:=jCx.1 e1 i hm;have hs:(Qka cs i).isSome=true:=jAp.1 e2 i hm;obtain ⟨c,hcc⟩:=Option.isSome_iff_exists.1 hs;rw[hcc]at hq;obtain ⟨o,ho,hv⟩:=jDk.1 hq;obtain ⟨x,hx,hxc⟩:=jDk.1 hcc;have hxc:x=some c:=hxc;subst hxc;exact .pure ho hx (zGa (Kfa hT hv))
theorem mn(hT:zDa E.P T)(is:List Nat)(h1:(((List.range l.length).all fun i=> !(isHv cs i) || H.getD i false),(Kia l cs H is).map (zOb T l cs fr σ),(Kia l cs H is).all (fun i=>(Qka cs i).isSome))=(false,(Kia l cs H is).map (Qka cs),true))(h2:voa E l cs all H fr σ is):zNb E l cs K all (H,fr,σ):=
 .step _ rfl (congrArg Prod.fst h1) (ms_all hT is (congrArg Prod.snd h1) h2)
theorem mf(hT:zDa E.P T)(is:List Nat)(frJ:Fr)(h1:((Kia l cs H is).map (zOb T l cs fr σ),(Kia l cs H is).all (fun i=>(Qka cs i).isSome))=((Kia l cs H is).map (Qka cs),true))(h2:voa E l cs all H fr σ is)(hf:FrLe (purF l cs (allT l)++fr) frJ)(h:K .normal frJ σ):zNb E l cs K all (H,fr,σ):=
 .full _ rfl (ms_all hT is h1 h2) hf kLa h
theorem mst(j:Nat){i:Nat}{o:Oper}{σ' :Sto}(ho:l[i]? =some o)(h:HvS E o (purF l cs (allT l)++fr) σ σ')(e:(cs[i]?,all[j]?)=(some none,some (H.set i true,fr,σ'))):kHb E l cs all H fr σ i:=
 .sto j ho (congrArg Prod.fst e) h (congrArg Prod.snd e) kza kLa
theorem mdt(j:Nat){i k:Nat}{o:Oper}{c:AV}{rs:List Nat}{σ' :Sto}(ho:l[i]? =some o)(h:HvD E o (purF l cs (allT l)++fr) σ k c rs σ')(e:(((List.range l.length).all fun i=>yma l cs i !=some k),wdb cs rs,cs[i]?,all[j]?)=(true,true,some none,some (H.set i true,(k,c)::fr.clrs rs,σ'))):kHb E l cs all H fr σ i:=
 .dst j ho (congrArg (fun x=>x.2.2.1) e) (congrArg (fun x=>x.1) e) (congrArg (fun x=>x.2.1) e) h (congrArg (fun x=>x.2.2.2) e) kza kLa
theorem hv_g{o:Oper}{k:Nat}{c:AV}(hk:o.dst=some k)(hN:Nat.ble (k+1) E.N=true)(h:OpG E o fr σ c):HvD E o fr σ k c [] σ:=
 ⟨fun f2 he _=>jzb (y7b hk hN ⟨fun g a K Q hx=>h.go g a K Q fun x hm=>by simp_all⟩) w3b kLa⟩
theorem mz{id:Nat}(cs:List (Option AV))(mk:Fr->Sto->List Node)(hmix:E.P.follows .mixedOrders=true)(hok:(kIb E.N l cs,(mk fr σ)[0]?)=(true,some (List.replicate l.length false,fr,σ)))(h:ZUa E l cs K (mk fr σ) (mk fr σ)):AWP E (.region id l.toArray true) fr σ K:=
 VYa cs (mk fr σ) hmix (congrArg Prod.fst hok) (congrArg Prod.snd hok) rfl kza kLa h
end
section
open Go.RowKit Go.Lib Go.Proofs.Tryz
variable {E:Env} {fr:Fr} {σ:Sto} {K:Post} {T:Tab} {l:List Oper} {cs:List (Option AV)} {all:List Node} {H:List Bool}
def tget:List (Nat × AV)->Nat->Option AV
 | [],_=>none
 | (k,c)::r,i=>bif Nat.beq k i then some c else tget r i
def zrun(T:Tab)(N:Nat)(tl:List (Nat × AV)):List Oper->Nat->Fr->Sto->Option (List (Option AV) × List Sto × Sto)
 | [],_,_,σ=>some ([],[],σ)
 | o::r,i,fr,σ=>match o.dst with
  | none=>(match opDo T N o fr σ with
   | some (_,σ')=>(match zrun T N tl r (i+1) fr σ' with
    | some (cs,ss,sj)=>some (none::cs,σ' ::ss,sj)
    | none=>none)
   | none=>none)
  | some d=>(match (match tget tl i with | some c=>some c | none=>qval T fr.ev σ o.op) with
   | some c=>(match zrun T N tl r (i+1) ((d,c)::fr) σ with
    | some (cs,ss,sj)=>some (some c::cs,ss,sj)
    | none=>none)
   | none=>none)
def hvL(l:List Oper)(cs:List (Option AV)):List Nat:=(List.range l.length).filter (isHv cs)
def hvH(l:List Oper)(cs:List (Option AV))(k:Nat):List Bool:=(List.range l.length).map fun i=>((hvL l cs).take k).contains i
def stoK(σ:Sto)(ss:List Sto)(k:Nat):Sto:=(σ::ss).getD k σ
def nodK(l:List Oper)(cs:List (Option AV))(fr:Fr)(σ:Sto)(ss:List Sto)(k:Nat):Node:=(hvH l cs k,fr,stoK σ ss k)
def nods(l:List Oper)(cs:List (Option AV))(fr:Fr)(σ:Sto)(ss:List Sto):List Node:=(List.range ((hvL l cs).length+1)).map (nodK l cs fr σ ss)
def purK(l:List Oper)(cs:List (Option AV))(tl:List (Nat × AV))(k:Nat):List Nat:=(mayL l cs (hvH l cs k)).filter fun i=> !(isHv cs i) && (tget tl i).isNone
def stoD(T:Tab)(N:Nat)(l:List Oper)(cs:List (Option AV))(fr:Fr)(σ:Sto)(ss:List Sto)(k:Nat):Option Sto:=match l[(hvL l cs).getD k 0]? with
 | some o=>(match o.dst with
  | none=>(opDo T N o (purF l cs (allT l)++fr) (stoK σ ss k)).map Prod.snd
  | some _=>none)
 | none=>none
def zchk(N:Nat)(tl:List (Nat × AV))(l:List Oper)(cs:List (Option AV)):Bool:=
 kIb N l cs &&
 ((List.range ((hvL l cs).length+1)).all fun k=>(mayL l cs (hvH l cs k)).all fun i=> !(isHv cs i) || (Nat.beq i ((hvL l cs).getD k 0) && Nat.ble (k+1) (hvL l cs).length)) &&
 ((List.range (hvL l cs).length).all fun k=>((hvH l cs k).set ((hvL l cs).getD k 0) true==hvH l cs (k+1)) && !((List.range l.length).all fun i=> !(isHv cs i) || (hvH l cs k).getD i false)) &&
 (hvH l cs 0==List.replicate l.length false) &&
 ((List.range ((hvL l cs).length+1)).all fun k=>(purK l cs tl k).all fun i=>(Qka cs i).isSome)
inductive Told (E:Env) (l:List Oper) (cs:List (Option AV)) (fr:Fr) (L:List Sto):List (Nat × AV)->Prop
 | nil:Told E l cs fr L []
 | cons {i:Nat} {c:AV} {o:Oper} {r:List (Nat × AV)} (ho:l[i]? =some o) (hc:cs[i]? =some (some c)) (h:∀s,s∈L->OpG E o (purF l cs (allT l)++fr) s c) (hr:Told E l cs fr L r):Told E l cs fr L ((i,c)::r)
theorem t0{o:Oper}{FR:Fr}{c:AV}(h:OpG E o FR σ c):∀s,s∈ [σ]->OpG E o FR s c:=fun s hs=>by
 simp_all
theorem Told.get{L:List Sto}{tl:List (Nat × AV)}(h:Told E l cs fr L tl){i:Nat}(hi:(tget tl i).isSome=true):∃o c,l[i]? =some o/\cs[i]? =some (some c)/\∀s,s∈L->OpG E o (purF l cs (allT l)++fr) s c:=by
 induction h with
 | nil=>cases hi
 | @cons k c o r ho hc h _ ih=>
  unfold tget at hi;cases hb:Nat.beq k i with
  | true=>
   simp_all
  | false=>simp_all
theorem ZUa.of:∀{r:List Node},(∀nd∈r,zNb E l cs K all nd)->ZUa E l cs K all r
 | [],_=>.nil
 | nd::r,h=>.cons (h nd (by simp)) (ZUa.of fun x hx=>h x (by grind))
theorem opDo_sto{N:Nat}{o:Oper}{FR:Fr}{p:Fr × Sto}(hT:zDa E.P T)(hN:N=E.N)(hd:o.dst=none)(h:opDo T N o FR σ=some p):HvS E o FR σ p.2:=by
 subst hN;obtain ⟨f2,σ'⟩:=p;refine ⟨fun fr he _=>?_⟩;refine zHb hT ?_;obtain ⟨dst,op,ty,pos,af,gu⟩:=o;dsimp only at hd;subst hd;unfold opDo at h ⊢;dsimp only at h ⊢;cases op
 case store t x y=>
  have e1:=he x (by simp[Op.operands,Call.operands]);have e2:=he y (by simp[Op.operands,Call.operands]);dsimp only at h ⊢;rw[e1,e2];split at h
  .rename_i row hr;split at h
   .rename_i b off hx;split at h
    .rename_i cs' ho;split at h
     .rename_i vs hy;cases hb:(Nat.beq vs.length row.size && Nat.ble (off+vs.length) cs'.length) with
      | false=>simp_all
      | true=>
       rw[hb]at h;simp only[cond_true]at h ⊢;split at h
       .rename_i c2 hc2;split at h;all_goals simp_all
       grind
     grind
    grind
   grind
  grind
 all_goals cases h
theorem mc(hT:zDa E.P T){id:Nat}(tl:List (Nat × AV))(frJ:Fr){ss:List Sto}{σJ:Sto}(hmix:E.P.follows .mixedOrders=true)(hz:zrun T E.N tl l 0 fr σ=some (cs,ss,σJ))
 (hk:(zchk E.N tl l cs,(List.range ((hvL l cs).length+1)).map (fun k=>(purK l cs tl k).map (zOb T l cs fr (stoK σ ss k))),(List.range (hvL l cs).length).map (stoD T E.N l cs fr σ ss),stoK σ ss (hvL l cs).length)=(true,(List.range ((hvL l cs).length+1)).map (fun k=>(purK l cs tl k).map (Qka cs)),(List.range (hvL l cs).length).map (fun k=>some (stoK σ ss (k+1))),σJ))
 (ht:Told E l cs fr (σ::ss) tl) (hf:FrLe (purF l cs (allT l)++fr) frJ) (h:K .normal frJ σJ):AWP E (.region id l.toArray true) fr σ K:=by
 have k1:=congrArg (fun x=>x.1) hk;have k2:=congrArg (fun x=>x.2.1) hk;have k3:=congrArg (fun x=>x.2.2.1) hk;have k4:=congrArg (fun x=>x.2.2.2) hk;dsimp only at k1 k2 k3 k4;rw[<-k4]at h;have hin:∀k,stoK σ ss k∈σ::ss:=fun k=>by
  unfold stoK
  grind
 simp only[zchk,jAn,jAp]at k1;obtain ⟨⟨⟨⟨q1,q2⟩,q3⟩,q4⟩,q5⟩:=k1;have hget:∀k,k < (hvL l cs).length+1->(nods l cs fr σ ss)[k]? =some (nodK l cs fr σ ss k):=fun k hk=>by
  unfold nods
  simp_all
 refine VYa cs (nods l cs fr σ ss) hmix q1 (hget 0 (by omega)) (by simp_all) kza kLa (ZUa.of fun nd hnd=>?_);obtain ⟨k,hk',rfl⟩:=jCe.1 hnd;have hkr:k < (hvL l cs).length+1:=by simpa using hk'
 have steps:voa E l cs (nods l cs fr σ ss) (hvH l cs k) fr (stoK σ ss k) (mayL l cs (hvH l cs k)):=voa.of fun i hi=>by
  have hi2:=q2 k (by omega) i hi;cases hh:isHv cs i with
  | true=>
   rw[hh]at hi2;simp only[jBo,Bool.false_or,jAn]at hi2;have hik:=jAl hi2.1;have hkn:=jAf hi2.2;have h3:=jCx.1 k3 k (jDf.2 (by omega));have hq3:=q3 k (jDf.2 (by omega));simp only[jAn,beq_iff_eq]at hq3;unfold stoD at h3;rw[<-hik]at h3 hq3;split at h3
   .rename_i o ho;split at h3
    .rename_i hd;obtain ⟨p,hp,hp2⟩:=jAh.1 h3;have hc:cs[i]? =some none:=by
      unfold isHv at hh;split at hh
      .omega
      cases hh
     have hs:=opDo_sto hT rfl hd hp;rw[hp2]at hs;exact .sto (k+1) ho hc hs (by rw[hget (k+1) (by omega)];unfold nodK;grind) kza kLa
    grind
   grind
  | false=>
   cases htl:tget tl i with
   | some c0=>
    obtain ⟨o,c,e1,e2,e3⟩:=ht.get (i:=i) (by simp_all);exact .pure e1 e2 (e3 _ (hin k))
   | none=>
    have hm:i∈purK l cs tl k:=by
     unfold purK;rw[List.mem_filter];exact ⟨hi,by simp_all⟩
    have e1:=jCx.1 k2 k (by omega);have hq:zOb T l cs fr (stoK σ ss k) i=Qka cs i:=jCx.1 e1 i hm;have hs:=q5 k (by omega) i hm;obtain ⟨c,hcc⟩:=Option.isSome_iff_exists.1 hs;rw[hcc]at hq;obtain ⟨o,ho,hv⟩:=jDk.1 hq;obtain ⟨x,hx,hxc⟩:=jDk.1 hcc;have hxc:x=some c:=hxc;subst hxc;exact .pure ho hx (zGa (Kfa hT hv))
 by_cases hkn:k < (hvL l cs).length
 .have hq3:=q3 k (by simp_all);simp only[jAn,jBv]at hq3;exact .step _ rfl hq3.2 steps
 have:k=(hvL l cs).length:=by omega
 subst this;exact .full _ rfl steps hf kLa h
end
section
open Go.RowKit Go.Lib Go.Proofs.Tryz
def Fr.mp(f:AV->AV):Fr->Fr
 | []=>[]
 | (k,c)::l=>(k,f c)::Fr.mp f l
def AO.mp(f:AV->AV):AO->AO
 | .cells cs=>.cells (cs.map f)
 | .hold c v=>.hold (f c) v
 | o=>o
def Sto.mp(f:AV->AV):Sto->Sto
 | []=>[]
 | (k,a)::l=>(k,a.mp f)::Sto.mp f l
theorem Fr.get_mp{f:AV->AV}(h0:f .any=.any)(fr:Fr)(d:Nat):(fr.mp f).get d=f (fr.get d):=by
 induction fr with
 | nil=>exact h0.symm
 | cons x l ih=>
  obtain ⟨k,c⟩:=x;simp only[Fr.mp,Fr.get_cons,ih]
  grind
theorem Sto.get_mp(f:AV->AV)(σ:Sto)(o:Nat):(σ.mp f).get o=(σ.get o).map (AO.mp f):=by
 induction σ with
 | nil=>rfl
 | cons x l ih=>
  obtain ⟨k,c⟩:=x;simp only[Sto.mp,Sto.get_cons,ih]
  grind
theorem AO.own_mp(f:AV->AV)(ob:AO)(l:Loc):(ob.mp f).own l=ob.own l:=by cases ob <;> rfl
def AV.on(f:AV->AV):AV->AV
 | .agg l=>.agg (l.map f)
 | c=>f c
theorem rel_on{g g' :G}{f:AV->AV}(hf:∀c v,Rel g c v->Rel g' (f c) v){c:AV}{v:Value}(h:Rel g c v):Rel g' (AV.on f c) v:=by
 cases c
 case agg cs=>
  cases h with
  | agg hl hc h=>
   refine .agg (by grind) hc fun i c hi=>?_
   grind
 all_goals exact hf _ _ h
variable {E:Env} {fr:Fr} {σ:Sto} {K:Post}
theorem St.turn{g g' :G}{a:Act}(h:St E g a fr σ){r:Nat}{ob0 ob:AO}(hr:σ.get r=some ob0)(R:List Nat)(hR:r ∉ R)(f:AV->AV)(hf0:f .any=.any)(hf:∀c v,Rel g c v->Rel g' (f c) v)
 (hx:Ext g.w g.u g'.w g'.u) (hl:∀k,k≠r->g'.loc k=g.loc k) (hos:g'.w.os=g.w.os) (htape:g'.w.tape=g.w.tape) (hout:g'.w.output=g.w.output)
 (hb:∀b,b < g.w.heap.size->(∀o ob1,(o=r∨o∈R)->σ.get o=some ob1->¬ob1.own (g.loc o) b)->g'.w.heap[b]? =g.w.heap[b]? /\g'.u b=g.u b) (hwf:Wf g') (hob:RelO g' r ob)
 (hnew:∀b,ob.own (g'.loc r) b->(∃o ob1,(o=r∨o∈R)/\σ.get o=some ob1/\ob1.own (g.loc o) b)∨g.w.heap.size<=b):St E g' a (fr.mp f) (((σ.dels R).mp f).upd r ob):=by
 have hgr:((σ.dels R).mp f).get r=some (ob0.mp f):=by rw[Sto.get_mp,Sto.get_dels,if_neg hR,hr];rfl
 have hget:∀o ob',(((σ.dels R).mp f).upd r ob).get o=some ob' ->(o=r/\ob' =ob)∨(o≠r/\o ∉ R/\∃ob1,σ.get o=some ob1/\ob' =ob1.mp f):=by
  intro o ob' ho;rw[Sto.get_upd hgr]at ho;split at ho
  .simp_all
  rename_i hor;rw[Sto.get_mp,Sto.get_dels]at ho;split at ho
  .cases ho
  rename_i hoR;cases ho1:σ.get o with
  | none=>simp_all
  | some ob1=>simp_all
 have hdis:∀o ob1 b,o≠r->o ∉ R->σ.get o=some ob1->ob1.own (g.loc o) b->∀o' ob2,(o' =r∨o' ∈R)->σ.get o' =some ob2->¬ob2.own (g.loc o') b:=by
  intro o ob1 b hne hnR ho hbo o' ob2 ho' h2 hc;have:=h.so.apart o o' ob1 ob2 b ho h2 hbo hc;subst this;rcases ho' with rfl | ho'
  .omega
  simp_all
 refine ⟨fun d=>by rw[Fr.get_mp hf0];exact hf _ _ (h.fr d),h.n,h.df.mono hx,⟨?_,?_,?_,?_,hwf⟩⟩
 .intro o ob' ho;rcases hget o ob' ho with ⟨rfl,rfl⟩ | ⟨hne,hnR,ob1,ho1,rfl⟩
  .omega
  have hro:=h.so.obj o ob1 ho1;have hbb:∀b,ob1.own (g.loc o) b->g'.w.heap[b]? =g.w.heap[b]? /\g'.u b=g.u b:=fun b hb' =>hb b (hro.block_lt hb') (hdis o ob1 b hne hnR ho1 hb')
  cases ob1
  case cells cs=>
   cases hro with
   | @cells _ b t vs h1 h2 h3 h4 h5 h6=>
    obtain ⟨b1,b2⟩:=hbb b (by rw[h1];rfl);refine .cells ((hl o hne).trans h1) (b1.trans h2) (by simp_all) (b2.trans h4) h5 fun i c hi=>?_
    grind
  case hold c v=>cases hro with
   | hold h1=>exact .hold (hf _ _ h1)
  all_goals exact hro.mono hx (hl o hne) (fun _ hk=>by cases hk) hbb
 .intro o o' ob1 ob2 b h1 h2 h3 h4;rcases hget o ob1 h1 with ⟨rfl,rfl⟩ | ⟨hne,hnR,ob1,ho1,rfl⟩ <;> rcases hget o' ob2 h2 with ⟨rfl,rfl⟩ | ⟨hne',hnR',ob2,ho2,rfl⟩
  .rfl
  .rw[AO.own_mp,hl o' hne']at h4;rcases hnew b h3 with ⟨q,obq,hq,hq1,hq2⟩ | h5
   .grind
   have:=(h.so.obj o' _ ho2).block_lt h4;omega
  .rw[AO.own_mp,hl o hne]at h3;rcases hnew b h4 with ⟨q,obq,hq,hq1,hq2⟩ | h5
   .grind
   have:=(h.so.obj o _ ho1).block_lt h3;omega
  rw[AO.own_mp,hl o hne]at h3;rw[AO.own_mp,hl o' hne']at h4;exact h.so.apart o o' _ _ b ho1 ho2 h3 h4
 .intro o ob1 b h1 h2;rcases hget o ob1 h1 with ⟨rfl,rfl⟩ | ⟨hne,hnR,ob1,ho1,rfl⟩
  .rcases hnew b h2 with ⟨q,obq,hq,hq1,hq2⟩ | h5
   .exact h.so.mine q obq b hq1 hq2
   exact .inl (jAt h.so.old.ext.size h5)
  rw[AO.own_mp,hl o hne]at h2;exact h.so.mine o _ b ho1 h2
 refine h.so.old.trans ⟨hos,htape,hout,hx,fun b hbl hs=>hb b hbl fun q obq hq hq1 hq2=>?_⟩;rcases h.so.mine q obq b hq1 hq2 with h1 | h1
 all_goals simp_all
def Kja(size2:Nat):Loc->Loc
 | .row b off cap size n=>.nest b off cap size n size2 []
 | l=>l
def AV.nst(r:Nat):AV->AV
 | .hs x off=>bif Nat.beq x r then .ns r else .hs x off
 | c=>bif c.has r then .any else c
theorem JTa{g g' :G}{r:Nat}(hx:Ext g.w g.u g'.w g'.u)(hl:∀k,k≠r->g'.loc k=g.loc k){c:AV}{v:Value}(h:Rel g c v):Rel g' (bif c.has r then .any else c) v:=zvb hx hl h
theorem rel_nst{g g' :G}{r size2:Nat}(hx:Ext g.w g.u g'.w g'.u)(hk:∀k,k≠r->g'.loc k=g.loc k)(hl:g'.loc r=Kja size2 (g.loc r)){c:AV}{v:Value}(h:Rel g c v):Rel g' (c.nst r) v:=by
 cases c
 case hs x off=>
  cases hb:Nat.beq x r with
  | true=>
   rw[show AV.nst r (.hs x off)=.ns r by show (bif Nat.beq x r then AV.ns r else AV.hs x off)=_;simp_all];have:x=r:=jAl hb;subst this;cases h with
   | hsNil a h1=>exact .nsNil a (by rw[hl,h1];rfl)
   | hs h1 h2=>exact .ns (size2:=size2) (subs:=[]) (by rw[hl,h1];rfl) h2
  | false=>
   rw[show AV.nst r (.hs x off)=.hs x off by show (bif Nat.beq x r then AV.ns r else AV.hs x off)=_;simp_all];have hne:x≠r:=by rintro rfl;simp at hb
   exact h.mono hx fun k hk' =>hk k (by have:=jAl (show Nat.beq x k=true from hk');omega)
 all_goals exact JTa hx hk h
theorem St.nest{g:G}{a:Act}{r size:Nat}{e:TypeId}{elems:List (List PV)}(h:St E g a fr σ)(hr:σ.get r=some (.row e true size elems))(j:Nat)(e2:TypeId)(size2:Nat):
 St E ⟨g.w,g.u,fun k=>if k=r then Kja size2 (g.loc r) else g.loc k⟩ a (fr.mp (AV.on (AV.nst r))) (((σ.dels []).mp (AV.on (AV.nst r))).upd r (.nrow e size j e2 size2 0 elems)):=by
 have hl:(⟨g.w,g.u,fun k=>if k=r then Kja size2 (g.loc r) else g.loc k⟩:G).loc r=Kja size2 (g.loc r):=if_pos rfl;have hob:=h.so.obj r _ hr;have hbl:(Kja size2 (g.loc r)).block=(g.loc r).block/\(∀b,b∈(Kja size2 (g.loc r)).subs->(g.loc r).block=some b):=by
  cases hob with
  | nil h1=>rw[h1];exact ⟨rfl,fun b hb=>by cases hb⟩
  | row h1=>rw[h1];exact ⟨rfl,fun b hb=>by cases hb⟩
 refine h.turn (g' :=⟨g.w,g.u,fun k=>if k=r then Kja size2 (g.loc r) else g.loc k⟩) hr [] (by simp) _ rfl (fun c v=>rel_on fun c v=>rel_nst (g:=g) (g' :=⟨g.w,g.u,fun k=>if k=r then Kja size2 (g.loc r) else g.loc k⟩) (Ext.refl _ _) (fun k hk=>if_neg hk) hl) (Ext.refl _ _) (fun k hk=>if_neg hk) rfl rfl rfl (fun _ _ _=>⟨rfl,rfl⟩) h.so.wf ?_ (fun b hb=>.inl ⟨r,_,.inl rfl,hr,?_⟩)
 .cases hob with
  | nil h1=>exact .nrowNil (by rw[hl,h1];rfl)
  | row h1 h2 h3 h4 h5 h6 h7 h8 h9=>exact .nrow (subs:=[]) (by rw[hl,h1];rfl) h2 h3 h4 h5 h6 (h8 rfl) rfl (jBi _) (by simp[vma]) (fun i j' x c hi hj _=>h9 i j' x c hi hj) (fun i s x hi=>by grind)
 rcases hb with hb | hb
 .rw[hl,hbl.1]at hb;exact hb
 rw[hl]at hb;exact hbl.2 b hb
theorem WDa.pub{w:World}{u:Nat->Nat}{e:TypeId}{mu:Bool}{size:Nat}{rows:List (List PV)}{s:Nat × Nat × Nat × Nat}{v:Value}(h:WDa w u e mu size rows s v){u' :Nat->Nat}(hx:Ext0 w u w u')(hu:(s.2.1+s.2.2.2) * size<=u' s.1):RelP w u' (.sl none rows) v:=by
 obtain ⟨vs,h1,h2,h3⟩:=h.blk;have hv:=h.val;rw[<-h.n]at hv;subst hv;have hne:rows≠ []:=by rintro rfl;have:=h.pos;rw[<-h.n]at this;simp at this
 have hle:rows.length<=s.2.2.1:=by rw[h.n];exact h.le
 refine .sl size s.1 (s.2.1 * size) (fun i=>vs.getD (s.2.1 * size+i) undef) (fun x hx=>by cases hx) (fun hx=>by cases hx) hle h.z (fun _=>rfl) (fun _=>⟨?_,zVa h1⟩) (fun i hi=>?_) (fun i j x c hi hj=>?_)
 .rw[<-jBn,h.n];exact hu
 .refine kda h1 ?_;rw[h2,jBn];have:=jBc size hle;omega
 have:=(h3 i j x c hi hj).mono0 hx
 grind
theorem qTb.pub{w:World}{u:Nat->Nat}{e:TypeId}{size:Nat}{rows:List (List PV)}{s:Option (Nat × Nat × Nat × Nat)}{v:Value}(h:qTb w u e size rows s v){u' :Nat->Nat}(hx:Ext0 w u w u')(hu:∀t,s=some t->(t.2.1+t.2.2.2) * size<=u' t.1):RelP w u' (.sl none rows) v:=by
 cases s with
 | none=>
  obtain ⟨rfl,a,cap,rfl,h0⟩:=h;have:=RelP.sl (w:=w) (u:=u') (nl:=none) (elems:=[]) (a:=a) (cap:=cap) 1 0 0 (fun _=>undef) (fun x hx=>by cases hx) (fun hx=>⟨h0 hx,rfl⟩) (by simp) (by simp) (by simp) (by simp) (fun i hi=>by grind) (fun i j e c hi=>by grind);omega
 | some t=>exact WDa.pub h hx (hu t rfl)
end
section
open Go.RowKit Go.Lib Go.Proofs.Tryz
variable {E:Env} {fr:Fr} {σ:Sto} {K:Post} {P:Program} {ρ:Operand->AV}
variable {dst:Option Tmp} {ty:TypeId} {pos:String} {af:Array Edge} {gu:Option (Nat × Bool)}
section
variable {α β:Type} {F:α->List PV} {G2:β->List PV} {l:List α} {l2:List β} {r size size2 bytes sb ss k j m:Nat} {e e2 t:TypeId} {zero sz:Value} {d:TypeDesc} {x y:Operand}
structure NAt (g:G) (r:Nat) (e:TypeId) (size j:Nat) (e2:TypeId) (size2 m:Nat) (F:α->List PV) (l:List α) (b off cap:Nat) (vs:Array Value) (subs:List (Option (Nat × Nat × Nat × Nat))):Prop where
 loc:g.loc r=.nest b off cap size l.length size2 subs
 heap:g.w.heap[b]? =some (.cells vs e (0,0))
 sz:vs.size=(off+cap) * size
 max:cap<=maxLen
 le:l.length<=cap
 z:∀x∈l,(F x).length=size
 u:g.u b=0
 sl:subs.length=m
 ml:m<=l.length
 nd:(b::vma subs).Nodup
 cell:∀i j' x c,l[i]? =some x->(F x)[j']? =some c->(m<=i∨j' ≠j)->RelP g.w g.u c (vs.getD ((off+i) * size+j') undef)
 sub:∀i s x,subs[i]? =some s->l[i]? =some x->∃rows,(F x)[j]? =some (.sl none rows)/\qTb g.w g.u e2 size2 rows s (vs.getD ((off+i) * size+j) undef)
theorem NAt.obj{g:G}{b off cap:Nat}{vs:Array Value}{subs:List (Option (Nat × Nat × Nat × Nat))}(h:NAt g r e size j e2 size2 m F l b off cap vs subs):RelO g r (.nrow e size j e2 size2 m (l.map F)):=
 .nrow (by rw[jAx];exact h.loc) h.heap h.sz h.max (by rw[jAx];exact h.le) (fun x hx=>by obtain ⟨y,hy,rfl⟩:=jCe.1 hx;exact h.z y hy) h.u h.sl (by rw[jAx];exact h.ml) h.nd
  (fun i j' x c hi hj hc=>by
   simp only[jAk,jAh]at hi;obtain ⟨y,hy,rfl⟩:=hi;exact h.cell i j' y c hy hj hc)
  (fun i s x hi hx=>by
   simp only[jAk,jAh]at hx;obtain ⟨y,hy,rfl⟩:=hx;exact h.sub i s y hi hy)
theorem NAt.place{g:G}{b off cap i q:Nat}{vs:Array Value}{subs:List (Option (Nat × Nat × Nat × Nat))}(h:NAt g r e size j e2 size2 m F l b off cap vs subs)(hi:i < l.length)(hq:q < size):(off+i) * size+q < vs.size:=by
 rw[h.sz];exact q7b (s:=1) hi h.le hq
section
variable {t' :TypeId} {size' bytes' :Nat} {zero' :Value} {d' :TypeDesc} {n:Int} {j0:Nat} {v v' :α} {c:PV}
theorem WDa.lt{w:World}{u:Nat->Nat}{mu:Bool}{s:Nat × Nat × Nat × Nat}{vx:Value}{i q:Nat}{vs:Array Value}(h:WDa w u e mu size (l.map F) s vx)(hsz:vs.size=(s.2.1+s.2.2.1) * size)(hi:i < l.length)(hq:q < size):(s.2.1+i) * size+q < vs.size:=by
 rw[hsz];have h1:=h.n;have h2:=h.le;rw[jAx]at h1;exact q7b (s:=1) (n:=l.length) hi (by omega) hq
end
end
end
section
open Go.RowKit Go.Lib Go.Proofs.Tryz
structure Wrote (w w' :World) (b p:Nat) (t:TypeId) (cur new:Array Value) (cl:List Value):Prop where
 os:w'.os=w.os
 tape:w'.tape=w.tape
 output:w'.output=w.output
 size:w'.heap.size=w.heap.size
 other:∀k,k≠b->w'.heap[k]? =w.heap[k]?
 here:w'.heap[b]? =some (.cells new t (0,0))
 sz:new.size=cur.size
 inn:∀q,q < cl.length->new.getD (p+q) undef=cl.getD q undef
 out:∀q,(q < p∨p+cl.length<=q)->new.getD q undef=cur.getD q undef
theorem Wrote.ext{w w' :World}{b p:Nat}{t:TypeId}{cur new:Array Value}{cl:List Value}{u:Nat->Nat}(h:Wrote w w' b p t cur new cl)(hb:w.heap[b]? =some (.cells cur t (0,0)))(hu:u b=0):Ext w u w' u:=⟨jBm h.size.symm,fun _ _=>jAm _,fun k i hk hi=>by
 by_cases hkb:k=b
 .subst hkb;omega
 simp only[World.cell?];rw[h.other k hkb],fun r hr=>(h.other r (by rintro rfl;rw[hb]at hr;cases hr)).trans hr⟩
theorem kKb{vs:Array Value}(h:∀i,i < vs.size->cellV (vs.getD i undef)=true):∀u∈vs.toList,u.oneCell' =true:=by
 intro u hu;obtain ⟨i,hi,rfl⟩:=jBz hu;have h0:=h i (by simpa using hi);rw[show vs.getD i undef=vs.toList[i] by simp[Array.getD,show i < vs.size by simpa using hi]]at h0;cases hcase:vs.toList[i] <;> rw[hcase]at h0 <;> first | rfl | simp[cellV]at h0
variable {E:Env} {fr:Fr} {σ:Sto} {K:Post} {P:Program} {ρ:Operand->AV}
variable {dst:Option Tmp} {ty:TypeId} {pos:String} {af:Array Edge} {gu:Option (Nat × Bool)}
section
variable {α β:Type} {F:α->List PV} {G2:β->List PV} {l:List α} {l2:List β} {r r2 size size2 bytes sb ss k j m:Nat} {e e2 t:TypeId} {zero sz:Value} {d:TypeDesc} {x y:Operand}
variable {t' :TypeId} {size' bytes' :Nat} {zero' :Value} {d' :TypeDesc} {n:Int} {j0:Nat} {v v' :α} {c:PV}
end
end
section
open Go.RowKit Go.Lib Go.Proofs.Tryz
def kLb(l l' :Loc):Prop:=l' =l∨(∃b off cap size n size2 subs more,l=.nest b off cap size n size2 subs/\l' =.nest b off cap size n size2 (subs++more))∨∃b subs subs',l=.mapr b subs/\l' =.mapr b subs'
theorem kLb.plain{l l' :Loc}(h:kLb l l')(hn:∀b off cap size n size2 subs,l≠ .nest b off cap size n size2 subs/\l≠ .mapr b subs):l' =l:=by
 rcases h with h | ⟨b,off,cap,size,n,size2,subs,more,h,_⟩ | ⟨b,subs,subs',h,_⟩
 .exact h
 .grind
 simp_all
theorem kLb.mapr{l' :Loc}{b:Nat}{subs:List (Option (Nat × Nat × Nat × Nat))}(h:kLb (.mapr b subs) l'):∃subs',l' =.mapr b subs' :=by
 rcases h with h | ⟨b',off',cap',size',n',size2',subs',more,h,h2⟩ | ⟨b',s1,s2,h,h2⟩
 all_goals simp_all
theorem kLb.nest{l' :Loc}{b off cap size n size2:Nat}{subs:List (Option (Nat × Nat × Nat × Nat))}(h:kLb (.nest b off cap size n size2 subs) l'):∃more,l' =.nest b off cap size n size2 (subs++more):=by
 rcases h with h | ⟨b',off',cap',size',n',size2',subs',more,h,h2⟩ | ⟨b',s1,s2,h,h2⟩
 all_goals simp_all
theorem zPb{α:Type}{l more:List α}{i:Nat}{x:α}(h:l[i]? =some x):(l++more)[i]? =some x:=by
 grind
theorem Rel.more{g g' :G}(hx:Ext g.w g.u g'.w g'.u){c:AV}{v:Value}(h:Rel g c v):(∀o,c.has o=true->kLb (g.loc o) (g'.loc o))->Rel g' c v:=by
 have hx0:=hx.to0;induction h with
 | any v=>exact fun _=>.any v
 | pv h=>exact fun _=>.pv (h.mono0 hx0)
 | @agg cs vs hl hc h ih=>exact fun hh=>.agg hl hc (fun i c hi=>ih i c hi fun o ho=>hh o (by unfold AV.has;exact AV.hasL_of hi ho))
 | @tup cs vs hl h ih=>exact fun hh=>.tup hl (fun i c hi=>ih i c hi fun o ho=>hh o (by unfold AV.has;exact AV.hasL_of hi ho))
 | @ptr o off b hl=>exact fun hh=>.ptr (by have:=hh o (by simp[AV.has]);rw[hl]at this;exact this.plain (by simp_all))
 | @ep cells b off val hu hb hcell h=>exact fun hh=>Rel.mono hx (.ep val hu hb hcell h) (fun o ho=>by cases ho)
 | @hsNil r a hl=>exact fun hh=>.hsNil a (by have:=hh r (by simp[AV.has]);rw[hl]at this;exact this.plain (by simp_all))
 | @hs r b off cap size n a hl ha=>exact fun hh=>.hs (by have:=hh r (by simp[AV.has]);rw[hl]at this;exact this.plain (by simp_all)) ha
 | @hp r idx j b off cap size n hl hi=>exact fun hh=>.hp (by have:=hh r (by simp[AV.has]);rw[hl]at this;exact this.plain (by simp_all)) hi
 | @fn f first captured fv cv h1 h2 hf hc ihf ihc=>
  exact fun hh=>.fn h1 h2 (fun i c hi=>ihf i c hi fun o ho=>hh o (by simp[AV.has,AV.hasL_of hi ho])) (fun i c hi=>ihc i c hi fun o ho=>hh o (by simp[AV.has,AV.hasL_of hi ho]))
 | @mp o b hl=>exact fun hh=>.mp (by have:=hh o (by simp[AV.has]);rw[hl]at this;exact this.plain (by simp_all))
 | @hsubNil r lo a hl=>exact fun hh=>.hsubNil a (by have:=hh r (by simp[AV.has]);rw[hl]at this;exact this.plain (by simp_all))
 | @hsub r lo b off cap size n a hl hle ha=>exact fun hh=>.hsub (by have:=hh r (by simp[AV.has]);rw[hl]at this;exact this.plain (by simp_all)) hle ha
 | z0 a=>exact fun _=>.z0 a
 | ifc h=>exact fun _=>.ifc h
 | @hpreNil r a hl=>exact fun hh=>.hpreNil a (by have:=hh r (by simp[AV.has]);rw[hl]at this;exact this.plain (by simp_all))
 | @hpre r hi b off cap size n a hl hle ha=>exact fun hh=>.hpre (by have:=hh r (by simp[AV.has]);rw[hl]at this;exact this.plain (by simp_all)) hle ha
 | @nsNil r a hl=>exact fun hh=>.nsNil a (by have:=hh r (by simp[AV.has]);rw[hl]at this;exact this.plain (by simp_all))
 | @ns r b off cap size n size2 subs a hl ha=>exact fun hh=>by have:=hh r (by simp[AV.has]);rw[hl]at this;obtain ⟨more,h2⟩:=this.nest;exact .ns h2 ha
 | @np r idx j b off cap size n size2 subs hl hi=>exact fun hh=>by have:=hh r (by simp[AV.has]);rw[hl]at this;obtain ⟨more,h2⟩:=this.nest;exact .np h2 hi
 | @hnNil r idx b off cap size n size2 subs a cap2 hl hs=>exact fun hh=>by have:=hh r (by simp[AV.has]);rw[hl]at this;obtain ⟨more,h2⟩:=this.nest;exact .hnNil a cap2 h2 (zPb hs)
 | @hn r idx b off cap size n size2 b2 off2 cap2 n2 subs hl hs=>exact fun hh=>by have:=hh r (by simp[AV.has]);rw[hl]at this;obtain ⟨more,h2⟩:=this.nest;exact .hn h2 (zPb hs)
 | @hnp r idx k j b off cap size n size2 b2 off2 cap2 n2 subs hl hs hk=>exact fun hh=>by have:=hh r (by simp[AV.has]);rw[hl]at this;obtain ⟨more,h2⟩:=this.nest;exact .hnp h2 (zPb hs) hk
 | nn h=>exact fun _=>.nn h
 | @ls o b hl=>exact fun hh=>.ls (by have:=hh o (by simp[AV.has]);rw[hl]at this;exact this.plain (by simp_all))
 | @mr o b subs hl=>exact fun hh=>by have:=hh o (by simp[AV.has]);rw[hl]at this;obtain ⟨s,h2⟩:=this.mapr;exact .mr h2
variable {E:Env} {fr:Fr} {σ:Sto} {K:Post} {P:Program} {ρ:Operand->AV}
variable {dst:Option Tmp} {ty:TypeId} {pos:String} {af:Array Edge} {gu:Option (Nat × Bool)}
section
variable {α β:Type} {F:α->List PV} {G2:β->List PV} {l:List α} {l2:List β} {r r2 size size2 bytes sb ss k j m:Nat} {e e2 t:TypeId} {zero sz:Value} {d:TypeDesc} {x y:Operand}
variable {t' :TypeId} {size' bytes' :Nat} {zero' :Value} {d' :TypeDesc} {n:Int} {j0:Nat} {v v' :α} {c:PV}
end
end
section
open Go.RowKit Go.Lib Go.Proofs.Tryz
variable {E:Env} {fr:Fr} {σ:Sto} {K:Post} {P:Program} {ρ:Operand->AV}
variable {dst:Option Tmp} {ty:TypeId} {pos:String} {af:Array Edge} {gu:Option (Nat × Bool)}
section
variable {α β:Type} {F:α->List PV} {G2:β->List PV} {l r' :List α} {l2:List β} {r r2 o size size2 bytes sb ss k j m lim:Nat} {e e2 t:TypeId} {zero sz:Value} {d:TypeDesc} {x y:Operand} {v:α} {cs:List AV}
end
end
section
open Go.RowKit Go.Lib Go.Proofs.Tryz
variable {E:Env} {fr:Fr} {σ:Sto} {K:Post}
theorem St.split{g g' :G}{a:Act}(h:St E g a fr σ){r r1:Nat}{ob0 ob ob1:AO}(hr:σ.get r=some ob0)(hf1:fr.has r1=false)(hs1:σ.has r1=false)(hg1:σ.get r1=none)(hw:g'.w=g.w)(hu:g'.u=g.u)(hl:∀k,k≠r->k≠r1->g'.loc k=g.loc k)(hle:kLb (g.loc r) (g'.loc r))
 (hok:ob0.has r1=false) (hob:RelO g' r ob) (hob1:RelO g' r1 ob1) (hsub:∀b,ob.own (g'.loc r) b->ob0.own (g.loc r) b) (hsub1:∀b,ob1.own (g'.loc r1) b->ob0.own (g.loc r) b) (hdis:∀b,ob.own (g'.loc r) b->¬ob1.own (g'.loc r1) b)
 (hhas:∀o ob2,o≠r->σ.get o=some ob2->ob2.has r=true->∃cs,ob2=.cells cs∨∃c v,ob2=.hold c v):St E g' a fr ((r1,ob1)::σ.upd r ob):=by
 have hne:r≠r1:=by rintro rfl;rw[hr]at hg1;cases hg1
 have hx:Ext g.w g.u g'.w g'.u:=by rw[hw,hu];exact Ext.refl _ _
 have hrel:∀c v,c.has r1=false->Rel g c v->Rel g' c v:=fun c v hc hv=>hv.more hx fun o ho=>by
  by_cases h1:o=r
  .simp_all
  by_cases h2:o=r1
  .simp_all
  exact .inl (hl o h1 h2)
 have hgu:=Sto.get_upd (ob:=ob) hr;have hget:∀o ob',Sto.get ((r1,ob1)::σ.upd r ob) o=some ob' ->(o=r1/\ob' =ob1)∨(o=r/\ob' =ob)∨(o≠r/\o≠r1/\σ.get o=some ob'):=by
  intro o ob' ho;rw[Sto.get_cons]at ho;split at ho
  .simp_all
  grind
 refine ⟨fun d=>hrel _ _ ?_ (h.fr d),h.n,by rw[hw];exact h.df,⟨?_,?_,?_,?_,fun k hk=>by rw[hu];exact h.so.wf k (by simp_all)⟩⟩
 .cases hh:(fr.get d).has r1 with
  | false=>rfl
  | true=>rw[Fr.has_get hh]at hf1;omega
 .intro o ob' ho;rcases hget o ob' ho with ⟨rfl,rfl⟩ | ⟨rfl,rfl⟩ | ⟨h1,h2,ho⟩
  .omega
  .omega
  have hro:=h.so.obj o ob' ho;have hn:ob'.has r1=false:=by
   cases hh:ob'.has r1 with
   | false=>rfl
   | true=>rw[Sto.has_get ho hh]at hs1;omega
  cases ob' with
  | cells cs=>
   cases hro with
   | @cells _ b t vs q1 q2 q3 q4 q5 q6=>
    refine .cells ((hl o h1 h2).trans q1) (by rw[hw];exact q2) q3 (by simp_all) q5 fun i c hi=>hrel c _ ?_ (q6 i c hi)
    cases hh:c.has r1 with
    | false=>rfl
    | true=>rw[show (AO.cells cs).has r1=AV.hasL r1 cs from rfl,AV.hasL_of hi hh]at hn;cases hn
  | hold c v=>cases hro with
   | hold q1=>exact .hold (hrel c _ hn q1)
  | _=>exact hro.mono hx (hl o h1 h2) (fun _ hk=>by cases hk) fun b _=>by simp_all
 .intro o o' oa ob' b h1 h2 h3 h4;rcases hget o oa h1 with ⟨rfl,rfl⟩ | ⟨rfl,rfl⟩ | ⟨p1,p2,p3⟩ <;> rcases hget o' ob' h2 with ⟨rfl,rfl⟩ | ⟨rfl,rfl⟩ | ⟨q1,q2,q3⟩
  .rfl
  .simp_all
  .rw[hl o' q1 q2]at h4;exact absurd (h.so.apart r o' _ _ b hr q3 (hsub1 b h3) h4) (Ne.symm q1)
  .simp_all
  .rfl
  .rw[hl o' q1 q2]at h4;exact absurd (h.so.apart o o' _ _ b hr q3 (hsub b h3) h4) (Ne.symm q1)
  .rw[hl o p1 p2]at h3;exact absurd (h.so.apart o r _ _ b p3 hr h3 (hsub1 b h4)) p1
  .rw[hl o p1 p2]at h3;exact absurd (h.so.apart o o' _ _ b p3 hr h3 (hsub b h4)) p1
  rw[hl o p1 p2]at h3;rw[hl o' q1 q2]at h4;exact h.so.apart o o' _ _ b p3 q3 h3 h4
 .intro o oa b h1 h2;rcases hget o oa h1 with ⟨rfl,rfl⟩ | ⟨rfl,rfl⟩ | ⟨p1,p2,p3⟩
  .exact h.so.mine r _ b hr (hsub1 b h2)
  .exact h.so.mine o _ b hr (hsub b h2)
  rw[hl o p1 p2]at h2;exact h.so.mine o _ b p3 h2
 exact ⟨by rw[hw];exact h.so.old.os,by rw[hw];exact h.so.old.tape,by rw[hw];exact h.so.old.output,h.so.old.ext.trans hx,fun b hb hs=>by rw[hw,hu];exact h.so.old.block b hb hs⟩
section
variable {κ β:Type} [BEq κ] [LawfulBEq κ] {KK:KeyK κ} {G2:β->List PV} {P:Program} {ρ:Operand->AV} {t kt e e1:TypeId} {m x y:Operand} {o r size sz1 bytes k0:Nat} {d:TypeDesc} {es:List (κ × List β)} {k:κ} {l:List β}
variable {dst:Option Tmp} {ty:TypeId} {pos:String} {af:Array Edge} {gu:Option (Nat × Bool)}
abbrev mencR(KK:KeyK κ)(G2:β->List PV)(es:List (κ × List β)):List (Value × List (List PV)):=es.map fun p=>(KK.kf p.1,p.2.map G2)
structure MAt (g:G) (o:Nat) (e:TypeId) (size:Nat) (tk:Option Nat) (KK:KeyK κ) (G2:β->List PV) (es:List (κ × List β)) (b clock:Nat) (ents:Array MapEntry) (subs:List (Option (Nat × Nat × Nat × Nat))):Prop where
 loc:g.loc o=.mapr b subs
 heap:g.w.heap[b]? =some (.map ents clock)
 u:g.u b=0
 n:ents.size=es.length
 sl:subs.length=es.length
 nd:(b::vma subs).Nodup
 key:∀(i:Nat) p x,es[i]? =some p->ents[i]? =some x->x.key=KK.kf p.1
 cv:∀(i:Nat) x,ents[i]? =some x->cellV x.val=true
 ent:∀(i:Nat) p x,es[i]? =some p->ents[i]? =some x->(tk=some i/\subs[i]? =some none∨tk≠some i/\∃s,subs[i]? =some (some s)/\WDa g.w g.u e false size (p.2.map G2) s x.val)
theorem MAt.obj{g:G}{tk:Option Nat}{b clock:Nat}{ents:Array MapEntry}{subs:List (Option (Nat × Nat × Nat × Nat))}(h:MAt g o e1 size tk KK G2 es b clock ents subs):RelO g o (.mapr e1 size tk (mencR KK G2 es)):=
 .mapr h.loc h.heap h.u (by simpa[mencR]using h.n) (by simpa[mencR]using h.sl) h.nd fun i k' rows hi=>by
  simp only[mencR,jAk,jAh,Prod.mk.injEq]at hi;obtain ⟨p,hp,rfl,rfl⟩:=hi;have hlt:i < ents.size:=by rw[h.n];exact (jAd.1 hp).1
  have hx:=jDh hlt;exact ⟨_,hx,h.key i p _ hp hx,h.cv i _ hx,h.ent i p _ hp hx⟩
def VZa:Loc->Loc
 | .map b=>.mapr b []
 | l=>l
def AV.mrs(o:Nat):AV->AV
 | .mp x=>bif Nat.beq x o then .mr o else .mp x
 | c=>bif c.has o then .any else c
theorem rel_mrs{g g' :G}(hx:Ext g.w g.u g'.w g'.u)(hk:∀k,k≠o->g'.loc k=g.loc k)(hl:g'.loc o=VZa (g.loc o)){c:AV}{v:Value}(h:Rel g c v):Rel g' (c.mrs o) v:=by
 cases c
 case mp x=>
  cases hb:Nat.beq x o with
  | true=>
   rw[show AV.mrs o (.mp x)=.mr o by show (bif Nat.beq x o then AV.mr o else AV.mp x)=_;simp_all];have:x=o:=jAl hb;subst this;cases h with
   | mp h1=>exact .mr (subs:=[]) (by rw[hl,h1];rfl)
  | false=>
   rw[show AV.mrs o (.mp x)=.mp x by show (bif Nat.beq x o then AV.mr o else AV.mp x)=_;simp_all];have hne:x≠o:=by rintro rfl;simp at hb
   exact h.mono hx fun k hk' =>hk k (by have:=jAl (show Nat.beq x k=true from hk');omega)
 all_goals exact JTa hx hk h
theorem St.mapr{g:G}{a:Act}(h:St E g a fr σ)(ho:σ.get o=some (.mapo false []))(e:TypeId)(size:Nat):
 St E ⟨g.w,g.u,fun k=>if k=o then VZa (g.loc o) else g.loc k⟩ a (fr.mp (AV.on (AV.mrs o))) (((σ.dels []).mp (AV.on (AV.mrs o))).upd o (.mapr e size none [])):=by
 have hl:(⟨g.w,g.u,fun k=>if k=o then VZa (g.loc o) else g.loc k⟩:G).loc o=VZa (g.loc o):=if_pos rfl;have hob:=h.so.obj o _ ho;generalize hms:([]:List (Value × List PV))=ms at hob;cases hob with
 | @mapo _ _ b clock ents h1 h2 h3 h4 h5=>
  subst hms;refine h.turn (g' :=⟨g.w,g.u,fun k=>if k=o then VZa (g.loc o) else g.loc k⟩) ho [] (by simp) _ rfl (fun c v=>rel_on fun c v=>rel_mrs (g:=g) (g' :=⟨g.w,g.u,fun k=>if k=o then VZa (g.loc o) else g.loc k⟩) (Ext.refl _ _) (fun k hk=>if_neg hk) hl) (Ext.refl _ _) (fun k hk=>if_neg hk) rfl rfl rfl (fun _ _ _=>⟨rfl,rfl⟩) h.so.wf ?_ (fun q hq=>.inl ⟨o,_,.inl rfl,ho,?_⟩)
  .exact .mapr (subs:=[]) (by rw[hl,h1];rfl) h2 h3 h4 rfl (by simp[vma]) (fun i k rows hi=>by grind)
  rw[hl,h1]at hq;rw[h1];rcases hq with hq | hq
  .exact hq
  cases hq
end
end
section
section
variable {E:Env} {ρ:Operand->AV} {P:Program} {fr FR:Fr} {σ:Sto} {dst:Option Nat} {ty:TypeId} {pos:String} {af:Array Edge} {gu:Option (Nat × Bool)}
end
section
variable {E:Env} {FR:Fr} {σ:Sto} {ty:TypeId} {pos:String} {af:Array Edge} {gu:Option (Nat × Bool)} {α β:Type} {F:α->List PV} {G2:β->List PV} {l:List α} {l2:List β} {e e2 t' :TypeId} {size size2 size' bytes' j j0 m r r2:Nat} {zero' :Value} {d' :TypeDesc} {x y:Operand} {n n2:Int} {v v' :α} {w2 w2' :β} {pcs:List PV}
end
end
section
section
variable {P:Program} {t:TypeId}
variable {ρ:Operand->AV} {σ:Sto} {dst:Option Nat} {ty:TypeId} {pos:String} {af:Array Edge} {gu:Option (Nat × Bool)} {x y:Operand} {ss sb:Nat} {sz:Value}
end
end
section
variable {E:Env} {fr:Fr} {σ:Sto} {K:Post} {k:KS} {ops:Array Oper} {T:Tab} {c:AV} {t ty:TypeId} {pos:String} {af:Array Edge} {row:Yua}
theorem kMb(m:Nat):∀(k i:Nat),kAb m [] k i=[(List.range' i k).map fun j=> !(Nat.ble m j)]
 | 0,i=>rfl
 | k+1,i=>by
  unfold kAb;rw[kMb m k (i+1),List.range'_succ]
  grind
theorem kNb:∀(cs:List AV) (bs:List Bool),cs.length<=bs.length->(bs.take cs.length).all id=true->kCb cs bs=cs
 | [],bs,_,_=>by cases bs <;> rfl
 | c::cs,[],h,_=>by grind
 | c::cs,b::bs,h,hb=>by
  simp at h hb;unfold kCb;rw[kNb cs bs (by omega) (by simp_all),hb.1];rfl
theorem drX0{id:Nat}{l:List Oper}(m:Nat)(new:Fr){cs:List AV}{az:ObX}{σ' :Sto}(hmix:E.P.follows .mixedOrders=true)(hok:VXa l m m []=true)(hm:Nat.ble m l.length=true)(hN:((l.take m).all fun o=>o.dst.all fun d=>Nat.ble (d+1) E.N)=true)
 (hT:zDa E.P []) (hp:wMa E l.toArray (new++fr) σ (l.take m) cs az) (hfree:wZb fr σ cs az=true) (hσ:objX (fun _=>true) 0 az++σ=σ') (hnew:wKa (l.take m) cs []=new) (h:AWPL E l.toArray (l.drop m) (new++fr) σ' K):AWP E (.region id l.toArray true) fr σ K:=by
 have hm' :=jAf hm;have hlen:cs.length=m:=by rw[hp.len.1,jCh];omega
 have hl:Yxa [] E.N l m m [] 1 cs fr σ' =some [(new++fr,σ')]:=by
  unfold Yxa;rw[kMb];have hall:List.all (List.take m ((List.range' 0 l.length).map fun j=> !(Nat.ble m j))) _root_.id=true:=by
   rw[jAp];intro x hx;obtain ⟨i,hi,rfl⟩:=List.mem_iff_getElem.1 hx;simp at hi;cases hb:Nat.ble m i with
   | true=>have:=jAf hb;omega
   | false=>grind
  have hmask:=kNb cs ((List.range' 0 l.length).map fun j=> !(Nat.ble m j)) (by grind) (by simp_all);have ht:Ywa [] E.N l m 1 ((List.range' 0 l.length).map fun j=> !(Nat.ble m j)) (wKa (l.take m) (kCb cs ((List.range' 0 l.length).map fun j=> !(Nat.ble m j))) []++fr) σ' =some [(new++fr,σ')]:=by
   rw[hmask,hnew];unfold Ywa;rw[hall]
  unfold vib;dsimp only;rw[ht];rfl
 exact JSa m m 1 [] new (new++fr) σ' hT hmix hok (Nat.ble_eq_true_of_le (jAm _)) hm rfl hN hp hfree hσ hnew hl (fun p hp=>by
  rw[jCd.1 hp];exact ⟨kza,kLa⟩) h
theorem drA{id:Nat}{l:List Oper}(m:Nat)(new:Fr){cs:List AV}{az:ObX}{σ' :Sto}(hmix:E.P.follows .mixedOrders=true)(hok:VXa l m m []=true)(hm:Nat.ble m l.length=true)(hN:((l.take m).all fun o=>o.dst.all fun d=>Nat.ble (d+1) E.N)=true)
 (hp:wMa E l.toArray (new++fr) σ (l.take m) cs az) (hfree:wZb fr σ cs az=true) (hσ:objX (fun _=>true) 0 az++σ=σ') (hnew:wKa (l.take m) cs []=new) (h:(GS.ops l.toArray (l.drop m) (new++fr) σ' k).holds E):(GS.code (.region id l.toArray true) fr σ k).holds E:=
 drX0 m new hmix hok hm hN (fun t r h=>by cases h) hp hfree hσ hnew h
theorem jAb:∀(az:ObX) (n:Nat),(az.all fun x=>x.isNone)=true->idX az=[]/\objX (fun _=>true) n az=[]
 | [],_,_=>⟨rfl,rfl⟩
 | none::az,n,h=>jAb az (n+1) (by grind)
 | some x::az,n,h=>by grind
theorem dr{id:Nat}{l:List Oper}(m:Nat)(new:Fr){cs:List AV}{az:ObX}(hmix:E.P.follows .mixedOrders=true)(hok:VXa l m m []=true)(hm:Nat.ble m l.length=true)(hN:((l.take m).all fun o=>o.dst.all fun d=>Nat.ble (d+1) E.N)=true)
 (hp:wMa E l.toArray (new++fr) σ (l.take m) cs az) (hnew:wKa (l.take m) cs []=new) (h:(GS.ops l.toArray (l.drop m) (new++fr) σ k).holds E) (hz:(az.all fun x=>x.isNone)=true:=by rfl):(GS.code (.region id l.toArray true) fr σ k).holds E:=by
 obtain ⟨h1,h2⟩:=jAb az 0 hz;refine drX0 m new hmix hok hm hN (fun t r h=>by cases h) hp ?_ (by simp_all) hnew h;unfold wZb;rw[h1];simp[Qia]
 grind
theorem pqA{o:Oper}{l:List Oper}{cs:List AV}{az:ObX}(hT:zDa E.P T)(hq:qval T fr.ev σ o.op=some c)(hg:kta ops fr o)(hr:wMa E ops fr σ l cs az):wMa E ops fr σ (o::l) (c::cs) (none::az):=pqX hT hq hg hr
theorem pq{o:Oper}{l:List Oper}{cs:List AV}{az:ObX}(hT:zDa E.P T)(hq:qval T fr.ev σ o.op=some c)(hg:kta ops fr o)(hr:wMa E ops fr σ l cs az):wMa E ops fr σ (o::l) (c::cs) (none::az):=pqX hT hq hg hr
theorem pnA{d:Nat}{gu:Option (Nat × Bool)}{l:List Oper}{cs ds:List AV}{az:ObX}(id:Nat)(hT:zDa E.P T)(ht:T.get t=some row)(hz:wLa (row.zero.cells.toList.map qXa)=some ds)(hz2:row.zero.cells.toList.all cellV=true)(hg:kta ops fr ⟨some d,.alloc t,ty,pos,af,gu⟩)(hr:wMa E ops fr σ l cs az):wMa E ops fr σ (⟨some d,.alloc t,ty,pos,af,gu⟩::l) (.ptr id 0::cs) (some (id,.cells ds)::az):=pnX id hT ht hz hz2 hg hr
end
theorem mixed:prog.follows .mixedOrders=true:=by kernel_rfl
def z5a.sto(x:z5a):Sto:=[(90000000,.cells [.s x.Client.Name,.s x.Client.Mail.Envelope.From,.l zpa.pc x.Client.Mail.Envelope.To,.s x.Client.Mail.Envelope.Id,.l zba.pc x.Client.Mail.Message.Fields,.l cU x.Client.Mail.Message.Body,.bo x.Client.Pipelined,.l cU x.Client.Buffer,.i x.Client.Expected,.bo x.Client.Whole,.bo x.Client.Done,.hs 90000012 0,.l cU x.content,.bo x.chunk,.hs 90000015 0]),(90000012,.row 3 true 1 (List.map cI x.Client.Results)),(90000015,.row 5 false 1 (List.map cU x.out))]
def zfa.sto(x:zfa):Sto:=[(90008000,.cells [.s x.s])]
theorem Vna:y3b prog 27:=⟨by kernel_rfl,by kernel_rfl⟩
theorem zQb:y3b prog 51:=⟨by kernel_rfl,by kernel_rfl⟩
theorem vrb (w : World) : Sem.run prog (Array.mapM (fun (f : Field) => do pure (f.offset, <- sizeOf f.type)) #[⟨"Year", 3, 0, false, "", "", 0⟩, ⟨"Month", 3, 1, false, "", "", 8⟩, ⟨"Day", 3, 2, false, "", "", 16⟩, ⟨"Hour", 3, 3, false, "", "", 24⟩, ⟨"Minute", 3, 4, false, "", "", 32⟩, ⟨"Second", 3, 5, false, "", "", 40⟩, ⟨"Zone", 3, 6, false, "", "", 48⟩]) w = .ok #[(0, 1), (1, 1), (2, 1), (3, 1), (4, 1), (5, 1), (6, 1)] w := by kernel_rfl
theorem kOb (w : World) : Sem.run prog (Array.mapM (fun (f : Field) => do pure (f.offset, <- sizeOf f.type)) #[⟨"Code", 3, 0, false, "", "", 0⟩, ⟨"Index", 3, 1, false, "", "", 8⟩]) w = .ok #[(0, 1), (1, 1)] w := by kernel_rfl
theorem kPb (w : World) : Sem.run prog (Array.mapM (fun (f : Field) => do pure (f.offset, <- sizeOf f.type)) #[⟨"Name", 9, 0, false, "", "", 0⟩, ⟨"Value", 9, 1, false, "", "", 16⟩]) w = .ok #[(0, 1), (1, 1)] w := by kernel_rfl
theorem kQb (w : World) : Sem.run prog (Array.mapM (fun (f : Field) => do pure (f.offset, <- sizeOf f.type)) #[⟨"Type", 9, 0, false, "", "", 0⟩, ⟨"Sub", 9, 1, false, "", "", 16⟩, ⟨"Params", 131, 2, false, "", "", 32⟩]) w = .ok #[(0, 1), (1, 1), (2, 1)] w := by kernel_rfl
theorem Jna (w : World) : Sem.run prog (Array.mapM (fun (f : Field) => do pure (f.offset, <- sizeOf f.type)) #[⟨"Fields", 22, 0, false, "", "", 0⟩, ⟨"Body", 23, 1, false, "", "", 24⟩]) w = .ok #[(0, 1), (1, 1)] w := by kernel_rfl
theorem kRb (w : World) : Sem.run prog (Array.mapM (fun (f : Field) => do pure (f.offset, <- sizeOf f.type)) #[⟨"Name", 9, 0, false, "", "", 0⟩, ⟨"Value", 9, 1, false, "", "", 16⟩]) w = .ok #[(0, 1), (1, 1)] w := by kernel_rfl
theorem vsb (w : World) : Sem.run prog (Array.mapM (fun (f : Field) => do pure (f.offset, <- sizeOf f.type)) #[⟨"Fields", 22, 0, false, "", "", 0⟩, ⟨"Body", 23, 1, false, "", "", 24⟩, ⟨"Parts", 33, 2, false, "", "", 48⟩]) w = .ok #[(0, 1), (1, 1), (2, 1)] w := by kernel_rfl
theorem Joa (w : World) : Sem.run prog (Array.mapM (fun (f : Field) => do pure (f.offset, <- sizeOf f.type)) #[⟨"name", 9, 0, false, "", "posthouse/media", 0⟩, ⟨"number", 3, 1, false, "", "posthouse/media", 16⟩, ⟨"star", 4, 2, false, "", "posthouse/media", 24⟩, ⟨"value", 9, 3, false, "", "posthouse/media", 32⟩]) w = .ok #[(0, 1), (1, 1), (2, 1), (3, 1)] w := by kernel_rfl
theorem YCa (w : World) : Sem.run prog (Array.mapM (fun (f : Field) => do pure (f.offset, <- sizeOf f.type)) #[⟨"s", 9, 0, false, "", "posthouse/media", 0⟩]) w = .ok #[(0, 1)] w := by kernel_rfl
theorem V0a (w : World) : Sem.run prog (Array.mapM (fun (f : Field) => do pure (f.offset, <- sizeOf f.type)) #[⟨"many", 3, 0, false, "", "posthouse/parts", 0⟩, ⟨"fault", 27, 1, false, "", "posthouse/parts", 8⟩]) w = .ok #[(0, 1), (1, 2)] w := by kernel_rfl
theorem WEa (w : World) : Sem.run prog (Array.mapM (fun (f : Field) => do pure (f.offset, <- sizeOf f.type)) #[⟨"part", 35, 0, false, "", "posthouse/parts", 0⟩, ⟨"depth", 3, 3, false, "", "posthouse/parts", 72⟩]) w = .ok #[(0, 3), (3, 1)] w := by kernel_rfl
theorem V1a:TyOk prog 218 12 96 (.agg #[.int .i64 0,.int .i64 0,.int .i64 0,.int .i64 0,.int .i64 0,.int .i64 0,.int .i64 0,.int .i64 0,.int .i64 0,.int .i64 0,.int .i64 0,.int .i64 0]) (.array 12 3):=⟨by kernel_rfl,by kernel_rfl⟩
theorem ZBa:TyOk prog 124 12 192 (.agg #[.string ⟨#[]⟩,.string ⟨#[]⟩,.string ⟨#[]⟩,.string ⟨#[]⟩,.string ⟨#[]⟩,.string ⟨#[]⟩,.string ⟨#[]⟩,.string ⟨#[]⟩,.string ⟨#[]⟩,.string ⟨#[]⟩,.string ⟨#[]⟩,.string ⟨#[]⟩]) (.array 12 9):=⟨by kernel_rfl,by kernel_rfl⟩
theorem Kka:TyOk prog 122 7 112 (.agg #[.string ⟨#[]⟩,.string ⟨#[]⟩,.string ⟨#[]⟩,.string ⟨#[]⟩,.string ⟨#[]⟩,.string ⟨#[]⟩,.string ⟨#[]⟩]) (.array 7 9):=⟨by kernel_rfl,by kernel_rfl⟩
theorem vtb : TyOk prog 87 7 56 (.agg #[.int .i64 0, .int .i64 0, .int .i64 0, .int .i64 0, .int .i64 0, .int .i64 0, .int .i64 0]) (.struct #[⟨"Year", 3, 0, false, "", "", 0⟩, ⟨"Month", 3, 1, false, "", "", 8⟩, ⟨"Day", 3, 2, false, "", "", 16⟩, ⟨"Hour", 3, 3, false, "", "", 24⟩, ⟨"Minute", 3, 4, false, "", "", 32⟩, ⟨"Second", 3, 5, false, "", "", 40⟩, ⟨"Zone", 3, 6, false, "", "", 48⟩]) := ⟨by kernel_rfl, by kernel_rfl⟩
theorem Kla : TyOk prog 27 2 16 (.agg #[.int .i64 0, .int .i64 0]) (.struct #[⟨"Code", 3, 0, false, "", "", 0⟩, ⟨"Index", 3, 1, false, "", "", 8⟩]) := ⟨by kernel_rfl, by kernel_rfl⟩
theorem zMa : TyOk prog 51 2 32 (.agg #[.string ⟨#[]⟩, .string ⟨#[]⟩]) (.struct #[⟨"Name", 9, 0, false, "", "", 0⟩, ⟨"Value", 9, 1, false, "", "", 16⟩]) := ⟨by kernel_rfl, by kernel_rfl⟩
theorem kSb : TyOk prog 133 3 56 (.agg #[.string ⟨#[]⟩, .string ⟨#[]⟩, .slice none 0 0]) (.struct #[⟨"Type", 9, 0, false, "", "", 0⟩, ⟨"Sub", 9, 1, false, "", "", 16⟩, ⟨"Params", 131, 2, false, "", "", 32⟩]) := ⟨by kernel_rfl, by kernel_rfl⟩
theorem qOa : TyOk prog 25 2 48 (.agg #[.slice none 0 0, .slice none 0 0]) (.struct #[⟨"Fields", 22, 0, false, "", "", 0⟩, ⟨"Body", 23, 1, false, "", "", 24⟩]) := ⟨by kernel_rfl, by kernel_rfl⟩
theorem k1a : TyOk prog 137 2 32 (.agg #[.string ⟨#[]⟩, .string ⟨#[]⟩]) (.struct #[⟨"Name", 9, 0, false, "", "", 0⟩, ⟨"Value", 9, 1, false, "", "", 16⟩]) := ⟨by kernel_rfl, by kernel_rfl⟩
theorem vub : TyOk prog 35 3 72 (.agg #[.slice none 0 0, .slice none 0 0, .slice none 0 0]) (.struct #[⟨"Fields", 22, 0, false, "", "", 0⟩, ⟨"Body", 23, 1, false, "", "", 24⟩, ⟨"Parts", 33, 2, false, "", "", 48⟩]) := ⟨by kernel_rfl, by kernel_rfl⟩
theorem ty_bool:TyOk prog 4 1 1 (.bool false) .bool:=⟨by kernel_rfl,by kernel_rfl⟩
theorem web : TyOk prog 167 1 16 (.nilIface) (.interface #[("Error", 170)]) := ⟨by kernel_rfl, by kernel_rfl⟩
theorem jCa:TyOk prog 141 1 8 (.nilFunc) (.func #[35,3] #[4] false):=⟨by kernel_rfl,by kernel_rfl⟩
theorem wNa:TyOk prog 140 1 8 (.nilFunc) (.func #[3,104] #[4] false):=⟨by kernel_rfl,by kernel_rfl⟩
theorem yJa:TyOk prog 3 1 8 (.int .i64 0) (.int .i64):=⟨by kernel_rfl,by kernel_rfl⟩
theorem ty_int32:TyOk prog 21 1 4 (.int .i32 0) (.int .i32):=⟨by kernel_rfl,by kernel_rfl⟩
theorem wAa : TyOk prog 251 4 48 (.agg #[.string ⟨#[]⟩, .int .i64 0, .bool false, .string ⟨#[]⟩]) (.struct #[⟨"name", 9, 0, false, "", "posthouse/media", 0⟩, ⟨"number", 3, 1, false, "", "posthouse/media", 16⟩, ⟨"star", 4, 2, false, "", "posthouse/media", 24⟩, ⟨"value", 9, 3, false, "", "posthouse/media", 32⟩]) := ⟨by kernel_rfl, by kernel_rfl⟩
theorem YDa : TyOk prog 247 1 16 (.agg #[.string ⟨#[]⟩]) (.struct #[⟨"s", 9, 0, false, "", "posthouse/media", 0⟩]) := ⟨by kernel_rfl, by kernel_rfl⟩
theorem V2a : TyOk prog 64 3 24 (.agg #[.int .i64 0, .int .i64 0, .int .i64 0]) (.struct #[⟨"many", 3, 0, false, "", "posthouse/parts", 0⟩, ⟨"fault", 27, 1, false, "", "posthouse/parts", 8⟩]) := ⟨by kernel_rfl, by kernel_rfl⟩
theorem ZVa : TyOk prog 104 4 80 (.agg #[.slice none 0 0, .slice none 0 0, .slice none 0 0, .int .i64 0]) (.struct #[⟨"part", 35, 0, false, "", "posthouse/parts", 0⟩, ⟨"depth", 3, 3, false, "", "posthouse/parts", 72⟩]) := ⟨by kernel_rfl, by kernel_rfl⟩
theorem zya:TyOk prog 22 1 24 (.slice none 0 0) (.slice 51):=⟨by kernel_rfl,by kernel_rfl⟩
theorem yca:TyOk prog 29 1 24 (.slice none 0 0) (.slice 25):=⟨by kernel_rfl,by kernel_rfl⟩
theorem k6a:TyOk prog 131 1 24 (.slice none 0 0) (.slice 137):=⟨by kernel_rfl,by kernel_rfl⟩
theorem vba:TyOk prog 33 1 24 (.slice none 0 0) (.slice 35):=⟨by kernel_rfl,by kernel_rfl⟩
theorem zRb:TyOk prog 58 1 24 (.slice none 0 0) (.slice 3):=⟨by kernel_rfl,by kernel_rfl⟩
theorem qIa:TyOk prog 249 1 24 (.slice none 0 0) (.slice 251):=⟨by kernel_rfl,by kernel_rfl⟩
theorem Kma:TyOk prog 95 1 24 (.slice none 0 0) (.slice 23):=⟨by kernel_rfl,by kernel_rfl⟩
theorem qya:TyOk prog 40 1 24 (.slice none 0 0) (.slice 9):=⟨by kernel_rfl,by kernel_rfl⟩
theorem zra:TyOk prog 23 1 24 (.slice none 0 0) (.slice 5):=⟨by kernel_rfl,by kernel_rfl⟩
theorem zoa:TyOk prog 9 1 16 (.string ⟨#[]⟩) .string:=⟨by kernel_rfl,by kernel_rfl⟩
theorem ty_uint:TyOk prog 191 1 8 (.int .u64 0) (.int .u64):=⟨by kernel_rfl,by kernel_rfl⟩
theorem jBb:TyOk prog 145 1 8 (.int .u64 0) (.int .u64):=⟨by kernel_rfl,by kernel_rfl⟩
theorem zxa:TyOk prog 5 1 1 (.int .u8 0) (.int .u8):=⟨by kernel_rfl,by kernel_rfl⟩
def tab : Tab := [(218, ⟨12, 96, (.agg #[.int .i64 0, .int .i64 0, .int .i64 0, .int .i64 0, .int .i64 0, .int .i64 0, .int .i64 0, .int .i64 0, .int .i64 0, .int .i64 0, .int .i64 0, .int .i64 0]), (.array 12 3), none⟩), (124, ⟨12, 192, (.agg #[.string ⟨#[]⟩, .string ⟨#[]⟩, .string ⟨#[]⟩, .string ⟨#[]⟩, .string ⟨#[]⟩, .string ⟨#[]⟩, .string ⟨#[]⟩, .string ⟨#[]⟩, .string ⟨#[]⟩, .string ⟨#[]⟩, .string ⟨#[]⟩, .string ⟨#[]⟩]), (.array 12 9), none⟩), (122, ⟨7, 112, (.agg #[.string ⟨#[]⟩, .string ⟨#[]⟩, .string ⟨#[]⟩, .string ⟨#[]⟩, .string ⟨#[]⟩, .string ⟨#[]⟩, .string ⟨#[]⟩]), (.array 7 9), none⟩), (87, ⟨7, 56, (.agg #[.int .i64 0, .int .i64 0, .int .i64 0, .int .i64 0, .int .i64 0, .int .i64 0, .int .i64 0]), (.struct #[⟨"Year", 3, 0, false, "", "", 0⟩, ⟨"Month", 3, 1, false, "", "", 8⟩, ⟨"Day", 3, 2, false, "", "", 16⟩, ⟨"Hour", 3, 3, false, "", "", 24⟩, ⟨"Minute", 3, 4, false, "", "", 32⟩, ⟨"Second", 3, 5, false, "", "", 40⟩, ⟨"Zone", 3, 6, false, "", "", 48⟩]), (some #[(0, 1), (1, 1), (2, 1), (3, 1), (4, 1), (5, 1), (6, 1)])⟩), (27, ⟨2, 16, (.agg #[.int .i64 0, .int .i64 0]), (.struct #[⟨"Code", 3, 0, false, "", "", 0⟩, ⟨"Index", 3, 1, false, "", "", 8⟩]), (some #[(0, 1), (1, 1)])⟩), (51, ⟨2, 32, (.agg #[.string ⟨#[]⟩, .string ⟨#[]⟩]), (.struct #[⟨"Name", 9, 0, false, "", "", 0⟩, ⟨"Value", 9, 1, false, "", "", 16⟩]), (some #[(0, 1), (1, 1)])⟩), (133, ⟨3, 56, (.agg #[.string ⟨#[]⟩, .string ⟨#[]⟩, .slice none 0 0]), (.struct #[⟨"Type", 9, 0, false, "", "", 0⟩, ⟨"Sub", 9, 1, false, "", "", 16⟩, ⟨"Params", 131, 2, false, "", "", 32⟩]), (some #[(0, 1), (1, 1), (2, 1)])⟩), (25, ⟨2, 48, (.agg #[.slice none 0 0, .slice none 0 0]), (.struct #[⟨"Fields", 22, 0, false, "", "", 0⟩, ⟨"Body", 23, 1, false, "", "", 24⟩]), (some #[(0, 1), (1, 1)])⟩), (137, ⟨2, 32, (.agg #[.string ⟨#[]⟩, .string ⟨#[]⟩]), (.struct #[⟨"Name", 9, 0, false, "", "", 0⟩, ⟨"Value", 9, 1, false, "", "", 16⟩]), (some #[(0, 1), (1, 1)])⟩), (35, ⟨3, 72, (.agg #[.slice none 0 0, .slice none 0 0, .slice none 0 0]), (.struct #[⟨"Fields", 22, 0, false, "", "", 0⟩, ⟨"Body", 23, 1, false, "", "", 24⟩, ⟨"Parts", 33, 2, false, "", "", 48⟩]), (some #[(0, 1), (1, 1), (2, 1)])⟩), (4, ⟨1, 1, (.bool false), .bool, none⟩), (167, ⟨1, 16, (.nilIface), (.interface #[("Error", 170)]), none⟩), (141, ⟨1, 8, (.nilFunc), (.func #[35, 3] #[4] false), none⟩), (140, ⟨1, 8, (.nilFunc), (.func #[3, 104] #[4] false), none⟩), (3, ⟨1, 8, (.int .i64 0), (.int .i64), none⟩), (21, ⟨1, 4, (.int .i32 0), (.int .i32), none⟩), (251, ⟨4, 48, (.agg #[.string ⟨#[]⟩, .int .i64 0, .bool false, .string ⟨#[]⟩]), (.struct #[⟨"name", 9, 0, false, "", "posthouse/media", 0⟩, ⟨"number", 3, 1, false, "", "posthouse/media", 16⟩, ⟨"star", 4, 2, false, "", "posthouse/media", 24⟩, ⟨"value", 9, 3, false, "", "posthouse/media", 32⟩]), (some #[(0, 1), (1, 1), (2, 1), (3, 1)])⟩), (247, ⟨1, 16, (.agg #[.string ⟨#[]⟩]), (.struct #[⟨"s", 9, 0, false, "", "posthouse/media", 0⟩]), (some #[(0, 1)])⟩), (64, ⟨3, 24, (.agg #[.int .i64 0, .int .i64 0, .int .i64 0]), (.struct #[⟨"many", 3, 0, false, "", "posthouse/parts", 0⟩, ⟨"fault", 27, 1, false, "", "posthouse/parts", 8⟩]), (some #[(0, 1), (1, 2)])⟩), (104, ⟨4, 80, (.agg #[.slice none 0 0, .slice none 0 0, .slice none 0 0, .int .i64 0]), (.struct #[⟨"part", 35, 0, false, "", "posthouse/parts", 0⟩, ⟨"depth", 3, 3, false, "", "posthouse/parts", 72⟩]), (some #[(0, 3), (3, 1)])⟩), (22, ⟨1, 24, (.slice none 0 0), (.slice 51), none⟩), (29, ⟨1, 24, (.slice none 0 0), (.slice 25), none⟩), (131, ⟨1, 24, (.slice none 0 0), (.slice 137), none⟩), (33, ⟨1, 24, (.slice none 0 0), (.slice 35), none⟩), (58, ⟨1, 24, (.slice none 0 0), (.slice 3), none⟩), (249, ⟨1, 24, (.slice none 0 0), (.slice 251), none⟩), (95, ⟨1, 24, (.slice none 0 0), (.slice 23), none⟩), (40, ⟨1, 24, (.slice none 0 0), (.slice 9), none⟩), (23, ⟨1, 24, (.slice none 0 0), (.slice 5), none⟩), (9, ⟨1, 16, (.string ⟨#[]⟩), .string, none⟩), (191, ⟨1, 8, (.int .u64 0), (.int .u64), none⟩), (145, ⟨1, 8, (.int .u64 0), (.int .u64), none⟩), (5, ⟨1, 1, (.int .u8 0), (.int .u8), none⟩)]
theorem tk:zDa prog tab:=(kga V1a (kga ZBa (kga Kka (q0a vtb vrb (q0a Kla kOb (q0a zMa kPb (q0a kSb kQb (q0a qOa Jna (q0a k1a kRb (q0a vub vsb (kga ty_bool (kga web (kga jCa (kga wNa (kga yJa (kga ty_int32 (q0a wAa Joa (q0a YDa YCa (q0a V2a V0a (q0a ZVa WEa (kga zya (kga yca (kga k6a (kga vba (kga zRb (kga qIa (kga Kma (kga qya (kga zra (kga zoa (kga ty_uint (kga jBb (kga zxa tab_nil)))))))))))))))))))))))))))))))))
def zja.ok(x:zja):Prop:=ok64 x.Code/\ok64 x.Index
def zja.bk(x:zja):Nat:=(fun _=>1) x.Code+(fun _=>1) x.Index+1
instance:Inhabited zja:=⟨⟨default,default⟩⟩
def jla.ok(x:jla):Prop:=jZa x.Address/\(okL jZa) x.To
def jla.bk(x:jla):Nat:=(fun s=>s.length+1) x.Address+(bkL (fun s=>s.length+1)) x.To+1
instance:Inhabited jla:=⟨⟨default,default⟩⟩
def zpa.ok(x:zpa):Prop:=jZa x.Address/\ok64 x.Notify
def zpa.bk(x:zpa):Nat:=(fun s=>s.length+1) x.Address+(fun _=>1) x.Notify+1
instance:Inhabited zpa:=⟨⟨default,default⟩⟩
def q1a.ok(x:q1a):Prop:=jZa x.From/\(okL zpa.ok) x.To/\jZa x.Id
def q1a.bk(x:q1a):Nat:=(fun s=>s.length+1) x.From+(bkL zpa.bk) x.To+(fun s=>s.length+1) x.Id+1
instance:Inhabited q1a:=⟨⟨default,default,default⟩⟩
def zba.ok(x:zba):Prop:=jZa x.Name/\jZa x.Value
def zba.bk(x:zba):Nat:=(fun s=>s.length+1) x.Name+(fun s=>s.length+1) x.Value+1
instance:Inhabited zba:=⟨⟨default,default⟩⟩
def zda.ok(x:zda):Prop:=(okL zba.ok) x.Fields/\(okL (fun _=>True)) x.Body
def zda.bk(x:zda):Nat:=(bkL zba.bk) x.Fields+(bkL (fun _=>1)) x.Body+1
instance:Inhabited zda:=⟨⟨default,default⟩⟩
def ZAa.ok(x:ZAa):Prop:=q1a.ok x.Envelope/\zda.ok x.Message
def ZAa.bk(x:ZAa):Nat:=q1a.bk x.Envelope+zda.bk x.Message+1
instance:Inhabited ZAa:=⟨⟨default,default⟩⟩
def yIa.ok(x:yIa):Prop:=ok64 x.Code/\(okL jZa) x.Lines
def yIa.bk(x:yIa):Nat:=(fun _=>1) x.Code+(bkL (fun s=>s.length+1)) x.Lines+1
instance:Inhabited yIa:=⟨⟨default,default⟩⟩
def j0a.ok(x:j0a):Prop:=ok64 x.Year/\ok64 x.Month/\ok64 x.Day/\ok64 x.Hour/\ok64 x.Minute/\ok64 x.Second/\ok64 x.Zone
def j0a.bk(x:j0a):Nat:=(fun _=>1) x.Year+(fun _=>1) x.Month+(fun _=>1) x.Day+(fun _=>1) x.Hour+(fun _=>1) x.Minute+(fun _=>1) x.Second+(fun _=>1) x.Zone+1
instance:Inhabited j0a:=⟨⟨default,default,default,default,default,default,default⟩⟩
def jAa.ok(x:jAa):Prop:=jZa x.Name/\ZAa.ok x.Mail/\(fun _=>True) x.Pipelined/\(okL (fun _=>True)) x.Buffer/\ok64 x.Expected/\(fun _=>True) x.Whole/\(fun _=>True) x.Done/\(okL ok64) x.Results
def jAa.bk(x:jAa):Nat:=(fun s=>s.length+1) x.Name+ZAa.bk x.Mail+(fun _=>1) x.Pipelined+(bkL (fun _=>1)) x.Buffer+(fun _=>1) x.Expected+(fun _=>1) x.Whole+(fun _=>1) x.Done+(bkL (fun _=>1)) x.Results+1
instance:Inhabited jAa:=⟨⟨default,default,default,default,default,default,default,default⟩⟩
def z5a.ok(x:z5a):Prop:=jAa.ok x.Client/\(okL (fun _=>True)) x.content/\(fun _=>True) x.chunk/\(okL (fun _=>True)) x.out
def z5a.bk(x:z5a):Nat:=jAa.bk x.Client+(bkL (fun _=>1)) x.content+(fun _=>1) x.chunk+(bkL (fun _=>1)) x.out+1
instance:Inhabited z5a:=⟨⟨default,default,default,default⟩⟩
def wpa.ok(x:wpa):Prop:=jZa x.Name/\ok64 x.Size/\ok64 x.Many/\ok64 x.Phase/\(fun _=>True) x.Greeted/\(fun _=>True) x.Mailing/\jZa x.From/\(okL zpa.ok) x.To/\(okL (fun _=>True)) x.Buffer/\(okL (fun _=>True)) x.Data/\ok64 x.Lost/\ok64 x.Dots/\(fun _=>True) x.Chunked/\ok64 x.Left/\(fun _=>True) x.Last/\(fun _=>True) x.Ignore/\ok64 x.Count
def wpa.bk(x:wpa):Nat:=(fun s=>s.length+1) x.Name+(fun _=>1) x.Size+(fun _=>1) x.Many+(fun _=>1) x.Phase+(fun _=>1) x.Greeted+(fun _=>1) x.Mailing+(fun s=>s.length+1) x.From+(bkL zpa.bk) x.To+(bkL (fun _=>1)) x.Buffer+(bkL (fun _=>1)) x.Data+(fun _=>1) x.Lost+(fun _=>1) x.Dots+(fun _=>1) x.Chunked+(fun _=>1) x.Left+(fun _=>1) x.Last+(fun _=>1) x.Ignore+(fun _=>1) x.Count+1
instance:Inhabited wpa:=⟨⟨default,default,default,default,default,default,default,default,default,default,default,default,default,default,default,default,default⟩⟩
def kpa.ok(x:kpa):Prop:=wpa.ok x.Server/\(okL yIa.ok) x.replies/\(okL ZAa.ok) x.mails
def kpa.bk(x:kpa):Nat:=wpa.bk x.Server+(bkL yIa.bk) x.replies+(bkL ZAa.bk) x.mails+1
instance:Inhabited kpa:=⟨⟨default,default,default⟩⟩
def zFa.ok(x:zFa):Prop:=wpa.ok x.S/\(okL yIa.ok) x.Replies/\(okL ZAa.ok) x.Mails
def zFa.bk(x:zFa):Nat:=wpa.bk x.S+(bkL yIa.bk) x.Replies+(bkL ZAa.bk) x.Mails+1
instance:Inhabited zFa:=⟨⟨default,default,default⟩⟩
def zca.ok(x:zca):Prop:=jZa x.name/\ok64 x.number/\(fun _=>True) x.star/\jZa x.value
def zca.bk(x:zca):Nat:=(fun s=>s.length+1) x.name+(fun _=>1) x.number+(fun _=>1) x.star+(fun s=>s.length+1) x.value+1
instance:Inhabited zca:=⟨⟨default,default,default,default⟩⟩
def zia.ok(x:zia):Prop:=jZa x.Name/\jZa x.Value
def zia.bk(x:zia):Nat:=(fun s=>s.length+1) x.Name+(fun s=>s.length+1) x.Value+1
instance:Inhabited zia:=⟨⟨default,default⟩⟩
def zYa.ok(x:zYa):Prop:=jZa x.Type_/\jZa x.Sub/\(okL zia.ok) x.Params
def zYa.bk(x:zYa):Nat:=(fun s=>s.length+1) x.Type_+(fun s=>s.length+1) x.Sub+(bkL zia.bk) x.Params+1
instance:Inhabited zYa:=⟨⟨default,default,default⟩⟩
def zfa.ok(x:zfa):Prop:=jZa x.s
def zfa.bk(x:zfa):Nat:=(fun s=>s.length+1) x.s+1
instance:Inhabited zfa:=⟨⟨default⟩⟩
def zea.ok(x:zea):Prop:=ok64 x.many/\zja.ok x.fault
def zea.bk(x:zea):Nat:=(fun _=>1) x.many+zja.bk x.fault+1
instance:Inhabited zea:=⟨⟨default,default⟩⟩
theorem Voa:Yza prog 9 1 cS jZa (fun s=>s.length+1):=opens_S zoa.u (by kernel_rfl)
theorem kTb:Yza prog 51 2 zba.pc zba.ok zba.bk:=⟨by kernel_rfl,fun _=>rfl,fun {H enc W fuel cs d} h=>by
 obtain ⟨xs,n,_,rfl,hl,hlen,hf⟩:=DataW.trod_struct zMa.u h;have hl2:cs.length=2:=hl.trans (by kernel_rfl)
 match xs,hlen with
 | [y0,y1],_=>
  obtain ⟨x0,r0,o0,b0⟩:=Voa.op (show _=some y0 from hf 0 _ rfl)
  replace r0:RelC W _ (List.take (prog.cellsOf 9) (List.drop 0 cs)):=r0
  rw[Voa.cells]at r0;obtain ⟨x1,r1,o1,b1⟩:=Voa.op (show _=some y1 from hf 1 _ rfl)
  replace r1:RelC W _ (List.take (prog.cellsOf 9) (List.drop 1 cs)):=r1
  rw[Voa.cells]at r1;exact ⟨⟨x0,x1⟩,(W8a (off:=0) rfl r0 (W8a (off:=1) rfl r1 (wab hl2))),⟨o0,o1⟩,by simp only[List.map,Rows.uptoBulk,Rows.uptoBulkAll,zba.bk];omega⟩⟩
theorem Qza:Yza prog 22 1 (cL zba.pc) (okL zba.ok) (bkL zba.bk):=jvb kTb rfl zya.u (by kernel_rfl)
theorem op_uint8:Yza prog 5 1 cU (fun _=>True) (fun _=>1):=opens_U zxa.u (by kernel_rfl)
theorem JUa:Yza prog 23 1 (cL cU) (okL (fun _=>True)) (bkL (fun _=>1)):=jvb op_uint8 rfl zra.u (by kernel_rfl)
theorem Jpa:Yza prog 25 2 zda.pc zda.ok zda.bk:=⟨by kernel_rfl,fun _=>rfl,fun {H enc W fuel cs d} h=>by
 obtain ⟨xs,n,_,rfl,hl,hlen,hf⟩:=DataW.trod_struct qOa.u h;have hl2:cs.length=2:=hl.trans (by kernel_rfl)
 match xs,hlen with
 | [y0,y1],_=>
  obtain ⟨x0,r0,o0,b0⟩:=Qza.op (show _=some y0 from hf 0 _ rfl)
  replace r0:RelC W _ (List.take (prog.cellsOf 22) (List.drop 0 cs)):=r0
  rw[Qza.cells]at r0;obtain ⟨x1,r1,o1,b1⟩:=JUa.op (show _=some y1 from hf 1 _ rfl)
  replace r1:RelC W _ (List.take (prog.cellsOf 23) (List.drop 1 cs)):=r1
  rw[JUa.cells]at r1;exact ⟨⟨x0,x1⟩,(W8a (off:=0) rfl r0 (W8a (off:=1) rfl r1 (wab hl2))),⟨o0,o1⟩,by simp only[List.map,Rows.uptoBulk,Rows.uptoBulkAll,zda.bk];omega⟩⟩
section
theorem jCb(a b:Nat)(h:a+b<=9223372036854775807):w64 ((a:Int)+(b:Int))=((a+b:Nat):Int):=by
 rw[vna (by omega) (by omega)];simp
theorem w64_nl(a k:Nat)(h:a+OfNat.ofNat k<=9223372036854775807):w64 ((a:Int)+(no_index (OfNat.ofNat k:Int)))=((a+OfNat.ofNat k:Nat):Int):=by
 have e:(OfNat.ofNat k:Int)=((OfNat.ofNat k:Nat):Int):=rfl;rw[e];exact jCb a _ h
theorem w64_ns(a b:Nat)(h:b<=a)(ha:a<=9223372036854775807):w64 ((a:Int) - (b:Int))=((a - b:Nat):Int):=by
 rw[vna (by omega) (by omega)];omega
theorem kUb(a:Nat)(h:a<=9223372036854775807):w64 (a:Int)=(a:Int):=vna (by omega) (by omega)
theorem jda(c:UInt8)(k:Nat)(hk:OfNat.ofNat k < 256):((c.toNat:Int)==no_index (OfNat.ofNat k:Int))=(c==OfNat.ofNat k):=by
 have e:(OfNat.ofNat k:Int)=((OfNat.ofNat k:Nat):Int):=rfl;have h2:(OfNat.ofNat k:UInt8).toNat=(OfNat.ofNat k:Nat):=by
  show (UInt8.ofNat k).toNat=k;rw[jCm];exact Nat.mod_eq_of_lt hk
 rw[jBg,beq_iff_eq,beq_iff_eq,<-jDj,h2,e];omega
theorem u8_ne(c:UInt8)(k:Nat)(hk:OfNat.ofNat k < 256):((c.toNat:Int) !=no_index (OfNat.ofNat k:Int))=(c !=OfNat.ofNat k):=by
 unfold bne;rw[jda c k hk]
section
variable {α:Type}
theorem jDa(l:List α)(i:Nat):idx l (i:Int)=l[i]? :=by unfold idx;rw[if_pos (by omega)];simp
theorem JVa{l:List α}{i:Nat}(h:i < l.length):idx l (i:Int)=some l[i]:=by rw[jDa];exact jAe h
theorem idx_app(p:List α)(x:α)(r:List α):idx (p++x::r) (p.length:Int)=some x:=by rw[jDa];simp
theorem cut_nn{l:List α}{a b:Nat}(h1:a<=b)(h2:b<=l.length):cut l (a:Int) (b:Int)=some ((l.drop a).take (b - a)):=by
 unfold cut;rw[if_pos (by omega)];simp
theorem QAa{l:List α}{a:Nat}(h1:a<=l.length):cut l (a:Int) (l.length:Int)=some (l.drop a):=by
 rw[cut_nn h1 (jAm _)];rw[List.take_of_length_le (by simp)]
theorem Wua{l:List α}{b:Nat}(h2:b<=l.length):cut l 0 (b:Int)=some (l.take b):=by
 have:=cut_nn (l:=l) (a:=0) (b:=b) (by omega) h2;simpa using this
theorem qma{lim:Nat}{l xs:List α}(h:l.length+xs.length<=lim):app lim l xs=some (l++xs):=by unfold app;rw[if_pos h]
theorem JWa{a b:Str}(h:a.length+b.length<=9223372036854775807):cat a b=some (a++b):=by unfold cat;rw[if_pos h]
end
section
variable {A R:Type} {body:A->Option (Step A R)}
theorem Vpa(Inv:A->Prop)(m:A->Nat)(Post:A->R->Prop)
 (h:∀s,Inv s->(∃r,body s=some (.out r)/\Post s r)∨∃s',body s=some (.cont s')/\Inv s' /\m s' < m s/\∀r,Post s' r->Post s r):
 ∀s,Inv s->∃r,iter body s=some r/\Post s r:=by
 intro s;induction hn:m s using Nat.strongRecOn generalizing s with
 | _ n ih=>
  intro hi;rcases h s hi with ⟨r,h1,h2⟩ | ⟨s',h1,h2,h3,h4⟩
  .exact ⟨r,zXa h1,h2⟩
  obtain ⟨r,h5,h6⟩:=ih (m s') (by omega) s' rfl h2;exact ⟨r,(kYa h1).trans h5,h4 r h6⟩
end
end
section
section
variable {α R O A S:Type}
def kua(q:Nat->α->Option R):Nat->List α->Option R
 | _,[]=>none
 | i,x::r=>match q i x with | some y=>some y | none=>kua q (i+1) r
theorem qna(l:List α)(q:Nat->α->Option R)(oN:O)(oS:R->O){body:Int->Option (Step Int O)}(hl:body (l.length:Int)=some (.out oN))
 (hs:∀(i:Nat) x,l[i]? =some x->body (i:Int)=some ((q i x).elim (.cont ((i+1:Nat):Int)) fun r=>.out (oS r))):
 iter body 0=some ((kua q 0 l).elim oN oS):=by
 have key:∀r p,l=p++r->iter body (p.length:Int)=some ((kua q p.length r).elim oN oS):=by
  intro r;induction r with
  | nil=>
   intro p h;have:p=l:=by simp[h]
   subst this;exact zXa hl
  | cons x r ih=>
   intro p h;have hx:=hs p.length x (by simp[h]);unfold kua;cases hq:q p.length x with
   | some y=>rw[hq]at hx;exact zXa hx
   | none=>
    rw[hq]at hx;rw[kYa hx];have:=ih (p++ [x]) (by simp[h]);simpa using this
 exact key l [] rfl
theorem w5b(l:List α)(enc:Int->S->A)(f:Nat->S->α->S)(out:S->O)(Inv:Nat->S->Prop){body:A->Option (Step A O)}
 (hl:∀s,Inv l.length s->body (enc l.length s)=some (.out (out s)))
 (hs:∀(i:Nat) x s,l[i]? =some x->Inv i s->body (enc i s)=some (.cont (enc ((i+1:Nat):Int) (f i s x)))/\Inv (i+1) (f i s x)) (s:S) (h0:Inv 0 s):
 ∃t,iter body (enc 0 s)=some (out t)/\Inv l.length t/\t=(l.zipIdx.foldl (fun s p=>f p.2 s p.1) s):=by
 have key:∀r p s,l=p++r->Inv p.length s->∃t,iter body (enc (p.length:Int) s)=some (out t)/\Inv l.length t/\t=((r.zipIdx p.length).foldl (fun s p=>f p.2 s p.1) s):=by
  intro r;induction r with
  | nil=>
   intro p s h hi;have:p=l:=by simp[h]
   subst this;exact ⟨s,zXa (hl s hi),hi,rfl⟩
  | cons x r ih=>
   intro p s h hi;obtain ⟨h1,h2⟩:=hs p.length x s (by simp[h]) hi;rw[kYa h1];obtain ⟨t,h3,h4,h5⟩:=ih (p++ [x]) (f p.length s x) (by simp[h]) (by simpa using h2);refine ⟨t,by simpa using h3,h4,?_⟩;rw[h5];simp
 exact key l [] s rfl h0
theorem kVb(f:S->α->S)(l:List α):∀(n:Nat) (s:S),(l.zipIdx n).foldl (fun s p=>f s p.1) s=l.foldl f s:=by
 induction l with
 | nil=>intro n s;rfl
 | cons x r ih=>intro n s;simp[ih]
theorem j1a(l:List α)(enc:Int->S->A)(f:S->α->S)(out:S->O)(Inv:Nat->S->Prop){body:A->Option (Step A O)}
 (hl:∀s,Inv l.length s->body (enc l.length s)=some (.out (out s)))
 (hs:∀(i:Nat) x s,l[i]? =some x->Inv i s->body (enc i s)=some (.cont (enc ((i+1:Nat):Int) (f s x)))/\Inv (i+1) (f s x)) (s:S) (h0:Inv 0 s):
 iter body (enc 0 s)=some (out (l.foldl f s))/\Inv l.length (l.foldl f s):=by
 obtain ⟨t,h1,h2,h3⟩:=w5b l enc (fun _=>f) out Inv hl hs s h0;have:t=l.foldl f s:=by rw[h3];exact kVb f l 0 s
 subst this;exact ⟨h1,h2⟩
theorem w6b(c:α->Bool)(r:R)(l:List α)(n:Nat):kua (fun _ x=>if c x then some r else none) n l=if l.any c then some r else none:=by
 induction l generalizing n with
 | nil=>rfl
 | cons x l ih=>unfold kua;cases h:c x <;> simp[h,ih]
theorem QSa{q:Nat->α->Option R}{l:List α}{n:Nat}:kua q n l=none↔∀(i:Nat) x,l[i]? =some x->q (n+i) x=none:=by
 induction l generalizing n with
 | nil=>simp[kua]
 | cons x l ih=>
  unfold kua;cases h:q n x with
  | some y=>
   simp only[reduceCtorEq,false_iff];intro hh;have:=hh 0 x rfl;rw[jBy,h]at this;cases this
  | none=>
   rw[ih];constructor
   .intro hh i y hy;cases i with
    | zero=>simp at hy;subst hy;exact h
    | succ i=>rw[show n+(i+1)=n+1+i by omega];exact hh i y (by simpa using hy)
   intro hh i y hy;rw[show n+1+i=n+(i+1) by omega];exact hh (i+1) y (by simpa using hy)
theorem YEa{q:Nat->α->Option R}{l:List α}{n:Nat}{r:R}(h:kua q n l=some r):∃(i:Nat) (x:α),l[i]? =some x/\q (n+i) x=some r:=by
 induction l generalizing n with
 | nil=>cases h
 | cons x l ih=>
  unfold kua at h;cases hq:q n x with
  | some y=>rw[hq]at h;cases h;exact ⟨0,x,rfl,hq⟩
  | none=>
   rw[hq]at h;obtain ⟨i,y,h1,h2⟩:=ih h;exact ⟨i+1,y,by simpa using h1,by rw[show n+(i+1)=n+1+i by omega];exact h2⟩
theorem z6a{l:List α}{i:Nat}{x:α}(h:l[i]? =some x):i < l.length:=(jAd.1 h).1
theorem qVa{l:List α}{i:Nat}{x:α}(h:l[i]? =some x):decide ((i:Int) < (l.length:Int))=true:=by have:=z6a h;simp;omega
theorem kBa(l:List α):decide ((l.length:Int) < (l.length:Int))=false:=by simp
theorem kla{l:List α}{i:Nat}{x:α}(h:l[i]? =some x):idx l (i:Int)=some x:=by rw[jDa];exact h
end
end
section
theorem sc(i:Nat)(h:i < 9223372036854775807):w64 ((i:Int)+1)=((i+1:Nat):Int):=by rw[show ((i:Int)+1)=((i+1:Nat):Int) by omega,kUb _ (by omega)]
theorem bkL_pos{T:Type}(bk:T->Nat)(l:List T):1<=bkL bk l:=by
 induction l with
 | nil=>simp[bkL]
 | cons y l ih=>unfold bkL;omega
theorem bkL_mem{T:Type}{bk:T->Nat}{l:List T}{x:T}(h:x∈l):bk x+1<=bkL bk l:=by
 induction l with
 | nil=>cases h
 | cons y l ih=>
  unfold bkL;have hp:=bkL_pos bk l;rcases jDl.1 h with rfl | h
  .omega
  have:=ih h;omega
theorem jDb{T:Type}{bk:T->Nat}(hb:∀x,1<=bk x)(l:List T):l.length+1<=bkL bk l:=by
 induction l with
 | nil=>simp[bkL]
 | cons y l ih=>unfold bkL;have:=hb y;simp;omega
section
variable {α:Type}
end
theorem w7b{V:Type}(m:List (Str × V))(k:Str)(v:V)(x:Str):mget (mput m k v) x=if k==x then some v else mget m x:=by
 induction m with
 | nil=>rfl
 | cons p m ih=>
  obtain ⟨k',v'⟩:=p;unfold mput;by_cases h:k' =k
  .subst h;simp only[beq_self_eq_true,if_true,mget];cases k' ==x <;> simp
  have h1:(k' ==k)=false:=by simpa using h
  rw[h1];simp only[jAs,if_false,mget];rw[ih];by_cases h2:k' =x
  .subst h2;have:(k==k')=false:=by simpa using fun h' =>h h'.symm
   simp[this]
  have:(k' ==x)=false:=by simpa using h2
  rw[this];simp
section
variable {α A S O:Type}
end
end
section
def Tot{α:Type}(o:Option α)(P:α->Prop):Prop:=∃a,o=some a/\P a
abbrev Qla{A R:Type}(Inv:A->Prop)(m:A->Nat)(k:Nat)(P:R->Prop):Step A R->Prop
 | .cont s=>Inv s/\m s < k
 | .out r=>P r
section
variable {α β:Type} {o:Option α} {P P' :α->Prop} {Q:β->Prop}
theorem Tot.bind{f:α->Option β}(h:Tot o P)(k:∀a,P a->Tot (f a) Q):Tot (o.bind f) Q:=by
 obtain ⟨a,rfl,ha⟩:=h;exact k a ha
theorem Tot.ret{a:α}(h:P a):Tot (some a) P:=⟨a,rfl,h⟩
theorem Tot.imp(h:Tot o P)(k:∀a,P a->P' a):Tot o P' :=by obtain ⟨a,h1,h2⟩:=h;exact ⟨a,h1,k a h2⟩
theorem Tot.eq{a:α}(h:o=some a):Tot o (· =a):=⟨a,h,rfl⟩
theorem Tot.know(h:Tot o P):Tot o fun a=>o=some a/\P a:=by obtain ⟨a,h1,h2⟩:=h;exact ⟨a,h1,h1,h2⟩
theorem Tot.cond{c:Bool}{a b:Option α}(h1:c=true->Tot a P)(h2:c=false->Tot b P):Tot (bif c then a else b) P:=by
 cases c with
 | true=>exact h1 rfl
 | false=>exact h2 rfl
theorem Tot.elim{γ δ:Type}{x:γ ⊕ δ}{f:γ->Option α}{g:δ->Option α}(h1:∀a,x=.inl a->Tot (f a) P)(h2:∀b,x=.inr b->Tot (g b) P):Tot (Sum.elim f g x) P:=by
 cases x with
 | inl a=>exact h1 a rfl
 | inr b=>exact h2 b rfl
theorem Tot.and{a b:Option Bool}{A B:Prop}(ha:Tot a fun x=>x=true->A)(hb:A->Tot b fun x=>x=true->B):Tot (a.bind fun j=>bif j then b else some false) fun x=>x=true->A/\B:=
 ha.bind fun j hj=>.cond (fun h=>(hb (hj h)).imp fun _ hx h' =>⟨hj h,hx h'⟩) fun _=>.ret fun h=>by cases h
theorem zEa{l:List α}{i:Int}(h0:0<=i)(h1:i < l.length):Tot (idx l i) fun x=>x∈l/\l[i.toNat]? =some x:=by
 have hi:i.toNat < l.length:=by omega
 refine ⟨l[i.toNat],?_,jDi _,jAe hi⟩;unfold idx;rw[if_pos h0,jAe hi]
theorem kMa{l:List α}{a b:Int}(h0:0<=a)(h1:a<=b)(h2:b<=l.length):Tot (cut l a b) fun r=>(r.length:Int)=b - a/\∀x∈r,x∈l:=by
 refine ⟨(l.drop a.toNat).take (b - a).toNat,?_,?_,fun x hx=>List.mem_of_mem_drop (List.mem_of_mem_take hx)⟩
 .unfold cut;rw[if_pos ⟨h0,h1,h2⟩]
 simp;omega
theorem yda{n:Nat}{l xs:List α}(h:l.length+xs.length<=n):Tot (app n l xs) (· =l++xs):=⟨_,qma h,rfl⟩
theorem k7a{a b:Str}(h:a.length+b.length<=9223372036854775807):Tot (cat a b) fun r=>r.length=a.length+b.length:=⟨_,JWa h,by simp⟩
theorem zRa{A R:Type}{body:A->Option (Step A R)}{P:R->Prop}(Inv:A->Prop)(m:A->Nat)(h:∀s,Inv s->Tot (body s) (Qla Inv m (m s) P))(s:A)(h0:Inv s):Tot (iter body s) P:=by
 obtain ⟨r,h1,h2⟩:=Vpa (body:=body) Inv m (fun _ r=>P r) (fun s hs=>by
  obtain ⟨t,h1,h2⟩:=h s hs;cases t with
  | cont s' =>exact .inr ⟨s',h1,h2.1,h2.2,fun _ h=>h⟩
  | out r=>exact .inl ⟨r,h1,h2⟩) s h0
 exact ⟨r,h1,h2⟩
theorem tot_upto{body:Int->Option (Step Int Int)}(n:Nat)(h:∀i:Int,0<=i->i<=n->Tot (body i) fun t=>match t with | .cont j=>j=i+1/\i < n | .out r=>r=i):Tot (iter body 0) fun r=>0<=r/\r<=n:=
 zRa (fun i:Int=>0<=i/\i<=n) (fun i:Int=>(n - i).toNat) (fun i hi=>(h i hi.1 hi.2).imp fun t ht=>by
  cases t with
  | cont j=>
   have ht:j=i+1/\i < n:=ht;simp only[Qla];omega
  | out r=>
   have ht:r=i:=ht;simp only[Qla];omega) 0 (by omega)
theorem kSa{i:Int}(h:0<=i)(h2:i < 1000000000000000):w64 (i+1)=i+1:=vna (by omega) (by omega)
end
end
def R_In(a0:Int)(a1:Int)(a2:Int):Option Bool:=
 ((bif decide (a1<=a0) then some (decide (a0<=a2)) else some false):Option Bool).bind fun (j1:Bool)=>some j1
def R_At(a0:Int)(a1:Int):Option zja:=
 some ((zja.mk a0 a1))
def zla(a0:Int)(a1:Int):Option zja:=
 some ((zja.mk a0 a1))
def zva:Option zja:=
 some ((zja.mk 0 0))
def zna(a0:zja):Option Bool:=
 some ((a0.Code !=0))
def V3a(a0:Int):Option Bool:=
 ((bif decide ((-68719476736)<=a0) then some (decide (a0<=68719476736)) else some false):Option Bool).bind fun (j1:Bool)=>some j1
def Kna(a0:UInt8):Option Bool:=
 ((bif decide (97<=(a0.toNat:Int)) then (bif decide ((a0.toNat:Int)<=122) then some true else (bif decide (65<=(a0.toNat:Int)) then (bif decide ((a0.toNat:Int)<=90) then some true else (bif decide (48<=(a0.toNat:Int)) then some (decide ((a0.toNat:Int)<=57)) else some false)) else (bif decide (48<=(a0.toNat:Int)) then some (decide ((a0.toNat:Int)<=57)) else some false))) else (bif decide (65<=(a0.toNat:Int)) then (bif decide ((a0.toNat:Int)<=90) then some true else (bif decide (48<=(a0.toNat:Int)) then some (decide ((a0.toNat:Int)<=57)) else some false)) else (bif decide (48<=(a0.toNat:Int)) then some (decide ((a0.toNat:Int)<=57)) else some false))):Option Bool).bind fun (j1:Bool)=>some j1
def jma(a0:List Str)(a1:List Str)(s2:Int):Option (Step Int (Unit ⊕ Bool)):=
 (bif decide (s2 < (a0.length:Int)) then (idx a0 s2).bind fun v8=>(idx a1 s2).bind fun v10=>(bif (v8 !=v10) then some (.out (.inr false)) else some (.cont (w64 (s2+1)))) else some (.out (.inl (()))))
def qJa(a0:List Str)(a1:List Str):Option Bool:=
 (bif ((a0.length:Int) !=(a1.length:Int)) then some false else (iter (jma a0 a1) 0).bind (Sum.elim (fun b3=>some true) (fun b4=>some b4)))
def qza(a0:List UInt8)(a1:List UInt8):Option Bool:=
 some ((a0==a1))
def kNa(a0:List UInt8)(a1:List UInt8):Option Bool:=
 ((bif decide ((a1.length:Int)<=(a0.length:Int)) then (cut a0 ((w64 ((a0.length:Int) - (a1.length:Int)))) ((a0.length:Int))).bind fun v3=>(qza v3 a1).bind fun v5=>some v5 else some false):Option Bool).bind fun (j1:Bool)=>some j1
def yKa(a b:List UInt8):Option Int:=if a.length < 4294967281/\b.length=2 then some (Lib.index a b) else none
def zwa(s:Str)(c:UInt8):Option Int:=some (Lib.indexByte s c)
def kUa(s t:Str):Option Bool:=if s.length < 4294967281 then some (Lib.contains s t) else none
def k8a(s t:Str):Option (Str × Str × Bool):=if s.length < 4294967281 then some (Lib.cut s t) else none
def kia(a0:Int):Option Bool:=
 ((bif decide (0<=a0) then some (decide (a0 < 55296)) else some false):Option Bool).bind fun (j1:Bool)=>(bif j1 then some true else ((bif decide (57343 < a0) then some (decide (a0<=1114111)) else some false):Option Bool).bind fun (j4:Bool)=>(bif j4 then some true else some false))
def qea(a0:Str)(s7:Nat):Option (Step Nat (Unit ⊕ Int)):=
 (bif decide (s7 < a0.length) then (bif ((Qya a0 s7)==65533) then some (.out (.inr (((s7:Nat):Int)))) else some (.cont (s7+jXa a0 s7))) else some (.out (.inl (()))))
def yja(a0:Str)(a1:Int)(j23:Int × Int)(s36:Int):Option (Step Int Unit):=
 (bif decide (s36 < (((jza a1)).length:Int)) then (idx a0 ((w64 (j23.2 - s36)))).bind fun v40=>(idx ((jza a1)) ((w64 (j23.1 - s36)))).bind fun v42=>(bif ((v40.toNat:Int) !=(v42.toNat:Int)) then none else some (.cont (w64 (s36+1)))) else some (.out (())))
def qfa(a0:Str)(a1:Int)(j23:Int × Int):Option (Step Int (Unit ⊕ Int)):=
 (iter (yja a0 a1 j23) 1).bind fun b37=>some (.out (.inr ((w64 (j23.2 - j23.1)))))
def qga(a0:Str)(a1:Int)(s17:Int):Option (Step Int (Unit ⊕ Int)):=
 (bif decide (s17 < (a0.length:Int)) then (idx a0 s17).bind fun v24=>(idx ((jza a1)) ((w64 ((((jza a1)).length:Int) - 1)))).bind fun v26=>(bif ((v24.toNat:Int) !=(v26.toNat:Int)) then (cut a0 ((w64 (s17+1))) ((a0.length:Int))).bind fun v29=>(idx ((jza a1)) ((w64 ((((jza a1)).length:Int) - 1)))).bind fun v31=>(zwa v29 v31).bind fun v33=>(bif decide (v33 < 0) then some (.out (.inr ((-1)))) else (qfa a0 a1 ((w64 ((((jza a1)).length:Int) - 1)),(w64 (s17+(w64 (v33+1))))))) else (qfa a0 a1 ((w64 ((((jza a1)).length:Int) - 1)),s17))) else some (.out (.inl (()))))
def z2a(a0:Str)(a1:Int):Option Int:=
 ((bif decide (0<=a1) then some (decide (a1 < 128)) else some false):Option Bool).bind fun (j1:Bool)=>(bif j1 then (zwa a0 ((toU8 a1))).bind fun v4=>some v4 else (bif (a1==65533) then (iter (qea a0) 0).bind (Sum.elim (fun b8=>some ((-1))) (fun b9=>some b9)) else (kia a1).bind fun v14=>(bif (!v14) then some ((-1)) else (iter (qga a0 a1) ((w64 ((((jza a1)).length:Int) - 1)))).bind (Sum.elim (fun b18=>some ((-1))) (fun b19=>some b19)))))
def zAa(a0:Int):Option Bool:=
 some (decide (8 < a0))
def qha(a0:Str)(a1:Str)(s12:Nat):Option (Step Nat (Unit ⊕ Int)):=
 (bif decide (s12 < a0.length) then (z2a a1 ((Qya a0 s12))).bind fun v18=>(bif decide (0<=v18) then some (.out (.inr (((s12:Nat):Int)))) else some (.cont (s12+jXa a0 s12))) else some (.out (.inl (()))))
def vca(a0:Str)(a1:Str):Option Int:=
 (bif (a1==([]:Str)) then some ((-1)) else (bif ((a1.length:Int)==1) then (idx a1 0).bind fun v3=>((bif decide (128<=(v3.toNat:Int)) then some 65533 else some ((v3.toNat:Int))):Option Int).bind fun (j5:Int)=>(z2a a0 j5).bind fun v7=>some v7 else (zAa ((a0.length:Int))).bind fun v9=>(bif v9 then none else (iter (qha a0 a1) 0).bind (Sum.elim (fun b13=>some ((-1))) (fun b14=>some b14)))))
def JXa(t:Str):Bool:=t.all fun c=>decide (c.toNat < 128)
def kVa(s t:Str):Option Int:=if s.length < 4294967281/\t.length < 4294967281/\2<=t.length/\JXa t=true then some (Lib.indexAny s t) else none
def kqa(a0:Str)(a1:Str):Option Bool:=
 ((bif decide ((a1.length:Int)<=(a0.length:Int)) then (cut a0 0 ((a1.length:Int))).bind fun v3=>some ((v3==a1)) else some false):Option Bool).bind fun (j1:Bool)=>some j1
def kGa(a0:Str)(a1:Str):Option Bool:=
 (kqa a0 a1).bind fun v1=>some v1
def zSa(a0:Str)(a1:Str):Option Bool:=
 ((bif decide ((a1.length:Int)<=(a0.length:Int)) then (cut a0 ((w64 ((a0.length:Int) - (a1.length:Int)))) ((a0.length:Int))).bind fun v3=>some ((v3==a1)) else some false):Option Bool).bind fun (j1:Bool)=>some j1
def zPa(a0:Str)(a1:Str):Option Bool:=
 (zSa a0 a1).bind fun v1=>some v1
def jna(a0:Str)(s5:Int):Option (Step Int (Unit ⊕ Unit)):=
 (bif decide (s5 < (a0.length:Int)) then (idx a0 s5).bind fun v11=>((bif decide (97<=(v11.toNat:Int)) then (bif decide ((v11.toNat:Int)<=122) then some true else (bif decide (48<=(v11.toNat:Int)) then (bif decide ((v11.toNat:Int)<=57) then some true else (bif ((v11.toNat:Int)==45) then some true else some (((v11.toNat:Int)==46)))) else (bif ((v11.toNat:Int)==45) then some true else some (((v11.toNat:Int)==46))))) else (bif decide (48<=(v11.toNat:Int)) then (bif decide ((v11.toNat:Int)<=57) then some true else (bif ((v11.toNat:Int)==45) then some true else some (((v11.toNat:Int)==46)))) else (bif ((v11.toNat:Int)==45) then some true else some (((v11.toNat:Int)==46))))):Option Bool).bind fun (j13:Bool)=>(bif (!j13) then some (.out (.inr (()))) else some (.cont (w64 (s5+1)))) else some (.out (.inl (()))))
def yLa(a0:Str):Option Bool:=
 ((bif (a0 !=([]:Str)) then (bif decide ((a0.length:Int)<=60) then ((iter (jna a0) 0).bind (Sum.elim (fun b6=>some true) (fun b7=>some false)):Option Bool).bind fun (j4:Bool)=>(bif j4 then (kGa a0 (([46]:Str))).bind fun v26=>(bif (!v26) then (zPa a0 (([46]:Str))).bind fun v29=>(bif (!v29) then (kUa a0 (([46,46]:Str))).bind fun v32=>some ((!v32)) else some false) else some false) else some false) else some false) else some false):Option Bool).bind fun (j1:Bool)=>some j1
def j2a(v1:Str × Str × Bool)(s8:Int):Option (Step Int (Unit ⊕ Unit)):=
 (bif decide (s8 < (v1.1.length:Int)) then (idx v1.1 s8).bind fun v14=>((Kna v14).bind fun v17=>(bif v17 then some true else (zwa (([45,95,46,43,61]:Str)) v14).bind fun v20=>some (decide (0<=v20))):Option Bool).bind fun (j16:Bool)=>(bif (!j16) then some (.out (.inr (()))) else some (.cont (w64 (s8+1)))) else some (.out (.inl (()))))
def jEa(a0:Str):Option (Str × Str × Bool):=
 (k8a a0 (([64]:Str))).bind fun v1=>((bif v1.2.2 then (bif (v1.1 !=([]:Str)) then (bif decide ((v1.1.length:Int)<=60) then ((iter (j2a v1) 0).bind (Sum.elim (fun b9=>some true) (fun b10=>some false)):Option Bool).bind fun (j7:Bool)=>(bif j7 then (yLa v1.2.1).bind fun v24=>some v24 else some false) else some false) else some false) else some false):Option Bool).bind fun (j3:Bool)=>some ((v1.1,v1.2.1,j3))
def yea(a0:Str):Option Bool:=
 (jEa a0).bind fun v1=>some v1.2.2
def zZa(a0:Str)(a1:Str):Option Bool:=
 (kVa a0 a1).bind fun v1=>some (decide (0<=v1))
def wOa(a0:Str)(s5:Int):Option (Step Int (Unit ⊕ Unit)):=
 (bif decide (s5 < (a0.length:Int)) then (idx a0 s5).bind fun v11=>((bif decide (33<=(v11.toNat:Int)) then (bif decide ((v11.toNat:Int)<=126) then some (((v11.toNat:Int) !=58)) else some false) else some false):Option Bool).bind fun (j13:Bool)=>(bif (!j13) then some (.out (.inr (()))) else some (.cont (w64 (s5+1)))) else some (.out (.inl (()))))
def Koa(a0:Str):Option Bool:=
 ((bif (a0 !=([]:Str)) then (bif decide ((a0.length:Int)<=60) then ((iter (wOa a0) 0).bind (Sum.elim (fun b6=>some true) (fun b7=>some false)):Option Bool).bind fun (j4:Bool)=>some j4 else some false) else some false):Option Bool).bind fun (j1:Bool)=>some j1
def Kpa(a0:Str):Option Bool:=
 (zZa a0 (([13,10,0]:Str))).bind fun v1=>some v1
def qAa(a0:UInt8):Option Bool:=
 ((bif ((a0.toNat:Int)==32) then some true else some (((a0.toNat:Int)==9))):Option Bool).bind fun (j1:Bool)=>some j1
def j3a(a0:Str):Option Bool:=
 ((Kpa a0).bind fun v2=>(bif (!v2) then (bif (a0==([]:Str)) then some true else (idx a0 0).bind fun v6=>(qAa v6).bind fun v8=>(bif (!v8) then (idx a0 ((w64 ((a0.length:Int) - 1)))).bind fun v11=>(qAa v11).bind fun v13=>some ((!v13)) else some false)) else some false):Option Bool).bind fun (j1:Bool)=>some j1
def qBa(s1:Int × Int)(j5:Int):Option (Step (Int × Int) Int):=
 some (.cont (j5,(w64 (s1.2+1))))
def yna(a0:Str)(s1:Int × Int):Option (Step (Int × Int) Int):=
 (bif decide (s1.2 < (a0.length:Int)) then ((idx a0 s1.2).bind fun v7=>(qAa v7).bind fun v9=>(bif (!v9) then some true else (idx a0 ((w64 (s1.2 - 1)))).bind fun v12=>(qAa v12).bind fun v14=>some v14):Option Bool).bind fun (j6:Bool)=>(bif j6 then (qBa s1 s1.1) else ((bif decide (0 < s1.1) then some (decide (78 < s1.2)) else some false):Option Bool).bind fun (j17:Bool)=>(bif j17 then some (.out s1.1) else (qBa s1 s1.2))) else some (.out s1.1))
def j4a(a0:Str)(a1:Int):Option Int:=
 (iter (yna a0) ((0,(max a1 1)))).bind fun b2=>some b2
def wPa(s18:Str × Int × (List Str)):Option (Step (Str × Int × (List Str)) (Str × (List Str))):=
 (bif decide (78 < (s18.1.length:Int)) then (j4a s18.1 s18.2.1).bind fun v22=>(bif (v22==0) then some (.out ((s18.1,s18.2.2))) else (cut s18.1 0 v22).bind fun v25=>(app 8796093022208 s18.2.2 (([v25]:List Str))).bind fun v27=>(cut s18.1 v22 ((s18.1.length:Int))).bind fun v29=>some (.cont (v29,0,v27))) else some (.out ((s18.1,s18.2.2))))
def joa(v31:List Str)(s34:Int):Option (Step Int (Unit ⊕ ((List Str) × zja))):=
 (bif decide (s34 < (v31.length:Int)) then (idx v31 s34).bind fun v40=>(bif decide (998 < (v40.length:Int)) then (zla 1 s34).bind fun v43=>some (.out (.inr (([],v43)))) else some (.cont (w64 (s34+1)))) else some (.out (.inl (()))))
def wQa(a0:Str)(a1:Str):Option ((List Str) × zja):=
 (Koa a0).bind fun v1=>(bif (!v1) then (zla 10 ((-1))).bind fun v4=>some (([],v4)) else (bif decide (4000 < (a1.length:Int)) then (zla 1 ((-1))).bind fun v7=>some (([],v7)) else (j3a a1).bind fun v9=>(bif (!v9) then (zla 11 ((-1))).bind fun v12=>some (([],v12)) else (cat a0 (([58,32]:Str))).bind fun v14=>(cat v14 a1).bind fun v16=>(iter (wPa) ((v16,(w64 ((a0.length:Int)+2)),([]:List Str)))).bind fun b19=>(app 8796093022208 b19.2 (([b19.1]:List Str))).bind fun v31=>(iter (joa v31) 0).bind (Sum.elim (fun b35=>(zva).bind fun v45=>some ((v31,v45))) (fun b36=>some ((b36.1,b36.2)))))))
def qWa(a0:List zba)(s4:Int):Option (Step Int (Unit ⊕ zja)):=
 (bif decide (s4 < (a0.length:Int)) then (idx a0 s4).bind fun v10=>(wQa v10.Name v10.Value).bind fun v12=>(zna v12.2).bind fun v14=>(bif v14 then (zla v12.2.Code s4).bind fun v17=>some (.out (.inr v17)) else some (.cont (w64 (s4+1)))) else some (.out (.inl (()))))
def kOa(a0:List zba):Option zja:=
 (bif decide (60 < (a0.length:Int)) then (zla 2 ((-1))).bind fun v2=>some v2 else (iter (qWa a0) 0).bind (Sum.elim (fun b5=>(zva).bind fun v19=>some v19) (fun b6=>some b6)))
def qKa(v7:(List Str) × zja)(s9:Int × (List UInt8)):Option (Step (Int × (List UInt8)) (List UInt8)):=
 (bif decide (s9.1 < (v7.1.length:Int)) then (idx v7.1 s9.1).bind fun v13=>(app 140737488355328 s9.2 v13).bind fun v15=>(app 140737488355328 v15 (([(13:UInt8),(10:UInt8)]:List UInt8))).bind fun v17=>some (.cont ((w64 (s9.1+1)),v17)) else some (.out s9.2))
def qLa(a0:zda)(s1:Int × (List UInt8)):Option (Step (Int × (List UInt8)) (List UInt8)):=
 (bif decide (s1.1 < (a0.Fields.length:Int)) then (idx a0.Fields s1.1).bind fun v5=>(wQa v5.Name v5.Value).bind fun v7=>(iter (qKa v7) ((0,s1.2))).bind fun b10=>some (.cont ((w64 (s1.1+1)),b10)) else some (.out s1.2))
def vda(a0:zda):Option (List UInt8):=
 (iter (qLa a0) ((0,([]:List UInt8)))).bind fun b2=>(app 140737488355328 b2 (([(13:UInt8),(10:UInt8)]:List UInt8))).bind fun v19=>(app 140737488355328 v19 a0.Body).bind fun v21=>some v21
def v3a(j7:Int × Int):Option (Step (Int × Int) (Unit ⊕ Int)):=
 some (.cont (j7.1,(w64 (j7.2+1))))
def vea(a0:List UInt8)(s1:Int × Int):Option (Step (Int × Int) (Unit ⊕ Int)):=
 (bif decide (s1.2 < (a0.length:Int)) then (idx a0 s1.2).bind fun v8=>((bif ((v8.toNat:Int)==13) then (bif decide ((w64 (s1.2+1)) < (a0.length:Int)) then (idx a0 ((w64 (s1.2+1)))).bind fun v13=>some (((v13.toNat:Int)==10)) else some false) else some false):Option Bool).bind fun (j10:Bool)=>(bif j10 then (v3a (0,(w64 (s1.2+1)))) else ((bif ((v8.toNat:Int)==13) then some true else some (((v8.toNat:Int)==10))):Option Bool).bind fun (j16:Bool)=>(bif j16 then some (.out (.inr 11)) else (bif decide (998 < (w64 (s1.1+1))) then some (.out (.inr 1)) else (v3a ((w64 (s1.1+1)),s1.2))))) else some (.out (.inl (()))))
def yxa(a0:List UInt8):Option Int:=
 (iter (vea a0) ((0,0))).bind (Sum.elim (fun b2=>some 0) (fun b3=>some b3))
def wRa(a0:List UInt8):Option zja:=
 (yxa a0).bind fun v1=>(bif (v1==11) then (zla 11 ((-5))).bind fun v4=>some v4 else (bif (v1==1) then (zla 1 ((-6))).bind fun v7=>some v7 else (zva).bind fun v9=>some v9))
def zOa(a0:zda):Option zja:=
 (kOa a0.Fields).bind fun v1=>(zna v1).bind fun v3=>(bif v3 then some v1 else (vda a0).bind fun v6=>(bif decide (12000 < (v6.length:Int)) then (zla 1 ((-4))).bind fun v9=>some v9 else (wRa a0.Body).bind fun v11=>some v11))
def qTa(a0:UInt8):Option Bool:=
 ((bif ((a0.toNat:Int)==32) then some true else some (((a0.toNat:Int)==9))):Option Bool).bind fun (j1:Bool)=>some j1
def kra(s5:Str × Int × (List Str))(s9:Int × Int):Option (Step (Int × Int) Int):=
 ((bif decide (0 < s9.2) then some ((s9.1==0)) else some false):Option Bool).bind fun (j12:Bool)=>(bif j12 then (((bif decide (s5.2.1<=s9.2) then (idx s5.1 s9.2).bind fun v18=>(qTa v18).bind fun v20=>(bif v20 then (idx s5.1 ((w64 (s9.2 - 1)))).bind fun v23=>(qTa v23).bind fun v25=>some ((!v25)) else some false) else some false):Option Bool).bind fun (j16:Bool)=>(bif j16 then some s9.2 else some s9.1):Option Int).bind fun (j15:Int)=>some (.cont (j15,(w64 (s9.2 - 1)))) else some (.out s9.1))
def z7a(s5:Str × Int × (List Str))(s28:Int × Int):Option (Step (Int × Int) Int):=
 ((bif decide (s28.2 < (s5.1.length:Int)) then some ((s28.1==0)) else some false):Option Bool).bind fun (j31:Bool)=>(bif j31 then (((bif decide (s5.2.1<=s28.2) then (idx s5.1 s28.2).bind fun v37=>(qTa v37).bind fun v39=>(bif v39 then (idx s5.1 ((w64 (s28.2 - 1)))).bind fun v42=>(qTa v42).bind fun v44=>some ((!v44)) else some false) else some false):Option Bool).bind fun (j35:Bool)=>(bif j35 then some s28.2 else some s28.1):Option Int).bind fun (j34:Int)=>some (.cont (j34,(w64 (s28.2+1)))) else some (.out s28.1))
def q2a(s5:Str × Int × (List Str)):Option (Step (Str × Int × (List Str)) (Str × (List Str))):=
 (bif decide (78 < (s5.1.length:Int)) then (iter (kra s5) ((0,78))).bind fun b10=>(iter (z7a s5) ((b10,79))).bind fun b29=>(bif (b29==0) then some (.out ((s5.1,s5.2.2))) else (cut s5.1 0 b29).bind fun v48=>(app 8796093022208 s5.2.2 (([v48]:List Str))).bind fun v50=>(cut s5.1 b29 ((s5.1.length:Int))).bind fun v52=>some (.cont (v52,1,v50))) else some (.out ((s5.1,s5.2.2))))
def vOa(a0:Str)(a1:Str):Option (List Str):=
 (cat a0 (([58,32]:Str))).bind fun v1=>(cat v1 a1).bind fun v3=>(iter (q2a) ((v3,(w64 ((a0.length:Int)+2)),([]:List Str)))).bind fun b6=>(app 8796093022208 b6.2 (([b6.1]:List Str))).bind fun v54=>some v54
def vpa(a0:zba)(s1:Int):Option (Step Int (Unit ⊕ Int)):=
 (bif decide (s1 < (a0.Name.length:Int)) then ((idx a0.Name s1).bind fun v8=>(R_In ((v8.toNat:Int)) 33 126).bind fun v10=>(bif (!v10) then some true else (idx a0.Name s1).bind fun v13=>some (((v13.toNat:Int)==58))):Option Bool).bind fun (j7:Bool)=>(bif j7 then some (.out (.inr 10)) else some (.cont (w64 (s1+1)))) else some (.out (.inl (()))))
def vqa(a0:zba)(s20:Int):Option (Step Int (Unit ⊕ Int)):=
 (bif decide (s20 < (a0.Value.length:Int)) then ((idx a0.Value s20).bind fun v27=>(bif ((v27.toNat:Int)==0) then some true else (idx a0.Value s20).bind fun v30=>(bif ((v30.toNat:Int)==10) then some true else (idx a0.Value s20).bind fun v33=>some (((v33.toNat:Int)==13)))):Option Bool).bind fun (j26:Bool)=>(bif j26 then some (.out (.inr 11)) else some (.cont (w64 (s20+1)))) else some (.out (.inl (()))))
def vra(v48:List Str)(s50:Int):Option (Step Int (Unit ⊕ Int)):=
 (bif decide (s50 < (v48.length:Int)) then (idx v48 s50).bind fun v56=>(bif decide (998 < (v56.length:Int)) then some (.out (.inr 1)) else some (.cont (w64 (s50+1)))) else some (.out (.inl (()))))
def wqa(a0:zba):Option Int:=
 (iter (vpa a0) 0).bind (Sum.elim (fun b2=>(R_In ((a0.Name.length:Int)) 1 60).bind fun v16=>(bif (!v16) then some 10 else (bif decide (4000 < (a0.Value.length:Int)) then some 1 else (iter (vqa a0) 0).bind (Sum.elim (fun b21=>((bif decide (0 < (a0.Value.length:Int)) then (idx a0.Value 0).bind fun v38=>(qTa v38).bind fun v40=>(bif v40 then some true else (idx a0.Value ((w64 ((a0.Value.length:Int) - 1)))).bind fun v43=>(qTa v43).bind fun v45=>some v45) else some false):Option Bool).bind fun (j36:Bool)=>(bif j36 then some 11 else (vOa a0.Name a0.Value).bind fun v48=>(iter (vra v48) 0).bind (Sum.elim (fun b51=>some 0) (fun b52=>some b52)))) (fun b22=>some b22))))) (fun b3=>some b3))
def qoa(v9:List Str)(s11:Int × (List UInt8)):Option (Step (Int × (List UInt8)) (List UInt8)):=
 (bif decide (s11.1 < (v9.length:Int)) then (idx v9 s11.1).bind fun v15=>(app 140737488355328 s11.2 v15).bind fun v17=>(app 140737488355328 v17 (([(13:UInt8),(10:UInt8)]:List UInt8))).bind fun v19=>some (.cont ((w64 (s11.1+1)),v19)) else some (.out s11.2))
def qpa(a0:zda)(s1:Int × (List UInt8)):Option (Step (Int × (List UInt8)) (List UInt8)):=
 (bif decide (s1.1 < (a0.Fields.length:Int)) then (idx a0.Fields s1.1).bind fun v5=>(idx a0.Fields s1.1).bind fun v7=>(vOa v5.Name v7.Value).bind fun v9=>(iter (qoa v9) ((0,s1.2))).bind fun b12=>some (.cont ((w64 (s1.1+1)),b12)) else some (.out s1.2))
def kCa(a0:zda):Option (List UInt8):=
 (iter (qpa a0) ((0,([]:List UInt8)))).bind fun b2=>(app 140737488355328 b2 (([(13:UInt8),(10:UInt8)]:List UInt8))).bind fun v21=>(app 140737488355328 v21 a0.Body).bind fun v23=>some v23
def vfa(a0:zda)(s4:Int):Option (Step Int (Unit ⊕ zja)):=
 (bif decide (s4 < (a0.Fields.length:Int)) then (idx a0.Fields s4).bind fun v10=>(wqa v10).bind fun v12=>(bif (v12 !=0) then (R_At v12 s4).bind fun v15=>some (.out (.inr v15)) else some (.cont (w64 (s4+1)))) else some (.out (.inl (()))))
def qqa(j30:Int × Int):Option (Step (Int × Int) (Unit ⊕ zja)):=
 some (.cont (j30.1,(w64 (j30.2+1))))
def kHa(a0:zda)(s24:Int × Int):Option (Step (Int × Int) (Unit ⊕ zja)):=
 (bif decide (s24.2 < (a0.Body.length:Int)) then (idx a0.Body s24.2).bind fun v31=>((bif ((v31.toNat:Int)==13) then (bif decide ((w64 (s24.2+1)) < (a0.Body.length:Int)) then (idx a0.Body ((w64 (s24.2+1)))).bind fun v36=>some (((v36.toNat:Int)==10)) else some false) else some false):Option Bool).bind fun (j33:Bool)=>(bif j33 then (qqa (0,(w64 (s24.2+1)))) else ((bif ((v31.toNat:Int)==13) then some true else some (((v31.toNat:Int)==10))):Option Bool).bind fun (j39:Bool)=>(bif j39 then (R_At 11 ((-5))).bind fun v42=>some (.out (.inr v42)) else (bif decide (998 < (w64 (s24.1+1))) then (R_At 1 ((-6))).bind fun v45=>some (.out (.inr v45)) else (qqa ((w64 (s24.1+1)),s24.2))))) else some (.out (.inl (()))))
def qPa(a0:zda):Option zja:=
 (bif decide (60 < (a0.Fields.length:Int)) then (R_At 2 ((-1))).bind fun v2=>some v2 else (iter (vfa a0) 0).bind (Sum.elim (fun b5=>((bif decide (12000 < (a0.Body.length:Int)) then some true else (kCa a0).bind fun v19=>some (decide (12000 < (v19.length:Int)))):Option Bool).bind fun (j17:Bool)=>(bif j17 then (R_At 1 ((-4))).bind fun v22=>some v22 else (iter (kHa a0) ((0,0))).bind (Sum.elim (fun b25=>some ((zja.mk 0 0))) (fun b26=>some b26)))) (fun b6=>some b6)))
def vGa(a0:Str):Option Bool:=
 (wQa a0 (([]:Str))).bind fun v1=>(zna v1.2).bind fun v3=>some ((!v3))
def wSa(a0:List zba)(a1:Str):Option zja:=
 (kOa a0).bind fun v1=>(zna v1).bind fun v3=>(bif v3 then some v1 else (vGa a1).bind fun v6=>(bif (!v6) then (zla 10 ((-3))).bind fun v9=>some v9 else (zva).bind fun v11=>some v11))
def k9a(a0:Str)(s1:Int × (List UInt8)):Option (Step (Int × (List UInt8)) (List UInt8)):=
 (bif decide (s1.1 < (a0.length:Int)) then ((idx s1.2 s1.1).bind fun v6=>(idx s1.2 s1.1).bind fun v8=>((bif decide (65<=(v8.toNat:Int)) then some (decide ((v8.toNat:Int)<=90)) else some false):Option Bool).bind fun (j10:Bool)=>(bif j10 then (idx s1.2 s1.1).bind fun v13=>(idx s1.2 s1.1).bind fun v15=>some ((List.set s1.2 (Int.toNat s1.1) (((v8+(97:UInt8)) - (65:UInt8))))) else some s1.2):Option (List UInt8)).bind fun (j5:List UInt8)=>some (.cont ((w64 (s1.1+1)),j5)) else some (.out s1.2))
def wra(a0:Str):Option Str:=
 (iter (k9a a0) ((0,a0))).bind fun b2=>some b2
def kba(a0:Str)(a1:Str):Option Bool:=
 ((bif ((a0.length:Int)==(a1.length:Int)) then (wra a0).bind fun v3=>(wra a1).bind fun v5=>some ((v3==v5)) else some false):Option Bool).bind fun (j1:Bool)=>some j1
def v4a(a0:List zba)(a1:Str)(s6:Int × (List Str)):Option (Step (Int × (List Str)) (List Str)):=
 (bif decide (s6.1 < (a0.length:Int)) then ((idx a0 s6.1).bind fun v11=>(kba v11.Name a1).bind fun v13=>(bif v13 then (app 8796093022208 s6.2 (([v11.Value]:List Str))).bind fun v16=>some v16 else some s6.2):Option (List Str)).bind fun (j10:List Str)=>some (.cont ((w64 (s6.1+1)),j10)) else some (.out s6.2))
def j5a(a0:List zba)(a1:Str):Option ((List Str) × zja):=
 (wSa a0 a1).bind fun v1=>(zna v1).bind fun v3=>(bif v3 then some (([],v1)) else (iter (v4a a0 a1) ((0,([]:List Str)))).bind fun b7=>(zva).bind fun v18=>some ((b7,v18)))
def vAa(a0:zda)(a1:zda)(s4:Int):Option (Step Int (Unit ⊕ Bool)):=
 (bif decide (s4 < (a0.Fields.length:Int)) then (idx a0.Fields s4).bind fun v10=>(idx a1.Fields s4).bind fun v12=>(bif (!(Z4a [(v10.Name==v12.Name),(v10.Value==v12.Value)])) then some (.out (.inr false)) else some (.cont (w64 (s4+1)))) else some (.out (.inl (()))))
def v5a(a0:zda)(a1:zda):Option Bool:=
 ((bif ((a0.Fields.length:Int) !=(a1.Fields.length:Int)) then some true else some ((a0.Body !=a1.Body))):Option Bool).bind fun (j1:Bool)=>(bif j1 then some false else (iter (vAa a0 a1) 0).bind (Sum.elim (fun b5=>some true) (fun b6=>some b6)))
theorem wfb(k:Nat)(c:UInt8)(hk:OfNat.ofNat k < 256):decide ((no_index (OfNat.ofNat k:Int))<=(c.toNat:Int))=decide ((OfNat.ofNat k:UInt8)<=c):=by
 have e:(OfNat.ofNat k:Int)=((OfNat.ofNat k:Nat):Int):=rfl;have h2:(OfNat.ofNat k:UInt8).toNat=(OfNat.ofNat k:Nat):=by
  show (UInt8.ofNat k).toNat=k;rw[jCm];exact Nat.mod_eq_of_lt hk
 rw[jBg,decide_eq_true_eq,decide_eq_true_eq,UInt8.le_iff_toNat_le,h2,e];omega
theorem wgb(k:Nat)(c:UInt8)(hk:OfNat.ofNat k < 256):decide ((c.toNat:Int)<=(no_index (OfNat.ofNat k:Int)))=decide (c<=(OfNat.ofNat k:UInt8)):=by
 have e:(OfNat.ofNat k:Int)=((OfNat.ofNat k:Nat):Int):=rfl;have h2:(OfNat.ofNat k:UInt8).toNat=(OfNat.ofNat k:Nat):=by
  show (UInt8.ofNat k).toNat=k;rw[jCm];exact Nat.mod_eq_of_lt hk
 rw[jBg,decide_eq_true_eq,decide_eq_true_eq,UInt8.le_iff_toNat_le,h2,e];omega
theorem zSb(a b c:Int):R_In a b c=some (decide (b<=a) && decide (a<=c)):=by
 unfold R_In;cases decide (b<=a) <;> rfl
theorem Qma(s t:Str)(hs:s.length<=9223372036854775806):zPa s t=some (t.isSuffixOf s):=by
 unfold zPa zSa;by_cases h:t.length<=s.length
 .have:decide ((t.length:Int)<=(s.length:Int))=true:=by simp;omega
  rw[this,w64_ns _ _ h (by omega),QAa (by omega)];simp only[cond_true,jAc,Option.some.injEq];rw[jBg,beq_iff_eq,jCt,List.suffix_iff_eq_drop];constructor <;> exact fun h=>h.symm
 have:decide ((t.length:Int)<=(s.length:Int))=false:=by simp;omega
 rw[this];simp only[cond_false,jAc,Option.some.injEq]
 symm
 rw[Bool.eq_false_iff];intro hp;exact h (jCt.1 hp).length_le
theorem Wva(a b:List Str)(ha:a.length<=9223372036854775806):qJa a b=some (a==b):=by
 unfold qJa;by_cases hlen:a.length=b.length
 .have h1:((a.length:Int) !=(b.length:Int))=false:=by rw[hlen];simp
  rw[h1];simp only[cond_false];rw[qna a (fun i x=>if b[i]? !=some x then some false else none) (.inl ()) .inr]
  .simp only[jAc];cases hf:kua (fun i x=>if b[i]? !=some x then some false else none) 0 a with
   | none=>
    rw[QSa]at hf;have:a=b:=by
     apply List.ext_getElem?;intro i;by_cases hi:i < a.length
     .have:=hf i a[i] (jAe hi);rw[jCc]at this;rw[jAe hi];simp at this;exact this.symm
     rw[jCv (by omega),jCv (by omega)]
    subst this;simp
   | some r=>
    obtain ⟨i,x,hx,hq⟩:=YEa hf;rw[jCc]at hq;split at hq
    .cases hq;rename_i hne;have:(a==b)=false:=by
      rw[beq_eq_false_iff_ne];rintro rfl;rw[hx]at hne;simp at hne
     rw[this];rfl
    cases hq
  .unfold jma;rw[kBa];rfl
  intro i x hx;have hi:=z6a hx;unfold jma;have hib:i < b.length:=by omega
  rw[qVa hx,kla hx,JVa hib,jAe hib];simp only[cond_true,jAc];rw[show ((i:Int)+1)=((i+1:Nat):Int) by omega,kUb _ (by omega)];by_cases hxb:x=b[i]
  .subst hxb;simp
  have e1:(x !=b[i])=true:=by simpa using hxb
  have e2:(some b[i] !=some x)=true:=by simp;exact fun h=>hxb h.symm
  rw[e1,e2];rfl
 have h1:((a.length:Int) !=(b.length:Int))=true:=by simp;omega
 rw[h1];simp only[cond_true];have:(a==b)=false:=by rw[beq_eq_false_iff_ne];rintro rfl;exact hlen rfl
 rw[this]
def add1(o:List Str)(x:Str):List Str:=if o.contains x then o else o++ [x]
def JYa(o xs:List Str):List Str:=xs.foldl add1 o
theorem add1_mem(o:List Str)(x y:Str):y∈add1 o x↔y∈o∨y=x:=by
 unfold add1;split
 .rename_i h;simp at h;constructor
  .exact .inl
  rintro (h1 | rfl)
  .exact h1
  exact h
 simp
theorem vvb(o:List Str)(x:Str):o <+:add1 o x:=by
 unfold add1;split
 .exact List.prefix_refl _
 exact List.prefix_append _ _
theorem w8b{o:List Str}(h:o.Nodup)(x:Str):(add1 o x).Nodup:=by
 unfold add1;split
 .exact h
 rename_i hx;simp at hx;rw[List.nodup_append];exact ⟨h,by simp,fun a ha b hb hab=>by simp at hb;subst hb;subst hab;exact hx ha⟩
theorem w9b(xs:List Str):∀(o:List Str) (y:Str),y∈JYa o xs↔y∈o∨y∈xs:=by
 induction xs with
 | nil=>intro o y;simp[JYa]
 | cons x xs ih=>intro o y;show y∈JYa (add1 o x) xs↔_;rw[ih,add1_mem];simp[or_assoc]
theorem zTb(xs:List Str):∀o:List Str,o <+:JYa o xs:=by
 induction xs with
 | nil=>intro o;exact List.prefix_refl _
 | cons x xs ih=>intro o;exact (vvb o x).trans (ih _)
theorem kWb(xs:List Str):∀{o:List Str},o.Nodup->(JYa o xs).Nodup:=by
 induction xs with
 | nil=>intro o h;exact h
 | cons x xs ih=>intro o h;exact ih (w8b h x)
theorem nodup_le{l m:List Str}(hl:l.Nodup)(h:∀x∈l,x∈m):l.length<=m.length:=by
 induction l generalizing m with
 | nil=>simp
 | cons x l ih=>
  have hx:x∈m:=h x (by simp);obtain ⟨hxl,hl'⟩:=List.nodup_cons.1 hl;have:=ih (m:=m.erase x) hl' (fun y hy=>by
   have hne:y≠x:=by rintro rfl;exact hxl hy
   exact (List.mem_erase_of_ne hne).2 (h y (by simp[hy])))
  rw[List.length_erase_of_mem hx]at this;have:0 < m.length:=List.length_pos_of_mem hx;simp;omega
def tgtO(l:List jla)(s:Str):Option (List Str):=(l.find? (fun a=>a.Address==s)).map (·.To)
def tgt(l:List jla)(s:Str):List Str:=(tgtO l s).getD []
def univ(l:List jla)(from_:List Str):List Str:=from_++l.flatMap (·.To)
theorem tgt_sub(l:List jla)(s x:Str)(h:x∈tgt l s):∃a∈l,a.Address=s/\x∈a.To:=by
 unfold tgt tgtO at h;cases hf:l.find? (fun a=>a.Address==s) with
 | none=>rw[hf]at h;simp at h
 | some a=>
  rw[hf]at h;have:=List.find?_some hf;exact ⟨a,List.mem_of_find?_eq_some hf,by simpa using this,by simpa using h⟩
structure Inv (l:List jla) (U:List Str) (k:Nat) (out:List Str):Prop where
 nd:out.Nodup
 sub:∀x∈out,x∈U
 le:k<=out.length
theorem Inv.len{l:List jla}{U:List Str}{k:Nat}{out:List Str}(h:Inv l U k out):out.length<=U.length:=nodup_le h.nd h.sub
theorem Inv.step{l:List jla}{from_:List Str}{k:Nat}{out:List Str}(h:Inv l (univ l from_) k out){s:Str}(hs:out[k]? =some s):Inv l (univ l from_) (k+1) (JYa out (tgt l s)):=by
 refine ⟨kWb _ h.nd,fun x hx=>?_,?_⟩
 .rcases (w9b _ _ _).1 hx with h1 | h1
  .exact h.sub x h1
  obtain ⟨a,ha,_,hxa⟩:=tgt_sub l s x h1;exact jCk.2 (.inr (List.mem_flatMap.2 ⟨a,ha,hxa⟩))
 have:=(zTb (tgt l s) out).length_le;have:=z6a hs;omega
theorem Jqa(o:Option Unit)(a b:Bool):Sum.elim (fun _=>some a) (fun _=>some b) (o.elim (Sum.inl ()) Sum.inr:Unit ⊕ Unit)=some (bif o.isSome then b else a):=by cases o <;> rfl
theorem Vqa{α R:Type}(c:α->Bool)(r:R)(l:List α)(n:Nat):(kua (fun _ x=>if c x then some r else none) n l).isSome=l.any c:=by
 rw[w6b];cases l.any c <;> rfl
theorem jEb{α:Type}(l:List α)(p:α->Bool):l.any (fun x=> !p x)= !l.all p:=by simp[List.not_all_eq_any_not]
theorem vwb(a b:Int):R_At a b=some ⟨a,b⟩:=rfl
theorem qQa(a b:Int):zla a b=some ⟨a,b⟩:=rfl
theorem qCa:zva=some ⟨0,0⟩:=rfl
theorem zsa(f:zja):zna f=some (f.Code !=0):=rfl
theorem yab(o:Option zja)(f:zja):Sum.elim (fun _=>some f) (fun b=>some b) (o.elim (Sum.inl ()) Sum.inr:Unit ⊕ zja)=some (o.getD f):=by cases o <;> rfl
theorem zUb(s:Str)(i:Nat)(h:i < s.length):(strB s)[i]'(by rw[zta];exact h)=s[i]:=rfl
theorem jFb(s:Str)(i:Nat)(h:i < s.length):(strB s).get! i=s[i]:=by
 have:=get_at (strB s) i (by rw[zta];exact h);rw[jBy]at this;rw[this];rfl
theorem JZa{s:Str}{i:Nat}{c:UInt8}(h:s[i]? =some c)(hc:c.toNat < 128):Qya s i=(c.toNat:Int)/\jXa s i=1:=by
 have hi:=z6a h;have e:s[i]=c:=by rw[jAe hi]at h;exact Option.some.inj h
 have hd:=decode_ascii (strB s) i (by rw[zta];exact hi) (by rw[zUb s i hi,e];exact hc);unfold Qya jXa;rw[hd,zUb s i hi,e];exact ⟨rfl,rfl⟩
theorem jGb{s:Str}{i:Nat}{c:UInt8}(h:s[i]? =some c)(hc:128<=c.toNat):128<=Qya s i/\Qya s i<=2147483647/\1<=jXa s i:=by
 have hi:=z6a h;have e:s[i]=c:=by rw[jAe hi]at h;exact Option.some.inj h
 have hd:=decode_high (strB s) i (by rw[zta];exact hi) (by rw[zUb s i hi,e];exact hc);have hl:=decode_le (strB s) i;unfold Qya jXa;exact ⟨by omega,by omega,hd.2⟩
theorem vxb(s:ByteArray)(pos:Nat):∀k,1<=k->k < (Utf8.decode s pos).2->(s.get! (pos+k)).toNat / 64=2:=by
 intro k h1 h2;simp only[Utf8.decode]at h2;repeat' split at h2
 all_goals first
  | (exfalso;simp at h2;omega)
  | (
   rename_i hq _;simp only[jAn,decide_eq_true_eq,beq_iff_eq]at hq;have h2:k < 2:=h2;obtain rfl:k=1:=by omega
   exact hq.2.2)
  | (
   rename_i hq _;simp only[jAn,decide_eq_true_eq,beq_iff_eq]at hq;have h2:k < 3:=h2;have:k=1∨k=2:=by omega
   rcases this with rfl | rfl
   .exact hq.1.2.2
   exact hq.2.2)
  | (
   rename_i hq _;simp only[jAn,decide_eq_true_eq,beq_iff_eq]at hq;have h2:k < 4:=h2;have:k=1∨k=2∨k=3:=by omega
   rcases this with rfl | rfl | rfl
   .exact hq.1.1.2.2
   .exact hq.1.2.2
   exact hq.2.2)
theorem jHb{s:Str}{i j:Nat}{c d:UInt8}(h:s[i]? =some c)(hc:128<=c.toNat)(h1:i<=j)(h2:j < i+jXa s i)(hj:s[j]? =some d):128<=d.toNat:=by
 by_cases e:j=i
 .subst e;rw[h]at hj;cases hj;exact hc
 have hjl:=z6a hj;have e2:s[j]=d:=by rw[jAe hjl]at hj;exact Option.some.inj hj
 have:=vxb (strB s) i (j - i) (by omega) (by unfold jXa at h2;omega);rw[show i+(j - i)=j by omega,jFb s j hjl,e2]at this;omega
theorem toU8_nat(c:UInt8):toU8 (c.toNat:Int)=c:=by
 unfold toU8;have:=c.toNat_lt;rw[show ((c.toNat:Int) % 256).toNat=c.toNat by omega];simp
theorem J0a{t:Str}(h:JXa t=true){c:UInt8}(hc:c∈t):c.toNat < 128:=by
 unfold JXa at h;rw[jAp]at h;simpa using h c hc
theorem ybb{r:Int}(h:128<=r):∃m x,1<=m/\m<=3/\(jza r).length=m+1/\(jza r)[m]? =some x/\128<=x.toNat:=by
 unfold jza;simp only[Utf8.encode];have hc:128<=(if Utf8.valid r=true then r.toNat else Utf8.runeError):=by
  split
  .omega
  decide
 generalize (if Utf8.valid r=true then r.toNat else Utf8.runeError)=c at hc;have hb:∀n:Nat,128<=(UInt8.ofNat (128+n % 64)).toNat:=by
  intro n;rw[jCm];have:(128+n % 64) % 2 ^ 8=128+n % 64:=Nat.mod_eq_of_lt (by omega);rw[this];omega
 rw[if_neg (by omega)];split
 .exact ⟨1,_,by omega,by omega,rfl,rfl,hb c⟩
 split
 .exact ⟨2,_,by omega,by omega,rfl,rfl,hb c⟩
 exact ⟨3,_,by omega,by omega,rfl,rfl,hb c⟩
theorem Jra{t:Str}(h:∀c∈t,c.toNat < 128){x:UInt8}(hx:128<=x.toNat):Lib.indexByte t x= -1:=by
 have hc:=Lib.contains_iff_indexByte t x;have hn:t.contains x=false:=by
  rw[Bool.eq_false_iff];intro hm;have:=h x (by simpa using hm);omega
 rw[hn]at hc;have hge:=Lib.indexByte_ge t x;have:=of_decide_eq_false hc.symm;omega
theorem YFa(t:Str)(c:UInt8)(hc:c.toNat < 128):z2a t (c.toNat:Int)=some (Lib.indexByte t c):=by
 unfold z2a;have h1:decide ((0:Int)<=(c.toNat:Int))=true:=by simp
 have h2:decide ((c.toNat:Int) < 128)=true:=by simp;omega
 rw[h1,h2];simp only[cond_true,jAc,toU8_nat];rfl
theorem Jsa(t:Str)(r:Int)(hr:128<=r)(ht:∀c∈t,c.toNat < 128)(hl:t.length<=4294967281):z2a t r=some (-1):=by
 unfold z2a;have h1:decide ((0:Int)<=r)=true:=by simp;omega
 have h2:decide (r < 128)=false:=by simp;omega
 rw[h1,h2];simp only[cond_true,cond_false,jAc];cases hq:r==65533 with
 | true=>
  simp only[cond_true];obtain ⟨o,ho,rfl⟩:=Vpa (body:=qea t) (fun i=>i<=t.length) (fun i=>t.length - i) (fun _ o=>o=.inl ()) (fun i hi=>by
   unfold qea;by_cases hlt:i < t.length
   .right;have hg:t[i]? =some t[i]:=jAe hlt;have hc:=ht t[i] (jDi hlt);obtain ⟨e1,e2⟩:=JZa hg hc;rw[e1,e2,decide_eq_true hlt];have hne:((t[i].toNat:Int)==65533)=false:=by rw[beq_eq_false_iff_ne];omega
    rw[hne];exact ⟨i+1,rfl,by omega,by omega,fun _ h=>h⟩
   left;rw[decide_eq_false hlt];exact ⟨.inl (),rfl,rfl⟩) 0 (jBi _)
  rw[ho];rfl
 | false=>
  simp only[cond_false];have hv:∃b,kia r=some b:=by
   unfold kia;cases decide (0<=r) <;> cases decide (r < 55296) <;> cases decide (57343 < r) <;> cases decide (r<=1114111) <;> exact ⟨_,rfl⟩
  obtain ⟨b,hb⟩:=hv;rw[hb];simp only[jAc];cases b with
  | false=>rfl
  | true=>
   simp only[jBo,cond_false];obtain ⟨m,x,hm1,hm3,hlen,hx,hx128⟩:=ybb hr;have hst:w64 (((jza r).length:Int) - 1)=(m:Int):=by rw[hlen,vna (by omega) (by omega)];omega
   rw[hst];have hbody:∃o,qga t r (m:Int)=some (.out o)/\(o=.inl ()∨o=.inr (-1)):=by
    unfold qga;by_cases hlt:m < t.length
    .have hd:decide ((m:Int) < (t.length:Int))=true:=by simp;omega
     have hc:=ht t[m] (jDi hlt);rw[hd,hst,JVa hlt,kla hx];have hne:((t[m].toNat:Int) !=(x.toNat:Int))=true:=by simp;omega
     simp only[cond_true,jAc,hne];rw[show (m:Int)+1=((m+1:Nat):Int) by omega,kUb _ (by omega),QAa (by omega)];simp only[jAc];have hib:zwa (t.drop (m+1)) x=some (-1):=by
      show some (Lib.indexByte (t.drop (m+1)) x)=_;rw[Jra (fun c hc=>ht c (List.mem_of_mem_drop hc)) hx128]
     rw[hib];exact ⟨.inr (-1),rfl,.inr rfl⟩
    have hd:decide ((m:Int) < (t.length:Int))=false:=by simp;omega
    rw[hd];exact ⟨.inl (),rfl,.inl rfl⟩
   obtain ⟨o,ho,ho2⟩:=hbody;rw[zXa ho];rcases ho2 with rfl | rfl <;> rfl
theorem kXb(s t:Str)(h8:s.length<=8)(h2:2<=t.length)(hl:t.length < 4294967281)(ht:JXa t=true):vca s t=some (Lib.indexAny s t):=by
 have htc:∀c∈t,c.toNat < 128:=fun c hc=>J0a ht hc
 unfold vca;have e1:(t==([]:Str))=false:=by rw[beq_eq_false_iff_ne];rintro rfl;simp at h2
 have e2:((t.length:Int)==1)=false:=by rw[beq_eq_false_iff_ne];omega
 have e3:zAa (s.length:Int)=some false:=by unfold zAa;simp;omega
 rw[e1,e2,e3];simp only[cond_false,jAc];obtain ⟨o,ho,ho2⟩:=Vpa (body:=qha s t) (fun i=>Lib.NoAny s t i) (fun i=>s.length - i) (fun _ o=>Sum.elim (fun _=>some (-1)) (fun b=>some b) o=some (Lib.indexAny s t)) (fun i hi=>by
  unfold qha;by_cases hlt:i < s.length
  .have hg:s[i]? =some s[i]:=jAe hlt;rw[decide_eq_true hlt];simp only[cond_true];by_cases hc:s[i].toNat < 128
   .obtain ⟨q1,q2⟩:=JZa hg hc;rw[q1,q2,YFa t _ hc];simp only[jAc];have hcon:=Lib.contains_iff_indexByte t s[i];rw[<-hcon];cases hin:t.contains s[i] with
    | true=>
     left;exact ⟨.inr (i:Int),rfl,by rw[Lib.indexAny_hit hi hg hin];rfl⟩
    | false=>
     right;exact ⟨i+1,rfl,hi.succ hg hin,by omega,fun _ h=>h⟩
   have hc:128<=s[i].toNat:=by omega
   obtain ⟨q1,q2,q3⟩:=jGb hg hc;rw[Jsa t _ q1 htc (by omega)];right;refine ⟨i+jXa s i,rfl,fun j b hj hb=>?_,by omega,fun _ h=>h⟩;by_cases hji:j < i
   .exact hi j b hji hb
   have:=jHb hg hc (by omega) hj hb;rw[Bool.eq_false_iff];intro hm;have:=htc b (by simpa using hm);omega
  left;rw[decide_eq_false hlt];refine ⟨.inl (),rfl,?_⟩;have hn:Lib.NoAny s t s.length:=fun j b hj hb=>hi j b (by omega) hb
  rw[Lib.indexAny_none hn];rfl) 0 (Lib.NoAny.zero s t)
 rw[ho];exact ho2
theorem kYb(t:Str):∀s:Str,decide (0<=Lib.indexAny s t)=s.any fun c=>t.contains c:=by
 intro s;induction s with
 | nil=>rfl
 | cons c s ih=>
  have hge:=Lib.indexAny_ge t s;rw[List.any_cons,<-ih,Lib.indexAny];cases t.contains c with
  | true=>simp
  | false=>
   simp only[jAs,if_false,Bool.false_or];by_cases h:Lib.indexAny s t= -1
   .simp[h]
   have:(Lib.indexAny s t== -1)=false:=by simpa using h
   rw[this];simp only[jAs,if_false];rw[jBg];simp;omega
theorem Z5a(s t:Str)(hs:s.length<=1048576)(h2:2<=t.length)(hl:t.length<=1048576)(ht:JXa t=true):zZa s t=some (s.any fun c=>t.contains c):=by
 unfold zZa kVa;rw[if_pos ⟨by omega,by omega,h2,ht⟩];simp only[jAc,kYb]
def zHa(c:UInt8):Bool:=c==32 || c==9
theorem yya(c:UInt8):qTa c=some (zHa c):=by
 unfold qTa zHa;rw[jda c 32 (by decide),jda c 9 (by decide)];cases c==32 <;> rfl
theorem jFa(c:UInt8):qAa c=some (zHa c):=by
 unfold qAa zHa;rw[jda c 32 (by decide),jda c 9 (by decide)];cases c==32 <;> rfl
def fnC(c:UInt8):Bool:=decide (33<=c) && decide (c<=126) && c !=58
def fnP(s:Str):Bool:=s !=([]:Str) && decide (s.length<=60) && s.all fnC
theorem dec60(s:Str):decide ((s.length:Int)<=60)=decide (s.length<=60):=by generalize s.length=n;rw[jBg];simp;omega
theorem kZb(s:Str)(hs:s.length<=1048576):Koa s=some (fnP s):=by
 have hloop:iter (wOa s) 0=some ((kua (fun _ c=>if !fnC c then some () else none) 0 s).elim (.inl ()) .inr):=by
  refine qna s _ (Sum.inl ()) Sum.inr ?_ ?_
  .unfold wOa;rw[kBa];rfl
  intro i c hc;have hi:=z6a hc;unfold wOa;rw[qVa hc,kla hc];simp only[cond_true,jAc,u8_ne c 58 (by decide),wfb 33 c (by decide),wgb 126 c (by decide),sc i (by omega)];unfold fnC;cases decide ((33:UInt8)<=c) <;> cases decide (c<=126) <;> cases c !=58 <;> rfl
 unfold Koa fnP;rw[hloop];simp only[jAc,Jqa,Vqa,jEb,dec60];cases s !=([]:Str) <;> cases decide (s.length<=60) <;> cases s.all fnC <;> rfl
def endC(c:UInt8):Bool:=c==13 || c==10 || c==0
theorem k0b(s:Str)(hs:s.length<=1048576):Kpa s=some (s.any endC):=by
 unfold Kpa;rw[Z5a s _ hs (by decide) (by decide) (by decide)];simp only[jAc,Option.some.injEq]
 congr 1
 funext c;rw[jBg];simp[endC,or_assoc]
def jIb(s:Str):Bool:=match s.head?,s.getLast? with | some a,some b=>zHa a || zHa b | _,_=>false
def valP(s:Str):Bool:= !(s.any endC) && !(jIb s)
theorem whb(s:Str)(h:s≠ [])(hs:s.length<=1048576):∃a b,idx s 0=some a/\idx s (w64 ((s.length:Int) - 1))=some b/\s.head? =some a/\s.getLast? =some b:=by
 have hpos:=jCr.2 h;obtain ⟨a,r,rfl⟩:=List.exists_cons_of_ne_nil h;have e:w64 (((a::r).length:Int) - 1)=((r.length:Nat):Int):=by
  have hl:(a::r).length=r.length+1:=rfl;rw[vna (by omega) (by omega)];omega
 refine ⟨a,(a::r).getLast h,rfl,?_,rfl,List.getLast?_eq_some_getLast h⟩;rw[e,jDa,List.getLast_eq_getElem h,jAe (by simp)]
 congr 2
theorem zVb(s:Str)(hs:s.length<=1048576):j3a s=some (valP s):=by
 unfold j3a valP;rw[k0b s hs];simp only[jAc];by_cases hn:s=[]
 .subst hn;rfl
 obtain ⟨a,b,h1,h2,h3,h4⟩:=whb s hn hs;have e:(s==([]:Str))=false:=by simpa using hn
 unfold jIb;rw[h1,h2,h3,h4,e];simp only[jAc,jFa,cond_false];cases s.any endC <;> cases zHa a <;> cases zHa b <;> rfl
def br(t:Str)(f i:Nat):Bool:=decide (1<=i) && decide (f<=i) && (match t[i]?,t[i - 1]? with | some a,some b=>zHa a && !zHa b | _,_=>false)
def V4a(t:Str)(f:Nat):Nat->Nat
 | 0=>0
 | i+1=>if br t f (i+1) then i+1 else V4a t f i
def zWb(t:Str)(f:Nat):Nat->Nat->Nat
 | 0,_=>0
 | n+1,i=>if br t f i then i else zWb t f n (i+1)
def cutP(t:Str)(f:Nat):Nat:=if V4a t f 78=0 then zWb t f (t.length - 79) 79 else V4a t f 78
def vyb(t:Str)(f c:Nat):Prop:=(c=0/\∀j,br t f j=false)∨(br t f c=true/\((c<=78/\∀j,c < j->j<=78->br t f j=false)∨(78 < c/\∀j,j < c->br t f j=false)))
theorem jJb(t:Str)(f:Nat):br t f 0=false:=rfl
theorem vzb{t:Str}{f i:Nat}(h:br t f i=true):i < t.length/\1<=i/\f<=i:=by
 unfold br at h;simp only[jAn,decide_eq_true_eq]at h;obtain ⟨⟨h1,h2⟩,h3⟩:=h;refine ⟨?_,h1,h2⟩;cases hi:t[i]? with
 | none=>rw[hi]at h3;simp at h3
 | some a=>exact z6a hi
theorem k1b{t:Str}{f c d:Nat}(h:vyb t f c)(k:vyb t f d):c=d:=by
 rcases h with ⟨rfl,h⟩ | ⟨hc,h⟩ <;> rcases k with ⟨rfl,k⟩ | ⟨hd,k⟩
 .rfl
 .rw[h]at hd;cases hd
 .rw[k]at hc;cases hc
 rcases Nat.lt_trichotomy c d with hlt | heq | hgt
 .exfalso;rcases h with ⟨h1,h2⟩ | ⟨h1,h2⟩ <;> rcases k with ⟨k1,k2⟩ | ⟨k1,k2⟩
  .rw[h2 d hlt k1]at hd;cases hd
  .rw[k2 c hlt]at hc;cases hc
  .omega
  rw[k2 c hlt]at hc;cases hc
 .exact heq
 exfalso;rcases h with ⟨h1,h2⟩ | ⟨h1,h2⟩ <;> rcases k with ⟨k1,k2⟩ | ⟨k1,k2⟩
 .rw[k2 c hgt h1]at hc;cases hc
 .omega
 .rw[h2 d hgt]at hd;cases hd
 rw[h2 d hgt]at hd;cases hd
theorem ycb(t:Str)(f:Nat):∀n,(V4a t f n=0/\∀j,j<=n->br t f j=false)∨(br t f (V4a t f n)=true/\V4a t f n<=n/\∀j,V4a t f n < j->j<=n->br t f j=false):=by
 intro n;induction n with
 | zero=>left;exact ⟨rfl,fun j hj=>by
  obtain rfl:j=0:=by omega
  exact jJb t f⟩
 | succ n ih=>
  unfold V4a;by_cases h:br t f (n+1)=true
  .rw[if_pos h];right;exact ⟨h,jAm _,fun j h1 h2=>by omega⟩
  rw[if_neg h];rcases ih with ⟨h1,h2⟩ | ⟨h1,h2,h3⟩
  .left;refine ⟨h1,fun j hj=>?_⟩;by_cases e:j=n+1
   .subst e;simpa using h
   exact h2 j (by omega)
  right;refine ⟨h1,by omega,fun j hj hjn=>?_⟩;by_cases e:j=n+1
  .subst e;simpa using h
  exact h3 j hj (by omega)
theorem ydb(t:Str)(f:Nat):∀n i,(zWb t f n i=0/\∀j,i<=j->j < i+n->br t f j=false)∨(br t f (zWb t f n i)=true/\i<=zWb t f n i/\∀j,i<=j->j < zWb t f n i->br t f j=false):=by
 intro n;induction n with
 | zero=>intro i;left;exact ⟨rfl,fun j h1 h2=>by omega⟩
 | succ n ih=>
  intro i;unfold zWb;by_cases h:br t f i=true
  .rw[if_pos h];right;exact ⟨h,jAm _,fun j h1 h2=>by omega⟩
  rw[if_neg h];have hb:br t f i=false:=by simpa using h
  rcases ih (i+1) with ⟨h1,h2⟩ | ⟨h1,h2,h3⟩
  .left;refine ⟨h1,fun j hj hjn=>?_⟩;by_cases e:j=i
   .subst e;exact hb
   exact h2 j (by omega) (by omega)
  right;refine ⟨h1,by omega,fun j hj hjn=>?_⟩;by_cases e:j=i
  .subst e;exact hb
  exact h3 j (by omega) hjn
theorem jKb(t:Str)(f:Nat):vyb t f (cutP t f):=by
 unfold cutP;rcases ycb t f 78 with ⟨h1,h2⟩ | ⟨h1,h2,h3⟩
 .rw[if_pos h1];rcases ydb t f (t.length - 79) 79 with ⟨k1,k2⟩ | ⟨k1,k2,k3⟩
  .left;refine ⟨k1,fun j=>?_⟩;by_cases hj:j<=78
   .exact h2 j hj
   cases hb:br t f j with
   | false=>rfl
   | true=>have:=(vzb hb).1;rw[k2 j (by omega) (by omega)]at hb;cases hb
  right;refine ⟨k1,.inr ⟨by omega,fun j hj=>?_⟩⟩;by_cases hj2:j<=78
  .exact h2 j hj2
  exact k3 j (by omega) hj
 have hne:V4a t f 78≠0:=by intro h;rw[h,jJb]at h1;cases h1
 rw[if_neg hne];exact .inr ⟨h1,.inl ⟨h2,h3⟩⟩
theorem Qda{t:Str}{f:Nat}(h:cutP t f≠0):1<=cutP t f/\cutP t f < t.length:=by
 rcases jKb t f with ⟨h1,_⟩ | ⟨h1,_⟩
 .exact absurd h1 h
 exact ⟨(vzb h1).2.1,(vzb h1).1⟩
theorem br_at{t:Str}{f i:Nat}(h1:1<=i)(hi:i < t.length):br t f i=(decide (f<=i) && (zHa t[i] && !zHa (t[i - 1]'(by omega)))):=by
 unfold br;rw[jAe hi,jAe (show i - 1 < t.length by omega)];simp[h1]
def PInv(t:Str)(f b i:Nat):Prop:=f<=i/\1<=i/\((b=0/\∀j,j < i->br t f j=false)∨(br t f b=true/\b < i/\((b<=78/\∀j,b < j->j < i->br t f j=false)∨(78 < b/\∀j,j < b->br t f j=false))))
theorem PInv.done{t:Str}{f b i:Nat}(h:PInv t f b i)(hi:0 < b/\78 < i∨t.length<=i):vyb t f b:=by
 obtain ⟨hf,h1,h2⟩:=h;rcases h2 with ⟨rfl,h3⟩ | ⟨h3,h4,h5⟩
 .left;refine ⟨rfl,fun j=>?_⟩;cases hb:br t f j with
  | false=>rfl
  | true=>
   have:=(vzb hb).1;rw[h3 j (by omega)]at hb;cases hb
 right;refine ⟨h3,?_⟩;rcases h5 with ⟨h6,h7⟩ | h6
 .left;refine ⟨h6,fun j hj hj2=>?_⟩;cases hb:br t f j with
  | false=>rfl
  | true=>
   have:=(vzb hb).1;rw[h7 j hj (by omega)]at hb;cases hb
 exact .inr h6
theorem zXb(t:Str)(f:Nat)(ht:t.length<=4194304)(hf:f<=4194304):j4a t (f:Int)=some ((cutP t (max f 1):Nat):Int):=by
 unfold j4a;have hstart:max (f:Int) 1=((max f 1:Nat):Int):=by omega
 rw[hstart];obtain ⟨r,h1,b,rfl,h2⟩:=Vpa (body:=yna t) (fun s=>∃b i:Nat,s=((b:Int),(i:Int))/\PInv t (max f 1) b i/\i<=4194305) (fun s=>(4194306 - s.2).toNat) (fun _ r=>∃c:Nat,r=(c:Int)/\vyb t (max f 1) c) (by
  rintro _ ⟨b,i,rfl,hI,hil⟩;have hi1:=hI.2.1;unfold yna;dsimp only;by_cases hlt:i < t.length
  .have hd:decide ((i:Int) < (t.length:Int))=true:=by simp;omega
   have hpre:w64 ((i:Int) - 1)=((i - 1:Nat):Int):=by rw[vna (by omega) (by omega)];omega
   rw[hd,JVa hlt,hpre,JVa (show i - 1 < t.length by omega)];have hb:=br_at (f:=max f 1) hi1 hlt;have hfi:decide (max f 1<=i)=true:=by simp only[decide_eq_true_eq];exact hI.1
   rw[hfi,jDn]at hb;simp only[cond_true,jAc,jFa];have next:∀b' :Nat,PInv t (max f 1) b' (i+1)->qBa ((b:Int),(i:Int)) (b' :Int)=some (.cont ((b' :Int),((i+1:Nat):Int))):=by
    intro b' _;unfold qBa;dsimp only;rw[sc i (by omega)]
   have hno:br t (max f 1) i=false->PInv t (max f 1) b (i+1):=by
    intro hnb;refine ⟨by have:=hI.1;omega,by omega,?_⟩;rcases hI.2.2 with ⟨q1,q2⟩ | ⟨q1,q2,q3⟩
    .left;refine ⟨q1,fun j hj=>?_⟩;by_cases e:j=i
     .subst e;exact hnb
     exact q2 j (by omega)
    right;refine ⟨q1,by omega,?_⟩;rcases q3 with ⟨q4,q5⟩ | q4
    .left;refine ⟨q4,fun j hj hj2=>?_⟩;by_cases e:j=i
     .subst e;exact hnb
     exact q5 j hj (by omega)
    exact .inr q4
   have goNo:br t (max f 1) i=false->(∃s',qBa ((b:Int),(i:Int)) (b:Int)=some (.cont s')/\(∃b i:Nat,s' =((b:Int),(i:Int))/\PInv t (max f 1) b i/\i<=4194305)/\(4194306 - s'.2).toNat < (4194306 - ((i:Int))).toNat/\∀r:Int,(∃c:Nat,r=(c:Int)/\vyb t (max f 1) c)->∃c:Nat,r=(c:Int)/\vyb t (max f 1) c):=by
    intro hnb;exact ⟨_,next b (hno hnb),⟨b,i+1,rfl,hno hnb,by omega⟩,by dsimp only;omega,fun _ h=>h⟩
   cases ha:zHa t[i] with
   | false=>
    rw[ha]at hb;simp only[jDo,cond_true,jAc];exact .inr (goNo hb)
   | true=>
    rw[ha]at hb;simp only[jBo,cond_false,jAc];cases hp:zHa t[i - 1] with
    | true=>
     rw[hp]at hb;simp only[cond_true];exact .inr (goNo hb)
    | false=>
     rw[hp]at hb;have hb:br t (max f 1) i=true:=hb;simp only[cond_false];by_cases hb0:0 < b/\78 < i
     .left;have e1:decide ((0:Int) < (b:Int))=true:=by simp;omega
      have e2:decide ((78:Int) < (i:Int))=true:=by simp;omega
      rw[e1,e2];exact ⟨(b:Int),rfl,b,rfl,hI.done (.inl hb0)⟩
     right;have e:(bif decide ((0:Int) < (b:Int)) then some (decide ((78:Int) < (i:Int))) else some false)=some false:=by
      by_cases h0:0 < b
      .have e1:decide ((0:Int) < (b:Int))=true:=by simp;omega
       have e2:decide ((78:Int) < (i:Int))=false:=by simp;omega
       rw[e1,e2];rfl
      have e1:decide ((0:Int) < (b:Int))=false:=by simp;omega
      rw[e1];rfl
     rw[e];simp only[jAc,cond_false];have hnew:PInv t (max f 1) i (i+1):=by
      refine ⟨by have:=hI.1;omega,by omega,.inr ⟨hb,by omega,?_⟩⟩;by_cases h78:i<=78
      .exact .inl ⟨h78,fun j h1 h2=>by omega⟩
      right;refine ⟨by omega,?_⟩;rcases hI.2.2 with ⟨q1,q2⟩ | ⟨q1,q2,q3⟩
      .exact q2
      exfalso;have:=(vzb q1).2.1;omega
     exact ⟨_,next i hnew,⟨i,i+1,rfl,hnew,by omega⟩,by dsimp only;omega,fun _ h=>h⟩
  left;have hd:decide ((i:Int) < (t.length:Int))=false:=by simp;omega
  rw[hd];exact ⟨(b:Int),rfl,b,rfl,hI.done (.inr (by omega))⟩) ((0:Int),((max f 1:Nat):Int)) ⟨0,max f 1,rfl,⟨jAm _,by omega,.inl ⟨rfl,fun j hj=>by
  cases hb:br t (max f 1) j with
  | false=>rfl
  | true=>have:=(vzb hb).2.2;omega⟩⟩,by omega⟩
 rw[h1];simp only[jAc];rw[k1b h2 (jKb t (max f 1))]
theorem R_cut_eq(t:Str)(f:Nat)(out:List Str)(ht:t.length<=4194304)(h78:78 < t.length)(hf:f<=4194304)(h1f:1<=f):((iter (kra (t,(f:Int),out)) (0,78)).bind fun b10=>iter (z7a (t,(f:Int),out)) (b10,79))=some ((cutP t f:Nat):Int):=by
 have test:∀i:Nat,1<=i->i < t.length->((bif decide ((f:Int)<=(i:Int)) then (idx t (i:Int)).bind fun v18=>(qTa v18).bind fun v20=>(bif v20 then (idx t ((w64 ((i:Int) - 1)))).bind fun v23=>(qTa v23).bind fun v25=>some ((!v25)) else some false) else some false):Option Bool)=some (br t f i):=by
  intro i h1 h2;have hpre:w64 ((i:Int) - 1)=((i - 1:Nat):Int):=by rw[vna (by omega) (by omega)];omega
  rw[br_at h1 h2,JVa h2,hpre,JVa (show i - 1 < t.length by omega)];have e:decide ((f:Int)<=(i:Int))=decide (f<=i):=by rw[jBg];simp
  rw[e];simp only[jAc,yya];cases decide (f<=i) <;> cases zHa t[i] <;> rfl
 have hdn:∀i:Nat,i<=78->iter (kra (t,(f:Int),out)) (0,(i:Int))=some ((V4a t f i:Nat):Int):=by
  intro i;induction i with
  | zero=>intro _;exact zXa (by unfold kra;rfl)
  | succ i ih=>
   intro hi;have hb:kra (t,(f:Int),out) (0,((i+1:Nat):Int))=some (.cont ((bif br t f (i+1) then ((i+1:Nat):Int) else 0),(i:Int))):=by
    unfold kra;dsimp only;have e1:decide ((0:Int) < ((i+1:Nat):Int))=true:=by rw[decide_eq_true_eq];omega
    have e2:w64 (((i+1:Nat):Int) - 1)=(i:Int):=by rw[vna (by omega) (by omega)];omega
    rw[test (i+1) (by omega) (by omega),e1,e2];simp only[beq_self_eq_true,cond_true,jAc];cases br t f (i+1) <;> rfl
   rw[kYa hb];unfold V4a;cases hq:br t f (i+1) with
   | false=>simpa using ih (by omega)
   | true=>
    simp only[cond_true,if_true];refine zXa ?_;unfold kra;dsimp only;have e3:((((i+1:Nat):Int))==0)=false:=by rw[beq_eq_false_iff_ne];omega
    rw[e3];cases decide ((0:Int) < (i:Int)) <;> rfl
 have h1:=hdn 78 (by omega);have e78:((78:Nat):Int)=78:=rfl;rw[e78]at h1;rw[h1];simp only[jAc];have hout:∀(c i:Nat),c≠0->iter (z7a (t,(f:Int),out)) ((c:Int),(i:Int))=some ((c:Nat):Int):=by
  intro c i hc;refine zXa ?_;unfold z7a;dsimp only;have e3:((c:Int)==0)=false:=by rw[beq_eq_false_iff_ne];omega
  rw[e3];cases decide ((i:Int) < (t.length:Int)) <;> rfl
 have hup:∀n i:Nat,i+n=t.length->1<=i->iter (z7a (t,(f:Int),out)) (0,(i:Int))=some ((zWb t f n i:Nat):Int):=by
  intro n;induction n with
  | zero=>
   intro i hi _;refine zXa ?_;unfold z7a;dsimp only;have:decide ((i:Int) < (t.length:Int))=false:=by rw[decide_eq_false_iff_not];omega
   rw[this];rfl
  | succ n ih=>
   intro i hi h1i;have hb:z7a (t,(f:Int),out) (0,(i:Int))=some (.cont ((bif br t f i then (i:Int) else 0),((i+1:Nat):Int))):=by
    unfold z7a;dsimp only;have e1:decide ((i:Int) < (t.length:Int))=true:=by simp;omega
    rw[test i h1i (by omega),e1,sc i (by omega)];simp only[beq_self_eq_true,cond_true,jAc];cases br t f i <;> rfl
   rw[kYa hb];unfold zWb;cases hq:br t f i with
   | false=>simpa using ih (i+1) (by omega) (by omega)
   | true=>
    simp only[cond_true,if_true];exact hout i (i+1) (by omega)
 unfold cutP;have e79:((79:Nat):Int)=79:=rfl;by_cases h0:V4a t f 78=0
 .rw[if_pos h0,h0];have:=hup (t.length - 79) 79 (by omega) (by omega);rw[e79]at this;exact this
 rw[if_neg h0];have:=hout (V4a t f 78) 79 h0;rw[e79]at this;exact this
def Vra:Nat->Str->Nat->List Str
 | 0,t,_=>[t]
 | n+1,t,f=>if 78 < t.length then (if cutP t f=0 then [t] else t.take (cutP t f)::Vra n (t.drop (cutP t f)) 1) else [t]
theorem zYb:∀(n m:Nat) (t:Str) (f:Nat),t.length<=n->t.length<=m->Vra n t f=Vra m t f:=by
 intro n;induction n with
 | zero=>
  intro m t f h1 h2;cases m with
  | zero=>rfl
  | succ m=>unfold Vra;rw[if_neg (by omega)]
 | succ n ih=>
  intro m t f h1 h2;cases m with
  | zero=>unfold Vra;rw[if_neg (by omega)]
  | succ m=>
   unfold Vra;split
   .split
    .rfl
    rename_i hc;have:=Qda hc;rw[ih m _ 1 (by simp;omega) (by simp;omega)]
   rfl
def yMa(t:Str)(f:Nat):List Str:=Vra t.length t f
theorem Wwa{t:Str}{f:Nat}(h:78 < t.length)(hc:cutP t f≠0):yMa t f=t.take (cutP t f)::yMa (t.drop (cutP t f)) 1:=by
 unfold yMa;obtain ⟨n,hn⟩:∃n,t.length=n+1:=⟨t.length - 1,by omega⟩;have hp:=Qda hc;rw[hn,Vra,if_pos h,if_neg hc];rw[zYb n (t.drop (cutP t f)).length _ 1 (by simp;omega) (jAm _)]
theorem vHa{t:Str}{f:Nat}(h:¬78 < t.length∨cutP t f=0):yMa t f=[t]:=by
 unfold yMa;cases hn:t.length with
 | zero=>rfl
 | succ n=>
  rw[Vra];rcases h with h | h
  .rw[if_neg h]
  split
  .rfl
  rfl
theorem Wxa:∀(n:Nat) (t:Str) (f:Nat),t.length<=n->(yMa t f).flatten=t/\(yMa t f).length<=t.length+1:=by
 intro n;induction n with
 | zero=>intro t f h;rw[vHa (.inl (by omega))];simp
 | succ n ih=>
  intro t f h;by_cases h78:78 < t.length
  .by_cases hc:cutP t f=0
   .rw[vHa (.inr hc)];simp
   have hp:=Qda hc;rw[Wwa h78 hc];obtain ⟨h1,h2⟩:=ih (t.drop (cutP t f)) 1 (by simp;omega);rw[List.flatten_cons,h1];refine ⟨by simp,?_⟩;simp only[jBj,jCu]at h2 ⊢;omega
  rw[vHa (.inl h78)];simp
theorem J1a{body:Str × Int × List Str->Option (Step (Str × Int × List Str) (Str × List Str))}(enc:Nat->Int)(g:Nat)
 (h:∀(t:Str) (f:Nat) (out:List Str),t.length<=4194304->out.length<=4194305->f<=4194304->body (t,enc f,out)=some (if 78 < t.length then (if cutP t (max f 1)=0 then .out (t,out) else .cont (t.drop (cutP t (max f 1)),enc g,out++ [t.take (cutP t (max f 1))])) else .out (t,out))) (h0:max g 1=1):
 ∀(n:Nat) (t:Str) (f:Nat) (out:List Str),t.length<=n->t.length<=4194304->out.length+t.length<=4194305->f<=4194304->∃last init,iter body (t,enc f,out)=some (last,init)/\init++ [last]=out++yMa t (max f 1):=by
 intro n;induction n with
 | zero=>
  intro t f out h1 h2 h3 h4;have hb:=h t f out h2 (by omega) h4;rw[if_neg (by omega)]at hb;exact ⟨t,out,zXa hb,by rw[vHa (.inl (by omega))]⟩
 | succ n ih=>
  intro t f out h1 h2 h3 h4;have hb:=h t f out h2 (by omega) h4;by_cases h78:78 < t.length
  .rw[if_pos h78]at hb;by_cases hc:cutP t (max f 1)=0
   .rw[if_pos hc]at hb;exact ⟨t,out,zXa hb,by rw[vHa (.inr hc)]⟩
   rw[if_neg hc]at hb;have hp:=Qda hc;obtain ⟨last,init,q1,q2⟩:=ih (t.drop (cutP t (max f 1))) g (out++ [t.take (cutP t (max f 1))]) (by simp;omega) (by simp;omega) (by simp;omega) (by omega);refine ⟨last,init,(kYa hb).trans q1,?_⟩;rw[q2,h0,Wwa h78 hc];simp
  rw[if_neg h78]at hb;exact ⟨t,out,zXa hb,by rw[vHa (.inl h78)]⟩
def txt(n v:Str):Str:=n++ [58,32]++v
def flP(n v:Str):List Str:=yMa (txt n v) (n.length+2)
theorem jLb(t:Str)(f:Nat)(ht:t.length<=4194304)(hf:f<=4194304):∃last init,iter wPa (t,(f:Int),([]:List Str))=some (last,init)/\init++ [last]=yMa t (max f 1):=by
 have:=J1a (body:=wPa) (fun n=>(n:Int)) 0 (fun t f out h1 h2 h3=>by
  unfold wPa;dsimp only;by_cases h78:78 < t.length
  .have hd:decide ((78:Int) < (t.length:Int))=true:=by rw[decide_eq_true_eq];omega
   rw[hd,if_pos h78,zXb t f h1 h3];simp only[cond_true,jAc];by_cases hc:cutP t (max f 1)=0
   .rw[if_pos hc,hc];rfl
   have hp:=Qda hc;have e:(((cutP t (max f 1):Nat):Int)==0)=false:=by rw[beq_eq_false_iff_ne];omega
   rw[if_neg hc,e,Wua (by omega),QAa (by omega)];simp only[cond_false,jAc];rw[qma (by simp;omega)];rfl
  have hd:decide ((78:Int) < (t.length:Int))=false:=by rw[decide_eq_false_iff_not];omega
  rw[hd,if_neg h78];rfl) (by decide) t.length t f [] (jAm _) ht (by simp;omega) hf
 simpa using this
theorem ref_loop(t:Str)(f:Nat)(ht:t.length<=4194304)(hf:f<=4194304)(h1f:1<=f):∃last init,iter q2a (t,(f:Int),([]:List Str))=some (last,init)/\init++ [last]=yMa t f:=by
 have:=J1a (body:=q2a) (fun n=>((max n 1:Nat):Int)) 1 (fun t f out h1 h2 h3=>by
  unfold q2a;dsimp only;by_cases h78:78 < t.length
  .have hd:decide ((78:Int) < (t.length:Int))=true:=by rw[decide_eq_true_eq];omega
   have hc0:=R_cut_eq t (max f 1) out h1 h78 (by omega) (by omega);obtain ⟨b10,hb10,hc1⟩:=jDk.1 hc0;rw[hd,if_pos h78,hb10];simp only[cond_true,jAc];rw[hc1];simp only[jAc];by_cases hc:cutP t (max f 1)=0
   .rw[if_pos hc,hc];rfl
   have hp:=Qda hc;have e:(((cutP t (max f 1):Nat):Int)==0)=false:=by rw[beq_eq_false_iff_ne];omega
   rw[if_neg hc,e,Wua (by omega),QAa (by omega)];simp only[cond_false,jAc];rw[qma (by simp;omega)];rfl
  have hd:decide ((78:Int) < (t.length:Int))=false:=by rw[decide_eq_false_iff_not];omega
  rw[hd,if_neg h78];rfl) (by decide) t.length t f [] (jAm _) ht (by simp;omega) hf
 have e:max f 1=f:=by omega
 rw[e]at this;simpa using this
theorem jMb(n v:Str)(hn:n.length<=1048576)(hv:v.length<=1048576):cat n [58,32]=some (n++ [58,32])/\cat (n++ [58,32]) v=some (txt n v)/\w64 ((n.length:Int)+2)=((n.length+2:Nat):Int):=by
 refine ⟨JWa (by simp;omega),JWa (by simp;omega),?_⟩;rw[vna (by omega) (by omega)];omega
theorem YGa(n v:Str):(txt n v).length=n.length+2+v.length:=by unfold txt;simp;omega
theorem Kqa(n v:Str)(hn:n.length<=1048576)(hv:v.length<=1048576):vOa n v=some (flP n v):=by
 obtain ⟨h1,h2,h3⟩:=jMb n v hn hv;have hl:=YGa n v;obtain ⟨last,init,q1,q2⟩:=ref_loop (txt n v) (n.length+2) (by omega) (by omega) (by omega);unfold vOa flP;rw[h1];simp only[jAc];rw[h2];simp only[jAc];rw[h3,q1];simp only[jAc];have hj:=(Wxa (txt n v).length (txt n v) (n.length+2) (jAm _)).2;rw[<-q2]at hj;simp at hj;rw[qma (by simp;omega),q2];rfl
def YHa(i:Nat)(l:Str):Option Int:=if 998 < l.length then some (i:Int) else none
def vAb(n v:Str):List Str × zja:=
 if !fnP n then ([],⟨10, -1⟩) else if 4000 < v.length then ([],⟨1, -1⟩) else if !valP v then ([],⟨11, -1⟩) else match kua YHa 0 (flP n v) with | some i=>([],⟨1,i⟩) | none=>(flP n v,⟨0,0⟩)
theorem wib(n v:Str):(flP n v).length<=n.length+v.length+3:=by
 have:=(Wxa (txt n v).length (txt n v) (n.length+2) (jAm _)).2;have hl:=YGa n v;unfold flP;omega
theorem dec998(l:Str):decide ((998:Int) < (l.length:Int))=decide (998 < l.length):=by generalize l.length=n;rw[jBg];simp;omega
theorem jpa(n v:Str)(hn:n.length<=1048576)(hv:v.length<=1048576):wQa n v=some (vAb n v):=by
 obtain ⟨h1,h2,h3⟩:=jMb n v hn hv;have hl:=YGa n v;obtain ⟨last,init,q1,q2⟩:=jLb (txt n v) (n.length+2) (by omega) (by omega);rw[show max (n.length+2) 1=n.length+2 by omega]at q2;unfold wQa vAb;rw[kZb n hn,zVb v hv];simp only[jAc,qQa,qCa];cases fnP n with
 | false=>rfl
 | true=>
  simp only[jBo,cond_false,jAs,if_false];by_cases h4:4000 < v.length
  .have hd:decide ((4000:Int) < (v.length:Int))=true:=by rw[decide_eq_true_eq];omega
   rw[hd,if_pos h4];rfl
  have hd:decide ((4000:Int) < (v.length:Int))=false:=by rw[decide_eq_false_iff_not];omega
  rw[hd,if_neg h4];simp only[cond_false];cases valP v with
  | false=>rfl
  | true=>
   simp only[jBo,cond_false,jAs,if_false];rw[h1];simp only[jAc];rw[h2];simp only[jAc];rw[h3,q1];simp only[jAc];have hj:=wib n v;have hfl:flP n v=init++ [last]:=q2.symm;have hj2:=hj;rw[hfl]at hj2;simp at hj2;rw[qma (by simp;omega),<-hfl];simp only[jAc];rw[qna (flP n v) (fun i l=>(YHa i l).map fun k=>(([]:List Str),(⟨1,k⟩:zja))) (.inl ()) .inr]
   .simp only[jAc];have hm:∀(l:List Str) (i:Nat),kua (fun i l=>(YHa i l).map fun k=>(([]:List Str),(⟨1,k⟩:zja))) i l=(kua YHa i l).map fun k=>(([]:List Str),(⟨1,k⟩:zja)):=by
     intro l;induction l with
     | nil=>intro i;rfl
     | cons x l ih=>intro i;unfold kua;rw[ih];cases YHa i x <;> rfl
    rw[hm];cases kua YHa 0 (flP n v) <;> rfl
   .unfold joa;rw[kBa];rfl
   intro i l hli;have hi:=z6a hli;unfold joa YHa;rw[qVa hli,kla hli];simp only[cond_true,jAc,dec998,qQa,sc i (by omega)];by_cases h9:998 < l.length
   .simp[h9]
   simp[h9]
def ZCa(f:zba):Int:=(vAb f.Name f.Value).2.Code
def zZb(l:List Str):Bool:=l.any fun s=>decide (998 < s.length)
theorem J2a(l:List Str):∀n,(kua YHa n l).isSome=zZb l:=by
 induction l with
 | nil=>intro n;rfl
 | cons x l ih=>
  intro n;unfold kua zZb YHa;by_cases h:998 < x.length
  .simp[h]
  simp only[h,if_false,List.any_cons,decide_false,Bool.false_or];exact ih (n+1)
def jNb(n v:Str):Int:=if !fnP n then 10 else if 4000 < v.length then 1 else if !valP v then 11 else if zZb (flP n v) then 1 else 0
theorem z0b(f:zba):ZCa f=jNb f.Name f.Value:=by
 unfold ZCa vAb jNb;rw[<-J2a (flP f.Name f.Value) 0];split
 .rfl
 split
 .rfl
 split
 .rfl
 cases kua YHa 0 (flP f.Name f.Value) <;> rfl
theorem R_In_60(s:Str):R_In (s.length:Int) 1 60=some (s !=([]:Str) && decide (s.length<=60)):=by
 rw[zSb];cases s with
 | nil=>rfl
 | cons c s=>
  have h:decide ((1:Int)<=((c::s).length:Int))=true:=by rw[decide_eq_true_eq];simp;omega
  rw[h,dec60];rfl
theorem elim_int(c:Int)(o:Option Unit)(f:Unit->Option Int):Sum.elim f (fun b=>some b) (o.elim (Sum.inl ()) (fun _=>Sum.inr c):Unit ⊕ Int)=bif o.isSome then some c else f ():=by cases o <;> rfl
theorem QBa(f:zba)(hn:f.Name.length<=1048576)(hv:f.Value.length<=1048576):wqa f=some (ZCa f):=by
 rw[z0b];unfold wqa;have hl1:iter (vpa f) 0=some ((kua (fun _ c=>if !fnC c then some () else none) 0 f.Name).elim (.inl ()) fun _=>.inr 10):=by
  refine qna f.Name _ (Sum.inl ()) (fun _=>Sum.inr 10) ?_ ?_
  .unfold vpa;rw[kBa];rfl
  intro i c hc;have hi:=z6a hc;unfold vpa;rw[qVa hc,kla hc];simp only[cond_true,jAc,zSb,jda c 58 (by decide),wfb 33 c (by decide),wgb 126 c (by decide),sc i (by omega)];unfold fnC bne;cases decide ((33:UInt8)<=c) <;> cases decide (c<=126) <;> cases c==58 <;> rfl
 have hl2:iter (vqa f) 0=some ((kua (fun _ c=>if endC c then some () else none) 0 f.Value).elim (.inl ()) fun _=>.inr 11):=by
  refine qna f.Value _ (Sum.inl ()) (fun _=>Sum.inr 11) ?_ ?_
  .unfold vqa;rw[kBa];rfl
  intro i c hc;have hi:=z6a hc;unfold vqa;rw[qVa hc,kla hc];simp only[cond_true,jAc,jda c 0 (by decide),jda c 10 (by decide),jda c 13 (by decide),sc i (by omega)];unfold endC;cases c==0 <;> cases c==10 <;> cases c==13 <;> rfl
 have hl3:∀l:List Str,l.length<=4194304->iter (vra l) 0=some ((kua (fun _ c=>if decide (998 < c.length) then some () else none) 0 l).elim (.inl ()) fun _=>.inr 1):=by
  intro l hl;refine qna l _ (Sum.inl ()) (fun _=>Sum.inr 1) ?_ ?_
  .unfold vra;rw[kBa];rfl
  intro i c hc;have hi:=z6a hc;unfold vra;rw[qVa hc,kla hc];simp only[cond_true,jAc,dec998,sc i (by omega)];cases decide (998 < c.length) <;> rfl
 have hfl:=wib f.Name f.Value;rw[hl1];simp only[jAc,elim_int,Vqa,jEb,R_In_60,hl2,Kqa _ _ hn hv,hl3 _ (show (flP f.Name f.Value).length<=4194304 by omega)];have h4:decide ((4000:Int) < (f.Value.length:Int))=decide (4000 < f.Value.length):=by generalize f.Value.length=n;rw[jBg];simp;omega
 have he:(bif decide ((0:Int) < (f.Value.length:Int)) then (idx f.Value 0).bind fun v38=>(qTa v38).bind fun v40=>(bif v40 then some true else (idx f.Value ((w64 ((f.Value.length:Int) - 1)))).bind fun v43=>(qTa v43).bind fun v45=>some v45) else some false)=some (jIb f.Value):=by
  by_cases hn0:f.Value=[]
  .rw[hn0];rfl
  obtain ⟨a,b,h1,h2,h3,h4⟩:=whb f.Value hn0 hv;have hp:=jCr.2 hn0;have hd:decide ((0:Int) < (f.Value.length:Int))=true:=by rw[decide_eq_true_eq];omega
  unfold jIb;rw[h1,h2,h3,h4,hd];simp only[jAc,yya,cond_true];cases zHa a <;> rfl
 rw[he,h4];simp only[jAc];unfold jNb fnP valP zZb;cases f.Name.all fnC <;> cases (f.Name !=([]:Str)) <;> cases decide (f.Name.length<=60) <;> (try rfl)
 simp only[Bool.and_true,jBo,jAs,if_false,cond_false];by_cases h4000:4000 < f.Value.length
 .simp[h4000]
 simp only[h4000,decide_false,cond_false,if_false];cases f.Value.any endC <;> cases jIb f.Value <;> (try rfl)
 simp only[jDo,Bool.and_true,jBo,jAs,if_false,cond_false];cases (flP f.Name f.Value).any fun s=>decide (998 < s.length) <;> rfl
def qra(l:List zba):Prop:=l.length<=1048576/\∀f∈l,f.Name.length<=1048576/\f.Value.length<=1048576
def Kra(i:Nat)(f:zba):Option zja:=if ZCa f !=0 then some ⟨ZCa f,i⟩ else none
def wja(l:List zba):zja:=if 60 < l.length then ⟨2, -1⟩ else (kua Kra 0 l).getD ⟨0,0⟩
theorem dec60f(l:List zba):decide ((60:Int) < (l.length:Int))=decide (60 < l.length):=by generalize l.length=n;rw[jBg];simp;omega
theorem v6a(l:List zba)(h:qra l):kOa l=some (wja l):=by
 obtain ⟨h1,h2⟩:=h;unfold kOa wja;rw[qna l Kra (.inl ()) .inr]
 .simp only[jAc,qQa,qCa,yab,dec60f];by_cases h6:60 < l.length <;> simp[h6]
 .unfold qWa;rw[kBa];rfl
 intro i f hf;have hi:=z6a hf;obtain ⟨hn,hv⟩:=h2 f (jAi hf);unfold qWa Kra;rw[qVa hf,kla hf];simp only[cond_true,jAc,jpa _ _ hn hv,zsa,qQa,sc i (by omega)];show (bif ZCa f !=0 then _ else _)=_;cases ZCa f !=0 <;> rfl
theorem j6a(l:List zba)(h:(wja l).Code=0):¬60 < l.length/\kua Kra 0 l=none/\∀f∈l,ZCa f=0:=by
 unfold wja at h;by_cases h6:60 < l.length
 .rw[if_pos h6]at h;simp at h
 rw[if_neg h6]at h;cases hq:kua Kra 0 l with
 | some y=>
  rw[hq]at h;obtain ⟨i,f,h1,h2⟩:=YEa hq;unfold Kra at h2;exfalso;by_cases hc:ZCa f=0
  .simp[hc]at h2
  have:(ZCa f !=0)=true:=by simpa using hc
  rw[this]at h2;simp at h2;subst h2;exact hc h
 | none=>
  refine ⟨h6,rfl,fun f hf=>?_⟩;obtain ⟨i,hi⟩:=jCo hf;have:=QSa.1 hq i f hi;unfold Kra at this;simpa using this
theorem z1b{f:zba}(h:ZCa f=0):f.Name.length<=60/\f.Value.length<=4000/\vAb f.Name f.Value=(flP f.Name f.Value,⟨0,0⟩)/\∀l∈flP f.Name f.Value,l.length<=998:=by
 have h0:=h;rw[z0b]at h;unfold jNb at h;have h1:fnP f.Name=true:=by cases hx:fnP f.Name with
  | true=>rfl
  | false=>rw[hx]at h;simp at h
 rw[h1]at h;simp only[jBo,jAs,if_false]at h;have h2:¬4000 < f.Value.length:=by intro hx;rw[if_pos hx]at h;simp at h
 rw[if_neg h2]at h;have h3:valP f.Value=true:=by cases hx:valP f.Value with
  | true=>rfl
  | false=>rw[hx]at h;simp at h
 rw[h3]at h;simp only[jBo,jAs,if_false]at h;have h4:zZb (flP f.Name f.Value)=false:=by cases hx:zZb (flP f.Name f.Value) with
  | false=>rfl
  | true=>rw[hx]at h;simp at h
 refine ⟨?_,by omega,?_,?_⟩
 .unfold fnP at h1;simp only[jAn,decide_eq_true_eq]at h1;exact h1.1.2
 .unfold vAb;rw[h1,h3];simp only[jBo,jAs,if_false,if_neg h2];have:=J2a (flP f.Name f.Value) 0;rw[h4]at this;cases hx:kua YHa 0 (flP f.Name f.Value) with
  | none=>rfl
  | some y=>rw[hx]at this;cases this
 intro l hl;unfold zZb at h4;rw[List.any_eq_false]at h4;have:=h4 l hl;simp at this;omega
def addL(a:List UInt8)(l:Str):List UInt8:=a++l++ [13,10]
def addF(a:List UInt8)(f:zba):List UInt8:=(flP f.Name f.Value).foldl addL a
def vha(m:zda):List UInt8:=m.Fields.foldl addF []++ [13,10]++m.Body
theorem wjb(l:List Str)(acc:List UInt8)(hl:l.length<=5000)(h9:∀s∈l,s.length<=998)(ha:acc.length<=1000000000){body:Int × List UInt8->Option (Step (Int × List UInt8) (List UInt8))}
 (h0:∀s,body ((l.length:Int),s)=some (.out s)) (h1:∀(i:Nat) x s,l[i]? =some x->s.length<=1006000000->body ((i:Int),s)=some (.cont (((i+1:Nat):Int),addL s x))):iter body (0,acc)=some (l.foldl addL acc)/\(l.foldl addL acc).length<=acc.length+1000 * l.length:=
 j1a l (fun i s=>(i,s)) addL id (fun i s=>s.length<=acc.length+1000 * i) (body:=body) (fun s _=>h0 s) (fun i x s hx hi=>by
  have hlt:=z6a hx;have h9x:=h9 x (jAi hx);refine ⟨h1 i x s hx (by omega),?_⟩;unfold addL;simp;omega) acc (by simp)
theorem k2b(l:List zba)(hl:l.length<=60)(hc:∀f∈l,ZCa f=0){body:Int × List UInt8->Option (Step (Int × List UInt8) (List UInt8))}
 (h0:∀s,body ((l.length:Int),s)=some (.out s)) (h1:∀(i:Nat) f s,l[i]? =some f->s.length<=1000000000->body ((i:Int),s)=some (.cont (((i+1:Nat):Int),addF s f))/\(addF s f).length<=s.length+5000000):iter body (0,([]:List UInt8))=some (l.foldl addF [])/\(l.foldl addF []).length<=5000000 * l.length:=
 j1a l (fun i s=>(i,s)) addF id (fun i s=>s.length<=5000000 * i) (body:=body) (fun s _=>h0 s) (fun i f s hf hi=>by
  have hlt:=z6a hf;obtain ⟨q1,q2⟩:=h1 i f s hf (by omega);exact ⟨q1,by omega⟩) [] (by simp)
theorem ZWa(m:zda)(hb:m.Body.length<=1048576)(h60:m.Fields.length<=60)(hc:∀f∈m.Fields,ZCa f=0):vda m=some (vha m):=by
 unfold vda vha;obtain ⟨h1,h2⟩:=k2b m.Fields h60 hc (body:=qLa m) (fun s=>by unfold qLa;rw[kBa];rfl) (fun i f s hf hs=>by
  have hi:=z6a hf;obtain ⟨c1,c2,c3,c4⟩:=z1b (hc f (jAi hf));have hfl:=wib f.Name f.Value;obtain ⟨q1,q2⟩:=wjb (flP f.Name f.Value) s (by omega) c4 hs (body:=qKa (vAb f.Name f.Value)) (fun s=>by unfold qKa;rw[c3,kBa];rfl) (fun k x s hx hs=>by
   have hk:=z6a hx;have:=c4 x (jAi hx);unfold qKa;rw[c3,qVa hx,kla hx];simp only[cond_true,jAc,sc k (by omega)];rw[qma (by omega)];simp only[jAc];rw[qma (by simp;omega)];rfl)
  unfold addF;refine ⟨?_,by omega⟩;unfold qLa;rw[qVa hf,kla hf];simp only[cond_true,jAc,jpa f.Name f.Value (by omega) (by omega),q1,sc i (by omega)])
 rw[h1];simp only[jAc];rw[qma (by simp;omega)];simp only[jAc];rw[qma (by simp;omega)];rfl
theorem j7a(m:zda)(hb:m.Body.length<=1048576)(h60:m.Fields.length<=60)(hc:∀f∈m.Fields,ZCa f=0):kCa m=some (vha m):=by
 unfold kCa vha;obtain ⟨h1,h2⟩:=k2b m.Fields h60 hc (body:=qpa m) (fun s=>by unfold qpa;rw[kBa];rfl) (fun i f s hf hs=>by
  have hi:=z6a hf;obtain ⟨c1,c2,c3,c4⟩:=z1b (hc f (jAi hf));have hfl:=wib f.Name f.Value;obtain ⟨q1,q2⟩:=wjb (flP f.Name f.Value) s (by omega) c4 hs (body:=qoa (flP f.Name f.Value)) (fun s=>by unfold qoa;rw[kBa];rfl) (fun k x s hx hs=>by
   have hk:=z6a hx;have:=c4 x (jAi hx);unfold qoa;rw[qVa hx,kla hx];simp only[cond_true,jAc,sc k (by omega)];rw[qma (by omega)];simp only[jAc];rw[qma (by simp;omega)];rfl)
  unfold addF;refine ⟨?_,by omega⟩;unfold qpa;rw[qVa hf,kla hf];simp only[cond_true,jAc,Kqa f.Name f.Value (by omega) (by omega),q1,sc i (by omega)])
 rw[h1];simp only[jAc];rw[qma (by simp;omega)];simp only[jAc];rw[qma (by simp;omega)];rfl
def YIa:Nat->List UInt8->Option Bool
 | _,[]=>none
 | c,[x]=>if x==13 || x==10 then some true else if 998 < c+1 then some false else none
 | c,x::y::r=>if x==13 && y==10 then YIa 0 r else if x==13 || x==10 then some true else if 998 < c+1 then some false else YIa (c+1) (y::r)
def Vsa{O:Type}(e:Bool->O)(c i:Nat)(x:UInt8)(r:List UInt8):Step (Int × Int) (Unit ⊕ O):=
 if x==13 && r.head? ==some 10 then .cont (0,((i+2:Nat):Int)) else if x==13 || x==10 then .out (.inr (e true)) else if 998 < c+1 then .out (.inr (e false)) else .cont (((c+1:Nat):Int),((i+1:Nat):Int))
theorem k3b{O:Type}(e:Bool->O)(l:List UInt8){body:Int × Int->Option (Step (Int × Int) (Unit ⊕ O))}
 (h0:∀c,body (c,(l.length:Int))=some (.out (.inl ())))
 (hs:∀(c:Nat) (p:List UInt8) x r,l=p++x::r->c<=998->body ((c:Int),(p.length:Int))=some (Vsa e c p.length x r)):
 ∀(n:Nat) (r p:List UInt8) (c:Nat),r.length<=n->l=p++r->c<=998->iter body ((c:Int),(p.length:Int))=some ((YIa c r).elim (.inl ()) fun b=>.inr (e b)):=by
 intro n;induction n with
 | zero=>
  intro r p c hr hl hc;obtain rfl:r=[]:=List.length_eq_zero_iff.1 (by omega);have:p=l:=by simp[hl]
  subst this;exact zXa (h0 _)
 | succ n ih=>
  intro r p c hr hl hc
  match r,hr,hl with
  | [],_,hl=>
   have:p=l:=by simp[hl]
   subst this;exact zXa (h0 _)
  | [x],hr,hl=>
   have hb:=hs c p x [] hl hc;unfold Vsa at hb;have e1:(x==13 && ([]:List UInt8).head? ==some 10)=false:=by simp
   rw[e1]at hb;simp only[jAs,if_false]at hb;unfold YIa;cases hx:(x==13 || x==10) with
   | true=>rw[hx]at hb;exact zXa hb
   | false=>
    rw[hx]at hb;simp only[jAs,if_false]at hb ⊢;by_cases h9:998 < c+1
    .rw[if_pos h9]at hb ⊢;exact zXa hb
    rw[if_neg h9]at hb ⊢;rw[kYa hb];have:=ih [] (p++ [x]) (c+1) (by simp) (by simp[hl]) (by omega);rw[jBs]at this;exact this
  | x::y::r,hr,hl=>
   have hb:=hs c p x (y::r) hl hc;unfold Vsa at hb;have e1:((y::r).head? ==some (10:UInt8))=(y==10):=by simp
   rw[e1]at hb;unfold YIa;cases hxy:(x==13 && y==10) with
   | true=>
    rw[hxy]at hb;simp only[if_true]at hb ⊢;rw[kYa hb];have:=ih r (p++ [x,y]) 0 (by simp at hr;omega) (by simp[hl]) (by omega);rw[jBs]at this;exact this
   | false=>
    rw[hxy]at hb;simp only[jAs,if_false]at hb ⊢;cases hx:(x==13 || x==10) with
    | true=>rw[hx]at hb;exact zXa hb
    | false=>
     rw[hx]at hb;simp only[jAs,if_false]at hb ⊢;by_cases h9:998 < c+1
     .rw[if_pos h9]at hb ⊢;exact zXa hb
     rw[if_neg h9]at hb ⊢;rw[kYa hb];have:=ih (y::r) (p++ [x]) (c+1) (by simp at hr ⊢;omega) (by simp[hl]) (by omega);rw[jBs]at this;exact this
theorem jOb{l p r:List UInt8}{x:UInt8}(h:l=p++x::r)(hl:l.length<=1048576):(bif decide (((p.length+1:Nat):Int) < (l.length:Int)) then (idx l ((p.length+1:Nat):Int)).bind fun v13=>some (((v13.toNat:Int)==10)) else some false)=some (r.head? ==some 10):=by
 subst h;simp at hl;cases r with
 | nil=>
  have:decide (((p.length+1:Nat):Int) < ((p++ [x]).length:Int))=false:=by simp
  rw[this];rfl
 | cons y r=>
  have:decide (((p.length+1:Nat):Int) < ((p++x::y::r).length:Int))=true:=by simp;omega
  rw[this,jDa];have:(p++x::y::r)[p.length+1]? =some y:=by simp[jAq]
  rw[this];simp only[cond_true,jAc,jda y 10 (by decide)];simp
theorem Vta(l:List UInt8)(hl:l.length<=1048576):yxa l=some ((YIa 0 l).elim 0 fun b=>bif b then 11 else 1):=by
 unfold yxa;have:=k3b (fun b:Bool=>bif b then (11:Int) else 1) l (body:=vea l) (fun c=>by unfold vea;rw[kBa];rfl) (fun c p x r h hc=>by
  have hx:l[p.length]? =some x:=by simp[h]
  have hi:=z6a hx;unfold vea v3a Vsa;dsimp only;rw[qVa hx,kla hx];simp only[cond_true,jAc,jda x 13 (by decide),jda x 10 (by decide),sc p.length (by omega),sc (p.length+1) (by omega),sc c (by omega)];rw[jOb h hl];have h9:decide ((998:Int) < ((c+1:Nat):Int))=decide (998 < c+1):=by rw[jBg];simp;omega
  rw[h9];by_cases h98:998 < c+1 <;> simp only[h98,decide_true,decide_false,if_true,if_false] <;> cases x==13 <;> cases x==10 <;> cases r.head? ==some 10 <;> rfl) l.length l [] 0 (jAm _) rfl (by omega)
 have h2:iter (vea l) (0,0)=_:=this;rw[h2];cases YIa 0 l with
 | none=>rfl
 | some b=>cases b <;> rfl
def jPb(l:List UInt8):zja:=(YIa 0 l).elim ⟨0,0⟩ fun b=>bif b then ⟨11, -5⟩ else ⟨1, -6⟩
theorem YJa(l:List UInt8)(hl:l.length<=1048576):wRa l=some (jPb l):=by
 unfold wRa jPb;rw[Vta l hl];cases YIa 0 l with
 | none=>rfl
 | some b=>cases b <;> rfl
def msgF(m:zda):zja:=if (wja m.Fields).Code !=0 then wja m.Fields else if 12000 < (vha m).length then ⟨1, -4⟩ else jPb m.Body
def QCa(m:zda):Prop:=qra m.Fields/\m.Body.length<=1048576
theorem kPa(m:zda)(h:QCa m):zOa m=some (msgF m):=by
 obtain ⟨h1,h2⟩:=h;unfold zOa msgF;rw[v6a _ h1];simp only[jAc,zsa,qQa,YJa _ h2];cases hc:(wja m.Fields).Code !=0 with
 | true=>rfl
 | false=>
  obtain ⟨q1,q2,q3⟩:=j6a m.Fields (by simpa using hc);rw[ZWa m h2 (by omega) q3];simp only[jAc,cond_false,jAs,if_false];have:decide ((12000:Int) < ((vha m).length:Int))=decide (12000 < (vha m).length):=by generalize (vha m).length=n;rw[jBg];simp;omega
  rw[this];by_cases hb:12000 < (vha m).length <;> simp[hb]
theorem j8a(m:zda)(h:QCa m):qPa m=some (msgF m):=by
 obtain ⟨⟨h1,h3⟩,h2⟩:=h;unfold qPa msgF;rw[qna m.Fields Kra (.inl ()) .inr]
 .have hbl:iter (kHa m) (0,0)=_:=k3b (fun b:Bool=>bif b then (⟨11, -5⟩:zja) else ⟨1, -6⟩) m.Body (body:=kHa m) (fun c=>by unfold kHa;rw[kBa];rfl) (fun c p x r h hc=>by
   have hx:m.Body[p.length]? =some x:=by simp[h]
   have hi:=z6a hx;unfold kHa qqa Vsa;dsimp only;rw[qVa hx,kla hx];simp only[cond_true,jAc,jda x 13 (by decide),jda x 10 (by decide),sc p.length (by omega),sc (p.length+1) (by omega),sc c (by omega),vwb];rw[jOb h h2];have h9:decide ((998:Int) < ((c+1:Nat):Int))=decide (998 < c+1):=by rw[jBg];simp;omega
   rw[h9];by_cases h98:998 < c+1 <;> simp only[h98,decide_true,decide_false,if_true,if_false] <;> cases x==13 <;> cases x==10 <;> cases r.head? ==some 10 <;> rfl) m.Body.length m.Body [] 0 (jAm _) rfl (by omega)
  rw[hbl,dec60f];simp only[jAc,vwb];by_cases h6:60 < m.Fields.length
  .have:wja m.Fields=⟨2, -1⟩:=by unfold wja;rw[if_pos h6]
   rw[this];simp[h6]
  simp only[h6,decide_false,cond_false];have hh:wja m.Fields=(kua Kra 0 m.Fields).getD ⟨0,0⟩:=by unfold wja;rw[if_neg h6]
  cases hq:kua Kra 0 m.Fields with
  | some y=>
   rw[hq]at hh;have hc:((wja m.Fields).Code !=0)=true:=by
    cases hc:(wja m.Fields).Code !=0 with
    | true=>rfl
    | false=>
     obtain ⟨_,q2,_⟩:=j6a m.Fields (by simpa using hc);rw[hq]at q2;cases q2
   rw[hc,hh];rfl
  | none=>
   rw[hq]at hh;have hz:wja m.Fields=⟨0,0⟩:=hh;obtain ⟨q1,q2,q3⟩:=j6a m.Fields (by rw[hz]);rw[j7a m h2 (by omega) q3,hz];simp only[jAc,Option.elim_none,Sum.elim_inl];have hbb:m.Body.length<=(vha m).length:=by unfold vha;simp;omega
   have e2:(bif decide ((12000:Int) < (m.Body.length:Int)) then some true else some (decide ((12000:Int) < ((vha m).length:Int))))=some (decide (12000 < (vha m).length)):=by
    generalize (vha m).length=n at *;by_cases hx:12000 < m.Body.length
    .have e3:decide ((12000:Int) < (m.Body.length:Int))=true:=by rw[decide_eq_true_eq];omega
     have e4:decide (12000 < n)=true:=by rw[decide_eq_true_eq];omega
     rw[e3,e4];rfl
    have e3:decide ((12000:Int) < (m.Body.length:Int))=false:=by rw[decide_eq_false_iff_not];omega
    rw[e3];simp only[cond_false,Option.some.injEq];rw[jBg];simp;omega
   rw[e2];simp only[jAc];unfold jPb;by_cases hb:12000 < (vha m).length
   .simp[hb]
   simp only[hb,decide_false,cond_false,if_false];cases YIa 0 m.Body <;> rfl
 .unfold vfa;rw[kBa];rfl
 intro i f hf;have hi:=z6a hf;obtain ⟨hn,hv⟩:=h3 f (jAi hf);unfold vfa Kra;rw[qVa hf,kla hf];simp only[cond_true,jAc,QBa _ hn hv,vwb,sc i (by omega)];cases ZCa f !=0 <;> rfl
instance:DecidableEq zpa:=fun a b=>decidable_of_iff (a.Address=b.Address/\a.Notify=b.Notify) (by cases a;cases b;simp)
instance:DecidableEq zja:=fun a b=>decidable_of_iff (a.Code=b.Code/\a.Index=b.Index) (by cases a;cases b;simp)
instance:DecidableEq q1a:=fun a b=>decidable_of_iff (a.From=b.From/\a.To=b.To/\a.Id=b.Id) (by cases a;cases b;simp)
def YKa(s:Str)(r:zpa):Bool:=r.Address==s
def vBb(out:List zpa)(s:Str):Bool:=out.any (YKa s)
def putR(out:List zpa)(r:zpa):List zpa:=if vBb out r.Address then out.map (fun x=>if YKa r.Address x then ⟨x.Address,iOr x.Notify r.Notify⟩ else x) else out++ [r]
def posA(out:List zpa)(s:Str):Option Nat:=out.findIdx? (YKa s)
theorem posA_has(out:List zpa)(s:Str):(posA out s).isSome=vBb out s:=by unfold posA vBb;exact List.findIdx?_isSome
theorem posA_app(out:List zpa)(r:zpa)(s:Str)(h:vBb out r.Address=false):posA (out++ [r]) s=if r.Address==s then some out.length else posA out s:=by
 unfold posA;rw[List.findIdx?_append];by_cases hs:(r.Address==s)=true
 .rw[if_pos hs];have e:r.Address=s:=beq_iff_eq.1 hs;subst e;have:out.findIdx? (YKa r.Address)=none:=by
   have:=posA_has out r.Address;rw[h]at this;unfold posA at this;simpa using this
  rw[this];simp[YKa]
 rw[if_neg hs];have:YKa s r=false:=by unfold YKa;simpa using hs
 simp[List.findIdx?_cons,this]
theorem posA_map(out:List zpa)(f:zpa->zpa)(hf:∀x,(f x).Address=x.Address)(s:Str):posA (out.map f) s=posA out s:=by
 unfold posA;rw[List.findIdx?_map]
 congr 1
 funext x;simp[Function.comp,YKa,hf]
structure MInv (i:Nat) (out:List zpa) (m:List (Str × Int)):Prop where
 len:out.length<=i
 nd:(out.map (·.Address)).Nodup
 mp:∀s,mget m s=(posA out s).map fun k=>((k:Nat):Int)
theorem MInv.put{i:Nat}{out:List zpa}{m:List (Str × Int)}(h:MInv i out m)(r:zpa):MInv (i+1) (putR out r) (if vBb out r.Address then m else mput m r.Address (out.length:Int)):=by
 unfold putR;cases hh:vBb out r.Address with
 | true=>
  simp only[if_true];have hf:∀x:zpa,(if YKa r.Address x then (⟨x.Address,iOr x.Notify r.Notify⟩:zpa) else x).Address=x.Address:=by intro x;split <;> rfl
  refine ⟨by simp;have:=h.len;omega,?_,fun s=>?_⟩
  .rw[List.map_map,show ((·.Address) ∘ fun x:zpa=>if YKa r.Address x then (⟨x.Address,iOr x.Notify r.Notify⟩:zpa) else x)=(·.Address) from funext hf];exact h.nd
  rw[posA_map _ _ hf];exact h.mp s
 | false=>
  simp only[jAs,if_false];refine ⟨by simp;exact h.len,?_,fun s=>?_⟩
  .rw[List.map_append,List.nodup_append];refine ⟨h.nd,by simp,?_⟩;intro a ha b hb;simp at hb;subst hb;rintro rfl;obtain ⟨x,hx,hxe⟩:=jCe.1 ha;unfold vBb at hh;rw[List.any_eq_false]at hh;exact hh x hx (by simp[YKa,hxe])
  rw[w7b,posA_app _ _ _ hh,h.mp s];by_cases hs:(r.Address==s)=true
  .rw[if_pos hs,if_pos hs];rfl
  rw[if_neg hs,if_neg hs]
theorem jQb{m:zda}(h:zda.bk m<=1048576):QCa m:=by
 unfold zda.bk at h;have h1:=jDb (bk:=zba.bk) (fun x=>by unfold zba.bk;omega) m.Fields;have h2:=jDb (bk:=fun _:UInt8=>1) (fun x=>by simp) m.Body;refine ⟨⟨by omega,fun f hf=>?_⟩,by omega⟩;have h5:=bkL_mem (bk:=zba.bk) hf;have h6:zba.bk f=f.Name.length+1+(f.Value.length+1)+1:=rfl;omega
theorem map_fold{α β:Type}(f:α->β)(l:List α):∀o:List β,l.foldl (fun o x=>o++ [f x]) o=o++l.map f:=by
 induction l with
 | nil=>intro o;simp
 | cons x l ih=>intro o;simp[ih]
def lowC(c:UInt8):UInt8:=bif decide ((65:UInt8)<=c) && decide (c<=90) then c+97 - 65 else c
def lowP(s:Str):Str:=s.map lowC
theorem QDa(s:Str)(hs:s.length<=1048576):wra s=some (lowP s):=by
 unfold wra;have key:∀r p:Str,s=p++r->iter (k9a s) ((p.length:Int),p.map lowC++r)=some (lowP s):=by
  intro r;induction r with
  | nil=>
   intro p h;have hp:p=s:=by simp[h]
   subst hp;refine zXa ?_;unfold k9a;dsimp only;rw[kBa];simp[lowP]
  | cons c r ih=>
   intro p h;have hx:s[p.length]? =some c:=by simp[h]
   have hi:=z6a hx;have hx2:(p.map lowC++c::r)[p.length]? =some c:=by
    rw[jAq (by simp)];simp
   have hb:k9a s ((p.length:Int),p.map lowC++c::r)=some (.cont (((p.length+1:Nat):Int),(p++ [c]).map lowC++r)):=by
    unfold k9a;dsimp only;rw[qVa hx,kla hx2];simp only[cond_true,jAc,wfb 65 c (by decide),wgb 90 c (by decide),sc p.length (by omega),Int.toNat_natCast];have hset:(p.map lowC++c::r).set p.length (lowC c)=(p++ [c]).map lowC++r:=by
     rw[List.set_append_right _ _ (by simp)];simp
    have hsame:lowC c=c->p.map lowC++c::r=(p++ [c]).map lowC++r:=by intro h;simp[h]
    unfold lowC at hset hsame ⊢;cases h1:decide ((65:UInt8)<=c) <;> cases h2:decide (c<=90) <;> rw[h1,h2]at hset hsame <;> simp only[Bool.and_true,Bool.and_false,jDn,Bool.false_and,cond_true,cond_false,jAc]at hset hsame ⊢
    .rw[hsame trivial]
    .rw[hsame trivial]
    .rw[hsame trivial]
    rw[hset]
   rw[kYa hb];have:=ih (p++ [c]) (by simp[h]);simpa using this
 have:=key s [] rfl;have h2:iter (k9a s) (0,s)=some (lowP s):=this;rw[h2];rfl
def Vua(a b:Str):Bool:=lowP a==lowP b
theorem Vva(a b:Str)(ha:a.length<=1048576)(hb:b.length<=1048576):kba a b=some (Vua a b):=by
 unfold kba Vua;rw[QDa a ha,QDa b hb];simp only[jAc];by_cases h:a.length=b.length
 .have:((a.length:Int)==(b.length:Int))=true:=by simp[h]
  rw[this];rfl
 have:((a.length:Int)==(b.length:Int))=false:=by rw[beq_eq_false_iff_ne];omega
 rw[this];have:(lowP a==lowP b)=false:=by
  rw[beq_eq_false_iff_ne];intro hc;have:=congrArg List.length hc;simp[lowP]at this;exact h this
 rw[this];rfl
theorem jGa(n:Str)(hn:n.length<=1048576):vGa n=some (fnP n):=by
 unfold vGa;rw[jpa n [] hn (by simp)];simp only[jAc,zsa,Option.some.injEq];have h:=z0b ⟨n,[]⟩;unfold ZCa at h;dsimp only at h;rw[h];unfold jNb;cases hf:fnP n with
 | false=>rfl
 | true=>
  have h60:n.length<=60:=by unfold fnP at hf;simp only[jAn,decide_eq_true_eq]at hf;exact hf.1.2
  have hl:flP n []=[txt n []]:=by unfold flP;exact vHa (.inl (by have:=YGa n [];simp at this;omega))
  have hlb:zZb (flP n [])=false:=by
   rw[hl];have:=YGa n [];unfold zZb;simp at this ⊢;omega
  have hv:valP []=true:=rfl;rw[hlb,hv];rfl
theorem YLa(l:List zba)(n:Str)(hl:qra l)(hn:n.length<=1048576):wSa l n=some (if (wja l).Code !=0 then wja l else if !fnP n then ⟨10, -3⟩ else ⟨0,0⟩):=by
 unfold wSa;rw[v6a l hl,jGa n hn];simp only[jAc,zsa,qQa,qCa];cases (wja l).Code !=0 <;> cases fnP n <;> rfl
def getP(l:List zba)(n:Str):List Str:=(l.filter fun f=>Vua f.Name n).map (·.Value)
theorem wkb(n:Str)(l:List zba):∀o:List Str,l.foldl (fun o (f:zba)=>if Vua f.Name n then o++ [f.Value] else o) o=o++getP l n:=by
 unfold getP;induction l with
 | nil=>intro o;simp
 | cons f l ih=>intro o;rw[List.foldl_cons,ih,List.filter_cons];cases Vua f.Name n <;> simp
theorem z2b(l:List zba)(n:Str)(hl:qra l)(hn:n.length<=1048576):j5a l n=some (if (wja l).Code !=0 then ([],wja l) else if !fnP n then ([],⟨10, -3⟩) else (getP l n,⟨0,0⟩)):=by
 unfold j5a;rw[YLa l n hl hn];obtain ⟨h1,h2⟩:=hl;have:=(j1a l (fun i (s:List Str)=>(i,s)) (fun o (f:zba)=>if Vua f.Name n then o++ [f.Value] else o) id (fun i s=>s.length<=i) (body:=v4a l n)
  (fun s _=>by unfold v4a;simp[kBa]) (fun i f s hf hi=>by
   have hlt:=z6a hf;have hfs:=h2 f (jAi hf);refine ⟨?_,by split <;> (try simp) <;> omega⟩;unfold v4a;dsimp only;rw[qVa hf,kla hf];simp only[cond_true,jAc,sc i (by omega),Vva _ _ hfs.1 hn];cases Vua f.Name n with
   | false=>rfl
   | true=>
    simp only[cond_true,if_true];rw[qma (by simp;omega)];rfl) [] (by simp)).1
 rw[this,wkb];simp only[jAc,zsa,qCa];cases hc:(wja l).Code !=0 with
 | true=>simp[hc]
 | false=>cases hf:fnP n <;> simp
def j9a(a0:Str)(s1:Int × (List UInt8)):Option (Step (Int × (List UInt8)) (List UInt8)):=
 (bif decide (s1.1 < (a0.length:Int)) then (idx a0 s1.1).bind fun v5=>((R_In ((v5.toNat:Int)) 65 90).bind fun v8=>(bif v8 then some ((v5+(32:UInt8))) else some v5):Option UInt8).bind fun (j7:UInt8)=>(app 140737488355328 s1.2 (([j7]:List UInt8))).bind fun v11=>some (.cont ((w64 (s1.1+1)),v11)) else some (.out s1.2))
def V5a(a0:Str):Option Str:=
 (iter (j9a a0) ((0,([]:List UInt8)))).bind fun b2=>some b2
def k4b(a0:Str)(a1:Str):Option Bool:=
 (V5a a0).bind fun v1=>(V5a a1).bind fun v3=>some ((v1==v3))
def yNa(a0:zda)(a1:Str)(s1:Int × (List Str)):Option (Step (Int × (List Str)) (List Str)):=
 (bif decide (s1.1 < (a0.Fields.length:Int)) then ((idx a0.Fields s1.1).bind fun v6=>(k4b v6.Name a1).bind fun v8=>(bif v8 then (idx a0.Fields s1.1).bind fun v11=>(app 8796093022208 s1.2 (([v11.Value]:List Str))).bind fun v13=>some v13 else some s1.2):Option (List Str)).bind fun (j5:List Str)=>some (.cont ((w64 (s1.1+1)),j5)) else some (.out s1.2))
def vBa(a0:zda)(a1:Str):Option (List Str):=
 (iter (yNa a0 a1) ((0,([]:List Str)))).bind fun b2=>some b2
def zqa(a0:List zba):Option (List zba):=
 (nilE a0.isEmpty (some ([])) ((app 4398046511104 ([]:List zba) a0).bind fun v2=>some v2))
def zJa(n:Int):Option Str:=if -9223372036854775808<=n/\n<=9223372036854775807 then some (Lib.itoa n) else none
def qva(s:Str):Option (Int × Bool):=if s.length<=18 then (match Lib.atoi s with | some n=>some (n,false) | none=>some (0,true)) else if s.length<=281474976710656 then (match Lib.atoiAll s with | .ok v=>some (v,false) | .range=>some (Lib.atoiSat s,true) | _=>some (0,true)) else none
def yOa(a0:Int):Option Str:=
 (bif decide (a0 < 10) then (cut (([48,49,50,51,52,53,54,55,56,57]:Str)) a0 ((w64 (a0+1)))).bind fun v2=>some v2 else none)
def yPa(a0:Int):Option Str:=
 (bif decide (a0 < 10) then (cut (([48,49,50,51,52,53,54,55,56,57]:Str)) a0 ((w64 (a0+1)))).bind fun v2=>some v2 else (yOa ((iQuo a0 10))).bind fun v4=>(yOa ((iRem a0 10))).bind fun v6=>(cat v4 v6).bind fun v8=>some v8)
def yQa(a0:Int):Option Str:=
 (bif decide (a0 < 10) then (cut (([48,49,50,51,52,53,54,55,56,57]:Str)) a0 ((w64 (a0+1)))).bind fun v2=>some v2 else (yPa ((iQuo a0 10))).bind fun v4=>(yPa ((iRem a0 10))).bind fun v6=>(cat v4 v6).bind fun v8=>some v8)
def yRa(a0:Int):Option Str:=
 (bif decide (a0 < 10) then (cut (([48,49,50,51,52,53,54,55,56,57]:Str)) a0 ((w64 (a0+1)))).bind fun v2=>some v2 else (yQa ((iQuo a0 10))).bind fun v4=>(yQa ((iRem a0 10))).bind fun v6=>(cat v4 v6).bind fun v8=>some v8)
def ySa(a0:Int):Option Str:=
 (bif decide (a0 < 10) then (cut (([48,49,50,51,52,53,54,55,56,57]:Str)) a0 ((w64 (a0+1)))).bind fun v2=>some v2 else (yRa ((iQuo a0 10))).bind fun v4=>(yRa ((iRem a0 10))).bind fun v6=>(cat v4 v6).bind fun v8=>some v8)
def yTa(a0:Int):Option Str:=
 (bif decide (a0 < 10) then (cut (([48,49,50,51,52,53,54,55,56,57]:Str)) a0 ((w64 (a0+1)))).bind fun v2=>some v2 else (ySa ((iQuo a0 10))).bind fun v4=>(ySa ((iRem a0 10))).bind fun v6=>(cat v4 v6).bind fun v8=>some v8)
def yUa(a0:Int):Option Str:=
 (bif decide (a0 < 10) then (cut (([48,49,50,51,52,53,54,55,56,57]:Str)) a0 ((w64 (a0+1)))).bind fun v2=>some v2 else (yTa ((iQuo a0 10))).bind fun v4=>(yTa ((iRem a0 10))).bind fun v6=>(cat v4 v6).bind fun v8=>some v8)
def yVa(a0:Int):Option Str:=
 (bif decide (a0 < 10) then (cut (([48,49,50,51,52,53,54,55,56,57]:Str)) a0 ((w64 (a0+1)))).bind fun v2=>some v2 else (yUa ((iQuo a0 10))).bind fun v4=>(yUa ((iRem a0 10))).bind fun v6=>(cat v4 v6).bind fun v8=>some v8)
def yWa(a0:Int):Option Str:=
 (bif decide (a0 < 10) then (cut (([48,49,50,51,52,53,54,55,56,57]:Str)) a0 ((w64 (a0+1)))).bind fun v2=>some v2 else (yVa ((iQuo a0 10))).bind fun v4=>(yVa ((iRem a0 10))).bind fun v6=>(cat v4 v6).bind fun v8=>some v8)
def yXa(a0:Int):Option Str:=
 (bif decide (a0 < 10) then (cut (([48,49,50,51,52,53,54,55,56,57]:Str)) a0 ((w64 (a0+1)))).bind fun v2=>some v2 else (yWa ((iQuo a0 10))).bind fun v4=>(yWa ((iRem a0 10))).bind fun v6=>(cat v4 v6).bind fun v8=>some v8)
def wTa(a0:Int):Option Str:=
 (bif decide (a0 < 10) then (cut (([48,49,50,51,52,53,54,55,56,57]:Str)) a0 ((w64 (a0+1)))).bind fun v2=>some v2 else (yXa ((iQuo a0 10))).bind fun v4=>(yXa ((iRem a0 10))).bind fun v6=>(cat v4 v6).bind fun v8=>some v8)
def wUa(a0:Int):Option Str:=
 (bif decide (a0 < 10) then (cut (([48,49,50,51,52,53,54,55,56,57]:Str)) a0 ((w64 (a0+1)))).bind fun v2=>some v2 else (wTa ((iQuo a0 10))).bind fun v4=>(wTa ((iRem a0 10))).bind fun v6=>(cat v4 v6).bind fun v8=>some v8)
def Qea(a0:Int):Option Str:=
 (bif decide (a0 < 10) then (cut (([48,49,50,51,52,53,54,55,56,57]:Str)) a0 ((w64 (a0+1)))).bind fun v2=>some v2 else (wUa ((iQuo a0 10))).bind fun v4=>(wUa ((iRem a0 10))).bind fun v6=>(cat v4 v6).bind fun v8=>some v8)
def vPa(l:List Str)(s:Str):Option Str:=if l.length<=140737488355328/\(Lib.join l s).length<=140737488355328 then some (Lib.join l s) else none
def qRa(s:Str)(n:Int):Option Str:=if 0<=n/\n<=9223372036854775807/\s.length * n.toNat<=140737488355328 then some (Lib.repeatL s n.toNat) else none
def kDa(a0:Int)(a1:Int)(a2:Int):Option Bool:=
 ((bif decide (a1<=a0) then some (decide (a0<=a2)) else some false):Option Bool).bind fun (j1:Bool)=>some j1
def ZDa(a0:Int)(a1:Int):Option (Int × Int):=
 (nz a1).bind fun v1=>(nz a1).bind fun v3=>(nz a1).bind fun v5=>some (((iQuo ((w64 (a0 - (iRem ((w64 ((iRem a0 a1)+a1))) a1)))) a1),(iRem ((w64 ((iRem a0 a1)+a1))) a1)))
def jqa(a0:Int):Option Int:=
 some ((w64 ((w64 ((w64 ((w64 (365 * (w64 (a0 - 1))))+(iQuo ((w64 (a0 - 1))) 4))) - (iQuo ((w64 (a0 - 1))) 100)))+(iQuo ((w64 (a0 - 1))) 400))))
def V6a(a0:Int):Option Bool:=
 ((bif ((iRem a0 4)==0) then (bif ((iRem a0 100) !=0) then some true else some (((iRem a0 400)==0))) else some false):Option Bool).bind fun (j1:Bool)=>some j1
def jra(a0:Int)(a1:Int):Option Int:=
 (idx ([31,28,31,30,31,30,31,31,30,31,30,31]:List Int) ((w64 (a1 - 1)))).bind fun v1=>(((bif (a1==2) then (V6a a0).bind fun v6=>some v6 else some false):Option Bool).bind fun (j4:Bool)=>(bif j4 then some ((w64 (v1+1))) else some v1):Option Int).bind fun (j3:Int)=>some j3
def Wya(a0:Int)(a1:Int)(s5:Int × Int):Option (Step (Int × Int) Int):=
 (bif decide (s5.2 < a1) then (jra a0 s5.2).bind fun v9=>some (.cont ((w64 (s5.1+v9)),(w64 (s5.2+1)))) else some (.out s5.1))
def wVa(a0:Int)(a1:Int)(a2:Int):Option Int:=
 (jqa a0).bind fun v1=>(jqa 1970).bind fun v3=>(iter (Wya a0 a1) (((w64 ((w64 ((w64 (v1 - v3))+a2)) - 1)),1))).bind fun b6=>some b6
def QEa(v11:Int × Int)(s22:Int × Int):Option (Step (Int × Int) Int):=
 (bif decide (0 < s22.2) then (((bif decide ((w64 (s22.1+s22.2))<=4000) then (wVa ((w64 (s22.1+s22.2))) 1 1).bind fun v29=>some (decide (v29<=v11.1)) else some false):Option Bool).bind fun (j27:Bool)=>(bif j27 then some ((w64 (s22.1+s22.2))) else some s22.1):Option Int).bind fun (j26:Int)=>some (.cont (j26,(iQuo s22.2 2))) else some (.out s22.1))
def QFa(v11:Int × Int)(b23:Int)(s32:Int):Option (Step Int Int):=
 (wVa b23 s32 1).bind fun v35=>(bif decide (v11.1 < v35) then some (.cont (w64 (s32 - 1))) else some (.out s32))
def QTa(a0:Int)(a1:Int):Option (j0a × zja):=
 (V3a a0).bind fun v1=>(bif (!v1) then (zla 3 ((-2))).bind fun v4=>some (((j0a.mk 0 0 0 0 0 0 0),v4)) else (kDa a1 ((-900)) 900).bind fun v6=>(bif (!v6) then (zla 3 ((-4))).bind fun v9=>some (((j0a.mk 0 0 0 0 0 0 0),v9)) else (ZDa ((w64 (a0+(w64 (60 * a1))))) 86400).bind fun v11=>((wVa 1 1 1).bind fun v14=>(bif decide (v11.1 < v14) then some true else (wVa 4000 12 31).bind fun v17=>some (decide (v17 < v11.1))):Option Bool).bind fun (j13:Bool)=>(bif j13 then (zla 3 ((-3))).bind fun v20=>some (((j0a.mk 0 0 0 0 0 0 0),v20)) else (iter (QEa v11) ((1,2048))).bind fun b23=>(iter (QFa v11 b23) 12).bind fun b33=>(wVa b23 b33 1).bind fun v38=>(zva).bind fun v40=>some (((j0a.mk b23 b33 ((w64 ((w64 (v11.1 - v38))+1))) ((iQuo v11.2 3600)) ((iRem ((iQuo v11.2 60)) 60)) ((iRem v11.2 60)) a1),v40)))))
def jHa(a0:j0a):Option zja:=
 ((kDa a0.Year 1 4000).bind fun v2=>(bif v2 then (kDa a0.Month 1 12).bind fun v5=>(bif v5 then (jra a0.Year ((min ((max a0.Month 1)) 12))).bind fun v8=>(kDa a0.Day 1 v8).bind fun v10=>(bif v10 then (kDa a0.Hour 0 23).bind fun v13=>(bif v13 then (kDa a0.Minute 0 59).bind fun v16=>(bif v16 then (kDa a0.Second 0 59).bind fun v19=>(bif v19 then (kDa a0.Zone ((-900)) 900).bind fun v22=>some v22 else some false) else some false) else some false) else some false) else some false) else some false):Option Bool).bind fun (j1:Bool)=>(bif (!j1) then (zla 3 ((-3))).bind fun v25=>some v25 else (zva).bind fun v27=>some v27)
def ZEa(a0:j0a):Option (Int × zja):=
 (jHa a0).bind fun v1=>(zna v1).bind fun v3=>(bif v3 then some ((0,v1)) else (wVa a0.Year a0.Month a0.Day).bind fun v6=>(ZDa ((w64 (v6+4))) 7).bind fun v8=>(zva).bind fun v10=>some ((v8.2,v10)))
def v7a(a0:Int)(a1:Int):Option Str:=
 (zJa a0).bind fun v1=>(qRa (([48]:Str)) ((max 0 ((w64 (a1 - (v1.length:Int))))))).bind fun v3=>(cat v3 v1).bind fun v5=>some v5
def jIa:Option (Str × Str × Str × Str × Str × Str × Str):=
 some ((([83,117,110]:Str),([77,111,110]:Str),([84,117,101]:Str),([87,101,100]:Str),([84,104,117]:Str),([70,114,105]:Str),([83,97,116]:Str)))
def Ksa:Option (Str × Str × Str × Str × Str × Str × Str × Str × Str × Str × Str × Str):=
 some ((([74,97,110]:Str),([70,101,98]:Str),([77,97,114]:Str),([65,112,114]:Str),([77,97,121]:Str),([74,117,110]:Str),([74,117,108]:Str),([65,117,103]:Str),([83,101,112]:Str),([79,99,116]:Str),([78,111,118]:Str),([68,101,99]:Str)))
def QUa(a0:j0a):Option (Str × zja):=
 (ZEa a0).bind fun v1=>(zna v1.2).bind fun v3=>(bif v3 then some ((([]:Str),v1.2)) else ((bif decide (a0.Zone < 0) then some ((([45]:Str),(w64 (0 - a0.Zone)))) else some ((([43]:Str),a0.Zone))):Option (Str × Int)).bind fun (j6:Str × Int)=>(v7a ((iQuo j6.2 60)) 2).bind fun v8=>(v7a ((iRem j6.2 60)) 2).bind fun v10=>(cat v8 v10).bind fun v12=>(cat j6.1 v12).bind fun v14=>(v7a a0.Hour 2).bind fun v16=>(cat v16 (([58]:Str))).bind fun v18=>(v7a a0.Minute 2).bind fun v20=>(cat v18 v20).bind fun v22=>(cat v22 (([58]:Str))).bind fun v24=>(v7a a0.Second 2).bind fun v26=>(cat v24 v26).bind fun v28=>(jIa).bind fun v30=>(idx ([v30.1,v30.2.1,v30.2.2.1,v30.2.2.2.1,v30.2.2.2.2.1,v30.2.2.2.2.2.1,v30.2.2.2.2.2.2]:List Str) v1.1).bind fun v32=>(cat v32 (([44]:Str))).bind fun v34=>(v7a a0.Day 2).bind fun v36=>(Ksa).bind fun v38=>(idx ([v38.1,v38.2.1,v38.2.2.1,v38.2.2.2.1,v38.2.2.2.2.1,v38.2.2.2.2.2.1,v38.2.2.2.2.2.2.1,v38.2.2.2.2.2.2.2.1,v38.2.2.2.2.2.2.2.2.1,v38.2.2.2.2.2.2.2.2.2.1,v38.2.2.2.2.2.2.2.2.2.2.1,v38.2.2.2.2.2.2.2.2.2.2.2]:List Str) ((w64 (a0.Month - 1)))).bind fun v40=>(v7a a0.Year 4).bind fun v42=>(vPa (([v34,v36,v40,v42,v28,v14]:List Str)) (([32]:Str))).bind fun v44=>(zva).bind fun v46=>some ((v44,v46)))
def kma(s t:Str):Option (Str × Bool):=if s.length<=9223372036854775807 then some (Lib.trimSuffix s t,Lib.hasSuffix s t) else none
def wWa(a0:Str)(a1:Int):Option (Int × Bool):=
 (qva a0).bind fun v1=>((bif v1.2 then some true else (zJa v1.1).bind fun v5=>(bif (v5 !=a0) then some true else (bif decide (v1.1 < 0) then some true else some (decide (a1 < v1.1))))):Option Bool).bind fun (j3:Bool)=>(bif j3 then some ((0,false)) else some ((v1.1,true)))
theorem Zaa{u:Nat}(h:u < 10):Lib.decDigits u=[UInt8.ofNat (48+u)]:=by rw[Lib.decDigits,dif_pos h]
theorem wlb{u:Nat}(h:¬u < 10):Lib.decDigits u=Lib.decDigits (u / 10)++Lib.decDigits (u % 10):=by
 rw[Lib.decDigits,dif_neg h,Zaa (show u % 10 < 10 by omega)]
theorem Yba:∀(k u:Nat),u < 10 ^ (k+1)->(Lib.decDigits u).length<=k+1
 | 0,u,h=>by rw[Zaa (by simpa using h)];simp
 | k+1,u,h=>by
  by_cases h10:u < 10
  .rw[Zaa h10];simp
  have:=Yba k (u / 10) (by rw[Nat.pow_succ]at h;omega);rw[wlb h10,Zaa (show u % 10 < 10 by omega)];simp;omega
theorem iQuo10{u:Nat}(h:u<=9223372036854775807):iQuo (u:Int) 10=((u / 10:Nat):Int):=by
 unfold iQuo;rw[Int.tdiv_eq_ediv_of_nonneg (by omega),vna (by omega) (by omega)];omega
theorem iRem10(u:Nat):iRem (u:Int) 10=((u % 10:Nat):Int):=by
 unfold iRem;rw[Int.tmod_eq_emod_of_nonneg (by omega)];omega
theorem jRb:∀u:Fin 10,cut ([48,49,50,51,52,53,54,55,56,57]:Str) (u.val:Int) (w64 ((u.val:Int)+1))=some [UInt8.ofNat (48+u.val)]:=by decide
theorem kxa{f g:Int->Option Str}(hf:∀n:Int,f n=bif decide (n < 10) then (cut ([48,49,50,51,52,53,54,55,56,57]:Str) n (w64 (n+1))).bind fun v2=>some v2 else (g (iQuo n 10)).bind fun v4=>(g (iRem n 10)).bind fun v6=>(cat v4 v6).bind fun v8=>some v8)
 (k:Nat) (hk:k<=17) (hg:∀u:Nat,u < 10 ^ k->1<=k->g (u:Int)=some (Lib.decDigits u)) (u:Nat) (hu:u < 10 ^ (k+1)):f (u:Int)=some (Lib.decDigits u):=by
 have hp:10 ^ (k+1)<=10 ^ 18:=Nat.pow_le_pow_right (by omega) (by omega);rw[hf];by_cases h10:u < 10
 .rw[decide_eq_true (by omega:(u:Int) < 10),cond_true,jRb ⟨u,h10⟩,Zaa h10];rfl
 have hk1:1<=k:=by
  rcases Nat.eq_zero_or_pos k with rfl | h
  .simp at hu;omega
  exact h
 have h9:10 ^ 1<=10 ^ k:=Nat.pow_le_pow_right (by omega) hk1;rw[decide_eq_false (by omega:¬(u:Int) < 10),cond_false,iQuo10 (by omega),iRem10,hg _ (by rw[Nat.pow_succ]at hu;omega) hk1,hg _ (by omega) hk1,wlb h10];have h1:=Yba 17 (u / 10) (by omega);have h2:=Yba 17 (u % 10) (by omega);simp only[jAc];rw[JWa (by omega)];rfl
theorem vCb(u:Nat)(h:u < 10 ^ 12):Qea (u:Int)=some (Lib.decDigits u):=by
 have h1:=kxa (f:=yPa) (g:=yOa) (fun _=>rfl) 0 (by omega) (fun _ _ h=>by omega);have h2:=kxa (f:=yQa) (fun _=>rfl) 1 (by omega) (fun u hu _=>h1 u hu);have h3:=kxa (f:=yRa) (fun _=>rfl) 2 (by omega) (fun u hu _=>h2 u hu);have h4:=kxa (f:=ySa) (fun _=>rfl) 3 (by omega) (fun u hu _=>h3 u hu);have h5:=kxa (f:=yTa) (fun _=>rfl) 4 (by omega) (fun u hu _=>h4 u hu);have h6:=kxa (f:=yUa) (fun _=>rfl) 5 (by omega) (fun u hu _=>h5 u hu);have h7:=kxa (f:=yVa) (fun _=>rfl) 6 (by omega) (fun u hu _=>h6 u hu);have h8:=kxa (f:=yWa) (fun _=>rfl) 7 (by omega) (fun u hu _=>h7 u hu);have h9:=kxa (f:=yXa) (fun _=>rfl) 8 (by omega) (fun u hu _=>h8 u hu);have h10:=kxa (f:=wTa) (fun _=>rfl) 9 (by omega) (fun u hu _=>h9 u hu);have h11:=kxa (f:=wUa) (fun _=>rfl) 10 (by omega) (fun u hu _=>h10 u hu);exact kxa (f:=Qea) (fun _=>rfl) 11 (by omega) (fun u hu _=>h11 u hu) u h
theorem Kta(u:Nat)(h:u<=9223372036854775807):zJa (u:Int)=some (Lib.decDigits u):=by
 unfold zJa;rw[if_pos (by omega),Lib.itoa_nonneg]
def qDa(a0:zda):Option ((List UInt8) × zja):=
 (zOa a0).bind fun v1=>(zna v1).bind fun v3=>(bif v3 then some (([],v1)) else (vda a0).bind fun v6=>(zva).bind fun v8=>some ((v6,v8)))
def k5b(a0:List Int)(a1:List Int)(s2:Int):Option (Step Int (Unit ⊕ Bool)):=
 (bif decide (s2 < (a0.length:Int)) then (idx a0 s2).bind fun v8=>(idx a1 s2).bind fun v10=>(bif (v8 !=v10) then some (.out (.inr false)) else some (.cont (w64 (s2+1)))) else some (.out (.inl (()))))
def jSb(a0:List Int)(a1:List Int):Option Bool:=
 (bif ((a0.length:Int) !=(a1.length:Int)) then some false else (iter (k5b a0 a1) 0).bind (Sum.elim (fun b3=>some true) (fun b4=>some b4)))
def kea(c:UInt8):UInt8:=if c=0∨c=13 then 32 else c
def zLa(s:Str):Option Str:=if s.length<=4611686018427387904 then some (s.map kea) else none
def J3a(t:Str):Bool:=t.all fun b=>decide (b.toNat < 128)
def wXa(s t:Str):Option Str:=if s.length<=9223372036854775807/\t.length < 4294967281/\J3a t=true then some (Lib.trimS s t) else none
def kna(s t:Str):Option Str:=if s.length<=9223372036854775807/\t.length < 4294967281/\J3a t=true then some (Lib.trimRightS s t) else none
def qsa(l:List UInt8)(c:UInt8):Option Int:=some (Lib.indexByte l c)
def kya(a0:List UInt8)(a1:List UInt8):Option (List UInt8):=
 (kNa a0 a1).bind fun v1=>(bif v1 then (cut a0 0 ((w64 ((a0.length:Int) - (a1.length:Int))))).bind fun v4=>some v4 else some a0)
def yYa(a0:List UInt8):Option (Str × Int):=
 (qsa a0 ((10:UInt8))).bind fun v1=>(bif decide (v1 < 0) then some ((a0,(a0.length:Int))) else (cut a0 0 v1).bind fun v4=>(kya v4 (([(13:UInt8)]:List UInt8))).bind fun v6=>some ((v6,(w64 (v1+1)))))
def v8a(a0:Str):Option (zba × Bool):=
 (k8a a0 (([58]:Str))).bind fun v1=>(kna v1.1 (([32,9]:Str))).bind fun v3=>((bif v1.2.2 then (vGa v3).bind fun v7=>some v7 else some false):Option Bool).bind fun (j5:Bool)=>some (((zba.mk v3 v1.2.1),j5))
def vsa(a0:List UInt8)(s4:Int × (List zba)):Option (Step (Int × (List zba)) (Int × (List zba))):=
 (bif decide (s4.1 < (a0.length:Int)) then (cut a0 s4.1 ((a0.length:Int))).bind fun v8=>(yYa v8).bind fun v10=>(bif (v10.1==([]:Str)) then some (.out (((w64 (s4.1+v10.2)),s4.2))) else ((idx v10.1 0).bind fun v14=>(qAa v14).bind fun v16=>(bif v16 then some (decide (0 < (s4.2.length:Int))) else some false):Option Bool).bind fun (j13:Bool)=>(bif j13 then (idx s4.2 ((w64 ((s4.2.length:Int) - 1)))).bind fun v20=>(idx s4.2 ((w64 ((s4.2.length:Int) - 1)))).bind fun v22=>(cat v22.Value v10.1).bind fun v24=>(idx s4.2 ((w64 ((s4.2.length:Int) - 1)))).bind fun v26=>(idx s4.2 ((w64 ((s4.2.length:Int) - 1)))).bind fun v28=>some (.cont ((w64 (s4.1+v10.2)),(List.set s4.2 (Int.toNat ((w64 ((s4.2.length:Int) - 1)))) ((zba.mk v28.Name v24))))) else (v8a v10.1).bind fun v30=>(bif (!v30.2) then some (.out ((s4.1,s4.2))) else (app 4398046511104 s4.2 (([v30.1]:List zba))).bind fun v33=>some (.cont ((w64 (s4.1+v10.2)),v33))))) else some (.out ((s4.1,s4.2))))
def vta(b5:Int × (List zba))(s38:Int × (List zba)):Option (Step (Int × (List zba)) ((List zba) ⊕ ((List zba) × Int × zja))):=
 (bif decide (s38.1 < (b5.2.length:Int)) then (idx s38.2 s38.1).bind fun v44=>(idx s38.2 s38.1).bind fun v46=>(zLa v46.Value).bind fun v48=>(wXa v48 (([32,9]:Str))).bind fun v50=>(bif decide (4000 < (v50.length:Int)) then (zla 1 s38.1).bind fun v53=>some (.out (.inr (([],0,v53)))) else (idx s38.2 s38.1).bind fun v55=>(idx s38.2 s38.1).bind fun v57=>some (.cont ((w64 (s38.1+1)),(List.set s38.2 (Int.toNat s38.1) ((zba.mk v57.Name v50)))))) else some (.out (.inl s38.2)))
def vIa(a0:List UInt8):Option ((List zba) × Int × zja):=
 (bif decide (12000 < (a0.length:Int)) then (zla 1 ((-1))).bind fun v2=>some (([],0,v2)) else (iter (vsa a0) ((0,([]:List zba)))).bind fun b5=>(bif decide (60 < (b5.2.length:Int)) then (zla 2 ((-2))).bind fun v36=>some (([],0,v36)) else (iter (vta b5) ((0,b5.2))).bind (Sum.elim (fun b39=>(zva).bind fun v59=>some ((b39,b5.1,v59))) (fun b40=>some ((b40.1,b40.2.1,b40.2.2))))))
def qMa(a0:List UInt8)(s1:Int × (List UInt8)):Option (Step (Int × (List UInt8)) (List UInt8)):=
 (bif decide (s1.1 < (a0.length:Int)) then (((idx a0 s1.1).bind fun v7=>(bif ((v7.toNat:Int)==13) then (bif decide ((w64 (s1.1+1)) < (a0.length:Int)) then (idx a0 ((w64 (s1.1+1)))).bind fun v11=>some (((v11.toNat:Int)==10)) else some false) else some false):Option Bool).bind fun (j6:Bool)=>(bif j6 then (app 140737488355328 s1.2 (([(13:UInt8),(10:UInt8)]:List UInt8))).bind fun v14=>some (((w64 (s1.1+1)),v14)) else ((idx a0 s1.1).bind fun v17=>(bif ((v17.toNat:Int)==13) then some true else (idx a0 s1.1).bind fun v20=>some (((v20.toNat:Int)==10))):Option Bool).bind fun (j16:Bool)=>(bif j16 then (app 140737488355328 s1.2 (([(13:UInt8),(10:UInt8)]:List UInt8))).bind fun v23=>some ((s1.1,v23)) else (idx a0 s1.1).bind fun v25=>(app 140737488355328 s1.2 (([v25]:List UInt8))).bind fun v27=>some ((s1.1,v27)))):Option (Int × (List UInt8))).bind fun (j5:Int × (List UInt8))=>some (.cont ((w64 (j5.1+1)),j5.2)) else some (.out s1.2))
def v9a(a0:List UInt8):Option (List UInt8):=
 (iter (qMa a0) ((0,([]:List UInt8)))).bind fun b2=>some b2
def wYa(a0:List UInt8):Option (zda × zja):=
 (vIa a0).bind fun v1=>(zna v1.2.2).bind fun v3=>(bif v3 then some (((zda.mk ([]) ([])),v1.2.2)) else (cut a0 v1.2.1 ((a0.length:Int))).bind fun v6=>(v9a v6).bind fun v8=>(zOa ((zda.mk v1.1 v8))).bind fun v10=>(zna v10).bind fun v12=>(bif v12 then some (((zda.mk ([]) ([])),v10)) else (zva).bind fun v15=>some (((zda.mk v1.1 v8),v15))))
def yoa(a0:List UInt8)(s1:Int):Option (Step Int (Unit ⊕ (Str × Int))):=
 (bif decide (s1 < (a0.length:Int)) then (idx a0 s1).bind fun v7=>(bif ((v7.toNat:Int) !=10) then some (.cont (w64 (s1+1))) else ((bif decide (0 < s1) then (idx a0 ((w64 (s1 - 1)))).bind fun v12=>some (((v12.toNat:Int)==13)) else some false):Option Bool).bind fun (j10:Bool)=>(bif j10 then (cut a0 0 ((w64 (s1 - 1)))).bind fun v15=>some (.out (.inr ((v15,(w64 (s1+1)))))) else (cut a0 0 s1).bind fun v17=>some (.out (.inr ((v17,(w64 (s1+1)))))))) else some (.out (.inl (()))))
def Zba(a0:List UInt8):Option (Str × Int):=
 (iter (yoa a0) 0).bind (Sum.elim (fun b2=>some ((a0,(a0.length:Int)))) (fun b3=>some ((b3.1,b3.2))))
def vQa(a0:Str)(s1:Int × (List UInt8)):Option (Step (Int × (List UInt8)) (List UInt8)):=
 (bif decide (s1.1 < (a0.length:Int)) then (idx a0 s1.1).bind fun v5=>(((bif ((v5.toNat:Int)==0) then some true else some (((v5.toNat:Int)==13))):Option Bool).bind fun (j8:Bool)=>(bif j8 then some ((32:UInt8)) else some v5):Option UInt8).bind fun (j7:UInt8)=>(app 140737488355328 s1.2 (([j7]:List UInt8))).bind fun v11=>some (.cont ((w64 (s1.1+1)),v11)) else some (.out s1.2))
def wZa(s13:List UInt8):Option (Step (List UInt8) (List UInt8)):=
 ((bif decide (0 < (s13.length:Int)) then (idx s13 0).bind fun v18=>(qTa v18).bind fun v20=>some v20 else some false):Option Bool).bind fun (j16:Bool)=>(bif j16 then (cut s13 1 ((s13.length:Int))).bind fun v23=>some (.cont v23) else some (.out s13))
def w0a(s26:List UInt8):Option (Step (List UInt8) (List UInt8)):=
 ((bif decide (0 < (s26.length:Int)) then (idx s26 ((w64 ((s26.length:Int) - 1)))).bind fun v31=>(qTa v31).bind fun v33=>some v33 else some false):Option Bool).bind fun (j29:Bool)=>(bif j29 then (cut s26 0 ((w64 ((s26.length:Int) - 1)))).bind fun v36=>some (.cont v36) else some (.out s26))
def Kua(a0:Str):Option Str:=
 (iter (vQa a0) ((0,([]:List UInt8)))).bind fun b2=>(iter (wZa) b2).bind fun b14=>(iter (w0a) b14).bind fun b27=>some b27
def yza(a0:Str)(s10:Int):Option (Step Int Int):=
 ((bif decide (0 < s10) then (idx a0 ((w64 (s10 - 1)))).bind fun v15=>(qTa v15).bind fun v17=>some v17 else some false):Option Bool).bind fun (j13:Bool)=>(bif j13 then some (.cont (w64 (s10 - 1))) else some (.out s10))
def Qfa(a0:Str)(s1:Int):Option (Step Int (Unit ⊕ (Str × Str))):=
 (bif decide (s1 < (a0.length:Int)) then (idx a0 s1).bind fun v7=>(bif ((v7.toNat:Int) !=58) then some (.cont (w64 (s1+1))) else (iter (yza a0) s1).bind fun b11=>(cut a0 0 b11).bind fun v20=>(wqa ((zba.mk v20 (([]:Str))))).bind fun v22=>(bif (v22==0) then (cut a0 0 b11).bind fun v25=>(cut a0 ((w64 (s1+1))) ((a0.length:Int))).bind fun v27=>some (.out (.inr ((v25,v27)))) else some (.out (.inr ((([]:Str),([]:Str))))))) else some (.out (.inl (()))))
def YMa(a0:Str):Option (Str × Str):=
 (iter (Qfa a0) 0).bind (Sum.elim (fun b2=>some ((([]:Str),([]:Str)))) (fun b3=>some ((b3.1,b3.2))))
def vua(a0:List UInt8)(s1:Int × (List zba)):Option (Step (Int × (List zba)) (Int × (List zba))):=
 (bif decide (s1.1 < (a0.length:Int)) then (cut a0 s1.1 ((a0.length:Int))).bind fun v5=>(Zba v5).bind fun v7=>(bif (v7.1==([]:Str)) then some (.out (((w64 (s1.1+v7.2)),s1.2))) else ((idx v7.1 0).bind fun v11=>(qTa v11).bind fun v13=>(bif v13 then some (((w64 ((s1.2.length:Int) - 1)),decide (0<=(w64 ((s1.2.length:Int) - 1))))) else some (((w64 ((s1.2.length:Int) - 1)),false))):Option (Int × Bool)).bind fun (j10:Int × Bool)=>(bif j10.2 then (idx s1.2 j10.1).bind fun v17=>(idx s1.2 j10.1).bind fun v19=>(cat v19.Value v7.1).bind fun v21=>(idx s1.2 j10.1).bind fun v23=>(idx s1.2 j10.1).bind fun v25=>some (.cont ((w64 (s1.1+v7.2)),(List.set s1.2 (Int.toNat j10.1) ((zba.mk v25.Name v21))))) else (YMa v7.1).bind fun v27=>(bif (v27.1==([]:Str)) then some (.out ((s1.1,s1.2))) else (app 4398046511104 s1.2 (([(zba.mk v27.1 v27.2)]:List zba))).bind fun v30=>some (.cont ((w64 (s1.1+v7.2)),v30))))) else some (.out ((s1.1,s1.2))))
def vva(s33:Int × (List zba)):Option (Step (Int × (List zba)) (List zba)):=
 (bif decide (s33.1 < (s33.2.length:Int)) then (idx s33.2 s33.1).bind fun v37=>(idx s33.2 s33.1).bind fun v39=>(Kua v39.Value).bind fun v41=>(idx s33.2 s33.1).bind fun v43=>(idx s33.2 s33.1).bind fun v45=>some (.cont ((w64 (s33.1+1)),(List.set s33.2 (Int.toNat s33.1) ((zba.mk v45.Name v41))))) else some (.out s33.2))
def qSa(a0:List UInt8)(s47:Int × (List UInt8)):Option (Step (Int × (List UInt8)) (List UInt8)):=
 (bif decide (s47.1 < (a0.length:Int)) then (((idx a0 s47.1).bind fun v53=>(bif ((v53.toNat:Int)==13) then some true else (idx a0 s47.1).bind fun v56=>some (((v56.toNat:Int)==10))):Option Bool).bind fun (j52:Bool)=>(bif j52 then (app 140737488355328 s47.2 (([(13:UInt8),(10:UInt8)]:List UInt8))).bind fun v59=>(((idx a0 s47.1).bind fun v63=>(bif ((v63.toNat:Int)==13) then (bif decide ((w64 (s47.1+1)) < (a0.length:Int)) then (idx a0 ((w64 (s47.1+1)))).bind fun v67=>some (((v67.toNat:Int)==10)) else some false) else some false):Option Bool).bind fun (j62:Bool)=>(bif j62 then some ((w64 (s47.1+1))) else some s47.1):Option Int).bind fun (j61:Int)=>some ((j61,v59)) else (idx a0 s47.1).bind fun v70=>(app 140737488355328 s47.2 (([v70]:List UInt8))).bind fun v72=>some ((s47.1,v72))):Option (Int × (List UInt8))).bind fun (j51:Int × (List UInt8))=>some (.cont ((w64 (j51.1+1)),j51.2)) else some (.out s47.2))
def wsa(a0:List UInt8):Option (zda × Bool):=
 (iter (vua a0) ((0,([]:List zba)))).bind fun b2=>(bif decide (60 < (b2.2.length:Int)) then some (((zda.mk ([]) ([])),false)) else (iter (vva) ((0,b2.2))).bind fun b34=>(iter (qSa a0) ((b2.1,([]:List UInt8)))).bind fun b48=>(qPa ((zda.mk b34 b48))).bind fun v74=>(bif (v74.Code !=0) then some (((zda.mk ([]) ([])),false)) else some (((zda.mk b34 b48),true))))
def kja(a0:List UInt8):Option (List UInt8):=
 (nilE a0.isEmpty (some ([])) ((app 140737488355328 ([]:List UInt8) a0).bind fun v2=>some v2))
def vCa(s t:Str):Option Str:=if s.length<=9223372036854775807/\t.length < 4294967281/\J3a t=true then some (Lib.trimLeftS s t) else none
def kva(s:Str):Option Bool:=if s.length<=4611686018427387904 then some (Lib.validD s) else none
def jJa(s:ByteArray):Nat->Nat->Option Nat
 | 0,_=>none
 | f+1,pos=>if pos < s.size then (if (Utf8.decode s pos).1=65533/\(Lib.decodeGo (s.extract pos s.size)).2=1 then some pos else jJa s f (pos+(Utf8.decode s pos).2)) else none
def Zca(s rep:ByteArray):Nat->Bool->Nat->List UInt8
 | 0,_,_=>[]
 | f+1,inv,i=>if i < s.size then (if (s.get! i).toNat < 128 then s.get! i::Zca s rep f false (i+1) else if (Lib.decodeGo (s.extract i s.size)).2=1 then (if inv then [] else rep.data.toList)++Zca s rep f true (i+1) else (s.extract i (i+(Lib.decodeGo (s.extract i s.size)).2)).data.toList++Zca s rep f false (i+(Lib.decodeGo (s.extract i s.size)).2)) else []
def tvB(s rep:ByteArray):List UInt8:=match jJa s s.size 0 with
 | none=>s.data.toList
 | some i=>(s.extract 0 i).data.toList++Zca (s.extract i s.size) rep s.size false 0
def qEa(s rep:Str):Option Str:=if s.length<=1099511627776/\rep.length<=3 then some (tvB (strB s) (strB rep)) else none
end Go.Proofs.YthbbeodmpnmopaaGreatDoor
