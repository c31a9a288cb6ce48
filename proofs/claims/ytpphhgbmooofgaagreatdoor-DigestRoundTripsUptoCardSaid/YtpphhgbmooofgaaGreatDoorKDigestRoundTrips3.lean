/- Part 3 of the proof of the law DigestRoundTrips: what it needs. -/
import Derived.Test.YtpphhgbmooofgaaGreatDoorKDigestRoundTrips2
import Derived.Laws.MakeOwn
import Derived.Test.YtpphhgbmooofgaaGreatDoorProg
import Derived.Lib.IndexMore
import Derived.Lib.IndexAny
import Derived.Lib.Atoi
import Derived.Lib.Join
import Derived.Lib.Repeat
import Derived.Lib.Split
import Derived.Lib.FieldsP
import Derived.Lib.Strings
import Derived.Shelf.Strings.SlTrimAscii
import Derived.Laws.RangeAny
set_option linter.unusedVariables false
set_option linter.unusedSimpArgs false
noncomputable section
set_option maxRecDepth 100000
set_option maxHeartbeats 40000000
namespace Go.Proofs.YtpphhgbmooofgaaGreatDoor
open Go.RowKit Go.Proofs.Tryz
section
theorem Sto.get_mem{σ:Sto}{o:Nat}{ob:AO}(h:σ.get o=some ob):(o,ob)∈σ:=by
 induction σ with
 | nil=>simp[Sto.get]at h
 | cons x s ih=>
  obtain ⟨k,a⟩:=x;rw[Sto.get_cons]at h;split at h
  .rename_i hk;cases h;subst hk;exact jDi
  exact jCx _ (ih h)
theorem Sto.get_append(s1 s2:Sto)(o:Nat):Sto.get (s1++s2) o=(Sto.get s1 o).or (Sto.get s2 o):=by
 induction s1 with
 | nil=>simp[Sto.get]
 | cons x s ih=>
  obtain ⟨k,a⟩:=x;rw[List.cons_append,Sto.get_cons,Sto.get_cons,ih];split <;> rfl
theorem vrb{l:List Nat}{a:Nat}(h:l.contains a=true):a∈l:=by simpa using h
def AV.okS(rows:List Nat):AV->Bool
 | .pv _=>true
 | .hs r _=>rows.contains r
 | _=>false
def AO.okS(rows:List Nat):AO->Bool
 | .cells cs=>cs.all (AV.okS rows)
 | .row _ _ _ _=>true
 | .opq _ _ _=>true
 | _=>false
def Sto.okS(O:Nat)(rows:List Nat)(σ:Sto):Bool:=σ.all fun p=>(Nat.beq p.1 O || rows.contains p.1) && p.2.okS rows
theorem AV.okS_has{rows:List Nat}{c:AV}{k:Nat}(h:c.okS rows=true)(hk:c.has k=true):k∈rows:=by
 unfold AV.okS at h;split at h
 .simp[AV.has]at hk
 .have:=jAi hk;subst this;exact vrb h
 cases h
theorem AV.hasL_mem{k:Nat}{cs:List AV}(h:AV.hasL k cs=true):∃c∈cs,c.has k=true:=by
 induction cs with
 | nil=>simp[AV.hasL]at h
 | cons c cs ih=>
  unfold AV.hasL at h;simp only[jBk]at h;rcases h with h | h
  .exact ⟨c,jDi,h⟩
  obtain ⟨d,hd,h⟩:=ih h;exact ⟨d,jCx _ hd,h⟩
theorem AO.okS_has{rows:List Nat}{ob:AO}{k:Nat}(h:ob.okS rows=true)(hk:ob.has k=true):k∈rows:=by
 cases ob with
 | cells cs=>
  obtain ⟨c,hc,hck⟩:=AV.hasL_mem hk;exact AV.okS_has (jAp.1 h c hc) hck
 | row=>simp[AO.has]at hk
 | opq=>simp[AO.has]at hk
 | _=>cases h
theorem Sto.okS_get{O:Nat}{rows:List Nat}{σ:Sto}(h:σ.okS O rows=true){o:Nat}{ob:AO}(ho:σ.get o=some ob):(o=O∨o∈rows)/\ob.okS rows=true:=by
 have:=jAp.1 h _ (Sto.get_mem ho);simp only[jAk,jBk]at this;exact ⟨this.1.imp jAi vrb,this.2⟩
structure Own (g:G) (σ:Sto):Prop where
 obj:∀o ob,σ.get o=some ob->RelO g o ob
 apart:∀o o' ob ob' b,σ.get o=some ob->σ.get o' =some ob' ->ob.own (g.loc o) b->ob'.own (g.loc o') b->o=o'
 low:∀o ob b,σ.get o=some ob->ob.own (g.loc o) b->¬GlB b
def SB(g:G)(σ:Sto)(b:Nat):Prop:=∃o ob,σ.get o=some ob/\ob.own (g.loc o) b
structure RunS (P:Program) (f:FuncId) (args:List AV) (σ0:Sto) (r:AV) (σ1:Sto) (O:Nat) (rows:List Nat):Prop where
 ok:∃fn c,FnOk P f fn c
 ok0:σ0.okS O rows=true
 ok1:σ1.okS O rows=true
 run:∀g vs,Wf g->Gl g->Own g σ0->yJa g args vs->CallsIn (fen none) 0 P f vs g.w fun e w' =>∃g' v,g'.w=w' /\(∀k,k ∉ rows->g'.loc k=g.loc k)/\Old (SB g σ0) g g' /\Wf g' /\e=.returned v/\Rel g' r v/\
  (∀o ob,σ1.get o=some ob->RelO g' o ob)/\(∀o o' ob ob' b,σ1.get o=some ob->σ1.get o' =some ob' ->ob.own (g'.loc o) b->ob'.own (g'.loc o') b->o=o')/\
  (∀o ob b,σ1.get o=some ob->ob.own (g'.loc o) b->g.w.heap.size<=b∨SB g σ0 b)
variable {P:Program} {σ:Sto} {dst:Option Tmp} {ty:TypeId} {pos:String} {af:Array Edge} {gu:Option (Nat × Bool)} {E:Env} {fr:Fr} {K:Post}
theorem wab{g g' :G}{o:Nat}{ob:AO}{rows:List Nat}(hk:ob.okS rows=true)(h:RelO g o ob)(hx:Ext0 g.w g.u g'.w g'.u)(hl:g'.loc o=g.loc o)(hh:∀k∈rows,g'.loc k=g.loc k)
 (hb:∀(b:Nat) (vs:Array Value) (t:TypeId) (fz:Nat × Nat),g.w.heap[b]? =some (Obj.cells vs t fz)->g'.w.heap[b]? =g.w.heap[b]?) (hu:g'.u=g.u):RelO g' o ob:=by
 cases h with
 | @cells cs b t vs h1 h2 h3 h4 h5 h6=>
  exact .cells (hl.trans h1) ((hb _ _ _ _ h2).trans h2) h3 (by rw[hu];exact h4) h5 fun i c hi=>(h6 i c hi).mono0 hx fun k hck=>hh k (AV.okS_has (jAp.1 hk c (jAf hi)) hck)
 | nil h1=>exact .nil (hl.trans h1)
 | @row e mu size elems b off cap vs h1 h2 h3 h3' h4 h5 h6 h7 h9=>
  exact .row (hl.trans h1) ((hb _ _ _ _ h2).trans h2) h3 h3' h4 h5 (by rw[hu];exact h6) (by rw[hu];exact h7) fun i j x c hi hj=>(h9 i j x c hi hj).mono0 hx
 | @opq t t1 n Q b vs h1 h2 h3 h4 h5=>exact .opq (hl.trans h1) ((hb _ _ _ _ h2).trans h2) h3 (by rw[hu];exact h4) fun w' u' hx' =>h5 w' u' (hx.trans hx')
 | _=>cases hk
def zRb(P:Program)(fn:Func)(r hc:AV)(H:Nat)(T:Array Value)(σ1:Sto):Post:=fun e fr σ=>(e=.ret∨e=.normal)/\(∃cs,ResL P fr σ fn.results.toList cs/\WAa cs=r)/\kka σ ((H,.hold hc (T.getD 0 undef))::σ1)
theorem wbb{fn:Func}{r hc:AV}{H:Nat}{T:Array Value}{σ1:Sto}:Mono (zRb P fn r hc H T σ1):=fun x fr σ fr' σ' hf hs ⟨h1,⟨cs,h2,h2'⟩,h3⟩=>⟨h1,⟨cs,h2.le hf hs,h2'⟩,qha hs h3⟩
theorem zSb{f:FuncId}{fn:Func}{c:Code}(hok:FnOk P f fn c){args:List AV}{r hc:AV}{σ0 σ1:Sto}{O H:Nat}{rows:List Nat}(hN:Nat.ble args.length fn.ntmps=true)(hr:∀k,r.has k=true->k∈rows)
 (h0:(args[0]? =some hc/\∀(g g' :G) (v:Value) (ob:AO),(∀o ob,σ0.get o=some ob->RelO g o ob)->σ1.get O=some ob->RelO g' O ob->Rel g hc v->Rel g' hc v->g'.loc O=g.loc O)∨(hc=.any/\Sto.get σ1 O=none))
 (k0:σ0.okS O rows=true) (k1:σ1.okS O rows=true) (hH:Sto.get σ0 H=none) (hH1:Sto.get σ1 H=none)
 (h:∀g0 (hg:Gl g0) (S:Nat->Prop) (sg:∀k,GlB k->¬S k) (T:Array Value),AWP ⟨P,none,g0,fn.ntmps,false,hg,S,sg⟩ c (kwa 0 args) ((H,.hold hc (T.getD 0 undef))::σ0) (zRb P fn r hc H T σ1)):RunS P f args σ0 r σ1 O rows:=by
 refine ⟨⟨fn,c,hok⟩,k0,k1,fun g vs hw hgl hown ⟨hsz,ha⟩=>?_⟩;have hN:=jAd hN;have hget0:∀o ob,Sto.get ((H,AO.hold hc (vs.getD 0 undef))::σ0) o=some ob->(o=H/\ob=.hold hc (vs.getD 0 undef))∨(o≠H/\σ0.get o=some ob):=by
  intro o ob ho;rw[Sto.get_cons]at ho;split at ho
  .rename_i hk;cases ho;exact .inl ⟨hk.symm,rfl⟩
  rename_i hk;exact .inr ⟨Ne.symm hk,ho⟩
 refine callsIn_of_wp_marks hok.f hok.b trivial<|wpIn_mono ((h g hgl (SB g σ0) (fun k hk ⟨o,ob,h1,h2⟩=>hown.low o ob k h1 h2 hk) vs).go g _ ⟨fun d=>?_,by simp;omega,⟨Dok.nil _ _,fun _=>rfl⟩,⟨?_,?_,?_,Old.refl _ g,hw⟩⟩) ?_
 .rw[wfa];simp only[jBz,if_true,Nat.sub_zero];cases hc:args[d]? with
  | none=>exact .any _
  | some c=>
   have hlt:d < vs.size:=by rw[hsz];exact (jAc.1 hc).1
   have:=ha d c hc;rw[jAe,jBf hlt,<-jAe];exact this
 .intro o ob ho;rcases hget0 o ob ho with ⟨rfl,rfl⟩ | ⟨_,ho⟩
  .rcases h0 with ⟨h0,_⟩ | ⟨rfl,_⟩
   .exact .hold (ha 0 _ h0)
   exact .hold (.any _)
  exact hown.obj o ob ho
 .intro o o' ob ob' b h1 h2 h3 h4;rcases hget0 o ob h1 with ⟨rfl,rfl⟩ | ⟨_,h1⟩
  .cases h3
  rcases hget0 o' ob' h2 with ⟨rfl,rfl⟩ | ⟨_,h2⟩
  .cases h4
  exact hown.apart o o' ob ob' b h1 h2 h3 h4
 .intro o ob b h1 h2;rcases hget0 o ob h1 with ⟨rfl,rfl⟩ | ⟨_,h1⟩
  .cases h2
  exact .inr ⟨o,ob,h1,h2⟩
 rintro e a w' ⟨g',fr',σ',rfl,hst,he,⟨cs,hres,rfl⟩,hle⟩;obtain ⟨bs,hds,hnd,hbs⟩:=hst.df.ok;have hle1:∀o ob,σ1.get o=some ob->∃ob',σ'.get o=some ob' /\RelO g' o ob/\∀l,ob.own l=ob'.own l:=by
  intro o ob ho;have hne:o≠H:=by rintro rfl;rw[hH1]at ho;cases ho
  have hg:Sto.get ((H,AO.hold hc (vs.getD 0 undef))::σ1) o=some ob:=by rw[Sto.get_cons,if_neg (Ne.symm hne)];exact ho
  obtain ⟨ob',h1,h2⟩:=hle.some hg;exact ⟨ob',h1,hle.obj hst.so.obj o ob hg,fun l=>(h2 l).symm⟩
 have hO:(∃ob,σ1.get O=some ob)->g'.loc O=g.loc O:=by
  rintro ⟨ob,hob⟩;rcases h0 with ⟨h0,hloc⟩ | ⟨_,h0⟩
  case inr=>rw[h0]at hob;cases hob
  have hh:=hle H (.hold hc (vs.getD 0 undef)) (by rw[Sto.get_cons,if_pos rfl]);have hh:σ'.get H=some (.hold hc (vs.getD 0 undef)):=by
   rcases hh with hh | ⟨cs,_,hh⟩
   .exact hh
   cases hh
  have h1:=hst.so.obj H _ hh;obtain ⟨_,_,hro,_⟩:=hle1 O ob hob;cases h1 with
  | hold h1=>exact hloc g g' _ ob hown.obj hob hro (ha 0 _ h0) h1
 have key:∀w',Took g'.w bs w' ->∃v,(results fn a.tmps).run P w' =.ok v w' /\∃g'' v',g''.w=w' /\(∀k,k ∉ rows->g''.loc k=g.loc k)/\Old (SB g σ0) g g'' /\Wf g'' /\Ending.returned v=.returned v' /\Rel g'' (WAa cs) v' /\
  (∀o ob,σ1.get o=some ob->RelO g'' o ob)/\(∀o o' ob ob' b,σ1.get o=some ob->σ1.get o' =some ob' ->ob.own (g''.loc o) b->ob'.own (g''.loc o') b->o=o')/\
  (∀o ob b,σ1.get o=some ob->ob.own (g''.loc o) b->g.w.heap.size<=b∨SB g σ0 b):=by
  intro w' ht;have hcellb:∀(k:Nat) (vs:Array Value) (t:TypeId) (fz:Nat × Nat),g'.w.heap[k]? =some (Obj.cells vs t fz)->w'.heap[k]? =g'.w.heap[k]? :=by
   intro k vs t fz hk;refine ht.block k fun hx=>?_
   rw[(hbs k hx).2]at hk;cases hk
  have hx0:Ext0 g'.w g'.u w' g'.u:=⟨jBs ht.size.symm,fun _ _=>jAq _,fun k i hk hi=>by
   by_cases hkb:k∈bs
   .simp[World.cell?,(hbs k hkb).2,ht.took k hkb]
   simp only[World.cell?];rw[ht.block k hkb]⟩
  obtain ⟨v,h1,h2⟩:=KQa (P:=P) (g:=⟨w',g'.u,g'.loc⟩) hres (fun d=>(hst.fr d).mono0 hx0 (fun _ _=>rfl)) (fun k cs' hk=>by
   cases hst.so.obj k _ hk with
   | cells q1 q2 q3 q4 q5 q6=>exact .cells q1 ((hcellb _ _ _ _ q2).trans q2) q3 q4 q5 fun i c hi=>(q6 i c hi).mono0 hx0 (fun _ _=>rfl))
  have hloc:∀o ob,σ1.get o=some ob->(if o∈rows then g'.loc o else g.loc o)=g'.loc o:=by
   intro o ob ho;rcases (Sto.okS_get k1 ho).1 with rfl | hin
   .split
    .rfl
    exact (hO ⟨ob,ho⟩).symm
   rw[if_pos hin]
  refine ⟨v,h1,⟨w',g'.u,fun k=>if k∈rows then g'.loc k else g.loc k⟩,v,rfl,fun k hk=>if_neg hk,⟨ht.os.trans hst.so.old.os,ht.tape.trans hst.so.old.tape,ht.output.trans hst.so.old.output,⟨by rw[ht.size];exact hst.so.old.ext.size,hst.so.old.ext.pub,fun k i hk hi=>?_,fun r' hr' =>?_⟩,fun k hk hs=>?_⟩,fun k hk=>hst.so.wf k (by rw[<-ht.size];exact hk),rfl,
   Rel.mono (g:=⟨w',g'.u,g'.loc⟩) (g' :=⟨w',g'.u,fun k=>if k∈rows then g'.loc k else g.loc k⟩) (Ext.refl w' g'.u) h2 (fun k hk=>if_pos (hr k hk)),?_,?_,?_⟩
  .have hkb:k ∉ bs:=fun hx=>by have:g.w.heap.size<=k:=(hbs k hx).1;omega
   simp only[World.cell?];rw[ht.block k hkb];exact hst.so.old.ext.cell k i hk hi
  .have hkb:r' ∉ bs:=fun hx=>by have:g.w.heap.size<=r' :=(hbs r' hx).1;have:=zNa hr';omega
   rw[ht.block r' hkb];exact hst.so.old.ext.df r' hr'
  .have hkb:k ∉ bs:=fun hx=>by have:g.w.heap.size<=k:=(hbs k hx).1;omega
   rw[ht.block k hkb];exact hst.so.old.block k hk hs
  .intro o ob ho;obtain ⟨_,_,hro,_⟩:=hle1 o ob ho;exact wab (g:=g') (g' :=⟨w',g'.u,fun k=>if k∈rows then g'.loc k else g.loc k⟩) (Sto.okS_get k1 ho).2 hro hx0 (hloc o ob ho) (fun k hk=>if_pos hk) hcellb rfl
  .intro o o' ob ob' b q1 q2 q3 q4;simp only[hloc o ob q1]at q3;simp only[hloc o' ob' q2]at q4;obtain ⟨_,p1,_,e1⟩:=hle1 o ob q1;obtain ⟨_,p2,_,e2⟩:=hle1 o' ob' q2;rw[e1]at q3;rw[e2]at q4;exact hst.so.apart o o' _ _ b p1 p2 q3 q4
  intro o ob b q1 q2;simp only[hloc o ob q1]at q2;obtain ⟨_,p1,_,e1⟩:=hle1 o ob q1;rw[e1]at q2;exact hst.so.mine o _ b p1 q2
 rcases he with rfl | rfl
 .show LeavesInM _ _ _ _ _ _ _ _ _;rw[hds];exact vga bs g'.w hnd (fun r' hr' =>(hbs r' hr').2) key
 show LeavesInM _ _ _ _ _ _ _ _ _;rw[hds];exact vga bs g'.w hnd (fun r' hr' =>(hbs r' hr').2) key
theorem qwb{f:FuncId}{fn:Func}{c:Code}(hok:FnOk P f fn c){args:List AV}{r hc:AV}{σ0 σ1:Sto}{O H:Nat}{rows:List Nat}(hN:Nat.ble args.length fn.ntmps=true)(hr:∀k,r.has k=true->k∈rows)(h0:(hc=.ptr O 0/\args[0]? =some (.ptr O 0))∨(hc=.any/\Sto.get σ1 O=none))
 (k0:σ0.okS O rows=true) (k1:σ1.okS O rows=true) (hH:Sto.get σ0 H=none) (hH1:Sto.get σ1 H=none)
 (h:∀g0 (hg:Gl g0) (S:Nat->Prop) (sg:∀k,GlB k->¬S k) (T:Array Value),AWP ⟨P,none,g0,fn.ntmps,false,hg,S,sg⟩ c (kwa 0 args) ((H,.hold hc (T.getD 0 undef))::σ0) (zRb P fn r hc H T σ1)):RunS P f args σ0 r σ1 O rows:=
 zSb hok hN hr (h0.imp (fun ⟨e,h⟩=>⟨e▸h,fun g g' v ob _ _ _ h1 h2=>by
  subst e;cases h1 with
  | ptr q1=>cases h2 with
   | ptr q2=>exact q2.trans q1.symm⟩) id) k0 k1 hH hH1 h
def Sto.dels(ids:List Nat):Sto->Sto
 | []=>[]
 | (k,a)::l=>bif ids.contains k then Sto.dels ids l else (k,a)::Sto.dels ids l
theorem Sto.get_dels(ids:List Nat)(σ:Sto)(o:Nat):(σ.dels ids).get o=if o∈ids then none else σ.get o:=by
 induction σ with
 | nil=>simp[Sto.dels,Sto.get]
 | cons x l ih=>
  obtain ⟨k,a⟩:=x;unfold Sto.dels;cases hc:ids.contains k with
  | true=>
   have hk:k∈ids:=by simpa using hc
   rw[cond_true,ih,Sto.get_cons];by_cases ho:o∈ids
   .rw[if_pos ho,if_pos ho]
   rw[if_neg ho,if_neg ho,if_neg (by rintro rfl;exact ho hk)]
  | false=>
   have hk:k ∉ ids:=by simpa using hc
   rw[cond_false,Sto.get_cons,Sto.get_cons,ih];by_cases ho:k=o
   .subst ho;simp[hk]
   rw[if_neg ho,if_neg ho]
def AV.clrs(rows:List Nat)(c:AV):AV:=bif rows.any (fun r=>c.has r) then .any else c
def Fr.clrs(rows:List Nat):Fr->Fr
 | []=>[]
 | (k,a)::l=>(k,a.clrs rows)::Fr.clrs rows l
def AO.clrs(rows:List Nat):AO->AO
 | .cells cs=>.cells (cs.map (AV.clrs rows))
 | .hold c v=>.hold (c.clrs rows) v
 | o=>o
def Sto.clrs(rows:List Nat):Sto->Sto
 | []=>[]
 | (k,a)::l=>(k,a.clrs rows)::Sto.clrs rows l
theorem Fr.get_clrs(rows:List Nat)(fr:Fr)(d:Nat):(fr.clrs rows).get d=(fr.get d).clrs rows:=by
 induction fr with
 | nil=>unfold Fr.clrs Fr.get AV.clrs;cases rows.any (fun r=>AV.has r AV.any) <;> rfl
 | cons x l ih=>
  obtain ⟨k,a⟩:=x;simp only[Fr.clrs,Fr.get_cons,ih];split <;> rfl
theorem Sto.get_clrs(rows:List Nat)(σ:Sto)(o:Nat):(σ.clrs rows).get o=(σ.get o).map (AO.clrs rows):=by
 induction σ with
 | nil=>rfl
 | cons x l ih=>
  obtain ⟨k,a⟩:=x;simp only[Sto.clrs,Sto.get_cons,ih];split <;> rfl
theorem Wta{g g' :G}{rows:List Nat}(hx:Ext g.w g.u g'.w g'.u)(hl:∀k,k ∉ rows->g'.loc k=g.loc k){c:AV}{v:Value}(h:Rel g c v):Rel g' (c.clrs rows) v:=by
 unfold AV.clrs;cases hc:rows.any (fun r=>c.has r) with
 | true=>exact .any _
 | false=>exact h.mono hx fun k hk=>hl k fun hin=>jCn.1 hc k hin hk
theorem AO.own_clrs(rows:List Nat)(ob:AO)(l:Loc):(ob.clrs rows).own l=ob.own l:=by cases ob <;> rfl
theorem zTb{g g' :G}{o:Nat}{ob:AO}{rows:List Nat}(hro:RelO g o ob)(hx:Ext g.w g.u g'.w g'.u)(hl:∀k,k ∉ rows->g'.loc k=g.loc k)(ho:o ∉ rows)
 (hb:∀b,ob.own (g.loc o) b->g'.w.heap[b]? =g.w.heap[b]? /\g'.u b=g.u b):RelO g' o (ob.clrs rows):=by
 cases hro with
 | @cells cs b t vs h1 h2 h3 h4 h5 h6=>
  obtain ⟨b1,b2⟩:=hb b (by rw[h1];rfl);refine .cells ((hl o ho).trans h1) (b1.trans h2) (by simpa using h3) (b2.trans h4) h5 fun i c hi=>?_
  simp only[jAj,jAh]at hi;obtain ⟨c',hc',rfl⟩:=hi;exact Wta hx hl (h6 i c' hc')
 | nil h1=>exact .nil ((hl o ho).trans h1)
 | @row e mu size elems b off cap vs h1 h2 h3 h3' h4 h5 h6 h7 h9=>
  obtain ⟨b1,b2⟩:=hb b (by rw[h1];rfl);exact .row ((hl o ho).trans h1) (b1.trans h2) h3 h3' h4 h5 (by rw[b2];exact h6) (by rw[b2];exact h7) fun i j x c hi hj=>(h9 i j x c hi hj).mono hx
 | hold h1=>exact .hold (Wta hx hl h1)
 | sus h1=>exact .sus (h1.mono hx)
 | @lp L b h1 h2=>
  obtain ⟨b1,b2⟩:=hb b (by rw[h1];rfl);exact .lp ((hl o ho).trans h1) (b1.trans h2)
 | @it s pos b h1 h2 h3=>
  obtain ⟨b1,b2⟩:=hb b (by rw[h1];rfl);exact .it ((hl o ho).trans h1) (b1.trans h2) (b2.trans h3)
 | @buf l e b cap vs h1 h2 h3 h4 h5 h6=>
  obtain ⟨b1,b2⟩:=hb b (by rw[h1];rfl);exact .buf ((hl o ho).trans h1) (b1.trans h2) h3 h4 (b2.trans h5) h6
 | @mapo ag es b clock ents h1 h2 h3 h4 h5=>
  obtain ⟨b1,b2⟩:=hb b (by rw[h1];rfl);exact .mapo ((hl o ho).trans h1) (b1.trans h2) (b2.trans h3) h4 fun i k c hi=>by
   obtain ⟨x,e1,e2,e3⟩:=h5 i k c hi;exact ⟨x,e1,e2,e3.mono hx⟩
 | @opq t t1 n Q b vs h1 h2 h3 h4 h5=>
  obtain ⟨b1,b2⟩:=hb b (by rw[h1];rfl);exact .opq ((hl o ho).trans h1) (b1.trans h2) h3 (b2.trans h4) fun w' u' hx' =>h5 w' u' (hx.to0.trans hx')
 | nrowNil h1=>exact .nrowNil ((hl o ho).trans h1)
 | nrow h1 h2 h3 h4 h5 h6 h7 h8 h9 h10 h11 h12=>exact (RelO.nrow h1 h2 h3 h4 h5 h6 h7 h8 h9 h10 h11 h12).mono hx (hl o ho) (fun _ hk=>by cases hk) hb
 | mapr h1 h2 h3 h4 h5 h6 h7=>exact (RelO.mapr h1 h2 h3 h4 h5 h6 h7).mono hx (hl o ho) (fun _ hk=>by cases hk) hb
theorem gl_lt{g:G}(h:Gl g){k:Nat}(hk:GlB k):k < g.w.heap.size:=by
 rcases hk with ⟨p,hp,rfl⟩ | hk
 .obtain ⟨t,fz,h1⟩:=h.2.1 p hp;exact zNa h1
 obtain ⟨tp,x,t,fz,h1⟩:=h.2.2 k hk;exact zNa h1
theorem Vna{f:FuncId}{k:Nat}{xs:List Operand}{ats:Array TypeId}{args:List AV}{r:AV}{σ0 σ1:Sto}{O:Nat}{rows:List Nat}(hr:RunS E.P f args σ0 r σ1 O rows)(hN:Nat.ble (k+1) E.N=true)(ha:xs.map (fun x=>(fr.ev x).weak)=args)(hle:kka σ σ0):
 OpTo E ⟨some k,.call ⟨.value (.func f),xs.toArray,ats⟩,ty,pos,af,gu⟩ fr σ ((k,r)::fr.clrs rows) (σ1++(σ.dels (O::rows)).clrs rows):=
 ⟨fun g a K Q hst hK=>by
  obtain ⟨fn,c,hok⟩:=hr.ok;refine ⟨fun _ _=>trivial,?_⟩;rw[jAz _ _ _ (fun c=>by simp),wHa hok (first:= #[]) (cap:= #[]) rfl,jDk];refine ⟨fun h=>by simp[fen]at h,?_⟩;have hargs:yJa g args (#[]++xs.toArray.map a.eval++ #[]):=by
   subst ha;refine ⟨by simp,fun i c hi=>?_⟩;simp only[jAj,jAh]at hi;obtain ⟨x,hx,rfl⟩:=hi;have:=vVa (hst.ev x);simpa[hx]using this
  have hsb:∀b,SB g σ0 b->b < g.w.heap.size/\(E.g0.w.heap.size<=b∨E.S b):=by
   rintro b ⟨o,ob,h1,h2⟩;obtain ⟨ob',h3,h4⟩:=hle.some h1;rw[<-h4]at h2;exact ⟨(hst.so.obj o ob' h3).block_lt h2,hst.so.mine o ob' b h3 h2⟩
  have hown:Own g σ0:=⟨hle.obj hst.so.obj,fun o o' ob ob' b h1 h2 h3 h4=>by
   obtain ⟨_,p1,e1⟩:=hle.some h1;obtain ⟨_,p2,e2⟩:=hle.some h2;rw[<-e1]at h3;rw[<-e2]at h4;exact hst.so.apart o o' _ _ b p1 p2 h3 h4,fun o ob b h1 h2 hb=>by
   rcases (hsb b ⟨o,ob,h1,h2⟩).2 with h3 | h3
   .have:=gl_lt E.gl hb;omega
   exact E.sg b hb h3⟩
  refine (wGa (hr.run g _ hst.so.wf (E.glOf hst.so) hown hargs)).mono ?_;rintro e w' ⟨g',v,rfl,hl,ho,hw,rfl,hv,hobj,hap,hmine⟩;have hget:∀o ob,Sto.get (σ1++(σ.dels (O::rows)).clrs rows) o=some ob->σ1.get o=some ob∨(o ∉ O::rows/\∃ob1,σ.get o=some ob1/\ob=ob1.clrs rows):=by
   intro o ob hg;rw[Sto.get_append]at hg;cases h1:σ1.get o with
   | some ob1=>rw[h1]at hg;exact .inl (by simpa using hg)
   | none=>
    rw[h1,Option.none_or,Sto.get_clrs,Sto.get_dels]at hg;split at hg
    .cases hg
    rename_i hno;cases h2:σ.get o with
    | none=>rw[h2]at hg;cases hg
    | some ob1=>rw[h2]at hg;exact .inr ⟨hno,ob1,rfl,by simpa using hg.symm⟩
  have hout:∀o ob1 b,o ∉ O::rows->σ.get o=some ob1->ob1.own (g.loc o) b->¬SB g σ0 b:=by
   rintro o ob1 b hno ho1 hb ⟨o2,ob2,h2,hb2⟩;obtain ⟨ob3,h3,e3⟩:=hle.some h2;rw[<-e3]at hb2;have:=hst.so.apart o o2 _ _ b ho1 h3 hb hb2;subst this;rcases (Sto.okS_get hr.ok0 h2).1 with rfl | hin
   .exact hno jDi
   exact hno (jCx _ hin)
  have hnr:∀o,o ∉ O::rows->o ∉ rows:=fun o h hin=>h (jCx _ hin)
  have hst' :St E g' a (fr.clrs rows) (σ1++(σ.dels (O::rows)).clrs rows):=by
   refine ⟨fun d=>by rw[Fr.get_clrs];exact Wta ho.ext hl (hst.fr d),hst.n,hst.df.mono ho.ext,⟨?_,?_,?_,?_,hw⟩⟩
   .intro o ob hg;rcases hget o ob hg with h1 | ⟨hno,ob1,ho1,rfl⟩
    .exact hobj o ob h1
    have hro:=hst.so.obj o ob1 ho1;exact zTb hro ho.ext hl (hnr o hno) fun b hb=>ho.block b (hro.block_lt hb) (hout o ob1 b hno ho1 hb)
   .intro o o' ob ob' b h1 h2 h3 h4;rcases hget o ob h1 with h1 | ⟨hno,ob1,ho1,rfl⟩ <;> rcases hget o' ob' h2 with h2 | ⟨hno',ob1',ho1',rfl⟩
    .exact hap o o' ob ob' b h1 h2 h3 h4
    .exfalso;rw[AO.own_clrs,hl o' (hnr o' hno')]at h4;have hlt:=(hst.so.obj o' ob1' ho1').block_lt h4;rcases hmine o ob b h1 h3 with h5 | h5
     .omega
     exact hout o' ob1' b hno' ho1' h4 h5
    .exfalso;rw[AO.own_clrs,hl o (hnr o hno)]at h3;have hlt:=(hst.so.obj o ob1 ho1).block_lt h3;rcases hmine o' ob' b h2 h4 with h5 | h5
     .omega
     exact hout o ob1 b hno ho1 h3 h5
    rw[AO.own_clrs,hl o (hnr o hno)]at h3;rw[AO.own_clrs,hl o' (hnr o' hno')]at h4;exact hst.so.apart o o' ob1 ob1' b ho1 ho1' h3 h4
   .intro o ob b h1 h2;rcases hget o ob h1 with h1 | ⟨hno,ob1,ho1,rfl⟩
    .rcases hmine o ob b h1 h2 with h5 | h5
     .exact .inl (jBg hst.so.old.ext.size h5)
     exact (hsb b h5).2
    rw[AO.own_clrs,hl o (hnr o hno)]at h2;exact hst.so.mine o ob1 b ho1 h2
   refine hst.so.old.trans (ho.mono fun b _ hb=>?_);exact (hsb b hb).2.symm
  exact hK g' _ (hst'.put (jAd hN) hv)⟩
section
variable {α:Type} {F:α->List PV} {l:List α} {size:Nat} {e:TypeId}
end
def AV.ren1(r r' :Nat):AV->AV
 | .hs x off=>bif Nat.beq x r then .hs r' off else .hs x off
 | c=>bif c.has r then .any else c
def AV.ren(r r' :Nat):AV->AV
 | .agg l=>.agg (l.map (AV.ren1 r r'))
 | c=>c.ren1 r r'
def Fr.ren(r r' :Nat):Fr->Fr
 | []=>[]
 | (k,c)::l=>(k,c.ren r r')::Fr.ren r r' l
theorem Fr.get_ren(r r' :Nat)(fr:Fr)(d:Nat):(fr.ren r r').get d=(fr.get d).ren r r' :=by
 induction fr with
 | nil=>rfl
 | cons x l ih=>
  obtain ⟨k,c⟩:=x;simp only[Fr.ren,Fr.get_cons,ih];split <;> rfl
def AO.ren(r r' :Nat):AO->AO
 | .cells cs=>.cells (cs.map (AV.ren r r'))
 | .hold c v=>.hold (c.ren r r') v
 | o=>o
def Sto.ren(r r' :Nat):Sto->Sto
 | []=>[]
 | (k,a)::l=>(k,a.ren r r')::Sto.ren r r' l
theorem Sto.get_ren(r r' :Nat)(σ:Sto)(o:Nat):(σ.ren r r').get o=(σ.get o).map (AO.ren r r'):=by
 induction σ with
 | nil=>rfl
 | cons x l ih=>
  obtain ⟨k,a⟩:=x;simp only[Sto.ren,Sto.get_cons,ih];split <;> rfl
theorem AO.own_ren(r r' :Nat)(ob:AO)(l:Loc):(ob.ren r r').own l=ob.own l:=by cases ob <;> rfl
section
variable {g g' :G} {r r' :Nat}
theorem rel_ren0(hw:g'.w=g.w)(hu:g'.u=g.u)(hk:∀k,k≠r' ->g'.loc k=g.loc k){c:AV}{v:Value}(h:Rel g c v)(hn:c.has r' =false):Rel g' (bif c.has r then .any else c) v:=by
 have hx:Ext g.w g.u g'.w g'.u:=by rw[hw,hu];exact Ext.refl _ _
 cases hc:c.has r with
 | true=>exact .any _
 | false=>exact h.mono hx fun k hk' =>hk k (by rintro rfl;rw[hn]at hk';cases hk')
theorem vsb(hw:g'.w=g.w)(hu:g'.u=g.u)(hl:g'.loc r' =g.loc r)(hk:∀k,k≠r' ->g'.loc k=g.loc k){c:AV}{v:Value}(h:Rel g c v)(hn:c.has r' =false):Rel g' (c.ren1 r r') v:=by
 cases c
 case hs x off=>
  have hxr:x≠r' :=by rintro rfl;simp[AV.has]at hn
  cases hb:Nat.beq x r with
  | true=>
   rw[show AV.ren1 r r' (.hs x off)=.hs r' off by show (bif Nat.beq x r then AV.hs r' off else AV.hs x off)=_;rw[hb];rfl];have:x=r:=jAi hb;subst this;cases h with
   | hsNil a h1=>exact .hsNil a (hl.trans h1)
   | hs h1 h2=>exact .hs (hl.trans h1) h2
  | false=>
   rw[show AV.ren1 r r' (.hs x off)=.hs x off by show (bif Nat.beq x r then AV.hs r' off else AV.hs x off)=_;rw[hb];rfl];cases h with
   | hsNil a h1=>exact .hsNil a ((hk x hxr).trans h1)
   | hs h1 h2=>exact .hs ((hk x hxr).trans h1) h2
 all_goals exact rel_ren0 (r:=r) hw hu hk h hn
theorem qxb(hw:g'.w=g.w)(hu:g'.u=g.u)(hl:g'.loc r' =g.loc r)(hk:∀k,k≠r' ->g'.loc k=g.loc k){c:AV}{v:Value}(h:Rel g c v)(hn:c.has r' =false):Rel g' (c.ren r r') v:=by
 cases c
 case agg cs=>
  cases h with
  | agg hl2 hc2 h=>
   refine .agg (by simp[hl2]) hc2 fun i c hi=>?_
   simp only[jAj,jAh]at hi;obtain ⟨c',h1,rfl⟩:=hi;refine vsb hw hu hl hk (h i c' h1) ?_;cases hh:c'.has r' with
   | false=>rfl
   | true=>rw[show (AV.agg cs).has r' =AV.hasL r' cs from rfl,AV.hasL_of h1 hh]at hn;cases hn
 all_goals exact vsb hw hu hl hk h hn
theorem relO_ren(hw:g'.w=g.w)(hu:g'.u=g.u)(hl:g'.loc r' =g.loc r)(hk:∀k,k≠r' ->g'.loc k=g.loc k){o:Nat}{ob:AO}(h:RelO g o ob)(ho:o≠r')(hn:ob.has r' =false):RelO g' o (ob.ren r r'):=by
 have hx:Ext g.w g.u g'.w g'.u:=by rw[hw,hu];exact Ext.refl _ _
 have hh:∀k,ob.has k=true->g'.loc k=g.loc k:=fun k hk' =>hk k (by rintro rfl;rw[hn]at hk';cases hk')
 cases ob
 case cells cs=>
  cases h with
  | @cells _ b t vs h1 h2 h3 h4 h5 h6=>
   refine .cells ((hk o ho).trans h1) (by rw[hw];exact h2) (by simpa using h3) (by rw[hu];exact h4) h5 fun i c hi=>?_
   simp only[jAj,jAh]at hi;obtain ⟨c',hc',rfl⟩:=hi;refine qxb hw hu hl hk (h6 i c' hc') ?_;cases hh' :c'.has r' with
   | false=>rfl
   | true=>rw[show (AO.cells cs).has r' =AV.hasL r' cs from rfl,AV.hasL_of hc' hh']at hn;cases hn
 case hold c v=>cases h with
  | hold h1=>exact .hold (qxb hw hu hl hk h1 hn)
 all_goals exact h.mono hx (hk o ho) hh fun b _=>by rw[hw,hu];exact ⟨rfl,rfl⟩
end
theorem St.ren{g:G}{a:Act}{r r' :Nat}{ob:AO}(h:St E g a fr σ)(hr:σ.get r=some ob)(hne:Nat.beq r r' =false)(hf:fr.has r' =false)(hs:σ.has r' =false)(hg:σ.get r' =none)(hob:ob.okS []=true):
 St E ⟨g.w,g.u,fun k=>if k=r' then g.loc r else g.loc k⟩ a (fr.ren r r') ((r',ob)::(σ.del r).ren r r'):=by
 have hne:r≠r' :=by rintro rfl;simp at hne
 have hk:∀k,k≠r' ->(⟨g.w,g.u,fun k=>if k=r' then g.loc r else g.loc k⟩:G).loc k=g.loc k:=fun k hk=>if_neg hk
 have hl:(⟨g.w,g.u,fun k=>if k=r' then g.loc r else g.loc k⟩:G).loc r' =g.loc r:=if_pos rfl;have hhas:∀k,ob.has k=false:=fun k=>by
  cases hh:ob.has k with
  | false=>rfl
  | true=>exact absurd (AO.okS_has hob hh) (by simp)
 have hget:∀o ob1,Sto.get ((r',ob)::(σ.del r).ren r r') o=some ob1->(o=r' /\ob1=ob)∨(o≠r' /\o≠r/\∃ob2,σ.get o=some ob2/\ob1=ob2.ren r r'):=by
  intro o ob1 ho;rw[Sto.get_cons]at ho;split at ho
  .rename_i hk;cases ho;exact .inl ⟨hk.symm,rfl⟩
  rename_i hk;rw[Sto.get_ren,Sto.get_del]at ho;split at ho
  .cases ho
  rename_i hor;cases h2:σ.get o with
  | none=>rw[h2]at ho;cases ho
  | some ob2=>rw[h2]at ho;exact .inr ⟨Ne.symm hk,hor,ob2,rfl,by simpa using ho.symm⟩
 refine ⟨fun d=>?_,h.n,h.df,⟨?_,?_,?_,⟨h.so.old.os,h.so.old.tape,h.so.old.output,h.so.old.ext,h.so.old.block⟩,h.so.wf⟩⟩
 .rw[Fr.get_ren];refine qxb (g:=g) (g' :=⟨g.w,g.u,fun k=>if k=r' then g.loc r else g.loc k⟩) rfl rfl hl hk (h.fr d) ?_;cases hh:(fr.get d).has r' with
  | false=>rfl
  | true=>rw[Fr.has_get hh]at hf;cases hf
 .intro o ob1 ho;rcases hget o ob1 ho with ⟨rfl,rfl⟩ | ⟨h1,h2,ob2,h3,rfl⟩
  .have hro:=h.so.obj r ob1 hr;cases ob1 with
   | cells cs=>
    cases hro with
    | @cells _ b t vs q1 q2 q3 q4 q5 q6=>
     exact .cells (hl.trans q1) q2 q3 q4 q5 fun i c hi=>Rel.mono (g:=g) (g' :=⟨g.w,g.u,fun k=>if k=o then g.loc r else g.loc k⟩) (Ext.refl _ _) (q6 i c hi) fun k hck=>by
      have:=hhas k;rw[show (AO.cells cs).has k=AV.hasL k cs from rfl,AV.hasL_of hi hck]at this;cases this
   | row e mu size elems=>
    cases hro with
    | nil q1=>exact .nil (hl.trans q1)
    | row q1 q2 q3 q4 q5 q6 q7 q8 q9=>exact .row (hl.trans q1) q2 q3 q4 q5 q6 q7 q8 q9
   | opq t n Q=>
    cases hro with
    | opq q1 q2 q3 q4 q5=>exact .opq (hl.trans q1) q2 q3 q4 q5
   | _=>cases hob
  refine relO_ren (g:=g) (g' :=⟨g.w,g.u,fun k=>if k=r' then g.loc r else g.loc k⟩) rfl rfl hl hk (h.so.obj o ob2 h3) h1 ?_;cases hh:ob2.has r' with
  | false=>rfl
  | true=>rw[Sto.has_get h3 hh]at hs;cases hs
 .intro o o' ob1 ob2 b q1 q2 q3 q4;rcases hget o ob1 q1 with ⟨rfl,rfl⟩ | ⟨h1,h2,ob3,h3,rfl⟩ <;> rcases hget o' ob2 q2 with ⟨rfl,rfl⟩ | ⟨h1',h2',ob4,h4,rfl⟩
  .rfl
  .rw[AO.own_ren]at q4;simp only[if_true]at q3;simp only[if_neg h1']at q4;exact absurd (h.so.apart r o' _ _ b hr h4 q3 q4) (Ne.symm h2')
  .rw[AO.own_ren]at q3;simp only[if_neg h1]at q3;simp only[if_true]at q4;exact absurd (h.so.apart o r _ _ b h3 hr q3 q4) h2
  rw[AO.own_ren]at q3 q4;simp only[if_neg h1]at q3;simp only[if_neg h1']at q4;exact h.so.apart o o' _ _ b h3 h4 q3 q4
 intro o ob1 b q1 q2;rcases hget o ob1 q1 with ⟨rfl,rfl⟩ | ⟨h1,h2,ob3,h3,rfl⟩
 .simp only[if_true]at q2;exact h.so.mine r _ b hr q2
 rw[AO.own_ren]at q2;simp only[if_neg h1]at q2;exact h.so.mine o _ b h3 q2
theorem JNa{ops:Array Oper}{ol:List Oper}(r r' :Nat){ob:AO}(hr:σ.get r=some ob)(hne:Nat.beq r r' =false)(hf:fr.has r' =false)(hs:σ.has r' =false)(hg:σ.get r' =none)(hob:ob.okS []=true)
 (h:AWPL E ops ol (fr.ren r r') ((r',ob)::(σ.del r).ren r r') K):AWPL E ops ol fr σ K:=
 ⟨fun g a hst=>h.go ⟨g.w,g.u,fun k=>if k=r' then g.loc r else g.loc k⟩ a (hst.ren hr hne hf hs hg hob)⟩
theorem WNa{c:Code}(r r' :Nat){ob:AO}(hr:σ.get r=some ob)(hne:Nat.beq r r' =false)(hf:fr.has r' =false)(hs:σ.has r' =false)(hg:σ.get r' =none)(hob:ob.okS []=true)
 (h:AWP E c (fr.ren r r') ((r',ob)::(σ.del r).ren r r') K):AWP E c fr σ K:=
 ⟨fun g a hst=>h.go ⟨g.w,g.u,fun k=>if k=r' then g.loc r else g.loc k⟩ a (hst.ren hr hne hf hs hg hob)⟩
section
variable {α:Type} {F:α->List PV} {r' :List α} {size bytes sb ss k lim:Nat} {e t:TypeId} {zero sz:Value} {d:TypeDesc} {x:Operand} {n:Int} {z:α}
end
theorem rfS{P:Program}{f:FuncId}{fn:Func}{c:Code}{args:List AV}{r:AV}{σ0 σ1:Sto}{O H:Nat}{rows:List Nat}(hc:AV)(hok:FnOk P f fn c)(hN:Nat.ble args.length fn.ntmps=true)(hr:∀k,r.has k=true->k∈rows)(h0:(hc=.ptr O 0/\args[0]? =some (.ptr O 0))∨(hc=.any/\Sto.get σ1 O=none))
 (k0:σ0.okS O rows=true) (k1:σ1.okS O rows=true) (hH:Sto.get σ0 H=none) (hH1:Sto.get σ1 H=none)
 (h:∀g0 (hg:Gl g0) (S:Nat->Prop) (sg:∀k,GlB k->¬S k) (T:Array Value),(GS.code c (kwa 0 args) ((H,.hold hc (T.getD 0 undef))::σ0) (.base (zRb P fn r hc H T σ1) wbb)).holds ⟨P,none,g0,fn.ntmps,false,hg,S,sg⟩):RunS P f args σ0 r σ1 O rows:=qwb hok hN hr h0 k0 k1 hH hH1 h
theorem krS{P:Program}{T:Tab}{Tm:Array Value}(hT:zOa P T){e:Exit}{fn:Func}{cs:List AV}{r hc:AV}{H:Nat}{σ1:Sto}{hm:Mono (zRb P fn r hc H Tm σ1)}(he:isN e=true∨e=.ret)(h:Qya T fr σ fn.results.toList=some cs)(hr:WAa cs=r)(hs:kka σ ((H,.hold hc (Tm.getD 0 undef))::σ1)):
 (GS.at e fr σ (.base (zRb P fn r hc H Tm σ1) hm)).holds E:=⟨by cases e <;> simp_all [isN],⟨cs,jVa hT h,hr⟩,hs⟩
def AV.okR(rows:List Nat):AV->Bool
 | .agg l=>l.all (AV.okS rows)
 | .ifc _=>true
 | c=>c.okS rows
def AV.okT(rows:List Nat):AV->Bool
 | .tup l=>l.all (AV.okR rows)
 | c=>c.okR rows
theorem AV.okR_has{rows:List Nat}{c:AV}(h:c.okR rows=true){k:Nat}(hk:c.has k=true):k∈rows:=by
 unfold AV.okR at h;split at h
 .obtain ⟨c',hc,hk'⟩:=AV.hasL_mem hk;exact AV.okS_has (jAp.1 h c' hc) hk'
 .simp[AV.has]at hk
 exact AV.okS_has h hk
theorem hasT{rows:List Nat}{c:AV}(h:c.okT rows=true):∀k,c.has k=true->k∈rows:=by
 intro k hk;unfold AV.okT at h;split at h
 .obtain ⟨c',hc,hk'⟩:=AV.hasL_mem hk;exact AV.okR_has (jAp.1 h c' hc) hk'
 exact AV.okR_has h hk
end
section
open Go.RowKit Go.Lib Go.Proofs.Tryz
variable {E:Env} {fr:Fr} {σ:Sto} {K:Post}
def purF:List Oper->List (Option AV)->List Bool->Fr
 | o::l,some c::cs,b::D=>(match o.dst with | some d=>[(d,bif b then c else .any)] | none=>[])++purF l cs D
 | _::l,none::cs,_::D=>purF l cs D
 | _,_,_=>[]
def yxa(l:List Oper)(cs:List (Option AV))(i:Nat):Option Nat:=match cs[i]? with
 | some (some _)=>(l[i]?).bind (·.dst)
 | _=>none
theorem kAa:∀(l:List Oper) (cs:List (Option AV)) (D:List Bool) (d:Nat),(∀i,yxa l cs i≠some d)->(purF l cs D++fr).get d=fr.get d
 | [],_,_,_,_=>rfl
 | _::_,[],_,_,_=>rfl
 | _::_,some _::_,[],_,_=>rfl
 | _::_,none::_,[],_,_=>rfl
 | o::l,none::cs,b::D,d,h=>kAa l cs D d fun i=>h (i+1)
 | o::l,some c::cs,b::D,d,h=>by
  have ih:=kAa l cs D d fun i=>h (i+1)
  have h0:o.dst≠some d:=h 0;unfold purF;cases hd:o.dst with
  | none=>exact ih
  | some d' =>
   show Fr.get ((d',_)::(purF l cs D++fr)) d=_;rw[Fr.get_cons,if_neg (fun e=>h0 (by grind))];exact ih
theorem qra:∀(l:List Oper) (cs:List (Option AV)) (D:List Bool) (i:Nat) (c:AV) (d:Nat),(∀i j d,yxa l cs i=some d->yxa l cs j=some d->i=j)->l.length<=D.length->yxa l cs i=some d->cs[i]? =some (some c)->(purF l cs D++fr).get d=bif D.getD i false then c else .any
 | [],_,_,i,_,_,_,_,h,hc=>by unfold yxa at h;simp_all
 | _::_,[],_,i,_,_,_,_,h,hc=>by grind
 | _::_,_::_,[],_,_,_,_,hl,_,_=>by grind
 | o::l,none::cs,b::D,0,c,d,_,_,h,hc=>by grind
 | o::l,none::cs,b::D,i+1,c,d,hd,hl,h,hc=>by
  have:=qra l cs D i c d (fun i j d h1 h2=>by have:=hd (i+1) (j+1) d h1 h2;omega) (by simp_all) h (by simp_all);simpa[purF]using this
 | o::l,some c0::cs,b::D,0,c,d,hd,hl,h,hc=>by
  simp at hc;subst hc;have h0:o.dst=some d:=h;unfold purF;rw[h0];show Fr.get ((d,_)::(purF l cs D++fr)) d=_;rw[Fr.get_cons,if_pos rfl];rfl
 | o::l,some c0::cs,b::D,i+1,c,d,hd,hl,h,hc=>by
  have ih:=qra l cs D i c d (fun i j d h1 h2=>by have:=hd (i+1) (j+1) d h1 h2;omega) (by simp_all) h (by simp_all);unfold purF;cases h0:o.dst with
  | none=>simp_all
  | some d' =>
   show Fr.get ((d',_)::(purF l cs D++fr)) d=_;rw[Fr.get_cons,if_neg (fun e=>by
    have:=hd 0 (i+1) d (by show o.dst=some d;grind) h;omega)]
   simp_all
theorem Fr.has_append(q:Nat):∀(x y:Fr),Fr.has q (x++y)=(Fr.has q x || Fr.has q y)
 | [],y=>by simp[Fr.has]
 | (k,a)::x,y=>by simp[Fr.has,Fr.has_append q x y,Bool.or_assoc]
theorem JOa(q:Nat):∀(l:List Oper) (cs:List (Option AV)) (D T:List Bool),T=List.replicate D.length true->Fr.has q (purF l cs D)=true->Fr.has q (purF l cs T)=true
 | [],_,_,_,_,h=>by simp[purF,Fr.has]at h
 | _::_,[],_,_,_,h=>by simp[purF,Fr.has]at h
 | _::_,some _::_,[],_,_,h=>by simp_all
 | _::_,none::_,[],_,_,h=>by simp_all
 | o::l,none::cs,b::D,T,hT,h=>by
  subst hT;exact JOa q l cs D _ rfl (by simpa[purF]using h)
 | o::l,some c::cs,b::D,T,hT,h=>by
  subst hT;have ih:=JOa q l cs D _ rfl;unfold purF at h ⊢;simp only[jBn,List.replicate_succ]at h ⊢;cases h0:o.dst with
  | none=>simp_all
  | some d=>
   rw[h0]at h;simp only[Fr.has_append,Fr.has,Bool.or_false,jBk,cond_true]at h ⊢;rcases h with h | h
   .refine .inl ?_;cases b with
    | true=>exact h
    | false=>simp[AV.has]at h
   simp_all
structure HvS (E:Env) (o:Oper) (FR:Fr) (σ σ' :Sto):Prop where
 go:∀fr,(∀x∈o.op.operands,fr.ev x=FR.ev x)->(∀q,FR.has q=false->fr.has q=false)->OpTo E o fr σ fr σ'
structure HvD (E:Env) (o:Oper) (FR:Fr) (σ:Sto) (k:Nat) (c:AV) (rs:List Nat) (σ' :Sto):Prop where
 go:∀fr,(∀x∈o.op.operands,fr.ev x=FR.ev x)->(∀q,FR.has q=false->fr.has q=false)->OpTo E o fr σ ((k,c)::fr.clrs rs) σ'
structure HvP (E:Env) (o:Oper) (FR:Fr) (σ:Sto) (rs:List Nat) (σ' :Sto):Prop where
 go:∀fr,(∀x∈o.op.operands,fr.ev x=FR.ev x)->(∀q,FR.has q=false->fr.has q=false)->OpTo E o fr σ (fr.clrs rs) σ'
def allT(l:List Oper):List Bool:=List.replicate l.length true
def vtb(cs:List (Option AV))(rs:List Nat):Bool:=cs.all fun c=>match c with | some c=>rs.all fun r=> !c.has r | none=>true
inductive qyb (E:Env) (l:List Oper) (cs:List (Option AV)) (all:List Node) (H:List Bool) (fr:Fr) (σ:Sto) (i:Nat):Prop
 | pure {o:Oper} {c:AV} (ho:l[i]? =some o) (hc:cs[i]? =some (some c)) (h:OpG E o (purF l cs (allT l)++fr) σ c)
 | sto {o:Oper} {σ' σ2:Sto} {fr2:Fr} (j:Nat) (ho:l[i]? =some o) (hc:cs[i]? =some none) (h:HvS E o (purF l cs (allT l)++fr) σ σ') (hn:all[j]? =some (H.set i true,fr2,σ2)) (hf:FrLe fr fr2) (hs:kka σ' σ2)
 | dst {o:Oper} {k:Nat} {c:AV} {rs:List Nat} {σ' σ2:Sto} {fr2:Fr} (j:Nat) (ho:l[i]? =some o) (hc:cs[i]? =some none) (hk:((List.range l.length).all fun i=>yxa l cs i !=some k)=true) (hrs:vtb cs rs=true)
  (h:HvD E o (purF l cs (allT l)++fr) σ k c rs σ') (hn:all[j]? =some (H.set i true,fr2,σ2)) (hf:FrLe ((k,c)::fr.clrs rs) fr2) (hs:kka σ' σ2)
 | put {o:Oper} {rs:List Nat} {σ' σ2:Sto} {fr2:Fr} (j:Nat) (ho:l[i]? =some o) (hc:cs[i]? =some none) (hrs:vtb cs rs=true)
  (h:HvP E o (purF l cs (allT l)++fr) σ rs σ') (hn:all[j]? =some (H.set i true,fr2,σ2)) (hf:FrLe (fr.clrs rs) fr2) (hs:kka σ' σ2)
inductive vGa (E:Env) (l:List Oper) (cs:List (Option AV)) (all:List Node) (H:List Bool) (fr:Fr) (σ:Sto):List Nat->Prop
 | nil:vGa E l cs all H fr σ []
 | cons {i:Nat} {is:List Nat} (h:qyb E l cs all H fr σ i) (r:vGa E l cs all H fr σ is):vGa E l cs all H fr σ (i::is)
def isHv(cs:List (Option AV))(i:Nat):Bool:=match cs[i]? with | some none=>true | _=>false
def mayL(l:List Oper)(cs:List (Option AV))(H:List Bool):List Nat:=(List.range l.length).filter fun i=>
 !(H.getD i false) && (List.range l.length).all fun j=> !(isHv cs j) || ((!(((wEa l l.length).getD i 0).testBit j) || H.getD j false) && (!(H.getD j false) || !(((wEa l l.length).getD j 0).testBit i)))
inductive JPa (E:Env) (l:List Oper) (cs:List (Option AV)) (K:Post) (all:List Node):Node->Prop
 | full {H:List Bool} {fr:Fr} {σ:Sto} (is:List Nat) (hD:mayL l cs H=is) (hs:vGa E l cs all H fr σ is) {frJ:Fr} {σJ:Sto} (hf:FrLe (purF l cs (allT l)++fr) frJ) (hso:kka σ σJ) (h:K .normal frJ σJ):JPa E l cs K all (H,fr,σ)
 | step {H:List Bool} {fr:Fr} {σ:Sto} (is:List Nat) (hD:mayL l cs H=is) (hn:((List.range l.length).all fun i=> !(isHv cs i) || H.getD i false)=false) (hs:vGa E l cs all H fr σ is):JPa E l cs K all (H,fr,σ)
inductive Zya (E:Env) (l:List Oper) (cs:List (Option AV)) (K:Post) (all:List Node):List Node->Prop
 | nil:Zya E l cs K all []
 | cons {nd:Node} {r:List Node} (h:JPa E l cs K all nd) (hr:Zya E l cs K all r):Zya E l cs K all (nd::r)
theorem vGa.get{l:List Oper}{cs:List (Option AV)}{all:List Node}{H:List Bool}{is:List Nat}(h:vGa E l cs all H fr σ is){i:Nat}(hi:i∈is):qyb E l cs all H fr σ i:=by
 induction h with
 | nil=>cases hi
 | cons h _ ih=>
  grind
theorem Zya.get{l:List Oper}{cs:List (Option AV)}{all r:List Node}(h:Zya E l cs K all r){nd:Node}(hi:nd∈r):JPa E l cs K all nd:=by
 induction h with
 | nil=>cases hi
 | cons h _ ih=>
  grind
def vub(N:Nat)(l:List Oper)(cs:List (Option AV)):Bool:=
 wha .any l.toArray && Nat.beq cs.length l.length && (l.all fun o=>o.guard.isNone) &&
 (l.all fun o=>o.dst.all fun d=>Nat.ble (d+1) N) &&
 ((List.range l.length).all fun i=>isHv cs i || (yxa l cs i).isSome) &&
 ((List.range l.length).all fun i=>(List.range l.length).all fun j=>Nat.beq i j || (yxa l cs i).isNone || yxa l cs i !=yxa l cs j) &&
 (l.all fun o=>(VRa o).all fun t=>(List.range l.length).all fun j=>yxa l cs j !=some t || qJa o j)
theorem Zza{rs:List Nat}{c:AV}(h:(rs.all fun r=> !c.has r)=true):c.clrs rs=c:=by
 unfold AV.clrs
 grind
theorem YRa{id:Nat}{l:List Oper}(cs:List (Option AV))(all:List Node){H0:List Bool}{fr0:Fr}{σ0:Sto}(hmix:E.P.follows .mixedOrders=true)(hok:vub E.N l cs=true)(h0:all[0]? =some (H0,fr0,σ0))(hH0:H0=List.replicate l.length false)
 (hf:FrLe fr fr0) (hs:kka σ σ0) (h:Zya E l cs K all all):AWP E (.region id l.toArray true) fr σ K:=by
 simp only[vub,jAk,jAp]at hok;obtain ⟨⟨⟨⟨⟨⟨hlb,hlen⟩,hgd⟩,hN⟩,hall⟩,hdist⟩,hdat⟩:=hok;have hlen:=jAi hlen;have hdl:∀i d,yxa l cs i=some d->i < l.length:=by
  intro i d hd;rcases jAv i l.length with h1 | h1
  .exact h1
  unfold yxa at hd;rw[jCk (by omega)]at hd;cases hd
 have hdist' :∀i j d,yxa l cs i=some d->yxa l cs j=some d->i=j:=by
  intro i j d h1 h2;have:=hdist i (by simpa using hdl i d h1) j (by simpa using hdl j d h2);simp only[jBk,bne_iff_ne,ne_eq]at this;rcases this with (h3 | h3) | h3
  .exact jAi h3
  .rw[h1]at h3;cases h3
  exact absurd (h1.trans h2.symm) h3
 have hdirD:∀{D:Nat->Bool} {o:Oper} {j:Nat},(∀e∈o.after,Region.binds .any e=true->D e.on=true)->qJa o j=true->D j=true:=by
  intro D o j he hd;simp only[qJa,List.any_eq_true,jAk]at hd;obtain ⟨e,h1,h2,h3⟩:=hd;rw[<-jAi h3];exact he e (by simpa using h1) h2
 let bits:(Nat->Bool)->List Bool:=fun D=>(List.range l.length).map D
 have hbl:∀D,(bits D).length=l.length:=fun D=>by simp[bits]
 have hbg:∀D i,i < l.length->(bits D).getD i false=D i:=fun D i hi=>by simp[bits,jAn,hi]
 have hTl:(allT l).length=l.length:=by simp[allT]
 have hTg:∀i,i < l.length->(allT l).getD i false=true:=fun i hi=>by simp[allT,jAn,hi]
 have hslot:∀d,(∃i c,yxa l cs i=some d/\cs[i]? =some (some c)/\i < l.length)∨(∀i,yxa l cs i≠some d):=by
  intro d;by_cases hex:∃i,yxa l cs i=some d
  .obtain ⟨i,hi⟩:=hex;refine .inl ⟨i,?_⟩;have hil:=hdl i d hi;cases hc:cs[i]? with
   | none=>unfold yxa at hi;rw[hc]at hi;cases hi
   | some x=>
    cases x with
    | none=>unfold yxa at hi;rw[hc]at hi;cases hi
    | some c=>exact ⟨c,hi,rfl,hil⟩
  exact .inr fun i hi=>hex ⟨i,hi⟩
 have hev:∀(D:Nat->Bool) (o:Oper) (frA:Fr),o∈l->(∀e∈o.after,Region.binds .any e=true->D e.on=true)->∀x∈o.op.operands,(purF l cs (bits D)++frA).ev x=(purF l cs (allT l)++frA).ev x:=by
  intro D o frA hm he x hx;cases x with
  | const v=>rfl
  | global q=>rfl
  | func f=>rfl
  | tmp t=>
   show (purF l cs (bits D)++frA).get t=(purF l cs (allT l)++frA).get t;rcases hslot t with ⟨i,c,h1,h2,h3⟩ | h1
   .rw[qra l cs (bits D) i c t hdist' (by rw[hbl];omega) h1 h2,qra l cs (allT l) i c t hdist' (by rw[hTl];omega) h1 h2,hbg D i h3,hTg i h3];have:=hdat o hm t (by simp only[VRa,jCs];exact ⟨.tmp t,by simpa using hx,rfl⟩) i (by simpa using h3);simp only[jBk,bne_iff_ne,ne_eq]at this;rcases this with h4 | h4
    .exact absurd h1 h4
    rw[hdirD he h4]
   rw[kAa l cs _ t h1,kAa l cs _ t h1]
 have hhas:∀(D:Nat->Bool) (frA:Fr) q,(purF l cs (allT l)++frA).has q=false->(purF l cs (bits D)++frA).has q=false:=by
  intro D frA q hq;rw[Fr.has_append,jCy]at hq ⊢;refine ⟨?_,hq.2⟩;cases hb:Fr.has q (purF l cs (bits D)) with
  | false=>rfl
  | true=>
   have:=JOa q l cs (bits D) (allT l) (by rw[hbl];rfl) hb;rw[this]at hq;cases hq.1
 let J:(Nat->Bool)->Act->World->Prop:=fun D a w=>(∀i o,l[i]? =some o->D i=true->∀e∈o.after,Region.binds .any e=true->D e.on=true)/\
  ∃nd∈all,nd.1.length=l.length/\(∀i,i < l.length->isHv cs i=true->D i=nd.1.getD i false)/\(∀i,i < l.length->isHv cs i=false->nd.1.getD i false=false)/\∃g,g.w=w/\St E g a (purF l cs (bits D)++nd.2.1) nd.2.2
 refine ⟨fun g a hst=>wia hmix hlb J ?_ ?_ ?_⟩
 .refine ⟨fun i o _ hd=>by simp at hd,_,jAf h0,by subst hH0;simp,fun i hi _=>by subst hH0;simp[jAn,hi],fun i hi _=>by subst hH0;simp[jAn,hi],⟨g.w.drew,g.u,g.loc⟩,rfl,(hst.le (fun d=>?_) hs).drew⟩;rcases hslot d with ⟨i,c,h1,h2,h3⟩ | h1
  .rw[qra l cs _ i c d hdist' (by rw[hbl];omega) h1 h2,hbg _ i h3];exact .inl rfl
  rw[kAa l cs _ d h1];exact hf d
 .rintro D a w ⟨_,⟨H,frA,σA⟩,hm,hl,hD,_,g,rfl,hst'⟩ hfin;have hfin' :∀i,i < l.length->D i=true:=fun i hi=>hfin i (by simpa using hi)
  cases h.get hm with
  | full is _ _ hfJ hsJ hk=>
   refine ⟨g,_,_,rfl,St.le ?_ hfJ hsJ,hk⟩;have:bits D=allT l:=by
    apply List.ext_getElem (by rw[hbl,hTl]);intro i h1 h2;have hi:i < l.length:=by rw[hbl]at h1;exact h1
    simp[bits,allT,hfin' i hi]
   rw[<-this];exact hst'
  | step is _ hn _=>
   exfalso;have:((List.range l.length).all fun i=> !(isHv cs i) || H.getD i false)=true:=by
    rw[jAp];intro i hi;have hi:i < l.length:=by simpa using hi
    cases hh:isHv cs i with
    | false=>rfl
    | true=>rw[<-hD i hi hh,hfin' i hi];rfl
   rw[this]at hn;cases hn
 rintro D a w i o ⟨hcl,⟨H,frA,σA⟩,hm,hl,hD,hD0,g,rfl,hst'⟩ ho hDi he;have ho' :l[i]? =some o:=by simpa using ho
 have hil:i < l.length:=(jAc.1 ho').1;have hom:o∈l:=jAf ho';have hgo:o.guard=none:=by simpa using hgd o hom
 have hcl' :∀i' o',l[i']? =some o' ->upd D i i' =true->∀e∈o'.after,Region.binds .any e=true->upd D i e.on=true:=by
  intro i' o' h1 h2 e h3 h4;unfold upd at h2 ⊢;split
  .rfl
  split at h2
  .rename_i hii;subst hii;rw[ho']at h1;cases h1;exact he e h3 h4
  exact hcl i' o' h1 h2 e h3 h4
 have hmay:i∈mayL l cs H:=by
  simp only[mayL,List.mem_filter,jCm,jAk,jBp,jAp,jBk];refine ⟨hil,?_,fun j hj=>?_⟩
  .cases hh:isHv cs i with
   | true=>rw[<-hD i hil hh];exact hDi
   | false=>exact hD0 i hil hh
  cases hh:isHv cs j with
  | false=>exact .inl rfl
  | true=>
   refine .inr ⟨?_,?_⟩
   .cases hb:((wEa l l.length).getD i 0).testBit j with
    | false=>exact .inl rfl
    | true=>exact .inr (by rw[<-hD j hj hh];exact yKa hcl l.length i o ho' he j hb)
   cases hHj:H.getD j false with
   | false=>exact .inl rfl
   | true=>
    refine .inr ?_;cases hb:((wEa l l.length).getD j 0).testBit i with
    | false=>rfl
    | true=>
     have:=Zpa hcl l.length j i hb (by rw[hD j hj hh];exact hHj);rw[hDi]at this;cases this
 have wya:qyb E l cs all H frA σA i:=by
  cases h.get hm with
  | full is hD2 hs _ _ _=>exact (hD2▸hs:vGa E l cs all H frA σA (mayL l cs H)).get hmay
  | step is hD2 _ hs=>exact (hD2▸hs:vGa E l cs all H frA σA (mayL l cs H)).get hmay
 have hw:Region.wanted o (yielded l.toArray a.tmps)=true:=by simp[Region.wanted,hgo]
 have hheavy:∀(_:cs[i]? =some none),(∀k,k < l.length->isHv cs k=true->upd D i k=(H.set i true).getD k false)/\(∀k,k < l.length->isHv cs k=false->(H.set i true).getD k false=false)/\∀frX d,(purF l cs (bits (upd D i))++frX).get d=(purF l cs (bits D)++frX).get d:=by
  intro hc;have hhv:isHv cs i=true:=by unfold isHv;rw[hc]
  refine ⟨fun k hk hh=>?_,fun k hk hh=>?_,fun frX d=>?_⟩
  .unfold upd;simp only[jAn,jCu];by_cases hki:k=i
   .subst hki;simp[hl,hk]
   rw[if_neg hki,if_neg (Ne.symm hki),<-jAn];exact hD k hk hh
  .have hki:k≠i:=by rintro rfl;rw[hhv]at hh;cases hh
   simp only[jAn,jCu];rw[if_neg (Ne.symm hki),<-jAn];exact hD0 k hk hh
  rcases hslot d with ⟨j,c,h1,h2,h3⟩ | h1
  .rw[qra l cs _ j c d hdist' (by rw[hbl];omega) h1 h2,qra l cs _ j c d hdist' (by rw[hbl];omega) h1 h2,hbg _ j h3,hbg _ j h3];have hji:j≠i:=by rintro rfl;rw[hc]at h2;cases h2
   unfold upd;rw[if_neg hji]
  rw[kAa l cs _ d h1,kAa l cs _ d h1]
 unfold wpOpIn;rw[ho];simp only[hw,if_true];cases wya with
 | @pure o2 c ho2 hc hop=>
  rw[ho']at ho2;cases ho2;have hhv:isHv cs i=false:=by unfold isHv;rw[hc]
  have hops:∀x∈o.op.operands,Rel g ((purF l cs (allT l)++frA).ev x) (a.eval x):=fun x hx=>by
   rw[<-hev D o frA hom he x hx];exact hst'.ev x
  obtain ⟨d,hd⟩:∃d,yxa l cs i=some d:=by
   have:=hall i (by simpa using hil);rw[hhv]at this;simpa[Option.isSome_iff_exists]using this
  have hod:o.dst=some d:=by
   unfold yxa at hd;rw[hc,ho']at hd;simpa using hd
  refine hop.go g a _ _ hops hst'.so fun g' v h1 h2 h3 h4=>⟨hcl',(H,frA,σA),hm,hl,fun k hk hh=>?_,hD0,g',rfl,?_⟩
  .have hki:k≠i:=by rintro rfl;rw[hhv]at hh;cases hh
   unfold upd;rw[if_neg hki];exact hD k hk hh
  have hdN:d < E.N:=by
   have:=hN o hom;rw[hod]at this;exact jAd (by simpa using this)
  have hsz:=hst'.n;refine ⟨fun d' =>?_,by rw[hod];simp[Act.put,hsz],by rw[hod];exact hst'.df.mono h1.ext,hst'.so.grow h1 h2 (fun k _=>by rw[h3])⟩;have hget:(a.put o.dst v).tmps.getD d' undef=if d=d' then v else a.tmps.getD d' undef:=by
   rw[hod];simp only[Act.put];rw[qia];by_cases h5:d=d'
   .rw[if_pos ⟨h5,by omega⟩,if_pos h5]
   rw[if_neg (fun x=>h5 x.1),if_neg h5]
  rw[hget];by_cases h5:d=d'
  .subst h5;rw[if_pos rfl,qra l cs _ i c d hdist' (by rw[hbl];omega) hd hc,hbg _ i hil];have:upd D i i=true:=by unfold upd;rw[if_pos rfl]
   rw[this];exact h4
  rw[if_neg h5];have hsame:(purF l cs (bits (upd D i))++frA).get d' =(purF l cs (bits D)++frA).get d' :=by
   rcases hslot d' with ⟨j,c',q1,q2,q3⟩ | q1
   .rw[qra l cs _ j c' d' hdist' (by rw[hbl];omega) q1 q2,qra l cs _ j c' d' hdist' (by rw[hbl];omega) q1 q2,hbg _ j q3,hbg _ j q3];have hji:j≠i:=by rintro rfl;rw[hd]at q1;cases q1;exact h5 rfl
    unfold upd;rw[if_neg hji]
   rw[kAa l cs _ d' q1,kAa l cs _ d' q1]
  rw[hsame];exact (hst'.fr d').mono h1.ext (fun k _=>by rw[h3])
 | @sto o2 σ' σ2 fr2 j ho2 hc hop hn hf2 hs2=>
  rw[ho']at ho2;cases ho2;obtain ⟨q1,q2,q3⟩:=hheavy hc;refine (hop.go _ (hev D o frA hom he) (hhas D frA)).go g a _ _ hst' fun g' a' hst2=>⟨hcl',_,jAf hn,by simp[hl],q1,q2,g',rfl,hst2.le (fun d=>?_) hs2⟩
  rw[q3];rcases hslot d with ⟨k,c,h1,h2,h3⟩ | h1
  .rw[qra l cs _ k c d hdist' (by rw[hbl];omega) h1 h2,qra l cs _ k c d hdist' (by rw[hbl];omega) h1 h2];exact .inr (.inl rfl)
  rw[kAa l cs _ d h1,kAa l cs _ d h1];exact hf2 d
 | @dst o2 k c rs σ' σ2 fr2 j ho2 hc hk hrs hop hn hf2 hs2=>
  rw[ho']at ho2;cases ho2;obtain ⟨q1,q2,q3⟩:=hheavy hc;refine (hop.go _ (hev D o frA hom he) (hhas D frA)).go g a _ _ hst' fun g' a' hst2=>⟨hcl',_,jAf hn,by simp[hl],q1,q2,g',rfl,hst2.le (fun d=>?_) hs2⟩
  rw[q3];rcases hslot d with ⟨m,c',h1,h2,h3⟩ | h1
  .have hkd:k≠d:=by
    rintro rfl;have:=jAp.1 hk m (by simpa using h3);simp[h1]at this
   rw[Fr.get_cons,if_neg hkd,Fr.get_clrs,qra l cs _ m c' d hdist' (by rw[hbl];omega) h1 h2,qra l cs _ m c' d hdist' (by rw[hbl];omega) h1 h2];refine .inr (.inl ?_);cases (bits D).getD m false with
   | false=>exact Zza (by rw[jAp];intro r _;rfl)
   | true=>
    refine Zza ?_;have:=jAp.1 hrs _ (jAf h2);exact this
  have:=hf2 d;rw[Fr.get_cons,Fr.get_clrs]at this ⊢;rw[kAa l cs _ d h1,kAa l cs _ d h1];exact this
 | @put o2 rs σ' σ2 fr2 j ho2 hc hrs hop hn hf2 hs2=>
  rw[ho']at ho2;cases ho2;obtain ⟨q1,q2,q3⟩:=hheavy hc;refine (hop.go _ (hev D o frA hom he) (hhas D frA)).go g a _ _ hst' fun g' a' hst2=>⟨hcl',_,jAf hn,by simp[hl],q1,q2,g',rfl,hst2.le (fun d=>?_) hs2⟩
  rw[q3];rcases hslot d with ⟨m,c',h1,h2,h3⟩ | h1
  .rw[Fr.get_clrs,qra l cs _ m c' d hdist' (by rw[hbl];omega) h1 h2,qra l cs _ m c' d hdist' (by rw[hbl];omega) h1 h2];refine .inr (.inl ?_);cases (bits D).getD m false with
   | false=>exact Zza (by rw[jAp];intro r _;rfl)
   | true=>
    refine Zza ?_;have:=jAp.1 hrs _ (jAf h2);exact this
  have:=hf2 d;rw[Fr.get_clrs]at this ⊢;rw[kAa l cs _ d h1,kAa l cs _ d h1];exact this
section
variable {FR:Fr} {ty:TypeId} {pos:String} {af:Array Edge} {gu:Option (Nat × Bool)} {T:Tab} {P:Program} {id k r size bytes:Nat} {e t:TypeId} {zero:Value} {d:TypeDesc}
theorem mqz{o:Oper}{c:AV}(hT:zOa E.P T)(h:qval T FR.ev σ o.op=some c):OpG E o FR σ c:=qxa (Zwa hT h)
theorem yBb{o:Oper}{fr' fr2:Fr}{σ' σ2:Sto}(h:OpTo E o fr σ fr' σ')(hf:FrLe fr' fr2)(hs:kka σ' σ2):OpTo E o fr σ fr2 σ2:=
 ⟨fun g a K Q hst hK=>h.go g a K Q hst fun g' a' h' =>hK g' a' (h'.le hf hs)⟩
theorem qKa:kka σ σ:=fun _ _ h=>.inl h
theorem wcb{c:AV}:FrLe ((k,c)::fr) ((k,c)::fr.clrs []):=fun d=>by
 rw[Fr.get_cons,Fr.get_cons,Fr.get_clrs,Zza rfl];exact .inr (.inl rfl)
theorem wdb{c:AV}:FrLe ((k,c)::fr.clr r) ((k,c)::fr.clrs [r]):=fun d=>by
 rw[Fr.get_cons,Fr.get_cons,Fr.get_clrs,Fr.get_clr];refine .inr (.inl ?_);split
 .rfl
 simp[AV.clr,AV.clrs]
theorem zUb{α:Type}{F:α->List PV}{l xs r' :List α}{lim sb ss:Nat}{nl:Option Bool}{x y:Operand}{mu:Bool}{sz:Value}(hN:Nat.ble (k+1) E.N=true)(hx:FR.ev x=.hs r 0)(hr:σ.get r=some (.row e mu size (l.map F)))(hy:FR.ev y=.pv (.sl nl (xs.map F)))(ht:TyOk E.P t ss sb sz (.slice e))(he:TyOk E.P e size bytes zero d)
 (hzz:Nat.beq zero.cells.size size=true) (hs:Nat.ble 1 size=true) (hF:∀x,(F x).length=size) (hlim:(Nat.ble (lim * bytes) 140737488355328 && Nat.ble lim 9223372036854775807)=true) (h:app lim l xs=some r'):
 HvD E ⟨some k,.call ⟨.builtin .append, #[x,y], #[t,t]⟩,ty,pos,af,gu⟩ FR σ k (.hs r 0) [r] ((σ.clr r).upd r (.row e mu size (r'.map F))):=
 ⟨fun fr hE _=>yBb (WCa hN ((hE x (by simp[Op.operands,Call.operands])).trans hx) hr ((hE y (by simp[Op.operands,Call.operands])).trans hy) ht he hzz hs hF hlim h) wdb qKa⟩
end
end
section
section
variable {P:Program} {ρ:Operand->AV} {σ:Sto} {dst:Option Tmp} {ty:TypeId} {pos:String} {af:Array Edge} {gu:Option (Nat × Bool)} {x y:Operand} {t t' :TypeId} {ss sb ss' sb' :Nat} {sz sz' :Value} {a b n:Int}
end
end
structure zoa where
 Code:Int
 Index:Int
def zoa.pc(x:zoa):List PV:=[pI x.Code,pI x.Index]
structure jba where
 Address:Str
 To:List Str
def jba.pc(x:jba):List PV:=[pS x.Address,pL cS x.To]
structure zta where
 Address:Str
 Notify:Int
def zta.pc(x:zta):List PV:=[pS x.Address,pI x.Notify]
structure via where
 From:Str
 To:List zta
 Id:Str
def via.pc(x:via):List PV:=[pS x.From,pL zta.pc x.To,pS x.Id]
structure zca where
 Name:Str
 Value:Str
def zca.pc(x:zca):List PV:=[pS x.Name,pS x.Value]
structure zda where
 Fields:List zca
 Body:List UInt8
def zda.pc(x:zda):List PV:=[pL zca.pc x.Fields,pL cU x.Body]
structure WOa where
 Envelope:via
 Message:zda
def WOa.pc(x:WOa):List PV:=[pS x.Envelope.From,pL zta.pc x.Envelope.To,pS x.Envelope.Id,pL zca.pc x.Message.Fields,pL cU x.Message.Body]
structure jBa where
 Year:Int
 Month:Int
 Day:Int
 Hour:Int
 Minute:Int
 Second:Int
 Zone:Int
def jBa.pc(x:jBa):List PV:=[pI x.Year,pI x.Month,pI x.Day,pI x.Hour,pI x.Minute,pI x.Second,pI x.Zone]
structure jja where
 Name:Str
 Mail:WOa
 Pipelined:Bool
 Buffer:List UInt8
 Expected:Int
 Whole:Bool
 Done:Bool
 Results:List Int
def jja.pc(x:jja):List PV:=[pS x.Name,pS x.Mail.Envelope.From,pL zta.pc x.Mail.Envelope.To,pS x.Mail.Envelope.Id,pL zca.pc x.Mail.Message.Fields,pL cU x.Mail.Message.Body,pB x.Pipelined,pL cU x.Buffer,pI x.Expected,pB x.Whole,pB x.Done,pL cI x.Results]
structure kna where
 Client:jja
 content:List UInt8
 chunk:Bool
 out:List UInt8
def kna.pc(x:kna):List PV:=[pS x.Client.Name,pS x.Client.Mail.Envelope.From,pL zta.pc x.Client.Mail.Envelope.To,pS x.Client.Mail.Envelope.Id,pL zca.pc x.Client.Mail.Message.Fields,pL cU x.Client.Mail.Message.Body,pB x.Client.Pipelined,pL cU x.Client.Buffer,pI x.Client.Expected,pB x.Client.Whole,pB x.Client.Done,pL cI x.Client.Results,pL cU x.content,pB x.chunk,pL cU x.out]
structure zpa where
 Fields:List zca
 Body:List UInt8
 Parts:List zpa
def zpa.pcn:Nat->zpa->List PV
 | 0,x=>[pL zca.pc x.Fields,pL cU x.Body,.sl none []]
 | n+1,x=>[pL zca.pc x.Fields,pL cU x.Body,pL (zpa.pcn n) x.Parts]
structure q5a where
 part:zpa
 depth:Int
structure zna where
 Name:Str
 Value:Str
def zna.pc(x:zna):List PV:=[pS x.Name,pS x.Value]
structure kEa where
 Type_:Str
 Sub:Str
 Params:List zna
def kEa.pc(x:kEa):List PV:=[pS x.Type_,pS x.Sub,pL zna.pc x.Params]
structure zfa where
 s:Str
def zfa.pc(x:zfa):List PV:=[pS x.s]
structure zia where
 name:Str
 number:Int
 star:Bool
 value:Str
def zia.pc(x:zia):List PV:=[pS x.name,pI x.number,pB x.star,pS x.value]
structure zea where
 many:Int
 fault:zoa
def zea.pc(x:zea):List PV:=[pI x.many,pI x.fault.Code,pI x.fault.Index]
def zN0(x:jBa):List AV:=[.i x.Year,.i x.Month,.i x.Day,.i x.Hour,.i x.Minute,.i x.Second,.i x.Zone]
section
open Go.RowKit Go.Lib Go.Proofs.Tryz
variable {E:Env} {fr:Fr} {σ:Sto} {K:Post} {T:Tab} {l:List Oper} {cs:List (Option AV)} {all:List Node} {H:List Bool}
theorem vGa.of:∀{is:List Nat},(∀i∈is,qyb E l cs all H fr σ i)->vGa E l cs all H fr σ is
 | [],_=>.nil
 | i::is,h=>.cons (h i (by simp)) (vGa.of fun j hj=>h j (by simp[hj]))
def JQa(T:Tab)(l:List Oper)(cs:List (Option AV))(fr:Fr)(σ:Sto)(i:Nat):Option AV:=(l[i]?).bind fun o=>qval T (purF l cs (allT l)++fr).ev σ o.op
def Kpa(cs:List (Option AV))(i:Nat):Option AV:=(cs[i]?).bind id
def ZAa(l:List Oper)(cs:List (Option AV))(H:List Bool)(is:List Nat):List Nat:=(mayL l cs H).filter fun i=> !is.contains i
theorem ms_all(hT:zOa E.P T)(is:List Nat)(h1:((ZAa l cs H is).map (JQa T l cs fr σ),(ZAa l cs H is).all (fun i=>(Kpa cs i).isSome))=((ZAa l cs H is).map (Kpa cs),true))(h2:vGa E l cs all H fr σ is):vGa E l cs all H fr σ (mayL l cs H):=by
 refine vGa.of fun i hi=>?_
 by_cases hc:is.contains i=true
 .exact h2.get (by simpa using hc)
 have hm:i∈ZAa l cs H is:=by
  unfold ZAa;rw[List.mem_filter];exact ⟨hi,by simpa using hc⟩
 have e1:=congrArg Prod.fst h1;have e2:=congrArg Prod.snd h1;have hq:JQa T l cs fr σ i=Kpa cs i:=List.map_inj_left.1 e1 i hm;have hs:(Kpa cs i).isSome=true:=jAp.1 e2 i hm;obtain ⟨c,hcc⟩:=Option.isSome_iff_exists.1 hs;rw[hcc]at hq;obtain ⟨o,ho,hv⟩:=jDf.1 hq;obtain ⟨x,hx,hxc⟩:=jDf.1 hcc;have hxc:x=some c:=hxc;subst hxc;exact .pure ho hx (qxa (Zwa hT hv))
theorem mn(hT:zOa E.P T)(is:List Nat)(h1:(((List.range l.length).all fun i=> !(isHv cs i) || H.getD i false),(ZAa l cs H is).map (JQa T l cs fr σ),(ZAa l cs H is).all (fun i=>(Kpa cs i).isSome))=(false,(ZAa l cs H is).map (Kpa cs),true))(h2:vGa E l cs all H fr σ is):JPa E l cs K all (H,fr,σ):=
 .step _ rfl (congrArg Prod.fst h1) (ms_all hT is (congrArg Prod.snd h1) h2)
theorem mf(hT:zOa E.P T)(is:List Nat)(frJ:Fr)(h1:((ZAa l cs H is).map (JQa T l cs fr σ),(ZAa l cs H is).all (fun i=>(Kpa cs i).isSome))=((ZAa l cs H is).map (Kpa cs),true))(h2:vGa E l cs all H fr σ is)(hf:FrLe (purF l cs (allT l)++fr) frJ)(h:K .normal frJ σ):JPa E l cs K all (H,fr,σ):=
 .full _ rfl (ms_all hT is h1 h2) hf qKa h
theorem mdt(j:Nat){i k:Nat}{o:Oper}{c:AV}{rs:List Nat}{σ' :Sto}(ho:l[i]? =some o)(h:HvD E o (purF l cs (allT l)++fr) σ k c rs σ')(e:(((List.range l.length).all fun i=>yxa l cs i !=some k),vtb cs rs,cs[i]?,all[j]?)=(true,true,some none,some (H.set i true,(k,c)::fr.clrs rs,σ'))):qyb E l cs all H fr σ i:=
 .dst j ho (congrArg (fun x=>x.2.2.1) e) (congrArg (fun x=>x.1) e) (congrArg (fun x=>x.2.1) e) h (congrArg (fun x=>x.2.2.2) e) kPa qKa
theorem hv_g{o:Oper}{k:Nat}{c:AV}(hk:o.dst=some k)(hN:Nat.ble (k+1) E.N=true)(h:OpG E o fr σ c):HvD E o fr σ k c [] σ:=
 ⟨fun f2 he _=>yBb (w8b hk hN ⟨fun g a K Q hx=>h.go g a K Q fun x hm=>by rw[<-he x hm];exact hx x hm⟩) wcb qKa⟩
end
section
open Go.RowKit Go.Lib Go.Proofs.Tryz
variable {E:Env} {fr:Fr} {σ:Sto} {K:Post} {T:Tab} {l:List Oper} {cs:List (Option AV)} {all:List Node} {H:List Bool}
def tget:List (Nat × AV)->Nat->Option AV
 | [],_=>none
 | (k,c)::r,i=>bif Nat.beq k i then some c else tget r i
def zrun(T:Tab)(N:Nat)(tl:List (Nat × AV)):List Oper->Nat->Fr->Sto->Option (List (Option AV) × List Sto × Sto)
 | [],_,_,σ=>some ([],[],σ)
 | o::r,i,fr,σ=>match o.dst with
  | none=>(match opDo T N o fr σ with
   | some (_,σ')=>(match zrun T N tl r (i+1) fr σ' with
    | some (cs,ss,sj)=>some (none::cs,σ' ::ss,sj)
    | none=>none)
   | none=>none)
  | some d=>(match (match tget tl i with | some c=>some c | none=>qval T fr.ev σ o.op) with
   | some c=>(match zrun T N tl r (i+1) ((d,c)::fr) σ with
    | some (cs,ss,sj)=>some (some c::cs,ss,sj)
    | none=>none)
   | none=>none)
def hvL(l:List Oper)(cs:List (Option AV)):List Nat:=(List.range l.length).filter (isHv cs)
def hvH(l:List Oper)(cs:List (Option AV))(k:Nat):List Bool:=(List.range l.length).map fun i=>((hvL l cs).take k).contains i
def stoK(σ:Sto)(ss:List Sto)(k:Nat):Sto:=(σ::ss).getD k σ
def nodK(l:List Oper)(cs:List (Option AV))(fr:Fr)(σ:Sto)(ss:List Sto)(k:Nat):Node:=(hvH l cs k,fr,stoK σ ss k)
def nods(l:List Oper)(cs:List (Option AV))(fr:Fr)(σ:Sto)(ss:List Sto):List Node:=(List.range ((hvL l cs).length+1)).map (nodK l cs fr σ ss)
def purK(l:List Oper)(cs:List (Option AV))(tl:List (Nat × AV))(k:Nat):List Nat:=(mayL l cs (hvH l cs k)).filter fun i=> !(isHv cs i) && (tget tl i).isNone
def stoD(T:Tab)(N:Nat)(l:List Oper)(cs:List (Option AV))(fr:Fr)(σ:Sto)(ss:List Sto)(k:Nat):Option Sto:=match l[(hvL l cs).getD k 0]? with
 | some o=>(match o.dst with
  | none=>(opDo T N o (purF l cs (allT l)++fr) (stoK σ ss k)).map Prod.snd
  | some _=>none)
 | none=>none
def zchk(N:Nat)(tl:List (Nat × AV))(l:List Oper)(cs:List (Option AV)):Bool:=
 vub N l cs &&
 ((List.range ((hvL l cs).length+1)).all fun k=>(mayL l cs (hvH l cs k)).all fun i=> !(isHv cs i) || (Nat.beq i ((hvL l cs).getD k 0) && Nat.ble (k+1) (hvL l cs).length)) &&
 ((List.range (hvL l cs).length).all fun k=>((hvH l cs k).set ((hvL l cs).getD k 0) true==hvH l cs (k+1)) && !((List.range l.length).all fun i=> !(isHv cs i) || (hvH l cs k).getD i false)) &&
 (hvH l cs 0==List.replicate l.length false) &&
 ((List.range ((hvL l cs).length+1)).all fun k=>(purK l cs tl k).all fun i=>(Kpa cs i).isSome)
inductive Told (E:Env) (l:List Oper) (cs:List (Option AV)) (fr:Fr) (L:List Sto):List (Nat × AV)->Prop
 | nil:Told E l cs fr L []
 | cons {i:Nat} {c:AV} {o:Oper} {r:List (Nat × AV)} (ho:l[i]? =some o) (hc:cs[i]? =some (some c)) (h:∀s,s∈L->OpG E o (purF l cs (allT l)++fr) s c) (hr:Told E l cs fr L r):Told E l cs fr L ((i,c)::r)
theorem t0{o:Oper}{FR:Fr}{c:AV}(h:OpG E o FR σ c):∀s,s∈ [σ]->OpG E o FR s c:=fun s hs=>by
 rw[jDg.1 hs];exact h
theorem Told.get{L:List Sto}{tl:List (Nat × AV)}(h:Told E l cs fr L tl){i:Nat}(hi:(tget tl i).isSome=true):∃o c,l[i]? =some o/\cs[i]? =some (some c)/\∀s,s∈L->OpG E o (purF l cs (allT l)++fr) s c:=by
 induction h with
 | nil=>cases hi
 | @cons k c o r ho hc h _ ih=>
  unfold tget at hi;cases hb:Nat.beq k i with
  | true=>
   have:=jAi hb;subst this;exact ⟨o,c,ho,hc,h⟩
  | false=>rw[hb]at hi;exact ih hi
theorem Zya.of:∀{r:List Node},(∀nd∈r,JPa E l cs K all nd)->Zya E l cs K all r
 | [],_=>.nil
 | nd::r,h=>.cons (h nd (by simp)) (Zya.of fun x hx=>h x (by simp[hx]))
theorem opDo_sto{N:Nat}{o:Oper}{FR:Fr}{p:Fr × Sto}(hT:zOa E.P T)(hN:N=E.N)(hd:o.dst=none)(h:opDo T N o FR σ=some p):HvS E o FR σ p.2:=by
 subst hN;obtain ⟨f2,σ'⟩:=p;refine ⟨fun fr he _=>?_⟩;refine JHa hT ?_;obtain ⟨dst,op,ty,pos,af,gu⟩:=o;dsimp only at hd;subst hd;unfold opDo at h ⊢;dsimp only at h ⊢;cases op
 case store t x y=>
  have e1:=he x (by simp[Op.operands,Call.operands]);have e2:=he y (by simp[Op.operands,Call.operands]);dsimp only at h ⊢;rw[e1,e2];split at h
  .rename_i row hr;split at h
   .rename_i b off hx;split at h
    .rename_i cs' ho;split at h
     .rename_i vs hy;cases hb:(Nat.beq vs.length row.size && Nat.ble (off+vs.length) cs'.length) with
      | false=>rw[hb]at h;cases h
      | true=>
       rw[hb]at h;simp only[cond_true]at h ⊢;split at h
       .rename_i c2 hc2;split at h
        .rename_i s2 hs2;cases h;simp only[hr,hx,ho,hy,hb,hc2,hs2,cond_true]
        cases h
       cases h
     cases h
    cases h
   cases h
  cases h
 all_goals cases h
theorem mc(hT:zOa E.P T){id:Nat}(tl:List (Nat × AV))(frJ:Fr){ss:List Sto}{σJ:Sto}(hmix:E.P.follows .mixedOrders=true)(hz:zrun T E.N tl l 0 fr σ=some (cs,ss,σJ))
 (hk:(zchk E.N tl l cs,(List.range ((hvL l cs).length+1)).map (fun k=>(purK l cs tl k).map (JQa T l cs fr (stoK σ ss k))),(List.range (hvL l cs).length).map (stoD T E.N l cs fr σ ss),stoK σ ss (hvL l cs).length)=(true,(List.range ((hvL l cs).length+1)).map (fun k=>(purK l cs tl k).map (Kpa cs)),(List.range (hvL l cs).length).map (fun k=>some (stoK σ ss (k+1))),σJ))
 (ht:Told E l cs fr (σ::ss) tl) (hf:FrLe (purF l cs (allT l)++fr) frJ) (h:K .normal frJ σJ):AWP E (.region id l.toArray true) fr σ K:=by
 have k1:=congrArg (fun x=>x.1) hk;have k2:=congrArg (fun x=>x.2.1) hk;have k3:=congrArg (fun x=>x.2.2.1) hk;have k4:=congrArg (fun x=>x.2.2.2) hk;dsimp only at k1 k2 k3 k4;rw[<-k4]at h;have hin:∀k,stoK σ ss k∈σ::ss:=fun k=>by
  unfold stoK;rw[jAn];cases hg:(σ::ss)[k]? with
  | none=>simp
  | some s=>exact jAf hg
 simp only[zchk,jAk,jAp]at k1;obtain ⟨⟨⟨⟨q1,q2⟩,q3⟩,q4⟩,q5⟩:=k1;have hget:∀k,k < (hvL l cs).length+1->(nods l cs fr σ ss)[k]? =some (nodK l cs fr σ ss k):=fun k hk=>by
  unfold nods;rw[jAj,List.getElem?_range hk];rfl
 refine YRa cs (nods l cs fr σ ss) hmix q1 (hget 0 (by omega)) (by simpa using q4) kPa qKa (Zya.of fun nd hnd=>?_);obtain ⟨k,hk',rfl⟩:=jBl.1 hnd;have hkr:k < (hvL l cs).length+1:=by simpa using hk'
 have steps:vGa E l cs (nods l cs fr σ ss) (hvH l cs k) fr (stoK σ ss k) (mayL l cs (hvH l cs k)):=vGa.of fun i hi=>by
  have hi2:=q2 k (by simpa using hkr) i hi;cases hh:isHv cs i with
  | true=>
   rw[hh]at hi2;simp only[jAx,Bool.false_or,jAk]at hi2;have hik:=jAi hi2.1;have hkn:=jAd hi2.2;have h3:=List.map_inj_left.1 k3 k (jCm.2 (by omega));have hq3:=q3 k (jCm.2 (by omega));simp only[jAk,beq_iff_eq]at hq3;unfold stoD at h3;rw[<-hik]at h3 hq3;split at h3
   .rename_i o ho;split at h3
    .rename_i hd;obtain ⟨p,hp,hp2⟩:=jAh.1 h3;have hc:cs[i]? =some none:=by
      unfold isHv at hh;split at hh
      .rename_i e;exact e
      cases hh
     have hs:=opDo_sto hT rfl hd hp;rw[hp2]at hs;exact .sto (k+1) ho hc hs (by rw[hget (k+1) (by omega)];unfold nodK;rw[hq3.1]) kPa qKa
    cases h3
   cases h3
  | false=>
   cases htl:tget tl i with
   | some c0=>
    obtain ⟨o,c,e1,e2,e3⟩:=ht.get (i:=i) (by rw[htl];rfl);exact .pure e1 e2 (e3 _ (hin k))
   | none=>
    have hm:i∈purK l cs tl k:=by
     unfold purK;rw[List.mem_filter];exact ⟨hi,by rw[hh,htl];rfl⟩
    have e1:=List.map_inj_left.1 k2 k (by simpa using hkr);have hq:JQa T l cs fr (stoK σ ss k) i=Kpa cs i:=List.map_inj_left.1 e1 i hm;have hs:=q5 k (by simpa using hkr) i hm;obtain ⟨c,hcc⟩:=Option.isSome_iff_exists.1 hs;rw[hcc]at hq;obtain ⟨o,ho,hv⟩:=jDf.1 hq;obtain ⟨x,hx,hxc⟩:=jDf.1 hcc;have hxc:x=some c:=hxc;subst hxc;exact .pure ho hx (qxa (Zwa hT hv))
 by_cases hkn:k < (hvL l cs).length
 .have hq3:=q3 k (by simpa using hkn);simp only[jAk,jBp]at hq3;exact .step _ rfl hq3.2 steps
 have:k=(hvL l cs).length:=by omega
 subst this;exact .full _ rfl steps hf qKa h
end
section
open Go.RowKit Go.Lib Go.Proofs.Tryz
def Fr.mp(f:AV->AV):Fr->Fr
 | []=>[]
 | (k,c)::l=>(k,f c)::Fr.mp f l
def AO.mp(f:AV->AV):AO->AO
 | .cells cs=>.cells (cs.map f)
 | .hold c v=>.hold (f c) v
 | o=>o
def Sto.mp(f:AV->AV):Sto->Sto
 | []=>[]
 | (k,a)::l=>(k,a.mp f)::Sto.mp f l
theorem Fr.get_mp{f:AV->AV}(h0:f .any=.any)(fr:Fr)(d:Nat):(fr.mp f).get d=f (fr.get d):=by
 induction fr with
 | nil=>exact h0.symm
 | cons x l ih=>
  obtain ⟨k,c⟩:=x;simp only[Fr.mp,Fr.get_cons,ih];split <;> rfl
theorem Sto.get_mp(f:AV->AV)(σ:Sto)(o:Nat):(σ.mp f).get o=(σ.get o).map (AO.mp f):=by
 induction σ with
 | nil=>rfl
 | cons x l ih=>
  obtain ⟨k,c⟩:=x;simp only[Sto.mp,Sto.get_cons,ih];split <;> rfl
theorem AO.own_mp(f:AV->AV)(ob:AO)(l:Loc):(ob.mp f).own l=ob.own l:=by cases ob <;> rfl
def AV.on(f:AV->AV):AV->AV
 | .agg l=>.agg (l.map f)
 | c=>f c
theorem rel_on{g g' :G}{f:AV->AV}(hf:∀c v,Rel g c v->Rel g' (f c) v){c:AV}{v:Value}(h:Rel g c v):Rel g' (AV.on f c) v:=by
 cases c
 case agg cs=>
  cases h with
  | agg hl hc h=>
   refine .agg (by simp[hl]) hc fun i c hi=>?_
   simp only[jAj,jAh]at hi;obtain ⟨c',h1,rfl⟩:=hi;exact hf _ _ (h i c' h1)
 all_goals exact hf _ _ h
variable {E:Env} {fr:Fr} {σ:Sto} {K:Post}
theorem St.turn{g g' :G}{a:Act}(h:St E g a fr σ){r:Nat}{ob0 ob:AO}(hr:σ.get r=some ob0)(R:List Nat)(hR:r ∉ R)(f:AV->AV)(hf0:f .any=.any)(hf:∀c v,Rel g c v->Rel g' (f c) v)
 (hx:Ext g.w g.u g'.w g'.u) (hl:∀k,k≠r->g'.loc k=g.loc k) (hos:g'.w.os=g.w.os) (htape:g'.w.tape=g.w.tape) (hout:g'.w.output=g.w.output)
 (hb:∀b,b < g.w.heap.size->(∀o ob1,(o=r∨o∈R)->σ.get o=some ob1->¬ob1.own (g.loc o) b)->g'.w.heap[b]? =g.w.heap[b]? /\g'.u b=g.u b) (hwf:Wf g') (hob:RelO g' r ob)
 (hnew:∀b,ob.own (g'.loc r) b->(∃o ob1,(o=r∨o∈R)/\σ.get o=some ob1/\ob1.own (g.loc o) b)∨g.w.heap.size<=b):St E g' a (fr.mp f) (((σ.dels R).mp f).upd r ob):=by
 have hgr:((σ.dels R).mp f).get r=some (ob0.mp f):=by rw[Sto.get_mp,Sto.get_dels,if_neg hR,hr];rfl
 have hget:∀o ob',(((σ.dels R).mp f).upd r ob).get o=some ob' ->(o=r/\ob' =ob)∨(o≠r/\o ∉ R/\∃ob1,σ.get o=some ob1/\ob' =ob1.mp f):=by
  intro o ob' ho;rw[Sto.get_upd hgr]at ho;split at ho
  .rename_i hor;cases ho;exact .inl ⟨hor,rfl⟩
  rename_i hor;rw[Sto.get_mp,Sto.get_dels]at ho;split at ho
  .cases ho
  rename_i hoR;cases ho1:σ.get o with
  | none=>rw[ho1]at ho;cases ho
  | some ob1=>rw[ho1]at ho;cases ho;exact .inr ⟨hor,hoR,ob1,rfl,rfl⟩
 have hdis:∀o ob1 b,o≠r->o ∉ R->σ.get o=some ob1->ob1.own (g.loc o) b->∀o' ob2,(o' =r∨o' ∈R)->σ.get o' =some ob2->¬ob2.own (g.loc o') b:=by
  intro o ob1 b hne hnR ho hbo o' ob2 ho' h2 hc;have:=h.so.apart o o' ob1 ob2 b ho h2 hbo hc;subst this;rcases ho' with rfl | ho'
  .exact hne rfl
  exact hnR ho'
 refine ⟨fun d=>by rw[Fr.get_mp hf0];exact hf _ _ (h.fr d),h.n,h.df.mono hx,⟨?_,?_,?_,?_,hwf⟩⟩
 .intro o ob' ho;rcases hget o ob' ho with ⟨rfl,rfl⟩ | ⟨hne,hnR,ob1,ho1,rfl⟩
  .exact hob
  have hro:=h.so.obj o ob1 ho1;have hbb:∀b,ob1.own (g.loc o) b->g'.w.heap[b]? =g.w.heap[b]? /\g'.u b=g.u b:=fun b hb' =>hb b (hro.block_lt hb') (hdis o ob1 b hne hnR ho1 hb')
  cases ob1
  case cells cs=>
   cases hro with
   | @cells _ b t vs h1 h2 h3 h4 h5 h6=>
    obtain ⟨b1,b2⟩:=hbb b (by rw[h1];rfl);refine .cells ((hl o hne).trans h1) (b1.trans h2) (by simpa using h3) (b2.trans h4) h5 fun i c hi=>?_
    simp only[jAj,jAh]at hi;obtain ⟨c',hc',rfl⟩:=hi;exact hf _ _ (h6 i c' hc')
  case hold c v=>cases hro with
   | hold h1=>exact .hold (hf _ _ h1)
  all_goals exact hro.mono hx (hl o hne) (fun _ hk=>by cases hk) hbb
 .intro o o' ob1 ob2 b h1 h2 h3 h4;rcases hget o ob1 h1 with ⟨rfl,rfl⟩ | ⟨hne,hnR,ob1,ho1,rfl⟩ <;> rcases hget o' ob2 h2 with ⟨rfl,rfl⟩ | ⟨hne',hnR',ob2,ho2,rfl⟩
  .rfl
  .rw[AO.own_mp,hl o' hne']at h4;rcases hnew b h3 with ⟨q,obq,hq,hq1,hq2⟩ | h5
   .exact absurd hq2 (hdis o' ob2 b hne' hnR' ho2 h4 q obq hq hq1)
   have:=(h.so.obj o' _ ho2).block_lt h4;omega
  .rw[AO.own_mp,hl o hne]at h3;rcases hnew b h4 with ⟨q,obq,hq,hq1,hq2⟩ | h5
   .exact absurd hq2 (hdis o ob1 b hne hnR ho1 h3 q obq hq hq1)
   have:=(h.so.obj o _ ho1).block_lt h3;omega
  rw[AO.own_mp,hl o hne]at h3;rw[AO.own_mp,hl o' hne']at h4;exact h.so.apart o o' _ _ b ho1 ho2 h3 h4
 .intro o ob1 b h1 h2;rcases hget o ob1 h1 with ⟨rfl,rfl⟩ | ⟨hne,hnR,ob1,ho1,rfl⟩
  .rcases hnew b h2 with ⟨q,obq,hq,hq1,hq2⟩ | h5
   .exact h.so.mine q obq b hq1 hq2
   exact .inl (jBg h.so.old.ext.size h5)
  rw[AO.own_mp,hl o hne]at h2;exact h.so.mine o _ b ho1 h2
 refine h.so.old.trans ⟨hos,htape,hout,hx,fun b hbl hs=>hb b hbl fun q obq hq hq1 hq2=>?_⟩;rcases h.so.mine q obq b hq1 hq2 with h1 | h1
 .exact hs (.inr h1)
 exact hs (.inl h1)
def ZBa(size2:Nat):Loc->Loc
 | .row b off cap size n=>.nest b off cap size n size2 []
 | l=>l
def AV.nst(r:Nat):AV->AV
 | .hs x off=>bif Nat.beq x r then .ns r else .hs x off
 | c=>bif c.has r then .any else c
theorem YSa{g g' :G}{r:Nat}(hx:Ext g.w g.u g'.w g'.u)(hl:∀k,k≠r->g'.loc k=g.loc k){c:AV}{v:Value}(h:Rel g c v):Rel g' (bif c.has r then .any else c) v:=Jua hx hl h
theorem rel_nst{g g' :G}{r size2:Nat}(hx:Ext g.w g.u g'.w g'.u)(hk:∀k,k≠r->g'.loc k=g.loc k)(hl:g'.loc r=ZBa size2 (g.loc r)){c:AV}{v:Value}(h:Rel g c v):Rel g' (c.nst r) v:=by
 cases c
 case hs x off=>
  cases hb:Nat.beq x r with
  | true=>
   rw[show AV.nst r (.hs x off)=.ns r by show (bif Nat.beq x r then AV.ns r else AV.hs x off)=_;rw[hb];rfl];have:x=r:=jAi hb;subst this;cases h with
   | hsNil a h1=>exact .nsNil a (by rw[hl,h1];rfl)
   | hs h1 h2=>exact .ns (size2:=size2) (subs:=[]) (by rw[hl,h1];rfl) h2
  | false=>
   rw[show AV.nst r (.hs x off)=.hs x off by show (bif Nat.beq x r then AV.ns r else AV.hs x off)=_;rw[hb];rfl];have hne:x≠r:=by rintro rfl;simp at hb
   exact h.mono hx fun k hk' =>hk k (by have:=jAi (show Nat.beq x k=true from hk');subst this;exact hne)
 all_goals exact YSa hx hk h
theorem St.nest{g:G}{a:Act}{r size:Nat}{e:TypeId}{elems:List (List PV)}(h:St E g a fr σ)(hr:σ.get r=some (.row e true size elems))(j:Nat)(e2:TypeId)(size2:Nat):
 St E ⟨g.w,g.u,fun k=>if k=r then ZBa size2 (g.loc r) else g.loc k⟩ a (fr.mp (AV.on (AV.nst r))) (((σ.dels []).mp (AV.on (AV.nst r))).upd r (.nrow e size j e2 size2 0 elems)):=by
 have hl:(⟨g.w,g.u,fun k=>if k=r then ZBa size2 (g.loc r) else g.loc k⟩:G).loc r=ZBa size2 (g.loc r):=if_pos rfl;have hob:=h.so.obj r _ hr;have hbl:(ZBa size2 (g.loc r)).block=(g.loc r).block/\(∀b,b∈(ZBa size2 (g.loc r)).subs->(g.loc r).block=some b):=by
  cases hob with
  | nil h1=>rw[h1];exact ⟨rfl,fun b hb=>by cases hb⟩
  | row h1=>rw[h1];exact ⟨rfl,fun b hb=>by cases hb⟩
 refine h.turn (g' :=⟨g.w,g.u,fun k=>if k=r then ZBa size2 (g.loc r) else g.loc k⟩) hr [] (by simp) _ rfl (fun c v=>rel_on fun c v=>rel_nst (g:=g) (g' :=⟨g.w,g.u,fun k=>if k=r then ZBa size2 (g.loc r) else g.loc k⟩) (Ext.refl _ _) (fun k hk=>if_neg hk) hl) (Ext.refl _ _) (fun k hk=>if_neg hk) rfl rfl rfl (fun _ _ _=>⟨rfl,rfl⟩) h.so.wf ?_ (fun b hb=>.inl ⟨r,_,.inl rfl,hr,?_⟩)
 .cases hob with
  | nil h1=>exact .nrowNil (by rw[hl,h1];rfl)
  | row h1 h2 h3 h4 h5 h6 h7 h8 h9=>exact .nrow (subs:=[]) (by rw[hl,h1];rfl) h2 h3 h4 h5 h6 (h8 rfl) rfl (jBz _) (by simp[vFa]) (fun i j' x c hi hj _=>h9 i j' x c hi hj) (fun i s x hi=>by simp at hi)
 rcases hb with hb | hb
 .rw[hl,hbl.1]at hb;exact hb
 rw[hl]at hb;exact hbl.2 b hb
theorem V0a.pub{w:World}{u:Nat->Nat}{e:TypeId}{mu:Bool}{size:Nat}{rows:List (List PV)}{s:Nat × Nat × Nat × Nat}{v:Value}(h:V0a w u e mu size rows s v){u' :Nat->Nat}(hx:Ext0 w u w u')(hu:(s.2.1+s.2.2.2) * size<=u' s.1):RelP w u' (.sl none rows) v:=by
 obtain ⟨vs,h1,h2,h3⟩:=h.blk;have hv:=h.val;rw[<-h.n]at hv;subst hv;have hne:rows≠ []:=by rintro rfl;have:=h.pos;rw[<-h.n]at this;simp at this
 have hle:rows.length<=s.2.2.1:=by rw[h.n];exact h.le
 refine .sl size s.1 (s.2.1 * size) (fun i=>vs.getD (s.2.1 * size+i) undef) (fun x hx=>by cases hx) (fun hx=>by cases hx) hle h.z (fun _=>rfl) (fun _=>⟨?_,zNa h1⟩) (fun i hi=>?_) (fun i j x c hi hj=>?_)
 .rw[<-jBb,h.n];exact hu
 .refine ksa h1 ?_;rw[h2,jBb];have:=jAw size hle;omega
 have:=(h3 i j x c hi hj).mono0 hx;rw[show (s.2.1+i) * size+j=s.2.1 * size+(i * size+j) by rw[jBb];omega]at this;exact this
theorem k3b.pub{w:World}{u:Nat->Nat}{e:TypeId}{size:Nat}{rows:List (List PV)}{s:Option (Nat × Nat × Nat × Nat)}{v:Value}(h:k3b w u e size rows s v){u' :Nat->Nat}(hx:Ext0 w u w u')(hu:∀t,s=some t->(t.2.1+t.2.2.2) * size<=u' t.1):RelP w u' (.sl none rows) v:=by
 cases s with
 | none=>
  obtain ⟨rfl,a,cap,rfl,h0⟩:=h;have:=RelP.sl (w:=w) (u:=u') (nl:=none) (elems:=[]) (a:=a) (cap:=cap) 1 0 0 (fun _=>undef) (fun x hx=>by cases hx) (fun hx=>⟨h0 hx,rfl⟩) (by simp) (by simp) (by simp) (by simp) (fun i hi=>by simp at hi) (fun i j e c hi=>by simp at hi);exact this
 | some t=>exact V0a.pub h hx (hu t rfl)
end
section
open Go.RowKit Go.Lib Go.Proofs.Tryz
variable {E:Env} {fr:Fr} {σ:Sto} {K:Post} {P:Program} {ρ:Operand->AV}
variable {dst:Option Tmp} {ty:TypeId} {pos:String} {af:Array Edge} {gu:Option (Nat × Bool)}
section
variable {α β:Type} {F:α->List PV} {G2:β->List PV} {l:List α} {l2:List β} {r size size2 bytes sb ss k j m:Nat} {e e2 t:TypeId} {zero sz:Value} {d:TypeDesc} {x y:Operand}
structure NAt (g:G) (r:Nat) (e:TypeId) (size j:Nat) (e2:TypeId) (size2 m:Nat) (F:α->List PV) (l:List α) (b off cap:Nat) (vs:Array Value) (subs:List (Option (Nat × Nat × Nat × Nat))):Prop where
 loc:g.loc r=.nest b off cap size l.length size2 subs
 heap:g.w.heap[b]? =some (.cells vs e (0,0))
 sz:vs.size=(off+cap) * size
 max:cap<=maxLen
 le:l.length<=cap
 z:∀x∈l,(F x).length=size
 u:g.u b=0
 sl:subs.length=m
 ml:m<=l.length
 nd:(b::vFa subs).Nodup
 cell:∀i j' x c,l[i]? =some x->(F x)[j']? =some c->(m<=i∨j' ≠j)->RelP g.w g.u c (vs.getD ((off+i) * size+j') undef)
 sub:∀i s x,subs[i]? =some s->l[i]? =some x->∃rows,(F x)[j]? =some (.sl none rows)/\k3b g.w g.u e2 size2 rows s (vs.getD ((off+i) * size+j) undef)
theorem NAt.obj{g:G}{b off cap:Nat}{vs:Array Value}{subs:List (Option (Nat × Nat × Nat × Nat))}(h:NAt g r e size j e2 size2 m F l b off cap vs subs):RelO g r (.nrow e size j e2 size2 m (l.map F)):=
 .nrow (by rw[jAu];exact h.loc) h.heap h.sz h.max (by rw[jAu];exact h.le) (fun x hx=>by obtain ⟨y,hy,rfl⟩:=jBl.1 hx;exact h.z y hy) h.u h.sl (by rw[jAu];exact h.ml) h.nd
  (fun i j' x c hi hj hc=>by
   simp only[jAj,jAh]at hi;obtain ⟨y,hy,rfl⟩:=hi;exact h.cell i j' y c hy hj hc)
  (fun i s x hi hx=>by
   simp only[jAj,jAh]at hx;obtain ⟨y,hy,rfl⟩:=hx;exact h.sub i s y hi hy)
theorem NAt.place{g:G}{b off cap i q:Nat}{vs:Array Value}{subs:List (Option (Nat × Nat × Nat × Nat))}(h:NAt g r e size j e2 size2 m F l b off cap vs subs)(hi:i < l.length)(hq:q < size):(off+i) * size+q < vs.size:=by
 rw[h.sz];exact qhb (s:=1) hi h.le hq
section
variable {t' :TypeId} {size' bytes' :Nat} {zero' :Value} {d' :TypeDesc} {n:Int} {j0:Nat} {v v' :α} {c:PV}
theorem V0a.lt{w:World}{u:Nat->Nat}{mu:Bool}{s:Nat × Nat × Nat × Nat}{vx:Value}{i q:Nat}{vs:Array Value}(h:V0a w u e mu size (l.map F) s vx)(hsz:vs.size=(s.2.1+s.2.2.1) * size)(hi:i < l.length)(hq:q < size):(s.2.1+i) * size+q < vs.size:=by
 rw[hsz];have h1:=h.n;have h2:=h.le;rw[jAu]at h1;exact qhb (s:=1) (n:=l.length) hi (by omega) hq
end
end
end
section
open Go.RowKit Go.Lib Go.Proofs.Tryz
structure Wrote (w w' :World) (b p:Nat) (t:TypeId) (cur new:Array Value) (cl:List Value):Prop where
 os:w'.os=w.os
 tape:w'.tape=w.tape
 output:w'.output=w.output
 size:w'.heap.size=w.heap.size
 other:∀k,k≠b->w'.heap[k]? =w.heap[k]?
 here:w'.heap[b]? =some (.cells new t (0,0))
 sz:new.size=cur.size
 inn:∀q,q < cl.length->new.getD (p+q) undef=cl.getD q undef
 out:∀q,(q < p∨p+cl.length<=q)->new.getD q undef=cur.getD q undef
theorem Wrote.ext{w w' :World}{b p:Nat}{t:TypeId}{cur new:Array Value}{cl:List Value}{u:Nat->Nat}(h:Wrote w w' b p t cur new cl)(hb:w.heap[b]? =some (.cells cur t (0,0)))(hu:u b=0):Ext w u w' u:=⟨jBs h.size.symm,fun _ _=>jAq _,fun k i hk hi=>by
 by_cases hkb:k=b
 .subst hkb;omega
 simp only[World.cell?];rw[h.other k hkb],fun r hr=>(h.other r (by rintro rfl;rw[hb]at hr;cases hr)).trans hr⟩
variable {E:Env} {fr:Fr} {σ:Sto} {K:Post} {P:Program} {ρ:Operand->AV}
variable {dst:Option Tmp} {ty:TypeId} {pos:String} {af:Array Edge} {gu:Option (Nat × Bool)}
section
variable {α β:Type} {F:α->List PV} {G2:β->List PV} {l:List α} {l2:List β} {r r2 size size2 bytes sb ss k j m:Nat} {e e2 t:TypeId} {zero sz:Value} {d:TypeDesc} {x y:Operand}
variable {t' :TypeId} {size' bytes' :Nat} {zero' :Value} {d' :TypeDesc} {n:Int} {j0:Nat} {v v' :α} {c:PV}
end
end
section
open Go.RowKit Go.Lib Go.Proofs.Tryz
def zVb(l l' :Loc):Prop:=l' =l∨(∃b off cap size n size2 subs more,l=.nest b off cap size n size2 subs/\l' =.nest b off cap size n size2 (subs++more))∨∃b subs subs',l=.mapr b subs/\l' =.mapr b subs'
theorem zVb.plain{l l' :Loc}(h:zVb l l')(hn:∀b off cap size n size2 subs,l≠ .nest b off cap size n size2 subs/\l≠ .mapr b subs):l' =l:=by
 rcases h with h | ⟨b,off,cap,size,n,size2,subs,more,h,_⟩ | ⟨b,subs,subs',h,_⟩
 .exact h
 .exact absurd h (hn _ _ _ _ _ _ _).1
 exact absurd h (hn b 0 0 0 0 0 subs).2
theorem zVb.mapr{l' :Loc}{b:Nat}{subs:List (Option (Nat × Nat × Nat × Nat))}(h:zVb (.mapr b subs) l'):∃subs',l' =.mapr b subs' :=by
 rcases h with h | ⟨b',off',cap',size',n',size2',subs',more,h,h2⟩ | ⟨b',s1,s2,h,h2⟩
 .exact ⟨_,h⟩
 .cases h
 cases h;exact ⟨_,h2⟩
theorem zVb.nest{l' :Loc}{b off cap size n size2:Nat}{subs:List (Option (Nat × Nat × Nat × Nat))}(h:zVb (.nest b off cap size n size2 subs) l'):∃more,l' =.nest b off cap size n size2 (subs++more):=by
 rcases h with h | ⟨b',off',cap',size',n',size2',subs',more,h,h2⟩ | ⟨b',s1,s2,h,h2⟩
 .exact ⟨[],by rw[List.append_nil];exact h⟩
 .cases h;exact ⟨more,h2⟩
 cases h
theorem JRa{α:Type}{l more:List α}{i:Nat}{x:α}(h:l[i]? =some x):(l++more)[i]? =some x:=by
 rw[jAo (jAc.1 h).1];exact h
theorem Rel.more{g g' :G}(hx:Ext g.w g.u g'.w g'.u){c:AV}{v:Value}(h:Rel g c v):(∀o,c.has o=true->zVb (g.loc o) (g'.loc o))->Rel g' c v:=by
 have hx0:=hx.to0;induction h with
 | any v=>exact fun _=>.any v
 | pv h=>exact fun _=>.pv (h.mono0 hx0)
 | @agg cs vs hl hc h ih=>exact fun hh=>.agg hl hc (fun i c hi=>ih i c hi fun o ho=>hh o (by unfold AV.has;exact AV.hasL_of hi ho))
 | @tup cs vs hl h ih=>exact fun hh=>.tup hl (fun i c hi=>ih i c hi fun o ho=>hh o (by unfold AV.has;exact AV.hasL_of hi ho))
 | @ptr o off b hl=>exact fun hh=>.ptr (by have:=hh o (by simp[AV.has]);rw[hl]at this;exact this.plain (by intros;simp))
 | @ep cells b off val hu hb hcell h=>exact fun hh=>Rel.mono hx (.ep val hu hb hcell h) (fun o ho=>by cases ho)
 | @hsNil r a hl=>exact fun hh=>.hsNil a (by have:=hh r (by simp[AV.has]);rw[hl]at this;exact this.plain (by intros;simp))
 | @hs r b off cap size n a hl ha=>exact fun hh=>.hs (by have:=hh r (by simp[AV.has]);rw[hl]at this;exact this.plain (by intros;simp)) ha
 | @hp r idx j b off cap size n hl hi=>exact fun hh=>.hp (by have:=hh r (by simp[AV.has]);rw[hl]at this;exact this.plain (by intros;simp)) hi
 | @fn f first captured fv cv h1 h2 hf hc ihf ihc=>
  exact fun hh=>.fn h1 h2 (fun i c hi=>ihf i c hi fun o ho=>hh o (by simp[AV.has,AV.hasL_of hi ho])) (fun i c hi=>ihc i c hi fun o ho=>hh o (by simp[AV.has,AV.hasL_of hi ho]))
 | @mp o b hl=>exact fun hh=>.mp (by have:=hh o (by simp[AV.has]);rw[hl]at this;exact this.plain (by intros;simp))
 | @hsubNil r lo a hl=>exact fun hh=>.hsubNil a (by have:=hh r (by simp[AV.has]);rw[hl]at this;exact this.plain (by intros;simp))
 | @hsub r lo b off cap size n a hl hle ha=>exact fun hh=>.hsub (by have:=hh r (by simp[AV.has]);rw[hl]at this;exact this.plain (by intros;simp)) hle ha
 | z0 a=>exact fun _=>.z0 a
 | ifc h=>exact fun _=>.ifc h
 | @hpreNil r a hl=>exact fun hh=>.hpreNil a (by have:=hh r (by simp[AV.has]);rw[hl]at this;exact this.plain (by intros;simp))
 | @hpre r hi b off cap size n a hl hle ha=>exact fun hh=>.hpre (by have:=hh r (by simp[AV.has]);rw[hl]at this;exact this.plain (by intros;simp)) hle ha
 | @nsNil r a hl=>exact fun hh=>.nsNil a (by have:=hh r (by simp[AV.has]);rw[hl]at this;exact this.plain (by intros;simp))
 | @ns r b off cap size n size2 subs a hl ha=>exact fun hh=>by have:=hh r (by simp[AV.has]);rw[hl]at this;obtain ⟨more,h2⟩:=this.nest;exact .ns h2 ha
 | @np r idx j b off cap size n size2 subs hl hi=>exact fun hh=>by have:=hh r (by simp[AV.has]);rw[hl]at this;obtain ⟨more,h2⟩:=this.nest;exact .np h2 hi
 | @hnNil r idx b off cap size n size2 subs a cap2 hl hs=>exact fun hh=>by have:=hh r (by simp[AV.has]);rw[hl]at this;obtain ⟨more,h2⟩:=this.nest;exact .hnNil a cap2 h2 (JRa hs)
 | @hn r idx b off cap size n size2 b2 off2 cap2 n2 subs hl hs=>exact fun hh=>by have:=hh r (by simp[AV.has]);rw[hl]at this;obtain ⟨more,h2⟩:=this.nest;exact .hn h2 (JRa hs)
 | @hnp r idx k j b off cap size n size2 b2 off2 cap2 n2 subs hl hs hk=>exact fun hh=>by have:=hh r (by simp[AV.has]);rw[hl]at this;obtain ⟨more,h2⟩:=this.nest;exact .hnp h2 (JRa hs) hk
 | nn h=>exact fun _=>.nn h
 | @ls o b hl=>exact fun hh=>.ls (by have:=hh o (by simp[AV.has]);rw[hl]at this;exact this.plain (by intros;simp))
 | @mr o b subs hl=>exact fun hh=>by have:=hh o (by simp[AV.has]);rw[hl]at this;obtain ⟨s,h2⟩:=this.mapr;exact .mr h2
variable {E:Env} {fr:Fr} {σ:Sto} {K:Post} {P:Program} {ρ:Operand->AV}
variable {dst:Option Tmp} {ty:TypeId} {pos:String} {af:Array Edge} {gu:Option (Nat × Bool)}
section
variable {α β:Type} {F:α->List PV} {G2:β->List PV} {l:List α} {l2:List β} {r r2 size size2 bytes sb ss k j m:Nat} {e e2 t:TypeId} {zero sz:Value} {d:TypeDesc} {x y:Operand}
variable {t' :TypeId} {size' bytes' :Nat} {zero' :Value} {d' :TypeDesc} {n:Int} {j0:Nat} {v v' :α} {c:PV}
end
end
section
open Go.RowKit Go.Lib Go.Proofs.Tryz
variable {E:Env} {fr:Fr} {σ:Sto} {K:Post} {P:Program} {ρ:Operand->AV}
variable {dst:Option Tmp} {ty:TypeId} {pos:String} {af:Array Edge} {gu:Option (Nat × Bool)}
section
variable {α β:Type} {F:α->List PV} {G2:β->List PV} {l r' :List α} {l2:List β} {r r2 o size size2 bytes sb ss k j m lim:Nat} {e e2 t:TypeId} {zero sz:Value} {d:TypeDesc} {x y:Operand} {v:α} {cs:List AV}
end
end
section
open Go.RowKit Go.Lib Go.Proofs.Tryz
variable {E:Env} {fr:Fr} {σ:Sto} {K:Post}
theorem St.split{g g' :G}{a:Act}(h:St E g a fr σ){r r1:Nat}{ob0 ob ob1:AO}(hr:σ.get r=some ob0)(hf1:fr.has r1=false)(hs1:σ.has r1=false)(hg1:σ.get r1=none)(hw:g'.w=g.w)(hu:g'.u=g.u)(hl:∀k,k≠r->k≠r1->g'.loc k=g.loc k)(hle:zVb (g.loc r) (g'.loc r))
 (hok:ob0.has r1=false) (hob:RelO g' r ob) (hob1:RelO g' r1 ob1) (hsub:∀b,ob.own (g'.loc r) b->ob0.own (g.loc r) b) (hsub1:∀b,ob1.own (g'.loc r1) b->ob0.own (g.loc r) b) (hdis:∀b,ob.own (g'.loc r) b->¬ob1.own (g'.loc r1) b)
 (hhas:∀o ob2,o≠r->σ.get o=some ob2->ob2.has r=true->∃cs,ob2=.cells cs∨∃c v,ob2=.hold c v):St E g' a fr ((r1,ob1)::σ.upd r ob):=by
 have hne:r≠r1:=by rintro rfl;rw[hr]at hg1;cases hg1
 have hx:Ext g.w g.u g'.w g'.u:=by rw[hw,hu];exact Ext.refl _ _
 have hrel:∀c v,c.has r1=false->Rel g c v->Rel g' c v:=fun c v hc hv=>hv.more hx fun o ho=>by
  by_cases h1:o=r
  .subst h1;exact hle
  by_cases h2:o=r1
  .subst h2;rw[hc]at ho;cases ho
  exact .inl (hl o h1 h2)
 have hgu:=Sto.get_upd (ob:=ob) hr;have hget:∀o ob',Sto.get ((r1,ob1)::σ.upd r ob) o=some ob' ->(o=r1/\ob' =ob1)∨(o=r/\ob' =ob)∨(o≠r/\o≠r1/\σ.get o=some ob'):=by
  intro o ob' ho;rw[Sto.get_cons]at ho;split at ho
  .rename_i h1;cases ho;exact .inl ⟨h1.symm,rfl⟩
  rename_i h1;rw[hgu]at ho;split at ho
  .rename_i h2;cases ho;exact .inr (.inl ⟨h2,rfl⟩)
  rename_i h2;exact .inr (.inr ⟨h2,Ne.symm h1,ho⟩)
 refine ⟨fun d=>hrel _ _ ?_ (h.fr d),h.n,by rw[hw];exact h.df,⟨?_,?_,?_,?_,fun k hk=>by rw[hu];exact h.so.wf k (by rw[<-hw];exact hk)⟩⟩
 .cases hh:(fr.get d).has r1 with
  | false=>rfl
  | true=>rw[Fr.has_get hh]at hf1;cases hf1
 .intro o ob' ho;rcases hget o ob' ho with ⟨rfl,rfl⟩ | ⟨rfl,rfl⟩ | ⟨h1,h2,ho⟩
  .exact hob1
  .exact hob
  have hro:=h.so.obj o ob' ho;have hn:ob'.has r1=false:=by
   cases hh:ob'.has r1 with
   | false=>rfl
   | true=>rw[Sto.has_get ho hh]at hs1;cases hs1
  cases ob' with
  | cells cs=>
   cases hro with
   | @cells _ b t vs q1 q2 q3 q4 q5 q6=>
    refine .cells ((hl o h1 h2).trans q1) (by rw[hw];exact q2) q3 (by rw[hu];exact q4) q5 fun i c hi=>hrel c _ ?_ (q6 i c hi)
    cases hh:c.has r1 with
    | false=>rfl
    | true=>rw[show (AO.cells cs).has r1=AV.hasL r1 cs from rfl,AV.hasL_of hi hh]at hn;cases hn
  | hold c v=>cases hro with
   | hold q1=>exact .hold (hrel c _ hn q1)
  | _=>exact hro.mono hx (hl o h1 h2) (fun _ hk=>by cases hk) fun b _=>by rw[hw,hu];exact ⟨rfl,rfl⟩
 .intro o o' oa ob' b h1 h2 h3 h4;rcases hget o oa h1 with ⟨rfl,rfl⟩ | ⟨rfl,rfl⟩ | ⟨p1,p2,p3⟩ <;> rcases hget o' ob' h2 with ⟨rfl,rfl⟩ | ⟨rfl,rfl⟩ | ⟨q1,q2,q3⟩
  .rfl
  .exact absurd h3 (hdis b h4)
  .rw[hl o' q1 q2]at h4;exact absurd (h.so.apart r o' _ _ b hr q3 (hsub1 b h3) h4) (Ne.symm q1)
  .exact absurd h4 (hdis b h3)
  .rfl
  .rw[hl o' q1 q2]at h4;exact absurd (h.so.apart o o' _ _ b hr q3 (hsub b h3) h4) (Ne.symm q1)
  .rw[hl o p1 p2]at h3;exact absurd (h.so.apart o r _ _ b p3 hr h3 (hsub1 b h4)) p1
  .rw[hl o p1 p2]at h3;exact absurd (h.so.apart o o' _ _ b p3 hr h3 (hsub b h4)) p1
  rw[hl o p1 p2]at h3;rw[hl o' q1 q2]at h4;exact h.so.apart o o' _ _ b p3 q3 h3 h4
 .intro o oa b h1 h2;rcases hget o oa h1 with ⟨rfl,rfl⟩ | ⟨rfl,rfl⟩ | ⟨p1,p2,p3⟩
  .exact h.so.mine r _ b hr (hsub1 b h2)
  .exact h.so.mine o _ b hr (hsub b h2)
  rw[hl o p1 p2]at h2;exact h.so.mine o _ b p3 h2
 exact ⟨by rw[hw];exact h.so.old.os,by rw[hw];exact h.so.old.tape,by rw[hw];exact h.so.old.output,h.so.old.ext.trans hx,fun b hb hs=>by rw[hw,hu];exact h.so.old.block b hb hs⟩
section
variable {κ β:Type} [BEq κ] [LawfulBEq κ] {KK:KeyK κ} {G2:β->List PV} {P:Program} {ρ:Operand->AV} {t kt e e1:TypeId} {m x y:Operand} {o r size sz1 bytes k0:Nat} {d:TypeDesc} {es:List (κ × List β)} {k:κ} {l:List β}
variable {dst:Option Tmp} {ty:TypeId} {pos:String} {af:Array Edge} {gu:Option (Nat × Bool)}
abbrev mencR(KK:KeyK κ)(G2:β->List PV)(es:List (κ × List β)):List (Value × List (List PV)):=es.map fun p=>(KK.kf p.1,p.2.map G2)
structure MAt (g:G) (o:Nat) (e:TypeId) (size:Nat) (tk:Option Nat) (KK:KeyK κ) (G2:β->List PV) (es:List (κ × List β)) (b clock:Nat) (ents:Array MapEntry) (subs:List (Option (Nat × Nat × Nat × Nat))):Prop where
 loc:g.loc o=.mapr b subs
 heap:g.w.heap[b]? =some (.map ents clock)
 u:g.u b=0
 n:ents.size=es.length
 sl:subs.length=es.length
 nd:(b::vFa subs).Nodup
 key:∀(i:Nat) p x,es[i]? =some p->ents[i]? =some x->x.key=KK.kf p.1
 cv:∀(i:Nat) x,ents[i]? =some x->cellV x.val=true
 ent:∀(i:Nat) p x,es[i]? =some p->ents[i]? =some x->(tk=some i/\subs[i]? =some none∨tk≠some i/\∃s,subs[i]? =some (some s)/\V0a g.w g.u e false size (p.2.map G2) s x.val)
theorem MAt.obj{g:G}{tk:Option Nat}{b clock:Nat}{ents:Array MapEntry}{subs:List (Option (Nat × Nat × Nat × Nat))}(h:MAt g o e1 size tk KK G2 es b clock ents subs):RelO g o (.mapr e1 size tk (mencR KK G2 es)):=
 .mapr h.loc h.heap h.u (by simpa[mencR]using h.n) (by simpa[mencR]using h.sl) h.nd fun i k' rows hi=>by
  simp only[mencR,jAj,jAh,Prod.mk.injEq]at hi;obtain ⟨p,hp,rfl,rfl⟩:=hi;have hlt:i < ents.size:=by rw[h.n];exact (jAc.1 hp).1
  have hx:=Array.getElem?_eq_getElem hlt;exact ⟨_,hx,h.key i p _ hp hx,h.cv i _ hx,h.ent i p _ hp hx⟩
def Voa:Loc->Loc
 | .map b=>.mapr b []
 | l=>l
def AV.mrs(o:Nat):AV->AV
 | .mp x=>bif Nat.beq x o then .mr o else .mp x
 | c=>bif c.has o then .any else c
theorem rel_mrs{g g' :G}(hx:Ext g.w g.u g'.w g'.u)(hk:∀k,k≠o->g'.loc k=g.loc k)(hl:g'.loc o=Voa (g.loc o)){c:AV}{v:Value}(h:Rel g c v):Rel g' (c.mrs o) v:=by
 cases c
 case mp x=>
  cases hb:Nat.beq x o with
  | true=>
   rw[show AV.mrs o (.mp x)=.mr o by show (bif Nat.beq x o then AV.mr o else AV.mp x)=_;rw[hb];rfl];have:x=o:=jAi hb;subst this;cases h with
   | mp h1=>exact .mr (subs:=[]) (by rw[hl,h1];rfl)
  | false=>
   rw[show AV.mrs o (.mp x)=.mp x by show (bif Nat.beq x o then AV.mr o else AV.mp x)=_;rw[hb];rfl];have hne:x≠o:=by rintro rfl;simp at hb
   exact h.mono hx fun k hk' =>hk k (by have:=jAi (show Nat.beq x k=true from hk');subst this;exact hne)
 all_goals exact YSa hx hk h
theorem St.mapr{g:G}{a:Act}(h:St E g a fr σ)(ho:σ.get o=some (.mapo false []))(e:TypeId)(size:Nat):
 St E ⟨g.w,g.u,fun k=>if k=o then Voa (g.loc o) else g.loc k⟩ a (fr.mp (AV.on (AV.mrs o))) (((σ.dels []).mp (AV.on (AV.mrs o))).upd o (.mapr e size none [])):=by
 have hl:(⟨g.w,g.u,fun k=>if k=o then Voa (g.loc o) else g.loc k⟩:G).loc o=Voa (g.loc o):=if_pos rfl;have hob:=h.so.obj o _ ho;generalize hms:([]:List (Value × List PV))=ms at hob;cases hob with
 | @mapo _ _ b clock ents h1 h2 h3 h4 h5=>
  subst hms;refine h.turn (g' :=⟨g.w,g.u,fun k=>if k=o then Voa (g.loc o) else g.loc k⟩) ho [] (by simp) _ rfl (fun c v=>rel_on fun c v=>rel_mrs (g:=g) (g' :=⟨g.w,g.u,fun k=>if k=o then Voa (g.loc o) else g.loc k⟩) (Ext.refl _ _) (fun k hk=>if_neg hk) hl) (Ext.refl _ _) (fun k hk=>if_neg hk) rfl rfl rfl (fun _ _ _=>⟨rfl,rfl⟩) h.so.wf ?_ (fun q hq=>.inl ⟨o,_,.inl rfl,ho,?_⟩)
  .exact .mapr (subs:=[]) (by rw[hl,h1];rfl) h2 h3 h4 rfl (by simp[vFa]) (fun i k rows hi=>by simp at hi)
  rw[hl,h1]at hq;rw[h1];rcases hq with hq | hq
  .exact hq
  cases hq
end
end
section
section
variable {E:Env} {ρ:Operand->AV} {P:Program} {fr FR:Fr} {σ:Sto} {dst:Option Nat} {ty:TypeId} {pos:String} {af:Array Edge} {gu:Option (Nat × Bool)}
end
section
variable {E:Env} {FR:Fr} {σ:Sto} {ty:TypeId} {pos:String} {af:Array Edge} {gu:Option (Nat × Bool)} {α β:Type} {F:α->List PV} {G2:β->List PV} {l:List α} {l2:List β} {e e2 t' :TypeId} {size size2 size' bytes' j j0 m r r2:Nat} {zero' :Value} {d' :TypeDesc} {x y:Operand} {n n2:Int} {v v' :α} {w2 w2' :β} {pcs:List PV}
end
end
section
section
variable {P:Program} {t:TypeId}
variable {ρ:Operand->AV} {σ:Sto} {dst:Option Nat} {ty:TypeId} {pos:String} {af:Array Edge} {gu:Option (Nat × Bool)} {x y:Operand} {ss sb:Nat} {sz:Value}
end
end
section
variable {E:Env} {fr:Fr} {σ:Sto} {K:Post} {k:KS} {ops:Array Oper} {T:Tab} {c:AV} {t ty:TypeId} {pos:String} {af:Array Edge} {row:WIa}
theorem zWb(m:Nat):∀(k i:Nat),zMb m [] k i=[(List.range' i k).map fun j=> !(Nat.ble m j)]
 | 0,i=>rfl
 | k+1,i=>by
  unfold zMb;rw[zWb m k (i+1),List.range'_succ];cases h:Nat.ble m i <;> simp[h]
theorem zXb:∀(cs:List AV) (bs:List Bool),cs.length<=bs.length->(bs.take cs.length).all id=true->zOb cs bs=cs
 | [],bs,_,_=>by cases bs <;> rfl
 | c::cs,[],h,_=>by simp at h
 | c::cs,b::bs,h,hb=>by
  simp at h hb;unfold zOb;rw[zXb cs bs (by omega) (by simpa using hb.2),hb.1];rfl
theorem drX0{id:Nat}{l:List Oper}(m:Nat)(new:Fr){cs:List AV}{az:ObX}{σ' :Sto}(hmix:E.P.follows .mixedOrders=true)(hok:Vma l m m []=true)(hm:Nat.ble m l.length=true)(hN:((l.take m).all fun o=>o.dst.all fun d=>Nat.ble (d+1) E.N)=true)
 (hT:zOa E.P []) (hp:w6a E l.toArray (new++fr) σ (l.take m) cs az) (hfree:v6b fr σ cs az=true) (hσ:objX (fun _=>true) 0 az++σ=σ') (hnew:w3a (l.take m) cs []=new) (h:AWPL E l.toArray (l.drop m) (new++fr) σ' K):AWP E (.region id l.toArray true) fr σ K:=by
 have hm' :=jAd hm;have hlen:cs.length=m:=by rw[hp.len.1,jBv];omega
 have hl:WLa [] E.N l m m [] 1 cs fr σ' =some [(new++fr,σ')]:=by
  unfold WLa;rw[zWb];have hall:List.all (List.take m ((List.range' 0 l.length).map fun j=> !(Nat.ble m j))) _root_.id=true:=by
   rw[jAp];intro x hx;obtain ⟨i,hi,rfl⟩:=List.mem_iff_getElem.1 hx;simp at hi;cases hb:Nat.ble m i with
   | true=>have:=jAd hb;omega
   | false=>simp[hb]
  have hmask:=zXb cs ((List.range' 0 l.length).map fun j=> !(Nat.ble m j)) (by simp;omega) (by rw[hlen];exact hall);have ht:WKa [] E.N l m 1 ((List.range' 0 l.length).map fun j=> !(Nat.ble m j)) (w3a (l.take m) (zOb cs ((List.range' 0 l.length).map fun j=> !(Nat.ble m j))) []++fr) σ' =some [(new++fr,σ')]:=by
   rw[hmask,hnew];unfold WKa;rw[hall]
  unfold qrb;dsimp only;rw[ht];rfl
 exact YQa m m 1 [] new (new++fr) σ' hT hmix hok (Nat.ble_eq_true_of_le (jAq _)) hm rfl hN hp hfree hσ hnew hl (fun p hp=>by
  rw[jDg.1 hp];exact ⟨kPa,qKa⟩) h
theorem drA{id:Nat}{l:List Oper}(m:Nat)(new:Fr){cs:List AV}{az:ObX}{σ' :Sto}(hmix:E.P.follows .mixedOrders=true)(hok:Vma l m m []=true)(hm:Nat.ble m l.length=true)(hN:((l.take m).all fun o=>o.dst.all fun d=>Nat.ble (d+1) E.N)=true)
 (hp:w6a E l.toArray (new++fr) σ (l.take m) cs az) (hfree:v6b fr σ cs az=true) (hσ:objX (fun _=>true) 0 az++σ=σ') (hnew:w3a (l.take m) cs []=new) (h:(GS.ops l.toArray (l.drop m) (new++fr) σ' k).holds E):(GS.code (.region id l.toArray true) fr σ k).holds E:=
 drX0 m new hmix hok hm hN (fun t r h=>by cases h) hp hfree hσ hnew h
theorem yCb:∀(az:ObX) (n:Nat),(az.all fun x=>x.isNone)=true->idX az=[]/\objX (fun _=>true) n az=[]
 | [],_,_=>⟨rfl,rfl⟩
 | none::az,n,h=>yCb az (n+1) (by simpa using h)
 | some x::az,n,h=>by simp at h
theorem dr{id:Nat}{l:List Oper}(m:Nat)(new:Fr){cs:List AV}{az:ObX}(hmix:E.P.follows .mixedOrders=true)(hok:Vma l m m []=true)(hm:Nat.ble m l.length=true)(hN:((l.take m).all fun o=>o.dst.all fun d=>Nat.ble (d+1) E.N)=true)
 (hp:w6a E l.toArray (new++fr) σ (l.take m) cs az) (hnew:w3a (l.take m) cs []=new) (h:(GS.ops l.toArray (l.drop m) (new++fr) σ k).holds E) (hz:(az.all fun x=>x.isNone)=true:=by rfl):(GS.code (.region id l.toArray true) fr σ k).holds E:=by
 obtain ⟨h1,h2⟩:=yCb az 0 hz;refine drX0 m new hmix hok hm hN (fun t r h=>by cases h) hp ?_ (by rw[h2];rfl) hnew h;unfold v6b;rw[h1];simp[Koa];intro x hx;cases x <;> simp
theorem pqA{o:Oper}{l:List Oper}{cs:List AV}{az:ObX}(hT:zOa E.P T)(hq:qval T fr.ev σ o.op=some c)(hg:kHa ops fr o)(hr:w6a E ops fr σ l cs az):w6a E ops fr σ (o::l) (c::cs) (none::az):=pqX hT hq hg hr
theorem pq{o:Oper}{l:List Oper}{cs:List AV}{az:ObX}(hT:zOa E.P T)(hq:qval T fr.ev σ o.op=some c)(hg:kHa ops fr o)(hr:w6a E ops fr σ l cs az):w6a E ops fr σ (o::l) (c::cs) (none::az):=pqX hT hq hg hr
theorem pnA{d:Nat}{gu:Option (Nat × Bool)}{l:List Oper}{cs ds:List AV}{az:ObX}(id:Nat)(hT:zOa E.P T)(ht:T.get t=some row)(hz:w5a (row.zero.cells.toList.map vfa)=some ds)(hz2:row.zero.cells.toList.all cellV=true)(hg:kHa ops fr ⟨some d,.alloc t,ty,pos,af,gu⟩)(hr:w6a E ops fr σ l cs az):w6a E ops fr σ (⟨some d,.alloc t,ty,pos,af,gu⟩::l) (.ptr id 0::cs) (some (id,.cells ds)::az):=pnX id hT ht hz hz2 hg hr
end
theorem mixed:prog.follows .mixedOrders=true:=by kernel_rfl
def kna.sto(x:kna):Sto:=[(90000000,.cells [.s x.Client.Name,.s x.Client.Mail.Envelope.From,.l zta.pc x.Client.Mail.Envelope.To,.s x.Client.Mail.Envelope.Id,.l zca.pc x.Client.Mail.Message.Fields,.l cU x.Client.Mail.Message.Body,.bo x.Client.Pipelined,.l cU x.Client.Buffer,.i x.Client.Expected,.bo x.Client.Whole,.bo x.Client.Done,.hs 90000012 0,.l cU x.content,.bo x.chunk,.hs 90000015 0]),(90000012,.row 3 true 1 (List.map cI x.Client.Results)),(90000015,.row 5 false 1 (List.map cU x.out))]
def zfa.sto(x:zfa):Sto:=[(90008000,.cells [.s x.s])]
def zea.sto(x:zea):Sto:=[(90007000,.cells [.i x.many,.i x.fault.Code,.i x.fault.Index])]
theorem JSa:CmpOk prog 38:=⟨by kernel_rfl,by kernel_rfl⟩
theorem qzb (w : World) : Sem.run prog (Array.mapM (fun (f : Field) => do pure (f.offset, <- sizeOf f.type)) #[⟨"Year", 3, 0, false, "", "", 0⟩, ⟨"Month", 3, 1, false, "", "", 8⟩, ⟨"Day", 3, 2, false, "", "", 16⟩, ⟨"Hour", 3, 3, false, "", "", 24⟩, ⟨"Minute", 3, 4, false, "", "", 32⟩, ⟨"Second", 3, 5, false, "", "", 40⟩, ⟨"Zone", 3, 6, false, "", "", 48⟩]) w = .ok #[(0, 1), (1, 1), (2, 1), (3, 1), (4, 1), (5, 1), (6, 1)] w := by kernel_rfl
theorem zYb (w : World) : Sem.run prog (Array.mapM (fun (f : Field) => do pure (f.offset, <- sizeOf f.type)) #[⟨"Code", 3, 0, false, "", "", 0⟩, ⟨"Index", 3, 1, false, "", "", 8⟩]) w = .ok #[(0, 1), (1, 1)] w := by kernel_rfl
theorem zZb (w : World) : Sem.run prog (Array.mapM (fun (f : Field) => do pure (f.offset, <- sizeOf f.type)) #[⟨"Name", 9, 0, false, "", "", 0⟩, ⟨"Value", 9, 1, false, "", "", 16⟩]) w = .ok #[(0, 1), (1, 1)] w := by kernel_rfl
theorem z0b (w : World) : Sem.run prog (Array.mapM (fun (f : Field) => do pure (f.offset, <- sizeOf f.type)) #[⟨"Type", 9, 0, false, "", "", 0⟩, ⟨"Sub", 9, 1, false, "", "", 16⟩, ⟨"Params", 125, 2, false, "", "", 32⟩]) w = .ok #[(0, 1), (1, 1), (2, 1)] w := by kernel_rfl
theorem Yoa (w : World) : Sem.run prog (Array.mapM (fun (f : Field) => do pure (f.offset, <- sizeOf f.type)) #[⟨"Fields", 23, 0, false, "", "", 0⟩, ⟨"Body", 24, 1, false, "", "", 24⟩]) w = .ok #[(0, 1), (1, 1)] w := by kernel_rfl
theorem z1b (w : World) : Sem.run prog (Array.mapM (fun (f : Field) => do pure (f.offset, <- sizeOf f.type)) #[⟨"Name", 9, 0, false, "", "", 0⟩, ⟨"Value", 9, 1, false, "", "", 16⟩]) w = .ok #[(0, 1), (1, 1)] w := by kernel_rfl
theorem qAb (w : World) : Sem.run prog (Array.mapM (fun (f : Field) => do pure (f.offset, <- sizeOf f.type)) #[⟨"Fields", 23, 0, false, "", "", 0⟩, ⟨"Body", 24, 1, false, "", "", 24⟩, ⟨"Parts", 40, 2, false, "", "", 48⟩]) w = .ok #[(0, 1), (1, 1), (2, 1)] w := by kernel_rfl
theorem Ypa (w : World) : Sem.run prog (Array.mapM (fun (f : Field) => do pure (f.offset, <- sizeOf f.type)) #[⟨"name", 9, 0, false, "", "posthouse/media", 0⟩, ⟨"number", 3, 1, false, "", "posthouse/media", 16⟩, ⟨"star", 4, 2, false, "", "posthouse/media", 24⟩, ⟨"value", 9, 3, false, "", "posthouse/media", 32⟩]) w = .ok #[(0, 1), (1, 1), (2, 1), (3, 1)] w := by kernel_rfl
theorem WPa (w : World) : Sem.run prog (Array.mapM (fun (f : Field) => do pure (f.offset, <- sizeOf f.type)) #[⟨"s", 9, 0, false, "", "posthouse/media", 0⟩]) w = .ok #[(0, 1)] w := by kernel_rfl
theorem Vpa (w : World) : Sem.run prog (Array.mapM (fun (f : Field) => do pure (f.offset, <- sizeOf f.type)) #[⟨"many", 3, 0, false, "", "posthouse/parts", 0⟩, ⟨"fault", 28, 1, false, "", "posthouse/parts", 8⟩]) w = .ok #[(0, 1), (1, 2)] w := by kernel_rfl
theorem V3a (w : World) : Sem.run prog (Array.mapM (fun (f : Field) => do pure (f.offset, <- sizeOf f.type)) #[⟨"part", 42, 0, false, "", "posthouse/parts", 0⟩, ⟨"depth", 3, 3, false, "", "posthouse/parts", 72⟩]) w = .ok #[(0, 3), (3, 1)] w := by kernel_rfl
theorem Vqa:TyOk prog 183 12 96 (.agg #[.int .i64 0,.int .i64 0,.int .i64 0,.int .i64 0,.int .i64 0,.int .i64 0,.int .i64 0,.int .i64 0,.int .i64 0,.int .i64 0,.int .i64 0,.int .i64 0]) (.array 12 3):=⟨by kernel_rfl,by kernel_rfl⟩
theorem jXa:TyOk prog 112 12 192 (.agg #[.string ⟨#[]⟩,.string ⟨#[]⟩,.string ⟨#[]⟩,.string ⟨#[]⟩,.string ⟨#[]⟩,.string ⟨#[]⟩,.string ⟨#[]⟩,.string ⟨#[]⟩,.string ⟨#[]⟩,.string ⟨#[]⟩,.string ⟨#[]⟩,.string ⟨#[]⟩]) (.array 12 9):=⟨by kernel_rfl,by kernel_rfl⟩
theorem ZCa:TyOk prog 110 7 112 (.agg #[.string ⟨#[]⟩,.string ⟨#[]⟩,.string ⟨#[]⟩,.string ⟨#[]⟩,.string ⟨#[]⟩,.string ⟨#[]⟩,.string ⟨#[]⟩]) (.array 7 9):=⟨by kernel_rfl,by kernel_rfl⟩
theorem qBb : TyOk prog 68 7 56 (.agg #[.int .i64 0, .int .i64 0, .int .i64 0, .int .i64 0, .int .i64 0, .int .i64 0, .int .i64 0]) (.struct #[⟨"Year", 3, 0, false, "", "", 0⟩, ⟨"Month", 3, 1, false, "", "", 8⟩, ⟨"Day", 3, 2, false, "", "", 16⟩, ⟨"Hour", 3, 3, false, "", "", 24⟩, ⟨"Minute", 3, 4, false, "", "", 32⟩, ⟨"Second", 3, 5, false, "", "", 40⟩, ⟨"Zone", 3, 6, false, "", "", 48⟩]) := ⟨by kernel_rfl, by kernel_rfl⟩
theorem z2b : TyOk prog 28 2 16 (.agg #[.int .i64 0, .int .i64 0]) (.struct #[⟨"Code", 3, 0, false, "", "", 0⟩, ⟨"Index", 3, 1, false, "", "", 8⟩]) := ⟨by kernel_rfl, by kernel_rfl⟩
theorem kha : TyOk prog 38 2 32 (.agg #[.string ⟨#[]⟩, .string ⟨#[]⟩]) (.struct #[⟨"Name", 9, 0, false, "", "", 0⟩, ⟨"Value", 9, 1, false, "", "", 16⟩]) := ⟨by kernel_rfl, by kernel_rfl⟩
theorem z3b : TyOk prog 127 3 56 (.agg #[.string ⟨#[]⟩, .string ⟨#[]⟩, .slice none 0 0]) (.struct #[⟨"Type", 9, 0, false, "", "", 0⟩, ⟨"Sub", 9, 1, false, "", "", 16⟩, ⟨"Params", 125, 2, false, "", "", 32⟩]) := ⟨by kernel_rfl, by kernel_rfl⟩
theorem wXa : TyOk prog 26 2 48 (.agg #[.slice none 0 0, .slice none 0 0]) (.struct #[⟨"Fields", 23, 0, false, "", "", 0⟩, ⟨"Body", 24, 1, false, "", "", 24⟩]) := ⟨by kernel_rfl, by kernel_rfl⟩
theorem qca : TyOk prog 131 2 32 (.agg #[.string ⟨#[]⟩, .string ⟨#[]⟩]) (.struct #[⟨"Name", 9, 0, false, "", "", 0⟩, ⟨"Value", 9, 1, false, "", "", 16⟩]) := ⟨by kernel_rfl, by kernel_rfl⟩
theorem qCb : TyOk prog 42 3 72 (.agg #[.slice none 0 0, .slice none 0 0, .slice none 0 0]) (.struct #[⟨"Fields", 23, 0, false, "", "", 0⟩, ⟨"Body", 24, 1, false, "", "", 24⟩, ⟨"Parts", 40, 2, false, "", "", 48⟩]) := ⟨by kernel_rfl, by kernel_rfl⟩
theorem ty_bool:TyOk prog 4 1 1 (.bool false) .bool:=⟨by kernel_rfl,by kernel_rfl⟩
theorem vvb : TyOk prog 155 1 16 (.nilIface) (.interface #[("Error", 158)]) := ⟨by kernel_rfl, by kernel_rfl⟩
theorem jka:TyOk prog 162 1 8 (.nilFunc) (.func #[42,3] #[4] false):=⟨by kernel_rfl,by kernel_rfl⟩
theorem w7a:TyOk prog 161 1 8 (.nilFunc) (.func #[3,118] #[4] false):=⟨by kernel_rfl,by kernel_rfl⟩
theorem jCa:TyOk prog 3 1 8 (.int .i64 0) (.int .i64):=⟨by kernel_rfl,by kernel_rfl⟩
theorem ty_int32:TyOk prog 21 1 4 (.int .i32 0) (.int .i32):=⟨by kernel_rfl,by kernel_rfl⟩
theorem jla : TyOk prog 231 4 48 (.agg #[.string ⟨#[]⟩, .int .i64 0, .bool false, .string ⟨#[]⟩]) (.struct #[⟨"name", 9, 0, false, "", "posthouse/media", 0⟩, ⟨"number", 3, 1, false, "", "posthouse/media", 16⟩, ⟨"star", 4, 2, false, "", "posthouse/media", 24⟩, ⟨"value", 9, 3, false, "", "posthouse/media", 32⟩]) := ⟨by kernel_rfl, by kernel_rfl⟩
theorem WQa : TyOk prog 227 1 16 (.agg #[.string ⟨#[]⟩]) (.struct #[⟨"s", 9, 0, false, "", "posthouse/media", 0⟩]) := ⟨by kernel_rfl, by kernel_rfl⟩
theorem Vra : TyOk prog 92 3 24 (.agg #[.int .i64 0, .int .i64 0, .int .i64 0]) (.struct #[⟨"many", 3, 0, false, "", "posthouse/parts", 0⟩, ⟨"fault", 28, 1, false, "", "posthouse/parts", 8⟩]) := ⟨by kernel_rfl, by kernel_rfl⟩
theorem yna : TyOk prog 118 4 80 (.agg #[.slice none 0 0, .slice none 0 0, .slice none 0 0, .int .i64 0]) (.struct #[⟨"part", 42, 0, false, "", "posthouse/parts", 0⟩, ⟨"depth", 3, 3, false, "", "posthouse/parts", 72⟩]) := ⟨by kernel_rfl, by kernel_rfl⟩
theorem zya:TyOk prog 23 1 24 (.slice none 0 0) (.slice 38):=⟨by kernel_rfl,by kernel_rfl⟩
theorem qZa:TyOk prog 22 1 24 (.slice none 0 0) (.slice 26):=⟨by kernel_rfl,by kernel_rfl⟩
theorem qja:TyOk prog 125 1 24 (.slice none 0 0) (.slice 131):=⟨by kernel_rfl,by kernel_rfl⟩
theorem qLa:TyOk prog 40 1 24 (.slice none 0 0) (.slice 42):=⟨by kernel_rfl,by kernel_rfl⟩
theorem JTa:TyOk prog 59 1 24 (.slice none 0 0) (.slice 3):=⟨by kernel_rfl,by kernel_rfl⟩
theorem yoa:TyOk prog 229 1 24 (.slice none 0 0) (.slice 231):=⟨by kernel_rfl,by kernel_rfl⟩
theorem Zaa:TyOk prog 181 1 24 (.slice none 0 0) (.slice 23):=⟨by kernel_rfl,by kernel_rfl⟩
theorem ZDa:TyOk prog 120 1 24 (.slice none 0 0) (.slice 24):=⟨by kernel_rfl,by kernel_rfl⟩
theorem qDb:TyOk prog 54 1 24 (.slice none 0 0) (.slice 9):=⟨by kernel_rfl,by kernel_rfl⟩
theorem zva:TyOk prog 24 1 24 (.slice none 0 0) (.slice 5):=⟨by kernel_rfl,by kernel_rfl⟩
theorem zJa:TyOk prog 9 1 16 (.string ⟨#[]⟩) .string:=⟨by kernel_rfl,by kernel_rfl⟩
theorem ty_uint:TyOk prog 184 1 8 (.int .u64 0) (.int .u64):=⟨by kernel_rfl,by kernel_rfl⟩
theorem yDb:TyOk prog 190 1 8 (.int .u64 0) (.int .u64):=⟨by kernel_rfl,by kernel_rfl⟩
theorem zRa:TyOk prog 5 1 1 (.int .u8 0) (.int .u8):=⟨by kernel_rfl,by kernel_rfl⟩
def tab : Tab := [(183, ⟨12, 96, (.agg #[.int .i64 0, .int .i64 0, .int .i64 0, .int .i64 0, .int .i64 0, .int .i64 0, .int .i64 0, .int .i64 0, .int .i64 0, .int .i64 0, .int .i64 0, .int .i64 0]), (.array 12 3), none⟩), (112, ⟨12, 192, (.agg #[.string ⟨#[]⟩, .string ⟨#[]⟩, .string ⟨#[]⟩, .string ⟨#[]⟩, .string ⟨#[]⟩, .string ⟨#[]⟩, .string ⟨#[]⟩, .string ⟨#[]⟩, .string ⟨#[]⟩, .string ⟨#[]⟩, .string ⟨#[]⟩, .string ⟨#[]⟩]), (.array 12 9), none⟩), (110, ⟨7, 112, (.agg #[.string ⟨#[]⟩, .string ⟨#[]⟩, .string ⟨#[]⟩, .string ⟨#[]⟩, .string ⟨#[]⟩, .string ⟨#[]⟩, .string ⟨#[]⟩]), (.array 7 9), none⟩), (68, ⟨7, 56, (.agg #[.int .i64 0, .int .i64 0, .int .i64 0, .int .i64 0, .int .i64 0, .int .i64 0, .int .i64 0]), (.struct #[⟨"Year", 3, 0, false, "", "", 0⟩, ⟨"Month", 3, 1, false, "", "", 8⟩, ⟨"Day", 3, 2, false, "", "", 16⟩, ⟨"Hour", 3, 3, false, "", "", 24⟩, ⟨"Minute", 3, 4, false, "", "", 32⟩, ⟨"Second", 3, 5, false, "", "", 40⟩, ⟨"Zone", 3, 6, false, "", "", 48⟩]), (some #[(0, 1), (1, 1), (2, 1), (3, 1), (4, 1), (5, 1), (6, 1)])⟩), (28, ⟨2, 16, (.agg #[.int .i64 0, .int .i64 0]), (.struct #[⟨"Code", 3, 0, false, "", "", 0⟩, ⟨"Index", 3, 1, false, "", "", 8⟩]), (some #[(0, 1), (1, 1)])⟩), (38, ⟨2, 32, (.agg #[.string ⟨#[]⟩, .string ⟨#[]⟩]), (.struct #[⟨"Name", 9, 0, false, "", "", 0⟩, ⟨"Value", 9, 1, false, "", "", 16⟩]), (some #[(0, 1), (1, 1)])⟩), (127, ⟨3, 56, (.agg #[.string ⟨#[]⟩, .string ⟨#[]⟩, .slice none 0 0]), (.struct #[⟨"Type", 9, 0, false, "", "", 0⟩, ⟨"Sub", 9, 1, false, "", "", 16⟩, ⟨"Params", 125, 2, false, "", "", 32⟩]), (some #[(0, 1), (1, 1), (2, 1)])⟩), (26, ⟨2, 48, (.agg #[.slice none 0 0, .slice none 0 0]), (.struct #[⟨"Fields", 23, 0, false, "", "", 0⟩, ⟨"Body", 24, 1, false, "", "", 24⟩]), (some #[(0, 1), (1, 1)])⟩), (131, ⟨2, 32, (.agg #[.string ⟨#[]⟩, .string ⟨#[]⟩]), (.struct #[⟨"Name", 9, 0, false, "", "", 0⟩, ⟨"Value", 9, 1, false, "", "", 16⟩]), (some #[(0, 1), (1, 1)])⟩), (42, ⟨3, 72, (.agg #[.slice none 0 0, .slice none 0 0, .slice none 0 0]), (.struct #[⟨"Fields", 23, 0, false, "", "", 0⟩, ⟨"Body", 24, 1, false, "", "", 24⟩, ⟨"Parts", 40, 2, false, "", "", 48⟩]), (some #[(0, 1), (1, 1), (2, 1)])⟩), (4, ⟨1, 1, (.bool false), .bool, none⟩), (155, ⟨1, 16, (.nilIface), (.interface #[("Error", 158)]), none⟩), (162, ⟨1, 8, (.nilFunc), (.func #[42, 3] #[4] false), none⟩), (161, ⟨1, 8, (.nilFunc), (.func #[3, 118] #[4] false), none⟩), (3, ⟨1, 8, (.int .i64 0), (.int .i64), none⟩), (21, ⟨1, 4, (.int .i32 0), (.int .i32), none⟩), (231, ⟨4, 48, (.agg #[.string ⟨#[]⟩, .int .i64 0, .bool false, .string ⟨#[]⟩]), (.struct #[⟨"name", 9, 0, false, "", "posthouse/media", 0⟩, ⟨"number", 3, 1, false, "", "posthouse/media", 16⟩, ⟨"star", 4, 2, false, "", "posthouse/media", 24⟩, ⟨"value", 9, 3, false, "", "posthouse/media", 32⟩]), (some #[(0, 1), (1, 1), (2, 1), (3, 1)])⟩), (227, ⟨1, 16, (.agg #[.string ⟨#[]⟩]), (.struct #[⟨"s", 9, 0, false, "", "posthouse/media", 0⟩]), (some #[(0, 1)])⟩), (92, ⟨3, 24, (.agg #[.int .i64 0, .int .i64 0, .int .i64 0]), (.struct #[⟨"many", 3, 0, false, "", "posthouse/parts", 0⟩, ⟨"fault", 28, 1, false, "", "posthouse/parts", 8⟩]), (some #[(0, 1), (1, 2)])⟩), (118, ⟨4, 80, (.agg #[.slice none 0 0, .slice none 0 0, .slice none 0 0, .int .i64 0]), (.struct #[⟨"part", 42, 0, false, "", "posthouse/parts", 0⟩, ⟨"depth", 3, 3, false, "", "posthouse/parts", 72⟩]), (some #[(0, 3), (3, 1)])⟩), (23, ⟨1, 24, (.slice none 0 0), (.slice 38), none⟩), (22, ⟨1, 24, (.slice none 0 0), (.slice 26), none⟩), (125, ⟨1, 24, (.slice none 0 0), (.slice 131), none⟩), (40, ⟨1, 24, (.slice none 0 0), (.slice 42), none⟩), (59, ⟨1, 24, (.slice none 0 0), (.slice 3), none⟩), (229, ⟨1, 24, (.slice none 0 0), (.slice 231), none⟩), (181, ⟨1, 24, (.slice none 0 0), (.slice 23), none⟩), (120, ⟨1, 24, (.slice none 0 0), (.slice 24), none⟩), (54, ⟨1, 24, (.slice none 0 0), (.slice 9), none⟩), (24, ⟨1, 24, (.slice none 0 0), (.slice 5), none⟩), (9, ⟨1, 16, (.string ⟨#[]⟩), .string, none⟩), (184, ⟨1, 8, (.int .u64 0), (.int .u64), none⟩), (190, ⟨1, 8, (.int .u64 0), (.int .u64), none⟩), (5, ⟨1, 1, (.int .u8 0), (.int .u8), none⟩)]
theorem tk:zOa prog tab:=(kma Vqa (kma jXa (kma ZCa (vha qBb qzb (vha z2b zYb (vha kha zZb (vha z3b z0b (vha wXa Yoa (vha qca z1b (vha qCb qAb (kma ty_bool (kma vvb (kma jka (kma w7a (kma jCa (kma ty_int32 (vha jla Ypa (vha WQa WPa (vha Vra Vpa (vha yna V3a (kma zya (kma qZa (kma qja (kma qLa (kma JTa (kma yoa (kma Zaa (kma ZDa (kma qDb (kma zva (kma zJa (kma ty_uint (kma yDb (kma zRa tab_nil))))))))))))))))))))))))))))))))))
def zoa.ok(x:zoa):Prop:=ok64 x.Code/\ok64 x.Index
def zoa.bk(x:zoa):Nat:=(fun _=>1) x.Code+(fun _=>1) x.Index+1
instance:Inhabited zoa:=⟨⟨default,default⟩⟩
def jba.ok(x:jba):Prop:=jWa x.Address/\(okL jWa) x.To
def jba.bk(x:jba):Nat:=(fun s=>s.length+1) x.Address+(bkL (fun s=>s.length+1)) x.To+1
instance:Inhabited jba:=⟨⟨default,default⟩⟩
def zta.ok(x:zta):Prop:=jWa x.Address/\ok64 x.Notify
def zta.bk(x:zta):Nat:=(fun s=>s.length+1) x.Address+(fun _=>1) x.Notify+1
instance:Inhabited zta:=⟨⟨default,default⟩⟩
def via.ok(x:via):Prop:=jWa x.From/\(okL zta.ok) x.To/\jWa x.Id
def via.bk(x:via):Nat:=(fun s=>s.length+1) x.From+(bkL zta.bk) x.To+(fun s=>s.length+1) x.Id+1
instance:Inhabited via:=⟨⟨default,default,default⟩⟩
def zca.ok(x:zca):Prop:=jWa x.Name/\jWa x.Value
def zca.bk(x:zca):Nat:=(fun s=>s.length+1) x.Name+(fun s=>s.length+1) x.Value+1
instance:Inhabited zca:=⟨⟨default,default⟩⟩
def zda.ok(x:zda):Prop:=(okL zca.ok) x.Fields/\(okL (fun _=>True)) x.Body
def zda.bk(x:zda):Nat:=(bkL zca.bk) x.Fields+(bkL (fun _=>1)) x.Body+1
instance:Inhabited zda:=⟨⟨default,default⟩⟩
def WOa.ok(x:WOa):Prop:=via.ok x.Envelope/\zda.ok x.Message
def WOa.bk(x:WOa):Nat:=via.bk x.Envelope+zda.bk x.Message+1
instance:Inhabited WOa:=⟨⟨default,default⟩⟩
def jBa.ok(x:jBa):Prop:=ok64 x.Year/\ok64 x.Month/\ok64 x.Day/\ok64 x.Hour/\ok64 x.Minute/\ok64 x.Second/\ok64 x.Zone
def jBa.bk(x:jBa):Nat:=(fun _=>1) x.Year+(fun _=>1) x.Month+(fun _=>1) x.Day+(fun _=>1) x.Hour+(fun _=>1) x.Minute+(fun _=>1) x.Second+(fun _=>1) x.Zone+1
instance:Inhabited jBa:=⟨⟨default,default,default,default,default,default,default⟩⟩
def jja.ok(x:jja):Prop:=jWa x.Name/\WOa.ok x.Mail/\(fun _=>True) x.Pipelined/\(okL (fun _=>True)) x.Buffer/\ok64 x.Expected/\(fun _=>True) x.Whole/\(fun _=>True) x.Done/\(okL ok64) x.Results
def jja.bk(x:jja):Nat:=(fun s=>s.length+1) x.Name+WOa.bk x.Mail+(fun _=>1) x.Pipelined+(bkL (fun _=>1)) x.Buffer+(fun _=>1) x.Expected+(fun _=>1) x.Whole+(fun _=>1) x.Done+(bkL (fun _=>1)) x.Results+1
instance:Inhabited jja:=⟨⟨default,default,default,default,default,default,default,default⟩⟩
def kna.ok(x:kna):Prop:=jja.ok x.Client/\(okL (fun _=>True)) x.content/\(fun _=>True) x.chunk/\(okL (fun _=>True)) x.out
def kna.bk(x:kna):Nat:=jja.bk x.Client+(bkL (fun _=>1)) x.content+(fun _=>1) x.chunk+(bkL (fun _=>1)) x.out+1
instance:Inhabited kna:=⟨⟨default,default,default,default⟩⟩
def zna.ok(x:zna):Prop:=jWa x.Name/\jWa x.Value
def zna.bk(x:zna):Nat:=(fun s=>s.length+1) x.Name+(fun s=>s.length+1) x.Value+1
instance:Inhabited zna:=⟨⟨default,default⟩⟩
def kEa.ok(x:kEa):Prop:=jWa x.Type_/\jWa x.Sub/\(okL zna.ok) x.Params
def kEa.bk(x:kEa):Nat:=(fun s=>s.length+1) x.Type_+(fun s=>s.length+1) x.Sub+(bkL zna.bk) x.Params+1
instance:Inhabited kEa:=⟨⟨default,default,default⟩⟩
def zfa.ok(x:zfa):Prop:=jWa x.s
def zfa.bk(x:zfa):Nat:=(fun s=>s.length+1) x.s+1
instance:Inhabited zfa:=⟨⟨default⟩⟩
def zia.ok(x:zia):Prop:=jWa x.name/\ok64 x.number/\(fun _=>True) x.star/\jWa x.value
def zia.bk(x:zia):Nat:=(fun s=>s.length+1) x.name+(fun _=>1) x.number+(fun _=>1) x.star+(fun s=>s.length+1) x.value+1
instance:Inhabited zia:=⟨⟨default,default,default,default⟩⟩
def zea.ok(x:zea):Prop:=ok64 x.many/\zoa.ok x.fault
def zea.bk(x:zea):Nat:=(fun _=>1) x.many+zoa.bk x.fault+1
instance:Inhabited zea:=⟨⟨default,default⟩⟩
theorem jDa:QCa prog 9 1 cS jWa (fun s=>s.length+1):=opens_S zJa.u (by kernel_rfl)
theorem z4b:QCa prog 38 2 zca.pc zca.ok zca.bk:=⟨by kernel_rfl,fun _=>rfl,fun {H enc W fuel cs d} h=>by
 obtain ⟨xs,n,_,rfl,hl,hlen,hf⟩:=DataW.trod_struct kha.u h;have hl2:cs.length=2:=hl.trans (by kernel_rfl)
 match xs,hlen with
 | [y0,y1],_=>
  obtain ⟨x0,r0,o0,b0⟩:=jDa.op (show _=some y0 from hf 0 _ rfl)
  replace r0:RelC W _ (List.take (prog.cellsOf 9) (List.drop 0 cs)):=r0
  rw[jDa.cells]at r0;obtain ⟨x1,r1,o1,b1⟩:=jDa.op (show _=some y1 from hf 1 _ rfl)
  replace r1:RelC W _ (List.take (prog.cellsOf 9) (List.drop 1 cs)):=r1
  rw[jDa.cells]at r1;exact ⟨⟨x0,x1⟩,(Wsa (off:=0) rfl r0 (Wsa (off:=1) rfl r1 (vqb hl2))),⟨o0,o1⟩,by simp only[List.map,Rows.uptoBulk,Rows.uptoBulkAll,zca.bk];omega⟩⟩
theorem KEa:QCa prog 23 1 (cL zca.pc) (okL zca.ok) (bkL zca.bk):=qvb z4b rfl zya.u (by kernel_rfl)
theorem op_uint8:QCa prog 5 1 cU (fun _=>True) (fun _=>1):=opens_U zRa.u (by kernel_rfl)
theorem YTa:QCa prog 24 1 (cL cU) (okL (fun _=>True)) (bkL (fun _=>1)):=qvb op_uint8 rfl zva.u (by kernel_rfl)
theorem Yqa:QCa prog 26 2 zda.pc zda.ok zda.bk:=⟨by kernel_rfl,fun _=>rfl,fun {H enc W fuel cs d} h=>by
 obtain ⟨xs,n,_,rfl,hl,hlen,hf⟩:=DataW.trod_struct wXa.u h;have hl2:cs.length=2:=hl.trans (by kernel_rfl)
 match xs,hlen with
 | [y0,y1],_=>
  obtain ⟨x0,r0,o0,b0⟩:=KEa.op (show _=some y0 from hf 0 _ rfl)
  replace r0:RelC W _ (List.take (prog.cellsOf 23) (List.drop 0 cs)):=r0
  rw[KEa.cells]at r0;obtain ⟨x1,r1,o1,b1⟩:=YTa.op (show _=some y1 from hf 1 _ rfl)
  replace r1:RelC W _ (List.take (prog.cellsOf 24) (List.drop 1 cs)):=r1
  rw[YTa.cells]at r1;exact ⟨⟨x0,x1⟩,(Wsa (off:=0) rfl r0 (Wsa (off:=1) rfl r1 (vqb hl2))),⟨o0,o1⟩,by simp only[List.map,Rows.uptoBulk,Rows.uptoBulkAll,zda.bk];omega⟩⟩
theorem V4a:QCa prog 22 1 (cL zda.pc) (okL zda.ok) (bkL zda.bk):=qvb Yqa rfl qZa.u (by kernel_rfl)
theorem op_int:QCa prog 3 1 cI ok64 (fun _=>1):=opens_I jCa.u (by kernel_rfl)
def R_In(a0:Int)(a1:Int)(a2:Int):Option Bool:=
 ((bif decide (a1<=a0) then some (decide (a0<=a2)) else some false):Option Bool).bind fun (j1:Bool)=>some j1
def zka(a0:Int)(a1:Int):Option zoa:=
 some ((zoa.mk a0 a1))
def zza:Option zoa:=
 some ((zoa.mk 0 0))
def zma(a0:zoa):Option Bool:=
 some ((a0.Code !=0))
def jEa(a0:Int):Option Bool:=
 ((bif decide ((-68719476736)<=a0) then some (decide (a0<=68719476736)) else some false):Option Bool).bind fun (j1:Bool)=>some j1
def v4a(a0:UInt8):Option Bool:=
 ((bif decide (97<=(a0.toNat:Int)) then (bif decide ((a0.toNat:Int)<=122) then some true else (bif decide (65<=(a0.toNat:Int)) then (bif decide ((a0.toNat:Int)<=90) then some true else (bif decide (48<=(a0.toNat:Int)) then some (decide ((a0.toNat:Int)<=57)) else some false)) else (bif decide (48<=(a0.toNat:Int)) then some (decide ((a0.toNat:Int)<=57)) else some false))) else (bif decide (65<=(a0.toNat:Int)) then (bif decide ((a0.toNat:Int)<=90) then some true else (bif decide (48<=(a0.toNat:Int)) then some (decide ((a0.toNat:Int)<=57)) else some false)) else (bif decide (48<=(a0.toNat:Int)) then some (decide ((a0.toNat:Int)<=57)) else some false))):Option Bool).bind fun (j1:Bool)=>some j1
def qka(a0:List UInt8)(a1:List UInt8):Option Bool:=
 some ((a0==a1))
def kYa(a0:List UInt8)(a1:List UInt8):Option Bool:=
 ((bif decide ((a1.length:Int)<=(a0.length:Int)) then (cut a0 ((w64 ((a0.length:Int) - (a1.length:Int)))) ((a0.length:Int))).bind fun v3=>(qka v3 a1).bind fun v5=>some v5 else some false):Option Bool).bind fun (j1:Bool)=>some j1
def v0a(a b:List UInt8):Option Int:=if a.length < 4294967281/\b.length=2 then some (Lib.index a b) else none
def zua(s:Str)(c:UInt8):Option Int:=some (Lib.indexByte s c)
def kMa(s t:Str):Option Bool:=if s.length < 4294967281 then some (Lib.contains s t) else none
def kZa(s t:Str):Option (Str × Str × Bool):=if s.length < 4294967281 then some (Lib.cut s t) else none
def kxa(a0:Int):Option Bool:=
 ((bif decide (0<=a0) then some (decide (a0 < 55296)) else some false):Option Bool).bind fun (j1:Bool)=>(bif j1 then some true else ((bif decide (57343 < a0) then some (decide (a0<=1114111)) else some false):Option Bool).bind fun (j4:Bool)=>(bif j4 then some true else some false))
def qsa(a0:Str)(s7:Nat):Option (Step Nat (Unit ⊕ Int)):=
 (bif decide (s7 < a0.length) then (bif ((KDa a0 s7)==65533) then some (.out (.inr (((s7:Nat):Int)))) else some (.cont (s7+jza a0 s7))) else some (.out (.inl (()))))
def yta(a0:Str)(a1:Int)(j23:Int × Int)(s36:Int):Option (Step Int Unit):=
 (bif decide (s36 < (((jia a1)).length:Int)) then (idx a0 ((w64 (j23.2 - s36)))).bind fun v40=>(idx ((jia a1)) ((w64 (j23.1 - s36)))).bind fun v42=>(bif ((v40.toNat:Int) !=(v42.toNat:Int)) then none else some (.cont (w64 (s36+1)))) else some (.out (())))
def qta(a0:Str)(a1:Int)(j23:Int × Int):Option (Step Int (Unit ⊕ Int)):=
 (iter (yta a0 a1 j23) 1).bind fun b37=>some (.out (.inr ((w64 (j23.2 - j23.1)))))
def qua(a0:Str)(a1:Int)(s17:Int):Option (Step Int (Unit ⊕ Int)):=
 (bif decide (s17 < (a0.length:Int)) then (idx a0 s17).bind fun v24=>(idx ((jia a1)) ((w64 ((((jia a1)).length:Int) - 1)))).bind fun v26=>(bif ((v24.toNat:Int) !=(v26.toNat:Int)) then (cut a0 ((w64 (s17+1))) ((a0.length:Int))).bind fun v29=>(idx ((jia a1)) ((w64 ((((jia a1)).length:Int) - 1)))).bind fun v31=>(zua v29 v31).bind fun v33=>(bif decide (v33 < 0) then some (.out (.inr ((-1)))) else (qta a0 a1 ((w64 ((((jia a1)).length:Int) - 1)),(w64 (s17+(w64 (v33+1))))))) else (qta a0 a1 ((w64 ((((jia a1)).length:Int) - 1)),s17))) else some (.out (.inl (()))))
def kia(a0:Str)(a1:Int):Option Int:=
 ((bif decide (0<=a1) then some (decide (a1 < 128)) else some false):Option Bool).bind fun (j1:Bool)=>(bif j1 then (zua a0 ((toU8 a1))).bind fun v4=>some v4 else (bif (a1==65533) then (iter (qsa a0) 0).bind (Sum.elim (fun b8=>some ((-1))) (fun b9=>some b9)) else (kxa a1).bind fun v14=>(bif (!v14) then some ((-1)) else (iter (qua a0 a1) ((w64 ((((jia a1)).length:Int) - 1)))).bind (Sum.elim (fun b18=>some ((-1))) (fun b19=>some b19)))))
def zHa(a0:Int):Option Bool:=
 some (decide (8 < a0))
def qva(a0:Str)(a1:Str)(s12:Nat):Option (Step Nat (Unit ⊕ Int)):=
 (bif decide (s12 < a0.length) then (kia a1 ((KDa a0 s12))).bind fun v18=>(bif decide (0<=v18) then some (.out (.inr (((s12:Nat):Int)))) else some (.cont (s12+jza a0 s12))) else some (.out (.inl (()))))
def vua(a0:Str)(a1:Str):Option Int:=
 (bif (a1==([]:Str)) then some ((-1)) else (bif ((a1.length:Int)==1) then (idx a1 0).bind fun v3=>((bif decide (128<=(v3.toNat:Int)) then some 65533 else some ((v3.toNat:Int))):Option Int).bind fun (j5:Int)=>(kia a0 j5).bind fun v7=>some v7 else (zHa ((a0.length:Int))).bind fun v9=>(bif v9 then none else (iter (qva a0 a1) 0).bind (Sum.elim (fun b13=>some ((-1))) (fun b14=>some b14)))))
def YUa(t:Str):Bool:=t.all fun c=>decide (c.toNat < 128)
def k9a(s t:Str):Option Int:=if s.length < 4294967281/\t.length < 4294967281/\2<=t.length/\YUa t=true then some (Lib.indexAny s t) else none
def kba(a0:Str)(a1:Str):Option Bool:=
 ((bif decide ((a1.length:Int)<=(a0.length:Int)) then (cut a0 0 ((a1.length:Int))).bind fun v3=>some ((v3==a1)) else some false):Option Bool).bind fun (j1:Bool)=>some j1
def kja(a0:Str)(a1:Str):Option Bool:=
 (kba a0 a1).bind fun v1=>some v1
def kca(a0:Str)(a1:Str):Option Bool:=
 ((bif decide ((a1.length:Int)<=(a0.length:Int)) then (cut a0 ((w64 ((a0.length:Int) - (a1.length:Int)))) ((a0.length:Int))).bind fun v3=>some ((v3==a1)) else some false):Option Bool).bind fun (j1:Bool)=>some j1
def z7a(a0:Str)(a1:Str):Option Bool:=
 (kca a0 a1).bind fun v1=>some v1
def qda(a0:Str)(s5:Int):Option (Step Int (Unit ⊕ Unit)):=
 (bif decide (s5 < (a0.length:Int)) then (idx a0 s5).bind fun v11=>((bif decide (97<=(v11.toNat:Int)) then (bif decide ((v11.toNat:Int)<=122) then some true else (bif decide (48<=(v11.toNat:Int)) then (bif decide ((v11.toNat:Int)<=57) then some true else (bif ((v11.toNat:Int)==45) then some true else some (((v11.toNat:Int)==46)))) else (bif ((v11.toNat:Int)==45) then some true else some (((v11.toNat:Int)==46))))) else (bif decide (48<=(v11.toNat:Int)) then (bif decide ((v11.toNat:Int)<=57) then some true else (bif ((v11.toNat:Int)==45) then some true else some (((v11.toNat:Int)==46)))) else (bif ((v11.toNat:Int)==45) then some true else some (((v11.toNat:Int)==46))))):Option Bool).bind fun (j13:Bool)=>(bif (!j13) then some (.out (.inr (()))) else some (.cont (w64 (s5+1)))) else some (.out (.inl (()))))
def vja(a0:Str):Option Bool:=
 ((bif (a0 !=([]:Str)) then (bif decide ((a0.length:Int)<=60) then ((iter (qda a0) 0).bind (Sum.elim (fun b6=>some true) (fun b7=>some false)):Option Bool).bind fun (j4:Bool)=>(bif j4 then (kja a0 (([46]:Str))).bind fun v26=>(bif (!v26) then (z7a a0 (([46]:Str))).bind fun v29=>(bif (!v29) then (kMa a0 (([46,46]:Str))).bind fun v32=>some ((!v32)) else some false) else some false) else some false) else some false) else some false):Option Bool).bind fun (j1:Bool)=>some j1
def qza(v1:Str × Str × Bool)(s8:Int):Option (Step Int (Unit ⊕ Unit)):=
 (bif decide (s8 < (v1.1.length:Int)) then (idx v1.1 s8).bind fun v14=>((v4a v14).bind fun v17=>(bif v17 then some true else (zua (([45,95,46,43,61]:Str)) v14).bind fun v20=>some (decide (0<=v20))):Option Bool).bind fun (j16:Bool)=>(bif (!j16) then some (.out (.inr (()))) else some (.cont (w64 (s8+1)))) else some (.out (.inl (()))))
def vHa(a0:Str):Option (Str × Str × Bool):=
 (kZa a0 (([64]:Str))).bind fun v1=>((bif v1.2.2 then (bif (v1.1 !=([]:Str)) then (bif decide ((v1.1.length:Int)<=60) then ((iter (qza v1) 0).bind (Sum.elim (fun b9=>some true) (fun b10=>some false)):Option Bool).bind fun (j7:Bool)=>(bif j7 then (vja v1.2.1).bind fun v24=>some v24 else some false) else some false) else some false) else some false):Option Bool).bind fun (j3:Bool)=>some ((v1.1,v1.2.1,j3))
def q0a(a0:Str):Option Bool:=
 (vHa a0).bind fun v1=>some v1.2.2
def wja(a0:Str)(s5:Int):Option (Step Int (Unit ⊕ Unit)):=
 (bif decide (s5 < (a0.length:Int)) then (idx a0 s5).bind fun v11=>((v4a v11).bind fun v14=>(bif v14 then some true else (bif ((v11.toNat:Int)==45) then some true else (bif ((v11.toNat:Int)==95) then some true else some (((v11.toNat:Int)==46))))):Option Bool).bind fun (j13:Bool)=>(bif (!j13) then some (.out (.inr (()))) else some (.cont (w64 (s5+1)))) else some (.out (.inl (()))))
def yFa(a0:Str):Option Bool:=
 ((bif (a0 !=([]:Str)) then (bif decide ((a0.length:Int)<=60) then ((iter (wja a0) 0).bind (Sum.elim (fun b6=>some true) (fun b7=>some false)):Option Bool).bind fun (j4:Bool)=>some j4 else some false) else some false):Option Bool).bind fun (j1:Bool)=>some j1
def kga(a0:Str)(a1:Str):Option Bool:=
 (k9a a0 a1).bind fun v1=>some (decide (0<=v1))
def w8a(a0:Str)(s5:Int):Option (Step Int (Unit ⊕ Unit)):=
 (bif decide (s5 < (a0.length:Int)) then (idx a0 s5).bind fun v11=>((bif decide (33<=(v11.toNat:Int)) then (bif decide ((v11.toNat:Int)<=126) then some (((v11.toNat:Int) !=58)) else some false) else some false):Option Bool).bind fun (j13:Bool)=>(bif (!j13) then some (.out (.inr (()))) else some (.cont (w64 (s5+1)))) else some (.out (.inl (()))))
def ZEa(a0:Str):Option Bool:=
 ((bif (a0 !=([]:Str)) then (bif decide ((a0.length:Int)<=60) then ((iter (w8a a0) 0).bind (Sum.elim (fun b6=>some true) (fun b7=>some false)):Option Bool).bind fun (j4:Bool)=>some j4 else some false) else some false):Option Bool).bind fun (j1:Bool)=>some j1
def ZFa(a0:Str):Option Bool:=
 (kga a0 (([13,10,0]:Str))).bind fun v1=>some v1
def qMa(a0:UInt8):Option Bool:=
 ((bif ((a0.toNat:Int)==32) then some true else some (((a0.toNat:Int)==9))):Option Bool).bind fun (j1:Bool)=>some j1
def jFa(a0:Str):Option Bool:=
 ((ZFa a0).bind fun v2=>(bif (!v2) then (bif (a0==([]:Str)) then some true else (idx a0 0).bind fun v6=>(qMa v6).bind fun v8=>(bif (!v8) then (idx a0 ((w64 ((a0.length:Int) - 1)))).bind fun v11=>(qMa v11).bind fun v13=>some ((!v13)) else some false)) else some false):Option Bool).bind fun (j1:Bool)=>some j1
def qNa(s1:Int × Int)(j5:Int):Option (Step (Int × Int) Int):=
 some (.cont (j5,(w64 (s1.2+1))))
def yya(a0:Str)(s1:Int × Int):Option (Step (Int × Int) Int):=
 (bif decide (s1.2 < (a0.length:Int)) then ((idx a0 s1.2).bind fun v7=>(qMa v7).bind fun v9=>(bif (!v9) then some true else (idx a0 ((w64 (s1.2 - 1)))).bind fun v12=>(qMa v12).bind fun v14=>some v14):Option Bool).bind fun (j6:Bool)=>(bif j6 then (qNa s1 s1.1) else ((bif decide (0 < s1.1) then some (decide (78 < s1.2)) else some false):Option Bool).bind fun (j17:Bool)=>(bif j17 then some (.out s1.1) else (qNa s1 s1.2))) else some (.out s1.1))
def jGa(a0:Str)(a1:Int):Option Int:=
 (iter (yya a0) ((0,(max a1 1)))).bind fun b2=>some b2
def w9a(s18:Str × Int × (List Str)):Option (Step (Str × Int × (List Str)) (Str × (List Str))):=
 (bif decide (78 < (s18.1.length:Int)) then (jGa s18.1 s18.2.1).bind fun v22=>(bif (v22==0) then some (.out ((s18.1,s18.2.2))) else (cut s18.1 0 v22).bind fun v25=>(app 8796093022208 s18.2.2 (([v25]:List Str))).bind fun v27=>(cut s18.1 v22 ((s18.1.length:Int))).bind fun v29=>some (.cont (v29,0,v27))) else some (.out ((s18.1,s18.2.2))))
def jca(v31:List Str)(s34:Int):Option (Step Int (Unit ⊕ ((List Str) × zoa))):=
 (bif decide (s34 < (v31.length:Int)) then (idx v31 s34).bind fun v40=>(bif decide (998 < (v40.length:Int)) then (zka 1 s34).bind fun v43=>some (.out (.inr (([],v43)))) else some (.cont (w64 (s34+1)))) else some (.out (.inl (()))))
def yaa(a0:Str)(a1:Str):Option ((List Str) × zoa):=
 (ZEa a0).bind fun v1=>(bif (!v1) then (zka 10 ((-1))).bind fun v4=>some (([],v4)) else (bif decide (4000 < (a1.length:Int)) then (zka 1 ((-1))).bind fun v7=>some (([],v7)) else (jFa a1).bind fun v9=>(bif (!v9) then (zka 11 ((-1))).bind fun v12=>some (([],v12)) else (cat a0 (([58,32]:Str))).bind fun v14=>(cat v14 a1).bind fun v16=>(iter (w9a) ((v16,(w64 ((a0.length:Int)+2)),([]:List Str)))).bind fun b19=>(app 8796093022208 b19.2 (([b19.1]:List Str))).bind fun v31=>(iter (jca v31) 0).bind (Sum.elim (fun b35=>(zza).bind fun v45=>some ((v31,v45))) (fun b36=>some ((b36.1,b36.2)))))))
def vea(a0:List zca)(s4:Int):Option (Step Int (Unit ⊕ zoa)):=
 (bif decide (s4 < (a0.length:Int)) then (idx a0 s4).bind fun v10=>(yaa v10.Name v10.Value).bind fun v12=>(zma v12.2).bind fun v14=>(bif v14 then (zka v12.2.Code s4).bind fun v17=>some (.out (.inr v17)) else some (.cont (w64 (s4+1)))) else some (.out (.inl (()))))
def koa(a0:List zca):Option zoa:=
 (bif decide (60 < (a0.length:Int)) then (zka 2 ((-1))).bind fun v2=>some v2 else (iter (vea a0) 0).bind (Sum.elim (fun b5=>(zza).bind fun v19=>some v19) (fun b6=>some b6)))
def q1a(v7:(List Str) × zoa)(s9:Int × (List UInt8)):Option (Step (Int × (List UInt8)) (List UInt8)):=
 (bif decide (s9.1 < (v7.1.length:Int)) then (idx v7.1 s9.1).bind fun v13=>(app 140737488355328 s9.2 v13).bind fun v15=>(app 140737488355328 v15 (([(13:UInt8),(10:UInt8)]:List UInt8))).bind fun v17=>some (.cont ((w64 (s9.1+1)),v17)) else some (.out s9.2))
def q2a(a0:zda)(s1:Int × (List UInt8)):Option (Step (Int × (List UInt8)) (List UInt8)):=
 (bif decide (s1.1 < (a0.Fields.length:Int)) then (idx a0.Fields s1.1).bind fun v5=>(yaa v5.Name v5.Value).bind fun v7=>(iter (q1a v7) ((0,s1.2))).bind fun b10=>some (.cont ((w64 (s1.1+1)),b10)) else some (.out s1.2))
def qOa(a0:zda):Option (List UInt8):=
 (iter (q2a a0) ((0,([]:List UInt8)))).bind fun b2=>(app 140737488355328 b2 (([(13:UInt8),(10:UInt8)]:List UInt8))).bind fun v19=>(app 140737488355328 v19 a0.Body).bind fun v21=>some v21
def wka(j7:Int × Int):Option (Step (Int × Int) (Unit ⊕ Int)):=
 some (.cont (j7.1,(w64 (j7.2+1))))
def vva(a0:List UInt8)(s1:Int × Int):Option (Step (Int × Int) (Unit ⊕ Int)):=
 (bif decide (s1.2 < (a0.length:Int)) then (idx a0 s1.2).bind fun v8=>((bif ((v8.toNat:Int)==13) then (bif decide ((w64 (s1.2+1)) < (a0.length:Int)) then (idx a0 ((w64 (s1.2+1)))).bind fun v13=>some (((v13.toNat:Int)==10)) else some false) else some false):Option Bool).bind fun (j10:Bool)=>(bif j10 then (wka (0,(w64 (s1.2+1)))) else ((bif ((v8.toNat:Int)==13) then some true else some (((v8.toNat:Int)==10))):Option Bool).bind fun (j16:Bool)=>(bif j16 then some (.out (.inr 11)) else (bif decide (998 < (w64 (s1.1+1))) then some (.out (.inr 1)) else (wka ((w64 (s1.1+1)),s1.2))))) else some (.out (.inl (()))))
def wMa(a0:List UInt8):Option Int:=
 (iter (vva a0) ((0,0))).bind (Sum.elim (fun b2=>some 0) (fun b3=>some b3))
def yba(a0:List UInt8):Option zoa:=
 (wMa a0).bind fun v1=>(bif (v1==11) then (zka 11 ((-5))).bind fun v4=>some v4 else (bif (v1==1) then (zka 1 ((-6))).bind fun v7=>some v7 else (zza).bind fun v9=>some v9))
def zCa(a0:zda):Option zoa:=
 (koa a0.Fields).bind fun v1=>(zma v1).bind fun v3=>(bif v3 then some v1 else (qOa a0).bind fun v6=>(bif decide (12000 < (v6.length:Int)) then (zka 1 ((-4))).bind fun v9=>some v9 else (yba a0.Body).bind fun v11=>some v11))
def ZGa(a0:UInt8):Option Bool:=
 ((bif ((a0.toNat:Int)==32) then some true else some (((a0.toNat:Int)==9))):Option Bool).bind fun (j1:Bool)=>some j1
def k0a(s5:Str × Int × (List Str))(s9:Int × Int):Option (Step (Int × Int) Int):=
 ((bif decide (0 < s9.2) then some ((s9.1==0)) else some false):Option Bool).bind fun (j12:Bool)=>(bif j12 then (((bif decide (s5.2.1<=s9.2) then (idx s5.1 s9.2).bind fun v18=>(ZGa v18).bind fun v20=>(bif v20 then (idx s5.1 ((w64 (s9.2 - 1)))).bind fun v23=>(ZGa v23).bind fun v25=>some ((!v25)) else some false) else some false):Option Bool).bind fun (j16:Bool)=>(bif j16 then some s9.2 else some s9.1):Option Int).bind fun (j15:Int)=>some (.cont (j15,(w64 (s9.2 - 1)))) else some (.out s9.1))
def kFa(s5:Str × Int × (List Str))(s28:Int × Int):Option (Step (Int × Int) Int):=
 ((bif decide (s28.2 < (s5.1.length:Int)) then some ((s28.1==0)) else some false):Option Bool).bind fun (j31:Bool)=>(bif j31 then (((bif decide (s5.2.1<=s28.2) then (idx s5.1 s28.2).bind fun v37=>(ZGa v37).bind fun v39=>(bif v39 then (idx s5.1 ((w64 (s28.2 - 1)))).bind fun v42=>(ZGa v42).bind fun v44=>some ((!v44)) else some false) else some false):Option Bool).bind fun (j35:Bool)=>(bif j35 then some s28.2 else some s28.1):Option Int).bind fun (j34:Int)=>some (.cont (j34,(w64 (s28.2+1)))) else some (.out s28.1))
def wla(s5:Str × Int × (List Str)):Option (Step (Str × Int × (List Str)) (Str × (List Str))):=
 (bif decide (78 < (s5.1.length:Int)) then (iter (k0a s5) ((0,78))).bind fun b10=>(iter (kFa s5) ((b10,79))).bind fun b29=>(bif (b29==0) then some (.out ((s5.1,s5.2.2))) else (cut s5.1 0 b29).bind fun v48=>(app 8796093022208 s5.2.2 (([v48]:List Str))).bind fun v50=>(cut s5.1 b29 ((s5.1.length:Int))).bind fun v52=>some (.cont (v52,1,v50))) else some (.out ((s5.1,s5.2.2))))
def ZHa(a0:Str)(a1:Str):Option (List Str):=
 (cat a0 (([58,32]:Str))).bind fun v1=>(cat v1 a1).bind fun v3=>(iter (wla) ((v3,(w64 ((a0.length:Int)+2)),([]:List Str)))).bind fun b6=>(app 8796093022208 b6.2 (([b6.1]:List Str))).bind fun v54=>some v54
def vwa(v9:List Str)(s11:Int × (List UInt8)):Option (Step (Int × (List UInt8)) (List UInt8)):=
 (bif decide (s11.1 < (v9.length:Int)) then (idx v9 s11.1).bind fun v15=>(app 140737488355328 s11.2 v15).bind fun v17=>(app 140737488355328 v17 (([(13:UInt8),(10:UInt8)]:List UInt8))).bind fun v19=>some (.cont ((w64 (s11.1+1)),v19)) else some (.out s11.2))
def vxa(a0:zda)(s1:Int × (List UInt8)):Option (Step (Int × (List UInt8)) (List UInt8)):=
 (bif decide (s1.1 < (a0.Fields.length:Int)) then (idx a0.Fields s1.1).bind fun v5=>(idx a0.Fields s1.1).bind fun v7=>(ZHa v5.Name v7.Value).bind fun v9=>(iter (vwa v9) ((0,s1.2))).bind fun b12=>some (.cont ((w64 (s1.1+1)),b12)) else some (.out s1.2))
def jma(a0:zda):Option (List UInt8):=
 (iter (vxa a0) ((0,([]:List UInt8)))).bind fun b2=>(app 140737488355328 b2 (([(13:UInt8),(10:UInt8)]:List UInt8))).bind fun v21=>(app 140737488355328 v21 a0.Body).bind fun v23=>some v23
def wNa(a0:Str):Option Bool:=
 (yaa a0 (([]:Str))).bind fun v1=>(zma v1.2).bind fun v3=>some ((!v3))
def yca(a0:List zca)(a1:Str):Option zoa:=
 (koa a0).bind fun v1=>(zma v1).bind fun v3=>(bif v3 then some v1 else (wNa a1).bind fun v6=>(bif (!v6) then (zka 10 ((-3))).bind fun v9=>some v9 else (zza).bind fun v11=>some v11))
def qla(a0:Str)(s1:Int × (List UInt8)):Option (Step (Int × (List UInt8)) (List UInt8)):=
 (bif decide (s1.1 < (a0.length:Int)) then ((idx s1.2 s1.1).bind fun v6=>(idx s1.2 s1.1).bind fun v8=>((bif decide (65<=(v8.toNat:Int)) then some (decide ((v8.toNat:Int)<=90)) else some false):Option Bool).bind fun (j10:Bool)=>(bif j10 then (idx s1.2 s1.1).bind fun v13=>(idx s1.2 s1.1).bind fun v15=>some ((List.set s1.2 (Int.toNat s1.1) (((v8+(97:UInt8)) - (65:UInt8))))) else some s1.2):Option (List UInt8)).bind fun (j5:List UInt8)=>some (.cont ((w64 (s1.1+1)),j5)) else some (.out s1.2))
def wOa(a0:Str):Option Str:=
 (iter (qla a0) ((0,a0))).bind fun b2=>some b2
def kBa(a0:Str)(a1:Str):Option Bool:=
 ((bif ((a0.length:Int)==(a1.length:Int)) then (wOa a0).bind fun v3=>(wOa a1).bind fun v5=>some ((v3==v5)) else some false):Option Bool).bind fun (j1:Bool)=>some j1
def wma(a0:List zca)(a1:Str)(s6:Int × (List Str)):Option (Step (Int × (List Str)) (List Str)):=
 (bif decide (s6.1 < (a0.length:Int)) then ((idx a0 s6.1).bind fun v11=>(kBa v11.Name a1).bind fun v13=>(bif v13 then (app 8796093022208 s6.2 (([v11.Value]:List Str))).bind fun v16=>some v16 else some s6.2):Option (List Str)).bind fun (j10:List Str)=>some (.cont ((w64 (s6.1+1)),j10)) else some (.out s6.2))
def jHa(a0:List zca)(a1:Str):Option ((List Str) × zoa):=
 (yca a0 a1).bind fun v1=>(zma v1).bind fun v3=>(bif v3 then some (([],v1)) else (iter (wma a0 a1) ((0,([]:List Str)))).bind fun b7=>(zza).bind fun v18=>some ((b7,v18)))
def zwa(a0:List (List zca))(s1:Int × Int):Option (Step (Int × Int) Int):=
 (bif decide (s1.2 < (a0.length:Int)) then (idx a0 s1.2).bind fun v5=>(bif decide ((w64 (s1.1+(v5.length:Int))) < 0) then none else some (.cont ((w64 (s1.1+(v5.length:Int))),(w64 (s1.2+1))))) else some (.out s1.1))
def zBa(a0:List (List zca))(s14:Int × (List zca)):Option (Step (Int × (List zca)) (List zca)):=
 (bif decide (s14.1 < (a0.length:Int)) then (idx a0 s14.1).bind fun v18=>(app 4398046511104 s14.2 v18).bind fun v20=>some (.cont ((w64 (s14.1+1)),v20)) else some (.out s14.2))
def kUa(a0:List (List zca))(s22:Int × (List zca)):Option (Step (Int × (List zca)) (List zca)):=
 (bif decide (s22.1 < (a0.length:Int)) then (idx a0 s22.1).bind fun v26=>(app 4398046511104 s22.2 v26).bind fun v28=>some (.cont ((w64 (s22.1+1)),v28)) else some (.out s22.2))
def zFa(a0:List (List zca)):Option (List zca):=
 (iter (zwa a0) ((0,0))).bind fun b2=>(bif decide (b2 < 0) then none else (bif decide (0 < (w64 (b2 - (w64 (0 - 0))))) then (zrep 4398046511104 ((w64 (b2 - (w64 (0 - 0))))) ((zca.mk (([]:Str)) (([]:Str))):zca)).bind fun v10=>(cut v10 0 0).bind fun v12=>(iter (zBa a0) ((0,v12))).bind fun b15=>some b15 else (iter (kUa a0) ((0,([]:List zca)))).bind fun b23=>some b23))
def yMa(a0:zda)(a1:Str)(a2:Str):Option zda:=
 (zFa (([([(zca.mk a1 a2)]:List zca),a0.Fields]:List (List zca)))).bind fun v1=>((nilE a0.Body.isEmpty (some ([])) ((app 140737488355328 ([]:List UInt8) a0.Body).bind fun v5=>some v5)):Option (List UInt8)).bind fun (j3:List UInt8)=>some ((zda.mk v1 j3))
def vWa(a0:zda)(a1:zda)(s4:Int):Option (Step Int (Unit ⊕ Bool)):=
 (bif decide (s4 < (a0.Fields.length:Int)) then (idx a0.Fields s4).bind fun v10=>(idx a1.Fields s4).bind fun v12=>(bif (!(V1a [(v10.Name==v12.Name),(v10.Value==v12.Value)])) then some (.out (.inr false)) else some (.cont (w64 (s4+1)))) else some (.out (.inl (()))))
def wna(a0:zda)(a1:zda):Option Bool:=
 ((bif ((a0.Fields.length:Int) !=(a1.Fields.length:Int)) then some true else some ((a0.Body !=a1.Body))):Option Bool).bind fun (j1:Bool)=>(bif j1 then some false else (iter (vWa a0 a1) 0).bind (Sum.elim (fun b5=>some true) (fun b6=>some b6)))
def zja(a0:List zca):Option (List zca):=
 (nilE a0.isEmpty (some ([])) ((app 4398046511104 ([]:List zca) a0).bind fun v2=>some v2))
def kda(n:Int):Option Str:=if -9223372036854775808<=n/\n<=9223372036854775807 then some (Lib.itoa n) else none
def v5a(s:Str):Option (Int × Bool):=if s.length<=18 then (match Lib.atoi s with | some n=>some (n,false) | none=>some (0,true)) else none
def KXa(a0:Int):Option Str:=
 (bif decide (a0 < 10) then (cut (([48,49,50,51,52,53,54,55,56,57]:Str)) a0 ((w64 (a0+1)))).bind fun v2=>some v2 else none)
def KYa(a0:Int):Option Str:=
 (bif decide (a0 < 10) then (cut (([48,49,50,51,52,53,54,55,56,57]:Str)) a0 ((w64 (a0+1)))).bind fun v2=>some v2 else (KXa ((iQuo a0 10))).bind fun v4=>(KXa ((iRem a0 10))).bind fun v6=>(cat v4 v6).bind fun v8=>some v8)
def KZa(a0:Int):Option Str:=
 (bif decide (a0 < 10) then (cut (([48,49,50,51,52,53,54,55,56,57]:Str)) a0 ((w64 (a0+1)))).bind fun v2=>some v2 else (KYa ((iQuo a0 10))).bind fun v4=>(KYa ((iRem a0 10))).bind fun v6=>(cat v4 v6).bind fun v8=>some v8)
def K0a(a0:Int):Option Str:=
 (bif decide (a0 < 10) then (cut (([48,49,50,51,52,53,54,55,56,57]:Str)) a0 ((w64 (a0+1)))).bind fun v2=>some v2 else (KZa ((iQuo a0 10))).bind fun v4=>(KZa ((iRem a0 10))).bind fun v6=>(cat v4 v6).bind fun v8=>some v8)
def K1a(a0:Int):Option Str:=
 (bif decide (a0 < 10) then (cut (([48,49,50,51,52,53,54,55,56,57]:Str)) a0 ((w64 (a0+1)))).bind fun v2=>some v2 else (K0a ((iQuo a0 10))).bind fun v4=>(K0a ((iRem a0 10))).bind fun v6=>(cat v4 v6).bind fun v8=>some v8)
def K2a(a0:Int):Option Str:=
 (bif decide (a0 < 10) then (cut (([48,49,50,51,52,53,54,55,56,57]:Str)) a0 ((w64 (a0+1)))).bind fun v2=>some v2 else (K1a ((iQuo a0 10))).bind fun v4=>(K1a ((iRem a0 10))).bind fun v6=>(cat v4 v6).bind fun v8=>some v8)
def K3a(a0:Int):Option Str:=
 (bif decide (a0 < 10) then (cut (([48,49,50,51,52,53,54,55,56,57]:Str)) a0 ((w64 (a0+1)))).bind fun v2=>some v2 else (K2a ((iQuo a0 10))).bind fun v4=>(K2a ((iRem a0 10))).bind fun v6=>(cat v4 v6).bind fun v8=>some v8)
def K4a(a0:Int):Option Str:=
 (bif decide (a0 < 10) then (cut (([48,49,50,51,52,53,54,55,56,57]:Str)) a0 ((w64 (a0+1)))).bind fun v2=>some v2 else (K3a ((iQuo a0 10))).bind fun v4=>(K3a ((iRem a0 10))).bind fun v6=>(cat v4 v6).bind fun v8=>some v8)
def K5a(a0:Int):Option Str:=
 (bif decide (a0 < 10) then (cut (([48,49,50,51,52,53,54,55,56,57]:Str)) a0 ((w64 (a0+1)))).bind fun v2=>some v2 else (K4a ((iQuo a0 10))).bind fun v4=>(K4a ((iRem a0 10))).bind fun v6=>(cat v4 v6).bind fun v8=>some v8)
def K6a(a0:Int):Option Str:=
 (bif decide (a0 < 10) then (cut (([48,49,50,51,52,53,54,55,56,57]:Str)) a0 ((w64 (a0+1)))).bind fun v2=>some v2 else (K5a ((iQuo a0 10))).bind fun v4=>(K5a ((iRem a0 10))).bind fun v6=>(cat v4 v6).bind fun v8=>some v8)
def ZIa(a0:Int):Option Str:=
 (bif decide (a0 < 10) then (cut (([48,49,50,51,52,53,54,55,56,57]:Str)) a0 ((w64 (a0+1)))).bind fun v2=>some v2 else (K6a ((iQuo a0 10))).bind fun v4=>(K6a ((iRem a0 10))).bind fun v6=>(cat v4 v6).bind fun v8=>some v8)
def ZJa(a0:Int):Option Str:=
 (bif decide (a0 < 10) then (cut (([48,49,50,51,52,53,54,55,56,57]:Str)) a0 ((w64 (a0+1)))).bind fun v2=>some v2 else (ZIa ((iQuo a0 10))).bind fun v4=>(ZIa ((iRem a0 10))).bind fun v6=>(cat v4 v6).bind fun v8=>some v8)
def JUa(a0:Int):Option Str:=
 (bif decide (a0 < 10) then (cut (([48,49,50,51,52,53,54,55,56,57]:Str)) a0 ((w64 (a0+1)))).bind fun v2=>some v2 else (ZJa ((iQuo a0 10))).bind fun v4=>(ZJa ((iRem a0 10))).bind fun v6=>(cat v4 v6).bind fun v8=>some v8)
def vka(l:List Str)(s:Str):Option Str:=if l.length<=140737488355328/\(Lib.join l s).length<=140737488355328 then some (Lib.join l s) else none
def qma(s:Str)(n:Int):Option Str:=if 0<=n/\n<=9223372036854775807/\s.length * n.toNat<=140737488355328 then some (Lib.repeatL s n.toNat) else none
def kta(a0:Int)(a1:Int)(a2:Int):Option Bool:=
 ((bif decide (a1<=a0) then some (decide (a0<=a2)) else some false):Option Bool).bind fun (j1:Bool)=>some j1
def wPa(a0:Int)(a1:Int):Option (Int × Int):=
 (nz a1).bind fun v1=>(nz a1).bind fun v3=>(nz a1).bind fun v5=>some (((iQuo ((w64 (a0 - (iRem ((w64 ((iRem a0 a1)+a1))) a1)))) a1),(iRem ((w64 ((iRem a0 a1)+a1))) a1)))
def v6a(a0:Int):Option Int:=
 some ((w64 ((w64 ((w64 ((w64 (365 * (w64 (a0 - 1))))+(iQuo ((w64 (a0 - 1))) 4))) - (iQuo ((w64 (a0 - 1))) 100)))+(iQuo ((w64 (a0 - 1))) 400))))
def jIa(a0:Int):Option Bool:=
 ((bif ((iRem a0 4)==0) then (bif ((iRem a0 100) !=0) then some true else some (((iRem a0 400)==0))) else some false):Option Bool).bind fun (j1:Bool)=>some j1
def v7a(a0:Int)(a1:Int):Option Int:=
 (idx ([31,28,31,30,31,30,31,31,30,31,30,31]:List Int) ((w64 (a1 - 1)))).bind fun v1=>(((bif (a1==2) then (jIa a0).bind fun v6=>some v6 else some false):Option Bool).bind fun (j4:Bool)=>(bif j4 then some ((w64 (v1+1))) else some v1):Option Int).bind fun (j3:Int)=>some j3
def v8a(a0:Int)(a1:Int)(s5:Int × Int):Option (Step (Int × Int) Int):=
 (bif decide (s5.2 < a1) then (v7a a0 s5.2).bind fun v9=>some (.cont ((w64 (s5.1+v9)),(w64 (s5.2+1)))) else some (.out s5.1))
def vla(a0:Int)(a1:Int)(a2:Int):Option Int:=
 (v6a a0).bind fun v1=>(v6a 1970).bind fun v3=>(iter (v8a a0 a1) (((w64 ((w64 ((w64 (v1 - v3))+a2)) - 1)),1))).bind fun b6=>some b6
def q6a(v11:Int × Int)(s22:Int × Int):Option (Step (Int × Int) Int):=
 (bif decide (0 < s22.2) then (((bif decide ((w64 (s22.1+s22.2))<=4000) then (vla ((w64 (s22.1+s22.2))) 1 1).bind fun v29=>some (decide (v29<=v11.1)) else some false):Option Bool).bind fun (j27:Bool)=>(bif j27 then some ((w64 (s22.1+s22.2))) else some s22.1):Option Int).bind fun (j26:Int)=>some (.cont (j26,(iQuo s22.2 2))) else some (.out s22.1))
def q7a(v11:Int × Int)(b23:Int)(s32:Int):Option (Step Int Int):=
 (vla b23 s32 1).bind fun v35=>(bif decide (v11.1 < v35) then some (.cont (w64 (s32 - 1))) else some (.out s32))
def kCa(a0:Int)(a1:Int):Option (jBa × zoa):=
 (jEa a0).bind fun v1=>(bif (!v1) then (zka 3 ((-2))).bind fun v4=>some (((jBa.mk 0 0 0 0 0 0 0),v4)) else (kta a1 ((-900)) 900).bind fun v6=>(bif (!v6) then (zka 3 ((-4))).bind fun v9=>some (((jBa.mk 0 0 0 0 0 0 0),v9)) else (wPa ((w64 (a0+(w64 (60 * a1))))) 86400).bind fun v11=>((vla 1 1 1).bind fun v14=>(bif decide (v11.1 < v14) then some true else (vla 4000 12 31).bind fun v17=>some (decide (v17 < v11.1))):Option Bool).bind fun (j13:Bool)=>(bif j13 then (zka 3 ((-3))).bind fun v20=>some (((jBa.mk 0 0 0 0 0 0 0),v20)) else (iter (q6a v11) ((1,2048))).bind fun b23=>(iter (q7a v11 b23) 12).bind fun b33=>(vla b23 b33 1).bind fun v38=>(zza).bind fun v40=>some (((jBa.mk b23 b33 ((w64 ((w64 (v11.1 - v38))+1))) ((iQuo v11.2 3600)) ((iRem ((iQuo v11.2 60)) 60)) ((iRem v11.2 60)) a1),v40)))))
def vIa(a0:jBa):Option zoa:=
 ((kta a0.Year 1 4000).bind fun v2=>(bif v2 then (kta a0.Month 1 12).bind fun v5=>(bif v5 then (v7a a0.Year ((min ((max a0.Month 1)) 12))).bind fun v8=>(kta a0.Day 1 v8).bind fun v10=>(bif v10 then (kta a0.Hour 0 23).bind fun v13=>(bif v13 then (kta a0.Minute 0 59).bind fun v16=>(bif v16 then (kta a0.Second 0 59).bind fun v19=>(bif v19 then (kta a0.Zone ((-900)) 900).bind fun v22=>some v22 else some false) else some false) else some false) else some false) else some false) else some false):Option Bool).bind fun (j1:Bool)=>(bif (!j1) then (zka 3 ((-3))).bind fun v25=>some v25 else (zza).bind fun v27=>some v27)
def woa(a0:jBa):Option (Int × zoa):=
 (vIa a0).bind fun v1=>(zma v1).bind fun v3=>(bif v3 then some ((0,v1)) else (vla a0.Year a0.Month a0.Day).bind fun v6=>(wPa ((w64 (v6+4))) 7).bind fun v8=>(zza).bind fun v10=>some ((v8.2,v10)))
def k1a(a0:Int)(a1:Int):Option Str:=
 (kda a0).bind fun v1=>(qma (([48]:Str)) ((max 0 ((w64 (a1 - (v1.length:Int))))))).bind fun v3=>(cat v3 v1).bind fun v5=>some v5
def vJa:Option (Str × Str × Str × Str × Str × Str × Str):=
 some ((([83,117,110]:Str),([77,111,110]:Str),([84,117,101]:Str),([87,101,100]:Str),([84,104,117]:Str),([70,114,105]:Str),([83,97,116]:Str)))
def yda:Option (Str × Str × Str × Str × Str × Str × Str × Str × Str × Str × Str × Str):=
 some ((([74,97,110]:Str),([70,101,98]:Str),([77,97,114]:Str),([65,112,114]:Str),([77,97,121]:Str),([74,117,110]:Str),([74,117,108]:Str),([65,117,103]:Str),([83,101,112]:Str),([79,99,116]:Str),([78,111,118]:Str),([68,101,99]:Str)))
def vma(a0:jBa):Option (Str × zoa):=
 (woa a0).bind fun v1=>(zma v1.2).bind fun v3=>(bif v3 then some ((([]:Str),v1.2)) else ((bif decide (a0.Zone < 0) then some ((([45]:Str),(w64 (0 - a0.Zone)))) else some ((([43]:Str),a0.Zone))):Option (Str × Int)).bind fun (j6:Str × Int)=>(k1a ((iQuo j6.2 60)) 2).bind fun v8=>(k1a ((iRem j6.2 60)) 2).bind fun v10=>(cat v8 v10).bind fun v12=>(cat j6.1 v12).bind fun v14=>(k1a a0.Hour 2).bind fun v16=>(cat v16 (([58]:Str))).bind fun v18=>(k1a a0.Minute 2).bind fun v20=>(cat v18 v20).bind fun v22=>(cat v22 (([58]:Str))).bind fun v24=>(k1a a0.Second 2).bind fun v26=>(cat v24 v26).bind fun v28=>(vJa).bind fun v30=>(idx ([v30.1,v30.2.1,v30.2.2.1,v30.2.2.2.1,v30.2.2.2.2.1,v30.2.2.2.2.2.1,v30.2.2.2.2.2.2]:List Str) v1.1).bind fun v32=>(cat v32 (([44]:Str))).bind fun v34=>(k1a a0.Day 2).bind fun v36=>(yda).bind fun v38=>(idx ([v38.1,v38.2.1,v38.2.2.1,v38.2.2.2.1,v38.2.2.2.2.1,v38.2.2.2.2.2.1,v38.2.2.2.2.2.2.1,v38.2.2.2.2.2.2.2.1,v38.2.2.2.2.2.2.2.2.1,v38.2.2.2.2.2.2.2.2.2.1,v38.2.2.2.2.2.2.2.2.2.2.1,v38.2.2.2.2.2.2.2.2.2.2.2]:List Str) ((w64 (a0.Month - 1)))).bind fun v40=>(k1a a0.Year 4).bind fun v42=>(vka (([v34,v36,v40,v42,v28,v14]:List Str)) (([32]:Str))).bind fun v44=>(zza).bind fun v46=>some ((v44,v46)))
def yNa(a0:zda)(a1:Str)(a2:Str)(a3:Int):Option (zda × zoa):=
 (zCa a0).bind fun v1=>(zma v1).bind fun v3=>(bif v3 then some (((zda.mk ([]) ([])),v1)) else (yFa a1).bind fun v6=>(bif (!v6) then (zka 10 ((-10))).bind fun v9=>some (((zda.mk ([]) ([])),v9)) else (yFa a2).bind fun v11=>(bif (!v11) then (zka 10 ((-12))).bind fun v14=>some (((zda.mk ([]) ([])),v14)) else (bif ((a0.Fields.length:Int)==60) then (zka 2 ((-13))).bind fun v17=>some (((zda.mk ([]) ([])),v17)) else (kCa a3 0).bind fun v19=>(zma v19.2).bind fun v21=>(bif v21 then (zka v19.2.Code ((-2))).bind fun v24=>some (((zda.mk ([]) ([])),v24)) else (vma v19.1).bind fun v26=>(cat (([98,121,32]:Str)) a1).bind fun v28=>(cat v28 (([32,105,100,32]:Str))).bind fun v30=>(cat v30 a2).bind fun v32=>(cat v32 (([59,32]:Str))).bind fun v34=>(cat v34 v26.1).bind fun v36=>(yMa a0 (([82,101,99,101,105,118,101,100]:Str)) v36).bind fun v38=>(zCa v38).bind fun v40=>(zma v40).bind fun v42=>(bif v42 then (zka v40.Code ((-14))).bind fun v45=>some (((zda.mk ([]) ([])),v45)) else (zza).bind fun v47=>some ((v38,v47))))))))
def WRa(a0:Int):Option Bool:=
 ((bif ((iRem a0 4)==0) then (bif ((iRem a0 100) !=0) then some true else some (((iRem a0 400)==0))) else some (((iRem a0 400)==0))):Option Bool).bind fun (j1:Bool)=>some j1
def vwb(a0:Int)(a1:Int):Option Int:=
 ((bif (a1==2) then (WRa a0).bind fun v3=>some v3 else some false):Option Bool).bind fun (j1:Bool)=>(bif j1 then some 29 else (idx (([31,28,31,30,31,30,31,31,30,31,30,31]:List Int)) ((w64 (a1 - 1)))).bind fun v6=>some v6)
def ZKa(a1:Int)(s3:Str):Option (Step Str Str):=
 (bif decide ((s3.length:Int) < a1) then (cat (([48]:Str)) s3).bind fun v7=>some (.cont v7) else some (.out s3))
def QEa(a0:Int)(a1:Int):Option Str:=
 (JUa a0).bind fun v1=>(iter (ZKa a1) v1).bind fun b4=>some b4
def ZLa(s4:Int × Int):Option (Step (Int × Int) (Int × Int)):=
 (bif decide (s4.1 < 0) then some (.cont ((w64 (s4.1+34560000)),(w64 (s4.2 - 400)))) else some (.out ((s4.1,s4.2))))
def ZMa(s8:Int × Int):Option (Step (Int × Int) (Int × Int)):=
 (bif decide (s8.1 < 0) then (WRa ((w64 (s8.2 - 1)))).bind fun v12=>(bif v12 then some (.cont ((w64 ((w64 (s8.1+365))+1)),(w64 (s8.2 - 1)))) else some (.cont ((w64 (s8.1+365)),(w64 (s8.2 - 1))))) else some (.out ((s8.1,s8.2))))
def ZNa(s15:Int × Int):Option (Step (Int × Int) (Int × Int)):=
 ((WRa s15.2).bind fun v19=>(bif v19 then some 366 else some 365):Option Int).bind fun (j18:Int)=>(bif decide (s15.1 < j18) then some (.out ((s15.1,s15.2))) else some (.cont ((w64 (s15.1 - j18)),(w64 (s15.2+1)))))
def ZOa(b16:Int × Int)(s26:Int × Int):Option (Step (Int × Int) (Int × Int)):=
 (vwb b16.2 s26.1).bind fun v29=>(bif decide (v29<=s26.2) then (vwb b16.2 s26.1).bind fun v32=>some (.cont ((w64 (s26.1+1)),(w64 (s26.2 - v32)))) else some (.out ((s26.1,s26.2))))
def ZPa(b16:Int × Int)(s34:Int × Int):Option (Step (Int × Int) Int):=
 (bif decide (s34.2 < b16.2) then ((WRa s34.2).bind fun v39=>(bif v39 then some ((w64 ((w64 (s34.1+1))+1))) else some ((w64 (s34.1+1)))):Option Int).bind fun (j38:Int)=>some (.cont (j38,(w64 (s34.2+1)))) else some (.out s34.1))
def QFa(a0:Int):Option (Str × Bool):=
 (R_In a0 ((-68719476736)) 68719476736).bind fun v1=>(bif (!v1) then some ((([]:Str),false)) else (iter (ZLa) ((a0,0))).bind fun b5=>(iter (ZMa) (((w64 (b5.2+(iQuo b5.1 86400))),1970))).bind fun b9=>(iter (ZNa) ((b9.1,b9.2))).bind fun b16=>(R_In b16.2 1 4000).bind fun v23=>(bif (!v23) then some ((([]:Str),false)) else (iter (ZOa b16) ((1,b16.1))).bind fun b27=>(iter (ZPa b16) ((1,1))).bind fun b35=>(cut (([83,117,110,77,111,110,84,117,101,87,101,100,84,104,117,70,114,105,83,97,116]:Str)) ((w64 (3 * (iRem ((w64 (b35+b16.1))) 7)))) ((w64 ((w64 (3 * (iRem ((w64 (b35+b16.1))) 7)))+3)))).bind fun v42=>(cat v42 (([44,32]:Str))).bind fun v44=>(QEa ((w64 (b27.2+1))) 2).bind fun v46=>(cat v44 v46).bind fun v48=>(cat v48 (([32]:Str))).bind fun v50=>(cut (([74,97,110,70,101,98,77,97,114,65,112,114,77,97,121,74,117,110,74,117,108,65,117,103,83,101,112,79,99,116,78,111,118,68,101,99]:Str)) ((w64 ((w64 (3 * b27.1)) - 3))) ((w64 (3 * b27.1)))).bind fun v52=>(cat v50 v52).bind fun v54=>(cat v54 (([32]:Str))).bind fun v56=>(QEa b16.2 4).bind fun v58=>(cat v56 v58).bind fun v60=>(cat v60 (([32]:Str))).bind fun v62=>(QEa ((iQuo ((iRem b5.1 86400)) 3600)) 2).bind fun v64=>(cat v62 v64).bind fun v66=>(cat v66 (([58]:Str))).bind fun v68=>(QEa ((iRem ((iQuo ((iRem b5.1 86400)) 60)) 60)) 2).bind fun v70=>(cat v68 v70).bind fun v72=>(cat v72 (([58]:Str))).bind fun v74=>(QEa ((iRem ((iRem b5.1 86400)) 60)) 2).bind fun v76=>(cat v74 v76).bind fun v78=>(cat v78 (([32,43,48,48,48,48]:Str))).bind fun v80=>some ((v80,true))))
def kWa(s t:Str):Option (Str × Bool):=if s.length<=9223372036854775807 then some (Lib.trimSuffix s t,Lib.hasSuffix s t) else none
def ZQa(a0:Str)(a1:Int):Option (Int × Bool):=
 (v5a a0).bind fun v1=>((bif v1.2 then some true else (kda v1.1).bind fun v5=>(bif (v5 !=a0) then some true else (bif decide (v1.1 < 0) then some true else some (decide (a1 < v1.1))))):Option Bool).bind fun (j3:Bool)=>(bif j3 then some ((0,false)) else some ((v1.1,true)))
def qPa(a0:zda):Option ((List UInt8) × zoa):=
 (zCa a0).bind fun v1=>(zma v1).bind fun v3=>(bif v3 then some (([],v1)) else (qOa a0).bind fun v6=>(zza).bind fun v8=>some ((v6,v8)))
def z5b(a0:List Int)(a1:List Int)(s2:Int):Option (Step Int (Unit ⊕ Bool)):=
 (bif decide (s2 < (a0.length:Int)) then (idx a0 s2).bind fun v8=>(idx a1 s2).bind fun v10=>(bif (v8 !=v10) then some (.out (.inr false)) else some (.cont (w64 (s2+1)))) else some (.out (.inl (()))))
def yEb(a0:List Int)(a1:List Int):Option Bool:=
 (bif ((a0.length:Int) !=(a1.length:Int)) then some false else (iter (z5b a0 a1) 0).bind (Sum.elim (fun b3=>some true) (fun b4=>some b4)))
def kIa(c:UInt8):UInt8:=if c=0∨c=13 then 32 else c
def zYa(s:Str):Option Str:=if s.length<=4611686018427387904 then some (s.map kIa) else none
def YVa(t:Str):Bool:=t.all fun b=>decide (b.toNat < 128)
def yea(s t:Str):Option Str:=if s.length<=9223372036854775807/\t.length < 4294967281/\YVa t=true then some (Lib.trimS s t) else none
def kXa(s t:Str):Option Str:=if s.length<=9223372036854775807/\t.length < 4294967281/\YVa t=true then some (Lib.trimRightS s t) else none
def qAa(l:List UInt8)(c:UInt8):Option Int:=some (Lib.indexByte l c)
def kNa(a0:List UInt8)(a1:List UInt8):Option (List UInt8):=
 (kYa a0 a1).bind fun v1=>(bif v1 then (cut a0 0 ((w64 ((a0.length:Int) - (a1.length:Int))))).bind fun v4=>some v4 else some a0)
def yOa(a0:List UInt8):Option (Str × Int):=
 (qAa a0 ((10:UInt8))).bind fun v1=>(bif decide (v1 < 0) then some ((a0,(a0.length:Int))) else (cut a0 0 v1).bind fun v4=>(kNa v4 (([(13:UInt8)]:List UInt8))).bind fun v6=>some ((v6,(w64 (v1+1)))))
def wpa(a0:Str):Option (zca × Bool):=
 (kZa a0 (([58]:Str))).bind fun v1=>(kXa v1.1 (([32,9]:Str))).bind fun v3=>((bif v1.2.2 then (wNa v3).bind fun v7=>some v7 else some false):Option Bool).bind fun (j5:Bool)=>some (((zca.mk v3 v1.2.1),j5))
def vKa(a0:List UInt8)(s4:Int × (List zca)):Option (Step (Int × (List zca)) (Int × (List zca))):=
 (bif decide (s4.1 < (a0.length:Int)) then (cut a0 s4.1 ((a0.length:Int))).bind fun v8=>(yOa v8).bind fun v10=>(bif (v10.1==([]:Str)) then some (.out (((w64 (s4.1+v10.2)),s4.2))) else ((idx v10.1 0).bind fun v14=>(qMa v14).bind fun v16=>(bif v16 then some (decide (0 < (s4.2.length:Int))) else some false):Option Bool).bind fun (j13:Bool)=>(bif j13 then (idx s4.2 ((w64 ((s4.2.length:Int) - 1)))).bind fun v20=>(idx s4.2 ((w64 ((s4.2.length:Int) - 1)))).bind fun v22=>(cat v22.Value v10.1).bind fun v24=>(idx s4.2 ((w64 ((s4.2.length:Int) - 1)))).bind fun v26=>(idx s4.2 ((w64 ((s4.2.length:Int) - 1)))).bind fun v28=>some (.cont ((w64 (s4.1+v10.2)),(List.set s4.2 (Int.toNat ((w64 ((s4.2.length:Int) - 1)))) ((zca.mk v28.Name v24))))) else (wpa v10.1).bind fun v30=>(bif (!v30.2) then some (.out ((s4.1,s4.2))) else (app 4398046511104 s4.2 (([v30.1]:List zca))).bind fun v33=>some (.cont ((w64 (s4.1+v10.2)),v33))))) else some (.out ((s4.1,s4.2))))
def vLa(b5:Int × (List zca))(s38:Int × (List zca)):Option (Step (Int × (List zca)) ((List zca) ⊕ ((List zca) × Int × zoa))):=
 (bif decide (s38.1 < (b5.2.length:Int)) then (idx s38.2 s38.1).bind fun v44=>(idx s38.2 s38.1).bind fun v46=>(zYa v46.Value).bind fun v48=>(yea v48 (([32,9]:Str))).bind fun v50=>(bif decide (4000 < (v50.length:Int)) then (zka 1 s38.1).bind fun v53=>some (.out (.inr (([],0,v53)))) else (idx s38.2 s38.1).bind fun v55=>(idx s38.2 s38.1).bind fun v57=>some (.cont ((w64 (s38.1+1)),(List.set s38.2 (Int.toNat s38.1) ((zca.mk v57.Name v50)))))) else some (.out (.inl s38.2)))
def v1a(a0:List UInt8):Option ((List zca) × Int × zoa):=
 (bif decide (12000 < (a0.length:Int)) then (zka 1 ((-1))).bind fun v2=>some (([],0,v2)) else (iter (vKa a0) ((0,([]:List zca)))).bind fun b5=>(bif decide (60 < (b5.2.length:Int)) then (zka 2 ((-2))).bind fun v36=>some (([],0,v36)) else (iter (vLa b5) ((0,b5.2))).bind (Sum.elim (fun b39=>(zza).bind fun v59=>some ((b39,b5.1,v59))) (fun b40=>some ((b40.1,b40.2.1,b40.2.2))))))
def q3a(a0:List UInt8)(s1:Int × (List UInt8)):Option (Step (Int × (List UInt8)) (List UInt8)):=
 (bif decide (s1.1 < (a0.length:Int)) then (((idx a0 s1.1).bind fun v7=>(bif ((v7.toNat:Int)==13) then (bif decide ((w64 (s1.1+1)) < (a0.length:Int)) then (idx a0 ((w64 (s1.1+1)))).bind fun v11=>some (((v11.toNat:Int)==10)) else some false) else some false):Option Bool).bind fun (j6:Bool)=>(bif j6 then (app 140737488355328 s1.2 (([(13:UInt8),(10:UInt8)]:List UInt8))).bind fun v14=>some (((w64 (s1.1+1)),v14)) else ((idx a0 s1.1).bind fun v17=>(bif ((v17.toNat:Int)==13) then some true else (idx a0 s1.1).bind fun v20=>some (((v20.toNat:Int)==10))):Option Bool).bind fun (j16:Bool)=>(bif j16 then (app 140737488355328 s1.2 (([(13:UInt8),(10:UInt8)]:List UInt8))).bind fun v23=>some ((s1.1,v23)) else (idx a0 s1.1).bind fun v25=>(app 140737488355328 s1.2 (([v25]:List UInt8))).bind fun v27=>some ((s1.1,v27)))):Option (Int × (List UInt8))).bind fun (j5:Int × (List UInt8))=>some (.cont ((w64 (j5.1+1)),j5.2)) else some (.out s1.2))
def wqa(a0:List UInt8):Option (List UInt8):=
 (iter (q3a a0) ((0,([]:List UInt8)))).bind fun b2=>some b2
def v9a(a0:List UInt8):Option (zda × zoa):=
 (v1a a0).bind fun v1=>(zma v1.2.2).bind fun v3=>(bif v3 then some (((zda.mk ([]) ([])),v1.2.2)) else (cut a0 v1.2.1 ((a0.length:Int))).bind fun v6=>(wqa v6).bind fun v8=>(zCa ((zda.mk v1.1 v8))).bind fun v10=>(zma v10).bind fun v12=>(bif v12 then some (((zda.mk ([]) ([])),v10)) else (zza).bind fun v15=>some (((zda.mk v1.1 v8),v15))))
def zKa(a0:List UInt8):Option (List UInt8):=
 (nilE a0.isEmpty (some ([])) ((app 140737488355328 ([]:List UInt8) a0).bind fun v2=>some v2))
def vXa(s t:Str):Option Str:=if s.length<=9223372036854775807/\t.length < 4294967281/\YVa t=true then some (Lib.trimLeftS s t) else none
def wra(a0:List zda)(s6:Int):Option (Step Int (Unit ⊕ zoa)):=
 (bif decide (s6 < (a0.length:Int)) then (idx a0 s6).bind fun v12=>(zCa v12).bind fun v14=>(zma v14).bind fun v16=>(bif v16 then (zka v14.Code s6).bind fun v19=>some (.out (.inr v19)) else some (.cont (w64 (s6+1)))) else some (.out (.inl (()))))
def waa(a0:List zda):Option zoa:=
 ((bif decide ((a0.length:Int) < 1) then some true else some (decide (20 < (a0.length:Int)))):Option Bool).bind fun (j1:Bool)=>(bif j1 then (zka 2 ((-20))).bind fun v4=>some v4 else (iter (wra a0) 0).bind (Sum.elim (fun b7=>(zza).bind fun v21=>some v21) (fun b8=>some b8)))
def qna(a0:List zca)(a1:Str)(a2:Str):Option Bool:=
 (jHa a0 a1).bind fun v1=>((bif ((v1.1.length:Int)==1) then (idx v1.1 0).bind fun v5=>some ((v5==a2)) else some false):Option Bool).bind fun (j3:Bool)=>some j3
def zEa(a0:zfa):Option zfa:=
 (vXa a0.s (([32,9]:Str))).bind fun v1=>some ((zfa.mk v1))
def zMa(a0:zfa)(a1:UInt8):Option (Bool × zfa):=
 (zEa a0).bind fun v1=>((bif (v1.s==([]:Str)) then some true else (idx v1.s 0).bind fun v5=>some (((v5.toNat:Int) !=(a1.toNat:Int)))):Option Bool).bind fun (j3:Bool)=>(bif j3 then some ((false,v1)) else (cut v1.s 1 ((v1.s.length:Int))).bind fun v8=>some ((true,(zfa.mk v8))))
def qBa(a0:UInt8):Option Bool:=
 ((bif decide (33<=(a0.toNat:Int)) then (bif decide ((a0.toNat:Int)<=126) then (zua (([40,41,60,62,64,44,59,58,92,34,47,91,93,63,61,42,37,39]:Str)) a0).bind fun v4=>some (decide (v4 < 0)) else some false) else some false):Option Bool).bind fun (j1:Bool)=>some j1
def kGa(v4:zfa)(s6:Int):Option (Step Int Int):=
 ((bif decide (s6 < (v4.s.length:Int)) then (idx v4.s s6).bind fun v11=>((qBa v11).bind fun v14=>(bif v14 then some true else (bif ((v11.toNat:Int)==37) then some true else (bif ((v11.toNat:Int)==39) then some true else some (((v11.toNat:Int)==42))))):Option Bool).bind fun (j13:Bool)=>some j13 else some false):Option Bool).bind fun (j9:Bool)=>(bif j9 then some (.cont (w64 (s6+1))) else some (.out s6))
def qea(j30:Int × (List UInt8)):Option (Step (Int × (List UInt8)) (Unit ⊕ (Str × Bool × zfa))):=
 some (.cont ((w64 (j30.1+1)),j30.2))
def yfa(v1:Bool × zfa)(s24:Int × (List UInt8)):Option (Step (Int × (List UInt8)) (Unit ⊕ (Str × Bool × zfa))):=
 (bif decide (s24.1 < (v1.2.s.length:Int)) then (idx v1.2.s s24.1).bind fun v31=>(bif ((v31.toNat:Int)==34) then (cut v1.2.s ((w64 (s24.1+1))) ((v1.2.s.length:Int))).bind fun v34=>some (.out (.inr ((s24.2,true,(zfa.mk v34))))) else (bif ((v31.toNat:Int)==92) then (bif ((w64 (s24.1+1))==(v1.2.s.length:Int)) then some (.out (.inr ((([]:Str),false,v1.2)))) else (idx v1.2.s ((w64 (s24.1+1)))).bind fun v38=>(app 140737488355328 s24.2 (([v38]:List UInt8))).bind fun v40=>(qea ((w64 (s24.1+1)),v40))) else (app 140737488355328 s24.2 (([v31]:List UInt8))).bind fun v42=>(qea (s24.1,v42)))) else some (.out (.inl (()))))
def qfa(a0:zfa):Option (Str × Bool × zfa):=
 (zMa a0 ((34:UInt8))).bind fun v1=>(bif (!v1.1) then (zEa v1.2).bind fun v4=>(iter (kGa v4) 0).bind fun b7=>(cut v4.s 0 b7).bind fun v20=>(cut v4.s b7 ((v4.s.length:Int))).bind fun v22=>some ((v20,true,(zfa.mk v22))) else (iter (yfa v1) ((0,([]:List UInt8)))).bind (Sum.elim (fun b25=>some ((([]:Str),false,v1.2))) (fun b26=>some ((b26.1,b26.2.1,b26.2.2)))))
def kQa(v1:zfa)(s3:Int):Option (Step Int Int):=
 ((bif decide (s3 < (v1.s.length:Int)) then (idx v1.s s3).bind fun v8=>((qBa v8).bind fun v11=>(bif v11 then some true else some (((v8.toNat:Int)==42))):Option Bool).bind fun (j10:Bool)=>some j10 else some false):Option Bool).bind fun (j6:Bool)=>(bif j6 then some (.cont (w64 (s3+1))) else some (.out s3))
def qCa(a0:zfa):Option (zia × Bool × zfa):=
 (zEa a0).bind fun v1=>(iter (kQa v1) 0).bind fun b4=>(cut v1.s 0 b4).bind fun v15=>(cut v1.s b4 ((v1.s.length:Int))).bind fun v17=>(zMa ((zfa.mk v17)) ((61:UInt8))).bind fun v19=>(bif (!v19.1) then some (((zia.mk (([]:Str)) 0 false (([]:Str))),false,v19.2)) else (qfa v19.2).bind fun v22=>(kZa v15 (([42]:Str))).bind fun v24=>((bif v24.2.2 then (kWa v24.2.1 (([42]:Str))).bind fun v28=>(ZQa v28.1 1099511627776).bind fun v30=>(bif v22.2.1 then some ((v30.2,v30.1,v28.2)) else some ((false,v30.1,v28.2))) else some ((v22.2.1,(-1),false))):Option (Bool × Int × Bool)).bind fun (j26:Bool × Int × Bool)=>((bif j26.1 then some ((v24.1 !=([]:Str))) else some false):Option Bool).bind fun (j33:Bool)=>some (((zia.mk v24.1 j26.2.1 j26.2.2 v22.1),j33,v22.2.2)))
def ZRa(a0:List zia):Option (zna × Bool):=
 (idx a0 0).bind fun v1=>(idx a0 0).bind fun v3=>(idx a0 0).bind fun v5=>(bif decide (v5.number < 0) then some (((zna.mk v1.name v3.value),((a0.length:Int)==1))) else none)
def vMa(v1:zfa)(s3:Int):Option (Step Int Int):=
 ((bif decide (s3 < (v1.s.length:Int)) then (idx v1.s s3).bind fun v8=>((bif decide (33<=(v8.toNat:Int)) then (bif decide ((v8.toNat:Int)<=126) then (zua (([40,41,60,62,64,44,59,58,92,34,47,91,93,63,61,42,37,39]:Str)) v8).bind fun v13=>some (decide (v13 < 0)) else some false) else some false):Option Bool).bind fun (j10:Bool)=>some j10 else some false):Option Bool).bind fun (j6:Bool)=>(bif j6 then some (.cont (w64 (s3+1))) else some (.out s3))
def vNa(v22:zfa)(s24:Int):Option (Step Int Int):=
 ((bif decide (s24 < (v22.s.length:Int)) then (idx v22.s s24).bind fun v29=>((bif decide (33<=(v29.toNat:Int)) then (bif decide ((v29.toNat:Int)<=126) then (zua (([40,41,60,62,64,44,59,58,92,34,47,91,93,63,61,42,37,39]:Str)) v29).bind fun v34=>some (decide (v34 < 0)) else some false) else some false):Option Bool).bind fun (j31:Bool)=>some j31 else some false):Option Bool).bind fun (j27:Bool)=>(bif j27 then some (.cont (w64 (s24+1))) else some (.out s24))
def q8a(s45:zfa × (List zia)):Option (Step (zfa × (List zia)) ((zfa × (List zia)) ⊕ Unit)):=
 (zMa s45.1 ((59:UInt8))).bind fun v50=>(bif v50.1 then (qCa v50.2).bind fun v53=>(bif (!v53.2.1) then some (.out (.inr (()))) else (app 2932031007402 s45.2 (([v53.1]:List zia))).bind fun v56=>some (.cont (v53.2.2,v56))) else some (.out (.inl ((v50.2,s45.2)))))
def wYa(s61:Int × (List zna))(j67:List zna):Option (Step (Int × (List zna)) ((List zna) ⊕ Unit)):=
 some (.cont ((w64 (s61.1+1)),j67))
def jna(v68:zia)(v70:List zia)(s73:Int):Option (Step Int (Unit ⊕ Int)):=
 (bif decide (s73 < (v70.length:Int)) then (idx v70 s73).bind fun v79=>(kBa v79.name v68.name).bind fun v81=>(bif v81 then some (.out (.inr s73)) else some (.cont (w64 (s73+1)))) else some (.out (.inl (()))))
def wZa(b46:zfa × (List zia))(v68:zia)(s86:Int × (List zia)):Option (Step (Int × (List zia)) (List zia)):=
 (bif decide (s86.1 < (b46.2.length:Int)) then ((idx b46.2 s86.1).bind fun v91=>(kBa v91.name v68.name).bind fun v93=>(bif v93 then (app 2932031007402 s86.2 (([v91]:List zia))).bind fun v96=>some v96 else some s86.2):Option (List zia)).bind fun (j90:List zia)=>some (.cont ((w64 (s86.1+1)),j90)) else some (.out s86.2))
def vOa(b46:zfa × (List zia))(s61:Int × (List zna)):Option (Step (Int × (List zna)) ((List zna) ⊕ Unit)):=
 (bif decide (s61.1 < (b46.2.length:Int)) then (idx b46.2 s61.1).bind fun v68=>(cut b46.2 0 s61.1).bind fun v70=>((iter (jna v68 v70) 0).bind (Sum.elim (fun b74=>some ((-1))) (fun b75=>some b75)):Option Int).bind fun (j72:Int)=>(bif decide (0<=j72) then (wYa s61 s61.2) else (iter (wZa b46 v68) ((0,([]:List zia)))).bind fun b87=>(ZRa b87).bind fun v98=>(bif (!v98.2) then some (.out (.inr (()))) else (app 4398046511104 s61.2 (([(zna.mk v68.name v98.1.Value)]:List zna))).bind fun v101=>(wYa s61 v101))) else some (.out (.inl s61.2)))
def yPa(a0:Str):Option (kEa × Bool):=
 (zEa ((zfa.mk a0))).bind fun v1=>(iter (vMa v1) 0).bind fun b4=>(cut v1.s 0 b4).bind fun v16=>(cut v1.s b4 ((v1.s.length:Int))).bind fun v18=>(zMa ((zfa.mk v18)) ((47:UInt8))).bind fun v20=>(zEa v20.2).bind fun v22=>(iter (vNa v22) 0).bind fun b25=>(cut v22.s 0 b25).bind fun v37=>(cut v22.s b25 ((v22.s.length:Int))).bind fun v39=>((bif (v16==([]:Str)) then some true else (bif (!v20.1) then some true else some ((v37==([]:Str))))):Option Bool).bind fun (j41:Bool)=>(bif j41 then some (((kEa.mk v16 v37 (([]:List zna))),false)) else (iter (q8a) (((zfa.mk v39),([]:List zia)))).bind (Sum.elim (fun b46=>(zEa b46.1).bind fun v58=>(iter (vOa b46) ((0,([]:List zna)))).bind (Sum.elim (fun b62=>some (((kEa.mk v16 v37 b62),(v58.s==([]:Str))))) (fun b63=>some (((kEa.mk v16 v37 (([]:List zna))),false))))) (fun b47=>some (((kEa.mk v16 v37 (([]:List zna))),false)))))
def vPa(a0:Str)(s5:Int):Option (Step Int (Unit ⊕ Unit)):=
 (bif decide (s5 < (a0.length:Int)) then (idx a0 s5).bind fun v11=>((bif decide (33<=(v11.toNat:Int)) then (bif decide ((v11.toNat:Int)<=126) then (zua (([40,41,60,62,64,44,59,58,92,34,47,91,93,63,61,42,37,39]:Str)) v11).bind fun v16=>some (decide (v16 < 0)) else some false) else some false):Option Bool).bind fun (j13:Bool)=>(bif (!j13) then some (.out (.inr (()))) else some (.cont (w64 (s5+1)))) else some (.out (.inl (()))))
def k2a(a0:Str):Option Bool:=
 ((bif (a0 !=([]:Str)) then (bif decide ((a0.length:Int)<=60) then ((iter (vPa a0) 0).bind (Sum.elim (fun b6=>some true) (fun b7=>some false)):Option Bool).bind fun (j4:Bool)=>some j4 else some false) else some false):Option Bool).bind fun (j1:Bool)=>some j1
def z2a(s1:Str):Option (Step Str Unit):=
 (bif decide (0 < (s1.length:Int)) then (idx s1 0).bind fun v5=>(bif decide ((v5.toNat:Int) < 128) then (cut s1 1 ((s1.length:Int))).bind fun v8=>(bif decide (8 < (v8.length:Int)) then none else some (.cont v8)) else none) else some (.out (())))
def kJa(a0:Str):Option Bool:=
 (iter (z2a) a0).bind fun b2=>some true
def wQa(v19:zna)(v28:List zna)(s31:Int):Option (Step Int (Unit ⊕ Int)):=
 (bif decide (s31 < (v28.length:Int)) then (idx v28 s31).bind fun v37=>(kBa v37.Name v19.Name).bind fun v39=>(bif v39 then some (.out (.inr s31)) else some (.cont (w64 (s31+1)))) else some (.out (.inl (()))))
def qDa(a0:kEa)(s13:Int):Option (Step Int (Unit ⊕ zoa)):=
 (bif decide (s13 < (a0.Params.length:Int)) then (idx a0.Params s13).bind fun v19=>((k2a v19.Name).bind fun v22=>(bif (!v22) then some true else some (decide (20 < (v19.Name.length:Int)))):Option Bool).bind fun (j21:Bool)=>(bif j21 then (zka 10 s13).bind fun v26=>some (.out (.inr v26)) else (cut a0.Params 0 s13).bind fun v28=>((iter (wQa v19 v28) 0).bind (Sum.elim (fun b32=>some ((-1))) (fun b33=>some b33)):Option Int).bind fun (j30:Int)=>(bif decide (0<=j30) then (zka 7 s13).bind fun v43=>some (.out (.inr v43)) else (bif decide (500 < (v19.Value.length:Int)) then (zka 1 s13).bind fun v46=>some (.out (.inr v46)) else (kJa v19.Value).bind fun v48=>(bif (!v48) then (zka 5 s13).bind fun v51=>some (.out (.inr v51)) else some (.cont (w64 (s13+1))))))) else some (.out (.inl (()))))
def qoa(a0:kEa):Option zoa:=
 ((k2a a0.Type_).bind fun v2=>(bif (!v2) then some true else (k2a a0.Sub).bind fun v5=>some ((!v5))):Option Bool).bind fun (j1:Bool)=>(bif j1 then (zka 10 ((-2))).bind fun v8=>some v8 else (bif decide (60 < (a0.Params.length:Int)) then (zka 2 ((-3))).bind fun v11=>some v11 else (iter (qDa a0) 0).bind (Sum.elim (fun b14=>(zza).bind fun v53=>some v53) (fun b15=>some b15))))
def wRa(a0:Str):Option (kEa × zoa):=
 (bif decide (4000 < (a0.length:Int)) then (zka 1 ((-1))).bind fun v2=>some (((kEa.mk (([]:Str)) (([]:Str)) (([]:List zna))),v2)) else (yPa a0).bind fun v4=>(bif (!v4.2) then (zka 11 ((-5))).bind fun v7=>some (((kEa.mk (([]:Str)) (([]:Str)) (([]:List zna))),v7)) else (qoa v4.1).bind fun v9=>(zma v9).bind fun v11=>(bif v11 then (zka v9.Code ((-6))).bind fun v14=>some (((kEa.mk (([]:Str)) (([]:Str)) (([]:List zna))),v14)) else (zza).bind fun v16=>some ((v4.1,v16)))))
def yza(s1:Int × Int)(j7:Int):Option (Step (Int × Int) (Int ⊕ Unit)):=
 some (.cont (j7,(w64 (s1.2+1))))
def jYa(a0:List zca)(s1:Int × Int):Option (Step (Int × Int) (Int ⊕ Unit)):=
 (bif decide (s1.2 < (a0.length:Int)) then (idx a0 s1.2).bind fun v8=>(kBa v8.Name (([67,111,110,116,101,110,116,45,84,121,112,101]:Str))).bind fun v10=>(bif v10 then (bif decide (0<=s1.1) then some (.out (.inr (()))) else (yza s1 s1.2)) else (yza s1 s1.1)) else some (.out (.inl s1.1)))
def vya(a0:List zca):Option (kEa × Int × Bool):=
 (iter (jYa a0) (((-1),0))).bind (Sum.elim (fun b2=>(bif decide (b2 < 0) then some (((kEa.mk (([]:Str)) (([]:Str)) (([]:List zna))),0,false)) else (idx a0 b2).bind fun v15=>(wRa v15.Value).bind fun v17=>(zma v17.2).bind fun v19=>some ((v17.1,b2,(!v19))))) (fun b3=>some (((kEa.mk (([]:Str)) (([]:Str)) (([]:List zna))),0,false))))
def joa(a0:kEa)(a1:Str)(s6:Int):Option (Step Int (Unit ⊕ (Str × Bool × zoa))):=
 (bif decide (s6 < (a0.Params.length:Int)) then (idx a0.Params s6).bind fun v12=>(kBa v12.Name a1).bind fun v14=>(bif v14 then (zza).bind fun v17=>some (.out (.inr ((v12.Value,true,v17)))) else some (.cont (w64 (s6+1)))) else some (.out (.inl (()))))
def v2a(a0:kEa)(a1:Str):Option (Str × Bool × zoa):=
 (qoa a0).bind fun v1=>(zma v1).bind fun v3=>(bif v3 then some ((([]:Str),false,v1)) else (iter (joa a0 a1) 0).bind (Sum.elim (fun b7=>(zza).bind fun v19=>some ((([]:Str),false,v19))) (fun b8=>some ((b8.1,b8.2.1,b8.2.2)))))
def KFa(a0:zna)(s13:Int):Option (Step Int (Unit ⊕ Unit)):=
 (bif decide (s13 < (a0.Value.length:Int)) then (idx a0.Value s13).bind fun v19=>((bif decide (32<=(v19.toNat:Int)) then some (decide ((v19.toNat:Int)<=126)) else some false):Option Bool).bind fun (j21:Bool)=>(bif (!j21) then some (.out (.inr (()))) else some (.cont (w64 (s13+1)))) else some (.out (.inl (()))))
def yQa(a0:zna):Option Str:=
 (k2a a0.Value).bind fun v1=>(bif v1 then (cat (([59,32]:Str)) a0.Name).bind fun v4=>(cat v4 (([61]:Str))).bind fun v6=>(cat v6 a0.Value).bind fun v8=>some v8 else ((bif decide ((a0.Value.length:Int)<=60) then ((iter (KFa a0) 0).bind (Sum.elim (fun b14=>some true) (fun b15=>some false)):Option Bool).bind fun (j12:Bool)=>some j12 else some false):Option Bool).bind fun (j10:Bool)=>(bif j10 then (cat (([59,32]:Str)) a0.Name).bind fun v25=>(cat v25 (([61,34]:Str))).bind fun v27=>none else none))
def vQa(a0:kEa)(s10:Str × Int):Option (Step (Str × Int) Str):=
 (bif decide (s10.2 < (a0.Params.length:Int)) then (idx a0.Params s10.2).bind fun v14=>(yQa v14).bind fun v16=>(cat s10.1 v16).bind fun v18=>some (.cont (v18,(w64 (s10.2+1)))) else some (.out s10.1))
def qQa(a0:kEa):Option (Str × zoa):=
 (qoa a0).bind fun v1=>(zma v1).bind fun v3=>(bif v3 then some ((([]:Str),v1)) else (cat a0.Type_ (([47]:Str))).bind fun v6=>(cat v6 a0.Sub).bind fun v8=>(iter (vQa a0) ((v8,0))).bind fun b11=>(bif decide (4000 < (b11.length:Int)) then (zka 1 ((-4))).bind fun v21=>some ((([]:Str),v21)) else (zza).bind fun v23=>some ((b11,v23))))
def qpa(a0:zpa):Option Int:=
 (vya a0.Fields).bind fun v1=>((bif decide (0 < (a0.Body.length:Int)) then some true else (bif (!v1.2.2) then some true else (kBa v1.1.Type_ (([109,117,108,116,105,112,97,114,116]:Str))).bind fun v6=>some ((!v6)))):Option Bool).bind fun (j3:Bool)=>(bif j3 then some 5 else (v2a v1.1 (([98,111,117,110,100,97,114,121]:Str))).bind fun v9=>(qQa v1.1).bind fun v11=>((bif v9.2.1 then some true else (bif decide (60<=(v1.1.Params.length:Int)) then some true else (zma v11.2).bind fun v16=>(bif v16 then some true else (idx a0.Fields v1.2.1).bind fun v19=>(bif (v11.1 !=v19.Value) then some true else some (decide (2000 < (v11.1.length:Int))))))):Option Bool).bind fun (j13:Bool)=>(bif j13 then some 5 else some 0))
def qEa(v8:Str × Bool × zoa)(s14:Int):Option (Step Int (Unit ⊕ Unit)):=
 (bif decide (s14 < (v8.1.length:Int)) then (idx v8.1 s14).bind fun v20=>((bif decide (32<=(v20.toNat:Int)) then some (decide ((v20.toNat:Int)<=126)) else some false):Option Bool).bind fun (j22:Bool)=>(bif (!j22) then some (.out (.inr (()))) else some (.cont (w64 (s14+1)))) else some (.out (.inl (()))))
def vRa(a0:List zca):Option (Str × Bool):=
 (vya a0).bind fun v1=>((bif (!v1.2.2) then some true else (kBa v1.1.Type_ (([109,117,108,116,105,112,97,114,116]:Str))).bind fun v5=>some ((!v5))):Option Bool).bind fun (j3:Bool)=>(bif j3 then some ((([]:Str),false)) else (v2a v1.1 (([98,111,117,110,100,97,114,121]:Str))).bind fun v8=>((bif (v8.1 !=([]:Str)) then (bif decide ((v8.1.length:Int)<=60) then ((iter (qEa v8) 0).bind (Sum.elim (fun b15=>some true) (fun b16=>some false)):Option Bool).bind fun (j13:Bool)=>(bif j13 then (z7a v8.1 (([32]:Str))).bind fun v26=>some ((!v26)) else some false) else some false) else some false):Option Bool).bind fun (j10:Bool)=>((bif v8.2.1 then some j10 else some false):Option Bool).bind fun (j28:Bool)=>some ((v8.1,j28)))
def qFa(a0:Str)(a1:Str):Option Int:=
 (kXa a0 (([32,9]:Str))).bind fun v1=>(cat (([45,45]:Str)) a1).bind fun v3=>(bif (v1==v3) then some 1 else (cat (([45,45]:Str)) a1).bind fun v6=>(cat v6 (([45,45]:Str))).bind fun v8=>(bif (v1==v8) then some 2 else some 0))
def zXa(a0:List UInt8)(a1:Str)(s1:Int × Int × (List (List UInt8))):Option (Step (Int × Int × (List (List UInt8))) ((Int × (List (List UInt8))) ⊕ (Int × (List (List UInt8)) × (List (List UInt8))))):=
 (bif decide (s1.1 < (a0.length:Int)) then (cut a0 s1.1 ((a0.length:Int))).bind fun v7=>(v0a v7 (([(13:UInt8),(10:UInt8)]:List UInt8))).bind fun v9=>((bif decide (0<=v9) then some (((w64 (s1.1+v9)),(w64 ((w64 (s1.1+v9))+2)))) else some (((a0.length:Int),(a0.length:Int)))):Option (Int × Int)).bind fun (j11:Int × Int)=>(cut a0 s1.1 j11.1).bind fun v13=>(qFa v13 a1).bind fun v15=>(bif (v15==0) then some (.cont (j11.2,s1.2.1,s1.2.2)) else ((bif decide (0<=s1.2.1) then (cut a0 s1.2.1 ((max s1.2.1 ((w64 (s1.1 - 2)))))).bind fun v20=>(app 5864062014805 s1.2.2 (([v20]:List (List UInt8)))).bind fun v22=>some v22 else some s1.2.2):Option (List (List UInt8))).bind fun (j18:List (List UInt8))=>(bif (v15==2) then some (.out (.inr ((s1.2.1,j18,j18)))) else some (.cont (j11.2,(min ((w64 ((w64 (s1.1+(v13.length:Int)))+2))) ((a0.length:Int))),j18)))) else some (.out (.inl ((s1.2.1,s1.2.2)))))
def k3a(a0:List UInt8)(a1:Str):Option (List (List UInt8)):=
 (iter (zXa a0 a1) ((0,(-1),([]:List (List UInt8))))).bind (Sum.elim (fun b2=>((bif decide (0<=b2.1) then (cut a0 b2.1 ((a0.length:Int))).bind fun v27=>(app 5864062014805 b2.2 (([v27]:List (List UInt8)))).bind fun v29=>some v29 else some b2.2):Option (List (List UInt8))).bind fun (j25:List (List UInt8))=>some j25) (fun b3=>some b3.2.2))
def qRa(a0:List zca)(a1:List UInt8)(a2:Int):Option (List (List UInt8)):=
 (vRa a0).bind fun v1=>((bif (!v1.2) then some true else some (decide (8<=a2))):Option Bool).bind fun (j3:Bool)=>(bif j3 then some ([]) else (k3a a1 v1.1).bind fun v6=>some v6)
def vSa(a0:q5a):Option Int:=
 (koa a0.part.Fields).bind fun v1=>(zma v1).bind fun v3=>(bif v3 then some v1.Code else (bif decide (0 < (a0.part.Parts.length:Int)) then (qpa a0.part).bind fun v7=>some v7 else (bif decide (12000 < (a0.part.Body.length:Int)) then some 1 else (wMa a0.part.Body).bind fun v10=>(bif (v10 !=0) then some v10 else (qRa a0.part.Fields a0.part.Body a0.depth).bind fun v13=>(bif decide (0 < (v13.length:Int)) then some 5 else some 0)))))
def q9a(a0:q5a):Option Int:=
 (koa a0.part.Fields).bind fun v1=>(zma v1).bind fun v3=>(bif v3 then some v1.Code else (bif decide (12000 < (a0.part.Body.length:Int)) then some 1 else (wMa a0.part.Body).bind fun v7=>(bif (v7 !=0) then some v7 else (qRa a0.part.Fields a0.part.Body a0.depth).bind fun v10=>(bif decide (0 < (v10.length:Int)) then some 5 else some 0))))
def yua(s1:Int × Int × Bool)(s13:Int):Option (Step Int Int):=
 (bif decide (s13 < 0) then none else some (.out ((w64 (s1.2.1+1)))))
def vAa(s1:Int × Int × Bool)(s17:Int):Option (Step Int (Int × Bool)):=
 (bif decide (s17 < 0) then none else some (.out (((w64 (s1.2.1+1)),decide (8 < (w64 (0+1)))))))
def kqa(a0:zpa)(s1:Int × Int × Bool):Option (Step (Int × Int × Bool) (Bool ⊕ (Bool × Int × Int))):=
 (bif decide (s1.1 < (a0.Parts.length:Int)) then (idx a0.Parts s1.1).bind fun v7=>(bif decide (40<=s1.2.1) then (zka 2 ((-1))).bind fun v10=>some (.out (.inr ((s1.2.2,v10.Code,v10.Index)))) else (bif s1.2.2 then (iter (yua s1) 0).bind fun b14=>some (.cont ((w64 (s1.1+1)),b14,true)) else (iter (vAa s1) 0).bind fun b18=>some (.cont ((w64 (s1.1+1)),b18.1,b18.2)))) else some (.out (.inl s1.2.2)))
def vBa(s29:Int × Int)(s42:Int):Option (Step Int Int):=
 (bif decide (s42 < 0) then none else some (.out ((w64 (s29.2+1)))))
def kra(a0:zpa)(s29:Int × Int):Option (Step (Int × Int) (Unit ⊕ (Int × Int))):=
 (bif decide (s29.1 < (a0.Parts.length:Int)) then (idx a0.Parts s29.1).bind fun v35=>(q9a ((q5a.mk ((zpa.mk v35.Fields v35.Body ([]))) ((w64 (0+1)))))).bind fun v37=>(bif (v37 !=0) then (zka v37 s29.2).bind fun v40=>some (.out (.inr ((v40.Code,v40.Index)))) else (iter (vBa s29) 0).bind fun b43=>some (.cont ((w64 (s29.1+1)),b43))) else some (.out (.inl (()))))
def z8a(a0:zpa):Option zoa:=
 (iter (kqa a0) ((0,(w64 (0+1)),false))).bind (Sum.elim (fun b2=>(bif b2 then (zka 2 ((-2))).bind fun v22=>some v22 else (vSa ((q5a.mk a0 0))).bind fun v24=>(bif (v24 !=0) then (zka v24 0).bind fun v27=>some v27 else (iter (kra a0) ((0,(w64 (0+1))))).bind (Sum.elim (fun b30=>(zza).bind fun v46=>some v46) (fun b31=>some ((zoa.mk b31.1 b31.2))))))) (fun b3=>some ((zoa.mk b3.2.1 b3.2.2))))
def wsa(a0:zpa):Option ((List zca) × (List UInt8)):=
 some ((a0.Fields,a0.Body))
def KGa(v7:(List Str) × zoa)(s9:Int × (List UInt8)):Option (Step (Int × (List UInt8)) (List UInt8)):=
 (bif decide (s9.1 < (v7.1.length:Int)) then (idx v7.1 s9.1).bind fun v13=>(app 140737488355328 s9.2 v13).bind fun v15=>(app 140737488355328 v15 (([(13:UInt8),(10:UInt8)]:List UInt8))).bind fun v17=>some (.cont ((w64 (s9.1+1)),v17)) else some (.out s9.2))
def KHa(a0:List zca)(s1:Int × (List UInt8)):Option (Step (Int × (List UInt8)) (List UInt8)):=
 (bif decide (s1.1 < (a0.length:Int)) then (idx a0 s1.1).bind fun v5=>(yaa v5.Name v5.Value).bind fun v7=>(iter (KGa v7) ((0,s1.2))).bind fun b10=>some (.cont ((w64 (s1.1+1)),b10)) else some (.out s1.2))
def wSa(a0:List zca)(a1:List UInt8):Option (List UInt8):=
 (iter (KHa a0) ((0,([]:List UInt8)))).bind fun b2=>(app 140737488355328 b2 (([(13:UInt8),(10:UInt8)]:List UInt8))).bind fun v19=>(app 140737488355328 v19 a1).bind fun v21=>some v21
def kpa(a0:List UInt8)(c0_0:Str)(s1:Int):Option (Step Int (Unit ⊕ Unit)):=
 (bif decide (s1 < (a0.length:Int)) then (cut a0 s1 ((a0.length:Int))).bind fun v7=>(v0a v7 (([(13:UInt8),(10:UInt8)]:List UInt8))).bind fun v9=>((bif decide (0<=v9) then some (((w64 (s1+v9)),(w64 ((w64 (s1+v9))+2)))) else some (((a0.length:Int),(a0.length:Int)))):Option (Int × Int)).bind fun (j11:Int × Int)=>(cut a0 s1 j11.1).bind fun v13=>(cat (([45,45]:Str)) c0_0).bind fun v15=>(kja v13 v15).bind fun v17=>(bif v17 then some (.out (.inr (()))) else some (.cont j11.2)) else some (.out (.inl (()))))
def yga(a0:List UInt8)(c0_0:Str):Option Bool:=
 (iter (kpa a0 c0_0) 0).bind (Sum.elim (fun b2=>some false) (fun b3=>some true))
def wta(a0:List (List UInt8))(v6:Str)(s9:Int):Option (Step Int (Unit ⊕ Int)):=
 (bif decide (s9 < (a0.length:Int)) then (idx a0 s9).bind fun v15=>(yga v15 v6).bind fun v17=>(bif v17 then some (.out (.inr s9)) else some (.cont (w64 (s9+1)))) else some (.out (.inl (()))))
def wua(a0:List (List UInt8))(s1:Int):Option (Step Int Str):=
 (kda s1).bind fun v4=>(cat (([98]:Str)) v4).bind fun v6=>((iter (wta a0 v6) 0).bind (Sum.elim (fun b10=>some ((-1))) (fun b11=>some b11)):Option Int).bind fun (j8:Int)=>(bif (!(decide (0<=j8))) then some (.out v6) else some (.cont (w64 (s1+1))))
def jJa(a0:List (List UInt8)):Option Str:=
 (iter (wua a0) 0).bind fun b2=>some b2
def z0a(a0:List zna):Option (List zna):=
 (nilE a0.isEmpty (some ([])) ((app 4398046511104 ([]:List zna) a0).bind fun v2=>some v2))
def kKa(a0:zpa)(s2:Int × (List (List UInt8))):Option (Step (Int × (List (List UInt8))) (List (List UInt8))):=
 (bif decide (s2.1 < (a0.Parts.length:Int)) then (idx a0.Parts s2.1).bind fun v6=>(wsa ((zpa.mk v6.Fields v6.Body ([])))).bind fun v8=>(wSa v8.1 v8.2).bind fun v10=>(app 5864062014805 s2.2 (([v10]:List (List UInt8)))).bind fun v12=>some (.cont ((w64 (s2.1+1)),v12)) else some (.out s2.2))
def kLa(b3:List (List UInt8))(v14:Str)(s31:Int × (List UInt8)):Option (Step (Int × (List UInt8)) (List UInt8)):=
 (bif decide (s31.1 < (b3.length:Int)) then (idx b3 s31.1).bind fun v35=>(cat (([45,45]:Str)) v14).bind fun v37=>(cat v37 (([13,10]:Str))).bind fun v39=>(app 140737488355328 s31.2 v39).bind fun v41=>(app 140737488355328 v41 v35).bind fun v43=>(app 140737488355328 v43 (([(13:UInt8),(10:UInt8)]:List UInt8))).bind fun v45=>some (.cont ((w64 (s31.1+1)),v45)) else some (.out s31.2))
def vna(a0:zpa):Option ((List zca) × (List UInt8)):=
 (bif ((a0.Parts.length:Int)==0) then some ((a0.Fields,a0.Body)) else (iter (kKa a0) ((0,([]:List (List UInt8))))).bind fun b3=>(jJa b3).bind fun v14=>(vya a0.Fields).bind fun v16=>(z0a v16.1.Params).bind fun v18=>(app 4398046511104 v18 (([(zna.mk (([98,111,117,110,100,97,114,121]:Str)) v14)]:List zna))).bind fun v20=>(zja a0.Fields).bind fun v22=>(qQa ((kEa.mk v16.1.Type_ v16.1.Sub v20))).bind fun v24=>(idx v22 v16.2.1).bind fun v26=>(idx v22 v16.2.1).bind fun v28=>(iter (kLa b3 v14) ((0,([]:List UInt8)))).bind fun b32=>(cat (([45,45]:Str)) v14).bind fun v47=>(cat v47 (([45,45,13,10]:Str))).bind fun v49=>(app 140737488355328 b32 v49).bind fun v51=>some (((List.set v22 (Int.toNat v16.2.1) ((zca.mk v28.Name v24.1))),v51)))
def qSa(a0:zpa):Option (zda × zoa):=
 (z8a a0).bind fun v1=>(zma v1).bind fun v3=>(bif v3 then some (((zda.mk ([]) ([])),v1)) else (vna a0).bind fun v6=>(zja v6.1).bind fun v8=>(zKa v6.2).bind fun v10=>(zCa ((zda.mk v8 v10))).bind fun v12=>(zma v12).bind fun v14=>(bif v14 then (zka v12.Code ((-3))).bind fun v17=>some (((zda.mk ([]) ([])),v17)) else (zza).bind fun v19=>some (((zda.mk v8 v10),v19))))
def vaa(a1:List zda)(s22:Int × (List zpa)):Option (Step (Int × (List zpa)) (List zpa)):=
 (bif decide (s22.1 < (a1.length:Int)) then (idx a1 s22.1).bind fun v26=>(qPa v26).bind fun v28=>(app 1954687338268 s22.2 (([(zpa.mk (([(zca.mk (([67,111,110,116,101,110,116,45,84,121,112,101]:Str)) (([109,101,115,115,97,103,101,47,105,116,101,109]:Str)))]:List zca)) v28.1 ([]))]:List zpa))).bind fun v30=>some (.cont ((w64 (s22.1+1)),v30)) else some (.out s22.2))
def wTa(a0:Str)(a1:List zda)(a2:Int):Option (zda × zoa):=
 (q0a a0).bind fun v1=>(bif (!v1) then (zka 10 ((-10))).bind fun v4=>some (((zda.mk ([]) ([])),v4)) else (waa a1).bind fun v6=>(zma v6).bind fun v8=>(bif v8 then some (((zda.mk ([]) ([])),v6)) else (kCa a2 0).bind fun v11=>(zma v11.2).bind fun v13=>(bif v13 then (zka v11.2.Code ((-2))).bind fun v16=>some (((zda.mk ([]) ([])),v16)) else (vma v11.1).bind fun v18=>(kda ((a1.length:Int))).bind fun v20=>(iter (vaa a1) ((0,([]:List zpa)))).bind fun b23=>(qSa ((zpa.mk (([(zca.mk (([70,114,111,109]:Str)) a0),(zca.mk (([68,97,116,101]:Str)) v18.1),(zca.mk (([88,45,68,105,103,101,115,116]:Str)) v20),(zca.mk (([67,111,110,116,101,110,116,45,84,121,112,101]:Str)) (([109,117,108,116,105,112,97,114,116,47,100,105,103,101,115,116]:Str)))]:List zca)) ([]) b23))).bind fun v32=>(zma v32.2).bind fun v34=>(bif v34 then (zka v32.2.Code ((-21))).bind fun v37=>some (((zda.mk ([]) ([])),v37)) else (zza).bind fun v39=>some ((v32.1,v39))))))
def jZa(v1:kEa × Int × Bool)(s5:Int):Option (Step Int (Unit ⊕ Int)):=
 (bif decide (s5 < (v1.1.Params.length:Int)) then (idx v1.1.Params s5).bind fun v11=>(idx v1.1.Params s5).bind fun v13=>(kBa v13.Name (([98,111,117,110,100,97,114,121]:Str))).bind fun v15=>(bif v15 then some (.out (.inr s5)) else some (.cont (w64 (s5+1)))) else some (.out (.inl (()))))
def j0a(s19:Int × Int × (List zna)):Option (Step (Int × Int × (List zna)) (Int × (List zna))):=
 (bif decide (s19.2.1 < (s19.2.2.length:Int)) then ((idx s19.2.2 s19.2.1).bind fun v24=>(idx s19.2.2 s19.2.1).bind fun v26=>(kBa v26.Name (([98,111,117,110,100,97,114,121]:Str))).bind fun v28=>(bif (!v28) then (idx s19.2.2 s19.1).bind fun v31=>(idx s19.2.2 s19.1).bind fun v33=>some (((w64 (s19.1+1)),(List.set s19.2.2 (Int.toNat s19.1) v26))) else some ((s19.1,s19.2.2))):Option (Int × (List zna))).bind fun (j23:Int × (List zna))=>some (.cont (j23.1,(w64 (s19.2.1+1)),j23.2)) else some (.out ((s19.1,s19.2.2))))
def yGa(a0:List zca):Option ((List zca) × Bool):=
 (vya a0).bind fun v1=>(((iter (jZa v1) 0).bind (Sum.elim (fun b6=>some ((-1))) (fun b7=>some b7)):Option Int).bind fun (j4:Int)=>(bif (j4==(-1)) then some v1.1.Params else (iter (j0a) ((j4,(w64 (j4+1)),v1.1.Params))).bind fun b20=>(cut b20.2 b20.1 (b20.2.length:Int)).bind fun v35=>(cut ((clr0 b20.2 (Int.toNat b20.1) ((zna.mk (([]:Str)) (([]:Str)))))) 0 b20.1).bind fun v37=>some v37):Option (List zna)).bind fun (j3:List zna)=>(qQa ((kEa.mk v1.1.Type_ v1.1.Sub j3))).bind fun v39=>(zma v39.2).bind fun v41=>(bif v41 then some (([],false)) else (zja a0).bind fun v44=>(idx v44 v1.2.1).bind fun v46=>(idx v44 v1.2.1).bind fun v48=>some (((List.set v44 (Int.toNat v1.2.1) ((zca.mk v48.Name v39.1))),true)))
def vTa(a0:zea)(v5:List (List UInt8))(s11:Int):Option (Step Int zea):=
 (bif decide (s11 < (v5.length:Int)) then (idx v5 s11).bind fun v15=>none else some (.out ((zea.mk ((w64 (a0.many+1))) a0.fault))))
def k5a(a0:zea)(a1:List zca)(a2:List UInt8)(a3:Int):Option (zpa × Bool × zea):=
 (zja a1).bind fun v1=>(zKa a2).bind fun v3=>(qRa a1 a2 a3).bind fun v5=>(bif ((v5.length:Int)==0) then some (((zpa.mk v1 v3 ([])),true,(zea.mk ((w64 (a0.many+1))) a0.fault))) else (yGa a1).bind fun v8=>(bif (!v8.2) then some (((zpa.mk v1 v3 ([])),true,(zea.mk ((w64 (a0.many+1))) a0.fault))) else (iter (vTa a0 v5) 0).bind fun b12=>some (((zpa.mk v8.1 ([]) ([])),true,b12))))
def kya(a0:zea)(a1:List UInt8)(a2:Int):Option (zpa × Bool × zea):=
 (v1a a1).bind fun v1=>(zma v1.2.2).bind fun v3=>(bif v3 then (zka v1.2.2.Code ((-8))).bind fun v6=>some (((zpa.mk ([]) ([]) ([])),false,(zea.mk a0.many v6))) else (bif (a0.many==40) then (zka 2 ((-7))).bind fun v9=>some (((zpa.mk ([]) ([]) ([])),false,(zea.mk a0.many v9))) else (cut a1 v1.2.1 ((a1.length:Int))).bind fun v11=>(k5a a0 v1.1 v11 a2).bind fun v13=>some ((v13.1,v13.2.1,v13.2.2))))
def zSa(a3:Int)(v5:List (List UInt8))(s11:Int × zea × (List zpa)):Option (Step (Int × zea × (List zpa)) ((zea × (List zpa)) ⊕ zea)):=
 (bif decide (s11.1 < (v5.length:Int)) then (idx v5 s11.1).bind fun v17=>(kya s11.2.1 v17 ((w64 (a3+1)))).bind fun v19=>(bif (!v19.2.1) then some (.out (.inr v19.2.2)) else (app 1954687338268 s11.2.2 (([(zpa.mk v19.1.Fields v19.1.Body ([]))]:List zpa))).bind fun v22=>some (.cont ((w64 (s11.1+1)),v19.2.2,v22))) else some (.out (.inl ((s11.2.1,s11.2.2)))))
def k6a(a0:zea)(a1:List zca)(a2:List UInt8)(a3:Int):Option (zpa × Bool × zea):=
 (zja a1).bind fun v1=>(zKa a2).bind fun v3=>(qRa a1 a2 a3).bind fun v5=>(bif ((v5.length:Int)==0) then some (((zpa.mk v1 v3 (([]:List zpa))),true,(zea.mk ((w64 (a0.many+1))) a0.fault))) else (yGa a1).bind fun v8=>(bif (!v8.2) then some (((zpa.mk v1 v3 (([]:List zpa))),true,(zea.mk ((w64 (a0.many+1))) a0.fault))) else (iter (zSa a3 v5) ((0,(zea.mk ((w64 (a0.many+1))) a0.fault),([]:List zpa)))).bind (Sum.elim (fun b12=>some (((zpa.mk v8.1 ([]) b12.2),true,b12.1))) (fun b13=>some (((zpa.mk ([]) ([]) ([])),false,b13))))))
def vUa(a0:zda):Option (zpa × zoa):=
 (zCa a0).bind fun v1=>(zma v1).bind fun v3=>(bif v3 then some (((zpa.mk ([]) ([]) ([])),v1)) else (k6a ((zea.mk 0 ((zoa.mk 0 0)))) a0.Fields a0.Body 0).bind fun v6=>(bif (!v6.2.1) then some (((zpa.mk ([]) ([]) ([])),v6.2.2.fault)) else (z8a v6.1).bind fun v9=>(zma v9).bind fun v11=>(bif v11 then (zka v9.Code ((-9))).bind fun v14=>some (((zpa.mk ([]) ([]) ([])),v14)) else (zza).bind fun v16=>some ((v6.1,v16)))))
def vba(a0:zpa):Option (zda × Bool):=
 (qna a0.Fields (([67,111,110,116,101,110,116,45,84,121,112,101]:Str)) (([109,101,115,115,97,103,101,47,105,116,101,109]:Str))).bind fun v1=>(bif (!v1) then some (((zda.mk ([]) ([])),false)) else (v9a a0.Body).bind fun v4=>(zma v4.2).bind fun v6=>(bif v6 then some (((zda.mk ([]) ([])),false)) else (qPa v4.1).bind fun v9=>((zma v9.2).bind fun v12=>(bif (!v12) then (qka v9.1 a0.Body).bind fun v15=>some v15 else some false):Option Bool).bind fun (j11:Bool)=>some ((v4.1,j11))))
def vca(v6:zpa × zoa)(s24:Int × (List zda)):Option (Step (Int × (List zda)) ((List zda) ⊕ ((List zda) × Bool × zoa))):=
 (bif decide (s24.1 < (v6.1.Parts.length:Int)) then (idx v6.1.Parts s24.1).bind fun v30=>(vba ((zpa.mk v30.Fields v30.Body ([])))).bind fun v32=>(bif (!v32.2) then (zza).bind fun v35=>some (.out (.inr (([],false,v35)))) else (app 2932031007402 s24.2 (([v32.1]:List zda))).bind fun v37=>some (.cont ((w64 (s24.1+1)),v37))) else some (.out (.inl s24.2)))
def qTa(a0:zda):Option ((List zda) × Bool × zoa):=
 (zCa a0).bind fun v1=>(zma v1).bind fun v3=>(bif v3 then some (([],false,v1)) else (vUa a0).bind fun v6=>((zma v6.2).bind fun v9=>(bif v9 then some true else (bif decide ((v6.1.Parts.length:Int) < 1) then some true else (bif decide (20 < (v6.1.Parts.length:Int)) then some true else (qna v6.1.Fields (([67,111,110,116,101,110,116,45,84,121,112,101]:Str)) (([109,117,108,116,105,112,97,114,116,47,100,105,103,101,115,116]:Str))).bind fun v14=>(bif (!v14) then some true else (kda ((v6.1.Parts.length:Int))).bind fun v17=>(qna v6.1.Fields (([88,45,68,105,103,101,115,116]:Str)) v17).bind fun v19=>some ((!v19)))))):Option Bool).bind fun (j8:Bool)=>(bif j8 then (zza).bind fun v22=>some (([],false,v22)) else (iter (vca v6) ((0,([]:List zda)))).bind (Sum.elim (fun b25=>(zza).bind fun v39=>some ((b25,true,v39))) (fun b26=>some ((b26.1,b26.2.1,b26.2.2))))))
def jKa(a0:List zda)(a1:Int)(s11:Int × Int × (List Int)):Option (Step (Int × Int × (List Int)) (List Int)):=
 (bif decide (s11.2.1 < (a0.length:Int)) then ((idx a0 s11.2.1).bind fun v16=>(qPa v16).bind fun v18=>((bif decide (0<=(w64 ((s11.2.2.length:Int) - 1))) then (idx s11.2.2 ((w64 ((s11.2.2.length:Int) - 1)))).bind fun v22=>(idx s11.2.2 ((w64 ((s11.2.2.length:Int) - 1)))).bind fun v24=>(bif decide (v24 < a1) then some (((w64 (s11.1+(v18.1.length:Int))),(w64 ((s11.2.2.length:Int) - 1)),decide ((w64 (s11.1+(v18.1.length:Int)))<=6000))) else some (((w64 (s11.1+(v18.1.length:Int))),(w64 ((s11.2.2.length:Int) - 1)),false))) else some (((w64 (s11.1+(v18.1.length:Int))),(w64 ((s11.2.2.length:Int) - 1)),false))):Option (Int × Int × Bool)).bind fun (j20:Int × Int × Bool)=>(bif j20.2.2 then (idx s11.2.2 j20.2.1).bind fun v28=>(idx s11.2.2 j20.2.1).bind fun v30=>(idx s11.2.2 j20.2.1).bind fun v32=>(idx s11.2.2 j20.2.1).bind fun v34=>some ((j20.1,(List.set s11.2.2 (Int.toNat j20.2.1) ((w64 (v30+1)))))) else (app 17592186044416 s11.2.2 (([1]:List Int))).bind fun v36=>some (((v18.1.length:Int),v36))):Option (Int × (List Int))).bind fun (j15:Int × (List Int))=>some (.cont (j15.1,(w64 (s11.2.1+1)),j15.2)) else some (.out s11.2.2))
def jpa(a0:List zda)(a1:Int):Option ((List Int) × zoa):=
 (waa a0).bind fun v1=>(zma v1).bind fun v3=>(bif v3 then some (([],v1)) else ((bif decide (a1 < 1) then some true else some (decide (20 < a1))):Option Bool).bind fun (j6:Bool)=>(bif j6 then (zka 3 ((-22))).bind fun v9=>some (([],v9)) else (iter (jKa a0 a1) ((0,0,([]:List Int)))).bind fun b12=>(zza).bind fun v38=>some ((b12,v38))))
def jLa:Option Bool:=
 (wTa (([108,64,120]:Str)) (([(zda.mk ([]) ([])),(zda.mk ([]) (([(97:UInt8)]:List UInt8)))]:List zda)) 0).bind fun v1=>(qTa v1.1).bind fun v3=>(jpa (([(zda.mk ([]) ([])),(zda.mk ([]) ([])),(zda.mk ([]) ([]))]:List zda)) 2).bind fun v5=>(qTa ((zda.mk ([]) ([])))).bind fun v7=>((bif (v1.2.Code==0) then (bif (v3.2.2.Code==0) then (bif (v5.2.Code==0) then (bif (v7.2.2.Code==0) then (bif v3.2.1 then (bif (!v7.2.1) then (bif ((v1.1.Fields.length:Int)==4) then (bif ((v3.1.length:Int)==2) then (idx v3.1 1).bind fun v18=>(bif (v18.Body==([97]:Str)) then (yEb v5.1 (([2,1]:List Int))).bind fun v21=>some v21 else some false) else some false) else some false) else some false) else some false) else some false) else some false) else some false) else some false):Option Bool).bind fun (j9:Bool)=>some j9
def kza(a1:List zda)(v16:(List zda) × Bool × zoa)(s22:Int):Option (Step Int (Unit ⊕ Bool)):=
 (bif decide (s22 < (a1.length:Int)) then (idx v16.1 s22).bind fun v28=>(idx a1 s22).bind fun v30=>(wna v28 v30).bind fun v32=>(bif (!v32) then some (.out (.inr false)) else some (.cont (w64 (s22+1)))) else some (.out (.inl (()))))
def kDa(a0:Str)(a1:List zda)(a2:Int)(a3:Str):Option Bool:=
 (wTa a0 a1 a2).bind fun v1=>((jLa).bind fun v4=>(bif (!v4) then some true else some ((v1.2.Code !=0))):Option Bool).bind fun (j3:Bool)=>(bif j3 then ((jLa).bind fun v9=>(bif v9 then some (((v1.1.Fields.length:Int)==0)) else some false):Option Bool).bind fun (j8:Bool)=>some j8 else (yNa v1.1 a3 (([49]:Str)) a2).bind fun v12=>((bif (v12.2.Code==0) then some ((v12.1.Fields,v12.1.Body)) else some ((v1.1.Fields,v1.1.Body))):Option ((List zca) × (List UInt8))).bind fun (j14:(List zca) × (List UInt8))=>(qTa ((zda.mk j14.1 j14.2))).bind fun v16=>((bif (v16.2.2.Code !=0) then some true else (bif (!v16.2.1) then some true else some (((v16.1.length:Int) !=(a1.length:Int))))):Option Bool).bind fun (j18:Bool)=>(bif j18 then some false else (iter (kza a1 v16) 0).bind (Sum.elim (fun b23=>some true) (fun b24=>some b24))))
theorem ZSa:jLa=some true:=by kernel_rfl
section
theorem z6b(a b:Nat)(h:a+b<=9223372036854775807):w64 ((a:Int)+(b:Int))=((a+b:Nat):Int):=by
 rw[zIa (by omega) (by omega)];simp
theorem w64_nl(a k:Nat)(h:a+OfNat.ofNat k<=9223372036854775807):w64 ((a:Int)+(no_index (OfNat.ofNat k:Int)))=((a+OfNat.ofNat k:Nat):Int):=by
 have e:(OfNat.ofNat k:Int)=((OfNat.ofNat k:Nat):Int):=rfl;rw[e];exact z6b a _ h
theorem w64_ns(a b:Nat)(h:b<=a)(ha:a<=9223372036854775807):w64 ((a:Int) - (b:Int))=((a - b:Nat):Int):=by
 rw[zIa (by omega) (by omega)];omega
theorem qEb(a:Nat)(h:a<=9223372036854775807):w64 (a:Int)=(a:Int):=zIa (by omega) (by omega)
theorem Kqa(c:UInt8)(k:Nat)(hk:OfNat.ofNat k < 256):((c.toNat:Int)==no_index (OfNat.ofNat k:Int))=(c==OfNat.ofNat k):=by
 have e:(OfNat.ofNat k:Int)=((OfNat.ofNat k:Nat):Int):=rfl;have h2:(OfNat.ofNat k:UInt8).toNat=(OfNat.ofNat k:Nat):=by
  show (UInt8.ofNat k).toNat=k;rw[jCg];exact jCz hk
 rw[jBe,beq_iff_eq,beq_iff_eq,<-UInt8.toNat_inj,h2,e];omega
theorem u8_ne(c:UInt8)(k:Nat)(hk:OfNat.ofNat k < 256):((c.toNat:Int) !=no_index (OfNat.ofNat k:Int))=(c !=OfNat.ofNat k):=by
 unfold bne;rw[Kqa c k hk]
section
variable {α:Type}
theorem Vsa(l:List α)(i:Nat):idx l (i:Int)=l[i]? :=by unfold idx;rw[if_pos (by omega)];simp
theorem z7b{l:List α}{i:Nat}(h:i < l.length):idx l (i:Int)=some l[i]:=by rw[Vsa];exact jAg h
theorem YWa{l:List α}{a b:Nat}(h1:a<=b)(h2:b<=l.length):cut l (a:Int) (b:Int)=some ((l.drop a).take (b - a)):=by
 unfold cut;rw[if_pos (by omega)];simp
theorem yRa{l:List α}{a:Nat}(h1:a<=l.length):cut l (a:Int) (l.length:Int)=some (l.drop a):=by
 rw[YWa h1 (jAq _)];rw[List.take_of_length_le (by simp)]
theorem WSa{l:List α}{b:Nat}(h2:b<=l.length):cut l 0 (b:Int)=some (l.take b):=by
 have:=YWa (l:=l) (a:=0) (b:=b) (by omega) h2;simpa using this
theorem k7a{lim:Nat}{l xs:List α}(h:l.length+xs.length<=lim):app lim l xs=some (l++xs):=by unfold app;rw[if_pos h]
theorem kRa{a b:Str}(h:a.length+b.length<=9223372036854775807):cat a b=some (a++b):=by unfold cat;rw[if_pos h]
end
section
variable {A R:Type} {body:A->Option (Step A R)}
theorem j1a(Inv:A->Prop)(m:A->Nat)(Post:A->R->Prop)
 (h:∀s,Inv s->(∃r,body s=some (.out r)/\Post s r)∨∃s',body s=some (.cont s')/\Inv s' /\m s' < m s/\∀r,Post s' r->Post s r):
 ∀s,Inv s->∃r,iter body s=some r/\Post s r:=by
 intro s;induction hn:m s using Nat.strongRecOn generalizing s with
 | _ n ih=>
  intro hi;rcases h s hi with ⟨r,h1,h2⟩ | ⟨s',h1,h2,h3,h4⟩
  .exact ⟨r,zsa h1,h2⟩
  obtain ⟨r,h5,h6⟩:=ih (m s') (by omega) s' rfl h2;exact ⟨r,(zxa h1).trans h5,h4 r h6⟩
end
end
section
section
variable {α R O A S:Type}
def zZa(q:Nat->α->Option R):Nat->List α->Option R
 | _,[]=>none
 | i,x::r=>match q i x with | some y=>some y | none=>zZa q (i+1) r
theorem qaa(l:List α)(q:Nat->α->Option R)(oN:O)(oS:R->O){body:Int->Option (Step Int O)}(hl:body (l.length:Int)=some (.out oN))
 (hs:∀(i:Nat) x,l[i]? =some x->body (i:Int)=some ((q i x).elim (.cont ((i+1:Nat):Int)) fun r=>.out (oS r))):
 iter body 0=some ((zZa q 0 l).elim oN oS):=by
 have key:∀r p,l=p++r->iter body (p.length:Int)=some ((zZa q p.length r).elim oN oS):=by
  intro r;induction r with
  | nil=>
   intro p h;have:p=l:=by simp[h]
   subst this;exact zsa hl
  | cons x r ih=>
   intro p h;have hx:=hs p.length x (by simp[h]);unfold zZa;cases hq:q p.length x with
   | some y=>rw[hq]at hx;exact zsa hx
   | none=>
    rw[hq]at hx;rw[zxa hx];have:=ih (p++ [x]) (by simp[h]);simpa using this
 exact key l [] rfl
theorem web(l:List α)(enc:Int->S->A)(f:Nat->S->α->S)(out:S->O)(Inv:Nat->S->Prop){body:A->Option (Step A O)}
 (hl:∀s,Inv l.length s->body (enc l.length s)=some (.out (out s)))
 (hs:∀(i:Nat) x s,l[i]? =some x->Inv i s->body (enc i s)=some (.cont (enc ((i+1:Nat):Int) (f i s x)))/\Inv (i+1) (f i s x)) (s:S) (h0:Inv 0 s):
 ∃t,iter body (enc 0 s)=some (out t)/\Inv l.length t/\t=(l.zipIdx.foldl (fun s p=>f p.2 s p.1) s):=by
 have key:∀r p s,l=p++r->Inv p.length s->∃t,iter body (enc (p.length:Int) s)=some (out t)/\Inv l.length t/\t=((r.zipIdx p.length).foldl (fun s p=>f p.2 s p.1) s):=by
  intro r;induction r with
  | nil=>
   intro p s h hi;have:p=l:=by simp[h]
   subst this;exact ⟨s,zsa (hl s hi),hi,rfl⟩
  | cons x r ih=>
   intro p s h hi;obtain ⟨h1,h2⟩:=hs p.length x s (by simp[h]) hi;rw[zxa h1];obtain ⟨t,h3,h4,h5⟩:=ih (p++ [x]) (f p.length s x) (by simp[h]) (by simpa using h2);refine ⟨t,by simpa using h3,h4,?_⟩;rw[h5];simp
 exact key l [] s rfl h0
theorem z8b(f:S->α->S)(l:List α):∀(n:Nat) (s:S),(l.zipIdx n).foldl (fun s p=>f s p.1) s=l.foldl f s:=by
 induction l with
 | nil=>intro n s;rfl
 | cons x r ih=>intro n s;simp[ih]
theorem wva(l:List α)(enc:Int->S->A)(f:S->α->S)(out:S->O)(Inv:Nat->S->Prop){body:A->Option (Step A O)}
 (hl:∀s,Inv l.length s->body (enc l.length s)=some (.out (out s)))
 (hs:∀(i:Nat) x s,l[i]? =some x->Inv i s->body (enc i s)=some (.cont (enc ((i+1:Nat):Int) (f s x)))/\Inv (i+1) (f s x)) (s:S) (h0:Inv 0 s):
 iter body (enc 0 s)=some (out (l.foldl f s))/\Inv l.length (l.foldl f s):=by
 obtain ⟨t,h1,h2,h3⟩:=web l enc (fun _=>f) out Inv hl hs s h0;have:t=l.foldl f s:=by rw[h3];exact z8b f l 0 s
 subst this;exact ⟨h1,h2⟩
theorem Vta(c:α->Bool)(r:R)(l:List α)(n:Nat):zZa (fun _ x=>if c x then some r else none) n l=if l.any c then some r else none:=by
 induction l generalizing n with
 | nil=>rfl
 | cons x l ih=>unfold zZa;cases h:c x <;> simp[h,ih]
theorem qUa{q:Nat->α->Option R}{l:List α}{n:Nat}:zZa q n l=none↔∀(i:Nat) x,l[i]? =some x->q (n+i) x=none:=by
 induction l generalizing n with
 | nil=>simp[zZa]
 | cons x l ih=>
  unfold zZa;cases h:q n x with
  | some y=>
   simp only[reduceCtorEq,false_iff];intro hh;have:=hh 0 x rfl;rw[jBw,h]at this;cases this
  | none=>
   rw[ih];constructor
   .intro hh i y hy;cases i with
    | zero=>simp at hy;subst hy;exact h
    | succ i=>rw[show n+(i+1)=n+1+i by omega];exact hh i y (by simpa using hy)
   intro hh i y hy;rw[show n+1+i=n+(i+1) by omega];exact hh (i+1) y (by simpa using hy)
theorem j2a{q:Nat->α->Option R}{l:List α}{n:Nat}{r:R}(h:zZa q n l=some r):∃(i:Nat) (x:α),l[i]? =some x/\q (n+i) x=some r:=by
 induction l generalizing n with
 | nil=>cases h
 | cons x l ih=>
  unfold zZa at h;cases hq:q n x with
  | some y=>rw[hq]at h;cases h;exact ⟨0,x,rfl,hq⟩
  | none=>
   rw[hq]at h;obtain ⟨i,y,h1,h2⟩:=ih h;exact ⟨i+1,y,by simpa using h1,by rw[show n+(i+1)=n+1+i by omega];exact h2⟩
theorem kfa{l:List α}{i:Nat}{x:α}(h:l[i]? =some x):i < l.length:=(jAc.1 h).1
theorem kSa{l:List α}{i:Nat}{x:α}(h:l[i]? =some x):decide ((i:Int) < (l.length:Int))=true:=by have:=kfa h;simp;omega
theorem kaa(l:List α):decide ((l.length:Int) < (l.length:Int))=false:=by simp
theorem z3a{l:List α}{i:Nat}{x:α}(h:l[i]? =some x):idx l (i:Int)=some x:=by rw[Vsa];exact h
end
end
def qFb(c:UInt8):Bool:=(decide (97<=c) && decide (c<=122)) || (decide (65<=c) && decide (c<=90)) || (decide (48<=c) && decide (c<=57))
def VUa(c:UInt8):Bool:=(decide (97<=c) && decide (c<=122)) || (decide (48<=c) && decide (c<=57)) || c==45 || c==46
def qGb(c:UInt8):Bool:=qFb c || c==45 || c==95 || c==46 || c==43 || c==61
def YXa:Bool->Str->Bool
 | p,[]=> !p
 | p,c::r=>if c=46 then !p && YXa true r else YXa false r
def domP(s:Str):Bool:=decide (s.length<=60) && s.all VUa && YXa true s
def atP(s:Str):Nat:=s.findIdx (· ==64)
def Yra(s:Str):Bool:=decide (atP s < s.length) && decide (1<=atP s) && decide (atP s<=60) && (s.take (atP s)).all qGb && domP (s.drop (atP s+1))
theorem WTa(k:Nat)(c:UInt8)(hk:OfNat.ofNat k < 256):decide ((no_index (OfNat.ofNat k:Int))<=(c.toNat:Int))=decide ((OfNat.ofNat k:UInt8)<=c):=by
 have e:(OfNat.ofNat k:Int)=((OfNat.ofNat k:Nat):Int):=rfl;have h2:(OfNat.ofNat k:UInt8).toNat=(OfNat.ofNat k:Nat):=by
  show (UInt8.ofNat k).toNat=k;rw[jCg];exact jCz hk
 rw[jBe,decide_eq_true_eq,decide_eq_true_eq,UInt8.le_iff_toNat_le,h2,e];omega
theorem WUa(k:Nat)(c:UInt8)(hk:OfNat.ofNat k < 256):decide ((c.toNat:Int)<=(no_index (OfNat.ofNat k:Int)))=decide (c<=(OfNat.ofNat k:UInt8)):=by
 have e:(OfNat.ofNat k:Int)=((OfNat.ofNat k:Nat):Int):=rfl;have h2:(OfNat.ofNat k:UInt8).toNat=(OfNat.ofNat k:Nat):=by
  show (UInt8.ofNat k).toNat=k;rw[jCg];exact jCz hk
 rw[jBe,decide_eq_true_eq,decide_eq_true_eq,UInt8.le_iff_toNat_le,h2,e];omega
theorem qHb(a b c:Int):R_In a b c=some (decide (b<=a) && decide (a<=c)):=by
 unfold R_In;cases decide (b<=a) <;> rfl
theorem ZTa(c:UInt8):v4a c=some (qFb c):=by
 unfold v4a qFb;simp only[WTa 97 c (by decide),WUa 122 c (by decide),WTa 65 c (by decide),WUa 90 c (by decide),WTa 48 c (by decide),WUa 57 c (by decide)];cases decide ((97:UInt8)<=c) <;> cases decide (c<=122) <;> cases decide ((65:UInt8)<=c) <;> cases decide (c<=90) <;> cases decide ((48:UInt8)<=c) <;> cases decide (c<=57) <;> rfl
theorem JVa(s:Str):∀p,YXa p s=(!(p && (s.isEmpty || s.head? ==some 46)) && !(s.getLast? ==some 46) && !Lib.contains s [46,46]):=by
 induction s with
 | nil=>intro p;cases p <;> simp[YXa,Lib.contains,Lib.index]
 | cons c r ih=>
  intro p;have hcont:Lib.contains (c::r) [46,46]=((c==46 && r.head? ==some 46) || Lib.contains r [46,46]):=by
   unfold Lib.contains;rw[Lib.index];have hpre:([46,46]:List UInt8).isPrefixOf (c::r)=(c==46 && r.head? ==some 46):=by
    cases r with
    | nil=>simp[List.isPrefixOf]
    | cons d r=>simp only[List.isPrefixOf,List.head?_cons,jCq];rw[jBe];simp;constructor <;> rintro ⟨rfl,rfl⟩ <;> exact ⟨rfl,rfl⟩
   rw[hpre];have hg:=Lib.index_ge r [46,46];cases c==46 && r.head? ==some 46 with
   | true=>simp
   | false=>
    simp only[jAs,if_false,Bool.false_or];by_cases h:Lib.index r [46,46]= -1
    .simp[h]
    have:(Lib.index r [46,46]== -1)=false:=by simpa using h
    rw[this];simp only[jAs,if_false];rw[jBe];simp;omega
  rw[hcont,YXa];have hlast:(c::r).getLast? =if r.isEmpty then some c else r.getLast? :=by cases r <;> simp
  rw[hlast];by_cases hc:c=46
  .subst hc;rw[if_pos rfl,ih true];cases r with
   | nil=>simp
   | cons d r=>cases p <;> cases hd:(d==46) <;> simp_all [Bool.and_comm,Bool.and_assoc,Bool.and_left_comm]
  have h1:(c==46)=false:=by simpa using hc
  have h2:(some c==some (46:UInt8))=false:=by simpa using hc
  rw[if_neg hc,ih false];cases r with
  | nil=>simp[h1,h2,Lib.contains,Lib.index,hc]
  | cons d r=>simp[h1,h2,hc]
theorem vCa(s t:Str):kja s t=some (t.isPrefixOf s):=by
 unfold kja kba;by_cases h:t.length<=s.length
 .have:decide ((t.length:Int)<=(s.length:Int))=true:=by simp;omega
  rw[this,WSa h];simp only[cond_true,jAb,Option.some.injEq];rw[jBe,beq_iff_eq,jCw,List.prefix_iff_eq_take];constructor <;> exact fun h=>h.symm
 have:decide ((t.length:Int)<=(s.length:Int))=false:=by simp;omega
 rw[this];simp only[cond_false,jAb,Option.some.injEq]
 symm
 rw[Bool.eq_false_iff];intro hp;exact h (jCw.1 hp).length_le
theorem yva(s t:Str)(hs:s.length<=9223372036854775806):z7a s t=some (t.isSuffixOf s):=by
 unfold z7a kca;by_cases h:t.length<=s.length
 .have:decide ((t.length:Int)<=(s.length:Int))=true:=by simp;omega
  rw[this,w64_ns _ _ h (by omega),yRa (by omega)];simp only[cond_true,jAb,Option.some.injEq];rw[jBe,beq_iff_eq,jBx,List.suffix_iff_eq_drop];constructor <;> exact fun h=>h.symm
 have:decide ((t.length:Int)<=(s.length:Int))=false:=by simp;omega
 rw[this];simp only[cond_false,jAb,Option.some.injEq]
 symm
 rw[Bool.eq_false_iff];intro hp;exact h (jBx.1 hp).length_le
theorem dom_char(c:UInt8):((bif decide ((97:UInt8)<=c) then (bif decide (c<=122) then some true else (bif decide ((48:UInt8)<=c) then (bif decide (c<=57) then some true else (bif (c==45) then some true else some (c==46))) else (bif (c==45) then some true else some (c==46)))) else (bif decide ((48:UInt8)<=c) then (bif decide (c<=57) then some true else (bif (c==45) then some true else some (c==46))) else (bif (c==45) then some true else some (c==46)))):Option Bool)=some (VUa c):=by
 unfold VUa;cases decide ((97:UInt8)<=c) <;> cases decide (c<=122) <;> cases decide ((48:UInt8)<=c) <;> cases decide (c<=57) <;> cases (c==45) <;> rfl
theorem QGa(s:Str)(hs:s.length < 4294967281):vja s=some (domP s):=by
 have hloop:iter (qda s) 0=some ((zZa (fun _ c=>if !VUa c then some () else none) 0 s).elim (.inl ()) .inr):=by
  refine qaa s _ (Sum.inl ()) Sum.inr ?_ ?_
  .unfold qda;rw[kaa];rfl
  intro i c hc;have hi:=kfa hc;unfold qda;rw[kSa hc,z3a hc];simp only[cond_true,jAb,Kqa c 45 (by decide),Kqa c 46 (by decide),WTa 97 c (by decide),WUa 122 c (by decide),WTa 48 c (by decide),WUa 57 c (by decide),dom_char];rw[show ((i:Int)+1)=((i+1:Nat):Int) by omega,qEb _ (by omega)];cases VUa c <;> rfl
 unfold vja domP;rw[hloop,Vta,JVa];by_cases hn:s=[]
 .subst hn;simp
 have h1:(s !=([]:Str))=true:=by simpa using hn
 rw[h1];simp only[cond_true];by_cases hl:s.length<=60
 .have h2:decide ((s.length:Int)<=60)=true:=by simp;omega
  rw[h2];have hall:s.any (fun c=> !VUa c)= !(s.all VUa):=by simp[List.not_all_eq_any_not]
  rw[hall];cases hg:s.all VUa with
  | false=>simp[hl]
  | true=>
   simp only[jAx,jAs,if_false,Option.elim,jAb,cond_true,vCa,yva s [46] (by omega),kMa,if_pos hs];have hp:([46]:Str).isPrefixOf s=(s.head? ==some 46):=by
    cases s with
    | nil=>rfl
    | cons d r=>simp only[List.isPrefixOf,List.head?_cons,jCq];rw[jBe];simp;exact ⟨fun h=>h.symm,fun h=>h.symm⟩
   have hsf:([46]:Str).isSuffixOf s=(s.getLast? ==some 46):=by
    rw[jBe,jBx,beq_iff_eq];constructor
    .rintro ⟨t,rfl⟩;simp
    intro h;obtain ⟨ys,rfl⟩:=List.getLast?_eq_some_iff.1 h;exact ⟨ys,rfl⟩
   have he:s.isEmpty=false:=by simpa using hn
   rw[hp,hsf,he];cases s.head? ==some 46 <;> cases s.getLast? ==some 46 <;> cases Lib.contains s [46,46] <;> simp[hl]
 have h2:decide ((s.length:Int)<=60)=false:=by simp;omega
 rw[h2];simp[hl]
theorem JWa(s:Str):Lib.index s [64]=if atP s < s.length then (atP s:Int) else -1:=by
 rw[Lib.index_one];unfold atP;induction s with
 | nil=>rfl
 | cons c r ih=>
  rw[Lib.indexByte,List.findIdx_cons];cases hc:(c==64) with
  | true=>simp
  | false=>
   simp only[jAs,if_false,cond_false,jBn];rw[ih];by_cases h:r.findIdx (· ==64) < r.length
   .simp only[if_pos h,if_pos (show r.findIdx (· ==64)+1 < r.length+1 by omega)];have:(((r.findIdx (· ==64):Nat):Int)== -1)=false:=by rw[beq_eq_false_iff_ne];omega
    rw[this];simp
   simp only[if_neg h,if_neg (show ¬(r.findIdx (· ==64)+1 < r.length+1) by omega)];simp
theorem cut_at(s:Str):Lib.cut s [64]=if atP s < s.length then (s.take (atP s),s.drop (atP s+1),true) else (s,[],false):=by
 unfold Lib.cut;rw[JWa];by_cases h:atP s < s.length
 .rw[if_pos h,if_pos h,if_pos (by omega)];simp
 rw[if_neg h,if_neg h,if_neg (by omega)]
def vxb(s:Str):Str × Str × Bool:=if atP s < s.length then (s.take (atP s),s.drop (atP s+1),Yra s) else (s,[],false)
theorem yFb(c:UInt8):(qFb c || decide (0<=Lib.indexByte [45,95,46,43,61] c))=qGb c:=by
 unfold qGb;by_cases h1:c=45
 .subst h1;decide
 by_cases h2:c=95
 .subst h2;decide
 by_cases h3:c=46
 .subst h3;decide
 by_cases h4:c=43
 .subst h4;decide
 by_cases h5:c=61
 .subst h5;decide
 rw[beq_eq_false_iff_ne.2 h1,beq_eq_false_iff_ne.2 h2,beq_eq_false_iff_ne.2 h3,beq_eq_false_iff_ne.2 h4,beq_eq_false_iff_ne.2 h5];simp[Lib.indexByte,Ne.symm h1,Ne.symm h2,Ne.symm h3,Ne.symm h4,Ne.symm h5]
theorem Vua(s:Str)(hs:s.length < 4294967281):vHa s=some (vxb s):=by
 have hloop:∀v:Str × Str × Bool,v.1.length < 4294967281->iter (qza v) 0=some ((zZa (fun _ c=>if !qGb c then some () else none) 0 v.1).elim (.inl ()) .inr):=by
  intro v hv;refine qaa v.1 _ (Sum.inl ()) Sum.inr ?_ ?_
  .unfold qza;rw[kaa];rfl
  intro i c hc;have hi:=kfa hc;unfold qza;rw[kSa hc,z3a hc];simp only[cond_true,jAb,ZTa,zua];rw[show ((i:Int)+1)=((i+1:Nat):Int) by omega,qEb _ (by omega)];have hg:=yFb c;cases hl:qFb c with
  | true=>rw[hl]at hg;simp only[Bool.true_or]at hg;rw[<-hg];rfl
  | false=>rw[hl]at hg;simp only[Bool.false_or]at hg;rw[<-hg];cases decide (0<=Lib.indexByte [45,95,46,43,61] c) <;> rfl
 unfold vHa kZa;rw[if_pos hs,cut_at];simp only[jAb];unfold vxb;by_cases h:atP s < s.length
 .simp only[if_pos h,cond_true];rw[hloop _ (by simp;omega),Vta];have hall:(s.take (atP s)).any (fun c=> !qGb c)= !((s.take (atP s)).all qGb):=by simp[List.not_all_eq_any_not]
  simp only[hall];have hlen:(s.take (atP s)).length=atP s:=by simp;omega
  rw[hlen,QGa _ (by simp;omega)];unfold Yra;by_cases h0:atP s=0
  .simp[h0]
  have hne:(s.take (atP s) !=([]:Str))=true:=by
   simp only[bne_iff_ne,ne_eq];intro hx;have:=congrArg List.length hx;rw[hlen]at this;simp at this;omega
  rw[hne];by_cases h60:atP s<=60
  .have e:decide ((atP s:Int)<=60)=true:=by simp;omega
   rw[e];cases (s.take (atP s)).all qGb <;> simp[h,h60] <;> omega
  have e:decide ((atP s:Int)<=60)=false:=by simp;omega
  rw[e];simp[h60]
 simp[if_neg h]
theorem qIb(s:Str):(vxb s).2.2=Yra s:=by
 unfold vxb;by_cases h:atP s < s.length
 .rw[if_pos h]
 rw[if_neg h];unfold Yra;simp[h]
theorem K7a(s:Str)(hs:s.length < 4294967281):q0a s=some (Yra s):=by
 unfold q0a;rw[Vua s hs];simp[qIb]
section
theorem sc(i:Nat)(h:i < 9223372036854775807):w64 ((i:Int)+1)=((i+1:Nat):Int):=by rw[show ((i:Int)+1)=((i+1:Nat):Int) by omega,qEb _ (by omega)]
theorem bkL_pos{T:Type}(bk:T->Nat)(l:List T):1<=bkL bk l:=by
 induction l with
 | nil=>simp[bkL]
 | cons y l ih=>unfold bkL;omega
theorem yGb{T:Type}{bk:T->Nat}{l:List T}{x:T}(h:x∈l):bk x+1<=bkL bk l:=by
 induction l with
 | nil=>cases h
 | cons y l ih=>
  unfold bkL;have hp:=bkL_pos bk l;rcases jBo.1 h with rfl | h
  .omega
  have:=ih h;omega
theorem qJb{T:Type}{bk:T->Nat}(hb:∀x,1<=bk x)(l:List T):l.length+1<=bkL bk l:=by
 induction l with
 | nil=>simp[bkL]
 | cons y l ih=>unfold bkL;have:=hb y;simp;omega
section
variable {α:Type}
end
theorem wfb{V:Type}(m:List (Str × V))(k:Str)(v:V)(x:Str):mget (mput m k v) x=if k==x then some v else mget m x:=by
 induction m with
 | nil=>rfl
 | cons p m ih=>
  obtain ⟨k',v'⟩:=p;unfold mput;by_cases h:k' =k
  .subst h;simp only[beq_self_eq_true,if_true,mget];cases k' ==x <;> simp
  have h1:(k' ==k)=false:=by simpa using h
  rw[h1];simp only[jAs,if_false,mget];rw[ih];by_cases h2:k' =x
  .subst h2;have:(k==k')=false:=by simpa using fun h' =>h h'.symm
   simp[this]
  have:(k' ==x)=false:=by simpa using h2
  rw[this];simp
section
variable {α A S O:Type}
end
end
theorem KIa(o:Option Unit)(a b:Bool):Sum.elim (fun _=>some a) (fun _=>some b) (o.elim (Sum.inl ()) Sum.inr:Unit ⊕ Unit)=some (bif o.isSome then b else a):=by cases o <;> rfl
theorem QHa{α R:Type}(c:α->Bool)(r:R)(l:List α)(n:Nat):(zZa (fun _ x=>if c x then some r else none) n l).isSome=l.any c:=by
 rw[Vta];cases l.any c <;> rfl
theorem yHb{α:Type}(l:List α)(p:α->Bool):l.any (fun x=> !p x)= !l.all p:=by simp[List.not_all_eq_any_not]
theorem zTa(a b:Int):zka a b=some ⟨a,b⟩:=rfl
theorem zPa:zza=some ⟨0,0⟩:=rfl
theorem zqa(f:zoa):zma f=some (f.Code !=0):=rfl
theorem YYa(o:Option zoa)(f:zoa):Sum.elim (fun _=>some f) (fun b=>some b) (o.elim (Sum.inl ()) Sum.inr:Unit ⊕ zoa)=some (o.getD f):=by cases o <;> rfl
def nameC(c:UInt8):Bool:=qFb c || c==45 || c==95 || c==46
def Ysa(s:Str):Bool:=decide (1<=s.length) && decide (s.length<=60) && s.all nameC
theorem z9b{s:Str}(h:Ysa s=true):1<=s.length/\s.length<=60:=by
 unfold Ysa at h;simp only[jAk,decide_eq_true_eq]at h;exact ⟨h.1.1,h.1.2⟩
theorem QIa(s:Str)(hs:s.length<=1048576):yFa s=some (Ysa s):=by
 have hloop:iter (wja s) 0=some ((zZa (fun _ c=>if !nameC c then some () else none) 0 s).elim (.inl ()) .inr):=by
  refine qaa s _ (Sum.inl ()) Sum.inr ?_ ?_
  .unfold wja;rw[kaa];rfl
  intro i c hc;have hi:=kfa hc;unfold wja;rw[kSa hc,z3a hc];simp only[cond_true,jAb,ZTa,Kqa c 45 (by decide),Kqa c 95 (by decide),Kqa c 46 (by decide),sc i (by omega)];unfold nameC;cases qFb c <;> cases (c==45) <;> cases (c==95) <;> cases (c==46) <;> rfl
 unfold yFa Ysa;rw[hloop];simp only[jAb,KIa,QHa,yHb];by_cases hn:s=[]
 .subst hn;rfl
 have h1:(s !=([]:Str))=true:=by simpa using hn
 have h2:decide (1<=s.length)=true:=by have:=jDd.2 hn;simp;omega
 have e2:decide ((s.length:Int)<=60)=decide (s.length<=60):=by rw[jBe];simp;omega
 rw[h1,h2,e2];cases decide (s.length<=60) <;> cases s.all nameC <;> rfl
theorem JXa(s:Str)(i:Nat)(h:i < s.length):(strB s)[i]'(by rw[zDa];exact h)=s[i]:=rfl
theorem yIb(s:Str)(i:Nat)(h:i < s.length):(strB s).get! i=s[i]:=by
 have:=get_at (strB s) i (by rw[zDa];exact h);rw[jBw]at this;rw[this];rfl
theorem YZa{s:Str}{i:Nat}{c:UInt8}(h:s[i]? =some c)(hc:c.toNat < 128):KDa s i=(c.toNat:Int)/\jza s i=1:=by
 have hi:=kfa h;have e:s[i]=c:=by rw[jAg hi]at h;exact Option.some.inj h
 have hd:=decode_ascii (strB s) i (by rw[zDa];exact hi) (by rw[JXa s i hi,e];exact hc);unfold KDa jza;rw[hd,JXa s i hi,e];exact ⟨rfl,rfl⟩
theorem yJb{s:Str}{i:Nat}{c:UInt8}(h:s[i]? =some c)(hc:128<=c.toNat):128<=KDa s i/\KDa s i<=2147483647/\1<=jza s i:=by
 have hi:=kfa h;have e:s[i]=c:=by rw[jAg hi]at h;exact Option.some.inj h
 have hd:=decode_high (strB s) i (by rw[zDa];exact hi) (by rw[JXa s i hi,e];exact hc);have hl:=decode_le (strB s) i;unfold KDa jza;exact ⟨by omega,by omega,hd.2⟩
theorem qKb(s:ByteArray)(pos:Nat):∀k,1<=k->k < (Utf8.decode s pos).2->(s.get! (pos+k)).toNat / 64=2:=by
 intro k h1 h2;simp only[Utf8.decode]at h2;repeat' split at h2
 all_goals first
  | (exfalso;simp at h2;omega)
  | (
   rename_i hq _;simp only[jAk,decide_eq_true_eq,beq_iff_eq]at hq;have h2:k < 2:=h2;obtain rfl:k=1:=by omega
   exact hq.2.2)
  | (
   rename_i hq _;simp only[jAk,decide_eq_true_eq,beq_iff_eq]at hq;have h2:k < 3:=h2;have:k=1∨k=2:=by omega
   rcases this with rfl | rfl
   .exact hq.1.2.2
   exact hq.2.2)
  | (
   rename_i hq _;simp only[jAk,decide_eq_true_eq,beq_iff_eq]at hq;have h2:k < 4:=h2;have:k=1∨k=2∨k=3:=by omega
   rcases this with rfl | rfl | rfl
   .exact hq.1.1.2.2
   .exact hq.1.2.2
   exact hq.2.2)
theorem yKb{s:Str}{i j:Nat}{c d:UInt8}(h:s[i]? =some c)(hc:128<=c.toNat)(h1:i<=j)(h2:j < i+jza s i)(hj:s[j]? =some d):128<=d.toNat:=by
 by_cases e:j=i
 .subst e;rw[h]at hj;cases hj;exact hc
 have hjl:=kfa hj;have e2:s[j]=d:=by rw[jAg hjl]at hj;exact Option.some.inj hj
 have:=qKb (strB s) i (j - i) (by omega) (by unfold jza at h2;omega);rw[show i+(j - i)=j by omega,yIb s j hjl,e2]at this;omega
theorem toU8_nat(c:UInt8):toU8 (c.toNat:Int)=c:=by
 unfold toU8;have:=c.toNat_lt;rw[show ((c.toNat:Int) % 256).toNat=c.toNat by omega];simp
theorem Y0a{t:Str}(h:YUa t=true){c:UInt8}(hc:c∈t):c.toNat < 128:=by
 unfold YUa at h;rw[jAp]at h;simpa using h c hc
theorem wgb{r:Int}(h:128<=r):∃m x,1<=m/\m<=3/\(jia r).length=m+1/\(jia r)[m]? =some x/\128<=x.toNat:=by
 unfold jia;simp only[Utf8.encode];have hc:128<=(if Utf8.valid r=true then r.toNat else Utf8.runeError):=by
  split
  .omega
  decide
 generalize (if Utf8.valid r=true then r.toNat else Utf8.runeError)=c at hc;have hb:∀n:Nat,128<=(UInt8.ofNat (128+n % 64)).toNat:=by
  intro n;rw[jCg];have:(128+n % 64) % 2 ^ 8=128+n % 64:=jCz (by omega);rw[this];omega
 rw[if_neg (by omega)];split
 .exact ⟨1,_,by omega,by omega,rfl,rfl,hb c⟩
 split
 .exact ⟨2,_,by omega,by omega,rfl,rfl,hb c⟩
 exact ⟨3,_,by omega,by omega,rfl,rfl,hb c⟩
theorem Yta{t:Str}(h:∀c∈t,c.toNat < 128){x:UInt8}(hx:128<=x.toNat):Lib.indexByte t x= -1:=by
 have hc:=Lib.contains_iff_indexByte t x;have hn:t.contains x=false:=by
  rw[Bool.eq_false_iff];intro hm;have:=h x (by simpa using hm);omega
 rw[hn]at hc;have hge:=Lib.indexByte_ge t x;have:=of_decide_eq_false hc.symm;omega
theorem WVa(t:Str)(c:UInt8)(hc:c.toNat < 128):kia t (c.toNat:Int)=some (Lib.indexByte t c):=by
 unfold kia;have h1:decide ((0:Int)<=(c.toNat:Int))=true:=by simp
 have h2:decide ((c.toNat:Int) < 128)=true:=by simp;omega
 rw[h1,h2];simp only[cond_true,jAb,toU8_nat];rfl
theorem Yua(t:Str)(r:Int)(hr:128<=r)(ht:∀c∈t,c.toNat < 128)(hl:t.length<=4294967281):kia t r=some (-1):=by
 unfold kia;have h1:decide ((0:Int)<=r)=true:=by simp;omega
 have h2:decide (r < 128)=false:=by simp;omega
 rw[h1,h2];simp only[cond_true,cond_false,jAb];cases hq:r==65533 with
 | true=>
  simp only[cond_true];obtain ⟨o,ho,rfl⟩:=j1a (body:=qsa t) (fun i=>i<=t.length) (fun i=>t.length - i) (fun _ o=>o=.inl ()) (fun i hi=>by
   unfold qsa;by_cases hlt:i < t.length
   .right;have hg:t[i]? =some t[i]:=jAg hlt;have hc:=ht t[i] (List.getElem_mem hlt);obtain ⟨e1,e2⟩:=YZa hg hc;rw[e1,e2,decide_eq_true hlt];have hne:((t[i].toNat:Int)==65533)=false:=by rw[beq_eq_false_iff_ne];omega
    rw[hne];exact ⟨i+1,rfl,by omega,by omega,fun _ h=>h⟩
   left;rw[decide_eq_false hlt];exact ⟨.inl (),rfl,rfl⟩) 0 (jBz _)
  rw[ho];rfl
 | false=>
  simp only[cond_false];have hv:∃b,kxa r=some b:=by
   unfold kxa;cases decide (0<=r) <;> cases decide (r < 55296) <;> cases decide (57343 < r) <;> cases decide (r<=1114111) <;> exact ⟨_,rfl⟩
  obtain ⟨b,hb⟩:=hv;rw[hb];simp only[jAb];cases b with
  | false=>rfl
  | true=>
   simp only[jAx,cond_false];obtain ⟨m,x,hm1,hm3,hlen,hx,hx128⟩:=wgb hr;have hst:w64 (((jia r).length:Int) - 1)=(m:Int):=by rw[hlen,zIa (by omega) (by omega)];omega
   rw[hst];have hbody:∃o,qua t r (m:Int)=some (.out o)/\(o=.inl ()∨o=.inr (-1)):=by
    unfold qua;by_cases hlt:m < t.length
    .have hd:decide ((m:Int) < (t.length:Int))=true:=by simp;omega
     have hc:=ht t[m] (List.getElem_mem hlt);rw[hd,hst,z7b hlt,z3a hx];have hne:((t[m].toNat:Int) !=(x.toNat:Int))=true:=by simp;omega
     simp only[cond_true,jAb,hne];rw[show (m:Int)+1=((m+1:Nat):Int) by omega,qEb _ (by omega),yRa (by omega)];simp only[jAb];have hib:zua (t.drop (m+1)) x=some (-1):=by
      show some (Lib.indexByte (t.drop (m+1)) x)=_;rw[Yta (fun c hc=>ht c (List.mem_of_mem_drop hc)) hx128]
     rw[hib];exact ⟨.inr (-1),rfl,.inr rfl⟩
    have hd:decide ((m:Int) < (t.length:Int))=false:=by simp;omega
    rw[hd];exact ⟨.inl (),rfl,.inl rfl⟩
   obtain ⟨o,ho,ho2⟩:=hbody;rw[zsa ho];rcases ho2 with rfl | rfl <;> rfl
theorem kab(s t:Str)(h8:s.length<=8)(h2:2<=t.length)(hl:t.length < 4294967281)(ht:YUa t=true):vua s t=some (Lib.indexAny s t):=by
 have htc:∀c∈t,c.toNat < 128:=fun c hc=>Y0a ht hc
 unfold vua;have e1:(t==([]:Str))=false:=by rw[beq_eq_false_iff_ne];rintro rfl;simp at h2
 have e2:((t.length:Int)==1)=false:=by rw[beq_eq_false_iff_ne];omega
 have e3:zHa (s.length:Int)=some false:=by unfold zHa;simp;omega
 rw[e1,e2,e3];simp only[cond_false,jAb];obtain ⟨o,ho,ho2⟩:=j1a (body:=qva s t) (fun i=>Lib.NoAny s t i) (fun i=>s.length - i) (fun _ o=>Sum.elim (fun _=>some (-1)) (fun b=>some b) o=some (Lib.indexAny s t)) (fun i hi=>by
  unfold qva;by_cases hlt:i < s.length
  .have hg:s[i]? =some s[i]:=jAg hlt;rw[decide_eq_true hlt];simp only[cond_true];by_cases hc:s[i].toNat < 128
   .obtain ⟨q1,q2⟩:=YZa hg hc;rw[q1,q2,WVa t _ hc];simp only[jAb];have hcon:=Lib.contains_iff_indexByte t s[i];rw[<-hcon];cases hin:t.contains s[i] with
    | true=>
     left;exact ⟨.inr (i:Int),rfl,by rw[Lib.indexAny_hit hi hg hin];rfl⟩
    | false=>
     right;exact ⟨i+1,rfl,hi.succ hg hin,by omega,fun _ h=>h⟩
   have hc:128<=s[i].toNat:=by omega
   obtain ⟨q1,q2,q3⟩:=yJb hg hc;rw[Yua t _ q1 htc (by omega)];right;refine ⟨i+jza s i,rfl,fun j b hj hb=>?_,by omega,fun _ h=>h⟩;by_cases hji:j < i
   .exact hi j b hji hb
   have:=yKb hg hc (by omega) hj hb;rw[Bool.eq_false_iff];intro hm;have:=htc b (by simpa using hm);omega
  left;rw[decide_eq_false hlt];refine ⟨.inl (),rfl,?_⟩;have hn:Lib.NoAny s t s.length:=fun j b hj hb=>hi j b (by omega) hb
  rw[Lib.indexAny_none hn];rfl) 0 (Lib.NoAny.zero s t)
 rw[ho];exact ho2
theorem kbb(t:Str):∀s:Str,decide (0<=Lib.indexAny s t)=s.any fun c=>t.contains c:=by
 intro s;induction s with
 | nil=>rfl
 | cons c s ih=>
  have hge:=Lib.indexAny_ge t s;rw[List.any_cons,<-ih,Lib.indexAny];cases t.contains c with
  | true=>simp
  | false=>
   simp only[jAs,if_false,Bool.false_or];by_cases h:Lib.indexAny s t= -1
   .simp[h]
   have:(Lib.indexAny s t== -1)=false:=by simpa using h
   rw[this];simp only[jAs,if_false];rw[jBe];simp;omega
theorem Zia(s t:Str)(hs:s.length<=1048576)(h2:2<=t.length)(hl:t.length<=1048576)(ht:YUa t=true):kga s t=some (s.any fun c=>t.contains c):=by
 unfold kga k9a;rw[if_pos ⟨by omega,by omega,h2,ht⟩];simp only[jAb,kbb]
def zUa(c:UInt8):Bool:=c==32 || c==9
theorem whb(c:UInt8):ZGa c=some (zUa c):=by
 unfold ZGa zUa;rw[Kqa c 32 (by decide),Kqa c 9 (by decide)];cases c==32 <;> rfl
theorem jqa(c:UInt8):qMa c=some (zUa c):=by
 unfold qMa zUa;rw[Kqa c 32 (by decide),Kqa c 9 (by decide)];cases c==32 <;> rfl
def fnC(c:UInt8):Bool:=decide (33<=c) && decide (c<=126) && c !=58
def fnP(s:Str):Bool:=s !=([]:Str) && decide (s.length<=60) && s.all fnC
theorem dec60(s:Str):decide ((s.length:Int)<=60)=decide (s.length<=60):=by generalize s.length=n;rw[jBe];simp;omega
theorem kcb(s:Str)(hs:s.length<=1048576):ZEa s=some (fnP s):=by
 have hloop:iter (w8a s) 0=some ((zZa (fun _ c=>if !fnC c then some () else none) 0 s).elim (.inl ()) .inr):=by
  refine qaa s _ (Sum.inl ()) Sum.inr ?_ ?_
  .unfold w8a;rw[kaa];rfl
  intro i c hc;have hi:=kfa hc;unfold w8a;rw[kSa hc,z3a hc];simp only[cond_true,jAb,u8_ne c 58 (by decide),WTa 33 c (by decide),WUa 126 c (by decide),sc i (by omega)];unfold fnC;cases decide ((33:UInt8)<=c) <;> cases decide (c<=126) <;> cases c !=58 <;> rfl
 unfold ZEa fnP;rw[hloop];simp only[jAb,KIa,QHa,yHb,dec60];cases s !=([]:Str) <;> cases decide (s.length<=60) <;> cases s.all fnC <;> rfl
def endC(c:UInt8):Bool:=c==13 || c==10 || c==0
theorem kdb(s:Str)(hs:s.length<=1048576):ZFa s=some (s.any endC):=by
 unfold ZFa;rw[Zia s _ hs (by decide) (by decide) (by decide)];simp only[jAb,Option.some.injEq]
 congr 1
 funext c;rw[jBe];simp[endC,or_assoc]
def edgeP(s:Str):Bool:=match s.head?,s.getLast? with | some a,some b=>zUa a || zUa b | _,_=>false
def valP(s:Str):Bool:= !(s.any endC) && !(edgeP s)
theorem idx_last(s:Str)(h:s≠ [])(hs:s.length<=1048576):∃a b,idx s 0=some a/\idx s (w64 ((s.length:Int) - 1))=some b/\s.head? =some a/\s.getLast? =some b:=by
 have hpos:=jDd.2 h;obtain ⟨a,r,rfl⟩:=List.exists_cons_of_ne_nil h;have e:w64 (((a::r).length:Int) - 1)=((r.length:Nat):Int):=by
  have hl:(a::r).length=r.length+1:=rfl;rw[zIa (by omega) (by omega)];omega
 refine ⟨a,(a::r).getLast h,rfl,?_,rfl,List.getLast?_eq_some_getLast h⟩;rw[e,Vsa,List.getLast_eq_getElem h,jAg (by simp)]
 congr 2
theorem JYa(s:Str)(hs:s.length<=1048576):jFa s=some (valP s):=by
 unfold jFa valP;rw[kdb s hs];simp only[jAb];by_cases hn:s=[]
 .subst hn;rfl
 obtain ⟨a,b,h1,h2,h3,h4⟩:=idx_last s hn hs;have e:(s==([]:Str))=false:=by simpa using hn
 unfold edgeP;rw[h1,h2,h3,h4,e];simp only[jAb,jqa,cond_false];cases s.any endC <;> cases zUa a <;> cases zUa b <;> rfl
def br(t:Str)(f i:Nat):Bool:=decide (1<=i) && decide (f<=i) && (match t[i]?,t[i - 1]? with | some a,some b=>zUa a && !zUa b | _,_=>false)
def Vva(t:Str)(f:Nat):Nat->Nat
 | 0=>0
 | i+1=>if br t f (i+1) then i+1 else Vva t f i
def JZa(t:Str)(f:Nat):Nat->Nat->Nat
 | 0,_=>0
 | n+1,i=>if br t f i then i else JZa t f n (i+1)
def cutP(t:Str)(f:Nat):Nat:=if Vva t f 78=0 then JZa t f (t.length - 79) 79 else Vva t f 78
def qLb(t:Str)(f c:Nat):Prop:=(c=0/\∀j,br t f j=false)∨(br t f c=true/\((c<=78/\∀j,c < j->j<=78->br t f j=false)∨(78 < c/\∀j,j < c->br t f j=false)))
theorem yLb(t:Str)(f:Nat):br t f 0=false:=rfl
theorem J0a{t:Str}{f i:Nat}(h:br t f i=true):i < t.length/\1<=i/\f<=i:=by
 unfold br at h;simp only[jAk,decide_eq_true_eq]at h;obtain ⟨⟨h1,h2⟩,h3⟩:=h;refine ⟨?_,h1,h2⟩;cases hi:t[i]? with
 | none=>rw[hi]at h3;simp at h3
 | some a=>exact kfa hi
theorem keb{t:Str}{f c d:Nat}(h:qLb t f c)(k:qLb t f d):c=d:=by
 rcases h with ⟨rfl,h⟩ | ⟨hc,h⟩ <;> rcases k with ⟨rfl,k⟩ | ⟨hd,k⟩
 .rfl
 .rw[h]at hd;cases hd
 .rw[k]at hc;cases hc
 rcases Nat.lt_trichotomy c d with hlt | heq | hgt
 .exfalso;rcases h with ⟨h1,h2⟩ | ⟨h1,h2⟩ <;> rcases k with ⟨k1,k2⟩ | ⟨k1,k2⟩
  .rw[h2 d hlt k1]at hd;cases hd
  .rw[k2 c hlt]at hc;cases hc
  .omega
  rw[k2 c hlt]at hc;cases hc
 .exact heq
 exfalso;rcases h with ⟨h1,h2⟩ | ⟨h1,h2⟩ <;> rcases k with ⟨k1,k2⟩ | ⟨k1,k2⟩
 .rw[k2 c hgt h1]at hc;cases hc
 .omega
 .rw[h2 d hgt]at hd;cases hd
 rw[h2 d hgt]at hd;cases hd
theorem wib(t:Str)(f:Nat):∀n,(Vva t f n=0/\∀j,j<=n->br t f j=false)∨(br t f (Vva t f n)=true/\Vva t f n<=n/\∀j,Vva t f n < j->j<=n->br t f j=false):=by
 intro n;induction n with
 | zero=>left;exact ⟨rfl,fun j hj=>by
  obtain rfl:j=0:=by omega
  exact yLb t f⟩
 | succ n ih=>
  unfold Vva;by_cases h:br t f (n+1)=true
  .rw[if_pos h];right;exact ⟨h,jAq _,fun j h1 h2=>by omega⟩
  rw[if_neg h];rcases ih with ⟨h1,h2⟩ | ⟨h1,h2,h3⟩
  .left;refine ⟨h1,fun j hj=>?_⟩;by_cases e:j=n+1
   .subst e;simpa using h
   exact h2 j (by omega)
  right;refine ⟨h1,by omega,fun j hj hjn=>?_⟩;by_cases e:j=n+1
  .subst e;simpa using h
  exact h3 j hj (by omega)
theorem wjb(t:Str)(f:Nat):∀n i,(JZa t f n i=0/\∀j,i<=j->j < i+n->br t f j=false)∨(br t f (JZa t f n i)=true/\i<=JZa t f n i/\∀j,i<=j->j < JZa t f n i->br t f j=false):=by
 intro n;induction n with
 | zero=>intro i;left;exact ⟨rfl,fun j h1 h2=>by omega⟩
 | succ n ih=>
  intro i;unfold JZa;by_cases h:br t f i=true
  .rw[if_pos h];right;exact ⟨h,jAq _,fun j h1 h2=>by omega⟩
  rw[if_neg h];have hb:br t f i=false:=by simpa using h
  rcases ih (i+1) with ⟨h1,h2⟩ | ⟨h1,h2,h3⟩
  .left;refine ⟨h1,fun j hj hjn=>?_⟩;by_cases e:j=i
   .subst e;exact hb
   exact h2 j (by omega) (by omega)
  right;refine ⟨h1,by omega,fun j hj hjn=>?_⟩;by_cases e:j=i
  .subst e;exact hb
  exact h3 j (by omega) hjn
theorem qMb(t:Str)(f:Nat):qLb t f (cutP t f):=by
 unfold cutP;rcases wib t f 78 with ⟨h1,h2⟩ | ⟨h1,h2,h3⟩
 .rw[if_pos h1];rcases wjb t f (t.length - 79) 79 with ⟨k1,k2⟩ | ⟨k1,k2,k3⟩
  .left;refine ⟨k1,fun j=>?_⟩;by_cases hj:j<=78
   .exact h2 j hj
   cases hb:br t f j with
   | false=>rfl
   | true=>have:=(J0a hb).1;rw[k2 j (by omega) (by omega)]at hb;cases hb
  right;refine ⟨k1,.inr ⟨by omega,fun j hj=>?_⟩⟩;by_cases hj2:j<=78
  .exact h2 j hj2
  exact k3 j (by omega) hj
 have hne:Vva t f 78≠0:=by intro h;rw[h,yLb]at h1;cases h1
 rw[if_neg hne];exact .inr ⟨h1,.inl ⟨h2,h3⟩⟩
theorem j3a{t:Str}{f:Nat}(h:cutP t f≠0):1<=cutP t f/\cutP t f < t.length:=by
 rcases qMb t f with ⟨h1,_⟩ | ⟨h1,_⟩
 .exact absurd h1 h
 exact ⟨(J0a h1).2.1,(J0a h1).1⟩
theorem br_at{t:Str}{f i:Nat}(h1:1<=i)(hi:i < t.length):br t f i=(decide (f<=i) && (zUa t[i] && !zUa (t[i - 1]'(by omega)))):=by
 unfold br;rw[jAg hi,jAg (show i - 1 < t.length by omega)];simp[h1]
def PInv(t:Str)(f b i:Nat):Prop:=f<=i/\1<=i/\((b=0/\∀j,j < i->br t f j=false)∨(br t f b=true/\b < i/\((b<=78/\∀j,b < j->j < i->br t f j=false)∨(78 < b/\∀j,j < b->br t f j=false))))
theorem PInv.done{t:Str}{f b i:Nat}(h:PInv t f b i)(hi:0 < b/\78 < i∨t.length<=i):qLb t f b:=by
 obtain ⟨hf,h1,h2⟩:=h;rcases h2 with ⟨rfl,h3⟩ | ⟨h3,h4,h5⟩
 .left;refine ⟨rfl,fun j=>?_⟩;cases hb:br t f j with
  | false=>rfl
  | true=>
   have:=(J0a hb).1;rw[h3 j (by omega)]at hb;cases hb
 right;refine ⟨h3,?_⟩;rcases h5 with ⟨h6,h7⟩ | h6
 .left;refine ⟨h6,fun j hj hj2=>?_⟩;cases hb:br t f j with
  | false=>rfl
  | true=>
   have:=(J0a hb).1;rw[h7 j hj (by omega)]at hb;cases hb
 exact .inr h6
theorem J1a(t:Str)(f:Nat)(ht:t.length<=4194304)(hf:f<=4194304):jGa t (f:Int)=some ((cutP t (max f 1):Nat):Int):=by
 unfold jGa;have hstart:max (f:Int) 1=((max f 1:Nat):Int):=by omega
 rw[hstart];obtain ⟨r,h1,b,rfl,h2⟩:=j1a (body:=yya t) (fun s=>∃b i:Nat,s=((b:Int),(i:Int))/\PInv t (max f 1) b i/\i<=4194305) (fun s=>(4194306 - s.2).toNat) (fun _ r=>∃c:Nat,r=(c:Int)/\qLb t (max f 1) c) (by
  rintro _ ⟨b,i,rfl,hI,hil⟩;have hi1:=hI.2.1;unfold yya;dsimp only;by_cases hlt:i < t.length
  .have hd:decide ((i:Int) < (t.length:Int))=true:=by simp;omega
   have hpre:w64 ((i:Int) - 1)=((i - 1:Nat):Int):=by rw[zIa (by omega) (by omega)];omega
   rw[hd,z7b hlt,hpre,z7b (show i - 1 < t.length by omega)];have hb:=br_at (f:=max f 1) hi1 hlt;have hfi:decide (max f 1<=i)=true:=by simp only[decide_eq_true_eq];exact hI.1
   rw[hfi,Bool.true_and]at hb;simp only[cond_true,jAb,jqa];have next:∀b' :Nat,PInv t (max f 1) b' (i+1)->qNa ((b:Int),(i:Int)) (b' :Int)=some (.cont ((b' :Int),((i+1:Nat):Int))):=by
    intro b' _;unfold qNa;dsimp only;rw[sc i (by omega)]
   have hno:br t (max f 1) i=false->PInv t (max f 1) b (i+1):=by
    intro hnb;refine ⟨by have:=hI.1;omega,by omega,?_⟩;rcases hI.2.2 with ⟨q1,q2⟩ | ⟨q1,q2,q3⟩
    .left;refine ⟨q1,fun j hj=>?_⟩;by_cases e:j=i
     .subst e;exact hnb
     exact q2 j (by omega)
    right;refine ⟨q1,by omega,?_⟩;rcases q3 with ⟨q4,q5⟩ | q4
    .left;refine ⟨q4,fun j hj hj2=>?_⟩;by_cases e:j=i
     .subst e;exact hnb
     exact q5 j hj (by omega)
    exact .inr q4
   have goNo:br t (max f 1) i=false->(∃s',qNa ((b:Int),(i:Int)) (b:Int)=some (.cont s')/\(∃b i:Nat,s' =((b:Int),(i:Int))/\PInv t (max f 1) b i/\i<=4194305)/\(4194306 - s'.2).toNat < (4194306 - ((i:Int))).toNat/\∀r:Int,(∃c:Nat,r=(c:Int)/\qLb t (max f 1) c)->∃c:Nat,r=(c:Int)/\qLb t (max f 1) c):=by
    intro hnb;exact ⟨_,next b (hno hnb),⟨b,i+1,rfl,hno hnb,by omega⟩,by dsimp only;omega,fun _ h=>h⟩
   cases ha:zUa t[i] with
   | false=>
    rw[ha]at hb;simp only[Bool.not_false,cond_true,jAb];exact .inr (goNo hb)
   | true=>
    rw[ha]at hb;simp only[jAx,cond_false,jAb];cases hp:zUa t[i - 1] with
    | true=>
     rw[hp]at hb;simp only[cond_true];exact .inr (goNo hb)
    | false=>
     rw[hp]at hb;have hb:br t (max f 1) i=true:=hb;simp only[cond_false];by_cases hb0:0 < b/\78 < i
     .left;have e1:decide ((0:Int) < (b:Int))=true:=by simp;omega
      have e2:decide ((78:Int) < (i:Int))=true:=by simp;omega
      rw[e1,e2];exact ⟨(b:Int),rfl,b,rfl,hI.done (.inl hb0)⟩
     right;have e:(bif decide ((0:Int) < (b:Int)) then some (decide ((78:Int) < (i:Int))) else some false)=some false:=by
      by_cases h0:0 < b
      .have e1:decide ((0:Int) < (b:Int))=true:=by simp;omega
       have e2:decide ((78:Int) < (i:Int))=false:=by simp;omega
       rw[e1,e2];rfl
      have e1:decide ((0:Int) < (b:Int))=false:=by simp;omega
      rw[e1];rfl
     rw[e];simp only[jAb,cond_false];have hnew:PInv t (max f 1) i (i+1):=by
      refine ⟨by have:=hI.1;omega,by omega,.inr ⟨hb,by omega,?_⟩⟩;by_cases h78:i<=78
      .exact .inl ⟨h78,fun j h1 h2=>by omega⟩
      right;refine ⟨by omega,?_⟩;rcases hI.2.2 with ⟨q1,q2⟩ | ⟨q1,q2,q3⟩
      .exact q2
      exfalso;have:=(J0a q1).2.1;omega
     exact ⟨_,next i hnew,⟨i,i+1,rfl,hnew,by omega⟩,by dsimp only;omega,fun _ h=>h⟩
  left;have hd:decide ((i:Int) < (t.length:Int))=false:=by simp;omega
  rw[hd];exact ⟨(b:Int),rfl,b,rfl,hI.done (.inr (by omega))⟩) ((0:Int),((max f 1:Nat):Int)) ⟨0,max f 1,rfl,⟨jAq _,by omega,.inl ⟨rfl,fun j hj=>by
  cases hb:br t (max f 1) j with
  | false=>rfl
  | true=>have:=(J0a hb).2.2;omega⟩⟩,by omega⟩
 rw[h1];simp only[jAb];rw[keb h2 (qMb t (max f 1))]
theorem R_cut_eq(t:Str)(f:Nat)(out:List Str)(ht:t.length<=4194304)(h78:78 < t.length)(hf:f<=4194304)(h1f:1<=f):((iter (k0a (t,(f:Int),out)) (0,78)).bind fun b10=>iter (kFa (t,(f:Int),out)) (b10,79))=some ((cutP t f:Nat):Int):=by
 have test:∀i:Nat,1<=i->i < t.length->((bif decide ((f:Int)<=(i:Int)) then (idx t (i:Int)).bind fun v18=>(ZGa v18).bind fun v20=>(bif v20 then (idx t ((w64 ((i:Int) - 1)))).bind fun v23=>(ZGa v23).bind fun v25=>some ((!v25)) else some false) else some false):Option Bool)=some (br t f i):=by
  intro i h1 h2;have hpre:w64 ((i:Int) - 1)=((i - 1:Nat):Int):=by rw[zIa (by omega) (by omega)];omega
  rw[br_at h1 h2,z7b h2,hpre,z7b (show i - 1 < t.length by omega)];have e:decide ((f:Int)<=(i:Int))=decide (f<=i):=by rw[jBe];simp
  rw[e];simp only[jAb,whb];cases decide (f<=i) <;> cases zUa t[i] <;> rfl
 have hdn:∀i:Nat,i<=78->iter (k0a (t,(f:Int),out)) (0,(i:Int))=some ((Vva t f i:Nat):Int):=by
  intro i;induction i with
  | zero=>intro _;exact zsa (by unfold k0a;rfl)
  | succ i ih=>
   intro hi;have hb:k0a (t,(f:Int),out) (0,((i+1:Nat):Int))=some (.cont ((bif br t f (i+1) then ((i+1:Nat):Int) else 0),(i:Int))):=by
    unfold k0a;dsimp only;have e1:decide ((0:Int) < ((i+1:Nat):Int))=true:=by rw[decide_eq_true_eq];omega
    have e2:w64 (((i+1:Nat):Int) - 1)=(i:Int):=by rw[zIa (by omega) (by omega)];omega
    rw[test (i+1) (by omega) (by omega),e1,e2];simp only[beq_self_eq_true,cond_true,jAb];cases br t f (i+1) <;> rfl
   rw[zxa hb];unfold Vva;cases hq:br t f (i+1) with
   | false=>simpa using ih (by omega)
   | true=>
    simp only[cond_true,if_true];refine zsa ?_;unfold k0a;dsimp only;have e3:((((i+1:Nat):Int))==0)=false:=by rw[beq_eq_false_iff_ne];omega
    rw[e3];cases decide ((0:Int) < (i:Int)) <;> rfl
 have h1:=hdn 78 (by omega);have e78:((78:Nat):Int)=78:=rfl;rw[e78]at h1;rw[h1];simp only[jAb];have hout:∀(c i:Nat),c≠0->iter (kFa (t,(f:Int),out)) ((c:Int),(i:Int))=some ((c:Nat):Int):=by
  intro c i hc;refine zsa ?_;unfold kFa;dsimp only;have e3:((c:Int)==0)=false:=by rw[beq_eq_false_iff_ne];omega
  rw[e3];cases decide ((i:Int) < (t.length:Int)) <;> rfl
 have hup:∀n i:Nat,i+n=t.length->1<=i->iter (kFa (t,(f:Int),out)) (0,(i:Int))=some ((JZa t f n i:Nat):Int):=by
  intro n;induction n with
  | zero=>
   intro i hi _;refine zsa ?_;unfold kFa;dsimp only;have:decide ((i:Int) < (t.length:Int))=false:=by rw[decide_eq_false_iff_not];omega
   rw[this];rfl
  | succ n ih=>
   intro i hi h1i;have hb:kFa (t,(f:Int),out) (0,(i:Int))=some (.cont ((bif br t f i then (i:Int) else 0),((i+1:Nat):Int))):=by
    unfold kFa;dsimp only;have e1:decide ((i:Int) < (t.length:Int))=true:=by simp;omega
    rw[test i h1i (by omega),e1,sc i (by omega)];simp only[beq_self_eq_true,cond_true,jAb];cases br t f i <;> rfl
   rw[zxa hb];unfold JZa;cases hq:br t f i with
   | false=>simpa using ih (i+1) (by omega) (by omega)
   | true=>
    simp only[cond_true,if_true];exact hout i (i+1) (by omega)
 unfold cutP;have e79:((79:Nat):Int)=79:=rfl;by_cases h0:Vva t f 78=0
 .rw[if_pos h0,h0];have:=hup (t.length - 79) 79 (by omega) (by omega);rw[e79]at this;exact this
 rw[if_neg h0];have:=hout (Vva t f 78) 79 h0;rw[e79]at this;exact this
def QJa:Nat->Str->Nat->List Str
 | 0,t,_=>[t]
 | n+1,t,f=>if 78 < t.length then (if cutP t f=0 then [t] else t.take (cutP t f)::QJa n (t.drop (cutP t f)) 1) else [t]
theorem J2a:∀(n m:Nat) (t:Str) (f:Nat),t.length<=n->t.length<=m->QJa n t f=QJa m t f:=by
 intro n;induction n with
 | zero=>
  intro m t f h1 h2;cases m with
  | zero=>rfl
  | succ m=>unfold QJa;rw[if_neg (by omega)]
 | succ n ih=>
  intro m t f h1 h2;cases m with
  | zero=>unfold QJa;rw[if_neg (by omega)]
  | succ m=>
   unfold QJa;split
   .split
    .rfl
    rename_i hc;have:=j3a hc;rw[ih m _ 1 (by simp;omega) (by simp;omega)]
   rfl
def ypa(t:Str)(f:Nat):List Str:=QJa t.length t f
theorem jda{t:Str}{f:Nat}(h:78 < t.length)(hc:cutP t f≠0):ypa t f=t.take (cutP t f)::ypa (t.drop (cutP t f)) 1:=by
 unfold ypa;obtain ⟨n,hn⟩:∃n,t.length=n+1:=⟨t.length - 1,by omega⟩;have hp:=j3a hc;rw[hn,QJa,if_pos h,if_neg hc];rw[J2a n (t.drop (cutP t f)).length _ 1 (by simp;omega) (jAq _)]
theorem k4a{t:Str}{f:Nat}(h:¬78 < t.length∨cutP t f=0):ypa t f=[t]:=by
 unfold ypa;cases hn:t.length with
 | zero=>rfl
 | succ n=>
  rw[QJa];rcases h with h | h
  .rw[if_neg h]
  split
  .rfl
  rfl
theorem jea:∀(n:Nat) (t:Str) (f:Nat),t.length<=n->(ypa t f).flatten=t/\(ypa t f).length<=t.length+1:=by
 intro n;induction n with
 | zero=>intro t f h;rw[k4a (.inl (by omega))];simp
 | succ n ih=>
  intro t f h;by_cases h78:78 < t.length
  .by_cases hc:cutP t f=0
   .rw[k4a (.inr hc)];simp
   have hp:=j3a hc;rw[jda h78 hc];obtain ⟨h1,h2⟩:=ih (t.drop (cutP t f)) 1 (by simp;omega);rw[List.flatten_cons,h1];refine ⟨by simp,?_⟩;simp only[jBn,jDc]at h2 ⊢;omega
  rw[k4a (.inl h78)];simp
theorem Y1a{body:Str × Int × List Str->Option (Step (Str × Int × List Str) (Str × List Str))}(enc:Nat->Int)(g:Nat)
 (h:∀(t:Str) (f:Nat) (out:List Str),t.length<=4194304->out.length<=4194305->f<=4194304->body (t,enc f,out)=some (if 78 < t.length then (if cutP t (max f 1)=0 then .out (t,out) else .cont (t.drop (cutP t (max f 1)),enc g,out++ [t.take (cutP t (max f 1))])) else .out (t,out))) (h0:max g 1=1):
 ∀(n:Nat) (t:Str) (f:Nat) (out:List Str),t.length<=n->t.length<=4194304->out.length+t.length<=4194305->f<=4194304->∃last init,iter body (t,enc f,out)=some (last,init)/\init++ [last]=out++ypa t (max f 1):=by
 intro n;induction n with
 | zero=>
  intro t f out h1 h2 h3 h4;have hb:=h t f out h2 (by omega) h4;rw[if_neg (by omega)]at hb;exact ⟨t,out,zsa hb,by rw[k4a (.inl (by omega))]⟩
 | succ n ih=>
  intro t f out h1 h2 h3 h4;have hb:=h t f out h2 (by omega) h4;by_cases h78:78 < t.length
  .rw[if_pos h78]at hb;by_cases hc:cutP t (max f 1)=0
   .rw[if_pos hc]at hb;exact ⟨t,out,zsa hb,by rw[k4a (.inr hc)]⟩
   rw[if_neg hc]at hb;have hp:=j3a hc;obtain ⟨last,init,q1,q2⟩:=ih (t.drop (cutP t (max f 1))) g (out++ [t.take (cutP t (max f 1))]) (by simp;omega) (by simp;omega) (by simp;omega) (by omega);refine ⟨last,init,(zxa hb).trans q1,?_⟩;rw[q2,h0,jda h78 hc];simp
  rw[if_neg h78]at hb;exact ⟨t,out,zsa hb,by rw[k4a (.inl h78)]⟩
def txt(n v:Str):Str:=n++ [58,32]++v
def flP(n v:Str):List Str:=ypa (txt n v) (n.length+2)
theorem yMb(t:Str)(f:Nat)(ht:t.length<=4194304)(hf:f<=4194304):∃last init,iter w9a (t,(f:Int),([]:List Str))=some (last,init)/\init++ [last]=ypa t (max f 1):=by
 have:=Y1a (body:=w9a) (fun n=>(n:Int)) 0 (fun t f out h1 h2 h3=>by
  unfold w9a;dsimp only;by_cases h78:78 < t.length
  .have hd:decide ((78:Int) < (t.length:Int))=true:=by rw[decide_eq_true_eq];omega
   rw[hd,if_pos h78,J1a t f h1 h3];simp only[cond_true,jAb];by_cases hc:cutP t (max f 1)=0
   .rw[if_pos hc,hc];rfl
   have hp:=j3a hc;have e:(((cutP t (max f 1):Nat):Int)==0)=false:=by rw[beq_eq_false_iff_ne];omega
   rw[if_neg hc,e,WSa (by omega),yRa (by omega)];simp only[cond_false,jAb];rw[k7a (by simp;omega)];rfl
  have hd:decide ((78:Int) < (t.length:Int))=false:=by rw[decide_eq_false_iff_not];omega
  rw[hd,if_neg h78];rfl) (by decide) t.length t f [] (jAq _) ht (by simp;omega) hf
 simpa using this
theorem ref_loop(t:Str)(f:Nat)(ht:t.length<=4194304)(hf:f<=4194304)(h1f:1<=f):∃last init,iter wla (t,(f:Int),([]:List Str))=some (last,init)/\init++ [last]=ypa t f:=by
 have:=Y1a (body:=wla) (fun n=>((max n 1:Nat):Int)) 1 (fun t f out h1 h2 h3=>by
  unfold wla;dsimp only;by_cases h78:78 < t.length
  .have hd:decide ((78:Int) < (t.length:Int))=true:=by rw[decide_eq_true_eq];omega
   have hc0:=R_cut_eq t (max f 1) out h1 h78 (by omega) (by omega);obtain ⟨b10,hb10,hc1⟩:=jDf.1 hc0;rw[hd,if_pos h78,hb10];simp only[cond_true,jAb];rw[hc1];simp only[jAb];by_cases hc:cutP t (max f 1)=0
   .rw[if_pos hc,hc];rfl
   have hp:=j3a hc;have e:(((cutP t (max f 1):Nat):Int)==0)=false:=by rw[beq_eq_false_iff_ne];omega
   rw[if_neg hc,e,WSa (by omega),yRa (by omega)];simp only[cond_false,jAb];rw[k7a (by simp;omega)];rfl
  have hd:decide ((78:Int) < (t.length:Int))=false:=by rw[decide_eq_false_iff_not];omega
  rw[hd,if_neg h78];rfl) (by decide) t.length t f [] (jAq _) ht (by simp;omega) hf
 have e:max f 1=f:=by omega
 rw[e]at this;simpa using this
theorem yNb(n v:Str)(hn:n.length<=1048576)(hv:v.length<=1048576):cat n [58,32]=some (n++ [58,32])/\cat (n++ [58,32]) v=some (txt n v)/\w64 ((n.length:Int)+2)=((n.length+2:Nat):Int):=by
 refine ⟨kRa (by simp;omega),kRa (by simp;omega),?_⟩;rw[zIa (by omega) (by omega)];omega
theorem WWa(n v:Str):(txt n v).length=n.length+2+v.length:=by unfold txt;simp;omega
theorem WXa(n v:Str)(hn:n.length<=1048576)(hv:v.length<=1048576):ZHa n v=some (flP n v):=by
 obtain ⟨h1,h2,h3⟩:=yNb n v hn hv;have hl:=WWa n v;obtain ⟨last,init,q1,q2⟩:=ref_loop (txt n v) (n.length+2) (by omega) (by omega) (by omega);unfold ZHa flP;rw[h1];simp only[jAb];rw[h2];simp only[jAb];rw[h3,q1];simp only[jAb];have hj:=(jea (txt n v).length (txt n v) (n.length+2) (jAq _)).2;rw[<-q2]at hj;simp at hj;rw[k7a (by simp;omega),q2];rfl
def WYa(i:Nat)(l:Str):Option Int:=if 998 < l.length then some (i:Int) else none
def qNb(n v:Str):List Str × zoa:=
 if !fnP n then ([],⟨10, -1⟩) else if 4000 < v.length then ([],⟨1, -1⟩) else if !valP v then ([],⟨11, -1⟩) else match zZa WYa 0 (flP n v) with | some i=>([],⟨1,i⟩) | none=>(flP n v,⟨0,0⟩)
theorem yOb(n v:Str):(flP n v).length<=n.length+v.length+3:=by
 have:=(jea (txt n v).length (txt n v) (n.length+2) (jAq _)).2;have hl:=WWa n v;unfold flP;omega
theorem dec998(l:Str):decide ((998:Int) < (l.length:Int))=decide (998 < l.length):=by generalize l.length=n;rw[jBe];simp;omega
theorem ZUa(n v:Str)(hn:n.length<=1048576)(hv:v.length<=1048576):yaa n v=some (qNb n v):=by
 obtain ⟨h1,h2,h3⟩:=yNb n v hn hv;have hl:=WWa n v;obtain ⟨last,init,q1,q2⟩:=yMb (txt n v) (n.length+2) (by omega) (by omega);rw[show max (n.length+2) 1=n.length+2 by omega]at q2;unfold yaa qNb;rw[kcb n hn,JYa v hv];simp only[jAb,zTa,zPa];cases fnP n with
 | false=>rfl
 | true=>
  simp only[jAx,cond_false,jAs,if_false];by_cases h4:4000 < v.length
  .have hd:decide ((4000:Int) < (v.length:Int))=true:=by rw[decide_eq_true_eq];omega
   rw[hd,if_pos h4];rfl
  have hd:decide ((4000:Int) < (v.length:Int))=false:=by rw[decide_eq_false_iff_not];omega
  rw[hd,if_neg h4];simp only[cond_false];cases valP v with
  | false=>rfl
  | true=>
   simp only[jAx,cond_false,jAs,if_false];rw[h1];simp only[jAb];rw[h2];simp only[jAb];rw[h3,q1];simp only[jAb];have hj:=yOb n v;have hfl:flP n v=init++ [last]:=q2.symm;have hj2:=hj;rw[hfl]at hj2;simp at hj2;rw[k7a (by simp;omega),<-hfl];simp only[jAb];rw[qaa (flP n v) (fun i l=>(WYa i l).map fun k=>(([]:List Str),(⟨1,k⟩:zoa))) (.inl ()) .inr]
   .simp only[jAb];have hm:∀(l:List Str) (i:Nat),zZa (fun i l=>(WYa i l).map fun k=>(([]:List Str),(⟨1,k⟩:zoa))) i l=(zZa WYa i l).map fun k=>(([]:List Str),(⟨1,k⟩:zoa)):=by
     intro l;induction l with
     | nil=>intro i;rfl
     | cons x l ih=>intro i;unfold zZa;rw[ih];cases WYa i x <;> rfl
    rw[hm];cases zZa WYa 0 (flP n v) <;> rfl
   .unfold jca;rw[kaa];rfl
   intro i l hli;have hi:=kfa hli;unfold jca WYa;rw[kSa hli,z3a hli];simp only[cond_true,jAb,dec998,zTa,sc i (by omega)];by_cases h9:998 < l.length
   .simp[h9]
   simp[h9]
end Go.Proofs.YtpphhgbmooofgaaGreatDoor
