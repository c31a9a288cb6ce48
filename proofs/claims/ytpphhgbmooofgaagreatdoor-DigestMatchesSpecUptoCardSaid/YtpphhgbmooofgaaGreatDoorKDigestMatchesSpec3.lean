/- Part 3 of the proof of the law DigestMatchesSpec: what it needs. -/
import Derived.Test.YtpphhgbmooofgaaGreatDoorKDigestMatchesSpec2
import Derived.Laws.MakeOwn
import Derived.Test.YtpphhgbmooofgaaGreatDoorProg
import Derived.Lib.IndexMore
import Derived.Lib.IndexAny
import Derived.Lib.Atoi
import Derived.Lib.Join
import Derived.Lib.Repeat
import Derived.Lib.Split
import Derived.Lib.FieldsP
import Derived.Lib.Strings
import Derived.Shelf.Strings.SlTrimAscii
import Derived.Laws.RangeAny
set_option linter.unusedVariables false
set_option linter.unusedSimpArgs false
noncomputable section
set_option maxRecDepth 100000
set_option maxHeartbeats 40000000
namespace Go.Proofs.YtpphhgbmooofgaaGreatDoor
open Go.RowKit Go.Proofs.Tryz
section
theorem Sto.get_mem{σ:Sto}{o:Nat}{ob:AO}(h:σ.get o=some ob):(o,ob)∈σ:=by
 induction σ with
 | nil=>simp[Sto.get]at h
 | cons x s ih=>
  obtain ⟨k,a⟩:=x;rw[Sto.get_cons]at h;split at h
  .rename_i hk;cases h;subst hk;exact List.mem_cons_self
  exact jCp _ (ih h)
theorem Sto.get_append(s1 s2:Sto)(o:Nat):Sto.get (s1++s2) o=(Sto.get s1 o).or (Sto.get s2 o):=by
 induction s1 with
 | nil=>simp[Sto.get]
 | cons x s ih=>
  obtain ⟨k,a⟩:=x;rw[List.cons_append,Sto.get_cons,Sto.get_cons,ih];split <;> rfl
theorem qBb{l:List Nat}{a:Nat}(h:l.contains a=true):a∈l:=by simpa using h
def AV.okS(rows:List Nat):AV->Bool
 | .pv _=>true
 | .hs r _=>rows.contains r
 | _=>false
def AO.okS(rows:List Nat):AO->Bool
 | .cells cs=>cs.all (AV.okS rows)
 | .row _ _ _ _=>true
 | .opq _ _ _=>true
 | _=>false
def Sto.okS(O:Nat)(rows:List Nat)(σ:Sto):Bool:=σ.all fun p=>(Nat.beq p.1 O || rows.contains p.1) && p.2.okS rows
theorem AV.okS_has{rows:List Nat}{c:AV}{k:Nat}(h:c.okS rows=true)(hk:c.has k=true):k∈rows:=by
 unfold AV.okS at h;split at h
 .simp[AV.has]at hk
 .have:=jAi hk;subst this;exact qBb h
 cases h
theorem AV.hasL_mem{k:Nat}{cs:List AV}(h:AV.hasL k cs=true):∃c∈cs,c.has k=true:=by
 induction cs with
 | nil=>simp[AV.hasL]at h
 | cons c cs ih=>
  unfold AV.hasL at h;simp only[jBh]at h;rcases h with h | h
  .exact ⟨c,List.mem_cons_self,h⟩
  obtain ⟨d,hd,h⟩:=ih h;exact ⟨d,jCp _ hd,h⟩
theorem AO.okS_has{rows:List Nat}{ob:AO}{k:Nat}(h:ob.okS rows=true)(hk:ob.has k=true):k∈rows:=by
 cases ob with
 | cells cs=>
  obtain ⟨c,hc,hck⟩:=AV.hasL_mem hk;exact AV.okS_has (jAn.1 h c hc) hck
 | row=>simp[AO.has]at hk
 | opq=>simp[AO.has]at hk
 | _=>cases h
theorem Sto.okS_get{O:Nat}{rows:List Nat}{σ:Sto}(h:σ.okS O rows=true){o:Nat}{ob:AO}(ho:σ.get o=some ob):(o=O∨o∈rows)/\ob.okS rows=true:=by
 have:=jAn.1 h _ (Sto.get_mem ho);simp only[jAo,jBh]at this;exact ⟨this.1.imp jAi qBb,this.2⟩
structure Own (g:G) (σ:Sto):Prop where
 obj:∀o ob,σ.get o=some ob->RelO g o ob
 apart:∀o o' ob ob' b,σ.get o=some ob->σ.get o' =some ob' ->ob.own (g.loc o) b->ob'.own (g.loc o') b->o=o'
 low:∀o ob b,σ.get o=some ob->ob.own (g.loc o) b->¬GlB b
def SB(g:G)(σ:Sto)(b:Nat):Prop:=∃o ob,σ.get o=some ob/\ob.own (g.loc o) b
structure RunS (P:Program) (f:FuncId) (args:List AV) (σ0:Sto) (r:AV) (σ1:Sto) (O:Nat) (rows:List Nat):Prop where
 ok:∃fn c,FnOk P f fn c
 ok0:σ0.okS O rows=true
 ok1:σ1.okS O rows=true
 run:∀g vs,Wf g->Gl g->Own g σ0->yia g args vs->CallsIn (fen none) 0 P f vs g.w fun e w' =>∃g' v,g'.w=w' /\(∀k,k ∉ rows->g'.loc k=g.loc k)/\Old (SB g σ0) g g' /\Wf g' /\e=.returned v/\Rel g' r v/\
  (∀o ob,σ1.get o=some ob->RelO g' o ob)/\(∀o o' ob ob' b,σ1.get o=some ob->σ1.get o' =some ob' ->ob.own (g'.loc o) b->ob'.own (g'.loc o') b->o=o')/\
  (∀o ob b,σ1.get o=some ob->ob.own (g'.loc o) b->g.w.heap.size<=b∨SB g σ0 b)
variable {P:Program} {σ:Sto} {dst:Option Tmp} {ty:TypeId} {pos:String} {af:Array Edge} {gu:Option (Nat × Bool)} {E:Env} {fr:Fr} {K:Post}
theorem vob{g g' :G}{o:Nat}{ob:AO}{rows:List Nat}(hk:ob.okS rows=true)(h:RelO g o ob)(hx:Ext0 g.w g.u g'.w g'.u)(hl:g'.loc o=g.loc o)(hh:∀k∈rows,g'.loc k=g.loc k)
 (hb:∀(b:Nat) (vs:Array Value) (t:TypeId) (fz:Nat × Nat),g.w.heap[b]? =some (Obj.cells vs t fz)->g'.w.heap[b]? =g.w.heap[b]?) (hu:g'.u=g.u):RelO g' o ob:=by
 cases h with
 | @cells cs b t vs h1 h2 h3 h4 h5 h6=>
  exact .cells (hl.trans h1) ((hb _ _ _ _ h2).trans h2) h3 (by rw[hu];exact h4) h5 fun i c hi=>(h6 i c hi).mono0 hx fun k hck=>hh k (AV.okS_has (jAn.1 hk c (jAg hi)) hck)
 | nil h1=>exact .nil (hl.trans h1)
 | @row e mu size elems b off cap vs h1 h2 h3 h3' h4 h5 h6 h7 h9=>
  exact .row (hl.trans h1) ((hb _ _ _ _ h2).trans h2) h3 h3' h4 h5 (by rw[hu];exact h6) (by rw[hu];exact h7) fun i j x c hi hj=>(h9 i j x c hi hj).mono0 hx
 | @opq t t1 n Q b vs h1 h2 h3 h4 h5=>exact .opq (hl.trans h1) ((hb _ _ _ _ h2).trans h2) h3 (by rw[hu];exact h4) fun w' u' hx' =>h5 w' u' (hx.trans hx')
 | _=>cases hk
def zrb(P:Program)(fn:Func)(r hc:AV)(H:Nat)(T:Array Value)(σ1:Sto):Post:=fun e fr σ=>(e=.ret∨e=.normal)/\(∃cs,ResL P fr σ fn.results.toList cs/\Wwa cs=r)/\z5a σ ((H,.hold hc (T.getD 0 undef))::σ1)
theorem vpb{fn:Func}{r hc:AV}{H:Nat}{T:Array Value}{σ1:Sto}:Mono (zrb P fn r hc H T σ1):=fun x fr σ fr' σ' hf hs ⟨h1,⟨cs,h2,h2'⟩,h3⟩=>⟨h1,⟨cs,h2.le hf hs,h2'⟩,kYa hs h3⟩
theorem zsb{f:FuncId}{fn:Func}{c:Code}(hok:FnOk P f fn c){args:List AV}{r hc:AV}{σ0 σ1:Sto}{O H:Nat}{rows:List Nat}(hN:Nat.ble args.length fn.ntmps=true)(hr:∀k,r.has k=true->k∈rows)
 (h0:(args[0]? =some hc/\∀(g g' :G) (v:Value) (ob:AO),(∀o ob,σ0.get o=some ob->RelO g o ob)->σ1.get O=some ob->RelO g' O ob->Rel g hc v->Rel g' hc v->g'.loc O=g.loc O)∨(hc=.any/\Sto.get σ1 O=none))
 (k0:σ0.okS O rows=true) (k1:σ1.okS O rows=true) (hH:Sto.get σ0 H=none) (hH1:Sto.get σ1 H=none)
 (h:∀g0 (hg:Gl g0) (S:Nat->Prop) (sg:∀k,GlB k->¬S k) (T:Array Value),AWP ⟨P,none,g0,fn.ntmps,false,hg,S,sg⟩ c (kqa 0 args) ((H,.hold hc (T.getD 0 undef))::σ0) (zrb P fn r hc H T σ1)):RunS P f args σ0 r σ1 O rows:=by
 refine ⟨⟨fn,c,hok⟩,k0,k1,fun g vs hw hgl hown ⟨hsz,ha⟩=>?_⟩;have hN:=jAe hN;have hget0:∀o ob,Sto.get ((H,AO.hold hc (vs.getD 0 undef))::σ0) o=some ob->(o=H/\ob=.hold hc (vs.getD 0 undef))∨(o≠H/\σ0.get o=some ob):=by
  intro o ob ho;rw[Sto.get_cons]at ho;split at ho
  .rename_i hk;cases ho;exact .inl ⟨hk.symm,rfl⟩
  rename_i hk;exact .inr ⟨Ne.symm hk,ho⟩
 refine callsIn_of_wp_marks hok.f hok.b trivial<|wpIn_mono ((h g hgl (SB g σ0) (fun k hk ⟨o,ob,h1,h2⟩=>hown.low o ob k h1 h2 hk) vs).go g _ ⟨fun d=>?_,by simp;omega,⟨Dok.nil _ _,fun _=>rfl⟩,⟨?_,?_,?_,Old.refl _ g,hw⟩⟩) ?_
 .rw[vPa];simp only[jCc,if_true,Nat.sub_zero];cases hc:args[d]? with
  | none=>exact .any _
  | some c=>
   have hlt:d < vs.size:=by rw[hsz];exact (jAc.1 hc).1
   have:=ha d c hc;rw[jAd,jBe hlt,<-jAd];exact this
 .intro o ob ho;rcases hget0 o ob ho with ⟨rfl,rfl⟩ | ⟨_,ho⟩
  .rcases h0 with ⟨h0,_⟩ | ⟨rfl,_⟩
   .exact .hold (ha 0 _ h0)
   exact .hold (.any _)
  exact hown.obj o ob ho
 .intro o o' ob ob' b h1 h2 h3 h4;rcases hget0 o ob h1 with ⟨rfl,rfl⟩ | ⟨_,h1⟩
  .cases h3
  rcases hget0 o' ob' h2 with ⟨rfl,rfl⟩ | ⟨_,h2⟩
  .cases h4
  exact hown.apart o o' ob ob' b h1 h2 h3 h4
 .intro o ob b h1 h2;rcases hget0 o ob h1 with ⟨rfl,rfl⟩ | ⟨_,h1⟩
  .cases h2
  exact .inr ⟨o,ob,h1,h2⟩
 rintro e a w' ⟨g',fr',σ',rfl,hst,he,⟨cs,hres,rfl⟩,hle⟩;obtain ⟨bs,hds,hnd,hbs⟩:=hst.df.ok;have hle1:∀o ob,σ1.get o=some ob->∃ob',σ'.get o=some ob' /\RelO g' o ob/\∀l,ob.own l=ob'.own l:=by
  intro o ob ho;have hne:o≠H:=by rintro rfl;rw[hH1]at ho;cases ho
  have hg:Sto.get ((H,AO.hold hc (vs.getD 0 undef))::σ1) o=some ob:=by rw[Sto.get_cons,if_neg (Ne.symm hne)];exact ho
  obtain ⟨ob',h1,h2⟩:=hle.some hg;exact ⟨ob',h1,hle.obj hst.so.obj o ob hg,fun l=>(h2 l).symm⟩
 have hO:(∃ob,σ1.get O=some ob)->g'.loc O=g.loc O:=by
  rintro ⟨ob,hob⟩;rcases h0 with ⟨h0,hloc⟩ | ⟨_,h0⟩
  case inr=>rw[h0]at hob;cases hob
  have hh:=hle H (.hold hc (vs.getD 0 undef)) (by rw[Sto.get_cons,if_pos rfl]);have hh:σ'.get H=some (.hold hc (vs.getD 0 undef)):=by
   rcases hh with hh | ⟨cs,_,hh⟩
   .exact hh
   cases hh
  have h1:=hst.so.obj H _ hh;obtain ⟨_,_,hro,_⟩:=hle1 O ob hob;cases h1 with
  | hold h1=>exact hloc g g' _ ob hown.obj hob hro (ha 0 _ h0) h1
 have key:∀w',Took g'.w bs w' ->∃v,(results fn a.tmps).run P w' =.ok v w' /\∃g'' v',g''.w=w' /\(∀k,k ∉ rows->g''.loc k=g.loc k)/\Old (SB g σ0) g g'' /\Wf g'' /\Ending.returned v=.returned v' /\Rel g'' (Wwa cs) v' /\
  (∀o ob,σ1.get o=some ob->RelO g'' o ob)/\(∀o o' ob ob' b,σ1.get o=some ob->σ1.get o' =some ob' ->ob.own (g''.loc o) b->ob'.own (g''.loc o') b->o=o')/\
  (∀o ob b,σ1.get o=some ob->ob.own (g''.loc o) b->g.w.heap.size<=b∨SB g σ0 b):=by
  intro w' ht;have hcellb:∀(k:Nat) (vs:Array Value) (t:TypeId) (fz:Nat × Nat),g'.w.heap[k]? =some (Obj.cells vs t fz)->w'.heap[k]? =g'.w.heap[k]? :=by
   intro k vs t fz hk;refine ht.block k fun hx=>?_
   rw[(hbs k hx).2]at hk;cases hk
  have hx0:Ext0 g'.w g'.u w' g'.u:=⟨jBn ht.size.symm,fun _ _=>jAt _,fun k i hk hi=>by
   by_cases hkb:k∈bs
   .simp[World.cell?,(hbs k hkb).2,ht.took k hkb]
   simp only[World.cell?];rw[ht.block k hkb]⟩
  obtain ⟨v,h1,h2⟩:=KUa (P:=P) (g:=⟨w',g'.u,g'.loc⟩) hres (fun d=>(hst.fr d).mono0 hx0 (fun _ _=>rfl)) (fun k cs' hk=>by
   cases hst.so.obj k _ hk with
   | cells q1 q2 q3 q4 q5 q6=>exact .cells q1 ((hcellb _ _ _ _ q2).trans q2) q3 q4 q5 fun i c hi=>(q6 i c hi).mono0 hx0 (fun _ _=>rfl))
  have hloc:∀o ob,σ1.get o=some ob->(if o∈rows then g'.loc o else g.loc o)=g'.loc o:=by
   intro o ob ho;rcases (Sto.okS_get k1 ho).1 with rfl | hin
   .split
    .rfl
    exact (hO ⟨ob,ho⟩).symm
   rw[if_pos hin]
  refine ⟨v,h1,⟨w',g'.u,fun k=>if k∈rows then g'.loc k else g.loc k⟩,v,rfl,fun k hk=>if_neg hk,⟨ht.os.trans hst.so.old.os,ht.tape.trans hst.so.old.tape,ht.output.trans hst.so.old.output,⟨by rw[ht.size];exact hst.so.old.ext.size,hst.so.old.ext.pub,fun k i hk hi=>?_,fun r' hr' =>?_⟩,fun k hk hs=>?_⟩,fun k hk=>hst.so.wf k (by rw[<-ht.size];exact hk),rfl,
   Rel.mono (g:=⟨w',g'.u,g'.loc⟩) (g' :=⟨w',g'.u,fun k=>if k∈rows then g'.loc k else g.loc k⟩) (Ext.refl w' g'.u) h2 (fun k hk=>if_pos (hr k hk)),?_,?_,?_⟩
  .have hkb:k ∉ bs:=fun hx=>by have:g.w.heap.size<=k:=(hbs k hx).1;omega
   simp only[World.cell?];rw[ht.block k hkb];exact hst.so.old.ext.cell k i hk hi
  .have hkb:r' ∉ bs:=fun hx=>by have:g.w.heap.size<=r' :=(hbs r' hx).1;have:=zCa hr';omega
   rw[ht.block r' hkb];exact hst.so.old.ext.df r' hr'
  .have hkb:k ∉ bs:=fun hx=>by have:g.w.heap.size<=k:=(hbs k hx).1;omega
   rw[ht.block k hkb];exact hst.so.old.block k hk hs
  .intro o ob ho;obtain ⟨_,_,hro,_⟩:=hle1 o ob ho;exact vob (g:=g') (g' :=⟨w',g'.u,fun k=>if k∈rows then g'.loc k else g.loc k⟩) (Sto.okS_get k1 ho).2 hro hx0 (hloc o ob ho) (fun k hk=>if_pos hk) hcellb rfl
  .intro o o' ob ob' b q1 q2 q3 q4;simp only[hloc o ob q1]at q3;simp only[hloc o' ob' q2]at q4;obtain ⟨_,p1,_,e1⟩:=hle1 o ob q1;obtain ⟨_,p2,_,e2⟩:=hle1 o' ob' q2;rw[e1]at q3;rw[e2]at q4;exact hst.so.apart o o' _ _ b p1 p2 q3 q4
  intro o ob b q1 q2;simp only[hloc o ob q1]at q2;obtain ⟨_,p1,_,e1⟩:=hle1 o ob q1;rw[e1]at q2;exact hst.so.mine o _ b p1 q2
 rcases he with rfl | rfl
 .show LeavesInM _ _ _ _ _ _ _ _ _;rw[hds];exact qQa bs g'.w hnd (fun r' hr' =>(hbs r' hr').2) key
 show LeavesInM _ _ _ _ _ _ _ _ _;rw[hds];exact qQa bs g'.w hnd (fun r' hr' =>(hbs r' hr').2) key
theorem kQb{f:FuncId}{fn:Func}{c:Code}(hok:FnOk P f fn c){args:List AV}{r hc:AV}{σ0 σ1:Sto}{O H:Nat}{rows:List Nat}(hN:Nat.ble args.length fn.ntmps=true)(hr:∀k,r.has k=true->k∈rows)(h0:(hc=.ptr O 0/\args[0]? =some (.ptr O 0))∨(hc=.any/\Sto.get σ1 O=none))
 (k0:σ0.okS O rows=true) (k1:σ1.okS O rows=true) (hH:Sto.get σ0 H=none) (hH1:Sto.get σ1 H=none)
 (h:∀g0 (hg:Gl g0) (S:Nat->Prop) (sg:∀k,GlB k->¬S k) (T:Array Value),AWP ⟨P,none,g0,fn.ntmps,false,hg,S,sg⟩ c (kqa 0 args) ((H,.hold hc (T.getD 0 undef))::σ0) (zrb P fn r hc H T σ1)):RunS P f args σ0 r σ1 O rows:=
 zsb hok hN hr (h0.imp (fun ⟨e,h⟩=>⟨e▸h,fun g g' v ob _ _ _ h1 h2=>by
  subst e;cases h1 with
  | ptr q1=>cases h2 with
   | ptr q2=>exact q2.trans q1.symm⟩) id) k0 k1 hH hH1 h
def Sto.dels(ids:List Nat):Sto->Sto
 | []=>[]
 | (k,a)::l=>bif ids.contains k then Sto.dels ids l else (k,a)::Sto.dels ids l
theorem Sto.get_dels(ids:List Nat)(σ:Sto)(o:Nat):(σ.dels ids).get o=if o∈ids then none else σ.get o:=by
 induction σ with
 | nil=>simp[Sto.dels,Sto.get]
 | cons x l ih=>
  obtain ⟨k,a⟩:=x;unfold Sto.dels;cases hc:ids.contains k with
  | true=>
   have hk:k∈ids:=by simpa using hc
   rw[cond_true,ih,Sto.get_cons];by_cases ho:o∈ids
   .rw[if_pos ho,if_pos ho]
   rw[if_neg ho,if_neg ho,if_neg (by rintro rfl;exact ho hk)]
  | false=>
   have hk:k ∉ ids:=by simpa using hc
   rw[cond_false,Sto.get_cons,Sto.get_cons,ih];by_cases ho:k=o
   .subst ho;simp[hk]
   rw[if_neg ho,if_neg ho]
def AV.clrs(rows:List Nat)(c:AV):AV:=bif rows.any (fun r=>c.has r) then .any else c
def Fr.clrs(rows:List Nat):Fr->Fr
 | []=>[]
 | (k,a)::l=>(k,a.clrs rows)::Fr.clrs rows l
def AO.clrs(rows:List Nat):AO->AO
 | .cells cs=>.cells (cs.map (AV.clrs rows))
 | .hold c v=>.hold (c.clrs rows) v
 | o=>o
def Sto.clrs(rows:List Nat):Sto->Sto
 | []=>[]
 | (k,a)::l=>(k,a.clrs rows)::Sto.clrs rows l
theorem Fr.get_clrs(rows:List Nat)(fr:Fr)(d:Nat):(fr.clrs rows).get d=(fr.get d).clrs rows:=by
 induction fr with
 | nil=>unfold Fr.clrs Fr.get AV.clrs;cases rows.any (fun r=>AV.has r AV.any) <;> rfl
 | cons x l ih=>
  obtain ⟨k,a⟩:=x;simp only[Fr.clrs,Fr.get_cons,ih];split <;> rfl
theorem Sto.get_clrs(rows:List Nat)(σ:Sto)(o:Nat):(σ.clrs rows).get o=(σ.get o).map (AO.clrs rows):=by
 induction σ with
 | nil=>rfl
 | cons x l ih=>
  obtain ⟨k,a⟩:=x;simp only[Sto.clrs,Sto.get_cons,ih];split <;> rfl
theorem Wta{g g' :G}{rows:List Nat}(hx:Ext g.w g.u g'.w g'.u)(hl:∀k,k ∉ rows->g'.loc k=g.loc k){c:AV}{v:Value}(h:Rel g c v):Rel g' (c.clrs rows) v:=by
 unfold AV.clrs;cases hc:rows.any (fun r=>c.has r) with
 | true=>exact .any _
 | false=>exact h.mono hx fun k hk=>hl k fun hin=>List.any_eq_false.1 hc k hin hk
theorem AO.own_clrs(rows:List Nat)(ob:AO)(l:Loc):(ob.clrs rows).own l=ob.own l:=by cases ob <;> rfl
theorem ztb{g g' :G}{o:Nat}{ob:AO}{rows:List Nat}(hro:RelO g o ob)(hx:Ext g.w g.u g'.w g'.u)(hl:∀k,k ∉ rows->g'.loc k=g.loc k)(ho:o ∉ rows)
 (hb:∀b,ob.own (g.loc o) b->g'.w.heap[b]? =g.w.heap[b]? /\g'.u b=g.u b):RelO g' o (ob.clrs rows):=by
 cases hro with
 | @cells cs b t vs h1 h2 h3 h4 h5 h6=>
  obtain ⟨b1,b2⟩:=hb b (by rw[h1];rfl);refine .cells ((hl o ho).trans h1) (b1.trans h2) (by simpa using h3) (b2.trans h4) h5 fun i c hi=>?_
  simp only[jAj,jAh]at hi;obtain ⟨c',hc',rfl⟩:=hi;exact Wta hx hl (h6 i c' hc')
 | nil h1=>exact .nil ((hl o ho).trans h1)
 | @row e mu size elems b off cap vs h1 h2 h3 h3' h4 h5 h6 h7 h9=>
  obtain ⟨b1,b2⟩:=hb b (by rw[h1];rfl);exact .row ((hl o ho).trans h1) (b1.trans h2) h3 h3' h4 h5 (by rw[b2];exact h6) (by rw[b2];exact h7) fun i j x c hi hj=>(h9 i j x c hi hj).mono hx
 | hold h1=>exact .hold (Wta hx hl h1)
 | sus h1=>exact .sus (h1.mono hx)
 | @lp L b h1 h2=>
  obtain ⟨b1,b2⟩:=hb b (by rw[h1];rfl);exact .lp ((hl o ho).trans h1) (b1.trans h2)
 | @it s pos b h1 h2 h3=>
  obtain ⟨b1,b2⟩:=hb b (by rw[h1];rfl);exact .it ((hl o ho).trans h1) (b1.trans h2) (b2.trans h3)
 | @buf l e b cap vs h1 h2 h3 h4 h5 h6=>
  obtain ⟨b1,b2⟩:=hb b (by rw[h1];rfl);exact .buf ((hl o ho).trans h1) (b1.trans h2) h3 h4 (b2.trans h5) h6
 | @mapo ag es b clock ents h1 h2 h3 h4 h5=>
  obtain ⟨b1,b2⟩:=hb b (by rw[h1];rfl);exact .mapo ((hl o ho).trans h1) (b1.trans h2) (b2.trans h3) h4 fun i k c hi=>by
   obtain ⟨x,e1,e2,e3⟩:=h5 i k c hi;exact ⟨x,e1,e2,e3.mono hx⟩
 | @opq t t1 n Q b vs h1 h2 h3 h4 h5=>
  obtain ⟨b1,b2⟩:=hb b (by rw[h1];rfl);exact .opq ((hl o ho).trans h1) (b1.trans h2) h3 (b2.trans h4) fun w' u' hx' =>h5 w' u' (hx.to0.trans hx')
 | nrowNil h1=>exact .nrowNil ((hl o ho).trans h1)
 | nrow h1 h2 h3 h4 h5 h6 h7 h8 h9 h10 h11 h12=>exact (RelO.nrow h1 h2 h3 h4 h5 h6 h7 h8 h9 h10 h11 h12).mono hx (hl o ho) (fun _ hk=>by cases hk) hb
 | mapr h1 h2 h3 h4 h5 h6 h7=>exact (RelO.mapr h1 h2 h3 h4 h5 h6 h7).mono hx (hl o ho) (fun _ hk=>by cases hk) hb
theorem gl_lt{g:G}(h:Gl g){k:Nat}(hk:GlB k):k < g.w.heap.size:=by
 rcases hk with ⟨p,hp,rfl⟩ | hk
 .obtain ⟨t,fz,h1⟩:=h.2.1 p hp;exact zCa h1
 obtain ⟨tp,x,t,fz,h1⟩:=h.2.2 k hk;exact zCa h1
theorem Vja{f:FuncId}{k:Nat}{xs:List Operand}{ats:Array TypeId}{args:List AV}{r:AV}{σ0 σ1:Sto}{O:Nat}{rows:List Nat}(hr:RunS E.P f args σ0 r σ1 O rows)(hN:Nat.ble (k+1) E.N=true)(ha:xs.map (fun x=>(fr.ev x).weak)=args)(hle:z5a σ σ0):
 OpTo E ⟨some k,.call ⟨.value (.func f),xs.toArray,ats⟩,ty,pos,af,gu⟩ fr σ ((k,r)::fr.clrs rows) (σ1++(σ.dels (O::rows)).clrs rows):=
 ⟨fun g a K Q hst hK=>by
  obtain ⟨fn,c,hok⟩:=hr.ok;refine ⟨fun _ _=>trivial,?_⟩;rw[jAy _ _ _ (fun c=>by simp),wda hok (first:= #[]) (cap:= #[]) rfl,jCu];refine ⟨fun h=>by simp[fen]at h,?_⟩;have hargs:yia g args (#[]++xs.toArray.map a.eval++ #[]):=by
   subst ha;refine ⟨by simp,fun i c hi=>?_⟩;simp only[jAj,jAh]at hi;obtain ⟨x,hx,rfl⟩:=hi;have:=vua (hst.ev x);simpa[hx]using this
  have hsb:∀b,SB g σ0 b->b < g.w.heap.size/\(E.g0.w.heap.size<=b∨E.S b):=by
   rintro b ⟨o,ob,h1,h2⟩;obtain ⟨ob',h3,h4⟩:=hle.some h1;rw[<-h4]at h2;exact ⟨(hst.so.obj o ob' h3).block_lt h2,hst.so.mine o ob' b h3 h2⟩
  have hown:Own g σ0:=⟨hle.obj hst.so.obj,fun o o' ob ob' b h1 h2 h3 h4=>by
   obtain ⟨_,p1,e1⟩:=hle.some h1;obtain ⟨_,p2,e2⟩:=hle.some h2;rw[<-e1]at h3;rw[<-e2]at h4;exact hst.so.apart o o' _ _ b p1 p2 h3 h4,fun o ob b h1 h2 hb=>by
   rcases (hsb b ⟨o,ob,h1,h2⟩).2 with h3 | h3
   .have:=gl_lt E.gl hb;omega
   exact E.sg b hb h3⟩
  refine (wca (hr.run g _ hst.so.wf (E.glOf hst.so) hown hargs)).mono ?_;rintro e w' ⟨g',v,rfl,hl,ho,hw,rfl,hv,hobj,hap,hmine⟩;have hget:∀o ob,Sto.get (σ1++(σ.dels (O::rows)).clrs rows) o=some ob->σ1.get o=some ob∨(o ∉ O::rows/\∃ob1,σ.get o=some ob1/\ob=ob1.clrs rows):=by
   intro o ob hg;rw[Sto.get_append]at hg;cases h1:σ1.get o with
   | some ob1=>rw[h1]at hg;exact .inl (by simpa using hg)
   | none=>
    rw[h1,Option.none_or,Sto.get_clrs,Sto.get_dels]at hg;split at hg
    .cases hg
    rename_i hno;cases h2:σ.get o with
    | none=>rw[h2]at hg;cases hg
    | some ob1=>rw[h2]at hg;exact .inr ⟨hno,ob1,rfl,by simpa using hg.symm⟩
  have hout:∀o ob1 b,o ∉ O::rows->σ.get o=some ob1->ob1.own (g.loc o) b->¬SB g σ0 b:=by
   rintro o ob1 b hno ho1 hb ⟨o2,ob2,h2,hb2⟩;obtain ⟨ob3,h3,e3⟩:=hle.some h2;rw[<-e3]at hb2;have:=hst.so.apart o o2 _ _ b ho1 h3 hb hb2;subst this;rcases (Sto.okS_get hr.ok0 h2).1 with rfl | hin
   .exact hno List.mem_cons_self
   exact hno (jCp _ hin)
  have hnr:∀o,o ∉ O::rows->o ∉ rows:=fun o h hin=>h (jCp _ hin)
  have hst' :St E g' a (fr.clrs rows) (σ1++(σ.dels (O::rows)).clrs rows):=by
   refine ⟨fun d=>by rw[Fr.get_clrs];exact Wta ho.ext hl (hst.fr d),hst.n,hst.df.mono ho.ext,⟨?_,?_,?_,?_,hw⟩⟩
   .intro o ob hg;rcases hget o ob hg with h1 | ⟨hno,ob1,ho1,rfl⟩
    .exact hobj o ob h1
    have hro:=hst.so.obj o ob1 ho1;exact ztb hro ho.ext hl (hnr o hno) fun b hb=>ho.block b (hro.block_lt hb) (hout o ob1 b hno ho1 hb)
   .intro o o' ob ob' b h1 h2 h3 h4;rcases hget o ob h1 with h1 | ⟨hno,ob1,ho1,rfl⟩ <;> rcases hget o' ob' h2 with h2 | ⟨hno',ob1',ho1',rfl⟩
    .exact hap o o' ob ob' b h1 h2 h3 h4
    .exfalso;rw[AO.own_clrs,hl o' (hnr o' hno')]at h4;have hlt:=(hst.so.obj o' ob1' ho1').block_lt h4;rcases hmine o ob b h1 h3 with h5 | h5
     .omega
     exact hout o' ob1' b hno' ho1' h4 h5
    .exfalso;rw[AO.own_clrs,hl o (hnr o hno)]at h3;have hlt:=(hst.so.obj o ob1 ho1).block_lt h3;rcases hmine o' ob' b h2 h4 with h5 | h5
     .omega
     exact hout o ob1 b hno ho1 h3 h5
    rw[AO.own_clrs,hl o (hnr o hno)]at h3;rw[AO.own_clrs,hl o' (hnr o' hno')]at h4;exact hst.so.apart o o' ob1 ob1' b ho1 ho1' h3 h4
   .intro o ob b h1 h2;rcases hget o ob h1 with h1 | ⟨hno,ob1,ho1,rfl⟩
    .rcases hmine o ob b h1 h2 with h5 | h5
     .exact .inl (jBk hst.so.old.ext.size h5)
     exact (hsb b h5).2
    rw[AO.own_clrs,hl o (hnr o hno)]at h2;exact hst.so.mine o ob1 b ho1 h2
   refine hst.so.old.trans (ho.mono fun b _ hb=>?_);exact (hsb b hb).2.symm
  exact hK g' _ (hst'.put (jAe hN) hv)⟩
section
variable {α:Type} {F:α->List PV} {l:List α} {size:Nat} {e:TypeId}
end
def AV.ren1(r r' :Nat):AV->AV
 | .hs x off=>bif Nat.beq x r then .hs r' off else .hs x off
 | c=>bif c.has r then .any else c
def AV.ren(r r' :Nat):AV->AV
 | .agg l=>.agg (l.map (AV.ren1 r r'))
 | c=>c.ren1 r r'
def Fr.ren(r r' :Nat):Fr->Fr
 | []=>[]
 | (k,c)::l=>(k,c.ren r r')::Fr.ren r r' l
theorem Fr.get_ren(r r' :Nat)(fr:Fr)(d:Nat):(fr.ren r r').get d=(fr.get d).ren r r' :=by
 induction fr with
 | nil=>rfl
 | cons x l ih=>
  obtain ⟨k,c⟩:=x;simp only[Fr.ren,Fr.get_cons,ih];split <;> rfl
def AO.ren(r r' :Nat):AO->AO
 | .cells cs=>.cells (cs.map (AV.ren r r'))
 | .hold c v=>.hold (c.ren r r') v
 | o=>o
def Sto.ren(r r' :Nat):Sto->Sto
 | []=>[]
 | (k,a)::l=>(k,a.ren r r')::Sto.ren r r' l
theorem Sto.get_ren(r r' :Nat)(σ:Sto)(o:Nat):(σ.ren r r').get o=(σ.get o).map (AO.ren r r'):=by
 induction σ with
 | nil=>rfl
 | cons x l ih=>
  obtain ⟨k,a⟩:=x;simp only[Sto.ren,Sto.get_cons,ih];split <;> rfl
theorem AO.own_ren(r r' :Nat)(ob:AO)(l:Loc):(ob.ren r r').own l=ob.own l:=by cases ob <;> rfl
section
variable {g g' :G} {r r' :Nat}
theorem rel_ren0(hw:g'.w=g.w)(hu:g'.u=g.u)(hk:∀k,k≠r' ->g'.loc k=g.loc k){c:AV}{v:Value}(h:Rel g c v)(hn:c.has r' =false):Rel g' (bif c.has r then .any else c) v:=by
 have hx:Ext g.w g.u g'.w g'.u:=by rw[hw,hu];exact Ext.refl _ _
 cases hc:c.has r with
 | true=>exact .any _
 | false=>exact h.mono hx fun k hk' =>hk k (by rintro rfl;rw[hn]at hk';cases hk')
theorem qCb(hw:g'.w=g.w)(hu:g'.u=g.u)(hl:g'.loc r' =g.loc r)(hk:∀k,k≠r' ->g'.loc k=g.loc k){c:AV}{v:Value}(h:Rel g c v)(hn:c.has r' =false):Rel g' (c.ren1 r r') v:=by
 cases c
 case hs x off=>
  have hxr:x≠r' :=by rintro rfl;simp[AV.has]at hn
  cases hb:Nat.beq x r with
  | true=>
   rw[show AV.ren1 r r' (.hs x off)=.hs r' off by show (bif Nat.beq x r then AV.hs r' off else AV.hs x off)=_;rw[hb];rfl];have:x=r:=jAi hb;subst this;cases h with
   | hsNil a h1=>exact .hsNil a (hl.trans h1)
   | hs h1 h2=>exact .hs (hl.trans h1) h2
  | false=>
   rw[show AV.ren1 r r' (.hs x off)=.hs x off by show (bif Nat.beq x r then AV.hs r' off else AV.hs x off)=_;rw[hb];rfl];cases h with
   | hsNil a h1=>exact .hsNil a ((hk x hxr).trans h1)
   | hs h1 h2=>exact .hs ((hk x hxr).trans h1) h2
 all_goals exact rel_ren0 (r:=r) hw hu hk h hn
theorem kRb(hw:g'.w=g.w)(hu:g'.u=g.u)(hl:g'.loc r' =g.loc r)(hk:∀k,k≠r' ->g'.loc k=g.loc k){c:AV}{v:Value}(h:Rel g c v)(hn:c.has r' =false):Rel g' (c.ren r r') v:=by
 cases c
 case agg cs=>
  cases h with
  | agg hl2 hc2 h=>
   refine .agg (by simp[hl2]) hc2 fun i c hi=>?_
   simp only[jAj,jAh]at hi;obtain ⟨c',h1,rfl⟩:=hi;refine qCb hw hu hl hk (h i c' h1) ?_;cases hh:c'.has r' with
   | false=>rfl
   | true=>rw[show (AV.agg cs).has r' =AV.hasL r' cs from rfl,AV.hasL_of h1 hh]at hn;cases hn
 all_goals exact qCb hw hu hl hk h hn
theorem relO_ren(hw:g'.w=g.w)(hu:g'.u=g.u)(hl:g'.loc r' =g.loc r)(hk:∀k,k≠r' ->g'.loc k=g.loc k){o:Nat}{ob:AO}(h:RelO g o ob)(ho:o≠r')(hn:ob.has r' =false):RelO g' o (ob.ren r r'):=by
 have hx:Ext g.w g.u g'.w g'.u:=by rw[hw,hu];exact Ext.refl _ _
 have hh:∀k,ob.has k=true->g'.loc k=g.loc k:=fun k hk' =>hk k (by rintro rfl;rw[hn]at hk';cases hk')
 cases ob
 case cells cs=>
  cases h with
  | @cells _ b t vs h1 h2 h3 h4 h5 h6=>
   refine .cells ((hk o ho).trans h1) (by rw[hw];exact h2) (by simpa using h3) (by rw[hu];exact h4) h5 fun i c hi=>?_
   simp only[jAj,jAh]at hi;obtain ⟨c',hc',rfl⟩:=hi;refine kRb hw hu hl hk (h6 i c' hc') ?_;cases hh' :c'.has r' with
   | false=>rfl
   | true=>rw[show (AO.cells cs).has r' =AV.hasL r' cs from rfl,AV.hasL_of hc' hh']at hn;cases hn
 case hold c v=>cases h with
  | hold h1=>exact .hold (kRb hw hu hl hk h1 hn)
 all_goals exact h.mono hx (hk o ho) hh fun b _=>by rw[hw,hu];exact ⟨rfl,rfl⟩
end
theorem St.ren{g:G}{a:Act}{r r' :Nat}{ob:AO}(h:St E g a fr σ)(hr:σ.get r=some ob)(hne:Nat.beq r r' =false)(hf:fr.has r' =false)(hs:σ.has r' =false)(hg:σ.get r' =none)(hob:ob.okS []=true):
 St E ⟨g.w,g.u,fun k=>if k=r' then g.loc r else g.loc k⟩ a (fr.ren r r') ((r',ob)::(σ.del r).ren r r'):=by
 have hne:r≠r' :=by rintro rfl;simp at hne
 have hk:∀k,k≠r' ->(⟨g.w,g.u,fun k=>if k=r' then g.loc r else g.loc k⟩:G).loc k=g.loc k:=fun k hk=>if_neg hk
 have hl:(⟨g.w,g.u,fun k=>if k=r' then g.loc r else g.loc k⟩:G).loc r' =g.loc r:=if_pos rfl;have hhas:∀k,ob.has k=false:=fun k=>by
  cases hh:ob.has k with
  | false=>rfl
  | true=>exact absurd (AO.okS_has hob hh) (by simp)
 have hget:∀o ob1,Sto.get ((r',ob)::(σ.del r).ren r r') o=some ob1->(o=r' /\ob1=ob)∨(o≠r' /\o≠r/\∃ob2,σ.get o=some ob2/\ob1=ob2.ren r r'):=by
  intro o ob1 ho;rw[Sto.get_cons]at ho;split at ho
  .rename_i hk;cases ho;exact .inl ⟨hk.symm,rfl⟩
  rename_i hk;rw[Sto.get_ren,Sto.get_del]at ho;split at ho
  .cases ho
  rename_i hor;cases h2:σ.get o with
  | none=>rw[h2]at ho;cases ho
  | some ob2=>rw[h2]at ho;exact .inr ⟨Ne.symm hk,hor,ob2,rfl,by simpa using ho.symm⟩
 refine ⟨fun d=>?_,h.n,h.df,⟨?_,?_,?_,⟨h.so.old.os,h.so.old.tape,h.so.old.output,h.so.old.ext,h.so.old.block⟩,h.so.wf⟩⟩
 .rw[Fr.get_ren];refine kRb (g:=g) (g' :=⟨g.w,g.u,fun k=>if k=r' then g.loc r else g.loc k⟩) rfl rfl hl hk (h.fr d) ?_;cases hh:(fr.get d).has r' with
  | false=>rfl
  | true=>rw[Fr.has_get hh]at hf;cases hf
 .intro o ob1 ho;rcases hget o ob1 ho with ⟨rfl,rfl⟩ | ⟨h1,h2,ob2,h3,rfl⟩
  .have hro:=h.so.obj r ob1 hr;cases ob1 with
   | cells cs=>
    cases hro with
    | @cells _ b t vs q1 q2 q3 q4 q5 q6=>
     exact .cells (hl.trans q1) q2 q3 q4 q5 fun i c hi=>Rel.mono (g:=g) (g' :=⟨g.w,g.u,fun k=>if k=o then g.loc r else g.loc k⟩) (Ext.refl _ _) (q6 i c hi) fun k hck=>by
      have:=hhas k;rw[show (AO.cells cs).has k=AV.hasL k cs from rfl,AV.hasL_of hi hck]at this;cases this
   | row e mu size elems=>
    cases hro with
    | nil q1=>exact .nil (hl.trans q1)
    | row q1 q2 q3 q4 q5 q6 q7 q8 q9=>exact .row (hl.trans q1) q2 q3 q4 q5 q6 q7 q8 q9
   | opq t n Q=>
    cases hro with
    | opq q1 q2 q3 q4 q5=>exact .opq (hl.trans q1) q2 q3 q4 q5
   | _=>cases hob
  refine relO_ren (g:=g) (g' :=⟨g.w,g.u,fun k=>if k=r' then g.loc r else g.loc k⟩) rfl rfl hl hk (h.so.obj o ob2 h3) h1 ?_;cases hh:ob2.has r' with
  | false=>rfl
  | true=>rw[Sto.has_get h3 hh]at hs;cases hs
 .intro o o' ob1 ob2 b q1 q2 q3 q4;rcases hget o ob1 q1 with ⟨rfl,rfl⟩ | ⟨h1,h2,ob3,h3,rfl⟩ <;> rcases hget o' ob2 q2 with ⟨rfl,rfl⟩ | ⟨h1',h2',ob4,h4,rfl⟩
  .rfl
  .rw[AO.own_ren]at q4;simp only[if_true]at q3;simp only[if_neg h1']at q4;exact absurd (h.so.apart r o' _ _ b hr h4 q3 q4) (Ne.symm h2')
  .rw[AO.own_ren]at q3;simp only[if_neg h1]at q3;simp only[if_true]at q4;exact absurd (h.so.apart o r _ _ b h3 hr q3 q4) h2
  rw[AO.own_ren]at q3 q4;simp only[if_neg h1]at q3;simp only[if_neg h1']at q4;exact h.so.apart o o' _ _ b h3 h4 q3 q4
 intro o ob1 b q1 q2;rcases hget o ob1 q1 with ⟨rfl,rfl⟩ | ⟨h1,h2,ob3,h3,rfl⟩
 .simp only[if_true]at q2;exact h.so.mine r _ b hr q2
 rw[AO.own_ren]at q2;simp only[if_neg h1]at q2;exact h.so.mine o _ b h3 q2
theorem JDa{ops:Array Oper}{ol:List Oper}(r r' :Nat){ob:AO}(hr:σ.get r=some ob)(hne:Nat.beq r r' =false)(hf:fr.has r' =false)(hs:σ.has r' =false)(hg:σ.get r' =none)(hob:ob.okS []=true)
 (h:AWPL E ops ol (fr.ren r r') ((r',ob)::(σ.del r).ren r r') K):AWPL E ops ol fr σ K:=
 ⟨fun g a hst=>h.go ⟨g.w,g.u,fun k=>if k=r' then g.loc r else g.loc k⟩ a (hst.ren hr hne hf hs hg hob)⟩
theorem WLa{c:Code}(r r' :Nat){ob:AO}(hr:σ.get r=some ob)(hne:Nat.beq r r' =false)(hf:fr.has r' =false)(hs:σ.has r' =false)(hg:σ.get r' =none)(hob:ob.okS []=true)
 (h:AWP E c (fr.ren r r') ((r',ob)::(σ.del r).ren r r') K):AWP E c fr σ K:=
 ⟨fun g a hst=>h.go ⟨g.w,g.u,fun k=>if k=r' then g.loc r else g.loc k⟩ a (hst.ren hr hne hf hs hg hob)⟩
section
variable {α:Type} {F:α->List PV} {r' :List α} {size bytes sb ss k lim:Nat} {e t:TypeId} {zero sz:Value} {d:TypeDesc} {x:Operand} {n:Int} {z:α}
end
theorem rfS{P:Program}{f:FuncId}{fn:Func}{c:Code}{args:List AV}{r:AV}{σ0 σ1:Sto}{O H:Nat}{rows:List Nat}(hc:AV)(hok:FnOk P f fn c)(hN:Nat.ble args.length fn.ntmps=true)(hr:∀k,r.has k=true->k∈rows)(h0:(hc=.ptr O 0/\args[0]? =some (.ptr O 0))∨(hc=.any/\Sto.get σ1 O=none))
 (k0:σ0.okS O rows=true) (k1:σ1.okS O rows=true) (hH:Sto.get σ0 H=none) (hH1:Sto.get σ1 H=none)
 (h:∀g0 (hg:Gl g0) (S:Nat->Prop) (sg:∀k,GlB k->¬S k) (T:Array Value),(GS.code c (kqa 0 args) ((H,.hold hc (T.getD 0 undef))::σ0) (.base (zrb P fn r hc H T σ1) vpb)).holds ⟨P,none,g0,fn.ntmps,false,hg,S,sg⟩):RunS P f args σ0 r σ1 O rows:=kQb hok hN hr h0 k0 k1 hH hH1 h
theorem krS{P:Program}{T:Tab}{Tm:Array Value}(hT:zEa P T){e:Exit}{fn:Func}{cs:List AV}{r hc:AV}{H:Nat}{σ1:Sto}{hm:Mono (zrb P fn r hc H Tm σ1)}(he:isN e=true∨e=.ret)(h:Qva T fr σ fn.results.toList=some cs)(hr:Wwa cs=r)(hs:z5a σ ((H,.hold hc (Tm.getD 0 undef))::σ1)):
 (GS.at e fr σ (.base (zrb P fn r hc H Tm σ1) hm)).holds E:=⟨by cases e <;> simp_all [isN],⟨cs,jIa hT h,hr⟩,hs⟩
def AV.okR(rows:List Nat):AV->Bool
 | .agg l=>l.all (AV.okS rows)
 | .ifc _=>true
 | c=>c.okS rows
def AV.okT(rows:List Nat):AV->Bool
 | .tup l=>l.all (AV.okR rows)
 | c=>c.okR rows
theorem AV.okR_has{rows:List Nat}{c:AV}(h:c.okR rows=true){k:Nat}(hk:c.has k=true):k∈rows:=by
 unfold AV.okR at h;split at h
 .obtain ⟨c',hc,hk'⟩:=AV.hasL_mem hk;exact AV.okS_has (jAn.1 h c' hc) hk'
 .simp[AV.has]at hk
 exact AV.okS_has h hk
theorem hasT{rows:List Nat}{c:AV}(h:c.okT rows=true):∀k,c.has k=true->k∈rows:=by
 intro k hk;unfold AV.okT at h;split at h
 .obtain ⟨c',hc,hk'⟩:=AV.hasL_mem hk;exact AV.okR_has (jAn.1 h c' hc) hk'
 exact AV.okR_has h hk
end
section
open Go.RowKit Go.Lib Go.Proofs.Tryz
variable {E:Env} {fr:Fr} {σ:Sto} {K:Post}
def purF:List Oper->List (Option AV)->List Bool->Fr
 | o::l,some c::cs,b::D=>(match o.dst with | some d=>[(d,bif b then c else .any)] | none=>[])++purF l cs D
 | _::l,none::cs,_::D=>purF l cs D
 | _,_,_=>[]
def yba(l:List Oper)(cs:List (Option AV))(i:Nat):Option Nat:=match cs[i]? with
 | some (some _)=>(l[i]?).bind (·.dst)
 | _=>none
theorem ksa:∀(l:List Oper) (cs:List (Option AV)) (D:List Bool) (d:Nat),(∀i,yba l cs i≠some d)->(purF l cs D++fr).get d=fr.get d
 | [],_,_,_,_=>rfl
 | _::_,[],_,_,_=>rfl
 | _::_,some _::_,[],_,_=>rfl
 | _::_,none::_,[],_,_=>rfl
 | o::l,none::cs,b::D,d,h=>ksa l cs D d fun i=>h (i+1)
 | o::l,some c::cs,b::D,d,h=>by
  have ih:=ksa l cs D d fun i=>h (i+1)
  have h0:o.dst≠some d:=h 0;unfold purF;cases hd:o.dst with
  | none=>exact ih
  | some d' =>
   show Fr.get ((d',_)::(purF l cs D++fr)) d=_;rw[Fr.get_cons,if_neg (fun e=>h0 (by grind))];exact ih
theorem k4a:∀(l:List Oper) (cs:List (Option AV)) (D:List Bool) (i:Nat) (c:AV) (d:Nat),(∀i j d,yba l cs i=some d->yba l cs j=some d->i=j)->l.length<=D.length->yba l cs i=some d->cs[i]? =some (some c)->(purF l cs D++fr).get d=bif D.getD i false then c else .any
 | [],_,_,i,_,_,_,_,h,hc=>by unfold yba at h;simp_all
 | _::_,[],_,i,_,_,_,_,h,hc=>by grind
 | _::_,_::_,[],_,_,_,_,hl,_,_=>by grind
 | o::l,none::cs,b::D,0,c,d,_,_,h,hc=>by grind
 | o::l,none::cs,b::D,i+1,c,d,hd,hl,h,hc=>by
  have:=k4a l cs D i c d (fun i j d h1 h2=>by have:=hd (i+1) (j+1) d h1 h2;omega) (by simp_all) h (by simp_all);simpa[purF]using this
 | o::l,some c0::cs,b::D,0,c,d,hd,hl,h,hc=>by
  simp at hc;subst hc;have h0:o.dst=some d:=h;unfold purF;rw[h0];show Fr.get ((d,_)::(purF l cs D++fr)) d=_;rw[Fr.get_cons,if_pos rfl];rfl
 | o::l,some c0::cs,b::D,i+1,c,d,hd,hl,h,hc=>by
  have ih:=k4a l cs D i c d (fun i j d h1 h2=>by have:=hd (i+1) (j+1) d h1 h2;omega) (by simp_all) h (by simp_all);unfold purF;cases h0:o.dst with
  | none=>simp_all
  | some d' =>
   show Fr.get ((d',_)::(purF l cs D++fr)) d=_;rw[Fr.get_cons,if_neg (fun e=>by
    have:=hd 0 (i+1) d (by show o.dst=some d;grind) h;omega)]
   simp_all
theorem Fr.has_append(q:Nat):∀(x y:Fr),Fr.has q (x++y)=(Fr.has q x || Fr.has q y)
 | [],y=>by simp[Fr.has]
 | (k,a)::x,y=>by simp[Fr.has,Fr.has_append q x y,Bool.or_assoc]
theorem JEa(q:Nat):∀(l:List Oper) (cs:List (Option AV)) (D T:List Bool),T=List.replicate D.length true->Fr.has q (purF l cs D)=true->Fr.has q (purF l cs T)=true
 | [],_,_,_,_,h=>by simp[purF,Fr.has]at h
 | _::_,[],_,_,_,h=>by simp[purF,Fr.has]at h
 | _::_,some _::_,[],_,_,h=>by simp_all
 | _::_,none::_,[],_,_,h=>by simp_all
 | o::l,none::cs,b::D,T,hT,h=>by
  subst hT;exact JEa q l cs D _ rfl (by simpa[purF]using h)
 | o::l,some c::cs,b::D,T,hT,h=>by
  subst hT;have ih:=JEa q l cs D _ rfl;unfold purF at h ⊢;simp only[List.length_cons,List.replicate_succ]at h ⊢;cases h0:o.dst with
  | none=>simp_all
  | some d=>
   rw[h0]at h;simp only[Fr.has_append,Fr.has,Bool.or_false,jBh,cond_true]at h ⊢;rcases h with h | h
   .refine .inl ?_;cases b with
    | true=>exact h
    | false=>simp[AV.has]at h
   simp_all
structure HvS (E:Env) (o:Oper) (FR:Fr) (σ σ' :Sto):Prop where
 go:∀fr,(∀x∈o.op.operands,fr.ev x=FR.ev x)->(∀q,FR.has q=false->fr.has q=false)->OpTo E o fr σ fr σ'
structure HvD (E:Env) (o:Oper) (FR:Fr) (σ:Sto) (k:Nat) (c:AV) (rs:List Nat) (σ' :Sto):Prop where
 go:∀fr,(∀x∈o.op.operands,fr.ev x=FR.ev x)->(∀q,FR.has q=false->fr.has q=false)->OpTo E o fr σ ((k,c)::fr.clrs rs) σ'
structure HvP (E:Env) (o:Oper) (FR:Fr) (σ:Sto) (rs:List Nat) (σ' :Sto):Prop where
 go:∀fr,(∀x∈o.op.operands,fr.ev x=FR.ev x)->(∀q,FR.has q=false->fr.has q=false)->OpTo E o fr σ (fr.clrs rs) σ'
def allT(l:List Oper):List Bool:=List.replicate l.length true
def qDb(cs:List (Option AV))(rs:List Nat):Bool:=cs.all fun c=>match c with | some c=>rs.all fun r=> !c.has r | none=>true
inductive kSb (E:Env) (l:List Oper) (cs:List (Option AV)) (all:List Node) (H:List Bool) (fr:Fr) (σ:Sto) (i:Nat):Prop
 | pure {o:Oper} {c:AV} (ho:l[i]? =some o) (hc:cs[i]? =some (some c)) (h:OpG E o (purF l cs (allT l)++fr) σ c)
 | sto {o:Oper} {σ' σ2:Sto} {fr2:Fr} (j:Nat) (ho:l[i]? =some o) (hc:cs[i]? =some none) (h:HvS E o (purF l cs (allT l)++fr) σ σ') (hn:all[j]? =some (H.set i true,fr2,σ2)) (hf:FrLe fr fr2) (hs:z5a σ' σ2)
 | dst {o:Oper} {k:Nat} {c:AV} {rs:List Nat} {σ' σ2:Sto} {fr2:Fr} (j:Nat) (ho:l[i]? =some o) (hc:cs[i]? =some none) (hk:((List.range l.length).all fun i=>yba l cs i !=some k)=true) (hrs:qDb cs rs=true)
  (h:HvD E o (purF l cs (allT l)++fr) σ k c rs σ') (hn:all[j]? =some (H.set i true,fr2,σ2)) (hf:FrLe ((k,c)::fr.clrs rs) fr2) (hs:z5a σ' σ2)
 | put {o:Oper} {rs:List Nat} {σ' σ2:Sto} {fr2:Fr} (j:Nat) (ho:l[i]? =some o) (hc:cs[i]? =some none) (hrs:qDb cs rs=true)
  (h:HvP E o (purF l cs (allT l)++fr) σ rs σ') (hn:all[j]? =some (H.set i true,fr2,σ2)) (hf:FrLe (fr.clrs rs) fr2) (hs:z5a σ' σ2)
inductive vga (E:Env) (l:List Oper) (cs:List (Option AV)) (all:List Node) (H:List Bool) (fr:Fr) (σ:Sto):List Nat->Prop
 | nil:vga E l cs all H fr σ []
 | cons {i:Nat} {is:List Nat} (h:kSb E l cs all H fr σ i) (r:vga E l cs all H fr σ is):vga E l cs all H fr σ (i::is)
def isHv(cs:List (Option AV))(i:Nat):Bool:=match cs[i]? with | some none=>true | _=>false
def mayL(l:List Oper)(cs:List (Option AV))(H:List Bool):List Nat:=(List.range l.length).filter fun i=>
 !(H.getD i false) && (List.range l.length).all fun j=> !(isHv cs j) || ((!(((wba l l.length).getD i 0).testBit j) || H.getD j false) && (!(H.getD j false) || !(((wba l l.length).getD j 0).testBit i)))
inductive JFa (E:Env) (l:List Oper) (cs:List (Option AV)) (K:Post) (all:List Node):Node->Prop
 | full {H:List Bool} {fr:Fr} {σ:Sto} (is:List Nat) (hD:mayL l cs H=is) (hs:vga E l cs all H fr σ is) {frJ:Fr} {σJ:Sto} (hf:FrLe (purF l cs (allT l)++fr) frJ) (hso:z5a σ σJ) (h:K .normal frJ σJ):JFa E l cs K all (H,fr,σ)
 | step {H:List Bool} {fr:Fr} {σ:Sto} (is:List Nat) (hD:mayL l cs H=is) (hn:((List.range l.length).all fun i=> !(isHv cs i) || H.getD i false)=false) (hs:vga E l cs all H fr σ is):JFa E l cs K all (H,fr,σ)
inductive Zma (E:Env) (l:List Oper) (cs:List (Option AV)) (K:Post) (all:List Node):List Node->Prop
 | nil:Zma E l cs K all []
 | cons {nd:Node} {r:List Node} (h:JFa E l cs K all nd) (hr:Zma E l cs K all r):Zma E l cs K all (nd::r)
theorem vga.get{l:List Oper}{cs:List (Option AV)}{all:List Node}{H:List Bool}{is:List Nat}(h:vga E l cs all H fr σ is){i:Nat}(hi:i∈is):kSb E l cs all H fr σ i:=by
 induction h with
 | nil=>cases hi
 | cons h _ ih=>
  grind
theorem Zma.get{l:List Oper}{cs:List (Option AV)}{all r:List Node}(h:Zma E l cs K all r){nd:Node}(hi:nd∈r):JFa E l cs K all nd:=by
 induction h with
 | nil=>cases hi
 | cons h _ ih=>
  grind
def qEb(N:Nat)(l:List Oper)(cs:List (Option AV)):Bool:=
 vSa .any l.toArray && Nat.beq cs.length l.length && (l.all fun o=>o.guard.isNone) &&
 (l.all fun o=>o.dst.all fun d=>Nat.ble (d+1) N) &&
 ((List.range l.length).all fun i=>isHv cs i || (yba l cs i).isSome) &&
 ((List.range l.length).all fun i=>(List.range l.length).all fun j=>Nat.beq i j || (yba l cs i).isNone || yba l cs i !=yba l cs j) &&
 (l.all fun o=>(VOa o).all fun t=>(List.range l.length).all fun j=>yba l cs j !=some t || qna o j)
theorem Zna{rs:List Nat}{c:AV}(h:(rs.all fun r=> !c.has r)=true):c.clrs rs=c:=by
 unfold AV.clrs
 grind
theorem YLa{id:Nat}{l:List Oper}(cs:List (Option AV))(all:List Node){H0:List Bool}{fr0:Fr}{σ0:Sto}(hmix:E.P.follows .mixedOrders=true)(hok:qEb E.N l cs=true)(h0:all[0]? =some (H0,fr0,σ0))(hH0:H0=List.replicate l.length false)
 (hf:FrLe fr fr0) (hs:z5a σ σ0) (h:Zma E l cs K all all):AWP E (.region id l.toArray true) fr σ K:=by
 simp only[qEb,jAo,jAn]at hok;obtain ⟨⟨⟨⟨⟨⟨hlb,hlen⟩,hgd⟩,hN⟩,hall⟩,hdist⟩,hdat⟩:=hok;have hlen:=jAi hlen;have hdl:∀i d,yba l cs i=some d->i < l.length:=by
  intro i d hd;rcases jAu i l.length with h1 | h1
  .exact h1
  unfold yba at hd;rw[jCm (by omega)]at hd;cases hd
 have hdist' :∀i j d,yba l cs i=some d->yba l cs j=some d->i=j:=by
  intro i j d h1 h2;have:=hdist i (by simpa using hdl i d h1) j (by simpa using hdl j d h2);simp only[jBh,bne_iff_ne,ne_eq]at this;rcases this with (h3 | h3) | h3
  .exact jAi h3
  .rw[h1]at h3;cases h3
  exact absurd (h1.trans h2.symm) h3
 have hdirD:∀{D:Nat->Bool} {o:Oper} {j:Nat},(∀e∈o.after,Region.binds .any e=true->D e.on=true)->qna o j=true->D j=true:=by
  intro D o j he hd;simp only[qna,List.any_eq_true,jAo]at hd;obtain ⟨e,h1,h2,h3⟩:=hd;rw[<-jAi h3];exact he e (by simpa using h1) h2
 let bits:(Nat->Bool)->List Bool:=fun D=>(List.range l.length).map D
 have hbl:∀D,(bits D).length=l.length:=fun D=>by simp[bits]
 have hbg:∀D i,i < l.length->(bits D).getD i false=D i:=fun D i hi=>by simp[bits,jAl,hi]
 have hTl:(allT l).length=l.length:=by simp[allT]
 have hTg:∀i,i < l.length->(allT l).getD i false=true:=fun i hi=>by simp[allT,jAl,hi]
 have hslot:∀d,(∃i c,yba l cs i=some d/\cs[i]? =some (some c)/\i < l.length)∨(∀i,yba l cs i≠some d):=by
  intro d;by_cases hex:∃i,yba l cs i=some d
  .obtain ⟨i,hi⟩:=hex;refine .inl ⟨i,?_⟩;have hil:=hdl i d hi;cases hc:cs[i]? with
   | none=>unfold yba at hi;rw[hc]at hi;cases hi
   | some x=>
    cases x with
    | none=>unfold yba at hi;rw[hc]at hi;cases hi
    | some c=>exact ⟨c,hi,rfl,hil⟩
  exact .inr fun i hi=>hex ⟨i,hi⟩
 have hev:∀(D:Nat->Bool) (o:Oper) (frA:Fr),o∈l->(∀e∈o.after,Region.binds .any e=true->D e.on=true)->∀x∈o.op.operands,(purF l cs (bits D)++frA).ev x=(purF l cs (allT l)++frA).ev x:=by
  intro D o frA hm he x hx;cases x with
  | const v=>rfl
  | global q=>rfl
  | func f=>rfl
  | tmp t=>
   show (purF l cs (bits D)++frA).get t=(purF l cs (allT l)++frA).get t;rcases hslot t with ⟨i,c,h1,h2,h3⟩ | h1
   .rw[k4a l cs (bits D) i c t hdist' (by rw[hbl];omega) h1 h2,k4a l cs (allT l) i c t hdist' (by rw[hTl];omega) h1 h2,hbg D i h3,hTg i h3];have:=hdat o hm t (by simp only[VOa,jCl];exact ⟨.tmp t,by simpa using hx,rfl⟩) i (by simpa using h3);simp only[jBh,bne_iff_ne,ne_eq]at this;rcases this with h4 | h4
    .exact absurd h1 h4
    rw[hdirD he h4]
   rw[ksa l cs _ t h1,ksa l cs _ t h1]
 have hhas:∀(D:Nat->Bool) (frA:Fr) q,(purF l cs (allT l)++frA).has q=false->(purF l cs (bits D)++frA).has q=false:=by
  intro D frA q hq;rw[Fr.has_append,Bool.or_eq_false_iff]at hq ⊢;refine ⟨?_,hq.2⟩;cases hb:Fr.has q (purF l cs (bits D)) with
  | false=>rfl
  | true=>
   have:=JEa q l cs (bits D) (allT l) (by rw[hbl];rfl) hb;rw[this]at hq;cases hq.1
 let J:(Nat->Bool)->Act->World->Prop:=fun D a w=>(∀i o,l[i]? =some o->D i=true->∀e∈o.after,Region.binds .any e=true->D e.on=true)/\
  ∃nd∈all,nd.1.length=l.length/\(∀i,i < l.length->isHv cs i=true->D i=nd.1.getD i false)/\(∀i,i < l.length->isHv cs i=false->nd.1.getD i false=false)/\∃g,g.w=w/\St E g a (purF l cs (bits D)++nd.2.1) nd.2.2
 refine ⟨fun g a hst=>vTa hmix hlb J ?_ ?_ ?_⟩
 .refine ⟨fun i o _ hd=>by simp at hd,_,jAg h0,by subst hH0;simp,fun i hi _=>by subst hH0;simp[jAl,hi],fun i hi _=>by subst hH0;simp[jAl,hi],⟨g.w.drew,g.u,g.loc⟩,rfl,(hst.le (fun d=>?_) hs).drew⟩;rcases hslot d with ⟨i,c,h1,h2,h3⟩ | h1
  .rw[k4a l cs _ i c d hdist' (by rw[hbl];omega) h1 h2,hbg _ i h3];exact .inl rfl
  rw[ksa l cs _ d h1];exact hf d
 .rintro D a w ⟨_,⟨H,frA,σA⟩,hm,hl,hD,_,g,rfl,hst'⟩ hfin;have hfin' :∀i,i < l.length->D i=true:=fun i hi=>hfin i (by simpa using hi)
  cases h.get hm with
  | full is _ _ hfJ hsJ hk=>
   refine ⟨g,_,_,rfl,St.le ?_ hfJ hsJ,hk⟩;have:bits D=allT l:=by
    apply List.ext_getElem (by rw[hbl,hTl]);intro i h1 h2;have hi:i < l.length:=by rw[hbl]at h1;exact h1
    simp[bits,allT,hfin' i hi]
   rw[<-this];exact hst'
  | step is _ hn _=>
   exfalso;have:((List.range l.length).all fun i=> !(isHv cs i) || H.getD i false)=true:=by
    rw[jAn];intro i hi;have hi:i < l.length:=by simpa using hi
    cases hh:isHv cs i with
    | false=>rfl
    | true=>rw[<-hD i hi hh,hfin' i hi];rfl
   rw[this]at hn;cases hn
 rintro D a w i o ⟨hcl,⟨H,frA,σA⟩,hm,hl,hD,hD0,g,rfl,hst'⟩ ho hDi he;have ho' :l[i]? =some o:=by simpa using ho
 have hil:i < l.length:=(jAc.1 ho').1;have hom:o∈l:=jAg ho';have hgo:o.guard=none:=by simpa using hgd o hom
 have hcl' :∀i' o',l[i']? =some o' ->upd D i i' =true->∀e∈o'.after,Region.binds .any e=true->upd D i e.on=true:=by
  intro i' o' h1 h2 e h3 h4;unfold upd at h2 ⊢;split
  .rfl
  split at h2
  .rename_i hii;subst hii;rw[ho']at h1;cases h1;exact he e h3 h4
  exact hcl i' o' h1 h2 e h3 h4
 have hmay:i∈mayL l cs H:=by
  simp only[mayL,List.mem_filter,jCh,jAo,jBp,jAn,jBh];refine ⟨hil,?_,fun j hj=>?_⟩
  .cases hh:isHv cs i with
   | true=>rw[<-hD i hil hh];exact hDi
   | false=>exact hD0 i hil hh
  cases hh:isHv cs j with
  | false=>exact .inl rfl
  | true=>
   refine .inr ⟨?_,?_⟩
   .cases hb:((wba l l.length).getD i 0).testBit j with
    | false=>exact .inl rfl
    | true=>exact .inr (by rw[<-hD j hj hh];exact yka hcl l.length i o ho' he j hb)
   cases hHj:H.getD j false with
   | false=>exact .inl rfl
   | true=>
    refine .inr ?_;cases hb:((wba l l.length).getD j 0).testBit i with
    | false=>rfl
    | true=>
     have:=Zga hcl l.length j i hb (by rw[hD j hj hh];exact hHj);rw[hDi]at this;cases this
 have hstep:kSb E l cs all H frA σA i:=by
  cases h.get hm with
  | full is hD2 hs _ _ _=>exact (hD2▸hs:vga E l cs all H frA σA (mayL l cs H)).get hmay
  | step is hD2 _ hs=>exact (hD2▸hs:vga E l cs all H frA σA (mayL l cs H)).get hmay
 have hw:Region.wanted o (yielded l.toArray a.tmps)=true:=by simp[Region.wanted,hgo]
 have hheavy:∀(_:cs[i]? =some none),(∀k,k < l.length->isHv cs k=true->upd D i k=(H.set i true).getD k false)/\(∀k,k < l.length->isHv cs k=false->(H.set i true).getD k false=false)/\∀frX d,(purF l cs (bits (upd D i))++frX).get d=(purF l cs (bits D)++frX).get d:=by
  intro hc;have hhv:isHv cs i=true:=by unfold isHv;rw[hc]
  refine ⟨fun k hk hh=>?_,fun k hk hh=>?_,fun frX d=>?_⟩
  .unfold upd;simp only[jAl,jCo];by_cases hki:k=i
   .subst hki;simp[hl,hk]
   rw[if_neg hki,if_neg (Ne.symm hki),<-jAl];exact hD k hk hh
  .have hki:k≠i:=by rintro rfl;rw[hhv]at hh;cases hh
   simp only[jAl,jCo];rw[if_neg (Ne.symm hki),<-jAl];exact hD0 k hk hh
  rcases hslot d with ⟨j,c,h1,h2,h3⟩ | h1
  .rw[k4a l cs _ j c d hdist' (by rw[hbl];omega) h1 h2,k4a l cs _ j c d hdist' (by rw[hbl];omega) h1 h2,hbg _ j h3,hbg _ j h3];have hji:j≠i:=by rintro rfl;rw[hc]at h2;cases h2
   unfold upd;rw[if_neg hji]
  rw[ksa l cs _ d h1,ksa l cs _ d h1]
 unfold wpOpIn;rw[ho];simp only[hw,if_true];cases hstep with
 | @pure o2 c ho2 hc hop=>
  rw[ho']at ho2;cases ho2;have hhv:isHv cs i=false:=by unfold isHv;rw[hc]
  have hops:∀x∈o.op.operands,Rel g ((purF l cs (allT l)++frA).ev x) (a.eval x):=fun x hx=>by
   rw[<-hev D o frA hom he x hx];exact hst'.ev x
  obtain ⟨d,hd⟩:∃d,yba l cs i=some d:=by
   have:=hall i (by simpa using hil);rw[hhv]at this;simpa[Option.isSome_iff_exists]using this
  have hod:o.dst=some d:=by
   unfold yba at hd;rw[hc,ho']at hd;simpa using hd
  refine hop.go g a _ _ hops hst'.so fun g' v h1 h2 h3 h4=>⟨hcl',(H,frA,σA),hm,hl,fun k hk hh=>?_,hD0,g',rfl,?_⟩
  .have hki:k≠i:=by rintro rfl;rw[hhv]at hh;cases hh
   unfold upd;rw[if_neg hki];exact hD k hk hh
  have hdN:d < E.N:=by
   have:=hN o hom;rw[hod]at this;exact jAe (by simpa using this)
  have hsz:=hst'.n;refine ⟨fun d' =>?_,by rw[hod];simp[Act.put,hsz],by rw[hod];exact hst'.df.mono h1.ext,hst'.so.grow h1 h2 (fun k _=>by rw[h3])⟩;have hget:(a.put o.dst v).tmps.getD d' undef=if d=d' then v else a.tmps.getD d' undef:=by
   rw[hod];simp only[Act.put];rw[kZa];by_cases h5:d=d'
   .rw[if_pos ⟨h5,by omega⟩,if_pos h5]
   rw[if_neg (fun x=>h5 x.1),if_neg h5]
  rw[hget];by_cases h5:d=d'
  .subst h5;rw[if_pos rfl,k4a l cs _ i c d hdist' (by rw[hbl];omega) hd hc,hbg _ i hil];have:upd D i i=true:=by unfold upd;rw[if_pos rfl]
   rw[this];exact h4
  rw[if_neg h5];have hsame:(purF l cs (bits (upd D i))++frA).get d' =(purF l cs (bits D)++frA).get d' :=by
   rcases hslot d' with ⟨j,c',q1,q2,q3⟩ | q1
   .rw[k4a l cs _ j c' d' hdist' (by rw[hbl];omega) q1 q2,k4a l cs _ j c' d' hdist' (by rw[hbl];omega) q1 q2,hbg _ j q3,hbg _ j q3];have hji:j≠i:=by rintro rfl;rw[hd]at q1;cases q1;exact h5 rfl
    unfold upd;rw[if_neg hji]
   rw[ksa l cs _ d' q1,ksa l cs _ d' q1]
  rw[hsame];exact (hst'.fr d').mono h1.ext (fun k _=>by rw[h3])
 | @sto o2 σ' σ2 fr2 j ho2 hc hop hn hf2 hs2=>
  rw[ho']at ho2;cases ho2;obtain ⟨q1,q2,q3⟩:=hheavy hc;refine (hop.go _ (hev D o frA hom he) (hhas D frA)).go g a _ _ hst' fun g' a' hst2=>⟨hcl',_,jAg hn,by simp[hl],q1,q2,g',rfl,hst2.le (fun d=>?_) hs2⟩
  rw[q3];rcases hslot d with ⟨k,c,h1,h2,h3⟩ | h1
  .rw[k4a l cs _ k c d hdist' (by rw[hbl];omega) h1 h2,k4a l cs _ k c d hdist' (by rw[hbl];omega) h1 h2];exact .inr (.inl rfl)
  rw[ksa l cs _ d h1,ksa l cs _ d h1];exact hf2 d
 | @dst o2 k c rs σ' σ2 fr2 j ho2 hc hk hrs hop hn hf2 hs2=>
  rw[ho']at ho2;cases ho2;obtain ⟨q1,q2,q3⟩:=hheavy hc;refine (hop.go _ (hev D o frA hom he) (hhas D frA)).go g a _ _ hst' fun g' a' hst2=>⟨hcl',_,jAg hn,by simp[hl],q1,q2,g',rfl,hst2.le (fun d=>?_) hs2⟩
  rw[q3];rcases hslot d with ⟨m,c',h1,h2,h3⟩ | h1
  .have hkd:k≠d:=by
    rintro rfl;have:=jAn.1 hk m (by simpa using h3);simp[h1]at this
   rw[Fr.get_cons,if_neg hkd,Fr.get_clrs,k4a l cs _ m c' d hdist' (by rw[hbl];omega) h1 h2,k4a l cs _ m c' d hdist' (by rw[hbl];omega) h1 h2];refine .inr (.inl ?_);cases (bits D).getD m false with
   | false=>exact Zna (by rw[jAn];intro r _;rfl)
   | true=>
    refine Zna ?_;have:=jAn.1 hrs _ (jAg h2);exact this
  have:=hf2 d;rw[Fr.get_cons,Fr.get_clrs]at this ⊢;rw[ksa l cs _ d h1,ksa l cs _ d h1];exact this
 | @put o2 rs σ' σ2 fr2 j ho2 hc hrs hop hn hf2 hs2=>
  rw[ho']at ho2;cases ho2;obtain ⟨q1,q2,q3⟩:=hheavy hc;refine (hop.go _ (hev D o frA hom he) (hhas D frA)).go g a _ _ hst' fun g' a' hst2=>⟨hcl',_,jAg hn,by simp[hl],q1,q2,g',rfl,hst2.le (fun d=>?_) hs2⟩
  rw[q3];rcases hslot d with ⟨m,c',h1,h2,h3⟩ | h1
  .rw[Fr.get_clrs,k4a l cs _ m c' d hdist' (by rw[hbl];omega) h1 h2,k4a l cs _ m c' d hdist' (by rw[hbl];omega) h1 h2];refine .inr (.inl ?_);cases (bits D).getD m false with
   | false=>exact Zna (by rw[jAn];intro r _;rfl)
   | true=>
    refine Zna ?_;have:=jAn.1 hrs _ (jAg h2);exact this
  have:=hf2 d;rw[Fr.get_clrs]at this ⊢;rw[ksa l cs _ d h1,ksa l cs _ d h1];exact this
section
variable {FR:Fr} {ty:TypeId} {pos:String} {af:Array Edge} {gu:Option (Nat × Bool)} {T:Tab} {P:Program} {id k r size bytes:Nat} {e t:TypeId} {zero:Value} {d:TypeDesc}
theorem mqz{o:Oper}{c:AV}(hT:zEa E.P T)(h:qval T FR.ev σ o.op=some c):OpG E o FR σ c:=kaa (Zka hT h)
theorem wMb{o:Oper}{fr' fr2:Fr}{σ' σ2:Sto}(h:OpTo E o fr σ fr' σ')(hf:FrLe fr' fr2)(hs:z5a σ' σ2):OpTo E o fr σ fr2 σ2:=
 ⟨fun g a K Q hst hK=>h.go g a K Q hst fun g' a' h' =>hK g' a' (h'.le hf hs)⟩
theorem qoa:z5a σ σ:=fun _ _ h=>.inl h
theorem vqb{c:AV}:FrLe ((k,c)::fr) ((k,c)::fr.clrs []):=fun d=>by
 rw[Fr.get_cons,Fr.get_cons,Fr.get_clrs,Zna rfl];exact .inr (.inl rfl)
theorem vrb{c:AV}:FrLe ((k,c)::fr.clr r) ((k,c)::fr.clrs [r]):=fun d=>by
 rw[Fr.get_cons,Fr.get_cons,Fr.get_clrs,Fr.get_clr];refine .inr (.inl ?_);split
 .rfl
 simp[AV.clr,AV.clrs]
theorem zub{α:Type}{F:α->List PV}{l xs r' :List α}{lim sb ss:Nat}{nl:Option Bool}{x y:Operand}{mu:Bool}{sz:Value}(hN:Nat.ble (k+1) E.N=true)(hx:FR.ev x=.hs r 0)(hr:σ.get r=some (.row e mu size (l.map F)))(hy:FR.ev y=.pv (.sl nl (xs.map F)))(ht:TyOk E.P t ss sb sz (.slice e))(he:TyOk E.P e size bytes zero d)
 (hzz:Nat.beq zero.cells.size size=true) (hs:Nat.ble 1 size=true) (hF:∀x,(F x).length=size) (hlim:(Nat.ble (lim * bytes) 140737488355328 && Nat.ble lim 9223372036854775807)=true) (h:app lim l xs=some r'):
 HvD E ⟨some k,.call ⟨.builtin .append, #[x,y], #[t,t]⟩,ty,pos,af,gu⟩ FR σ k (.hs r 0) [r] ((σ.clr r).upd r (.row e mu size (r'.map F))):=
 ⟨fun fr hE _=>wMb (Wza hN ((hE x (by simp[Op.operands,Call.operands])).trans hx) hr ((hE y (by simp[Op.operands,Call.operands])).trans hy) ht he hzz hs hF hlim h) vrb qoa⟩
end
end
section
section
variable {P:Program} {ρ:Operand->AV} {σ:Sto} {dst:Option Tmp} {ty:TypeId} {pos:String} {af:Array Edge} {gu:Option (Nat × Bool)} {x y:Operand} {t t' :TypeId} {ss sb ss' sb' :Nat} {sz sz' :Value} {a b n:Int}
end
end
structure zma where
 Code:Int
 Index:Int
def zma.pc(x:zma):List PV:=[pI x.Code,pI x.Index]
structure yRa where
 Address:Str
 To:List Str
def yRa.pc(x:yRa):List PV:=[pS x.Address,pL cS x.To]
structure zqa where
 Address:Str
 Notify:Int
def zqa.pc(x:zqa):List PV:=[pS x.Address,pI x.Notify]
structure qSa where
 From:Str
 To:List zqa
 Id:Str
def qSa.pc(x:qSa):List PV:=[pS x.From,pL zqa.pc x.To,pS x.Id]
structure zca where
 Name:Str
 Value:Str
def zca.pc(x:zca):List PV:=[pS x.Name,pS x.Value]
structure zda where
 Fields:List zca
 Body:List UInt8
def zda.pc(x:zda):List PV:=[pL zca.pc x.Fields,pL cU x.Body]
structure WMa where
 Envelope:qSa
 Message:zda
def WMa.pc(x:WMa):List PV:=[pS x.Envelope.From,pL zqa.pc x.Envelope.To,pS x.Envelope.Id,pL zca.pc x.Message.Fields,pL cU x.Message.Body]
structure jga where
 Year:Int
 Month:Int
 Day:Int
 Hour:Int
 Minute:Int
 Second:Int
 Zone:Int
def jga.pc(x:jga):List PV:=[pI x.Year,pI x.Month,pI x.Day,pI x.Hour,pI x.Minute,pI x.Second,pI x.Zone]
structure yYa where
 Name:Str
 Mail:WMa
 Pipelined:Bool
 Buffer:List UInt8
 Expected:Int
 Whole:Bool
 Done:Bool
 Results:List Int
def yYa.pc(x:yYa):List PV:=[pS x.Name,pS x.Mail.Envelope.From,pL zqa.pc x.Mail.Envelope.To,pS x.Mail.Envelope.Id,pL zca.pc x.Mail.Message.Fields,pL cU x.Mail.Message.Body,pB x.Pipelined,pL cU x.Buffer,pI x.Expected,pB x.Whole,pB x.Done,pL cI x.Results]
structure kca where
 Client:yYa
 content:List UInt8
 chunk:Bool
 out:List UInt8
def kca.pc(x:kca):List PV:=[pS x.Client.Name,pS x.Client.Mail.Envelope.From,pL zqa.pc x.Client.Mail.Envelope.To,pS x.Client.Mail.Envelope.Id,pL zca.pc x.Client.Mail.Message.Fields,pL cU x.Client.Mail.Message.Body,pB x.Client.Pipelined,pL cU x.Client.Buffer,pI x.Client.Expected,pB x.Client.Whole,pB x.Client.Done,pL cI x.Client.Results,pL cU x.content,pB x.chunk,pL cU x.out]
structure zka where
 Fields:List zca
 Body:List UInt8
 Parts:List zka
def zka.pcn:Nat->zka->List PV
 | 0,x=>[pL zca.pc x.Fields,pL cU x.Body,.sl none []]
 | n+1,x=>[pL zca.pc x.Fields,pL cU x.Body,pL (zka.pcn n) x.Parts]
structure qFa where
 part:zka
 depth:Int
structure zoa where
 Name:Str
 Value:Str
def zoa.pc(x:zoa):List PV:=[pS x.Name,pS x.Value]
structure kua where
 Type_:Str
 Sub:Str
 Params:List zoa
def kua.pc(x:kua):List PV:=[pS x.Type_,pS x.Sub,pL zoa.pc x.Params]
structure zea where
 s:Str
def zea.pc(x:zea):List PV:=[pS x.s]
structure zia where
 name:Str
 number:Int
 star:Bool
 value:Str
def zia.pc(x:zia):List PV:=[pS x.name,pI x.number,pB x.star,pS x.value]
structure zfa where
 many:Int
 fault:zma
def zfa.pc(x:zfa):List PV:=[pI x.many,pI x.fault.Code,pI x.fault.Index]
def zN0(x:jga):List AV:=[.i x.Year,.i x.Month,.i x.Day,.i x.Hour,.i x.Minute,.i x.Second,.i x.Zone]
section
open Go.RowKit Go.Lib Go.Proofs.Tryz
variable {E:Env} {fr:Fr} {σ:Sto} {K:Post} {T:Tab} {l:List Oper} {cs:List (Option AV)} {all:List Node} {H:List Bool}
theorem vga.of:∀{is:List Nat},(∀i∈is,kSb E l cs all H fr σ i)->vga E l cs all H fr σ is
 | [],_=>.nil
 | i::is,h=>.cons (h i (by simp)) (vga.of fun j hj=>h j (by simp[hj]))
def JGa(T:Tab)(l:List Oper)(cs:List (Option AV))(fr:Fr)(σ:Sto)(i:Nat):Option AV:=(l[i]?).bind fun o=>qval T (purF l cs (allT l)++fr).ev σ o.op
def Kma(cs:List (Option AV))(i:Nat):Option AV:=(cs[i]?).bind id
def Zoa(l:List Oper)(cs:List (Option AV))(H:List Bool)(is:List Nat):List Nat:=(mayL l cs H).filter fun i=> !is.contains i
theorem ms_all(hT:zEa E.P T)(is:List Nat)(h1:((Zoa l cs H is).map (JGa T l cs fr σ),(Zoa l cs H is).all (fun i=>(Kma cs i).isSome))=((Zoa l cs H is).map (Kma cs),true))(h2:vga E l cs all H fr σ is):vga E l cs all H fr σ (mayL l cs H):=by
 refine vga.of fun i hi=>?_
 by_cases hc:is.contains i=true
 .exact h2.get (by simpa using hc)
 have hm:i∈Zoa l cs H is:=by
  unfold Zoa;rw[List.mem_filter];exact ⟨hi,by simpa using hc⟩
 have e1:=congrArg Prod.fst h1;have e2:=congrArg Prod.snd h1;have hq:JGa T l cs fr σ i=Kma cs i:=List.map_inj_left.1 e1 i hm;have hs:(Kma cs i).isSome=true:=jAn.1 e2 i hm;obtain ⟨c,hcc⟩:=Option.isSome_iff_exists.1 hs;rw[hcc]at hq;obtain ⟨o,ho,hv⟩:=jCs.1 hq;obtain ⟨x,hx,hxc⟩:=jCs.1 hcc;have hxc:x=some c:=hxc;subst hxc;exact .pure ho hx (kaa (Zka hT hv))
theorem mn(hT:zEa E.P T)(is:List Nat)(h1:(((List.range l.length).all fun i=> !(isHv cs i) || H.getD i false),(Zoa l cs H is).map (JGa T l cs fr σ),(Zoa l cs H is).all (fun i=>(Kma cs i).isSome))=(false,(Zoa l cs H is).map (Kma cs),true))(h2:vga E l cs all H fr σ is):JFa E l cs K all (H,fr,σ):=
 .step _ rfl (congrArg Prod.fst h1) (ms_all hT is (congrArg Prod.snd h1) h2)
theorem mf(hT:zEa E.P T)(is:List Nat)(frJ:Fr)(h1:((Zoa l cs H is).map (JGa T l cs fr σ),(Zoa l cs H is).all (fun i=>(Kma cs i).isSome))=((Zoa l cs H is).map (Kma cs),true))(h2:vga E l cs all H fr σ is)(hf:FrLe (purF l cs (allT l)++fr) frJ)(h:K .normal frJ σ):JFa E l cs K all (H,fr,σ):=
 .full _ rfl (ms_all hT is h1 h2) hf qoa h
theorem mdt(j:Nat){i k:Nat}{o:Oper}{c:AV}{rs:List Nat}{σ' :Sto}(ho:l[i]? =some o)(h:HvD E o (purF l cs (allT l)++fr) σ k c rs σ')(e:(((List.range l.length).all fun i=>yba l cs i !=some k),qDb cs rs,cs[i]?,all[j]?)=(true,true,some none,some (H.set i true,(k,c)::fr.clrs rs,σ'))):kSb E l cs all H fr σ i:=
 .dst j ho (congrArg (fun x=>x.2.2.1) e) (congrArg (fun x=>x.1) e) (congrArg (fun x=>x.2.1) e) h (congrArg (fun x=>x.2.2.2) e) kEa qoa
theorem hv_g{o:Oper}{k:Nat}{c:AV}(hk:o.dst=some k)(hN:Nat.ble (k+1) E.N=true)(h:OpG E o fr σ c):HvD E o fr σ k c [] σ:=
 ⟨fun f2 he _=>wMb (wib hk hN ⟨fun g a K Q hx=>h.go g a K Q fun x hm=>by rw[<-he x hm];exact hx x hm⟩) vqb qoa⟩
end
section
open Go.RowKit Go.Lib Go.Proofs.Tryz
variable {E:Env} {fr:Fr} {σ:Sto} {K:Post} {T:Tab} {l:List Oper} {cs:List (Option AV)} {all:List Node} {H:List Bool}
def tget:List (Nat × AV)->Nat->Option AV
 | [],_=>none
 | (k,c)::r,i=>bif Nat.beq k i then some c else tget r i
def zrun(T:Tab)(N:Nat)(tl:List (Nat × AV)):List Oper->Nat->Fr->Sto->Option (List (Option AV) × List Sto × Sto)
 | [],_,_,σ=>some ([],[],σ)
 | o::r,i,fr,σ=>match o.dst with
  | none=>(match opDo T N o fr σ with
   | some (_,σ')=>(match zrun T N tl r (i+1) fr σ' with
    | some (cs,ss,sj)=>some (none::cs,σ' ::ss,sj)
    | none=>none)
   | none=>none)
  | some d=>(match (match tget tl i with | some c=>some c | none=>qval T fr.ev σ o.op) with
   | some c=>(match zrun T N tl r (i+1) ((d,c)::fr) σ with
    | some (cs,ss,sj)=>some (some c::cs,ss,sj)
    | none=>none)
   | none=>none)
def hvL(l:List Oper)(cs:List (Option AV)):List Nat:=(List.range l.length).filter (isHv cs)
def hvH(l:List Oper)(cs:List (Option AV))(k:Nat):List Bool:=(List.range l.length).map fun i=>((hvL l cs).take k).contains i
def stoK(σ:Sto)(ss:List Sto)(k:Nat):Sto:=(σ::ss).getD k σ
def nodK(l:List Oper)(cs:List (Option AV))(fr:Fr)(σ:Sto)(ss:List Sto)(k:Nat):Node:=(hvH l cs k,fr,stoK σ ss k)
def nods(l:List Oper)(cs:List (Option AV))(fr:Fr)(σ:Sto)(ss:List Sto):List Node:=(List.range ((hvL l cs).length+1)).map (nodK l cs fr σ ss)
def purK(l:List Oper)(cs:List (Option AV))(tl:List (Nat × AV))(k:Nat):List Nat:=(mayL l cs (hvH l cs k)).filter fun i=> !(isHv cs i) && (tget tl i).isNone
def stoD(T:Tab)(N:Nat)(l:List Oper)(cs:List (Option AV))(fr:Fr)(σ:Sto)(ss:List Sto)(k:Nat):Option Sto:=match l[(hvL l cs).getD k 0]? with
 | some o=>(match o.dst with
  | none=>(opDo T N o (purF l cs (allT l)++fr) (stoK σ ss k)).map Prod.snd
  | some _=>none)
 | none=>none
def zchk(N:Nat)(tl:List (Nat × AV))(l:List Oper)(cs:List (Option AV)):Bool:=
 qEb N l cs &&
 ((List.range ((hvL l cs).length+1)).all fun k=>(mayL l cs (hvH l cs k)).all fun i=> !(isHv cs i) || (Nat.beq i ((hvL l cs).getD k 0) && Nat.ble (k+1) (hvL l cs).length)) &&
 ((List.range (hvL l cs).length).all fun k=>((hvH l cs k).set ((hvL l cs).getD k 0) true==hvH l cs (k+1)) && !((List.range l.length).all fun i=> !(isHv cs i) || (hvH l cs k).getD i false)) &&
 (hvH l cs 0==List.replicate l.length false) &&
 ((List.range ((hvL l cs).length+1)).all fun k=>(purK l cs tl k).all fun i=>(Kma cs i).isSome)
inductive Told (E:Env) (l:List Oper) (cs:List (Option AV)) (fr:Fr) (L:List Sto):List (Nat × AV)->Prop
 | nil:Told E l cs fr L []
 | cons {i:Nat} {c:AV} {o:Oper} {r:List (Nat × AV)} (ho:l[i]? =some o) (hc:cs[i]? =some (some c)) (h:∀s,s∈L->OpG E o (purF l cs (allT l)++fr) s c) (hr:Told E l cs fr L r):Told E l cs fr L ((i,c)::r)
theorem t0{o:Oper}{FR:Fr}{c:AV}(h:OpG E o FR σ c):∀s,s∈ [σ]->OpG E o FR s c:=fun s hs=>by
 rw[List.mem_singleton.1 hs];exact h
theorem Told.get{L:List Sto}{tl:List (Nat × AV)}(h:Told E l cs fr L tl){i:Nat}(hi:(tget tl i).isSome=true):∃o c,l[i]? =some o/\cs[i]? =some (some c)/\∀s,s∈L->OpG E o (purF l cs (allT l)++fr) s c:=by
 induction h with
 | nil=>cases hi
 | @cons k c o r ho hc h _ ih=>
  unfold tget at hi;cases hb:Nat.beq k i with
  | true=>
   have:=jAi hb;subst this;exact ⟨o,c,ho,hc,h⟩
  | false=>rw[hb]at hi;exact ih hi
theorem Zma.of:∀{r:List Node},(∀nd∈r,JFa E l cs K all nd)->Zma E l cs K all r
 | [],_=>.nil
 | nd::r,h=>.cons (h nd (by simp)) (Zma.of fun x hx=>h x (by simp[hx]))
theorem opDo_sto{N:Nat}{o:Oper}{FR:Fr}{p:Fr × Sto}(hT:zEa E.P T)(hN:N=E.N)(hd:o.dst=none)(h:opDo T N o FR σ=some p):HvS E o FR σ p.2:=by
 subst hN;obtain ⟨f2,σ'⟩:=p;refine ⟨fun fr he _=>?_⟩;refine Jya hT ?_;obtain ⟨dst,op,ty,pos,af,gu⟩:=o;dsimp only at hd;subst hd;unfold opDo at h ⊢;dsimp only at h ⊢;cases op
 case store t x y=>
  have e1:=he x (by simp[Op.operands,Call.operands]);have e2:=he y (by simp[Op.operands,Call.operands]);dsimp only at h ⊢;rw[e1,e2];split at h
  .rename_i row hr;split at h
   .rename_i b off hx;split at h
    .rename_i cs' ho;split at h
     .rename_i vs hy;cases hb:(Nat.beq vs.length row.size && Nat.ble (off+vs.length) cs'.length) with
      | false=>rw[hb]at h;cases h
      | true=>
       rw[hb]at h;simp only[cond_true]at h ⊢;split at h
       .rename_i c2 hc2;split at h
        .rename_i s2 hs2;cases h;simp only[hr,hx,ho,hy,hb,hc2,hs2,cond_true]
        cases h
       cases h
     cases h
    cases h
   cases h
  cases h
 all_goals cases h
theorem mc(hT:zEa E.P T){id:Nat}(tl:List (Nat × AV))(frJ:Fr){ss:List Sto}{σJ:Sto}(hmix:E.P.follows .mixedOrders=true)(hz:zrun T E.N tl l 0 fr σ=some (cs,ss,σJ))
 (hk:(zchk E.N tl l cs,(List.range ((hvL l cs).length+1)).map (fun k=>(purK l cs tl k).map (JGa T l cs fr (stoK σ ss k))),(List.range (hvL l cs).length).map (stoD T E.N l cs fr σ ss),stoK σ ss (hvL l cs).length)=(true,(List.range ((hvL l cs).length+1)).map (fun k=>(purK l cs tl k).map (Kma cs)),(List.range (hvL l cs).length).map (fun k=>some (stoK σ ss (k+1))),σJ))
 (ht:Told E l cs fr (σ::ss) tl) (hf:FrLe (purF l cs (allT l)++fr) frJ) (h:K .normal frJ σJ):AWP E (.region id l.toArray true) fr σ K:=by
 have k1:=congrArg (fun x=>x.1) hk;have k2:=congrArg (fun x=>x.2.1) hk;have k3:=congrArg (fun x=>x.2.2.1) hk;have k4:=congrArg (fun x=>x.2.2.2) hk;dsimp only at k1 k2 k3 k4;rw[<-k4]at h;have hin:∀k,stoK σ ss k∈σ::ss:=fun k=>by
  unfold stoK;rw[jAl];cases hg:(σ::ss)[k]? with
  | none=>simp
  | some s=>exact jAg hg
 simp only[zchk,jAo,jAn]at k1;obtain ⟨⟨⟨⟨q1,q2⟩,q3⟩,q4⟩,q5⟩:=k1;have hget:∀k,k < (hvL l cs).length+1->(nods l cs fr σ ss)[k]? =some (nodK l cs fr σ ss k):=fun k hk=>by
  unfold nods;rw[jAj,List.getElem?_range hk];rfl
 refine YLa cs (nods l cs fr σ ss) hmix q1 (hget 0 (by omega)) (by simpa using q4) kEa qoa (Zma.of fun nd hnd=>?_);obtain ⟨k,hk',rfl⟩:=jBm.1 hnd;have hkr:k < (hvL l cs).length+1:=by simpa using hk'
 have steps:vga E l cs (nods l cs fr σ ss) (hvH l cs k) fr (stoK σ ss k) (mayL l cs (hvH l cs k)):=vga.of fun i hi=>by
  have hi2:=q2 k (by simpa using hkr) i hi;cases hh:isHv cs i with
  | true=>
   rw[hh]at hi2;simp only[jBg,Bool.false_or,jAo]at hi2;have hik:=jAi hi2.1;have hkn:=jAe hi2.2;have h3:=List.map_inj_left.1 k3 k (jCh.2 (by omega));have hq3:=q3 k (jCh.2 (by omega));simp only[jAo,beq_iff_eq]at hq3;unfold stoD at h3;rw[<-hik]at h3 hq3;split at h3
   .rename_i o ho;split at h3
    .rename_i hd;obtain ⟨p,hp,hp2⟩:=jAh.1 h3;have hc:cs[i]? =some none:=by
      unfold isHv at hh;split at hh
      .rename_i e;exact e
      cases hh
     have hs:=opDo_sto hT rfl hd hp;rw[hp2]at hs;exact .sto (k+1) ho hc hs (by rw[hget (k+1) (by omega)];unfold nodK;rw[hq3.1]) kEa qoa
    cases h3
   cases h3
  | false=>
   cases htl:tget tl i with
   | some c0=>
    obtain ⟨o,c,e1,e2,e3⟩:=ht.get (i:=i) (by rw[htl];rfl);exact .pure e1 e2 (e3 _ (hin k))
   | none=>
    have hm:i∈purK l cs tl k:=by
     unfold purK;rw[List.mem_filter];exact ⟨hi,by rw[hh,htl];rfl⟩
    have e1:=List.map_inj_left.1 k2 k (by simpa using hkr);have hq:JGa T l cs fr (stoK σ ss k) i=Kma cs i:=List.map_inj_left.1 e1 i hm;have hs:=q5 k (by simpa using hkr) i hm;obtain ⟨c,hcc⟩:=Option.isSome_iff_exists.1 hs;rw[hcc]at hq;obtain ⟨o,ho,hv⟩:=jCs.1 hq;obtain ⟨x,hx,hxc⟩:=jCs.1 hcc;have hxc:x=some c:=hxc;subst hxc;exact .pure ho hx (kaa (Zka hT hv))
 by_cases hkn:k < (hvL l cs).length
 .have hq3:=q3 k (by simpa using hkn);simp only[jAo,jBp]at hq3;exact .step _ rfl hq3.2 steps
 have:k=(hvL l cs).length:=by omega
 subst this;exact .full _ rfl steps hf qoa h
end
section
open Go.RowKit Go.Lib Go.Proofs.Tryz
def Fr.mp(f:AV->AV):Fr->Fr
 | []=>[]
 | (k,c)::l=>(k,f c)::Fr.mp f l
def AO.mp(f:AV->AV):AO->AO
 | .cells cs=>.cells (cs.map f)
 | .hold c v=>.hold (f c) v
 | o=>o
def Sto.mp(f:AV->AV):Sto->Sto
 | []=>[]
 | (k,a)::l=>(k,a.mp f)::Sto.mp f l
theorem Fr.get_mp{f:AV->AV}(h0:f .any=.any)(fr:Fr)(d:Nat):(fr.mp f).get d=f (fr.get d):=by
 induction fr with
 | nil=>exact h0.symm
 | cons x l ih=>
  obtain ⟨k,c⟩:=x;simp only[Fr.mp,Fr.get_cons,ih];split <;> rfl
theorem Sto.get_mp(f:AV->AV)(σ:Sto)(o:Nat):(σ.mp f).get o=(σ.get o).map (AO.mp f):=by
 induction σ with
 | nil=>rfl
 | cons x l ih=>
  obtain ⟨k,c⟩:=x;simp only[Sto.mp,Sto.get_cons,ih];split <;> rfl
theorem AO.own_mp(f:AV->AV)(ob:AO)(l:Loc):(ob.mp f).own l=ob.own l:=by cases ob <;> rfl
def AV.on(f:AV->AV):AV->AV
 | .agg l=>.agg (l.map f)
 | c=>f c
theorem rel_on{g g' :G}{f:AV->AV}(hf:∀c v,Rel g c v->Rel g' (f c) v){c:AV}{v:Value}(h:Rel g c v):Rel g' (AV.on f c) v:=by
 cases c
 case agg cs=>
  cases h with
  | agg hl hc h=>
   refine .agg (by simp[hl]) hc fun i c hi=>?_
   simp only[jAj,jAh]at hi;obtain ⟨c',h1,rfl⟩:=hi;exact hf _ _ (h i c' h1)
 all_goals exact hf _ _ h
variable {E:Env} {fr:Fr} {σ:Sto} {K:Post}
theorem St.turn{g g' :G}{a:Act}(h:St E g a fr σ){r:Nat}{ob0 ob:AO}(hr:σ.get r=some ob0)(R:List Nat)(hR:r ∉ R)(f:AV->AV)(hf0:f .any=.any)(hf:∀c v,Rel g c v->Rel g' (f c) v)
 (hx:Ext g.w g.u g'.w g'.u) (hl:∀k,k≠r->g'.loc k=g.loc k) (hos:g'.w.os=g.w.os) (htape:g'.w.tape=g.w.tape) (hout:g'.w.output=g.w.output)
 (hb:∀b,b < g.w.heap.size->(∀o ob1,(o=r∨o∈R)->σ.get o=some ob1->¬ob1.own (g.loc o) b)->g'.w.heap[b]? =g.w.heap[b]? /\g'.u b=g.u b) (hwf:Wf g') (hob:RelO g' r ob)
 (hnew:∀b,ob.own (g'.loc r) b->(∃o ob1,(o=r∨o∈R)/\σ.get o=some ob1/\ob1.own (g.loc o) b)∨g.w.heap.size<=b):St E g' a (fr.mp f) (((σ.dels R).mp f).upd r ob):=by
 have hgr:((σ.dels R).mp f).get r=some (ob0.mp f):=by rw[Sto.get_mp,Sto.get_dels,if_neg hR,hr];rfl
 have hget:∀o ob',(((σ.dels R).mp f).upd r ob).get o=some ob' ->(o=r/\ob' =ob)∨(o≠r/\o ∉ R/\∃ob1,σ.get o=some ob1/\ob' =ob1.mp f):=by
  intro o ob' ho;rw[Sto.get_upd hgr]at ho;split at ho
  .rename_i hor;cases ho;exact .inl ⟨hor,rfl⟩
  rename_i hor;rw[Sto.get_mp,Sto.get_dels]at ho;split at ho
  .cases ho
  rename_i hoR;cases ho1:σ.get o with
  | none=>rw[ho1]at ho;cases ho
  | some ob1=>rw[ho1]at ho;cases ho;exact .inr ⟨hor,hoR,ob1,rfl,rfl⟩
 have hdis:∀o ob1 b,o≠r->o ∉ R->σ.get o=some ob1->ob1.own (g.loc o) b->∀o' ob2,(o' =r∨o' ∈R)->σ.get o' =some ob2->¬ob2.own (g.loc o') b:=by
  intro o ob1 b hne hnR ho hbo o' ob2 ho' h2 hc;have:=h.so.apart o o' ob1 ob2 b ho h2 hbo hc;subst this;rcases ho' with rfl | ho'
  .exact hne rfl
  exact hnR ho'
 refine ⟨fun d=>by rw[Fr.get_mp hf0];exact hf _ _ (h.fr d),h.n,h.df.mono hx,⟨?_,?_,?_,?_,hwf⟩⟩
 .intro o ob' ho;rcases hget o ob' ho with ⟨rfl,rfl⟩ | ⟨hne,hnR,ob1,ho1,rfl⟩
  .exact hob
  have hro:=h.so.obj o ob1 ho1;have hbb:∀b,ob1.own (g.loc o) b->g'.w.heap[b]? =g.w.heap[b]? /\g'.u b=g.u b:=fun b hb' =>hb b (hro.block_lt hb') (hdis o ob1 b hne hnR ho1 hb')
  cases ob1
  case cells cs=>
   cases hro with
   | @cells _ b t vs h1 h2 h3 h4 h5 h6=>
    obtain ⟨b1,b2⟩:=hbb b (by rw[h1];rfl);refine .cells ((hl o hne).trans h1) (b1.trans h2) (by simpa using h3) (b2.trans h4) h5 fun i c hi=>?_
    simp only[jAj,jAh]at hi;obtain ⟨c',hc',rfl⟩:=hi;exact hf _ _ (h6 i c' hc')
  case hold c v=>cases hro with
   | hold h1=>exact .hold (hf _ _ h1)
  all_goals exact hro.mono hx (hl o hne) (fun _ hk=>by cases hk) hbb
 .intro o o' ob1 ob2 b h1 h2 h3 h4;rcases hget o ob1 h1 with ⟨rfl,rfl⟩ | ⟨hne,hnR,ob1,ho1,rfl⟩ <;> rcases hget o' ob2 h2 with ⟨rfl,rfl⟩ | ⟨hne',hnR',ob2,ho2,rfl⟩
  .rfl
  .rw[AO.own_mp,hl o' hne']at h4;rcases hnew b h3 with ⟨q,obq,hq,hq1,hq2⟩ | h5
   .exact absurd hq2 (hdis o' ob2 b hne' hnR' ho2 h4 q obq hq hq1)
   have:=(h.so.obj o' _ ho2).block_lt h4;omega
  .rw[AO.own_mp,hl o hne]at h3;rcases hnew b h4 with ⟨q,obq,hq,hq1,hq2⟩ | h5
   .exact absurd hq2 (hdis o ob1 b hne hnR ho1 h3 q obq hq hq1)
   have:=(h.so.obj o _ ho1).block_lt h3;omega
  rw[AO.own_mp,hl o hne]at h3;rw[AO.own_mp,hl o' hne']at h4;exact h.so.apart o o' _ _ b ho1 ho2 h3 h4
 .intro o ob1 b h1 h2;rcases hget o ob1 h1 with ⟨rfl,rfl⟩ | ⟨hne,hnR,ob1,ho1,rfl⟩
  .rcases hnew b h2 with ⟨q,obq,hq,hq1,hq2⟩ | h5
   .exact h.so.mine q obq b hq1 hq2
   exact .inl (jBk h.so.old.ext.size h5)
  rw[AO.own_mp,hl o hne]at h2;exact h.so.mine o _ b ho1 h2
 refine h.so.old.trans ⟨hos,htape,hout,hx,fun b hbl hs=>hb b hbl fun q obq hq hq1 hq2=>?_⟩;rcases h.so.mine q obq b hq1 hq2 with h1 | h1
 .exact hs (.inr h1)
 exact hs (.inl h1)
def Zpa(size2:Nat):Loc->Loc
 | .row b off cap size n=>.nest b off cap size n size2 []
 | l=>l
def AV.nst(r:Nat):AV->AV
 | .hs x off=>bif Nat.beq x r then .ns r else .hs x off
 | c=>bif c.has r then .any else c
theorem YMa{g g' :G}{r:Nat}(hx:Ext g.w g.u g'.w g'.u)(hl:∀k,k≠r->g'.loc k=g.loc k){c:AV}{v:Value}(h:Rel g c v):Rel g' (bif c.has r then .any else c) v:=Jka hx hl h
theorem rel_nst{g g' :G}{r size2:Nat}(hx:Ext g.w g.u g'.w g'.u)(hk:∀k,k≠r->g'.loc k=g.loc k)(hl:g'.loc r=Zpa size2 (g.loc r)){c:AV}{v:Value}(h:Rel g c v):Rel g' (c.nst r) v:=by
 cases c
 case hs x off=>
  cases hb:Nat.beq x r with
  | true=>
   rw[show AV.nst r (.hs x off)=.ns r by show (bif Nat.beq x r then AV.ns r else AV.hs x off)=_;rw[hb];rfl];have:x=r:=jAi hb;subst this;cases h with
   | hsNil a h1=>exact .nsNil a (by rw[hl,h1];rfl)
   | hs h1 h2=>exact .ns (size2:=size2) (subs:=[]) (by rw[hl,h1];rfl) h2
  | false=>
   rw[show AV.nst r (.hs x off)=.hs x off by show (bif Nat.beq x r then AV.ns r else AV.hs x off)=_;rw[hb];rfl];have hne:x≠r:=by rintro rfl;simp at hb
   exact h.mono hx fun k hk' =>hk k (by have:=jAi (show Nat.beq x k=true from hk');subst this;exact hne)
 all_goals exact YMa hx hk h
theorem St.nest{g:G}{a:Act}{r size:Nat}{e:TypeId}{elems:List (List PV)}(h:St E g a fr σ)(hr:σ.get r=some (.row e true size elems))(j:Nat)(e2:TypeId)(size2:Nat):
 St E ⟨g.w,g.u,fun k=>if k=r then Zpa size2 (g.loc r) else g.loc k⟩ a (fr.mp (AV.on (AV.nst r))) (((σ.dels []).mp (AV.on (AV.nst r))).upd r (.nrow e size j e2 size2 0 elems)):=by
 have hl:(⟨g.w,g.u,fun k=>if k=r then Zpa size2 (g.loc r) else g.loc k⟩:G).loc r=Zpa size2 (g.loc r):=if_pos rfl;have hob:=h.so.obj r _ hr;have hbl:(Zpa size2 (g.loc r)).block=(g.loc r).block/\(∀b,b∈(Zpa size2 (g.loc r)).subs->(g.loc r).block=some b):=by
  cases hob with
  | nil h1=>rw[h1];exact ⟨rfl,fun b hb=>by cases hb⟩
  | row h1=>rw[h1];exact ⟨rfl,fun b hb=>by cases hb⟩
 refine h.turn (g' :=⟨g.w,g.u,fun k=>if k=r then Zpa size2 (g.loc r) else g.loc k⟩) hr [] (by simp) _ rfl (fun c v=>rel_on fun c v=>rel_nst (g:=g) (g' :=⟨g.w,g.u,fun k=>if k=r then Zpa size2 (g.loc r) else g.loc k⟩) (Ext.refl _ _) (fun k hk=>if_neg hk) hl) (Ext.refl _ _) (fun k hk=>if_neg hk) rfl rfl rfl (fun _ _ _=>⟨rfl,rfl⟩) h.so.wf ?_ (fun b hb=>.inl ⟨r,_,.inl rfl,hr,?_⟩)
 .cases hob with
  | nil h1=>exact .nrowNil (by rw[hl,h1];rfl)
  | row h1 h2 h3 h4 h5 h6 h7 h8 h9=>exact .nrow (subs:=[]) (by rw[hl,h1];rfl) h2 h3 h4 h5 h6 (h8 rfl) rfl (jCc _) (by simp[vfa]) (fun i j' x c hi hj _=>h9 i j' x c hi hj) (fun i s x hi=>by simp at hi)
 rcases hb with hb | hb
 .rw[hl,hbl.1]at hb;exact hb
 rw[hl]at hb;exact hbl.2 b hb
theorem V0a.pub{w:World}{u:Nat->Nat}{e:TypeId}{mu:Bool}{size:Nat}{rows:List (List PV)}{s:Nat × Nat × Nat × Nat}{v:Value}(h:V0a w u e mu size rows s v){u' :Nat->Nat}(hx:Ext0 w u w u')(hu:(s.2.1+s.2.2.2) * size<=u' s.1):RelP w u' (.sl none rows) v:=by
 obtain ⟨vs,h1,h2,h3⟩:=h.blk;have hv:=h.val;rw[<-h.n]at hv;subst hv;have hne:rows≠ []:=by rintro rfl;have:=h.pos;rw[<-h.n]at this;simp at this
 have hle:rows.length<=s.2.2.1:=by rw[h.n];exact h.le
 refine .sl size s.1 (s.2.1 * size) (fun i=>vs.getD (s.2.1 * size+i) undef) (fun x hx=>by cases hx) (fun hx=>by cases hx) hle h.z (fun _=>rfl) (fun _=>⟨?_,zCa h1⟩) (fun i hi=>?_) (fun i j x c hi hj=>?_)
 .rw[<-jAz,h.n];exact hu
 .refine kla h1 ?_;rw[h2,jAz];have:=jAx size hle;omega
 have:=(h3 i j x c hi hj).mono0 hx;rw[show (s.2.1+i) * size+j=s.2.1 * size+(i * size+j) by rw[jAz];omega]at this;exact this
theorem klb.pub{w:World}{u:Nat->Nat}{e:TypeId}{size:Nat}{rows:List (List PV)}{s:Option (Nat × Nat × Nat × Nat)}{v:Value}(h:klb w u e size rows s v){u' :Nat->Nat}(hx:Ext0 w u w u')(hu:∀t,s=some t->(t.2.1+t.2.2.2) * size<=u' t.1):RelP w u' (.sl none rows) v:=by
 cases s with
 | none=>
  obtain ⟨rfl,a,cap,rfl,h0⟩:=h;have:=RelP.sl (w:=w) (u:=u') (nl:=none) (elems:=[]) (a:=a) (cap:=cap) 1 0 0 (fun _=>undef) (fun x hx=>by cases hx) (fun hx=>⟨h0 hx,rfl⟩) (by simp) (by simp) (by simp) (by simp) (fun i hi=>by simp at hi) (fun i j e c hi=>by simp at hi);exact this
 | some t=>exact V0a.pub h hx (hu t rfl)
end
section
open Go.RowKit Go.Lib Go.Proofs.Tryz
variable {E:Env} {fr:Fr} {σ:Sto} {K:Post} {P:Program} {ρ:Operand->AV}
variable {dst:Option Tmp} {ty:TypeId} {pos:String} {af:Array Edge} {gu:Option (Nat × Bool)}
section
variable {α β:Type} {F:α->List PV} {G2:β->List PV} {l:List α} {l2:List β} {r size size2 bytes sb ss k j m:Nat} {e e2 t:TypeId} {zero sz:Value} {d:TypeDesc} {x y:Operand}
structure NAt (g:G) (r:Nat) (e:TypeId) (size j:Nat) (e2:TypeId) (size2 m:Nat) (F:α->List PV) (l:List α) (b off cap:Nat) (vs:Array Value) (subs:List (Option (Nat × Nat × Nat × Nat))):Prop where
 loc:g.loc r=.nest b off cap size l.length size2 subs
 heap:g.w.heap[b]? =some (.cells vs e (0,0))
 sz:vs.size=(off+cap) * size
 max:cap<=maxLen
 le:l.length<=cap
 z:∀x∈l,(F x).length=size
 u:g.u b=0
 sl:subs.length=m
 ml:m<=l.length
 nd:(b::vfa subs).Nodup
 cell:∀i j' x c,l[i]? =some x->(F x)[j']? =some c->(m<=i∨j' ≠j)->RelP g.w g.u c (vs.getD ((off+i) * size+j') undef)
 sub:∀i s x,subs[i]? =some s->l[i]? =some x->∃rows,(F x)[j]? =some (.sl none rows)/\klb g.w g.u e2 size2 rows s (vs.getD ((off+i) * size+j) undef)
theorem NAt.obj{g:G}{b off cap:Nat}{vs:Array Value}{subs:List (Option (Nat × Nat × Nat × Nat))}(h:NAt g r e size j e2 size2 m F l b off cap vs subs):RelO g r (.nrow e size j e2 size2 m (l.map F)):=
 .nrow (by rw[jAw];exact h.loc) h.heap h.sz h.max (by rw[jAw];exact h.le) (fun x hx=>by obtain ⟨y,hy,rfl⟩:=jBm.1 hx;exact h.z y hy) h.u h.sl (by rw[jAw];exact h.ml) h.nd
  (fun i j' x c hi hj hc=>by
   simp only[jAj,jAh]at hi;obtain ⟨y,hy,rfl⟩:=hi;exact h.cell i j' y c hy hj hc)
  (fun i s x hi hx=>by
   simp only[jAj,jAh]at hx;obtain ⟨y,hy,rfl⟩:=hx;exact h.sub i s y hi hy)
theorem NAt.place{g:G}{b off cap i q:Nat}{vs:Array Value}{subs:List (Option (Nat × Nat × Nat × Nat))}(h:NAt g r e size j e2 size2 m F l b off cap vs subs)(hi:i < l.length)(hq:q < size):(off+i) * size+q < vs.size:=by
 rw[h.sz];exact kzb (s:=1) hi h.le hq
section
variable {t' :TypeId} {size' bytes' :Nat} {zero' :Value} {d' :TypeDesc} {n:Int} {j0:Nat} {v v' :α} {c:PV}
theorem V0a.lt{w:World}{u:Nat->Nat}{mu:Bool}{s:Nat × Nat × Nat × Nat}{vx:Value}{i q:Nat}{vs:Array Value}(h:V0a w u e mu size (l.map F) s vx)(hsz:vs.size=(s.2.1+s.2.2.1) * size)(hi:i < l.length)(hq:q < size):(s.2.1+i) * size+q < vs.size:=by
 rw[hsz];have h1:=h.n;have h2:=h.le;rw[jAw]at h1;exact kzb (s:=1) (n:=l.length) hi (by omega) hq
end
end
end
section
open Go.RowKit Go.Lib Go.Proofs.Tryz
structure Wrote (w w' :World) (b p:Nat) (t:TypeId) (cur new:Array Value) (cl:List Value):Prop where
 os:w'.os=w.os
 tape:w'.tape=w.tape
 output:w'.output=w.output
 size:w'.heap.size=w.heap.size
 other:∀k,k≠b->w'.heap[k]? =w.heap[k]?
 here:w'.heap[b]? =some (.cells new t (0,0))
 sz:new.size=cur.size
 inn:∀q,q < cl.length->new.getD (p+q) undef=cl.getD q undef
 out:∀q,(q < p∨p+cl.length<=q)->new.getD q undef=cur.getD q undef
theorem Wrote.ext{w w' :World}{b p:Nat}{t:TypeId}{cur new:Array Value}{cl:List Value}{u:Nat->Nat}(h:Wrote w w' b p t cur new cl)(hb:w.heap[b]? =some (.cells cur t (0,0)))(hu:u b=0):Ext w u w' u:=⟨jBn h.size.symm,fun _ _=>jAt _,fun k i hk hi=>by
 by_cases hkb:k=b
 .subst hkb;omega
 simp only[World.cell?];rw[h.other k hkb],fun r hr=>(h.other r (by rintro rfl;rw[hb]at hr;cases hr)).trans hr⟩
variable {E:Env} {fr:Fr} {σ:Sto} {K:Post} {P:Program} {ρ:Operand->AV}
variable {dst:Option Tmp} {ty:TypeId} {pos:String} {af:Array Edge} {gu:Option (Nat × Bool)}
section
variable {α β:Type} {F:α->List PV} {G2:β->List PV} {l:List α} {l2:List β} {r r2 size size2 bytes sb ss k j m:Nat} {e e2 t:TypeId} {zero sz:Value} {d:TypeDesc} {x y:Operand}
variable {t' :TypeId} {size' bytes' :Nat} {zero' :Value} {d' :TypeDesc} {n:Int} {j0:Nat} {v v' :α} {c:PV}
end
end
section
open Go.RowKit Go.Lib Go.Proofs.Tryz
def zvb(l l' :Loc):Prop:=l' =l∨(∃b off cap size n size2 subs more,l=.nest b off cap size n size2 subs/\l' =.nest b off cap size n size2 (subs++more))∨∃b subs subs',l=.mapr b subs/\l' =.mapr b subs'
theorem zvb.plain{l l' :Loc}(h:zvb l l')(hn:∀b off cap size n size2 subs,l≠ .nest b off cap size n size2 subs/\l≠ .mapr b subs):l' =l:=by
 rcases h with h | ⟨b,off,cap,size,n,size2,subs,more,h,_⟩ | ⟨b,subs,subs',h,_⟩
 .exact h
 .exact absurd h (hn _ _ _ _ _ _ _).1
 exact absurd h (hn b 0 0 0 0 0 subs).2
theorem zvb.mapr{l' :Loc}{b:Nat}{subs:List (Option (Nat × Nat × Nat × Nat))}(h:zvb (.mapr b subs) l'):∃subs',l' =.mapr b subs' :=by
 rcases h with h | ⟨b',off',cap',size',n',size2',subs',more,h,h2⟩ | ⟨b',s1,s2,h,h2⟩
 .exact ⟨_,h⟩
 .cases h
 cases h;exact ⟨_,h2⟩
theorem zvb.nest{l' :Loc}{b off cap size n size2:Nat}{subs:List (Option (Nat × Nat × Nat × Nat))}(h:zvb (.nest b off cap size n size2 subs) l'):∃more,l' =.nest b off cap size n size2 (subs++more):=by
 rcases h with h | ⟨b',off',cap',size',n',size2',subs',more,h,h2⟩ | ⟨b',s1,s2,h,h2⟩
 .exact ⟨[],by rw[List.append_nil];exact h⟩
 .cases h;exact ⟨more,h2⟩
 cases h
theorem JHa{α:Type}{l more:List α}{i:Nat}{x:α}(h:l[i]? =some x):(l++more)[i]? =some x:=by
 rw[jAp (jAc.1 h).1];exact h
theorem Rel.more{g g' :G}(hx:Ext g.w g.u g'.w g'.u){c:AV}{v:Value}(h:Rel g c v):(∀o,c.has o=true->zvb (g.loc o) (g'.loc o))->Rel g' c v:=by
 have hx0:=hx.to0;induction h with
 | any v=>exact fun _=>.any v
 | pv h=>exact fun _=>.pv (h.mono0 hx0)
 | @agg cs vs hl hc h ih=>exact fun hh=>.agg hl hc (fun i c hi=>ih i c hi fun o ho=>hh o (by unfold AV.has;exact AV.hasL_of hi ho))
 | @tup cs vs hl h ih=>exact fun hh=>.tup hl (fun i c hi=>ih i c hi fun o ho=>hh o (by unfold AV.has;exact AV.hasL_of hi ho))
 | @ptr o off b hl=>exact fun hh=>.ptr (by have:=hh o (by simp[AV.has]);rw[hl]at this;exact this.plain (by intros;simp))
 | @ep cells b off val hu hb hcell h=>exact fun hh=>Rel.mono hx (.ep val hu hb hcell h) (fun o ho=>by cases ho)
 | @hsNil r a hl=>exact fun hh=>.hsNil a (by have:=hh r (by simp[AV.has]);rw[hl]at this;exact this.plain (by intros;simp))
 | @hs r b off cap size n a hl ha=>exact fun hh=>.hs (by have:=hh r (by simp[AV.has]);rw[hl]at this;exact this.plain (by intros;simp)) ha
 | @hp r idx j b off cap size n hl hi=>exact fun hh=>.hp (by have:=hh r (by simp[AV.has]);rw[hl]at this;exact this.plain (by intros;simp)) hi
 | @fn f first captured fv cv h1 h2 hf hc ihf ihc=>
  exact fun hh=>.fn h1 h2 (fun i c hi=>ihf i c hi fun o ho=>hh o (by simp[AV.has,AV.hasL_of hi ho])) (fun i c hi=>ihc i c hi fun o ho=>hh o (by simp[AV.has,AV.hasL_of hi ho]))
 | @mp o b hl=>exact fun hh=>.mp (by have:=hh o (by simp[AV.has]);rw[hl]at this;exact this.plain (by intros;simp))
 | @hsubNil r lo a hl=>exact fun hh=>.hsubNil a (by have:=hh r (by simp[AV.has]);rw[hl]at this;exact this.plain (by intros;simp))
 | @hsub r lo b off cap size n a hl hle ha=>exact fun hh=>.hsub (by have:=hh r (by simp[AV.has]);rw[hl]at this;exact this.plain (by intros;simp)) hle ha
 | z0 a=>exact fun _=>.z0 a
 | ifc h=>exact fun _=>.ifc h
 | @hpreNil r a hl=>exact fun hh=>.hpreNil a (by have:=hh r (by simp[AV.has]);rw[hl]at this;exact this.plain (by intros;simp))
 | @hpre r hi b off cap size n a hl hle ha=>exact fun hh=>.hpre (by have:=hh r (by simp[AV.has]);rw[hl]at this;exact this.plain (by intros;simp)) hle ha
 | @nsNil r a hl=>exact fun hh=>.nsNil a (by have:=hh r (by simp[AV.has]);rw[hl]at this;exact this.plain (by intros;simp))
 | @ns r b off cap size n size2 subs a hl ha=>exact fun hh=>by have:=hh r (by simp[AV.has]);rw[hl]at this;obtain ⟨more,h2⟩:=this.nest;exact .ns h2 ha
 | @np r idx j b off cap size n size2 subs hl hi=>exact fun hh=>by have:=hh r (by simp[AV.has]);rw[hl]at this;obtain ⟨more,h2⟩:=this.nest;exact .np h2 hi
 | @hnNil r idx b off cap size n size2 subs a cap2 hl hs=>exact fun hh=>by have:=hh r (by simp[AV.has]);rw[hl]at this;obtain ⟨more,h2⟩:=this.nest;exact .hnNil a cap2 h2 (JHa hs)
 | @hn r idx b off cap size n size2 b2 off2 cap2 n2 subs hl hs=>exact fun hh=>by have:=hh r (by simp[AV.has]);rw[hl]at this;obtain ⟨more,h2⟩:=this.nest;exact .hn h2 (JHa hs)
 | @hnp r idx k j b off cap size n size2 b2 off2 cap2 n2 subs hl hs hk=>exact fun hh=>by have:=hh r (by simp[AV.has]);rw[hl]at this;obtain ⟨more,h2⟩:=this.nest;exact .hnp h2 (JHa hs) hk
 | nn h=>exact fun _=>.nn h
 | @ls o b hl=>exact fun hh=>.ls (by have:=hh o (by simp[AV.has]);rw[hl]at this;exact this.plain (by intros;simp))
 | @mr o b subs hl=>exact fun hh=>by have:=hh o (by simp[AV.has]);rw[hl]at this;obtain ⟨s,h2⟩:=this.mapr;exact .mr h2
variable {E:Env} {fr:Fr} {σ:Sto} {K:Post} {P:Program} {ρ:Operand->AV}
variable {dst:Option Tmp} {ty:TypeId} {pos:String} {af:Array Edge} {gu:Option (Nat × Bool)}
section
variable {α β:Type} {F:α->List PV} {G2:β->List PV} {l:List α} {l2:List β} {r r2 size size2 bytes sb ss k j m:Nat} {e e2 t:TypeId} {zero sz:Value} {d:TypeDesc} {x y:Operand}
variable {t' :TypeId} {size' bytes' :Nat} {zero' :Value} {d' :TypeDesc} {n:Int} {j0:Nat} {v v' :α} {c:PV}
end
end
section
open Go.RowKit Go.Lib Go.Proofs.Tryz
variable {E:Env} {fr:Fr} {σ:Sto} {K:Post} {P:Program} {ρ:Operand->AV}
variable {dst:Option Tmp} {ty:TypeId} {pos:String} {af:Array Edge} {gu:Option (Nat × Bool)}
section
variable {α β:Type} {F:α->List PV} {G2:β->List PV} {l r' :List α} {l2:List β} {r r2 o size size2 bytes sb ss k j m lim:Nat} {e e2 t:TypeId} {zero sz:Value} {d:TypeDesc} {x y:Operand} {v:α} {cs:List AV}
end
end
section
open Go.RowKit Go.Lib Go.Proofs.Tryz
variable {E:Env} {fr:Fr} {σ:Sto} {K:Post}
theorem St.split{g g' :G}{a:Act}(h:St E g a fr σ){r r1:Nat}{ob0 ob ob1:AO}(hr:σ.get r=some ob0)(hf1:fr.has r1=false)(hs1:σ.has r1=false)(hg1:σ.get r1=none)(hw:g'.w=g.w)(hu:g'.u=g.u)(hl:∀k,k≠r->k≠r1->g'.loc k=g.loc k)(hle:zvb (g.loc r) (g'.loc r))
 (hok:ob0.has r1=false) (hob:RelO g' r ob) (hob1:RelO g' r1 ob1) (hsub:∀b,ob.own (g'.loc r) b->ob0.own (g.loc r) b) (hsub1:∀b,ob1.own (g'.loc r1) b->ob0.own (g.loc r) b) (hdis:∀b,ob.own (g'.loc r) b->¬ob1.own (g'.loc r1) b)
 (hhas:∀o ob2,o≠r->σ.get o=some ob2->ob2.has r=true->∃cs,ob2=.cells cs∨∃c v,ob2=.hold c v):St E g' a fr ((r1,ob1)::σ.upd r ob):=by
 have hne:r≠r1:=by rintro rfl;rw[hr]at hg1;cases hg1
 have hx:Ext g.w g.u g'.w g'.u:=by rw[hw,hu];exact Ext.refl _ _
 have hrel:∀c v,c.has r1=false->Rel g c v->Rel g' c v:=fun c v hc hv=>hv.more hx fun o ho=>by
  by_cases h1:o=r
  .subst h1;exact hle
  by_cases h2:o=r1
  .subst h2;rw[hc]at ho;cases ho
  exact .inl (hl o h1 h2)
 have hgu:=Sto.get_upd (ob:=ob) hr;have hget:∀o ob',Sto.get ((r1,ob1)::σ.upd r ob) o=some ob' ->(o=r1/\ob' =ob1)∨(o=r/\ob' =ob)∨(o≠r/\o≠r1/\σ.get o=some ob'):=by
  intro o ob' ho;rw[Sto.get_cons]at ho;split at ho
  .rename_i h1;cases ho;exact .inl ⟨h1.symm,rfl⟩
  rename_i h1;rw[hgu]at ho;split at ho
  .rename_i h2;cases ho;exact .inr (.inl ⟨h2,rfl⟩)
  rename_i h2;exact .inr (.inr ⟨h2,Ne.symm h1,ho⟩)
 refine ⟨fun d=>hrel _ _ ?_ (h.fr d),h.n,by rw[hw];exact h.df,⟨?_,?_,?_,?_,fun k hk=>by rw[hu];exact h.so.wf k (by rw[<-hw];exact hk)⟩⟩
 .cases hh:(fr.get d).has r1 with
  | false=>rfl
  | true=>rw[Fr.has_get hh]at hf1;cases hf1
 .intro o ob' ho;rcases hget o ob' ho with ⟨rfl,rfl⟩ | ⟨rfl,rfl⟩ | ⟨h1,h2,ho⟩
  .exact hob1
  .exact hob
  have hro:=h.so.obj o ob' ho;have hn:ob'.has r1=false:=by
   cases hh:ob'.has r1 with
   | false=>rfl
   | true=>rw[Sto.has_get ho hh]at hs1;cases hs1
  cases ob' with
  | cells cs=>
   cases hro with
   | @cells _ b t vs q1 q2 q3 q4 q5 q6=>
    refine .cells ((hl o h1 h2).trans q1) (by rw[hw];exact q2) q3 (by rw[hu];exact q4) q5 fun i c hi=>hrel c _ ?_ (q6 i c hi)
    cases hh:c.has r1 with
    | false=>rfl
    | true=>rw[show (AO.cells cs).has r1=AV.hasL r1 cs from rfl,AV.hasL_of hi hh]at hn;cases hn
  | hold c v=>cases hro with
   | hold q1=>exact .hold (hrel c _ hn q1)
  | _=>exact hro.mono hx (hl o h1 h2) (fun _ hk=>by cases hk) fun b _=>by rw[hw,hu];exact ⟨rfl,rfl⟩
 .intro o o' oa ob' b h1 h2 h3 h4;rcases hget o oa h1 with ⟨rfl,rfl⟩ | ⟨rfl,rfl⟩ | ⟨p1,p2,p3⟩ <;> rcases hget o' ob' h2 with ⟨rfl,rfl⟩ | ⟨rfl,rfl⟩ | ⟨q1,q2,q3⟩
  .rfl
  .exact absurd h3 (hdis b h4)
  .rw[hl o' q1 q2]at h4;exact absurd (h.so.apart r o' _ _ b hr q3 (hsub1 b h3) h4) (Ne.symm q1)
  .exact absurd h4 (hdis b h3)
  .rfl
  .rw[hl o' q1 q2]at h4;exact absurd (h.so.apart o o' _ _ b hr q3 (hsub b h3) h4) (Ne.symm q1)
  .rw[hl o p1 p2]at h3;exact absurd (h.so.apart o r _ _ b p3 hr h3 (hsub1 b h4)) p1
  .rw[hl o p1 p2]at h3;exact absurd (h.so.apart o o' _ _ b p3 hr h3 (hsub b h4)) p1
  rw[hl o p1 p2]at h3;rw[hl o' q1 q2]at h4;exact h.so.apart o o' _ _ b p3 q3 h3 h4
 .intro o oa b h1 h2;rcases hget o oa h1 with ⟨rfl,rfl⟩ | ⟨rfl,rfl⟩ | ⟨p1,p2,p3⟩
  .exact h.so.mine r _ b hr (hsub1 b h2)
  .exact h.so.mine o _ b hr (hsub b h2)
  rw[hl o p1 p2]at h2;exact h.so.mine o _ b p3 h2
 exact ⟨by rw[hw];exact h.so.old.os,by rw[hw];exact h.so.old.tape,by rw[hw];exact h.so.old.output,h.so.old.ext.trans hx,fun b hb hs=>by rw[hw,hu];exact h.so.old.block b hb hs⟩
section
variable {κ β:Type} [BEq κ] [LawfulBEq κ] {KK:KeyK κ} {G2:β->List PV} {P:Program} {ρ:Operand->AV} {t kt e e1:TypeId} {m x y:Operand} {o r size sz1 bytes k0:Nat} {d:TypeDesc} {es:List (κ × List β)} {k:κ} {l:List β}
variable {dst:Option Tmp} {ty:TypeId} {pos:String} {af:Array Edge} {gu:Option (Nat × Bool)}
abbrev mencR(KK:KeyK κ)(G2:β->List PV)(es:List (κ × List β)):List (Value × List (List PV)):=es.map fun p=>(KK.kf p.1,p.2.map G2)
structure MAt (g:G) (o:Nat) (e:TypeId) (size:Nat) (tk:Option Nat) (KK:KeyK κ) (G2:β->List PV) (es:List (κ × List β)) (b clock:Nat) (ents:Array MapEntry) (subs:List (Option (Nat × Nat × Nat × Nat))):Prop where
 loc:g.loc o=.mapr b subs
 heap:g.w.heap[b]? =some (.map ents clock)
 u:g.u b=0
 n:ents.size=es.length
 sl:subs.length=es.length
 nd:(b::vfa subs).Nodup
 key:∀(i:Nat) p x,es[i]? =some p->ents[i]? =some x->x.key=KK.kf p.1
 cv:∀(i:Nat) x,ents[i]? =some x->cellV x.val=true
 ent:∀(i:Nat) p x,es[i]? =some p->ents[i]? =some x->(tk=some i/\subs[i]? =some none∨tk≠some i/\∃s,subs[i]? =some (some s)/\V0a g.w g.u e false size (p.2.map G2) s x.val)
theorem MAt.obj{g:G}{tk:Option Nat}{b clock:Nat}{ents:Array MapEntry}{subs:List (Option (Nat × Nat × Nat × Nat))}(h:MAt g o e1 size tk KK G2 es b clock ents subs):RelO g o (.mapr e1 size tk (mencR KK G2 es)):=
 .mapr h.loc h.heap h.u (by simpa[mencR]using h.n) (by simpa[mencR]using h.sl) h.nd fun i k' rows hi=>by
  simp only[mencR,jAj,jAh,Prod.mk.injEq]at hi;obtain ⟨p,hp,rfl,rfl⟩:=hi;have hlt:i < ents.size:=by rw[h.n];exact (jAc.1 hp).1
  have hx:=Array.getElem?_eq_getElem hlt;exact ⟨_,hx,h.key i p _ hp hx,h.cv i _ hx,h.ent i p _ hp hx⟩
def Vka:Loc->Loc
 | .map b=>.mapr b []
 | l=>l
def AV.mrs(o:Nat):AV->AV
 | .mp x=>bif Nat.beq x o then .mr o else .mp x
 | c=>bif c.has o then .any else c
theorem rel_mrs{g g' :G}(hx:Ext g.w g.u g'.w g'.u)(hk:∀k,k≠o->g'.loc k=g.loc k)(hl:g'.loc o=Vka (g.loc o)){c:AV}{v:Value}(h:Rel g c v):Rel g' (c.mrs o) v:=by
 cases c
 case mp x=>
  cases hb:Nat.beq x o with
  | true=>
   rw[show AV.mrs o (.mp x)=.mr o by show (bif Nat.beq x o then AV.mr o else AV.mp x)=_;rw[hb];rfl];have:x=o:=jAi hb;subst this;cases h with
   | mp h1=>exact .mr (subs:=[]) (by rw[hl,h1];rfl)
  | false=>
   rw[show AV.mrs o (.mp x)=.mp x by show (bif Nat.beq x o then AV.mr o else AV.mp x)=_;rw[hb];rfl];have hne:x≠o:=by rintro rfl;simp at hb
   exact h.mono hx fun k hk' =>hk k (by have:=jAi (show Nat.beq x k=true from hk');subst this;exact hne)
 all_goals exact YMa hx hk h
theorem St.mapr{g:G}{a:Act}(h:St E g a fr σ)(ho:σ.get o=some (.mapo false []))(e:TypeId)(size:Nat):
 St E ⟨g.w,g.u,fun k=>if k=o then Vka (g.loc o) else g.loc k⟩ a (fr.mp (AV.on (AV.mrs o))) (((σ.dels []).mp (AV.on (AV.mrs o))).upd o (.mapr e size none [])):=by
 have hl:(⟨g.w,g.u,fun k=>if k=o then Vka (g.loc o) else g.loc k⟩:G).loc o=Vka (g.loc o):=if_pos rfl;have hob:=h.so.obj o _ ho;generalize hms:([]:List (Value × List PV))=ms at hob;cases hob with
 | @mapo _ _ b clock ents h1 h2 h3 h4 h5=>
  subst hms;refine h.turn (g' :=⟨g.w,g.u,fun k=>if k=o then Vka (g.loc o) else g.loc k⟩) ho [] (by simp) _ rfl (fun c v=>rel_on fun c v=>rel_mrs (g:=g) (g' :=⟨g.w,g.u,fun k=>if k=o then Vka (g.loc o) else g.loc k⟩) (Ext.refl _ _) (fun k hk=>if_neg hk) hl) (Ext.refl _ _) (fun k hk=>if_neg hk) rfl rfl rfl (fun _ _ _=>⟨rfl,rfl⟩) h.so.wf ?_ (fun q hq=>.inl ⟨o,_,.inl rfl,ho,?_⟩)
  .exact .mapr (subs:=[]) (by rw[hl,h1];rfl) h2 h3 h4 rfl (by simp[vfa]) (fun i k rows hi=>by simp at hi)
  rw[hl,h1]at hq;rw[h1];rcases hq with hq | hq
  .exact hq
  cases hq
end
end
section
section
variable {E:Env} {ρ:Operand->AV} {P:Program} {fr FR:Fr} {σ:Sto} {dst:Option Nat} {ty:TypeId} {pos:String} {af:Array Edge} {gu:Option (Nat × Bool)}
end
section
variable {E:Env} {FR:Fr} {σ:Sto} {ty:TypeId} {pos:String} {af:Array Edge} {gu:Option (Nat × Bool)} {α β:Type} {F:α->List PV} {G2:β->List PV} {l:List α} {l2:List β} {e e2 t' :TypeId} {size size2 size' bytes' j j0 m r r2:Nat} {zero' :Value} {d' :TypeDesc} {x y:Operand} {n n2:Int} {v v' :α} {w2 w2' :β} {pcs:List PV}
end
end
section
section
variable {P:Program} {t:TypeId}
variable {ρ:Operand->AV} {σ:Sto} {dst:Option Nat} {ty:TypeId} {pos:String} {af:Array Edge} {gu:Option (Nat × Bool)} {x y:Operand} {ss sb:Nat} {sz:Value}
end
end
section
variable {E:Env} {fr:Fr} {σ:Sto} {K:Post} {k:KS} {ops:Array Oper} {T:Tab} {c:AV} {t ty:TypeId} {pos:String} {af:Array Edge} {row:WGa}
theorem zwb(m:Nat):∀(k i:Nat),zmb m [] k i=[(List.range' i k).map fun j=> !(Nat.ble m j)]
 | 0,i=>rfl
 | k+1,i=>by
  unfold zmb;rw[zwb m k (i+1),List.range'_succ];cases h:Nat.ble m i <;> simp[h]
theorem zxb:∀(cs:List AV) (bs:List Bool),cs.length<=bs.length->(bs.take cs.length).all id=true->zob cs bs=cs
 | [],bs,_,_=>by cases bs <;> rfl
 | c::cs,[],h,_=>by simp at h
 | c::cs,b::bs,h,hb=>by
  simp at h hb;unfold zob;rw[zxb cs bs (by omega) (by simpa using hb.2),hb.1];rfl
theorem drX0{id:Nat}{l:List Oper}(m:Nat)(new:Fr){cs:List AV}{az:ObX}{σ' :Sto}(hmix:E.P.follows .mixedOrders=true)(hok:Via l m m []=true)(hm:Nat.ble m l.length=true)(hN:((l.take m).all fun o=>o.dst.all fun d=>Nat.ble (d+1) E.N)=true)
 (hT:zEa E.P []) (hp:wEa E l.toArray (new++fr) σ (l.take m) cs az) (hfree:vkb fr σ cs az=true) (hσ:objX (fun _=>true) 0 az++σ=σ') (hnew:wBa (l.take m) cs []=new) (h:AWPL E l.toArray (l.drop m) (new++fr) σ' K):AWP E (.region id l.toArray true) fr σ K:=by
 have hm' :=jAe hm;have hlen:cs.length=m:=by rw[hp.len.1,jBv];omega
 have hl:WJa [] E.N l m m [] 1 cs fr σ' =some [(new++fr,σ')]:=by
  unfold WJa;rw[zwb];have hall:List.all (List.take m ((List.range' 0 l.length).map fun j=> !(Nat.ble m j))) _root_.id=true:=by
   rw[jAn];intro x hx;obtain ⟨i,hi,rfl⟩:=List.mem_iff_getElem.1 hx;simp at hi;cases hb:Nat.ble m i with
   | true=>have:=jAe hb;omega
   | false=>simp[hb]
  have hmask:=zxb cs ((List.range' 0 l.length).map fun j=> !(Nat.ble m j)) (by simp;omega) (by rw[hlen];exact hall);have ht:WIa [] E.N l m 1 ((List.range' 0 l.length).map fun j=> !(Nat.ble m j)) (wBa (l.take m) (zob cs ((List.range' 0 l.length).map fun j=> !(Nat.ble m j))) []++fr) σ' =some [(new++fr,σ')]:=by
   rw[hmask,hnew];unfold WIa;rw[hall]
  unfold kKb;dsimp only;rw[ht];rfl
 exact YKa m m 1 [] new (new++fr) σ' hT hmix hok (Nat.ble_eq_true_of_le (jAt _)) hm rfl hN hp hfree hσ hnew hl (fun p hp=>by
  rw[List.mem_singleton.1 hp];exact ⟨kEa,qoa⟩) h
theorem drA{id:Nat}{l:List Oper}(m:Nat)(new:Fr){cs:List AV}{az:ObX}{σ' :Sto}(hmix:E.P.follows .mixedOrders=true)(hok:Via l m m []=true)(hm:Nat.ble m l.length=true)(hN:((l.take m).all fun o=>o.dst.all fun d=>Nat.ble (d+1) E.N)=true)
 (hp:wEa E l.toArray (new++fr) σ (l.take m) cs az) (hfree:vkb fr σ cs az=true) (hσ:objX (fun _=>true) 0 az++σ=σ') (hnew:wBa (l.take m) cs []=new) (h:(GS.ops l.toArray (l.drop m) (new++fr) σ' k).holds E):(GS.code (.region id l.toArray true) fr σ k).holds E:=
 drX0 m new hmix hok hm hN (fun t r h=>by cases h) hp hfree hσ hnew h
theorem wNb:∀(az:ObX) (n:Nat),(az.all fun x=>x.isNone)=true->idX az=[]/\objX (fun _=>true) n az=[]
 | [],_,_=>⟨rfl,rfl⟩
 | none::az,n,h=>wNb az (n+1) (by simpa using h)
 | some x::az,n,h=>by simp at h
theorem dr{id:Nat}{l:List Oper}(m:Nat)(new:Fr){cs:List AV}{az:ObX}(hmix:E.P.follows .mixedOrders=true)(hok:Via l m m []=true)(hm:Nat.ble m l.length=true)(hN:((l.take m).all fun o=>o.dst.all fun d=>Nat.ble (d+1) E.N)=true)
 (hp:wEa E l.toArray (new++fr) σ (l.take m) cs az) (hnew:wBa (l.take m) cs []=new) (h:(GS.ops l.toArray (l.drop m) (new++fr) σ k).holds E) (hz:(az.all fun x=>x.isNone)=true:=by rfl):(GS.code (.region id l.toArray true) fr σ k).holds E:=by
 obtain ⟨h1,h2⟩:=wNb az 0 hz;refine drX0 m new hmix hok hm hN (fun t r h=>by cases h) hp ?_ (by rw[h2];rfl) hnew h;unfold vkb;rw[h1];simp[Kla];intro x hx;cases x <;> simp
theorem pqA{o:Oper}{l:List Oper}{cs:List AV}{az:ObX}(hT:zEa E.P T)(hq:qval T fr.ev σ o.op=some c)(hg:kxa ops fr o)(hr:wEa E ops fr σ l cs az):wEa E ops fr σ (o::l) (c::cs) (none::az):=pqX hT hq hg hr
theorem pq{o:Oper}{l:List Oper}{cs:List AV}{az:ObX}(hT:zEa E.P T)(hq:qval T fr.ev σ o.op=some c)(hg:kxa ops fr o)(hr:wEa E ops fr σ l cs az):wEa E ops fr σ (o::l) (c::cs) (none::az):=pqX hT hq hg hr
theorem pnA{d:Nat}{gu:Option (Nat × Bool)}{l:List Oper}{cs ds:List AV}{az:ObX}(id:Nat)(hT:zEa E.P T)(ht:T.get t=some row)(hz:wDa (row.zero.cells.toList.map qPa)=some ds)(hz2:row.zero.cells.toList.all cellV=true)(hg:kxa ops fr ⟨some d,.alloc t,ty,pos,af,gu⟩)(hr:wEa E ops fr σ l cs az):wEa E ops fr σ (⟨some d,.alloc t,ty,pos,af,gu⟩::l) (.ptr id 0::cs) (some (id,.cells ds)::az):=pnX id hT ht hz hz2 hg hr
end
theorem mixed:prog.follows .mixedOrders=true:=by kernel_rfl
def kca.sto(x:kca):Sto:=[(90000000,.cells [.s x.Client.Name,.s x.Client.Mail.Envelope.From,.l zqa.pc x.Client.Mail.Envelope.To,.s x.Client.Mail.Envelope.Id,.l zca.pc x.Client.Mail.Message.Fields,.l cU x.Client.Mail.Message.Body,.bo x.Client.Pipelined,.l cU x.Client.Buffer,.i x.Client.Expected,.bo x.Client.Whole,.bo x.Client.Done,.hs 90000012 0,.l cU x.content,.bo x.chunk,.hs 90000015 0]),(90000012,.row 3 true 1 (List.map cI x.Client.Results)),(90000015,.row 5 false 1 (List.map cU x.out))]
def zea.sto(x:zea):Sto:=[(90008000,.cells [.s x.s])]
def zfa.sto(x:zfa):Sto:=[(90007000,.cells [.i x.many,.i x.fault.Code,.i x.fault.Index])]
theorem QBa:web prog 28:=⟨by kernel_rfl,by kernel_rfl⟩
theorem JIa:web prog 38:=⟨by kernel_rfl,by kernel_rfl⟩
theorem kTb (w : World) : Sem.run prog (Array.mapM (fun (f : Field) => do pure (f.offset, <- sizeOf f.type)) #[⟨"Year", 3, 0, false, "", "", 0⟩, ⟨"Month", 3, 1, false, "", "", 8⟩, ⟨"Day", 3, 2, false, "", "", 16⟩, ⟨"Hour", 3, 3, false, "", "", 24⟩, ⟨"Minute", 3, 4, false, "", "", 32⟩, ⟨"Second", 3, 5, false, "", "", 40⟩, ⟨"Zone", 3, 6, false, "", "", 48⟩]) w = .ok #[(0, 1), (1, 1), (2, 1), (3, 1), (4, 1), (5, 1), (6, 1)] w := by kernel_rfl
theorem zyb (w : World) : Sem.run prog (Array.mapM (fun (f : Field) => do pure (f.offset, <- sizeOf f.type)) #[⟨"Code", 3, 0, false, "", "", 0⟩, ⟨"Index", 3, 1, false, "", "", 8⟩]) w = .ok #[(0, 1), (1, 1)] w := by kernel_rfl
theorem zzb (w : World) : Sem.run prog (Array.mapM (fun (f : Field) => do pure (f.offset, <- sizeOf f.type)) #[⟨"Name", 9, 0, false, "", "", 0⟩, ⟨"Value", 9, 1, false, "", "", 16⟩]) w = .ok #[(0, 1), (1, 1)] w := by kernel_rfl
theorem zAb (w : World) : Sem.run prog (Array.mapM (fun (f : Field) => do pure (f.offset, <- sizeOf f.type)) #[⟨"Type", 9, 0, false, "", "", 0⟩, ⟨"Sub", 9, 1, false, "", "", 16⟩, ⟨"Params", 125, 2, false, "", "", 32⟩]) w = .ok #[(0, 1), (1, 1), (2, 1)] w := by kernel_rfl
theorem Yja (w : World) : Sem.run prog (Array.mapM (fun (f : Field) => do pure (f.offset, <- sizeOf f.type)) #[⟨"Fields", 23, 0, false, "", "", 0⟩, ⟨"Body", 24, 1, false, "", "", 24⟩]) w = .ok #[(0, 1), (1, 1)] w := by kernel_rfl
theorem zBb (w : World) : Sem.run prog (Array.mapM (fun (f : Field) => do pure (f.offset, <- sizeOf f.type)) #[⟨"Name", 9, 0, false, "", "", 0⟩, ⟨"Value", 9, 1, false, "", "", 16⟩]) w = .ok #[(0, 1), (1, 1)] w := by kernel_rfl
theorem kUb (w : World) : Sem.run prog (Array.mapM (fun (f : Field) => do pure (f.offset, <- sizeOf f.type)) #[⟨"Fields", 23, 0, false, "", "", 0⟩, ⟨"Body", 24, 1, false, "", "", 24⟩, ⟨"Parts", 40, 2, false, "", "", 48⟩]) w = .ok #[(0, 1), (1, 1), (2, 1)] w := by kernel_rfl
theorem Yka (w : World) : Sem.run prog (Array.mapM (fun (f : Field) => do pure (f.offset, <- sizeOf f.type)) #[⟨"name", 9, 0, false, "", "posthouse/media", 0⟩, ⟨"number", 3, 1, false, "", "posthouse/media", 16⟩, ⟨"star", 4, 2, false, "", "posthouse/media", 24⟩, ⟨"value", 9, 3, false, "", "posthouse/media", 32⟩]) w = .ok #[(0, 1), (1, 1), (2, 1), (3, 1)] w := by kernel_rfl
theorem WNa (w : World) : Sem.run prog (Array.mapM (fun (f : Field) => do pure (f.offset, <- sizeOf f.type)) #[⟨"s", 9, 0, false, "", "posthouse/media", 0⟩]) w = .ok #[(0, 1)] w := by kernel_rfl
theorem Vla (w : World) : Sem.run prog (Array.mapM (fun (f : Field) => do pure (f.offset, <- sizeOf f.type)) #[⟨"many", 3, 0, false, "", "posthouse/parts", 0⟩, ⟨"fault", 28, 1, false, "", "posthouse/parts", 8⟩]) w = .ok #[(0, 1), (1, 2)] w := by kernel_rfl
theorem V1a (w : World) : Sem.run prog (Array.mapM (fun (f : Field) => do pure (f.offset, <- sizeOf f.type)) #[⟨"part", 42, 0, false, "", "posthouse/parts", 0⟩, ⟨"depth", 3, 3, false, "", "posthouse/parts", 72⟩]) w = .ok #[(0, 3), (3, 1)] w := by kernel_rfl
theorem Vma:TyOk prog 183 12 96 (.agg #[.int .i64 0,.int .i64 0,.int .i64 0,.int .i64 0,.int .i64 0,.int .i64 0,.int .i64 0,.int .i64 0,.int .i64 0,.int .i64 0,.int .i64 0,.int .i64 0]) (.array 12 3):=⟨by kernel_rfl,by kernel_rfl⟩
theorem jJa:TyOk prog 112 12 192 (.agg #[.string ⟨#[]⟩,.string ⟨#[]⟩,.string ⟨#[]⟩,.string ⟨#[]⟩,.string ⟨#[]⟩,.string ⟨#[]⟩,.string ⟨#[]⟩,.string ⟨#[]⟩,.string ⟨#[]⟩,.string ⟨#[]⟩,.string ⟨#[]⟩,.string ⟨#[]⟩]) (.array 12 9):=⟨by kernel_rfl,by kernel_rfl⟩
theorem Zqa:TyOk prog 110 7 112 (.agg #[.string ⟨#[]⟩,.string ⟨#[]⟩,.string ⟨#[]⟩,.string ⟨#[]⟩,.string ⟨#[]⟩,.string ⟨#[]⟩,.string ⟨#[]⟩]) (.array 7 9):=⟨by kernel_rfl,by kernel_rfl⟩
theorem kVb : TyOk prog 68 7 56 (.agg #[.int .i64 0, .int .i64 0, .int .i64 0, .int .i64 0, .int .i64 0, .int .i64 0, .int .i64 0]) (.struct #[⟨"Year", 3, 0, false, "", "", 0⟩, ⟨"Month", 3, 1, false, "", "", 8⟩, ⟨"Day", 3, 2, false, "", "", 16⟩, ⟨"Hour", 3, 3, false, "", "", 24⟩, ⟨"Minute", 3, 4, false, "", "", 32⟩, ⟨"Second", 3, 5, false, "", "", 40⟩, ⟨"Zone", 3, 6, false, "", "", 48⟩]) := ⟨by kernel_rfl, by kernel_rfl⟩
theorem Zra : TyOk prog 28 2 16 (.agg #[.int .i64 0, .int .i64 0]) (.struct #[⟨"Code", 3, 0, false, "", "", 0⟩, ⟨"Index", 3, 1, false, "", "", 8⟩]) := ⟨by kernel_rfl, by kernel_rfl⟩
theorem kma : TyOk prog 38 2 32 (.agg #[.string ⟨#[]⟩, .string ⟨#[]⟩]) (.struct #[⟨"Name", 9, 0, false, "", "", 0⟩, ⟨"Value", 9, 1, false, "", "", 16⟩]) := ⟨by kernel_rfl, by kernel_rfl⟩
theorem zCb : TyOk prog 127 3 56 (.agg #[.string ⟨#[]⟩, .string ⟨#[]⟩, .slice none 0 0]) (.struct #[⟨"Type", 9, 0, false, "", "", 0⟩, ⟨"Sub", 9, 1, false, "", "", 16⟩, ⟨"Params", 125, 2, false, "", "", 32⟩]) := ⟨by kernel_rfl, by kernel_rfl⟩
theorem yZa : TyOk prog 26 2 48 (.agg #[.slice none 0 0, .slice none 0 0]) (.struct #[⟨"Fields", 23, 0, false, "", "", 0⟩, ⟨"Body", 24, 1, false, "", "", 24⟩]) := ⟨by kernel_rfl, by kernel_rfl⟩
theorem kTa : TyOk prog 131 2 32 (.agg #[.string ⟨#[]⟩, .string ⟨#[]⟩]) (.struct #[⟨"Name", 9, 0, false, "", "", 0⟩, ⟨"Value", 9, 1, false, "", "", 16⟩]) := ⟨by kernel_rfl, by kernel_rfl⟩
theorem WOa : TyOk prog 42 3 72 (.agg #[.slice none 0 0, .slice none 0 0, .slice none 0 0]) (.struct #[⟨"Fields", 23, 0, false, "", "", 0⟩, ⟨"Body", 24, 1, false, "", "", 24⟩, ⟨"Parts", 40, 2, false, "", "", 48⟩]) := ⟨by kernel_rfl, by kernel_rfl⟩
theorem ty_bool:TyOk prog 4 1 1 (.bool false) .bool:=⟨by kernel_rfl,by kernel_rfl⟩
theorem qFb : TyOk prog 155 1 16 (.nilIface) (.interface #[("Error", 158)]) := ⟨by kernel_rfl, by kernel_rfl⟩
theorem y0a:TyOk prog 162 1 8 (.nilFunc) (.func #[42,3] #[4] false):=⟨by kernel_rfl,by kernel_rfl⟩
theorem wFa:TyOk prog 161 1 8 (.nilFunc) (.func #[3,118] #[4] false):=⟨by kernel_rfl,by kernel_rfl⟩
theorem w4a:TyOk prog 3 1 8 (.int .i64 0) (.int .i64):=⟨by kernel_rfl,by kernel_rfl⟩
theorem ty_int32:TyOk prog 21 1 4 (.int .i32 0) (.int .i32):=⟨by kernel_rfl,by kernel_rfl⟩
theorem y1a : TyOk prog 231 4 48 (.agg #[.string ⟨#[]⟩, .int .i64 0, .bool false, .string ⟨#[]⟩]) (.struct #[⟨"name", 9, 0, false, "", "posthouse/media", 0⟩, ⟨"number", 3, 1, false, "", "posthouse/media", 16⟩, ⟨"star", 4, 2, false, "", "posthouse/media", 24⟩, ⟨"value", 9, 3, false, "", "posthouse/media", 32⟩]) := ⟨by kernel_rfl, by kernel_rfl⟩
theorem WPa : TyOk prog 227 1 16 (.agg #[.string ⟨#[]⟩]) (.struct #[⟨"s", 9, 0, false, "", "posthouse/media", 0⟩]) := ⟨by kernel_rfl, by kernel_rfl⟩
theorem Vna : TyOk prog 92 3 24 (.agg #[.int .i64 0, .int .i64 0, .int .i64 0]) (.struct #[⟨"many", 3, 0, false, "", "posthouse/parts", 0⟩, ⟨"fault", 28, 1, false, "", "posthouse/parts", 8⟩]) := ⟨by kernel_rfl, by kernel_rfl⟩
theorem wWa : TyOk prog 118 4 80 (.agg #[.slice none 0 0, .slice none 0 0, .slice none 0 0, .int .i64 0]) (.struct #[⟨"part", 42, 0, false, "", "posthouse/parts", 0⟩, ⟨"depth", 3, 3, false, "", "posthouse/parts", 72⟩]) := ⟨by kernel_rfl, by kernel_rfl⟩
theorem zIa:TyOk prog 23 1 24 (.slice none 0 0) (.slice 38):=⟨by kernel_rfl,by kernel_rfl⟩
theorem vva:TyOk prog 22 1 24 (.slice none 0 0) (.slice 26):=⟨by kernel_rfl,by kernel_rfl⟩
theorem k0a:TyOk prog 125 1 24 (.slice none 0 0) (.slice 131):=⟨by kernel_rfl,by kernel_rfl⟩
theorem kUa:TyOk prog 40 1 24 (.slice none 0 0) (.slice 42):=⟨by kernel_rfl,by kernel_rfl⟩
theorem JJa:TyOk prog 59 1 24 (.slice none 0 0) (.slice 3):=⟨by kernel_rfl,by kernel_rfl⟩
theorem wXa:TyOk prog 229 1 24 (.slice none 0 0) (.slice 231):=⟨by kernel_rfl,by kernel_rfl⟩
theorem V2a:TyOk prog 181 1 24 (.slice none 0 0) (.slice 23):=⟨by kernel_rfl,by kernel_rfl⟩
theorem Zsa:TyOk prog 120 1 24 (.slice none 0 0) (.slice 24):=⟨by kernel_rfl,by kernel_rfl⟩
theorem kWb:TyOk prog 54 1 24 (.slice none 0 0) (.slice 9):=⟨by kernel_rfl,by kernel_rfl⟩
theorem zra:TyOk prog 24 1 24 (.slice none 0 0) (.slice 5):=⟨by kernel_rfl,by kernel_rfl⟩
theorem zya:TyOk prog 9 1 16 (.string ⟨#[]⟩) .string:=⟨by kernel_rfl,by kernel_rfl⟩
theorem ty_uint:TyOk prog 184 1 8 (.int .u64 0) (.int .u64):=⟨by kernel_rfl,by kernel_rfl⟩
theorem wOb:TyOk prog 190 1 8 (.int .u64 0) (.int .u64):=⟨by kernel_rfl,by kernel_rfl⟩
theorem zJa:TyOk prog 5 1 1 (.int .u8 0) (.int .u8):=⟨by kernel_rfl,by kernel_rfl⟩
def tab : Tab := [(183, ⟨12, 96, (.agg #[.int .i64 0, .int .i64 0, .int .i64 0, .int .i64 0, .int .i64 0, .int .i64 0, .int .i64 0, .int .i64 0, .int .i64 0, .int .i64 0, .int .i64 0, .int .i64 0]), (.array 12 3), none⟩), (112, ⟨12, 192, (.agg #[.string ⟨#[]⟩, .string ⟨#[]⟩, .string ⟨#[]⟩, .string ⟨#[]⟩, .string ⟨#[]⟩, .string ⟨#[]⟩, .string ⟨#[]⟩, .string ⟨#[]⟩, .string ⟨#[]⟩, .string ⟨#[]⟩, .string ⟨#[]⟩, .string ⟨#[]⟩]), (.array 12 9), none⟩), (110, ⟨7, 112, (.agg #[.string ⟨#[]⟩, .string ⟨#[]⟩, .string ⟨#[]⟩, .string ⟨#[]⟩, .string ⟨#[]⟩, .string ⟨#[]⟩, .string ⟨#[]⟩]), (.array 7 9), none⟩), (68, ⟨7, 56, (.agg #[.int .i64 0, .int .i64 0, .int .i64 0, .int .i64 0, .int .i64 0, .int .i64 0, .int .i64 0]), (.struct #[⟨"Year", 3, 0, false, "", "", 0⟩, ⟨"Month", 3, 1, false, "", "", 8⟩, ⟨"Day", 3, 2, false, "", "", 16⟩, ⟨"Hour", 3, 3, false, "", "", 24⟩, ⟨"Minute", 3, 4, false, "", "", 32⟩, ⟨"Second", 3, 5, false, "", "", 40⟩, ⟨"Zone", 3, 6, false, "", "", 48⟩]), (some #[(0, 1), (1, 1), (2, 1), (3, 1), (4, 1), (5, 1), (6, 1)])⟩), (28, ⟨2, 16, (.agg #[.int .i64 0, .int .i64 0]), (.struct #[⟨"Code", 3, 0, false, "", "", 0⟩, ⟨"Index", 3, 1, false, "", "", 8⟩]), (some #[(0, 1), (1, 1)])⟩), (38, ⟨2, 32, (.agg #[.string ⟨#[]⟩, .string ⟨#[]⟩]), (.struct #[⟨"Name", 9, 0, false, "", "", 0⟩, ⟨"Value", 9, 1, false, "", "", 16⟩]), (some #[(0, 1), (1, 1)])⟩), (127, ⟨3, 56, (.agg #[.string ⟨#[]⟩, .string ⟨#[]⟩, .slice none 0 0]), (.struct #[⟨"Type", 9, 0, false, "", "", 0⟩, ⟨"Sub", 9, 1, false, "", "", 16⟩, ⟨"Params", 125, 2, false, "", "", 32⟩]), (some #[(0, 1), (1, 1), (2, 1)])⟩), (26, ⟨2, 48, (.agg #[.slice none 0 0, .slice none 0 0]), (.struct #[⟨"Fields", 23, 0, false, "", "", 0⟩, ⟨"Body", 24, 1, false, "", "", 24⟩]), (some #[(0, 1), (1, 1)])⟩), (131, ⟨2, 32, (.agg #[.string ⟨#[]⟩, .string ⟨#[]⟩]), (.struct #[⟨"Name", 9, 0, false, "", "", 0⟩, ⟨"Value", 9, 1, false, "", "", 16⟩]), (some #[(0, 1), (1, 1)])⟩), (42, ⟨3, 72, (.agg #[.slice none 0 0, .slice none 0 0, .slice none 0 0]), (.struct #[⟨"Fields", 23, 0, false, "", "", 0⟩, ⟨"Body", 24, 1, false, "", "", 24⟩, ⟨"Parts", 40, 2, false, "", "", 48⟩]), (some #[(0, 1), (1, 1), (2, 1)])⟩), (4, ⟨1, 1, (.bool false), .bool, none⟩), (155, ⟨1, 16, (.nilIface), (.interface #[("Error", 158)]), none⟩), (162, ⟨1, 8, (.nilFunc), (.func #[42, 3] #[4] false), none⟩), (161, ⟨1, 8, (.nilFunc), (.func #[3, 118] #[4] false), none⟩), (3, ⟨1, 8, (.int .i64 0), (.int .i64), none⟩), (21, ⟨1, 4, (.int .i32 0), (.int .i32), none⟩), (231, ⟨4, 48, (.agg #[.string ⟨#[]⟩, .int .i64 0, .bool false, .string ⟨#[]⟩]), (.struct #[⟨"name", 9, 0, false, "", "posthouse/media", 0⟩, ⟨"number", 3, 1, false, "", "posthouse/media", 16⟩, ⟨"star", 4, 2, false, "", "posthouse/media", 24⟩, ⟨"value", 9, 3, false, "", "posthouse/media", 32⟩]), (some #[(0, 1), (1, 1), (2, 1), (3, 1)])⟩), (227, ⟨1, 16, (.agg #[.string ⟨#[]⟩]), (.struct #[⟨"s", 9, 0, false, "", "posthouse/media", 0⟩]), (some #[(0, 1)])⟩), (92, ⟨3, 24, (.agg #[.int .i64 0, .int .i64 0, .int .i64 0]), (.struct #[⟨"many", 3, 0, false, "", "posthouse/parts", 0⟩, ⟨"fault", 28, 1, false, "", "posthouse/parts", 8⟩]), (some #[(0, 1), (1, 2)])⟩), (118, ⟨4, 80, (.agg #[.slice none 0 0, .slice none 0 0, .slice none 0 0, .int .i64 0]), (.struct #[⟨"part", 42, 0, false, "", "posthouse/parts", 0⟩, ⟨"depth", 3, 3, false, "", "posthouse/parts", 72⟩]), (some #[(0, 3), (3, 1)])⟩), (23, ⟨1, 24, (.slice none 0 0), (.slice 38), none⟩), (22, ⟨1, 24, (.slice none 0 0), (.slice 26), none⟩), (125, ⟨1, 24, (.slice none 0 0), (.slice 131), none⟩), (40, ⟨1, 24, (.slice none 0 0), (.slice 42), none⟩), (59, ⟨1, 24, (.slice none 0 0), (.slice 3), none⟩), (229, ⟨1, 24, (.slice none 0 0), (.slice 231), none⟩), (181, ⟨1, 24, (.slice none 0 0), (.slice 23), none⟩), (120, ⟨1, 24, (.slice none 0 0), (.slice 24), none⟩), (54, ⟨1, 24, (.slice none 0 0), (.slice 9), none⟩), (24, ⟨1, 24, (.slice none 0 0), (.slice 5), none⟩), (9, ⟨1, 16, (.string ⟨#[]⟩), .string, none⟩), (184, ⟨1, 8, (.int .u64 0), (.int .u64), none⟩), (190, ⟨1, 8, (.int .u64 0), (.int .u64), none⟩), (5, ⟨1, 1, (.int .u8 0), (.int .u8), none⟩)]
theorem tk:zEa prog tab:=(kba Vma (kba jJa (kba Zqa (qRa kVb kTb (qRa Zra zyb (qRa kma zzb (qRa zCb zAb (qRa yZa Yja (qRa kTa zBb (qRa WOa kUb (kba ty_bool (kba qFb (kba y0a (kba wFa (kba w4a (kba ty_int32 (qRa y1a Yka (qRa WPa WNa (qRa Vna Vla (qRa wWa V1a (kba zIa (kba vva (kba k0a (kba kUa (kba JJa (kba wXa (kba V2a (kba Zsa (kba kWb (kba zra (kba zya (kba ty_uint (kba wOb (kba zJa tab_nil))))))))))))))))))))))))))))))))))
def zma.ok(x:zma):Prop:=ok64 x.Code/\ok64 x.Index
def zma.bk(x:zma):Nat:=(fun _=>1) x.Code+(fun _=>1) x.Index+1
instance:Inhabited zma:=⟨⟨default,default⟩⟩
def yRa.ok(x:yRa):Prop:=Zba x.Address/\(okL Zba) x.To
def yRa.bk(x:yRa):Nat:=(fun s=>s.length+1) x.Address+(bkL (fun s=>s.length+1)) x.To+1
instance:Inhabited yRa:=⟨⟨default,default⟩⟩
def zqa.ok(x:zqa):Prop:=Zba x.Address/\ok64 x.Notify
def zqa.bk(x:zqa):Nat:=(fun s=>s.length+1) x.Address+(fun _=>1) x.Notify+1
instance:Inhabited zqa:=⟨⟨default,default⟩⟩
def qSa.ok(x:qSa):Prop:=Zba x.From/\(okL zqa.ok) x.To/\Zba x.Id
def qSa.bk(x:qSa):Nat:=(fun s=>s.length+1) x.From+(bkL zqa.bk) x.To+(fun s=>s.length+1) x.Id+1
instance:Inhabited qSa:=⟨⟨default,default,default⟩⟩
def zca.ok(x:zca):Prop:=Zba x.Name/\Zba x.Value
def zca.bk(x:zca):Nat:=(fun s=>s.length+1) x.Name+(fun s=>s.length+1) x.Value+1
instance:Inhabited zca:=⟨⟨default,default⟩⟩
def zda.ok(x:zda):Prop:=(okL zca.ok) x.Fields/\(okL (fun _=>True)) x.Body
def zda.bk(x:zda):Nat:=(bkL zca.bk) x.Fields+(bkL (fun _=>1)) x.Body+1
instance:Inhabited zda:=⟨⟨default,default⟩⟩
def WMa.ok(x:WMa):Prop:=qSa.ok x.Envelope/\zda.ok x.Message
def WMa.bk(x:WMa):Nat:=qSa.bk x.Envelope+zda.bk x.Message+1
instance:Inhabited WMa:=⟨⟨default,default⟩⟩
def jga.ok(x:jga):Prop:=ok64 x.Year/\ok64 x.Month/\ok64 x.Day/\ok64 x.Hour/\ok64 x.Minute/\ok64 x.Second/\ok64 x.Zone
def jga.bk(x:jga):Nat:=(fun _=>1) x.Year+(fun _=>1) x.Month+(fun _=>1) x.Day+(fun _=>1) x.Hour+(fun _=>1) x.Minute+(fun _=>1) x.Second+(fun _=>1) x.Zone+1
instance:Inhabited jga:=⟨⟨default,default,default,default,default,default,default⟩⟩
def yYa.ok(x:yYa):Prop:=Zba x.Name/\WMa.ok x.Mail/\(fun _=>True) x.Pipelined/\(okL (fun _=>True)) x.Buffer/\ok64 x.Expected/\(fun _=>True) x.Whole/\(fun _=>True) x.Done/\(okL ok64) x.Results
def yYa.bk(x:yYa):Nat:=(fun s=>s.length+1) x.Name+WMa.bk x.Mail+(fun _=>1) x.Pipelined+(bkL (fun _=>1)) x.Buffer+(fun _=>1) x.Expected+(fun _=>1) x.Whole+(fun _=>1) x.Done+(bkL (fun _=>1)) x.Results+1
instance:Inhabited yYa:=⟨⟨default,default,default,default,default,default,default,default⟩⟩
def kca.ok(x:kca):Prop:=yYa.ok x.Client/\(okL (fun _=>True)) x.content/\(fun _=>True) x.chunk/\(okL (fun _=>True)) x.out
def kca.bk(x:kca):Nat:=yYa.bk x.Client+(bkL (fun _=>1)) x.content+(fun _=>1) x.chunk+(bkL (fun _=>1)) x.out+1
instance:Inhabited kca:=⟨⟨default,default,default,default⟩⟩
def zoa.ok(x:zoa):Prop:=Zba x.Name/\Zba x.Value
def zoa.bk(x:zoa):Nat:=(fun s=>s.length+1) x.Name+(fun s=>s.length+1) x.Value+1
instance:Inhabited zoa:=⟨⟨default,default⟩⟩
def kua.ok(x:kua):Prop:=Zba x.Type_/\Zba x.Sub/\(okL zoa.ok) x.Params
def kua.bk(x:kua):Nat:=(fun s=>s.length+1) x.Type_+(fun s=>s.length+1) x.Sub+(bkL zoa.bk) x.Params+1
instance:Inhabited kua:=⟨⟨default,default,default⟩⟩
def zea.ok(x:zea):Prop:=Zba x.s
def zea.bk(x:zea):Nat:=(fun s=>s.length+1) x.s+1
instance:Inhabited zea:=⟨⟨default⟩⟩
def zia.ok(x:zia):Prop:=Zba x.name/\ok64 x.number/\(fun _=>True) x.star/\Zba x.value
def zia.bk(x:zia):Nat:=(fun s=>s.length+1) x.name+(fun _=>1) x.number+(fun _=>1) x.star+(fun s=>s.length+1) x.value+1
instance:Inhabited zia:=⟨⟨default,default,default,default⟩⟩
def zfa.ok(x:zfa):Prop:=ok64 x.many/\zma.ok x.fault
def zfa.bk(x:zfa):Nat:=(fun _=>1) x.many+zma.bk x.fault+1
instance:Inhabited zfa:=⟨⟨default,default⟩⟩
theorem Zta:Qza prog 9 1 cS Zba (fun s=>s.length+1):=opens_S zya.u (by kernel_rfl)
theorem zDb:Qza prog 38 2 zca.pc zca.ok zca.bk:=⟨by kernel_rfl,fun _=>rfl,fun {H enc W fuel cs d} h=>by
 obtain ⟨xs,n,_,rfl,hl,hlen,hf⟩:=DataW.trod_struct kma.u h;have hl2:cs.length=2:=hl.trans (by kernel_rfl)
 match xs,hlen with
 | [y0,y1],_=>
  obtain ⟨x0,r0,o0,b0⟩:=Zta.op (show _=some y0 from hf 0 _ rfl)
  replace r0:RelC W _ (List.take (prog.cellsOf 9) (List.drop 0 cs)):=r0
  rw[Zta.cells]at r0;obtain ⟨x1,r1,o1,b1⟩:=Zta.op (show _=some y1 from hf 1 _ rfl)
  replace r1:RelC W _ (List.take (prog.cellsOf 9) (List.drop 1 cs)):=r1
  rw[Zta.cells]at r1;exact ⟨⟨x0,x1⟩,(Wsa (off:=0) rfl r0 (Wsa (off:=1) rfl r1 (qAb hl2))),⟨o0,o1⟩,by simp only[List.map,Rows.uptoBulk,Rows.uptoBulkAll,zca.bk];omega⟩⟩
theorem KCa:Qza prog 23 1 (cL zca.pc) (okL zca.ok) (bkL zca.bk):=kOb zDb rfl zIa.u (by kernel_rfl)
theorem op_uint8:Qza prog 5 1 cU (fun _=>True) (fun _=>1):=opens_U zJa.u (by kernel_rfl)
theorem YNa:Qza prog 24 1 (cL cU) (okL (fun _=>True)) (bkL (fun _=>1)):=kOb op_uint8 rfl zra.u (by kernel_rfl)
theorem Yla:Qza prog 26 2 zda.pc zda.ok zda.bk:=⟨by kernel_rfl,fun _=>rfl,fun {H enc W fuel cs d} h=>by
 obtain ⟨xs,n,_,rfl,hl,hlen,hf⟩:=DataW.trod_struct yZa.u h;have hl2:cs.length=2:=hl.trans (by kernel_rfl)
 match xs,hlen with
 | [y0,y1],_=>
  obtain ⟨x0,r0,o0,b0⟩:=KCa.op (show _=some y0 from hf 0 _ rfl)
  replace r0:RelC W _ (List.take (prog.cellsOf 23) (List.drop 0 cs)):=r0
  rw[KCa.cells]at r0;obtain ⟨x1,r1,o1,b1⟩:=YNa.op (show _=some y1 from hf 1 _ rfl)
  replace r1:RelC W _ (List.take (prog.cellsOf 24) (List.drop 1 cs)):=r1
  rw[YNa.cells]at r1;exact ⟨⟨x0,x1⟩,(Wsa (off:=0) rfl r0 (Wsa (off:=1) rfl r1 (qAb hl2))),⟨o0,o1⟩,by simp only[List.map,Rows.uptoBulk,Rows.uptoBulkAll,zda.bk];omega⟩⟩
theorem V3a:Qza prog 22 1 (cL zda.pc) (okL zda.ok) (bkL zda.bk):=kOb Yla rfl vva.u (by kernel_rfl)
theorem op_int:Qza prog 3 1 cI ok64 (fun _=>1):=opens_I w4a.u (by kernel_rfl)
def R_In(a0:Int)(a1:Int)(a2:Int):Option Bool:=
 ((bif decide (a1<=a0) then some (decide (a0<=a2)) else some false):Option Bool).bind fun (j1:Bool)=>some j1
def R_At(a0:Int)(a1:Int):Option zma:=
 some ((zma.mk a0 a1))
def qTa(a0:UInt8):Option Bool:=
 ((R_In ((a0.toNat:Int)) 97 122).bind fun v2=>(bif v2 then some true else (R_In ((a0.toNat:Int)) 65 90).bind fun v5=>(bif v5 then some true else (R_In ((a0.toNat:Int)) 48 57).bind fun v8=>some v8)):Option Bool).bind fun (j1:Bool)=>some j1
def QCa(a0:Str)(s1:Int):Option (Step Int (Unit ⊕ Int)):=
 (bif decide (s1 < (a0.length:Int)) then (idx a0 s1).bind fun v7=>(bif ((v7.toNat:Int)==64) then some (.out (.inr s1)) else some (.cont (w64 (s1+1)))) else some (.out (.inl (()))))
def zEb(a0:Str):Option Int:=
 (iter (QCa a0) 0).bind (Sum.elim (fun b2=>some ((a0.length:Int))) (fun b3=>some b3))
def qpa(a0:Str)(s1:Int):Option (Step Int (Unit ⊕ Bool)):=
 (bif decide (s1 < (a0.length:Int)) then (idx a0 s1).bind fun v7=>((idx a0 s1).bind fun v10=>(bif ((v10.toNat:Int)==46) then (bif (s1==0) then some true else (bif (s1==(w64 ((a0.length:Int) - 1))) then some true else (idx a0 ((w64 (s1 - 1)))).bind fun v15=>some (((v15.toNat:Int)==46)))) else some false):Option Bool).bind fun (j9:Bool)=>(bif j9 then some (.out (.inr false)) else ((R_In ((v7.toNat:Int)) 97 122).bind fun v19=>(bif (!v19) then (R_In ((v7.toNat:Int)) 48 57).bind fun v22=>(bif (!v22) then (idx a0 s1).bind fun v25=>(bif ((v25.toNat:Int) !=45) then (idx a0 s1).bind fun v28=>some (((v28.toNat:Int) !=46)) else some false) else some false) else some false):Option Bool).bind fun (j18:Bool)=>(bif j18 then some (.out (.inr false)) else some (.cont (w64 (s1+1))))) else some (.out (.inl (()))))
def jha(a0:Str):Option Bool:=
 (iter (qpa a0) 0).bind (Sum.elim (fun b2=>(R_In ((a0.length:Int)) 1 60).bind fun v31=>some v31) (fun b3=>some b3))
def vha(a0:Str)(v1:Int)(s3:Int):Option (Step Int (Unit ⊕ Bool)):=
 (bif decide (s3 < v1) then (idx a0 s3).bind fun v9=>((qTa v9).bind fun v12=>(bif (!v12) then (bif ((v9.toNat:Int) !=45) then (bif ((v9.toNat:Int) !=95) then (bif ((v9.toNat:Int) !=46) then (bif ((v9.toNat:Int) !=43) then some (((v9.toNat:Int) !=61)) else some false) else some false) else some false) else some false) else some false):Option Bool).bind fun (j11:Bool)=>(bif j11 then some (.out (.inr false)) else some (.cont (w64 (s3+1)))) else some (.out (.inl (()))))
def yla(a0:Str):Option Bool:=
 (zEb a0).bind fun v1=>(iter (vha a0 v1) 0).bind (Sum.elim (fun b4=>((R_In v1 1 60).bind fun v21=>(bif v21 then (bif decide (v1 < (a0.length:Int)) then (cut a0 ((w64 (v1+1))) ((a0.length:Int))).bind fun v25=>(jha v25).bind fun v27=>some v27 else some false) else some false):Option Bool).bind fun (j20:Bool)=>some j20) (fun b5=>some b5))
def zja(a0:Int)(a1:Int):Option zma:=
 some ((zma.mk a0 a1))
def zua:Option zma:=
 some ((zma.mk 0 0))
def zpa(a0:zma):Option Bool:=
 some ((a0.Code !=0))
def jia(a0:Int):Option Bool:=
 ((bif decide ((-68719476736)<=a0) then some (decide (a0<=68719476736)) else some false):Option Bool).bind fun (j1:Bool)=>some j1
def wGa(a0:UInt8):Option Bool:=
 ((bif decide (97<=(a0.toNat:Int)) then (bif decide ((a0.toNat:Int)<=122) then some true else (bif decide (65<=(a0.toNat:Int)) then (bif decide ((a0.toNat:Int)<=90) then some true else (bif decide (48<=(a0.toNat:Int)) then some (decide ((a0.toNat:Int)<=57)) else some false)) else (bif decide (48<=(a0.toNat:Int)) then some (decide ((a0.toNat:Int)<=57)) else some false))) else (bif decide (65<=(a0.toNat:Int)) then (bif decide ((a0.toNat:Int)<=90) then some true else (bif decide (48<=(a0.toNat:Int)) then some (decide ((a0.toNat:Int)<=57)) else some false)) else (bif decide (48<=(a0.toNat:Int)) then some (decide ((a0.toNat:Int)<=57)) else some false))):Option Bool).bind fun (j1:Bool)=>some j1
def wia(a0:List UInt8)(a1:List UInt8):Option Bool:=
 some ((a0==a1))
def qUa(a0:List UInt8)(a1:List UInt8):Option Bool:=
 ((bif decide ((a1.length:Int)<=(a0.length:Int)) then (cut a0 ((w64 ((a0.length:Int) - (a1.length:Int)))) ((a0.length:Int))).bind fun v3=>(wia v3 a1).bind fun v5=>some v5 else some false):Option Bool).bind fun (j1:Bool)=>some j1
def wja(a b:List UInt8):Option Int:=if a.length < 4294967281/\b.length=2 then some (Lib.index a b) else none
def zsa(s:Str)(c:UInt8):Option Int:=some (Lib.indexByte s c)
def kBa(s t:Str):Option Bool:=if s.length < 4294967281 then some (Lib.contains s t) else none
def qqa(s t:Str):Option (Str × Str × Bool):=if s.length < 4294967281 then some (Lib.cut s t) else none
def kra(a0:Int):Option Bool:=
 ((bif decide (0<=a0) then some (decide (a0 < 55296)) else some false):Option Bool).bind fun (j1:Bool)=>(bif j1 then some true else ((bif decide (57343 < a0) then some (decide (a0<=1114111)) else some false):Option Bool).bind fun (j4:Bool)=>(bif j4 then some true else some false))
def k5a(a0:Str)(s7:Nat):Option (Step Nat (Unit ⊕ Int)):=
 (bif decide (s7 < a0.length) then (bif ((KBa a0 s7)==65533) then some (.out (.inr (((s7:Nat):Int)))) else some (.cont (s7+jea a0 s7))) else some (.out (.inl (()))))
def w5a(a0:Str)(a1:Int)(j23:Int × Int)(s36:Int):Option (Step Int Unit):=
 (bif decide (s36 < (((yXa a1)).length:Int)) then (idx a0 ((w64 (j23.2 - s36)))).bind fun v40=>(idx ((yXa a1)) ((w64 (j23.1 - s36)))).bind fun v42=>(bif ((v40.toNat:Int) !=(v42.toNat:Int)) then none else some (.cont (w64 (s36+1)))) else some (.out (())))
def k6a(a0:Str)(a1:Int)(j23:Int × Int):Option (Step Int (Unit ⊕ Int)):=
 (iter (w5a a0 a1 j23) 1).bind fun b37=>some (.out (.inr ((w64 (j23.2 - j23.1)))))
def k7a(a0:Str)(a1:Int)(s17:Int):Option (Step Int (Unit ⊕ Int)):=
 (bif decide (s17 < (a0.length:Int)) then (idx a0 s17).bind fun v24=>(idx ((yXa a1)) ((w64 ((((yXa a1)).length:Int) - 1)))).bind fun v26=>(bif ((v24.toNat:Int) !=(v26.toNat:Int)) then (cut a0 ((w64 (s17+1))) ((a0.length:Int))).bind fun v29=>(idx ((yXa a1)) ((w64 ((((yXa a1)).length:Int) - 1)))).bind fun v31=>(zsa v29 v31).bind fun v33=>(bif decide (v33 < 0) then some (.out (.inr ((-1)))) else (k6a a0 a1 ((w64 ((((yXa a1)).length:Int) - 1)),(w64 (s17+(w64 (v33+1))))))) else (k6a a0 a1 ((w64 ((((yXa a1)).length:Int) - 1)),s17))) else some (.out (.inl (()))))
def z2a(a0:Str)(a1:Int):Option Int:=
 ((bif decide (0<=a1) then some (decide (a1 < 128)) else some false):Option Bool).bind fun (j1:Bool)=>(bif j1 then (zsa a0 ((toU8 a1))).bind fun v4=>some v4 else (bif (a1==65533) then (iter (k5a a0) 0).bind (Sum.elim (fun b8=>some ((-1))) (fun b9=>some b9)) else (kra a1).bind fun v14=>(bif (!v14) then some ((-1)) else (iter (k7a a0 a1) ((w64 ((((yXa a1)).length:Int) - 1)))).bind (Sum.elim (fun b18=>some ((-1))) (fun b19=>some b19)))))
def zza(a0:Int):Option Bool:=
 some (decide (8 < a0))
def k8a(a0:Str)(a1:Str)(s12:Nat):Option (Step Nat (Unit ⊕ Int)):=
 (bif decide (s12 < a0.length) then (z2a a1 ((KBa a0 s12))).bind fun v18=>(bif decide (0<=v18) then some (.out (.inr (((s12:Nat):Int)))) else some (.cont (s12+jea a0 s12))) else some (.out (.inl (()))))
def q5a(a0:Str)(a1:Str):Option Int:=
 (bif (a1==([]:Str)) then some ((-1)) else (bif ((a1.length:Int)==1) then (idx a1 0).bind fun v3=>((bif decide (128<=(v3.toNat:Int)) then some 65533 else some ((v3.toNat:Int))):Option Int).bind fun (j5:Int)=>(z2a a0 j5).bind fun v7=>some v7 else (zza ((a0.length:Int))).bind fun v9=>(bif v9 then none else (iter (k8a a0 a1) 0).bind (Sum.elim (fun b13=>some ((-1))) (fun b14=>some b14)))))
def YOa(t:Str):Bool:=t.all fun c=>decide (c.toNat < 128)
def kQa(s t:Str):Option Int:=if s.length < 4294967281/\t.length < 4294967281/\2<=t.length/\YOa t=true then some (Lib.indexAny s t) else none
def zUa(a0:Str)(a1:Str):Option Bool:=
 ((bif decide ((a1.length:Int)<=(a0.length:Int)) then (cut a0 0 ((a1.length:Int))).bind fun v3=>some ((v3==a1)) else some false):Option Bool).bind fun (j1:Bool)=>some j1
def z3a(a0:Str)(a1:Str):Option Bool:=
 (zUa a0 a1).bind fun v1=>some v1
def zVa(a0:Str)(a1:Str):Option Bool:=
 ((bif decide ((a1.length:Int)<=(a0.length:Int)) then (cut a0 ((w64 ((a0.length:Int) - (a1.length:Int)))) ((a0.length:Int))).bind fun v3=>some ((v3==a1)) else some false):Option Bool).bind fun (j1:Bool)=>some j1
def z4a(a0:Str)(a1:Str):Option Bool:=
 (zVa a0 a1).bind fun v1=>some v1
def kVa(a0:Str)(s5:Int):Option (Step Int (Unit ⊕ Unit)):=
 (bif decide (s5 < (a0.length:Int)) then (idx a0 s5).bind fun v11=>((bif decide (97<=(v11.toNat:Int)) then (bif decide ((v11.toNat:Int)<=122) then some true else (bif decide (48<=(v11.toNat:Int)) then (bif decide ((v11.toNat:Int)<=57) then some true else (bif ((v11.toNat:Int)==45) then some true else some (((v11.toNat:Int)==46)))) else (bif ((v11.toNat:Int)==45) then some true else some (((v11.toNat:Int)==46))))) else (bif decide (48<=(v11.toNat:Int)) then (bif decide ((v11.toNat:Int)<=57) then some true else (bif ((v11.toNat:Int)==45) then some true else some (((v11.toNat:Int)==46)))) else (bif ((v11.toNat:Int)==45) then some true else some (((v11.toNat:Int)==46))))):Option Bool).bind fun (j13:Bool)=>(bif (!j13) then some (.out (.inr (()))) else some (.cont (w64 (s5+1)))) else some (.out (.inl (()))))
def qVa(a0:Str):Option Bool:=
 ((bif (a0 !=([]:Str)) then (bif decide ((a0.length:Int)<=60) then ((iter (kVa a0) 0).bind (Sum.elim (fun b6=>some true) (fun b7=>some false)):Option Bool).bind fun (j4:Bool)=>(bif j4 then (z3a a0 (([46]:Str))).bind fun v26=>(bif (!v26) then (z4a a0 (([46]:Str))).bind fun v29=>(bif (!v29) then (kBa a0 (([46,46]:Str))).bind fun v32=>some ((!v32)) else some false) else some false) else some false) else some false) else some false):Option Bool).bind fun (j1:Bool)=>some j1
def qca(v1:Str × Str × Bool)(s8:Int):Option (Step Int (Unit ⊕ Unit)):=
 (bif decide (s8 < (v1.1.length:Int)) then (idx v1.1 s8).bind fun v14=>((wGa v14).bind fun v17=>(bif v17 then some true else (zsa (([45,95,46,43,61]:Str)) v14).bind fun v20=>some (decide (0<=v20))):Option Bool).bind fun (j16:Bool)=>(bif (!j16) then some (.out (.inr (()))) else some (.cont (w64 (s8+1)))) else some (.out (.inl (()))))
def via(a0:Str):Option (Str × Str × Bool):=
 (qqa a0 (([64]:Str))).bind fun v1=>((bif v1.2.2 then (bif (v1.1 !=([]:Str)) then (bif decide ((v1.1.length:Int)<=60) then ((iter (qca v1) 0).bind (Sum.elim (fun b9=>some true) (fun b10=>some false)):Option Bool).bind fun (j7:Bool)=>(bif j7 then (qVa v1.2.1).bind fun v24=>some v24 else some false) else some false) else some false) else some false):Option Bool).bind fun (j3:Bool)=>some ((v1.1,v1.2.1,j3))
def qza(a0:Str):Option Bool:=
 (via a0).bind fun v1=>some v1.2.2
def z1a(a0:Str)(a1:Str):Option Bool:=
 (kQa a0 a1).bind fun v1=>some (decide (0<=v1))
def wHa(a0:Str)(s5:Int):Option (Step Int (Unit ⊕ Unit)):=
 (bif decide (s5 < (a0.length:Int)) then (idx a0 s5).bind fun v11=>((bif decide (33<=(v11.toNat:Int)) then (bif decide ((v11.toNat:Int)<=126) then some (((v11.toNat:Int) !=58)) else some false) else some false):Option Bool).bind fun (j13:Bool)=>(bif (!j13) then some (.out (.inr (()))) else some (.cont (w64 (s5+1)))) else some (.out (.inl (()))))
def Zua(a0:Str):Option Bool:=
 ((bif (a0 !=([]:Str)) then (bif decide ((a0.length:Int)<=60) then ((iter (wHa a0) 0).bind (Sum.elim (fun b6=>some true) (fun b7=>some false)):Option Bool).bind fun (j4:Bool)=>some j4 else some false) else some false):Option Bool).bind fun (j1:Bool)=>some j1
def Zva(a0:Str):Option Bool:=
 (z1a a0 (([13,10,0]:Str))).bind fun v1=>some v1
def qra(a0:UInt8):Option Bool:=
 ((bif ((a0.toNat:Int)==32) then some true else some (((a0.toNat:Int)==9))):Option Bool).bind fun (j1:Bool)=>some j1
def jja(a0:Str):Option Bool:=
 ((Zva a0).bind fun v2=>(bif (!v2) then (bif (a0==([]:Str)) then some true else (idx a0 0).bind fun v6=>(qra v6).bind fun v8=>(bif (!v8) then (idx a0 ((w64 ((a0.length:Int) - 1)))).bind fun v11=>(qra v11).bind fun v13=>some ((!v13)) else some false)) else some false):Option Bool).bind fun (j1:Bool)=>some j1
def qsa(s1:Int × Int)(j5:Int):Option (Step (Int × Int) Int):=
 some (.cont (j5,(w64 (s1.2+1))))
def yca(a0:Str)(s1:Int × Int):Option (Step (Int × Int) Int):=
 (bif decide (s1.2 < (a0.length:Int)) then ((idx a0 s1.2).bind fun v7=>(qra v7).bind fun v9=>(bif (!v9) then some true else (idx a0 ((w64 (s1.2 - 1)))).bind fun v12=>(qra v12).bind fun v14=>some v14):Option Bool).bind fun (j6:Bool)=>(bif j6 then (qsa s1 s1.1) else ((bif decide (0 < s1.1) then some (decide (78 < s1.2)) else some false):Option Bool).bind fun (j17:Bool)=>(bif j17 then some (.out s1.1) else (qsa s1 s1.2))) else some (.out s1.1))
def jka(a0:Str)(a1:Int):Option Int:=
 (iter (yca a0) ((0,(max a1 1)))).bind fun b2=>some b2
def wIa(s18:Str × Int × (List Str)):Option (Step (Str × Int × (List Str)) (Str × (List Str))):=
 (bif decide (78 < (s18.1.length:Int)) then (jka s18.1 s18.2.1).bind fun v22=>(bif (v22==0) then some (.out ((s18.1,s18.2.2))) else (cut s18.1 0 v22).bind fun v25=>(app 8796093022208 s18.2.2 (([v25]:List Str))).bind fun v27=>(cut s18.1 v22 ((s18.1.length:Int))).bind fun v29=>some (.cont (v29,0,v27))) else some (.out ((s18.1,s18.2.2))))
def ySa(v31:List Str)(s34:Int):Option (Step Int (Unit ⊕ ((List Str) × zma))):=
 (bif decide (s34 < (v31.length:Int)) then (idx v31 s34).bind fun v40=>(bif decide (998 < (v40.length:Int)) then (zja 1 s34).bind fun v43=>some (.out (.inr (([],v43)))) else some (.cont (w64 (s34+1)))) else some (.out (.inl (()))))
def wJa(a0:Str)(a1:Str):Option ((List Str) × zma):=
 (Zua a0).bind fun v1=>(bif (!v1) then (zja 10 ((-1))).bind fun v4=>some (([],v4)) else (bif decide (4000 < (a1.length:Int)) then (zja 1 ((-1))).bind fun v7=>some (([],v7)) else (jja a1).bind fun v9=>(bif (!v9) then (zja 11 ((-1))).bind fun v12=>some (([],v12)) else (cat a0 (([58,32]:Str))).bind fun v14=>(cat v14 a1).bind fun v16=>(iter (wIa) ((v16,(w64 ((a0.length:Int)+2)),([]:List Str)))).bind fun b19=>(app 8796093022208 b19.2 (([b19.1]:List Str))).bind fun v31=>(iter (ySa v31) 0).bind (Sum.elim (fun b35=>(zua).bind fun v45=>some ((v31,v45))) (fun b36=>some ((b36.1,b36.2)))))))
def qOa(a0:List zca)(s4:Int):Option (Step Int (Unit ⊕ zma)):=
 (bif decide (s4 < (a0.length:Int)) then (idx a0 s4).bind fun v10=>(wJa v10.Name v10.Value).bind fun v12=>(zpa v12.2).bind fun v14=>(bif v14 then (zja v12.2.Code s4).bind fun v17=>some (.out (.inr v17)) else some (.cont (w64 (s4+1)))) else some (.out (.inl (()))))
def kda(a0:List zca):Option zma:=
 (bif decide (60 < (a0.length:Int)) then (zja 2 ((-1))).bind fun v2=>some v2 else (iter (qOa a0) 0).bind (Sum.elim (fun b5=>(zua).bind fun v19=>some v19) (fun b6=>some b6)))
def qAa(v7:(List Str) × zma)(s9:Int × (List UInt8)):Option (Step (Int × (List UInt8)) (List UInt8)):=
 (bif decide (s9.1 < (v7.1.length:Int)) then (idx v7.1 s9.1).bind fun v13=>(app 140737488355328 s9.2 v13).bind fun v15=>(app 140737488355328 v15 (([(13:UInt8),(10:UInt8)]:List UInt8))).bind fun v17=>some (.cont ((w64 (s9.1+1)),v17)) else some (.out s9.2))
def qBa(a0:zda)(s1:Int × (List UInt8)):Option (Step (Int × (List UInt8)) (List UInt8)):=
 (bif decide (s1.1 < (a0.Fields.length:Int)) then (idx a0.Fields s1.1).bind fun v5=>(wJa v5.Name v5.Value).bind fun v7=>(iter (qAa v7) ((0,s1.2))).bind fun b10=>some (.cont ((w64 (s1.1+1)),b10)) else some (.out s1.2))
def qta(a0:zda):Option (List UInt8):=
 (iter (qBa a0) ((0,([]:List UInt8)))).bind fun b2=>(app 140737488355328 b2 (([(13:UInt8),(10:UInt8)]:List UInt8))).bind fun v19=>(app 140737488355328 v19 a0.Body).bind fun v21=>some v21
def vUa(j7:Int × Int):Option (Step (Int × Int) (Unit ⊕ Int)):=
 some (.cont (j7.1,(w64 (j7.2+1))))
def q6a(a0:List UInt8)(s1:Int × Int):Option (Step (Int × Int) (Unit ⊕ Int)):=
 (bif decide (s1.2 < (a0.length:Int)) then (idx a0 s1.2).bind fun v8=>((bif ((v8.toNat:Int)==13) then (bif decide ((w64 (s1.2+1)) < (a0.length:Int)) then (idx a0 ((w64 (s1.2+1)))).bind fun v13=>some (((v13.toNat:Int)==10)) else some false) else some false):Option Bool).bind fun (j10:Bool)=>(bif j10 then (vUa (0,(w64 (s1.2+1)))) else ((bif ((v8.toNat:Int)==13) then some true else some (((v8.toNat:Int)==10))):Option Bool).bind fun (j16:Bool)=>(bif j16 then some (.out (.inr 11)) else (bif decide (998 < (w64 (s1.1+1))) then some (.out (.inr 1)) else (vUa ((w64 (s1.1+1)),s1.2))))) else some (.out (.inl (()))))
def wka(a0:List UInt8):Option Int:=
 (iter (q6a a0) ((0,0))).bind (Sum.elim (fun b2=>some 0) (fun b3=>some b3))
def wKa(a0:List UInt8):Option zma:=
 (wka a0).bind fun v1=>(bif (v1==11) then (zja 11 ((-5))).bind fun v4=>some v4 else (bif (v1==1) then (zja 1 ((-6))).bind fun v7=>some v7 else (zua).bind fun v9=>some v9))
def zGa(a0:zda):Option zma:=
 (kda a0.Fields).bind fun v1=>(zpa v1).bind fun v3=>(bif v3 then some v1 else (qta a0).bind fun v6=>(bif decide (12000 < (v6.length:Int)) then (zja 1 ((-4))).bind fun v9=>some v9 else (wKa a0.Body).bind fun v11=>some v11))
def vVa(a0:UInt8):Option Bool:=
 ((bif ((a0.toNat:Int)==32) then some true else some (((a0.toNat:Int)==9))):Option Bool).bind fun (j1:Bool)=>some j1
def kva(s5:Str × Int × (List Str))(s9:Int × Int):Option (Step (Int × Int) Int):=
 ((bif decide (0 < s9.2) then some ((s9.1==0)) else some false):Option Bool).bind fun (j12:Bool)=>(bif j12 then (((bif decide (s5.2.1<=s9.2) then (idx s5.1 s9.2).bind fun v18=>(vVa v18).bind fun v20=>(bif v20 then (idx s5.1 ((w64 (s9.2 - 1)))).bind fun v23=>(vVa v23).bind fun v25=>some ((!v25)) else some false) else some false):Option Bool).bind fun (j16:Bool)=>(bif j16 then some s9.2 else some s9.1):Option Int).bind fun (j15:Int)=>some (.cont (j15,(w64 (s9.2 - 1)))) else some (.out s9.1))
def kea(s5:Str × Int × (List Str))(s28:Int × Int):Option (Step (Int × Int) Int):=
 ((bif decide (s28.2 < (s5.1.length:Int)) then some ((s28.1==0)) else some false):Option Bool).bind fun (j31:Bool)=>(bif j31 then (((bif decide (s5.2.1<=s28.2) then (idx s5.1 s28.2).bind fun v37=>(vVa v37).bind fun v39=>(bif v39 then (idx s5.1 ((w64 (s28.2 - 1)))).bind fun v42=>(vVa v42).bind fun v44=>some ((!v44)) else some false) else some false):Option Bool).bind fun (j35:Bool)=>(bif j35 then some s28.2 else some s28.1):Option Int).bind fun (j34:Int)=>some (.cont (j34,(w64 (s28.2+1)))) else some (.out s28.1))
def qWa(s5:Str × Int × (List Str)):Option (Step (Str × Int × (List Str)) (Str × (List Str))):=
 (bif decide (78 < (s5.1.length:Int)) then (iter (kva s5) ((0,78))).bind fun b10=>(iter (kea s5) ((b10,79))).bind fun b29=>(bif (b29==0) then some (.out ((s5.1,s5.2.2))) else (cut s5.1 0 b29).bind fun v48=>(app 8796093022208 s5.2.2 (([v48]:List Str))).bind fun v50=>(cut s5.1 b29 ((s5.1.length:Int))).bind fun v52=>some (.cont (v52,1,v50))) else some (.out ((s5.1,s5.2.2))))
def vEa(a0:Str)(a1:Str):Option (List Str):=
 (cat a0 (([58,32]:Str))).bind fun v1=>(cat v1 a1).bind fun v3=>(iter (qWa) ((v3,(w64 ((a0.length:Int)+2)),([]:List Str)))).bind fun b6=>(app 8796093022208 b6.2 (([b6.1]:List Str))).bind fun v54=>some v54
def vja(a0:zca)(s1:Int):Option (Step Int (Unit ⊕ Int)):=
 (bif decide (s1 < (a0.Name.length:Int)) then ((idx a0.Name s1).bind fun v8=>(R_In ((v8.toNat:Int)) 33 126).bind fun v10=>(bif (!v10) then some true else (idx a0.Name s1).bind fun v13=>some (((v13.toNat:Int)==58))):Option Bool).bind fun (j7:Bool)=>(bif j7 then some (.out (.inr 10)) else some (.cont (w64 (s1+1)))) else some (.out (.inl (()))))
def vka(a0:zca)(s20:Int):Option (Step Int (Unit ⊕ Int)):=
 (bif decide (s20 < (a0.Value.length:Int)) then ((idx a0.Value s20).bind fun v27=>(bif ((v27.toNat:Int)==0) then some true else (idx a0.Value s20).bind fun v30=>(bif ((v30.toNat:Int)==10) then some true else (idx a0.Value s20).bind fun v33=>some (((v33.toNat:Int)==13)))):Option Bool).bind fun (j26:Bool)=>(bif j26 then some (.out (.inr 11)) else some (.cont (w64 (s20+1)))) else some (.out (.inl (()))))
def vla(v48:List Str)(s50:Int):Option (Step Int (Unit ⊕ Int)):=
 (bif decide (s50 < (v48.length:Int)) then (idx v48 s50).bind fun v56=>(bif decide (998 < (v56.length:Int)) then some (.out (.inr 1)) else some (.cont (w64 (s50+1)))) else some (.out (.inl (()))))
def yma(a0:zca):Option Int:=
 (iter (vja a0) 0).bind (Sum.elim (fun b2=>(R_In ((a0.Name.length:Int)) 1 60).bind fun v16=>(bif (!v16) then some 10 else (bif decide (4000 < (a0.Value.length:Int)) then some 1 else (iter (vka a0) 0).bind (Sum.elim (fun b21=>((bif decide (0 < (a0.Value.length:Int)) then (idx a0.Value 0).bind fun v38=>(vVa v38).bind fun v40=>(bif v40 then some true else (idx a0.Value ((w64 ((a0.Value.length:Int) - 1)))).bind fun v43=>(vVa v43).bind fun v45=>some v45) else some false):Option Bool).bind fun (j36:Bool)=>(bif j36 then some 11 else (vEa a0.Name a0.Value).bind fun v48=>(iter (vla v48) 0).bind (Sum.elim (fun b51=>some 0) (fun b52=>some b52)))) (fun b22=>some b22))))) (fun b3=>some b3))
def qda(v9:List Str)(s11:Int × (List UInt8)):Option (Step (Int × (List UInt8)) (List UInt8)):=
 (bif decide (s11.1 < (v9.length:Int)) then (idx v9 s11.1).bind fun v15=>(app 140737488355328 s11.2 v15).bind fun v17=>(app 140737488355328 v17 (([(13:UInt8),(10:UInt8)]:List UInt8))).bind fun v19=>some (.cont ((w64 (s11.1+1)),v19)) else some (.out s11.2))
def qea(a0:zda)(s1:Int × (List UInt8)):Option (Step (Int × (List UInt8)) (List UInt8)):=
 (bif decide (s1.1 < (a0.Fields.length:Int)) then (idx a0.Fields s1.1).bind fun v5=>(idx a0.Fields s1.1).bind fun v7=>(vEa v5.Name v7.Value).bind fun v9=>(iter (qda v9) ((0,s1.2))).bind fun b12=>some (.cont ((w64 (s1.1+1)),b12)) else some (.out s1.2))
def k1a(a0:zda):Option (List UInt8):=
 (iter (qea a0) ((0,([]:List UInt8)))).bind fun b2=>(app 140737488355328 b2 (([(13:UInt8),(10:UInt8)]:List UInt8))).bind fun v21=>(app 140737488355328 v21 a0.Body).bind fun v23=>some v23
def q7a(a0:zda)(s4:Int):Option (Step Int (Unit ⊕ zma)):=
 (bif decide (s4 < (a0.Fields.length:Int)) then (idx a0.Fields s4).bind fun v10=>(yma v10).bind fun v12=>(bif (v12 !=0) then (R_At v12 s4).bind fun v15=>some (.out (.inr v15)) else some (.cont (w64 (s4+1)))) else some (.out (.inl (()))))
def qfa(j30:Int × Int):Option (Step (Int × Int) (Unit ⊕ zma)):=
 some (.cont (j30.1,(w64 (j30.2+1))))
def kIa(a0:zda)(s24:Int × Int):Option (Step (Int × Int) (Unit ⊕ zma)):=
 (bif decide (s24.2 < (a0.Body.length:Int)) then (idx a0.Body s24.2).bind fun v31=>((bif ((v31.toNat:Int)==13) then (bif decide ((w64 (s24.2+1)) < (a0.Body.length:Int)) then (idx a0.Body ((w64 (s24.2+1)))).bind fun v36=>some (((v36.toNat:Int)==10)) else some false) else some false):Option Bool).bind fun (j33:Bool)=>(bif j33 then (qfa (0,(w64 (s24.2+1)))) else ((bif ((v31.toNat:Int)==13) then some true else some (((v31.toNat:Int)==10))):Option Bool).bind fun (j39:Bool)=>(bif j39 then (R_At 11 ((-5))).bind fun v42=>some (.out (.inr v42)) else (bif decide (998 < (w64 (s24.1+1))) then (R_At 1 ((-6))).bind fun v45=>some (.out (.inr v45)) else (qfa ((w64 (s24.1+1)),s24.2))))) else some (.out (.inl (()))))
def qGa(a0:zda):Option zma:=
 (bif decide (60 < (a0.Fields.length:Int)) then (R_At 2 ((-1))).bind fun v2=>some v2 else (iter (q7a a0) 0).bind (Sum.elim (fun b5=>((bif decide (12000 < (a0.Body.length:Int)) then some true else (k1a a0).bind fun v19=>some (decide (12000 < (v19.length:Int)))):Option Bool).bind fun (j17:Bool)=>(bif j17 then (R_At 1 ((-4))).bind fun v22=>some v22 else (iter (kIa a0) ((0,0))).bind (Sum.elim (fun b25=>some ((zma.mk 0 0))) (fun b26=>some b26)))) (fun b6=>some b6)))
def jKa(a0:Str):Option Bool:=
 (wJa a0 (([]:Str))).bind fun v1=>(zpa v1.2).bind fun v3=>some ((!v3))
def Zwa(a0:List zca)(a1:Str):Option zma:=
 (kda a0).bind fun v1=>(zpa v1).bind fun v3=>(bif v3 then some v1 else (jKa a1).bind fun v6=>(bif (!v6) then (zja 10 ((-3))).bind fun v9=>some v9 else (zua).bind fun v11=>some v11))
def KDa(a0:Str)(s1:Int × (List UInt8)):Option (Step (Int × (List UInt8)) (List UInt8)):=
 (bif decide (s1.1 < (a0.length:Int)) then ((idx s1.2 s1.1).bind fun v6=>(idx s1.2 s1.1).bind fun v8=>((bif decide (65<=(v8.toNat:Int)) then some (decide ((v8.toNat:Int)<=90)) else some false):Option Bool).bind fun (j10:Bool)=>(bif j10 then (idx s1.2 s1.1).bind fun v13=>(idx s1.2 s1.1).bind fun v15=>some ((List.set s1.2 (Int.toNat s1.1) (((v8+(97:UInt8)) - (65:UInt8))))) else some s1.2):Option (List UInt8)).bind fun (j5:List UInt8)=>some (.cont ((w64 (s1.1+1)),j5)) else some (.out s1.2))
def jLa(a0:Str):Option Str:=
 (iter (KDa a0) ((0,a0))).bind fun b2=>some b2
def kRa(a0:Str)(a1:Str):Option Bool:=
 ((bif ((a0.length:Int)==(a1.length:Int)) then (jLa a0).bind fun v3=>(jLa a1).bind fun v5=>some ((v3==v5)) else some false):Option Bool).bind fun (j1:Bool)=>some j1
def QDa(a0:List zca)(a1:Str)(s6:Int × (List Str)):Option (Step (Int × (List Str)) (List Str)):=
 (bif decide (s6.1 < (a0.length:Int)) then ((idx a0 s6.1).bind fun v11=>(kRa v11.Name a1).bind fun v13=>(bif v13 then (app 8796093022208 s6.2 (([v11.Value]:List Str))).bind fun v16=>some v16 else some s6.2):Option (List Str)).bind fun (j10:List Str)=>some (.cont ((w64 (s6.1+1)),j10)) else some (.out s6.2))
def Voa(a0:List zca)(a1:Str):Option ((List Str) × zma):=
 (Zwa a0 a1).bind fun v1=>(zpa v1).bind fun v3=>(bif v3 then some (([],v1)) else (iter (QDa a0 a1) ((0,([]:List Str)))).bind fun b7=>(zua).bind fun v18=>some ((b7,v18)))
def vwa(a0:zda)(a1:zda)(s4:Int):Option (Step Int (Unit ⊕ Bool)):=
 (bif decide (s4 < (a0.Fields.length:Int)) then (idx a0.Fields s4).bind fun v10=>(idx a1.Fields s4).bind fun v12=>(bif (!(jFa [(v10.Name==v12.Name),(v10.Value==v12.Value)])) then some (.out (.inr false)) else some (.cont (w64 (s4+1)))) else some (.out (.inl (()))))
def vWa(a0:zda)(a1:zda):Option Bool:=
 ((bif ((a0.Fields.length:Int) !=(a1.Fields.length:Int)) then some true else some ((a0.Body !=a1.Body))):Option Bool).bind fun (j1:Bool)=>(bif j1 then some false else (iter (vwa a0 a1) 0).bind (Sum.elim (fun b5=>some true) (fun b6=>some b6)))
def zla(a0:List zca):Option (List zca):=
 (nilE a0.isEmpty (some ([])) ((app 4398046511104 ([]:List zca) a0).bind fun v2=>some v2))
def zWa(n:Int):Option Str:=if -9223372036854775808<=n/\n<=9223372036854775807 then some (Lib.itoa n) else none
def vFa(s:Str):Option (Int × Bool):=if s.length<=18 then (match Lib.atoi s with | some n=>some (n,false) | none=>some (0,true)) else none
def yna(a0:Int):Option Str:=
 (bif decide (a0 < 10) then (cut (([48,49,50,51,52,53,54,55,56,57]:Str)) a0 ((w64 (a0+1)))).bind fun v2=>some v2 else none)
def yoa(a0:Int):Option Str:=
 (bif decide (a0 < 10) then (cut (([48,49,50,51,52,53,54,55,56,57]:Str)) a0 ((w64 (a0+1)))).bind fun v2=>some v2 else (yna ((iQuo a0 10))).bind fun v4=>(yna ((iRem a0 10))).bind fun v6=>(cat v4 v6).bind fun v8=>some v8)
def ypa(a0:Int):Option Str:=
 (bif decide (a0 < 10) then (cut (([48,49,50,51,52,53,54,55,56,57]:Str)) a0 ((w64 (a0+1)))).bind fun v2=>some v2 else (yoa ((iQuo a0 10))).bind fun v4=>(yoa ((iRem a0 10))).bind fun v6=>(cat v4 v6).bind fun v8=>some v8)
def yqa(a0:Int):Option Str:=
 (bif decide (a0 < 10) then (cut (([48,49,50,51,52,53,54,55,56,57]:Str)) a0 ((w64 (a0+1)))).bind fun v2=>some v2 else (ypa ((iQuo a0 10))).bind fun v4=>(ypa ((iRem a0 10))).bind fun v6=>(cat v4 v6).bind fun v8=>some v8)
def yra(a0:Int):Option Str:=
 (bif decide (a0 < 10) then (cut (([48,49,50,51,52,53,54,55,56,57]:Str)) a0 ((w64 (a0+1)))).bind fun v2=>some v2 else (yqa ((iQuo a0 10))).bind fun v4=>(yqa ((iRem a0 10))).bind fun v6=>(cat v4 v6).bind fun v8=>some v8)
def ysa(a0:Int):Option Str:=
 (bif decide (a0 < 10) then (cut (([48,49,50,51,52,53,54,55,56,57]:Str)) a0 ((w64 (a0+1)))).bind fun v2=>some v2 else (yra ((iQuo a0 10))).bind fun v4=>(yra ((iRem a0 10))).bind fun v6=>(cat v4 v6).bind fun v8=>some v8)
def yta(a0:Int):Option Str:=
 (bif decide (a0 < 10) then (cut (([48,49,50,51,52,53,54,55,56,57]:Str)) a0 ((w64 (a0+1)))).bind fun v2=>some v2 else (ysa ((iQuo a0 10))).bind fun v4=>(ysa ((iRem a0 10))).bind fun v6=>(cat v4 v6).bind fun v8=>some v8)
def yua(a0:Int):Option Str:=
 (bif decide (a0 < 10) then (cut (([48,49,50,51,52,53,54,55,56,57]:Str)) a0 ((w64 (a0+1)))).bind fun v2=>some v2 else (yta ((iQuo a0 10))).bind fun v4=>(yta ((iRem a0 10))).bind fun v6=>(cat v4 v6).bind fun v8=>some v8)
def yva(a0:Int):Option Str:=
 (bif decide (a0 < 10) then (cut (([48,49,50,51,52,53,54,55,56,57]:Str)) a0 ((w64 (a0+1)))).bind fun v2=>some v2 else (yua ((iQuo a0 10))).bind fun v4=>(yua ((iRem a0 10))).bind fun v6=>(cat v4 v6).bind fun v8=>some v8)
def ywa(a0:Int):Option Str:=
 (bif decide (a0 < 10) then (cut (([48,49,50,51,52,53,54,55,56,57]:Str)) a0 ((w64 (a0+1)))).bind fun v2=>some v2 else (yva ((iQuo a0 10))).bind fun v4=>(yva ((iRem a0 10))).bind fun v6=>(cat v4 v6).bind fun v8=>some v8)
def wLa(a0:Int):Option Str:=
 (bif decide (a0 < 10) then (cut (([48,49,50,51,52,53,54,55,56,57]:Str)) a0 ((w64 (a0+1)))).bind fun v2=>some v2 else (ywa ((iQuo a0 10))).bind fun v4=>(ywa ((iRem a0 10))).bind fun v6=>(cat v4 v6).bind fun v8=>some v8)
def wMa(a0:Int):Option Str:=
 (bif decide (a0 < 10) then (cut (([48,49,50,51,52,53,54,55,56,57]:Str)) a0 ((w64 (a0+1)))).bind fun v2=>some v2 else (wLa ((iQuo a0 10))).bind fun v4=>(wLa ((iRem a0 10))).bind fun v6=>(cat v4 v6).bind fun v8=>some v8)
def Kea(a0:Int):Option Str:=
 (bif decide (a0 < 10) then (cut (([48,49,50,51,52,53,54,55,56,57]:Str)) a0 ((w64 (a0+1)))).bind fun v2=>some v2 else (wMa ((iQuo a0 10))).bind fun v4=>(wMa ((iRem a0 10))).bind fun v6=>(cat v4 v6).bind fun v8=>some v8)
def qXa(l:List Str)(s:Str):Option Str:=if l.length<=140737488355328/\(Lib.join l s).length<=140737488355328 then some (Lib.join l s) else none
def k2a(s:Str)(n:Int):Option Str:=if 0<=n/\n<=9223372036854775807/\s.length * n.toNat<=140737488355328 then some (Lib.repeatL s n.toNat) else none
def kna(a0:Int)(a1:Int)(a2:Int):Option Bool:=
 ((bif decide (a1<=a0) then some (decide (a0<=a2)) else some false):Option Bool).bind fun (j1:Bool)=>some j1
def wla(a0:Int)(a1:Int):Option (Int × Int):=
 (nz a1).bind fun v1=>(nz a1).bind fun v3=>(nz a1).bind fun v5=>some (((iQuo ((w64 (a0 - (iRem ((w64 ((iRem a0 a1)+a1))) a1)))) a1),(iRem ((w64 ((iRem a0 a1)+a1))) a1)))
def vGa(a0:Int):Option Int:=
 some ((w64 ((w64 ((w64 ((w64 (365 * (w64 (a0 - 1))))+(iQuo ((w64 (a0 - 1))) 4))) - (iQuo ((w64 (a0 - 1))) 100)))+(iQuo ((w64 (a0 - 1))) 400))))
def jla(a0:Int):Option Bool:=
 ((bif ((iRem a0 4)==0) then (bif ((iRem a0 100) !=0) then some true else some (((iRem a0 400)==0))) else some false):Option Bool).bind fun (j1:Bool)=>some j1
def vHa(a0:Int)(a1:Int):Option Int:=
 (idx ([31,28,31,30,31,30,31,31,30,31,30,31]:List Int) ((w64 (a1 - 1)))).bind fun v1=>(((bif (a1==2) then (jla a0).bind fun v6=>some v6 else some false):Option Bool).bind fun (j4:Bool)=>(bif j4 then some ((w64 (v1+1))) else some v1):Option Int).bind fun (j3:Int)=>some j3
def vIa(a0:Int)(a1:Int)(s5:Int × Int):Option (Step (Int × Int) Int):=
 (bif decide (s5.2 < a1) then (vHa a0 s5.2).bind fun v9=>some (.cont ((w64 (s5.1+v9)),(w64 (s5.2+1)))) else some (.out s5.1))
def qYa(a0:Int)(a1:Int)(a2:Int):Option Int:=
 (vGa a0).bind fun v1=>(vGa 1970).bind fun v3=>(iter (vIa a0 a1) (((w64 ((w64 ((w64 (v1 - v3))+a2)) - 1)),1))).bind fun b6=>some b6
def qHa(v11:Int × Int)(s22:Int × Int):Option (Step (Int × Int) Int):=
 (bif decide (0 < s22.2) then (((bif decide ((w64 (s22.1+s22.2))<=4000) then (qYa ((w64 (s22.1+s22.2))) 1 1).bind fun v29=>some (decide (v29<=v11.1)) else some false):Option Bool).bind fun (j27:Bool)=>(bif j27 then some ((w64 (s22.1+s22.2))) else some s22.1):Option Int).bind fun (j26:Int)=>some (.cont (j26,(iQuo s22.2 2))) else some (.out s22.1))
def qIa(v11:Int × Int)(b23:Int)(s32:Int):Option (Step Int Int):=
 (qYa b23 s32 1).bind fun v35=>(bif decide (v11.1 < v35) then some (.cont (w64 (s32 - 1))) else some (.out s32))
def kCa(a0:Int)(a1:Int):Option (jga × zma):=
 (jia a0).bind fun v1=>(bif (!v1) then (zja 3 ((-2))).bind fun v4=>some (((jga.mk 0 0 0 0 0 0 0),v4)) else (kna a1 ((-900)) 900).bind fun v6=>(bif (!v6) then (zja 3 ((-4))).bind fun v9=>some (((jga.mk 0 0 0 0 0 0 0),v9)) else (wla ((w64 (a0+(w64 (60 * a1))))) 86400).bind fun v11=>((qYa 1 1 1).bind fun v14=>(bif decide (v11.1 < v14) then some true else (qYa 4000 12 31).bind fun v17=>some (decide (v17 < v11.1))):Option Bool).bind fun (j13:Bool)=>(bif j13 then (zja 3 ((-3))).bind fun v20=>some (((jga.mk 0 0 0 0 0 0 0),v20)) else (iter (qHa v11) ((1,2048))).bind fun b23=>(iter (qIa v11 b23) 12).bind fun b33=>(qYa b23 b33 1).bind fun v38=>(zua).bind fun v40=>some (((jga.mk b23 b33 ((w64 ((w64 (v11.1 - v38))+1))) ((iQuo v11.2 3600)) ((iRem ((iQuo v11.2 60)) 60)) ((iRem v11.2 60)) a1),v40)))))
def vma(a0:jga):Option zma:=
 ((kna a0.Year 1 4000).bind fun v2=>(bif v2 then (kna a0.Month 1 12).bind fun v5=>(bif v5 then (vHa a0.Year ((min ((max a0.Month 1)) 12))).bind fun v8=>(kna a0.Day 1 v8).bind fun v10=>(bif v10 then (kna a0.Hour 0 23).bind fun v13=>(bif v13 then (kna a0.Minute 0 59).bind fun v16=>(bif v16 then (kna a0.Second 0 59).bind fun v19=>(bif v19 then (kna a0.Zone ((-900)) 900).bind fun v22=>some v22 else some false) else some false) else some false) else some false) else some false) else some false):Option Bool).bind fun (j1:Bool)=>(bif (!j1) then (zja 3 ((-3))).bind fun v25=>some v25 else (zua).bind fun v27=>some v27)
def vXa(a0:jga):Option (Int × zma):=
 (vma a0).bind fun v1=>(zpa v1).bind fun v3=>(bif v3 then some ((0,v1)) else (qYa a0.Year a0.Month a0.Day).bind fun v6=>(wla ((w64 (v6+4))) 7).bind fun v8=>(zua).bind fun v10=>some ((v8.2,v10)))
def kMa(a0:Int)(a1:Int):Option Str:=
 (zWa a0).bind fun v1=>(k2a (([48]:Str)) ((max 0 ((w64 (a1 - (v1.length:Int))))))).bind fun v3=>(cat v3 v1).bind fun v5=>some v5
def vna:Option (Str × Str × Str × Str × Str × Str × Str):=
 some ((([83,117,110]:Str),([77,111,110]:Str),([84,117,101]:Str),([87,101,100]:Str),([84,104,117]:Str),([70,114,105]:Str),([83,97,116]:Str)))
def wNa:Option (Str × Str × Str × Str × Str × Str × Str × Str × Str × Str × Str × Str):=
 some ((([74,97,110]:Str),([70,101,98]:Str),([77,97,114]:Str),([65,112,114]:Str),([77,97,121]:Str),([74,117,110]:Str),([74,117,108]:Str),([65,117,103]:Str),([83,101,112]:Str),([79,99,116]:Str),([78,111,118]:Str),([68,101,99]:Str)))
def vAa(a0:jga):Option (Str × zma):=
 (vXa a0).bind fun v1=>(zpa v1.2).bind fun v3=>(bif v3 then some ((([]:Str),v1.2)) else ((bif decide (a0.Zone < 0) then some ((([45]:Str),(w64 (0 - a0.Zone)))) else some ((([43]:Str),a0.Zone))):Option (Str × Int)).bind fun (j6:Str × Int)=>(kMa ((iQuo j6.2 60)) 2).bind fun v8=>(kMa ((iRem j6.2 60)) 2).bind fun v10=>(cat v8 v10).bind fun v12=>(cat j6.1 v12).bind fun v14=>(kMa a0.Hour 2).bind fun v16=>(cat v16 (([58]:Str))).bind fun v18=>(kMa a0.Minute 2).bind fun v20=>(cat v18 v20).bind fun v22=>(cat v22 (([58]:Str))).bind fun v24=>(kMa a0.Second 2).bind fun v26=>(cat v24 v26).bind fun v28=>(vna).bind fun v30=>(idx ([v30.1,v30.2.1,v30.2.2.1,v30.2.2.2.1,v30.2.2.2.2.1,v30.2.2.2.2.2.1,v30.2.2.2.2.2.2]:List Str) v1.1).bind fun v32=>(cat v32 (([44]:Str))).bind fun v34=>(kMa a0.Day 2).bind fun v36=>(wNa).bind fun v38=>(idx ([v38.1,v38.2.1,v38.2.2.1,v38.2.2.2.1,v38.2.2.2.2.1,v38.2.2.2.2.2.1,v38.2.2.2.2.2.2.1,v38.2.2.2.2.2.2.2.1,v38.2.2.2.2.2.2.2.2.1,v38.2.2.2.2.2.2.2.2.2.1,v38.2.2.2.2.2.2.2.2.2.2.1,v38.2.2.2.2.2.2.2.2.2.2.2]:List Str) ((w64 (a0.Month - 1)))).bind fun v40=>(kMa a0.Year 4).bind fun v42=>(qXa (([v34,v36,v40,v42,v28,v14]:List Str)) (([32]:Str))).bind fun v44=>(zua).bind fun v46=>some ((v44,v46)))
def QEa(a0:Int):Option Bool:=
 ((bif ((iRem a0 4)==0) then (bif ((iRem a0 100) !=0) then some true else some (((iRem a0 400)==0))) else some (((iRem a0 400)==0))):Option Bool).bind fun (j1:Bool)=>some j1
def YPa(a0:Int)(a1:Int):Option Int:=
 ((bif (a1==2) then (QEa a0).bind fun v3=>some v3 else some false):Option Bool).bind fun (j1:Bool)=>(bif j1 then some 29 else (idx (([31,28,31,30,31,30,31,31,30,31,30,31]:List Int)) ((w64 (a1 - 1)))).bind fun v6=>some v6)
def jma(a1:Int)(s3:Str):Option (Step Str Str):=
 (bif decide ((s3.length:Int) < a1) then (cat (([48]:Str)) s3).bind fun v7=>some (.cont v7) else some (.out s3))
def Zxa(a0:Int)(a1:Int):Option Str:=
 (Kea a0).bind fun v1=>(iter (jma a1) v1).bind fun b4=>some b4
def jna(s4:Int × Int):Option (Step (Int × Int) (Int × Int)):=
 (bif decide (s4.1 < 0) then some (.cont ((w64 (s4.1+34560000)),(w64 (s4.2 - 400)))) else some (.out ((s4.1,s4.2))))
def joa(s8:Int × Int):Option (Step (Int × Int) (Int × Int)):=
 (bif decide (s8.1 < 0) then (QEa ((w64 (s8.2 - 1)))).bind fun v12=>(bif v12 then some (.cont ((w64 ((w64 (s8.1+365))+1)),(w64 (s8.2 - 1)))) else some (.cont ((w64 (s8.1+365)),(w64 (s8.2 - 1))))) else some (.out ((s8.1,s8.2))))
def jpa(s15:Int × Int):Option (Step (Int × Int) (Int × Int)):=
 ((QEa s15.2).bind fun v19=>(bif v19 then some 366 else some 365):Option Int).bind fun (j18:Int)=>(bif decide (s15.1 < j18) then some (.out ((s15.1,s15.2))) else some (.cont ((w64 (s15.1 - j18)),(w64 (s15.2+1)))))
def jqa(b16:Int × Int)(s26:Int × Int):Option (Step (Int × Int) (Int × Int)):=
 (YPa b16.2 s26.1).bind fun v29=>(bif decide (v29<=s26.2) then (YPa b16.2 s26.1).bind fun v32=>some (.cont ((w64 (s26.1+1)),(w64 (s26.2 - v32)))) else some (.out ((s26.1,s26.2))))
def jra(b16:Int × Int)(s34:Int × Int):Option (Step (Int × Int) Int):=
 (bif decide (s34.2 < b16.2) then ((QEa s34.2).bind fun v39=>(bif v39 then some ((w64 ((w64 (s34.1+1))+1))) else some ((w64 (s34.1+1)))):Option Int).bind fun (j38:Int)=>some (.cont (j38,(w64 (s34.2+1)))) else some (.out s34.1))
def jsa(a0:Int):Option (Str × Bool):=
 (R_In a0 ((-68719476736)) 68719476736).bind fun v1=>(bif (!v1) then some ((([]:Str),false)) else (iter (jna) ((a0,0))).bind fun b5=>(iter (joa) (((w64 (b5.2+(iQuo b5.1 86400))),1970))).bind fun b9=>(iter (jpa) ((b9.1,b9.2))).bind fun b16=>(R_In b16.2 1 4000).bind fun v23=>(bif (!v23) then some ((([]:Str),false)) else (iter (jqa b16) ((1,b16.1))).bind fun b27=>(iter (jra b16) ((1,1))).bind fun b35=>(cut (([83,117,110,77,111,110,84,117,101,87,101,100,84,104,117,70,114,105,83,97,116]:Str)) ((w64 (3 * (iRem ((w64 (b35+b16.1))) 7)))) ((w64 ((w64 (3 * (iRem ((w64 (b35+b16.1))) 7)))+3)))).bind fun v42=>(cat v42 (([44,32]:Str))).bind fun v44=>(Zxa ((w64 (b27.2+1))) 2).bind fun v46=>(cat v44 v46).bind fun v48=>(cat v48 (([32]:Str))).bind fun v50=>(cut (([74,97,110,70,101,98,77,97,114,65,112,114,77,97,121,74,117,110,74,117,108,65,117,103,83,101,112,79,99,116,78,111,118,68,101,99]:Str)) ((w64 ((w64 (3 * b27.1)) - 3))) ((w64 (3 * b27.1)))).bind fun v52=>(cat v50 v52).bind fun v54=>(cat v54 (([32]:Str))).bind fun v56=>(Zxa b16.2 4).bind fun v58=>(cat v56 v58).bind fun v60=>(cat v60 (([32]:Str))).bind fun v62=>(Zxa ((iQuo ((iRem b5.1 86400)) 3600)) 2).bind fun v64=>(cat v62 v64).bind fun v66=>(cat v66 (([58]:Str))).bind fun v68=>(Zxa ((iRem ((iQuo ((iRem b5.1 86400)) 60)) 60)) 2).bind fun v70=>(cat v68 v70).bind fun v72=>(cat v72 (([58]:Str))).bind fun v74=>(Zxa ((iRem ((iRem b5.1 86400)) 60)) 2).bind fun v76=>(cat v74 v76).bind fun v78=>(cat v78 (([32,43,48,48,48,48]:Str))).bind fun v80=>some ((v80,true))))
def kJa(s t:Str):Option (Str × Bool):=if s.length<=9223372036854775807 then some (Lib.trimSuffix s t,Lib.hasSuffix s t) else none
def Zya(a0:Str)(a1:Int):Option (Int × Bool):=
 (vFa a0).bind fun v1=>((bif v1.2 then some true else (zWa v1.1).bind fun v5=>(bif (v5 !=a0) then some true else (bif decide (v1.1 < 0) then some true else some (decide (a1 < v1.1))))):Option Bool).bind fun (j3:Bool)=>(bif j3 then some ((0,false)) else some ((v1.1,true)))
def qua(a0:zda):Option ((List UInt8) × zma):=
 (zGa a0).bind fun v1=>(zpa v1).bind fun v3=>(bif v3 then some (([],v1)) else (qta a0).bind fun v6=>(zua).bind fun v8=>some ((v6,v8)))
def zFb(a0:List Int)(a1:List Int)(s2:Int):Option (Step Int (Unit ⊕ Bool)):=
 (bif decide (s2 < (a0.length:Int)) then (idx a0 s2).bind fun v8=>(idx a1 s2).bind fun v10=>(bif (v8 !=v10) then some (.out (.inr false)) else some (.cont (w64 (s2+1)))) else some (.out (.inl (()))))
def wPb(a0:List Int)(a1:List Int):Option Bool:=
 (bif ((a0.length:Int) !=(a1.length:Int)) then some false else (iter (zFb a0 a1) 0).bind (Sum.elim (fun b3=>some true) (fun b4=>some b4)))
def qja(c:UInt8):UInt8:=if c=0∨c=13 then 32 else c
def qga(s:Str):Option Str:=if s.length<=4611686018427387904 then some (s.map qja) else none
def YQa(t:Str):Bool:=t.all fun b=>decide (b.toNat < 128)
def Zza(s t:Str):Option Str:=if s.length<=9223372036854775807/\t.length < 4294967281/\YQa t=true then some (Lib.trimS s t) else none
def q8a(s t:Str):Option Str:=if s.length<=9223372036854775807/\t.length < 4294967281/\YQa t=true then some (Lib.trimRightS s t) else none
def qZa(l:List UInt8)(c:UInt8):Option Int:=some (Lib.indexByte l c)
def qCa(a0:List UInt8)(a1:List UInt8):Option (List UInt8):=
 (qUa a0 a1).bind fun v1=>(bif v1 then (cut a0 0 ((w64 ((a0.length:Int) - (a1.length:Int))))).bind fun v4=>some v4 else some a0)
def K1a(a0:List UInt8):Option (Str × Int):=
 (qZa a0 ((10:UInt8))).bind fun v1=>(bif decide (v1 < 0) then some ((a0,(a0.length:Int))) else (cut a0 0 v1).bind fun v4=>(qCa v4 (([(13:UInt8)]:List UInt8))).bind fun v6=>some ((v6,(w64 (v1+1)))))
def jMa(a0:Str):Option (zca × Bool):=
 (qqa a0 (([58]:Str))).bind fun v1=>(q8a v1.1 (([32,9]:Str))).bind fun v3=>((bif v1.2.2 then (jKa v3).bind fun v7=>some v7 else some false):Option Bool).bind fun (j5:Bool)=>some (((zca.mk v3 v1.2.1),j5))
def KEa(a0:List UInt8)(s4:Int × (List zca)):Option (Step (Int × (List zca)) (Int × (List zca))):=
 (bif decide (s4.1 < (a0.length:Int)) then (cut a0 s4.1 ((a0.length:Int))).bind fun v8=>(K1a v8).bind fun v10=>(bif (v10.1==([]:Str)) then some (.out (((w64 (s4.1+v10.2)),s4.2))) else ((idx v10.1 0).bind fun v14=>(qra v14).bind fun v16=>(bif v16 then some (decide (0 < (s4.2.length:Int))) else some false):Option Bool).bind fun (j13:Bool)=>(bif j13 then (idx s4.2 ((w64 ((s4.2.length:Int) - 1)))).bind fun v20=>(idx s4.2 ((w64 ((s4.2.length:Int) - 1)))).bind fun v22=>(cat v22.Value v10.1).bind fun v24=>(idx s4.2 ((w64 ((s4.2.length:Int) - 1)))).bind fun v26=>(idx s4.2 ((w64 ((s4.2.length:Int) - 1)))).bind fun v28=>some (.cont ((w64 (s4.1+v10.2)),(List.set s4.2 (Int.toNat ((w64 ((s4.2.length:Int) - 1)))) ((zca.mk v28.Name v24))))) else (jMa v10.1).bind fun v30=>(bif (!v30.2) then some (.out ((s4.1,s4.2))) else (app 4398046511104 s4.2 (([v30.1]:List zca))).bind fun v33=>some (.cont ((w64 (s4.1+v10.2)),v33))))) else some (.out ((s4.1,s4.2))))
def KFa(b5:Int × (List zca))(s38:Int × (List zca)):Option (Step (Int × (List zca)) ((List zca) ⊕ ((List zca) × Int × zma))):=
 (bif decide (s38.1 < (b5.2.length:Int)) then (idx s38.2 s38.1).bind fun v44=>(idx s38.2 s38.1).bind fun v46=>(qga v46.Value).bind fun v48=>(Zza v48 (([32,9]:Str))).bind fun v50=>(bif decide (4000 < (v50.length:Int)) then (zja 1 s38.1).bind fun v53=>some (.out (.inr (([],0,v53)))) else (idx s38.2 s38.1).bind fun v55=>(idx s38.2 s38.1).bind fun v57=>some (.cont ((w64 (s38.1+1)),(List.set s38.2 (Int.toNat s38.1) ((zca.mk v57.Name v50)))))) else some (.out (.inl s38.2)))
def jNa(a0:List UInt8):Option ((List zca) × Int × zma):=
 (bif decide (12000 < (a0.length:Int)) then (zja 1 ((-1))).bind fun v2=>some (([],0,v2)) else (iter (KEa a0) ((0,([]:List zca)))).bind fun b5=>(bif decide (60 < (b5.2.length:Int)) then (zja 2 ((-2))).bind fun v36=>some (([],0,v36)) else (iter (KFa b5) ((0,b5.2))).bind (Sum.elim (fun b39=>(zua).bind fun v59=>some ((b39,b5.1,v59))) (fun b40=>some ((b40.1,b40.2.1,b40.2.2))))))
def j0a(a0:List UInt8)(s1:Int × (List UInt8)):Option (Step (Int × (List UInt8)) (List UInt8)):=
 (bif decide (s1.1 < (a0.length:Int)) then (((idx a0 s1.1).bind fun v7=>(bif ((v7.toNat:Int)==13) then (bif decide ((w64 (s1.1+1)) < (a0.length:Int)) then (idx a0 ((w64 (s1.1+1)))).bind fun v11=>some (((v11.toNat:Int)==10)) else some false) else some false):Option Bool).bind fun (j6:Bool)=>(bif j6 then (app 140737488355328 s1.2 (([(13:UInt8),(10:UInt8)]:List UInt8))).bind fun v14=>some (((w64 (s1.1+1)),v14)) else ((idx a0 s1.1).bind fun v17=>(bif ((v17.toNat:Int)==13) then some true else (idx a0 s1.1).bind fun v20=>some (((v20.toNat:Int)==10))):Option Bool).bind fun (j16:Bool)=>(bif j16 then (app 140737488355328 s1.2 (([(13:UInt8),(10:UInt8)]:List UInt8))).bind fun v23=>some ((s1.1,v23)) else (idx a0 s1.1).bind fun v25=>(app 140737488355328 s1.2 (([v25]:List UInt8))).bind fun v27=>some ((s1.1,v27)))):Option (Int × (List UInt8))).bind fun (j5:Int × (List UInt8))=>some (.cont ((w64 (j5.1+1)),j5.2)) else some (.out s1.2))
def jOa(a0:List UInt8):Option (List UInt8):=
 (iter (j0a a0) ((0,([]:List UInt8)))).bind fun b2=>some b2
def ZAa(a0:List UInt8):Option (zda × zma):=
 (jNa a0).bind fun v1=>(zpa v1.2.2).bind fun v3=>(bif v3 then some (((zda.mk ([]) ([])),v1.2.2)) else (cut a0 v1.2.1 ((a0.length:Int))).bind fun v6=>(jOa v6).bind fun v8=>(zGa ((zda.mk v1.1 v8))).bind fun v10=>(zpa v10).bind fun v12=>(bif v12 then some (((zda.mk ([]) ([])),v10)) else (zua).bind fun v15=>some (((zda.mk v1.1 v8),v15))))
def zXa(a0:List UInt8):Option (List UInt8):=
 (nilE a0.isEmpty (some ([])) ((app 140737488355328 ([]:List UInt8) a0).bind fun v2=>some v2))
def wYa(s t:Str):Option Str:=if s.length<=9223372036854775807/\t.length < 4294967281/\YQa t=true then some (Lib.trimLeftS s t) else none
def vYa(a0:List zda)(s6:Int):Option (Step Int (Unit ⊕ zma)):=
 (bif decide (s6 < (a0.length:Int)) then (idx a0 s6).bind fun v12=>(zGa v12).bind fun v14=>(zpa v14).bind fun v16=>(bif v16 then (zja v14.Code s6).bind fun v19=>some (.out (.inr v19)) else some (.cont (w64 (s6+1)))) else some (.out (.inl (()))))
def vJa(a0:List zda):Option zma:=
 ((bif decide ((a0.length:Int) < 1) then some true else some (decide (20 < (a0.length:Int)))):Option Bool).bind fun (j1:Bool)=>(bif j1 then (zja 2 ((-20))).bind fun v4=>some v4 else (iter (vYa a0) 0).bind (Sum.elim (fun b7=>(zua).bind fun v21=>some v21) (fun b8=>some b8)))
def yxa(a0:List zca)(a1:Str)(a2:Str):Option Bool:=
 (Voa a0 a1).bind fun v1=>((bif ((v1.1.length:Int)==1) then (idx v1.1 0).bind fun v5=>some ((v5==a2)) else some false):Option Bool).bind fun (j3:Bool)=>some j3
def zNa(a0:zea):Option zea:=
 (wYa a0.s (([32,9]:Str))).bind fun v1=>some ((zea.mk v1))
def kKa(a0:zea)(a1:UInt8):Option (Bool × zea):=
 (zNa a0).bind fun v1=>((bif (v1.s==([]:Str)) then some true else (idx v1.s 0).bind fun v5=>some (((v5.toNat:Int) !=(a1.toNat:Int)))):Option Bool).bind fun (j3:Bool)=>(bif j3 then some ((false,v1)) else (cut v1.s 1 ((v1.s.length:Int))).bind fun v8=>some ((true,(zea.mk v8))))
def vZa(a0:UInt8):Option Bool:=
 ((bif decide (33<=(a0.toNat:Int)) then (bif decide ((a0.toNat:Int)<=126) then (zsa (([40,41,60,62,64,44,59,58,92,34,47,91,93,63,61,42,37,39]:Str)) a0).bind fun v4=>some (decide (v4 < 0)) else some false) else some false):Option Bool).bind fun (j1:Bool)=>some j1
def wOa(v4:zea)(s6:Int):Option (Step Int Int):=
 ((bif decide (s6 < (v4.s.length:Int)) then (idx v4.s s6).bind fun v11=>((vZa v11).bind fun v14=>(bif v14 then some true else (bif ((v11.toNat:Int)==37) then some true else (bif ((v11.toNat:Int)==39) then some true else some (((v11.toNat:Int)==42))))):Option Bool).bind fun (j13:Bool)=>some j13 else some false):Option Bool).bind fun (j9:Bool)=>(bif j9 then some (.cont (w64 (s6+1))) else some (.out s6))
def kWa(j30:Int × (List UInt8)):Option (Step (Int × (List UInt8)) (Unit ⊕ (Str × Bool × zea))):=
 some (.cont ((w64 (j30.1+1)),j30.2))
def wPa(v1:Bool × zea)(s24:Int × (List UInt8)):Option (Step (Int × (List UInt8)) (Unit ⊕ (Str × Bool × zea))):=
 (bif decide (s24.1 < (v1.2.s.length:Int)) then (idx v1.2.s s24.1).bind fun v31=>(bif ((v31.toNat:Int)==34) then (cut v1.2.s ((w64 (s24.1+1))) ((v1.2.s.length:Int))).bind fun v34=>some (.out (.inr ((s24.2,true,(zea.mk v34))))) else (bif ((v31.toNat:Int)==92) then (bif ((w64 (s24.1+1))==(v1.2.s.length:Int)) then some (.out (.inr ((([]:Str),false,v1.2)))) else (idx v1.2.s ((w64 (s24.1+1)))).bind fun v38=>(app 140737488355328 s24.2 (([v38]:List UInt8))).bind fun v40=>(kWa ((w64 (s24.1+1)),v40))) else (app 140737488355328 s24.2 (([v31]:List UInt8))).bind fun v42=>(kWa (s24.1,v42)))) else some (.out (.inl (()))))
def v0a(a0:zea):Option (Str × Bool × zea):=
 (kKa a0 ((34:UInt8))).bind fun v1=>(bif (!v1.1) then (zNa v1.2).bind fun v4=>(iter (wOa v4) 0).bind fun b7=>(cut v4.s 0 b7).bind fun v20=>(cut v4.s b7 ((v4.s.length:Int))).bind fun v22=>some ((v20,true,(zea.mk v22))) else (iter (wPa v1) ((0,([]:List UInt8)))).bind (Sum.elim (fun b25=>some ((([]:Str),false,v1.2))) (fun b26=>some ((b26.1,b26.2.1,b26.2.2)))))
def w6a(v1:zea)(s3:Int):Option (Step Int Int):=
 ((bif decide (s3 < (v1.s.length:Int)) then (idx v1.s s3).bind fun v8=>((vZa v8).bind fun v11=>(bif v11 then some true else some (((v8.toNat:Int)==42))):Option Bool).bind fun (j10:Bool)=>some j10 else some false):Option Bool).bind fun (j6:Bool)=>(bif j6 then some (.cont (w64 (s3+1))) else some (.out s3))
def wma(a0:zea):Option (zia × Bool × zea):=
 (zNa a0).bind fun v1=>(iter (w6a v1) 0).bind fun b4=>(cut v1.s 0 b4).bind fun v15=>(cut v1.s b4 ((v1.s.length:Int))).bind fun v17=>(kKa ((zea.mk v17)) ((61:UInt8))).bind fun v19=>(bif (!v19.1) then some (((zia.mk (([]:Str)) 0 false (([]:Str))),false,v19.2)) else (v0a v19.2).bind fun v22=>(qqa v15 (([42]:Str))).bind fun v24=>((bif v24.2.2 then (kJa v24.2.1 (([42]:Str))).bind fun v28=>(Zya v28.1 1099511627776).bind fun v30=>(bif v22.2.1 then some ((v30.2,v30.1,v28.2)) else some ((false,v30.1,v28.2))) else some ((v22.2.1,(-1),false))):Option (Bool × Int × Bool)).bind fun (j26:Bool × Int × Bool)=>((bif j26.1 then some ((v24.1 !=([]:Str))) else some false):Option Bool).bind fun (j33:Bool)=>some (((zia.mk v24.1 j26.2.1 j26.2.2 v22.1),j33,v22.2.2)))
def ZBa(a0:List zia):Option (zoa × Bool):=
 (idx a0 0).bind fun v1=>(idx a0 0).bind fun v3=>(idx a0 0).bind fun v5=>(bif decide (v5.number < 0) then some (((zoa.mk v1.name v3.value),((a0.length:Int)==1))) else none)
def KGa(v1:zea)(s3:Int):Option (Step Int Int):=
 ((bif decide (s3 < (v1.s.length:Int)) then (idx v1.s s3).bind fun v8=>((bif decide (33<=(v8.toNat:Int)) then (bif decide ((v8.toNat:Int)<=126) then (zsa (([40,41,60,62,64,44,59,58,92,34,47,91,93,63,61,42,37,39]:Str)) v8).bind fun v13=>some (decide (v13 < 0)) else some false) else some false):Option Bool).bind fun (j10:Bool)=>some j10 else some false):Option Bool).bind fun (j6:Bool)=>(bif j6 then some (.cont (w64 (s3+1))) else some (.out s3))
def KHa(v22:zea)(s24:Int):Option (Step Int Int):=
 ((bif decide (s24 < (v22.s.length:Int)) then (idx v22.s s24).bind fun v29=>((bif decide (33<=(v29.toNat:Int)) then (bif decide ((v29.toNat:Int)<=126) then (zsa (([40,41,60,62,64,44,59,58,92,34,47,91,93,63,61,42,37,39]:Str)) v29).bind fun v34=>some (decide (v34 < 0)) else some false) else some false):Option Bool).bind fun (j31:Bool)=>some j31 else some false):Option Bool).bind fun (j27:Bool)=>(bif j27 then some (.cont (w64 (s24+1))) else some (.out s24))
def KIa(s45:zea × (List zia)):Option (Step (zea × (List zia)) ((zea × (List zia)) ⊕ Unit)):=
 (kKa s45.1 ((59:UInt8))).bind fun v50=>(bif v50.1 then (wma v50.2).bind fun v53=>(bif (!v53.2.1) then some (.out (.inr (()))) else (app 2932031007402 s45.2 (([v53.1]:List zia))).bind fun v56=>some (.cont (v53.2.2,v56))) else some (.out (.inl ((v50.2,s45.2)))))
def wwa(s61:Int × (List zoa))(j67:List zoa):Option (Step (Int × (List zoa)) ((List zoa) ⊕ Unit)):=
 some (.cont ((w64 (s61.1+1)),j67))
def KJa(v68:zia)(v70:List zia)(s73:Int):Option (Step Int (Unit ⊕ Int)):=
 (bif decide (s73 < (v70.length:Int)) then (idx v70 s73).bind fun v79=>(kRa v79.name v68.name).bind fun v81=>(bif v81 then some (.out (.inr s73)) else some (.cont (w64 (s73+1)))) else some (.out (.inl (()))))
def KKa(b46:zea × (List zia))(v68:zia)(s86:Int × (List zia)):Option (Step (Int × (List zia)) (List zia)):=
 (bif decide (s86.1 < (b46.2.length:Int)) then ((idx b46.2 s86.1).bind fun v91=>(kRa v91.name v68.name).bind fun v93=>(bif v93 then (app 2932031007402 s86.2 (([v91]:List zia))).bind fun v96=>some v96 else some s86.2):Option (List zia)).bind fun (j90:List zia)=>some (.cont ((w64 (s86.1+1)),j90)) else some (.out s86.2))
def KLa(b46:zea × (List zia))(s61:Int × (List zoa)):Option (Step (Int × (List zoa)) ((List zoa) ⊕ Unit)):=
 (bif decide (s61.1 < (b46.2.length:Int)) then (idx b46.2 s61.1).bind fun v68=>(cut b46.2 0 s61.1).bind fun v70=>((iter (KJa v68 v70) 0).bind (Sum.elim (fun b74=>some ((-1))) (fun b75=>some b75)):Option Int).bind fun (j72:Int)=>(bif decide (0<=j72) then (wwa s61 s61.2) else (iter (KKa b46 v68) ((0,([]:List zia)))).bind fun b87=>(ZBa b87).bind fun v98=>(bif (!v98.2) then some (.out (.inr (()))) else (app 4398046511104 s61.2 (([(zoa.mk v68.name v98.1.Value)]:List zoa))).bind fun v101=>(wwa s61 v101))) else some (.out (.inl s61.2)))
def K2a(a0:Str):Option (kua × Bool):=
 (zNa ((zea.mk a0))).bind fun v1=>(iter (KGa v1) 0).bind fun b4=>(cut v1.s 0 b4).bind fun v16=>(cut v1.s b4 ((v1.s.length:Int))).bind fun v18=>(kKa ((zea.mk v18)) ((47:UInt8))).bind fun v20=>(zNa v20.2).bind fun v22=>(iter (KHa v22) 0).bind fun b25=>(cut v22.s 0 b25).bind fun v37=>(cut v22.s b25 ((v22.s.length:Int))).bind fun v39=>((bif (v16==([]:Str)) then some true else (bif (!v20.1) then some true else some ((v37==([]:Str))))):Option Bool).bind fun (j41:Bool)=>(bif j41 then some (((kua.mk v16 v37 (([]:List zoa))),false)) else (iter (KIa) (((zea.mk v39),([]:List zia)))).bind (Sum.elim (fun b46=>(zNa b46.1).bind fun v58=>(iter (KLa b46) ((0,([]:List zoa)))).bind (Sum.elim (fun b62=>some (((kua.mk v16 v37 b62),(v58.s==([]:Str))))) (fun b63=>some (((kua.mk v16 v37 (([]:List zoa))),false))))) (fun b47=>some (((kua.mk v16 v37 (([]:List zoa))),false)))))
def voa(a0:Str)(s5:Int):Option (Step Int (Unit ⊕ Unit)):=
 (bif decide (s5 < (a0.length:Int)) then (idx a0 s5).bind fun v11=>((bif decide (33<=(v11.toNat:Int)) then (bif decide ((v11.toNat:Int)<=126) then (zsa (([40,41,60,62,64,44,59,58,92,34,47,91,93,63,61,42,37,39]:Str)) v11).bind fun v16=>some (decide (v16 < 0)) else some false) else some false):Option Bool).bind fun (j13:Bool)=>(bif (!j13) then some (.out (.inr (()))) else some (.cont (w64 (s5+1)))) else some (.out (.inl (()))))
def kNa(a0:Str):Option Bool:=
 ((bif (a0 !=([]:Str)) then (bif decide ((a0.length:Int)<=60) then ((iter (voa a0) 0).bind (Sum.elim (fun b6=>some true) (fun b7=>some false)):Option Bool).bind fun (j4:Bool)=>some j4 else some false) else some false):Option Bool).bind fun (j1:Bool)=>some j1
def zOa(s1:Str):Option (Step Str Unit):=
 (bif decide (0 < (s1.length:Int)) then (idx s1 0).bind fun v5=>(bif decide ((v5.toNat:Int) < 128) then (cut s1 1 ((s1.length:Int))).bind fun v8=>(bif decide (8 < (v8.length:Int)) then none else some (.cont v8)) else none) else some (.out (())))
def kya(a0:Str):Option Bool:=
 (iter (zOa) a0).bind fun b2=>some true
def wna(v19:zoa)(v28:List zoa)(s31:Int):Option (Step Int (Unit ⊕ Int)):=
 (bif decide (s31 < (v28.length:Int)) then (idx v28 s31).bind fun v37=>(kRa v37.Name v19.Name).bind fun v39=>(bif v39 then some (.out (.inr s31)) else some (.cont (w64 (s31+1)))) else some (.out (.inl (()))))
def qha(a0:kua)(s13:Int):Option (Step Int (Unit ⊕ zma)):=
 (bif decide (s13 < (a0.Params.length:Int)) then (idx a0.Params s13).bind fun v19=>((kNa v19.Name).bind fun v22=>(bif (!v22) then some true else some (decide (20 < (v19.Name.length:Int)))):Option Bool).bind fun (j21:Bool)=>(bif j21 then (zja 10 s13).bind fun v26=>some (.out (.inr v26)) else (cut a0.Params 0 s13).bind fun v28=>((iter (wna v19 v28) 0).bind (Sum.elim (fun b32=>some ((-1))) (fun b33=>some b33)):Option Int).bind fun (j30:Int)=>(bif decide (0<=j30) then (zja 7 s13).bind fun v43=>some (.out (.inr v43)) else (bif decide (500 < (v19.Value.length:Int)) then (zja 1 s13).bind fun v46=>some (.out (.inr v46)) else (kya v19.Value).bind fun v48=>(bif (!v48) then (zja 5 s13).bind fun v51=>some (.out (.inr v51)) else some (.cont (w64 (s13+1))))))) else some (.out (.inl (()))))
def k3a(a0:kua):Option zma:=
 ((kNa a0.Type_).bind fun v2=>(bif (!v2) then some true else (kNa a0.Sub).bind fun v5=>some ((!v5))):Option Bool).bind fun (j1:Bool)=>(bif j1 then (zja 10 ((-2))).bind fun v8=>some v8 else (bif decide (60 < (a0.Params.length:Int)) then (zja 2 ((-3))).bind fun v11=>some v11 else (iter (qha a0) 0).bind (Sum.elim (fun b14=>(zua).bind fun v53=>some v53) (fun b15=>some b15))))
def K3a(a0:Str):Option (kua × zma):=
 (bif decide (4000 < (a0.length:Int)) then (zja 1 ((-1))).bind fun v2=>some (((kua.mk (([]:Str)) (([]:Str)) (([]:List zoa))),v2)) else (K2a a0).bind fun v4=>(bif (!v4.2) then (zja 11 ((-5))).bind fun v7=>some (((kua.mk (([]:Str)) (([]:Str)) (([]:List zoa))),v7)) else (k3a v4.1).bind fun v9=>(zpa v9).bind fun v11=>(bif v11 then (zja v9.Code ((-6))).bind fun v14=>some (((kua.mk (([]:Str)) (([]:Str)) (([]:List zoa))),v14)) else (zua).bind fun v16=>some ((v4.1,v16)))))
def yda(s1:Int × Int)(j7:Int):Option (Step (Int × Int) (Int ⊕ Unit)):=
 some (.cont (j7,(w64 (s1.2+1))))
def QFa(a0:List zca)(s1:Int × Int):Option (Step (Int × Int) (Int ⊕ Unit)):=
 (bif decide (s1.2 < (a0.length:Int)) then (idx a0 s1.2).bind fun v8=>(kRa v8.Name (([67,111,110,116,101,110,116,45,84,121,112,101]:Str))).bind fun v10=>(bif v10 then (bif decide (0<=s1.1) then some (.out (.inr (()))) else (yda s1 s1.2)) else (yda s1 s1.1)) else some (.out (.inl s1.1)))
def woa(a0:List zca):Option (kua × Int × Bool):=
 (iter (QFa a0) (((-1),0))).bind (Sum.elim (fun b2=>(bif decide (b2 < 0) then some (((kua.mk (([]:Str)) (([]:Str)) (([]:List zoa))),0,false)) else (idx a0 b2).bind fun v15=>(K3a v15.Value).bind fun v17=>(zpa v17.2).bind fun v19=>some ((v17.1,b2,(!v19))))) (fun b3=>some (((kua.mk (([]:Str)) (([]:Str)) (([]:List zoa))),0,false))))
def KMa(a0:kua)(a1:Str)(s6:Int):Option (Step Int (Unit ⊕ (Str × Bool × zma))):=
 (bif decide (s6 < (a0.Params.length:Int)) then (idx a0.Params s6).bind fun v12=>(kRa v12.Name a1).bind fun v14=>(bif v14 then (zua).bind fun v17=>some (.out (.inr ((v12.Value,true,v17)))) else some (.cont (w64 (s6+1)))) else some (.out (.inl (()))))
def jPa(a0:kua)(a1:Str):Option (Str × Bool × zma):=
 (k3a a0).bind fun v1=>(zpa v1).bind fun v3=>(bif v3 then some ((([]:Str),false,v1)) else (iter (KMa a0 a1) 0).bind (Sum.elim (fun b7=>(zua).bind fun v19=>some ((([]:Str),false,v19))) (fun b8=>some ((b8.1,b8.2.1,b8.2.2)))))
def KNa(a0:zoa)(s13:Int):Option (Step Int (Unit ⊕ Unit)):=
 (bif decide (s13 < (a0.Value.length:Int)) then (idx a0.Value s13).bind fun v19=>((bif decide (32<=(v19.toNat:Int)) then some (decide ((v19.toNat:Int)<=126)) else some false):Option Bool).bind fun (j21:Bool)=>(bif (!j21) then some (.out (.inr (()))) else some (.cont (w64 (s13+1)))) else some (.out (.inl (()))))
def yya(a0:zoa):Option Str:=
 (kNa a0.Value).bind fun v1=>(bif v1 then (cat (([59,32]:Str)) a0.Name).bind fun v4=>(cat v4 (([61]:Str))).bind fun v6=>(cat v6 a0.Value).bind fun v8=>some v8 else ((bif decide ((a0.Value.length:Int)<=60) then ((iter (KNa a0) 0).bind (Sum.elim (fun b14=>some true) (fun b15=>some false)):Option Bool).bind fun (j12:Bool)=>some j12 else some false):Option Bool).bind fun (j10:Bool)=>(bif j10 then (cat (([59,32]:Str)) a0.Name).bind fun v25=>(cat v25 (([61,34]:Str))).bind fun v27=>none else none))
def vpa(a0:kua)(s10:Str × Int):Option (Step (Str × Int) Str):=
 (bif decide (s10.2 < (a0.Params.length:Int)) then (idx a0.Params s10.2).bind fun v14=>(yya v14).bind fun v16=>(cat s10.1 v16).bind fun v18=>some (.cont (v18,(w64 (s10.2+1)))) else some (.out s10.1))
def q0a(a0:kua):Option (Str × zma):=
 (k3a a0).bind fun v1=>(zpa v1).bind fun v3=>(bif v3 then some ((([]:Str),v1)) else (cat a0.Type_ (([47]:Str))).bind fun v6=>(cat v6 a0.Sub).bind fun v8=>(iter (vpa a0) ((v8,0))).bind fun b11=>(bif decide (4000 < (b11.length:Int)) then (zja 1 ((-4))).bind fun v21=>some ((([]:Str),v21)) else (zua).bind fun v23=>some ((b11,v23))))
def vqa(a0:zka):Option Int:=
 (woa a0.Fields).bind fun v1=>((bif decide (0 < (a0.Body.length:Int)) then some true else (bif (!v1.2.2) then some true else (kRa v1.1.Type_ (([109,117,108,116,105,112,97,114,116]:Str))).bind fun v6=>some ((!v6)))):Option Bool).bind fun (j3:Bool)=>(bif j3 then some 5 else (jPa v1.1 (([98,111,117,110,100,97,114,121]:Str))).bind fun v9=>(q0a v1.1).bind fun v11=>((bif v9.2.1 then some true else (bif decide (60<=(v1.1.Params.length:Int)) then some true else (zpa v11.2).bind fun v16=>(bif v16 then some true else (idx a0.Fields v1.2.1).bind fun v19=>(bif (v11.1 !=v19.Value) then some true else some (decide (2000 < (v11.1.length:Int))))))):Option Bool).bind fun (j13:Bool)=>(bif j13 then some 5 else some 0))
def jta(v8:Str × Bool × zma)(s14:Int):Option (Step Int (Unit ⊕ Unit)):=
 (bif decide (s14 < (v8.1.length:Int)) then (idx v8.1 s14).bind fun v20=>((bif decide (32<=(v20.toNat:Int)) then some (decide ((v20.toNat:Int)<=126)) else some false):Option Bool).bind fun (j22:Bool)=>(bif (!j22) then some (.out (.inr (()))) else some (.cont (w64 (s14+1)))) else some (.out (.inl (()))))
def y2a(a0:List zca):Option (Str × Bool):=
 (woa a0).bind fun v1=>((bif (!v1.2.2) then some true else (kRa v1.1.Type_ (([109,117,108,116,105,112,97,114,116]:Str))).bind fun v5=>some ((!v5))):Option Bool).bind fun (j3:Bool)=>(bif j3 then some ((([]:Str),false)) else (jPa v1.1 (([98,111,117,110,100,97,114,121]:Str))).bind fun v8=>((bif (v8.1 !=([]:Str)) then (bif decide ((v8.1.length:Int)<=60) then ((iter (jta v8) 0).bind (Sum.elim (fun b15=>some true) (fun b16=>some false)):Option Bool).bind fun (j13:Bool)=>(bif j13 then (z4a v8.1 (([32]:Str))).bind fun v26=>some ((!v26)) else some false) else some false) else some false):Option Bool).bind fun (j10:Bool)=>((bif v8.2.1 then some j10 else some false):Option Bool).bind fun (j28:Bool)=>some ((v8.1,j28)))
def Vpa(a0:Str)(a1:Str):Option Int:=
 (q8a a0 (([32,9]:Str))).bind fun v1=>(cat (([45,45]:Str)) a1).bind fun v3=>(bif (v1==v3) then some 1 else (cat (([45,45]:Str)) a1).bind fun v6=>(cat v6 (([45,45]:Str))).bind fun v8=>(bif (v1==v8) then some 2 else some 0))
def yTa(a0:List UInt8)(a1:Str)(s1:Int × Int × (List (List UInt8))):Option (Step (Int × Int × (List (List UInt8))) ((Int × (List (List UInt8))) ⊕ (Int × (List (List UInt8)) × (List (List UInt8))))):=
 (bif decide (s1.1 < (a0.length:Int)) then (cut a0 s1.1 ((a0.length:Int))).bind fun v7=>(wja v7 (([(13:UInt8),(10:UInt8)]:List UInt8))).bind fun v9=>((bif decide (0<=v9) then some (((w64 (s1.1+v9)),(w64 ((w64 (s1.1+v9))+2)))) else some (((a0.length:Int),(a0.length:Int)))):Option (Int × Int)).bind fun (j11:Int × Int)=>(cut a0 s1.1 j11.1).bind fun v13=>(Vpa v13 a1).bind fun v15=>(bif (v15==0) then some (.cont (j11.2,s1.2.1,s1.2.2)) else ((bif decide (0<=s1.2.1) then (cut a0 s1.2.1 ((max s1.2.1 ((w64 (s1.1 - 2)))))).bind fun v20=>(app 5864062014805 s1.2.2 (([v20]:List (List UInt8)))).bind fun v22=>some v22 else some s1.2.2):Option (List (List UInt8))).bind fun (j18:List (List UInt8))=>(bif (v15==2) then some (.out (.inr ((s1.2.1,j18,j18)))) else some (.cont (j11.2,(min ((w64 ((w64 (s1.1+(v13.length:Int)))+2))) ((a0.length:Int))),j18)))) else some (.out (.inl ((s1.2.1,s1.2.2)))))
def yza(a0:List UInt8)(a1:Str):Option (List (List UInt8)):=
 (iter (yTa a0 a1) ((0,(-1),([]:List (List UInt8))))).bind (Sum.elim (fun b2=>((bif decide (0<=b2.1) then (cut a0 b2.1 ((a0.length:Int))).bind fun v27=>(app 5864062014805 b2.2 (([v27]:List (List UInt8)))).bind fun v29=>some v29 else some b2.2):Option (List (List UInt8))).bind fun (j25:List (List UInt8))=>some j25) (fun b3=>some b3.2.2))
def vBa(a0:List zca)(a1:List UInt8)(a2:Int):Option (List (List UInt8)):=
 (y2a a0).bind fun v1=>((bif (!v1.2) then some true else some (decide (8<=a2))):Option Bool).bind fun (j3:Bool)=>(bif j3 then some ([]) else (yza a1 v1.1).bind fun v6=>some v6)
def vra(a0:qFa):Option Int:=
 (kda a0.part.Fields).bind fun v1=>(zpa v1).bind fun v3=>(bif v3 then some v1.Code else (bif decide (0 < (a0.part.Parts.length:Int)) then (vqa a0.part).bind fun v7=>some v7 else (bif decide (12000 < (a0.part.Body.length:Int)) then some 1 else (wka a0.part.Body).bind fun v10=>(bif (v10 !=0) then some v10 else (vBa a0.part.Fields a0.part.Body a0.depth).bind fun v13=>(bif decide (0 < (v13.length:Int)) then some 5 else some 0)))))
def qJa(a0:qFa):Option Int:=
 (kda a0.part.Fields).bind fun v1=>(zpa v1).bind fun v3=>(bif v3 then some v1.Code else (bif decide (12000 < (a0.part.Body.length:Int)) then some 1 else (wka a0.part.Body).bind fun v7=>(bif (v7 !=0) then some v7 else (vBa a0.part.Fields a0.part.Body a0.depth).bind fun v10=>(bif decide (0 < (v10.length:Int)) then some 5 else some 0))))
def w7a(s1:Int × Int × Bool)(s13:Int):Option (Step Int Int):=
 (bif decide (s13 < 0) then none else some (.out ((w64 (s1.2.1+1)))))
def vba(s1:Int × Int × Bool)(s17:Int):Option (Step Int (Int × Bool)):=
 (bif decide (s17 < 0) then none else some (.out (((w64 (s1.2.1+1)),decide (8 < (w64 (0+1)))))))
def kha(a0:zka)(s1:Int × Int × Bool):Option (Step (Int × Int × Bool) (Bool ⊕ (Bool × Int × Int))):=
 (bif decide (s1.1 < (a0.Parts.length:Int)) then (idx a0.Parts s1.1).bind fun v7=>(bif decide (40<=s1.2.1) then (zja 2 ((-1))).bind fun v10=>some (.out (.inr ((s1.2.2,v10.Code,v10.Index)))) else (bif s1.2.2 then (iter (w7a s1) 0).bind fun b14=>some (.cont ((w64 (s1.1+1)),b14,true)) else (iter (vba s1) 0).bind fun b18=>some (.cont ((w64 (s1.1+1)),b18.1,b18.2)))) else some (.out (.inl s1.2.2)))
def vca(s29:Int × Int)(s42:Int):Option (Step Int Int):=
 (bif decide (s42 < 0) then none else some (.out ((w64 (s29.2+1)))))
def kia(a0:zka)(s29:Int × Int):Option (Step (Int × Int) (Unit ⊕ (Int × Int))):=
 (bif decide (s29.1 < (a0.Parts.length:Int)) then (idx a0.Parts s29.1).bind fun v35=>(qJa ((qFa.mk ((zka.mk v35.Fields v35.Body ([]))) ((w64 (0+1)))))).bind fun v37=>(bif (v37 !=0) then (zja v37 s29.2).bind fun v40=>some (.out (.inr ((v40.Code,v40.Index)))) else (iter (vca s29) 0).bind fun b43=>some (.cont ((w64 (s29.1+1)),b43))) else some (.out (.inl (()))))
def kLa(a0:zka):Option zma:=
 (iter (kha a0) ((0,(w64 (0+1)),false))).bind (Sum.elim (fun b2=>(bif b2 then (zja 2 ((-2))).bind fun v22=>some v22 else (vra ((qFa.mk a0 0))).bind fun v24=>(bif (v24 !=0) then (zja v24 0).bind fun v27=>some v27 else (iter (kia a0) ((0,(w64 (0+1))))).bind (Sum.elim (fun b30=>(zua).bind fun v46=>some v46) (fun b31=>some ((zma.mk b31.1 b31.2))))))) (fun b3=>some ((zma.mk b3.2.1 b3.2.2))))
def v1a(a0:zka):Option ((List zca) × (List UInt8)):=
 some ((a0.Fields,a0.Body))
def KOa(v7:(List Str) × zma)(s9:Int × (List UInt8)):Option (Step (Int × (List UInt8)) (List UInt8)):=
 (bif decide (s9.1 < (v7.1.length:Int)) then (idx v7.1 s9.1).bind fun v13=>(app 140737488355328 s9.2 v13).bind fun v15=>(app 140737488355328 v15 (([(13:UInt8),(10:UInt8)]:List UInt8))).bind fun v17=>some (.cont ((w64 (s9.1+1)),v17)) else some (.out s9.2))
def KPa(a0:List zca)(s1:Int × (List UInt8)):Option (Step (Int × (List UInt8)) (List UInt8)):=
 (bif decide (s1.1 < (a0.length:Int)) then (idx a0 s1.1).bind fun v5=>(wJa v5.Name v5.Value).bind fun v7=>(iter (KOa v7) ((0,s1.2))).bind fun b10=>some (.cont ((w64 (s1.1+1)),b10)) else some (.out s1.2))
def wpa(a0:List zca)(a1:List UInt8):Option (List UInt8):=
 (iter (KPa a0) ((0,([]:List UInt8)))).bind fun b2=>(app 140737488355328 b2 (([(13:UInt8),(10:UInt8)]:List UInt8))).bind fun v19=>(app 140737488355328 v19 a1).bind fun v21=>some v21
def kfa(a0:List UInt8)(c0_0:Str)(s1:Int):Option (Step Int (Unit ⊕ Unit)):=
 (bif decide (s1 < (a0.length:Int)) then (cut a0 s1 ((a0.length:Int))).bind fun v7=>(wja v7 (([(13:UInt8),(10:UInt8)]:List UInt8))).bind fun v9=>((bif decide (0<=v9) then some (((w64 (s1+v9)),(w64 ((w64 (s1+v9))+2)))) else some (((a0.length:Int),(a0.length:Int)))):Option (Int × Int)).bind fun (j11:Int × Int)=>(cut a0 s1 j11.1).bind fun v13=>(cat (([45,45]:Str)) c0_0).bind fun v15=>(z3a v13 v15).bind fun v17=>(bif v17 then some (.out (.inr (()))) else some (.cont j11.2)) else some (.out (.inl (()))))
def wQa(a0:List UInt8)(c0_0:Str):Option Bool:=
 (iter (kfa a0 c0_0) 0).bind (Sum.elim (fun b2=>some false) (fun b3=>some true))
def v2a(a0:List (List UInt8))(v6:Str)(s9:Int):Option (Step Int (Unit ⊕ Int)):=
 (bif decide (s9 < (a0.length:Int)) then (idx a0 s9).bind fun v15=>(wQa v15 v6).bind fun v17=>(bif v17 then some (.out (.inr s9)) else some (.cont (w64 (s9+1)))) else some (.out (.inl (()))))
def v3a(a0:List (List UInt8))(s1:Int):Option (Step Int Str):=
 (zWa s1).bind fun v4=>(cat (([98]:Str)) v4).bind fun v6=>((iter (v2a a0 v6) 0).bind (Sum.elim (fun b10=>some ((-1))) (fun b11=>some b11)):Option Int).bind fun (j8:Int)=>(bif (!(decide (0<=j8))) then some (.out v6) else some (.cont (w64 (s1+1))))
def jua(a0:List (List UInt8)):Option Str:=
 (iter (v3a a0) 0).bind fun b2=>some b2
def zKa(a0:List zoa):Option (List zoa):=
 (nilE a0.isEmpty (some ([])) ((app 4398046511104 ([]:List zoa) a0).bind fun v2=>some v2))
def kza(a0:zka)(s2:Int × (List (List UInt8))):Option (Step (Int × (List (List UInt8))) (List (List UInt8))):=
 (bif decide (s2.1 < (a0.Parts.length:Int)) then (idx a0.Parts s2.1).bind fun v6=>(v1a ((zka.mk v6.Fields v6.Body ([])))).bind fun v8=>(wpa v8.1 v8.2).bind fun v10=>(app 5864062014805 s2.2 (([v10]:List (List UInt8)))).bind fun v12=>some (.cont ((w64 (s2.1+1)),v12)) else some (.out s2.2))
def kAa(b3:List (List UInt8))(v14:Str)(s31:Int × (List UInt8)):Option (Step (Int × (List UInt8)) (List UInt8)):=
 (bif decide (s31.1 < (b3.length:Int)) then (idx b3 s31.1).bind fun v35=>(cat (([45,45]:Str)) v14).bind fun v37=>(cat v37 (([13,10]:Str))).bind fun v39=>(app 140737488355328 s31.2 v39).bind fun v41=>(app 140737488355328 v41 v35).bind fun v43=>(app 140737488355328 v43 (([(13:UInt8),(10:UInt8)]:List UInt8))).bind fun v45=>some (.cont ((w64 (s31.1+1)),v45)) else some (.out s31.2))
def q1a(a0:zka):Option ((List zca) × (List UInt8)):=
 (bif ((a0.Parts.length:Int)==0) then some ((a0.Fields,a0.Body)) else (iter (kza a0) ((0,([]:List (List UInt8))))).bind fun b3=>(jua b3).bind fun v14=>(woa a0.Fields).bind fun v16=>(zKa v16.1.Params).bind fun v18=>(app 4398046511104 v18 (([(zoa.mk (([98,111,117,110,100,97,114,121]:Str)) v14)]:List zoa))).bind fun v20=>(zla a0.Fields).bind fun v22=>(q0a ((kua.mk v16.1.Type_ v16.1.Sub v20))).bind fun v24=>(idx v22 v16.2.1).bind fun v26=>(idx v22 v16.2.1).bind fun v28=>(iter (kAa b3 v14) ((0,([]:List UInt8)))).bind fun b32=>(cat (([45,45]:Str)) v14).bind fun v47=>(cat v47 (([45,45,13,10]:Str))).bind fun v49=>(app 140737488355328 b32 v49).bind fun v51=>some (((List.set v22 (Int.toNat v16.2.1) ((zca.mk v28.Name v24.1))),v51)))
def kHa(a0:zka):Option (zda × zma):=
 (kLa a0).bind fun v1=>(zpa v1).bind fun v3=>(bif v3 then some (((zda.mk ([]) ([])),v1)) else (q1a a0).bind fun v6=>(zla v6.1).bind fun v8=>(zXa v6.2).bind fun v10=>(zGa ((zda.mk v8 v10))).bind fun v12=>(zpa v12).bind fun v14=>(bif v14 then (zja v12.Code ((-3))).bind fun v17=>some (((zda.mk ([]) ([])),v17)) else (zua).bind fun v19=>some (((zda.mk v8 v10),v19))))
def qKa(a1:List zda)(s22:Int × (List zka)):Option (Step (Int × (List zka)) (List zka)):=
 (bif decide (s22.1 < (a1.length:Int)) then (idx a1 s22.1).bind fun v26=>(qua v26).bind fun v28=>(app 1954687338268 s22.2 (([(zka.mk (([(zca.mk (([67,111,110,116,101,110,116,45,84,121,112,101]:Str)) (([109,101,115,115,97,103,101,47,105,116,101,109]:Str)))]:List zca)) v28.1 ([]))]:List zka))).bind fun v30=>some (.cont ((w64 (s22.1+1)),v30)) else some (.out s22.2))
def wqa(a0:Str)(a1:List zda)(a2:Int):Option (zda × zma):=
 (qza a0).bind fun v1=>(bif (!v1) then (zja 10 ((-10))).bind fun v4=>some (((zda.mk ([]) ([])),v4)) else (vJa a1).bind fun v6=>(zpa v6).bind fun v8=>(bif v8 then some (((zda.mk ([]) ([])),v6)) else (kCa a2 0).bind fun v11=>(zpa v11.2).bind fun v13=>(bif v13 then (zja v11.2.Code ((-2))).bind fun v16=>some (((zda.mk ([]) ([])),v16)) else (vAa v11.1).bind fun v18=>(zWa ((a1.length:Int))).bind fun v20=>(iter (qKa a1) ((0,([]:List zka)))).bind fun b23=>(kHa ((zka.mk (([(zca.mk (([70,114,111,109]:Str)) a0),(zca.mk (([68,97,116,101]:Str)) v18.1),(zca.mk (([88,45,68,105,103,101,115,116]:Str)) v20),(zca.mk (([67,111,110,116,101,110,116,45,84,121,112,101]:Str)) (([109,117,108,116,105,112,97,114,116,47,100,105,103,101,115,116]:Str)))]:List zca)) ([]) b23))).bind fun v32=>(zpa v32.2).bind fun v34=>(bif v34 then (zja v32.2.Code ((-21))).bind fun v37=>some (((zda.mk ([]) ([])),v37)) else (zua).bind fun v39=>some ((v32.1,v39))))))
def QGa(v1:kua × Int × Bool)(s5:Int):Option (Step Int (Unit ⊕ Int)):=
 (bif decide (s5 < (v1.1.Params.length:Int)) then (idx v1.1.Params s5).bind fun v11=>(idx v1.1.Params s5).bind fun v13=>(kRa v13.Name (([98,111,117,110,100,97,114,121]:Str))).bind fun v15=>(bif v15 then some (.out (.inr s5)) else some (.cont (w64 (s5+1)))) else some (.out (.inl (()))))
def QHa(s19:Int × Int × (List zoa)):Option (Step (Int × Int × (List zoa)) (Int × (List zoa))):=
 (bif decide (s19.2.1 < (s19.2.2.length:Int)) then ((idx s19.2.2 s19.2.1).bind fun v24=>(idx s19.2.2 s19.2.1).bind fun v26=>(kRa v26.Name (([98,111,117,110,100,97,114,121]:Str))).bind fun v28=>(bif (!v28) then (idx s19.2.2 s19.1).bind fun v31=>(idx s19.2.2 s19.1).bind fun v33=>some (((w64 (s19.1+1)),(List.set s19.2.2 (Int.toNat s19.1) v26))) else some ((s19.1,s19.2.2))):Option (Int × (List zoa))).bind fun (j23:Int × (List zoa))=>some (.cont (j23.1,(w64 (s19.2.1+1)),j23.2)) else some (.out ((s19.1,s19.2.2))))
def Kfa(a0:List zca):Option ((List zca) × Bool):=
 (woa a0).bind fun v1=>(((iter (QGa v1) 0).bind (Sum.elim (fun b6=>some ((-1))) (fun b7=>some b7)):Option Int).bind fun (j4:Int)=>(bif (j4==(-1)) then some v1.1.Params else (iter (QHa) ((j4,(w64 (j4+1)),v1.1.Params))).bind fun b20=>(cut b20.2 b20.1 (b20.2.length:Int)).bind fun v35=>(cut ((clr0 b20.2 (Int.toNat b20.1) ((zoa.mk (([]:Str)) (([]:Str)))))) 0 b20.1).bind fun v37=>some v37):Option (List zoa)).bind fun (j3:List zoa)=>(q0a ((kua.mk v1.1.Type_ v1.1.Sub j3))).bind fun v39=>(zpa v39.2).bind fun v41=>(bif v41 then some (([],false)) else (zla a0).bind fun v44=>(idx v44 v1.2.1).bind fun v46=>(idx v44 v1.2.1).bind fun v48=>some (((List.set v44 (Int.toNat v1.2.1) ((zca.mk v48.Name v39.1))),true)))
def vsa(a0:zfa)(v5:List (List UInt8))(s11:Int):Option (Step Int zfa):=
 (bif decide (s11 < (v5.length:Int)) then (idx v5 s11).bind fun v15=>none else some (.out ((zfa.mk ((w64 (a0.many+1))) a0.fault))))
def qLa(a0:zfa)(a1:List zca)(a2:List UInt8)(a3:Int):Option (zka × Bool × zfa):=
 (zla a1).bind fun v1=>(zXa a2).bind fun v3=>(vBa a1 a2 a3).bind fun v5=>(bif ((v5.length:Int)==0) then some (((zka.mk v1 v3 ([])),true,(zfa.mk ((w64 (a0.many+1))) a0.fault))) else (Kfa a1).bind fun v8=>(bif (!v8.2) then some (((zka.mk v1 v3 ([])),true,(zfa.mk ((w64 (a0.many+1))) a0.fault))) else (iter (vsa a0 v5) 0).bind fun b12=>some (((zka.mk v8.1 ([]) ([])),true,b12))))
def qMa(a0:zfa)(a1:List UInt8)(a2:Int):Option (zka × Bool × zfa):=
 (jNa a1).bind fun v1=>(zpa v1.2.2).bind fun v3=>(bif v3 then (zja v1.2.2.Code ((-8))).bind fun v6=>some (((zka.mk ([]) ([]) ([])),false,(zfa.mk a0.many v6))) else (bif (a0.many==40) then (zja 2 ((-7))).bind fun v9=>some (((zka.mk ([]) ([]) ([])),false,(zfa.mk a0.many v9))) else (cut a1 v1.2.1 ((a1.length:Int))).bind fun v11=>(qLa a0 v1.1 v11 a2).bind fun v13=>some ((v13.1,v13.2.1,v13.2.2))))
def vta(a3:Int)(v5:List (List UInt8))(s11:Int × zfa × (List zka)):Option (Step (Int × zfa × (List zka)) ((zfa × (List zka)) ⊕ zfa)):=
 (bif decide (s11.1 < (v5.length:Int)) then (idx v5 s11.1).bind fun v17=>(qMa s11.2.1 v17 ((w64 (a3+1)))).bind fun v19=>(bif (!v19.2.1) then some (.out (.inr v19.2.2)) else (app 1954687338268 s11.2.2 (([(zka.mk v19.1.Fields v19.1.Body ([]))]:List zka))).bind fun v22=>some (.cont ((w64 (s11.1+1)),v19.2.2,v22))) else some (.out (.inl ((s11.2.1,s11.2.2)))))
def qNa(a0:zfa)(a1:List zca)(a2:List UInt8)(a3:Int):Option (zka × Bool × zfa):=
 (zla a1).bind fun v1=>(zXa a2).bind fun v3=>(vBa a1 a2 a3).bind fun v5=>(bif ((v5.length:Int)==0) then some (((zka.mk v1 v3 (([]:List zka))),true,(zfa.mk ((w64 (a0.many+1))) a0.fault))) else (Kfa a1).bind fun v8=>(bif (!v8.2) then some (((zka.mk v1 v3 (([]:List zka))),true,(zfa.mk ((w64 (a0.many+1))) a0.fault))) else (iter (vta a3 v5) ((0,(zfa.mk ((w64 (a0.many+1))) a0.fault),([]:List zka)))).bind (Sum.elim (fun b12=>some (((zka.mk v8.1 ([]) b12.2),true,b12.1))) (fun b13=>some (((zka.mk ([]) ([]) ([])),false,b13))))))
def y3a(a0:zda):Option (zka × zma):=
 (zGa a0).bind fun v1=>(zpa v1).bind fun v3=>(bif v3 then some (((zka.mk ([]) ([]) ([])),v1)) else (qNa ((zfa.mk 0 ((zma.mk 0 0)))) a0.Fields a0.Body 0).bind fun v6=>(bif (!v6.2.1) then some (((zka.mk ([]) ([]) ([])),v6.2.2.fault)) else (kLa v6.1).bind fun v9=>(zpa v9).bind fun v11=>(bif v11 then (zja v9.Code ((-9))).bind fun v14=>some (((zka.mk ([]) ([]) ([])),v14)) else (zua).bind fun v16=>some ((v6.1,v16)))))
def y4a(a0:zka):Option (zda × Bool):=
 (yxa a0.Fields (([67,111,110,116,101,110,116,45,84,121,112,101]:Str)) (([109,101,115,115,97,103,101,47,105,116,101,109]:Str))).bind fun v1=>(bif (!v1) then some (((zda.mk ([]) ([])),false)) else (ZAa a0.Body).bind fun v4=>(zpa v4.2).bind fun v6=>(bif v6 then some (((zda.mk ([]) ([])),false)) else (qua v4.1).bind fun v9=>((zpa v9.2).bind fun v12=>(bif (!v12) then (wia v9.1 a0.Body).bind fun v15=>some v15 else some false):Option Bool).bind fun (j11:Bool)=>some ((v4.1,j11))))
def KQa(v6:zka × zma)(s24:Int × (List zda)):Option (Step (Int × (List zda)) ((List zda) ⊕ ((List zda) × Bool × zma))):=
 (bif decide (s24.1 < (v6.1.Parts.length:Int)) then (idx v6.1.Parts s24.1).bind fun v30=>(y4a ((zka.mk v30.Fields v30.Body ([])))).bind fun v32=>(bif (!v32.2) then (zua).bind fun v35=>some (.out (.inr (([],false,v35)))) else (app 2932031007402 s24.2 (([v32.1]:List zda))).bind fun v37=>some (.cont ((w64 (s24.1+1)),v37))) else some (.out (.inl s24.2)))
def jQa(a0:zda):Option ((List zda) × Bool × zma):=
 (zGa a0).bind fun v1=>(zpa v1).bind fun v3=>(bif v3 then some (([],false,v1)) else (y3a a0).bind fun v6=>((zpa v6.2).bind fun v9=>(bif v9 then some true else (bif decide ((v6.1.Parts.length:Int) < 1) then some true else (bif decide (20 < (v6.1.Parts.length:Int)) then some true else (yxa v6.1.Fields (([67,111,110,116,101,110,116,45,84,121,112,101]:Str)) (([109,117,108,116,105,112,97,114,116,47,100,105,103,101,115,116]:Str))).bind fun v14=>(bif (!v14) then some true else (zWa ((v6.1.Parts.length:Int))).bind fun v17=>(yxa v6.1.Fields (([88,45,68,105,103,101,115,116]:Str)) v17).bind fun v19=>some ((!v19)))))):Option Bool).bind fun (j8:Bool)=>(bif j8 then (zua).bind fun v22=>some (([],false,v22)) else (iter (KQa v6) ((0,([]:List zda)))).bind (Sum.elim (fun b25=>(zua).bind fun v39=>some ((b25,true,v39))) (fun b26=>some ((b26.1,b26.2.1,b26.2.2))))))
def jva(a0:List zda)(a1:Int)(s11:Int × Int × (List Int)):Option (Step (Int × Int × (List Int)) (List Int)):=
 (bif decide (s11.2.1 < (a0.length:Int)) then ((idx a0 s11.2.1).bind fun v16=>(qua v16).bind fun v18=>((bif decide (0<=(w64 ((s11.2.2.length:Int) - 1))) then (idx s11.2.2 ((w64 ((s11.2.2.length:Int) - 1)))).bind fun v22=>(idx s11.2.2 ((w64 ((s11.2.2.length:Int) - 1)))).bind fun v24=>(bif decide (v24 < a1) then some (((w64 (s11.1+(v18.1.length:Int))),(w64 ((s11.2.2.length:Int) - 1)),decide ((w64 (s11.1+(v18.1.length:Int)))<=6000))) else some (((w64 (s11.1+(v18.1.length:Int))),(w64 ((s11.2.2.length:Int) - 1)),false))) else some (((w64 (s11.1+(v18.1.length:Int))),(w64 ((s11.2.2.length:Int) - 1)),false))):Option (Int × Int × Bool)).bind fun (j20:Int × Int × Bool)=>(bif j20.2.2 then (idx s11.2.2 j20.2.1).bind fun v28=>(idx s11.2.2 j20.2.1).bind fun v30=>(idx s11.2.2 j20.2.1).bind fun v32=>(idx s11.2.2 j20.2.1).bind fun v34=>some ((j20.1,(List.set s11.2.2 (Int.toNat j20.2.1) ((w64 (v30+1)))))) else (app 17592186044416 s11.2.2 (([1]:List Int))).bind fun v36=>some (((v18.1.length:Int),v36))):Option (Int × (List Int))).bind fun (j15:Int × (List Int))=>some (.cont (j15.1,(w64 (s11.2.1+1)),j15.2)) else some (.out s11.2.2))
def y5a(a0:List zda)(a1:Int):Option ((List Int) × zma):=
 (vJa a0).bind fun v1=>(zpa v1).bind fun v3=>(bif v3 then some (([],v1)) else ((bif decide (a1 < 1) then some true else some (decide (20 < a1))):Option Bool).bind fun (j6:Bool)=>(bif j6 then (zja 3 ((-22))).bind fun v9=>some (([],v9)) else (iter (jva a0 a1) ((0,0,([]:List Int)))).bind fun b12=>(zua).bind fun v38=>some ((b12,v38))))
def jwa:Option Bool:=
 (wqa (([108,64,120]:Str)) (([(zda.mk ([]) ([])),(zda.mk ([]) (([(97:UInt8)]:List UInt8)))]:List zda)) 0).bind fun v1=>(jQa v1.1).bind fun v3=>(y5a (([(zda.mk ([]) ([])),(zda.mk ([]) ([])),(zda.mk ([]) ([]))]:List zda)) 2).bind fun v5=>(jQa ((zda.mk ([]) ([])))).bind fun v7=>((bif (v1.2.Code==0) then (bif (v3.2.2.Code==0) then (bif (v5.2.Code==0) then (bif (v7.2.2.Code==0) then (bif v3.2.1 then (bif (!v7.2.1) then (bif ((v1.1.Fields.length:Int)==4) then (bif ((v3.1.length:Int)==2) then (idx v3.1 1).bind fun v18=>(bif (v18.Body==([97]:Str)) then (wPb v5.1 (([2,1]:List Int))).bind fun v21=>some v21 else some false) else some false) else some false) else some false) else some false) else some false) else some false) else some false) else some false):Option Bool).bind fun (j9:Bool)=>some j9
def qva(a0:List zda)(s6:Int):Option (Step Int (Unit ⊕ zma)):=
 (bif decide (s6 < (a0.length:Int)) then (idx a0 s6).bind fun v12=>(qGa v12).bind fun v14=>(bif (v14.Code !=0) then (idx a0 s6).bind fun v17=>(qGa v17).bind fun v19=>(R_At v19.Code s6).bind fun v21=>some (.out (.inr v21)) else some (.cont (w64 (s6+1)))) else some (.out (.inl (()))))
def qDa(a0:List zda):Option zma:=
 (R_In ((a0.length:Int)) 1 20).bind fun v1=>(bif (!v1) then (R_At 2 ((-20))).bind fun v4=>some v4 else (iter (qva a0) 0).bind (Sum.elim (fun b7=>some ((zma.mk 0 0))) (fun b8=>some b8)))
def zRa(a1:List zda)(s32:Int × (List zka)):Option (Step (Int × (List zka)) (List zka)):=
 (bif decide (s32.1 < (a1.length:Int)) then (idx a1 s32.1).bind fun v36=>(k1a v36).bind fun v38=>(app 1954687338268 s32.2 (([(zka.mk (([(zca.mk (([67,111,110,116,101,110,116,45,84,121,112,101]:Str)) (([109,101,115,115,97,103,101,47,105,116,101,109]:Str)))]:List zca)) v38 ([]))]:List zka))).bind fun v40=>some (.cont ((w64 (s32.1+1)),v40)) else some (.out s32.2))
def k9a(a0:Str)(a1:List zda)(a2:Int):Option Bool:=
 (wqa a0 a1 a2).bind fun v1=>((yla a0).bind fun v4=>(bif (!v4) then (R_At 10 ((-10))).bind fun v7=>some ((v7.Code,v7.Index)) else (qDa a1).bind fun v9=>some ((v9.Code,v9.Index))):Option (Int × Int)).bind fun (j3:Int × Int)=>(jsa a2).bind fun v11=>(((bif (j3.1==0) then some ((!v11.2)) else some false):Option Bool).bind fun (j14:Bool)=>(bif j14 then (R_At 3 ((-2))).bind fun v17=>some ((v17.Code,v17.Index)) else some ((j3.1,j3.2))):Option (Int × Int)).bind fun (j13:Int × Int)=>((jwa).bind fun v20=>(bif (!v20) then some true else some ((j13.1 !=0))):Option Bool).bind fun (j19:Bool)=>(bif j19 then ((jwa).bind fun v25=>(bif v25 then (bif (jFa [(v1.2.Code==j13.1),(v1.2.Index==j13.2)]) then (bif ((v1.1.Fields.length:Int)==0) then some (((v1.1.Body.length:Int)==0)) else some false) else some false) else some false):Option Bool).bind fun (j24:Bool)=>some j24 else (Kea ((a1.length:Int))).bind fun v30=>(iter (zRa a1) ((0,([]:List zka)))).bind fun b33=>(kHa ((zka.mk (([(zca.mk (([70,114,111,109]:Str)) a0),(zca.mk (([68,97,116,101]:Str)) v11.1),(zca.mk (([88,45,68,105,103,101,115,116]:Str)) v30),(zca.mk (([67,111,110,116,101,110,116,45,84,121,112,101]:Str)) (([109,117,108,116,105,112,97,114,116,47,100,105,103,101,115,116]:Str)))]:List zca)) ([]) b33))).bind fun v42=>(bif (v42.2.Code !=0) then ((R_At v42.2.Code ((-21))).bind fun v46=>(bif (jFa [(v1.2.Code==v46.Code),(v1.2.Index==v46.Index)]) then some (((v1.1.Fields.length:Int)==0)) else some false):Option Bool).bind fun (j45:Bool)=>some j45 else ((bif (v1.2.Code==0) then (vWa v1.1 v42.1).bind fun v51=>some v51 else some false):Option Bool).bind fun (j49:Bool)=>some j49))
theorem WQa:jwa=some true:=by kernel_rfl
section
theorem w64_nn(a b:Nat)(h:a+b<=9223372036854775807):w64 ((a:Int)+(b:Int))=((a+b:Nat):Int):=by
 rw[zDa (by omega) (by omega)];simp
theorem w64_ns(a b:Nat)(h:b<=a)(ha:a<=9223372036854775807):w64 ((a:Int) - (b:Int))=((a - b:Nat):Int):=by
 rw[zDa (by omega) (by omega)];omega
theorem zGb(a:Nat)(h:a<=9223372036854775807):w64 (a:Int)=(a:Int):=zDa (by omega) (by omega)
theorem jRa(c:UInt8)(k:Nat)(hk:OfNat.ofNat k < 256):((c.toNat:Int)==no_index (OfNat.ofNat k:Int))=(c==OfNat.ofNat k):=by
 have e:(OfNat.ofNat k:Int)=((OfNat.ofNat k:Nat):Int):=rfl;have h2:(OfNat.ofNat k:UInt8).toNat=(OfNat.ofNat k:Nat):=by
  show (UInt8.ofNat k).toNat=k;rw[jCb];exact Nat.mod_eq_of_lt hk
 rw[jBd,beq_iff_eq,beq_iff_eq,<-UInt8.toNat_inj,h2,e];omega
theorem zHb(c:UInt8)(k:Nat)(hk:OfNat.ofNat k < 256):((c.toNat:Int) !=no_index (OfNat.ofNat k:Int))=(c !=OfNat.ofNat k):=by
 unfold bne;rw[jRa c k hk]
section
variable {α:Type}
theorem JKa(l:List α)(i:Nat):idx l (i:Int)=l[i]? :=by unfold idx;rw[if_pos (by omega)];simp
theorem YRa{l:List α}{i:Nat}(h:i < l.length):idx l (i:Int)=some l[i]:=by rw[JKa];exact jAf h
theorem wQb{l:List α}{a b:Nat}(h1:a<=b)(h2:b<=l.length):cut l (a:Int) (b:Int)=some ((l.drop a).take (b - a)):=by
 unfold cut;rw[if_pos (by omega)];simp
theorem QIa{l:List α}{a:Nat}(h1:a<=l.length):cut l (a:Int) (l.length:Int)=some (l.drop a):=by
 rw[wQb h1 (jAt _)];rw[List.take_of_length_le (by simp)]
theorem wRb{l:List α}{b:Nat}(h2:b<=l.length):cut l 0 (b:Int)=some (l.take b):=by
 have:=wQb (l:=l) (a:=0) (b:=b) (by omega) h2;simpa using this
theorem vKa{lim:Nat}{l xs:List α}(h:l.length+xs.length<=lim):app lim l xs=some (l++xs):=by unfold app;rw[if_pos h]
theorem vaa{a b:Str}(h:a.length+b.length<=9223372036854775807):cat a b=some (a++b):=by unfold cat;rw[if_pos h]
end
section
variable {A R:Type} {body:A->Option (Step A R)}
theorem jSa(Inv:A->Prop)(m:A->Nat)(Post:A->R->Prop)
 (h:∀s,Inv s->(∃r,body s=some (.out r)/\Post s r)∨∃s',body s=some (.cont s')/\Inv s' /\m s' < m s/\∀r,Post s' r->Post s r):
 ∀s,Inv s->∃r,iter body s=some r/\Post s r:=by
 intro s;induction hn:m s using Nat.strongRecOn generalizing s with
 | _ n ih=>
  intro hi;rcases h s hi with ⟨r,h1,h2⟩ | ⟨s',h1,h2,h3,h4⟩
  .exact ⟨r,zva h1,h2⟩
  obtain ⟨r,h5,h6⟩:=ih (m s') (by omega) s' rfl h2;exact ⟨r,(zLa h1).trans h5,h4 r h6⟩
theorem wSb{α S:Type}(l:List α)(enc:Nat->S->A)(spec:Nat->List α->S->R)
 (h0:∀s,body (enc l.length s)=some (.out (spec l.length [] s)))
 (h1:∀p x r s,l=p++x::r->(body (enc p.length s)=some (.out (spec p.length (x::r) s)))∨∃s',body (enc p.length s)=some (.cont (enc (p.length+1) s'))/\spec p.length (x::r) s=spec (p.length+1) r s'):
 ∀{s0:A} (s:S) (_:s0=enc 0 s),iter body s0=some (spec 0 l s):=by
 have key:∀r p s,l=p++r->iter body (enc p.length s)=some (spec p.length r s):=by
  intro r;induction r with
  | nil=>
   intro p s h;have:p=l:=by simp[h]
   subst this;exact zva (h0 s)
  | cons x r ih=>
   intro p s h;rcases h1 p x r s h with hb | ⟨s',hb,hs⟩
   .exact zva hb
   rw[zLa hb,hs];have:=ih (p++ [x]) s' (by simp[h]);simpa using this
 rintro _ s rfl;exact key l [] s rfl
end
end
section
section
variable {α R O A S:Type}
def zFa(q:Nat->α->Option R):Nat->List α->Option R
 | _,[]=>none
 | i,x::r=>match q i x with | some y=>some y | none=>zFa q (i+1) r
theorem kja(l:List α)(q:Nat->α->Option R)(oN:O)(oS:R->O){body:Int->Option (Step Int O)}(hl:body (l.length:Int)=some (.out oN))
 (hs:∀(i:Nat) x,l[i]? =some x->body (i:Int)=some ((q i x).elim (.cont ((i+1:Nat):Int)) fun r=>.out (oS r))):
 iter body 0=some ((zFa q 0 l).elim oN oS):=by
 have key:∀r p,l=p++r->iter body (p.length:Int)=some ((zFa q p.length r).elim oN oS):=by
  intro r;induction r with
  | nil=>
   intro p h;have:p=l:=by simp[h]
   subst this;exact zva hl
  | cons x r ih=>
   intro p h;have hx:=hs p.length x (by simp[h]);unfold zFa;cases hq:q p.length x with
   | some y=>rw[hq]at hx;exact zva hx
   | none=>
    rw[hq]at hx;rw[zLa hx];have:=ih (p++ [x]) (by simp[h]);simpa using this
 exact key l [] rfl
theorem vsb(l:List α)(enc:Int->S->A)(f:Nat->S->α->S)(out:S->O)(Inv:Nat->S->Prop){body:A->Option (Step A O)}
 (hl:∀s,Inv l.length s->body (enc l.length s)=some (.out (out s)))
 (hs:∀(i:Nat) x s,l[i]? =some x->Inv i s->body (enc i s)=some (.cont (enc ((i+1:Nat):Int) (f i s x)))/\Inv (i+1) (f i s x)) (s:S) (h0:Inv 0 s):
 ∃t,iter body (enc 0 s)=some (out t)/\Inv l.length t/\t=(l.zipIdx.foldl (fun s p=>f p.2 s p.1) s):=by
 have key:∀r p s,l=p++r->Inv p.length s->∃t,iter body (enc (p.length:Int) s)=some (out t)/\Inv l.length t/\t=((r.zipIdx p.length).foldl (fun s p=>f p.2 s p.1) s):=by
  intro r;induction r with
  | nil=>
   intro p s h hi;have:p=l:=by simp[h]
   subst this;exact ⟨s,zva (hl s hi),hi,rfl⟩
  | cons x r ih=>
   intro p s h hi;obtain ⟨h1,h2⟩:=hs p.length x s (by simp[h]) hi;rw[zLa h1];obtain ⟨t,h3,h4,h5⟩:=ih (p++ [x]) (f p.length s x) (by simp[h]) (by simpa using h2);refine ⟨t,by simpa using h3,h4,?_⟩;rw[h5];simp
 exact key l [] s rfl h0
theorem zIb(f:S->α->S)(l:List α):∀(n:Nat) (s:S),(l.zipIdx n).foldl (fun s p=>f s p.1) s=l.foldl f s:=by
 induction l with
 | nil=>intro n s;rfl
 | cons x r ih=>intro n s;simp[ih]
theorem yAa(l:List α)(enc:Int->S->A)(f:S->α->S)(out:S->O)(Inv:Nat->S->Prop){body:A->Option (Step A O)}
 (hl:∀s,Inv l.length s->body (enc l.length s)=some (.out (out s)))
 (hs:∀(i:Nat) x s,l[i]? =some x->Inv i s->body (enc i s)=some (.cont (enc ((i+1:Nat):Int) (f s x)))/\Inv (i+1) (f s x)) (s:S) (h0:Inv 0 s):
 iter body (enc 0 s)=some (out (l.foldl f s))/\Inv l.length (l.foldl f s):=by
 obtain ⟨t,h1,h2,h3⟩:=vsb l enc (fun _=>f) out Inv hl hs s h0;have:t=l.foldl f s:=by rw[h3];exact zIb f l 0 s
 subst this;exact ⟨h1,h2⟩
theorem Kga(c:α->Bool)(r:R)(l:List α)(n:Nat):zFa (fun _ x=>if c x then some r else none) n l=if l.any c then some r else none:=by
 induction l generalizing n with
 | nil=>rfl
 | cons x l ih=>unfold zFa;cases h:c x <;> simp[h,ih]
theorem jTa{q:Nat->α->Option R}{l:List α}{n:Nat}:zFa q n l=none↔∀(i:Nat) x,l[i]? =some x->q (n+i) x=none:=by
 induction l generalizing n with
 | nil=>simp[zFa]
 | cons x l ih=>
  unfold zFa;cases h:q n x with
  | some y=>
   simp only[reduceCtorEq,false_iff];intro hh;have:=hh 0 x rfl;rw[jBq,h]at this;cases this
  | none=>
   rw[ih];constructor
   .intro hh i y hy;cases i with
    | zero=>simp at hy;subst hy;exact h
    | succ i=>rw[show n+(i+1)=n+1+i by omega];exact hh i y (by simpa using hy)
   intro hh i y hy;rw[show n+1+i=n+(i+1) by omega];exact hh (i+1) y (by simpa using hy)
theorem K4a{q:Nat->α->Option R}{l:List α}{n:Nat}{r:R}(h:zFa q n l=some r):∃(i:Nat) (x:α),l[i]? =some x/\q (n+i) x=some r:=by
 induction l generalizing n with
 | nil=>cases h
 | cons x l ih=>
  unfold zFa at h;cases hq:q n x with
  | some y=>rw[hq]at h;cases h;exact ⟨0,x,rfl,hq⟩
  | none=>
   rw[hq]at h;obtain ⟨i,y,h1,h2⟩:=ih h;exact ⟨i+1,y,by simpa using h1,by rw[show n+(i+1)=n+1+i by omega];exact h2⟩
theorem kta{l:List α}{i:Nat}{x:α}(h:l[i]? =some x):i < l.length:=(jAc.1 h).1
theorem kOa{l:List α}{i:Nat}{x:α}(h:l[i]? =some x):decide ((i:Int) < (l.length:Int))=true:=by have:=kta h;simp;omega
theorem z7a(l:List α):decide ((l.length:Int) < (l.length:Int))=false:=by simp
theorem z8a{l:List α}{i:Nat}{x:α}(h:l[i]? =some x):idx l (i:Int)=some x:=by rw[JKa];exact h
end
end
def zJb(c:UInt8):Bool:=(decide (97<=c) && decide (c<=122)) || (decide (65<=c) && decide (c<=90)) || (decide (48<=c) && decide (c<=57))
def w8a(c:UInt8):Bool:=(decide (97<=c) && decide (c<=122)) || (decide (48<=c) && decide (c<=57)) || c==45 || c==46
def V4a(c:UInt8):Bool:=zJb c || c==45 || c==95 || c==46 || c==43 || c==61
def j1a:Bool->Str->Bool
 | p,[]=> !p
 | p,c::r=>if c=46 then !p && j1a true r else j1a false r
def domP(s:Str):Bool:=decide (s.length<=60) && s.all w8a && j1a true s
def atP(s:Str):Nat:=s.findIdx (· ==64)
def V5a(s:Str):Bool:=decide (atP s < s.length) && decide (1<=atP s) && decide (atP s<=60) && (s.take (atP s)).all V4a && domP (s.drop (atP s+1))
theorem j2a(k:Nat)(c:UInt8)(hk:OfNat.ofNat k < 256):decide ((no_index (OfNat.ofNat k:Int))<=(c.toNat:Int))=decide ((OfNat.ofNat k:UInt8)<=c):=by
 have e:(OfNat.ofNat k:Int)=((OfNat.ofNat k:Nat):Int):=rfl;have h2:(OfNat.ofNat k:UInt8).toNat=(OfNat.ofNat k:Nat):=by
  show (UInt8.ofNat k).toNat=k;rw[jCb];exact Nat.mod_eq_of_lt hk
 rw[jBd,decide_eq_true_eq,decide_eq_true_eq,UInt8.le_iff_toNat_le,h2,e];omega
theorem j3a(k:Nat)(c:UInt8)(hk:OfNat.ofNat k < 256):decide ((c.toNat:Int)<=(no_index (OfNat.ofNat k:Int)))=decide (c<=(OfNat.ofNat k:UInt8)):=by
 have e:(OfNat.ofNat k:Int)=((OfNat.ofNat k:Nat):Int):=rfl;have h2:(OfNat.ofNat k:UInt8).toNat=(OfNat.ofNat k:Nat):=by
  show (UInt8.ofNat k).toNat=k;rw[jCb];exact Nat.mod_eq_of_lt hk
 rw[jBd,decide_eq_true_eq,decide_eq_true_eq,UInt8.le_iff_toNat_le,h2,e];omega
theorem yBa(a b c:Int):R_In a b c=some (decide (b<=a) && decide (a<=c)):=by
 unfold R_In;cases decide (b<=a) <;> rfl
theorem QJa(c:UInt8):qTa c=some (zJb c):=by
 unfold qTa zJb;simp only[yBa,jAb,j2a 97 c (by decide),j3a 122 c (by decide),j2a 65 c (by decide),j3a 90 c (by decide),j2a 48 c (by decide),j3a 57 c (by decide)];generalize (decide ((97:UInt8)<=c) && decide (c<=122))=x;generalize (decide ((65:UInt8)<=c) && decide (c<=90))=y;cases x <;> cases y <;> simp
theorem WRa(c:UInt8):wGa c=some (zJb c):=by
 unfold wGa zJb;simp only[j2a 97 c (by decide),j3a 122 c (by decide),j2a 65 c (by decide),j3a 90 c (by decide),j2a 48 c (by decide),j3a 57 c (by decide)];cases decide ((97:UInt8)<=c) <;> cases decide (c<=122) <;> cases decide ((65:UInt8)<=c) <;> cases decide (c<=90) <;> cases decide ((48:UInt8)<=c) <;> cases decide (c<=57) <;> rfl
def wZa(s:Str)(i:Nat):Bool:=if i=0 then true else s[i - 1]? ==some 46
def wra:Bool->Str->Bool
 | _,[]=>true
 | p,c::r=>if c=46 then !p && !r.isEmpty && wra true r else w8a c && wra false r
theorem zKb(p:Bool)(c:UInt8)(r:Str):wra p (c::r)=if c=46 then !p && !r.isEmpty && wra true r else w8a c && wra false r:=rfl
theorem vtb(s:Str)(p:Bool)(h:s≠ []∨p=false):wra p s=(s.all w8a && j1a p s):=by
 induction s generalizing p with
 | nil=>simp[wra,j1a];rcases h with h | h <;> simp_all
 | cons c r ih=>
  unfold wra j1a;by_cases hc:c=46
  .subst hc;simp only[if_true,List.all_cons,show w8a 46=true by decide,Bool.true_and];cases r with
   | nil=>simp[j1a]
   | cons d r=>
    rw[ih true (.inl (by simp))];cases p <;> simp
  rw[if_neg hc,if_neg hc];rw[ih false (.inr rfl),List.all_cons,Bool.and_assoc]
theorem WSa(s:Str)(hs:s.length<=9223372036854775806):iter (qpa s) 0=some (if wra true s then .inl () else .inr false):=by
 have:=wSb (body:=qpa s) s (fun i (_:Unit)=>(i:Int)) (fun i r _=>if wra (wZa s i) r then .inl () else .inr false) (fun _=>by
  unfold qpa;rw[z7a];simp[wra]) (fun p c r _ h=>?_) (s0:=0) () rfl
 .simpa[wZa]using this
 have hc:s[p.length]? =some c:=by simp[h]
 have hidx:=z8a hc;have hlen:s.length=p.length+r.length+1:=by rw[h];simp;omega
 have e1:w64 ((s.length:Int) - 1)=((s.length - 1:Nat):Int):=by rw[zDa (by omega) (by omega)];omega
 have e2:w64 ((p.length:Int)+1)=((p.length+1:Nat):Int):=by rw[show ((p.length:Int)+1)=((p.length+1:Nat):Int) by omega,zGb _ (by omega)]
 have hbody:qpa s (p.length:Int)=some (if c=46 then (if wZa s p.length || r.isEmpty then .out (.inr false) else .cont ((p.length+1:Nat):Int)) else if w8a c then .cont ((p.length+1:Nat):Int) else .out (.inr false)):=by
  unfold qpa;rw[kOa hc,hidx];simp only[cond_true,jAb,yBa,jRa c 46 (by decide),zHb c 45 (by decide),zHb c 46 (by decide),j2a 97 c (by decide),j3a 122 c (by decide),j2a 48 c (by decide),j3a 57 c (by decide),e1,e2];by_cases h46:c=46
  .subst h46;have hsm:(!(decide ((97:UInt8)<=46) && decide ((46:UInt8)<=122)))=true:=by decide
   have hsm2:(!(decide ((48:UInt8)<=46) && decide ((46:UInt8)<=57)))=true:=by decide
   simp only[beq_self_eq_true,cond_true,hsm,hsm2,if_true,bne_self_eq_false];by_cases h0:p.length=0
   .simp[h0,wZa]
   have h0' :((p.length:Int)==0)=false:=by rw[beq_eq_false_iff_ne];omega
   by_cases hl:r=[]
   .subst hl;have:((p.length:Int)==((s.length - 1:Nat):Int))=true:=by rw[hlen];simp
    simp[h0',this]
   have hr:r.isEmpty=false:=by simpa using hl
   have hrl:0 < r.length:=List.length_pos_iff.2 hl;have:((p.length:Int)==((s.length - 1:Nat):Int))=false:=by rw[hlen];simp;omega
   have e3:w64 ((p.length:Int) - 1)=((p.length - 1:Nat):Int):=by rw[zDa (by omega) (by omega)];omega
   have hlt:p.length - 1 < s.length:=by omega
   simp only[h0',this,cond_false,e3,YRa hlt,jAb,hr,Bool.or_false,wZa,if_neg h0,jAf hlt];rw[jRa _ 46 (by decide)];by_cases hd:s[p.length - 1]=46
   .simp[hd]
   have:(s[p.length - 1]==46)=false:=by simpa using hd
   simp[this,hd]
  have h1:(c==46)=false:=by simpa using h46
  have h2:(c !=46)=true:=by simpa using h46
  simp only[h1,cond_false,if_neg h46,jAb,w8a,h2];by_cases ha:(decide ((97:UInt8)<=c) && decide (c<=122))=true
  .simp[ha]
  have ha:(decide ((97:UInt8)<=c) && decide (c<=122))=false:=by simpa using ha
  by_cases hb:(decide ((48:UInt8)<=c) && decide (c<=57))=true
  .simp[ha,hb]
  have hb:(decide ((48:UInt8)<=c) && decide (c<=57))=false:=by simpa using hb
  by_cases h45:c=45
  .subst h45;simp[ha,hb]
  have:(c==45)=false:=by simpa using h45
  simp[ha,hb,this,bne]
 have hp1:wZa s (p.length+1)=decide (c=46):=by
  unfold wZa;simp only[Nat.add_sub_cancel,Nat.add_one_ne_zero,if_false,hc];rw[jBd];simp
 rw[hbody];rw[zKb];by_cases h46:c=46
 .subst h46;simp only[if_true];cases hq:(wZa s p.length || r.isEmpty) with
  | true=>
   left;simp only[if_true];have:(!wZa s p.length && !r.isEmpty && wra true r)=false:=by
    cases hp:wZa s p.length <;> simp_all
   rw[this];rfl
  | false=>
   right;refine ⟨(),rfl,?_⟩;have h3:wZa s p.length=false:=by cases hp:wZa s p.length <;> simp_all
   have h4:r.isEmpty=false:=by cases hp:r.isEmpty <;> simp_all
   rw[h3,h4,hp1];simp
 simp only[if_neg h46];cases hq:w8a c with
 | true=>right;exact ⟨(),rfl,by rw[hp1];simp[h46]⟩
 | false=>left;simp
theorem JLa(s:Str)(hs:s.length<=9223372036854775806):jha s=some (domP s):=by
 unfold jha;rw[WSa s hs];by_cases hn:s=[]
 .subst hn;simp[wra,yBa,domP,j1a]
 rw[vtb s true (.inl hn)];have hpos:0 < s.length:=List.length_pos_iff.2 hn;unfold domP;cases h:(s.all w8a && j1a true s) with
 | false=>
  rw[Bool.and_assoc,h];simp
 | true=>
  rw[Bool.and_assoc,h];simp only[if_true,jAb,yBa,jCd,Sum.elim_inl,Option.some.injEq];rw[jBd];simp;omega
theorem wTb(s:Str)(hs:s.length<=9223372036854775806):zEb s=some ((atP s:Nat):Int):=by
 unfold zEb;rw[kja s (fun i c=>if c==64 then some (i:Int) else none) (.inl ()) .inr]
 .simp only[jAb];have key:∀(r:Str) (n:Nat),(zFa (fun i (c:UInt8)=>if c==64 then some (i:Int) else none) n r).getD ((n+r.length:Nat):Int)=((n+r.findIdx (· ==64):Nat):Int):=by
   intro r;induction r with
   | nil=>intro n;simp[zFa]
   | cons c r ih=>
    intro n;unfold zFa;rw[List.findIdx_cons];cases hc:(c==64) with
    | true=>simp
    | false=>
     simp only[jAr,if_false,cond_false];have:=ih (n+1);rw[show n+(c::r).length=n+1+r.length by simp;omega,show n+(r.findIdx (· ==64)+1)=n+1+r.findIdx (· ==64) by omega];exact this
  have:=key s 0;rw[jBo,jBo]at this;unfold atP;rw[<-this];cases zFa (fun i (c:UInt8)=>if c==64 then some (i:Int) else none) 0 s <;> rfl
 .unfold QCa;rw[z7a];rfl
 intro i c hc;unfold QCa;have hi:=kta hc;rw[kOa hc,z8a hc];simp only[cond_true,jAb,jRa c 64 (by decide)];cases c==64 with
 | true=>rfl
 | false=>
  simp only[cond_false,jAr,if_false];rw[show ((i:Int)+1)=((i+1:Nat):Int) by omega,zGb _ (by omega)];rfl
theorem Yma(s:Str)(hs:s.length<=9223372036854775806):yla s=some (V5a s):=by
 have hat:atP s<=s.length:=List.findIdx_le_length;unfold yla;rw[wTb s hs];simp only[jAb];have hloop:iter (vha s (atP s:Int)) 0=some ((zFa (fun _ c=>if !V4a c then some false else none) 0 (s.take (atP s))).elim (.inl ()) .inr):=by
  refine kja (s.take (atP s)) _ (Sum.inl ()) Sum.inr ?_ ?_
  .have:((s.take (atP s)).length:Int)=(atP s:Int):=by simp;omega
   unfold vha;rw[this];simp
  intro i c hc;have hi:=kta hc;simp at hi;have hc2:s[i]? =some c:=by rw[jAs (by omega)]at hc;exact hc
  unfold vha;have:decide ((i:Int) < (atP s:Int))=true:=by simp;omega
  rw[this,z8a hc2];simp only[cond_true,jAb,QJa,zHb c 45 (by decide),zHb c 95 (by decide),zHb c 46 (by decide),zHb c 43 (by decide),zHb c 61 (by decide)];rw[show ((i:Int)+1)=((i+1:Nat):Int) by omega,zGb _ (by omega)];unfold V4a;cases zJb c <;> cases h1:(c==45) <;> cases h2:(c==95) <;> cases h3:(c==46) <;> cases h4:(c==43) <;> cases h5:(c==61) <;> simp[bne,h1,h2,h3,h4,h5]
 rw[hloop,Kga];unfold V5a;have hall:(s.take (atP s)).any (fun c=> !V4a c)= !((s.take (atP s)).all V4a):=by simp[List.not_all_eq_any_not]
 rw[hall];cases hg:(s.take (atP s)).all V4a with
 | false=>simp
 | true=>
  simp only[jBg,jAr,if_false,jAb,yBa,jCd];by_cases h1:1<=atP s/\atP s<=60
  .have e1:(decide ((1:Int)<=(atP s:Int)) && decide ((atP s:Int)<=60))=true:=by simp;omega
   rw[e1];by_cases h2:atP s < s.length
   .have e2:decide ((atP s:Int) < (s.length:Int))=true:=by simp;omega
    rw[e2];simp only[cond_true];rw[show ((atP s:Int)+1)=((atP s+1:Nat):Int) by omega,zGb _ (by omega),QIa (by omega)];simp only[jAb];rw[JLa _ (by simp;omega)];simp[h1,h2]
   have e2:decide ((atP s:Int) < (s.length:Int))=false:=by simp;omega
   rw[e2];simp[h2]
  have e1:(decide ((1:Int)<=(atP s:Int)) && decide ((atP s:Int)<=60))=false:=by
   rw[Bool.eq_false_iff];simp;omega
  rw[e1];simp only[cond_false,jAb]
  congr 1
  symm
  rcases jAu (atP s) 1 with h | h
  .have:decide (1<=atP s)=false:=by simp;omega
   rw[this];simp
  have:decide (atP s<=60)=false:=by simp;omega
  rw[this];simp
theorem JMa(s:Str):∀p,j1a p s=(!(p && (s.isEmpty || s.head? ==some 46)) && !(s.getLast? ==some 46) && !Lib.contains s [46,46]):=by
 induction s with
 | nil=>intro p;cases p <;> simp[j1a,Lib.contains,Lib.index]
 | cons c r ih=>
  intro p;have hcont:Lib.contains (c::r) [46,46]=((c==46 && r.head? ==some 46) || Lib.contains r [46,46]):=by
   unfold Lib.contains;rw[Lib.index];have hpre:([46,46]:List UInt8).isPrefixOf (c::r)=(c==46 && r.head? ==some 46):=by
    cases r with
    | nil=>simp[List.isPrefixOf]
    | cons d r=>simp only[List.isPrefixOf,List.head?_cons,jCd];rw[jBd];simp;constructor <;> rintro ⟨rfl,rfl⟩ <;> exact ⟨rfl,rfl⟩
   rw[hpre];have hg:=Lib.index_ge r [46,46];cases c==46 && r.head? ==some 46 with
   | true=>simp
   | false=>
    simp only[jAr,if_false,Bool.false_or];by_cases h:Lib.index r [46,46]= -1
    .simp[h]
    have:(Lib.index r [46,46]== -1)=false:=by simpa using h
    rw[this];simp only[jAr,if_false];rw[jBd];simp;omega
  rw[hcont,j1a];have hlast:(c::r).getLast? =if r.isEmpty then some c else r.getLast? :=by cases r <;> simp
  rw[hlast];by_cases hc:c=46
  .subst hc;rw[if_pos rfl,ih true];cases r with
   | nil=>simp
   | cons d r=>cases p <;> cases hd:(d==46) <;> simp_all [Bool.and_comm,Bool.and_assoc,Bool.and_left_comm]
  have h1:(c==46)=false:=by simpa using hc
  have h2:(some c==some (46:UInt8))=false:=by simpa using hc
  rw[if_neg hc,ih false];cases r with
  | nil=>simp[h1,h2,Lib.contains,Lib.index,hc]
  | cons d r=>simp[h1,h2,hc]
theorem vda(s t:Str):z3a s t=some (t.isPrefixOf s):=by
 unfold z3a zUa;by_cases h:t.length<=s.length
 .have:decide ((t.length:Int)<=(s.length:Int))=true:=by simp;omega
  rw[this,wRb h];simp only[cond_true,jAb,Option.some.injEq];rw[jBd,beq_iff_eq,List.isPrefixOf_iff_prefix,List.prefix_iff_eq_take];constructor <;> exact fun h=>h.symm
 have:decide ((t.length:Int)<=(s.length:Int))=false:=by simp;omega
 rw[this];simp only[cond_false,jAb,Option.some.injEq]
 symm
 rw[Bool.eq_false_iff];intro hp;exact h (List.isPrefixOf_iff_prefix.1 hp).length_le
theorem Kna(s t:Str)(hs:s.length<=9223372036854775806):z4a s t=some (t.isSuffixOf s):=by
 unfold z4a zVa;by_cases h:t.length<=s.length
 .have:decide ((t.length:Int)<=(s.length:Int))=true:=by simp;omega
  rw[this,w64_ns _ _ h (by omega),QIa (by omega)];simp only[cond_true,jAb,Option.some.injEq];rw[jBd,beq_iff_eq,List.isSuffixOf_iff_suffix,List.suffix_iff_eq_drop];constructor <;> exact fun h=>h.symm
 have:decide ((t.length:Int)<=(s.length:Int))=false:=by simp;omega
 rw[this];simp only[cond_false,jAb,Option.some.injEq]
 symm
 rw[Bool.eq_false_iff];intro hp;exact h (List.isSuffixOf_iff_suffix.1 hp).length_le
theorem dom_char(c:UInt8):((bif decide ((97:UInt8)<=c) then (bif decide (c<=122) then some true else (bif decide ((48:UInt8)<=c) then (bif decide (c<=57) then some true else (bif (c==45) then some true else some (c==46))) else (bif (c==45) then some true else some (c==46)))) else (bif decide ((48:UInt8)<=c) then (bif decide (c<=57) then some true else (bif (c==45) then some true else some (c==46))) else (bif (c==45) then some true else some (c==46)))):Option Bool)=some (w8a c):=by
 unfold w8a;cases decide ((97:UInt8)<=c) <;> cases decide (c<=122) <;> cases decide ((48:UInt8)<=c) <;> cases decide (c<=57) <;> cases (c==45) <;> rfl
theorem QKa(s:Str)(hs:s.length < 4294967281):qVa s=some (domP s):=by
 have hloop:iter (kVa s) 0=some ((zFa (fun _ c=>if !w8a c then some () else none) 0 s).elim (.inl ()) .inr):=by
  refine kja s _ (Sum.inl ()) Sum.inr ?_ ?_
  .unfold kVa;rw[z7a];rfl
  intro i c hc;have hi:=kta hc;unfold kVa;rw[kOa hc,z8a hc];simp only[cond_true,jAb,jRa c 45 (by decide),jRa c 46 (by decide),j2a 97 c (by decide),j3a 122 c (by decide),j2a 48 c (by decide),j3a 57 c (by decide),dom_char];rw[show ((i:Int)+1)=((i+1:Nat):Int) by omega,zGb _ (by omega)];cases w8a c <;> rfl
 unfold qVa domP;rw[hloop,Kga,JMa];by_cases hn:s=[]
 .subst hn;simp
 have h1:(s !=([]:Str))=true:=by simpa using hn
 rw[h1];simp only[cond_true];by_cases hl:s.length<=60
 .have h2:decide ((s.length:Int)<=60)=true:=by simp;omega
  rw[h2];have hall:s.any (fun c=> !w8a c)= !(s.all w8a):=by simp[List.not_all_eq_any_not]
  rw[hall];cases hg:s.all w8a with
  | false=>simp[hl]
  | true=>
   simp only[jBg,jAr,if_false,Option.elim,jAb,cond_true,vda,Kna s [46] (by omega),kBa,if_pos hs];have hp:([46]:Str).isPrefixOf s=(s.head? ==some 46):=by
    cases s with
    | nil=>rfl
    | cons d r=>simp only[List.isPrefixOf,List.head?_cons,jCd];rw[jBd];simp;exact ⟨fun h=>h.symm,fun h=>h.symm⟩
   have hsf:([46]:Str).isSuffixOf s=(s.getLast? ==some 46):=by
    rw[jBd,List.isSuffixOf_iff_suffix,beq_iff_eq];constructor
    .rintro ⟨t,rfl⟩;simp
    intro h;obtain ⟨ys,rfl⟩:=List.getLast?_eq_some_iff.1 h;exact ⟨ys,rfl⟩
   have he:s.isEmpty=false:=by simpa using hn
   rw[hp,hsf,he];cases s.head? ==some 46 <;> cases s.getLast? ==some 46 <;> cases Lib.contains s [46,46] <;> simp[hl]
 have h2:decide ((s.length:Int)<=60)=false:=by simp;omega
 rw[h2];simp[hl]
theorem JNa(s:Str):Lib.index s [64]=if atP s < s.length then (atP s:Int) else -1:=by
 rw[Lib.index_one];unfold atP;induction s with
 | nil=>rfl
 | cons c r ih=>
  rw[Lib.indexByte,List.findIdx_cons];cases hc:(c==64) with
  | true=>simp
  | false=>
   simp only[jAr,if_false,cond_false,List.length_cons];rw[ih];by_cases h:r.findIdx (· ==64) < r.length
   .simp only[if_pos h,if_pos (show r.findIdx (· ==64)+1 < r.length+1 by omega)];have:(((r.findIdx (· ==64):Nat):Int)== -1)=false:=by rw[beq_eq_false_iff_ne];omega
    rw[this];simp
   simp only[if_neg h,if_neg (show ¬(r.findIdx (· ==64)+1 < r.length+1) by omega)];simp
theorem cut_at(s:Str):Lib.cut s [64]=if atP s < s.length then (s.take (atP s),s.drop (atP s+1),true) else (s,[],false):=by
 unfold Lib.cut;rw[JNa];by_cases h:atP s < s.length
 .rw[if_pos h,if_pos h,if_pos (by omega)];simp
 rw[if_neg h,if_neg h,if_neg (by omega)]
def qGb(s:Str):Str × Str × Bool:=if atP s < s.length then (s.take (atP s),s.drop (atP s+1),V5a s) else (s,[],false)
theorem wUb(c:UInt8):(zJb c || decide (0<=Lib.indexByte [45,95,46,43,61] c))=V4a c:=by
 unfold V4a;by_cases h1:c=45
 .subst h1;decide
 by_cases h2:c=95
 .subst h2;decide
 by_cases h3:c=46
 .subst h3;decide
 by_cases h4:c=43
 .subst h4;decide
 by_cases h5:c=61
 .subst h5;decide
 rw[beq_eq_false_iff_ne.2 h1,beq_eq_false_iff_ne.2 h2,beq_eq_false_iff_ne.2 h3,beq_eq_false_iff_ne.2 h4,beq_eq_false_iff_ne.2 h5];simp[Lib.indexByte,Ne.symm h1,Ne.symm h2,Ne.symm h3,Ne.symm h4,Ne.symm h5]
theorem Vqa(s:Str)(hs:s.length < 4294967281):via s=some (qGb s):=by
 have hloop:∀v:Str × Str × Bool,v.1.length < 4294967281->iter (qca v) 0=some ((zFa (fun _ c=>if !V4a c then some () else none) 0 v.1).elim (.inl ()) .inr):=by
  intro v hv;refine kja v.1 _ (Sum.inl ()) Sum.inr ?_ ?_
  .unfold qca;rw[z7a];rfl
  intro i c hc;have hi:=kta hc;unfold qca;rw[kOa hc,z8a hc];simp only[cond_true,jAb,WRa,zsa];rw[show ((i:Int)+1)=((i+1:Nat):Int) by omega,zGb _ (by omega)];have hg:=wUb c;cases hl:zJb c with
  | true=>rw[hl]at hg;simp only[Bool.true_or]at hg;rw[<-hg];rfl
  | false=>rw[hl]at hg;simp only[Bool.false_or]at hg;rw[<-hg];cases decide (0<=Lib.indexByte [45,95,46,43,61] c) <;> rfl
 unfold via qqa;rw[if_pos hs,cut_at];simp only[jAb];unfold qGb;by_cases h:atP s < s.length
 .simp only[if_pos h,cond_true];rw[hloop _ (by simp;omega),Kga];have hall:(s.take (atP s)).any (fun c=> !V4a c)= !((s.take (atP s)).all V4a):=by simp[List.not_all_eq_any_not]
  simp only[hall];have hlen:(s.take (atP s)).length=atP s:=by simp;omega
  rw[hlen,QKa _ (by simp;omega)];unfold V5a;by_cases h0:atP s=0
  .simp[h0]
  have hne:(s.take (atP s) !=([]:Str))=true:=by
   simp only[bne_iff_ne,ne_eq];intro hx;have:=congrArg List.length hx;rw[hlen]at this;simp at this;omega
  rw[hne];by_cases h60:atP s<=60
  .have e:decide ((atP s:Int)<=60)=true:=by simp;omega
   rw[e];cases (s.take (atP s)).all V4a <;> simp[h,h60] <;> omega
  have e:decide ((atP s:Int)<=60)=false:=by simp;omega
  rw[e];simp[h60]
 simp[if_neg h]
theorem kXb(s:Str):(qGb s).2.2=V5a s:=by
 unfold qGb;by_cases h:atP s < s.length
 .rw[if_pos h]
 rw[if_neg h];unfold V5a;simp[h]
theorem K5a(s:Str)(hs:s.length < 4294967281):qza s=some (V5a s):=by
 unfold qza;rw[Vqa s hs];simp[kXb]
section
theorem sc(i:Nat)(h:i < 9223372036854775807):w64 ((i:Int)+1)=((i+1:Nat):Int):=by rw[show ((i:Int)+1)=((i+1:Nat):Int) by omega,zGb _ (by omega)]
theorem bkL_pos{T:Type}(bk:T->Nat)(l:List T):1<=bkL bk l:=by
 induction l with
 | nil=>simp[bkL]
 | cons y l ih=>unfold bkL;omega
theorem wVb{T:Type}{bk:T->Nat}{l:List T}{x:T}(h:x∈l):bk x+1<=bkL bk l:=by
 induction l with
 | nil=>cases h
 | cons y l ih=>
  unfold bkL;have hp:=bkL_pos bk l;rcases jBy.1 h with rfl | h
  .omega
  have:=ih h;omega
theorem kYb{T:Type}{bk:T->Nat}(hb:∀x,1<=bk x)(l:List T):l.length+1<=bkL bk l:=by
 induction l with
 | nil=>simp[bkL]
 | cons y l ih=>unfold bkL;have:=hb y;simp;omega
section
variable {α:Type}
end
theorem vub{V:Type}(m:List (Str × V))(k:Str)(v:V)(x:Str):mget (mput m k v) x=if k==x then some v else mget m x:=by
 induction m with
 | nil=>rfl
 | cons p m ih=>
  obtain ⟨k',v'⟩:=p;unfold mput;by_cases h:k' =k
  .subst h;simp only[beq_self_eq_true,if_true,mget];cases k' ==x <;> simp
  have h1:(k' ==k)=false:=by simpa using h
  rw[h1];simp only[jAr,if_false,mget];rw[ih];by_cases h2:k' =x
  .subst h2;have:(k==k')=false:=by simpa using fun h' =>h h'.symm
   simp[this]
  have:(k' ==x)=false:=by simpa using h2
  rw[this];simp
section
variable {α A S O:Type}
end
end
theorem Yna(o:Option Unit)(a b:Bool):Sum.elim (fun _=>some a) (fun _=>some b) (o.elim (Sum.inl ()) Sum.inr:Unit ⊕ Unit)=some (bif o.isSome then b else a):=by cases o <;> rfl
theorem QLa{α R:Type}(c:α->Bool)(r:R)(l:List α)(n:Nat):(zFa (fun _ x=>if c x then some r else none) n l).isSome=l.any c:=by
 rw[Kga];cases l.any c <;> rfl
theorem wWb{α:Type}(l:List α)(p:α->Bool):l.any (fun x=> !p x)= !l.all p:=by simp[List.not_all_eq_any_not]
theorem Vra(a b:Int):R_At a b=some ⟨a,b⟩:=rfl
theorem zYa(a b:Int):zja a b=some ⟨a,b⟩:=rfl
theorem kga:zua=some ⟨0,0⟩:=rfl
theorem zPa(f:zma):zpa f=some (f.Code !=0):=rfl
theorem Vsa(o:Option zma)(f:zma):Sum.elim (fun _=>some f) (fun b=>some b) (o.elim (Sum.inl ()) Sum.inr:Unit ⊕ zma)=some (o.getD f):=by cases o <;> rfl
theorem JOa(s:Str)(i:Nat)(h:i < s.length):(strB s)[i]'(by rw[zwa];exact h)=s[i]:=rfl
theorem wXb(s:Str)(i:Nat)(h:i < s.length):(strB s).get! i=s[i]:=by
 have:=get_at (strB s) i (by rw[zwa];exact h);rw[jBq]at this;rw[this];rfl
theorem YSa{s:Str}{i:Nat}{c:UInt8}(h:s[i]? =some c)(hc:c.toNat < 128):KBa s i=(c.toNat:Int)/\jea s i=1:=by
 have hi:=kta h;have e:s[i]=c:=by rw[jAf hi]at h;exact Option.some.inj h
 have hd:=decode_ascii (strB s) i (by rw[zwa];exact hi) (by rw[JOa s i hi,e];exact hc);unfold KBa jea;rw[hd,JOa s i hi,e];exact ⟨rfl,rfl⟩
theorem wYb{s:Str}{i:Nat}{c:UInt8}(h:s[i]? =some c)(hc:128<=c.toNat):128<=KBa s i/\KBa s i<=2147483647/\1<=jea s i:=by
 have hi:=kta h;have e:s[i]=c:=by rw[jAf hi]at h;exact Option.some.inj h
 have hd:=decode_high (strB s) i (by rw[zwa];exact hi) (by rw[JOa s i hi,e];exact hc);have hl:=decode_le (strB s) i;unfold KBa jea;exact ⟨by omega,by omega,hd.2⟩
theorem kZb(s:ByteArray)(pos:Nat):∀k,1<=k->k < (Utf8.decode s pos).2->(s.get! (pos+k)).toNat / 64=2:=by
 intro k h1 h2;simp only[Utf8.decode]at h2;repeat' split at h2
 all_goals first
  | (exfalso;simp at h2;omega)
  | (
   rename_i hq _;simp only[jAo,decide_eq_true_eq,beq_iff_eq]at hq;have h2:k < 2:=h2;obtain rfl:k=1:=by omega
   exact hq.2.2)
  | (
   rename_i hq _;simp only[jAo,decide_eq_true_eq,beq_iff_eq]at hq;have h2:k < 3:=h2;have:k=1∨k=2:=by omega
   rcases this with rfl | rfl
   .exact hq.1.2.2
   exact hq.2.2)
  | (
   rename_i hq _;simp only[jAo,decide_eq_true_eq,beq_iff_eq]at hq;have h2:k < 4:=h2;have:k=1∨k=2∨k=3:=by omega
   rcases this with rfl | rfl | rfl
   .exact hq.1.1.2.2
   .exact hq.1.2.2
   exact hq.2.2)
theorem wZb{s:Str}{i j:Nat}{c d:UInt8}(h:s[i]? =some c)(hc:128<=c.toNat)(h1:i<=j)(h2:j < i+jea s i)(hj:s[j]? =some d):128<=d.toNat:=by
 by_cases e:j=i
 .subst e;rw[h]at hj;cases hj;exact hc
 have hjl:=kta hj;have e2:s[j]=d:=by rw[jAf hjl]at hj;exact Option.some.inj hj
 have:=kZb (strB s) i (j - i) (by omega) (by unfold jea at h2;omega);rw[show i+(j - i)=j by omega,wXb s j hjl,e2]at this;omega
theorem toU8_nat(c:UInt8):toU8 (c.toNat:Int)=c:=by
 unfold toU8;have:=c.toNat_lt;rw[show ((c.toNat:Int) % 256).toNat=c.toNat by omega];simp
theorem YTa{t:Str}(h:YOa t=true){c:UInt8}(hc:c∈t):c.toNat < 128:=by
 unfold YOa at h;rw[jAn]at h;simpa using h c hc
theorem vvb{r:Int}(h:128<=r):∃m x,1<=m/\m<=3/\(yXa r).length=m+1/\(yXa r)[m]? =some x/\128<=x.toNat:=by
 unfold yXa;simp only[Utf8.encode];have hc:128<=(if Utf8.valid r=true then r.toNat else Utf8.runeError):=by
  split
  .omega
  decide
 generalize (if Utf8.valid r=true then r.toNat else Utf8.runeError)=c at hc;have hb:∀n:Nat,128<=(UInt8.ofNat (128+n % 64)).toNat:=by
  intro n;rw[jCb];have:(128+n % 64) % 2 ^ 8=128+n % 64:=Nat.mod_eq_of_lt (by omega);rw[this];omega
 rw[if_neg (by omega)];split
 .exact ⟨1,_,by omega,by omega,rfl,rfl,hb c⟩
 split
 .exact ⟨2,_,by omega,by omega,rfl,rfl,hb c⟩
 exact ⟨3,_,by omega,by omega,rfl,rfl,hb c⟩
theorem Yoa{t:Str}(h:∀c∈t,c.toNat < 128){x:UInt8}(hx:128<=x.toNat):Lib.indexByte t x= -1:=by
 have hc:=Lib.contains_iff_indexByte t x;have hn:t.contains x=false:=by
  rw[Bool.eq_false_iff];intro hm;have:=h x (by simpa using hm);omega
 rw[hn]at hc;have hge:=Lib.indexByte_ge t x;have:=of_decide_eq_false hc.symm;omega
theorem WTa(t:Str)(c:UInt8)(hc:c.toNat < 128):z2a t (c.toNat:Int)=some (Lib.indexByte t c):=by
 unfold z2a;have h1:decide ((0:Int)<=(c.toNat:Int))=true:=by simp
 have h2:decide ((c.toNat:Int) < 128)=true:=by simp;omega
 rw[h1,h2];simp only[cond_true,jAb,toU8_nat];rfl
theorem Ypa(t:Str)(r:Int)(hr:128<=r)(ht:∀c∈t,c.toNat < 128)(hl:t.length<=4294967281):z2a t r=some (-1):=by
 unfold z2a;have h1:decide ((0:Int)<=r)=true:=by simp;omega
 have h2:decide (r < 128)=false:=by simp;omega
 rw[h1,h2];simp only[cond_true,cond_false,jAb];cases hq:r==65533 with
 | true=>
  simp only[cond_true];obtain ⟨o,ho,rfl⟩:=jSa (body:=k5a t) (fun i=>i<=t.length) (fun i=>t.length - i) (fun _ o=>o=.inl ()) (fun i hi=>by
   unfold k5a;by_cases hlt:i < t.length
   .right;have hg:t[i]? =some t[i]:=jAf hlt;have hc:=ht t[i] (List.getElem_mem hlt);obtain ⟨e1,e2⟩:=YSa hg hc;rw[e1,e2,decide_eq_true hlt];have hne:((t[i].toNat:Int)==65533)=false:=by rw[beq_eq_false_iff_ne];omega
    rw[hne];exact ⟨i+1,rfl,by omega,by omega,fun _ h=>h⟩
   left;rw[decide_eq_false hlt];exact ⟨.inl (),rfl,rfl⟩) 0 (jCc _)
  rw[ho];rfl
 | false=>
  simp only[cond_false];have hv:∃b,kra r=some b:=by
   unfold kra;cases decide (0<=r) <;> cases decide (r < 55296) <;> cases decide (57343 < r) <;> cases decide (r<=1114111) <;> exact ⟨_,rfl⟩
  obtain ⟨b,hb⟩:=hv;rw[hb];simp only[jAb];cases b with
  | false=>rfl
  | true=>
   simp only[jBg,cond_false];obtain ⟨m,x,hm1,hm3,hlen,hx,hx128⟩:=vvb hr;have hst:w64 (((yXa r).length:Int) - 1)=(m:Int):=by rw[hlen,zDa (by omega) (by omega)];omega
   rw[hst];have hbody:∃o,k7a t r (m:Int)=some (.out o)/\(o=.inl ()∨o=.inr (-1)):=by
    unfold k7a;by_cases hlt:m < t.length
    .have hd:decide ((m:Int) < (t.length:Int))=true:=by simp;omega
     have hc:=ht t[m] (List.getElem_mem hlt);rw[hd,hst,YRa hlt,z8a hx];have hne:((t[m].toNat:Int) !=(x.toNat:Int))=true:=by simp;omega
     simp only[cond_true,jAb,hne];rw[show (m:Int)+1=((m+1:Nat):Int) by omega,zGb _ (by omega),QIa (by omega)];simp only[jAb];have hib:zsa (t.drop (m+1)) x=some (-1):=by
      show some (Lib.indexByte (t.drop (m+1)) x)=_;rw[Yoa (fun c hc=>ht c (List.mem_of_mem_drop hc)) hx128]
     rw[hib];exact ⟨.inr (-1),rfl,.inr rfl⟩
    have hd:decide ((m:Int) < (t.length:Int))=false:=by simp;omega
    rw[hd];exact ⟨.inl (),rfl,.inl rfl⟩
   obtain ⟨o,ho,ho2⟩:=hbody;rw[zva ho];rcases ho2 with rfl | rfl <;> rfl
theorem zLb(s t:Str)(h8:s.length<=8)(h2:2<=t.length)(hl:t.length < 4294967281)(ht:YOa t=true):q5a s t=some (Lib.indexAny s t):=by
 have htc:∀c∈t,c.toNat < 128:=fun c hc=>YTa ht hc
 unfold q5a;have e1:(t==([]:Str))=false:=by rw[beq_eq_false_iff_ne];rintro rfl;simp at h2
 have e2:((t.length:Int)==1)=false:=by rw[beq_eq_false_iff_ne];omega
 have e3:zza (s.length:Int)=some false:=by unfold zza;simp;omega
 rw[e1,e2,e3];simp only[cond_false,jAb];obtain ⟨o,ho,ho2⟩:=jSa (body:=k8a s t) (fun i=>Lib.NoAny s t i) (fun i=>s.length - i) (fun _ o=>Sum.elim (fun _=>some (-1)) (fun b=>some b) o=some (Lib.indexAny s t)) (fun i hi=>by
  unfold k8a;by_cases hlt:i < s.length
  .have hg:s[i]? =some s[i]:=jAf hlt;rw[decide_eq_true hlt];simp only[cond_true];by_cases hc:s[i].toNat < 128
   .obtain ⟨q1,q2⟩:=YSa hg hc;rw[q1,q2,WTa t _ hc];simp only[jAb];have hcon:=Lib.contains_iff_indexByte t s[i];rw[<-hcon];cases hin:t.contains s[i] with
    | true=>
     left;exact ⟨.inr (i:Int),rfl,by rw[Lib.indexAny_hit hi hg hin];rfl⟩
    | false=>
     right;exact ⟨i+1,rfl,hi.succ hg hin,by omega,fun _ h=>h⟩
   have hc:128<=s[i].toNat:=by omega
   obtain ⟨q1,q2,q3⟩:=wYb hg hc;rw[Ypa t _ q1 htc (by omega)];right;refine ⟨i+jea s i,rfl,fun j b hj hb=>?_,by omega,fun _ h=>h⟩;by_cases hji:j < i
   .exact hi j b hji hb
   have:=wZb hg hc (by omega) hj hb;rw[Bool.eq_false_iff];intro hm;have:=htc b (by simpa using hm);omega
  left;rw[decide_eq_false hlt];refine ⟨.inl (),rfl,?_⟩;have hn:Lib.NoAny s t s.length:=fun j b hj hb=>hi j b (by omega) hb
  rw[Lib.indexAny_none hn];rfl) 0 (Lib.NoAny.zero s t)
 rw[ho];exact ho2
theorem zMb(t:Str):∀s:Str,decide (0<=Lib.indexAny s t)=s.any fun c=>t.contains c:=by
 intro s;induction s with
 | nil=>rfl
 | cons c s ih=>
  have hge:=Lib.indexAny_ge t s;rw[List.any_cons,<-ih,Lib.indexAny];cases t.contains c with
  | true=>simp
  | false=>
   simp only[jAr,if_false,Bool.false_or];by_cases h:Lib.indexAny s t= -1
   .simp[h]
   have:(Lib.indexAny s t== -1)=false:=by simpa using h
   rw[this];simp only[jAr,if_false];rw[jBd];simp;omega
theorem Zca(s t:Str)(hs:s.length<=1048576)(h2:2<=t.length)(hl:t.length<=1048576)(ht:YOa t=true):z1a s t=some (s.any fun c=>t.contains c):=by
 unfold z1a kQa;rw[if_pos ⟨by omega,by omega,h2,ht⟩];simp only[jAb,zMb]
end Go.Proofs.YtpphhgbmooofgaaGreatDoor
