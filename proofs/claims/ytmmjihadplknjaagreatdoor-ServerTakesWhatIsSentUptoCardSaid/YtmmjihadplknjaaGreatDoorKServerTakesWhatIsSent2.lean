/- Part 2 of the proof of the law ServerTakesWhatIsSent: what it needs. -/
import Derived.Test.YtmmjihadplknjaaGreatDoorKServerTakesWhatIsSent1
import Derived.Laws.RangeAny
import Derived.Lib.AppendZeros
import Derived.Test.YtmmjihadplknjaaGreatDoorRows
import Derived.ProofKit
import Derived.Deep.Slices
import Derived.WalkKit
import Derived.WalkSpells
import Derived.WalkLawsBesides
import Derived.Deep.QuietTactic
import Derived.BigQuiet
import Derived.Lib.Hide
import Derived.Handy
import Derived.Deep.RegionHeld3
import Derived.OpenShut
import Derived.ShutString
import Derived.ChangeOld
import Derived.Below
import Derived.JoinedCond
import Derived.JoinedOf
import Derived.Test.YtmmjihadplknjaaGreatDoorCards
import Derived.Test.YtmmjihadplknjaaGreatDoorTie
import Derived.HandedShaped
import Derived.Shelf.Vars
import Derived.Deep.DeepHandedRow
import Derived.Deep.DeepWitnessRowRef
import Derived.Lib.LaidTab
import Derived.Lib.LaidU8
import Derived.LaidMore
import Derived.MakeChecks
import Derived.SevenTiedAt
import Derived.Stop.LaidErr
import Derived.Laws.MakeOwn
import Derived.Test.YtmmjihadplknjaaGreatDoorProg
import Derived.Lib.IndexMore
import Derived.Lib.IndexAny
import Derived.Lib.Atoi
import Derived.Lib.Join
import Derived.Lib.Repeat
import Derived.Lib.Split
import Derived.Lib.FieldsP
import Derived.Lib.Strings
set_option linter.unusedVariables false
set_option linter.unusedSimpArgs false
set_option maxRecDepth 100000
set_option maxHeartbeats 40000000
namespace Go.Proofs.YtmmjihadplknjaaGreatDoor
open Go.RowKit Go.Proofs.Tryz
section
open Go.RowKit Go.Lib Go.Proofs.Tryz
variable {E:Env} {fr:Fr} {σ:Sto} {K:Post} {P:Program} {ρ:Operand->AV}
variable {dst:Option Tmp} {ty:TypeId} {pos:String} {af:Array Edge} {gu:Option (Nat × Bool)}
open Classical in
noncomputable def nilE{R:Type}(e:Bool)(A B:Option R):Option R:=if e then (if A=B then B else none) else B
theorem zeb{R:Type}{e:Bool}{A B:Option R}{r:R}(he:e=true)(h:nilE e A B=some r):A=some r:=by
 unfold nilE at h;rw[if_pos he]at h;split at h
 .rename_i hab;rw[hab];exact h
 cases h
theorem zfb{R:Type}{e:Bool}{A B:Option R}{r:R}(h:nilE e A B=some r):B=some r:=by
 unfold nilE at h;split at h
 .split at h
  .exact h
  cases h
 exact h
theorem yXb{R:Type}(e:Bool)(A B:Option R)(h:e=true->A=B):nilE e A B=B:=by
 unfold nilE;split
 .rename_i he;rw[if_pos (h he)]
 rfl
section
variable {α:Type} {F:α->List PV} {l:List α} {t t' e:TypeId} {ss sb d k:Nat} {sz:Value}
theorem qLb{g:G}{v:Value}(h:Rel g (.l F l) v):(l=[]/\v=.slice none 0 0)∨∃a n c,v=.slice (some a) n c:=by
 cases h with
 | pv h=>
  obtain ⟨a',cap',size',b,off,val,hv,h0,_⟩:=K9a h;cases a' with
  | none=>
   obtain ⟨rfl,he⟩:=h0 rfl;left;have:l=[]:=by simpa using he
   subst this;exact ⟨rfl,hv⟩
  | some a=>exact .inr ⟨a,_,_,hv⟩
theorem qMb(ne:Bool){ops:Array Oper}{rest:List Oper}(hg:gu=none)(hN:Nat.ble (k+1) E.N=true)(hd:fr.get d=.l F l)(ht:TyOk E.P t ss sb sz (.slice e))
 (h1:l.isEmpty=true->AWPL E ops rest ((k,.bo (!ne))::(d,.pv (.sl (some true) []))::fr) σ K) (h2:AWPL E ops rest ((k,.bo ne)::fr) σ K):
 AWPL E ops (⟨some k,.binOp (if ne then .neq else .eql) t (.tmp d) (.const (.slice none 0 0)) t',ty,pos,af,gu⟩::rest) fr σ K:=
 ⟨fun g a hst=>by
  subst hg;have hv:=hst.fr d;rw[hd]at hv;have hc:a.eval (.const (.slice none 0 0))=.slice none 0 0:=rfl;have hx:a.eval (.tmp d)=a.tmps.getD d undef:=rfl;simp only[wpListIn,Region.wanted,if_true];refine ⟨fun _ _=>trivial,?_⟩;rw[Oper.semAt_plain _ _ _ (fun c=>by simp)];rcases qLb hv with ⟨hl,ev⟩ | ⟨ad,n,c,ev⟩
  .rw[Jpa ne (hx.trans ev) hc ht,Oper.uponIn_value];have hst2:=hst.reslot (d:=d) (c:=.pv (.sl (some true) [])) (by rw[ev];exact .pv (J2a _ _));have:=(h1 (by rw[hl];rfl)).go g _ (hst2.put (Nat.le_of_ble_eq_true hN) (c:=.bo (!ne)) (v:=.bool (!ne)) (.pv (.b rfl)));cases ne <;> exact this
  rw[Jpa ne (hx.trans ev) hc ht,Oper.uponIn_value];have:=h2.go g _ (hst.put (Nat.le_of_ble_eq_true hN) (c:=.bo ne) (v:=.bool ne) (.pv (.b rfl)));cases ne <;> exact this⟩
theorem Vva{ops:Array Oper}{rest:List Oper}(hg:gu=none)(hN:Nat.ble (k+1) E.N=true)(hd:fr.get d=.l F l)(ht:TyOk E.P t ss sb sz (.slice e))
 (h1:l.isEmpty=true->AWPL E ops rest ((k,.bo true)::(d,.pv (.sl (some true) []))::fr) σ K) (h2:AWPL E ops rest ((k,.bo false)::fr) σ K):
 AWPL E ops (⟨some k,.binOp .eql t (.tmp d) (.const (.slice none 0 0)) t',ty,pos,af,gu⟩::rest) fr σ K:=qMb false hg hN hd ht h1 h2
end
section
variable {t e:TypeId} {ss sb size bytes k:Nat} {sz zero:Value} {d:TypeDesc}
theorem WWa(hN:Nat.ble (k+1) E.N=true)(ht:TyOk E.P t ss sb sz (.slice e))(he:TyOk E.P e size bytes zero d):
 OpTo E ⟨some k,.buildSlice t 0 #[],ty,pos,af,gu⟩ fr σ ((k,.z0)::fr) σ:=
 ⟨fun g a K Q hst hK=>by
  refine ⟨fun _ _=>trivial,?_⟩;rw[Oper.semAt_plain _ _ _ (fun c=>by simp)];have hrun:(execOp a.eval ⟨some k,.buildSlice t 0 #[],ty,pos,af,gu⟩).run E.P g.w=.ok (.value (.slice (some ⟨g.w.heap.size,0,none⟩) 0 0)) (g.w.alloc (.cells #[] e)):=by
   show Sem.run E.P (do let v <-Instr.buildSlice t 0 (Array.map (fun (x:Nat × Operand)=>(x.1,a.eval x.2)) #[]);pure (Next.value v)) g.w=_;simp only[Instr.buildSlice,underlying,program,Sem.run_bind,Sem.run,ht.u,he.sizeOf,Result.andThen_ok,Sem.run_pure,Nat.zero_mul,if_true];rw[if_neg (by simp)];have e1:(Array.map (fun (x:Nat × Operand)=>(x.1,a.eval x.2)) #[]).toList=[]:=by simp
   have harr:∀z:Array Value,Array.map (fun x=>z[x % z.size]!) (Array.range 0)= #[]:=by intro z;simp
   simp only[Sem.run_bind,Sem.run_pure,Result.andThen_ok,e1,Instr.fill,harr];rfl
  rw[hrun,Oper.uponIn_value];have hold:=QMa g #[] e 0 0 (g.loc 0);have hwf:=J4a hst.so.wf #[] e 0 0 (g.loc 0);have hst' :=hst.grow hold hwf (fun q _=>by show (if q=0 then g.loc 0 else g.loc q)=g.loc q;split <;> simp_all);exact hK _ _ (hst'.put (Nat.le_of_ble_eq_true hN) (.z0 _))⟩
end
def nz(b:Int):Option Bool:=if b==0 then none else some true
end
section
theorem yKa{C:Prop}(b:Bool)(h1:b=true->C)(h2:b=false->C):C:=by
 cases b
 .exact h2 rfl
 exact h1 rfl
theorem awpl_le{E:Env}{fr fr' :Fr}{σ σ' :Sto}{K:Post}{ops:Array Oper}{ol:List Oper}(hf:FrLe fr fr')(hs:k8a σ σ')(h:AWPL E ops ol fr' σ' K):AWPL E ops ol fr σ K:=⟨fun g a hst=>h.go g a (hst.le hf hs)⟩
section
variable {E:Env} {fr:Fr} {σ:Sto} {K:Post} {ops:Array Oper}
end
end
section
open Go.RowKit Go.Lib Go.Proofs.Tryz
variable {E:Env} {fr:Fr} {σ:Sto} {K:Post}
abbrev Objs:=List (Option (Nat × List AV))
theorem Sok.le{S:Nat->Prop}{g0 g:G}{σ' :Sto}(h:Sok S g0 g σ)(hs:∀o ob,σ'.get o=some ob->σ.get o=some ob):Sok S g0 g σ' :=
 ⟨fun o ob ho=>h.obj o ob (hs o ob ho),fun o o' ob ob' b h1 h2=>h.apart o o' ob ob' b (hs _ _ h1) (hs _ _ h2),fun o ob b h1=>h.mine o ob b (hs _ _ h1),h.old,h.wf⟩
structure OpNew (E:Env) (o:Oper) (id:Nat) (cs:List AV):Prop where
 go:∃(vs:Array Value) (t:TypeId),vs.size=cs.length/\(∀i,i < vs.size->cellV (vs.getD i undef)=true)/\(∀(g:G) i c,cs[i]? =some c->Rel g c (vs.getD i undef))/\∀(g:G) a (K:Act->World->Prop) (Q:Exit->Act->World->Prop),K (a.put o.dst (.pointer (some ⟨g.w.heap.size,0,none⟩))) (g.alloc vs t 0 id (.blk g.w.heap.size)).w->o.wpIn (fen E.rd) 0 E.P a g.w K Q
inductive WXa (E:Env) (ops:Array Oper) (fr:Fr) (σ:Sto):List Oper->List AV->Objs->Prop
 | nil:WXa E ops fr σ [] [] []
 | run {o:Oper} {l:List Oper} {c:AV} {cs:List AV} {az:Objs} (hg:wla ops fr o) (h:OpG E o fr σ c) (hr:WXa E ops fr σ l cs az):WXa E ops fr σ (o::l) (c::cs) (none::az)
 | skip {o:Oper} {l:List Oper} {cs:List AV} {az:Objs} (hg:ZUa ops fr o) (hr:WXa E ops fr σ l cs az):WXa E ops fr σ (o::l) (.tup []::cs) (none::az)
 | new {o:Oper} {l:List Oper} {cs:List AV} {az:Objs} (id:Nat) {ds:List AV} (hg:wla ops fr o) (h:OpNew E o id ds) (hr:WXa E ops fr σ l cs az):WXa E ops fr σ (o::l) (.ptr id 0::cs) (some (id,ds)::az)
theorem WXa.len{ops:Array Oper}{l:List Oper}{cs:List AV}{az:Objs}(h:WXa E ops fr σ l cs az):cs.length=l.length/\az.length=l.length:=by
 induction h with
 | nil=>exact ⟨rfl,rfl⟩
 | run _ _ _ ih=>simp[ih.1,ih.2]
 | skip _ _ ih=>simp[ih.1,ih.2]
 | new _ _ _ _ ih=>simp[ih.1,ih.2]
theorem WXa.get{ops:Array Oper}{l:List Oper}{cs:List AV}{az:Objs}(h:WXa E ops fr σ l cs az):∀{i:Nat} {o:Oper} {c:AV},l[i]? =some o->cs[i]? =some c->(wla ops fr o/\OpG E o fr σ c/\az[i]? =some none)∨(ZUa ops fr o/\c=.tup []/\az[i]? =some none)∨(wla ops fr o/\∃id ds,c=.ptr id 0/\OpNew E o id ds/\az[i]? =some (some (id,ds))):=by
 induction h with
 | nil=>intro i o c h1;simp at h1
 | run hg h _ ih=>
  intro i o c h1 h2;cases i with
  | zero=>simp at h1 h2;subst h1;subst h2;exact .inl ⟨hg,h,rfl⟩
  | succ i=>exact ih (by simpa using h1) (by simpa using h2)
 | skip hg _ ih=>
  intro i o c h1 h2;cases i with
  | zero=>simp at h1 h2;subst h1;subst h2;exact .inr (.inl ⟨hg,rfl,rfl⟩)
  | succ i=>exact ih (by simpa using h1) (by simpa using h2)
 | new id hg h _ ih=>
  intro i o c h1 h2;cases i with
  | zero=>simp at h1 h2;subst h1;subst h2;exact .inr (.inr ⟨hg,id,_,rfl,h,rfl⟩)
  | succ i=>exact ih (by simpa using h1) (by simpa using h2)
end
section
section
variable {F:Fence} {n:Nat} {P:Program} {Q:Exit->Act->World->Prop} {a:Act} {w:World}
def noGoto(Q:Exit->Act->World->Prop):Exit->Act->World->Prop
 | .goto _,_,_=>False
 | e,a,w=>Q e a w
theorem wJa{b:Frame}{k:List Item}{cs:List Frame}{c:Code}:step P (lone (b.atR a (.code (.scope c)::k)) cs w)=.next (lone (b.atR a (.code c:: .inScope c::k)) cs w):=
 step_lone_go (by simp[stepG,stepG.exec,Frame.atR])
theorem zgb{b:Frame}{k:List Item}{cs:List Frame}{c:Code}:step P (lone (b.atR a (.inScope c::k)) cs w)=.next (lone (b.atR a k) cs w):=
 step_lone_go (by simp[stepG,stepG.exec,Frame.atR])
theorem wHb{c:Code}(h:c.wpIn F n P (noGoto Q) a w):(Code.scope c).wpIn F n P Q a w:=by
 intro b k cs hro hb hr;have h0:(lone (b.atR a (.code (.scope c)::k)) cs w).fenced P F:=fenced_calm hb hr rfl;obtain ⟨e,a₁,w₁,hq,harr⟩:=h b (.inScope c::k) cs hro hb hr;cases e with
 | normal=>exact ⟨.normal,a₁,w₁,hq,.head h0 wJa (StepsIn.trans harr (.one (fenced_calm hb hr rfl) zgb))⟩
 | exit id=>
  have hx:exitTo id (.inScope c::k)=exitTo id k:=by simp[exitTo]
  exact ⟨.exit id,a₁,w₁,hq,fun k' hk=>.head h0 wJa (harr.1 k' (by rw[hx];exact hk)),
   fun hr' hk=>let ⟨k₁,h1,h2⟩:=harr.2 hr' (by rw[hx];exact hk);⟨k₁,h1,.head h0 wJa h2⟩⟩
 | goto l=>exact hq.elim
 | ret=>exact ⟨_,a₁,w₁,hq,.of_steps (.one h0 wJa) harr⟩
 | panic ch=>exact ⟨_,a₁,w₁,hq,.of_steps (.one h0 wJa) harr⟩
 | outgrown=>exact ⟨_,a₁,w₁,hq,.of_steps (.one h0 wJa) harr⟩
end
section
variable {E:Env} {fr:Fr} {σ:Sto} {K:Post}
def yYb(K:Post):Post
 | .goto _,_,_=>False
 | e,fr,σ=>K e fr σ
theorem yZb{c:Code}(h:AWP E c fr σ (yYb K)):AWP E (.scope c) fr σ K:=
 ⟨fun g a hs=>wHb (wpIn_mono (h.go g a hs) fun e a' w' ⟨g',fr',σ',h1,h2,h3⟩=>by
  cases e <;> first | exact ⟨g',fr',σ',h1,h2,h3⟩ | exact h3.elim)⟩
theorem y0b{l:Nat}(h:K .normal fr σ):AWP E (.label l) fr σ K:=⟨fun g a hs=>wpIn_label ⟨g,fr,σ,rfl,hs,h⟩⟩
theorem St.itset{g:G}{a:Act}{o pos' :Nat}{s:ByteArray}{pos:Nat}(h:St E g a fr σ)(ho:σ.get o=some (.it s pos)):∃b,g.loc o=.blk b/\g.w.heap[b]? =some (.stringIter s pos)/\St E ⟨{g.w with heap:=g.w.heap.setIfInBounds b (.stringIter s pos')},g.u,g.loc⟩ a fr (σ.upd o (.it s pos')):=by
 cases h.so.obj o _ ho with
 | @it _ _ b hl hb hu=>
  refine ⟨b,hl,hb,?_⟩;have hbl:=z6a hb;generalize hw:({g.w with heap:=g.w.heap.setIfInBounds b (.stringIter s pos')}:World)=w';have hheap:∀k,k≠b->w'.heap[k]? =g.w.heap[k]? :=fun k hk=>by subst hw;exact Array.getElem?_setIfInBounds_ne (Ne.symm hk)
  have hnew:w'.heap[b]? =some (.stringIter s pos'):=by subst hw;exact Array.getElem?_setIfInBounds_self_of_lt hbl
  have hsz:w'.heap.size=g.w.heap.size:=by subst hw;simp
  have hx:Ext g.w g.u w' g.u:=⟨Nat.le_of_eq hsz.symm,fun _ _=>Nat.le_refl _,fun k i hk hi=>by
   by_cases hkb:k=b
   .subst hkb;simp[World.cell?,hb,hnew]
   simp only[World.cell?];rw[hheap k hkb],fun r hr=>(hheap r (by rintro rfl;rw[hb]at hr;cases hr)).trans hr⟩
  have hget:=Sto.get_upd (ob:=.it s pos') ho;have hsome:∀k ob,(σ.upd o (.it s pos')).get k=some ob->∃ob',σ.get k=some ob' /\∀l,ob'.blk l=ob.blk l:=by
   intro k ob hk;rw[hget]at hk;split at hk
   .rename_i hko;cases hk;exact ⟨.it s pos,hko▸ho,fun _=>rfl⟩
   exact ⟨_,hk,fun _=>rfl⟩
  refine ⟨fun d=>(h.fr d).mono (g' :=⟨w',g.u,g.loc⟩) hx (fun _ _=>rfl),h.n,h.df.mono hx,⟨?_,fun k k' ob ob' b' h1 h2=>?_,fun k ob b' h1=>?_,?_,?_⟩⟩
  .intro k ob hk;rw[hget]at hk;split at hk
   .rename_i hko;subst hko;cases hk;exact .it hl hnew hu
   rename_i hko;refine (h.so.obj k ob hk).mono (g' :=⟨w',g.u,g.loc⟩) hx rfl (fun _ _=>rfl) fun b' hb' =>⟨hheap b' ?_,rfl⟩
   rintro rfl;exact hko (h.so.apart k o ob _ b' hk ho hb' (by rw[hl];rfl))
  .obtain ⟨_,e1,q1⟩:=hsome k _ h1;obtain ⟨_,e2,q2⟩:=hsome k' _ h2;rw[<-q1,<-q2];exact h.so.apart k k' _ _ b' e1 e2
  .obtain ⟨_,e1,q1⟩:=hsome k _ h1;rw[<-q1];exact h.so.mine k _ b' e1
  .refine h.so.old.trans ⟨by subst hw;rfl,by subst hw;rfl,by subst hw;rfl,hx,fun k hk hs=>⟨hheap k ?_,rfl⟩⟩;rintro rfl;rcases h.so.mine o _ k ho (by rw[hl];rfl) with h1 | h1
   .exact hs (.inr h1)
   exact hs (.inl h1)
  intro k hk;exact h.so.wf k (by rw[<-hsz];exact hk)
variable {ty:TypeId} {pos:String} {af:Array Edge} {gu:Option (Nat × Bool)} {x:Operand} {t t' :TypeId} {ss sb ss' sb' :Nat} {sz sz' :Value}
theorem wIb{k:Nat}(id:Nat){s:Str}(hN:Nat.ble (k+1) E.N=true)(hx:fr.ev x=.s s)(ht:TyOk E.P t ss sb sz .string)(hf:fr.has id=false)(hs:σ.has id=false):
 OpTo E ⟨some k,.range t x,ty,pos,af,gu⟩ fr σ ((k,.ptr id 0)::fr) ((id,.it (strB s) 0)::σ):=
 ⟨fun g a K Q hst hK=>by
  refine ⟨fun _ _=>trivial,?_⟩;rw[Oper.semAt_plain _ _ _ (fun c=>by simp)];have h1:=hst.ev x;rw[hx]at h1;have e1:=kda h1;have hr:(execOp a.eval ⟨some k,.range t x,ty,pos,af,gu⟩).run E.P g.w=.ok (.value (.pointer (some ⟨g.w.heap.size,0,none⟩))) (g.w.alloc (.stringIter (strB s) 0)):=by
   show Sem.run E.P (do let v <-Instr.range t (a.eval x);pure (Next.value v)) g.w=_;rw[e1];simp only[Instr.range,underlying,program,Sem.run_bind,Sem.run,ht.u,Result.andThen_ok];rfl
  rw[hr,Oper.uponIn_value];have hnew:(g.w.alloc (.stringIter (strB s) 0)).heap[g.w.heap.size]? =some (.stringIter (strB s) 0):=by show (g.w.heap.push _)[g.w.heap.size]? =_;simp
  have hold:Old (fun _=>False) g ⟨g.w.alloc (.stringIter (strB s) 0),fun q=>if q=g.w.heap.size then 0 else g.u q,fun q=>if q=id then .blk g.w.heap.size else g.loc q⟩:=by
   refine ⟨rfl,rfl,rfl,⟨by show g.w.heap.size<=(g.w.alloc _).heap.size;simp,fun q hq=>by dsimp only;split <;> omega,fun q i hq hi=>?_,fun r hr=>(Below.heap_alloc _ _ _ (z6a hr)).trans hr⟩,fun q hq _=>⟨Below.heap_alloc _ _ _ hq,by dsimp only;split <;> omega⟩⟩;simp only[World.cell?];rw[show (g.w.alloc (.stringIter (strB s) 0)).heap[q]? =g.w.heap[q]? from Below.heap_alloc _ _ _ hq]
  have hwf:Wf ⟨g.w.alloc (.stringIter (strB s) 0),fun q=>if q=g.w.heap.size then 0 else g.u q,fun q=>if q=id then .blk g.w.heap.size else g.loc q⟩:=by
   intro q hq;have hq:g.w.heap.size+1<=q:=by simpa using hq
   show (if q=g.w.heap.size then 0 else g.u q)=0;rw[if_neg (by omega)];exact hst.so.wf q (by omega)
  have hst' :=hst.addObj id (ob:=.it (strB s) 0) hf hs hold hwf (fun q hq=>if_neg hq) (.it (if_pos rfl) hnew (if_pos rfl)) (fun b hb=>by
   simp only[AO.blk,if_true,Loc.block]at hb;cases hb;omega)
  exact hK _ _ (hst'.put (Nat.le_of_ble_eq_true hN) (.ptr (if_pos rfl)))⟩
def KWa(s:Str)(i:Nat):Int:=((Utf8.decode (strB s) i).1:Nat)
def jQa(s:Str)(i:Nat):Nat:=(Utf8.decode (strB s) i).2
theorem zhb{P:Program}(w:World)(s:ByteArray)(r pos:Nat)(ty:TypeId)(hb:w.heap[r]? =some (.stringIter s pos))(h:pos < s.size):
 (Instr.next (.pointer (some ⟨r,0,none⟩)) true ty).run P w=.ok (.tuple #[.bool true,.int .i64 pos,.int .i32 (Utf8.decode s pos).1]) {w with heap:=w.heap.setIfInBounds r (.stringIter s (pos+(Utf8.decode s pos).2))}:=by
 simp only[Instr.next,getObj,setObj,Sem.run_bind,Sem.run,hb,Result.andThen,h,if_true];simp[goInt]
theorem zib{P:Program}(w:World)(s:ByteArray)(r pos:Nat)(ty:TypeId)(hb:w.heap[r]? =some (.stringIter s pos))(h:¬pos < s.size):
 (Instr.next (.pointer (some ⟨r,0,none⟩)) true ty).run P w=.ok (.tuple #[.bool false]) w:=by
 simp[Instr.next,getObj,Sem.run,hb,h]
theorem y1b{ops:Array Oper}{rest:List Oper}{k o i:Nat}{s:Str}(hg:gu=none)(hN:Nat.ble (k+1) E.N=true)(hx:fr.ev x=.ptr o 0)(ho:σ.get o=some (.it (strB s) i))
 (h1:decide (i < s.length)=true->AWPL E ops rest ((k,.tup [.bo true,.i i,.pv (.b (.int .i32 (KWa s i)))])::fr) (σ.upd o (.it (strB s) (i+jQa s i))) K)
 (h2:decide (i < s.length)=false->AWPL E ops rest ((k,.tup [.bo false])::fr) σ K):
 AWPL E ops (⟨some k,.next x true,ty,pos,af,gu⟩::rest) fr σ K:=
 ⟨fun g a hst=>by
  subst hg;have hv:=hst.ev x;rw[hx]at hv;simp only[wpListIn,Region.wanted,if_true];refine ⟨fun _ _=>trivial,?_⟩;rw[Oper.semAt_plain _ _ _ (fun c=>by simp)];obtain ⟨b,hl,hb,hst2⟩:=hst.itset (pos' :=i+jQa s i) ho;have ev:a.eval x=.pointer (some ⟨b,0,none⟩):=by
   generalize a.eval x=v at hv;cases hv with
   | ptr hl2=>rw[hl]at hl2;cases hl2;rfl
  by_cases hlt:i < s.length
  .have hr:(execOp a.eval ⟨some k,.next x true,ty,pos,af,none⟩).run E.P g.w=.ok (.value (.tuple #[.bool true,.int .i64 i,.int .i32 (KWa s i)])) {g.w with heap:=g.w.heap.setIfInBounds b (.stringIter (strB s) (i+jQa s i))}:=by
    show Sem.run E.P (do let v <-Instr.next (a.eval x) true ty;pure (Next.value v)) g.w=_;rw[ev,Sem.run_bind,zhb g.w (strB s) b i ty hb (by rw[zKa];exact hlt)];rfl
   rw[hr,Oper.uponIn_value];exact (h1 (decide_eq_true hlt)).go ⟨_,_,_⟩ _ (hst2.put (Nat.le_of_ble_eq_true hN) (.tup rfl (fun j c hj=>by
    match j,hj with
    | 0,hj=>simp at hj;subst hj;exact .pv (.b rfl)
    | 1,hj=>simp at hj;subst hj;exact .pv (.b rfl)
    | 2,hj=>simp at hj;subst hj;exact .pv (.b rfl)
    | j+3,hj=>simp at hj)))
  have hr:(execOp a.eval ⟨some k,.next x true,ty,pos,af,none⟩).run E.P g.w=.ok (.value (.tuple #[.bool false])) g.w:=by
   show Sem.run E.P (do let v <-Instr.next (a.eval x) true ty;pure (Next.value v)) g.w=_;rw[ev,Sem.run_bind,zib g.w (strB s) b i ty hb (by rw[zKa];exact hlt)];rfl
  rw[hr,Oper.uponIn_value];exact (h2 (decide_eq_false hlt)).go g _ (hst.put (Nat.le_of_ble_eq_true hN) (.tup rfl (fun j c hj=>by
   match j,hj with
   | 0,hj=>simp at hj;subst hj;exact .pv (.b rfl)
   | j+1,hj=>simp at hj)))⟩
end
section
variable {P:Program} {ρ:Operand->AV} {σ:Sto} {dst:Option Tmp} {ty:TypeId} {pos:String} {af:Array Edge} {gu:Option (Nat × Bool)} {x:Operand} {t t' :TypeId} {ss sb ss' sb' :Nat} {sz sz' :Value}
theorem ev_u8i32{c:UInt8}(hx:ρ x=.u8 c)(ha:TyOk P t ss sb sz (.int .u8))(hb:TyOk P t' ss' sb' sz' (.int .i32)):EvQ P ⟨dst,.convert t t' x,ty,pos,af,gu⟩ ρ σ (.pv (.b (.int .i32 (c.toNat:Int)))):=
 ⟨fun c=>by simp,fun g ρv h _=>by
  have h1:=h x (by simp[Op.operands]);rw[hx]at h1;have e1:=kda h1;have hlt:=c.toNat_lt;have hw:IntKind.i32.wrap (c.toNat:Int)=c.toNat:=by simp only[IntKind.wrap,IntKind.bits,IntKind.signed];simp;omega
  refine ⟨.int .i32 c.toNat,?_,.pv (.b rfl)⟩;simp[execOp,convert,e1,go_sem,underlying,ha.u,hb.u,Conv.intToInt,hw]⟩
theorem ev_i32u8{n:Int}(hx:ρ x=.pv (.b (.int .i32 n)))(ha:TyOk P t ss sb sz (.int .i32))(hb:TyOk P t' ss' sb' sz' (.int .u8)):EvQ P ⟨dst,.convert t t' x,ty,pos,af,gu⟩ ρ σ (.u8 (toU8 n)):=
 ⟨fun c=>by simp,fun g ρv h _=>by
  have h1:=h x (by simp[Op.operands]);rw[hx]at h1;have e1:=kda h1;refine ⟨.int .u8 (toU8 n).toNat,?_,.pv (.b rfl)⟩;simp[execOp,convert,e1,go_sem,underlying,ha.u,hb.u,Conv.intToInt,qxb]⟩
def w7a(n:Int):Str:=(Utf8.encode n).data.toList
theorem ev_i32s{n:Int}(hx:ρ x=.pv (.b (.int .i32 n)))(ha:TyOk P t ss sb sz (.int .i32))(hb:TyOk P t' ss' sb' sz' .string):EvQ P ⟨dst,.convert t t' x,ty,pos,af,gu⟩ ρ σ (.s (w7a n)):=
 ⟨fun c=>by simp,fun g ρv h _=>by
  have h1:=h x (by simp[Op.operands]);rw[hx]at h1;have e1:=kda h1;refine ⟨.string (Utf8.encode n),?_,.pv (.b rfl)⟩;simp[execOp,convert,e1,go_sem,underlying,ha.u,hb.u,Conv.intToString]⟩
end
end
section
structure YXa where
 size:Nat
 bytes:Nat
 zero:Value
 desc:TypeDesc
 pl:Option (Array (Nat × Nat))
abbrev Tab:=List (Nat × YXa)
def Tab.get:Tab->Nat->Option YXa
 | [],_=>none
 | (k,a)::r,t=>bif Nat.beq k t then some a else Tab.get r t
structure RowOk (P:Program) (t:TypeId) (r:YXa):Prop where
 ty:TyOk P t r.size r.bytes r.zero r.desc
 pl:∀fs p,r.desc=.struct fs->r.pl=some p->∀w,Sem.run P (fs.mapM fun f=>do pure (f.offset,<-sizeOf f.type)) w=.ok p w
def kTa(P:Program)(T:Tab):Prop:=∀t r,T.get t=some r->RowOk P t r
theorem tab_nil{P:Program}:kTa P []:=fun t r h=>by simp[Tab.get]at h
theorem Tab.get_cons(k:Nat)(a:YXa)(T:Tab)(t:Nat):Tab.get ((k,a)::T) t=if k=t then some a else Tab.get T t:=by
 by_cases h:k=t
 .subst h;simp[Tab.get]
 have:Nat.beq k t=false:=by cases hb:Nat.beq k t with
  | false=>rfl
  | true=>exact absurd (Nat.eq_of_beq_eq_true hb) h
 simp[Tab.get,this,h]
theorem y2b{P:Program}{T:Tab}{k:Nat}{r:YXa}(h:RowOk P k r)(hT:kTa P T):kTa P ((k,r)::T):=fun t r' h' =>by
 rw[Tab.get_cons]at h';split at h'
 .rename_i hk;subst hk;cases h';exact h
 exact hT t r' h'
theorem k6a{P:Program}{T:Tab}{k size bytes:Nat}{zero:Value}{d:TypeDesc}(h:TyOk P k size bytes zero d)(hT:kTa P T):kTa P ((k,⟨size,bytes,zero,d,none⟩)::T):=
 y2b ⟨h,fun fs p _ h=>by cases h⟩ hT
theorem vaa{P:Program}{T:Tab}{k size bytes:Nat}{zero:Value}{fs:Array Field}{p:Array (Nat × Nat)}(h:TyOk P k size bytes zero (.struct fs))(hp:∀w,Sem.run P (fs.mapM fun f=>do pure (f.offset,<-sizeOf f.type)) w=.ok p w)(hT:kTa P T):kTa P ((k,⟨size,bytes,zero,.struct fs,some p⟩)::T):=
 y2b ⟨h,fun fs' p' h1 h2=>by cases h1;cases h2;exact hp⟩ hT
def AV.force:AV->Option AV
 | .any=>some .any
 | .pv p=>some (.pv p)
 | .agg cs=>some (.agg cs)
 | .tup vs=>some (.tup vs)
 | .ptr o f=>some (.ptr o f)
 | .ep c=>some (.ep c)
 | .hs r o=>some (.hs r o)
 | .hp r i o=>some (.hp r i o)
 | .fn f a c=>some (.fn f a c)
 | .mp o=>some (.mp o)
 | .hsub r l=>some (.hsub r l)
 | .z0=>some .z0
 | .hpre r h=>some (.hpre r h)
 | .ifc b=>some (.ifc b)
theorem AV.force_eq{c d:AV}(h:c.force=some d):c=d:=by cases c <;> simpa[AV.force]using h
def jca:List AV->Option (List AV)
 | []=>some []
 | c::cs=>match c.force with
  | some c' =>(match jca cs with | some cs' =>some (c' ::cs') | none=>none)
  | none=>none
theorem vba:∀{cs ds:List AV},jca cs=some ds->cs=ds
 | [],_,h=>by simpa[jca]using h
 | c::cs,_,h=>by
  unfold jca at h;split at h
  .rename_i c' hc;split at h
   .rename_i cs' hcs;cases h;rw[AV.force_eq hc,vba hcs]
   cases h
  cases h
def khb:List PV->Option (List PV)
 | []=>some []
 | c::cs=>match khb cs with | some cs' =>some (c::cs') | none=>none
theorem kib:∀{cs ds:List PV},khb cs=some ds->cs=ds
 | [],_,h=>by simpa[khb]using h
 | c::cs,_,h=>by
  unfold khb at h;split at h
  .rename_i cs' hcs;cases h;rw[kib hcs]
  cases h
def AV.str? :AV->Option Str
 | .pv (.b (.string s))=>some s.data.toList
 | _=>none
theorem AV.str?_eq{c:AV}{s:Str}(h:c.str? =some s):c=.s s:=by
 unfold AV.str? at h;split at h
 .cases h;rfl
 cases h
def Sto.updF:Sto->Nat->AO->Option Sto
 | [],_,_=>some []
 | (k,a)::r,o,ob=>match Nat.beq k o with
  | true=>some ((k,ob)::r)
  | false=>(match Sto.updF r o ob with
   | some r' =>some ((k,a)::r')
   | none=>none)
section
variable {P:Program} {T:Tab} {ρ:Operand->AV} {σ:Sto} {dst:Option Tmp} {ty:TypeId} {pos:String} {af:Array Edge} {gu:Option (Nat × Bool)} {c:AV}
def qStr(op:BinOp)(x y:Str):Option AV:=match op with
 | .eql=>some (.bo (x==y))
 | .neq=>some (.bo (x !=y))
 | .lss=>some (.bo (Op.bytesLess x y))
 | _=>none
def qCmp(op:BinOp)(x y:Int):Option AV:=match op with
 | .eql=>some (.bo (x==y))
 | .neq=>some (.bo (x !=y))
 | .lss=>some (.bo (decide (x < y)))
 | .leq=>some (.bo (decide (x<=y)))
 | .gtr=>some (.bo (decide (y < x)))
 | .geq=>some (.bo (decide (y<=x)))
 | _=>none
def qI64(op:BinOp)(x y:Int):Option AV:=match op with
 | .add=>some (.i (IntKind.wrap .i64 (x+y)))
 | .sub=>some (.i (IntKind.wrap .i64 (x - y)))
 | .mul=>some (.i (IntKind.wrap .i64 (x * y)))
 | op=>qCmp op x y
def qBool(T:Tab)(op:BinOp)(t:TypeId)(x y:Bool):Option AV:=match T.get t with
 | some ⟨_,_,_,.bool,_⟩=>(match op with | .eql=>some (.bo (x==y)) | .neq=>some (.bo (x !=y)) | _=>none)
 | _=>none
def qBin(T:Tab)(op:BinOp)(t:TypeId)(a b:AV):Option AV:=match a with
 | .pv (.b (.int .i64 x))=>(match b with | .pv (.b (.int .i64 y))=>qI64 op x y | _=>none)
 | .pv (.b (.int .u8 x))=>(match b with | .pv (.b (.int .u8 y))=>qCmp op x y | _=>none)
 | .pv (.b (.int .i32 x))=>(match b with | .pv (.b (.int .i32 y))=>qCmp op x y | _=>none)
 | .pv (.b (.string x))=>(match b with | .pv (.b (.string y))=>qStr op x.data.toList y.data.toList | _=>none)
 | .pv (.b (.bool x))=>(match b with | .pv (.b (.bool y))=>qBool T op t x y | _=>none)
 | _=>none
theorem qNb{op:BinOp}{t t' :TypeId}{x y:Operand}{k:IntKind}{a b:Int}(hx:ρ x=.pv (.b (.int k a)))(hy:ρ y=.pv (.b (.int k b)))(h:qCmp op a b=some c):EvQ P ⟨dst,.binOp op t x y t',ty,pos,af,gu⟩ ρ σ c:=by
 unfold qCmp at h;split at h <;> first | (cases h;done) | skip
 all_goals cases h
 .exact vDb hx hy
 .exact ev_neq hx hy
 .exact vEb hx hy
 .exact ev_leq hx hy
 .exact yGb hx hy
 exact ev_geq hx hy
theorem qI64_ok{op:BinOp}{t t' :TypeId}{x y:Operand}{a b:Int}(hx:ρ x=.pv (.b (.int .i64 a)))(hy:ρ y=.pv (.b (.int .i64 b)))(h:qI64 op a b=some c):EvQ P ⟨dst,.binOp op t x y t',ty,pos,af,gu⟩ ρ σ c:=by
 unfold qI64 at h;split at h
 .cases h;exact Jha hx hy
 .cases h;exact z9b hx hy
 .cases h;exact ev_mul hx hy
 exact qNb hx hy h
theorem qStr_ok{op:BinOp}{t t' :TypeId}{x y:Operand}{a b:Str}(hx:ρ x=.s a)(hy:ρ y=.s b)(h:qStr op a b=some c):EvQ P ⟨dst,.binOp op t x y t',ty,pos,af,gu⟩ ρ σ c:=by
 unfold qStr at h;split at h <;> first | (cases h;done) | skip
 all_goals cases h
 .exact yHb hx hy
 .exact ev_sneq hx hy
 exact ev_slss hx hy
theorem qBool_ok(hT:kTa P T){op:BinOp}{t t' :TypeId}{x y:Operand}{a b:Bool}(hx:ρ x=.bo a)(hy:ρ y=.bo b)(h:qBool T op t a b=some c):EvQ P ⟨dst,.binOp op t x y t',ty,pos,af,gu⟩ ρ σ c:=by
 unfold qBool at h;split at h
 .rename_i hr;have:=(hT _ _ hr).ty;split at h
  .cases h;exact ev_beql hx hy this
  .cases h;exact ev_bneq hx hy this
  cases h
 cases h
theorem qBin_ok(hT:kTa P T){op:BinOp}{t t' :TypeId}{x y:Operand}(h:qBin T op t (ρ x) (ρ y)=some c):EvQ P ⟨dst,.binOp op t x y t',ty,pos,af,gu⟩ ρ σ c:=by
 unfold qBin at h;split at h
 .rename_i hx;split at h
  .rename_i hy;exact qI64_ok hx hy h
  cases h
 .rename_i hx;split at h
  .rename_i hy;exact qNb hx hy h
  cases h
 .rename_i hx;split at h
  .rename_i hy;exact qNb hx hy h
  cases h
 .rename_i hx;split at h
  .rename_i hy;exact qStr_ok hx hy h
  cases h
 .rename_i hx;split at h
  .rename_i hy;exact qBool_ok hT hx hy h
  cases h
 cases h
def qLoad(T:Tab)(σ:Sto)(t:TypeId)(v:AV):Option AV:=match T.get t with
 | none=>none
 | some row=>match v with
  | .ptr o off=>(match σ.get o with
   | some (.cells cs)=>bif dAgg row.desc then (bif Nat.ble (off+row.size) cs.length then (match jca ((cs.drop off).take row.size) with | some l=>some (.agg l) | none=>none) else none)
    else (match cs[off]? with | some c=>c.force | none=>none)
   | _=>none)
  | .ep el=>bif dAgg row.desc then (bif Nat.beq el.length row.size then (match jca (el.map .pv) with | some l=>some (.agg l) | none=>none) else none)
   else (match el with | c::_=>some (.pv c) | []=>none)
  | _=>none
theorem qLoad_ok(hT:kTa P T){t:TypeId}{x:Operand}(h:qLoad T σ t (ρ x)=some c):EvQ P ⟨dst,.load t x,ty,pos,af,gu⟩ ρ σ c:=by
 unfold qLoad at h;split at h
 .cases h
 rename_i row hr;have ht:=(hT _ _ hr).ty;split at h
 .rename_i o off hx;split at h
  .rename_i cs ho;cases hd:dAgg row.desc with
   | true=>
    rw[hd]at h;simp only[cond_true]at h;cases hn:Nat.ble (off+row.size) cs.length with
    | false=>rw[hn]at h;cases h
    | true=>
     rw[hn]at h;simp only[cond_true]at h;split at h
     .rename_i l hl;cases h;rw[<-vba hl];exact ev_loadN hx ho ht hd hn
     cases h
   | false=>
    rw[hd]at h;simp only[cond_false]at h;split at h
    .rename_i c' hc;rw[<-AV.force_eq h];exact Vna hx ho ht hd hc
    cases h
  cases h
 .rename_i el hx;cases hd:dAgg row.desc with
  | true=>
   rw[hd]at h;simp only[cond_true]at h;cases hn:Nat.beq el.length row.size with
   | false=>rw[hn]at h;cases h
   | true=>
    rw[hn]at h;simp only[cond_true]at h;split at h
    .rename_i l hl;cases h;rw[<-vba hl];exact qwb hx ht hd (Nat.eq_of_beq_eq_true hn)
    cases h
  | false=>
   rw[hd]at h;simp only[cond_false]at h;split at h
   .cases h;exact yJa hx ht hd (by simp)
   cases h
 cases h
def qFA(T:Tab)(t:TypeId)(f:Nat)(v:AV):Option AV:=match T.get t with
 | some ⟨_,_,_,.struct fs,_⟩=>(match fs[f]? with
  | some fl=>(match T.get fl.type with
   | some r2=>bif Nat.beq r2.size 0 then none else (match v with
    | .ptr o off=>some (.ptr o (off+fl.offset))
    | .ep el=>bif Nat.ble fl.offset el.length then (match khb (el.drop fl.offset) with | some l=>some (.ep l) | none=>none) else none
    | .hp r i j=>some (.hp r i (j+fl.offset))
    | _=>none)
   | none=>none)
  | none=>none)
 | _=>none
theorem qFA_ok(hT:kTa P T){t:TypeId}{f:Nat}{x:Operand}(h:qFA T t f (ρ x)=some c):EvQ P ⟨dst,.fieldAddr t x f,ty,pos,af,gu⟩ ρ σ c:=by
 unfold qFA at h;split at h
 .rename_i fs _ hr;have ht:=(hT _ _ hr).ty.u;split at h
  .rename_i fl hf;split at h
   .rename_i r2 hr2;have ht2:=(hT _ _ hr2).ty;cases hz:Nat.beq r2.size 0 with
    | true=>rw[hz]at h;cases h
    | false=>
     rw[hz]at h;simp only[cond_false]at h;split at h
     .rename_i hx;cases h;exact v8a hx ht hf ht2 hz
     .rename_i el hx;cases hle:Nat.ble fl.offset el.length with
      | false=>rw[hle]at h;cases h
      | true=>
       rw[hle]at h;simp only[cond_true]at h;split at h
       .rename_i l hl;cases h;rw[<-kib hl];exact WRa hx ht hf ht2 hz hle
       cases h
     .rename_i hx;cases h;exact WVa hx ht hf ht2 hz
     cases h
   cases h
  cases h
 cases h
def y3b(T:Tab)(t:TypeId)(f:Nat)(v:AV):Option AV:=match T.get t with
 | some ⟨_,_,_,.struct fs,_⟩=>(match fs[f]? with
  | some fl=>(match T.get fl.type with
   | some r2=>(match v with
    | .agg cs=>bif dAgg r2.desc then none else (match cs[fl.offset]? with | some c=>c.force | none=>none)
    | _=>none)
   | none=>none)
  | none=>none)
 | _=>none
theorem y4b(hT:kTa P T){t:TypeId}{f:Nat}{x:Operand}(h:y3b T t f (ρ x)=some c):EvQ P ⟨dst,.field t x f,ty,pos,af,gu⟩ ρ σ c:=by
 unfold y3b at h;split at h
 .rename_i fs _ hr;have ht:=(hT _ _ hr).ty.u;split at h
  .rename_i fl hf;split at h
   .rename_i r2 hr2;have ht2:=(hT _ _ hr2).ty;split at h
    .rename_i cs hx;cases hd:dAgg r2.desc with
     | true=>rw[hd]at h;cases h
     | false=>
      rw[hd]at h;simp only[cond_false]at h;split at h
      .rename_i c' hc;rw[<-AV.force_eq h];exact ev_field hx ht hf ht2 hd hc
      cases h
    cases h
   cases h
  cases h
 cases h
def qLen(T:Tab)(t:TypeId)(v:AV):Option AV:=match v with
 | .pv (.b (.string s))=>(match T.get t with | some ⟨_,_,_,.string,_⟩=>some (.i s.data.toList.length) | _=>none)
 | _=>none
theorem qLen_ok(hT:kTa P T){t:TypeId}{x:Operand}(h:qLen T t (ρ x)=some c):EvQ P ⟨dst,.call ⟨.builtin .len, #[x], #[t]⟩,ty,pos,af,gu⟩ ρ σ c:=by
 unfold qLen at h;split at h
 .rename_i hx;split at h
  .rename_i hr;cases h;exact yJb hx (hT _ _ hr).ty.u
  cases h
 cases h
def y5b(T:Tab)(t:TypeId)(ps:List (Nat × AV)):Option AV:=match T.get t with
 | some ⟨_,_,z,.struct _,some pl⟩=>bif z.cells.toList.all cellV then (match jca (z.cells.toList.map v0a) with
  | some zs=>(match J8a (pl[·]?) zs ps with
   | some cs=>(match jca cs with | some cs' =>some (.agg cs') | none=>none)
   | none=>none)
  | none=>none) else none
 | _=>none
theorem y6b(hT:kTa P T){t:TypeId}{ps:List (Nat × Operand)}(h:y5b T t (ps.map fun p=>(p.1,ρ p.2))=some c):EvQ P ⟨dst,.build t ps.toArray,ty,pos,af,gu⟩ ρ σ c:=by
 unfold y5b at h;split at h
 .rename_i z fs pl hr;have hk:=hT _ _ hr;cases hz:z.cells.toList.all cellV with
  | false=>rw[hz]at h;cases h
  | true=>
   rw[hz]at h;simp only[cond_true]at h;split at h
   .rename_i zs hzs;split at h
    .rename_i cs hc;split at h
     .rename_i cs' hcs;cases h;rw[<-vba hcs];rw[<-vba hzs]at hc;exact ev_build hk.ty (hk.pl fs pl rfl rfl) (.inr ⟨rfl,hz⟩) hc
     cases h
    cases h
   cases h
 cases h
def qConv(T:Tab)(t t' :TypeId)(v:AV):Option AV:=match T.get t,T.get t' with
 | some ⟨_,_,_,.string,_⟩,some ⟨_,_,_,.string,_⟩=>(match v with | .pv (.b (.string s))=>some (.s s.data.toList) | _=>none)
 | some ⟨_,_,_,.int .i32,_⟩,some ⟨_,_,_,.int .u8,_⟩=>(match v with | .pv (.b (.int .i32 n))=>some (.u8 (toU8 n)) | _=>none)
 | some ⟨_,_,_,.int .i32,_⟩,some ⟨_,_,_,.string,_⟩=>(match v with | .pv (.b (.int .i32 n))=>some (.s (w7a n)) | _=>none)
 | _,_=>none
theorem qConv_ok(hT:kTa P T){t t' :TypeId}{x:Operand}(h:qConv T t t' (ρ x)=some c):EvQ P ⟨dst,.convert t t' x,ty,pos,af,gu⟩ ρ σ c:=by
 unfold qConv at h;split at h
 .rename_i h1 h2;split at h
  .rename_i hx;cases h;exact ev_s2s hx (hT _ _ h1).ty (hT _ _ h2).ty
  cases h
 .rename_i h1 h2;split at h
  .rename_i hx;cases h;exact ev_i32u8 hx (hT _ _ h1).ty (hT _ _ h2).ty
  cases h
 .rename_i h1 h2;split at h
  .rename_i hx;cases h;exact ev_i32s hx (hT _ _ h1).ty (hT _ _ h2).ty
  cases h
 cases h
theorem qOb{x:Operand}{o off:Nat}(hx:ρ x=.ptr o off):EvQ P ⟨dst,.nilCheck x,ty,pos,af,gu⟩ ρ σ (.ptr o off):=
 ⟨fun c=>by simp,fun g ρv h _=>by
  have h1:=h x (by simp[Op.operands]);rw[hx]at h1;generalize hv:ρv x=v at h1;cases h1 with
  | @ptr _ _ b hl=>
   refine ⟨_,?_,.ptr hl⟩;simp[execOp,hv]⟩
def qval(T:Tab)(ρ:Operand->AV)(σ:Sto):Op->Option AV
 | .move x=>(ρ x).force
 | .assign x=>(ρ x).force
 | .extract x i=>(match ρ x with | .tup cs=>(match cs[i]? with | some c=>c.force | none=>none) | _=>none)
 | .binOp op t x y _=>qBin T op t (ρ x) (ρ y)
 | .unOp .not _ x=>(match ρ x with | .pv (.b (.bool b))=>some (.bo (!b)) | _=>none)
 | .pick c x y=>(match ρ c with | .pv (.b (.bool b))=>(match b with | true=>(ρ x).force | false=>(ρ y).force) | _=>none)
 | .load t x=>qLoad T σ t (ρ x)
 | .fieldAddr t x f=>qFA T t f (ρ x)
 | .field t x f=>y3b T t f (ρ x)
 | .call ⟨.builtin .len,⟨[x]⟩,⟨[t]⟩⟩=>qLen T t (ρ x)
 | .build t ps=>y5b T t (ps.toList.map fun p=>(p.1,ρ p.2))
 | .convert t t' x=>qConv T t t' (ρ x)
 | .makeFunc f xs ys=>(match jca (xs.toList.map ρ),jca (ys.toList.map ρ) with | some a,some b=>some (.fn f a b) | _,_=>none)
 | .nilCheck x=>(match ρ x with | .ptr o off=>some (.ptr o off) | _=>none)
 | _=>none
theorem WYa(hT:kTa P T){op:Op}(h:qval T ρ σ op=some c):EvQ P ⟨dst,op,ty,pos,af,gu⟩ ρ σ c:=by
 unfold qval at h;split at h
 .rw[<-AV.force_eq h];exact zCa
 .rw[<-AV.force_eq h];exact zOa
 .split at h
  .rename_i hx;split at h
   .rename_i hc;rw[<-AV.force_eq h];exact Vma hx hc
   cases h
  cases h
 .exact qBin_ok hT h
 .split at h
  .rename_i hx;cases h;exact ev_not hx
  cases h
 .split at h
  .rename_i b hc;cases b with
   | true=>rw[<-AV.force_eq h];exact jLa hc rfl
   | false=>rw[<-AV.force_eq h];exact w4a hc rfl
  cases h
 .exact qLoad_ok hT h
 .exact qFA_ok hT h
 .exact y4b hT h
 .exact qLen_ok hT h
 .rename_i ps;obtain ⟨ps⟩:=ps;exact y6b hT h
 .exact qConv_ok hT h
 .rename_i f xs ys;obtain ⟨xs⟩:=xs;obtain ⟨ys⟩:=ys;split at h
  .rename_i h1 h2;cases h;exact qHb (vba h1) (vba h2)
  cases h
 .split at h
  .rename_i hx;cases h;exact qOb hx
  cases h
 cases h
end
section
variable {E:Env} {fr:Fr} {σ:Sto} {K:Post}
def opDo(T:Tab)(N:Nat)(o:Oper)(fr:Fr)(σ:Sto):Option (Fr × Sto):=match o.dst with
 | some d=>bif Nat.ble (d+1) N then (match o.op with
  | .alloc t=>(match T.get t with
   | some row=>(match jca (row.zero.cells.toList.map v0a) with
    | some cs=>bif (row.zero.cells.toList.all cellV && !fr.has d && !σ.has d && !AV.hasL d cs) then some ((d,.ptr d 0)::fr,(d,.cells cs)::σ) else none
    | none=>none)
   | none=>none)
  | .box _ x=>(match (fr.ev x).cells with
   | some cs0=>(match jca cs0 with
    | some cs=>bif (!fr.has d && !σ.has d && !AV.hasL d cs) then some ((d,.ptr d 0)::fr,(d,.cells cs)::σ) else none
    | none=>none)
   | none=>none)
  | op=>(match qval T fr.ev σ op with
   | some c=>some ((d,c)::fr,σ)
   | none=>none)) else none
 | none=>(match o.op with
  | .store t x y=>(match T.get t with
   | some row=>(match fr.ev x with
    | .ptr b off=>(match σ.get b with
     | some (.cells cs)=>(match (fr.ev y).cells with
      | some vs=>bif (Nat.beq vs.length row.size && Nat.ble (off+vs.length) cs.length) then (match jca (KRa cs off vs) with
       | some cs' =>(match Sto.updF σ b (.cells cs') with
        | some σ' =>some (fr,σ')
        | none=>none)
       | none=>none) else none
      | none=>none)
     | _=>none)
    | _=>none)
   | none=>none)
  | _=>none)
theorem y7b:∀{σ σ' :Sto} {o:Nat} {ob:AO},Sto.updF σ o ob=some σ' ->σ.upd o ob=σ'
 | [],_,_,_,h=>by simp[Sto.updF]at h;subst h;rfl
 | (k,a)::r,σ',o,ob,h=>by
  unfold Sto.updF at h;unfold Sto.upd;cases hb:Nat.beq k o with
  | true=>rw[hb]at h;cases h;rfl
  | false=>
   rw[hb]at h;dsimp only at h;split at h
   .rename_i r' hr;cases h;rw[y7b hr];rfl
   cases h
theorem qPb{T:Tab}(hT:kTa E.P T){o:Oper}{fr' :Fr}{σ' :Sto}(h:opDo T E.N o fr σ=some (fr',σ')):OpTo E o fr σ fr' σ' :=by
 obtain ⟨dst,op,ty,pos,af,gu⟩:=o;unfold opDo at h;split at h
 .rename_i d hd;dsimp only at hd;subst hd;cases hN:Nat.ble (d+1) E.N with
  | false=>rw[hN]at h;cases h
  | true=>
   rw[hN]at h;simp only[cond_true]at h;split at h
   .rename_i t;split at h
    .rename_i row hr;split at h
     .rename_i cs hcs;cases hb:(row.zero.cells.toList.all cellV && !fr.has d && !σ.has d && !AV.hasL d cs) with
      | false=>rw[hb]at h;cases h
      | true=>
       rw[hb]at h;simp only[cond_true]at h;cases h;simp only[Bool.and_eq_true,Bool.not_eq_true']at hb;obtain ⟨⟨⟨h1,h2⟩,h3⟩,h4⟩:=hb;exact Jja d hN (hT _ _ hr).ty (.inr ⟨vba hcs,h1⟩) h2 h3 h4
     cases h
    cases h
   .split at h
    .rename_i cs0 hc0;split at h
     .rename_i cs hcs;cases hb:(!fr.has d && !σ.has d && !AV.hasL d cs) with
      | false=>rw[hb]at h;cases h
      | true=>
       rw[hb]at h;simp only[cond_true]at h;cases h;simp only[Bool.and_eq_true,Bool.not_eq_true']at hb;obtain ⟨⟨h2,h3⟩,h4⟩:=hb;rw[vba hcs]at hc0;exact J5a d hN hc0 h2 h3 h4
     cases h
    cases h
   split at h
   .rename_i c hc;cases h;exact zla rfl hN (WYa hT hc)
   cases h
 rename_i hd;dsimp only at hd;subst hd;split at h
 .subst_vars
  split at h
  .rename_i row hr;split at h
   .rename_i b off hx;split at h
    .rename_i cs ho;split at h
     .rename_i vs hy;cases hb:(Nat.beq vs.length row.size && Nat.ble (off+vs.length) cs.length) with
      | false=>rw[hb]at h;cases h
      | true=>
       rw[hb]at h;simp only[cond_true]at h;simp only[Bool.and_eq_true]at hb;split at h
       .rename_i cs' hcs;split at h
        .rename_i s' hs';cases h;have e1:=y7b hs';rw[<-vba hcs]at e1;rw[<-e1];exact Jka hx ho hy (hT _ _ hr).ty hb.1 hb.2
        cases h
       cases h
     cases h
    cases h
   cases h
  cases h
 cases h
def Mono(K:Post):Prop:=∀e fr σ fr' σ',FrLe fr fr' ->k8a σ σ' ->K e fr' σ' ->K e fr σ
theorem wJb{y:Code}(h:Mono K):Mono (yDb E y K):=fun e fr σ fr' σ' hf hs hk=>by
 cases e <;> first | exact z7b hf hs hk | exact h _ _ _ _ _ hf hs hk
theorem qQb{id:Nat}(h:Mono K):Mono (KQa id K):=fun e fr σ fr' σ' hf hs hk=>by
 cases e
 case exit i=>
  simp only[KQa]at hk ⊢;split
  .rename_i hi;rw[if_pos hi]at hk;exact h _ _ _ _ _ hf hs hk
  rename_i hi;rw[if_neg hi]at hk;exact h _ _ _ _ _ hf hs hk
 all_goals exact h _ _ _ _ _ hf hs hk
theorem y8b{J:Type}{frs:J->Fr}{stos:J->Sto}{M:J->Prop}(h:Mono K):Mono (JoinK K frs stos M):=fun e fr σ fr' σ' hf hs hk=>by
 cases e
 case normal=>
  obtain ⟨j,hm,h1,h2⟩:=hk;exact ⟨j,hm,Vka hf h1,yNa hs h2⟩
 all_goals exact h _ _ _ _ _ hf hs hk
theorem wKb(h:Mono K):Mono (yYb K):=fun e fr σ fr' σ' hf hs hk=>by
 cases e <;> first | exact h _ _ _ _ _ hf hs hk | exact hk.elim
theorem y9b{e0:Exit}{fr0:Fr}{σ0:Sto}:Mono (At e0 fr0 σ0):=fun e fr σ fr' σ' hf hs ⟨h1,h2,h3⟩=>⟨h1,Vka hf h2,yNa hs h3⟩
theorem Vwa{A R:Type}{frs:A->Fr}{stos:A->Sto}{e0:R->Exit}{fr0:R->Fr}{σ0:R->Sto}{x:Step A R}:Mono (QLa frs stos (fun b=>At (e0 b) (fr0 b) (σ0 b)) x):=fun e fr σ fr' σ' hf hs hk=>by
 cases x with
 | cont s=>exact y9b e fr σ fr' σ' hf hs hk
 | out r=>exact ⟨hk.1,y9b e fr σ fr' σ' hf hs hk.2⟩
theorem jab{P:Program}{fn:Func}{r:AV}:Mono (Kret P fn r):=fun e fr σ fr' σ' hf hs ⟨h1,cs,h2,h3⟩=>⟨h1,cs,h2.le hf hs,h3⟩
inductive KS where
 | base (K:Post) (h:Mono K)
 | th (y:Code) (k:KS)
 | bl (id:Nat) (k:KS)
 | sc (k:KS)
 | jo {J:Type} (frs:J->Fr) (stos:J->Sto) (M:J->Prop) (k:KS)
def KS.post(E:Env):KS->Post
 | .base K _=>K
 | .th y k=>yDb E y (k.post E)
 | .bl id k=>KQa id (k.post E)
 | .sc k=>yYb (k.post E)
 | .jo frs stos M k=>JoinK (k.post E) frs stos M
theorem KS.mono(E:Env):∀k:KS,Mono (k.post E)
 | .base _ h=>h
 | .th _ k=>wJb (k.mono E)
 | .bl _ k=>qQb (k.mono E)
 | .sc k=>wKb (k.mono E)
 | .jo _ _ _ k=>y8b (k.mono E)
inductive GS where
 | ops (ops:Array Oper) (l:List Oper) (fr:Fr) (σ:Sto) (k:KS)
 | code (c:Code) (fr:Fr) (σ:Sto) (k:KS)
 | at (e:Exit) (fr:Fr) (σ:Sto) (k:KS)
def GS.holds(E:Env):GS->Prop
 | .ops o l fr σ k=>AWPL E o l fr σ (k.post E)
 | .code c fr σ k=>AWP E c fr σ (k.post E)
 | .at e fr σ k=>k.post E e fr σ
def GS.step(T:Tab)(N:Nat):GS->Option GS
 | .ops o l fr σ k=>(match l with
  | []=>some (.at .normal fr σ k)
  | x::rest=>(match x.guard with
   | none=>(match opDo T N x fr σ with | some (fr',σ')=>some (.ops o rest fr' σ' k) | none=>none)
   | some (j,want)=>(match (o[j]?).bind (·.dst) with
    | none=>none
    | some d=>(match fr.get d with
     | .pv (.b (.bool t))=>(match (match t,want with | true,w=>w | false,w=> !w) with
      | true=>(match opDo T N x fr σ with | some (fr',σ')=>some (.ops o rest fr' σ' k) | none=>none)
      | false=>(match x.dst with | some d=>some (.ops o rest ((d,.tup [])::fr) σ k) | none=>some (.ops o rest fr σ k)))
     | .tup []=>(match x.dst with | some d=>some (.ops o rest ((d,.tup [])::fr) σ k) | none=>some (.ops o rest fr σ k))
     | _=>none))))
 | .code c fr σ k=>(match c with
  | .seq x y=>some (.code x fr σ (.th y k))
  | .region _ os draw=>(match draw with | false=>some (.ops os os.toList fr σ k) | true=>none)
  | .block id x=>some (.code x fr σ (.bl id k))
  | .scope x=>some (.code x fr σ (.sc k))
  | .label _=>some (.at .normal fr σ k)
  | .skip=>some (.at .normal fr σ k)
  | .ret=>some (.at .ret fr σ k)
  | .exit i=>some (.at (.exit i) fr σ k)
  | .cond v x y=>(match fr.ev v with
   | .pv (.b (.bool t))=>(match t with | true=>some (.code x fr σ k) | false=>some (.code y fr σ k))
   | _=>none)
  | _=>none)
 | .at e fr σ k=>(match k with
  | .base _ _=>none
  | .th y k=>(match e with
   | .normal=>some (.code y fr σ k)
   | .ret=>some (.at .ret fr σ k)
   | .exit i=>some (.at (.exit i) fr σ k)
   | _=>none)
  | .bl id k=>(match e with
   | .normal=>some (.at .normal fr σ k)
   | .ret=>some (.at .ret fr σ k)
   | .exit i=>(match Nat.beq i id with | true=>some (.at .normal fr σ k) | false=>some (.at (.exit i) fr σ k))
   | _=>none)
  | .sc k=>(match e with
   | .normal=>some (.at .normal fr σ k)
   | .ret=>some (.at .ret fr σ k)
   | .exit i=>some (.at (.exit i) fr σ k)
   | _=>none)
  | .jo _ _ _ k=>(match e with
   | .ret=>some (.at .ret fr σ k)
   | .exit i=>some (.at (.exit i) fr σ k)
   | _=>none))
def GS.run(T:Tab)(N:Nat):Nat->GS->Option GS
 | 0,g=>some g
 | n+1,g=>match GS.step T N g with
  | some g' =>GS.run T N n g'
  | none=>none
theorem step_ok{T:Tab}(hT:kTa E.P T){g g' :GS}(h:GS.step T E.N g=some g')(hh:g'.holds E):g.holds E:=by
 unfold GS.step at h;split at h
 .rename_i o l fr σ k;split at h
  .cases h;exact zSa hh
  rename_i x rest;split at h
  .rename_i hg;split at h
   .rename_i fr' σ' ho;cases h;exact zia hg (qPb hT ho) hh
   cases h
  rename_i j want hg;split at h
  .cases h
  rename_i d hj;split at h
  .rename_i t hv;split at h
   .rename_i hw;have ht:t=want:=by cases t <;> cases want <;> simp_all
    split at h
    .rename_i fr' σ' ho;cases h;exact kja hg hj hv ht (qPb hT ho) hh
    cases h
   rename_i hw;have ht:t= !want:=by cases t <;> cases want <;> simp_all
   split at h
   .rename_i d' hd;cases h;exact ksa hg hj hv ht (by rw[hd];exact hh)
   rename_i hd;cases h;exact ksa hg hj hv ht (by rw[hd];exact hh)
  .rename_i hv;split at h
   .rename_i d' hd;cases h;exact z8b hg hj hv (by rw[hd];exact hh)
   rename_i hd;cases h;exact z8b hg hj hv (by rw[hd];exact hh)
  cases h
 .rename_i c fr σ k;split at h
  .cases h;exact kNa hh
  .rename_i id ops draw;cases draw with
   | false=>cases h;obtain ⟨ops⟩:=ops;exact zHa hh
   | true=>cases h
  .cases h;exact ZPa hh
  .cases h;exact yZb hh
  .cases h;exact y0b hh
  .cases h;exact Kra hh
  .cases h;exact WPa hh
  .cases h;exact J1a hh
  .split at h
   .rename_i t hv;cases t with
    | true=>cases h;exact y9a hv (fun _=>hh) (fun h=>nomatch h)
    | false=>cases h;exact y9a hv (fun h=>nomatch h) (fun _=>hh)
   cases h
  cases h
 rename_i e fr σ k;split at h
 .cases h
 .split at h <;> first | (cases h;done) | (cases h;exact hh)
 .split at h
  .cases h;exact hh
  .cases h;exact hh
  .rename_i id k _ i;cases hb:Nat.beq i id with
   | true=>rw[hb]at h;cases h;have:=Nat.eq_of_beq_eq_true hb;subst this;exact K7a hh
   | false=>rw[hb]at h;cases h;exact z4b hb hh
  cases h
 .split at h <;> first | (cases h;done) | (cases h;exact hh)
 split at h <;> first | (cases h;done) | (cases h;exact hh)
theorem rn{T:Tab}(hT:kTa E.P T)(n:Nat){g g' :GS}(h:GS.run T E.N n g=some g')(hh:g'.holds E):g.holds E:=by
 induction n generalizing g with
 | zero=>simp only[GS.run,Option.some.injEq]at h;subst h;exact hh
 | succ n ih=>
  unfold GS.run at h;split at h
  .rename_i g1 h1;exact step_ok hT h1 (ih h)
  cases h
end
end
section
open Go.RowKit Go.Lib Go.Proofs.Tryz
variable {E:Env} {fr:Fr} {σ:Sto} {K:Post} {P:Program} {ρ:Operand->AV}
variable {dst:Option Tmp} {ty:TypeId} {pos:String} {af:Array Edge} {gu:Option (Nat × Bool)} {x y:Operand} {r:Nat} {l:List UInt8} {t tx e:TypeId}
theorem RelO.bufs{g:G}{v:Value}(h:RelO g r (.buf l))(hv:Rel g (.hs r 0) v):∃a e b cap vs,v=.slice (some a) l.length cap/\(0 < cap->a=⟨b,0,none⟩)/\g.loc r=.row b 0 cap 1 l.length/\g.w.heap[b]? =some (.cells vs e (cap,cap+1))/\vs.size=cap/\l.length<=cap/\g.u b=0/\∀i c,l[i]? =some c->vs.getD i undef=.int .u8 (c.toNat:Int):=by
 cases h with
 | @buf _ e b cap vs h1 h2 h3 h4 h5 h6=>
  cases hv with
  | hsNil a hl=>rw[h1]at hl;cases hl
  | @hs _ b' off' cap' size' n' a hl ha=>
   rw[h1]at hl;cases hl;exact ⟨a,e,b,cap,vs,rfl,fun hc=>by simpa using ha hc,h1,h2,h3,h4,h5,h6⟩
theorem jbb(hx:ρ x=.hs r 0)(hr:σ.get r=some (.buf l))(ht:P.underlying t=some (.slice tx)):EvQ P ⟨dst,.call ⟨.builtin .len, #[x], #[t]⟩,ty,pos,af,gu⟩ ρ σ (.i l.length):=
 ⟨fun c=>by simp,fun g ρv h hs=>by
  have h1:=h x (by simp[Op.operands,Call.operands]);rw[hx]at h1;obtain ⟨a,e,b,cap,vs,ev,_⟩:=(hs r _ hr).bufs h1;refine ⟨.int .i64 l.length,?_,.pv (.b rfl)⟩;simp[execOp,resolve,invoke,builtin,Builtin.len_,ev,go_sem,underlying,ht,goInt]⟩
section
variable {n:Int} {kk:IntKind} {v v' :UInt8} {ss sb s1 s2:Nat} {sz zero:Value}
theorem kjb(hx:ρ x=.hs r 0)(hy:ρ y=.pv (.b (.int kk n)))(hr:σ.get r=some (.buf l))(ht:TyOk P t ss sb sz (.slice e))(he:TyOk P e 1 s2 zero (.int .u8))(hv:idx l n=some v):
 EvQ P ⟨dst,.indexAddr t x y,ty,pos,af,gu⟩ ρ σ (.hp r n.toNat 0):=
 ⟨fun c=>by simp,fun g ρv h hs=>by
  obtain ⟨h1,h2⟩:=ops2 (o:=⟨dst,.indexAddr t x y,ty,pos,af,gu⟩) (x:=x) (y:=y) rfl h;rw[hx]at h1;rw[hy]at h2;have e2:=kda h2;obtain ⟨hn0,hv⟩:=wZa hv;have hlt:n.toNat < l.length:=(List.getElem?_eq_some_iff.1 hv).1;have hn2:n < l.length:=by omega
  obtain ⟨i,hi,hsz,hby,hzero⟩:=he.info;obtain ⟨a,e',b,cap,vs,ev,ha,hl,_,_,hle,_,_⟩:=(hs r _ hr).bufs h1;have ha:=ha (by omega);subst ha;refine ⟨.pointer (some ⟨b,(0+n.toNat) * 1+0,none⟩),?_,.hp hl hlt⟩;simp[execOp,Instr.indexAt,e2,ev,go_sem,asIntOf,underlying,ht.u,sizeOf,typeInfo,hi,hsz,hn0,hn2,vta]⟩
theorem RelO.bufp{g:G}{i:Nat}{vp:Value}(h:RelO g r (.buf l))(hp:Rel g (.hp r i 0) vp):∃e b cap vs,vp=.pointer (some ⟨b,i,none⟩)/\g.loc r=.row b 0 cap 1 l.length/\g.w.heap[b]? =some (.cells vs e (cap,cap+1))/\vs.size=cap/\l.length<=cap/\g.u b=0/\∀i c,l[i]? =some c->vs.getD i undef=.int .u8 (c.toNat:Int):=by
 cases h with
 | @buf _ e b cap vs h1 h2 h3 h4 h5 h6=>
  cases hp with
  | hp hl hi=>
   rw[h1]at hl;cases hl;exact ⟨e,b,cap,vs,by simp,h1,h2,h3,h4,h5,h6⟩
theorem wLb(hx:ρ x=.hp r n.toNat 0)(hr:σ.get r=some (.buf l))(ht:TyOk P t ss sb sz (.int .u8))(hv:idx l n=some v):EvQ P ⟨dst,.load t x,ty,pos,af,gu⟩ ρ σ (.pv (pU v)):=
 ⟨fun c=>by simp,fun g ρv h hs=>by
  have h1:=h x (by simp[Op.operands]);rw[hx]at h1;obtain ⟨hn0,hv⟩:=wZa hv;obtain ⟨e,b,cap,vs,e1,e2,e3,e4,e5,e6,e7⟩:=(hs r _ hr).bufp h1;have hlt:=(List.getElem?_eq_some_iff.1 hv).1;refine ⟨_,wFa e1 (w5a ht rfl (kVa e3 (by omega))),?_⟩;rw[e7 _ _ hv];exact .pv (.b rfl)⟩
theorem ev_buf2s(hx:ρ x=.hs r 0)(hr:σ.get r=some (.buf l))(ht:TyOk P t ss sb sz (.slice e))(he:TyOk P e s1 s2 zero (.int .u8)){ss' sb' :Nat}{sz' :Value}(htx:TyOk P tx ss' sb' sz' .string):
 EvQ P ⟨dst,.convert t tx x,ty,pos,af,gu⟩ ρ σ (.s l):=
 ⟨fun c=>by simp,fun g ρv hh hs=>by
  have h1:=hh x (by simp[Op.operands]);rw[hx]at h1;obtain ⟨a,e',b,cap,vs,ev,ha,hl,hb,hcap,hle,_,hc⟩:=(hs r _ hr).bufs h1;refine ⟨.string (strB l),?_,.pv (.b rfl)⟩;show Sem.run P (do let v <-convert t tx (ρv x);pure (Next.value v)) g.w=_
  suffices hs:Sem.run P (convert t tx (ρv x)) g.w=.ok (.string (strB l)) g.w by rw[Sem.run_bind,hs];rfl
  rw[ev,run_convert_bytes_string g.w t tx e _ _ _ ht.u he.u htx.u];have hload:=run_loadCells_list (P:=P) g.w a (l.map fun c=>Value.int .u8 (c.toNat:Int)) (fun i w hi=>by
   simp only[List.getElem?_map,Option.map_eq_some_iff]at hi;obtain ⟨c,hc1,rfl⟩:=hi;have hlt:=(List.getElem?_eq_some_iff.1 hc1).1;rw[ha (by omega),vta,Nat.zero_add,kVa hb (by omega),hc i c hc1])
  rw[List.length_map]at hload;have hr:=run_bytesToString (P:=P) g.w a l.length cap (l.map fun c=>(c.toNat:Int)) (by rw[hload,List.map_map];rfl);rw[hr,foldl_push_bytes];simp[strB,Function.comp_def]⟩
theorem zjb(hx:fr.ev x=.hp r n.toNat 0)(hr:σ.get r=some (.buf l))(hy:(fr.ev y).weak=.pv (pU v'))(ht:TyOk E.P t 1 s2 zero (.int .u8))(hv:idx l n=some v):
 OpTo E ⟨none,.store t x y,ty,pos,af,gu⟩ fr σ fr (σ.upd r (.buf (l.set n.toNat v'))):=
 ⟨fun g a K Q hst hK=>by
  refine ⟨fun _ _=>trivial,?_⟩;rw[Oper.semAt_plain _ _ _ (fun c=>by simp)];have h1:=hst.ev x;rw[hx]at h1;obtain ⟨hn0,hv⟩:=wZa hv;obtain ⟨e,b,cap,cur,e1,e2,e3,e4,e5,e6,e7⟩:=(hst.so.obj r _ hr).bufp h1;have hlt:=(List.getElem?_eq_some_iff.1 hv).1;have hvy:a.eval y=.int .u8 (v'.toNat:Int):=by
   have h2:=q3a (hst.ev y);rw[hy]at h2;exact kda h2
  have hcell:g.w.cell? ⟨b,n.toNat,none⟩=some (cur.getD n.toNat undef):=kVa e3 (by omega);have hfro:g.w.frozen? ⟨b,n.toNat,none⟩=false:=by
   simp only[World.frozen?,e3,Bool.and_eq_false_iff,decide_eq_false_iff_not];left;omega
  have hst1:(store ((⟨b,n.toNat,none⟩:Addr).add 0) (.int .u8 (v'.toNat:Int))).run E.P g.w=.ok () (g.w.setRow b (cur.setIfInBounds n.toNat (.int .u8 (v'.toNat:Int)))):=by
   rw[vta,Nat.add_zero,run_store E.P g.w _ _ _ rfl,hcell];simp[hfro,setCell_eq_setRow g.w b n.toNat cur e (cap,cap+1) _ e3]
  have hrun:(execOp a.eval ⟨none,.store t x y,ty,pos,af,gu⟩).run E.P g.w=.ok .skip (g.w.setRow b (cur.setIfInBounds n.toNat (.int .u8 (v'.toNat:Int)))):=by
   show Sem.run E.P (do Instr.storeAt t (a.eval x) (a.eval y);pure Next.skip) g.w=_;rw[e1,hvy];simp only[Instr.storeAt,Instr.sureAddr,storeVar,Sem.run_bind,Sem.run_pure,Result.andThen_ok,ht.sizeOf];rw[if_neg (by simp[Value.cells])];simp only[Value.cells,Sem.run_bind,Sem.run_pure,Result.andThen_ok,storeCells,hst1]
  rw[hrun,Oper.uponIn_skip];generalize hnew:cur.setIfInBounds n.toNat (.int .u8 (v'.toNat:Int))=new;have hnsz:new.size=cur.size:=by rw[<-hnew];simp
  have hheap:∀k,k≠b->(g.w.setRow b new).heap[k]? =g.w.heap[k]? :=fun k hk=>by
   simp only[World.setRow,Array.getElem?_modify];rw[if_neg (Ne.symm hk)]
  have hnewb:=setRow_heap g.w b cur new e _ e3;have hsz:(g.w.setRow b new).heap.size=g.w.heap.size:=by simp[World.setRow]
  have hxx:Ext g.w g.u (g.w.setRow b new) g.u:=⟨Nat.le_of_eq hsz.symm,fun _ _=>Nat.le_refl _,fun k i hk hi=>by
   by_cases hkb:k=b
   .subst hkb;omega
   simp only[World.cell?];rw[hheap k hkb],fun r' hr' =>(hheap r' (by rintro rfl;rw[e3]at hr';cases hr')).trans hr'⟩
  refine hK ⟨g.w.setRow b new,g.u,g.loc⟩ _ (St.put_none (hst.objset hr hxx rfl rfl rfl rfl (fun k hk hne=>⟨hheap k (by rintro rfl;exact hne (by rw[e2];rfl)),rfl⟩) (Vpa hst.so.wf (Nat.le_of_eq hsz.symm) _) ?_ (fun _=>rfl)));refine .buf (by rw[List.length_set];exact e2) hnewb (by rw[hnsz,e4]) (by simpa using e5) e6 fun i c hi=>?_
  rw[<-hnew,Array.getD_eq_getD_getElem?,Array.getElem?_setIfInBounds];by_cases hin:n.toNat=i
  .subst hin;rw[List.getElem?_set_self hlt]at hi;cases hi;rw[if_pos rfl,if_pos (by omega)];rfl
  rw[if_neg hin];rw[List.getElem?_set_ne hin]at hi;have:=e7 i c hi;rw[Array.getD_eq_getD_getElem?]at this;exact this⟩
end
theorem wMb{k:Nat}{t t' e:TypeId}{x:Operand}{s:Str}{ss sb ss' sb' s1 s2:Nat}{sz sz' z:Value}(r:Nat)(hN:Nat.ble (k+1) E.N=true)(hfr:fr.has r=false)(hsr:σ.has r=false)(hx:fr.ev x=.s s)(ht:TyOk E.P t ss sb sz .string)(ht' :TyOk E.P t' ss' sb' sz' (.slice e))(he:TyOk E.P e s1 s2 z (.int .u8)):
 OpTo E ⟨some k,.convert t t' x,ty,pos,af,gu⟩ fr σ ((k,.hs r 0)::fr) ((r,.buf s)::σ):=
 ⟨fun g a K Q hst hK=>by
  refine ⟨fun _ _=>trivial,?_⟩;rw[Oper.semAt_plain _ _ _ (fun c=>by simp)];have h1:=hst.ev x;rw[hx]at h1;have e1:=kda h1;generalize hcap:(Question.appendCap s.length 0 e).cut (g.w.tape g.w.drawn (.appendCap s.length 0 e))=cap;have hge:s.length<=cap:=by rw[<-hcap];simp[Question.cut]
  generalize hcells:((strB s).data.map (fun b=>Value.int .u8 (b.toNat:Int))++Array.replicate (cap - s.length) (Value.int .u8 0))=cells;have hsz:cells.size=cap:=by rw[<-hcells];simp[strB];omega
  have hget:∀i c,s[i]? =some c->cells.getD i undef=.int .u8 (c.toNat:Int):=by
   intro i c hi;have hlt:=(List.getElem?_eq_some_iff.1 hi).1;rw[<-hcells,Array.getD_eq_getD_getElem?,Array.getElem?_append_left (by simpa[strB]using hlt)];simp[strB,hi]
  have hrun:(execOp a.eval ⟨some k,.convert t t' x,ty,pos,af,gu⟩).run E.P g.w=.ok (.value (.slice (some ⟨g.w.heap.size,0,none⟩) s.length cap)) ((g.w.drew.alloc (.cells cells e)).freeze ⟨g.w.heap.size,cap,none⟩ 1):=by
   show Sem.run E.P (do let v <-convert t t' (a.eval x);pure (Next.value v)) g.w=_;rw[e1];have hsh:(g.w.drew.alloc (.cells cells e)).shape? g.w.heap.size=some (e,cap):=by
    simp only[World.shape?];rw[show (g.w.drew.alloc (.cells cells e)).heap[g.w.heap.size]? =some (.cells cells e (0,0)) from heap_alloc_new g.w.drew _];simp[hsz]
   simp only[convert,underlying,program,Sem.run_bind,Sem.run,ht.u,ht'.u,he.u,Result.andThen_ok,Sem.run_pure,Conv.stringToBytes,choose,Question.forced,Bool.false_eq_true,if_false,zKa,hcap,hcells,newRow,newObj,markStringish,shape,freeze];show Result.andThen (Result.andThen (Sem.run E.P (match (g.w.drew.alloc (.cells cells e)).shape? g.w.heap.size with | some (_,n)=>Sem.freeze ⟨g.w.heap.size,n,none⟩ 1 (Sem.pure ()) | _=>pure ()) (g.w.drew.alloc (.cells cells e))) fun _ w' =>.ok (Value.slice (some ⟨g.w.heap.size,0,none⟩) s.length cap) w') (fun v w' =>.ok (Next.value v) w')=_;rw[hsh];rfl
  rw[hrun,Oper.uponIn_value];generalize hw:(g.w.drew.alloc (.cells cells e)).freeze ⟨g.w.heap.size,cap,none⟩ 1=w';have hblk:w'.heap[g.w.heap.size]? =some (.cells cells e (cap,cap+1)):=by
   subst hw;simp only[World.freeze,Nat.one_ne_zero,if_false,Array.getElem?_modify,if_true];rw[show (g.w.drew.alloc (.cells cells e)).heap[g.w.heap.size]? =some (.cells cells e (0,0)) from heap_alloc_new g.w.drew _];rfl
  have hother:∀q,q < g.w.heap.size->w'.heap[q]? =g.w.heap[q]? :=by
   intro q hq;subst hw;simp only[World.freeze,Nat.one_ne_zero,if_false,Array.getElem?_modify];rw[if_neg (by omega)];exact Below.heap_alloc g.w.drew _ _ hq
  have hws:w'.heap.size=g.w.heap.size+1:=by subst hw;simp[World.freeze]
  have hold:Old (fun _=>False) g ⟨w',fun q=>if q=g.w.heap.size then 0 else g.u q,fun q=>if q=r then .row g.w.heap.size 0 cap 1 s.length else g.loc q⟩:=by
   refine ⟨by subst hw;first | (simp[World.freeze];done) | (simp[World.freeze];rfl),by subst hw;first | (simp[World.freeze];done) | (simp[World.freeze];rfl),by subst hw;first | (simp[World.freeze];done) | (simp[World.freeze];rfl),⟨by show _<=w'.heap.size;omega,fun q hq=>?_,fun q i hq hi=>?_,?_⟩,fun q hq _=>⟨hother q hq,if_neg (by omega)⟩⟩
   .show g.u q<=if q=g.w.heap.size then 0 else g.u q;rw[if_neg (by omega)];exact Nat.le_refl _
   .simp only[World.cell?];rw[hother q hq]
   intro r' hr';exact (hother r' (z6a hr')).trans hr'
  have hwf:Wf ⟨w',fun q=>if q=g.w.heap.size then 0 else g.u q,fun q=>if q=r then .row g.w.heap.size 0 cap 1 s.length else g.loc q⟩:=by
   intro q hq;have hq:g.w.heap.size+1<=q:=by rw[<-hws];exact hq
   show (if q=g.w.heap.size then 0 else g.u q)=0;rw[if_neg (by omega)];exact hst.so.wf q (by omega)
  have hst' :=hst.addObj r (ob:=.buf s) hfr hsr hold hwf (fun q hq=>if_neg hq) (.buf (if_pos rfl) hblk hsz hge (if_pos rfl) hget) (fun b hb=>by
   simp only[AO.blk,if_true,Loc.block]at hb;cases hb;exact Nat.le_refl _)
  exact hK _ _ (hst'.put (Nat.le_of_ble_eq_true hN) (.hs (if_pos rfl) (fun _=>by simp)))⟩
end
section
open Go.RowKit Go.Lib Go.Proofs.Tryz
variable {E:Env} {fr:Fr} {σ:Sto} {K:Post} {P:Program} {ρ:Operand->AV}
variable {dst:Option Tmp} {ty:TypeId} {pos:String} {af:Array Edge} {gu:Option (Nat × Bool)}
section
variable {α:Type} {F:α->List PV} {r' :List α} {r size bytes sb ss s1 b1 k lim:Nat} {e t tn:TypeId} {zero sz z1:Value} {d d1:TypeDesc} {x y:Operand} {n:Int} {kn:IntKind} {z:α}
end
end
section
open Go.RowKit Go.Lib Go.Proofs.Tryz
variable {E:Env} {fr:Fr} {σ:Sto} {K:Post}
end
section
mutual
def AV.strong:AV->Bool
 | .pv (.sl (some _) _)=>true
 | .agg cs=>AV.strongL cs
 | .tup cs=>AV.strongL cs
 | _=>false
def AV.strongL:List AV->Bool
 | []=>false
 | c::cs=>c.strong || AV.strongL cs
end
def Fr.sel(fr:Fr)(p:Nat × AV):Nat × AV:=(p.1,bif p.2.strong then fr.get p.1 else (fr.get p.1).weak)
theorem frw{fr:Fr}:∀{fr' :Fr},fr'.map fr.sel=fr' ->FrLe fr fr'
 | [],_=>zBa
 | (k,a)::r,h=>by
  simp only[List.map_cons,List.cons.injEq]at h;obtain ⟨h1,h2⟩:=h;have h3:(bif a.strong then fr.get k else (fr.get k).weak)=a:=congrArg Prod.snd h1;cases hs:a.strong with
  | true=>rw[hs]at h3;exact zfa h3 (frw h2)
  | false=>rw[hs]at h3;exact yEb h3 (frw h2)
def Sto.sel(σ:Sto)(p:Nat × AO):Option AO:=match p.2 with
 | .cells cs=>bif AV.strongL cs then σ.get p.1 else (match σ.get p.1 with
  | some (.cells ds)=>some (.cells (AV.weakL ds))
  | _=>none)
 | _=>σ.get p.1
theorem stw{σ:Sto}:∀{σ' :Sto},σ'.map σ.sel=σ'.map (fun p=>some p.2)->k8a σ σ'
 | [],_=>zga
 | (k,a)::r,h=>by
  simp only[List.map_cons,List.cons.injEq]at h;obtain ⟨h1,h2⟩:=h;unfold Sto.sel at h1;split at h1
  .rename_i cs hc;dsimp only at hc;subst hc;cases hs:AV.strongL cs with
   | true=>rw[hs]at h1;exact zba h1 (stw h2)
   | false=>
    rw[hs]at h1;simp only[cond_false]at h1;split at h1
    .rename_i ds hd;simp only[Option.some.injEq,AO.cells.injEq]at h1;exact Jfa hd h1 (stw h2)
    cases h1
  exact zba h1 (stw h2)
theorem kpw{fr:Fr}:∀{l:Fr},l.map (fun p=>fr.get p.1)=l.map (·.2)->Keep fr l
 | [],_=>.nil
 | (k,a)::r,h=>by
  simp only[List.map_cons,List.cons.injEq]at h;exact .cons h.1 (kpw h.2)
theorem hdw{σ:Sto}{base:Nat}{T:Array Value}:∀{l:Fr},l.map (fun p=>σ.get (base+p.1))=l.map (fun p=>some (.hold p.2 (T.getD p.1 undef)))->Held σ base T l
 | [],_=>.nil
 | (k,a)::r,h=>by
  simp only[List.map_cons,List.cons.injEq]at h;exact .cons h.1 (hdw h.2)
section
variable {E:Env} {fr:Fr} {σ:Sto} {k:KS} {ops:Array Oper} {l:List Oper} {R:Type} {r:R} {A B:Option R} {t:Bool}
theorem hO(h:(GS.ops ops l fr σ k).holds E):AWPL E ops l fr σ (k.post E):=h
theorem hC{c:Code}(h:(GS.code c fr σ k).holds E):AWP E c fr σ (k.post E):=h
theorem hB{K:Post}{c:Code}(hK:Mono K)(h:(GS.code c fr σ (.base K hK)).holds E):AWP E c fr σ K:=h
theorem hA{e:Exit}(h:(GS.at e fr σ k).holds E):k.post E e fr σ:=h
theorem St.relit{g:G}{a:Act}(h:St E g a fr σ){d:Nat}(hd:fr.get d=.pv (.b (.bool t))):St E g a ((d,.pv (.b (.bool t)))::fr) σ:=h.reslot (by rw[<-hd];exact h.fr d)
theorem kn(d:Nat){b:Bool}(hc:t=b)(hd:fr.get d=.pv (.b (.bool t)))(h:(GS.ops ops l ((d,.pv (.b (.bool b)))::fr) σ k).holds E):(GS.ops ops l fr σ k).holds E:=by
 subst hc;exact ⟨fun g a hs=>h.go g a (hs.relit hd)⟩
theorem bs(d:Nat)(hr:(bif t then A else B)=some r)(hd:fr.get d=.pv (.b (.bool t)))(hT:t=true->A=some r->(GS.ops ops l ((d,.pv (.b (.bool true)))::fr) σ k).holds E)(hF:t=false->B=some r->(GS.ops ops l ((d,.pv (.b (.bool false)))::fr) σ k).holds E):(GS.ops ops l fr σ k).holds E:=by
 cases t with
 | true=>exact kn d rfl hd (hT rfl hr)
 | false=>exact kn d rfl hd (hF rfl hr)
theorem ac(d:Nat){x y:Code}(hr:(bif t then A else B)=some r)(hd:fr.get d=.pv (.b (.bool t)))(hT:t=true->A=some r->(GS.code x ((d,.pv (.b (.bool true)))::fr) σ k).holds E)(hF:t=false->B=some r->(GS.code y ((d,.pv (.b (.bool false)))::fr) σ k).holds E):(GS.code (.cond (.tmp d) x y) fr σ k).holds E:=
 y9a (t:=t) hd (fun h=>by subst h;exact ⟨fun g a hs=>(hT rfl hr).go g a (hs.relit hd)⟩) (fun h=>by subst h;exact ⟨fun g a hs=>(hF rfl hr).go g a (hs.relit hd)⟩)
theorem jb{J:Type}{X:Option J}{f:J->Option R}{x y:Code}(hr:X.bind f=some r)(frs:J->Fr)(stos:J->Sto)(hx:∀j,X=some j->(GS.code x fr σ (.jo frs stos (fun z=>j=z) k)).holds E)(hy:∀j,f j=some r->(GS.code y (frs j) (stos j) k).holds E):(GS.code (.seq x y) fr σ k).holds E:=by
 obtain ⟨j,h1,h2⟩:=zaa hr;exact jaa frs stos (fun z=>j=z) (hx j h1) (fun _ hz=>hz▸hy j h2)
theorem jk{J:Type}{x y:Code}(frs:J->Fr)(stos:J->Sto)(M:J->Prop)(hx:(GS.code x fr σ (.jo frs stos M k)).holds E)(hy:∀j,M j->(GS.code y (frs j) (stos j) k).holds E):(GS.code (.seq x y) fr σ k).holds E:=
 jaa frs stos M hx hy
theorem jn{J:Type}{frs:J->Fr}{stos:J->Sto}{M:J->Prop}(j:J)(hm:M j)(hf:(frs j).map fr.sel=frs j)(hs:(stos j).map σ.sel=(stos j).map (fun p=>some p.2)):(GS.at .normal fr σ (.jo frs stos M k)).holds E:=⟨j,hm,frw hf,stw hs⟩
theorem ct{J:Type}{X:Option J}{f:J->Option R}{o:Oper}(hr:X.bind f=some r)(frs:J->Fr)(stos:J->Sto)
 (hx:∀j,X=some j->(∀fr' σ',(frs j).map fr'.sel=frs j->(stos j).map σ'.sel=(stos j).map (fun p=>some p.2)->AWPL E ops l fr' σ' (k.post E))->(GS.ops ops (o::l) fr σ k).holds E) (hy:∀j,f j=some r->(GS.ops ops l (frs j) (stos j) k).holds E):(GS.ops ops (o::l) fr σ k).holds E:=by
 obtain ⟨j,h1,h2⟩:=zaa hr;exact hx j h1 (fun fr' σ' hf hs=>awpl_le (frw hf) (stw hs) (hy j h2))
def isN:Exit->Bool
 | .normal=>true
 | _=>false
theorem al{A B:Type}{c:Code}{body:A->Option (Step A B)}{s:A}{f:B->Option R}(hr:(iter body s).bind f=some r)(frs:A->Fr)(stos:A->Sto)(e0:B->Exit)(fr0:B->Fr)(σ0:B->Sto)(hf:(frs s).map fr.sel=frs s)(hs:(stos s).map σ.sel=(stos s).map (fun p=>some p.2))
 (h:∀s x,body s=some x->(GS.code c (frs s) (stos s) (.base (QLa frs stos (fun b=>At (e0 b) (fr0 b) (σ0 b)) x) Vwa)).holds E)
 (hK:∀b,f b=some r->(GS.at (e0 b) (fr0 b) (σ0 b) k).holds E):(GS.code (.loop c) fr σ k).holds E:=by
 obtain ⟨b,h1,h2⟩:=zaa hr;exact J3a body frs stos (fun b=>At (e0 b) (fr0 b) (σ0 b)) (fun s x hx=>h s x hx) s h1 (frw hf) (stw hs) (fun e fr σ ⟨he,hf,hs⟩=>by
  subst he;exact k.mono E _ _ _ _ _ hf hs (hK b h2))
theorem al1{A B:Type}{c:Code}{body:A->Option (Step A B)}{s:A}{f:B->Option R}(hr:(iter body s).bind f=some r)(frs:A->Fr)(stos:A->Sto)(e0:Exit)(fr0:B->Fr)(σ0:B->Sto)(hf:(frs s).map fr.sel=frs s)(hs:(stos s).map σ.sel=(stos s).map (fun p=>some p.2))
 (h:∀s x,body s=some x->(GS.code c (frs s) (stos s) (.base (QLa frs stos (fun b=>At ((fun _=>e0) b) (fr0 b) (σ0 b)) x) Vwa)).holds E)
 (hK:∀b,f b=some r->(GS.at e0 (fr0 b) (σ0 b) k).holds E):(GS.code (.loop c) fr σ k).holds E:=al hr frs stos (fun _=>e0) fr0 σ0 hf hs h hK
theorem al2{A B C:Type}{c:Code}{body:A->Option (Step A (B ⊕ C))}{s:A}{f:B->Option R}{g:C->Option R}(hr:(iter body s).bind (Sum.elim f g)=some r)(frs:A->Fr)(stos:A->Sto)(e1:Exit)(fr1:B->Fr)(σ1:B->Sto)(e2:Exit)(fr2:C->Fr)(σ2:C->Sto)(hf:(frs s).map fr.sel=frs s)(hs:(stos s).map σ.sel=(stos s).map (fun p=>some p.2))
 (h:∀s x,body s=some x->(GS.code c (frs s) (stos s) (.base (QLa frs stos (fun b=>At (Sum.elim (fun _=>e1) (fun _=>e2) b) (Sum.elim fr1 fr2 b) (Sum.elim σ1 σ2 b)) x) Vwa)).holds E)
 (hK1:∀b,f b=some r->(GS.at e1 (fr1 b) (σ1 b) k).holds E) (hK2:∀b,g b=some r->(GS.at e2 (fr2 b) (σ2 b) k).holds E):(GS.code (.loop c) fr σ k).holds E:=
 al hr frs stos _ _ _ hf hs h (fun b hb=>by cases b with | inl b=>exact hK1 b hb | inr b=>exact hK2 b hb)
theorem atc{A B:Type}{frs:A->Fr}{stos:A->Sto}{e0:B->Exit}{fr0:B->Fr}{σ0:B->Sto}{s:A}{hm:Mono (QLa frs stos (fun b=>At (e0 b) (fr0 b) (σ0 b)) (.cont s))}(hf:(frs s).map fr.sel=frs s)(hs:(stos s).map σ.sel=(stos s).map (fun p=>some p.2)):(GS.at .normal fr σ (.base (QLa frs stos (fun b=>At (e0 b) (fr0 b) (σ0 b)) (.cont s)) hm)).holds E:=⟨rfl,frw hf,stw hs⟩
theorem ato{A B:Type}{e:Exit}{frs:A->Fr}{stos:A->Sto}{e0:B->Exit}{fr0:B->Fr}{σ0:B->Sto}{b:B}{hm:Mono (QLa frs stos (fun b=>At (e0 b) (fr0 b) (σ0 b)) (.out b))}(he:e=e0 b)(hn:isN e=false)(hf:(fr0 b).map fr.sel=fr0 b)(hs:(σ0 b).map σ.sel=(σ0 b).map (fun p=>some p.2)):(GS.at e fr σ (.base (QLa frs stos (fun b=>At (e0 b) (fr0 b) (σ0 b)) (.out b)) hm)).holds E:=
 ⟨fun h=>(by rw[h]at hn;cases hn),he,frw hf,stw hs⟩
def WZa(T:Tab)(fr:Fr)(σ:Sto):List ResultVar->Option (List AV)
 | []=>some []
 | .tmp t::r=>(match (fr.get t).force,WZa T fr σ r with | some c,some cs=>some (c::cs) | _,_=>none)
 | .cell a t::r=>(match fr.get a,T.get t with
  | .ptr o 0,some row=>(match σ.get o with
   | some (.cells ds)=>bif dAgg row.desc then (bif Nat.ble row.size ds.length then (match jca (ds.take row.size),WZa T fr σ r with | some l,some cs=>some (.agg l::cs) | _,_=>none) else none)
    else (match ds[0]?,WZa T fr σ r with | some c,some cs=>some (c::cs) | _,_=>none)
   | _=>none)
  | _,_=>none)
theorem Zfa{P:Program}{T:Tab}(hT:kTa P T):∀{l:List ResultVar} {cs:List AV},WZa T fr σ l=some cs->ResL P fr σ l cs
 | [],_,h=>by simp[WZa]at h;subst h;exact .nil
 | .tmp t::l,_,h=>by
  unfold WZa at h;split at h
  .rename_i h1 h2;cases h;exact .cons (Voa (AV.force_eq h1)) (Zfa hT h2)
  cases h
 | .cell a t::l,_,h=>by
  unfold WZa at h;split at h
  .rename_i o row ha hr;have ht:=(hT _ _ hr).ty;split at h
   .rename_i ds ho;cases hd:dAgg row.desc with
    | true=>
     rw[hd]at h;simp only[cond_true]at h;cases hn:Nat.ble row.size ds.length with
     | false=>rw[hn]at h;cases h
     | true=>
      rw[hn]at h;simp only[cond_true]at h;split at h
      .rename_i h1 h2;cases h;rw[<-vba h1];exact .cons (yKb ha ho ht hd hn) (Zfa hT h2)
      cases h
    | false=>
     rw[hd]at h;simp only[cond_false]at h;split at h
     .rename_i h1 h2;cases h;exact .cons (res_cell ha ho ht hd h1) (Zfa hT h2)
     cases h
   cases h
  cases h
theorem kr{P:Program}{T:Tab}(hT:kTa P T){e:Exit}{fn:Func}{cs:List AV}{r:AV}{hm:Mono (Kret P fn r)}(he:isN e=true∨e=.ret)(h:WZa T fr σ fn.results.toList=some cs)(hr:Wia cs=r):(GS.at e fr σ (.base (Kret P fn r) hm)).holds E:=
 ⟨by cases e <;> simp_all [isN],cs,Zfa hT h,hr⟩
theorem rf{P:Program}{f:FuncId}{fn:Func}{c:Code}(hok:FnOk P f fn c){args:List AV}{r:AV}(hN:Nat.ble args.length fn.ntmps=true)(hr:∀k,r.has k=false)
 (h:∀g0 (hg:Gl g0),(GS.code c (qra 0 args) [] (.base (Kret P fn r) jab)).holds ⟨P,none,g0,fn.ntmps,false,hg,fun _=>False,fun _ _ h=>h⟩):Run P f args r:=Ksa hok hN hr h
end
section
variable {E:Env} {fr:Fr} {σ:Sto} {k:KS} {ops:Array Oper} {rest:List Oper} {ty:TypeId} {pos:String} {af:Array Edge} {x y z:Operand} {t t' t2 e:TypeId}
variable {α:Type} {F:α->List PV} {l xs r' v:List α} {nl:Option Bool} {k1 k2:IntKind} {d r lim size:Nat} {n p q:Int} {mu:Bool} {b2:Nat} {z1 z2:Value} {td:TypeDesc} {T:Tab} {c:AV}
theorem ug{dst:Option Tmp}{op:Op}{j d:Nat}{want b:Bool}(hj:(ops[j]?).bind (·.dst)=some d)(hv:fr.get d=.pv (.b (.bool b)))(ht:b=want)
 (h:(GS.ops ops (⟨dst,op,ty,pos,af,none⟩::rest) fr σ k).holds E):(GS.ops ops (⟨dst,op,ty,pos,af,some (j,want)⟩::rest) fr σ k).holds E:=
 ⟨fun g a hs=>by
  have hy:=jKa hs hj hv;have hw:Region.wanted ⟨dst,op,ty,pos,af,some (j,want)⟩ (yielded ops a.tmps)=true:=by simp[Region.wanted,hy,ht]
  have h0:=h.go g a hs;have hw0:Region.wanted ⟨dst,op,ty,pos,af,none⟩ (yielded ops a.tmps)=true:=by simp[Region.wanted]
  simp only[wpListIn,hw,hw0,if_true]at h0 ⊢;exact h0⟩
theorem wo{o:Oper}{fr' :Fr}{σ' :Sto}(ho:OpTo E o fr σ fr' σ')(hg:o.guard=none)(h:(GS.ops ops rest fr' σ' k).holds E):(GS.ops ops (o::rest) fr σ k).holds E:=zia hg ho h
theorem wq{o:Oper}(h:EvQ E.P o fr.ev σ c)(hg:o.guard=none)(hd:o.dst=some d)(hN:Nat.ble (d+1) E.N=true)(hq:(GS.ops ops rest ((d,c)::fr) σ k).holds E):(GS.ops ops (o::rest) fr σ k).holds E:=zia hg (zla hd hN h) hq
theorem cl{f:FuncId}{d:Nat}{xs:List Operand}{ats:Array TypeId}{args:List AV}{r:AV}(hr:Run E.P f args r)(hN:Nat.ble (d+1) E.N=true)(ha:xs.map (fun x=>(fr.ev x).weak)=args)(h:(GS.ops ops rest ((d,r)::fr) σ k).holds E):
 (GS.ops ops (⟨some d,.call ⟨.value (.func f),xs.toArray,ats⟩,ty,pos,af,none⟩::rest) fr σ k).holds E:=zia rfl (WSa hr hN ha) h
def Tab.sl(T:Tab)(t:TypeId):Option (TypeId × YXa):=match T.get t with
 | some ⟨_,_,_,.slice e,_⟩=>(match T.get e with | some r=>some (e,r) | none=>none)
 | _=>none
theorem Tab.sl_ok{P:Program}(hT:kTa P T){row:YXa}(h:T.sl t=some (e,row)):(∃ss sb sz,TyOk P t ss sb sz (.slice e))/\TyOk P e row.size row.bytes row.zero row.desc:=by
 unfold Tab.sl at h;split at h
 .rename_i h1;split at h
  .rename_i h2;cases h;exact ⟨⟨_,_,_,(hT _ _ h1).ty⟩,(hT _ _ h2).ty⟩
  cases h
 cases h
def Tab.st(T:Tab)(t:TypeId):Bool:=match T.get t with
 | some ⟨_,_,_,.string,_⟩=>true
 | _=>false
theorem Tab.st_ok{P:Program}(hT:kTa P T)(h:T.st t=true):∃ss sb sz,TyOk P t ss sb sz .string:=by
 unfold Tab.st at h;split at h
 .rename_i h1;exact ⟨_,_,_,(hT _ _ h1).ty⟩
 cases h
variable {row:YXa}
theorem wi{a:α}(hT:kTa E.P T)(hi:idx l n=some a)(hs:T.sl t=some (e,row))(hx:fr.ev x=.pv (.sl nl (l.map F)))(hy:fr.ev y=.pv (.b (.int k1 n)))(hz:(F a).length=row.size)(hN:Nat.ble (d+1) E.N=true)(hq:(GS.ops ops rest ((d,.ep (F a))::fr) σ k).holds E):
 (GS.ops ops (⟨some d,.indexAddr t x y,ty,pos,af,none⟩::rest) fr σ k).holds E:=by
 obtain ⟨⟨_,_,_,h1⟩,h2⟩:=Tab.sl_ok hT hs;exact zia rfl (zla rfl hN (wEa hx hy h1 h2 hz hi)) hq
theorem wih{a:α}(hT:kTa E.P T)(hi:idx l n=some a)(hs:T.sl t=some (e,row))(hx:fr.ev x=.hs r 0)(hy:fr.ev y=.pv (.b (.int k1 n)))(hr:σ.get r=some (.row e mu row.size (l.map F)))(hN:Nat.ble (d+1) E.N=true)(hq:(GS.ops ops rest ((d,.hp r n.toNat 0)::fr) σ k).holds E):
 (GS.ops ops (⟨some d,.indexAddr t x y,ty,pos,af,none⟩::rest) fr σ k).holds E:=by
 obtain ⟨⟨_,_,_,h1⟩,h2⟩:=Tab.sl_ok hT hs;exact zia rfl (zla rfl hN (yVb hx hy hr h1 h2 hi)) hq
theorem ws{s:Str}{b:UInt8}(hT:kTa E.P T)(hi:idx s n=some b)(hs:T.st t=true)(hx:(fr.ev x).str? =some s)(hy:fr.ev y=.pv (.b (.int k1 n)))(hN:Nat.ble (d+1) E.N=true)(hq:(GS.ops ops rest ((d,.u8 b)::fr) σ k).holds E):
 (GS.ops ops (⟨some d,.index t x y,ty,pos,af,none⟩::rest) fr σ k).holds E:=by
 obtain ⟨_,_,_,h1⟩:=Tab.st_ok hT hs;exact zia rfl (zla rfl hN (K8a (AV.str?_eq hx) hy h1 hi)) hq
theorem wc{a b s:Str}(hi:cat a b=some s)(hx:(fr.ev x).str? =some a)(hy:(fr.ev y).str? =some b)(hN:Nat.ble (d+1) E.N=true)(hq:(GS.ops ops rest ((d,.s s)::fr) σ k).holds E):
 (GS.ops ops (⟨some d,.binOp .add t x y t',ty,pos,af,none⟩::rest) fr σ k).holds E:=zia rfl (zla rfl hN (QNa (AV.str?_eq hx) (AV.str?_eq hy) hi)) hq
theorem wn(hT:kTa E.P T)(hs:T.sl t=some (e,row))(hx:fr.ev x=.pv (.sl nl (l.map F)))(hN:Nat.ble (d+1) E.N=true)(hq:(GS.ops ops rest ((d,.i l.length)::fr) σ k).holds E):
 (GS.ops ops (⟨some d,.call ⟨.builtin .len, #[x], #[t]⟩,ty,pos,af,none⟩::rest) fr σ k).holds E:=by
 obtain ⟨⟨_,_,_,h1⟩,h2⟩:=Tab.sl_ok hT hs;exact zia rfl (zla rfl hN (jva hx h1.u)) hq
theorem wnh(hT:kTa E.P T)(hs:T.sl t=some (e,row))(hx:fr.ev x=.hs r 0)(hr:σ.get r=some (.row e mu size (l.map F)))(hN:Nat.ble (d+1) E.N=true)(hq:(GS.ops ops rest ((d,.i l.length)::fr) σ k).holds E):
 (GS.ops ops (⟨some d,.call ⟨.builtin .len, #[x], #[t]⟩,ty,pos,af,none⟩::rest) fr σ k).holds E:=by
 obtain ⟨⟨_,_,_,h1⟩,h2⟩:=Tab.sl_ok hT hs;exact zia rfl (zla rfl hN (J7a hx hr h1.u)) hq
def Tab.ub(T:Tab)(t t' :TypeId):Bool:=match T.get t,T.get t' with
 | some ⟨_,_,_,.int .u8,_⟩,some ⟨_,_,_,.int .i64,_⟩=>true
 | _,_=>false
theorem wu{b:UInt8}(hT:kTa E.P T)(hs:T.ub t t' =true)(hx:fr.ev x=.u8 b)(hN:Nat.ble (d+1) E.N=true)(hq:(GS.ops ops rest ((d,.i b.toNat)::fr) σ k).holds E):
 (GS.ops ops (⟨some d,.convert t t' x,ty,pos,af,none⟩::rest) fr σ k).holds E:=by
 unfold Tab.ub at hs;split at hs
 .rename_i h1 h2;exact zia rfl (zla rfl hN (ev_u8int hx (hT _ _ h1).ty (hT _ _ h2).ty)) hq
 cases hs
def Tab.ur(T:Tab)(t t' :TypeId):Bool:=match T.get t,T.get t' with
 | some ⟨_,_,_,.int .u8,_⟩,some ⟨_,_,_,.int .i32,_⟩=>true
 | _,_=>false
theorem wur{b:UInt8}(hT:kTa E.P T)(hs:T.ur t t' =true)(hx:fr.ev x=.u8 b)(hN:Nat.ble (d+1) E.N=true)(hq:(GS.ops ops rest ((d,.pv (.b (.int .i32 (b.toNat:Int))))::fr) σ k).holds E):
 (GS.ops ops (⟨some d,.convert t t' x,ty,pos,af,none⟩::rest) fr σ k).holds E:=by
 unfold Tab.ur at hs;split at hs
 .rename_i h1 h2;exact zia rfl (zla rfl hN (ev_u8i32 hx (hT _ _ h1).ty (hT _ _ h2).ty)) hq
 cases hs
theorem wr{s:Str}(id:Nat)(hT:kTa E.P T)(hs:T.st t=true)(hx:(fr.ev x).str? =some s)(hf:(fr.has id || σ.has id)=false)(hN:Nat.ble (d+1) E.N=true)(hq:(GS.ops ops rest ((d,.ptr id 0)::fr) ((id,.it (strB s) 0)::σ) k).holds E):
 (GS.ops ops (⟨some d,.range t x,ty,pos,af,none⟩::rest) fr σ k).holds E:=by
 obtain ⟨_,_,_,h1⟩:=Tab.st_ok hT hs;simp only[Bool.or_eq_false_iff]at hf;exact zia rfl (wIb id hN (AV.str?_eq hx) h1 hf.1 hf.2) hq
theorem wnx{R:Type}{A B:Option R}{rr:R}{o i:Nat}{s:Str}(hr:(bif decide (i < s.length) then A else B)=some rr)(hx:fr.ev x=.ptr o 0)(ho:σ.get o=some (.it (strB s) i))(hN:Nat.ble (d+1) E.N=true)
 (h1:decide (i < s.length)=true->A=some rr->(GS.ops ops rest ((d,.tup [.bo true,.i i,.pv (.b (.int .i32 (KWa s i)))])::fr) (σ.upd o (.it (strB s) (i+jQa s i))) k).holds E)
 (h2:decide (i < s.length)=false->B=some rr->(GS.ops ops rest ((d,.tup [.bo false])::fr) σ k).holds E):
 (GS.ops ops (⟨some d,.next x true,ty,pos,af,none⟩::rest) fr σ k).holds E:=
 y1b rfl hN hx ho (fun h=>h1 h (by rw[h]at hr;exact hr)) (fun h=>h2 h (by rw[h]at hr;exact hr))
section
variable {s w:Str}
theorem wscL(hT:kTa E.P T)(hr:cut s p s.length=some w)(hs:T.st t=true)(hx:(fr.ev x).str? =some s)(hy:fr.ev y=.pv (.b (.int k1 p)))(hN:Nat.ble (d+1) E.N=true)(hq:(GS.ops ops rest ((d,.s w)::fr) σ k).holds E):
 (GS.ops ops (⟨some d,.slice t x (some y) none none,ty,pos,af,none⟩::rest) fr σ k).holds E:=by
 obtain ⟨_,_,_,h1⟩:=Tab.st_ok hT hs;exact zia rfl (zla rfl hN (vIb (AV.str?_eq hx) hy h1 hr)) hq
theorem wscH(hT:kTa E.P T)(hr:cut s 0 q=some w)(hs:T.st t=true)(hx:(fr.ev x).str? =some s)(hy:fr.ev z=.pv (.b (.int k1 q)))(hN:Nat.ble (d+1) E.N=true)(hq:(GS.ops ops rest ((d,.s w)::fr) σ k).holds E):
 (GS.ops ops (⟨some d,.slice t x none (some z) none,ty,pos,af,none⟩::rest) fr σ k).holds E:=by
 obtain ⟨_,_,_,h1⟩:=Tab.st_ok hT hs;exact zia rfl (zla rfl hN (ev_scutH (AV.str?_eq hx) hy h1 hr)) hq
end
theorem wlL(hT:kTa E.P T)(hr:cut l p l.length=some v)(hs:T.sl t=some (e,row))(hx:fr.ev x=.pv (.sl nl (l.map F)))(hy:fr.ev y=.pv (.b (.int k1 p)))(hF:∀x,(F x).length=row.size)(hN:Nat.ble (d+1) E.N=true)(hq:(GS.ops ops rest ((d,.l F v)::fr) σ k).holds E):
 (GS.ops ops (⟨some d,.slice t x (some y) none none,ty,pos,af,none⟩::rest) fr σ k).holds E:=by
 obtain ⟨⟨_,_,_,h1⟩,h2⟩:=Tab.sl_ok hT hs;exact zia rfl (zla rfl hN (qEb hx hy h1 h2 hF hr)) hq
theorem wlH(hT:kTa E.P T)(hr:cut l 0 q=some v)(hs:T.sl t=some (e,row))(hx:fr.ev x=.pv (.sl nl (l.map F)))(hy:fr.ev z=.pv (.b (.int k1 q)))(hF:∀x,(F x).length=row.size)(hN:Nat.ble (d+1) E.N=true)(hq:(GS.ops ops rest ((d,.l F v)::fr) σ k).holds E):
 (GS.ops ops (⟨some d,.slice t x none (some z) none,ty,pos,af,none⟩::rest) fr σ k).holds E:=by
 obtain ⟨⟨_,_,_,h1⟩,h2⟩:=Tab.sl_ok hT hs;exact zia rfl (zla rfl hN (yOb hx hy h1 h2 hF hr)) hq
def rowFit(row:YXa)(lim:Nat):Bool:=Nat.beq row.zero.cells.size row.size && Nat.ble 1 row.size && (Nat.ble (lim * row.bytes) 140737488355328 && Nat.ble lim 9223372036854775807)
theorem wa(hT:kTa E.P T)(h:app lim l xs=some r')(hs:T.sl t=some (e,row))(hx:fr.ev x=.hs r 0)(hr:σ.get r=some (.row e mu row.size (l.map F)))(hy:fr.ev y=.pv (.sl nl (xs.map F)))(hF:∀x,(F x).length=row.size)(hfit:rowFit row lim=true)(hN:Nat.ble (d+1) E.N=true)(hq:(GS.ops ops rest ((d,.hs r 0)::fr.clr r) ((σ.clr r).upd r (.row e mu row.size (r'.map F))) k).holds E):
 (GS.ops ops (⟨some d,.call ⟨.builtin .append, #[x,y], #[t,t]⟩,ty,pos,af,none⟩::rest) fr σ k).holds E:=by
 obtain ⟨⟨_,_,_,h1⟩,h2⟩:=Tab.sl_ok hT hs;simp only[rowFit,Bool.and_eq_true]at hfit;exact zia rfl (k1a hN hx hr hy h1 h2 hfit.1.1 hfit.1.2 hF (by simp only[Bool.and_eq_true];exact hfit.2) h) hq
def Tab.bs(T:Tab)(t t2:TypeId):Bool:=match T.get t with
 | some ⟨_,_,_,.slice e,_⟩=>(match T.get e with | some ⟨_,_,_,.int .u8,_⟩=>T.st t2 | _=>false)
 | _=>false
theorem wb{s:Str}(hT:kTa E.P T)(hs:T.bs t t2=true)(hx:fr.ev x=.pv (.sl nl (s.map cU)))(hN:Nat.ble (d+1) E.N=true)(hq:(GS.ops ops rest ((d,.s s)::fr) σ k).holds E):
 (GS.ops ops (⟨some d,.convert t t2 x,ty,pos,af,none⟩::rest) fr σ k).holds E:=by
 unfold Tab.bs at hs;split at hs
 .rename_i h1;split at hs
  .rename_i h2;obtain ⟨_,_,_,h3⟩:=Tab.st_ok hT hs;exact zia rfl (zla rfl hN (jOa hx (hT _ _ h1).ty (hT _ _ h2).ty h3)) hq
  cases hs
 cases hs
theorem wz(F:α->List PV)(l:List α){m:Nat}{ps:List (Nat × Operand)}(hT:kTa E.P T)(hs:T.sl t=some (e,row))(hzs:(Nat.beq row.zero.cells.size row.size && Nat.ble 1 row.size && row.zero.cells.toList.all cellV)=true)(hF:∀x,(F x).length=row.size)(hln:(Nat.beq l.length m && Nat.ble (m * row.size) 16777216)=true)
 (hc:J8a (fun i=>some (i * row.size,row.size)) (List.replicate (m * row.size) .any) (ps.map fun p=>(p.1,(fr.ev p.2).weak))=some (l.flatMap fun x=>(F x).map AV.pv)) (hN:Nat.ble (d+1) E.N=true) (hq:(GS.ops ops rest ((d,.l F l)::fr) σ k).holds E):
 (GS.ops ops (⟨some d,.buildSlice t m ps.toArray,ty,pos,af,none⟩::rest) fr σ k).holds E:=by
 obtain ⟨⟨_,_,_,h1⟩,h2⟩:=Tab.sl_ok hT hs;exact zia rfl (jPa rfl hN (qGa h1 h2 hzs hF hln hc)) hq
theorem dr{id:Nat}{l:List Oper}(m:Nat)(new:Fr){cs:List AV}(hmix:E.P.follows .mixedOrders=true)(hok:yRb l m=true)(hm:Nat.ble m l.length=true)(hN:((l.take m).all fun o=>o.dst.all fun d=>Nat.ble (d+1) E.N)=true)
 (hp:Pres E l.toArray (new++fr) σ (l.take m) cs) (hnew:Vqa (l.take m) cs []=new) (h:(GS.ops l.toArray (l.drop m) (new++fr) σ k).holds E):(GS.code (.region id l.toArray true) fr σ k).holds E:=kdb m new hmix hok hm hN hp hnew h
theorem pq{o:Oper}{l:List Oper}{cs:List AV}(hT:kTa E.P T)(hq:qval T fr.ev σ o.op=some c)(hg:wla ops fr o)(hr:Pres E ops fr σ l cs):Pres E ops fr σ (o::l) (c::cs):=.run hg (k9a (WYa hT hq)) hr
theorem mono_inl{d:Nat}{fn:Func}{base sid:Nat}{T:Array Value}{ds:List Deferred}{K:Post}:Mono (InlK E ops rest d fn base sid T ds K):=fun e fr σ fr' σ' hf hs ⟨h1,fr2,σ2,cs,fr'',σ'',h2,h3,h4⟩=>⟨h1,fr2,σ2,cs,fr'',σ'',Vka hf h2,yNa hs h3,h4⟩
theorem il{d f:Nat}{fn:Func}{c:Code}{fx:Operand}{xs:List Operand}{ats:Array TypeId}{first cap args:List AV}(base sid:Nat)(keep:Fr)(hf:fr.ev fx=.fn (.func f) first cap)(hok:FnOk E.P f fn c)
 (hN:(Nat.ble (d+1) E.N && Nat.ble args.length fn.ntmps)=true) (ha:first++xs.map fr.ev++cap=args) (hk:keep.map (fun p=>fr.get p.1)=keep.map (·.2))
 (h:∀(T:Array Value) (ds:List Deferred),(GS.code c (qra 0 args) ((sid,.sus E.g0.w.heap.size ds)::(holds base T keep++σ)) (.base (InlK E ops rest d fn base sid T ds (k.post E)) mono_inl)).holds ⟨E.P,none,E.g0,fn.ntmps,true,E.gl,E.S,E.sg⟩):
 (GS.ops ops (⟨some d,.call ⟨.value fx,xs.toArray,ats⟩,ty,pos,af,none⟩::rest) fr σ k).holds E:=
 vMb base sid keep (zua rfl) hf hok hN ha (kpw hk) fun T ds _=>h T ds
theorem ie{E' :Env}{d:Nat}{fn:Func}{base sid:Nat}{Tm:Array Value}{ds:List Deferred}{e:Exit}{hm:Mono (InlK E ops rest d fn base sid Tm ds (k.post E))}(hT:kTa E.P T)(cs:List AV)(fr'' :Fr)(σ'' :Sto)(he:isN e=true∨e=.ret)(hr:WZa T fr σ fn.results.toList=some cs)(hh:fr''.map (fun p=>σ.get (base+p.1))=fr''.map (fun p=>some (.hold p.2 (Tm.getD p.1 undef))))(hsu:σ.get sid=some (.sus E.g0.w.heap.size ds))(hle:σ''.map σ.sel=σ''.map (fun p=>some p.2))
 (h:AWPL E ops rest ((d,Wia cs)::fr'') σ'' (k.post E)):(GS.at e fr σ (.base (InlK E ops rest d fn base sid Tm ds (k.post E)) hm)).holds E' :=
 inlK (by cases e <;> simp_all [isN]) w3a Jga (Zfa hT hr) (hdw hh) hsu (stw hle) h
end
end
section
open Go.RowKit Go.Lib Go.Proofs.Tryz
variable {E:Env} {fr:Fr} {σ:Sto} {K:Post} {P:Program} {ρ:Operand->AV}
variable {dst:Option Tmp} {ty:TypeId} {pos:String} {af:Array Edge} {gu:Option (Nat × Bool)}
section
variable {α:Type} {F:α->List PV} {l xs r' :List α} {r size bytes sb ss k lim:Nat} {e t:TypeId} {mu:Bool} {zero sz:Value} {d:TypeDesc} {x y z:Operand} {nl:Option Bool}
end
end
section
inductive QRa (B:Nat) (g:G) (e:TypeId) (size:Nat) (els:List (List PV)):Value->Prop
 | nil (a:Option Addr) (h:els=[]):QRa B g e size els (.slice a 0 0)
 | row {b off cap n:Nat} {ad:Addr} (hB:B<=b) (hn:n=els.length) (ha:0 < cap->ad=⟨b,off * size,none⟩) (ho:RelO ⟨g.w,g.u,fun _=>.row b off cap size n⟩ 0 (.row e true size els)):QRa B g e size els (.slice (some ad) n cap)
structure RunO (P:Program) (f:FuncId) (args:List AV) (e:TypeId) (size:Nat) (els:List (List PV)):Prop where
 ok:∃fn c,FnOk P f fn c
 run:∀g vs,Wf g->Gl g->yOa g args vs->CallsIn (fen none) 0 P f vs g.w fun x w' =>∃g' v,g'.w=w' /\g'.loc=g.loc/\Old (fun _=>False) g g' /\Wf g' /\x=.returned v/\QRa g.w.heap.size g' e size els v
variable {P:Program} {σ:Sto} {dst:Option Tmp} {ty:TypeId} {pos:String} {af:Array Edge} {gu:Option (Nat × Bool)} {E:Env} {fr:Fr}
theorem St.newrow{g g1:G}{a:Act}{r:Nat}{e:TypeId}{size:Nat}{els:List (List PV)}{v:Value}(h:St E g a fr σ)(ho:Old (fun _=>False) g g1)(hw:Wf g1)(hl:g1.loc=g.loc)(hv:QRa g.w.heap.size g1 e size els v)(hf:fr.has r=false)(hs:σ.has r=false):
 ∃g2,g2.w=g1.w/\St E g2 a fr ((r,.row e true size els)::σ)/\Rel g2 (.hs r 0) v/\g2.u=g1.u/\∀k,k≠r->g2.loc k=g1.loc k:=by
 have h1:St E g1 a fr σ:=h.grow ho hw (fun k _=>by rw[hl]);cases hv with
 | nil ax h0=>
  subst h0;exact ⟨⟨g1.w,g1.u,fun k=>if k=r then .nilRow else g1.loc k⟩,rfl,h1.adopt r e true size hf hs,.hsNil _ (if_pos rfl),rfl,fun k hk=>if_neg hk⟩
 | @row b off cap n ad hB hn ha hob=>
  subst hn;have hloc:∀k,k≠r->(⟨g1.w,g1.u,fun k=>if k=r then Loc.row b off cap size els.length else g1.loc k⟩:G).loc k=g1.loc k:=fun k hk=>if_neg hk
  have hget:∀o ob,Sto.get ((r,.row e true size els)::σ) o=some ob->(o=r/\ob=.row e true size els)∨(o≠r/\σ.get o=some ob):=by
   intro o ob hg;rw[Sto.get_cons]at hg;split at hg
   .rename_i hk;cases hg;exact .inl ⟨hk.symm,rfl⟩
   rename_i hk;exact .inr ⟨Ne.symm hk,hg⟩
  have hlt:∀o ob b',σ.get o=some ob->ob.blk (g1.loc o)=some b' ->b' < b:=by
   intro o ob b' ho1 hb';rw[hl]at hb';have:=(h.so.obj o ob ho1).block_lt hb';omega
  refine ⟨⟨g1.w,g1.u,fun k=>if k=r then Loc.row b off cap size els.length else g1.loc k⟩,rfl,⟨fun d' =>Rel.mono (g:=g1) (g' :=⟨g1.w,g1.u,fun k=>if k=r then Loc.row b off cap size els.length else g1.loc k⟩) (Ext.refl _ _) (h1.fr d') fun k hk=>hloc k ?_,h1.n,h1.df,⟨?_,?_,?_,⟨h1.so.old.os,h1.so.old.tape,h1.so.old.output,h1.so.old.ext,h1.so.old.block⟩,h1.so.wf⟩⟩,?_,rfl,hloc⟩
  .rintro rfl;rw[Fr.has_get hk]at hf;cases hf
  .intro o ob hg;rcases hget o ob hg with ⟨rfl,rfl⟩ | ⟨hne,hg1⟩
   .cases hob with
    | nil q=>cases q
    | row q1 q2 q3 q4 q5 q6 q7 q8 q9=>cases q1;exact .row (if_pos rfl) q2 q3 q4 q5 q6 q7 q8 q9
   refine RelO.mono (g:=g1) (g' :=⟨g1.w,g1.u,fun k=>if k=r then Loc.row b off cap size els.length else g1.loc k⟩) (h1.so.obj o ob hg1) (Ext.refl _ _) (hloc o hne) (fun k hk=>hloc k ?_) fun b hb=>⟨rfl,rfl⟩
   rintro rfl;rw[Sto.has_get hg1 hk]at hs;cases hs
  .intro o o' ob ob' b1 h2 h3 h4 h5;rcases hget o ob h2 with ⟨rfl,rfl⟩ | ⟨hne,hg⟩ <;> rcases hget o' ob' h3 with ⟨rfl,rfl⟩ | ⟨hne',hg'⟩
   .rfl
   .simp only[if_true,hne',if_false]at h4 h5;have:=hlt o' ob' b1 hg' h5;simp only[AO.blk,Loc.block,Option.some.injEq]at h4;omega
   .simp only[if_true,hne,if_false]at h4 h5;have:=hlt o ob b1 hg h4;simp only[AO.blk,Loc.block,Option.some.injEq]at h5;omega
   simp only[hne,hne',if_false]at h4 h5;exact h1.so.apart o o' ob ob' b1 hg hg' h4 h5
  .intro o ob b1 h2 h3;rcases hget o ob h2 with ⟨rfl,rfl⟩ | ⟨hne,hg⟩
   .simp only[if_true,AO.blk,Loc.block,Option.some.injEq]at h3;have:=h.so.old.ext.size;exact .inl (by omega)
   simp only[hne,if_false]at h3;exact h1.so.mine o ob b1 hg h3
  exact .hs (if_pos rfl) ha
theorem wNb{f:FuncId}{k:Nat}{xs:List Operand}{ats:Array TypeId}{args:List AV}{e:TypeId}{size:Nat}{els:List (List PV)}(r:Nat)(hr:RunO E.P f args e size els)(hN:Nat.ble (k+1) E.N=true)(hf:fr.has r=false)(hs:σ.has r=false)(ha:xs.map (fun x=>(fr.ev x).weak)=args):
 OpTo E ⟨some k,.call ⟨.value (.func f),xs.toArray,ats⟩,ty,pos,af,gu⟩ fr σ ((k,.hs r 0)::fr) ((r,.row e true size els)::σ):=
 ⟨fun g a K Q hst hK=>by
  obtain ⟨fn,c,hok⟩:=hr.ok;refine ⟨fun _ _=>trivial,?_⟩;rw[Oper.semAt_plain _ _ _ (fun c=>by simp),wHa hok (first:= #[]) (cap:= #[]) rfl,Oper.uponIn_enter];refine ⟨fun h=>by simp[fen]at h,?_⟩;have hargs:yOa g args (#[]++xs.toArray.map a.eval++ #[]):=by
   subst ha;refine ⟨by simp,fun i c hi=>?_⟩;simp only[List.getElem?_map,Option.map_eq_some_iff]at hi;obtain ⟨x,hx,rfl⟩:=hi;have:=q3a (hst.ev x);simpa[hx]using this
  refine (wGa (hr.run g _ hst.so.wf (E.glOf hst.so) hargs)).mono ?_;rintro x w' ⟨g',v,rfl,hl,ho,hw,rfl,hv⟩;obtain ⟨g2,hw2,hst2,hv2,_,_⟩:=hst.newrow ho hw hl hv hf hs;have:=hK g2 _ (hst2.put (Nat.le_of_ble_eq_true hN) hv2);rw[hw2]at this;exact this⟩
def jcb(P:Program)(fn:Func)(e:TypeId)(size:Nat)(els:List (List PV)):Post:=fun x fr σ=>(x=.ret∨x=.normal)/\∃r0,ResL P fr σ fn.results.toList [.hs r0 0]/\σ.get r0=some (.row e true size els)
theorem wOb{fn:Func}{e:TypeId}{size:Nat}{els:List (List PV)}:Mono (jcb P fn e size els):=fun x fr σ fr' σ' hf hs ⟨h1,r0,h2,h3⟩=>⟨h1,r0,h2.le hf hs,by
 rcases hs r0 _ h3 with h4 | ⟨cs,_,h4⟩
 .exact h4
 cases h4⟩
theorem qRb{f:FuncId}{fn:Func}{c:Code}(hok:FnOk P f fn c){args:List AV}{e:TypeId}{size:Nat}{els:List (List PV)}(hN:Nat.ble args.length fn.ntmps=true)
 (h:∀g0 (hg:Gl g0),AWP ⟨P,none,g0,fn.ntmps,false,hg,fun _=>False,fun _ _ h=>h⟩ c (qra 0 args) [] (jcb P fn e size els)):RunO P f args e size els:=by
 refine ⟨⟨fn,c,hok⟩,fun g vs hw hgl ⟨hsz,ha⟩=>?_⟩;have hN:=Nat.le_of_ble_eq_true hN;refine callsIn_of_wp_marks hok.f hok.b trivial<|wpIn_mono ((h g hgl).go g _ ⟨fun d=>?_,by simp;omega,⟨Dok.nil _ _,fun _=>rfl⟩,⟨fun o ob ho=>by simp[Sto.get]at ho,fun o o' ob ob' b ho=>by simp[Sto.get]at ho,fun o ob b ho=>by simp[Sto.get]at ho,Old.refl _ g,hw⟩⟩) ?_
 .rw[yya];simp only[Nat.zero_le,if_true,Nat.sub_zero];cases hc:args[d]? with
  | none=>exact .any _
  | some c=>
   have hlt:d < vs.size:=by rw[hsz];exact (List.getElem?_eq_some_iff.1 hc).1
   have:=ha d c hc;rw[Array.getD_eq_getD_getElem?,Array.getElem?_append_left hlt,<-Array.getD_eq_getD_getElem?];exact this
 rintro x a w' ⟨g',fr',σ',rfl,hst,he,r0,hres,hr0⟩;obtain ⟨bs,hds,hnd,hbs⟩:=hst.df.ok;have key:∀w',Took g'.w bs w' ->∃v,(results fn a.tmps).run P w' =.ok v w' /\∃g'' v',g''.w=w' /\g''.loc=g.loc/\Old (fun _=>False) g g'' /\Wf g'' /\Ending.returned v=.returned v' /\QRa g.w.heap.size g'' e size els v' :=by
  intro w' ht;have hcellb:∀(k:Nat) (vs:Array Value) (t:TypeId) (fz:Nat × Nat),g'.w.heap[k]? =some (Obj.cells vs t fz)->w'.heap[k]? =g'.w.heap[k]? :=by
   intro k vs t fz hk;refine ht.block k fun hx=>?_
   rw[(hbs k hx).2]at hk;cases hk
  have hx0:Ext0 g'.w g'.u w' g'.u:=⟨Nat.le_of_eq ht.size.symm,fun _ _=>Nat.le_refl _,fun k i hk hi=>by
   by_cases hkb:k∈bs
   .simp[World.cell?,(hbs k hkb).2,ht.took k hkb]
   simp only[World.cell?];rw[ht.block k hkb]⟩
  obtain ⟨v,h1,h2⟩:=j9a (P:=P) (g:=⟨w',g'.u,g'.loc⟩) hres (fun d=>(hst.fr d).mono0 hx0 (fun _ _=>rfl)) (fun k cs' hk=>by
   cases hst.so.obj k _ hk with
   | cells q1 q2 q3 q4 q5 q6=>exact .cells q1 ((hcellb _ _ _ _ q2).trans q2) q3 q4 q5 fun i c hi=>(q6 i c hi).mono0 hx0 (fun _ _=>rfl))
  have hrow:=hst.so.obj r0 _ hr0;refine ⟨v,h1,⟨w',g'.u,g.loc⟩,v,rfl,rfl,⟨ht.os.trans hst.so.old.os,ht.tape.trans hst.so.old.tape,ht.output.trans hst.so.old.output,⟨by rw[ht.size];exact hst.so.old.ext.size,hst.so.old.ext.pub,fun k i hk hi=>?_,fun r' hr' =>?_⟩,fun k hk hs=>?_⟩,fun k hk=>hst.so.wf k (by rw[<-ht.size];exact hk),rfl,?_⟩
  .have hkb:k ∉ bs:=fun hx=>by have:g.w.heap.size<=k:=(hbs k hx).1;omega
   simp only[World.cell?];rw[ht.block k hkb];exact hst.so.old.ext.cell k i hk hi
  .have hkb:r' ∉ bs:=fun hx=>by have:g.w.heap.size<=r' :=(hbs r' hx).1;have:=z6a hr';omega
   rw[ht.block r' hkb];exact hst.so.old.ext.df r' hr'
  .have hkb:k ∉ bs:=fun hx=>by have:g.w.heap.size<=k:=(hbs k hx).1;omega
   rw[ht.block k hkb];exact hst.so.old.block k hk hs
  replace h2:Rel ⟨w',g'.u,g'.loc⟩ (.hs r0 0) v:=h2
  cases hrow with
  | nil q1=>
   cases h2 with
   | hsNil ax q2=>exact .nil ax rfl
   | hs q2=>exact absurd (q1.symm.trans q2) (by simp)
  | @row _ _ _ _ b off cap vs' q1 q2 q3 q4 q5 q6 q7 q8 q9=>
   have hB:=hst.so.mine r0 _ b hr0 (by rw[q1];rfl);cases h2 with
   | hsNil ax q10=>exact absurd (q1.symm.trans q10) (by simp)
   | @hs _ b2 off2 cap2 size2 n2 ad q10 q11=>
    have q12:Loc.row b off cap size els.length=Loc.row b2 off2 cap2 size2 n2:=q1.symm.trans q10;cases q12;refine .row (b:=b) (off:=off) (hB.elim id fun hc=>hc.elim) rfl q11<|.row rfl ((hcellb _ _ _ _ q2).trans q2) q3 q4 q5 q6 q7 q8 fun i j x c hi hj=>(q9 i j x c hi hj).mono0 hx0
 rcases he with rfl | rfl
 .show LeavesInM _ _ _ _ _ _ _ _ _;rw[hds];exact q9a bs g'.w hnd (fun r' hr' =>(hbs r' hr').2) key
 show LeavesInM _ _ _ _ _ _ _ _ _;rw[hds];exact q9a bs g'.w hnd (fun r' hr' =>(hbs r' hr').2) key
theorem rfO{f:FuncId}{fn:Func}{c:Code}(hok:FnOk P f fn c){args:List AV}{e:TypeId}{size:Nat}{els:List (List PV)}(hN:Nat.ble args.length fn.ntmps=true)
 (h:∀g0 (hg:Gl g0),(GS.code c (qra 0 args) [] (.base (jcb P fn e size els) wOb)).holds ⟨P,none,g0,fn.ntmps,false,hg,fun _=>False,fun _ _ h=>h⟩):RunO P f args e size els:=qRb hok hN h
theorem krO{T:Tab}(hT:kTa P T){x:Exit}{fn:Func}{e:TypeId}{size:Nat}{els:List (List PV)}{r0:Nat}{hm:Mono (jcb P fn e size els)}(he:isN x=true∨x=.ret)(h:WZa T fr σ fn.results.toList=some [.hs r0 0])(hg:σ.get r0=some (.row e true size els)):(GS.at x fr σ (.base (jcb P fn e size els) hm)).holds E:=
 ⟨by cases x <;> simp_all [isN],r0,Zfa hT h,hg⟩
theorem fn{fr:Fr}:FrLe fr []:=zBa
theorem fc{fr fr' :Fr}{k:Nat}{c:AV}(h:fr.get k=c)(h' :FrLe fr fr'):FrLe fr ((k,c)::fr'):=zfa h h'
theorem sn{σ:Sto}:k8a σ []:=zga
theorem sc2{σ σ' :Sto}{k:Nat}{ob:AO}(h:σ.get k=some ob)(h' :k8a σ σ'):k8a σ ((k,ob)::σ'):=zba h h'
def bt:Nat->Nat->List Bool
 | 0,_=>[]
 | n+1,m=>(m % 2==1)::bt n (m / 2)
end
section
open Go.RowKit Go.Lib Go.Proofs.Tryz
variable {E:Env} {fr:Fr} {σ:Sto} {K:Post}
abbrev ObX:=List (Option (Nat × AO))
structure OpNewX (E:Env) (FR:Fr) (o:Oper) (id:Nat) (c:AV) (ob:AO):Prop where
 go:∀(g:G) a (σ' :Sto) (K:Act->World->Prop) (Q:Exit->Act->World->Prop),(∀x∈o.op.operands,Rel g (FR.ev x) (a.eval x))->St E g a [] σ' ->σ'.has id=false->ob.has id=false->
  (∀g' v,Old (fun _=>False) g g' ->(∀k,k≠id->g'.loc k=g.loc k)->Sok E.S E.g0 g' ((id,ob)::σ')->Rel g' c v->K (a.put o.dst v) g'.w)->o.wpIn (fen E.rd) 0 E.P a g.w K Q
inductive W0a (E:Env) (ops:Array Oper) (fr:Fr) (σ:Sto):List Oper->List AV->ObX->Prop
 | nil:W0a E ops fr σ [] [] []
 | run {o:Oper} {l:List Oper} {c:AV} {cs:List AV} {az:ObX} (hg:wla ops fr o) (h:OpG E o fr σ c) (hr:W0a E ops fr σ l cs az):W0a E ops fr σ (o::l) (c::cs) (none::az)
 | skip {o:Oper} {l:List Oper} {cs:List AV} {az:ObX} (hg:ZUa ops fr o) (hr:W0a E ops fr σ l cs az):W0a E ops fr σ (o::l) (.tup []::cs) (none::az)
 | new {o:Oper} {l:List Oper} {cs:List AV} {az:ObX} (id:Nat) {c:AV} {ob:AO} (hg:wla ops fr o) (h:OpNewX E fr o id c ob) (hr:W0a E ops fr σ l cs az):W0a E ops fr σ (o::l) (c::cs) (some (id,ob)::az)
theorem W0a.len{ops:Array Oper}{l:List Oper}{cs:List AV}{az:ObX}(h:W0a E ops fr σ l cs az):cs.length=l.length/\az.length=l.length:=by
 induction h with
 | nil=>exact ⟨rfl,rfl⟩
 | run _ _ _ ih=>simp[ih.1,ih.2]
 | skip _ _ ih=>simp[ih.1,ih.2]
 | new _ _ _ _ ih=>simp[ih.1,ih.2]
theorem W0a.get{ops:Array Oper}{l:List Oper}{cs:List AV}{az:ObX}(h:W0a E ops fr σ l cs az):∀{i:Nat} {o:Oper} {c:AV},l[i]? =some o->cs[i]? =some c->(wla ops fr o/\OpG E o fr σ c/\az[i]? =some none)∨(ZUa ops fr o/\c=.tup []/\az[i]? =some none)∨(wla ops fr o/\∃id ob,OpNewX E fr o id c ob/\az[i]? =some (some (id,ob))):=by
 induction h with
 | nil=>intro i o c h1;simp at h1
 | run hg h _ ih=>
  intro i o c h1 h2;cases i with
  | zero=>simp at h1 h2;subst h1;subst h2;exact .inl ⟨hg,h,rfl⟩
  | succ i=>exact ih (by simpa using h1) (by simpa using h2)
 | skip hg _ ih=>
  intro i o c h1 h2;cases i with
  | zero=>simp at h1 h2;subst h1;subst h2;exact .inr (.inl ⟨hg,rfl,rfl⟩)
  | succ i=>exact ih (by simpa using h1) (by simpa using h2)
 | new id hg h _ ih=>
  intro i o c h1 h2;cases i with
  | zero=>simp at h1 h2;subst h1;subst h2;exact .inr (.inr ⟨hg,id,_,h,rfl⟩)
  | succ i=>exact ih (by simpa using h1) (by simpa using h2)
section
variable {E:Env} {fr:Fr} {σ:Sto} {k:KS} {ops:Array Oper} {T:Tab} {c:AV} {t ty:TypeId} {pos:String} {af:Array Edge} {row:YXa}
end
end
section
section
variable {P:Program} {dst:Option Tmp} {ty:TypeId} {pos:String} {af:Array Edge} {gu:Option (Nat × Bool)} {ρ:Operand->AV} {σ:Sto}
variable {t e:TypeId} {size bytes ss sb len:Nat} {zero sz:Value} {d:TypeDesc} {x y:Operand} {k:IntKind} {n:Int}
theorem kkb{ps:List (Nat × Operand)}{z cs:List AV}(ht:TyOk P t ss sb sz (.array len e))(he:TyOk P e size bytes zero d)
 (hz:(v0a sz).cells=some z∨sz.cells.toList.map v0a=z/\sz.cells.toList.all cellV=true) (hc:J8a (fun i=>some (i * size,size)) z (ps.map fun p=>(p.1,ρ p.2))=some cs):EvQ P ⟨dst,.build t ps.toArray,ty,pos,af,gu⟩ ρ σ (.agg cs):=
 ⟨fun c=>by simp,fun g ρv hh _=>by
  obtain ⟨out,h1,h2⟩:=J9a (g:=g) (ps.map fun p=>(p.1,ρ p.2)) (ps.map fun p=>(p.1,ρv p.2)) z sz.cells cs (Jla g sz hz) (by simp) (fun i p v hp hv=>by
   simp only[List.getElem?_map,Option.map_eq_some_iff]at hp hv;obtain ⟨q,hq,rfl⟩:=hp;obtain ⟨q',hq',rfl⟩:=hv;rw[hq]at hq';cases hq';refine ⟨rfl,hh q.2 ?_⟩;simp only[Op.operands];simp only[List.mem_toArray,List.mem_map];exact ⟨q,List.mem_of_getElem? hq,rfl⟩) hc
  refine ⟨.agg out,?_,.agg h2.n h2.c h2.r⟩;show Sem.run P (do let v <-Instr.build t (ps.toArray.map fun (i,x)=>(i,ρv x));pure (Next.value v)) g.w=_;simp only[Instr.build,underlying,program,Sem.run_bind,Sem.run,ht.u,ht.zeroValue,Result.andThen_ok,Sem.run_pure,he.sizeOf];have e1:(ps.toArray.map fun (x:Nat × Operand)=>(x.1,ρv x.2)).toList=ps.map fun p=>(p.1,ρv p.2):=by simp
  simp only[e1,h1];rfl⟩
theorem ev_aidx{α:Type}{f:α->List PV}{L:List α}{a:α}{p:PV}(hx:ρ x=.agg (L.flatMap fun a=>(f a).map AV.pv))(hy:ρ y=.pv (.b (.int k n)))(ht:TyOk P t ss sb sz (.array len e))(he:TyOk P e 1 bytes zero d)(hd:dAgg d=false)
 (hl:L.length=len) (hz:∀a,(f a).length=1) (hi:idx L n=some a) (hp:f a=[p]):EvQ P ⟨dst,.index t x y,ty,pos,af,gu⟩ ρ σ (.pv p):=
 ⟨fun c=>by simp,fun g ρv h _=>by
  obtain ⟨h1,h2⟩:=ops2 (o:=⟨dst,.index t x y,ty,pos,af,gu⟩) (x:=x) (y:=y) rfl h;rw[hx]at h1;rw[hy]at h2;have e2:=kda h2;obtain ⟨h0,hc⟩:=wZa hi;have hlt:n.toNat < L.length:=(List.getElem?_eq_some_iff.1 hc).1;generalize hv:ρv x=v at h1;cases h1 with
  | @agg _ vs hn hcv hr=>
   have hg:=Zda hz L n.toNat 0 a p hc (by rw[hp];rfl);simp only[Nat.mul_one,Nat.add_zero]at hg;have hsz:n.toNat < vs.size:=by rw[hn];exact (List.getElem?_eq_some_iff.1 hg).1
   refine ⟨vs.getD n.toNat undef,?_,hr _ _ hg⟩;simp only[execOp,Instr.index,hv,e2,asIntOf,underlying,program,Sem.run_bind,Sem.run,ht.u,Result.andThen_ok,Sem.run_pure,he.sizeOf,Nat.mul_one];rw[if_pos ⟨h0,by omega⟩];simp only[Sem.run_bind,he.sizeOf,Result.andThen_ok,Nat.mul_one,Zba he hd hsz]
   done⟩
theorem ev_aidxN{α:Type}{f:α->List PV}{L:List α}{a:α}(hx:ρ x=.agg (L.flatMap fun a=>(f a).map AV.pv))(hy:ρ y=.pv (.b (.int k n)))(ht:TyOk P t ss sb sz (.array len e))(he:TyOk P e size bytes zero d)(hd:dAgg d=true)
 (hl:L.length=len) (hz:∀a,(f a).length=size) (hi:idx L n=some a):EvQ P ⟨dst,.index t x y,ty,pos,af,gu⟩ ρ σ (.agg ((f a).map .pv)):=
 ⟨fun c=>by simp,fun g ρv h _=>by
  obtain ⟨h1,h2⟩:=ops2 (o:=⟨dst,.index t x y,ty,pos,af,gu⟩) (x:=x) (y:=y) rfl h;rw[hx]at h1;rw[hy]at h2;have e2:=kda h2;obtain ⟨h0,hc⟩:=wZa hi;have hlt:n.toNat < L.length:=(List.getElem?_eq_some_iff.1 hc).1;generalize hv:ρv x=v at h1;cases h1 with
  | @agg _ vs hn hcv hr=>
   have hsz:n.toNat * size+size<=vs.size:=by
    rw[hn,Qaa hz];have:=Nat.mul_le_mul_right size (show n.toNat+1<=L.length by omega);rw[Nat.add_mul,Nat.one_mul]at this;exact this
   have hex:(vs.extract (n.toNat * size) (n.toNat * size+size)).size=size:=by simp;omega
   have hget:∀j,j < size->(vs.extract (n.toNat * size) (n.toNat * size+size)).getD j undef=vs.getD (n.toNat * size+j) undef:=by
    intro j hj;rw[Array.getD_eq_getD_getElem?,Array.getD_eq_getD_getElem?,Array.getElem?_extract];rw[if_pos (by omega)]
   refine ⟨.agg (vs.extract (n.toNat * size) (n.toNat * size+size)),?_,.agg (by rw[hex];simp[hz]) (fun j hj=>?_) (fun j c hj=>?_)⟩
   .simp only[execOp,Instr.index,hv,e2,asIntOf,underlying,program,Sem.run_bind,Sem.run,ht.u,Result.andThen_ok,Sem.run_pure,he.sizeOf];rw[if_pos ⟨h0,by omega⟩];simp only[part,Sem.run_bind,he.sizeOf,he.isAgg,Result.andThen_ok,hd,if_true,Sem.run_pure]
   .rw[hex]at hj;rw[hget j hj];exact hcv _ (by omega)
   simp only[List.getElem?_map,Option.map_eq_some_iff]at hj;obtain ⟨p,hp,rfl⟩:=hj;have hjs:j < size:=by have:=(List.getElem?_eq_some_iff.1 hp).1;rw[hz]at this;exact this
   rw[hget j hjs];exact hr _ _ (Zda hz L n.toNat j a p hc hp)⟩
end
end
section
variable {P:Program} {ρ:Operand->AV} {σ:Sto} {dst:Option Tmp} {ty:TypeId} {pos:String} {af:Array Edge} {gu:Option (Nat × Bool)}
theorem rel_ifc{g:G}{b:Bool}{v:Value}(h:Rel g (.ifc b) v):(b=false/\v=.nilIface)∨(b=true/\∃t x,v=.iface t x):=by
 cases h with
 | ifc h=>
  cases v with
  | nilIface=>exact .inl ⟨by simpa[ifcV]using h.symm,rfl⟩
  | iface t x=>exact .inr ⟨by simpa[ifcV]using h.symm,t,x,rfl⟩
  | _=>cases h
theorem eq_ifc{ms:Array (String × TypeId)}{t:TypeId}{v:Value}{b:Bool}(ht:P.underlying t=some (.interface ms))(h:(b=false/\v=.nilIface)∨(b=true/\∃t x,v=.iface t x)):EqOk P t v .nilIface (!b):=⟨fun d w=>by
 unfold Op.equalIn;rcases h with ⟨rfl,rfl⟩ | ⟨rfl,t1,x1,rfl⟩ <;> simp only[Sem.run_bind,underlying,program,Sem.run,ht,Result.andThen_ok,Sem.run_pure,Bool.not_false,Bool.not_true]⟩
theorem jdb{op:BinOp}{t:TypeId}{x:Operand}{v:Value}{b:Bool}(h:(b=false/\v=.nilIface)∨(b=true/\∃t x,v=.iface t x)):eqGuard op t x (.const .nilIface) v .nilIface=pure ():=by
 rcases h with ⟨rfl,rfl⟩ | ⟨rfl,t1,x1,rfl⟩
 .cases op <;> cases x <;> rfl
 cases op <;> rfl
theorem ev_ifneq{t t' :TypeId}{x:Operand}{b:Bool}{ss sb:Nat}{sz:Value}{ms:Array (String × TypeId)}(hx:ρ x=.ifc b)(hy:ρ (.const .nilIface)=.pv (.b .nilIface))(ht:TyOk P t ss sb sz (.interface ms)):EvQ P ⟨dst,.binOp .neq t x (.const .nilIface) t',ty,pos,af,gu⟩ ρ σ (.bo b):=
 ⟨fun c=>by simp,fun g ρv h _=>by
  obtain ⟨h1,h2⟩:=ops2 (o:=⟨dst,.binOp .neq t x (.const .nilIface) t',ty,pos,af,gu⟩) (x:=x) (y:=.const .nilIface) rfl h;rw[hx]at h1;rw[hy]at h2;have e2:=kda h2;have hi:=rel_ifc h1;refine ⟨.bool b,?_,.pv (.b rfl)⟩;show Sem.run P (do let v <-(do eqGuard .neq t x (.const .nilIface) (ρv x) (ρv (.const .nilIface));binOp .neq t (ρv x) (ρv (.const .nilIface)));pure (Next.value v)) g.w=_;rw[e2,jdb hi];have he:Sem.run P (Op.equal t (ρv x) .nilIface) g.w=.ok (!b) g.w:=(eq_ifc ht.u hi).run 9999 g.w;generalize ρv x=v at *;rcases hi with ⟨rfl,rfl⟩ | ⟨rfl,t1,x1,rfl⟩ <;> simp[binOp,Sem.run_bind,he,Sem.run_pure]⟩
end
section
mutual
def AV.epS(o:Nat)(cs:List PV):AV->AV
 | .ptr o' off=>bif Nat.beq o' o then (bif Nat.ble off cs.length then .ep (cs.drop off) else .any) else .ptr o' off
 | .agg l=>.agg (AV.epL o cs l)
 | .tup l=>.tup (AV.epL o cs l)
 | .fn f a c=>.fn f (AV.epL o cs a) (AV.epL o cs c)
 | c=>c
def AV.epL(o:Nat)(cs:List PV):List AV->List AV
 | []=>[]
 | c::l=>c.epS o cs::AV.epL o cs l
end
theorem AV.epL_eq(o:Nat)(cs:List PV)(l:List AV):AV.epL o cs l=l.map (AV.epS o cs):=by
 induction l with
 | nil=>rfl
 | cons c l ih=>unfold AV.epL;rw[ih];rfl
def Fr.epS(o:Nat)(cs:List PV):Fr->Fr
 | []=>[]
 | (k,c)::r=>(k,c.epS o cs)::Fr.epS o cs r
theorem Fr.get_epS(o:Nat)(cs:List PV)(fr:Fr)(d:Nat):(fr.epS o cs).get d=(fr.get d).epS o cs:=by
 induction fr with
 | nil=>simp[Fr.epS,Fr.get,AV.epS]
 | cons x r ih=>
  obtain ⟨k,c⟩:=x;unfold Fr.epS;rw[Fr.get_cons,Fr.get_cons,ih];split <;> rfl
theorem rel_epS{g g' :G}{o b:Nat}{cs:List PV}{vs:Array Value}{t:TypeId}{fz:Nat × Nat}(hl:g.loc o=.blk b)(hb:g.w.heap[b]? =some (.cells vs t fz))(hn:vs.size=cs.length)
 (hc:∀i c,cs[i]? =some c->RelP g.w g.u c (vs.getD i undef)) (hx:Ext g.w g.u g'.w g'.u) (hh:g'.w.heap[b]? =g.w.heap[b]?) (hu:g'.u b=cs.length) (hloc:∀k,k≠o->g'.loc k=g.loc k)
 {c:AV} {v:Value} (h:Rel g c v):Rel g' (c.epS o cs) v:=by
 induction h with
 | any v=>exact .any v
 | pv h=>exact .pv (h.mono hx)
 | agg hl2 hc2 h ih=>
  unfold AV.epS;rw[AV.epL_eq];refine .agg (by simp[hl2]) hc2 fun i c hi=>?_
  simp only[List.getElem?_map,Option.map_eq_some_iff]at hi;obtain ⟨c',h1,rfl⟩:=hi;exact ih i c' h1
 | tup hl2 h ih=>
  unfold AV.epS;rw[AV.epL_eq];refine .tup (by simp[hl2]) fun i c hi=>?_
  simp only[List.getElem?_map,Option.map_eq_some_iff]at hi;obtain ⟨c',h1,rfl⟩:=hi;exact ih i c' h1
 | @ptr o' off b' h1=>
  unfold AV.epS;cases hbq:Nat.beq o' o with
  | false=>
   have hk:o' ≠o:=fun e=>by rw[e]at hbq;simp at hbq
   rw[cond_false];exact .ptr ((hloc o' hk).trans h1)
  | true=>
   have hk:o' =o:=Nat.eq_of_beq_eq_true hbq;subst hk;rw[hl]at h1;cases h1;rw[cond_true];cases hle:Nat.ble off cs.length with
   | false=>exact .any _
   | true=>
    have hle:=Nat.le_of_ble_eq_true hle;rw[cond_true];refine .ep (fun i=>vs.getD (off+i) undef) (by rw[hu];simp;omega) ?_ (fun i hi=>?_) (fun i c hi=>?_)
    .have:=z6a hb;have:=hx.size;omega
    .have hi' :off+i < vs.size:=by simp at hi;omega
     simp only[World.cell?,hh,hb];simp[Array.getD,hi']
    rw[List.getElem?_drop]at hi;exact (hc _ c hi).mono hx
 | ep val h1 h2 h3 h4=>exact (Rel.ep (g:=g) val h1 h2 h3 h4).mono hx (fun o' ho' =>by cases ho')
 | @hsNil r a h1=>
  by_cases hk:r=o
  .subst hk;rw[hl]at h1;cases h1
  exact .hsNil a ((hloc r hk).trans h1)
 | @hs r b1 off cap size n a h1 h2=>
  by_cases hk:r=o
  .subst hk;rw[hl]at h1;cases h1
  exact .hs ((hloc r hk).trans h1) h2
 | @hp r idx j b1 off cap size n h1 h2=>
  by_cases hk:r=o
  .subst hk;rw[hl]at h1;cases h1
  exact .hp ((hloc r hk).trans h1) h2
 | @fn f first captured fv cv h1 h2 hf hc2 ihf ihc=>
  unfold AV.epS;rw[AV.epL_eq,AV.epL_eq];refine .fn (by simp[h1]) (by simp[h2]) (fun i c hi=>?_) (fun i c hi=>?_)
  .simp only[List.getElem?_map,Option.map_eq_some_iff]at hi;obtain ⟨c',h3,rfl⟩:=hi;exact ihf i c' h3
  simp only[List.getElem?_map,Option.map_eq_some_iff]at hi;obtain ⟨c',h3,rfl⟩:=hi;exact ihc i c' h3
 | @mp o' b1 h1=>
  by_cases hk:o' =o
  .subst hk;rw[hl]at h1;cases h1
  exact .mp ((hloc o' hk).trans h1)
 | @hsubNil r lo a h1=>
  by_cases hk:r=o
  .subst hk;rw[hl]at h1;cases h1
  exact .hsubNil a ((hloc r hk).trans h1)
 | @hsub r lo b1 off cap size n a h1 h2 h3=>
  by_cases hk:r=o
  .subst hk;rw[hl]at h1;cases h1
  exact .hsub ((hloc r hk).trans h1) h2 h3
 | z0 a=>exact .z0 a
 | ifc h=>exact .ifc h
 | @hpreNil r a h1=>
  by_cases hk:r=o
  .subst hk;rw[hl]at h1;cases h1
  exact .hpreNil a ((hloc r hk).trans h1)
 | @hpre r hi b1 off cap size n a h1 h2 h3=>
  by_cases hk:r=o
  .subst hk;rw[hl]at h1;cases h1
  exact .hpre ((hloc r hk).trans h1) h2 h3
variable {P:Program} {σ:Sto} {dst:Option Tmp} {ty:TypeId} {pos:String} {af:Array Edge} {gu:Option (Nat × Bool)} {E:Env} {fr:Fr} {K:Post}
theorem St.pubbox{g:G}{a:Act}{o:Nat}{cs:List PV}(h:St E g a fr σ)(ho:σ.get o=some (.cells (cs.map .pv)))(hd:(σ.del o).has o=false):∃g',g'.w=g.w/\St E g' a (fr.epS o cs) (σ.del o):=by
 have hob:=h.so.obj o _ ho;generalize hls:cs.map AV.pv=ls at hob;cases hob with
 | @cells _ b t vs hl hb hn hu hcv hrel=>
  subst hls;have hbl:=z6a hb;have hx:Ext g.w g.u g.w (fun k=>if k=b then cs.length else g.u k):=⟨Nat.le_refl _,fun k _=>by split <;> simp_all,fun _ _ _ _=>rfl,fun _ h=>h⟩;have hsub:∀o' ob b',σ.get o' =some ob->ob.blk (g.loc o')=some b' ->o' ≠o->b' ≠b:=by
   rintro o' ob b' ho' hb' hne rfl;exact hne (h.so.apart o' o ob _ b' ho' ho hb' (by rw[hl];rfl))
  have hget:∀o' ob,(σ.del o).get o' =some ob->o' ≠o/\σ.get o' =some ob:=by
   intro o' ob h1;rw[Sto.get_del]at h1;split at h1
   .cases h1
   rename_i h2;exact ⟨h2,h1⟩
  have hcells:∀i c,cs[i]? =some c->RelP g.w g.u c (vs.getD i undef):=fun i c hi=>by
   have:=hrel i (.pv c) (by simp[hi]);cases this with
   | pv h=>exact h
  refine ⟨⟨g.w,fun k=>if k=b then cs.length else g.u k,g.loc⟩,rfl,⟨fun d=>?_,h.n,h.df,⟨?_,?_,?_,?_,?_⟩⟩⟩
  .rw[Fr.get_epS];exact rel_epS (g' :=⟨g.w,fun k=>if k=b then cs.length else g.u k,g.loc⟩) hl hb (by simpa using hn) hcells hx rfl (if_pos rfl) (fun _ _=>rfl) (h.fr d)
  .intro o' ob h1;obtain ⟨h2,h3⟩:=hget o' ob h1;exact (h.so.obj o' ob h3).mono hx rfl (fun _ _=>rfl) fun b' hb' =>⟨rfl,if_neg (hsub o' ob b' h3 hb' h2)⟩
  .intro o1 o2 ob1 ob2 b1 h1 h2;exact h.so.apart o1 o2 ob1 ob2 b1 (hget o1 ob1 h1).2 (hget o2 ob2 h2).2
  .intro o1 ob1 b1 h1;exact h.so.mine o1 ob1 b1 (hget o1 ob1 h1).2
  .refine h.so.old.trans ⟨rfl,rfl,rfl,hx,fun k hk hs=>⟨rfl,if_neg ?_⟩⟩;rintro rfl;rcases h.so.mine o _ k ho (by rw[hl];rfl) with h1 | h1
   .exact hs (.inr h1)
   exact hs (.inl h1)
  intro k hk;show (if k=b then cs.length else g.u k)=0;rw[if_neg (by have:g.w.heap.size<=k:=hk;omega)];exact h.so.wf k hk
theorem qSb{ops:Array Oper}{ol:List Oper}(o:Nat){cs:List PV}(ho:σ.get o=some (.cells (cs.map .pv)))(hd:(σ.del o).has o=false)(h:AWPL E ops ol (fr.epS o cs) (σ.del o) K):AWPL E ops ol fr σ K:=
 ⟨fun g a hst=>by
  obtain ⟨g',hw,hst'⟩:=hst.pubbox ho hd;have:=h.go g' a hst';rw[hw]at this;exact this⟩
theorem jeb{f:FuncId}{fx:Operand}{xs:List Operand}{ats:Array TypeId}{args cap:List AV}{r:AV}(hfx:fr.ev fx=.fn (.func f) [] cap)(hr:Run E.P f args r)(ha:xs.map (fun x=>(fr.ev x).weak)++cap=args):
 OpG E ⟨dst,.call ⟨.value fx,xs.toArray,ats⟩,ty,pos,af,gu⟩ fr σ r:=
 ⟨fun g a K Q hx hs hK=>by
  obtain ⟨fn,c,hok⟩:=hr.ok;have hfv:Rel g (.fn (.func f) [] cap) (a.eval fx):=by rw[<-hfx];exact hx fx (by simp[Op.operands,Call.operands])
  generalize hv:a.eval fx=fv at hfv;cases hfv with
  | @fn _ _ _ v1 v2 h1 h2 hf hc=>
   have e1:v1= #[]:=Array.eq_empty_of_size_eq_zero h1;subst e1;refine ⟨fun _ _=>trivial,?_⟩;rw[Oper.semAt_plain _ _ _ (fun c=>by simp),wHa hok hv,Oper.uponIn_enter];refine ⟨fun h=>by simp[fen]at h,?_⟩;have hargs:yOa g args (#[]++xs.toArray.map a.eval++v2):=by
    subst ha;refine ⟨by simp[h2],fun i c hi=>?_⟩;by_cases hlt:i < xs.length
    .rw[List.getElem?_append_left (by simpa using hlt)]at hi;simp only[List.getElem?_map,Option.map_eq_some_iff]at hi;obtain ⟨x,hx',rfl⟩:=hi;have:=q3a (hx x (by simp[Op.operands,Call.operands];exact .inr (List.mem_of_getElem? hx')));rw[Array.getD_eq_getD_getElem?,Array.getElem?_append_left (by simpa using hlt)];simpa[hx']using this
    rw[List.getElem?_append_right (by simpa using hlt)]at hi;have:=hc _ c hi;rw[Array.getD_eq_getD_getElem?,Array.getElem?_append_right (by simpa using hlt),<-Array.getD_eq_getD_getElem?];simpa using this
   refine (wGa (hr.run g _ hs.wf (E.glOf hs) hargs)).mono ?_;rintro e w' ⟨g',v,rfl,hl,ho,hw,rfl,hv⟩;exact hK g' v ho hw hl hv⟩
end
section
open Go.ChangeShapes Go.WideShapes Go.ChangeAt Go.RowKit Go.Proofs.Tryz
def uAll(W:World)(k:Nat):Nat:=match W.heap[k]? with
 | some (.cells vs _ _)=>vs.size
 | _=>0
theorem jfb{W:World}{b i:Nat}{v:Value}(h:W.cell? ⟨b,i,none⟩=some v):i < uAll W b/\b < W.heap.size:=by
 unfold World.cell? at h;simp only[Option.isSome_none,Bool.false_eq_true,if_false]at h;split at h
 .rename_i c t z hb;refine ⟨?_,(Array.getElem?_eq_some_iff.1 hb).1⟩;unfold uAll;rw[hb];exact (Array.getElem?_eq_some_iff.1 h).1
 cases h
def gAll(W:World):G:=⟨W,uAll W,fun _=>.none⟩
theorem wf_all(W:World):Wf (gAll W):=fun k hk=>by
 show uAll W k=0;unfold uAll;have:W.heap[k]? =none:=Array.getElem?_eq_none hk;rw[this]
structure RelC (W:World) (ps:List PV) (cs:List Value):Prop where
 len:cs.length=ps.length
 rel:∀(i:Nat) (c:PV),ps[i]? =some c->RelP W (uAll W) c (cs.getD i undef)
theorem Kua{W:World}{p:PV}{v:Value}(h:RelP W (uAll W) p v):RelC W [p] [v]:=⟨rfl,fun i c hi=>by
 cases i with
 | zero=>simp at hi;subst hi;exact h
 | succ i=>simp at hi⟩
theorem qTb{W:World}{p1 p2:List PV}{cs:List Value}{n:Nat}(hn:n=p1.length)(h1:RelC W p1 (cs.take n))(h2:RelC W p2 (cs.drop n)):RelC W (p1++p2) cs:=by
 subst hn;have l1:=h1.len;have l2:=h2.len;simp at l1 l2;refine ⟨by simp;omega,fun i c hi=>?_⟩;rcases Nat.lt_or_ge i p1.length with hlt | hge
 .rw[List.getElem?_append_left hlt]at hi;have:=h1.rel i c hi;simpa[List.getD_eq_getElem?_getD,List.getElem?_take,hlt]using this
 rw[List.getElem?_append_right hge]at hi;have:=h2.rel _ c hi;simp only[List.getD_eq_getElem?_getD,List.getElem?_drop]at this ⊢
 rwa [show p1.length+(i - p1.length)=i by omega]at this
structure ZYa (P:Program) (t:TypeId) {T:Type} (n:Nat) (pc:T->List PV) (ok:T->Prop) (bk:T->Nat):Prop where
 cells:P.cellsOf t=n
 len:∀x,(pc x).length=n
 op:∀{H:Type} {enc:TypeId × Value->H} {W:World} {fuel:Nat} {cs:List Value} {d:DataW H × List MemPlace},DataW.trod enc P W 0 (fun _=>true) true fuel t cs=some d->
  ∃x:T,RelC W (pc x) cs/\ok x/\bk x<=Rows.uptoBulk d.1
def ok64(n:Int):Prop:= -9223372036854775808<=n/\n<=9223372036854775807
def Qfa(s:Str):Prop:=s.length<=maxLen
def okL{T:Type}(ok:T->Prop)(l:List T):Prop:=l.length<=maxLen/\∀x∈l,ok x
def bkL{T:Type}(bk:T->Nat):List T->Nat
 | []=>1
 | x::r=>bk x+bkL bk r
variable {P:Program} {t e:TypeId}
theorem opens_I(ht:P.underlying t=some (.int .i64))(hc:P.cellsOf t=1):ZYa P t 1 cI ok64 (fun _=>1):=⟨hc,fun _=>rfl,fun h=>by
 obtain ⟨n,rfl,rfl,hw⟩:=DataW.trod_int ht h;refine ⟨n,Kua (.b rfl),?_,by simp[Rows.uptoBulk]⟩;unfold ok64;simpa[Lit.wf,IntKind.min,IntKind.max,IntKind.signed,IntKind.bits]using hw⟩
theorem opens_U(ht:P.underlying t=some (.int .u8))(hc:P.cellsOf t=1):ZYa P t 1 cU (fun _=>True) (fun _=>1):=⟨hc,fun _=>rfl,fun {H enc W fuel cs d} h=>by
 obtain ⟨n,rfl,rfl,hw⟩:=DataW.trod_int ht h;have hw:0<=n/\n<=255:=by simpa[Lit.wf,IntKind.min,IntKind.max,IntKind.signed,IntKind.bits]using hw
 refine ⟨UInt8.ofNat n.toNat,Kua ?_,trivial,by simp[Rows.uptoBulk]⟩;have:((UInt8.ofNat n.toNat).toNat:Int)=n:=by
  rw[UInt8.toNat_ofNat'];omega
 show RelP W (uAll W) (.b (.int .u8 _)) _;rw[this];exact .b rfl⟩
theorem opens_S(ht:P.underlying t=some .string)(hc:P.cellsOf t=1):ZYa P t 1 cS Qfa (fun s=>s.length+1):=⟨hc,fun _=>rfl,fun {H enc W fuel cs d} h=>by
 obtain ⟨s,rfl,rfl,hw⟩:=DataW.trod_string ht h;refine ⟨s.data.toList,Kua ?_,?_,?_⟩
 .have:strB s.data.toList=s:=by cases s;simp[strB]
  show RelP W (uAll W) (.b (.string (strB s.data.toList))) _;rw[this];exact .b rfl
 .show s.data.toList.length<=maxLen;have:s.data.toList.length=s.size:=by cases s;rfl
  omega
 simp[Rows.uptoBulk]⟩
theorem bkL_map{T:Type}{H:Type}{bk:T->Nat}(n:Nat)(X:Nat->T)(D:Nat->DataW H)(h:∀i,i < n->bk (X i)<=Rows.uptoBulk (D i)):bkL bk ((List.range n).map X)<=Rows.uptoBulkAll ((List.range n).map D)+1:=by
 suffices h' :∀l:List Nat,(∀i∈l,i < n)->bkL bk (l.map X)<=Rows.uptoBulkAll (l.map D)+1 from h' _ (fun i hi=>List.mem_range.1 hi)
 intro l;induction l with
 | nil=>intro _;simp[bkL]
 | cons i l ih=>
  intro hl;have h1:=h i (hl i (List.mem_cons_self ..));have h2:=ih fun j hj=>hl j (List.mem_cons_of_mem _ hj)
  simp only[List.map_cons,bkL,Rows.uptoBulkAll];omega
theorem qUb{T:Type}[Inhabited T]{n:Nat}{pc:T->List PV}{ok:T->Prop}{bk:T->Nat}(h:ZYa P e n pc ok bk)(hn:Nat.blt 0 n=true)(ht:P.underlying t=some (.slice e))(hc:P.cellsOf t=1):ZYa P t 1 (cL pc) (okL ok) (bkL bk):=⟨hc,fun _=>rfl,fun {H enc W fuel cs d} hd=>by
 have hn:0 < n:=Nat.le_of_ble_eq_true hn;rcases Go.Deep.open_slice ht hd with ⟨rfl,rfl⟩ | ⟨a,len,cap,m,n',D,Pl,rfl,hb,hl,hm,hmm,rfl,hx⟩
 .refine ⟨[],Kua (RelP.sl (a:=none) (cap:=0) 1 0 0 (fun _=>undef) (fun x hx=>by cases hx) (fun _=>⟨rfl,rfl⟩) (by simp) (by simp) (by simp) (by simp) (fun i hi=>by simp at hi) (fun i j e c hi=>by simp at hi)),⟨Nat.zero_le _,by simp⟩,by simp[bkL,Rows.uptoBulk]⟩
 simp only[if_true]at hmm;subst hmm;obtain ⟨X,hX⟩:=Go.Deep.choose_lt (n:=len) (p:=fun i (x:T)=>∃cs',W.cells? 0 (a.add (i * P.cellsOf e)) (P.cellsOf e)=some cs' /\RelC W (pc x) cs' /\ok x/\bk x<=Rows.uptoBulk (D i)) (fun i hi=>by
  obtain ⟨cs',h1,h2⟩:=hx i (by omega);obtain ⟨x,h3,h4,h5⟩:=h.op h2;exact ⟨x,cs',h1,h3,h4,h5⟩)
 rw[h.cells]at hX;have hcell:∀i j,i < len->j < n->∃v,W.cell? (a.add (i * n+j))=some v/\∀c,(pc (X i))[j]? =some c->RelP W (uAll W) c v:=by
  intro i j hi hj;obtain ⟨cs',h1,h2,_⟩:=hX i hi;obtain ⟨_,hlen,hget⟩:=World.cells?_some h1;have hj' :=hget j hj;have hadd:(a.add (i * n)).add j=a.add (i * n+j):=by
   unfold Addr.add;by_cases h0:j=0
   .simp[h0]
   by_cases h00:i * n=0
   .simp[h0,h00]
   rw[if_neg h0,if_neg h00,if_neg (by omega)];simp[Nat.add_assoc]
  rw[hadd]at hj';have hlt:j < cs'.length:=by omega
  refine ⟨cs'[j],by rw[hj'];exact List.getElem?_eq_getElem hlt,fun c hc' =>?_⟩;have:=h2.rel j c hc';simpa[List.getD_eq_getElem?_getD,List.getElem?_eq_getElem hlt]using this
 by_cases h0:len=0
 .subst h0;refine ⟨[],Kua (RelP.sl (elems:=[]) (a:=some a) (cap:=m) 1 0 0 (fun _=>undef) (fun x hx=>by cases hx) (fun hx=>by cases hx) (by simp) (by simp) (by simp) (by simp) (fun i hi=>by simp at hi) (fun i j e c hi=>by simp at hi)),⟨Nat.zero_le _,by simp⟩,by simp[bkL,Rows.uptoBulk]⟩
 obtain ⟨b,off,spot⟩:=a;have hspot:spot=none:=by
  obtain ⟨v,hv,_⟩:=hcell 0 0 (by omega) hn;simpa[Addr.add]using World.cell?_spot hv
 subst hspot;have hadd:∀i,(⟨b,off,none⟩:Addr).add i=⟨b,off+i,none⟩:=by
  intro i;unfold Addr.add;by_cases h0:i=0
  .simp[h0]
  simp[h0]
 simp only[hadd]at hcell;have hdm:∀i j,j < n->(i * n+j) / n=i/\(i * n+j) % n=j:=by
  intro i j hj;rw[Nat.mul_comm,Nat.mul_add_div hn,Nat.mul_add_mod];exact ⟨by rw[Nat.div_eq_of_lt hj];rfl,Nat.mod_eq_of_lt hj⟩
 have hcv:∀k,k < len * n->∃v,W.cell? ⟨b,off+k,none⟩=some v/\∀c,(pc (X (k / n)))[k % n]? =some c->RelP W (uAll W) c v:=by
  intro k hk;have h1:k / n < len:=Nat.div_lt_of_lt_mul (by rw[Nat.mul_comm];exact hk);have h2:k % n < n:=Nat.mod_lt _ hn;have:=hcell (k / n) (k % n) h1 h2
  rwa [show k / n * n+k % n=k by rw[Nat.mul_comm];exact Nat.div_add_mod k n]at this
 obtain ⟨V,hV⟩:=Go.Deep.choose_lt (α:=Value) hcv;refine ⟨(List.range len).map X,?_,⟨by simp;omega,?_⟩,?_⟩
 .have key:RelP W (uAll W) (.sl none (((List.range len).map X).map pc)) (.slice (some ⟨b,off,none⟩) (((List.range len).map X).map pc).length m):=by
   refine .sl n b off V (fun x hx=>by cases hx) (fun hx=>by cases hx) (by simpa using hl) (fun e he=>?_) (fun _=>rfl) (fun _=>?_) (fun i hi=>?_) (fun i j e' c hi hj=>?_)
   .simp only[List.map_map,List.mem_map]at he;obtain ⟨i,_,rfl⟩:=he;exact h.len _
   .simp only[List.length_map,List.length_range];have hpos:0 < len * n:=Nat.mul_pos (by omega) hn;obtain ⟨hv,_⟩:=hV (len * n - 1) (by omega);obtain ⟨h1,h2⟩:=jfb hv;exact ⟨by omega,h2⟩
   .exact (hV i (by simpa using hi)).1
   simp only[List.getElem?_map,List.map_map]at hi;rw[Option.map_eq_some_iff]at hi;obtain ⟨i',hi',rfl⟩:=hi;obtain ⟨hlt,rfl⟩:=List.getElem?_eq_some_iff.1 hi';simp only[List.length_range]at hlt;simp only[List.getElem_range,Function.comp]at hj;have hjn:j < n:=by have:=(List.getElem?_eq_some_iff.1 hj).1;rw[h.len]at this;exact this
   have hk:i * n+j < len * n:=by
    have:=Nat.mul_le_mul_right n (show i+1<=len from hlt);rw[Nat.add_mul]at this;omega
   have:=(hV _ hk).2 c;rw[(hdm i j hjn).1,(hdm i j hjn).2]at this;exact this hj
  have hl' :(((List.range len).map X).map pc).length=len:=by simp
  rw[hl']at key;exact Kua key
 .intro x hx;simp only[List.mem_map,List.mem_range]at hx;obtain ⟨i,hi,rfl⟩:=hx;obtain ⟨_,_,_,h4,_⟩:=hX i hi;exact h4
 have:=bkL_map len X D (fun i hi=>by obtain ⟨_,_,_,_,h5⟩:=hX i hi;exact h5);simp only[Rows.uptoBulk];omega⟩
theorem arg_agg{T:Type}{n:Nat}{pc:T->List PV}{ok:T->Prop}{bk:T->Nat}(h:ZYa P t n pc ok bk){H:Type}{enc:TypeId × Value->H}{W:World}{v:Value}{d:DataW H}{ps:List MemPlace}(hv:∃cs,v=.agg cs)(hd:DataW.Trod enc P W 0 (fun _=>true) true t v d ps):
 ∃x,Rel (gAll W) (.agg ((pc x).map .pv)) v/\ok x/\bk x<=Rows.uptoBulk d:=by
 obtain ⟨cs,rfl⟩:=hv;obtain ⟨fuel,hf⟩:=hd;obtain ⟨x,h1,h2,h3⟩:=h.op hf;refine ⟨x,?_,h2,h3⟩;have hl:=h1.len;simp only[Value.cells,Array.length_toList]at hl;have hr:∀(i:Nat) (c:PV),(pc x)[i]? =some c->RelP W (uAll W) c (cs.getD i undef):=fun i c hi=>by
  have:=h1.rel i c hi;simpa[Value.cells,List.getD_eq_getElem?_getD,Array.getD_eq_getD_getElem?]using this
 refine .agg (by simpa using hl) (fun i hi=>?_) (fun i c hi=>?_)
 .have hlt:i < (pc x).length:=by omega
  exact (hr i _ (List.getElem?_eq_getElem hlt)).cellV
 simp only[List.getElem?_map,Option.map_eq_some_iff]at hi;obtain ⟨c',hc,rfl⟩:=hi;exact .pv (hr i c' hc)
theorem klb{f:FuncId}{args:List AV}(h:Run P f args (.pv (pB true))){W:World}{vs:Array Value}(hgl:Gl (gAll W))(ha:yOa (gAll W) args vs):Calls P f vs W fun e W' =>e=.returned (.bool true)/\Below W.heap.size W W' :=by
 refine callsIn_wide.1 ((h.run (gAll W) vs (wf_all W) hgl ha).mono ?_);rintro e w' ⟨g',v,rfl,hl,ho,hw,rfl,hv⟩;refine ⟨by rw[QJa hv],⟨ho.os,ho.tape,ho.output,ho.ext.size,fun k hk=>(ho.block k hk (by simp)).1⟩⟩
theorem wma{W:World}{p1 p2:List PV}{cs:List Value}{off n:Nat}(hn:n=p1.length)(h1:RelC W p1 ((cs.drop off).take n))(h2:RelC W p2 (cs.drop (off+n))):RelC W (p1++p2) (cs.drop off):=qTb hn h1 (by rw[List.drop_drop];exact h2)
theorem QSa{W:World}{cs:List Value}{k:Nat}(h:cs.length=k):RelC W [] (cs.drop k):=⟨by simp[h],fun i c hi=>by simp at hi⟩
inductive RelL (g:G):List AV->List Value->Prop
 | nil:RelL g [] []
 | cons {c:AV} {v:Value} {cs:List AV} {vs:List Value} (h:Rel g c v) (r:RelL g cs vs):RelL g (c::cs) (v::vs)
theorem wPb{g:G}{cs:List AV}{vs:List Value}(h:RelL g cs vs):yOa g cs vs.toArray:=by
 have key:vs.length=cs.length/\∀(i:Nat) (c:AV),cs[i]? =some c->Rel g c (vs.getD i undef):=by
  induction h with
  | nil=>exact ⟨rfl,fun i c hi=>by simp at hi⟩
  | cons h _ ih=>
   refine ⟨by simp[ih.1],fun i c hi=>?_⟩;cases i with
   | zero=>simp at hi;subst hi;exact h
   | succ i=>exact ih.2 i c (by simpa using hi)
 exact ⟨by simpa using key.1,fun i c hi=>by have:=key.2 i c hi;simpa[List.getD_eq_getElem?_getD]using this⟩
end
section
def Blk(w:World)(b:Nat)(t:TypeId)(cs:Array Value):Prop:=w.heap[b]? =some (.cells cs t (0,0))
theorem Blk.lt{w:World}{b:Nat}{t:TypeId}{cs:Array Value}(h:Blk w b t cs):b < w.heap.size:=by
 rcases Nat.lt_or_ge b w.heap.size with hlt | hge
 .exact hlt
 unfold Blk at h;rw[Array.getElem?_eq_none hge]at h;cases h
theorem Blk.two{w:World}{b:Nat}{t:TypeId}{x y:Value}(h:Blk w b t #[x,y]):
 w.cell? ⟨b,0,none⟩=some x/\w.cell? ⟨b,1,none⟩=some y/\w.frozen? ⟨b,0,none⟩=false/\w.frozen? ⟨b,1,none⟩=false/\b < w.heap.size:=by
 refine ⟨?_,?_,?_,?_,h.lt⟩ <;> unfold Blk at h <;> simp[World.cell?,World.frozen?,h]
theorem Blk.new(w:World)(t:TypeId)(cs:Array Value):Blk (w.alloc (.cells cs t)) w.heap.size t cs:=heap_alloc_new w _
theorem Blk.alloc{w:World}{b:Nat}{t:TypeId}{cs:Array Value}(h:Blk w b t cs)(o:Obj):Blk (w.alloc o) b t cs:=(Below.heap_alloc w o b h.lt).trans h
section
variable {w1 w2:World} {b t:Nat} {cs:Array Value} {o:Obj}
end
end
section
open Go.ChangeShapes Go.WideShapes Go.ChangeAt Go.RowKit Go.Proofs.Tryz
open Go.ChangeMaps (open_string shut_string)
theorem own:ownKnob prog.godebug=none:=by kernel_rfl
theorem laidOut:laidOutB prog=true:=by kernel_rfl
theorem QTa{H:Type}{enc:TypeId × Value->H}{P:Program}(hl:laidOutB P=true){W W' :World}(hb:Below W.heap.size W W'):
 ∀(ts:List TypeId) (vs:List Value) (ds:List (DataW H)) (ps:List MemPlace),(ts.all fun t=>P.readableRec t && decide (t < P.types.size))=true->
  DataW.TrodAll enc P W 0 (fun _=>true) true ts vs ds ps->DataW.TrodAll enc P W' 0 (fun b=>decide (b < W.heap.size)) true ts vs ds ps
 | [],[],[],_,_,h=>h
 | t::ts,v::vs,d::ds,ps,hts,⟨p,q,h,hs,e⟩=>by
  simp only[List.all_cons,Bool.and_eq_true,decide_eq_true_eq]at hts;have lt:∀x∈p,x.block < W.heap.size:=by obtain ⟨m,hm⟩:=h;exact DataW.trod_lt m _ _ _ hm
  exact ⟨p,q,Below.trod hl hts.1.1 hts.1.2 h hb lt,QTa hl hb ts vs ds q hts.2 hs,e⟩
theorem jgb{H:Type}{enc:TypeId × Value->H}{P:Program}{f:Func}{s:ChangeSpec}{t:TypeId}(hl:laidOutB P=true)(hres:f.resultTypes= #[t])(ht:P.underlying t=some .bool)
 (hts:(f.params.toList.all fun t=>P.readableRec t && decide (t < P.types.size))=true) {W W' :World} {args:Array Value} {ds gs:List (DataW H)} {before:List MemPlace} (hv:s.vars=[])
 (hspec:s.fn H (ds++gs)={results:=[.lit (.bool true)],args:=ds,vars:=[]})
 (hW:DataW.Whole enc P f.params.toList s.vars false W args.toList ds gs before) (hb:Below W.heap.size W W'):
 s.post enc P f false true false false W args (.bool true) W' :=by
 have hW' :=hW;obtain ⟨p,q,hA,hV,hbe,hfz,hnd⟩:=hW;refine ⟨ds,gs,before,[],p,[],hW',?_,?_,?_,?_,fun h=>by cases h⟩
 .rw[hspec,hres];exact trodAll_mk1 (shut_bool ht _)
 .rw[hspec];exact QTa hl hb _ _ _ _ hts hA
 .rw[hspec,hv];rfl
 have hq:q=[]:=by rw[hv]at hV;cases gs with
  | nil=>exact hV
  | cons g gs=>exact hV.elim
 refine World.keptBut_mono (fun p hp=>⟨hp,?_⟩) (hb.frame (· ∈before));rw[hbe,hq,List.append_nil]at hp;exact .inr (.inl hp)
end
section
open Go.WideShapes
def jf0(P:Program)(f:FuncId)(fn:Func)(s:ChangeSpec)(c:OpenClaim):Bool:=c.wf (OpenSpec.ofChange s)
def jf1(P:Program)(f:FuncId)(fn:Func)(s:ChangeSpec)(c:OpenClaim):Bool:=laidOutB P
def jf2(P:Program)(f:FuncId)(fn:Func)(s:ChangeSpec)(c:OpenClaim):Bool:=mapsRowed P
def jf3(P:Program)(f:FuncId)(fn:Func)(s:ChangeSpec)(c:OpenClaim):Bool:=fn.params.all (P.readableRec ·)
def jf4(P:Program)(f:FuncId)(fn:Func)(s:ChangeSpec)(c:OpenClaim):Bool:=namedTie P c.named s.vars
def jf5(P:Program)(f:FuncId)(fn:Func)(s:ChangeSpec)(c:OpenClaim):Bool:=(c.stops==[])
def jf6(P:Program)(f:FuncId)(fn:Func)(s:ChangeSpec)(c:OpenClaim):Bool:=(P.stops==[])
def jf7(P:Program)(f:FuncId)(fn:Func)(s:ChangeSpec)(c:OpenClaim):Bool:=(c.knobs==[])
def jf8(P:Program)(f:FuncId)(fn:Func)(s:ChangeSpec)(c:OpenClaim):Bool:=(P.stopKnobs==[])
def jf9(P:Program)(f:FuncId)(fn:Func)(s:ChangeSpec)(c:OpenClaim):Bool:=(c.inPlace==P.inPlace f)
def jf10(P:Program)(f:FuncId)(fn:Func)(s:ChangeSpec)(c:OpenClaim):Bool:=(c.unfollowed==P.unfollowed f)
def jf11(P:Program)(f:FuncId)(fn:Func)(s:ChangeSpec)(c:OpenClaim):Bool:=(c.recurses==P.recurses f)
def jf12(P:Program)(f:FuncId)(fn:Func)(s:ChangeSpec)(c:OpenClaim):Bool:=(c.named==P.varsNamed f)
def jf13(P:Program)(f:FuncId)(fn:Func)(s:ChangeSpec)(c:OpenClaim):Bool:=(c.maps==(fn.params.toList++s.plain.varTypes P).any (P.mapsRec ·))
def jf14(P:Program)(f:FuncId)(fn:Func)(s:ChangeSpec)(c:OpenClaim):Bool:=(c.ifaces==(fn.params.toList++s.plain.varTypes P).any (P.ifacesRec ·))
def jf15(P:Program)(f:FuncId)(fn:Func)(s:ChangeSpec)(c:OpenClaim):Bool:=(c.mapsOut==P.mapsAmong fn.resultTypes.toList)
def jf16(P:Program)(f:FuncId)(fn:Func)(s:ChangeSpec)(c:OpenClaim):Bool:=(c.loops==(fn.params.toList++s.plain.varTypes P).any (P.loopsFrom ·))
def jf17(P:Program)(f:FuncId)(fn:Func)(s:ChangeSpec)(c:OpenClaim):Bool:=(c.wideKeys==(fn.params.toList++s.plain.varTypes P++fn.resultTypes.toList).any (P.wideKeysFrom ·))
def jf18(P:Program)(f:FuncId)(fn:Func)(s:ChangeSpec)(c:OpenClaim):Bool:=s.vars.all (P.varReadable ·)
def jf19(P:Program)(f:FuncId)(fn:Func)(s:ChangeSpec)(c:OpenClaim):Bool:=fn.resultTypes.all (fun t=>P.readableRec t && decide (t < P.types.size))
def jf20(P:Program)(f:FuncId)(fn:Func)(s:ChangeSpec)(c:OpenClaim):Bool:=(c.ifacesOut==fn.resultTypes.toList.any (P.ifacesRec ·))
def jf21(P:Program)(f:FuncId)(fn:Func)(s:ChangeSpec)(c:OpenClaim):Bool:=(c.loopsOut==fn.resultTypes.toList.any (P.loopsFrom ·))
def jf22(P:Program)(f:FuncId)(fn:Func)(s:ChangeSpec)(c:OpenClaim):Bool:=(c.plainKeys==P.plainKeys)
def jf23(P:Program)(f:FuncId)(fn:Func)(s:ChangeSpec)(c:OpenClaim):Bool:=c.shortTexts.isNone
def jf24(P:Program)(f:FuncId)(fn:Func)(s:ChangeSpec)(c:OpenClaim):Bool:=P.stopsHeard
def jf25(P:Program)(f:FuncId)(fn:Func)(s:ChangeSpec)(c:OpenClaim):Bool:=P.mayEnter
def jf26(P:Program)(f:FuncId)(fn:Func)(s:ChangeSpec)(c:OpenClaim):Bool:=(c.lifted==P.liftsFinal)
def jf27(P:Program)(f:FuncId)(fn:Func)(s:ChangeSpec)(c:OpenClaim):Bool:=(P.make==some c.make)
def jf28(P:Program)(f:FuncId)(fn:Func)(s:ChangeSpec)(c:OpenClaim):Bool:=(c.kinds==(if c.domain.isEmpty then [] else fn.params.toList.map fun t=>match P.underlying t with | some (.int k)=>some k | _=>none))
def jf29(P:Program)(f:FuncId)(fn:Func)(s:ChangeSpec)(c:OpenClaim):Bool:=(c.pinned==c.pinnedBy)
def jf30(P:Program)(f:FuncId)(fn:Func)(s:ChangeSpec)(c:OpenClaim):Bool:=(c.veiled==(fn.params.toList++s.plain.varTypes P++fn.resultTypes.toList).any (P.veiledRec ·))
def jf31(P:Program)(f:FuncId)(fn:Func)(s:ChangeSpec)(c:OpenClaim):Bool:=c.veiledFits P fn.params.toList (fn.params.toList++s.plain.varTypes P++fn.resultTypes.toList)
theorem jhb{P:Program}{f:FuncId}{fn:Func}{s:ChangeSpec}{c:OpenClaim}(h0:jf0 P f fn s c=true)(h1:jf1 P f fn s c=true)(h2:jf2 P f fn s c=true)(h3:jf3 P f fn s c=true)(h4:jf4 P f fn s c=true)(h5:jf5 P f fn s c=true)(h6:jf6 P f fn s c=true)(h7:jf7 P f fn s c=true)(h8:jf8 P f fn s c=true)(h9:jf9 P f fn s c=true)(h10:jf10 P f fn s c=true)(h11:jf11 P f fn s c=true)(h12:jf12 P f fn s c=true)(h13:jf13 P f fn s c=true)(h14:jf14 P f fn s c=true)(h15:jf15 P f fn s c=true)(h16:jf16 P f fn s c=true)(h17:jf17 P f fn s c=true)(h18:jf18 P f fn s c=true)(h19:jf19 P f fn s c=true)(h20:jf20 P f fn s c=true)(h21:jf21 P f fn s c=true)(h22:jf22 P f fn s c=true)(h23:jf23 P f fn s c=true)(h24:jf24 P f fn s c=true)(h25:jf25 P f fn s c=true)(h26:jf26 P f fn s c=true)(h27:jf27 P f fn s c=true)(h28:jf28 P f fn s c=true)(h29:jf29 P f fn s c=true)(h30:jf30 P f fn s c=true)(h31:jf31 P f fn s c=true):joinedFacts P f fn s c=true:=by
 unfold joinedFacts;simp only[Bool.and_eq_true];exact ⟨⟨⟨⟨⟨⟨⟨⟨⟨⟨⟨⟨⟨⟨⟨⟨⟨⟨⟨⟨⟨⟨⟨⟨⟨⟨⟨⟨⟨⟨⟨h0,h1⟩,h2⟩,h3⟩,h4⟩,h5⟩,h6⟩,h7⟩,h8⟩,h9⟩,h10⟩,h11⟩,h12⟩,h13⟩,h14⟩,h15⟩,h16⟩,h17⟩,h18⟩,h19⟩,h20⟩,h21⟩,h22⟩,h23⟩,h24⟩,h25⟩,h26⟩,h27⟩,h28⟩,h29⟩,h30⟩,h31⟩
end
section
open Go.ChangeShapes Go.WideShapes Go.ChangeAt Go.RowKit Go.Proofs.Tryz
abbrev jib (rest : List (String × DataW Unit)) : List (String × DataW Unit) := ("math/bits.deBruijn32tab", Rows.laid_math_bits_deBruijn32tab) :: ("math/bits.deBruijn64tab", Rows.laid_math_bits_deBruijn64tab) :: ("internal/strconv.uint64pow10", Rows.laid_internal_strconv_uint64pow10) :: rest
theorem wQb{W:World}{rest:List (String × DataW Unit)}(h:W.ShapedOpen prog)(hn:((jib rest).all fun x=>x.2.handleName?.isNone)=true)(hL:laidMetH prog (jib rest) W)(hI:laidMet prog (jib rest) W->∀k∈wAb,∃tp x t fz,W.heap[k]? =some (.cells #[.iface tp x] t fz)):Gl (gAll W):=by
 have hm:laidMet prog (jib rest) W:=by
  have:=Go.MakeChecks.laidMetH_plain prog (jib rest) W hn;rw[<-this];exact hL
 refine ⟨fun p hp=>?_,fun p hp=>?_,hI hm⟩
 .simp only[yCb,List.mem_cons,List.not_mem_nil,or_false]at hp;subst hp;obtain ⟨m,hm⟩:=cell_of_shapedOpen_int (P:=prog) (g:=0) (t:=3) (zero:= #[.int .i64 0]) h (of_decide_eq_true (by kernel_rfl)) (by kernel_rfl) rfl (by kernel_rfl) (by kernel_rfl) underlying3;obtain ⟨h1,h2⟩:=jfb hm;exact ⟨h2,h1,m,hm⟩
 simp only[globK,List.mem_cons,List.not_mem_nil,or_false]at hp;subst hp;have hT := Lib.tabIs_of_head (P := prog) (W := W) (name := "internal/strconv.uint64pow10") (k := .u64) (zs := Lib.pow10Tab) (g := 1) (t := 220) (e := 200) (n := 20) (by kernel_rfl) (by kernel_rfl) (by kernel_rfl) (by kernel_rfl) (by kernel_rfl) (by kernel_rfl) hm.tail.tail
 have hn : prog.globalNamed "internal/strconv.uint64pow10" = some 1 := by kernel_rfl
 unfold Lib.TabIs World.var? at hT;rw[hn]at hT;simp only[Option.bind_some]at hT;show ∃t fz,W.heap[1]? =_;cases hh:W.heap[1]? with
 | none=>rw[hh]at hT;cases hT
 | some o=>
  rw[hh]at hT;cases o with
  | cells cs t fz=>simp only[Option.some.injEq]at hT;subst hT;exact ⟨t,fz,rfl⟩
  | _=>simp at hT
end
section
open Go.ChangeShapes Go.WideShapes Go.ChangeAt Go.RowKit Go.Proofs.Tryz
theorem jjb : "*" ++ "errors.errorString" = "*errors.errorString" := by decide
theorem errRow (u : TypeId) (h : prog.typeName? 3 u = some "*errors.errorString") : u = 291 :=
 typeName_ptr_named (nm := "errors.errorString") (by rw [jjb]; kernel_rfl) (by kernel_rfl) (by decide) u (by rw [jjb]; exact h)
theorem wRb {W : World} {rest : List (String × DataW Unit)} (h : laidMet prog (("strconv.ErrSyntax", Rows.laid_strconv_ErrSyntax) :: rest) W) : ∀ k ∈ wAb, ∃ tp x t fz, W.heap[k]? = some (.cells #[.iface tp x] t fz) := by
 intro k hk;simp only[wAb,List.mem_cons,List.not_mem_nil,or_false]at hk;subst hk;have hn : prog.globalNamed "strconv.ErrSyntax" = some 6 := by kernel_rfl
 obtain ⟨a, s, hv, _⟩ := laid_sentinel (P := prog) (ti := 206) (tp := 291) (te := 293) (ts := 9) (ms := #[("Error", 228)]) (f := ⟨"s", 9, 0, false, "", "errors", 0⟩) h hn (by kernel_rfl) (by kernel_rfl) errRow (by kernel_rfl) (by kernel_rfl) rfl rfl (by kernel_rfl) (by kernel_rfl) (by kernel_rfl)
 unfold World.var? at hv;rw[hn]at hv;simp only[Option.bind_some]at hv;cases hh:W.heap[6]? with
 | none=>rw[hh]at hv;cases hv
 | some o=>
  rw[hh]at hv;cases o with
  | cells cs t fz=>simp only[Option.some.injEq]at hv;subst hv;exact ⟨_,_,t,fz,rfl⟩
  | _=>simp at hv
end
section
theorem Sto.get_mem{σ:Sto}{o:Nat}{ob:AO}(h:σ.get o=some ob):(o,ob)∈σ:=by
 induction σ with
 | nil=>simp[Sto.get]at h
 | cons x s ih=>
  obtain ⟨k,a⟩:=x;rw[Sto.get_cons]at h;split at h
  .rename_i hk;cases h;subst hk;exact List.mem_cons_self
  exact List.mem_cons_of_mem _ (ih h)
theorem Sto.get_append(s1 s2:Sto)(o:Nat):Sto.get (s1++s2) o=(Sto.get s1 o).or (Sto.get s2 o):=by
 induction s1 with
 | nil=>simp[Sto.get]
 | cons x s ih=>
  obtain ⟨k,a⟩:=x;rw[List.cons_append,Sto.get_cons,Sto.get_cons,ih];split <;> rfl
theorem vTb{l:List Nat}{a:Nat}(h:l.contains a=true):a∈l:=by simpa using h
def AV.okS(rows:List Nat):AV->Bool
 | .pv _=>true
 | .hs r _=>rows.contains r
 | _=>false
def AO.okS(rows:List Nat):AO->Bool
 | .cells cs=>cs.all (AV.okS rows)
 | .row _ _ _ _=>true
 | .opq _ _ _=>true
 | _=>false
def Sto.okS(O:Nat)(rows:List Nat)(σ:Sto):Bool:=σ.all fun p=>(Nat.beq p.1 O || rows.contains p.1) && p.2.okS rows
theorem AV.okS_has{rows:List Nat}{c:AV}{k:Nat}(h:c.okS rows=true)(hk:c.has k=true):k∈rows:=by
 unfold AV.okS at h;split at h
 .simp[AV.has]at hk
 .have:=Nat.eq_of_beq_eq_true hk;subst this;exact vTb h
 cases h
theorem AV.hasL_mem{k:Nat}{cs:List AV}(h:AV.hasL k cs=true):∃c∈cs,c.has k=true:=by
 induction cs with
 | nil=>simp[AV.hasL]at h
 | cons c cs ih=>
  unfold AV.hasL at h;simp only[Bool.or_eq_true]at h;rcases h with h | h
  .exact ⟨c,List.mem_cons_self,h⟩
  obtain ⟨d,hd,h⟩:=ih h;exact ⟨d,List.mem_cons_of_mem _ hd,h⟩
theorem AO.okS_has{rows:List Nat}{ob:AO}{k:Nat}(h:ob.okS rows=true)(hk:ob.has k=true):k∈rows:=by
 cases ob with
 | cells cs=>
  obtain ⟨c,hc,hck⟩:=AV.hasL_mem hk;exact AV.okS_has (List.all_eq_true.1 h c hc) hck
 | row=>simp[AO.has]at hk
 | opq=>simp[AO.has]at hk
 | _=>cases h
theorem Sto.okS_get{O:Nat}{rows:List Nat}{σ:Sto}(h:σ.okS O rows=true){o:Nat}{ob:AO}(ho:σ.get o=some ob):(o=O∨o∈rows)/\ob.okS rows=true:=by
 have:=List.all_eq_true.1 h _ (Sto.get_mem ho);simp only[Bool.and_eq_true,Bool.or_eq_true]at this;exact ⟨this.1.imp Nat.eq_of_beq_eq_true vTb,this.2⟩
structure Own (g:G) (σ:Sto):Prop where
 obj:∀o ob,σ.get o=some ob->RelO g o ob
 apart:∀o o' ob ob' b,σ.get o=some ob->σ.get o' =some ob' ->ob.blk (g.loc o)=some b->ob'.blk (g.loc o')=some b->o=o'
 low:∀o ob b,σ.get o=some ob->ob.blk (g.loc o)=some b->¬GlB b
def SB(g:G)(σ:Sto)(b:Nat):Prop:=∃o ob,σ.get o=some ob/\ob.blk (g.loc o)=some b
structure RunS (P:Program) (f:FuncId) (args:List AV) (σ0:Sto) (r:AV) (σ1:Sto) (O:Nat) (rows:List Nat):Prop where
 ok:∃fn c,FnOk P f fn c
 ok0:σ0.okS O rows=true
 ok1:σ1.okS O rows=true
 run:∀g vs,Wf g->Gl g->Own g σ0->yOa g args vs->CallsIn (fen none) 0 P f vs g.w fun e w' =>∃g' v,g'.w=w' /\(∀k,k ∉ rows->g'.loc k=g.loc k)/\Old (SB g σ0) g g' /\Wf g' /\e=.returned v/\Rel g' r v/\
  (∀o ob,σ1.get o=some ob->RelO g' o ob)/\(∀o o' ob ob' b,σ1.get o=some ob->σ1.get o' =some ob' ->ob.blk (g'.loc o)=some b->ob'.blk (g'.loc o')=some b->o=o')/\
  (∀o ob b,σ1.get o=some ob->ob.blk (g'.loc o)=some b->g.w.heap.size<=b∨SB g σ0 b)
variable {P:Program} {σ:Sto} {dst:Option Tmp} {ty:TypeId} {pos:String} {af:Array Edge} {gu:Option (Nat × Bool)} {E:Env} {fr:Fr} {K:Post}
theorem wSb{g g' :G}{o:Nat}{ob:AO}{rows:List Nat}(hk:ob.okS rows=true)(h:RelO g o ob)(hx:Ext0 g.w g.u g'.w g'.u)(hl:g'.loc o=g.loc o)(hh:∀k∈rows,g'.loc k=g.loc k)
 (hb:∀(b:Nat) (vs:Array Value) (t:TypeId) (fz:Nat × Nat),g.w.heap[b]? =some (Obj.cells vs t fz)->g'.w.heap[b]? =g.w.heap[b]?) (hu:g'.u=g.u):RelO g' o ob:=by
 cases h with
 | @cells cs b t vs h1 h2 h3 h4 h5 h6=>
  exact .cells (hl.trans h1) ((hb _ _ _ _ h2).trans h2) h3 (by rw[hu];exact h4) h5 fun i c hi=>(h6 i c hi).mono0 hx fun k hck=>hh k (AV.okS_has (List.all_eq_true.1 hk c (List.mem_of_getElem? hi)) hck)
 | nil h1=>exact .nil (hl.trans h1)
 | @row e mu size elems b off cap vs h1 h2 h3 h3' h4 h5 h6 h7 h9=>
  exact .row (hl.trans h1) ((hb _ _ _ _ h2).trans h2) h3 h3' h4 h5 (by rw[hu];exact h6) (by rw[hu];exact h7) fun i j x c hi hj=>(h9 i j x c hi hj).mono0 hx
 | @opq t t1 n Q b vs h1 h2 h3 h4 h5=>exact .opq (hl.trans h1) ((hb _ _ _ _ h2).trans h2) h3 (by rw[hu];exact h4) fun w' u' hx' =>h5 w' u' (hx.trans hx')
 | _=>cases hk
def jkb(P:Program)(fn:Func)(r hc:AV)(H:Nat)(T:Array Value)(σ1:Sto):Post:=fun e fr σ=>(e=.ret∨e=.normal)/\(∃cs,ResL P fr σ fn.results.toList cs/\Wia cs=r)/\k8a σ ((H,.hold hc (T.getD 0 undef))::σ1)
theorem wTb{fn:Func}{r hc:AV}{H:Nat}{T:Array Value}{σ1:Sto}:Mono (jkb P fn r hc H T σ1):=fun x fr σ fr' σ' hf hs ⟨h1,⟨cs,h2,h2'⟩,h3⟩=>⟨h1,⟨cs,h2.le hf hs,h2'⟩,yNa hs h3⟩
theorem qVb{f:FuncId}{fn:Func}{c:Code}(hok:FnOk P f fn c){args:List AV}{r hc:AV}{σ0 σ1:Sto}{O H:Nat}{rows:List Nat}(hN:Nat.ble args.length fn.ntmps=true)(hr:∀k,r.has k=true->k∈rows)(h0:(hc=.ptr O 0/\args[0]? =some (.ptr O 0))∨(hc=.any/\Sto.get σ1 O=none))
 (k0:σ0.okS O rows=true) (k1:σ1.okS O rows=true) (hH:Sto.get σ0 H=none) (hH1:Sto.get σ1 H=none)
 (h:∀g0 (hg:Gl g0) (S:Nat->Prop) (sg:∀k,GlB k->¬S k) (T:Array Value),AWP ⟨P,none,g0,fn.ntmps,false,hg,S,sg⟩ c (qra 0 args) ((H,.hold hc (T.getD 0 undef))::σ0) (jkb P fn r hc H T σ1)):RunS P f args σ0 r σ1 O rows:=by
 refine ⟨⟨fn,c,hok⟩,k0,k1,fun g vs hw hgl hown ⟨hsz,ha⟩=>?_⟩;have hN:=Nat.le_of_ble_eq_true hN;have hget0:∀o ob,Sto.get ((H,AO.hold hc (vs.getD 0 undef))::σ0) o=some ob->(o=H/\ob=.hold hc (vs.getD 0 undef))∨(o≠H/\σ0.get o=some ob):=by
  intro o ob ho;rw[Sto.get_cons]at ho;split at ho
  .rename_i hk;cases ho;exact .inl ⟨hk.symm,rfl⟩
  rename_i hk;exact .inr ⟨Ne.symm hk,ho⟩
 refine callsIn_of_wp_marks hok.f hok.b trivial<|wpIn_mono ((h g hgl (SB g σ0) (fun k hk ⟨o,ob,h1,h2⟩=>hown.low o ob k h1 h2 hk) vs).go g _ ⟨fun d=>?_,by simp;omega,⟨Dok.nil _ _,fun _=>rfl⟩,⟨?_,?_,?_,Old.refl _ g,hw⟩⟩) ?_
 .rw[yya];simp only[Nat.zero_le,if_true,Nat.sub_zero];cases hc:args[d]? with
  | none=>exact .any _
  | some c=>
   have hlt:d < vs.size:=by rw[hsz];exact (List.getElem?_eq_some_iff.1 hc).1
   have:=ha d c hc;rw[Array.getD_eq_getD_getElem?,Array.getElem?_append_left hlt,<-Array.getD_eq_getD_getElem?];exact this
 .intro o ob ho;rcases hget0 o ob ho with ⟨rfl,rfl⟩ | ⟨_,ho⟩
  .rcases h0 with ⟨rfl,h0⟩ | ⟨rfl,_⟩
   .exact .hold (ha 0 _ h0)
   exact .hold (.any _)
  exact hown.obj o ob ho
 .intro o o' ob ob' b h1 h2 h3 h4;rcases hget0 o ob h1 with ⟨rfl,rfl⟩ | ⟨_,h1⟩
  .cases h3
  rcases hget0 o' ob' h2 with ⟨rfl,rfl⟩ | ⟨_,h2⟩
  .cases h4
  exact hown.apart o o' ob ob' b h1 h2 h3 h4
 .intro o ob b h1 h2;rcases hget0 o ob h1 with ⟨rfl,rfl⟩ | ⟨_,h1⟩
  .cases h2
  exact .inr ⟨o,ob,h1,h2⟩
 rintro e a w' ⟨g',fr',σ',rfl,hst,he,⟨cs,hres,rfl⟩,hle⟩;obtain ⟨bs,hds,hnd,hbs⟩:=hst.df.ok;have hO:(∃ob,σ1.get O=some ob)->g'.loc O=g.loc O:=by
  rintro ⟨ob,hob⟩;rcases h0 with ⟨hce,h0⟩ | ⟨_,h0⟩
  case inr=>rw[h0]at hob;cases hob
  have hh:=hle H (.hold hc (vs.getD 0 undef)) (by rw[Sto.get_cons,if_pos rfl]);have hh:σ'.get H=some (.hold hc (vs.getD 0 undef)):=by
   rcases hh with hh | ⟨cs,_,hh⟩
   .exact hh
   cases hh
  have h1:=hst.so.obj H _ hh;rw[hce]at h1;have h2:=ha 0 _ h0;cases h1 with
  | hold h1=>
   generalize vs.getD 0 undef=v at h1 h2;cases h1 with
   | ptr q1=>cases h2 with
    | ptr q2=>exact q1.trans q2.symm
 have hle1:∀o ob,σ1.get o=some ob->∃ob',σ'.get o=some ob' /\RelO g' o ob/\∀l,ob.blk l=ob'.blk l:=by
  intro o ob ho;have hne:o≠H:=by rintro rfl;rw[hH1]at ho;cases ho
  have hg:Sto.get ((H,AO.hold hc (vs.getD 0 undef))::σ1) o=some ob:=by rw[Sto.get_cons,if_neg (Ne.symm hne)];exact ho
  obtain ⟨ob',h1,h2⟩:=hle.some hg;exact ⟨ob',h1,hle.obj hst.so.obj o ob hg,fun l=>(h2 l).symm⟩
 have key:∀w',Took g'.w bs w' ->∃v,(results fn a.tmps).run P w' =.ok v w' /\∃g'' v',g''.w=w' /\(∀k,k ∉ rows->g''.loc k=g.loc k)/\Old (SB g σ0) g g'' /\Wf g'' /\Ending.returned v=.returned v' /\Rel g'' (Wia cs) v' /\
  (∀o ob,σ1.get o=some ob->RelO g'' o ob)/\(∀o o' ob ob' b,σ1.get o=some ob->σ1.get o' =some ob' ->ob.blk (g''.loc o)=some b->ob'.blk (g''.loc o')=some b->o=o')/\
  (∀o ob b,σ1.get o=some ob->ob.blk (g''.loc o)=some b->g.w.heap.size<=b∨SB g σ0 b):=by
  intro w' ht;have hcellb:∀(k:Nat) (vs:Array Value) (t:TypeId) (fz:Nat × Nat),g'.w.heap[k]? =some (Obj.cells vs t fz)->w'.heap[k]? =g'.w.heap[k]? :=by
   intro k vs t fz hk;refine ht.block k fun hx=>?_
   rw[(hbs k hx).2]at hk;cases hk
  have hx0:Ext0 g'.w g'.u w' g'.u:=⟨Nat.le_of_eq ht.size.symm,fun _ _=>Nat.le_refl _,fun k i hk hi=>by
   by_cases hkb:k∈bs
   .simp[World.cell?,(hbs k hkb).2,ht.took k hkb]
   simp only[World.cell?];rw[ht.block k hkb]⟩
  obtain ⟨v,h1,h2⟩:=j9a (P:=P) (g:=⟨w',g'.u,g'.loc⟩) hres (fun d=>(hst.fr d).mono0 hx0 (fun _ _=>rfl)) (fun k cs' hk=>by
   cases hst.so.obj k _ hk with
   | cells q1 q2 q3 q4 q5 q6=>exact .cells q1 ((hcellb _ _ _ _ q2).trans q2) q3 q4 q5 fun i c hi=>(q6 i c hi).mono0 hx0 (fun _ _=>rfl))
  have hloc:∀o ob,σ1.get o=some ob->(if o∈rows then g'.loc o else g.loc o)=g'.loc o:=by
   intro o ob ho;rcases (Sto.okS_get k1 ho).1 with rfl | hin
   .split
    .rfl
    exact (hO ⟨ob,ho⟩).symm
   rw[if_pos hin]
  refine ⟨v,h1,⟨w',g'.u,fun k=>if k∈rows then g'.loc k else g.loc k⟩,v,rfl,fun k hk=>if_neg hk,⟨ht.os.trans hst.so.old.os,ht.tape.trans hst.so.old.tape,ht.output.trans hst.so.old.output,⟨by rw[ht.size];exact hst.so.old.ext.size,hst.so.old.ext.pub,fun k i hk hi=>?_,fun r' hr' =>?_⟩,fun k hk hs=>?_⟩,fun k hk=>hst.so.wf k (by rw[<-ht.size];exact hk),rfl,
   Rel.mono (g:=⟨w',g'.u,g'.loc⟩) (g' :=⟨w',g'.u,fun k=>if k∈rows then g'.loc k else g.loc k⟩) (Ext.refl w' g'.u) h2 (fun k hk=>if_pos (hr k hk)),?_,?_,?_⟩
  .have hkb:k ∉ bs:=fun hx=>by have:g.w.heap.size<=k:=(hbs k hx).1;omega
   simp only[World.cell?];rw[ht.block k hkb];exact hst.so.old.ext.cell k i hk hi
  .have hkb:r' ∉ bs:=fun hx=>by have:g.w.heap.size<=r' :=(hbs r' hx).1;have:=z6a hr';omega
   rw[ht.block r' hkb];exact hst.so.old.ext.df r' hr'
  .have hkb:k ∉ bs:=fun hx=>by have:g.w.heap.size<=k:=(hbs k hx).1;omega
   rw[ht.block k hkb];exact hst.so.old.block k hk hs
  .intro o ob ho;obtain ⟨_,_,hro,_⟩:=hle1 o ob ho;exact wSb (g:=g') (g' :=⟨w',g'.u,fun k=>if k∈rows then g'.loc k else g.loc k⟩) (Sto.okS_get k1 ho).2 hro hx0 (hloc o ob ho) (fun k hk=>if_pos hk) hcellb rfl
  .intro o o' ob ob' b q1 q2 q3 q4;simp only[hloc o ob q1]at q3;simp only[hloc o' ob' q2]at q4;obtain ⟨_,p1,_,e1⟩:=hle1 o ob q1;obtain ⟨_,p2,_,e2⟩:=hle1 o' ob' q2;rw[e1]at q3;rw[e2]at q4;exact hst.so.apart o o' _ _ b p1 p2 q3 q4
  intro o ob b q1 q2;simp only[hloc o ob q1]at q2;obtain ⟨_,p1,_,e1⟩:=hle1 o ob q1;rw[e1]at q2;exact hst.so.mine o _ b p1 q2
 rcases he with rfl | rfl
 .show LeavesInM _ _ _ _ _ _ _ _ _;rw[hds];exact q9a bs g'.w hnd (fun r' hr' =>(hbs r' hr').2) key
 show LeavesInM _ _ _ _ _ _ _ _ _;rw[hds];exact q9a bs g'.w hnd (fun r' hr' =>(hbs r' hr').2) key
def Sto.dels(ids:List Nat):Sto->Sto
 | []=>[]
 | (k,a)::l=>bif ids.contains k then Sto.dels ids l else (k,a)::Sto.dels ids l
theorem Sto.get_dels(ids:List Nat)(σ:Sto)(o:Nat):(σ.dels ids).get o=if o∈ids then none else σ.get o:=by
 induction σ with
 | nil=>simp[Sto.dels,Sto.get]
 | cons x l ih=>
  obtain ⟨k,a⟩:=x;unfold Sto.dels;cases hc:ids.contains k with
  | true=>
   have hk:k∈ids:=by simpa using hc
   rw[cond_true,ih,Sto.get_cons];by_cases ho:o∈ids
   .rw[if_pos ho,if_pos ho]
   rw[if_neg ho,if_neg ho,if_neg (by rintro rfl;exact ho hk)]
  | false=>
   have hk:k ∉ ids:=by simpa using hc
   rw[cond_false,Sto.get_cons,Sto.get_cons,ih];by_cases ho:k=o
   .subst ho;simp[hk]
   rw[if_neg ho,if_neg ho]
def AV.clrs(rows:List Nat)(c:AV):AV:=bif rows.any (fun r=>c.has r) then .any else c
def Fr.clrs(rows:List Nat):Fr->Fr
 | []=>[]
 | (k,a)::l=>(k,a.clrs rows)::Fr.clrs rows l
def AO.clrs(rows:List Nat):AO->AO
 | .cells cs=>.cells (cs.map (AV.clrs rows))
 | .hold c v=>.hold (c.clrs rows) v
 | o=>o
def Sto.clrs(rows:List Nat):Sto->Sto
 | []=>[]
 | (k,a)::l=>(k,a.clrs rows)::Sto.clrs rows l
theorem Fr.get_clrs(rows:List Nat)(fr:Fr)(d:Nat):(fr.clrs rows).get d=(fr.get d).clrs rows:=by
 induction fr with
 | nil=>unfold Fr.clrs Fr.get AV.clrs;cases rows.any (fun r=>AV.has r AV.any) <;> rfl
 | cons x l ih=>
  obtain ⟨k,a⟩:=x;simp only[Fr.clrs,Fr.get_cons,ih];split <;> rfl
theorem Sto.get_clrs(rows:List Nat)(σ:Sto)(o:Nat):(σ.clrs rows).get o=(σ.get o).map (AO.clrs rows):=by
 induction σ with
 | nil=>rfl
 | cons x l ih=>
  obtain ⟨k,a⟩:=x;simp only[Sto.clrs,Sto.get_cons,ih];split <;> rfl
theorem zkb{g g' :G}{rows:List Nat}(hx:Ext g.w g.u g'.w g'.u)(hl:∀k,k ∉ rows->g'.loc k=g.loc k){c:AV}{v:Value}(h:Rel g c v):Rel g' (c.clrs rows) v:=by
 unfold AV.clrs;cases hc:rows.any (fun r=>c.has r) with
 | true=>exact .any _
 | false=>exact h.mono hx fun k hk=>hl k fun hin=>List.any_eq_false.1 hc k hin hk
theorem AO.blk_clrs(rows:List Nat)(ob:AO)(l:Loc):(ob.clrs rows).blk l=ob.blk l:=by cases ob <;> rfl
theorem jlb{g g' :G}{o:Nat}{ob:AO}{rows:List Nat}(hro:RelO g o ob)(hx:Ext g.w g.u g'.w g'.u)(hl:∀k,k ∉ rows->g'.loc k=g.loc k)(ho:o ∉ rows)
 (hb:∀b,ob.blk (g.loc o)=some b->g'.w.heap[b]? =g.w.heap[b]? /\g'.u b=g.u b):RelO g' o (ob.clrs rows):=by
 cases hro with
 | @cells cs b t vs h1 h2 h3 h4 h5 h6=>
  obtain ⟨b1,b2⟩:=hb b (by rw[h1];rfl);refine .cells ((hl o ho).trans h1) (b1.trans h2) (by simpa using h3) (b2.trans h4) h5 fun i c hi=>?_
  simp only[List.getElem?_map,Option.map_eq_some_iff]at hi;obtain ⟨c',hc',rfl⟩:=hi;exact zkb hx hl (h6 i c' hc')
 | nil h1=>exact .nil ((hl o ho).trans h1)
 | @row e mu size elems b off cap vs h1 h2 h3 h3' h4 h5 h6 h7 h9=>
  obtain ⟨b1,b2⟩:=hb b (by rw[h1];rfl);exact .row ((hl o ho).trans h1) (b1.trans h2) h3 h3' h4 h5 (by rw[b2];exact h6) (by rw[b2];exact h7) fun i j x c hi hj=>(h9 i j x c hi hj).mono hx
 | hold h1=>exact .hold (zkb hx hl h1)
 | sus h1=>exact .sus (h1.mono hx)
 | @lp L b h1 h2=>
  obtain ⟨b1,b2⟩:=hb b (by rw[h1];rfl);exact .lp ((hl o ho).trans h1) (b1.trans h2)
 | @it s pos b h1 h2 h3=>
  obtain ⟨b1,b2⟩:=hb b (by rw[h1];rfl);exact .it ((hl o ho).trans h1) (b1.trans h2) (b2.trans h3)
 | @buf l e b cap vs h1 h2 h3 h4 h5 h6=>
  obtain ⟨b1,b2⟩:=hb b (by rw[h1];rfl);exact .buf ((hl o ho).trans h1) (b1.trans h2) h3 h4 (b2.trans h5) h6
 | @mapo ag es b clock ents h1 h2 h3 h4 h5=>
  obtain ⟨b1,b2⟩:=hb b (by rw[h1];rfl);exact .mapo ((hl o ho).trans h1) (b1.trans h2) (b2.trans h3) h4 fun i k c hi=>by
   obtain ⟨x,e1,e2,e3⟩:=h5 i k c hi;exact ⟨x,e1,e2,e3.mono hx⟩
 | @opq t t1 n Q b vs h1 h2 h3 h4 h5=>
  obtain ⟨b1,b2⟩:=hb b (by rw[h1];rfl);exact .opq ((hl o ho).trans h1) (b1.trans h2) h3 (b2.trans h4) fun w' u' hx' =>h5 w' u' (hx.to0.trans hx')
theorem gl_lt{g:G}(h:Gl g){k:Nat}(hk:GlB k):k < g.w.heap.size:=by
 rcases hk with ⟨p,hp,rfl⟩ | hk
 .obtain ⟨t,fz,h1⟩:=h.2.1 p hp;exact z6a h1
 obtain ⟨tp,x,t,fz,h1⟩:=h.2.2 k hk;exact z6a h1
theorem zya{f:FuncId}{k:Nat}{xs:List Operand}{ats:Array TypeId}{args:List AV}{r:AV}{σ0 σ1:Sto}{O:Nat}{rows:List Nat}(hr:RunS E.P f args σ0 r σ1 O rows)(hN:Nat.ble (k+1) E.N=true)(ha:xs.map (fun x=>(fr.ev x).weak)=args)(hle:k8a σ σ0):
 OpTo E ⟨some k,.call ⟨.value (.func f),xs.toArray,ats⟩,ty,pos,af,gu⟩ fr σ ((k,r)::fr.clrs rows) (σ1++(σ.dels (O::rows)).clrs rows):=
 ⟨fun g a K Q hst hK=>by
  obtain ⟨fn,c,hok⟩:=hr.ok;refine ⟨fun _ _=>trivial,?_⟩;rw[Oper.semAt_plain _ _ _ (fun c=>by simp),wHa hok (first:= #[]) (cap:= #[]) rfl,Oper.uponIn_enter];refine ⟨fun h=>by simp[fen]at h,?_⟩;have hargs:yOa g args (#[]++xs.toArray.map a.eval++ #[]):=by
   subst ha;refine ⟨by simp,fun i c hi=>?_⟩;simp only[List.getElem?_map,Option.map_eq_some_iff]at hi;obtain ⟨x,hx,rfl⟩:=hi;have:=q3a (hst.ev x);simpa[hx]using this
  have hsb:∀b,SB g σ0 b->b < g.w.heap.size/\(E.g0.w.heap.size<=b∨E.S b):=by
   rintro b ⟨o,ob,h1,h2⟩;obtain ⟨ob',h3,h4⟩:=hle.some h1;rw[<-h4]at h2;exact ⟨(hst.so.obj o ob' h3).block_lt h2,hst.so.mine o ob' b h3 h2⟩
  have hown:Own g σ0:=⟨hle.obj hst.so.obj,fun o o' ob ob' b h1 h2 h3 h4=>by
   obtain ⟨_,p1,e1⟩:=hle.some h1;obtain ⟨_,p2,e2⟩:=hle.some h2;rw[<-e1]at h3;rw[<-e2]at h4;exact hst.so.apart o o' _ _ b p1 p2 h3 h4,fun o ob b h1 h2 hb=>by
   rcases (hsb b ⟨o,ob,h1,h2⟩).2 with h3 | h3
   .have:=gl_lt E.gl hb;omega
   exact E.sg b hb h3⟩
  refine (wGa (hr.run g _ hst.so.wf (E.glOf hst.so) hown hargs)).mono ?_;rintro e w' ⟨g',v,rfl,hl,ho,hw,rfl,hv,hobj,hap,hmine⟩;have hget:∀o ob,Sto.get (σ1++(σ.dels (O::rows)).clrs rows) o=some ob->σ1.get o=some ob∨(o ∉ O::rows/\∃ob1,σ.get o=some ob1/\ob=ob1.clrs rows):=by
   intro o ob hg;rw[Sto.get_append]at hg;cases h1:σ1.get o with
   | some ob1=>rw[h1]at hg;exact .inl (by simpa using hg)
   | none=>
    rw[h1,Option.none_or,Sto.get_clrs,Sto.get_dels]at hg;split at hg
    .cases hg
    rename_i hno;cases h2:σ.get o with
    | none=>rw[h2]at hg;cases hg
    | some ob1=>rw[h2]at hg;exact .inr ⟨hno,ob1,rfl,by simpa using hg.symm⟩
  have hout:∀o ob1 b,o ∉ O::rows->σ.get o=some ob1->ob1.blk (g.loc o)=some b->¬SB g σ0 b:=by
   rintro o ob1 b hno ho1 hb ⟨o2,ob2,h2,hb2⟩;obtain ⟨ob3,h3,e3⟩:=hle.some h2;rw[<-e3]at hb2;have:=hst.so.apart o o2 _ _ b ho1 h3 hb hb2;subst this;rcases (Sto.okS_get hr.ok0 h2).1 with rfl | hin
   .exact hno List.mem_cons_self
   exact hno (List.mem_cons_of_mem _ hin)
  have hnr:∀o,o ∉ O::rows->o ∉ rows:=fun o h hin=>h (List.mem_cons_of_mem _ hin)
  have hst' :St E g' a (fr.clrs rows) (σ1++(σ.dels (O::rows)).clrs rows):=by
   refine ⟨fun d=>by rw[Fr.get_clrs];exact zkb ho.ext hl (hst.fr d),hst.n,hst.df.mono ho.ext,⟨?_,?_,?_,?_,hw⟩⟩
   .intro o ob hg;rcases hget o ob hg with h1 | ⟨hno,ob1,ho1,rfl⟩
    .exact hobj o ob h1
    have hro:=hst.so.obj o ob1 ho1;exact jlb hro ho.ext hl (hnr o hno) fun b hb=>ho.block b (hro.block_lt hb) (hout o ob1 b hno ho1 hb)
   .intro o o' ob ob' b h1 h2 h3 h4;rcases hget o ob h1 with h1 | ⟨hno,ob1,ho1,rfl⟩ <;> rcases hget o' ob' h2 with h2 | ⟨hno',ob1',ho1',rfl⟩
    .exact hap o o' ob ob' b h1 h2 h3 h4
    .exfalso;rw[AO.blk_clrs,hl o' (hnr o' hno')]at h4;have hlt:=(hst.so.obj o' ob1' ho1').block_lt h4;rcases hmine o ob b h1 h3 with h5 | h5
     .omega
     exact hout o' ob1' b hno' ho1' h4 h5
    .exfalso;rw[AO.blk_clrs,hl o (hnr o hno)]at h3;have hlt:=(hst.so.obj o ob1 ho1).block_lt h3;rcases hmine o' ob' b h2 h4 with h5 | h5
     .omega
     exact hout o ob1 b hno ho1 h3 h5
    rw[AO.blk_clrs,hl o (hnr o hno)]at h3;rw[AO.blk_clrs,hl o' (hnr o' hno')]at h4;exact hst.so.apart o o' ob1 ob1' b ho1 ho1' h3 h4
   .intro o ob b h1 h2;rcases hget o ob h1 with h1 | ⟨hno,ob1,ho1,rfl⟩
    .rcases hmine o ob b h1 h2 with h5 | h5
     .exact .inl (Nat.le_trans hst.so.old.ext.size h5)
     exact (hsb b h5).2
    rw[AO.blk_clrs,hl o (hnr o hno)]at h2;exact hst.so.mine o ob1 b ho1 h2
   refine hst.so.old.trans (ho.mono fun b _ hb=>?_);exact (hsb b hb).2.symm
  exact hK g' _ (hst'.put (Nat.le_of_ble_eq_true hN) hv)⟩
theorem W1a{ops:Array Oper}{ol:List Oper}(o:Nat)(h:AWPL E ops ol (fr.clr o) (σ.del o) K):AWPL E ops ol fr σ K:=
 ⟨fun g a hst=>h.go g a (hst.le (fun d=>by
  rw[Fr.get_clr];unfold AV.clr;cases (fr.get d).has o with
  | true=>exact .inl rfl
  | false=>exact .inr (.inl rfl)) fun o' ob ho=>.inl (by
  rw[Sto.get_del]at ho;split at ho
  .cases ho
  exact ho))⟩
section
variable {α:Type} {F:α->List PV} {l:List α} {size:Nat} {e:TypeId}
end
def AV.ren1(r r' :Nat):AV->AV
 | .hs x off=>bif Nat.beq x r then .hs r' off else .hs x off
 | c=>bif c.has r then .any else c
def AV.ren(r r' :Nat):AV->AV
 | .agg l=>.agg (l.map (AV.ren1 r r'))
 | c=>c.ren1 r r'
def Fr.ren(r r' :Nat):Fr->Fr
 | []=>[]
 | (k,c)::l=>(k,c.ren r r')::Fr.ren r r' l
theorem Fr.get_ren(r r' :Nat)(fr:Fr)(d:Nat):(fr.ren r r').get d=(fr.get d).ren r r' :=by
 induction fr with
 | nil=>rfl
 | cons x l ih=>
  obtain ⟨k,c⟩:=x;simp only[Fr.ren,Fr.get_cons,ih];split <;> rfl
def AO.ren(r r' :Nat):AO->AO
 | .cells cs=>.cells (cs.map (AV.ren r r'))
 | .hold c v=>.hold (c.ren r r') v
 | o=>o
def Sto.ren(r r' :Nat):Sto->Sto
 | []=>[]
 | (k,a)::l=>(k,a.ren r r')::Sto.ren r r' l
theorem Sto.get_ren(r r' :Nat)(σ:Sto)(o:Nat):(σ.ren r r').get o=(σ.get o).map (AO.ren r r'):=by
 induction σ with
 | nil=>rfl
 | cons x l ih=>
  obtain ⟨k,a⟩:=x;simp only[Sto.ren,Sto.get_cons,ih];split <;> rfl
theorem AO.blk_ren(r r' :Nat)(ob:AO)(l:Loc):(ob.ren r r').blk l=ob.blk l:=by cases ob <;> rfl
section
variable {g g' :G} {r r' :Nat}
theorem rel_ren0(hw:g'.w=g.w)(hu:g'.u=g.u)(hk:∀k,k≠r' ->g'.loc k=g.loc k){c:AV}{v:Value}(h:Rel g c v)(hn:c.has r' =false):Rel g' (bif c.has r then .any else c) v:=by
 have hx:Ext g.w g.u g'.w g'.u:=by rw[hw,hu];exact Ext.refl _ _
 cases hc:c.has r with
 | true=>exact .any _
 | false=>exact h.mono hx fun k hk' =>hk k (by rintro rfl;rw[hn]at hk';cases hk')
theorem vUb(hw:g'.w=g.w)(hu:g'.u=g.u)(hl:g'.loc r' =g.loc r)(hk:∀k,k≠r' ->g'.loc k=g.loc k){c:AV}{v:Value}(h:Rel g c v)(hn:c.has r' =false):Rel g' (c.ren1 r r') v:=by
 cases c
 case hs x off=>
  have hxr:x≠r' :=by rintro rfl;simp[AV.has]at hn
  cases hb:Nat.beq x r with
  | true=>
   rw[show AV.ren1 r r' (.hs x off)=.hs r' off by show (bif Nat.beq x r then AV.hs r' off else AV.hs x off)=_;rw[hb];rfl];have:x=r:=Nat.eq_of_beq_eq_true hb;subst this;cases h with
   | hsNil a h1=>exact .hsNil a (hl.trans h1)
   | hs h1 h2=>exact .hs (hl.trans h1) h2
  | false=>
   rw[show AV.ren1 r r' (.hs x off)=.hs x off by show (bif Nat.beq x r then AV.hs r' off else AV.hs x off)=_;rw[hb];rfl];cases h with
   | hsNil a h1=>exact .hsNil a ((hk x hxr).trans h1)
   | hs h1 h2=>exact .hs ((hk x hxr).trans h1) h2
 all_goals exact rel_ren0 (r:=r) hw hu hk h hn
theorem qWb(hw:g'.w=g.w)(hu:g'.u=g.u)(hl:g'.loc r' =g.loc r)(hk:∀k,k≠r' ->g'.loc k=g.loc k){c:AV}{v:Value}(h:Rel g c v)(hn:c.has r' =false):Rel g' (c.ren r r') v:=by
 cases c
 case agg cs=>
  cases h with
  | agg hl2 hc2 h=>
   refine .agg (by simp[hl2]) hc2 fun i c hi=>?_
   simp only[List.getElem?_map,Option.map_eq_some_iff]at hi;obtain ⟨c',h1,rfl⟩:=hi;refine vUb hw hu hl hk (h i c' h1) ?_;cases hh:c'.has r' with
   | false=>rfl
   | true=>rw[show (AV.agg cs).has r' =AV.hasL r' cs from rfl,AV.hasL_of h1 hh]at hn;cases hn
 all_goals exact vUb hw hu hl hk h hn
theorem relO_ren(hw:g'.w=g.w)(hu:g'.u=g.u)(hl:g'.loc r' =g.loc r)(hk:∀k,k≠r' ->g'.loc k=g.loc k){o:Nat}{ob:AO}(h:RelO g o ob)(ho:o≠r')(hn:ob.has r' =false):RelO g' o (ob.ren r r'):=by
 have hx:Ext g.w g.u g'.w g'.u:=by rw[hw,hu];exact Ext.refl _ _
 have hh:∀k,ob.has k=true->g'.loc k=g.loc k:=fun k hk' =>hk k (by rintro rfl;rw[hn]at hk';cases hk')
 cases ob
 case cells cs=>
  cases h with
  | @cells _ b t vs h1 h2 h3 h4 h5 h6=>
   refine .cells ((hk o ho).trans h1) (by rw[hw];exact h2) (by simpa using h3) (by rw[hu];exact h4) h5 fun i c hi=>?_
   simp only[List.getElem?_map,Option.map_eq_some_iff]at hi;obtain ⟨c',hc',rfl⟩:=hi;refine qWb hw hu hl hk (h6 i c' hc') ?_;cases hh' :c'.has r' with
   | false=>rfl
   | true=>rw[show (AO.cells cs).has r' =AV.hasL r' cs from rfl,AV.hasL_of hc' hh']at hn;cases hn
 case hold c v=>cases h with
  | hold h1=>exact .hold (qWb hw hu hl hk h1 hn)
 all_goals exact h.mono hx (hk o ho) hh fun b _=>by rw[hw,hu];exact ⟨rfl,rfl⟩
end
theorem St.ren{g:G}{a:Act}{r r' :Nat}{ob:AO}(h:St E g a fr σ)(hr:σ.get r=some ob)(hne:Nat.beq r r' =false)(hf:fr.has r' =false)(hs:σ.has r' =false)(hg:σ.get r' =none)(hob:ob.okS []=true):
 St E ⟨g.w,g.u,fun k=>if k=r' then g.loc r else g.loc k⟩ a (fr.ren r r') ((r',ob)::(σ.del r).ren r r'):=by
 have hne:r≠r' :=by rintro rfl;simp at hne
 have hk:∀k,k≠r' ->(⟨g.w,g.u,fun k=>if k=r' then g.loc r else g.loc k⟩:G).loc k=g.loc k:=fun k hk=>if_neg hk
 have hl:(⟨g.w,g.u,fun k=>if k=r' then g.loc r else g.loc k⟩:G).loc r' =g.loc r:=if_pos rfl;have hhas:∀k,ob.has k=false:=fun k=>by
  cases hh:ob.has k with
  | false=>rfl
  | true=>exact absurd (AO.okS_has hob hh) (by simp)
 have hget:∀o ob1,Sto.get ((r',ob)::(σ.del r).ren r r') o=some ob1->(o=r' /\ob1=ob)∨(o≠r' /\o≠r/\∃ob2,σ.get o=some ob2/\ob1=ob2.ren r r'):=by
  intro o ob1 ho;rw[Sto.get_cons]at ho;split at ho
  .rename_i hk;cases ho;exact .inl ⟨hk.symm,rfl⟩
  rename_i hk;rw[Sto.get_ren,Sto.get_del]at ho;split at ho
  .cases ho
  rename_i hor;cases h2:σ.get o with
  | none=>rw[h2]at ho;cases ho
  | some ob2=>rw[h2]at ho;exact .inr ⟨Ne.symm hk,hor,ob2,rfl,by simpa using ho.symm⟩
 refine ⟨fun d=>?_,h.n,h.df,⟨?_,?_,?_,⟨h.so.old.os,h.so.old.tape,h.so.old.output,h.so.old.ext,h.so.old.block⟩,h.so.wf⟩⟩
 .rw[Fr.get_ren];refine qWb (g:=g) (g' :=⟨g.w,g.u,fun k=>if k=r' then g.loc r else g.loc k⟩) rfl rfl hl hk (h.fr d) ?_;cases hh:(fr.get d).has r' with
  | false=>rfl
  | true=>rw[Fr.has_get hh]at hf;cases hf
 .intro o ob1 ho;rcases hget o ob1 ho with ⟨rfl,rfl⟩ | ⟨h1,h2,ob2,h3,rfl⟩
  .have hro:=h.so.obj r ob1 hr;cases ob1 with
   | cells cs=>
    cases hro with
    | @cells _ b t vs q1 q2 q3 q4 q5 q6=>
     exact .cells (hl.trans q1) q2 q3 q4 q5 fun i c hi=>Rel.mono (g:=g) (g' :=⟨g.w,g.u,fun k=>if k=o then g.loc r else g.loc k⟩) (Ext.refl _ _) (q6 i c hi) fun k hck=>by
      have:=hhas k;rw[show (AO.cells cs).has k=AV.hasL k cs from rfl,AV.hasL_of hi hck]at this;cases this
   | row e mu size elems=>
    cases hro with
    | nil q1=>exact .nil (hl.trans q1)
    | row q1 q2 q3 q4 q5 q6 q7 q8 q9=>exact .row (hl.trans q1) q2 q3 q4 q5 q6 q7 q8 q9
   | opq t n Q=>
    cases hro with
    | opq q1 q2 q3 q4 q5=>exact .opq (hl.trans q1) q2 q3 q4 q5
   | _=>cases hob
  refine relO_ren (g:=g) (g' :=⟨g.w,g.u,fun k=>if k=r' then g.loc r else g.loc k⟩) rfl rfl hl hk (h.so.obj o ob2 h3) h1 ?_;cases hh:ob2.has r' with
  | false=>rfl
  | true=>rw[Sto.has_get h3 hh]at hs;cases hs
 .intro o o' ob1 ob2 b q1 q2 q3 q4;rcases hget o ob1 q1 with ⟨rfl,rfl⟩ | ⟨h1,h2,ob3,h3,rfl⟩ <;> rcases hget o' ob2 q2 with ⟨rfl,rfl⟩ | ⟨h1',h2',ob4,h4,rfl⟩
  .rfl
  .rw[AO.blk_ren]at q4;simp only[if_true]at q3;simp only[if_neg h1']at q4;exact absurd (h.so.apart r o' _ _ b hr h4 q3 q4) (Ne.symm h2')
  .rw[AO.blk_ren]at q3;simp only[if_neg h1]at q3;simp only[if_true]at q4;exact absurd (h.so.apart o r _ _ b h3 hr q3 q4) h2
  rw[AO.blk_ren]at q3 q4;simp only[if_neg h1]at q3;simp only[if_neg h1']at q4;exact h.so.apart o o' _ _ b h3 h4 q3 q4
 intro o ob1 b q1 q2;rcases hget o ob1 q1 with ⟨rfl,rfl⟩ | ⟨h1,h2,ob3,h3,rfl⟩
 .simp only[if_true]at q2;exact h.so.mine r _ b hr q2
 rw[AO.blk_ren]at q2;simp only[if_neg h1]at q2;exact h.so.mine o _ b h3 q2
theorem vVb{ops:Array Oper}{ol:List Oper}(r r' :Nat){ob:AO}(hr:σ.get r=some ob)(hne:Nat.beq r r' =false)(hf:fr.has r' =false)(hs:σ.has r' =false)(hg:σ.get r' =none)(hob:ob.okS []=true)
 (h:AWPL E ops ol (fr.ren r r') ((r',ob)::(σ.del r).ren r r') K):AWPL E ops ol fr σ K:=
 ⟨fun g a hst=>h.go ⟨g.w,g.u,fun k=>if k=r' then g.loc r else g.loc k⟩ a (hst.ren hr hne hf hs hg hob)⟩
section
variable {α:Type} {F:α->List PV} {r' :List α} {size bytes sb ss k lim:Nat} {e t:TypeId} {zero sz:Value} {d:TypeDesc} {x:Operand} {n:Int} {z:α}
end
theorem rfS{P:Program}{f:FuncId}{fn:Func}{c:Code}{args:List AV}{r:AV}{σ0 σ1:Sto}{O H:Nat}{rows:List Nat}(hc:AV)(hok:FnOk P f fn c)(hN:Nat.ble args.length fn.ntmps=true)(hr:∀k,r.has k=true->k∈rows)(h0:(hc=.ptr O 0/\args[0]? =some (.ptr O 0))∨(hc=.any/\Sto.get σ1 O=none))
 (k0:σ0.okS O rows=true) (k1:σ1.okS O rows=true) (hH:Sto.get σ0 H=none) (hH1:Sto.get σ1 H=none)
 (h:∀g0 (hg:Gl g0) (S:Nat->Prop) (sg:∀k,GlB k->¬S k) (T:Array Value),(GS.code c (qra 0 args) ((H,.hold hc (T.getD 0 undef))::σ0) (.base (jkb P fn r hc H T σ1) wTb)).holds ⟨P,none,g0,fn.ntmps,false,hg,S,sg⟩):RunS P f args σ0 r σ1 O rows:=qVb hok hN hr h0 k0 k1 hH hH1 h
theorem krS{P:Program}{T:Tab}{Tm:Array Value}(hT:kTa P T){e:Exit}{fn:Func}{cs:List AV}{r hc:AV}{H:Nat}{σ1:Sto}{hm:Mono (jkb P fn r hc H Tm σ1)}(he:isN e=true∨e=.ret)(h:WZa T fr σ fn.results.toList=some cs)(hr:Wia cs=r)(hs:k8a σ ((H,.hold hc (Tm.getD 0 undef))::σ1)):
 (GS.at e fr σ (.base (jkb P fn r hc H Tm σ1) hm)).holds E:=⟨by cases e <;> simp_all [isN],⟨cs,Zfa hT h,hr⟩,hs⟩
def AV.okR(rows:List Nat):AV->Bool
 | .agg l=>l.all (AV.okS rows)
 | .ifc _=>true
 | c=>c.okS rows
def AV.okT(rows:List Nat):AV->Bool
 | .tup l=>l.all (AV.okR rows)
 | c=>c.okR rows
theorem AV.okR_has{rows:List Nat}{c:AV}(h:c.okR rows=true){k:Nat}(hk:c.has k=true):k∈rows:=by
 unfold AV.okR at h;split at h
 .obtain ⟨c',hc,hk'⟩:=AV.hasL_mem hk;exact AV.okS_has (List.all_eq_true.1 h c' hc) hk'
 .simp[AV.has]at hk
 exact AV.okS_has h hk
theorem hasT{rows:List Nat}{c:AV}(h:c.okT rows=true):∀k,c.has k=true->k∈rows:=by
 intro k hk;unfold AV.okT at h;split at h
 .obtain ⟨c',hc,hk'⟩:=AV.hasL_mem hk;exact AV.okR_has (List.all_eq_true.1 h c' hc) hk'
 exact AV.okR_has h hk
end
section
open Go.RowKit Go.Lib Go.Proofs.Tryz
variable {E:Env} {fr:Fr} {σ:Sto} {K:Post}
def purF:List Oper->List (Option AV)->List Bool->Fr
 | o::l,some c::cs,b::D=>(match o.dst with | some d=>[(d,bif b then c else .any)] | none=>[])++purF l cs D
 | _::l,none::cs,_::D=>purF l cs D
 | _,_,_=>[]
def yRa(l:List Oper)(cs:List (Option AV))(i:Nat):Option Nat:=match cs[i]? with
 | some (some _)=>(l[i]?).bind (·.dst)
 | _=>none
theorem kYa:∀(l:List Oper) (cs:List (Option AV)) (D:List Bool) (d:Nat),(∀i,yRa l cs i≠some d)->(purF l cs D++fr).get d=fr.get d
 | [],_,_,_,_=>rfl
 | _::_,[],_,_,_=>rfl
 | _::_,some _::_,[],_,_=>rfl
 | _::_,none::_,[],_,_=>rfl
 | o::l,none::cs,b::D,d,h=>kYa l cs D d fun i=>h (i+1)
 | o::l,some c::cs,b::D,d,h=>by
  have ih:=kYa l cs D d fun i=>h (i+1)
  have h0:o.dst≠some d:=h 0;unfold purF;cases hd:o.dst with
  | none=>exact ih
  | some d' =>
   show Fr.get ((d',_)::(purF l cs D++fr)) d=_;rw[Fr.get_cons,if_neg (fun e=>h0 (by rw[hd,e]))];exact ih
theorem q4a:∀(l:List Oper) (cs:List (Option AV)) (D:List Bool) (i:Nat) (c:AV) (d:Nat),(∀i j d,yRa l cs i=some d->yRa l cs j=some d->i=j)->l.length<=D.length->yRa l cs i=some d->cs[i]? =some (some c)->(purF l cs D++fr).get d=bif D.getD i false then c else .any
 | [],_,_,i,_,_,_,_,h,hc=>by unfold yRa at h;rw[hc]at h;simp at h
 | _::_,[],_,i,_,_,_,_,h,hc=>by simp at hc
 | _::_,_::_,[],_,_,_,_,hl,_,_=>by simp at hl
 | o::l,none::cs,b::D,0,c,d,_,_,h,hc=>by simp at hc
 | o::l,none::cs,b::D,i+1,c,d,hd,hl,h,hc=>by
  have:=q4a l cs D i c d (fun i j d h1 h2=>by have:=hd (i+1) (j+1) d h1 h2;omega) (by simpa using hl) h (by simpa using hc);simpa[purF]using this
 | o::l,some c0::cs,b::D,0,c,d,hd,hl,h,hc=>by
  simp at hc;subst hc;have h0:o.dst=some d:=h;unfold purF;rw[h0];show Fr.get ((d,_)::(purF l cs D++fr)) d=_;rw[Fr.get_cons,if_pos rfl];rfl
 | o::l,some c0::cs,b::D,i+1,c,d,hd,hl,h,hc=>by
  have ih:=q4a l cs D i c d (fun i j d h1 h2=>by have:=hd (i+1) (j+1) d h1 h2;omega) (by simpa using hl) h (by simpa using hc);unfold purF;cases h0:o.dst with
  | none=>simpa using ih
  | some d' =>
   show Fr.get ((d',_)::(purF l cs D++fr)) d=_;rw[Fr.get_cons,if_neg (fun e=>by
    have:=hd 0 (i+1) d (by show o.dst=some d;rw[h0,e]) h;omega)]
   simpa using ih
theorem Fr.has_append(q:Nat):∀(x y:Fr),Fr.has q (x++y)=(Fr.has q x || Fr.has q y)
 | [],y=>by simp[Fr.has]
 | (k,a)::x,y=>by simp[Fr.has,Fr.has_append q x y,Bool.or_assoc]
theorem zlb(q:Nat):∀(l:List Oper) (cs:List (Option AV)) (D T:List Bool),T=List.replicate D.length true->Fr.has q (purF l cs D)=true->Fr.has q (purF l cs T)=true
 | [],_,_,_,_,h=>by simp[purF,Fr.has]at h
 | _::_,[],_,_,_,h=>by simp[purF,Fr.has]at h
 | _::_,some _::_,[],_,_,h=>by simp[purF,Fr.has]at h
 | _::_,none::_,[],_,_,h=>by simp[purF,Fr.has]at h
 | o::l,none::cs,b::D,T,hT,h=>by
  subst hT;exact zlb q l cs D _ rfl (by simpa[purF]using h)
 | o::l,some c::cs,b::D,T,hT,h=>by
  subst hT;have ih:=zlb q l cs D _ rfl;unfold purF at h ⊢;simp only[List.length_cons,List.replicate_succ]at h ⊢;cases h0:o.dst with
  | none=>rw[h0]at h;simp[Fr.has_append,Fr.has]at h ⊢;exact ih h
  | some d=>
   rw[h0]at h;simp only[Fr.has_append,Fr.has,Bool.or_false,Bool.or_eq_true,cond_true]at h ⊢;rcases h with h | h
   .refine .inl ?_;cases b with
    | true=>exact h
    | false=>simp[AV.has]at h
   exact .inr (ih h)
structure HvS (E:Env) (o:Oper) (FR:Fr) (σ σ' :Sto):Prop where
 go:∀fr,(∀x∈o.op.operands,fr.ev x=FR.ev x)->(∀q,FR.has q=false->fr.has q=false)->OpTo E o fr σ fr σ'
structure HvD (E:Env) (o:Oper) (FR:Fr) (σ:Sto) (k:Nat) (c:AV) (rs:List Nat) (σ' :Sto):Prop where
 go:∀fr,(∀x∈o.op.operands,fr.ev x=FR.ev x)->(∀q,FR.has q=false->fr.has q=false)->OpTo E o fr σ ((k,c)::fr.clrs rs) σ'
def allT(l:List Oper):List Bool:=List.replicate l.length true
def noRows(cs:List (Option AV))(rs:List Nat):Bool:=cs.all fun c=>match c with | some c=>rs.all fun r=> !c.has r | none=>true
inductive wUb (E:Env) (l:List Oper) (cs:List (Option AV)) (all:List Node) (H:List Bool) (fr:Fr) (σ:Sto) (i:Nat):Prop
 | pure {o:Oper} {c:AV} (ho:l[i]? =some o) (hc:cs[i]? =some (some c)) (h:OpG E o (purF l cs (allT l)++fr) σ c)
 | sto {o:Oper} {σ' σ2:Sto} {fr2:Fr} (j:Nat) (ho:l[i]? =some o) (hc:cs[i]? =some none) (h:HvS E o (purF l cs (allT l)++fr) σ σ') (hn:all[j]? =some (H.set i true,fr2,σ2)) (hf:FrLe fr fr2) (hs:k8a σ' σ2)
 | dst {o:Oper} {k:Nat} {c:AV} {rs:List Nat} {σ' σ2:Sto} {fr2:Fr} (j:Nat) (ho:l[i]? =some o) (hc:cs[i]? =some none) (hk:((List.range l.length).all fun i=>yRa l cs i !=some k)=true) (hrs:noRows cs rs=true)
  (h:HvD E o (purF l cs (allT l)++fr) σ k c rs σ') (hn:all[j]? =some (H.set i true,fr2,σ2)) (hf:FrLe ((k,c)::fr.clrs rs) fr2) (hs:k8a σ' σ2)
inductive wna (E:Env) (l:List Oper) (cs:List (Option AV)) (all:List Node) (H:List Bool) (fr:Fr) (σ:Sto):List Nat->Prop
 | nil:wna E l cs all H fr σ []
 | cons {i:Nat} {is:List Nat} (h:wUb E l cs all H fr σ i) (r:wna E l cs all H fr σ is):wna E l cs all H fr σ (i::is)
def isHv(cs:List (Option AV))(i:Nat):Bool:=match cs[i]? with | some none=>true | _=>false
def mayL(l:List Oper)(cs:List (Option AV))(H:List Bool):List Nat:=(List.range l.length).filter fun i=>
 !(H.getD i false) && (List.range l.length).all fun j=> !(isHv cs j) || ((!(((yua l l.length).getD i 0).testBit j) || H.getD j false) && (!(H.getD j false) || !(((yua l l.length).getD j 0).testBit i)))
inductive qXb (E:Env) (l:List Oper) (cs:List (Option AV)) (K:Post) (all:List Node):Node->Prop
 | full {H:List Bool} {fr:Fr} {σ:Sto} (is:List Nat) (hD:mayL l cs H=is) (hs:wna E l cs all H fr σ is) {frJ:Fr} {σJ:Sto} (hf:FrLe (purF l cs (allT l)++fr) frJ) (hso:k8a σ σJ) (h:K .normal frJ σJ):qXb E l cs K all (H,fr,σ)
 | step {H:List Bool} {fr:Fr} {σ:Sto} (is:List Nat) (hD:mayL l cs H=is) (hn:((List.range l.length).all fun i=> !(isHv cs i) || H.getD i false)=false) (hs:wna E l cs all H fr σ is):qXb E l cs K all (H,fr,σ)
inductive ZZa (E:Env) (l:List Oper) (cs:List (Option AV)) (K:Post) (all:List Node):List Node->Prop
 | nil:ZZa E l cs K all []
 | cons {nd:Node} {r:List Node} (h:qXb E l cs K all nd) (hr:ZZa E l cs K all r):ZZa E l cs K all (nd::r)
theorem wna.get{l:List Oper}{cs:List (Option AV)}{all:List Node}{H:List Bool}{is:List Nat}(h:wna E l cs all H fr σ is){i:Nat}(hi:i∈is):wUb E l cs all H fr σ i:=by
 induction h with
 | nil=>cases hi
 | cons h _ ih=>
  rcases List.mem_cons.1 hi with rfl | hi
  .exact h
  exact ih hi
theorem ZZa.get{l:List Oper}{cs:List (Option AV)}{all r:List Node}(h:ZZa E l cs K all r){nd:Node}(hi:nd∈r):qXb E l cs K all nd:=by
 induction h with
 | nil=>cases hi
 | cons h _ ih=>
  rcases List.mem_cons.1 hi with rfl | hi
  .exact h
  exact ih hi
def vWb(N:Nat)(l:List Oper)(cs:List (Option AV)):Bool:=
 w6a .any l.toArray && Nat.beq cs.length l.length && (l.all fun o=>o.guard.isNone) &&
 (l.all fun o=>o.dst.all fun d=>Nat.ble (d+1) N) &&
 ((List.range l.length).all fun i=>isHv cs i || (yRa l cs i).isSome) &&
 ((List.range l.length).all fun i=>(List.range l.length).all fun j=>Nat.beq i j || (yRa l cs i).isNone || yRa l cs i !=yRa l cs j) &&
 (l.all fun o=>(vLb o).all fun t=>(List.range l.length).all fun j=>yRa l cs j !=some t || Zea o j)
theorem W2a{rs:List Nat}{c:AV}(h:(rs.all fun r=> !c.has r)=true):c.clrs rs=c:=by
 unfold AV.clrs;have:(rs.any fun r=>c.has r)=false:=by
  rw[List.any_eq_false];intro r hr;have:=List.all_eq_true.1 h r hr;simpa using this
 rw[this];rfl
theorem Vxa{id:Nat}{l:List Oper}(cs:List (Option AV))(all:List Node){H0:List Bool}{fr0:Fr}{σ0:Sto}(hmix:E.P.follows .mixedOrders=true)(hok:vWb E.N l cs=true)(h0:all[0]? =some (H0,fr0,σ0))(hH0:H0=List.replicate l.length false)
 (hf:FrLe fr fr0) (hs:k8a σ σ0) (h:ZZa E l cs K all all):AWP E (.region id l.toArray true) fr σ K:=by
 simp only[vWb,Bool.and_eq_true,List.all_eq_true]at hok;obtain ⟨⟨⟨⟨⟨⟨hlb,hlen⟩,hgd⟩,hN⟩,hall⟩,hdist⟩,hdat⟩:=hok;have hlen:=Nat.eq_of_beq_eq_true hlen;have hdl:∀i d,yRa l cs i=some d->i < l.length:=by
  intro i d hd;rcases Nat.lt_or_ge i l.length with h1 | h1
  .exact h1
  unfold yRa at hd;rw[List.getElem?_eq_none (by omega)]at hd;cases hd
 have hdist' :∀i j d,yRa l cs i=some d->yRa l cs j=some d->i=j:=by
  intro i j d h1 h2;have:=hdist i (by simpa using hdl i d h1) j (by simpa using hdl j d h2);simp only[Bool.or_eq_true,bne_iff_ne,ne_eq]at this;rcases this with (h3 | h3) | h3
  .exact Nat.eq_of_beq_eq_true h3
  .rw[h1]at h3;cases h3
  exact absurd (h1.trans h2.symm) h3
 have hdirD:∀{D:Nat->Bool} {o:Oper} {j:Nat},(∀e∈o.after,Region.binds .any e=true->D e.on=true)->Zea o j=true->D j=true:=by
  intro D o j he hd;simp only[Zea,List.any_eq_true,Bool.and_eq_true]at hd;obtain ⟨e,h1,h2,h3⟩:=hd;rw[<-Nat.eq_of_beq_eq_true h3];exact he e (by simpa using h1) h2
 let bits:(Nat->Bool)->List Bool:=fun D=>(List.range l.length).map D
 have hbl:∀D,(bits D).length=l.length:=fun D=>by simp[bits]
 have hbg:∀D i,i < l.length->(bits D).getD i false=D i:=fun D i hi=>by simp[bits,List.getD_eq_getElem?_getD,hi]
 have hTl:(allT l).length=l.length:=by simp[allT]
 have hTg:∀i,i < l.length->(allT l).getD i false=true:=fun i hi=>by simp[allT,List.getD_eq_getElem?_getD,hi]
 have hslot:∀d,(∃i c,yRa l cs i=some d/\cs[i]? =some (some c)/\i < l.length)∨(∀i,yRa l cs i≠some d):=by
  intro d;by_cases hex:∃i,yRa l cs i=some d
  .obtain ⟨i,hi⟩:=hex;refine .inl ⟨i,?_⟩;have hil:=hdl i d hi;cases hc:cs[i]? with
   | none=>unfold yRa at hi;rw[hc]at hi;cases hi
   | some x=>
    cases x with
    | none=>unfold yRa at hi;rw[hc]at hi;cases hi
    | some c=>exact ⟨c,hi,rfl,hil⟩
  exact .inr fun i hi=>hex ⟨i,hi⟩
 have hev:∀(D:Nat->Bool) (o:Oper) (frA:Fr),o∈l->(∀e∈o.after,Region.binds .any e=true->D e.on=true)->∀x∈o.op.operands,(purF l cs (bits D)++frA).ev x=(purF l cs (allT l)++frA).ev x:=by
  intro D o frA hm he x hx;cases x with
  | const v=>rfl
  | global q=>rfl
  | func f=>rfl
  | tmp t=>
   show (purF l cs (bits D)++frA).get t=(purF l cs (allT l)++frA).get t;rcases hslot t with ⟨i,c,h1,h2,h3⟩ | h1
   .rw[q4a l cs (bits D) i c t hdist' (by rw[hbl];omega) h1 h2,q4a l cs (allT l) i c t hdist' (by rw[hTl];omega) h1 h2,hbg D i h3,hTg i h3];have:=hdat o hm t (by simp only[vLb,List.mem_filterMap];exact ⟨.tmp t,by simpa using hx,rfl⟩) i (by simpa using h3);simp only[Bool.or_eq_true,bne_iff_ne,ne_eq]at this;rcases this with h4 | h4
    .exact absurd h1 h4
    rw[hdirD he h4]
   rw[kYa l cs _ t h1,kYa l cs _ t h1]
 have hhas:∀(D:Nat->Bool) (frA:Fr) q,(purF l cs (allT l)++frA).has q=false->(purF l cs (bits D)++frA).has q=false:=by
  intro D frA q hq;rw[Fr.has_append,Bool.or_eq_false_iff]at hq ⊢;refine ⟨?_,hq.2⟩;cases hb:Fr.has q (purF l cs (bits D)) with
  | false=>rfl
  | true=>
   have:=zlb q l cs (bits D) (allT l) (by rw[hbl];rfl) hb;rw[this]at hq;cases hq.1
 let J:(Nat->Bool)->Act->World->Prop:=fun D a w=>(∀i o,l[i]? =some o->D i=true->∀e∈o.after,Region.binds .any e=true->D e.on=true)/\
  ∃nd∈all,nd.1.length=l.length/\(∀i,i < l.length->isHv cs i=true->D i=nd.1.getD i false)/\(∀i,i < l.length->isHv cs i=false->nd.1.getD i false=false)/\∃g,g.w=w/\St E g a (purF l cs (bits D)++nd.2.1) nd.2.2
 refine ⟨fun g a hst=>yQa hmix hlb J ?_ ?_ ?_⟩
 .refine ⟨fun i o _ hd=>by simp at hd,_,List.mem_of_getElem? h0,by subst hH0;simp,fun i hi _=>by subst hH0;simp[List.getD_eq_getElem?_getD,hi],fun i hi _=>by subst hH0;simp[List.getD_eq_getElem?_getD,hi],⟨g.w.drew,g.u,g.loc⟩,rfl,(hst.le (fun d=>?_) hs).drew⟩;rcases hslot d with ⟨i,c,h1,h2,h3⟩ | h1
  .rw[q4a l cs _ i c d hdist' (by rw[hbl];omega) h1 h2,hbg _ i h3];exact .inl rfl
  rw[kYa l cs _ d h1];exact hf d
 .rintro D a w ⟨_,⟨H,frA,σA⟩,hm,hl,hD,_,g,rfl,hst'⟩ hfin;have hfin' :∀i,i < l.length->D i=true:=fun i hi=>hfin i (by simpa using hi)
  cases h.get hm with
  | full is _ _ hfJ hsJ hk=>
   refine ⟨g,_,_,rfl,St.le ?_ hfJ hsJ,hk⟩;have:bits D=allT l:=by
    apply List.ext_getElem (by rw[hbl,hTl]);intro i h1 h2;have hi:i < l.length:=by rw[hbl]at h1;exact h1
    simp[bits,allT,hfin' i hi]
   rw[<-this];exact hst'
  | step is _ hn _=>
   exfalso;have:((List.range l.length).all fun i=> !(isHv cs i) || H.getD i false)=true:=by
    rw[List.all_eq_true];intro i hi;have hi:i < l.length:=by simpa using hi
    cases hh:isHv cs i with
    | false=>rfl
    | true=>rw[<-hD i hi hh,hfin' i hi];rfl
   rw[this]at hn;cases hn
 rintro D a w i o ⟨hcl,⟨H,frA,σA⟩,hm,hl,hD,hD0,g,rfl,hst'⟩ ho hDi he;have ho' :l[i]? =some o:=by simpa using ho
 have hil:i < l.length:=(List.getElem?_eq_some_iff.1 ho').1;have hom:o∈l:=List.mem_of_getElem? ho';have hgo:o.guard=none:=by simpa using hgd o hom
 have hcl' :∀i' o',l[i']? =some o' ->upd D i i' =true->∀e∈o'.after,Region.binds .any e=true->upd D i e.on=true:=by
  intro i' o' h1 h2 e h3 h4;unfold upd at h2 ⊢;split
  .rfl
  split at h2
  .rename_i hii;subst hii;rw[ho']at h1;cases h1;exact he e h3 h4
  exact hcl i' o' h1 h2 e h3 h4
 have hmay:i∈mayL l cs H:=by
  simp only[mayL,List.mem_filter,List.mem_range,Bool.and_eq_true,Bool.not_eq_true',List.all_eq_true,Bool.or_eq_true];refine ⟨hil,?_,fun j hj=>?_⟩
  .cases hh:isHv cs i with
   | true=>rw[<-hD i hil hh];exact hDi
   | false=>exact hD0 i hil hh
  cases hh:isHv cs j with
  | false=>exact .inl rfl
  | true=>
   refine .inr ⟨?_,?_⟩
   .cases hb:((yua l l.length).getD i 0).testBit j with
    | false=>exact .inl rfl
    | true=>exact .inr (by rw[<-hD j hj hh];exact Qba hcl l.length i o ho' he j hb)
   cases hHj:H.getD j false with
   | false=>exact .inl rfl
   | true=>
    refine .inr ?_;cases hb:((yua l l.length).getD j 0).testBit i with
    | false=>rfl
    | true=>
     have:=ZVa hcl l.length j i hb (by rw[hD j hj hh];exact hHj);rw[hDi]at this;cases this
 have qla:wUb E l cs all H frA σA i:=by
  cases h.get hm with
  | full is hD2 hs _ _ _=>exact (hD2▸hs:wna E l cs all H frA σA (mayL l cs H)).get hmay
  | step is hD2 _ hs=>exact (hD2▸hs:wna E l cs all H frA σA (mayL l cs H)).get hmay
 have hw:Region.wanted o (yielded l.toArray a.tmps)=true:=by simp[Region.wanted,hgo]
 have hheavy:∀(_:cs[i]? =some none),(∀k,k < l.length->isHv cs k=true->upd D i k=(H.set i true).getD k false)/\(∀k,k < l.length->isHv cs k=false->(H.set i true).getD k false=false)/\∀frX d,(purF l cs (bits (upd D i))++frX).get d=(purF l cs (bits D)++frX).get d:=by
  intro hc;have hhv:isHv cs i=true:=by unfold isHv;rw[hc]
  refine ⟨fun k hk hh=>?_,fun k hk hh=>?_,fun frX d=>?_⟩
  .unfold upd;simp only[List.getD_eq_getElem?_getD,List.getElem?_set];by_cases hki:k=i
   .subst hki;simp[hl,hk]
   rw[if_neg hki,if_neg (Ne.symm hki),<-List.getD_eq_getElem?_getD];exact hD k hk hh
  .have hki:k≠i:=by rintro rfl;rw[hhv]at hh;cases hh
   simp only[List.getD_eq_getElem?_getD,List.getElem?_set];rw[if_neg (Ne.symm hki),<-List.getD_eq_getElem?_getD];exact hD0 k hk hh
  rcases hslot d with ⟨j,c,h1,h2,h3⟩ | h1
  .rw[q4a l cs _ j c d hdist' (by rw[hbl];omega) h1 h2,q4a l cs _ j c d hdist' (by rw[hbl];omega) h1 h2,hbg _ j h3,hbg _ j h3];have hji:j≠i:=by rintro rfl;rw[hc]at h2;cases h2
   unfold upd;rw[if_neg hji]
  rw[kYa l cs _ d h1,kYa l cs _ d h1]
 unfold wpOpIn;rw[ho];simp only[hw,if_true];cases qla with
 | @pure o2 c ho2 hc hop=>
  rw[ho']at ho2;cases ho2;have hhv:isHv cs i=false:=by unfold isHv;rw[hc]
  have hops:∀x∈o.op.operands,Rel g ((purF l cs (allT l)++frA).ev x) (a.eval x):=fun x hx=>by
   rw[<-hev D o frA hom he x hx];exact hst'.ev x
  obtain ⟨d,hd⟩:∃d,yRa l cs i=some d:=by
   have:=hall i (by simpa using hil);rw[hhv]at this;simpa[Option.isSome_iff_exists]using this
  have hod:o.dst=some d:=by
   unfold yRa at hd;rw[hc,ho']at hd;simpa using hd
  refine hop.go g a _ _ hops hst'.so fun g' v h1 h2 h3 h4=>⟨hcl',(H,frA,σA),hm,hl,fun k hk hh=>?_,hD0,g',rfl,?_⟩
  .have hki:k≠i:=by rintro rfl;rw[hhv]at hh;cases hh
   unfold upd;rw[if_neg hki];exact hD k hk hh
  have hdN:d < E.N:=by
   have:=hN o hom;rw[hod]at this;exact Nat.le_of_ble_eq_true (by simpa using this)
  have hsz:=hst'.n;refine ⟨fun d' =>?_,by rw[hod];simp[Act.put,hsz],by rw[hod];exact hst'.df.mono h1.ext,hst'.so.grow h1 h2 (fun k _=>by rw[h3])⟩;have hget:(a.put o.dst v).tmps.getD d' undef=if d=d' then v else a.tmps.getD d' undef:=by
   rw[hod];simp only[Act.put];rw[v1a];by_cases h5:d=d'
   .rw[if_pos ⟨h5,by omega⟩,if_pos h5]
   rw[if_neg (fun x=>h5 x.1),if_neg h5]
  rw[hget];by_cases h5:d=d'
  .subst h5;rw[if_pos rfl,q4a l cs _ i c d hdist' (by rw[hbl];omega) hd hc,hbg _ i hil];have:upd D i i=true:=by unfold upd;rw[if_pos rfl]
   rw[this];exact h4
  rw[if_neg h5];have hsame:(purF l cs (bits (upd D i))++frA).get d' =(purF l cs (bits D)++frA).get d' :=by
   rcases hslot d' with ⟨j,c',q1,q2,q3⟩ | q1
   .rw[q4a l cs _ j c' d' hdist' (by rw[hbl];omega) q1 q2,q4a l cs _ j c' d' hdist' (by rw[hbl];omega) q1 q2,hbg _ j q3,hbg _ j q3];have hji:j≠i:=by rintro rfl;rw[hd]at q1;cases q1;exact h5 rfl
    unfold upd;rw[if_neg hji]
   rw[kYa l cs _ d' q1,kYa l cs _ d' q1]
  rw[hsame];exact (hst'.fr d').mono h1.ext (fun k _=>by rw[h3])
 | @sto o2 σ' σ2 fr2 j ho2 hc hop hn hf2 hs2=>
  rw[ho']at ho2;cases ho2;obtain ⟨q1,q2,q3⟩:=hheavy hc;refine (hop.go _ (hev D o frA hom he) (hhas D frA)).go g a _ _ hst' fun g' a' hst2=>⟨hcl',_,List.mem_of_getElem? hn,by simp[hl],q1,q2,g',rfl,hst2.le (fun d=>?_) hs2⟩
  rw[q3];rcases hslot d with ⟨k,c,h1,h2,h3⟩ | h1
  .rw[q4a l cs _ k c d hdist' (by rw[hbl];omega) h1 h2,q4a l cs _ k c d hdist' (by rw[hbl];omega) h1 h2];exact .inr (.inl rfl)
  rw[kYa l cs _ d h1,kYa l cs _ d h1];exact hf2 d
 | @dst o2 k c rs σ' σ2 fr2 j ho2 hc hk hrs hop hn hf2 hs2=>
  rw[ho']at ho2;cases ho2;obtain ⟨q1,q2,q3⟩:=hheavy hc;refine (hop.go _ (hev D o frA hom he) (hhas D frA)).go g a _ _ hst' fun g' a' hst2=>⟨hcl',_,List.mem_of_getElem? hn,by simp[hl],q1,q2,g',rfl,hst2.le (fun d=>?_) hs2⟩
  rw[q3];rcases hslot d with ⟨m,c',h1,h2,h3⟩ | h1
  .have hkd:k≠d:=by
    rintro rfl;have:=List.all_eq_true.1 hk m (by simpa using h3);simp[h1]at this
   rw[Fr.get_cons,if_neg hkd,Fr.get_clrs,q4a l cs _ m c' d hdist' (by rw[hbl];omega) h1 h2,q4a l cs _ m c' d hdist' (by rw[hbl];omega) h1 h2];refine .inr (.inl ?_);cases (bits D).getD m false with
   | false=>exact W2a (by rw[List.all_eq_true];intro r _;rfl)
   | true=>
    refine W2a ?_;have:=List.all_eq_true.1 hrs _ (List.mem_of_getElem? h2);exact this
  have:=hf2 d;rw[Fr.get_cons,Fr.get_clrs]at this ⊢;rw[kYa l cs _ d h1,kYa l cs _ d h1];exact this
section
variable {FR:Fr} {ty:TypeId} {pos:String} {af:Array Edge} {gu:Option (Nat × Bool)} {T:Tab} {P:Program} {id k r size bytes:Nat} {e t:TypeId} {zero:Value} {d:TypeDesc}
theorem mqz{o:Oper}{c:AV}(hT:kTa E.P T)(h:qval T FR.ev σ o.op=some c):OpG E o FR σ c:=k9a (WYa hT h)
theorem zmb{o:Oper}{fr' fr2:Fr}{σ' σ2:Sto}(h:OpTo E o fr σ fr' σ')(hf:FrLe fr' fr2)(hs:k8a σ' σ2):OpTo E o fr σ fr2 σ2:=
 ⟨fun g a K Q hst hK=>h.go g a K Q hst fun g' a' h' =>hK g' a' (h'.le hf hs)⟩
theorem kOa:k8a σ σ:=fun _ _ h=>.inl h
theorem Vya{c:AV}:FrLe ((k,c)::fr) ((k,c)::fr.clrs []):=fun d=>by
 rw[Fr.get_cons,Fr.get_cons,Fr.get_clrs,W2a rfl];exact .inr (.inl rfl)
theorem wVb{c:AV}:FrLe ((k,c)::fr.clr r) ((k,c)::fr.clrs [r]):=fun d=>by
 rw[Fr.get_cons,Fr.get_cons,Fr.get_clrs,Fr.get_clr];refine .inr (.inl ?_);split
 .rfl
 simp[AV.clr,AV.clrs]
theorem yza{x y:Operand}{o off:Nat}{cs vs:List AV}(hx:FR.ev x=.ptr o off)(ho:σ.get o=some (.cells cs))(hy:(FR.ev y).cells=some vs)(ht:TyOk E.P t size bytes zero d)(hz:Nat.beq vs.length size=true)(hle:Nat.ble (off+vs.length) cs.length=true):
 HvS E ⟨none,.store t x y,ty,pos,af,gu⟩ FR σ (σ.upd o (.cells (KRa cs off vs))):=
 ⟨fun fr he _=>Jka ((he x (by simp[Op.operands,Call.operands])).trans hx) ho (by rw[he y (by simp[Op.operands,Call.operands])];exact hy) ht hz hle⟩
theorem WHa(id:Nat){cs:List AV}(hN:Nat.ble (k+1) E.N=true)(ht:TyOk E.P t size bytes zero d)(hz:(v0a zero).cells=some cs∨zero.cells.toList.map v0a=cs/\zero.cells.toList.all cellV=true)(hf:FR.has id=false)(hs:σ.has id=false)(hcs:AV.hasL id cs=false):
 HvD E ⟨some k,.alloc t,ty,pos,af,gu⟩ FR σ k (.ptr id 0) [] ((id,.cells cs)::σ):=
 ⟨fun fr _ hh=>zmb (Jja id hN ht hz (hh id hf) hs hcs) Vya kOa⟩
theorem WIa{f:FuncId}{xs:List Operand}{ats:Array TypeId}{args:List AV}{els:List (List PV)}(r:Nat)(hr:RunO E.P f args e size els)(hN:Nat.ble (k+1) E.N=true)(hf:FR.has r=false)(hs:σ.has r=false)(ha:xs.map (fun x=>(FR.ev x).weak)=args):
 HvD E ⟨some k,.call ⟨.value (.func f),xs.toArray,ats⟩,ty,pos,af,gu⟩ FR σ k (.hs r 0) [] ((r,.row e true size els)::σ):=
 ⟨fun fr he hh=>zmb (wNb r hr hN (hh r hf) hs (by
  rw[<-ha];refine List.map_congr_left fun x hx=>?_
  rw[he x (by simp[Op.operands,Call.operands,hx])])) Vya kOa⟩
theorem W3a{α:Type}{F:α->List PV}{l xs r' :List α}{lim sb ss:Nat}{nl:Option Bool}{x y:Operand}{mu:Bool}{sz:Value}(hN:Nat.ble (k+1) E.N=true)(hx:FR.ev x=.hs r 0)(hr:σ.get r=some (.row e mu size (l.map F)))(hy:FR.ev y=.pv (.sl nl (xs.map F)))(ht:TyOk E.P t ss sb sz (.slice e))(he:TyOk E.P e size bytes zero d)
 (hzz:Nat.beq zero.cells.size size=true) (hs:Nat.ble 1 size=true) (hF:∀x,(F x).length=size) (hlim:(Nat.ble (lim * bytes) 140737488355328 && Nat.ble lim 9223372036854775807)=true) (h:app lim l xs=some r'):
 HvD E ⟨some k,.call ⟨.builtin .append, #[x,y], #[t,t]⟩,ty,pos,af,gu⟩ FR σ k (.hs r 0) [r] ((σ.clr r).upd r (.row e mu size (r'.map F))):=
 ⟨fun fr hE _=>zmb (k1a hN ((hE x (by simp[Op.operands,Call.operands])).trans hx) hr ((hE y (by simp[Op.operands,Call.operands])).trans hy) ht he hzz hs hF hlim h) wVb kOa⟩
theorem vXb{α:Type}{F:α->List PV}{l:List α}{f:FuncId}{xs:List Operand}{ats:Array TypeId}{args:List AV}{c:AV}(dd:Nat)(hr:Run E.P f args c)(hN:Nat.ble (k+1) E.N=true)(hm0:(xs.any fun x=>match x with | .tmp t=>Nat.beq t dd | _=>false)=true)(hd:FR.get dd=.hs r 0)(hrow:σ.get r=some (.row e true size (l.map F)))(ha:xs.map (fun x=>(Fr.ev ((dd,.l F l)::FR) x).weak)=args):
 HvD E ⟨some k,.call ⟨.value (.func f),xs.toArray,ats⟩,ty,pos,af,gu⟩ FR σ k c [r] (σ.upd r (.row e false size (l.map F))):=
 ⟨fun fr he _=>⟨fun g a K Q hst hK=>by
  have hm:Operand.tmp dd∈xs:=by
   obtain ⟨x,hx,h1⟩:=List.any_eq_true.1 hm0;cases x with
   | tmp t=>rw[<-Nat.eq_of_beq_eq_true h1];exact hx
   | _=>cases h1
  have hd' :fr.get dd=.hs r 0:=(he (.tmp dd) (by simp[Op.operands,Call.operands,hm])).trans hd;have hst1:=hst.unmu hrow;obtain ⟨g',hw,hl,hst2,hv⟩:=hst1.pub (by rw[Sto.get_upd hrow,if_pos rfl]);have h1:=hst2.fr dd;rw[hd']at h1;have hst3:=hst2.reslot (d:=dd) (hv _ h1);have hcall:=(WSa (σ:=σ.upd r (.row e false size (l.map F))) (fr:=(dd,.l F l)::fr) (k:=k) (ty:=ty) (pos:=pos) (af:=af) (gu:=gu) (ats:=ats) hr hN (xs:=xs) (by
   rw[<-ha];refine List.map_congr_left fun x hx=>?_
   have:=he x (by simp[Op.operands,Call.operands,hx]);cases x with
   | tmp t=>
    show (Fr.get ((dd,_)::fr) t).weak=(Fr.get ((dd,_)::FR) t).weak;rw[Fr.get_cons,Fr.get_cons];split
    .rfl
    rw[show fr.get t=FR.get t from this]
   | const v=>rfl
   | global q=>rfl
   | func f=>rfl)).go g' a K Q hst3 fun g2 a2 h2=>hK g2 a2 (h2.le (fun d' =>?_) kOa)
  .rw[hw]at hcall;exact hcall
  rw[Fr.get_cons,Fr.get_cons,Fr.get_cons,Fr.get_clrs];by_cases hk:k=d'
  .rw[if_pos hk,if_pos hk];exact .inr (.inl rfl)
  rw[if_neg hk,if_neg hk];by_cases hdd:dd=d'
  .subst hdd;rw[hd'];refine .inl ?_;simp[AV.clrs,AV.has]
  rw[if_neg hdd];unfold AV.clrs;cases ([r].any fun r=>(fr.get d').has r) with
  | true=>exact .inl rfl
  | false=>exact .inr (.inl rfl)⟩⟩
end
end
structure zva where
 Code:Int
 Index:Int
def zva.pc(x:zva):List PV:=[pI x.Code,pI x.Index]
structure ySa where
 Address:Str
 To:List Str
def ySa.pc(x:ySa):List PV:=[pS x.Address,pL cS x.To]
structure zca where
 Address:Str
 Notify:Int
def zca.pc(x:zca):List PV:=[pS x.Address,pI x.Notify]
structure zEa where
 From:Str
 To:List zca
 Id:Str
def zEa.pc(x:zEa):List PV:=[pS x.From,pL zca.pc x.To,pS x.Id]
structure zha where
 Name:Str
 Value:Str
def zha.pc(x:zha):List PV:=[pS x.Name,pS x.Value]
structure zsa where
 Fields:List zha
 Body:List UInt8
def zsa.pc(x:zsa):List PV:=[pL zha.pc x.Fields,pL cU x.Body]
structure zVa where
 Envelope:zEa
 Message:zsa
def zVa.pc(x:zVa):List PV:=[pS x.Envelope.From,pL zca.pc x.Envelope.To,pS x.Envelope.Id,pL zha.pc x.Message.Fields,pL cU x.Message.Body]
structure zLa where
 Code:Int
 Lines:List Str
def zLa.pc(x:zLa):List PV:=[pI x.Code,pL cS x.Lines]
structure zma where
 Verb:Int
 Name:Str
 Address:Str
 Size:Int
 Notify:Int
 Last:Bool
def zma.pc(x:zma):List PV:=[pI x.Verb,pS x.Name,pS x.Address,pI x.Size,pI x.Notify,pB x.Last]
structure zna where
 n:Int
 word:Str
def zna.pc(x:zna):List PV:=[pI x.n,pS x.word]
structure zja where
 Name:Str
 Size:Int
 Many:Int
 Phase:Int
 Greeted:Bool
 Mailing:Bool
 From:Str
 To:List zca
 Buffer:List UInt8
 Data:List UInt8
 Lost:Int
 Dots:Int
 Chunked:Bool
 Left:Int
 Last:Bool
 Ignore:Bool
 Count:Int
def zja.pc(x:zja):List PV:=[pS x.Name,pI x.Size,pI x.Many,pI x.Phase,pB x.Greeted,pB x.Mailing,pS x.From,pL zca.pc x.To,pL cU x.Buffer,pL cU x.Data,pI x.Lost,pI x.Dots,pB x.Chunked,pI x.Left,pB x.Last,pB x.Ignore,pI x.Count]
structure zea where
 Server:zja
 replies:List zLa
 mails:List zVa
def zea.pc(x:zea):List PV:=[pS x.Server.Name,pI x.Server.Size,pI x.Server.Many,pI x.Server.Phase,pB x.Server.Greeted,pB x.Server.Mailing,pS x.Server.From,pL zca.pc x.Server.To,pL cU x.Server.Buffer,pL cU x.Server.Data,pI x.Server.Lost,pI x.Server.Dots,pB x.Server.Chunked,pI x.Server.Left,pB x.Server.Last,pB x.Server.Ignore,pI x.Server.Count,pL zLa.pc x.replies,pL zVa.pc x.mails]
structure zda where
 S:zja
 Replies:List zLa
 Mails:List zVa
def zda.pc(x:zda):List PV:=[pS x.S.Name,pI x.S.Size,pI x.S.Many,pI x.S.Phase,pB x.S.Greeted,pB x.S.Mailing,pS x.S.From,pL zca.pc x.S.To,pL cU x.S.Buffer,pL cU x.S.Data,pI x.S.Lost,pI x.S.Dots,pB x.S.Chunked,pI x.S.Left,pB x.S.Last,pB x.S.Ignore,pI x.S.Count,pL zLa.pc x.Replies,pL zVa.pc x.Mails]
def zA0(x:zja):List AV:=[.s x.Name,.i x.Size,.i x.Many,.i x.Phase,.bo x.Greeted,.bo x.Mailing,.s x.From,.l zca.pc x.To,.hs 90002009 0,.hs 90002010 0,.i x.Lost,.i x.Dots,.bo x.Chunked,.i x.Left,.bo x.Last,.bo x.Ignore,.i x.Count,.hs 90002018 0,.hs 90002019 0]
def zA1(x:zma):List AV:=[.i x.Verb,.s x.Name,.s x.Address,.i x.Size,.i x.Notify,.bo x.Last]
def zA2(x:zja):List AV:=[.s x.Name,.i x.Size,.i x.Many,.i x.Phase,.bo x.Greeted,.bo x.Mailing,.s x.From,.l zca.pc x.To,.l cU x.Buffer,.l cU x.Data,.i x.Lost,.i x.Dots,.bo x.Chunked,.i x.Left,.bo x.Last,.bo x.Ignore,.i x.Count]
def zB0(x:zea)(t:Sto):Sto:=(90002000,.cells (zA0 x.Server))::(90002009,.row 5 false 1 (List.map cU x.Server.Buffer))::(90002010,.row 5 false 1 (List.map cU x.Server.Data))::(90002018,.row 28 false 2 (List.map zLa.pc x.replies))::(90002019,.row 56 false 5 (List.map zVa.pc x.mails))::t
theorem mixed:prog.follows .mixedOrders=true:=by kernel_rfl
theorem W4a:wDb prog 96:=⟨by kernel_rfl,by kernel_rfl⟩
theorem znb:wDb prog 30:=⟨by kernel_rfl,by kernel_rfl⟩
theorem zob:wDb prog 87:=⟨by kernel_rfl,by kernel_rfl⟩
theorem Vza:wDb prog 60:=⟨by kernel_rfl,by kernel_rfl⟩
theorem YYa (w : World) : Sem.run prog (Array.mapM (fun (f : Field) => do pure (f.offset, <- sizeOf f.type)) #[⟨"Verb", 3, 0, false, "", "", 0⟩, ⟨"Name", 9, 1, false, "", "", 8⟩, ⟨"Address", 9, 2, false, "", "", 24⟩, ⟨"Size", 3, 3, false, "", "", 40⟩, ⟨"Notify", 3, 4, false, "", "", 48⟩, ⟨"Last", 4, 5, false, "", "", 56⟩]) w = .ok #[(0, 1), (1, 1), (2, 1), (3, 1), (4, 1), (5, 1)] w := by kernel_rfl
theorem W5a (w : World) : Sem.run prog (Array.mapM (fun (f : Field) => do pure (f.offset, <- sizeOf f.type)) #[⟨"From", 9, 0, false, "", "", 0⟩, ⟨"To", 22, 1, false, "", "", 16⟩, ⟨"Id", 9, 2, false, "", "", 40⟩]) w = .ok #[(0, 1), (1, 1), (2, 1)] w := by kernel_rfl
theorem kmb (w : World) : Sem.run prog (Array.mapM (fun (f : Field) => do pure (f.offset, <- sizeOf f.type)) #[⟨"Code", 3, 0, false, "", "", 0⟩, ⟨"Index", 3, 1, false, "", "", 8⟩]) w = .ok #[(0, 1), (1, 1)] w := by kernel_rfl
theorem knb (w : World) : Sem.run prog (Array.mapM (fun (f : Field) => do pure (f.offset, <- sizeOf f.type)) #[⟨"Name", 9, 0, false, "", "", 0⟩, ⟨"Value", 9, 1, false, "", "", 16⟩]) w = .ok #[(0, 1), (1, 1)] w := by kernel_rfl
theorem qYb (w : World) : Sem.run prog (Array.mapM (fun (f : Field) => do pure (f.offset, <- sizeOf f.type)) #[⟨"Envelope", 51, 0, false, "", "", 0⟩, ⟨"Message", 54, 3, false, "", "", 56⟩]) w = .ok #[(0, 3), (3, 2)] w := by kernel_rfl
theorem YZa (w : World) : Sem.run prog (Array.mapM (fun (f : Field) => do pure (f.offset, <- sizeOf f.type)) #[⟨"Fields", 52, 0, false, "", "", 0⟩, ⟨"Body", 23, 1, false, "", "", 24⟩]) w = .ok #[(0, 1), (1, 1)] w := by kernel_rfl
theorem Wka (w : World) : Sem.run prog (Array.mapM (fun (f : Field) => do pure (f.offset, <- sizeOf f.type)) #[⟨"Address", 9, 0, false, "", "", 0⟩, ⟨"Notify", 3, 1, false, "", "", 16⟩]) w = .ok #[(0, 1), (1, 1)] w := by kernel_rfl
theorem kob (w : World) : Sem.run prog (Array.mapM (fun (f : Field) => do pure (f.offset, <- sizeOf f.type)) #[⟨"Code", 3, 0, false, "", "", 0⟩, ⟨"Lines", 26, 1, false, "", "", 8⟩]) w = .ok #[(0, 1), (1, 1)] w := by kernel_rfl
theorem zpb (w : World) : Sem.run prog (Array.mapM (fun (f : Field) => do pure (f.offset, <- sizeOf f.type)) #[⟨"Name", 9, 0, false, "", "", 0⟩, ⟨"Size", 3, 1, false, "", "", 16⟩, ⟨"Many", 3, 2, false, "", "", 24⟩, ⟨"Phase", 3, 3, false, "", "", 32⟩, ⟨"Greeted", 4, 4, false, "", "", 40⟩, ⟨"Mailing", 4, 5, false, "", "", 41⟩, ⟨"From", 9, 6, false, "", "", 48⟩, ⟨"To", 22, 7, false, "", "", 64⟩, ⟨"Buffer", 23, 8, false, "", "", 88⟩, ⟨"Data", 23, 9, false, "", "", 112⟩, ⟨"Lost", 3, 10, false, "", "", 136⟩, ⟨"Dots", 3, 11, false, "", "", 144⟩, ⟨"Chunked", 4, 12, false, "", "", 152⟩, ⟨"Left", 3, 13, false, "", "", 160⟩, ⟨"Last", 4, 14, false, "", "", 168⟩, ⟨"Ignore", 4, 15, false, "", "", 169⟩, ⟨"Count", 3, 16, false, "", "", 176⟩]) w = .ok #[(0, 1), (1, 1), (2, 1), (3, 1), (4, 1), (5, 1), (6, 1), (7, 1), (8, 1), (9, 1), (10, 1), (11, 1), (12, 1), (13, 1), (14, 1), (15, 1), (16, 1)] w := by kernel_rfl
theorem KDa (w : World) : Sem.run prog (Array.mapM (fun (f : Field) => do pure (f.offset, <- sizeOf f.type)) #[⟨"n", 3, 0, false, "", "posthouse/command", 0⟩, ⟨"word", 9, 1, false, "", "posthouse/command", 8⟩]) w = .ok #[(0, 1), (1, 1)] w := by kernel_rfl
theorem VAa (w : World) : Sem.run prog (Array.mapM (fun (f : Field) => do pure (f.offset, <- sizeOf f.type)) #[⟨"Server", 25, 0, true, "", "", 0⟩, ⟨"replies", 37, 17, false, "", "posthouse/server", 184⟩, ⟨"mails", 38, 18, false, "", "posthouse/server", 208⟩]) w = .ok #[(0, 17), (17, 1), (18, 1)] w := by kernel_rfl
theorem qHa:TyOk prog 211 6 72 (.agg #[.int .i64 0,.string ⟨#[]⟩,.int .i64 0,.string ⟨#[]⟩,.int .i64 0,.string ⟨#[]⟩]) (.array 3 210):=⟨by kernel_rfl,by kernel_rfl⟩
theorem Z0a:TyOk prog 121 8 128 (.agg #[.string ⟨#[]⟩,.string ⟨#[]⟩,.string ⟨#[]⟩,.string ⟨#[]⟩,.string ⟨#[]⟩,.string ⟨#[]⟩,.string ⟨#[]⟩,.string ⟨#[]⟩]) (.array 8 9):=⟨by kernel_rfl,by kernel_rfl⟩
theorem KXa : TyOk prog 96 6 64 (.agg #[.int .i64 0, .string ⟨#[]⟩, .string ⟨#[]⟩, .int .i64 0, .int .i64 0, .bool false]) (.struct #[⟨"Verb", 3, 0, false, "", "", 0⟩, ⟨"Name", 9, 1, false, "", "", 8⟩, ⟨"Address", 9, 2, false, "", "", 24⟩, ⟨"Size", 3, 3, false, "", "", 40⟩, ⟨"Notify", 3, 4, false, "", "", 48⟩, ⟨"Last", 4, 5, false, "", "", 56⟩]) := ⟨by kernel_rfl, by kernel_rfl⟩
theorem Z1a : TyOk prog 51 3 56 (.agg #[.string ⟨#[]⟩, .slice none 0 0, .string ⟨#[]⟩]) (.struct #[⟨"From", 9, 0, false, "", "", 0⟩, ⟨"To", 22, 1, false, "", "", 16⟩, ⟨"Id", 9, 2, false, "", "", 40⟩]) := ⟨by kernel_rfl, by kernel_rfl⟩
theorem vca : TyOk prog 30 2 16 (.agg #[.int .i64 0, .int .i64 0]) (.struct #[⟨"Code", 3, 0, false, "", "", 0⟩, ⟨"Index", 3, 1, false, "", "", 8⟩]) := ⟨by kernel_rfl, by kernel_rfl⟩
theorem vda : TyOk prog 87 2 32 (.agg #[.string ⟨#[]⟩, .string ⟨#[]⟩]) (.struct #[⟨"Name", 9, 0, false, "", "", 0⟩, ⟨"Value", 9, 1, false, "", "", 16⟩]) := ⟨by kernel_rfl, by kernel_rfl⟩
theorem v2a : TyOk prog 56 5 104 (.agg #[.string ⟨#[]⟩, .slice none 0 0, .string ⟨#[]⟩, .slice none 0 0, .slice none 0 0]) (.struct #[⟨"Envelope", 51, 0, false, "", "", 0⟩, ⟨"Message", 54, 3, false, "", "", 56⟩]) := ⟨by kernel_rfl, by kernel_rfl⟩
theorem qga : TyOk prog 54 2 48 (.agg #[.slice none 0 0, .slice none 0 0]) (.struct #[⟨"Fields", 52, 0, false, "", "", 0⟩, ⟨"Body", 23, 1, false, "", "", 24⟩]) := ⟨by kernel_rfl, by kernel_rfl⟩
theorem zza : TyOk prog 60 2 24 (.agg #[.string ⟨#[]⟩, .int .i64 0]) (.struct #[⟨"Address", 9, 0, false, "", "", 0⟩, ⟨"Notify", 3, 1, false, "", "", 16⟩]) := ⟨by kernel_rfl, by kernel_rfl⟩
theorem kpb : TyOk prog 28 2 32 (.agg #[.int .i64 0, .slice none 0 0]) (.struct #[⟨"Code", 3, 0, false, "", "", 0⟩, ⟨"Lines", 26, 1, false, "", "", 8⟩]) := ⟨by kernel_rfl, by kernel_rfl⟩
theorem zqb : TyOk prog 25 17 184 (.agg #[.string ⟨#[]⟩, .int .i64 0, .int .i64 0, .int .i64 0, .bool false, .bool false, .string ⟨#[]⟩, .slice none 0 0, .slice none 0 0, .slice none 0 0, .int .i64 0, .int .i64 0, .bool false, .int .i64 0, .bool false, .bool false, .int .i64 0]) (.struct #[⟨"Name", 9, 0, false, "", "", 0⟩, ⟨"Size", 3, 1, false, "", "", 16⟩, ⟨"Many", 3, 2, false, "", "", 24⟩, ⟨"Phase", 3, 3, false, "", "", 32⟩, ⟨"Greeted", 4, 4, false, "", "", 40⟩, ⟨"Mailing", 4, 5, false, "", "", 41⟩, ⟨"From", 9, 6, false, "", "", 48⟩, ⟨"To", 22, 7, false, "", "", 64⟩, ⟨"Buffer", 23, 8, false, "", "", 88⟩, ⟨"Data", 23, 9, false, "", "", 112⟩, ⟨"Lost", 3, 10, false, "", "", 136⟩, ⟨"Dots", 3, 11, false, "", "", 144⟩, ⟨"Chunked", 4, 12, false, "", "", 152⟩, ⟨"Left", 3, 13, false, "", "", 160⟩, ⟨"Last", 4, 14, false, "", "", 168⟩, ⟨"Ignore", 4, 15, false, "", "", 169⟩, ⟨"Count", 3, 16, false, "", "", 176⟩]) := ⟨by kernel_rfl, by kernel_rfl⟩
theorem zrb:TyOk prog 4 1 1 (.bool false) .bool:=⟨by kernel_rfl,by kernel_rfl⟩
theorem vGa : TyOk prog 210 2 24 (.agg #[.int .i64 0, .string ⟨#[]⟩]) (.struct #[⟨"n", 3, 0, false, "", "posthouse/command", 0⟩, ⟨"word", 9, 1, false, "", "posthouse/command", 8⟩]) := ⟨by kernel_rfl, by kernel_rfl⟩
theorem vYb : TyOk prog 206 1 16 (.nilIface) (.interface #[("Error", 228)]) := ⟨by kernel_rfl, by kernel_rfl⟩
theorem jRa:TyOk prog 3 1 8 (.int .i64 0) (.int .i64):=⟨by kernel_rfl,by kernel_rfl⟩
theorem ty_int32:TyOk prog 21 1 4 (.int .i32 0) (.int .i32):=⟨by kernel_rfl,by kernel_rfl⟩
theorem wKa:TyOk prog 170 1 8 (.map none) (.map 9 3):=⟨by kernel_rfl,by kernel_rfl⟩
theorem Qga:TyOk prog 75 1 8 (.pointer none) (.pointer 77):=⟨by kernel_rfl,by kernel_rfl⟩
theorem jSa : TyOk prog 44 19 232 (.agg #[.string ⟨#[]⟩, .int .i64 0, .int .i64 0, .int .i64 0, .bool false, .bool false, .string ⟨#[]⟩, .slice none 0 0, .slice none 0 0, .slice none 0 0, .int .i64 0, .int .i64 0, .bool false, .int .i64 0, .bool false, .bool false, .int .i64 0, .slice none 0 0, .slice none 0 0]) (.struct #[⟨"S", 25, 0, false, "", "", 0⟩, ⟨"Replies", 37, 17, false, "", "", 184⟩, ⟨"Mails", 38, 18, false, "", "", 208⟩]) := ⟨by kernel_rfl, by kernel_rfl⟩
theorem qVa:TyOk prog 52 1 24 (.slice none 0 0) (.slice 87):=⟨by kernel_rfl,by kernel_rfl⟩
theorem vva:TyOk prog 38 1 24 (.slice none 0 0) (.slice 56):=⟨by kernel_rfl,by kernel_rfl⟩
theorem zoa:TyOk prog 22 1 24 (.slice none 0 0) (.slice 60):=⟨by kernel_rfl,by kernel_rfl⟩
theorem Y0a:TyOk prog 37 1 24 (.slice none 0 0) (.slice 28):=⟨by kernel_rfl,by kernel_rfl⟩
theorem ty_s_int:TyOk prog 129 1 24 (.slice none 0 0) (.slice 3):=⟨by kernel_rfl,by kernel_rfl⟩
theorem kBa:TyOk prog 26 1 24 (.slice none 0 0) (.slice 9):=⟨by kernel_rfl,by kernel_rfl⟩
theorem zka:TyOk prog 23 1 24 (.slice none 0 0) (.slice 5):=⟨by kernel_rfl,by kernel_rfl⟩
theorem VBa : TyOk prog 77 19 232 (.agg #[.string ⟨#[]⟩, .int .i64 0, .int .i64 0, .int .i64 0, .bool false, .bool false, .string ⟨#[]⟩, .slice none 0 0, .slice none 0 0, .slice none 0 0, .int .i64 0, .int .i64 0, .bool false, .int .i64 0, .bool false, .bool false, .int .i64 0, .slice none 0 0, .slice none 0 0]) (.struct #[⟨"Server", 25, 0, true, "", "", 0⟩, ⟨"replies", 37, 17, false, "", "posthouse/server", 184⟩, ⟨"mails", 38, 18, false, "", "posthouse/server", 208⟩]) := ⟨by kernel_rfl, by kernel_rfl⟩
theorem zwa:TyOk prog 9 1 16 (.string ⟨#[]⟩) .string:=⟨by kernel_rfl,by kernel_rfl⟩
theorem zAa:TyOk prog 5 1 1 (.int .u8 0) (.int .u8):=⟨by kernel_rfl,by kernel_rfl⟩
def tab : Tab := [(211, ⟨6, 72, (.agg #[.int .i64 0, .string ⟨#[]⟩, .int .i64 0, .string ⟨#[]⟩, .int .i64 0, .string ⟨#[]⟩]), (.array 3 210), none⟩), (121, ⟨8, 128, (.agg #[.string ⟨#[]⟩, .string ⟨#[]⟩, .string ⟨#[]⟩, .string ⟨#[]⟩, .string ⟨#[]⟩, .string ⟨#[]⟩, .string ⟨#[]⟩, .string ⟨#[]⟩]), (.array 8 9), none⟩), (96, ⟨6, 64, (.agg #[.int .i64 0, .string ⟨#[]⟩, .string ⟨#[]⟩, .int .i64 0, .int .i64 0, .bool false]), (.struct #[⟨"Verb", 3, 0, false, "", "", 0⟩, ⟨"Name", 9, 1, false, "", "", 8⟩, ⟨"Address", 9, 2, false, "", "", 24⟩, ⟨"Size", 3, 3, false, "", "", 40⟩, ⟨"Notify", 3, 4, false, "", "", 48⟩, ⟨"Last", 4, 5, false, "", "", 56⟩]), (some #[(0, 1), (1, 1), (2, 1), (3, 1), (4, 1), (5, 1)])⟩), (51, ⟨3, 56, (.agg #[.string ⟨#[]⟩, .slice none 0 0, .string ⟨#[]⟩]), (.struct #[⟨"From", 9, 0, false, "", "", 0⟩, ⟨"To", 22, 1, false, "", "", 16⟩, ⟨"Id", 9, 2, false, "", "", 40⟩]), (some #[(0, 1), (1, 1), (2, 1)])⟩), (30, ⟨2, 16, (.agg #[.int .i64 0, .int .i64 0]), (.struct #[⟨"Code", 3, 0, false, "", "", 0⟩, ⟨"Index", 3, 1, false, "", "", 8⟩]), (some #[(0, 1), (1, 1)])⟩), (87, ⟨2, 32, (.agg #[.string ⟨#[]⟩, .string ⟨#[]⟩]), (.struct #[⟨"Name", 9, 0, false, "", "", 0⟩, ⟨"Value", 9, 1, false, "", "", 16⟩]), (some #[(0, 1), (1, 1)])⟩), (56, ⟨5, 104, (.agg #[.string ⟨#[]⟩, .slice none 0 0, .string ⟨#[]⟩, .slice none 0 0, .slice none 0 0]), (.struct #[⟨"Envelope", 51, 0, false, "", "", 0⟩, ⟨"Message", 54, 3, false, "", "", 56⟩]), (some #[(0, 3), (3, 2)])⟩), (54, ⟨2, 48, (.agg #[.slice none 0 0, .slice none 0 0]), (.struct #[⟨"Fields", 52, 0, false, "", "", 0⟩, ⟨"Body", 23, 1, false, "", "", 24⟩]), (some #[(0, 1), (1, 1)])⟩), (60, ⟨2, 24, (.agg #[.string ⟨#[]⟩, .int .i64 0]), (.struct #[⟨"Address", 9, 0, false, "", "", 0⟩, ⟨"Notify", 3, 1, false, "", "", 16⟩]), (some #[(0, 1), (1, 1)])⟩), (28, ⟨2, 32, (.agg #[.int .i64 0, .slice none 0 0]), (.struct #[⟨"Code", 3, 0, false, "", "", 0⟩, ⟨"Lines", 26, 1, false, "", "", 8⟩]), (some #[(0, 1), (1, 1)])⟩), (25, ⟨17, 184, (.agg #[.string ⟨#[]⟩, .int .i64 0, .int .i64 0, .int .i64 0, .bool false, .bool false, .string ⟨#[]⟩, .slice none 0 0, .slice none 0 0, .slice none 0 0, .int .i64 0, .int .i64 0, .bool false, .int .i64 0, .bool false, .bool false, .int .i64 0]), (.struct #[⟨"Name", 9, 0, false, "", "", 0⟩, ⟨"Size", 3, 1, false, "", "", 16⟩, ⟨"Many", 3, 2, false, "", "", 24⟩, ⟨"Phase", 3, 3, false, "", "", 32⟩, ⟨"Greeted", 4, 4, false, "", "", 40⟩, ⟨"Mailing", 4, 5, false, "", "", 41⟩, ⟨"From", 9, 6, false, "", "", 48⟩, ⟨"To", 22, 7, false, "", "", 64⟩, ⟨"Buffer", 23, 8, false, "", "", 88⟩, ⟨"Data", 23, 9, false, "", "", 112⟩, ⟨"Lost", 3, 10, false, "", "", 136⟩, ⟨"Dots", 3, 11, false, "", "", 144⟩, ⟨"Chunked", 4, 12, false, "", "", 152⟩, ⟨"Left", 3, 13, false, "", "", 160⟩, ⟨"Last", 4, 14, false, "", "", 168⟩, ⟨"Ignore", 4, 15, false, "", "", 169⟩, ⟨"Count", 3, 16, false, "", "", 176⟩]), (some #[(0, 1), (1, 1), (2, 1), (3, 1), (4, 1), (5, 1), (6, 1), (7, 1), (8, 1), (9, 1), (10, 1), (11, 1), (12, 1), (13, 1), (14, 1), (15, 1), (16, 1)])⟩), (4, ⟨1, 1, (.bool false), .bool, none⟩), (210, ⟨2, 24, (.agg #[.int .i64 0, .string ⟨#[]⟩]), (.struct #[⟨"n", 3, 0, false, "", "posthouse/command", 0⟩, ⟨"word", 9, 1, false, "", "posthouse/command", 8⟩]), (some #[(0, 1), (1, 1)])⟩), (206, ⟨1, 16, (.nilIface), (.interface #[("Error", 228)]), none⟩), (3, ⟨1, 8, (.int .i64 0), (.int .i64), none⟩), (21, ⟨1, 4, (.int .i32 0), (.int .i32), none⟩), (170, ⟨1, 8, (.map none), (.map 9 3), none⟩), (75, ⟨1, 8, (.pointer none), (.pointer 77), none⟩), (44, ⟨19, 232, (.agg #[.string ⟨#[]⟩, .int .i64 0, .int .i64 0, .int .i64 0, .bool false, .bool false, .string ⟨#[]⟩, .slice none 0 0, .slice none 0 0, .slice none 0 0, .int .i64 0, .int .i64 0, .bool false, .int .i64 0, .bool false, .bool false, .int .i64 0, .slice none 0 0, .slice none 0 0]), (.struct #[⟨"S", 25, 0, false, "", "", 0⟩, ⟨"Replies", 37, 17, false, "", "", 184⟩, ⟨"Mails", 38, 18, false, "", "", 208⟩]), none⟩), (52, ⟨1, 24, (.slice none 0 0), (.slice 87), none⟩), (38, ⟨1, 24, (.slice none 0 0), (.slice 56), none⟩), (22, ⟨1, 24, (.slice none 0 0), (.slice 60), none⟩), (37, ⟨1, 24, (.slice none 0 0), (.slice 28), none⟩), (129, ⟨1, 24, (.slice none 0 0), (.slice 3), none⟩), (26, ⟨1, 24, (.slice none 0 0), (.slice 9), none⟩), (23, ⟨1, 24, (.slice none 0 0), (.slice 5), none⟩), (77, ⟨19, 232, (.agg #[.string ⟨#[]⟩, .int .i64 0, .int .i64 0, .int .i64 0, .bool false, .bool false, .string ⟨#[]⟩, .slice none 0 0, .slice none 0 0, .slice none 0 0, .int .i64 0, .int .i64 0, .bool false, .int .i64 0, .bool false, .bool false, .int .i64 0, .slice none 0 0, .slice none 0 0]), (.struct #[⟨"Server", 25, 0, true, "", "", 0⟩, ⟨"replies", 37, 17, false, "", "posthouse/server", 184⟩, ⟨"mails", 38, 18, false, "", "posthouse/server", 208⟩]), (some #[(0, 17), (17, 1), (18, 1)])⟩), (9, ⟨1, 16, (.string ⟨#[]⟩), .string, none⟩), (5, ⟨1, 1, (.int .u8 0), (.int .u8), none⟩)]
theorem tk:kTa prog tab:=(k6a qHa (k6a Z0a (vaa KXa YYa (vaa Z1a W5a (vaa vca kmb (vaa vda knb (vaa v2a qYb (vaa qga YZa (vaa zza Wka (vaa kpb kob (vaa zqb zpb (k6a zrb (vaa vGa KDa (k6a vYb (k6a jRa (k6a ty_int32 (k6a wKa (k6a Qga (k6a jSa (k6a qVa (k6a vva (k6a zoa (k6a Y0a (k6a ty_s_int (k6a kBa (k6a zka (vaa VBa VAa (k6a zwa (k6a zAa tab_nil)))))))))))))))))))))))))))))
def zva.ok(x:zva):Prop:=ok64 x.Code/\ok64 x.Index
def zva.bk(x:zva):Nat:=(fun _=>1) x.Code+(fun _=>1) x.Index+1
instance:Inhabited zva:=⟨⟨default,default⟩⟩
def ySa.ok(x:ySa):Prop:=Qfa x.Address/\(okL Qfa) x.To
def ySa.bk(x:ySa):Nat:=(fun s=>s.length+1) x.Address+(bkL (fun s=>s.length+1)) x.To+1
instance:Inhabited ySa:=⟨⟨default,default⟩⟩
def zca.ok(x:zca):Prop:=Qfa x.Address/\ok64 x.Notify
def zca.bk(x:zca):Nat:=(fun s=>s.length+1) x.Address+(fun _=>1) x.Notify+1
instance:Inhabited zca:=⟨⟨default,default⟩⟩
def zEa.ok(x:zEa):Prop:=Qfa x.From/\(okL zca.ok) x.To/\Qfa x.Id
def zEa.bk(x:zEa):Nat:=(fun s=>s.length+1) x.From+(bkL zca.bk) x.To+(fun s=>s.length+1) x.Id+1
instance:Inhabited zEa:=⟨⟨default,default,default⟩⟩
def zha.ok(x:zha):Prop:=Qfa x.Name/\Qfa x.Value
def zha.bk(x:zha):Nat:=(fun s=>s.length+1) x.Name+(fun s=>s.length+1) x.Value+1
instance:Inhabited zha:=⟨⟨default,default⟩⟩
def zsa.ok(x:zsa):Prop:=(okL zha.ok) x.Fields/\(okL (fun _=>True)) x.Body
def zsa.bk(x:zsa):Nat:=(bkL zha.bk) x.Fields+(bkL (fun _=>1)) x.Body+1
instance:Inhabited zsa:=⟨⟨default,default⟩⟩
def zVa.ok(x:zVa):Prop:=zEa.ok x.Envelope/\zsa.ok x.Message
def zVa.bk(x:zVa):Nat:=zEa.bk x.Envelope+zsa.bk x.Message+1
instance:Inhabited zVa:=⟨⟨default,default⟩⟩
def zLa.ok(x:zLa):Prop:=ok64 x.Code/\(okL Qfa) x.Lines
def zLa.bk(x:zLa):Nat:=(fun _=>1) x.Code+(bkL (fun s=>s.length+1)) x.Lines+1
instance:Inhabited zLa:=⟨⟨default,default⟩⟩
def zma.ok(x:zma):Prop:=ok64 x.Verb/\Qfa x.Name/\Qfa x.Address/\ok64 x.Size/\ok64 x.Notify/\(fun _=>True) x.Last
def zma.bk(x:zma):Nat:=(fun _=>1) x.Verb+(fun s=>s.length+1) x.Name+(fun s=>s.length+1) x.Address+(fun _=>1) x.Size+(fun _=>1) x.Notify+(fun _=>1) x.Last+1
instance:Inhabited zma:=⟨⟨default,default,default,default,default,default⟩⟩
def zna.ok(x:zna):Prop:=ok64 x.n/\Qfa x.word
def zna.bk(x:zna):Nat:=(fun _=>1) x.n+(fun s=>s.length+1) x.word+1
instance:Inhabited zna:=⟨⟨default,default⟩⟩
def zja.ok(x:zja):Prop:=Qfa x.Name/\ok64 x.Size/\ok64 x.Many/\ok64 x.Phase/\(fun _=>True) x.Greeted/\(fun _=>True) x.Mailing/\Qfa x.From/\(okL zca.ok) x.To/\(okL (fun _=>True)) x.Buffer/\(okL (fun _=>True)) x.Data/\ok64 x.Lost/\ok64 x.Dots/\(fun _=>True) x.Chunked/\ok64 x.Left/\(fun _=>True) x.Last/\(fun _=>True) x.Ignore/\ok64 x.Count
def zja.bk(x:zja):Nat:=(fun s=>s.length+1) x.Name+(fun _=>1) x.Size+(fun _=>1) x.Many+(fun _=>1) x.Phase+(fun _=>1) x.Greeted+(fun _=>1) x.Mailing+(fun s=>s.length+1) x.From+(bkL zca.bk) x.To+(bkL (fun _=>1)) x.Buffer+(bkL (fun _=>1)) x.Data+(fun _=>1) x.Lost+(fun _=>1) x.Dots+(fun _=>1) x.Chunked+(fun _=>1) x.Left+(fun _=>1) x.Last+(fun _=>1) x.Ignore+(fun _=>1) x.Count+1
instance:Inhabited zja:=⟨⟨default,default,default,default,default,default,default,default,default,default,default,default,default,default,default,default,default⟩⟩
def zea.ok(x:zea):Prop:=zja.ok x.Server/\(okL zLa.ok) x.replies/\(okL zVa.ok) x.mails
def zea.bk(x:zea):Nat:=zja.bk x.Server+(bkL zLa.bk) x.replies+(bkL zVa.bk) x.mails+1
instance:Inhabited zea:=⟨⟨default,default,default⟩⟩
def zda.ok(x:zda):Prop:=zja.ok x.S/\(okL zLa.ok) x.Replies/\(okL zVa.ok) x.Mails
def zda.bk(x:zda):Nat:=zja.bk x.S+(bkL zLa.bk) x.Replies+(bkL zVa.bk) x.Mails+1
instance:Inhabited zda:=⟨⟨default,default,default⟩⟩
theorem vHa:ZYa prog 9 1 cS Qfa (fun s=>s.length+1):=opens_S zwa.u (by kernel_rfl)
theorem op_int:ZYa prog 3 1 cI ok64 (fun _=>1):=opens_I jRa.u (by kernel_rfl)
theorem Wla:ZYa prog 60 2 zca.pc zca.ok zca.bk:=⟨by kernel_rfl,fun _=>rfl,fun {H enc W fuel cs d} h=>by
 obtain ⟨xs,n,_,rfl,hl,hlen,hf⟩:=DataW.trod_struct zza.u h;have hl2:cs.length=2:=hl.trans (by kernel_rfl)
 match xs,hlen with
 | [y0,y1],_=>
  obtain ⟨x0,r0,o0,b0⟩:=vHa.op (show _=some y0 from hf 0 _ rfl)
  replace r0:RelC W _ (List.take (prog.cellsOf 9) (List.drop 0 cs)):=r0
  rw[vHa.cells]at r0;obtain ⟨x1,r1,o1,b1⟩:=op_int.op (show _=some y1 from hf 1 _ rfl)
  replace r1:RelC W _ (List.take (prog.cellsOf 3) (List.drop 1 cs)):=r1
  rw[op_int.cells]at r1;exact ⟨⟨x0,x1⟩,(wma (off:=0) rfl r0 (wma (off:=1) rfl r1 (QSa hl2))),⟨o0,o1⟩,by simp only[List.map,Rows.uptoBulk,Rows.uptoBulkAll,zca.bk];omega⟩⟩
theorem jda:ZYa prog 22 1 (cL zca.pc) (okL zca.ok) (bkL zca.bk):=qUb Wla rfl zoa.u (by kernel_rfl)
theorem op_uint8:ZYa prog 5 1 cU (fun _=>True) (fun _=>1):=opens_U zAa.u (by kernel_rfl)
theorem Jra:ZYa prog 23 1 (cL cU) (okL (fun _=>True)) (bkL (fun _=>1)):=qUb op_uint8 rfl zka.u (by kernel_rfl)
theorem Z2a:ZYa prog 51 3 zEa.pc zEa.ok zEa.bk:=⟨by kernel_rfl,fun _=>rfl,fun {H enc W fuel cs d} h=>by
 obtain ⟨xs,n,_,rfl,hl,hlen,hf⟩:=DataW.trod_struct Z1a.u h;have hl2:cs.length=3:=hl.trans (by kernel_rfl)
 match xs,hlen with
 | [y0,y1,y2],_=>
  obtain ⟨x0,r0,o0,b0⟩:=vHa.op (show _=some y0 from hf 0 _ rfl)
  replace r0:RelC W _ (List.take (prog.cellsOf 9) (List.drop 0 cs)):=r0
  rw[vHa.cells]at r0;obtain ⟨x1,r1,o1,b1⟩:=jda.op (show _=some y1 from hf 1 _ rfl)
  replace r1:RelC W _ (List.take (prog.cellsOf 22) (List.drop 1 cs)):=r1
  rw[jda.cells]at r1;obtain ⟨x2,r2,o2,b2⟩:=vHa.op (show _=some y2 from hf 2 _ rfl)
  replace r2:RelC W _ (List.take (prog.cellsOf 9) (List.drop 2 cs)):=r2
  rw[vHa.cells]at r2;exact ⟨⟨x0,x1,x2⟩,(wma (off:=0) rfl r0 (wma (off:=1) rfl r1 (wma (off:=2) rfl r2 (QSa hl2)))),⟨o0,o1,o2⟩,by simp only[List.map,Rows.uptoBulk,Rows.uptoBulkAll,zEa.bk];omega⟩⟩
theorem kqb:ZYa prog 87 2 zha.pc zha.ok zha.bk:=⟨by kernel_rfl,fun _=>rfl,fun {H enc W fuel cs d} h=>by
 obtain ⟨xs,n,_,rfl,hl,hlen,hf⟩:=DataW.trod_struct vda.u h;have hl2:cs.length=2:=hl.trans (by kernel_rfl)
 match xs,hlen with
 | [y0,y1],_=>
  obtain ⟨x0,r0,o0,b0⟩:=vHa.op (show _=some y0 from hf 0 _ rfl)
  replace r0:RelC W _ (List.take (prog.cellsOf 9) (List.drop 0 cs)):=r0
  rw[vHa.cells]at r0;obtain ⟨x1,r1,o1,b1⟩:=vHa.op (show _=some y1 from hf 1 _ rfl)
  replace r1:RelC W _ (List.take (prog.cellsOf 9) (List.drop 1 cs)):=r1
  rw[vHa.cells]at r1;exact ⟨⟨x0,x1⟩,(wma (off:=0) rfl r0 (wma (off:=1) rfl r1 (QSa hl2))),⟨o0,o1⟩,by simp only[List.map,Rows.uptoBulk,Rows.uptoBulkAll,zha.bk];omega⟩⟩
theorem KYa:ZYa prog 52 1 (cL zha.pc) (okL zha.ok) (bkL zha.bk):=qUb kqb rfl qVa.u (by kernel_rfl)
theorem KZa:ZYa prog 54 2 zsa.pc zsa.ok zsa.bk:=⟨by kernel_rfl,fun _=>rfl,fun {H enc W fuel cs d} h=>by
 obtain ⟨xs,n,_,rfl,hl,hlen,hf⟩:=DataW.trod_struct qga.u h;have hl2:cs.length=2:=hl.trans (by kernel_rfl)
 match xs,hlen with
 | [y0,y1],_=>
  obtain ⟨x0,r0,o0,b0⟩:=KYa.op (show _=some y0 from hf 0 _ rfl)
  replace r0:RelC W _ (List.take (prog.cellsOf 52) (List.drop 0 cs)):=r0
  rw[KYa.cells]at r0;obtain ⟨x1,r1,o1,b1⟩:=Jra.op (show _=some y1 from hf 1 _ rfl)
  replace r1:RelC W _ (List.take (prog.cellsOf 23) (List.drop 1 cs)):=r1
  rw[Jra.cells]at r1;exact ⟨⟨x0,x1⟩,(wma (off:=0) rfl r0 (wma (off:=1) rfl r1 (QSa hl2))),⟨o0,o1⟩,by simp only[List.map,Rows.uptoBulk,Rows.uptoBulkAll,zsa.bk];omega⟩⟩
theorem qZb:ZYa prog 56 5 zVa.pc zVa.ok zVa.bk:=⟨by kernel_rfl,fun _=>rfl,fun {H enc W fuel cs d} h=>by
 obtain ⟨xs,n,_,rfl,hl,hlen,hf⟩:=DataW.trod_struct v2a.u h;have hl2:cs.length=5:=hl.trans (by kernel_rfl)
 match xs,hlen with
 | [y0,y1],_=>
  obtain ⟨x0,r0,o0,b0⟩:=Z2a.op (show _=some y0 from hf 0 _ rfl)
  replace r0:RelC W _ (List.take (prog.cellsOf 51) (List.drop 0 cs)):=r0
  rw[Z2a.cells]at r0;obtain ⟨x1,r1,o1,b1⟩:=KZa.op (show _=some y1 from hf 1 _ rfl)
  replace r1:RelC W _ (List.take (prog.cellsOf 54) (List.drop 3 cs)):=r1
  rw[KZa.cells]at r1;exact ⟨⟨x0,x1⟩,(wma (off:=0) rfl r0 (wma (off:=3) rfl r1 (QSa hl2))),⟨o0,o1⟩,by simp only[List.map,Rows.uptoBulk,Rows.uptoBulkAll,zVa.bk];omega⟩⟩
def R_In(a0:Int)(a1:Int)(a2:Int):Option Bool:=
 ((bif decide (a1<=a0) then some (decide (a0<=a2)) else some false):Option Bool).bind fun (j1:Bool)=>some j1
def R_At(a0:Int)(a1:Int):Option zva:=
 some ((zva.mk a0 a1))
def qta(a0:UInt8):Option Bool:=
 ((R_In ((a0.toNat:Int)) 97 122).bind fun v2=>(bif v2 then some true else (R_In ((a0.toNat:Int)) 65 90).bind fun v5=>(bif v5 then some true else (R_In ((a0.toNat:Int)) 48 57).bind fun v8=>some v8)):Option Bool).bind fun (j1:Bool)=>some j1
def QUa(a0:Str)(s1:Int):Option (Step Int (Unit ⊕ Int)):=
 (bif decide (s1 < (a0.length:Int)) then (idx a0 s1).bind fun v7=>(bif ((v7.toNat:Int)==64) then some (.out (.inr s1)) else some (.cont (w64 (s1+1)))) else some (.out (.inl (()))))
noncomputable def krb(a0:Str):Option Int:=
 (iter (QUa a0) 0).bind (Sum.elim (fun b2=>some ((a0.length:Int))) (fun b3=>some b3))
def qIa(a0:Str)(s1:Int):Option (Step Int (Unit ⊕ Bool)):=
 (bif decide (s1 < (a0.length:Int)) then (idx a0 s1).bind fun v7=>((idx a0 s1).bind fun v10=>(bif ((v10.toNat:Int)==46) then (bif (s1==0) then some true else (bif (s1==(w64 ((a0.length:Int) - 1))) then some true else (idx a0 ((w64 (s1 - 1)))).bind fun v15=>some (((v15.toNat:Int)==46)))) else some false):Option Bool).bind fun (j9:Bool)=>(bif j9 then some (.out (.inr false)) else ((R_In ((v7.toNat:Int)) 97 122).bind fun v19=>(bif (!v19) then (R_In ((v7.toNat:Int)) 48 57).bind fun v22=>(bif (!v22) then (idx a0 s1).bind fun v25=>(bif ((v25.toNat:Int) !=45) then (idx a0 s1).bind fun v28=>some (((v28.toNat:Int) !=46)) else some false) else some false) else some false):Option Bool).bind fun (j18:Bool)=>(bif j18 then some (.out (.inr false)) else some (.cont (w64 (s1+1))))) else some (.out (.inl (()))))
noncomputable def jTa(a0:Str):Option Bool:=
 (iter (qIa a0) 0).bind (Sum.elim (fun b2=>(R_In ((a0.length:Int)) 1 60).bind fun v31=>some v31) (fun b3=>some b3))
def vIa(a0:Str)(v1:Int)(s3:Int):Option (Step Int (Unit ⊕ Bool)):=
 (bif decide (s3 < v1) then (idx a0 s3).bind fun v9=>((qta v9).bind fun v12=>(bif (!v12) then (bif ((v9.toNat:Int) !=45) then (bif ((v9.toNat:Int) !=95) then (bif ((v9.toNat:Int) !=46) then (bif ((v9.toNat:Int) !=43) then some (((v9.toNat:Int) !=61)) else some false) else some false) else some false) else some false) else some false):Option Bool).bind fun (j11:Bool)=>(bif j11 then some (.out (.inr false)) else some (.cont (w64 (s3+1)))) else some (.out (.inl (()))))
noncomputable def qJa(a0:Str):Option Bool:=
 (krb a0).bind fun v1=>(iter (vIa a0 v1) 0).bind (Sum.elim (fun b4=>((R_In v1 1 60).bind fun v21=>(bif v21 then (bif decide (v1 < (a0.length:Int)) then (cut a0 ((w64 (v1+1))) ((a0.length:Int))).bind fun v25=>(jTa v25).bind fun v27=>some v27 else some false) else some false):Option Bool).bind fun (j20:Bool)=>some j20) (fun b5=>some b5))
def zxa(a0:Int)(a1:Int):Option zva:=
 some ((zva.mk a0 a1))
def kCa:Option zva:=
 some ((zva.mk 0 0))
def z8a(a0:zva):Option Bool:=
 some ((a0.Code !=0))
def waa(a0:UInt8):Option Bool:=
 ((bif decide (97<=(a0.toNat:Int)) then (bif decide ((a0.toNat:Int)<=122) then some true else (bif decide (65<=(a0.toNat:Int)) then (bif decide ((a0.toNat:Int)<=90) then some true else (bif decide (48<=(a0.toNat:Int)) then some (decide ((a0.toNat:Int)<=57)) else some false)) else (bif decide (48<=(a0.toNat:Int)) then some (decide ((a0.toNat:Int)<=57)) else some false))) else (bif decide (65<=(a0.toNat:Int)) then (bif decide ((a0.toNat:Int)<=90) then some true else (bif decide (48<=(a0.toNat:Int)) then some (decide ((a0.toNat:Int)<=57)) else some false)) else (bif decide (48<=(a0.toNat:Int)) then some (decide ((a0.toNat:Int)<=57)) else some false))):Option Bool).bind fun (j1:Bool)=>some j1
def jea(a0:List Str)(a1:List Str)(s2:Int):Option (Step Int (Unit ⊕ Bool)):=
 (bif decide (s2 < (a0.length:Int)) then (idx a0 s2).bind fun v8=>(idx a1 s2).bind fun v10=>(bif (v8 !=v10) then some (.out (.inr false)) else some (.cont (w64 (s2+1)))) else some (.out (.inl (()))))
noncomputable def Z3a(a0:List Str)(a1:List Str):Option Bool:=
 (bif ((a0.length:Int) !=(a1.length:Int)) then some false else (iter (jea a0 a1) 0).bind (Sum.elim (fun b3=>some true) (fun b4=>some b4)))
def qaa(a0:List UInt8)(s1:Int × Int × (List Str)):Option (Step (Int × Int × (List Str)) (Int × (List Str))):=
 (bif decide (s1.2.1 < (a0.length:Int)) then (((idx a0 s1.2.1).bind fun v7=>(bif ((v7.toNat:Int)==10) then (idx a0 ((w64 (s1.2.1 - 1)))).bind fun v10=>(bif ((v10.toNat:Int)==13) then some (decide (s1.1 < s1.2.1)) else some false) else some false):Option Bool).bind fun (j6:Bool)=>(bif j6 then (cut a0 s1.1 ((w64 (s1.2.1 - 1)))).bind fun v14=>(app 8796093022208 s1.2.2 (([v14]:List Str))).bind fun v16=>some (((w64 (s1.2.1+1)),v16)) else some ((s1.1,s1.2.2))):Option (Int × (List Str))).bind fun (j5:Int × (List Str))=>some (.cont (j5.1,(w64 (s1.2.1+1)),j5.2)) else some (.out ((s1.1,s1.2.2))))
def wLa(a0:List UInt8)(a1:List UInt8):Option Bool:=
 some ((a0==a1))
def kJa(a0:List UInt8)(a1:List UInt8):Option Bool:=
 ((bif decide ((a1.length:Int)<=(a0.length:Int)) then (cut a0 ((w64 ((a0.length:Int) - (a1.length:Int)))) ((a0.length:Int))).bind fun v3=>(wLa v3 a1).bind fun v5=>some v5 else some false):Option Bool).bind fun (j1:Bool)=>some j1
def Zga(a b:List UInt8):Option Int:=if a.length < 4294967281/\b.length=2 then some (Lib.index a b) else none
def zXa(s:Str)(c:UInt8):Option Int:=some (Lib.indexByte s c)
def kPa(s t:Str):Option Bool:=if s.length < 4294967281 then some (Lib.contains s t) else none
def qKa(s t:Str):Option (Str × Str × Bool):=if s.length < 4294967281 then some (Lib.cut s t) else none
def kxa(a0:Int):Option Bool:=
 ((bif decide (0<=a0) then some (decide (a0 < 55296)) else some false):Option Bool).bind fun (j1:Bool)=>(bif j1 then some true else ((bif decide (57343 < a0) then some (decide (a0<=1114111)) else some false):Option Bool).bind fun (j4:Bool)=>(bif j4 then some true else some false))
def qma(a0:Str)(s7:Nat):Option (Step Nat (Unit ⊕ Int)):=
 (bif decide (s7 < a0.length) then (bif ((KWa a0 s7)==65533) then some (.out (.inr (((s7:Nat):Int)))) else some (.cont (s7+jQa a0 s7))) else some (.out (.inl (()))))
def yva(a0:Str)(a1:Int)(j23:Int × Int)(s36:Int):Option (Step Int Unit):=
 (bif decide (s36 < (((w7a a1)).length:Int)) then (idx a0 ((w64 (j23.2 - s36)))).bind fun v40=>(idx ((w7a a1)) ((w64 (j23.1 - s36)))).bind fun v42=>(bif ((v40.toNat:Int) !=(v42.toNat:Int)) then none else some (.cont (w64 (s36+1)))) else some (.out (())))
noncomputable def qna(a0:Str)(a1:Int)(j23:Int × Int):Option (Step Int (Unit ⊕ Int)):=
 (iter (yva a0 a1 j23) 1).bind fun b37=>some (.out (.inr ((w64 (j23.2 - j23.1)))))
noncomputable def qoa(a0:Str)(a1:Int)(s17:Int):Option (Step Int (Unit ⊕ Int)):=
 (bif decide (s17 < (a0.length:Int)) then (idx a0 s17).bind fun v24=>(idx ((w7a a1)) ((w64 ((((w7a a1)).length:Int) - 1)))).bind fun v26=>(bif ((v24.toNat:Int) !=(v26.toNat:Int)) then (cut a0 ((w64 (s17+1))) ((a0.length:Int))).bind fun v29=>(idx ((w7a a1)) ((w64 ((((w7a a1)).length:Int) - 1)))).bind fun v31=>(zXa v29 v31).bind fun v33=>(bif decide (v33 < 0) then some (.out (.inr ((-1)))) else (qna a0 a1 ((w64 ((((w7a a1)).length:Int) - 1)),(w64 (s17+(w64 (v33+1))))))) else (qna a0 a1 ((w64 ((((w7a a1)).length:Int) - 1)),s17))) else some (.out (.inl (()))))
noncomputable def kna(a0:Str)(a1:Int):Option Int:=
 ((bif decide (0<=a1) then some (decide (a1 < 128)) else some false):Option Bool).bind fun (j1:Bool)=>(bif j1 then (zXa a0 ((toU8 a1))).bind fun v4=>some v4 else (bif (a1==65533) then (iter (qma a0) 0).bind (Sum.elim (fun b8=>some ((-1))) (fun b9=>some b9)) else (kxa a1).bind fun v14=>(bif (!v14) then some ((-1)) else (iter (qoa a0 a1) ((w64 ((((w7a a1)).length:Int) - 1)))).bind (Sum.elim (fun b18=>some ((-1))) (fun b19=>some b19)))))
def zMa(a0:Int):Option Bool:=
 some (decide (8 < a0))
noncomputable def qpa(a0:Str)(a1:Str)(s12:Nat):Option (Step Nat (Unit ⊕ Int)):=
 (bif decide (s12 < a0.length) then (kna a1 ((KWa a0 s12))).bind fun v18=>(bif decide (0<=v18) then some (.out (.inr (((s12:Nat):Int)))) else some (.cont (s12+jQa a0 s12))) else some (.out (.inl (()))))
noncomputable def vwa(a0:Str)(a1:Str):Option Int:=
 (bif (a1==([]:Str)) then some ((-1)) else (bif ((a1.length:Int)==1) then (idx a1 0).bind fun v3=>((bif decide (128<=(v3.toNat:Int)) then some 65533 else some ((v3.toNat:Int))):Option Int).bind fun (j5:Int)=>(kna a0 j5).bind fun v7=>some v7 else (zMa ((a0.length:Int))).bind fun v9=>(bif v9 then none else (iter (qpa a0 a1) 0).bind (Sum.elim (fun b13=>some ((-1))) (fun b14=>some b14)))))
def Jsa(t:Str):Bool:=t.all fun c=>decide (c.toNat < 128)
def qba(s t:Str):Option Int:=if s.length < 4294967281/\t.length < 4294967281/\2<=t.length/\Jsa t=true then some (Lib.indexAny s t) else none
def QVa(a0:List UInt8)(s1:Int × Int × (List Str)):Option (Step (Int × Int × (List Str)) (Int × (List Str))):=
 (bif decide (s1.2.1 < (a0.length:Int)) then (((idx a0 s1.2.1).bind fun v7=>(bif ((v7.toNat:Int)==10) then (idx a0 ((w64 (s1.2.1 - 1)))).bind fun v10=>(bif ((v10.toNat:Int)==13) then some (decide (s1.1 < s1.2.1)) else some false) else some false):Option Bool).bind fun (j6:Bool)=>(bif j6 then (cut a0 s1.1 ((w64 (s1.2.1 - 1)))).bind fun v14=>(app 8796093022208 s1.2.2 (([v14]:List Str))).bind fun v16=>some (((w64 (s1.2.1+1)),v16)) else some ((s1.1,s1.2.2))):Option (Int × (List Str))).bind fun (j5:Int × (List Str))=>some (.cont (j5.1,(w64 (s1.2.1+1)),j5.2)) else some (.out ((s1.1,s1.2.2))))
def Z4a(v20:List Str)(s22:Int × (List UInt8)):Option (Step (Int × (List UInt8)) (List UInt8)):=
 (bif decide (s22.1 < (v20.length:Int)) then ((((idx v20 s22.1).bind fun v29=>(bif decide (0 < (v29.length:Int)) then (idx v20 s22.1).bind fun v32=>(idx v32 0).bind fun v34=>some (((v34.toNat:Int)==46)) else some false):Option Bool).bind fun (j28:Bool)=>(bif j28 then (app 140737488355328 s22.2 (([(46:UInt8)]:List UInt8))).bind fun v37=>some v37 else some s22.2):Option (List UInt8)).bind fun (j27:List UInt8)=>(idx v20 s22.1).bind fun v39=>(app 140737488355328 j27 v39).bind fun v41=>(bif decide ((w64 (s22.1+1)) < (v20.length:Int)) then (app 140737488355328 v41 (([(13:UInt8),(10:UInt8)]:List UInt8))).bind fun v44=>some v44 else some v41):Option (List UInt8)).bind fun (j26:List UInt8)=>some (.cont ((w64 (s22.1+1)),j26)) else some (.out s22.2))
noncomputable def ksb(a0:List UInt8):Option (List UInt8):=
 (iter (QVa a0) ((0,1,([]:List Str)))).bind fun b2=>(cut a0 b2.1 ((a0.length:Int))).bind fun v18=>(app 8796093022208 b2.2 (([v18]:List Str))).bind fun v20=>(iter (Z4a v20) ((0,([]:List UInt8)))).bind fun b23=>(app 140737488355328 b23 (([(46:UInt8),(13:UInt8),(10:UInt8)]:List UInt8))).bind fun v46=>some v46
def z9a(a0:Str)(a1:Str):Option Bool:=
 ((bif decide ((a1.length:Int)<=(a0.length:Int)) then (cut a0 0 ((a1.length:Int))).bind fun v3=>some ((v3==a1)) else some false):Option Bool).bind fun (j1:Bool)=>some j1
def kDa(a0:Str)(a1:Str):Option Bool:=
 (z9a a0 a1).bind fun v1=>some v1
def kaa(a0:Str)(a1:Str):Option Bool:=
 ((bif decide ((a1.length:Int)<=(a0.length:Int)) then (cut a0 ((w64 ((a0.length:Int) - (a1.length:Int)))) ((a0.length:Int))).bind fun v3=>some ((v3==a1)) else some false):Option Bool).bind fun (j1:Bool)=>some j1
def kEa(a0:Str)(a1:Str):Option Bool:=
 (kaa a0 a1).bind fun v1=>some v1
def qda(a0:Str)(s5:Int):Option (Step Int (Unit ⊕ Unit)):=
 (bif decide (s5 < (a0.length:Int)) then (idx a0 s5).bind fun v11=>((bif decide (97<=(v11.toNat:Int)) then (bif decide ((v11.toNat:Int)<=122) then some true else (bif decide (48<=(v11.toNat:Int)) then (bif decide ((v11.toNat:Int)<=57) then some true else (bif ((v11.toNat:Int)==45) then some true else some (((v11.toNat:Int)==46)))) else (bif ((v11.toNat:Int)==45) then some true else some (((v11.toNat:Int)==46))))) else (bif decide (48<=(v11.toNat:Int)) then (bif decide ((v11.toNat:Int)<=57) then some true else (bif ((v11.toNat:Int)==45) then some true else some (((v11.toNat:Int)==46)))) else (bif ((v11.toNat:Int)==45) then some true else some (((v11.toNat:Int)==46))))):Option Bool).bind fun (j13:Bool)=>(bif (!j13) then some (.out (.inr (()))) else some (.cont (w64 (s5+1)))) else some (.out (.inl (()))))
noncomputable def vea(a0:Str):Option Bool:=
 ((bif (a0 !=([]:Str)) then (bif decide ((a0.length:Int)<=60) then ((iter (qda a0) 0).bind (Sum.elim (fun b6=>some true) (fun b7=>some false)):Option Bool).bind fun (j4:Bool)=>(bif j4 then (kDa a0 (([46]:Str))).bind fun v26=>(bif (!v26) then (kEa a0 (([46]:Str))).bind fun v29=>(bif (!v29) then (kPa a0 (([46,46]:Str))).bind fun v32=>some ((!v32)) else some false) else some false) else some false) else some false) else some false):Option Bool).bind fun (j1:Bool)=>some j1
def qua(v1:Str × Str × Bool)(s8:Int):Option (Step Int (Unit ⊕ Unit)):=
 (bif decide (s8 < (v1.1.length:Int)) then (idx v1.1 s8).bind fun v14=>((waa v14).bind fun v17=>(bif v17 then some true else (zXa (([45,95,46,43,61]:Str)) v14).bind fun v20=>some (decide (0<=v20))):Option Bool).bind fun (j16:Bool)=>(bif (!j16) then some (.out (.inr (()))) else some (.cont (w64 (s8+1)))) else some (.out (.inl (()))))
noncomputable def vJa(a0:Str):Option (Str × Str × Bool):=
 (qKa a0 (([64]:Str))).bind fun v1=>((bif v1.2.2 then (bif (v1.1 !=([]:Str)) then (bif decide ((v1.1.length:Int)<=60) then ((iter (qua v1) 0).bind (Sum.elim (fun b9=>some true) (fun b10=>some false)):Option Bool).bind fun (j7:Bool)=>(bif j7 then (vea v1.2.1).bind fun v24=>some v24 else some false) else some false) else some false) else some false):Option Bool).bind fun (j3:Bool)=>some ((v1.1,v1.2.1,j3))
noncomputable def kua(a0:Str):Option Bool:=
 (vJa a0).bind fun v1=>some v1.2.2
def Zha(a0:Str)(s1:Int):Option (Step Int (Unit ⊕ Bool)):=
 (bif decide (s1 < (a0.length:Int)) then ((idx a0 s1).bind fun v8=>(qta v8).bind fun v10=>(bif (!v10) then (idx a0 s1).bind fun v13=>(bif ((v13.toNat:Int) !=45) then (idx a0 s1).bind fun v16=>(bif ((v16.toNat:Int) !=95) then (idx a0 s1).bind fun v19=>some (((v19.toNat:Int) !=46)) else some false) else some false) else some false):Option Bool).bind fun (j7:Bool)=>(bif j7 then some (.out (.inr false)) else some (.cont (w64 (s1+1)))) else some (.out (.inl (()))))
noncomputable def Zia(a0:Str):Option Bool:=
 (iter (Zha a0) 0).bind (Sum.elim (fun b2=>(R_In ((a0.length:Int)) 1 60).bind fun v22=>some v22) (fun b3=>some b3))
def Kva(a0:List zca)(a1:Str)(s1:Int):Option (Step Int (Unit ⊕ Int)):=
 (bif decide (s1 < (a0.length:Int)) then (idx a0 s1).bind fun v7=>(bif (v7.Address==a1) then some (.out (.inr s1)) else some (.cont (w64 (s1+1)))) else some (.out (.inl (()))))
noncomputable def VCa(a0:List zca)(a1:Str):Option Int:=
 (iter (Kva a0 a1) 0).bind (Sum.elim (fun b2=>some ((-1))) (fun b3=>some b3))
noncomputable def qea(a0:zEa)(s20:Int):Option (Step Int (Unit ⊕ zva)):=
 (bif decide (s20 < (a0.To.length:Int)) then (idx a0.To s20).bind fun v26=>(qJa v26.Address).bind fun v28=>(bif (!v28) then (R_At 10 s20).bind fun v31=>some (.out (.inr v31)) else (idx a0.To s20).bind fun v33=>(R_In v33.Notify 0 7).bind fun v35=>(bif (!v35) then (R_At 3 s20).bind fun v38=>some (.out (.inr v38)) else (cut a0.To 0 s20).bind fun v40=>(idx a0.To s20).bind fun v42=>(VCa v40 v42.Address).bind fun v44=>(bif decide (0<=v44) then (R_At 7 s20).bind fun v47=>some (.out (.inr v47)) else some (.cont (w64 (s20+1)))))) else some (.out (.inl (()))))
noncomputable def vfa(a0:zEa):Option zva:=
 ((bif (a0.From !=([]:Str)) then (qJa a0.From).bind fun v3=>some ((!v3)) else some false):Option Bool).bind fun (j1:Bool)=>(bif j1 then (R_At 10 ((-10))).bind fun v6=>some v6 else (R_In ((a0.To.length:Int)) 1 60).bind fun v8=>(bif (!v8) then (R_At 2 ((-11))).bind fun v11=>some v11 else ((bif (a0.Id !=([]:Str)) then (Zia a0.Id).bind fun v15=>some ((!v15)) else some false):Option Bool).bind fun (j13:Bool)=>(bif j13 then (R_At 10 ((-12))).bind fun v18=>some v18 else (iter (qea a0) 0).bind (Sum.elim (fun b21=>some ((zva.mk 0 0))) (fun b22=>some b22)))))
def woa(a0:Str)(s5:Int):Option (Step Int (Unit ⊕ Unit)):=
 (bif decide (s5 < (a0.length:Int)) then (idx a0 s5).bind fun v11=>((waa v11).bind fun v14=>(bif v14 then some true else (bif ((v11.toNat:Int)==45) then some true else (bif ((v11.toNat:Int)==95) then some true else some (((v11.toNat:Int)==46))))):Option Bool).bind fun (j13:Bool)=>(bif (!j13) then some (.out (.inr (()))) else some (.cont (w64 (s5+1)))) else some (.out (.inl (()))))
noncomputable def yLa(a0:Str):Option Bool:=
 ((bif (a0 !=([]:Str)) then (bif decide ((a0.length:Int)<=60) then ((iter (woa a0) 0).bind (Sum.elim (fun b6=>some true) (fun b7=>some false)):Option Bool).bind fun (j4:Bool)=>some j4 else some false) else some false):Option Bool).bind fun (j1:Bool)=>some j1
def k2a(a0:Int):Option Bool:=
 ((bif decide (0<=a0) then some (decide (a0<=7)) else some false):Option Bool).bind fun (j1:Bool)=>some j1
def kya(v7:zca)(v19:List zca)(s22:Int):Option (Step Int (Unit ⊕ Int)):=
 (bif decide (s22 < (v19.length:Int)) then (idx v19 s22).bind fun v28=>(bif (v28.Address==v7.Address) then some (.out (.inr s22)) else some (.cont (w64 (s22+1)))) else some (.out (.inl (()))))
noncomputable def k7a(a0:List zca)(s1:Int):Option (Step Int (Unit ⊕ zva)):=
 (bif decide (s1 < (a0.length:Int)) then (idx a0 s1).bind fun v7=>(kua v7.Address).bind fun v9=>(bif (!v9) then (zxa 10 s1).bind fun v12=>some (.out (.inr v12)) else (k2a v7.Notify).bind fun v14=>(bif (!v14) then (zxa 3 s1).bind fun v17=>some (.out (.inr v17)) else (cut a0 0 s1).bind fun v19=>((iter (kya v7 v19) 0).bind (Sum.elim (fun b23=>some ((-1))) (fun b24=>some b24)):Option Int).bind fun (j21:Int)=>(bif decide (0<=j21) then (zxa 7 s1).bind fun v32=>some (.out (.inr v32)) else some (.cont (w64 (s1+1)))))) else some (.out (.inl (()))))
noncomputable def kFa(a0:List zca):Option zva:=
 (iter (k7a a0) 0).bind (Sum.elim (fun b2=>(kCa).bind fun v34=>some v34) (fun b3=>some b3))
def qva(s4:Int × (List zca) × (List (Str × Int)))(j10:(List zca) × (List (Str × Int))):Option (Step (Int × (List zca) × (List (Str × Int))) ((List zca) ⊕ ((List zca) × zva))):=
 some (.cont ((w64 (s4.1+1)),j10.1,j10.2))
noncomputable def qwa(a0:List zca)(s4:Int × (List zca) × (List (Str × Int))):Option (Step (Int × (List zca) × (List (Str × Int))) ((List zca) ⊕ ((List zca) × zva))):=
 (bif decide (s4.1 < (a0.length:Int)) then (idx a0 s4.1).bind fun v11=>(kua v11.Address).bind fun v13=>(bif (!v13) then (zxa 10 s4.1).bind fun v16=>some (.out (.inr (([],v16)))) else (k2a v11.Notify).bind fun v18=>(bif (!v18) then (zxa 3 s4.1).bind fun v21=>some (.out (.inr (([],v21)))) else (bif (mget s4.2.2 v11.Address).isSome then (idx s4.2.1 (((mget s4.2.2 v11.Address).getD 0))).bind fun v24=>(idx s4.2.1 (((mget s4.2.2 v11.Address).getD 0))).bind fun v26=>(idx s4.2.1 (((mget s4.2.2 v11.Address).getD 0))).bind fun v28=>(idx s4.2.1 (((mget s4.2.2 v11.Address).getD 0))).bind fun v30=>(qva s4 ((List.set s4.2.1 (Int.toNat (((mget s4.2.2 v11.Address).getD 0))) ((zca.mk v30.Address ((iOr v26.Notify v11.Notify))))),s4.2.2)) else (app 5864062014805 s4.2.1 (([v11]:List zca))).bind fun v32=>(qva s4 (v32,(mput s4.2.2 v11.Address ((s4.2.1.length:Int)))))))) else some (.out (.inl s4.2.1)))
noncomputable def vKa(a0:List zca):Option ((List zca) × zva):=
 (bif decide (300 < (a0.length:Int)) then (zxa 2 ((-1))).bind fun v2=>some (([],v2)) else (iter (qwa a0) ((0,([]:List zca),([]:List (Str × Int))))).bind (Sum.elim (fun b5=>(kCa).bind fun v34=>some ((b5,v34))) (fun b6=>some ((b6.1,b6.2)))))
def yTa(a0:Int)(a1:Int)(s1:Int × Int):Option (Step (Int × Int) Int):=
 (bif decide (s1.2<=4) then (((nz s1.2).bind fun v7=>(bif ((iRem ((iQuo a0 s1.2)) 2)==1) then some true else (nz s1.2).bind fun v10=>some (((iRem ((iQuo a1 s1.2)) 2)==1))):Option Bool).bind fun (j6:Bool)=>(bif j6 then some ((w64 (s1.1+s1.2))) else some s1.1):Option Int).bind fun (j5:Int)=>some (.cont (j5,(w64 (2 * s1.2)))) else some (.out s1.1))
noncomputable def zsb(a0:Int)(a1:Int):Option Int:=
 (iter (yTa a0 a1) ((0,1))).bind fun b2=>some b2
noncomputable def Zja(a0:List zca)(v11:zca)(s13:Int × Int):Option (Step (Int × Int) Int):=
 (bif decide (s13.1 < (a0.length:Int)) then ((idx a0 s13.1).bind fun v18=>(bif (v18.Address==v11.Address) then (idx a0 s13.1).bind fun v21=>(zsb s13.2 v21.Notify).bind fun v23=>some v23 else some s13.2):Option Int).bind fun (j17:Int)=>some (.cont ((w64 (s13.1+1)),j17)) else some (.out s13.2))
noncomputable def Zka(a0:List zca)(s1:Int × (List zca)):Option (Step (Int × (List zca)) (List zca)):=
 (bif decide (s1.1 < (a0.length:Int)) then ((idx a0 s1.1).bind fun v6=>(VCa s1.2 v6.Address).bind fun v8=>(bif decide (0<=v8) then some s1.2 else (idx a0 s1.1).bind fun v11=>(iter (Zja a0 v11) (((w64 (s1.1+1)),v11.Notify))).bind fun b14=>(app 5864062014805 s1.2 (([(zca.mk v11.Address b14)]:List zca))).bind fun v25=>some v25):Option (List zca)).bind fun (j5:List zca)=>some (.cont ((w64 (s1.1+1)),j5)) else some (.out s1.2))
noncomputable def ztb(a0:List zca):Option (List zca):=
 (iter (Zka a0) ((0,([]:List zca)))).bind fun b2=>some b2
def kla(a0:Str)(a1:Str):Option Bool:=
 (qba a0 a1).bind fun v1=>some (decide (0<=v1))
def w8a(a0:Str)(s5:Int):Option (Step Int (Unit ⊕ Unit)):=
 (bif decide (s5 < (a0.length:Int)) then (idx a0 s5).bind fun v11=>((bif decide (33<=(v11.toNat:Int)) then (bif decide ((v11.toNat:Int)<=126) then some (((v11.toNat:Int) !=58)) else some false) else some false):Option Bool).bind fun (j13:Bool)=>(bif (!j13) then some (.out (.inr (()))) else some (.cont (w64 (s5+1)))) else some (.out (.inl (()))))
noncomputable def Z5a(a0:Str):Option Bool:=
 ((bif (a0 !=([]:Str)) then (bif decide ((a0.length:Int)<=60) then ((iter (w8a a0) 0).bind (Sum.elim (fun b6=>some true) (fun b7=>some false)):Option Bool).bind fun (j4:Bool)=>some j4 else some false) else some false):Option Bool).bind fun (j1:Bool)=>some j1
def Z6a(a0:Str):Option Bool:=
 (kla a0 (([13,10,0]:Str))).bind fun v1=>some v1
def qLa(a0:UInt8):Option Bool:=
 ((bif ((a0.toNat:Int)==32) then some true else some (((a0.toNat:Int)==9))):Option Bool).bind fun (j1:Bool)=>some j1
def jUa(a0:Str):Option Bool:=
 ((Z6a a0).bind fun v2=>(bif (!v2) then (bif (a0==([]:Str)) then some true else (idx a0 0).bind fun v6=>(qLa v6).bind fun v8=>(bif (!v8) then (idx a0 ((w64 ((a0.length:Int) - 1)))).bind fun v11=>(qLa v11).bind fun v13=>some ((!v13)) else some false)) else some false):Option Bool).bind fun (j1:Bool)=>some j1
def qMa(s1:Int × Int)(j5:Int):Option (Step (Int × Int) Int):=
 some (.cont (j5,(w64 (s1.2+1))))
def yAa(a0:Str)(s1:Int × Int):Option (Step (Int × Int) Int):=
 (bif decide (s1.2 < (a0.length:Int)) then ((idx a0 s1.2).bind fun v7=>(qLa v7).bind fun v9=>(bif (!v9) then some true else (idx a0 ((w64 (s1.2 - 1)))).bind fun v12=>(qLa v12).bind fun v14=>some v14):Option Bool).bind fun (j6:Bool)=>(bif j6 then (qMa s1 s1.1) else ((bif decide (0 < s1.1) then some (decide (78 < s1.2)) else some false):Option Bool).bind fun (j17:Bool)=>(bif j17 then some (.out s1.1) else (qMa s1 s1.2))) else some (.out s1.1))
noncomputable def jVa(a0:Str)(a1:Int):Option Int:=
 (iter (yAa a0) ((0,(max a1 1)))).bind fun b2=>some b2
noncomputable def w9a(s18:Str × Int × (List Str)):Option (Step (Str × Int × (List Str)) (Str × (List Str))):=
 (bif decide (78 < (s18.1.length:Int)) then (jVa s18.1 s18.2.1).bind fun v22=>(bif (v22==0) then some (.out ((s18.1,s18.2.2))) else (cut s18.1 0 v22).bind fun v25=>(app 8796093022208 s18.2.2 (([v25]:List Str))).bind fun v27=>(cut s18.1 v22 ((s18.1.length:Int))).bind fun v29=>some (.cont (v29,0,v27))) else some (.out ((s18.1,s18.2.2))))
def jfa(v31:List Str)(s34:Int):Option (Step Int (Unit ⊕ ((List Str) × zva))):=
 (bif decide (s34 < (v31.length:Int)) then (idx v31 s34).bind fun v40=>(bif decide (998 < (v40.length:Int)) then (zxa 1 s34).bind fun v43=>some (.out (.inr (([],v43)))) else some (.cont (w64 (s34+1)))) else some (.out (.inl (()))))
noncomputable def yUa(a0:Str)(a1:Str):Option ((List Str) × zva):=
 (Z5a a0).bind fun v1=>(bif (!v1) then (zxa 10 ((-1))).bind fun v4=>some (([],v4)) else (bif decide (4000 < (a1.length:Int)) then (zxa 1 ((-1))).bind fun v7=>some (([],v7)) else (jUa a1).bind fun v9=>(bif (!v9) then (zxa 11 ((-1))).bind fun v12=>some (([],v12)) else (cat a0 (([58,32]:Str))).bind fun v14=>(cat v14 a1).bind fun v16=>(iter (w9a) ((v16,(w64 ((a0.length:Int)+2)),([]:List Str)))).bind fun b19=>(app 8796093022208 b19.2 (([b19.1]:List Str))).bind fun v31=>(iter (jfa v31) 0).bind (Sum.elim (fun b35=>(kCa).bind fun v45=>some ((v31,v45))) (fun b36=>some ((b36.1,b36.2)))))))
noncomputable def q5a(a0:List zha)(s4:Int):Option (Step Int (Unit ⊕ zva)):=
 (bif decide (s4 < (a0.length:Int)) then (idx a0 s4).bind fun v10=>(yUa v10.Name v10.Value).bind fun v12=>(z8a v12.2).bind fun v14=>(bif v14 then (zxa v12.2.Code s4).bind fun v17=>some (.out (.inr v17)) else some (.cont (w64 (s4+1)))) else some (.out (.inl (()))))
noncomputable def vga(a0:List zha):Option zva:=
 (bif decide (60 < (a0.length:Int)) then (zxa 2 ((-1))).bind fun v2=>some v2 else (iter (q5a a0) 0).bind (Sum.elim (fun b5=>(kCa).bind fun v19=>some v19) (fun b6=>some b6)))
def qPa(v7:(List Str) × zva)(s9:Int × (List UInt8)):Option (Step (Int × (List UInt8)) (List UInt8)):=
 (bif decide (s9.1 < (v7.1.length:Int)) then (idx v7.1 s9.1).bind fun v13=>(app 140737488355328 s9.2 v13).bind fun v15=>(app 140737488355328 v15 (([(13:UInt8),(10:UInt8)]:List UInt8))).bind fun v17=>some (.cont ((w64 (s9.1+1)),v17)) else some (.out s9.2))
noncomputable def qQa(a0:zsa)(s1:Int × (List UInt8)):Option (Step (Int × (List UInt8)) (List UInt8)):=
 (bif decide (s1.1 < (a0.Fields.length:Int)) then (idx a0.Fields s1.1).bind fun v5=>(yUa v5.Name v5.Value).bind fun v7=>(iter (qPa v7) ((0,s1.2))).bind fun b10=>some (.cont ((w64 (s1.1+1)),b10)) else some (.out s1.2))
noncomputable def wpa(a0:zsa):Option (List UInt8):=
 (iter (qQa a0) ((0,([]:List UInt8)))).bind fun b2=>(app 140737488355328 b2 (([(13:UInt8),(10:UInt8)]:List UInt8))).bind fun v19=>(app 140737488355328 v19 a0.Body).bind fun v21=>some v21
def wqa(j7:Int × Int):Option (Step (Int × Int) (Unit ⊕ Int)):=
 some (.cont (j7.1,(w64 (j7.2+1))))
def vxa(a0:List UInt8)(s1:Int × Int):Option (Step (Int × Int) (Unit ⊕ Int)):=
 (bif decide (s1.2 < (a0.length:Int)) then (idx a0 s1.2).bind fun v8=>((bif ((v8.toNat:Int)==13) then (bif decide ((w64 (s1.2+1)) < (a0.length:Int)) then (idx a0 ((w64 (s1.2+1)))).bind fun v13=>some (((v13.toNat:Int)==10)) else some false) else some false):Option Bool).bind fun (j10:Bool)=>(bif j10 then (wqa (0,(w64 (s1.2+1)))) else ((bif ((v8.toNat:Int)==13) then some true else some (((v8.toNat:Int)==10))):Option Bool).bind fun (j16:Bool)=>(bif j16 then some (.out (.inr 11)) else (bif decide (998 < (w64 (s1.1+1))) then some (.out (.inr 1)) else (wqa ((w64 (s1.1+1)),s1.2))))) else some (.out (.inl (()))))
noncomputable def jWa(a0:List UInt8):Option Int:=
 (iter (vxa a0) ((0,0))).bind (Sum.elim (fun b2=>some 0) (fun b3=>some b3))
noncomputable def yaa(a0:List UInt8):Option zva:=
 (jWa a0).bind fun v1=>(bif (v1==11) then (zxa 11 ((-5))).bind fun v4=>some v4 else (bif (v1==1) then (zxa 1 ((-6))).bind fun v7=>some v7 else (kCa).bind fun v9=>some v9))
noncomputable def qRa(a0:zsa):Option zva:=
 (vga a0.Fields).bind fun v1=>(z8a v1).bind fun v3=>(bif v3 then some v1 else (wpa a0).bind fun v6=>(bif decide (12000 < (v6.length:Int)) then (zxa 1 ((-4))).bind fun v9=>some v9 else (yaa a0.Body).bind fun v11=>some v11))
def q1a(a0:UInt8):Option Bool:=
 ((bif ((a0.toNat:Int)==32) then some true else some (((a0.toNat:Int)==9))):Option Bool).bind fun (j1:Bool)=>some j1
def kKa(s5:Str × Int × (List Str))(s9:Int × Int):Option (Step (Int × Int) Int):=
 ((bif decide (0 < s9.2) then some ((s9.1==0)) else some false):Option Bool).bind fun (j12:Bool)=>(bif j12 then (((bif decide (s5.2.1<=s9.2) then (idx s5.1 s9.2).bind fun v18=>(q1a v18).bind fun v20=>(bif v20 then (idx s5.1 ((w64 (s9.2 - 1)))).bind fun v23=>(q1a v23).bind fun v25=>some ((!v25)) else some false) else some false):Option Bool).bind fun (j16:Bool)=>(bif j16 then some s9.2 else some s9.1):Option Int).bind fun (j15:Int)=>some (.cont (j15,(w64 (s9.2 - 1)))) else some (.out s9.1))
def kta(s5:Str × Int × (List Str))(s28:Int × Int):Option (Step (Int × Int) Int):=
 ((bif decide (s28.2 < (s5.1.length:Int)) then some ((s28.1==0)) else some false):Option Bool).bind fun (j31:Bool)=>(bif j31 then (((bif decide (s5.2.1<=s28.2) then (idx s5.1 s28.2).bind fun v37=>(q1a v37).bind fun v39=>(bif v39 then (idx s5.1 ((w64 (s28.2 - 1)))).bind fun v42=>(q1a v42).bind fun v44=>some ((!v44)) else some false) else some false):Option Bool).bind fun (j35:Bool)=>(bif j35 then some s28.2 else some s28.1):Option Int).bind fun (j34:Int)=>some (.cont (j34,(w64 (s28.2+1)))) else some (.out s28.1))
noncomputable def vha(s5:Str × Int × (List Str)):Option (Step (Str × Int × (List Str)) (Str × (List Str))):=
 (bif decide (78 < (s5.1.length:Int)) then (iter (kKa s5) ((0,78))).bind fun b10=>(iter (kta s5) ((b10,79))).bind fun b29=>(bif (b29==0) then some (.out ((s5.1,s5.2.2))) else (cut s5.1 0 b29).bind fun v48=>(app 8796093022208 s5.2.2 (([v48]:List Str))).bind fun v50=>(cut s5.1 b29 ((s5.1.length:Int))).bind fun v52=>some (.cont (v52,1,v50))) else some (.out ((s5.1,s5.2.2))))
noncomputable def wba(a0:Str)(a1:Str):Option (List Str):=
 (cat a0 (([58,32]:Str))).bind fun v1=>(cat v1 a1).bind fun v3=>(iter (vha) ((v3,(w64 ((a0.length:Int)+2)),([]:List Str)))).bind fun b6=>(app 8796093022208 b6.2 (([b6.1]:List Str))).bind fun v54=>some v54
def vLa(a0:zha)(s1:Int):Option (Step Int (Unit ⊕ Int)):=
 (bif decide (s1 < (a0.Name.length:Int)) then ((idx a0.Name s1).bind fun v8=>(R_In ((v8.toNat:Int)) 33 126).bind fun v10=>(bif (!v10) then some true else (idx a0.Name s1).bind fun v13=>some (((v13.toNat:Int)==58))):Option Bool).bind fun (j7:Bool)=>(bif j7 then some (.out (.inr 10)) else some (.cont (w64 (s1+1)))) else some (.out (.inl (()))))
def vMa(a0:zha)(s20:Int):Option (Step Int (Unit ⊕ Int)):=
 (bif decide (s20 < (a0.Value.length:Int)) then ((idx a0.Value s20).bind fun v27=>(bif ((v27.toNat:Int)==0) then some true else (idx a0.Value s20).bind fun v30=>(bif ((v30.toNat:Int)==10) then some true else (idx a0.Value s20).bind fun v33=>some (((v33.toNat:Int)==13)))):Option Bool).bind fun (j26:Bool)=>(bif j26 then some (.out (.inr 11)) else some (.cont (w64 (s20+1)))) else some (.out (.inl (()))))
def vNa(v48:List Str)(s50:Int):Option (Step Int (Unit ⊕ Int)):=
 (bif decide (s50 < (v48.length:Int)) then (idx v48 s50).bind fun v56=>(bif decide (998 < (v56.length:Int)) then some (.out (.inr 1)) else some (.cont (w64 (s50+1)))) else some (.out (.inl (()))))
noncomputable def wMa(a0:zha):Option Int:=
 (iter (vLa a0) 0).bind (Sum.elim (fun b2=>(R_In ((a0.Name.length:Int)) 1 60).bind fun v16=>(bif (!v16) then some 10 else (bif decide (4000 < (a0.Value.length:Int)) then some 1 else (iter (vMa a0) 0).bind (Sum.elim (fun b21=>((bif decide (0 < (a0.Value.length:Int)) then (idx a0.Value 0).bind fun v38=>(q1a v38).bind fun v40=>(bif v40 then some true else (idx a0.Value ((w64 ((a0.Value.length:Int) - 1)))).bind fun v43=>(q1a v43).bind fun v45=>some v45) else some false):Option Bool).bind fun (j36:Bool)=>(bif j36 then some 11 else (wba a0.Name a0.Value).bind fun v48=>(iter (vNa v48) 0).bind (Sum.elim (fun b51=>some 0) (fun b52=>some b52)))) (fun b22=>some b22))))) (fun b3=>some b3))
def qxa(v9:List Str)(s11:Int × (List UInt8)):Option (Step (Int × (List UInt8)) (List UInt8)):=
 (bif decide (s11.1 < (v9.length:Int)) then (idx v9 s11.1).bind fun v15=>(app 140737488355328 s11.2 v15).bind fun v17=>(app 140737488355328 v17 (([(13:UInt8),(10:UInt8)]:List UInt8))).bind fun v19=>some (.cont ((w64 (s11.1+1)),v19)) else some (.out s11.2))
noncomputable def qya(a0:zsa)(s1:Int × (List UInt8)):Option (Step (Int × (List UInt8)) (List UInt8)):=
 (bif decide (s1.1 < (a0.Fields.length:Int)) then (idx a0.Fields s1.1).bind fun v5=>(idx a0.Fields s1.1).bind fun v7=>(wba v5.Name v7.Value).bind fun v9=>(iter (qxa v9) ((0,s1.2))).bind fun b12=>some (.cont ((w64 (s1.1+1)),b12)) else some (.out s1.2))
noncomputable def qha(a0:zsa):Option (List UInt8):=
 (iter (qya a0) ((0,([]:List UInt8)))).bind fun b2=>(app 140737488355328 b2 (([(13:UInt8),(10:UInt8)]:List UInt8))).bind fun v21=>(app 140737488355328 v21 a0.Body).bind fun v23=>some v23
noncomputable def vya(a0:zsa)(s4:Int):Option (Step Int (Unit ⊕ zva)):=
 (bif decide (s4 < (a0.Fields.length:Int)) then (idx a0.Fields s4).bind fun v10=>(wMa v10).bind fun v12=>(bif (v12 !=0) then (R_At v12 s4).bind fun v15=>some (.out (.inr v15)) else some (.cont (w64 (s4+1)))) else some (.out (.inl (()))))
def qza(j30:Int × Int):Option (Step (Int × Int) (Unit ⊕ zva)):=
 some (.cont (j30.1,(w64 (j30.2+1))))
def kZa(a0:zsa)(s24:Int × Int):Option (Step (Int × Int) (Unit ⊕ zva)):=
 (bif decide (s24.2 < (a0.Body.length:Int)) then (idx a0.Body s24.2).bind fun v31=>((bif ((v31.toNat:Int)==13) then (bif decide ((w64 (s24.2+1)) < (a0.Body.length:Int)) then (idx a0.Body ((w64 (s24.2+1)))).bind fun v36=>some (((v36.toNat:Int)==10)) else some false) else some false):Option Bool).bind fun (j33:Bool)=>(bif j33 then (qza (0,(w64 (s24.2+1)))) else ((bif ((v31.toNat:Int)==13) then some true else some (((v31.toNat:Int)==10))):Option Bool).bind fun (j39:Bool)=>(bif j39 then (R_At 11 ((-5))).bind fun v42=>some (.out (.inr v42)) else (bif decide (998 < (w64 (s24.1+1))) then (R_At 1 ((-6))).bind fun v45=>some (.out (.inr v45)) else (qza ((w64 (s24.1+1)),s24.2))))) else some (.out (.inl (()))))
noncomputable def qia(a0:zsa):Option zva:=
 (bif decide (60 < (a0.Fields.length:Int)) then (R_At 2 ((-1))).bind fun v2=>some v2 else (iter (vya a0) 0).bind (Sum.elim (fun b5=>((bif decide (12000 < (a0.Body.length:Int)) then some true else (qha a0).bind fun v19=>some (decide (12000 < (v19.length:Int)))):Option Bool).bind fun (j17:Bool)=>(bif j17 then (R_At 1 ((-4))).bind fun v22=>some v22 else (iter (kZa a0) ((0,0))).bind (Sum.elim (fun b25=>some ((zva.mk 0 0))) (fun b26=>some b26)))) (fun b6=>some b6)))
noncomputable def yVa(a0:zVa):Option zva:=
 (vfa a0.Envelope).bind fun v1=>(((bif (v1.Code==0) then (qia a0.Message).bind fun v6=>some ((v6.Code !=0)) else some false):Option Bool).bind fun (j4:Bool)=>(bif j4 then (qia a0.Message).bind fun v9=>(R_At v9.Code ((-30))).bind fun v11=>some ((v11.Code,v11.Index)) else some ((v1.Code,v1.Index))):Option (Int × Int)).bind fun (j3:Int × Int)=>some ((zva.mk j3.1 j3.2))
noncomputable def wNa(a0:Str):Option Bool:=
 (yUa a0 (([]:Str))).bind fun v1=>(z8a v1.2).bind fun v3=>some ((!v3))
def qja(a0:Str)(s1:Int × (List UInt8)):Option (Step (Int × (List UInt8)) (List UInt8)):=
 (bif decide (s1.1 < (a0.length:Int)) then ((idx s1.2 s1.1).bind fun v6=>(idx s1.2 s1.1).bind fun v8=>((bif decide (65<=(v8.toNat:Int)) then some (decide ((v8.toNat:Int)<=90)) else some false):Option Bool).bind fun (j10:Bool)=>(bif j10 then (idx s1.2 s1.1).bind fun v13=>(idx s1.2 s1.1).bind fun v15=>some ((List.set s1.2 (Int.toNat s1.1) (((v8+(97:UInt8)) - (65:UInt8))))) else some s1.2):Option (List UInt8)).bind fun (j5:List UInt8)=>some (.cont ((w64 (s1.1+1)),j5)) else some (.out s1.2))
noncomputable def v3a(a0:Str):Option Str:=
 (iter (qja a0) ((0,a0))).bind fun b2=>some b2
def vXa(a0:zsa)(a1:zsa)(s4:Int):Option (Step Int (Unit ⊕ Bool)):=
 (bif decide (s4 < (a0.Fields.length:Int)) then (idx a0.Fields s4).bind fun v10=>(idx a1.Fields s4).bind fun v12=>(bif (!(jwa [(v10.Name==v12.Name),(v10.Value==v12.Value)])) then some (.out (.inr false)) else some (.cont (w64 (s4+1)))) else some (.out (.inl (()))))
noncomputable def wra(a0:zsa)(a1:zsa):Option Bool:=
 ((bif ((a0.Fields.length:Int) !=(a1.Fields.length:Int)) then some true else some ((a0.Body !=a1.Body))):Option Bool).bind fun (j1:Bool)=>(bif j1 then some false else (iter (vXa a0 a1) 0).bind (Sum.elim (fun b5=>some true) (fun b6=>some b6)))
def Kwa(a0:Str)(s1:Int × (List UInt8)):Option (Step (Int × (List UInt8)) (List UInt8)):=
 (bif decide (s1.1 < (a0.length:Int)) then (idx a0 s1.1).bind fun v5=>((R_In ((v5.toNat:Int)) 65 90).bind fun v8=>(bif v8 then some ((v5+(32:UInt8))) else some v5):Option UInt8).bind fun (j7:UInt8)=>(app 140737488355328 s1.2 (([j7]:List UInt8))).bind fun v11=>some (.cont ((w64 (s1.1+1)),v11)) else some (.out s1.2))
noncomputable def W6a(a0:Str):Option Str:=
 (iter (Kwa a0) ((0,([]:List UInt8)))).bind fun b2=>some b2
def yBa(a0:zVa)(a1:zVa)(s5:Int):Option (Step Int (Unit ⊕ Bool)):=
 (bif decide (s5 < (a0.Envelope.To.length:Int)) then (idx a0.Envelope.To s5).bind fun v11=>(idx a1.Envelope.To s5).bind fun v13=>(bif (!(jwa [(v11.Address==v13.Address),(v11.Notify==v13.Notify)])) then some (.out (.inr false)) else some (.cont (w64 (s5+1)))) else some (.out (.inl (()))))
noncomputable def jXa(a0:zVa)(a1:zVa):Option Bool:=
 ((bif (a0.Envelope.From !=a1.Envelope.From) then some true else (bif (a0.Envelope.Id !=a1.Envelope.Id) then some true else some (((a0.Envelope.To.length:Int) !=(a1.Envelope.To.length:Int))))):Option Bool).bind fun (j1:Bool)=>(bif j1 then some false else (iter (yBa a0 a1) 0).bind (Sum.elim (fun b6=>(wra a0.Message a1.Message).bind fun v16=>some v16) (fun b7=>some b7)))
def kba(n:Int):Option Str:=if -9223372036854775808<=n/\n<=9223372036854775807 then some (Lib.itoa n) else none
def via(s:Str):Option (Int × Bool):=if s.length<=18 then (match Lib.atoi s with | some n=>some (n,false) | none=>some (0,true)) else none
def Qha(a0:Int):Option Str:=
 (bif decide (a0 < 10) then (cut (([48,49,50,51,52,53,54,55,56,57]:Str)) a0 ((w64 (a0+1)))).bind fun v2=>some v2 else none)
def Qia(a0:Int):Option Str:=
 (bif decide (a0 < 10) then (cut (([48,49,50,51,52,53,54,55,56,57]:Str)) a0 ((w64 (a0+1)))).bind fun v2=>some v2 else (Qha ((iQuo a0 10))).bind fun v4=>(Qha ((iRem a0 10))).bind fun v6=>(cat v4 v6).bind fun v8=>some v8)
def Qja(a0:Int):Option Str:=
 (bif decide (a0 < 10) then (cut (([48,49,50,51,52,53,54,55,56,57]:Str)) a0 ((w64 (a0+1)))).bind fun v2=>some v2 else (Qia ((iQuo a0 10))).bind fun v4=>(Qia ((iRem a0 10))).bind fun v6=>(cat v4 v6).bind fun v8=>some v8)
def Qka(a0:Int):Option Str:=
 (bif decide (a0 < 10) then (cut (([48,49,50,51,52,53,54,55,56,57]:Str)) a0 ((w64 (a0+1)))).bind fun v2=>some v2 else (Qja ((iQuo a0 10))).bind fun v4=>(Qja ((iRem a0 10))).bind fun v6=>(cat v4 v6).bind fun v8=>some v8)
def Qla(a0:Int):Option Str:=
 (bif decide (a0 < 10) then (cut (([48,49,50,51,52,53,54,55,56,57]:Str)) a0 ((w64 (a0+1)))).bind fun v2=>some v2 else (Qka ((iQuo a0 10))).bind fun v4=>(Qka ((iRem a0 10))).bind fun v6=>(cat v4 v6).bind fun v8=>some v8)
def Qma(a0:Int):Option Str:=
 (bif decide (a0 < 10) then (cut (([48,49,50,51,52,53,54,55,56,57]:Str)) a0 ((w64 (a0+1)))).bind fun v2=>some v2 else (Qla ((iQuo a0 10))).bind fun v4=>(Qla ((iRem a0 10))).bind fun v6=>(cat v4 v6).bind fun v8=>some v8)
def Qna(a0:Int):Option Str:=
 (bif decide (a0 < 10) then (cut (([48,49,50,51,52,53,54,55,56,57]:Str)) a0 ((w64 (a0+1)))).bind fun v2=>some v2 else (Qma ((iQuo a0 10))).bind fun v4=>(Qma ((iRem a0 10))).bind fun v6=>(cat v4 v6).bind fun v8=>some v8)
def Qoa(a0:Int):Option Str:=
 (bif decide (a0 < 10) then (cut (([48,49,50,51,52,53,54,55,56,57]:Str)) a0 ((w64 (a0+1)))).bind fun v2=>some v2 else (Qna ((iQuo a0 10))).bind fun v4=>(Qna ((iRem a0 10))).bind fun v6=>(cat v4 v6).bind fun v8=>some v8)
def Qpa(a0:Int):Option Str:=
 (bif decide (a0 < 10) then (cut (([48,49,50,51,52,53,54,55,56,57]:Str)) a0 ((w64 (a0+1)))).bind fun v2=>some v2 else (Qoa ((iQuo a0 10))).bind fun v4=>(Qoa ((iRem a0 10))).bind fun v6=>(cat v4 v6).bind fun v8=>some v8)
def Qqa(a0:Int):Option Str:=
 (bif decide (a0 < 10) then (cut (([48,49,50,51,52,53,54,55,56,57]:Str)) a0 ((w64 (a0+1)))).bind fun v2=>some v2 else (Qpa ((iQuo a0 10))).bind fun v4=>(Qpa ((iRem a0 10))).bind fun v6=>(cat v4 v6).bind fun v8=>some v8)
def Z7a(a0:Int):Option Str:=
 (bif decide (a0 < 10) then (cut (([48,49,50,51,52,53,54,55,56,57]:Str)) a0 ((w64 (a0+1)))).bind fun v2=>some v2 else (Qqa ((iQuo a0 10))).bind fun v4=>(Qqa ((iRem a0 10))).bind fun v6=>(cat v4 v6).bind fun v8=>some v8)
def Z8a(a0:Int):Option Str:=
 (bif decide (a0 < 10) then (cut (([48,49,50,51,52,53,54,55,56,57]:Str)) a0 ((w64 (a0+1)))).bind fun v2=>some v2 else (Z7a ((iQuo a0 10))).bind fun v4=>(Z7a ((iRem a0 10))).bind fun v6=>(cat v4 v6).bind fun v8=>some v8)
def Zla(a0:Int):Option Str:=
 (bif decide (a0 < 10) then (cut (([48,49,50,51,52,53,54,55,56,57]:Str)) a0 ((w64 (a0+1)))).bind fun v2=>some v2 else (Z8a ((iQuo a0 10))).bind fun v4=>(Z8a ((iRem a0 10))).bind fun v6=>(cat v4 v6).bind fun v8=>some v8)
def wOa(a0:Str)(s9:Int × Int):Option (Step (Int × Int) (Int ⊕ Int)):=
 (bif decide (s9.2 < (a0.length:Int)) then (idx a0 s9.2).bind fun v15=>(R_In ((v15.toNat:Int)) 48 57).bind fun v17=>(bif (!v17) then some (.out (.inr ((-1)))) else (idx a0 s9.2).bind fun v20=>some (.cont ((w64 ((w64 (10 * s9.1))+(((v20 - (48:UInt8))).toNat:Int))),(w64 (s9.2+1))))) else some (.out (.inl s9.1)))
noncomputable def WJa(a0:Str):Option Int:=
 ((R_In ((a0.length:Int)) 1 9).bind fun v2=>(bif (!v2) then some true else (bif decide (1 < (a0.length:Int)) then (idx a0 0).bind fun v6=>some (((v6.toNat:Int)==48)) else some false)):Option Bool).bind fun (j1:Bool)=>(bif j1 then some ((-1)) else (iter (wOa a0) ((0,0))).bind (Sum.elim (fun b10=>some b10) (fun b11=>some b11)))
def vja(l:List Str)(s:Str):Option Str:=if l.length<=140737488355328/\(Lib.join l s).length<=140737488355328 then some (Lib.join l s) else none
def sp32(x:Nat):Bool:=decide ((x:Int)=32)
def kLa(s:Str):Option (List Str):=if s.length<=4294967296 then some ((Lib.goFieldsP sp32 (strB s)).map fun b=>b.data.toList) else none
def z3a(s t:Str):Option (Str × Bool):=some (Lib.trimPrefix s t,Lib.hasPrefix s t)
def z4a(s t:Str):Option (Str × Bool):=if s.length<=9223372036854775807 then some (Lib.trimSuffix s t,Lib.hasSuffix s t) else none
def yba(a0:zma):Option zma:=
 ((bif (a0.Verb==1) then some ((a0.Name,([]:Str),0,0,false)) else (bif (a0.Verb==2) then some ((([]:Str),a0.Address,a0.Size,0,false)) else (bif (a0.Verb==3) then some ((([]:Str),a0.Address,0,a0.Notify,false)) else (bif (a0.Verb==5) then some ((([]:Str),([]:Str),a0.Size,0,a0.Last)) else some ((([]:Str),([]:Str),0,0,false)))))):Option (Str × Str × Int × Int × Bool)).bind fun (j1:Str × Str × Int × Int × Bool)=>some ((zma.mk a0.Verb j1.1 j1.2.1 j1.2.2.1 j1.2.2.2.1 j1.2.2.2.2))
noncomputable def qSa(a0:zma):Option zva:=
 ((bif (a0.Verb==3) then some true else (bif (a0.Verb==2) then some ((a0.Address !=([]:Str))) else some false)):Option Bool).bind fun (j1:Bool)=>((bif decide (a0.Verb < 1) then some true else some (decide (8 < a0.Verb))):Option Bool).bind fun (j4:Bool)=>(bif j4 then (zxa 4 ((-2))).bind fun v7=>some v7 else (yba a0).bind fun v9=>(bif (!(jwa [(a0.Verb==v9.Verb),(a0.Name==v9.Name),(a0.Address==v9.Address),(a0.Size==v9.Size),(a0.Notify==v9.Notify),(a0.Last==v9.Last)])) then (zxa 5 ((-3))).bind fun v12=>some v12 else ((bif (a0.Verb==1) then (yLa a0.Name).bind fun v16=>some ((!v16)) else some false):Option Bool).bind fun (j14:Bool)=>(bif j14 then (zxa 10 ((-4))).bind fun v19=>some v19 else ((bif j1 then (kua a0.Address).bind fun v23=>some ((!v23)) else some false):Option Bool).bind fun (j21:Bool)=>(bif j21 then (zxa 10 ((-5))).bind fun v26=>some v26 else ((bif decide (a0.Size < 0) then some true else some (decide (1000000 < a0.Size))):Option Bool).bind fun (j28:Bool)=>(bif j28 then (zxa 3 ((-6))).bind fun v31=>some v31 else (k2a a0.Notify).bind fun v33=>(bif (!v33) then (zxa 3 ((-7))).bind fun v36=>some v36 else (kCa).bind fun v38=>some v38))))))
def yCa:Option (Str × Str × Str × Str × Str × Str × Str × Str):=
 some ((([104,101,108,108,111]:Str),([109,97,105,108]:Str),([114,99,112,116]:Str),([100,97,116,97]:Str),([99,104,117,110,107]:Str),([114,101,115,101,116]:Str),([110,111,111,112]:Str),([113,117,105,116]:Str)))
def q6a:Option (zna × zna × zna):=
 some (((zna.mk 1 (([102,97,105,108,117,114,101]:Str))),(zna.mk 2 (([100,101,108,97,121]:Str))),(zna.mk 4 (([115,117,99,99,101,115,115]:Str)))))
def wPa(a0:Int)(v1:zna × zna × zna)(s3:Int × (List Str)):Option (Step (Int × (List Str)) (List Str)):=
 (bif decide (s3.1 < 3) then ((idx ([v1.1,v1.2.1,v1.2.2]:List zna) s3.1).bind fun v8=>(bif ((iAnd a0 v8.n) !=0) then (app 8796093022208 s3.2 (([v8.word]:List Str))).bind fun v11=>some v11 else some s3.2):Option (List Str)).bind fun (j7:List Str)=>some (.cont ((w64 (s3.1+1)),j7)) else some (.out s3.2))
noncomputable def vOa(a0:Int):Option Str:=
 (q6a).bind fun v1=>(iter (wPa a0 v1) ((0,([]:List Str)))).bind fun b4=>(bif ((b4.length:Int)==0) then some (([110,101,118,101,114]:Str)) else (vja b4 (([44]:Str))).bind fun v14=>some v14)
noncomputable def qAa(a0:Str):Option (Str × Bool):=
 (z3a a0 (([60]:Str))).bind fun v1=>(z4a v1.1 (([62]:Str))).bind fun v3=>((bif v1.2 then some v3.2 else some false):Option Bool).bind fun (j5:Bool)=>some ((v3.1,j5))
noncomputable def kWa(a0:List Str)(a1:Str):Option (Str × Bool):=
 (bif ((a0.length:Int) !=1) then some ((([]:Str),false)) else (idx a0 0).bind fun v2=>(v3a v2).bind fun v4=>(cat a1 (([61]:Str))).bind fun v6=>(z3a v4 v6).bind fun v8=>some ((v8.1,v8.2)))
noncomputable def yca(a0:Str)(a1:Int):Option (Int × Bool):=
 (via a0).bind fun v1=>((bif v1.2 then some true else (kba v1.1).bind fun v5=>(bif (v5 !=a0) then some true else (bif decide (v1.1 < 0) then some true else some (decide (a1 < v1.1))))):Option Bool).bind fun (j3:Bool)=>(bif j3 then some ((0,false)) else some ((v1.1,true)))
noncomputable def qWa(a0:Str):Option (Int × Bool):=
 (bif decide (9 < (a0.length:Int)) then some ((0,false)) else (yca a0 999999999).bind fun v2=>some ((v2.1,v2.2)))
noncomputable def kga(a0:Str)(a1:Bool)(s1:Int):Option (Step Int (Unit ⊕ (Int × Bool))):=
 (bif decide (s1 < 8) then ((bif a1 then (vOa s1).bind fun v9=>some ((v9==a0)) else some false):Option Bool).bind fun (j7:Bool)=>(bif j7 then some (.out (.inr ((s1,true)))) else some (.cont (w64 (s1+1)))) else some (.out (.inl (()))))
noncomputable def yda(a0:Str)(a1:Bool):Option (Int × Bool):=
 (iter (kga a0 a1) 0).bind (Sum.elim (fun b2=>some ((0,false))) (fun b3=>some ((b3.1,b3.2))))
def vPa(a0:Int)(a1:Int)(c0_0:List Str):Option Bool:=
 ((bif decide (a0<=(c0_0.length:Int)) then some (decide ((c0_0.length:Int)<=a1)) else some false):Option Bool).bind fun (j1:Bool)=>some j1
def kha(a0:Int)(j1:Bool × Bool × Str × Str × Int × Int × Bool):Option (zma × Bool):=
 ((bif j1.1 then some j1.2.1 else some false):Option Bool).bind fun (j2:Bool)=>some (((zma.mk a0 j1.2.2.1 j1.2.2.2.1 j1.2.2.2.2.1 j1.2.2.2.2.2.1 j1.2.2.2.2.2.2),j2))
noncomputable def yea(a0:Int)(a1:List Str):Option (zma × Bool):=
 (bif (a0==1) then ((bif decide (1<=(a1.length:Int)) then some (decide ((a1.length:Int)<=1)) else some false):Option Bool).bind fun (j5:Bool)=>(bif (!j5) then some (((zma.mk a0 (([]:Str)) (([]:Str)) 0 0 false),false)) else (idx a1 0).bind fun v8=>(kha a0 (true,true,v8,([]:Str),0,0,false))) else (bif (a0==2) then ((bif decide (1<=(a1.length:Int)) then some (decide ((a1.length:Int)<=2)) else some false):Option Bool).bind fun (j11:Bool)=>(bif (!j11) then some (((zma.mk a0 (([]:Str)) (([]:Str)) 0 0 false),false)) else (idx a1 0).bind fun v14=>(qAa v14).bind fun v16=>(bif ((a1.length:Int)==2) then (cut a1 1 ((a1.length:Int))).bind fun v19=>(kWa v19 (([115,105,122,101]:Str))).bind fun v21=>(qWa v21.1).bind fun v23=>(bif v23.2 then (kha a0 (v16.2,v21.2,([]:Str),v16.1,v23.1,0,false)) else (kha a0 (v16.2,false,([]:Str),v16.1,v23.1,0,false))) else (kha a0 (v16.2,true,([]:Str),v16.1,0,0,false)))) else (bif (a0==3) then ((bif decide (1<=(a1.length:Int)) then some (decide ((a1.length:Int)<=2)) else some false):Option Bool).bind fun (j27:Bool)=>(bif (!j27) then some (((zma.mk a0 (([]:Str)) (([]:Str)) 0 0 false),false)) else (idx a1 0).bind fun v30=>(qAa v30).bind fun v32=>(bif ((a1.length:Int)==2) then (cut a1 1 ((a1.length:Int))).bind fun v35=>(kWa v35 (([110,111,116,105,102,121]:Str))).bind fun v37=>(yda v37.1 v37.2).bind fun v39=>(kha a0 (v32.2,v39.2,([]:Str),v32.1,0,v39.1,false)) else (kha a0 (v32.2,true,([]:Str),v32.1,0,1,false)))) else (bif (a0==5) then ((bif decide (1<=(a1.length:Int)) then some (decide ((a1.length:Int)<=2)) else some false):Option Bool).bind fun (j42:Bool)=>(bif (!j42) then some (((zma.mk a0 (([]:Str)) (([]:Str)) 0 0 false),false)) else (idx a1 0).bind fun v45=>(qWa v45).bind fun v47=>(bif (!(((a1.length:Int)==2))) then (kha a0 (v47.2,true,([]:Str),([]:Str),v47.1,0,((a1.length:Int)==2))) else (idx a1 1).bind fun v50=>(v3a v50).bind fun v52=>(kha a0 (v47.2,(v52==([108,97,115,116]:Str)),([]:Str),([]:Str),v47.1,0,((a1.length:Int)==2))))) else (vPa 0 0 a1).bind fun v54=>some (((zma.mk a0 (([]:Str)) (([]:Str)) 0 0 false),v54))))))
noncomputable def qca(v4:List Str)(v6:Str × Str × Str × Str × Str × Str × Str × Str)(s8:Int × Int):Option (Step (Int × Int) Int):=
 (bif decide (s8.2 < 8) then ((idx ([v6.1,v6.2.1,v6.2.2.1,v6.2.2.2.1,v6.2.2.2.2.1,v6.2.2.2.2.2.1,v6.2.2.2.2.2.2.1,v6.2.2.2.2.2.2.2]:List Str) s8.2).bind fun v13=>((bif decide (0 < (v4.length:Int)) then (idx v4 0).bind fun v17=>(v3a v17).bind fun v19=>some ((v19==v13)) else some false):Option Bool).bind fun (j15:Bool)=>(bif j15 then some ((w64 (s8.2+1))) else some s8.1):Option Int).bind fun (j12:Int)=>some (.cont (j12,(w64 (s8.2+1)))) else some (.out s8.1))
noncomputable def wsa(a0:Str):Option (zma × zva):=
 (bif decide (4000 < (a0.length:Int)) then (zxa 1 ((-1))).bind fun v2=>some (((zma.mk 0 (([]:Str)) (([]:Str)) 0 0 false),v2)) else (kLa a0).bind fun v4=>(yCa).bind fun v6=>(iter (qca v4 v6) ((0,0))).bind fun b9=>(bif (b9==0) then (zxa 18 ((-2))).bind fun v23=>some (((zma.mk 0 (([]:Str)) (([]:Str)) 0 0 false),v23)) else (cut v4 1 ((v4.length:Int))).bind fun v25=>(yea b9 v25).bind fun v27=>(bif (!v27.2) then (zxa 11 ((-3))).bind fun v30=>some (((zma.mk 0 (([]:Str)) (([]:Str)) 0 0 false),v30)) else (qSa v27.1).bind fun v32=>(z8a v32).bind fun v34=>(bif v34 then some (((zma.mk 0 (([]:Str)) (([]:Str)) 0 0 false),v32)) else (kCa).bind fun v37=>some ((v27.1,v37))))))
end Go.Proofs.YtmmjihadplknjaaGreatDoor
