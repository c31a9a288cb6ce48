/- Part 3 of the proof of the law QueueAttemptsMatchSpec: what it needs. -/
import Derived.Test.YtgajlblehdboiaaGreatKQueueAttemptsMatchSpec2
import Derived.Laws.MakeOwn
import Derived.Test.YtgajlblehdboiaaGreatProg
import Derived.Lib.IndexMore
import Derived.Lib.IndexAny
import Derived.Lib.Atoi
import Derived.Lib.Join
import Derived.Lib.Repeat
import Derived.Lib.Split
import Derived.Lib.FieldsP
import Derived.Lib.Strings
import Derived.Shelf.Strings.SlTrimAscii
set_option linter.unusedVariables false
set_option linter.unusedSimpArgs false
set_option maxRecDepth 100000
set_option maxHeartbeats 40000000
namespace Go.Proofs.YtgajlblehdboiaaGreat
open Go.RowKit Go.Proofs.Tryz
section
theorem Sto.get_mem{σ:Sto}{o:Nat}{ob:AO}(h:σ.get o=some ob):(o,ob)∈σ:=by
 induction σ with
 | nil=>simp[Sto.get]at h
 | cons x s ih=>
  obtain ⟨k,a⟩:=x;rw[Sto.get_cons]at h;split at h
  .rename_i hk;cases h;subst hk;exact List.mem_cons_self
  exact List.mem_cons_of_mem _ (ih h)
theorem Sto.get_append(s1 s2:Sto)(o:Nat):Sto.get (s1++s2) o=(Sto.get s1 o).or (Sto.get s2 o):=by
 induction s1 with
 | nil=>simp[Sto.get]
 | cons x s ih=>
  obtain ⟨k,a⟩:=x;rw[List.cons_append,Sto.get_cons,Sto.get_cons,ih];split <;> rfl
theorem kPb{l:List Nat}{a:Nat}(h:l.contains a=true):a∈l:=by simpa using h
def AV.okS(rows:List Nat):AV->Bool
 | .pv _=>true
 | .hs r _=>rows.contains r
 | _=>false
def AO.okS(rows:List Nat):AO->Bool
 | .cells cs=>cs.all (AV.okS rows)
 | .row _ _ _ _=>true
 | .opq _ _ _=>true
 | _=>false
def Sto.okS(O:Nat)(rows:List Nat)(σ:Sto):Bool:=σ.all fun p=>(Nat.beq p.1 O || rows.contains p.1) && p.2.okS rows
theorem AV.okS_has{rows:List Nat}{c:AV}{k:Nat}(h:c.okS rows=true)(hk:c.has k=true):k∈rows:=by
 unfold AV.okS at h;split at h
 .simp[AV.has]at hk
 .have:=Nat.eq_of_beq_eq_true hk;subst this;exact kPb h
 cases h
theorem AV.hasL_mem{k:Nat}{cs:List AV}(h:AV.hasL k cs=true):∃c∈cs,c.has k=true:=by
 induction cs with
 | nil=>simp[AV.hasL]at h
 | cons c cs ih=>
  unfold AV.hasL at h;simp only[Bool.or_eq_true]at h;rcases h with h | h
  .exact ⟨c,List.mem_cons_self,h⟩
  obtain ⟨d,hd,h⟩:=ih h;exact ⟨d,List.mem_cons_of_mem _ hd,h⟩
theorem AO.okS_has{rows:List Nat}{ob:AO}{k:Nat}(h:ob.okS rows=true)(hk:ob.has k=true):k∈rows:=by
 cases ob with
 | cells cs=>
  obtain ⟨c,hc,hck⟩:=AV.hasL_mem hk;exact AV.okS_has (List.all_eq_true.1 h c hc) hck
 | row=>simp[AO.has]at hk
 | opq=>simp[AO.has]at hk
 | _=>cases h
theorem Sto.okS_get{O:Nat}{rows:List Nat}{σ:Sto}(h:σ.okS O rows=true){o:Nat}{ob:AO}(ho:σ.get o=some ob):(o=O∨o∈rows)/\ob.okS rows=true:=by
 have:=List.all_eq_true.1 h _ (Sto.get_mem ho);simp only[Bool.and_eq_true,Bool.or_eq_true]at this;exact ⟨this.1.imp Nat.eq_of_beq_eq_true kPb,this.2⟩
structure Own (g:G) (σ:Sto):Prop where
 obj:∀o ob,σ.get o=some ob->RelO g o ob
 apart:∀o o' ob ob' b,σ.get o=some ob->σ.get o' =some ob' ->ob.own (g.loc o) b->ob'.own (g.loc o') b->o=o'
 low:∀o ob b,σ.get o=some ob->ob.own (g.loc o) b->¬GlB b
def SB(g:G)(σ:Sto)(b:Nat):Prop:=∃o ob,σ.get o=some ob/\ob.own (g.loc o) b
structure RunS (P:Program) (f:FuncId) (args:List AV) (σ0:Sto) (r:AV) (σ1:Sto) (O:Nat) (rows:List Nat):Prop where
 ok:∃fn c,FnOk P f fn c
 ok0:σ0.okS O rows=true
 ok1:σ1.okS O rows=true
 run:∀g vs,Wf g->Gl g->Own g σ0->jwa g args vs->CallsIn (fen none) 0 P f vs g.w fun e w' =>∃g' v,g'.w=w' /\(∀k,k ∉ rows->g'.loc k=g.loc k)/\Old (SB g σ0) g g' /\Wf g' /\e=.returned v/\Rel g' r v/\
  (∀o ob,σ1.get o=some ob->RelO g' o ob)/\(∀o o' ob ob' b,σ1.get o=some ob->σ1.get o' =some ob' ->ob.own (g'.loc o) b->ob'.own (g'.loc o') b->o=o')/\
  (∀o ob b,σ1.get o=some ob->ob.own (g'.loc o) b->g.w.heap.size<=b∨SB g σ0 b)
variable {P:Program} {σ:Sto} {dst:Option Tmp} {ty:TypeId} {pos:String} {af:Array Edge} {gu:Option (Nat × Bool)} {E:Env} {fr:Fr} {K:Post}
def Sto.dels(ids:List Nat):Sto->Sto
 | []=>[]
 | (k,a)::l=>bif ids.contains k then Sto.dels ids l else (k,a)::Sto.dels ids l
theorem Sto.get_dels(ids:List Nat)(σ:Sto)(o:Nat):(σ.dels ids).get o=if o∈ids then none else σ.get o:=by
 induction σ with
 | nil=>simp[Sto.dels,Sto.get]
 | cons x l ih=>
  obtain ⟨k,a⟩:=x;unfold Sto.dels;cases hc:ids.contains k with
  | true=>
   have hk:k∈ids:=by simpa using hc
   rw[cond_true,ih,Sto.get_cons];by_cases ho:o∈ids
   .rw[if_pos ho,if_pos ho]
   rw[if_neg ho,if_neg ho,if_neg (by rintro rfl;exact ho hk)]
  | false=>
   have hk:k ∉ ids:=by simpa using hc
   rw[cond_false,Sto.get_cons,Sto.get_cons,ih];by_cases ho:k=o
   .subst ho;simp[hk]
   rw[if_neg ho,if_neg ho]
def AV.clrs(rows:List Nat)(c:AV):AV:=bif rows.any (fun r=>c.has r) then .any else c
def Fr.clrs(rows:List Nat):Fr->Fr
 | []=>[]
 | (k,a)::l=>(k,a.clrs rows)::Fr.clrs rows l
def AO.clrs(rows:List Nat):AO->AO
 | .cells cs=>.cells (cs.map (AV.clrs rows))
 | .hold c v=>.hold (c.clrs rows) v
 | o=>o
def Sto.clrs(rows:List Nat):Sto->Sto
 | []=>[]
 | (k,a)::l=>(k,a.clrs rows)::Sto.clrs rows l
theorem Fr.get_clrs(rows:List Nat)(fr:Fr)(d:Nat):(fr.clrs rows).get d=(fr.get d).clrs rows:=by
 induction fr with
 | nil=>unfold Fr.clrs Fr.get AV.clrs;cases rows.any (fun r=>AV.has r AV.any) <;> rfl
 | cons x l ih=>
  obtain ⟨k,a⟩:=x;simp only[Fr.clrs,Fr.get_cons,ih];split <;> rfl
theorem Sto.get_clrs(rows:List Nat)(σ:Sto)(o:Nat):(σ.clrs rows).get o=(σ.get o).map (AO.clrs rows):=by
 induction σ with
 | nil=>rfl
 | cons x l ih=>
  obtain ⟨k,a⟩:=x;simp only[Sto.clrs,Sto.get_cons,ih];split <;> rfl
theorem VIa{g g' :G}{rows:List Nat}(hx:Ext g.w g.u g'.w g'.u)(hl:∀k,k ∉ rows->g'.loc k=g.loc k){c:AV}{v:Value}(h:Rel g c v):Rel g' (c.clrs rows) v:=by
 unfold AV.clrs;cases hc:rows.any (fun r=>c.has r) with
 | true=>exact .any _
 | false=>exact h.mono hx fun k hk=>hl k fun hin=>List.any_eq_false.1 hc k hin hk
theorem AO.own_clrs(rows:List Nat)(ob:AO)(l:Loc):(ob.clrs rows).own l=ob.own l:=by cases ob <;> rfl
theorem vOb{g g' :G}{o:Nat}{ob:AO}{rows:List Nat}(hro:RelO g o ob)(hx:Ext g.w g.u g'.w g'.u)(hl:∀k,k ∉ rows->g'.loc k=g.loc k)(ho:o ∉ rows)
 (hb:∀b,ob.own (g.loc o) b->g'.w.heap[b]? =g.w.heap[b]? /\g'.u b=g.u b):RelO g' o (ob.clrs rows):=by
 cases hro with
 | @cells cs b t vs h1 h2 h3 h4 h5 h6=>
  obtain ⟨b1,b2⟩:=hb b (by rw[h1];rfl);refine .cells ((hl o ho).trans h1) (b1.trans h2) (by simpa using h3) (b2.trans h4) h5 fun i c hi=>?_
  simp only[List.getElem?_map,Option.map_eq_some_iff]at hi;obtain ⟨c',hc',rfl⟩:=hi;exact VIa hx hl (h6 i c' hc')
 | nil h1=>exact .nil ((hl o ho).trans h1)
 | @row e mu size elems b off cap vs h1 h2 h3 h3' h4 h5 h6 h7 h9=>
  obtain ⟨b1,b2⟩:=hb b (by rw[h1];rfl);exact .row ((hl o ho).trans h1) (b1.trans h2) h3 h3' h4 h5 (by rw[b2];exact h6) (by rw[b2];exact h7) fun i j x c hi hj=>(h9 i j x c hi hj).mono hx
 | hold h1=>exact .hold (VIa hx hl h1)
 | sus h1=>exact .sus (h1.mono hx)
 | @lp L b h1 h2=>
  obtain ⟨b1,b2⟩:=hb b (by rw[h1];rfl);exact .lp ((hl o ho).trans h1) (b1.trans h2)
 | @it s pos b h1 h2 h3=>
  obtain ⟨b1,b2⟩:=hb b (by rw[h1];rfl);exact .it ((hl o ho).trans h1) (b1.trans h2) (b2.trans h3)
 | @buf l e b cap vs h1 h2 h3 h4 h5 h6=>
  obtain ⟨b1,b2⟩:=hb b (by rw[h1];rfl);exact .buf ((hl o ho).trans h1) (b1.trans h2) h3 h4 (b2.trans h5) h6
 | @mapo ag es b clock ents h1 h2 h3 h4 h5=>
  obtain ⟨b1,b2⟩:=hb b (by rw[h1];rfl);exact .mapo ((hl o ho).trans h1) (b1.trans h2) (b2.trans h3) h4 fun i k c hi=>by
   obtain ⟨x,e1,e2,e3⟩:=h5 i k c hi;exact ⟨x,e1,e2,e3.mono hx⟩
 | @opq t t1 n Q b vs h1 h2 h3 h4 h5=>
  obtain ⟨b1,b2⟩:=hb b (by rw[h1];rfl);exact .opq ((hl o ho).trans h1) (b1.trans h2) h3 (b2.trans h4) fun w' u' hx' =>h5 w' u' (hx.to0.trans hx')
 | nrowNil h1=>exact .nrowNil ((hl o ho).trans h1)
 | nrow h1 h2 h3 h4 h5 h6 h7 h8 h9 h10 h11 h12=>exact (RelO.nrow h1 h2 h3 h4 h5 h6 h7 h8 h9 h10 h11 h12).mono hx (hl o ho) (fun _ hk=>by cases hk) hb
 | mapr h1 h2 h3 h4 h5 h6 h7=>exact (RelO.mapr h1 h2 h3 h4 h5 h6 h7).mono hx (hl o ho) (fun _ hk=>by cases hk) hb
theorem gl_lt{g:G}(h:Gl g){k:Nat}(hk:GlB k):k < g.w.heap.size:=by
 rcases hk with ⟨p,hp,rfl⟩ | hk
 .obtain ⟨t,fz,h1⟩:=h.2.1 p hp;exact kza h1
 obtain ⟨tp,x,t,fz,h1⟩:=h.2.2 k hk;exact kza h1
theorem qCb{f:FuncId}{k:Nat}{xs:List Operand}{ats:Array TypeId}{args:List AV}{r:AV}{σ0 σ1:Sto}{O:Nat}{rows:List Nat}(hr:RunS E.P f args σ0 r σ1 O rows)(hN:Nat.ble (k+1) E.N=true)(ha:xs.map (fun x=>(fr.ev x).weak)=args)(hle:kta σ σ0):
 OpTo E ⟨some k,.call ⟨.value (.func f),xs.toArray,ats⟩,ty,pos,af,gu⟩ fr σ ((k,r)::fr.clrs rows) (σ1++(σ.dels (O::rows)).clrs rows):=
 ⟨fun g a K Q hst hK=>by
  obtain ⟨fn,c,hok⟩:=hr.ok;refine ⟨fun _ _=>trivial,?_⟩;rw[Oper.semAt_plain _ _ _ (fun c=>by simp),yNa hok (first:= #[]) (cap:= #[]) rfl,Oper.uponIn_enter];refine ⟨fun h=>by simp[fen]at h,?_⟩;have hargs:jwa g args (#[]++xs.toArray.map a.eval++ #[]):=by
   subst ha;refine ⟨by simp,fun i c hi=>?_⟩;simp only[List.getElem?_map,Option.map_eq_some_iff]at hi;obtain ⟨x,hx,rfl⟩:=hi;have:=qUa (hst.ev x);simpa[hx]using this
  have hsb:∀b,SB g σ0 b->b < g.w.heap.size/\(E.g0.w.heap.size<=b∨E.S b):=by
   rintro b ⟨o,ob,h1,h2⟩;obtain ⟨ob',h3,h4⟩:=hle.some h1;rw[<-h4]at h2;exact ⟨(hst.so.obj o ob' h3).block_lt h2,hst.so.mine o ob' b h3 h2⟩
  have hown:Own g σ0:=⟨hle.obj hst.so.obj,fun o o' ob ob' b h1 h2 h3 h4=>by
   obtain ⟨_,p1,e1⟩:=hle.some h1;obtain ⟨_,p2,e2⟩:=hle.some h2;rw[<-e1]at h3;rw[<-e2]at h4;exact hst.so.apart o o' _ _ b p1 p2 h3 h4,fun o ob b h1 h2 hb=>by
   rcases (hsb b ⟨o,ob,h1,h2⟩).2 with h3 | h3
   .have:=gl_lt E.gl hb;omega
   exact E.sg b hb h3⟩
  refine (yMa (hr.run g _ hst.so.wf (E.glOf hst.so) hown hargs)).mono ?_;rintro e w' ⟨g',v,rfl,hl,ho,hw,rfl,hv,hobj,hap,hmine⟩;have hget:∀o ob,Sto.get (σ1++(σ.dels (O::rows)).clrs rows) o=some ob->σ1.get o=some ob∨(o ∉ O::rows/\∃ob1,σ.get o=some ob1/\ob=ob1.clrs rows):=by
   intro o ob hg;rw[Sto.get_append]at hg;cases h1:σ1.get o with
   | some ob1=>rw[h1]at hg;exact .inl (by simpa using hg)
   | none=>
    rw[h1,Option.none_or,Sto.get_clrs,Sto.get_dels]at hg;split at hg
    .cases hg
    rename_i hno;cases h2:σ.get o with
    | none=>rw[h2]at hg;cases hg
    | some ob1=>rw[h2]at hg;exact .inr ⟨hno,ob1,rfl,by simpa using hg.symm⟩
  have hout:∀o ob1 b,o ∉ O::rows->σ.get o=some ob1->ob1.own (g.loc o) b->¬SB g σ0 b:=by
   rintro o ob1 b hno ho1 hb ⟨o2,ob2,h2,hb2⟩;obtain ⟨ob3,h3,e3⟩:=hle.some h2;rw[<-e3]at hb2;have:=hst.so.apart o o2 _ _ b ho1 h3 hb hb2;subst this;rcases (Sto.okS_get hr.ok0 h2).1 with rfl | hin
   .exact hno List.mem_cons_self
   exact hno (List.mem_cons_of_mem _ hin)
  have hnr:∀o,o ∉ O::rows->o ∉ rows:=fun o h hin=>h (List.mem_cons_of_mem _ hin)
  have hst' :St E g' a (fr.clrs rows) (σ1++(σ.dels (O::rows)).clrs rows):=by
   refine ⟨fun d=>by rw[Fr.get_clrs];exact VIa ho.ext hl (hst.fr d),hst.n,hst.df.mono ho.ext,⟨?_,?_,?_,?_,hw⟩⟩
   .intro o ob hg;rcases hget o ob hg with h1 | ⟨hno,ob1,ho1,rfl⟩
    .exact hobj o ob h1
    have hro:=hst.so.obj o ob1 ho1;exact vOb hro ho.ext hl (hnr o hno) fun b hb=>ho.block b (hro.block_lt hb) (hout o ob1 b hno ho1 hb)
   .intro o o' ob ob' b h1 h2 h3 h4;rcases hget o ob h1 with h1 | ⟨hno,ob1,ho1,rfl⟩ <;> rcases hget o' ob' h2 with h2 | ⟨hno',ob1',ho1',rfl⟩
    .exact hap o o' ob ob' b h1 h2 h3 h4
    .exfalso;rw[AO.own_clrs,hl o' (hnr o' hno')]at h4;have hlt:=(hst.so.obj o' ob1' ho1').block_lt h4;rcases hmine o ob b h1 h3 with h5 | h5
     .omega
     exact hout o' ob1' b hno' ho1' h4 h5
    .exfalso;rw[AO.own_clrs,hl o (hnr o hno)]at h3;have hlt:=(hst.so.obj o ob1 ho1).block_lt h3;rcases hmine o' ob' b h2 h4 with h5 | h5
     .omega
     exact hout o ob1 b hno ho1 h3 h5
    rw[AO.own_clrs,hl o (hnr o hno)]at h3;rw[AO.own_clrs,hl o' (hnr o' hno')]at h4;exact hst.so.apart o o' ob1 ob1' b ho1 ho1' h3 h4
   .intro o ob b h1 h2;rcases hget o ob h1 with h1 | ⟨hno,ob1,ho1,rfl⟩
    .rcases hmine o ob b h1 h2 with h5 | h5
     .exact .inl (Nat.le_trans hst.so.old.ext.size h5)
     exact (hsb b h5).2
    rw[AO.own_clrs,hl o (hnr o hno)]at h2;exact hst.so.mine o ob1 b ho1 h2
   refine hst.so.old.trans (ho.mono fun b _ hb=>?_);exact (hsb b hb).2.symm
  exact hK g' _ (hst'.put (Nat.le_of_ble_eq_true hN) hv)⟩
section
variable {α:Type} {F:α->List PV} {l:List α} {size:Nat} {e:TypeId}
end
def AV.ren1(r r' :Nat):AV->AV
 | .hs x off=>bif Nat.beq x r then .hs r' off else .hs x off
 | c=>bif c.has r then .any else c
def AV.ren(r r' :Nat):AV->AV
 | .agg l=>.agg (l.map (AV.ren1 r r'))
 | c=>c.ren1 r r'
def Fr.ren(r r' :Nat):Fr->Fr
 | []=>[]
 | (k,c)::l=>(k,c.ren r r')::Fr.ren r r' l
theorem Fr.get_ren(r r' :Nat)(fr:Fr)(d:Nat):(fr.ren r r').get d=(fr.get d).ren r r' :=by
 induction fr with
 | nil=>rfl
 | cons x l ih=>
  obtain ⟨k,c⟩:=x;simp only[Fr.ren,Fr.get_cons,ih];split <;> rfl
def AO.ren(r r' :Nat):AO->AO
 | .cells cs=>.cells (cs.map (AV.ren r r'))
 | .hold c v=>.hold (c.ren r r') v
 | o=>o
def Sto.ren(r r' :Nat):Sto->Sto
 | []=>[]
 | (k,a)::l=>(k,a.ren r r')::Sto.ren r r' l
theorem Sto.get_ren(r r' :Nat)(σ:Sto)(o:Nat):(σ.ren r r').get o=(σ.get o).map (AO.ren r r'):=by
 induction σ with
 | nil=>rfl
 | cons x l ih=>
  obtain ⟨k,a⟩:=x;simp only[Sto.ren,Sto.get_cons,ih];split <;> rfl
theorem AO.own_ren(r r' :Nat)(ob:AO)(l:Loc):(ob.ren r r').own l=ob.own l:=by cases ob <;> rfl
section
variable {g g' :G} {r r' :Nat}
theorem rel_ren0(hw:g'.w=g.w)(hu:g'.u=g.u)(hk:∀k,k≠r' ->g'.loc k=g.loc k){c:AV}{v:Value}(h:Rel g c v)(hn:c.has r' =false):Rel g' (bif c.has r then .any else c) v:=by
 have hx:Ext g.w g.u g'.w g'.u:=by rw[hw,hu];exact Ext.refl _ _
 cases hc:c.has r with
 | true=>exact .any _
 | false=>exact h.mono hx fun k hk' =>hk k (by rintro rfl;rw[hn]at hk';cases hk')
theorem kQb(hw:g'.w=g.w)(hu:g'.u=g.u)(hl:g'.loc r' =g.loc r)(hk:∀k,k≠r' ->g'.loc k=g.loc k){c:AV}{v:Value}(h:Rel g c v)(hn:c.has r' =false):Rel g' (c.ren1 r r') v:=by
 cases c
 case hs x off=>
  have hxr:x≠r' :=by rintro rfl;simp[AV.has]at hn
  cases hb:Nat.beq x r with
  | true=>
   rw[show AV.ren1 r r' (.hs x off)=.hs r' off by show (bif Nat.beq x r then AV.hs r' off else AV.hs x off)=_;rw[hb];rfl];have:x=r:=Nat.eq_of_beq_eq_true hb;subst this;cases h with
   | hsNil a h1=>exact .hsNil a (hl.trans h1)
   | hs h1 h2=>exact .hs (hl.trans h1) h2
  | false=>
   rw[show AV.ren1 r r' (.hs x off)=.hs x off by show (bif Nat.beq x r then AV.hs r' off else AV.hs x off)=_;rw[hb];rfl];cases h with
   | hsNil a h1=>exact .hsNil a ((hk x hxr).trans h1)
   | hs h1 h2=>exact .hs ((hk x hxr).trans h1) h2
 all_goals exact rel_ren0 (r:=r) hw hu hk h hn
theorem z6b(hw:g'.w=g.w)(hu:g'.u=g.u)(hl:g'.loc r' =g.loc r)(hk:∀k,k≠r' ->g'.loc k=g.loc k){c:AV}{v:Value}(h:Rel g c v)(hn:c.has r' =false):Rel g' (c.ren r r') v:=by
 cases c
 case agg cs=>
  cases h with
  | agg hl2 hc2 h=>
   refine .agg (by simp[hl2]) hc2 fun i c hi=>?_
   simp only[List.getElem?_map,Option.map_eq_some_iff]at hi;obtain ⟨c',h1,rfl⟩:=hi;refine kQb hw hu hl hk (h i c' h1) ?_;cases hh:c'.has r' with
   | false=>rfl
   | true=>rw[show (AV.agg cs).has r' =AV.hasL r' cs from rfl,AV.hasL_of h1 hh]at hn;cases hn
 all_goals exact kQb hw hu hl hk h hn
theorem relO_ren(hw:g'.w=g.w)(hu:g'.u=g.u)(hl:g'.loc r' =g.loc r)(hk:∀k,k≠r' ->g'.loc k=g.loc k){o:Nat}{ob:AO}(h:RelO g o ob)(ho:o≠r')(hn:ob.has r' =false):RelO g' o (ob.ren r r'):=by
 have hx:Ext g.w g.u g'.w g'.u:=by rw[hw,hu];exact Ext.refl _ _
 have hh:∀k,ob.has k=true->g'.loc k=g.loc k:=fun k hk' =>hk k (by rintro rfl;rw[hn]at hk';cases hk')
 cases ob
 case cells cs=>
  cases h with
  | @cells _ b t vs h1 h2 h3 h4 h5 h6=>
   refine .cells ((hk o ho).trans h1) (by rw[hw];exact h2) (by simpa using h3) (by rw[hu];exact h4) h5 fun i c hi=>?_
   simp only[List.getElem?_map,Option.map_eq_some_iff]at hi;obtain ⟨c',hc',rfl⟩:=hi;refine z6b hw hu hl hk (h6 i c' hc') ?_;cases hh' :c'.has r' with
   | false=>rfl
   | true=>rw[show (AO.cells cs).has r' =AV.hasL r' cs from rfl,AV.hasL_of hc' hh']at hn;cases hn
 case hold c v=>cases h with
  | hold h1=>exact .hold (z6b hw hu hl hk h1 hn)
 all_goals exact h.mono hx (hk o ho) hh fun b _=>by rw[hw,hu];exact ⟨rfl,rfl⟩
end
theorem St.ren{g:G}{a:Act}{r r' :Nat}{ob:AO}(h:St E g a fr σ)(hr:σ.get r=some ob)(hne:Nat.beq r r' =false)(hf:fr.has r' =false)(hs:σ.has r' =false)(hg:σ.get r' =none)(hob:ob.okS []=true):
 St E ⟨g.w,g.u,fun k=>if k=r' then g.loc r else g.loc k⟩ a (fr.ren r r') ((r',ob)::(σ.del r).ren r r'):=by
 have hne:r≠r' :=by rintro rfl;simp at hne
 have hk:∀k,k≠r' ->(⟨g.w,g.u,fun k=>if k=r' then g.loc r else g.loc k⟩:G).loc k=g.loc k:=fun k hk=>if_neg hk
 have hl:(⟨g.w,g.u,fun k=>if k=r' then g.loc r else g.loc k⟩:G).loc r' =g.loc r:=if_pos rfl;have hhas:∀k,ob.has k=false:=fun k=>by
  cases hh:ob.has k with
  | false=>rfl
  | true=>exact absurd (AO.okS_has hob hh) (by simp)
 have hget:∀o ob1,Sto.get ((r',ob)::(σ.del r).ren r r') o=some ob1->(o=r' /\ob1=ob)∨(o≠r' /\o≠r/\∃ob2,σ.get o=some ob2/\ob1=ob2.ren r r'):=by
  intro o ob1 ho;rw[Sto.get_cons]at ho;split at ho
  .rename_i hk;cases ho;exact .inl ⟨hk.symm,rfl⟩
  rename_i hk;rw[Sto.get_ren,Sto.get_del]at ho;split at ho
  .cases ho
  rename_i hor;cases h2:σ.get o with
  | none=>rw[h2]at ho;cases ho
  | some ob2=>rw[h2]at ho;exact .inr ⟨Ne.symm hk,hor,ob2,rfl,by simpa using ho.symm⟩
 refine ⟨fun d=>?_,h.n,h.df,⟨?_,?_,?_,⟨h.so.old.os,h.so.old.tape,h.so.old.output,h.so.old.ext,h.so.old.block⟩,h.so.wf⟩⟩
 .rw[Fr.get_ren];refine z6b (g:=g) (g' :=⟨g.w,g.u,fun k=>if k=r' then g.loc r else g.loc k⟩) rfl rfl hl hk (h.fr d) ?_;cases hh:(fr.get d).has r' with
  | false=>rfl
  | true=>rw[Fr.has_get hh]at hf;cases hf
 .intro o ob1 ho;rcases hget o ob1 ho with ⟨rfl,rfl⟩ | ⟨h1,h2,ob2,h3,rfl⟩
  .have hro:=h.so.obj r ob1 hr;cases ob1 with
   | cells cs=>
    cases hro with
    | @cells _ b t vs q1 q2 q3 q4 q5 q6=>
     exact .cells (hl.trans q1) q2 q3 q4 q5 fun i c hi=>Rel.mono (g:=g) (g' :=⟨g.w,g.u,fun k=>if k=o then g.loc r else g.loc k⟩) (Ext.refl _ _) (q6 i c hi) fun k hck=>by
      have:=hhas k;rw[show (AO.cells cs).has k=AV.hasL k cs from rfl,AV.hasL_of hi hck]at this;cases this
   | row e mu size elems=>
    cases hro with
    | nil q1=>exact .nil (hl.trans q1)
    | row q1 q2 q3 q4 q5 q6 q7 q8 q9=>exact .row (hl.trans q1) q2 q3 q4 q5 q6 q7 q8 q9
   | opq t n Q=>
    cases hro with
    | opq q1 q2 q3 q4 q5=>exact .opq (hl.trans q1) q2 q3 q4 q5
   | _=>cases hob
  refine relO_ren (g:=g) (g' :=⟨g.w,g.u,fun k=>if k=r' then g.loc r else g.loc k⟩) rfl rfl hl hk (h.so.obj o ob2 h3) h1 ?_;cases hh:ob2.has r' with
  | false=>rfl
  | true=>rw[Sto.has_get h3 hh]at hs;cases hs
 .intro o o' ob1 ob2 b q1 q2 q3 q4;rcases hget o ob1 q1 with ⟨rfl,rfl⟩ | ⟨h1,h2,ob3,h3,rfl⟩ <;> rcases hget o' ob2 q2 with ⟨rfl,rfl⟩ | ⟨h1',h2',ob4,h4,rfl⟩
  .rfl
  .rw[AO.own_ren]at q4;simp only[if_true]at q3;simp only[if_neg h1']at q4;exact absurd (h.so.apart r o' _ _ b hr h4 q3 q4) (Ne.symm h2')
  .rw[AO.own_ren]at q3;simp only[if_neg h1]at q3;simp only[if_true]at q4;exact absurd (h.so.apart o r _ _ b h3 hr q3 q4) h2
  rw[AO.own_ren]at q3 q4;simp only[if_neg h1]at q3;simp only[if_neg h1']at q4;exact h.so.apart o o' _ _ b h3 h4 q3 q4
 intro o ob1 b q1 q2;rcases hget o ob1 q1 with ⟨rfl,rfl⟩ | ⟨h1,h2,ob3,h3,rfl⟩
 .simp only[if_true]at q2;exact h.so.mine r _ b hr q2
 rw[AO.own_ren]at q2;simp only[if_neg h1]at q2;exact h.so.mine o _ b h3 q2
theorem awpl_ren{ops:Array Oper}{ol:List Oper}(r r' :Nat){ob:AO}(hr:σ.get r=some ob)(hne:Nat.beq r r' =false)(hf:fr.has r' =false)(hs:σ.has r' =false)(hg:σ.get r' =none)(hob:ob.okS []=true)
 (h:AWPL E ops ol (fr.ren r r') ((r',ob)::(σ.del r).ren r r') K):AWPL E ops ol fr σ K:=
 ⟨fun g a hst=>h.go ⟨g.w,g.u,fun k=>if k=r' then g.loc r else g.loc k⟩ a (hst.ren hr hne hf hs hg hob)⟩
section
variable {α:Type} {F:α->List PV} {r' :List α} {size bytes sb ss k lim:Nat} {e t:TypeId} {zero sz:Value} {d:TypeDesc} {x:Operand} {n:Int} {z:α}
end
end
section
open Go.RowKit Go.Lib Go.Proofs.Tryz
variable {E:Env} {fr:Fr} {σ:Sto} {K:Post}
def purF:List Oper->List (Option AV)->List Bool->Fr
 | o::l,some c::cs,b::D=>(match o.dst with | some d=>[(d,bif b then c else .any)] | none=>[])++purF l cs D
 | _::l,none::cs,_::D=>purF l cs D
 | _,_,_=>[]
def yUa(l:List Oper)(cs:List (Option AV))(i:Nat):Option Nat:=match cs[i]? with
 | some (some _)=>(l[i]?).bind (·.dst)
 | _=>none
theorem kCa:∀(l:List Oper) (cs:List (Option AV)) (D:List Bool) (d:Nat),(∀i,yUa l cs i≠some d)->(purF l cs D++fr).get d=fr.get d
 | [],_,_,_,_=>rfl
 | _::_,[],_,_,_=>rfl
 | _::_,some _::_,[],_,_=>rfl
 | _::_,none::_,[],_,_=>rfl
 | o::l,none::cs,b::D,d,h=>kCa l cs D d fun i=>h (i+1)
 | o::l,some c::cs,b::D,d,h=>by
  have ih:=kCa l cs D d fun i=>h (i+1)
  have h0:o.dst≠some d:=h 0;unfold purF;cases hd:o.dst with
  | none=>exact ih
  | some d' =>
   show Fr.get ((d',_)::(purF l cs D++fr)) d=_;rw[Fr.get_cons,if_neg (fun e=>h0 (by rw[hd,e]))];exact ih
theorem qwa:∀(l:List Oper) (cs:List (Option AV)) (D:List Bool) (i:Nat) (c:AV) (d:Nat),(∀i j d,yUa l cs i=some d->yUa l cs j=some d->i=j)->l.length<=D.length->yUa l cs i=some d->cs[i]? =some (some c)->(purF l cs D++fr).get d=bif D.getD i false then c else .any
 | [],_,_,i,_,_,_,_,h,hc=>by unfold yUa at h;rw[hc]at h;simp at h
 | _::_,[],_,i,_,_,_,_,h,hc=>by simp at hc
 | _::_,_::_,[],_,_,_,_,hl,_,_=>by simp at hl
 | o::l,none::cs,b::D,0,c,d,_,_,h,hc=>by simp at hc
 | o::l,none::cs,b::D,i+1,c,d,hd,hl,h,hc=>by
  have:=qwa l cs D i c d (fun i j d h1 h2=>by have:=hd (i+1) (j+1) d h1 h2;omega) (by simpa using hl) h (by simpa using hc);simpa[purF]using this
 | o::l,some c0::cs,b::D,0,c,d,hd,hl,h,hc=>by
  simp at hc;subst hc;have h0:o.dst=some d:=h;unfold purF;rw[h0];show Fr.get ((d,_)::(purF l cs D++fr)) d=_;rw[Fr.get_cons,if_pos rfl];rfl
 | o::l,some c0::cs,b::D,i+1,c,d,hd,hl,h,hc=>by
  have ih:=qwa l cs D i c d (fun i j d h1 h2=>by have:=hd (i+1) (j+1) d h1 h2;omega) (by simpa using hl) h (by simpa using hc);unfold purF;cases h0:o.dst with
  | none=>simpa using ih
  | some d' =>
   show Fr.get ((d',_)::(purF l cs D++fr)) d=_;rw[Fr.get_cons,if_neg (fun e=>by
    have:=hd 0 (i+1) d (by show o.dst=some d;rw[h0,e]) h;omega)]
   simpa using ih
theorem Fr.has_append(q:Nat):∀(x y:Fr),Fr.has q (x++y)=(Fr.has q x || Fr.has q y)
 | [],y=>by simp[Fr.has]
 | (k,a)::x,y=>by simp[Fr.has,Fr.has_append q x y,Bool.or_assoc]
theorem Jba(q:Nat):∀(l:List Oper) (cs:List (Option AV)) (D T:List Bool),T=List.replicate D.length true->Fr.has q (purF l cs D)=true->Fr.has q (purF l cs T)=true
 | [],_,_,_,_,h=>by simp[purF,Fr.has]at h
 | _::_,[],_,_,_,h=>by simp[purF,Fr.has]at h
 | _::_,some _::_,[],_,_,h=>by simp[purF,Fr.has]at h
 | _::_,none::_,[],_,_,h=>by simp[purF,Fr.has]at h
 | o::l,none::cs,b::D,T,hT,h=>by
  subst hT;exact Jba q l cs D _ rfl (by simpa[purF]using h)
 | o::l,some c::cs,b::D,T,hT,h=>by
  subst hT;have ih:=Jba q l cs D _ rfl;unfold purF at h ⊢;simp only[List.length_cons,List.replicate_succ]at h ⊢;cases h0:o.dst with
  | none=>rw[h0]at h;simp[Fr.has_append,Fr.has]at h ⊢;exact ih h
  | some d=>
   rw[h0]at h;simp only[Fr.has_append,Fr.has,Bool.or_false,Bool.or_eq_true,cond_true]at h ⊢;rcases h with h | h
   .refine .inl ?_;cases b with
    | true=>exact h
    | false=>simp[AV.has]at h
   exact .inr (ih h)
structure HvS (E:Env) (o:Oper) (FR:Fr) (σ σ' :Sto):Prop where
 go:∀fr,(∀x∈o.op.operands,fr.ev x=FR.ev x)->(∀q,FR.has q=false->fr.has q=false)->OpTo E o fr σ fr σ'
structure HvD (E:Env) (o:Oper) (FR:Fr) (σ:Sto) (k:Nat) (c:AV) (rs:List Nat) (σ' :Sto):Prop where
 go:∀fr,(∀x∈o.op.operands,fr.ev x=FR.ev x)->(∀q,FR.has q=false->fr.has q=false)->OpTo E o fr σ ((k,c)::fr.clrs rs) σ'
structure HvP (E:Env) (o:Oper) (FR:Fr) (σ:Sto) (rs:List Nat) (σ' :Sto):Prop where
 go:∀fr,(∀x∈o.op.operands,fr.ev x=FR.ev x)->(∀q,FR.has q=false->fr.has q=false)->OpTo E o fr σ (fr.clrs rs) σ'
def allT(l:List Oper):List Bool:=List.replicate l.length true
def kRb(cs:List (Option AV))(rs:List Nat):Bool:=cs.all fun c=>match c with | some c=>rs.all fun r=> !c.has r | none=>true
inductive z7b (E:Env) (l:List Oper) (cs:List (Option AV)) (all:List Node) (H:List Bool) (fr:Fr) (σ:Sto) (i:Nat):Prop
 | pure {o:Oper} {c:AV} (ho:l[i]? =some o) (hc:cs[i]? =some (some c)) (h:OpG E o (purF l cs (allT l)++fr) σ c)
 | sto {o:Oper} {σ' σ2:Sto} {fr2:Fr} (j:Nat) (ho:l[i]? =some o) (hc:cs[i]? =some none) (h:HvS E o (purF l cs (allT l)++fr) σ σ') (hn:all[j]? =some (H.set i true,fr2,σ2)) (hf:FrLe fr fr2) (hs:kta σ' σ2)
 | dst {o:Oper} {k:Nat} {c:AV} {rs:List Nat} {σ' σ2:Sto} {fr2:Fr} (j:Nat) (ho:l[i]? =some o) (hc:cs[i]? =some none) (hk:((List.range l.length).all fun i=>yUa l cs i !=some k)=true) (hrs:kRb cs rs=true)
  (h:HvD E o (purF l cs (allT l)++fr) σ k c rs σ') (hn:all[j]? =some (H.set i true,fr2,σ2)) (hf:FrLe ((k,c)::fr.clrs rs) fr2) (hs:kta σ' σ2)
 | put {o:Oper} {rs:List Nat} {σ' σ2:Sto} {fr2:Fr} (j:Nat) (ho:l[i]? =some o) (hc:cs[i]? =some none) (hrs:kRb cs rs=true)
  (h:HvP E o (purF l cs (allT l)++fr) σ rs σ') (hn:all[j]? =some (H.set i true,fr2,σ2)) (hf:FrLe (fr.clrs rs) fr2) (hs:kta σ' σ2)
inductive w8a (E:Env) (l:List Oper) (cs:List (Option AV)) (all:List Node) (H:List Bool) (fr:Fr) (σ:Sto):List Nat->Prop
 | nil:w8a E l cs all H fr σ []
 | cons {i:Nat} {is:List Nat} (h:z7b E l cs all H fr σ i) (r:w8a E l cs all H fr σ is):w8a E l cs all H fr σ (i::is)
def isHv(cs:List (Option AV))(i:Nat):Bool:=match cs[i]? with | some none=>true | _=>false
def mayL(l:List Oper)(cs:List (Option AV))(H:List Bool):List Nat:=(List.range l.length).filter fun i=>
 !(H.getD i false) && (List.range l.length).all fun j=> !(isHv cs j) || ((!(((wLa l l.length).getD i 0).testBit j) || H.getD j false) && (!(H.getD j false) || !(((wLa l l.length).getD j 0).testBit i)))
inductive z8b (E:Env) (l:List Oper) (cs:List (Option AV)) (K:Post) (all:List Node):Node->Prop
 | full {H:List Bool} {fr:Fr} {σ:Sto} (is:List Nat) (hD:mayL l cs H=is) (hs:w8a E l cs all H fr σ is) {frJ:Fr} {σJ:Sto} (hf:FrLe (purF l cs (allT l)++fr) frJ) (hso:kta σ σJ) (h:K .normal frJ σJ):z8b E l cs K all (H,fr,σ)
 | step {H:List Bool} {fr:Fr} {σ:Sto} (is:List Nat) (hD:mayL l cs H=is) (hn:((List.range l.length).all fun i=> !(isHv cs i) || H.getD i false)=false) (hs:w8a E l cs all H fr σ is):z8b E l cs K all (H,fr,σ)
inductive Kwa (E:Env) (l:List Oper) (cs:List (Option AV)) (K:Post) (all:List Node):List Node->Prop
 | nil:Kwa E l cs K all []
 | cons {nd:Node} {r:List Node} (h:z8b E l cs K all nd) (hr:Kwa E l cs K all r):Kwa E l cs K all (nd::r)
theorem w8a.get{l:List Oper}{cs:List (Option AV)}{all:List Node}{H:List Bool}{is:List Nat}(h:w8a E l cs all H fr σ is){i:Nat}(hi:i∈is):z7b E l cs all H fr σ i:=by
 induction h with
 | nil=>cases hi
 | cons h _ ih=>
  rcases List.mem_cons.1 hi with rfl | hi
  .exact h
  exact ih hi
theorem Kwa.get{l:List Oper}{cs:List (Option AV)}{all r:List Node}(h:Kwa E l cs K all r){nd:Node}(hi:nd∈r):z8b E l cs K all nd:=by
 induction h with
 | nil=>cases hi
 | cons h _ ih=>
  rcases List.mem_cons.1 hi with rfl | hi
  .exact h
  exact ih hi
def vPb(N:Nat)(l:List Oper)(cs:List (Option AV)):Bool:=
 vPa .any l.toArray && Nat.beq cs.length l.length && (l.all fun o=>o.guard.isNone) &&
 (l.all fun o=>o.dst.all fun d=>Nat.ble (d+1) N) &&
 ((List.range l.length).all fun i=>isHv cs i || (yUa l cs i).isSome) &&
 ((List.range l.length).all fun i=>(List.range l.length).all fun j=>Nat.beq i j || (yUa l cs i).isNone || yUa l cs i !=yUa l cs j) &&
 (l.all fun o=>(Qba o).all fun t=>(List.range l.length).all fun j=>yUa l cs j !=some t || k9a o j)
theorem ZEa{rs:List Nat}{c:AV}(h:(rs.all fun r=> !c.has r)=true):c.clrs rs=c:=by
 unfold AV.clrs;have:(rs.any fun r=>c.has r)=false:=by
  rw[List.any_eq_false];intro r hr;have:=List.all_eq_true.1 h r hr;simpa using this
 rw[this];rfl
theorem qDb{id:Nat}{l:List Oper}(cs:List (Option AV))(all:List Node){H0:List Bool}{fr0:Fr}{σ0:Sto}(hmix:E.P.follows .mixedOrders=true)(hok:vPb E.N l cs=true)(h0:all[0]? =some (H0,fr0,σ0))(hH0:H0=List.replicate l.length false)
 (hf:FrLe fr fr0) (hs:kta σ σ0) (h:Kwa E l cs K all all):AWP E (.region id l.toArray true) fr σ K:=by
 simp only[vPb,Bool.and_eq_true,List.all_eq_true]at hok;obtain ⟨⟨⟨⟨⟨⟨hlb,hlen⟩,hgd⟩,hN⟩,hall⟩,hdist⟩,hdat⟩:=hok;have hlen:=Nat.eq_of_beq_eq_true hlen;have hdl:∀i d,yUa l cs i=some d->i < l.length:=by
  intro i d hd;rcases Nat.lt_or_ge i l.length with h1 | h1
  .exact h1
  unfold yUa at hd;rw[List.getElem?_eq_none (by omega)]at hd;cases hd
 have hdist' :∀i j d,yUa l cs i=some d->yUa l cs j=some d->i=j:=by
  intro i j d h1 h2;have:=hdist i (by simpa using hdl i d h1) j (by simpa using hdl j d h2);simp only[Bool.or_eq_true,bne_iff_ne,ne_eq]at this;rcases this with (h3 | h3) | h3
  .exact Nat.eq_of_beq_eq_true h3
  .rw[h1]at h3;cases h3
  exact absurd (h1.trans h2.symm) h3
 have hdirD:∀{D:Nat->Bool} {o:Oper} {j:Nat},(∀e∈o.after,Region.binds .any e=true->D e.on=true)->k9a o j=true->D j=true:=by
  intro D o j he hd;simp only[k9a,List.any_eq_true,Bool.and_eq_true]at hd;obtain ⟨e,h1,h2,h3⟩:=hd;rw[<-Nat.eq_of_beq_eq_true h3];exact he e (by simpa using h1) h2
 let bits:(Nat->Bool)->List Bool:=fun D=>(List.range l.length).map D
 have hbl:∀D,(bits D).length=l.length:=fun D=>by simp[bits]
 have hbg:∀D i,i < l.length->(bits D).getD i false=D i:=fun D i hi=>by simp[bits,List.getD_eq_getElem?_getD,hi]
 have hTl:(allT l).length=l.length:=by simp[allT]
 have hTg:∀i,i < l.length->(allT l).getD i false=true:=fun i hi=>by simp[allT,List.getD_eq_getElem?_getD,hi]
 have hslot:∀d,(∃i c,yUa l cs i=some d/\cs[i]? =some (some c)/\i < l.length)∨(∀i,yUa l cs i≠some d):=by
  intro d;by_cases hex:∃i,yUa l cs i=some d
  .obtain ⟨i,hi⟩:=hex;refine .inl ⟨i,?_⟩;have hil:=hdl i d hi;cases hc:cs[i]? with
   | none=>unfold yUa at hi;rw[hc]at hi;cases hi
   | some x=>
    cases x with
    | none=>unfold yUa at hi;rw[hc]at hi;cases hi
    | some c=>exact ⟨c,hi,rfl,hil⟩
  exact .inr fun i hi=>hex ⟨i,hi⟩
 have hev:∀(D:Nat->Bool) (o:Oper) (frA:Fr),o∈l->(∀e∈o.after,Region.binds .any e=true->D e.on=true)->∀x∈o.op.operands,(purF l cs (bits D)++frA).ev x=(purF l cs (allT l)++frA).ev x:=by
  intro D o frA hm he x hx;cases x with
  | const v=>rfl
  | global q=>rfl
  | func f=>rfl
  | tmp t=>
   show (purF l cs (bits D)++frA).get t=(purF l cs (allT l)++frA).get t;rcases hslot t with ⟨i,c,h1,h2,h3⟩ | h1
   .rw[qwa l cs (bits D) i c t hdist' (by rw[hbl];omega) h1 h2,qwa l cs (allT l) i c t hdist' (by rw[hTl];omega) h1 h2,hbg D i h3,hTg i h3];have:=hdat o hm t (by simp only[Qba,List.mem_filterMap];exact ⟨.tmp t,by simpa using hx,rfl⟩) i (by simpa using h3);simp only[Bool.or_eq_true,bne_iff_ne,ne_eq]at this;rcases this with h4 | h4
    .exact absurd h1 h4
    rw[hdirD he h4]
   rw[kCa l cs _ t h1,kCa l cs _ t h1]
 have hhas:∀(D:Nat->Bool) (frA:Fr) q,(purF l cs (allT l)++frA).has q=false->(purF l cs (bits D)++frA).has q=false:=by
  intro D frA q hq;rw[Fr.has_append,Bool.or_eq_false_iff]at hq ⊢;refine ⟨?_,hq.2⟩;cases hb:Fr.has q (purF l cs (bits D)) with
  | false=>rfl
  | true=>
   have:=Jba q l cs (bits D) (allT l) (by rw[hbl];rfl) hb;rw[this]at hq;cases hq.1
 let J:(Nat->Bool)->Act->World->Prop:=fun D a w=>(∀i o,l[i]? =some o->D i=true->∀e∈o.after,Region.binds .any e=true->D e.on=true)/\
  ∃nd∈all,nd.1.length=l.length/\(∀i,i < l.length->isHv cs i=true->D i=nd.1.getD i false)/\(∀i,i < l.length->isHv cs i=false->nd.1.getD i false=false)/\∃g,g.w=w/\St E g a (purF l cs (bits D)++nd.2.1) nd.2.2
 refine ⟨fun g a hst=>qHa hmix hlb J ?_ ?_ ?_⟩
 .refine ⟨fun i o _ hd=>by simp at hd,_,List.mem_of_getElem? h0,by subst hH0;simp,fun i hi _=>by subst hH0;simp[List.getD_eq_getElem?_getD,hi],fun i hi _=>by subst hH0;simp[List.getD_eq_getElem?_getD,hi],⟨g.w.drew,g.u,g.loc⟩,rfl,(hst.le (fun d=>?_) hs).drew⟩;rcases hslot d with ⟨i,c,h1,h2,h3⟩ | h1
  .rw[qwa l cs _ i c d hdist' (by rw[hbl];omega) h1 h2,hbg _ i h3];exact .inl rfl
  rw[kCa l cs _ d h1];exact hf d
 .rintro D a w ⟨_,⟨H,frA,σA⟩,hm,hl,hD,_,g,rfl,hst'⟩ hfin;have hfin' :∀i,i < l.length->D i=true:=fun i hi=>hfin i (by simpa using hi)
  cases h.get hm with
  | full is _ _ hfJ hsJ hk=>
   refine ⟨g,_,_,rfl,St.le ?_ hfJ hsJ,hk⟩;have:bits D=allT l:=by
    apply List.ext_getElem (by rw[hbl,hTl]);intro i h1 h2;have hi:i < l.length:=by rw[hbl]at h1;exact h1
    simp[bits,allT,hfin' i hi]
   rw[<-this];exact hst'
  | step is _ hn _=>
   exfalso;have:((List.range l.length).all fun i=> !(isHv cs i) || H.getD i false)=true:=by
    rw[List.all_eq_true];intro i hi;have hi:i < l.length:=by simpa using hi
    cases hh:isHv cs i with
    | false=>rfl
    | true=>rw[<-hD i hi hh,hfin' i hi];rfl
   rw[this]at hn;cases hn
 rintro D a w i o ⟨hcl,⟨H,frA,σA⟩,hm,hl,hD,hD0,g,rfl,hst'⟩ ho hDi he;have ho' :l[i]? =some o:=by simpa using ho
 have hil:i < l.length:=(List.getElem?_eq_some_iff.1 ho').1;have hom:o∈l:=List.mem_of_getElem? ho';have hgo:o.guard=none:=by simpa using hgd o hom
 have hcl' :∀i' o',l[i']? =some o' ->upd D i i' =true->∀e∈o'.after,Region.binds .any e=true->upd D i e.on=true:=by
  intro i' o' h1 h2 e h3 h4;unfold upd at h2 ⊢;split
  .rfl
  split at h2
  .rename_i hii;subst hii;rw[ho']at h1;cases h1;exact he e h3 h4
  exact hcl i' o' h1 h2 e h3 h4
 have hmay:i∈mayL l cs H:=by
  simp only[mayL,List.mem_filter,List.mem_range,Bool.and_eq_true,Bool.not_eq_true',List.all_eq_true,Bool.or_eq_true];refine ⟨hil,?_,fun j hj=>?_⟩
  .cases hh:isHv cs i with
   | true=>rw[<-hD i hil hh];exact hDi
   | false=>exact hD0 i hil hh
  cases hh:isHv cs j with
  | false=>exact .inl rfl
  | true=>
   refine .inr ⟨?_,?_⟩
   .cases hb:((wLa l l.length).getD i 0).testBit j with
    | false=>exact .inl rfl
    | true=>exact .inr (by rw[<-hD j hj hh];exact wOa hcl l.length i o ho' he j hb)
   cases hHj:H.getD j false with
   | false=>exact .inl rfl
   | true=>
    refine .inr ?_;cases hb:((wLa l l.length).getD j 0).testBit i with
    | false=>rfl
    | true=>
     have:=Zxa hcl l.length j i hb (by rw[hD j hj hh];exact hHj);rw[hDi]at this;cases this
 have hstep:z7b E l cs all H frA σA i:=by
  cases h.get hm with
  | full is hD2 hs _ _ _=>exact (hD2▸hs:w8a E l cs all H frA σA (mayL l cs H)).get hmay
  | step is hD2 _ hs=>exact (hD2▸hs:w8a E l cs all H frA σA (mayL l cs H)).get hmay
 have hw:Region.wanted o (yielded l.toArray a.tmps)=true:=by simp[Region.wanted,hgo]
 have hheavy:∀(_:cs[i]? =some none),(∀k,k < l.length->isHv cs k=true->upd D i k=(H.set i true).getD k false)/\(∀k,k < l.length->isHv cs k=false->(H.set i true).getD k false=false)/\∀frX d,(purF l cs (bits (upd D i))++frX).get d=(purF l cs (bits D)++frX).get d:=by
  intro hc;have hhv:isHv cs i=true:=by unfold isHv;rw[hc]
  refine ⟨fun k hk hh=>?_,fun k hk hh=>?_,fun frX d=>?_⟩
  .unfold upd;simp only[List.getD_eq_getElem?_getD,List.getElem?_set];by_cases hki:k=i
   .subst hki;simp[hl,hk]
   rw[if_neg hki,if_neg (Ne.symm hki),<-List.getD_eq_getElem?_getD];exact hD k hk hh
  .have hki:k≠i:=by rintro rfl;rw[hhv]at hh;cases hh
   simp only[List.getD_eq_getElem?_getD,List.getElem?_set];rw[if_neg (Ne.symm hki),<-List.getD_eq_getElem?_getD];exact hD0 k hk hh
  rcases hslot d with ⟨j,c,h1,h2,h3⟩ | h1
  .rw[qwa l cs _ j c d hdist' (by rw[hbl];omega) h1 h2,qwa l cs _ j c d hdist' (by rw[hbl];omega) h1 h2,hbg _ j h3,hbg _ j h3];have hji:j≠i:=by rintro rfl;rw[hc]at h2;cases h2
   unfold upd;rw[if_neg hji]
  rw[kCa l cs _ d h1,kCa l cs _ d h1]
 unfold wpOpIn;rw[ho];simp only[hw,if_true];cases hstep with
 | @pure o2 c ho2 hc hop=>
  rw[ho']at ho2;cases ho2;have hhv:isHv cs i=false:=by unfold isHv;rw[hc]
  have hops:∀x∈o.op.operands,Rel g ((purF l cs (allT l)++frA).ev x) (a.eval x):=fun x hx=>by
   rw[<-hev D o frA hom he x hx];exact hst'.ev x
  obtain ⟨d,hd⟩:∃d,yUa l cs i=some d:=by
   have:=hall i (by simpa using hil);rw[hhv]at this;simpa[Option.isSome_iff_exists]using this
  have hod:o.dst=some d:=by
   unfold yUa at hd;rw[hc,ho']at hd;simpa using hd
  refine hop.go g a _ _ hops hst'.so fun g' v h1 h2 h3 h4=>⟨hcl',(H,frA,σA),hm,hl,fun k hk hh=>?_,hD0,g',rfl,?_⟩
  .have hki:k≠i:=by rintro rfl;rw[hhv]at hh;cases hh
   unfold upd;rw[if_neg hki];exact hD k hk hh
  have hdN:d < E.N:=by
   have:=hN o hom;rw[hod]at this;exact Nat.le_of_ble_eq_true (by simpa using this)
  have hsz:=hst'.n;refine ⟨fun d' =>?_,by rw[hod];simp[Act.put,hsz],by rw[hod];exact hst'.df.mono h1.ext,hst'.so.grow h1 h2 (fun k _=>by rw[h3])⟩;have hget:(a.put o.dst v).tmps.getD d' undef=if d=d' then v else a.tmps.getD d' undef:=by
   rw[hod];simp only[Act.put];rw[qka];by_cases h5:d=d'
   .rw[if_pos ⟨h5,by omega⟩,if_pos h5]
   rw[if_neg (fun x=>h5 x.1),if_neg h5]
  rw[hget];by_cases h5:d=d'
  .subst h5;rw[if_pos rfl,qwa l cs _ i c d hdist' (by rw[hbl];omega) hd hc,hbg _ i hil];have:upd D i i=true:=by unfold upd;rw[if_pos rfl]
   rw[this];exact h4
  rw[if_neg h5];have hsame:(purF l cs (bits (upd D i))++frA).get d' =(purF l cs (bits D)++frA).get d' :=by
   rcases hslot d' with ⟨j,c',q1,q2,q3⟩ | q1
   .rw[qwa l cs _ j c' d' hdist' (by rw[hbl];omega) q1 q2,qwa l cs _ j c' d' hdist' (by rw[hbl];omega) q1 q2,hbg _ j q3,hbg _ j q3];have hji:j≠i:=by rintro rfl;rw[hd]at q1;cases q1;exact h5 rfl
    unfold upd;rw[if_neg hji]
   rw[kCa l cs _ d' q1,kCa l cs _ d' q1]
  rw[hsame];exact (hst'.fr d').mono h1.ext (fun k _=>by rw[h3])
 | @sto o2 σ' σ2 fr2 j ho2 hc hop hn hf2 hs2=>
  rw[ho']at ho2;cases ho2;obtain ⟨q1,q2,q3⟩:=hheavy hc;refine (hop.go _ (hev D o frA hom he) (hhas D frA)).go g a _ _ hst' fun g' a' hst2=>⟨hcl',_,List.mem_of_getElem? hn,by simp[hl],q1,q2,g',rfl,hst2.le (fun d=>?_) hs2⟩
  rw[q3];rcases hslot d with ⟨k,c,h1,h2,h3⟩ | h1
  .rw[qwa l cs _ k c d hdist' (by rw[hbl];omega) h1 h2,qwa l cs _ k c d hdist' (by rw[hbl];omega) h1 h2];exact .inr (.inl rfl)
  rw[kCa l cs _ d h1,kCa l cs _ d h1];exact hf2 d
 | @dst o2 k c rs σ' σ2 fr2 j ho2 hc hk hrs hop hn hf2 hs2=>
  rw[ho']at ho2;cases ho2;obtain ⟨q1,q2,q3⟩:=hheavy hc;refine (hop.go _ (hev D o frA hom he) (hhas D frA)).go g a _ _ hst' fun g' a' hst2=>⟨hcl',_,List.mem_of_getElem? hn,by simp[hl],q1,q2,g',rfl,hst2.le (fun d=>?_) hs2⟩
  rw[q3];rcases hslot d with ⟨m,c',h1,h2,h3⟩ | h1
  .have hkd:k≠d:=by
    rintro rfl;have:=List.all_eq_true.1 hk m (by simpa using h3);simp[h1]at this
   rw[Fr.get_cons,if_neg hkd,Fr.get_clrs,qwa l cs _ m c' d hdist' (by rw[hbl];omega) h1 h2,qwa l cs _ m c' d hdist' (by rw[hbl];omega) h1 h2];refine .inr (.inl ?_);cases (bits D).getD m false with
   | false=>exact ZEa (by rw[List.all_eq_true];intro r _;rfl)
   | true=>
    refine ZEa ?_;have:=List.all_eq_true.1 hrs _ (List.mem_of_getElem? h2);exact this
  have:=hf2 d;rw[Fr.get_cons,Fr.get_clrs]at this ⊢;rw[kCa l cs _ d h1,kCa l cs _ d h1];exact this
 | @put o2 rs σ' σ2 fr2 j ho2 hc hrs hop hn hf2 hs2=>
  rw[ho']at ho2;cases ho2;obtain ⟨q1,q2,q3⟩:=hheavy hc;refine (hop.go _ (hev D o frA hom he) (hhas D frA)).go g a _ _ hst' fun g' a' hst2=>⟨hcl',_,List.mem_of_getElem? hn,by simp[hl],q1,q2,g',rfl,hst2.le (fun d=>?_) hs2⟩
  rw[q3];rcases hslot d with ⟨m,c',h1,h2,h3⟩ | h1
  .rw[Fr.get_clrs,qwa l cs _ m c' d hdist' (by rw[hbl];omega) h1 h2,qwa l cs _ m c' d hdist' (by rw[hbl];omega) h1 h2];refine .inr (.inl ?_);cases (bits D).getD m false with
   | false=>exact ZEa (by rw[List.all_eq_true];intro r _;rfl)
   | true=>
    refine ZEa ?_;have:=List.all_eq_true.1 hrs _ (List.mem_of_getElem? h2);exact this
  have:=hf2 d;rw[Fr.get_clrs]at this ⊢;rw[kCa l cs _ d h1,kCa l cs _ d h1];exact this
section
variable {FR:Fr} {ty:TypeId} {pos:String} {af:Array Edge} {gu:Option (Nat × Bool)} {T:Tab} {P:Program} {id k r size bytes:Nat} {e t:TypeId} {zero:Value} {d:TypeDesc}
theorem vQb{o:Oper}{fr' fr2:Fr}{σ' σ2:Sto}(h:OpTo E o fr σ fr' σ')(hf:FrLe fr' fr2)(hs:kta σ' σ2):OpTo E o fr σ fr2 σ2:=
 ⟨fun g a K Q hst hK=>h.go g a K Q hst fun g' a' h' =>hK g' a' (h'.le hf hs)⟩
theorem wba:kta σ σ:=fun _ _ h=>.inl h
theorem qEb{c:AV}:FrLe ((k,c)::fr) ((k,c)::fr.clrs []):=fun d=>by
 rw[Fr.get_cons,Fr.get_cons,Fr.get_clrs,ZEa rfl];exact .inr (.inl rfl)
theorem VJa{f:FuncId}{xs:List Operand}{ats:Array TypeId}{args:List AV}{els:List (List PV)}(r:Nat)(hr:RunO E.P f args e size els)(hN:Nat.ble (k+1) E.N=true)(hf:FR.has r=false)(hs:σ.has r=false)(ha:xs.map (fun x=>(FR.ev x).weak)=args):
 HvD E ⟨some k,.call ⟨.value (.func f),xs.toArray,ats⟩,ty,pos,af,gu⟩ FR σ k (.hs r 0) [] ((r,.row e true size els)::σ):=
 ⟨fun fr he hh=>vQb (jGa r hr hN (hh r hf) hs (by
  rw[<-ha];refine List.map_congr_left fun x hx=>?_
  rw[he x (by simp[Op.operands,Call.operands,hx])])) qEb wba⟩
end
end
section
def wu64(n:Int):Int:=n % 18446744073709551616
theorem wrap_u64(n:Int):IntKind.u64.wrap n=wu64 n:=by simp[IntKind.wrap,IntKind.bits,IntKind.signed,wu64]
def iShl(a n:Int):Int:=w64 (a * 2 ^ min n.toNat 64)
def iShr(a n:Int):Int:=a / 2 ^ min n.toNat 64
def nng(b:Int):Option Bool:=if 0<=b then some true else none
theorem nng_spec{b:Int}{r:Bool}(h:nng b=some r):0<=b:=by
 unfold nng at h;split at h
 .assumption
 cases h
section
variable {P:Program} {ρ:Operand->AV} {σ:Sto} {dst:Option Tmp} {ty:TypeId} {pos:String} {af:Array Edge} {gu:Option (Nat × Bool)} {x y:Operand} {t t' :TypeId} {ss sb ss' sb' :Nat} {sz sz' :Value} {a b n:Int}
theorem vRb(hx:ρ x=.i n)(ha:TyOk P t ss sb sz (.int .i64))(hb:TyOk P t' ss' sb' sz' (.int .u64)):EvQ P ⟨dst,.convert t t' x,ty,pos,af,gu⟩ ρ σ (.pv (.b (.int .u64 (wu64 n)))):=
 ⟨fun c=>by simp,fun g ρv h _=>by
  have h1:=h x (by simp[Op.operands]);rw[hx]at h1;have e1:=kda h1;refine ⟨.int .u64 (wu64 n),?_,.pv (.b rfl)⟩;simp[execOp,convert,e1,go_sem,underlying,ha.u,hb.u,Conv.intToInt,wrap_u64]⟩
theorem vSb{op:BinOp}{r:Int}{yk:IntKind}(hx:ρ x=.i a)(hy:ρ y=.pv (.b (.int yk b)))(hb:0<=b)(hr:(op=.shl/\r=iShl a b)∨(op=.shr/\r=iShr a b)):EvQ P ⟨dst,.binOp op t x y t',ty,pos,af,gu⟩ ρ σ (.i r):=
 ⟨fun c=>by simp,fun g ρv h _=>by
  obtain ⟨h1,h2⟩:=ops2 (o:=⟨dst,.binOp op t x y t',ty,pos,af,gu⟩) (x:=x) (y:=y) rfl h;rw[hx]at h1;rw[hy]at h2;have e1:=kda h1;have e2:=kda h2;refine ⟨.int .i64 r,?_,.pv (.b rfl)⟩;have hnl:¬b < 0:=by omega
  have hp:(0:Int)<=2 ^ min b.toNat 64:=Int.le_of_lt (Int.pow_pos (by decide));rcases hr with ⟨rfl,rfl⟩ | ⟨rfl,rfl⟩
  .show Sem.run P (do let v <-(do eqGuard .shl t x y (ρv x) (ρv y);binOp .shl t (ρv x) (ρv y));pure (Next.value v)) g.w=_;rw[e1,e2];simp only[eqGuard,binOp,Op.shift,if_neg hnl,IntKind.bits];rfl
  show Sem.run P (do let v <-(do eqGuard .shr t x y (ρv x) (ρv y);binOp .shr t (ρv x) (ρv y));pure (Next.value v)) g.w=_;rw[e1,e2];simp only[eqGuard,binOp,Op.shift,if_neg hnl,IntKind.bits,Int.fdiv_eq_ediv_of_nonneg _ hp];rfl⟩
theorem ev_ishl{yk:IntKind}(hx:ρ x=.i a)(hy:ρ y=.pv (.b (.int yk b)))(hb:0<=b):EvQ P ⟨dst,.binOp .shl t x y t',ty,pos,af,gu⟩ ρ σ (.i (iShl a b)):=vSb hx hy hb (.inl ⟨rfl,rfl⟩)
end
end
structure zpa where
 Code:Int
 Index:Int
def zpa.pc(x:zpa):List PV:=[pI x.Code,pI x.Index]
structure jja where
 Address:Str
 To:List Str
def jja.pc(x:jja):List PV:=[pS x.Address,pL cS x.To]
structure zca where
 Address:Str
 Notify:Int
def zca.pc(x:zca):List PV:=[pS x.Address,pI x.Notify]
structure zCa where
 From:Str
 To:List zca
 Id:Str
def zCa.pc(x:zCa):List PV:=[pS x.From,pL zca.pc x.To,pS x.Id]
structure zha where
 Name:Str
 Value:Str
def zha.pc(x:zha):List PV:=[pS x.Name,pS x.Value]
structure zua where
 Fields:List zha
 Body:List UInt8
def zua.pc(x:zua):List PV:=[pL zha.pc x.Fields,pL cU x.Body]
structure ksa where
 Envelope:zCa
 Message:zua
def ksa.pc(x:ksa):List PV:=[pS x.Envelope.From,pL zca.pc x.Envelope.To,pS x.Envelope.Id,pL zha.pc x.Message.Fields,pL cU x.Message.Body]
structure zda where
 Recipient:zca
 Result:Int
 Busy:Bool
def zda.pc(x:zda):List PV:=[pS x.Recipient.Address,pI x.Recipient.Notify,pI x.Result,pB x.Busy]
structure zba where
 Id:Int
 Mail:ksa
 Since:Int
 Tries:Int
 Due:Int
 To:List zda
def zba.pc(x:zba):List PV:=[pI x.Id,pS x.Mail.Envelope.From,pL zca.pc x.Mail.Envelope.To,pS x.Mail.Envelope.Id,pL zha.pc x.Mail.Message.Fields,pL cU x.Mail.Message.Body,pI x.Since,pI x.Tries,pI x.Due,pL zda.pc x.To]
structure zna where
 Entries:List zba
 Next:Int
def zna.pc(x:zna):List PV:=[pL zba.pc x.Entries,pI x.Next]
structure zka where
 Entry:Int
 Domain:Str
 To:List Int
def zka.pc(x:zka):List PV:=[pI x.Entry,pS x.Domain,pL cI x.To]
structure zja where
 Entry:Int
 Number:Int
 Result:Int
def zja.pc(x:zja):List PV:=[pI x.Entry,pI x.Number,pI x.Result]
section
open Go.RowKit Go.Lib Go.Proofs.Tryz
variable {E:Env} {fr:Fr} {σ:Sto} {K:Post} {T:Tab} {l:List Oper} {cs:List (Option AV)} {all:List Node} {H:List Bool}
theorem w8a.of:∀{is:List Nat},(∀i∈is,z7b E l cs all H fr σ i)->w8a E l cs all H fr σ is
 | [],_=>.nil
 | i::is,h=>.cons (h i (by simp)) (w8a.of fun j hj=>h j (by simp[hj]))
def pureQ(T:Tab)(l:List Oper)(cs:List (Option AV))(fr:Fr)(σ:Sto)(i:Nat):Option AV:=(l[i]?).bind fun o=>qval T (purF l cs (allT l)++fr).ev σ o.op
def JXa(cs:List (Option AV))(i:Nat):Option AV:=(cs[i]?).bind id
def V6a(l:List Oper)(cs:List (Option AV))(H:List Bool)(is:List Nat):List Nat:=(mayL l cs H).filter fun i=> !is.contains i
theorem ms_all(hT:kNa E.P T)(is:List Nat)(h1:((V6a l cs H is).map (pureQ T l cs fr σ),(V6a l cs H is).all (fun i=>(JXa cs i).isSome))=((V6a l cs H is).map (JXa cs),true))(h2:w8a E l cs all H fr σ is):w8a E l cs all H fr σ (mayL l cs H):=by
 refine w8a.of fun i hi=>?_
 by_cases hc:is.contains i=true
 .exact h2.get (by simpa using hc)
 have hm:i∈V6a l cs H is:=by
  unfold V6a;rw[List.mem_filter];exact ⟨hi,by simpa using hc⟩
 have e1:=congrArg Prod.fst h1;have e2:=congrArg Prod.snd h1;have hq:pureQ T l cs fr σ i=JXa cs i:=List.map_inj_left.1 e1 i hm;have hs:(JXa cs i).isSome=true:=List.all_eq_true.1 e2 i hm;obtain ⟨c,hcc⟩:=Option.isSome_iff_exists.1 hs;rw[hcc]at hq;obtain ⟨o,ho,hv⟩:=Option.bind_eq_some_iff.1 hq;obtain ⟨x,hx,hxc⟩:=Option.bind_eq_some_iff.1 hcc;have hxc:x=some c:=hxc;subst hxc;exact .pure ho hx (zva (V3a hT hv))
theorem mn(hT:kNa E.P T)(is:List Nat)(h1:(((List.range l.length).all fun i=> !(isHv cs i) || H.getD i false),(V6a l cs H is).map (pureQ T l cs fr σ),(V6a l cs H is).all (fun i=>(JXa cs i).isSome))=(false,(V6a l cs H is).map (JXa cs),true))(h2:w8a E l cs all H fr σ is):z8b E l cs K all (H,fr,σ):=
 .step _ rfl (congrArg Prod.fst h1) (ms_all hT is (congrArg Prod.snd h1) h2)
theorem mf(hT:kNa E.P T)(is:List Nat)(frJ:Fr)(h1:((V6a l cs H is).map (pureQ T l cs fr σ),(V6a l cs H is).all (fun i=>(JXa cs i).isSome))=((V6a l cs H is).map (JXa cs),true))(h2:w8a E l cs all H fr σ is)(hf:FrLe (purF l cs (allT l)++fr) frJ)(h:K .normal frJ σ):z8b E l cs K all (H,fr,σ):=
 .full _ rfl (ms_all hT is h1 h2) hf wba h
theorem mst(j:Nat){i:Nat}{o:Oper}{σ' :Sto}(ho:l[i]? =some o)(h:HvS E o (purF l cs (allT l)++fr) σ σ')(e:(cs[i]?,all[j]?)=(some none,some (H.set i true,fr,σ'))):z7b E l cs all H fr σ i:=
 .sto j ho (congrArg Prod.fst e) h (congrArg Prod.snd e) vOa wba
theorem mdt(j:Nat){i k:Nat}{o:Oper}{c:AV}{rs:List Nat}{σ' :Sto}(ho:l[i]? =some o)(h:HvD E o (purF l cs (allT l)++fr) σ k c rs σ')(e:(((List.range l.length).all fun i=>yUa l cs i !=some k),kRb cs rs,cs[i]?,all[j]?)=(true,true,some none,some (H.set i true,(k,c)::fr.clrs rs,σ'))):z7b E l cs all H fr σ i:=
 .dst j ho (congrArg (fun x=>x.2.2.1) e) (congrArg (fun x=>x.1) e) (congrArg (fun x=>x.2.1) e) h (congrArg (fun x=>x.2.2.2) e) vOa wba
theorem mpt(j:Nat){i:Nat}{o:Oper}{rs:List Nat}{σ' :Sto}(ho:l[i]? =some o)(h:HvP E o (purF l cs (allT l)++fr) σ rs σ')(e:(kRb cs rs,cs[i]?,all[j]?)=(true,some none,some (H.set i true,fr.clrs rs,σ'))):z7b E l cs all H fr σ i:=
 .put j ho (congrArg (fun x=>x.2.1) e) (congrArg (fun x=>x.1) e) h (congrArg (fun x=>x.2.2) e) vOa wba
theorem mz{id:Nat}(cs:List (Option AV))(mk:Fr->Sto->List Node)(hmix:E.P.follows .mixedOrders=true)(hok:(vPb E.N l cs,(mk fr σ)[0]?)=(true,some (List.replicate l.length false,fr,σ)))(h:Kwa E l cs K (mk fr σ) (mk fr σ)):AWP E (.region id l.toArray true) fr σ K:=
 qDb cs (mk fr σ) hmix (congrArg Prod.fst hok) (congrArg Prod.snd hok) rfl vOa wba h
end
section
open Go.RowKit Go.Lib Go.Proofs.Tryz
variable {E:Env} {fr:Fr} {σ:Sto} {K:Post} {T:Tab} {l:List Oper} {cs:List (Option AV)} {all:List Node} {H:List Bool}
def tget:List (Nat × AV)->Nat->Option AV
 | [],_=>none
 | (k,c)::r,i=>bif Nat.beq k i then some c else tget r i
inductive Told (E:Env) (l:List Oper) (cs:List (Option AV)) (fr:Fr) (L:List Sto):List (Nat × AV)->Prop
 | nil:Told E l cs fr L []
 | cons {i:Nat} {c:AV} {o:Oper} {r:List (Nat × AV)} (ho:l[i]? =some o) (hc:cs[i]? =some (some c)) (h:∀s,s∈L->OpG E o (purF l cs (allT l)++fr) s c) (hr:Told E l cs fr L r):Told E l cs fr L ((i,c)::r)
theorem t0{o:Oper}{FR:Fr}{c:AV}(h:OpG E o FR σ c):∀s,s∈ [σ]->OpG E o FR s c:=fun s hs=>by
 rw[List.mem_singleton.1 hs];exact h
theorem Told.get{L:List Sto}{tl:List (Nat × AV)}(h:Told E l cs fr L tl){i:Nat}(hi:(tget tl i).isSome=true):∃o c,l[i]? =some o/\cs[i]? =some (some c)/\∀s,s∈L->OpG E o (purF l cs (allT l)++fr) s c:=by
 induction h with
 | nil=>cases hi
 | @cons k c o r ho hc h _ ih=>
  unfold tget at hi;cases hb:Nat.beq k i with
  | true=>
   have:=Nat.eq_of_beq_eq_true hb;subst this;exact ⟨o,c,ho,hc,h⟩
  | false=>rw[hb]at hi;exact ih hi
theorem Kwa.of:∀{r:List Node},(∀nd∈r,z8b E l cs K all nd)->Kwa E l cs K all r
 | [],_=>.nil
 | nd::r,h=>.cons (h nd (by simp)) (Kwa.of fun x hx=>h x (by simp[hx]))
end
section
open Go.RowKit Go.Lib Go.Proofs.Tryz
def Fr.mp(f:AV->AV):Fr->Fr
 | []=>[]
 | (k,c)::l=>(k,f c)::Fr.mp f l
def AO.mp(f:AV->AV):AO->AO
 | .cells cs=>.cells (cs.map f)
 | .hold c v=>.hold (f c) v
 | o=>o
def Sto.mp(f:AV->AV):Sto->Sto
 | []=>[]
 | (k,a)::l=>(k,a.mp f)::Sto.mp f l
theorem Fr.get_mp{f:AV->AV}(h0:f .any=.any)(fr:Fr)(d:Nat):(fr.mp f).get d=f (fr.get d):=by
 induction fr with
 | nil=>exact h0.symm
 | cons x l ih=>
  obtain ⟨k,c⟩:=x;simp only[Fr.mp,Fr.get_cons,ih];split <;> rfl
theorem Sto.get_mp(f:AV->AV)(σ:Sto)(o:Nat):(σ.mp f).get o=(σ.get o).map (AO.mp f):=by
 induction σ with
 | nil=>rfl
 | cons x l ih=>
  obtain ⟨k,c⟩:=x;simp only[Sto.mp,Sto.get_cons,ih];split <;> rfl
theorem AO.own_mp(f:AV->AV)(ob:AO)(l:Loc):(ob.mp f).own l=ob.own l:=by cases ob <;> rfl
def AV.on(f:AV->AV):AV->AV
 | .agg l=>.agg (l.map f)
 | c=>f c
theorem kSb{g g' :G}{f:AV->AV}(hf:∀c v,Rel g c v->Rel g' (f c) v){c:AV}{v:Value}(h:Rel g c v):Rel g' (AV.on f c) v:=by
 cases c
 case agg cs=>
  cases h with
  | agg hl hc h=>
   refine .agg (by simp[hl]) hc fun i c hi=>?_
   simp only[List.getElem?_map,Option.map_eq_some_iff]at hi;obtain ⟨c',h1,rfl⟩:=hi;exact hf _ _ (h i c' h1)
 all_goals exact hf _ _ h
variable {E:Env} {fr:Fr} {σ:Sto} {K:Post}
theorem St.turn{g g' :G}{a:Act}(h:St E g a fr σ){r:Nat}{ob0 ob:AO}(hr:σ.get r=some ob0)(R:List Nat)(hR:r ∉ R)(f:AV->AV)(hf0:f .any=.any)(hf:∀c v,Rel g c v->Rel g' (f c) v)
 (hx:Ext g.w g.u g'.w g'.u) (hl:∀k,k≠r->g'.loc k=g.loc k) (hos:g'.w.os=g.w.os) (htape:g'.w.tape=g.w.tape) (hout:g'.w.output=g.w.output)
 (hb:∀b,b < g.w.heap.size->(∀o ob1,(o=r∨o∈R)->σ.get o=some ob1->¬ob1.own (g.loc o) b)->g'.w.heap[b]? =g.w.heap[b]? /\g'.u b=g.u b) (hwf:Wf g') (hob:RelO g' r ob)
 (hnew:∀b,ob.own (g'.loc r) b->(∃o ob1,(o=r∨o∈R)/\σ.get o=some ob1/\ob1.own (g.loc o) b)∨g.w.heap.size<=b):St E g' a (fr.mp f) (((σ.dels R).mp f).upd r ob):=by
 have hgr:((σ.dels R).mp f).get r=some (ob0.mp f):=by rw[Sto.get_mp,Sto.get_dels,if_neg hR,hr];rfl
 have hget:∀o ob',(((σ.dels R).mp f).upd r ob).get o=some ob' ->(o=r/\ob' =ob)∨(o≠r/\o ∉ R/\∃ob1,σ.get o=some ob1/\ob' =ob1.mp f):=by
  intro o ob' ho;rw[Sto.get_upd hgr]at ho;split at ho
  .rename_i hor;cases ho;exact .inl ⟨hor,rfl⟩
  rename_i hor;rw[Sto.get_mp,Sto.get_dels]at ho;split at ho
  .cases ho
  rename_i hoR;cases ho1:σ.get o with
  | none=>rw[ho1]at ho;cases ho
  | some ob1=>rw[ho1]at ho;cases ho;exact .inr ⟨hor,hoR,ob1,rfl,rfl⟩
 have hdis:∀o ob1 b,o≠r->o ∉ R->σ.get o=some ob1->ob1.own (g.loc o) b->∀o' ob2,(o' =r∨o' ∈R)->σ.get o' =some ob2->¬ob2.own (g.loc o') b:=by
  intro o ob1 b hne hnR ho hbo o' ob2 ho' h2 hc;have:=h.so.apart o o' ob1 ob2 b ho h2 hbo hc;subst this;rcases ho' with rfl | ho'
  .exact hne rfl
  exact hnR ho'
 refine ⟨fun d=>by rw[Fr.get_mp hf0];exact hf _ _ (h.fr d),h.n,h.df.mono hx,⟨?_,?_,?_,?_,hwf⟩⟩
 .intro o ob' ho;rcases hget o ob' ho with ⟨rfl,rfl⟩ | ⟨hne,hnR,ob1,ho1,rfl⟩
  .exact hob
  have hro:=h.so.obj o ob1 ho1;have hbb:∀b,ob1.own (g.loc o) b->g'.w.heap[b]? =g.w.heap[b]? /\g'.u b=g.u b:=fun b hb' =>hb b (hro.block_lt hb') (hdis o ob1 b hne hnR ho1 hb')
  cases ob1
  case cells cs=>
   cases hro with
   | @cells _ b t vs h1 h2 h3 h4 h5 h6=>
    obtain ⟨b1,b2⟩:=hbb b (by rw[h1];rfl);refine .cells ((hl o hne).trans h1) (b1.trans h2) (by simpa using h3) (b2.trans h4) h5 fun i c hi=>?_
    simp only[List.getElem?_map,Option.map_eq_some_iff]at hi;obtain ⟨c',hc',rfl⟩:=hi;exact hf _ _ (h6 i c' hc')
  case hold c v=>cases hro with
   | hold h1=>exact .hold (hf _ _ h1)
  all_goals exact hro.mono hx (hl o hne) (fun _ hk=>by cases hk) hbb
 .intro o o' ob1 ob2 b h1 h2 h3 h4;rcases hget o ob1 h1 with ⟨rfl,rfl⟩ | ⟨hne,hnR,ob1,ho1,rfl⟩ <;> rcases hget o' ob2 h2 with ⟨rfl,rfl⟩ | ⟨hne',hnR',ob2,ho2,rfl⟩
  .rfl
  .rw[AO.own_mp,hl o' hne']at h4;rcases hnew b h3 with ⟨q,obq,hq,hq1,hq2⟩ | h5
   .exact absurd hq2 (hdis o' ob2 b hne' hnR' ho2 h4 q obq hq hq1)
   have:=(h.so.obj o' _ ho2).block_lt h4;omega
  .rw[AO.own_mp,hl o hne]at h3;rcases hnew b h4 with ⟨q,obq,hq,hq1,hq2⟩ | h5
   .exact absurd hq2 (hdis o ob1 b hne hnR ho1 h3 q obq hq hq1)
   have:=(h.so.obj o _ ho1).block_lt h3;omega
  rw[AO.own_mp,hl o hne]at h3;rw[AO.own_mp,hl o' hne']at h4;exact h.so.apart o o' _ _ b ho1 ho2 h3 h4
 .intro o ob1 b h1 h2;rcases hget o ob1 h1 with ⟨rfl,rfl⟩ | ⟨hne,hnR,ob1,ho1,rfl⟩
  .rcases hnew b h2 with ⟨q,obq,hq,hq1,hq2⟩ | h5
   .exact h.so.mine q obq b hq1 hq2
   exact .inl (Nat.le_trans h.so.old.ext.size h5)
  rw[AO.own_mp,hl o hne]at h2;exact h.so.mine o _ b ho1 h2
 refine h.so.old.trans ⟨hos,htape,hout,hx,fun b hbl hs=>hb b hbl fun q obq hq hq1 hq2=>?_⟩;rcases h.so.mine q obq b hq1 hq2 with h1 | h1
 .exact hs (.inr h1)
 exact hs (.inl h1)
def j1a(size2:Nat):Loc->Loc
 | .row b off cap size n=>.nest b off cap size n size2 []
 | l=>l
def AV.nst(r:Nat):AV->AV
 | .hs x off=>bif Nat.beq x r then .ns r else .hs x off
 | c=>bif c.has r then .any else c
theorem Kda{g g' :G}{r:Nat}(hx:Ext g.w g.u g'.w g'.u)(hl:∀k,k≠r->g'.loc k=g.loc k){c:AV}{v:Value}(h:Rel g c v):Rel g' (bif c.has r then .any else c) v:=YYa hx hl h
theorem rel_nst{g g' :G}{r size2:Nat}(hx:Ext g.w g.u g'.w g'.u)(hk:∀k,k≠r->g'.loc k=g.loc k)(hl:g'.loc r=j1a size2 (g.loc r)){c:AV}{v:Value}(h:Rel g c v):Rel g' (c.nst r) v:=by
 cases c
 case hs x off=>
  cases hb:Nat.beq x r with
  | true=>
   rw[show AV.nst r (.hs x off)=.ns r by show (bif Nat.beq x r then AV.ns r else AV.hs x off)=_;rw[hb];rfl];have:x=r:=Nat.eq_of_beq_eq_true hb;subst this;cases h with
   | hsNil a h1=>exact .nsNil a (by rw[hl,h1];rfl)
   | hs h1 h2=>exact .ns (size2:=size2) (subs:=[]) (by rw[hl,h1];rfl) h2
  | false=>
   rw[show AV.nst r (.hs x off)=.hs x off by show (bif Nat.beq x r then AV.ns r else AV.hs x off)=_;rw[hb];rfl];have hne:x≠r:=by rintro rfl;simp at hb
   exact h.mono hx fun k hk' =>hk k (by have:=Nat.eq_of_beq_eq_true (show Nat.beq x k=true from hk');subst this;exact hne)
 all_goals exact Kda hx hk h
theorem St.nest{g:G}{a:Act}{r size:Nat}{e:TypeId}{elems:List (List PV)}(h:St E g a fr σ)(hr:σ.get r=some (.row e true size elems))(j:Nat)(e2:TypeId)(size2:Nat):
 St E ⟨g.w,g.u,fun k=>if k=r then j1a size2 (g.loc r) else g.loc k⟩ a (fr.mp (AV.on (AV.nst r))) (((σ.dels []).mp (AV.on (AV.nst r))).upd r (.nrow e size j e2 size2 0 elems)):=by
 have hl:(⟨g.w,g.u,fun k=>if k=r then j1a size2 (g.loc r) else g.loc k⟩:G).loc r=j1a size2 (g.loc r):=if_pos rfl;have hob:=h.so.obj r _ hr;have hbl:(j1a size2 (g.loc r)).block=(g.loc r).block/\(∀b,b∈(j1a size2 (g.loc r)).subs->(g.loc r).block=some b):=by
  cases hob with
  | nil h1=>rw[h1];exact ⟨rfl,fun b hb=>by cases hb⟩
  | row h1=>rw[h1];exact ⟨rfl,fun b hb=>by cases hb⟩
 refine h.turn (g' :=⟨g.w,g.u,fun k=>if k=r then j1a size2 (g.loc r) else g.loc k⟩) hr [] (by simp) _ rfl (fun c v=>kSb fun c v=>rel_nst (g:=g) (g' :=⟨g.w,g.u,fun k=>if k=r then j1a size2 (g.loc r) else g.loc k⟩) (Ext.refl _ _) (fun k hk=>if_neg hk) hl) (Ext.refl _ _) (fun k hk=>if_neg hk) rfl rfl rfl (fun _ _ _=>⟨rfl,rfl⟩) h.so.wf ?_ (fun b hb=>.inl ⟨r,_,.inl rfl,hr,?_⟩)
 .cases hob with
  | nil h1=>exact .nrowNil (by rw[hl,h1];rfl)
  | row h1 h2 h3 h4 h5 h6 h7 h8 h9=>exact .nrow (subs:=[]) (by rw[hl,h1];rfl) h2 h3 h4 h5 h6 (h8 rfl) rfl (Nat.zero_le _) (by simp[zsa]) (fun i j' x c hi hj _=>h9 i j' x c hi hj) (fun i s x hi=>by simp at hi)
 rcases hb with hb | hb
 .rw[hl,hbl.1]at hb;exact hb
 rw[hl]at hb;exact hbl.2 b hb
theorem vma{ops:Array Oper}{ol:List Oper}{size:Nat}{e:TypeId}{elems:List (List PV)}(r j:Nat)(e2:TypeId)(size2:Nat)(hr:σ.get r=some (.row e true size elems))
 (h:AWPL E ops ol (fr.mp (AV.on (AV.nst r))) (((σ.dels []).mp (AV.on (AV.nst r))).upd r (.nrow e size j e2 size2 0 elems)) K):AWPL E ops ol fr σ K:=
 ⟨fun g a hst=>h.go ⟨g.w,g.u,fun k=>if k=r then j1a size2 (g.loc r) else g.loc k⟩ a (hst.nest hr j e2 size2)⟩
def wta:Loc->Loc
 | .nest b off cap size n _ _=>.row b off cap size n
 | l=>l
def pubU(size2:Nat)(subs:List (Option (Nat × Nat × Nat × Nat)))(u:Nat->Nat)(k:Nat):Nat:=
 match subs with
 | []=>u k
 | some (b,off,_,n)::l=>if b=k then (off+n) * size2 else pubU size2 l u k
 | none::l=>pubU size2 l u k
def locU:Loc->(Nat->Nat)->Nat->Nat
 | .nest _ _ _ _ _ size2 subs,u=>pubU size2 subs u
 | _,u=>u
theorem kia(s:Option (Nat × Nat × Nat × Nat))(l:List (Option (Nat × Nat × Nat × Nat))):zsa (s::l)=(match s with | some t=>[t.1] | none=>[])++zsa l:=by
 cases s <;> simp[zsa]
theorem k4a(l l' :List (Option (Nat × Nat × Nat × Nat))):zsa (l++l')=zsa l++zsa l' :=by simp[zsa]
theorem VKa{size2:Nat}{u:Nat->Nat}{k:Nat}:∀{subs:List (Option (Nat × Nat × Nat × Nat))},k ∉ zsa subs->pubU size2 subs u k=u k
 | [],_=>rfl
 | none::l,h=>VKa (subs:=l) (by simpa[kia]using h)
 | some (b,off,cap,n)::l,h=>by
  simp only[kia,List.mem_append,List.mem_singleton,not_or]at h;unfold pubU;rw[if_neg (Ne.symm h.1)];exact VKa h.2
theorem Q1a{size2:Nat}{u:Nat->Nat}{b off cap n:Nat}:∀{subs:List (Option (Nat × Nat × Nat × Nat))} {i:Nat},(zsa subs).Nodup->subs[i]? =some (some (b,off,cap,n))->pubU size2 subs u b=(off+n) * size2
 | [],i,_,h=>by simp at h
 | none::l,0,_,h=>by simp at h
 | none::l,i+1,hd,h=>Q1a (subs:=l) (by simpa[kia]using hd) (by simpa using h)
 | some (b',off',cap',n')::l,0,_,h=>by
  simp only[List.getElem?_cons_zero,Option.some.injEq]at h;cases h;unfold pubU;rw[if_pos rfl]
 | some (b',off',cap',n')::l,i+1,hd,h=>by
  simp only[List.getElem?_cons_succ]at h;simp only[kia,List.singleton_append,List.nodup_cons]at hd;unfold pubU;rw[if_neg (by rintro rfl;exact hd.1 (v8a h))];exact Q1a hd.2 h
theorem yKa.pub{w:World}{u:Nat->Nat}{e:TypeId}{mu:Bool}{size:Nat}{rows:List (List PV)}{s:Nat × Nat × Nat × Nat}{v:Value}(h:yKa w u e mu size rows s v){u' :Nat->Nat}(hx:Ext0 w u w u')(hu:(s.2.1+s.2.2.2) * size<=u' s.1):RelP w u' (.sl none rows) v:=by
 obtain ⟨vs,h1,h2,h3⟩:=h.blk;have hv:=h.val;rw[<-h.n]at hv;subst hv;have hne:rows≠ []:=by rintro rfl;have:=h.pos;rw[<-h.n]at this;simp at this
 have hle:rows.length<=s.2.2.1:=by rw[h.n];exact h.le
 refine .sl size s.1 (s.2.1 * size) (fun i=>vs.getD (s.2.1 * size+i) undef) (fun x hx=>by cases hx) (fun hx=>by cases hx) hle h.z (fun _=>rfl) (fun _=>⟨?_,kza h1⟩) (fun i hi=>?_) (fun i j x c hi hj=>?_)
 .rw[<-Nat.add_mul,h.n];exact hu
 .refine kea h1 ?_;rw[h2,Nat.add_mul];have:=Nat.mul_le_mul_right size hle;omega
 have:=(h3 i j x c hi hj).mono0 hx;rw[show (s.2.1+i) * size+j=s.2.1 * size+(i * size+j) by rw[Nat.add_mul];omega]at this;exact this
theorem K5a.pub{w:World}{u:Nat->Nat}{e:TypeId}{size:Nat}{rows:List (List PV)}{s:Option (Nat × Nat × Nat × Nat)}{v:Value}(h:K5a w u e size rows s v){u' :Nat->Nat}(hx:Ext0 w u w u')(hu:∀t,s=some t->(t.2.1+t.2.2.2) * size<=u' t.1):RelP w u' (.sl none rows) v:=by
 cases s with
 | none=>
  obtain ⟨rfl,a,cap,rfl,h0⟩:=h;have:=RelP.sl (w:=w) (u:=u') (nl:=none) (elems:=[]) (a:=a) (cap:=cap) 1 0 0 (fun _=>undef) (fun x hx=>by cases hx) (fun hx=>⟨h0 hx,rfl⟩) (by simp) (by simp) (by simp) (by simp) (fun i hi=>by simp at hi) (fun i j e c hi=>by simp at hi);exact this
 | some t=>exact yKa.pub h hx (hu t rfl)
def AV.dnst(r:Nat):AV->AV
 | .ns x=>bif Nat.beq x r then .hs r 0 else .ns x
 | .np x i j=>bif Nat.beq x r then .hp x i j else .np x i j
 | c=>bif c.has r then .any else c
theorem rel_dnst{g g' :G}{r:Nat}(hx:Ext g.w g.u g'.w g'.u)(hk:∀k,k≠r->g'.loc k=g.loc k)(hl:g'.loc r=wta (g.loc r)){c:AV}{v:Value}(h:Rel g c v):Rel g' (c.dnst r) v:=by
 cases c
 case ns x=>
  cases hb:Nat.beq x r with
  | true=>
   rw[show AV.dnst r (.ns x)=.hs r 0 by show (bif Nat.beq x r then AV.hs r 0 else AV.ns x)=_;rw[hb];rfl];have:x=r:=Nat.eq_of_beq_eq_true hb;subst this;cases h with
   | nsNil a h1=>exact .hsNil a (by rw[hl,h1];rfl)
   | ns h1 h2=>exact .hs (by rw[hl,h1];rfl) h2
  | false=>
   rw[show AV.dnst r (.ns x)=.ns x by show (bif Nat.beq x r then AV.hs r 0 else AV.ns x)=_;rw[hb];rfl];have hne:x≠r:=by rintro rfl;simp at hb
   exact h.mono hx fun k hk' =>hk k (by have:=Nat.eq_of_beq_eq_true (show Nat.beq x k=true from hk');subst this;exact hne)
 case np x i j=>
  cases hb:Nat.beq x r with
  | true=>
   rw[show AV.dnst r (.np x i j)=.hp x i j by show (bif Nat.beq x r then AV.hp x i j else AV.np x i j)=_;rw[hb];rfl];have:x=r:=Nat.eq_of_beq_eq_true hb;subst this;cases h with
   | np h1 h2=>exact .hp (by rw[hl,h1];rfl) h2
  | false=>
   rw[show AV.dnst r (.np x i j)=.np x i j by show (bif Nat.beq x r then AV.hp x i j else AV.np x i j)=_;rw[hb];rfl];have hne:x≠r:=by rintro rfl;simp at hb
   exact h.mono hx fun k hk' =>hk k (by have:=Nat.eq_of_beq_eq_true (show Nat.beq x k=true from hk');subst this;exact hne)
 all_goals exact Kda hx hk h
theorem St.denest{g:G}{a:Act}{r size j size2 m:Nat}{e e2:TypeId}{elems:List (List PV)}(h:St E g a fr σ)(hr:σ.get r=some (.nrow e size j e2 size2 m elems)):
 St E ⟨g.w,locU (g.loc r) g.u,fun k=>if k=r then wta (g.loc r) else g.loc k⟩ a (fr.mp (AV.on (AV.dnst r))) (((σ.dels []).mp (AV.on (AV.dnst r))).upd r (.row e true size elems)):=by
 have hl:(⟨g.w,locU (g.loc r) g.u,fun k=>if k=r then wta (g.loc r) else g.loc k⟩:G).loc r=wta (g.loc r):=if_pos rfl;have hob:=h.so.obj r _ hr;have hlt:∀b,(AO.nrow e size j e2 size2 m elems).own (g.loc r) b->b < g.w.heap.size:=fun b hb=>hob.block_lt hb
 have hu0:∀k,k ∉ (g.loc r).subs->locU (g.loc r) g.u k=g.u k:=by
  intro k hk;cases hg:g.loc r with
  | nest b off cap size' n size2' subs=>rw[hg]at hk;exact VKa hk
  | _=>rfl
 have hx:Ext g.w g.u g.w (locU (g.loc r) g.u):=⟨Nat.le_refl _,fun k hk=>by
  by_cases hin:k∈(g.loc r).subs
  .cases hob with
   | nrowNil h1=>rw[h1]at hin;cases hin
   | @nrow _ _ _ _ _ _ _ b off cap vs subs h1 h2 h3 h4 h5 h6 h7 h8 h9 h10 h11 h12=>
    rw[h1]at hin ⊢;obtain ⟨s,hs,hsb⟩:=List.mem_filterMap.1 hin;cases s with
    | none=>cases hsb
    | some s=>
     cases hsb;obtain ⟨i,hi,hii⟩:=List.getElem_of_mem hs;have hi' :subs[i]? =some (some s):=by rw[List.getElem?_eq_getElem hi,hii]
     have hie:i < elems.length:=by omega
     obtain ⟨rows,_,q2⟩:=h12 i _ _ hi' (List.getElem?_eq_getElem hie);show _<=pubU size2 subs g.u s.1;rw[Q1a (List.nodup_cons.1 h10).2 hi',yKa.hmu q2 rfl];exact Nat.zero_le _
  rw[hu0 k hin];exact Nat.le_refl _,fun _ _ _ _=>rfl,fun _ h=>h⟩
 refine h.turn (g' :=⟨g.w,locU (g.loc r) g.u,fun k=>if k=r then wta (g.loc r) else g.loc k⟩) hr [] (by simp) _ rfl (fun c v=>kSb fun c v=>rel_dnst (g:=g) (g' :=⟨g.w,locU (g.loc r) g.u,fun k=>if k=r then wta (g.loc r) else g.loc k⟩) hx (fun k hk=>if_neg hk) hl) hx (fun k hk=>if_neg hk) rfl rfl rfl (fun b hb hn=>⟨rfl,hu0 b fun hin=>hn r _ (.inl rfl) hr (.inr hin)⟩) (fun k hk=>?_) ?_ (fun b hb=>.inl ⟨r,_,.inl rfl,hr,?_⟩)
 .show locU (g.loc r) g.u k=0;rw[hu0 k fun hin=>by have:=hlt k (.inr hin);exact absurd hk (by show ¬g.w.heap.size<=k;omega)];exact h.so.wf k hk
 .cases hob with
  | nrowNil h1=>exact .nil (by rw[hl,h1];rfl)
  | @nrow _ _ _ _ _ _ _ b off cap vs subs h1 h2 h3 h4 h5 h6 h7 h8 h9 h10 h11 h12=>
   have hub:locU (g.loc r) g.u b=0:=by rw[hu0 b (by rw[h1];exact (List.nodup_cons.1 h10).1)];exact h7
   refine .row (by rw[hl,h1];rfl) h2 h3 h4 h5 h6 (by show locU (g.loc r) g.u b<=_;rw[hub];exact Nat.zero_le _) (fun _=>hub) (fun i j' x c hi hj=>?_);by_cases hc:m<=i∨j' ≠j
   .exact (h11 i j' x c hi hj hc).mono hx
   have him:i < m:=by omega
   have hjj:j' =j:=by omega
   subst hjj;obtain ⟨rows,q1,q2⟩:=h12 i _ x (List.getElem?_eq_getElem (by omega:i < subs.length)) hi;rw[hj]at q1;cases q1;refine K5a.pub q2 hx.to0 fun t ht=>?_
   show _<=locU (g.loc r) g.u t.1;rw[h1];have hi' :subs[i]? =some (some (t.1,t.2.1,t.2.2.1,t.2.2.2)):=by rw[List.getElem?_eq_getElem (by omega:i < subs.length),ht]
   exact Nat.le_of_eq (Q1a (List.nodup_cons.1 h10).2 hi').symm
 show (g.loc r).block=some b∨_;have hb2:(wta (g.loc r)).block=some b:=by rw[<-hl];exact hb
 clear hb;left;cases hob with
 | nrowNil h1=>rw[h1]at hb2;cases hb2
 | nrow h1=>rw[h1]at hb2 ⊢;exact hb2
theorem z9b{ops:Array Oper}{ol:List Oper}{size j size2 m:Nat}{e e2:TypeId}{elems:List (List PV)}(r:Nat)(hr:σ.get r=some (.nrow e size j e2 size2 m elems))
 (h:AWPL E ops ol (fr.mp (AV.on (AV.dnst r))) (((σ.dels []).mp (AV.on (AV.dnst r))).upd r (.row e true size elems)) K):AWPL E ops ol fr σ K:=
 ⟨fun g a hst=>h.go ⟨g.w,locU (g.loc r) g.u,fun k=>if k=r then wta (g.loc r) else g.loc k⟩ a (hst.denest hr)⟩
theorem yFa{c:Code}{size j size2 m:Nat}{e e2:TypeId}{elems:List (List PV)}(r:Nat)(hr:σ.get r=some (.nrow e size j e2 size2 m elems))
 (h:AWP E c (fr.mp (AV.on (AV.dnst r))) (((σ.dels []).mp (AV.on (AV.dnst r))).upd r (.row e true size elems)) K):AWP E c fr σ K:=
 ⟨fun g a hst=>h.go ⟨g.w,locU (g.loc r) g.u,fun k=>if k=r then wta (g.loc r) else g.loc k⟩ a (hst.denest hr)⟩
end
section
open Go.RowKit Go.Lib Go.Proofs.Tryz
def nown(m:Nat)(n:Int):Option Bool:=if n.toNat < m then some true else none
theorem wua{m:Nat}{n:Int}{r:Bool}(h:nown m n=some r):n.toNat < m:=by
 unfold nown at h;split at h
 .assumption
 cases h
def kab(m:Nat)(n:Int):Option Bool:=if n.toNat=m then some true else none
theorem Kea{m:Nat}{n:Int}{r:Bool}(h:kab m n=some r):n.toNat=m:=by
 unfold kab at h;split at h
 .assumption
 cases h
def V7a(m:Nat)(n:Int):Option Bool:=if m<=n.toNat then some true else none
theorem j2a{m:Nat}{n:Int}{r:Bool}(h:V7a m n=some r):m<=n.toNat:=by
 unfold V7a at h;split at h
 .assumption
 cases h
variable {E:Env} {fr:Fr} {σ:Sto} {K:Post} {P:Program} {ρ:Operand->AV}
variable {dst:Option Tmp} {ty:TypeId} {pos:String} {af:Array Edge} {gu:Option (Nat × Bool)}
section
variable {α β:Type} {F:α->List PV} {G2:β->List PV} {l:List α} {l2:List β} {r size size2 bytes sb ss k j m:Nat} {e e2 t:TypeId} {zero sz:Value} {d:TypeDesc} {x y:Operand}
structure NAt (g:G) (r:Nat) (e:TypeId) (size j:Nat) (e2:TypeId) (size2 m:Nat) (F:α->List PV) (l:List α) (b off cap:Nat) (vs:Array Value) (subs:List (Option (Nat × Nat × Nat × Nat))):Prop where
 loc:g.loc r=.nest b off cap size l.length size2 subs
 heap:g.w.heap[b]? =some (.cells vs e (0,0))
 sz:vs.size=(off+cap) * size
 max:cap<=maxLen
 le:l.length<=cap
 z:∀x∈l,(F x).length=size
 u:g.u b=0
 sl:subs.length=m
 ml:m<=l.length
 nd:(b::zsa subs).Nodup
 cell:∀i j' x c,l[i]? =some x->(F x)[j']? =some c->(m<=i∨j' ≠j)->RelP g.w g.u c (vs.getD ((off+i) * size+j') undef)
 sub:∀i s x,subs[i]? =some s->l[i]? =some x->∃rows,(F x)[j]? =some (.sl none rows)/\K5a g.w g.u e2 size2 rows s (vs.getD ((off+i) * size+j) undef)
theorem NAt.obj{g:G}{b off cap:Nat}{vs:Array Value}{subs:List (Option (Nat × Nat × Nat × Nat))}(h:NAt g r e size j e2 size2 m F l b off cap vs subs):RelO g r (.nrow e size j e2 size2 m (l.map F)):=
 .nrow (by rw[List.length_map];exact h.loc) h.heap h.sz h.max (by rw[List.length_map];exact h.le) (fun x hx=>by obtain ⟨y,hy,rfl⟩:=List.mem_map.1 hx;exact h.z y hy) h.u h.sl (by rw[List.length_map];exact h.ml) h.nd
  (fun i j' x c hi hj hc=>by
   simp only[List.getElem?_map,Option.map_eq_some_iff]at hi;obtain ⟨y,hy,rfl⟩:=hi;exact h.cell i j' y c hy hj hc)
  (fun i s x hi hx=>by
   simp only[List.getElem?_map,Option.map_eq_some_iff]at hx;obtain ⟨y,hy,rfl⟩:=hx;exact h.sub i s y hi hy)
theorem vTb{g:G}(hob:RelO g r (.nrow e size j e2 size2 m (l.map F))):(g.loc r=.nilRow/\l=[]/\m=0)∨∃b off cap vs subs,NAt g r e size j e2 size2 m F l b off cap vs subs:=by
 generalize hls:l.map F=ls at hob;cases hob with
 | nrowNil hl=>exact .inl ⟨hl,by simpa using hls,rfl⟩
 | @nrow _ _ _ _ _ _ _ b off cap vs subs h1 h2 h3 h4 h5 h6 h7 h8 h9 h10 h11 h12=>
  subst hls;simp only[List.length_map]at h1 h5 h9;exact .inr ⟨b,off,cap,vs,subs,h1,h2,h3,h4,h5,fun x hx=>h6 _ (List.mem_map_of_mem hx),h7,h8,h9,h10,fun i j' x c hi hj hc=>h11 i j' (F x) c (by simp[hi]) hj hc,fun i s x hi hx=>h12 i s (F x) hi (by simp[hx])⟩
theorem Kxa{g:G}{i:Nat}{v:α}(hob:RelO g r (.nrow e size j e2 size2 m (l.map F)))(hv:l[i]? =some v):∃b off cap vs subs,NAt g r e size j e2 size2 m F l b off cap vs subs:=by
 rcases vTb hob with ⟨_,rfl,_⟩ | h
 .simp at hv
 exact h
theorem Yoa{g:G}{b off cap i j0:Nat}{vs:Array Value}{subs:List (Option (Nat × Nat × Nat × Nat))}{vp:Value}(h:NAt g r e size j e2 size2 m F l b off cap vs subs)(hp:Rel g (.np r i j0) vp):vp=.pointer (some ⟨b,(off+i) * size+j0,none⟩):=by
 cases hp with
 | np hl hi=>rw[h.loc]at hl;cases hl;rfl
theorem NAt.place{g:G}{b off cap i q:Nat}{vs:Array Value}{subs:List (Option (Nat × Nat × Nat × Nat))}(h:NAt g r e size j e2 size2 m F l b off cap vs subs)(hi:i < l.length)(hq:q < size):(off+i) * size+q < vs.size:=by
 rw[h.sz];exact WHa (s:=1) hi h.le hq
theorem Q2a{tx:TypeId}(hx:ρ x=.ns r)(hr:σ.get r=some (.nrow e size j e2 size2 m (l.map F)))(ht:P.underlying t=some (.slice tx)):EvQ P ⟨dst,.call ⟨.builtin .len, #[x], #[t]⟩,ty,pos,af,gu⟩ ρ σ (.i l.length):=
 ⟨fun c=>by simp,fun g ρv h hs=>by
  have h1:=h x (by simp[Op.operands,Call.operands]);rw[hx]at h1;refine ⟨.int .i64 l.length,?_,.pv (.b rfl)⟩;generalize hv:ρv x=v at h1;rcases vTb (hs r _ hr) with ⟨hl,rfl,_⟩ | ⟨b,off,cap,vs,subs,hN⟩
  .cases h1 with
   | nsNil a h1=>simp[execOp,resolve,invoke,builtin,Builtin.len_,hv,go_sem,underlying,ht,goInt]
   | ns h1=>rw[hl]at h1;cases h1
  cases h1 with
  | nsNil a h1=>rw[hN.loc]at h1;cases h1
  | ns h1=>
   rw[hN.loc]at h1;cases h1;simp[execOp,resolve,invoke,builtin,Builtin.len_,hv,go_sem,underlying,ht,goInt]⟩
theorem wva{n:Int}{kk:IntKind}{v:α}(hx:ρ x=.ns r)(hy:ρ y=.pv (.b (.int kk n)))(hr:σ.get r=some (.nrow e size j e2 size2 m (l.map F)))(ht:TyOk P t ss sb sz (.slice e))(he:TyOk P e size bytes zero d)(hv:idx l n=some v):
 EvQ P ⟨dst,.indexAddr t x y,ty,pos,af,gu⟩ ρ σ (.np r n.toNat 0):=
 ⟨fun c=>by simp,fun g ρv h hs=>by
  obtain ⟨h1,h2⟩:=ops2 (o:=⟨dst,.indexAddr t x y,ty,pos,af,gu⟩) (x:=x) (y:=y) rfl h;rw[hx]at h1;rw[hy]at h2;have e2:=kda h2;obtain ⟨hn0,hv⟩:=kZa hv;have hlt:n.toNat < l.length:=(List.getElem?_eq_some_iff.1 hv).1;have hn2:n < l.length:=by omega
  obtain ⟨i,hi,hsz,hby,hzero⟩:=he.info;obtain ⟨b,off,cap,vs,subs,hN⟩:=Kxa (hs r _ hr) hv;generalize ev:ρv x=vx at h1;cases h1 with
  | nsNil a h1=>rw[hN.loc]at h1;cases h1
  | ns h1 ha=>
   rw[hN.loc]at h1;cases h1;have ha:=ha (by have:=hN.le;omega);subst ha;refine ⟨.pointer (some ⟨b,(off+n.toNat) * size+0,none⟩),?_,.np hN.loc hlt⟩;simp[execOp,Instr.indexAt,e2,ev,go_sem,asIntOf,underlying,ht.u,sizeOf,typeInfo,hi,hsz,hn0,hn2,kOa,Nat.add_mul]⟩
theorem V8a{i j0 f:Nat}{fs:Array Field}{fl:Field}{fsize fbytes:Nat}{fzero:Value}{fd:TypeDesc}(hx:ρ x=.np r i j0)(ht:P.underlying t=some (.struct fs))(hf:fs[f]? =some fl)(hft:TyOk P fl.type fsize fbytes fzero fd)(hz:Nat.beq fsize 0=false):
 EvQ P ⟨dst,.fieldAddr t x f,ty,pos,af,gu⟩ ρ σ (.np r i (j0+fl.offset)):=
 ⟨fun c=>by simp,fun g ρv h _=>by
  have h1:=h x (by simp[Op.operands]);rw[hx]at h1;generalize hv:ρv x=v at h1;cases h1 with
  | np hl hi=>
   have hz' :fsize≠0:=by rintro rfl;simp at hz
   refine ⟨_,?_,.np (j:=j0+fl.offset) hl hi⟩;simp[execOp,Instr.fieldAt,Instr.sureAddr,hv,go_sem,underlying,ht,hf,fieldPlace,hft.sizeOf,hz',kOa,Nat.add_assoc]⟩
theorem Vwa{i k0 j0 f:Nat}{fs:Array Field}{fl:Field}{fsize fbytes:Nat}{fzero:Value}{fd:TypeDesc}(hx:ρ x=.hnp r i k0 j0)(ht:P.underlying t=some (.struct fs))(hf:fs[f]? =some fl)(hft:TyOk P fl.type fsize fbytes fzero fd)(hz:Nat.beq fsize 0=false):
 EvQ P ⟨dst,.fieldAddr t x f,ty,pos,af,gu⟩ ρ σ (.hnp r i k0 (j0+fl.offset)):=
 ⟨fun c=>by simp,fun g ρv h _=>by
  have h1:=h x (by simp[Op.operands]);rw[hx]at h1;generalize hv:ρv x=v at h1;cases h1 with
  | hnp hl hs hk=>
   have hz' :fsize≠0:=by rintro rfl;simp at hz
   refine ⟨_,?_,.hnp (j:=j0+fl.offset) hl hs hk⟩;simp[execOp,Instr.fieldAt,Instr.sureAddr,hv,go_sem,underlying,ht,hf,fieldPlace,hft.sizeOf,hz',kOa,Nat.add_assoc]⟩
section
variable {t' :TypeId} {size' bytes' :Nat} {zero' :Value} {d' :TypeDesc} {n:Int} {j0:Nat} {v v' :α} {c:PV}
theorem wwa(hx:ρ x=.np r n.toNat j0)(hr:σ.get r=some (.nrow e size j e2 size2 m (l.map F)))(ht:TyOk P t' size' bytes' zero' d')(hd:dAgg d' =false)(hv:idx l n=some v)(hc:(F v)[j0]? =some c)(hj:Nat.beq j0 j=false∨m<=n.toNat):EvQ P ⟨dst,.load t' x,ty,pos,af,gu⟩ ρ σ (.pv c):=
 ⟨fun c=>by simp,fun g ρv h hs=>by
  have h1:=h x (by simp[Op.operands]);rw[hx]at h1;obtain ⟨hn0,hv⟩:=kZa hv;obtain ⟨b,off,cap,vs,subs,hN⟩:=Kxa (hs r _ hr) hv;have e1:=Yoa hN h1;have hjs:j0 < size:=by rw[<-hN.z v (List.mem_of_getElem? hv)];exact (List.getElem?_eq_some_iff.1 hc).1
  have hlt:=(List.getElem?_eq_some_iff.1 hv).1;refine ⟨_,qla e1 (wea ht hd (kea hN.heap (hN.place hlt hjs))),.pv (hN.cell _ _ _ _ hv hc ?_)⟩;rcases hj with hj | hj
  .right;rintro rfl;simp at hj
  exact .inl hj⟩
theorem Kfa(hx:ρ x=.np r n.toNat j0)(hr:σ.get r=some (.nrow e size j e2 size2 m (l.map F)))(ht:TyOk P t' size' bytes' zero' d')(hd:dAgg d' =true)(hv:idx l n=some v)(hle:Nat.ble (j0+size') (F v).length=true)(hj:(Nat.ble (j+1) j0 || Nat.ble (j0+size') j)=true∨m<=n.toNat):EvQ P ⟨dst,.load t' x,ty,pos,af,gu⟩ ρ σ (.agg ((((F v).drop j0).take size').map .pv)):=
 ⟨fun c=>by simp,fun g ρv h hs=>by
  have h1:=h x (by simp[Op.operands]);rw[hx]at h1;obtain ⟨hn0,hv⟩:=kZa hv;have hle:=Nat.le_of_ble_eq_true hle;obtain ⟨b,off,cap,vs,subs,hN⟩:=Kxa (hs r _ hr) hv;have e1:=Yoa hN h1;have hlt:=(List.getElem?_eq_some_iff.1 hv).1;have hFz:=hN.z v (List.mem_of_getElem? hv);have hj' :∀q,q < size' ->m<=n.toNat∨j0+q≠j:=by
   intro q hq;rcases hj with hj | hj
   .right;simp only[Bool.or_eq_true]at hj;rcases hj with hj | hj <;> have:=Nat.le_of_ble_eq_true hj <;> omega
   exact .inl hj
  have hrel:∀q,q < size' ->∃c,(F v)[j0+q]? =some c/\RelP g.w g.u c (vs.getD ((off+n.toNat) * size+(j0+q)) undef):=by
   intro q hq;have h2:j0+q < (F v).length:=by omega
   exact ⟨_,List.getElem?_eq_getElem h2,hN.cell _ _ _ _ hv (List.getElem?_eq_getElem h2) (hj' q hq)⟩
  refine ⟨_,qla e1 (wfa ht hd (f:=fun q=>vs.getD ((off+n.toNat) * size+(j0+q)) undef) fun q hq=>?_),.agg (by simp;omega) (fun q hq=>?_) (fun q c hq=>?_)⟩
  .rw[Nat.add_assoc];exact kea hN.heap (hN.place hlt (by omega))
  .simp only[List.size_toArray,List.length_map,List.length_range]at hq;rw[qDa _ _ _ hq];obtain ⟨c,_,hr⟩:=hrel q hq;exact hr.cellV
  simp only[List.getElem?_map,Option.map_eq_some_iff]at hq;obtain ⟨c',hc',rfl⟩:=hq;have hq2:q < size' :=by have:=(List.getElem?_eq_some_iff.1 hc').1;simp at this;omega
  rw[List.getElem?_take_of_lt hq2,List.getElem?_drop]at hc';rw[qDa _ _ _ hq2];obtain ⟨c,hc,hr⟩:=hrel q hq2;rw[hc']at hc;cases hc;exact .pv hr⟩
theorem vUb{g:G}{b off cap i:Nat}{vs:Array Value}{subs:List (Option (Nat × Nat × Nat × Nat))}{v:α}(hN:NAt g r e size j e2 size2 m F l b off cap vs subs)(hv:l[i]? =some v)(hm:i < m):Rel g (.hn r i) (vs.getD ((off+i) * size+j) undef):=by
 obtain ⟨s,hs⟩:∃s,subs[i]? =some s:=⟨_,List.getElem?_eq_getElem (by have:=hN.sl;omega)⟩;obtain ⟨rows,q1,q2⟩:=hN.sub i s v hs hv;cases s with
 | none=>
  obtain ⟨_,a,cp,hval,_⟩:=q2;rw[hval];exact .hnNil a cp hN.loc hs
 | some t=>
  rw[yKa.val q2];exact .hn (b2:=t.1) (off2:=t.2.1) (cap2:=t.2.2.1) (n2:=t.2.2.2) hN.loc hs
theorem JYa{w:World}{u:Nat->Nat}{e:TypeId}{size:Nat}{rows:List (List PV)}{s:Option (Nat × Nat × Nat × Nat)}{v:Value}(h:K5a w u e size rows s v):cellV v=true:=by
 cases s with
 | none=>obtain ⟨_,a,cap,rfl,_⟩:=h;rfl
 | some t=>rw[yKa.val h];rfl
theorem jka(hx:ρ x=.np r n.toNat j0)(hr:σ.get r=some (.nrow e size j e2 size2 m (l.map F)))(ht:TyOk P t' size' bytes' zero' d')(hd:dAgg d' =false)(hv:idx l n=some v)(hj:Nat.beq j0 j=true)(hm:n.toNat < m):EvQ P ⟨dst,.load t' x,ty,pos,af,gu⟩ ρ σ (.hn r n.toNat):=
 ⟨fun c=>by simp,fun g ρv h hs=>by
  have h1:=h x (by simp[Op.operands]);rw[hx]at h1;obtain rfl:=Nat.eq_of_beq_eq_true hj;obtain ⟨hn0,hv⟩:=kZa hv;obtain ⟨b,off,cap,vs,subs,hN⟩:=Kxa (hs r _ hr) hv;have e1:=Yoa hN h1;have hlt:=(List.getElem?_eq_some_iff.1 hv).1;obtain ⟨s,hss⟩:∃s,subs[n.toNat]? =some s:=⟨_,List.getElem?_eq_getElem (by have:=hN.sl;omega)⟩;obtain ⟨rows,q1,q2⟩:=hN.sub _ s v hss hv;have hjs:j0 < size:=by rw[<-hN.z v (List.mem_of_getElem? hv)];exact (List.getElem?_eq_some_iff.1 q1).1
  exact ⟨_,qla e1 (wea ht hd (kea hN.heap (hN.place hlt hjs))),vUb hN hv hm⟩⟩
theorem ev_npall(hx:ρ x=.np r n.toNat 0)(hr:σ.get r=some (.nrow e size j e2 size2 m (l.map F)))(ht:TyOk P e size bytes' zero' d')(hd:dAgg d' =true)(hv:idx l n=some v)(hm:n.toNat < m):EvQ P ⟨dst,.load e x,ty,pos,af,gu⟩ ρ σ (.agg (((F v).map AV.pv).set j (.hn r n.toNat))):=
 ⟨fun c=>by simp,fun g ρv h hs=>by
  have h1:=h x (by simp[Op.operands]);rw[hx]at h1;obtain ⟨hn0,hv⟩:=kZa hv;obtain ⟨b,off,cap,vs,subs,hN⟩:=Kxa (hs r _ hr) hv;have e1:=Yoa hN h1;have hlt:=(List.getElem?_eq_some_iff.1 hv).1;have hFz:=hN.z v (List.mem_of_getElem? hv);obtain ⟨s,hss⟩:∃s,subs[n.toNat]? =some s:=⟨_,List.getElem?_eq_getElem (by have:=hN.sl;omega)⟩;obtain ⟨rows,q1,q2⟩:=hN.sub _ s v hss hv;refine ⟨_,qla e1 (wfa ht hd (f:=fun q=>vs.getD ((off+n.toNat) * size+q) undef) fun q hq=>?_),.agg (by simp[hFz]) (fun q hq=>?_) (fun q c hq=>?_)⟩
  .rw[Nat.add_zero];exact kea hN.heap (hN.place hlt hq)
  .simp only[List.size_toArray,List.length_map,List.length_range]at hq;rw[qDa _ _ _ hq];by_cases hqj:q=j
   .subst hqj;exact JYa q2
   exact (hN.cell _ q v _ hv (List.getElem?_eq_getElem (by omega)) (.inr hqj)).cellV
  rw[List.getElem?_set]at hq;split at hq
  .rename_i hjq;subst hjq;split at hq
   .rename_i hjl;cases hq;rw[qDa _ _ _ (by simpa[hFz]using hjl)];exact vUb hN hv hm
   cases hq
  rename_i hjq;simp only[List.getElem?_map,Option.map_eq_some_iff]at hq;obtain ⟨c',hc',rfl⟩:=hq;have:=(List.getElem?_eq_some_iff.1 hc').1;rw[qDa _ _ _ (by omega)];exact .pv (hN.cell _ q v c' hv hc' (.inr (Ne.symm hjq)))⟩
theorem vVb{g:G}{b off cap i:Nat}{vs:Array Value}{subs:List (Option (Nat × Nat × Nat × Nat))}{v:α}{vx:Value}(hN:NAt g r e size j e2 size2 m F l b off cap vs subs)(hv:l[i]? =some v)(hF:(F v)[j]? =some (.sl none (l2.map G2)))(hx:Rel g (.hn r i) vx):
 (l2=[]/\∃a cp,vx=.slice a 0 cp)∨∃s,subs[i]? =some (some s)/\yKa g.w g.u e2 true size2 (l2.map G2) s vx:=by
 cases hx with
 | hnNil a cp hl hs=>
  rw[hN.loc]at hl;cases hl;obtain ⟨rows,q1,q2⟩:=hN.sub i _ v hs hv;rw[hF]at q1;cases q1;exact .inl ⟨by simpa using q2.1,a,cp,rfl⟩
 | hn hl hs=>
  rw[hN.loc]at hl;cases hl;obtain ⟨rows,q1,q2⟩:=hN.sub i _ v hs hv;rw[hF]at q1;cases q1;refine .inr ⟨_,hs,?_⟩;have h:=yKa.val q2;rw[h]at q2;exact q2
theorem kTb{tx:TypeId}(hx:ρ x=.hn r n.toNat)(hr:σ.get r=some (.nrow e size j e2 size2 m (l.map F)))(ht:P.underlying t=some (.slice tx))(hv:idx l n=some v)(hF:(F v)[j]? =some (.sl none (l2.map G2))):EvQ P ⟨dst,.call ⟨.builtin .len, #[x], #[t]⟩,ty,pos,af,gu⟩ ρ σ (.i l2.length):=
 ⟨fun c=>by simp,fun g ρv h hs=>by
  have h1:=h x (by simp[Op.operands,Call.operands]);rw[hx]at h1;refine ⟨.int .i64 l2.length,?_,.pv (.b rfl)⟩;obtain ⟨hn0,hv⟩:=kZa hv;obtain ⟨b,off,cap,vs,subs,hN⟩:=Kxa (hs r _ hr) hv;rcases vVb hN hv hF h1 with ⟨rfl,a,cp,e1⟩ | ⟨s,_,hR⟩
  .simp[execOp,resolve,invoke,builtin,Builtin.len_,e1,go_sem,underlying,ht,goInt]
  have e1:=hR.val;have e2:=hR.n;rw[List.length_map]at e2;rw[<-e2]at e1;simp[execOp,resolve,invoke,builtin,Builtin.len_,e1,go_sem,underlying,ht,goInt]⟩
theorem jla{n2:Int}{kk:IntKind}{w2:β}(hx:ρ x=.hn r n.toNat)(hy:ρ y=.pv (.b (.int kk n2)))(hr:σ.get r=some (.nrow e size j e2 size2 m (l.map F)))(ht:TyOk P t ss sb sz (.slice e2))(he:TyOk P e2 size2 bytes zero d)(hv:idx l n=some v)(hF:(F v)[j]? =some (.sl none (l2.map G2)))(hv2:idx l2 n2=some w2):
 EvQ P ⟨dst,.indexAddr t x y,ty,pos,af,gu⟩ ρ σ (.hnp r n.toNat n2.toNat 0):=
 ⟨fun c=>by simp,fun g ρv h hs=>by
  obtain ⟨h1,h2⟩:=ops2 (o:=⟨dst,.indexAddr t x y,ty,pos,af,gu⟩) (x:=x) (y:=y) rfl h;rw[hx]at h1;rw[hy]at h2;have ey:=kda h2;obtain ⟨hn0,hv⟩:=kZa hv;obtain ⟨hn20,hv2⟩:=kZa hv2;have hlt:n2.toNat < l2.length:=(List.getElem?_eq_some_iff.1 hv2).1;have hn2:n2 < l2.length:=by omega
  obtain ⟨i,hi,hsz,hby,hzero⟩:=he.info;obtain ⟨b,off,cap,vs,subs,hN⟩:=Kxa (hs r _ hr) hv;rcases vVb hN hv hF h1 with ⟨rfl,a,cp,e1⟩ | ⟨s,hss,hR⟩
  .simp at hlt
  have e1:=hR.val;have en:=hR.n;rw[List.length_map]at en;refine ⟨.pointer (some ⟨s.1,(s.2.1+n2.toNat) * size2+0,none⟩),?_,.hnp (b2:=s.1) (off2:=s.2.1) (cap2:=s.2.2.1) (n2:=s.2.2.2) hN.loc hss (by omega)⟩;rw[<-en]at e1;simp[execOp,Instr.indexAt,ey,e1,go_sem,asIntOf,underlying,ht.u,sizeOf,typeInfo,hi,hsz,hn20,hn2,kOa,Nat.add_mul]⟩
theorem hnp_val{g:G}{b off cap i k0 j2:Nat}{vs:Array Value}{subs:List (Option (Nat × Nat × Nat × Nat))}{v:α}{vp:Value}(hN:NAt g r e size j e2 size2 m F l b off cap vs subs)(hv:l[i]? =some v)(hF:(F v)[j]? =some (.sl none (l2.map G2)))(hp:Rel g (.hnp r i k0 j2) vp):
 ∃s val,subs[i]? =some (some s)/\yKa g.w g.u e2 true size2 (l2.map G2) s val/\vs.getD ((off+i) * size+j) undef=val/\k0 < l2.length/\vp=.pointer (some ⟨s.1,(s.2.1+k0) * size2+j2,none⟩):=by
 cases hp with
 | hnp hl hs hk=>
  rw[hN.loc]at hl;cases hl;obtain ⟨rows,q1,q2⟩:=hN.sub i _ v hs hv;rw[hF]at q1;cases q1;have:=q2.n;rw[List.length_map]at this;exact ⟨_,_,hs,q2,rfl,by rw[this];exact hk,rfl⟩
theorem yKa.lt{w:World}{u:Nat->Nat}{mu:Bool}{s:Nat × Nat × Nat × Nat}{vx:Value}{i q:Nat}{vs:Array Value}(h:yKa w u e mu size (l.map F) s vx)(hsz:vs.size=(s.2.1+s.2.2.1) * size)(hi:i < l.length)(hq:q < size):(s.2.1+i) * size+q < vs.size:=by
 rw[hsz];have h1:=h.n;have h2:=h.le;rw[List.length_map]at h1;exact WHa (s:=1) (n:=l.length) hi (by omega) hq
end
end
end
section
open Go.RowKit Go.Lib Go.Proofs.Tryz
structure Wrote (w w' :World) (b p:Nat) (t:TypeId) (cur new:Array Value) (cl:List Value):Prop where
 os:w'.os=w.os
 tape:w'.tape=w.tape
 output:w'.output=w.output
 size:w'.heap.size=w.heap.size
 other:∀k,k≠b->w'.heap[k]? =w.heap[k]?
 here:w'.heap[b]? =some (.cells new t (0,0))
 sz:new.size=cur.size
 inn:∀q,q < cl.length->new.getD (p+q) undef=cl.getD q undef
 out:∀q,(q < p∨p+cl.length<=q)->new.getD q undef=cur.getD q undef
theorem JZa{w:World}{b p:Nat}{t:TypeId}{cur:Array Value}{cl:List Value}(h:w.heap[b]? =some (.cells cur t (0,0)))(hf:p+cl.length<=cur.size):Wrote w (w.setRow b (cur.toList.take p++cl++cur.toList.drop (p+cl.length)).toArray) b p t cur (cur.toList.take p++cl++cur.toList.drop (p+cl.length)).toArray cl where
 os:=rfl
 tape:=rfl
 output:=rfl
 size:=by simp[World.setRow]
 other k hk:=by simp only[World.setRow,Array.getElem?_modify];rw[if_neg (Ne.symm hk)]
 here:=setRow_heap w b cur _ t _ h
 sz:=by simp;omega
 inn q hq:=by
  rw[Array.getD_eq_getD_getElem?,List.getElem?_toArray,List.append_assoc,List.getElem?_append_right (by simp;omega),List.getElem?_append_left (by simp;omega),List.getD_eq_getElem?_getD]
  congr 2
  simp;omega
 out q hq:=by
  rw[Array.getD_eq_getD_getElem?,List.getElem?_toArray,List.append_assoc,Array.getD_eq_getD_getElem?];rcases hq with hq | hq
  .rw[List.getElem?_append_left (by simp;omega),List.getElem?_take_of_lt hq,Array.getElem?_toList]
  rw[List.getElem?_append_right (by simp;omega),List.getElem?_append_right (by simp;omega),List.getElem?_drop,Array.getElem?_toList]
  congr 2
  simp;omega
theorem Wrote.ext{w w' :World}{b p:Nat}{t:TypeId}{cur new:Array Value}{cl:List Value}{u:Nat->Nat}(h:Wrote w w' b p t cur new cl)(hb:w.heap[b]? =some (.cells cur t (0,0)))(hu:u b=0):Ext w u w' u:=⟨Nat.le_of_eq h.size.symm,fun _ _=>Nat.le_refl _,fun k i hk hi=>by
 by_cases hkb:k=b
 .subst hkb;omega
 simp only[World.cell?];rw[h.other k hkb],fun r hr=>(h.other r (by rintro rfl;rw[hb]at hr;cases hr)).trans hr⟩
theorem vWb:∀{subs:List (Option (Nat × Nat × Nat × Nat))} {i i' :Nat} {s s' :Nat × Nat × Nat × Nat},(zsa subs).Nodup->subs[i]? =some (some s)->subs[i']? =some (some s')->i≠i' ->s.1≠s'.1
 | [],i,_,_,_,_,h,_,_=>by simp at h
 | x::l,0,0,_,_,_,_,_,hne=>absurd rfl hne
 | x::l,0,i' +1,s,s',hd,h1,h2,_=>by
  simp only[List.getElem?_cons_zero,Option.some.injEq]at h1;subst h1;simp only[kia,List.singleton_append,List.nodup_cons]at hd;rintro he;exact hd.1 (he▸v8a (by simpa using h2))
 | x::l,i+1,0,s,s',hd,h1,h2,_=>by
  simp only[List.getElem?_cons_zero,Option.some.injEq]at h2;subst h2;simp only[kia,List.singleton_append,List.nodup_cons]at hd;rintro he;exact hd.1 (he▸v8a (by simpa using h1))
 | x::l,i+1,i' +1,s,s',hd,h1,h2,hne=>by
  refine vWb (subs:=l) ?_ (by simpa using h1) (by simpa using h2) (by omega);rw[kia]at hd;exact (List.nodup_append.1 hd).2.1
theorem ZFa{vs:Array Value}(h:∀i,i < vs.size->cellV (vs.getD i undef)=true):∀u∈vs.toList,u.oneCell' =true:=by
 intro u hu;obtain ⟨i,hi,rfl⟩:=List.getElem_of_mem hu;have h0:=h i (by simpa using hi);rw[show vs.getD i undef=vs.toList[i] by simp[Array.getD,show i < vs.size by simpa using hi]]at h0;cases hcase:vs.toList[i] <;> rw[hcase]at h0 <;> first | rfl | simp[cellV]at h0
theorem yVa{P:Program}{ρv:Operand->Value}{w:World}{b p:Nat}{t t' :TypeId}{x y:Operand}{cur:Array Value}{size' bytes' :Nat}{zero' :Value}{d' :TypeDesc}{ty:TypeId}{pos:String}{af:Array Edge}{gu:Option (Nat × Bool)}
 (hx:ρv x=.pointer (some ⟨b,p,none⟩)) (ht:TyOk P t' size' bytes' zero' d') (hn:(ρv y).cells.size=size') (hc:∀i,i < (ρv y).cells.size->cellV ((ρv y).cells.getD i undef)=true) (hb:w.heap[b]? =some (.cells cur t (0,0))) (hf:p+size' <=cur.size):
 ∃w' new,(execOp ρv ⟨none,.store t' x y,ty,pos,af,gu⟩).run P w=.ok .skip w' /\Wrote w w' b p t cur new (ρv y).cells.toList:=by
 have hs:=run_storeCells_at (P:=P) b p t (ρv y).cells.toList 0 cur w hb (by simp;omega) (ZFa hc);simp only[Nat.add_zero]at hs;refine ⟨_,_,?_,JZa hb (by simp;omega)⟩;show Sem.run P (do Instr.storeAt t' (ρv x) (ρv y);pure Next.skip) w=_;rw[hx];simp only[Instr.storeAt,Instr.sureAddr,storeVar,Sem.run_bind,Sem.run_pure,Result.andThen_ok,ht.sizeOf];rw[if_neg (by rw[hn];simp)];simp only[Sem.run_bind,Sem.run_pure,Result.andThen_ok,hs]
variable {E:Env} {fr:Fr} {σ:Sto} {K:Post} {P:Program} {ρ:Operand->AV}
variable {dst:Option Tmp} {ty:TypeId} {pos:String} {af:Array Edge} {gu:Option (Nat × Bool)}
section
variable {α β:Type} {F:α->List PV} {G2:β->List PV} {l:List α} {l2:List β} {r r2 size size2 bytes sb ss k j m:Nat} {e e2 t:TypeId} {zero sz:Value} {d:TypeDesc} {x y:Operand}
variable {t' :TypeId} {size' bytes' :Nat} {zero' :Value} {d' :TypeDesc} {n:Int} {j0:Nat} {v v' :α} {c:PV}
theorem Jca{off i i' q j0 len size:Nat}(hq:q < size)(hj:j0+len<=size)(h:i' ≠i∨q < j0∨j0+len<=q):(off+i') * size+q < (off+i) * size+j0∨(off+i) * size+j0+len<=(off+i') * size+q:=by
 by_cases hi:i' =i
 .subst hi;omega
 rcases Nat.lt_or_ge i' i with h2 | h2
 .have:(off+i' +1) * size<=(off+i) * size:=Nat.mul_le_mul_right _ (by omega);rw[Nat.add_mul (off+i')]at this;omega
 have:(off+i+1) * size<=(off+i') * size:=Nat.mul_le_mul_right _ (by omega);rw[Nat.add_mul (off+i)]at this;omega
theorem w9a{pcs:List PV}(hx:fr.ev x=.np r n.toNat j0)(hr:σ.get r=some (.nrow e size j e2 size2 m (l.map F)))(hy:(fr.ev y).weak.cells=some (pcs.map .pv))(ht:TyOk E.P t' size' bytes' zero' d')(hz:Nat.beq pcs.length size' =true)
 (hv:idx l n=some v) (hle:Nat.ble (j0+pcs.length) (F v).length=true) (hj:(Nat.ble (j+1) j0 || Nat.ble (j0+pcs.length) j)=true) (hF' :F v' =(F v).take j0++pcs++(F v).drop (j0+pcs.length)):
 OpTo E ⟨none,.store t' x y,ty,pos,af,gu⟩ fr σ fr (σ.upd r (.nrow e size j e2 size2 m ((l.set n.toNat v').map F))):=
 ⟨fun g a K Q hst hK=>by
  have hle:=Nat.le_of_ble_eq_true hle;have hz:=Nat.eq_of_beq_eq_true hz;have hj:j < j0∨j0+pcs.length<=j:=by
   simp only[Bool.or_eq_true]at hj;rcases hj with hj | hj <;> have:=Nat.le_of_ble_eq_true hj <;> omega
  refine ⟨fun _ _=>trivial,?_⟩;rw[Oper.semAt_plain _ _ _ (fun c=>by simp)];have h1:=hst.ev x;rw[hx]at h1;obtain ⟨hn0,hv⟩:=kZa hv;obtain ⟨b,off,cap,cur,subs,hN⟩:=Kxa (hst.so.obj r _ hr) hv;have e1:=Yoa hN h1;obtain ⟨v1,v2,v3⟩:=w2a (qUa (hst.ev y)) hy;rw[List.length_map]at v1;have hlt:=(List.getElem?_eq_some_iff.1 hv).1;have hFz:=hN.z v (List.mem_of_getElem? hv);have hfit:(off+n.toNat) * size+j0+pcs.length<=cur.size:=by rw[hN.sz];exact WHa hlt hN.le (by omega)
  obtain ⟨w',new,hrun,hW⟩:=yVa (P:=E.P) (w:=g.w) (ty:=ty) (pos:=pos) (af:=af) (gu:=gu) e1 ht (by omega) v2 hN.heap (by omega);rw[hrun,Oper.uponIn_skip];have hcl:(a.eval y).cells.toList.length=pcs.length:=by simpa using v1
  have hxx:=hW.ext (u:=g.u) hN.heap hN.u;have hFv' :(F v').length=size:=by rw[hF'];simp;omega
  have hjl:((F v).take j0).length=j0:=by simp;omega
  have hF1:∀q,(q < j0∨j0+pcs.length<=q)->(F v')[q]? =(F v)[q]? :=by
   intro q hq;rw[hF',List.append_assoc];rcases hq with hq | hq
   .rw[List.getElem?_append_left (by omega),List.getElem?_take_of_lt hq]
   rw[List.getElem?_append_right (by omega),hjl,List.getElem?_append_right (by omega),List.getElem?_drop]
   congr 1;omega
  have hF2:∀q,q < pcs.length->(F v')[j0+q]? =pcs[q]? :=by
   intro q hq;rw[hF',List.append_assoc,List.getElem?_append_right (by omega),hjl,List.getElem?_append_left (by omega)]
   congr 1;omega
  have hkeep:∀i' q,q < size->(i' ≠n.toNat∨q < j0∨j0+pcs.length<=q)->new.getD ((off+i') * size+q) undef=cur.getD ((off+i') * size+q) undef:=fun i' q hq h=>hW.out _ (by rw[hcl];exact Jca hq (by omega) h)
  have hN' :NAt ⟨w',g.u,g.loc⟩ r e size j e2 size2 m F (l.set n.toNat v') b off cap new subs:=by
   refine ⟨by rw[List.length_set];exact hN.loc,hW.here,hW.sz.trans hN.sz,hN.max,by rw[List.length_set];exact hN.le,fun z hz' =>?_,hN.u,hN.sl,by rw[List.length_set];exact hN.ml,hN.nd,fun i' j' z c hi' hj' hc=>?_,fun i' s z hs hz' =>?_⟩
   .rcases List.mem_or_eq_of_mem_set hz' with h2 | rfl
    .exact hN.z z h2
    exact hFv'
   .by_cases hin:i' =n.toNat
    .subst hin;rw[List.getElem?_set_self hlt]at hi';cases hi';have hjs:j' < size:=by rw[<-hFv'];exact (List.getElem?_eq_some_iff.1 hj').1
     by_cases hr' :j' < j0∨j0+pcs.length<=j'
     .rw[hkeep _ j' hjs (.inr hr')];rw[hF1 j' hr']at hj';exact (hN.cell _ j' v c hv hj' hc).mono hxx
     have hq:j' - j0 < pcs.length:=by omega
     have:=hF2 (j' - j0) hq;rw[show j0+(j' - j0)=j' by omega,hj']at this;have h5:=v3 (j' - j0) (.pv c) (by simp[<-this]);cases h5 with
     | pv h5=>
      have h6:=hW.inn (j' - j0) (by omega);rw[show (off+n.toNat) * size+j0+(j' - j0)=(off+n.toNat) * size+j' by omega]at h6;rw[h6];have h7:=h5.mono hxx;simpa using h7
    rw[List.getElem?_set_ne (by omega)]at hi';have hjs:j' < size:=by rw[<-hN.z z (List.mem_of_getElem? hi')];exact (List.getElem?_eq_some_iff.1 hj').1
    rw[hkeep i' j' hjs (.inl hin)];exact (hN.cell i' j' z c hi' hj' hc).mono hxx
   obtain ⟨z0,hz0,hFz0⟩:∃z0,l[i']? =some z0/\(F z)[j]? =(F z0)[j]? :=by
    by_cases hin:i' =n.toNat
    .subst hin;rw[List.getElem?_set_self hlt]at hz';cases hz';exact ⟨v,hv,hF1 j hj⟩
    rw[List.getElem?_set_ne (by omega)]at hz';exact ⟨z,hz',rfl⟩
   obtain ⟨rows,q1,q2⟩:=hN.sub i' s z0 hs hz0;have hjs:j < size:=by rw[<-hN.z z0 (List.mem_of_getElem? hz0)];exact (List.getElem?_eq_some_iff.1 q1).1
   refine ⟨rows,hFz0.trans q1,?_⟩;rw[hkeep i' j hjs (.inr hj)];refine q2.mono hxx.to0 fun t ht=>⟨hW.other t.1 ?_,rfl⟩
   rintro rfl;subst ht;exact (List.nodup_cons.1 hN.nd).1 (v8a hs)
  exact hK ⟨w',g.u,g.loc⟩ _ (St.put_none (hst.objset hr hxx rfl hW.os hW.tape hW.output (fun k hk hne=>⟨hW.other k (by rintro rfl;exact hne (by rw[hN.loc];exact .inl rfl)),rfl⟩) (yia hst.so.wf (Nat.le_of_eq hW.size.symm) _) hN'.obj (fun _=>rfl)))⟩
theorem qaa{pcs:List PV}{n2:Int}{w2 w2' :β}(hx:fr.ev x=.hnp r n.toNat n2.toNat j0)(hr:σ.get r=some (.nrow e size j e2 size2 m (l.map F)))(hy:(fr.ev y).weak.cells=some (pcs.map .pv))(ht:TyOk E.P t' size' bytes' zero' d')(hz:Nat.beq pcs.length size' =true)
 (hv:idx l n=some v) (hF:(F v)[j]? =some (.sl none (l2.map G2))) (hv2:idx l2 n2=some w2) (hle:Nat.ble (j0+pcs.length) (G2 w2).length=true) (hG' :G2 w2' =(G2 w2).take j0++pcs++(G2 w2).drop (j0+pcs.length)) (hF' :F v' =(F v).set j (.sl none ((l2.set n2.toNat w2').map G2))):
 OpTo E ⟨none,.store t' x y,ty,pos,af,gu⟩ fr σ fr (σ.upd r (.nrow e size j e2 size2 m ((l.set n.toNat v').map F))):=
 ⟨fun g a K Q hst hK=>by
  have hle:=Nat.le_of_ble_eq_true hle;have hz:=Nat.eq_of_beq_eq_true hz;refine ⟨fun _ _=>trivial,?_⟩;rw[Oper.semAt_plain _ _ _ (fun c=>by simp)];have h1:=hst.ev x;rw[hx]at h1;obtain ⟨hn0,hv⟩:=kZa hv;obtain ⟨hn20,hv2⟩:=kZa hv2;obtain ⟨b,off,cap,cur,subs,hN⟩:=Kxa (hst.so.obj r _ hr) hv;obtain ⟨s,val,hss,hR,hval,hk,e1⟩:=hnp_val hN hv hF h1;obtain ⟨vs2,b1,b2,b3⟩:=hR.blk;obtain ⟨v1,v2,v3⟩:=w2a (qUa (hst.ev y)) hy;rw[List.length_map]at v1;have hlt:=(List.getElem?_eq_some_iff.1 hv).1;have hFz:=hN.z v (List.mem_of_getElem? hv);have hGz:=hR.z _ (List.mem_map_of_mem (List.mem_of_getElem? hv2));have hu2:=hR.hmu rfl;have hRn:=hR.n;rw[List.length_map]at hRn;have hfit:(s.2.1+n2.toNat) * size2+j0+pcs.length<=vs2.size:=by rw[b2];exact WHa (n:=l2.length) hk (by have:=hR.le;omega) (by omega)
  obtain ⟨w',new,hrun,hW⟩:=yVa (P:=E.P) (w:=g.w) (ty:=ty) (pos:=pos) (af:=af) (gu:=gu) e1 ht (by omega) v2 b1 (by omega);rw[hrun,Oper.uponIn_skip];have hcl:(a.eval y).cells.toList.length=pcs.length:=by simpa using v1
  have hxx:=hW.ext (u:=g.u) b1 hu2;have hG2:(G2 w2').length=size2:=by rw[hG'];simp;omega
  have hjl:((G2 w2).take j0).length=j0:=by simp;omega
  have hsb:s.1≠b:=by rintro rfl;exact (List.nodup_cons.1 hN.nd).1 (v8a hss)
  have hF1:∀q,q≠j->(F v')[q]? =(F v)[q]? :=fun q hq=>by rw[hF',List.getElem?_set_ne (Ne.symm hq)]
  have hjs:j < (F v).length:=(List.getElem?_eq_some_iff.1 hF).1;have hFj:(F v')[j]? =some (.sl none ((l2.set n2.toNat w2').map G2)):=by rw[hF',List.getElem?_set_self hjs]
  have hFv' :(F v').length=size:=by rw[hF',List.length_set,hFz]
  have hR' :yKa w' g.u e2 true size2 ((l2.set n2.toNat w2').map G2) s val:=by
   refine ⟨hR.val,by simp[hRn],hR.pos,⟨new,hW.here,hW.sz.trans b2,fun i' j' z c hi' hj' =>?_⟩,hR.cap,hR.le,fun z hz' =>?_,hR.hu,hR.hmu⟩
   .simp only[List.getElem?_map,Option.map_eq_some_iff]at hi';obtain ⟨z,hi',rfl⟩:=hi';by_cases hin:i' =n2.toNat
    .subst hin;rw[List.getElem?_set_self hk]at hi';cases hi';have hjs' :j' < size2:=by rw[<-hG2];exact (List.getElem?_eq_some_iff.1 hj').1
     by_cases hr' :j' < j0∨j0+pcs.length<=j'
     .rw[hW.out _ (by rw[hcl];exact Jca hjs' (by omega) (.inr hr'))];have hj2:(G2 w2)[j']? =some c:=by
       rw[<-hj',hG',List.append_assoc];rcases hr' with hq | hq
       .rw[List.getElem?_append_left (by omega),List.getElem?_take_of_lt hq]
       rw[List.getElem?_append_right (by omega),hjl,List.getElem?_append_right (by omega),List.getElem?_drop]
       congr 1;omega
      exact (b3 _ j' _ c (by simp[hv2]) hj2).mono hxx
     have hq:j' - j0 < pcs.length:=by omega
     have hj2:pcs[j' - j0]? =some c:=by
      rw[<-hj',hG',List.append_assoc,List.getElem?_append_right (by omega),hjl,List.getElem?_append_left (by omega)]
     have h5:=v3 (j' - j0) (.pv c) (by simp[hj2]);cases h5 with
     | pv h5=>
      have h6:=hW.inn (j' - j0) (by omega);rw[show (s.2.1+n2.toNat) * size2+j0+(j' - j0)=(s.2.1+n2.toNat) * size2+j' by omega]at h6;rw[h6];have h7:=h5.mono hxx;simpa using h7
    rw[List.getElem?_set_ne (by omega)]at hi';have hzz:=hR.z _ (List.mem_map_of_mem (List.mem_of_getElem? hi'));have hjs' :j' < size2:=by rw[<-hzz];exact (List.getElem?_eq_some_iff.1 hj').1
    rw[hW.out _ (by rw[hcl];exact Jca hjs' (by omega) (.inl hin))];exact (b3 i' j' _ c (by simp[hi']) hj').mono hxx
   obtain ⟨z0,hz0,rfl⟩:=List.mem_map.1 hz';rcases List.mem_or_eq_of_mem_set hz0 with h2 | rfl
   .exact hR.z _ (List.mem_map_of_mem h2)
   exact hG2
  have hN' :NAt ⟨w',g.u,g.loc⟩ r e size j e2 size2 m F (l.set n.toNat v') b off cap cur subs:=by
   refine ⟨by rw[List.length_set];exact hN.loc,(hW.other b (Ne.symm hsb)).trans hN.heap,hN.sz,hN.max,by rw[List.length_set];exact hN.le,fun z hz' =>?_,hN.u,hN.sl,by rw[List.length_set];exact hN.ml,hN.nd,fun i' j' z c hi' hj' hc=>?_,fun i' s' z hs hz' =>?_⟩
   .rcases List.mem_or_eq_of_mem_set hz' with h2 | rfl
    .exact hN.z z h2
    exact hFv'
   .by_cases hin:i' =n.toNat
    .subst hin;rw[List.getElem?_set_self hlt]at hi';cases hi';have him:n.toNat < m:=by have:=(List.getElem?_eq_some_iff.1 hss).1;have:=hN.sl;omega
     have hjj:j' ≠j:=by
      rcases hc with hc | hc; · omega
      exact hc
     rw[hF1 j' hjj]at hj';exact (hN.cell _ j' v c hv hj' hc).mono hxx
    rw[List.getElem?_set_ne (by omega)]at hi';exact (hN.cell i' j' z c hi' hj' hc).mono hxx
   by_cases hin:i' =n.toNat
   .subst hin;rw[List.getElem?_set_self hlt]at hz';cases hz';rw[hss]at hs;cases hs;exact ⟨_,hFj,by rw[hval];exact hR'⟩
   rw[List.getElem?_set_ne (by omega)]at hz';obtain ⟨rows,q1,q2⟩:=hN.sub i' s' z hs hz';refine ⟨rows,q1,q2.mono hxx.to0 fun t ht=>⟨hW.other t.1 ?_,rfl⟩⟩;subst ht;exact vWb (List.nodup_cons.1 hN.nd).2 hs hss hin
  exact hK ⟨w',g.u,g.loc⟩ _ (St.put_none (hst.objset hr hxx rfl hW.os hW.tape hW.output (fun k hk hne=>⟨hW.other k (by rintro rfl;exact hne (by rw[hN.loc];exact .inr (v8a hss))),rfl⟩) (yia hst.so.wf (Nat.le_of_eq hW.size.symm) _) hN'.obj (fun _=>rfl)))⟩
end
end
section
open Go.RowKit Go.Lib Go.Proofs.Tryz
def WLa(l l' :Loc):Prop:=l' =l∨(∃b off cap size n size2 subs more,l=.nest b off cap size n size2 subs/\l' =.nest b off cap size n size2 (subs++more))∨∃b subs subs',l=.mapr b subs/\l' =.mapr b subs'
theorem WLa.plain{l l' :Loc}(h:WLa l l')(hn:∀b off cap size n size2 subs,l≠ .nest b off cap size n size2 subs/\l≠ .mapr b subs):l' =l:=by
 rcases h with h | ⟨b,off,cap,size,n,size2,subs,more,h,_⟩ | ⟨b,subs,subs',h,_⟩
 .exact h
 .exact absurd h (hn _ _ _ _ _ _ _).1
 exact absurd h (hn b 0 0 0 0 0 subs).2
theorem WLa.mapr{l' :Loc}{b:Nat}{subs:List (Option (Nat × Nat × Nat × Nat))}(h:WLa (.mapr b subs) l'):∃subs',l' =.mapr b subs' :=by
 rcases h with h | ⟨b',off',cap',size',n',size2',subs',more,h,h2⟩ | ⟨b',s1,s2,h,h2⟩
 .exact ⟨_,h⟩
 .cases h
 cases h;exact ⟨_,h2⟩
theorem WLa.nest{l' :Loc}{b off cap size n size2:Nat}{subs:List (Option (Nat × Nat × Nat × Nat))}(h:WLa (.nest b off cap size n size2 subs) l'):∃more,l' =.nest b off cap size n size2 (subs++more):=by
 rcases h with h | ⟨b',off',cap',size',n',size2',subs',more,h,h2⟩ | ⟨b',s1,s2,h,h2⟩
 .exact ⟨[],by rw[List.append_nil];exact h⟩
 .cases h;exact ⟨more,h2⟩
 cases h
theorem Jda{α:Type}{l more:List α}{i:Nat}{x:α}(h:l[i]? =some x):(l++more)[i]? =some x:=by
 rw[List.getElem?_append_left (List.getElem?_eq_some_iff.1 h).1];exact h
theorem Rel.more{g g' :G}(hx:Ext g.w g.u g'.w g'.u){c:AV}{v:Value}(h:Rel g c v):(∀o,c.has o=true->WLa (g.loc o) (g'.loc o))->Rel g' c v:=by
 have hx0:=hx.to0;induction h with
 | any v=>exact fun _=>.any v
 | pv h=>exact fun _=>.pv (h.mono0 hx0)
 | @agg cs vs hl hc h ih=>exact fun hh=>.agg hl hc (fun i c hi=>ih i c hi fun o ho=>hh o (by unfold AV.has;exact AV.hasL_of hi ho))
 | @tup cs vs hl h ih=>exact fun hh=>.tup hl (fun i c hi=>ih i c hi fun o ho=>hh o (by unfold AV.has;exact AV.hasL_of hi ho))
 | @ptr o off b hl=>exact fun hh=>.ptr (by have:=hh o (by simp[AV.has]);rw[hl]at this;exact this.plain (by intros;simp))
 | @ep cells b off val hu hb hcell h=>exact fun hh=>Rel.mono hx (.ep val hu hb hcell h) (fun o ho=>by cases ho)
 | @hsNil r a hl=>exact fun hh=>.hsNil a (by have:=hh r (by simp[AV.has]);rw[hl]at this;exact this.plain (by intros;simp))
 | @hs r b off cap size n a hl ha=>exact fun hh=>.hs (by have:=hh r (by simp[AV.has]);rw[hl]at this;exact this.plain (by intros;simp)) ha
 | @hp r idx j b off cap size n hl hi=>exact fun hh=>.hp (by have:=hh r (by simp[AV.has]);rw[hl]at this;exact this.plain (by intros;simp)) hi
 | @fn f first captured fv cv h1 h2 hf hc ihf ihc=>
  exact fun hh=>.fn h1 h2 (fun i c hi=>ihf i c hi fun o ho=>hh o (by simp[AV.has,AV.hasL_of hi ho])) (fun i c hi=>ihc i c hi fun o ho=>hh o (by simp[AV.has,AV.hasL_of hi ho]))
 | @mp o b hl=>exact fun hh=>.mp (by have:=hh o (by simp[AV.has]);rw[hl]at this;exact this.plain (by intros;simp))
 | @hsubNil r lo a hl=>exact fun hh=>.hsubNil a (by have:=hh r (by simp[AV.has]);rw[hl]at this;exact this.plain (by intros;simp))
 | @hsub r lo b off cap size n a hl hle ha=>exact fun hh=>.hsub (by have:=hh r (by simp[AV.has]);rw[hl]at this;exact this.plain (by intros;simp)) hle ha
 | z0 a=>exact fun _=>.z0 a
 | ifc h=>exact fun _=>.ifc h
 | @hpreNil r a hl=>exact fun hh=>.hpreNil a (by have:=hh r (by simp[AV.has]);rw[hl]at this;exact this.plain (by intros;simp))
 | @hpre r hi b off cap size n a hl hle ha=>exact fun hh=>.hpre (by have:=hh r (by simp[AV.has]);rw[hl]at this;exact this.plain (by intros;simp)) hle ha
 | @nsNil r a hl=>exact fun hh=>.nsNil a (by have:=hh r (by simp[AV.has]);rw[hl]at this;exact this.plain (by intros;simp))
 | @ns r b off cap size n size2 subs a hl ha=>exact fun hh=>by have:=hh r (by simp[AV.has]);rw[hl]at this;obtain ⟨more,h2⟩:=this.nest;exact .ns h2 ha
 | @np r idx j b off cap size n size2 subs hl hi=>exact fun hh=>by have:=hh r (by simp[AV.has]);rw[hl]at this;obtain ⟨more,h2⟩:=this.nest;exact .np h2 hi
 | @hnNil r idx b off cap size n size2 subs a cap2 hl hs=>exact fun hh=>by have:=hh r (by simp[AV.has]);rw[hl]at this;obtain ⟨more,h2⟩:=this.nest;exact .hnNil a cap2 h2 (Jda hs)
 | @hn r idx b off cap size n size2 b2 off2 cap2 n2 subs hl hs=>exact fun hh=>by have:=hh r (by simp[AV.has]);rw[hl]at this;obtain ⟨more,h2⟩:=this.nest;exact .hn h2 (Jda hs)
 | @hnp r idx k j b off cap size n size2 b2 off2 cap2 n2 subs hl hs hk=>exact fun hh=>by have:=hh r (by simp[AV.has]);rw[hl]at this;obtain ⟨more,h2⟩:=this.nest;exact .hnp h2 (Jda hs) hk
 | nn h=>exact fun _=>.nn h
 | @ls o b hl=>exact fun hh=>.ls (by have:=hh o (by simp[AV.has]);rw[hl]at this;exact this.plain (by intros;simp))
 | @mr o b subs hl=>exact fun hh=>by have:=hh o (by simp[AV.has]);rw[hl]at this;obtain ⟨s,h2⟩:=this.mapr;exact .mr h2
theorem Vla{g g' :G}{r r2:Nat}(hx:Ext g.w g.u g'.w g'.u)(hl:∀k,k≠r->g'.loc k=g.loc k)(hr:WLa (g.loc r) (g'.loc r)){c:AV}{v:Value}(h:Rel g c v):Rel g' (c.clr r2) v:=by
 unfold AV.clr;cases hc:c.has r2 with
 | true=>exact .any _
 | false=>
  refine h.more hx fun o ho=>?_
  by_cases hor:o=r
  .subst hor;exact hr
  exact .inl (hl o hor)
variable {E:Env} {fr:Fr} {σ:Sto} {K:Post} {P:Program} {ρ:Operand->AV}
variable {dst:Option Tmp} {ty:TypeId} {pos:String} {af:Array Edge} {gu:Option (Nat × Bool)}
section
variable {α β:Type} {F:α->List PV} {G2:β->List PV} {l:List α} {l2:List β} {r r2 size size2 bytes sb ss k j m:Nat} {e e2 t:TypeId} {zero sz:Value} {d:TypeDesc} {x y:Operand}
variable {t' :TypeId} {size' bytes' :Nat} {zero' :Value} {d' :TypeDesc} {n:Int} {j0:Nat} {v v' :α} {c:PV}
theorem Ypa{g:G}{vx:Value}(hob:RelO g r2 (.row e2 true size2 (l2.map G2)))(hx:Rel g (.hs r2 0) vx):
 ∃s,K5a g.w g.u e2 size2 (l2.map G2) s vx/\∀t,s=some t->(AO.row e2 true size2 (l2.map G2)).own (g.loc r2) t.1:=by
 generalize hls:l2.map G2=ls at hob;cases hob with
 | nil hl=>
  cases hx with
  | hsNil a h1=>exact ⟨none,⟨rfl,a,0,rfl,fun _=>rfl⟩,fun t ht=>by cases ht⟩
  | hs h1=>rw[hl]at h1;cases h1
 | @row _ _ _ _ b off cap vs h1 h2 h3 h4 h5 h6 h7 h8 h9=>
  cases hx with
  | hsNil a hl=>rw[h1]at hl;cases hl
  | @hs _ _ _ _ _ _ ad hl ha=>
   rw[h1]at hl;cases hl;rcases Nat.eq_zero_or_pos ls.length with h0 | h0
   .refine ⟨none,⟨List.eq_nil_of_length_eq_zero h0,some ad,cap,by rw[h0],fun hx=>by cases hx⟩,fun t ht=>by cases ht⟩
   have:=ha (by omega);subst this;exact ⟨some (b,off,cap,ls.length),⟨rfl,rfl,h0,⟨vs,h2,h3,h9⟩,h4,h5,h6,h7,fun _=>h8 rfl⟩,fun t ht=>by cases ht;rw[h1];rfl⟩
theorem qFb(hx:fr.ev x=.np r n.toNat j0)(hr:σ.get r=some (.nrow e size j e2 size2 m (l.map F)))(hy:fr.ev y=.hs r2 0)(hr2:σ.get r2=some (.row e2 true size2 (l2.map G2)))(hne:Nat.beq r r2=false)(ht:TyOk E.P t' 1 bytes' zero' d')
 (hj:Nat.beq j0 j=true) (hv:idx l n=some v) (hm:n.toNat=m) (hjs:Nat.ble (j+1) (F v).length=true) (hF' :F v' =(F v).set j (.sl none (l2.map G2))):
 OpTo E ⟨none,.store t' x y,ty,pos,af,gu⟩ fr σ (fr.mp (AV.clr r2)) (((σ.dels [r2]).mp (AV.clr r2)).upd r (.nrow e size j e2 size2 (m+1) ((l.set n.toNat v').map F))):=
 ⟨fun g a K Q hst hK=>by
  obtain rfl:=Nat.eq_of_beq_eq_true hj;have hjs:=Nat.le_of_ble_eq_true hjs;have hne:r≠r2:=by rintro rfl;simp at hne
  refine ⟨fun _ _=>trivial,?_⟩;rw[Oper.semAt_plain _ _ _ (fun c=>by simp)];have h1:=hst.ev x;rw[hx]at h1;have h2:=hst.ev y;rw[hy]at h2;obtain ⟨hn0,hv⟩:=kZa hv;have hob:=hst.so.obj r _ hr;obtain ⟨b,off,cap,cur,subs,hN⟩:=Kxa hob hv;have e1:=Yoa hN h1;obtain ⟨s,hS,hSown⟩:=Ypa (hst.so.obj r2 _ hr2) h2;have hlt:=(List.getElem?_eq_some_iff.1 hv).1;have hFz:=hN.z v (List.mem_of_getElem? hv);have hcell:=JYa hS;have hcells:(a.eval y).cells= #[a.eval y]:=by cases hc:a.eval y <;> rw[hc]at hcell <;> first | rfl | cases hcell
  obtain ⟨w',new,hrun,hW⟩:=yVa (P:=E.P) (w:=g.w) (t:=e) (cur:=cur) (ty:=ty) (pos:=pos) (af:=af) (gu:=gu) (y:=y) e1 ht (by rw[hcells];rfl) (by rw[hcells];intro i hi;simp at hi;subst hi;exact hcell) hN.heap (by have:=hN.place hlt (by omega:j0 < size);omega);rw[hcells]at hW;rw[hrun,Oper.uponIn_skip];have hxx:=hW.ext (u:=g.u) hN.heap hN.u;have hFv' :(F v').length=size:=by rw[hF',List.length_set,hFz]
  have hFj:(F v')[j0]? =some (.sl none (l2.map G2)):=by rw[hF',List.getElem?_set_self (by omega)]
  have hF1:∀q,q≠j0->(F v')[q]? =(F v)[q]? :=fun q hq=>by rw[hF',List.getElem?_set_ne (Ne.symm hq)]
  have hkeep:∀i' q,q < size->(i' ≠n.toNat∨q≠j0)->new.getD ((off+i') * size+q) undef=cur.getD ((off+i') * size+q) undef:=fun i' q hq h=>hW.out _ (Jca (len:=1) hq (by omega) (by omega))
  have hnew:new.getD ((off+n.toNat) * size+j0) undef=a.eval y:=by
   have:=hW.inn 0 (by simp);simpa using this
  let g' :G:=⟨w',g.u,fun k=>if k=r then .nest b off cap size l.length size2 (subs++ [s]) else g.loc k⟩;have hl' :g'.loc r=.nest b off cap size l.length size2 (subs++ [s]):=if_pos rfl;have hk' :∀k,k≠r->g'.loc k=g.loc k:=fun k hk=>if_neg hk
  have hbn:∀t,s=some t->t.1≠b:=by
   rintro t ht rfl;exact hne (hst.so.apart r r2 _ _ t.1 hr hr2 (by rw[hN.loc];exact .inl rfl) (hSown t ht))
  have hS' :K5a w' g.u e2 size2 (l2.map G2) s (a.eval y):=hS.mono hxx.to0 fun t ht=>⟨hW.other t.1 (hbn t ht),rfl⟩
  have hN' :NAt g' r e size j0 e2 size2 (m+1) F (l.set n.toNat v') b off cap new (subs++ [s]):=by
   refine ⟨by rw[List.length_set];exact hl',hW.here,hW.sz.trans hN.sz,hN.max,by rw[List.length_set];exact hN.le,fun z hz' =>?_,hN.u,by rw[List.length_append,hN.sl];rfl,by rw[List.length_set];omega,?_,fun i' j' z c hi' hj' hc=>?_,fun i' s' z hs hz' =>?_⟩
   .rcases List.mem_or_eq_of_mem_set hz' with h2 | rfl
    .exact hN.z z h2
    exact hFv'
   .rw[k4a];have hnd:=hN.nd;cases hs:s with
    | none=>simpa[zsa]using hnd
    | some t=>
     have htb:=hbn t hs;have hnin:t.1 ∉ zsa subs:=fun hin=>hne (hst.so.apart r r2 _ _ t.1 hr hr2 (by rw[hN.loc];exact .inr hin) (hSown t hs))
     rw[show zsa [some t]=[t.1] from rfl,<-List.cons_append];rw[List.nodup_append];refine ⟨hnd,by simp,fun q hq q' hq' =>?_⟩;simp only[List.mem_singleton]at hq';subst hq';rintro rfl;rcases List.mem_cons.1 hq with h3 | h3
     .exact htb h3
     exact hnin h3
   .by_cases hin:i' =n.toNat
    .subst hin;rw[List.getElem?_set_self hlt]at hi';cases hi';have hjj:j' ≠j0:=by omega
     have hjs' :j' < size:=by rw[<-hFv'];exact (List.getElem?_eq_some_iff.1 hj').1
     rw[hkeep _ j' hjs' (.inr hjj)];rw[hF1 j' hjj]at hj';exact (hN.cell _ j' v c hv hj' (.inr hjj)).mono hxx
    rw[List.getElem?_set_ne (by omega)]at hi';have hjs' :j' < size:=by rw[<-hN.z z (List.mem_of_getElem? hi')];exact (List.getElem?_eq_some_iff.1 hj').1
    rw[hkeep i' j' hjs' (.inl hin)];exact (hN.cell i' j' z c hi' hj' (by omega)).mono hxx
   by_cases hin:i' =n.toNat
   .subst hin;rw[List.getElem?_set_self hlt]at hz';cases hz';rw[List.getElem?_append_right (by rw[hN.sl];omega),hN.sl,hm,Nat.sub_self]at hs;simp only[List.getElem?_cons_zero,Option.some.injEq]at hs;subst hs;exact ⟨_,hFj,by rw[hnew];exact hS'⟩
   rw[List.getElem?_set_ne (by omega)]at hz';have hil:i' < subs.length:=by
    have:=(List.getElem?_eq_some_iff.1 hs).1;simp only[List.length_append,List.length_singleton]at this;have:=hN.sl;omega
   rw[List.getElem?_append_left hil]at hs;obtain ⟨rows,q1,q2⟩:=hN.sub i' s' z hs hz';refine ⟨rows,q1,?_⟩;rw[hkeep i' j0 (by omega) (.inl hin)];refine q2.mono hxx.to0 fun t ht=>⟨hW.other t.1 ?_,rfl⟩
   rintro rfl;subst ht;exact (List.nodup_cons.1 hN.nd).1 (v8a hs)
  have hle:WLa (g.loc r) (g'.loc r):=.inr <| .inl ⟨b,off,cap,size,l.length,size2,subs,[s],hN.loc,hl'⟩;refine hK g' _ (St.put_none (hst.turn (g' :=g') hr [r2] (by simpa using hne) (AV.clr r2) rfl (fun c v h=>Vla hxx hk' hle h) hxx hk' hW.os hW.tape hW.output (fun q hq hno=>⟨hW.other q ?_,rfl⟩) (yia hst.so.wf (Nat.le_of_eq hW.size.symm) _) hN'.obj (fun q hq=>.inl ?_)))
  .rintro rfl;exact hno r _ (.inl rfl) hr (by rw[hN.loc];exact .inl rfl)
  rw[hl']at hq;rcases hq with hq | hq
  .exact ⟨r,_,.inl rfl,hr,by rw[hN.loc];exact .inl hq⟩
  have hq:q∈zsa (subs++ [s]):=hq;rw[k4a]at hq;rcases List.mem_append.1 hq with hq | hq
  .exact ⟨r,_,.inl rfl,hr,by rw[hN.loc];exact .inr hq⟩
  cases hs:s with
  | none=>rw[hs]at hq;cases hq
  | some t=>
   rw[hs,show zsa [some t]=[t.1] from rfl,List.mem_singleton]at hq;subst hq;exact ⟨r2,_,.inr (by simp),hr2,hSown t hs⟩⟩
end
end
section
open Go.RowKit Go.Lib Go.Proofs.Tryz
def nall(m n:Nat):Option Bool:=if m=n then some true else none
theorem Qia{m n:Nat}{r:Bool}(h:nall m n=some r):m=n:=by
 unfold nall at h;split at h
 .assumption
 cases h
variable {E:Env} {fr:Fr} {σ:Sto} {K:Post} {P:Program} {ρ:Operand->AV}
variable {dst:Option Tmp} {ty:TypeId} {pos:String} {af:Array Edge} {gu:Option (Nat × Bool)}
section
variable {α β:Type} {F:α->List PV} {G2:β->List PV} {l r' :List α} {l2:List β} {r r2 o size size2 bytes sb ss k j m lim:Nat} {e e2 t:TypeId} {zero sz:Value} {d:TypeDesc} {x y:Operand} {v:α} {cs:List AV}
theorem Qja(o:Nat)(hN:Nat.ble (k+1) E.N=true)(hfo:fr.has o=false)(hso:σ.has o=false)(ht:TyOk E.P t ss sb sz (.slice e))(he:TyOk E.P e size bytes zero d)(hzs:(Nat.beq zero.cells.size size && Nat.ble 1 size && zero.cells.toList.all cellV && Nat.ble size 16777216)=true)
 (hc:YZa (fun i=>some (i * size,size)) (List.replicate size .any) [(0,(fr.ev y).weak)]=some cs) (hcs:AV.hasL o cs=false):
 OpTo E ⟨some k,.buildSlice t 1 #[(0,y)],ty,pos,af,gu⟩ fr σ ((k,.ls o)::fr) ((o,.cells cs)::σ):=
 ⟨fun g a K Q hst hK=>by
  simp only[Bool.and_eq_true]at hzs;have hz1:=Nat.eq_of_beq_eq_true hzs.1.1.1;have hz2:=Nat.le_of_ble_eq_true hzs.1.1.2;have hz4:=Nat.le_of_ble_eq_true hzs.2;refine ⟨fun _ _=>trivial,?_⟩;rw[Oper.semAt_plain _ _ _ (fun c=>by simp)];generalize harr:((Array.range (1 * size)).map (fun i=>zero.cells[i % zero.cells.size]!))=arr;have hasz:arr.size=size:=by rw[<-harr];simp
  have hacell:∀i,i < arr.size->cellV (arr.getD i undef)=true:=by
   intro i hi;rw[hasz]at hi;have hlt:i % zero.cells.size < zero.cells.size:=Nat.mod_lt _ (by omega);have:arr.getD i undef=zero.cells[i % zero.cells.size]:=by
    rw[<-harr];simp[hi,hlt]
   rw[this];have h3:=hzs.1.2;rw[List.all_eq_true]at h3;exact h3 _ (by simp)
  obtain ⟨out,h1,h2⟩:=Y0a (g:=g) [(0,(fr.ev y).weak)] [(0,a.eval y)] (List.replicate size .any) arr cs
   ⟨by simp[hasz],hacell,fun i c hi=>by
    have:=List.mem_of_getElem? hi;rw[List.mem_replicate]at this;rw[this.2];exact .any _⟩ (by simp) (fun i p v hp hv=>by
   cases i with
   | zero=>simp at hp hv;subst hp;subst hv;exact ⟨rfl,qUa (hst.ev y)⟩
   | succ i=>simp at hp) hc
  have hrun:(execOp a.eval ⟨some k,.buildSlice t 1 #[(0,y)],ty,pos,af,gu⟩).run E.P g.w=.ok (.value (.slice (some ⟨g.w.heap.size,0,none⟩) 1 1)) (g.w.alloc (.cells out e)):=by
   show Sem.run E.P (do let v <-Instr.buildSlice t 1 ((#[(0,y)]:Array (Nat × Operand)).map fun (i,x)=>(i,a.eval x));pure (Next.value v)) g.w=_;have e1:((#[(0,y)]:Array (Nat × Operand)).map fun (x:Nat × Operand)=>(x.1,a.eval x.2)).toList=[(0,a.eval y)]:=by simp
   have hgt:¬(1 * size > 2 ^ 24):=by simp;omega
   have h0:¬(1 * size=0):=by omega
   simp only[Instr.buildSlice,underlying,program,Sem.run_bind,Sem.run,ht.u,he.sizeOf,Result.andThen_ok,Sem.run_pure,if_neg hgt,if_neg h0,he.zeroValue,e1,harr,h1];rfl
  rw[hrun,Oper.uponIn_value];have hst' :=hst.box o hfo hso e h2.n h2.c h2.r hcs;exact hK _ _ (hst'.put (Nat.le_of_ble_eq_true hN) (.ls (if_pos rfl)))⟩
theorem V9a{g:G}{a:Act}{subs:List (Option (Nat × Nat × Nat × Nat))}{s:Option (Nat × Nat × Nat × Nat)}{w' :World}{b' off' cap' :Nat}{nw:Array Value}(hst:St E g a fr σ)(hr:σ.get r=some (.nrow e size j e2 size2 l.length (l.map F)))(hr2:σ.get r2=some (.row e2 true size2 (l2.map G2)))(ho:σ.get o=some (.cells cs))(hne2:r≠r2)(hneo:r≠o)
 (hsub0:(g.loc r=.nilRow/\l=[]/\subs=[])∨∃b off cap n,g.loc r=.nest b off cap size n size2 subs)
 (hsl:subs.length=l.length) (hz:∀x∈l,(F x).length=size) (hFz:(F v).length=size) (hFj:(F v)[j]? =some (.sl none (l2.map G2)))
 (hos:w'.os=g.w.os) (htape:w'.tape=g.w.tape) (hout:w'.output=g.w.output) (hx:Ext g.w g.u w' g.u)
 (hheap:w'.heap[b']? =some (.cells nw e (0,0))) (hother:∀q,q < g.w.heap.size->q≠b' ->w'.heap[q]? =g.w.heap[q]?) (hb' :(AO.nrow e size j e2 size2 l.length (l.map F)).own (g.loc r) b' /\b' ∉ zsa subs∨g.w.heap.size<=b') (hu:g.u b' =0)
 (hnsz:nw.size=(off' +cap') * size) (hcap:cap' <=maxLen) (hle:l.length+1<=cap') (hwfs:g.w.heap.size<=w'.heap.size)
 (hold:∀i j' x c,l[i]? =some x->(F x)[j']? =some c->(l.length<=i∨j' ≠j)->RelP g.w g.u c (nw.getD ((off' +i) * size+j') undef))
 (holds:∀i s x,subs[i]? =some s->l[i]? =some x->∃rows,(F x)[j]? =some (.sl none rows)/\K5a g.w g.u e2 size2 rows s (nw.getD ((off' +i) * size+j) undef))
 (hnew:∀j' c,(F v)[j']? =some c->j' ≠j->RelP g.w g.u c (nw.getD ((off' +l.length) * size+j') undef))
 (hnews:K5a g.w g.u e2 size2 (l2.map G2) s (nw.getD ((off' +l.length) * size+j) undef)) (hsown:∀t,s=some t->(AO.row e2 true size2 (l2.map G2)).own (g.loc r2) t.1) (hnd:(zsa subs).Nodup):
 St E ⟨w',g.u,fun q=>if q=r then .nest b' off' cap' size (l++ [v]).length size2 (subs++ [s]) else g.loc q⟩ a (fr.mp (AV.clrs [r,r2,o])) (((σ.dels [r2,o]).mp (AV.clrs [r,r2,o])).upd r (.nrow e size j e2 size2 (l.length+1) ((l++ [v]).map F))):=by
 let g' :G:=⟨w',g.u,fun q=>if q=r then .nest b' off' cap' size (l++ [v]).length size2 (subs++ [s]) else g.loc q⟩;have hl' :g'.loc r=.nest b' off' cap' size (l++ [v]).length size2 (subs++ [s]):=if_pos rfl;have hk' :∀q,q≠r->g'.loc q=g.loc q:=fun q hq=>if_neg hq
 have hsubown:∀q,q∈zsa subs->(AO.nrow e size j e2 size2 l.length (l.map F)).own (g.loc r) q:=by
  intro q hq;rcases hsub0 with ⟨_,_,rfl⟩ | ⟨b,off,cap,n,h⟩
  .cases hq
  rw[h];exact .inr hq
 have hlt:∀q,(AO.nrow e size j e2 size2 l.length (l.map F)).own (g.loc r) q->q < g.w.heap.size:=fun q hq=>(hst.so.obj r _ hr).block_lt hq
 have hlt2:∀q,(AO.row e2 true size2 (l2.map G2)).own (g.loc r2) q->q < g.w.heap.size:=fun q hq=>(hst.so.obj r2 _ hr2).block_lt hq
 have hdis:∀q,(AO.nrow e size j e2 size2 l.length (l.map F)).own (g.loc r) q->¬(AO.row e2 true size2 (l2.map G2)).own (g.loc r2) q:=fun q h1 h2=>hne2 (hst.so.apart r r2 _ _ q hr hr2 h1 h2)
 have hb'sub:b' ∉ zsa subs:=by
  rcases hb' with h | h
  .exact h.2
  intro hin;have:=hlt _ (hsubown _ hin);omega
 have hb's:∀t,s=some t->t.1≠b' :=by
  rintro t ht rfl;rcases hb' with h | h
  .exact hdis _ h.1 (hsown t ht)
  have:=hlt2 _ (hsown t ht);omega
 have hN' :NAt g' r e size j e2 size2 (l.length+1) F (l++ [v]) b' off' cap' nw (subs++ [s]):=by
  refine ⟨hl',hheap,hnsz,hcap,by simpa using hle,fun z hz' =>?_,hu,by simp[hsl],by simp,?_,fun i' j' z c hi' hj' hc=>?_,fun i' s' z hs hz' =>?_⟩
  .rcases List.mem_append.1 hz' with h | h
   .exact hz z h
   simp only[List.mem_singleton]at h;rw[h];exact hFz
  .rw[k4a];cases hs:s with
   | none=>rw[show zsa [none]=[] from rfl,List.append_nil];exact List.nodup_cons.2 ⟨hb'sub,hnd⟩
   | some t=>
    rw[show zsa [some t]=[t.1] from rfl,List.nodup_cons,List.nodup_append];refine ⟨fun hin=>?_,hnd,by simp,fun q hq q' hq' =>?_⟩
    .rcases List.mem_append.1 hin with h | h
     .exact hb'sub h
     simp only[List.mem_singleton]at h;exact hb's t hs h.symm
    simp only[List.mem_singleton]at hq';subst hq';rintro rfl;exact hdis _ (hsubown _ hq) (hsown t hs)
  .rcases Nat.lt_or_ge i' l.length with h | h
   .rw[List.getElem?_append_left h]at hi';exact (hold i' j' z c hi' hj' (by omega)).mono hx
   rw[List.getElem?_append_right h]at hi';have:i' =l.length:=by have:=(List.getElem?_eq_some_iff.1 hi').1;simp at this;omega
   subst this;rw[Nat.sub_self]at hi';cases hi';exact (hnew j' c hj' (by omega)).mono hx
  have hsame:∀t,s' =some t->t.1 < g.w.heap.size->t.1≠b' ->w'.heap[t.1]? =g.w.heap[t.1]? /\g.u t.1=g.u t.1:=fun t _ h1 h2=>⟨hother t.1 h1 h2,rfl⟩
  rcases Nat.lt_or_ge i' l.length with h | h
  .rw[List.getElem?_append_left h]at hz';rw[List.getElem?_append_left (by omega)]at hs;obtain ⟨rows,q1,q2⟩:=holds i' s' z hs hz';refine ⟨rows,q1,q2.mono hx.to0 fun t ht=>hsame t ht ?_ ?_⟩
   .subst ht;exact hlt _ (hsubown _ (v8a hs))
   subst ht;rintro rfl;exact hb'sub (v8a hs)
  rw[List.getElem?_append_right h]at hz';have:i' =l.length:=by have:=(List.getElem?_eq_some_iff.1 hz').1;simp at this;omega
  subst this;rw[Nat.sub_self]at hz';cases hz';rw[List.getElem?_append_right (by omega),hsl,Nat.sub_self]at hs;cases hs;exact ⟨_,hFj,hnews.mono hx.to0 fun t ht=>hsame t ht (hlt2 _ (hsown t ht)) (hb's t ht)⟩
 refine hst.turn (g' :=g') hr [r2,o] (by simp[hne2,hneo]) (AV.clrs [r,r2,o]) rfl (fun c vx h=>VIa hx (fun q hq=>hk' q (by rintro rfl;simp at hq)) h) hx hk' hos htape hout (fun q hq hno=>⟨hother q hq ?_,rfl⟩) (yia hst.so.wf hwfs _) hN'.obj (fun q hq=>?_)
 .rintro rfl;rcases hb' with h | h
  .exact hno r _ (.inl rfl) hr h.1
  omega
 rw[hl']at hq;rcases hq with hq | hq
 .cases hq;rcases hb' with h | h
  .exact .inl ⟨r,_,.inl rfl,hr,h.1⟩
  exact .inr h
 have hq:q∈zsa (subs++ [s]):=hq;rw[k4a]at hq;rcases List.mem_append.1 hq with hq | hq
 .exact .inl ⟨r,_,.inl rfl,hr,hsubown q hq⟩
 cases hs:s with
 | none=>rw[hs]at hq;cases hq
 | some t=>
  rw[hs,show zsa [some t]=[t.1] from rfl,List.mem_singleton]at hq;subst hq;exact .inl ⟨r2,_,.inr (by simp),hr2,hsown t hs⟩
theorem jma(hN:Nat.ble (k+1) E.N=true)(hx:fr.ev x=.ns r)(hr:σ.get r=some (.nrow e size j e2 size2 m (l.map F)))(hy:fr.ev y=.ls o)(ho:σ.get o=some (.cells cs))(hcs:cs=((F v).map AV.pv).set j (.hs r2 0))(hr2:σ.get r2=some (.row e2 true size2 (l2.map G2)))(hne:(Nat.beq r r2 || Nat.beq r o)=false)
 (hFj:(F v)[j]? =some (.sl none (l2.map G2))) (hm:m=l.length) (ht:TyOk E.P t ss sb sz (.slice e)) (he:TyOk E.P e size bytes zero d)
 (hzz:Nat.beq zero.cells.size size=true) (hs:Nat.ble 1 size=true) (hF:∀x,(F x).length=size) (hlim:(Nat.ble (lim * bytes) 140737488355328 && Nat.ble lim 9223372036854775807)=true) (h:app lim l [v]=some r'):
 OpTo E ⟨some k,.call ⟨.builtin .append, #[x,y], #[t,t]⟩,ty,pos,af,gu⟩ fr σ ((k,.ns r)::fr.mp (AV.clrs [r,r2,o])) (((σ.dels [r2,o]).mp (AV.clrs [r,r2,o])).upd r (.nrow e size j e2 size2 (m+1) (r'.map F))):=
 ⟨fun g a K Q hst hK=>by
  obtain ⟨hle,rfl⟩:=VEa h;subst hm;simp only[Bool.and_eq_true]at hlim;simp only[Bool.or_eq_false_iff]at hne;have hne2:r≠r2:=by rintro rfl;simp at hne
  have hneo:r≠o:=by rintro rfl;simp at hne
  have hl1:=Nat.le_of_ble_eq_true hlim.1;have hl2:=Nat.le_of_ble_eq_true hlim.2;have hzz:=Nat.eq_of_beq_eq_true hzz;have hs:=Nat.le_of_ble_eq_true hs;simp only[List.length_singleton]at hle;refine ⟨fun _ _=>trivial,?_⟩;rw[Oper.semAt_plain _ _ _ (fun c=>by simp)];have h1:=hst.ev x;rw[hx]at h1;have h2:=hst.ev y;rw[hy]at h2;have hoo:=hst.so.obj o _ ho;have hlb:(l.length+1) * bytes<=140737488355328:=Nat.le_trans (Nat.mul_le_mul_right _ hle) hl1;generalize ev2:a.eval y=v2 at h2;cases hoo with
  | @cells _ b0 t0 vs0 q1 q2 q3 q4 q5 q6=>
  cases h2 with
  | ls p1=>
  rw[q1]at p1;cases p1;have hsz0:vs0.size=size:=by rw[q3,hcs];simp[hF]
  have hjs:j < size:=by rw[<-hF v];exact (List.getElem?_eq_some_iff.1 hFj).1
  have hnl:vs0.toList.length=1 * size:=by simp[hsz0]
  have hcells:∀q u,vs0.toList[q]? =some u->g.w.cell? (Addr.add ⟨b0,0,none⟩ q)=some u:=by
   intro q u hq;have hlt:q < vs0.size:=by simpa using (List.getElem?_eq_some_iff.1 hq).1
   rw[kOa,Nat.zero_add,kea q2 hlt];rw[Array.getD_eq_getD_getElem?,<-Array.getElem?_toList,hq];rfl
  have hone:=ZFa q5;have hval:∀j' c,(F v)[j']? =some c->j' ≠j->RelP g.w g.u c (vs0.getD j' undef):=by
   intro j' c hc hne;have:=q6 j' (.pv c) (by rw[hcs,List.getElem?_set_ne (Ne.symm hne)];simp[hc]);cases this with
   | pv h=>exact h
  have hsv:Rel g (.hs r2 0) (vs0.getD j undef):=q6 j _ (by rw[hcs,List.getElem?_set_self (by simp[hF];exact hjs)]);obtain ⟨s,hS,hSown⟩:=Ypa (hst.so.obj r2 _ hr2) hsv;obtain ⟨old,ev1,hold,hsubs⟩:∃old:Option Addr × Option (Nat × Nat × Nat × Array Value),a.eval x=oldV l.length old/\qfb g.w e size l.length old/\
   ((old.2=none/\g.loc r=.nilRow/\l=[])∨∃b off cap cur subs,old.2=some (b,off,cap,cur)/\NAt g r e size j e2 size2 l.length F l b off cap cur subs):=by
   rcases vTb (hst.so.obj r _ hr) with ⟨hl,rfl,_⟩ | ⟨b,off,cap,cur,subs,hNA⟩
   .generalize a.eval x=vx at h1;cases h1 with
    | nsNil ad h1=>exact ⟨(ad,none),rfl,rfl,.inl ⟨rfl,hl,rfl⟩⟩
    | ns h1=>rw[hl]at h1;cases h1
   generalize a.eval x=vx at h1;cases h1 with
   | nsNil ad h1=>rw[hNA.loc]at h1;cases h1
   | @ns _ _ _ _ _ _ _ _ ad h1 ha=>
    rw[hNA.loc]at h1;cases h1;exact ⟨(some ad,some (b,off,cap,cur)),rfl,⟨hNA.heap,hNA.sz,hNA.le,hNA.max,ad,rfl,ha⟩,.inr ⟨b,off,cap,cur,subs,rfl,hNA⟩⟩
  obtain ⟨v',w',hrun,hres⟩:=jYa (ty:=ty) (c:=1) (m:=1) ht he hzz (by omega) hold hnl hcells hone hlb (by unfold maxLen;omega);rw[kPa (x:=x) (y:=y) (w:=g.w) (by rw[ev1,ev2];exact hrun),Oper.uponIn_value];have hnewget:∀q,q < size->∀(nw:Array Value) (p:Nat),(∀q,q < vs0.toList.length->nw.getD (p+q) undef=vs0.toList.getD q undef)->nw.getD (p+q) undef=vs0.getD q undef:=by
   intro q hq nw p hh;rw[hh q (by rw[hnl];omega),List.getD_eq_getElem?_getD,Array.getElem?_toList,Array.getD_eq_getD_getElem?]
  cases hres with
  | same hm _ _=>omega
  | @room a0 b off cap cur ho2 hle2 _=>
   subst ho2;rcases hsubs with ⟨h3,_⟩ | ⟨b',off',cap',cur',subs,h3,hNA⟩
   .cases h3
   cases h3;have hfit:(off+l.length) * size+vs0.toList.length<=cur.size:=by rw[hnl,hNA.sz,<-Nat.add_mul];exact Nat.mul_le_mul_right _ (by omega)
   have hW:=JZa (w:=g.w) (p:=(off+l.length) * size) (cl:=vs0.toList) hNA.heap hfit;have hxx:=hW.ext (u:=g.u) hNA.heap hNA.u;have hkeep:∀i q,i < l.length->q < size->(cur.toList.take ((off+l.length) * size)++vs0.toList++cur.toList.drop ((off+l.length) * size+vs0.toList.length)).toArray.getD ((off+i) * size+q) undef=cur.getD ((off+i) * size+q) undef:=fun i q hi hq=>hW.out _ (.inl (by
    have:(off+i+1) * size<=(off+l.length) * size:=Nat.mul_le_mul_right _ (by omega);rw[Nat.add_mul (off+i)]at this;omega))
   have hst' :=V9a (v:=v) (o:=o) (cs:=cs) (w' :=g.w.setRow b _) (b' :=b) (off' :=off) (cap' :=cap) (s:=s) (subs:=subs) hst hr hr2 ho hne2 hneo (.inr ⟨_,_,_,_,hNA.loc⟩) hNA.sl hNA.z (hF v) hFj hW.os hW.tape hW.output hxx hW.here (fun q _ hq=>hW.other q hq) (.inl ⟨by rw[hNA.loc];exact .inl rfl,(List.nodup_cons.1 hNA.nd).1⟩) hNA.u (hW.sz.trans hNA.sz) hNA.max hle2 (Nat.le_of_eq hW.size.symm)
    (fun i j' x c hi hj hc=>by rw[hkeep i j' (List.getElem?_eq_some_iff.1 hi).1 (by rw[<-hF x];exact (List.getElem?_eq_some_iff.1 hj).1)];exact hNA.cell i j' x c hi hj hc)
    (fun i s x hi hx=>by rw[hkeep i j (List.getElem?_eq_some_iff.1 hx).1 hjs];exact hNA.sub i s x hi hx)
    (fun j' c hc hne=>by rw[hnewget j' (by rw[<-hF v];exact (List.getElem?_eq_some_iff.1 hc).1) _ _ hW.inn];exact hval j' c hc hne)
    (by rw[hnewget j hjs _ _ hW.inn];exact hS) hSown (List.nodup_cons.1 hNA.nd).2
   refine hK _ _ (hst'.put (Nat.le_of_ble_eq_true hN) ?_);have:=Rel.ns (g:=⟨g.w.setRow b (cur.toList.take ((off+l.length) * size)++vs0.toList++cur.toList.drop ((off+l.length) * size+vs0.toList.length)).toArray,g.u,fun q=>if q=r then .nest b off cap size (l++ [v]).length size2 (subs++ [s]) else g.loc q⟩) (r:=r) (a:=⟨b,off * size,none⟩) (if_pos rfl) (fun _=>rfl);simpa using this
  | @fresh cap cells hc hle2 hmx htk=>
   have hb0:(g.w.drew.alloc (.cells cells e)).heap[g.w.heap.size]? =some (.cells cells e (0,0)):=heap_alloc_new g.w.drew _;have hxx:Ext g.w g.u (g.w.drew.alloc (.cells cells e)) g.u:=⟨by simp,fun _ _=>Nat.le_refl _,fun q i hq _=>by
    simp only[World.cell?];rw[show (g.w.drew.alloc (.cells cells e)).heap[q]? =g.w.heap[q]? from Below.heap_alloc g.w.drew _ _ hq],fun r' hr' =>(Below.heap_alloc g.w.drew _ _ (kza hr')).trans hr'⟩
   have hplen:(yOa size (l.length * size) old).length=l.length * size:=by
    obtain ⟨a0,old⟩:=old;rcases hsubs with ⟨h3,_,rfl⟩ | ⟨b,off,cap0,cur,subs,h3,hNA⟩
    .dsimp only at h3;subst h3;simp[yOa]
    dsimp only at h3;subst h3;simp only[yOa,List.length_take,List.length_drop,Array.length_toList,hNA.sz];rw[Nat.add_mul,Nat.add_sub_cancel_left];exact Nat.min_eq_left (Nat.mul_le_mul_right _ hNA.le)
   have hgetc:∀q,q < (l.length+1) * size->cells.getD q undef=(yOa size (l.length * size) old++vs0.toList).getD q undef:=by
    intro q hq;rw[Array.getD_eq_getD_getElem?,<-Array.getElem?_toList,List.getD_eq_getElem?_getD,<-htk,List.getElem?_take_of_lt hq]
   have hgnew:∀q,q < size->cells.getD ((0+l.length) * size+q) undef=vs0.getD q undef:=by
    intro q hq;rw[Nat.zero_add,hgetc _ (by rw[Nat.add_mul];omega),List.getD_eq_getElem?_getD,List.getElem?_append_right (by omega),hplen,Nat.add_sub_cancel_left,Array.getElem?_toList,Array.getD_eq_getD_getElem?]
   obtain ⟨subs,hs0,hsl,hz,hol,hsu,hnd⟩:∃subs,((g.loc r=.nilRow/\l=[]/\subs=[])∨∃b off cap n,g.loc r=.nest b off cap size n size2 subs)/\subs.length=l.length/\(∀x∈l,(F x).length=size)/\
    (∀i j' x c,l[i]? =some x->(F x)[j']? =some c->(l.length<=i∨j' ≠j)->RelP g.w g.u c (cells.getD ((0+i) * size+j') undef))/\(∀i s x,subs[i]? =some s->l[i]? =some x->∃rows,(F x)[j]? =some (.sl none rows)/\K5a g.w g.u e2 size2 rows s (cells.getD ((0+i) * size+j) undef))/\(zsa subs).Nodup:=by
    obtain ⟨a0,old⟩:=old;rcases hsubs with ⟨h3,h4,rfl⟩ | ⟨b,off,cap0,cur,subs,h3,hNA⟩
    .exact ⟨[],.inl ⟨h4,rfl,rfl⟩,rfl,fun x hx=>(by cases hx),fun i j' x c hi=>(by simp at hi),fun i s x hi=>(by simp at hi),List.nodup_nil⟩
    dsimp only at h3;subst h3;have hkeep:∀i q,i < l.length->q < size->cells.getD ((0+i) * size+q) undef=cur.getD ((off+i) * size+q) undef:=by
     intro i q hi hq;have h5:i * size+q < l.length * size:=by
      have:(i+1) * size<=l.length * size:=Nat.mul_le_mul_right _ hi;rw[Nat.add_mul]at this;omega
     rw[Nat.zero_add,hgetc _ (by rw[Nat.add_mul];omega),List.getD_eq_getElem?_getD,List.getElem?_append_left (by omega)];simp only[yOa];rw[List.getElem?_take_of_lt h5,List.getElem?_drop,Array.getElem?_toList,Array.getD_eq_getD_getElem?]
     congr 2
     rw[Nat.add_mul];omega
    exact ⟨subs,.inr ⟨_,_,_,_,hNA.loc⟩,hNA.sl,hNA.z,fun i j' x c hi hj hc=>by rw[hkeep i j' (List.getElem?_eq_some_iff.1 hi).1 (by rw[<-hF x];exact (List.getElem?_eq_some_iff.1 hj).1)];exact hNA.cell i j' x c hi hj hc,
     fun i s x hi hx=>by rw[hkeep i j (List.getElem?_eq_some_iff.1 hx).1 hjs];exact hNA.sub i s x hi hx,(List.nodup_cons.1 hNA.nd).2⟩
   have hst' :=V9a (v:=v) (o:=o) (cs:=cs) (w' :=g.w.drew.alloc (.cells cells e)) (b' :=g.w.heap.size) (off' :=0) (cap' :=cap) (s:=s) (subs:=subs) hst hr hr2 ho hne2 hneo hs0 hsl hz (hF v) hFj rfl rfl rfl hxx hb0 (fun q hq _=>Below.heap_alloc g.w.drew _ _ hq) (.inr (Nat.le_refl _)) (hst.so.wf _ (Nat.le_refl _)) (by rw[Nat.zero_add];exact hc) hmx hle2 hxx.size hol hsu
    (fun j' c hc hne=>by rw[hgnew j' (by rw[<-hF v];exact (List.getElem?_eq_some_iff.1 hc).1)];exact hval j' c hc hne) (by rw[hgnew j hjs];exact hS) hSown hnd
   refine hK _ _ (hst'.put (Nat.le_of_ble_eq_true hN) ?_);have:=Rel.ns (g:=⟨g.w.drew.alloc (.cells cells e),g.u,fun q=>if q=r then .nest g.w.heap.size 0 cap size (l++ [v]).length size2 (subs++ [s]) else g.loc q⟩) (r:=r) (a:=⟨g.w.heap.size,0,none⟩) (if_pos rfl) (fun _=>by simp);simpa using this⟩
end
end
section
open Go.RowKit Go.Lib Go.Proofs.Tryz
variable {E:Env} {fr:Fr} {σ:Sto} {K:Post}
theorem St.split{g g' :G}{a:Act}(h:St E g a fr σ){r r1:Nat}{ob0 ob ob1:AO}(hr:σ.get r=some ob0)(hf1:fr.has r1=false)(hs1:σ.has r1=false)(hg1:σ.get r1=none)(hw:g'.w=g.w)(hu:g'.u=g.u)(hl:∀k,k≠r->k≠r1->g'.loc k=g.loc k)(hle:WLa (g.loc r) (g'.loc r))
 (hok:ob0.has r1=false) (hob:RelO g' r ob) (hob1:RelO g' r1 ob1) (hsub:∀b,ob.own (g'.loc r) b->ob0.own (g.loc r) b) (hsub1:∀b,ob1.own (g'.loc r1) b->ob0.own (g.loc r) b) (hdis:∀b,ob.own (g'.loc r) b->¬ob1.own (g'.loc r1) b)
 (hhas:∀o ob2,o≠r->σ.get o=some ob2->ob2.has r=true->∃cs,ob2=.cells cs∨∃c v,ob2=.hold c v):St E g' a fr ((r1,ob1)::σ.upd r ob):=by
 have hne:r≠r1:=by rintro rfl;rw[hr]at hg1;cases hg1
 have hx:Ext g.w g.u g'.w g'.u:=by rw[hw,hu];exact Ext.refl _ _
 have hrel:∀c v,c.has r1=false->Rel g c v->Rel g' c v:=fun c v hc hv=>hv.more hx fun o ho=>by
  by_cases h1:o=r
  .subst h1;exact hle
  by_cases h2:o=r1
  .subst h2;rw[hc]at ho;cases ho
  exact .inl (hl o h1 h2)
 have hgu:=Sto.get_upd (ob:=ob) hr;have hget:∀o ob',Sto.get ((r1,ob1)::σ.upd r ob) o=some ob' ->(o=r1/\ob' =ob1)∨(o=r/\ob' =ob)∨(o≠r/\o≠r1/\σ.get o=some ob'):=by
  intro o ob' ho;rw[Sto.get_cons]at ho;split at ho
  .rename_i h1;cases ho;exact .inl ⟨h1.symm,rfl⟩
  rename_i h1;rw[hgu]at ho;split at ho
  .rename_i h2;cases ho;exact .inr (.inl ⟨h2,rfl⟩)
  rename_i h2;exact .inr (.inr ⟨h2,Ne.symm h1,ho⟩)
 refine ⟨fun d=>hrel _ _ ?_ (h.fr d),h.n,by rw[hw];exact h.df,⟨?_,?_,?_,?_,fun k hk=>by rw[hu];exact h.so.wf k (by rw[<-hw];exact hk)⟩⟩
 .cases hh:(fr.get d).has r1 with
  | false=>rfl
  | true=>rw[Fr.has_get hh]at hf1;cases hf1
 .intro o ob' ho;rcases hget o ob' ho with ⟨rfl,rfl⟩ | ⟨rfl,rfl⟩ | ⟨h1,h2,ho⟩
  .exact hob1
  .exact hob
  have hro:=h.so.obj o ob' ho;have hn:ob'.has r1=false:=by
   cases hh:ob'.has r1 with
   | false=>rfl
   | true=>rw[Sto.has_get ho hh]at hs1;cases hs1
  cases ob' with
  | cells cs=>
   cases hro with
   | @cells _ b t vs q1 q2 q3 q4 q5 q6=>
    refine .cells ((hl o h1 h2).trans q1) (by rw[hw];exact q2) q3 (by rw[hu];exact q4) q5 fun i c hi=>hrel c _ ?_ (q6 i c hi)
    cases hh:c.has r1 with
    | false=>rfl
    | true=>rw[show (AO.cells cs).has r1=AV.hasL r1 cs from rfl,AV.hasL_of hi hh]at hn;cases hn
  | hold c v=>cases hro with
   | hold q1=>exact .hold (hrel c _ hn q1)
  | _=>exact hro.mono hx (hl o h1 h2) (fun _ hk=>by cases hk) fun b _=>by rw[hw,hu];exact ⟨rfl,rfl⟩
 .intro o o' oa ob' b h1 h2 h3 h4;rcases hget o oa h1 with ⟨rfl,rfl⟩ | ⟨rfl,rfl⟩ | ⟨p1,p2,p3⟩ <;> rcases hget o' ob' h2 with ⟨rfl,rfl⟩ | ⟨rfl,rfl⟩ | ⟨q1,q2,q3⟩
  .rfl
  .exact absurd h3 (hdis b h4)
  .rw[hl o' q1 q2]at h4;exact absurd (h.so.apart r o' _ _ b hr q3 (hsub1 b h3) h4) (Ne.symm q1)
  .exact absurd h4 (hdis b h3)
  .rfl
  .rw[hl o' q1 q2]at h4;exact absurd (h.so.apart o o' _ _ b hr q3 (hsub b h3) h4) (Ne.symm q1)
  .rw[hl o p1 p2]at h3;exact absurd (h.so.apart o r _ _ b p3 hr h3 (hsub1 b h4)) p1
  .rw[hl o p1 p2]at h3;exact absurd (h.so.apart o o' _ _ b p3 hr h3 (hsub b h4)) p1
  rw[hl o p1 p2]at h3;rw[hl o' q1 q2]at h4;exact h.so.apart o o' _ _ b p3 q3 h3 h4
 .intro o oa b h1 h2;rcases hget o oa h1 with ⟨rfl,rfl⟩ | ⟨rfl,rfl⟩ | ⟨p1,p2,p3⟩
  .exact h.so.mine r _ b hr (hsub1 b h2)
  .exact h.so.mine o _ b hr (hsub b h2)
  rw[hl o p1 p2]at h2;exact h.so.mine o _ b p3 h2
 exact ⟨by rw[hw];exact h.so.old.os,by rw[hw];exact h.so.old.tape,by rw[hw];exact h.so.old.output,h.so.old.ext.trans hx,fun b hb hs=>by rw[hw,hu];exact h.so.old.block b hb hs⟩
section
variable {κ β:Type} [BEq κ] [LawfulBEq κ] {KK:KeyK κ} {G2:β->List PV} {P:Program} {ρ:Operand->AV} {t kt e e1:TypeId} {m x y:Operand} {o r size sz1 bytes k0:Nat} {d:TypeDesc} {es:List (κ × List β)} {k:κ} {l:List β}
variable {dst:Option Tmp} {ty:TypeId} {pos:String} {af:Array Edge} {gu:Option (Nat × Bool)}
abbrev yWa(KK:KeyK κ)(G2:β->List PV)(es:List (κ × List β)):List (Value × List (List PV)):=es.map fun p=>(KK.kf p.1,p.2.map G2)
structure MAt (g:G) (o:Nat) (e:TypeId) (size:Nat) (tk:Option Nat) (KK:KeyK κ) (G2:β->List PV) (es:List (κ × List β)) (b clock:Nat) (ents:Array MapEntry) (subs:List (Option (Nat × Nat × Nat × Nat))):Prop where
 loc:g.loc o=.mapr b subs
 heap:g.w.heap[b]? =some (.map ents clock)
 u:g.u b=0
 n:ents.size=es.length
 sl:subs.length=es.length
 nd:(b::zsa subs).Nodup
 key:∀(i:Nat) p x,es[i]? =some p->ents[i]? =some x->x.key=KK.kf p.1
 cv:∀(i:Nat) x,ents[i]? =some x->cellV x.val=true
 ent:∀(i:Nat) p x,es[i]? =some p->ents[i]? =some x->(tk=some i/\subs[i]? =some none∨tk≠some i/\∃s,subs[i]? =some (some s)/\yKa g.w g.u e false size (p.2.map G2) s x.val)
theorem kUb{g:G}{tk:Option Nat}(h:RelO g o (.mapr e1 size tk (yWa KK G2 es))):∃b clock ents subs,MAt g o e1 size tk KK G2 es b clock ents subs:=by
 generalize hes:yWa KK G2 es=ms at h;cases h with
 | @mapr _ _ _ _ b clock ents subs h1 h2 h3 h4 h5 h6 h7=>
  subst hes;have hlen:ents.size=es.length:=by simpa[yWa]using h4
  have key:∀(i:Nat) p x,es[i]? =some p->ents[i]? =some x->x.key=KK.kf p.1/\cellV x.val=true/\(tk=some i/\subs[i]? =some none∨tk≠some i/\∃s,subs[i]? =some (some s)/\yKa g.w g.u e1 false size (p.2.map G2) s x.val):=by
   intro i p x hp hx;obtain ⟨x',q1,q2,q3,q4⟩:=h7 i (KK.kf p.1) (p.2.map G2) (by simp[yWa,hp]);rw[hx]at q1;cases q1;exact ⟨q2,q3,q4⟩
  refine ⟨b,clock,ents,subs,h1,h2,h3,hlen,by simpa[yWa]using h5,h6,fun i p x hp hx=>(key i p x hp hx).1,fun i x hx=>?_,fun i p x hp hx=>(key i p x hp hx).2.2⟩;have hlt:i < es.length:=by have:=(Array.getElem?_eq_some_iff.1 hx).1;omega
  exact (key i _ x (List.getElem?_eq_getElem hlt) hx).2.1
theorem MAt.obj{g:G}{tk:Option Nat}{b clock:Nat}{ents:Array MapEntry}{subs:List (Option (Nat × Nat × Nat × Nat))}(h:MAt g o e1 size tk KK G2 es b clock ents subs):RelO g o (.mapr e1 size tk (yWa KK G2 es)):=
 .mapr h.loc h.heap h.u (by simpa[yWa]using h.n) (by simpa[yWa]using h.sl) h.nd fun i k' rows hi=>by
  simp only[yWa,List.getElem?_map,Option.map_eq_some_iff,Prod.mk.injEq]at hi;obtain ⟨p,hp,rfl,rfl⟩:=hi;have hlt:i < ents.size:=by rw[h.n];exact (List.getElem?_eq_some_iff.1 hp).1
  have hx:=Array.getElem?_eq_getElem hlt;exact ⟨_,hx,h.key i p _ hp hx,h.cv i _ hx,h.ent i p _ hp hx⟩
def KQa:Loc->Loc
 | .map b=>.mapr b []
 | l=>l
def AV.mrs(o:Nat):AV->AV
 | .mp x=>bif Nat.beq x o then .mr o else .mp x
 | c=>bif c.has o then .any else c
theorem rel_mrs{g g' :G}(hx:Ext g.w g.u g'.w g'.u)(hk:∀k,k≠o->g'.loc k=g.loc k)(hl:g'.loc o=KQa (g.loc o)){c:AV}{v:Value}(h:Rel g c v):Rel g' (c.mrs o) v:=by
 cases c
 case mp x=>
  cases hb:Nat.beq x o with
  | true=>
   rw[show AV.mrs o (.mp x)=.mr o by show (bif Nat.beq x o then AV.mr o else AV.mp x)=_;rw[hb];rfl];have:x=o:=Nat.eq_of_beq_eq_true hb;subst this;cases h with
   | mp h1=>exact .mr (subs:=[]) (by rw[hl,h1];rfl)
  | false=>
   rw[show AV.mrs o (.mp x)=.mp x by show (bif Nat.beq x o then AV.mr o else AV.mp x)=_;rw[hb];rfl];have hne:x≠o:=by rintro rfl;simp at hb
   exact h.mono hx fun k hk' =>hk k (by have:=Nat.eq_of_beq_eq_true (show Nat.beq x k=true from hk');subst this;exact hne)
 all_goals exact Kda hx hk h
theorem St.mapr{g:G}{a:Act}(h:St E g a fr σ)(ho:σ.get o=some (.mapo false []))(e:TypeId)(size:Nat):
 St E ⟨g.w,g.u,fun k=>if k=o then KQa (g.loc o) else g.loc k⟩ a (fr.mp (AV.on (AV.mrs o))) (((σ.dels []).mp (AV.on (AV.mrs o))).upd o (.mapr e size none [])):=by
 have hl:(⟨g.w,g.u,fun k=>if k=o then KQa (g.loc o) else g.loc k⟩:G).loc o=KQa (g.loc o):=if_pos rfl;have hob:=h.so.obj o _ ho;generalize hms:([]:List (Value × List PV))=ms at hob;cases hob with
 | @mapo _ _ b clock ents h1 h2 h3 h4 h5=>
  subst hms;refine h.turn (g' :=⟨g.w,g.u,fun k=>if k=o then KQa (g.loc o) else g.loc k⟩) ho [] (by simp) _ rfl (fun c v=>kSb fun c v=>rel_mrs (g:=g) (g' :=⟨g.w,g.u,fun k=>if k=o then KQa (g.loc o) else g.loc k⟩) (Ext.refl _ _) (fun k hk=>if_neg hk) hl) (Ext.refl _ _) (fun k hk=>if_neg hk) rfl rfl rfl (fun _ _ _=>⟨rfl,rfl⟩) h.so.wf ?_ (fun q hq=>.inl ⟨o,_,.inl rfl,ho,?_⟩)
  .exact .mapr (subs:=[]) (by rw[hl,h1];rfl) h2 h3 h4 rfl (by simp[zsa]) (fun i k rows hi=>by simp at hi)
  rw[hl,h1]at hq;rw[h1];rcases hq with hq | hq
  .exact hq
  cases hq
theorem vXb{ops:Array Oper}{ol:List Oper}(o:Nat)(e:TypeId)(size:Nat)(ho:σ.get o=some (.mapo false []))
 (h:AWPL E ops ol (fr.mp (AV.on (AV.mrs o))) (((σ.dels []).mp (AV.on (AV.mrs o))).upd o (.mapr e size none [])) K):AWPL E ops ol fr σ K:=
 ⟨fun g a hst=>h.go ⟨g.w,g.u,fun k=>if k=o then KQa (g.loc o) else g.loc k⟩ a (hst.mapr ho e size)⟩
def yaa:Loc->Loc
 | .mapr b _=>.map b
 | l=>l
def WMa(size:Nat):Loc->(Nat->Nat)->Nat->Nat
 | .mapr _ subs,u=>pubU size subs u
 | _,u=>u
def AV.dmrs(o:Nat):AV->AV
 | .mr x=>bif Nat.beq x o then .mp o else .mr x
 | c=>bif c.has o then .any else c
theorem rel_dmrs{g g' :G}(hx:Ext g.w g.u g'.w g'.u)(hk:∀k,k≠o->g'.loc k=g.loc k)(hl:g'.loc o=yaa (g.loc o)){c:AV}{v:Value}(h:Rel g c v):Rel g' (c.dmrs o) v:=by
 cases c
 case mr x=>
  cases hb:Nat.beq x o with
  | true=>
   rw[show AV.dmrs o (.mr x)=.mp o by show (bif Nat.beq x o then AV.mp o else AV.mr x)=_;rw[hb];rfl];have:x=o:=Nat.eq_of_beq_eq_true hb;subst this;cases h with
   | mr h1=>exact .mp (by rw[hl,h1];rfl)
  | false=>
   rw[show AV.dmrs o (.mr x)=.mr x by show (bif Nat.beq x o then AV.mp o else AV.mr x)=_;rw[hb];rfl];have hne:x≠o:=by rintro rfl;simp at hb
   exact h.mono hx fun k hk' =>hk k (by have:=Nat.eq_of_beq_eq_true (show Nat.beq x k=true from hk');subst this;exact hne)
 all_goals exact Kda hx hk h
theorem St.demapr{g:G}{a:Act}(h:St E g a fr σ)(ho:σ.get o=some (.mapr e1 size none (yWa KK G2 es))):
 St E ⟨g.w,WMa size (g.loc o) g.u,fun k=>if k=o then yaa (g.loc o) else g.loc k⟩ a (fr.mp (AV.on (AV.dmrs o))) (((σ.dels []).mp (AV.on (AV.dmrs o))).upd o (.mapo false (menc KK (cL G2) es))):=by
 have hl:(⟨g.w,WMa size (g.loc o) g.u,fun k=>if k=o then yaa (g.loc o) else g.loc k⟩:G).loc o=yaa (g.loc o):=if_pos rfl;have hob:=h.so.obj o _ ho;obtain ⟨b,clock,ents,subs,hM⟩:=kUb hob;have hlt:∀q,(AO.mapr e1 size none (yWa KK G2 es)).own (g.loc o) q->q < g.w.heap.size:=fun q hq=>hob.block_lt hq
 have hu0:∀q,q ∉ zsa subs->WMa size (g.loc o) g.u q=g.u q:=by
  intro q hq;rw[hM.loc];exact VKa hq
 have hrow:∀(i:Nat) (s:Nat × Nat × Nat × Nat),subs[i]? =some (some s)->∃(p:κ × List β) (x:MapEntry),es[i]? =some p/\ents[i]? =some x/\yKa g.w g.u e1 false size (p.2.map G2) s x.val:=by
  intro i s hs;have hi:=(List.getElem?_eq_some_iff.1 hs).1;have h1:i < es.length:=by rw[<-hM.sl];exact hi
  have h2:i < ents.size:=by rw[hM.n];exact h1
  rcases hM.ent i _ _ (List.getElem?_eq_getElem h1) (Array.getElem?_eq_getElem h2) with ⟨q,_⟩ | ⟨_,s',q1,q2⟩
  .cases q
  rw[hs]at q1;cases q1;exact ⟨_,_,List.getElem?_eq_getElem h1,Array.getElem?_eq_getElem h2,q2⟩
 have hx:Ext g.w g.u g.w (WMa size (g.loc o) g.u):=⟨Nat.le_refl _,fun q hq=>by
  by_cases hin:q∈zsa subs
  .rw[hM.loc];obtain ⟨s,hs,hsb⟩:=List.mem_filterMap.1 hin;cases s with
   | none=>cases hsb
   | some s=>
    cases hsb;obtain ⟨i,hi,hii⟩:=List.getElem_of_mem hs;have hi' :subs[i]? =some (some s):=by rw[List.getElem?_eq_getElem hi,hii]
    obtain ⟨p,x,_,_,hR⟩:=hrow i s hi';show _<=pubU size subs g.u s.1;rw[Q1a (List.nodup_cons.1 hM.nd).2 hi'];exact hR.hu
  rw[hu0 q hin];exact Nat.le_refl _,fun _ _ _ _=>rfl,fun _ h=>h⟩
 refine h.turn (g' :=⟨g.w,WMa size (g.loc o) g.u,fun k=>if k=o then yaa (g.loc o) else g.loc k⟩) ho [] (by simp) _ rfl (fun c v=>kSb fun c v=>rel_dmrs (g:=g) (g' :=⟨g.w,WMa size (g.loc o) g.u,fun k=>if k=o then yaa (g.loc o) else g.loc k⟩) hx (fun k hk=>if_neg hk) hl) hx (fun k hk=>if_neg hk) rfl rfl rfl (fun q hq hn=>⟨rfl,hu0 q fun hin=>hn o _ (.inl rfl) ho (by rw[hM.loc];exact .inr hin)⟩) (fun q hq=>?_) ?_ (fun q hq=>.inl ⟨o,_,.inl rfl,ho,?_⟩)
 .show WMa size (g.loc o) g.u q=0;rw[hu0 q fun hin=>by have:=hlt q (by rw[hM.loc];exact .inr hin);exact absurd hq (by show ¬g.w.heap.size<=q;omega)];exact h.so.wf q hq
 .refine .mapo (by rw[hl,hM.loc];rfl) hM.heap ?_ (by simpa[menc]using hM.n) (fun i k' c hi=>?_)
  .show WMa size (g.loc o) g.u b=0;rw[hu0 b (List.nodup_cons.1 hM.nd).1];exact hM.u
  simp only[menc,List.getElem?_map,Option.map_eq_some_iff,Prod.mk.injEq]at hi;obtain ⟨p,hp,rfl,rfl⟩:=hi;have hie:=(List.getElem?_eq_some_iff.1 hp).1;have h2:i < ents.size:=by rw[hM.n];exact hie
  have hxx:=Array.getElem?_eq_getElem h2;refine ⟨_,hxx,hM.key i p _ hp hxx,?_⟩;rcases hM.ent i p _ hp hxx with ⟨q,_⟩ | ⟨_,s,q1,q2⟩
  .cases q
  refine ⟨.sl none (p.2.map G2),rfl,q2.pub hx.to0 ?_⟩;show _<=WMa size (g.loc o) g.u s.1;rw[hM.loc];exact Nat.le_of_eq (Q1a (off:=s.2.1) (cap:=s.2.2.1) (n:=s.2.2.2) (List.nodup_cons.1 hM.nd).2 q1).symm
 have hq2:(yaa (g.loc o)).block=some q:=by rw[<-hl];exact hq
 clear hq;rw[hM.loc]at hq2 ⊢;exact .inl hq2
theorem qGb{c:Code}(o:Nat)(ho:σ.get o=some (.mapr e1 size none (yWa KK G2 es)))
 (h:AWP E c (fr.mp (AV.on (AV.dmrs o))) (((σ.dels []).mp (AV.on (AV.dmrs o))).upd o (.mapo false (menc KK (cL G2) es))) K):AWP E c fr σ K:=
 ⟨fun g a hst=>h.go ⟨g.w,WMa size (g.loc o) g.u,fun k=>if k=o then yaa (g.loc o) else g.loc k⟩ a (hst.demapr ho)⟩
theorem Waa{g:G}{b clock:Nat}{ents:Array MapEntry}{subs:List (Option (Nat × Nat × Nat × Nat))}{tk:Option Nat}{d:TypeDesc}(hM:MAt g o e1 size tk KK G2 es b clock ents subs){vm:Value}(hm:Rel g (.mr o) vm)(ht:P.underlying t=some (.map kt e))(hkt:KK.ok P kt)(he:TyOk P e sz1 bytes (.slice none 0 0) d):
 (Instr.lookup t vm (KK.kf k) false).run P g.w=.ok (match mpos es k with | some i=>(ents[i]?.map (·.val)).getD undef | none=>.slice none 0 0) g.w:=by
 cases hm with
 | mr hl=>
  rw[hM.loc]at hl;cases hl;have hf:=yRa (P:=P) (w:=g.w) (k:=k) hkt hM.n hM.key;have hc:=KK.check (P:=P) hkt g.w k ents.isEmpty;cases hp:mpos es k with
  | none=>
   rw[hp]at hf;simp only[Option.bind_none]at hf;simp[Instr.lookup,run_underlying ht,MapKept.run_getObj_map hM.heap,hc,hf,he.zeroValue,Result.andThen]
  | some i=>
   obtain ⟨p,hp1,hp2⟩:=QXa hp;have hi:i < ents.size:=by rw[hM.n];exact (List.getElem?_eq_some_iff.1 hp1).1
   rw[hp]at hf;simp only[Option.bind_some,Array.getElem?_eq_getElem hi,Option.map_some]at hf;simp[Instr.lookup,run_underlying ht,MapKept.run_getObj_map hM.heap,hc,hf,hi,Result.andThen]
theorem ev_mrnn(hm:ρ m=.mr o)(ho:σ.get o=some (.mapr e1 size none (yWa KK G2 es)))(hx:zSb (ρ x)=some (KK.kf k))(ht:P.underlying t=some (.map kt e))(hkt:KK.ok P kt)(he:TyOk P e sz1 bytes (.slice none 0 0) d):
 EvQ P ⟨dst,.lookup t m x false,ty,pos,af,gu⟩ ρ σ (.nn (mpos es k).isNone):=
 ⟨fun c=>by simp,fun g ρv h hs=>by
  obtain ⟨h1,h2⟩:=ops2 (o:=⟨dst,.lookup t m x false,ty,pos,af,gu⟩) (x:=m) (y:=x) rfl h;rw[hm]at h1;have e2:=V0a h2 hx;obtain ⟨b,clock,ents,subs,hM⟩:=kUb (hs o _ ho);have hr:=Waa (P:=P) (t:=t) (k:=k) hM h1 ht hkt he;refine ⟨_,by
   show Sem.run P (do let v <-Instr.lookup t (ρv m) (ρv x) false;pure (Next.value v)) g.w=_;rw[e2,Sem.run_bind,hr];rfl,?_⟩
  cases hp:mpos es k with
  | none=>exact .nn rfl
  | some i=>
   obtain ⟨p,hp1,hp2⟩:=QXa hp;have hi:i < ents.size:=by rw[hM.n];exact (List.getElem?_eq_some_iff.1 hp1).1
   have hxx:=Array.getElem?_eq_getElem hi;rcases hM.ent i p _ hp1 hxx with ⟨q,_⟩ | ⟨_,s,q1,q2⟩
   .cases q
   simp only[hxx,Option.map_some,Option.getD_some];rw[q2.val];exact .nn rfl⟩
theorem ev_nnil{b:Bool}{t' :TypeId}{ss sb:Nat}{sz:Value}(ne:Bool)(hx:ρ x=.nn b)(hy:ρ (.const (.slice none 0 0))=.pv (.sl (some true) []))(ht:TyOk P t ss sb sz (.slice e)):EvQ P ⟨dst,.binOp (if ne then .neq else .eql) t x (.const (.slice none 0 0)) t',ty,pos,af,gu⟩ ρ σ (.bo (if ne then !b else b)):=
 vpb ne hx (fun g v h=>by cases h with | nn h=>exact ⟨_,_,_,rfl,h⟩) hy ht
theorem kbb(r:Nat)(hN:Nat.ble (k0+1) E.N=true)(hm:fr.ev m=.mr o)(ho:σ.get o=some (.mapr e1 size none (yWa KK G2 es)))(hx:zSb (fr.ev x)=some (KK.kf k))(hfr:fr.has r=false)(hsr:σ.has r=false)(hgr:σ.get r=none)(ht:E.P.underlying t=some (.map kt e))(hkt:KK.ok E.P kt)(he:TyOk E.P e sz1 bytes (.slice none 0 0) d):
 OpTo E ⟨some k0,.lookup t m x false,ty,pos,af,gu⟩ fr σ ((k0,.hs r 0)::fr) ((r,.row e1 false size (((mget es k).getD []).map G2))::σ.upd o (.mapr e1 size (mpos es k) (yWa KK G2 es))):=
 ⟨fun g a K Q hst hK=>by
  refine ⟨fun _ _=>trivial,?_⟩;rw[Oper.semAt_plain _ _ _ (fun c=>by simp)];have h1:=hst.ev m;rw[hm]at h1;have e2:=V0a (hst.ev x) hx;have hne:o≠r:=by rintro rfl;rw[ho]at hgr;cases hgr
  obtain ⟨b,clock,ents,subs,hM⟩:=kUb (hst.so.obj o _ ho);have hr:=Waa (P:=E.P) (t:=t) (k:=k) hM h1 ht hkt he;have hrun:(execOp a.eval ⟨some k0,.lookup t m x false,ty,pos,af,gu⟩).run E.P g.w=.ok (.value (match mpos es k with | some i=>(ents[i]?.map (·.val)).getD undef | none=>.slice none 0 0)) g.w:=by
   show Sem.run E.P (do let v <-Instr.lookup t (a.eval m) (a.eval x) false;pure (Next.value v)) g.w=_;rw[e2,Sem.run_bind,hr];rfl
  rw[hrun,Oper.uponIn_value];rw[kNb]at hK;cases hp:mpos es k with
  | none=>
   rw[hp]at hK;simp only[Option.bind_none,Option.getD_none,List.map_nil]at hK;have hst' :=hst.split (g' :=⟨g.w,g.u,fun q=>if q=r then .nilRow else g.loc q⟩) (r:=o) (r1:=r) (ob:=.mapr e1 size none (yWa KK G2 es)) (ob1:=.row e1 false size []) ho hfr hsr hgr rfl rfl (fun q _ hq=>if_neg hq) (.inl (if_neg hne)) rfl
    (MAt.obj (subs:=subs) (ents:=ents) (b:=b) (clock:=clock) ⟨(if_neg hne).trans hM.loc,hM.heap,hM.u,hM.n,hM.sl,hM.nd,hM.key,hM.cv,hM.ent⟩) (.nil (if_pos rfl)) (fun q hq=>by rw[show (⟨g.w,g.u,fun q=>if q=r then Loc.nilRow else g.loc q⟩:G).loc o=g.loc o from if_neg hne]at hq;exact hq)
    (fun q hq=>by rw[show (⟨g.w,g.u,fun q=>if q=r then Loc.nilRow else g.loc q⟩:G).loc r=.nilRow from if_pos rfl]at hq;cases hq) (fun q _ hq=>by rw[show (⟨g.w,g.u,fun q=>if q=r then Loc.nilRow else g.loc q⟩:G).loc r=.nilRow from if_pos rfl]at hq;cases hq) (fun q oq _ _ hq=>by cases oq <;> first | exact ⟨_,.inl rfl⟩ | exact ⟨[],.inr ⟨_,_,rfl⟩⟩ | cases hq)
   exact hK ⟨g.w,g.u,fun q=>if q=r then .nilRow else g.loc q⟩ _ (hst'.put (Nat.le_of_ble_eq_true hN) (.hsNil _ (if_pos rfl)))
  | some i=>
   obtain ⟨p,hp1,hp2⟩:=QXa hp;have hie:=(List.getElem?_eq_some_iff.1 hp1).1;have hi:i < ents.size:=by rw[hM.n];exact hie
   have hxx:=Array.getElem?_eq_getElem hi;rcases hM.ent i p _ hp1 hxx with ⟨q,_⟩ | ⟨_,s,q1,q2⟩
   .cases q
   rw[hp]at hK;simp only[Option.bind_some,hp1,Option.map_some,Option.getD_some]at hK;simp only[Option.map_some,Option.getD_some,hxx];let g' :G:=⟨g.w,g.u,fun q=>if q=r then .row s.1 s.2.1 s.2.2.1 size s.2.2.2 else if q=o then .mapr b (subs.set i none) else g.loc q⟩;have hlr:g'.loc r=.row s.1 s.2.1 s.2.2.1 size s.2.2.2:=if_pos rfl;have hlo:g'.loc o=.mapr b (subs.set i none):=by show (if o=r then _ else if o=o then _ else _)=_;rw[if_neg hne,if_pos rfl]
   have hsl:i < subs.length:=(List.getElem?_eq_some_iff.1 q1).1;have hsubset:∀q,q∈zsa (subs.set i none)->q∈zsa subs/\q≠s.1:=by
    intro q hq;obtain ⟨t,ht,htb⟩:=List.mem_filterMap.1 hq;cases t with
    | none=>cases htb
    | some t=>
     cases htb;obtain ⟨i',hi',hii⟩:=List.getElem_of_mem ht;have h5:(subs.set i none)[i']? =some (some t):=by rw[List.getElem?_eq_getElem hi',hii]
     by_cases h6:i=i'
     .subst h6;rw[List.getElem?_set_self hsl]at h5;cases h5
     rw[List.getElem?_set_ne h6]at h5;exact ⟨v8a h5,vWb (List.nodup_cons.1 hM.nd).2 h5 q1 (Ne.symm h6)⟩
   have hnd' :(b::zsa (subs.set i none)).Nodup:=by
    refine List.nodup_cons.2 ⟨fun hin=>(List.nodup_cons.1 hM.nd).1 (hsubset b hin).1,?_⟩;have hsu:(zsa (subs.set i none)).Sublist (zsa subs):=by
     clear hsubset hlo hlr hst hr hrun hK;have hgen:∀(l:List (Option (Nat × Nat × Nat × Nat))) (i:Nat),(zsa (l.set i none)).Sublist (zsa l):=by
      intro l;induction l with
      | nil=>intro i;exact List.Sublist.refl _
      | cons x l ih=>
       intro i;cases i with
       | zero=>simp only[List.set_cons_zero,kia];exact List.sublist_append_right _ _
       | succ i=>simp only[List.set_cons_succ,kia];exact (ih i).append_left _
     exact hgen subs i
    exact hsu.nodup (List.nodup_cons.1 hM.nd).2
   have hMo:MAt g' o e1 size (some i) KK G2 es b clock ents (subs.set i none):=⟨hlo,hM.heap,hM.u,hM.n,by rw[List.length_set];exact hM.sl,hnd',hM.key,hM.cv,fun i' p' x' hp' hx' =>by
    by_cases h6:i=i'
    .subst h6;exact .inl ⟨rfl,by rw[List.getElem?_set_self hsl]⟩
    rcases hM.ent i' p' x' hp' hx' with ⟨q,_⟩ | ⟨_,s',r1,r2⟩
    .cases q
    exact .inr ⟨by simpa using h6,s',by rw[List.getElem?_set_ne h6];exact r1,r2⟩⟩
   obtain ⟨vs,b1,b2,b3⟩:=q2.blk;have hrow:RelO g' r (.row e1 false size (p.2.map G2)):=.row (by rw[hlr,q2.n]) b1 b2 q2.cap (by rw[q2.n];exact q2.le) q2.z (by rw[q2.n];exact q2.hu) (fun hc=>by cases hc) b3;have hst' :=hst.split (g' :=g') (r:=o) (r1:=r) (ob:=.mapr e1 size (some i) (yWa KK G2 es)) (ob1:=.row e1 false size (p.2.map G2)) ho hfr hsr hgr rfl rfl (fun q h6 h7=>by show (if q=r then _ else if q=o then _ else _)=_;rw[if_neg h7,if_neg h6]) (.inr (.inr ⟨b,subs,_,hM.loc,hlo⟩)) rfl
    hMo.obj hrow (fun q hq=>by
     rw[hlo]at hq;rw[hM.loc];rcases hq with hq | hq
     .exact .inl hq
     .exact .inr (hsubset q hq).1) (fun q hq=>by
     rw[hlr]at hq;cases hq;rw[hM.loc];exact .inr (v8a q1)) (fun q hq hq2=>by
     rw[hlo]at hq;rw[hlr]at hq2;cases hq2;rcases hq with hq | hq
     .cases hq;exact (List.nodup_cons.1 hM.nd).1 (v8a q1)
     exact (hsubset _ hq).2 rfl) (fun q oq _ _ hq=>by cases oq <;> first | exact ⟨_,.inl rfl⟩ | exact ⟨[],.inr ⟨_,_,rfl⟩⟩ | cases hq)
   refine hK g' _ (hst'.put (Nat.le_of_ble_eq_true hN) ?_);rw[q2.val];exact .hs hlr (fun _=>rfl)⟩
theorem row_at{g:G}{mu:Bool}{elems:List (List PV)}{vx:Value}(hob:RelO g r (.row e1 mu size elems))(hx:Rel g (.hs r 0) vx)(hne:elems≠ []):∃s,yKa g.w g.u e1 false size elems s vx/\(AO.row e1 mu size elems).own (g.loc r) s.1:=by
 have hpos:0 < elems.length:=List.length_pos_iff.2 hne;cases hob with
 | nil=>exact absurd rfl hne
 | @row _ _ _ _ b off cap vs h1 h2 h3 h4 h5 h6 h7 h8 h9=>
  cases hx with
  | hsNil a hl=>rw[h1]at hl;cases hl
  | @hs _ _ _ _ _ _ ad hl ha=>
   rw[h1]at hl;cases hl;have:=ha (by omega);subst this;exact ⟨(b,off,cap,elems.length),⟨rfl,rfl,hpos,⟨vs,h2,h3,h9⟩,h4,h5,h6,h7,fun hc=>by cases hc⟩,by rw[h1];rfl⟩
theorem qHb{mu:Bool}{bb:Bool}(hm:fr.ev m=.mr o)(ho:σ.get o=some (.mapr e1 size (mpos es k) (yWa KK G2 es)))(hx:zSb (fr.ev x)=some (KK.kf k))(hy:fr.ev y=.hs r 0)(hr:σ.get r=some (.row e1 mu size (l.map G2)))(hne:Nat.beq o r=false)(hl:Yka l=some bb)(ht:E.P.underlying t=some (.map kt e))(hkt:KK.ok E.P kt):
 OpTo E ⟨none,.mapUpdate t m x y,ty,pos,af,gu⟩ fr σ (fr.mp (AV.clr r)) (((σ.dels [r]).mp (AV.clr r)).upd o (.mapr e1 size none (yWa KK G2 (mput es k l)))):=
 ⟨fun g a K Q hst hK=>by
  have hne:o≠r:=by rintro rfl;simp at hne
  have hlne:=(zTb hl).1;refine ⟨fun _ _=>trivial,?_⟩;rw[Oper.semAt_plain _ _ _ (fun c=>by simp)];have h1:=hst.ev m;have h3:=hst.ev y;rw[hm]at h1;rw[hy]at h3;have e2:=V0a (hst.ev x) hx;obtain ⟨b,clock,ents,subs,hM⟩:=kUb (hst.so.obj o _ ho);obtain ⟨s,hR,hRown⟩:=row_at (hst.so.obj r _ hr) h3 (by simpa using hlne);have hcv:cellV (a.eval y)=true:=by rw[hR.val];rfl
  have hsb:s.1≠b:=by rintro he;exact hne (hst.so.apart o r _ _ b ho hr (by rw[hM.loc];exact .inl rfl) (he▸hRown))
  have hsn:s.1 ∉ zsa subs:=fun hin=>hne (hst.so.apart o r _ _ s.1 ho hr (by rw[hM.loc];exact .inr hin) hRown)
  generalize hvm:a.eval m=vm at h1;cases h1 with
  | mr hl2=>
   rw[hM.loc]at hl2;cases hl2;have hf:=yRa (P:=E.P) (w:=g.w) (k:=k) hkt hM.n hM.key;have hc:=KK.check (P:=E.P) hkt g.w k false;have hgo:∀ents' clock' (subs' :List (Option (Nat × Nat × Nat × Nat))),ents'.size=(mput es k l).length->subs'.length=(mput es k l).length->(∀(j:Nat) p x,(mput es k l)[j]? =some p->ents'[j]? =some x->x.key=KK.kf p.1)->(∀(j:Nat) x,ents'[j]? =some x->cellV x.val=true)->
    (∀(j:Nat) p x,(mput es k l)[j]? =some p->ents'[j]? =some x->∃s',subs'[j]? =some (some s')/\yKa g.w g.u e1 false size (p.2.map G2) s' x.val)->(zsa subs').Nodup->(∀q,q∈zsa subs' ->q=s.1∨q∈zsa subs)->
    (execOp a.eval ⟨none,.mapUpdate t m x y,ty,pos,af,gu⟩).run E.P g.w=.ok .skip {g.w with heap:=g.w.heap.setIfInBounds b (.map ents' clock')}->
    Oper.uponIn (fen E.rd) 0 E.P ⟨none,.mapUpdate t m x y,ty,pos,af,gu⟩ a K Q ((execOp a.eval ⟨none,.mapUpdate t m x y,ty,pos,af,gu⟩).run E.P g.w):=by
    intro ents' clock' subs' hsz hsl' hkey' hcv' hrel hnd' hsubs hrun;rw[hrun,Oper.uponIn_skip];have hset:=MapKept.heap_set (o' :=.map ents' clock') hM.heap;have hsize:(g.w.heap.setIfInBounds b (.map ents' clock')).size=g.w.heap.size:=by simp
    have hxx:Ext g.w g.u {g.w with heap:=g.w.heap.setIfInBounds b (.map ents' clock')} g.u:=⟨Nat.le_of_eq hsize.symm,fun _ _=>Nat.le_refl _,fun q i hq hi=>by
     by_cases hqb:q=b
     .subst hqb;have:=hM.u;omega
     simp only[World.cell?];rw[hset.2 q hqb],fun r' hr' =>(hset.2 r' (by rintro rfl;have:=hM.heap;rw[this]at hr';cases hr')).trans hr'⟩
    have hbs:b ∉ zsa subs' :=fun hin=>by
     rcases hsubs b hin with h | h
     .exact hsb h.symm
     exact (List.nodup_cons.1 hM.nd).1 h
    let g' :G:=⟨{g.w with heap:=g.w.heap.setIfInBounds b (.map ents' clock')},g.u,fun q=>if q=o then .mapr b subs' else g.loc q⟩;have hlo:g'.loc o=.mapr b subs' :=if_pos rfl;have hk' :∀q,q≠o->g'.loc q=g.loc q:=fun q hq=>if_neg hq
    have hM' :MAt g' o e1 size none KK G2 (mput es k l) b clock' ents' subs' :=⟨hlo,hset.1,hM.u,hsz,hsl',List.nodup_cons.2 ⟨hbs,hnd'⟩,hkey',hcv',fun j p x hp hx' =>by
     obtain ⟨s',r1,r2⟩:=hrel j p x hp hx';refine .inr ⟨by simp,s',r1,r2.mono hxx.to0 ⟨hset.2 s'.1 ?_,rfl⟩⟩;rintro he;exact hbs (he▸v8a r1)⟩
    refine hK g' _ (St.put_none (hst.turn (g' :=g') ho [r] (by simpa using hne) (AV.clr r) rfl (fun c v h=>Vla hxx hk' (.inr (.inr ⟨b,subs,subs',hM.loc,hlo⟩)) h) hxx hk' rfl rfl rfl (fun q hq hno=>⟨hset.2 q (by rintro rfl;exact hno o _ (.inl rfl) ho (by rw[hM.loc];exact .inl rfl)),rfl⟩) (yia hst.so.wf (Nat.le_of_eq hsize.symm) _) hM'.obj (fun q hq=>.inl ?_)));rw[hlo]at hq;rcases hq with hq | hq
    .exact ⟨o,_,.inl rfl,ho,by rw[hM.loc];exact .inl hq⟩
    rcases hsubs q hq with h | h
    .exact ⟨r,_,.inr (by simp),hr,by rw[h];exact hRown⟩
    exact ⟨o,_,.inl rfl,ho,by rw[hM.loc];exact .inr h⟩
   have hshow:(execOp a.eval ⟨none,.mapUpdate t m x y,ty,pos,af,gu⟩).run E.P g.w=Sem.run E.P (do Instr.mapUpdate t (.map (some b)) (KK.kf k) (a.eval y);pure Next.skip) g.w:=by
    show Sem.run E.P (do Instr.mapUpdate t (a.eval m) (a.eval x) (a.eval y);pure Next.skip) g.w=_;rw[hvm,e2]
   cases hp:mpos es k with
   | none=>
    rw[hp]at hf;simp only[Option.bind_none]at hf;have hmp:mput es k l=es++ [(k,l)]:=by rw[VGa,hp]
    have hlast:∀(j:Nat) p,(mput es k l)[j]? =some p->(j < es.length/\es[j]? =some p)∨(j=es.length/\p=(k,l)):=by
     intro j p hj;rw[hmp]at hj;rcases Nat.lt_or_ge j es.length with h4 | h4
     .rw[List.getElem?_append_left h4]at hj;exact .inl ⟨h4,hj⟩
     have hj2:j=es.length:=by
      have:=(List.getElem?_eq_some_iff.1 hj).1;simp at this;omega
     subst hj2;simp at hj;exact .inr ⟨rfl,hj.symm⟩
    have hpush:∀(j:Nat) x,(ents.push ⟨KK.kf k,a.eval y,clock⟩)[j]? =some x->(j < es.length/\ents[j]? =some x)∨(j=es.length/\x=⟨KK.kf k,a.eval y,clock⟩):=by
     intro j x hj;rw[Array.getElem?_push]at hj;split at hj
     .rename_i h5;cases hj;exact .inr ⟨by rw[h5,hM.n],rfl⟩
     rename_i h5;have:=(Array.getElem?_eq_some_iff.1 hj).1;have:=hM.n;exact .inl ⟨by omega,hj⟩
    refine hgo (ents.push ⟨KK.kf k,a.eval y,clock⟩) (clock+1) (subs++ [some s]) (by rw[hmp];simp[hM.n]) (by rw[hmp];simp[hM.sl]) (fun j p x hj hx' =>?_) (fun j x hx' =>?_) (fun j p x hj hx' =>?_) ?_ (fun q hq=>?_) ?_
    .rcases hlast j p hj with ⟨h4,h5⟩ | ⟨h4,rfl⟩ <;> rcases hpush j x hx' with ⟨h6,h7⟩ | ⟨h6,rfl⟩
     .exact hM.key j p x h5 h7
     .omega
     .omega
     rfl
    .rcases hpush j x hx' with ⟨h6,h7⟩ | ⟨h6,rfl⟩
     .exact hM.cv j x h7
     exact hcv
    .rcases hlast j p hj with ⟨h4,h5⟩ | ⟨h4,rfl⟩ <;> rcases hpush j x hx' with ⟨h6,h7⟩ | ⟨h6,rfl⟩
     .rcases hM.ent j p x h5 h7 with ⟨q,_⟩ | ⟨_,s',r1,r2⟩
      .rw[hp]at q;cases q
      exact ⟨s',by rw[List.getElem?_append_left (by rw[hM.sl];exact h4)];exact r1,r2⟩
     .omega
     .omega
     exact ⟨s,by rw[h4,List.getElem?_append_right (by rw[hM.sl];exact Nat.le_refl _),hM.sl];simp,hR⟩
    .rw[k4a,show zsa [some s]=[s.1] from rfl];exact List.nodup_append.2 ⟨(List.nodup_cons.1 hM.nd).2,by simp,fun q hq q' hq' =>by simp only[List.mem_singleton]at hq';subst hq';rintro rfl;exact hsn hq⟩
    .rw[k4a,show zsa [some s]=[s.1] from rfl]at hq;rcases List.mem_append.1 hq with h | h
     .exact .inr h
     exact .inl (by simpa using h)
    rw[hshow];simp[Instr.mapUpdate,run_underlying ht,MapKept.run_getObj_map hM.heap,hc,hf,MapKept.run_setObj_map _ hM.heap,Result.andThen]
   | some i=>
    obtain ⟨p0,hp1,hp2⟩:=QXa hp;have hie:=(List.getElem?_eq_some_iff.1 hp1).1;have hi:i < ents.size:=by rw[hM.n];exact hie
    rw[hp]at hf;simp only[Option.bind_some,Array.getElem?_eq_getElem hi,Option.map_some]at hf;have hmp:mput es k l=es.set i (k,l):=by rw[VGa,hp]
    have hsl:i < subs.length:=by rw[hM.sl];exact hie
    have hkk:ents[i].key=KK.kf k:=by
     rw[hM.key i p0 _ hp1 (Array.getElem?_eq_getElem hi)];rw[show p0.1=k by simpa using hp2]
    have hsni:subs[i]? =some none:=by
     rcases hM.ent i p0 _ hp1 (Array.getElem?_eq_getElem hi) with ⟨_,q⟩ | ⟨q,_⟩
     .exact q
     rw[hp]at q;exact absurd rfl q
    refine hgo (ents.modify i fun e=>{e with key:=KK.kf k,val:=a.eval y}) clock (subs.set i (some s)) (by rw[hmp];simp[hM.n]) (by rw[hmp];simp[hM.sl]) (fun j p x hj hx' =>?_) (fun j x hx' =>?_) (fun j p x hj hx' =>?_) ?_ (fun q hq=>?_) ?_
    .rw[hmp]at hj;rw[Array.getElem?_modify]at hx';by_cases hij:i=j
     .subst hij;rw[List.getElem?_set_self hie]at hj;cases hj;rw[if_pos rfl,Array.getElem?_eq_getElem hi]at hx';cases hx';rfl
     rw[List.getElem?_set_ne hij]at hj;rw[if_neg hij]at hx';exact hM.key j p x hj hx'
    .rw[Array.getElem?_modify]at hx';by_cases hij:i=j
     .subst hij;rw[if_pos rfl,Array.getElem?_eq_getElem hi]at hx';cases hx';exact hcv
     rw[if_neg hij]at hx';exact hM.cv j x hx'
    .rw[hmp]at hj;rw[Array.getElem?_modify]at hx';by_cases hij:i=j
     .subst hij;rw[List.getElem?_set_self hie]at hj;cases hj;rw[if_pos rfl,Array.getElem?_eq_getElem hi]at hx';cases hx';exact ⟨s,by rw[List.getElem?_set_self hsl],hR⟩
     rw[List.getElem?_set_ne hij]at hj;rw[if_neg hij]at hx';rcases hM.ent j p x hj hx' with ⟨q,_⟩ | ⟨_,s',r1,r2⟩
     .rw[hp]at q;cases q;exact absurd rfl hij
     exact ⟨s',by rw[List.getElem?_set_ne hij];exact r1,r2⟩
    .have hgen:∀(l:List (Option (Nat × Nat × Nat × Nat))) (i:Nat),l[i]? =some none->s.1 ∉ zsa l->(zsa l).Nodup->(zsa (l.set i (some s))).Nodup/\∀q,q∈zsa (l.set i (some s))->q=s.1∨q∈zsa l:=by
      intro l;induction l with
      | nil=>intro i h;simp at h
      | cons x l ih=>
       intro i h h5 h6;cases i with
       | zero=>
        simp only[List.getElem?_cons_zero,Option.some.injEq]at h;subst h;simp only[List.set_cons_zero,kia,List.nil_append,List.singleton_append]at h5 h6 ⊢;exact ⟨List.nodup_cons.2 ⟨h5,h6⟩,fun q hq=>by
         rcases List.mem_cons.1 hq with h | h; · exact .inl h
         exact .inr h⟩
       | succ i=>
        simp only[List.getElem?_cons_succ]at h;simp only[List.set_cons_succ,kia]at h5 h6 ⊢;have h6' :=List.nodup_append.1 h6;obtain ⟨j1,j2⟩:=ih i h (fun hin=>h5 (List.mem_append.2 (.inr hin))) h6'.2.1;refine ⟨List.nodup_append.2 ⟨h6'.1,j1,fun q hq q' hq' =>?_⟩,fun q hq=>?_⟩
        .rcases j2 q' hq' with h | h
         .rintro rfl;exact h5 (List.mem_append.2 (.inl (h▸hq)))
         exact h6'.2.2 q hq q' h
        rcases List.mem_append.1 hq with h | h
        .exact .inr (List.mem_append.2 (.inl h))
        exact (j2 q h).imp id fun h=>List.mem_append.2 (.inr h)
     exact (hgen subs i hsni hsn (List.nodup_cons.1 hM.nd).2).1
    .obtain ⟨t',ht',htb⟩:=List.mem_filterMap.1 hq;cases t' with
     | none=>cases htb
     | some t' =>
      cases htb;rcases List.mem_or_eq_of_mem_set ht' with h | h
      .exact .inr (List.mem_filterMap.2 ⟨some t',h,rfl⟩)
      cases h;exact .inl rfl
    rw[hshow];simp[Instr.mapUpdate,run_underlying ht,MapKept.run_getObj_map hM.heap,hc,hf,hi,hkk,KK.stay,MapKept.run_setObj_map _ hM.heap,Result.andThen]⟩
end
end
section
section
variable {E:Env} {ρ:Operand->AV} {P:Program} {fr FR:Fr} {σ:Sto} {dst:Option Nat} {ty:TypeId} {pos:String} {af:Array Edge} {gu:Option (Nat × Bool)}
theorem zta{x:Operand}{r i j0:Nat}(hx:ρ x=.np r i j0):EvQ P ⟨dst,.nilCheck x,ty,pos,af,gu⟩ ρ σ (.np r i j0):=
 ⟨fun c=>by simp,fun g ρv h _=>by
  have h1:=h x (by simp[Op.operands]);rw[hx]at h1;generalize hv:ρv x=v at h1;cases h1 with
  | np hl hi=>
   refine ⟨_,?_,.np hl hi⟩;simp[execOp,hv,go_sem]⟩
theorem zoa{x:Operand}{t:TypeId}{r i j0 f q:Nat}{fs:Array Field}{fl:Field}{fsize fbytes:Nat}{fzero:Value}{fd:TypeDesc}(hx:ρ x=.np r i j0)(ht:P.underlying t=some (.struct fs))(hf:fs[f]? =some fl)(hft:TyOk P fl.type fsize fbytes fzero fd)(hz:Nat.beq fsize 0=false)(hq:Nat.beq (j0+fl.offset) q=true):
 EvQ P ⟨dst,.fieldAddr t x f,ty,pos,af,gu⟩ ρ σ (.np r i q):=by
 rw[<-Nat.eq_of_beq_eq_true hq];exact V8a hx ht hf hft hz
theorem kpa{x:Operand}{t:TypeId}{r i k0 j0 f q:Nat}{fs:Array Field}{fl:Field}{fsize fbytes:Nat}{fzero:Value}{fd:TypeDesc}(hx:ρ x=.hnp r i k0 j0)(ht:P.underlying t=some (.struct fs))(hf:fs[f]? =some fl)(hft:TyOk P fl.type fsize fbytes fzero fd)(hz:Nat.beq fsize 0=false)(hq:Nat.beq (j0+fl.offset) q=true):
 EvQ P ⟨dst,.fieldAddr t x f,ty,pos,af,gu⟩ ρ σ (.hnp r i k0 q):=by
 rw[<-Nat.eq_of_beq_eq_true hq];exact Vwa hx ht hf hft hz
theorem ev_min3{k:IntKind}{a b c:Int}{x y z:Operand}{ats:Array TypeId}(hx:ρ x=.pv (.b (.int k a)))(hy:ρ y=.pv (.b (.int k b)))(hz:ρ z=.pv (.b (.int k c))):EvQ P ⟨dst,.call ⟨.builtin .min, #[x,y,z],ats⟩,ty,pos,af,gu⟩ ρ σ (.pv (.b (.int k (min (min a b) c)))):=
 ⟨fun c=>by simp,fun g ρv h _=>by
  have h1:=h x (by simp[Op.operands,Call.operands]);have h2:=h y (by simp[Op.operands,Call.operands]);have h3:=h z (by simp[Op.operands,Call.operands]);rw[hx]at h1;rw[hy]at h2;rw[hz]at h3;have e1:=kda h1;have e2:=kda h2;have e3:=kda h3;refine ⟨.int k (min (min a b) c),?_,.pv (.b rfl)⟩;have q1:(if b < a then b else a)=min a b:=by omega
  have q2:(if c < min a b then c else min a b)=min (min a b) c:=by omega
  simp[execOp,resolve,Deferred.ofValue,invoke,builtin,Builtin.min_,Builtin.min2,e1,e2,e3,go_sem,q1,q2]⟩
end
section
variable {E:Env} {FR:Fr} {σ:Sto} {ty:TypeId} {pos:String} {af:Array Edge} {gu:Option (Nat × Bool)} {α β:Type} {F:α->List PV} {G2:β->List PV} {l:List α} {l2:List β} {e e2 t' :TypeId} {size size2 size' bytes' j j0 m r r2:Nat} {zero' :Value} {d' :TypeDesc} {x y:Operand} {n n2:Int} {v v' :α} {w2 w2' :β} {pcs:List PV}
theorem Kga(hx:FR.ev x=.np r n.toNat j0)(hr:σ.get r=some (.nrow e size j e2 size2 m (l.map F)))(hy:(FR.ev y).weak.cells=some (pcs.map .pv))(ht:TyOk E.P t' size' bytes' zero' d')(hz:Nat.beq pcs.length size' =true)
 (hv:idx l n=some v) (hle:Nat.ble (j0+pcs.length) (F v).length=true) (hj:(Nat.ble (j+1) j0 || Nat.ble (j0+pcs.length) j)=true) (hF' :F v' =(F v).take j0++pcs++(F v).drop (j0+pcs.length)):
 HvS E ⟨none,.store t' x y,ty,pos,af,gu⟩ FR σ (σ.upd r (.nrow e size j e2 size2 m ((l.set n.toNat v').map F))):=
 ⟨fun fr he _=>w9a ((he x (by simp[Op.operands,Call.operands])).trans hx) hr (by rw[he y (by simp[Op.operands,Call.operands])];exact hy) ht hz hv hle hj hF'⟩
theorem frLe_mp1{fr:Fr}:FrLe (fr.mp (AV.clr r2)) (fr.clrs [r2]):=fun d=>by
 rw[Fr.get_mp rfl,Fr.get_clrs];exact .inr (.inl (by simp[AV.clr,AV.clrs]))
theorem VLa(hx:FR.ev x=.np r n.toNat j0)(hr:σ.get r=some (.nrow e size j e2 size2 m (l.map F)))(hy:FR.ev y=.hs r2 0)(hr2:σ.get r2=some (.row e2 true size2 (l2.map G2)))(hne:Nat.beq r r2=false)(ht:TyOk E.P t' 1 bytes' zero' d')
 (hj:Nat.beq j0 j=true) (hv:idx l n=some v) (hm:n.toNat=m) (hjs:Nat.ble (j+1) (F v).length=true) (hF' :F v' =(F v).set j (.sl none (l2.map G2))):
 HvP E ⟨none,.store t' x y,ty,pos,af,gu⟩ FR σ [r2] (((σ.dels [r2]).mp (AV.clr r2)).upd r (.nrow e size j e2 size2 (m+1) ((l.set n.toNat v').map F))):=
 ⟨fun fr he _=>vQb (qFb ((he x (by simp[Op.operands,Call.operands])).trans hx) hr ((he y (by simp[Op.operands,Call.operands])).trans hy) hr2 hne ht hj hv hm hjs hF') frLe_mp1 wba⟩
end
end
section
section
variable {P:Program} {t:TypeId}
structure EqOkD (P:Program) (k:Nat) (t:TypeId) (x y:Value) (r:Bool):Prop where
 run:∀d w,(Op.equalIn (d+k) t x y).run P w=.ok r w
theorem qIb{k:Nat}{l:List Field}{xs ys:Array Value}{rs:List Bool}(ht:P.underlying t=some (.struct l.toArray))(hst:P.stoodInHeld t=false)(hl:rs.length=l.length)
 (h : ∀ (i : Nat) f r, l[i]? = some f -> rs[i]? = some r -> f.name ≠ "_" /\ ∃ x y, (∀ w, (part f.type xs f.offset).run P w = .ok x w) /\ (∀ w, (part f.type ys f.offset).run P w = .ok y w) /\ EqOkD P k f.type x y r) (d : Nat) (w : World) :
 (Op.equalIn (d+k+1) t (.agg xs) (.agg ys)).run P w=.ok (z2a rs) w:=by
 unfold Op.equalIn;simp only[Sem.run_bind,underlying,program,Sem.run,ht,Result.andThen_ok,Sem.run_pure,hst,Bool.false_eq_true,if_false];rw[List.forIn_toArray];have key:∀(l:List Field) (rs:List Bool),rs.length=l.length->
  (∀ (i : Nat) f r, l[i]? = some f -> rs[i]? = some r -> f.name ≠ "_" /\ ∃ x y, (∀ w, (part f.type xs f.offset).run P w = .ok x w) /\ (∀ w, (part f.type ys f.offset).run P w = .ok y w) /\ EqOkD P k f.type x y r) ->
  Sem.run P (forIn l (none,()) fun (f:Field) (_:Option Bool × Unit)=>
   if f.name ≠ "_" then do
    let a <-part f.type xs f.offset;let b <-part f.type ys f.offset;let c <-Op.equalIn (d+k) f.type a b
    if (!c)=true then pure (ForInStep.done (some false,())) else pure (ForInStep.yield (none,()))
   else pure (ForInStep.yield (none,()))) w=.ok ((if z2a rs then none else some false),()) w:=by
  intro l;induction l with
  | nil=>intro rs hl _;obtain rfl:rs=[]:=List.eq_nil_of_length_eq_zero (by simpa using hl);rfl
  | cons f l ih=>
   intro rs hl h;cases rs with
   | nil=>simp at hl
   | cons r rs=>
    obtain ⟨hn,x,y,h1,h2,h3⟩:=h 0 f r rfl rfl;have ih' :=ih rs (by simpa using hl) (fun i f r hf hr=>h (i+1) f r (by simpa using hf) (by simpa using hr));rw[List.forIn_cons,Sem.run_bind,if_pos hn,Sem.run_bind,h1,Result.andThen_ok,Sem.run_bind,h2,Result.andThen_ok,Sem.run_bind,h3.run,Result.andThen_ok];cases r with
    | false=>simp[Sem.run_pure,z2a]
    | true=>
     simp only[Bool.not_true,Bool.false_eq_true,if_false,Sem.run_pure,Result.andThen_ok];rw[ih'];simp[z2a]
 rw[key l rs hl h];cases z2a rs <;> rfl
theorem kVb{w:World}{vs:Array Value}{off:Nat}{s1 s2:Nat}{z:Value}{d:TypeDesc}(ht:TyOk P t s1 s2 z d)(hd:dAgg d=true):(part t vs off).run P w=.ok (.agg (vs.extract off (off+s1))) w:=by
 simp only[part,Sem.run_bind,ht.isAgg,Result.andThen_ok,hd,if_true,ht.sizeOf,Sem.run_pure]
inductive q2a (P:Program):Nat->List Field->List AV->List AV->List Bool->Prop
 | nil {i:Nat}:q2a P i [] [] [] []
 | int {i : Nat} {f : Field} {fs : List Field} {a b : Int} {k kk : IntKind} {xs ys : List AV} {rs : List Bool} {s1 s2 : Nat} {z : Value} (ho : f.offset = i) (hn : f.name ≠ "_") (ht : TyOk P f.type s1 s2 z (.int kk)) (h : q2a P (i + 1) fs xs ys rs) :
  q2a P i (f::fs) (.pv (.b (.int k a))::xs) (.pv (.b (.int k b))::ys) ((a==b)::rs)
 | str {i : Nat} {f : Field} {fs : List Field} {a b : Str} {xs ys : List AV} {rs : List Bool} {s1 s2 : Nat} {z : Value} (ho : f.offset = i) (hn : f.name ≠ "_") (ht : TyOk P f.type s1 s2 z .string) (h : q2a P (i + 1) fs xs ys rs) :
  q2a P i (f::fs) (.s a::xs) (.s b::ys) ((a==b)::rs)
 | bool {i : Nat} {f : Field} {fs : List Field} {a b : Bool} {xs ys : List AV} {rs : List Bool} {s1 s2 : Nat} {z : Value} (ho : f.offset = i) (hn : f.name ≠ "_") (ht : TyOk P f.type s1 s2 z .bool) (h : q2a P (i + 1) fs xs ys rs) :
  q2a P i (f::fs) (.bo a::xs) (.bo b::ys) ((a==b)::rs)
 | st {i n : Nat} {f : Field} {fs l1 : List Field} {xs ys : List AV} {rs rs1 : List Bool} {s2 : Nat} {z : Value} (ho : f.offset = i) (hn : f.name ≠ "_") (ht : TyOk P f.type n s2 z (.struct l1.toArray)) (hx : Nat.ble n xs.length = true) (hc : QTa P f.type) (hy : Nat.ble n ys.length = true)
  (h1:v4a P 0 l1 (xs.take n) (ys.take n) rs1) (h:q2a P (i+n) fs (xs.drop n) (ys.drop n) rs):q2a P i (f::fs) xs ys (z2a rs1::rs)
theorem vYb{g:G}{C:List AV}{vs:Array Value}(h:Rel g (.agg C) (.agg vs)){i n:Nat}(hn:n<=(C.drop i).length):Rel g (.agg ((C.drop i).take n)) (.agg (vs.extract i (i+n))):=by
 cases h with
 | agg hl hc hr=>
  simp only[List.length_drop]at hn;have hsz:(vs.extract i (i+n)).size=n:=by simp;omega
  have hget:∀q,q < n->(vs.extract i (i+n)).getD q undef=vs.getD (i+q) undef:=fun q hq=>by
   rw[Array.getD_eq_getD_getElem?,Array.getD_eq_getD_getElem?,Array.getElem?_extract];rw[if_pos (by omega)]
  refine .agg (by rw[hsz];simp;omega) (fun q hq=>?_) (fun q c hq=>?_)
  .rw[hsz]at hq;rw[hget q hq];exact hc _ (by omega)
  have hqn:q < n:=by have:=(List.getElem?_eq_some_iff.1 hq).1;simp at this;omega
  rw[hget q hqn];refine hr _ _ ?_;rw[List.getElem?_take_of_lt hqn,List.getElem?_drop]at hq;exact hq
theorem WNa{g:G}{vx vy:Array Value}{CX CY:List AV}(hx:Rel g (.agg CX) (.agg vx))(hy:Rel g (.agg CY) (.agg vy)):∀{n:Nat} {l:List Field} {xs ys:List AV} {rs:List Bool},q2a P n l xs ys rs->CX.drop n=xs->CY.drop n=ys->
 rs.length = l.length /\ ∀ (i : Nat) f r, l[i]? = some f -> rs[i]? = some r -> f.name ≠ "_" /\ ∃ x y, (∀ w, (part f.type vx f.offset).run P w = .ok x w) /\ (∀ w, (part f.type vy f.offset).run P w = .ok y w) /\ EqOkD P 2 f.type x y r := by
 have hx0:=hx;have hy0:=hy;cases hx with
 | agg hxl hxc hxr=>
  cases hy with
  | agg hyl hyc hyr=>
   have step:∀{n:Nat} {cx cy:AV} {xs ys:List AV},CX.drop n=cx::xs->CY.drop n=cy::ys->CX[n]? =some cx/\CY[n]? =some cy/\CX.drop (n+1)=xs/\CY.drop (n+1)=ys/\n < vx.size/\n < vy.size:=by
    intro n cx cy xs ys h1 h2;have a1:CX[n]? =some cx:=by have:=congrArg (fun l=>l[0]?) h1;simpa using this
    have a2:CY[n]? =some cy:=by have:=congrArg (fun l=>l[0]?) h2;simpa using this
    refine ⟨a1,a2,?_,?_,by rw[hxl];exact (List.getElem?_eq_some_iff.1 a1).1,by rw[hyl];exact (List.getElem?_eq_some_iff.1 a2).1⟩
    .rw[<-List.drop_drop,h1];rfl
    rw[<-List.drop_drop,h2];rfl
   intro n l xs ys rs h;induction h with
   | nil=>exact fun _ _=>⟨rfl,fun i f r hf=>by simp at hf⟩
   | @int i f fs a b k kk xs ys rs s1 s2 z ho hn ht h ih=>
    intro h1 h2;obtain ⟨a1,a2,a3,a4,a5,a6⟩:=step h1 h2;obtain ⟨ih1,ih2⟩:=ih a3 a4;refine ⟨by simp[ih1],fun q f' r hf hr=>?_⟩;cases q with
    | zero=>
     simp at hf hr;subst hf;subst hr;refine ⟨hn,vx.getD i undef,vy.getD i undef,fun w=>?_,fun w=>?_,⟨fun d w=>?_⟩⟩
     .rw[ho];exact vha ht rfl a5
     .rw[ho];exact vha ht rfl a6
     rw[kda (hxr i _ a1),kda (hyr i _ a2)];exact (eq_int ht.u).run (d+1) w
    | succ q=>exact ih2 q f' r (by simpa using hf) (by simpa using hr)
   | @str i f fs a b xs ys rs s1 s2 z ho hn ht h ih=>
    intro h1 h2;obtain ⟨a1,a2,a3,a4,a5,a6⟩:=step h1 h2;obtain ⟨ih1,ih2⟩:=ih a3 a4;refine ⟨by simp[ih1],fun q f' r hf hr=>?_⟩;cases q with
    | zero=>
     simp at hf hr;subst hf;subst hr;refine ⟨hn,vx.getD i undef,vy.getD i undef,fun w=>?_,fun w=>?_,⟨fun d w=>?_⟩⟩
     .rw[ho];exact vha ht rfl a5
     .rw[ho];exact vha ht rfl a6
     rw[kda (hxr i _ a1),kda (hyr i _ a2)];exact (eq_str ht.u).run (d+1) w
    | succ q=>exact ih2 q f' r (by simpa using hf) (by simpa using hr)
   | @bool i f fs a b xs ys rs s1 s2 z ho hn ht h ih=>
    intro h1 h2;obtain ⟨a1,a2,a3,a4,a5,a6⟩:=step h1 h2;obtain ⟨ih1,ih2⟩:=ih a3 a4;refine ⟨by simp[ih1],fun q f' r hf hr=>?_⟩;cases q with
    | zero=>
     simp at hf hr;subst hf;subst hr;refine ⟨hn,vx.getD i undef,vy.getD i undef,fun w=>?_,fun w=>?_,⟨fun d w=>?_⟩⟩
     .rw[ho];exact vha ht rfl a5
     .rw[ho];exact vha ht rfl a6
     rw[kda (hxr i _ a1),kda (hyr i _ a2)];exact (YXa ht.u).run (d+1) w
    | succ q=>exact ih2 q f' r (by simpa using hf) (by simpa using hr)
   | @st i n f fs l1 xs ys rs rs1 s2 z ho hn ht hx hc hy h1 h ih=>
    intro e1 e2;have hx' :=Nat.le_of_ble_eq_true hx;have hy' :=Nat.le_of_ble_eq_true hy;obtain ⟨ih1,ih2⟩:=ih (by rw[<-e1,List.drop_drop]) (by rw[<-e2,List.drop_drop]);refine ⟨by simp[ih1],fun q f' r hf hr=>?_⟩;cases q with
    | zero=>
     simp at hf hr;subst hf;subst hr;subst e1;subst e2;obtain ⟨p1,p2⟩:=Qaa (vYb hx0 hx') (vYb hy0 hy') h1 rfl rfl;refine ⟨hn,_,_,fun w=>by rw[ho];exact kVb ht rfl,fun w=>by rw[ho];exact kVb ht rfl,⟨fun d w=>JLa ht.u hc.s p1 p2 d w⟩⟩
    | succ q=>exact ih2 q f' r (by simpa using hf) (by simpa using hr)
variable {ρ:Operand->AV} {σ:Sto} {dst:Option Nat} {ty:TypeId} {pos:String} {af:Array Edge} {gu:Option (Nat × Bool)} {x y:Operand} {ss sb:Nat} {sz:Value}
theorem Q3a{g:G}{vx vy:Value}{CX CY:List AV}{l:List Field}{rs:List Bool}(hx:Rel g (.agg CX) vx)(hy:Rel g (.agg CY) vy)(ht:P.underlying t=some (.struct l.toArray))(hc:QTa P t)(h:q2a P 0 l CX CY rs)(w:World):
 (Op.equal t vx vy).run P w=.ok (z2a rs) w/\∃a b,vx=.agg a/\vy=.agg b:=by
 cases hx with
 | agg h1 h2 h3=>
  cases hy with
  | agg k1 k2 k3=>
   obtain ⟨e1,e2⟩:=WNa (.agg h1 h2 h3) (.agg k1 k2 k3) h rfl rfl;exact ⟨qIb ht hc.s e1 e2 9997 w,_,_,rfl,rfl⟩
theorem J0a{CX CY:List AV}{l:List Field}{rs:List Bool}{t' :TypeId}(hx:ρ x=.agg CX)(hy:ρ y=.agg CY)(ht:TyOk P t ss sb sz (.struct l.toArray))(hc:QTa P t)(h:q2a P 0 l CX CY rs):
 EvQ P ⟨dst,.binOp .neq t x y t',ty,pos,af,gu⟩ ρ σ (.bo (!z2a rs)):=
 ⟨fun c=>by simp,fun g ρv hh _=>by
  obtain ⟨h1,h2⟩:=ops2 (o:=⟨dst,.binOp .neq t x y t',ty,pos,af,gu⟩) (x:=x) (y:=y) rfl hh;rw[hx]at h1;rw[hy]at h2;obtain ⟨he,a,b,ea,eb⟩:=Q3a h1 h2 ht.u hc h g.w;refine ⟨.bool (!z2a rs),?_,.pv (.b rfl)⟩;show Sem.run P (do let v <-(do eqGuard .neq t x y (ρv x) (ρv y);binOp .neq t (ρv x) (ρv y));pure (Next.value v)) g.w=_;rw[ea,eb]at he ⊢;simp[eqGuard,binOp,Sem.run_bind,he,Sem.run_pure,program,Sem.run,hc.g]⟩
end
end
theorem mixed:prog.follows .mixedOrders=true:=by kernel_rfl
theorem z7a:QTa prog 35:=⟨by kernel_rfl,by kernel_rfl⟩
theorem Jea:QTa prog 117:=⟨by kernel_rfl,by kernel_rfl⟩
theorem ZGa:QTa prog 59:=⟨by kernel_rfl,by kernel_rfl⟩
theorem vEa:QTa prog 61:=⟨by kernel_rfl,by kernel_rfl⟩
theorem Wba:QTa prog 63:=⟨by kernel_rfl,by kernel_rfl⟩
theorem vFa:QTa prog 96:=⟨by kernel_rfl,by kernel_rfl⟩
theorem WOa (w : World) : Sem.run prog (Array.mapM (fun (f : Field) => do pure (f.offset, <- sizeOf f.type)) #[⟨"Entry", 3, 0, false, "", "", 0⟩, ⟨"Domain", 9, 1, false, "", "", 8⟩, ⟨"To", 49, 2, false, "", "", 24⟩]) w = .ok #[(0, 1), (1, 1), (2, 1)] w := by kernel_rfl
theorem J1a (w : World) : Sem.run prog (Array.mapM (fun (f : Field) => do pure (f.offset, <- sizeOf f.type)) #[⟨"Id", 3, 0, false, "", "", 0⟩, ⟨"Mail", 33, 1, false, "", "", 8⟩, ⟨"Since", 3, 6, false, "", "", 112⟩, ⟨"Tries", 3, 7, false, "", "", 120⟩, ⟨"Due", 3, 8, false, "", "", 128⟩, ⟨"To", 55, 9, false, "", "", 136⟩]) w = .ok #[(0, 1), (1, 5), (6, 1), (7, 1), (8, 1), (9, 1)] w := by kernel_rfl
theorem Wca (w : World) : Sem.run prog (Array.mapM (fun (f : Field) => do pure (f.offset, <- sizeOf f.type)) #[⟨"From", 9, 0, false, "", "", 0⟩, ⟨"To", 25, 1, false, "", "", 16⟩, ⟨"Id", 9, 2, false, "", "", 40⟩]) w = .ok #[(0, 1), (1, 1), (2, 1)] w := by kernel_rfl
theorem J2a (w : World) : Sem.run prog (Array.mapM (fun (f : Field) => do pure (f.offset, <- sizeOf f.type)) #[⟨"Code", 3, 0, false, "", "", 0⟩, ⟨"Index", 3, 1, false, "", "", 8⟩]) w = .ok #[(0, 1), (1, 1)] w := by kernel_rfl
theorem J3a (w : World) : Sem.run prog (Array.mapM (fun (f : Field) => do pure (f.offset, <- sizeOf f.type)) #[⟨"Name", 9, 0, false, "", "", 0⟩, ⟨"Value", 9, 1, false, "", "", 16⟩]) w = .ok #[(0, 1), (1, 1)] w := by kernel_rfl
theorem kcb (w : World) : Sem.run prog (Array.mapM (fun (f : Field) => do pure (f.offset, <- sizeOf f.type)) #[⟨"Envelope", 27, 0, false, "", "", 0⟩, ⟨"Message", 31, 3, false, "", "", 56⟩]) w = .ok #[(0, 3), (3, 2)] w := by kernel_rfl
theorem WPa (w : World) : Sem.run prog (Array.mapM (fun (f : Field) => do pure (f.offset, <- sizeOf f.type)) #[⟨"Fields", 28, 0, false, "", "", 0⟩, ⟨"Body", 29, 1, false, "", "", 24⟩]) w = .ok #[(0, 1), (1, 1)] w := by kernel_rfl
theorem WQa (w : World) : Sem.run prog (Array.mapM (fun (f : Field) => do pure (f.offset, <- sizeOf f.type)) #[⟨"Entry", 3, 0, false, "", "", 0⟩, ⟨"Number", 3, 1, false, "", "", 8⟩, ⟨"Result", 3, 2, false, "", "", 16⟩]) w = .ok #[(0, 1), (1, 1), (2, 1)] w := by kernel_rfl
theorem J4a (w : World) : Sem.run prog (Array.mapM (fun (f : Field) => do pure (f.offset, <- sizeOf f.type)) #[⟨"Entries", 22, 0, false, "", "", 0⟩, ⟨"Next", 3, 1, false, "", "", 24⟩]) w = .ok #[(0, 1), (1, 1)] w := by kernel_rfl
theorem Vxa (w : World) : Sem.run prog (Array.mapM (fun (f : Field) => do pure (f.offset, <- sizeOf f.type)) #[⟨"Address", 9, 0, false, "", "", 0⟩, ⟨"Notify", 3, 1, false, "", "", 16⟩]) w = .ok #[(0, 1), (1, 1)] w := by kernel_rfl
theorem WRa (w : World) : Sem.run prog (Array.mapM (fun (f : Field) => do pure (f.offset, <- sizeOf f.type)) #[⟨"Recipient", 61, 0, false, "", "", 0⟩, ⟨"Result", 3, 2, false, "", "", 24⟩, ⟨"Busy", 4, 3, false, "", "", 32⟩]) w = .ok #[(0, 2), (2, 1), (3, 1)] w := by kernel_rfl
theorem J5a (w : World) : Sem.run prog (Array.mapM (fun (f : Field) => do pure (f.offset, <- sizeOf f.type)) #[⟨"entry", 3, 0, false, "", "posthouse/queue", 0⟩, ⟨"domain", 9, 1, false, "", "posthouse/queue", 8⟩]) w = .ok #[(0, 1), (1, 1)] w := by kernel_rfl
theorem vTa : TyOk prog 51 3 48 (.agg #[.int .i64 0, .string ⟨#[]⟩, .slice none 0 0]) (.struct #[⟨"Entry", 3, 0, false, "", "", 0⟩, ⟨"Domain", 9, 1, false, "", "", 8⟩, ⟨"To", 49, 2, false, "", "", 24⟩]) := ⟨by kernel_rfl, by kernel_rfl⟩
theorem zga : TyOk prog 57 10 160 (.agg #[.int .i64 0, .string ⟨#[]⟩, .slice none 0 0, .string ⟨#[]⟩, .slice none 0 0, .slice none 0 0, .int .i64 0, .int .i64 0, .int .i64 0, .slice none 0 0]) (.struct #[⟨"Id", 3, 0, false, "", "", 0⟩, ⟨"Mail", 33, 1, false, "", "", 8⟩, ⟨"Since", 3, 6, false, "", "", 112⟩, ⟨"Tries", 3, 7, false, "", "", 120⟩, ⟨"Due", 3, 8, false, "", "", 128⟩, ⟨"To", 55, 9, false, "", "", 136⟩]) := ⟨by kernel_rfl, by kernel_rfl⟩
theorem ZHa : TyOk prog 27 3 56 (.agg #[.string ⟨#[]⟩, .slice none 0 0, .string ⟨#[]⟩]) (.struct #[⟨"From", 9, 0, false, "", "", 0⟩, ⟨"To", 25, 1, false, "", "", 16⟩, ⟨"Id", 9, 2, false, "", "", 40⟩]) := ⟨by kernel_rfl, by kernel_rfl⟩
theorem z9a : TyOk prog 35 2 16 (.agg #[.int .i64 0, .int .i64 0]) (.struct #[⟨"Code", 3, 0, false, "", "", 0⟩, ⟨"Index", 3, 1, false, "", "", 8⟩]) := ⟨by kernel_rfl, by kernel_rfl⟩
theorem qba : TyOk prog 117 2 32 (.agg #[.string ⟨#[]⟩, .string ⟨#[]⟩]) (.struct #[⟨"Name", 9, 0, false, "", "", 0⟩, ⟨"Value", 9, 1, false, "", "", 16⟩]) := ⟨by kernel_rfl, by kernel_rfl⟩
theorem z6a : TyOk prog 33 5 104 (.agg #[.string ⟨#[]⟩, .slice none 0 0, .string ⟨#[]⟩, .slice none 0 0, .slice none 0 0]) (.struct #[⟨"Envelope", 27, 0, false, "", "", 0⟩, ⟨"Message", 31, 3, false, "", "", 56⟩]) := ⟨by kernel_rfl, by kernel_rfl⟩
theorem qma : TyOk prog 31 2 48 (.agg #[.slice none 0 0, .slice none 0 0]) (.struct #[⟨"Fields", 28, 0, false, "", "", 0⟩, ⟨"Body", 29, 1, false, "", "", 24⟩]) := ⟨by kernel_rfl, by kernel_rfl⟩
theorem vba : TyOk prog 59 3 24 (.agg #[.int .i64 0, .int .i64 0, .int .i64 0]) (.struct #[⟨"Entry", 3, 0, false, "", "", 0⟩, ⟨"Number", 3, 1, false, "", "", 8⟩, ⟨"Result", 3, 2, false, "", "", 16⟩]) := ⟨by kernel_rfl, by kernel_rfl⟩
theorem qca : TyOk prog 24 2 32 (.agg #[.slice none 0 0, .int .i64 0]) (.struct #[⟨"Entries", 22, 0, false, "", "", 0⟩, ⟨"Next", 3, 1, false, "", "", 24⟩]) := ⟨by kernel_rfl, by kernel_rfl⟩
theorem zJa : TyOk prog 61 2 24 (.agg #[.string ⟨#[]⟩, .int .i64 0]) (.struct #[⟨"Address", 9, 0, false, "", "", 0⟩, ⟨"Notify", 3, 1, false, "", "", 16⟩]) := ⟨by kernel_rfl, by kernel_rfl⟩
theorem zwa : TyOk prog 63 4 40 (.agg #[.string ⟨#[]⟩, .int .i64 0, .int .i64 0, .bool false]) (.struct #[⟨"Recipient", 61, 0, false, "", "", 0⟩, ⟨"Result", 3, 2, false, "", "", 24⟩, ⟨"Busy", 4, 3, false, "", "", 32⟩]) := ⟨by kernel_rfl, by kernel_rfl⟩
theorem qWa:TyOk prog 4 1 1 (.bool false) .bool:=⟨by kernel_rfl,by kernel_rfl⟩
theorem zza:TyOk prog 3 1 8 (.int .i64 0) (.int .i64):=⟨by kernel_rfl,by kernel_rfl⟩
theorem ty_int32:TyOk prog 21 1 4 (.int .i32 0) (.int .i32):=⟨by kernel_rfl,by kernel_rfl⟩
theorem kaa:TyOk prog 89 1 8 (.map none) (.map 96 4):=⟨by kernel_rfl,by kernel_rfl⟩
theorem kca:TyOk prog 88 1 8 (.map none) (.map 9 3):=⟨by kernel_rfl,by kernel_rfl⟩
theorem kWa:TyOk prog 127 1 8 (.map none) (.map 9 49):=⟨by kernel_rfl,by kernel_rfl⟩
theorem vna : TyOk prog 96 2 24 (.agg #[.int .i64 0, .string ⟨#[]⟩]) (.struct #[⟨"entry", 3, 0, false, "", "posthouse/queue", 0⟩, ⟨"domain", 9, 1, false, "", "posthouse/queue", 8⟩]) := ⟨by kernel_rfl, by kernel_rfl⟩
theorem yma:TyOk prog 42 1 24 (.slice none 0 0) (.slice 51):=⟨by kernel_rfl,by kernel_rfl⟩
theorem zla:TyOk prog 22 1 24 (.slice none 0 0) (.slice 57):=⟨by kernel_rfl,by kernel_rfl⟩
theorem kFa:TyOk prog 28 1 24 (.slice none 0 0) (.slice 117):=⟨by kernel_rfl,by kernel_rfl⟩
theorem v5a:TyOk prog 52 1 24 (.slice none 0 0) (.slice 59):=⟨by kernel_rfl,by kernel_rfl⟩
theorem zOa:TyOk prog 25 1 24 (.slice none 0 0) (.slice 61):=⟨by kernel_rfl,by kernel_rfl⟩
theorem zia:TyOk prog 55 1 24 (.slice none 0 0) (.slice 63):=⟨by kernel_rfl,by kernel_rfl⟩
theorem vZb:TyOk prog 97 1 24 (.slice none 0 0) (.slice 4):=⟨by kernel_rfl,by kernel_rfl⟩
theorem qxa:TyOk prog 49 1 24 (.slice none 0 0) (.slice 3):=⟨by kernel_rfl,by kernel_rfl⟩
theorem Wda:TyOk prog 98 1 24 (.slice none 0 0) (.slice 9):=⟨by kernel_rfl,by kernel_rfl⟩
theorem zMa:TyOk prog 29 1 24 (.slice none 0 0) (.slice 5):=⟨by kernel_rfl,by kernel_rfl⟩
theorem zIa:TyOk prog 9 1 16 (.string ⟨#[]⟩) .string:=⟨by kernel_rfl,by kernel_rfl⟩
theorem v0b:TyOk prog 124 1 8 (.int .u64 0) (.int .u64):=⟨by kernel_rfl,by kernel_rfl⟩
theorem qya:TyOk prog 5 1 1 (.int .u8 0) (.int .u8):=⟨by kernel_rfl,by kernel_rfl⟩
def tab : Tab := [(51, ⟨3, 48, (.agg #[.int .i64 0, .string ⟨#[]⟩, .slice none 0 0]), (.struct #[⟨"Entry", 3, 0, false, "", "", 0⟩, ⟨"Domain", 9, 1, false, "", "", 8⟩, ⟨"To", 49, 2, false, "", "", 24⟩]), (some #[(0, 1), (1, 1), (2, 1)])⟩), (57, ⟨10, 160, (.agg #[.int .i64 0, .string ⟨#[]⟩, .slice none 0 0, .string ⟨#[]⟩, .slice none 0 0, .slice none 0 0, .int .i64 0, .int .i64 0, .int .i64 0, .slice none 0 0]), (.struct #[⟨"Id", 3, 0, false, "", "", 0⟩, ⟨"Mail", 33, 1, false, "", "", 8⟩, ⟨"Since", 3, 6, false, "", "", 112⟩, ⟨"Tries", 3, 7, false, "", "", 120⟩, ⟨"Due", 3, 8, false, "", "", 128⟩, ⟨"To", 55, 9, false, "", "", 136⟩]), (some #[(0, 1), (1, 5), (6, 1), (7, 1), (8, 1), (9, 1)])⟩), (27, ⟨3, 56, (.agg #[.string ⟨#[]⟩, .slice none 0 0, .string ⟨#[]⟩]), (.struct #[⟨"From", 9, 0, false, "", "", 0⟩, ⟨"To", 25, 1, false, "", "", 16⟩, ⟨"Id", 9, 2, false, "", "", 40⟩]), (some #[(0, 1), (1, 1), (2, 1)])⟩), (35, ⟨2, 16, (.agg #[.int .i64 0, .int .i64 0]), (.struct #[⟨"Code", 3, 0, false, "", "", 0⟩, ⟨"Index", 3, 1, false, "", "", 8⟩]), (some #[(0, 1), (1, 1)])⟩), (117, ⟨2, 32, (.agg #[.string ⟨#[]⟩, .string ⟨#[]⟩]), (.struct #[⟨"Name", 9, 0, false, "", "", 0⟩, ⟨"Value", 9, 1, false, "", "", 16⟩]), (some #[(0, 1), (1, 1)])⟩), (33, ⟨5, 104, (.agg #[.string ⟨#[]⟩, .slice none 0 0, .string ⟨#[]⟩, .slice none 0 0, .slice none 0 0]), (.struct #[⟨"Envelope", 27, 0, false, "", "", 0⟩, ⟨"Message", 31, 3, false, "", "", 56⟩]), (some #[(0, 3), (3, 2)])⟩), (31, ⟨2, 48, (.agg #[.slice none 0 0, .slice none 0 0]), (.struct #[⟨"Fields", 28, 0, false, "", "", 0⟩, ⟨"Body", 29, 1, false, "", "", 24⟩]), (some #[(0, 1), (1, 1)])⟩), (59, ⟨3, 24, (.agg #[.int .i64 0, .int .i64 0, .int .i64 0]), (.struct #[⟨"Entry", 3, 0, false, "", "", 0⟩, ⟨"Number", 3, 1, false, "", "", 8⟩, ⟨"Result", 3, 2, false, "", "", 16⟩]), (some #[(0, 1), (1, 1), (2, 1)])⟩), (24, ⟨2, 32, (.agg #[.slice none 0 0, .int .i64 0]), (.struct #[⟨"Entries", 22, 0, false, "", "", 0⟩, ⟨"Next", 3, 1, false, "", "", 24⟩]), (some #[(0, 1), (1, 1)])⟩), (61, ⟨2, 24, (.agg #[.string ⟨#[]⟩, .int .i64 0]), (.struct #[⟨"Address", 9, 0, false, "", "", 0⟩, ⟨"Notify", 3, 1, false, "", "", 16⟩]), (some #[(0, 1), (1, 1)])⟩), (63, ⟨4, 40, (.agg #[.string ⟨#[]⟩, .int .i64 0, .int .i64 0, .bool false]), (.struct #[⟨"Recipient", 61, 0, false, "", "", 0⟩, ⟨"Result", 3, 2, false, "", "", 24⟩, ⟨"Busy", 4, 3, false, "", "", 32⟩]), (some #[(0, 2), (2, 1), (3, 1)])⟩), (4, ⟨1, 1, (.bool false), .bool, none⟩), (3, ⟨1, 8, (.int .i64 0), (.int .i64), none⟩), (21, ⟨1, 4, (.int .i32 0), (.int .i32), none⟩), (89, ⟨1, 8, (.map none), (.map 96 4), none⟩), (88, ⟨1, 8, (.map none), (.map 9 3), none⟩), (127, ⟨1, 8, (.map none), (.map 9 49), none⟩), (96, ⟨2, 24, (.agg #[.int .i64 0, .string ⟨#[]⟩]), (.struct #[⟨"entry", 3, 0, false, "", "posthouse/queue", 0⟩, ⟨"domain", 9, 1, false, "", "posthouse/queue", 8⟩]), (some #[(0, 1), (1, 1)])⟩), (42, ⟨1, 24, (.slice none 0 0), (.slice 51), none⟩), (22, ⟨1, 24, (.slice none 0 0), (.slice 57), none⟩), (28, ⟨1, 24, (.slice none 0 0), (.slice 117), none⟩), (52, ⟨1, 24, (.slice none 0 0), (.slice 59), none⟩), (25, ⟨1, 24, (.slice none 0 0), (.slice 61), none⟩), (55, ⟨1, 24, (.slice none 0 0), (.slice 63), none⟩), (97, ⟨1, 24, (.slice none 0 0), (.slice 4), none⟩), (49, ⟨1, 24, (.slice none 0 0), (.slice 3), none⟩), (98, ⟨1, 24, (.slice none 0 0), (.slice 9), none⟩), (29, ⟨1, 24, (.slice none 0 0), (.slice 5), none⟩), (9, ⟨1, 16, (.string ⟨#[]⟩), .string, none⟩), (124, ⟨1, 8, (.int .u64 0), (.int .u64), none⟩), (5, ⟨1, 1, (.int .u8 0), (.int .u8), none⟩)]
theorem tk:kNa prog tab:=(q1a vTa WOa (q1a zga J1a (q1a ZHa Wca (q1a z9a J2a (q1a qba J3a (q1a z6a kcb (q1a qma WPa (q1a vba WQa (q1a qca J4a (q1a zJa Vxa (q1a zwa WRa (kQa qWa (kQa zza (kQa ty_int32 (kQa kaa (kQa kca (kQa kWa (q1a vna J5a (kQa yma (kQa zla (kQa kFa (kQa v5a (kQa zOa (kQa zia (kQa vZb (kQa qxa (kQa Wda (kQa zMa (kQa zIa (kQa v0b (kQa qya tab_nil)))))))))))))))))))))))))))))))
def zpa.ok(x:zpa):Prop:=ok64 x.Code/\ok64 x.Index
def zpa.bk(x:zpa):Nat:=(fun _=>1) x.Code+(fun _=>1) x.Index+1
instance:Inhabited zpa:=⟨⟨default,default⟩⟩
def jja.ok(x:jja):Prop:=WKa x.Address/\(okL WKa) x.To
def jja.bk(x:jja):Nat:=(fun s=>s.length+1) x.Address+(bkL (fun s=>s.length+1)) x.To+1
instance:Inhabited jja:=⟨⟨default,default⟩⟩
def zca.ok(x:zca):Prop:=WKa x.Address/\ok64 x.Notify
def zca.bk(x:zca):Nat:=(fun s=>s.length+1) x.Address+(fun _=>1) x.Notify+1
instance:Inhabited zca:=⟨⟨default,default⟩⟩
def zCa.ok(x:zCa):Prop:=WKa x.From/\(okL zca.ok) x.To/\WKa x.Id
def zCa.bk(x:zCa):Nat:=(fun s=>s.length+1) x.From+(bkL zca.bk) x.To+(fun s=>s.length+1) x.Id+1
instance:Inhabited zCa:=⟨⟨default,default,default⟩⟩
def zha.ok(x:zha):Prop:=WKa x.Name/\WKa x.Value
def zha.bk(x:zha):Nat:=(fun s=>s.length+1) x.Name+(fun s=>s.length+1) x.Value+1
instance:Inhabited zha:=⟨⟨default,default⟩⟩
def zua.ok(x:zua):Prop:=(okL zha.ok) x.Fields/\(okL (fun _=>True)) x.Body
def zua.bk(x:zua):Nat:=(bkL zha.bk) x.Fields+(bkL (fun _=>1)) x.Body+1
instance:Inhabited zua:=⟨⟨default,default⟩⟩
def ksa.ok(x:ksa):Prop:=zCa.ok x.Envelope/\zua.ok x.Message
def ksa.bk(x:ksa):Nat:=zCa.bk x.Envelope+zua.bk x.Message+1
instance:Inhabited ksa:=⟨⟨default,default⟩⟩
def zda.ok(x:zda):Prop:=zca.ok x.Recipient/\ok64 x.Result/\(fun _=>True) x.Busy
def zda.bk(x:zda):Nat:=zca.bk x.Recipient+(fun _=>1) x.Result+(fun _=>1) x.Busy+1
instance:Inhabited zda:=⟨⟨default,default,default⟩⟩
def zba.ok(x:zba):Prop:=ok64 x.Id/\ksa.ok x.Mail/\ok64 x.Since/\ok64 x.Tries/\ok64 x.Due/\(okL zda.ok) x.To
def zba.bk(x:zba):Nat:=(fun _=>1) x.Id+ksa.bk x.Mail+(fun _=>1) x.Since+(fun _=>1) x.Tries+(fun _=>1) x.Due+(bkL zda.bk) x.To+1
instance:Inhabited zba:=⟨⟨default,default,default,default,default,default⟩⟩
def zna.ok(x:zna):Prop:=(okL zba.ok) x.Entries/\ok64 x.Next
def zna.bk(x:zna):Nat:=(bkL zba.bk) x.Entries+(fun _=>1) x.Next+1
instance:Inhabited zna:=⟨⟨default,default⟩⟩
def zka.ok(x:zka):Prop:=ok64 x.Entry/\WKa x.Domain/\(okL ok64) x.To
def zka.bk(x:zka):Nat:=(fun _=>1) x.Entry+(fun s=>s.length+1) x.Domain+(bkL (fun _=>1)) x.To+1
instance:Inhabited zka:=⟨⟨default,default,default⟩⟩
def zja.ok(x:zja):Prop:=ok64 x.Entry/\ok64 x.Number/\ok64 x.Result
def zja.bk(x:zja):Nat:=(fun _=>1) x.Entry+(fun _=>1) x.Number+(fun _=>1) x.Result+1
instance:Inhabited zja:=⟨⟨default,default,default⟩⟩
theorem wMa:wQa prog 3 1 cI ok64 (fun _=>1):=opens_I zza.u (by kernel_rfl)
theorem q3a:wQa prog 9 1 cS WKa (fun s=>s.length+1):=opens_S zIa.u (by kernel_rfl)
theorem yna:wQa prog 61 2 zca.pc zca.ok zca.bk:=⟨by kernel_rfl,fun _=>rfl,fun {H enc W fuel cs d} h=>by
 obtain ⟨xs,n,_,rfl,hl,hlen,hf⟩:=DataW.trod_struct zJa.u h;have hl2:cs.length=2:=hl.trans (by kernel_rfl)
 match xs,hlen with
 | [y0,y1],_=>
  obtain ⟨x0,r0,o0,b0⟩:=q3a.op (show _=some y0 from hf 0 _ rfl)
  replace r0:RelC W _ (List.take (prog.cellsOf 9) (List.drop 0 cs)):=r0
  rw[q3a.cells]at r0;obtain ⟨x1,r1,o1,b1⟩:=wMa.op (show _=some y1 from hf 1 _ rfl)
  replace r1:RelC W _ (List.take (prog.cellsOf 3) (List.drop 1 cs)):=r1
  rw[wMa.cells]at r1;exact ⟨⟨x0,x1⟩,(kka (off:=0) rfl r0 (kka (off:=1) rfl r1 (yAa hl2))),⟨o0,o1⟩,by simp only[List.map,Rows.uptoBulk,Rows.uptoBulkAll,zca.bk];omega⟩⟩
theorem jna:wQa prog 25 1 (cL zca.pc) (okL zca.ok) (bkL zca.bk):=Q0a yna rfl zOa.u (by kernel_rfl)
theorem ZIa:wQa prog 27 3 zCa.pc zCa.ok zCa.bk:=⟨by kernel_rfl,fun _=>rfl,fun {H enc W fuel cs d} h=>by
 obtain ⟨xs,n,_,rfl,hl,hlen,hf⟩:=DataW.trod_struct ZHa.u h;have hl2:cs.length=3:=hl.trans (by kernel_rfl)
 match xs,hlen with
 | [y0,y1,y2],_=>
  obtain ⟨x0,r0,o0,b0⟩:=q3a.op (show _=some y0 from hf 0 _ rfl)
  replace r0:RelC W _ (List.take (prog.cellsOf 9) (List.drop 0 cs)):=r0
  rw[q3a.cells]at r0;obtain ⟨x1,r1,o1,b1⟩:=jna.op (show _=some y1 from hf 1 _ rfl)
  replace r1:RelC W _ (List.take (prog.cellsOf 25) (List.drop 1 cs)):=r1
  rw[jna.cells]at r1;obtain ⟨x2,r2,o2,b2⟩:=q3a.op (show _=some y2 from hf 2 _ rfl)
  replace r2:RelC W _ (List.take (prog.cellsOf 9) (List.drop 2 cs)):=r2
  rw[q3a.cells]at r2;exact ⟨⟨x0,x1,x2⟩,(kka (off:=0) rfl r0 (kka (off:=1) rfl r1 (kka (off:=2) rfl r2 (yAa hl2)))),⟨o0,o1,o2⟩,by simp only[List.map,Rows.uptoBulk,Rows.uptoBulkAll,zCa.bk];omega⟩⟩
theorem J6a:wQa prog 117 2 zha.pc zha.ok zha.bk:=⟨by kernel_rfl,fun _=>rfl,fun {H enc W fuel cs d} h=>by
 obtain ⟨xs,n,_,rfl,hl,hlen,hf⟩:=DataW.trod_struct qba.u h;have hl2:cs.length=2:=hl.trans (by kernel_rfl)
 match xs,hlen with
 | [y0,y1],_=>
  obtain ⟨x0,r0,o0,b0⟩:=q3a.op (show _=some y0 from hf 0 _ rfl)
  replace r0:RelC W _ (List.take (prog.cellsOf 9) (List.drop 0 cs)):=r0
  rw[q3a.cells]at r0;obtain ⟨x1,r1,o1,b1⟩:=q3a.op (show _=some y1 from hf 1 _ rfl)
  replace r1:RelC W _ (List.take (prog.cellsOf 9) (List.drop 1 cs)):=r1
  rw[q3a.cells]at r1;exact ⟨⟨x0,x1⟩,(kka (off:=0) rfl r0 (kka (off:=1) rfl r1 (yAa hl2))),⟨o0,o1⟩,by simp only[List.map,Rows.uptoBulk,Rows.uptoBulkAll,zha.bk];omega⟩⟩
theorem Kya:wQa prog 28 1 (cL zha.pc) (okL zha.ok) (bkL zha.bk):=Q0a J6a rfl kFa.u (by kernel_rfl)
theorem op_uint8:wQa prog 5 1 cU (fun _=>True) (fun _=>1):=opens_U qya.u (by kernel_rfl)
theorem Yqa:wQa prog 29 1 (cL cU) (okL (fun _=>True)) (bkL (fun _=>1)):=Q0a op_uint8 rfl zMa.u (by kernel_rfl)
theorem Kza:wQa prog 31 2 zua.pc zua.ok zua.bk:=⟨by kernel_rfl,fun _=>rfl,fun {H enc W fuel cs d} h=>by
 obtain ⟨xs,n,_,rfl,hl,hlen,hf⟩:=DataW.trod_struct qma.u h;have hl2:cs.length=2:=hl.trans (by kernel_rfl)
 match xs,hlen with
 | [y0,y1],_=>
  obtain ⟨x0,r0,o0,b0⟩:=Kya.op (show _=some y0 from hf 0 _ rfl)
  replace r0:RelC W _ (List.take (prog.cellsOf 28) (List.drop 0 cs)):=r0
  rw[Kya.cells]at r0;obtain ⟨x1,r1,o1,b1⟩:=Yqa.op (show _=some y1 from hf 1 _ rfl)
  replace r1:RelC W _ (List.take (prog.cellsOf 29) (List.drop 1 cs)):=r1
  rw[Yqa.cells]at r1;exact ⟨⟨x0,x1⟩,(kka (off:=0) rfl r0 (kka (off:=1) rfl r1 (yAa hl2))),⟨o0,o1⟩,by simp only[List.map,Rows.uptoBulk,Rows.uptoBulkAll,zua.bk];omega⟩⟩
theorem Wea:wQa prog 33 5 ksa.pc ksa.ok ksa.bk:=⟨by kernel_rfl,fun _=>rfl,fun {H enc W fuel cs d} h=>by
 obtain ⟨xs,n,_,rfl,hl,hlen,hf⟩:=DataW.trod_struct z6a.u h;have hl2:cs.length=5:=hl.trans (by kernel_rfl)
 match xs,hlen with
 | [y0,y1],_=>
  obtain ⟨x0,r0,o0,b0⟩:=ZIa.op (show _=some y0 from hf 0 _ rfl)
  replace r0:RelC W _ (List.take (prog.cellsOf 27) (List.drop 0 cs)):=r0
  rw[ZIa.cells]at r0;obtain ⟨x1,r1,o1,b1⟩:=Kza.op (show _=some y1 from hf 1 _ rfl)
  replace r1:RelC W _ (List.take (prog.cellsOf 31) (List.drop 3 cs)):=r1
  rw[Kza.cells]at r1;exact ⟨⟨x0,x1⟩,(kka (off:=0) rfl r0 (kka (off:=3) rfl r1 (yAa hl2))),⟨o0,o1⟩,by simp only[List.map,Rows.uptoBulk,Rows.uptoBulkAll,ksa.bk];omega⟩⟩
theorem v1b:wQa prog 4 1 cB (fun _=>True) (fun _=>1):=opens_B qWa.u (by kernel_rfl)
theorem WSa:wQa prog 63 4 zda.pc zda.ok zda.bk:=⟨by kernel_rfl,fun _=>rfl,fun {H enc W fuel cs d} h=>by
 obtain ⟨xs,n,_,rfl,hl,hlen,hf⟩:=DataW.trod_struct zwa.u h;have hl2:cs.length=4:=hl.trans (by kernel_rfl)
 match xs,hlen with
 | [y0,y1,y2],_=>
  obtain ⟨x0,r0,o0,b0⟩:=yna.op (show _=some y0 from hf 0 _ rfl)
  replace r0:RelC W _ (List.take (prog.cellsOf 61) (List.drop 0 cs)):=r0
  rw[yna.cells]at r0;obtain ⟨x1,r1,o1,b1⟩:=wMa.op (show _=some y1 from hf 1 _ rfl)
  replace r1:RelC W _ (List.take (prog.cellsOf 3) (List.drop 2 cs)):=r1
  rw[wMa.cells]at r1;obtain ⟨x2,r2,o2,b2⟩:=v1b.op (show _=some y2 from hf 2 _ rfl)
  replace r2:RelC W _ (List.take (prog.cellsOf 4) (List.drop 3 cs)):=r2
  rw[v1b.cells]at r2;exact ⟨⟨x0,x1,x2⟩,(kka (off:=0) rfl r0 (kka (off:=2) rfl r1 (kka (off:=3) rfl r2 (yAa hl2)))),⟨o0,o1,o2⟩,by simp only[List.map,Rows.uptoBulk,Rows.uptoBulkAll,zda.bk];omega⟩⟩
theorem Zja:wQa prog 55 1 (cL zda.pc) (okL zda.ok) (bkL zda.bk):=Q0a WSa rfl zia.u (by kernel_rfl)
theorem J7a:wQa prog 57 10 zba.pc zba.ok zba.bk:=⟨by kernel_rfl,fun _=>rfl,fun {H enc W fuel cs d} h=>by
 obtain ⟨xs,n,_,rfl,hl,hlen,hf⟩:=DataW.trod_struct zga.u h;have hl2:cs.length=10:=hl.trans (by kernel_rfl)
 match xs,hlen with
 | [y0,y1,y2,y3,y4,y5],_=>
  obtain ⟨x0,r0,o0,b0⟩:=wMa.op (show _=some y0 from hf 0 _ rfl)
  replace r0:RelC W _ (List.take (prog.cellsOf 3) (List.drop 0 cs)):=r0
  rw[wMa.cells]at r0;obtain ⟨x1,r1,o1,b1⟩:=Wea.op (show _=some y1 from hf 1 _ rfl)
  replace r1:RelC W _ (List.take (prog.cellsOf 33) (List.drop 1 cs)):=r1
  rw[Wea.cells]at r1;obtain ⟨x2,r2,o2,b2⟩:=wMa.op (show _=some y2 from hf 2 _ rfl)
  replace r2:RelC W _ (List.take (prog.cellsOf 3) (List.drop 6 cs)):=r2
  rw[wMa.cells]at r2;obtain ⟨x3,r3,o3,b3⟩:=wMa.op (show _=some y3 from hf 3 _ rfl)
  replace r3:RelC W _ (List.take (prog.cellsOf 3) (List.drop 7 cs)):=r3
  rw[wMa.cells]at r3;obtain ⟨x4,r4,o4,b4⟩:=wMa.op (show _=some y4 from hf 4 _ rfl)
  replace r4:RelC W _ (List.take (prog.cellsOf 3) (List.drop 8 cs)):=r4
  rw[wMa.cells]at r4;obtain ⟨x5,r5,o5,b5⟩:=Zja.op (show _=some y5 from hf 5 _ rfl)
  replace r5:RelC W _ (List.take (prog.cellsOf 55) (List.drop 9 cs)):=r5
  rw[Zja.cells]at r5;exact ⟨⟨x0,x1,x2,x3,x4,x5⟩,(kka (off:=0) rfl r0 (kka (off:=1) rfl r1 (kka (off:=6) rfl r2 (kka (off:=7) rfl r3 (kka (off:=8) rfl r4 (kka (off:=9) rfl r5 (yAa hl2))))))),⟨o0,o1,o2,o3,o4,o5⟩,by simp only[List.map,Rows.uptoBulk,Rows.uptoBulkAll,zba.bk];omega⟩⟩
theorem KAa:wQa prog 22 1 (cL zba.pc) (okL zba.ok) (bkL zba.bk):=Q0a J7a rfl zla.u (by kernel_rfl)
theorem J8a:wQa prog 24 2 zna.pc zna.ok zna.bk:=⟨by kernel_rfl,fun _=>rfl,fun {H enc W fuel cs d} h=>by
 obtain ⟨xs,n,_,rfl,hl,hlen,hf⟩:=DataW.trod_struct qca.u h;have hl2:cs.length=2:=hl.trans (by kernel_rfl)
 match xs,hlen with
 | [y0,y1],_=>
  obtain ⟨x0,r0,o0,b0⟩:=KAa.op (show _=some y0 from hf 0 _ rfl)
  replace r0:RelC W _ (List.take (prog.cellsOf 22) (List.drop 0 cs)):=r0
  rw[KAa.cells]at r0;obtain ⟨x1,r1,o1,b1⟩:=wMa.op (show _=some y1 from hf 1 _ rfl)
  replace r1:RelC W _ (List.take (prog.cellsOf 3) (List.drop 1 cs)):=r1
  rw[wMa.cells]at r1;exact ⟨⟨x0,x1⟩,(kka (off:=0) rfl r0 (kka (off:=1) rfl r1 (yAa hl2))),⟨o0,o1⟩,by simp only[List.map,Rows.uptoBulk,Rows.uptoBulkAll,zna.bk];omega⟩⟩
theorem Jfa:wQa prog 49 1 (cL cI) (okL ok64) (bkL (fun _=>1)):=Q0a wMa rfl qxa.u (by kernel_rfl)
theorem WTa:wQa prog 51 3 zka.pc zka.ok zka.bk:=⟨by kernel_rfl,fun _=>rfl,fun {H enc W fuel cs d} h=>by
 obtain ⟨xs,n,_,rfl,hl,hlen,hf⟩:=DataW.trod_struct vTa.u h;have hl2:cs.length=3:=hl.trans (by kernel_rfl)
 match xs,hlen with
 | [y0,y1,y2],_=>
  obtain ⟨x0,r0,o0,b0⟩:=wMa.op (show _=some y0 from hf 0 _ rfl)
  replace r0:RelC W _ (List.take (prog.cellsOf 3) (List.drop 0 cs)):=r0
  rw[wMa.cells]at r0;obtain ⟨x1,r1,o1,b1⟩:=q3a.op (show _=some y1 from hf 1 _ rfl)
  replace r1:RelC W _ (List.take (prog.cellsOf 9) (List.drop 1 cs)):=r1
  rw[q3a.cells]at r1;obtain ⟨x2,r2,o2,b2⟩:=Jfa.op (show _=some y2 from hf 2 _ rfl)
  replace r2:RelC W _ (List.take (prog.cellsOf 49) (List.drop 2 cs)):=r2
  rw[Jfa.cells]at r2;exact ⟨⟨x0,x1,x2⟩,(kka (off:=0) rfl r0 (kka (off:=1) rfl r1 (kka (off:=2) rfl r2 (yAa hl2)))),⟨o0,o1,o2⟩,by simp only[List.map,Rows.uptoBulk,Rows.uptoBulkAll,zka.bk];omega⟩⟩
def R_In(a0:Int)(a1:Int)(a2:Int):Option Bool:=
 ((bif decide (a1<=a0) then some (decide (a0<=a2)) else some false):Option Bool).bind fun (j1:Bool)=>some j1
def R_At(a0:Int)(a1:Int):Option zpa:=
 some ((zpa.mk a0 a1))
def qJa(a0:UInt8):Option Bool:=
 ((R_In ((a0.toNat:Int)) 97 122).bind fun v2=>(bif v2 then some true else (R_In ((a0.toNat:Int)) 65 90).bind fun v5=>(bif v5 then some true else (R_In ((a0.toNat:Int)) 48 57).bind fun v8=>some v8)):Option Bool).bind fun (j1:Bool)=>some j1
def Qka(a0:Str)(s1:Int):Option (Step Int (Unit ⊕ Int)):=
 (bif decide (s1 < (a0.length:Int)) then (idx a0 s1).bind fun v7=>(bif ((v7.toNat:Int)==64) then some (.out (.inr s1)) else some (.cont (w64 (s1+1)))) else some (.out (.inl (()))))
noncomputable def Yra(a0:Str):Option Int:=
 (iter (Qka a0) 0).bind (Sum.elim (fun b2=>some ((a0.length:Int))) (fun b3=>some b3))
def qXa(a0:Str)(s1:Int):Option (Step Int (Unit ⊕ Bool)):=
 (bif decide (s1 < (a0.length:Int)) then (idx a0 s1).bind fun v7=>((idx a0 s1).bind fun v10=>(bif ((v10.toNat:Int)==46) then (bif (s1==0) then some true else (bif (s1==(w64 ((a0.length:Int) - 1))) then some true else (idx a0 ((w64 (s1 - 1)))).bind fun v15=>some (((v15.toNat:Int)==46)))) else some false):Option Bool).bind fun (j9:Bool)=>(bif j9 then some (.out (.inr false)) else ((R_In ((v7.toNat:Int)) 97 122).bind fun v19=>(bif (!v19) then (R_In ((v7.toNat:Int)) 48 57).bind fun v22=>(bif (!v22) then (idx a0 s1).bind fun v25=>(bif ((v25.toNat:Int) !=45) then (idx a0 s1).bind fun v28=>some (((v28.toNat:Int) !=46)) else some false) else some false) else some false):Option Bool).bind fun (j18:Bool)=>(bif j18 then some (.out (.inr false)) else some (.cont (w64 (s1+1))))) else some (.out (.inl (()))))
noncomputable def jHa(a0:Str):Option Bool:=
 (iter (qXa a0) 0).bind (Sum.elim (fun b2=>(R_In ((a0.length:Int)) 1 60).bind fun v31=>some v31) (fun b3=>some b3))
def vUa(a0:Str)(v1:Int)(s3:Int):Option (Step Int (Unit ⊕ Bool)):=
 (bif decide (s3 < v1) then (idx a0 s3).bind fun v9=>((qJa v9).bind fun v12=>(bif (!v12) then (bif ((v9.toNat:Int) !=45) then (bif ((v9.toNat:Int) !=95) then (bif ((v9.toNat:Int) !=46) then (bif ((v9.toNat:Int) !=43) then some (((v9.toNat:Int) !=61)) else some false) else some false) else some false) else some false) else some false):Option Bool).bind fun (j11:Bool)=>(bif j11 then some (.out (.inr false)) else some (.cont (w64 (s3+1)))) else some (.out (.inl (()))))
noncomputable def wRa(a0:Str):Option Bool:=
 (Yra a0).bind fun v1=>(iter (vUa a0 v1) 0).bind (Sum.elim (fun b4=>((R_In v1 1 60).bind fun v21=>(bif v21 then (bif decide (v1 < (a0.length:Int)) then (cut a0 ((w64 (v1+1))) ((a0.length:Int))).bind fun v25=>(jHa v25).bind fun v27=>some v27 else some false) else some false):Option Bool).bind fun (j20:Bool)=>some j20) (fun b5=>some b5))
def zra(a0:Int)(a1:Int):Option zpa:=
 some ((zpa.mk a0 a1))
def kqa:Option zpa:=
 some ((zpa.mk 0 0))
def kba(a0:zpa):Option Bool:=
 some ((a0.Code !=0))
def qKa(a0:Int):Option Bool:=
 ((bif decide ((-68719476736)<=a0) then some (decide (a0<=68719476736)) else some false):Option Bool).bind fun (j1:Bool)=>some j1
def wia(a0:UInt8):Option Bool:=
 ((bif decide (97<=(a0.toNat:Int)) then (bif decide ((a0.toNat:Int)<=122) then some true else (bif decide (65<=(a0.toNat:Int)) then (bif decide ((a0.toNat:Int)<=90) then some true else (bif decide (48<=(a0.toNat:Int)) then some (decide ((a0.toNat:Int)<=57)) else some false)) else (bif decide (48<=(a0.toNat:Int)) then some (decide ((a0.toNat:Int)<=57)) else some false))) else (bif decide (65<=(a0.toNat:Int)) then (bif decide ((a0.toNat:Int)<=90) then some true else (bif decide (48<=(a0.toNat:Int)) then some (decide ((a0.toNat:Int)<=57)) else some false)) else (bif decide (48<=(a0.toNat:Int)) then some (decide ((a0.toNat:Int)<=57)) else some false))):Option Bool).bind fun (j1:Bool)=>some j1
def qna(a0:List Int)(s1:Int):Option (Step Int (Unit ⊕ Bool)):=
 (bif decide (s1 < (a0.length:Int)) then (idx a0 s1).bind fun v7=>(qKa v7).bind fun v9=>(bif (!v9) then some (.out (.inr false)) else some (.cont (w64 (s1+1)))) else some (.out (.inl (()))))
noncomputable def yXa(a0:List Int):Option Bool:=
 (iter (qna a0) 0).bind fun o=>match o with | .inl b2=>some true | .inr b3=>some b3
def z5a(s:Str)(c:UInt8):Option Int:=some (Lib.indexByte s c)
def kMa(s t:Str):Option Bool:=if s.length < 4294967281 then some (Lib.contains s t) else none
def wca(s t:Str):Option (Str × Str × Bool):=if s.length < 4294967281 then some (Lib.cut s t) else none
def kAa(a0:Int):Option Bool:=
 ((bif decide (0<=a0) then some (decide (a0 < 55296)) else some false):Option Bool).bind fun (j1:Bool)=>(bif j1 then some true else ((bif decide (57343 < a0) then some (decide (a0<=1114111)) else some false):Option Bool).bind fun (j4:Bool)=>(bif j4 then some true else some false))
def qza(a0:Str)(s7:Nat):Option (Step Nat (Unit ⊕ Int)):=
 (bif decide (s7 < a0.length) then (bif ((Kva a0 s7)==65533) then some (.out (.inr (((s7:Nat):Int)))) else some (.cont (s7+jFa a0 s7))) else some (.out (.inl (()))))
def yua(a0:Str)(a1:Int)(j23:Int × Int)(s36:Int):Option (Step Int Unit):=
 (bif decide (s36 < (((w6a a1)).length:Int)) then (idx a0 ((w64 (j23.2 - s36)))).bind fun v40=>(idx ((w6a a1)) ((w64 (j23.1 - s36)))).bind fun v42=>(bif ((v40.toNat:Int) !=(v42.toNat:Int)) then none else some (.cont (w64 (s36+1)))) else some (.out (())))
noncomputable def qAa(a0:Str)(a1:Int)(j23:Int × Int):Option (Step Int (Unit ⊕ Int)):=
 (iter (yua a0 a1 j23) 1).bind fun b37=>some (.out (.inr ((w64 (j23.2 - j23.1)))))
noncomputable def qBa(a0:Str)(a1:Int)(s17:Int):Option (Step Int (Unit ⊕ Int)):=
 (bif decide (s17 < (a0.length:Int)) then (idx a0 s17).bind fun v24=>(idx ((w6a a1)) ((w64 ((((w6a a1)).length:Int) - 1)))).bind fun v26=>(bif ((v24.toNat:Int) !=(v26.toNat:Int)) then (cut a0 ((w64 (s17+1))) ((a0.length:Int))).bind fun v29=>(idx ((w6a a1)) ((w64 ((((w6a a1)).length:Int) - 1)))).bind fun v31=>(z5a v29 v31).bind fun v33=>(bif decide (v33 < 0) then some (.out (.inr ((-1)))) else (qAa a0 a1 ((w64 ((((w6a a1)).length:Int) - 1)),(w64 (s17+(w64 (v33+1))))))) else (qAa a0 a1 ((w64 ((((w6a a1)).length:Int) - 1)),s17))) else some (.out (.inl (()))))
noncomputable def kra(a0:Str)(a1:Int):Option Int:=
 ((bif decide (0<=a1) then some (decide (a1 < 128)) else some false):Option Bool).bind fun (j1:Bool)=>(bif j1 then (z5a a0 ((toU8 a1))).bind fun v4=>some v4 else (bif (a1==65533) then (iter (qza a0) 0).bind (Sum.elim (fun b8=>some ((-1))) (fun b9=>some b9)) else (kAa a1).bind fun v14=>(bif (!v14) then some ((-1)) else (iter (qBa a0 a1) ((w64 ((((w6a a1)).length:Int) - 1)))).bind (Sum.elim (fun b18=>some ((-1))) (fun b19=>some b19)))))
def zVa(a0:Int):Option Bool:=
 some (decide (8 < a0))
noncomputable def qCa(a0:Str)(a1:Str)(s12:Nat):Option (Step Nat (Unit ⊕ Int)):=
 (bif decide (s12 < a0.length) then (kra a1 ((Kva a0 s12))).bind fun v18=>(bif decide (0<=v18) then some (.out (.inr (((s12:Nat):Int)))) else some (.cont (s12+jFa a0 s12))) else some (.out (.inl (()))))
noncomputable def vGa(a0:Str)(a1:Str):Option Int:=
 (bif (a1==([]:Str)) then some ((-1)) else (bif ((a1.length:Int)==1) then (idx a1 0).bind fun v3=>((bif decide (128<=(v3.toNat:Int)) then some 65533 else some ((v3.toNat:Int))):Option Int).bind fun (j5:Int)=>(kra a0 j5).bind fun v7=>some v7 else (zVa ((a0.length:Int))).bind fun v9=>(bif v9 then none else (iter (qCa a0 a1) 0).bind (Sum.elim (fun b13=>some ((-1))) (fun b14=>some b14)))))
def Ysa(t:Str):Bool:=t.all fun c=>decide (c.toNat < 128)
def k5a(s t:Str):Option Int:=if s.length < 4294967281/\t.length < 4294967281/\2<=t.length/\Ysa t=true then some (Lib.indexAny s t) else none
def kfa(a0:Str)(a1:Str):Option Bool:=
 ((bif decide ((a1.length:Int)<=(a0.length:Int)) then (cut a0 0 ((a1.length:Int))).bind fun v3=>some ((v3==a1)) else some false):Option Bool).bind fun (j1:Bool)=>some j1
def kDa(a0:Str)(a1:Str):Option Bool:=
 (kfa a0 a1).bind fun v1=>some v1
def kga(a0:Str)(a1:Str):Option Bool:=
 ((bif decide ((a1.length:Int)<=(a0.length:Int)) then (cut a0 ((w64 ((a0.length:Int) - (a1.length:Int)))) ((a0.length:Int))).bind fun v3=>some ((v3==a1)) else some false):Option Bool).bind fun (j1:Bool)=>some j1
def kEa(a0:Str)(a1:Str):Option Bool:=
 (kga a0 a1).bind fun v1=>some v1
def qda(a0:Str)(s5:Int):Option (Step Int (Unit ⊕ Unit)):=
 (bif decide (s5 < (a0.length:Int)) then (idx a0 s5).bind fun v11=>((bif decide (97<=(v11.toNat:Int)) then (bif decide ((v11.toNat:Int)<=122) then some true else (bif decide (48<=(v11.toNat:Int)) then (bif decide ((v11.toNat:Int)<=57) then some true else (bif ((v11.toNat:Int)==45) then some true else some (((v11.toNat:Int)==46)))) else (bif ((v11.toNat:Int)==45) then some true else some (((v11.toNat:Int)==46))))) else (bif decide (48<=(v11.toNat:Int)) then (bif decide ((v11.toNat:Int)<=57) then some true else (bif ((v11.toNat:Int)==45) then some true else some (((v11.toNat:Int)==46)))) else (bif ((v11.toNat:Int)==45) then some true else some (((v11.toNat:Int)==46))))):Option Bool).bind fun (j13:Bool)=>(bif (!j13) then some (.out (.inr (()))) else some (.cont (w64 (s5+1)))) else some (.out (.inl (()))))
noncomputable def voa(a0:Str):Option Bool:=
 ((bif (a0 !=([]:Str)) then (bif decide ((a0.length:Int)<=60) then ((iter (qda a0) 0).bind (Sum.elim (fun b6=>some true) (fun b7=>some false)):Option Bool).bind fun (j4:Bool)=>(bif j4 then (kDa a0 (([46]:Str))).bind fun v26=>(bif (!v26) then (kEa a0 (([46]:Str))).bind fun v29=>(bif (!v29) then (kMa a0 (([46,46]:Str))).bind fun v32=>some ((!v32)) else some false) else some false) else some false) else some false) else some false):Option Bool).bind fun (j1:Bool)=>some j1
def qLa(v1:Str × Str × Bool)(s8:Int):Option (Step Int (Unit ⊕ Unit)):=
 (bif decide (s8 < (v1.1.length:Int)) then (idx v1.1 s8).bind fun v14=>((wia v14).bind fun v17=>(bif v17 then some true else (z5a (([45,95,46,43,61]:Str)) v14).bind fun v20=>some (decide (0<=v20))):Option Bool).bind fun (j16:Bool)=>(bif (!j16) then some (.out (.inr (()))) else some (.cont (w64 (s8+1)))) else some (.out (.inl (()))))
noncomputable def vca(a0:Str):Option (Str × Str × Bool):=
 (wca a0 (([64]:Str))).bind fun v1=>((bif v1.2.2 then (bif (v1.1 !=([]:Str)) then (bif decide ((v1.1.length:Int)<=60) then ((iter (qLa v1) 0).bind (Sum.elim (fun b9=>some true) (fun b10=>some false)):Option Bool).bind fun (j7:Bool)=>(bif j7 then (voa v1.2.1).bind fun v24=>some v24 else some false) else some false) else some false) else some false):Option Bool).bind fun (j3:Bool)=>some ((v1.1,v1.2.1,j3))
noncomputable def k6a(a0:Str):Option Bool:=
 (vca a0).bind fun v1=>some v1.2.2
def j3a(a0:Str)(s1:Int):Option (Step Int (Unit ⊕ Bool)):=
 (bif decide (s1 < (a0.length:Int)) then ((idx a0 s1).bind fun v8=>(qJa v8).bind fun v10=>(bif (!v10) then (idx a0 s1).bind fun v13=>(bif ((v13.toNat:Int) !=45) then (idx a0 s1).bind fun v16=>(bif ((v16.toNat:Int) !=95) then (idx a0 s1).bind fun v19=>some (((v19.toNat:Int) !=46)) else some false) else some false) else some false):Option Bool).bind fun (j7:Bool)=>(bif j7 then some (.out (.inr false)) else some (.cont (w64 (s1+1)))) else some (.out (.inl (()))))
noncomputable def Qla(a0:Str):Option Bool:=
 (iter (j3a a0) 0).bind (Sum.elim (fun b2=>(R_In ((a0.length:Int)) 1 60).bind fun v22=>some v22) (fun b3=>some b3))
def Kha(a0:List zca)(a1:Str)(s1:Int):Option (Step Int (Unit ⊕ Int)):=
 (bif decide (s1 < (a0.length:Int)) then (idx a0 s1).bind fun v7=>(bif (v7.Address==a1) then some (.out (.inr s1)) else some (.cont (w64 (s1+1)))) else some (.out (.inl (()))))
noncomputable def Wfa(a0:List zca)(a1:Str):Option Int:=
 (iter (Kha a0 a1) 0).bind (Sum.elim (fun b2=>some ((-1))) (fun b3=>some b3))
noncomputable def qea(a0:zCa)(s20:Int):Option (Step Int (Unit ⊕ zpa)):=
 (bif decide (s20 < (a0.To.length:Int)) then (idx a0.To s20).bind fun v26=>(wRa v26.Address).bind fun v28=>(bif (!v28) then (R_At 10 s20).bind fun v31=>some (.out (.inr v31)) else (idx a0.To s20).bind fun v33=>(R_In v33.Notify 0 7).bind fun v35=>(bif (!v35) then (R_At 3 s20).bind fun v38=>some (.out (.inr v38)) else (cut a0.To 0 s20).bind fun v40=>(idx a0.To s20).bind fun v42=>(Wfa v40 v42.Address).bind fun v44=>(bif decide (0<=v44) then (R_At 7 s20).bind fun v47=>some (.out (.inr v47)) else some (.cont (w64 (s20+1)))))) else some (.out (.inl (()))))
noncomputable def vpa(a0:zCa):Option zpa:=
 ((bif (a0.From !=([]:Str)) then (wRa a0.From).bind fun v3=>some ((!v3)) else some false):Option Bool).bind fun (j1:Bool)=>(bif j1 then (R_At 10 ((-10))).bind fun v6=>some v6 else (R_In ((a0.To.length:Int)) 1 60).bind fun v8=>(bif (!v8) then (R_At 2 ((-11))).bind fun v11=>some v11 else ((bif (a0.Id !=([]:Str)) then (Qla a0.Id).bind fun v15=>some ((!v15)) else some false):Option Bool).bind fun (j13:Bool)=>(bif j13 then (R_At 10 ((-12))).bind fun v18=>some v18 else (iter (qea a0) 0).bind (Sum.elim (fun b21=>some ((zpa.mk 0 0))) (fun b22=>some b22)))))
def wxa(a0:Str)(s5:Int):Option (Step Int (Unit ⊕ Unit)):=
 (bif decide (s5 < (a0.length:Int)) then (idx a0 s5).bind fun v11=>((wia v11).bind fun v14=>(bif v14 then some true else (bif ((v11.toNat:Int)==45) then some true else (bif ((v11.toNat:Int)==95) then some true else some (((v11.toNat:Int)==46))))):Option Bool).bind fun (j13:Bool)=>(bif (!j13) then some (.out (.inr (()))) else some (.cont (w64 (s5+1)))) else some (.out (.inl (()))))
noncomputable def jIa(a0:Str):Option Bool:=
 ((bif (a0 !=([]:Str)) then (bif decide ((a0.length:Int)<=60) then ((iter (wxa a0) 0).bind (Sum.elim (fun b6=>some true) (fun b7=>some false)):Option Bool).bind fun (j4:Bool)=>some j4 else some false) else some false):Option Bool).bind fun (j1:Bool)=>some j1
def vqa(a0:Int):Option Bool:=
 ((bif decide (0<=a0) then some (decide (a0<=7)) else some false):Option Bool).bind fun (j1:Bool)=>some j1
def kBa(v7:zca)(v19:List zca)(s22:Int):Option (Step Int (Unit ⊕ Int)):=
 (bif decide (s22 < (v19.length:Int)) then (idx v19 s22).bind fun v28=>(bif (v28.Address==v7.Address) then some (.out (.inr s22)) else some (.cont (w64 (s22+1)))) else some (.out (.inl (()))))
noncomputable def k1a(a0:List zca)(s1:Int):Option (Step Int (Unit ⊕ zpa)):=
 (bif decide (s1 < (a0.length:Int)) then (idx a0 s1).bind fun v7=>(k6a v7.Address).bind fun v9=>(bif (!v9) then (zra 10 s1).bind fun v12=>some (.out (.inr v12)) else (vqa v7.Notify).bind fun v14=>(bif (!v14) then (zra 3 s1).bind fun v17=>some (.out (.inr v17)) else (cut a0 0 s1).bind fun v19=>((iter (kBa v7 v19) 0).bind (Sum.elim (fun b23=>some ((-1))) (fun b24=>some b24)):Option Int).bind fun (j21:Int)=>(bif decide (0<=j21) then (zra 7 s1).bind fun v32=>some (.out (.inr v32)) else some (.cont (w64 (s1+1)))))) else some (.out (.inl (()))))
noncomputable def kXa(a0:List zca):Option zpa:=
 (iter (k1a a0) 0).bind (Sum.elim (fun b2=>(kqa).bind fun v34=>some v34) (fun b3=>some b3))
noncomputable def qMa(a0:zCa):Option zpa:=
 ((bif (a0.From !=([]:Str)) then (k6a a0.From).bind fun v3=>some ((!v3)) else some false):Option Bool).bind fun (j1:Bool)=>(bif j1 then (zra 10 ((-10))).bind fun v6=>some v6 else ((bif decide ((a0.To.length:Int) < 1) then some true else some (decide (60 < (a0.To.length:Int)))):Option Bool).bind fun (j8:Bool)=>(bif j8 then (zra 2 ((-11))).bind fun v11=>some v11 else ((bif (a0.Id !=([]:Str)) then (jIa a0.Id).bind fun v15=>some ((!v15)) else some false):Option Bool).bind fun (j13:Bool)=>(bif j13 then (zra 10 ((-12))).bind fun v18=>some v18 else (kXa a0.To).bind fun v20=>some v20)))
noncomputable def jJa(a0:Str):Option Str:=
 (Yra a0).bind fun v1=>(bif (v1==(a0.length:Int)) then some (([]:Str)) else (cut a0 ((w64 (v1+1))) ((a0.length:Int))).bind fun v4=>some v4)
def kma(a0:Str)(a1:Str):Option Bool:=
 (k5a a0 a1).bind fun v1=>some (decide (0<=v1))
def yba(a0:Str)(s5:Int):Option (Step Int (Unit ⊕ Unit)):=
 (bif decide (s5 < (a0.length:Int)) then (idx a0 s5).bind fun v11=>((bif decide (33<=(v11.toNat:Int)) then (bif decide ((v11.toNat:Int)<=126) then some (((v11.toNat:Int) !=58)) else some false) else some false):Option Bool).bind fun (j13:Bool)=>(bif (!j13) then some (.out (.inr (()))) else some (.cont (w64 (s5+1)))) else some (.out (.inl (()))))
noncomputable def ZJa(a0:Str):Option Bool:=
 ((bif (a0 !=([]:Str)) then (bif decide ((a0.length:Int)<=60) then ((iter (yba a0) 0).bind (Sum.elim (fun b6=>some true) (fun b7=>some false)):Option Bool).bind fun (j4:Bool)=>some j4 else some false) else some false):Option Bool).bind fun (j1:Bool)=>some j1
def ZKa(a0:Str):Option Bool:=
 (kma a0 (([13,10,0]:Str))).bind fun v1=>some v1
def vra(a0:UInt8):Option Bool:=
 ((bif ((a0.toNat:Int)==32) then some true else some (((a0.toNat:Int)==9))):Option Bool).bind fun (j1:Bool)=>some j1
def jKa(a0:Str):Option Bool:=
 ((ZKa a0).bind fun v2=>(bif (!v2) then (bif (a0==([]:Str)) then some true else (idx a0 0).bind fun v6=>(vra v6).bind fun v8=>(bif (!v8) then (idx a0 ((w64 ((a0.length:Int) - 1)))).bind fun v11=>(vra v11).bind fun v13=>some ((!v13)) else some false)) else some false):Option Bool).bind fun (j1:Bool)=>some j1
def qYa(s1:Int × Int)(j5:Int):Option (Step (Int × Int) Int):=
 some (.cont (j5,(w64 (s1.2+1))))
def yBa(a0:Str)(s1:Int × Int):Option (Step (Int × Int) Int):=
 (bif decide (s1.2 < (a0.length:Int)) then ((idx a0 s1.2).bind fun v7=>(vra v7).bind fun v9=>(bif (!v9) then some true else (idx a0 ((w64 (s1.2 - 1)))).bind fun v12=>(vra v12).bind fun v14=>some v14):Option Bool).bind fun (j6:Bool)=>(bif j6 then (qYa s1 s1.1) else ((bif decide (0 < s1.1) then some (decide (78 < s1.2)) else some false):Option Bool).bind fun (j17:Bool)=>(bif j17 then some (.out s1.1) else (qYa s1 s1.2))) else some (.out s1.1))
noncomputable def jLa(a0:Str)(a1:Int):Option Int:=
 (iter (yBa a0) ((0,(max a1 1)))).bind fun b2=>some b2
noncomputable def yca(s18:Str × Int × (List Str)):Option (Step (Str × Int × (List Str)) (Str × (List Str))):=
 (bif decide (78 < (s18.1.length:Int)) then (jLa s18.1 s18.2.1).bind fun v22=>(bif (v22==0) then some (.out ((s18.1,s18.2.2))) else (cut s18.1 0 v22).bind fun v25=>(app 8796093022208 s18.2.2 (([v25]:List Str))).bind fun v27=>(cut s18.1 v22 ((s18.1.length:Int))).bind fun v29=>some (.cont (v29,0,v27))) else some (.out ((s18.1,s18.2.2))))
def joa(v31:List Str)(s34:Int):Option (Step Int (Unit ⊕ ((List Str) × zpa))):=
 (bif decide (s34 < (v31.length:Int)) then (idx v31 s34).bind fun v40=>(bif decide (998 < (v40.length:Int)) then (zra 1 s34).bind fun v43=>some (.out (.inr (([],v43)))) else some (.cont (w64 (s34+1)))) else some (.out (.inl (()))))
noncomputable def jMa(a0:Str)(a1:Str):Option ((List Str) × zpa):=
 (ZJa a0).bind fun v1=>(bif (!v1) then (zra 10 ((-1))).bind fun v4=>some (([],v4)) else (bif decide (4000 < (a1.length:Int)) then (zra 1 ((-1))).bind fun v7=>some (([],v7)) else (jKa a1).bind fun v9=>(bif (!v9) then (zra 11 ((-1))).bind fun v12=>some (([],v12)) else (cat a0 (([58,32]:Str))).bind fun v14=>(cat v14 a1).bind fun v16=>(iter (yca) ((v16,(w64 ((a0.length:Int)+2)),([]:List Str)))).bind fun b19=>(app 8796093022208 b19.2 (([b19.1]:List Str))).bind fun v31=>(iter (joa v31) 0).bind (Sum.elim (fun b35=>(kqa).bind fun v45=>some ((v31,v45))) (fun b36=>some ((b36.1,b36.2)))))))
noncomputable def via(a0:List zha)(s4:Int):Option (Step Int (Unit ⊕ zpa)):=
 (bif decide (s4 < (a0.length:Int)) then (idx a0 s4).bind fun v10=>(jMa v10.Name v10.Value).bind fun v12=>(kba v12.2).bind fun v14=>(bif v14 then (zra v12.2.Code s4).bind fun v17=>some (.out (.inr v17)) else some (.cont (w64 (s4+1)))) else some (.out (.inl (()))))
noncomputable def vsa(a0:List zha):Option zpa:=
 (bif decide (60 < (a0.length:Int)) then (zra 2 ((-1))).bind fun v2=>some v2 else (iter (via a0) 0).bind (Sum.elim (fun b5=>(kqa).bind fun v19=>some v19) (fun b6=>some b6)))
def q4a(v7:(List Str) × zpa)(s9:Int × (List UInt8)):Option (Step (Int × (List UInt8)) (List UInt8)):=
 (bif decide (s9.1 < (v7.1.length:Int)) then (idx v7.1 s9.1).bind fun v13=>(app 140737488355328 s9.2 v13).bind fun v15=>(app 140737488355328 v15 (([(13:UInt8),(10:UInt8)]:List UInt8))).bind fun v17=>some (.cont ((w64 (s9.1+1)),v17)) else some (.out s9.2))
noncomputable def q5a(a0:zua)(s1:Int × (List UInt8)):Option (Step (Int × (List UInt8)) (List UInt8)):=
 (bif decide (s1.1 < (a0.Fields.length:Int)) then (idx a0.Fields s1.1).bind fun v5=>(jMa v5.Name v5.Value).bind fun v7=>(iter (q4a v7) ((0,s1.2))).bind fun b10=>some (.cont ((w64 (s1.1+1)),b10)) else some (.out s1.2))
noncomputable def wya(a0:zua):Option (List UInt8):=
 (iter (q5a a0) ((0,([]:List UInt8)))).bind fun b2=>(app 140737488355328 b2 (([(13:UInt8),(10:UInt8)]:List UInt8))).bind fun v19=>(app 140737488355328 v19 a0.Body).bind fun v21=>some v21
def wza(j7:Int × Int):Option (Step (Int × Int) (Unit ⊕ Int)):=
 some (.cont (j7.1,(w64 (j7.2+1))))
def vHa(a0:List UInt8)(s1:Int × Int):Option (Step (Int × Int) (Unit ⊕ Int)):=
 (bif decide (s1.2 < (a0.length:Int)) then (idx a0 s1.2).bind fun v8=>((bif ((v8.toNat:Int)==13) then (bif decide ((w64 (s1.2+1)) < (a0.length:Int)) then (idx a0 ((w64 (s1.2+1)))).bind fun v13=>some (((v13.toNat:Int)==10)) else some false) else some false):Option Bool).bind fun (j10:Bool)=>(bif j10 then (wza (0,(w64 (s1.2+1)))) else ((bif ((v8.toNat:Int)==13) then some true else some (((v8.toNat:Int)==10))):Option Bool).bind fun (j16:Bool)=>(bif j16 then some (.out (.inr 11)) else (bif decide (998 < (w64 (s1.1+1))) then some (.out (.inr 1)) else (wza ((w64 (s1.1+1)),s1.2))))) else some (.out (.inl (()))))
noncomputable def jNa(a0:List UInt8):Option Int:=
 (iter (vHa a0) ((0,0))).bind (Sum.elim (fun b2=>some 0) (fun b3=>some b3))
noncomputable def yda(a0:List UInt8):Option zpa:=
 (jNa a0).bind fun v1=>(bif (v1==11) then (zra 11 ((-5))).bind fun v4=>some v4 else (bif (v1==1) then (zra 1 ((-6))).bind fun v7=>some v7 else (kqa).bind fun v9=>some v9))
noncomputable def q6a(a0:zua):Option zpa:=
 (vsa a0.Fields).bind fun v1=>(kba v1).bind fun v3=>(bif v3 then some v1 else (wya a0).bind fun v6=>(bif decide (12000 < (v6.length:Int)) then (zra 1 ((-4))).bind fun v9=>some v9 else (yda a0.Body).bind fun v11=>some v11))
noncomputable def vda(a0:ksa):Option zpa:=
 (qMa a0.Envelope).bind fun v1=>(kba v1).bind fun v3=>(bif v3 then some v1 else (q6a a0.Message).bind fun v6=>(kba v6).bind fun v8=>(bif v8 then (zra v6.Code ((-30))).bind fun v11=>some v11 else (kqa).bind fun v13=>some v13))
def wAa(a0:UInt8):Option Bool:=
 ((bif ((a0.toNat:Int)==32) then some true else some (((a0.toNat:Int)==9))):Option Bool).bind fun (j1:Bool)=>some j1
def kJa(s5:Str × Int × (List Str))(s9:Int × Int):Option (Step (Int × Int) Int):=
 ((bif decide (0 < s9.2) then some ((s9.1==0)) else some false):Option Bool).bind fun (j12:Bool)=>(bif j12 then (((bif decide (s5.2.1<=s9.2) then (idx s5.1 s9.2).bind fun v18=>(wAa v18).bind fun v20=>(bif v20 then (idx s5.1 ((w64 (s9.2 - 1)))).bind fun v23=>(wAa v23).bind fun v25=>some ((!v25)) else some false) else some false):Option Bool).bind fun (j16:Bool)=>(bif j16 then some s9.2 else some s9.1):Option Int).bind fun (j15:Int)=>some (.cont (j15,(w64 (s9.2 - 1)))) else some (.out s9.1))
def kva(s5:Str × Int × (List Str))(s28:Int × Int):Option (Step (Int × Int) Int):=
 ((bif decide (s28.2 < (s5.1.length:Int)) then some ((s28.1==0)) else some false):Option Bool).bind fun (j31:Bool)=>(bif j31 then (((bif decide (s5.2.1<=s28.2) then (idx s5.1 s28.2).bind fun v37=>(wAa v37).bind fun v39=>(bif v39 then (idx s5.1 ((w64 (s28.2 - 1)))).bind fun v42=>(wAa v42).bind fun v44=>some ((!v44)) else some false) else some false):Option Bool).bind fun (j35:Bool)=>(bif j35 then some s28.2 else some s28.1):Option Int).bind fun (j34:Int)=>some (.cont (j34,(w64 (s28.2+1)))) else some (.out s28.1))
noncomputable def vta(s5:Str × Int × (List Str)):Option (Step (Str × Int × (List Str)) (Str × (List Str))):=
 (bif decide (78 < (s5.1.length:Int)) then (iter (kJa s5) ((0,78))).bind fun b10=>(iter (kva s5) ((b10,79))).bind fun b29=>(bif (b29==0) then some (.out ((s5.1,s5.2.2))) else (cut s5.1 0 b29).bind fun v48=>(app 8796093022208 s5.2.2 (([v48]:List Str))).bind fun v50=>(cut s5.1 b29 ((s5.1.length:Int))).bind fun v52=>some (.cont (v52,1,v50))) else some (.out ((s5.1,s5.2.2))))
noncomputable def wja(a0:Str)(a1:Str):Option (List Str):=
 (cat a0 (([58,32]:Str))).bind fun v1=>(cat v1 a1).bind fun v3=>(iter (vta) ((v3,(w64 ((a0.length:Int)+2)),([]:List Str)))).bind fun b6=>(app 8796093022208 b6.2 (([b6.1]:List Str))).bind fun v54=>some v54
def vVa(a0:zha)(s1:Int):Option (Step Int (Unit ⊕ Int)):=
 (bif decide (s1 < (a0.Name.length:Int)) then ((idx a0.Name s1).bind fun v8=>(R_In ((v8.toNat:Int)) 33 126).bind fun v10=>(bif (!v10) then some true else (idx a0.Name s1).bind fun v13=>some (((v13.toNat:Int)==58))):Option Bool).bind fun (j7:Bool)=>(bif j7 then some (.out (.inr 10)) else some (.cont (w64 (s1+1)))) else some (.out (.inl (()))))
def vWa(a0:zha)(s20:Int):Option (Step Int (Unit ⊕ Int)):=
 (bif decide (s20 < (a0.Value.length:Int)) then ((idx a0.Value s20).bind fun v27=>(bif ((v27.toNat:Int)==0) then some true else (idx a0.Value s20).bind fun v30=>(bif ((v30.toNat:Int)==10) then some true else (idx a0.Value s20).bind fun v33=>some (((v33.toNat:Int)==13)))):Option Bool).bind fun (j26:Bool)=>(bif j26 then some (.out (.inr 11)) else some (.cont (w64 (s20+1)))) else some (.out (.inl (()))))
def vXa(v48:List Str)(s50:Int):Option (Step Int (Unit ⊕ Int)):=
 (bif decide (s50 < (v48.length:Int)) then (idx v48 s50).bind fun v56=>(bif decide (998 < (v56.length:Int)) then some (.out (.inr 1)) else some (.cont (w64 (s50+1)))) else some (.out (.inl (()))))
noncomputable def yYa(a0:zha):Option Int:=
 (iter (vVa a0) 0).bind (Sum.elim (fun b2=>(R_In ((a0.Name.length:Int)) 1 60).bind fun v16=>(bif (!v16) then some 10 else (bif decide (4000 < (a0.Value.length:Int)) then some 1 else (iter (vWa a0) 0).bind (Sum.elim (fun b21=>((bif decide (0 < (a0.Value.length:Int)) then (idx a0.Value 0).bind fun v38=>(wAa v38).bind fun v40=>(bif v40 then some true else (idx a0.Value ((w64 ((a0.Value.length:Int) - 1)))).bind fun v43=>(wAa v43).bind fun v45=>some v45) else some false):Option Bool).bind fun (j36:Bool)=>(bif j36 then some 11 else (wja a0.Name a0.Value).bind fun v48=>(iter (vXa v48) 0).bind (Sum.elim (fun b51=>some 0) (fun b52=>some b52)))) (fun b22=>some b22))))) (fun b3=>some b3))
def qNa(v9:List Str)(s11:Int × (List UInt8)):Option (Step (Int × (List UInt8)) (List UInt8)):=
 (bif decide (s11.1 < (v9.length:Int)) then (idx v9 s11.1).bind fun v15=>(app 140737488355328 s11.2 v15).bind fun v17=>(app 140737488355328 v17 (([(13:UInt8),(10:UInt8)]:List UInt8))).bind fun v19=>some (.cont ((w64 (s11.1+1)),v19)) else some (.out s11.2))
noncomputable def qOa(a0:zua)(s1:Int × (List UInt8)):Option (Step (Int × (List UInt8)) (List UInt8)):=
 (bif decide (s1.1 < (a0.Fields.length:Int)) then (idx a0.Fields s1.1).bind fun v5=>(idx a0.Fields s1.1).bind fun v7=>(wja v5.Name v7.Value).bind fun v9=>(iter (qNa v9) ((0,s1.2))).bind fun b12=>some (.cont ((w64 (s1.1+1)),b12)) else some (.out s1.2))
noncomputable def vYa(a0:zua):Option (List UInt8):=
 (iter (qOa a0) ((0,([]:List UInt8)))).bind fun b2=>(app 140737488355328 b2 (([(13:UInt8),(10:UInt8)]:List UInt8))).bind fun v21=>(app 140737488355328 v21 a0.Body).bind fun v23=>some v23
noncomputable def vIa(a0:zua)(s4:Int):Option (Step Int (Unit ⊕ zpa)):=
 (bif decide (s4 < (a0.Fields.length:Int)) then (idx a0.Fields s4).bind fun v10=>(yYa v10).bind fun v12=>(bif (v12 !=0) then (R_At v12 s4).bind fun v15=>some (.out (.inr v15)) else some (.cont (w64 (s4+1)))) else some (.out (.inl (()))))
def qPa(j30:Int × Int):Option (Step (Int × Int) (Unit ⊕ zpa)):=
 some (.cont (j30.1,(w64 (j30.2+1))))
def kTa(a0:zua)(s24:Int × Int):Option (Step (Int × Int) (Unit ⊕ zpa)):=
 (bif decide (s24.2 < (a0.Body.length:Int)) then (idx a0.Body s24.2).bind fun v31=>((bif ((v31.toNat:Int)==13) then (bif decide ((w64 (s24.2+1)) < (a0.Body.length:Int)) then (idx a0.Body ((w64 (s24.2+1)))).bind fun v36=>some (((v36.toNat:Int)==10)) else some false) else some false):Option Bool).bind fun (j33:Bool)=>(bif j33 then (qPa (0,(w64 (s24.2+1)))) else ((bif ((v31.toNat:Int)==13) then some true else some (((v31.toNat:Int)==10))):Option Bool).bind fun (j39:Bool)=>(bif j39 then (R_At 11 ((-5))).bind fun v42=>some (.out (.inr v42)) else (bif decide (998 < (w64 (s24.1+1))) then (R_At 1 ((-6))).bind fun v45=>some (.out (.inr v45)) else (qPa ((w64 (s24.1+1)),s24.2))))) else some (.out (.inl (()))))
noncomputable def vea(a0:zua):Option zpa:=
 (bif decide (60 < (a0.Fields.length:Int)) then (R_At 2 ((-1))).bind fun v2=>some v2 else (iter (vIa a0) 0).bind (Sum.elim (fun b5=>((bif decide (12000 < (a0.Body.length:Int)) then some true else (vYa a0).bind fun v19=>some (decide (12000 < (v19.length:Int)))):Option Bool).bind fun (j17:Bool)=>(bif j17 then (R_At 1 ((-4))).bind fun v22=>some v22 else (iter (kTa a0) ((0,0))).bind (Sum.elim (fun b25=>some ((zpa.mk 0 0))) (fun b26=>some b26)))) (fun b6=>some b6)))
noncomputable def yZa(a0:ksa):Option zpa:=
 (vpa a0.Envelope).bind fun v1=>(((bif (v1.Code==0) then (vea a0.Message).bind fun v6=>some ((v6.Code !=0)) else some false):Option Bool).bind fun (j4:Bool)=>(bif j4 then (vea a0.Message).bind fun v9=>(R_At v9.Code ((-30))).bind fun v11=>some ((v11.Code,v11.Index)) else some ((v1.Code,v1.Index))):Option (Int × Int)).bind fun (j3:Int × Int)=>some ((zpa.mk j3.1 j3.2))
def v6a(a0:zua)(a1:zua)(s4:Int):Option (Step Int (Unit ⊕ Bool)):=
 (bif decide (s4 < (a0.Fields.length:Int)) then (idx a0.Fields s4).bind fun v10=>(idx a1.Fields s4).bind fun v12=>(bif (!(z2a [(v10.Name==v12.Name),(v10.Value==v12.Value)])) then some (.out (.inr false)) else some (.cont (w64 (s4+1)))) else some (.out (.inl (()))))
noncomputable def wBa(a0:zua)(a1:zua):Option Bool:=
 ((bif ((a0.Fields.length:Int) !=(a1.Fields.length:Int)) then some true else some ((a0.Body !=a1.Body))):Option Bool).bind fun (j1:Bool)=>(bif j1 then some false else (iter (v6a a0 a1) 0).bind (Sum.elim (fun b5=>some true) (fun b6=>some b6)))
def yCa(a0:ksa)(a1:ksa)(s5:Int):Option (Step Int (Unit ⊕ Bool)):=
 (bif decide (s5 < (a0.Envelope.To.length:Int)) then (idx a0.Envelope.To s5).bind fun v11=>(idx a1.Envelope.To s5).bind fun v13=>(bif (!(z2a [(v11.Address==v13.Address),(v11.Notify==v13.Notify)])) then some (.out (.inr false)) else some (.cont (w64 (s5+1)))) else some (.out (.inl (()))))
noncomputable def jOa(a0:ksa)(a1:ksa):Option Bool:=
 ((bif (a0.Envelope.From !=a1.Envelope.From) then some true else (bif (a0.Envelope.Id !=a1.Envelope.Id) then some true else some (((a0.Envelope.To.length:Int) !=(a1.Envelope.To.length:Int))))):Option Bool).bind fun (j1:Bool)=>(bif j1 then some false else (iter (yCa a0 a1) 0).bind (Sum.elim (fun b6=>(wBa a0.Message a1.Message).bind fun v16=>some v16) (fun b7=>some b7)))
noncomputable def z8a(a0:List zha):Option (List zha):=
 (nilE a0.isEmpty (some ([])) ((app 4398046511104 ([]:List zha) a0).bind fun v2=>some v2))
noncomputable def kGa(a0:ksa):Option ksa:=
 ((nilE a0.Envelope.To.isEmpty (some ([])) ((app 5864062014805 ([]:List zca) a0.Envelope.To).bind fun v3=>some v3)):Option (List zca)).bind fun (j1:List zca)=>(z8a a0.Message.Fields).bind fun v5=>((nilE a0.Message.Body.isEmpty (some ([])) ((app 140737488355328 ([]:List UInt8) a0.Message.Body).bind fun v9=>some v9)):Option (List UInt8)).bind fun (j7:List UInt8)=>some ((ksa.mk ((zCa.mk a0.Envelope.From j1 a0.Envelope.Id)) ((zua.mk v5 j7))))
def dates_split(a0:Int)(a1:Int):Option (Int × Int):=
 (nz a1).bind fun v1=>(nz a1).bind fun v3=>(nz a1).bind fun v5=>some (((iQuo ((w64 (a0 - (iRem ((w64 ((iRem a0 a1)+a1))) a1)))) a1),(iRem ((w64 ((iRem a0 a1)+a1))) a1)))
def Qma(a0:List Int)(a1:List Int)(s2:Int):Option (Step Int (Unit ⊕ Bool)):=
 (bif decide (s2 < (a0.length:Int)) then (idx a0 s2).bind fun v8=>(idx a1 s2).bind fun v10=>(bif (v8 !=v10) then some (.out (.inr false)) else some (.cont (w64 (s2+1)))) else some (.out (.inl (()))))
noncomputable def Yta(a0:List Int)(a1:List Int):Option Bool:=
 (bif ((a0.length:Int) !=(a1.length:Int)) then some false else (iter (Qma a0 a1) 0).bind (Sum.elim (fun b3=>some true) (fun b4=>some b4)))
def y0a(a0:List Str)(s1:Int × (List zca)):Option (Step (Int × (List zca)) (List zca)):=
 (bif decide (s1.1 < (a0.length:Int)) then (idx a0 s1.1).bind fun v5=>(app 5864062014805 s1.2 (([(zca.mk v5 1)]:List zca))).bind fun v7=>some (.cont ((w64 (s1.1+1)),v7)) else some (.out s1.2))
noncomputable def Qna(a0:List Str):Option ksa:=
 (iter (y0a a0) ((0,([]:List zca)))).bind fun b2=>some ((ksa.mk ((zCa.mk (([115,64,120]:Str)) b2 (([55]:Str)))) ((zua.mk ([]) ([])))))
def ltE(a b:zba):Bool:=decide (a.Due < b.Due) || (decide (a.Due=b.Due) && decide (a.Id < b.Id))
def insE(x:zba):List zba->List zba
 | []=>[x]
 | y::l=>bif ltE y x then y::insE x l else x::y::l
def jza:List zba->List zba
 | []=>[]
 | x::l=>insE x (jza l)
def WUa:List zba->Bool
 | []=>true
 | x::l=>l.all (fun y=>ltE x y || ltE y x) && WUa l
def zGa(l:List zba):Option (List zba):=bif WUa l && decide (l.length<=1048576) then some (jza l) else none
end Go.Proofs.YtgajlblehdboiaaGreat
