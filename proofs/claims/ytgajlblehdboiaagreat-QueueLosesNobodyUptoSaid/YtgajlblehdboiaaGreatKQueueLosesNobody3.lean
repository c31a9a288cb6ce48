/- Part 3 of the proof of the law QueueLosesNobody: what it needs. -/
import Derived.Test.YtgajlblehdboiaaGreatKQueueLosesNobody2
import Derived.Laws.MakeOwn
import Derived.Test.YtgajlblehdboiaaGreatProg
import Derived.Lib.IndexMore
import Derived.Lib.IndexAny
import Derived.Lib.Atoi
import Derived.Lib.Join
import Derived.Lib.Repeat
import Derived.Lib.Split
import Derived.Lib.FieldsP
import Derived.Lib.Strings
import Derived.Shelf.Strings.SlTrimAscii
set_option linter.unusedVariables false
set_option linter.unusedSimpArgs false
set_option maxRecDepth 100000
set_option maxHeartbeats 40000000
namespace Go.Proofs.YtgajlblehdboiaaGreat
open Go.RowKit Go.Proofs.Tryz
section
theorem Sto.get_mem{σ:Sto}{o:Nat}{ob:AO}(h:σ.get o=some ob):(o,ob)∈σ:=by
 induction σ with
 | nil=>simp[Sto.get]at h
 | cons x s ih=>
  obtain ⟨k,a⟩:=x;rw[Sto.get_cons]at h;split at h
  .rename_i hk;cases h;subst hk;exact List.mem_cons_self
  exact List.mem_cons_of_mem _ (ih h)
theorem Sto.get_append(s1 s2:Sto)(o:Nat):Sto.get (s1++s2) o=(Sto.get s1 o).or (Sto.get s2 o):=by
 induction s1 with
 | nil=>simp[Sto.get]
 | cons x s ih=>
  obtain ⟨k,a⟩:=x;rw[List.cons_append,Sto.get_cons,Sto.get_cons,ih];split <;> rfl
theorem Y8a{l:List Nat}{a:Nat}(h:l.contains a=true):a∈l:=by simpa using h
def AV.okS(rows:List Nat):AV->Bool
 | .pv _=>true
 | .hs r _=>rows.contains r
 | _=>false
def AO.okS(rows:List Nat):AO->Bool
 | .cells cs=>cs.all (AV.okS rows)
 | .row _ _ _ _=>true
 | .opq _ _ _=>true
 | _=>false
def Sto.okS(O:Nat)(rows:List Nat)(σ:Sto):Bool:=σ.all fun p=>(Nat.beq p.1 O || rows.contains p.1) && p.2.okS rows
theorem AV.okS_has{rows:List Nat}{c:AV}{k:Nat}(h:c.okS rows=true)(hk:c.has k=true):k∈rows:=by
 unfold AV.okS at h;split at h
 .simp[AV.has]at hk
 .have:=Nat.eq_of_beq_eq_true hk;subst this;exact Y8a h
 cases h
theorem AV.hasL_mem{k:Nat}{cs:List AV}(h:AV.hasL k cs=true):∃c∈cs,c.has k=true:=by
 induction cs with
 | nil=>simp[AV.hasL]at h
 | cons c cs ih=>
  unfold AV.hasL at h;simp only[Bool.or_eq_true]at h;rcases h with h | h
  .exact ⟨c,List.mem_cons_self,h⟩
  obtain ⟨d,hd,h⟩:=ih h;exact ⟨d,List.mem_cons_of_mem _ hd,h⟩
theorem AO.okS_has{rows:List Nat}{ob:AO}{k:Nat}(h:ob.okS rows=true)(hk:ob.has k=true):k∈rows:=by
 cases ob with
 | cells cs=>
  obtain ⟨c,hc,hck⟩:=AV.hasL_mem hk;exact AV.okS_has (List.all_eq_true.1 h c hc) hck
 | row=>simp[AO.has]at hk
 | opq=>simp[AO.has]at hk
 | _=>cases h
theorem Sto.okS_get{O:Nat}{rows:List Nat}{σ:Sto}(h:σ.okS O rows=true){o:Nat}{ob:AO}(ho:σ.get o=some ob):(o=O∨o∈rows)/\ob.okS rows=true:=by
 have:=List.all_eq_true.1 h _ (Sto.get_mem ho);simp only[Bool.and_eq_true,Bool.or_eq_true]at this;exact ⟨this.1.imp Nat.eq_of_beq_eq_true Y8a,this.2⟩
structure Own (g:G) (σ:Sto):Prop where
 obj:∀o ob,σ.get o=some ob->RelO g o ob
 apart:∀o o' ob ob' b,σ.get o=some ob->σ.get o' =some ob' ->ob.own (g.loc o) b->ob'.own (g.loc o') b->o=o'
 low:∀o ob b,σ.get o=some ob->ob.own (g.loc o) b->¬GlB b
def SB(g:G)(σ:Sto)(b:Nat):Prop:=∃o ob,σ.get o=some ob/\ob.own (g.loc o) b
structure RunS (P:Program) (f:FuncId) (args:List AV) (σ0:Sto) (r:AV) (σ1:Sto) (O:Nat) (rows:List Nat):Prop where
 ok:∃fn c,FnOk P f fn c
 ok0:σ0.okS O rows=true
 ok1:σ1.okS O rows=true
 run:∀g vs,Wf g->Gl g->Own g σ0->wKa g args vs->CallsIn (fen none) 0 P f vs g.w fun e w' =>∃g' v,g'.w=w' /\(∀k,k ∉ rows->g'.loc k=g.loc k)/\Old (SB g σ0) g g' /\Wf g' /\e=.returned v/\Rel g' r v/\
  (∀o ob,σ1.get o=some ob->RelO g' o ob)/\(∀o o' ob ob' b,σ1.get o=some ob->σ1.get o' =some ob' ->ob.own (g'.loc o) b->ob'.own (g'.loc o') b->o=o')/\
  (∀o ob b,σ1.get o=some ob->ob.own (g'.loc o) b->g.w.heap.size<=b∨SB g σ0 b)
variable {P:Program} {σ:Sto} {dst:Option Tmp} {ty:TypeId} {pos:String} {af:Array Edge} {gu:Option (Nat × Bool)} {E:Env} {fr:Fr} {K:Post}
def Sto.dels(ids:List Nat):Sto->Sto
 | []=>[]
 | (k,a)::l=>bif ids.contains k then Sto.dels ids l else (k,a)::Sto.dels ids l
theorem Sto.get_dels(ids:List Nat)(σ:Sto)(o:Nat):(σ.dels ids).get o=if o∈ids then none else σ.get o:=by
 induction σ with
 | nil=>simp[Sto.dels,Sto.get]
 | cons x l ih=>
  obtain ⟨k,a⟩:=x;unfold Sto.dels;cases hc:ids.contains k with
  | true=>
   have hk:k∈ids:=by simpa using hc
   rw[cond_true,ih,Sto.get_cons];by_cases ho:o∈ids
   .rw[if_pos ho,if_pos ho]
   rw[if_neg ho,if_neg ho,if_neg (by rintro rfl;exact ho hk)]
  | false=>
   have hk:k ∉ ids:=by simpa using hc
   rw[cond_false,Sto.get_cons,Sto.get_cons,ih];by_cases ho:k=o
   .subst ho;simp[hk]
   rw[if_neg ho,if_neg ho]
def AV.clrs(rows:List Nat)(c:AV):AV:=bif rows.any (fun r=>c.has r) then .any else c
def Fr.clrs(rows:List Nat):Fr->Fr
 | []=>[]
 | (k,a)::l=>(k,a.clrs rows)::Fr.clrs rows l
def AO.clrs(rows:List Nat):AO->AO
 | .cells cs=>.cells (cs.map (AV.clrs rows))
 | .hold c v=>.hold (c.clrs rows) v
 | o=>o
def Sto.clrs(rows:List Nat):Sto->Sto
 | []=>[]
 | (k,a)::l=>(k,a.clrs rows)::Sto.clrs rows l
theorem Fr.get_clrs(rows:List Nat)(fr:Fr)(d:Nat):(fr.clrs rows).get d=(fr.get d).clrs rows:=by
 induction fr with
 | nil=>unfold Fr.clrs Fr.get AV.clrs;cases rows.any (fun r=>AV.has r AV.any) <;> rfl
 | cons x l ih=>
  obtain ⟨k,a⟩:=x;simp only[Fr.clrs,Fr.get_cons,ih];split <;> rfl
theorem Sto.get_clrs(rows:List Nat)(σ:Sto)(o:Nat):(σ.clrs rows).get o=(σ.get o).map (AO.clrs rows):=by
 induction σ with
 | nil=>rfl
 | cons x l ih=>
  obtain ⟨k,a⟩:=x;simp only[Sto.clrs,Sto.get_cons,ih];split <;> rfl
theorem Kga{g g' :G}{rows:List Nat}(hx:Ext g.w g.u g'.w g'.u)(hl:∀k,k ∉ rows->g'.loc k=g.loc k){c:AV}{v:Value}(h:Rel g c v):Rel g' (c.clrs rows) v:=by
 unfold AV.clrs;cases hc:rows.any (fun r=>c.has r) with
 | true=>exact .any _
 | false=>exact h.mono hx fun k hk=>hl k fun hin=>List.any_eq_false.1 hc k hin hk
theorem AO.own_clrs(rows:List Nat)(ob:AO)(l:Loc):(ob.clrs rows).own l=ob.own l:=by cases ob <;> rfl
theorem z6b{g g' :G}{o:Nat}{ob:AO}{rows:List Nat}(hro:RelO g o ob)(hx:Ext g.w g.u g'.w g'.u)(hl:∀k,k ∉ rows->g'.loc k=g.loc k)(ho:o ∉ rows)
 (hb:∀b,ob.own (g.loc o) b->g'.w.heap[b]? =g.w.heap[b]? /\g'.u b=g.u b):RelO g' o (ob.clrs rows):=by
 cases hro with
 | @cells cs b t vs h1 h2 h3 h4 h5 h6=>
  obtain ⟨b1,b2⟩:=hb b (by rw[h1];rfl);refine .cells ((hl o ho).trans h1) (b1.trans h2) (by simpa using h3) (b2.trans h4) h5 fun i c hi=>?_
  simp only[List.getElem?_map,Option.map_eq_some_iff]at hi;obtain ⟨c',hc',rfl⟩:=hi;exact Kga hx hl (h6 i c' hc')
 | nil h1=>exact .nil ((hl o ho).trans h1)
 | @row e mu size elems b off cap vs h1 h2 h3 h3' h4 h5 h6 h7 h9=>
  obtain ⟨b1,b2⟩:=hb b (by rw[h1];rfl);exact .row ((hl o ho).trans h1) (b1.trans h2) h3 h3' h4 h5 (by rw[b2];exact h6) (by rw[b2];exact h7) fun i j x c hi hj=>(h9 i j x c hi hj).mono hx
 | hold h1=>exact .hold (Kga hx hl h1)
 | sus h1=>exact .sus (h1.mono hx)
 | @lp L b h1 h2=>
  obtain ⟨b1,b2⟩:=hb b (by rw[h1];rfl);exact .lp ((hl o ho).trans h1) (b1.trans h2)
 | @it s pos b h1 h2 h3=>
  obtain ⟨b1,b2⟩:=hb b (by rw[h1];rfl);exact .it ((hl o ho).trans h1) (b1.trans h2) (b2.trans h3)
 | @buf l e b cap vs h1 h2 h3 h4 h5 h6=>
  obtain ⟨b1,b2⟩:=hb b (by rw[h1];rfl);exact .buf ((hl o ho).trans h1) (b1.trans h2) h3 h4 (b2.trans h5) h6
 | @mapo ag es b clock ents h1 h2 h3 h4 h5=>
  obtain ⟨b1,b2⟩:=hb b (by rw[h1];rfl);exact .mapo ((hl o ho).trans h1) (b1.trans h2) (b2.trans h3) h4 fun i k c hi=>by
   obtain ⟨x,e1,e2,e3⟩:=h5 i k c hi;exact ⟨x,e1,e2,e3.mono hx⟩
 | @opq t t1 n Q b vs h1 h2 h3 h4 h5=>
  obtain ⟨b1,b2⟩:=hb b (by rw[h1];rfl);exact .opq ((hl o ho).trans h1) (b1.trans h2) h3 (b2.trans h4) fun w' u' hx' =>h5 w' u' (hx.to0.trans hx')
 | nrowNil h1=>exact .nrowNil ((hl o ho).trans h1)
 | nrow h1 h2 h3 h4 h5 h6 h7 h8 h9 h10 h11 h12=>exact (RelO.nrow h1 h2 h3 h4 h5 h6 h7 h8 h9 h10 h11 h12).mono hx (hl o ho) (fun _ hk=>by cases hk) hb
 | mapr h1 h2 h3 h4 h5 h6 h7=>exact (RelO.mapr h1 h2 h3 h4 h5 h6 h7).mono hx (hl o ho) (fun _ hk=>by cases hk) hb
theorem gl_lt{g:G}(h:Gl g){k:Nat}(hk:GlB k):k < g.w.heap.size:=by
 rcases hk with ⟨p,hp,rfl⟩ | hk
 .obtain ⟨t,fz,h1⟩:=h.2.1 p hp;exact kia h1
 obtain ⟨tp,x,t,fz,h1⟩:=h.2.2 k hk;exact kia h1
theorem JRa{f:FuncId}{k:Nat}{xs:List Operand}{ats:Array TypeId}{args:List AV}{r:AV}{σ0 σ1:Sto}{O:Nat}{rows:List Nat}(hr:RunS E.P f args σ0 r σ1 O rows)(hN:Nat.ble (k+1) E.N=true)(ha:xs.map (fun x=>(fr.ev x).weak)=args)(hle:z8a σ σ0):
 OpTo E ⟨some k,.call ⟨.value (.func f),xs.toArray,ats⟩,ty,pos,af,gu⟩ fr σ ((k,r)::fr.clrs rows) (σ1++(σ.dels (O::rows)).clrs rows):=
 ⟨fun g a K Q hst hK=>by
  obtain ⟨fn,c,hok⟩:=hr.ok;refine ⟨fun _ _=>trivial,?_⟩;rw[Oper.semAt_plain _ _ _ (fun c=>by simp),wka hok (first:= #[]) (cap:= #[]) rfl,Oper.uponIn_enter];refine ⟨fun h=>by simp[fen]at h,?_⟩;have hargs:wKa g args (#[]++xs.toArray.map a.eval++ #[]):=by
   subst ha;refine ⟨by simp,fun i c hi=>?_⟩;simp only[List.getElem?_map,Option.map_eq_some_iff]at hi;obtain ⟨x,hx,rfl⟩:=hi;have:=qba (hst.ev x);simpa[hx]using this
  have hsb:∀b,SB g σ0 b->b < g.w.heap.size/\(E.g0.w.heap.size<=b∨E.S b):=by
   rintro b ⟨o,ob,h1,h2⟩;obtain ⟨ob',h3,h4⟩:=hle.some h1;rw[<-h4]at h2;exact ⟨(hst.so.obj o ob' h3).block_lt h2,hst.so.mine o ob' b h3 h2⟩
  have hown:Own g σ0:=⟨hle.obj hst.so.obj,fun o o' ob ob' b h1 h2 h3 h4=>by
   obtain ⟨_,p1,e1⟩:=hle.some h1;obtain ⟨_,p2,e2⟩:=hle.some h2;rw[<-e1]at h3;rw[<-e2]at h4;exact hst.so.apart o o' _ _ b p1 p2 h3 h4,fun o ob b h1 h2 hb=>by
   rcases (hsb b ⟨o,ob,h1,h2⟩).2 with h3 | h3
   .have:=gl_lt E.gl hb;omega
   exact E.sg b hb h3⟩
  refine (wja (hr.run g _ hst.so.wf (E.glOf hst.so) hown hargs)).mono ?_;rintro e w' ⟨g',v,rfl,hl,ho,hw,rfl,hv,hobj,hap,hmine⟩;have hget:∀o ob,Sto.get (σ1++(σ.dels (O::rows)).clrs rows) o=some ob->σ1.get o=some ob∨(o ∉ O::rows/\∃ob1,σ.get o=some ob1/\ob=ob1.clrs rows):=by
   intro o ob hg;rw[Sto.get_append]at hg;cases h1:σ1.get o with
   | some ob1=>rw[h1]at hg;exact .inl (by simpa using hg)
   | none=>
    rw[h1,Option.none_or,Sto.get_clrs,Sto.get_dels]at hg;split at hg
    .cases hg
    rename_i hno;cases h2:σ.get o with
    | none=>rw[h2]at hg;cases hg
    | some ob1=>rw[h2]at hg;exact .inr ⟨hno,ob1,rfl,by simpa using hg.symm⟩
  have hout:∀o ob1 b,o ∉ O::rows->σ.get o=some ob1->ob1.own (g.loc o) b->¬SB g σ0 b:=by
   rintro o ob1 b hno ho1 hb ⟨o2,ob2,h2,hb2⟩;obtain ⟨ob3,h3,e3⟩:=hle.some h2;rw[<-e3]at hb2;have:=hst.so.apart o o2 _ _ b ho1 h3 hb hb2;subst this;rcases (Sto.okS_get hr.ok0 h2).1 with rfl | hin
   .exact hno List.mem_cons_self
   exact hno (List.mem_cons_of_mem _ hin)
  have hnr:∀o,o ∉ O::rows->o ∉ rows:=fun o h hin=>h (List.mem_cons_of_mem _ hin)
  have hst' :St E g' a (fr.clrs rows) (σ1++(σ.dels (O::rows)).clrs rows):=by
   refine ⟨fun d=>by rw[Fr.get_clrs];exact Kga ho.ext hl (hst.fr d),hst.n,hst.df.mono ho.ext,⟨?_,?_,?_,?_,hw⟩⟩
   .intro o ob hg;rcases hget o ob hg with h1 | ⟨hno,ob1,ho1,rfl⟩
    .exact hobj o ob h1
    have hro:=hst.so.obj o ob1 ho1;exact z6b hro ho.ext hl (hnr o hno) fun b hb=>ho.block b (hro.block_lt hb) (hout o ob1 b hno ho1 hb)
   .intro o o' ob ob' b h1 h2 h3 h4;rcases hget o ob h1 with h1 | ⟨hno,ob1,ho1,rfl⟩ <;> rcases hget o' ob' h2 with h2 | ⟨hno',ob1',ho1',rfl⟩
    .exact hap o o' ob ob' b h1 h2 h3 h4
    .exfalso;rw[AO.own_clrs,hl o' (hnr o' hno')]at h4;have hlt:=(hst.so.obj o' ob1' ho1').block_lt h4;rcases hmine o ob b h1 h3 with h5 | h5
     .omega
     exact hout o' ob1' b hno' ho1' h4 h5
    .exfalso;rw[AO.own_clrs,hl o (hnr o hno)]at h3;have hlt:=(hst.so.obj o ob1 ho1).block_lt h3;rcases hmine o' ob' b h2 h4 with h5 | h5
     .omega
     exact hout o ob1 b hno ho1 h3 h5
    rw[AO.own_clrs,hl o (hnr o hno)]at h3;rw[AO.own_clrs,hl o' (hnr o' hno')]at h4;exact hst.so.apart o o' ob1 ob1' b ho1 ho1' h3 h4
   .intro o ob b h1 h2;rcases hget o ob h1 with h1 | ⟨hno,ob1,ho1,rfl⟩
    .rcases hmine o ob b h1 h2 with h5 | h5
     .exact .inl (Nat.le_trans hst.so.old.ext.size h5)
     exact (hsb b h5).2
    rw[AO.own_clrs,hl o (hnr o hno)]at h2;exact hst.so.mine o ob1 b ho1 h2
   refine hst.so.old.trans (ho.mono fun b _ hb=>?_);exact (hsb b hb).2.symm
  exact hK g' _ (hst'.put (Nat.le_of_ble_eq_true hN) hv)⟩
section
variable {α:Type} {F:α->List PV} {l:List α} {size:Nat} {e:TypeId}
end
def AV.ren1(r r' :Nat):AV->AV
 | .hs x off=>bif Nat.beq x r then .hs r' off else .hs x off
 | c=>bif c.has r then .any else c
def AV.ren(r r' :Nat):AV->AV
 | .agg l=>.agg (l.map (AV.ren1 r r'))
 | c=>c.ren1 r r'
def Fr.ren(r r' :Nat):Fr->Fr
 | []=>[]
 | (k,c)::l=>(k,c.ren r r')::Fr.ren r r' l
theorem Fr.get_ren(r r' :Nat)(fr:Fr)(d:Nat):(fr.ren r r').get d=(fr.get d).ren r r' :=by
 induction fr with
 | nil=>rfl
 | cons x l ih=>
  obtain ⟨k,c⟩:=x;simp only[Fr.ren,Fr.get_cons,ih];split <;> rfl
def AO.ren(r r' :Nat):AO->AO
 | .cells cs=>.cells (cs.map (AV.ren r r'))
 | .hold c v=>.hold (c.ren r r') v
 | o=>o
def Sto.ren(r r' :Nat):Sto->Sto
 | []=>[]
 | (k,a)::l=>(k,a.ren r r')::Sto.ren r r' l
theorem Sto.get_ren(r r' :Nat)(σ:Sto)(o:Nat):(σ.ren r r').get o=(σ.get o).map (AO.ren r r'):=by
 induction σ with
 | nil=>rfl
 | cons x l ih=>
  obtain ⟨k,a⟩:=x;simp only[Sto.ren,Sto.get_cons,ih];split <;> rfl
theorem AO.own_ren(r r' :Nat)(ob:AO)(l:Loc):(ob.ren r r').own l=ob.own l:=by cases ob <;> rfl
section
variable {g g' :G} {r r' :Nat}
theorem rel_ren0(hw:g'.w=g.w)(hu:g'.u=g.u)(hk:∀k,k≠r' ->g'.loc k=g.loc k){c:AV}{v:Value}(h:Rel g c v)(hn:c.has r' =false):Rel g' (bif c.has r then .any else c) v:=by
 have hx:Ext g.w g.u g'.w g'.u:=by rw[hw,hu];exact Ext.refl _ _
 cases hc:c.has r with
 | true=>exact .any _
 | false=>exact h.mono hx fun k hk' =>hk k (by rintro rfl;rw[hn]at hk';cases hk')
theorem Y9a(hw:g'.w=g.w)(hu:g'.u=g.u)(hl:g'.loc r' =g.loc r)(hk:∀k,k≠r' ->g'.loc k=g.loc k){c:AV}{v:Value}(h:Rel g c v)(hn:c.has r' =false):Rel g' (c.ren1 r r') v:=by
 cases c
 case hs x off=>
  have hxr:x≠r' :=by rintro rfl;simp[AV.has]at hn
  cases hb:Nat.beq x r with
  | true=>
   rw[show AV.ren1 r r' (.hs x off)=.hs r' off by show (bif Nat.beq x r then AV.hs r' off else AV.hs x off)=_;rw[hb];rfl];have:x=r:=Nat.eq_of_beq_eq_true hb;subst this;cases h with
   | hsNil a h1=>exact .hsNil a (hl.trans h1)
   | hs h1 h2=>exact .hs (hl.trans h1) h2
  | false=>
   rw[show AV.ren1 r r' (.hs x off)=.hs x off by show (bif Nat.beq x r then AV.hs r' off else AV.hs x off)=_;rw[hb];rfl];cases h with
   | hsNil a h1=>exact .hsNil a ((hk x hxr).trans h1)
   | hs h1 h2=>exact .hs ((hk x hxr).trans h1) h2
 all_goals exact rel_ren0 (r:=r) hw hu hk h hn
theorem Yxa(hw:g'.w=g.w)(hu:g'.u=g.u)(hl:g'.loc r' =g.loc r)(hk:∀k,k≠r' ->g'.loc k=g.loc k){c:AV}{v:Value}(h:Rel g c v)(hn:c.has r' =false):Rel g' (c.ren r r') v:=by
 cases c
 case agg cs=>
  cases h with
  | agg hl2 hc2 h=>
   refine .agg (by simp[hl2]) hc2 fun i c hi=>?_
   simp only[List.getElem?_map,Option.map_eq_some_iff]at hi;obtain ⟨c',h1,rfl⟩:=hi;refine Y9a hw hu hl hk (h i c' h1) ?_;cases hh:c'.has r' with
   | false=>rfl
   | true=>rw[show (AV.agg cs).has r' =AV.hasL r' cs from rfl,AV.hasL_of h1 hh]at hn;cases hn
 all_goals exact Y9a hw hu hl hk h hn
theorem relO_ren(hw:g'.w=g.w)(hu:g'.u=g.u)(hl:g'.loc r' =g.loc r)(hk:∀k,k≠r' ->g'.loc k=g.loc k){o:Nat}{ob:AO}(h:RelO g o ob)(ho:o≠r')(hn:ob.has r' =false):RelO g' o (ob.ren r r'):=by
 have hx:Ext g.w g.u g'.w g'.u:=by rw[hw,hu];exact Ext.refl _ _
 have hh:∀k,ob.has k=true->g'.loc k=g.loc k:=fun k hk' =>hk k (by rintro rfl;rw[hn]at hk';cases hk')
 cases ob
 case cells cs=>
  cases h with
  | @cells _ b t vs h1 h2 h3 h4 h5 h6=>
   refine .cells ((hk o ho).trans h1) (by rw[hw];exact h2) (by simpa using h3) (by rw[hu];exact h4) h5 fun i c hi=>?_
   simp only[List.getElem?_map,Option.map_eq_some_iff]at hi;obtain ⟨c',hc',rfl⟩:=hi;refine Yxa hw hu hl hk (h6 i c' hc') ?_;cases hh' :c'.has r' with
   | false=>rfl
   | true=>rw[show (AO.cells cs).has r' =AV.hasL r' cs from rfl,AV.hasL_of hc' hh']at hn;cases hn
 case hold c v=>cases h with
  | hold h1=>exact .hold (Yxa hw hu hl hk h1 hn)
 all_goals exact h.mono hx (hk o ho) hh fun b _=>by rw[hw,hu];exact ⟨rfl,rfl⟩
end
theorem St.ren{g:G}{a:Act}{r r' :Nat}{ob:AO}(h:St E g a fr σ)(hr:σ.get r=some ob)(hne:Nat.beq r r' =false)(hf:fr.has r' =false)(hs:σ.has r' =false)(hg:σ.get r' =none)(hob:ob.okS []=true):
 St E ⟨g.w,g.u,fun k=>if k=r' then g.loc r else g.loc k⟩ a (fr.ren r r') ((r',ob)::(σ.del r).ren r r'):=by
 have hne:r≠r' :=by rintro rfl;simp at hne
 have hk:∀k,k≠r' ->(⟨g.w,g.u,fun k=>if k=r' then g.loc r else g.loc k⟩:G).loc k=g.loc k:=fun k hk=>if_neg hk
 have hl:(⟨g.w,g.u,fun k=>if k=r' then g.loc r else g.loc k⟩:G).loc r' =g.loc r:=if_pos rfl;have hhas:∀k,ob.has k=false:=fun k=>by
  cases hh:ob.has k with
  | false=>rfl
  | true=>exact absurd (AO.okS_has hob hh) (by simp)
 have hget:∀o ob1,Sto.get ((r',ob)::(σ.del r).ren r r') o=some ob1->(o=r' /\ob1=ob)∨(o≠r' /\o≠r/\∃ob2,σ.get o=some ob2/\ob1=ob2.ren r r'):=by
  intro o ob1 ho;rw[Sto.get_cons]at ho;split at ho
  .rename_i hk;cases ho;exact .inl ⟨hk.symm,rfl⟩
  rename_i hk;rw[Sto.get_ren,Sto.get_del]at ho;split at ho
  .cases ho
  rename_i hor;cases h2:σ.get o with
  | none=>rw[h2]at ho;cases ho
  | some ob2=>rw[h2]at ho;exact .inr ⟨Ne.symm hk,hor,ob2,rfl,by simpa using ho.symm⟩
 refine ⟨fun d=>?_,h.n,h.df,⟨?_,?_,?_,⟨h.so.old.os,h.so.old.tape,h.so.old.output,h.so.old.ext,h.so.old.block⟩,h.so.wf⟩⟩
 .rw[Fr.get_ren];refine Yxa (g:=g) (g' :=⟨g.w,g.u,fun k=>if k=r' then g.loc r else g.loc k⟩) rfl rfl hl hk (h.fr d) ?_;cases hh:(fr.get d).has r' with
  | false=>rfl
  | true=>rw[Fr.has_get hh]at hf;cases hf
 .intro o ob1 ho;rcases hget o ob1 ho with ⟨rfl,rfl⟩ | ⟨h1,h2,ob2,h3,rfl⟩
  .have hro:=h.so.obj r ob1 hr;cases ob1 with
   | cells cs=>
    cases hro with
    | @cells _ b t vs q1 q2 q3 q4 q5 q6=>
     exact .cells (hl.trans q1) q2 q3 q4 q5 fun i c hi=>Rel.mono (g:=g) (g' :=⟨g.w,g.u,fun k=>if k=o then g.loc r else g.loc k⟩) (Ext.refl _ _) (q6 i c hi) fun k hck=>by
      have:=hhas k;rw[show (AO.cells cs).has k=AV.hasL k cs from rfl,AV.hasL_of hi hck]at this;cases this
   | row e mu size elems=>
    cases hro with
    | nil q1=>exact .nil (hl.trans q1)
    | row q1 q2 q3 q4 q5 q6 q7 q8 q9=>exact .row (hl.trans q1) q2 q3 q4 q5 q6 q7 q8 q9
   | opq t n Q=>
    cases hro with
    | opq q1 q2 q3 q4 q5=>exact .opq (hl.trans q1) q2 q3 q4 q5
   | _=>cases hob
  refine relO_ren (g:=g) (g' :=⟨g.w,g.u,fun k=>if k=r' then g.loc r else g.loc k⟩) rfl rfl hl hk (h.so.obj o ob2 h3) h1 ?_;cases hh:ob2.has r' with
  | false=>rfl
  | true=>rw[Sto.has_get h3 hh]at hs;cases hs
 .intro o o' ob1 ob2 b q1 q2 q3 q4;rcases hget o ob1 q1 with ⟨rfl,rfl⟩ | ⟨h1,h2,ob3,h3,rfl⟩ <;> rcases hget o' ob2 q2 with ⟨rfl,rfl⟩ | ⟨h1',h2',ob4,h4,rfl⟩
  .rfl
  .rw[AO.own_ren]at q4;simp only[if_true]at q3;simp only[if_neg h1']at q4;exact absurd (h.so.apart r o' _ _ b hr h4 q3 q4) (Ne.symm h2')
  .rw[AO.own_ren]at q3;simp only[if_neg h1]at q3;simp only[if_true]at q4;exact absurd (h.so.apart o r _ _ b h3 hr q3 q4) h2
  rw[AO.own_ren]at q3 q4;simp only[if_neg h1]at q3;simp only[if_neg h1']at q4;exact h.so.apart o o' _ _ b h3 h4 q3 q4
 intro o ob1 b q1 q2;rcases hget o ob1 q1 with ⟨rfl,rfl⟩ | ⟨h1,h2,ob3,h3,rfl⟩
 .simp only[if_true]at q2;exact h.so.mine r _ b hr q2
 rw[AO.own_ren]at q2;simp only[if_neg h1]at q2;exact h.so.mine o _ b h3 q2
theorem awpl_ren{ops:Array Oper}{ol:List Oper}(r r' :Nat){ob:AO}(hr:σ.get r=some ob)(hne:Nat.beq r r' =false)(hf:fr.has r' =false)(hs:σ.has r' =false)(hg:σ.get r' =none)(hob:ob.okS []=true)
 (h:AWPL E ops ol (fr.ren r r') ((r',ob)::(σ.del r).ren r r') K):AWPL E ops ol fr σ K:=
 ⟨fun g a hst=>h.go ⟨g.w,g.u,fun k=>if k=r' then g.loc r else g.loc k⟩ a (hst.ren hr hne hf hs hg hob)⟩
section
variable {α:Type} {F:α->List PV} {r' :List α} {size bytes sb ss k lim:Nat} {e t:TypeId} {zero sz:Value} {d:TypeDesc} {x:Operand} {n:Int} {z:α}
end
end
section
open Go.RowKit Go.Lib Go.Proofs.Tryz
variable {E:Env} {fr:Fr} {σ:Sto} {K:Post}
def purF:List Oper->List (Option AV)->List Bool->Fr
 | o::l,some c::cs,b::D=>(match o.dst with | some d=>[(d,bif b then c else .any)] | none=>[])++purF l cs D
 | _::l,none::cs,_::D=>purF l cs D
 | _,_,_=>[]
def wra(l:List Oper)(cs:List (Option AV))(i:Nat):Option Nat:=match cs[i]? with
 | some (some _)=>(l[i]?).bind (·.dst)
 | _=>none
theorem koa:∀(l:List Oper) (cs:List (Option AV)) (D:List Bool) (d:Nat),(∀i,wra l cs i≠some d)->(purF l cs D++fr).get d=fr.get d
 | [],_,_,_,_=>rfl
 | _::_,[],_,_,_=>rfl
 | _::_,some _::_,[],_,_=>rfl
 | _::_,none::_,[],_,_=>rfl
 | o::l,none::cs,b::D,d,h=>koa l cs D d fun i=>h (i+1)
 | o::l,some c::cs,b::D,d,h=>by
  have ih:=koa l cs D d fun i=>h (i+1)
  have h0:o.dst≠some d:=h 0;unfold purF;cases hd:o.dst with
  | none=>exact ih
  | some d' =>
   show Fr.get ((d',_)::(purF l cs D++fr)) d=_;rw[Fr.get_cons,if_neg (fun e=>h0 (by rw[hd,e]))];exact ih
theorem kZa:∀(l:List Oper) (cs:List (Option AV)) (D:List Bool) (i:Nat) (c:AV) (d:Nat),(∀i j d,wra l cs i=some d->wra l cs j=some d->i=j)->l.length<=D.length->wra l cs i=some d->cs[i]? =some (some c)->(purF l cs D++fr).get d=bif D.getD i false then c else .any
 | [],_,_,i,_,_,_,_,h,hc=>by unfold wra at h;rw[hc]at h;simp at h
 | _::_,[],_,i,_,_,_,_,h,hc=>by simp at hc
 | _::_,_::_,[],_,_,_,_,hl,_,_=>by simp at hl
 | o::l,none::cs,b::D,0,c,d,_,_,h,hc=>by simp at hc
 | o::l,none::cs,b::D,i+1,c,d,hd,hl,h,hc=>by
  have:=kZa l cs D i c d (fun i j d h1 h2=>by have:=hd (i+1) (j+1) d h1 h2;omega) (by simpa using hl) h (by simpa using hc);simpa[purF]using this
 | o::l,some c0::cs,b::D,0,c,d,hd,hl,h,hc=>by
  simp at hc;subst hc;have h0:o.dst=some d:=h;unfold purF;rw[h0];show Fr.get ((d,_)::(purF l cs D++fr)) d=_;rw[Fr.get_cons,if_pos rfl];rfl
 | o::l,some c0::cs,b::D,i+1,c,d,hd,hl,h,hc=>by
  have ih:=kZa l cs D i c d (fun i j d h1 h2=>by have:=hd (i+1) (j+1) d h1 h2;omega) (by simpa using hl) h (by simpa using hc);unfold purF;cases h0:o.dst with
  | none=>simpa using ih
  | some d' =>
   show Fr.get ((d',_)::(purF l cs D++fr)) d=_;rw[Fr.get_cons,if_neg (fun e=>by
    have:=hd 0 (i+1) d (by show o.dst=some d;rw[h0,e]) h;omega)]
   simpa using ih
theorem Fr.has_append(q:Nat):∀(x y:Fr),Fr.has q (x++y)=(Fr.has q x || Fr.has q y)
 | [],y=>by simp[Fr.has]
 | (k,a)::x,y=>by simp[Fr.has,Fr.has_append q x y,Bool.or_assoc]
theorem Vsa(q:Nat):∀(l:List Oper) (cs:List (Option AV)) (D T:List Bool),T=List.replicate D.length true->Fr.has q (purF l cs D)=true->Fr.has q (purF l cs T)=true
 | [],_,_,_,_,h=>by simp[purF,Fr.has]at h
 | _::_,[],_,_,_,h=>by simp[purF,Fr.has]at h
 | _::_,some _::_,[],_,_,h=>by simp[purF,Fr.has]at h
 | _::_,none::_,[],_,_,h=>by simp[purF,Fr.has]at h
 | o::l,none::cs,b::D,T,hT,h=>by
  subst hT;exact Vsa q l cs D _ rfl (by simpa[purF]using h)
 | o::l,some c::cs,b::D,T,hT,h=>by
  subst hT;have ih:=Vsa q l cs D _ rfl;unfold purF at h ⊢;simp only[List.length_cons,List.replicate_succ]at h ⊢;cases h0:o.dst with
  | none=>rw[h0]at h;simp[Fr.has_append,Fr.has]at h ⊢;exact ih h
  | some d=>
   rw[h0]at h;simp only[Fr.has_append,Fr.has,Bool.or_false,Bool.or_eq_true,cond_true]at h ⊢;rcases h with h | h
   .refine .inl ?_;cases b with
    | true=>exact h
    | false=>simp[AV.has]at h
   exact .inr (ih h)
structure HvS (E:Env) (o:Oper) (FR:Fr) (σ σ' :Sto):Prop where
 go:∀fr,(∀x∈o.op.operands,fr.ev x=FR.ev x)->(∀q,FR.has q=false->fr.has q=false)->OpTo E o fr σ fr σ'
structure HvD (E:Env) (o:Oper) (FR:Fr) (σ:Sto) (k:Nat) (c:AV) (rs:List Nat) (σ' :Sto):Prop where
 go:∀fr,(∀x∈o.op.operands,fr.ev x=FR.ev x)->(∀q,FR.has q=false->fr.has q=false)->OpTo E o fr σ ((k,c)::fr.clrs rs) σ'
structure HvP (E:Env) (o:Oper) (FR:Fr) (σ:Sto) (rs:List Nat) (σ' :Sto):Prop where
 go:∀fr,(∀x∈o.op.operands,fr.ev x=FR.ev x)->(∀q,FR.has q=false->fr.has q=false)->OpTo E o fr σ (fr.clrs rs) σ'
def allT(l:List Oper):List Bool:=List.replicate l.length true
def Jaa(cs:List (Option AV))(rs:List Nat):Bool:=cs.all fun c=>match c with | some c=>rs.all fun r=> !c.has r | none=>true
inductive Yya (E:Env) (l:List Oper) (cs:List (Option AV)) (all:List Node) (H:List Bool) (fr:Fr) (σ:Sto) (i:Nat):Prop
 | pure {o:Oper} {c:AV} (ho:l[i]? =some o) (hc:cs[i]? =some (some c)) (h:OpG E o (purF l cs (allT l)++fr) σ c)
 | sto {o:Oper} {σ' σ2:Sto} {fr2:Fr} (j:Nat) (ho:l[i]? =some o) (hc:cs[i]? =some none) (h:HvS E o (purF l cs (allT l)++fr) σ σ') (hn:all[j]? =some (H.set i true,fr2,σ2)) (hf:FrLe fr fr2) (hs:z8a σ' σ2)
 | dst {o:Oper} {k:Nat} {c:AV} {rs:List Nat} {σ' σ2:Sto} {fr2:Fr} (j:Nat) (ho:l[i]? =some o) (hc:cs[i]? =some none) (hk:((List.range l.length).all fun i=>wra l cs i !=some k)=true) (hrs:Jaa cs rs=true)
  (h:HvD E o (purF l cs (allT l)++fr) σ k c rs σ') (hn:all[j]? =some (H.set i true,fr2,σ2)) (hf:FrLe ((k,c)::fr.clrs rs) fr2) (hs:z8a σ' σ2)
 | put {o:Oper} {rs:List Nat} {σ' σ2:Sto} {fr2:Fr} (j:Nat) (ho:l[i]? =some o) (hc:cs[i]? =some none) (hrs:Jaa cs rs=true)
  (h:HvP E o (purF l cs (allT l)++fr) σ rs σ') (hn:all[j]? =some (H.set i true,fr2,σ2)) (hf:FrLe (fr.clrs rs) fr2) (hs:z8a σ' σ2)
inductive vQa (E:Env) (l:List Oper) (cs:List (Option AV)) (all:List Node) (H:List Bool) (fr:Fr) (σ:Sto):List Nat->Prop
 | nil:vQa E l cs all H fr σ []
 | cons {i:Nat} {is:List Nat} (h:Yya E l cs all H fr σ i) (r:vQa E l cs all H fr σ is):vQa E l cs all H fr σ (i::is)
def isHv(cs:List (Option AV))(i:Nat):Bool:=match cs[i]? with | some none=>true | _=>false
def mayL(l:List Oper)(cs:List (Option AV))(H:List Bool):List Nat:=(List.range l.length).filter fun i=>
 !(H.getD i false) && (List.range l.length).all fun j=> !(isHv cs j) || ((!(((vya l l.length).getD i 0).testBit j) || H.getD j false) && (!(H.getD j false) || !(((vya l l.length).getD j 0).testBit i)))
inductive Yza (E:Env) (l:List Oper) (cs:List (Option AV)) (K:Post) (all:List Node):Node->Prop
 | full {H:List Bool} {fr:Fr} {σ:Sto} (is:List Nat) (hD:mayL l cs H=is) (hs:vQa E l cs all H fr σ is) {frJ:Fr} {σJ:Sto} (hf:FrLe (purF l cs (allT l)++fr) frJ) (hso:z8a σ σJ) (h:K .normal frJ σJ):Yza E l cs K all (H,fr,σ)
 | step {H:List Bool} {fr:Fr} {σ:Sto} (is:List Nat) (hD:mayL l cs H=is) (hn:((List.range l.length).all fun i=> !(isHv cs i) || H.getD i false)=false) (hs:vQa E l cs all H fr σ is):Yza E l cs K all (H,fr,σ)
inductive jra (E:Env) (l:List Oper) (cs:List (Option AV)) (K:Post) (all:List Node):List Node->Prop
 | nil:jra E l cs K all []
 | cons {nd:Node} {r:List Node} (h:Yza E l cs K all nd) (hr:jra E l cs K all r):jra E l cs K all (nd::r)
theorem vQa.get{l:List Oper}{cs:List (Option AV)}{all:List Node}{H:List Bool}{is:List Nat}(h:vQa E l cs all H fr σ is){i:Nat}(hi:i∈is):Yya E l cs all H fr σ i:=by
 induction h with
 | nil=>cases hi
 | cons h _ ih=>
  rcases List.mem_cons.1 hi with rfl | hi
  .exact h
  exact ih hi
theorem jra.get{l:List Oper}{cs:List (Option AV)}{all r:List Node}(h:jra E l cs K all r){nd:Node}(hi:nd∈r):Yza E l cs K all nd:=by
 induction h with
 | nil=>cases hi
 | cons h _ ih=>
  rcases List.mem_cons.1 hi with rfl | hi
  .exact h
  exact ih hi
def z7b(N:Nat)(l:List Oper)(cs:List (Option AV)):Bool:=
 qQa .any l.toArray && Nat.beq cs.length l.length && (l.all fun o=>o.guard.isNone) &&
 (l.all fun o=>o.dst.all fun d=>Nat.ble (d+1) N) &&
 ((List.range l.length).all fun i=>isHv cs i || (wra l cs i).isSome) &&
 ((List.range l.length).all fun i=>(List.range l.length).all fun j=>Nat.beq i j || (wra l cs i).isNone || wra l cs i !=wra l cs j) &&
 (l.all fun o=>(j1a o).all fun t=>(List.range l.length).all fun j=>wra l cs j !=some t || kMa o j)
theorem yLa{rs:List Nat}{c:AV}(h:(rs.all fun r=> !c.has r)=true):c.clrs rs=c:=by
 unfold AV.clrs;have:(rs.any fun r=>c.has r)=false:=by
  rw[List.any_eq_false];intro r hr;have:=List.all_eq_true.1 h r hr;simpa using this
 rw[this];rfl
theorem JSa{id:Nat}{l:List Oper}(cs:List (Option AV))(all:List Node){H0:List Bool}{fr0:Fr}{σ0:Sto}(hmix:E.P.follows .mixedOrders=true)(hok:z7b E.N l cs=true)(h0:all[0]? =some (H0,fr0,σ0))(hH0:H0=List.replicate l.length false)
 (hf:FrLe fr fr0) (hs:z8a σ σ0) (h:jra E l cs K all all):AWP E (.region id l.toArray true) fr σ K:=by
 simp only[z7b,Bool.and_eq_true,List.all_eq_true]at hok;obtain ⟨⟨⟨⟨⟨⟨hlb,hlen⟩,hgd⟩,hN⟩,hall⟩,hdist⟩,hdat⟩:=hok;have hlen:=Nat.eq_of_beq_eq_true hlen;have hdl:∀i d,wra l cs i=some d->i < l.length:=by
  intro i d hd;rcases Nat.lt_or_ge i l.length with h1 | h1
  .exact h1
  unfold wra at hd;rw[List.getElem?_eq_none (by omega)]at hd;cases hd
 have hdist' :∀i j d,wra l cs i=some d->wra l cs j=some d->i=j:=by
  intro i j d h1 h2;have:=hdist i (by simpa using hdl i d h1) j (by simpa using hdl j d h2);simp only[Bool.or_eq_true,bne_iff_ne,ne_eq]at this;rcases this with (h3 | h3) | h3
  .exact Nat.eq_of_beq_eq_true h3
  .rw[h1]at h3;cases h3
  exact absurd (h1.trans h2.symm) h3
 have hdirD:∀{D:Nat->Bool} {o:Oper} {j:Nat},(∀e∈o.after,Region.binds .any e=true->D e.on=true)->kMa o j=true->D j=true:=by
  intro D o j he hd;simp only[kMa,List.any_eq_true,Bool.and_eq_true]at hd;obtain ⟨e,h1,h2,h3⟩:=hd;rw[<-Nat.eq_of_beq_eq_true h3];exact he e (by simpa using h1) h2
 let bits:(Nat->Bool)->List Bool:=fun D=>(List.range l.length).map D
 have hbl:∀D,(bits D).length=l.length:=fun D=>by simp[bits]
 have hbg:∀D i,i < l.length->(bits D).getD i false=D i:=fun D i hi=>by simp[bits,List.getD_eq_getElem?_getD,hi]
 have hTl:(allT l).length=l.length:=by simp[allT]
 have hTg:∀i,i < l.length->(allT l).getD i false=true:=fun i hi=>by simp[allT,List.getD_eq_getElem?_getD,hi]
 have hslot:∀d,(∃i c,wra l cs i=some d/\cs[i]? =some (some c)/\i < l.length)∨(∀i,wra l cs i≠some d):=by
  intro d;by_cases hex:∃i,wra l cs i=some d
  .obtain ⟨i,hi⟩:=hex;refine .inl ⟨i,?_⟩;have hil:=hdl i d hi;cases hc:cs[i]? with
   | none=>unfold wra at hi;rw[hc]at hi;cases hi
   | some x=>
    cases x with
    | none=>unfold wra at hi;rw[hc]at hi;cases hi
    | some c=>exact ⟨c,hi,rfl,hil⟩
  exact .inr fun i hi=>hex ⟨i,hi⟩
 have hev:∀(D:Nat->Bool) (o:Oper) (frA:Fr),o∈l->(∀e∈o.after,Region.binds .any e=true->D e.on=true)->∀x∈o.op.operands,(purF l cs (bits D)++frA).ev x=(purF l cs (allT l)++frA).ev x:=by
  intro D o frA hm he x hx;cases x with
  | const v=>rfl
  | global q=>rfl
  | func f=>rfl
  | tmp t=>
   show (purF l cs (bits D)++frA).get t=(purF l cs (allT l)++frA).get t;rcases hslot t with ⟨i,c,h1,h2,h3⟩ | h1
   .rw[kZa l cs (bits D) i c t hdist' (by rw[hbl];omega) h1 h2,kZa l cs (allT l) i c t hdist' (by rw[hTl];omega) h1 h2,hbg D i h3,hTg i h3];have:=hdat o hm t (by simp only[j1a,List.mem_filterMap];exact ⟨.tmp t,by simpa using hx,rfl⟩) i (by simpa using h3);simp only[Bool.or_eq_true,bne_iff_ne,ne_eq]at this;rcases this with h4 | h4
    .exact absurd h1 h4
    rw[hdirD he h4]
   rw[koa l cs _ t h1,koa l cs _ t h1]
 have hhas:∀(D:Nat->Bool) (frA:Fr) q,(purF l cs (allT l)++frA).has q=false->(purF l cs (bits D)++frA).has q=false:=by
  intro D frA q hq;rw[Fr.has_append,Bool.or_eq_false_iff]at hq ⊢;refine ⟨?_,hq.2⟩;cases hb:Fr.has q (purF l cs (bits D)) with
  | false=>rfl
  | true=>
   have:=Vsa q l cs (bits D) (allT l) (by rw[hbl];rfl) hb;rw[this]at hq;cases hq.1
 let J:(Nat->Bool)->Act->World->Prop:=fun D a w=>(∀i o,l[i]? =some o->D i=true->∀e∈o.after,Region.binds .any e=true->D e.on=true)/\
  ∃nd∈all,nd.1.length=l.length/\(∀i,i < l.length->isHv cs i=true->D i=nd.1.getD i false)/\(∀i,i < l.length->isHv cs i=false->nd.1.getD i false=false)/\∃g,g.w=w/\St E g a (purF l cs (bits D)++nd.2.1) nd.2.2
 refine ⟨fun g a hst=>k5a hmix hlb J ?_ ?_ ?_⟩
 .refine ⟨fun i o _ hd=>by simp at hd,_,List.mem_of_getElem? h0,by subst hH0;simp,fun i hi _=>by subst hH0;simp[List.getD_eq_getElem?_getD,hi],fun i hi _=>by subst hH0;simp[List.getD_eq_getElem?_getD,hi],⟨g.w.drew,g.u,g.loc⟩,rfl,(hst.le (fun d=>?_) hs).drew⟩;rcases hslot d with ⟨i,c,h1,h2,h3⟩ | h1
  .rw[kZa l cs _ i c d hdist' (by rw[hbl];omega) h1 h2,hbg _ i h3];exact .inl rfl
  rw[koa l cs _ d h1];exact hf d
 .rintro D a w ⟨_,⟨H,frA,σA⟩,hm,hl,hD,_,g,rfl,hst'⟩ hfin;have hfin' :∀i,i < l.length->D i=true:=fun i hi=>hfin i (by simpa using hi)
  cases h.get hm with
  | full is _ _ hfJ hsJ hk=>
   refine ⟨g,_,_,rfl,St.le ?_ hfJ hsJ,hk⟩;have:bits D=allT l:=by
    apply List.ext_getElem (by rw[hbl,hTl]);intro i h1 h2;have hi:i < l.length:=by rw[hbl]at h1;exact h1
    simp[bits,allT,hfin' i hi]
   rw[<-this];exact hst'
  | step is _ hn _=>
   exfalso;have:((List.range l.length).all fun i=> !(isHv cs i) || H.getD i false)=true:=by
    rw[List.all_eq_true];intro i hi;have hi:i < l.length:=by simpa using hi
    cases hh:isHv cs i with
    | false=>rfl
    | true=>rw[<-hD i hi hh,hfin' i hi];rfl
   rw[this]at hn;cases hn
 rintro D a w i o ⟨hcl,⟨H,frA,σA⟩,hm,hl,hD,hD0,g,rfl,hst'⟩ ho hDi he;have ho' :l[i]? =some o:=by simpa using ho
 have hil:i < l.length:=(List.getElem?_eq_some_iff.1 ho').1;have hom:o∈l:=List.mem_of_getElem? ho';have hgo:o.guard=none:=by simpa using hgd o hom
 have hcl' :∀i' o',l[i']? =some o' ->upd D i i' =true->∀e∈o'.after,Region.binds .any e=true->upd D i e.on=true:=by
  intro i' o' h1 h2 e h3 h4;unfold upd at h2 ⊢;split
  .rfl
  split at h2
  .rename_i hii;subst hii;rw[ho']at h1;cases h1;exact he e h3 h4
  exact hcl i' o' h1 h2 e h3 h4
 have hmay:i∈mayL l cs H:=by
  simp only[mayL,List.mem_filter,List.mem_range,Bool.and_eq_true,Bool.not_eq_true',List.all_eq_true,Bool.or_eq_true];refine ⟨hil,?_,fun j hj=>?_⟩
  .cases hh:isHv cs i with
   | true=>rw[<-hD i hil hh];exact hDi
   | false=>exact hD0 i hil hh
  cases hh:isHv cs j with
  | false=>exact .inl rfl
  | true=>
   refine .inr ⟨?_,?_⟩
   .cases hb:((vya l l.length).getD i 0).testBit j with
    | false=>exact .inl rfl
    | true=>exact .inr (by rw[<-hD j hj hh];exact vBa hcl l.length i o ho' he j hb)
   cases hHj:H.getD j false with
   | false=>exact .inl rfl
   | true=>
    refine .inr ?_;cases hb:((vya l l.length).getD j 0).testBit i with
    | false=>rfl
    | true=>
     have:=yFa hcl l.length j i hb (by rw[hD j hj hh];exact hHj);rw[hDi]at this;cases this
 have hstep:Yya E l cs all H frA σA i:=by
  cases h.get hm with
  | full is hD2 hs _ _ _=>exact (hD2▸hs:vQa E l cs all H frA σA (mayL l cs H)).get hmay
  | step is hD2 _ hs=>exact (hD2▸hs:vQa E l cs all H frA σA (mayL l cs H)).get hmay
 have hw:Region.wanted o (yielded l.toArray a.tmps)=true:=by simp[Region.wanted,hgo]
 have hheavy:∀(_:cs[i]? =some none),(∀k,k < l.length->isHv cs k=true->upd D i k=(H.set i true).getD k false)/\(∀k,k < l.length->isHv cs k=false->(H.set i true).getD k false=false)/\∀frX d,(purF l cs (bits (upd D i))++frX).get d=(purF l cs (bits D)++frX).get d:=by
  intro hc;have hhv:isHv cs i=true:=by unfold isHv;rw[hc]
  refine ⟨fun k hk hh=>?_,fun k hk hh=>?_,fun frX d=>?_⟩
  .unfold upd;simp only[List.getD_eq_getElem?_getD,List.getElem?_set];by_cases hki:k=i
   .subst hki;simp[hl,hk]
   rw[if_neg hki,if_neg (Ne.symm hki),<-List.getD_eq_getElem?_getD];exact hD k hk hh
  .have hki:k≠i:=by rintro rfl;rw[hhv]at hh;cases hh
   simp only[List.getD_eq_getElem?_getD,List.getElem?_set];rw[if_neg (Ne.symm hki),<-List.getD_eq_getElem?_getD];exact hD0 k hk hh
  rcases hslot d with ⟨j,c,h1,h2,h3⟩ | h1
  .rw[kZa l cs _ j c d hdist' (by rw[hbl];omega) h1 h2,kZa l cs _ j c d hdist' (by rw[hbl];omega) h1 h2,hbg _ j h3,hbg _ j h3];have hji:j≠i:=by rintro rfl;rw[hc]at h2;cases h2
   unfold upd;rw[if_neg hji]
  rw[koa l cs _ d h1,koa l cs _ d h1]
 unfold wpOpIn;rw[ho];simp only[hw,if_true];cases hstep with
 | @pure o2 c ho2 hc hop=>
  rw[ho']at ho2;cases ho2;have hhv:isHv cs i=false:=by unfold isHv;rw[hc]
  have hops:∀x∈o.op.operands,Rel g ((purF l cs (allT l)++frA).ev x) (a.eval x):=fun x hx=>by
   rw[<-hev D o frA hom he x hx];exact hst'.ev x
  obtain ⟨d,hd⟩:∃d,wra l cs i=some d:=by
   have:=hall i (by simpa using hil);rw[hhv]at this;simpa[Option.isSome_iff_exists]using this
  have hod:o.dst=some d:=by
   unfold wra at hd;rw[hc,ho']at hd;simpa using hd
  refine hop.go g a _ _ hops hst'.so fun g' v h1 h2 h3 h4=>⟨hcl',(H,frA,σA),hm,hl,fun k hk hh=>?_,hD0,g',rfl,?_⟩
  .have hki:k≠i:=by rintro rfl;rw[hhv]at hh;cases hh
   unfold upd;rw[if_neg hki];exact hD k hk hh
  have hdN:d < E.N:=by
   have:=hN o hom;rw[hod]at this;exact Nat.le_of_ble_eq_true (by simpa using this)
  have hsz:=hst'.n;refine ⟨fun d' =>?_,by rw[hod];simp[Act.put,hsz],by rw[hod];exact hst'.df.mono h1.ext,hst'.so.grow h1 h2 (fun k _=>by rw[h3])⟩;have hget:(a.put o.dst v).tmps.getD d' undef=if d=d' then v else a.tmps.getD d' undef:=by
   rw[hod];simp only[Act.put];rw[kQa];by_cases h5:d=d'
   .rw[if_pos ⟨h5,by omega⟩,if_pos h5]
   rw[if_neg (fun x=>h5 x.1),if_neg h5]
  rw[hget];by_cases h5:d=d'
  .subst h5;rw[if_pos rfl,kZa l cs _ i c d hdist' (by rw[hbl];omega) hd hc,hbg _ i hil];have:upd D i i=true:=by unfold upd;rw[if_pos rfl]
   rw[this];exact h4
  rw[if_neg h5];have hsame:(purF l cs (bits (upd D i))++frA).get d' =(purF l cs (bits D)++frA).get d' :=by
   rcases hslot d' with ⟨j,c',q1,q2,q3⟩ | q1
   .rw[kZa l cs _ j c' d' hdist' (by rw[hbl];omega) q1 q2,kZa l cs _ j c' d' hdist' (by rw[hbl];omega) q1 q2,hbg _ j q3,hbg _ j q3];have hji:j≠i:=by rintro rfl;rw[hd]at q1;cases q1;exact h5 rfl
    unfold upd;rw[if_neg hji]
   rw[koa l cs _ d' q1,koa l cs _ d' q1]
  rw[hsame];exact (hst'.fr d').mono h1.ext (fun k _=>by rw[h3])
 | @sto o2 σ' σ2 fr2 j ho2 hc hop hn hf2 hs2=>
  rw[ho']at ho2;cases ho2;obtain ⟨q1,q2,q3⟩:=hheavy hc;refine (hop.go _ (hev D o frA hom he) (hhas D frA)).go g a _ _ hst' fun g' a' hst2=>⟨hcl',_,List.mem_of_getElem? hn,by simp[hl],q1,q2,g',rfl,hst2.le (fun d=>?_) hs2⟩
  rw[q3];rcases hslot d with ⟨k,c,h1,h2,h3⟩ | h1
  .rw[kZa l cs _ k c d hdist' (by rw[hbl];omega) h1 h2,kZa l cs _ k c d hdist' (by rw[hbl];omega) h1 h2];exact .inr (.inl rfl)
  rw[koa l cs _ d h1,koa l cs _ d h1];exact hf2 d
 | @dst o2 k c rs σ' σ2 fr2 j ho2 hc hk hrs hop hn hf2 hs2=>
  rw[ho']at ho2;cases ho2;obtain ⟨q1,q2,q3⟩:=hheavy hc;refine (hop.go _ (hev D o frA hom he) (hhas D frA)).go g a _ _ hst' fun g' a' hst2=>⟨hcl',_,List.mem_of_getElem? hn,by simp[hl],q1,q2,g',rfl,hst2.le (fun d=>?_) hs2⟩
  rw[q3];rcases hslot d with ⟨m,c',h1,h2,h3⟩ | h1
  .have hkd:k≠d:=by
    rintro rfl;have:=List.all_eq_true.1 hk m (by simpa using h3);simp[h1]at this
   rw[Fr.get_cons,if_neg hkd,Fr.get_clrs,kZa l cs _ m c' d hdist' (by rw[hbl];omega) h1 h2,kZa l cs _ m c' d hdist' (by rw[hbl];omega) h1 h2];refine .inr (.inl ?_);cases (bits D).getD m false with
   | false=>exact yLa (by rw[List.all_eq_true];intro r _;rfl)
   | true=>
    refine yLa ?_;have:=List.all_eq_true.1 hrs _ (List.mem_of_getElem? h2);exact this
  have:=hf2 d;rw[Fr.get_cons,Fr.get_clrs]at this ⊢;rw[koa l cs _ d h1,koa l cs _ d h1];exact this
 | @put o2 rs σ' σ2 fr2 j ho2 hc hrs hop hn hf2 hs2=>
  rw[ho']at ho2;cases ho2;obtain ⟨q1,q2,q3⟩:=hheavy hc;refine (hop.go _ (hev D o frA hom he) (hhas D frA)).go g a _ _ hst' fun g' a' hst2=>⟨hcl',_,List.mem_of_getElem? hn,by simp[hl],q1,q2,g',rfl,hst2.le (fun d=>?_) hs2⟩
  rw[q3];rcases hslot d with ⟨m,c',h1,h2,h3⟩ | h1
  .rw[Fr.get_clrs,kZa l cs _ m c' d hdist' (by rw[hbl];omega) h1 h2,kZa l cs _ m c' d hdist' (by rw[hbl];omega) h1 h2];refine .inr (.inl ?_);cases (bits D).getD m false with
   | false=>exact yLa (by rw[List.all_eq_true];intro r _;rfl)
   | true=>
    refine yLa ?_;have:=List.all_eq_true.1 hrs _ (List.mem_of_getElem? h2);exact this
  have:=hf2 d;rw[Fr.get_clrs]at this ⊢;rw[koa l cs _ d h1,koa l cs _ d h1];exact this
section
variable {FR:Fr} {ty:TypeId} {pos:String} {af:Array Edge} {gu:Option (Nat × Bool)} {T:Tab} {P:Program} {id k r size bytes:Nat} {e t:TypeId} {zero:Value} {d:TypeDesc}
theorem z8b{o:Oper}{fr' fr2:Fr}{σ' σ2:Sto}(h:OpTo E o fr σ fr' σ')(hf:FrLe fr' fr2)(hs:z8a σ' σ2):OpTo E o fr σ fr2 σ2:=
 ⟨fun g a K Q hst hK=>h.go g a K Q hst fun g' a' h' =>hK g' a' (h'.le hf hs)⟩
theorem q7a:z8a σ σ:=fun _ _ h=>.inl h
theorem JTa{c:AV}:FrLe ((k,c)::fr) ((k,c)::fr.clrs []):=fun d=>by
 rw[Fr.get_cons,Fr.get_cons,Fr.get_clrs,yLa rfl];exact .inr (.inl rfl)
theorem Vta{f:FuncId}{xs:List Operand}{ats:Array TypeId}{args:List AV}{els:List (List PV)}(r:Nat)(hr:RunO E.P f args e size els)(hN:Nat.ble (k+1) E.N=true)(hf:FR.has r=false)(hs:σ.has r=false)(ha:xs.map (fun x=>(FR.ev x).weak)=args):
 HvD E ⟨some k,.call ⟨.value (.func f),xs.toArray,ats⟩,ty,pos,af,gu⟩ FR σ k (.hs r 0) [] ((r,.row e true size els)::σ):=
 ⟨fun fr he hh=>z8b (jda r hr hN (hh r hf) hs (by
  rw[<-ha];refine List.map_congr_left fun x hx=>?_
  rw[he x (by simp[Op.operands,Call.operands,hx])])) JTa q7a⟩
end
end
section
section
variable {P:Program} {ρ:Operand->AV} {σ:Sto} {dst:Option Tmp} {ty:TypeId} {pos:String} {af:Array Edge} {gu:Option (Nat × Bool)} {x y:Operand} {t t' :TypeId} {ss sb ss' sb' :Nat} {sz sz' :Value} {a b n:Int}
end
end
structure zra where
 Code:Int
 Index:Int
def zra.pc(x:zra):List PV:=[pI x.Code,pI x.Index]
structure wDa where
 Address:Str
 To:List Str
def wDa.pc(x:wDa):List PV:=[pS x.Address,pL cS x.To]
structure zca where
 Address:Str
 Notify:Int
def zca.pc(x:zca):List PV:=[pS x.Address,pI x.Notify]
structure zya where
 From:Str
 To:List zca
 Id:Str
def zya.pc(x:zya):List PV:=[pS x.From,pL zca.pc x.To,pS x.Id]
structure zga where
 Name:Str
 Value:Str
def zga.pc(x:zga):List PV:=[pS x.Name,pS x.Value]
structure zAa where
 Fields:List zga
 Body:List UInt8
def zAa.pc(x:zAa):List PV:=[pL zga.pc x.Fields,pL cU x.Body]
structure kua where
 Envelope:zya
 Message:zAa
def kua.pc(x:kua):List PV:=[pS x.Envelope.From,pL zca.pc x.Envelope.To,pS x.Envelope.Id,pL zga.pc x.Message.Fields,pL cU x.Message.Body]
structure zda where
 Recipient:zca
 Result:Int
 Busy:Bool
def zda.pc(x:zda):List PV:=[pS x.Recipient.Address,pI x.Recipient.Notify,pI x.Result,pB x.Busy]
structure zba where
 Id:Int
 Mail:kua
 Since:Int
 Tries:Int
 Due:Int
 To:List zda
def zba.pc(x:zba):List PV:=[pI x.Id,pS x.Mail.Envelope.From,pL zca.pc x.Mail.Envelope.To,pS x.Mail.Envelope.Id,pL zga.pc x.Mail.Message.Fields,pL cU x.Mail.Message.Body,pI x.Since,pI x.Tries,pI x.Due,pL zda.pc x.To]
structure zpa where
 Entries:List zba
 Next:Int
def zpa.pc(x:zpa):List PV:=[pL zba.pc x.Entries,pI x.Next]
structure zha where
 Entry:Int
 Domain:Str
 To:List Int
def zha.pc(x:zha):List PV:=[pI x.Entry,pS x.Domain,pL cI x.To]
structure zia where
 Entry:Int
 Number:Int
 Result:Int
def zia.pc(x:zia):List PV:=[pI x.Entry,pI x.Number,pI x.Result]
section
open Go.RowKit Go.Lib Go.Proofs.Tryz
variable {E:Env} {fr:Fr} {σ:Sto} {K:Post} {T:Tab} {l:List Oper} {cs:List (Option AV)} {all:List Node} {H:List Bool}
theorem vQa.of:∀{is:List Nat},(∀i∈is,Yya E l cs all H fr σ i)->vQa E l cs all H fr σ is
 | [],_=>.nil
 | i::is,h=>.cons (h i (by simp)) (vQa.of fun j hj=>h j (by simp[hj]))
def pureQ(T:Tab)(l:List Oper)(cs:List (Option AV))(fr:Fr)(σ:Sto)(i:Nat):Option AV:=(l[i]?).bind fun o=>qval T (purF l cs (allT l)++fr).ev σ o.op
def Wma(cs:List (Option AV))(i:Nat):Option AV:=(cs[i]?).bind id
def KDa(l:List Oper)(cs:List (Option AV))(H:List Bool)(is:List Nat):List Nat:=(mayL l cs H).filter fun i=> !is.contains i
theorem ms_all(hT:kBa E.P T)(is:List Nat)(h1:((KDa l cs H is).map (pureQ T l cs fr σ),(KDa l cs H is).all (fun i=>(Wma cs i).isSome))=((KDa l cs H is).map (Wma cs),true))(h2:vQa E l cs all H fr σ is):vQa E l cs all H fr σ (mayL l cs H):=by
 refine vQa.of fun i hi=>?_
 by_cases hc:is.contains i=true
 .exact h2.get (by simpa using hc)
 have hm:i∈KDa l cs H is:=by
  unfold KDa;rw[List.mem_filter];exact ⟨hi,by simpa using hc⟩
 have e1:=congrArg Prod.fst h1;have e2:=congrArg Prod.snd h1;have hq:pureQ T l cs fr σ i=Wma cs i:=List.map_inj_left.1 e1 i hm;have hs:(Wma cs i).isSome=true:=List.all_eq_true.1 e2 i hm;obtain ⟨c,hcc⟩:=Option.isSome_iff_exists.1 hs;rw[hcc]at hq;obtain ⟨o,ho,hv⟩:=Option.bind_eq_some_iff.1 hq;obtain ⟨x,hx,hxc⟩:=Option.bind_eq_some_iff.1 hcc;have hxc:x=some c:=hxc;subst hxc;exact .pure ho hx (z3a (KAa hT hv))
theorem mn(hT:kBa E.P T)(is:List Nat)(h1:(((List.range l.length).all fun i=> !(isHv cs i) || H.getD i false),(KDa l cs H is).map (pureQ T l cs fr σ),(KDa l cs H is).all (fun i=>(Wma cs i).isSome))=(false,(KDa l cs H is).map (Wma cs),true))(h2:vQa E l cs all H fr σ is):Yza E l cs K all (H,fr,σ):=
 .step _ rfl (congrArg Prod.fst h1) (ms_all hT is (congrArg Prod.snd h1) h2)
theorem mf(hT:kBa E.P T)(is:List Nat)(frJ:Fr)(h1:((KDa l cs H is).map (pureQ T l cs fr σ),(KDa l cs H is).all (fun i=>(Wma cs i).isSome))=((KDa l cs H is).map (Wma cs),true))(h2:vQa E l cs all H fr σ is)(hf:FrLe (purF l cs (allT l)++fr) frJ)(h:K .normal frJ σ):Yza E l cs K all (H,fr,σ):=
 .full _ rfl (ms_all hT is h1 h2) hf q7a h
theorem mst(j:Nat){i:Nat}{o:Oper}{σ' :Sto}(ho:l[i]? =some o)(h:HvS E o (purF l cs (allT l)++fr) σ σ')(e:(cs[i]?,all[j]?)=(some none,some (H.set i true,fr,σ'))):Yya E l cs all H fr σ i:=
 .sto j ho (congrArg Prod.fst e) h (congrArg Prod.snd e) qOa q7a
theorem mdt(j:Nat){i k:Nat}{o:Oper}{c:AV}{rs:List Nat}{σ' :Sto}(ho:l[i]? =some o)(h:HvD E o (purF l cs (allT l)++fr) σ k c rs σ')(e:(((List.range l.length).all fun i=>wra l cs i !=some k),Jaa cs rs,cs[i]?,all[j]?)=(true,true,some none,some (H.set i true,(k,c)::fr.clrs rs,σ'))):Yya E l cs all H fr σ i:=
 .dst j ho (congrArg (fun x=>x.2.2.1) e) (congrArg (fun x=>x.1) e) (congrArg (fun x=>x.2.1) e) h (congrArg (fun x=>x.2.2.2) e) qOa q7a
theorem mpt(j:Nat){i:Nat}{o:Oper}{rs:List Nat}{σ' :Sto}(ho:l[i]? =some o)(h:HvP E o (purF l cs (allT l)++fr) σ rs σ')(e:(Jaa cs rs,cs[i]?,all[j]?)=(true,some none,some (H.set i true,fr.clrs rs,σ'))):Yya E l cs all H fr σ i:=
 .put j ho (congrArg (fun x=>x.2.1) e) (congrArg (fun x=>x.1) e) h (congrArg (fun x=>x.2.2) e) qOa q7a
theorem mz{id:Nat}(cs:List (Option AV))(mk:Fr->Sto->List Node)(hmix:E.P.follows .mixedOrders=true)(hok:(z7b E.N l cs,(mk fr σ)[0]?)=(true,some (List.replicate l.length false,fr,σ)))(h:jra E l cs K (mk fr σ) (mk fr σ)):AWP E (.region id l.toArray true) fr σ K:=
 JSa cs (mk fr σ) hmix (congrArg Prod.fst hok) (congrArg Prod.snd hok) rfl qOa q7a h
end
section
open Go.RowKit Go.Lib Go.Proofs.Tryz
variable {E:Env} {fr:Fr} {σ:Sto} {K:Post} {T:Tab} {l:List Oper} {cs:List (Option AV)} {all:List Node} {H:List Bool}
def tget:List (Nat × AV)->Nat->Option AV
 | [],_=>none
 | (k,c)::r,i=>bif Nat.beq k i then some c else tget r i
inductive Told (E:Env) (l:List Oper) (cs:List (Option AV)) (fr:Fr) (L:List Sto):List (Nat × AV)->Prop
 | nil:Told E l cs fr L []
 | cons {i:Nat} {c:AV} {o:Oper} {r:List (Nat × AV)} (ho:l[i]? =some o) (hc:cs[i]? =some (some c)) (h:∀s,s∈L->OpG E o (purF l cs (allT l)++fr) s c) (hr:Told E l cs fr L r):Told E l cs fr L ((i,c)::r)
theorem t0{o:Oper}{FR:Fr}{c:AV}(h:OpG E o FR σ c):∀s,s∈ [σ]->OpG E o FR s c:=fun s hs=>by
 rw[List.mem_singleton.1 hs];exact h
theorem Told.get{L:List Sto}{tl:List (Nat × AV)}(h:Told E l cs fr L tl){i:Nat}(hi:(tget tl i).isSome=true):∃o c,l[i]? =some o/\cs[i]? =some (some c)/\∀s,s∈L->OpG E o (purF l cs (allT l)++fr) s c:=by
 induction h with
 | nil=>cases hi
 | @cons k c o r ho hc h _ ih=>
  unfold tget at hi;cases hb:Nat.beq k i with
  | true=>
   have:=Nat.eq_of_beq_eq_true hb;subst this;exact ⟨o,c,ho,hc,h⟩
  | false=>rw[hb]at hi;exact ih hi
theorem jra.of:∀{r:List Node},(∀nd∈r,Yza E l cs K all nd)->jra E l cs K all r
 | [],_=>.nil
 | nd::r,h=>.cons (h nd (by simp)) (jra.of fun x hx=>h x (by simp[hx]))
end
section
open Go.RowKit Go.Lib Go.Proofs.Tryz
def Fr.mp(f:AV->AV):Fr->Fr
 | []=>[]
 | (k,c)::l=>(k,f c)::Fr.mp f l
def AO.mp(f:AV->AV):AO->AO
 | .cells cs=>.cells (cs.map f)
 | .hold c v=>.hold (f c) v
 | o=>o
def Sto.mp(f:AV->AV):Sto->Sto
 | []=>[]
 | (k,a)::l=>(k,a.mp f)::Sto.mp f l
theorem Fr.get_mp{f:AV->AV}(h0:f .any=.any)(fr:Fr)(d:Nat):(fr.mp f).get d=f (fr.get d):=by
 induction fr with
 | nil=>exact h0.symm
 | cons x l ih=>
  obtain ⟨k,c⟩:=x;simp only[Fr.mp,Fr.get_cons,ih];split <;> rfl
theorem Sto.get_mp(f:AV->AV)(σ:Sto)(o:Nat):(σ.mp f).get o=(σ.get o).map (AO.mp f):=by
 induction σ with
 | nil=>rfl
 | cons x l ih=>
  obtain ⟨k,c⟩:=x;simp only[Sto.mp,Sto.get_cons,ih];split <;> rfl
theorem AO.own_mp(f:AV->AV)(ob:AO)(l:Loc):(ob.mp f).own l=ob.own l:=by cases ob <;> rfl
def AV.on(f:AV->AV):AV->AV
 | .agg l=>.agg (l.map f)
 | c=>f c
theorem Jba{g g' :G}{f:AV->AV}(hf:∀c v,Rel g c v->Rel g' (f c) v){c:AV}{v:Value}(h:Rel g c v):Rel g' (AV.on f c) v:=by
 cases c
 case agg cs=>
  cases h with
  | agg hl hc h=>
   refine .agg (by simp[hl]) hc fun i c hi=>?_
   simp only[List.getElem?_map,Option.map_eq_some_iff]at hi;obtain ⟨c',h1,rfl⟩:=hi;exact hf _ _ (h i c' h1)
 all_goals exact hf _ _ h
variable {E:Env} {fr:Fr} {σ:Sto} {K:Post}
theorem St.turn{g g' :G}{a:Act}(h:St E g a fr σ){r:Nat}{ob0 ob:AO}(hr:σ.get r=some ob0)(R:List Nat)(hR:r ∉ R)(f:AV->AV)(hf0:f .any=.any)(hf:∀c v,Rel g c v->Rel g' (f c) v)
 (hx:Ext g.w g.u g'.w g'.u) (hl:∀k,k≠r->g'.loc k=g.loc k) (hos:g'.w.os=g.w.os) (htape:g'.w.tape=g.w.tape) (hout:g'.w.output=g.w.output)
 (hb:∀b,b < g.w.heap.size->(∀o ob1,(o=r∨o∈R)->σ.get o=some ob1->¬ob1.own (g.loc o) b)->g'.w.heap[b]? =g.w.heap[b]? /\g'.u b=g.u b) (hwf:Wf g') (hob:RelO g' r ob)
 (hnew:∀b,ob.own (g'.loc r) b->(∃o ob1,(o=r∨o∈R)/\σ.get o=some ob1/\ob1.own (g.loc o) b)∨g.w.heap.size<=b):St E g' a (fr.mp f) (((σ.dels R).mp f).upd r ob):=by
 have hgr:((σ.dels R).mp f).get r=some (ob0.mp f):=by rw[Sto.get_mp,Sto.get_dels,if_neg hR,hr];rfl
 have hget:∀o ob',(((σ.dels R).mp f).upd r ob).get o=some ob' ->(o=r/\ob' =ob)∨(o≠r/\o ∉ R/\∃ob1,σ.get o=some ob1/\ob' =ob1.mp f):=by
  intro o ob' ho;rw[Sto.get_upd hgr]at ho;split at ho
  .rename_i hor;cases ho;exact .inl ⟨hor,rfl⟩
  rename_i hor;rw[Sto.get_mp,Sto.get_dels]at ho;split at ho
  .cases ho
  rename_i hoR;cases ho1:σ.get o with
  | none=>rw[ho1]at ho;cases ho
  | some ob1=>rw[ho1]at ho;cases ho;exact .inr ⟨hor,hoR,ob1,rfl,rfl⟩
 have hdis:∀o ob1 b,o≠r->o ∉ R->σ.get o=some ob1->ob1.own (g.loc o) b->∀o' ob2,(o' =r∨o' ∈R)->σ.get o' =some ob2->¬ob2.own (g.loc o') b:=by
  intro o ob1 b hne hnR ho hbo o' ob2 ho' h2 hc;have:=h.so.apart o o' ob1 ob2 b ho h2 hbo hc;subst this;rcases ho' with rfl | ho'
  .exact hne rfl
  exact hnR ho'
 refine ⟨fun d=>by rw[Fr.get_mp hf0];exact hf _ _ (h.fr d),h.n,h.df.mono hx,⟨?_,?_,?_,?_,hwf⟩⟩
 .intro o ob' ho;rcases hget o ob' ho with ⟨rfl,rfl⟩ | ⟨hne,hnR,ob1,ho1,rfl⟩
  .exact hob
  have hro:=h.so.obj o ob1 ho1;have hbb:∀b,ob1.own (g.loc o) b->g'.w.heap[b]? =g.w.heap[b]? /\g'.u b=g.u b:=fun b hb' =>hb b (hro.block_lt hb') (hdis o ob1 b hne hnR ho1 hb')
  cases ob1
  case cells cs=>
   cases hro with
   | @cells _ b t vs h1 h2 h3 h4 h5 h6=>
    obtain ⟨b1,b2⟩:=hbb b (by rw[h1];rfl);refine .cells ((hl o hne).trans h1) (b1.trans h2) (by simpa using h3) (b2.trans h4) h5 fun i c hi=>?_
    simp only[List.getElem?_map,Option.map_eq_some_iff]at hi;obtain ⟨c',hc',rfl⟩:=hi;exact hf _ _ (h6 i c' hc')
  case hold c v=>cases hro with
   | hold h1=>exact .hold (hf _ _ h1)
  all_goals exact hro.mono hx (hl o hne) (fun _ hk=>by cases hk) hbb
 .intro o o' ob1 ob2 b h1 h2 h3 h4;rcases hget o ob1 h1 with ⟨rfl,rfl⟩ | ⟨hne,hnR,ob1,ho1,rfl⟩ <;> rcases hget o' ob2 h2 with ⟨rfl,rfl⟩ | ⟨hne',hnR',ob2,ho2,rfl⟩
  .rfl
  .rw[AO.own_mp,hl o' hne']at h4;rcases hnew b h3 with ⟨q,obq,hq,hq1,hq2⟩ | h5
   .exact absurd hq2 (hdis o' ob2 b hne' hnR' ho2 h4 q obq hq hq1)
   have:=(h.so.obj o' _ ho2).block_lt h4;omega
  .rw[AO.own_mp,hl o hne]at h3;rcases hnew b h4 with ⟨q,obq,hq,hq1,hq2⟩ | h5
   .exact absurd hq2 (hdis o ob1 b hne hnR ho1 h3 q obq hq hq1)
   have:=(h.so.obj o _ ho1).block_lt h3;omega
  rw[AO.own_mp,hl o hne]at h3;rw[AO.own_mp,hl o' hne']at h4;exact h.so.apart o o' _ _ b ho1 ho2 h3 h4
 .intro o ob1 b h1 h2;rcases hget o ob1 h1 with ⟨rfl,rfl⟩ | ⟨hne,hnR,ob1,ho1,rfl⟩
  .rcases hnew b h2 with ⟨q,obq,hq,hq1,hq2⟩ | h5
   .exact h.so.mine q obq b hq1 hq2
   exact .inl (Nat.le_trans h.so.old.ext.size h5)
  rw[AO.own_mp,hl o hne]at h2;exact h.so.mine o _ b ho1 h2
 refine h.so.old.trans ⟨hos,htape,hout,hx,fun b hbl hs=>hb b hbl fun q obq hq hq1 hq2=>?_⟩;rcases h.so.mine q obq b hq1 hq2 with h1 | h1
 .exact hs (.inr h1)
 exact hs (.inl h1)
def yga(size2:Nat):Loc->Loc
 | .row b off cap size n=>.nest b off cap size n size2 []
 | l=>l
def AV.nst(r:Nat):AV->AV
 | .hs x off=>bif Nat.beq x r then .ns r else .hs x off
 | c=>bif c.has r then .any else c
theorem jea{g g' :G}{r:Nat}(hx:Ext g.w g.u g'.w g'.u)(hl:∀k,k≠r->g'.loc k=g.loc k){c:AV}{v:Value}(h:Rel g c v):Rel g' (bif c.has r then .any else c) v:=Vea hx hl h
theorem rel_nst{g g' :G}{r size2:Nat}(hx:Ext g.w g.u g'.w g'.u)(hk:∀k,k≠r->g'.loc k=g.loc k)(hl:g'.loc r=yga size2 (g.loc r)){c:AV}{v:Value}(h:Rel g c v):Rel g' (c.nst r) v:=by
 cases c
 case hs x off=>
  cases hb:Nat.beq x r with
  | true=>
   rw[show AV.nst r (.hs x off)=.ns r by show (bif Nat.beq x r then AV.ns r else AV.hs x off)=_;rw[hb];rfl];have:x=r:=Nat.eq_of_beq_eq_true hb;subst this;cases h with
   | hsNil a h1=>exact .nsNil a (by rw[hl,h1];rfl)
   | hs h1 h2=>exact .ns (size2:=size2) (subs:=[]) (by rw[hl,h1];rfl) h2
  | false=>
   rw[show AV.nst r (.hs x off)=.hs x off by show (bif Nat.beq x r then AV.ns r else AV.hs x off)=_;rw[hb];rfl];have hne:x≠r:=by rintro rfl;simp at hb
   exact h.mono hx fun k hk' =>hk k (by have:=Nat.eq_of_beq_eq_true (show Nat.beq x k=true from hk');subst this;exact hne)
 all_goals exact jea hx hk h
theorem St.nest{g:G}{a:Act}{r size:Nat}{e:TypeId}{elems:List (List PV)}(h:St E g a fr σ)(hr:σ.get r=some (.row e true size elems))(j:Nat)(e2:TypeId)(size2:Nat):
 St E ⟨g.w,g.u,fun k=>if k=r then yga size2 (g.loc r) else g.loc k⟩ a (fr.mp (AV.on (AV.nst r))) (((σ.dels []).mp (AV.on (AV.nst r))).upd r (.nrow e size j e2 size2 0 elems)):=by
 have hl:(⟨g.w,g.u,fun k=>if k=r then yga size2 (g.loc r) else g.loc k⟩:G).loc r=yga size2 (g.loc r):=if_pos rfl;have hob:=h.so.obj r _ hr;have hbl:(yga size2 (g.loc r)).block=(g.loc r).block/\(∀b,b∈(yga size2 (g.loc r)).subs->(g.loc r).block=some b):=by
  cases hob with
  | nil h1=>rw[h1];exact ⟨rfl,fun b hb=>by cases hb⟩
  | row h1=>rw[h1];exact ⟨rfl,fun b hb=>by cases hb⟩
 refine h.turn (g' :=⟨g.w,g.u,fun k=>if k=r then yga size2 (g.loc r) else g.loc k⟩) hr [] (by simp) _ rfl (fun c v=>Jba fun c v=>rel_nst (g:=g) (g' :=⟨g.w,g.u,fun k=>if k=r then yga size2 (g.loc r) else g.loc k⟩) (Ext.refl _ _) (fun k hk=>if_neg hk) hl) (Ext.refl _ _) (fun k hk=>if_neg hk) rfl rfl rfl (fun _ _ _=>⟨rfl,rfl⟩) h.so.wf ?_ (fun b hb=>.inl ⟨r,_,.inl rfl,hr,?_⟩)
 .cases hob with
  | nil h1=>exact .nrowNil (by rw[hl,h1];rfl)
  | row h1 h2 h3 h4 h5 h6 h7 h8 h9=>exact .nrow (subs:=[]) (by rw[hl,h1];rfl) h2 h3 h4 h5 h6 (h8 rfl) rfl (Nat.zero_le _) (by simp[zoa]) (fun i j' x c hi hj _=>h9 i j' x c hi hj) (fun i s x hi=>by simp at hi)
 rcases hb with hb | hb
 .rw[hl,hbl.1]at hb;exact hb
 rw[hl]at hb;exact hbl.2 b hb
theorem KEa{ops:Array Oper}{ol:List Oper}{size:Nat}{e:TypeId}{elems:List (List PV)}(r j:Nat)(e2:TypeId)(size2:Nat)(hr:σ.get r=some (.row e true size elems))
 (h:AWPL E ops ol (fr.mp (AV.on (AV.nst r))) (((σ.dels []).mp (AV.on (AV.nst r))).upd r (.nrow e size j e2 size2 0 elems)) K):AWPL E ops ol fr σ K:=
 ⟨fun g a hst=>h.go ⟨g.w,g.u,fun k=>if k=r then yga size2 (g.loc r) else g.loc k⟩ a (hst.nest hr j e2 size2)⟩
def vma:Loc->Loc
 | .nest b off cap size n _ _=>.row b off cap size n
 | l=>l
def pubU(size2:Nat)(subs:List (Option (Nat × Nat × Nat × Nat)))(u:Nat->Nat)(k:Nat):Nat:=
 match subs with
 | []=>u k
 | some (b,off,_,n)::l=>if b=k then (off+n) * size2 else pubU size2 l u k
 | none::l=>pubU size2 l u k
def locU:Loc->(Nat->Nat)->Nat->Nat
 | .nest _ _ _ _ _ size2 subs,u=>pubU size2 subs u
 | _,u=>u
theorem z0a(s:Option (Nat × Nat × Nat × Nat))(l:List (Option (Nat × Nat × Nat × Nat))):zoa (s::l)=(match s with | some t=>[t.1] | none=>[])++zoa l:=by
 cases s <;> simp[zoa]
theorem kIa(l l' :List (Option (Nat × Nat × Nat × Nat))):zoa (l++l')=zoa l++zoa l' :=by simp[zoa]
theorem Kha{size2:Nat}{u:Nat->Nat}{k:Nat}:∀{subs:List (Option (Nat × Nat × Nat × Nat))},k ∉ zoa subs->pubU size2 subs u k=u k
 | [],_=>rfl
 | none::l,h=>Kha (subs:=l) (by simpa[z0a]using h)
 | some (b,off,cap,n)::l,h=>by
  simp only[z0a,List.mem_append,List.mem_singleton,not_or]at h;unfold pubU;rw[if_neg (Ne.symm h.1)];exact Kha h.2
theorem ZDa{size2:Nat}{u:Nat->Nat}{b off cap n:Nat}:∀{subs:List (Option (Nat × Nat × Nat × Nat))} {i:Nat},(zoa subs).Nodup->subs[i]? =some (some (b,off,cap,n))->pubU size2 subs u b=(off+n) * size2
 | [],i,_,h=>by simp at h
 | none::l,0,_,h=>by simp at h
 | none::l,i+1,hd,h=>ZDa (subs:=l) (by simpa[z0a]using hd) (by simpa using h)
 | some (b',off',cap',n')::l,0,_,h=>by
  simp only[List.getElem?_cons_zero,Option.some.injEq]at h;cases h;unfold pubU;rw[if_pos rfl]
 | some (b',off',cap',n')::l,i+1,hd,h=>by
  simp only[List.getElem?_cons_succ]at h;simp only[z0a,List.singleton_append,List.nodup_cons]at hd;unfold pubU;rw[if_neg (by rintro rfl;exact hd.1 (q4a h))];exact ZDa hd.2 h
theorem wha.pub{w:World}{u:Nat->Nat}{e:TypeId}{mu:Bool}{size:Nat}{rows:List (List PV)}{s:Nat × Nat × Nat × Nat}{v:Value}(h:wha w u e mu size rows s v){u' :Nat->Nat}(hx:Ext0 w u w u')(hu:(s.2.1+s.2.2.2) * size<=u' s.1):RelP w u' (.sl none rows) v:=by
 obtain ⟨vs,h1,h2,h3⟩:=h.blk;have hv:=h.val;rw[<-h.n]at hv;subst hv;have hne:rows≠ []:=by rintro rfl;have:=h.pos;rw[<-h.n]at this;simp at this
 have hle:rows.length<=s.2.2.1:=by rw[h.n];exact h.le
 refine .sl size s.1 (s.2.1 * size) (fun i=>vs.getD (s.2.1 * size+i) undef) (fun x hx=>by cases hx) (fun hx=>by cases hx) hle h.z (fun _=>rfl) (fun _=>⟨?_,kia h1⟩) (fun i hi=>?_) (fun i j x c hi hj=>?_)
 .rw[<-Nat.add_mul,h.n];exact hu
 .refine kga h1 ?_;rw[h2,Nat.add_mul];have:=Nat.mul_le_mul_right size hle;omega
 have:=(h3 i j x c hi hj).mono0 hx;rw[show (s.2.1+i) * size+j=s.2.1 * size+(i * size+j) by rw[Nat.add_mul];omega]at this;exact this
theorem jWa.pub{w:World}{u:Nat->Nat}{e:TypeId}{size:Nat}{rows:List (List PV)}{s:Option (Nat × Nat × Nat × Nat)}{v:Value}(h:jWa w u e size rows s v){u' :Nat->Nat}(hx:Ext0 w u w u')(hu:∀t,s=some t->(t.2.1+t.2.2.2) * size<=u' t.1):RelP w u' (.sl none rows) v:=by
 cases s with
 | none=>
  obtain ⟨rfl,a,cap,rfl,h0⟩:=h;have:=RelP.sl (w:=w) (u:=u') (nl:=none) (elems:=[]) (a:=a) (cap:=cap) 1 0 0 (fun _=>undef) (fun x hx=>by cases hx) (fun hx=>⟨h0 hx,rfl⟩) (by simp) (by simp) (by simp) (by simp) (fun i hi=>by simp at hi) (fun i j e c hi=>by simp at hi);exact this
 | some t=>exact wha.pub h hx (hu t rfl)
def AV.dnst(r:Nat):AV->AV
 | .ns x=>bif Nat.beq x r then .hs r 0 else .ns x
 | .np x i j=>bif Nat.beq x r then .hp x i j else .np x i j
 | c=>bif c.has r then .any else c
theorem rel_dnst{g g' :G}{r:Nat}(hx:Ext g.w g.u g'.w g'.u)(hk:∀k,k≠r->g'.loc k=g.loc k)(hl:g'.loc r=vma (g.loc r)){c:AV}{v:Value}(h:Rel g c v):Rel g' (c.dnst r) v:=by
 cases c
 case ns x=>
  cases hb:Nat.beq x r with
  | true=>
   rw[show AV.dnst r (.ns x)=.hs r 0 by show (bif Nat.beq x r then AV.hs r 0 else AV.ns x)=_;rw[hb];rfl];have:x=r:=Nat.eq_of_beq_eq_true hb;subst this;cases h with
   | nsNil a h1=>exact .hsNil a (by rw[hl,h1];rfl)
   | ns h1 h2=>exact .hs (by rw[hl,h1];rfl) h2
  | false=>
   rw[show AV.dnst r (.ns x)=.ns x by show (bif Nat.beq x r then AV.hs r 0 else AV.ns x)=_;rw[hb];rfl];have hne:x≠r:=by rintro rfl;simp at hb
   exact h.mono hx fun k hk' =>hk k (by have:=Nat.eq_of_beq_eq_true (show Nat.beq x k=true from hk');subst this;exact hne)
 case np x i j=>
  cases hb:Nat.beq x r with
  | true=>
   rw[show AV.dnst r (.np x i j)=.hp x i j by show (bif Nat.beq x r then AV.hp x i j else AV.np x i j)=_;rw[hb];rfl];have:x=r:=Nat.eq_of_beq_eq_true hb;subst this;cases h with
   | np h1 h2=>exact .hp (by rw[hl,h1];rfl) h2
  | false=>
   rw[show AV.dnst r (.np x i j)=.np x i j by show (bif Nat.beq x r then AV.hp x i j else AV.np x i j)=_;rw[hb];rfl];have hne:x≠r:=by rintro rfl;simp at hb
   exact h.mono hx fun k hk' =>hk k (by have:=Nat.eq_of_beq_eq_true (show Nat.beq x k=true from hk');subst this;exact hne)
 all_goals exact jea hx hk h
theorem St.denest{g:G}{a:Act}{r size j size2 m:Nat}{e e2:TypeId}{elems:List (List PV)}(h:St E g a fr σ)(hr:σ.get r=some (.nrow e size j e2 size2 m elems)):
 St E ⟨g.w,locU (g.loc r) g.u,fun k=>if k=r then vma (g.loc r) else g.loc k⟩ a (fr.mp (AV.on (AV.dnst r))) (((σ.dels []).mp (AV.on (AV.dnst r))).upd r (.row e true size elems)):=by
 have hl:(⟨g.w,locU (g.loc r) g.u,fun k=>if k=r then vma (g.loc r) else g.loc k⟩:G).loc r=vma (g.loc r):=if_pos rfl;have hob:=h.so.obj r _ hr;have hlt:∀b,(AO.nrow e size j e2 size2 m elems).own (g.loc r) b->b < g.w.heap.size:=fun b hb=>hob.block_lt hb
 have hu0:∀k,k ∉ (g.loc r).subs->locU (g.loc r) g.u k=g.u k:=by
  intro k hk;cases hg:g.loc r with
  | nest b off cap size' n size2' subs=>rw[hg]at hk;exact Kha hk
  | _=>rfl
 have hx:Ext g.w g.u g.w (locU (g.loc r) g.u):=⟨Nat.le_refl _,fun k hk=>by
  by_cases hin:k∈(g.loc r).subs
  .cases hob with
   | nrowNil h1=>rw[h1]at hin;cases hin
   | @nrow _ _ _ _ _ _ _ b off cap vs subs h1 h2 h3 h4 h5 h6 h7 h8 h9 h10 h11 h12=>
    rw[h1]at hin ⊢;obtain ⟨s,hs,hsb⟩:=List.mem_filterMap.1 hin;cases s with
    | none=>cases hsb
    | some s=>
     cases hsb;obtain ⟨i,hi,hii⟩:=List.getElem_of_mem hs;have hi' :subs[i]? =some (some s):=by rw[List.getElem?_eq_getElem hi,hii]
     have hie:i < elems.length:=by omega
     obtain ⟨rows,_,q2⟩:=h12 i _ _ hi' (List.getElem?_eq_getElem hie);show _<=pubU size2 subs g.u s.1;rw[ZDa (List.nodup_cons.1 h10).2 hi',wha.hmu q2 rfl];exact Nat.zero_le _
  rw[hu0 k hin];exact Nat.le_refl _,fun _ _ _ _=>rfl,fun _ h=>h⟩
 refine h.turn (g' :=⟨g.w,locU (g.loc r) g.u,fun k=>if k=r then vma (g.loc r) else g.loc k⟩) hr [] (by simp) _ rfl (fun c v=>Jba fun c v=>rel_dnst (g:=g) (g' :=⟨g.w,locU (g.loc r) g.u,fun k=>if k=r then vma (g.loc r) else g.loc k⟩) hx (fun k hk=>if_neg hk) hl) hx (fun k hk=>if_neg hk) rfl rfl rfl (fun b hb hn=>⟨rfl,hu0 b fun hin=>hn r _ (.inl rfl) hr (.inr hin)⟩) (fun k hk=>?_) ?_ (fun b hb=>.inl ⟨r,_,.inl rfl,hr,?_⟩)
 .show locU (g.loc r) g.u k=0;rw[hu0 k fun hin=>by have:=hlt k (.inr hin);exact absurd hk (by show ¬g.w.heap.size<=k;omega)];exact h.so.wf k hk
 .cases hob with
  | nrowNil h1=>exact .nil (by rw[hl,h1];rfl)
  | @nrow _ _ _ _ _ _ _ b off cap vs subs h1 h2 h3 h4 h5 h6 h7 h8 h9 h10 h11 h12=>
   have hub:locU (g.loc r) g.u b=0:=by rw[hu0 b (by rw[h1];exact (List.nodup_cons.1 h10).1)];exact h7
   refine .row (by rw[hl,h1];rfl) h2 h3 h4 h5 h6 (by show locU (g.loc r) g.u b<=_;rw[hub];exact Nat.zero_le _) (fun _=>hub) (fun i j' x c hi hj=>?_);by_cases hc:m<=i∨j' ≠j
   .exact (h11 i j' x c hi hj hc).mono hx
   have him:i < m:=by omega
   have hjj:j' =j:=by omega
   subst hjj;obtain ⟨rows,q1,q2⟩:=h12 i _ x (List.getElem?_eq_getElem (by omega:i < subs.length)) hi;rw[hj]at q1;cases q1;refine jWa.pub q2 hx.to0 fun t ht=>?_
   show _<=locU (g.loc r) g.u t.1;rw[h1];have hi' :subs[i]? =some (some (t.1,t.2.1,t.2.2.1,t.2.2.2)):=by rw[List.getElem?_eq_getElem (by omega:i < subs.length),ht]
   exact Nat.le_of_eq (ZDa (List.nodup_cons.1 h10).2 hi').symm
 show (g.loc r).block=some b∨_;have hb2:(vma (g.loc r)).block=some b:=by rw[<-hl];exact hb
 clear hb;left;cases hob with
 | nrowNil h1=>rw[h1]at hb2;cases hb2
 | nrow h1=>rw[h1]at hb2 ⊢;exact hb2
theorem YAa{ops:Array Oper}{ol:List Oper}{size j size2 m:Nat}{e e2:TypeId}{elems:List (List PV)}(r:Nat)(hr:σ.get r=some (.nrow e size j e2 size2 m elems))
 (h:AWPL E ops ol (fr.mp (AV.on (AV.dnst r))) (((σ.dels []).mp (AV.on (AV.dnst r))).upd r (.row e true size elems)) K):AWPL E ops ol fr σ K:=
 ⟨fun g a hst=>h.go ⟨g.w,locU (g.loc r) g.u,fun k=>if k=r then vma (g.loc r) else g.loc k⟩ a (hst.denest hr)⟩
theorem QGa{c:Code}{size j size2 m:Nat}{e e2:TypeId}{elems:List (List PV)}(r:Nat)(hr:σ.get r=some (.nrow e size j e2 size2 m elems))
 (h:AWP E c (fr.mp (AV.on (AV.dnst r))) (((σ.dels []).mp (AV.on (AV.dnst r))).upd r (.row e true size elems)) K):AWP E c fr σ K:=
 ⟨fun g a hst=>h.go ⟨g.w,locU (g.loc r) g.u,fun k=>if k=r then vma (g.loc r) else g.loc k⟩ a (hst.denest hr)⟩
end
section
open Go.RowKit Go.Lib Go.Proofs.Tryz
def nown(m:Nat)(n:Int):Option Bool:=if n.toNat < m then some true else none
theorem KFa{m:Nat}{n:Int}{r:Bool}(h:nown m n=some r):n.toNat < m:=by
 unfold nown at h;split at h
 .assumption
 cases h
def JUa(m:Nat)(n:Int):Option Bool:=if n.toNat=m then some true else none
theorem ZEa{m:Nat}{n:Int}{r:Bool}(h:JUa m n=some r):n.toNat=m:=by
 unfold JUa at h;split at h
 .assumption
 cases h
def QHa(m:Nat)(n:Int):Option Bool:=if m<=n.toNat then some true else none
theorem jIa{m:Nat}{n:Int}{r:Bool}(h:QHa m n=some r):m<=n.toNat:=by
 unfold QHa at h;split at h
 .assumption
 cases h
variable {E:Env} {fr:Fr} {σ:Sto} {K:Post} {P:Program} {ρ:Operand->AV}
variable {dst:Option Tmp} {ty:TypeId} {pos:String} {af:Array Edge} {gu:Option (Nat × Bool)}
section
variable {α β:Type} {F:α->List PV} {G2:β->List PV} {l:List α} {l2:List β} {r size size2 bytes sb ss k j m:Nat} {e e2 t:TypeId} {zero sz:Value} {d:TypeDesc} {x y:Operand}
structure NAt (g:G) (r:Nat) (e:TypeId) (size j:Nat) (e2:TypeId) (size2 m:Nat) (F:α->List PV) (l:List α) (b off cap:Nat) (vs:Array Value) (subs:List (Option (Nat × Nat × Nat × Nat))):Prop where
 loc:g.loc r=.nest b off cap size l.length size2 subs
 heap:g.w.heap[b]? =some (.cells vs e (0,0))
 sz:vs.size=(off+cap) * size
 max:cap<=maxLen
 le:l.length<=cap
 z:∀x∈l,(F x).length=size
 u:g.u b=0
 sl:subs.length=m
 ml:m<=l.length
 nd:(b::zoa subs).Nodup
 cell:∀i j' x c,l[i]? =some x->(F x)[j']? =some c->(m<=i∨j' ≠j)->RelP g.w g.u c (vs.getD ((off+i) * size+j') undef)
 sub:∀i s x,subs[i]? =some s->l[i]? =some x->∃rows,(F x)[j]? =some (.sl none rows)/\jWa g.w g.u e2 size2 rows s (vs.getD ((off+i) * size+j) undef)
theorem NAt.obj{g:G}{b off cap:Nat}{vs:Array Value}{subs:List (Option (Nat × Nat × Nat × Nat))}(h:NAt g r e size j e2 size2 m F l b off cap vs subs):RelO g r (.nrow e size j e2 size2 m (l.map F)):=
 .nrow (by rw[List.length_map];exact h.loc) h.heap h.sz h.max (by rw[List.length_map];exact h.le) (fun x hx=>by obtain ⟨y,hy,rfl⟩:=List.mem_map.1 hx;exact h.z y hy) h.u h.sl (by rw[List.length_map];exact h.ml) h.nd
  (fun i j' x c hi hj hc=>by
   simp only[List.getElem?_map,Option.map_eq_some_iff]at hi;obtain ⟨y,hy,rfl⟩:=hi;exact h.cell i j' y c hy hj hc)
  (fun i s x hi hx=>by
   simp only[List.getElem?_map,Option.map_eq_some_iff]at hx;obtain ⟨y,hy,rfl⟩:=hx;exact h.sub i s y hi hy)
theorem z9b{g:G}(hob:RelO g r (.nrow e size j e2 size2 m (l.map F))):(g.loc r=.nilRow/\l=[]/\m=0)∨∃b off cap vs subs,NAt g r e size j e2 size2 m F l b off cap vs subs:=by
 generalize hls:l.map F=ls at hob;cases hob with
 | nrowNil hl=>exact .inl ⟨hl,by simpa using hls,rfl⟩
 | @nrow _ _ _ _ _ _ _ b off cap vs subs h1 h2 h3 h4 h5 h6 h7 h8 h9 h10 h11 h12=>
  subst hls;simp only[List.length_map]at h1 h5 h9;exact .inr ⟨b,off,cap,vs,subs,h1,h2,h3,h4,h5,fun x hx=>h6 _ (List.mem_map_of_mem hx),h7,h8,h9,h10,fun i j' x c hi hj hc=>h11 i j' (F x) c (by simp[hi]) hj hc,fun i s x hi hx=>h12 i s (F x) hi (by simp[hx])⟩
theorem ZSa{g:G}{i:Nat}{v:α}(hob:RelO g r (.nrow e size j e2 size2 m (l.map F)))(hv:l[i]? =some v):∃b off cap vs subs,NAt g r e size j e2 size2 m F l b off cap vs subs:=by
 rcases z9b hob with ⟨_,rfl,_⟩ | h
 .simp at hv
 exact h
theorem Wna{g:G}{b off cap i j0:Nat}{vs:Array Value}{subs:List (Option (Nat × Nat × Nat × Nat))}{vp:Value}(h:NAt g r e size j e2 size2 m F l b off cap vs subs)(hp:Rel g (.np r i j0) vp):vp=.pointer (some ⟨b,(off+i) * size+j0,none⟩):=by
 cases hp with
 | np hl hi=>rw[h.loc]at hl;cases hl;rfl
theorem NAt.place{g:G}{b off cap i q:Nat}{vs:Array Value}{subs:List (Option (Nat × Nat × Nat × Nat))}(h:NAt g r e size j e2 size2 m F l b off cap vs subs)(hi:i < l.length)(hq:q < size):(off+i) * size+q < vs.size:=by
 rw[h.sz];exact Vja (s:=1) hi h.le hq
theorem YBa{tx:TypeId}(hx:ρ x=.ns r)(hr:σ.get r=some (.nrow e size j e2 size2 m (l.map F)))(ht:P.underlying t=some (.slice tx)):EvQ P ⟨dst,.call ⟨.builtin .len, #[x], #[t]⟩,ty,pos,af,gu⟩ ρ σ (.i l.length):=
 ⟨fun c=>by simp,fun g ρv h hs=>by
  have h1:=h x (by simp[Op.operands,Call.operands]);rw[hx]at h1;refine ⟨.int .i64 l.length,?_,.pv (.b rfl)⟩;generalize hv:ρv x=v at h1;rcases z9b (hs r _ hr) with ⟨hl,rfl,_⟩ | ⟨b,off,cap,vs,subs,hN⟩
  .cases h1 with
   | nsNil a h1=>simp[execOp,resolve,invoke,builtin,Builtin.len_,hv,go_sem,underlying,ht,goInt]
   | ns h1=>rw[hl]at h1;cases h1
  cases h1 with
  | nsNil a h1=>rw[hN.loc]at h1;cases h1
  | ns h1=>
   rw[hN.loc]at h1;cases h1;simp[execOp,resolve,invoke,builtin,Builtin.len_,hv,go_sem,underlying,ht,goInt]⟩
theorem KGa{n:Int}{kk:IntKind}{v:α}(hx:ρ x=.ns r)(hy:ρ y=.pv (.b (.int kk n)))(hr:σ.get r=some (.nrow e size j e2 size2 m (l.map F)))(ht:TyOk P t ss sb sz (.slice e))(he:TyOk P e size bytes zero d)(hv:idx l n=some v):
 EvQ P ⟨dst,.indexAddr t x y,ty,pos,af,gu⟩ ρ σ (.np r n.toNat 0):=
 ⟨fun c=>by simp,fun g ρv h hs=>by
  obtain ⟨h1,h2⟩:=ops2 (o:=⟨dst,.indexAddr t x y,ty,pos,af,gu⟩) (x:=x) (y:=y) rfl h;rw[hx]at h1;rw[hy]at h2;have e2:=kea h2;obtain ⟨hn0,hv⟩:=qda hv;have hlt:n.toNat < l.length:=(List.getElem?_eq_some_iff.1 hv).1;have hn2:n < l.length:=by omega
  obtain ⟨i,hi,hsz,hby,hzero⟩:=he.info;obtain ⟨b,off,cap,vs,subs,hN⟩:=ZSa (hs r _ hr) hv;generalize ev:ρv x=vx at h1;cases h1 with
  | nsNil a h1=>rw[hN.loc]at h1;cases h1
  | ns h1 ha=>
   rw[hN.loc]at h1;cases h1;have ha:=ha (by have:=hN.le;omega);subst ha;refine ⟨.pointer (some ⟨b,(off+n.toNat) * size+0,none⟩),?_,.np hN.loc hlt⟩;simp[execOp,Instr.indexAt,e2,ev,go_sem,asIntOf,underlying,ht.u,sizeOf,typeInfo,hi,hsz,hn0,hn2,kxa,Nat.add_mul]⟩
theorem KHa{i j0 f:Nat}{fs:Array Field}{fl:Field}{fsize fbytes:Nat}{fzero:Value}{fd:TypeDesc}(hx:ρ x=.np r i j0)(ht:P.underlying t=some (.struct fs))(hf:fs[f]? =some fl)(hft:TyOk P fl.type fsize fbytes fzero fd)(hz:Nat.beq fsize 0=false):
 EvQ P ⟨dst,.fieldAddr t x f,ty,pos,af,gu⟩ ρ σ (.np r i (j0+fl.offset)):=
 ⟨fun c=>by simp,fun g ρv h _=>by
  have h1:=h x (by simp[Op.operands]);rw[hx]at h1;generalize hv:ρv x=v at h1;cases h1 with
  | np hl hi=>
   have hz' :fsize≠0:=by rintro rfl;simp at hz
   refine ⟨_,?_,.np (j:=j0+fl.offset) hl hi⟩;simp[execOp,Instr.fieldAt,Instr.sureAddr,hv,go_sem,underlying,ht,hf,fieldPlace,hft.sizeOf,hz',kxa,Nat.add_assoc]⟩
theorem Z2a{i k0 j0 f:Nat}{fs:Array Field}{fl:Field}{fsize fbytes:Nat}{fzero:Value}{fd:TypeDesc}(hx:ρ x=.hnp r i k0 j0)(ht:P.underlying t=some (.struct fs))(hf:fs[f]? =some fl)(hft:TyOk P fl.type fsize fbytes fzero fd)(hz:Nat.beq fsize 0=false):
 EvQ P ⟨dst,.fieldAddr t x f,ty,pos,af,gu⟩ ρ σ (.hnp r i k0 (j0+fl.offset)):=
 ⟨fun c=>by simp,fun g ρv h _=>by
  have h1:=h x (by simp[Op.operands]);rw[hx]at h1;generalize hv:ρv x=v at h1;cases h1 with
  | hnp hl hs hk=>
   have hz' :fsize≠0:=by rintro rfl;simp at hz
   refine ⟨_,?_,.hnp (j:=j0+fl.offset) hl hs hk⟩;simp[execOp,Instr.fieldAt,Instr.sureAddr,hv,go_sem,underlying,ht,hf,fieldPlace,hft.sizeOf,hz',kxa,Nat.add_assoc]⟩
section
variable {t' :TypeId} {size' bytes' :Nat} {zero' :Value} {d' :TypeDesc} {n:Int} {j0:Nat} {v v' :α} {c:PV}
theorem vRa(hx:ρ x=.np r n.toNat j0)(hr:σ.get r=some (.nrow e size j e2 size2 m (l.map F)))(ht:TyOk P t' size' bytes' zero' d')(hd:dAgg d' =false)(hv:idx l n=some v)(hc:(F v)[j0]? =some c)(hj:Nat.beq j0 j=false∨m<=n.toNat):EvQ P ⟨dst,.load t' x,ty,pos,af,gu⟩ ρ σ (.pv c):=
 ⟨fun c=>by simp,fun g ρv h hs=>by
  have h1:=h x (by simp[Op.operands]);rw[hx]at h1;obtain ⟨hn0,hv⟩:=qda hv;obtain ⟨b,off,cap,vs,subs,hN⟩:=ZSa (hs r _ hr) hv;have e1:=Wna hN h1;have hjs:j0 < size:=by rw[<-hN.z v (List.mem_of_getElem? hv)];exact (List.getElem?_eq_some_iff.1 hc).1
  have hlt:=(List.getElem?_eq_some_iff.1 hv).1;refine ⟨_,qva e1 (vHa ht hd (kga hN.heap (hN.place hlt hjs))),.pv (hN.cell _ _ _ _ hv hc ?_)⟩;rcases hj with hj | hj
  .right;rintro rfl;simp at hj
  exact .inl hj⟩
theorem ZFa(hx:ρ x=.np r n.toNat j0)(hr:σ.get r=some (.nrow e size j e2 size2 m (l.map F)))(ht:TyOk P t' size' bytes' zero' d')(hd:dAgg d' =true)(hv:idx l n=some v)(hle:Nat.ble (j0+size') (F v).length=true)(hj:(Nat.ble (j+1) j0 || Nat.ble (j0+size') j)=true∨m<=n.toNat):EvQ P ⟨dst,.load t' x,ty,pos,af,gu⟩ ρ σ (.agg ((((F v).drop j0).take size').map .pv)):=
 ⟨fun c=>by simp,fun g ρv h hs=>by
  have h1:=h x (by simp[Op.operands]);rw[hx]at h1;obtain ⟨hn0,hv⟩:=qda hv;have hle:=Nat.le_of_ble_eq_true hle;obtain ⟨b,off,cap,vs,subs,hN⟩:=ZSa (hs r _ hr) hv;have e1:=Wna hN h1;have hlt:=(List.getElem?_eq_some_iff.1 hv).1;have hFz:=hN.z v (List.mem_of_getElem? hv);have hj' :∀q,q < size' ->m<=n.toNat∨j0+q≠j:=by
   intro q hq;rcases hj with hj | hj
   .right;simp only[Bool.or_eq_true]at hj;rcases hj with hj | hj <;> have:=Nat.le_of_ble_eq_true hj <;> omega
   exact .inl hj
  have hrel:∀q,q < size' ->∃c,(F v)[j0+q]? =some c/\RelP g.w g.u c (vs.getD ((off+n.toNat) * size+(j0+q)) undef):=by
   intro q hq;have h2:j0+q < (F v).length:=by omega
   exact ⟨_,List.getElem?_eq_getElem h2,hN.cell _ _ _ _ hv (List.getElem?_eq_getElem h2) (hj' q hq)⟩
  refine ⟨_,qva e1 (vIa ht hd (f:=fun q=>vs.getD ((off+n.toNat) * size+(j0+q)) undef) fun q hq=>?_),.agg (by simp;omega) (fun q hq=>?_) (fun q c hq=>?_)⟩
  .rw[Nat.add_assoc];exact kga hN.heap (hN.place hlt (by omega))
  .simp only[List.size_toArray,List.length_map,List.length_range]at hq;rw[qPa _ _ _ hq];obtain ⟨c,_,hr⟩:=hrel q hq;exact hr.cellV
  simp only[List.getElem?_map,Option.map_eq_some_iff]at hq;obtain ⟨c',hc',rfl⟩:=hq;have hq2:q < size' :=by have:=(List.getElem?_eq_some_iff.1 hc').1;simp at this;omega
  rw[List.getElem?_take_of_lt hq2,List.getElem?_drop]at hc';rw[qPa _ _ _ hq2];obtain ⟨c,hc,hr⟩:=hrel q hq2;rw[hc']at hc;cases hc;exact .pv hr⟩
theorem sub_val{g:G}{b off cap i:Nat}{vs:Array Value}{subs:List (Option (Nat × Nat × Nat × Nat))}{v:α}(hN:NAt g r e size j e2 size2 m F l b off cap vs subs)(hv:l[i]? =some v)(hm:i < m):Rel g (.hn r i) (vs.getD ((off+i) * size+j) undef):=by
 obtain ⟨s,hs⟩:∃s,subs[i]? =some s:=⟨_,List.getElem?_eq_getElem (by have:=hN.sl;omega)⟩;obtain ⟨rows,q1,q2⟩:=hN.sub i s v hs hv;cases s with
 | none=>
  obtain ⟨_,a,cp,hval,_⟩:=q2;rw[hval];exact .hnNil a cp hN.loc hs
 | some t=>
  rw[wha.val q2];exact .hn (b2:=t.1) (off2:=t.2.1) (cap2:=t.2.2.1) (n2:=t.2.2.2) hN.loc hs
theorem kab{w:World}{u:Nat->Nat}{e:TypeId}{size:Nat}{rows:List (List PV)}{s:Option (Nat × Nat × Nat × Nat)}{v:Value}(h:jWa w u e size rows s v):cellV v=true:=by
 cases s with
 | none=>obtain ⟨_,a,cap,rfl,_⟩:=h;rfl
 | some t=>rw[wha.val h];rfl
theorem Vua(hx:ρ x=.np r n.toNat j0)(hr:σ.get r=some (.nrow e size j e2 size2 m (l.map F)))(ht:TyOk P t' size' bytes' zero' d')(hd:dAgg d' =false)(hv:idx l n=some v)(hj:Nat.beq j0 j=true)(hm:n.toNat < m):EvQ P ⟨dst,.load t' x,ty,pos,af,gu⟩ ρ σ (.hn r n.toNat):=
 ⟨fun c=>by simp,fun g ρv h hs=>by
  have h1:=h x (by simp[Op.operands]);rw[hx]at h1;obtain rfl:=Nat.eq_of_beq_eq_true hj;obtain ⟨hn0,hv⟩:=qda hv;obtain ⟨b,off,cap,vs,subs,hN⟩:=ZSa (hs r _ hr) hv;have e1:=Wna hN h1;have hlt:=(List.getElem?_eq_some_iff.1 hv).1;obtain ⟨s,hss⟩:∃s,subs[n.toNat]? =some s:=⟨_,List.getElem?_eq_getElem (by have:=hN.sl;omega)⟩;obtain ⟨rows,q1,q2⟩:=hN.sub _ s v hss hv;have hjs:j0 < size:=by rw[<-hN.z v (List.mem_of_getElem? hv)];exact (List.getElem?_eq_some_iff.1 q1).1
  exact ⟨_,qva e1 (vHa ht hd (kga hN.heap (hN.place hlt hjs))),sub_val hN hv hm⟩⟩
theorem sub_row{g:G}{b off cap i:Nat}{vs:Array Value}{subs:List (Option (Nat × Nat × Nat × Nat))}{v:α}{vx:Value}(hN:NAt g r e size j e2 size2 m F l b off cap vs subs)(hv:l[i]? =some v)(hF:(F v)[j]? =some (.sl none (l2.map G2)))(hx:Rel g (.hn r i) vx):
 (l2=[]/\∃a cp,vx=.slice a 0 cp)∨∃s,subs[i]? =some (some s)/\wha g.w g.u e2 true size2 (l2.map G2) s vx:=by
 cases hx with
 | hnNil a cp hl hs=>
  rw[hN.loc]at hl;cases hl;obtain ⟨rows,q1,q2⟩:=hN.sub i _ v hs hv;rw[hF]at q1;cases q1;exact .inl ⟨by simpa using q2.1,a,cp,rfl⟩
 | hn hl hs=>
  rw[hN.loc]at hl;cases hl;obtain ⟨rows,q1,q2⟩:=hN.sub i _ v hs hv;rw[hF]at q1;cases q1;refine .inr ⟨_,hs,?_⟩;have h:=wha.val q2;rw[h]at q2;exact q2
theorem Vva{n2:Int}{kk:IntKind}{w2:β}(hx:ρ x=.hn r n.toNat)(hy:ρ y=.pv (.b (.int kk n2)))(hr:σ.get r=some (.nrow e size j e2 size2 m (l.map F)))(ht:TyOk P t ss sb sz (.slice e2))(he:TyOk P e2 size2 bytes zero d)(hv:idx l n=some v)(hF:(F v)[j]? =some (.sl none (l2.map G2)))(hv2:idx l2 n2=some w2):
 EvQ P ⟨dst,.indexAddr t x y,ty,pos,af,gu⟩ ρ σ (.hnp r n.toNat n2.toNat 0):=
 ⟨fun c=>by simp,fun g ρv h hs=>by
  obtain ⟨h1,h2⟩:=ops2 (o:=⟨dst,.indexAddr t x y,ty,pos,af,gu⟩) (x:=x) (y:=y) rfl h;rw[hx]at h1;rw[hy]at h2;have ey:=kea h2;obtain ⟨hn0,hv⟩:=qda hv;obtain ⟨hn20,hv2⟩:=qda hv2;have hlt:n2.toNat < l2.length:=(List.getElem?_eq_some_iff.1 hv2).1;have hn2:n2 < l2.length:=by omega
  obtain ⟨i,hi,hsz,hby,hzero⟩:=he.info;obtain ⟨b,off,cap,vs,subs,hN⟩:=ZSa (hs r _ hr) hv;rcases sub_row hN hv hF h1 with ⟨rfl,a,cp,e1⟩ | ⟨s,hss,hR⟩
  .simp at hlt
  have e1:=hR.val;have en:=hR.n;rw[List.length_map]at en;refine ⟨.pointer (some ⟨s.1,(s.2.1+n2.toNat) * size2+0,none⟩),?_,.hnp (b2:=s.1) (off2:=s.2.1) (cap2:=s.2.2.1) (n2:=s.2.2.2) hN.loc hss (by omega)⟩;rw[<-en]at e1;simp[execOp,Instr.indexAt,ey,e1,go_sem,asIntOf,underlying,ht.u,sizeOf,typeInfo,hi,hsz,hn20,hn2,kxa,Nat.add_mul]⟩
theorem hnp_val{g:G}{b off cap i k0 j2:Nat}{vs:Array Value}{subs:List (Option (Nat × Nat × Nat × Nat))}{v:α}{vp:Value}(hN:NAt g r e size j e2 size2 m F l b off cap vs subs)(hv:l[i]? =some v)(hF:(F v)[j]? =some (.sl none (l2.map G2)))(hp:Rel g (.hnp r i k0 j2) vp):
 ∃s val,subs[i]? =some (some s)/\wha g.w g.u e2 true size2 (l2.map G2) s val/\vs.getD ((off+i) * size+j) undef=val/\k0 < l2.length/\vp=.pointer (some ⟨s.1,(s.2.1+k0) * size2+j2,none⟩):=by
 cases hp with
 | hnp hl hs hk=>
  rw[hN.loc]at hl;cases hl;obtain ⟨rows,q1,q2⟩:=hN.sub i _ v hs hv;rw[hF]at q1;cases q1;have:=q2.n;rw[List.length_map]at this;exact ⟨_,_,hs,q2,rfl,by rw[this];exact hk,rfl⟩
theorem wha.lt{w:World}{u:Nat->Nat}{mu:Bool}{s:Nat × Nat × Nat × Nat}{vx:Value}{i q:Nat}{vs:Array Value}(h:wha w u e mu size (l.map F) s vx)(hsz:vs.size=(s.2.1+s.2.2.1) * size)(hi:i < l.length)(hq:q < size):(s.2.1+i) * size+q < vs.size:=by
 rw[hsz];have h1:=h.n;have h2:=h.le;rw[List.length_map]at h1;exact Vja (s:=1) (n:=l.length) hi (by omega) hq
end
end
end
section
open Go.RowKit Go.Lib Go.Proofs.Tryz
structure Wrote (w w' :World) (b p:Nat) (t:TypeId) (cur new:Array Value) (cl:List Value):Prop where
 os:w'.os=w.os
 tape:w'.tape=w.tape
 output:w'.output=w.output
 size:w'.heap.size=w.heap.size
 other:∀k,k≠b->w'.heap[k]? =w.heap[k]?
 here:w'.heap[b]? =some (.cells new t (0,0))
 sz:new.size=cur.size
 inn:∀q,q < cl.length->new.getD (p+q) undef=cl.getD q undef
 out:∀q,(q < p∨p+cl.length<=q)->new.getD q undef=cur.getD q undef
theorem Woa{w:World}{b p:Nat}{t:TypeId}{cur:Array Value}{cl:List Value}(h:w.heap[b]? =some (.cells cur t (0,0)))(hf:p+cl.length<=cur.size):Wrote w (w.setRow b (cur.toList.take p++cl++cur.toList.drop (p+cl.length)).toArray) b p t cur (cur.toList.take p++cl++cur.toList.drop (p+cl.length)).toArray cl where
 os:=rfl
 tape:=rfl
 output:=rfl
 size:=by simp[World.setRow]
 other k hk:=by simp only[World.setRow,Array.getElem?_modify];rw[if_neg (Ne.symm hk)]
 here:=setRow_heap w b cur _ t _ h
 sz:=by simp;omega
 inn q hq:=by
  rw[Array.getD_eq_getD_getElem?,List.getElem?_toArray,List.append_assoc,List.getElem?_append_right (by simp;omega),List.getElem?_append_left (by simp;omega),List.getD_eq_getElem?_getD]
  congr 2
  simp;omega
 out q hq:=by
  rw[Array.getD_eq_getD_getElem?,List.getElem?_toArray,List.append_assoc,Array.getD_eq_getD_getElem?];rcases hq with hq | hq
  .rw[List.getElem?_append_left (by simp;omega),List.getElem?_take_of_lt hq,Array.getElem?_toList]
  rw[List.getElem?_append_right (by simp;omega),List.getElem?_append_right (by simp;omega),List.getElem?_drop,Array.getElem?_toList]
  congr 2
  simp;omega
theorem Wrote.ext{w w' :World}{b p:Nat}{t:TypeId}{cur new:Array Value}{cl:List Value}{u:Nat->Nat}(h:Wrote w w' b p t cur new cl)(hb:w.heap[b]? =some (.cells cur t (0,0)))(hu:u b=0):Ext w u w' u:=⟨Nat.le_of_eq h.size.symm,fun _ _=>Nat.le_refl _,fun k i hk hi=>by
 by_cases hkb:k=b
 .subst hkb;omega
 simp only[World.cell?];rw[h.other k hkb],fun r hr=>(h.other r (by rintro rfl;rw[hb]at hr;cases hr)).trans hr⟩
theorem kbb:∀{subs:List (Option (Nat × Nat × Nat × Nat))} {i i' :Nat} {s s' :Nat × Nat × Nat × Nat},(zoa subs).Nodup->subs[i]? =some (some s)->subs[i']? =some (some s')->i≠i' ->s.1≠s'.1
 | [],i,_,_,_,_,h,_,_=>by simp at h
 | x::l,0,0,_,_,_,_,_,hne=>absurd rfl hne
 | x::l,0,i' +1,s,s',hd,h1,h2,_=>by
  simp only[List.getElem?_cons_zero,Option.some.injEq]at h1;subst h1;simp only[z0a,List.singleton_append,List.nodup_cons]at hd;rintro he;exact hd.1 (he▸q4a (by simpa using h2))
 | x::l,i+1,0,s,s',hd,h1,h2,_=>by
  simp only[List.getElem?_cons_zero,Option.some.injEq]at h2;subst h2;simp only[z0a,List.singleton_append,List.nodup_cons]at hd;rintro he;exact hd.1 (he▸q4a (by simpa using h1))
 | x::l,i+1,i' +1,s,s',hd,h1,h2,hne=>by
  refine kbb (subs:=l) ?_ (by simpa using h1) (by simpa using h2) (by omega);rw[z0a]at hd;exact (List.nodup_append.1 hd).2.1
theorem yMa{vs:Array Value}(h:∀i,i < vs.size->cellV (vs.getD i undef)=true):∀u∈vs.toList,u.oneCell' =true:=by
 intro u hu;obtain ⟨i,hi,rfl⟩:=List.getElem_of_mem hu;have h0:=h i (by simpa using hi);rw[show vs.getD i undef=vs.toList[i] by simp[Array.getD,show i < vs.size by simpa using hi]]at h0;cases hcase:vs.toList[i] <;> rw[hcase]at h0 <;> first | rfl | simp[cellV]at h0
theorem wsa{P:Program}{ρv:Operand->Value}{w:World}{b p:Nat}{t t' :TypeId}{x y:Operand}{cur:Array Value}{size' bytes' :Nat}{zero' :Value}{d' :TypeDesc}{ty:TypeId}{pos:String}{af:Array Edge}{gu:Option (Nat × Bool)}
 (hx:ρv x=.pointer (some ⟨b,p,none⟩)) (ht:TyOk P t' size' bytes' zero' d') (hn:(ρv y).cells.size=size') (hc:∀i,i < (ρv y).cells.size->cellV ((ρv y).cells.getD i undef)=true) (hb:w.heap[b]? =some (.cells cur t (0,0))) (hf:p+size' <=cur.size):
 ∃w' new,(execOp ρv ⟨none,.store t' x y,ty,pos,af,gu⟩).run P w=.ok .skip w' /\Wrote w w' b p t cur new (ρv y).cells.toList:=by
 have hs:=run_storeCells_at (P:=P) b p t (ρv y).cells.toList 0 cur w hb (by simp;omega) (yMa hc);simp only[Nat.add_zero]at hs;refine ⟨_,_,?_,Woa hb (by simp;omega)⟩;show Sem.run P (do Instr.storeAt t' (ρv x) (ρv y);pure Next.skip) w=_;rw[hx];simp only[Instr.storeAt,Instr.sureAddr,storeVar,Sem.run_bind,Sem.run_pure,Result.andThen_ok,ht.sizeOf];rw[if_neg (by rw[hn];simp)];simp only[Sem.run_bind,Sem.run_pure,Result.andThen_ok,hs]
variable {E:Env} {fr:Fr} {σ:Sto} {K:Post} {P:Program} {ρ:Operand->AV}
variable {dst:Option Tmp} {ty:TypeId} {pos:String} {af:Array Edge} {gu:Option (Nat × Bool)}
section
variable {α β:Type} {F:α->List PV} {G2:β->List PV} {l:List α} {l2:List β} {r r2 size size2 bytes sb ss k j m:Nat} {e e2 t:TypeId} {zero sz:Value} {d:TypeDesc} {x y:Operand}
variable {t' :TypeId} {size' bytes' :Nat} {zero' :Value} {d' :TypeDesc} {n:Int} {j0:Nat} {v v' :α} {c:PV}
theorem Vwa{off i i' q j0 len size:Nat}(hq:q < size)(hj:j0+len<=size)(h:i' ≠i∨q < j0∨j0+len<=q):(off+i') * size+q < (off+i) * size+j0∨(off+i) * size+j0+len<=(off+i') * size+q:=by
 by_cases hi:i' =i
 .subst hi;omega
 rcases Nat.lt_or_ge i' i with h2 | h2
 .have:(off+i' +1) * size<=(off+i) * size:=Nat.mul_le_mul_right _ (by omega);rw[Nat.add_mul (off+i')]at this;omega
 have:(off+i+1) * size<=(off+i') * size:=Nat.mul_le_mul_right _ (by omega);rw[Nat.add_mul (off+i)]at this;omega
theorem yNa{pcs:List PV}(hx:fr.ev x=.np r n.toNat j0)(hr:σ.get r=some (.nrow e size j e2 size2 m (l.map F)))(hy:(fr.ev y).weak.cells=some (pcs.map .pv))(ht:TyOk E.P t' size' bytes' zero' d')(hz:Nat.beq pcs.length size' =true)
 (hv:idx l n=some v) (hle:Nat.ble (j0+pcs.length) (F v).length=true) (hj:(Nat.ble (j+1) j0 || Nat.ble (j0+pcs.length) j)=true) (hF' :F v' =(F v).take j0++pcs++(F v).drop (j0+pcs.length)):
 OpTo E ⟨none,.store t' x y,ty,pos,af,gu⟩ fr σ fr (σ.upd r (.nrow e size j e2 size2 m ((l.set n.toNat v').map F))):=
 ⟨fun g a K Q hst hK=>by
  have hle:=Nat.le_of_ble_eq_true hle;have hz:=Nat.eq_of_beq_eq_true hz;have hj:j < j0∨j0+pcs.length<=j:=by
   simp only[Bool.or_eq_true]at hj;rcases hj with hj | hj <;> have:=Nat.le_of_ble_eq_true hj <;> omega
  refine ⟨fun _ _=>trivial,?_⟩;rw[Oper.semAt_plain _ _ _ (fun c=>by simp)];have h1:=hst.ev x;rw[hx]at h1;obtain ⟨hn0,hv⟩:=qda hv;obtain ⟨b,off,cap,cur,subs,hN⟩:=ZSa (hst.so.obj r _ hr) hv;have e1:=Wna hN h1;obtain ⟨v1,v2,v3⟩:=vJa (qba (hst.ev y)) hy;rw[List.length_map]at v1;have hlt:=(List.getElem?_eq_some_iff.1 hv).1;have hFz:=hN.z v (List.mem_of_getElem? hv);have hfit:(off+n.toNat) * size+j0+pcs.length<=cur.size:=by rw[hN.sz];exact Vja hlt hN.le (by omega)
  obtain ⟨w',new,hrun,hW⟩:=wsa (P:=E.P) (w:=g.w) (ty:=ty) (pos:=pos) (af:=af) (gu:=gu) e1 ht (by omega) v2 hN.heap (by omega);rw[hrun,Oper.uponIn_skip];have hcl:(a.eval y).cells.toList.length=pcs.length:=by simpa using v1
  have hxx:=hW.ext (u:=g.u) hN.heap hN.u;have hFv' :(F v').length=size:=by rw[hF'];simp;omega
  have hjl:((F v).take j0).length=j0:=by simp;omega
  have hF1:∀q,(q < j0∨j0+pcs.length<=q)->(F v')[q]? =(F v)[q]? :=by
   intro q hq;rw[hF',List.append_assoc];rcases hq with hq | hq
   .rw[List.getElem?_append_left (by omega),List.getElem?_take_of_lt hq]
   rw[List.getElem?_append_right (by omega),hjl,List.getElem?_append_right (by omega),List.getElem?_drop]
   congr 1;omega
  have hF2:∀q,q < pcs.length->(F v')[j0+q]? =pcs[q]? :=by
   intro q hq;rw[hF',List.append_assoc,List.getElem?_append_right (by omega),hjl,List.getElem?_append_left (by omega)]
   congr 1;omega
  have hkeep:∀i' q,q < size->(i' ≠n.toNat∨q < j0∨j0+pcs.length<=q)->new.getD ((off+i') * size+q) undef=cur.getD ((off+i') * size+q) undef:=fun i' q hq h=>hW.out _ (by rw[hcl];exact Vwa hq (by omega) h)
  have hN' :NAt ⟨w',g.u,g.loc⟩ r e size j e2 size2 m F (l.set n.toNat v') b off cap new subs:=by
   refine ⟨by rw[List.length_set];exact hN.loc,hW.here,hW.sz.trans hN.sz,hN.max,by rw[List.length_set];exact hN.le,fun z hz' =>?_,hN.u,hN.sl,by rw[List.length_set];exact hN.ml,hN.nd,fun i' j' z c hi' hj' hc=>?_,fun i' s z hs hz' =>?_⟩
   .rcases List.mem_or_eq_of_mem_set hz' with h2 | rfl
    .exact hN.z z h2
    exact hFv'
   .by_cases hin:i' =n.toNat
    .subst hin;rw[List.getElem?_set_self hlt]at hi';cases hi';have hjs:j' < size:=by rw[<-hFv'];exact (List.getElem?_eq_some_iff.1 hj').1
     by_cases hr' :j' < j0∨j0+pcs.length<=j'
     .rw[hkeep _ j' hjs (.inr hr')];rw[hF1 j' hr']at hj';exact (hN.cell _ j' v c hv hj' hc).mono hxx
     have hq:j' - j0 < pcs.length:=by omega
     have:=hF2 (j' - j0) hq;rw[show j0+(j' - j0)=j' by omega,hj']at this;have h5:=v3 (j' - j0) (.pv c) (by simp[<-this]);cases h5 with
     | pv h5=>
      have h6:=hW.inn (j' - j0) (by omega);rw[show (off+n.toNat) * size+j0+(j' - j0)=(off+n.toNat) * size+j' by omega]at h6;rw[h6];have h7:=h5.mono hxx;simpa using h7
    rw[List.getElem?_set_ne (by omega)]at hi';have hjs:j' < size:=by rw[<-hN.z z (List.mem_of_getElem? hi')];exact (List.getElem?_eq_some_iff.1 hj').1
    rw[hkeep i' j' hjs (.inl hin)];exact (hN.cell i' j' z c hi' hj' hc).mono hxx
   obtain ⟨z0,hz0,hFz0⟩:∃z0,l[i']? =some z0/\(F z)[j]? =(F z0)[j]? :=by
    by_cases hin:i' =n.toNat
    .subst hin;rw[List.getElem?_set_self hlt]at hz';cases hz';exact ⟨v,hv,hF1 j hj⟩
    rw[List.getElem?_set_ne (by omega)]at hz';exact ⟨z,hz',rfl⟩
   obtain ⟨rows,q1,q2⟩:=hN.sub i' s z0 hs hz0;have hjs:j < size:=by rw[<-hN.z z0 (List.mem_of_getElem? hz0)];exact (List.getElem?_eq_some_iff.1 q1).1
   refine ⟨rows,hFz0.trans q1,?_⟩;rw[hkeep i' j hjs (.inr hj)];refine q2.mono hxx.to0 fun t ht=>⟨hW.other t.1 ?_,rfl⟩
   rintro rfl;subst ht;exact (List.nodup_cons.1 hN.nd).1 (q4a hs)
  exact hK ⟨w',g.u,g.loc⟩ _ (St.put_none (hst.objset hr hxx rfl hW.os hW.tape hW.output (fun k hk hne=>⟨hW.other k (by rintro rfl;exact hne (by rw[hN.loc];exact .inl rfl)),rfl⟩) (vZa hst.so.wf (Nat.le_of_eq hW.size.symm) _) hN'.obj (fun _=>rfl)))⟩
theorem yha{pcs:List PV}{n2:Int}{w2 w2' :β}(hx:fr.ev x=.hnp r n.toNat n2.toNat j0)(hr:σ.get r=some (.nrow e size j e2 size2 m (l.map F)))(hy:(fr.ev y).weak.cells=some (pcs.map .pv))(ht:TyOk E.P t' size' bytes' zero' d')(hz:Nat.beq pcs.length size' =true)
 (hv:idx l n=some v) (hF:(F v)[j]? =some (.sl none (l2.map G2))) (hv2:idx l2 n2=some w2) (hle:Nat.ble (j0+pcs.length) (G2 w2).length=true) (hG' :G2 w2' =(G2 w2).take j0++pcs++(G2 w2).drop (j0+pcs.length)) (hF' :F v' =(F v).set j (.sl none ((l2.set n2.toNat w2').map G2))):
 OpTo E ⟨none,.store t' x y,ty,pos,af,gu⟩ fr σ fr (σ.upd r (.nrow e size j e2 size2 m ((l.set n.toNat v').map F))):=
 ⟨fun g a K Q hst hK=>by
  have hle:=Nat.le_of_ble_eq_true hle;have hz:=Nat.eq_of_beq_eq_true hz;refine ⟨fun _ _=>trivial,?_⟩;rw[Oper.semAt_plain _ _ _ (fun c=>by simp)];have h1:=hst.ev x;rw[hx]at h1;obtain ⟨hn0,hv⟩:=qda hv;obtain ⟨hn20,hv2⟩:=qda hv2;obtain ⟨b,off,cap,cur,subs,hN⟩:=ZSa (hst.so.obj r _ hr) hv;obtain ⟨s,val,hss,hR,hval,hk,e1⟩:=hnp_val hN hv hF h1;obtain ⟨vs2,b1,b2,b3⟩:=hR.blk;obtain ⟨v1,v2,v3⟩:=vJa (qba (hst.ev y)) hy;rw[List.length_map]at v1;have hlt:=(List.getElem?_eq_some_iff.1 hv).1;have hFz:=hN.z v (List.mem_of_getElem? hv);have hGz:=hR.z _ (List.mem_map_of_mem (List.mem_of_getElem? hv2));have hu2:=hR.hmu rfl;have hRn:=hR.n;rw[List.length_map]at hRn;have hfit:(s.2.1+n2.toNat) * size2+j0+pcs.length<=vs2.size:=by rw[b2];exact Vja (n:=l2.length) hk (by have:=hR.le;omega) (by omega)
  obtain ⟨w',new,hrun,hW⟩:=wsa (P:=E.P) (w:=g.w) (ty:=ty) (pos:=pos) (af:=af) (gu:=gu) e1 ht (by omega) v2 b1 (by omega);rw[hrun,Oper.uponIn_skip];have hcl:(a.eval y).cells.toList.length=pcs.length:=by simpa using v1
  have hxx:=hW.ext (u:=g.u) b1 hu2;have hG2:(G2 w2').length=size2:=by rw[hG'];simp;omega
  have hjl:((G2 w2).take j0).length=j0:=by simp;omega
  have hsb:s.1≠b:=by rintro rfl;exact (List.nodup_cons.1 hN.nd).1 (q4a hss)
  have hF1:∀q,q≠j->(F v')[q]? =(F v)[q]? :=fun q hq=>by rw[hF',List.getElem?_set_ne (Ne.symm hq)]
  have hjs:j < (F v).length:=(List.getElem?_eq_some_iff.1 hF).1;have hFj:(F v')[j]? =some (.sl none ((l2.set n2.toNat w2').map G2)):=by rw[hF',List.getElem?_set_self hjs]
  have hFv' :(F v').length=size:=by rw[hF',List.length_set,hFz]
  have hR' :wha w' g.u e2 true size2 ((l2.set n2.toNat w2').map G2) s val:=by
   refine ⟨hR.val,by simp[hRn],hR.pos,⟨new,hW.here,hW.sz.trans b2,fun i' j' z c hi' hj' =>?_⟩,hR.cap,hR.le,fun z hz' =>?_,hR.hu,hR.hmu⟩
   .simp only[List.getElem?_map,Option.map_eq_some_iff]at hi';obtain ⟨z,hi',rfl⟩:=hi';by_cases hin:i' =n2.toNat
    .subst hin;rw[List.getElem?_set_self hk]at hi';cases hi';have hjs' :j' < size2:=by rw[<-hG2];exact (List.getElem?_eq_some_iff.1 hj').1
     by_cases hr' :j' < j0∨j0+pcs.length<=j'
     .rw[hW.out _ (by rw[hcl];exact Vwa hjs' (by omega) (.inr hr'))];have hj2:(G2 w2)[j']? =some c:=by
       rw[<-hj',hG',List.append_assoc];rcases hr' with hq | hq
       .rw[List.getElem?_append_left (by omega),List.getElem?_take_of_lt hq]
       rw[List.getElem?_append_right (by omega),hjl,List.getElem?_append_right (by omega),List.getElem?_drop]
       congr 1;omega
      exact (b3 _ j' _ c (by simp[hv2]) hj2).mono hxx
     have hq:j' - j0 < pcs.length:=by omega
     have hj2:pcs[j' - j0]? =some c:=by
      rw[<-hj',hG',List.append_assoc,List.getElem?_append_right (by omega),hjl,List.getElem?_append_left (by omega)]
     have h5:=v3 (j' - j0) (.pv c) (by simp[hj2]);cases h5 with
     | pv h5=>
      have h6:=hW.inn (j' - j0) (by omega);rw[show (s.2.1+n2.toNat) * size2+j0+(j' - j0)=(s.2.1+n2.toNat) * size2+j' by omega]at h6;rw[h6];have h7:=h5.mono hxx;simpa using h7
    rw[List.getElem?_set_ne (by omega)]at hi';have hzz:=hR.z _ (List.mem_map_of_mem (List.mem_of_getElem? hi'));have hjs' :j' < size2:=by rw[<-hzz];exact (List.getElem?_eq_some_iff.1 hj').1
    rw[hW.out _ (by rw[hcl];exact Vwa hjs' (by omega) (.inl hin))];exact (b3 i' j' _ c (by simp[hi']) hj').mono hxx
   obtain ⟨z0,hz0,rfl⟩:=List.mem_map.1 hz';rcases List.mem_or_eq_of_mem_set hz0 with h2 | rfl
   .exact hR.z _ (List.mem_map_of_mem h2)
   exact hG2
  have hN' :NAt ⟨w',g.u,g.loc⟩ r e size j e2 size2 m F (l.set n.toNat v') b off cap cur subs:=by
   refine ⟨by rw[List.length_set];exact hN.loc,(hW.other b (Ne.symm hsb)).trans hN.heap,hN.sz,hN.max,by rw[List.length_set];exact hN.le,fun z hz' =>?_,hN.u,hN.sl,by rw[List.length_set];exact hN.ml,hN.nd,fun i' j' z c hi' hj' hc=>?_,fun i' s' z hs hz' =>?_⟩
   .rcases List.mem_or_eq_of_mem_set hz' with h2 | rfl
    .exact hN.z z h2
    exact hFv'
   .by_cases hin:i' =n.toNat
    .subst hin;rw[List.getElem?_set_self hlt]at hi';cases hi';have him:n.toNat < m:=by have:=(List.getElem?_eq_some_iff.1 hss).1;have:=hN.sl;omega
     have hjj:j' ≠j:=by
      rcases hc with hc | hc; · omega
      exact hc
     rw[hF1 j' hjj]at hj';exact (hN.cell _ j' v c hv hj' hc).mono hxx
    rw[List.getElem?_set_ne (by omega)]at hi';exact (hN.cell i' j' z c hi' hj' hc).mono hxx
   by_cases hin:i' =n.toNat
   .subst hin;rw[List.getElem?_set_self hlt]at hz';cases hz';rw[hss]at hs;cases hs;exact ⟨_,hFj,by rw[hval];exact hR'⟩
   rw[List.getElem?_set_ne (by omega)]at hz';obtain ⟨rows,q1,q2⟩:=hN.sub i' s' z hs hz';refine ⟨rows,q1,q2.mono hxx.to0 fun t ht=>⟨hW.other t.1 ?_,rfl⟩⟩;subst ht;exact kbb (List.nodup_cons.1 hN.nd).2 hs hss hin
  exact hK ⟨w',g.u,g.loc⟩ _ (St.put_none (hst.objset hr hxx rfl hW.os hW.tape hW.output (fun k hk hne=>⟨hW.other k (by rintro rfl;exact hne (by rw[hN.loc];exact .inr (q4a hss))),rfl⟩) (vZa hst.so.wf (Nat.le_of_eq hW.size.symm) _) hN'.obj (fun _=>rfl)))⟩
end
end
section
open Go.RowKit Go.Lib Go.Proofs.Tryz
def Qca(l l' :Loc):Prop:=l' =l∨(∃b off cap size n size2 subs more,l=.nest b off cap size n size2 subs/\l' =.nest b off cap size n size2 (subs++more))∨∃b subs subs',l=.mapr b subs/\l' =.mapr b subs'
theorem Qca.plain{l l' :Loc}(h:Qca l l')(hn:∀b off cap size n size2 subs,l≠ .nest b off cap size n size2 subs/\l≠ .mapr b subs):l' =l:=by
 rcases h with h | ⟨b,off,cap,size,n,size2,subs,more,h,_⟩ | ⟨b,subs,subs',h,_⟩
 .exact h
 .exact absurd h (hn _ _ _ _ _ _ _).1
 exact absurd h (hn b 0 0 0 0 0 subs).2
theorem Qca.mapr{l' :Loc}{b:Nat}{subs:List (Option (Nat × Nat × Nat × Nat))}(h:Qca (.mapr b subs) l'):∃subs',l' =.mapr b subs' :=by
 rcases h with h | ⟨b',off',cap',size',n',size2',subs',more,h,h2⟩ | ⟨b',s1,s2,h,h2⟩
 .exact ⟨_,h⟩
 .cases h
 cases h;exact ⟨_,h2⟩
theorem Qca.nest{l' :Loc}{b off cap size n size2:Nat}{subs:List (Option (Nat × Nat × Nat × Nat))}(h:Qca (.nest b off cap size n size2 subs) l'):∃more,l' =.nest b off cap size n size2 (subs++more):=by
 rcases h with h | ⟨b',off',cap',size',n',size2',subs',more,h,h2⟩ | ⟨b',s1,s2,h,h2⟩
 .exact ⟨[],by rw[List.append_nil];exact h⟩
 .cases h;exact ⟨more,h2⟩
 cases h
theorem Vxa{α:Type}{l more:List α}{i:Nat}{x:α}(h:l[i]? =some x):(l++more)[i]? =some x:=by
 rw[List.getElem?_append_left (List.getElem?_eq_some_iff.1 h).1];exact h
theorem Rel.more{g g' :G}(hx:Ext g.w g.u g'.w g'.u){c:AV}{v:Value}(h:Rel g c v):(∀o,c.has o=true->Qca (g.loc o) (g'.loc o))->Rel g' c v:=by
 have hx0:=hx.to0;induction h with
 | any v=>exact fun _=>.any v
 | pv h=>exact fun _=>.pv (h.mono0 hx0)
 | @agg cs vs hl hc h ih=>exact fun hh=>.agg hl hc (fun i c hi=>ih i c hi fun o ho=>hh o (by unfold AV.has;exact AV.hasL_of hi ho))
 | @tup cs vs hl h ih=>exact fun hh=>.tup hl (fun i c hi=>ih i c hi fun o ho=>hh o (by unfold AV.has;exact AV.hasL_of hi ho))
 | @ptr o off b hl=>exact fun hh=>.ptr (by have:=hh o (by simp[AV.has]);rw[hl]at this;exact this.plain (by intros;simp))
 | @ep cells b off val hu hb hcell h=>exact fun hh=>Rel.mono hx (.ep val hu hb hcell h) (fun o ho=>by cases ho)
 | @hsNil r a hl=>exact fun hh=>.hsNil a (by have:=hh r (by simp[AV.has]);rw[hl]at this;exact this.plain (by intros;simp))
 | @hs r b off cap size n a hl ha=>exact fun hh=>.hs (by have:=hh r (by simp[AV.has]);rw[hl]at this;exact this.plain (by intros;simp)) ha
 | @hp r idx j b off cap size n hl hi=>exact fun hh=>.hp (by have:=hh r (by simp[AV.has]);rw[hl]at this;exact this.plain (by intros;simp)) hi
 | @fn f first captured fv cv h1 h2 hf hc ihf ihc=>
  exact fun hh=>.fn h1 h2 (fun i c hi=>ihf i c hi fun o ho=>hh o (by simp[AV.has,AV.hasL_of hi ho])) (fun i c hi=>ihc i c hi fun o ho=>hh o (by simp[AV.has,AV.hasL_of hi ho]))
 | @mp o b hl=>exact fun hh=>.mp (by have:=hh o (by simp[AV.has]);rw[hl]at this;exact this.plain (by intros;simp))
 | @hsubNil r lo a hl=>exact fun hh=>.hsubNil a (by have:=hh r (by simp[AV.has]);rw[hl]at this;exact this.plain (by intros;simp))
 | @hsub r lo b off cap size n a hl hle ha=>exact fun hh=>.hsub (by have:=hh r (by simp[AV.has]);rw[hl]at this;exact this.plain (by intros;simp)) hle ha
 | z0 a=>exact fun _=>.z0 a
 | ifc h=>exact fun _=>.ifc h
 | @hpreNil r a hl=>exact fun hh=>.hpreNil a (by have:=hh r (by simp[AV.has]);rw[hl]at this;exact this.plain (by intros;simp))
 | @hpre r hi b off cap size n a hl hle ha=>exact fun hh=>.hpre (by have:=hh r (by simp[AV.has]);rw[hl]at this;exact this.plain (by intros;simp)) hle ha
 | @nsNil r a hl=>exact fun hh=>.nsNil a (by have:=hh r (by simp[AV.has]);rw[hl]at this;exact this.plain (by intros;simp))
 | @ns r b off cap size n size2 subs a hl ha=>exact fun hh=>by have:=hh r (by simp[AV.has]);rw[hl]at this;obtain ⟨more,h2⟩:=this.nest;exact .ns h2 ha
 | @np r idx j b off cap size n size2 subs hl hi=>exact fun hh=>by have:=hh r (by simp[AV.has]);rw[hl]at this;obtain ⟨more,h2⟩:=this.nest;exact .np h2 hi
 | @hnNil r idx b off cap size n size2 subs a cap2 hl hs=>exact fun hh=>by have:=hh r (by simp[AV.has]);rw[hl]at this;obtain ⟨more,h2⟩:=this.nest;exact .hnNil a cap2 h2 (Vxa hs)
 | @hn r idx b off cap size n size2 b2 off2 cap2 n2 subs hl hs=>exact fun hh=>by have:=hh r (by simp[AV.has]);rw[hl]at this;obtain ⟨more,h2⟩:=this.nest;exact .hn h2 (Vxa hs)
 | @hnp r idx k j b off cap size n size2 b2 off2 cap2 n2 subs hl hs hk=>exact fun hh=>by have:=hh r (by simp[AV.has]);rw[hl]at this;obtain ⟨more,h2⟩:=this.nest;exact .hnp h2 (Vxa hs) hk
 | nn h=>exact fun _=>.nn h
 | @ls o b hl=>exact fun hh=>.ls (by have:=hh o (by simp[AV.has]);rw[hl]at this;exact this.plain (by intros;simp))
 | @mr o b subs hl=>exact fun hh=>by have:=hh o (by simp[AV.has]);rw[hl]at this;obtain ⟨s,h2⟩:=this.mapr;exact .mr h2
theorem ZTa{g g' :G}{r r2:Nat}(hx:Ext g.w g.u g'.w g'.u)(hl:∀k,k≠r->g'.loc k=g.loc k)(hr:Qca (g.loc r) (g'.loc r)){c:AV}{v:Value}(h:Rel g c v):Rel g' (c.clr r2) v:=by
 unfold AV.clr;cases hc:c.has r2 with
 | true=>exact .any _
 | false=>
  refine h.more hx fun o ho=>?_
  by_cases hor:o=r
  .subst hor;exact hr
  exact .inl (hl o hor)
variable {E:Env} {fr:Fr} {σ:Sto} {K:Post} {P:Program} {ρ:Operand->AV}
variable {dst:Option Tmp} {ty:TypeId} {pos:String} {af:Array Edge} {gu:Option (Nat × Bool)}
section
variable {α β:Type} {F:α->List PV} {G2:β->List PV} {l:List α} {l2:List β} {r r2 size size2 bytes sb ss k j m:Nat} {e e2 t:TypeId} {zero sz:Value} {d:TypeDesc} {x y:Operand}
variable {t' :TypeId} {size' bytes' :Nat} {zero' :Value} {d' :TypeDesc} {n:Int} {j0:Nat} {v v' :α} {c:PV}
theorem QIa{g:G}{vx:Value}(hob:RelO g r2 (.row e2 true size2 (l2.map G2)))(hx:Rel g (.hs r2 0) vx):
 ∃s,jWa g.w g.u e2 size2 (l2.map G2) s vx/\∀t,s=some t->(AO.row e2 true size2 (l2.map G2)).own (g.loc r2) t.1:=by
 generalize hls:l2.map G2=ls at hob;cases hob with
 | nil hl=>
  cases hx with
  | hsNil a h1=>exact ⟨none,⟨rfl,a,0,rfl,fun _=>rfl⟩,fun t ht=>by cases ht⟩
  | hs h1=>rw[hl]at h1;cases h1
 | @row _ _ _ _ b off cap vs h1 h2 h3 h4 h5 h6 h7 h8 h9=>
  cases hx with
  | hsNil a hl=>rw[h1]at hl;cases hl
  | @hs _ _ _ _ _ _ ad hl ha=>
   rw[h1]at hl;cases hl;rcases Nat.eq_zero_or_pos ls.length with h0 | h0
   .refine ⟨none,⟨List.eq_nil_of_length_eq_zero h0,some ad,cap,by rw[h0],fun hx=>by cases hx⟩,fun t ht=>by cases ht⟩
   have:=ha (by omega);subst this;exact ⟨some (b,off,cap,ls.length),⟨rfl,rfl,h0,⟨vs,h2,h3,h9⟩,h4,h5,h6,h7,fun _=>h8 rfl⟩,fun t ht=>by cases ht;rw[h1];rfl⟩
theorem JVa(hx:fr.ev x=.np r n.toNat j0)(hr:σ.get r=some (.nrow e size j e2 size2 m (l.map F)))(hy:fr.ev y=.hs r2 0)(hr2:σ.get r2=some (.row e2 true size2 (l2.map G2)))(hne:Nat.beq r r2=false)(ht:TyOk E.P t' 1 bytes' zero' d')
 (hj:Nat.beq j0 j=true) (hv:idx l n=some v) (hm:n.toNat=m) (hjs:Nat.ble (j+1) (F v).length=true) (hF' :F v' =(F v).set j (.sl none (l2.map G2))):
 OpTo E ⟨none,.store t' x y,ty,pos,af,gu⟩ fr σ (fr.mp (AV.clr r2)) (((σ.dels [r2]).mp (AV.clr r2)).upd r (.nrow e size j e2 size2 (m+1) ((l.set n.toNat v').map F))):=
 ⟨fun g a K Q hst hK=>by
  obtain rfl:=Nat.eq_of_beq_eq_true hj;have hjs:=Nat.le_of_ble_eq_true hjs;have hne:r≠r2:=by rintro rfl;simp at hne
  refine ⟨fun _ _=>trivial,?_⟩;rw[Oper.semAt_plain _ _ _ (fun c=>by simp)];have h1:=hst.ev x;rw[hx]at h1;have h2:=hst.ev y;rw[hy]at h2;obtain ⟨hn0,hv⟩:=qda hv;have hob:=hst.so.obj r _ hr;obtain ⟨b,off,cap,cur,subs,hN⟩:=ZSa hob hv;have e1:=Wna hN h1;obtain ⟨s,hS,hSown⟩:=QIa (hst.so.obj r2 _ hr2) h2;have hlt:=(List.getElem?_eq_some_iff.1 hv).1;have hFz:=hN.z v (List.mem_of_getElem? hv);have hcell:=kab hS;have hcells:(a.eval y).cells= #[a.eval y]:=by cases hc:a.eval y <;> rw[hc]at hcell <;> first | rfl | cases hcell
  obtain ⟨w',new,hrun,hW⟩:=wsa (P:=E.P) (w:=g.w) (t:=e) (cur:=cur) (ty:=ty) (pos:=pos) (af:=af) (gu:=gu) (y:=y) e1 ht (by rw[hcells];rfl) (by rw[hcells];intro i hi;simp at hi;subst hi;exact hcell) hN.heap (by have:=hN.place hlt (by omega:j0 < size);omega);rw[hcells]at hW;rw[hrun,Oper.uponIn_skip];have hxx:=hW.ext (u:=g.u) hN.heap hN.u;have hFv' :(F v').length=size:=by rw[hF',List.length_set,hFz]
  have hFj:(F v')[j0]? =some (.sl none (l2.map G2)):=by rw[hF',List.getElem?_set_self (by omega)]
  have hF1:∀q,q≠j0->(F v')[q]? =(F v)[q]? :=fun q hq=>by rw[hF',List.getElem?_set_ne (Ne.symm hq)]
  have hkeep:∀i' q,q < size->(i' ≠n.toNat∨q≠j0)->new.getD ((off+i') * size+q) undef=cur.getD ((off+i') * size+q) undef:=fun i' q hq h=>hW.out _ (Vwa (len:=1) hq (by omega) (by omega))
  have hnew:new.getD ((off+n.toNat) * size+j0) undef=a.eval y:=by
   have:=hW.inn 0 (by simp);simpa using this
  let g' :G:=⟨w',g.u,fun k=>if k=r then .nest b off cap size l.length size2 (subs++ [s]) else g.loc k⟩;have hl' :g'.loc r=.nest b off cap size l.length size2 (subs++ [s]):=if_pos rfl;have hk' :∀k,k≠r->g'.loc k=g.loc k:=fun k hk=>if_neg hk
  have hbn:∀t,s=some t->t.1≠b:=by
   rintro t ht rfl;exact hne (hst.so.apart r r2 _ _ t.1 hr hr2 (by rw[hN.loc];exact .inl rfl) (hSown t ht))
  have hS' :jWa w' g.u e2 size2 (l2.map G2) s (a.eval y):=hS.mono hxx.to0 fun t ht=>⟨hW.other t.1 (hbn t ht),rfl⟩
  have hN' :NAt g' r e size j0 e2 size2 (m+1) F (l.set n.toNat v') b off cap new (subs++ [s]):=by
   refine ⟨by rw[List.length_set];exact hl',hW.here,hW.sz.trans hN.sz,hN.max,by rw[List.length_set];exact hN.le,fun z hz' =>?_,hN.u,by rw[List.length_append,hN.sl];rfl,by rw[List.length_set];omega,?_,fun i' j' z c hi' hj' hc=>?_,fun i' s' z hs hz' =>?_⟩
   .rcases List.mem_or_eq_of_mem_set hz' with h2 | rfl
    .exact hN.z z h2
    exact hFv'
   .rw[kIa];have hnd:=hN.nd;cases hs:s with
    | none=>simpa[zoa]using hnd
    | some t=>
     have htb:=hbn t hs;have hnin:t.1 ∉ zoa subs:=fun hin=>hne (hst.so.apart r r2 _ _ t.1 hr hr2 (by rw[hN.loc];exact .inr hin) (hSown t hs))
     rw[show zoa [some t]=[t.1] from rfl,<-List.cons_append];rw[List.nodup_append];refine ⟨hnd,by simp,fun q hq q' hq' =>?_⟩;simp only[List.mem_singleton]at hq';subst hq';rintro rfl;rcases List.mem_cons.1 hq with h3 | h3
     .exact htb h3
     exact hnin h3
   .by_cases hin:i' =n.toNat
    .subst hin;rw[List.getElem?_set_self hlt]at hi';cases hi';have hjj:j' ≠j0:=by omega
     have hjs' :j' < size:=by rw[<-hFv'];exact (List.getElem?_eq_some_iff.1 hj').1
     rw[hkeep _ j' hjs' (.inr hjj)];rw[hF1 j' hjj]at hj';exact (hN.cell _ j' v c hv hj' (.inr hjj)).mono hxx
    rw[List.getElem?_set_ne (by omega)]at hi';have hjs' :j' < size:=by rw[<-hN.z z (List.mem_of_getElem? hi')];exact (List.getElem?_eq_some_iff.1 hj').1
    rw[hkeep i' j' hjs' (.inl hin)];exact (hN.cell i' j' z c hi' hj' (by omega)).mono hxx
   by_cases hin:i' =n.toNat
   .subst hin;rw[List.getElem?_set_self hlt]at hz';cases hz';rw[List.getElem?_append_right (by rw[hN.sl];omega),hN.sl,hm,Nat.sub_self]at hs;simp only[List.getElem?_cons_zero,Option.some.injEq]at hs;subst hs;exact ⟨_,hFj,by rw[hnew];exact hS'⟩
   rw[List.getElem?_set_ne (by omega)]at hz';have hil:i' < subs.length:=by
    have:=(List.getElem?_eq_some_iff.1 hs).1;simp only[List.length_append,List.length_singleton]at this;have:=hN.sl;omega
   rw[List.getElem?_append_left hil]at hs;obtain ⟨rows,q1,q2⟩:=hN.sub i' s' z hs hz';refine ⟨rows,q1,?_⟩;rw[hkeep i' j0 (by omega) (.inl hin)];refine q2.mono hxx.to0 fun t ht=>⟨hW.other t.1 ?_,rfl⟩
   rintro rfl;subst ht;exact (List.nodup_cons.1 hN.nd).1 (q4a hs)
  have hle:Qca (g.loc r) (g'.loc r):=.inr <| .inl ⟨b,off,cap,size,l.length,size2,subs,[s],hN.loc,hl'⟩;refine hK g' _ (St.put_none (hst.turn (g' :=g') hr [r2] (by simpa using hne) (AV.clr r2) rfl (fun c v h=>ZTa hxx hk' hle h) hxx hk' hW.os hW.tape hW.output (fun q hq hno=>⟨hW.other q ?_,rfl⟩) (vZa hst.so.wf (Nat.le_of_eq hW.size.symm) _) hN'.obj (fun q hq=>.inl ?_)))
  .rintro rfl;exact hno r _ (.inl rfl) hr (by rw[hN.loc];exact .inl rfl)
  rw[hl']at hq;rcases hq with hq | hq
  .exact ⟨r,_,.inl rfl,hr,by rw[hN.loc];exact .inl hq⟩
  have hq:q∈zoa (subs++ [s]):=hq;rw[kIa]at hq;rcases List.mem_append.1 hq with hq | hq
  .exact ⟨r,_,.inl rfl,hr,by rw[hN.loc];exact .inr hq⟩
  cases hs:s with
  | none=>rw[hs]at hq;cases hq
  | some t=>
   rw[hs,show zoa [some t]=[t.1] from rfl,List.mem_singleton]at hq;subst hq;exact ⟨r2,_,.inr (by simp),hr2,hSown t hs⟩⟩
end
end
section
open Go.RowKit Go.Lib Go.Proofs.Tryz
def nall(m n:Nat):Option Bool:=if m=n then some true else none
theorem kcb{m n:Nat}{r:Bool}(h:nall m n=some r):m=n:=by
 unfold nall at h;split at h
 .assumption
 cases h
variable {E:Env} {fr:Fr} {σ:Sto} {K:Post} {P:Program} {ρ:Operand->AV}
variable {dst:Option Tmp} {ty:TypeId} {pos:String} {af:Array Edge} {gu:Option (Nat × Bool)}
section
variable {α β:Type} {F:α->List PV} {G2:β->List PV} {l r' :List α} {l2:List β} {r r2 o size size2 bytes sb ss k j m lim:Nat} {e e2 t:TypeId} {zero sz:Value} {d:TypeDesc} {x y:Operand} {v:α} {cs:List AV}
theorem kdb(o:Nat)(hN:Nat.ble (k+1) E.N=true)(hfo:fr.has o=false)(hso:σ.has o=false)(ht:TyOk E.P t ss sb sz (.slice e))(he:TyOk E.P e size bytes zero d)(hzs:(Nat.beq zero.cells.size size && Nat.ble 1 size && zero.cells.toList.all cellV && Nat.ble size 16777216)=true)
 (hc:Vfa (fun i=>some (i * size,size)) (List.replicate size .any) [(0,(fr.ev y).weak)]=some cs) (hcs:AV.hasL o cs=false):
 OpTo E ⟨some k,.buildSlice t 1 #[(0,y)],ty,pos,af,gu⟩ fr σ ((k,.ls o)::fr) ((o,.cells cs)::σ):=
 ⟨fun g a K Q hst hK=>by
  simp only[Bool.and_eq_true]at hzs;have hz1:=Nat.eq_of_beq_eq_true hzs.1.1.1;have hz2:=Nat.le_of_ble_eq_true hzs.1.1.2;have hz4:=Nat.le_of_ble_eq_true hzs.2;refine ⟨fun _ _=>trivial,?_⟩;rw[Oper.semAt_plain _ _ _ (fun c=>by simp)];generalize harr:((Array.range (1 * size)).map (fun i=>zero.cells[i % zero.cells.size]!))=arr;have hasz:arr.size=size:=by rw[<-harr];simp
  have hacell:∀i,i < arr.size->cellV (arr.getD i undef)=true:=by
   intro i hi;rw[hasz]at hi;have hlt:i % zero.cells.size < zero.cells.size:=Nat.mod_lt _ (by omega);have:arr.getD i undef=zero.cells[i % zero.cells.size]:=by
    rw[<-harr];simp[hi,hlt]
   rw[this];have h3:=hzs.1.2;rw[List.all_eq_true]at h3;exact h3 _ (by simp)
  obtain ⟨out,h1,h2⟩:=Vga (g:=g) [(0,(fr.ev y).weak)] [(0,a.eval y)] (List.replicate size .any) arr cs
   ⟨by simp[hasz],hacell,fun i c hi=>by
    have:=List.mem_of_getElem? hi;rw[List.mem_replicate]at this;rw[this.2];exact .any _⟩ (by simp) (fun i p v hp hv=>by
   cases i with
   | zero=>simp at hp hv;subst hp;subst hv;exact ⟨rfl,qba (hst.ev y)⟩
   | succ i=>simp at hp) hc
  have hrun:(execOp a.eval ⟨some k,.buildSlice t 1 #[(0,y)],ty,pos,af,gu⟩).run E.P g.w=.ok (.value (.slice (some ⟨g.w.heap.size,0,none⟩) 1 1)) (g.w.alloc (.cells out e)):=by
   show Sem.run E.P (do let v <-Instr.buildSlice t 1 ((#[(0,y)]:Array (Nat × Operand)).map fun (i,x)=>(i,a.eval x));pure (Next.value v)) g.w=_;have e1:((#[(0,y)]:Array (Nat × Operand)).map fun (x:Nat × Operand)=>(x.1,a.eval x.2)).toList=[(0,a.eval y)]:=by simp
   have hgt:¬(1 * size > 2 ^ 24):=by simp;omega
   have h0:¬(1 * size=0):=by omega
   simp only[Instr.buildSlice,underlying,program,Sem.run_bind,Sem.run,ht.u,he.sizeOf,Result.andThen_ok,Sem.run_pure,if_neg hgt,if_neg h0,he.zeroValue,e1,harr,h1];rfl
  rw[hrun,Oper.uponIn_value];have hst' :=hst.box o hfo hso e h2.n h2.c h2.r hcs;exact hK _ _ (hst'.put (Nat.le_of_ble_eq_true hN) (.ls (if_pos rfl)))⟩
theorem KIa{g:G}{a:Act}{subs:List (Option (Nat × Nat × Nat × Nat))}{s:Option (Nat × Nat × Nat × Nat)}{w' :World}{b' off' cap' :Nat}{nw:Array Value}(hst:St E g a fr σ)(hr:σ.get r=some (.nrow e size j e2 size2 l.length (l.map F)))(hr2:σ.get r2=some (.row e2 true size2 (l2.map G2)))(ho:σ.get o=some (.cells cs))(hne2:r≠r2)(hneo:r≠o)
 (hsub0:(g.loc r=.nilRow/\l=[]/\subs=[])∨∃b off cap n,g.loc r=.nest b off cap size n size2 subs)
 (hsl:subs.length=l.length) (hz:∀x∈l,(F x).length=size) (hFz:(F v).length=size) (hFj:(F v)[j]? =some (.sl none (l2.map G2)))
 (hos:w'.os=g.w.os) (htape:w'.tape=g.w.tape) (hout:w'.output=g.w.output) (hx:Ext g.w g.u w' g.u)
 (hheap:w'.heap[b']? =some (.cells nw e (0,0))) (hother:∀q,q < g.w.heap.size->q≠b' ->w'.heap[q]? =g.w.heap[q]?) (hb' :(AO.nrow e size j e2 size2 l.length (l.map F)).own (g.loc r) b' /\b' ∉ zoa subs∨g.w.heap.size<=b') (hu:g.u b' =0)
 (hnsz:nw.size=(off' +cap') * size) (hcap:cap' <=maxLen) (hle:l.length+1<=cap') (hwfs:g.w.heap.size<=w'.heap.size)
 (hold:∀i j' x c,l[i]? =some x->(F x)[j']? =some c->(l.length<=i∨j' ≠j)->RelP g.w g.u c (nw.getD ((off' +i) * size+j') undef))
 (holds:∀i s x,subs[i]? =some s->l[i]? =some x->∃rows,(F x)[j]? =some (.sl none rows)/\jWa g.w g.u e2 size2 rows s (nw.getD ((off' +i) * size+j) undef))
 (hnew:∀j' c,(F v)[j']? =some c->j' ≠j->RelP g.w g.u c (nw.getD ((off' +l.length) * size+j') undef))
 (hnews:jWa g.w g.u e2 size2 (l2.map G2) s (nw.getD ((off' +l.length) * size+j) undef)) (hsown:∀t,s=some t->(AO.row e2 true size2 (l2.map G2)).own (g.loc r2) t.1) (hnd:(zoa subs).Nodup):
 St E ⟨w',g.u,fun q=>if q=r then .nest b' off' cap' size (l++ [v]).length size2 (subs++ [s]) else g.loc q⟩ a (fr.mp (AV.clrs [r,r2,o])) (((σ.dels [r2,o]).mp (AV.clrs [r,r2,o])).upd r (.nrow e size j e2 size2 (l.length+1) ((l++ [v]).map F))):=by
 let g' :G:=⟨w',g.u,fun q=>if q=r then .nest b' off' cap' size (l++ [v]).length size2 (subs++ [s]) else g.loc q⟩;have hl' :g'.loc r=.nest b' off' cap' size (l++ [v]).length size2 (subs++ [s]):=if_pos rfl;have hk' :∀q,q≠r->g'.loc q=g.loc q:=fun q hq=>if_neg hq
 have hsubown:∀q,q∈zoa subs->(AO.nrow e size j e2 size2 l.length (l.map F)).own (g.loc r) q:=by
  intro q hq;rcases hsub0 with ⟨_,_,rfl⟩ | ⟨b,off,cap,n,h⟩
  .cases hq
  rw[h];exact .inr hq
 have hlt:∀q,(AO.nrow e size j e2 size2 l.length (l.map F)).own (g.loc r) q->q < g.w.heap.size:=fun q hq=>(hst.so.obj r _ hr).block_lt hq
 have hlt2:∀q,(AO.row e2 true size2 (l2.map G2)).own (g.loc r2) q->q < g.w.heap.size:=fun q hq=>(hst.so.obj r2 _ hr2).block_lt hq
 have hdis:∀q,(AO.nrow e size j e2 size2 l.length (l.map F)).own (g.loc r) q->¬(AO.row e2 true size2 (l2.map G2)).own (g.loc r2) q:=fun q h1 h2=>hne2 (hst.so.apart r r2 _ _ q hr hr2 h1 h2)
 have hb'sub:b' ∉ zoa subs:=by
  rcases hb' with h | h
  .exact h.2
  intro hin;have:=hlt _ (hsubown _ hin);omega
 have hb's:∀t,s=some t->t.1≠b' :=by
  rintro t ht rfl;rcases hb' with h | h
  .exact hdis _ h.1 (hsown t ht)
  have:=hlt2 _ (hsown t ht);omega
 have hN' :NAt g' r e size j e2 size2 (l.length+1) F (l++ [v]) b' off' cap' nw (subs++ [s]):=by
  refine ⟨hl',hheap,hnsz,hcap,by simpa using hle,fun z hz' =>?_,hu,by simp[hsl],by simp,?_,fun i' j' z c hi' hj' hc=>?_,fun i' s' z hs hz' =>?_⟩
  .rcases List.mem_append.1 hz' with h | h
   .exact hz z h
   simp only[List.mem_singleton]at h;rw[h];exact hFz
  .rw[kIa];cases hs:s with
   | none=>rw[show zoa [none]=[] from rfl,List.append_nil];exact List.nodup_cons.2 ⟨hb'sub,hnd⟩
   | some t=>
    rw[show zoa [some t]=[t.1] from rfl,List.nodup_cons,List.nodup_append];refine ⟨fun hin=>?_,hnd,by simp,fun q hq q' hq' =>?_⟩
    .rcases List.mem_append.1 hin with h | h
     .exact hb'sub h
     simp only[List.mem_singleton]at h;exact hb's t hs h.symm
    simp only[List.mem_singleton]at hq';subst hq';rintro rfl;exact hdis _ (hsubown _ hq) (hsown t hs)
  .rcases Nat.lt_or_ge i' l.length with h | h
   .rw[List.getElem?_append_left h]at hi';exact (hold i' j' z c hi' hj' (by omega)).mono hx
   rw[List.getElem?_append_right h]at hi';have:i' =l.length:=by have:=(List.getElem?_eq_some_iff.1 hi').1;simp at this;omega
   subst this;rw[Nat.sub_self]at hi';cases hi';exact (hnew j' c hj' (by omega)).mono hx
  have hsame:∀t,s' =some t->t.1 < g.w.heap.size->t.1≠b' ->w'.heap[t.1]? =g.w.heap[t.1]? /\g.u t.1=g.u t.1:=fun t _ h1 h2=>⟨hother t.1 h1 h2,rfl⟩
  rcases Nat.lt_or_ge i' l.length with h | h
  .rw[List.getElem?_append_left h]at hz';rw[List.getElem?_append_left (by omega)]at hs;obtain ⟨rows,q1,q2⟩:=holds i' s' z hs hz';refine ⟨rows,q1,q2.mono hx.to0 fun t ht=>hsame t ht ?_ ?_⟩
   .subst ht;exact hlt _ (hsubown _ (q4a hs))
   subst ht;rintro rfl;exact hb'sub (q4a hs)
  rw[List.getElem?_append_right h]at hz';have:i' =l.length:=by have:=(List.getElem?_eq_some_iff.1 hz').1;simp at this;omega
  subst this;rw[Nat.sub_self]at hz';cases hz';rw[List.getElem?_append_right (by omega),hsl,Nat.sub_self]at hs;cases hs;exact ⟨_,hFj,hnews.mono hx.to0 fun t ht=>hsame t ht (hlt2 _ (hsown t ht)) (hb's t ht)⟩
 refine hst.turn (g' :=g') hr [r2,o] (by simp[hne2,hneo]) (AV.clrs [r,r2,o]) rfl (fun c vx h=>Kga hx (fun q hq=>hk' q (by rintro rfl;simp at hq)) h) hx hk' hos htape hout (fun q hq hno=>⟨hother q hq ?_,rfl⟩) (vZa hst.so.wf hwfs _) hN'.obj (fun q hq=>?_)
 .rintro rfl;rcases hb' with h | h
  .exact hno r _ (.inl rfl) hr h.1
  omega
 rw[hl']at hq;rcases hq with hq | hq
 .cases hq;rcases hb' with h | h
  .exact .inl ⟨r,_,.inl rfl,hr,h.1⟩
  exact .inr h
 have hq:q∈zoa (subs++ [s]):=hq;rw[kIa]at hq;rcases List.mem_append.1 hq with hq | hq
 .exact .inl ⟨r,_,.inl rfl,hr,hsubown q hq⟩
 cases hs:s with
 | none=>rw[hs]at hq;cases hq
 | some t=>
  rw[hs,show zoa [some t]=[t.1] from rfl,List.mem_singleton]at hq;subst hq;exact .inl ⟨r2,_,.inr (by simp),hr2,hsown t hs⟩
theorem Wpa(hN:Nat.ble (k+1) E.N=true)(hx:fr.ev x=.ns r)(hr:σ.get r=some (.nrow e size j e2 size2 m (l.map F)))(hy:fr.ev y=.ls o)(ho:σ.get o=some (.cells cs))(hcs:cs=((F v).map AV.pv).set j (.hs r2 0))(hr2:σ.get r2=some (.row e2 true size2 (l2.map G2)))(hne:(Nat.beq r r2 || Nat.beq r o)=false)
 (hFj:(F v)[j]? =some (.sl none (l2.map G2))) (hm:m=l.length) (ht:TyOk E.P t ss sb sz (.slice e)) (he:TyOk E.P e size bytes zero d)
 (hzz:Nat.beq zero.cells.size size=true) (hs:Nat.ble 1 size=true) (hF:∀x,(F x).length=size) (hlim:(Nat.ble (lim * bytes) 140737488355328 && Nat.ble lim 9223372036854775807)=true) (h:app lim l [v]=some r'):
 OpTo E ⟨some k,.call ⟨.builtin .append, #[x,y], #[t,t]⟩,ty,pos,af,gu⟩ fr σ ((k,.ns r)::fr.mp (AV.clrs [r,r2,o])) (((σ.dels [r2,o]).mp (AV.clrs [r,r2,o])).upd r (.nrow e size j e2 size2 (m+1) (r'.map F))):=
 ⟨fun g a K Q hst hK=>by
  obtain ⟨hle,rfl⟩:=Kba h;subst hm;simp only[Bool.and_eq_true]at hlim;simp only[Bool.or_eq_false_iff]at hne;have hne2:r≠r2:=by rintro rfl;simp at hne
  have hneo:r≠o:=by rintro rfl;simp at hne
  have hl1:=Nat.le_of_ble_eq_true hlim.1;have hl2:=Nat.le_of_ble_eq_true hlim.2;have hzz:=Nat.eq_of_beq_eq_true hzz;have hs:=Nat.le_of_ble_eq_true hs;simp only[List.length_singleton]at hle;refine ⟨fun _ _=>trivial,?_⟩;rw[Oper.semAt_plain _ _ _ (fun c=>by simp)];have h1:=hst.ev x;rw[hx]at h1;have h2:=hst.ev y;rw[hy]at h2;have hoo:=hst.so.obj o _ ho;have hlb:(l.length+1) * bytes<=140737488355328:=Nat.le_trans (Nat.mul_le_mul_right _ hle) hl1;generalize ev2:a.eval y=v2 at h2;cases hoo with
  | @cells _ b0 t0 vs0 q1 q2 q3 q4 q5 q6=>
  cases h2 with
  | ls p1=>
  rw[q1]at p1;cases p1;have hsz0:vs0.size=size:=by rw[q3,hcs];simp[hF]
  have hjs:j < size:=by rw[<-hF v];exact (List.getElem?_eq_some_iff.1 hFj).1
  have hnl:vs0.toList.length=1 * size:=by simp[hsz0]
  have hcells:∀q u,vs0.toList[q]? =some u->g.w.cell? (Addr.add ⟨b0,0,none⟩ q)=some u:=by
   intro q u hq;have hlt:q < vs0.size:=by simpa using (List.getElem?_eq_some_iff.1 hq).1
   rw[kxa,Nat.zero_add,kga q2 hlt];rw[Array.getD_eq_getD_getElem?,<-Array.getElem?_toList,hq];rfl
  have hone:=yMa q5;have hval:∀j' c,(F v)[j']? =some c->j' ≠j->RelP g.w g.u c (vs0.getD j' undef):=by
   intro j' c hc hne;have:=q6 j' (.pv c) (by rw[hcs,List.getElem?_set_ne (Ne.symm hne)];simp[hc]);cases this with
   | pv h=>exact h
  have hsv:Rel g (.hs r2 0) (vs0.getD j undef):=q6 j _ (by rw[hcs,List.getElem?_set_self (by simp[hF];exact hjs)]);obtain ⟨s,hS,hSown⟩:=QIa (hst.so.obj r2 _ hr2) hsv;obtain ⟨old,ev1,hold,hsubs⟩:∃old:Option Addr × Option (Nat × Nat × Nat × Array Value),a.eval x=oldV l.length old/\Jva g.w e size l.length old/\
   ((old.2=none/\g.loc r=.nilRow/\l=[])∨∃b off cap cur subs,old.2=some (b,off,cap,cur)/\NAt g r e size j e2 size2 l.length F l b off cap cur subs):=by
   rcases z9b (hst.so.obj r _ hr) with ⟨hl,rfl,_⟩ | ⟨b,off,cap,cur,subs,hNA⟩
   .generalize a.eval x=vx at h1;cases h1 with
    | nsNil ad h1=>exact ⟨(ad,none),rfl,rfl,.inl ⟨rfl,hl,rfl⟩⟩
    | ns h1=>rw[hl]at h1;cases h1
   generalize a.eval x=vx at h1;cases h1 with
   | nsNil ad h1=>rw[hNA.loc]at h1;cases h1
   | @ns _ _ _ _ _ _ _ _ ad h1 ha=>
    rw[hNA.loc]at h1;cases h1;exact ⟨(some ad,some (b,off,cap,cur)),rfl,⟨hNA.heap,hNA.sz,hNA.le,hNA.max,ad,rfl,ha⟩,.inr ⟨b,off,cap,cur,subs,rfl,hNA⟩⟩
  obtain ⟨v',w',hrun,hres⟩:=yba (ty:=ty) (c:=1) (m:=1) ht he hzz (by omega) hold hnl hcells hone hlb (by unfold maxLen;omega);rw[kya (x:=x) (y:=y) (w:=g.w) (by rw[ev1,ev2];exact hrun),Oper.uponIn_value];have hnewget:∀q,q < size->∀(nw:Array Value) (p:Nat),(∀q,q < vs0.toList.length->nw.getD (p+q) undef=vs0.toList.getD q undef)->nw.getD (p+q) undef=vs0.getD q undef:=by
   intro q hq nw p hh;rw[hh q (by rw[hnl];omega),List.getD_eq_getElem?_getD,Array.getElem?_toList,Array.getD_eq_getD_getElem?]
  cases hres with
  | same hm _ _=>omega
  | @room a0 b off cap cur ho2 hle2 _=>
   subst ho2;rcases hsubs with ⟨h3,_⟩ | ⟨b',off',cap',cur',subs,h3,hNA⟩
   .cases h3
   cases h3;have hfit:(off+l.length) * size+vs0.toList.length<=cur.size:=by rw[hnl,hNA.sz,<-Nat.add_mul];exact Nat.mul_le_mul_right _ (by omega)
   have hW:=Woa (w:=g.w) (p:=(off+l.length) * size) (cl:=vs0.toList) hNA.heap hfit;have hxx:=hW.ext (u:=g.u) hNA.heap hNA.u;have hkeep:∀i q,i < l.length->q < size->(cur.toList.take ((off+l.length) * size)++vs0.toList++cur.toList.drop ((off+l.length) * size+vs0.toList.length)).toArray.getD ((off+i) * size+q) undef=cur.getD ((off+i) * size+q) undef:=fun i q hi hq=>hW.out _ (.inl (by
    have:(off+i+1) * size<=(off+l.length) * size:=Nat.mul_le_mul_right _ (by omega);rw[Nat.add_mul (off+i)]at this;omega))
   have hst' :=KIa (v:=v) (o:=o) (cs:=cs) (w' :=g.w.setRow b _) (b' :=b) (off' :=off) (cap' :=cap) (s:=s) (subs:=subs) hst hr hr2 ho hne2 hneo (.inr ⟨_,_,_,_,hNA.loc⟩) hNA.sl hNA.z (hF v) hFj hW.os hW.tape hW.output hxx hW.here (fun q _ hq=>hW.other q hq) (.inl ⟨by rw[hNA.loc];exact .inl rfl,(List.nodup_cons.1 hNA.nd).1⟩) hNA.u (hW.sz.trans hNA.sz) hNA.max hle2 (Nat.le_of_eq hW.size.symm)
    (fun i j' x c hi hj hc=>by rw[hkeep i j' (List.getElem?_eq_some_iff.1 hi).1 (by rw[<-hF x];exact (List.getElem?_eq_some_iff.1 hj).1)];exact hNA.cell i j' x c hi hj hc)
    (fun i s x hi hx=>by rw[hkeep i j (List.getElem?_eq_some_iff.1 hx).1 hjs];exact hNA.sub i s x hi hx)
    (fun j' c hc hne=>by rw[hnewget j' (by rw[<-hF v];exact (List.getElem?_eq_some_iff.1 hc).1) _ _ hW.inn];exact hval j' c hc hne)
    (by rw[hnewget j hjs _ _ hW.inn];exact hS) hSown (List.nodup_cons.1 hNA.nd).2
   refine hK _ _ (hst'.put (Nat.le_of_ble_eq_true hN) ?_);have:=Rel.ns (g:=⟨g.w.setRow b (cur.toList.take ((off+l.length) * size)++vs0.toList++cur.toList.drop ((off+l.length) * size+vs0.toList.length)).toArray,g.u,fun q=>if q=r then .nest b off cap size (l++ [v]).length size2 (subs++ [s]) else g.loc q⟩) (r:=r) (a:=⟨b,off * size,none⟩) (if_pos rfl) (fun _=>rfl);simpa using this
  | @fresh cap cells hc hle2 hmx htk=>
   have hb0:(g.w.drew.alloc (.cells cells e)).heap[g.w.heap.size]? =some (.cells cells e (0,0)):=heap_alloc_new g.w.drew _;have hxx:Ext g.w g.u (g.w.drew.alloc (.cells cells e)) g.u:=⟨by simp,fun _ _=>Nat.le_refl _,fun q i hq _=>by
    simp only[World.cell?];rw[show (g.w.drew.alloc (.cells cells e)).heap[q]? =g.w.heap[q]? from Below.heap_alloc g.w.drew _ _ hq],fun r' hr' =>(Below.heap_alloc g.w.drew _ _ (kia hr')).trans hr'⟩
   have hplen:(wma size (l.length * size) old).length=l.length * size:=by
    obtain ⟨a0,old⟩:=old;rcases hsubs with ⟨h3,_,rfl⟩ | ⟨b,off,cap0,cur,subs,h3,hNA⟩
    .dsimp only at h3;subst h3;simp[wma]
    dsimp only at h3;subst h3;simp only[wma,List.length_take,List.length_drop,Array.length_toList,hNA.sz];rw[Nat.add_mul,Nat.add_sub_cancel_left];exact Nat.min_eq_left (Nat.mul_le_mul_right _ hNA.le)
   have hgetc:∀q,q < (l.length+1) * size->cells.getD q undef=(wma size (l.length * size) old++vs0.toList).getD q undef:=by
    intro q hq;rw[Array.getD_eq_getD_getElem?,<-Array.getElem?_toList,List.getD_eq_getElem?_getD,<-htk,List.getElem?_take_of_lt hq]
   have hgnew:∀q,q < size->cells.getD ((0+l.length) * size+q) undef=vs0.getD q undef:=by
    intro q hq;rw[Nat.zero_add,hgetc _ (by rw[Nat.add_mul];omega),List.getD_eq_getElem?_getD,List.getElem?_append_right (by omega),hplen,Nat.add_sub_cancel_left,Array.getElem?_toList,Array.getD_eq_getD_getElem?]
   obtain ⟨subs,hs0,hsl,hz,hol,hsu,hnd⟩:∃subs,((g.loc r=.nilRow/\l=[]/\subs=[])∨∃b off cap n,g.loc r=.nest b off cap size n size2 subs)/\subs.length=l.length/\(∀x∈l,(F x).length=size)/\
    (∀i j' x c,l[i]? =some x->(F x)[j']? =some c->(l.length<=i∨j' ≠j)->RelP g.w g.u c (cells.getD ((0+i) * size+j') undef))/\(∀i s x,subs[i]? =some s->l[i]? =some x->∃rows,(F x)[j]? =some (.sl none rows)/\jWa g.w g.u e2 size2 rows s (cells.getD ((0+i) * size+j) undef))/\(zoa subs).Nodup:=by
    obtain ⟨a0,old⟩:=old;rcases hsubs with ⟨h3,h4,rfl⟩ | ⟨b,off,cap0,cur,subs,h3,hNA⟩
    .exact ⟨[],.inl ⟨h4,rfl,rfl⟩,rfl,fun x hx=>(by cases hx),fun i j' x c hi=>(by simp at hi),fun i s x hi=>(by simp at hi),List.nodup_nil⟩
    dsimp only at h3;subst h3;have hkeep:∀i q,i < l.length->q < size->cells.getD ((0+i) * size+q) undef=cur.getD ((off+i) * size+q) undef:=by
     intro i q hi hq;have h5:i * size+q < l.length * size:=by
      have:(i+1) * size<=l.length * size:=Nat.mul_le_mul_right _ hi;rw[Nat.add_mul]at this;omega
     rw[Nat.zero_add,hgetc _ (by rw[Nat.add_mul];omega),List.getD_eq_getElem?_getD,List.getElem?_append_left (by omega)];simp only[wma];rw[List.getElem?_take_of_lt h5,List.getElem?_drop,Array.getElem?_toList,Array.getD_eq_getD_getElem?]
     congr 2
     rw[Nat.add_mul];omega
    exact ⟨subs,.inr ⟨_,_,_,_,hNA.loc⟩,hNA.sl,hNA.z,fun i j' x c hi hj hc=>by rw[hkeep i j' (List.getElem?_eq_some_iff.1 hi).1 (by rw[<-hF x];exact (List.getElem?_eq_some_iff.1 hj).1)];exact hNA.cell i j' x c hi hj hc,
     fun i s x hi hx=>by rw[hkeep i j (List.getElem?_eq_some_iff.1 hx).1 hjs];exact hNA.sub i s x hi hx,(List.nodup_cons.1 hNA.nd).2⟩
   have hst' :=KIa (v:=v) (o:=o) (cs:=cs) (w' :=g.w.drew.alloc (.cells cells e)) (b' :=g.w.heap.size) (off' :=0) (cap' :=cap) (s:=s) (subs:=subs) hst hr hr2 ho hne2 hneo hs0 hsl hz (hF v) hFj rfl rfl rfl hxx hb0 (fun q hq _=>Below.heap_alloc g.w.drew _ _ hq) (.inr (Nat.le_refl _)) (hst.so.wf _ (Nat.le_refl _)) (by rw[Nat.zero_add];exact hc) hmx hle2 hxx.size hol hsu
    (fun j' c hc hne=>by rw[hgnew j' (by rw[<-hF v];exact (List.getElem?_eq_some_iff.1 hc).1)];exact hval j' c hc hne) (by rw[hgnew j hjs];exact hS) hSown hnd
   refine hK _ _ (hst'.put (Nat.le_of_ble_eq_true hN) ?_);have:=Rel.ns (g:=⟨g.w.drew.alloc (.cells cells e),g.u,fun q=>if q=r then .nest g.w.heap.size 0 cap size (l++ [v]).length size2 (subs++ [s]) else g.loc q⟩) (r:=r) (a:=⟨g.w.heap.size,0,none⟩) (if_pos rfl) (fun _=>by simp);simpa using this⟩
end
end
section
open Go.RowKit Go.Lib Go.Proofs.Tryz
variable {E:Env} {fr:Fr} {σ:Sto} {K:Post}
theorem St.split{g g' :G}{a:Act}(h:St E g a fr σ){r r1:Nat}{ob0 ob ob1:AO}(hr:σ.get r=some ob0)(hf1:fr.has r1=false)(hs1:σ.has r1=false)(hg1:σ.get r1=none)(hw:g'.w=g.w)(hu:g'.u=g.u)(hl:∀k,k≠r->k≠r1->g'.loc k=g.loc k)(hle:Qca (g.loc r) (g'.loc r))
 (hok:ob0.has r1=false) (hob:RelO g' r ob) (hob1:RelO g' r1 ob1) (hsub:∀b,ob.own (g'.loc r) b->ob0.own (g.loc r) b) (hsub1:∀b,ob1.own (g'.loc r1) b->ob0.own (g.loc r) b) (hdis:∀b,ob.own (g'.loc r) b->¬ob1.own (g'.loc r1) b)
 (hhas:∀o ob2,o≠r->σ.get o=some ob2->ob2.has r=true->∃cs,ob2=.cells cs∨∃c v,ob2=.hold c v):St E g' a fr ((r1,ob1)::σ.upd r ob):=by
 have hne:r≠r1:=by rintro rfl;rw[hr]at hg1;cases hg1
 have hx:Ext g.w g.u g'.w g'.u:=by rw[hw,hu];exact Ext.refl _ _
 have hrel:∀c v,c.has r1=false->Rel g c v->Rel g' c v:=fun c v hc hv=>hv.more hx fun o ho=>by
  by_cases h1:o=r
  .subst h1;exact hle
  by_cases h2:o=r1
  .subst h2;rw[hc]at ho;cases ho
  exact .inl (hl o h1 h2)
 have hgu:=Sto.get_upd (ob:=ob) hr;have hget:∀o ob',Sto.get ((r1,ob1)::σ.upd r ob) o=some ob' ->(o=r1/\ob' =ob1)∨(o=r/\ob' =ob)∨(o≠r/\o≠r1/\σ.get o=some ob'):=by
  intro o ob' ho;rw[Sto.get_cons]at ho;split at ho
  .rename_i h1;cases ho;exact .inl ⟨h1.symm,rfl⟩
  rename_i h1;rw[hgu]at ho;split at ho
  .rename_i h2;cases ho;exact .inr (.inl ⟨h2,rfl⟩)
  rename_i h2;exact .inr (.inr ⟨h2,Ne.symm h1,ho⟩)
 refine ⟨fun d=>hrel _ _ ?_ (h.fr d),h.n,by rw[hw];exact h.df,⟨?_,?_,?_,?_,fun k hk=>by rw[hu];exact h.so.wf k (by rw[<-hw];exact hk)⟩⟩
 .cases hh:(fr.get d).has r1 with
  | false=>rfl
  | true=>rw[Fr.has_get hh]at hf1;cases hf1
 .intro o ob' ho;rcases hget o ob' ho with ⟨rfl,rfl⟩ | ⟨rfl,rfl⟩ | ⟨h1,h2,ho⟩
  .exact hob1
  .exact hob
  have hro:=h.so.obj o ob' ho;have hn:ob'.has r1=false:=by
   cases hh:ob'.has r1 with
   | false=>rfl
   | true=>rw[Sto.has_get ho hh]at hs1;cases hs1
  cases ob' with
  | cells cs=>
   cases hro with
   | @cells _ b t vs q1 q2 q3 q4 q5 q6=>
    refine .cells ((hl o h1 h2).trans q1) (by rw[hw];exact q2) q3 (by rw[hu];exact q4) q5 fun i c hi=>hrel c _ ?_ (q6 i c hi)
    cases hh:c.has r1 with
    | false=>rfl
    | true=>rw[show (AO.cells cs).has r1=AV.hasL r1 cs from rfl,AV.hasL_of hi hh]at hn;cases hn
  | hold c v=>cases hro with
   | hold q1=>exact .hold (hrel c _ hn q1)
  | _=>exact hro.mono hx (hl o h1 h2) (fun _ hk=>by cases hk) fun b _=>by rw[hw,hu];exact ⟨rfl,rfl⟩
 .intro o o' oa ob' b h1 h2 h3 h4;rcases hget o oa h1 with ⟨rfl,rfl⟩ | ⟨rfl,rfl⟩ | ⟨p1,p2,p3⟩ <;> rcases hget o' ob' h2 with ⟨rfl,rfl⟩ | ⟨rfl,rfl⟩ | ⟨q1,q2,q3⟩
  .rfl
  .exact absurd h3 (hdis b h4)
  .rw[hl o' q1 q2]at h4;exact absurd (h.so.apart r o' _ _ b hr q3 (hsub1 b h3) h4) (Ne.symm q1)
  .exact absurd h4 (hdis b h3)
  .rfl
  .rw[hl o' q1 q2]at h4;exact absurd (h.so.apart o o' _ _ b hr q3 (hsub b h3) h4) (Ne.symm q1)
  .rw[hl o p1 p2]at h3;exact absurd (h.so.apart o r _ _ b p3 hr h3 (hsub1 b h4)) p1
  .rw[hl o p1 p2]at h3;exact absurd (h.so.apart o o' _ _ b p3 hr h3 (hsub b h4)) p1
  rw[hl o p1 p2]at h3;rw[hl o' q1 q2]at h4;exact h.so.apart o o' _ _ b p3 q3 h3 h4
 .intro o oa b h1 h2;rcases hget o oa h1 with ⟨rfl,rfl⟩ | ⟨rfl,rfl⟩ | ⟨p1,p2,p3⟩
  .exact h.so.mine r _ b hr (hsub1 b h2)
  .exact h.so.mine o _ b hr (hsub b h2)
  rw[hl o p1 p2]at h2;exact h.so.mine o _ b p3 h2
 exact ⟨by rw[hw];exact h.so.old.os,by rw[hw];exact h.so.old.tape,by rw[hw];exact h.so.old.output,h.so.old.ext.trans hx,fun b hb hs=>by rw[hw,hu];exact h.so.old.block b hb hs⟩
section
variable {κ β:Type} [BEq κ] [LawfulBEq κ] {KK:KeyK κ} {G2:β->List PV} {P:Program} {ρ:Operand->AV} {t kt e e1:TypeId} {m x y:Operand} {o r size sz1 bytes k0:Nat} {d:TypeDesc} {es:List (κ × List β)} {k:κ} {l:List β}
variable {dst:Option Tmp} {ty:TypeId} {pos:String} {af:Array Edge} {gu:Option (Nat × Bool)}
abbrev wta(KK:KeyK κ)(G2:β->List PV)(es:List (κ × List β)):List (Value × List (List PV)):=es.map fun p=>(KK.kf p.1,p.2.map G2)
structure MAt (g:G) (o:Nat) (e:TypeId) (size:Nat) (tk:Option Nat) (KK:KeyK κ) (G2:β->List PV) (es:List (κ × List β)) (b clock:Nat) (ents:Array MapEntry) (subs:List (Option (Nat × Nat × Nat × Nat))):Prop where
 loc:g.loc o=.mapr b subs
 heap:g.w.heap[b]? =some (.map ents clock)
 u:g.u b=0
 n:ents.size=es.length
 sl:subs.length=es.length
 nd:(b::zoa subs).Nodup
 key:∀(i:Nat) p x,es[i]? =some p->ents[i]? =some x->x.key=KK.kf p.1
 cv:∀(i:Nat) x,ents[i]? =some x->cellV x.val=true
 ent:∀(i:Nat) p x,es[i]? =some p->ents[i]? =some x->(tk=some i/\subs[i]? =some none∨tk≠some i/\∃s,subs[i]? =some (some s)/\wha g.w g.u e false size (p.2.map G2) s x.val)
theorem Jca{g:G}{tk:Option Nat}(h:RelO g o (.mapr e1 size tk (wta KK G2 es))):∃b clock ents subs,MAt g o e1 size tk KK G2 es b clock ents subs:=by
 generalize hes:wta KK G2 es=ms at h;cases h with
 | @mapr _ _ _ _ b clock ents subs h1 h2 h3 h4 h5 h6 h7=>
  subst hes;have hlen:ents.size=es.length:=by simpa[wta]using h4
  have key:∀(i:Nat) p x,es[i]? =some p->ents[i]? =some x->x.key=KK.kf p.1/\cellV x.val=true/\(tk=some i/\subs[i]? =some none∨tk≠some i/\∃s,subs[i]? =some (some s)/\wha g.w g.u e1 false size (p.2.map G2) s x.val):=by
   intro i p x hp hx;obtain ⟨x',q1,q2,q3,q4⟩:=h7 i (KK.kf p.1) (p.2.map G2) (by simp[wta,hp]);rw[hx]at q1;cases q1;exact ⟨q2,q3,q4⟩
  refine ⟨b,clock,ents,subs,h1,h2,h3,hlen,by simpa[wta]using h5,h6,fun i p x hp hx=>(key i p x hp hx).1,fun i x hx=>?_,fun i p x hp hx=>(key i p x hp hx).2.2⟩;have hlt:i < es.length:=by have:=(Array.getElem?_eq_some_iff.1 hx).1;omega
  exact (key i _ x (List.getElem?_eq_getElem hlt) hx).2.1
theorem MAt.obj{g:G}{tk:Option Nat}{b clock:Nat}{ents:Array MapEntry}{subs:List (Option (Nat × Nat × Nat × Nat))}(h:MAt g o e1 size tk KK G2 es b clock ents subs):RelO g o (.mapr e1 size tk (wta KK G2 es)):=
 .mapr h.loc h.heap h.u (by simpa[wta]using h.n) (by simpa[wta]using h.sl) h.nd fun i k' rows hi=>by
  simp only[wta,List.getElem?_map,Option.map_eq_some_iff,Prod.mk.injEq]at hi;obtain ⟨p,hp,rfl,rfl⟩:=hi;have hlt:i < ents.size:=by rw[h.n];exact (List.getElem?_eq_some_iff.1 hp).1
  have hx:=Array.getElem?_eq_getElem hlt;exact ⟨_,hx,h.key i p _ hp hx,h.cv i _ hx,h.ent i p _ hp hx⟩
def jJa:Loc->Loc
 | .map b=>.mapr b []
 | l=>l
def AV.mrs(o:Nat):AV->AV
 | .mp x=>bif Nat.beq x o then .mr o else .mp x
 | c=>bif c.has o then .any else c
theorem rel_mrs{g g' :G}(hx:Ext g.w g.u g'.w g'.u)(hk:∀k,k≠o->g'.loc k=g.loc k)(hl:g'.loc o=jJa (g.loc o)){c:AV}{v:Value}(h:Rel g c v):Rel g' (c.mrs o) v:=by
 cases c
 case mp x=>
  cases hb:Nat.beq x o with
  | true=>
   rw[show AV.mrs o (.mp x)=.mr o by show (bif Nat.beq x o then AV.mr o else AV.mp x)=_;rw[hb];rfl];have:x=o:=Nat.eq_of_beq_eq_true hb;subst this;cases h with
   | mp h1=>exact .mr (subs:=[]) (by rw[hl,h1];rfl)
  | false=>
   rw[show AV.mrs o (.mp x)=.mp x by show (bif Nat.beq x o then AV.mr o else AV.mp x)=_;rw[hb];rfl];have hne:x≠o:=by rintro rfl;simp at hb
   exact h.mono hx fun k hk' =>hk k (by have:=Nat.eq_of_beq_eq_true (show Nat.beq x k=true from hk');subst this;exact hne)
 all_goals exact jea hx hk h
theorem St.mapr{g:G}{a:Act}(h:St E g a fr σ)(ho:σ.get o=some (.mapo false []))(e:TypeId)(size:Nat):
 St E ⟨g.w,g.u,fun k=>if k=o then jJa (g.loc o) else g.loc k⟩ a (fr.mp (AV.on (AV.mrs o))) (((σ.dels []).mp (AV.on (AV.mrs o))).upd o (.mapr e size none [])):=by
 have hl:(⟨g.w,g.u,fun k=>if k=o then jJa (g.loc o) else g.loc k⟩:G).loc o=jJa (g.loc o):=if_pos rfl;have hob:=h.so.obj o _ ho;generalize hms:([]:List (Value × List PV))=ms at hob;cases hob with
 | @mapo _ _ b clock ents h1 h2 h3 h4 h5=>
  subst hms;refine h.turn (g' :=⟨g.w,g.u,fun k=>if k=o then jJa (g.loc o) else g.loc k⟩) ho [] (by simp) _ rfl (fun c v=>Jba fun c v=>rel_mrs (g:=g) (g' :=⟨g.w,g.u,fun k=>if k=o then jJa (g.loc o) else g.loc k⟩) (Ext.refl _ _) (fun k hk=>if_neg hk) hl) (Ext.refl _ _) (fun k hk=>if_neg hk) rfl rfl rfl (fun _ _ _=>⟨rfl,rfl⟩) h.so.wf ?_ (fun q hq=>.inl ⟨o,_,.inl rfl,ho,?_⟩)
  .exact .mapr (subs:=[]) (by rw[hl,h1];rfl) h2 h3 h4 rfl (by simp[zoa]) (fun i k rows hi=>by simp at hi)
  rw[hl,h1]at hq;rw[h1];rcases hq with hq | hq
  .exact hq
  cases hq
theorem keb{ops:Array Oper}{ol:List Oper}(o:Nat)(e:TypeId)(size:Nat)(ho:σ.get o=some (.mapo false []))
 (h:AWPL E ops ol (fr.mp (AV.on (AV.mrs o))) (((σ.dels []).mp (AV.on (AV.mrs o))).upd o (.mapr e size none [])) K):AWPL E ops ol fr σ K:=
 ⟨fun g a hst=>h.go ⟨g.w,g.u,fun k=>if k=o then jJa (g.loc o) else g.loc k⟩ a (hst.mapr ho e size)⟩
def vSa:Loc->Loc
 | .mapr b _=>.map b
 | l=>l
def Qda(size:Nat):Loc->(Nat->Nat)->Nat->Nat
 | .mapr _ subs,u=>pubU size subs u
 | _,u=>u
def AV.dmrs(o:Nat):AV->AV
 | .mr x=>bif Nat.beq x o then .mp o else .mr x
 | c=>bif c.has o then .any else c
theorem rel_dmrs{g g' :G}(hx:Ext g.w g.u g'.w g'.u)(hk:∀k,k≠o->g'.loc k=g.loc k)(hl:g'.loc o=vSa (g.loc o)){c:AV}{v:Value}(h:Rel g c v):Rel g' (c.dmrs o) v:=by
 cases c
 case mr x=>
  cases hb:Nat.beq x o with
  | true=>
   rw[show AV.dmrs o (.mr x)=.mp o by show (bif Nat.beq x o then AV.mp o else AV.mr x)=_;rw[hb];rfl];have:x=o:=Nat.eq_of_beq_eq_true hb;subst this;cases h with
   | mr h1=>exact .mp (by rw[hl,h1];rfl)
  | false=>
   rw[show AV.dmrs o (.mr x)=.mr x by show (bif Nat.beq x o then AV.mp o else AV.mr x)=_;rw[hb];rfl];have hne:x≠o:=by rintro rfl;simp at hb
   exact h.mono hx fun k hk' =>hk k (by have:=Nat.eq_of_beq_eq_true (show Nat.beq x k=true from hk');subst this;exact hne)
 all_goals exact jea hx hk h
theorem St.demapr{g:G}{a:Act}(h:St E g a fr σ)(ho:σ.get o=some (.mapr e1 size none (wta KK G2 es))):
 St E ⟨g.w,Qda size (g.loc o) g.u,fun k=>if k=o then vSa (g.loc o) else g.loc k⟩ a (fr.mp (AV.on (AV.dmrs o))) (((σ.dels []).mp (AV.on (AV.dmrs o))).upd o (.mapo false (menc KK (cL G2) es))):=by
 have hl:(⟨g.w,Qda size (g.loc o) g.u,fun k=>if k=o then vSa (g.loc o) else g.loc k⟩:G).loc o=vSa (g.loc o):=if_pos rfl;have hob:=h.so.obj o _ ho;obtain ⟨b,clock,ents,subs,hM⟩:=Jca hob;have hlt:∀q,(AO.mapr e1 size none (wta KK G2 es)).own (g.loc o) q->q < g.w.heap.size:=fun q hq=>hob.block_lt hq
 have hu0:∀q,q ∉ zoa subs->Qda size (g.loc o) g.u q=g.u q:=by
  intro q hq;rw[hM.loc];exact Kha hq
 have hrow:∀(i:Nat) (s:Nat × Nat × Nat × Nat),subs[i]? =some (some s)->∃(p:κ × List β) (x:MapEntry),es[i]? =some p/\ents[i]? =some x/\wha g.w g.u e1 false size (p.2.map G2) s x.val:=by
  intro i s hs;have hi:=(List.getElem?_eq_some_iff.1 hs).1;have h1:i < es.length:=by rw[<-hM.sl];exact hi
  have h2:i < ents.size:=by rw[hM.n];exact h1
  rcases hM.ent i _ _ (List.getElem?_eq_getElem h1) (Array.getElem?_eq_getElem h2) with ⟨q,_⟩ | ⟨_,s',q1,q2⟩
  .cases q
  rw[hs]at q1;cases q1;exact ⟨_,_,List.getElem?_eq_getElem h1,Array.getElem?_eq_getElem h2,q2⟩
 have hx:Ext g.w g.u g.w (Qda size (g.loc o) g.u):=⟨Nat.le_refl _,fun q hq=>by
  by_cases hin:q∈zoa subs
  .rw[hM.loc];obtain ⟨s,hs,hsb⟩:=List.mem_filterMap.1 hin;cases s with
   | none=>cases hsb
   | some s=>
    cases hsb;obtain ⟨i,hi,hii⟩:=List.getElem_of_mem hs;have hi' :subs[i]? =some (some s):=by rw[List.getElem?_eq_getElem hi,hii]
    obtain ⟨p,x,_,_,hR⟩:=hrow i s hi';show _<=pubU size subs g.u s.1;rw[ZDa (List.nodup_cons.1 hM.nd).2 hi'];exact hR.hu
  rw[hu0 q hin];exact Nat.le_refl _,fun _ _ _ _=>rfl,fun _ h=>h⟩
 refine h.turn (g' :=⟨g.w,Qda size (g.loc o) g.u,fun k=>if k=o then vSa (g.loc o) else g.loc k⟩) ho [] (by simp) _ rfl (fun c v=>Jba fun c v=>rel_dmrs (g:=g) (g' :=⟨g.w,Qda size (g.loc o) g.u,fun k=>if k=o then vSa (g.loc o) else g.loc k⟩) hx (fun k hk=>if_neg hk) hl) hx (fun k hk=>if_neg hk) rfl rfl rfl (fun q hq hn=>⟨rfl,hu0 q fun hin=>hn o _ (.inl rfl) ho (by rw[hM.loc];exact .inr hin)⟩) (fun q hq=>?_) ?_ (fun q hq=>.inl ⟨o,_,.inl rfl,ho,?_⟩)
 .show Qda size (g.loc o) g.u q=0;rw[hu0 q fun hin=>by have:=hlt q (by rw[hM.loc];exact .inr hin);exact absurd hq (by show ¬g.w.heap.size<=q;omega)];exact h.so.wf q hq
 .refine .mapo (by rw[hl,hM.loc];rfl) hM.heap ?_ (by simpa[menc]using hM.n) (fun i k' c hi=>?_)
  .show Qda size (g.loc o) g.u b=0;rw[hu0 b (List.nodup_cons.1 hM.nd).1];exact hM.u
  simp only[menc,List.getElem?_map,Option.map_eq_some_iff,Prod.mk.injEq]at hi;obtain ⟨p,hp,rfl,rfl⟩:=hi;have hie:=(List.getElem?_eq_some_iff.1 hp).1;have h2:i < ents.size:=by rw[hM.n];exact hie
  have hxx:=Array.getElem?_eq_getElem h2;refine ⟨_,hxx,hM.key i p _ hp hxx,?_⟩;rcases hM.ent i p _ hp hxx with ⟨q,_⟩ | ⟨_,s,q1,q2⟩
  .cases q
  refine ⟨.sl none (p.2.map G2),rfl,q2.pub hx.to0 ?_⟩;show _<=Qda size (g.loc o) g.u s.1;rw[hM.loc];exact Nat.le_of_eq (ZDa (off:=s.2.1) (cap:=s.2.2.1) (n:=s.2.2.2) (List.nodup_cons.1 hM.nd).2 q1).symm
 have hq2:(vSa (g.loc o)).block=some q:=by rw[<-hl];exact hq
 clear hq;rw[hM.loc]at hq2 ⊢;exact .inl hq2
theorem JWa{c:Code}(o:Nat)(ho:σ.get o=some (.mapr e1 size none (wta KK G2 es)))
 (h:AWP E c (fr.mp (AV.on (AV.dmrs o))) (((σ.dels []).mp (AV.on (AV.dmrs o))).upd o (.mapo false (menc KK (cL G2) es))) K):AWP E c fr σ K:=
 ⟨fun g a hst=>h.go ⟨g.w,Qda size (g.loc o) g.u,fun k=>if k=o then vSa (g.loc o) else g.loc k⟩ a (hst.demapr ho)⟩
theorem KJa{g:G}{b clock:Nat}{ents:Array MapEntry}{subs:List (Option (Nat × Nat × Nat × Nat))}{tk:Option Nat}{d:TypeDesc}(hM:MAt g o e1 size tk KK G2 es b clock ents subs){vm:Value}(hm:Rel g (.mr o) vm)(ht:P.underlying t=some (.map kt e))(hkt:KK.ok P kt)(he:TyOk P e sz1 bytes (.slice none 0 0) d):
 (Instr.lookup t vm (KK.kf k) false).run P g.w=.ok (match mpos es k with | some i=>(ents[i]?.map (·.val)).getD undef | none=>.slice none 0 0) g.w:=by
 cases hm with
 | mr hl=>
  rw[hM.loc]at hl;cases hl;have hf:=woa (P:=P) (w:=g.w) (k:=k) hkt hM.n hM.key;have hc:=KK.check (P:=P) hkt g.w k ents.isEmpty;cases hp:mpos es k with
  | none=>
   rw[hp]at hf;simp only[Option.bind_none]at hf;simp[Instr.lookup,run_underlying ht,MapKept.run_getObj_map hM.heap,hc,hf,he.zeroValue,Result.andThen]
  | some i=>
   obtain ⟨p,hp1,hp2⟩:=Zya hp;have hi:i < ents.size:=by rw[hM.n];exact (List.getElem?_eq_some_iff.1 hp1).1
   rw[hp]at hf;simp only[Option.bind_some,Array.getElem?_eq_getElem hi,Option.map_some]at hf;simp[Instr.lookup,run_underlying ht,MapKept.run_getObj_map hM.heap,hc,hf,hi,Result.andThen]
theorem ev_mrnn(hm:ρ m=.mr o)(ho:σ.get o=some (.mapr e1 size none (wta KK G2 es)))(hx:Yja (ρ x)=some (KK.kf k))(ht:P.underlying t=some (.map kt e))(hkt:KK.ok P kt)(he:TyOk P e sz1 bytes (.slice none 0 0) d):
 EvQ P ⟨dst,.lookup t m x false,ty,pos,af,gu⟩ ρ σ (.nn (mpos es k).isNone):=
 ⟨fun c=>by simp,fun g ρv h hs=>by
  obtain ⟨h1,h2⟩:=ops2 (o:=⟨dst,.lookup t m x false,ty,pos,af,gu⟩) (x:=m) (y:=x) rfl h;rw[hm]at h1;have e2:=Kxa h2 hx;obtain ⟨b,clock,ents,subs,hM⟩:=Jca (hs o _ ho);have hr:=KJa (P:=P) (t:=t) (k:=k) hM h1 ht hkt he;refine ⟨_,by
   show Sem.run P (do let v <-Instr.lookup t (ρv m) (ρv x) false;pure (Next.value v)) g.w=_;rw[e2,Sem.run_bind,hr];rfl,?_⟩
  cases hp:mpos es k with
  | none=>exact .nn rfl
  | some i=>
   obtain ⟨p,hp1,hp2⟩:=Zya hp;have hi:i < ents.size:=by rw[hM.n];exact (List.getElem?_eq_some_iff.1 hp1).1
   have hxx:=Array.getElem?_eq_getElem hi;rcases hM.ent i p _ hp1 hxx with ⟨q,_⟩ | ⟨_,s,q1,q2⟩
   .cases q
   simp only[hxx,Option.map_some,Option.getD_some];rw[q2.val];exact .nn rfl⟩
theorem ev_nnil{b:Bool}{t' :TypeId}{ss sb:Nat}{sz:Value}(ne:Bool)(hx:ρ x=.nn b)(hy:ρ (.const (.slice none 0 0))=.pv (.sl (some true) []))(ht:TyOk P t ss sb sz (.slice e)):EvQ P ⟨dst,.binOp (if ne then .neq else .eql) t x (.const (.slice none 0 0)) t',ty,pos,af,gu⟩ ρ σ (.bo (if ne then !b else b)):=
 zHb ne hx (fun g v h=>by cases h with | nn h=>exact ⟨_,_,_,rfl,h⟩) hy ht
theorem YCa(r:Nat)(hN:Nat.ble (k0+1) E.N=true)(hm:fr.ev m=.mr o)(ho:σ.get o=some (.mapr e1 size none (wta KK G2 es)))(hx:Yja (fr.ev x)=some (KK.kf k))(hfr:fr.has r=false)(hsr:σ.has r=false)(hgr:σ.get r=none)(ht:E.P.underlying t=some (.map kt e))(hkt:KK.ok E.P kt)(he:TyOk E.P e sz1 bytes (.slice none 0 0) d):
 OpTo E ⟨some k0,.lookup t m x false,ty,pos,af,gu⟩ fr σ ((k0,.hs r 0)::fr) ((r,.row e1 false size (((mget es k).getD []).map G2))::σ.upd o (.mapr e1 size (mpos es k) (wta KK G2 es))):=
 ⟨fun g a K Q hst hK=>by
  refine ⟨fun _ _=>trivial,?_⟩;rw[Oper.semAt_plain _ _ _ (fun c=>by simp)];have h1:=hst.ev m;rw[hm]at h1;have e2:=Kxa (hst.ev x) hx;have hne:o≠r:=by rintro rfl;rw[ho]at hgr;cases hgr
  obtain ⟨b,clock,ents,subs,hM⟩:=Jca (hst.so.obj o _ ho);have hr:=KJa (P:=E.P) (t:=t) (k:=k) hM h1 ht hkt he;have hrun:(execOp a.eval ⟨some k0,.lookup t m x false,ty,pos,af,gu⟩).run E.P g.w=.ok (.value (match mpos es k with | some i=>(ents[i]?.map (·.val)).getD undef | none=>.slice none 0 0)) g.w:=by
   show Sem.run E.P (do let v <-Instr.lookup t (a.eval m) (a.eval x) false;pure (Next.value v)) g.w=_;rw[e2,Sem.run_bind,hr];rfl
  rw[hrun,Oper.uponIn_value];rw[Y6a]at hK;cases hp:mpos es k with
  | none=>
   rw[hp]at hK;simp only[Option.bind_none,Option.getD_none,List.map_nil]at hK;have hst' :=hst.split (g' :=⟨g.w,g.u,fun q=>if q=r then .nilRow else g.loc q⟩) (r:=o) (r1:=r) (ob:=.mapr e1 size none (wta KK G2 es)) (ob1:=.row e1 false size []) ho hfr hsr hgr rfl rfl (fun q _ hq=>if_neg hq) (.inl (if_neg hne)) rfl
    (MAt.obj (subs:=subs) (ents:=ents) (b:=b) (clock:=clock) ⟨(if_neg hne).trans hM.loc,hM.heap,hM.u,hM.n,hM.sl,hM.nd,hM.key,hM.cv,hM.ent⟩) (.nil (if_pos rfl)) (fun q hq=>by rw[show (⟨g.w,g.u,fun q=>if q=r then Loc.nilRow else g.loc q⟩:G).loc o=g.loc o from if_neg hne]at hq;exact hq)
    (fun q hq=>by rw[show (⟨g.w,g.u,fun q=>if q=r then Loc.nilRow else g.loc q⟩:G).loc r=.nilRow from if_pos rfl]at hq;cases hq) (fun q _ hq=>by rw[show (⟨g.w,g.u,fun q=>if q=r then Loc.nilRow else g.loc q⟩:G).loc r=.nilRow from if_pos rfl]at hq;cases hq) (fun q oq _ _ hq=>by cases oq <;> first | exact ⟨_,.inl rfl⟩ | exact ⟨[],.inr ⟨_,_,rfl⟩⟩ | cases hq)
   exact hK ⟨g.w,g.u,fun q=>if q=r then .nilRow else g.loc q⟩ _ (hst'.put (Nat.le_of_ble_eq_true hN) (.hsNil _ (if_pos rfl)))
  | some i=>
   obtain ⟨p,hp1,hp2⟩:=Zya hp;have hie:=(List.getElem?_eq_some_iff.1 hp1).1;have hi:i < ents.size:=by rw[hM.n];exact hie
   have hxx:=Array.getElem?_eq_getElem hi;rcases hM.ent i p _ hp1 hxx with ⟨q,_⟩ | ⟨_,s,q1,q2⟩
   .cases q
   rw[hp]at hK;simp only[Option.bind_some,hp1,Option.map_some,Option.getD_some]at hK;simp only[Option.map_some,Option.getD_some,hxx];let g' :G:=⟨g.w,g.u,fun q=>if q=r then .row s.1 s.2.1 s.2.2.1 size s.2.2.2 else if q=o then .mapr b (subs.set i none) else g.loc q⟩;have hlr:g'.loc r=.row s.1 s.2.1 s.2.2.1 size s.2.2.2:=if_pos rfl;have hlo:g'.loc o=.mapr b (subs.set i none):=by show (if o=r then _ else if o=o then _ else _)=_;rw[if_neg hne,if_pos rfl]
   have hsl:i < subs.length:=(List.getElem?_eq_some_iff.1 q1).1;have hsubset:∀q,q∈zoa (subs.set i none)->q∈zoa subs/\q≠s.1:=by
    intro q hq;obtain ⟨t,ht,htb⟩:=List.mem_filterMap.1 hq;cases t with
    | none=>cases htb
    | some t=>
     cases htb;obtain ⟨i',hi',hii⟩:=List.getElem_of_mem ht;have h5:(subs.set i none)[i']? =some (some t):=by rw[List.getElem?_eq_getElem hi',hii]
     by_cases h6:i=i'
     .subst h6;rw[List.getElem?_set_self hsl]at h5;cases h5
     rw[List.getElem?_set_ne h6]at h5;exact ⟨q4a h5,kbb (List.nodup_cons.1 hM.nd).2 h5 q1 (Ne.symm h6)⟩
   have hnd' :(b::zoa (subs.set i none)).Nodup:=by
    refine List.nodup_cons.2 ⟨fun hin=>(List.nodup_cons.1 hM.nd).1 (hsubset b hin).1,?_⟩;have hsu:(zoa (subs.set i none)).Sublist (zoa subs):=by
     clear hsubset hlo hlr hst hr hrun hK;have hgen:∀(l:List (Option (Nat × Nat × Nat × Nat))) (i:Nat),(zoa (l.set i none)).Sublist (zoa l):=by
      intro l;induction l with
      | nil=>intro i;exact List.Sublist.refl _
      | cons x l ih=>
       intro i;cases i with
       | zero=>simp only[List.set_cons_zero,z0a];exact List.sublist_append_right _ _
       | succ i=>simp only[List.set_cons_succ,z0a];exact (ih i).append_left _
     exact hgen subs i
    exact hsu.nodup (List.nodup_cons.1 hM.nd).2
   have hMo:MAt g' o e1 size (some i) KK G2 es b clock ents (subs.set i none):=⟨hlo,hM.heap,hM.u,hM.n,by rw[List.length_set];exact hM.sl,hnd',hM.key,hM.cv,fun i' p' x' hp' hx' =>by
    by_cases h6:i=i'
    .subst h6;exact .inl ⟨rfl,by rw[List.getElem?_set_self hsl]⟩
    rcases hM.ent i' p' x' hp' hx' with ⟨q,_⟩ | ⟨_,s',r1,r2⟩
    .cases q
    exact .inr ⟨by simpa using h6,s',by rw[List.getElem?_set_ne h6];exact r1,r2⟩⟩
   obtain ⟨vs,b1,b2,b3⟩:=q2.blk;have hrow:RelO g' r (.row e1 false size (p.2.map G2)):=.row (by rw[hlr,q2.n]) b1 b2 q2.cap (by rw[q2.n];exact q2.le) q2.z (by rw[q2.n];exact q2.hu) (fun hc=>by cases hc) b3;have hst' :=hst.split (g' :=g') (r:=o) (r1:=r) (ob:=.mapr e1 size (some i) (wta KK G2 es)) (ob1:=.row e1 false size (p.2.map G2)) ho hfr hsr hgr rfl rfl (fun q h6 h7=>by show (if q=r then _ else if q=o then _ else _)=_;rw[if_neg h7,if_neg h6]) (.inr (.inr ⟨b,subs,_,hM.loc,hlo⟩)) rfl
    hMo.obj hrow (fun q hq=>by
     rw[hlo]at hq;rw[hM.loc];rcases hq with hq | hq
     .exact .inl hq
     .exact .inr (hsubset q hq).1) (fun q hq=>by
     rw[hlr]at hq;cases hq;rw[hM.loc];exact .inr (q4a q1)) (fun q hq hq2=>by
     rw[hlo]at hq;rw[hlr]at hq2;cases hq2;rcases hq with hq | hq
     .cases hq;exact (List.nodup_cons.1 hM.nd).1 (q4a q1)
     exact (hsubset _ hq).2 rfl) (fun q oq _ _ hq=>by cases oq <;> first | exact ⟨_,.inl rfl⟩ | exact ⟨[],.inr ⟨_,_,rfl⟩⟩ | cases hq)
   refine hK g' _ (hst'.put (Nat.le_of_ble_eq_true hN) ?_);rw[q2.val];exact .hs hlr (fun _=>rfl)⟩
theorem row_at{g:G}{mu:Bool}{elems:List (List PV)}{vx:Value}(hob:RelO g r (.row e1 mu size elems))(hx:Rel g (.hs r 0) vx)(hne:elems≠ []):∃s,wha g.w g.u e1 false size elems s vx/\(AO.row e1 mu size elems).own (g.loc r) s.1:=by
 have hpos:0 < elems.length:=List.length_pos_iff.2 hne;cases hob with
 | nil=>exact absurd rfl hne
 | @row _ _ _ _ b off cap vs h1 h2 h3 h4 h5 h6 h7 h8 h9=>
  cases hx with
  | hsNil a hl=>rw[h1]at hl;cases hl
  | @hs _ _ _ _ _ _ ad hl ha=>
   rw[h1]at hl;cases hl;have:=ha (by omega);subst this;exact ⟨(b,off,cap,elems.length),⟨rfl,rfl,hpos,⟨vs,h2,h3,h9⟩,h4,h5,h6,h7,fun hc=>by cases hc⟩,by rw[h1];rfl⟩
theorem JXa{mu:Bool}{bb:Bool}(hm:fr.ev m=.mr o)(ho:σ.get o=some (.mapr e1 size (mpos es k) (wta KK G2 es)))(hx:Yja (fr.ev x)=some (KK.kf k))(hy:fr.ev y=.hs r 0)(hr:σ.get r=some (.row e1 mu size (l.map G2)))(hne:Nat.beq o r=false)(hl:QCa l=some bb)(ht:E.P.underlying t=some (.map kt e))(hkt:KK.ok E.P kt):
 OpTo E ⟨none,.mapUpdate t m x y,ty,pos,af,gu⟩ fr σ (fr.mp (AV.clr r)) (((σ.dels [r]).mp (AV.clr r)).upd o (.mapr e1 size none (wta KK G2 (mput es k l)))):=
 ⟨fun g a K Q hst hK=>by
  have hne:o≠r:=by rintro rfl;simp at hne
  have hlne:=(Yka hl).1;refine ⟨fun _ _=>trivial,?_⟩;rw[Oper.semAt_plain _ _ _ (fun c=>by simp)];have h1:=hst.ev m;have h3:=hst.ev y;rw[hm]at h1;rw[hy]at h3;have e2:=Kxa (hst.ev x) hx;obtain ⟨b,clock,ents,subs,hM⟩:=Jca (hst.so.obj o _ ho);obtain ⟨s,hR,hRown⟩:=row_at (hst.so.obj r _ hr) h3 (by simpa using hlne);have hcv:cellV (a.eval y)=true:=by rw[hR.val];rfl
  have hsb:s.1≠b:=by rintro he;exact hne (hst.so.apart o r _ _ b ho hr (by rw[hM.loc];exact .inl rfl) (he▸hRown))
  have hsn:s.1 ∉ zoa subs:=fun hin=>hne (hst.so.apart o r _ _ s.1 ho hr (by rw[hM.loc];exact .inr hin) hRown)
  generalize hvm:a.eval m=vm at h1;cases h1 with
  | mr hl2=>
   rw[hM.loc]at hl2;cases hl2;have hf:=woa (P:=E.P) (w:=g.w) (k:=k) hkt hM.n hM.key;have hc:=KK.check (P:=E.P) hkt g.w k false;have hgo:∀ents' clock' (subs' :List (Option (Nat × Nat × Nat × Nat))),ents'.size=(mput es k l).length->subs'.length=(mput es k l).length->(∀(j:Nat) p x,(mput es k l)[j]? =some p->ents'[j]? =some x->x.key=KK.kf p.1)->(∀(j:Nat) x,ents'[j]? =some x->cellV x.val=true)->
    (∀(j:Nat) p x,(mput es k l)[j]? =some p->ents'[j]? =some x->∃s',subs'[j]? =some (some s')/\wha g.w g.u e1 false size (p.2.map G2) s' x.val)->(zoa subs').Nodup->(∀q,q∈zoa subs' ->q=s.1∨q∈zoa subs)->
    (execOp a.eval ⟨none,.mapUpdate t m x y,ty,pos,af,gu⟩).run E.P g.w=.ok .skip {g.w with heap:=g.w.heap.setIfInBounds b (.map ents' clock')}->
    Oper.uponIn (fen E.rd) 0 E.P ⟨none,.mapUpdate t m x y,ty,pos,af,gu⟩ a K Q ((execOp a.eval ⟨none,.mapUpdate t m x y,ty,pos,af,gu⟩).run E.P g.w):=by
    intro ents' clock' subs' hsz hsl' hkey' hcv' hrel hnd' hsubs hrun;rw[hrun,Oper.uponIn_skip];have hset:=MapKept.heap_set (o' :=.map ents' clock') hM.heap;have hsize:(g.w.heap.setIfInBounds b (.map ents' clock')).size=g.w.heap.size:=by simp
    have hxx:Ext g.w g.u {g.w with heap:=g.w.heap.setIfInBounds b (.map ents' clock')} g.u:=⟨Nat.le_of_eq hsize.symm,fun _ _=>Nat.le_refl _,fun q i hq hi=>by
     by_cases hqb:q=b
     .subst hqb;have:=hM.u;omega
     simp only[World.cell?];rw[hset.2 q hqb],fun r' hr' =>(hset.2 r' (by rintro rfl;have:=hM.heap;rw[this]at hr';cases hr')).trans hr'⟩
    have hbs:b ∉ zoa subs' :=fun hin=>by
     rcases hsubs b hin with h | h
     .exact hsb h.symm
     exact (List.nodup_cons.1 hM.nd).1 h
    let g' :G:=⟨{g.w with heap:=g.w.heap.setIfInBounds b (.map ents' clock')},g.u,fun q=>if q=o then .mapr b subs' else g.loc q⟩;have hlo:g'.loc o=.mapr b subs' :=if_pos rfl;have hk' :∀q,q≠o->g'.loc q=g.loc q:=fun q hq=>if_neg hq
    have hM' :MAt g' o e1 size none KK G2 (mput es k l) b clock' ents' subs' :=⟨hlo,hset.1,hM.u,hsz,hsl',List.nodup_cons.2 ⟨hbs,hnd'⟩,hkey',hcv',fun j p x hp hx' =>by
     obtain ⟨s',r1,r2⟩:=hrel j p x hp hx';refine .inr ⟨by simp,s',r1,r2.mono hxx.to0 ⟨hset.2 s'.1 ?_,rfl⟩⟩;rintro he;exact hbs (he▸q4a r1)⟩
    refine hK g' _ (St.put_none (hst.turn (g' :=g') ho [r] (by simpa using hne) (AV.clr r) rfl (fun c v h=>ZTa hxx hk' (.inr (.inr ⟨b,subs,subs',hM.loc,hlo⟩)) h) hxx hk' rfl rfl rfl (fun q hq hno=>⟨hset.2 q (by rintro rfl;exact hno o _ (.inl rfl) ho (by rw[hM.loc];exact .inl rfl)),rfl⟩) (vZa hst.so.wf (Nat.le_of_eq hsize.symm) _) hM'.obj (fun q hq=>.inl ?_)));rw[hlo]at hq;rcases hq with hq | hq
    .exact ⟨o,_,.inl rfl,ho,by rw[hM.loc];exact .inl hq⟩
    rcases hsubs q hq with h | h
    .exact ⟨r,_,.inr (by simp),hr,by rw[h];exact hRown⟩
    exact ⟨o,_,.inl rfl,ho,by rw[hM.loc];exact .inr h⟩
   have hshow:(execOp a.eval ⟨none,.mapUpdate t m x y,ty,pos,af,gu⟩).run E.P g.w=Sem.run E.P (do Instr.mapUpdate t (.map (some b)) (KK.kf k) (a.eval y);pure Next.skip) g.w:=by
    show Sem.run E.P (do Instr.mapUpdate t (a.eval m) (a.eval x) (a.eval y);pure Next.skip) g.w=_;rw[hvm,e2]
   cases hp:mpos es k with
   | none=>
    rw[hp]at hf;simp only[Option.bind_none]at hf;have hmp:mput es k l=es++ [(k,l)]:=by rw[Kea,hp]
    have hlast:∀(j:Nat) p,(mput es k l)[j]? =some p->(j < es.length/\es[j]? =some p)∨(j=es.length/\p=(k,l)):=by
     intro j p hj;rw[hmp]at hj;rcases Nat.lt_or_ge j es.length with h4 | h4
     .rw[List.getElem?_append_left h4]at hj;exact .inl ⟨h4,hj⟩
     have hj2:j=es.length:=by
      have:=(List.getElem?_eq_some_iff.1 hj).1;simp at this;omega
     subst hj2;simp at hj;exact .inr ⟨rfl,hj.symm⟩
    have hpush:∀(j:Nat) x,(ents.push ⟨KK.kf k,a.eval y,clock⟩)[j]? =some x->(j < es.length/\ents[j]? =some x)∨(j=es.length/\x=⟨KK.kf k,a.eval y,clock⟩):=by
     intro j x hj;rw[Array.getElem?_push]at hj;split at hj
     .rename_i h5;cases hj;exact .inr ⟨by rw[h5,hM.n],rfl⟩
     rename_i h5;have:=(Array.getElem?_eq_some_iff.1 hj).1;have:=hM.n;exact .inl ⟨by omega,hj⟩
    refine hgo (ents.push ⟨KK.kf k,a.eval y,clock⟩) (clock+1) (subs++ [some s]) (by rw[hmp];simp[hM.n]) (by rw[hmp];simp[hM.sl]) (fun j p x hj hx' =>?_) (fun j x hx' =>?_) (fun j p x hj hx' =>?_) ?_ (fun q hq=>?_) ?_
    .rcases hlast j p hj with ⟨h4,h5⟩ | ⟨h4,rfl⟩ <;> rcases hpush j x hx' with ⟨h6,h7⟩ | ⟨h6,rfl⟩
     .exact hM.key j p x h5 h7
     .omega
     .omega
     rfl
    .rcases hpush j x hx' with ⟨h6,h7⟩ | ⟨h6,rfl⟩
     .exact hM.cv j x h7
     exact hcv
    .rcases hlast j p hj with ⟨h4,h5⟩ | ⟨h4,rfl⟩ <;> rcases hpush j x hx' with ⟨h6,h7⟩ | ⟨h6,rfl⟩
     .rcases hM.ent j p x h5 h7 with ⟨q,_⟩ | ⟨_,s',r1,r2⟩
      .rw[hp]at q;cases q
      exact ⟨s',by rw[List.getElem?_append_left (by rw[hM.sl];exact h4)];exact r1,r2⟩
     .omega
     .omega
     exact ⟨s,by rw[h4,List.getElem?_append_right (by rw[hM.sl];exact Nat.le_refl _),hM.sl];simp,hR⟩
    .rw[kIa,show zoa [some s]=[s.1] from rfl];exact List.nodup_append.2 ⟨(List.nodup_cons.1 hM.nd).2,by simp,fun q hq q' hq' =>by simp only[List.mem_singleton]at hq';subst hq';rintro rfl;exact hsn hq⟩
    .rw[kIa,show zoa [some s]=[s.1] from rfl]at hq;rcases List.mem_append.1 hq with h | h
     .exact .inr h
     exact .inl (by simpa using h)
    rw[hshow];simp[Instr.mapUpdate,run_underlying ht,MapKept.run_getObj_map hM.heap,hc,hf,MapKept.run_setObj_map _ hM.heap,Result.andThen]
   | some i=>
    obtain ⟨p0,hp1,hp2⟩:=Zya hp;have hie:=(List.getElem?_eq_some_iff.1 hp1).1;have hi:i < ents.size:=by rw[hM.n];exact hie
    rw[hp]at hf;simp only[Option.bind_some,Array.getElem?_eq_getElem hi,Option.map_some]at hf;have hmp:mput es k l=es.set i (k,l):=by rw[Kea,hp]
    have hsl:i < subs.length:=by rw[hM.sl];exact hie
    have hkk:ents[i].key=KK.kf k:=by
     rw[hM.key i p0 _ hp1 (Array.getElem?_eq_getElem hi)];rw[show p0.1=k by simpa using hp2]
    have hsni:subs[i]? =some none:=by
     rcases hM.ent i p0 _ hp1 (Array.getElem?_eq_getElem hi) with ⟨_,q⟩ | ⟨q,_⟩
     .exact q
     rw[hp]at q;exact absurd rfl q
    refine hgo (ents.modify i fun e=>{e with key:=KK.kf k,val:=a.eval y}) clock (subs.set i (some s)) (by rw[hmp];simp[hM.n]) (by rw[hmp];simp[hM.sl]) (fun j p x hj hx' =>?_) (fun j x hx' =>?_) (fun j p x hj hx' =>?_) ?_ (fun q hq=>?_) ?_
    .rw[hmp]at hj;rw[Array.getElem?_modify]at hx';by_cases hij:i=j
     .subst hij;rw[List.getElem?_set_self hie]at hj;cases hj;rw[if_pos rfl,Array.getElem?_eq_getElem hi]at hx';cases hx';rfl
     rw[List.getElem?_set_ne hij]at hj;rw[if_neg hij]at hx';exact hM.key j p x hj hx'
    .rw[Array.getElem?_modify]at hx';by_cases hij:i=j
     .subst hij;rw[if_pos rfl,Array.getElem?_eq_getElem hi]at hx';cases hx';exact hcv
     rw[if_neg hij]at hx';exact hM.cv j x hx'
    .rw[hmp]at hj;rw[Array.getElem?_modify]at hx';by_cases hij:i=j
     .subst hij;rw[List.getElem?_set_self hie]at hj;cases hj;rw[if_pos rfl,Array.getElem?_eq_getElem hi]at hx';cases hx';exact ⟨s,by rw[List.getElem?_set_self hsl],hR⟩
     rw[List.getElem?_set_ne hij]at hj;rw[if_neg hij]at hx';rcases hM.ent j p x hj hx' with ⟨q,_⟩ | ⟨_,s',r1,r2⟩
     .rw[hp]at q;cases q;exact absurd rfl hij
     exact ⟨s',by rw[List.getElem?_set_ne hij];exact r1,r2⟩
    .have hgen:∀(l:List (Option (Nat × Nat × Nat × Nat))) (i:Nat),l[i]? =some none->s.1 ∉ zoa l->(zoa l).Nodup->(zoa (l.set i (some s))).Nodup/\∀q,q∈zoa (l.set i (some s))->q=s.1∨q∈zoa l:=by
      intro l;induction l with
      | nil=>intro i h;simp at h
      | cons x l ih=>
       intro i h h5 h6;cases i with
       | zero=>
        simp only[List.getElem?_cons_zero,Option.some.injEq]at h;subst h;simp only[List.set_cons_zero,z0a,List.nil_append,List.singleton_append]at h5 h6 ⊢;exact ⟨List.nodup_cons.2 ⟨h5,h6⟩,fun q hq=>by
         rcases List.mem_cons.1 hq with h | h; · exact .inl h
         exact .inr h⟩
       | succ i=>
        simp only[List.getElem?_cons_succ]at h;simp only[List.set_cons_succ,z0a]at h5 h6 ⊢;have h6' :=List.nodup_append.1 h6;obtain ⟨j1,j2⟩:=ih i h (fun hin=>h5 (List.mem_append.2 (.inr hin))) h6'.2.1;refine ⟨List.nodup_append.2 ⟨h6'.1,j1,fun q hq q' hq' =>?_⟩,fun q hq=>?_⟩
        .rcases j2 q' hq' with h | h
         .rintro rfl;exact h5 (List.mem_append.2 (.inl (h▸hq)))
         exact h6'.2.2 q hq q' h
        rcases List.mem_append.1 hq with h | h
        .exact .inr (List.mem_append.2 (.inl h))
        exact (j2 q h).imp id fun h=>List.mem_append.2 (.inr h)
     exact (hgen subs i hsni hsn (List.nodup_cons.1 hM.nd).2).1
    .obtain ⟨t',ht',htb⟩:=List.mem_filterMap.1 hq;cases t' with
     | none=>cases htb
     | some t' =>
      cases htb;rcases List.mem_or_eq_of_mem_set ht' with h | h
      .exact .inr (List.mem_filterMap.2 ⟨some t',h,rfl⟩)
      cases h;exact .inl rfl
    rw[hshow];simp[Instr.mapUpdate,run_underlying ht,MapKept.run_getObj_map hM.heap,hc,hf,hi,hkk,KK.stay,MapKept.run_setObj_map _ hM.heap,Result.andThen]⟩
end
end
section
section
variable {E:Env} {ρ:Operand->AV} {P:Program} {fr FR:Fr} {σ:Sto} {dst:Option Nat} {ty:TypeId} {pos:String} {af:Array Edge} {gu:Option (Nat × Bool)}
theorem zta{x:Operand}{r i j0:Nat}(hx:ρ x=.np r i j0):EvQ P ⟨dst,.nilCheck x,ty,pos,af,gu⟩ ρ σ (.np r i j0):=
 ⟨fun c=>by simp,fun g ρv h _=>by
  have h1:=h x (by simp[Op.operands]);rw[hx]at h1;generalize hv:ρv x=v at h1;cases h1 with
  | np hl hi=>
   refine ⟨_,?_,.np hl hi⟩;simp[execOp,hv,go_sem]⟩
theorem zqa{x:Operand}{t:TypeId}{r i j0 f q:Nat}{fs:Array Field}{fl:Field}{fsize fbytes:Nat}{fzero:Value}{fd:TypeDesc}(hx:ρ x=.np r i j0)(ht:P.underlying t=some (.struct fs))(hf:fs[f]? =some fl)(hft:TyOk P fl.type fsize fbytes fzero fd)(hz:Nat.beq fsize 0=false)(hq:Nat.beq (j0+fl.offset) q=true):
 EvQ P ⟨dst,.fieldAddr t x f,ty,pos,af,gu⟩ ρ σ (.np r i q):=by
 rw[<-Nat.eq_of_beq_eq_true hq];exact KHa hx ht hf hft hz
theorem vEa{x:Operand}{t:TypeId}{r i k0 j0 f q:Nat}{fs:Array Field}{fl:Field}{fsize fbytes:Nat}{fzero:Value}{fd:TypeDesc}(hx:ρ x=.hnp r i k0 j0)(ht:P.underlying t=some (.struct fs))(hf:fs[f]? =some fl)(hft:TyOk P fl.type fsize fbytes fzero fd)(hz:Nat.beq fsize 0=false)(hq:Nat.beq (j0+fl.offset) q=true):
 EvQ P ⟨dst,.fieldAddr t x f,ty,pos,af,gu⟩ ρ σ (.hnp r i k0 q):=by
 rw[<-Nat.eq_of_beq_eq_true hq];exact Z2a hx ht hf hft hz
theorem ev_min3{k:IntKind}{a b c:Int}{x y z:Operand}{ats:Array TypeId}(hx:ρ x=.pv (.b (.int k a)))(hy:ρ y=.pv (.b (.int k b)))(hz:ρ z=.pv (.b (.int k c))):EvQ P ⟨dst,.call ⟨.builtin .min, #[x,y,z],ats⟩,ty,pos,af,gu⟩ ρ σ (.pv (.b (.int k (min (min a b) c)))):=
 ⟨fun c=>by simp,fun g ρv h _=>by
  have h1:=h x (by simp[Op.operands,Call.operands]);have h2:=h y (by simp[Op.operands,Call.operands]);have h3:=h z (by simp[Op.operands,Call.operands]);rw[hx]at h1;rw[hy]at h2;rw[hz]at h3;have e1:=kea h1;have e2:=kea h2;have e3:=kea h3;refine ⟨.int k (min (min a b) c),?_,.pv (.b rfl)⟩;have q1:(if b < a then b else a)=min a b:=by omega
  have q2:(if c < min a b then c else min a b)=min (min a b) c:=by omega
  simp[execOp,resolve,Deferred.ofValue,invoke,builtin,Builtin.min_,Builtin.min2,e1,e2,e3,go_sem,q1,q2]⟩
end
section
variable {E:Env} {FR:Fr} {σ:Sto} {ty:TypeId} {pos:String} {af:Array Edge} {gu:Option (Nat × Bool)} {α β:Type} {F:α->List PV} {G2:β->List PV} {l:List α} {l2:List β} {e e2 t' :TypeId} {size size2 size' bytes' j j0 m r r2:Nat} {zero' :Value} {d' :TypeDesc} {x y:Operand} {n n2:Int} {v v' :α} {w2 w2' :β} {pcs:List PV}
theorem ZGa(hx:FR.ev x=.np r n.toNat j0)(hr:σ.get r=some (.nrow e size j e2 size2 m (l.map F)))(hy:(FR.ev y).weak.cells=some (pcs.map .pv))(ht:TyOk E.P t' size' bytes' zero' d')(hz:Nat.beq pcs.length size' =true)
 (hv:idx l n=some v) (hle:Nat.ble (j0+pcs.length) (F v).length=true) (hj:(Nat.ble (j+1) j0 || Nat.ble (j0+pcs.length) j)=true) (hF' :F v' =(F v).take j0++pcs++(F v).drop (j0+pcs.length)):
 HvS E ⟨none,.store t' x y,ty,pos,af,gu⟩ FR σ (σ.upd r (.nrow e size j e2 size2 m ((l.set n.toNat v').map F))):=
 ⟨fun fr he _=>yNa ((he x (by simp[Op.operands,Call.operands])).trans hx) hr (by rw[he y (by simp[Op.operands,Call.operands])];exact hy) ht hz hv hle hj hF'⟩
theorem frLe_mp1{fr:Fr}:FrLe (fr.mp (AV.clr r2)) (fr.clrs [r2]):=fun d=>by
 rw[Fr.get_mp rfl,Fr.get_clrs];exact .inr (.inl (by simp[AV.clr,AV.clrs]))
theorem Vya(hx:FR.ev x=.np r n.toNat j0)(hr:σ.get r=some (.nrow e size j e2 size2 m (l.map F)))(hy:FR.ev y=.hs r2 0)(hr2:σ.get r2=some (.row e2 true size2 (l2.map G2)))(hne:Nat.beq r r2=false)(ht:TyOk E.P t' 1 bytes' zero' d')
 (hj:Nat.beq j0 j=true) (hv:idx l n=some v) (hm:n.toNat=m) (hjs:Nat.ble (j+1) (F v).length=true) (hF' :F v' =(F v).set j (.sl none (l2.map G2))):
 HvP E ⟨none,.store t' x y,ty,pos,af,gu⟩ FR σ [r2] (((σ.dels [r2]).mp (AV.clr r2)).upd r (.nrow e size j e2 size2 (m+1) ((l.set n.toNat v').map F))):=
 ⟨fun fr he _=>z8b (JVa ((he x (by simp[Op.operands,Call.operands])).trans hx) hr ((he y (by simp[Op.operands,Call.operands])).trans hy) hr2 hne ht hj hv hm hjs hF') frLe_mp1 q7a⟩
end
end
section
section
variable {P:Program} {t:TypeId}
variable {ρ:Operand->AV} {σ:Sto} {dst:Option Nat} {ty:TypeId} {pos:String} {af:Array Edge} {gu:Option (Nat × Bool)} {x y:Operand} {ss sb:Nat} {sz:Value}
end
end
theorem mixed:prog.follows .mixedOrders=true:=by kernel_rfl
theorem KKa:Yaa prog 59:=⟨by kernel_rfl,by kernel_rfl⟩
theorem ZHa:Yaa prog 61:=⟨by kernel_rfl,by kernel_rfl⟩
theorem qJa:Yaa prog 96:=⟨by kernel_rfl,by kernel_rfl⟩
theorem Qea (w : World) : Sem.run prog (Array.mapM (fun (f : Field) => do pure (f.offset, <- sizeOf f.type)) #[⟨"Entry", 3, 0, false, "", "", 0⟩, ⟨"Domain", 9, 1, false, "", "", 8⟩, ⟨"To", 49, 2, false, "", "", 24⟩]) w = .ok #[(0, 1), (1, 1), (2, 1)] w := by kernel_rfl
theorem Wqa (w : World) : Sem.run prog (Array.mapM (fun (f : Field) => do pure (f.offset, <- sizeOf f.type)) #[⟨"Id", 3, 0, false, "", "", 0⟩, ⟨"Mail", 33, 1, false, "", "", 8⟩, ⟨"Since", 3, 6, false, "", "", 112⟩, ⟨"Tries", 3, 7, false, "", "", 120⟩, ⟨"Due", 3, 8, false, "", "", 128⟩, ⟨"To", 55, 9, false, "", "", 136⟩]) w = .ok #[(0, 1), (1, 5), (6, 1), (7, 1), (8, 1), (9, 1)] w := by kernel_rfl
theorem KLa (w : World) : Sem.run prog (Array.mapM (fun (f : Field) => do pure (f.offset, <- sizeOf f.type)) #[⟨"From", 9, 0, false, "", "", 0⟩, ⟨"To", 25, 1, false, "", "", 16⟩, ⟨"Id", 9, 2, false, "", "", 40⟩]) w = .ok #[(0, 1), (1, 1), (2, 1)] w := by kernel_rfl
theorem Wra (w : World) : Sem.run prog (Array.mapM (fun (f : Field) => do pure (f.offset, <- sizeOf f.type)) #[⟨"Code", 3, 0, false, "", "", 0⟩, ⟨"Index", 3, 1, false, "", "", 8⟩]) w = .ok #[(0, 1), (1, 1)] w := by kernel_rfl
theorem Wsa (w : World) : Sem.run prog (Array.mapM (fun (f : Field) => do pure (f.offset, <- sizeOf f.type)) #[⟨"Name", 9, 0, false, "", "", 0⟩, ⟨"Value", 9, 1, false, "", "", 16⟩]) w = .ok #[(0, 1), (1, 1)] w := by kernel_rfl
theorem YDa (w : World) : Sem.run prog (Array.mapM (fun (f : Field) => do pure (f.offset, <- sizeOf f.type)) #[⟨"Envelope", 27, 0, false, "", "", 0⟩, ⟨"Message", 31, 3, false, "", "", 56⟩]) w = .ok #[(0, 3), (3, 2)] w := by kernel_rfl
theorem Qfa (w : World) : Sem.run prog (Array.mapM (fun (f : Field) => do pure (f.offset, <- sizeOf f.type)) #[⟨"Fields", 28, 0, false, "", "", 0⟩, ⟨"Body", 29, 1, false, "", "", 24⟩]) w = .ok #[(0, 1), (1, 1)] w := by kernel_rfl
theorem Qga (w : World) : Sem.run prog (Array.mapM (fun (f : Field) => do pure (f.offset, <- sizeOf f.type)) #[⟨"Entry", 3, 0, false, "", "", 0⟩, ⟨"Number", 3, 1, false, "", "", 8⟩, ⟨"Result", 3, 2, false, "", "", 16⟩]) w = .ok #[(0, 1), (1, 1), (2, 1)] w := by kernel_rfl
theorem Wta (w : World) : Sem.run prog (Array.mapM (fun (f : Field) => do pure (f.offset, <- sizeOf f.type)) #[⟨"Entries", 22, 0, false, "", "", 0⟩, ⟨"Next", 3, 1, false, "", "", 24⟩]) w = .ok #[(0, 1), (1, 1)] w := by kernel_rfl
theorem Z3a (w : World) : Sem.run prog (Array.mapM (fun (f : Field) => do pure (f.offset, <- sizeOf f.type)) #[⟨"Address", 9, 0, false, "", "", 0⟩, ⟨"Notify", 3, 1, false, "", "", 16⟩]) w = .ok #[(0, 1), (1, 1)] w := by kernel_rfl
theorem Qha (w : World) : Sem.run prog (Array.mapM (fun (f : Field) => do pure (f.offset, <- sizeOf f.type)) #[⟨"Recipient", 61, 0, false, "", "", 0⟩, ⟨"Result", 3, 2, false, "", "", 24⟩, ⟨"Busy", 4, 3, false, "", "", 32⟩]) w = .ok #[(0, 2), (2, 1), (3, 1)] w := by kernel_rfl
theorem Wua (w : World) : Sem.run prog (Array.mapM (fun (f : Field) => do pure (f.offset, <- sizeOf f.type)) #[⟨"entry", 3, 0, false, "", "posthouse/queue", 0⟩, ⟨"domain", 9, 1, false, "", "posthouse/queue", 8⟩]) w = .ok #[(0, 1), (1, 1)] w := by kernel_rfl
theorem qUa : TyOk prog 51 3 48 (.agg #[.int .i64 0, .string ⟨#[]⟩, .slice none 0 0]) (.struct #[⟨"Entry", 3, 0, false, "", "", 0⟩, ⟨"Domain", 9, 1, false, "", "", 8⟩, ⟨"To", 49, 2, false, "", "", 24⟩]) := ⟨by kernel_rfl, by kernel_rfl⟩
theorem zka : TyOk prog 57 10 160 (.agg #[.int .i64 0, .string ⟨#[]⟩, .slice none 0 0, .string ⟨#[]⟩, .slice none 0 0, .slice none 0 0, .int .i64 0, .int .i64 0, .int .i64 0, .slice none 0 0]) (.struct #[⟨"Id", 3, 0, false, "", "", 0⟩, ⟨"Mail", 33, 1, false, "", "", 8⟩, ⟨"Since", 3, 6, false, "", "", 112⟩, ⟨"Tries", 3, 7, false, "", "", 120⟩, ⟨"Due", 3, 8, false, "", "", 128⟩, ⟨"To", 55, 9, false, "", "", 136⟩]) := ⟨by kernel_rfl, by kernel_rfl⟩
theorem yOa : TyOk prog 27 3 56 (.agg #[.string ⟨#[]⟩, .slice none 0 0, .string ⟨#[]⟩]) (.struct #[⟨"From", 9, 0, false, "", "", 0⟩, ⟨"To", 25, 1, false, "", "", 16⟩, ⟨"Id", 9, 2, false, "", "", 40⟩]) := ⟨by kernel_rfl, by kernel_rfl⟩
theorem Wva : TyOk prog 35 2 16 (.agg #[.int .i64 0, .int .i64 0]) (.struct #[⟨"Code", 3, 0, false, "", "", 0⟩, ⟨"Index", 3, 1, false, "", "", 8⟩]) := ⟨by kernel_rfl, by kernel_rfl⟩
theorem wEa : TyOk prog 117 2 32 (.agg #[.string ⟨#[]⟩, .string ⟨#[]⟩]) (.struct #[⟨"Name", 9, 0, false, "", "", 0⟩, ⟨"Value", 9, 1, false, "", "", 16⟩]) := ⟨by kernel_rfl, by kernel_rfl⟩
theorem z9a : TyOk prog 33 5 104 (.agg #[.string ⟨#[]⟩, .slice none 0 0, .string ⟨#[]⟩, .slice none 0 0, .slice none 0 0]) (.struct #[⟨"Envelope", 27, 0, false, "", "", 0⟩, ⟨"Message", 31, 3, false, "", "", 56⟩]) := ⟨by kernel_rfl, by kernel_rfl⟩
theorem kRa : TyOk prog 31 2 48 (.agg #[.slice none 0 0, .slice none 0 0]) (.struct #[⟨"Fields", 28, 0, false, "", "", 0⟩, ⟨"Body", 29, 1, false, "", "", 24⟩]) := ⟨by kernel_rfl, by kernel_rfl⟩
theorem qVa : TyOk prog 59 3 24 (.agg #[.int .i64 0, .int .i64 0, .int .i64 0]) (.struct #[⟨"Entry", 3, 0, false, "", "", 0⟩, ⟨"Number", 3, 1, false, "", "", 8⟩, ⟨"Result", 3, 2, false, "", "", 16⟩]) := ⟨by kernel_rfl, by kernel_rfl⟩
theorem wFa : TyOk prog 24 2 32 (.agg #[.slice none 0 0, .int .i64 0]) (.struct #[⟨"Entries", 22, 0, false, "", "", 0⟩, ⟨"Next", 3, 1, false, "", "", 24⟩]) := ⟨by kernel_rfl, by kernel_rfl⟩
theorem kva : TyOk prog 61 2 24 (.agg #[.string ⟨#[]⟩, .int .i64 0]) (.struct #[⟨"Address", 9, 0, false, "", "", 0⟩, ⟨"Notify", 3, 1, false, "", "", 16⟩]) := ⟨by kernel_rfl, by kernel_rfl⟩
theorem z1a : TyOk prog 63 4 40 (.agg #[.string ⟨#[]⟩, .int .i64 0, .int .i64 0, .bool false]) (.struct #[⟨"Recipient", 61, 0, false, "", "", 0⟩, ⟨"Result", 3, 2, false, "", "", 24⟩, ⟨"Busy", 4, 3, false, "", "", 32⟩]) := ⟨by kernel_rfl, by kernel_rfl⟩
theorem wMa:TyOk prog 4 1 1 (.bool false) .bool:=⟨by kernel_rfl,by kernel_rfl⟩
theorem kaa:TyOk prog 3 1 8 (.int .i64 0) (.int .i64):=⟨by kernel_rfl,by kernel_rfl⟩
theorem ty_int32:TyOk prog 21 1 4 (.int .i32 0) (.int .i32):=⟨by kernel_rfl,by kernel_rfl⟩
theorem zRa:TyOk prog 89 1 8 (.map none) (.map 96 4):=⟨by kernel_rfl,by kernel_rfl⟩
theorem zSa:TyOk prog 88 1 8 (.map none) (.map 9 3):=⟨by kernel_rfl,by kernel_rfl⟩
theorem kDa:TyOk prog 127 1 8 (.map none) (.map 9 49):=⟨by kernel_rfl,by kernel_rfl⟩
theorem qxa : TyOk prog 96 2 24 (.agg #[.int .i64 0, .string ⟨#[]⟩]) (.struct #[⟨"entry", 3, 0, false, "", "posthouse/queue", 0⟩, ⟨"domain", 9, 1, false, "", "posthouse/queue", 8⟩]) := ⟨by kernel_rfl, by kernel_rfl⟩
theorem v2a:TyOk prog 42 1 24 (.slice none 0 0) (.slice 51):=⟨by kernel_rfl,by kernel_rfl⟩
theorem zma:TyOk prog 22 1 24 (.slice none 0 0) (.slice 57):=⟨by kernel_rfl,by kernel_rfl⟩
theorem qWa:TyOk prog 28 1 24 (.slice none 0 0) (.slice 117):=⟨by kernel_rfl,by kernel_rfl⟩
theorem q1a:TyOk prog 52 1 24 (.slice none 0 0) (.slice 59):=⟨by kernel_rfl,by kernel_rfl⟩
theorem kba:TyOk prog 25 1 24 (.slice none 0 0) (.slice 61):=⟨by kernel_rfl,by kernel_rfl⟩
theorem zla:TyOk prog 55 1 24 (.slice none 0 0) (.slice 63):=⟨by kernel_rfl,by kernel_rfl⟩
theorem kfb:TyOk prog 97 1 24 (.slice none 0 0) (.slice 4):=⟨by kernel_rfl,by kernel_rfl⟩
theorem q2a:TyOk prog 49 1 24 (.slice none 0 0) (.slice 3):=⟨by kernel_rfl,by kernel_rfl⟩
theorem KMa:TyOk prog 98 1 24 (.slice none 0 0) (.slice 9):=⟨by kernel_rfl,by kernel_rfl⟩
theorem zCa:TyOk prog 29 1 24 (.slice none 0 0) (.slice 5):=⟨by kernel_rfl,by kernel_rfl⟩
theorem zEa:TyOk prog 9 1 16 (.string ⟨#[]⟩) .string:=⟨by kernel_rfl,by kernel_rfl⟩
theorem ty_uint:TyOk prog 124 1 8 (.int .u64 0) (.int .u64):=⟨by kernel_rfl,by kernel_rfl⟩
theorem qea:TyOk prog 5 1 1 (.int .u8 0) (.int .u8):=⟨by kernel_rfl,by kernel_rfl⟩
def tab : Tab := [(51, ⟨3, 48, (.agg #[.int .i64 0, .string ⟨#[]⟩, .slice none 0 0]), (.struct #[⟨"Entry", 3, 0, false, "", "", 0⟩, ⟨"Domain", 9, 1, false, "", "", 8⟩, ⟨"To", 49, 2, false, "", "", 24⟩]), (some #[(0, 1), (1, 1), (2, 1)])⟩), (57, ⟨10, 160, (.agg #[.int .i64 0, .string ⟨#[]⟩, .slice none 0 0, .string ⟨#[]⟩, .slice none 0 0, .slice none 0 0, .int .i64 0, .int .i64 0, .int .i64 0, .slice none 0 0]), (.struct #[⟨"Id", 3, 0, false, "", "", 0⟩, ⟨"Mail", 33, 1, false, "", "", 8⟩, ⟨"Since", 3, 6, false, "", "", 112⟩, ⟨"Tries", 3, 7, false, "", "", 120⟩, ⟨"Due", 3, 8, false, "", "", 128⟩, ⟨"To", 55, 9, false, "", "", 136⟩]), (some #[(0, 1), (1, 5), (6, 1), (7, 1), (8, 1), (9, 1)])⟩), (27, ⟨3, 56, (.agg #[.string ⟨#[]⟩, .slice none 0 0, .string ⟨#[]⟩]), (.struct #[⟨"From", 9, 0, false, "", "", 0⟩, ⟨"To", 25, 1, false, "", "", 16⟩, ⟨"Id", 9, 2, false, "", "", 40⟩]), (some #[(0, 1), (1, 1), (2, 1)])⟩), (35, ⟨2, 16, (.agg #[.int .i64 0, .int .i64 0]), (.struct #[⟨"Code", 3, 0, false, "", "", 0⟩, ⟨"Index", 3, 1, false, "", "", 8⟩]), (some #[(0, 1), (1, 1)])⟩), (117, ⟨2, 32, (.agg #[.string ⟨#[]⟩, .string ⟨#[]⟩]), (.struct #[⟨"Name", 9, 0, false, "", "", 0⟩, ⟨"Value", 9, 1, false, "", "", 16⟩]), (some #[(0, 1), (1, 1)])⟩), (33, ⟨5, 104, (.agg #[.string ⟨#[]⟩, .slice none 0 0, .string ⟨#[]⟩, .slice none 0 0, .slice none 0 0]), (.struct #[⟨"Envelope", 27, 0, false, "", "", 0⟩, ⟨"Message", 31, 3, false, "", "", 56⟩]), (some #[(0, 3), (3, 2)])⟩), (31, ⟨2, 48, (.agg #[.slice none 0 0, .slice none 0 0]), (.struct #[⟨"Fields", 28, 0, false, "", "", 0⟩, ⟨"Body", 29, 1, false, "", "", 24⟩]), (some #[(0, 1), (1, 1)])⟩), (59, ⟨3, 24, (.agg #[.int .i64 0, .int .i64 0, .int .i64 0]), (.struct #[⟨"Entry", 3, 0, false, "", "", 0⟩, ⟨"Number", 3, 1, false, "", "", 8⟩, ⟨"Result", 3, 2, false, "", "", 16⟩]), (some #[(0, 1), (1, 1), (2, 1)])⟩), (24, ⟨2, 32, (.agg #[.slice none 0 0, .int .i64 0]), (.struct #[⟨"Entries", 22, 0, false, "", "", 0⟩, ⟨"Next", 3, 1, false, "", "", 24⟩]), (some #[(0, 1), (1, 1)])⟩), (61, ⟨2, 24, (.agg #[.string ⟨#[]⟩, .int .i64 0]), (.struct #[⟨"Address", 9, 0, false, "", "", 0⟩, ⟨"Notify", 3, 1, false, "", "", 16⟩]), (some #[(0, 1), (1, 1)])⟩), (63, ⟨4, 40, (.agg #[.string ⟨#[]⟩, .int .i64 0, .int .i64 0, .bool false]), (.struct #[⟨"Recipient", 61, 0, false, "", "", 0⟩, ⟨"Result", 3, 2, false, "", "", 24⟩, ⟨"Busy", 4, 3, false, "", "", 32⟩]), (some #[(0, 2), (2, 1), (3, 1)])⟩), (4, ⟨1, 1, (.bool false), .bool, none⟩), (3, ⟨1, 8, (.int .i64 0), (.int .i64), none⟩), (21, ⟨1, 4, (.int .i32 0), (.int .i32), none⟩), (89, ⟨1, 8, (.map none), (.map 96 4), none⟩), (88, ⟨1, 8, (.map none), (.map 9 3), none⟩), (127, ⟨1, 8, (.map none), (.map 9 49), none⟩), (96, ⟨2, 24, (.agg #[.int .i64 0, .string ⟨#[]⟩]), (.struct #[⟨"entry", 3, 0, false, "", "posthouse/queue", 0⟩, ⟨"domain", 9, 1, false, "", "posthouse/queue", 8⟩]), (some #[(0, 1), (1, 1)])⟩), (42, ⟨1, 24, (.slice none 0 0), (.slice 51), none⟩), (22, ⟨1, 24, (.slice none 0 0), (.slice 57), none⟩), (28, ⟨1, 24, (.slice none 0 0), (.slice 117), none⟩), (52, ⟨1, 24, (.slice none 0 0), (.slice 59), none⟩), (25, ⟨1, 24, (.slice none 0 0), (.slice 61), none⟩), (55, ⟨1, 24, (.slice none 0 0), (.slice 63), none⟩), (97, ⟨1, 24, (.slice none 0 0), (.slice 4), none⟩), (49, ⟨1, 24, (.slice none 0 0), (.slice 3), none⟩), (98, ⟨1, 24, (.slice none 0 0), (.slice 9), none⟩), (29, ⟨1, 24, (.slice none 0 0), (.slice 5), none⟩), (9, ⟨1, 16, (.string ⟨#[]⟩), .string, none⟩), (124, ⟨1, 8, (.int .u64 0), (.int .u64), none⟩), (5, ⟨1, 1, (.int .u8 0), (.int .u8), none⟩)]
theorem tk:kBa prog tab:=(qja qUa Qea (qja zka Wqa (qja yOa KLa (qja Wva Wra (qja wEa Wsa (qja z9a YDa (qja kRa Qfa (qja qVa Qga (qja wFa Wta (qja kva Z3a (qja z1a Qha (kza wMa (kza kaa (kza ty_int32 (kza zRa (kza zSa (kza kDa (qja qxa Wua (kza v2a (kza zma (kza qWa (kza q1a (kza kba (kza zla (kza kfb (kza q2a (kza KMa (kza zCa (kza zEa (kza ty_uint (kza qea tab_nil)))))))))))))))))))))))))))))))
def zra.ok(x:zra):Prop:=ok64 x.Code/\ok64 x.Index
def zra.bk(x:zra):Nat:=(fun _=>1) x.Code+(fun _=>1) x.Index+1
instance:Inhabited zra:=⟨⟨default,default⟩⟩
def wDa.ok(x:wDa):Prop:=Qba x.Address/\(okL Qba) x.To
def wDa.bk(x:wDa):Nat:=(fun s=>s.length+1) x.Address+(bkL (fun s=>s.length+1)) x.To+1
instance:Inhabited wDa:=⟨⟨default,default⟩⟩
def zca.ok(x:zca):Prop:=Qba x.Address/\ok64 x.Notify
def zca.bk(x:zca):Nat:=(fun s=>s.length+1) x.Address+(fun _=>1) x.Notify+1
instance:Inhabited zca:=⟨⟨default,default⟩⟩
def zya.ok(x:zya):Prop:=Qba x.From/\(okL zca.ok) x.To/\Qba x.Id
def zya.bk(x:zya):Nat:=(fun s=>s.length+1) x.From+(bkL zca.bk) x.To+(fun s=>s.length+1) x.Id+1
instance:Inhabited zya:=⟨⟨default,default,default⟩⟩
def zga.ok(x:zga):Prop:=Qba x.Name/\Qba x.Value
def zga.bk(x:zga):Nat:=(fun s=>s.length+1) x.Name+(fun s=>s.length+1) x.Value+1
instance:Inhabited zga:=⟨⟨default,default⟩⟩
def zAa.ok(x:zAa):Prop:=(okL zga.ok) x.Fields/\(okL (fun _=>True)) x.Body
def zAa.bk(x:zAa):Nat:=(bkL zga.bk) x.Fields+(bkL (fun _=>1)) x.Body+1
instance:Inhabited zAa:=⟨⟨default,default⟩⟩
def kua.ok(x:kua):Prop:=zya.ok x.Envelope/\zAa.ok x.Message
def kua.bk(x:kua):Nat:=zya.bk x.Envelope+zAa.bk x.Message+1
instance:Inhabited kua:=⟨⟨default,default⟩⟩
def zda.ok(x:zda):Prop:=zca.ok x.Recipient/\ok64 x.Result/\(fun _=>True) x.Busy
def zda.bk(x:zda):Nat:=zca.bk x.Recipient+(fun _=>1) x.Result+(fun _=>1) x.Busy+1
instance:Inhabited zda:=⟨⟨default,default,default⟩⟩
def zba.ok(x:zba):Prop:=ok64 x.Id/\kua.ok x.Mail/\ok64 x.Since/\ok64 x.Tries/\ok64 x.Due/\(okL zda.ok) x.To
def zba.bk(x:zba):Nat:=(fun _=>1) x.Id+kua.bk x.Mail+(fun _=>1) x.Since+(fun _=>1) x.Tries+(fun _=>1) x.Due+(bkL zda.bk) x.To+1
instance:Inhabited zba:=⟨⟨default,default,default,default,default,default⟩⟩
def zpa.ok(x:zpa):Prop:=(okL zba.ok) x.Entries/\ok64 x.Next
def zpa.bk(x:zpa):Nat:=(bkL zba.bk) x.Entries+(fun _=>1) x.Next+1
instance:Inhabited zpa:=⟨⟨default,default⟩⟩
def zha.ok(x:zha):Prop:=ok64 x.Entry/\Qba x.Domain/\(okL ok64) x.To
def zha.bk(x:zha):Nat:=(fun _=>1) x.Entry+(fun s=>s.length+1) x.Domain+(bkL (fun _=>1)) x.To+1
instance:Inhabited zha:=⟨⟨default,default,default⟩⟩
def zia.ok(x:zia):Prop:=ok64 x.Entry/\ok64 x.Number/\ok64 x.Result
def zia.bk(x:zia):Nat:=(fun _=>1) x.Entry+(fun _=>1) x.Number+(fun _=>1) x.Result+1
instance:Inhabited zia:=⟨⟨default,default,default⟩⟩
theorem vza:vDa prog 3 1 cI ok64 (fun _=>1):=opens_I kaa.u (by kernel_rfl)
theorem qka:vDa prog 9 1 cS Qba (fun s=>s.length+1):=opens_S zEa.u (by kernel_rfl)
theorem v3a:vDa prog 61 2 zca.pc zca.ok zca.bk:=⟨by kernel_rfl,fun _=>rfl,fun {H enc W fuel cs d} h=>by
 obtain ⟨xs,n,_,rfl,hl,hlen,hf⟩:=DataW.trod_struct kva.u h;have hl2:cs.length=2:=hl.trans (by kernel_rfl)
 match xs,hlen with
 | [y0,y1],_=>
  obtain ⟨x0,r0,o0,b0⟩:=qka.op (show _=some y0 from hf 0 _ rfl)
  replace r0:RelC W _ (List.take (prog.cellsOf 9) (List.drop 0 cs)):=r0
  rw[qka.cells]at r0;obtain ⟨x1,r1,o1,b1⟩:=vza.op (show _=some y1 from hf 1 _ rfl)
  replace r1:RelC W _ (List.take (prog.cellsOf 3) (List.drop 1 cs)):=r1
  rw[vza.cells]at r1;exact ⟨⟨x0,x1⟩,(z2a (off:=0) rfl r0 (z2a (off:=1) rfl r1 (wba hl2))),⟨o0,o1⟩,by simp only[List.map,Rows.uptoBulk,Rows.uptoBulkAll,zca.bk];omega⟩⟩
theorem wGa:vDa prog 25 1 (cL zca.pc) (okL zca.ok) (bkL zca.bk):=ZCa v3a rfl kba.u (by kernel_rfl)
theorem yPa:vDa prog 27 3 zya.pc zya.ok zya.bk:=⟨by kernel_rfl,fun _=>rfl,fun {H enc W fuel cs d} h=>by
 obtain ⟨xs,n,_,rfl,hl,hlen,hf⟩:=DataW.trod_struct yOa.u h;have hl2:cs.length=3:=hl.trans (by kernel_rfl)
 match xs,hlen with
 | [y0,y1,y2],_=>
  obtain ⟨x0,r0,o0,b0⟩:=qka.op (show _=some y0 from hf 0 _ rfl)
  replace r0:RelC W _ (List.take (prog.cellsOf 9) (List.drop 0 cs)):=r0
  rw[qka.cells]at r0;obtain ⟨x1,r1,o1,b1⟩:=wGa.op (show _=some y1 from hf 1 _ rfl)
  replace r1:RelC W _ (List.take (prog.cellsOf 25) (List.drop 1 cs)):=r1
  rw[wGa.cells]at r1;obtain ⟨x2,r2,o2,b2⟩:=qka.op (show _=some y2 from hf 2 _ rfl)
  replace r2:RelC W _ (List.take (prog.cellsOf 9) (List.drop 2 cs)):=r2
  rw[qka.cells]at r2;exact ⟨⟨x0,x1,x2⟩,(z2a (off:=0) rfl r0 (z2a (off:=1) rfl r1 (z2a (off:=2) rfl r2 (wba hl2)))),⟨o0,o1,o2⟩,by simp only[List.map,Rows.uptoBulk,Rows.uptoBulkAll,zya.bk];omega⟩⟩
theorem Wwa:vDa prog 117 2 zga.pc zga.ok zga.bk:=⟨by kernel_rfl,fun _=>rfl,fun {H enc W fuel cs d} h=>by
 obtain ⟨xs,n,_,rfl,hl,hlen,hf⟩:=DataW.trod_struct wEa.u h;have hl2:cs.length=2:=hl.trans (by kernel_rfl)
 match xs,hlen with
 | [y0,y1],_=>
  obtain ⟨x0,r0,o0,b0⟩:=qka.op (show _=some y0 from hf 0 _ rfl)
  replace r0:RelC W _ (List.take (prog.cellsOf 9) (List.drop 0 cs)):=r0
  rw[qka.cells]at r0;obtain ⟨x1,r1,o1,b1⟩:=qka.op (show _=some y1 from hf 1 _ rfl)
  replace r1:RelC W _ (List.take (prog.cellsOf 9) (List.drop 1 cs)):=r1
  rw[qka.cells]at r1;exact ⟨⟨x0,x1⟩,(z2a (off:=0) rfl r0 (z2a (off:=1) rfl r1 (wba hl2))),⟨o0,o1⟩,by simp only[List.map,Rows.uptoBulk,Rows.uptoBulkAll,zga.bk];omega⟩⟩
theorem jsa:vDa prog 28 1 (cL zga.pc) (okL zga.ok) (bkL zga.bk):=ZCa Wwa rfl qWa.u (by kernel_rfl)
theorem op_uint8:vDa prog 5 1 cU (fun _=>True) (fun _=>1):=opens_U qea.u (by kernel_rfl)
theorem QJa:vDa prog 29 1 (cL cU) (okL (fun _=>True)) (bkL (fun _=>1)):=ZCa op_uint8 rfl zCa.u (by kernel_rfl)
theorem jta:vDa prog 31 2 zAa.pc zAa.ok zAa.bk:=⟨by kernel_rfl,fun _=>rfl,fun {H enc W fuel cs d} h=>by
 obtain ⟨xs,n,_,rfl,hl,hlen,hf⟩:=DataW.trod_struct kRa.u h;have hl2:cs.length=2:=hl.trans (by kernel_rfl)
 match xs,hlen with
 | [y0,y1],_=>
  obtain ⟨x0,r0,o0,b0⟩:=jsa.op (show _=some y0 from hf 0 _ rfl)
  replace r0:RelC W _ (List.take (prog.cellsOf 28) (List.drop 0 cs)):=r0
  rw[jsa.cells]at r0;obtain ⟨x1,r1,o1,b1⟩:=QJa.op (show _=some y1 from hf 1 _ rfl)
  replace r1:RelC W _ (List.take (prog.cellsOf 29) (List.drop 1 cs)):=r1
  rw[QJa.cells]at r1;exact ⟨⟨x0,x1⟩,(z2a (off:=0) rfl r0 (z2a (off:=1) rfl r1 (wba hl2))),⟨o0,o1⟩,by simp only[List.map,Rows.uptoBulk,Rows.uptoBulkAll,zAa.bk];omega⟩⟩
theorem KNa:vDa prog 33 5 kua.pc kua.ok kua.bk:=⟨by kernel_rfl,fun _=>rfl,fun {H enc W fuel cs d} h=>by
 obtain ⟨xs,n,_,rfl,hl,hlen,hf⟩:=DataW.trod_struct z9a.u h;have hl2:cs.length=5:=hl.trans (by kernel_rfl)
 match xs,hlen with
 | [y0,y1],_=>
  obtain ⟨x0,r0,o0,b0⟩:=yPa.op (show _=some y0 from hf 0 _ rfl)
  replace r0:RelC W _ (List.take (prog.cellsOf 27) (List.drop 0 cs)):=r0
  rw[yPa.cells]at r0;obtain ⟨x1,r1,o1,b1⟩:=jta.op (show _=some y1 from hf 1 _ rfl)
  replace r1:RelC W _ (List.take (prog.cellsOf 31) (List.drop 3 cs)):=r1
  rw[jta.cells]at r1;exact ⟨⟨x0,x1⟩,(z2a (off:=0) rfl r0 (z2a (off:=3) rfl r1 (wba hl2))),⟨o0,o1⟩,by simp only[List.map,Rows.uptoBulk,Rows.uptoBulkAll,kua.bk];omega⟩⟩
theorem kgb:vDa prog 4 1 cB (fun _=>True) (fun _=>1):=opens_B wMa.u (by kernel_rfl)
theorem Qia:vDa prog 63 4 zda.pc zda.ok zda.bk:=⟨by kernel_rfl,fun _=>rfl,fun {H enc W fuel cs d} h=>by
 obtain ⟨xs,n,_,rfl,hl,hlen,hf⟩:=DataW.trod_struct z1a.u h;have hl2:cs.length=4:=hl.trans (by kernel_rfl)
 match xs,hlen with
 | [y0,y1,y2],_=>
  obtain ⟨x0,r0,o0,b0⟩:=v3a.op (show _=some y0 from hf 0 _ rfl)
  replace r0:RelC W _ (List.take (prog.cellsOf 61) (List.drop 0 cs)):=r0
  rw[v3a.cells]at r0;obtain ⟨x1,r1,o1,b1⟩:=vza.op (show _=some y1 from hf 1 _ rfl)
  replace r1:RelC W _ (List.take (prog.cellsOf 3) (List.drop 2 cs)):=r1
  rw[vza.cells]at r1;obtain ⟨x2,r2,o2,b2⟩:=kgb.op (show _=some y2 from hf 2 _ rfl)
  replace r2:RelC W _ (List.take (prog.cellsOf 4) (List.drop 3 cs)):=r2
  rw[kgb.cells]at r2;exact ⟨⟨x0,x1,x2⟩,(z2a (off:=0) rfl r0 (z2a (off:=2) rfl r1 (z2a (off:=3) rfl r2 (wba hl2)))),⟨o0,o1,o2⟩,by simp only[List.map,Rows.uptoBulk,Rows.uptoBulkAll,zda.bk];omega⟩⟩
theorem yta:vDa prog 55 1 (cL zda.pc) (okL zda.ok) (bkL zda.bk):=ZCa Qia rfl zla.u (by kernel_rfl)
theorem Wxa:vDa prog 57 10 zba.pc zba.ok zba.bk:=⟨by kernel_rfl,fun _=>rfl,fun {H enc W fuel cs d} h=>by
 obtain ⟨xs,n,_,rfl,hl,hlen,hf⟩:=DataW.trod_struct zka.u h;have hl2:cs.length=10:=hl.trans (by kernel_rfl)
 match xs,hlen with
 | [y0,y1,y2,y3,y4,y5],_=>
  obtain ⟨x0,r0,o0,b0⟩:=vza.op (show _=some y0 from hf 0 _ rfl)
  replace r0:RelC W _ (List.take (prog.cellsOf 3) (List.drop 0 cs)):=r0
  rw[vza.cells]at r0;obtain ⟨x1,r1,o1,b1⟩:=KNa.op (show _=some y1 from hf 1 _ rfl)
  replace r1:RelC W _ (List.take (prog.cellsOf 33) (List.drop 1 cs)):=r1
  rw[KNa.cells]at r1;obtain ⟨x2,r2,o2,b2⟩:=vza.op (show _=some y2 from hf 2 _ rfl)
  replace r2:RelC W _ (List.take (prog.cellsOf 3) (List.drop 6 cs)):=r2
  rw[vza.cells]at r2;obtain ⟨x3,r3,o3,b3⟩:=vza.op (show _=some y3 from hf 3 _ rfl)
  replace r3:RelC W _ (List.take (prog.cellsOf 3) (List.drop 7 cs)):=r3
  rw[vza.cells]at r3;obtain ⟨x4,r4,o4,b4⟩:=vza.op (show _=some y4 from hf 4 _ rfl)
  replace r4:RelC W _ (List.take (prog.cellsOf 3) (List.drop 8 cs)):=r4
  rw[vza.cells]at r4;obtain ⟨x5,r5,o5,b5⟩:=yta.op (show _=some y5 from hf 5 _ rfl)
  replace r5:RelC W _ (List.take (prog.cellsOf 55) (List.drop 9 cs)):=r5
  rw[yta.cells]at r5;exact ⟨⟨x0,x1,x2,x3,x4,x5⟩,(z2a (off:=0) rfl r0 (z2a (off:=1) rfl r1 (z2a (off:=6) rfl r2 (z2a (off:=7) rfl r3 (z2a (off:=8) rfl r4 (z2a (off:=9) rfl r5 (wba hl2))))))),⟨o0,o1,o2,o3,o4,o5⟩,by simp only[List.map,Rows.uptoBulk,Rows.uptoBulkAll,zba.bk];omega⟩⟩
theorem jua:vDa prog 22 1 (cL zba.pc) (okL zba.ok) (bkL zba.bk):=ZCa Wxa rfl zma.u (by kernel_rfl)
theorem Wya:vDa prog 24 2 zpa.pc zpa.ok zpa.bk:=⟨by kernel_rfl,fun _=>rfl,fun {H enc W fuel cs d} h=>by
 obtain ⟨xs,n,_,rfl,hl,hlen,hf⟩:=DataW.trod_struct wFa.u h;have hl2:cs.length=2:=hl.trans (by kernel_rfl)
 match xs,hlen with
 | [y0,y1],_=>
  obtain ⟨x0,r0,o0,b0⟩:=jua.op (show _=some y0 from hf 0 _ rfl)
  replace r0:RelC W _ (List.take (prog.cellsOf 22) (List.drop 0 cs)):=r0
  rw[jua.cells]at r0;obtain ⟨x1,r1,o1,b1⟩:=vza.op (show _=some y1 from hf 1 _ rfl)
  replace r1:RelC W _ (List.take (prog.cellsOf 3) (List.drop 1 cs)):=r1
  rw[vza.cells]at r1;exact ⟨⟨x0,x1⟩,(z2a (off:=0) rfl r0 (z2a (off:=1) rfl r1 (wba hl2))),⟨o0,o1⟩,by simp only[List.map,Rows.uptoBulk,Rows.uptoBulkAll,zpa.bk];omega⟩⟩
theorem Vza:vDa prog 49 1 (cL cI) (okL ok64) (bkL (fun _=>1)):=ZCa vza rfl q2a.u (by kernel_rfl)
theorem Qja:vDa prog 51 3 zha.pc zha.ok zha.bk:=⟨by kernel_rfl,fun _=>rfl,fun {H enc W fuel cs d} h=>by
 obtain ⟨xs,n,_,rfl,hl,hlen,hf⟩:=DataW.trod_struct qUa.u h;have hl2:cs.length=3:=hl.trans (by kernel_rfl)
 match xs,hlen with
 | [y0,y1,y2],_=>
  obtain ⟨x0,r0,o0,b0⟩:=vza.op (show _=some y0 from hf 0 _ rfl)
  replace r0:RelC W _ (List.take (prog.cellsOf 3) (List.drop 0 cs)):=r0
  rw[vza.cells]at r0;obtain ⟨x1,r1,o1,b1⟩:=qka.op (show _=some y1 from hf 1 _ rfl)
  replace r1:RelC W _ (List.take (prog.cellsOf 9) (List.drop 1 cs)):=r1
  rw[qka.cells]at r1;obtain ⟨x2,r2,o2,b2⟩:=Vza.op (show _=some y2 from hf 2 _ rfl)
  replace r2:RelC W _ (List.take (prog.cellsOf 49) (List.drop 2 cs)):=r2
  rw[Vza.cells]at r2;exact ⟨⟨x0,x1,x2⟩,(z2a (off:=0) rfl r0 (z2a (off:=1) rfl r1 (z2a (off:=2) rfl r2 (wba hl2)))),⟨o0,o1,o2⟩,by simp only[List.map,Rows.uptoBulk,Rows.uptoBulkAll,zha.bk];omega⟩⟩
def zna(a0:Int)(a1:Int):Option zra:=
 some ((zra.mk a0 a1))
def kda:Option zra:=
 some ((zra.mk 0 0))
def zVa(a0:zra):Option Bool:=
 some ((a0.Code !=0))
def k7a(a0:Int):Option Bool:=
 ((bif decide ((-68719476736)<=a0) then some (decide (a0<=68719476736)) else some false):Option Bool).bind fun (j1:Bool)=>some j1
def vca(a0:UInt8):Option Bool:=
 ((bif decide (97<=(a0.toNat:Int)) then (bif decide ((a0.toNat:Int)<=122) then some true else (bif decide (65<=(a0.toNat:Int)) then (bif decide ((a0.toNat:Int)<=90) then some true else (bif decide (48<=(a0.toNat:Int)) then some (decide ((a0.toNat:Int)<=57)) else some false)) else (bif decide (48<=(a0.toNat:Int)) then some (decide ((a0.toNat:Int)<=57)) else some false))) else (bif decide (65<=(a0.toNat:Int)) then (bif decide ((a0.toNat:Int)<=90) then some true else (bif decide (48<=(a0.toNat:Int)) then some (decide ((a0.toNat:Int)<=57)) else some false)) else (bif decide (48<=(a0.toNat:Int)) then some (decide ((a0.toNat:Int)<=57)) else some false))):Option Bool).bind fun (j1:Bool)=>some j1
def kSa(a0:List Int)(s1:Int):Option (Step Int (Unit ⊕ Bool)):=
 (bif decide (s1 < (a0.length:Int)) then (idx a0 s1).bind fun v7=>(k7a v7).bind fun v9=>(bif (!v9) then some (.out (.inr false)) else some (.cont (w64 (s1+1)))) else some (.out (.inl (()))))
noncomputable def wua(a0:List Int):Option Bool:=
 (iter (kSa a0) 0).bind fun o=>match o with | .inl b2=>some true | .inr b3=>some b3
def zNa(s:Str)(c:UInt8):Option Int:=some (Lib.indexByte s c)
def kwa(s t:Str):Option Bool:=if s.length < 4294967281 then some (Lib.contains s t) else none
def q8a(s t:Str):Option (Str × Str × Bool):=if s.length < 4294967281 then some (Lib.cut s t) else none
def kja(a0:Int):Option Bool:=
 ((bif decide (0<=a0) then some (decide (a0 < 55296)) else some false):Option Bool).bind fun (j1:Bool)=>(bif j1 then some true else ((bif decide (57343 < a0) then some (decide (a0<=1114111)) else some false):Option Bool).bind fun (j4:Bool)=>(bif j4 then some true else some false))
def k0a(a0:Str)(s7:Nat):Option (Step Nat (Unit ⊕ Int)):=
 (bif decide (s7 < a0.length) then (bif ((jqa a0 s7)==65533) then some (.out (.inr (((s7:Nat):Int)))) else some (.cont (s7+wUa a0 s7))) else some (.out (.inl (()))))
def v7a(a0:Str)(a1:Int)(j23:Int × Int)(s36:Int):Option (Step Int Unit):=
 (bif decide (s36 < (((vOa a1)).length:Int)) then (idx a0 ((w64 (j23.2 - s36)))).bind fun v40=>(idx ((vOa a1)) ((w64 (j23.1 - s36)))).bind fun v42=>(bif ((v40.toNat:Int) !=(v42.toNat:Int)) then none else some (.cont (w64 (s36+1)))) else some (.out (())))
noncomputable def k1a(a0:Str)(a1:Int)(j23:Int × Int):Option (Step Int (Unit ⊕ Int)):=
 (iter (v7a a0 a1 j23) 1).bind fun b37=>some (.out (.inr ((w64 (j23.2 - j23.1)))))
noncomputable def k2a(a0:Str)(a1:Int)(s17:Int):Option (Step Int (Unit ⊕ Int)):=
 (bif decide (s17 < (a0.length:Int)) then (idx a0 s17).bind fun v24=>(idx ((vOa a1)) ((w64 ((((vOa a1)).length:Int) - 1)))).bind fun v26=>(bif ((v24.toNat:Int) !=(v26.toNat:Int)) then (cut a0 ((w64 (s17+1))) ((a0.length:Int))).bind fun v29=>(idx ((vOa a1)) ((w64 ((((vOa a1)).length:Int) - 1)))).bind fun v31=>(zNa v29 v31).bind fun v33=>(bif decide (v33 < 0) then some (.out (.inr ((-1)))) else (k1a a0 a1 ((w64 ((((vOa a1)).length:Int) - 1)),(w64 (s17+(w64 (v33+1))))))) else (k1a a0 a1 ((w64 ((((vOa a1)).length:Int) - 1)),s17))) else some (.out (.inl (()))))
noncomputable def z6a(a0:Str)(a1:Int):Option Int:=
 ((bif decide (0<=a1) then some (decide (a1 < 128)) else some false):Option Bool).bind fun (j1:Bool)=>(bif j1 then (zNa a0 ((toU8 a1))).bind fun v4=>some v4 else (bif (a1==65533) then (iter (k0a a0) 0).bind (Sum.elim (fun b8=>some ((-1))) (fun b9=>some b9)) else (kja a1).bind fun v14=>(bif (!v14) then some ((-1)) else (iter (k2a a0 a1) ((w64 ((((vOa a1)).length:Int) - 1)))).bind (Sum.elim (fun b18=>some ((-1))) (fun b19=>some b19)))))
def zFa(a0:Int):Option Bool:=
 some (decide (8 < a0))
noncomputable def k3a(a0:Str)(a1:Str)(s12:Nat):Option (Step Nat (Unit ⊕ Int)):=
 (bif decide (s12 < a0.length) then (z6a a1 ((jqa a0 s12))).bind fun v18=>(bif decide (0<=v18) then some (.out (.inr (((s12:Nat):Int)))) else some (.cont (s12+wUa a0 s12))) else some (.out (.inl (()))))
noncomputable def qKa(a0:Str)(a1:Str):Option Int:=
 (bif (a1==([]:Str)) then some ((-1)) else (bif ((a1.length:Int)==1) then (idx a1 0).bind fun v3=>((bif decide (128<=(v3.toNat:Int)) then some 65533 else some ((v3.toNat:Int))):Option Int).bind fun (j5:Int)=>(z6a a0 j5).bind fun v7=>some v7 else (zFa ((a0.length:Int))).bind fun v9=>(bif v9 then none else (iter (k3a a0 a1) 0).bind (Sum.elim (fun b13=>some ((-1))) (fun b14=>some b14)))))
def QKa(t:Str):Bool:=t.all fun c=>decide (c.toNat < 128)
def kJa(s t:Str):Option Int:=if s.length < 4294967281/\t.length < 4294967281/\2<=t.length/\QKa t=true then some (Lib.indexAny s t) else none
def zWa(a0:Str)(a1:Str):Option Bool:=
 ((bif decide ((a1.length:Int)<=(a0.length:Int)) then (cut a0 0 ((a1.length:Int))).bind fun v3=>some ((v3==a1)) else some false):Option Bool).bind fun (j1:Bool)=>some j1
def kpa(a0:Str)(a1:Str):Option Bool:=
 (zWa a0 a1).bind fun v1=>some v1
def zXa(a0:Str)(a1:Str):Option Bool:=
 ((bif decide ((a1.length:Int)<=(a0.length:Int)) then (cut a0 ((w64 ((a0.length:Int) - (a1.length:Int)))) ((a0.length:Int))).bind fun v3=>some ((v3==a1)) else some false):Option Bool).bind fun (j1:Bool)=>some j1
def kqa(a0:Str)(a1:Str):Option Bool:=
 (zXa a0 a1).bind fun v1=>some v1
def kNa(a0:Str)(s5:Int):Option (Step Int (Unit ⊕ Unit)):=
 (bif decide (s5 < (a0.length:Int)) then (idx a0 s5).bind fun v11=>((bif decide (97<=(v11.toNat:Int)) then (bif decide ((v11.toNat:Int)<=122) then some true else (bif decide (48<=(v11.toNat:Int)) then (bif decide ((v11.toNat:Int)<=57) then some true else (bif ((v11.toNat:Int)==45) then some true else some (((v11.toNat:Int)==46)))) else (bif ((v11.toNat:Int)==45) then some true else some (((v11.toNat:Int)==46))))) else (bif decide (48<=(v11.toNat:Int)) then (bif decide ((v11.toNat:Int)<=57) then some true else (bif ((v11.toNat:Int)==45) then some true else some (((v11.toNat:Int)==46)))) else (bif ((v11.toNat:Int)==45) then some true else some (((v11.toNat:Int)==46))))):Option Bool).bind fun (j13:Bool)=>(bif (!j13) then some (.out (.inr (()))) else some (.cont (w64 (s5+1)))) else some (.out (.inl (()))))
noncomputable def qya(a0:Str):Option Bool:=
 ((bif (a0 !=([]:Str)) then (bif decide ((a0.length:Int)<=60) then ((iter (kNa a0) 0).bind (Sum.elim (fun b6=>some true) (fun b7=>some false)):Option Bool).bind fun (j4:Bool)=>(bif j4 then (kpa a0 (([46]:Str))).bind fun v26=>(bif (!v26) then (kqa a0 (([46]:Str))).bind fun v29=>(bif (!v29) then (kwa a0 (([46,46]:Str))).bind fun v32=>some ((!v32)) else some false) else some false) else some false) else some false) else some false):Option Bool).bind fun (j1:Bool)=>some j1
def k8a(v1:Str × Str × Bool)(s8:Int):Option (Step Int (Unit ⊕ Unit)):=
 (bif decide (s8 < (v1.1.length:Int)) then (idx v1.1 s8).bind fun v14=>((vca v14).bind fun v17=>(bif v17 then some true else (zNa (([45,95,46,43,61]:Str)) v14).bind fun v20=>some (decide (0<=v20))):Option Bool).bind fun (j16:Bool)=>(bif (!j16) then some (.out (.inr (()))) else some (.cont (w64 (s8+1)))) else some (.out (.inl (()))))
noncomputable def qqa(a0:Str):Option (Str × Str × Bool):=
 (q8a a0 (([64]:Str))).bind fun v1=>((bif v1.2.2 then (bif (v1.1 !=([]:Str)) then (bif decide ((v1.1.length:Int)<=60) then ((iter (k8a v1) 0).bind (Sum.elim (fun b9=>some true) (fun b10=>some false)):Option Bool).bind fun (j7:Bool)=>(bif j7 then (qya v1.2.1).bind fun v24=>some v24 else some false) else some false) else some false) else some false):Option Bool).bind fun (j3:Bool)=>some ((v1.1,v1.2.1,j3))
noncomputable def kKa(a0:Str):Option Bool:=
 (qqa a0).bind fun v1=>some v1.2.2
def vna(a0:Str)(s5:Int):Option (Step Int (Unit ⊕ Unit)):=
 (bif decide (s5 < (a0.length:Int)) then (idx a0 s5).bind fun v11=>((vca v11).bind fun v14=>(bif v14 then some true else (bif ((v11.toNat:Int)==45) then some true else (bif ((v11.toNat:Int)==95) then some true else some (((v11.toNat:Int)==46))))):Option Bool).bind fun (j13:Bool)=>(bif (!j13) then some (.out (.inr (()))) else some (.cont (w64 (s5+1)))) else some (.out (.inl (()))))
noncomputable def wVa(a0:Str):Option Bool:=
 ((bif (a0 !=([]:Str)) then (bif decide ((a0.length:Int)<=60) then ((iter (vna a0) 0).bind (Sum.elim (fun b6=>some true) (fun b7=>some false)):Option Bool).bind fun (j4:Bool)=>some j4 else some false) else some false):Option Bool).bind fun (j1:Bool)=>some j1
def qza(a0:Int):Option Bool:=
 ((bif decide (0<=a0) then some (decide (a0<=7)) else some false):Option Bool).bind fun (j1:Bool)=>some j1
def kka(v7:zca)(v19:List zca)(s22:Int):Option (Step Int (Unit ⊕ Int)):=
 (bif decide (s22 < (v19.length:Int)) then (idx v19 s22).bind fun v28=>(bif (v28.Address==v7.Address) then some (.out (.inr s22)) else some (.cont (w64 (s22+1)))) else some (.out (.inl (()))))
noncomputable def kGa(a0:List zca)(s1:Int):Option (Step Int (Unit ⊕ zra)):=
 (bif decide (s1 < (a0.length:Int)) then (idx a0 s1).bind fun v7=>(kKa v7.Address).bind fun v9=>(bif (!v9) then (zna 10 s1).bind fun v12=>some (.out (.inr v12)) else (qza v7.Notify).bind fun v14=>(bif (!v14) then (zna 3 s1).bind fun v17=>some (.out (.inr v17)) else (cut a0 0 s1).bind fun v19=>((iter (kka v7 v19) 0).bind (Sum.elim (fun b23=>some ((-1))) (fun b24=>some b24)):Option Int).bind fun (j21:Int)=>(bif decide (0<=j21) then (zna 7 s1).bind fun v32=>some (.out (.inr v32)) else some (.cont (w64 (s1+1)))))) else some (.out (.inl (()))))
noncomputable def kEa(a0:List zca):Option zra:=
 (iter (kGa a0) 0).bind (Sum.elim (fun b2=>(kda).bind fun v34=>some v34) (fun b3=>some b3))
noncomputable def k9a(a0:zya):Option zra:=
 ((bif (a0.From !=([]:Str)) then (kKa a0.From).bind fun v3=>some ((!v3)) else some false):Option Bool).bind fun (j1:Bool)=>(bif j1 then (zna 10 ((-10))).bind fun v6=>some v6 else ((bif decide ((a0.To.length:Int) < 1) then some true else some (decide (60 < (a0.To.length:Int)))):Option Bool).bind fun (j8:Bool)=>(bif j8 then (zna 2 ((-11))).bind fun v11=>some v11 else ((bif (a0.Id !=([]:Str)) then (wVa a0.Id).bind fun v15=>some ((!v15)) else some false):Option Bool).bind fun (j13:Bool)=>(bif j13 then (zna 10 ((-12))).bind fun v18=>some v18 else (kEa a0.To).bind fun v20=>some v20)))
def z4a(a0:Str)(a1:Str):Option Bool:=
 (kJa a0 a1).bind fun v1=>some (decide (0<=v1))
def vTa(a0:Str)(s5:Int):Option (Step Int (Unit ⊕ Unit)):=
 (bif decide (s5 < (a0.length:Int)) then (idx a0 s5).bind fun v11=>((bif decide (33<=(v11.toNat:Int)) then (bif decide ((v11.toNat:Int)<=126) then some (((v11.toNat:Int) !=58)) else some false) else some false):Option Bool).bind fun (j13:Bool)=>(bif (!j13) then some (.out (.inr (()))) else some (.cont (w64 (s5+1)))) else some (.out (.inl (()))))
noncomputable def yQa(a0:Str):Option Bool:=
 ((bif (a0 !=([]:Str)) then (bif decide ((a0.length:Int)<=60) then ((iter (vTa a0) 0).bind (Sum.elim (fun b6=>some true) (fun b7=>some false)):Option Bool).bind fun (j4:Bool)=>some j4 else some false) else some false):Option Bool).bind fun (j1:Bool)=>some j1
def yRa(a0:Str):Option Bool:=
 (z4a a0 (([13,10,0]:Str))).bind fun v1=>some v1
def qAa(a0:UInt8):Option Bool:=
 ((bif ((a0.toNat:Int)==32) then some true else some (((a0.toNat:Int)==9))):Option Bool).bind fun (j1:Bool)=>some j1
def wWa(a0:Str):Option Bool:=
 ((yRa a0).bind fun v2=>(bif (!v2) then (bif (a0==([]:Str)) then some true else (idx a0 0).bind fun v6=>(qAa v6).bind fun v8=>(bif (!v8) then (idx a0 ((w64 ((a0.length:Int) - 1)))).bind fun v11=>(qAa v11).bind fun v13=>some ((!v13)) else some false)) else some false):Option Bool).bind fun (j1:Bool)=>some j1
def qfa(s1:Int × Int)(j5:Int):Option (Step (Int × Int) Int):=
 some (.cont (j5,(w64 (s1.2+1))))
def wca(a0:Str)(s1:Int × Int):Option (Step (Int × Int) Int):=
 (bif decide (s1.2 < (a0.length:Int)) then ((idx a0 s1.2).bind fun v7=>(qAa v7).bind fun v9=>(bif (!v9) then some true else (idx a0 ((w64 (s1.2 - 1)))).bind fun v12=>(qAa v12).bind fun v14=>some v14):Option Bool).bind fun (j6:Bool)=>(bif j6 then (qfa s1 s1.1) else ((bif decide (0 < s1.1) then some (decide (78 < s1.2)) else some false):Option Bool).bind fun (j17:Bool)=>(bif j17 then some (.out s1.1) else (qfa s1 s1.2))) else some (.out s1.1))
noncomputable def wXa(a0:Str)(a1:Int):Option Int:=
 (iter (wca a0) ((0,(max a1 1)))).bind fun b2=>some b2
noncomputable def vUa(s18:Str × Int × (List Str)):Option (Step (Str × Int × (List Str)) (Str × (List Str))):=
 (bif decide (78 < (s18.1.length:Int)) then (wXa s18.1 s18.2.1).bind fun v22=>(bif (v22==0) then some (.out ((s18.1,s18.2.2))) else (cut s18.1 0 v22).bind fun v25=>(app 8796093022208 s18.2.2 (([v25]:List Str))).bind fun v27=>(cut s18.1 v22 ((s18.1.length:Int))).bind fun v29=>some (.cont (v29,0,v27))) else some (.out ((s18.1,s18.2.2))))
def wHa(v31:List Str)(s34:Int):Option (Step Int (Unit ⊕ ((List Str) × zra))):=
 (bif decide (s34 < (v31.length:Int)) then (idx v31 s34).bind fun v40=>(bif decide (998 < (v40.length:Int)) then (zna 1 s34).bind fun v43=>some (.out (.inr (([],v43)))) else some (.cont (w64 (s34+1)))) else some (.out (.inl (()))))
noncomputable def wYa(a0:Str)(a1:Str):Option ((List Str) × zra):=
 (yQa a0).bind fun v1=>(bif (!v1) then (zna 10 ((-1))).bind fun v4=>some (([],v4)) else (bif decide (4000 < (a1.length:Int)) then (zna 1 ((-1))).bind fun v7=>some (([],v7)) else (wWa a1).bind fun v9=>(bif (!v9) then (zna 11 ((-1))).bind fun v12=>some (([],v12)) else (cat a0 (([58,32]:Str))).bind fun v14=>(cat v14 a1).bind fun v16=>(iter (vUa) ((v16,(w64 ((a0.length:Int)+2)),([]:List Str)))).bind fun b19=>(app 8796093022208 b19.2 (([b19.1]:List Str))).bind fun v31=>(iter (wHa v31) 0).bind (Sum.elim (fun b35=>(kda).bind fun v45=>some ((v31,v45))) (fun b36=>some ((b36.1,b36.2)))))))
noncomputable def qta(a0:List zga)(s4:Int):Option (Step Int (Unit ⊕ zra)):=
 (bif decide (s4 < (a0.length:Int)) then (idx a0 s4).bind fun v10=>(wYa v10.Name v10.Value).bind fun v12=>(zVa v12.2).bind fun v14=>(bif v14 then (zna v12.2.Code s4).bind fun v17=>some (.out (.inr v17)) else some (.cont (w64 (s4+1)))) else some (.out (.inl (()))))
noncomputable def qBa(a0:List zga):Option zra:=
 (bif decide (60 < (a0.length:Int)) then (zna 2 ((-1))).bind fun v2=>some v2 else (iter (qta a0) 0).bind (Sum.elim (fun b5=>(kda).bind fun v19=>some v19) (fun b6=>some b6)))
def qla(v7:(List Str) × zra)(s9:Int × (List UInt8)):Option (Step (Int × (List UInt8)) (List UInt8)):=
 (bif decide (s9.1 < (v7.1.length:Int)) then (idx v7.1 s9.1).bind fun v13=>(app 140737488355328 s9.2 v13).bind fun v15=>(app 140737488355328 v15 (([(13:UInt8),(10:UInt8)]:List UInt8))).bind fun v17=>some (.cont ((w64 (s9.1+1)),v17)) else some (.out s9.2))
noncomputable def qma(a0:zAa)(s1:Int × (List UInt8)):Option (Step (Int × (List UInt8)) (List UInt8)):=
 (bif decide (s1.1 < (a0.Fields.length:Int)) then (idx a0.Fields s1.1).bind fun v5=>(wYa v5.Name v5.Value).bind fun v7=>(iter (qla v7) ((0,s1.2))).bind fun b10=>some (.cont ((w64 (s1.1+1)),b10)) else some (.out s1.2))
noncomputable def voa(a0:zAa):Option (List UInt8):=
 (iter (qma a0) ((0,([]:List UInt8)))).bind fun b2=>(app 140737488355328 b2 (([(13:UInt8),(10:UInt8)]:List UInt8))).bind fun v19=>(app 140737488355328 v19 a0.Body).bind fun v21=>some v21
def vpa(j7:Int × Int):Option (Step (Int × Int) (Unit ⊕ Int)):=
 some (.cont (j7.1,(w64 (j7.2+1))))
def qLa(a0:List UInt8)(s1:Int × Int):Option (Step (Int × Int) (Unit ⊕ Int)):=
 (bif decide (s1.2 < (a0.length:Int)) then (idx a0 s1.2).bind fun v8=>((bif ((v8.toNat:Int)==13) then (bif decide ((w64 (s1.2+1)) < (a0.length:Int)) then (idx a0 ((w64 (s1.2+1)))).bind fun v13=>some (((v13.toNat:Int)==10)) else some false) else some false):Option Bool).bind fun (j10:Bool)=>(bif j10 then (vpa (0,(w64 (s1.2+1)))) else ((bif ((v8.toNat:Int)==13) then some true else some (((v8.toNat:Int)==10))):Option Bool).bind fun (j16:Bool)=>(bif j16 then some (.out (.inr 11)) else (bif decide (998 < (w64 (s1.1+1))) then some (.out (.inr 1)) else (vpa ((w64 (s1.1+1)),s1.2))))) else some (.out (.inl (()))))
noncomputable def wZa(a0:List UInt8):Option Int:=
 (iter (qLa a0) ((0,0))).bind (Sum.elim (fun b2=>some 0) (fun b3=>some b3))
noncomputable def vVa(a0:List UInt8):Option zra:=
 (wZa a0).bind fun v1=>(bif (v1==11) then (zna 11 ((-5))).bind fun v4=>some v4 else (bif (v1==1) then (zna 1 ((-6))).bind fun v7=>some v7 else (kda).bind fun v9=>some v9))
noncomputable def qna(a0:zAa):Option zra:=
 (qBa a0.Fields).bind fun v1=>(zVa v1).bind fun v3=>(bif v3 then some v1 else (voa a0).bind fun v6=>(bif decide (12000 < (v6.length:Int)) then (zna 1 ((-4))).bind fun v9=>some v9 else (vVa a0.Body).bind fun v11=>some v11))
noncomputable def qra(a0:kua):Option zra:=
 (k9a a0.Envelope).bind fun v1=>(zVa v1).bind fun v3=>(bif v3 then some v1 else (qna a0.Message).bind fun v6=>(zVa v6).bind fun v8=>(bif v8 then (zna v6.Code ((-30))).bind fun v11=>some v11 else (kda).bind fun v13=>some v13))
noncomputable def zQa(a0:List zga):Option (List zga):=
 (nilE a0.isEmpty (some ([])) ((app 4398046511104 ([]:List zga) a0).bind fun v2=>some v2))
noncomputable def kAa(a0:kua):Option kua:=
 ((nilE a0.Envelope.To.isEmpty (some ([])) ((app 5864062014805 ([]:List zca) a0.Envelope.To).bind fun v3=>some v3)):Option (List zca)).bind fun (j1:List zca)=>(zQa a0.Message.Fields).bind fun v5=>((nilE a0.Message.Body.isEmpty (some ([])) ((app 140737488355328 ([]:List UInt8) a0.Message.Body).bind fun v9=>some v9)):Option (List UInt8)).bind fun (j7:List UInt8)=>some ((kua.mk ((zya.mk a0.Envelope.From j1 a0.Envelope.Id)) ((zAa.mk v5 j7))))
def dates_split(a0:Int)(a1:Int):Option (Int × Int):=
 (nz a1).bind fun v1=>(nz a1).bind fun v3=>(nz a1).bind fun v5=>some (((iQuo ((w64 (a0 - (iRem ((w64 ((iRem a0 a1)+a1))) a1)))) a1),(iRem ((w64 ((iRem a0 a1)+a1))) a1)))
def j9a(a0:List Int)(a1:List Int)(s2:Int):Option (Step Int (Unit ⊕ Bool)):=
 (bif decide (s2 < (a0.length:Int)) then (idx a0 s2).bind fun v8=>(idx a1 s2).bind fun v10=>(bif (v8 !=v10) then some (.out (.inr false)) else some (.cont (w64 (s2+1)))) else some (.out (.inl (()))))
noncomputable def QLa(a0:List Int)(a1:List Int):Option Bool:=
 (bif ((a0.length:Int) !=(a1.length:Int)) then some false else (iter (j9a a0 a1) 0).bind (Sum.elim (fun b3=>some true) (fun b4=>some b4)))
def wva(a0:List Str)(s1:Int × (List zca)):Option (Step (Int × (List zca)) (List zca)):=
 (bif decide (s1.1 < (a0.length:Int)) then (idx a0 s1.1).bind fun v5=>(app 5864062014805 s1.2 (([(zca.mk v5 1)]:List zca))).bind fun v7=>some (.cont ((w64 (s1.1+1)),v7)) else some (.out s1.2))
noncomputable def Zaa(a0:List Str):Option kua:=
 (iter (wva a0) ((0,([]:List zca)))).bind fun b2=>some ((kua.mk ((zya.mk (([115,64,120]:Str)) b2 (([55]:Str)))) ((zAa.mk ([]) ([])))))
def ltE(a b:zba):Bool:=decide (a.Due < b.Due) || (decide (a.Due=b.Due) && decide (a.Id < b.Id))
def insE(x:zba):List zba->List zba
 | []=>[x]
 | y::l=>bif ltE y x then y::insE x l else x::y::l
def wNa:List zba->List zba
 | []=>[]
 | x::l=>insE x (wNa l)
def Qka:List zba->Bool
 | []=>true
 | x::l=>l.all (fun y=>ltE x y || ltE y x) && Qka l
def zwa(l:List zba):Option (List zba):=bif Qka l && decide (l.length<=1048576) then some (wNa l) else none
def qoa(s2:Bool × Int)(j8:Bool):Option (Step (Bool × Int) (Bool ⊕ Bool)):=
 some (.cont (j8,(w64 (s2.2+1))))
def kLa(a0:zba)(s2:Bool × Int):Option (Step (Bool × Int) (Bool ⊕ Bool)):=
 (bif decide (s2.2 < (a0.To.length:Int)) then (idx a0.To s2.2).bind fun v9=>((idx a0.Mail.Envelope.To s2.2).bind fun v12=>(bif (!(yDa [(v9.Recipient.Address==v12.Address),(v9.Recipient.Notify==v12.Notify)])) then some true else (bif (v9.Result !=0) then (bif (v9.Result !=1) then (bif (v9.Result !=3) then some true else (bif v9.Busy then some ((v9.Result !=0)) else some false)) else (bif v9.Busy then some ((v9.Result !=0)) else some false)) else (bif v9.Busy then some ((v9.Result !=0)) else some false))):Option Bool).bind fun (j11:Bool)=>(bif j11 then some (.out (.inr false)) else (bif s2.1 then (qoa s2 true) else (qoa s2 (v9.Result==0)))) else some (.out (.inl s2.1)))
noncomputable def qga(a0:zba):Option Bool:=
 (bif ((a0.To.length:Int) !=(a0.Mail.Envelope.To.length:Int)) then some false else (iter (kLa a0) ((false,0))).bind (Sum.elim (fun b3=>some b3) (fun b4=>some b4)))
noncomputable def kCa(a0:zpa)(s9:Int × Int):Option (Step (Int × Int) (Unit ⊕ zra)):=
 (bif decide (s9.2 < (a0.Entries.length:Int)) then (idx a0.Entries s9.2).bind fun v15=>(qra v15.Mail).bind fun v17=>(zVa v17).bind fun v19=>(bif v19 then (zna v17.Code s9.2).bind fun v22=>some (.out (.inr v22)) else ((bif decide (v15.Id<=s9.1) then some true else some (decide (a0.Next<=v15.Id))):Option Bool).bind fun (j24:Bool)=>(bif j24 then (zna 19 s9.2).bind fun v27=>some (.out (.inr v27)) else ((k7a v15.Since).bind fun v30=>(bif (!v30) then some true else (k7a v15.Due).bind fun v33=>(bif (!v33) then some true else (bif decide (v15.Tries < 0) then some true else some (decide (1000000 < v15.Tries))))):Option Bool).bind fun (j29:Bool)=>(bif j29 then (zna 3 s9.2).bind fun v38=>some (.out (.inr v38)) else (qga v15).bind fun v40=>(bif (!v40) then (zna 5 s9.2).bind fun v43=>some (.out (.inr v43)) else some (.cont (v15.Id,(w64 (s9.2+1)))))))) else some (.out (.inl (()))))
noncomputable def kTa(a0:zpa):Option zra:=
 (bif decide (20 < (a0.Entries.length:Int)) then (zna 2 ((-1))).bind fun v2=>some v2 else ((bif decide (a0.Next < 0) then some true else some (decide (1000000 < a0.Next))):Option Bool).bind fun (j4:Bool)=>(bif j4 then (zna 3 ((-2))).bind fun v7=>some v7 else (iter (kCa a0) (((-1),0))).bind (Sum.elim (fun b10=>(kda).bind fun v45=>some v45) (fun b11=>some b11))))
noncomputable def zBa(a0:List zba):Option (List zba):=
 (nilE a0.isEmpty (some ([])) ((app 879609302220 ([]:List zba) a0).bind fun v2=>some v2))
noncomputable def zva(a0:List zda):Option (List zda):=
 (nilE a0.isEmpty (some ([])) ((app 3518437208883 ([]:List zda) a0).bind fun v2=>some v2))
noncomputable def vWa(v23:List zba)(s25:Int × Nat × (List zba)):Option (Step (Int × Nat × (List zba)) ((List zba) × Nat)):=
 (bif decide (s25.1 < (v23.length:Int)) then (idx s25.2.2 s25.1).bind fun v29=>(idx s25.2.2 s25.1).bind fun v31=>(kAa v31.Mail).bind fun v33=>(QHa s25.2.1 s25.1).bind fun v35=>(idx s25.2.2 s25.1).bind fun v37=>(zva v37.To).bind fun v39=>(idx s25.2.2 s25.1).bind fun v41=>(JUa s25.2.1 s25.1).bind fun v43=>(idx ((List.set s25.2.2 (Int.toNat s25.1) ((zba.mk v41.Id v33 v41.Since v41.Tries v41.Due v41.To)))) s25.1).bind fun v45=>some (.cont ((w64 (s25.1+1)),(s25.2.1+1),(List.set ((List.set s25.2.2 (Int.toNat s25.1) ((zba.mk v41.Id v33 v41.Since v41.Tries v41.Due v41.To)))) (Int.toNat s25.1) ((zba.mk v45.Id v45.Mail v45.Since v45.Tries v45.Due v39))))) else some (.out ((s25.2.2,s25.2.1))))
def vda(a1:kua)(s49:Int × (List zda)):Option (Step (Int × (List zda)) (List zda)):=
 (bif decide (s49.1 < (a1.Envelope.To.length:Int)) then (idx a1.Envelope.To s49.1).bind fun v53=>(app 3518437208883 s49.2 (([(zda.mk v53 0 false)]:List zda))).bind fun v55=>some (.cont ((w64 (s49.1+1)),v55)) else some (.out s49.2))
noncomputable def ySa(a0:zpa)(a1:kua)(a2:Int):Option (zpa × Int × zra):=
 (kTa a0).bind fun v1=>(zVa v1).bind fun v3=>(bif v3 then some (((zpa.mk ([]) 0),0,v1)) else (qra a1).bind fun v6=>(zVa v6).bind fun v8=>(bif v8 then (zna v6.Code ((-6))).bind fun v11=>some (((zpa.mk ([]) 0),0,v11)) else (k7a a2).bind fun v13=>(bif (!v13) then (zna 3 ((-7))).bind fun v16=>some (((zpa.mk ([]) 0),0,v16)) else ((bif ((a0.Entries.length:Int)==20) then some true else some ((a0.Next==1000000))):Option Bool).bind fun (j18:Bool)=>(bif j18 then (zna 2 ((-8))).bind fun v21=>some (((zpa.mk ([]) 0),0,v21)) else (zBa a0.Entries).bind fun v23=>(iter (vWa v23) ((0,0,v23))).bind fun b26=>(kAa a1).bind fun v47=>(iter (vda a1) ((0,([]:List zda)))).bind fun b50=>(nall b26.2 (List.length b26.1)).bind fun v57=>(app 879609302220 b26.1 [(zba.mk a0.Next v47 a2 0 a2 b50)]).bind fun v59=>(kda).bind fun v61=>some (((zpa.mk v59 ((w64 (a0.Next+1)))),a0.Next,v61))))))
noncomputable def qaa(a0:Str):Option Str:=
 (qqa a0).bind fun v1=>some v1.2.1
def qXa(a1:Int)(j11:List zba)(s17:Int):Option (Step Int (Unit ⊕ Int)):=
 (bif decide (s17 < (j11.length:Int)) then (idx j11 s17).bind fun v23=>(idx j11 s17).bind fun v25=>(bif decide (a1 < v25.Due) then some (.out (.inr s17)) else some (.cont (w64 (s17+1)))) else some (.out (.inl (()))))
def qYa(a1:Int)(s29:Int × Int × (List zba)):Option (Step (Int × Int × (List zba)) (Int × (List zba))):=
 (bif decide (s29.2.1 < (s29.2.2.length:Int)) then ((idx s29.2.2 s29.2.1).bind fun v34=>(idx s29.2.2 s29.2.1).bind fun v36=>(bif (!(decide (a1 < v36.Due))) then (idx s29.2.2 s29.1).bind fun v39=>(idx s29.2.2 s29.1).bind fun v41=>some (((w64 (s29.1+1)),(List.set s29.2.2 (Int.toNat s29.1) v36))) else some ((s29.1,s29.2.2))):Option (Int × (List zba))).bind fun (j33:Int × (List zba))=>some (.cont (j33.1,(w64 (s29.2.1+1)),j33.2)) else some (.out ((s29.1,s29.2.2))))
noncomputable def kUa(v53:zba)(s55:Int × (List ((Int × Str) × Bool)) × (List (Str × Int))):Option (Step (Int × (List ((Int × Str) × Bool)) × (List (Str × Int))) ((List ((Int × Str) × Bool)) × (List (Str × Int)))):=
 (bif decide (s55.1 < (v53.To.length:Int)) then ((idx v53.To s55.1).bind fun v60=>(qaa v60.Recipient.Address).bind fun v62=>((bif v60.Busy then some ((!(((mget s55.2.1 ((v53.Id,v62))).getD false)))) else some false):Option Bool).bind fun (j64:Bool)=>(bif j64 then some (((mput s55.2.1 ((v53.Id,v62)) true),(mput s55.2.2 v62 ((w64 (((mget s55.2.2 v62).getD 0)+1)))))) else some ((s55.2.1,s55.2.2))):Option ((List ((Int × Str) × Bool)) × (List (Str × Int)))).bind fun (j59:(List ((Int × Str) × Bool)) × (List (Str × Int)))=>some (.cont ((w64 (s55.1+1)),j59.1,j59.2)) else some (.out ((s55.2.1,s55.2.2))))
noncomputable def kVa(a0:zpa)(s49:Int × (List ((Int × Str) × Bool)) × (List (Str × Int))):Option (Step (Int × (List ((Int × Str) × Bool)) × (List (Str × Int))) ((List ((Int × Str) × Bool)) × (List (Str × Int)))):=
 (bif decide (s49.1 < (a0.Entries.length:Int)) then (idx a0.Entries s49.1).bind fun v53=>(iter (kUa v53) ((0,s49.2.1,s49.2.2))).bind fun b56=>some (.cont ((w64 (s49.1+1)),b56.1,b56.2)) else some (.out ((s49.2.1,s49.2.2))))
noncomputable def kWa(v73:zba)(s75:Int × (List (Str × (List Int))) × (List Str)):Option (Step (Int × (List (Str × (List Int))) × (List Str)) ((List (Str × (List Int))) × (List Str))):=
 (bif decide (s75.1 < (v73.To.length:Int)) then ((idx v73.To s75.1).bind fun v80=>(bif (v80.Result !=0) then some ((s75.2.1,s75.2.2)) else (qaa v80.Recipient.Address).bind fun v83=>((bif (mpos s75.2.1 v83).isNone then (app 8796093022208 s75.2.2 (([v83]:List Str))).bind fun v87=>some v87 else some s75.2.2):Option (List Str)).bind fun (j85:List Str)=>(app 17592186044416 (((mget s75.2.1 v83).getD [])) (([s75.1]:List Int))).bind fun v89=>(QCa v89).bind fun v91=>some (((mput s75.2.1 v83 v89),j85))):Option ((List (Str × (List Int))) × (List Str))).bind fun (j79:(List (Str × (List Int))) × (List Str))=>some (.cont ((w64 (s75.1+1)),j79.1,j79.2)) else some (.out ((s75.2.1,s75.2.2))))
def kXa(b50:(List ((Int × Str) × Bool)) × (List (Str × Int)))(v73:zba)(b76:(List (Str × (List Int))) × (List Str))(s95:Int × (List zha) × (List (Str × Int))):Option (Step (Int × (List zha) × (List (Str × Int))) ((List zha) × (List (Str × Int)))):=
 (bif decide (s95.1 < (b76.2.length:Int)) then (idx b76.2 s95.1).bind fun v99=>((bif (!(((mget b50.1 ((v73.Id,v99))).getD false))) then some (decide (((mget s95.2.2 v99).getD 0) < 2)) else some false):Option Bool).bind fun (j101:Bool)=>(bif j101 then (app 2932031007402 s95.2.1 (([(zha.mk v73.Id v99 (((mget b76.1 v99).getD (([]:List Int)))))]:List zha))).bind fun v104=>some (.cont ((w64 (s95.1+1)),v104,(mput s95.2.2 v99 ((w64 (((mget s95.2.2 v99).getD 0)+1)))))) else some (.cont ((w64 (s95.1+1)),s95.2.1,s95.2.2))) else some (.out ((s95.2.1,s95.2.2))))
noncomputable def kYa(v47:List zba)(b50:(List ((Int × Str) × Bool)) × (List (Str × Int)))(s67:Int × (List zha) × (List (Str × Int))):Option (Step (Int × (List zha) × (List (Str × Int))) (List zha)):=
 (bif decide (s67.1 < (v47.length:Int)) then (idx v47 s67.1).bind fun v71=>(idx v47 s67.1).bind fun v73=>(iter (kWa v73) ((0,([]:List (Str × (List Int))),([]:List Str)))).bind fun b76=>(iter (kXa b50 v73 b76) ((0,s67.2.1,s67.2.2))).bind fun b96=>some (.cont ((w64 (s67.1+1)),b96.1,b96.2)) else some (.out s67.2.1))
noncomputable def wwa(a0:zpa)(a1:Int):Option ((List zha) × zra):=
 (kTa a0).bind fun v1=>(zVa v1).bind fun v3=>(bif v3 then some (([],v1)) else (k7a a1).bind fun v6=>(bif (!v6) then (zna 3 ((-7))).bind fun v9=>some (([],v9)) else ((nilE a0.Entries.isEmpty (some (([]:List zba))) ((app 879609302220 ([]:List zba) a0.Entries).bind fun v13=>some v13)):Option (List zba)).bind fun (j11:List zba)=>(((iter (qXa a1 j11) 0).bind (Sum.elim (fun b18=>some ((-1))) (fun b19=>some b19)):Option Int).bind fun (j16:Int)=>(bif (j16==(-1)) then some j11 else (iter (qYa a1) ((j16,(w64 (j16+1)),j11))).bind fun b30=>(cut b30.2 b30.1 (b30.2.length:Int)).bind fun v43=>(cut ((clr0 b30.2 (Int.toNat b30.1) ((zba.mk 0 ((kua.mk ((zya.mk (([]:Str)) ([]) (([]:Str)))) ((zAa.mk ([]) ([]))))) 0 0 0 ([]))))) 0 b30.1).bind fun v45=>some v45):Option (List zba)).bind fun (j15:List zba)=>(zwa j15).bind fun v47=>(iter (kVa a0) ((0,([]:List ((Int × Str) × Bool)),([]:List (Str × Int))))).bind fun b50=>(iter (kYa v47 b50) ((0,([]:List zha),b50.2))).bind fun b68=>(kda).bind fun v106=>some ((b68,v106))))
def qpa(a0:zpa)(a1:zha)(s7:Int):Option (Step Int (Unit ⊕ Int)):=
 (bif decide (s7 < (a0.Entries.length:Int)) then (idx a0.Entries s7).bind fun v13=>(bif (v13.Id==a1.Entry) then some (.out (.inr s7)) else some (.cont (w64 (s7+1)))) else some (.out (.inl (()))))
noncomputable def kha(a1:zha)(a2:Bool)(v19:zba)(s26:Int):Option (Step Int (Unit ⊕ (Int × zra))):=
 (bif decide (s26 < (a1.To.length:Int)) then (idx a1.To s26).bind fun v32=>((bif decide (v32 < 0) then some true else (bif decide ((v19.To.length:Int)<=v32) then some true else (bif decide (0 < s26) then (idx a1.To ((w64 (s26 - 1)))).bind fun v38=>some (decide (v32<=v38)) else some false))):Option Bool).bind fun (j34:Bool)=>(bif j34 then (zna 3 s26).bind fun v41=>some (.out (.inr ((0,v41)))) else (idx v19.To v32).bind fun v43=>(qaa v43.Recipient.Address).bind fun v45=>(bif (v45 !=a1.Domain) then (zna 5 s26).bind fun v48=>some (.out (.inr ((0,v48)))) else ((idx v19.To v32).bind fun v51=>(bif (v51.Result !=0) then some true else (idx v19.To v32).bind fun v54=>some ((v54.Busy !=a2))):Option Bool).bind fun (j50:Bool)=>(bif j50 then (zna 8 s26).bind fun v57=>some (.out (.inr ((0,v57)))) else some (.cont (w64 (s26+1)))))) else some (.out (.inl (()))))
noncomputable def qMa(a0:zpa)(a1:zha)(a2:Bool):Option (Int × zra):=
 (kTa a0).bind fun v1=>(zVa v1).bind fun v3=>(bif v3 then some ((0,v1)) else ((iter (qpa a0 a1) 0).bind (Sum.elim (fun b8=>some ((-1))) (fun b9=>some b9)):Option Int).bind fun (j6:Int)=>(bif decide (j6 < 0) then (zna 6 ((-3))).bind fun v17=>some ((0,v17)) else (idx a0.Entries j6).bind fun v19=>((bif ((a1.To.length:Int)==0) then some true else some (decide ((v19.To.length:Int) < (a1.To.length:Int)))):Option Bool).bind fun (j21:Bool)=>(bif j21 then (zna 2 ((-4))).bind fun v24=>some ((0,v24)) else (iter (kha a1 a2 v19) 0).bind (Sum.elim (fun b27=>(kda).bind fun v59=>some ((j6,v59))) (fun b28=>some ((b28.1,b28.2)))))))
noncomputable def Zba(v10:zba)(s12:Int × (List ((Int × Str) × Bool)) × (List (Str × Int))):Option (Step (Int × (List ((Int × Str) × Bool)) × (List (Str × Int))) ((List ((Int × Str) × Bool)) × (List (Str × Int)))):=
 (bif decide (s12.1 < (v10.To.length:Int)) then ((idx v10.To s12.1).bind fun v17=>(qaa v17.Recipient.Address).bind fun v19=>((bif v17.Busy then some ((!(((mget s12.2.1 ((v10.Id,v19))).getD false)))) else some false):Option Bool).bind fun (j21:Bool)=>(bif j21 then some (((mput s12.2.1 ((v10.Id,v19)) true),(mput s12.2.2 v19 ((w64 (((mget s12.2.2 v19).getD 0)+1)))))) else some ((s12.2.1,s12.2.2))):Option ((List ((Int × Str) × Bool)) × (List (Str × Int)))).bind fun (j16:(List ((Int × Str) × Bool)) × (List (Str × Int)))=>some (.cont ((w64 (s12.1+1)),j16.1,j16.2)) else some (.out ((s12.2.1,s12.2.2))))
noncomputable def yia(a0:zpa)(s6:Int × (List ((Int × Str) × Bool)) × (List (Str × Int))):Option (Step (Int × (List ((Int × Str) × Bool)) × (List (Str × Int))) ((List ((Int × Str) × Bool)) × (List (Str × Int)))):=
 (bif decide (s6.1 < (a0.Entries.length:Int)) then (idx a0.Entries s6.1).bind fun v10=>(iter (Zba v10) ((0,s6.2.1,s6.2.2))).bind fun b13=>some (.cont ((w64 (s6.1+1)),b13.1,b13.2)) else some (.out ((s6.2.1,s6.2.2))))
noncomputable def yja(v29:List zba)(s31:Int × Nat × (List zba)):Option (Step (Int × Nat × (List zba)) ((List zba) × Nat)):=
 (bif decide (s31.1 < (v29.length:Int)) then (idx s31.2.2 s31.1).bind fun v35=>(idx s31.2.2 s31.1).bind fun v37=>(kAa v37.Mail).bind fun v39=>(QHa s31.2.1 s31.1).bind fun v41=>(idx s31.2.2 s31.1).bind fun v43=>(zva v43.To).bind fun v45=>(idx s31.2.2 s31.1).bind fun v47=>(JUa s31.2.1 s31.1).bind fun v49=>(idx ((List.set s31.2.2 (Int.toNat s31.1) ((zba.mk v47.Id v39 v47.Since v47.Tries v47.Due v47.To)))) s31.1).bind fun v51=>some (.cont ((w64 (s31.1+1)),(s31.2.1+1),(List.set ((List.set s31.2.2 (Int.toNat s31.1) ((zba.mk v47.Id v39 v47.Since v47.Tries v47.Due v47.To)))) (Int.toNat s31.1) ((zba.mk v51.Id v51.Mail v51.Since v51.Tries v51.Due v45))))) else some (.out ((s31.2.2,s31.2.1))))
def vqa(a1:zha)(v1:Int × zra)(b32:(List zba) × Nat)(s53:Int × (List zba)):Option (Step (Int × (List zba)) (List zba)):=
 (bif decide (s53.1 < (a1.To.length:Int)) then (idx a1.To s53.1).bind fun v57=>(idx s53.2 v1.1).bind fun v59=>(nown b32.2 v1.1).bind fun v61=>(idx s53.2 v1.1).bind fun v63=>(idx s53.2 v1.1).bind fun v65=>(idx v65.To v57).bind fun v67=>(idx s53.2 v1.1).bind fun v69=>(idx v69.To v57).bind fun v71=>some (.cont ((w64 (s53.1+1)),(List.set s53.2 (Int.toNat v1.1) ((zba.mk v69.Id v69.Mail v69.Since v69.Tries v69.Due ((List.set v69.To (Int.toNat v57) ((zda.mk v71.Recipient v71.Result true))))))))) else some (.out s53.2))
noncomputable def wfa(a0:zpa)(a1:zha):Option (zpa × zra):=
 (qMa a0 a1 false).bind fun v1=>(zVa v1.2).bind fun v3=>(bif v3 then some (((zpa.mk ([]) 0),v1.2)) else (iter (yia a0) ((0,([]:List ((Int × Str) × Bool)),([]:List (Str × Int))))).bind fun b7=>((bif decide (2<=((mget b7.2 a1.Domain).getD 0)) then some true else some (((mget b7.1 ((a1.Entry,a1.Domain))).getD false))):Option Bool).bind fun (j24:Bool)=>(bif j24 then (zna 8 ((-5))).bind fun v27=>some (((zpa.mk ([]) 0),v27)) else (zBa a0.Entries).bind fun v29=>(iter (yja v29) ((0,0,v29))).bind fun b32=>(iter (vqa a1 v1 b32) ((0,b32.1))).bind fun b54=>(kda).bind fun v73=>some (((zpa.mk b54 a0.Next),v73))))
def kOa(a1:Int)(s17:Int × Int):Option (Step (Int × Int) Int):=
 ((bif decide (s17.2 < a1) then some (decide (s17.1 < 14400)) else some false):Option Bool).bind fun (j20:Bool)=>(bif j20 then some (.cont ((min ((w64 (2 * s17.1))) 14400),(w64 (s17.2+1)))) else some (.out s17.1))
noncomputable def w0a(a0:Int)(a1:Int)(a2:Int):Option (Int × Bool × zra):=
 (wua (([a0,a2]:List Int))).bind fun v1=>(bif (!v1) then (zna 3 ((-2))).bind fun v4=>some ((0,false,v4)) else ((bif decide (a1 < 1) then some true else some (decide (1000000 < a1))):Option Bool).bind fun (j6:Bool)=>(bif j6 then (zna 3 ((-3))).bind fun v9=>some ((0,false,v9)) else (bif decide (a2 < a0) then (zna 19 ((-4))).bind fun v12=>some ((0,false,v12)) else (bif decide ((w64 (a0+345600))<=a2) then (kda).bind fun v15=>some ((0,false,v15)) else (iter (kOa a1) ((60,1))).bind fun b18=>(kda).bind fun v23=>some (((min (min ((w64 (a2+b18))) ((w64 (a0+345600)))) 68719476736),true,v23))))))
def vra(a2:List Int)(s10:Int):Option (Step Int (Unit ⊕ Int)):=
 (bif decide (s10 < (a2.length:Int)) then (idx a2 s10).bind fun v16=>((bif decide (v16 < 1) then some true else some (decide (4 < v16))):Option Bool).bind fun (j18:Bool)=>(bif j18 then some (.out (.inr s10)) else some (.cont (w64 (s10+1)))) else some (.out (.inl (()))))
noncomputable def yka(v34:List zba)(s36:Int × Nat × (List zba)):Option (Step (Int × Nat × (List zba)) ((List zba) × Nat)):=
 (bif decide (s36.1 < (v34.length:Int)) then (idx s36.2.2 s36.1).bind fun v40=>(idx s36.2.2 s36.1).bind fun v42=>(kAa v42.Mail).bind fun v44=>(QHa s36.2.1 s36.1).bind fun v46=>(idx s36.2.2 s36.1).bind fun v48=>(zva v48.To).bind fun v50=>(idx s36.2.2 s36.1).bind fun v52=>(JUa s36.2.1 s36.1).bind fun v54=>(idx ((List.set s36.2.2 (Int.toNat s36.1) ((zba.mk v52.Id v44 v52.Since v52.Tries v52.Due v52.To)))) s36.1).bind fun v56=>some (.cont ((w64 (s36.1+1)),(s36.2.1+1),(List.set ((List.set s36.2.2 (Int.toNat s36.1) ((zba.mk v52.Id v44 v52.Since v52.Tries v52.Due v52.To)))) (Int.toNat s36.1) ((zba.mk v56.Id v56.Mail v56.Since v56.Tries v56.Due v50))))) else some (.out ((s36.2.2,s36.2.1))))
def vsa(a2:List Int)(s62:Int):Option (Step Int (Unit ⊕ Int)):=
 (bif decide (s62 < (a2.length:Int)) then (idx a2 s62).bind fun v68=>((bif (v68==2) then some true else some ((v68==4))):Option Bool).bind fun (j70:Bool)=>(bif j70 then some (.out (.inr s62)) else some (.cont (w64 (s62+1)))) else some (.out (.inl (()))))
def qha(a1:zha)(a2:List Int)(v1:Int × zra)(b37:(List zba) × Nat)(j60:Bool × (List zba))(s90:Int × (List zia) × (List zba)):Option (Step (Int × (List zia) × (List zba)) ((List zia) × (List zba))):=
 (bif decide (s90.1 < (a1.To.length:Int)) then ((idx a1.To s90.1).bind fun v95=>(idx a2 s90.1).bind fun v97=>(nown b37.2 v1.1).bind fun v99=>(idx s90.2.2 v1.1).bind fun v101=>(idx s90.2.2 v1.1).bind fun v103=>(idx v103.To v95).bind fun v105=>(idx s90.2.2 v1.1).bind fun v107=>(idx v107.To v95).bind fun v109=>(((bif (v97==2) then some true else some ((v97==4))):Option Bool).bind fun (j112:Bool)=>(bif j112 then some j60.1 else some false):Option Bool).bind fun (j111:Bool)=>(bif j111 then some ((s90.2.1,(List.set s90.2.2 (Int.toNat v1.1) ((zba.mk v107.Id v107.Mail v107.Since v107.Tries v107.Due ((List.set v107.To (Int.toNat v95) ((zda.mk v109.Recipient v109.Result false))))))))) else (((bif (v97==2) then some true else some ((v97==4))):Option Bool).bind fun (j117:Bool)=>(bif j117 then some 3 else some v97):Option Int).bind fun (j116:Int)=>(nown b37.2 v1.1).bind fun v120=>(idx ((List.set s90.2.2 (Int.toNat v1.1) ((zba.mk v107.Id v107.Mail v107.Since v107.Tries v107.Due ((List.set v107.To (Int.toNat v95) ((zda.mk v109.Recipient v109.Result false)))))))) v1.1).bind fun v122=>(idx ((List.set s90.2.2 (Int.toNat v1.1) ((zba.mk v107.Id v107.Mail v107.Since v107.Tries v107.Due ((List.set v107.To (Int.toNat v95) ((zda.mk v109.Recipient v109.Result false)))))))) v1.1).bind fun v124=>(idx v124.To v95).bind fun v126=>(idx ((List.set s90.2.2 (Int.toNat v1.1) ((zba.mk v107.Id v107.Mail v107.Since v107.Tries v107.Due ((List.set v107.To (Int.toNat v95) ((zda.mk v109.Recipient v109.Result false)))))))) v1.1).bind fun v128=>(idx v128.To v95).bind fun v130=>(idx ((List.set ((List.set s90.2.2 (Int.toNat v1.1) ((zba.mk v107.Id v107.Mail v107.Since v107.Tries v107.Due ((List.set v107.To (Int.toNat v95) ((zda.mk v109.Recipient v109.Result false)))))))) (Int.toNat v1.1) ((zba.mk v128.Id v128.Mail v128.Since v128.Tries v128.Due ((List.set v128.To (Int.toNat v95) ((zda.mk v130.Recipient j116 v130.Busy)))))))) v1.1).bind fun v132=>(app 5864062014805 s90.2.1 (([(zia.mk v132.Id v95 j116)]:List zia))).bind fun v134=>some ((v134,(List.set ((List.set s90.2.2 (Int.toNat v1.1) ((zba.mk v107.Id v107.Mail v107.Since v107.Tries v107.Due ((List.set v107.To (Int.toNat v95) ((zda.mk v109.Recipient v109.Result false)))))))) (Int.toNat v1.1) ((zba.mk v128.Id v128.Mail v128.Since v128.Tries v128.Due ((List.set v128.To (Int.toNat v95) ((zda.mk v130.Recipient j116 v130.Busy)))))))))):Option ((List zia) × (List zba))).bind fun (j94:(List zia) × (List zba))=>some (.cont ((w64 (s90.1+1)),j94.1,j94.2)) else some (.out ((s90.2.1,s90.2.2))))
noncomputable def wga(a0:zpa)(a1:zha)(a2:List Int)(a3:Int):Option (zpa × (List zia) × zra):=
 (qMa a0 a1 true).bind fun v1=>(zVa v1.2).bind fun v3=>(bif v3 then some (((zpa.mk ([]) 0),[],v1.2)) else (bif ((a2.length:Int) !=(a1.To.length:Int)) then (zna 9 ((-6))).bind fun v7=>some (((zpa.mk ([]) 0),[],v7)) else ((iter (vra a2) 0).bind (Sum.elim (fun b11=>some ((-1))) (fun b12=>some b12)):Option Int).bind fun (j9:Int)=>(bif decide (0<=j9) then (zna 3 ((-6))).bind fun v22=>some (((zpa.mk ([]) 0),[],v22)) else (k7a a3).bind fun v24=>(bif (!v24) then (zna 3 ((-7))).bind fun v27=>some (((zpa.mk ([]) 0),[],v27)) else (idx a0.Entries v1.1).bind fun v29=>(bif decide (a3 < v29.Since) then (zna 19 ((-7))).bind fun v32=>some (((zpa.mk ([]) 0),[],v32)) else (zBa a0.Entries).bind fun v34=>(iter (yka v34) ((0,0,v34))).bind fun b37=>(idx b37.1 v1.1).bind fun v58=>(((iter (vsa a2) 0).bind (Sum.elim (fun b63=>some ((-1))) (fun b64=>some b64)):Option Int).bind fun (j61:Int)=>(bif decide (0<=j61) then (idx b37.1 v1.1).bind fun v74=>(idx b37.1 v1.1).bind fun v76=>(idx ((List.set b37.1 (Int.toNat v1.1) ((zba.mk v76.Id v76.Mail v76.Since ((min ((w64 (v74.Tries+1))) 1000000)) v76.Due v76.To)))) v1.1).bind fun v78=>(idx ((List.set b37.1 (Int.toNat v1.1) ((zba.mk v76.Id v76.Mail v76.Since ((min ((w64 (v74.Tries+1))) 1000000)) v76.Due v76.To)))) v1.1).bind fun v80=>(w0a v78.Since v80.Tries a3).bind fun v82=>((bif v82.2.1 then (idx ((List.set b37.1 (Int.toNat v1.1) ((zba.mk v76.Id v76.Mail v76.Since ((min ((w64 (v74.Tries+1))) 1000000)) v76.Due v76.To)))) v1.1).bind fun v86=>(idx ((List.set b37.1 (Int.toNat v1.1) ((zba.mk v76.Id v76.Mail v76.Since ((min ((w64 (v74.Tries+1))) 1000000)) v76.Due v76.To)))) v1.1).bind fun v88=>some ((List.set ((List.set b37.1 (Int.toNat v1.1) ((zba.mk v76.Id v76.Mail v76.Since ((min ((w64 (v74.Tries+1))) 1000000)) v76.Due v76.To)))) (Int.toNat v1.1) ((zba.mk v88.Id v88.Mail v88.Since v88.Tries ((max v82.1 v86.Due)) v88.To)))) else some ((List.set b37.1 (Int.toNat v1.1) ((zba.mk v76.Id v76.Mail v76.Since ((min ((w64 (v74.Tries+1))) 1000000)) v76.Due v76.To))))):Option (List zba)).bind fun (j84:List zba)=>some ((v82.2.1,j84)) else some ((true,b37.1))):Option (Bool × (List zba))).bind fun (j60:Bool × (List zba))=>(iter (qha a1 a2 v1 b37 j60) ((0,([]:List zia),j60.2))).bind fun b91=>((idx b91.2 v1.1).bind fun v137=>(qga v137).bind fun v139=>(bif (!v139) then ((cut3 b91.2 v1.1 ((w64 (v1.1+1))) ((b91.2.length:Int))).bind fun v143=>(bif (v1.1==(w64 (v1.1+1))) then some b91.2 else (cut b91.2 0 v1.1).bind fun v146=>(cut b91.2 ((w64 (v1.1+1))) (b91.2.length:Int)).bind fun v148=>(shft b91.2 v1.1 ((w64 (v1.1+1)))).bind fun v150=>(KBa v150 (((((Int.toNat v1.1)+(b91.2.length - (Int.toNat ((w64 (v1.1+1)))))):Nat):Int)) ((b91.2.length:Int))).bind fun v152=>some ((List.take ((Int.toNat v1.1)+(b91.2.length - (Int.toNat ((w64 (v1.1+1)))))) ((clr0 v150 (Int.toNat (((((Int.toNat v1.1)+(b91.2.length - (Int.toNat ((w64 (v1.1+1)))))):Nat):Int))) ((zba.mk 0 ((kua.mk ((zya.mk (([]:Str)) ([]) (([]:Str)))) ((zAa.mk ([]) ([]))))) 0 0 0 ([])))))))):Option (List zba)).bind fun (j142:List zba)=>some j142 else some b91.2):Option (List zba)).bind fun (j136:List zba)=>(kda).bind fun v154=>some (((zpa.mk j136 a0.Next),b91.1,v154)))))))
def jKa(a1:zha)(v4:Int × zra)(b21:(List zba) × Nat)(s32:Int × (List zba)):Option (Step (Int × (List zba)) (List zba)):=
 (bif decide (s32.1 < (a1.To.length:Int)) then (idx s32.2 v4.1).bind fun v36=>(nown b21.2 v4.1).bind fun v38=>(idx s32.2 v4.1).bind fun v40=>(idx a1.To s32.1).bind fun v42=>(idx s32.2 v4.1).bind fun v44=>(idx v44.To v42).bind fun v46=>(idx s32.2 v4.1).bind fun v48=>(idx v48.To v42).bind fun v50=>some (.cont ((w64 (s32.1+1)),(List.set s32.2 (Int.toNat v4.1) ((zba.mk v48.Id v48.Mail v48.Since v48.Tries v48.Due ((List.set v48.To (Int.toNat v42) ((zda.mk v50.Recipient v50.Result true))))))))) else some (.out s32.2))
def wOa(a1:zha)(a2:List Int)(j3:Int × Int × Int)(b52:(List zba) × Nat)(j63:Int × (List zba))(s88:Int × (List zia) × (List zba)):Option (Step (Int × (List zia) × (List zba)) ((List zia) × (List zba))):=
 (bif decide (s88.1 < (a1.To.length:Int)) then ((idx a2 s88.1).bind fun v93=>(((bif (v93==2) then some true else some ((v93==4))):Option Bool).bind fun (j96:Bool)=>(bif j96 then some j63.1 else some v93):Option Int).bind fun (j95:Int)=>(idx s88.2.2 j3.1).bind fun v99=>(nown b52.2 j3.1).bind fun v101=>(idx s88.2.2 j3.1).bind fun v103=>(idx a1.To s88.1).bind fun v105=>(idx s88.2.2 j3.1).bind fun v107=>(idx v107.To v105).bind fun v109=>(idx s88.2.2 j3.1).bind fun v111=>(idx v111.To v105).bind fun v113=>(idx ((List.set s88.2.2 (Int.toNat j3.1) ((zba.mk v111.Id v111.Mail v111.Since v111.Tries v111.Due ((List.set v111.To (Int.toNat v105) ((zda.mk v113.Recipient v113.Result false)))))))) j3.1).bind fun v115=>(nown b52.2 j3.1).bind fun v117=>(idx ((List.set s88.2.2 (Int.toNat j3.1) ((zba.mk v111.Id v111.Mail v111.Since v111.Tries v111.Due ((List.set v111.To (Int.toNat v105) ((zda.mk v113.Recipient v113.Result false)))))))) j3.1).bind fun v119=>(idx a1.To s88.1).bind fun v121=>(idx ((List.set s88.2.2 (Int.toNat j3.1) ((zba.mk v111.Id v111.Mail v111.Since v111.Tries v111.Due ((List.set v111.To (Int.toNat v105) ((zda.mk v113.Recipient v113.Result false)))))))) j3.1).bind fun v123=>(idx v123.To v121).bind fun v125=>(idx ((List.set s88.2.2 (Int.toNat j3.1) ((zba.mk v111.Id v111.Mail v111.Since v111.Tries v111.Due ((List.set v111.To (Int.toNat v105) ((zda.mk v113.Recipient v113.Result false)))))))) j3.1).bind fun v127=>(idx v127.To v121).bind fun v129=>(bif (j95 !=0) then (idx a1.To s88.1).bind fun v132=>(app 5864062014805 s88.2.1 (([(zia.mk a1.Entry v132 j95)]:List zia))).bind fun v134=>some ((v134,(List.set ((List.set s88.2.2 (Int.toNat j3.1) ((zba.mk v111.Id v111.Mail v111.Since v111.Tries v111.Due ((List.set v111.To (Int.toNat v105) ((zda.mk v113.Recipient v113.Result false)))))))) (Int.toNat j3.1) ((zba.mk v127.Id v127.Mail v127.Since v127.Tries v127.Due ((List.set v127.To (Int.toNat v121) ((zda.mk v129.Recipient j95 v129.Busy))))))))) else some ((s88.2.1,(List.set ((List.set s88.2.2 (Int.toNat j3.1) ((zba.mk v111.Id v111.Mail v111.Since v111.Tries v111.Due ((List.set v111.To (Int.toNat v105) ((zda.mk v113.Recipient v113.Result false)))))))) (Int.toNat j3.1) ((zba.mk v127.Id v127.Mail v127.Since v127.Tries v127.Due ((List.set v127.To (Int.toNat v121) ((zda.mk v129.Recipient j95 v129.Busy)))))))))):Option ((List zia) × (List zba))).bind fun (j92:(List zia) × (List zba))=>some (.cont ((w64 (s88.1+1)),j92.1,j92.2)) else some (.out ((s88.2.1,s88.2.2))))
noncomputable def Zca:Option zpa:=
 (Zaa (([([97,64,121]:Str),([98,64,121]:Str),([99,64,122]:Str)]:List Str))).bind fun v1=>(ySa ((zpa.mk ([]) 0)) v1 0).bind fun v3=>some v3.1
noncomputable def w1a:Option Bool:=
 (Zca).bind fun v1=>(wwa v1 0).bind fun v3=>((bif (v3.2.Code !=0) then some true else (bif ((v3.1.length:Int) !=2) then some true else some (((v1.Entries.length:Int) !=1)))):Option Bool).bind fun (j5:Bool)=>(bif j5 then some false else (idx v3.1 0).bind fun v9=>(wfa v1 v9).bind fun v11=>(idx v3.1 0).bind fun v13=>(wga v11.1 v13 (([1,2]:List Int)) 10).bind fun v15=>((bif (v11.2.Code !=0) then some true else (bif (v15.2.2.Code !=0) then some true else (bif ((v15.1.Entries.length:Int) !=1) then some true else some (((v15.2.1.length:Int) !=1))))):Option Bool).bind fun (j17:Bool)=>(bif j17 then some false else ((idx v3.1 0).bind fun v23=>(bif (v23.Domain==([121]:Str)) then (idx v3.1 0).bind fun v26=>(QLa v26.To (([0,1]:List Int))).bind fun v28=>(bif v28 then (idx v15.2.1 0).bind fun v31=>(bif (yDa [(v31.Entry==0),(v31.Number==0),(v31.Result==1)]) then (idx v15.1.Entries 0).bind fun v34=>(bif (v34.Due==70) then (idx v15.1.Entries 0).bind fun v37=>some ((v37.Tries==1)) else some false) else some false) else some false) else some false):Option Bool).bind fun (j22:Bool)=>some j22))
def zYa(v3:zpa × (List zia) × zra)(v21:zba)(s23:Int)(s29:Int × Int):Option (Step (Int × Int) Int):=
 (bif decide (s29.2 < (v3.2.1.length:Int)) then (((idx v3.2.1 s29.2).bind fun v35=>(bif (v35.Entry==v21.Id) then (idx v3.2.1 s29.2).bind fun v38=>some ((v38.Number==s23)) else some false):Option Bool).bind fun (j34:Bool)=>(bif j34 then some ((w64 (s29.1+1))) else some s29.1):Option Int).bind fun (j33:Int)=>some (.cont (j33,(w64 (s29.2+1)))) else some (.out s29.1))
def zZa(v3:zpa × (List zia) × zra)(v21:zba)(s23:Int)(s41:Bool × Int):Option (Step (Bool × Int) Bool):=
 (bif decide (s41.2 < (v3.1.Entries.length:Int)) then (((idx v3.1.Entries s41.2).bind fun v47=>(bif (v47.Id==v21.Id) then (idx v3.1.Entries s41.2).bind fun v50=>some (((v50.To.length:Int)==(v21.To.length:Int))) else some false):Option Bool).bind fun (j46:Bool)=>(bif j46 then (idx v3.1.Entries s41.2).bind fun v53=>(idx v53.To s23).bind fun v55=>some ((v55.Result==0)) else some s41.1):Option Bool).bind fun (j45:Bool)=>some (.cont (j45,(w64 (s41.2+1)))) else some (.out s41.1))
noncomputable def kla(v3:zpa × (List zia) × zra)(v21:zba)(s23:Int):Option (Step Int (Unit ⊕ Bool)):=
 (bif decide (s23 < (v21.To.length:Int)) then (iter (zYa v3 v21 s23) ((0,0))).bind fun b30=>(iter (zZa v3 v21 s23) ((false,0))).bind fun b42=>(idx v21.To s23).bind fun v57=>((bif (v57.Result==0) then (bif ((b30==1)==b42) then some true else (bif decide (1 < b30) then some true else (bif (!((v57.Result==0))) then (bif decide (0 < b30) then some true else some b42) else some false))) else (bif decide (1 < b30) then some true else (bif (!((v57.Result==0))) then (bif decide (0 < b30) then some true else some b42) else some false))):Option Bool).bind fun (j59:Bool)=>(bif j59 then some (.out (.inr false)) else some (.cont (w64 (s23+1)))) else some (.out (.inl (()))))
noncomputable def kma(a0:zpa)(v3:zpa × (List zia) × zra)(s15:Int):Option (Step Int (Unit ⊕ Bool)):=
 (bif decide (s15 < (a0.Entries.length:Int)) then (idx a0.Entries s15).bind fun v21=>(iter (kla v3 v21) 0).bind (Sum.elim (fun b24=>some (.cont (w64 (s15+1)))) (fun b25=>some (.out (.inr b25)))) else some (.out (.inl (()))))
noncomputable def qia(a0:zpa)(a1:zha)(a2:List Int)(a3:Int):Option Bool:=
 (wfa a0 a1).bind fun v1=>(wga v1.1 a1 a2 a3).bind fun v3=>((w1a).bind fun v6=>(bif (!v6) then some true else (bif (v1.2.Code !=0) then some true else some ((v3.2.2.Code !=0)))):Option Bool).bind fun (j5:Bool)=>(bif j5 then ((w1a).bind fun v12=>(bif v12 then some (((v3.2.1.length:Int)==0)) else some false):Option Bool).bind fun (j11:Bool)=>some j11 else (iter (kma a0 v3) 0).bind (Sum.elim (fun b16=>some ((v3.1.Next==a0.Next))) (fun b17=>some b17)))
section
theorem w64_ns(a b:Nat)(h:b<=a)(ha:a<=9223372036854775807):w64 ((a:Int) - (b:Int))=((a - b:Nat):Int):=by
 rw[wRa (by omega) (by omega)];omega
theorem khb(a:Nat)(h:a<=9223372036854775807):w64 (a:Int)=(a:Int):=wRa (by omega) (by omega)
theorem KOa(c:UInt8)(k:Nat)(hk:OfNat.ofNat k < 256):((c.toNat:Int)==no_index (OfNat.ofNat k:Int))=(c==OfNat.ofNat k):=by
 have e:(OfNat.ofNat k:Int)=((OfNat.ofNat k:Nat):Int):=rfl;have h2:(OfNat.ofNat k:UInt8).toNat=(OfNat.ofNat k:Nat):=by
  show (UInt8.ofNat k).toNat=k;rw[UInt8.toNat_ofNat'];exact Nat.mod_eq_of_lt hk
 rw[Bool.eq_iff_iff,beq_iff_eq,beq_iff_eq,<-UInt8.toNat_inj,h2,e];omega
theorem u8_ne(c:UInt8)(k:Nat)(hk:OfNat.ofNat k < 256):((c.toNat:Int) !=no_index (OfNat.ofNat k:Int))=(c !=OfNat.ofNat k):=by
 unfold bne;rw[KOa c k hk]
section
variable {α:Type}
theorem KPa(l:List α)(i:Nat):idx l (i:Int)=l[i]? :=by unfold idx;rw[if_pos (by omega)];simp
theorem kib{l:List α}{i:Nat}(h:i < l.length):idx l (i:Int)=some l[i]:=by rw[KPa];exact List.getElem?_eq_getElem h
theorem cut_nn{l:List α}{a b:Nat}(h1:a<=b)(h2:b<=l.length):cut l (a:Int) (b:Int)=some ((l.drop a).take (b - a)):=by
 unfold cut;rw[if_pos (by omega)];simp
theorem Wza{l:List α}{a:Nat}(h1:a<=l.length):cut l (a:Int) (l.length:Int)=some (l.drop a):=by
 rw[cut_nn h1 (Nat.le_refl _)];rw[List.take_of_length_le (by simp)]
theorem WAa{l:List α}{b:Nat}(h2:b<=l.length):cut l 0 (b:Int)=some (l.take b):=by
 have:=cut_nn (l:=l) (a:=0) (b:=b) (by omega) h2;simpa using this
theorem wxa{lim:Nat}{l xs:List α}(h:l.length+xs.length<=lim):app lim l xs=some (l++xs):=by unfold app;rw[if_pos h]
theorem cat_ok{a b:Str}(h:a.length+b.length<=9223372036854775807):cat a b=some (a++b):=by unfold cat;rw[if_pos h]
end
section
variable {A R:Type} {body:A->Option (Step A R)}
theorem VAa(Inv:A->Prop)(m:A->Nat)(Post:A->R->Prop)
 (h:∀s,Inv s->(∃r,body s=some (.out r)/\Post s r)∨∃s',body s=some (.cont s')/\Inv s' /\m s' < m s/\∀r,Post s' r->Post s r):
 ∀s,Inv s->∃r,iter body s=some r/\Post s r:=by
 intro s;induction hn:m s using Nat.strongRecOn generalizing s with
 | _ n ih=>
  intro hi;rcases h s hi with ⟨r,h1,h2⟩ | ⟨s',h1,h2,h3,h4⟩
  .exact ⟨r,zKa h1,h2⟩
  obtain ⟨r,h5,h6⟩:=ih (m s') (by omega) s' rfl h2;exact ⟨r,(zTa h1).trans h5,h4 r h6⟩
theorem KQa{α S:Type}(l:List α)(enc:Nat->S->A)(spec:Nat->List α->S->R)
 (h0:∀s,body (enc l.length s)=some (.out (spec l.length [] s)))
 (h1:∀p x r s,l=p++x::r->(body (enc p.length s)=some (.out (spec p.length (x::r) s)))∨∃s',body (enc p.length s)=some (.cont (enc (p.length+1) s'))/\spec p.length (x::r) s=spec (p.length+1) r s'):
 ∀{s0:A} (s:S) (_:s0=enc 0 s),iter body s0=some (spec 0 l s):=by
 have key:∀r p s,l=p++r->iter body (enc p.length s)=some (spec p.length r s):=by
  intro r;induction r with
  | nil=>
   intro p s h;have:p=l:=by simp[h]
   subst this;exact zKa (h0 s)
  | cons x r ih=>
   intro p s h;rcases h1 p x r s h with hb | ⟨s',hb,hs⟩
   .exact zKa hb
   rw[zTa hb,hs];have:=ih (p++ [x]) s' (by simp[h]);simpa using this
 rintro _ s rfl;exact key l [] s rfl
theorem JYa{α S:Type}(l:List α)(enc:Nat->S->A)(spec:Nat->List α->S->R)(Inv:Nat->List α->S->Prop)
 (h0:∀s,Inv l.length [] s->body (enc l.length s)=some (.out (spec l.length [] s)))
 (h1:∀p x r s,l=p++x::r->Inv p.length (x::r) s->(body (enc p.length s)=some (.out (spec p.length (x::r) s)))∨∃s',body (enc p.length s)=some (.cont (enc (p.length+1) s'))/\spec p.length (x::r) s=spec (p.length+1) r s' /\Inv (p.length+1) r s'):
 ∀{s0:A} (s:S) (_:s0=enc 0 s) (_:Inv 0 l s),iter body s0=some (spec 0 l s):=by
 have key:∀r p s,l=p++r->Inv p.length r s->iter body (enc p.length s)=some (spec p.length r s):=by
  intro r;induction r with
  | nil=>
   intro p s h hi;have:p=l:=by simp[h]
   subst this;exact zKa (h0 s hi)
  | cons x r ih=>
   intro p s h hi;rcases h1 p x r s h hi with hb | ⟨s',hb,hs,hi'⟩
   .exact zKa hb
   rw[zTa hb,hs];have:=ih (p++ [x]) s' (by simp[h]) (by simpa using hi');simpa using this
 rintro _ s rfl hi;exact key l [] s rfl hi
end
end
section
section
variable {α R O A S:Type}
def z7a(q:Nat->α->Option R):Nat->List α->Option R
 | _,[]=>none
 | i,x::r=>match q i x with | some y=>some y | none=>z7a q (i+1) r
theorem kta(l:List α)(q:Nat->α->Option R)(oN:O)(oS:R->O){body:Int->Option (Step Int O)}(hl:body (l.length:Int)=some (.out oN))
 (hs:∀(i:Nat) x,l[i]? =some x->body (i:Int)=some ((q i x).elim (.cont ((i+1:Nat):Int)) fun r=>.out (oS r))):
 iter body 0=some ((z7a q 0 l).elim oN oS):=by
 have key:∀r p,l=p++r->iter body (p.length:Int)=some ((z7a q p.length r).elim oN oS):=by
  intro r;induction r with
  | nil=>
   intro p h;have:p=l:=by simp[h]
   subst this;exact zKa hl
  | cons x r ih=>
   intro p h;have hx:=hs p.length x (by simp[h]);unfold z7a;cases hq:q p.length x with
   | some y=>rw[hq]at hx;exact zKa hx
   | none=>
    rw[hq]at hx;rw[zTa hx];have:=ih (p++ [x]) (by simp[h]);simpa using this
 exact key l [] rfl
theorem JZa(l:List α)(enc:Int->S->A)(f:Nat->S->α->S)(out:S->O)(Inv:Nat->S->Prop){body:A->Option (Step A O)}
 (hl:∀s,Inv l.length s->body (enc l.length s)=some (.out (out s)))
 (hs:∀(i:Nat) x s,l[i]? =some x->Inv i s->body (enc i s)=some (.cont (enc ((i+1:Nat):Int) (f i s x)))/\Inv (i+1) (f i s x)) (s:S) (h0:Inv 0 s):
 ∃t,iter body (enc 0 s)=some (out t)/\Inv l.length t/\t=(l.zipIdx.foldl (fun s p=>f p.2 s p.1) s):=by
 have key:∀r p s,l=p++r->Inv p.length s->∃t,iter body (enc (p.length:Int) s)=some (out t)/\Inv l.length t/\t=((r.zipIdx p.length).foldl (fun s p=>f p.2 s p.1) s):=by
  intro r;induction r with
  | nil=>
   intro p s h hi;have:p=l:=by simp[h]
   subst this;exact ⟨s,zKa (hl s hi),hi,rfl⟩
  | cons x r ih=>
   intro p s h hi;obtain ⟨h1,h2⟩:=hs p.length x s (by simp[h]) hi;rw[zTa h1];obtain ⟨t,h3,h4,h5⟩:=ih (p++ [x]) (f p.length s x) (by simp[h]) (by simpa using h2);refine ⟨t,by simpa using h3,h4,?_⟩;rw[h5];simp
 exact key l [] s rfl h0
theorem WBa(f:S->α->S)(l:List α):∀(n:Nat) (s:S),(l.zipIdx n).foldl (fun s p=>f s p.1) s=l.foldl f s:=by
 induction l with
 | nil=>intro n s;rfl
 | cons x r ih=>intro n s;simp[ih]
theorem yTa(l:List α)(enc:Int->S->A)(f:S->α->S)(out:S->O)(Inv:Nat->S->Prop){body:A->Option (Step A O)}
 (hl:∀s,Inv l.length s->body (enc l.length s)=some (.out (out s)))
 (hs:∀(i:Nat) x s,l[i]? =some x->Inv i s->body (enc i s)=some (.cont (enc ((i+1:Nat):Int) (f s x)))/\Inv (i+1) (f s x)) (s:S) (h0:Inv 0 s):
 iter body (enc 0 s)=some (out (l.foldl f s))/\Inv l.length (l.foldl f s):=by
 obtain ⟨t,h1,h2,h3⟩:=JZa l enc (fun _=>f) out Inv hl hs s h0;have:t=l.foldl f s:=by rw[h3];exact WBa f l 0 s
 subst this;exact ⟨h1,h2⟩
theorem ZIa(c:α->Bool)(r:R)(l:List α)(n:Nat):z7a (fun _ x=>if c x then some r else none) n l=if l.any c then some r else none:=by
 induction l generalizing n with
 | nil=>rfl
 | cons x l ih=>unfold z7a;cases h:c x <;> simp[h,ih]
theorem q9a{q:Nat->α->Option R}{l:List α}{n:Nat}:z7a q n l=none↔∀(i:Nat) x,l[i]? =some x->q (n+i) x=none:=by
 induction l generalizing n with
 | nil=>simp[z7a]
 | cons x l ih=>
  unfold z7a;cases h:q n x with
  | some y=>
   simp only[reduceCtorEq,false_iff];intro hh;have:=hh 0 x rfl;rw[Nat.add_zero,h]at this;cases this
  | none=>
   rw[ih];constructor
   .intro hh i y hy;cases i with
    | zero=>simp at hy;subst hy;exact h
    | succ i=>rw[show n+(i+1)=n+1+i by omega];exact hh i y (by simpa using hy)
   intro hh i y hy;rw[show n+1+i=n+(i+1) by omega];exact hh (i+1) y (by simpa using hy)
theorem jLa{q:Nat->α->Option R}{l:List α}{n:Nat}{r:R}(h:z7a q n l=some r):∃(i:Nat) (x:α),l[i]? =some x/\q (n+i) x=some r:=by
 induction l generalizing n with
 | nil=>cases h
 | cons x l ih=>
  unfold z7a at h;cases hq:q n x with
  | some y=>rw[hq]at h;cases h;exact ⟨0,x,rfl,hq⟩
  | none=>
   rw[hq]at h;obtain ⟨i,y,h1,h2⟩:=ih h;exact ⟨i+1,y,by simpa using h1,by rw[show n+(i+1)=n+1+i by omega];exact h2⟩
theorem zIa{l:List α}{i:Nat}{x:α}(h:l[i]? =some x):i < l.length:=(List.getElem?_eq_some_iff.1 h).1
theorem kna{l:List α}{i:Nat}{x:α}(h:l[i]? =some x):decide ((i:Int) < (l.length:Int))=true:=by have:=zIa h;simp;omega
theorem zPa(l:List α):decide ((l.length:Int) < (l.length:Int))=false:=by simp
theorem zza{l:List α}{i:Nat}{x:α}(h:l[i]? =some x):idx l (i:Int)=some x:=by rw[KPa];exact h
end
end
def YEa(c:UInt8):Bool:=(decide (97<=c) && decide (c<=122)) || (decide (65<=c) && decide (c<=90)) || (decide (48<=c) && decide (c<=57))
def ZUa(c:UInt8):Bool:=(decide (97<=c) && decide (c<=122)) || (decide (48<=c) && decide (c<=57)) || c==45 || c==46
def YFa(c:UInt8):Bool:=YEa c || c==45 || c==95 || c==46 || c==43 || c==61
def QMa:Bool->Str->Bool
 | p,[]=> !p
 | p,c::r=>if c=46 then !p && QMa true r else QMa false r
def domP(s:Str):Bool:=decide (s.length<=60) && s.all ZUa && QMa true s
def atP(s:Str):Nat:=s.findIdx (· ==64)
def VBa(s:Str):Bool:=decide (atP s < s.length) && decide (1<=atP s) && decide (atP s<=60) && (s.take (atP s)).all YFa && domP (s.drop (atP s+1))
theorem QNa(k:Nat)(c:UInt8)(hk:OfNat.ofNat k < 256):decide ((no_index (OfNat.ofNat k:Int))<=(c.toNat:Int))=decide ((OfNat.ofNat k:UInt8)<=c):=by
 have e:(OfNat.ofNat k:Int)=((OfNat.ofNat k:Nat):Int):=rfl;have h2:(OfNat.ofNat k:UInt8).toNat=(OfNat.ofNat k:Nat):=by
  show (UInt8.ofNat k).toNat=k;rw[UInt8.toNat_ofNat'];exact Nat.mod_eq_of_lt hk
 rw[Bool.eq_iff_iff,decide_eq_true_eq,decide_eq_true_eq,UInt8.le_iff_toNat_le,h2,e];omega
theorem QOa(k:Nat)(c:UInt8)(hk:OfNat.ofNat k < 256):decide ((c.toNat:Int)<=(no_index (OfNat.ofNat k:Int)))=decide (c<=(OfNat.ofNat k:UInt8)):=by
 have e:(OfNat.ofNat k:Int)=((OfNat.ofNat k:Nat):Int):=rfl;have h2:(OfNat.ofNat k:UInt8).toNat=(OfNat.ofNat k:Nat):=by
  show (UInt8.ofNat k).toNat=k;rw[UInt8.toNat_ofNat'];exact Nat.mod_eq_of_lt hk
 rw[Bool.eq_iff_iff,decide_eq_true_eq,decide_eq_true_eq,UInt8.le_iff_toNat_le,h2,e];omega
theorem yUa(c:UInt8):vca c=some (YEa c):=by
 unfold vca YEa;simp only[QNa 97 c (by decide),QOa 122 c (by decide),QNa 65 c (by decide),QOa 90 c (by decide),QNa 48 c (by decide),QOa 57 c (by decide)];cases decide ((97:UInt8)<=c) <;> cases decide (c<=122) <;> cases decide ((65:UInt8)<=c) <;> cases decide (c<=90) <;> cases decide ((48:UInt8)<=c) <;> cases decide (c<=57) <;> rfl
theorem VCa(s:Str):∀p,QMa p s=(!(p && (s.isEmpty || s.head? ==some 46)) && !(s.getLast? ==some 46) && !Lib.contains s [46,46]):=by
 induction s with
 | nil=>intro p;cases p <;> simp[QMa,Lib.contains,Lib.index]
 | cons c r ih=>
  intro p;have hcont:Lib.contains (c::r) [46,46]=((c==46 && r.head? ==some 46) || Lib.contains r [46,46]):=by
   unfold Lib.contains;rw[Lib.index];have hpre:([46,46]:List UInt8).isPrefixOf (c::r)=(c==46 && r.head? ==some 46):=by
    cases r with
    | nil=>simp[List.isPrefixOf]
    | cons d r=>simp only[List.isPrefixOf,List.head?_cons,Bool.and_true];rw[Bool.eq_iff_iff];simp;constructor <;> rintro ⟨rfl,rfl⟩ <;> exact ⟨rfl,rfl⟩
   rw[hpre];have hg:=Lib.index_ge r [46,46];cases c==46 && r.head? ==some 46 with
   | true=>simp
   | false=>
    simp only[Bool.false_eq_true,if_false,Bool.false_or];by_cases h:Lib.index r [46,46]= -1
    .simp[h]
    have:(Lib.index r [46,46]== -1)=false:=by simpa using h
    rw[this];simp only[Bool.false_eq_true,if_false];rw[Bool.eq_iff_iff];simp;omega
  rw[hcont,QMa];have hlast:(c::r).getLast? =if r.isEmpty then some c else r.getLast? :=by cases r <;> simp
  rw[hlast];by_cases hc:c=46
  .subst hc;rw[if_pos rfl,ih true];cases r with
   | nil=>simp
   | cons d r=>cases p <;> cases hd:(d==46) <;> simp_all [Bool.and_comm,Bool.and_assoc,Bool.and_left_comm]
  have h1:(c==46)=false:=by simpa using hc
  have h2:(some c==some (46:UInt8))=false:=by simpa using hc
  rw[if_neg hc,ih false];cases r with
  | nil=>simp[h1,h2,Lib.contains,Lib.index,hc]
  | cons d r=>simp[h1,h2,hc]
theorem jha(s t:Str):kpa s t=some (t.isPrefixOf s):=by
 unfold kpa zWa;by_cases h:t.length<=s.length
 .have:decide ((t.length:Int)<=(s.length:Int))=true:=by simp;omega
  rw[this,WAa h];simp only[cond_true,Option.bind_some,Option.some.injEq];rw[Bool.eq_iff_iff,beq_iff_eq,List.isPrefixOf_iff_prefix,List.prefix_iff_eq_take];constructor <;> exact fun h=>h.symm
 have:decide ((t.length:Int)<=(s.length:Int))=false:=by simp;omega
 rw[this];simp only[cond_false,Option.bind_some,Option.some.injEq]
 symm
 rw[Bool.eq_false_iff];intro hp;exact h (List.isPrefixOf_iff_prefix.1 hp).length_le
theorem jia(s t:Str)(hs:s.length<=9223372036854775806):kqa s t=some (t.isSuffixOf s):=by
 unfold kqa zXa;by_cases h:t.length<=s.length
 .have:decide ((t.length:Int)<=(s.length:Int))=true:=by simp;omega
  rw[this,w64_ns _ _ h (by omega),Wza (by omega)];simp only[cond_true,Option.bind_some,Option.some.injEq];rw[Bool.eq_iff_iff,beq_iff_eq,List.isSuffixOf_iff_suffix,List.suffix_iff_eq_drop];constructor <;> exact fun h=>h.symm
 have:decide ((t.length:Int)<=(s.length:Int))=false:=by simp;omega
 rw[this];simp only[cond_false,Option.bind_some,Option.some.injEq]
 symm
 rw[Bool.eq_false_iff];intro hp;exact h (List.isSuffixOf_iff_suffix.1 hp).length_le
theorem dom_char(c:UInt8):((bif decide ((97:UInt8)<=c) then (bif decide (c<=122) then some true else (bif decide ((48:UInt8)<=c) then (bif decide (c<=57) then some true else (bif (c==45) then some true else some (c==46))) else (bif (c==45) then some true else some (c==46)))) else (bif decide ((48:UInt8)<=c) then (bif decide (c<=57) then some true else (bif (c==45) then some true else some (c==46))) else (bif (c==45) then some true else some (c==46)))):Option Bool)=some (ZUa c):=by
 unfold ZUa;cases decide ((97:UInt8)<=c) <;> cases decide (c<=122) <;> cases decide ((48:UInt8)<=c) <;> cases decide (c<=57) <;> cases (c==45) <;> rfl
theorem Zda(s:Str)(hs:s.length < 4294967281):qya s=some (domP s):=by
 have hloop:iter (kNa s) 0=some ((z7a (fun _ c=>if !ZUa c then some () else none) 0 s).elim (.inl ()) .inr):=by
  refine kta s _ (Sum.inl ()) Sum.inr ?_ ?_
  .unfold kNa;rw[zPa];rfl
  intro i c hc;have hi:=zIa hc;unfold kNa;rw[kna hc,zza hc];simp only[cond_true,Option.bind_some,KOa c 45 (by decide),KOa c 46 (by decide),QNa 97 c (by decide),QOa 122 c (by decide),QNa 48 c (by decide),QOa 57 c (by decide),dom_char];rw[show ((i:Int)+1)=((i+1:Nat):Int) by omega,khb _ (by omega)];cases ZUa c <;> rfl
 unfold qya domP;rw[hloop,ZIa,VCa];by_cases hn:s=[]
 .subst hn;simp
 have h1:(s !=([]:Str))=true:=by simpa using hn
 rw[h1];simp only[cond_true];by_cases hl:s.length<=60
 .have h2:decide ((s.length:Int)<=60)=true:=by simp;omega
  rw[h2];have hall:s.any (fun c=> !ZUa c)= !(s.all ZUa):=by simp[List.not_all_eq_any_not]
  rw[hall];cases hg:s.all ZUa with
  | false=>simp[hl]
  | true=>
   simp only[Bool.not_true,Bool.false_eq_true,if_false,Option.elim,Option.bind_some,cond_true,jha,jia s [46] (by omega),kwa,if_pos hs];have hp:([46]:Str).isPrefixOf s=(s.head? ==some 46):=by
    cases s with
    | nil=>rfl
    | cons d r=>simp only[List.isPrefixOf,List.head?_cons,Bool.and_true];rw[Bool.eq_iff_iff];simp;exact ⟨fun h=>h.symm,fun h=>h.symm⟩
   have hsf:([46]:Str).isSuffixOf s=(s.getLast? ==some 46):=by
    rw[Bool.eq_iff_iff,List.isSuffixOf_iff_suffix,beq_iff_eq];constructor
    .rintro ⟨t,rfl⟩;simp
    intro h;obtain ⟨ys,rfl⟩:=List.getLast?_eq_some_iff.1 h;exact ⟨ys,rfl⟩
   have he:s.isEmpty=false:=by simpa using hn
   rw[hp,hsf,he];cases s.head? ==some 46 <;> cases s.getLast? ==some 46 <;> cases Lib.contains s [46,46] <;> simp[hl]
 have h2:decide ((s.length:Int)<=60)=false:=by simp;omega
 rw[h2];simp[hl]
theorem VDa(s:Str):Lib.index s [64]=if atP s < s.length then (atP s:Int) else -1:=by
 rw[Lib.index_one];unfold atP;induction s with
 | nil=>rfl
 | cons c r ih=>
  rw[Lib.indexByte,List.findIdx_cons];cases hc:(c==64) with
  | true=>simp
  | false=>
   simp only[Bool.false_eq_true,if_false,cond_false,List.length_cons];rw[ih];by_cases h:r.findIdx (· ==64) < r.length
   .simp only[if_pos h,if_pos (show r.findIdx (· ==64)+1 < r.length+1 by omega)];have:(((r.findIdx (· ==64):Nat):Int)== -1)=false:=by rw[beq_eq_false_iff_ne];omega
    rw[this];simp
   simp only[if_neg h,if_neg (show ¬(r.findIdx (· ==64)+1 < r.length+1) by omega)];simp
theorem cut_at(s:Str):Lib.cut s [64]=if atP s < s.length then (s.take (atP s),s.drop (atP s+1),true) else (s,[],false):=by
 unfold Lib.cut;rw[VDa];by_cases h:atP s < s.length
 .rw[if_pos h,if_pos h,if_pos (by omega)];simp
 rw[if_neg h,if_neg h,if_neg (by omega)]
def QPa(s:Str):Str × Str × Bool:=if atP s < s.length then (s.take (atP s),s.drop (atP s+1),VBa s) else (s,[],false)
theorem kjb(c:UInt8):(YEa c || decide (0<=Lib.indexByte [45,95,46,43,61] c))=YFa c:=by
 unfold YFa;by_cases h1:c=45
 .subst h1;decide
 by_cases h2:c=95
 .subst h2;decide
 by_cases h3:c=46
 .subst h3;decide
 by_cases h4:c=43
 .subst h4;decide
 by_cases h5:c=61
 .subst h5;decide
 rw[beq_eq_false_iff_ne.2 h1,beq_eq_false_iff_ne.2 h2,beq_eq_false_iff_ne.2 h3,beq_eq_false_iff_ne.2 h4,beq_eq_false_iff_ne.2 h5];simp[Lib.indexByte,Ne.symm h1,Ne.symm h2,Ne.symm h3,Ne.symm h4,Ne.symm h5]
theorem w2a(s:Str)(hs:s.length < 4294967281):qqa s=some (QPa s):=by
 have hloop:∀v:Str × Str × Bool,v.1.length < 4294967281->iter (k8a v) 0=some ((z7a (fun _ c=>if !YFa c then some () else none) 0 v.1).elim (.inl ()) .inr):=by
  intro v hv;refine kta v.1 _ (Sum.inl ()) Sum.inr ?_ ?_
  .unfold k8a;rw[zPa];rfl
  intro i c hc;have hi:=zIa hc;unfold k8a;rw[kna hc,zza hc];simp only[cond_true,Option.bind_some,yUa,zNa];rw[show ((i:Int)+1)=((i+1:Nat):Int) by omega,khb _ (by omega)];have hg:=kjb c;cases hl:YEa c with
  | true=>rw[hl]at hg;simp only[Bool.true_or]at hg;rw[<-hg];rfl
  | false=>rw[hl]at hg;simp only[Bool.false_or]at hg;rw[<-hg];cases decide (0<=Lib.indexByte [45,95,46,43,61] c) <;> rfl
 unfold qqa q8a;rw[if_pos hs,cut_at];simp only[Option.bind_some];unfold QPa;by_cases h:atP s < s.length
 .simp only[if_pos h,cond_true];rw[hloop _ (by simp;omega),ZIa];have hall:(s.take (atP s)).any (fun c=> !YFa c)= !((s.take (atP s)).all YFa):=by simp[List.not_all_eq_any_not]
  simp only[hall];have hlen:(s.take (atP s)).length=atP s:=by simp;omega
  rw[hlen,Zda _ (by simp;omega)];unfold VBa;by_cases h0:atP s=0
  .simp[h0]
  have hne:(s.take (atP s) !=([]:Str))=true:=by
   simp only[bne_iff_ne,ne_eq];intro hx;have:=congrArg List.length hx;rw[hlen]at this;simp at this;omega
  rw[hne];by_cases h60:atP s<=60
  .have e:decide ((atP s:Int)<=60)=true:=by simp;omega
   rw[e];cases (s.take (atP s)).all YFa <;> simp[h,h60] <;> omega
  have e:decide ((atP s:Int)<=60)=false:=by simp;omega
  rw[e];simp[h60]
 simp[if_neg h]
theorem YGa(s:Str):(QPa s).2.2=VBa s:=by
 unfold QPa;by_cases h:atP s < s.length
 .rw[if_pos h]
 rw[if_neg h];unfold VBa;simp[h]
theorem wya(s:Str)(hs:s.length < 4294967281):kKa s=some (VBa s):=by
 unfold kKa;rw[w2a s hs];simp[YGa]
section
theorem kkb{α:Type}(c:α->Bool)(l:List α):∀n:Nat,decide ((0:Int)<=(z7a (fun i x=>if c x then some ((i:Nat):Int) else none) n l).getD (-1))=l.any c:=by
 induction l with
 | nil=>intro n;rfl
 | cons x l ih=>
  intro n;unfold z7a;cases hc:c x with
  | true=>simp[hc]
  | false=>simp only[Bool.false_eq_true,if_false,List.any_cons,hc,Bool.false_or];exact ih (n+1)
theorem Kia(o:Option Int):Sum.elim (fun _=>some (-1)) (fun b=>some b) (o.elim (Sum.inl ()) Sum.inr:Unit ⊕ Int)=some (o.getD (-1)):=by cases o <;> rfl
theorem sc(i:Nat)(h:i < 9223372036854775807):w64 ((i:Int)+1)=((i+1:Nat):Int):=by rw[show ((i:Int)+1)=((i+1:Nat):Int) by omega,khb _ (by omega)]
theorem bkL_pos{T:Type}(bk:T->Nat)(l:List T):1<=bkL bk l:=by
 induction l with
 | nil=>simp[bkL]
 | cons y l ih=>unfold bkL;omega
theorem VEa{T:Type}{bk:T->Nat}{l:List T}{x:T}(h:x∈l):bk x+1<=bkL bk l:=by
 induction l with
 | nil=>cases h
 | cons y l ih=>
  unfold bkL;have hp:=bkL_pos bk l;rcases List.mem_cons.1 h with rfl | h
  .omega
  have:=ih h;omega
theorem jMa{T:Type}{bk:T->Nat}(hb:∀x,1<=bk x)(l:List T):l.length+1<=bkL bk l:=by
 induction l with
 | nil=>simp[bkL]
 | cons y l ih=>unfold bkL;have:=hb y;simp;omega
section
variable {α:Type}
end
theorem J0a{V:Type}(m:List (Str × V))(k:Str)(v:V)(x:Str):mget (mput m k v) x=if k==x then some v else mget m x:=by
 induction m with
 | nil=>rfl
 | cons p m ih=>
  obtain ⟨k',v'⟩:=p;unfold mput;by_cases h:k' =k
  .subst h;simp only[beq_self_eq_true,if_true,mget];cases k' ==x <;> simp
  have h1:(k' ==k)=false:=by simpa using h
  rw[h1];simp only[Bool.false_eq_true,if_false,mget];rw[ih];by_cases h2:k' =x
  .subst h2;have:(k==k')=false:=by simpa using fun h' =>h h'.symm
   simp[this]
  have:(k' ==x)=false:=by simpa using h2
  rw[this];simp
section
variable {α A S O:Type}
end
end
theorem jva(o:Option Unit)(a b:Bool):Sum.elim (fun _=>some a) (fun _=>some b) (o.elim (Sum.inl ()) Sum.inr:Unit ⊕ Unit)=some (bif o.isSome then b else a):=by cases o <;> rfl
theorem Zea{α R:Type}(c:α->Bool)(r:R)(l:List α)(n:Nat):(z7a (fun _ x=>if c x then some r else none) n l).isSome=l.any c:=by
 rw[ZIa];cases l.any c <;> rfl
theorem klb{α:Type}(l:List α)(p:α->Bool):l.any (fun x=> !p x)= !l.all p:=by simp[List.not_all_eq_any_not]
theorem zGa(a b:Int):zna a b=some ⟨a,b⟩:=rfl
theorem kra:kda=some ⟨0,0⟩:=rfl
theorem kca(f:zra):zVa f=some (f.Code !=0):=rfl
theorem QQa(o:Option zra)(f:zra):Sum.elim (fun _=>some f) (fun b=>some b) (o.elim (Sum.inl ()) Sum.inr:Unit ⊕ zra)=some (o.getD f):=by cases o <;> rfl
end Go.Proofs.YtgajlblehdboiaaGreat
