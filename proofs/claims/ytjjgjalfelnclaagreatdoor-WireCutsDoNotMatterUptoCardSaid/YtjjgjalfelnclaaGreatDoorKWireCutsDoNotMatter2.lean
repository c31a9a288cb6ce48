/- Part 2 of the proof of the law WireCutsDoNotMatter: what it needs. -/
import Derived.Test.YtjjgjalfelnclaaGreatDoorKWireCutsDoNotMatter1
import Derived.MapKept
import Derived.Laws.Cover3
import Derived.Laws.RangeAny
import Derived.Lib.AppendZeros
import Derived.Test.YtjjgjalfelnclaaGreatDoorRows
import Derived.ProofKit
import Derived.Deep.Slices
import Derived.WalkKit
import Derived.WalkSpells
import Derived.WalkLawsBesides
import Derived.Deep.QuietTactic
import Derived.BigQuiet
import Derived.Lib.Hide
import Derived.Handy
import Derived.Deep.RegionHeld3
import Derived.OpenShut
import Derived.ShutString
import Derived.ChangeOld
import Derived.Below
import Derived.JoinedCond
import Derived.JoinedOf
import Derived.Test.YtjjgjalfelnclaaGreatDoorCards
import Derived.Test.YtjjgjalfelnclaaGreatDoorTie
import Derived.HandedShaped
import Derived.Shelf.Vars
import Derived.Deep.DeepHandedRow
import Derived.Deep.DeepWitnessRowRef
import Derived.Lib.LaidTab
import Derived.Lib.LaidU8
import Derived.LaidMore
import Derived.MakeChecks
import Derived.SevenTiedAt
import Derived.Stop.LaidErr
import Derived.Laws.MakeOwn
set_option linter.unusedVariables false
set_option linter.unusedSimpArgs false
set_option maxRecDepth 100000
set_option maxHeartbeats 40000000
namespace Go.Proofs.YtjjgjalfelnclaaGreatDoor
open Go.RowKit Go.Proofs.Tryz
section
open Go.RowKit Go.Lib Go.Proofs.Tryz
variable {E:Env} {fr:Fr} {σ:Sto} {K:Post} {P:Program} {ρ:Operand->AV}
variable {dst:Option Tmp} {ty:TypeId} {pos:String} {af:Array Edge} {gu:Option (Nat × Bool)}
theorem St.objset{g g' :G}{a:Act}(h:St E g a fr σ){r:Nat}{ob0 ob:AO}(hr:σ.get r=some ob0)(hx:Ext g.w g.u g'.w g'.u)(hl:g'.loc=g.loc)
 (hos:g'.w.os=g.w.os) (htape:g'.w.tape=g.w.tape) (hout:g'.w.output=g.w.output)
 (hb:∀b,b < g.w.heap.size->¬ob0.own (g.loc r) b->g'.w.heap[b]? =g.w.heap[b]? /\g'.u b=g.u b) (hwf:Wf g') (hob:RelO g' r ob)
 (hk:∀l,ob0.own l=ob.own l):St E g' a fr (σ.upd r ob):=by
 have hget:=Sto.get_upd (ob:=ob) hr;have hsome:∀k ob1,(σ.upd r ob).get k=some ob1->∃ob',σ.get k=some ob' /\∀l,ob'.own l=ob1.own l:=by
  intro k ob1 hk1;rw[hget]at hk1;split at hk1
  .rename_i hkr;cases hk1;exact ⟨ob0,hkr▸hr,hk⟩
  exact ⟨_,hk1,fun _=>rfl⟩
 refine ⟨fun d=>(h.fr d).mono hx (fun k _=>by rw[hl]),h.n,h.df.mono hx,⟨?_,?_,?_,?_,hwf⟩⟩
 .intro k ob1 hk1;rw[hget]at hk1;split at hk1
  .rename_i hkr;subst hkr;cases hk1;exact hob
  rename_i hkr;refine (h.so.obj k ob1 hk1).mono hx (by rw[hl]) (fun _ _=>by rw[hl]) fun b' hb' =>hb b' ((h.so.obj k ob1 hk1).block_lt hb') fun hc=>?_
  exact hkr (h.so.apart k r ob1 _ b' hk1 hr hb' hc)
 .intro k k' ob1 ob2 b' h1 h2 h3 h4;obtain ⟨_,e1,q1⟩:=hsome k ob1 h1;obtain ⟨_,e2,q2⟩:=hsome k' ob2 h2;rw[<-q1,hl]at h3;rw[<-q2,hl]at h4;exact h.so.apart k k' _ _ b' e1 e2 h3 h4
 .intro k ob1 b' h1 h2;obtain ⟨_,e1,q1⟩:=hsome k ob1 h1;rw[<-q1,hl]at h2;exact h.so.mine k _ b' e1 h2
 refine h.so.old.trans ⟨hos,htape,hout,hx,fun k hk1 hs=>hb k hk1 fun hc=>?_⟩;rcases h.so.mine r _ k hr hc with h1 | h1
 .exact hs (.inr h1)
 exact hs (.inl h1)
section
variable {α:Type} {F:α->List PV} {l:List α} {r size bytes sb ss k:Nat} {e t:TypeId} {mu:Bool} {zero sz:Value} {d:TypeDesc} {x y:Operand}
theorem j4b{lo hi:Option Operand}{p q:Int}{v:List α}(hN:Nat.ble (k+1) E.N=true)(hx:fr.ev x=.hs r 0)(hr:σ.get r=some (.row e mu size (l.map F)))
 (hlo:lo=none/\p=0∨∃o k,lo=some o/\fr.ev o=.pv (.b (.int k p))) (hhi:hi=none/\q=l.length∨mu=true/\∃o k,hi=some o/\fr.ev o=.pv (.b (.int k q)))
 (ht:TyOk E.P t ss sb sz (.slice e)) (he:TyOk E.P e size bytes zero d) (hv:cut l p q=some v):
 OpTo E ⟨some k,.slice t x lo hi none,ty,pos,af,gu⟩ fr σ ((k,.hs r 0)::fr.clr r) ((σ.clr r).upd r (.row e mu size (v.map F))):=
 ⟨fun g a K Q hst hK=>by
  obtain ⟨h0,h01,h02,rfl⟩:=VEa hv;refine ⟨fun _ _=>trivial,?_⟩;rw[jBe _ _ _ (fun c=>by simp)];have h1:=hst.ev x;rw[hx]at h1;have hob:=hst.so.obj r _ hr;have hlo' :lo.map a.eval=none/\p=0∨∃k,lo.map a.eval=some (.int k p):=by
   rcases hlo with ⟨rfl,rfl⟩ | ⟨o,k,rfl,ho⟩
   .exact .inl ⟨rfl,rfl⟩
   have h2:=hst.ev o;rw[ho]at h2;exact .inr ⟨k,by simp[z6a h2]⟩
  have hhi' :hi.map a.eval=none/\q=l.length∨∃k,hi.map a.eval=some (.int k q):=by
   rcases hhi with ⟨rfl,rfl⟩ | ⟨_,o,k,rfl,ho⟩
   .exact .inl ⟨rfl,rfl⟩
   have h2:=hst.ev o;rw[ho]at h2;exact .inr ⟨k,by simp[z6a h2]⟩
  have hrun:∀ad cap,a.eval x=.slice ad l.length cap->l.length<=cap->(execOp a.eval ⟨some k,.slice t x lo hi none,ty,pos,af,gu⟩).run E.P g.w=
   .ok (.value (.slice (if cap=p.toNat then ad else ad.map (·.add (p.toNat * size))) (q.toNat - p.toNat) (cap - p.toNat))) g.w:=by
   intro ad cap ev hcap;show Sem.run E.P (do let v <-Instr.sliceAt t (a.eval x) (lo.map a.eval) (hi.map a.eval) none;pure (Next.value v)) g.w=_;have hb:=wYa (P:=E.P) (w:=g.w) (len:=l.length) (cap:=cap) (lo:=lo.map a.eval) (hi:=hi.map a.eval) (a:=p) (b:=q) hcap hlo' hhi' h0 h01 h02;rw[ev];simp only[Instr.sliceAt,underlying,program,jAt,Sem.run,ht.u,jAp,jAz,Instr.slice,hb,he.sizeOf]
  have e1:(q - p).toNat=q.toNat - p.toNat:=by omega
  rw[e1]at hK;generalize hls:l.map F=ls at hob;cases hob with
  | nil hl=>
   obtain rfl:l=[]:=by simpa using hls
   have hp:p.toNat=0:=by simp at h02;omega
   have hq:q.toNat=0:=by simp at h02;omega
   generalize h1v:a.eval x=vx at h1;cases h1 with
   | hs h2=>rw[hl]at h2;cases h2
   | hsNil ax=>
    rw[hrun ax 0 h1v (by simp),jBl];have:=hst.row_upd (ob:=.row e mu size ((List.take (q.toNat - p.toNat) (List.drop p.toNat ([]:List α))).map F)) hr (Ext.refl _ _) (fun _ _=>rfl) rfl rfl rfl (fun _ _ _=>⟨rfl,rfl⟩) hst.so.wf (by simp;exact .nil hl) (fun b hb=>.inl hb);refine hK g _ (this.put (jAf hN) ?_);simp only[hp,hq,if_true,Nat.sub_zero];exact .hsNil _ hl
  | @row _ _ _ _ b off cap vs hl hb hn hm hle hz hu hmu hrel=>
   subst hls;simp only[jBd]at hl hle hu;have hlen:((l.drop p.toNat).take (q.toNat - p.toNat)).length=q.toNat - p.toNat:=by simp;omega
   generalize hev:a.eval x=vx at h1;cases h1 with
   | hsNil ax h2=>rw[hl]at h2;cases h2
   | @hs _ _ _ _ _ _ ad h2 ha=>
    rw[hl]at h2;cases h2;rw[hrun (some ad) cap hev hle,jBl];have hst' :=hst.row_upd (g' :=⟨g.w,g.u,fun k=>if k=r then .row b (off+p.toNat) (cap - p.toNat) size (q.toNat - p.toNat) else g.loc k⟩) (ob:=.row e mu size (((l.drop p.toNat).take (q.toNat - p.toNat)).map F)) hr (Ext.refl _ _) (fun k hk=>if_neg hk) rfl rfl rfl (fun _ _ _=>⟨rfl,rfl⟩) hst.so.wf
     (.row (off:=off+p.toNat) (cap:=cap - p.toNat) (by simp only[if_true];rw[jBd,hlen]) hb (by rw[hn];congr 1;omega) (by omega) (by rw[jBd,hlen];omega)
      (fun z hz' =>by obtain ⟨w,hw,rfl⟩:=jCd.1 hz';exact hz _ (jDz (List.mem_of_mem_drop (List.mem_of_mem_take hw))))
      (by
       show g.u b<=_;rw[jBd,hlen];rcases hhi with ⟨_,rfl⟩ | ⟨hmu',_⟩
       .have:off+p.toNat+((l.length:Int).toNat - p.toNat)=off+l.length:=by omega
        rw[this];exact hu
       .rw[hmu hmu'];omega) hmu (fun i j z c hi hj=>by
       simp only[jAk,jAg]at hi;obtain ⟨w,hw,rfl⟩:=hi;have hpl:i < q.toNat - p.toNat:=by have:=(jAd.1 hw).1;omega
       rw[jBc hpl,jBo]at hw;have:=hrel (p.toNat+i) j (F w) c (by simp[hw]) hj;rw[<-jDk]at this;exact this)) (fun b' hb' =>.inl (by simp only[if_true]at hb';rw[hl];exact hb'))
    refine hK ⟨g.w,g.u,fun k=>if k=r then .row b (off+p.toNat) (cap - p.toNat) size (q.toNat - p.toNat) else g.loc k⟩ _ (hst'.put (jAf hN) ?_);split
    .exact .hs (if_pos rfl) (fun hc=>by omega)
    refine .hs (if_pos rfl) (fun hc=>?_);rw[ha (by omega)];show Addr.add _ _=_;rw[vsa,jBg]⟩
theorem j5b{q:Int}{k1:IntKind}{v:List α}(hN:Nat.ble (k+1) E.N=true)(hx:fr.ev x=.hs r 0)(hr:σ.get r=some (.row e true size (l.map F)))(hy:fr.ev y=.pv (.b (.int k1 q)))
 (ht:TyOk E.P t ss sb sz (.slice e)) (he:TyOk E.P e size bytes zero d) (hv:cut l 0 q=some v):
 OpTo E ⟨some k,.slice t x none (some y) none,ty,pos,af,gu⟩ fr σ ((k,.hs r 0)::fr.clr r) ((σ.clr r).upd r (.row e true size (v.map F))):=j4b hN hx hr (.inl ⟨rfl,rfl⟩) (.inr ⟨rfl,y,k1,rfl,hy⟩) ht he hv
theorem St.unmu{g:G}{a:Act}{els:List (List PV)}(h:St E g a fr σ)(hr:σ.get r=some (.row e true size els)):St E g a fr (σ.upd r (.row e false size els)):=by
 refine h.objset hr (Ext.refl _ _) rfl rfl rfl rfl (fun _ _ _=>⟨rfl,rfl⟩) h.so.wf ?_ (fun _=>rfl);cases h.so.obj r _ hr with
 | nil h1=>exact .nil h1
 | row h1 h2 h3 h4 h5 h6 h7 h8 h9=>exact .row h1 h2 h3 h4 h5 h6 h7 (fun hc=>by cases hc) h9
theorem qLb{ops:Array Oper}{ol:List Oper}{els:List (List PV)}(r:Nat)(hr:σ.get r=some (.row e true size els))(h:AWPL E ops ol fr (σ.upd r (.row e false size els)) K):AWPL E ops ol fr σ K:=
 ⟨fun g a hst=>h.go g a (hst.unmu hr)⟩
theorem yDa{c:Code}{els:List (List PV)}(r:Nat)(hr:σ.get r=some (.row e true size els))(h:AWP E c fr (σ.upd r (.row e false size els)) K):AWP E c fr σ K:=
 ⟨fun g a hst=>h.go g a (hst.unmu hr)⟩
theorem krb{n:Int}{kk:IntKind}{v:α}(hx:ρ x=.hs r 0)(hy:ρ y=.pv (.b (.int kk n)))(hr:σ.get r=some (.row e mu size (l.map F)))(ht:TyOk P t ss sb sz (.slice e))(he:TyOk P e size bytes zero d)(hv:idx l n=some v):
 EvQ P ⟨dst,.indexAddr t x y,ty,pos,af,gu⟩ ρ σ (.hp r n.toNat 0):=
 ⟨fun c=>by simp,fun g ρv h hs=>by
  obtain ⟨h1,h2⟩:=ops2 (o:=⟨dst,.indexAddr t x y,ty,pos,af,gu⟩) (x:=x) (y:=y) rfl h;rw[hx]at h1;rw[hy]at h2;have e2:=z6a h2;obtain ⟨hn0,hv⟩:=yCa hv;have hlt:n.toNat < l.length:=(jAd.1 hv).1;have hn2:n < l.length:=by omega
  obtain ⟨i,hi,hsz,hby,hzero⟩:=he.info;obtain ⟨old,ho1,ev,ho3⟩:=(hs r _ hr).old h1;obtain ⟨a0,old⟩:=old;cases old with
  | none=>rw[ho3.2]at hlt;simp at hlt
  | some o=>
   obtain ⟨b,off,cap,cur⟩:=o;obtain ⟨ad,rfl,ha⟩:=ho1.2.2.2.2;have ha:=ha (by have:=ho1.2.2.1;omega);subst ha;refine ⟨.pointer (some ⟨b,(off+n.toNat) * size+0,none⟩),?_,.hp ho3.1 hlt⟩;simp[execOp,Instr.indexAt,e2,ev,oldV,go_sem,asIntOf,underlying,ht.u,sizeOf,typeInfo,hi,hsz,hn0,hn2,vsa,jBg]⟩
theorem YUa{i j f:Nat}{fs:Array Field}{fl:Field}{fsize fbytes:Nat}{fzero:Value}{fd:TypeDesc}(hx:ρ x=.hp r i j)(ht:P.underlying t=some (.struct fs))(hf:fs[f]? =some fl)(hft:TyOk P fl.type fsize fbytes fzero fd)(hz:Nat.beq fsize 0=false):
 EvQ P ⟨dst,.fieldAddr t x f,ty,pos,af,gu⟩ ρ σ (.hp r i (j+fl.offset)):=
 ⟨fun c=>by simp,fun g ρv h _=>by
  have h1:=h x (by simp[Op.operands]);rw[hx]at h1;generalize hv:ρv x=v at h1;cases h1 with
  | @hp _ _ _ b off cap size n hl hi=>
   have hz' :fsize≠0:=by rintro rfl;simp at hz
   refine ⟨_,?_,.hp (j:=j+fl.offset) hl hi⟩;simp[execOp,Instr.fieldAt,Instr.sureAddr,hv,go_sem,underlying,ht,hf,fieldPlace,hft.sizeOf,hz',vsa,jDk]⟩
theorem yOb{g:G}{i j:Nat}{v:α}{vp:Value}(hob:RelO g r (.row e mu size (l.map F)))(hv:l[i]? =some v)(hp:Rel g (.hp r i j) vp):
 ∃b off cap vs,vp=.pointer (some ⟨b,(off+i) * size+j,none⟩)/\g.loc r=.row b off cap size l.length/\g.w.heap[b]? =some (.cells vs e (0,0))/\vs.size=(off+cap) * size/\cap<=maxLen/\l.length<=cap/\(F v).length=size/\(mu=true->g.u b=0)/\
  g.u b<=(off+l.length) * size/\(∀x∈l,(F x).length=size)/\∀i j x c,l[i]? =some x->(F x)[j]? =some c->RelP g.w g.u c (vs.getD ((off+i) * size+j) undef):=by
 generalize hls:l.map F=ls at hob;have hlt:i < l.length:=(jAd.1 hv).1;cases hob with
 | nil hl=>
  obtain rfl:l=[]:=by simpa using hls
  simp at hlt
 | @row _ _ _ _ b off cap vs h1 h2 h3 h3' h4 h5 h6 h7 h9=>
  subst hls;simp only[jBd]at h1 h4 h6;cases hp with
  | @hp _ _ _ b' off' cap' size' n' hl hi=>
   rw[h1]at hl;cases hl;exact ⟨b,off,cap,vs,rfl,h1,h2,h3,h3',h4,h5 _ (jDz (jAi hv)),h7,h6,fun x hx=>h5 _ (jDz hx),fun i j x c hi hj=>h9 i j (F x) c (by simp[hi]) hj⟩
theorem Kyb{off i cap n size j s:Nat}(h1:i < n)(h2:n<=cap)(h3:j+s<=size):(off+i) * size+j+s<=(off+cap) * size:=by
 have:(off+i+1) * size<=(off+cap) * size:=jAy _ (by omega);rw[jBg (off+i)]at this;omega
section
variable {t' :TypeId} {size' bytes' :Nat} {zero' :Value} {d' :TypeDesc} {n:Int} {j:Nat} {v v' :α} {c:PV}
theorem VJa(hx:ρ x=.hp r n.toNat j)(hr:σ.get r=some (.row e mu size (l.map F)))(ht:TyOk P t' size' bytes' zero' d')(hd:dAgg d' =false)(hv:idx l n=some v)(hc:(F v)[j]? =some c):EvQ P ⟨dst,.load t' x,ty,pos,af,gu⟩ ρ σ (.pv c):=
 ⟨fun c=>by simp,fun g ρv h hs=>by
  have h1:=h x (by simp[Op.operands]);rw[hx]at h1;obtain ⟨hn0,hv⟩:=yCa hv;obtain ⟨b,off,cap,vs,e1,e2,e3,e4,e5,e6,e7,e8,e9,e10,e11⟩:=yOb (hs r _ hr) hv h1;have hj:j < size:=by rw[<-e7];exact (jAd.1 hc).1
  have hlt:=(jAd.1 hv).1;refine ⟨_,yra e1 (yIa ht hd (kOa e3 ?_)),.pv (e11 _ _ _ _ hv hc)⟩;rw[e4];exact Kyb (s:=1) hlt e6 hj⟩
theorem Z1a{pcs:List PV}(hx:fr.ev x=.hp r n.toNat j)(hr:σ.get r=some (.row e true size (l.map F)))(hy:(fr.ev y).weak.cells=some (pcs.map .pv))(ht:TyOk E.P t' size' bytes' zero' d')(hz:Nat.beq pcs.length size' =true)
 (hv:idx l n=some v) (hle:Nat.ble (j+pcs.length) (F v).length=true) (hF' :F v' =(F v).take j++pcs++(F v).drop (j+pcs.length)):
 OpTo E ⟨none,.store t' x y,ty,pos,af,gu⟩ fr σ fr (σ.upd r (.row e true size ((l.set n.toNat v').map F))):=
 ⟨fun g a K Q hst hK=>by
  have hle:=jAf hle;have hz:=jAm hz;refine ⟨fun _ _=>trivial,?_⟩;rw[jBe _ _ _ (fun c=>by simp)];have h1:=hst.ev x;rw[hx]at h1;obtain ⟨hn0,hv⟩:=yCa hv;obtain ⟨b,off,cap,cur,e1,e2,e3,e4,e5,e6,e7,e8,e9,e10,e11⟩:=yOb (hst.so.obj r _ hr) hv h1;obtain ⟨v1,v2,v3⟩:=Zya (vNa (hst.ev y)) hy;have hlt:=(jAd.1 hv).1;rw[jBd]at v1;have hfit:=Kyb (off:=off) (s:=pcs.length) (j:=j) (size:=size) hlt e6 (by omega);have hu0:=e8 rfl;have hone:∀u∈(a.eval y).cells.toList,u.oneCell' =true:=by
   intro u hu;obtain ⟨i,hi,rfl⟩:=jDr hu;have h0:=v2 i (by simpa using hi);rw[show (a.eval y).cells.getD i undef=(a.eval y).cells.toList[i] by simp[Array.getD,show i < (a.eval y).cells.size by simpa using hi]]at h0;cases hcase:(a.eval y).cells.toList[i] <;> rw[hcase]at h0 <;> first | rfl | simp[cellV]at h0
  generalize hP:(off+n.toNat) * size+j=p at e1 hfit;have hs:=run_storeCells_at (P:=E.P) b p e (a.eval y).cells.toList 0 cur g.w e3 (by simp;omega) hone;simp only[jCy]at hs;generalize hcs:(cur.toList.take p++(a.eval y).cells.toList++cur.toList.drop (p+(a.eval y).cells.toList.length))=cells at hs;have hrun:(execOp a.eval ⟨none,.store t' x y,ty,pos,af,gu⟩).run E.P g.w=.ok .skip (g.w.setRow b cells.toArray):=by
   show Sem.run E.P (do Instr.storeAt t' (a.eval x) (a.eval y);pure Next.skip) g.w=_;rw[e1];simp only[Instr.storeAt,Instr.sureAddr,storeVar,jAt,jAz,jAp,ht.sizeOf];rw[if_neg (by rw[v1,hz];simp)];simp only[jAt,jAz,jAp,hs]
  rw[hrun,Oper.uponIn_skip];have hyl:(a.eval y).cells.toList.length=pcs.length:=by simpa using v1
  have hclen:cells.length=cur.size:=by rw[<-hcs];simp;omega
  have hget:∀q,q < cur.size->cells[q]? =if p<=q/\q < p+pcs.length then (a.eval y).cells.toList[q - p]? else cur.toList[q]? :=by
   intro q hq;rw[<-hcs,jAx];rcases jBq q p with h2 | h2
   .rw[if_neg (by omega),jAs (by simp;omega),jBc h2]
   rw[jAq (by simp;omega)];simp only[jBt,jCl,show min p cur.size=p by omega];rcases jBq q (p+pcs.length) with h3 | h3
   .rw[if_pos ⟨h2,h3⟩,jAs (by omega)]
   rw[if_neg (by omega),jAq (by omega),jBo]
   congr 1
   omega
  have hheap:∀k,k≠b->(g.w.setRow b cells.toArray).heap[k]? =g.w.heap[k]? :=fun k hk=>by
   simp only[World.setRow,jBx];rw[if_neg (Ne.symm hk)]
  have hnewb:=setRow_heap g.w b cur cells.toArray e _ e3;have hsz:(g.w.setRow b cells.toArray).heap.size=g.w.heap.size:=by simp[World.setRow]
  have hxx:Ext g.w g.u (g.w.setRow b cells.toArray) g.u:=⟨jCi hsz.symm,fun _ _=>jAn _,fun k i hk hi=>by
   by_cases hkb:k=b
   .subst hkb;omega
   simp only[World.cell?];rw[hheap k hkb],fun r' hr' =>(hheap r' (by rintro rfl;rw[e3]at hr';cases hr')).trans hr'⟩
  refine hK ⟨g.w.setRow b cells.toArray,g.u,g.loc⟩ _ (St.put_none (hst.objset hr hxx rfl rfl rfl rfl (fun k hk hne=>⟨hheap k (by rintro rfl;exact hne (by rw[e2];rfl)),rfl⟩) (Wna hst.so.wf (jCi hsz.symm) _) ?_ (fun _=>rfl)));have hFv' :(F v').length=size:=by rw[hF'];simp;omega
  refine .row (off:=off) (by rw[jBd,List.length_set];exact e2) hnewb (by simp[hclen,e4]) e5 (by simpa using e6) (fun z hz' =>?_) (by show g.u b<=_;rw[hu0];exact jDd _) (fun _=>hu0) (fun i' j' z c hi' hj' =>?_)
  .obtain ⟨w,hw,rfl⟩:=jCd.1 hz';rcases List.mem_or_eq_of_mem_set hw with h2 | rfl
   .exact e10 w h2
   exact hFv'
  simp only[jAk,jAg]at hi';obtain ⟨w,hw,rfl⟩:=hi';have hil:i' < l.length:=by have:=(jAd.1 hw).1;simpa using this
  have hwF:(F w).length=size:=by
   rcases List.mem_or_eq_of_mem_set (jAi hw) with h2 | rfl
   .exact e10 w h2
   exact hFv'
  have hjs:j' < size:=by rw[<-hwF];exact (jAd.1 hj').1
  have hpos:(off+i') * size+j' < cur.size:=by rw[e4];exact Kyb (s:=1) hil e6 hjs
  have old:(F w)[j']? =some c->l[i']? =some w->¬(p<=(off+i') * size+j' /\(off+i') * size+j' < p+pcs.length)->RelP (g.w.setRow b cells.toArray) g.u c (cells.toArray.getD ((off+i') * size+j') undef):=by
   intro h2 h3 h4;have h5:=(e11 i' j' w c h3 h2).mono hxx;rw[jAe,jBz,hget _ hpos,if_neg h4];rw[jAe]at h5;simpa using h5
  by_cases hin:i' =n.toNat
  .subst hin;rw[List.getElem?_set_self hlt]at hw;cases hw;have hold:∀c,(F v)[j']? =some c->¬(p<=(off+n.toNat) * size+j' /\(off+n.toNat) * size+j' < p+pcs.length)->RelP (g.w.setRow b cells.toArray) g.u c (cells.toArray.getD ((off+n.toNat) * size+j') undef):=by
    intro c h2 h4;have h5:=(e11 n.toNat j' v c hv h2).mono hxx;rw[jAe,jBz,hget _ hpos,if_neg h4];rw[jAe]at h5;simpa using h5
   rw[hF',jAx]at hj';have hjl:((F v).take j).length=j:=by simp;omega
   rcases jBq j' j with h2 | h2
   .rw[jAs (by omega),jBc h2]at hj';exact hold c hj' (by omega)
   rw[jAq (by omega),hjl]at hj';rcases jBq (j' - j) pcs.length with h3 | h3
   .rw[jAs h3]at hj';have h5:=v3 (j' - j) (.pv c) (by simp[hj']);cases h5 with
    | pv h5=>
     rw[jAe,jBz,hget _ hpos,if_pos (by omega),show (off+n.toNat) * size+j' - p=j' - j by omega];rw[jAe]at h5;have h6:=h5.mono hxx;simpa using h6
   rw[jAq h3,jBo,show j+pcs.length+(j' - j - pcs.length)=j' by omega]at hj';exact hold c hj' (by omega)
  rw[List.getElem?_set_ne (by omega)]at hw;refine old hj' hw ?_;rcases jBq i' n.toNat with h2 | h2
  .have:(off+i' +1) * size<=(off+n.toNat) * size:=jAy _ (by omega);rw[jBg (off+i')]at this;omega
  have:(off+n.toNat+1) * size<=(off+i') * size:=jAy _ (by omega);rw[jBg (off+n.toNat)]at this;omega⟩
end
end
end
section
open Go.RowKit Go.Lib Go.Proofs.Tryz
section
variable {K V:Type} [BEq K]
def mget:List (K × V)->K->Option V
 | [],_=>none
 | (k,v)::r,x=>if k==x then some v else mget r x
def mput:List (K × V)->K->V->List (K × V)
 | [],x,y=>[(x,y)]
 | (k,v)::r,x,y=>if k==x then (x,y)::r else (k,v)::mput r x y
def mpos:List (K × V)->K->Option Nat
 | [],_=>none
 | (k,_)::r,x=>if k==x then some 0 else (mpos r x).map (· +1)
theorem mget_pos(l:List (K × V))(x:K):mget l x=(mpos l x).bind fun i=>(l[i]?).map (·.2):=by
 induction l with
 | nil=>rfl
 | cons p r ih=>
  obtain ⟨k,v⟩:=p;unfold mget mpos;split
  .simp
  rw[ih];cases mpos r x <;> simp
theorem yPb(l:List (K × V))(x:K)(y:V):mput l x y=match mpos l x with | some i=>l.set i (x,y) | none=>l++ [(x,y)]:=by
 induction l with
 | nil=>rfl
 | cons p r ih=>
  obtain ⟨k,v⟩:=p;unfold mput mpos;split
  .simp
  rw[ih];cases mpos r x <;> simp
theorem Kzb{l:List (K × V)}{x:K}{i:Nat}(h:mpos l x=some i):∃p,l[i]? =some p/\(p.1==x)=true:=by
 induction l generalizing i with
 | nil=>cases h
 | cons p r ih=>
  obtain ⟨k,v⟩:=p;unfold mpos at h;split at h
  .rename_i hk;cases h;exact ⟨(k,v),rfl,hk⟩
  obtain ⟨j,hj,rfl⟩:=jAg.1 h;obtain ⟨p,hp,hx⟩:=ih hj;exact ⟨p,by simpa using hp,hx⟩
end
def posK{K:Type}[BEq K]:List K->K->Option Nat
 | [],_=>none
 | k::r,x=>if k==x then some 0 else (posK r x).map (· +1)
theorem KAb{K V:Type}[BEq K](l:List (K × V))(x:K):mpos l x=posK (l.map (·.1)) x:=by
 induction l with
 | nil=>rfl
 | cons p r ih=>
  obtain ⟨k,v⟩:=p;simp only[jCh,posK,mpos,ih]
structure KeyK (K:Type) [BEq K] [LawfulBEq K] where
 kf:K->Value
 ok:Program->TypeId->Prop
 find:∀{P:Program} {kt:TypeId},ok P kt->∀(w:World) (x:K) (ks:List K) (ents:List MapEntry),ents.map (·.key)=ks.map kf->(Instr.findKey kt (kf x) ents).run P w=.ok ((posK ks x).bind fun j=>(ents[j]?).map fun e=>(j,e.val)) w
 check:∀{P:Program} {kt:TypeId},ok P kt->∀(w:World) (x:K) (b:Bool),(Instr.checkKey b 10000 kt (kf x)).run P w=.ok () w
 stay:∀{P:Program} (w:World) (x:K),(Instr.keyThatStays (kf x) (kf x)).run P w=.ok (kf x) w
theorem W2a{K:Type}[BEq K][LawfulBEq K]{kd:TypeDesc}{kf:K->Value}(same:∀a b:K,Instr.sameNow kd (kf a) (kf b)=some (a==b)){k:K}:∀(ks:List K) {ents:List MapEntry} (i:Nat),ents.map (·.key)=ks.map kf->
 Instr.findNow kd (kf k) ents i=some ((posK ks k).bind fun j=>(ents[j]?).map fun x=>(i+j,x.val))
 | [],ents,i,h=>by
  have:ents=[]:=by simpa using h
  subst this;rfl
 | k' ::r,ents,i,h=>by
  match ents,h with
  | x::xs,h=>
   simp only[jCh,List.cons.injEq]at h;unfold Instr.findNow posK;rw[h.1,same];by_cases hkk:k' =k
   .subst hkk;simp
   have e1:(k==k')=false:=by simpa using fun h:k=k' =>hkk h.symm
   have e2:(k' ==k)=false:=by simpa using hkk
   rw[e1,e2];simp only[jAr,if_false];rw[W2a same r (i+1) h.2];cases posK r k <;> simp[jDk,Nat.add_comm 1]
def keyS:KeyK Str where
 kf s:=.string (strB s)
 ok P kt:=P.underlying kt=some .string
 find {P kt} h w x ks ents hk:=by
  have h1:=W2a (kd:=.string) (kf:=fun s:Str=>.string (strB s)) (fun a b=>by
   simp only[Instr.sameNow,Option.some.injEq];rw[jAo,MapKept.bytes_beq];simp only[beq_iff_eq];constructor
   .intro h;have:=congrArg ByteArray.toList h
    rwa [YPa,YPa]at this
   rintro rfl;rfl) (k:=x) ks 0 hk
  refine (MapKept.run_findKey h h1).trans ?_;cases posK ks x <;> simp
 check h w x b:=MapKept.run_checkKey h (k:=.string (strB x)) trivial b 9999
 stay w x:=MapKept.run_keyThatStays (d:=.string) (k:=.string (strB x)) trivial
def qMb:List AV->Option (List Value)
 | []=>some []
 | .pv (.b v)::r=>(qMb r).map (v:: ·)
 | _=>none
def keyOf:AV->Option Value
 | .pv (.b v)=>some v
 | .agg cs=>(qMb cs).map fun l=>.agg l.toArray
 | _=>none
theorem zyb{g:G}:∀{cs:List AV} {l:List Value} {vs:List Value},qMb cs=some l->vs.length=cs.length->(∀(i:Nat) (c:AV),cs[i]? =some c->∃v:Value,vs[i]? =some v/\Rel g c v)->vs=l
 | [],l,vs,h,hl,_=>by
  simp only[qMb,Option.some.injEq]at h;subst h;exact jBy hl
 | c::cs,l,vs,h,hl,hr=>by
  match vs,hl with
  | v::vs,hl=>
   unfold qMb at h;split at h
   .rename_i heq;cases heq
   .rename_i v0 r0 heq;cases heq;obtain ⟨l',h1,rfl⟩:=jAg.1 h;obtain ⟨v1,q1,q2⟩:=hr 0 _ rfl;cases q1;rw[z6a q2,zyb h1 (by simpa using hl) (fun i c hi=>hr (i+1) c hi)]
   cases h
theorem KBb{g:G}{c:AV}{v x:Value}(h:Rel g c v)(hk:keyOf c=some x):v=x:=by
 unfold keyOf at hk;split at hk
 .cases hk;exact z6a h
 .rename_i cs;obtain ⟨l,h1,rfl⟩:=jAg.1 hk;cases h with
  | @agg _ vs hl hc hr=>
   have:=zyb (vs:=vs.toList) h1 (by simpa using hl) (fun i c hi=>by
    have hlt:i < vs.size:=by rw[hl];exact (jAd.1 hi).1
    refine ⟨vs[i],by simp[hlt],?_⟩;have:=hr i c hi;simpa[Array.getD,hlt]using this)
   rw[<-this]
 cases hk
def mvA:Bool->List PV->AV
 | true,cs=>.agg (cs.map .pv)
 | false,p::_=>.pv p
 | false,[]=>.any
theorem rel_mvA{g:G}{ag:Bool}{cs:List PV}{v:Value}(h:YNa g.w g.u ag cs v):Rel g (mvA ag cs) v:=by
 cases ag with
 | true=>
  obtain ⟨vs,rfl,h1,h2⟩:=h;refine .agg (by simpa using h1) (fun i hi=>?_) (fun i c hi=>?_)
  .have:i < cs.length:=by omega
   exact (h2 i _ (jAj this)).cellV
  simp only[jAk,jAg]at hi;obtain ⟨c',hc,rfl⟩:=hi;exact .pv (h2 i c' hc)
 | false=>
  obtain ⟨p,rfl,h1⟩:=h;exact .pv h1
theorem relMV_of{g:G}{ag:Bool}{cs:List PV}{v:Value}(hne:ag=false->cs.length=1)(h:Rel g (mvA ag cs) v):YNa g.w g.u ag cs v:=by
 cases ag with
 | true=>
  cases h with
  | agg h1 h2 h3=>
   refine ⟨_,rfl,by simpa using h1,fun i c hi=>?_⟩;have:=h3 i (.pv c) (by simp[hi]);cases this with
   | pv h=>exact h
 | false=>
  match cs,hne rfl with
  | [p],_=>
   cases h with
   | pv h=>exact ⟨p,rfl,h⟩
def Wsa:Value->PV
 | .slice none 0 0=>.sl none []
 | v=>.b v
def yQb:Bool->Value->Option (List PV)
 | true,.agg vs=>if vs.toList.all (fun v=>cellV v) then some (vs.toList.map Wsa) else none
 | false,v=>if cellV v then some [Wsa v] else none
 | _,_=>none
theorem j5a(w:World)(u:Nat->Nat)(v:Value)(h:cellV v=true):RelP w u (Wsa v) v:=by
 unfold Wsa;split
 .exact qzb (kgb w u)
 exact .b h
theorem j6b{w:World}{u:Nat->Nat}{ag:Bool}{z:Value}{cs:List PV}(h:yQb ag z=some cs):YNa w u ag cs z:=by
 unfold yQb at h;split at h
 .rename_i vs;split at h
  .rename_i ha;cases h;rw[jAw]at ha;refine ⟨_,rfl,by simp,fun i c hi=>?_⟩;simp only[jAk,jAg]at hi;obtain ⟨v,hv,rfl⟩:=hi;have:vs.getD i undef=v:=by
    rw[jAe];simp at hv;simp[hv]
   rw[this];exact j5a w u v (ha v (jAi hv))
  cases h
 .split at h
  .rename_i hv;cases h;exact ⟨_,rfl,j5a w u _ hv⟩
  cases h
 cases h
section
variable {K V:Type} [BEq K] [LawfulBEq K] {KK:KeyK K} {F:V->List PV} {ag:Bool}
abbrev menc(KK:KeyK K)(F:V->List PV)(es:List (K × V)):List (Value × List PV):=es.map fun p=>(KK.kf p.1,F p.2)
theorem Via{P:Program}{kt:TypeId}{w:World}{es:List (K × V)}{k:K}{ents:Array MapEntry}(hkt:KK.ok P kt)(hl:ents.size=es.length)(hk:∀(j:Nat) p x,es[j]? =some p->ents[j]? =some x->x.key=KK.kf p.1):
 (Instr.findKey kt (KK.kf k) ents.toList).run P w=.ok ((mpos es k).bind fun j=>(ents[j]?).map fun x=>(j,x.val)) w:=by
 have h:=KK.find hkt w k (es.map (·.1)) ents.toList (by
  refine List.ext_getElem? fun j=>?_
  simp only[jAk,jCz];cases hp:es[j]? with
  | none=>
   have:ents[j]? =none:=by rw[Array.getElem?_eq_none_iff,hl];exact List.getElem?_eq_none_iff.1 hp
   rw[this];rfl
  | some p=>
   have hlt:j < ents.size:=by rw[hl];exact (jAd.1 hp).1
   rw[jBv hlt];have:=hk j p _ hp (jBv hlt);simp[this])
 rw[h,KAb];simp
variable {E:Env} {fr:Fr} {σ:Sto} {P:Program} {ρ:Operand->AV} {t kt e:TypeId} {m x y:Operand} {o size bytes ss sb k' :Nat} {zero sz:Value} {d:TypeDesc} {es:List (K × V)} {k:K} {z v:V}
variable {dst:Option Tmp} {ty:TypeId} {pos:String} {af:Array Edge} {gu:Option (Nat × Bool)}
theorem RelO.map_inv{g:G}(h:RelO g o (.mapo ag (menc KK F es))):∃b clock ents,g.loc o=.map b/\g.w.heap[b]? =some (.map ents clock)/\g.u b=0/\ents.size=es.length/\(∀(j:Nat) p x,es[j]? =some p->ents[j]? =some x->x.key=KK.kf p.1)/\∀(j:Nat) p x,es[j]? =some p->ents[j]? =some x->YNa g.w g.u ag (F p.2) x.val:=by
 generalize hes:menc KK F es=ms at h;cases h with
 | @mapo _ _ b clock ents h1 h2 h3 h4 h5=>
  subst hes;have key:∀(j:Nat) p x,es[j]? =some p->ents[j]? =some x->x.key=KK.kf p.1/\YNa g.w g.u ag (F p.2) x.val:=by
   intro j p x hp hx;obtain ⟨x',e1,e2,e3⟩:=h5 j (KK.kf p.1) (F p.2) (by simp[menc,hp]);rw[hx]at e1;cases e1;exact ⟨e2,e3⟩
  exact ⟨b,clock,ents,h1,h2,h3,by simpa[menc]using h4,fun j p x hp hx=>(key j p x hp hx).1,fun j p x hp hx=>(key j p x hp hx).2⟩
theorem j7b{g:G}(ok:Bool)(h:RelO g o (.mapo ag (menc KK F es))){vm:Value}(hm:Rel g (.mp o) vm)(ht:P.underlying t=some (.map kt e))(hkt:KK.ok P kt)(he:TyOk P e size bytes zero d)(hz:yQb ag zero=some (F z)):
 ∃v,(Instr.lookup t vm (KK.kf k) ok).run P g.w=.ok (if ok then .tuple #[v,.bool (mget es k).isSome] else v) g.w/\YNa g.w g.u ag (F ((mget es k).getD z)) v:=by
 obtain ⟨b,clock,ents,h1,h2,h3,h4,h5,h6⟩:=h.map_inv;cases hm with
 | mp hl=>
  rw[h1]at hl;cases hl;have hf:=Via (P:=P) (w:=g.w) (k:=k) hkt h4 h5;have hc:=KK.check (P:=P) hkt g.w k ents.isEmpty;rw[mget_pos];cases hp:mpos es k with
  | none=>
   rw[hp]at hf;refine ⟨zero,?_,j6b (by simpa using hz)⟩;simp only[Option.bind_none]at hf;simp[Instr.lookup,run_underlying ht,MapKept.run_getObj_map h2,hc,hf,he.zeroValue,Result.andThen]
  | some i=>
   obtain ⟨p,hp1,hp2⟩:=Kzb hp;have hi:i < ents.size:=by rw[h4];exact (jAd.1 hp1).1
   rw[hp]at hf;refine ⟨ents[i].val,?_,?_⟩
   .simp only[jAc,jBv hi,jCp]at hf;simp[Instr.lookup,run_underlying ht,MapKept.run_getObj_map h2,hc,hf,hp1,Result.andThen]
   simp only[jAc,hp1,jCp,jDx];exact h6 i p _ hp1 (jBv hi)
theorem wKb(hm:ρ m=.mp o)(ho:σ.get o=some (.mapo ag (menc KK F es)))(hx:keyOf (ρ x)=some (KK.kf k))(ht:P.underlying t=some (.map kt e))(hkt:KK.ok P kt)(he:TyOk P e size bytes zero d)(hz:yQb ag zero=some (F z)):
 EvQ P ⟨dst,.lookup t m x true,ty,pos,af,gu⟩ ρ σ (.tup [mvA ag (F ((mget es k).getD z)),.bo (mget es k).isSome]):=
 ⟨fun c=>by simp,fun g ρv h hs=>by
  obtain ⟨h1,h2⟩:=ops2 (o:=⟨dst,.lookup t m x true,ty,pos,af,gu⟩) (x:=m) (y:=x) rfl h;rw[hm]at h1;have e2:=KBb h2 hx;obtain ⟨v,hr,hv⟩:=j7b (k:=k) (z:=z) true (hs o _ ho) h1 ht hkt he hz;refine ⟨.tuple #[v,.bool (mget es k).isSome],?_,.tup rfl fun i c hi=>?_⟩
  .show Sem.run P (do let v <-Instr.lookup t (ρv m) (ρv x) true;pure (Next.value v)) g.w=_;rw[e2,jAt,hr];rfl
  match i,hi with
  | 0,rfl=>exact rel_mvA hv
  | 1,rfl=>exact .pv (.b rfl)⟩
theorem qNb{k0:Nat}(id:Nat)(ag:Bool)(hN:Nat.ble (k0+1) E.N=true)(hf:fr.has id=false)(hs:σ.has id=false):
 OpTo E ⟨some k0,.makeMap t none,ty,pos,af,gu⟩ fr σ ((k0,.mp id)::fr) ((id,.mapo ag [])::σ):=
 ⟨fun g a K Q hst hK=>by
  refine ⟨fun _ _=>trivial,?_⟩;rw[jBe _ _ _ (fun c=>by simp)];have hr:(execOp a.eval ⟨some k0,.makeMap t none,ty,pos,af,gu⟩).run E.P g.w=.ok (.value (.map (some g.w.heap.size))) (g.w.alloc (.map #[] 0)):=rfl;rw[hr,jBl];have hx:Ext g.w g.u (g.w.alloc (.map #[] 0)) g.u:=⟨by simp,fun _ _=>jAn _,fun k i hk _=>by
   simp only[World.cell?];rw[(MapKept.heap_alloc g.w _).2 k hk],fun r' hr' =>((MapKept.heap_alloc g.w _).2 r' (zUa hr')).trans hr'⟩
  have hu0:g.u g.w.heap.size=0:=hst.so.wf _ (jAn _);have hst' :=hst.addObj (g' :=⟨g.w.alloc (.map #[] 0),g.u,fun q=>if q=id then .map g.w.heap.size else g.loc q⟩) id (ob:=.mapo ag []) hf hs
   ⟨rfl,rfl,rfl,hx,fun k hk _=>⟨(MapKept.heap_alloc g.w _).2 k hk,rfl⟩⟩ (Wna hst.so.wf hx.size _) (fun q hq=>if_neg hq)
   (.mapo (if_pos rfl) (MapKept.heap_alloc g.w _).1 hu0 rfl (fun i k c hi=>by simp at hi)) (fun b hb=>by
    simp only[AO.own,if_true,Loc.block]at hb;cases hb;exact jAn _)
  exact hK _ _ (hst'.put (jAf hN) (.mp (if_pos rfl)))⟩
theorem J4a(hm:fr.ev m=.mp o)(ho:σ.get o=some (.mapo ag (menc KK F es)))(hx:keyOf (fr.ev x)=some (KK.kf k))(hy:(fr.ev y).weak=mvA ag (F v))(hne:ag || Nat.beq (F v).length 1)(ht:E.P.underlying t=some (.map kt e))(hkt:KK.ok E.P kt):
 OpTo E ⟨none,.mapUpdate t m x y,ty,pos,af,gu⟩ fr σ fr (σ.upd o (.mapo ag (menc KK F (mput es k v)))):=
 ⟨fun g a K Q hst hK=>by
  refine ⟨fun _ _=>trivial,?_⟩;rw[jBe _ _ _ (fun c=>by simp)];have h1:=hst.ev m;have h2:=hst.ev x;have h3:=vNa (hst.ev y);rw[hm]at h1;rw[hy]at h3;have e2:=KBb h2 hx;have h3:=relMV_of (fun hag=>by rw[hag]at hne;exact jAm hne) h3;obtain ⟨b,clock,ents,i1,i2,i3,i4,i5,i6⟩:=(hst.so.obj o _ ho).map_inv;generalize hvm:a.eval m=vm at h1;cases h1 with
  | mp hl=>
   rw[i1]at hl;cases hl;have hf:=Via (P:=E.P) (w:=g.w) (k:=k) hkt i4 i5;have hc:=KK.check (P:=E.P) hkt g.w k false;have hgo:∀ents' clock',ents'.size=(mput es k v).length->(∀(j:Nat) p x,(mput es k v)[j]? =some p->ents'[j]? =some x->x.key=KK.kf p.1/\YNa g.w g.u ag (F p.2) x.val)->
    (execOp a.eval ⟨none,.mapUpdate t m x y,ty,pos,af,gu⟩).run E.P g.w=.ok .skip {g.w with heap:=g.w.heap.setIfInBounds b (.map ents' clock')}->
    Oper.uponIn (fen E.rd) 0 E.P ⟨none,.mapUpdate t m x y,ty,pos,af,gu⟩ a K Q ((execOp a.eval ⟨none,.mapUpdate t m x y,ty,pos,af,gu⟩).run E.P g.w):=by
    intro ents' clock' hsz hrel hrun;rw[hrun,Oper.uponIn_skip];have hset:=MapKept.heap_set (o' :=.map ents' clock') i2;have hsize:(g.w.heap.setIfInBounds b (.map ents' clock')).size=g.w.heap.size:=by simp
    have hxx:Ext g.w g.u {g.w with heap:=g.w.heap.setIfInBounds b (.map ents' clock')} g.u:=⟨jCi hsize.symm,fun _ _=>jAn _,fun q i hq hi=>by
     by_cases hqb:q=b
     .subst hqb;omega
     simp only[World.cell?];rw[hset.2 q hqb],fun r' hr' =>(hset.2 r' (by rintro rfl;rw[i2]at hr';cases hr')).trans hr'⟩
    refine hK ⟨{g.w with heap:=g.w.heap.setIfInBounds b (.map ents' clock')},g.u,g.loc⟩ _ (St.put_none (hst.objset ho hxx rfl rfl rfl rfl (fun q hq hn=>⟨hset.2 q (by rintro rfl;exact hn (by simp[AO.own,i1,Loc.block])),rfl⟩) (Wna hst.so.wf (jCi hsize.symm) _) ?_ (fun _=>rfl)));refine .mapo i1 hset.1 i3 (by simpa[menc]using hsz) (fun j k' c hj=>?_);simp only[menc,jAk,jAg,Prod.mk.injEq]at hj;obtain ⟨p,hp,rfl,rfl⟩:=hj;have hlt:j < ents'.size:=by rw[hsz];exact (jAd.1 hp).1
    obtain ⟨r1,r2⟩:=hrel j p _ hp (jBv hlt);exact ⟨_,jBv hlt,r1,r2.mono hxx⟩
   have hshow:(execOp a.eval ⟨none,.mapUpdate t m x y,ty,pos,af,gu⟩).run E.P g.w=Sem.run E.P (do Instr.mapUpdate t (.map (some b)) (KK.kf k) (a.eval y);pure Next.skip) g.w:=by
    show Sem.run E.P (do Instr.mapUpdate t (a.eval m) (a.eval x) (a.eval y);pure Next.skip) g.w=_;rw[hvm,e2]
   cases hp:mpos es k with
   | none=>
    rw[hp]at hf;simp only[Option.bind_none]at hf;have hmp:mput es k v=es++ [(k,v)]:=by rw[yPb,hp]
    refine hgo (ents.push ⟨KK.kf k,a.eval y,clock⟩) (clock+1) (by rw[hmp];simp[i4]) (fun j p x hj hx' =>?_) ?_
    .rw[hmp]at hj;rcases jBq j es.length with h4 | h4
     .rw[jAs h4]at hj;rw[Array.getElem?_push_lt (by omega)]at hx';have hx2:ents[j]? =some x:=by rw[jBv (by omega)];exact hx'
      exact ⟨i5 j p x hj hx2,i6 j p x hj hx2⟩
     have hj2:j=es.length:=by
      have:=(jAd.1 hj).1;simp at this;omega
     subst hj2;simp at hj;subst hj;rw[<-i4]at hx';simp at hx';subst hx';exact ⟨rfl,h3⟩
    rw[hshow];simp[Instr.mapUpdate,run_underlying ht,MapKept.run_getObj_map i2,hc,hf,MapKept.run_setObj_map _ i2,Result.andThen]
   | some i=>
    obtain ⟨p0,hp1,hp2⟩:=Kzb hp;have hi:i < ents.size:=by rw[i4];exact (jAd.1 hp1).1
    rw[hp]at hf;simp only[jAc,jBv hi,jCp]at hf;have hmp:mput es k v=es.set i (k,v):=by rw[yPb,hp]
    have hkk:ents[i].key=KK.kf k:=by
     rw[i5 i p0 _ hp1 (jBv hi)];rw[show p0.1=k by simpa using hp2]
    refine hgo (ents.modify i fun e=>{e with key:=KK.kf k,val:=a.eval y}) clock (by rw[hmp];simp[i4]) (fun j p x hj hx' =>?_) ?_
    .rw[hmp]at hj;rw[jBx]at hx';by_cases hij:i=j
     .subst hij;rw[List.getElem?_set_self (by rw[<-i4];exact hi)]at hj;cases hj;rw[if_pos rfl,jBv hi]at hx';cases hx';exact ⟨rfl,h3⟩
     rw[List.getElem?_set_ne hij]at hj;rw[if_neg hij]at hx';exact ⟨i5 j p x hj hx',i6 j p x hj hx'⟩
    rw[hshow];simp[Instr.mapUpdate,run_underlying ht,MapKept.run_getObj_map i2,hc,hf,hi,hkk,KK.stay,MapKept.run_setObj_map _ i2,Result.andThen]⟩
end
section
variable {P:Program} {ρ:Operand->AV} {σ:Sto} {t t' e:TypeId} {x:Operand} {α:Type} {F:α->List PV} {l:List α} {dst:Option Tmp} {ty:TypeId} {pos:String} {af:Array Edge} {gu:Option (Nat × Bool)} {ss sb:Nat} {sz:Value}
theorem zzb{ρv:Operand->Value}{w:World}{a:Option Addr}{n c:Nat}(ne:Bool)(hx:ρv x=.slice a n c)(hy:ρv (.const (.slice none 0 0))=.slice none 0 0)(ht:TyOk P t ss sb sz (.slice e)):
 (execOp ρv ⟨dst,.binOp (if ne then .neq else .eql) t x (.const (.slice none 0 0)) t',ty,pos,af,gu⟩).run P w=.ok (.value (.bool (if ne then !a.isNone else a.isNone))) w:=by
 cases ne <;> simp[execOp,hx,hy,go_sem,eqGuard,binOp,run_equal_slice_nil w t e a n c ht.u]
end
section
variable {K V:Type} [BEq K] [LawfulBEq K] {KK:KeyK K} {F:V->List PV} {ag:Bool} {P:Program} {ρ:Operand->AV} {σ:Sto} {t kt e:TypeId} {m x:Operand} {o size bytes:Nat} {zero:Value} {d:TypeDesc} {es:List (K × V)} {k:K} {z v:V}
variable {dst:Option Tmp} {ty:TypeId} {pos:String} {af:Array Edge} {gu:Option (Nat × Bool)}
end
end
section
open Go.RowKit Go.Lib Go.Proofs.Tryz
variable {E:Env} {fr:Fr} {σ:Sto} {K:Post} {P:Program} {ρ:Operand->AV}
variable {dst:Option Tmp} {ty:TypeId} {pos:String} {af:Array Edge} {gu:Option (Nat × Bool)}
section
variable {α:Type} {F:α->List PV} {l xs r' :List α} {r size bytes sb ss k lim:Nat} {e t:TypeId} {mu:Bool} {zero sz:Value} {d:TypeDesc} {x y:Operand} {nl:Option Bool}
theorem ksb{p:Int}{k1:IntKind}{v:List α}(hx:ρ x=.hs r 0)(hr:σ.get r=some (.row e mu size (l.map F)))(hy:ρ y=.pv (.b (.int k1 p)))
 (ht:TyOk P t ss sb sz (.slice e)) (he:TyOk P e size bytes zero d) (hv:cut l p l.length=some v):EvQ P ⟨dst,.slice t x (some y) none none,ty,pos,af,gu⟩ ρ σ (.hsub r p.toNat):=
 ⟨fun c=>by simp,fun g ρv hh hs=>by
  have h1:=hh x (by simp[Op.operands]);have h2:=hh y (by simp[Op.operands]);rw[hx]at h1;rw[hy]at h2;have e2:=z6a h2;obtain ⟨h0,h01,h02,_⟩:=VEa hv;obtain ⟨old,ho1,ev,ho3⟩:=(hs r _ hr).old h1;obtain ⟨a0,old⟩:=old;have hrun:∀ad cap,ρv x=.slice ad l.length cap->l.length<=cap->(execOp ρv ⟨dst,.slice t x (some y) none none,ty,pos,af,gu⟩).run P g.w=
   .ok (.value (.slice (if cap=p.toNat then ad else ad.map (·.add (p.toNat * size))) (l.length - p.toNat) (cap - p.toNat))) g.w:=by
   intro ad cap ev hcap;show Sem.run P (do let v <-Instr.sliceAt t (ρv x) ((some y).map ρv) (Option.map ρv none) none;pure (Next.value v)) g.w=_;have hb:=wYa (P:=P) (w:=g.w) (len:=l.length) (cap:=cap) (lo:=(some y).map ρv) (hi:=Option.map ρv none) (a:=p) (b:=l.length) hcap (.inr ⟨k1,by simp[e2]⟩) (.inl ⟨rfl,rfl⟩) h0 h01 (jDg _);rw[ev];simp only[Instr.sliceAt,underlying,program,jAt,Sem.run,ht.u,jAp,jAz,Instr.slice,hb,he.sizeOf,jCw]
  cases old with
  | none=>
   obtain ⟨hl,rfl⟩:=ho3;have hp:p.toNat=0:=by simp at h01;omega
   refine ⟨_,hrun a0 0 ev (by simp),?_⟩;rw[hp];simp only[if_true,Nat.sub_zero,jBw];exact .hsubNil _ hl
  | some o=>
   obtain ⟨b,off,cap,cur⟩:=o;obtain ⟨hb,hcs,hnc,hcm,ad,rfl,had⟩:=ho1;refine ⟨_,hrun (some ad) cap ev hnc,?_⟩;split
   .exact .hsub ho3.1 (by omega) (fun hc=>by omega)
   refine .hsub ho3.1 (by omega) (fun hc=>?_);rw[had (by omega)];show Addr.add _ _=_;rw[vsa,jBg]⟩
theorem ktb{z:Array Value}{n q:Nat}(h:q < n * z.size):(Builtin.zeroCells z n).toList[q]? =z.toList[q % z.size]? :=by
 have hz:0 < z.size:=by
  rcases jEf z.size with h0 | h0
  .rw[h0]at h;simp at h
  exact h0
 have hm:q % z.size < z.size:=Nat.mod_lt _ hz;simp[Builtin.zeroCells,h,hm]
theorem vra(r:Nat)(hN:Nat.ble (k+1) E.N=true)(hx:fr.ev x=.z0)(hy:fr.ev y=.pv (.sl nl (xs.map F)))(ht:TyOk E.P t ss sb sz (.slice e))(he:TyOk E.P e size bytes zero d)
 (hzz:Nat.beq zero.cells.size size=true) (hs:Nat.ble 1 size=true) (hF:∀x,(F x).length=size) (hlim:(Nat.ble (lim * bytes) 140737488355328 && Nat.ble lim 9223372036854775807)=true) (hf:fr.has r=false) (hso:σ.has r=false) (h:app lim [] xs=some r'):
 OpTo E ⟨some k,.call ⟨.builtin .append, #[x,y], #[t,t]⟩,ty,pos,af,gu⟩ fr σ ((k,.hs r 0)::fr.clr r) ((Sto.clr r ((r,.row e true size [])::σ)).upd r (.row e true size (r'.map F))):=
 ⟨fun g a K Q hst hK=>by
  obtain ⟨hle,hr'⟩:=kkb h;simp only[jAh]at hlim;have hl1:=jAf hlim.1;have hl2:=jAf hlim.2;have hzz:=jAm hzz;have hs:=jAf hs;refine ⟨fun _ _=>trivial,?_⟩;rw[jBe _ _ _ (fun c=>by simp)];have h1:=hst.ev x;rw[hx]at h1;have hst0:=hst.adopt r e true size hf hso;have h2:=hst0.ev y;rw[hy]at h2;have hlb:(0+xs.length) * bytes<=140737488355328:=by
   simp only[jBw]at hle;exact jBp (jAy _ hle) hl1
  have hgr:Sto.get ((r,AO.row e true size [])::σ) r=some (.row e true size (([]:List α).map F)):=by rw[Sto.get_cons,if_pos rfl];rfl
  generalize hev:a.eval x=vx at h1;cases h1 with
  | z0 ax=>
   have ho3:Kob ⟨g.w,g.u,fun k=>if k=r then .nilRow else g.loc k⟩ r true size F ([]:List α) (ax,none):=⟨if_pos rfl,rfl⟩;cases h2 with
   | pv h2=>
    rcases wBb hF h2 with ⟨e2,rfl⟩ | ⟨a0,c,news,e2,hnews,hcells⟩
    .obtain ⟨v',w',hrun,hres⟩:=W0a (P:=E.P) (w:=g.w) (ty:=ty) (old:=(ax,none)) (n:=0) ht he rfl;rw[waa (x:=x) (y:=y) (w:=g.w) (by rw[hev,e2];exact hrun),jBl];obtain ⟨g',rfl,hst',hv⟩:=hst0.appended (F:=F) (l:=[]) (xs:=[]) (old:=(ax,none)) hgr rfl ho3 (news:=[]) ⟨by simp,by simp,fun i j x c hi=>by simp at hi⟩ hres;exact hK g' _ (by rw[hr'];exact hst'.put (jAf hN) hv)
    obtain ⟨v',w',hrun,hres⟩:=VGa (P:=E.P) (w:=g.w) (ty:=ty) (c:=c) (old:=(ax,none)) (n:=0) ht he hzz (by omega) rfl hnews.len hcells hnews.one hlb (by unfold maxLen;simp only[jBw]at hle;omega);rw[waa (x:=x) (y:=y) (w:=g.w) (by rw[hev,e2];exact hrun),jBl];obtain ⟨g',rfl,hst',hv⟩:=hst0.appended (F:=F) (l:=[]) (old:=(ax,none)) hgr rfl ho3 hnews hres;exact hK g' _ (by rw[hr'];exact hst'.put (jAf hN) hv)⟩
end
section
variable {t t' :TypeId} {x y:Operand} {a b:Int}
def iOr(a b:Int):Int:=w64 ((BitVec.ofInt 64 a ||| BitVec.ofInt 64 b).toNat:Int)
def iAnd(a b:Int):Int:=w64 ((BitVec.ofInt 64 a &&& BitVec.ofInt 64 b).toNat:Int)
def iXor(a b:Int):Int:=w64 ((BitVec.ofInt 64 a ^^^ BitVec.ofInt 64 b).toNat:Int)
def iQuo(a b:Int):Int:=w64 (a.tdiv b)
def iRem(a b:Int):Int:=a.tmod b
theorem yRb{op:BinOp}{r:Int}(hx:ρ x=.i a)(hy:ρ y=.i b)(hr:(op=.or/\r=iOr a b)∨(op=.and/\r=iAnd a b)∨(op=.xor/\r=iXor a b)):EvQ P ⟨dst,.binOp op t x y t',ty,pos,af,gu⟩ ρ σ (.i r):=
 ⟨fun c=>by simp,fun g ρv h _=>by
  obtain ⟨h1,h2⟩:=ops2 (o:=⟨dst,.binOp op t x y t',ty,pos,af,gu⟩) (x:=x) (y:=y) rfl h;rw[hx]at h1;rw[hy]at h2;have e1:=z6a h1;have e2:=z6a h2;refine ⟨.int .i64 r,?_,.pv (.b rfl)⟩;rcases hr with ⟨rfl,rfl⟩ | ⟨rfl,rfl⟩ | ⟨rfl,rfl⟩ <;> (simp[execOp,e1,e2,go_sem,eqGuard,binOp,Op.intBits];rfl)⟩
theorem ev_ior(hx:ρ x=.i a)(hy:ρ y=.i b):EvQ P ⟨dst,.binOp .or t x y t',ty,pos,af,gu⟩ ρ σ (.i (iOr a b)):=yRb hx hy (.inl ⟨rfl,rfl⟩)
theorem ev_iand(hx:ρ x=.i a)(hy:ρ y=.i b):EvQ P ⟨dst,.binOp .and t x y t',ty,pos,af,gu⟩ ρ σ (.i (iAnd a b)):=yRb hx hy (.inr (.inl ⟨rfl,rfl⟩))
theorem KCb{op:BinOp}{r:Int}(hx:ρ x=.i a)(hy:ρ y=.i b)(hb:(b==0)=false)(hr:(op=.quo/\r=iQuo a b)∨(op=.rem/\r=iRem a b)):EvQ P ⟨dst,.binOp op t x y t',ty,pos,af,gu⟩ ρ σ (.i r):=
 ⟨fun c=>by simp,fun g ρv h _=>by
  obtain ⟨h1,h2⟩:=ops2 (o:=⟨dst,.binOp op t x y t',ty,pos,af,gu⟩) (x:=x) (y:=y) rfl h;rw[hx]at h1;rw[hy]at h2;have e1:=z6a h1;have e2:=z6a h2;have hb:b≠0:=by simpa using hb
  refine ⟨.int .i64 r,?_,.pv (.b rfl)⟩;rcases hr with ⟨rfl,rfl⟩ | ⟨rfl,rfl⟩ <;> simp[execOp,e1,e2,go_sem,eqGuard,binOp,Op.intDiv,hb,iQuo,iRem]⟩
theorem ev_iquo(hx:ρ x=.i a)(hy:ρ y=.i b)(hb:(b==0)=false):EvQ P ⟨dst,.binOp .quo t x y t',ty,pos,af,gu⟩ ρ σ (.i (iQuo a b)):=KCb hx hy hb (.inl ⟨rfl,rfl⟩)
theorem ev_irem(hx:ρ x=.i a)(hy:ρ y=.i b)(hb:(b==0)=false):EvQ P ⟨dst,.binOp .rem t x y t',ty,pos,af,gu⟩ ρ σ (.i (iRem a b)):=KCb hx hy hb (.inr ⟨rfl,rfl⟩)
theorem zAb{op:BinOp}{r:UInt8}{a b:UInt8}(hx:ρ x=.u8 a)(hy:ρ y=.u8 b)(hr:(op=.add/\r=a+b)∨(op=.sub/\r=a - b)):EvQ P ⟨dst,.binOp op t x y t',ty,pos,af,gu⟩ ρ σ (.u8 r):=by
 have hl1:=a.toNat_lt;have hl2:=b.toNat_lt;rcases hr with ⟨rfl,rfl⟩ | ⟨rfl,rfl⟩
 .have:=ev_add (P:=P) (σ:=σ) (dst:=dst) (ty:=ty) (pos:=pos) (af:=af) (gu:=gu) (t:=t) (t' :=t') hx hy;rw[show IntKind.u8.wrap ((a.toNat:Int)+(b.toNat:Int))=((a+b).toNat:Int) by
   rw[wyb,UInt8.toNat_add];unfold toU8;rw[jCf];omega]at this
  exact this
 have:=ev_sub (P:=P) (σ:=σ) (dst:=dst) (ty:=ty) (pos:=pos) (af:=af) (gu:=gu) (t:=t) (t' :=t') hx hy;rw[show IntKind.u8.wrap ((a.toNat:Int) - (b.toNat:Int))=((a - b).toNat:Int) by
  rw[wyb,UInt8.toNat_sub];unfold toU8;rw[jCf];omega]at this
 exact this
theorem ev_u8add{a b:UInt8}(hx:ρ x=.u8 a)(hy:ρ y=.u8 b):EvQ P ⟨dst,.binOp .add t x y t',ty,pos,af,gu⟩ ρ σ (.u8 (a+b)):=zAb hx hy (.inl ⟨rfl,rfl⟩)
theorem ev_u8sub{a b:UInt8}(hx:ρ x=.u8 a)(hy:ρ y=.u8 b):EvQ P ⟨dst,.binOp .sub t x y t',ty,pos,af,gu⟩ ρ σ (.u8 (a - b)):=zAb hx hy (.inr ⟨rfl,rfl⟩)
end
end
section
open Go.RowKit Go.Lib Go.Proofs.Tryz
variable {E:Env} {fr:Fr} {σ:Sto} {K:Post} {P:Program} {ρ:Operand->AV}
variable {dst:Option Tmp} {ty:TypeId} {pos:String} {af:Array Edge} {gu:Option (Nat × Bool)}
open Classical in
noncomputable def nilE{R:Type}(e:Bool)(A B:Option R):Option R:=if e then (if A=B then B else none) else B
theorem j6a{R:Type}{e:Bool}{A B:Option R}{r:R}(he:e=true)(h:nilE e A B=some r):A=some r:=by
 unfold nilE at h;rw[if_pos he]at h;split at h
 .rename_i hab;rw[hab];exact h
 cases h
theorem j7a{R:Type}{e:Bool}{A B:Option R}{r:R}(h:nilE e A B=some r):B=some r:=by
 unfold nilE at h;split at h
 .split at h
  .exact h
  cases h
 exact h
theorem qOb{R:Type}(e:Bool)(A B:Option R)(h:e=true->A=B):nilE e A B=B:=by
 unfold nilE;split
 .rename_i he;rw[if_pos (h he)]
 rfl
section
variable {α:Type} {F:α->List PV} {l:List α} {t t' e:TypeId} {ss sb d k:Nat} {sz:Value}
theorem wLb{g:G}{v:Value}(h:Rel g (.l F l) v):(l=[]/\v=.slice none 0 0)∨∃a n c,v=.slice (some a) n c:=by
 cases h with
 | pv h=>
  obtain ⟨a',cap',size',b,off,val,hv,h0,_⟩:=Vba h;cases a' with
  | none=>
   obtain ⟨rfl,he⟩:=h0 rfl;left;have:l=[]:=by simpa using he
   subst this;exact ⟨rfl,hv⟩
  | some a=>exact .inr ⟨a,_,_,hv⟩
theorem wMb(ne:Bool){ops:Array Oper}{rest:List Oper}(hg:gu=none)(hN:Nat.ble (k+1) E.N=true)(hd:fr.get d=.l F l)(ht:TyOk E.P t ss sb sz (.slice e))
 (h1:l.isEmpty=true->AWPL E ops rest ((k,.bo (!ne))::(d,.pv (.sl (some true) []))::fr) σ K) (h2:AWPL E ops rest ((k,.bo ne)::fr) σ K):
 AWPL E ops (⟨some k,.binOp (if ne then .neq else .eql) t (.tmp d) (.const (.slice none 0 0)) t',ty,pos,af,gu⟩::rest) fr σ K:=
 ⟨fun g a hst=>by
  subst hg;have hv:=hst.fr d;rw[hd]at hv;have hc:a.eval (.const (.slice none 0 0))=.slice none 0 0:=rfl;have hx:a.eval (.tmp d)=a.tmps.getD d undef:=rfl;simp only[wpListIn,Region.wanted,if_true];refine ⟨fun _ _=>trivial,?_⟩;rw[jBe _ _ _ (fun c=>by simp)];rcases wLb hv with ⟨hl,ev⟩ | ⟨ad,n,c,ev⟩
  .rw[zzb ne (hx.trans ev) hc ht,jBl];have hst2:=hst.reslot (d:=d) (c:=.pv (.sl (some true) [])) (by rw[ev];exact .pv (kgb _ _));have:=(h1 (by rw[hl];rfl)).go g _ (hst2.put (jAf hN) (c:=.bo (!ne)) (v:=.bool (!ne)) (.pv (.b rfl)));cases ne <;> exact this
  rw[zzb ne (hx.trans ev) hc ht,jBl];have:=h2.go g _ (hst.put (jAf hN) (c:=.bo ne) (v:=.bool ne) (.pv (.b rfl)));cases ne <;> exact this⟩
theorem wKa{ops:Array Oper}{rest:List Oper}(hg:gu=none)(hN:Nat.ble (k+1) E.N=true)(hd:fr.get d=.l F l)(ht:TyOk E.P t ss sb sz (.slice e))
 (h1:l.isEmpty=true->AWPL E ops rest ((k,.bo true)::(d,.pv (.sl (some true) []))::fr) σ K) (h2:AWPL E ops rest ((k,.bo false)::fr) σ K):
 AWPL E ops (⟨some k,.binOp .eql t (.tmp d) (.const (.slice none 0 0)) t',ty,pos,af,gu⟩::rest) fr σ K:=wMb false hg hN hd ht h1 h2
end
section
variable {t e:TypeId} {ss sb size bytes k:Nat} {sz zero:Value} {d:TypeDesc}
theorem yKa(hN:Nat.ble (k+1) E.N=true)(ht:TyOk E.P t ss sb sz (.slice e))(he:TyOk E.P e size bytes zero d):
 OpTo E ⟨some k,.buildSlice t 0 #[],ty,pos,af,gu⟩ fr σ ((k,.z0)::fr) σ:=
 ⟨fun g a K Q hst hK=>by
  refine ⟨fun _ _=>trivial,?_⟩;rw[jBe _ _ _ (fun c=>by simp)];have hrun:(execOp a.eval ⟨some k,.buildSlice t 0 #[],ty,pos,af,gu⟩).run E.P g.w=.ok (.value (.slice (some ⟨g.w.heap.size,0,none⟩) 0 0)) (g.w.alloc (.cells #[] e)):=by
   show Sem.run E.P (do let v <-Instr.buildSlice t 0 (Array.map (fun (x:Nat × Operand)=>(x.1,a.eval x.2)) #[]);pure (Next.value v)) g.w=_;simp only[Instr.buildSlice,underlying,program,jAt,Sem.run,ht.u,he.sizeOf,jAp,jAz,Nat.zero_mul,if_true];rw[if_neg (by simp)];have e1:(Array.map (fun (x:Nat × Operand)=>(x.1,a.eval x.2)) #[]).toList=[]:=by simp
   have harr:∀z:Array Value,Array.map (fun x=>z[x % z.size]!) (Array.range 0)= #[]:=by intro z;simp
   simp only[jAt,jAz,jAp,e1,Instr.fill,harr];rfl
  rw[hrun,jBl];have hold:=Zxa g #[] e 0 0 (g.loc 0);have hwf:=VCa hst.so.wf #[] e 0 0 (g.loc 0);have hst' :=hst.grow hold hwf (fun q _=>by show (if q=0 then g.loc 0 else g.loc q)=g.loc q;split <;> simp_all);exact hK _ _ (hst'.put (jAf hN) (.z0 _))⟩
end
def nz(b:Int):Option Bool:=if b==0 then none else some true
theorem nz_spec{b:Int}{r:Bool}(h:nz b=some r):(b==0)=false:=by
 unfold nz at h;cases hb:b==0 with
 | true=>rw[hb]at h;cases h
 | false=>rfl
end
section
theorem jma{C:Prop}(b:Bool)(h1:b=true->C)(h2:b=false->C):C:=by
 cases b
 .exact h2 rfl
 exact h1 rfl
theorem awpl_le{E:Env}{fr fr' :Fr}{σ σ' :Sto}{K:Post}{ops:Array Oper}{ol:List Oper}(hf:FrLe fr fr')(hs:kSa σ σ')(h:AWPL E ops ol fr' σ' K):AWPL E ops ol fr σ K:=⟨fun g a hst=>h.go g a (hst.le hf hs)⟩
section
variable {E:Env} {fr:Fr} {σ:Sto} {K:Post} {ops:Array Oper}
theorem nk{y:Code}(h:AWP E y fr σ K):AWPL E ops [] fr σ (jUb E y K):=yHb (qxb h)
theorem nr{id:Nat}{l:List Oper}(h:AWPL E l.toArray l fr σ K):AWPL E ops [] fr σ (jUb E (.region id l.toArray false) K):=nk (zpb h)
end
end
section
open Go.RowKit Go.Lib Go.Proofs.Tryz
variable {E:Env} {fr:Fr} {σ:Sto} {K:Post}
abbrev Objs:=List (Option (Nat × List AV))
theorem Sok.le{S:Nat->Prop}{g0 g:G}{σ' :Sto}(h:Sok S g0 g σ)(hs:∀o ob,σ'.get o=some ob->σ.get o=some ob):Sok S g0 g σ' :=
 ⟨fun o ob ho=>h.obj o ob (hs o ob ho),fun o o' ob ob' b h1 h2=>h.apart o o' ob ob' b (hs _ _ h1) (hs _ _ h2),fun o ob b h1=>h.mine o ob b (hs _ _ h1),h.old,h.wf⟩
structure OpNew (E:Env) (o:Oper) (id:Nat) (cs:List AV):Prop where
 go:∃(vs:Array Value) (t:TypeId),vs.size=cs.length/\(∀i,i < vs.size->cellV (vs.getD i undef)=true)/\(∀(g:G) i c,cs[i]? =some c->Rel g c (vs.getD i undef))/\∀(g:G) a (K:Act->World->Prop) (Q:Exit->Act->World->Prop),K (a.put o.dst (.pointer (some ⟨g.w.heap.size,0,none⟩))) (g.alloc vs t 0 id (.blk g.w.heap.size)).w->o.wpIn (fen E.rd) 0 E.P a g.w K Q
inductive YVa (E:Env) (ops:Array Oper) (fr:Fr) (σ:Sto):List Oper->List AV->Objs->Prop
 | nil:YVa E ops fr σ [] [] []
 | run {o:Oper} {l:List Oper} {c:AV} {cs:List AV} {az:Objs} (hg:wDa ops fr o) (h:OpG E o fr σ c) (hr:YVa E ops fr σ l cs az):YVa E ops fr σ (o::l) (c::cs) (none::az)
 | skip {o:Oper} {l:List Oper} {cs:List AV} {az:Objs} (hg:ZZa ops fr o) (hr:YVa E ops fr σ l cs az):YVa E ops fr σ (o::l) (.tup []::cs) (none::az)
 | new {o:Oper} {l:List Oper} {cs:List AV} {az:Objs} (id:Nat) {ds:List AV} (hg:wDa ops fr o) (h:OpNew E o id ds) (hr:YVa E ops fr σ l cs az):YVa E ops fr σ (o::l) (.ptr id 0::cs) (some (id,ds)::az)
theorem YVa.len{ops:Array Oper}{l:List Oper}{cs:List AV}{az:Objs}(h:YVa E ops fr σ l cs az):cs.length=l.length/\az.length=l.length:=by
 induction h with
 | nil=>exact ⟨rfl,rfl⟩
 | run _ _ _ ih=>simp[ih.1,ih.2]
 | skip _ _ ih=>simp[ih.1,ih.2]
 | new _ _ _ _ ih=>simp[ih.1,ih.2]
theorem YVa.get{ops:Array Oper}{l:List Oper}{cs:List AV}{az:Objs}(h:YVa E ops fr σ l cs az):∀{i:Nat} {o:Oper} {c:AV},l[i]? =some o->cs[i]? =some c->(wDa ops fr o/\OpG E o fr σ c/\az[i]? =some none)∨(ZZa ops fr o/\c=.tup []/\az[i]? =some none)∨(wDa ops fr o/\∃id ds,c=.ptr id 0/\OpNew E o id ds/\az[i]? =some (some (id,ds))):=by
 induction h with
 | nil=>intro i o c h1;simp at h1
 | run hg h _ ih=>
  intro i o c h1 h2;cases i with
  | zero=>simp at h1 h2;subst h1;subst h2;exact .inl ⟨hg,h,rfl⟩
  | succ i=>exact ih (by simpa using h1) (by simpa using h2)
 | skip hg _ ih=>
  intro i o c h1 h2;cases i with
  | zero=>simp at h1 h2;subst h1;subst h2;exact .inr (.inl ⟨hg,rfl,rfl⟩)
  | succ i=>exact ih (by simpa using h1) (by simpa using h2)
 | new id hg h _ ih=>
  intro i o c h1 h2;cases i with
  | zero=>simp at h1 h2;subst h1;subst h2;exact .inr (.inr ⟨hg,id,_,rfl,h,rfl⟩)
  | succ i=>exact ih (by simpa using h1) (by simpa using h2)
end
section
section
variable {F:Fence} {n:Nat} {P:Program} {Q:Exit->Act->World->Prop} {a:Act} {w:World}
def noGoto(Q:Exit->Act->World->Prop):Exit->Act->World->Prop
 | .goto _,_,_=>False
 | e,a,w=>Q e a w
theorem ywa{b:Frame}{k:List Item}{cs:List Frame}{c:Code}:step P (lone (b.atR a (.code (.scope c)::k)) cs w)=.next (lone (b.atR a (.code c:: .inScope c::k)) cs w):=
 step_lone_go (by simp[stepG,stepG.exec,Frame.atR])
theorem kub{b:Frame}{k:List Item}{cs:List Frame}{c:Code}:step P (lone (b.atR a (.inScope c::k)) cs w)=.next (lone (b.atR a k) cs w):=
 step_lone_go (by simp[stepG,stepG.exec,Frame.atR])
theorem j8b{c:Code}(h:c.wpIn F n P (noGoto Q) a w):(Code.scope c).wpIn F n P Q a w:=by
 intro b k cs hro hb hr;have h0:(lone (b.atR a (.code (.scope c)::k)) cs w).fenced P F:=fenced_calm hb hr rfl;obtain ⟨e,a₁,w₁,hq,harr⟩:=h b (.inScope c::k) cs hro hb hr;cases e with
 | normal=>exact ⟨.normal,a₁,w₁,hq,.head h0 ywa (StepsIn.trans harr (.one (fenced_calm hb hr rfl) kub))⟩
 | exit id=>
  have hx:exitTo id (.inScope c::k)=exitTo id k:=by simp[exitTo]
  exact ⟨.exit id,a₁,w₁,hq,fun k' hk=>.head h0 ywa (harr.1 k' (by rw[hx];exact hk)),
   fun hr' hk=>let ⟨k₁,h1,h2⟩:=harr.2 hr' (by rw[hx];exact hk);⟨k₁,h1,.head h0 ywa h2⟩⟩
 | goto l=>exact hq.elim
 | ret=>exact ⟨_,a₁,w₁,hq,.of_steps (.one h0 ywa) harr⟩
 | panic ch=>exact ⟨_,a₁,w₁,hq,.of_steps (.one h0 ywa) harr⟩
 | outgrown=>exact ⟨_,a₁,w₁,hq,.of_steps (.one h0 ywa) harr⟩
end
section
variable {E:Env} {fr:Fr} {σ:Sto} {K:Post}
def KDb(K:Post):Post
 | .goto _,_,_=>False
 | e,fr,σ=>K e fr σ
theorem KEb{c:Code}(h:AWP E c fr σ (KDb K)):AWP E (.scope c) fr σ K:=
 ⟨fun g a hs=>j8b (wpIn_mono (h.go g a hs) fun e a' w' ⟨g',fr',σ',h1,h2,h3⟩=>by
  cases e <;> first | exact ⟨g',fr',σ',h1,h2,h3⟩ | exact h3.elim)⟩
theorem KFb{l:Nat}(h:K .normal fr σ):AWP E (.label l) fr σ K:=⟨fun g a hs=>wpIn_label ⟨g,fr,σ,rfl,hs,h⟩⟩
theorem St.itset{g:G}{a:Act}{o pos' :Nat}{s:ByteArray}{pos:Nat}(h:St E g a fr σ)(ho:σ.get o=some (.it s pos)):∃b,g.loc o=.blk b/\g.w.heap[b]? =some (.stringIter s pos)/\St E ⟨{g.w with heap:=g.w.heap.setIfInBounds b (.stringIter s pos')},g.u,g.loc⟩ a fr (σ.upd o (.it s pos')):=by
 cases h.so.obj o _ ho with
 | @it _ _ b hl hb hu=>
  refine ⟨b,hl,hb,?_⟩;have hbl:=zUa hb;generalize hw:({g.w with heap:=g.w.heap.setIfInBounds b (.stringIter s pos')}:World)=w';have hheap:∀k,k≠b->w'.heap[k]? =g.w.heap[k]? :=fun k hk=>by subst hw;exact jCx (Ne.symm hk)
  have hnew:w'.heap[b]? =some (.stringIter s pos'):=by subst hw;exact Array.getElem?_setIfInBounds_self_of_lt hbl
  have hsz:w'.heap.size=g.w.heap.size:=by subst hw;simp
  have hx:Ext g.w g.u w' g.u:=⟨jCi hsz.symm,fun _ _=>jAn _,fun k i hk hi=>by
   by_cases hkb:k=b
   .subst hkb;simp[World.cell?,hb,hnew]
   simp only[World.cell?];rw[hheap k hkb],fun r hr=>(hheap r (by rintro rfl;rw[hb]at hr;cases hr)).trans hr⟩
  have hget:=Sto.get_upd (ob:=.it s pos') ho;have hsome:∀k ob,(σ.upd o (.it s pos')).get k=some ob->∃ob',σ.get k=some ob' /\∀l,ob'.own l=ob.own l:=by
   intro k ob hk;rw[hget]at hk;split at hk
   .rename_i hko;cases hk;exact ⟨.it s pos,hko▸ho,fun _=>rfl⟩
   exact ⟨_,hk,fun _=>rfl⟩
  refine ⟨fun d=>(h.fr d).mono (g' :=⟨w',g.u,g.loc⟩) hx (fun _ _=>rfl),h.n,h.df.mono hx,⟨?_,fun k k' ob ob' b' h1 h2=>?_,fun k ob b' h1=>?_,?_,?_⟩⟩
  .intro k ob hk;rw[hget]at hk;split at hk
   .rename_i hko;subst hko;cases hk;exact .it hl hnew hu
   rename_i hko;refine (h.so.obj k ob hk).mono (g' :=⟨w',g.u,g.loc⟩) hx rfl (fun _ _=>rfl) fun b' hb' =>⟨hheap b' ?_,rfl⟩
   rintro rfl;exact hko (h.so.apart k o ob _ b' hk ho hb' (by rw[hl];rfl))
  .obtain ⟨_,e1,q1⟩:=hsome k _ h1;obtain ⟨_,e2,q2⟩:=hsome k' _ h2;rw[<-q1,<-q2];exact h.so.apart k k' _ _ b' e1 e2
  .obtain ⟨_,e1,q1⟩:=hsome k _ h1;rw[<-q1];exact h.so.mine k _ b' e1
  .refine h.so.old.trans ⟨by subst hw;rfl,by subst hw;rfl,by subst hw;rfl,hx,fun k hk hs=>⟨hheap k ?_,rfl⟩⟩;rintro rfl;rcases h.so.mine o _ k ho (by rw[hl];rfl) with h1 | h1
   .exact hs (.inr h1)
   exact hs (.inl h1)
  intro k hk;exact h.so.wf k (by rw[<-hsz];exact hk)
variable {ty:TypeId} {pos:String} {af:Array Edge} {gu:Option (Nat × Bool)} {x:Operand} {t t' :TypeId} {ss sb ss' sb' :Nat} {sz sz' :Value}
theorem j9b{k:Nat}(id:Nat){s:Str}(hN:Nat.ble (k+1) E.N=true)(hx:fr.ev x=.s s)(ht:TyOk E.P t ss sb sz .string)(hf:fr.has id=false)(hs:σ.has id=false):
 OpTo E ⟨some k,.range t x,ty,pos,af,gu⟩ fr σ ((k,.ptr id 0)::fr) ((id,.it (strB s) 0)::σ):=
 ⟨fun g a K Q hst hK=>by
  refine ⟨fun _ _=>trivial,?_⟩;rw[jBe _ _ _ (fun c=>by simp)];have h1:=hst.ev x;rw[hx]at h1;have e1:=z6a h1;have hr:(execOp a.eval ⟨some k,.range t x,ty,pos,af,gu⟩).run E.P g.w=.ok (.value (.pointer (some ⟨g.w.heap.size,0,none⟩))) (g.w.alloc (.stringIter (strB s) 0)):=by
   show Sem.run E.P (do let v <-Instr.range t (a.eval x);pure (Next.value v)) g.w=_;rw[e1];simp only[Instr.range,underlying,program,jAt,Sem.run,ht.u,jAp];rfl
  rw[hr,jBl];have hnew:(g.w.alloc (.stringIter (strB s) 0)).heap[g.w.heap.size]? =some (.stringIter (strB s) 0):=by show (g.w.heap.push _)[g.w.heap.size]? =_;simp
  have hold:Old (fun _=>False) g ⟨g.w.alloc (.stringIter (strB s) 0),fun q=>if q=g.w.heap.size then 0 else g.u q,fun q=>if q=id then .blk g.w.heap.size else g.loc q⟩:=by
   refine ⟨rfl,rfl,rfl,⟨by show g.w.heap.size<=(g.w.alloc _).heap.size;simp,fun q hq=>by dsimp only;split <;> omega,fun q i hq hi=>?_,fun r hr=>(Below.heap_alloc _ _ _ (zUa hr)).trans hr⟩,fun q hq _=>⟨Below.heap_alloc _ _ _ hq,by dsimp only;split <;> omega⟩⟩;simp only[World.cell?];rw[show (g.w.alloc (.stringIter (strB s) 0)).heap[q]? =g.w.heap[q]? from Below.heap_alloc _ _ _ hq]
  have hwf:Wf ⟨g.w.alloc (.stringIter (strB s) 0),fun q=>if q=g.w.heap.size then 0 else g.u q,fun q=>if q=id then .blk g.w.heap.size else g.loc q⟩:=by
   intro q hq;have hq:g.w.heap.size+1<=q:=by simpa using hq
   show (if q=g.w.heap.size then 0 else g.u q)=0;rw[if_neg (by omega)];exact hst.so.wf q (by omega)
  have hst' :=hst.addObj id (ob:=.it (strB s) 0) hf hs hold hwf (fun q hq=>if_neg hq) (.it (if_pos rfl) hnew (if_pos rfl)) (fun b hb=>by
   simp only[AO.own,if_true,Loc.block]at hb;cases hb;omega)
  exact hK _ _ (hst'.put (jAf hN) (.ptr (if_pos rfl)))⟩
def QXa(s:Str)(i:Nat):Int:=((Utf8.decode (strB s) i).1:Nat)
def ZAa(s:Str)(i:Nat):Nat:=(Utf8.decode (strB s) i).2
theorem kvb{P:Program}(w:World)(s:ByteArray)(r pos:Nat)(ty:TypeId)(hb:w.heap[r]? =some (.stringIter s pos))(h:pos < s.size):
 (Instr.next (.pointer (some ⟨r,0,none⟩)) true ty).run P w=.ok (.tuple #[.bool true,.int .i64 pos,.int .i32 (Utf8.decode s pos).1]) {w with heap:=w.heap.setIfInBounds r (.stringIter s (pos+(Utf8.decode s pos).2))}:=by
 simp only[Instr.next,getObj,setObj,jAt,Sem.run,hb,Result.andThen,h,if_true];simp[goInt]
theorem kwb{P:Program}(w:World)(s:ByteArray)(r pos:Nat)(ty:TypeId)(hb:w.heap[r]? =some (.stringIter s pos))(h:¬pos < s.size):
 (Instr.next (.pointer (some ⟨r,0,none⟩)) true ty).run P w=.ok (.tuple #[.bool false]) w:=by
 simp[Instr.next,getObj,Sem.run,hb,h]
theorem KGb{ops:Array Oper}{rest:List Oper}{k o i:Nat}{s:Str}(hg:gu=none)(hN:Nat.ble (k+1) E.N=true)(hx:fr.ev x=.ptr o 0)(ho:σ.get o=some (.it (strB s) i))
 (h1:decide (i < s.length)=true->AWPL E ops rest ((k,.tup [.bo true,.i i,.pv (.b (.int .i32 (QXa s i)))])::fr) (σ.upd o (.it (strB s) (i+ZAa s i))) K)
 (h2:decide (i < s.length)=false->AWPL E ops rest ((k,.tup [.bo false])::fr) σ K):
 AWPL E ops (⟨some k,.next x true,ty,pos,af,gu⟩::rest) fr σ K:=
 ⟨fun g a hst=>by
  subst hg;have hv:=hst.ev x;rw[hx]at hv;simp only[wpListIn,Region.wanted,if_true];refine ⟨fun _ _=>trivial,?_⟩;rw[jBe _ _ _ (fun c=>by simp)];obtain ⟨b,hl,hb,hst2⟩:=hst.itset (pos' :=i+ZAa s i) ho;have ev:a.eval x=.pointer (some ⟨b,0,none⟩):=by
   generalize a.eval x=v at hv;cases hv with
   | ptr hl2=>rw[hl]at hl2;cases hl2;rfl
  by_cases hlt:i < s.length
  .have hr:(execOp a.eval ⟨some k,.next x true,ty,pos,af,none⟩).run E.P g.w=.ok (.value (.tuple #[.bool true,.int .i64 i,.int .i32 (QXa s i)])) {g.w with heap:=g.w.heap.setIfInBounds b (.stringIter (strB s) (i+ZAa s i))}:=by
    show Sem.run E.P (do let v <-Instr.next (a.eval x) true ty;pure (Next.value v)) g.w=_;rw[ev,jAt,kvb g.w (strB s) b i ty hb (by rw[zNa];exact hlt)];rfl
   rw[hr,jBl];exact (h1 (decide_eq_true hlt)).go ⟨_,_,_⟩ _ (hst2.put (jAf hN) (.tup rfl (fun j c hj=>by
    match j,hj with
    | 0,hj=>simp at hj;subst hj;exact .pv (.b rfl)
    | 1,hj=>simp at hj;subst hj;exact .pv (.b rfl)
    | 2,hj=>simp at hj;subst hj;exact .pv (.b rfl)
    | j+3,hj=>simp at hj)))
  have hr:(execOp a.eval ⟨some k,.next x true,ty,pos,af,none⟩).run E.P g.w=.ok (.value (.tuple #[.bool false])) g.w:=by
   show Sem.run E.P (do let v <-Instr.next (a.eval x) true ty;pure (Next.value v)) g.w=_;rw[ev,jAt,kwb g.w (strB s) b i ty hb (by rw[zNa];exact hlt)];rfl
  rw[hr,jBl];exact (h2 (decide_eq_false hlt)).go g _ (hst.put (jAf hN) (.tup rfl (fun j c hj=>by
   match j,hj with
   | 0,hj=>simp at hj;subst hj;exact .pv (.b rfl)
   | j+1,hj=>simp at hj)))⟩
end
section
variable {P:Program} {ρ:Operand->AV} {σ:Sto} {dst:Option Tmp} {ty:TypeId} {pos:String} {af:Array Edge} {gu:Option (Nat × Bool)} {x:Operand} {t t' :TypeId} {ss sb ss' sb' :Nat} {sz sz' :Value}
theorem ev_u8i32{c:UInt8}(hx:ρ x=.u8 c)(ha:TyOk P t ss sb sz (.int .u8))(hb:TyOk P t' ss' sb' sz' (.int .i32)):EvQ P ⟨dst,.convert t t' x,ty,pos,af,gu⟩ ρ σ (.pv (.b (.int .i32 (c.toNat:Int)))):=
 ⟨fun c=>by simp,fun g ρv h _=>by
  have h1:=h x (by simp[Op.operands]);rw[hx]at h1;have e1:=z6a h1;have hlt:=c.toNat_lt;have hw:IntKind.i32.wrap (c.toNat:Int)=c.toNat:=by simp only[IntKind.wrap,IntKind.bits,IntKind.signed];simp;omega
  refine ⟨.int .i32 c.toNat,?_,.pv (.b rfl)⟩;simp[execOp,convert,e1,go_sem,underlying,ha.u,hb.u,Conv.intToInt,hw]⟩
theorem ev_i32u8{n:Int}(hx:ρ x=.pv (.b (.int .i32 n)))(ha:TyOk P t ss sb sz (.int .i32))(hb:TyOk P t' ss' sb' sz' (.int .u8)):EvQ P ⟨dst,.convert t t' x,ty,pos,af,gu⟩ ρ σ (.u8 (toU8 n)):=
 ⟨fun c=>by simp,fun g ρv h _=>by
  have h1:=h x (by simp[Op.operands]);rw[hx]at h1;have e1:=z6a h1;refine ⟨.int .u8 (toU8 n).toNat,?_,.pv (.b rfl)⟩;simp[execOp,convert,e1,go_sem,underlying,ha.u,hb.u,Conv.intToInt,wyb]⟩
def Zka(n:Int):Str:=(Utf8.encode n).data.toList
theorem ev_i32s{n:Int}(hx:ρ x=.pv (.b (.int .i32 n)))(ha:TyOk P t ss sb sz (.int .i32))(hb:TyOk P t' ss' sb' sz' .string):EvQ P ⟨dst,.convert t t' x,ty,pos,af,gu⟩ ρ σ (.s (Zka n)):=
 ⟨fun c=>by simp,fun g ρv h _=>by
  have h1:=h x (by simp[Op.operands]);rw[hx]at h1;have e1:=z6a h1;refine ⟨.string (Utf8.encode n),?_,.pv (.b rfl)⟩;simp[execOp,convert,e1,go_sem,underlying,ha.u,hb.u,Conv.intToString]⟩
end
end
section
structure YWa where
 size:Nat
 bytes:Nat
 zero:Value
 desc:TypeDesc
 pl:Option (Array (Nat × Nat))
abbrev Tab:=List (Nat × YWa)
def Tab.get:Tab->Nat->Option YWa
 | [],_=>none
 | (k,a)::r,t=>bif Nat.beq k t then some a else Tab.get r t
structure RowOk (P:Program) (t:TypeId) (r:YWa):Prop where
 ty:TyOk P t r.size r.bytes r.zero r.desc
 pl:∀fs p,r.desc=.struct fs->r.pl=some p->∀w,Sem.run P (fs.mapM fun f=>do pure (f.offset,<-sizeOf f.type)) w=.ok p w
def kca(P:Program)(T:Tab):Prop:=∀t r,T.get t=some r->RowOk P t r
theorem tab_nil{P:Program}:kca P []:=fun t r h=>by simp[Tab.get]at h
theorem Tab.get_cons(k:Nat)(a:YWa)(T:Tab)(t:Nat):Tab.get ((k,a)::T) t=if k=t then some a else Tab.get T t:=by
 by_cases h:k=t
 .subst h;simp[Tab.get]
 have:Nat.beq k t=false:=by cases hb:Nat.beq k t with
  | false=>rfl
  | true=>exact absurd (jAm hb) h
 simp[Tab.get,this,h]
theorem KHb{P:Program}{T:Tab}{k:Nat}{r:YWa}(h:RowOk P k r)(hT:kca P T):kca P ((k,r)::T):=fun t r' h' =>by
 rw[Tab.get_cons]at h';split at h'
 .rename_i hk;subst hk;cases h';exact h
 exact hT t r' h'
theorem qaa{P:Program}{T:Tab}{k size bytes:Nat}{zero:Value}{d:TypeDesc}(h:TyOk P k size bytes zero d)(hT:kca P T):kca P ((k,⟨size,bytes,zero,d,none⟩)::T):=
 KHb ⟨h,fun fs p _ h=>by cases h⟩ hT
theorem qxa{P:Program}{T:Tab}{k size bytes:Nat}{zero:Value}{fs:Array Field}{p:Array (Nat × Nat)}(h:TyOk P k size bytes zero (.struct fs))(hp:∀w,Sem.run P (fs.mapM fun f=>do pure (f.offset,<-sizeOf f.type)) w=.ok p w)(hT:kca P T):kca P ((k,⟨size,bytes,zero,.struct fs,some p⟩)::T):=
 KHb ⟨h,fun fs' p' h1 h2=>by cases h1;cases h2;exact hp⟩ hT
def AV.force:AV->Option AV
 | .any=>some .any
 | .pv p=>some (.pv p)
 | .agg cs=>some (.agg cs)
 | .tup vs=>some (.tup vs)
 | .ptr o f=>some (.ptr o f)
 | .ep c=>some (.ep c)
 | .hs r o=>some (.hs r o)
 | .hp r i o=>some (.hp r i o)
 | .fn f a c=>some (.fn f a c)
 | .mp o=>some (.mp o)
 | .hsub r l=>some (.hsub r l)
 | .z0=>some .z0
 | .hpre r h=>some (.hpre r h)
 | .ifc b=>some (.ifc b)
 | .ns r=>some (.ns r)
 | .np r i o=>some (.np r i o)
 | .hn r i=>some (.hn r i)
 | .hnp r i k o=>some (.hnp r i k o)
 | .nn b=>some (.nn b)
 | .ls o=>some (.ls o)
 | .mr o=>some (.mr o)
theorem AV.force_eq{c d:AV}(h:c.force=some d):c=d:=by cases c <;> simpa[AV.force]using h
def jua:List AV->Option (List AV)
 | []=>some []
 | c::cs=>match c.force with
  | some c' =>(match jua cs with | some cs' =>some (c' ::cs') | none=>none)
  | none=>none
theorem vDa:∀{cs ds:List AV},jua cs=some ds->cs=ds
 | [],_,h=>by simpa[jua]using h
 | c::cs,_,h=>by
  unfold jua at h;split at h
  .rename_i c' hc;split at h
   .rename_i cs' hcs;cases h;rw[AV.force_eq hc,vDa hcs]
   cases h
  cases h
def qPb:List PV->Option (List PV)
 | []=>some []
 | c::cs=>match qPb cs with | some cs' =>some (c::cs') | none=>none
theorem qQb:∀{cs ds:List PV},qPb cs=some ds->cs=ds
 | [],_,h=>by simpa[qPb]using h
 | c::cs,_,h=>by
  unfold qPb at h;split at h
  .rename_i cs' hcs;cases h;rw[qQb hcs]
  cases h
def AV.str? :AV->Option Str
 | .pv (.b (.string s))=>some s.data.toList
 | _=>none
theorem AV.str?_eq{c:AV}{s:Str}(h:c.str? =some s):c=.s s:=by
 unfold AV.str? at h;split at h
 .cases h;rfl
 cases h
def Sto.updF:Sto->Nat->AO->Option Sto
 | [],_,_=>some []
 | (k,a)::r,o,ob=>match Nat.beq k o with
  | true=>some ((k,ob)::r)
  | false=>(match Sto.updF r o ob with
   | some r' =>some ((k,a)::r')
   | none=>none)
section
variable {P:Program} {T:Tab} {ρ:Operand->AV} {σ:Sto} {dst:Option Tmp} {ty:TypeId} {pos:String} {af:Array Edge} {gu:Option (Nat × Bool)} {c:AV}
def qStr(op:BinOp)(x y:Str):Option AV:=match op with
 | .eql=>some (.bo (x==y))
 | .neq=>some (.bo (x !=y))
 | .lss=>some (.bo (Op.bytesLess x y))
 | _=>none
def qCmp(op:BinOp)(x y:Int):Option AV:=match op with
 | .eql=>some (.bo (x==y))
 | .neq=>some (.bo (x !=y))
 | .lss=>some (.bo (decide (x < y)))
 | .leq=>some (.bo (decide (x<=y)))
 | .gtr=>some (.bo (decide (y < x)))
 | .geq=>some (.bo (decide (y<=x)))
 | _=>none
def qI64(op:BinOp)(x y:Int):Option AV:=match op with
 | .add=>some (.i (IntKind.wrap .i64 (x+y)))
 | .sub=>some (.i (IntKind.wrap .i64 (x - y)))
 | .mul=>some (.i (IntKind.wrap .i64 (x * y)))
 | op=>qCmp op x y
def qBool(T:Tab)(op:BinOp)(t:TypeId)(x y:Bool):Option AV:=match T.get t with
 | some ⟨_,_,_,.bool,_⟩=>(match op with | .eql=>some (.bo (x==y)) | .neq=>some (.bo (x !=y)) | _=>none)
 | _=>none
def qBin(T:Tab)(op:BinOp)(t:TypeId)(a b:AV):Option AV:=match a with
 | .pv (.b (.int .i64 x))=>(match b with | .pv (.b (.int .i64 y))=>qI64 op x y | _=>none)
 | .pv (.b (.int .u8 x))=>(match b with | .pv (.b (.int .u8 y))=>qCmp op x y | _=>none)
 | .pv (.b (.int .i32 x))=>(match b with | .pv (.b (.int .i32 y))=>qCmp op x y | _=>none)
 | .pv (.b (.int .u64 x))=>(match b with | .pv (.b (.int .u64 y))=>qCmp op x y | _=>none)
 | .pv (.b (.string x))=>(match b with | .pv (.b (.string y))=>qStr op x.data.toList y.data.toList | _=>none)
 | .pv (.b (.bool x))=>(match b with | .pv (.b (.bool y))=>qBool T op t x y | _=>none)
 | _=>none
theorem kxb{op:BinOp}{t t' :TypeId}{x y:Operand}{k:IntKind}{a b:Int}(hx:ρ x=.pv (.b (.int k a)))(hy:ρ y=.pv (.b (.int k b)))(h:qCmp op a b=some c):EvQ P ⟨dst,.binOp op t x y t',ty,pos,af,gu⟩ ρ σ c:=by
 unfold qCmp at h;split at h <;> first | (cases h;done) | skip
 all_goals cases h
 .exact ev_eql hx hy
 .exact ev_neq hx hy
 .exact ev_lss hx hy
 .exact ev_leq hx hy
 .exact ev_gtr hx hy
 exact ev_geq hx hy
theorem qI64_ok{op:BinOp}{t t' :TypeId}{x y:Operand}{a b:Int}(hx:ρ x=.pv (.b (.int .i64 a)))(hy:ρ y=.pv (.b (.int .i64 b)))(h:qI64 op a b=some c):EvQ P ⟨dst,.binOp op t x y t',ty,pos,af,gu⟩ ρ σ c:=by
 unfold qI64 at h;split at h
 .cases h;exact ev_add hx hy
 .cases h;exact ev_sub hx hy
 .cases h;exact ev_mul hx hy
 exact kxb hx hy h
theorem qStr_ok{op:BinOp}{t t' :TypeId}{x y:Operand}{a b:Str}(hx:ρ x=.s a)(hy:ρ y=.s b)(h:qStr op a b=some c):EvQ P ⟨dst,.binOp op t x y t',ty,pos,af,gu⟩ ρ σ c:=by
 unfold qStr at h;split at h <;> first | (cases h;done) | skip
 all_goals cases h
 .exact ev_seql hx hy
 .exact ev_sneq hx hy
 exact ev_slss hx hy
theorem qBool_ok(hT:kca P T){op:BinOp}{t t' :TypeId}{x y:Operand}{a b:Bool}(hx:ρ x=.bo a)(hy:ρ y=.bo b)(h:qBool T op t a b=some c):EvQ P ⟨dst,.binOp op t x y t',ty,pos,af,gu⟩ ρ σ c:=by
 unfold qBool at h;split at h
 .rename_i hr;have:=(hT _ _ hr).ty;split at h
  .cases h;exact ev_beql hx hy this
  .cases h;exact ev_bneq hx hy this
  cases h
 cases h
theorem qBin_ok(hT:kca P T){op:BinOp}{t t' :TypeId}{x y:Operand}(h:qBin T op t (ρ x) (ρ y)=some c):EvQ P ⟨dst,.binOp op t x y t',ty,pos,af,gu⟩ ρ σ c:=by
 unfold qBin at h;split at h
 .rename_i hx;split at h
  .rename_i hy;exact qI64_ok hx hy h
  cases h
 .rename_i hx;split at h
  .rename_i hy;exact kxb hx hy h
  cases h
 .rename_i hx;split at h
  .rename_i hy;exact kxb hx hy h
  cases h
 .rename_i hx;split at h
  .rename_i hy;exact kxb hx hy h
  cases h
 .rename_i hx;split at h
  .rename_i hy;exact qStr_ok hx hy h
  cases h
 .rename_i hx;split at h
  .rename_i hy;exact qBool_ok hT hx hy h
  cases h
 cases h
def qLoad(T:Tab)(σ:Sto)(t:TypeId)(v:AV):Option AV:=match T.get t with
 | none=>none
 | some row=>match v with
  | .ptr o off=>(match σ.get o with
   | some (.cells cs)=>bif dAgg row.desc then (bif Nat.ble (off+row.size) cs.length then (match jua ((cs.drop off).take row.size) with | some l=>some (.agg l) | none=>none) else none)
    else (match cs[off]? with | some c=>c.force | none=>none)
   | _=>none)
  | .ep el=>bif dAgg row.desc then (bif Nat.beq el.length row.size then (match jua (el.map .pv) with | some l=>some (.agg l) | none=>none) else none)
   else (match el with | c::_=>some (.pv c) | []=>none)
  | _=>none
theorem qLoad_ok(hT:kca P T){t:TypeId}{x:Operand}(h:qLoad T σ t (ρ x)=some c):EvQ P ⟨dst,.load t x,ty,pos,af,gu⟩ ρ σ c:=by
 unfold qLoad at h;split at h
 .cases h
 rename_i row hr;have ht:=(hT _ _ hr).ty;split at h
 .rename_i o off hx;split at h
  .rename_i cs ho;cases hd:dAgg row.desc with
   | true=>
    rw[hd]at h;simp only[cond_true]at h;cases hn:Nat.ble (off+row.size) cs.length with
    | false=>rw[hn]at h;cases h
    | true=>
     rw[hn]at h;simp only[cond_true]at h;split at h
     .rename_i l hl;cases h;rw[<-vDa hl];exact ev_loadN hx ho ht hd hn
     cases h
   | false=>
    rw[hd]at h;simp only[cond_false]at h;split at h
    .rename_i c' hc;rw[<-AV.force_eq h];exact ev_load hx ho ht hd hc
    cases h
  cases h
 .rename_i el hx;cases hd:dAgg row.desc with
  | true=>
   rw[hd]at h;simp only[cond_true]at h;cases hn:Nat.beq el.length row.size with
   | false=>rw[hn]at h;cases h
   | true=>
    rw[hn]at h;simp only[cond_true]at h;split at h
    .rename_i l hl;cases h;rw[<-vDa hl];exact wxb hx ht hd (jAm hn)
    cases h
  | false=>
   rw[hd]at h;simp only[cond_false]at h;split at h
   .cases h;exact jYb hx ht hd (by simp)
   cases h
 cases h
def qFA(T:Tab)(t:TypeId)(f:Nat)(v:AV):Option AV:=match T.get t with
 | some ⟨_,_,_,.struct fs,_⟩=>(match fs[f]? with
  | some fl=>(match T.get fl.type with
   | some r2=>bif Nat.beq r2.size 0 then none else (match v with
    | .ptr o off=>some (.ptr o (off+fl.offset))
    | .ep el=>bif Nat.ble fl.offset el.length then (match qPb (el.drop fl.offset) with | some l=>some (.ep l) | none=>none) else none
    | .hp r i j=>some (.hp r i (j+fl.offset))
    | _=>none)
   | none=>none)
  | none=>none)
 | _=>none
theorem qFA_ok(hT:kca P T){t:TypeId}{f:Nat}{x:Operand}(h:qFA T t f (ρ x)=some c):EvQ P ⟨dst,.fieldAddr t x f,ty,pos,af,gu⟩ ρ σ c:=by
 unfold qFA at h;split at h
 .rename_i fs _ hr;have ht:=(hT _ _ hr).ty.u;split at h
  .rename_i fl hf;split at h
   .rename_i r2 hr2;have ht2:=(hT _ _ hr2).ty;cases hz:Nat.beq r2.size 0 with
    | true=>rw[hz]at h;cases h
    | false=>
     rw[hz]at h;simp only[cond_false]at h;split at h
     .rename_i hx;cases h;exact qFb hx ht hf ht2 hz
     .rename_i el hx;cases hle:Nat.ble fl.offset el.length with
      | false=>rw[hle]at h;cases h
      | true=>
       rw[hle]at h;simp only[cond_true]at h;split at h
       .rename_i l hl;cases h;rw[<-qQb hl];exact YQa hx ht hf ht2 hz hle
       cases h
     .rename_i hx;cases h;exact YUa hx ht hf ht2 hz
     cases h
   cases h
  cases h
 cases h
def KIb(T:Tab)(t:TypeId)(f:Nat)(v:AV):Option AV:=match T.get t with
 | some ⟨_,_,_,.struct fs,_⟩=>(match fs[f]? with
  | some fl=>(match T.get fl.type with
   | some r2=>(match v with
    | .agg cs=>bif dAgg r2.desc then none else (match cs[fl.offset]? with | some c=>c.force | none=>none)
    | _=>none)
   | none=>none)
  | none=>none)
 | _=>none
theorem KJb(hT:kca P T){t:TypeId}{f:Nat}{x:Operand}(h:KIb T t f (ρ x)=some c):EvQ P ⟨dst,.field t x f,ty,pos,af,gu⟩ ρ σ c:=by
 unfold KIb at h;split at h
 .rename_i fs _ hr;have ht:=(hT _ _ hr).ty.u;split at h
  .rename_i fl hf;split at h
   .rename_i r2 hr2;have ht2:=(hT _ _ hr2).ty;split at h
    .rename_i cs hx;cases hd:dAgg r2.desc with
     | true=>rw[hd]at h;cases h
     | false=>
      rw[hd]at h;simp only[cond_false]at h;split at h
      .rename_i c' hc;rw[<-AV.force_eq h];exact ev_field hx ht hf ht2 hd hc
      cases h
    cases h
   cases h
  cases h
 cases h
def qLen(T:Tab)(t:TypeId)(v:AV):Option AV:=match v with
 | .pv (.b (.string s))=>(match T.get t with | some ⟨_,_,_,.string,_⟩=>some (.i s.data.toList.length) | _=>none)
 | _=>none
theorem qLen_ok(hT:kca P T){t:TypeId}{x:Operand}(h:qLen T t (ρ x)=some c):EvQ P ⟨dst,.call ⟨.builtin .len, #[x], #[t]⟩,ty,pos,af,gu⟩ ρ σ c:=by
 unfold qLen at h;split at h
 .rename_i hx;split at h
  .rename_i hr;cases h;exact ev_slen hx (hT _ _ hr).ty.u
  cases h
 cases h
def KKb(T:Tab)(t:TypeId)(ps:List (Nat × AV)):Option AV:=match T.get t with
 | some ⟨_,_,z,.struct _,some pl⟩=>bif z.cells.toList.all cellV then (match jua (z.cells.toList.map wFa) with
  | some zs=>(match knb (pl[·]?) zs ps with
   | some cs=>(match jua cs with | some cs' =>some (.agg cs') | none=>none)
   | none=>none)
  | none=>none) else none
 | _=>none
theorem KLb(hT:kca P T){t:TypeId}{ps:List (Nat × Operand)}(h:KKb T t (ps.map fun p=>(p.1,ρ p.2))=some c):EvQ P ⟨dst,.build t ps.toArray,ty,pos,af,gu⟩ ρ σ c:=by
 unfold KKb at h;split at h
 .rename_i z fs pl hr;have hk:=hT _ _ hr;cases hz:z.cells.toList.all cellV with
  | false=>rw[hz]at h;cases h
  | true=>
   rw[hz]at h;simp only[cond_true]at h;split at h
   .rename_i zs hzs;split at h
    .rename_i cs hc;split at h
     .rename_i cs' hcs;cases h;rw[<-vDa hcs];rw[<-vDa hzs]at hc;exact ev_build hk.ty (hk.pl fs pl rfl rfl) (.inr ⟨rfl,hz⟩) hc
     cases h
    cases h
   cases h
 cases h
def qConv(T:Tab)(t t' :TypeId)(v:AV):Option AV:=match T.get t,T.get t' with
 | some ⟨_,_,_,.string,_⟩,some ⟨_,_,_,.string,_⟩=>(match v with | .pv (.b (.string s))=>some (.s s.data.toList) | _=>none)
 | some ⟨_,_,_,.int .i32,_⟩,some ⟨_,_,_,.int .u8,_⟩=>(match v with | .pv (.b (.int .i32 n))=>some (.u8 (toU8 n)) | _=>none)
 | some ⟨_,_,_,.int .i32,_⟩,some ⟨_,_,_,.string,_⟩=>(match v with | .pv (.b (.int .i32 n))=>some (.s (Zka n)) | _=>none)
 | _,_=>none
theorem qConv_ok(hT:kca P T){t t' :TypeId}{x:Operand}(h:qConv T t t' (ρ x)=some c):EvQ P ⟨dst,.convert t t' x,ty,pos,af,gu⟩ ρ σ c:=by
 unfold qConv at h;split at h
 .rename_i h1 h2;split at h
  .rename_i hx;cases h;exact ev_s2s hx (hT _ _ h1).ty (hT _ _ h2).ty
  cases h
 .rename_i h1 h2;split at h
  .rename_i hx;cases h;exact ev_i32u8 hx (hT _ _ h1).ty (hT _ _ h2).ty
  cases h
 .rename_i h1 h2;split at h
  .rename_i hx;cases h;exact ev_i32s hx (hT _ _ h1).ty (hT _ _ h2).ty
  cases h
 cases h
theorem wNb{x:Operand}{o off:Nat}(hx:ρ x=.ptr o off):EvQ P ⟨dst,.nilCheck x,ty,pos,af,gu⟩ ρ σ (.ptr o off):=
 ⟨fun c=>by simp,fun g ρv h _=>by
  have h1:=h x (by simp[Op.operands]);rw[hx]at h1;generalize hv:ρv x=v at h1;cases h1 with
  | @ptr _ _ b hl=>
   refine ⟨_,?_,.ptr hl⟩;simp[execOp,hv]⟩
def qval(T:Tab)(ρ:Operand->AV)(σ:Sto):Op->Option AV
 | .move x=>(ρ x).force
 | .assign x=>(ρ x).force
 | .extract x i=>(match ρ x with | .tup cs=>(match cs[i]? with | some c=>c.force | none=>none) | _=>none)
 | .binOp op t x y _=>qBin T op t (ρ x) (ρ y)
 | .unOp .not _ x=>(match ρ x with | .pv (.b (.bool b))=>some (.bo (!b)) | _=>none)
 | .pick c x y=>(match ρ c with | .pv (.b (.bool b))=>(match b with | true=>(ρ x).force | false=>(ρ y).force) | _=>none)
 | .load t x=>qLoad T σ t (ρ x)
 | .fieldAddr t x f=>qFA T t f (ρ x)
 | .field t x f=>KIb T t f (ρ x)
 | .call ⟨.builtin .len,⟨[x]⟩,⟨[t]⟩⟩=>qLen T t (ρ x)
 | .build t ps=>KKb T t (ps.toList.map fun p=>(p.1,ρ p.2))
 | .convert t t' x=>qConv T t t' (ρ x)
 | .makeFunc f xs ys=>(match jua (xs.toList.map ρ),jua (ys.toList.map ρ) with | some a,some b=>some (.fn f a b) | _,_=>none)
 | .nilCheck x=>(match ρ x with | .ptr o off=>some (.ptr o off) | _=>none)
 | _=>none
theorem Wta(hT:kca P T){op:Op}(h:qval T ρ σ op=some c):EvQ P ⟨dst,op,ty,pos,af,gu⟩ ρ σ c:=by
 unfold qval at h;split at h
 .rw[<-AV.force_eq h];exact ev_move
 .rw[<-AV.force_eq h];exact Kjb
 .split at h
  .rename_i hx;split at h
   .rename_i hc;rw[<-AV.force_eq h];exact jXb hx hc
   cases h
  cases h
 .exact qBin_ok hT h
 .split at h
  .rename_i hx;cases h;exact ev_not hx
  cases h
 .split at h
  .rename_i b hc;cases b with
   | true=>rw[<-AV.force_eq h];exact qCb hc rfl
   | false=>rw[<-AV.force_eq h];exact qDb hc rfl
  cases h
 .exact qLoad_ok hT h
 .exact qFA_ok hT h
 .exact KJb hT h
 .exact qLen_ok hT h
 .rename_i ps;obtain ⟨ps⟩:=ps;exact KLb hT h
 .exact qConv_ok hT h
 .rename_i f xs ys;obtain ⟨xs⟩:=xs;obtain ⟨ys⟩:=ys;split at h
  .rename_i h1 h2;cases h;exact wIb (vDa h1) (vDa h2)
  cases h
 .split at h
  .rename_i hx;cases h;exact wNb hx
  cases h
 cases h
end
section
variable {E:Env} {fr:Fr} {σ:Sto} {K:Post}
def opDo(T:Tab)(N:Nat)(o:Oper)(fr:Fr)(σ:Sto):Option (Fr × Sto):=match o.dst with
 | some d=>bif Nat.ble (d+1) N then (match o.op with
  | .alloc t=>(match T.get t with
   | some row=>(match jua (row.zero.cells.toList.map wFa) with
    | some cs=>bif (row.zero.cells.toList.all cellV && !fr.has d && !σ.has d && !AV.hasL d cs) then some ((d,.ptr d 0)::fr,(d,.cells cs)::σ) else none
    | none=>none)
   | none=>none)
  | .box _ x=>(match (fr.ev x).cells with
   | some cs0=>(match jua cs0 with
    | some cs=>bif (!fr.has d && !σ.has d && !AV.hasL d cs) then some ((d,.ptr d 0)::fr,(d,.cells cs)::σ) else none
    | none=>none)
   | none=>none)
  | op=>(match qval T fr.ev σ op with
   | some c=>some ((d,c)::fr,σ)
   | none=>none)) else none
 | none=>(match o.op with
  | .store t x y=>(match T.get t with
   | some row=>(match fr.ev x with
    | .ptr b off=>(match σ.get b with
     | some (.cells cs)=>(match (fr.ev y).cells with
      | some vs=>bif (Nat.beq vs.length row.size && Nat.ble (off+vs.length) cs.length) then (match jua (QTa cs off vs) with
       | some cs' =>(match Sto.updF σ b (.cells cs') with
        | some σ' =>some (fr,σ')
        | none=>none)
       | none=>none) else none
      | none=>none)
     | _=>none)
    | _=>none)
   | none=>none)
  | _=>none)
theorem KMb:∀{σ σ' :Sto} {o:Nat} {ob:AO},Sto.updF σ o ob=some σ' ->σ.upd o ob=σ'
 | [],_,_,_,h=>by simp[Sto.updF]at h;subst h;rfl
 | (k,a)::r,σ',o,ob,h=>by
  unfold Sto.updF at h;unfold Sto.upd;cases hb:Nat.beq k o with
  | true=>rw[hb]at h;cases h;rfl
  | false=>
   rw[hb]at h;dsimp only at h;split at h
   .rename_i r' hr;cases h;rw[KMb hr];rfl
   cases h
theorem wOb{T:Tab}(hT:kca E.P T){o:Oper}{fr' :Fr}{σ' :Sto}(h:opDo T E.N o fr σ=some (fr',σ')):OpTo E o fr σ fr' σ' :=by
 obtain ⟨dst,op,ty,pos,af,gu⟩:=o;unfold opDo at h;split at h
 .rename_i d hd;dsimp only at hd;subst hd;cases hN:Nat.ble (d+1) E.N with
  | false=>rw[hN]at h;cases h
  | true=>
   rw[hN]at h;simp only[cond_true]at h;split at h
   .rename_i t;split at h
    .rename_i row hr;split at h
     .rename_i cs hcs;cases hb:(row.zero.cells.toList.all cellV && !fr.has d && !σ.has d && !AV.hasL d cs) with
      | false=>rw[hb]at h;cases h
      | true=>
       rw[hb]at h;simp only[cond_true]at h;cases h;simp only[jAh,jCn]at hb;obtain ⟨⟨⟨h1,h2⟩,h3⟩,h4⟩:=hb;exact zrb d hN (hT _ _ hr).ty (.inr ⟨vDa hcs,h1⟩) h2 h3 h4
     cases h
    cases h
   .split at h
    .rename_i cs0 hc0;split at h
     .rename_i cs hcs;cases hb:(!fr.has d && !σ.has d && !AV.hasL d cs) with
      | false=>rw[hb]at h;cases h
      | true=>
       rw[hb]at h;simp only[cond_true]at h;cases h;simp only[jAh,jCn]at hb;obtain ⟨⟨h2,h3⟩,h4⟩:=hb;rw[vDa hcs]at hc0;exact Qma d hN hc0 h2 h3 h4
     cases h
    cases h
   split at h
   .rename_i c hc;cases h;exact jqa rfl hN (Wta hT hc)
   cases h
 rename_i hd;dsimp only at hd;subst hd;split at h
 .subst_vars
  split at h
  .rename_i row hr;split at h
   .rename_i b off hx;split at h
    .rename_i cs ho;split at h
     .rename_i vs hy;cases hb:(Nat.beq vs.length row.size && Nat.ble (off+vs.length) cs.length) with
      | false=>rw[hb]at h;cases h
      | true=>
       rw[hb]at h;simp only[cond_true]at h;simp only[jAh]at hb;split at h
       .rename_i cs' hcs;split at h
        .rename_i s' hs';cases h;have e1:=KMb hs';rw[<-vDa hcs]at e1;rw[<-e1];exact zsb hx ho hy (hT _ _ hr).ty hb.1 hb.2
        cases h
       cases h
     cases h
    cases h
   cases h
  cases h
 cases h
def Mono(K:Post):Prop:=∀e fr σ fr' σ',FrLe fr fr' ->kSa σ σ' ->K e fr' σ' ->K e fr σ
theorem Zab{y:Code}(h:Mono K):Mono (jUb E y K):=fun e fr σ fr' σ' hf hs hk=>by
 cases e <;> first | exact yFb hf hs hk | exact h _ _ _ _ _ hf hs hk
theorem wPb{id:Nat}(h:Mono K):Mono (Vza id K):=fun e fr σ fr' σ' hf hs hk=>by
 cases e
 case exit i=>
  simp only[Vza]at hk ⊢;split
  .rename_i hi;rw[if_pos hi]at hk;exact h _ _ _ _ _ hf hs hk
  rename_i hi;rw[if_neg hi]at hk;exact h _ _ _ _ _ hf hs hk
 all_goals exact h _ _ _ _ _ hf hs hk
theorem KNb{J:Type}{frs:J->Fr}{stos:J->Sto}{M:J->Prop}(h:Mono K):Mono (JoinK K frs stos M):=fun e fr σ fr' σ' hf hs hk=>by
 cases e
 case normal=>
  obtain ⟨j,hm,h1,h2⟩:=hk;exact ⟨j,hm,Qja hf h1,qSa hs h2⟩
 all_goals exact h _ _ _ _ _ hf hs hk
theorem Zbb(h:Mono K):Mono (KDb K):=fun e fr σ fr' σ' hf hs hk=>by
 cases e <;> first | exact h _ _ _ _ _ hf hs hk | exact hk.elim
theorem KOb{e0:Exit}{fr0:Fr}{σ0:Sto}:Mono (At e0 fr0 σ0):=fun e fr σ fr' σ' hf hs ⟨h1,h2,h3⟩=>⟨h1,Qja hf h2,qSa hs h3⟩
theorem ZBa{A R:Type}{frs:A->Fr}{stos:A->Sto}{e0:R->Exit}{fr0:R->Fr}{σ0:R->Sto}{x:Step A R}:Mono (Zva frs stos (fun b=>At (e0 b) (fr0 b) (σ0 b)) x):=fun e fr σ fr' σ' hf hs hk=>by
 cases x with
 | cont s=>exact KOb e fr σ fr' σ' hf hs hk
 | out r=>exact ⟨hk.1,KOb e fr σ fr' σ' hf hs hk.2⟩
theorem qRb{P:Program}{fn:Func}{r:AV}:Mono (Kret P fn r):=fun e fr σ fr' σ' hf hs ⟨h1,cs,h2,h3⟩=>⟨h1,cs,h2.le hf hs,h3⟩
inductive KS where
 | base (K:Post) (h:Mono K)
 | th (y:Code) (k:KS)
 | bl (id:Nat) (k:KS)
 | sc (k:KS)
 | jo {J:Type} (frs:J->Fr) (stos:J->Sto) (M:J->Prop) (k:KS)
def KS.post(E:Env):KS->Post
 | .base K _=>K
 | .th y k=>jUb E y (k.post E)
 | .bl id k=>Vza id (k.post E)
 | .sc k=>KDb (k.post E)
 | .jo frs stos M k=>JoinK (k.post E) frs stos M
theorem KS.mono(E:Env):∀k:KS,Mono (k.post E)
 | .base _ h=>h
 | .th _ k=>Zab (k.mono E)
 | .bl _ k=>wPb (k.mono E)
 | .sc k=>Zbb (k.mono E)
 | .jo _ _ _ k=>KNb (k.mono E)
inductive GS where
 | ops (ops:Array Oper) (l:List Oper) (fr:Fr) (σ:Sto) (k:KS)
 | code (c:Code) (fr:Fr) (σ:Sto) (k:KS)
 | at (e:Exit) (fr:Fr) (σ:Sto) (k:KS)
def GS.holds(E:Env):GS->Prop
 | .ops o l fr σ k=>AWPL E o l fr σ (k.post E)
 | .code c fr σ k=>AWP E c fr σ (k.post E)
 | .at e fr σ k=>k.post E e fr σ
def GS.step(T:Tab)(N:Nat):GS->Option GS
 | .ops o l fr σ k=>(match l with
  | []=>some (.at .normal fr σ k)
  | x::rest=>(match x.guard with
   | none=>(match opDo T N x fr σ with | some (fr',σ')=>some (.ops o rest fr' σ' k) | none=>none)
   | some (j,want)=>(match (o[j]?).bind (·.dst) with
    | none=>none
    | some d=>(match fr.get d with
     | .pv (.b (.bool t))=>(match (match t,want with | true,w=>w | false,w=> !w) with
      | true=>(match opDo T N x fr σ with | some (fr',σ')=>some (.ops o rest fr' σ' k) | none=>none)
      | false=>(match x.dst with | some d=>some (.ops o rest ((d,.tup [])::fr) σ k) | none=>some (.ops o rest fr σ k)))
     | .tup []=>(match x.dst with | some d=>some (.ops o rest ((d,.tup [])::fr) σ k) | none=>some (.ops o rest fr σ k))
     | _=>none))))
 | .code c fr σ k=>(match c with
  | .seq x y=>some (.code x fr σ (.th y k))
  | .region _ os draw=>(match draw with | false=>some (.ops os os.toList fr σ k) | true=>none)
  | .block id x=>some (.code x fr σ (.bl id k))
  | .scope x=>some (.code x fr σ (.sc k))
  | .label _=>some (.at .normal fr σ k)
  | .skip=>some (.at .normal fr σ k)
  | .ret=>some (.at .ret fr σ k)
  | .exit i=>some (.at (.exit i) fr σ k)
  | .cond v x y=>(match fr.ev v with
   | .pv (.b (.bool t))=>(match t with | true=>some (.code x fr σ k) | false=>some (.code y fr σ k))
   | _=>none)
  | _=>none)
 | .at e fr σ k=>(match k with
  | .base _ _=>none
  | .th y k=>(match e with
   | .normal=>some (.code y fr σ k)
   | .ret=>some (.at .ret fr σ k)
   | .exit i=>some (.at (.exit i) fr σ k)
   | _=>none)
  | .bl id k=>(match e with
   | .normal=>some (.at .normal fr σ k)
   | .ret=>some (.at .ret fr σ k)
   | .exit i=>(match Nat.beq i id with | true=>some (.at .normal fr σ k) | false=>some (.at (.exit i) fr σ k))
   | _=>none)
  | .sc k=>(match e with
   | .normal=>some (.at .normal fr σ k)
   | .ret=>some (.at .ret fr σ k)
   | .exit i=>some (.at (.exit i) fr σ k)
   | _=>none)
  | .jo _ _ _ k=>(match e with
   | .ret=>some (.at .ret fr σ k)
   | .exit i=>some (.at (.exit i) fr σ k)
   | _=>none))
def GS.run(T:Tab)(N:Nat):Nat->GS->Option GS
 | 0,g=>some g
 | n+1,g=>match GS.step T N g with
  | some g' =>GS.run T N n g'
  | none=>none
theorem step_ok{T:Tab}(hT:kca E.P T){g g' :GS}(h:GS.step T E.N g=some g')(hh:g'.holds E):g.holds E:=by
 unfold GS.step at h;split at h
 .rename_i o l fr σ k;split at h
  .cases h;exact yHb hh
  rename_i x rest;split at h
  .rename_i hg;split at h
   .rename_i fr' σ' ho;cases h;exact q9a hg (wOb hT ho) hh
   cases h
  rename_i j want hg;split at h
  .cases h
  rename_i d hj;split at h
  .rename_i t hv;split at h
   .rename_i hw;have ht:t=want:=by cases t <;> cases want <;> simp_all
    split at h
    .rename_i fr' σ' ho;cases h;exact awpl_yes hg hj hv ht (wOb hT ho) hh
    cases h
   rename_i hw;have ht:t= !want:=by cases t <;> cases want <;> simp_all
   split at h
   .rename_i d' hd;cases h;exact Kib hg hj hv ht (by rw[hd];exact hh)
   rename_i hd;cases h;exact Kib hg hj hv ht (by rw[hd];exact hh)
  .rename_i hv;split at h
   .rename_i d' hd;cases h;exact qBb hg hj hv (by rw[hd];exact hh)
   rename_i hd;cases h;exact qBb hg hj hv (by rw[hd];exact hh)
  cases h
 .rename_i c fr σ k;split at h
  .cases h;exact Keb hh
  .rename_i id ops draw;cases draw with
   | false=>cases h;obtain ⟨ops⟩:=ops;exact zpb hh
   | true=>cases h
  .cases h;exact Kfb hh
  .cases h;exact KEb hh
  .cases h;exact KFb hh
  .cases h;exact awp_skip hh
  .cases h;exact awp_ret hh
  .cases h;exact awp_exit hh
  .split at h
   .rename_i t hv;cases t with
    | true=>cases h;exact khb hv (fun _=>hh) (fun h=>nomatch h)
    | false=>cases h;exact khb hv (fun h=>nomatch h) (fun _=>hh)
   cases h
  cases h
 rename_i e fr σ k;split at h
 .cases h
 .split at h <;> first | (cases h;done) | (cases h;exact hh)
 .split at h
  .cases h;exact hh
  .cases h;exact hh
  .rename_i id k _ i;cases hb:Nat.beq i id with
   | true=>rw[hb]at h;cases h;have:=jAm hb;subst this;exact wwb hh
   | false=>rw[hb]at h;cases h;exact qyb hb hh
  cases h
 .split at h <;> first | (cases h;done) | (cases h;exact hh)
 split at h <;> first | (cases h;done) | (cases h;exact hh)
theorem rn{T:Tab}(hT:kca E.P T)(n:Nat){g g' :GS}(h:GS.run T E.N n g=some g')(hh:g'.holds E):g.holds E:=by
 induction n generalizing g with
 | zero=>simp only[GS.run,Option.some.injEq]at h;subst h;exact hh
 | succ n ih=>
  unfold GS.run at h;split at h
  .rename_i g1 h1;exact step_ok hT h1 (ih h)
  cases h
end
end
section
open Go.RowKit Go.Lib Go.Proofs.Tryz
variable {E:Env} {fr:Fr} {σ:Sto} {K:Post} {P:Program} {ρ:Operand->AV}
variable {dst:Option Tmp} {ty:TypeId} {pos:String} {af:Array Edge} {gu:Option (Nat × Bool)} {x y:Operand} {r:Nat} {l:List UInt8} {t tx e:TypeId}
theorem RelO.bufs{g:G}{v:Value}(h:RelO g r (.buf l))(hv:Rel g (.hs r 0) v):∃a e b cap vs,v=.slice (some a) l.length cap/\(0 < cap->a=⟨b,0,none⟩)/\g.loc r=.row b 0 cap 1 l.length/\g.w.heap[b]? =some (.cells vs e (cap,cap+1))/\vs.size=cap/\l.length<=cap/\g.u b=0/\∀i c,l[i]? =some c->vs.getD i undef=.int .u8 (c.toNat:Int):=by
 cases h with
 | @buf _ e b cap vs h1 h2 h3 h4 h5 h6=>
  cases hv with
  | hsNil a hl=>rw[h1]at hl;cases hl
  | @hs _ b' off' cap' size' n' a hl ha=>
   rw[h1]at hl;cases hl;exact ⟨a,e,b,cap,vs,rfl,fun hc=>by simpa using ha hc,h1,h2,h3,h4,h5,h6⟩
theorem KPb(hx:ρ x=.hs r 0)(hr:σ.get r=some (.buf l))(ht:P.underlying t=some (.slice tx)):EvQ P ⟨dst,.call ⟨.builtin .len, #[x], #[t]⟩,ty,pos,af,gu⟩ ρ σ (.i l.length):=
 ⟨fun c=>by simp,fun g ρv h hs=>by
  have h1:=h x (by simp[Op.operands,Call.operands]);rw[hx]at h1;obtain ⟨a,e,b,cap,vs,ev,_⟩:=(hs r _ hr).bufs h1;refine ⟨.int .i64 l.length,?_,.pv (.b rfl)⟩;simp[execOp,resolve,invoke,builtin,Builtin.len_,ev,go_sem,underlying,ht,goInt]⟩
section
variable {n:Int} {kk:IntKind} {v v' :UInt8} {ss sb s1 s2:Nat} {sz zero:Value}
theorem qSb(hx:ρ x=.hs r 0)(hy:ρ y=.pv (.b (.int kk n)))(hr:σ.get r=some (.buf l))(ht:TyOk P t ss sb sz (.slice e))(he:TyOk P e 1 s2 zero (.int .u8))(hv:idx l n=some v):
 EvQ P ⟨dst,.indexAddr t x y,ty,pos,af,gu⟩ ρ σ (.hp r n.toNat 0):=
 ⟨fun c=>by simp,fun g ρv h hs=>by
  obtain ⟨h1,h2⟩:=ops2 (o:=⟨dst,.indexAddr t x y,ty,pos,af,gu⟩) (x:=x) (y:=y) rfl h;rw[hx]at h1;rw[hy]at h2;have e2:=z6a h2;obtain ⟨hn0,hv⟩:=yCa hv;have hlt:n.toNat < l.length:=(jAd.1 hv).1;have hn2:n < l.length:=by omega
  obtain ⟨i,hi,hsz,hby,hzero⟩:=he.info;obtain ⟨a,e',b,cap,vs,ev,ha,hl,_,_,hle,_,_⟩:=(hs r _ hr).bufs h1;have ha:=ha (by omega);subst ha;refine ⟨.pointer (some ⟨b,(0+n.toNat) * 1+0,none⟩),?_,.hp hl hlt⟩;simp[execOp,Instr.indexAt,e2,ev,go_sem,asIntOf,underlying,ht.u,sizeOf,typeInfo,hi,hsz,hn0,hn2,vsa]⟩
theorem RelO.bufp{g:G}{i:Nat}{vp:Value}(h:RelO g r (.buf l))(hp:Rel g (.hp r i 0) vp):∃e b cap vs,vp=.pointer (some ⟨b,i,none⟩)/\g.loc r=.row b 0 cap 1 l.length/\g.w.heap[b]? =some (.cells vs e (cap,cap+1))/\vs.size=cap/\l.length<=cap/\g.u b=0/\∀i c,l[i]? =some c->vs.getD i undef=.int .u8 (c.toNat:Int):=by
 cases h with
 | @buf _ e b cap vs h1 h2 h3 h4 h5 h6=>
  cases hp with
  | hp hl hi=>
   rw[h1]at hl;cases hl;exact ⟨e,b,cap,vs,by simp,h1,h2,h3,h4,h5,h6⟩
theorem Zcb(hx:ρ x=.hp r n.toNat 0)(hr:σ.get r=some (.buf l))(ht:TyOk P t ss sb sz (.int .u8))(hv:idx l n=some v):EvQ P ⟨dst,.load t x,ty,pos,af,gu⟩ ρ σ (.pv (pU v)):=
 ⟨fun c=>by simp,fun g ρv h hs=>by
  have h1:=h x (by simp[Op.operands]);rw[hx]at h1;obtain ⟨hn0,hv⟩:=yCa hv;obtain ⟨e,b,cap,vs,e1,e2,e3,e4,e5,e6,e7⟩:=(hs r _ hr).bufp h1;have hlt:=(jAd.1 hv).1;refine ⟨_,yra e1 (yIa ht rfl (kOa e3 (by omega))),?_⟩;rw[e7 _ _ hv];exact .pv (.b rfl)⟩
theorem ev_buf2s(hx:ρ x=.hs r 0)(hr:σ.get r=some (.buf l))(ht:TyOk P t ss sb sz (.slice e))(he:TyOk P e s1 s2 zero (.int .u8)){ss' sb' :Nat}{sz' :Value}(htx:TyOk P tx ss' sb' sz' .string):
 EvQ P ⟨dst,.convert t tx x,ty,pos,af,gu⟩ ρ σ (.s l):=
 ⟨fun c=>by simp,fun g ρv hh hs=>by
  have h1:=hh x (by simp[Op.operands]);rw[hx]at h1;obtain ⟨a,e',b,cap,vs,ev,ha,hl,hb,hcap,hle,_,hc⟩:=(hs r _ hr).bufs h1;refine ⟨.string (strB l),?_,.pv (.b rfl)⟩;show Sem.run P (do let v <-convert t tx (ρv x);pure (Next.value v)) g.w=_
  suffices hs:Sem.run P (convert t tx (ρv x)) g.w=.ok (.string (strB l)) g.w by rw[jAt,hs];rfl
  rw[ev,run_convert_bytes_string g.w t tx e _ _ _ ht.u he.u htx.u];have hload:=run_loadCells_list (P:=P) g.w a (l.map fun c=>Value.int .u8 (c.toNat:Int)) (fun i w hi=>by
   simp only[jAk,jAg]at hi;obtain ⟨c,hc1,rfl⟩:=hi;have hlt:=(jAd.1 hc1).1;rw[ha (by omega),vsa,jCs,kOa hb (by omega),hc i c hc1])
  rw[jBd]at hload;have hr:=run_bytesToString (P:=P) g.w a l.length cap (l.map fun c=>(c.toNat:Int)) (by rw[hload,jEe];rfl);rw[hr,foldl_push_bytes];simp[strB,Function.comp_def]⟩
theorem kyb(hx:fr.ev x=.hp r n.toNat 0)(hr:σ.get r=some (.buf l))(hy:(fr.ev y).weak=.pv (pU v'))(ht:TyOk E.P t 1 s2 zero (.int .u8))(hv:idx l n=some v):
 OpTo E ⟨none,.store t x y,ty,pos,af,gu⟩ fr σ fr (σ.upd r (.buf (l.set n.toNat v'))):=
 ⟨fun g a K Q hst hK=>by
  refine ⟨fun _ _=>trivial,?_⟩;rw[jBe _ _ _ (fun c=>by simp)];have h1:=hst.ev x;rw[hx]at h1;obtain ⟨hn0,hv⟩:=yCa hv;obtain ⟨e,b,cap,cur,e1,e2,e3,e4,e5,e6,e7⟩:=(hst.so.obj r _ hr).bufp h1;have hlt:=(jAd.1 hv).1;have hvy:a.eval y=.int .u8 (v'.toNat:Int):=by
   have h2:=vNa (hst.ev y);rw[hy]at h2;exact z6a h2
  have hcell:g.w.cell? ⟨b,n.toNat,none⟩=some (cur.getD n.toNat undef):=kOa e3 (by omega);have hfro:g.w.frozen? ⟨b,n.toNat,none⟩=false:=by
   simp only[World.frozen?,e3,Bool.and_eq_false_iff,decide_eq_false_iff_not];left;omega
  have hst1:(store ((⟨b,n.toNat,none⟩:Addr).add 0) (.int .u8 (v'.toNat:Int))).run E.P g.w=.ok () (g.w.setRow b (cur.setIfInBounds n.toNat (.int .u8 (v'.toNat:Int)))):=by
   rw[vsa,jCy,run_store E.P g.w _ _ _ rfl,hcell];simp[hfro,setCell_eq_setRow g.w b n.toNat cur e (cap,cap+1) _ e3]
  have hrun:(execOp a.eval ⟨none,.store t x y,ty,pos,af,gu⟩).run E.P g.w=.ok .skip (g.w.setRow b (cur.setIfInBounds n.toNat (.int .u8 (v'.toNat:Int)))):=by
   show Sem.run E.P (do Instr.storeAt t (a.eval x) (a.eval y);pure Next.skip) g.w=_;rw[e1,hvy];simp only[Instr.storeAt,Instr.sureAddr,storeVar,jAt,jAz,jAp,ht.sizeOf];rw[if_neg (by simp[Value.cells])];simp only[Value.cells,jAt,jAz,jAp,storeCells,hst1]
  rw[hrun,Oper.uponIn_skip];generalize hnew:cur.setIfInBounds n.toNat (.int .u8 (v'.toNat:Int))=new;have hnsz:new.size=cur.size:=by rw[<-hnew];simp
  have hheap:∀k,k≠b->(g.w.setRow b new).heap[k]? =g.w.heap[k]? :=fun k hk=>by
   simp only[World.setRow,jBx];rw[if_neg (Ne.symm hk)]
  have hnewb:=setRow_heap g.w b cur new e _ e3;have hsz:(g.w.setRow b new).heap.size=g.w.heap.size:=by simp[World.setRow]
  have hxx:Ext g.w g.u (g.w.setRow b new) g.u:=⟨jCi hsz.symm,fun _ _=>jAn _,fun k i hk hi=>by
   by_cases hkb:k=b
   .subst hkb;omega
   simp only[World.cell?];rw[hheap k hkb],fun r' hr' =>(hheap r' (by rintro rfl;rw[e3]at hr';cases hr')).trans hr'⟩
  refine hK ⟨g.w.setRow b new,g.u,g.loc⟩ _ (St.put_none (hst.objset hr hxx rfl rfl rfl rfl (fun k hk hne=>⟨hheap k (by rintro rfl;exact hne (by rw[e2];rfl)),rfl⟩) (Wna hst.so.wf (jCi hsz.symm) _) ?_ (fun _=>rfl)));refine .buf (by rw[List.length_set];exact e2) hnewb (by rw[hnsz,e4]) (by simpa using e5) e6 fun i c hi=>?_
  rw[<-hnew,jAe,Array.getElem?_setIfInBounds];by_cases hin:n.toNat=i
  .subst hin;rw[List.getElem?_set_self hlt]at hi;cases hi;rw[if_pos rfl,if_pos (by omega)];rfl
  rw[if_neg hin];rw[List.getElem?_set_ne hin]at hi;have:=e7 i c hi;rw[jAe]at this;exact this⟩
end
theorem Zdb{k:Nat}{t t' e:TypeId}{x:Operand}{s:Str}{ss sb ss' sb' s1 s2:Nat}{sz sz' z:Value}(r:Nat)(hN:Nat.ble (k+1) E.N=true)(hfr:fr.has r=false)(hsr:σ.has r=false)(hx:fr.ev x=.s s)(ht:TyOk E.P t ss sb sz .string)(ht' :TyOk E.P t' ss' sb' sz' (.slice e))(he:TyOk E.P e s1 s2 z (.int .u8)):
 OpTo E ⟨some k,.convert t t' x,ty,pos,af,gu⟩ fr σ ((k,.hs r 0)::fr) ((r,.buf s)::σ):=
 ⟨fun g a K Q hst hK=>by
  refine ⟨fun _ _=>trivial,?_⟩;rw[jBe _ _ _ (fun c=>by simp)];have h1:=hst.ev x;rw[hx]at h1;have e1:=z6a h1;generalize hcap:(Question.appendCap s.length 0 e).cut (g.w.tape g.w.drawn (.appendCap s.length 0 e))=cap;have hge:s.length<=cap:=by rw[<-hcap];simp[Question.cut]
  generalize hcells:((strB s).data.map (fun b=>Value.int .u8 (b.toNat:Int))++Array.replicate (cap - s.length) (Value.int .u8 0))=cells;have hsz:cells.size=cap:=by rw[<-hcells];simp[strB];omega
  have hget:∀i c,s[i]? =some c->cells.getD i undef=.int .u8 (c.toNat:Int):=by
   intro i c hi;have hlt:=(jAd.1 hi).1;rw[<-hcells,jAe,jBn (by simpa[strB]using hlt)];simp[strB,hi]
  have hrun:(execOp a.eval ⟨some k,.convert t t' x,ty,pos,af,gu⟩).run E.P g.w=.ok (.value (.slice (some ⟨g.w.heap.size,0,none⟩) s.length cap)) ((g.w.drew.alloc (.cells cells e)).freeze ⟨g.w.heap.size,cap,none⟩ 1):=by
   show Sem.run E.P (do let v <-convert t t' (a.eval x);pure (Next.value v)) g.w=_;rw[e1];have hsh:(g.w.drew.alloc (.cells cells e)).shape? g.w.heap.size=some (e,cap):=by
    simp only[World.shape?];rw[show (g.w.drew.alloc (.cells cells e)).heap[g.w.heap.size]? =some (.cells cells e (0,0)) from heap_alloc_new g.w.drew _];simp[hsz]
   simp only[convert,underlying,program,jAt,Sem.run,ht.u,ht'.u,he.u,jAp,jAz,Conv.stringToBytes,choose,Question.forced,jAr,if_false,zNa,hcap,hcells,newRow,newObj,markStringish,shape,freeze];show Result.andThen (Result.andThen (Sem.run E.P (match (g.w.drew.alloc (.cells cells e)).shape? g.w.heap.size with | some (_,n)=>Sem.freeze ⟨g.w.heap.size,n,none⟩ 1 (Sem.pure ()) | _=>pure ()) (g.w.drew.alloc (.cells cells e))) fun _ w' =>.ok (Value.slice (some ⟨g.w.heap.size,0,none⟩) s.length cap) w') (fun v w' =>.ok (Next.value v) w')=_;rw[hsh];rfl
  rw[hrun,jBl];generalize hw:(g.w.drew.alloc (.cells cells e)).freeze ⟨g.w.heap.size,cap,none⟩ 1=w';have hblk:w'.heap[g.w.heap.size]? =some (.cells cells e (cap,cap+1)):=by
   subst hw;simp only[World.freeze,Nat.one_ne_zero,if_false,jBx,if_true];rw[show (g.w.drew.alloc (.cells cells e)).heap[g.w.heap.size]? =some (.cells cells e (0,0)) from heap_alloc_new g.w.drew _];rfl
  have hother:∀q,q < g.w.heap.size->w'.heap[q]? =g.w.heap[q]? :=by
   intro q hq;subst hw;simp only[World.freeze,Nat.one_ne_zero,if_false,jBx];rw[if_neg (by omega)];exact Below.heap_alloc g.w.drew _ _ hq
  have hws:w'.heap.size=g.w.heap.size+1:=by subst hw;simp[World.freeze]
  have hold:Old (fun _=>False) g ⟨w',fun q=>if q=g.w.heap.size then 0 else g.u q,fun q=>if q=r then .row g.w.heap.size 0 cap 1 s.length else g.loc q⟩:=by
   refine ⟨by subst hw;first | (simp[World.freeze];done) | (simp[World.freeze];rfl),by subst hw;first | (simp[World.freeze];done) | (simp[World.freeze];rfl),by subst hw;first | (simp[World.freeze];done) | (simp[World.freeze];rfl),⟨by show _<=w'.heap.size;omega,fun q hq=>?_,fun q i hq hi=>?_,?_⟩,fun q hq _=>⟨hother q hq,if_neg (by omega)⟩⟩
   .show g.u q<=if q=g.w.heap.size then 0 else g.u q;rw[if_neg (by omega)];exact jAn _
   .simp only[World.cell?];rw[hother q hq]
   intro r' hr';exact (hother r' (zUa hr')).trans hr'
  have hwf:Wf ⟨w',fun q=>if q=g.w.heap.size then 0 else g.u q,fun q=>if q=r then .row g.w.heap.size 0 cap 1 s.length else g.loc q⟩:=by
   intro q hq;have hq:g.w.heap.size+1<=q:=by rw[<-hws];exact hq
   show (if q=g.w.heap.size then 0 else g.u q)=0;rw[if_neg (by omega)];exact hst.so.wf q (by omega)
  have hst' :=hst.addObj r (ob:=.buf s) hfr hsr hold hwf (fun q hq=>if_neg hq) (.buf (if_pos rfl) hblk hsz hge (if_pos rfl) hget) (fun b hb=>by
   simp only[AO.own,if_true,Loc.block]at hb;cases hb;exact jAn _)
  exact hK _ _ (hst'.put (jAf hN) (.hs (if_pos rfl) (fun _=>by simp)))⟩
end
section
open Go.RowKit Go.Lib Go.Proofs.Tryz
variable {E:Env} {fr:Fr} {σ:Sto} {K:Post} {P:Program} {ρ:Operand->AV}
variable {dst:Option Tmp} {ty:TypeId} {pos:String} {af:Array Edge} {gu:Option (Nat × Bool)}
def zrep{α:Type}(lim:Nat)(n:Int)(z:α):Option (List α):=if 0 < n/\n.toNat<=lim then some (List.replicate n.toNat z) else none
section
variable {α:Type} {F:α->List PV} {r' :List α} {r size bytes sb ss s1 b1 k lim:Nat} {e t tn:TypeId} {zero sz z1:Value} {d d1:TypeDesc} {x y:Operand} {n:Int} {kn:IntKind} {z:α}
theorem qTb(hx:ρ x=.pv (.sl (some true) []))(ht:P.underlying t=some (.slice e)):EvQ P ⟨dst,.call ⟨.builtin .cap, #[x], #[t]⟩,ty,pos,af,gu⟩ ρ σ (.i 0):=
 ⟨fun c=>by simp,fun g ρv h hs=>by
  have h1:=h x (by simp[Op.operands,Call.operands]);rw[hx]at h1;have e1:=Vaa h1;refine ⟨.int .i64 0,?_,.pv (.b rfl)⟩;simp[execOp,resolve,invoke,builtin,Builtin.cap_,e1,go_sem,underlying,ht,goInt]⟩
theorem qUb(hx:ρ x=.pv (.sl (some true) []))(ht:P.underlying t=some (.slice e)):EvQ P ⟨dst,.call ⟨.builtin .len, #[x], #[t]⟩,ty,pos,af,gu⟩ ρ σ (.i 0):=
 ⟨fun c=>by simp,fun g ρv h hs=>by
  have h1:=h x (by simp[Op.operands,Call.operands]);rw[hx]at h1;have e1:=Vaa h1;refine ⟨.int .i64 0,?_,.pv (.b rfl)⟩;simp[execOp,resolve,invoke,builtin,Builtin.len_,e1,go_sem,underlying,ht,goInt]⟩
theorem ev_slnil{k1:IntKind}(hx:ρ x=.pv (.sl (some true) []))(hy:ρ y=.pv (.b (.int k1 0)))(ht:TyOk P t ss sb sz (.slice e))(he:TyOk P e size bytes zero d):EvQ P ⟨dst,.slice t x none (some y) none,ty,pos,af,gu⟩ ρ σ (.pv (.sl (some true) [])):=
 ⟨fun c=>by simp,fun g ρv hh hs=>by
  have h1:=hh x (by simp[Op.operands]);have h2:=hh y (by simp[Op.operands]);rw[hx]at h1;rw[hy]at h2;have e1:=Vaa h1;have e2:=z6a h2;refine ⟨.slice none 0 0,?_,by rw[<-e1];exact h1⟩;show Sem.run P (do let v <-Instr.sliceAt t (ρv x) (Option.map ρv none) ((some y).map ρv) none;pure (Next.value v)) g.w=_;have hb:=wYa (P:=P) (w:=g.w) (len:=0) (cap:=0) (lo:=Option.map ρv none) (hi:=(some y).map ρv) (a:=0) (b:=0) (jAn _) (.inl ⟨rfl,rfl⟩) (.inr ⟨k1,by simp[e2]⟩) (jDg _) (jDg _) (jDg _);rw[e1];simp only[Instr.sliceAt,underlying,program,jAt,Sem.run,ht.u,jAp,jAz,Instr.slice,hb,he.sizeOf];rfl⟩
theorem qVb(r:Nat)(hN:Nat.ble (k+1) E.N=true)(hfr:fr.has r=false)(hsr:σ.has r=false)(hx:fr.ev x=.pv (.sl (some true) []))(hy:fr.ev y=.i n)(ht:TyOk E.P t ss sb sz (.slice e))(htn:TyOk E.P tn s1 b1 z1 (.int kn))(he:TyOk E.P e size bytes zero d)
 (hzz:(Nat.beq zero.cells.size size && Nat.ble 1 size && zero.cells.toList.all cellV)=true) (hz:zero.cells.toList.map Wsa=F z) (hlim:(Nat.ble (lim * bytes) 140737488355328 && Nat.ble lim 140737488355328)=true) (h:zrep lim n z=some r'):
 OpTo E ⟨some k,.call ⟨.builtin .append, #[x,y], #[t,tn]⟩,ty,pos,af,gu⟩ fr σ ((k,.hs r 0)::fr) ((r,.row e true size (r'.map F))::σ):=
 ⟨fun g a K Q hst hK=>by
  simp only[jAh]at hzz hlim;have hz1:=jAm hzz.1.1;have hz2:=jAf hzz.1.2;have hz3:=hzz.2;rw[jAw]at hz3;have hl1:=jAf hlim.1;have hl2:=jAf hlim.2;unfold zrep at h;split at h
  .rename_i hc;obtain ⟨hn0,hnl⟩:=hc;cases h;refine ⟨fun _ _=>trivial,?_⟩;rw[jBe _ _ _ (fun c=>by simp)];have h1:=hst.ev x;rw[hx]at h1;have e1:=Vaa h1;have h2:=hst.ev y;rw[hy]at h2;have e2:=z6a h2;obtain ⟨m,rfl⟩:∃m:Nat,n=(m:Int):=⟨n.toNat,by omega⟩;simp only[jCw]at hnl ⊢;have hm0:0 < m:=by omega
   obtain ⟨i,hi,hsz,hby,hzero⟩:=he.info;have hbytes:m * i.bytes<=281474976710656:=by
    rw[hby];have:m * bytes<=lim * bytes:=jAy _ hnl;omega
   have hr:=run_append_nil_zeros (P:=E.P) g.w t tn ty e i zero .i64 kn ht.u htn.u hi hzero m hm0 (by omega) (by omega) hbytes;rw[waa (x:=x) (y:=y) (w:=g.w) (by rw[e1,e2];exact hr),jBl];have hge:=grownCap_ge g.w m 0 e;have hmax:=grownCap_le_maxLen g.w m 0 e (by unfold maxLen;omega);generalize hcap:grownCap g.w m 0 e=cap at hge hmax;generalize hcells:Builtin.zeroCells zero.cells m++Builtin.zeroCells zero.cells (cap - m)=cells;have hcsz:cells.size=cap * size:=by
    rw[<-hcells];simp only[Array.size_append,size_zeroCells,hz1,<-jBg]
    congr 1;omega
   have hget:∀q,q < m * size->cells.toList[q]? =zero.cells.toList[q % size]? :=by
    intro q hq;rw[<-hcells,Array.toList_append,jAs (by rw[jCl,size_zeroCells,hz1];exact hq),ktb (by rw[hz1];exact hq),hz1]
   let gd:G:=⟨g.w.drew,g.u,g.loc⟩;have hFz:(F z).length=size:=by rw[<-hz,jBd,jCl,hz1]
   have hold:=Zxa gd cells e 0 r (.row g.w.heap.size 0 cap size m);have hold' :Old (fun _=>False) g (gd.alloc cells e 0 r (.row g.w.heap.size 0 cap size m)):=⟨hold.os,hold.tape,hold.output,⟨hold.ext.1,hold.ext.2,hold.ext.3,hold.ext.4⟩,hold.block⟩;have hwf:=VCa (g:=gd) hst.so.wf cells e 0 r (.row g.w.heap.size 0 cap size m);have hblk:(gd.alloc cells e 0 r (.row g.w.heap.size 0 cap size m)).w.heap[g.w.heap.size]? =some (.cells cells e (0,0)):=heap_alloc_new g.w.drew _;have hloc:(gd.alloc cells e 0 r (.row g.w.heap.size 0 cap size m)).loc r=.row g.w.heap.size 0 cap size m:=if_pos rfl;have hst' :=hst.addObj r (ob:=.row e true size ((List.replicate m z).map F)) hfr hsr hold' hwf (fun q hq=>if_neg hq) (.row (off:=0) (by rw[hloc];simp) hblk (by rw[jCs];exact hcsz) hmax (by simpa using hge) (fun w hw=>by
    obtain ⟨w',hw',rfl⟩:=jCd.1 hw;rw[jEg]at hw';rw[hw'.2,hFz]) (by show (if g.w.heap.size=g.w.heap.size then 0 else _)<=_;simp) (fun _=>if_pos rfl) (fun i' j w c hi' hj=>by
    simp only[jAk,jAg]at hi';obtain ⟨w',hw',rfl⟩:=hi';have him:i' < m:=by have:=(jAd.1 hw').1;simpa using this
    have:w' =z:=by have:=jAi hw';rw[jEg]at this;exact this.2
    subst this;have hjs:j < size:=by rw[<-hFz];exact (jAd.1 hj).1
    have hq:i' * size+j < m * size:=by
     have:(i' +1) * size<=m * size:=jAy _ (by omega);rw[jBg]at this;omega
    rw[<-hz,jAk,jAg]at hj;obtain ⟨u,hu,rfl⟩:=hj;have h5:=hget (i' * size+j) hq;rw[jEd i',Nat.mul_add_mod,jDy hjs,hu,jEd size]at h5;rw[jCs,jAe,<-jCz,h5];exact j5a _ _ u (hz3 u (jAi hu)))) (fun b hb=>by
    simp only[AO.own,hloc,Loc.block]at hb;cases hb;exact jAn _)
   exact hK _ _ (hst'.put (jAf hN) (.hs hloc (fun _=>by simp)))
  cases h⟩
end
end
section
open Go.RowKit Go.Lib Go.Proofs.Tryz
variable {E:Env} {fr:Fr} {σ:Sto} {K:Post}
end
section
mutual
def AV.strong:AV->Bool
 | .pv (.sl (some _) _)=>true
 | .agg cs=>AV.strongL cs
 | .tup cs=>AV.strongL cs
 | _=>false
def AV.strongL:List AV->Bool
 | []=>false
 | c::cs=>c.strong || AV.strongL cs
end
def Fr.sel(fr:Fr)(p:Nat × AV):Nat × AV:=(p.1,bif p.2.strong then fr.get p.1 else (fr.get p.1).weak)
theorem frw{fr:Fr}:∀{fr' :Fr},fr'.map fr.sel=fr' ->FrLe fr fr'
 | [],_=>kib
 | (k,a)::r,h=>by
  simp only[jCh,List.cons.injEq]at h;obtain ⟨h1,h2⟩:=h;have h3:(bif a.strong then fr.get k else (fr.get k).weak)=a:=congrArg Prod.snd h1;cases hs:a.strong with
  | true=>rw[hs]at h3;exact YOa h3 (frw h2)
  | false=>rw[hs]at h3;exact Kgb h3 (frw h2)
def Sto.sel(σ:Sto)(p:Nat × AO):Option AO:=match p.2 with
 | .cells cs=>bif AV.strongL cs then σ.get p.1 else (match σ.get p.1 with
  | some (.cells ds)=>some (.cells (AV.weakL ds))
  | _=>none)
 | _=>σ.get p.1
theorem stw{σ:Sto}:∀{σ' :Sto},σ'.map σ.sel=σ'.map (fun p=>some p.2)->kSa σ σ'
 | [],_=>Zua
 | (k,a)::r,h=>by
  simp only[jCh,List.cons.injEq]at h;obtain ⟨h1,h2⟩:=h;unfold Sto.sel at h1;split at h1
  .rename_i cs hc;dsimp only at hc;subst hc;cases hs:AV.strongL cs with
   | true=>rw[hs]at h1;exact z0a h1 (stw h2)
   | false=>
    rw[hs]at h1;simp only[cond_false]at h1;split at h1
    .rename_i ds hd;simp only[Option.some.injEq,AO.cells.injEq]at h1;exact jVb hd h1 (stw h2)
    cases h1
  exact z0a h1 (stw h2)
theorem kpw{fr:Fr}:∀{l:Fr},l.map (fun p=>fr.get p.1)=l.map (·.2)->Keep fr l
 | [],_=>.nil
 | (k,a)::r,h=>by
  simp only[jCh,List.cons.injEq]at h;exact .cons h.1 (kpw h.2)
theorem hdw{σ:Sto}{base:Nat}{T:Array Value}:∀{l:Fr},l.map (fun p=>σ.get (base+p.1))=l.map (fun p=>some (.hold p.2 (T.getD p.1 undef)))->Held σ base T l
 | [],_=>.nil
 | (k,a)::r,h=>by
  simp only[jCh,List.cons.injEq]at h;exact .cons h.1 (hdw h.2)
section
variable {E:Env} {fr:Fr} {σ:Sto} {k:KS} {ops:Array Oper} {l:List Oper} {R:Type} {r:R} {A B:Option R} {t:Bool}
theorem hO(h:(GS.ops ops l fr σ k).holds E):AWPL E ops l fr σ (k.post E):=h
theorem hC{c:Code}(h:(GS.code c fr σ k).holds E):AWP E c fr σ (k.post E):=h
theorem hB{K:Post}{c:Code}(hK:Mono K)(h:(GS.code c fr σ (.base K hK)).holds E):AWP E c fr σ K:=h
theorem hA{e:Exit}(h:(GS.at e fr σ k).holds E):k.post E e fr σ:=h
theorem St.relit{g:G}{a:Act}(h:St E g a fr σ){d:Nat}(hd:fr.get d=.pv (.b (.bool t))):St E g a ((d,.pv (.b (.bool t)))::fr) σ:=h.reslot (by rw[<-hd];exact h.fr d)
theorem kn(d:Nat){b:Bool}(hc:t=b)(hd:fr.get d=.pv (.b (.bool t)))(h:(GS.ops ops l ((d,.pv (.b (.bool b)))::fr) σ k).holds E):(GS.ops ops l fr σ k).holds E:=by
 subst hc;exact ⟨fun g a hs=>h.go g a (hs.relit hd)⟩
theorem bs(d:Nat)(hr:(bif t then A else B)=some r)(hd:fr.get d=.pv (.b (.bool t)))(hT:t=true->A=some r->(GS.ops ops l ((d,.pv (.b (.bool true)))::fr) σ k).holds E)(hF:t=false->B=some r->(GS.ops ops l ((d,.pv (.b (.bool false)))::fr) σ k).holds E):(GS.ops ops l fr σ k).holds E:=by
 cases t with
 | true=>exact kn d rfl hd (hT rfl hr)
 | false=>exact kn d rfl hd (hF rfl hr)
theorem ac(d:Nat){x y:Code}(hr:(bif t then A else B)=some r)(hd:fr.get d=.pv (.b (.bool t)))(hT:t=true->A=some r->(GS.code x ((d,.pv (.b (.bool true)))::fr) σ k).holds E)(hF:t=false->B=some r->(GS.code y ((d,.pv (.b (.bool false)))::fr) σ k).holds E):(GS.code (.cond (.tmp d) x y) fr σ k).holds E:=
 khb (t:=t) hd (fun h=>by subst h;exact ⟨fun g a hs=>(hT rfl hr).go g a (hs.relit hd)⟩) (fun h=>by subst h;exact ⟨fun g a hs=>(hF rfl hr).go g a (hs.relit hd)⟩)
theorem jb{J:Type}{X:Option J}{f:J->Option R}{x y:Code}(hr:X.bind f=some r)(frs:J->Fr)(stos:J->Sto)(hx:∀j,X=some j->(GS.code x fr σ (.jo frs stos (fun z=>j=z) k)).holds E)(hy:∀j,f j=some r->(GS.code y (frs j) (stos j) k).holds E):(GS.code (.seq x y) fr σ k).holds E:=by
 obtain ⟨j,h1,h2⟩:=zaa hr;exact yJb frs stos (fun z=>j=z) (hx j h1) (fun _ hz=>hz▸hy j h2)
theorem jk{J:Type}{x y:Code}(frs:J->Fr)(stos:J->Sto)(M:J->Prop)(hx:(GS.code x fr σ (.jo frs stos M k)).holds E)(hy:∀j,M j->(GS.code y (frs j) (stos j) k).holds E):(GS.code (.seq x y) fr σ k).holds E:=
 yJb frs stos M hx hy
theorem jn{J:Type}{frs:J->Fr}{stos:J->Sto}{M:J->Prop}(j:J)(hm:M j)(hf:(frs j).map fr.sel=frs j)(hs:(stos j).map σ.sel=(stos j).map (fun p=>some p.2)):(GS.at .normal fr σ (.jo frs stos M k)).holds E:=⟨j,hm,frw hf,stw hs⟩
theorem ct{J:Type}{X:Option J}{f:J->Option R}{o:Oper}(hr:X.bind f=some r)(frs:J->Fr)(stos:J->Sto)
 (hx:∀j,X=some j->(∀fr' σ',(frs j).map fr'.sel=frs j->(stos j).map σ'.sel=(stos j).map (fun p=>some p.2)->AWPL E ops l fr' σ' (k.post E))->(GS.ops ops (o::l) fr σ k).holds E) (hy:∀j,f j=some r->(GS.ops ops l (frs j) (stos j) k).holds E):(GS.ops ops (o::l) fr σ k).holds E:=by
 obtain ⟨j,h1,h2⟩:=zaa hr;exact hx j h1 (fun fr' σ' hf hs=>awpl_le (frw hf) (stw hs) (hy j h2))
def isN:Exit->Bool
 | .normal=>true
 | _=>false
theorem al{A B:Type}{c:Code}{body:A->Option (Step A B)}{s:A}{f:B->Option R}(hr:(iter body s).bind f=some r)(frs:A->Fr)(stos:A->Sto)(e0:B->Exit)(fr0:B->Fr)(σ0:B->Sto)(hf:(frs s).map fr.sel=frs s)(hs:(stos s).map σ.sel=(stos s).map (fun p=>some p.2))
 (h:∀s x,body s=some x->(GS.code c (frs s) (stos s) (.base (Zva frs stos (fun b=>At (e0 b) (fr0 b) (σ0 b)) x) ZBa)).holds E)
 (hK:∀b,f b=some r->(GS.at (e0 b) (fr0 b) (σ0 b) k).holds E):(GS.code (.loop c) fr σ k).holds E:=by
 obtain ⟨b,h1,h2⟩:=zaa hr;exact awp_loop body frs stos (fun b=>At (e0 b) (fr0 b) (σ0 b)) (fun s x hx=>h s x hx) s h1 (frw hf) (stw hs) (fun e fr σ ⟨he,hf,hs⟩=>by
  subst he;exact k.mono E _ _ _ _ _ hf hs (hK b h2))
theorem al1{A B:Type}{c:Code}{body:A->Option (Step A B)}{s:A}{f:B->Option R}(hr:(iter body s).bind f=some r)(frs:A->Fr)(stos:A->Sto)(e0:Exit)(fr0:B->Fr)(σ0:B->Sto)(hf:(frs s).map fr.sel=frs s)(hs:(stos s).map σ.sel=(stos s).map (fun p=>some p.2))
 (h:∀s x,body s=some x->(GS.code c (frs s) (stos s) (.base (Zva frs stos (fun b=>At ((fun _=>e0) b) (fr0 b) (σ0 b)) x) ZBa)).holds E)
 (hK:∀b,f b=some r->(GS.at e0 (fr0 b) (σ0 b) k).holds E):(GS.code (.loop c) fr σ k).holds E:=al hr frs stos (fun _=>e0) fr0 σ0 hf hs h hK
theorem al2{A B C:Type}{c:Code}{body:A->Option (Step A (B ⊕ C))}{s:A}{f:B->Option R}{g:C->Option R}(hr:(iter body s).bind (Sum.elim f g)=some r)(frs:A->Fr)(stos:A->Sto)(e1:Exit)(fr1:B->Fr)(σ1:B->Sto)(e2:Exit)(fr2:C->Fr)(σ2:C->Sto)(hf:(frs s).map fr.sel=frs s)(hs:(stos s).map σ.sel=(stos s).map (fun p=>some p.2))
 (h:∀s x,body s=some x->(GS.code c (frs s) (stos s) (.base (Zva frs stos (fun b=>At (Sum.elim (fun _=>e1) (fun _=>e2) b) (Sum.elim fr1 fr2 b) (Sum.elim σ1 σ2 b)) x) ZBa)).holds E)
 (hK1:∀b,f b=some r->(GS.at e1 (fr1 b) (σ1 b) k).holds E) (hK2:∀b,g b=some r->(GS.at e2 (fr2 b) (σ2 b) k).holds E):(GS.code (.loop c) fr σ k).holds E:=
 al hr frs stos _ _ _ hf hs h (fun b hb=>by cases b with | inl b=>exact hK1 b hb | inr b=>exact hK2 b hb)
theorem ato{A B:Type}{e:Exit}{frs:A->Fr}{stos:A->Sto}{e0:B->Exit}{fr0:B->Fr}{σ0:B->Sto}{b:B}{hm:Mono (Zva frs stos (fun b=>At (e0 b) (fr0 b) (σ0 b)) (.out b))}(he:e=e0 b)(hn:isN e=false)(hf:(fr0 b).map fr.sel=fr0 b)(hs:(σ0 b).map σ.sel=(σ0 b).map (fun p=>some p.2)):(GS.at e fr σ (.base (Zva frs stos (fun b=>At (e0 b) (fr0 b) (σ0 b)) (.out b)) hm)).holds E:=
 ⟨fun h=>(by rw[h]at hn;cases hn),he,frw hf,stw hs⟩
def VKa(T:Tab)(fr:Fr)(σ:Sto):List ResultVar->Option (List AV)
 | []=>some []
 | .tmp t::r=>(match (fr.get t).force,VKa T fr σ r with | some c,some cs=>some (c::cs) | _,_=>none)
 | .cell a t::r=>(match fr.get a,T.get t with
  | .ptr o 0,some row=>(match σ.get o with
   | some (.cells ds)=>bif dAgg row.desc then (bif Nat.ble row.size ds.length then (match jua (ds.take row.size),VKa T fr σ r with | some l,some cs=>some (.agg l::cs) | _,_=>none) else none)
    else (match ds[0]?,VKa T fr σ r with | some c,some cs=>some (c::cs) | _,_=>none)
   | _=>none)
  | _,_=>none)
theorem Z2a{P:Program}{T:Tab}(hT:kca P T):∀{l:List ResultVar} {cs:List AV},VKa T fr σ l=some cs->ResL P fr σ l cs
 | [],_,h=>by simp[VKa]at h;subst h;exact .nil
 | .tmp t::l,_,h=>by
  unfold VKa at h;split at h
  .rename_i h1 h2;cases h;exact .cons (res_tmp (AV.force_eq h1)) (Z2a hT h2)
  cases h
 | .cell a t::l,_,h=>by
  unfold VKa at h;split at h
  .rename_i o row ha hr;have ht:=(hT _ _ hr).ty;split at h
   .rename_i ds ho;cases hd:dAgg row.desc with
    | true=>
     rw[hd]at h;simp only[cond_true]at h;cases hn:Nat.ble row.size ds.length with
     | false=>rw[hn]at h;cases h
     | true=>
      rw[hn]at h;simp only[cond_true]at h;split at h
      .rename_i h1 h2;cases h;rw[<-vDa h1];exact .cons (Klb ha ho ht hd hn) (Z2a hT h2)
      cases h
    | false=>
     rw[hd]at h;simp only[cond_false]at h;split at h
     .rename_i h1 h2;cases h;exact .cons (res_cell ha ho ht hd h1) (Z2a hT h2)
     cases h
   cases h
  cases h
theorem kr{P:Program}{T:Tab}(hT:kca P T){e:Exit}{fn:Func}{cs:List AV}{r:AV}{hm:Mono (Kret P fn r)}(he:isN e=true∨e=.ret)(h:VKa T fr σ fn.results.toList=some cs)(hr:VDa cs=r):(GS.at e fr σ (.base (Kret P fn r) hm)).holds E:=
 ⟨by cases e <;> simp_all [isN],cs,Z2a hT h,hr⟩
theorem rf{P:Program}{f:FuncId}{fn:Func}{c:Code}(hok:FnOk P f fn c){args:List AV}{r:AV}(hN:Nat.ble args.length fn.ntmps=true)(hr:∀k,r.has k=false)
 (h:∀g0 (hg:Gl g0),(GS.code c (kYa 0 args) [] (.base (Kret P fn r) qRb)).holds ⟨P,none,g0,fn.ntmps,false,hg,fun _=>False,fun _ _ h=>h⟩):Run P f args r:=jZb hok hN hr h
end
section
variable {E:Env} {fr:Fr} {σ:Sto} {k:KS} {ops:Array Oper} {rest:List Oper} {ty:TypeId} {pos:String} {af:Array Edge} {x y z:Operand} {t t' t2 e:TypeId}
variable {α:Type} {F:α->List PV} {l xs r' v:List α} {nl:Option Bool} {k1 k2:IntKind} {d r lim size:Nat} {n p q:Int} {mu:Bool} {b2:Nat} {z1 z2:Value} {td:TypeDesc} {T:Tab} {c:AV}
theorem ug{dst:Option Tmp}{op:Op}{j d:Nat}{want b:Bool}(hj:(ops[j]?).bind (·.dst)=some d)(hv:fr.get d=.pv (.b (.bool b)))(ht:b=want)
 (h:(GS.ops ops (⟨dst,op,ty,pos,af,none⟩::rest) fr σ k).holds E):(GS.ops ops (⟨dst,op,ty,pos,af,some (j,want)⟩::rest) fr σ k).holds E:=
 ⟨fun g a hs=>by
  have hy:=Qla hs hj hv;have hw:Region.wanted ⟨dst,op,ty,pos,af,some (j,want)⟩ (yielded ops a.tmps)=true:=by simp[Region.wanted,hy,ht]
  have h0:=h.go g a hs;have hw0:Region.wanted ⟨dst,op,ty,pos,af,none⟩ (yielded ops a.tmps)=true:=by simp[Region.wanted]
  simp only[wpListIn,hw,hw0,if_true]at h0 ⊢;exact h0⟩
theorem wo{o:Oper}{fr' :Fr}{σ' :Sto}(ho:OpTo E o fr σ fr' σ')(hg:o.guard=none)(h:(GS.ops ops rest fr' σ' k).holds E):(GS.ops ops (o::rest) fr σ k).holds E:=q9a hg ho h
theorem wq{o:Oper}(h:EvQ E.P o fr.ev σ c)(hg:o.guard=none)(hd:o.dst=some d)(hN:Nat.ble (d+1) E.N=true)(hq:(GS.ops ops rest ((d,c)::fr) σ k).holds E):(GS.ops ops (o::rest) fr σ k).holds E:=q9a hg (jqa hd hN h) hq
theorem cl{f:FuncId}{d:Nat}{xs:List Operand}{ats:Array TypeId}{args:List AV}{r:AV}(hr:Run E.P f args r)(hN:Nat.ble (d+1) E.N=true)(ha:xs.map (fun x=>(fr.ev x).weak)=args)(h:(GS.ops ops rest ((d,r)::fr) σ k).holds E):
 (GS.ops ops (⟨some d,.call ⟨.value (.func f),xs.toArray,ats⟩,ty,pos,af,none⟩::rest) fr σ k).holds E:=q9a rfl (qGb hr hN ha) h
def Tab.sl(T:Tab)(t:TypeId):Option (TypeId × YWa):=match T.get t with
 | some ⟨_,_,_,.slice e,_⟩=>(match T.get e with | some r=>some (e,r) | none=>none)
 | _=>none
theorem Tab.sl_ok{P:Program}(hT:kca P T){row:YWa}(h:T.sl t=some (e,row)):(∃ss sb sz,TyOk P t ss sb sz (.slice e))/\TyOk P e row.size row.bytes row.zero row.desc:=by
 unfold Tab.sl at h;split at h
 .rename_i h1;split at h
  .rename_i h2;cases h;exact ⟨⟨_,_,_,(hT _ _ h1).ty⟩,(hT _ _ h2).ty⟩
  cases h
 cases h
def Tab.st(T:Tab)(t:TypeId):Bool:=match T.get t with
 | some ⟨_,_,_,.string,_⟩=>true
 | _=>false
theorem Tab.st_ok{P:Program}(hT:kca P T)(h:T.st t=true):∃ss sb sz,TyOk P t ss sb sz .string:=by
 unfold Tab.st at h;split at h
 .rename_i h1;exact ⟨_,_,_,(hT _ _ h1).ty⟩
 cases h
variable {row:YWa}
theorem wi{a:α}(hT:kca E.P T)(hi:idx l n=some a)(hs:T.sl t=some (e,row))(hx:fr.ev x=.pv (.sl nl (l.map F)))(hy:fr.ev y=.pv (.b (.int k1 n)))(hz:(F a).length=row.size)(hN:Nat.ble (d+1) E.N=true)(hq:(GS.ops ops rest ((d,.ep (F a))::fr) σ k).holds E):
 (GS.ops ops (⟨some d,.indexAddr t x y,ty,pos,af,none⟩::rest) fr σ k).holds E:=by
 obtain ⟨⟨_,_,_,h1⟩,h2⟩:=Tab.sl_ok hT hs;exact q9a rfl (jqa rfl hN (Kza hx hy h1 h2 hz hi)) hq
theorem wih{a:α}(hT:kca E.P T)(hi:idx l n=some a)(hs:T.sl t=some (e,row))(hx:fr.ev x=.hs r 0)(hy:fr.ev y=.pv (.b (.int k1 n)))(hr:σ.get r=some (.row e mu row.size (l.map F)))(hN:Nat.ble (d+1) E.N=true)(hq:(GS.ops ops rest ((d,.hp r n.toNat 0)::fr) σ k).holds E):
 (GS.ops ops (⟨some d,.indexAddr t x y,ty,pos,af,none⟩::rest) fr σ k).holds E:=by
 obtain ⟨⟨_,_,_,h1⟩,h2⟩:=Tab.sl_ok hT hs;exact q9a rfl (jqa rfl hN (krb hx hy hr h1 h2 hi)) hq
theorem ws{s:Str}{b:UInt8}(hT:kca E.P T)(hi:idx s n=some b)(hs:T.st t=true)(hx:(fr.ev x).str? =some s)(hy:fr.ev y=.pv (.b (.int k1 n)))(hN:Nat.ble (d+1) E.N=true)(hq:(GS.ops ops rest ((d,.u8 b)::fr) σ k).holds E):
 (GS.ops ops (⟨some d,.index t x y,ty,pos,af,none⟩::rest) fr σ k).holds E:=by
 obtain ⟨_,_,_,h1⟩:=Tab.st_ok hT hs;exact q9a rfl (jqa rfl hN (Q9a (AV.str?_eq hx) hy h1 hi)) hq
theorem wc{a b s:Str}(hi:cat a b=some s)(hx:(fr.ev x).str? =some a)(hy:(fr.ev y).str? =some b)(hN:Nat.ble (d+1) E.N=true)(hq:(GS.ops ops rest ((d,.s s)::fr) σ k).holds E):
 (GS.ops ops (⟨some d,.binOp .add t x y t',ty,pos,af,none⟩::rest) fr σ k).holds E:=q9a rfl (jqa rfl hN (qHb (AV.str?_eq hx) (AV.str?_eq hy) hi)) hq
theorem wn(hT:kca E.P T)(hs:T.sl t=some (e,row))(hx:fr.ev x=.pv (.sl nl (l.map F)))(hN:Nat.ble (d+1) E.N=true)(hq:(GS.ops ops rest ((d,.i l.length)::fr) σ k).holds E):
 (GS.ops ops (⟨some d,.call ⟨.builtin .len, #[x], #[t]⟩,ty,pos,af,none⟩::rest) fr σ k).holds E:=by
 obtain ⟨⟨_,_,_,h1⟩,h2⟩:=Tab.sl_ok hT hs;exact q9a rfl (jqa rfl hN (yua hx h1.u)) hq
theorem wnh(hT:kca E.P T)(hs:T.sl t=some (e,row))(hx:fr.ev x=.hs r 0)(hr:σ.get r=some (.row e mu size (l.map F)))(hN:Nat.ble (d+1) E.N=true)(hq:(GS.ops ops rest ((d,.i l.length)::fr) σ k).holds E):
 (GS.ops ops (⟨some d,.call ⟨.builtin .len, #[x], #[t]⟩,ty,pos,af,none⟩::rest) fr σ k).holds E:=by
 obtain ⟨⟨_,_,_,h1⟩,h2⟩:=Tab.sl_ok hT hs;exact q9a rfl (jqa rfl hN (kmb hx hr h1.u)) hq
def Tab.ur(T:Tab)(t t' :TypeId):Bool:=match T.get t,T.get t' with
 | some ⟨_,_,_,.int .u8,_⟩,some ⟨_,_,_,.int .i32,_⟩=>true
 | _,_=>false
theorem wur{b:UInt8}(hT:kca E.P T)(hs:T.ur t t' =true)(hx:fr.ev x=.u8 b)(hN:Nat.ble (d+1) E.N=true)(hq:(GS.ops ops rest ((d,.pv (.b (.int .i32 (b.toNat:Int))))::fr) σ k).holds E):
 (GS.ops ops (⟨some d,.convert t t' x,ty,pos,af,none⟩::rest) fr σ k).holds E:=by
 unfold Tab.ur at hs;split at hs
 .rename_i h1 h2;exact q9a rfl (jqa rfl hN (ev_u8i32 hx (hT _ _ h1).ty (hT _ _ h2).ty)) hq
 cases hs
theorem wr{s:Str}(id:Nat)(hT:kca E.P T)(hs:T.st t=true)(hx:(fr.ev x).str? =some s)(hf:(fr.has id || σ.has id)=false)(hN:Nat.ble (d+1) E.N=true)(hq:(GS.ops ops rest ((d,.ptr id 0)::fr) ((id,.it (strB s) 0)::σ) k).holds E):
 (GS.ops ops (⟨some d,.range t x,ty,pos,af,none⟩::rest) fr σ k).holds E:=by
 obtain ⟨_,_,_,h1⟩:=Tab.st_ok hT hs;simp only[jCe]at hf;exact q9a rfl (j9b id hN (AV.str?_eq hx) h1 hf.1 hf.2) hq
theorem wnx{R:Type}{A B:Option R}{rr:R}{o i:Nat}{s:Str}(hr:(bif decide (i < s.length) then A else B)=some rr)(hx:fr.ev x=.ptr o 0)(ho:σ.get o=some (.it (strB s) i))(hN:Nat.ble (d+1) E.N=true)
 (h1:decide (i < s.length)=true->A=some rr->(GS.ops ops rest ((d,.tup [.bo true,.i i,.pv (.b (.int .i32 (QXa s i)))])::fr) (σ.upd o (.it (strB s) (i+ZAa s i))) k).holds E)
 (h2:decide (i < s.length)=false->B=some rr->(GS.ops ops rest ((d,.tup [.bo false])::fr) σ k).holds E):
 (GS.ops ops (⟨some d,.next x true,ty,pos,af,none⟩::rest) fr σ k).holds E:=
 KGb rfl hN hx ho (fun h=>h1 h (by rw[h]at hr;exact hr)) (fun h=>h2 h (by rw[h]at hr;exact hr))
section
variable {s w:Str}
theorem wscL(hT:kca E.P T)(hr:cut s p s.length=some w)(hs:T.st t=true)(hx:(fr.ev x).str? =some s)(hy:fr.ev y=.pv (.b (.int k1 p)))(hN:Nat.ble (d+1) E.N=true)(hq:(GS.ops ops rest ((d,.s w)::fr) σ k).holds E):
 (GS.ops ops (⟨some d,.slice t x (some y) none none,ty,pos,af,none⟩::rest) fr σ k).holds E:=by
 obtain ⟨_,_,_,h1⟩:=Tab.st_ok hT hs;exact q9a rfl (jqa rfl hN (kjb (AV.str?_eq hx) hy h1 hr)) hq
theorem wscH(hT:kca E.P T)(hr:cut s 0 q=some w)(hs:T.st t=true)(hx:(fr.ev x).str? =some s)(hy:fr.ev z=.pv (.b (.int k1 q)))(hN:Nat.ble (d+1) E.N=true)(hq:(GS.ops ops rest ((d,.s w)::fr) σ k).holds E):
 (GS.ops ops (⟨some d,.slice t x none (some z) none,ty,pos,af,none⟩::rest) fr σ k).holds E:=by
 obtain ⟨_,_,_,h1⟩:=Tab.st_ok hT hs;exact q9a rfl (jqa rfl hN (ev_scutH (AV.str?_eq hx) hy h1 hr)) hq
end
theorem wlL(hT:kca E.P T)(hr:cut l p l.length=some v)(hs:T.sl t=some (e,row))(hx:fr.ev x=.pv (.sl nl (l.map F)))(hy:fr.ev y=.pv (.b (.int k1 p)))(hF:∀x,(F x).length=row.size)(hN:Nat.ble (d+1) E.N=true)(hq:(GS.ops ops rest ((d,.l F v)::fr) σ k).holds E):
 (GS.ops ops (⟨some d,.slice t x (some y) none none,ty,pos,af,none⟩::rest) fr σ k).holds E:=by
 obtain ⟨⟨_,_,_,h1⟩,h2⟩:=Tab.sl_ok hT hs;exact q9a rfl (jqa rfl hN (ev_cutL hx hy h1 h2 hF hr)) hq
theorem wlH(hT:kca E.P T)(hr:cut l 0 q=some v)(hs:T.sl t=some (e,row))(hx:fr.ev x=.pv (.sl nl (l.map F)))(hy:fr.ev z=.pv (.b (.int k1 q)))(hF:∀x,(F x).length=row.size)(hN:Nat.ble (d+1) E.N=true)(hq:(GS.ops ops rest ((d,.l F v)::fr) σ k).holds E):
 (GS.ops ops (⟨some d,.slice t x none (some z) none,ty,pos,af,none⟩::rest) fr σ k).holds E:=by
 obtain ⟨⟨_,_,_,h1⟩,h2⟩:=Tab.sl_ok hT hs;exact q9a rfl (jqa rfl hN (wDb hx hy h1 h2 hF hr)) hq
theorem wlLH(hT:kca E.P T)(hr:cut l p q=some v)(hs:T.sl t=some (e,row))(hx:fr.ev x=.pv (.sl nl (l.map F)))(hy:fr.ev y=.pv (.b (.int k1 p)))(hz:fr.ev z=.pv (.b (.int k2 q)))(hF:∀x,(F x).length=row.size)(hN:Nat.ble (d+1) E.N=true)(hq:(GS.ops ops rest ((d,.l F v)::fr) σ k).holds E):
 (GS.ops ops (⟨some d,.slice t x (some y) (some z) none,ty,pos,af,none⟩::rest) fr σ k).holds E:=by
 obtain ⟨⟨_,_,_,h1⟩,h2⟩:=Tab.sl_ok hT hs;exact q9a rfl (jqa rfl hN (ev_cutLH hx hy hz h1 h2 hF hr)) hq
def rowFit(row:YWa)(lim:Nat):Bool:=Nat.beq row.zero.cells.size row.size && Nat.ble 1 row.size && (Nat.ble (lim * row.bytes) 140737488355328 && Nat.ble lim 9223372036854775807)
theorem wa(hT:kca E.P T)(h:app lim l xs=some r')(hs:T.sl t=some (e,row))(hx:fr.ev x=.hs r 0)(hr:σ.get r=some (.row e mu row.size (l.map F)))(hy:fr.ev y=.pv (.sl nl (xs.map F)))(hF:∀x,(F x).length=row.size)(hfit:rowFit row lim=true)(hN:Nat.ble (d+1) E.N=true)(hq:(GS.ops ops rest ((d,.hs r 0)::fr.clr r) ((σ.clr r).upd r (.row e mu row.size (r'.map F))) k).holds E):
 (GS.ops ops (⟨some d,.call ⟨.builtin .append, #[x,y], #[t,t]⟩,ty,pos,af,none⟩::rest) fr σ k).holds E:=by
 obtain ⟨⟨_,_,_,h1⟩,h2⟩:=Tab.sl_ok hT hs;simp only[rowFit,jAh]at hfit;exact q9a rfl (YRa hN hx hr hy h1 h2 hfit.1.1 hfit.1.2 hF (by simp only[jAh];exact hfit.2) h) hq
def Tab.bs(T:Tab)(t t2:TypeId):Bool:=match T.get t with
 | some ⟨_,_,_,.slice e,_⟩=>(match T.get e with | some ⟨_,_,_,.int .u8,_⟩=>T.st t2 | _=>false)
 | _=>false
theorem wb{s:Str}(hT:kca E.P T)(hs:T.bs t t2=true)(hx:fr.ev x=.pv (.sl nl (s.map cU)))(hN:Nat.ble (d+1) E.N=true)(hq:(GS.ops ops rest ((d,.s s)::fr) σ k).holds E):
 (GS.ops ops (⟨some d,.convert t t2 x,ty,pos,af,none⟩::rest) fr σ k).holds E:=by
 unfold Tab.bs at hs;split at hs
 .rename_i h1;split at hs
  .rename_i h2;obtain ⟨_,_,_,h3⟩:=Tab.st_ok hT hs;exact q9a rfl (jqa rfl hN (j0b hx (hT _ _ h1).ty (hT _ _ h2).ty h3)) hq
  cases hs
 cases hs
theorem wz(F:α->List PV)(l:List α){m:Nat}{ps:List (Nat × Operand)}(hT:kca E.P T)(hs:T.sl t=some (e,row))(hzs:(Nat.beq row.zero.cells.size row.size && Nat.ble 1 row.size && row.zero.cells.toList.all cellV)=true)(hF:∀x,(F x).length=row.size)(hln:(Nat.beq l.length m && Nat.ble (m * row.size) 16777216)=true)
 (hc:knb (fun i=>some (i * row.size,row.size)) (List.replicate (m * row.size) .any) (ps.map fun p=>(p.1,(fr.ev p.2).weak))=some (l.flatMap fun x=>(F x).map AV.pv)) (hN:Nat.ble (d+1) E.N=true) (hq:(GS.ops ops rest ((d,.l F l)::fr) σ k).holds E):
 (GS.ops ops (⟨some d,.buildSlice t m ps.toArray,ty,pos,af,none⟩::rest) fr σ k).holds E:=by
 obtain ⟨⟨_,_,_,h1⟩,h2⟩:=Tab.sl_ok hT hs;exact q9a rfl (opTo_g rfl hN (wja h1 h2 hzs hF hln hc)) hq
theorem ySb{d:Nat}{fn:Func}{base sid:Nat}{T:Array Value}{ds:List Deferred}{K:Post}:Mono (InlK E ops rest d fn base sid T ds K):=fun e fr σ fr' σ' hf hs ⟨h1,fr2,σ2,cs,fr'',σ'',h2,h3,h4⟩=>⟨h1,fr2,σ2,cs,fr'',σ'',Qja hf h2,qSa hs h3,h4⟩
theorem mono_itr{base sid lid b:Nat}{L:Loop}{T:Array Value}{ds:List Deferred}{K:Post}:Mono (ItrK E base sid lid b L T ds K):=fun e fr σ fr' σ' _ hs ⟨h1,σ2,L',fr'',σ'',h2,h3⟩=>⟨h1,σ2,L',fr'',σ'',qSa hs h2,h3⟩
theorem mono_rnd{d base2 sid2 lid b:Nat}{L:Loop}{T:Array Value}{ds:List Deferred}{K:Post}:Mono (RndK E ops rest d base2 sid2 lid b L T ds K):=fun e fr σ fr' σ' _ hs ⟨L',t,σ2,fr'',σ'',h1,h2,h3⟩=>⟨L',t,σ2,fr'',σ'',h1,qSa hs h2,h3⟩
theorem mono_asg{lid b:Nat}{L:Loop}{body:Code}{K:Post}:Mono (AsgK E lid b L body K):=fun e fr σ fr' σ' hf hs ⟨h1,fr2,σ2,h2,h3,h4⟩=>⟨h1,fr2,σ2,Qja hf h2,qSa hs h3,h4⟩
theorem il{d f:Nat}{fn:Func}{c:Code}{fx:Operand}{xs:List Operand}{ats:Array TypeId}{first cap args:List AV}(base sid:Nat)(keep:Fr)(hf:fr.ev fx=.fn (.func f) first cap)(hok:FnOk E.P f fn c)
 (hN:(Nat.ble (d+1) E.N && Nat.ble args.length fn.ntmps)=true) (ha:first++xs.map fr.ev++cap=args) (hk:keep.map (fun p=>fr.get p.1)=keep.map (·.2))
 (h:∀(T:Array Value) (ds:List Deferred),(GS.code c (kYa 0 args) ((sid,.sus E.g0.w.heap.size ds)::(holds base T keep++σ)) (.base (InlK E ops rest d fn base sid T ds (k.post E)) ySb)).holds ⟨E.P,none,E.g0,fn.ntmps,true,E.gl,E.S,E.sg⟩):
 (GS.ops ops (⟨some d,.call ⟨.value fx,xs.toArray,ats⟩,ty,pos,af,none⟩::rest) fr σ k).holds E:=
 awpl_inl base sid keep (kCa rfl) hf hok hN ha (kpw hk) fun T ds _=>h T ds
theorem ie{E' :Env}{d:Nat}{fn:Func}{base sid:Nat}{Tm:Array Value}{ds:List Deferred}{e:Exit}{hm:Mono (InlK E ops rest d fn base sid Tm ds (k.post E))}(hT:kca E.P T)(cs:List AV)(fr'' :Fr)(σ'' :Sto)(he:isN e=true∨e=.ret)(hr:VKa T fr σ fn.results.toList=some cs)(hh:fr''.map (fun p=>σ.get (base+p.1))=fr''.map (fun p=>some (.hold p.2 (Tm.getD p.1 undef))))(hsu:σ.get sid=some (.sus E.g0.w.heap.size ds))(hle:σ''.map σ.sel=σ''.map (fun p=>some p.2))
 (h:AWPL E ops rest ((d,VDa cs)::fr'') σ'' (k.post E)):(GS.at e fr σ (.base (InlK E ops rest d fn base sid Tm ds (k.post E)) hm)).holds E' :=
 inlK (by cases e <;> simp_all [isN]) vTa Qka (Z2a hT hr) (hdw hh) hsu (stw hle) h
end
end
section
open Go.RowKit Go.Lib Go.Proofs.Tryz
variable {E:Env} {fr:Fr} {σ:Sto} {K:Post} {P:Program} {ρ:Operand->AV}
variable {dst:Option Tmp} {ty:TypeId} {pos:String} {af:Array Edge} {gu:Option (Nat × Bool)}
section
variable {α:Type} {F:α->List PV} {l xs r' :List α} {r size bytes sb ss k lim:Nat} {e t:TypeId} {mu:Bool} {zero sz:Value} {d:TypeDesc} {x y z:Operand} {nl:Option Bool}
end
end
section
inductive VLa (B:Nat) (g:G) (e:TypeId) (size:Nat) (els:List (List PV)):Value->Prop
 | nil (a:Option Addr) (h:els=[]):VLa B g e size els (.slice a 0 0)
 | row {b off cap n:Nat} {ad:Addr} (hB:B<=b) (hn:n=els.length) (ha:0 < cap->ad=⟨b,off * size,none⟩) (ho:RelO ⟨g.w,g.u,fun _=>.row b off cap size n⟩ 0 (.row e true size els)):VLa B g e size els (.slice (some ad) n cap)
structure RunO (P:Program) (f:FuncId) (args:List AV) (e:TypeId) (size:Nat) (els:List (List PV)):Prop where
 ok:∃fn c,FnOk P f fn c
 run:∀g vs,Wf g->Gl g->jra g args vs->CallsIn (fen none) 0 P f vs g.w fun x w' =>∃g' v,g'.w=w' /\g'.loc=g.loc/\Old (fun _=>False) g g' /\Wf g' /\x=.returned v/\VLa g.w.heap.size g' e size els v
variable {P:Program} {σ:Sto} {dst:Option Tmp} {ty:TypeId} {pos:String} {af:Array Edge} {gu:Option (Nat × Bool)} {E:Env} {fr:Fr}
theorem St.newrow{g g1:G}{a:Act}{r:Nat}{e:TypeId}{size:Nat}{els:List (List PV)}{v:Value}(h:St E g a fr σ)(ho:Old (fun _=>False) g g1)(hw:Wf g1)(hl:g1.loc=g.loc)(hv:VLa g.w.heap.size g1 e size els v)(hf:fr.has r=false)(hs:σ.has r=false):
 ∃g2,g2.w=g1.w/\St E g2 a fr ((r,.row e true size els)::σ)/\Rel g2 (.hs r 0) v/\g2.u=g1.u/\∀k,k≠r->g2.loc k=g1.loc k:=by
 have h1:St E g1 a fr σ:=h.grow ho hw (fun k _=>by rw[hl]);cases hv with
 | nil ax h0=>
  subst h0;exact ⟨⟨g1.w,g1.u,fun k=>if k=r then .nilRow else g1.loc k⟩,rfl,h1.adopt r e true size hf hs,.hsNil _ (if_pos rfl),rfl,fun k hk=>if_neg hk⟩
 | @row b off cap n ad hB hn ha hob=>
  subst hn;have hloc:∀k,k≠r->(⟨g1.w,g1.u,fun k=>if k=r then Loc.row b off cap size els.length else g1.loc k⟩:G).loc k=g1.loc k:=fun k hk=>if_neg hk
  have hget:∀o ob,Sto.get ((r,.row e true size els)::σ) o=some ob->(o=r/\ob=.row e true size els)∨(o≠r/\σ.get o=some ob):=by
   intro o ob hg;rw[Sto.get_cons]at hg;split at hg
   .rename_i hk;cases hg;exact .inl ⟨hk.symm,rfl⟩
   rename_i hk;exact .inr ⟨Ne.symm hk,hg⟩
  have hlt:∀o ob b',σ.get o=some ob->ob.own (g1.loc o) b' ->b' < b:=by
   intro o ob b' ho1 hb';rw[hl]at hb';have:=(h.so.obj o ob ho1).block_lt hb';omega
  refine ⟨⟨g1.w,g1.u,fun k=>if k=r then Loc.row b off cap size els.length else g1.loc k⟩,rfl,⟨fun d' =>Rel.mono (g:=g1) (g' :=⟨g1.w,g1.u,fun k=>if k=r then Loc.row b off cap size els.length else g1.loc k⟩) (Ext.refl _ _) (h1.fr d') fun k hk=>hloc k ?_,h1.n,h1.df,⟨?_,?_,?_,⟨h1.so.old.os,h1.so.old.tape,h1.so.old.output,h1.so.old.ext,h1.so.old.block⟩,h1.so.wf⟩⟩,?_,rfl,hloc⟩
  .rintro rfl;rw[Fr.has_get hk]at hf;cases hf
  .intro o ob hg;rcases hget o ob hg with ⟨rfl,rfl⟩ | ⟨hne,hg1⟩
   .cases hob with
    | nil q=>cases q
    | row q1 q2 q3 q4 q5 q6 q7 q8 q9=>cases q1;exact .row (if_pos rfl) q2 q3 q4 q5 q6 q7 q8 q9
   refine RelO.mono (g:=g1) (g' :=⟨g1.w,g1.u,fun k=>if k=r then Loc.row b off cap size els.length else g1.loc k⟩) (h1.so.obj o ob hg1) (Ext.refl _ _) (hloc o hne) (fun k hk=>hloc k ?_) fun b hb=>⟨rfl,rfl⟩
   rintro rfl;rw[Sto.has_get hg1 hk]at hs;cases hs
  .intro o o' ob ob' b1 h2 h3 h4 h5;rcases hget o ob h2 with ⟨rfl,rfl⟩ | ⟨hne,hg⟩ <;> rcases hget o' ob' h3 with ⟨rfl,rfl⟩ | ⟨hne',hg'⟩
   .rfl
   .simp only[if_true,hne',if_false]at h4 h5;have:=hlt o' ob' b1 hg' h5;simp only[AO.own,Loc.block,Option.some.injEq]at h4;omega
   .simp only[if_true,hne,if_false]at h4 h5;have:=hlt o ob b1 hg h4;simp only[AO.own,Loc.block,Option.some.injEq]at h5;omega
   simp only[hne,hne',if_false]at h4 h5;exact h1.so.apart o o' ob ob' b1 hg hg' h4 h5
  .intro o ob b1 h2 h3;rcases hget o ob h2 with ⟨rfl,rfl⟩ | ⟨hne,hg⟩
   .simp only[if_true,AO.own,Loc.block,Option.some.injEq]at h3;have:=h.so.old.ext.size;exact .inl (by omega)
   simp only[hne,if_false]at h3;exact h1.so.mine o ob b1 hg h3
  exact .hs (if_pos rfl) ha
theorem Zeb{f:FuncId}{k:Nat}{xs:List Operand}{ats:Array TypeId}{args:List AV}{e:TypeId}{size:Nat}{els:List (List PV)}(r:Nat)(hr:RunO E.P f args e size els)(hN:Nat.ble (k+1) E.N=true)(hf:fr.has r=false)(hs:σ.has r=false)(ha:xs.map (fun x=>(fr.ev x).weak)=args):
 OpTo E ⟨some k,.call ⟨.value (.func f),xs.toArray,ats⟩,ty,pos,af,gu⟩ fr σ ((k,.hs r 0)::fr) ((r,.row e true size els)::σ):=
 ⟨fun g a K Q hst hK=>by
  obtain ⟨fn,c,hok⟩:=hr.ok;refine ⟨fun _ _=>trivial,?_⟩;rw[jBe _ _ _ (fun c=>by simp),yta hok (first:= #[]) (cap:= #[]) rfl,jEi];refine ⟨fun h=>by simp[fen]at h,?_⟩;have hargs:jra g args (#[]++xs.toArray.map a.eval++ #[]):=by
   subst ha;refine ⟨by simp,fun i c hi=>?_⟩;simp only[jAk,jAg]at hi;obtain ⟨x,hx,rfl⟩:=hi;have:=vNa (hst.ev x);simpa[hx]using this
  refine (ysa (hr.run g _ hst.so.wf (E.glOf hst.so) hargs)).mono ?_;rintro x w' ⟨g',v,rfl,hl,ho,hw,rfl,hv⟩;obtain ⟨g2,hw2,hst2,hv2,_,_⟩:=hst.newrow ho hw hl hv hf hs;have:=hK g2 _ (hst2.put (jAf hN) hv2);rw[hw2]at this;exact this⟩
def KQb(P:Program)(fn:Func)(e:TypeId)(size:Nat)(els:List (List PV)):Post:=fun x fr σ=>(x=.ret∨x=.normal)/\∃r0,ResL P fr σ fn.results.toList [.hs r0 0]/\σ.get r0=some (.row e true size els)
theorem Zfb{fn:Func}{e:TypeId}{size:Nat}{els:List (List PV)}:Mono (KQb P fn e size els):=fun x fr σ fr' σ' hf hs ⟨h1,r0,h2,h3⟩=>⟨h1,r0,h2.le hf hs,by
 rcases hs r0 _ h3 with h4 | ⟨cs,_,h4⟩
 .exact h4
 cases h4⟩
theorem wQb{f:FuncId}{fn:Func}{c:Code}(hok:FnOk P f fn c){args:List AV}{e:TypeId}{size:Nat}{els:List (List PV)}(hN:Nat.ble args.length fn.ntmps=true)
 (h:∀g0 (hg:Gl g0),AWP ⟨P,none,g0,fn.ntmps,false,hg,fun _=>False,fun _ _ h=>h⟩ c (kYa 0 args) [] (KQb P fn e size els)):RunO P f args e size els:=by
 refine ⟨⟨fn,c,hok⟩,fun g vs hw hgl ⟨hsz,ha⟩=>?_⟩;have hN:=jAf hN;refine callsIn_of_wp_marks hok.f hok.b trivial<|wpIn_mono ((h g hgl).go g _ ⟨fun d=>?_,by simp;omega,⟨Dok.nil _ _,fun _=>rfl⟩,⟨fun o ob ho=>by simp[Sto.get]at ho,fun o o' ob ob' b ho=>by simp[Sto.get]at ho,fun o ob b ho=>by simp[Sto.get]at ho,Old.refl _ g,hw⟩⟩) ?_
 .rw[wXa];simp only[jDd,if_true,Nat.sub_zero];cases hc:args[d]? with
  | none=>exact .any _
  | some c=>
   have hlt:d < vs.size:=by rw[hsz];exact (jAd.1 hc).1
   have:=ha d c hc;rw[jAe,jBn hlt,<-jAe];exact this
 rintro x a w' ⟨g',fr',σ',rfl,hst,he,r0,hres,hr0⟩;obtain ⟨bs,hds,hnd,hbs⟩:=hst.df.ok;have key:∀w',Took g'.w bs w' ->∃v,(results fn a.tmps).run P w' =.ok v w' /\∃g'' v',g''.w=w' /\g''.loc=g.loc/\Old (fun _=>False) g g'' /\Wf g'' /\Ending.returned v=.returned v' /\VLa g.w.heap.size g'' e size els v' :=by
  intro w' ht;have hcellb:∀(k:Nat) (vs:Array Value) (t:TypeId) (fz:Nat × Nat),g'.w.heap[k]? =some (Obj.cells vs t fz)->w'.heap[k]? =g'.w.heap[k]? :=by
   intro k vs t fz hk;refine ht.block k fun hx=>?_
   rw[(hbs k hx).2]at hk;cases hk
  have hx0:Ext0 g'.w g'.u w' g'.u:=⟨jCi ht.size.symm,fun _ _=>jAn _,fun k i hk hi=>by
   by_cases hkb:k∈bs
   .simp[World.cell?,(hbs k hkb).2,ht.took k hkb]
   simp only[World.cell?];rw[ht.block k hkb]⟩
  obtain ⟨v,h1,h2⟩:=ZWa (P:=P) (g:=⟨w',g'.u,g'.loc⟩) hres (fun d=>(hst.fr d).mono0 hx0 (fun _ _=>rfl)) (fun k cs' hk=>by
   cases hst.so.obj k _ hk with
   | cells q1 q2 q3 q4 q5 q6=>exact .cells q1 ((hcellb _ _ _ _ q2).trans q2) q3 q4 q5 fun i c hi=>(q6 i c hi).mono0 hx0 (fun _ _=>rfl))
  have hrow:=hst.so.obj r0 _ hr0;refine ⟨v,h1,⟨w',g'.u,g.loc⟩,v,rfl,rfl,⟨ht.os.trans hst.so.old.os,ht.tape.trans hst.so.old.tape,ht.output.trans hst.so.old.output,⟨by rw[ht.size];exact hst.so.old.ext.size,hst.so.old.ext.pub,fun k i hk hi=>?_,fun r' hr' =>?_⟩,fun k hk hs=>?_⟩,fun k hk=>hst.so.wf k (by rw[<-ht.size];exact hk),rfl,?_⟩
  .have hkb:k ∉ bs:=fun hx=>by have:g.w.heap.size<=k:=(hbs k hx).1;omega
   simp only[World.cell?];rw[ht.block k hkb];exact hst.so.old.ext.cell k i hk hi
  .have hkb:r' ∉ bs:=fun hx=>by have:g.w.heap.size<=r' :=(hbs r' hx).1;have:=zUa hr';omega
   rw[ht.block r' hkb];exact hst.so.old.ext.df r' hr'
  .have hkb:k ∉ bs:=fun hx=>by have:g.w.heap.size<=k:=(hbs k hx).1;omega
   rw[ht.block k hkb];exact hst.so.old.block k hk hs
  replace h2:Rel ⟨w',g'.u,g'.loc⟩ (.hs r0 0) v:=h2
  cases hrow with
  | nil q1=>
   cases h2 with
   | hsNil ax q2=>exact .nil ax rfl
   | hs q2=>exact absurd (q1.symm.trans q2) (by simp)
  | @row _ _ _ _ b off cap vs' q1 q2 q3 q4 q5 q6 q7 q8 q9=>
   have hB:=hst.so.mine r0 _ b hr0 (by rw[q1];rfl);cases h2 with
   | hsNil ax q10=>exact absurd (q1.symm.trans q10) (by simp)
   | @hs _ b2 off2 cap2 size2 n2 ad q10 q11=>
    have q12:Loc.row b off cap size els.length=Loc.row b2 off2 cap2 size2 n2:=q1.symm.trans q10;cases q12;refine .row (b:=b) (off:=off) (hB.elim id fun hc=>hc.elim) rfl q11<|.row rfl ((hcellb _ _ _ _ q2).trans q2) q3 q4 q5 q6 q7 q8 fun i j x c hi hj=>(q9 i j x c hi hj).mono0 hx0
 rcases he with rfl | rfl
 .show LeavesInM _ _ _ _ _ _ _ _ _;rw[hds];exact vVa bs g'.w hnd (fun r' hr' =>(hbs r' hr').2) key
 show LeavesInM _ _ _ _ _ _ _ _ _;rw[hds];exact vVa bs g'.w hnd (fun r' hr' =>(hbs r' hr').2) key
theorem rfO{f:FuncId}{fn:Func}{c:Code}(hok:FnOk P f fn c){args:List AV}{e:TypeId}{size:Nat}{els:List (List PV)}(hN:Nat.ble args.length fn.ntmps=true)
 (h:∀g0 (hg:Gl g0),(GS.code c (kYa 0 args) [] (.base (KQb P fn e size els) Zfb)).holds ⟨P,none,g0,fn.ntmps,false,hg,fun _=>False,fun _ _ h=>h⟩):RunO P f args e size els:=wQb hok hN h
theorem krO{T:Tab}(hT:kca P T){x:Exit}{fn:Func}{e:TypeId}{size:Nat}{els:List (List PV)}{r0:Nat}{hm:Mono (KQb P fn e size els)}(he:isN x=true∨x=.ret)(h:VKa T fr σ fn.results.toList=some [.hs r0 0])(hg:σ.get r0=some (.row e true size els)):(GS.at x fr σ (.base (KQb P fn e size els) hm)).holds E:=
 ⟨by cases x <;> simp_all [isN],r0,Z2a hT h,hg⟩
theorem fn{fr:Fr}:FrLe fr []:=kib
theorem fc{fr fr' :Fr}{k:Nat}{c:AV}(h:fr.get k=c)(h' :FrLe fr fr'):FrLe fr ((k,c)::fr'):=YOa h h'
end
section
open Go.RowKit Go.Lib Go.Proofs.Tryz
variable {E:Env} {fr:Fr} {σ:Sto} {K:Post}
abbrev ObX:=List (Option (Nat × AO))
structure OpNewX (E:Env) (FR:Fr) (o:Oper) (id:Nat) (c:AV) (ob:AO):Prop where
 go:∀(g:G) a (σ' :Sto) (K:Act->World->Prop) (Q:Exit->Act->World->Prop),(∀x∈o.op.operands,Rel g (FR.ev x) (a.eval x))->St E g a [] σ' ->σ'.has id=false->ob.has id=false->
  (∀g' v,Old (fun _=>False) g g' ->(∀k,k≠id->g'.loc k=g.loc k)->Sok E.S E.g0 g' ((id,ob)::σ')->Rel g' c v->K (a.put o.dst v) g'.w)->o.wpIn (fen E.rd) 0 E.P a g.w K Q
inductive YXa (E:Env) (ops:Array Oper) (fr:Fr) (σ:Sto):List Oper->List AV->ObX->Prop
 | nil:YXa E ops fr σ [] [] []
 | run {o:Oper} {l:List Oper} {c:AV} {cs:List AV} {az:ObX} (hg:wDa ops fr o) (h:OpG E o fr σ c) (hr:YXa E ops fr σ l cs az):YXa E ops fr σ (o::l) (c::cs) (none::az)
 | skip {o:Oper} {l:List Oper} {cs:List AV} {az:ObX} (hg:ZZa ops fr o) (hr:YXa E ops fr σ l cs az):YXa E ops fr σ (o::l) (.tup []::cs) (none::az)
 | new {o:Oper} {l:List Oper} {cs:List AV} {az:ObX} (id:Nat) {c:AV} {ob:AO} (hg:wDa ops fr o) (h:OpNewX E fr o id c ob) (hr:YXa E ops fr σ l cs az):YXa E ops fr σ (o::l) (c::cs) (some (id,ob)::az)
theorem YXa.len{ops:Array Oper}{l:List Oper}{cs:List AV}{az:ObX}(h:YXa E ops fr σ l cs az):cs.length=l.length/\az.length=l.length:=by
 induction h with
 | nil=>exact ⟨rfl,rfl⟩
 | run _ _ _ ih=>simp[ih.1,ih.2]
 | skip _ _ ih=>simp[ih.1,ih.2]
 | new _ _ _ _ ih=>simp[ih.1,ih.2]
theorem YXa.get{ops:Array Oper}{l:List Oper}{cs:List AV}{az:ObX}(h:YXa E ops fr σ l cs az):∀{i:Nat} {o:Oper} {c:AV},l[i]? =some o->cs[i]? =some c->(wDa ops fr o/\OpG E o fr σ c/\az[i]? =some none)∨(ZZa ops fr o/\c=.tup []/\az[i]? =some none)∨(wDa ops fr o/\∃id ob,OpNewX E fr o id c ob/\az[i]? =some (some (id,ob))):=by
 induction h with
 | nil=>intro i o c h1;simp at h1
 | run hg h _ ih=>
  intro i o c h1 h2;cases i with
  | zero=>simp at h1 h2;subst h1;subst h2;exact .inl ⟨hg,h,rfl⟩
  | succ i=>exact ih (by simpa using h1) (by simpa using h2)
 | skip hg _ ih=>
  intro i o c h1 h2;cases i with
  | zero=>simp at h1 h2;subst h1;subst h2;exact .inr (.inl ⟨hg,rfl,rfl⟩)
  | succ i=>exact ih (by simpa using h1) (by simpa using h2)
 | new id hg h _ ih=>
  intro i o c h1 h2;cases i with
  | zero=>simp at h1 h2;subst h1;subst h2;exact .inr (.inr ⟨hg,id,_,h,rfl⟩)
  | succ i=>exact ih (by simpa using h1) (by simpa using h2)
section
variable {E:Env} {fr:Fr} {σ:Sto} {k:KS} {ops:Array Oper} {T:Tab} {c:AV} {t ty:TypeId} {pos:String} {af:Array Edge} {row:YWa}
end
end
section
section
variable {P:Program} {dst:Option Tmp} {ty:TypeId} {pos:String} {af:Array Edge} {gu:Option (Nat × Bool)} {ρ:Operand->AV} {σ:Sto}
variable {t e:TypeId} {size bytes ss sb len:Nat} {zero sz:Value} {d:TypeDesc} {x y:Operand} {k:IntKind} {n:Int}
theorem qWb{ps:List (Nat × Operand)}{z cs:List AV}(ht:TyOk P t ss sb sz (.array len e))(he:TyOk P e size bytes zero d)
 (hz:(wFa sz).cells=some z∨sz.cells.toList.map wFa=z/\sz.cells.toList.all cellV=true) (hc:knb (fun i=>some (i * size,size)) z (ps.map fun p=>(p.1,ρ p.2))=some cs):EvQ P ⟨dst,.build t ps.toArray,ty,pos,af,gu⟩ ρ σ (.agg cs):=
 ⟨fun c=>by simp,fun g ρv hh _=>by
  obtain ⟨out,h1,h2⟩:=kob (g:=g) (ps.map fun p=>(p.1,ρ p.2)) (ps.map fun p=>(p.1,ρv p.2)) z sz.cells cs (zvb g sz hz) (by simp) (fun i p v hp hv=>by
   simp only[jAk,jAg]at hp hv;obtain ⟨q,hq,rfl⟩:=hp;obtain ⟨q',hq',rfl⟩:=hv;rw[hq]at hq';cases hq';refine ⟨rfl,hh q.2 ?_⟩;simp only[Op.operands];simp only[List.mem_toArray,jCd];exact ⟨q,jAi hq,rfl⟩) hc
  refine ⟨.agg out,?_,.agg h2.n h2.c h2.r⟩;show Sem.run P (do let v <-Instr.build t (ps.toArray.map fun (i,x)=>(i,ρv x));pure (Next.value v)) g.w=_;simp only[Instr.build,underlying,program,jAt,Sem.run,ht.u,ht.zeroValue,jAp,jAz,he.sizeOf];have e1:(ps.toArray.map fun (x:Nat × Operand)=>(x.1,ρv x.2)).toList=ps.map fun p=>(p.1,ρv p.2):=by simp
  simp only[e1,h1];rfl⟩
theorem KRb{α:Type}{f:α->List PV}{L:List α}{a:α}{p:PV}(hx:ρ x=.agg (L.flatMap fun a=>(f a).map AV.pv))(hy:ρ y=.pv (.b (.int k n)))(ht:TyOk P t ss sb sz (.array len e))(he:TyOk P e 1 bytes zero d)(hd:dAgg d=false)
 (hl:L.length=len) (hz:∀a,(f a).length=1) (hi:idx L n=some a) (hp:f a=[p]):EvQ P ⟨dst,.index t x y,ty,pos,af,gu⟩ ρ σ (.pv p):=
 ⟨fun c=>by simp,fun g ρv h _=>by
  obtain ⟨h1,h2⟩:=ops2 (o:=⟨dst,.index t x y,ty,pos,af,gu⟩) (x:=x) (y:=y) rfl h;rw[hx]at h1;rw[hy]at h2;have e2:=z6a h2;obtain ⟨h0,hc⟩:=yCa hi;have hlt:n.toNat < L.length:=(jAd.1 hc).1;generalize hv:ρv x=v at h1;cases h1 with
  | @agg _ vs hn hcv hr=>
   have hg:=ZYa hz L n.toNat 0 a p hc (by rw[hp];rfl);simp only[jDm,jCy]at hg;have hsz:n.toNat < vs.size:=by rw[hn];exact (jAd.1 hg).1
   refine ⟨vs.getD n.toNat undef,?_,hr _ _ hg⟩;simp only[execOp,Instr.index,hv,e2,asIntOf,underlying,program,jAt,Sem.run,ht.u,jAp,jAz,he.sizeOf,jDm];rw[if_pos ⟨h0,by omega⟩];simp only[jAt,he.sizeOf,jAp,jDm,ZXa he hd hsz]
   done⟩
theorem ev_aidxN{α:Type}{f:α->List PV}{L:List α}{a:α}(hx:ρ x=.agg (L.flatMap fun a=>(f a).map AV.pv))(hy:ρ y=.pv (.b (.int k n)))(ht:TyOk P t ss sb sz (.array len e))(he:TyOk P e size bytes zero d)(hd:dAgg d=true)
 (hl:L.length=len) (hz:∀a,(f a).length=size) (hi:idx L n=some a):EvQ P ⟨dst,.index t x y,ty,pos,af,gu⟩ ρ σ (.agg ((f a).map .pv)):=
 ⟨fun c=>by simp,fun g ρv h _=>by
  obtain ⟨h1,h2⟩:=ops2 (o:=⟨dst,.index t x y,ty,pos,af,gu⟩) (x:=x) (y:=y) rfl h;rw[hx]at h1;rw[hy]at h2;have e2:=z6a h2;obtain ⟨h0,hc⟩:=yCa hi;have hlt:n.toNat < L.length:=(jAd.1 hc).1;generalize hv:ρv x=v at h1;cases h1 with
  | @agg _ vs hn hcv hr=>
   have hsz:n.toNat * size+size<=vs.size:=by
    rw[hn,Vda hz];have:=jAy size (show n.toNat+1<=L.length by omega);rw[jBg,Nat.one_mul]at this;exact this
   have hex:(vs.extract (n.toNat * size) (n.toNat * size+size)).size=size:=by simp;omega
   have hget:∀j,j < size->(vs.extract (n.toNat * size) (n.toNat * size+size)).getD j undef=vs.getD (n.toNat * size+j) undef:=by
    intro j hj;rw[jAe,jAe,Array.getElem?_extract];rw[if_pos (by omega)]
   refine ⟨.agg (vs.extract (n.toNat * size) (n.toNat * size+size)),?_,.agg (by rw[hex];simp[hz]) (fun j hj=>?_) (fun j c hj=>?_)⟩
   .simp only[execOp,Instr.index,hv,e2,asIntOf,underlying,program,jAt,Sem.run,ht.u,jAp,jAz,he.sizeOf];rw[if_pos ⟨h0,by omega⟩];simp only[part,jAt,he.sizeOf,he.isAgg,jAp,hd,if_true,jAz]
   .rw[hex]at hj;rw[hget j hj];exact hcv _ (by omega)
   simp only[jAk,jAg]at hj;obtain ⟨p,hp,rfl⟩:=hj;have hjs:j < size:=by have:=(jAd.1 hp).1;rw[hz]at this;exact this
   rw[hget j hjs];exact hr _ _ (ZYa hz L n.toNat j a p hc hp)⟩
end
end
section
variable {P:Program} {ρ:Operand->AV} {σ:Sto} {dst:Option Tmp} {ty:TypeId} {pos:String} {af:Array Edge} {gu:Option (Nat × Bool)}
theorem rel_ifc{g:G}{b:Bool}{v:Value}(h:Rel g (.ifc b) v):(b=false/\v=.nilIface)∨(b=true/\∃t x,v=.iface t x):=by
 cases h with
 | ifc h=>
  cases v with
  | nilIface=>exact .inl ⟨by simpa[ifcV]using h.symm,rfl⟩
  | iface t x=>exact .inr ⟨by simpa[ifcV]using h.symm,t,x,rfl⟩
  | _=>cases h
theorem eq_ifc{ms:Array (String × TypeId)}{t:TypeId}{v:Value}{b:Bool}(ht:P.underlying t=some (.interface ms))(h:(b=false/\v=.nilIface)∨(b=true/\∃t x,v=.iface t x)):EqOk P t v .nilIface (!b):=⟨fun d w=>by
 unfold Op.equalIn;rcases h with ⟨rfl,rfl⟩ | ⟨rfl,t1,x1,rfl⟩ <;> simp only[jAt,underlying,program,Sem.run,ht,jAp,jAz,jDn,jBf]⟩
theorem KSb{op:BinOp}{t:TypeId}{x:Operand}{v:Value}{b:Bool}(h:(b=false/\v=.nilIface)∨(b=true/\∃t x,v=.iface t x)):eqGuard op t x (.const .nilIface) v .nilIface=pure ():=by
 rcases h with ⟨rfl,rfl⟩ | ⟨rfl,t1,x1,rfl⟩
 .cases op <;> cases x <;> rfl
 cases op <;> rfl
theorem ev_ifneq{t t' :TypeId}{x:Operand}{b:Bool}{ss sb:Nat}{sz:Value}{ms:Array (String × TypeId)}(hx:ρ x=.ifc b)(hy:ρ (.const .nilIface)=.pv (.b .nilIface))(ht:TyOk P t ss sb sz (.interface ms)):EvQ P ⟨dst,.binOp .neq t x (.const .nilIface) t',ty,pos,af,gu⟩ ρ σ (.bo b):=
 ⟨fun c=>by simp,fun g ρv h _=>by
  obtain ⟨h1,h2⟩:=ops2 (o:=⟨dst,.binOp .neq t x (.const .nilIface) t',ty,pos,af,gu⟩) (x:=x) (y:=.const .nilIface) rfl h;rw[hx]at h1;rw[hy]at h2;have e2:=z6a h2;have hi:=rel_ifc h1;refine ⟨.bool b,?_,.pv (.b rfl)⟩;show Sem.run P (do let v <-(do eqGuard .neq t x (.const .nilIface) (ρv x) (ρv (.const .nilIface));binOp .neq t (ρv x) (ρv (.const .nilIface)));pure (Next.value v)) g.w=_;rw[e2,KSb hi];have he:Sem.run P (Op.equal t (ρv x) .nilIface) g.w=.ok (!b) g.w:=(eq_ifc ht.u hi).run 9999 g.w;generalize ρv x=v at *;rcases hi with ⟨rfl,rfl⟩ | ⟨rfl,t1,x1,rfl⟩ <;> simp[binOp,jAt,he,jAz]⟩
end
section
mutual
def AV.epS(o:Nat)(cs:List PV):AV->AV
 | .ptr o' off=>bif Nat.beq o' o then (bif Nat.ble off cs.length then .ep (cs.drop off) else .any) else .ptr o' off
 | .agg l=>.agg (AV.epL o cs l)
 | .tup l=>.tup (AV.epL o cs l)
 | .fn f a c=>.fn f (AV.epL o cs a) (AV.epL o cs c)
 | .ls o' =>bif Nat.beq o' o then .any else .ls o'
 | c=>c
def AV.epL(o:Nat)(cs:List PV):List AV->List AV
 | []=>[]
 | c::l=>c.epS o cs::AV.epL o cs l
end
theorem AV.epL_eq(o:Nat)(cs:List PV)(l:List AV):AV.epL o cs l=l.map (AV.epS o cs):=by
 induction l with
 | nil=>rfl
 | cons c l ih=>unfold AV.epL;rw[ih];rfl
def Fr.epS(o:Nat)(cs:List PV):Fr->Fr
 | []=>[]
 | (k,c)::r=>(k,c.epS o cs)::Fr.epS o cs r
theorem Fr.get_epS(o:Nat)(cs:List PV)(fr:Fr)(d:Nat):(fr.epS o cs).get d=(fr.get d).epS o cs:=by
 induction fr with
 | nil=>simp[Fr.epS,Fr.get,AV.epS]
 | cons x r ih=>
  obtain ⟨k,c⟩:=x;unfold Fr.epS;rw[Fr.get_cons,Fr.get_cons,ih];split <;> rfl
theorem rel_epS{g g' :G}{o b:Nat}{cs:List PV}{vs:Array Value}{t:TypeId}{fz:Nat × Nat}(hl:g.loc o=.blk b)(hb:g.w.heap[b]? =some (.cells vs t fz))(hn:vs.size=cs.length)
 (hc:∀i c,cs[i]? =some c->RelP g.w g.u c (vs.getD i undef)) (hx:Ext g.w g.u g'.w g'.u) (hh:g'.w.heap[b]? =g.w.heap[b]?) (hu:g'.u b=cs.length) (hloc:∀k,k≠o->g'.loc k=g.loc k)
 {c:AV} {v:Value} (h:Rel g c v):Rel g' (c.epS o cs) v:=by
 induction h with
 | any v=>exact .any v
 | pv h=>exact .pv (h.mono hx)
 | agg hl2 hc2 h ih=>
  unfold AV.epS;rw[AV.epL_eq];refine .agg (by simp[hl2]) hc2 fun i c hi=>?_
  simp only[jAk,jAg]at hi;obtain ⟨c',h1,rfl⟩:=hi;exact ih i c' h1
 | tup hl2 h ih=>
  unfold AV.epS;rw[AV.epL_eq];refine .tup (by simp[hl2]) fun i c hi=>?_
  simp only[jAk,jAg]at hi;obtain ⟨c',h1,rfl⟩:=hi;exact ih i c' h1
 | @ptr o' off b' h1=>
  unfold AV.epS;cases hbq:Nat.beq o' o with
  | false=>
   have hk:o' ≠o:=fun e=>by rw[e]at hbq;simp at hbq
   rw[cond_false];exact .ptr ((hloc o' hk).trans h1)
  | true=>
   have hk:o' =o:=jAm hbq;subst hk;rw[hl]at h1;cases h1;rw[cond_true];cases hle:Nat.ble off cs.length with
   | false=>exact .any _
   | true=>
    have hle:=jAf hle;rw[cond_true];refine .ep (fun i=>vs.getD (off+i) undef) (by rw[hu];simp;omega) ?_ (fun i hi=>?_) (fun i c hi=>?_)
    .have:=zUa hb;have:=hx.size;omega
    .have hi' :off+i < vs.size:=by simp at hi;omega
     simp only[World.cell?,hh,hb];simp[Array.getD,hi']
    rw[jBo]at hi;exact (hc _ c hi).mono hx
 | ep val h1 h2 h3 h4=>exact (Rel.ep (g:=g) val h1 h2 h3 h4).mono hx (fun o' ho' =>by cases ho')
 | @hsNil r a h1=>
  by_cases hk:r=o
  .subst hk;rw[hl]at h1;cases h1
  exact .hsNil a ((hloc r hk).trans h1)
 | @hs r b1 off cap size n a h1 h2=>
  by_cases hk:r=o
  .subst hk;rw[hl]at h1;cases h1
  exact .hs ((hloc r hk).trans h1) h2
 | @hp r idx j b1 off cap size n h1 h2=>
  by_cases hk:r=o
  .subst hk;rw[hl]at h1;cases h1
  exact .hp ((hloc r hk).trans h1) h2
 | @fn f first captured fv cv h1 h2 hf hc2 ihf ihc=>
  unfold AV.epS;rw[AV.epL_eq,AV.epL_eq];refine .fn (by simp[h1]) (by simp[h2]) (fun i c hi=>?_) (fun i c hi=>?_)
  .simp only[jAk,jAg]at hi;obtain ⟨c',h3,rfl⟩:=hi;exact ihf i c' h3
  simp only[jAk,jAg]at hi;obtain ⟨c',h3,rfl⟩:=hi;exact ihc i c' h3
 | @mp o' b1 h1=>
  by_cases hk:o' =o
  .subst hk;rw[hl]at h1;cases h1
  exact .mp ((hloc o' hk).trans h1)
 | @hsubNil r lo a h1=>
  by_cases hk:r=o
  .subst hk;rw[hl]at h1;cases h1
  exact .hsubNil a ((hloc r hk).trans h1)
 | @hsub r lo b1 off cap size n a h1 h2 h3=>
  by_cases hk:r=o
  .subst hk;rw[hl]at h1;cases h1
  exact .hsub ((hloc r hk).trans h1) h2 h3
 | z0 a=>exact .z0 a
 | ifc h=>exact .ifc h
 | @hpreNil r a h1=>
  by_cases hk:r=o
  .subst hk;rw[hl]at h1;cases h1
  exact .hpreNil a ((hloc r hk).trans h1)
 | @hpre r hi b1 off cap size n a h1 h2 h3=>
  by_cases hk:r=o
  .subst hk;rw[hl]at h1;cases h1
  exact .hpre ((hloc r hk).trans h1) h2 h3
 | @nsNil r a h1=>
  by_cases hk:r=o
  .subst hk;rw[hl]at h1;cases h1
  exact .nsNil a ((hloc r hk).trans h1)
 | @ns r b1 off cap size n size2 subs a h1 h2=>
  by_cases hk:r=o
  .subst hk;rw[hl]at h1;cases h1
  exact .ns ((hloc r hk).trans h1) h2
 | @np r idx j b1 off cap size n size2 subs h1 h2=>
  by_cases hk:r=o
  .subst hk;rw[hl]at h1;cases h1
  exact .np ((hloc r hk).trans h1) h2
 | @hnNil r idx b1 off cap size n size2 subs a cap2 h1 h2=>
  by_cases hk:r=o
  .subst hk;rw[hl]at h1;cases h1
  exact .hnNil a cap2 ((hloc r hk).trans h1) h2
 | @hn r idx b1 off cap size n size2 b2 off2 cap2 n2 subs h1 h2=>
  by_cases hk:r=o
  .subst hk;rw[hl]at h1;cases h1
  exact .hn ((hloc r hk).trans h1) h2
 | @hnp r idx k j b1 off cap size n size2 b2 off2 cap2 n2 subs h1 h2 h3=>
  by_cases hk:r=o
  .subst hk;rw[hl]at h1;cases h1
  exact .hnp ((hloc r hk).trans h1) h2 h3
 | nn h=>exact .nn h
 | @ls r b1 h1=>
  unfold AV.epS;cases hbq:Nat.beq r o with
  | true=>exact .any _
  | false=>
   have hk:r≠o:=fun e=>by rw[e]at hbq;simp at hbq
   exact .ls ((hloc r hk).trans h1)
 | @mr r b1 subs h1=>
  by_cases hk:r=o
  .subst hk;rw[hl]at h1;cases h1
  exact .mr ((hloc r hk).trans h1)
variable {P:Program} {σ:Sto} {dst:Option Tmp} {ty:TypeId} {pos:String} {af:Array Edge} {gu:Option (Nat × Bool)} {E:Env} {fr:Fr} {K:Post}
theorem St.pubbox{g:G}{a:Act}{o:Nat}{cs:List PV}(h:St E g a fr σ)(ho:σ.get o=some (.cells (cs.map .pv)))(hd:(σ.del o).has o=false):∃g',g'.w=g.w/\St E g' a (fr.epS o cs) (σ.del o):=by
 have hob:=h.so.obj o _ ho;generalize hls:cs.map AV.pv=ls at hob;cases hob with
 | @cells _ b t vs hl hb hn hu hcv hrel=>
  subst hls;have hbl:=zUa hb;have hx:Ext g.w g.u g.w (fun k=>if k=b then cs.length else g.u k):=⟨jAn _,fun k _=>by split <;> simp_all,fun _ _ _ _=>rfl,fun _ h=>h⟩;have hsub:∀o' ob b',σ.get o' =some ob->ob.own (g.loc o') b' ->o' ≠o->b' ≠b:=by
   rintro o' ob b' ho' hb' hne rfl;exact hne (h.so.apart o' o ob _ b' ho' ho hb' (by rw[hl];rfl))
  have hget:∀o' ob,(σ.del o).get o' =some ob->o' ≠o/\σ.get o' =some ob:=by
   intro o' ob h1;rw[Sto.get_del]at h1;split at h1
   .cases h1
   rename_i h2;exact ⟨h2,h1⟩
  have hcells:∀i c,cs[i]? =some c->RelP g.w g.u c (vs.getD i undef):=fun i c hi=>by
   have:=hrel i (.pv c) (by simp[hi]);cases this with
   | pv h=>exact h
  refine ⟨⟨g.w,fun k=>if k=b then cs.length else g.u k,g.loc⟩,rfl,⟨fun d=>?_,h.n,h.df,⟨?_,?_,?_,?_,?_⟩⟩⟩
  .rw[Fr.get_epS];exact rel_epS (g' :=⟨g.w,fun k=>if k=b then cs.length else g.u k,g.loc⟩) hl hb (by simpa using hn) hcells hx rfl (if_pos rfl) (fun _ _=>rfl) (h.fr d)
  .intro o' ob h1;obtain ⟨h2,h3⟩:=hget o' ob h1;exact (h.so.obj o' ob h3).mono hx rfl (fun _ _=>rfl) fun b' hb' =>⟨rfl,if_neg (hsub o' ob b' h3 hb' h2)⟩
  .intro o1 o2 ob1 ob2 b1 h1 h2;exact h.so.apart o1 o2 ob1 ob2 b1 (hget o1 ob1 h1).2 (hget o2 ob2 h2).2
  .intro o1 ob1 b1 h1;exact h.so.mine o1 ob1 b1 (hget o1 ob1 h1).2
  .refine h.so.old.trans ⟨rfl,rfl,rfl,hx,fun k hk hs=>⟨rfl,if_neg ?_⟩⟩;rintro rfl;rcases h.so.mine o _ k ho (by rw[hl];rfl) with h1 | h1
   .exact hs (.inr h1)
   exact hs (.inl h1)
  intro k hk;show (if k=b then cs.length else g.u k)=0;rw[if_neg (by have:g.w.heap.size<=k:=hk;omega)];exact h.so.wf k hk
theorem wRb{ops:Array Oper}{ol:List Oper}(o:Nat){cs:List PV}(ho:σ.get o=some (.cells (cs.map .pv)))(hd:(σ.del o).has o=false)(h:AWPL E ops ol (fr.epS o cs) (σ.del o) K):AWPL E ops ol fr σ K:=
 ⟨fun g a hst=>by
  obtain ⟨g',hw,hst'⟩:=hst.pubbox ho hd;have:=h.go g' a hst';rw[hw]at this;exact this⟩
theorem KTb{f:FuncId}{fx:Operand}{xs:List Operand}{ats:Array TypeId}{args cap:List AV}{r:AV}(hfx:fr.ev fx=.fn (.func f) [] cap)(hr:Run E.P f args r)(ha:xs.map (fun x=>(fr.ev x).weak)++cap=args):
 OpG E ⟨dst,.call ⟨.value fx,xs.toArray,ats⟩,ty,pos,af,gu⟩ fr σ r:=
 ⟨fun g a K Q hx hs hK=>by
  obtain ⟨fn,c,hok⟩:=hr.ok;have hfv:Rel g (.fn (.func f) [] cap) (a.eval fx):=by rw[<-hfx];exact hx fx (by simp[Op.operands,Call.operands])
  generalize hv:a.eval fx=fv at hfv;cases hfv with
  | @fn _ _ _ v1 v2 h1 h2 hf hc=>
   have e1:v1= #[]:=jCk h1;subst e1;refine ⟨fun _ _=>trivial,?_⟩;rw[jBe _ _ _ (fun c=>by simp),yta hok hv,jEi];refine ⟨fun h=>by simp[fen]at h,?_⟩;have hargs:jra g args (#[]++xs.toArray.map a.eval++v2):=by
    subst ha;refine ⟨by simp[h2],fun i c hi=>?_⟩;by_cases hlt:i < xs.length
    .rw[jAs (by simpa using hlt)]at hi;simp only[jAk,jAg]at hi;obtain ⟨x,hx',rfl⟩:=hi;have:=vNa (hx x (by simp[Op.operands,Call.operands];exact .inr (jAi hx')));rw[jAe,jBn (by simpa using hlt)];simpa[hx']using this
    rw[jAq (by simpa using hlt)]at hi;have:=hc _ c hi;rw[jAe,Array.getElem?_append_right (by simpa using hlt),<-jAe];simpa using this
   refine (ysa (hr.run g _ hs.wf (E.glOf hs) hargs)).mono ?_;rintro e w' ⟨g',v,rfl,hl,ho,hw,rfl,hv⟩;exact hK g' v ho hw hl hv⟩
end
section
open Go.ChangeShapes Go.WideShapes Go.ChangeAt Go.RowKit Go.Proofs.Tryz
def uAll(W:World)(k:Nat):Nat:=match W.heap[k]? with
 | some (.cells vs _ _)=>vs.size
 | _=>0
theorem KUb{W:World}{b i:Nat}{v:Value}(h:W.cell? ⟨b,i,none⟩=some v):i < uAll W b/\b < W.heap.size:=by
 unfold World.cell? at h;simp only[Option.isSome_none,jAr,if_false]at h;split at h
 .rename_i c t z hb;refine ⟨?_,(jCu.1 hb).1⟩;unfold uAll;rw[hb];exact (jCu.1 h).1
 cases h
def gAll(W:World):G:=⟨W,uAll W,fun _=>.none⟩
theorem wf_all(W:World):Wf (gAll W):=fun k hk=>by
 show uAll W k=0;unfold uAll;have:W.heap[k]? =none:=jDh hk;rw[this]
structure RelC (W:World) (ps:List PV) (cs:List Value):Prop where
 len:cs.length=ps.length
 rel:∀(i:Nat) (c:PV),ps[i]? =some c->RelP W (uAll W) c (cs.getD i undef)
theorem Z3a{W:World}{p:PV}{v:Value}(h:RelP W (uAll W) p v):RelC W [p] [v]:=⟨rfl,fun i c hi=>by
 cases i with
 | zero=>simp at hi;subst hi;exact h
 | succ i=>simp at hi⟩
theorem wSb{W:World}{p1 p2:List PV}{cs:List Value}{n:Nat}(hn:n=p1.length)(h1:RelC W p1 (cs.take n))(h2:RelC W p2 (cs.drop n)):RelC W (p1++p2) cs:=by
 subst hn;have l1:=h1.len;have l2:=h2.len;simp at l1 l2;refine ⟨by simp;omega,fun i c hi=>?_⟩;rcases jBq i p1.length with hlt | hge
 .rw[jAs hlt]at hi;have:=h1.rel i c hi;simpa[jAv,List.getElem?_take,hlt]using this
 rw[jAq hge]at hi;have:=h2.rel _ c hi;simp only[jAv,jBo]at this ⊢
 rwa [show p1.length+(i - p1.length)=i by omega]at this
structure Zla (P:Program) (t:TypeId) {T:Type} (n:Nat) (pc:T->List PV) (ok:T->Prop) (bk:T->Nat):Prop where
 cells:P.cellsOf t=n
 len:∀x,(pc x).length=n
 op:∀{H:Type} {enc:TypeId × Value->H} {W:World} {fuel:Nat} {cs:List Value} {d:DataW H × List MemPlace},DataW.trod enc P W 0 (fun _=>true) true fuel t cs=some d->
  ∃x:T,RelC W (pc x) cs/\ok x/\bk x<=Rows.uptoBulk d.1
def ok64(n:Int):Prop:= -9223372036854775808<=n/\n<=9223372036854775807
def QGa(s:Str):Prop:=s.length<=maxLen
def okL{T:Type}(ok:T->Prop)(l:List T):Prop:=l.length<=maxLen/\∀x∈l,ok x
def bkL{T:Type}(bk:T->Nat):List T->Nat
 | []=>1
 | x::r=>bk x+bkL bk r
variable {P:Program} {t e:TypeId}
theorem opens_I(ht:P.underlying t=some (.int .i64))(hc:P.cellsOf t=1):Zla P t 1 cI ok64 (fun _=>1):=⟨hc,fun _=>rfl,fun h=>by
 obtain ⟨n,rfl,rfl,hw⟩:=DataW.trod_int ht h;refine ⟨n,Z3a (.b rfl),?_,by simp[Rows.uptoBulk]⟩;unfold ok64;simpa[Lit.wf,IntKind.min,IntKind.max,IntKind.signed,IntKind.bits]using hw⟩
theorem opens_U(ht:P.underlying t=some (.int .u8))(hc:P.cellsOf t=1):Zla P t 1 cU (fun _=>True) (fun _=>1):=⟨hc,fun _=>rfl,fun {H enc W fuel cs d} h=>by
 obtain ⟨n,rfl,rfl,hw⟩:=DataW.trod_int ht h;have hw:0<=n/\n<=255:=by simpa[Lit.wf,IntKind.min,IntKind.max,IntKind.signed,IntKind.bits]using hw
 refine ⟨UInt8.ofNat n.toNat,Z3a ?_,trivial,by simp[Rows.uptoBulk]⟩;have:((UInt8.ofNat n.toNat).toNat:Int)=n:=by
  rw[jCf];omega
 show RelP W (uAll W) (.b (.int .u8 _)) _;rw[this];exact .b rfl⟩
theorem opens_B(ht:P.underlying t=some .bool)(hc:P.cellsOf t=1):Zla P t 1 cB (fun _=>True) (fun _=>1):=⟨hc,fun _=>rfl,fun h=>by
 obtain ⟨n,rfl,rfl⟩:=DataW.trod_bool ht h;exact ⟨n,Z3a (.b rfl),trivial,by simp[Rows.uptoBulk]⟩⟩
theorem opens_S(ht:P.underlying t=some .string)(hc:P.cellsOf t=1):Zla P t 1 cS QGa (fun s=>s.length+1):=⟨hc,fun _=>rfl,fun {H enc W fuel cs d} h=>by
 obtain ⟨s,rfl,rfl,hw⟩:=DataW.trod_string ht h;refine ⟨s.data.toList,Z3a ?_,?_,?_⟩
 .have:strB s.data.toList=s:=by cases s;simp[strB]
  show RelP W (uAll W) (.b (.string (strB s.data.toList))) _;rw[this];exact .b rfl
 .show s.data.toList.length<=maxLen;have:s.data.toList.length=s.size:=by cases s;rfl
  omega
 simp[Rows.uptoBulk]⟩
theorem bkL_map{T:Type}{H:Type}{bk:T->Nat}(n:Nat)(X:Nat->T)(D:Nat->DataW H)(h:∀i,i < n->bk (X i)<=Rows.uptoBulk (D i)):bkL bk ((List.range n).map X)<=Rows.uptoBulkAll ((List.range n).map D)+1:=by
 suffices h' :∀l:List Nat,(∀i∈l,i < n)->bkL bk (l.map X)<=Rows.uptoBulkAll (l.map D)+1 from h' _ (fun i hi=>jEj.1 hi)
 intro l;induction l with
 | nil=>intro _;simp[bkL]
 | cons i l ih=>
  intro hl;have h1:=h i (hl i (jDt ..));have h2:=ih fun j hj=>hl j (jDo _ hj)
  simp only[jCh,bkL,Rows.uptoBulkAll];omega
theorem kzb{T:Type}[Inhabited T]{n:Nat}{pc:T->List PV}{ok:T->Prop}{bk:T->Nat}(h:Zla P e n pc ok bk)(hn:Nat.blt 0 n=true)(ht:P.underlying t=some (.slice e))(hc:P.cellsOf t=1):Zla P t 1 (cL pc) (okL ok) (bkL bk):=⟨hc,fun _=>rfl,fun {H enc W fuel cs d} hd=>by
 have hn:0 < n:=jAf hn;rcases Go.Deep.open_slice ht hd with ⟨rfl,rfl⟩ | ⟨a,len,cap,m,n',D,Pl,rfl,hb,hl,hm,hmm,rfl,hx⟩
 .refine ⟨[],Z3a (RelP.sl (a:=none) (cap:=0) 1 0 0 (fun _=>undef) (fun x hx=>by cases hx) (fun _=>⟨rfl,rfl⟩) (by simp) (by simp) (by simp) (by simp) (fun i hi=>by simp at hi) (fun i j e c hi=>by simp at hi)),⟨jDd _,by simp⟩,by simp[bkL,Rows.uptoBulk]⟩
 simp only[if_true]at hmm;subst hmm;obtain ⟨X,hX⟩:=Go.Deep.choose_lt (n:=len) (p:=fun i (x:T)=>∃cs',W.cells? 0 (a.add (i * P.cellsOf e)) (P.cellsOf e)=some cs' /\RelC W (pc x) cs' /\ok x/\bk x<=Rows.uptoBulk (D i)) (fun i hi=>by
  obtain ⟨cs',h1,h2⟩:=hx i (by omega);obtain ⟨x,h3,h4,h5⟩:=h.op h2;exact ⟨x,cs',h1,h3,h4,h5⟩)
 rw[h.cells]at hX;have hcell:∀i j,i < len->j < n->∃v,W.cell? (a.add (i * n+j))=some v/\∀c,(pc (X i))[j]? =some c->RelP W (uAll W) c v:=by
  intro i j hi hj;obtain ⟨cs',h1,h2,_⟩:=hX i hi;obtain ⟨_,hlen,hget⟩:=World.cells?_some h1;have hj' :=hget j hj;have hadd:(a.add (i * n)).add j=a.add (i * n+j):=by
   unfold Addr.add;by_cases h0:j=0
   .simp[h0]
   by_cases h00:i * n=0
   .simp[h0,h00]
   rw[if_neg h0,if_neg h00,if_neg (by omega)];simp[jDk]
  rw[hadd]at hj';have hlt:j < cs'.length:=by omega
  refine ⟨cs'[j],by rw[hj'];exact jAj hlt,fun c hc' =>?_⟩;have:=h2.rel j c hc';simpa[jAv,jAj hlt]using this
 by_cases h0:len=0
 .subst h0;refine ⟨[],Z3a (RelP.sl (elems:=[]) (a:=some a) (cap:=m) 1 0 0 (fun _=>undef) (fun x hx=>by cases hx) (fun hx=>by cases hx) (by simp) (by simp) (by simp) (by simp) (fun i hi=>by simp at hi) (fun i j e c hi=>by simp at hi)),⟨jDd _,by simp⟩,by simp[bkL,Rows.uptoBulk]⟩
 obtain ⟨b,off,spot⟩:=a;have hspot:spot=none:=by
  obtain ⟨v,hv,_⟩:=hcell 0 0 (by omega) hn;simpa[Addr.add]using World.cell?_spot hv
 subst hspot;have hadd:∀i,(⟨b,off,none⟩:Addr).add i=⟨b,off+i,none⟩:=by
  intro i;unfold Addr.add;by_cases h0:i=0
  .simp[h0]
  simp[h0]
 simp only[hadd]at hcell;have hdm:∀i j,j < n->(i * n+j) / n=i/\(i * n+j) % n=j:=by
  intro i j hj;rw[jEd,Nat.mul_add_div hn,Nat.mul_add_mod];exact ⟨by rw[Nat.div_eq_of_lt hj];rfl,jDy hj⟩
 have hcv:∀k,k < len * n->∃v,W.cell? ⟨b,off+k,none⟩=some v/\∀c,(pc (X (k / n)))[k % n]? =some c->RelP W (uAll W) c v:=by
  intro k hk;have h1:k / n < len:=Nat.div_lt_of_lt_mul (by rw[jEd];exact hk);have h2:k % n < n:=Nat.mod_lt _ hn;have:=hcell (k / n) (k % n) h1 h2
  rwa [show k / n * n+k % n=k by rw[jEd];exact Nat.div_add_mod k n]at this
 obtain ⟨V,hV⟩:=Go.Deep.choose_lt (α:=Value) hcv;refine ⟨(List.range len).map X,?_,⟨by simp;omega,?_⟩,?_⟩
 .have key:RelP W (uAll W) (.sl none (((List.range len).map X).map pc)) (.slice (some ⟨b,off,none⟩) (((List.range len).map X).map pc).length m):=by
   refine .sl n b off V (fun x hx=>by cases hx) (fun hx=>by cases hx) (by simpa using hl) (fun e he=>?_) (fun _=>rfl) (fun _=>?_) (fun i hi=>?_) (fun i j e' c hi hj=>?_)
   .simp only[jEe,jCd]at he;obtain ⟨i,_,rfl⟩:=he;exact h.len _
   .simp only[jBd,List.length_range];have hpos:0 < len * n:=Nat.mul_pos (by omega) hn;obtain ⟨hv,_⟩:=hV (len * n - 1) (by omega);obtain ⟨h1,h2⟩:=KUb hv;exact ⟨by omega,h2⟩
   .exact (hV i (by simpa using hi)).1
   simp only[jAk,jEe]at hi;rw[jAg]at hi;obtain ⟨i',hi',rfl⟩:=hi;obtain ⟨hlt,rfl⟩:=jAd.1 hi';simp only[List.length_range]at hlt;simp only[List.getElem_range,Function.comp]at hj;have hjn:j < n:=by have:=(jAd.1 hj).1;rw[h.len]at this;exact this
   have hk:i * n+j < len * n:=by
    have:=jAy n (show i+1<=len from hlt);rw[jBg]at this;omega
   have:=(hV _ hk).2 c;rw[(hdm i j hjn).1,(hdm i j hjn).2]at this;exact this hj
  have hl' :(((List.range len).map X).map pc).length=len:=by simp
  rw[hl']at key;exact Z3a key
 .intro x hx;simp only[jCd,jEj]at hx;obtain ⟨i,hi,rfl⟩:=hx;obtain ⟨_,_,_,h4,_⟩:=hX i hi;exact h4
 have:=bkL_map len X D (fun i hi=>by obtain ⟨_,_,_,_,h5⟩:=hX i hi;exact h5);simp only[Rows.uptoBulk];omega⟩
theorem kAb{T:Type}{pc:T->List PV}{ok:T->Prop}{bk:T->Nat}(h:Zla P t 1 pc ok bk){H:Type}{enc:TypeId × Value->H}{W:World}{v:Value}{d:DataW H}{ps:List MemPlace}(hv:cellV v=true)(hd:DataW.Trod enc P W 0 (fun _=>true) true t v d ps):
 ∃x,(∀p,pc x=[p]->Rel (gAll W) (.pv p) v)/\ok x/\bk x<=Rows.uptoBulk d:=by
 obtain ⟨fuel,hf⟩:=hd;obtain ⟨x,h1,h2,h3⟩:=h.op hf;refine ⟨x,fun p hp=>.pv ?_,h2,h3⟩;have hcs:v.cells.toList=[v]:=by cases v <;> first | rfl | cases hv
 rw[hcs,hp]at h1;have:=h1.rel 0 p rfl;exact this
theorem arg_agg{T:Type}{n:Nat}{pc:T->List PV}{ok:T->Prop}{bk:T->Nat}(h:Zla P t n pc ok bk){H:Type}{enc:TypeId × Value->H}{W:World}{v:Value}{d:DataW H}{ps:List MemPlace}(hv:∃cs,v=.agg cs)(hd:DataW.Trod enc P W 0 (fun _=>true) true t v d ps):
 ∃x,Rel (gAll W) (.agg ((pc x).map .pv)) v/\ok x/\bk x<=Rows.uptoBulk d:=by
 obtain ⟨cs,rfl⟩:=hv;obtain ⟨fuel,hf⟩:=hd;obtain ⟨x,h1,h2,h3⟩:=h.op hf;refine ⟨x,?_,h2,h3⟩;have hl:=h1.len;simp only[Value.cells,jCl]at hl;have hr:∀(i:Nat) (c:PV),(pc x)[i]? =some c->RelP W (uAll W) c (cs.getD i undef):=fun i c hi=>by
  have:=h1.rel i c hi;simpa[Value.cells,jAv,jAe]using this
 refine .agg (by simpa using hl) (fun i hi=>?_) (fun i c hi=>?_)
 .have hlt:i < (pc x).length:=by omega
  exact (hr i _ (jAj hlt)).cellV
 simp only[jAk,jAg]at hi;obtain ⟨c',hc,rfl⟩:=hi;exact .pv (hr i c' hc)
theorem qXb{f:FuncId}{args:List AV}(h:Run P f args (.pv (pB true))){W:World}{vs:Array Value}(hgl:Gl (gAll W))(ha:jra (gAll W) args vs):Calls P f vs W fun e W' =>e=.returned (.bool true)/\Below W.heap.size W W' :=by
 refine callsIn_wide.1 ((h.run (gAll W) vs (wf_all W) hgl ha).mono ?_);rintro e w' ⟨g',v,rfl,hl,ho,hw,rfl,hv⟩;refine ⟨by rw[VAa hv],⟨ho.os,ho.tape,ho.output,ho.ext.size,fun k hk=>(ho.block k hk (by simp)).1⟩⟩
theorem w0a{W:World}{p1 p2:List PV}{cs:List Value}{off n:Nat}(hn:n=p1.length)(h1:RelC W p1 ((cs.drop off).take n))(h2:RelC W p2 (cs.drop (off+n))):RelC W (p1++p2) (cs.drop off):=wSb hn h1 (by rw[List.drop_drop];exact h2)
theorem VMa{W:World}{cs:List Value}{k:Nat}(h:cs.length=k):RelC W [] (cs.drop k):=⟨by simp[h],fun i c hi=>by simp at hi⟩
inductive RelL (g:G):List AV->List Value->Prop
 | nil:RelL g [] []
 | cons {c:AV} {v:Value} {cs:List AV} {vs:List Value} (h:Rel g c v) (r:RelL g cs vs):RelL g (c::cs) (v::vs)
theorem Zgb{g:G}{cs:List AV}{vs:List Value}(h:RelL g cs vs):jra g cs vs.toArray:=by
 have key:vs.length=cs.length/\∀(i:Nat) (c:AV),cs[i]? =some c->Rel g c (vs.getD i undef):=by
  induction h with
  | nil=>exact ⟨rfl,fun i c hi=>by simp at hi⟩
  | cons h _ ih=>
   refine ⟨by simp[ih.1],fun i c hi=>?_⟩;cases i with
   | zero=>simp at hi;subst hi;exact h
   | succ i=>exact ih.2 i c (by simpa using hi)
 exact ⟨by simpa using key.1,fun i c hi=>by have:=key.2 i c hi;simpa[jAv]using this⟩
end
section
def Blk(w:World)(b:Nat)(t:TypeId)(cs:Array Value):Prop:=w.heap[b]? =some (.cells cs t (0,0))
theorem Blk.lt{w:World}{b:Nat}{t:TypeId}{cs:Array Value}(h:Blk w b t cs):b < w.heap.size:=by
 rcases jBq b w.heap.size with hlt | hge
 .exact hlt
 unfold Blk at h;rw[jDh hge]at h;cases h
theorem Blk.two{w:World}{b:Nat}{t:TypeId}{x y:Value}(h:Blk w b t #[x,y]):
 w.cell? ⟨b,0,none⟩=some x/\w.cell? ⟨b,1,none⟩=some y/\w.frozen? ⟨b,0,none⟩=false/\w.frozen? ⟨b,1,none⟩=false/\b < w.heap.size:=by
 refine ⟨?_,?_,?_,?_,h.lt⟩ <;> unfold Blk at h <;> simp[World.cell?,World.frozen?,h]
theorem Blk.new(w:World)(t:TypeId)(cs:Array Value):Blk (w.alloc (.cells cs t)) w.heap.size t cs:=heap_alloc_new w _
theorem Blk.alloc{w:World}{b:Nat}{t:TypeId}{cs:Array Value}(h:Blk w b t cs)(o:Obj):Blk (w.alloc o) b t cs:=(Below.heap_alloc w o b h.lt).trans h
section
variable {w1 w2:World} {b t:Nat} {cs:Array Value} {o:Obj}
end
end
section
open Go.ChangeShapes Go.WideShapes Go.ChangeAt Go.RowKit Go.Proofs.Tryz
open Go.ChangeMaps (open_string shut_string)
theorem own:ownKnob prog.godebug=none:=by kernel_rfl
theorem laidOut:laidOutB prog=true:=by kernel_rfl
theorem VNa{H:Type}{enc:TypeId × Value->H}{P:Program}(hl:laidOutB P=true){W W' :World}(hb:Below W.heap.size W W'):
 ∀(ts:List TypeId) (vs:List Value) (ds:List (DataW H)) (ps:List MemPlace),(ts.all fun t=>P.readableRec t && decide (t < P.types.size))=true->
  DataW.TrodAll enc P W 0 (fun _=>true) true ts vs ds ps->DataW.TrodAll enc P W' 0 (fun b=>decide (b < W.heap.size)) true ts vs ds ps
 | [],[],[],_,_,h=>h
 | t::ts,v::vs,d::ds,ps,hts,⟨p,q,h,hs,e⟩=>by
  simp only[List.all_cons,jAh,decide_eq_true_eq]at hts;have lt:∀x∈p,x.block < W.heap.size:=by obtain ⟨m,hm⟩:=h;exact DataW.trod_lt m _ _ _ hm
  exact ⟨p,q,Below.trod hl hts.1.1 hts.1.2 h hb lt,VNa hl hb ts vs ds q hts.2 hs,e⟩
theorem KVb{H:Type}{enc:TypeId × Value->H}{P:Program}{f:Func}{s:ChangeSpec}{t:TypeId}(hl:laidOutB P=true)(hres:f.resultTypes= #[t])(ht:P.underlying t=some .bool)
 (hts:(f.params.toList.all fun t=>P.readableRec t && decide (t < P.types.size))=true) {W W' :World} {args:Array Value} {ds gs:List (DataW H)} {before:List MemPlace} (hv:s.vars=[])
 (hspec:s.fn H (ds++gs)={results:=[.lit (.bool true)],args:=ds,vars:=[]})
 (hW:DataW.Whole enc P f.params.toList s.vars false W args.toList ds gs before) (hb:Below W.heap.size W W'):
 s.post enc P f false true false false W args (.bool true) W' :=by
 have hW' :=hW;obtain ⟨p,q,hA,hV,hbe,hfz,hnd⟩:=hW;refine ⟨ds,gs,before,[],p,[],hW',?_,?_,?_,?_,fun h=>by cases h⟩
 .rw[hspec,hres];exact trodAll_mk1 (shut_bool ht _)
 .rw[hspec];exact VNa hl hb _ _ _ _ hts hA
 .rw[hspec,hv];rfl
 have hq:q=[]:=by rw[hv]at hV;cases gs with
  | nil=>exact hV
  | cons g gs=>exact hV.elim
 refine World.keptBut_mono (fun p hp=>⟨hp,?_⟩) (hb.frame (· ∈before));rw[hbe,hq,jBj]at hp;exact .inr (.inl hp)
end
section
open Go.WideShapes
def jf0(P:Program)(f:FuncId)(fn:Func)(s:ChangeSpec)(c:OpenClaim):Bool:=c.wf (OpenSpec.ofChange s)
def jf1(P:Program)(f:FuncId)(fn:Func)(s:ChangeSpec)(c:OpenClaim):Bool:=laidOutB P
def jf2(P:Program)(f:FuncId)(fn:Func)(s:ChangeSpec)(c:OpenClaim):Bool:=mapsRowed P
def jf3(P:Program)(f:FuncId)(fn:Func)(s:ChangeSpec)(c:OpenClaim):Bool:=fn.params.all (P.readableRec ·)
def jf4(P:Program)(f:FuncId)(fn:Func)(s:ChangeSpec)(c:OpenClaim):Bool:=namedTie P c.named s.vars
def jf5(P:Program)(f:FuncId)(fn:Func)(s:ChangeSpec)(c:OpenClaim):Bool:=(c.stops==[])
def jf6(P:Program)(f:FuncId)(fn:Func)(s:ChangeSpec)(c:OpenClaim):Bool:=(P.stops==[])
def jf7(P:Program)(f:FuncId)(fn:Func)(s:ChangeSpec)(c:OpenClaim):Bool:=(c.knobs==[])
def jf8(P:Program)(f:FuncId)(fn:Func)(s:ChangeSpec)(c:OpenClaim):Bool:=(P.stopKnobs==[])
def jf9(P:Program)(f:FuncId)(fn:Func)(s:ChangeSpec)(c:OpenClaim):Bool:=(c.inPlace==P.inPlace f)
def jf10(P:Program)(f:FuncId)(fn:Func)(s:ChangeSpec)(c:OpenClaim):Bool:=(c.unfollowed==P.unfollowed f)
def jf11(P:Program)(f:FuncId)(fn:Func)(s:ChangeSpec)(c:OpenClaim):Bool:=(c.recurses==P.recurses f)
def jf12(P:Program)(f:FuncId)(fn:Func)(s:ChangeSpec)(c:OpenClaim):Bool:=(c.named==P.varsNamed f)
def jf13(P:Program)(f:FuncId)(fn:Func)(s:ChangeSpec)(c:OpenClaim):Bool:=(c.maps==(fn.params.toList++s.plain.varTypes P).any (P.mapsRec ·))
def jf14(P:Program)(f:FuncId)(fn:Func)(s:ChangeSpec)(c:OpenClaim):Bool:=(c.ifaces==(fn.params.toList++s.plain.varTypes P).any (P.ifacesRec ·))
def jf15(P:Program)(f:FuncId)(fn:Func)(s:ChangeSpec)(c:OpenClaim):Bool:=(c.mapsOut==P.mapsAmong fn.resultTypes.toList)
def jf16(P:Program)(f:FuncId)(fn:Func)(s:ChangeSpec)(c:OpenClaim):Bool:=(c.loops==(fn.params.toList++s.plain.varTypes P).any (P.loopsFrom ·))
def jf17(P:Program)(f:FuncId)(fn:Func)(s:ChangeSpec)(c:OpenClaim):Bool:=(c.wideKeys==(fn.params.toList++s.plain.varTypes P++fn.resultTypes.toList).any (P.wideKeysFrom ·))
def jf18(P:Program)(f:FuncId)(fn:Func)(s:ChangeSpec)(c:OpenClaim):Bool:=s.vars.all (P.varReadable ·)
def jf19(P:Program)(f:FuncId)(fn:Func)(s:ChangeSpec)(c:OpenClaim):Bool:=fn.resultTypes.all (fun t=>P.readableRec t && decide (t < P.types.size))
def jf20(P:Program)(f:FuncId)(fn:Func)(s:ChangeSpec)(c:OpenClaim):Bool:=(c.ifacesOut==fn.resultTypes.toList.any (P.ifacesRec ·))
def jf21(P:Program)(f:FuncId)(fn:Func)(s:ChangeSpec)(c:OpenClaim):Bool:=(c.loopsOut==fn.resultTypes.toList.any (P.loopsFrom ·))
def jf22(P:Program)(f:FuncId)(fn:Func)(s:ChangeSpec)(c:OpenClaim):Bool:=(c.plainKeys==P.plainKeys)
def jf23(P:Program)(f:FuncId)(fn:Func)(s:ChangeSpec)(c:OpenClaim):Bool:=c.shortTexts.isNone
def jf24(P:Program)(f:FuncId)(fn:Func)(s:ChangeSpec)(c:OpenClaim):Bool:=P.stopsHeard
def jf25(P:Program)(f:FuncId)(fn:Func)(s:ChangeSpec)(c:OpenClaim):Bool:=P.mayEnter
def jf26(P:Program)(f:FuncId)(fn:Func)(s:ChangeSpec)(c:OpenClaim):Bool:=(c.lifted==P.liftsFinal)
def jf27(P:Program)(f:FuncId)(fn:Func)(s:ChangeSpec)(c:OpenClaim):Bool:=(P.make==some c.make)
def jf28(P:Program)(f:FuncId)(fn:Func)(s:ChangeSpec)(c:OpenClaim):Bool:=(c.kinds==(if c.domain.isEmpty then [] else fn.params.toList.map fun t=>match P.underlying t with | some (.int k)=>some k | _=>none))
def jf29(P:Program)(f:FuncId)(fn:Func)(s:ChangeSpec)(c:OpenClaim):Bool:=(c.pinned==c.pinnedBy)
def jf30(P:Program)(f:FuncId)(fn:Func)(s:ChangeSpec)(c:OpenClaim):Bool:=(c.veiled==(fn.params.toList++s.plain.varTypes P++fn.resultTypes.toList).any (P.veiledRec ·))
def jf31(P:Program)(f:FuncId)(fn:Func)(s:ChangeSpec)(c:OpenClaim):Bool:=c.veiledFits P fn.params.toList (fn.params.toList++s.plain.varTypes P++fn.resultTypes.toList)
theorem KWb{P:Program}{f:FuncId}{fn:Func}{s:ChangeSpec}{c:OpenClaim}(h0:jf0 P f fn s c=true)(h1:jf1 P f fn s c=true)(h2:jf2 P f fn s c=true)(h3:jf3 P f fn s c=true)(h4:jf4 P f fn s c=true)(h5:jf5 P f fn s c=true)(h6:jf6 P f fn s c=true)(h7:jf7 P f fn s c=true)(h8:jf8 P f fn s c=true)(h9:jf9 P f fn s c=true)(h10:jf10 P f fn s c=true)(h11:jf11 P f fn s c=true)(h12:jf12 P f fn s c=true)(h13:jf13 P f fn s c=true)(h14:jf14 P f fn s c=true)(h15:jf15 P f fn s c=true)(h16:jf16 P f fn s c=true)(h17:jf17 P f fn s c=true)(h18:jf18 P f fn s c=true)(h19:jf19 P f fn s c=true)(h20:jf20 P f fn s c=true)(h21:jf21 P f fn s c=true)(h22:jf22 P f fn s c=true)(h23:jf23 P f fn s c=true)(h24:jf24 P f fn s c=true)(h25:jf25 P f fn s c=true)(h26:jf26 P f fn s c=true)(h27:jf27 P f fn s c=true)(h28:jf28 P f fn s c=true)(h29:jf29 P f fn s c=true)(h30:jf30 P f fn s c=true)(h31:jf31 P f fn s c=true):joinedFacts P f fn s c=true:=by
 unfold joinedFacts;simp only[jAh];exact ⟨⟨⟨⟨⟨⟨⟨⟨⟨⟨⟨⟨⟨⟨⟨⟨⟨⟨⟨⟨⟨⟨⟨⟨⟨⟨⟨⟨⟨⟨⟨h0,h1⟩,h2⟩,h3⟩,h4⟩,h5⟩,h6⟩,h7⟩,h8⟩,h9⟩,h10⟩,h11⟩,h12⟩,h13⟩,h14⟩,h15⟩,h16⟩,h17⟩,h18⟩,h19⟩,h20⟩,h21⟩,h22⟩,h23⟩,h24⟩,h25⟩,h26⟩,h27⟩,h28⟩,h29⟩,h30⟩,h31⟩
end
section
open Go.ChangeShapes Go.WideShapes Go.ChangeAt Go.RowKit Go.Proofs.Tryz
abbrev KXb (rest : List (String × DataW Unit)) : List (String × DataW Unit) := ("math/bits.deBruijn32tab", Rows.laid_math_bits_deBruijn32tab) :: ("math/bits.deBruijn64tab", Rows.laid_math_bits_deBruijn64tab) :: ("internal/strconv.uint64pow10", Rows.laid_internal_strconv_uint64pow10) :: rest
theorem Zhb{W:World}{rest:List (String × DataW Unit)}(h:W.ShapedOpen prog)(hn:((KXb rest).all fun x=>x.2.handleName?.isNone)=true)(hL:laidMetH prog (KXb rest) W)(hI:laidMet prog (KXb rest) W->∀k∈jTb,∃tp x t fz,W.heap[k]? =some (.cells #[.iface tp x] t fz)):Gl (gAll W):=by
 have hm:laidMet prog (KXb rest) W:=by
  have:=Go.MakeChecks.laidMetH_plain prog (KXb rest) W hn;rw[<-this];exact hL
 refine ⟨fun p hp=>?_,fun p hp=>?_,hI hm⟩
 .simp only[Kcb,jBh,List.not_mem_nil,or_false]at hp;subst hp;obtain ⟨m,hm⟩:=cell_of_shapedOpen_int (P:=prog) (g:=0) (t:=3) (zero:= #[.int .i64 0]) h (of_decide_eq_true (by kernel_rfl)) (by kernel_rfl) rfl (by kernel_rfl) (by kernel_rfl) underlying3;obtain ⟨h1,h2⟩:=KUb hm;exact ⟨h2,h1,m,hm⟩
 simp only[globK,jBh,List.not_mem_nil,or_false]at hp;subst hp;have hT := Lib.tabIs_of_head (P := prog) (W := W) (name := "internal/strconv.uint64pow10") (k := .u64) (zs := Lib.pow10Tab) (g := 1) (t := 235) (e := 201) (n := 20) (by kernel_rfl) (by kernel_rfl) (by kernel_rfl) (by kernel_rfl) (by kernel_rfl) (by kernel_rfl) hm.tail.tail
 have hn : prog.globalNamed "internal/strconv.uint64pow10" = some 1 := by kernel_rfl
 unfold Lib.TabIs World.var? at hT;rw[hn]at hT;simp only[jAc]at hT;show ∃t fz,W.heap[1]? =_;cases hh:W.heap[1]? with
 | none=>rw[hh]at hT;cases hT
 | some o=>
  rw[hh]at hT;cases o with
  | cells cs t fz=>simp only[Option.some.injEq]at hT;subst hT;exact ⟨t,fz,rfl⟩
  | _=>simp at hT
end
section
open Go.ChangeShapes Go.WideShapes Go.ChangeAt Go.RowKit Go.Proofs.Tryz
theorem KYb : "*" ++ "errors.errorString" = "*errors.errorString" := by decide
theorem errRow (u : TypeId) (h : prog.typeName? 3 u = some "*errors.errorString") : u = 302 :=
 typeName_ptr_named (nm := "errors.errorString") (by rw [KYb]; kernel_rfl) (by kernel_rfl) (by decide) u (by rw [KYb]; exact h)
theorem Zib {W : World} {rest : List (String × DataW Unit)} (h : laidMet prog (("strconv.ErrSyntax", Rows.laid_strconv_ErrSyntax) :: rest) W) : ∀ k ∈ jTb, ∃ tp x t fz, W.heap[k]? = some (.cells #[.iface tp x] t fz) := by
 intro k hk;simp only[jTb,jBh,List.not_mem_nil,or_false]at hk;subst hk;have hn : prog.globalNamed "strconv.ErrSyntax" = some 4 := by kernel_rfl
 obtain ⟨a, s, hv, _⟩ := laid_sentinel (P := prog) (ti := 210) (tp := 302) (te := 304) (ts := 9) (ms := #[("Error", 299)]) (f := ⟨"s", 9, 0, false, "", "errors", 0⟩) h hn (by kernel_rfl) (by kernel_rfl) errRow (by kernel_rfl) (by kernel_rfl) rfl rfl (by kernel_rfl) (by kernel_rfl) (by kernel_rfl)
 unfold World.var? at hv;rw[hn]at hv;simp only[jAc]at hv;cases hh:W.heap[4]? with
 | none=>rw[hh]at hv;cases hv
 | some o=>
  rw[hh]at hv;cases o with
  | cells cs t fz=>simp only[Option.some.injEq]at hv;subst hv;exact ⟨_,_,t,fz,rfl⟩
  | _=>simp at hv
end
section
theorem Sto.get_mem{σ:Sto}{o:Nat}{ob:AO}(h:σ.get o=some ob):(o,ob)∈σ:=by
 induction σ with
 | nil=>simp[Sto.get]at h
 | cons x s ih=>
  obtain ⟨k,a⟩:=x;rw[Sto.get_cons]at h;split at h
  .rename_i hk;cases h;subst hk;exact jDt
  exact jDo _ (ih h)
theorem Sto.get_append(s1 s2:Sto)(o:Nat):Sto.get (s1++s2) o=(Sto.get s1 o).or (Sto.get s2 o):=by
 induction s1 with
 | nil=>simp[Sto.get]
 | cons x s ih=>
  obtain ⟨k,a⟩:=x;rw[jBu,Sto.get_cons,Sto.get_cons,ih];split <;> rfl
theorem yTb{l:List Nat}{a:Nat}(h:l.contains a=true):a∈l:=by simpa using h
def AV.okS(rows:List Nat):AV->Bool
 | .pv _=>true
 | .hs r _=>rows.contains r
 | _=>false
def AO.okS(rows:List Nat):AO->Bool
 | .cells cs=>cs.all (AV.okS rows)
 | .row _ _ _ _=>true
 | .opq _ _ _=>true
 | _=>false
def Sto.okS(O:Nat)(rows:List Nat)(σ:Sto):Bool:=σ.all fun p=>(Nat.beq p.1 O || rows.contains p.1) && p.2.okS rows
theorem AV.okS_has{rows:List Nat}{c:AV}{k:Nat}(h:c.okS rows=true)(hk:c.has k=true):k∈rows:=by
 unfold AV.okS at h;split at h
 .simp[AV.has]at hk
 .have:=jAm hk;subst this;exact yTb h
 cases h
theorem AV.hasL_mem{k:Nat}{cs:List AV}(h:AV.hasL k cs=true):∃c∈cs,c.has k=true:=by
 induction cs with
 | nil=>simp[AV.hasL]at h
 | cons c cs ih=>
  unfold AV.hasL at h;simp only[jBs]at h;rcases h with h | h
  .exact ⟨c,jDt,h⟩
  obtain ⟨d,hd,h⟩:=ih h;exact ⟨d,jDo _ hd,h⟩
theorem AO.okS_has{rows:List Nat}{ob:AO}{k:Nat}(h:ob.okS rows=true)(hk:ob.has k=true):k∈rows:=by
 cases ob with
 | cells cs=>
  obtain ⟨c,hc,hck⟩:=AV.hasL_mem hk;exact AV.okS_has (jAw.1 h c hc) hck
 | row=>simp[AO.has]at hk
 | opq=>simp[AO.has]at hk
 | _=>cases h
theorem Sto.okS_get{O:Nat}{rows:List Nat}{σ:Sto}(h:σ.okS O rows=true){o:Nat}{ob:AO}(ho:σ.get o=some ob):(o=O∨o∈rows)/\ob.okS rows=true:=by
 have:=jAw.1 h _ (Sto.get_mem ho);simp only[jAh,jBs]at this;exact ⟨this.1.imp jAm yTb,this.2⟩
structure Own (g:G) (σ:Sto):Prop where
 obj:∀o ob,σ.get o=some ob->RelO g o ob
 apart:∀o o' ob ob' b,σ.get o=some ob->σ.get o' =some ob' ->ob.own (g.loc o) b->ob'.own (g.loc o') b->o=o'
 low:∀o ob b,σ.get o=some ob->ob.own (g.loc o) b->¬GlB b
def SB(g:G)(σ:Sto)(b:Nat):Prop:=∃o ob,σ.get o=some ob/\ob.own (g.loc o) b
structure RunS (P:Program) (f:FuncId) (args:List AV) (σ0:Sto) (r:AV) (σ1:Sto) (O:Nat) (rows:List Nat):Prop where
 ok:∃fn c,FnOk P f fn c
 ok0:σ0.okS O rows=true
 ok1:σ1.okS O rows=true
 run:∀g vs,Wf g->Gl g->Own g σ0->jra g args vs->CallsIn (fen none) 0 P f vs g.w fun e w' =>∃g' v,g'.w=w' /\(∀k,k ∉ rows->g'.loc k=g.loc k)/\Old (SB g σ0) g g' /\Wf g' /\e=.returned v/\Rel g' r v/\
  (∀o ob,σ1.get o=some ob->RelO g' o ob)/\(∀o o' ob ob' b,σ1.get o=some ob->σ1.get o' =some ob' ->ob.own (g'.loc o) b->ob'.own (g'.loc o') b->o=o')/\
  (∀o ob b,σ1.get o=some ob->ob.own (g'.loc o) b->g.w.heap.size<=b∨SB g σ0 b)
variable {P:Program} {σ:Sto} {dst:Option Tmp} {ty:TypeId} {pos:String} {af:Array Edge} {gu:Option (Nat × Bool)} {E:Env} {fr:Fr} {K:Post}
theorem Zjb{g g' :G}{o:Nat}{ob:AO}{rows:List Nat}(hk:ob.okS rows=true)(h:RelO g o ob)(hx:Ext0 g.w g.u g'.w g'.u)(hl:g'.loc o=g.loc o)(hh:∀k∈rows,g'.loc k=g.loc k)
 (hb:∀(b:Nat) (vs:Array Value) (t:TypeId) (fz:Nat × Nat),g.w.heap[b]? =some (Obj.cells vs t fz)->g'.w.heap[b]? =g.w.heap[b]?) (hu:g'.u=g.u):RelO g' o ob:=by
 cases h with
 | @cells cs b t vs h1 h2 h3 h4 h5 h6=>
  exact .cells (hl.trans h1) ((hb _ _ _ _ h2).trans h2) h3 (by rw[hu];exact h4) h5 fun i c hi=>(h6 i c hi).mono0 hx fun k hck=>hh k (AV.okS_has (jAw.1 hk c (jAi hi)) hck)
 | nil h1=>exact .nil (hl.trans h1)
 | @row e mu size elems b off cap vs h1 h2 h3 h3' h4 h5 h6 h7 h9=>
  exact .row (hl.trans h1) ((hb _ _ _ _ h2).trans h2) h3 h3' h4 h5 (by rw[hu];exact h6) (by rw[hu];exact h7) fun i j x c hi hj=>(h9 i j x c hi hj).mono0 hx
 | @opq t t1 n Q b vs h1 h2 h3 h4 h5=>exact .opq (hl.trans h1) ((hb _ _ _ _ h2).trans h2) h3 (by rw[hu];exact h4) fun w' u' hx' =>h5 w' u' (hx.trans hx')
 | _=>cases hk
def qYb(P:Program)(fn:Func)(r hc:AV)(H:Nat)(T:Array Value)(σ1:Sto):Post:=fun e fr σ=>(e=.ret∨e=.normal)/\(∃cs,ResL P fr σ fn.results.toList cs/\VDa cs=r)/\kSa σ ((H,.hold hc (T.getD 0 undef))::σ1)
theorem Zkb{fn:Func}{r hc:AV}{H:Nat}{T:Array Value}{σ1:Sto}:Mono (qYb P fn r hc H T σ1):=fun x fr σ fr' σ' hf hs ⟨h1,⟨cs,h2,h2'⟩,h3⟩=>⟨h1,⟨cs,h2.le hf hs,h2'⟩,qSa hs h3⟩
theorem qZb{f:FuncId}{fn:Func}{c:Code}(hok:FnOk P f fn c){args:List AV}{r hc:AV}{σ0 σ1:Sto}{O H:Nat}{rows:List Nat}(hN:Nat.ble args.length fn.ntmps=true)(hr:∀k,r.has k=true->k∈rows)
 (h0:(args[0]? =some hc/\∀(g g' :G) (v:Value) (ob:AO),(∀o ob,σ0.get o=some ob->RelO g o ob)->σ1.get O=some ob->RelO g' O ob->Rel g hc v->Rel g' hc v->g'.loc O=g.loc O)∨(hc=.any/\Sto.get σ1 O=none))
 (k0:σ0.okS O rows=true) (k1:σ1.okS O rows=true) (hH:Sto.get σ0 H=none) (hH1:Sto.get σ1 H=none)
 (h:∀g0 (hg:Gl g0) (S:Nat->Prop) (sg:∀k,GlB k->¬S k) (T:Array Value),AWP ⟨P,none,g0,fn.ntmps,false,hg,S,sg⟩ c (kYa 0 args) ((H,.hold hc (T.getD 0 undef))::σ0) (qYb P fn r hc H T σ1)):RunS P f args σ0 r σ1 O rows:=by
 refine ⟨⟨fn,c,hok⟩,k0,k1,fun g vs hw hgl hown ⟨hsz,ha⟩=>?_⟩;have hN:=jAf hN;have hget0:∀o ob,Sto.get ((H,AO.hold hc (vs.getD 0 undef))::σ0) o=some ob->(o=H/\ob=.hold hc (vs.getD 0 undef))∨(o≠H/\σ0.get o=some ob):=by
  intro o ob ho;rw[Sto.get_cons]at ho;split at ho
  .rename_i hk;cases ho;exact .inl ⟨hk.symm,rfl⟩
  rename_i hk;exact .inr ⟨Ne.symm hk,ho⟩
 refine callsIn_of_wp_marks hok.f hok.b trivial<|wpIn_mono ((h g hgl (SB g σ0) (fun k hk ⟨o,ob,h1,h2⟩=>hown.low o ob k h1 h2 hk) vs).go g _ ⟨fun d=>?_,by simp;omega,⟨Dok.nil _ _,fun _=>rfl⟩,⟨?_,?_,?_,Old.refl _ g,hw⟩⟩) ?_
 .rw[wXa];simp only[jDd,if_true,Nat.sub_zero];cases hc:args[d]? with
  | none=>exact .any _
  | some c=>
   have hlt:d < vs.size:=by rw[hsz];exact (jAd.1 hc).1
   have:=ha d c hc;rw[jAe,jBn hlt,<-jAe];exact this
 .intro o ob ho;rcases hget0 o ob ho with ⟨rfl,rfl⟩ | ⟨_,ho⟩
  .rcases h0 with ⟨h0,_⟩ | ⟨rfl,_⟩
   .exact .hold (ha 0 _ h0)
   exact .hold (.any _)
  exact hown.obj o ob ho
 .intro o o' ob ob' b h1 h2 h3 h4;rcases hget0 o ob h1 with ⟨rfl,rfl⟩ | ⟨_,h1⟩
  .cases h3
  rcases hget0 o' ob' h2 with ⟨rfl,rfl⟩ | ⟨_,h2⟩
  .cases h4
  exact hown.apart o o' ob ob' b h1 h2 h3 h4
 .intro o ob b h1 h2;rcases hget0 o ob h1 with ⟨rfl,rfl⟩ | ⟨_,h1⟩
  .cases h2
  exact .inr ⟨o,ob,h1,h2⟩
 rintro e a w' ⟨g',fr',σ',rfl,hst,he,⟨cs,hres,rfl⟩,hle⟩;obtain ⟨bs,hds,hnd,hbs⟩:=hst.df.ok;have hle1:∀o ob,σ1.get o=some ob->∃ob',σ'.get o=some ob' /\RelO g' o ob/\∀l,ob.own l=ob'.own l:=by
  intro o ob ho;have hne:o≠H:=by rintro rfl;rw[hH1]at ho;cases ho
  have hg:Sto.get ((H,AO.hold hc (vs.getD 0 undef))::σ1) o=some ob:=by rw[Sto.get_cons,if_neg (Ne.symm hne)];exact ho
  obtain ⟨ob',h1,h2⟩:=hle.some hg;exact ⟨ob',h1,hle.obj hst.so.obj o ob hg,fun l=>(h2 l).symm⟩
 have hO:(∃ob,σ1.get O=some ob)->g'.loc O=g.loc O:=by
  rintro ⟨ob,hob⟩;rcases h0 with ⟨h0,hloc⟩ | ⟨_,h0⟩
  case inr=>rw[h0]at hob;cases hob
  have hh:=hle H (.hold hc (vs.getD 0 undef)) (by rw[Sto.get_cons,if_pos rfl]);have hh:σ'.get H=some (.hold hc (vs.getD 0 undef)):=by
   rcases hh with hh | ⟨cs,_,hh⟩
   .exact hh
   cases hh
  have h1:=hst.so.obj H _ hh;obtain ⟨_,_,hro,_⟩:=hle1 O ob hob;cases h1 with
  | hold h1=>exact hloc g g' _ ob hown.obj hob hro (ha 0 _ h0) h1
 have key:∀w',Took g'.w bs w' ->∃v,(results fn a.tmps).run P w' =.ok v w' /\∃g'' v',g''.w=w' /\(∀k,k ∉ rows->g''.loc k=g.loc k)/\Old (SB g σ0) g g'' /\Wf g'' /\Ending.returned v=.returned v' /\Rel g'' (VDa cs) v' /\
  (∀o ob,σ1.get o=some ob->RelO g'' o ob)/\(∀o o' ob ob' b,σ1.get o=some ob->σ1.get o' =some ob' ->ob.own (g''.loc o) b->ob'.own (g''.loc o') b->o=o')/\
  (∀o ob b,σ1.get o=some ob->ob.own (g''.loc o) b->g.w.heap.size<=b∨SB g σ0 b):=by
  intro w' ht;have hcellb:∀(k:Nat) (vs:Array Value) (t:TypeId) (fz:Nat × Nat),g'.w.heap[k]? =some (Obj.cells vs t fz)->w'.heap[k]? =g'.w.heap[k]? :=by
   intro k vs t fz hk;refine ht.block k fun hx=>?_
   rw[(hbs k hx).2]at hk;cases hk
  have hx0:Ext0 g'.w g'.u w' g'.u:=⟨jCi ht.size.symm,fun _ _=>jAn _,fun k i hk hi=>by
   by_cases hkb:k∈bs
   .simp[World.cell?,(hbs k hkb).2,ht.took k hkb]
   simp only[World.cell?];rw[ht.block k hkb]⟩
  obtain ⟨v,h1,h2⟩:=ZWa (P:=P) (g:=⟨w',g'.u,g'.loc⟩) hres (fun d=>(hst.fr d).mono0 hx0 (fun _ _=>rfl)) (fun k cs' hk=>by
   cases hst.so.obj k _ hk with
   | cells q1 q2 q3 q4 q5 q6=>exact .cells q1 ((hcellb _ _ _ _ q2).trans q2) q3 q4 q5 fun i c hi=>(q6 i c hi).mono0 hx0 (fun _ _=>rfl))
  have hloc:∀o ob,σ1.get o=some ob->(if o∈rows then g'.loc o else g.loc o)=g'.loc o:=by
   intro o ob ho;rcases (Sto.okS_get k1 ho).1 with rfl | hin
   .split
    .rfl
    exact (hO ⟨ob,ho⟩).symm
   rw[if_pos hin]
  refine ⟨v,h1,⟨w',g'.u,fun k=>if k∈rows then g'.loc k else g.loc k⟩,v,rfl,fun k hk=>if_neg hk,⟨ht.os.trans hst.so.old.os,ht.tape.trans hst.so.old.tape,ht.output.trans hst.so.old.output,⟨by rw[ht.size];exact hst.so.old.ext.size,hst.so.old.ext.pub,fun k i hk hi=>?_,fun r' hr' =>?_⟩,fun k hk hs=>?_⟩,fun k hk=>hst.so.wf k (by rw[<-ht.size];exact hk),rfl,
   Rel.mono (g:=⟨w',g'.u,g'.loc⟩) (g' :=⟨w',g'.u,fun k=>if k∈rows then g'.loc k else g.loc k⟩) (Ext.refl w' g'.u) h2 (fun k hk=>if_pos (hr k hk)),?_,?_,?_⟩
  .have hkb:k ∉ bs:=fun hx=>by have:g.w.heap.size<=k:=(hbs k hx).1;omega
   simp only[World.cell?];rw[ht.block k hkb];exact hst.so.old.ext.cell k i hk hi
  .have hkb:r' ∉ bs:=fun hx=>by have:g.w.heap.size<=r' :=(hbs r' hx).1;have:=zUa hr';omega
   rw[ht.block r' hkb];exact hst.so.old.ext.df r' hr'
  .have hkb:k ∉ bs:=fun hx=>by have:g.w.heap.size<=k:=(hbs k hx).1;omega
   rw[ht.block k hkb];exact hst.so.old.block k hk hs
  .intro o ob ho;obtain ⟨_,_,hro,_⟩:=hle1 o ob ho;exact Zjb (g:=g') (g' :=⟨w',g'.u,fun k=>if k∈rows then g'.loc k else g.loc k⟩) (Sto.okS_get k1 ho).2 hro hx0 (hloc o ob ho) (fun k hk=>if_pos hk) hcellb rfl
  .intro o o' ob ob' b q1 q2 q3 q4;simp only[hloc o ob q1]at q3;simp only[hloc o' ob' q2]at q4;obtain ⟨_,p1,_,e1⟩:=hle1 o ob q1;obtain ⟨_,p2,_,e2⟩:=hle1 o' ob' q2;rw[e1]at q3;rw[e2]at q4;exact hst.so.apart o o' _ _ b p1 p2 q3 q4
  intro o ob b q1 q2;simp only[hloc o ob q1]at q2;obtain ⟨_,p1,_,e1⟩:=hle1 o ob q1;rw[e1]at q2;exact hst.so.mine o _ b p1 q2
 rcases he with rfl | rfl
 .show LeavesInM _ _ _ _ _ _ _ _ _;rw[hds];exact vVa bs g'.w hnd (fun r' hr' =>(hbs r' hr').2) key
 show LeavesInM _ _ _ _ _ _ _ _ _;rw[hds];exact vVa bs g'.w hnd (fun r' hr' =>(hbs r' hr').2) key
theorem wTb{f:FuncId}{fn:Func}{c:Code}(hok:FnOk P f fn c){args:List AV}{r hc:AV}{σ0 σ1:Sto}{O H:Nat}{rows:List Nat}(hN:Nat.ble args.length fn.ntmps=true)(hr:∀k,r.has k=true->k∈rows)(h0:(hc=.ptr O 0/\args[0]? =some (.ptr O 0))∨(hc=.any/\Sto.get σ1 O=none))
 (k0:σ0.okS O rows=true) (k1:σ1.okS O rows=true) (hH:Sto.get σ0 H=none) (hH1:Sto.get σ1 H=none)
 (h:∀g0 (hg:Gl g0) (S:Nat->Prop) (sg:∀k,GlB k->¬S k) (T:Array Value),AWP ⟨P,none,g0,fn.ntmps,false,hg,S,sg⟩ c (kYa 0 args) ((H,.hold hc (T.getD 0 undef))::σ0) (qYb P fn r hc H T σ1)):RunS P f args σ0 r σ1 O rows:=
 qZb hok hN hr (h0.imp (fun ⟨e,h⟩=>⟨e▸h,fun g g' v ob _ _ _ h1 h2=>by
  subst e;cases h1 with
  | ptr q1=>cases h2 with
   | ptr q2=>exact q2.trans q1.symm⟩) id) k0 k1 hH hH1 h
def Sto.dels(ids:List Nat):Sto->Sto
 | []=>[]
 | (k,a)::l=>bif ids.contains k then Sto.dels ids l else (k,a)::Sto.dels ids l
theorem Sto.get_dels(ids:List Nat)(σ:Sto)(o:Nat):(σ.dels ids).get o=if o∈ids then none else σ.get o:=by
 induction σ with
 | nil=>simp[Sto.dels,Sto.get]
 | cons x l ih=>
  obtain ⟨k,a⟩:=x;unfold Sto.dels;cases hc:ids.contains k with
  | true=>
   have hk:k∈ids:=by simpa using hc
   rw[cond_true,ih,Sto.get_cons];by_cases ho:o∈ids
   .rw[if_pos ho,if_pos ho]
   rw[if_neg ho,if_neg ho,if_neg (by rintro rfl;exact ho hk)]
  | false=>
   have hk:k ∉ ids:=by simpa using hc
   rw[cond_false,Sto.get_cons,Sto.get_cons,ih];by_cases ho:k=o
   .subst ho;simp[hk]
   rw[if_neg ho,if_neg ho]
def AV.clrs(rows:List Nat)(c:AV):AV:=bif rows.any (fun r=>c.has r) then .any else c
def Fr.clrs(rows:List Nat):Fr->Fr
 | []=>[]
 | (k,a)::l=>(k,a.clrs rows)::Fr.clrs rows l
def AO.clrs(rows:List Nat):AO->AO
 | .cells cs=>.cells (cs.map (AV.clrs rows))
 | .hold c v=>.hold (c.clrs rows) v
 | o=>o
def Sto.clrs(rows:List Nat):Sto->Sto
 | []=>[]
 | (k,a)::l=>(k,a.clrs rows)::Sto.clrs rows l
theorem Fr.get_clrs(rows:List Nat)(fr:Fr)(d:Nat):(fr.clrs rows).get d=(fr.get d).clrs rows:=by
 induction fr with
 | nil=>unfold Fr.clrs Fr.get AV.clrs;cases rows.any (fun r=>AV.has r AV.any) <;> rfl
 | cons x l ih=>
  obtain ⟨k,a⟩:=x;simp only[Fr.clrs,Fr.get_cons,ih];split <;> rfl
theorem Sto.get_clrs(rows:List Nat)(σ:Sto)(o:Nat):(σ.clrs rows).get o=(σ.get o).map (AO.clrs rows):=by
 induction σ with
 | nil=>rfl
 | cons x l ih=>
  obtain ⟨k,a⟩:=x;simp only[Sto.clrs,Sto.get_cons,ih];split <;> rfl
theorem kBb{g g' :G}{rows:List Nat}(hx:Ext g.w g.u g'.w g'.u)(hl:∀k,k ∉ rows->g'.loc k=g.loc k){c:AV}{v:Value}(h:Rel g c v):Rel g' (c.clrs rows) v:=by
 unfold AV.clrs;cases hc:rows.any (fun r=>c.has r) with
 | true=>exact .any _
 | false=>exact h.mono hx fun k hk=>hl k fun hin=>jCj.1 hc k hin hk
theorem AO.own_clrs(rows:List Nat)(ob:AO)(l:Loc):(ob.clrs rows).own l=ob.own l:=by cases ob <;> rfl
theorem KZb{g g' :G}{o:Nat}{ob:AO}{rows:List Nat}(hro:RelO g o ob)(hx:Ext g.w g.u g'.w g'.u)(hl:∀k,k ∉ rows->g'.loc k=g.loc k)(ho:o ∉ rows)
 (hb:∀b,ob.own (g.loc o) b->g'.w.heap[b]? =g.w.heap[b]? /\g'.u b=g.u b):RelO g' o (ob.clrs rows):=by
 cases hro with
 | @cells cs b t vs h1 h2 h3 h4 h5 h6=>
  obtain ⟨b1,b2⟩:=hb b (by rw[h1];rfl);refine .cells ((hl o ho).trans h1) (b1.trans h2) (by simpa using h3) (b2.trans h4) h5 fun i c hi=>?_
  simp only[jAk,jAg]at hi;obtain ⟨c',hc',rfl⟩:=hi;exact kBb hx hl (h6 i c' hc')
 | nil h1=>exact .nil ((hl o ho).trans h1)
 | @row e mu size elems b off cap vs h1 h2 h3 h3' h4 h5 h6 h7 h9=>
  obtain ⟨b1,b2⟩:=hb b (by rw[h1];rfl);exact .row ((hl o ho).trans h1) (b1.trans h2) h3 h3' h4 h5 (by rw[b2];exact h6) (by rw[b2];exact h7) fun i j x c hi hj=>(h9 i j x c hi hj).mono hx
 | hold h1=>exact .hold (kBb hx hl h1)
 | sus h1=>exact .sus (h1.mono hx)
 | @lp L b h1 h2=>
  obtain ⟨b1,b2⟩:=hb b (by rw[h1];rfl);exact .lp ((hl o ho).trans h1) (b1.trans h2)
 | @it s pos b h1 h2 h3=>
  obtain ⟨b1,b2⟩:=hb b (by rw[h1];rfl);exact .it ((hl o ho).trans h1) (b1.trans h2) (b2.trans h3)
 | @buf l e b cap vs h1 h2 h3 h4 h5 h6=>
  obtain ⟨b1,b2⟩:=hb b (by rw[h1];rfl);exact .buf ((hl o ho).trans h1) (b1.trans h2) h3 h4 (b2.trans h5) h6
 | @mapo ag es b clock ents h1 h2 h3 h4 h5=>
  obtain ⟨b1,b2⟩:=hb b (by rw[h1];rfl);exact .mapo ((hl o ho).trans h1) (b1.trans h2) (b2.trans h3) h4 fun i k c hi=>by
   obtain ⟨x,e1,e2,e3⟩:=h5 i k c hi;exact ⟨x,e1,e2,e3.mono hx⟩
 | @opq t t1 n Q b vs h1 h2 h3 h4 h5=>
  obtain ⟨b1,b2⟩:=hb b (by rw[h1];rfl);exact .opq ((hl o ho).trans h1) (b1.trans h2) h3 (b2.trans h4) fun w' u' hx' =>h5 w' u' (hx.to0.trans hx')
 | nrowNil h1=>exact .nrowNil ((hl o ho).trans h1)
 | nrow h1 h2 h3 h4 h5 h6 h7 h8 h9 h10 h11 h12=>exact (RelO.nrow h1 h2 h3 h4 h5 h6 h7 h8 h9 h10 h11 h12).mono hx (hl o ho) (fun _ hk=>by cases hk) hb
 | mapr h1 h2 h3 h4 h5 h6 h7=>exact (RelO.mapr h1 h2 h3 h4 h5 h6 h7).mono hx (hl o ho) (fun _ hk=>by cases hk) hb
theorem gl_lt{g:G}(h:Gl g){k:Nat}(hk:GlB k):k < g.w.heap.size:=by
 rcases hk with ⟨p,hp,rfl⟩ | hk
 .obtain ⟨t,fz,h1⟩:=h.2.1 p hp;exact zUa h1
 obtain ⟨tp,x,t,fz,h1⟩:=h.2.2 k hk;exact zUa h1
theorem Qqa{f:FuncId}{k:Nat}{xs:List Operand}{ats:Array TypeId}{args:List AV}{r:AV}{σ0 σ1:Sto}{O:Nat}{rows:List Nat}(hr:RunS E.P f args σ0 r σ1 O rows)(hN:Nat.ble (k+1) E.N=true)(ha:xs.map (fun x=>(fr.ev x).weak)=args)(hle:kSa σ σ0):
 OpTo E ⟨some k,.call ⟨.value (.func f),xs.toArray,ats⟩,ty,pos,af,gu⟩ fr σ ((k,r)::fr.clrs rows) (σ1++(σ.dels (O::rows)).clrs rows):=
 ⟨fun g a K Q hst hK=>by
  obtain ⟨fn,c,hok⟩:=hr.ok;refine ⟨fun _ _=>trivial,?_⟩;rw[jBe _ _ _ (fun c=>by simp),yta hok (first:= #[]) (cap:= #[]) rfl,jEi];refine ⟨fun h=>by simp[fen]at h,?_⟩;have hargs:jra g args (#[]++xs.toArray.map a.eval++ #[]):=by
   subst ha;refine ⟨by simp,fun i c hi=>?_⟩;simp only[jAk,jAg]at hi;obtain ⟨x,hx,rfl⟩:=hi;have:=vNa (hst.ev x);simpa[hx]using this
  have hsb:∀b,SB g σ0 b->b < g.w.heap.size/\(E.g0.w.heap.size<=b∨E.S b):=by
   rintro b ⟨o,ob,h1,h2⟩;obtain ⟨ob',h3,h4⟩:=hle.some h1;rw[<-h4]at h2;exact ⟨(hst.so.obj o ob' h3).block_lt h2,hst.so.mine o ob' b h3 h2⟩
  have hown:Own g σ0:=⟨hle.obj hst.so.obj,fun o o' ob ob' b h1 h2 h3 h4=>by
   obtain ⟨_,p1,e1⟩:=hle.some h1;obtain ⟨_,p2,e2⟩:=hle.some h2;rw[<-e1]at h3;rw[<-e2]at h4;exact hst.so.apart o o' _ _ b p1 p2 h3 h4,fun o ob b h1 h2 hb=>by
   rcases (hsb b ⟨o,ob,h1,h2⟩).2 with h3 | h3
   .have:=gl_lt E.gl hb;omega
   exact E.sg b hb h3⟩
  refine (ysa (hr.run g _ hst.so.wf (E.glOf hst.so) hown hargs)).mono ?_;rintro e w' ⟨g',v,rfl,hl,ho,hw,rfl,hv,hobj,hap,hmine⟩;have hget:∀o ob,Sto.get (σ1++(σ.dels (O::rows)).clrs rows) o=some ob->σ1.get o=some ob∨(o ∉ O::rows/\∃ob1,σ.get o=some ob1/\ob=ob1.clrs rows):=by
   intro o ob hg;rw[Sto.get_append]at hg;cases h1:σ1.get o with
   | some ob1=>rw[h1]at hg;exact .inl (by simpa using hg)
   | none=>
    rw[h1,Option.none_or,Sto.get_clrs,Sto.get_dels]at hg;split at hg
    .cases hg
    rename_i hno;cases h2:σ.get o with
    | none=>rw[h2]at hg;cases hg
    | some ob1=>rw[h2]at hg;exact .inr ⟨hno,ob1,rfl,by simpa using hg.symm⟩
  have hout:∀o ob1 b,o ∉ O::rows->σ.get o=some ob1->ob1.own (g.loc o) b->¬SB g σ0 b:=by
   rintro o ob1 b hno ho1 hb ⟨o2,ob2,h2,hb2⟩;obtain ⟨ob3,h3,e3⟩:=hle.some h2;rw[<-e3]at hb2;have:=hst.so.apart o o2 _ _ b ho1 h3 hb hb2;subst this;rcases (Sto.okS_get hr.ok0 h2).1 with rfl | hin
   .exact hno jDt
   exact hno (jDo _ hin)
  have hnr:∀o,o ∉ O::rows->o ∉ rows:=fun o h hin=>h (jDo _ hin)
  have hst' :St E g' a (fr.clrs rows) (σ1++(σ.dels (O::rows)).clrs rows):=by
   refine ⟨fun d=>by rw[Fr.get_clrs];exact kBb ho.ext hl (hst.fr d),hst.n,hst.df.mono ho.ext,⟨?_,?_,?_,?_,hw⟩⟩
   .intro o ob hg;rcases hget o ob hg with h1 | ⟨hno,ob1,ho1,rfl⟩
    .exact hobj o ob h1
    have hro:=hst.so.obj o ob1 ho1;exact KZb hro ho.ext hl (hnr o hno) fun b hb=>ho.block b (hro.block_lt hb) (hout o ob1 b hno ho1 hb)
   .intro o o' ob ob' b h1 h2 h3 h4;rcases hget o ob h1 with h1 | ⟨hno,ob1,ho1,rfl⟩ <;> rcases hget o' ob' h2 with h2 | ⟨hno',ob1',ho1',rfl⟩
    .exact hap o o' ob ob' b h1 h2 h3 h4
    .exfalso;rw[AO.own_clrs,hl o' (hnr o' hno')]at h4;have hlt:=(hst.so.obj o' ob1' ho1').block_lt h4;rcases hmine o ob b h1 h3 with h5 | h5
     .omega
     exact hout o' ob1' b hno' ho1' h4 h5
    .exfalso;rw[AO.own_clrs,hl o (hnr o hno)]at h3;have hlt:=(hst.so.obj o ob1 ho1).block_lt h3;rcases hmine o' ob' b h2 h4 with h5 | h5
     .omega
     exact hout o ob1 b hno ho1 h3 h5
    rw[AO.own_clrs,hl o (hnr o hno)]at h3;rw[AO.own_clrs,hl o' (hnr o' hno')]at h4;exact hst.so.apart o o' ob1 ob1' b ho1 ho1' h3 h4
   .intro o ob b h1 h2;rcases hget o ob h1 with h1 | ⟨hno,ob1,ho1,rfl⟩
    .rcases hmine o ob b h1 h2 with h5 | h5
     .exact .inl (jBp hst.so.old.ext.size h5)
     exact (hsb b h5).2
    rw[AO.own_clrs,hl o (hnr o hno)]at h2;exact hst.so.mine o ob1 b ho1 h2
   refine hst.so.old.trans (ho.mono fun b _ hb=>?_);exact (hsb b hb).2.symm
  exact hK g' _ (hst'.put (jAf hN) hv)⟩
theorem YYa{ops:Array Oper}{ol:List Oper}(o:Nat)(h:AWPL E ops ol (fr.clr o) (σ.del o) K):AWPL E ops ol fr σ K:=
 ⟨fun g a hst=>h.go g a (hst.le (fun d=>by
  rw[Fr.get_clr];unfold AV.clr;cases (fr.get d).has o with
  | true=>exact .inl rfl
  | false=>exact .inr (.inl rfl)) fun o' ob ho=>.inl (by
  rw[Sto.get_del]at ho;split at ho
  .cases ho
  exact ho))⟩
section
variable {α:Type} {F:α->List PV} {l:List α} {size:Nat} {e:TypeId}
end
def AV.ren1(r r' :Nat):AV->AV
 | .hs x off=>bif Nat.beq x r then .hs r' off else .hs x off
 | c=>bif c.has r then .any else c
def AV.ren(r r' :Nat):AV->AV
 | .agg l=>.agg (l.map (AV.ren1 r r'))
 | c=>c.ren1 r r'
def Fr.ren(r r' :Nat):Fr->Fr
 | []=>[]
 | (k,c)::l=>(k,c.ren r r')::Fr.ren r r' l
theorem Fr.get_ren(r r' :Nat)(fr:Fr)(d:Nat):(fr.ren r r').get d=(fr.get d).ren r r' :=by
 induction fr with
 | nil=>rfl
 | cons x l ih=>
  obtain ⟨k,c⟩:=x;simp only[Fr.ren,Fr.get_cons,ih];split <;> rfl
def AO.ren(r r' :Nat):AO->AO
 | .cells cs=>.cells (cs.map (AV.ren r r'))
 | .hold c v=>.hold (c.ren r r') v
 | o=>o
def Sto.ren(r r' :Nat):Sto->Sto
 | []=>[]
 | (k,a)::l=>(k,a.ren r r')::Sto.ren r r' l
theorem Sto.get_ren(r r' :Nat)(σ:Sto)(o:Nat):(σ.ren r r').get o=(σ.get o).map (AO.ren r r'):=by
 induction σ with
 | nil=>rfl
 | cons x l ih=>
  obtain ⟨k,a⟩:=x;simp only[Sto.ren,Sto.get_cons,ih];split <;> rfl
theorem AO.own_ren(r r' :Nat)(ob:AO)(l:Loc):(ob.ren r r').own l=ob.own l:=by cases ob <;> rfl
section
variable {g g' :G} {r r' :Nat}
theorem rel_ren0(hw:g'.w=g.w)(hu:g'.u=g.u)(hk:∀k,k≠r' ->g'.loc k=g.loc k){c:AV}{v:Value}(h:Rel g c v)(hn:c.has r' =false):Rel g' (bif c.has r then .any else c) v:=by
 have hx:Ext g.w g.u g'.w g'.u:=by rw[hw,hu];exact Ext.refl _ _
 cases hc:c.has r with
 | true=>exact .any _
 | false=>exact h.mono hx fun k hk' =>hk k (by rintro rfl;rw[hn]at hk';cases hk')
theorem yUb(hw:g'.w=g.w)(hu:g'.u=g.u)(hl:g'.loc r' =g.loc r)(hk:∀k,k≠r' ->g'.loc k=g.loc k){c:AV}{v:Value}(h:Rel g c v)(hn:c.has r' =false):Rel g' (c.ren1 r r') v:=by
 cases c
 case hs x off=>
  have hxr:x≠r' :=by rintro rfl;simp[AV.has]at hn
  cases hb:Nat.beq x r with
  | true=>
   rw[show AV.ren1 r r' (.hs x off)=.hs r' off by show (bif Nat.beq x r then AV.hs r' off else AV.hs x off)=_;rw[hb];rfl];have:x=r:=jAm hb;subst this;cases h with
   | hsNil a h1=>exact .hsNil a (hl.trans h1)
   | hs h1 h2=>exact .hs (hl.trans h1) h2
  | false=>
   rw[show AV.ren1 r r' (.hs x off)=.hs x off by show (bif Nat.beq x r then AV.hs r' off else AV.hs x off)=_;rw[hb];rfl];cases h with
   | hsNil a h1=>exact .hsNil a ((hk x hxr).trans h1)
   | hs h1 h2=>exact .hs ((hk x hxr).trans h1) h2
 all_goals exact rel_ren0 (r:=r) hw hu hk h hn
theorem wUb(hw:g'.w=g.w)(hu:g'.u=g.u)(hl:g'.loc r' =g.loc r)(hk:∀k,k≠r' ->g'.loc k=g.loc k){c:AV}{v:Value}(h:Rel g c v)(hn:c.has r' =false):Rel g' (c.ren r r') v:=by
 cases c
 case agg cs=>
  cases h with
  | agg hl2 hc2 h=>
   refine .agg (by simp[hl2]) hc2 fun i c hi=>?_
   simp only[jAk,jAg]at hi;obtain ⟨c',h1,rfl⟩:=hi;refine yUb hw hu hl hk (h i c' h1) ?_;cases hh:c'.has r' with
   | false=>rfl
   | true=>rw[show (AV.agg cs).has r' =AV.hasL r' cs from rfl,AV.hasL_of h1 hh]at hn;cases hn
 all_goals exact yUb hw hu hl hk h hn
theorem relO_ren(hw:g'.w=g.w)(hu:g'.u=g.u)(hl:g'.loc r' =g.loc r)(hk:∀k,k≠r' ->g'.loc k=g.loc k){o:Nat}{ob:AO}(h:RelO g o ob)(ho:o≠r')(hn:ob.has r' =false):RelO g' o (ob.ren r r'):=by
 have hx:Ext g.w g.u g'.w g'.u:=by rw[hw,hu];exact Ext.refl _ _
 have hh:∀k,ob.has k=true->g'.loc k=g.loc k:=fun k hk' =>hk k (by rintro rfl;rw[hn]at hk';cases hk')
 cases ob
 case cells cs=>
  cases h with
  | @cells _ b t vs h1 h2 h3 h4 h5 h6=>
   refine .cells ((hk o ho).trans h1) (by rw[hw];exact h2) (by simpa using h3) (by rw[hu];exact h4) h5 fun i c hi=>?_
   simp only[jAk,jAg]at hi;obtain ⟨c',hc',rfl⟩:=hi;refine wUb hw hu hl hk (h6 i c' hc') ?_;cases hh' :c'.has r' with
   | false=>rfl
   | true=>rw[show (AO.cells cs).has r' =AV.hasL r' cs from rfl,AV.hasL_of hc' hh']at hn;cases hn
 case hold c v=>cases h with
  | hold h1=>exact .hold (wUb hw hu hl hk h1 hn)
 all_goals exact h.mono hx (hk o ho) hh fun b _=>by rw[hw,hu];exact ⟨rfl,rfl⟩
end
theorem St.ren{g:G}{a:Act}{r r' :Nat}{ob:AO}(h:St E g a fr σ)(hr:σ.get r=some ob)(hne:Nat.beq r r' =false)(hf:fr.has r' =false)(hs:σ.has r' =false)(hg:σ.get r' =none)(hob:ob.okS []=true):
 St E ⟨g.w,g.u,fun k=>if k=r' then g.loc r else g.loc k⟩ a (fr.ren r r') ((r',ob)::(σ.del r).ren r r'):=by
 have hne:r≠r' :=by rintro rfl;simp at hne
 have hk:∀k,k≠r' ->(⟨g.w,g.u,fun k=>if k=r' then g.loc r else g.loc k⟩:G).loc k=g.loc k:=fun k hk=>if_neg hk
 have hl:(⟨g.w,g.u,fun k=>if k=r' then g.loc r else g.loc k⟩:G).loc r' =g.loc r:=if_pos rfl;have hhas:∀k,ob.has k=false:=fun k=>by
  cases hh:ob.has k with
  | false=>rfl
  | true=>exact absurd (AO.okS_has hob hh) (by simp)
 have hget:∀o ob1,Sto.get ((r',ob)::(σ.del r).ren r r') o=some ob1->(o=r' /\ob1=ob)∨(o≠r' /\o≠r/\∃ob2,σ.get o=some ob2/\ob1=ob2.ren r r'):=by
  intro o ob1 ho;rw[Sto.get_cons]at ho;split at ho
  .rename_i hk;cases ho;exact .inl ⟨hk.symm,rfl⟩
  rename_i hk;rw[Sto.get_ren,Sto.get_del]at ho;split at ho
  .cases ho
  rename_i hor;cases h2:σ.get o with
  | none=>rw[h2]at ho;cases ho
  | some ob2=>rw[h2]at ho;exact .inr ⟨Ne.symm hk,hor,ob2,rfl,by simpa using ho.symm⟩
 refine ⟨fun d=>?_,h.n,h.df,⟨?_,?_,?_,⟨h.so.old.os,h.so.old.tape,h.so.old.output,h.so.old.ext,h.so.old.block⟩,h.so.wf⟩⟩
 .rw[Fr.get_ren];refine wUb (g:=g) (g' :=⟨g.w,g.u,fun k=>if k=r' then g.loc r else g.loc k⟩) rfl rfl hl hk (h.fr d) ?_;cases hh:(fr.get d).has r' with
  | false=>rfl
  | true=>rw[Fr.has_get hh]at hf;cases hf
 .intro o ob1 ho;rcases hget o ob1 ho with ⟨rfl,rfl⟩ | ⟨h1,h2,ob2,h3,rfl⟩
  .have hro:=h.so.obj r ob1 hr;cases ob1 with
   | cells cs=>
    cases hro with
    | @cells _ b t vs q1 q2 q3 q4 q5 q6=>
     exact .cells (hl.trans q1) q2 q3 q4 q5 fun i c hi=>Rel.mono (g:=g) (g' :=⟨g.w,g.u,fun k=>if k=o then g.loc r else g.loc k⟩) (Ext.refl _ _) (q6 i c hi) fun k hck=>by
      have:=hhas k;rw[show (AO.cells cs).has k=AV.hasL k cs from rfl,AV.hasL_of hi hck]at this;cases this
   | row e mu size elems=>
    cases hro with
    | nil q1=>exact .nil (hl.trans q1)
    | row q1 q2 q3 q4 q5 q6 q7 q8 q9=>exact .row (hl.trans q1) q2 q3 q4 q5 q6 q7 q8 q9
   | opq t n Q=>
    cases hro with
    | opq q1 q2 q3 q4 q5=>exact .opq (hl.trans q1) q2 q3 q4 q5
   | _=>cases hob
  refine relO_ren (g:=g) (g' :=⟨g.w,g.u,fun k=>if k=r' then g.loc r else g.loc k⟩) rfl rfl hl hk (h.so.obj o ob2 h3) h1 ?_;cases hh:ob2.has r' with
  | false=>rfl
  | true=>rw[Sto.has_get h3 hh]at hs;cases hs
 .intro o o' ob1 ob2 b q1 q2 q3 q4;rcases hget o ob1 q1 with ⟨rfl,rfl⟩ | ⟨h1,h2,ob3,h3,rfl⟩ <;> rcases hget o' ob2 q2 with ⟨rfl,rfl⟩ | ⟨h1',h2',ob4,h4,rfl⟩
  .rfl
  .rw[AO.own_ren]at q4;simp only[if_true]at q3;simp only[if_neg h1']at q4;exact absurd (h.so.apart r o' _ _ b hr h4 q3 q4) (Ne.symm h2')
  .rw[AO.own_ren]at q3;simp only[if_neg h1]at q3;simp only[if_true]at q4;exact absurd (h.so.apart o r _ _ b h3 hr q3 q4) h2
  rw[AO.own_ren]at q3 q4;simp only[if_neg h1]at q3;simp only[if_neg h1']at q4;exact h.so.apart o o' _ _ b h3 h4 q3 q4
 intro o ob1 b q1 q2;rcases hget o ob1 q1 with ⟨rfl,rfl⟩ | ⟨h1,h2,ob3,h3,rfl⟩
 .simp only[if_true]at q2;exact h.so.mine r _ b hr q2
 rw[AO.own_ren]at q2;simp only[if_neg h1]at q2;exact h.so.mine o _ b h3 q2
theorem YBa{ops:Array Oper}{ol:List Oper}(r r' :Nat){ob:AO}(hr:σ.get r=some ob)(hne:Nat.beq r r' =false)(hf:fr.has r' =false)(hs:σ.has r' =false)(hg:σ.get r' =none)(hob:ob.okS []=true)
 (h:AWPL E ops ol (fr.ren r r') ((r',ob)::(σ.del r).ren r r') K):AWPL E ops ol fr σ K:=
 ⟨fun g a hst=>h.go ⟨g.w,g.u,fun k=>if k=r' then g.loc r else g.loc k⟩ a (hst.ren hr hne hf hs hg hob)⟩
def zmk{α:Type}(lim:Nat)(n:Int)(z:α):Option (List α):=if 0<=n/\n.toNat<=lim then some (List.replicate n.toNat z) else none
section
variable {α:Type} {F:α->List PV} {r' :List α} {size bytes sb ss k lim:Nat} {e t:TypeId} {zero sz:Value} {d:TypeDesc} {x:Operand} {n:Int} {z:α}
theorem opG_make(hx:fr.ev x=.i n)(ht:TyOk E.P t ss sb sz (.slice e))(he:TyOk E.P e size bytes zero d)(hF:∀x,(F x).length=size)
 (hzz:(Nat.beq zero.cells.size size && Nat.ble 1 size && zero.cells.toList.all cellV)=true) (hz:zero.cells.toList.map Wsa=F z) (hlim:(Nat.ble (lim * bytes) 140737488355328 && Nat.ble lim 140737488355328)=true) (h:zmk lim n z=some r'):
 OpG E ⟨dst,.makeSlice t x x,ty,pos,af,gu⟩ fr σ (.l F r'):=
 ⟨fun g a K Q hx0 hso hK=>by
  simp only[jAh]at hzz hlim;have hz1:=jAm hzz.1.1;have hz2:=jAf hzz.1.2;have hz3:=hzz.2;rw[jAw]at hz3;have hl1:=jAf hlim.1;have hl2:=jAf hlim.2;unfold zmk at h;split at h
  .rename_i hc;obtain ⟨hn0,hnl⟩:=hc;cases h;refine ⟨fun _ _=>trivial,?_⟩;rw[jBe _ _ _ (fun c=>by simp)];have h2:=hx0 x (by simp[Op.operands]);rw[hx]at h2;have e2:=z6a h2;obtain ⟨m,rfl⟩:∃m:Nat,n=(m:Int):=⟨n.toNat,by omega⟩;simp only[jCw]at hnl ⊢;obtain ⟨i,hi,hsz,hby,hzero⟩:=he.info;have hbytes:(i.bytes:Int) * (m:Int)<=281474976710656:=by
    rw[hby];have:m * bytes<=lim * bytes:=jAy _ hnl;have h3:((bytes * m:Nat):Int)<=281474976710656:=by rw[jEd];omega
    rwa [Int.natCast_mul]at h3
   have hr:=run_make (P:=E.P) g.w t e i zero ht.u hi hzero .i64 .i64 m m (by omega) (jDg _) hbytes (by omega);simp only[jCw,hsz]at hr;have hrun:(execOp a.eval ⟨dst,.makeSlice t x x,ty,pos,af,gu⟩).run E.P g.w=.ok (.value (.slice (some ⟨g.w.heap.size,0,none⟩) m m)) (g.w.alloc (.cells (madeCells zero.cells (m * size)) e)):=by
    show Sem.run E.P (do let v <-Instr.makeSlice t (a.eval x) (a.eval x);pure (Next.value v)) g.w=_;rw[e2,jAt,hr];rfl
   rw[hrun,jBl];generalize hcells:madeCells zero.cells (m * size)=out;have hosz:out.size=m * size:=by rw[<-hcells,size_madeCells]
   have hget:∀q,q < m * size->out.toList[q]? =zero.cells.toList[q % size]? :=by
    intro q hq;have hlt:q % zero.cells.size < zero.cells.size:=Nat.mod_lt _ (by omega);rw[<-hcells,jCz,jCz];simp only[madeCells,Array.getElem?_map];rw[show (Array.range (m * size))[q]? =some q by simp[hq]];simp only[jCp];rw[getElem!_pos zero.cells _ hlt,<-hz1];simp[hlt]
   have hold:=Zxa g out e (m * size) 0 (g.loc 0);have hwf:=VCa hso.wf out e (m * size) 0 (g.loc 0);have hloc:∀q,(g.alloc out e (m * size) 0 (g.loc 0)).loc q=g.loc q:=fun q=>by show (if q=0 then g.loc 0 else g.loc q)=g.loc q;split <;> simp_all
   have hlr:(List.replicate m z).length=m:=List.length_replicate;have hrel:Rel (g.alloc out e (m * size) 0 (g.loc 0)) (.l F (List.replicate m z)) (.slice (some ⟨g.w.heap.size,0,none⟩) (List.replicate m z).length m):=
    Kqb (g:=g) (out:=out) hF (by rw[hlr];omega) (by rw[hlr];omega) (by
     rw[show (g.alloc out e (m * size) 0 (g.loc 0)).w.heap[g.w.heap.size]? =some (.cells out e (0,0)) from heap_alloc_new _ _];simp) (fun i hi=>kOa (heap_alloc_new _ _) hi) (by rw[hlr];exact if_pos rfl) (fun i' j w c hi' hj=>by
     have him:i' < m:=by have:=(jAd.1 hi').1;simpa using this
     have:w=z:=by have:=jAi hi';rw[jEg]at this;exact this.2
     subst this;have hjs:j < size:=by rw[<-hF w];exact (jAd.1 hj).1
     have hq:i' * size+j < m * size:=by
      have:(i' +1) * size<=m * size:=jAy _ (by omega);rw[jBg]at this;omega
     rw[<-hz,jAk,jAg]at hj;obtain ⟨u,hu,rfl⟩:=hj;have h5:=hget (i' * size+j) hq;rw[jEd i',Nat.mul_add_mod,jDy hjs,hu,jEd size]at h5;rw[jAe,<-jCz,h5];exact j5a _ _ u (hz3 u (jAi hu)))
   rw[hlr]at hrel;exact hK _ _ hold hwf (funext hloc) hrel
  cases h⟩
end
theorem rfS{P:Program}{f:FuncId}{fn:Func}{c:Code}{args:List AV}{r:AV}{σ0 σ1:Sto}{O H:Nat}{rows:List Nat}(hc:AV)(hok:FnOk P f fn c)(hN:Nat.ble args.length fn.ntmps=true)(hr:∀k,r.has k=true->k∈rows)(h0:(hc=.ptr O 0/\args[0]? =some (.ptr O 0))∨(hc=.any/\Sto.get σ1 O=none))
 (k0:σ0.okS O rows=true) (k1:σ1.okS O rows=true) (hH:Sto.get σ0 H=none) (hH1:Sto.get σ1 H=none)
 (h:∀g0 (hg:Gl g0) (S:Nat->Prop) (sg:∀k,GlB k->¬S k) (T:Array Value),(GS.code c (kYa 0 args) ((H,.hold hc (T.getD 0 undef))::σ0) (.base (qYb P fn r hc H T σ1) Zkb)).holds ⟨P,none,g0,fn.ntmps,false,hg,S,sg⟩):RunS P f args σ0 r σ1 O rows:=wTb hok hN hr h0 k0 k1 hH hH1 h
theorem krS{P:Program}{T:Tab}{Tm:Array Value}(hT:kca P T){e:Exit}{fn:Func}{cs:List AV}{r hc:AV}{H:Nat}{σ1:Sto}{hm:Mono (qYb P fn r hc H Tm σ1)}(he:isN e=true∨e=.ret)(h:VKa T fr σ fn.results.toList=some cs)(hr:VDa cs=r)(hs:kSa σ ((H,.hold hc (Tm.getD 0 undef))::σ1)):
 (GS.at e fr σ (.base (qYb P fn r hc H Tm σ1) hm)).holds E:=⟨by cases e <;> simp_all [isN],⟨cs,Z2a hT h,hr⟩,hs⟩
def AV.okR(rows:List Nat):AV->Bool
 | .agg l=>l.all (AV.okS rows)
 | .ifc _=>true
 | c=>c.okS rows
def AV.okT(rows:List Nat):AV->Bool
 | .tup l=>l.all (AV.okR rows)
 | c=>c.okR rows
theorem AV.okR_has{rows:List Nat}{c:AV}(h:c.okR rows=true){k:Nat}(hk:c.has k=true):k∈rows:=by
 unfold AV.okR at h;split at h
 .obtain ⟨c',hc,hk'⟩:=AV.hasL_mem hk;exact AV.okS_has (jAw.1 h c' hc) hk'
 .simp[AV.has]at hk
 exact AV.okS_has h hk
theorem hasT{rows:List Nat}{c:AV}(h:c.okT rows=true):∀k,c.has k=true->k∈rows:=by
 intro k hk;unfold AV.okT at h;split at h
 .obtain ⟨c',hc,hk'⟩:=AV.hasL_mem hk;exact AV.okR_has (jAw.1 h c' hc) hk'
 exact AV.okR_has h hk
end
section
open Go.RowKit Go.Lib Go.Proofs.Tryz
variable {E:Env} {fr:Fr} {σ:Sto} {K:Post}
def purF:List Oper->List (Option AV)->List Bool->Fr
 | o::l,some c::cs,b::D=>(match o.dst with | some d=>[(d,bif b then c else .any)] | none=>[])++purF l cs D
 | _::l,none::cs,_::D=>purF l cs D
 | _,_,_=>[]
def y7a(l:List Oper)(cs:List (Option AV))(i:Nat):Option Nat:=match cs[i]? with
 | some (some _)=>(l[i]?).bind (·.dst)
 | _=>none
theorem k4a:∀(l:List Oper) (cs:List (Option AV)) (D:List Bool) (d:Nat),(∀i,y7a l cs i≠some d)->(purF l cs D++fr).get d=fr.get d
 | [],_,_,_,_=>rfl
 | _::_,[],_,_,_=>rfl
 | _::_,some _::_,[],_,_=>rfl
 | _::_,none::_,[],_,_=>rfl
 | o::l,none::cs,b::D,d,h=>k4a l cs D d fun i=>h (i+1)
 | o::l,some c::cs,b::D,d,h=>by
  have ih:=k4a l cs D d fun i=>h (i+1)
  have h0:o.dst≠some d:=h 0;unfold purF;cases hd:o.dst with
  | none=>exact ih
  | some d' =>
   show Fr.get ((d',_)::(purF l cs D++fr)) d=_;rw[Fr.get_cons,if_neg (fun e=>h0 (by rw[hd,e]))];exact ih
theorem q2a:∀(l:List Oper) (cs:List (Option AV)) (D:List Bool) (i:Nat) (c:AV) (d:Nat),(∀i j d,y7a l cs i=some d->y7a l cs j=some d->i=j)->l.length<=D.length->y7a l cs i=some d->cs[i]? =some (some c)->(purF l cs D++fr).get d=bif D.getD i false then c else .any
 | [],_,_,i,_,_,_,_,h,hc=>by unfold y7a at h;rw[hc]at h;simp at h
 | _::_,[],_,i,_,_,_,_,h,hc=>by simp at hc
 | _::_,_::_,[],_,_,_,_,hl,_,_=>by simp at hl
 | o::l,none::cs,b::D,0,c,d,_,_,h,hc=>by simp at hc
 | o::l,none::cs,b::D,i+1,c,d,hd,hl,h,hc=>by
  have:=q2a l cs D i c d (fun i j d h1 h2=>by have:=hd (i+1) (j+1) d h1 h2;omega) (by simpa using hl) h (by simpa using hc);simpa[purF]using this
 | o::l,some c0::cs,b::D,0,c,d,hd,hl,h,hc=>by
  simp at hc;subst hc;have h0:o.dst=some d:=h;unfold purF;rw[h0];show Fr.get ((d,_)::(purF l cs D++fr)) d=_;rw[Fr.get_cons,if_pos rfl];rfl
 | o::l,some c0::cs,b::D,i+1,c,d,hd,hl,h,hc=>by
  have ih:=q2a l cs D i c d (fun i j d h1 h2=>by have:=hd (i+1) (j+1) d h1 h2;omega) (by simpa using hl) h (by simpa using hc);unfold purF;cases h0:o.dst with
  | none=>simpa using ih
  | some d' =>
   show Fr.get ((d',_)::(purF l cs D++fr)) d=_;rw[Fr.get_cons,if_neg (fun e=>by
    have:=hd 0 (i+1) d (by show o.dst=some d;rw[h0,e]) h;omega)]
   simpa using ih
theorem Fr.has_append(q:Nat):∀(x y:Fr),Fr.has q (x++y)=(Fr.has q x || Fr.has q y)
 | [],y=>by simp[Fr.has]
 | (k,a)::x,y=>by simp[Fr.has,Fr.has_append q x y,Bool.or_assoc]
theorem kCb(q:Nat):∀(l:List Oper) (cs:List (Option AV)) (D T:List Bool),T=List.replicate D.length true->Fr.has q (purF l cs D)=true->Fr.has q (purF l cs T)=true
 | [],_,_,_,_,h=>by simp[purF,Fr.has]at h
 | _::_,[],_,_,_,h=>by simp[purF,Fr.has]at h
 | _::_,some _::_,[],_,_,h=>by simp[purF,Fr.has]at h
 | _::_,none::_,[],_,_,h=>by simp[purF,Fr.has]at h
 | o::l,none::cs,b::D,T,hT,h=>by
  subst hT;exact kCb q l cs D _ rfl (by simpa[purF]using h)
 | o::l,some c::cs,b::D,T,hT,h=>by
  subst hT;have ih:=kCb q l cs D _ rfl;unfold purF at h ⊢;simp only[jAu,List.replicate_succ]at h ⊢;cases h0:o.dst with
  | none=>rw[h0]at h;simp[Fr.has_append,Fr.has]at h ⊢;exact ih h
  | some d=>
   rw[h0]at h;simp only[Fr.has_append,Fr.has,Bool.or_false,jBs,cond_true]at h ⊢;rcases h with h | h
   .refine .inl ?_;cases b with
    | true=>exact h
    | false=>simp[AV.has]at h
   exact .inr (ih h)
structure HvS (E:Env) (o:Oper) (FR:Fr) (σ σ' :Sto):Prop where
 go:∀fr,(∀x∈o.op.operands,fr.ev x=FR.ev x)->(∀q,FR.has q=false->fr.has q=false)->OpTo E o fr σ fr σ'
structure HvD (E:Env) (o:Oper) (FR:Fr) (σ:Sto) (k:Nat) (c:AV) (rs:List Nat) (σ' :Sto):Prop where
 go:∀fr,(∀x∈o.op.operands,fr.ev x=FR.ev x)->(∀q,FR.has q=false->fr.has q=false)->OpTo E o fr σ ((k,c)::fr.clrs rs) σ'
structure HvP (E:Env) (o:Oper) (FR:Fr) (σ:Sto) (rs:List Nat) (σ' :Sto):Prop where
 go:∀fr,(∀x∈o.op.operands,fr.ev x=FR.ev x)->(∀q,FR.has q=false->fr.has q=false)->OpTo E o fr σ (fr.clrs rs) σ'
def allT(l:List Oper):List Bool:=List.replicate l.length true
def q0b(cs:List (Option AV))(rs:List Nat):Bool:=cs.all fun c=>match c with | some c=>rs.all fun r=> !c.has r | none=>true
inductive YZa (E:Env) (l:List Oper) (cs:List (Option AV)) (all:List Node) (H:List Bool) (fr:Fr) (σ:Sto) (i:Nat):Prop
 | pure {o:Oper} {c:AV} (ho:l[i]? =some o) (hc:cs[i]? =some (some c)) (h:OpG E o (purF l cs (allT l)++fr) σ c)
 | sto {o:Oper} {σ' σ2:Sto} {fr2:Fr} (j:Nat) (ho:l[i]? =some o) (hc:cs[i]? =some none) (h:HvS E o (purF l cs (allT l)++fr) σ σ') (hn:all[j]? =some (H.set i true,fr2,σ2)) (hf:FrLe fr fr2) (hs:kSa σ' σ2)
 | dst {o:Oper} {k:Nat} {c:AV} {rs:List Nat} {σ' σ2:Sto} {fr2:Fr} (j:Nat) (ho:l[i]? =some o) (hc:cs[i]? =some none) (hk:((List.range l.length).all fun i=>y7a l cs i !=some k)=true) (hrs:q0b cs rs=true)
  (h:HvD E o (purF l cs (allT l)++fr) σ k c rs σ') (hn:all[j]? =some (H.set i true,fr2,σ2)) (hf:FrLe ((k,c)::fr.clrs rs) fr2) (hs:kSa σ' σ2)
 | put {o:Oper} {rs:List Nat} {σ' σ2:Sto} {fr2:Fr} (j:Nat) (ho:l[i]? =some o) (hc:cs[i]? =some none) (hrs:q0b cs rs=true)
  (h:HvP E o (purF l cs (allT l)++fr) σ rs σ') (hn:all[j]? =some (H.set i true,fr2,σ2)) (hf:FrLe (fr.clrs rs) fr2) (hs:kSa σ' σ2)
inductive woa (E:Env) (l:List Oper) (cs:List (Option AV)) (all:List Node) (H:List Bool) (fr:Fr) (σ:Sto):List Nat->Prop
 | nil:woa E l cs all H fr σ []
 | cons {i:Nat} {is:List Nat} (h:YZa E l cs all H fr σ i) (r:woa E l cs all H fr σ is):woa E l cs all H fr σ (i::is)
def isHv(cs:List (Option AV))(i:Nat):Bool:=match cs[i]? with | some none=>true | _=>false
def mayL(l:List Oper)(cs:List (Option AV))(H:List Bool):List Nat:=(List.range l.length).filter fun i=>
 !(H.getD i false) && (List.range l.length).all fun j=> !(isHv cs j) || ((!(((y9a l l.length).getD i 0).testBit j) || H.getD j false) && (!(H.getD j false) || !(((y9a l l.length).getD j 0).testBit i)))
inductive kDb (E:Env) (l:List Oper) (cs:List (Option AV)) (K:Post) (all:List Node):Node->Prop
 | full {H:List Bool} {fr:Fr} {σ:Sto} (is:List Nat) (hD:mayL l cs H=is) (hs:woa E l cs all H fr σ is) {frJ:Fr} {σJ:Sto} (hf:FrLe (purF l cs (allT l)++fr) frJ) (hso:kSa σ σJ) (h:K .normal frJ σJ):kDb E l cs K all (H,fr,σ)
 | step {H:List Bool} {fr:Fr} {σ:Sto} (is:List Nat) (hD:mayL l cs H=is) (hn:((List.range l.length).all fun i=> !(isHv cs i) || H.getD i false)=false) (hs:woa E l cs all H fr σ is):kDb E l cs K all (H,fr,σ)
inductive KDa (E:Env) (l:List Oper) (cs:List (Option AV)) (K:Post) (all:List Node):List Node->Prop
 | nil:KDa E l cs K all []
 | cons {nd:Node} {r:List Node} (h:kDb E l cs K all nd) (hr:KDa E l cs K all r):KDa E l cs K all (nd::r)
theorem woa.get{l:List Oper}{cs:List (Option AV)}{all:List Node}{H:List Bool}{is:List Nat}(h:woa E l cs all H fr σ is){i:Nat}(hi:i∈is):YZa E l cs all H fr σ i:=by
 induction h with
 | nil=>cases hi
 | cons h _ ih=>
  rcases jBh.1 hi with rfl | hi
  .exact h
  exact ih hi
theorem KDa.get{l:List Oper}{cs:List (Option AV)}{all r:List Node}(h:KDa E l cs K all r){nd:Node}(hi:nd∈r):kDb E l cs K all nd:=by
 induction h with
 | nil=>cases hi
 | cons h _ ih=>
  rcases jBh.1 hi with rfl | hi
  .exact h
  exact ih hi
def yVb(N:Nat)(l:List Oper)(cs:List (Option AV)):Bool:=
 jta .any l.toArray && Nat.beq cs.length l.length && (l.all fun o=>o.guard.isNone) &&
 (l.all fun o=>o.dst.all fun d=>Nat.ble (d+1) N) &&
 ((List.range l.length).all fun i=>isHv cs i || (y7a l cs i).isSome) &&
 ((List.range l.length).all fun i=>(List.range l.length).all fun j=>Nat.beq i j || (y7a l cs i).isNone || y7a l cs i !=y7a l cs j) &&
 (l.all fun o=>(yMb o).all fun t=>(List.range l.length).all fun j=>y7a l cs j !=some t || Z0a o j)
theorem KEa{rs:List Nat}{c:AV}(h:(rs.all fun r=> !c.has r)=true):c.clrs rs=c:=by
 unfold AV.clrs;have:(rs.any fun r=>c.has r)=false:=by
  rw[jCj];intro r hr;have:=jAw.1 h r hr;simpa using this
 rw[this];rfl
theorem zBb{id:Nat}{l:List Oper}(cs:List (Option AV))(all:List Node){H0:List Bool}{fr0:Fr}{σ0:Sto}(hmix:E.P.follows .mixedOrders=true)(hok:yVb E.N l cs=true)(h0:all[0]? =some (H0,fr0,σ0))(hH0:H0=List.replicate l.length false)
 (hf:FrLe fr fr0) (hs:kSa σ σ0) (h:KDa E l cs K all all):AWP E (.region id l.toArray true) fr σ K:=by
 simp only[yVb,jAh,jAw]at hok;obtain ⟨⟨⟨⟨⟨⟨hlb,hlen⟩,hgd⟩,hN⟩,hall⟩,hdist⟩,hdat⟩:=hok;have hlen:=jAm hlen;have hdl:∀i d,y7a l cs i=some d->i < l.length:=by
  intro i d hd;rcases jBq i l.length with h1 | h1
  .exact h1
  unfold y7a at hd;rw[jBr (by omega)]at hd;cases hd
 have hdist' :∀i j d,y7a l cs i=some d->y7a l cs j=some d->i=j:=by
  intro i j d h1 h2;have:=hdist i (by simpa using hdl i d h1) j (by simpa using hdl j d h2);simp only[jBs,bne_iff_ne,ne_eq]at this;rcases this with (h3 | h3) | h3
  .exact jAm h3
  .rw[h1]at h3;cases h3
  exact absurd (h1.trans h2.symm) h3
 have hdirD:∀{D:Nat->Bool} {o:Oper} {j:Nat},(∀e∈o.after,Region.binds .any e=true->D e.on=true)->Z0a o j=true->D j=true:=by
  intro D o j he hd;simp only[Z0a,List.any_eq_true,jAh]at hd;obtain ⟨e,h1,h2,h3⟩:=hd;rw[<-jAm h3];exact he e (by simpa using h1) h2
 let bits:(Nat->Bool)->List Bool:=fun D=>(List.range l.length).map D
 have hbl:∀D,(bits D).length=l.length:=fun D=>by simp[bits]
 have hbg:∀D i,i < l.length->(bits D).getD i false=D i:=fun D i hi=>by simp[bits,jAv,hi]
 have hTl:(allT l).length=l.length:=by simp[allT]
 have hTg:∀i,i < l.length->(allT l).getD i false=true:=fun i hi=>by simp[allT,jAv,hi]
 have hslot:∀d,(∃i c,y7a l cs i=some d/\cs[i]? =some (some c)/\i < l.length)∨(∀i,y7a l cs i≠some d):=by
  intro d;by_cases hex:∃i,y7a l cs i=some d
  .obtain ⟨i,hi⟩:=hex;refine .inl ⟨i,?_⟩;have hil:=hdl i d hi;cases hc:cs[i]? with
   | none=>unfold y7a at hi;rw[hc]at hi;cases hi
   | some x=>
    cases x with
    | none=>unfold y7a at hi;rw[hc]at hi;cases hi
    | some c=>exact ⟨c,hi,rfl,hil⟩
  exact .inr fun i hi=>hex ⟨i,hi⟩
 have hev:∀(D:Nat->Bool) (o:Oper) (frA:Fr),o∈l->(∀e∈o.after,Region.binds .any e=true->D e.on=true)->∀x∈o.op.operands,(purF l cs (bits D)++frA).ev x=(purF l cs (allT l)++frA).ev x:=by
  intro D o frA hm he x hx;cases x with
  | const v=>rfl
  | global q=>rfl
  | func f=>rfl
  | tmp t=>
   show (purF l cs (bits D)++frA).get t=(purF l cs (allT l)++frA).get t;rcases hslot t with ⟨i,c,h1,h2,h3⟩ | h1
   .rw[q2a l cs (bits D) i c t hdist' (by rw[hbl];omega) h1 h2,q2a l cs (allT l) i c t hdist' (by rw[hTl];omega) h1 h2,hbg D i h3,hTg i h3];have:=hdat o hm t (by simp only[yMb,List.mem_filterMap];exact ⟨.tmp t,by simpa using hx,rfl⟩) i (by simpa using h3);simp only[jBs,bne_iff_ne,ne_eq]at this;rcases this with h4 | h4
    .exact absurd h1 h4
    rw[hdirD he h4]
   rw[k4a l cs _ t h1,k4a l cs _ t h1]
 have hhas:∀(D:Nat->Bool) (frA:Fr) q,(purF l cs (allT l)++frA).has q=false->(purF l cs (bits D)++frA).has q=false:=by
  intro D frA q hq;rw[Fr.has_append,jCe]at hq ⊢;refine ⟨?_,hq.2⟩;cases hb:Fr.has q (purF l cs (bits D)) with
  | false=>rfl
  | true=>
   have:=kCb q l cs (bits D) (allT l) (by rw[hbl];rfl) hb;rw[this]at hq;cases hq.1
 let J:(Nat->Bool)->Act->World->Prop:=fun D a w=>(∀i o,l[i]? =some o->D i=true->∀e∈o.after,Region.binds .any e=true->D e.on=true)/\
  ∃nd∈all,nd.1.length=l.length/\(∀i,i < l.length->isHv cs i=true->D i=nd.1.getD i false)/\(∀i,i < l.length->isHv cs i=false->nd.1.getD i false=false)/\∃g,g.w=w/\St E g a (purF l cs (bits D)++nd.2.1) nd.2.2
 refine ⟨fun g a hst=>KAa hmix hlb J ?_ ?_ ?_⟩
 .refine ⟨fun i o _ hd=>by simp at hd,_,jAi h0,by subst hH0;simp,fun i hi _=>by subst hH0;simp[jAv,hi],fun i hi _=>by subst hH0;simp[jAv,hi],⟨g.w.drew,g.u,g.loc⟩,rfl,(hst.le (fun d=>?_) hs).drew⟩;rcases hslot d with ⟨i,c,h1,h2,h3⟩ | h1
  .rw[q2a l cs _ i c d hdist' (by rw[hbl];omega) h1 h2,hbg _ i h3];exact .inl rfl
  rw[k4a l cs _ d h1];exact hf d
 .rintro D a w ⟨_,⟨H,frA,σA⟩,hm,hl,hD,_,g,rfl,hst'⟩ hfin;have hfin' :∀i,i < l.length->D i=true:=fun i hi=>hfin i (by simpa using hi)
  cases h.get hm with
  | full is _ _ hfJ hsJ hk=>
   refine ⟨g,_,_,rfl,St.le ?_ hfJ hsJ,hk⟩;have:bits D=allT l:=by
    apply List.ext_getElem (by rw[hbl,hTl]);intro i h1 h2;have hi:i < l.length:=by rw[hbl]at h1;exact h1
    simp[bits,allT,hfin' i hi]
   rw[<-this];exact hst'
  | step is _ hn _=>
   exfalso;have:((List.range l.length).all fun i=> !(isHv cs i) || H.getD i false)=true:=by
    rw[jAw];intro i hi;have hi:i < l.length:=by simpa using hi
    cases hh:isHv cs i with
    | false=>rfl
    | true=>rw[<-hD i hi hh,hfin' i hi];rfl
   rw[this]at hn;cases hn
 rintro D a w i o ⟨hcl,⟨H,frA,σA⟩,hm,hl,hD,hD0,g,rfl,hst'⟩ ho hDi he;have ho' :l[i]? =some o:=by simpa using ho
 have hil:i < l.length:=(jAd.1 ho').1;have hom:o∈l:=jAi ho';have hgo:o.guard=none:=by simpa using hgd o hom
 have hcl' :∀i' o',l[i']? =some o' ->upd D i i' =true->∀e∈o'.after,Region.binds .any e=true->upd D i e.on=true:=by
  intro i' o' h1 h2 e h3 h4;unfold upd at h2 ⊢;split
  .rfl
  split at h2
  .rename_i hii;subst hii;rw[ho']at h1;cases h1;exact he e h3 h4
  exact hcl i' o' h1 h2 e h3 h4
 have hmay:i∈mayL l cs H:=by
  simp only[mayL,jDe,jEj,jAh,jCn,jAw,jBs];refine ⟨hil,?_,fun j hj=>?_⟩
  .cases hh:isHv cs i with
   | true=>rw[<-hD i hil hh];exact hDi
   | false=>exact hD0 i hil hh
  cases hh:isHv cs j with
  | false=>exact .inl rfl
  | true=>
   refine .inr ⟨?_,?_⟩
   .cases hb:((y9a l l.length).getD i 0).testBit j with
    | false=>exact .inl rfl
    | true=>exact .inr (by rw[<-hD j hj hh];exact Vea hcl l.length i o ho' he j hb)
   cases hHj:H.getD j false with
   | false=>exact .inl rfl
   | true=>
    refine .inr ?_;cases hb:((y9a l l.length).getD j 0).testBit i with
    | false=>rfl
    | true=>
     have:=KBa hcl l.length j i hb (by rw[hD j hj hh];exact hHj);rw[hDi]at this;cases this
 have vla:YZa E l cs all H frA σA i:=by
  cases h.get hm with
  | full is hD2 hs _ _ _=>exact (hD2▸hs:woa E l cs all H frA σA (mayL l cs H)).get hmay
  | step is hD2 _ hs=>exact (hD2▸hs:woa E l cs all H frA σA (mayL l cs H)).get hmay
 have hw:Region.wanted o (yielded l.toArray a.tmps)=true:=by simp[Region.wanted,hgo]
 have hheavy:∀(_:cs[i]? =some none),(∀k,k < l.length->isHv cs k=true->upd D i k=(H.set i true).getD k false)/\(∀k,k < l.length->isHv cs k=false->(H.set i true).getD k false=false)/\∀frX d,(purF l cs (bits (upd D i))++frX).get d=(purF l cs (bits D)++frX).get d:=by
  intro hc;have hhv:isHv cs i=true:=by unfold isHv;rw[hc]
  refine ⟨fun k hk hh=>?_,fun k hk hh=>?_,fun frX d=>?_⟩
  .unfold upd;simp only[jAv,jDp];by_cases hki:k=i
   .subst hki;simp[hl,hk]
   rw[if_neg hki,if_neg (Ne.symm hki),<-jAv];exact hD k hk hh
  .have hki:k≠i:=by rintro rfl;rw[hhv]at hh;cases hh
   simp only[jAv,jDp];rw[if_neg (Ne.symm hki),<-jAv];exact hD0 k hk hh
  rcases hslot d with ⟨j,c,h1,h2,h3⟩ | h1
  .rw[q2a l cs _ j c d hdist' (by rw[hbl];omega) h1 h2,q2a l cs _ j c d hdist' (by rw[hbl];omega) h1 h2,hbg _ j h3,hbg _ j h3];have hji:j≠i:=by rintro rfl;rw[hc]at h2;cases h2
   unfold upd;rw[if_neg hji]
  rw[k4a l cs _ d h1,k4a l cs _ d h1]
 unfold wpOpIn;rw[ho];simp only[hw,if_true];cases vla with
 | @pure o2 c ho2 hc hop=>
  rw[ho']at ho2;cases ho2;have hhv:isHv cs i=false:=by unfold isHv;rw[hc]
  have hops:∀x∈o.op.operands,Rel g ((purF l cs (allT l)++frA).ev x) (a.eval x):=fun x hx=>by
   rw[<-hev D o frA hom he x hx];exact hst'.ev x
  obtain ⟨d,hd⟩:∃d,y7a l cs i=some d:=by
   have:=hall i (by simpa using hil);rw[hhv]at this;simpa[Option.isSome_iff_exists]using this
  have hod:o.dst=some d:=by
   unfold y7a at hd;rw[hc,ho']at hd;simpa using hd
  refine hop.go g a _ _ hops hst'.so fun g' v h1 h2 h3 h4=>⟨hcl',(H,frA,σA),hm,hl,fun k hk hh=>?_,hD0,g',rfl,?_⟩
  .have hki:k≠i:=by rintro rfl;rw[hhv]at hh;cases hh
   unfold upd;rw[if_neg hki];exact hD k hk hh
  have hdN:d < E.N:=by
   have:=hN o hom;rw[hod]at this;exact jAf (by simpa using this)
  have hsz:=hst'.n;refine ⟨fun d' =>?_,by rw[hod];simp[Act.put,hsz],by rw[hod];exact hst'.df.mono h1.ext,hst'.so.grow h1 h2 (fun k _=>by rw[h3])⟩;have hget:(a.put o.dst v).tmps.getD d' undef=if d=d' then v else a.tmps.getD d' undef:=by
   rw[hod];simp only[Act.put];rw[vUa];by_cases h5:d=d'
   .rw[if_pos ⟨h5,by omega⟩,if_pos h5]
   rw[if_neg (fun x=>h5 x.1),if_neg h5]
  rw[hget];by_cases h5:d=d'
  .subst h5;rw[if_pos rfl,q2a l cs _ i c d hdist' (by rw[hbl];omega) hd hc,hbg _ i hil];have:upd D i i=true:=by unfold upd;rw[if_pos rfl]
   rw[this];exact h4
  rw[if_neg h5];have hsame:(purF l cs (bits (upd D i))++frA).get d' =(purF l cs (bits D)++frA).get d' :=by
   rcases hslot d' with ⟨j,c',q1,q2,q3⟩ | q1
   .rw[q2a l cs _ j c' d' hdist' (by rw[hbl];omega) q1 q2,q2a l cs _ j c' d' hdist' (by rw[hbl];omega) q1 q2,hbg _ j q3,hbg _ j q3];have hji:j≠i:=by rintro rfl;rw[hd]at q1;cases q1;exact h5 rfl
    unfold upd;rw[if_neg hji]
   rw[k4a l cs _ d' q1,k4a l cs _ d' q1]
  rw[hsame];exact (hst'.fr d').mono h1.ext (fun k _=>by rw[h3])
 | @sto o2 σ' σ2 fr2 j ho2 hc hop hn hf2 hs2=>
  rw[ho']at ho2;cases ho2;obtain ⟨q1,q2,q3⟩:=hheavy hc;refine (hop.go _ (hev D o frA hom he) (hhas D frA)).go g a _ _ hst' fun g' a' hst2=>⟨hcl',_,jAi hn,by simp[hl],q1,q2,g',rfl,hst2.le (fun d=>?_) hs2⟩
  rw[q3];rcases hslot d with ⟨k,c,h1,h2,h3⟩ | h1
  .rw[q2a l cs _ k c d hdist' (by rw[hbl];omega) h1 h2,q2a l cs _ k c d hdist' (by rw[hbl];omega) h1 h2];exact .inr (.inl rfl)
  rw[k4a l cs _ d h1,k4a l cs _ d h1];exact hf2 d
 | @dst o2 k c rs σ' σ2 fr2 j ho2 hc hk hrs hop hn hf2 hs2=>
  rw[ho']at ho2;cases ho2;obtain ⟨q1,q2,q3⟩:=hheavy hc;refine (hop.go _ (hev D o frA hom he) (hhas D frA)).go g a _ _ hst' fun g' a' hst2=>⟨hcl',_,jAi hn,by simp[hl],q1,q2,g',rfl,hst2.le (fun d=>?_) hs2⟩
  rw[q3];rcases hslot d with ⟨m,c',h1,h2,h3⟩ | h1
  .have hkd:k≠d:=by
    rintro rfl;have:=jAw.1 hk m (by simpa using h3);simp[h1]at this
   rw[Fr.get_cons,if_neg hkd,Fr.get_clrs,q2a l cs _ m c' d hdist' (by rw[hbl];omega) h1 h2,q2a l cs _ m c' d hdist' (by rw[hbl];omega) h1 h2];refine .inr (.inl ?_);cases (bits D).getD m false with
   | false=>exact KEa (by rw[jAw];intro r _;rfl)
   | true=>
    refine KEa ?_;have:=jAw.1 hrs _ (jAi h2);exact this
  have:=hf2 d;rw[Fr.get_cons,Fr.get_clrs]at this ⊢;rw[k4a l cs _ d h1,k4a l cs _ d h1];exact this
 | @put o2 rs σ' σ2 fr2 j ho2 hc hrs hop hn hf2 hs2=>
  rw[ho']at ho2;cases ho2;obtain ⟨q1,q2,q3⟩:=hheavy hc;refine (hop.go _ (hev D o frA hom he) (hhas D frA)).go g a _ _ hst' fun g' a' hst2=>⟨hcl',_,jAi hn,by simp[hl],q1,q2,g',rfl,hst2.le (fun d=>?_) hs2⟩
  rw[q3];rcases hslot d with ⟨m,c',h1,h2,h3⟩ | h1
  .rw[Fr.get_clrs,q2a l cs _ m c' d hdist' (by rw[hbl];omega) h1 h2,q2a l cs _ m c' d hdist' (by rw[hbl];omega) h1 h2];refine .inr (.inl ?_);cases (bits D).getD m false with
   | false=>exact KEa (by rw[jAw];intro r _;rfl)
   | true=>
    refine KEa ?_;have:=jAw.1 hrs _ (jAi h2);exact this
  have:=hf2 d;rw[Fr.get_clrs]at this ⊢;rw[k4a l cs _ d h1,k4a l cs _ d h1];exact this
section
variable {FR:Fr} {ty:TypeId} {pos:String} {af:Array Edge} {gu:Option (Nat × Bool)} {T:Tab} {P:Program} {id k r size bytes:Nat} {e t:TypeId} {zero:Value} {d:TypeDesc}
theorem mqz{o:Oper}{c:AV}(hT:kca E.P T)(h:qval T FR.ev σ o.op=some c):OpG E o FR σ c:=kua (Wta hT h)
theorem kEb{o:Oper}{fr' fr2:Fr}{σ' σ2:Sto}(h:OpTo E o fr σ fr' σ')(hf:FrLe fr' fr2)(hs:kSa σ' σ2):OpTo E o fr σ fr2 σ2:=
 ⟨fun g a K Q hst hK=>h.go g a K Q hst fun g' a' h' =>hK g' a' (h'.le hf hs)⟩
theorem qfa:kSa σ σ:=fun _ _ h=>.inl h
theorem Wua{c:AV}:FrLe ((k,c)::fr) ((k,c)::fr.clrs []):=fun d=>by
 rw[Fr.get_cons,Fr.get_cons,Fr.get_clrs,KEa rfl];exact .inr (.inl rfl)
theorem Zlb{c:AV}:FrLe ((k,c)::fr.clr r) ((k,c)::fr.clrs [r]):=fun d=>by
 rw[Fr.get_cons,Fr.get_cons,Fr.get_clrs,Fr.get_clr];refine .inr (.inl ?_);split
 .rfl
 simp[AV.clr,AV.clrs]
theorem qba{x y:Operand}{o off:Nat}{cs vs:List AV}(hx:FR.ev x=.ptr o off)(ho:σ.get o=some (.cells cs))(hy:(FR.ev y).cells=some vs)(ht:TyOk E.P t size bytes zero d)(hz:Nat.beq vs.length size=true)(hle:Nat.ble (off+vs.length) cs.length=true):
 HvS E ⟨none,.store t x y,ty,pos,af,gu⟩ FR σ (σ.upd o (.cells (QTa cs off vs))):=
 ⟨fun fr he _=>zsb ((he x (by simp[Op.operands,Call.operands])).trans hx) ho (by rw[he y (by simp[Op.operands,Call.operands])];exact hy) ht hz hle⟩
theorem q1b{α:Type}{F:α->List PV}{l:List α}{x y:Operand}{n:Int}{j:Nat}{v v' :α}{pcs:List PV}{e:TypeId}{esize:Nat}(hx:FR.ev x=.hp r n.toNat j)(hr:σ.get r=some (.row e true esize (l.map F)))(hy:(FR.ev y).weak.cells=some (pcs.map .pv))(ht:TyOk E.P t size bytes zero d)(hz:Nat.beq pcs.length size=true)
 (hv:idx l n=some v) (hle:Nat.ble (j+pcs.length) (F v).length=true) (hF' :F v' =(F v).take j++pcs++(F v).drop (j+pcs.length)):
 HvS E ⟨none,.store t x y,ty,pos,af,gu⟩ FR σ (σ.upd r (.row e true esize ((l.set n.toNat v').map F))):=
 ⟨fun fr he _=>Z1a ((he x (by simp[Op.operands,Call.operands])).trans hx) hr (by rw[he y (by simp[Op.operands,Call.operands])];exact hy) ht hz hv hle hF'⟩
theorem YCa(id:Nat){cs:List AV}(hN:Nat.ble (k+1) E.N=true)(ht:TyOk E.P t size bytes zero d)(hz:(wFa zero).cells=some cs∨zero.cells.toList.map wFa=cs/\zero.cells.toList.all cellV=true)(hf:FR.has id=false)(hs:σ.has id=false)(hcs:AV.hasL id cs=false):
 HvD E ⟨some k,.alloc t,ty,pos,af,gu⟩ FR σ k (.ptr id 0) [] ((id,.cells cs)::σ):=
 ⟨fun fr _ hh=>kEb (zrb id hN ht hz (hh id hf) hs hcs) Wua qfa⟩
theorem Qra{f:FuncId}{xs:List Operand}{ats:Array TypeId}{args:List AV}{els:List (List PV)}(r:Nat)(hr:RunO E.P f args e size els)(hN:Nat.ble (k+1) E.N=true)(hf:FR.has r=false)(hs:σ.has r=false)(ha:xs.map (fun x=>(FR.ev x).weak)=args):
 HvD E ⟨some k,.call ⟨.value (.func f),xs.toArray,ats⟩,ty,pos,af,gu⟩ FR σ k (.hs r 0) [] ((r,.row e true size els)::σ):=
 ⟨fun fr he hh=>kEb (Zeb r hr hN (hh r hf) hs (by
  rw[<-ha];refine jDf fun x hx=>?_
  rw[he x (by simp[Op.operands,Call.operands,hx])])) Wua qfa⟩
theorem jva{α:Type}{F:α->List PV}{l xs r' :List α}{lim sb ss:Nat}{nl:Option Bool}{x y:Operand}{mu:Bool}{sz:Value}(hN:Nat.ble (k+1) E.N=true)(hx:FR.ev x=.hs r 0)(hr:σ.get r=some (.row e mu size (l.map F)))(hy:FR.ev y=.pv (.sl nl (xs.map F)))(ht:TyOk E.P t ss sb sz (.slice e))(he:TyOk E.P e size bytes zero d)
 (hzz:Nat.beq zero.cells.size size=true) (hs:Nat.ble 1 size=true) (hF:∀x,(F x).length=size) (hlim:(Nat.ble (lim * bytes) 140737488355328 && Nat.ble lim 9223372036854775807)=true) (h:app lim l xs=some r'):
 HvD E ⟨some k,.call ⟨.builtin .append, #[x,y], #[t,t]⟩,ty,pos,af,gu⟩ FR σ k (.hs r 0) [r] ((σ.clr r).upd r (.row e mu size (r'.map F))):=
 ⟨fun fr hE _=>kEb (YRa hN ((hE x (by simp[Op.operands,Call.operands])).trans hx) hr ((hE y (by simp[Op.operands,Call.operands])).trans hy) ht he hzz hs hF hlim h) Zlb qfa⟩
theorem yWb{α:Type}{F:α->List PV}{l:List α}{f:FuncId}{xs:List Operand}{ats:Array TypeId}{args:List AV}{c:AV}(dd:Nat)(hr:Run E.P f args c)(hN:Nat.ble (k+1) E.N=true)(hm0:(xs.any fun x=>match x with | .tmp t=>Nat.beq t dd | _=>false)=true)(hd:FR.get dd=.hs r 0)(hrow:σ.get r=some (.row e true size (l.map F)))(ha:xs.map (fun x=>(Fr.ev ((dd,.l F l)::FR) x).weak)=args):
 HvD E ⟨some k,.call ⟨.value (.func f),xs.toArray,ats⟩,ty,pos,af,gu⟩ FR σ k c [r] (σ.upd r (.row e false size (l.map F))):=
 ⟨fun fr he _=>⟨fun g a K Q hst hK=>by
  have hm:Operand.tmp dd∈xs:=by
   obtain ⟨x,hx,h1⟩:=List.any_eq_true.1 hm0;cases x with
   | tmp t=>rw[<-jAm h1];exact hx
   | _=>cases h1
  have hd' :fr.get dd=.hs r 0:=(he (.tmp dd) (by simp[Op.operands,Call.operands,hm])).trans hd;have hst1:=hst.unmu hrow;obtain ⟨g',hw,hl,hst2,hv⟩:=hst1.pub (by rw[Sto.get_upd hrow,if_pos rfl]);have h1:=hst2.fr dd;rw[hd']at h1;have hst3:=hst2.reslot (d:=dd) (hv _ h1);have hcall:=(qGb (σ:=σ.upd r (.row e false size (l.map F))) (fr:=(dd,.l F l)::fr) (k:=k) (ty:=ty) (pos:=pos) (af:=af) (gu:=gu) (ats:=ats) hr hN (xs:=xs) (by
   rw[<-ha];refine jDf fun x hx=>?_
   have:=he x (by simp[Op.operands,Call.operands,hx]);cases x with
   | tmp t=>
    show (Fr.get ((dd,_)::fr) t).weak=(Fr.get ((dd,_)::FR) t).weak;rw[Fr.get_cons,Fr.get_cons];split
    .rfl
    rw[show fr.get t=FR.get t from this]
   | const v=>rfl
   | global q=>rfl
   | func f=>rfl)).go g' a K Q hst3 fun g2 a2 h2=>hK g2 a2 (h2.le (fun d' =>?_) qfa)
  .rw[hw]at hcall;exact hcall
  rw[Fr.get_cons,Fr.get_cons,Fr.get_cons,Fr.get_clrs];by_cases hk:k=d'
  .rw[if_pos hk,if_pos hk];exact .inr (.inl rfl)
  rw[if_neg hk,if_neg hk];by_cases hdd:dd=d'
  .subst hdd;rw[hd'];refine .inl ?_;simp[AV.clrs,AV.has]
  rw[if_neg hdd];unfold AV.clrs;cases ([r].any fun r=>(fr.get d').has r) with
  | true=>exact .inl rfl
  | false=>exact .inr (.inl rfl)⟩⟩
end
end
section
section
variable {P:Program} {ρ:Operand->AV} {σ:Sto} {dst:Option Tmp} {ty:TypeId} {pos:String} {af:Array Edge} {gu:Option (Nat × Bool)} {x y:Operand} {t t' :TypeId} {ss sb ss' sb' :Nat} {sz sz' :Value} {a b n:Int}
end
end
structure zqa where
 Code:Int
 Index:Int
def zqa.pc(x:zqa):List PV:=[pI x.Code,pI x.Index]
structure j8a where
 Address:Str
 To:List Str
def j8a.pc(x:j8a):List PV:=[pS x.Address,pL cS x.To]
structure zba where
 Address:Str
 Notify:Int
def zba.pc(x:zba):List PV:=[pS x.Address,pI x.Notify]
structure zFa where
 From:Str
 To:List zba
 Id:Str
def zFa.pc(x:zFa):List PV:=[pS x.From,pL zba.pc x.To,pS x.Id]
structure zga where
 Name:Str
 Value:Str
def zga.pc(x:zga):List PV:=[pS x.Name,pS x.Value]
structure zta where
 Fields:List zga
 Body:List UInt8
def zta.pc(x:zta):List PV:=[pL zga.pc x.Fields,pL cU x.Body]
structure zua where
 Envelope:zFa
 Message:zta
def zua.pc(x:zua):List PV:=[pS x.Envelope.From,pL zba.pc x.Envelope.To,pS x.Envelope.Id,pL zga.pc x.Message.Fields,pL cU x.Message.Body]
structure zra where
 Code:Int
 Lines:List Str
def zra.pc(x:zra):List PV:=[pI x.Code,pL cS x.Lines]
structure zfa where
 Verb:Int
 Name:Str
 Address:Str
 Size:Int
 Notify:Int
 Last:Bool
def zfa.pc(x:zfa):List PV:=[pI x.Verb,pS x.Name,pS x.Address,pI x.Size,pI x.Notify,pB x.Last]
structure zla where
 n:Int
 word:Str
def zla.pc(x:zla):List PV:=[pI x.n,pS x.word]
structure zna where
 Name:Str
 Mail:zua
 Pipelined:Bool
 Buffer:List UInt8
 Expected:Int
 Whole:Bool
 Done:Bool
 Results:List Int
def zna.pc(x:zna):List PV:=[pS x.Name,pS x.Mail.Envelope.From,pL zba.pc x.Mail.Envelope.To,pS x.Mail.Envelope.Id,pL zga.pc x.Mail.Message.Fields,pL cU x.Mail.Message.Body,pB x.Pipelined,pL cU x.Buffer,pI x.Expected,pB x.Whole,pB x.Done,pL cI x.Results]
structure zca where
 Client:zna
 content:List UInt8
 chunk:Bool
 out:List UInt8
def zca.pc(x:zca):List PV:=[pS x.Client.Name,pS x.Client.Mail.Envelope.From,pL zba.pc x.Client.Mail.Envelope.To,pS x.Client.Mail.Envelope.Id,pL zga.pc x.Client.Mail.Message.Fields,pL cU x.Client.Mail.Message.Body,pB x.Client.Pipelined,pL cU x.Client.Buffer,pI x.Client.Expected,pB x.Client.Whole,pB x.Client.Done,pL cI x.Client.Results,pL cU x.content,pB x.chunk,pL cU x.out]
structure z9a where
 C:zna
 Out:List UInt8
def z9a.pc(x:z9a):List PV:=[pS x.C.Name,pS x.C.Mail.Envelope.From,pL zba.pc x.C.Mail.Envelope.To,pS x.C.Mail.Envelope.Id,pL zga.pc x.C.Mail.Message.Fields,pL cU x.C.Mail.Message.Body,pB x.C.Pipelined,pL cU x.C.Buffer,pI x.C.Expected,pB x.C.Whole,pB x.C.Done,pL cI x.C.Results,pL cU x.Out]
structure zsa where
 Name:Str
 Size:Int
 Many:Int
 Phase:Int
 Greeted:Bool
 Mailing:Bool
 From:Str
 To:List zba
 Buffer:List UInt8
 Data:List UInt8
 Lost:Int
 Dots:Int
 Chunked:Bool
 Left:Int
 Last:Bool
 Ignore:Bool
 Count:Int
def zsa.pc(x:zsa):List PV:=[pS x.Name,pI x.Size,pI x.Many,pI x.Phase,pB x.Greeted,pB x.Mailing,pS x.From,pL zba.pc x.To,pL cU x.Buffer,pL cU x.Data,pI x.Lost,pI x.Dots,pB x.Chunked,pI x.Left,pB x.Last,pB x.Ignore,pI x.Count]
structure zda where
 Server:zsa
 replies:List zra
 mails:List zua
def zda.pc(x:zda):List PV:=[pS x.Server.Name,pI x.Server.Size,pI x.Server.Many,pI x.Server.Phase,pB x.Server.Greeted,pB x.Server.Mailing,pS x.Server.From,pL zba.pc x.Server.To,pL cU x.Server.Buffer,pL cU x.Server.Data,pI x.Server.Lost,pI x.Server.Dots,pB x.Server.Chunked,pI x.Server.Left,pB x.Server.Last,pB x.Server.Ignore,pI x.Server.Count,pL zra.pc x.replies,pL zua.pc x.mails]
structure zSa where
 S:zsa
 Replies:List zra
 Mails:List zua
def zSa.pc(x:zSa):List PV:=[pS x.S.Name,pI x.S.Size,pI x.S.Many,pI x.S.Phase,pB x.S.Greeted,pB x.S.Mailing,pS x.S.From,pL zba.pc x.S.To,pL cU x.S.Buffer,pL cU x.S.Data,pI x.S.Lost,pI x.S.Dots,pB x.S.Chunked,pI x.S.Left,pB x.S.Last,pB x.S.Ignore,pI x.S.Count,pL zra.pc x.Replies,pL zua.pc x.Mails]
structure zma where
 client:zna
 server:zsa
 down:List UInt8
 up:List UInt8
 mails:List zua
def zma.pc(x:zma):List PV:=[pS x.client.Name,pS x.client.Mail.Envelope.From,pL zba.pc x.client.Mail.Envelope.To,pS x.client.Mail.Envelope.Id,pL zga.pc x.client.Mail.Message.Fields,pL cU x.client.Mail.Message.Body,pB x.client.Pipelined,pL cU x.client.Buffer,pI x.client.Expected,pB x.client.Whole,pB x.client.Done,pL cI x.client.Results,pS x.server.Name,pI x.server.Size,pI x.server.Many,pI x.server.Phase,pB x.server.Greeted,pB x.server.Mailing,pS x.server.From,pL zba.pc x.server.To,pL cU x.server.Buffer,pL cU x.server.Data,pI x.server.Lost,pI x.server.Dots,pB x.server.Chunked,pI x.server.Left,pB x.server.Last,pB x.server.Ignore,pI x.server.Count,pL cU x.down,pL cU x.up,pL zua.pc x.mails]
def zN0(x:zua):List AV:=[.s x.Envelope.From,.l zba.pc x.Envelope.To,.s x.Envelope.Id,.l zga.pc x.Message.Fields,.l cU x.Message.Body]
def zN1(x:zfa):List AV:=[.i x.Verb,.s x.Name,.s x.Address,.i x.Size,.i x.Notify,.bo x.Last]
def zN2(x:zna):List AV:=[.s x.Name,.s x.Mail.Envelope.From,.l zba.pc x.Mail.Envelope.To,.s x.Mail.Envelope.Id,.l zga.pc x.Mail.Message.Fields,.l cU x.Mail.Message.Body,.bo x.Pipelined,.l cU x.Buffer,.i x.Expected,.bo x.Whole,.bo x.Done,.l cI x.Results]
def zN3(x:zsa):List AV:=[.s x.Name,.i x.Size,.i x.Many,.i x.Phase,.bo x.Greeted,.bo x.Mailing,.s x.From,.l zba.pc x.To,.l cU x.Buffer,.l cU x.Data,.i x.Lost,.i x.Dots,.bo x.Chunked,.i x.Left,.bo x.Last,.bo x.Ignore,.i x.Count]
section
open Go.RowKit Go.Lib Go.Proofs.Tryz
variable {E:Env} {fr:Fr} {σ:Sto} {K:Post} {T:Tab} {l:List Oper} {cs:List (Option AV)} {all:List Node} {H:List Bool}
theorem woa.of:∀{is:List Nat},(∀i∈is,YZa E l cs all H fr σ i)->woa E l cs all H fr σ is
 | [],_=>.nil
 | i::is,h=>.cons (h i (by simp)) (woa.of fun j hj=>h j (by simp[hj]))
def kFb(T:Tab)(l:List Oper)(cs:List (Option AV))(fr:Fr)(σ:Sto)(i:Nat):Option AV:=(l[i]?).bind fun o=>qval T (purF l cs (allT l)++fr).ev σ o.op
def QHa(cs:List (Option AV))(i:Nat):Option AV:=(cs[i]?).bind id
def KFa(l:List Oper)(cs:List (Option AV))(H:List Bool)(is:List Nat):List Nat:=(mayL l cs H).filter fun i=> !is.contains i
theorem ms_all(hT:kca E.P T)(is:List Nat)(h1:((KFa l cs H is).map (kFb T l cs fr σ),(KFa l cs H is).all (fun i=>(QHa cs i).isSome))=((KFa l cs H is).map (QHa cs),true))(h2:woa E l cs all H fr σ is):woa E l cs all H fr σ (mayL l cs H):=by
 refine woa.of fun i hi=>?_
 by_cases hc:is.contains i=true
 .exact h2.get (by simpa using hc)
 have hm:i∈KFa l cs H is:=by
  unfold KFa;rw[jDe];exact ⟨hi,by simpa using hc⟩
 have e1:=congrArg Prod.fst h1;have e2:=congrArg Prod.snd h1;have hq:kFb T l cs fr σ i=QHa cs i:=List.map_inj_left.1 e1 i hm;have hs:(QHa cs i).isSome=true:=jAw.1 e2 i hm;obtain ⟨c,hcc⟩:=Option.isSome_iff_exists.1 hs;rw[hcc]at hq;obtain ⟨o,ho,hv⟩:=Option.bind_eq_some_iff.1 hq;obtain ⟨x,hx,hxc⟩:=Option.bind_eq_some_iff.1 hcc;have hxc:x=some c:=hxc;subst hxc;exact .pure ho hx (kua (Wta hT hv))
theorem mn(hT:kca E.P T)(is:List Nat)(h1:(((List.range l.length).all fun i=> !(isHv cs i) || H.getD i false),(KFa l cs H is).map (kFb T l cs fr σ),(KFa l cs H is).all (fun i=>(QHa cs i).isSome))=(false,(KFa l cs H is).map (QHa cs),true))(h2:woa E l cs all H fr σ is):kDb E l cs K all (H,fr,σ):=
 .step _ rfl (congrArg Prod.fst h1) (ms_all hT is (congrArg Prod.snd h1) h2)
theorem mf(hT:kca E.P T)(is:List Nat)(frJ:Fr)(h1:((KFa l cs H is).map (kFb T l cs fr σ),(KFa l cs H is).all (fun i=>(QHa cs i).isSome))=((KFa l cs H is).map (QHa cs),true))(h2:woa E l cs all H fr σ is)(hf:FrLe (purF l cs (allT l)++fr) frJ)(h:K .normal frJ σ):kDb E l cs K all (H,fr,σ):=
 .full _ rfl (ms_all hT is h1 h2) hf qfa h
theorem mst(j:Nat){i:Nat}{o:Oper}{σ' :Sto}(ho:l[i]? =some o)(h:HvS E o (purF l cs (allT l)++fr) σ σ')(e:(cs[i]?,all[j]?)=(some none,some (H.set i true,fr,σ'))):YZa E l cs all H fr σ i:=
 .sto j ho (congrArg Prod.fst e) h (congrArg Prod.snd e) vTa qfa
theorem mdt(j:Nat){i k:Nat}{o:Oper}{c:AV}{rs:List Nat}{σ' :Sto}(ho:l[i]? =some o)(h:HvD E o (purF l cs (allT l)++fr) σ k c rs σ')(e:(((List.range l.length).all fun i=>y7a l cs i !=some k),q0b cs rs,cs[i]?,all[j]?)=(true,true,some none,some (H.set i true,(k,c)::fr.clrs rs,σ'))):YZa E l cs all H fr σ i:=
 .dst j ho (congrArg (fun x=>x.2.2.1) e) (congrArg (fun x=>x.1) e) (congrArg (fun x=>x.2.1) e) h (congrArg (fun x=>x.2.2.2) e) vTa qfa
theorem hv_g{o:Oper}{k:Nat}{c:AV}(hk:o.dst=some k)(hN:Nat.ble (k+1) E.N=true)(h:OpG E o fr σ c):HvD E o fr σ k c [] σ:=
 ⟨fun f2 he _=>kEb (opTo_g hk hN ⟨fun g a K Q hx=>h.go g a K Q fun x hm=>by rw[<-he x hm];exact hx x hm⟩) Wua qfa⟩
end
section
open Go.RowKit Go.Lib Go.Proofs.Tryz
variable {E:Env} {fr:Fr} {σ:Sto} {K:Post} {T:Tab} {l:List Oper} {cs:List (Option AV)} {all:List Node} {H:List Bool}
def tget:List (Nat × AV)->Nat->Option AV
 | [],_=>none
 | (k,c)::r,i=>bif Nat.beq k i then some c else tget r i
def zrun(T:Tab)(N:Nat)(tl:List (Nat × AV)):List Oper->Nat->Fr->Sto->Option (List (Option AV) × List Sto × Sto)
 | [],_,_,σ=>some ([],[],σ)
 | o::r,i,fr,σ=>match o.dst with
  | none=>(match opDo T N o fr σ with
   | some (_,σ')=>(match zrun T N tl r (i+1) fr σ' with
    | some (cs,ss,sj)=>some (none::cs,σ' ::ss,sj)
    | none=>none)
   | none=>none)
  | some d=>(match (match tget tl i with | some c=>some c | none=>qval T fr.ev σ o.op) with
   | some c=>(match zrun T N tl r (i+1) ((d,c)::fr) σ with
    | some (cs,ss,sj)=>some (some c::cs,ss,sj)
    | none=>none)
   | none=>none)
def hvL(l:List Oper)(cs:List (Option AV)):List Nat:=(List.range l.length).filter (isHv cs)
def hvH(l:List Oper)(cs:List (Option AV))(k:Nat):List Bool:=(List.range l.length).map fun i=>((hvL l cs).take k).contains i
def stoK(σ:Sto)(ss:List Sto)(k:Nat):Sto:=(σ::ss).getD k σ
def nodK(l:List Oper)(cs:List (Option AV))(fr:Fr)(σ:Sto)(ss:List Sto)(k:Nat):Node:=(hvH l cs k,fr,stoK σ ss k)
def nods(l:List Oper)(cs:List (Option AV))(fr:Fr)(σ:Sto)(ss:List Sto):List Node:=(List.range ((hvL l cs).length+1)).map (nodK l cs fr σ ss)
def purK(l:List Oper)(cs:List (Option AV))(tl:List (Nat × AV))(k:Nat):List Nat:=(mayL l cs (hvH l cs k)).filter fun i=> !(isHv cs i) && (tget tl i).isNone
def stoD(T:Tab)(N:Nat)(l:List Oper)(cs:List (Option AV))(fr:Fr)(σ:Sto)(ss:List Sto)(k:Nat):Option Sto:=match l[(hvL l cs).getD k 0]? with
 | some o=>(match o.dst with
  | none=>(opDo T N o (purF l cs (allT l)++fr) (stoK σ ss k)).map Prod.snd
  | some _=>none)
 | none=>none
def zchk(N:Nat)(tl:List (Nat × AV))(l:List Oper)(cs:List (Option AV)):Bool:=
 yVb N l cs &&
 ((List.range ((hvL l cs).length+1)).all fun k=>(mayL l cs (hvH l cs k)).all fun i=> !(isHv cs i) || (Nat.beq i ((hvL l cs).getD k 0) && Nat.ble (k+1) (hvL l cs).length)) &&
 ((List.range (hvL l cs).length).all fun k=>((hvH l cs k).set ((hvL l cs).getD k 0) true==hvH l cs (k+1)) && !((List.range l.length).all fun i=> !(isHv cs i) || (hvH l cs k).getD i false)) &&
 (hvH l cs 0==List.replicate l.length false) &&
 ((List.range ((hvL l cs).length+1)).all fun k=>(purK l cs tl k).all fun i=>(QHa cs i).isSome)
inductive Told (E:Env) (l:List Oper) (cs:List (Option AV)) (fr:Fr) (L:List Sto):List (Nat × AV)->Prop
 | nil:Told E l cs fr L []
 | cons {i:Nat} {c:AV} {o:Oper} {r:List (Nat × AV)} (ho:l[i]? =some o) (hc:cs[i]? =some (some c)) (h:∀s,s∈L->OpG E o (purF l cs (allT l)++fr) s c) (hr:Told E l cs fr L r):Told E l cs fr L ((i,c)::r)
theorem t0{o:Oper}{FR:Fr}{c:AV}(h:OpG E o FR σ c):∀s,s∈ [σ]->OpG E o FR s c:=fun s hs=>by
 rw[jBi.1 hs];exact h
theorem Told.get{L:List Sto}{tl:List (Nat × AV)}(h:Told E l cs fr L tl){i:Nat}(hi:(tget tl i).isSome=true):∃o c,l[i]? =some o/\cs[i]? =some (some c)/\∀s,s∈L->OpG E o (purF l cs (allT l)++fr) s c:=by
 induction h with
 | nil=>cases hi
 | @cons k c o r ho hc h _ ih=>
  unfold tget at hi;cases hb:Nat.beq k i with
  | true=>
   have:=jAm hb;subst this;exact ⟨o,c,ho,hc,h⟩
  | false=>rw[hb]at hi;exact ih hi
theorem KDa.of:∀{r:List Node},(∀nd∈r,kDb E l cs K all nd)->KDa E l cs K all r
 | [],_=>.nil
 | nd::r,h=>.cons (h nd (by simp)) (KDa.of fun x hx=>h x (by simp[hx]))
theorem opDo_sto{N:Nat}{o:Oper}{FR:Fr}{p:Fr × Sto}(hT:kca E.P T)(hN:N=E.N)(hd:o.dst=none)(h:opDo T N o FR σ=some p):HvS E o FR σ p.2:=by
 subst hN;obtain ⟨f2,σ'⟩:=p;refine ⟨fun fr he _=>?_⟩;refine wOb hT ?_;obtain ⟨dst,op,ty,pos,af,gu⟩:=o;dsimp only at hd;subst hd;unfold opDo at h ⊢;dsimp only at h ⊢;cases op
 case store t x y=>
  have e1:=he x (by simp[Op.operands,Call.operands]);have e2:=he y (by simp[Op.operands,Call.operands]);dsimp only at h ⊢;rw[e1,e2];split at h
  .rename_i row hr;split at h
   .rename_i b off hx;split at h
    .rename_i cs' ho;split at h
     .rename_i vs hy;cases hb:(Nat.beq vs.length row.size && Nat.ble (off+vs.length) cs'.length) with
      | false=>rw[hb]at h;cases h
      | true=>
       rw[hb]at h;simp only[cond_true]at h ⊢;split at h
       .rename_i c2 hc2;split at h
        .rename_i s2 hs2;cases h;simp only[hr,hx,ho,hy,hb,hc2,hs2,cond_true]
        cases h
       cases h
     cases h
    cases h
   cases h
  cases h
 all_goals cases h
theorem mc(hT:kca E.P T){id:Nat}(tl:List (Nat × AV))(frJ:Fr){ss:List Sto}{σJ:Sto}(hmix:E.P.follows .mixedOrders=true)(hz:zrun T E.N tl l 0 fr σ=some (cs,ss,σJ))
 (hk:(zchk E.N tl l cs,(List.range ((hvL l cs).length+1)).map (fun k=>(purK l cs tl k).map (kFb T l cs fr (stoK σ ss k))),(List.range (hvL l cs).length).map (stoD T E.N l cs fr σ ss),stoK σ ss (hvL l cs).length)=(true,(List.range ((hvL l cs).length+1)).map (fun k=>(purK l cs tl k).map (QHa cs)),(List.range (hvL l cs).length).map (fun k=>some (stoK σ ss (k+1))),σJ))
 (ht:Told E l cs fr (σ::ss) tl) (hf:FrLe (purF l cs (allT l)++fr) frJ) (h:K .normal frJ σJ):AWP E (.region id l.toArray true) fr σ K:=by
 have k1:=congrArg (fun x=>x.1) hk;have k2:=congrArg (fun x=>x.2.1) hk;have k3:=congrArg (fun x=>x.2.2.1) hk;have k4:=congrArg (fun x=>x.2.2.2) hk;dsimp only at k1 k2 k3 k4;rw[<-k4]at h;have hin:∀k,stoK σ ss k∈σ::ss:=fun k=>by
  unfold stoK;rw[jAv];cases hg:(σ::ss)[k]? with
  | none=>simp
  | some s=>exact jAi hg
 simp only[zchk,jAh,jAw]at k1;obtain ⟨⟨⟨⟨q1,q2⟩,q3⟩,q4⟩,q5⟩:=k1;have hget:∀k,k < (hvL l cs).length+1->(nods l cs fr σ ss)[k]? =some (nodK l cs fr σ ss k):=fun k hk=>by
  unfold nods;rw[jAk,jEc hk];rfl
 refine zBb cs (nods l cs fr σ ss) hmix q1 (hget 0 (by omega)) (by simpa using q4) vTa qfa (KDa.of fun nd hnd=>?_);obtain ⟨k,hk',rfl⟩:=jCd.1 hnd;have hkr:k < (hvL l cs).length+1:=by simpa using hk'
 have steps:woa E l cs (nods l cs fr σ ss) (hvH l cs k) fr (stoK σ ss k) (mayL l cs (hvH l cs k)):=woa.of fun i hi=>by
  have hi2:=q2 k (by simpa using hkr) i hi;cases hh:isHv cs i with
  | true=>
   rw[hh]at hi2;simp only[jBf,jDs,jAh]at hi2;have hik:=jAm hi2.1;have hkn:=jAf hi2.2;have h3:=List.map_inj_left.1 k3 k (jEj.2 (by omega));have hq3:=q3 k (jEj.2 (by omega));simp only[jAh,beq_iff_eq]at hq3;unfold stoD at h3;rw[<-hik]at h3 hq3;split at h3
   .rename_i o ho;split at h3
    .rename_i hd;obtain ⟨p,hp,hp2⟩:=jAg.1 h3;have hc:cs[i]? =some none:=by
      unfold isHv at hh;split at hh
      .rename_i e;exact e
      cases hh
     have hs:=opDo_sto hT rfl hd hp;rw[hp2]at hs;exact .sto (k+1) ho hc hs (by rw[hget (k+1) (by omega)];unfold nodK;rw[hq3.1]) vTa qfa
    cases h3
   cases h3
  | false=>
   cases htl:tget tl i with
   | some c0=>
    obtain ⟨o,c,e1,e2,e3⟩:=ht.get (i:=i) (by rw[htl];rfl);exact .pure e1 e2 (e3 _ (hin k))
   | none=>
    have hm:i∈purK l cs tl k:=by
     unfold purK;rw[jDe];exact ⟨hi,by rw[hh,htl];rfl⟩
    have e1:=List.map_inj_left.1 k2 k (by simpa using hkr);have hq:kFb T l cs fr (stoK σ ss k) i=QHa cs i:=List.map_inj_left.1 e1 i hm;have hs:=q5 k (by simpa using hkr) i hm;obtain ⟨c,hcc⟩:=Option.isSome_iff_exists.1 hs;rw[hcc]at hq;obtain ⟨o,ho,hv⟩:=Option.bind_eq_some_iff.1 hq;obtain ⟨x,hx,hxc⟩:=Option.bind_eq_some_iff.1 hcc;have hxc:x=some c:=hxc;subst hxc;exact .pure ho hx (kua (Wta hT hv))
 by_cases hkn:k < (hvL l cs).length
 .have hq3:=q3 k (by simpa using hkn);simp only[jAh,jCn]at hq3;exact .step _ rfl hq3.2 steps
 have:k=(hvL l cs).length:=by omega
 subst this;exact .full _ rfl steps hf qfa h
end
end Go.Proofs.YtjjgjalfelnclaaGreatDoor
