/- Part 2 of the proof of the law DigestReadMatchesSpec: what it needs. -/
import Derived.Test.YthbbeodmpnmopaaGreatDoorKDigestReadMatchesSpec1
import Derived.MapKept
import Derived.Laws.Cover3
import Derived.Laws.RangeAny
import Derived.Lib.AppendZeros
import Derived.Test.YthbbeodmpnmopaaGreatDoorRows
import Derived.ProofKit
import Derived.Deep.Slices
import Derived.WalkKit
import Derived.WalkSpells
import Derived.WalkLawsBesides
import Derived.Deep.QuietTactic
import Derived.BigQuiet
import Derived.Lib.Hide
import Derived.Handy
import Derived.Deep.RegionHeld3
import Derived.OpenShut
import Derived.ShutString
import Derived.ChangeOld
import Derived.Below
import Derived.JoinedCond
import Derived.JoinedOf
import Derived.Test.YthbbeodmpnmopaaGreatDoorCards
import Derived.Test.YthbbeodmpnmopaaGreatDoorTie
import Derived.HandedShaped
import Derived.Shelf.Vars
import Derived.Deep.DeepHandedRow
import Derived.Deep.DeepWitnessRowRef
import Derived.Lib.LaidTab
import Derived.Lib.LaidU8
import Derived.LaidMore
import Derived.MakeChecks
import Derived.SevenTiedAt
import Derived.Stop.LaidErr
import Derived.PinnedBridge
set_option linter.unusedVariables false
set_option linter.unusedSimpArgs false
set_option maxRecDepth 100000
set_option maxHeartbeats 40000000
namespace Go.Proofs.YthbbeodmpnmopaaGreatDoor
open Go.RowKit Go.Proofs.Tryz
section
open Go.RowKit Go.Lib Go.Proofs.Tryz
variable {E:Env} {fr:Fr} {σ:Sto} {K:Post} {P:Program} {ρ:Operand->AV}
variable {dst:Option Tmp} {ty:TypeId} {pos:String} {af:Array Edge} {gu:Option (Nat × Bool)}
theorem St.objset{g g' :G}{a:Act}(h:St E g a fr σ){r:Nat}{ob0 ob:AO}(hr:σ.get r=some ob0)(hx:Ext g.w g.u g'.w g'.u)(hl:g'.loc=g.loc)
 (hos:g'.w.os=g.w.os) (htape:g'.w.tape=g.w.tape) (hout:g'.w.output=g.w.output)
 (hb:∀b,b < g.w.heap.size->¬ob0.own (g.loc r) b->g'.w.heap[b]? =g.w.heap[b]? /\g'.u b=g.u b) (hwf:Wf g') (hob:RelO g' r ob)
 (hk:∀l,ob0.own l=ob.own l):St E g' a fr (σ.upd r ob):=by
 have hget:=Sto.get_upd (ob:=ob) hr;have hsome:∀k ob1,(σ.upd r ob).get k=some ob1->∃ob',σ.get k=some ob' /\∀l,ob'.own l=ob1.own l:=by
  intro k ob1 hk1;rw[hget]at hk1;split at hk1
  .simp_all
  simp_all
 refine ⟨fun d=>(h.fr d).mono hx (fun k _=>by rw[hl]),h.n,h.df.mono hx,⟨?_,?_,?_,?_,hwf⟩⟩
 .intro k ob1 hk1;rw[hget]at hk1;split at hk1
  .simp_all
  rename_i hkr;refine (h.so.obj k ob1 hk1).mono hx (by rw[hl]) (fun _ _=>by rw[hl]) fun b' hb' =>hb b' ((h.so.obj k ob1 hk1).block_lt hb') fun hc=>?_
  exact hkr (h.so.apart k r ob1 _ b' hk1 hr hb' hc)
 .intro k k' ob1 ob2 b' h1 h2 h3 h4;obtain ⟨_,e1,q1⟩:=hsome k ob1 h1;obtain ⟨_,e2,q2⟩:=hsome k' ob2 h2;rw[<-q1,hl]at h3;rw[<-q2,hl]at h4;exact h.so.apart k k' _ _ b' e1 e2 h3 h4
 .intro k ob1 b' h1 h2;obtain ⟨_,e1,q1⟩:=hsome k ob1 h1;rw[<-q1,hl]at h2;exact h.so.mine k _ b' e1 h2
 refine h.so.old.trans ⟨hos,htape,hout,hx,fun k hk1 hs=>hb k hk1 fun hc=>?_⟩;rcases h.so.mine r _ k hr hc with h1 | h1
 all_goals simp_all
section
variable {α:Type} {F:α->List PV} {l:List α} {r size bytes sb ss k:Nat} {e t:TypeId} {mu:Bool} {zero sz:Value} {d:TypeDesc} {x y:Operand}
theorem JNa{lo hi:Option Operand}{p q:Int}{v:List α}(hN:Nat.ble (k+1) E.N=true)(hx:fr.ev x=.hs r 0)(hr:σ.get r=some (.row e mu size (l.map F)))
 (hlo:lo=none/\p=0∨∃o k,lo=some o/\fr.ev o=.pv (.b (.int k p))) (hhi:hi=none/\q=l.length∨mu=true/\∃o k,hi=some o/\fr.ev o=.pv (.b (.int k q)))
 (ht:TyOk E.P t ss sb sz (.slice e)) (he:TyOk E.P e size bytes zero d) (hv:cut l p q=some v):
 OpTo E ⟨some k,.slice t x lo hi none,ty,pos,af,gu⟩ fr σ ((k,.hs r 0)::fr.clr r) ((σ.clr r).upd r (.row e mu size (v.map F))):=
 ⟨fun g a K Q hst hK=>by
  obtain ⟨h0,h01,h02,rfl⟩:=WZa hv;refine ⟨fun _ _=>trivial,?_⟩;rw[jAz _ _ _ (fun c=>by simp)];have h1:=hst.ev x;rw[hx]at h1;have hob:=hst.so.obj r _ hr;have hlo' :lo.map a.eval=none/\p=0∨∃k,lo.map a.eval=some (.int k p):=by
   rcases hlo with ⟨rfl,rfl⟩ | ⟨o,k,rfl,ho⟩
   .simp_all
   have h2:=hst.ev o;rw[ho]at h2;exact .inr ⟨k,by simp[zKa h2]⟩
  have hhi' :hi.map a.eval=none/\q=l.length∨∃k,hi.map a.eval=some (.int k q):=by
   rcases hhi with ⟨rfl,rfl⟩ | ⟨_,o,k,rfl,ho⟩
   .simp_all
   have h2:=hst.ev o;rw[ho]at h2;exact .inr ⟨k,by simp[zKa h2]⟩
  have hrun:∀ad cap,a.eval x=.slice ad l.length cap->l.length<=cap->(execOp a.eval ⟨some k,.slice t x lo hi none,ty,pos,af,gu⟩).run E.P g.w=
   .ok (.value (.slice (if cap=p.toNat then ad else ad.map (·.add (p.toNat * size))) (q.toNat - p.toNat) (cap - p.toNat))) g.w:=by
   intro ad cap ev hcap;show Sem.run E.P (do let v <-Instr.sliceAt t (a.eval x) (lo.map a.eval) (hi.map a.eval) none;pure (Next.value v)) g.w=_;have hb:=yFa (P:=E.P) (w:=g.w) (len:=l.length) (cap:=cap) (lo:=lo.map a.eval) (hi:=hi.map a.eval) (a:=p) (b:=q) hcap hlo' hhi' h0 h01 h02;rw[ev];simp only[Instr.sliceAt,underlying,program,jAr,Sem.run,ht.u,jAo,jAv,Instr.slice,hb,he.sizeOf]
  have e1:(q - p).toNat=q.toNat - p.toNat:=by omega
  rw[e1]at hK;generalize hls:l.map F=ls at hob;cases hob with
  | nil hl=>
   obtain rfl:l=[]:=by simp_all
   have hp:p.toNat=0:=by simp at h02;omega
   have hq:q.toNat=0:=by simp at h02;omega
   generalize h1v:a.eval x=vx at h1;cases h1 with
   | hs h2=>simp_all
   | hsNil ax=>
    rw[hrun ax 0 h1v (by simp),jBf];have:=hst.row_upd (ob:=.row e mu size ((List.take (q.toNat - p.toNat) (List.drop p.toNat ([]:List α))).map F)) hr (Ext.refl _ _) (fun _ _=>rfl) rfl rfl rfl (fun _ _ _=>⟨rfl,rfl⟩) hst.so.wf (by simp;exact .nil hl) (fun b hb=>.inl hb);refine hK g _ (this.put (jAf hN) ?_);simp only[hp,hq,if_true,jDp];exact .hsNil _ hl
  | @row _ _ _ _ b off cap vs hl hb hn hm hle hz hu hmu hrel=>
   subst hls;simp only[jAx]at hl hle hu;have hlen:((l.drop p.toNat).take (q.toNat - p.toNat)).length=q.toNat - p.toNat:=by simp;omega
   generalize hev:a.eval x=vx at h1;cases h1 with
   | hsNil ax h2=>simp_all
   | @hs _ _ _ _ _ _ ad h2 ha=>
    rw[hl]at h2;cases h2;rw[hrun (some ad) cap hev hle,jBf];have hst' :=hst.row_upd (g' :=⟨g.w,g.u,fun k=>if k=r then .row b (off+p.toNat) (cap - p.toNat) size (q.toNat - p.toNat) else g.loc k⟩) (ob:=.row e mu size (((l.drop p.toNat).take (q.toNat - p.toNat)).map F)) hr (Ext.refl _ _) (fun k hk=>if_neg hk) rfl rfl rfl (fun _ _ _=>⟨rfl,rfl⟩) hst.so.wf
     (.row (off:=off+p.toNat) (cap:=cap - p.toNat) (by simp_all) hb (by grind) (by omega) (by grind)
      (fun z hz' =>by grind)
      (by
       grind) hmu (fun i j z c hi hj=>by
       simp only[jAk,jAh]at hi;obtain ⟨w,hw,rfl⟩:=hi;have hpl:i < q.toNat - p.toNat:=by have:=(jAd.1 hw).1;omega
       rw[jBd hpl,jBu]at hw;have:=hrel (p.toNat+i) j (F w) c (by grind) hj
       grind)) (fun b' hb' =>.inl (by simp only[if_true]at hb';rw[hl];exact hb'))
    refine hK ⟨g.w,g.u,fun k=>if k=r then .row b (off+p.toNat) (cap - p.toNat) size (q.toNat - p.toNat) else g.loc k⟩ _ (hst'.put (jAf hN) ?_);split
    .exact .hs (if_pos rfl) (fun hc=>by omega)
    refine .hs (if_pos rfl) (fun hc=>?_);rw[ha (by omega)];show Addr.add _ _=_;rw[qwa,jBn]⟩
theorem wNb{p:Int}{k1:IntKind}{v:List α}(hN:Nat.ble (k+1) E.N=true)(hx:fr.ev x=.hs r 0)(hr:σ.get r=some (.row e mu size (l.map F)))(hy:fr.ev y=.pv (.b (.int k1 p)))
 (ht:TyOk E.P t ss sb sz (.slice e)) (he:TyOk E.P e size bytes zero d) (hv:cut l p l.length=some v):
 OpTo E ⟨some k,.slice t x (some y) none none,ty,pos,af,gu⟩ fr σ ((k,.hs r 0)::fr.clr r) ((σ.clr r).upd r (.row e mu size (v.map F))):=JNa hN hx hr (.inr ⟨y,k1,rfl,hy⟩) (.inl ⟨rfl,rfl⟩) ht he hv
theorem wOb{q:Int}{k1:IntKind}{v:List α}(hN:Nat.ble (k+1) E.N=true)(hx:fr.ev x=.hs r 0)(hr:σ.get r=some (.row e true size (l.map F)))(hy:fr.ev y=.pv (.b (.int k1 q)))
 (ht:TyOk E.P t ss sb sz (.slice e)) (he:TyOk E.P e size bytes zero d) (hv:cut l 0 q=some v):
 OpTo E ⟨some k,.slice t x none (some y) none,ty,pos,af,gu⟩ fr σ ((k,.hs r 0)::fr.clr r) ((σ.clr r).upd r (.row e true size (v.map F))):=JNa hN hx hr (.inl ⟨rfl,rfl⟩) (.inr ⟨rfl,y,k1,rfl,hy⟩) ht he hv
theorem St.unmu{g:G}{a:Act}{els:List (List PV)}(h:St E g a fr σ)(hr:σ.get r=some (.row e true size els)):St E g a fr (σ.upd r (.row e false size els)):=by
 refine h.objset hr (Ext.refl _ _) rfl rfl rfl rfl (fun _ _ _=>⟨rfl,rfl⟩) h.so.wf ?_ (fun _=>rfl);cases h.so.obj r _ hr with
 | nil h1=>exact .nil h1
 | row h1 h2 h3 h4 h5 h6 h7 h8 h9=>exact .row h1 h2 h3 h4 h5 h6 h7 (fun hc=>by cases hc) h9
theorem Vea{ops:Array Oper}{ol:List Oper}{els:List (List PV)}(r:Nat)(hr:σ.get r=some (.row e true size els))(h:AWPL E ops ol fr (σ.upd r (.row e false size els)) K):AWPL E ops ol fr σ K:=
 ⟨fun g a hst=>h.go g a (hst.unmu hr)⟩
theorem Zya{c:Code}{els:List (List PV)}(r:Nat)(hr:σ.get r=some (.row e true size els))(h:AWP E c fr (σ.upd r (.row e false size els)) K):AWP E c fr σ K:=
 ⟨fun g a hst=>h.go g a (hst.unmu hr)⟩
theorem Zza{n:Int}{kk:IntKind}{v:α}(hx:ρ x=.hs r 0)(hy:ρ y=.pv (.b (.int kk n)))(hr:σ.get r=some (.row e mu size (l.map F)))(ht:TyOk P t ss sb sz (.slice e))(he:TyOk P e size bytes zero d)(hv:idx l n=some v):
 EvQ P ⟨dst,.indexAddr t x y,ty,pos,af,gu⟩ ρ σ (.hp r n.toNat 0):=
 ⟨fun c=>by simp,fun g ρv h hs=>by
  obtain ⟨h1,h2⟩:=ops2 (o:=⟨dst,.indexAddr t x y,ty,pos,af,gu⟩) (x:=x) (y:=y) rfl h;rw[hx]at h1;rw[hy]at h2;have e2:=zKa h2;obtain ⟨hn0,hv⟩:=wza hv;have hlt:n.toNat < l.length:=(jAd.1 hv).1;have hn2:n < l.length:=by omega
  obtain ⟨i,hi,hsz,hby,hzero⟩:=he.info;obtain ⟨old,ho1,ev,ho3⟩:=(hs r _ hr).old h1;obtain ⟨a0,old⟩:=old;cases old with
  | none=>rw[ho3.2]at hlt;grind
  | some o=>
   obtain ⟨b,off,cap,cur⟩:=o;obtain ⟨ad,rfl,ha⟩:=ho1.2.2.2.2;have ha:=ha (by have:=ho1.2.2.1;omega);subst ha;refine ⟨.pointer (some ⟨b,(off+n.toNat) * size+0,none⟩),?_,.hp ho3.1 hlt⟩;simp[execOp,Instr.indexAt,e2,ev,oldV,go_sem,asIntOf,underlying,ht.u,sizeOf,typeInfo,hi,hsz,hn0,hn2,qwa,jBn]⟩
theorem Yra{i j f:Nat}{fs:Array Field}{fl:Field}{fsize fbytes:Nat}{fzero:Value}{fd:TypeDesc}(hx:ρ x=.hp r i j)(ht:P.underlying t=some (.struct fs))(hf:fs[f]? =some fl)(hft:TyOk P fl.type fsize fbytes fzero fd)(hz:Nat.beq fsize 0=false):
 EvQ P ⟨dst,.fieldAddr t x f,ty,pos,af,gu⟩ ρ σ (.hp r i (j+fl.offset)):=
 ⟨fun c=>by simp,fun g ρv h _=>by
  have h1:=h x (by simp[Op.operands]);rw[hx]at h1;generalize hv:ρv x=v at h1;cases h1 with
  | @hp _ _ _ b off cap size n hl hi=>
   have hz' :fsize≠0:=by rintro rfl;simp at hz
   refine ⟨_,?_,.hp (j:=j+fl.offset) hl hi⟩;simp[execOp,Instr.fieldAt,Instr.sureAddr,hv,go_sem,underlying,ht,hf,fieldPlace,hft.sizeOf,hz',qwa,Nat.add_assoc]⟩
theorem zyb{g:G}{i j:Nat}{v:α}{vp:Value}(hob:RelO g r (.row e mu size (l.map F)))(hv:l[i]? =some v)(hp:Rel g (.hp r i j) vp):
 ∃b off cap vs,vp=.pointer (some ⟨b,(off+i) * size+j,none⟩)/\g.loc r=.row b off cap size l.length/\g.w.heap[b]? =some (.cells vs e (0,0))/\vs.size=(off+cap) * size/\cap<=maxLen/\l.length<=cap/\(F v).length=size/\(mu=true->g.u b=0)/\
  g.u b<=(off+l.length) * size/\(∀x∈l,(F x).length=size)/\∀i j x c,l[i]? =some x->(F x)[j]? =some c->RelP g.w g.u c (vs.getD ((off+i) * size+j) undef):=by
 generalize hls:l.map F=ls at hob;have hlt:i < l.length:=(jAd.1 hv).1;cases hob with
 | nil hl=>
  simp_all
 | @row _ _ _ _ b off cap vs h1 h2 h3 h3' h4 h5 h6 h7 h9=>
  subst hls;simp only[jAx]at h1 h4 h6;cases hp with
  | @hp _ _ _ b' off' cap' size' n' hl hi=>
   rw[h1]at hl;cases hl;exact ⟨b,off,cap,vs,rfl,h1,h2,h3,h3',h4,h5 _ (List.mem_map_of_mem (jAi hv)),h7,h6,fun x hx=>h5 _ (List.mem_map_of_mem hx),fun i j x c hi hj=>h9 i j (F x) c (by grind) hj⟩
theorem q7b{off i cap n size j s:Nat}(h1:i < n)(h2:n<=cap)(h3:j+s<=size):(off+i) * size+j+s<=(off+cap) * size:=by
 have:(off+i+1) * size<=(off+cap) * size:=jBc _ (by omega)
 grind
section
variable {t' :TypeId} {size' bytes' :Nat} {zero' :Value} {d' :TypeDesc} {n:Int} {j:Nat} {v v' :α} {c:PV}
theorem v1a(hx:ρ x=.hp r n.toNat j)(hr:σ.get r=some (.row e mu size (l.map F)))(ht:TyOk P t' size' bytes' zero' d')(hd:dAgg d' =false)(hv:idx l n=some v)(hc:(F v)[j]? =some c):EvQ P ⟨dst,.load t' x,ty,pos,af,gu⟩ ρ σ (.pv c):=
 ⟨fun c=>by simp,fun g ρv h hs=>by
  have h1:=h x (by simp[Op.operands]);rw[hx]at h1;obtain ⟨hn0,hv⟩:=wza hv;obtain ⟨b,off,cap,vs,e1,e2,e3,e4,e5,e6,e7,e8,e9,e10,e11⟩:=zyb (hs r _ hr) hv h1;have hj:j < size:=by rw[<-e7];exact (jAd.1 hc).1
  have hlt:=(jAd.1 hv).1;refine ⟨_,vDa e1 (wIa ht hd (kda e3 ?_)),.pv (e11 _ _ _ _ hv hc)⟩;rw[e4];exact q7b (s:=1) hlt e6 hj⟩
theorem Ysa(hx:ρ x=.hp r n.toNat j)(hr:σ.get r=some (.row e mu size (l.map F)))(ht:TyOk P t' size' bytes' zero' d')(hd:dAgg d' =true)(hv:idx l n=some v)(hle:Nat.ble (j+size') (F v).length=true):EvQ P ⟨dst,.load t' x,ty,pos,af,gu⟩ ρ σ (.agg ((((F v).drop j).take size').map .pv)):=
 ⟨fun c=>by simp,fun g ρv h hs=>by
  have h1:=h x (by simp[Op.operands]);rw[hx]at h1;obtain ⟨hn0,hv⟩:=wza hv;have hle:=jAf hle;obtain ⟨b,off,cap,vs,e1,e2,e3,e4,e5,e6,e7,e8,e9,e10,e11⟩:=zyb (hs r _ hr) hv h1;have hlt:=(jAd.1 hv).1;have hrel:∀q,q < size' ->∃c,(F v)[j+q]? =some c/\RelP g.w g.u c (vs.getD ((off+n.toNat) * size+(j+q)) undef):=by
   intro q hq;have h2:j+q < (F v).length:=by omega
   exact ⟨_,jAe h2,e11 _ _ _ _ hv (jAe h2)⟩
  refine ⟨_,vDa e1 (jha ht hd (f:=fun q=>vs.getD ((off+n.toNat) * size+(j+q)) undef) fun q hq=>?_),.agg (by grind) (fun q hq=>?_) (fun q c hq=>?_)⟩
  .rw[Nat.add_assoc];refine kda e3 ?_;rw[e4];have:=q7b (off:=off) (s:=1) (j:=j+q) (size:=size) hlt e6 (by omega);omega
  .simp only[List.size_toArray,jAx,List.length_range]at hq;rw[yDa _ _ _ hq];obtain ⟨c,_,hr⟩:=hrel q hq;exact hr.cellV
  simp only[jAk,jAh]at hq;obtain ⟨c',hc',rfl⟩:=hq;have hq2:q < size' :=by have:=(jAd.1 hc').1;simp at this;omega
  rw[jBd hq2,jBu]at hc';rw[yDa _ _ _ hq2];obtain ⟨c,hc,hr⟩:=hrel q hq2;rw[hc']at hc;cases hc;exact .pv hr⟩
theorem qZa{pcs:List PV}(hx:fr.ev x=.hp r n.toNat j)(hr:σ.get r=some (.row e true size (l.map F)))(hy:(fr.ev y).weak.cells=some (pcs.map .pv))(ht:TyOk E.P t' size' bytes' zero' d')(hz:Nat.beq pcs.length size' =true)
 (hv:idx l n=some v) (hle:Nat.ble (j+pcs.length) (F v).length=true) (hF' :F v' =(F v).take j++pcs++(F v).drop (j+pcs.length)):
 OpTo E ⟨none,.store t' x y,ty,pos,af,gu⟩ fr σ fr (σ.upd r (.row e true size ((l.set n.toNat v').map F))):=
 ⟨fun g a K Q hst hK=>by
  have hle:=jAf hle;have hz:=jAl hz;refine ⟨fun _ _=>trivial,?_⟩;rw[jAz _ _ _ (fun c=>by simp)];have h1:=hst.ev x;rw[hx]at h1;obtain ⟨hn0,hv⟩:=wza hv;obtain ⟨b,off,cap,cur,e1,e2,e3,e4,e5,e6,e7,e8,e9,e10,e11⟩:=zyb (hst.so.obj r _ hr) hv h1;obtain ⟨v1,v2,v3⟩:=jUa (qUa (hst.ev y)) hy;have hlt:=(jAd.1 hv).1;rw[jAx]at v1;have hfit:=q7b (off:=off) (s:=pcs.length) (j:=j) (size:=size) hlt e6 (by omega);have hu0:=e8 rfl;have hone:∀u∈(a.eval y).cells.toList,u.oneCell' =true:=by
   intro u hu;obtain ⟨i,hi,rfl⟩:=jBz hu;have h0:=v2 i (by omega);rw[show (a.eval y).cells.getD i undef=(a.eval y).cells.toList[i] by simp[Array.getD,show i < (a.eval y).cells.size by omega]]at h0;cases hcase:(a.eval y).cells.toList[i] <;> rw[hcase]at h0 <;> first | rfl | simp[cellV]at h0
  generalize hP:(off+n.toNat) * size+j=p at e1 hfit;have hs:=run_storeCells_at (P:=E.P) b p e (a.eval y).cells.toList 0 cur g.w e3 (by grind) hone;simp only[jBy]at hs;generalize hcs:(cur.toList.take p++(a.eval y).cells.toList++cur.toList.drop (p+(a.eval y).cells.toList.length))=cells at hs;have hrun:(execOp a.eval ⟨none,.store t' x y,ty,pos,af,gu⟩).run E.P g.w=.ok .skip (g.w.setRow b cells.toArray):=by
   show Sem.run E.P (do Instr.storeAt t' (a.eval x) (a.eval y);pure Next.skip) g.w=_;rw[e1];simp only[Instr.storeAt,Instr.sureAddr,storeVar,jAr,jAv,jAo,ht.sizeOf];rw[if_neg (by omega)];simp only[jAr,jAv,jAo,hs]
  rw[hrun,Oper.uponIn_skip];have hyl:(a.eval y).cells.toList.length=pcs.length:=by simpa using v1
  have hclen:cells.length=cur.size:=by rw[<-hcs];simp;omega
  have hget:∀q,q < cur.size->cells[q]? =if p<=q/\q < p+pcs.length then (a.eval y).cells.toList[q - p]? else cur.toList[q]? :=by
   intro q hq;rw[<-hcs,jBx];rcases jAu q p with h2 | h2
   .grind
   rw[jAq (by grind)]
   grind
  have hheap:∀k,k≠b->(g.w.setRow b cells.toArray).heap[k]? =g.w.heap[k]? :=fun k hk=>by
   simp only[World.setRow,jBl];grind
  have hnewb:=setRow_heap g.w b cur cells.toArray e _ e3;have hsz:(g.w.setRow b cells.toArray).heap.size=g.w.heap.size:=by simp[World.setRow]
  have hxx:Ext g.w g.u (g.w.setRow b cells.toArray) g.u:=⟨jBm hsz.symm,fun _ _=>jAm _,fun k i hk hi=>by
   by_cases hkb:k=b
   .simp_all
   simp only[World.cell?];grind,fun r' hr' =>(hheap r' (by grind)).trans hr'⟩
  refine hK ⟨g.w.setRow b cells.toArray,g.u,g.loc⟩ _ (St.put_none (hst.objset hr hxx rfl rfl rfl rfl (fun k hk hne=>⟨hheap k (by rintro rfl;exact hne (by rw[e2];rfl)),rfl⟩) (Yka hst.so.wf (jBm hsz.symm) _) ?_ (fun _=>rfl)));have hFv' :(F v').length=size:=by rw[hF'];simp;omega
  refine .row (off:=off) (by simp_all) hnewb (by simp_all) e5 (by simp_all) (fun z hz' =>?_) (by simp_all) (fun _=>hu0) (fun i' j' z c hi' hj' =>?_)
  .grind
  simp only[jAk,jAh]at hi';obtain ⟨w,hw,rfl⟩:=hi';have hil:i' < l.length:=by have:=(jAd.1 hw).1;simpa using this
  have hwF:(F w).length=size:=by
   rcases jDg (jAi hw) with h2 | rfl
   .simp_all
   omega
  have hjs:j' < size:=by rw[<-hwF];exact (jAd.1 hj').1
  have hpos:(off+i') * size+j' < cur.size:=by rw[e4];exact q7b (s:=1) hil e6 hjs
  have old:(F w)[j']? =some c->l[i']? =some w->¬(p<=(off+i') * size+j' /\(off+i') * size+j' < p+pcs.length)->RelP (g.w.setRow b cells.toArray) g.u c (cells.toArray.getD ((off+i') * size+j') undef):=by
   intro h2 h3 h4;have h5:=(e11 i' j' w c h3 h2).mono hxx;rw[jAg,jBk,hget _ hpos,if_neg h4];rw[jAg]at h5;simpa using h5
  by_cases hin:i' =n.toNat
  .subst hin;rw[List.getElem?_set_self hlt]at hw;cases hw;have hold:∀c,(F v)[j']? =some c->¬(p<=(off+n.toNat) * size+j' /\(off+n.toNat) * size+j' < p+pcs.length)->RelP (g.w.setRow b cells.toArray) g.u c (cells.toArray.getD ((off+n.toNat) * size+j') undef):=by
    intro c h2 h4;have h5:=(e11 n.toNat j' v c hv h2).mono hxx;rw[jAg,jBk,hget _ hpos,if_neg h4];rw[jAg]at h5;simpa using h5
   rw[hF',jBx]at hj';have hjl:((F v).take j).length=j:=by simp;omega
   rcases jAu j' j with h2 | h2
   .grind
   rw[jAq (by omega),hjl]at hj';rcases jAu (j' - j) pcs.length with h3 | h3
   .rw[jAy h3]at hj';have h5:=v3 (j' - j) (.pv c) (by grind);cases h5 with
    | pv h5=>
     rw[jAg,jBk,hget _ hpos,if_pos (by omega),show (off+n.toNat) * size+j' - p=j' - j by omega];rw[jAg]at h5;have h6:=h5.mono hxx
     simp_all
   rw[jAq h3,jBu,show j+pcs.length+(j' - j - pcs.length)=j' by omega]at hj'
   grind
  rw[List.getElem?_set_ne (by omega)]at hw;refine old hj' hw ?_;rcases jAu i' n.toNat with h2 | h2
  .have:(off+i' +1) * size<=(off+n.toNat) * size:=jBc _ (by omega)
   grind
  have:(off+n.toNat+1) * size<=(off+i') * size:=jBc _ (by omega)
  grind⟩
end
end
end
section
open Go.RowKit Go.Lib Go.Proofs.Tryz
section
variable {K V:Type} [BEq K]
def mget:List (K × V)->K->Option V
 | [],_=>none
 | (k,v)::r,x=>if k==x then some v else mget r x
def mput:List (K × V)->K->V->List (K × V)
 | [],x,y=>[(x,y)]
 | (k,v)::r,x,y=>if k==x then (x,y)::r else (k,v)::mput r x y
end
def posK{K:Type}[BEq K]:List K->K->Option Nat
 | [],_=>none
 | k::r,x=>if k==x then some 0 else (posK r x).map (· +1)
structure KeyK (K:Type) [BEq K] [LawfulBEq K] where
 kf:K->Value
 ok:Program->TypeId->Prop
 find:∀{P:Program} {kt:TypeId},ok P kt->∀(w:World) (x:K) (ks:List K) (ents:List MapEntry),ents.map (·.key)=ks.map kf->(Instr.findKey kt (kf x) ents).run P w=.ok ((posK ks x).bind fun j=>(ents[j]?).map fun e=>(j,e.val)) w
 check:∀{P:Program} {kt:TypeId},ok P kt->∀(w:World) (x:K) (b:Bool),(Instr.checkKey b 10000 kt (kf x)).run P w=.ok () w
 stay:∀{P:Program} (w:World) (x:K),(Instr.keyThatStays (kf x) (kf x)).run P w=.ok (kf x) w
def q8b:Value->PV
 | .slice none 0 0=>.sl none []
 | v=>.b v
theorem ksb(w:World)(u:Nat->Nat)(v:Value)(h:cellV v=true):RelP w u (q8b v) v:=by
 unfold q8b;split
 .exact kkb (znb w u)
 exact .b h
section
variable {K V:Type} [BEq K] [LawfulBEq K] {KK:KeyK K} {F:V->List PV} {ag:Bool}
variable {E:Env} {fr:Fr} {σ:Sto} {P:Program} {ρ:Operand->AV} {t kt e:TypeId} {m x y:Operand} {o size bytes ss sb k' :Nat} {zero sz:Value} {d:TypeDesc} {es:List (K × V)} {k:K} {z v:V}
variable {dst:Option Tmp} {ty:TypeId} {pos:String} {af:Array Edge} {gu:Option (Nat × Bool)}
end
section
variable {P:Program} {ρ:Operand->AV} {σ:Sto} {t t' e:TypeId} {x:Operand} {α:Type} {F:α->List PV} {l:List α} {dst:Option Tmp} {ty:TypeId} {pos:String} {af:Array Edge} {gu:Option (Nat × Bool)} {ss sb:Nat} {sz:Value}
theorem JOa{ρv:Operand->Value}{w:World}{a:Option Addr}{n c:Nat}(ne:Bool)(hx:ρv x=.slice a n c)(hy:ρv (.const (.slice none 0 0))=.slice none 0 0)(ht:TyOk P t ss sb sz (.slice e)):
 (execOp ρv ⟨dst,.binOp (if ne then .neq else .eql) t x (.const (.slice none 0 0)) t',ty,pos,af,gu⟩).run P w=.ok (.value (.bool (if ne then !a.isNone else a.isNone))) w:=by
 cases ne <;> simp[execOp,hx,hy,go_sem,eqGuard,binOp,run_equal_slice_nil w t e a n c ht.u]
end
section
variable {K V:Type} [BEq K] [LawfulBEq K] {KK:KeyK K} {F:V->List PV} {ag:Bool} {P:Program} {ρ:Operand->AV} {σ:Sto} {t kt e:TypeId} {m x:Operand} {o size bytes:Nat} {zero:Value} {d:TypeDesc} {es:List (K × V)} {k:K} {z v:V}
variable {dst:Option Tmp} {ty:TypeId} {pos:String} {af:Array Edge} {gu:Option (Nat × Bool)}
end
end
section
open Go.RowKit Go.Lib Go.Proofs.Tryz
variable {E:Env} {fr:Fr} {σ:Sto} {K:Post} {P:Program} {ρ:Operand->AV}
variable {dst:Option Tmp} {ty:TypeId} {pos:String} {af:Array Edge} {gu:Option (Nat × Bool)}
section
variable {α:Type} {F:α->List PV} {l xs r' :List α} {r size bytes sb ss k lim:Nat} {e t:TypeId} {mu:Bool} {zero sz:Value} {d:TypeDesc} {x y:Operand} {nl:Option Bool}
theorem ev_hsub{p:Int}{k1:IntKind}{v:List α}(hx:ρ x=.hs r 0)(hr:σ.get r=some (.row e mu size (l.map F)))(hy:ρ y=.pv (.b (.int k1 p)))
 (ht:TyOk P t ss sb sz (.slice e)) (he:TyOk P e size bytes zero d) (hv:cut l p l.length=some v):EvQ P ⟨dst,.slice t x (some y) none none,ty,pos,af,gu⟩ ρ σ (.hsub r p.toNat):=
 ⟨fun c=>by simp,fun g ρv hh hs=>by
  have h1:=hh x (by simp[Op.operands]);have h2:=hh y (by simp[Op.operands]);rw[hx]at h1;rw[hy]at h2;have e2:=zKa h2;obtain ⟨h0,h01,h02,_⟩:=WZa hv;obtain ⟨old,ho1,ev,ho3⟩:=(hs r _ hr).old h1;obtain ⟨a0,old⟩:=old;have hrun:∀ad cap,ρv x=.slice ad l.length cap->l.length<=cap->(execOp ρv ⟨dst,.slice t x (some y) none none,ty,pos,af,gu⟩).run P g.w=
   .ok (.value (.slice (if cap=p.toNat then ad else ad.map (·.add (p.toNat * size))) (l.length - p.toNat) (cap - p.toNat))) g.w:=by
   intro ad cap ev hcap;show Sem.run P (do let v <-Instr.sliceAt t (ρv x) ((some y).map ρv) (Option.map ρv none) none;pure (Next.value v)) g.w=_;have hb:=yFa (P:=P) (w:=g.w) (len:=l.length) (cap:=cap) (lo:=(some y).map ρv) (hi:=Option.map ρv none) (a:=p) (b:=l.length) hcap (.inr ⟨k1,by grind⟩) (.inl ⟨rfl,rfl⟩) h0 h01 (jBe _);rw[ev];simp only[Instr.sliceAt,underlying,program,jAr,Sem.run,ht.u,jAo,jAv,Instr.slice,hb,he.sizeOf,Int.toNat_natCast]
  cases old with
  | none=>
   obtain ⟨hl,rfl⟩:=ho3;have hp:p.toNat=0:=by simp at h01;omega
   refine ⟨_,hrun a0 0 ev (by simp),?_⟩;rw[hp];simp only[if_true,jDp,jCl];exact .hsubNil _ hl
  | some o=>
   obtain ⟨b,off,cap,cur⟩:=o;obtain ⟨hb,hcs,hnc,hcm,ad,rfl,had⟩:=ho1;refine ⟨_,hrun (some ad) cap ev hnc,?_⟩;split
   .exact .hsub ho3.1 (by omega) (fun hc=>by omega)
   refine .hsub ho3.1 (by omega) (fun hc=>?_);rw[had (by omega)];show Addr.add _ _=_;rw[qwa,jBn]⟩
def clr0(l:List α)(i:Nat)(z:α):List α:=l.take i++List.replicate (l.length - i) z
theorem clr0_len(l:List α)(i:Nat)(z:α)(h:i<=l.length):(clr0 l i z).length=l.length:=by simp[clr0];omega
theorem zzb{z:Array Value}{n q:Nat}(h:q < n * z.size):(Builtin.zeroCells z n).toList[q]? =z.toList[q % z.size]? :=by
 have hz:0 < z.size:=by
  rcases Nat.eq_zero_or_pos z.size with h0 | h0
  .simp_all
  exact h0
 have hm:q % z.size < z.size:=Nat.mod_lt _ hz;simp[Builtin.zeroCells,h,hm]
theorem wPb{lo:Nat}{z:α}(hx:fr.ev x=.hsub r lo)(hr:σ.get r=some (.row e true size (l.map F)))(ht:TyOk E.P t ss sb sz (.slice e))(he:TyOk E.P e size bytes zero d)(hzz:(Nat.beq zero.cells.size size && Nat.ble 1 size && zero.cells.toList.all cellV)=true)
 (hz:zero.cells.toList.map q8b=F z):
 OpTo E ⟨none,.call ⟨.builtin .clear, #[x], #[t]⟩,ty,pos,af,gu⟩ fr σ fr (σ.upd r (.row e true size ((clr0 l lo z).map F))):=
 ⟨fun g a K Q hst hK=>by
  simp only[jAn]at hzz;have hz1:=jAl hzz.1.1;have hz2:=jAf hzz.1.2;have hz3:=hzz.2;rw[jAp]at hz3;refine ⟨fun _ _=>trivial,?_⟩;rw[jAz _ _ _ (fun c=>by simp)];have h1:=hst.ev x;rw[hx]at h1;generalize hev:a.eval x=vx at h1;have hexec:∀w',(Builtin.clear_ #[t] ty #[vx]).run E.P g.w=.ok (.tuple #[]) w' ->(execOp a.eval ⟨none,.call ⟨.builtin .clear, #[x], #[t]⟩,ty,pos,af,gu⟩).run E.P g.w=.ok (.value (.tuple #[])) w' :=by
   intro w' hc;simp[execOp,resolve,invoke,builtin,hev,hc]
  have hob:=hst.so.obj r _ hr;generalize hls:l.map F=ls at hob;cases hob with
  | nil hl=>
   obtain rfl:l=[]:=by simp_all
   cases h1 with
   | hsub h2=>simp_all
   | hsubNil ax=>
    rw[hexec g.w (by cases ax <;> simp[Builtin.clear_,run_underlying ht.u]),jBf];have:=hst.objset (ob:=.row e true size ((clr0 ([]:List α) lo z).map F)) hr (Ext.refl _ _) rfl rfl rfl rfl (fun _ _ _=>⟨rfl,rfl⟩) hst.so.wf (by simp[clr0];exact .nil hl) (fun _=>rfl);exact hK g _ (St.put_none this)
  | @row _ _ _ _ b off cap cur hl hb hn hm hle hzl hu hmu hrel=>
   subst hls;simp only[jAx]at hl hle hu;cases h1 with
   | hsubNil ax h2=>simp_all
   | @hsub _ _ _ _ _ _ _ ad h2 hlo ha=>
    rw[hl]at h2;cases h2;have hu0:=hmu rfl;by_cases hz0:l.length - lo=0
    .have hcl:clr0 l lo z=l:=by unfold clr0;rw[hz0,List.take_of_length_le (by omega)];simp
     rw[hcl]at hK;rw[hexec g.w (by rw[hz0];simp[Builtin.clear_,run_underlying ht.u]),jBf];have:=hst.objset (ob:=.row e true size (l.map F)) hr (Ext.refl _ _) rfl rfl rfl rfl (fun _ _ _=>⟨rfl,rfl⟩) hst.so.wf (hst.so.obj r _ hr) (fun _=>rfl);exact hK g _ (St.put_none this)
    have had:=ha (by omega);subst had;generalize hzs:(Builtin.zeroCells zero.cells (l.length - lo)).toList=zs;have hzlen:zs.length=(l.length - lo) * size:=by rw[<-hzs,jBt,size_zeroCells,hz1]
    have hzget:∀q,q < (l.length - lo) * size->zs[q]? =zero.cells.toList[q % size]? :=by
     intro q hq;rw[<-hzs,zzb (by simp_all),hz1]
    have hone:∀u∈zs,u.oneCell' =true:=by
     intro u hu';obtain ⟨q,hq⟩:=jCo hu';rw[hzget q (by grind)]at hq;have:=hz3 u (jAi hq);cases u <;> first | rfl | simp[cellV]at this
    generalize hp:(off+lo) * size=p at *;have hfit:p+zs.length<=cur.size:=by
     rw[hzlen,<-hp,hn,<-jBn];exact jBc _ (by omega)
    have hs:=run_storeCells_at (P:=E.P) b p e zs 0 cur g.w hb (by omega) hone;simp only[jBy]at hs;generalize hcs:(cur.toList.take p++zs++cur.toList.drop (p+zs.length))=cells at hs;have hrun:(Builtin.clear_ #[t] ty #[.slice (some ⟨b,p,none⟩) (l.length - lo) (cap - lo)]).run E.P g.w=.ok (.tuple #[]) (g.w.setRow b cells.toArray):=by
     obtain ⟨m,hm'⟩:∃m,l.length - lo=m+1:=⟨l.length - lo - 1,by omega⟩;rw[hm']at hzs ⊢;simp[Builtin.clear_,run_underlying ht.u,he.zeroValue,hzs,hs]
    rw[hexec _ hrun,jBf];have hclen:cells.length=cur.size:=by rw[<-hcs];simp;omega
    have hget:∀q,q < cur.size->cells[q]? =if p<=q/\q < p+zs.length then zs[q - p]? else cur.toList[q]? :=by
     intro q hq;rw[<-hcs,jBx];rcases jAu q p with h2 | h2
     .grind
     grind
    have hheap:∀k,k≠b->(g.w.setRow b cells.toArray).heap[k]? =g.w.heap[k]? :=fun k hk=>by
     simp only[World.setRow,jBl];grind
    have hnewb:=setRow_heap g.w b cur cells.toArray e _ hb;have hsz:(g.w.setRow b cells.toArray).heap.size=g.w.heap.size:=by simp[World.setRow]
    have hxx:Ext g.w g.u (g.w.setRow b cells.toArray) g.u:=⟨jBm hsz.symm,fun _ _=>jAm _,fun k i hk hi=>by
     by_cases hkb:k=b
     .simp_all
     simp only[World.cell?];grind,fun r' hr' =>(hheap r' (by grind)).trans hr'⟩
    have hst' :=hst.objset (g' :=⟨g.w.setRow b cells.toArray,g.u,g.loc⟩) (ob:=.row e true size ((clr0 l lo z).map F)) hr hxx rfl rfl rfl rfl (fun k hk hne=>⟨hheap k (by rintro rfl;exact hne (by rw[hl];rfl)),rfl⟩) (Yka hst.so.wf (jBm hsz.symm) _) ?_ (fun _=>rfl)
    .exact hK _ _ (St.put_none hst')
    have hFz:(F z).length=size:=by rw[<-hz];simp[hz1]
    have hmem:∀w∈clr0 l lo z,(F w).length=size:=by
     intro w hw;rcases jCk.1 hw with h2 | h2
     .grind
     simp_all
    have hlen2:=clr0_len l lo z hlo;refine .row (off:=off) (by simp_all) hnewb (by simp_all) hm (by simp_all) (fun y' hy' =>by grind) (by simp_all) (fun _=>hu0) (fun i j w' c hi hj=>?_);simp only[jAk,jAh]at hi;obtain ⟨w,hw,rfl⟩:=hi;have hil:i < l.length:=by have:=(jAd.1 hw).1;omega
    have hjs:j < size:=by rw[<-hmem w (jAi hw)];exact (jAd.1 hj).1
    have hpos:(off+i) * size+j < cur.size:=by rw[hn];exact q7b (s:=1) hil hle hjs
    rw[jAg,jBk,hget _ hpos];have htl:(l.take lo).length=lo:=by simp;omega
    unfold clr0 at hw;rcases jAu i lo with h2 | h2
    .rw[jAy (by omega),jBd h2]at hw;have hlt:(off+i) * size+j < p:=by
      have:(off+i+1) * size<=(off+lo) * size:=jBc _ (by omega);rw[jBn (off+i)]at this;omega
     rw[if_neg (by omega)];have h5:=(hrel i j (F w) c (by grind) hj).mono hxx
     simp_all
    rw[jAq (by omega),htl]at hw;have hwz:w=z:=by have:=jAi hw;rw[List.mem_replicate]at this;exact this.2
    subst hwz;have e1:(off+i) * size+j=p+((i - lo) * size+j):=by
     rw[<-hp,<-Nat.add_assoc,<-jBn];congr 2;omega
    have hq:(i - lo) * size+j < (l.length - lo) * size:=by
     have:(i - lo+1) * size<=(l.length - lo) * size:=jBc _ (by omega);rw[jBn]at this;omega
    rw[e1,if_pos (by omega),Nat.add_sub_cancel_left,hzget _ hq];have e2:((i - lo) * size+j) % size=j:=by rw[Nat.mul_comm,Nat.mul_add_mod,Nat.mod_eq_of_lt hjs]
    rw[e2];rw[<-hz,jAk,jAh]at hj;obtain ⟨u,hu',rfl⟩:=hj;rw[hu'];exact ksb _ _ u (hz3 u (jAi hu'))⟩
theorem jka(r:Nat)(hN:Nat.ble (k+1) E.N=true)(hx:fr.ev x=.z0)(hy:fr.ev y=.pv (.sl nl (xs.map F)))(ht:TyOk E.P t ss sb sz (.slice e))(he:TyOk E.P e size bytes zero d)
 (hzz:Nat.beq zero.cells.size size=true) (hs:Nat.ble 1 size=true) (hF:∀x,(F x).length=size) (hlim:(Nat.ble (lim * bytes) 140737488355328 && Nat.ble lim 9223372036854775807)=true) (hf:fr.has r=false) (hso:σ.has r=false) (h:app lim [] xs=some r'):
 OpTo E ⟨some k,.call ⟨.builtin .append, #[x,y], #[t,t]⟩,ty,pos,af,gu⟩ fr σ ((k,.hs r 0)::fr.clr r) ((Sto.clr r ((r,.row e true size [])::σ)).upd r (.row e true size (r'.map F))):=
 ⟨fun g a K Q hst hK=>by
  obtain ⟨hle,hr'⟩:=zub h;simp only[jAn]at hlim;have hl1:=jAf hlim.1;have hl2:=jAf hlim.2;have hzz:=jAl hzz;have hs:=jAf hs;refine ⟨fun _ _=>trivial,?_⟩;rw[jAz _ _ _ (fun c=>by simp)];have h1:=hst.ev x;rw[hx]at h1;have hst0:=hst.adopt r e true size hf hso;have h2:=hst0.ev y;rw[hy]at h2;have hlb:(0+xs.length) * bytes<=140737488355328:=by
   simp only[jCl]at hle;exact jAt (jBc _ hle) hl1
  have hgr:Sto.get ((r,AO.row e true size [])::σ) r=some (.row e true size (([]:List α).map F)):=by rw[Sto.get_cons,if_pos rfl];rfl
  generalize hev:a.eval x=vx at h1;cases h1 with
  | z0 ax=>
   have ho3:yZb ⟨g.w,g.u,fun k=>if k=r then .nilRow else g.loc k⟩ r true size F ([]:List α) (ax,none):=⟨if_pos rfl,rfl⟩;cases h2 with
   | pv h2=>
    rcases qZb hF h2 with ⟨e2,rfl⟩ | ⟨a0,c,news,e2,hnews,hcells⟩
    .obtain ⟨v',w',hrun,hres⟩:=Wpa (P:=E.P) (w:=g.w) (ty:=ty) (old:=(ax,none)) (n:=0) ht he rfl;rw[vXa (x:=x) (y:=y) (w:=g.w) (by rw[hev,e2];exact hrun),jBf];obtain ⟨g',rfl,hst',hv⟩:=hst0.appended (F:=F) (l:=[]) (xs:=[]) (old:=(ax,none)) hgr rfl ho3 (news:=[]) ⟨by simp,by simp,fun i j x c hi=>by grind⟩ hres;exact hK g' _ (by rw[hr'];exact hst'.put (jAf hN) hv)
    obtain ⟨v',w',hrun,hres⟩:=Vca (P:=E.P) (w:=g.w) (ty:=ty) (c:=c) (old:=(ax,none)) (n:=0) ht he hzz (by omega) rfl hnews.len hcells hnews.one hlb (by unfold maxLen;omega);rw[vXa (x:=x) (y:=y) (w:=g.w) (by rw[hev,e2];exact hrun),jBf];obtain ⟨g',rfl,hst',hv⟩:=hst0.appended (F:=F) (l:=[]) (old:=(ax,none)) hgr rfl ho3 hnews hres;exact hK g' _ (by rw[hr'];exact hst'.put (jAf hN) hv)⟩
theorem wQb{g:G}{cs:List AV}{j:Nat}{c c0:AV}{v:Value}(h:Rel g (.agg cs) v)(hj:cs[j]? =some c0)(hc:∀v,Rel g c0 v->Rel g c v):Rel g (.agg (cs.set j c)) v:=by
 cases h with
 | agg h1 h2 h3=>
  refine .agg (by simp_all) h2 fun i c' hi=>?_
  grind
theorem v2a{ops:Array Oper}{ol:List Oper}{d' j:Nat}{cs:List AV}(hd:fr.get d' =.agg cs)(hj:cs[j]? =some (.hs r 0))(hr:σ.get r=some (.row e false size (l.map F)))(h:AWPL E ops ol ((d',.agg (cs.set j (.l F l)))::fr) σ K):AWPL E ops ol fr σ K:=
 ⟨fun g a hst=>by
  obtain ⟨g',hw,hl,hst',hv⟩:=hst.pub hr;have h1:=hst'.fr d';rw[hd]at h1;have:=h.go g' a (hst'.reslot (d:=d') (wQb h1 hj hv))
  simp_all⟩
end
section
variable {t t' :TypeId} {x y:Operand} {a b:Int}
def iOr(a b:Int):Int:=w64 ((BitVec.ofInt 64 a ||| BitVec.ofInt 64 b).toNat:Int)
def iQuo(a b:Int):Int:=w64 (a.tdiv b)
def iRem(a b:Int):Int:=a.tmod b
theorem jbb{op:BinOp}{r:Int}(hx:ρ x=.i a)(hy:ρ y=.i b)(hb:(b==0)=false)(hr:(op=.quo/\r=iQuo a b)∨(op=.rem/\r=iRem a b)):EvQ P ⟨dst,.binOp op t x y t',ty,pos,af,gu⟩ ρ σ (.i r):=
 ⟨fun c=>by simp,fun g ρv h _=>by
  obtain ⟨h1,h2⟩:=ops2 (o:=⟨dst,.binOp op t x y t',ty,pos,af,gu⟩) (x:=x) (y:=y) rfl h;rw[hx]at h1;rw[hy]at h2;have e1:=zKa h1;have e2:=zKa h2;have hb:b≠0:=by simpa using hb
  refine ⟨.int .i64 r,?_,.pv (.b rfl)⟩;rcases hr with ⟨rfl,rfl⟩ | ⟨rfl,rfl⟩ <;> simp[execOp,e1,e2,go_sem,eqGuard,binOp,Op.intDiv,hb,iQuo,iRem]⟩
theorem k5a(hx:ρ x=.i a)(hy:ρ y=.i b)(hb:(b==0)=false):EvQ P ⟨dst,.binOp .quo t x y t',ty,pos,af,gu⟩ ρ σ (.i (iQuo a b)):=jbb hx hy hb (.inl ⟨rfl,rfl⟩)
theorem qka(hx:ρ x=.i a)(hy:ρ y=.i b)(hb:(b==0)=false):EvQ P ⟨dst,.binOp .rem t x y t',ty,pos,af,gu⟩ ρ σ (.i (iRem a b)):=jbb hx hy hb (.inr ⟨rfl,rfl⟩)
theorem ev_ineg(hx:ρ x=.i a):EvQ P ⟨dst,.unOp .neg t x,ty,pos,af,gu⟩ ρ σ (.i (w64 (0 - a))):=
 ⟨fun c=>by simp,fun g ρv h _=>by
  have h1:=h x (by simp[Op.operands]);rw[hx]at h1;have e1:=zKa h1;refine ⟨.int .i64 (w64 (0 - a)),?_,.pv (.b rfl)⟩;simp[execOp,e1,go_sem,Op.unary,Op.intArith]⟩
theorem JPa{op:BinOp}{r:UInt8}{a b:UInt8}(hx:ρ x=.u8 a)(hy:ρ y=.u8 b)(hr:(op=.add/\r=a+b)∨(op=.sub/\r=a - b)):EvQ P ⟨dst,.binOp op t x y t',ty,pos,af,gu⟩ ρ σ (.u8 r):=by
 have hl1:=a.toNat_lt;have hl2:=b.toNat_lt;rcases hr with ⟨rfl,rfl⟩ | ⟨rfl,rfl⟩
 .have:=ev_add (P:=P) (σ:=σ) (dst:=dst) (ty:=ty) (pos:=pos) (af:=af) (gu:=gu) (t:=t) (t' :=t') hx hy;rw[show IntKind.u8.wrap ((a.toNat:Int)+(b.toNat:Int))=((a+b).toNat:Int) by
   rw[Yja,UInt8.toNat_add];unfold toU8;rw[jCm];omega]at this
  omega
 have:=ev_sub (P:=P) (σ:=σ) (dst:=dst) (ty:=ty) (pos:=pos) (af:=af) (gu:=gu) (t:=t) (t' :=t') hx hy;rw[show IntKind.u8.wrap ((a.toNat:Int) - (b.toNat:Int))=((a - b).toNat:Int) by
  rw[Yja,UInt8.toNat_sub];unfold toU8;rw[jCm];omega]at this
 omega
theorem W1a{a b:UInt8}(hx:ρ x=.u8 a)(hy:ρ y=.u8 b):EvQ P ⟨dst,.binOp .add t x y t',ty,pos,af,gu⟩ ρ σ (.u8 (a+b)):=JPa hx hy (.inl ⟨rfl,rfl⟩)
theorem W2a{a b:UInt8}(hx:ρ x=.u8 a)(hy:ρ y=.u8 b):EvQ P ⟨dst,.binOp .sub t x y t',ty,pos,af,gu⟩ ρ σ (.u8 (a - b)):=JPa hx hy (.inr ⟨rfl,rfl⟩)
end
end
section
open Go.RowKit Go.Lib Go.Proofs.Tryz
variable {E:Env} {fr:Fr} {σ:Sto} {K:Post} {P:Program} {ρ:Operand->AV}
variable {dst:Option Tmp} {ty:TypeId} {pos:String} {af:Array Edge} {gu:Option (Nat × Bool)}
class QEq (R:Type) where
 q:R->R->Bool
 eq {a b:R}:q a b=true->a=b
instance (priority:=low) {R:Type}:QEq R:=⟨fun _ _=>false,fun h=>by cases h⟩
instance {R:Type}:QEq (List R):=⟨fun a b=>a.isEmpty && b.isEmpty,fun {a b} h=>by simp_all⟩
def qeq{R:Type}[QEq R]:Option R->Option R->Bool
 | some a,some b=>QEq.q a b
 | _,_=>false
theorem qeq_eq{R:Type}[QEq R]:∀{A B:Option R},qeq A B=true->A=B
 | some _,some _,h=>congrArg some (QEq.eq h)
 | none,_,h=>by cases h
 | some _,none,h=>by cases h
open Classical in
noncomputable def nilE{R:Type}[QEq R](e:Bool)(A B:Option R):Option R:=if e then (if qeq A B then B else if A=B then B else none) else B
theorem W3a{R:Type}[QEq R]{e:Bool}{A B:Option R}{r:R}(he:e=true)(h:nilE e A B=some r):A=some r:=by
 unfold nilE at h;rw[if_pos he]at h;split at h
 .rename_i hq;rw[qeq_eq hq];exact h
 simp_all
theorem W4a{R:Type}[QEq R]{e:Bool}{A B:Option R}{r:R}(h:nilE e A B=some r):B=some r:=by
 unfold nilE at h
 grind
theorem ktb{R:Type}[QEq R](e:Bool)(A B:Option R)(h:e=true->A=B):nilE e A B=B:=by
 unfold nilE
 simp_all
section
variable {α:Type} {F:α->List PV} {l:List α} {t t' e:TypeId} {ss sb d k:Nat} {sz:Value}
theorem q9b{g:G}{v:Value}(h:Rel g (.l F l) v):(l=[]/\v=.slice none 0 0)∨∃a n c,v=.slice (some a) n c:=by
 cases h with
 | pv h=>
  obtain ⟨a',cap',size',b,off,val,hv,h0,_⟩:=QNa h;cases a' with
  | none=>
   simp_all
  | some a=>simp_all
theorem vab(ne:Bool){ops:Array Oper}{rest:List Oper}(hg:gu=none)(hN:Nat.ble (k+1) E.N=true)(hd:fr.get d=.l F l)(ht:TyOk E.P t ss sb sz (.slice e))
 (h1:l.isEmpty=true->AWPL E ops rest ((k,.bo (!ne))::(d,.pv (.sl (some true) []))::fr) σ K) (h2:AWPL E ops rest ((k,.bo ne)::fr) σ K):
 AWPL E ops (⟨some k,.binOp (if ne then .neq else .eql) t (.tmp d) (.const (.slice none 0 0)) t',ty,pos,af,gu⟩::rest) fr σ K:=
 ⟨fun g a hst=>by
  subst hg;have hv:=hst.fr d;rw[hd]at hv;have hc:a.eval (.const (.slice none 0 0))=.slice none 0 0:=rfl;have hx:a.eval (.tmp d)=a.tmps.getD d undef:=rfl;simp only[wpListIn,Region.wanted,if_true];refine ⟨fun _ _=>trivial,?_⟩;rw[jAz _ _ _ (fun c=>by simp)];rcases q9b hv with ⟨hl,ev⟩ | ⟨ad,n,c,ev⟩
  .rw[JOa ne (hx.trans ev) hc ht,jBf];have hst2:=hst.reslot (d:=d) (c:=.pv (.sl (some true) [])) (by rw[ev];exact .pv (znb _ _));have:=(h1 (by simp_all)).go g _ (hst2.put (jAf hN) (c:=.bo (!ne)) (v:=.bool (!ne)) (.pv (.b rfl)))
   simp_all
  rw[JOa ne (hx.trans ev) hc ht,jBf];have:=h2.go g _ (hst.put (jAf hN) (c:=.bo ne) (v:=.bool ne) (.pv (.b rfl)))
  simp_all⟩
theorem Qba{ops:Array Oper}{rest:List Oper}(hg:gu=none)(hN:Nat.ble (k+1) E.N=true)(hd:fr.get d=.l F l)(ht:TyOk E.P t ss sb sz (.slice e))
 (h1:l.isEmpty=true->AWPL E ops rest ((k,.bo true)::(d,.pv (.sl (some true) []))::fr) σ K) (h2:AWPL E ops rest ((k,.bo false)::fr) σ K):
 AWPL E ops (⟨some k,.binOp .eql t (.tmp d) (.const (.slice none 0 0)) t',ty,pos,af,gu⟩::rest) fr σ K:=vab false hg hN hd ht h1 h2
end
section
variable {t e:TypeId} {ss sb size bytes k:Nat} {sz zero:Value} {d:TypeDesc}
theorem Vfa(hN:Nat.ble (k+1) E.N=true)(ht:TyOk E.P t ss sb sz (.slice e))(he:TyOk E.P e size bytes zero d):
 OpTo E ⟨some k,.buildSlice t 0 #[],ty,pos,af,gu⟩ fr σ ((k,.z0)::fr) σ:=
 ⟨fun g a K Q hst hK=>by
  refine ⟨fun _ _=>trivial,?_⟩;rw[jAz _ _ _ (fun c=>by simp)];have hrun:(execOp a.eval ⟨some k,.buildSlice t 0 #[],ty,pos,af,gu⟩).run E.P g.w=.ok (.value (.slice (some ⟨g.w.heap.size,0,none⟩) 0 0)) (g.w.alloc (.cells #[] e)):=by
   show Sem.run E.P (do let v <-Instr.buildSlice t 0 (Array.map (fun (x:Nat × Operand)=>(x.1,a.eval x.2)) #[]);pure (Next.value v)) g.w=_;simp only[Instr.buildSlice,underlying,program,jAr,Sem.run,ht.u,he.sizeOf,jAo,jAv,Nat.zero_mul,if_true];rw[if_neg (by simp)];have e1:(Array.map (fun (x:Nat × Operand)=>(x.1,a.eval x.2)) #[]).toList=[]:=by simp
   have harr:∀z:Array Value,Array.map (fun x=>z[x % z.size]!) (Array.range 0)= #[]:=by intro z;simp
   simp only[jAr,jAv,jAo,e1,Instr.fill,harr];rfl
  rw[hrun,jBf];have hold:=yEa g #[] e 0 0 (g.loc 0);have hwf:=WYa hst.so.wf #[] e 0 0 (g.loc 0);have hst' :=hst.grow hold hwf (fun q _=>by show (if q=0 then g.loc 0 else g.loc q)=g.loc q;simp_all);exact hK _ _ (hst'.put (jAf hN) (.z0 _))⟩
end
def nz(b:Int):Option Bool:=if b==0 then none else some true
theorem vbb{b:Int}{r:Bool}(h:nz b=some r):(b==0)=false:=by
 unfold nz at h
 simp_all
end
section
theorem kFa{C:Prop}(b:Bool)(h1:b=true->C)(h2:b=false->C):C:=by
 cases b
 .exact h2 rfl
 exact h1 rfl
theorem zAb{E:Env}{fr fr' :Fr}{σ σ' :Sto}{K:Post}{ops:Array Oper}{ol:List Oper}(hf:FrLe fr fr')(hs:zTa σ σ')(h:AWPL E ops ol fr' σ' K):AWPL E ops ol fr σ K:=⟨fun g a hst=>h.go g a (hst.le hf hs)⟩
section
variable {E:Env} {fr:Fr} {σ:Sto} {K:Post} {ops:Array Oper}
end
end
section
open Go.RowKit Go.Lib Go.Proofs.Tryz
variable {E:Env} {fr:Fr} {σ:Sto} {K:Post}
abbrev Objs:=List (Option (Nat × List AV))
def objs(D:Nat->Bool):Nat->Objs->Sto
 | _,[]=>[]
 | i,none::r=>objs D (i+1) r
 | i,some (id,cs)::r=>bif D i then (id,.cells cs)::objs D (i+1) r else objs D (i+1) r
def jca:Objs->List Nat
 | []=>[]
 | none::r=>jca r
 | some (id,_)::r=>id::jca r
def Qia:List Nat->Bool
 | []=>true
 | x::r=> !(r.any fun y=>Nat.beq x y) && Qia r
def jcb(fr:Fr)(σ:Sto)(cs:List AV)(az:Objs):Bool:=
 Qia (jca az) && ((jca az).all fun k=> !fr.has k && !σ.has k && (σ.get k).isNone) &&
 (az.all fun | none=>true | some (_,c)=>(jca az).all fun k=> !AV.hasL k c) &&
 ((cs.zip az).all fun p=>(jca az).all fun k=>(match p.2 with | some (id,_)=>Nat.beq id k | none=>false) || !p.1.has k)
theorem Yta{az:Objs}{j id:Nat}{cs:List AV}(h:az[j]? =some (some (id,cs))):id∈jca az:=by
 induction az generalizing j with
 | nil=>simp at h
 | cons x r ih=>
  cases j with
  | zero=>simp at h;subst h;simp[jca]
  | succ j=>
   have:=ih (j:=j) (by simpa using h);cases x with
   | none=>simpa[jca]using this
   | some x=>obtain ⟨a,b⟩:=x;simp[jca,this]
theorem zBb{az:Objs}(hd:Qia (jca az)=true){i j id:Nat}{c c' :List AV}(hi:az[i]? =some (some (id,c)))(hj:az[j]? =some (some (id,c'))):i=j:=by
 induction az generalizing i j with
 | nil=>simp at hi
 | cons x r ih=>
  cases x with
  | none=>
   cases i with
   | zero=>simp at hi
   | succ i=>
    cases j with
    | zero=>simp at hj
    | succ j=>rw[ih (by simpa[jca]using hd) (i:=i) (j:=j) (by simpa using hi) (by simpa using hj)]
  | some x=>
   obtain ⟨a,b⟩:=x;simp only[jca,Qia,jAn,jBv]at hd;have hn:∀{k:Nat} {c:List AV},r[k]? =some (some (a,c))->False:=by
    intro k c hk;have:=Yta hk;have h1:=hd.1;rw[List.any_eq_false]at h1;exact h1 a this (Nat.beq_refl a)
   cases i with
   | zero=>
    simp at hi;obtain ⟨rfl,rfl⟩:=hi;cases j with
    | zero=>rfl
    | succ j=>exact (hn (by simpa using hj)).elim
   | succ i=>
    cases j with
    | zero=>
     simp at hj;obtain ⟨rfl,rfl⟩:=hj;exact (hn (by simpa using hi)).elim
    | succ j=>rw[ih hd.2 (i:=i) (j:=j) (by simpa using hi) (by simpa using hj)]
theorem Kda{D:Nat->Bool}{o:Nat}:∀(az:Objs) (n:Nat),(∀j c,az[j]? =some (some (o,c))->D (n+j)=false)->Sto.get (objs D n az++σ) o=σ.get o
 | [],_,_=>rfl
 | none::r,n,h=>Kda r (n+1) (fun j c hj=>by have:=h (j+1) c (by simpa using hj);rwa [show n+1+j=n+(j+1) by omega])
 | some (id,cs)::r,n,h=>by
  have ih:=Kda r (n+1) (fun j c hj=>by have:=h (j+1) c (by simpa using hj);rwa [show n+1+j=n+(j+1) by omega]);unfold objs;cases hD:D n with
  | false=>exact ih
  | true=>
   show Sto.get ((id,.cells cs)::(objs D (n+1) r++σ)) o=_;rw[Sto.get_cons,if_neg]
   .exact ih
   rintro rfl;have:=h 0 cs rfl;rw[jBy,hD]at this;cases this
theorem Vga{D:Nat->Bool}{o:Nat}{c:List AV}:∀(az:Objs) (n j:Nat),Qia (jca az)=true->az[j]? =some (some (o,c))->D (n+j)=true->Sto.get (objs D n az++σ) o=some (.cells c)
 | [],_,_,_,h,_=>by simp at h
 | none::r,n,j,hd,h,hD=>by
  cases j with
  | zero=>simp at h
  | succ j=>exact Vga r (n+1) j (by simpa[jca]using hd) (by simpa using h) (by rwa [show n+1+j=n+(j+1) by omega])
 | some (id,cs)::r,n,j,hd,h,hD=>by
  unfold objs;cases j with
  | zero=>
   simp at h;obtain ⟨rfl,rfl⟩:=h;rw[jBy]at hD;rw[hD];show Sto.get ((id,.cells cs)::(objs D (n+1) r++σ)) id=_;rw[Sto.get_cons,if_pos rfl]
  | succ j=>
   have hne:id≠o:=by
    rintro rfl;have:=zBb hd (i:=0) (j:=j+1) rfl h;omega
   have hd' :Qia (jca r)=true:=by simp only[jca,Qia,jAn]at hd;exact hd.2
   have ih:=Vga r (n+1) j hd' (by simpa using h) (by rwa [show n+1+j=n+(j+1) by omega]);cases D n with
   | false=>exact ih
   | true=>
    show Sto.get ((id,.cells cs)::(objs D (n+1) r++σ)) o=_;rw[Sto.get_cons,if_neg hne];exact ih
theorem JQa{D:Nat->Bool}(az:Objs)(hd:Qia (jca az)=true)(o:Nat):(∃j c,D j=true/\az[j]? =some (some (o,c))/\Sto.get (objs D 0 az++σ) o=some (.cells c))∨((∀j c,az[j]? =some (some (o,c))->D j=false)/\Sto.get (objs D 0 az++σ) o=σ.get o):=by
 by_cases h:∃j c,D j=true/\az[j]? =some (some (o,c))
 .obtain ⟨j,c,h1,h2⟩:=h;exact .inl ⟨j,c,h1,h2,Vga az 0 j hd h2 (by simpa using h1)⟩
 have hn:∀j c,az[j]? =some (some (o,c))->D j=false:=by
  intro j c hj;cases hD:D j with
  | false=>rfl
  | true=>exact absurd ⟨j,c,hD,hj⟩ h
 exact .inr ⟨hn,Kda az 0 (fun j c hj=>by simpa using hn j c hj)⟩
theorem Kea{D D' :Nat->Bool}:∀(az:Objs) (n:Nat),(∀j x,az[j]? =some (some x)->D (n+j)=D' (n+j))->objs D n az=objs D' n az
 | [],_,_=>rfl
 | none::r,n,h=>Kea r (n+1) (fun j x hj=>by have:=h (j+1) x (by simpa using hj);rwa [show n+1+j=n+(j+1) by omega])
 | some (id,cs)::r,n,h=>by
  have ih:=Kea (D:=D) (D' :=D') r (n+1) (fun j x hj=>by have:=h (j+1) x (by simpa using hj);rwa [show n+1+j=n+(j+1) by omega]);unfold objs;rw[show D n=D' n from h 0 _ rfl,ih]
theorem zCb{D:Nat->Bool}{k:Nat}(hσ:σ.has k=false):∀(az:Objs) (n:Nat),(∀(j id:Nat) (c:List AV),az[j]? =some (some (id,c))->AV.hasL k c=false)->Sto.has k (objs D n az++σ)=false
 | [],_,_=>hσ
 | none::r,n,h=>zCb hσ r (n+1) (fun j id c hj=>h (j+1) id c (by simpa using hj))
 | some (id,cs)::r,n,h=>by
  have ih:=zCb (D:=D) hσ r (n+1) (fun j id c hj=>h (j+1) id c (by simpa using hj));unfold objs;cases D n with
  | false=>exact ih
  | true=>
   show Sto.has k ((id,.cells cs)::(objs D (n+1) r++σ))=false;unfold Sto.has;rw[ih];simp[AO.has,h 0 id cs rfl]
theorem Sok.le{S:Nat->Prop}{g0 g:G}{σ' :Sto}(h:Sok S g0 g σ)(hs:∀o ob,σ'.get o=some ob->σ.get o=some ob):Sok S g0 g σ' :=
 ⟨fun o ob ho=>h.obj o ob (hs o ob ho),fun o o' ob ob' b h1 h2=>h.apart o o' ob ob' b (hs _ _ h1) (hs _ _ h2),fun o ob b h1=>h.mine o ob b (hs _ _ h1),h.old,h.wf⟩
structure OpNew (E:Env) (o:Oper) (id:Nat) (cs:List AV):Prop where
 go:∃(vs:Array Value) (t:TypeId),vs.size=cs.length/\(∀i,i < vs.size->cellV (vs.getD i undef)=true)/\(∀(g:G) i c,cs[i]? =some c->Rel g c (vs.getD i undef))/\∀(g:G) a (K:Act->World->Prop) (Q:Exit->Act->World->Prop),K (a.put o.dst (.pointer (some ⟨g.w.heap.size,0,none⟩))) (g.alloc vs t 0 id (.blk g.w.heap.size)).w->o.wpIn (fen E.rd) 0 E.P a g.w K Q
theorem vcb{k id:Nat}{t:TypeId}{size bytes:Nat}{zero:Value}{d:TypeDesc}{cs:List AV}{ty:TypeId}{pos:String}{af:Array Edge}{gu:Option (Nat × Bool)}(ht:TyOk E.P t size bytes zero d)(hz:zero.cells.toList.map qXa=cs)(hz2:zero.cells.toList.all cellV=true):OpNew E ⟨some k,.alloc t,ty,pos,af,gu⟩ id cs:=
 ⟨zero.cells,t,by subst hz;simp,fun i hi=>(by
  rw[jAp]at hz2;have:=hz2 zero.cells[i] (by simp);simpa[Array.getD,hi]using this),fun g i c hi=>(by
  subst hz;simp only[jAk,jAh,jDq]at hi;obtain ⟨v,hv,rfl⟩:=hi;rw[jAg,hv];exact vUa g v),fun g a K Q hK=>by
  refine ⟨fun _ _=>trivial,?_⟩;rw[jAz _ _ _ (fun c=>by simp)];have hr:(execOp a.eval ⟨some k,.alloc t,ty,pos,af,gu⟩).run E.P g.w=.ok (.value (.pointer (some ⟨g.w.heap.size,0,none⟩))) (g.w.alloc (.cells zero.cells t)):=by
   show Sem.run E.P (do let v <-Instr.alloc t true (.tuple #[]);pure (Next.value v)) g.w=_;simp only[Instr.alloc,jAr,ht.zeroValue,jAo,VQa,jAv]
  rw[hr,jBf];exact hK⟩
inductive QRa (E:Env) (ops:Array Oper) (fr:Fr) (σ:Sto):List Oper->List AV->Objs->Prop
 | nil:QRa E ops fr σ [] [] []
 | run {o:Oper} {l:List Oper} {c:AV} {cs:List AV} {az:Objs} (hg:kta ops fr o) (h:OpG E o fr σ c) (hr:QRa E ops fr σ l cs az):QRa E ops fr σ (o::l) (c::cs) (none::az)
 | skip {o:Oper} {l:List Oper} {cs:List AV} {az:Objs} (hg:Zwa ops fr o) (hr:QRa E ops fr σ l cs az):QRa E ops fr σ (o::l) (.tup []::cs) (none::az)
 | new {o:Oper} {l:List Oper} {cs:List AV} {az:Objs} (id:Nat) {ds:List AV} (hg:kta ops fr o) (h:OpNew E o id ds) (hr:QRa E ops fr σ l cs az):QRa E ops fr σ (o::l) (.ptr id 0::cs) (some (id,ds)::az)
theorem QRa.len{ops:Array Oper}{l:List Oper}{cs:List AV}{az:Objs}(h:QRa E ops fr σ l cs az):cs.length=l.length/\az.length=l.length:=by
 induction h with
 | nil=>exact ⟨rfl,rfl⟩
 | run _ _ _ ih=>simp[ih.1,ih.2]
 | skip _ _ ih=>simp[ih.1,ih.2]
 | new _ _ _ _ ih=>simp[ih.1,ih.2]
theorem QRa.get{ops:Array Oper}{l:List Oper}{cs:List AV}{az:Objs}(h:QRa E ops fr σ l cs az):∀{i:Nat} {o:Oper} {c:AV},l[i]? =some o->cs[i]? =some c->(kta ops fr o/\OpG E o fr σ c/\az[i]? =some none)∨(Zwa ops fr o/\c=.tup []/\az[i]? =some none)∨(kta ops fr o/\∃id ds,c=.ptr id 0/\OpNew E o id ds/\az[i]? =some (some (id,ds))):=by
 induction h with
 | nil=>intro i o c h1;simp at h1
 | run hg h _ ih=>
  intro i o c h1 h2;cases i with
  | zero=>simp at h1 h2;subst h1;subst h2;exact .inl ⟨hg,h,rfl⟩
  | succ i=>exact ih (by simpa using h1) (by simpa using h2)
 | skip hg _ ih=>
  intro i o c h1 h2;cases i with
  | zero=>simp at h1 h2;subst h1;subst h2;exact .inr (.inl ⟨hg,rfl,rfl⟩)
  | succ i=>exact ih (by simpa using h1) (by simpa using h2)
 | new id hg h _ ih=>
  intro i o c h1 h2;cases i with
  | zero=>simp at h1 h2;subst h1;subst h2;exact .inr (.inr ⟨hg,id,_,rfl,h,rfl⟩)
  | succ i=>exact ih (by simpa using h1) (by simpa using h2)
end
section
section
variable {F:Fence} {n:Nat} {P:Program} {Q:Exit->Act->World->Prop} {a:Act} {w:World}
def noGoto(Q:Exit->Act->World->Prop):Exit->Act->World->Prop
 | .goto _,_,_=>False
 | e,a,w=>Q e a w
theorem woa{b:Frame}{k:List Item}{cs:List Frame}{c:Code}:step P (lone (b.atR a (.code (.scope c)::k)) cs w)=.next (lone (b.atR a (.code c:: .inScope c::k)) cs w):=
 step_lone_go (by simp[stepG,stepG.exec,Frame.atR])
theorem zDb{b:Frame}{k:List Item}{cs:List Frame}{c:Code}:step P (lone (b.atR a (.inScope c::k)) cs w)=.next (lone (b.atR a k) cs w):=
 step_lone_go (by simp[stepG,stepG.exec,Frame.atR])
theorem wRb{c:Code}(h:c.wpIn F n P (noGoto Q) a w):(Code.scope c).wpIn F n P Q a w:=by
 intro b k cs hro hb hr;have h0:(lone (b.atR a (.code (.scope c)::k)) cs w).fenced P F:=fenced_calm hb hr rfl;obtain ⟨e,a₁,w₁,hq,harr⟩:=h b (.inScope c::k) cs hro hb hr;cases e with
 | normal=>exact ⟨.normal,a₁,w₁,hq,.head h0 woa (StepsIn.trans harr (.one (fenced_calm hb hr rfl) zDb))⟩
 | exit id=>
  have hx:exitTo id (.inScope c::k)=exitTo id k:=by simp[exitTo]
  exact ⟨.exit id,a₁,w₁,hq,fun k' hk=>.head h0 woa (harr.1 k' (by simp_all)),
   fun hr' hk=>let ⟨k₁,h1,h2⟩:=harr.2 hr' (by simp_all);⟨k₁,h1,.head h0 woa h2⟩⟩
 | goto l=>exact hq.elim
 | ret=>exact ⟨_,a₁,w₁,hq,.of_steps (.one h0 woa) harr⟩
 | panic ch=>exact ⟨_,a₁,w₁,hq,.of_steps (.one h0 woa) harr⟩
 | outgrown=>exact ⟨_,a₁,w₁,hq,.of_steps (.one h0 woa) harr⟩
end
section
variable {E:Env} {fr:Fr} {σ:Sto} {K:Post}
def jdb(K:Post):Post
 | .goto _,_,_=>False
 | e,fr,σ=>K e fr σ
theorem jeb{c:Code}(h:AWP E c fr σ (jdb K)):AWP E (.scope c) fr σ K:=
 ⟨fun g a hs=>wRb (wpIn_mono (h.go g a hs) fun e a' w' ⟨g',fr',σ',h1,h2,h3⟩=>by
  cases e <;> first | exact ⟨g',fr',σ',h1,h2,h3⟩ | exact h3.elim)⟩
theorem jfb{l:Nat}(h:K .normal fr σ):AWP E (.label l) fr σ K:=⟨fun g a hs=>wpIn_label ⟨g,fr,σ,rfl,hs,h⟩⟩
theorem St.itset{g:G}{a:Act}{o pos' :Nat}{s:ByteArray}{pos:Nat}(h:St E g a fr σ)(ho:σ.get o=some (.it s pos)):∃b,g.loc o=.blk b/\g.w.heap[b]? =some (.stringIter s pos)/\St E ⟨{g.w with heap:=g.w.heap.setIfInBounds b (.stringIter s pos')},g.u,g.loc⟩ a fr (σ.upd o (.it s pos')):=by
 cases h.so.obj o _ ho with
 | @it _ _ b hl hb hu=>
  refine ⟨b,hl,hb,?_⟩;have hbl:=zVa hb;generalize hw:({g.w with heap:=g.w.heap.setIfInBounds b (.stringIter s pos')}:World)=w';have hheap:∀k,k≠b->w'.heap[k]? =g.w.heap[k]? :=fun k hk=>by grind
  have hnew:w'.heap[b]? =some (.stringIter s pos'):=by subst hw;exact Array.getElem?_setIfInBounds_self_of_lt hbl
  have hsz:w'.heap.size=g.w.heap.size:=by subst hw;simp
  have hx:Ext g.w g.u w' g.u:=⟨jBm hsz.symm,fun _ _=>jAm _,fun k i hk hi=>by
   by_cases hkb:k=b
   .simp_all
   simp only[World.cell?];grind,fun r hr=>(hheap r (by grind)).trans hr⟩
  have hget:=Sto.get_upd (ob:=.it s pos') ho;have hsome:∀k ob,(σ.upd o (.it s pos')).get k=some ob->∃ob',σ.get k=some ob' /\∀l,ob'.own l=ob.own l:=by
   intro k ob hk;rw[hget]at hk;split at hk
   .rename_i hko;cases hk;exact ⟨.it s pos,hko▸ho,fun _=>rfl⟩
   simp_all
  refine ⟨fun d=>(h.fr d).mono (g' :=⟨w',g.u,g.loc⟩) hx (fun _ _=>rfl),h.n,h.df.mono hx,⟨?_,fun k k' ob ob' b' h1 h2=>?_,fun k ob b' h1=>?_,?_,?_⟩⟩
  .intro k ob hk;rw[hget]at hk;split at hk
   .rename_i hko;subst hko;cases hk;exact .it hl hnew hu
   rename_i hko;refine (h.so.obj k ob hk).mono (g' :=⟨w',g.u,g.loc⟩) hx rfl (fun _ _=>rfl) fun b' hb' =>⟨hheap b' ?_,rfl⟩
   rintro rfl;exact hko (h.so.apart k o ob _ b' hk ho hb' (by rw[hl];rfl))
  .obtain ⟨_,e1,q1⟩:=hsome k _ h1;obtain ⟨_,e2,q2⟩:=hsome k' _ h2;rw[<-q1,<-q2];exact h.so.apart k k' _ _ b' e1 e2
  .obtain ⟨_,e1,q1⟩:=hsome k _ h1;rw[<-q1];exact h.so.mine k _ b' e1
  .refine h.so.old.trans ⟨by grind,by grind,by grind,hx,fun k hk hs=>⟨hheap k ?_,rfl⟩⟩;rintro rfl;rcases h.so.mine o _ k ho (by rw[hl];rfl) with h1 | h1
   all_goals simp_all
  intro k hk;exact h.so.wf k (by simp_all)
variable {ty:TypeId} {pos:String} {af:Array Edge} {gu:Option (Nat × Bool)} {x:Operand} {t t' :TypeId} {ss sb ss' sb' :Nat} {sz sz' :Value}
theorem wSb{k:Nat}(id:Nat){s:Str}(hN:Nat.ble (k+1) E.N=true)(hx:fr.ev x=.s s)(ht:TyOk E.P t ss sb sz .string)(hf:fr.has id=false)(hs:σ.has id=false):
 OpTo E ⟨some k,.range t x,ty,pos,af,gu⟩ fr σ ((k,.ptr id 0)::fr) ((id,.it (strB s) 0)::σ):=
 ⟨fun g a K Q hst hK=>by
  refine ⟨fun _ _=>trivial,?_⟩;rw[jAz _ _ _ (fun c=>by simp)];have h1:=hst.ev x;rw[hx]at h1;have e1:=zKa h1;have hr:(execOp a.eval ⟨some k,.range t x,ty,pos,af,gu⟩).run E.P g.w=.ok (.value (.pointer (some ⟨g.w.heap.size,0,none⟩))) (g.w.alloc (.stringIter (strB s) 0)):=by
   show Sem.run E.P (do let v <-Instr.range t (a.eval x);pure (Next.value v)) g.w=_;rw[e1];simp only[Instr.range,underlying,program,jAr,Sem.run,ht.u,jAo];rfl
  rw[hr,jBf];have hnew:(g.w.alloc (.stringIter (strB s) 0)).heap[g.w.heap.size]? =some (.stringIter (strB s) 0):=by show (g.w.heap.push _)[g.w.heap.size]? =_;simp
  have hold:Old (fun _=>False) g ⟨g.w.alloc (.stringIter (strB s) 0),fun q=>if q=g.w.heap.size then 0 else g.u q,fun q=>if q=id then .blk g.w.heap.size else g.loc q⟩:=by
   refine ⟨rfl,rfl,rfl,⟨by simp_all,fun q hq=>by grind,fun q i hq hi=>?_,fun r hr=>(Below.heap_alloc _ _ _ (zVa hr)).trans hr⟩,fun q hq _=>⟨Below.heap_alloc _ _ _ hq,by grind⟩⟩;simp only[World.cell?];rw[show (g.w.alloc (.stringIter (strB s) 0)).heap[q]? =g.w.heap[q]? from Below.heap_alloc _ _ _ hq]
  have hwf:Wf ⟨g.w.alloc (.stringIter (strB s) 0),fun q=>if q=g.w.heap.size then 0 else g.u q,fun q=>if q=id then .blk g.w.heap.size else g.loc q⟩:=by
   intro q hq;have hq:g.w.heap.size+1<=q:=by simpa using hq
   show (if q=g.w.heap.size then 0 else g.u q)=0;rw[if_neg (by omega)];exact hst.so.wf q (by omega)
  have hst' :=hst.addObj id (ob:=.it (strB s) 0) hf hs hold hwf (fun q hq=>if_neg hq) (.it (if_pos rfl) hnew (if_pos rfl)) (fun b hb=>by
   simp only[AO.own,if_true,Loc.block]at hb
   simp_all)
  exact hK _ _ (hst'.put (jAf hN) (.ptr (if_pos rfl)))⟩
def Qya(s:Str)(i:Nat):Int:=((Utf8.decode (strB s) i).1:Nat)
def jXa(s:Str)(i:Nat):Nat:=(Utf8.decode (strB s) i).2
theorem zEb{P:Program}(w:World)(s:ByteArray)(r pos:Nat)(ty:TypeId)(hb:w.heap[r]? =some (.stringIter s pos))(h:pos < s.size):
 (Instr.next (.pointer (some ⟨r,0,none⟩)) true ty).run P w=.ok (.tuple #[.bool true,.int .i64 pos,.int .i32 (Utf8.decode s pos).1]) {w with heap:=w.heap.setIfInBounds r (.stringIter s (pos+(Utf8.decode s pos).2))}:=by
 simp only[Instr.next,getObj,setObj,jAr,Sem.run,hb,Result.andThen,h,if_true];simp[goInt]
theorem zFb{P:Program}(w:World)(s:ByteArray)(r pos:Nat)(ty:TypeId)(hb:w.heap[r]? =some (.stringIter s pos))(h:¬pos < s.size):
 (Instr.next (.pointer (some ⟨r,0,none⟩)) true ty).run P w=.ok (.tuple #[.bool false]) w:=by
 simp[Instr.next,getObj,Sem.run,hb,h]
theorem jgb{ops:Array Oper}{rest:List Oper}{k o i:Nat}{s:Str}(hg:gu=none)(hN:Nat.ble (k+1) E.N=true)(hx:fr.ev x=.ptr o 0)(ho:σ.get o=some (.it (strB s) i))
 (h1:decide (i < s.length)=true->AWPL E ops rest ((k,.tup [.bo true,.i i,.pv (.b (.int .i32 (Qya s i)))])::fr) (σ.upd o (.it (strB s) (i+jXa s i))) K)
 (h2:decide (i < s.length)=false->AWPL E ops rest ((k,.tup [.bo false])::fr) σ K):
 AWPL E ops (⟨some k,.next x true,ty,pos,af,gu⟩::rest) fr σ K:=
 ⟨fun g a hst=>by
  subst hg;have hv:=hst.ev x;rw[hx]at hv;simp only[wpListIn,Region.wanted,if_true];refine ⟨fun _ _=>trivial,?_⟩;rw[jAz _ _ _ (fun c=>by simp)];obtain ⟨b,hl,hb,hst2⟩:=hst.itset (pos' :=i+jXa s i) ho;have ev:a.eval x=.pointer (some ⟨b,0,none⟩):=by
   generalize a.eval x=v at hv;cases hv with
   | ptr hl2=>simp_all
  by_cases hlt:i < s.length
  .have hr:(execOp a.eval ⟨some k,.next x true,ty,pos,af,none⟩).run E.P g.w=.ok (.value (.tuple #[.bool true,.int .i64 i,.int .i32 (Qya s i)])) {g.w with heap:=g.w.heap.setIfInBounds b (.stringIter (strB s) (i+jXa s i))}:=by
    show Sem.run E.P (do let v <-Instr.next (a.eval x) true ty;pure (Next.value v)) g.w=_;rw[ev,jAr,zEb g.w (strB s) b i ty hb (by rw[zta];omega)];rfl
   rw[hr,jBf];exact (h1 (decide_eq_true hlt)).go ⟨_,_,_⟩ _ (hst2.put (jAf hN) (.tup rfl (fun j c hj=>by
    match j,hj with
    | 0,hj=>simp at hj;subst hj;exact .pv (.b rfl)
    | 1,hj=>simp at hj;subst hj;exact .pv (.b rfl)
    | 2,hj=>simp at hj;subst hj;exact .pv (.b rfl)
    | j+3,hj=>grind)))
  have hr:(execOp a.eval ⟨some k,.next x true,ty,pos,af,none⟩).run E.P g.w=.ok (.value (.tuple #[.bool false])) g.w:=by
   show Sem.run E.P (do let v <-Instr.next (a.eval x) true ty;pure (Next.value v)) g.w=_;rw[ev,jAr,zFb g.w (strB s) b i ty hb (by rw[zta];omega)];rfl
  rw[hr,jBf];exact (h2 (decide_eq_false hlt)).go g _ (hst.put (jAf hN) (.tup rfl (fun j c hj=>by
   match j,hj with
   | 0,hj=>simp at hj;subst hj;exact .pv (.b rfl)
   | j+1,hj=>grind)))⟩
end
section
variable {P:Program} {ρ:Operand->AV} {σ:Sto} {dst:Option Tmp} {ty:TypeId} {pos:String} {af:Array Edge} {gu:Option (Nat × Bool)} {x:Operand} {t t' :TypeId} {ss sb ss' sb' :Nat} {sz sz' :Value}
theorem ev_u8i32{c:UInt8}(hx:ρ x=.u8 c)(ha:TyOk P t ss sb sz (.int .u8))(hb:TyOk P t' ss' sb' sz' (.int .i32)):EvQ P ⟨dst,.convert t t' x,ty,pos,af,gu⟩ ρ σ (.pv (.b (.int .i32 (c.toNat:Int)))):=
 ⟨fun c=>by simp,fun g ρv h _=>by
  have h1:=h x (by simp[Op.operands]);rw[hx]at h1;have e1:=zKa h1;have hlt:=c.toNat_lt;have hw:IntKind.i32.wrap (c.toNat:Int)=c.toNat:=by simp only[IntKind.wrap,IntKind.bits,IntKind.signed];simp;omega
  refine ⟨.int .i32 c.toNat,?_,.pv (.b rfl)⟩;simp[execOp,convert,e1,go_sem,underlying,ha.u,hb.u,Conv.intToInt,hw]⟩
theorem ev_i32u8{n:Int}(hx:ρ x=.pv (.b (.int .i32 n)))(ha:TyOk P t ss sb sz (.int .i32))(hb:TyOk P t' ss' sb' sz' (.int .u8)):EvQ P ⟨dst,.convert t t' x,ty,pos,af,gu⟩ ρ σ (.u8 (toU8 n)):=
 ⟨fun c=>by simp,fun g ρv h _=>by
  have h1:=h x (by simp[Op.operands]);rw[hx]at h1;have e1:=zKa h1;refine ⟨.int .u8 (toU8 n).toNat,?_,.pv (.b rfl)⟩;simp[execOp,convert,e1,go_sem,underlying,ha.u,hb.u,Conv.intToInt,Yja]⟩
def jza(n:Int):Str:=(Utf8.encode n).data.toList
theorem ev_i32s{n:Int}(hx:ρ x=.pv (.b (.int .i32 n)))(ha:TyOk P t ss sb sz (.int .i32))(hb:TyOk P t' ss' sb' sz' .string):EvQ P ⟨dst,.convert t t' x,ty,pos,af,gu⟩ ρ σ (.s (jza n)):=
 ⟨fun c=>by simp,fun g ρv h _=>by
  have h1:=h x (by simp[Op.operands]);rw[hx]at h1;have e1:=zKa h1;refine ⟨.string (Utf8.encode n),?_,.pv (.b rfl)⟩;simp[execOp,convert,e1,go_sem,underlying,ha.u,hb.u,Conv.intToString]⟩
end
end
section
structure Yua where
 size:Nat
 bytes:Nat
 zero:Value
 desc:TypeDesc
 pl:Option (Array (Nat × Nat))
abbrev Tab:=List (Nat × Yua)
def Tab.get:Tab->Nat->Option Yua
 | [],_=>none
 | (k,a)::r,t=>bif Nat.beq k t then some a else Tab.get r t
structure RowOk (P:Program) (t:TypeId) (r:Yua):Prop where
 ty:TyOk P t r.size r.bytes r.zero r.desc
 pl:∀fs p,r.desc=.struct fs->r.pl=some p->∀w,Sem.run P (fs.mapM fun f=>do pure (f.offset,<-sizeOf f.type)) w=.ok p w
def zDa(P:Program)(T:Tab):Prop:=∀t r,T.get t=some r->RowOk P t r
theorem tab_nil{P:Program}:zDa P []:=fun t r h=>by simp[Tab.get]at h
theorem Tab.get_cons(k:Nat)(a:Yua)(T:Tab)(t:Nat):Tab.get ((k,a)::T) t=if k=t then some a else Tab.get T t:=by
 by_cases h:k=t
 .subst h;simp[Tab.get]
 have:Nat.beq k t=false:=by cases hb:Nat.beq k t with
  | false=>rfl
  | true=>simp_all
 simp[Tab.get,this,h]
theorem jhb{P:Program}{T:Tab}{k:Nat}{r:Yua}(h:RowOk P k r)(hT:zDa P T):zDa P ((k,r)::T):=fun t r' h' =>by
 rw[Tab.get_cons]at h';split at h'
 .simp_all
 exact hT t r' h'
theorem kga{P:Program}{T:Tab}{k size bytes:Nat}{zero:Value}{d:TypeDesc}(h:TyOk P k size bytes zero d)(hT:zDa P T):zDa P ((k,⟨size,bytes,zero,d,none⟩)::T):=
 jhb ⟨h,fun fs p _ h=>by cases h⟩ hT
theorem q0a{P:Program}{T:Tab}{k size bytes:Nat}{zero:Value}{fs:Array Field}{p:Array (Nat × Nat)}(h:TyOk P k size bytes zero (.struct fs))(hp:∀w,Sem.run P (fs.mapM fun f=>do pure (f.offset,<-sizeOf f.type)) w=.ok p w)(hT:zDa P T):zDa P ((k,⟨size,bytes,zero,.struct fs,some p⟩)::T):=
 jhb ⟨h,fun fs' p' h1 h2=>by simp_all⟩ hT
def AV.force:AV->Option AV
 | .any=>some .any
 | .pv p=>some (.pv p)
 | .agg cs=>some (.agg cs)
 | .tup vs=>some (.tup vs)
 | .ptr o f=>some (.ptr o f)
 | .ep c=>some (.ep c)
 | .hs r o=>some (.hs r o)
 | .hp r i o=>some (.hp r i o)
 | .fn f a c=>some (.fn f a c)
 | .mp o=>some (.mp o)
 | .hsub r l=>some (.hsub r l)
 | .z0=>some .z0
 | .hpre r h=>some (.hpre r h)
 | .ifc b=>some (.ifc b)
 | .ns r=>some (.ns r)
 | .np r i o=>some (.np r i o)
 | .hn r i=>some (.hn r i)
 | .hnp r i k o=>some (.hnp r i k o)
 | .nn b=>some (.nn b)
 | .ls o=>some (.ls o)
 | .mr o=>some (.mr o)
theorem AV.force_eq{c d:AV}(h:c.force=some d):c=d:=by cases c <;> simpa[AV.force]using h
def wLa:List AV->Option (List AV)
 | []=>some []
 | c::cs=>match c.force with
  | some c' =>(match wLa cs with | some cs' =>some (c' ::cs') | none=>none)
  | none=>none
theorem qla:∀{cs ds:List AV},wLa cs=some ds->cs=ds
 | [],_,h=>by simpa[wLa]using h
 | c::cs,_,h=>by
  unfold wLa at h;split at h
  .rename_i c' hc;split at h
   .rename_i cs' hcs;cases h;rw[AV.force_eq hc,qla hcs]
   grind
  grind
def kub:List PV->Option (List PV)
 | []=>some []
 | c::cs=>match kub cs with | some cs' =>some (c::cs') | none=>none
theorem kvb:∀{cs ds:List PV},kub cs=some ds->cs=ds
 | [],_,h=>by simpa[kub]using h
 | c::cs,_,h=>by
  unfold kub at h;split at h
  .rename_i cs' hcs;cases h;rw[kvb hcs]
  grind
def AV.str? :AV->Option Str
 | .pv (.b (.string s))=>some s.data.toList
 | _=>none
theorem AV.str?_eq{c:AV}{s:Str}(h:c.str? =some s):c=.s s:=by
 unfold AV.str? at h;split at h
 .cases h;rfl
 grind
def Sto.updF:Sto->Nat->AO->Option Sto
 | [],_,_=>some []
 | (k,a)::r,o,ob=>match Nat.beq k o with
  | true=>some ((k,ob)::r)
  | false=>(match Sto.updF r o ob with
   | some r' =>some ((k,a)::r')
   | none=>none)
section
variable {P:Program} {T:Tab} {ρ:Operand->AV} {σ:Sto} {dst:Option Tmp} {ty:TypeId} {pos:String} {af:Array Edge} {gu:Option (Nat × Bool)} {c:AV}
def qStr(op:BinOp)(x y:Str):Option AV:=match op with
 | .eql=>some (.bo (x==y))
 | .neq=>some (.bo (x !=y))
 | .lss=>some (.bo (Op.bytesLess x y))
 | _=>none
def qCmp(op:BinOp)(x y:Int):Option AV:=match op with
 | .eql=>some (.bo (x==y))
 | .neq=>some (.bo (x !=y))
 | .lss=>some (.bo (decide (x < y)))
 | .leq=>some (.bo (decide (x<=y)))
 | .gtr=>some (.bo (decide (y < x)))
 | .geq=>some (.bo (decide (y<=x)))
 | _=>none
def qI64(op:BinOp)(x y:Int):Option AV:=match op with
 | .add=>some (.i (IntKind.wrap .i64 (x+y)))
 | .sub=>some (.i (IntKind.wrap .i64 (x - y)))
 | .mul=>some (.i (IntKind.wrap .i64 (x * y)))
 | op=>qCmp op x y
def qBool(T:Tab)(op:BinOp)(t:TypeId)(x y:Bool):Option AV:=match T.get t with
 | some ⟨_,_,_,.bool,_⟩=>(match op with | .eql=>some (.bo (x==y)) | .neq=>some (.bo (x !=y)) | _=>none)
 | _=>none
def qBin(T:Tab)(op:BinOp)(t:TypeId)(a b:AV):Option AV:=match a with
 | .pv (.b (.int .i64 x))=>(match b with | .pv (.b (.int .i64 y))=>qI64 op x y | _=>none)
 | .pv (.b (.int .u8 x))=>(match b with | .pv (.b (.int .u8 y))=>qCmp op x y | _=>none)
 | .pv (.b (.int .i32 x))=>(match b with | .pv (.b (.int .i32 y))=>qCmp op x y | _=>none)
 | .pv (.b (.int .u64 x))=>(match b with | .pv (.b (.int .u64 y))=>qCmp op x y | _=>none)
 | .pv (.b (.string x))=>(match b with | .pv (.b (.string y))=>qStr op x.data.toList y.data.toList | _=>none)
 | .pv (.b (.bool x))=>(match b with | .pv (.b (.bool y))=>qBool T op t x y | _=>none)
 | _=>none
theorem zGb{op:BinOp}{t t' :TypeId}{x y:Operand}{k:IntKind}{a b:Int}(hx:ρ x=.pv (.b (.int k a)))(hy:ρ y=.pv (.b (.int k b)))(h:qCmp op a b=some c):EvQ P ⟨dst,.binOp op t x y t',ty,pos,af,gu⟩ ρ σ c:=by
 unfold qCmp at h;split at h <;> first | (cases h;done) | skip
 all_goals cases h
 .exact ev_eql hx hy
 .exact ev_neq hx hy
 .exact ev_lss hx hy
 .exact ev_leq hx hy
 .exact ev_gtr hx hy
 exact ev_geq hx hy
theorem qI64_ok{op:BinOp}{t t' :TypeId}{x y:Operand}{a b:Int}(hx:ρ x=.pv (.b (.int .i64 a)))(hy:ρ y=.pv (.b (.int .i64 b)))(h:qI64 op a b=some c):EvQ P ⟨dst,.binOp op t x y t',ty,pos,af,gu⟩ ρ σ c:=by
 unfold qI64 at h;split at h
 .cases h;exact ev_add hx hy
 .cases h;exact ev_sub hx hy
 .cases h;exact ev_mul hx hy
 exact zGb hx hy h
theorem qStr_ok{op:BinOp}{t t' :TypeId}{x y:Operand}{a b:Str}(hx:ρ x=.s a)(hy:ρ y=.s b)(h:qStr op a b=some c):EvQ P ⟨dst,.binOp op t x y t',ty,pos,af,gu⟩ ρ σ c:=by
 unfold qStr at h;split at h <;> first | (cases h;done) | skip
 all_goals cases h
 .exact ev_seql hx hy
 .exact ev_sneq hx hy
 exact ev_slss hx hy
theorem qBool_ok(hT:zDa P T){op:BinOp}{t t' :TypeId}{x y:Operand}{a b:Bool}(hx:ρ x=.bo a)(hy:ρ y=.bo b)(h:qBool T op t a b=some c):EvQ P ⟨dst,.binOp op t x y t',ty,pos,af,gu⟩ ρ σ c:=by
 unfold qBool at h;split at h
 .rename_i hr;have:=(hT _ _ hr).ty;split at h
  .cases h;exact ev_beql hx hy this
  .cases h;exact ev_bneq hx hy this
  grind
 grind
theorem qBin_ok(hT:zDa P T){op:BinOp}{t t' :TypeId}{x y:Operand}(h:qBin T op t (ρ x) (ρ y)=some c):EvQ P ⟨dst,.binOp op t x y t',ty,pos,af,gu⟩ ρ σ c:=by
 unfold qBin at h;split at h
 .rename_i hx;split at h
  .rename_i hy;exact qI64_ok hx hy h
  grind
 .rename_i hx;split at h
  .rename_i hy;exact zGb hx hy h
  grind
 .rename_i hx;split at h
  .rename_i hy;exact zGb hx hy h
  grind
 .rename_i hx;split at h
  .rename_i hy;exact zGb hx hy h
  grind
 .rename_i hx;split at h
  .rename_i hy;exact qStr_ok hx hy h
  grind
 .rename_i hx;split at h
  .rename_i hy;exact qBool_ok hT hx hy h
  grind
 grind
def qLoad(T:Tab)(σ:Sto)(t:TypeId)(v:AV):Option AV:=match T.get t with
 | none=>none
 | some row=>match v with
  | .ptr o off=>(match σ.get o with
   | some (.cells cs)=>bif dAgg row.desc then (bif Nat.ble (off+row.size) cs.length then (match wLa ((cs.drop off).take row.size) with | some l=>some (.agg l) | none=>none) else none)
    else (match cs[off]? with | some c=>c.force | none=>none)
   | _=>none)
  | .ep el=>bif dAgg row.desc then (bif Nat.beq el.length row.size then (match wLa (el.map .pv) with | some l=>some (.agg l) | none=>none) else none)
   else (match el with | c::_=>some (.pv c) | []=>none)
  | _=>none
theorem qLoad_ok(hT:zDa P T){t:TypeId}{x:Operand}(h:qLoad T σ t (ρ x)=some c):EvQ P ⟨dst,.load t x,ty,pos,af,gu⟩ ρ σ c:=by
 unfold qLoad at h;split at h
 .cases h
 rename_i row hr;have ht:=(hT _ _ hr).ty;split at h
 .rename_i o off hx;split at h
  .rename_i cs ho;cases hd:dAgg row.desc with
   | true=>
    rw[hd]at h;simp only[cond_true]at h;cases hn:Nat.ble (off+row.size) cs.length with
    | false=>simp_all
    | true=>
     rw[hn]at h;simp only[cond_true]at h;split at h
     .rename_i l hl;cases h;rw[<-qla hl];exact ev_loadN hx ho ht hd hn
     grind
   | false=>
    rw[hd]at h;simp only[cond_false]at h;split at h
    .rename_i c' hc;rw[<-AV.force_eq h];exact ev_load hx ho ht hd hc
    grind
  grind
 .rename_i el hx;cases hd:dAgg row.desc with
  | true=>
   rw[hd]at h;simp only[cond_true]at h;cases hn:Nat.beq el.length row.size with
   | false=>simp_all
   | true=>
    rw[hn]at h;simp only[cond_true]at h;split at h
    .rename_i l hl;cases h;rw[<-qla hl];exact qWb hx ht hd (jAl hn)
    grind
  | false=>
   rw[hd]at h;simp only[cond_false]at h;split at h
   .cases h;exact wKb hx ht hd (by simp)
   grind
 grind
def qFA(T:Tab)(t:TypeId)(f:Nat)(v:AV):Option AV:=match T.get t with
 | some ⟨_,_,_,.struct fs,_⟩=>(match fs[f]? with
  | some fl=>(match T.get fl.type with
   | some r2=>bif Nat.beq r2.size 0 then none else (match v with
    | .ptr o off=>some (.ptr o (off+fl.offset))
    | .ep el=>bif Nat.ble fl.offset el.length then (match kub (el.drop fl.offset) with | some l=>some (.ep l) | none=>none) else none
    | .hp r i j=>some (.hp r i (j+fl.offset))
    | _=>none)
   | none=>none)
  | none=>none)
 | _=>none
theorem qFA_ok(hT:zDa P T){t:TypeId}{f:Nat}{x:Operand}(h:qFA T t f (ρ x)=some c):EvQ P ⟨dst,.fieldAddr t x f,ty,pos,af,gu⟩ ρ σ c:=by
 unfold qFA at h;split at h
 .rename_i fs _ hr;have ht:=(hT _ _ hr).ty.u;split at h
  .rename_i fl hf;split at h
   .rename_i r2 hr2;have ht2:=(hT _ _ hr2).ty;cases hz:Nat.beq r2.size 0 with
    | true=>simp_all
    | false=>
     rw[hz]at h;simp only[cond_false]at h;split at h
     .rename_i hx;cases h;exact kob hx ht hf ht2 hz
     .rename_i el hx;cases hle:Nat.ble fl.offset el.length with
      | false=>simp_all
      | true=>
       rw[hle]at h;simp only[cond_true]at h;split at h
       .rename_i l hl;cases h;rw[<-kvb hl];exact Yia hx ht hf ht2 hz hle
       grind
     .rename_i hx;cases h;exact Yra hx ht hf ht2 hz
     grind
   grind
  grind
 grind
def jib(T:Tab)(t:TypeId)(f:Nat)(v:AV):Option AV:=match T.get t with
 | some ⟨_,_,_,.struct fs,_⟩=>(match fs[f]? with
  | some fl=>(match T.get fl.type with
   | some r2=>(match v with
    | .agg cs=>bif dAgg r2.desc then none else (match cs[fl.offset]? with | some c=>c.force | none=>none)
    | _=>none)
   | none=>none)
  | none=>none)
 | _=>none
theorem jjb(hT:zDa P T){t:TypeId}{f:Nat}{x:Operand}(h:jib T t f (ρ x)=some c):EvQ P ⟨dst,.field t x f,ty,pos,af,gu⟩ ρ σ c:=by
 unfold jib at h;split at h
 .rename_i fs _ hr;have ht:=(hT _ _ hr).ty.u;split at h
  .rename_i fl hf;split at h
   .rename_i r2 hr2;have ht2:=(hT _ _ hr2).ty;split at h
    .rename_i cs hx;cases hd:dAgg r2.desc with
     | true=>simp_all
     | false=>
      rw[hd]at h;simp only[cond_false]at h;split at h
      .rename_i c' hc;rw[<-AV.force_eq h];exact ev_field hx ht hf ht2 hd hc
      grind
    grind
   grind
  grind
 grind
def qLen(T:Tab)(t:TypeId)(v:AV):Option AV:=match v with
 | .pv (.b (.string s))=>(match T.get t with | some ⟨_,_,_,.string,_⟩=>some (.i s.data.toList.length) | _=>none)
 | _=>none
theorem qLen_ok(hT:zDa P T){t:TypeId}{x:Operand}(h:qLen T t (ρ x)=some c):EvQ P ⟨dst,.call ⟨.builtin .len, #[x], #[t]⟩,ty,pos,af,gu⟩ ρ σ c:=by
 unfold qLen at h;split at h
 .rename_i hx;split at h
  .rename_i hr;cases h;exact ev_slen hx (hT _ _ hr).ty.u
  grind
 grind
def jkb(T:Tab)(t:TypeId)(ps:List (Nat × AV)):Option AV:=match T.get t with
 | some ⟨_,_,z,.struct _,some pl⟩=>bif z.cells.toList.all cellV then (match wLa (z.cells.toList.map qXa) with
  | some zs=>(match Jja (pl[·]?) zs ps with
   | some cs=>(match wLa cs with | some cs' =>some (.agg cs') | none=>none)
   | none=>none)
  | none=>none) else none
 | _=>none
theorem jlb(hT:zDa P T){t:TypeId}{ps:List (Nat × Operand)}(h:jkb T t (ps.map fun p=>(p.1,ρ p.2))=some c):EvQ P ⟨dst,.build t ps.toArray,ty,pos,af,gu⟩ ρ σ c:=by
 unfold jkb at h;split at h
 .rename_i z fs pl hr;have hk:=hT _ _ hr;cases hz:z.cells.toList.all cellV with
  | false=>simp_all
  | true=>
   rw[hz]at h;simp only[cond_true]at h;split at h
   .rename_i zs hzs;split at h
    .rename_i cs hc;split at h
     .rename_i cs' hcs;cases h;rw[<-qla hcs];rw[<-qla hzs]at hc;exact ev_build hk.ty (hk.pl fs pl rfl rfl) (.inr ⟨rfl,hz⟩) hc
     grind
    grind
   grind
 grind
def qConv(T:Tab)(t t' :TypeId)(v:AV):Option AV:=match T.get t,T.get t' with
 | some ⟨_,_,_,.string,_⟩,some ⟨_,_,_,.string,_⟩=>(match v with | .pv (.b (.string s))=>some (.s s.data.toList) | _=>none)
 | some ⟨_,_,_,.int .i32,_⟩,some ⟨_,_,_,.int .u8,_⟩=>(match v with | .pv (.b (.int .i32 n))=>some (.u8 (toU8 n)) | _=>none)
 | some ⟨_,_,_,.int .i32,_⟩,some ⟨_,_,_,.string,_⟩=>(match v with | .pv (.b (.int .i32 n))=>some (.s (jza n)) | _=>none)
 | _,_=>none
theorem qConv_ok(hT:zDa P T){t t' :TypeId}{x:Operand}(h:qConv T t t' (ρ x)=some c):EvQ P ⟨dst,.convert t t' x,ty,pos,af,gu⟩ ρ σ c:=by
 unfold qConv at h;split at h
 .rename_i h1 h2;split at h
  .rename_i hx;cases h;exact ev_s2s hx (hT _ _ h1).ty (hT _ _ h2).ty
  grind
 .rename_i h1 h2;split at h
  .rename_i hx;cases h;exact ev_i32u8 hx (hT _ _ h1).ty (hT _ _ h2).ty
  grind
 .rename_i h1 h2;split at h
  .rename_i hx;cases h;exact ev_i32s hx (hT _ _ h1).ty (hT _ _ h2).ty
  grind
 grind
theorem vdb{x:Operand}{o off:Nat}(hx:ρ x=.ptr o off):EvQ P ⟨dst,.nilCheck x,ty,pos,af,gu⟩ ρ σ (.ptr o off):=
 ⟨fun c=>by simp,fun g ρv h _=>by
  have h1:=h x (by simp[Op.operands]);rw[hx]at h1;generalize hv:ρv x=v at h1;cases h1 with
  | @ptr _ _ b hl=>
   refine ⟨_,?_,.ptr hl⟩;simp[execOp,hv]⟩
def qval(T:Tab)(ρ:Operand->AV)(σ:Sto):Op->Option AV
 | .move x=>(ρ x).force
 | .assign x=>(ρ x).force
 | .extract x i=>(match ρ x with | .tup cs=>(match cs[i]? with | some c=>c.force | none=>none) | _=>none)
 | .binOp op t x y _=>qBin T op t (ρ x) (ρ y)
 | .unOp .not _ x=>(match ρ x with | .pv (.b (.bool b))=>some (.bo (!b)) | _=>none)
 | .pick c x y=>(match ρ c with | .pv (.b (.bool b))=>(match b with | true=>(ρ x).force | false=>(ρ y).force) | _=>none)
 | .load t x=>qLoad T σ t (ρ x)
 | .fieldAddr t x f=>qFA T t f (ρ x)
 | .field t x f=>jib T t f (ρ x)
 | .call ⟨.builtin .len,⟨[x]⟩,⟨[t]⟩⟩=>qLen T t (ρ x)
 | .build t ps=>jkb T t (ps.toList.map fun p=>(p.1,ρ p.2))
 | .convert t t' x=>qConv T t t' (ρ x)
 | .makeFunc f xs ys=>(match wLa (xs.toList.map ρ),wLa (ys.toList.map ρ) with | some a,some b=>some (.fn f a b) | _,_=>none)
 | .nilCheck x=>(match ρ x with | .ptr o off=>some (.ptr o off) | _=>none)
 | _=>none
theorem Kfa(hT:zDa P T){op:Op}(h:qval T ρ σ op=some c):EvQ P ⟨dst,op,ty,pos,af,gu⟩ ρ σ c:=by
 unfold qval at h;split at h
 .rw[<-AV.force_eq h];exact VOa
 .rw[<-AV.force_eq h];exact Q8a
 .split at h
  .rename_i hx;split at h
   .rename_i hc;rw[<-AV.force_eq h];exact wJb hx hc
   grind
  grind
 .exact qBin_ok hT h
 .split at h
  .rename_i hx;cases h;exact ev_not hx
  grind
 .split at h
  .rename_i b hc;cases b with
   | true=>rw[<-AV.force_eq h];exact Z9a hc rfl
   | false=>rw[<-AV.force_eq h];exact Q9a hc rfl
  grind
 .exact qLoad_ok hT h
 .exact qFA_ok hT h
 .exact jjb hT h
 .exact qLen_ok hT h
 .rename_i ps;obtain ⟨ps⟩:=ps;exact jlb hT h
 .exact qConv_ok hT h
 .rename_i f xs ys;obtain ⟨xs⟩:=xs;obtain ⟨ys⟩:=ys;split at h
  .rename_i h1 h2;cases h;exact q5b (qla h1) (qla h2)
  grind
 .split at h
  .rename_i hx;cases h;exact vdb hx
  grind
 grind
end
section
variable {E:Env} {fr:Fr} {σ:Sto} {K:Post}
def opDo(T:Tab)(N:Nat)(o:Oper)(fr:Fr)(σ:Sto):Option (Fr × Sto):=match o.dst with
 | some d=>bif Nat.ble (d+1) N then (match o.op with
  | .alloc t=>(match T.get t with
   | some row=>(match wLa (row.zero.cells.toList.map qXa) with
    | some cs=>bif (row.zero.cells.toList.all cellV && !fr.has d && !σ.has d && !AV.hasL d cs) then some ((d,.ptr d 0)::fr,(d,.cells cs)::σ) else none
    | none=>none)
   | none=>none)
  | .box _ x=>(match (fr.ev x).cells with
   | some cs0=>(match wLa cs0 with
    | some cs=>bif (!fr.has d && !σ.has d && !AV.hasL d cs) then some ((d,.ptr d 0)::fr,(d,.cells cs)::σ) else none
    | none=>none)
   | none=>none)
  | op=>(match qval T fr.ev σ op with
   | some c=>some ((d,c)::fr,σ)
   | none=>none)) else none
 | none=>(match o.op with
  | .store t x y=>(match T.get t with
   | some row=>(match fr.ev x with
    | .ptr b off=>(match σ.get b with
     | some (.cells cs)=>(match (fr.ev y).cells with
      | some vs=>bif (Nat.beq vs.length row.size && Nat.ble (off+vs.length) cs.length) then (match wLa (Qta cs off vs) with
       | some cs' =>(match Sto.updF σ b (.cells cs') with
        | some σ' =>some (fr,σ')
        | none=>none)
       | none=>none) else none
      | none=>none)
     | _=>none)
    | _=>none)
   | none=>none)
  | _=>none)
theorem jmb:∀{σ σ' :Sto} {o:Nat} {ob:AO},Sto.updF σ o ob=some σ' ->σ.upd o ob=σ'
 | [],_,_,_,h=>by simp[Sto.updF]at h;subst h;rfl
 | (k,a)::r,σ',o,ob,h=>by
  unfold Sto.updF at h;unfold Sto.upd;cases hb:Nat.beq k o with
  | true=>simp_all
  | false=>
   rw[hb]at h;dsimp only at h;split at h
   .rename_i r' hr;cases h;rw[jmb hr];rfl
   grind
theorem zHb{T:Tab}(hT:zDa E.P T){o:Oper}{fr' :Fr}{σ' :Sto}(h:opDo T E.N o fr σ=some (fr',σ')):OpTo E o fr σ fr' σ' :=by
 obtain ⟨dst,op,ty,pos,af,gu⟩:=o;unfold opDo at h;split at h
 .rename_i d hd;dsimp only at hd;subst hd;cases hN:Nat.ble (d+1) E.N with
  | false=>simp_all
  | true=>
   rw[hN]at h;simp only[cond_true]at h;split at h
   .rename_i t;split at h
    .rename_i row hr;split at h
     .rename_i cs hcs;cases hb:(row.zero.cells.toList.all cellV && !fr.has d && !σ.has d && !AV.hasL d cs) with
      | false=>grind
      | true=>
       rw[hb]at h;simp only[cond_true]at h;cases h;simp only[jAn,jBv]at hb;obtain ⟨⟨⟨h1,h2⟩,h3⟩,h4⟩:=hb;exact K6a d hN (hT _ _ hr).ty (.inr ⟨qla hcs,h1⟩) h2 h3 h4
     grind
    grind
   .split at h
    .rename_i cs0 hc0;split at h
     .rename_i cs hcs;cases hb:(!fr.has d && !σ.has d && !AV.hasL d cs) with
      | false=>simp_all
      | true=>
       rw[hb]at h;simp only[cond_true]at h;cases h;simp only[jAn,jBv]at hb;obtain ⟨⟨h2,h3⟩,h4⟩:=hb;rw[qla hcs]at hc0;exact vVa d hN hc0 h2 h3 h4
     grind
    grind
   split at h
   .rename_i c hc;cases h;exact qja rfl hN (Kfa hT hc)
   grind
 rename_i hd;dsimp only at hd;subst hd;split at h
 .subst_vars
  split at h
  .rename_i row hr;split at h
   .rename_i b off hx;split at h
    .rename_i cs ho;split at h
     .rename_i vs hy;cases hb:(Nat.beq vs.length row.size && Nat.ble (off+vs.length) cs.length) with
      | false=>simp_all
      | true=>
       rw[hb]at h;simp only[cond_true]at h;simp only[jAn]at hb;split at h
       .rename_i cs' hcs;split at h
        .rename_i s' hs';cases h;have e1:=jmb hs';rw[<-qla hcs]at e1;rw[<-e1];exact JIa hx ho hy (hT _ _ hr).ty hb.1 hb.2
        grind
       grind
     grind
    grind
   grind
  grind
 grind
def Mono(K:Post):Prop:=∀e fr σ fr' σ',FrLe fr fr' ->zTa σ σ' ->K e fr' σ' ->K e fr σ
theorem wTb{y:Code}(h:Mono K):Mono (kthen E y K):=fun e fr σ fr' σ' hf hs hk=>by
 cases e <;> first | exact vZb hf hs hk | exact h _ _ _ _ _ hf hs hk
theorem veb{id:Nat}(h:Mono K):Mono (Q6a id K):=fun e fr σ fr' σ' hf hs hk=>by
 cases e
 case exit i=>
  simp only[Q6a]at hk ⊢;split
  .rename_i hi;rw[if_pos hi]at hk;exact h _ _ _ _ _ hf hs hk
  rename_i hi;rw[if_neg hi]at hk;exact h _ _ _ _ _ hf hs hk
 all_goals exact h _ _ _ _ _ hf hs hk
theorem jnb{J:Type}{frs:J->Fr}{stos:J->Sto}{M:J->Prop}(h:Mono K):Mono (JoinK K frs stos M):=fun e fr σ fr' σ' hf hs hk=>by
 cases e
 case normal=>
  obtain ⟨j,hm,h1,h2⟩:=hk;exact ⟨j,hm,K4a hf h1,kKa hs h2⟩
 all_goals exact h _ _ _ _ _ hf hs hk
theorem wUb(h:Mono K):Mono (jdb K):=fun e fr σ fr' σ' hf hs hk=>by
 cases e <;> first | exact h _ _ _ _ _ hf hs hk | exact hk.elim
theorem job{e0:Exit}{fr0:Fr}{σ0:Sto}:Mono (At e0 fr0 σ0):=fun e fr σ fr' σ' hf hs ⟨h1,h2,h3⟩=>⟨h1,K4a hf h2,kKa hs h3⟩
theorem jYa{A R:Type}{frs:A->Fr}{stos:A->Sto}{e0:R->Exit}{fr0:R->Fr}{σ0:R->Sto}{x:Step A R}:Mono (jTa frs stos (fun b=>At (e0 b) (fr0 b) (σ0 b)) x):=fun e fr σ fr' σ' hf hs hk=>by
 cases x with
 | cont s=>exact job e fr σ fr' σ' hf hs hk
 | out r=>exact ⟨hk.1,job e fr σ fr' σ' hf hs hk.2⟩
theorem kwb{P:Program}{fn:Func}{r:AV}:Mono (Kret P fn r):=fun e fr σ fr' σ' hf hs ⟨h1,cs,h2,h3⟩=>⟨h1,cs,h2.le hf hs,h3⟩
inductive KS where
 | base (K:Post) (h:Mono K)
 | th (y:Code) (k:KS)
 | bl (id:Nat) (k:KS)
 | sc (k:KS)
 | jo {J:Type} (frs:J->Fr) (stos:J->Sto) (M:J->Prop) (k:KS)
def KS.post(E:Env):KS->Post
 | .base K _=>K
 | .th y k=>kthen E y (k.post E)
 | .bl id k=>Q6a id (k.post E)
 | .sc k=>jdb (k.post E)
 | .jo frs stos M k=>JoinK (k.post E) frs stos M
theorem KS.mono(E:Env):∀k:KS,Mono (k.post E)
 | .base _ h=>h
 | .th _ k=>wTb (k.mono E)
 | .bl _ k=>veb (k.mono E)
 | .sc k=>wUb (k.mono E)
 | .jo _ _ _ k=>jnb (k.mono E)
inductive GS where
 | ops (ops:Array Oper) (l:List Oper) (fr:Fr) (σ:Sto) (k:KS)
 | code (c:Code) (fr:Fr) (σ:Sto) (k:KS)
 | at (e:Exit) (fr:Fr) (σ:Sto) (k:KS)
def GS.holds(E:Env):GS->Prop
 | .ops o l fr σ k=>AWPL E o l fr σ (k.post E)
 | .code c fr σ k=>AWP E c fr σ (k.post E)
 | .at e fr σ k=>k.post E e fr σ
def GS.step(T:Tab)(N:Nat):GS->Option GS
 | .ops o l fr σ k=>(match l with
  | []=>some (.at .normal fr σ k)
  | x::rest=>(match x.guard with
   | none=>(match opDo T N x fr σ with | some (fr',σ')=>some (.ops o rest fr' σ' k) | none=>none)
   | some (j,want)=>(match (o[j]?).bind (·.dst) with
    | none=>none
    | some d=>(match fr.get d with
     | .pv (.b (.bool t))=>(match (match t,want with | true,w=>w | false,w=> !w) with
      | true=>(match opDo T N x fr σ with | some (fr',σ')=>some (.ops o rest fr' σ' k) | none=>none)
      | false=>(match x.dst with | some d=>some (.ops o rest ((d,.tup [])::fr) σ k) | none=>some (.ops o rest fr σ k)))
     | .tup []=>(match x.dst with | some d=>some (.ops o rest ((d,.tup [])::fr) σ k) | none=>some (.ops o rest fr σ k))
     | _=>none))))
 | .code c fr σ k=>(match c with
  | .seq x y=>some (.code x fr σ (.th y k))
  | .region _ os draw=>(match draw with | false=>some (.ops os os.toList fr σ k) | true=>none)
  | .block id x=>some (.code x fr σ (.bl id k))
  | .scope x=>some (.code x fr σ (.sc k))
  | .label _=>some (.at .normal fr σ k)
  | .skip=>some (.at .normal fr σ k)
  | .ret=>some (.at .ret fr σ k)
  | .exit i=>some (.at (.exit i) fr σ k)
  | .cond v x y=>(match fr.ev v with
   | .pv (.b (.bool t))=>(match t with | true=>some (.code x fr σ k) | false=>some (.code y fr σ k))
   | _=>none)
  | _=>none)
 | .at e fr σ k=>(match k with
  | .base _ _=>none
  | .th y k=>(match e with
   | .normal=>some (.code y fr σ k)
   | .ret=>some (.at .ret fr σ k)
   | .exit i=>some (.at (.exit i) fr σ k)
   | _=>none)
  | .bl id k=>(match e with
   | .normal=>some (.at .normal fr σ k)
   | .ret=>some (.at .ret fr σ k)
   | .exit i=>(match Nat.beq i id with | true=>some (.at .normal fr σ k) | false=>some (.at (.exit i) fr σ k))
   | _=>none)
  | .sc k=>(match e with
   | .normal=>some (.at .normal fr σ k)
   | .ret=>some (.at .ret fr σ k)
   | .exit i=>some (.at (.exit i) fr σ k)
   | _=>none)
  | .jo _ _ _ k=>(match e with
   | .ret=>some (.at .ret fr σ k)
   | .exit i=>some (.at (.exit i) fr σ k)
   | _=>none))
def GS.run(T:Tab)(N:Nat):Nat->GS->Option GS
 | 0,g=>some g
 | n+1,g=>match GS.step T N g with
  | some g' =>GS.run T N n g'
  | none=>none
theorem step_ok{T:Tab}(hT:zDa E.P T){g g' :GS}(h:GS.step T E.N g=some g')(hh:g'.holds E):g.holds E:=by
 unfold GS.step at h;split at h
 .rename_i o l fr σ k;split at h
  .cases h;exact WXa hh
  rename_i x rest;split at h
  .rename_i hg;split at h
   .rename_i fr' σ' ho;cases h;exact z4a hg (zHb hT ho) hh
   grind
  rename_i j want hg;split at h
  .cases h
  rename_i d hj;split at h
  .rename_i t hv;split at h
   .rename_i hw;have ht:t=want:=by cases t <;> cases want <;> simp_all
    split at h
    .rename_i fr' σ' ho;cases h;exact zpb hg hj hv ht (zHb hT ho) hh
    grind
   rename_i hw;have ht:t= !want:=by cases t <;> cases want <;> simp_all
   split at h
   .rename_i d' hd;cases h;exact zqb hg hj hv ht (by rw[hd];exact hh)
   rename_i hd;cases h;exact zqb hg hj hv ht (by rw[hd];exact hh)
  .rename_i hv;split at h
   .rename_i d' hd;cases h;exact kmb hg hj hv (by rw[hd];exact hh)
   rename_i hd;cases h;exact kmb hg hj hv (by rw[hd];exact hh)
  grind
 .rename_i c fr σ k;split at h
  .cases h;exact qUb hh
  .rename_i id ops draw;cases draw with
   | false=>cases h;obtain ⟨ops⟩:=ops;exact VNa hh
   | true=>cases h
  .cases h;exact yNb hh
  .cases h;exact jeb hh
  .cases h;exact jfb hh
  .cases h;exact awp_skip hh
  .cases h;exact yMb hh
  .cases h;exact awp_exit hh
  .split at h
   .rename_i t hv;cases t with
    | true=>cases h;exact zob hv (fun _=>hh) (fun h=>nomatch h)
    | false=>cases h;exact zob hv (fun h=>nomatch h) (fun _=>hh)
   grind
  grind
 rename_i e fr σ k;split at h
 .cases h
 .split at h <;> first | (cases h;done) | (cases h;exact hh)
 .split at h
  .cases h;exact hh
  .cases h;exact hh
  .rename_i id k _ i;cases hb:Nat.beq i id with
   | true=>rw[hb]at h;cases h;have:=jAl hb;subst this;exact qVb hh
   | false=>rw[hb]at h;cases h;exact kjb hb hh
  grind
 .split at h <;> first | (cases h;done) | (cases h;exact hh)
 split at h <;> first | (cases h;done) | (cases h;exact hh)
theorem rn{T:Tab}(hT:zDa E.P T)(n:Nat){g g' :GS}(h:GS.run T E.N n g=some g')(hh:g'.holds E):g.holds E:=by
 induction n generalizing g with
 | zero=>simp only[GS.run,Option.some.injEq]at h;simp_all
 | succ n ih=>
  unfold GS.run at h;split at h
  .rename_i g1 h1;exact step_ok hT h1 (ih h)
  grind
end
end
section
open Go.RowKit Go.Lib Go.Proofs.Tryz
variable {E:Env} {fr:Fr} {σ:Sto} {K:Post} {P:Program} {ρ:Operand->AV}
variable {dst:Option Tmp} {ty:TypeId} {pos:String} {af:Array Edge} {gu:Option (Nat × Bool)} {x y:Operand} {r:Nat} {l:List UInt8} {t tx e:TypeId}
theorem RelO.bufs{g:G}{v:Value}(h:RelO g r (.buf l))(hv:Rel g (.hs r 0) v):∃a e b cap vs,v=.slice (some a) l.length cap/\(0 < cap->a=⟨b,0,none⟩)/\g.loc r=.row b 0 cap 1 l.length/\g.w.heap[b]? =some (.cells vs e (cap,cap+1))/\vs.size=cap/\l.length<=cap/\g.u b=0/\∀i c,l[i]? =some c->vs.getD i undef=.int .u8 (c.toNat:Int):=by
 cases h with
 | @buf _ e b cap vs h1 h2 h3 h4 h5 h6=>
  cases hv with
  | hsNil a hl=>simp_all
  | @hs _ b' off' cap' size' n' a hl ha=>
   rw[h1]at hl;cases hl;exact ⟨a,e,b,cap,vs,rfl,fun hc=>by simp_all,h1,h2,h3,h4,h5,h6⟩
theorem jpb(hx:ρ x=.hs r 0)(hr:σ.get r=some (.buf l))(ht:P.underlying t=some (.slice tx)):EvQ P ⟨dst,.call ⟨.builtin .len, #[x], #[t]⟩,ty,pos,af,gu⟩ ρ σ (.i l.length):=
 ⟨fun c=>by simp,fun g ρv h hs=>by
  have h1:=h x (by simp[Op.operands,Call.operands]);rw[hx]at h1;obtain ⟨a,e,b,cap,vs,ev,_⟩:=(hs r _ hr).bufs h1;refine ⟨.int .i64 l.length,?_,.pv (.b rfl)⟩;simp[execOp,resolve,invoke,builtin,Builtin.len_,ev,go_sem,underlying,ht,goInt]⟩
section
variable {n:Int} {kk:IntKind} {v v' :UInt8} {ss sb s1 s2:Nat} {sz zero:Value}
theorem kxb(hx:ρ x=.hs r 0)(hy:ρ y=.pv (.b (.int kk n)))(hr:σ.get r=some (.buf l))(ht:TyOk P t ss sb sz (.slice e))(he:TyOk P e 1 s2 zero (.int .u8))(hv:idx l n=some v):
 EvQ P ⟨dst,.indexAddr t x y,ty,pos,af,gu⟩ ρ σ (.hp r n.toNat 0):=
 ⟨fun c=>by simp,fun g ρv h hs=>by
  obtain ⟨h1,h2⟩:=ops2 (o:=⟨dst,.indexAddr t x y,ty,pos,af,gu⟩) (x:=x) (y:=y) rfl h;rw[hx]at h1;rw[hy]at h2;have e2:=zKa h2;obtain ⟨hn0,hv⟩:=wza hv;have hlt:n.toNat < l.length:=(jAd.1 hv).1;have hn2:n < l.length:=by omega
  obtain ⟨i,hi,hsz,hby,hzero⟩:=he.info;obtain ⟨a,e',b,cap,vs,ev,ha,hl,_,_,hle,_,_⟩:=(hs r _ hr).bufs h1;have ha:=ha (by omega);subst ha;refine ⟨.pointer (some ⟨b,(0+n.toNat) * 1+0,none⟩),?_,.hp hl hlt⟩;simp[execOp,Instr.indexAt,e2,ev,go_sem,asIntOf,underlying,ht.u,sizeOf,typeInfo,hi,hsz,hn0,hn2,qwa]⟩
theorem RelO.bufp{g:G}{i:Nat}{vp:Value}(h:RelO g r (.buf l))(hp:Rel g (.hp r i 0) vp):∃e b cap vs,vp=.pointer (some ⟨b,i,none⟩)/\g.loc r=.row b 0 cap 1 l.length/\g.w.heap[b]? =some (.cells vs e (cap,cap+1))/\vs.size=cap/\l.length<=cap/\g.u b=0/\∀i c,l[i]? =some c->vs.getD i undef=.int .u8 (c.toNat:Int):=by
 cases h with
 | @buf _ e b cap vs h1 h2 h3 h4 h5 h6=>
  cases hp with
  | hp hl hi=>
   rw[h1]at hl;cases hl
   grind
theorem wVb(hx:ρ x=.hp r n.toNat 0)(hr:σ.get r=some (.buf l))(ht:TyOk P t ss sb sz (.int .u8))(hv:idx l n=some v):EvQ P ⟨dst,.load t x,ty,pos,af,gu⟩ ρ σ (.pv (pU v)):=
 ⟨fun c=>by simp,fun g ρv h hs=>by
  have h1:=h x (by simp[Op.operands]);rw[hx]at h1;obtain ⟨hn0,hv⟩:=wza hv;obtain ⟨e,b,cap,vs,e1,e2,e3,e4,e5,e6,e7⟩:=(hs r _ hr).bufp h1;have hlt:=(jAd.1 hv).1;refine ⟨_,vDa e1 (wIa ht rfl (kda e3 (by omega))),?_⟩;rw[e7 _ _ hv];exact .pv (.b rfl)⟩
theorem ev_buf2s(hx:ρ x=.hs r 0)(hr:σ.get r=some (.buf l))(ht:TyOk P t ss sb sz (.slice e))(he:TyOk P e s1 s2 zero (.int .u8)){ss' sb' :Nat}{sz' :Value}(htx:TyOk P tx ss' sb' sz' .string):
 EvQ P ⟨dst,.convert t tx x,ty,pos,af,gu⟩ ρ σ (.s l):=
 ⟨fun c=>by simp,fun g ρv hh hs=>by
  have h1:=hh x (by simp[Op.operands]);rw[hx]at h1;obtain ⟨a,e',b,cap,vs,ev,ha,hl,hb,hcap,hle,_,hc⟩:=(hs r _ hr).bufs h1;refine ⟨.string (strB l),?_,.pv (.b rfl)⟩;show Sem.run P (do let v <-convert t tx (ρv x);pure (Next.value v)) g.w=_
  suffices hs:Sem.run P (convert t tx (ρv x)) g.w=.ok (.string (strB l)) g.w by simp_all
  rw[ev,run_convert_bytes_string g.w t tx e _ _ _ ht.u he.u htx.u];have hload:=run_loadCells_list (P:=P) g.w a (l.map fun c=>Value.int .u8 (c.toNat:Int)) (fun i w hi=>by
   simp only[jAk,jAh]at hi;obtain ⟨c,hc1,rfl⟩:=hi;have hlt:=(jAd.1 hc1).1;rw[ha (by omega),qwa,jCc,kda hb (by omega),hc i c hc1])
  rw[jAx]at hload;have hr:=run_bytesToString (P:=P) g.w a l.length cap (l.map fun c=>(c.toNat:Int)) (by simp_all);rw[hr,foldl_push_bytes];simp[strB,Function.comp_def]⟩
theorem zIb(hx:fr.ev x=.hp r n.toNat 0)(hr:σ.get r=some (.buf l))(hy:(fr.ev y).weak=.pv (pU v'))(ht:TyOk E.P t 1 s2 zero (.int .u8))(hv:idx l n=some v):
 OpTo E ⟨none,.store t x y,ty,pos,af,gu⟩ fr σ fr (σ.upd r (.buf (l.set n.toNat v'))):=
 ⟨fun g a K Q hst hK=>by
  refine ⟨fun _ _=>trivial,?_⟩;rw[jAz _ _ _ (fun c=>by simp)];have h1:=hst.ev x;rw[hx]at h1;obtain ⟨hn0,hv⟩:=wza hv;obtain ⟨e,b,cap,cur,e1,e2,e3,e4,e5,e6,e7⟩:=(hst.so.obj r _ hr).bufp h1;have hlt:=(jAd.1 hv).1;have hvy:a.eval y=.int .u8 (v'.toNat:Int):=by
   have h2:=qUa (hst.ev y);rw[hy]at h2;exact zKa h2
  have hcell:g.w.cell? ⟨b,n.toNat,none⟩=some (cur.getD n.toNat undef):=kda e3 (by omega);have hfro:g.w.frozen? ⟨b,n.toNat,none⟩=false:=by
   simp only[World.frozen?,e3,Bool.and_eq_false_iff,decide_eq_false_iff_not];left;omega
  have hst1:(store ((⟨b,n.toNat,none⟩:Addr).add 0) (.int .u8 (v'.toNat:Int))).run E.P g.w=.ok () (g.w.setRow b (cur.setIfInBounds n.toNat (.int .u8 (v'.toNat:Int)))):=by
   rw[qwa,jBy,run_store E.P g.w _ _ _ rfl,hcell];simp[hfro,setCell_eq_setRow g.w b n.toNat cur e (cap,cap+1) _ e3]
  have hrun:(execOp a.eval ⟨none,.store t x y,ty,pos,af,gu⟩).run E.P g.w=.ok .skip (g.w.setRow b (cur.setIfInBounds n.toNat (.int .u8 (v'.toNat:Int)))):=by
   show Sem.run E.P (do Instr.storeAt t (a.eval x) (a.eval y);pure Next.skip) g.w=_;rw[e1,hvy];simp only[Instr.storeAt,Instr.sureAddr,storeVar,jAr,jAv,jAo,ht.sizeOf];rw[if_neg (by simp[Value.cells])];simp only[Value.cells,jAr,jAv,jAo,storeCells,hst1]
  rw[hrun,Oper.uponIn_skip];generalize hnew:cur.setIfInBounds n.toNat (.int .u8 (v'.toNat:Int))=new;have hnsz:new.size=cur.size:=by rw[<-hnew];simp
  have hheap:∀k,k≠b->(g.w.setRow b new).heap[k]? =g.w.heap[k]? :=fun k hk=>by
   simp only[World.setRow,jBl];grind
  have hnewb:=setRow_heap g.w b cur new e _ e3;have hsz:(g.w.setRow b new).heap.size=g.w.heap.size:=by simp[World.setRow]
  have hxx:Ext g.w g.u (g.w.setRow b new) g.u:=⟨jBm hsz.symm,fun _ _=>jAm _,fun k i hk hi=>by
   by_cases hkb:k=b
   .simp_all
   simp only[World.cell?];grind,fun r' hr' =>(hheap r' (by grind)).trans hr'⟩
  refine hK ⟨g.w.setRow b new,g.u,g.loc⟩ _ (St.put_none (hst.objset hr hxx rfl rfl rfl rfl (fun k hk hne=>⟨hheap k (by rintro rfl;exact hne (by rw[e2];rfl)),rfl⟩) (Yka hst.so.wf (jBm hsz.symm) _) ?_ (fun _=>rfl)));refine .buf (by simp_all) hnewb (by omega) (by simp_all) e6 fun i c hi=>?_
  rw[<-hnew,jAg,jBq];by_cases hin:n.toNat=i
  .grind
  simp_all⟩
end
theorem wWb{k:Nat}{t t' e:TypeId}{x:Operand}{s:Str}{ss sb ss' sb' s1 s2:Nat}{sz sz' z:Value}(r:Nat)(hN:Nat.ble (k+1) E.N=true)(hfr:fr.has r=false)(hsr:σ.has r=false)(hx:fr.ev x=.s s)(ht:TyOk E.P t ss sb sz .string)(ht' :TyOk E.P t' ss' sb' sz' (.slice e))(he:TyOk E.P e s1 s2 z (.int .u8)):
 OpTo E ⟨some k,.convert t t' x,ty,pos,af,gu⟩ fr σ ((k,.hs r 0)::fr) ((r,.buf s)::σ):=
 ⟨fun g a K Q hst hK=>by
  refine ⟨fun _ _=>trivial,?_⟩;rw[jAz _ _ _ (fun c=>by simp)];have h1:=hst.ev x;rw[hx]at h1;have e1:=zKa h1;generalize hcap:(Question.appendCap s.length 0 e).cut (g.w.tape g.w.drawn (.appendCap s.length 0 e))=cap;have hge:s.length<=cap:=by rw[<-hcap];simp[Question.cut]
  generalize hcells:((strB s).data.map (fun b=>Value.int .u8 (b.toNat:Int))++Array.replicate (cap - s.length) (Value.int .u8 0))=cells;have hsz:cells.size=cap:=by rw[<-hcells];simp[strB];omega
  have hget:∀i c,s[i]? =some c->cells.getD i undef=.int .u8 (c.toNat:Int):=by
   intro i c hi;have hlt:=(jAd.1 hi).1;rw[<-hcells,jAg,jAw (by grind)];simp[strB,hi]
  have hrun:(execOp a.eval ⟨some k,.convert t t' x,ty,pos,af,gu⟩).run E.P g.w=.ok (.value (.slice (some ⟨g.w.heap.size,0,none⟩) s.length cap)) ((g.w.drew.alloc (.cells cells e)).freeze ⟨g.w.heap.size,cap,none⟩ 1):=by
   show Sem.run E.P (do let v <-convert t t' (a.eval x);pure (Next.value v)) g.w=_;rw[e1];have hsh:(g.w.drew.alloc (.cells cells e)).shape? g.w.heap.size=some (e,cap):=by
    simp only[World.shape?];rw[show (g.w.drew.alloc (.cells cells e)).heap[g.w.heap.size]? =some (.cells cells e (0,0)) from heap_alloc_new g.w.drew _];simp[hsz]
   simp only[convert,underlying,program,jAr,Sem.run,ht.u,ht'.u,he.u,jAo,jAv,Conv.stringToBytes,choose,Question.forced,jAs,if_false,zta,hcap,hcells,newRow,newObj,markStringish,shape,freeze];show Result.andThen (Result.andThen (Sem.run E.P (match (g.w.drew.alloc (.cells cells e)).shape? g.w.heap.size with | some (_,n)=>Sem.freeze ⟨g.w.heap.size,n,none⟩ 1 (Sem.pure ()) | _=>pure ()) (g.w.drew.alloc (.cells cells e))) fun _ w' =>.ok (Value.slice (some ⟨g.w.heap.size,0,none⟩) s.length cap) w') (fun v w' =>.ok (Next.value v) w')=_;rw[hsh];rfl
  rw[hrun,jBf];generalize hw:(g.w.drew.alloc (.cells cells e)).freeze ⟨g.w.heap.size,cap,none⟩ 1=w';have hblk:w'.heap[g.w.heap.size]? =some (.cells cells e (cap,cap+1)):=by
   subst hw;simp only[World.freeze,Nat.one_ne_zero,if_false,jBl,if_true];rw[show (g.w.drew.alloc (.cells cells e)).heap[g.w.heap.size]? =some (.cells cells e (0,0)) from heap_alloc_new g.w.drew _];rfl
  have hother:∀q,q < g.w.heap.size->w'.heap[q]? =g.w.heap[q]? :=by
   intro q hq;subst hw;simp only[World.freeze,Nat.one_ne_zero,if_false,jBl];rw[if_neg (by omega)];exact Below.heap_alloc g.w.drew _ _ hq
  have hws:w'.heap.size=g.w.heap.size+1:=by subst hw;simp[World.freeze]
  have hold:Old (fun _=>False) g ⟨w',fun q=>if q=g.w.heap.size then 0 else g.u q,fun q=>if q=r then .row g.w.heap.size 0 cap 1 s.length else g.loc q⟩:=by
   refine ⟨by subst hw;first | (simp[World.freeze];done) | (simp[World.freeze];rfl),by subst hw;first | (simp[World.freeze];done) | (simp[World.freeze];rfl),by subst hw;first | (simp[World.freeze];done) | (simp[World.freeze];rfl),⟨by simp_all,fun q hq=>?_,fun q i hq hi=>?_,?_⟩,fun q hq _=>⟨hother q hq,if_neg (by omega)⟩⟩
   .grind
   .simp only[World.cell?];simp_all
   grind
  have hwf:Wf ⟨w',fun q=>if q=g.w.heap.size then 0 else g.u q,fun q=>if q=r then .row g.w.heap.size 0 cap 1 s.length else g.loc q⟩:=by
   intro q hq;have hq:g.w.heap.size+1<=q:=by rw[<-hws];exact hq
   show (if q=g.w.heap.size then 0 else g.u q)=0;rw[if_neg (by omega)];exact hst.so.wf q (by omega)
  have hst' :=hst.addObj r (ob:=.buf s) hfr hsr hold hwf (fun q hq=>if_neg hq) (.buf (if_pos rfl) hblk hsz hge (if_pos rfl) hget) (fun b hb=>by
   simp only[AO.own,if_true,Loc.block]at hb
   simp_all)
  exact hK _ _ (hst'.put (jAf hN) (.hs (if_pos rfl) (fun _=>by simp)))⟩
end
section
open Go.RowKit Go.Lib Go.Proofs.Tryz
variable {E:Env} {fr:Fr} {σ:Sto} {K:Post} {P:Program} {ρ:Operand->AV}
variable {dst:Option Tmp} {ty:TypeId} {pos:String} {af:Array Edge} {gu:Option (Nat × Bool)}
section
variable {α:Type} {F:α->List PV} {r' :List α} {r size bytes sb ss s1 b1 k lim:Nat} {e t tn:TypeId} {zero sz z1:Value} {d d1:TypeDesc} {x y:Operand} {n:Int} {kn:IntKind} {z:α}
end
end
section
open Go.RowKit Go.Lib Go.Proofs.Tryz
variable {E:Env} {fr:Fr} {σ:Sto} {K:Post}
def vfb(l:List Oper)(m f:Nat):Bool:=
 vZa .any l.toArray &&
 ((l.take m).all fun o=>o.dst.isSome) &&
 (List.range m).all (fun i=>(List.range m).all fun j=>Nat.beq i j || (l[i]?).bind (·.dst) !=(l[j]?).bind (·.dst)) &&
 ((l.take m).all fun o=>(Wsa o).all fun t=>(List.range m).all fun j=>(l[j]?).bind (·.dst) !=some t || qxa o j) &&
 ((l.take m).all fun o=>match o.guard with | none=>true | some (j,_)=>qxa o j) &&
 (List.range l.length).all (fun i=>Nat.ble (i+1) m || (List.range i).all fun j=>(Nat.beq i m && Nat.beq j f) || ((wka l l.length).getD i 0).testBit j)
def JDF(E:Env)(l:List Oper)(m f:Nat)(of:Oper)(cs:List AV)(az:List (Option (Nat × List AV)))(fr:Fr)(σ:Sto)(K:Post)(D:Nat->Bool)(a:Act)(w:World):Prop:=
 (∀i o,l[i]? =some o->D i=true->∀e∈o.after,Region.binds .any e=true->D e.on=true)/\
 ((∃g,g.w=w/\(∀i,m<=i->D i=false)/\(∃i,i < m/\D i=false)/\a.tmps.size=E.N/\DokE E g.w a.defers/\Sok E.S E.g0 g (objs D 0 az++σ)/\
  (∀d,(∀i o,i < m->l[i]? =some o->o.dst≠some d)->Rel g (fr.get d) (a.tmps.getD d undef))/\
  (∀i o c d,i < m->D i=true->l[i]? =some o->cs[i]? =some c->o.dst=some d->Rel g c (a.tmps.getD d undef)))
  ∨(∃s,m<=s/\(∀i,i < l.length->(D i=true↔i < s))/\s<=l.length/\wpListIn (fen E.rd) 0 E.P l.toArray (Ends E K) (l.drop s) a w)
  ∨((∀i,i < l.length->(D i=true↔i < m+1/\i≠f))/\wpListIn (fen E.rd) 0 E.P l.toArray (Ends E K) (of::l.drop (m+1)) a w))
set_option maxHeartbeats 1000000 in
theorem wXb{id:Nat}{l:List Oper}(m f:Nat){of om:Oper}(new new2:Fr){cs:List AV}{az:List (Option (Nat × List AV))}{σ' :Sto}(hmix:E.P.follows .mixedOrders=true)(hok:vfb l m f=true)(hf:l[f]? =some of)(hom:l[m]? =some om)(hfm:Nat.ble (f+1) m=true)(hm:Nat.ble m l.length=true)(hN:((l.take m).all fun o=>o.dst.all fun d=>Nat.ble (d+1) E.N)=true)
 (hp:QRa E l.toArray (new++fr) σ (l.take m) cs az) (hfree:jcb fr σ cs az=true) (hazf:az[f]? =some none) (hσ:objs (fun _=>true) 0 az++σ=σ') (hnew:wKa (l.take m) cs []=new) (hnew2:wKa (l.take m) (cs.set f .any) []=new2) (h:AWPL E l.toArray (l.drop m) (new++fr) σ' K) (h2:AWPL E l.toArray (om::of::l.drop (m+1)) (new2++fr) σ' K):AWP E (.region id l.toArray true) fr σ K:=by
 have hm:=jAf hm;have hfm:=jAf hfm;simp only[vfb,jAn,jAp]at hok;obtain ⟨⟨⟨⟨⟨hlb,hsome⟩,hdist⟩,hdat⟩,hgrd⟩,hsuf⟩:=hok;have hcslen:cs.length=m:=by rw[hp.len.1];simp;omega
 have haslen:az.length=m:=by rw[hp.len.2];simp;omega
 simp only[jcb,jAn,jAp]at hfree;obtain ⟨⟨⟨hdist2,hids⟩,hcells⟩,hcsid⟩:=hfree;have hids' :∀k∈jca az,fr.has k=false/\σ.has k=false/\σ.get k=none:=by
  intro k hk;have:=hids k hk;simp only[jBv,Option.isNone_iff_eq_none]at this;exact ⟨this.1.1,this.1.2,this.2⟩
 have hcells' :∀(j id:Nat) (c:List AV),az[j]? =some (some (id,c))->∀k∈jca az,AV.hasL k c=false:=by
  intro j id c hj k hk;have:=hcells _ (jAi hj);simp only[jAp,jBv]at this;exact this k hk
 have hcs' :∀(j:Nat) (c:AV) (x:Option (Nat × List AV)),cs[j]? =some c->az[j]? =some x->∀k∈jca az,(∀id ds,x=some (id,ds)->id≠k)->c.has k=false:=by
  intro j c x hc hx k hk hne;have hmz:(c,x)∈cs.zip az:=by
   refine jAi (i:=j) ?_;rw[List.getElem?_zip_eq_some];exact ⟨hc,hx⟩
  have:=hcsid _ hmz k hk;simp only[jBr,jBv]at this;rcases this with h1 | h1
  .cases x with
   | none=>cases h1
   | some x=>obtain ⟨id,ds⟩:=x;exact absurd (jAl h1) (hne id ds rfl)
  exact h1
 have hsub:∀(D:Nat->Bool) o ob,σ.get o=some ob->Sto.get (objs D 0 az++σ) o=some ob:=by
  intro D o ob ho;rcases JQa (σ:=σ) (D:=D) az hdist2 o with ⟨j,c,_,h2,_⟩ | ⟨_,h2⟩
  .have:=(hids' o (Yta h2)).2.2;rw[this]at ho;cases ho
  rw[h2];exact ho
 have htake:∀i,i < m->(l.take m)[i]? =l[i]? :=fun i hi=>jBd hi
 have hmem:∀i o,i < m->l[i]? =some o->o∈l.take m:=fun i o hi ho=>jAi (by rw[htake i hi];exact ho)
 have hdist' :∀i j o o',i < m->j < m->l[i]? =some o->l[j]? =some o' ->i≠j->o.dst≠o'.dst:=by
  intro i j o o' hi hj ho ho' hne hc;have:=hdist i (by simpa using hi) j (by simpa using hj);simp only[jBr,bne_iff_ne,ne_eq]at this;rcases this with h1 | h1
  .exact hne (jAl h1)
  exact h1 (by rw[ho,ho'];simpa using hc)
 have hA:∀d,(∀i o,i < m->l[i]? =some o->o.dst≠some d)->(new++fr).get d=fr.get d:=by
  intro d hd;rw[<-hnew,<-k0a,jCf];refine wna _ _ _ _ fun o ho=>?_
  obtain ⟨i,hi,rfl⟩:=jBz ho;have hi' :i < m:=by simp at hi;omega
  exact hd i _ hi' (by rw[<-htake i hi'];exact jAe hi)
 have hB:∀i o c d,i < m->l[i]? =some o->cs[i]? =some c->o.dst=some d->(new++fr).get d=c:=by
  intro i o c d hi ho hc hd;rw[<-hnew,<-k0a,jCf];refine Kca _ _ _ i o c d (fun i j o o' h1 h2 hne=>?_) (by rw[htake i hi];exact ho) hc hd;have hi1:i < m:=by have:=(jAd.1 h1).1;simp at this;omega
  have hj1:j < m:=by have:=(jAd.1 h2).1;simp at this;omega
  rw[htake i hi1]at h1;rw[htake j hj1]at h2;exact hdist' i j o o' hi1 hj1 h1 h2 hne
 have hsuf' :∀{D:Nat->Bool} i o,(∀i o,l[i]? =some o->D i=true->∀e∈o.after,Region.binds .any e=true->D e.on=true)->m<=i->l[i]? =some o->(∀e∈o.after,Region.binds .any e=true->D e.on=true)->∀j,j < i->(i=m/\j=f)∨D j=true:=by
  intro D i o hcl hi ho he j hj;have hil:i < l.length:=(jAd.1 ho).1;have:=hsuf i (by simpa using hil);simp only[jBr,jAp]at this;rcases this with h1 | h1
  .have:=jAf h1;omega
  have h2:=h1 j (by simpa using hj);simp only[jBr,jAn]at h2;rcases h2 with h3 | h3
  .exact .inl ⟨jAl h3.1,jAl h3.2⟩
  exact .inr (yGa hcl l.length i o ho he j h3)
 have hA2:∀d,(∀i o,i < m->l[i]? =some o->o.dst≠some d)->(new2++fr).get d=fr.get d:=by
  intro d hd;rw[<-hnew2,<-k0a,jCf];refine wna _ _ _ _ fun o ho=>?_
  obtain ⟨i,hi,rfl⟩:=jBz ho;have hi' :i < m:=by simp at hi;omega
  exact hd i _ hi' (by rw[<-htake i hi'];exact jAe hi)
 have hB2:∀i o c d,i < m->l[i]? =some o->(cs.set f .any)[i]? =some c->o.dst=some d->(new2++fr).get d=c:=by
  intro i o c d hi ho hc hd;rw[<-hnew2,<-k0a,jCf];refine Kca _ _ _ i o c d (fun i j o o' h1 h2 hne=>?_) (by rw[htake i hi];exact ho) hc hd;have hi1:i < m:=by have:=(jAd.1 h1).1;simp at this;omega
  have hj1:j < m:=by have:=(jAd.1 h2).1;simp at this;omega
  rw[htake i hi1]at h1;rw[htake j hj1]at h2;exact hdist' i j o o' hi1 hj1 h1 h2 hne
 have hdir:∀{D:Nat->Bool} {o:Oper} {j:Nat},(∀e∈o.after,Region.binds .any e=true->D e.on=true)->qxa o j=true->D j=true:=by
  intro D o j he hd;simp only[qxa,List.any_eq_true,jAn]at hd;obtain ⟨e,h1,h2,h3⟩:=hd;rw[<-jAl h3];exact he e (by simpa using h1) h2
 refine ⟨fun g a hst=>?_⟩;have hst0:=hst.drew;refine v0a hmix hlb (JDF E l m f of cs az fr σ K) ⟨fun i o _ hd=>by simp at hd,?_⟩ ?_ ?_
 .by_cases h0:m=0
  .subst h0;exact absurd hfm (by omega)
  exact .inl ⟨⟨g.w.drew,g.u,g.loc⟩,rfl,fun _ _=>rfl,⟨0,by omega,rfl⟩,hst0.n,hst0.df,hst0.so.le (fun o ob ho=>by rw[<-Kda (D:=fun _=>false) az 0 (fun _ _ _=>rfl)];exact ho),fun d _=>hst0.fr d,fun i o c d _ hd=>by simp at hd⟩
 .rintro D a w ⟨_,⟨g,_,_,⟨i,hi,hd⟩,_⟩ | ⟨s,hs1,hs2,hs3,hs4⟩ | ⟨hs2,_⟩⟩ hall
  .rw[hall i (by simp;omega)]at hd;cases hd
  .have:s=l.length:=by
    rcases jAu s l.length with h1 | h1
    .have:=(hs2 s h1).1 (hall s (by simpa using h1));omega
    omega
   subst this;rw[List.drop_length]at hs4;exact hs4
  have:=(hs2 f (by omega)).1 (hall f (by simp;omega));exact absurd rfl this.2
 rintro D a w i o ⟨hcl,hJ⟩ ho hDi he;have ho' :l[i]? =some o:=by simpa using ho
 have hcl' :∀i' o',l[i']? =some o' ->upd D i i' =true->∀e∈o'.after,Region.binds .any e=true->upd D i e.on=true:=by
  intro i' o' h1 h2 e h3 h4;unfold upd at h2 ⊢;split
  .rfl
  split at h2
  .rename_i hii;subst hii;rw[ho']at h1;cases h1;exact he e h3 h4
  exact hcl i' o' h1 h2 e h3 h4
 rcases hJ with ⟨g,rfl,hge,⟨i0,hi0,hd0⟩,hsz,hdf,hso,hf0,hfD⟩ | ⟨s,hs1,hs2,hs3,hs4⟩ | ⟨hs2,hs4⟩
 .by_cases him2:i=m
  .subst him2;have hall:∀j,j < i->j≠f->D j=true:=by
    intro j hj hjf;rcases hsuf' i o hcl (jAm _) ho' he j hj with ⟨_,h1⟩ | h1
    .exact absurd h1 hjf
    exact h1
   have hf0' :i0=f:=by
    by_cases h1:i0=f
    .exact h1
    have:=hall i0 hi0 h1;rw[hd0]at this;cases this
   subst hf0';have eo:o=om:=by rw[ho']at hom;cases hom;rfl
   subst eo;have hst2:St E g a (new2++fr) σ' :=by
    refine ⟨fun d' =>?_,hsz,hdf,?_⟩
    .by_cases hex2:∃j o',j < i/\l[j]? =some o' /\o'.dst=some d'
     .obtain ⟨j,o',hj,h1,h3⟩:=hex2;obtain ⟨c',hc'⟩:∃c,cs[j]? =some c:=⟨cs[j]'(by omega),jAe (by omega)⟩;by_cases hjf:j=i0
      .subst hjf;rw[hB2 j o' .any d' hj h1 (by rw[List.getElem?_set_self (by omega)]) h3];exact .any _
      rw[hB2 j o' c' d' hj h1 (by rw[List.getElem?_set_ne (Ne.symm hjf)];exact hc') h3];exact hfD j o' c' d' hj (hall j hj hjf) h1 hc' h3
     rw[hA2 d' (fun j o' hj h1 h3=>hex2 ⟨j,o',hj,h1,h3⟩)];exact hf0 d' (fun j o' hj h1 h3=>hex2 ⟨j,o',hj,h1,h3⟩)
    have e:objs D 0 az=objs (fun _=>true) 0 az:=Kea az 0 (fun j x hj=>by
     rw[jCc];have hjm:j < i:=by have:=(jAd.1 hj).1;omega
     refine hall j hjm ?_;rintro rfl;rw[hazf]at hj;cases hj)
    rw[<-hσ,<-e];exact hso
   have hs4:=h2.go g a hst2;have hil:i < l.length:=(jAd.1 ho').1;unfold wpOpIn;rw[ho];simp only[wpListIn]at hs4 ⊢;have hJ' :∀a' w',wpListIn (fen E.rd) 0 E.P l.toArray (Ends E K) (of::l.drop (i+1)) a' w' ->JDF E l i i0 of cs az fr σ K (upd D i) a' w' :=by
    intro a' w' hw';refine ⟨hcl',.inr (.inr ⟨fun i' hi' =>?_,hw'⟩)⟩;unfold upd;split
    .rename_i hii;subst hii;simp;omega
    rename_i hii;constructor
    .intro hD;rcases jAu i' i with h3 | h3
     .exact ⟨by omega,by rintro rfl;rw[hd0]at hD;cases hD⟩
     rw[hge i' h3]at hD;cases hD
    rintro ⟨h3,h4⟩;exact hall i' (by omega) h4
   simp only[wpListIn]at hJ';split
   .rename_i hw;rw[if_pos hw]at hs4;exact Oper.wpIn_mono hJ' hs4
   rename_i hw;rw[if_neg hw]at hs4;exact ⟨hs4.1,hJ' _ _ hs4.2⟩
  have him:i < m:=by
   rcases jAu i m with h1 | h1
   .exact h1
   rcases hsuf' i o hcl h1 ho' he i0 (by omega) with ⟨h3,_⟩ | h3
   .exact absurd h3 him2
   rw[hd0]at h3;cases h3
  obtain ⟨c,hc⟩:∃c,cs[i]? =some c:=⟨cs[i]'(by omega),jAe (by omega)⟩;have hslot:∀d,(∃j o' ,j < m/\l[j]? =some o' /\o'.dst=some d/\D j=true)∨(∀j o',j < m->l[j]? =some o' ->o'.dst≠some d)->Rel g ((new++fr).get d) (a.tmps.getD d undef):=by
   rintro d (⟨j,o',hj,ho1,hd1,hD1⟩ | hno)
   .obtain ⟨c',hc'⟩:∃c,cs[j]? =some c:=⟨cs[j]'(by omega),jAe (by omega)⟩;rw[hB j o' c' d hj ho1 hc' hd1];exact hfD j o' c' d hj hD1 ho1 hc' hd1
   rw[hA d hno];exact hf0 d hno
  have hops:∀x∈o.op.operands,Rel g ((new++fr).ev x) (a.eval x):=by
   intro x hx;cases x with
   | const v=>exact vUa g v
   | global q=>exact .pv (.b rfl)
   | func f=>exact .fn (by simp) (by simp) (fun i c h=>by simp at h) (fun i c h=>by simp at h)
   | tmp t=>
    refine hslot t ?_;by_cases hex:∃j o',j < m/\l[j]? =some o' /\o'.dst=some t
    .obtain ⟨j,o',hj,ho1,hd1⟩:=hex;have h1:=hdat o (hmem i o him ho') t (by simp only[Wsa,jCy];exact ⟨.tmp t,by simpa using hx,rfl⟩) j (by simpa using hj);simp only[jBr,bne_iff_ne,ne_eq]at h1;rcases h1 with h1 | h1
     .exact absurd (by rw[ho1];simpa using hd1) h1
     exact .inl ⟨j,o',hj,ho1,hd1,hdir he h1⟩
    exact .inr fun j o' hj ho1 hd1=>hex ⟨j,o',hj,ho1,hd1⟩
  have hguard:∀j want d,o.guard=some (j,want)->(l.toArray[j]?).bind (·.dst)=some d->Rel g ((new++fr).get d) (a.tmps.getD d undef):=by
   intro j want d hg hj;have h1:=hgrd o (hmem i o him ho');rw[hg]at h1;have hDj:=hdir he h1;have hjm:j < m:=by
    rcases jAu j m with h2 | h2
    .exact h2
    rw[hge j h2]at hDj;cases hDj
   cases hoj:l[j]? with
   | none=>rw[jBk,hoj]at hj;cases hj
   | some o' =>
    rw[jBk,hoj]at hj;exact hslot d (.inl ⟨j,o',hjm,hoj,by simpa using hj,hDj⟩)
  have hafter:∀(g' :G) (v:Value) (d:Nat),o.dst=some d->Old (fun _=>False) g g' ->Sok E.S E.g0 g' (objs (upd D i) 0 az++σ)->(∀c v,Rel g c v->(∀k,k∈jca az->az[i]?.bind (fun x=>x.map (·.1))=some k->c.has k=false)->Rel g' c v)->Rel g' c v->JDF E l m f of cs az fr σ K (upd D i) (a.put o.dst v) g'.w:=by
   intro g' v d hd hold hso' hmono0 hv;refine ⟨hcl',?_⟩;have hdN:d < E.N:=by
    rw[jAp]at hN;have:=hN o (hmem i o him ho');rw[hd]at this;exact jAf (by simpa using this)
   have hget:∀d',(a.put o.dst v).tmps.getD d' undef=if d=d' then v else a.tmps.getD d' undef:=by
    intro d';rw[hd];simp only[Act.put];rw[k4a];by_cases h1:d=d'
    .rw[if_pos ⟨h1,by omega⟩,if_pos h1]
    rw[if_neg (fun x=>h1 x.1),if_neg h1]
   have hsz' :(a.put o.dst v).tmps.size=E.N:=by rw[hd];simp[Act.put,hsz]
   have hdf' :DokE E g'.w (a.put o.dst v).defers:=by rw[hd];exact hdf.mono hold.ext
   have hF0:∀d',(∀i o,i < m->l[i]? =some o->o.dst≠some d')->Rel g' (fr.get d') ((a.put o.dst v).tmps.getD d' undef):=by
    intro d' hno;rw[hget,if_neg (by rintro rfl;exact hno i o him ho' hd)];exact hmono0 _ _ (hf0 d' hno) (fun k hk _=>by
     cases hx:(fr.get d').has k with
     | false=>rfl
     | true=>have:=Fr.has_get hx;rw[(hids' k hk).1]at this;cases this)
   have hFD:∀i' o' c' d',i' < m->upd D i i' =true->l[i']? =some o' ->cs[i']? =some c' ->o'.dst=some d' ->Rel g' c' ((a.put o.dst v).tmps.getD d' undef):=by
    intro i' o' c' d' hi' hD' h1 h2 h3;by_cases hii:i' =i
    .subst hii;rw[ho']at h1;cases h1;rw[hc]at h2;cases h2;rw[hd]at h3;cases h3;rw[hget,if_pos rfl];exact hv
    have hD1:D i' =true:=by unfold upd at hD';rwa [if_neg hii]at hD'
    have hne:d≠d' :=by
     rintro rfl;exact hdist' i' i o' o hi' him h1 ho' hii (h3.trans hd.symm)
    rw[hget,if_neg hne];refine hmono0 _ _ (hfD i' o' c' d' hi' hD1 h1 h2 h3) (fun k hk hki=>?_);obtain ⟨x,hx⟩:∃x,az[i']? =some x:=⟨az[i']'(by omega),jAe (by omega)⟩;refine hcs' i' c' x h2 hx k hk (fun id ds hxe hik=>?_);subst hxe;subst hik;cases hai:az[i]? with
    | none=>rw[hai]at hki;cases hki
    | some y=>
     rw[hai]at hki;cases y with
     | none=>cases hki
     | some y=>
      obtain ⟨id2,ds2⟩:=y;simp at hki;subst hki;exact hii (zBb hdist2 hx hai)
   have hge' :∀i',m<=i' ->upd D i i' =false:=by
    intro i' hi';unfold upd;rw[if_neg (by omega)];exact hge i' hi'
   by_cases hex:∃i',i' < m/\upd D i i' =false
   .exact .inl ⟨g',rfl,hge',hex,hsz',hdf',hso',hF0,hFD⟩
   refine .inr (.inl ⟨m,jAm _,fun i' _=>⟨fun h1=>?_,fun h1=>?_⟩,hm,h.go g' _ ⟨fun d' =>?_,hsz',hdf',by
    have e:objs (upd D i) 0 az=objs (fun _=>true) 0 az:=Kea az 0 (fun j x hj=>by
     rw[jCc];have hjm:j < m:=by have:=(jAd.1 hj).1;omega
     cases h3:upd D i j with
     | true=>rfl
     | false=>exact absurd ⟨j,hjm,h3⟩ hex)
    rw[<-hσ,<-e];exact hso'⟩⟩)
   .rcases jAu i' m with h2 | h2
    .exact h2
    rw[hge' i' h2]at h1;cases h1
   .cases h2:upd D i i' with
    | true=>rfl
    | false=>exact absurd ⟨i',h1,h2⟩ hex
   by_cases hex2:∃j o',j < m/\l[j]? =some o' /\o'.dst=some d'
   .obtain ⟨j,o',hj,h1,h2⟩:=hex2;obtain ⟨c',hc'⟩:∃c,cs[j]? =some c:=⟨cs[j]'(by omega),jAe (by omega)⟩;rw[hB j o' c' d' hj h1 hc' h2];refine hFD j o' c' d' hj ?_ h1 hc' h2;cases h3:upd D i j with
    | true=>rfl
    | false=>exact absurd ⟨j,hj,h3⟩ hex
   rw[hA d' (fun j o' hj h1 h2=>hex2 ⟨j,o',hj,h1,h2⟩)];exact hF0 d' (fun j o' hj h1 h2=>hex2 ⟨j,o',hj,h1,h2⟩)
  obtain ⟨d,hd⟩:∃d,o.dst=some d:=by
   have:=hsome o (hmem i o him ho');cases hd:o.dst with
   | none=>rw[hd]at this;cases this
   | some d=>exact ⟨d,rfl⟩
  unfold wpOpIn;rw[ho];simp only;have hyes:kta l.toArray (new++fr) o->Region.wanted o (yielded l.toArray a.tmps)=true:=by
   intro hg;cases hg with
   | plain h1=>simp[Region.wanted,h1]
   | @yes j d' want t h1 h2 h3 h4=>
    have hr:=hguard j want d' h1 h2;rw[h3]at hr;have hy:yielded l.toArray a.tmps j=some t:=by
     unfold yielded;rw[h2];simp only[jAc];have h5:=yka hr;cases hx:a.tmps[d']? with
     | none=>rw[jAg,hx]at h5;simp[undef]at h5
     | some x=>rw[jAg,hx]at h5;simp at h5;rw[h5]
    have h6:(yielded l.toArray a.tmps j==some want)=true:=by rw[hy,h4];cases want <;> rfl
    simp only[Region.wanted,h1,h6]
  have hsame:az[i]? =some none->objs (upd D i) 0 az=objs D 0 az:=fun hn=>Kea az 0 (fun j x hj=>by
   rw[jCc];unfold upd;rw[if_neg (by rintro rfl;rw[hn]at hj;cases hj)])
  rcases hp.get (i:=i) (by rw[htake i him];exact ho') hc with ⟨hg,hop,has⟩ | ⟨hg,rfl,has⟩ | ⟨hg,id,ds,rfl,hop,has⟩
  .have hw:=hyes hg;simp only[hw,if_true];exact hop.go g a _ _ hops (hso.le (hsub D)) fun g' v h1 h2 h3 h4=>hafter g' v d hd h1 (by rw[hsame has];exact hso.grow h1 h2 (fun k _=>by rw[h3])) (fun c v hr _=>hr.mono h1.ext (fun k _=>by rw[h3])) h4
  .have hw:Region.wanted o (yielded l.toArray a.tmps)=false:=by
    cases hg with
    | @no j d' want t h1 h2 h3 h4=>
     have hr:=hguard j want d' h1 h2;rw[h3]at hr;have hy:yielded l.toArray a.tmps j=some t:=by
      unfold yielded;rw[h2];simp only[jAc];have h5:=yka hr;cases hx:a.tmps[d']? with
      | none=>rw[jAg,hx]at h5;simp[undef]at h5
      | some x=>rw[jAg,hx]at h5;simp at h5;rw[h5]
     have h6:(yielded l.toArray a.tmps j==some want)=false:=by rw[hy,h4];cases want <;> rfl
     simp only[Region.wanted,h1,h6]
    | @none j d' want h1 h2 h3=>
     have hr:=hguard j want d' h1 h2;rw[h3]at hr;have hy:yielded l.toArray a.tmps j=none:=by
      unfold yielded;rw[h2];simp only[jAc];cases hx:a.tmps[d']? with
      | none=>rfl
      | some x=>rw[jAg,hx]at hr;simp only[jCn]at hr;cases hr;rfl
     have h6:(yielded l.toArray a.tmps j==some want)=false:=by rw[hy];rfl
     simp only[Region.wanted,h1,h6]
   simp only[hw];exact ⟨fun _ _=>trivial,hafter g undef d hd (Old.refl _ g) (by rw[hsame has];exact hso) (fun c v hr _=>hr) (.tup rfl (fun i c hi=>by simp at hi))⟩
  have hw:=hyes hg;simp only[hw,if_true];obtain ⟨vs,t,q1,q2,q3,q4⟩:=hop.go;have hidm:=Yta has;have hst1:St E g a [] (objs D 0 az++σ):=⟨fun _=>.any _,hsz,hdf,hso⟩;have hst2:=hst1.box id rfl (zCb (hids' id hidm).2.1 az 0 (fun j id' c hj=>hcells' j id' c hj id hidm)) t q1 q2 (q3 g) (hcells' i id ds has id hidm);have hold:=yEa g vs t 0 id (.blk g.w.heap.size);refine q4 g a _ _ (hafter _ _ d hd hold ?_ ?_ (.ptr (if_pos rfl)))
  .refine hst2.so.le fun o' ob ho1=>?_
   rw[Sto.get_cons];rcases JQa (σ:=σ) (D:=upd D i) az hdist2 o' with ⟨j,c',h1,h2,h3⟩ | ⟨h1,h2⟩
   .by_cases hji:j=i
    .subst hji;rw[has]at h2;simp at h2;obtain ⟨rfl,rfl⟩:=h2;rw[if_pos rfl,<-ho1,h3]
    have hne:id≠o' :=by rintro rfl;exact hji (zBb hdist2 h2 has)
    rw[if_neg hne,<-ho1,h3];have hDj:D j=true:=by unfold upd at h1;rwa [if_neg hji]at h1
    exact Vga az 0 j hdist2 h2 (by simpa using hDj)
   have hne:id≠o' :=by
    rintro rfl;have:=h1 i ds has;simp[upd]at this
   rw[if_neg hne,<-ho1,h2];refine Kda az 0 (fun j c' hj=>?_);rw[jCc];have h3:=h1 j c' hj;unfold upd at h3;split at h3
   .cases h3
   exact h3
  intro c v hr hk;refine hr.mono hold.ext (fun k hck=>if_neg ?_);rintro rfl;have:=hk k hidm (by rw[has];rfl);rw[this]at hck;cases hck
 .have hil:i < l.length:=(jAd.1 ho').1;have his:s<=i:=by
   rcases jAu i s with h1 | h1
   .rw[(hs2 i hil).2 h1]at hDi;cases hDi
   exact h1
  have hsi:i=s:=by
   rcases jAu s i with h1 | h1
   .rcases hsuf' i o hcl (by omega) ho' he s h1 with ⟨h3,h4⟩ | h3
    .omega
    have:=(hs2 s (by omega)).1 h3;omega
   omega
  subst hsi;have hdrop:l.drop i=o::l.drop (i+1):=by
   rw[jCg hil]
   congr 1
   exact (jAd.1 ho').2
  rw[hdrop]at hs4;unfold wpOpIn;rw[ho];simp only[wpListIn]at hs4 ⊢;have hJ' :∀a' w',wpListIn (fen E.rd) 0 E.P l.toArray (Ends E K) (l.drop (i+1)) a' w' ->JDF E l m f of cs az fr σ K (upd D i) a' w' :=by
   intro a' w' hw';refine ⟨hcl',.inr (.inl ⟨i+1,by omega,fun i' hi' =>?_,by omega,hw'⟩)⟩;unfold upd;split
   .rename_i hii;subst hii;simp
   rename_i hii;rw[hs2 i' hi'];omega
  split
  .rename_i hw;rw[if_pos hw]at hs4;exact Oper.wpIn_mono hJ' hs4
  rename_i hw;rw[if_neg hw]at hs4;exact ⟨hs4.1,hJ' _ _ hs4.2⟩
 have hil:i < l.length:=(jAd.1 ho').1;have hif:i=f:=by
  rcases jAu i (m+1) with h1 | h1
  .by_cases h3:i=f
   .exact h3
   have:=(hs2 i hil).2 ⟨h1,h3⟩;rw[hDi]at this;cases this
  rcases hsuf' i o hcl (by omega) ho' he f (by omega) with ⟨h3,_⟩ | h3
  .omega
  exact absurd rfl ((hs2 f (by omega)).1 h3).2
 subst hif;have eo:o=of:=by rw[ho']at hf;cases hf;rfl
 subst eo;have hml:m < l.length:=(jAd.1 hom).1;unfold wpOpIn;rw[ho];simp only[wpListIn]at hs4 ⊢;have hJ' :∀a' w',wpListIn (fen E.rd) 0 E.P l.toArray (Ends E K) (l.drop (m+1)) a' w' ->JDF E l m i o cs az fr σ K (upd D i) a' w' :=by
  intro a' w' hw';refine ⟨hcl',.inr (.inl ⟨m+1,by omega,fun i' hi' =>?_,by omega,hw'⟩)⟩;unfold upd;split
  .rename_i hii;subst hii;simp;omega
  rename_i hii;rw[hs2 i' hi'];constructor
  .rintro ⟨h3,_⟩;exact h3
  intro h3;exact ⟨h3,hii⟩
 split
 .rename_i hw;rw[if_pos hw]at hs4;exact Oper.wpIn_mono hJ' hs4
 rename_i hw;rw[if_neg hw]at hs4;exact ⟨hs4.1,hJ' _ _ hs4.2⟩
end
section
mutual
def AV.strong:AV->Bool
 | .pv (.sl (some _) _)=>true
 | .agg cs=>AV.strongL cs
 | .tup cs=>AV.strongL cs
 | _=>false
def AV.strongL:List AV->Bool
 | []=>false
 | c::cs=>c.strong || AV.strongL cs
end
def Fr.sel(fr:Fr)(p:Nat × AV):Nat × AV:=(p.1,bif p.2.strong then fr.get p.1 else (fr.get p.1).weak)
theorem frw{fr:Fr}:∀{fr' :Fr},fr'.map fr.sel=fr' ->FrLe fr fr'
 | [],_=>Q7a
 | (k,a)::r,h=>by
  simp only[jDm,List.cons.injEq]at h;obtain ⟨h1,h2⟩:=h;have h3:(bif a.strong then fr.get k else (fr.get k).weak)=a:=congrArg Prod.snd h1;cases hs:a.strong with
  | true=>rw[hs]at h3;exact Z7a h3 (frw h2)
  | false=>rw[hs]at h3;exact yOb h3 (frw h2)
def Sto.sel(σ:Sto)(p:Nat × AO):Option AO:=match p.2 with
 | .cells cs=>bif AV.strongL cs then σ.get p.1 else (match σ.get p.1 with
  | some (.cells ds)=>some (.cells (AV.weakL ds))
  | _=>none)
 | _=>σ.get p.1
theorem stw{σ:Sto}:∀{σ' :Sto},σ'.map σ.sel=σ'.map (fun p=>some p.2)->zTa σ σ'
 | [],_=>kXa
 | (k,a)::r,h=>by
  simp only[jDm,List.cons.injEq]at h;obtain ⟨h1,h2⟩:=h;unfold Sto.sel at h1;split at h1
  .rename_i cs hc;dsimp only at hc;subst hc;cases hs:AV.strongL cs with
   | true=>rw[hs]at h1;exact zCa h1 (stw h2)
   | false=>
    rw[hs]at h1;simp only[cond_false]at h1;split at h1
    .rename_i ds hd;simp only[Option.some.injEq,AO.cells.injEq]at h1;exact wHb hd h1 (stw h2)
    grind
  exact zCa h1 (stw h2)
theorem kpw{fr:Fr}:∀{l:Fr},l.map (fun p=>fr.get p.1)=l.map (·.2)->Keep fr l
 | [],_=>.nil
 | (k,a)::r,h=>by
  simp only[jDm,List.cons.injEq]at h;exact .cons h.1 (kpw h.2)
theorem hdw{σ:Sto}{base:Nat}{T:Array Value}:∀{l:Fr},l.map (fun p=>σ.get (base+p.1))=l.map (fun p=>some (.hold p.2 (T.getD p.1 undef)))->Held σ base T l
 | [],_=>.nil
 | (k,a)::r,h=>by
  simp only[jDm,List.cons.injEq]at h;exact .cons h.1 (hdw h.2)
section
variable {E:Env} {fr:Fr} {σ:Sto} {k:KS} {ops:Array Oper} {l:List Oper} {R:Type} {r:R} {A B:Option R} {t:Bool}
theorem hO(h:(GS.ops ops l fr σ k).holds E):AWPL E ops l fr σ (k.post E):=h
theorem hC{c:Code}(h:(GS.code c fr σ k).holds E):AWP E c fr σ (k.post E):=h
theorem hB{K:Post}{c:Code}(hK:Mono K)(h:(GS.code c fr σ (.base K hK)).holds E):AWP E c fr σ K:=h
theorem hA{e:Exit}(h:(GS.at e fr σ k).holds E):k.post E e fr σ:=h
theorem St.relit{g:G}{a:Act}(h:St E g a fr σ){d:Nat}(hd:fr.get d=.pv (.b (.bool t))):St E g a ((d,.pv (.b (.bool t)))::fr) σ:=h.reslot (by rw[<-hd];exact h.fr d)
theorem kn(d:Nat){b:Bool}(hc:t=b)(hd:fr.get d=.pv (.b (.bool t)))(h:(GS.ops ops l ((d,.pv (.b (.bool b)))::fr) σ k).holds E):(GS.ops ops l fr σ k).holds E:=by
 subst hc;exact ⟨fun g a hs=>h.go g a (hs.relit hd)⟩
theorem bs(d:Nat)(hr:(bif t then A else B)=some r)(hd:fr.get d=.pv (.b (.bool t)))(hT:t=true->A=some r->(GS.ops ops l ((d,.pv (.b (.bool true)))::fr) σ k).holds E)(hF:t=false->B=some r->(GS.ops ops l ((d,.pv (.b (.bool false)))::fr) σ k).holds E):(GS.ops ops l fr σ k).holds E:=by
 cases t with
 | true=>exact kn d rfl hd (hT rfl hr)
 | false=>exact kn d rfl hd (hF rfl hr)
theorem ac(d:Nat){x y:Code}(hr:(bif t then A else B)=some r)(hd:fr.get d=.pv (.b (.bool t)))(hT:t=true->A=some r->(GS.code x ((d,.pv (.b (.bool true)))::fr) σ k).holds E)(hF:t=false->B=some r->(GS.code y ((d,.pv (.b (.bool false)))::fr) σ k).holds E):(GS.code (.cond (.tmp d) x y) fr σ k).holds E:=
 zob (t:=t) hd (fun h=>by subst h;exact ⟨fun g a hs=>(hT rfl hr).go g a (hs.relit hd)⟩) (fun h=>by subst h;exact ⟨fun g a hs=>(hF rfl hr).go g a (hs.relit hd)⟩)
theorem jb{J:Type}{X:Option J}{f:J->Option R}{x y:Code}(hr:X.bind f=some r)(frs:J->Fr)(stos:J->Sto)(hx:∀j,X=some j->(GS.code x fr σ (.jo frs stos (fun z=>j=z) k)).holds E)(hy:∀j,f j=some r->(GS.code y (frs j) (stos j) k).holds E):(GS.code (.seq x y) fr σ k).holds E:=by
 obtain ⟨j,h1,h2⟩:=zaa hr;exact zrb frs stos (fun z=>j=z) (hx j h1) (fun _ hz=>hz▸hy j h2)
theorem jk{J:Type}{x y:Code}(frs:J->Fr)(stos:J->Sto)(M:J->Prop)(hx:(GS.code x fr σ (.jo frs stos M k)).holds E)(hy:∀j,M j->(GS.code y (frs j) (stos j) k).holds E):(GS.code (.seq x y) fr σ k).holds E:=
 zrb frs stos M hx hy
theorem jn{J:Type}{frs:J->Fr}{stos:J->Sto}{M:J->Prop}(j:J)(hm:M j)(hf:(frs j).map fr.sel=frs j)(hs:(stos j).map σ.sel=(stos j).map (fun p=>some p.2)):(GS.at .normal fr σ (.jo frs stos M k)).holds E:=⟨j,hm,frw hf,stw hs⟩
theorem ct{J:Type}{X:Option J}{f:J->Option R}{o:Oper}(hr:X.bind f=some r)(frs:J->Fr)(stos:J->Sto)
 (hx:∀j,X=some j->(∀fr' σ',(frs j).map fr'.sel=frs j->(stos j).map σ'.sel=(stos j).map (fun p=>some p.2)->AWPL E ops l fr' σ' (k.post E))->(GS.ops ops (o::l) fr σ k).holds E) (hy:∀j,f j=some r->(GS.ops ops l (frs j) (stos j) k).holds E):(GS.ops ops (o::l) fr σ k).holds E:=by
 obtain ⟨j,h1,h2⟩:=zaa hr;exact hx j h1 (fun fr' σ' hf hs=>zAb (frw hf) (stw hs) (hy j h2))
def isN:Exit->Bool
 | .normal=>true
 | _=>false
theorem al{A B:Type}{c:Code}{body:A->Option (Step A B)}{s:A}{f:B->Option R}(hr:(iter body s).bind f=some r)(frs:A->Fr)(stos:A->Sto)(e0:B->Exit)(fr0:B->Fr)(σ0:B->Sto)(hf:(frs s).map fr.sel=frs s)(hs:(stos s).map σ.sel=(stos s).map (fun p=>some p.2))
 (h:∀s x,body s=some x->(GS.code c (frs s) (stos s) (.base (jTa frs stos (fun b=>At (e0 b) (fr0 b) (σ0 b)) x) jYa)).holds E)
 (hK:∀b,f b=some r->(GS.at (e0 b) (fr0 b) (σ0 b) k).holds E):(GS.code (.loop c) fr σ k).holds E:=by
 obtain ⟨b,h1,h2⟩:=zaa hr;exact awp_loop body frs stos (fun b=>At (e0 b) (fr0 b) (σ0 b)) (fun s x hx=>h s x hx) s h1 (frw hf) (stw hs) (fun e fr σ ⟨he,hf,hs⟩=>by
  subst he;exact k.mono E _ _ _ _ _ hf hs (hK b h2))
theorem al1{A B:Type}{c:Code}{body:A->Option (Step A B)}{s:A}{f:B->Option R}(hr:(iter body s).bind f=some r)(frs:A->Fr)(stos:A->Sto)(e0:Exit)(fr0:B->Fr)(σ0:B->Sto)(hf:(frs s).map fr.sel=frs s)(hs:(stos s).map σ.sel=(stos s).map (fun p=>some p.2))
 (h:∀s x,body s=some x->(GS.code c (frs s) (stos s) (.base (jTa frs stos (fun b=>At ((fun _=>e0) b) (fr0 b) (σ0 b)) x) jYa)).holds E)
 (hK:∀b,f b=some r->(GS.at e0 (fr0 b) (σ0 b) k).holds E):(GS.code (.loop c) fr σ k).holds E:=al hr frs stos (fun _=>e0) fr0 σ0 hf hs h hK
theorem al2{A B C:Type}{c:Code}{body:A->Option (Step A (B ⊕ C))}{s:A}{f:B->Option R}{g:C->Option R}(hr:(iter body s).bind (Sum.elim f g)=some r)(frs:A->Fr)(stos:A->Sto)(e1:Exit)(fr1:B->Fr)(σ1:B->Sto)(e2:Exit)(fr2:C->Fr)(σ2:C->Sto)(hf:(frs s).map fr.sel=frs s)(hs:(stos s).map σ.sel=(stos s).map (fun p=>some p.2))
 (h:∀s x,body s=some x->(GS.code c (frs s) (stos s) (.base (jTa frs stos (fun b=>At (Sum.elim (fun _=>e1) (fun _=>e2) b) (Sum.elim fr1 fr2 b) (Sum.elim σ1 σ2 b)) x) jYa)).holds E)
 (hK1:∀b,f b=some r->(GS.at e1 (fr1 b) (σ1 b) k).holds E) (hK2:∀b,g b=some r->(GS.at e2 (fr2 b) (σ2 b) k).holds E):(GS.code (.loop c) fr σ k).holds E:=
 al hr frs stos _ _ _ hf hs h (fun b hb=>by cases b with | inl b=>simp_all | inr b=>simp_all)
theorem ato{A B:Type}{e:Exit}{frs:A->Fr}{stos:A->Sto}{e0:B->Exit}{fr0:B->Fr}{σ0:B->Sto}{b:B}{hm:Mono (jTa frs stos (fun b=>At (e0 b) (fr0 b) (σ0 b)) (.out b))}(he:e=e0 b)(hn:isN e=false)(hf:(fr0 b).map fr.sel=fr0 b)(hs:(σ0 b).map σ.sel=(σ0 b).map (fun p=>some p.2)):(GS.at e fr σ (.base (jTa frs stos (fun b=>At (e0 b) (fr0 b) (σ0 b)) (.out b)) hm)).holds E:=
 ⟨fun h=>(by rw[h]at hn;cases hn),he,frw hf,stw hs⟩
def Qja(T:Tab)(fr:Fr)(σ:Sto):List ResultVar->Option (List AV)
 | []=>some []
 | .tmp t::r=>(match (fr.get t).force,Qja T fr σ r with | some c,some cs=>some (c::cs) | _,_=>none)
 | .cell a t::r=>(match fr.get a,T.get t with
  | .ptr o 0,some row=>(match σ.get o with
   | some (.cells ds)=>bif dAgg row.desc then (bif Nat.ble row.size ds.length then (match wLa (ds.take row.size),Qja T fr σ r with | some l,some cs=>some (.agg l::cs) | _,_=>none) else none)
    else (match ds[0]?,Qja T fr σ r with | some c,some cs=>some (c::cs) | _,_=>none)
   | _=>none)
  | _,_=>none)
theorem yla{P:Program}{T:Tab}(hT:zDa P T):∀{l:List ResultVar} {cs:List AV},Qja T fr σ l=some cs->ResL P fr σ l cs
 | [],_,h=>by simp[Qja]at h;subst h;exact .nil
 | .tmp t::l,_,h=>by
  unfold Qja at h;split at h
  .rename_i h1 h2;cases h;exact .cons (yTb (AV.force_eq h1)) (yla hT h2)
  grind
 | .cell a t::l,_,h=>by
  unfold Qja at h;split at h
  .rename_i o row ha hr;have ht:=(hT _ _ hr).ty;split at h
   .rename_i ds ho;cases hd:dAgg row.desc with
    | true=>
     rw[hd]at h;simp only[cond_true]at h;cases hn:Nat.ble row.size ds.length with
     | false=>simp_all
     | true=>
      rw[hn]at h;simp only[cond_true]at h;split at h
      .rename_i h1 h2;cases h;rw[<-qla h1];exact .cons (yUb ha ho ht hd hn) (yla hT h2)
      grind
    | false=>
     rw[hd]at h;simp only[cond_false]at h;split at h
     .rename_i h1 h2;cases h;exact .cons (res_cell ha ho ht hd h1) (yla hT h2)
     grind
   grind
  grind
theorem kr{P:Program}{T:Tab}(hT:zDa P T){e:Exit}{fn:Func}{cs:List AV}{r:AV}{hm:Mono (Kret P fn r)}(he:isN e=true∨e=.ret)(h:Qja T fr σ fn.results.toList=some cs)(hr:Vaa cs=r):(GS.at e fr σ (.base (Kret P fn r) hm)).holds E:=
 ⟨by cases e <;> simp_all [isN],cs,yla hT h,hr⟩
theorem rf{P:Program}{f:FuncId}{fn:Func}{c:Code}(hok:FnOk P f fn c){args:List AV}{r:AV}(hN:Nat.ble args.length fn.ntmps=true)(hr:∀k,r.has k=false)
 (h:∀g0 (hg:Gl g0),(GS.code c (z0a 0 args) [] (.base (Kret P fn r) kwb)).holds ⟨P,none,g0,fn.ntmps,false,hg,fun _=>False,fun _ _ h=>h⟩):Run P f args r:=JJa hok hN hr h
end
section
variable {E:Env} {fr:Fr} {σ:Sto} {k:KS} {ops:Array Oper} {rest:List Oper} {ty:TypeId} {pos:String} {af:Array Edge} {x y z:Operand} {t t' t2 e:TypeId}
variable {α:Type} {F:α->List PV} {l xs r' v:List α} {nl:Option Bool} {k1 k2:IntKind} {d r lim size:Nat} {n p q:Int} {mu:Bool} {b2:Nat} {z1 z2:Value} {td:TypeDesc} {T:Tab} {c:AV}
theorem ug{dst:Option Tmp}{op:Op}{j d:Nat}{want b:Bool}(hj:(ops[j]?).bind (·.dst)=some d)(hv:fr.get d=.pv (.b (.bool b)))(ht:b=want)
 (h:(GS.ops ops (⟨dst,op,ty,pos,af,none⟩::rest) fr σ k).holds E):(GS.ops ops (⟨dst,op,ty,pos,af,some (j,want)⟩::rest) fr σ k).holds E:=
 ⟨fun g a hs=>by
  have hy:=K5a hs hj hv;have hw:Region.wanted ⟨dst,op,ty,pos,af,some (j,want)⟩ (yielded ops a.tmps)=true:=by simp[Region.wanted,hy,ht]
  have h0:=h.go g a hs;have hw0:Region.wanted ⟨dst,op,ty,pos,af,none⟩ (yielded ops a.tmps)=true:=by simp[Region.wanted]
  simp only[wpListIn,hw,hw0,if_true]at h0 ⊢;exact h0⟩
theorem wo{o:Oper}{fr' :Fr}{σ' :Sto}(ho:OpTo E o fr σ fr' σ')(hg:o.guard=none)(h:(GS.ops ops rest fr' σ' k).holds E):(GS.ops ops (o::rest) fr σ k).holds E:=z4a hg ho h
theorem wq{o:Oper}(h:EvQ E.P o fr.ev σ c)(hg:o.guard=none)(hd:o.dst=some d)(hN:Nat.ble (d+1) E.N=true)(hq:(GS.ops ops rest ((d,c)::fr) σ k).holds E):(GS.ops ops (o::rest) fr σ k).holds E:=z4a hg (qja hd hN h) hq
theorem cl{f:FuncId}{d:Nat}{xs:List Operand}{ats:Array TypeId}{args:List AV}{r:AV}(hr:Run E.P f args r)(hN:Nat.ble (d+1) E.N=true)(ha:xs.map (fun x=>(fr.ev x).weak)=args)(h:(GS.ops ops rest ((d,r)::fr) σ k).holds E):
 (GS.ops ops (⟨some d,.call ⟨.value (.func f),xs.toArray,ats⟩,ty,pos,af,none⟩::rest) fr σ k).holds E:=z4a rfl (ySb hr hN ha) h
def Tab.sl(T:Tab)(t:TypeId):Option (TypeId × Yua):=match T.get t with
 | some ⟨_,_,_,.slice e,_⟩=>(match T.get e with | some r=>some (e,r) | none=>none)
 | _=>none
theorem Tab.sl_ok{P:Program}(hT:zDa P T){row:Yua}(h:T.sl t=some (e,row)):(∃ss sb sz,TyOk P t ss sb sz (.slice e))/\TyOk P e row.size row.bytes row.zero row.desc:=by
 unfold Tab.sl at h;split at h
 .rename_i h1;split at h
  .rename_i h2;cases h;exact ⟨⟨_,_,_,(hT _ _ h1).ty⟩,(hT _ _ h2).ty⟩
  grind
 grind
def Tab.st(T:Tab)(t:TypeId):Bool:=match T.get t with
 | some ⟨_,_,_,.string,_⟩=>true
 | _=>false
theorem Tab.st_ok{P:Program}(hT:zDa P T)(h:T.st t=true):∃ss sb sz,TyOk P t ss sb sz .string:=by
 unfold Tab.st at h;split at h
 .rename_i h1;exact ⟨_,_,_,(hT _ _ h1).ty⟩
 grind
variable {row:Yua}
theorem wi{a:α}(hT:zDa E.P T)(hi:idx l n=some a)(hs:T.sl t=some (e,row))(hx:fr.ev x=.pv (.sl nl (l.map F)))(hy:fr.ev y=.pv (.b (.int k1 n)))(hz:(F a).length=row.size)(hN:Nat.ble (d+1) E.N=true)(hq:(GS.ops ops rest ((d,.ep (F a))::fr) σ k).holds E):
 (GS.ops ops (⟨some d,.indexAddr t x y,ty,pos,af,none⟩::rest) fr σ k).holds E:=by
 obtain ⟨⟨_,_,_,h1⟩,h2⟩:=Tab.sl_ok hT hs;exact z4a rfl (qja rfl hN (ZSa hx hy h1 h2 hz hi)) hq
theorem wih{a:α}(hT:zDa E.P T)(hi:idx l n=some a)(hs:T.sl t=some (e,row))(hx:fr.ev x=.hs r 0)(hy:fr.ev y=.pv (.b (.int k1 n)))(hr:σ.get r=some (.row e mu row.size (l.map F)))(hN:Nat.ble (d+1) E.N=true)(hq:(GS.ops ops rest ((d,.hp r n.toNat 0)::fr) σ k).holds E):
 (GS.ops ops (⟨some d,.indexAddr t x y,ty,pos,af,none⟩::rest) fr σ k).holds E:=by
 obtain ⟨⟨_,_,_,h1⟩,h2⟩:=Tab.sl_ok hT hs;exact z4a rfl (qja rfl hN (Zza hx hy hr h1 h2 hi)) hq
theorem ws{s:Str}{b:UInt8}(hT:zDa E.P T)(hi:idx s n=some b)(hs:T.st t=true)(hx:(fr.ev x).str? =some s)(hy:fr.ev y=.pv (.b (.int k1 n)))(hN:Nat.ble (d+1) E.N=true)(hq:(GS.ops ops rest ((d,.u8 b)::fr) σ k).holds E):
 (GS.ops ops (⟨some d,.index t x y,ty,pos,af,none⟩::rest) fr σ k).holds E:=by
 obtain ⟨_,_,_,h1⟩:=Tab.st_ok hT hs;exact z4a rfl (qja rfl hN (Kaa (AV.str?_eq hx) hy h1 hi)) hq
theorem wc{a b s:Str}(hi:cat a b=some s)(hx:(fr.ev x).str? =some a)(hy:(fr.ev y).str? =some b)(hN:Nat.ble (d+1) E.N=true)(hq:(GS.ops ops rest ((d,.s s)::fr) σ k).holds E):
 (GS.ops ops (⟨some d,.binOp .add t x y t',ty,pos,af,none⟩::rest) fr σ k).holds E:=z4a rfl (qja rfl hN (vWa (AV.str?_eq hx) (AV.str?_eq hy) hi)) hq
theorem wn(hT:zDa E.P T)(hs:T.sl t=some (e,row))(hx:fr.ev x=.pv (.sl nl (l.map F)))(hN:Nat.ble (d+1) E.N=true)(hq:(GS.ops ops rest ((d,.i l.length)::fr) σ k).holds E):
 (GS.ops ops (⟨some d,.call ⟨.builtin .len, #[x], #[t]⟩,ty,pos,af,none⟩::rest) fr σ k).holds E:=by
 obtain ⟨⟨_,_,_,h1⟩,h2⟩:=Tab.sl_ok hT hs;exact z4a rfl (qja rfl hN (VRa hx h1.u)) hq
theorem wnh(hT:zDa E.P T)(hs:T.sl t=some (e,row))(hx:fr.ev x=.hs r 0)(hr:σ.get r=some (.row e mu size (l.map F)))(hN:Nat.ble (d+1) E.N=true)(hq:(GS.ops ops rest ((d,.i l.length)::fr) σ k).holds E):
 (GS.ops ops (⟨some d,.call ⟨.builtin .len, #[x], #[t]⟩,ty,pos,af,none⟩::rest) fr σ k).holds E:=by
 obtain ⟨⟨_,_,_,h1⟩,h2⟩:=Tab.sl_ok hT hs;exact z4a rfl (qja rfl hN (y0b hx hr h1.u)) hq
def Tab.ub(T:Tab)(t t' :TypeId):Bool:=match T.get t,T.get t' with
 | some ⟨_,_,_,.int .u8,_⟩,some ⟨_,_,_,.int .i64,_⟩=>true
 | _,_=>false
theorem wu{b:UInt8}(hT:zDa E.P T)(hs:T.ub t t' =true)(hx:fr.ev x=.u8 b)(hN:Nat.ble (d+1) E.N=true)(hq:(GS.ops ops rest ((d,.i b.toNat)::fr) σ k).holds E):
 (GS.ops ops (⟨some d,.convert t t' x,ty,pos,af,none⟩::rest) fr σ k).holds E:=by
 unfold Tab.ub at hs;split at hs
 .rename_i h1 h2;exact z4a rfl (qja rfl hN (ev_u8int hx (hT _ _ h1).ty (hT _ _ h2).ty)) hq
 grind
def Tab.ur(T:Tab)(t t' :TypeId):Bool:=match T.get t,T.get t' with
 | some ⟨_,_,_,.int .u8,_⟩,some ⟨_,_,_,.int .i32,_⟩=>true
 | _,_=>false
theorem wur{b:UInt8}(hT:zDa E.P T)(hs:T.ur t t' =true)(hx:fr.ev x=.u8 b)(hN:Nat.ble (d+1) E.N=true)(hq:(GS.ops ops rest ((d,.pv (.b (.int .i32 (b.toNat:Int))))::fr) σ k).holds E):
 (GS.ops ops (⟨some d,.convert t t' x,ty,pos,af,none⟩::rest) fr σ k).holds E:=by
 unfold Tab.ur at hs;split at hs
 .rename_i h1 h2;exact z4a rfl (qja rfl hN (ev_u8i32 hx (hT _ _ h1).ty (hT _ _ h2).ty)) hq
 grind
theorem wr{s:Str}(id:Nat)(hT:zDa E.P T)(hs:T.st t=true)(hx:(fr.ev x).str? =some s)(hf:(fr.has id || σ.has id)=false)(hN:Nat.ble (d+1) E.N=true)(hq:(GS.ops ops rest ((d,.ptr id 0)::fr) ((id,.it (strB s) 0)::σ) k).holds E):
 (GS.ops ops (⟨some d,.range t x,ty,pos,af,none⟩::rest) fr σ k).holds E:=by
 obtain ⟨_,_,_,h1⟩:=Tab.st_ok hT hs;simp only[Bool.or_eq_false_iff]at hf;exact z4a rfl (wSb id hN (AV.str?_eq hx) h1 hf.1 hf.2) hq
theorem wnx{R:Type}{A B:Option R}{rr:R}{o i:Nat}{s:Str}(hr:(bif decide (i < s.length) then A else B)=some rr)(hx:fr.ev x=.ptr o 0)(ho:σ.get o=some (.it (strB s) i))(hN:Nat.ble (d+1) E.N=true)
 (h1:decide (i < s.length)=true->A=some rr->(GS.ops ops rest ((d,.tup [.bo true,.i i,.pv (.b (.int .i32 (Qya s i)))])::fr) (σ.upd o (.it (strB s) (i+jXa s i))) k).holds E)
 (h2:decide (i < s.length)=false->B=some rr->(GS.ops ops rest ((d,.tup [.bo false])::fr) σ k).holds E):
 (GS.ops ops (⟨some d,.next x true,ty,pos,af,none⟩::rest) fr σ k).holds E:=
 jgb rfl hN hx ho (fun h=>h1 h (by simp_all)) (fun h=>h2 h (by simp_all))
section
variable {s w:Str}
theorem wscL(hT:zDa E.P T)(hr:cut s p s.length=some w)(hs:T.st t=true)(hx:(fr.ev x).str? =some s)(hy:fr.ev y=.pv (.b (.int k1 p)))(hN:Nat.ble (d+1) E.N=true)(hq:(GS.ops ops rest ((d,.s w)::fr) σ k).holds E):
 (GS.ops ops (⟨some d,.slice t x (some y) none none,ty,pos,af,none⟩::rest) fr σ k).holds E:=by
 obtain ⟨_,_,_,h1⟩:=Tab.st_ok hT hs;exact z4a rfl (qja rfl hN (ztb (AV.str?_eq hx) hy h1 hr)) hq
theorem wscH(hT:zDa E.P T)(hr:cut s 0 q=some w)(hs:T.st t=true)(hx:(fr.ev x).str? =some s)(hy:fr.ev z=.pv (.b (.int k1 q)))(hN:Nat.ble (d+1) E.N=true)(hq:(GS.ops ops rest ((d,.s w)::fr) σ k).holds E):
 (GS.ops ops (⟨some d,.slice t x none (some z) none,ty,pos,af,none⟩::rest) fr σ k).holds E:=by
 obtain ⟨_,_,_,h1⟩:=Tab.st_ok hT hs;exact z4a rfl (qja rfl hN (v3b (AV.str?_eq hx) hy h1 hr)) hq
theorem Vha(hT:zDa E.P T)(hr:cut s p q=some w)(hs:T.st t=true)(hx:(fr.ev x).str? =some s)(hy:fr.ev y=.pv (.b (.int k1 p)))(hz:fr.ev z=.pv (.b (.int k2 q)))(hN:Nat.ble (d+1) E.N=true)(hq:(GS.ops ops rest ((d,.s w)::fr) σ k).holds E):
 (GS.ops ops (⟨some d,.slice t x (some y) (some z) none,ty,pos,af,none⟩::rest) fr σ k).holds E:=by
 obtain ⟨_,_,_,h1⟩:=Tab.st_ok hT hs;exact z4a rfl (qja rfl hN (yXb (AV.str?_eq hx) hy hz h1 hr)) hq
end
theorem wlL(hT:zDa E.P T)(hr:cut l p l.length=some v)(hs:T.sl t=some (e,row))(hx:fr.ev x=.pv (.sl nl (l.map F)))(hy:fr.ev y=.pv (.b (.int k1 p)))(hF:∀x,(F x).length=row.size)(hN:Nat.ble (d+1) E.N=true)(hq:(GS.ops ops rest ((d,.l F v)::fr) σ k).holds E):
 (GS.ops ops (⟨some d,.slice t x (some y) none none,ty,pos,af,none⟩::rest) fr σ k).holds E:=by
 obtain ⟨⟨_,_,_,h1⟩,h2⟩:=Tab.sl_ok hT hs;exact z4a rfl (qja rfl hN (y1b hx hy h1 h2 hF hr)) hq
theorem wlH(hT:zDa E.P T)(hr:cut l 0 q=some v)(hs:T.sl t=some (e,row))(hx:fr.ev x=.pv (.sl nl (l.map F)))(hy:fr.ev z=.pv (.b (.int k1 q)))(hF:∀x,(F x).length=row.size)(hN:Nat.ble (d+1) E.N=true)(hq:(GS.ops ops rest ((d,.l F v)::fr) σ k).holds E):
 (GS.ops ops (⟨some d,.slice t x none (some z) none,ty,pos,af,none⟩::rest) fr σ k).holds E:=by
 obtain ⟨⟨_,_,_,h1⟩,h2⟩:=Tab.sl_ok hT hs;exact z4a rfl (qja rfl hN (ev_cutH hx hy h1 h2 hF hr)) hq
theorem wlLH(hT:zDa E.P T)(hr:cut l p q=some v)(hs:T.sl t=some (e,row))(hx:fr.ev x=.pv (.sl nl (l.map F)))(hy:fr.ev y=.pv (.b (.int k1 p)))(hz:fr.ev z=.pv (.b (.int k2 q)))(hF:∀x,(F x).length=row.size)(hN:Nat.ble (d+1) E.N=true)(hq:(GS.ops ops rest ((d,.l F v)::fr) σ k).holds E):
 (GS.ops ops (⟨some d,.slice t x (some y) (some z) none,ty,pos,af,none⟩::rest) fr σ k).holds E:=by
 obtain ⟨⟨_,_,_,h1⟩,h2⟩:=Tab.sl_ok hT hs;exact z4a rfl (qja rfl hN (v4b hx hy hz h1 h2 hF hr)) hq
def rowFit(row:Yua)(lim:Nat):Bool:=Nat.beq row.zero.cells.size row.size && Nat.ble 1 row.size && (Nat.ble (lim * row.bytes) 140737488355328 && Nat.ble lim 9223372036854775807)
theorem wa(hT:zDa E.P T)(h:app lim l xs=some r')(hs:T.sl t=some (e,row))(hx:fr.ev x=.hs r 0)(hr:σ.get r=some (.row e mu row.size (l.map F)))(hy:fr.ev y=.pv (.sl nl (xs.map F)))(hF:∀x,(F x).length=row.size)(hfit:rowFit row lim=true)(hN:Nat.ble (d+1) E.N=true)(hq:(GS.ops ops rest ((d,.hs r 0)::fr.clr r) ((σ.clr r).upd r (.row e mu row.size (r'.map F))) k).holds E):
 (GS.ops ops (⟨some d,.call ⟨.builtin .append, #[x,y], #[t,t]⟩,ty,pos,af,none⟩::rest) fr σ k).holds E:=by
 obtain ⟨⟨_,_,_,h1⟩,h2⟩:=Tab.sl_ok hT hs;simp only[rowFit,jAn]at hfit;exact z4a rfl (Yla hN hx hr hy h1 h2 hfit.1.1 hfit.1.2 hF (by simp_all) h) hq
def Tab.bs(T:Tab)(t t2:TypeId):Bool:=match T.get t with
 | some ⟨_,_,_,.slice e,_⟩=>(match T.get e with | some ⟨_,_,_,.int .u8,_⟩=>T.st t2 | _=>false)
 | _=>false
theorem wb{s:Str}(hT:zDa E.P T)(hs:T.bs t t2=true)(hx:fr.ev x=.pv (.sl nl (s.map cU)))(hN:Nat.ble (d+1) E.N=true)(hq:(GS.ops ops rest ((d,.s s)::fr) σ k).holds E):
 (GS.ops ops (⟨some d,.convert t t2 x,ty,pos,af,none⟩::rest) fr σ k).holds E:=by
 unfold Tab.bs at hs;split at hs
 .rename_i h1;split at hs
  .rename_i h2;obtain ⟨_,_,_,h3⟩:=Tab.st_ok hT hs;exact z4a rfl (qja rfl hN (VSa hx (hT _ _ h1).ty (hT _ _ h2).ty h3)) hq
  grind
 grind
theorem wz(F:α->List PV)(l:List α){m:Nat}{ps:List (Nat × Operand)}(hT:zDa E.P T)(hs:T.sl t=some (e,row))(hzs:(Nat.beq row.zero.cells.size row.size && Nat.ble 1 row.size && row.zero.cells.toList.all cellV)=true)(hF:∀x,(F x).length=row.size)(hln:(Nat.beq l.length m && Nat.ble (m * row.size) 16777216)=true)
 (hc:Jja (fun i=>some (i * row.size,row.size)) (List.replicate (m * row.size) .any) (ps.map fun p=>(p.1,(fr.ev p.2).weak))=some (l.flatMap fun x=>(F x).map AV.pv)) (hN:Nat.ble (d+1) E.N=true) (hq:(GS.ops ops rest ((d,.l F l)::fr) σ k).holds E):
 (GS.ops ops (⟨some d,.buildSlice t m ps.toArray,ty,pos,af,none⟩::rest) fr σ k).holds E:=by
 obtain ⟨⟨_,_,_,h1⟩,h2⟩:=Tab.sl_ok hT hs;exact z4a rfl (y7b rfl hN (yba h1 h2 hzs hF hln hc)) hq
theorem drF{id:Nat}{l:List Oper}(m f:Nat){of om:Oper}(new new2:Fr){cs:List AV}{az:Objs}{σ' :Sto}(frJ:Fr)(σJ:Sto)(hmix:E.P.follows .mixedOrders=true)(hok:vfb l m f=true)(hf:l[f]? =some of)(hom:l[m]? =some om)(hfm:Nat.ble (f+1) m=true)(hm:Nat.ble m l.length=true)(hN:((l.take m).all fun o=>o.dst.all fun d=>Nat.ble (d+1) E.N)=true)
 (hp:QRa E l.toArray (new++fr) σ (l.take m) cs az) (hfree:jcb fr σ cs az=true) (hazf:az[f]? =some none) (hσ:objs (fun _=>true) 0 az++σ=σ') (hnew:wKa (l.take m) cs []=new) (hnew2:wKa (l.take m) (cs.set f .any) []=new2)
 (ha:(∀fr' σ'',frJ.map fr'.sel=frJ->σJ.map σ''.sel=σJ.map (fun p=>some p.2)->AWPL E l.toArray (l.drop (m+1)) fr' σ'' (k.post E))->(GS.ops l.toArray (om::l.drop (m+1)) (new++fr) σ' k).holds E)
 (hb:(∀fr' σ'',frJ.map fr'.sel=frJ->σJ.map σ''.sel=σJ.map (fun p=>some p.2)->AWPL E l.toArray (l.drop (m+1)) fr' σ'' (k.post E))->(GS.ops l.toArray (om::of::l.drop (m+1)) (new2++fr) σ' k).holds E)
 (hy:(GS.ops l.toArray (l.drop (m+1)) frJ σJ k).holds E):(GS.code (.region id l.toArray true) fr σ k).holds E:=by
 have H:∀fr' σ'',frJ.map fr'.sel=frJ->σJ.map σ''.sel=σJ.map (fun p=>some p.2)->AWPL E l.toArray (l.drop (m+1)) fr' σ'' (k.post E):=fun fr' σ'' h1 h2=>zAb (frw h1) (stw h2) hy
 have h1:AWPL E l.toArray (om::l.drop (m+1)) (new++fr) σ' (k.post E):=ha H;have hml:m < l.length:=(jAd.1 hom).1;have hd:l.drop m=om::l.drop (m+1):=by
  rw[jCg hml]
  congr 1
  exact (jAd.1 hom).2
 rw[<-hd]at h1;exact wXb m f new new2 hmix hok hf hom hfm hm hN hp hfree hazf hσ hnew hnew2 h1 (hb H)
theorem pqF{o:Oper}{l:List Oper}{cs:List AV}{az:Objs}(hT:zDa E.P T)(hq:qval T fr.ev σ o.op=some c)(hg:kta ops fr o)(hr:QRa E ops fr σ l cs az):QRa E ops fr σ (o::l) (c::cs) (none::az):=.run hg (zGa (Kfa hT hq)) hr
theorem v8b{d:Nat}{fn:Func}{base sid:Nat}{T:Array Value}{ds:List Deferred}{K:Post}:Mono (InlK E ops rest d fn base sid T ds K):=fun e fr σ fr' σ' hf hs ⟨h1,fr2,σ2,cs,fr'',σ'',h2,h3,h4⟩=>⟨h1,fr2,σ2,cs,fr'',σ'',K4a hf h2,kKa hs h3,h4⟩
theorem W5a{base sid lid b:Nat}{L:Loop}{T:Array Value}{ds:List Deferred}{K:Post}:Mono (ItrK E base sid lid b L T ds K):=fun e fr σ fr' σ' _ hs ⟨h1,σ2,L',fr'',σ'',h2,h3⟩=>⟨h1,σ2,L',fr'',σ'',kKa hs h2,h3⟩
theorem W6a{d base2 sid2 lid b:Nat}{L:Loop}{T:Array Value}{ds:List Deferred}{K:Post}:Mono (RndK E ops rest d base2 sid2 lid b L T ds K):=fun e fr σ fr' σ' _ hs ⟨L',t,σ2,fr'',σ'',h1,h2,h3⟩=>⟨L',t,σ2,fr'',σ'',h1,kKa hs h2,h3⟩
theorem W7a{lid b:Nat}{L:Loop}{body:Code}{K:Post}:Mono (AsgK E lid b L body K):=fun e fr σ fr' σ' hf hs ⟨h1,fr2,σ2,h2,h3,h4⟩=>⟨h1,fr2,σ2,K4a hf h2,kKa hs h3,h4⟩
theorem il{d f:Nat}{fn:Func}{c:Code}{fx:Operand}{xs:List Operand}{ats:Array TypeId}{first cap args:List AV}(base sid:Nat)(keep:Fr)(hf:fr.ev fx=.fn (.func f) first cap)(hok:FnOk E.P f fn c)
 (hN:(Nat.ble (d+1) E.N && Nat.ble args.length fn.ntmps)=true) (ha:first++xs.map fr.ev++cap=args) (hk:keep.map (fun p=>fr.get p.1)=keep.map (·.2))
 (h:∀(T:Array Value) (ds:List Deferred),(GS.code c (z0a 0 args) ((sid,.sus E.g0.w.heap.size ds)::(holds base T keep++σ)) (.base (InlK E ops rest d fn base sid T ds (k.post E)) v8b)).holds ⟨E.P,none,E.g0,fn.ntmps,true,E.gl,E.S,E.sg⟩):
 (GS.ops ops (⟨some d,.call ⟨.value fx,xs.toArray,ats⟩,ty,pos,af,none⟩::rest) fr σ k).holds E:=
 awpl_inl base sid keep (z1a rfl) hf hok hN ha (kpw hk) fun T ds _=>h T ds
theorem ie{E' :Env}{d:Nat}{fn:Func}{base sid:Nat}{Tm:Array Value}{ds:List Deferred}{e:Exit}{hm:Mono (InlK E ops rest d fn base sid Tm ds (k.post E))}(hT:zDa E.P T)(cs:List AV)(fr'' :Fr)(σ'' :Sto)(he:isN e=true∨e=.ret)(hr:Qja T fr σ fn.results.toList=some cs)(hh:fr''.map (fun p=>σ.get (base+p.1))=fr''.map (fun p=>some (.hold p.2 (Tm.getD p.1 undef))))(hsu:σ.get sid=some (.sus E.g0.w.heap.size ds))(hle:σ''.map σ.sel=σ''.map (fun p=>some p.2))
 (h:AWPL E ops rest ((d,retI cs)::fr'') σ'' (k.post E)):(GS.at e fr σ (.base (InlK E ops rest d fn base sid Tm ds (k.post E)) hm)).holds E' :=
 inlK (by cases e <;> simp_all [isN]) kza qia (yla hT hr) (hdw hh) hsu (stw hle) h
end
end
section
open Go.RowKit Go.Lib Go.Proofs.Tryz
variable {E:Env} {fr:Fr} {σ:Sto} {K:Post} {P:Program} {ρ:Operand->AV}
variable {dst:Option Tmp} {ty:TypeId} {pos:String} {af:Array Edge} {gu:Option (Nat × Bool)}
section
variable {α:Type} {F:α->List PV} {l xs r' :List α} {r size bytes sb ss k lim:Nat} {e t:TypeId} {mu:Bool} {zero sz:Value} {d:TypeDesc} {x y z:Operand} {nl:Option Bool}
theorem kyb{c:Code}{d' :Nat}(hd:fr.get d' =.hs r 0)(hr:σ.get r=some (.row e mu size (l.map F)))(h:AWP E c ((d',.hs r 0)::fr.clr r) ((σ.clr r).upd r (.row e mu size (l.map F))) K):AWP E c fr σ K:=
 ⟨fun g a hst=>by
  have h1:=hst.fr d';rw[hd]at h1;have:=hst.row_upd (ob:=.row e mu size (l.map F)) hr (Ext.refl _ _) (fun _ _=>rfl) rfl rfl rfl (fun _ _ _=>⟨rfl,rfl⟩) hst.so.wf (hst.so.obj r _ hr) (fun b hb=>.inl hb);exact h.go g a (this.reslot h1)⟩
end
end
section
inductive Via (B:Nat) (g:G) (e:TypeId) (size:Nat) (els:List (List PV)):Value->Prop
 | nil (a:Option Addr) (h:els=[]):Via B g e size els (.slice a 0 0)
 | row {b off cap n:Nat} {ad:Addr} (hB:B<=b) (hn:n=els.length) (ha:0 < cap->ad=⟨b,off * size,none⟩) (ho:RelO ⟨g.w,g.u,fun _=>.row b off cap size n⟩ 0 (.row e true size els)):Via B g e size els (.slice (some ad) n cap)
structure RunO (P:Program) (f:FuncId) (args:List AV) (e:TypeId) (size:Nat) (els:List (List PV)):Prop where
 ok:∃fn c,FnOk P f fn c
 run:∀g vs,Wf g->Gl g->wma g args vs->CallsIn (fen none) 0 P f vs g.w fun x w' =>∃g' v,g'.w=w' /\g'.loc=g.loc/\Old (fun _=>False) g g' /\Wf g' /\x=.returned v/\Via g.w.heap.size g' e size els v
variable {P:Program} {σ:Sto} {dst:Option Tmp} {ty:TypeId} {pos:String} {af:Array Edge} {gu:Option (Nat × Bool)} {E:Env} {fr:Fr}
theorem St.newrow{g g1:G}{a:Act}{r:Nat}{e:TypeId}{size:Nat}{els:List (List PV)}{v:Value}(h:St E g a fr σ)(ho:Old (fun _=>False) g g1)(hw:Wf g1)(hl:g1.loc=g.loc)(hv:Via g.w.heap.size g1 e size els v)(hf:fr.has r=false)(hs:σ.has r=false):
 ∃g2,g2.w=g1.w/\St E g2 a fr ((r,.row e true size els)::σ)/\Rel g2 (.hs r 0) v/\g2.u=g1.u/\∀k,k≠r->g2.loc k=g1.loc k:=by
 have h1:St E g1 a fr σ:=h.grow ho hw (fun k _=>by rw[hl]);cases hv with
 | nil ax h0=>
  subst h0;exact ⟨⟨g1.w,g1.u,fun k=>if k=r then .nilRow else g1.loc k⟩,rfl,h1.adopt r e true size hf hs,.hsNil _ (if_pos rfl),rfl,fun k hk=>if_neg hk⟩
 | @row b off cap n ad hB hn ha hob=>
  subst hn;have hloc:∀k,k≠r->(⟨g1.w,g1.u,fun k=>if k=r then Loc.row b off cap size els.length else g1.loc k⟩:G).loc k=g1.loc k:=fun k hk=>if_neg hk
  have hget:∀o ob,Sto.get ((r,.row e true size els)::σ) o=some ob->(o=r/\ob=.row e true size els)∨(o≠r/\σ.get o=some ob):=by
   intro o ob hg;rw[Sto.get_cons]at hg;split at hg
   .simp_all
   grind
  have hlt:∀o ob b',σ.get o=some ob->ob.own (g1.loc o) b' ->b' < b:=by
   intro o ob b' ho1 hb';rw[hl]at hb';have:=(h.so.obj o ob ho1).block_lt hb';omega
  refine ⟨⟨g1.w,g1.u,fun k=>if k=r then Loc.row b off cap size els.length else g1.loc k⟩,rfl,⟨fun d' =>Rel.mono (g:=g1) (g' :=⟨g1.w,g1.u,fun k=>if k=r then Loc.row b off cap size els.length else g1.loc k⟩) (Ext.refl _ _) (h1.fr d') fun k hk=>hloc k ?_,h1.n,h1.df,⟨?_,?_,?_,⟨h1.so.old.os,h1.so.old.tape,h1.so.old.output,h1.so.old.ext,h1.so.old.block⟩,h1.so.wf⟩⟩,?_,rfl,hloc⟩
  .rintro rfl;rw[Fr.has_get hk]at hf;cases hf
  .intro o ob hg;rcases hget o ob hg with ⟨rfl,rfl⟩ | ⟨hne,hg1⟩
   .cases hob with
    | nil q=>cases q
    | row q1 q2 q3 q4 q5 q6 q7 q8 q9=>cases q1;exact .row (if_pos rfl) q2 q3 q4 q5 q6 q7 q8 q9
   refine RelO.mono (g:=g1) (g' :=⟨g1.w,g1.u,fun k=>if k=r then Loc.row b off cap size els.length else g1.loc k⟩) (h1.so.obj o ob hg1) (Ext.refl _ _) (hloc o hne) (fun k hk=>hloc k ?_) fun b hb=>⟨rfl,rfl⟩
   rintro rfl;rw[Sto.has_get hg1 hk]at hs;cases hs
  .intro o o' ob ob' b1 h2 h3 h4 h5;rcases hget o ob h2 with ⟨rfl,rfl⟩ | ⟨hne,hg⟩ <;> rcases hget o' ob' h3 with ⟨rfl,rfl⟩ | ⟨hne',hg'⟩
   .rfl
   .simp only[if_true,hne',if_false]at h4 h5;have:=hlt o' ob' b1 hg' h5;simp only[AO.own,Loc.block,Option.some.injEq]at h4;omega
   .simp only[if_true,hne,if_false]at h4 h5;have:=hlt o ob b1 hg h4;simp only[AO.own,Loc.block,Option.some.injEq]at h5;omega
   simp only[hne,hne',if_false]at h4 h5;exact h1.so.apart o o' ob ob' b1 hg hg' h4 h5
  .intro o ob b1 h2 h3;rcases hget o ob h2 with ⟨rfl,rfl⟩ | ⟨hne,hg⟩
   .simp only[if_true,AO.own,Loc.block,Option.some.injEq]at h3;have:=h.so.old.ext.size;omega
   simp only[hne,if_false]at h3;exact h1.so.mine o ob b1 hg h3
  exact .hs (if_pos rfl) ha
theorem VWa{f:FuncId}{k:Nat}{xs:List Operand}{ats:Array TypeId}{args:List AV}{e:TypeId}{size:Nat}{els:List (List PV)}(r:Nat)(hr:RunO E.P f args e size els)(hN:Nat.ble (k+1) E.N=true)(hf:fr.has r=false)(hs:σ.has r=false)(ha:xs.map (fun x=>(fr.ev x).weak)=args):
 OpTo E ⟨some k,.call ⟨.value (.func f),xs.toArray,ats⟩,ty,pos,af,gu⟩ fr σ ((k,.hs r 0)::fr) ((r,.row e true size els)::σ):=
 ⟨fun g a K Q hst hK=>by
  obtain ⟨fn,c,hok⟩:=hr.ok;refine ⟨fun _ _=>trivial,?_⟩;rw[jAz _ _ _ (fun c=>by simp),vFa hok (first:= #[]) (cap:= #[]) rfl,jDd];refine ⟨fun h=>by simp[fen]at h,?_⟩;have hargs:wma g args (#[]++xs.toArray.map a.eval++ #[]):=by
   subst ha;refine ⟨by simp,fun i c hi=>?_⟩;simp only[jAk,jAh]at hi;obtain ⟨x,hx,rfl⟩:=hi;have:=qUa (hst.ev x);simpa[hx]using this
  refine (vEa (hr.run g _ hst.so.wf (E.glOf hst.so) hargs)).mono ?_;rintro x w' ⟨g',v,rfl,hl,ho,hw,rfl,hv⟩;obtain ⟨g2,hw2,hst2,hv2,_,_⟩:=hst.newrow ho hw hl hv hf hs;have:=hK g2 _ (hst2.put (jAf hN) hv2)
  simp_all⟩
def jqb(P:Program)(fn:Func)(e:TypeId)(size:Nat)(els:List (List PV)):Post:=fun x fr σ=>(x=.ret∨x=.normal)/\∃r0,ResL P fr σ fn.results.toList [.hs r0 0]/\σ.get r0=some (.row e true size els)
theorem wYb{fn:Func}{e:TypeId}{size:Nat}{els:List (List PV)}:Mono (jqb P fn e size els):=fun x fr σ fr' σ' hf hs ⟨h1,r0,h2,h3⟩=>⟨h1,r0,h2.le hf hs,by
 rcases hs r0 _ h3 with h4 | ⟨cs,_,h4⟩
 all_goals simp_all⟩
theorem vgb{f:FuncId}{fn:Func}{c:Code}(hok:FnOk P f fn c){args:List AV}{e:TypeId}{size:Nat}{els:List (List PV)}(hN:Nat.ble args.length fn.ntmps=true)
 (h:∀g0 (hg:Gl g0),AWP ⟨P,none,g0,fn.ntmps,false,hg,fun _=>False,fun _ _ h=>h⟩ c (z0a 0 args) [] (jqb P fn e size els)):RunO P f args e size els:=by
 refine ⟨⟨fn,c,hok⟩,fun g vs hw hgl ⟨hsz,ha⟩=>?_⟩;have hN:=jAf hN;refine callsIn_of_wp_marks hok.f hok.b trivial<|wpIn_mono ((h g hgl).go g _ ⟨fun d=>?_,by grind,⟨Dok.nil _ _,fun _=>rfl⟩,⟨fun o ob ho=>by simp[Sto.get]at ho,fun o o' ob ob' b ho=>by simp[Sto.get]at ho,fun o ob b ho=>by simp[Sto.get]at ho,Old.refl _ g,hw⟩⟩) ?_
 .rw[q9a];simp only[jBi,if_true,jDp];cases hc:args[d]? with
  | none=>exact .any _
  | some c=>
   have hlt:d < vs.size:=by rw[hsz];exact (jAd.1 hc).1
   have:=ha d c hc;rw[jAg,jAw hlt,<-jAg]
   grind
 rintro x a w' ⟨g',fr',σ',rfl,hst,he,r0,hres,hr0⟩;obtain ⟨bs,hds,hnd,hbs⟩:=hst.df.ok;have key:∀w',Took g'.w bs w' ->∃v,(results fn a.tmps).run P w' =.ok v w' /\∃g'' v',g''.w=w' /\g''.loc=g.loc/\Old (fun _=>False) g g'' /\Wf g'' /\Ending.returned v=.returned v' /\Via g.w.heap.size g'' e size els v' :=by
  intro w' ht;have hcellb:∀(k:Nat) (vs:Array Value) (t:TypeId) (fz:Nat × Nat),g'.w.heap[k]? =some (Obj.cells vs t fz)->w'.heap[k]? =g'.w.heap[k]? :=by
   intro k vs t fz hk;refine ht.block k fun hx=>?_
   rw[(hbs k hx).2]at hk;cases hk
  have hx0:Ext0 g'.w g'.u w' g'.u:=⟨jBm ht.size.symm,fun _ _=>jAm _,fun k i hk hi=>by
   by_cases hkb:k∈bs
   .simp[World.cell?,(hbs k hkb).2,ht.took k hkb]
   simp only[World.cell?];rw[ht.block k hkb]⟩
  obtain ⟨v,h1,h2⟩:=Zsa (P:=P) (g:=⟨w',g'.u,g'.loc⟩) hres (fun d=>(hst.fr d).mono0 hx0 (fun _ _=>rfl)) (fun k cs' hk=>by
   cases hst.so.obj k _ hk with
   | cells q1 q2 q3 q4 q5 q6=>exact .cells q1 ((hcellb _ _ _ _ q2).trans q2) q3 q4 q5 fun i c hi=>(q6 i c hi).mono0 hx0 (fun _ _=>rfl))
  have hrow:=hst.so.obj r0 _ hr0;refine ⟨v,h1,⟨w',g'.u,g.loc⟩,v,rfl,rfl,⟨ht.os.trans hst.so.old.os,ht.tape.trans hst.so.old.tape,ht.output.trans hst.so.old.output,⟨by rw[ht.size];exact hst.so.old.ext.size,hst.so.old.ext.pub,fun k i hk hi=>?_,fun r' hr' =>?_⟩,fun k hk hs=>?_⟩,fun k hk=>hst.so.wf k (by rw[<-ht.size];exact hk),rfl,?_⟩
  .have hkb:k ∉ bs:=fun hx=>by grind
   simp only[World.cell?];rw[ht.block k hkb];exact hst.so.old.ext.cell k i hk hi
  .have hkb:r' ∉ bs:=fun hx=>by simp_all
   rw[ht.block r' hkb];exact hst.so.old.ext.df r' hr'
  .have hkb:k ∉ bs:=fun hx=>by grind
   rw[ht.block k hkb];exact hst.so.old.block k hk hs
  replace h2:Rel ⟨w',g'.u,g'.loc⟩ (.hs r0 0) v:=h2
  cases hrow with
  | nil q1=>
   cases h2 with
   | hsNil ax q2=>exact .nil ax rfl
   | hs q2=>simp_all
  | @row _ _ _ _ b off cap vs' q1 q2 q3 q4 q5 q6 q7 q8 q9=>
   have hB:=hst.so.mine r0 _ b hr0 (by rw[q1];rfl);cases h2 with
   | hsNil ax q10=>simp_all
   | @hs _ b2 off2 cap2 size2 n2 ad q10 q11=>
    have q12:Loc.row b off cap size els.length=Loc.row b2 off2 cap2 size2 n2:=q1.symm.trans q10;cases q12;refine .row (b:=b) (off:=off) (hB.elim id fun hc=>hc.elim) rfl q11<|.row rfl ((hcellb _ _ _ _ q2).trans q2) q3 q4 q5 q6 q7 q8 fun i j x c hi hj=>(q9 i j x c hi hj).mono0 hx0
 rcases he with rfl | rfl
 .show LeavesInM _ _ _ _ _ _ _ _ _;rw[hds];exact kZa bs g'.w hnd (fun r' hr' =>(hbs r' hr').2) key
 show LeavesInM _ _ _ _ _ _ _ _ _;rw[hds];exact kZa bs g'.w hnd (fun r' hr' =>(hbs r' hr').2) key
theorem rfO{f:FuncId}{fn:Func}{c:Code}(hok:FnOk P f fn c){args:List AV}{e:TypeId}{size:Nat}{els:List (List PV)}(hN:Nat.ble args.length fn.ntmps=true)
 (h:∀g0 (hg:Gl g0),(GS.code c (z0a 0 args) [] (.base (jqb P fn e size els) wYb)).holds ⟨P,none,g0,fn.ntmps,false,hg,fun _=>False,fun _ _ h=>h⟩):RunO P f args e size els:=vgb hok hN h
theorem krO{T:Tab}(hT:zDa P T){x:Exit}{fn:Func}{e:TypeId}{size:Nat}{els:List (List PV)}{r0:Nat}{hm:Mono (jqb P fn e size els)}(he:isN x=true∨x=.ret)(h:Qja T fr σ fn.results.toList=some [.hs r0 0])(hg:σ.get r0=some (.row e true size els)):(GS.at x fr σ (.base (jqb P fn e size els) hm)).holds E:=
 ⟨by cases x <;> simp_all [isN],r0,yla hT h,hg⟩
theorem fn{fr:Fr}:FrLe fr []:=Q7a
theorem fc{fr fr' :Fr}{k:Nat}{c:AV}(h:fr.get k=c)(h' :FrLe fr fr'):FrLe fr ((k,c)::fr'):=Z7a h h'
def bt:Nat->Nat->List Bool
 | 0,_=>[]
 | n+1,m=>(m % 2==1)::bt n (m / 2)
end
section
open Go.RowKit Go.Lib Go.Proofs.Tryz
variable {E:Env} {fr:Fr} {σ:Sto} {K:Post}
abbrev ObX:=List (Option (Nat × AO))
def objX(D:Nat->Bool):Nat->ObX->Sto
 | _,[]=>[]
 | i,none::r=>objX D (i+1) r
 | i,some (id,cs)::r=>bif D i then (id,cs)::objX D (i+1) r else objX D (i+1) r
def idX:ObX->List Nat
 | []=>[]
 | none::r=>idX r
 | some (id,_)::r=>id::idX r
def wZb(fr:Fr)(σ:Sto)(cs:List AV)(az:ObX):Bool:=
 Qia (idX az) && ((idX az).all fun k=> !fr.has k && !σ.has k && (σ.get k).isNone) &&
 (az.all fun | none=>true | some (_,c)=>(idX az).all fun k=> !AO.has k c) &&
 ((cs.zip az).all fun p=>(idX az).all fun k=>(match p.2 with | some (id,_)=>Nat.beq id k | none=>false) || !p.1.has k)
theorem vhb{az:ObX}{j id:Nat}{cs:AO}(h:az[j]? =some (some (id,cs))):id∈idX az:=by
 induction az generalizing j with
 | nil=>simp at h
 | cons x r ih=>
  cases j with
  | zero=>simp at h;subst h;simp[idX]
  | succ j=>
   have:=ih (j:=j) (by simpa using h);cases x with
   | none=>simpa[idX]using this
   | some x=>obtain ⟨a,b⟩:=x;simp[idX,this]
theorem zJb{az:ObX}(hd:Qia (idX az)=true){i j id:Nat}{c c' :AO}(hi:az[i]? =some (some (id,c)))(hj:az[j]? =some (some (id,c'))):i=j:=by
 induction az generalizing i j with
 | nil=>simp at hi
 | cons x r ih=>
  cases x with
  | none=>
   cases i with
   | zero=>simp at hi
   | succ i=>
    cases j with
    | zero=>simp at hj
    | succ j=>rw[ih (by simpa[idX]using hd) (i:=i) (j:=j) (by simpa using hi) (by simpa using hj)]
  | some x=>
   obtain ⟨a,b⟩:=x;simp only[idX,Qia,jAn,jBv]at hd;have hn:∀{k:Nat} {c:AO},r[k]? =some (some (a,c))->False:=by
    intro k c hk;have:=vhb hk;have h1:=hd.1;rw[List.any_eq_false]at h1;exact h1 a this (Nat.beq_refl a)
   cases i with
   | zero=>
    simp at hi;obtain ⟨rfl,rfl⟩:=hi;cases j with
    | zero=>rfl
    | succ j=>exact (hn (by simpa using hj)).elim
   | succ i=>
    cases j with
    | zero=>
     simp at hj;obtain ⟨rfl,rfl⟩:=hj;exact (hn (by simpa using hi)).elim
    | succ j=>rw[ih hd.2 (i:=i) (j:=j) (by simpa using hi) (by simpa using hj)]
theorem Kga{D:Nat->Bool}{o:Nat}:∀(az:ObX) (n:Nat),(∀j c,az[j]? =some (some (o,c))->D (n+j)=false)->Sto.get (objX D n az++σ) o=σ.get o
 | [],_,_=>rfl
 | none::r,n,h=>Kga r (n+1) (fun j c hj=>by have:=h (j+1) c (by simpa using hj);rwa [show n+1+j=n+(j+1) by omega])
 | some (id,cs)::r,n,h=>by
  have ih:=Kga r (n+1) (fun j c hj=>by have:=h (j+1) c (by simpa using hj);rwa [show n+1+j=n+(j+1) by omega]);unfold objX;cases hD:D n with
  | false=>exact ih
  | true=>
   show Sto.get ((id,cs)::(objX D (n+1) r++σ)) o=_;rw[Sto.get_cons,if_neg]
   .exact ih
   rintro rfl;have:=h 0 cs rfl;rw[jBy,hD]at this;cases this
theorem Vja{D:Nat->Bool}{o:Nat}{c:AO}:∀(az:ObX) (n j:Nat),Qia (idX az)=true->az[j]? =some (some (o,c))->D (n+j)=true->Sto.get (objX D n az++σ) o=some (c)
 | [],_,_,_,h,_=>by simp at h
 | none::r,n,j,hd,h,hD=>by
  cases j with
  | zero=>simp at h
  | succ j=>exact Vja r (n+1) j (by simpa[idX]using hd) (by simpa using h) (by rwa [show n+1+j=n+(j+1) by omega])
 | some (id,cs)::r,n,j,hd,h,hD=>by
  unfold objX;cases j with
  | zero=>
   simp at h;obtain ⟨rfl,rfl⟩:=h;rw[jBy]at hD;rw[hD];show Sto.get ((id,cs)::(objX D (n+1) r++σ)) id=_;rw[Sto.get_cons,if_pos rfl]
  | succ j=>
   have hne:id≠o:=by
    rintro rfl;have:=zJb hd (i:=0) (j:=j+1) rfl h;omega
   have hd' :Qia (idX r)=true:=by simp only[idX,Qia,jAn]at hd;exact hd.2
   have ih:=Vja r (n+1) j hd' (by simpa using h) (by rwa [show n+1+j=n+(j+1) by omega]);cases D n with
   | false=>exact ih
   | true=>
    show Sto.get ((id,cs)::(objX D (n+1) r++σ)) o=_;rw[Sto.get_cons,if_neg hne];exact ih
theorem JRa{D:Nat->Bool}(az:ObX)(hd:Qia (idX az)=true)(o:Nat):(∃j c,D j=true/\az[j]? =some (some (o,c))/\Sto.get (objX D 0 az++σ) o=some (c))∨((∀j c,az[j]? =some (some (o,c))->D j=false)/\Sto.get (objX D 0 az++σ) o=σ.get o):=by
 by_cases h:∃j c,D j=true/\az[j]? =some (some (o,c))
 .obtain ⟨j,c,h1,h2⟩:=h;exact .inl ⟨j,c,h1,h2,Vja az 0 j hd h2 (by simpa using h1)⟩
 have hn:∀j c,az[j]? =some (some (o,c))->D j=false:=by
  intro j c hj;cases hD:D j with
  | false=>rfl
  | true=>exact absurd ⟨j,c,hD,hj⟩ h
 exact .inr ⟨hn,Kga az 0 (fun j c hj=>by simpa using hn j c hj)⟩
theorem Vka{D D' :Nat->Bool}:∀(az:ObX) (n:Nat),(∀j x,az[j]? =some (some x)->D (n+j)=D' (n+j))->objX D n az=objX D' n az
 | [],_,_=>rfl
 | none::r,n,h=>Vka r (n+1) (fun j x hj=>by have:=h (j+1) x (by simpa using hj);rwa [show n+1+j=n+(j+1) by omega])
 | some (id,cs)::r,n,h=>by
  have ih:=Vka (D:=D) (D' :=D') r (n+1) (fun j x hj=>by have:=h (j+1) x (by simpa using hj);rwa [show n+1+j=n+(j+1) by omega]);unfold objX;rw[show D n=D' n from h 0 _ rfl,ih]
theorem zKb{D:Nat->Bool}{k:Nat}(hσ:σ.has k=false):∀(az:ObX) (n:Nat),(∀(j id:Nat) (c:AO),az[j]? =some (some (id,c))->AO.has k c=false)->Sto.has k (objX D n az++σ)=false
 | [],_,_=>hσ
 | none::r,n,h=>zKb hσ r (n+1) (fun j id c hj=>h (j+1) id c (by simpa using hj))
 | some (id,cs)::r,n,h=>by
  have ih:=zKb (D:=D) hσ r (n+1) (fun j id c hj=>h (j+1) id c (by simpa using hj));unfold objX;cases D n with
  | false=>exact ih
  | true=>
   show Sto.has k ((id,cs)::(objX D (n+1) r++σ))=false;unfold Sto.has;rw[ih];simp[h 0 id cs rfl]
structure jrb (E:Env) (FR:Fr) (o:Oper) (id:Nat) (c:AV) (ob:AO):Prop where
 go:∀(g:G) a (σ' :Sto) (K:Act->World->Prop) (Q:Exit->Act->World->Prop),(∀x∈o.op.operands,Rel g (FR.ev x) (a.eval x))->St E g a [] σ' ->σ'.has id=false->ob.has id=false->
  (∀g' v,Old (fun _=>False) g g' ->(∀k,k≠id->g'.loc k=g.loc k)->Sok E.S E.g0 g' ((id,ob)::σ')->Rel g' c v->K (a.put o.dst v) g'.w)->o.wpIn (fen E.rd) 0 E.P a g.w K Q
theorem kzb{FR:Fr}{k id:Nat}{t:TypeId}{size bytes:Nat}{zero:Value}{d:TypeDesc}{cs:List AV}{ty:TypeId}{pos:String}{af:Array Edge}{gu:Option (Nat × Bool)}(ht:TyOk E.P t size bytes zero d)(hz:zero.cells.toList.map qXa=cs)(hz2:zero.cells.toList.all cellV=true):jrb E FR ⟨some k,.alloc t,ty,pos,af,gu⟩ id (.ptr id 0) (.cells cs):=
 ⟨fun g a σ' K Q _ hst hid hob hK=>by
  obtain ⟨vs,t',q1,q2,q3,q4⟩:=(vcb (E:=E) (k:=k) (id:=id) (ty:=ty) (pos:=pos) (af:=af) (gu:=gu) ht hz hz2).go;have hst2:=hst.box id rfl hid t' q1 q2 (q3 g) hob;exact q4 g a _ _ (hK _ _ (yEa g vs t' 0 id (.blk g.w.heap.size)) (fun k hk=>if_neg hk) hst2.so (.ptr (if_pos rfl)))⟩
inductive wMa (E:Env) (ops:Array Oper) (fr:Fr) (σ:Sto):List Oper->List AV->ObX->Prop
 | nil:wMa E ops fr σ [] [] []
 | run {o:Oper} {l:List Oper} {c:AV} {cs:List AV} {az:ObX} (hg:kta ops fr o) (h:OpG E o fr σ c) (hr:wMa E ops fr σ l cs az):wMa E ops fr σ (o::l) (c::cs) (none::az)
 | skip {o:Oper} {l:List Oper} {cs:List AV} {az:ObX} (hg:Zwa ops fr o) (hr:wMa E ops fr σ l cs az):wMa E ops fr σ (o::l) (.tup []::cs) (none::az)
 | new {o:Oper} {l:List Oper} {cs:List AV} {az:ObX} (id:Nat) {c:AV} {ob:AO} (hg:kta ops fr o) (h:jrb E fr o id c ob) (hr:wMa E ops fr σ l cs az):wMa E ops fr σ (o::l) (c::cs) (some (id,ob)::az)
theorem wMa.len{ops:Array Oper}{l:List Oper}{cs:List AV}{az:ObX}(h:wMa E ops fr σ l cs az):cs.length=l.length/\az.length=l.length:=by
 induction h with
 | nil=>exact ⟨rfl,rfl⟩
 | run _ _ _ ih=>simp[ih.1,ih.2]
 | skip _ _ ih=>simp[ih.1,ih.2]
 | new _ _ _ _ ih=>simp[ih.1,ih.2]
theorem wMa.get{ops:Array Oper}{l:List Oper}{cs:List AV}{az:ObX}(h:wMa E ops fr σ l cs az):∀{i:Nat} {o:Oper} {c:AV},l[i]? =some o->cs[i]? =some c->(kta ops fr o/\OpG E o fr σ c/\az[i]? =some none)∨(Zwa ops fr o/\c=.tup []/\az[i]? =some none)∨(kta ops fr o/\∃id ob,jrb E fr o id c ob/\az[i]? =some (some (id,ob))):=by
 induction h with
 | nil=>intro i o c h1;simp at h1
 | run hg h _ ih=>
  intro i o c h1 h2;cases i with
  | zero=>simp at h1 h2;subst h1;subst h2;exact .inl ⟨hg,h,rfl⟩
  | succ i=>exact ih (by simpa using h1) (by simpa using h2)
 | skip hg _ ih=>
  intro i o c h1 h2;cases i with
  | zero=>simp at h1 h2;subst h1;subst h2;exact .inr (.inl ⟨hg,rfl,rfl⟩)
  | succ i=>exact ih (by simpa using h1) (by simpa using h2)
 | new id hg h _ ih=>
  intro i o c h1 h2;cases i with
  | zero=>simp at h1 h2;subst h1;subst h2;exact .inr (.inr ⟨hg,id,_,h,rfl⟩)
  | succ i=>exact ih (by simpa using h1) (by simpa using h2)
def vib{ι β:Type}:List ι->(ι->Option (List β))->Option (List β)
 | [],_=>some []
 | i::is,f=>match f i with
  | some a=>(match vib is f with | some b=>some (a++b) | none=>none)
  | none=>none
theorem Yva{ι β:Type}{f:ι->Option (List β)}:∀{is:List ι} {ls:List β},vib is f=some ls->∀i∈is,∃a,f i=some a/\∀p∈a,p∈ls
 | [],_,_,i,hi=>by cases hi
 | j::is,ls,h,i,hi=>by
  unfold vib at h;cases hf:f j with
  | none=>rw[hf]at h;cases h
  | some a=>
   rw[hf]at h;cases hr:vib is f with
   | none=>rw[hr]at h;cases h
   | some b=>
    rw[hr]at h;cases h;rcases jDl.1 hi with rfl | hi
    .exact ⟨a,hf,fun p hp=>List.mem_append_left _ hp⟩
    obtain ⟨a',h1,h2⟩:=Yva hr i hi;exact ⟨a',h1,fun p hp=>List.mem_append_right _ (h2 p hp)⟩
def v9b(l:List Oper)(fr:Fr):Option (Nat × Bool)->Option Bool
 | none=>some true
 | some (j,want)=>match (l[j]?).bind (·.dst) with
  | some d=>(match fr.get d with | .pv (.b (.bool t))=>(match t,want with | true,true=>some true | false,false=>some true | _,_=>some false) | .tup []=>some false | _=>none)
  | none=>none
theorem zLb{l:List Oper}{g:G}{a:Act}{o:Oper}{b:Bool}(hs:St E g a fr σ)(h:v9b l fr o.guard=some b):Region.wanted o (yielded l.toArray a.tmps)=b:=by
 cases hg:o.guard with
 | none=>rw[hg]at h;cases h;simp[Region.wanted,hg]
 | some jw=>
  obtain ⟨j,want⟩:=jw;rw[hg]at h;unfold v9b at h;cases hj:(l[j]?).bind (·.dst) with
  | none=>simp only[hj]at h;cases h
  | some d=>
   simp only[hj]at h;have hj' :(l.toArray[j]?).bind (·.dst)=some d:=by rw[jBk];exact hj
   split at h
   .rename_i t hv;have hy:=K5a hs hj' hv;cases t <;> cases want <;> cases h <;> simp[Region.wanted,hg,hy]
   .rename_i hv;cases h;have hy:yielded l.toArray a.tmps j=none:=by
     have h1:=hs.fr d;rw[hv]at h1;unfold yielded;rw[hj'];simp only[jAc];cases hx:a.tmps[d]? with
     | none=>rfl
     | some x=>
      rw[jAg,hx]at h1;simp only[jCn]at h1;cases h1;rfl
    simp[Region.wanted,hg,hy]
   cases h
def Ywa(T:Tab)(N:Nat)(l:List Oper)(q:Nat):Nat->List Bool->Fr->Sto->Option (List (Fr × Sto))
 | 0,_,_,_=>none
 | n+1,D,fr,σ=>match (D.take q).all id with
  | true=>some [(fr,σ)]
  | false=>vib (krb l D) fun i=>match l[i]? with
   | some o=>(match v9b l fr o.guard with
    | some true=>(match opDo T N o fr σ with | some r=>Ywa T N l q n (D.set i true) r.1 r.2 | none=>none)
    | some false=>Ywa T N l q n (D.set i true) ((o.dst.map fun d=>(d,AV.tup [])).toList++fr) σ
    | none=>none)
   | none=>none
def kAb(m:Nat)(fl:List Nat):Nat->Nat->List (List Bool)
 | 0,_=>[[]]
 | k+1,i=>(kAb m fl k (i+1)).flatMap fun r=>match Nat.ble m i with
  | true=>[false::r]
  | false=>(match fl.contains i with | true=>[true::r,false::r] | false=>[true::r])
theorem kBb{m:Nat}{fl:List Nat}:∀(k i:Nat) (D:List Bool),D.length=k->(∀j,j < k->m<=i+j->D.getD j false=false)->(∀j,j < k->i+j < m->fl.contains (i+j)=false->D.getD j false=true)->D∈kAb m fl k i
 | 0,i,D,h,_,_=>by
  obtain rfl:=jCi h;simp[kAb]
 | k+1,i,D,h,h1,h2=>by
  cases D with
  | nil=>simp at h
  | cons b r=>
   have ih:=kBb (m:=m) (fl:=fl) k (i+1) r (by simpa using h) (fun j hj hmj=>by
    have h3:m<=i+(j+1):=by omega
    have h4:=h1 (j+1) (by omega) h3;simpa using h4) (fun j hj hmj hc=>by
    have h3:i+(j+1) < m:=by omega
    have h4:fl.contains (i+(j+1))=false:=by rw[show i+(j+1)=i+1+j by omega];exact hc
    have h5:=h2 (j+1) (by omega) h3 h4;simpa using h5)
   unfold kAb;rw[List.mem_flatMap];refine ⟨r,ih,?_⟩;cases hm:Nat.ble m i with
   | true=>
    have:=h1 0 (by omega) (by have:=jAf hm;omega);simp at this;subst this;simp
   | false=>
    have hlt:i < m:=by
     rcases jAu i m with h3 | h3
     .exact h3
     rw[Nat.ble_eq_true_of_le h3]at hm;cases hm
    cases hc:fl.contains i with
    | true=>cases b <;> simp
    | false=>
     have:=h2 0 (by omega) (by omega) (by simpa using hc);simp at this;subst this;simp
def kCb:List AV->List Bool->List AV
 | c::cs,b::bs=>(bif b then c else .any)::kCb cs bs
 | _,_=>[]
theorem kDb:∀{cs:List AV} {bs:List Bool},cs.length<=bs.length->∀(i:Nat) (c:AV),cs[i]? =some c->(kCb cs bs)[i]? =some (bif bs.getD i false then c else .any)
 | [],_,_,i,c,h=>by simp at h
 | c0::cs,[],hl,_,_,_=>by simp at hl
 | c0::cs,b::bs,hl,i,c,h=>by
  cases i with
  | zero=>simp at h;subst h;simp[kCb]
  | succ i=>have:=kDb (cs:=cs) (bs:=bs) (by simpa using hl) i c (by simpa using h);simpa[kCb]using this
def Yxa(T:Tab)(N:Nat)(l:List Oper)(m q:Nat)(fl:List Nat)(fuel:Nat)(cs:List AV)(fr:Fr)(σ:Sto):Option (List (Fr × Sto)):=
 vib (kAb m fl l.length 0) fun D=>Ywa T N l q fuel D (wKa (l.take m) (kCb cs D) []++fr) σ
def VXa(l:List Oper)(m q:Nat)(fl:List Nat):Bool:=
 vZa .any l.toArray &&
 ((l.take m).all fun o=>o.dst.isSome) &&
 (List.range m).all (fun i=>(List.range m).all fun j=>Nat.beq i j || (l[i]?).bind (·.dst) !=(l[j]?).bind (·.dst)) &&
 ((l.take m).all fun o=>(Wsa o).all fun t=>(List.range m).all fun j=>(l[j]?).bind (·.dst) !=some t || qxa o j) &&
 ((l.take m).all fun o=>match o.guard with | none=>true | some (j,_)=>qxa o j) &&
 (List.range l.length).all (fun i=>Nat.ble (i+1) m || (List.range i).all fun j=>(Nat.ble (i+1) q && fl.contains j) || ((wka l l.length).getD i 0).testBit j)
def JDX(E:Env)(T:Tab)(l:List Oper)(m q:Nat)(fl:List Nat)(cs:List AV)(az:ObX)(fr:Fr)(σ:Sto)(frJ:Fr)(σJ:Sto)(K:Post)(D:Nat->Bool)(a:Act)(w:World):Prop:=
 (∀i o,l[i]? =some o->D i=true->∀e∈o.after,Region.binds .any e=true->D e.on=true)/\
 ((∃g,g.w=w/\(∀i,m<=i->D i=false)/\(∃i,i < m/\fl.contains i=false/\D i=false)/\a.tmps.size=E.N/\DokE E g.w a.defers/\Sok E.S E.g0 g (objX D 0 az++σ)/\
  (∀d,(∀i o,i < m->l[i]? =some o->o.dst≠some d)->Rel g (fr.get d) (a.tmps.getD d undef))/\
  (∀i o c d,i < m->D i=true->l[i]? =some o->cs[i]? =some c->o.dst=some d->Rel g c (a.tmps.getD d undef)))
  ∨(∃s,q<=s/\(∀i,i < l.length->(D i=true↔i < s))/\s<=l.length/\wpListIn (fen E.rd) 0 E.P l.toArray (Ends E K) (l.drop s) a w)
  ∨(∃(Dl:List Bool) (fr2:Fr) (σ2:Sto) (g:G) (n:Nat) (ls:List (Fr × Sto)),g.w=w/\Dl.length=l.length/\(∀i,i < l.length->D i=Dl.getD i false)/\(∀i,q<=i->D i=false)/\(Dl.take q).all id=false/\St E g a fr2 σ2/\
   Ywa T E.N l q n Dl fr2 σ2=some ls/\∀p∈ls,FrLe p.1 frJ/\zTa p.2 σJ))
set_option maxHeartbeats 2000000 in
theorem JSa{id:Nat}{l:List Oper}(m q fuel:Nat)(fl:List Nat)(new:Fr){cs:List AV}{az:ObX}{σ' :Sto}{T:Tab}{ls:List (Fr × Sto)}(frJ:Fr)(σJ:Sto)(hT:zDa E.P T)(hmix:E.P.follows .mixedOrders=true)(hok:VXa l m q fl=true)(hm:Nat.ble m q=true)(hq:Nat.ble q l.length=true)
 (hfl:(fl.all fun f=>match az[f]? with | some none=>true | _=>false)=true) (hN:((l.take m).all fun o=>o.dst.all fun d=>Nat.ble (d+1) E.N)=true)
 (hp:wMa E l.toArray (new++fr) σ (l.take m) cs az) (hfree:wZb fr σ cs az=true) (hσ:objX (fun _=>true) 0 az++σ=σ') (hnew:wKa (l.take m) cs []=new)
 (hl:Yxa T E.N l m q fl fuel cs fr σ' =some ls) (hle:∀p∈ls,FrLe p.1 frJ/\zTa p.2 σJ) (h:AWPL E l.toArray (l.drop q) frJ σJ K):AWP E (.region id l.toArray true) fr σ K:=by
 have hmq:=jAf hm;have hq:=jAf hq;have hm:m<=l.length:=by omega
 simp only[VXa,jAn,jAp]at hok;obtain ⟨⟨⟨⟨⟨hlb,hsome⟩,hdist⟩,hdat⟩,hgrd⟩,hsuf⟩:=hok;have hcslen:cs.length=m:=by rw[hp.len.1];simp;omega
 have haslen:az.length=m:=by rw[hp.len.2];simp;omega
 simp only[wZb,jAn,jAp]at hfree;obtain ⟨⟨⟨hdist2,hids⟩,hcells⟩,hcsid⟩:=hfree;have hids' :∀k∈idX az,fr.has k=false/\σ.has k=false/\σ.get k=none:=by
  intro k hk;have:=hids k hk;simp only[jBv,Option.isNone_iff_eq_none]at this;exact ⟨this.1.1,this.1.2,this.2⟩
 have hcells' :∀(j id:Nat) (c:AO),az[j]? =some (some (id,c))->∀k∈idX az,AO.has k c=false:=by
  intro j id c hj k hk;have:=hcells _ (jAi hj);simp only[jAp,jBv]at this;exact this k hk
 have hcs' :∀(j:Nat) (c:AV) (x:Option (Nat × AO)),cs[j]? =some c->az[j]? =some x->∀k∈idX az,(∀id ds,x=some (id,ds)->id≠k)->c.has k=false:=by
  intro j c x hc hx k hk hne;have hmz:(c,x)∈cs.zip az:=by
   refine jAi (i:=j) ?_;rw[List.getElem?_zip_eq_some];exact ⟨hc,hx⟩
  have:=hcsid _ hmz k hk;simp only[jBr,jBv]at this;rcases this with h1 | h1
  .cases x with
   | none=>cases h1
   | some x=>obtain ⟨id,ds⟩:=x;exact absurd (jAl h1) (hne id ds rfl)
  exact h1
 have hsub:∀(D:Nat->Bool) o ob,σ.get o=some ob->Sto.get (objX D 0 az++σ) o=some ob:=by
  intro D o ob ho;rcases JRa (σ:=σ) (D:=D) az hdist2 o with ⟨j,c,_,h2,_⟩ | ⟨_,h2⟩
  .have:=(hids' o (vhb h2)).2.2;rw[this]at ho;cases ho
  rw[h2];exact ho
 have htake:∀i,i < m->(l.take m)[i]? =l[i]? :=fun i hi=>jBd hi
 have hmem:∀i o,i < m->l[i]? =some o->o∈l.take m:=fun i o hi ho=>jAi (by rw[htake i hi];exact ho)
 have hdist' :∀i j o o',i < m->j < m->l[i]? =some o->l[j]? =some o' ->i≠j->o.dst≠o'.dst:=by
  intro i j o o' hi hj ho ho' hne hc;have:=hdist i (by simpa using hi) j (by simpa using hj);simp only[jBr,bne_iff_ne,ne_eq]at this;rcases this with h1 | h1
  .exact hne (jAl h1)
  exact h1 (by rw[ho,ho'];simpa using hc)
 have hA:∀(cs' :List AV) d,(∀i o,i < m->l[i]? =some o->o.dst≠some d)->(wKa (l.take m) cs' []++fr).get d=fr.get d:=by
  intro cs' d hd;rw[<-k0a,jCf];refine wna _ _ _ _ fun o ho=>?_
  obtain ⟨i,hi,rfl⟩:=jBz ho;have hi' :i < m:=by simp at hi;omega
  exact hd i _ hi' (by rw[<-htake i hi'];exact jAe hi)
 have hB:∀(cs' :List AV) i o c d,i < m->l[i]? =some o->cs'[i]? =some c->o.dst=some d->(wKa (l.take m) cs' []++fr).get d=c:=by
  intro cs' i o c d hi ho hc hd;rw[<-k0a,jCf];refine Kca _ _ _ i o c d (fun i j o o' h1 h2 hne=>?_) (by rw[htake i hi];exact ho) hc hd;have hi1:i < m:=by have:=(jAd.1 h1).1;simp at this;omega
  have hj1:j < m:=by have:=(jAd.1 h2).1;simp at this;omega
  rw[htake i hi1]at h1;rw[htake j hj1]at h2;exact hdist' i j o o' hi1 hj1 h1 h2 hne
 have hsuf' :∀{D:Nat->Bool} i o,(∀i o,l[i]? =some o->D i=true->∀e∈o.after,Region.binds .any e=true->D e.on=true)->m<=i->l[i]? =some o->(∀e∈o.after,Region.binds .any e=true->D e.on=true)->∀j,j < i->(q<=i∨fl.contains j=false)->D j=true:=by
  intro D i o hcl hi ho he j hj hqj;have hil:i < l.length:=(jAd.1 ho).1;have:=hsuf i (by simpa using hil);simp only[jBr,jAp,jAn]at this;rcases this with h1 | h1
  .have:=jAf h1;omega
  rcases h1 j (by simpa using hj) with ⟨h2,h3⟩ | h2
  .have:=jAf h2;rcases hqj with h4 | h4
   .omega
   rw[h4]at h3;cases h3
  exact yGa hcl l.length i o ho he j h2
 have hdir:∀{D:Nat->Bool} {o:Oper} {j:Nat},(∀e∈o.after,Region.binds .any e=true->D e.on=true)->qxa o j=true->D j=true:=by
  intro D o j he hd;simp only[qxa,List.any_eq_true,jAn]at hd;obtain ⟨e,h1,h2,h3⟩:=hd;rw[<-jAl h3];exact he e (by simpa using h1) h2
 have hflz:∀j x,az[j]? =some (some x)->fl.contains j=false:=by
  intro j x hj;cases hc:fl.contains j with
  | false=>rfl
  | true=>
   rw[jAp]at hfl;have:=hfl j (by simpa using hc);rw[hj]at this;cases this
 have enter2:∀(g:G) (a:Act) (D:Nat->Bool) (Dl:List Bool) (fr2:Fr) (σ2:Sto) (n:Nat) (ls2:List (Fr × Sto)),(∀i o,l[i]? =some o->D i=true->∀e∈o.after,Region.binds .any e=true->D e.on=true)->Dl.length=l.length->(∀i,i < l.length->D i=Dl.getD i false)->(∀i,q<=i->D i=false)->St E g a fr2 σ2->Ywa T E.N l q n Dl fr2 σ2=some ls2->(∀p∈ls2,FrLe p.1 frJ/\zTa p.2 σJ)->JDX E T l m q fl cs az fr σ frJ σJ K D a g.w:=by
  intro g a D Dl fr2 σ2 n ls2 hcl hlen hbits hge hst htree hls;cases hall:(Dl.take q).all _root_.id with
  | false=>exact ⟨hcl,.inr (.inr ⟨Dl,fr2,σ2,g,n,ls2,rfl,hlen,hbits,hge,hall,hst,htree,hls⟩)⟩
  | true=>
   cases n with
   | zero=>unfold Ywa at htree;cases htree
   | succ n=>
    unfold Ywa at htree;rw[hall]at htree;cases htree;obtain ⟨h1,h2⟩:=hls (fr2,σ2) (by simp);refine ⟨hcl,.inr (.inl ⟨q,jAm _,fun i hi=>⟨fun hd=>?_,fun hlt=>?_⟩,hq,h.go g a (hst.le h1 h2)⟩)⟩
    .rcases jAu i q with h3 | h3
     .exact h3
     rw[hge i h3]at hd;cases hd
    rw[hbits i hi];rw[jAp]at hall;have hiD:i < Dl.length:=by omega
    have:=hall Dl[i] (jAi (i:=i) (by rw[jBd hlt];exact jAe hiD));simpa[jAj,hiD]using this
 have close1:∀(g:G) (a:Act) (D:Nat->Bool),(∀i o,l[i]? =some o->D i=true->∀e∈o.after,Region.binds .any e=true->D e.on=true)->(∀i,m<=i->D i=false)->(∀i,i < m->fl.contains i=false->D i=true)->a.tmps.size=E.N->DokE E g.w a.defers->Sok E.S E.g0 g (objX D 0 az++σ)->
  (∀d,(∀i o,i < m->l[i]? =some o->o.dst≠some d)->Rel g (fr.get d) (a.tmps.getD d undef))->
  (∀i o c d,i < m->D i=true->l[i]? =some o->cs[i]? =some c->o.dst=some d->Rel g c (a.tmps.getD d undef))->JDX E T l m q fl cs az fr σ frJ σJ K D a g.w:=by
  intro g a D hcl hge hdone hsz hdf hso hf0 hfD;have hlen:((List.range l.length).map D).length=l.length:=by simp
  have hbits:∀i,i < l.length->D i=((List.range l.length).map D).getD i false:=by intro i hi;simp[jAj,hi]
  have hmem2:(List.range l.length).map D∈kAb m fl l.length 0:=kBb l.length 0 _ hlen (fun j hj hmj=>by rw[<-hbits j hj];exact hge j (by omega)) (fun j hj hmj hc=>by rw[<-hbits j hj];rw[jCc]at hmj hc;exact hdone j hmj hc);obtain ⟨ls2,h1,h2⟩:=Yva hl _ hmem2;refine enter2 g a D _ _ σ' fuel ls2 hcl hlen hbits (fun i hi=>hge i (by omega)) ⟨fun d=>?_,hsz,hdf,?_⟩ h1 (fun p hp=>hle p (h2 p hp))
  .by_cases hex2:∃j o',j < m/\l[j]? =some o' /\o'.dst=some d
   .obtain ⟨j,o',hj,q1,q2⟩:=hex2;obtain ⟨c',hc'⟩:∃c,cs[j]? =some c:=⟨cs[j]'(by omega),jAe (by omega)⟩;have hmk:=kDb (cs:=cs) (bs:=(List.range l.length).map D) (by rw[hlen];omega) j c' hc';rw[hB _ j o' _ d hj q1 hmk q2,<-hbits j (by omega)];cases hD:D j with
    | false=>exact .any _
    | true=>exact hfD j o' c' d hj hD q1 hc' q2
   rw[hA _ d (fun j o' hj q1 q2=>hex2 ⟨j,o',hj,q1,q2⟩)];exact hf0 d (fun j o' hj q1 q2=>hex2 ⟨j,o',hj,q1,q2⟩)
  have e:objX D 0 az=objX (fun _=>true) 0 az:=Vka az 0 (fun j x hj=>by
   rw[jCc];have hjm:j < m:=by have:=(jAd.1 hj).1;omega
   exact hdone j hjm (hflz j x hj))
  rw[<-hσ,<-e];exact hso
 refine ⟨fun g a hst=>?_⟩;have hst0:=hst.drew;refine v0a hmix hlb (JDX E T l m q fl cs az fr σ frJ σJ K) ?_ ?_ ?_
 .have hso0:Sok E.S E.g0 ⟨g.w.drew,g.u,g.loc⟩ (objX (fun _=>false) 0 az++σ):=hst0.so.le (fun o ob ho=>by rw[<-Kga (D:=fun _=>false) az 0 (fun _ _ _=>rfl)];exact ho);by_cases hex:∃i,i < m/\fl.contains i=false
  .obtain ⟨i,hi1,hi2⟩:=hex;exact ⟨fun i o _ hd=>by simp at hd,.inl ⟨⟨g.w.drew,g.u,g.loc⟩,rfl,fun _ _=>rfl,⟨i,hi1,hi2,rfl⟩,hst0.n,hst0.df,hso0,fun d _=>hst0.fr d,fun i o c d _ hd=>by simp at hd⟩⟩
  exact close1 ⟨g.w.drew,g.u,g.loc⟩ a (fun _=>false) (fun i o _ hd=>by simp at hd) (fun _ _=>rfl) (fun i h1 h2=>absurd ⟨i,h1,h2⟩ hex) hst0.n hst0.df hso0 (fun d _=>hst0.fr d) (fun i o c d _ hd=>by simp at hd)
 .rintro D a w ⟨_,⟨g,_,_,⟨i,hi,_,hd⟩,_⟩ | ⟨s,hs1,hs2,hs3,hs4⟩ | ⟨Dl,_,_,_,_,_,_,hlen,hbits,_,hall2,_⟩⟩ hall
  .rw[hall i (by simp;omega)]at hd;cases hd
  .have:s=l.length:=by
    rcases jAu s l.length with h1 | h1
    .have:=(hs2 s h1).1 (hall s (by simpa using h1));omega
    omega
   subst this;rw[List.drop_length]at hs4;exact hs4
  exfalso;have:(Dl.take q).all _root_.id=true:=by
   rw[jAp];intro x hx;obtain ⟨i,hi,rfl⟩:=List.mem_iff_getElem.1 (List.mem_of_mem_take hx);have h1:=hbits i (by omega);rw[hall i (by simp;omega)]at h1;simp only[jAj,jAe hi,jCn]at h1;simp[<-h1]
  rw[this]at hall2;cases hall2
 rintro D a w i o ⟨hcl,hJ⟩ ho hDi he;have ho' :l[i]? =some o:=by simpa using ho
 have hil:i < l.length:=(jAd.1 ho').1;have hcl' :∀i' o',l[i']? =some o' ->upd D i i' =true->∀e∈o'.after,Region.binds .any e=true->upd D i e.on=true:=by
  intro i' o' h1 h2 e h3 h4;unfold upd at h2 ⊢;split
  .rfl
  split at h2
  .rename_i hii;subst hii;rw[ho']at h1;cases h1;exact he e h3 h4
  exact hcl i' o' h1 h2 e h3 h4
 rcases hJ with ⟨g,rfl,hge,⟨i0,hi0,hfl0,hd0⟩,hsz,hdf,hso,hf0,hfD⟩ | ⟨s,hs1,hs2,hs3,hs4⟩ | ⟨Dl,fr2,σ2,g,n,ls2,rfl,hlen,hbits,hge,hall2,hst2,htree,hls2⟩
 .have him:i < m:=by
   rcases jAu i m with h1 | h1
   .exact h1
   have:=hsuf' i o hcl h1 ho' he i0 (by omega) (.inr hfl0);rw[hd0]at this;cases this
  obtain ⟨c,hc⟩:∃c,cs[i]? =some c:=⟨cs[i]'(by omega),jAe (by omega)⟩;have hslot:∀d,(∃j o' ,j < m/\l[j]? =some o' /\o'.dst=some d/\D j=true)∨(∀j o',j < m->l[j]? =some o' ->o'.dst≠some d)->Rel g ((new++fr).get d) (a.tmps.getD d undef):=by
   rintro d (⟨j,o',hj,ho1,hd1,hD1⟩ | hno)
   .obtain ⟨c',hc'⟩:∃c,cs[j]? =some c:=⟨cs[j]'(by omega),jAe (by omega)⟩;rw[<-hnew,hB cs j o' c' d hj ho1 hc' hd1];exact hfD j o' c' d hj hD1 ho1 hc' hd1
   rw[<-hnew,hA cs d hno];exact hf0 d hno
  have hops:∀x∈o.op.operands,Rel g ((new++fr).ev x) (a.eval x):=by
   intro x hx;cases x with
   | const v=>exact vUa g v
   | global q=>exact .pv (.b rfl)
   | func f=>exact .fn (by simp) (by simp) (fun i c h=>by simp at h) (fun i c h=>by simp at h)
   | tmp t=>
    refine hslot t ?_;by_cases hex:∃j o',j < m/\l[j]? =some o' /\o'.dst=some t
    .obtain ⟨j,o',hj,ho1,hd1⟩:=hex;have h1:=hdat o (hmem i o him ho') t (by simp only[Wsa,jCy];exact ⟨.tmp t,by simpa using hx,rfl⟩) j (by simpa using hj);simp only[jBr,bne_iff_ne,ne_eq]at h1;rcases h1 with h1 | h1
     .exact absurd (by rw[ho1];simpa using hd1) h1
     exact .inl ⟨j,o',hj,ho1,hd1,hdir he h1⟩
    exact .inr fun j o' hj ho1 hd1=>hex ⟨j,o',hj,ho1,hd1⟩
  have hguard:∀j want d,o.guard=some (j,want)->(l.toArray[j]?).bind (·.dst)=some d->Rel g ((new++fr).get d) (a.tmps.getD d undef):=by
   intro j want d hg hj;have h1:=hgrd o (hmem i o him ho');rw[hg]at h1;have hDj:=hdir he h1;have hjm:j < m:=by
    rcases jAu j m with h2 | h2
    .exact h2
    rw[hge j h2]at hDj;cases hDj
   cases hoj:l[j]? with
   | none=>rw[jBk,hoj]at hj;cases hj
   | some o' =>
    rw[jBk,hoj]at hj;exact hslot d (.inl ⟨j,o',hjm,hoj,by simpa using hj,hDj⟩)
  have hafter:∀(g' :G) (v:Value) (d:Nat),o.dst=some d->Old (fun _=>False) g g' ->Sok E.S E.g0 g' (objX (upd D i) 0 az++σ)->(∀c v,Rel g c v->(∀k,k∈idX az->az[i]?.bind (fun x=>x.map (·.1))=some k->c.has k=false)->Rel g' c v)->Rel g' c v->JDX E T l m q fl cs az fr σ frJ σJ K (upd D i) (a.put o.dst v) g'.w:=by
   intro g' v d hd hold hso' hmono0 hv;have hdN:d < E.N:=by
    rw[jAp]at hN;have:=hN o (hmem i o him ho');rw[hd]at this;exact jAf (by simpa using this)
   have hget:∀d',(a.put o.dst v).tmps.getD d' undef=if d=d' then v else a.tmps.getD d' undef:=by
    intro d';rw[hd];simp only[Act.put];rw[k4a];by_cases h1:d=d'
    .rw[if_pos ⟨h1,by omega⟩,if_pos h1]
    rw[if_neg (fun x=>h1 x.1),if_neg h1]
   have hsz' :(a.put o.dst v).tmps.size=E.N:=by rw[hd];simp[Act.put,hsz]
   have hdf' :DokE E g'.w (a.put o.dst v).defers:=by rw[hd];exact hdf.mono hold.ext
   have hF0:∀d',(∀i o,i < m->l[i]? =some o->o.dst≠some d')->Rel g' (fr.get d') ((a.put o.dst v).tmps.getD d' undef):=by
    intro d' hno;rw[hget,if_neg (by rintro rfl;exact hno i o him ho' hd)];exact hmono0 _ _ (hf0 d' hno) (fun k hk _=>by
     cases hx:(fr.get d').has k with
     | false=>rfl
     | true=>have:=Fr.has_get hx;rw[(hids' k hk).1]at this;cases this)
   have hFD:∀i' o' c' d',i' < m->upd D i i' =true->l[i']? =some o' ->cs[i']? =some c' ->o'.dst=some d' ->Rel g' c' ((a.put o.dst v).tmps.getD d' undef):=by
    intro i' o' c' d' hi' hD' h1 h2 h3;by_cases hii:i' =i
    .subst hii;rw[ho']at h1;cases h1;rw[hc]at h2;cases h2;rw[hd]at h3;cases h3;rw[hget,if_pos rfl];exact hv
    have hD1:D i' =true:=by unfold upd at hD';rwa [if_neg hii]at hD'
    have hne:d≠d' :=by
     rintro rfl;exact hdist' i' i o' o hi' him h1 ho' hii (h3.trans hd.symm)
    rw[hget,if_neg hne];refine hmono0 _ _ (hfD i' o' c' d' hi' hD1 h1 h2 h3) (fun k hk hki=>?_);obtain ⟨x,hx⟩:∃x,az[i']? =some x:=⟨az[i']'(by omega),jAe (by omega)⟩;refine hcs' i' c' x h2 hx k hk (fun id ds hxe hik=>?_);subst hxe;subst hik;cases hai:az[i]? with
    | none=>rw[hai]at hki;cases hki
    | some y=>
     rw[hai]at hki;cases y with
     | none=>cases hki
     | some y=>
      obtain ⟨id2,ds2⟩:=y;simp at hki;subst hki;exact hii (zJb hdist2 hx hai)
   have hge' :∀i',m<=i' ->upd D i i' =false:=by
    intro i' hi';unfold upd;rw[if_neg (by omega)];exact hge i' hi'
   by_cases hex:∃i',i' < m/\fl.contains i' =false/\upd D i i' =false
   .exact ⟨hcl',.inl ⟨g',rfl,hge',hex,hsz',hdf',hso',hF0,hFD⟩⟩
   refine close1 g' _ _ hcl' hge' (fun i' h1 h2=>?_) hsz' hdf' hso' hF0 hFD;cases h3:upd D i i' with
   | true=>rfl
   | false=>exact absurd ⟨i',h1,h2,h3⟩ hex
  obtain ⟨d,hd⟩:∃d,o.dst=some d:=by
   have:=hsome o (hmem i o him ho');cases hd:o.dst with
   | none=>rw[hd]at this;cases this
   | some d=>exact ⟨d,rfl⟩
  unfold wpOpIn;rw[ho];simp only;have hyes:kta l.toArray (new++fr) o->Region.wanted o (yielded l.toArray a.tmps)=true:=by
   intro hg;cases hg with
   | plain h1=>simp[Region.wanted,h1]
   | @yes j d' want t h1 h2 h3 h4=>
    have hr:=hguard j want d' h1 h2;rw[h3]at hr;have hy:yielded l.toArray a.tmps j=some t:=by
     unfold yielded;rw[h2];simp only[jAc];have h5:=yka hr;cases hx:a.tmps[d']? with
     | none=>rw[jAg,hx]at h5;simp[undef]at h5
     | some x=>rw[jAg,hx]at h5;simp at h5;rw[h5]
    have h6:(yielded l.toArray a.tmps j==some want)=true:=by rw[hy,h4];cases want <;> rfl
    simp only[Region.wanted,h1,h6]
  have hsame:az[i]? =some none->objX (upd D i) 0 az=objX D 0 az:=fun hn=>Vka az 0 (fun j x hj=>by
   rw[jCc];unfold upd;rw[if_neg (by rintro rfl;rw[hn]at hj;cases hj)])
  rcases hp.get (i:=i) (by rw[htake i him];exact ho') hc with ⟨hg,hop,has⟩ | ⟨hg,rfl,has⟩ | ⟨hg,id,ob,hop,has⟩
  .have hw:=hyes hg;simp only[hw,if_true];exact hop.go g a _ _ hops (hso.le (hsub D)) fun g' v h1 h2 h3 h4=>hafter g' v d hd h1 (by rw[hsame has];exact hso.grow h1 h2 (fun k _=>by rw[h3])) (fun c v hr _=>hr.mono h1.ext (fun k _=>by rw[h3])) h4
  .have hw:Region.wanted o (yielded l.toArray a.tmps)=false:=by
    cases hg with
    | @no j d' want t h1 h2 h3 h4=>
     have hr:=hguard j want d' h1 h2;rw[h3]at hr;have hy:yielded l.toArray a.tmps j=some t:=by
      unfold yielded;rw[h2];simp only[jAc];have h5:=yka hr;cases hx:a.tmps[d']? with
      | none=>rw[jAg,hx]at h5;simp[undef]at h5
      | some x=>rw[jAg,hx]at h5;simp at h5;rw[h5]
     have h6:(yielded l.toArray a.tmps j==some want)=false:=by rw[hy,h4];cases want <;> rfl
     simp only[Region.wanted,h1,h6]
    | @none j d' want h1 h2 h3=>
     have hr:=hguard j want d' h1 h2;rw[h3]at hr;have hy:yielded l.toArray a.tmps j=none:=by
      unfold yielded;rw[h2];simp only[jAc];cases hx:a.tmps[d']? with
      | none=>rfl
      | some x=>rw[jAg,hx]at hr;simp only[jCn]at hr;cases hr;rfl
     have h6:(yielded l.toArray a.tmps j==some want)=false:=by rw[hy];rfl
     simp only[Region.wanted,h1,h6]
   simp only[hw];exact ⟨fun _ _=>trivial,hafter g undef d hd (Old.refl _ g) (by rw[hsame has];exact hso) (fun c v hr _=>hr) (.tup rfl (fun i c hi=>by simp at hi))⟩
  have hw:=hyes hg;simp only[hw,if_true];have hidm:=vhb has;have hst1:St E g a [] (objX D 0 az++σ):=⟨fun _=>.any _,hsz,hdf,hso⟩;refine hop.go g a _ _ _ hops hst1 (zKb (hids' id hidm).2.1 az 0 (fun j id' c hj=>hcells' j id' c hj id hidm)) (hcells' i id ob has id hidm) fun g' v hold hloc hso2 hv=>hafter g' v d hd hold ?_ ?_ hv
  .refine hso2.le fun o' ob ho1=>?_
   rw[Sto.get_cons];rcases JRa (σ:=σ) (D:=upd D i) az hdist2 o' with ⟨j,c',h1,h2,h3⟩ | ⟨h1,h2⟩
   .by_cases hji:j=i
    .subst hji;rw[has]at h2;simp at h2;obtain ⟨rfl,rfl⟩:=h2;rw[if_pos rfl,<-ho1,h3]
    have hne:id≠o' :=by rintro rfl;exact hji (zJb hdist2 h2 has)
    rw[if_neg hne,<-ho1,h3];have hDj:D j=true:=by unfold upd at h1;rwa [if_neg hji]at h1
    exact Vja az 0 j hdist2 h2 (by simpa using hDj)
   have hne:id≠o' :=by
    rintro rfl;have:=h1 i _ has;simp[upd]at this
   rw[if_neg hne,<-ho1,h2];refine Kga az 0 (fun j c' hj=>?_);rw[jCc];have h3:=h1 j c' hj;unfold upd at h3;split at h3
   .cases h3
   exact h3
  intro c v hr hk;refine hr.mono hold.ext (fun k hck=>hloc k ?_);rintro rfl;have:=hk k hidm (by rw[has];rfl);rw[this]at hck;cases hck
 .have hil:i < l.length:=(jAd.1 ho').1;have his:s<=i:=by
   rcases jAu i s with h1 | h1
   .rw[(hs2 i hil).2 h1]at hDi;cases hDi
   exact h1
  have hsi:i=s:=by
   rcases jAu s i with h1 | h1
   .have:=hsuf' i o hcl (by omega) ho' he s h1 (.inl (by omega));have:=(hs2 s (by omega)).1 this;omega
   omega
  subst hsi;have hdrop:l.drop i=o::l.drop (i+1):=by
   rw[jCg hil]
   congr 1
   exact (jAd.1 ho').2
  rw[hdrop]at hs4;unfold wpOpIn;rw[ho];simp only[wpListIn]at hs4 ⊢;have hJ' :∀a' w',wpListIn (fen E.rd) 0 E.P l.toArray (Ends E K) (l.drop (i+1)) a' w' ->JDX E T l m q fl cs az fr σ frJ σJ K (upd D i) a' w' :=by
   intro a' w' hw';refine ⟨hcl',.inr (.inl ⟨i+1,by omega,fun i' hi' =>?_,by omega,hw'⟩)⟩;unfold upd;split
   .rename_i hii;subst hii;simp
   rename_i hii;rw[hs2 i' hi'];omega
  split
  .rename_i hw;rw[if_pos hw]at hs4;exact Oper.wpIn_mono hJ' hs4
  rename_i hw;rw[if_neg hw]at hs4;exact ⟨hs4.1,hJ' _ _ hs4.2⟩
 have hnq:i < q:=by
  rcases jAu i q with h1 | h1
  .exact h1
  exfalso;have:(Dl.take q).all _root_.id=true:=by
   rw[jAp];intro x hx;obtain ⟨j,hj,rfl⟩:=List.mem_iff_getElem.1 hx;have hjq:j < q:=by simp at hj;omega
   have hjl:j < Dl.length:=by simp at hj;omega
   have h2:=hsuf' i o hcl (by omega) ho' he j (by omega) (.inl h1);rw[hbits j (by omega)]at h2;simp only[List.getElem_take];simpa[jAj,hjl]using h2
  rw[this]at hall2;cases hall2
 have hready:i∈krb l Dl:=by
  simp only[krb,List.mem_filter,jDf];refine ⟨hil,?_⟩;unfold readyB;rw[ho'];simp only[jAn,jBv,jAp,jBr];refine ⟨by rw[<-hbits i hil];exact hDi,fun e he1=>?_⟩;cases hb:Region.binds .any e with
  | false=>exact .inl rfl
  | true=>
   refine .inr ?_;have h1:=he e (by simpa using he1) hb;have hlt:=Qxa hlb ho e (by simpa using he1) hb;rw[<-hbits e.on (by omega)];exact h1
 have hnext:∀k,k < l.length->upd D i k=(Dl.set i true).getD k false:=by
  intro k hk;unfold upd;simp only[jAj,List.getElem?_set];by_cases hki:k=i
  .subst hki;simp[hlen,hk]
  rw[if_neg hki,if_neg (Ne.symm hki),<-jAj];exact hbits k hk
 cases n with
 | zero=>unfold Ywa at htree;cases htree
 | succ n=>
  unfold Ywa at htree;rw[hall2]at htree;obtain ⟨b,h1,h2⟩:=Yva htree i hready;rw[ho']at h1;simp only at h1;cases hgd:v9b l fr2 o.guard with
  | none=>rw[hgd]at h1;cases h1
  | some bw=>
   have hw:=zLb hst2 hgd;rw[hgd]at h1;cases bw with
   | true=>
    dsimp only at h1;cases hdo:opDo T E.N o fr2 σ2 with
    | none=>rw[hdo]at h1;cases h1
    | some r=>
     rw[hdo]at h1;obtain ⟨fr3,σ3⟩:=r;unfold wpOpIn;rw[ho];simp only[hw,if_true];exact (zHb hT hdo).go g a _ _ hst2 fun g' a' hst3=>enter2 g' a' _ _ _ _ n b hcl' (by simp[hlen]) hnext (fun k hk=>by unfold upd;rw[if_neg (by omega)];exact hge k hk) hst3 h1 (fun p hp=>hls2 p (h2 p hp))
   | false=>
    dsimp only at h1;unfold wpOpIn;rw[ho];simp only[hw];exact ⟨fun _ _=>trivial,enter2 g _ _ _ _ _ n b hcl' (by simp[hlen]) hnext (fun k hk=>by unfold upd;rw[if_neg (by omega)];exact hge k hk) hst2.putUndef h1 (fun p hp=>hls2 p (h2 p hp))⟩
section
variable {E:Env} {fr:Fr} {σ:Sto} {k:KS} {ops:Array Oper} {T:Tab} {c:AV} {t ty:TypeId} {pos:String} {af:Array Edge} {row:Yua}
theorem drX{id:Nat}{l:List Oper}(m q fuel cnt:Nat)(fl:List Nat)(new:Fr){cs:List AV}{az:ObX}{σ' :Sto}(frJ:Fr)(σJ:Sto)(hT:zDa E.P T)(hmix:E.P.follows .mixedOrders=true)(hok:VXa l m q fl=true)(hm:Nat.ble m q=true)(hq:Nat.ble q l.length=true)
 (hN:((l.take m).all fun o=>o.dst.all fun d=>Nat.ble (d+1) E.N)=true)
 (hp:wMa E l.toArray (new++fr) σ (l.take m) cs az) (hfl:(fl.all fun f=>match az[f]? with | some none=>true | _=>false)=true) (hfree:wZb fr σ cs az=true) (hσ:objX (fun _=>true) 0 az++σ=σ') (hnew:wKa (l.take m) cs []=new)
 (hl:(Yxa T E.N l m q fl fuel cs fr σ').map (fun ls=>ls.map fun p=>(frJ.map p.1.sel,σJ.map p.2.sel))=some (List.replicate cnt (frJ,σJ.map fun p=>some p.2))) (h:(GS.ops l.toArray (l.drop q) frJ σJ k).holds E):(GS.code (.region id l.toArray true) fr σ k).holds E:=by
 cases hls:Yxa T E.N l m q fl fuel cs fr σ' with
 | none=>rw[hls]at hl;cases hl
 | some ls=>
  rw[hls]at hl;simp only[jCw,Option.some.injEq]at hl;refine JSa m q fuel fl new frJ σJ hT hmix hok hm hq hfl hN hp hfree hσ hnew hls (fun p hp=>?_) h;have h1:(frJ.map p.1.sel,σJ.map p.2.sel)∈List.replicate cnt (frJ,σJ.map fun p=>some p.2):=by rw[<-hl];exact jCe.2 ⟨p,hp,rfl⟩
  rw[List.mem_replicate]at h1;have h2:=Prod.mk.inj h1.2;exact ⟨frw h2.1,stw h2.2⟩
theorem pqX{o:Oper}{l:List Oper}{cs:List AV}{az:ObX}(hT:zDa E.P T)(hq:qval T fr.ev σ o.op=some c)(hg:kta ops fr o)(hr:wMa E ops fr σ l cs az):wMa E ops fr σ (o::l) (c::cs) (none::az):=.run hg (zGa (Kfa hT hq)) hr
theorem pnX{d:Nat}{gu:Option (Nat × Bool)}{l:List Oper}{cs ds:List AV}{az:ObX}(id:Nat)(hT:zDa E.P T)(ht:T.get t=some row)(hz:wLa (row.zero.cells.toList.map qXa)=some ds)(hz2:row.zero.cells.toList.all cellV=true)(hg:kta ops fr ⟨some d,.alloc t,ty,pos,af,gu⟩)(hr:wMa E ops fr σ l cs az):wMa E ops fr σ (⟨some d,.alloc t,ty,pos,af,gu⟩::l) (.ptr id 0::cs) (some (id,.cells ds)::az):=
 .new id hg (kzb (hT _ _ ht).ty (qla hz) hz2) hr
end
end
section
section
variable {P:Program} {dst:Option Tmp} {ty:TypeId} {pos:String} {af:Array Edge} {gu:Option (Nat × Bool)} {ρ:Operand->AV} {σ:Sto}
variable {t e:TypeId} {size bytes ss sb len:Nat} {zero sz:Value} {d:TypeDesc} {x y:Operand} {k:IntKind} {n:Int}
theorem Yya{ps:List (Nat × Operand)}{z cs:List AV}(ht:TyOk P t ss sb sz (.array len e))(he:TyOk P e size bytes zero d)
 (hz:(qXa sz).cells=some z∨sz.cells.toList.map qXa=z/\sz.cells.toList.all cellV=true) (hc:Jja (fun i=>some (i * size,size)) z (ps.map fun p=>(p.1,ρ p.2))=some cs):EvQ P ⟨dst,.build t ps.toArray,ty,pos,af,gu⟩ ρ σ (.agg cs):=
 ⟨fun c=>by simp,fun g ρv hh _=>by
  obtain ⟨out,h1,h2⟩:=Yma (g:=g) (ps.map fun p=>(p.1,ρ p.2)) (ps.map fun p=>(p.1,ρv p.2)) z sz.cells cs (JKa g sz hz) (by simp) (fun i p v hp hv=>by
   simp only[jAk,jAh]at hp hv;obtain ⟨q,hq,rfl⟩:=hp;obtain ⟨q',hq',rfl⟩:=hv;rw[hq]at hq';cases hq';refine ⟨rfl,hh q.2 ?_⟩;simp only[Op.operands]
   grind) hc
  refine ⟨.agg out,?_,.agg h2.n h2.c h2.r⟩;show Sem.run P (do let v <-Instr.build t (ps.toArray.map fun (i,x)=>(i,ρv x));pure (Next.value v)) g.w=_;simp only[Instr.build,underlying,program,jAr,Sem.run,ht.u,ht.zeroValue,jAo,jAv,he.sizeOf]
  simp_all⟩
theorem vjb{α:Type}{f:α->List PV}{L:List α}{a:α}{p:PV}(hx:ρ x=.agg (L.flatMap fun a=>(f a).map AV.pv))(hy:ρ y=.pv (.b (.int k n)))(ht:TyOk P t ss sb sz (.array len e))(he:TyOk P e 1 bytes zero d)(hd:dAgg d=false)
 (hl:L.length=len) (hz:∀a,(f a).length=1) (hi:idx L n=some a) (hp:f a=[p]):EvQ P ⟨dst,.index t x y,ty,pos,af,gu⟩ ρ σ (.pv p):=
 ⟨fun c=>by simp,fun g ρv h _=>by
  obtain ⟨h1,h2⟩:=ops2 (o:=⟨dst,.index t x y,ty,pos,af,gu⟩) (x:=x) (y:=y) rfl h;rw[hx]at h1;rw[hy]at h2;have e2:=zKa h2;obtain ⟨h0,hc⟩:=wza hi;have hlt:n.toNat < L.length:=(jAd.1 hc).1;generalize hv:ρv x=v at h1;cases h1 with
  | @agg _ vs hn hcv hr=>
   have hg:=Zva hz L n.toNat 0 a p hc (by simp_all);simp only[jCz,jBy]at hg;have hsz:n.toNat < vs.size:=by rw[hn];exact (jAd.1 hg).1
   refine ⟨vs.getD n.toNat undef,?_,hr _ _ hg⟩;simp only[execOp,Instr.index,hv,e2,asIntOf,underlying,program,jAr,Sem.run,ht.u,jAo,jAv,he.sizeOf,jCz];rw[if_pos ⟨h0,by omega⟩];simp only[jAr,he.sizeOf,jAo,jCz,Zua he hd hsz]
   done⟩
end
end
section
variable {P:Program} {ρ:Operand->AV} {σ:Sto} {dst:Option Tmp} {ty:TypeId} {pos:String} {af:Array Edge} {gu:Option (Nat × Bool)}
theorem rel_ifc{g:G}{b:Bool}{v:Value}(h:Rel g (.ifc b) v):(b=false/\v=.nilIface)∨(b=true/\∃t x,v=.iface t x):=by
 cases h with
 | ifc h=>
  cases v with
  | nilIface=>exact .inl ⟨by simpa[ifcV]using h.symm,rfl⟩
  | iface t x=>exact .inr ⟨by simpa[ifcV]using h.symm,t,x,rfl⟩
  | _=>cases h
theorem eq_ifc{ms:Array (String × TypeId)}{t:TypeId}{v:Value}{b:Bool}(ht:P.underlying t=some (.interface ms))(h:(b=false/\v=.nilIface)∨(b=true/\∃t x,v=.iface t x)):EqOk P t v .nilIface (!b):=⟨fun d w=>by
 unfold Op.equalIn;rcases h with ⟨rfl,rfl⟩ | ⟨rfl,t1,x1,rfl⟩ <;> simp only[jAr,underlying,program,Sem.run,ht,jAo,jAv,jDo,jBo]⟩
theorem jsb{op:BinOp}{t:TypeId}{x:Operand}{v:Value}{b:Bool}(h:(b=false/\v=.nilIface)∨(b=true/\∃t x,v=.iface t x)):eqGuard op t x (.const .nilIface) v .nilIface=pure ():=by
 rcases h with ⟨rfl,rfl⟩ | ⟨rfl,t1,x1,rfl⟩
 .cases op <;> cases x <;> rfl
 cases op <;> rfl
theorem ev_ifneq{t t' :TypeId}{x:Operand}{b:Bool}{ss sb:Nat}{sz:Value}{ms:Array (String × TypeId)}(hx:ρ x=.ifc b)(hy:ρ (.const .nilIface)=.pv (.b .nilIface))(ht:TyOk P t ss sb sz (.interface ms)):EvQ P ⟨dst,.binOp .neq t x (.const .nilIface) t',ty,pos,af,gu⟩ ρ σ (.bo b):=
 ⟨fun c=>by simp,fun g ρv h _=>by
  obtain ⟨h1,h2⟩:=ops2 (o:=⟨dst,.binOp .neq t x (.const .nilIface) t',ty,pos,af,gu⟩) (x:=x) (y:=.const .nilIface) rfl h;rw[hx]at h1;rw[hy]at h2;have e2:=zKa h2;have hi:=rel_ifc h1;refine ⟨.bool b,?_,.pv (.b rfl)⟩;show Sem.run P (do let v <-(do eqGuard .neq t x (.const .nilIface) (ρv x) (ρv (.const .nilIface));binOp .neq t (ρv x) (ρv (.const .nilIface)));pure (Next.value v)) g.w=_;rw[e2,jsb hi];have he:Sem.run P (Op.equal t (ρv x) .nilIface) g.w=.ok (!b) g.w:=(eq_ifc ht.u hi).run 9999 g.w;generalize ρv x=v at *;rcases hi with ⟨rfl,rfl⟩ | ⟨rfl,t1,x1,rfl⟩ <;> simp[binOp,jAr,he,jAv]⟩
end
section
mutual
def AV.epS(o:Nat)(cs:List PV):AV->AV
 | .ptr o' off=>bif Nat.beq o' o then (bif Nat.ble off cs.length then .ep (cs.drop off) else .any) else .ptr o' off
 | .agg l=>.agg (AV.epL o cs l)
 | .tup l=>.tup (AV.epL o cs l)
 | .fn f a c=>.fn f (AV.epL o cs a) (AV.epL o cs c)
 | .ls o' =>bif Nat.beq o' o then .any else .ls o'
 | c=>c
def AV.epL(o:Nat)(cs:List PV):List AV->List AV
 | []=>[]
 | c::l=>c.epS o cs::AV.epL o cs l
end
theorem AV.epL_eq(o:Nat)(cs:List PV)(l:List AV):AV.epL o cs l=l.map (AV.epS o cs):=by
 induction l with
 | nil=>rfl
 | cons c l ih=>unfold AV.epL;simp_all
def Fr.epS(o:Nat)(cs:List PV):Fr->Fr
 | []=>[]
 | (k,c)::r=>(k,c.epS o cs)::Fr.epS o cs r
theorem Fr.get_epS(o:Nat)(cs:List PV)(fr:Fr)(d:Nat):(fr.epS o cs).get d=(fr.get d).epS o cs:=by
 induction fr with
 | nil=>simp[Fr.epS,Fr.get,AV.epS]
 | cons x r ih=>
  obtain ⟨k,c⟩:=x;unfold Fr.epS;rw[Fr.get_cons,Fr.get_cons,ih]
  grind
theorem rel_epS{g g' :G}{o b:Nat}{cs:List PV}{vs:Array Value}{t:TypeId}{fz:Nat × Nat}(hl:g.loc o=.blk b)(hb:g.w.heap[b]? =some (.cells vs t fz))(hn:vs.size=cs.length)
 (hc:∀i c,cs[i]? =some c->RelP g.w g.u c (vs.getD i undef)) (hx:Ext g.w g.u g'.w g'.u) (hh:g'.w.heap[b]? =g.w.heap[b]?) (hu:g'.u b=cs.length) (hloc:∀k,k≠o->g'.loc k=g.loc k)
 {c:AV} {v:Value} (h:Rel g c v):Rel g' (c.epS o cs) v:=by
 induction h with
 | any v=>exact .any v
 | pv h=>exact .pv (h.mono hx)
 | agg hl2 hc2 h ih=>
  unfold AV.epS;rw[AV.epL_eq];refine .agg (by grind) hc2 fun i c hi=>?_
  grind
 | tup hl2 h ih=>
  unfold AV.epS;rw[AV.epL_eq];refine .tup (by grind) fun i c hi=>?_
  grind
 | @ptr o' off b' h1=>
  unfold AV.epS;cases hbq:Nat.beq o' o with
  | false=>
   have hk:o' ≠o:=fun e=>by simp_all
   rw[cond_false];exact .ptr ((hloc o' hk).trans h1)
  | true=>
   have hk:o' =o:=jAl hbq;subst hk;rw[hl]at h1;cases h1;rw[cond_true];cases hle:Nat.ble off cs.length with
   | false=>exact .any _
   | true=>
    have hle:=jAf hle;rw[cond_true];refine .ep (fun i=>vs.getD (off+i) undef) (by simp_all) ?_ (fun i hi=>?_) (fun i c hi=>?_)
    .grind
    .have hi' :off+i < vs.size:=by simp at hi;omega
     simp only[World.cell?,hh,hb]
     simp_all
    rw[jBu]at hi;exact (hc _ c hi).mono hx
 | ep val h1 h2 h3 h4=>exact (Rel.ep (g:=g) val h1 h2 h3 h4).mono hx (fun o' ho' =>by cases ho')
 | @hsNil r a h1=>
  by_cases hk:r=o
  .simp_all
  exact .hsNil a ((hloc r hk).trans h1)
 | @hs r b1 off cap size n a h1 h2=>
  by_cases hk:r=o
  .simp_all
  exact .hs ((hloc r hk).trans h1) h2
 | @hp r idx j b1 off cap size n h1 h2=>
  by_cases hk:r=o
  .simp_all
  exact .hp ((hloc r hk).trans h1) h2
 | @fn f first captured fv cv h1 h2 hf hc2 ihf ihc=>
  unfold AV.epS;rw[AV.epL_eq,AV.epL_eq];refine .fn (by grind) (by grind) (fun i c hi=>?_) (fun i c hi=>?_);all_goals grind
 | @mp o' b1 h1=>
  by_cases hk:o' =o
  .simp_all
  exact .mp ((hloc o' hk).trans h1)
 | @hsubNil r lo a h1=>
  by_cases hk:r=o
  .simp_all
  exact .hsubNil a ((hloc r hk).trans h1)
 | @hsub r lo b1 off cap size n a h1 h2 h3=>
  by_cases hk:r=o
  .simp_all
  exact .hsub ((hloc r hk).trans h1) h2 h3
 | z0 a=>exact .z0 a
 | ifc h=>exact .ifc h
 | @hpreNil r a h1=>
  by_cases hk:r=o
  .simp_all
  exact .hpreNil a ((hloc r hk).trans h1)
 | @hpre r hi b1 off cap size n a h1 h2 h3=>
  by_cases hk:r=o
  .simp_all
  exact .hpre ((hloc r hk).trans h1) h2 h3
 | @nsNil r a h1=>
  by_cases hk:r=o
  .simp_all
  exact .nsNil a ((hloc r hk).trans h1)
 | @ns r b1 off cap size n size2 subs a h1 h2=>
  by_cases hk:r=o
  .simp_all
  exact .ns ((hloc r hk).trans h1) h2
 | @np r idx j b1 off cap size n size2 subs h1 h2=>
  by_cases hk:r=o
  .simp_all
  exact .np ((hloc r hk).trans h1) h2
 | @hnNil r idx b1 off cap size n size2 subs a cap2 h1 h2=>
  by_cases hk:r=o
  .simp_all
  exact .hnNil a cap2 ((hloc r hk).trans h1) h2
 | @hn r idx b1 off cap size n size2 b2 off2 cap2 n2 subs h1 h2=>
  by_cases hk:r=o
  .simp_all
  exact .hn ((hloc r hk).trans h1) h2
 | @hnp r idx k j b1 off cap size n size2 b2 off2 cap2 n2 subs h1 h2 h3=>
  by_cases hk:r=o
  .simp_all
  exact .hnp ((hloc r hk).trans h1) h2 h3
 | nn h=>exact .nn h
 | @ls r b1 h1=>
  unfold AV.epS;cases hbq:Nat.beq r o with
  | true=>exact .any _
  | false=>
   have hk:r≠o:=fun e=>by simp_all
   exact .ls ((hloc r hk).trans h1)
 | @mr r b1 subs h1=>
  by_cases hk:r=o
  .simp_all
  exact .mr ((hloc r hk).trans h1)
variable {P:Program} {σ:Sto} {dst:Option Tmp} {ty:TypeId} {pos:String} {af:Array Edge} {gu:Option (Nat × Bool)} {E:Env} {fr:Fr} {K:Post}
theorem St.pubbox{g:G}{a:Act}{o:Nat}{cs:List PV}(h:St E g a fr σ)(ho:σ.get o=some (.cells (cs.map .pv)))(hd:(σ.del o).has o=false):∃g',g'.w=g.w/\St E g' a (fr.epS o cs) (σ.del o):=by
 have hob:=h.so.obj o _ ho;generalize hls:cs.map AV.pv=ls at hob;cases hob with
 | @cells _ b t vs hl hb hn hu hcv hrel=>
  subst hls;have hbl:=zVa hb;have hx:Ext g.w g.u g.w (fun k=>if k=b then cs.length else g.u k):=⟨jAm _,fun k _=>by grind,fun _ _ _ _=>rfl,fun _ h=>h⟩;have hsub:∀o' ob b',σ.get o' =some ob->ob.own (g.loc o') b' ->o' ≠o->b' ≠b:=by
   rintro o' ob b' ho' hb' hne rfl;exact hne (h.so.apart o' o ob _ b' ho' ho hb' (by rw[hl];rfl))
  have hget:∀o' ob,(σ.del o).get o' =some ob->o' ≠o/\σ.get o' =some ob:=by
   intro o' ob h1;rw[Sto.get_del]at h1;split at h1
   .cases h1
   simp_all
  have hcells:∀i c,cs[i]? =some c->RelP g.w g.u c (vs.getD i undef):=fun i c hi=>by
   have:=hrel i (.pv c) (by grind);cases this with
   | pv h=>exact h
  refine ⟨⟨g.w,fun k=>if k=b then cs.length else g.u k,g.loc⟩,rfl,⟨fun d=>?_,h.n,h.df,⟨?_,?_,?_,?_,?_⟩⟩⟩
  .rw[Fr.get_epS];exact rel_epS (g' :=⟨g.w,fun k=>if k=b then cs.length else g.u k,g.loc⟩) hl hb (by simp_all) hcells hx rfl (if_pos rfl) (fun _ _=>rfl) (h.fr d)
  .intro o' ob h1;obtain ⟨h2,h3⟩:=hget o' ob h1;exact (h.so.obj o' ob h3).mono hx rfl (fun _ _=>rfl) fun b' hb' =>⟨rfl,if_neg (hsub o' ob b' h3 hb' h2)⟩
  .intro o1 o2 ob1 ob2 b1 h1 h2;exact h.so.apart o1 o2 ob1 ob2 b1 (hget o1 ob1 h1).2 (hget o2 ob2 h2).2
  .intro o1 ob1 b1 h1;exact h.so.mine o1 ob1 b1 (hget o1 ob1 h1).2
  .refine h.so.old.trans ⟨rfl,rfl,rfl,hx,fun k hk hs=>⟨rfl,if_neg ?_⟩⟩;rintro rfl;rcases h.so.mine o _ k ho (by rw[hl];rfl) with h1 | h1
   all_goals simp_all
  intro k hk;show (if k=b then cs.length else g.u k)=0;rw[if_neg (by grind)];exact h.so.wf k hk
theorem vkb{ops:Array Oper}{ol:List Oper}(o:Nat){cs:List PV}(ho:σ.get o=some (.cells (cs.map .pv)))(hd:(σ.del o).has o=false)(h:AWPL E ops ol (fr.epS o cs) (σ.del o) K):AWPL E ops ol fr σ K:=
 ⟨fun g a hst=>by
  obtain ⟨g',hw,hst'⟩:=hst.pubbox ho hd;have:=h.go g' a hst'
  simp_all⟩
theorem jtb{f:FuncId}{fx:Operand}{xs:List Operand}{ats:Array TypeId}{args cap:List AV}{r:AV}(hfx:fr.ev fx=.fn (.func f) [] cap)(hr:Run E.P f args r)(ha:xs.map (fun x=>(fr.ev x).weak)++cap=args):
 OpG E ⟨dst,.call ⟨.value fx,xs.toArray,ats⟩,ty,pos,af,gu⟩ fr σ r:=
 ⟨fun g a K Q hx hs hK=>by
  obtain ⟨fn,c,hok⟩:=hr.ok;have hfv:Rel g (.fn (.func f) [] cap) (a.eval fx):=by rw[<-hfx];exact hx fx (by simp[Op.operands,Call.operands])
  generalize hv:a.eval fx=fv at hfv;cases hfv with
  | @fn _ _ _ v1 v2 h1 h2 hf hc=>
   have e1:v1= #[]:=jBw h1;subst e1;refine ⟨fun _ _=>trivial,?_⟩;rw[jAz _ _ _ (fun c=>by simp),vFa hok hv,jDd];refine ⟨fun h=>by simp[fen]at h,?_⟩;have hargs:wma g args (#[]++xs.toArray.map a.eval++v2):=by
    subst ha;refine ⟨by grind,fun i c hi=>?_⟩;by_cases hlt:i < xs.length
    .rw[jAy (by simp_all)]at hi;simp only[jAk,jAh]at hi;obtain ⟨x,hx',rfl⟩:=hi;have:=qUa (hx x (by simp[Op.operands,Call.operands];grind));rw[jAg,jAw (by simp_all)]
     simp_all
    rw[jAq (by simp_all)]at hi;have:=hc _ c hi;rw[jAg,jCs (by simp_all),<-jAg]
    simp_all
   refine (vEa (hr.run g _ hs.wf (E.glOf hs) hargs)).mono ?_
   grind⟩
end
section
open Go.ChangeShapes Go.WideShapes Go.ChangeAt Go.RowKit Go.Proofs.Tryz
def uAll(W:World)(k:Nat):Nat:=match W.heap[k]? with
 | some (.cells vs _ _)=>vs.size
 | _=>0
theorem jub{W:World}{b i:Nat}{v:Value}(h:W.cell? ⟨b,i,none⟩=some v):i < uAll W b/\b < W.heap.size:=by
 unfold World.cell? at h;simp only[Option.isSome_none,jAs,if_false]at h;split at h
 .rename_i c t z hb;refine ⟨?_,(jBh.1 hb).1⟩;unfold uAll;rw[hb];exact (jBh.1 h).1
 cases h
def gAll(W:World):G:=⟨W,uAll W,fun _=>.none⟩
theorem wf_all(W:World):Wf (gAll W):=fun k hk=>by
 show uAll W k=0;unfold uAll;have:W.heap[k]? =none:=Array.getElem?_eq_none hk;rw[this]
structure RelC (W:World) (ps:List PV) (cs:List Value):Prop where
 len:cs.length=ps.length
 rel:∀(i:Nat) (c:PV),ps[i]? =some c->RelP W (uAll W) c (cs.getD i undef)
theorem Vla{W:World}{p:PV}{v:Value}(h:RelP W (uAll W) p v):RelC W [p] [v]:=⟨rfl,fun i c hi=>by
 cases i with
 | zero=>simp at hi;subst hi;exact h
 | succ i=>simp at hi⟩
theorem vlb{W:World}{p1 p2:List PV}{cs:List Value}{n:Nat}(hn:n=p1.length)(h1:RelC W p1 (cs.take n))(h2:RelC W p2 (cs.drop n)):RelC W (p1++p2) cs:=by
 subst hn;have l1:=h1.len;have l2:=h2.len;simp at l1 l2;refine ⟨by simp;omega,fun i c hi=>?_⟩;rcases jAu i p1.length with hlt | hge
 .rw[jAy hlt]at hi;have:=h1.rel i c hi;simpa[jAj,List.getElem?_take,hlt]using this
 rw[jAq hge]at hi;have:=h2.rel _ c hi;simp only[jAj,jBu]at this ⊢
 rwa [show p1.length+(i - p1.length)=i by omega]at this
structure Yza (P:Program) (t:TypeId) {T:Type} (n:Nat) (pc:T->List PV) (ok:T->Prop) (bk:T->Nat):Prop where
 cells:P.cellsOf t=n
 len:∀x,(pc x).length=n
 op:∀{H:Type} {enc:TypeId × Value->H} {W:World} {fuel:Nat} {cs:List Value} {d:DataW H × List MemPlace},DataW.trod enc P W 0 (fun _=>true) true fuel t cs=some d->
  ∃x:T,RelC W (pc x) cs/\ok x/\bk x<=Rows.uptoBulk d.1
def ok64(n:Int):Prop:= -9223372036854775808<=n/\n<=9223372036854775807
def jZa(s:Str):Prop:=s.length<=maxLen
def okL{T:Type}(ok:T->Prop)(l:List T):Prop:=l.length<=maxLen/\∀x∈l,ok x
def bkL{T:Type}(bk:T->Nat):List T->Nat
 | []=>1
 | x::r=>bk x+bkL bk r
variable {P:Program} {t e:TypeId}
theorem opens_U(ht:P.underlying t=some (.int .u8))(hc:P.cellsOf t=1):Yza P t 1 cU (fun _=>True) (fun _=>1):=⟨hc,fun _=>rfl,fun {H enc W fuel cs d} h=>by
 obtain ⟨n,rfl,rfl,hw⟩:=DataW.trod_int ht h;have hw:0<=n/\n<=255:=by simpa[Lit.wf,IntKind.min,IntKind.max,IntKind.signed,IntKind.bits]using hw
 refine ⟨UInt8.ofNat n.toNat,Vla ?_,trivial,by simp[Rows.uptoBulk]⟩;have:((UInt8.ofNat n.toNat).toNat:Int)=n:=by
  rw[jCm];omega
 show RelP W (uAll W) (.b (.int .u8 _)) _;rw[this];exact .b rfl⟩
theorem opens_S(ht:P.underlying t=some .string)(hc:P.cellsOf t=1):Yza P t 1 cS jZa (fun s=>s.length+1):=⟨hc,fun _=>rfl,fun {H enc W fuel cs d} h=>by
 obtain ⟨s,rfl,rfl,hw⟩:=DataW.trod_string ht h;refine ⟨s.data.toList,Vla ?_,?_,?_⟩
 .have:strB s.data.toList=s:=by cases s;simp[strB]
  show RelP W (uAll W) (.b (.string (strB s.data.toList))) _;rw[this];exact .b rfl
 .show s.data.toList.length<=maxLen;have:s.data.toList.length=s.size:=by cases s;rfl
  omega
 simp[Rows.uptoBulk]⟩
theorem bkL_map{T:Type}{H:Type}{bk:T->Nat}(n:Nat)(X:Nat->T)(D:Nat->DataW H)(h:∀i,i < n->bk (X i)<=Rows.uptoBulk (D i)):bkL bk ((List.range n).map X)<=Rows.uptoBulkAll ((List.range n).map D)+1:=by
 suffices h' :∀l:List Nat,(∀i∈l,i < n)->bkL bk (l.map X)<=Rows.uptoBulkAll (l.map D)+1 from h' _ (fun i hi=>jDf.1 hi)
 intro l;induction l with
 | nil=>intro _;simp[bkL]
 | cons i l ih=>
  intro hl;have h1:=h i (hl i (List.mem_cons_self ..));have h2:=ih fun j hj=>hl j (List.mem_cons_of_mem _ hj)
  simp only[jDm,bkL,Rows.uptoBulkAll];omega
theorem jvb{T:Type}[Inhabited T]{n:Nat}{pc:T->List PV}{ok:T->Prop}{bk:T->Nat}(h:Yza P e n pc ok bk)(hn:Nat.blt 0 n=true)(ht:P.underlying t=some (.slice e))(hc:P.cellsOf t=1):Yza P t 1 (cL pc) (okL ok) (bkL bk):=⟨hc,fun _=>rfl,fun {H enc W fuel cs d} hd=>by
 have hn:0 < n:=jAf hn;rcases Go.Deep.open_slice ht hd with ⟨rfl,rfl⟩ | ⟨a,len,cap,m,n',D,Pl,rfl,hb,hl,hm,hmm,rfl,hx⟩
 .refine ⟨[],Vla (RelP.sl (a:=none) (cap:=0) 1 0 0 (fun _=>undef) (fun x hx=>by cases hx) (fun _=>⟨rfl,rfl⟩) (by simp) (by simp) (by simp) (by simp) (fun i hi=>by simp at hi) (fun i j e c hi=>by simp at hi)),⟨jBi _,by simp⟩,by simp[bkL,Rows.uptoBulk]⟩
 simp only[if_true]at hmm;subst hmm;obtain ⟨X,hX⟩:=Go.Deep.choose_lt (n:=len) (p:=fun i (x:T)=>∃cs',W.cells? 0 (a.add (i * P.cellsOf e)) (P.cellsOf e)=some cs' /\RelC W (pc x) cs' /\ok x/\bk x<=Rows.uptoBulk (D i)) (fun i hi=>by
  obtain ⟨cs',h1,h2⟩:=hx i (by omega);obtain ⟨x,h3,h4,h5⟩:=h.op h2;exact ⟨x,cs',h1,h3,h4,h5⟩)
 rw[h.cells]at hX;have hcell:∀i j,i < len->j < n->∃v,W.cell? (a.add (i * n+j))=some v/\∀c,(pc (X i))[j]? =some c->RelP W (uAll W) c v:=by
  intro i j hi hj;obtain ⟨cs',h1,h2,_⟩:=hX i hi;obtain ⟨_,hlen,hget⟩:=World.cells?_some h1;have hj' :=hget j hj;have hadd:(a.add (i * n)).add j=a.add (i * n+j):=by
   unfold Addr.add;by_cases h0:j=0
   .simp[h0]
   by_cases h00:i * n=0
   .simp[h0,h00]
   rw[if_neg h0,if_neg h00,if_neg (by omega)];simp[Nat.add_assoc]
  rw[hadd]at hj';have hlt:j < cs'.length:=by omega
  refine ⟨cs'[j],by rw[hj'];exact jAe hlt,fun c hc' =>?_⟩;have:=h2.rel j c hc';simpa[jAj,jAe hlt]using this
 by_cases h0:len=0
 .subst h0;refine ⟨[],Vla (RelP.sl (elems:=[]) (a:=some a) (cap:=m) 1 0 0 (fun _=>undef) (fun x hx=>by cases hx) (fun hx=>by cases hx) (by simp) (by simp) (by simp) (by simp) (fun i hi=>by simp at hi) (fun i j e c hi=>by simp at hi)),⟨jBi _,by simp⟩,by simp[bkL,Rows.uptoBulk]⟩
 obtain ⟨b,off,spot⟩:=a;have hspot:spot=none:=by
  obtain ⟨v,hv,_⟩:=hcell 0 0 (by omega) hn;simpa[Addr.add]using World.cell?_spot hv
 subst hspot;have hadd:∀i,(⟨b,off,none⟩:Addr).add i=⟨b,off+i,none⟩:=by
  intro i;unfold Addr.add;by_cases h0:i=0
  .simp[h0]
  simp[h0]
 simp only[hadd]at hcell;have hdm:∀i j,j < n->(i * n+j) / n=i/\(i * n+j) % n=j:=by
  intro i j hj;rw[Nat.mul_comm,Nat.mul_add_div hn,Nat.mul_add_mod];exact ⟨by rw[Nat.div_eq_of_lt hj];rfl,Nat.mod_eq_of_lt hj⟩
 have hcv:∀k,k < len * n->∃v,W.cell? ⟨b,off+k,none⟩=some v/\∀c,(pc (X (k / n)))[k % n]? =some c->RelP W (uAll W) c v:=by
  intro k hk;have h1:k / n < len:=Nat.div_lt_of_lt_mul (by rw[Nat.mul_comm];exact hk);have h2:k % n < n:=Nat.mod_lt _ hn;have:=hcell (k / n) (k % n) h1 h2
  rwa [show k / n * n+k % n=k by rw[Nat.mul_comm];exact Nat.div_add_mod k n]at this
 obtain ⟨V,hV⟩:=Go.Deep.choose_lt (α:=Value) hcv;refine ⟨(List.range len).map X,?_,⟨by simp;omega,?_⟩,?_⟩
 .have key:RelP W (uAll W) (.sl none (((List.range len).map X).map pc)) (.slice (some ⟨b,off,none⟩) (((List.range len).map X).map pc).length m):=by
   refine .sl n b off V (fun x hx=>by cases hx) (fun hx=>by cases hx) (by simpa using hl) (fun e he=>?_) (fun _=>rfl) (fun _=>?_) (fun i hi=>?_) (fun i j e' c hi hj=>?_)
   .simp only[List.map_map,jCe]at he;obtain ⟨i,_,rfl⟩:=he;exact h.len _
   .simp only[jAx,List.length_range];have hpos:0 < len * n:=Nat.mul_pos (by omega) hn;obtain ⟨hv,_⟩:=hV (len * n - 1) (by omega);obtain ⟨h1,h2⟩:=jub hv;exact ⟨by omega,h2⟩
   .exact (hV i (by simpa using hi)).1
   simp only[jAk,List.map_map]at hi;rw[jAh]at hi;obtain ⟨i',hi',rfl⟩:=hi;obtain ⟨hlt,rfl⟩:=jAd.1 hi';simp only[List.length_range]at hlt;simp only[List.getElem_range,Function.comp]at hj;have hjn:j < n:=by have:=(jAd.1 hj).1;rw[h.len]at this;exact this
   have hk:i * n+j < len * n:=by
    have:=jBc n (show i+1<=len from hlt);rw[jBn]at this;omega
   have:=(hV _ hk).2 c;rw[(hdm i j hjn).1,(hdm i j hjn).2]at this;exact this hj
  have hl' :(((List.range len).map X).map pc).length=len:=by simp
  rw[hl']at key;exact Vla key
 .intro x hx;simp only[jCe,jDf]at hx;obtain ⟨i,hi,rfl⟩:=hx;obtain ⟨_,_,_,h4,_⟩:=hX i hi;exact h4
 have:=bkL_map len X D (fun i hi=>by obtain ⟨_,_,_,_,h5⟩:=hX i hi;exact h5);simp only[Rows.uptoBulk];omega⟩
theorem arg_agg{T:Type}{n:Nat}{pc:T->List PV}{ok:T->Prop}{bk:T->Nat}(h:Yza P t n pc ok bk){H:Type}{enc:TypeId × Value->H}{W:World}{v:Value}{d:DataW H}{ps:List MemPlace}(hv:∃cs,v=.agg cs)(hd:DataW.Trod enc P W 0 (fun _=>true) true t v d ps):
 ∃x,Rel (gAll W) (.agg ((pc x).map .pv)) v/\ok x/\bk x<=Rows.uptoBulk d:=by
 obtain ⟨cs,rfl⟩:=hv;obtain ⟨fuel,hf⟩:=hd;obtain ⟨x,h1,h2,h3⟩:=h.op hf;refine ⟨x,?_,h2,h3⟩;have hl:=h1.len;simp only[Value.cells,jBt]at hl;have hr:∀(i:Nat) (c:PV),(pc x)[i]? =some c->RelP W (uAll W) c (cs.getD i undef):=fun i c hi=>by
  have:=h1.rel i c hi;simpa[Value.cells,jAj,jAg]using this
 refine .agg (by simpa using hl) (fun i hi=>?_) (fun i c hi=>?_)
 .have hlt:i < (pc x).length:=by omega
  exact (hr i _ (jAe hlt)).cellV
 simp only[jAk,jAh]at hi;obtain ⟨c',hc,rfl⟩:=hi;exact .pv (hr i c' hc)
theorem kEb{f:FuncId}{args:List AV}(h:Run P f args (.pv (pB true))){W:World}{vs:Array Value}(hgl:Gl (gAll W))(ha:wma (gAll W) args vs):Calls P f vs W fun e W' =>e=.returned (.bool true)/\Below W.heap.size W W' :=by
 refine callsIn_wide.1 ((h.run (gAll W) vs (wf_all W) hgl ha).mono ?_);rintro e w' ⟨g',v,rfl,hl,ho,hw,rfl,hv⟩;refine ⟨by rw[yka hv],⟨ho.os,ho.tape,ho.output,ho.ext.size,fun k hk=>(ho.block k hk (by simp)).1⟩⟩
theorem W8a{W:World}{p1 p2:List PV}{cs:List Value}{off n:Nat}(hn:n=p1.length)(h1:RelC W p1 ((cs.drop off).take n))(h2:RelC W p2 (cs.drop (off+n))):RelC W (p1++p2) (cs.drop off):=vlb hn h1 (by rw[List.drop_drop];exact h2)
theorem wab{W:World}{cs:List Value}{k:Nat}(h:cs.length=k):RelC W [] (cs.drop k):=⟨by simp[h],fun i c hi=>by simp at hi⟩
inductive RelL (g:G):List AV->List Value->Prop
 | nil:RelL g [] []
 | cons {c:AV} {v:Value} {cs:List AV} {vs:List Value} (h:Rel g c v) (r:RelL g cs vs):RelL g (c::cs) (v::vs)
theorem w0b{g:G}{cs:List AV}{vs:List Value}(h:RelL g cs vs):wma g cs vs.toArray:=by
 have key:vs.length=cs.length/\∀(i:Nat) (c:AV),cs[i]? =some c->Rel g c (vs.getD i undef):=by
  induction h with
  | nil=>exact ⟨rfl,fun i c hi=>by simp at hi⟩
  | cons h _ ih=>
   refine ⟨by simp[ih.1],fun i c hi=>?_⟩;cases i with
   | zero=>simp at hi;subst hi;exact h
   | succ i=>exact ih.2 i c (by simpa using hi)
 exact ⟨by simpa using key.1,fun i c hi=>by have:=key.2 i c hi;simpa[jAj]using this⟩
end
section
def Blk(w:World)(b:Nat)(t:TypeId)(cs:Array Value):Prop:=w.heap[b]? =some (.cells cs t (0,0))
theorem Blk.lt{w:World}{b:Nat}{t:TypeId}{cs:Array Value}(h:Blk w b t cs):b < w.heap.size:=by
 rcases jAu b w.heap.size with hlt | hge
 .exact hlt
 unfold Blk at h;rw[Array.getElem?_eq_none hge]at h;cases h
theorem Blk.two{w:World}{b:Nat}{t:TypeId}{x y:Value}(h:Blk w b t #[x,y]):
 w.cell? ⟨b,0,none⟩=some x/\w.cell? ⟨b,1,none⟩=some y/\w.frozen? ⟨b,0,none⟩=false/\w.frozen? ⟨b,1,none⟩=false/\b < w.heap.size:=by
 refine ⟨?_,?_,?_,?_,h.lt⟩ <;> unfold Blk at h <;> simp[World.cell?,World.frozen?,h]
theorem Blk.new(w:World)(t:TypeId)(cs:Array Value):Blk (w.alloc (.cells cs t)) w.heap.size t cs:=heap_alloc_new w _
theorem Blk.alloc{w:World}{b:Nat}{t:TypeId}{cs:Array Value}(h:Blk w b t cs)(o:Obj):Blk (w.alloc o) b t cs:=(Below.heap_alloc w o b h.lt).trans h
theorem Blk.below{w w' :World}{b:Nat}{t:TypeId}{cs:Array Value}{B:Nat}(h:Blk w b t cs)(hb:Below B w w')(hg:b < B):Blk w' b t cs:=(hb.block b hg).trans h
section
variable {w1 w2:World} {b t:Nat} {cs:Array Value} {o:Obj}
end
end
section
open Go.ChangeShapes Go.WideShapes Go.ChangeAt Go.RowKit Go.Proofs.Tryz
open Go.ChangeMaps (open_string shut_string)
theorem own:ownKnob prog.godebug=none:=by kernel_rfl
theorem laidOut:laidOutB prog=true:=by kernel_rfl
theorem Vma{H:Type}{enc:TypeId × Value->H}{P:Program}(hl:laidOutB P=true){W W' :World}(hb:Below W.heap.size W W'):
 ∀(ts:List TypeId) (vs:List Value) (ds:List (DataW H)) (ps:List MemPlace),(ts.all fun t=>P.readableRec t && decide (t < P.types.size))=true->
  DataW.TrodAll enc P W 0 (fun _=>true) true ts vs ds ps->DataW.TrodAll enc P W' 0 (fun b=>decide (b < W.heap.size)) true ts vs ds ps
 | [],[],[],_,_,h=>h
 | t::ts,v::vs,d::ds,ps,hts,⟨p,q,h,hs,e⟩=>by
  simp only[List.all_cons,jAn,decide_eq_true_eq]at hts;have lt:∀x∈p,x.block < W.heap.size:=by obtain ⟨m,hm⟩:=h;exact DataW.trod_lt m _ _ _ hm
  exact ⟨p,q,Below.trod hl hts.1.1 hts.1.2 h hb lt,Vma hl hb ts vs ds q hts.2 hs,e⟩
theorem jwb{H:Type}{enc:TypeId × Value->H}{P:Program}{f:Func}{s:ChangeSpec}{t:TypeId}(hl:laidOutB P=true)(hres:f.resultTypes= #[t])(ht:P.underlying t=some .bool)
 (hts:(f.params.toList.all fun t=>P.readableRec t && decide (t < P.types.size))=true) {W W' :World} {args:Array Value} {ds gs:List (DataW H)} {before:List MemPlace} (hv:s.vars=[])
 (hspec:s.fn H (ds++gs)={results:=[.lit (.bool true)],args:=ds,vars:=[]})
 (hW:DataW.Whole enc P f.params.toList s.vars false W args.toList ds gs before) (hb:Below W.heap.size W W'):
 s.post enc P f false true false false W args (.bool true) W' :=by
 have hW' :=hW;obtain ⟨p,q,hA,hV,hbe,hfz,hnd⟩:=hW;refine ⟨ds,gs,before,[],p,[],hW',?_,?_,?_,?_,fun h=>by cases h⟩
 .rw[hspec,hres];exact trodAll_mk1 (shut_bool ht _)
 .rw[hspec];exact Vma hl hb _ _ _ _ hts hA
 .rw[hspec,hv];rfl
 have hq:q=[]:=by rw[hv]at hV;cases gs with
  | nil=>exact hV
  | cons g gs=>exact hV.elim
 refine World.keptBut_mono (fun p hp=>⟨hp,?_⟩) (hb.frame (· ∈before));rw[hbe,hq,jDc]at hp;exact .inr (.inl hp)
end
section
open Go.WideShapes
def jf0(P:Program)(f:FuncId)(fn:Func)(s:ChangeSpec)(c:OpenClaim):Bool:=c.wf (OpenSpec.ofChange s)
def jf1(P:Program)(f:FuncId)(fn:Func)(s:ChangeSpec)(c:OpenClaim):Bool:=laidOutB P
def jf2(P:Program)(f:FuncId)(fn:Func)(s:ChangeSpec)(c:OpenClaim):Bool:=mapsRowed P
def jf3(P:Program)(f:FuncId)(fn:Func)(s:ChangeSpec)(c:OpenClaim):Bool:=fn.params.all (P.readableRec ·)
def jf4(P:Program)(f:FuncId)(fn:Func)(s:ChangeSpec)(c:OpenClaim):Bool:=namedTie P c.named s.vars
def jf5(P:Program)(f:FuncId)(fn:Func)(s:ChangeSpec)(c:OpenClaim):Bool:=(c.stops==[])
def jf6(P:Program)(f:FuncId)(fn:Func)(s:ChangeSpec)(c:OpenClaim):Bool:=(P.stops==[])
def jf7(P:Program)(f:FuncId)(fn:Func)(s:ChangeSpec)(c:OpenClaim):Bool:=(c.knobs==[])
def jf8(P:Program)(f:FuncId)(fn:Func)(s:ChangeSpec)(c:OpenClaim):Bool:=(P.stopKnobs==[])
def jf9(P:Program)(f:FuncId)(fn:Func)(s:ChangeSpec)(c:OpenClaim):Bool:=(c.inPlace==P.inPlace f)
def jf10(P:Program)(f:FuncId)(fn:Func)(s:ChangeSpec)(c:OpenClaim):Bool:=(c.unfollowed==P.unfollowed f)
def jf11(P:Program)(f:FuncId)(fn:Func)(s:ChangeSpec)(c:OpenClaim):Bool:=(c.recurses==P.recurses f)
def jf12(P:Program)(f:FuncId)(fn:Func)(s:ChangeSpec)(c:OpenClaim):Bool:=(c.named==P.varsNamed f)
def jf13(P:Program)(f:FuncId)(fn:Func)(s:ChangeSpec)(c:OpenClaim):Bool:=(c.maps==(fn.params.toList++s.plain.varTypes P).any (P.mapsRec ·))
def jf14(P:Program)(f:FuncId)(fn:Func)(s:ChangeSpec)(c:OpenClaim):Bool:=(c.ifaces==(fn.params.toList++s.plain.varTypes P).any (P.ifacesRec ·))
def jf15(P:Program)(f:FuncId)(fn:Func)(s:ChangeSpec)(c:OpenClaim):Bool:=(c.mapsOut==P.mapsAmong fn.resultTypes.toList)
def jf16(P:Program)(f:FuncId)(fn:Func)(s:ChangeSpec)(c:OpenClaim):Bool:=(c.loops==(fn.params.toList++s.plain.varTypes P).any (P.loopsFrom ·))
def jf17(P:Program)(f:FuncId)(fn:Func)(s:ChangeSpec)(c:OpenClaim):Bool:=(c.wideKeys==(fn.params.toList++s.plain.varTypes P++fn.resultTypes.toList).any (P.wideKeysFrom ·))
def jf18(P:Program)(f:FuncId)(fn:Func)(s:ChangeSpec)(c:OpenClaim):Bool:=s.vars.all (P.varReadable ·)
def jf19(P:Program)(f:FuncId)(fn:Func)(s:ChangeSpec)(c:OpenClaim):Bool:=fn.resultTypes.all (fun t=>P.readableRec t && decide (t < P.types.size))
def jf20(P:Program)(f:FuncId)(fn:Func)(s:ChangeSpec)(c:OpenClaim):Bool:=(c.ifacesOut==fn.resultTypes.toList.any (P.ifacesRec ·))
def jf21(P:Program)(f:FuncId)(fn:Func)(s:ChangeSpec)(c:OpenClaim):Bool:=(c.loopsOut==fn.resultTypes.toList.any (P.loopsFrom ·))
def jf22(P:Program)(f:FuncId)(fn:Func)(s:ChangeSpec)(c:OpenClaim):Bool:=(c.plainKeys==P.plainKeys)
def jf23(P:Program)(f:FuncId)(fn:Func)(s:ChangeSpec)(c:OpenClaim):Bool:=c.shortTexts.isNone
def jf24(P:Program)(f:FuncId)(fn:Func)(s:ChangeSpec)(c:OpenClaim):Bool:=P.stopsHeard
def jf25(P:Program)(f:FuncId)(fn:Func)(s:ChangeSpec)(c:OpenClaim):Bool:=P.mayEnter
def jf26(P:Program)(f:FuncId)(fn:Func)(s:ChangeSpec)(c:OpenClaim):Bool:=(c.lifted==P.liftsFinal)
def jf27(P:Program)(f:FuncId)(fn:Func)(s:ChangeSpec)(c:OpenClaim):Bool:=(P.make==some c.make)
def jf28(P:Program)(f:FuncId)(fn:Func)(s:ChangeSpec)(c:OpenClaim):Bool:=(c.kinds==(if c.domain.isEmpty then [] else fn.params.toList.map fun t=>match P.underlying t with | some (.int k)=>some k | _=>none))
def jf29(P:Program)(f:FuncId)(fn:Func)(s:ChangeSpec)(c:OpenClaim):Bool:=(c.pinned==c.pinnedBy)
def jf30(P:Program)(f:FuncId)(fn:Func)(s:ChangeSpec)(c:OpenClaim):Bool:=(c.veiled==(fn.params.toList++s.plain.varTypes P++fn.resultTypes.toList).any (P.veiledRec ·))
def jf31(P:Program)(f:FuncId)(fn:Func)(s:ChangeSpec)(c:OpenClaim):Bool:=c.veiledFits P fn.params.toList (fn.params.toList++s.plain.varTypes P++fn.resultTypes.toList)
theorem jxb{P:Program}{f:FuncId}{fn:Func}{s:ChangeSpec}{c:OpenClaim}(h0:jf0 P f fn s c=true)(h1:jf1 P f fn s c=true)(h2:jf2 P f fn s c=true)(h3:jf3 P f fn s c=true)(h4:jf4 P f fn s c=true)(h5:jf5 P f fn s c=true)(h6:jf6 P f fn s c=true)(h7:jf7 P f fn s c=true)(h8:jf8 P f fn s c=true)(h9:jf9 P f fn s c=true)(h10:jf10 P f fn s c=true)(h11:jf11 P f fn s c=true)(h12:jf12 P f fn s c=true)(h13:jf13 P f fn s c=true)(h14:jf14 P f fn s c=true)(h15:jf15 P f fn s c=true)(h16:jf16 P f fn s c=true)(h17:jf17 P f fn s c=true)(h18:jf18 P f fn s c=true)(h19:jf19 P f fn s c=true)(h20:jf20 P f fn s c=true)(h21:jf21 P f fn s c=true)(h22:jf22 P f fn s c=true)(h23:jf23 P f fn s c=true)(h24:jf24 P f fn s c=true)(h25:jf25 P f fn s c=true)(h26:jf26 P f fn s c=true)(h27:jf27 P f fn s c=true)(h28:jf28 P f fn s c=true)(h29:jf29 P f fn s c=true)(h30:jf30 P f fn s c=true)(h31:jf31 P f fn s c=true):joinedFacts P f fn s c=true:=by
 unfold joinedFacts;simp only[jAn];exact ⟨⟨⟨⟨⟨⟨⟨⟨⟨⟨⟨⟨⟨⟨⟨⟨⟨⟨⟨⟨⟨⟨⟨⟨⟨⟨⟨⟨⟨⟨⟨h0,h1⟩,h2⟩,h3⟩,h4⟩,h5⟩,h6⟩,h7⟩,h8⟩,h9⟩,h10⟩,h11⟩,h12⟩,h13⟩,h14⟩,h15⟩,h16⟩,h17⟩,h18⟩,h19⟩,h20⟩,h21⟩,h22⟩,h23⟩,h24⟩,h25⟩,h26⟩,h27⟩,h28⟩,h29⟩,h30⟩,h31⟩
end
section
open Go.ChangeShapes Go.WideShapes Go.ChangeAt Go.RowKit Go.Lib Go.Proofs.Tryz
theorem jyb : "*" ++ "errors.errorString" = "*errors.errorString" := by decide
theorem errRow (u : TypeId) (h : prog.typeName? 3 u = some "*errors.errorString") : u = 349 :=
 typeName_ptr_named (nm := "errors.errorString") (by rw [jyb]; kernel_rfl) (by kernel_rfl) (by decide) u (by rw [jyb]; exact h)
abbrev laid7 (rest : List (String × DataW Unit)) : List (String × DataW Unit) := ("math/bits.deBruijn32tab", Rows.laid_math_bits_deBruijn32tab) :: ("math/bits.deBruijn64tab", Rows.laid_math_bits_deBruijn64tab) :: ("internal/strconv.uint64pow10", Rows.laid_internal_strconv_uint64pow10) :: ("unicode/utf8.acceptRanges", Rows.laid_unicode_utf8_acceptRanges) :: ("strconv.ErrRange", Rows.laid_strconv_ErrRange) :: ("strconv.ErrSyntax", Rows.laid_strconv_ErrSyntax) :: ("unicode/utf8.first", Rows.laid_unicode_utf8_first) :: rest
theorem yHa{W:World}{n:String}{g:Nat}{cs:Array Value}(hn:prog.globalNamed n=some g)(h:W.var? prog n=some cs):∃t fz,W.heap[g]? =some (.cells cs t fz):=by
 unfold World.var? at h;rw[hn]at h;simp only[jAc]at h;cases hh:W.heap[g]? with
 | none=>rw[hh]at h;cases h
 | some o=>
  rw[hh]at h;cases o with
  | cells cs t fz=>simp only[Option.some.injEq]at h;subst h;exact ⟨t,fz,rfl⟩
  | _=>simp at h
theorem Jla{P:Program}{w:World}{base:Nat}{sp:Nat->Bool}{held:Bool}{fuel:Nat}{t e b:TypeId}{n:Nat}{fs:Array Field}{cs:List Value}{zs:List (List Int)}{p:List MemPlace}
 (ht:P.underlying t=some (.array n e)) (he:P.underlying e=some (.struct fs)) (hf:∀(i:Nat) (f:Field),fs[i]? =some f->P.underlying f.type=some (.int .u8)/\f.offset=i/\P.cellsOf f.type=1) (h2:fs.size=2) (hce:P.cellsOf e=2) (hct:P.cellsOf t=n * 2)
 (hz:∀z∈zs,z.length=2) (hzn:zs.length=n)
 (h:DataW.trod (fun _=>()) P w base sp held fuel t cs=some (.agg (zs.map fun z=>.agg (z.map fun x=>.lit (.int .u8 x))),p)):cs=zs.flatMap fun z=>z.map fun x=>Value.int .u8 x:=by
 have hlen:cs.length=n * 2:=by
  cases fuel with
  | zero=>simp[DataW.trod]at h
  | succ fuel=>
   simp only[DataW.trod,ht]at h;split at h
   .rename_i hl;omega
   cases h
 have key:∀i,i < n->(cs.drop (i * 2)).take 2=(zs.getD i []).map fun x=>Value.int .u8 x:=by
  intro i hi;obtain ⟨fuel',d,q,hd,he'⟩:=array_elem ht h i hi;rw[hce]at he';obtain ⟨z,hzi⟩:∃z,zs[i]? =some z:=⟨_,jAe (by omega)⟩;rw[jAk,hzi]at hd;simp only[jCw,Option.some.injEq]at hd;subst hd;have:=ints_of_struct he hf (by rw[hce,h2]) he';rw[this];simp[List.getD,hzi]
 have hfl:∀(l:List (List Int)),(∀z∈l,z.length=2)->∀c:List Value,c.length=l.length * 2->(∀i,i < l.length->(c.drop (i * 2)).take 2=(l.getD i []).map fun x=>Value.int .u8 x)->c=l.flatMap fun z=>z.map fun x=>Value.int .u8 x:=by
  intro l;induction l with
  | nil=>intro _ c hc _;simpa using hc
  | cons z l ih=>
   intro hz c hc hk;have h0:=hk 0 (by simp);simp only[Nat.zero_mul,List.drop_zero]at h0;have hr:=ih (fun y hy=>hz y (List.mem_cons_of_mem _ hy)) (c.drop 2) (by rw[jCu,hc];simp;omega) (fun i hi=>by
    have:=hk (i+1) (by simp;omega);rw[List.drop_drop,show 2+i * 2=(i+1) * 2 by omega,this];rfl)
   rw[jCq,<-hr,<-show c.take 2=z.map fun x=>Value.int .u8 x from h0,List.take_append_drop]
 exact hfl zs hz cs (by omega) (fun i hi=>key i (by omega))
theorem vmb {W : World} {rest : List (String × DataW Unit)} (h : laidMet prog (("strconv.ErrRange", Rows.laid_strconv_ErrRange) :: rest) W) : ∃ tp x t fz, W.heap[7]? = some (.cells #[.iface tp x] t fz) := by
 have hn : prog.globalNamed "strconv.ErrRange" = some 7 := by kernel_rfl
 obtain ⟨a, s, hv, _⟩ := laid_sentinel (P := prog) (ti := 167) (tp := 349) (te := 351) (ts := 9) (ms := #[("Error", 170)]) (f := ⟨"s", 9, 0, false, "", "errors", 0⟩) h hn (by kernel_rfl) (by kernel_rfl) errRow (by kernel_rfl) (by kernel_rfl) rfl rfl (by kernel_rfl) (by kernel_rfl) (by kernel_rfl)
 obtain ⟨t,fz,hh⟩:=yHa hn hv;exact ⟨_,_,t,fz,hh⟩
theorem vnb {W : World} {rest : List (String × DataW Unit)} (h : laidMet prog (("strconv.ErrSyntax", Rows.laid_strconv_ErrSyntax) :: rest) W) : ∃ tp x t fz, W.heap[6]? = some (.cells #[.iface tp x] t fz) := by
 have hn : prog.globalNamed "strconv.ErrSyntax" = some 6 := by kernel_rfl
 obtain ⟨a, s, hv, _⟩ := laid_sentinel (P := prog) (ti := 167) (tp := 349) (te := 351) (ts := 9) (ms := #[("Error", 170)]) (f := ⟨"s", 9, 0, false, "", "errors", 0⟩) h hn (by kernel_rfl) (by kernel_rfl) errRow (by kernel_rfl) (by kernel_rfl) rfl rfl (by kernel_rfl) (by kernel_rfl) (by kernel_rfl)
 obtain ⟨t,fz,hh⟩:=yHa hn hv;exact ⟨_,_,t,fz,hh⟩
theorem vob{W:World}{rest:List (String × DataW Unit)}(h:W.ShapedOpen prog)(hn:((laid7 rest).all fun x=>x.2.handleName?.isNone)=true)(hL:laidMetH prog (laid7 rest) W):Gl (gAll W):=by
 have hm:laidMet prog (laid7 rest) W:=by
  have:=Go.MakeChecks.laidMetH_plain prog (laid7 rest) W hn;rw[<-this];exact hL
 refine ⟨fun p hp=>?_,fun p hp=>?_,fun k hk=>?_⟩
 .simp only[yKb,jDl,List.not_mem_nil,or_false]at hp;subst hp;obtain ⟨m,hm⟩:=cell_of_shapedOpen_int (P:=prog) (g:=1) (t:=3) (zero:= #[.int .i64 0]) h (of_decide_eq_true (by kernel_rfl)) (by kernel_rfl) rfl (by kernel_rfl) (by kernel_rfl) underlying3;obtain ⟨h1,h2⟩:=jub hm;exact ⟨h2,h1,m,hm⟩
 .simp only[wGb,jDl,List.not_mem_nil,or_false]at hp;rcases hp with rfl | rfl | rfl
  .have hT := Lib.tabIs_of_head (P := prog) (W := W) (name := "internal/strconv.uint64pow10") (k := .u64) (zs := Lib.pow10Tab) (g := 0) (t := 188) (e := 145) (n := 20) (by kernel_rfl) (by kernel_rfl) (by kernel_rfl) (by kernel_rfl) (by kernel_rfl) (by kernel_rfl) hm.tail.tail
   exact yHa (n := "internal/strconv.uint64pow10") (by kernel_rfl) hT
  .have hm6 : laidMet prog (("unicode/utf8.first", Lib.firstData) :: rest) W := by
    have h6:=hm.tail.tail.tail.tail.tail.tail;rw[show Rows.laid_unicode_utf8_first=Lib.firstData from Pinned.utf8First_eq]at h6;exact h6
   have hT := Lib.tabIs_of_head (P := prog) (W := W) (name := "unicode/utf8.first") (k := .u8) (zs := Lib.firstTab) (g := 2) (t := 257) (e := 5) (n := 256) (by kernel_rfl) (by kernel_rfl) (by kernel_rfl) (by kernel_rfl) (by kernel_rfl) (by kernel_rfl) hm6
   have e:(Lib.firstTab.map fun z=>Value.int .u8 z).toArray=zmb:=by kernel_rfl
   rw[<-e];exact yHa (n := "unicode/utf8.first") (by kernel_rfl) hT
  obtain ⟨g, t, cs, fuel, p, hg, hty, hvar, hd⟩ := laidMet.reads hm (n := "unicode/utf8.acceptRanges") (d := Rows.laid_unicode_utf8_acceptRanges) (by simp)
  have hg0 : prog.globalNamed "unicode/utf8.acceptRanges" = some 3 := by kernel_rfl
  obtain rfl:=Option.some.inj (hg0.symm.trans hg);have hty0:(prog.globals[3]?).map (·.type)=some 260:=by kernel_rfl
  obtain rfl:=Option.some.inj (hty0.symm.trans hty);have hd2:DataW.trod (fun _=>()) prog W 0 (fun _=>true) false fuel 260 cs.toList=some (.agg (((List.range 16).map fun i=>[(Lib.accLo i:Int),(Lib.accHi i:Int)]).map fun z=>.agg (z.map fun x=>.lit (.int .u8 x))),p):=hd;have hcs := Jla (P := prog) (b := 0) (e := 259) (n := 16) (by kernel_rfl) (fs := #[{ name := "lo", type := 5, offset := 0, embedded := false, tag := "", pkgPath := "unicode/utf8", byteOffset := 0 }, { name := "hi", type := 5, offset := 1, embedded := false, tag := "", pkgPath := "unicode/utf8", byteOffset := 1 }]) (by kernel_rfl) (fun i f hi => by
   match i,hi with
   | 0,hi=>simp at hi;subst hi;exact ⟨by kernel_rfl,rfl,by kernel_rfl⟩
   | 1,hi=>simp at hi;subst hi;exact ⟨by kernel_rfl,rfl,by kernel_rfl⟩
   | i+2,hi=>simp at hi) rfl (by kernel_rfl) (by kernel_rfl) (fun z hz=>by obtain ⟨i,_,rfl⟩:=jCe.1 hz;rfl) (by simp) hd2
  have e:cs=K2a:=by
   apply Array.ext';rw[hcs];unfold K2a;rw[List.flatMap_map];rfl
  rw[<-e];exact yHa hg0 hvar
 simp only[qSb,jDl,List.not_mem_nil,or_false]at hk;rcases hk with rfl | rfl
 .exact vnb hm.tail.tail.tail.tail.tail
 exact vmb hm.tail.tail.tail.tail
end
end Go.Proofs.YthbbeodmpnmopaaGreatDoor
