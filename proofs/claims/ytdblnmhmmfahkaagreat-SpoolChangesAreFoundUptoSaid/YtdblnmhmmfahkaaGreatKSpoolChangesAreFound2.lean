/- Part 2 of the proof of the law SpoolChangesAreFound: what it needs. -/
import Derived.Test.YtdblnmhmmfahkaaGreatKSpoolChangesAreFound1
import Derived.MapKept
import Derived.Laws.Cover3
import Derived.Laws.RangeAny
import Derived.Lib.AppendZeros
import Derived.Test.YtdblnmhmmfahkaaGreatRows
import Derived.ProofKit
import Derived.Deep.Slices
import Derived.WalkKit
import Derived.WalkSpells
import Derived.WalkLawsBesides
import Derived.Deep.QuietTactic
import Derived.BigQuiet
import Derived.Lib.Hide
import Derived.Handy
import Derived.Deep.RegionHeld3
import Derived.OpenShut
import Derived.ShutString
import Derived.ChangeOld
import Derived.Below
import Derived.JoinedCond
import Derived.HandedShaped
import Derived.Shelf.Vars
import Derived.Laws.MakeOwn
set_option linter.unusedVariables false
set_option linter.unusedSimpArgs false
set_option maxRecDepth 100000
set_option maxHeartbeats 40000000
namespace Go.Proofs.YtdblnmhmmfahkaaGreat
open Go.RowKit Go.Proofs.Tryz
section
open Go.RowKit Go.Lib Go.Proofs.Tryz
variable {E:Env} {fr:Fr} {σ:Sto} {K:Post} {P:Program} {ρ:Operand->AV}
variable {dst:Option Tmp} {ty:TypeId} {pos:String} {af:Array Edge} {gu:Option (Nat × Bool)}
theorem St.objset{g g' :G}{a:Act}(h:St E g a fr σ){r:Nat}{ob0 ob:AO}(hr:σ.get r=some ob0)(hx:Ext g.w g.u g'.w g'.u)(hl:g'.loc=g.loc)
 (hos:g'.w.os=g.w.os) (htape:g'.w.tape=g.w.tape) (hout:g'.w.output=g.w.output)
 (hb:∀b,b < g.w.heap.size->¬ob0.own (g.loc r) b->g'.w.heap[b]? =g.w.heap[b]? /\g'.u b=g.u b) (hwf:Wf g') (hob:RelO g' r ob)
 (hk:∀l,ob0.own l=ob.own l):St E g' a fr (σ.upd r ob):=by
 have hget:=Sto.get_upd (ob:=ob) hr;have hsome:∀k ob1,(σ.upd r ob).get k=some ob1->∃ob',σ.get k=some ob' /\∀l,ob'.own l=ob1.own l:=by
  intro k ob1 hk1;rw[hget]at hk1;split at hk1
  .rename_i hkr;cases hk1;exact ⟨ob0,hkr▸hr,hk⟩
  exact ⟨_,hk1,fun _=>rfl⟩
 refine ⟨fun d=>(h.fr d).mono hx (fun k _=>by rw[hl]),h.n,h.df.mono hx,⟨?_,?_,?_,?_,hwf⟩⟩
 .intro k ob1 hk1;rw[hget]at hk1;split at hk1
  .rename_i hkr;subst hkr;cases hk1;exact hob
  rename_i hkr;refine (h.so.obj k ob1 hk1).mono hx (by rw[hl]) (fun _ _=>by rw[hl]) fun b' hb' =>hb b' ((h.so.obj k ob1 hk1).block_lt hb') fun hc=>?_
  exact hkr (h.so.apart k r ob1 _ b' hk1 hr hb' hc)
 .intro k k' ob1 ob2 b' h1 h2 h3 h4;obtain ⟨_,e1,q1⟩:=hsome k ob1 h1;obtain ⟨_,e2,q2⟩:=hsome k' ob2 h2;rw[<-q1,hl]at h3;rw[<-q2,hl]at h4;exact h.so.apart k k' _ _ b' e1 e2 h3 h4
 .intro k ob1 b' h1 h2;obtain ⟨_,e1,q1⟩:=hsome k ob1 h1;rw[<-q1,hl]at h2;exact h.so.mine k _ b' e1 h2
 refine h.so.old.trans ⟨hos,htape,hout,hx,fun k hk1 hs=>hb k hk1 fun hc=>?_⟩;rcases h.so.mine r _ k hr hc with h1 | h1
 .exact hs (.inr h1)
 exact hs (.inl h1)
section
variable {α:Type} {F:α->List PV} {l:List α} {r size bytes sb ss k:Nat} {e t:TypeId} {mu:Bool} {zero sz:Value} {d:TypeDesc} {x y:Operand}
theorem qcb{lo hi:Option Operand}{p q:Int}{v:List α}(hN:Nat.ble (k+1) E.N=true)(hx:fr.ev x=.hs r 0)(hr:σ.get r=some (.row e mu size (l.map F)))
 (hlo:lo=none/\p=0∨∃o k,lo=some o/\fr.ev o=.pv (.b (.int k p))) (hhi:hi=none/\q=l.length∨mu=true/\∃o k,hi=some o/\fr.ev o=.pv (.b (.int k q)))
 (ht:TyOk E.P t ss sb sz (.slice e)) (he:TyOk E.P e size bytes zero d) (hv:cut l p q=some v):
 OpTo E ⟨some k,.slice t x lo hi none,ty,pos,af,gu⟩ fr σ ((k,.hs r 0)::fr.clr r) ((σ.clr r).upd r (.row e mu size (v.map F))):=
 ⟨fun g a K Q hst hK=>by
  obtain ⟨h0,h01,h02,rfl⟩:=Kta hv;refine ⟨fun _ _=>trivial,?_⟩;rw[jAy _ _ _ (fun c=>by simp)];have h1:=hst.ev x;rw[hx]at h1;have hob:=hst.so.obj r _ hr;have hlo' :lo.map a.eval=none/\p=0∨∃k,lo.map a.eval=some (.int k p):=by
   rcases hlo with ⟨rfl,rfl⟩ | ⟨o,k,rfl,ho⟩
   .exact .inl ⟨rfl,rfl⟩
   have h2:=hst.ev o;rw[ho]at h2;exact .inr ⟨k,by simp[kga h2]⟩
  have hhi' :hi.map a.eval=none/\q=l.length∨∃k,hi.map a.eval=some (.int k q):=by
   rcases hhi with ⟨rfl,rfl⟩ | ⟨_,o,k,rfl,ho⟩
   .exact .inl ⟨rfl,rfl⟩
   have h2:=hst.ev o;rw[ho]at h2;exact .inr ⟨k,by simp[kga h2]⟩
  have hrun:∀ad cap,a.eval x=.slice ad l.length cap->l.length<=cap->(execOp a.eval ⟨some k,.slice t x lo hi none,ty,pos,af,gu⟩).run E.P g.w=
   .ok (.value (.slice (if cap=p.toNat then ad else ad.map (·.add (p.toNat * size))) (q.toNat - p.toNat) (cap - p.toNat))) g.w:=by
   intro ad cap ev hcap;show Sem.run E.P (do let v <-Instr.sliceAt t (a.eval x) (lo.map a.eval) (hi.map a.eval) none;pure (Next.value v)) g.w=_;have hb:=vpa (P:=E.P) (w:=g.w) (len:=l.length) (cap:=cap) (lo:=lo.map a.eval) (hi:=hi.map a.eval) (a:=p) (b:=q) hcap hlo' hhi' h0 h01 h02;rw[ev];simp only[Instr.sliceAt,underlying,program,jAu,Sem.run,ht.u,jAr,jBd,Instr.slice,hb,he.sizeOf]
  have e1:(q - p).toNat=q.toNat - p.toNat:=by omega
  rw[e1]at hK;generalize hls:l.map F=ls at hob;cases hob with
  | nil hl=>
   obtain rfl:l=[]:=by simpa using hls
   have hp:p.toNat=0:=by simp at h02;omega
   have hq:q.toNat=0:=by simp at h02;omega
   generalize h1v:a.eval x=vx at h1;cases h1 with
   | hs h2=>rw[hl]at h2;cases h2
   | hsNil ax=>
    rw[hrun ax 0 h1v (by simp),jBb];have:=hst.row_upd (ob:=.row e mu size ((List.take (q.toNat - p.toNat) (List.drop p.toNat ([]:List α))).map F)) hr (Ext.refl _ _) (fun _ _=>rfl) rfl rfl rfl (fun _ _ _=>⟨rfl,rfl⟩) hst.so.wf (by simp;exact .nil hl) (fun b hb=>.inl hb);refine hK g _ (this.put (jAd hN) ?_);simp only[hp,hq,if_true,jDf];exact .hsNil _ hl
  | @row _ _ _ _ b off cap vs hl hb hn hm hle hz hu hmu hrel=>
   subst hls;simp only[jAx]at hl hle hu;have hlen:((l.drop p.toNat).take (q.toNat - p.toNat)).length=q.toNat - p.toNat:=by simp;omega
   generalize hev:a.eval x=vx at h1;cases h1 with
   | hsNil ax h2=>rw[hl]at h2;cases h2
   | @hs _ _ _ _ _ _ ad h2 ha=>
    rw[hl]at h2;cases h2;rw[hrun (some ad) cap hev hle,jBb];have hst' :=hst.row_upd (g' :=⟨g.w,g.u,fun k=>if k=r then .row b (off+p.toNat) (cap - p.toNat) size (q.toNat - p.toNat) else g.loc k⟩) (ob:=.row e mu size (((l.drop p.toNat).take (q.toNat - p.toNat)).map F)) hr (Ext.refl _ _) (fun k hk=>if_neg hk) rfl rfl rfl (fun _ _ _=>⟨rfl,rfl⟩) hst.so.wf
     (.row (off:=off+p.toNat) (cap:=cap - p.toNat) (by simp only[if_true];rw[jAx,hlen]) hb (by rw[hn];congr 1;omega) (by omega) (by rw[jAx,hlen];omega)
      (fun z hz' =>by obtain ⟨w,hw,rfl⟩:=jBy.1 hz';exact hz _ (jBn (jDi (jCu hw))))
      (by
       show g.u b<=_;rw[jAx,hlen];rcases hhi with ⟨_,rfl⟩ | ⟨hmu',_⟩
       .have:off+p.toNat+((l.length:Int).toNat - p.toNat)=off+l.length:=by omega
        rw[this];exact hu
       .rw[hmu hmu'];omega) hmu (fun i j z c hi hj=>by
       simp only[jAq,jAl]at hi;obtain ⟨w,hw,rfl⟩:=hi;have hpl:i < q.toNat - p.toNat:=by have:=(jAc.1 hw).1;omega
       rw[jAt hpl,jBf]at hw;have:=hrel (p.toNat+i) j (F w) c (by simp[hw]) hj;rw[<-jBv]at this;exact this)) (fun b' hb' =>.inl (by simp only[if_true]at hb';rw[hl];exact hb'))
    refine hK ⟨g.w,g.u,fun k=>if k=r then .row b (off+p.toNat) (cap - p.toNat) size (q.toNat - p.toNat) else g.loc k⟩ _ (hst'.put (jAd hN) ?_);split
    .exact .hs (if_pos rfl) (fun hc=>by omega)
    refine .hs (if_pos rfl) (fun hc=>?_);rw[ha (by omega)];show Addr.add _ _=_;rw[qaa,jAv]⟩
theorem qdb{q:Int}{k1:IntKind}{v:List α}(hN:Nat.ble (k+1) E.N=true)(hx:fr.ev x=.hs r 0)(hr:σ.get r=some (.row e true size (l.map F)))(hy:fr.ev y=.pv (.b (.int k1 q)))
 (ht:TyOk E.P t ss sb sz (.slice e)) (he:TyOk E.P e size bytes zero d) (hv:cut l 0 q=some v):
 OpTo E ⟨some k,.slice t x none (some y) none,ty,pos,af,gu⟩ fr σ ((k,.hs r 0)::fr.clr r) ((σ.clr r).upd r (.row e true size (v.map F))):=qcb hN hx hr (.inl ⟨rfl,rfl⟩) (.inr ⟨rfl,y,k1,rfl,hy⟩) ht he hv
theorem St.unmu{g:G}{a:Act}{els:List (List PV)}(h:St E g a fr σ)(hr:σ.get r=some (.row e true size els)):St E g a fr (σ.upd r (.row e false size els)):=by
 refine h.objset hr (Ext.refl _ _) rfl rfl rfl rfl (fun _ _ _=>⟨rfl,rfl⟩) h.so.wf ?_ (fun _=>rfl);cases h.so.obj r _ hr with
 | nil h1=>exact .nil h1
 | row h1 h2 h3 h4 h5 h6 h7 h8 h9=>exact .row h1 h2 h3 h4 h5 h6 h7 (fun hc=>by cases hc) h9
theorem JJa{ops:Array Oper}{ol:List Oper}{els:List (List PV)}(r:Nat)(hr:σ.get r=some (.row e true size els))(h:AWPL E ops ol fr (σ.upd r (.row e false size els)) K):AWPL E ops ol fr σ K:=
 ⟨fun g a hst=>h.go g a (hst.unmu hr)⟩
theorem yFa{c:Code}{els:List (List PV)}(r:Nat)(hr:σ.get r=some (.row e true size els))(h:AWP E c fr (σ.upd r (.row e false size els)) K):AWP E c fr σ K:=
 ⟨fun g a hst=>h.go g a (hst.unmu hr)⟩
theorem ev_hidx{n:Int}{kk:IntKind}{v:α}(hx:ρ x=.hs r 0)(hy:ρ y=.pv (.b (.int kk n)))(hr:σ.get r=some (.row e mu size (l.map F)))(ht:TyOk P t ss sb sz (.slice e))(he:TyOk P e size bytes zero d)(hv:idx l n=some v):
 EvQ P ⟨dst,.indexAddr t x y,ty,pos,af,gu⟩ ρ σ (.hp r n.toNat 0):=
 ⟨fun c=>by simp,fun g ρv h hs=>by
  obtain ⟨h1,h2⟩:=ops2 (o:=⟨dst,.indexAddr t x y,ty,pos,af,gu⟩) (x:=x) (y:=y) rfl h;rw[hx]at h1;rw[hy]at h2;have e2:=kga h2;obtain ⟨hn0,hv⟩:=qDa hv;have hlt:n.toNat < l.length:=(jAc.1 hv).1;have hn2:n < l.length:=by omega
  obtain ⟨i,hi,hsz,hby,hzero⟩:=he.info;obtain ⟨old,ho1,ev,ho3⟩:=(hs r _ hr).old h1;obtain ⟨a0,old⟩:=old;cases old with
  | none=>rw[ho3.2]at hlt;simp at hlt
  | some o=>
   obtain ⟨b,off,cap,cur⟩:=o;obtain ⟨ad,rfl,ha⟩:=ho1.2.2.2.2;have ha:=ha (by have:=ho1.2.2.1;omega);subst ha;refine ⟨.pointer (some ⟨b,(off+n.toNat) * size+0,none⟩),?_,.hp ho3.1 hlt⟩;simp[execOp,Instr.indexAt,e2,ev,oldV,go_sem,asIntOf,underlying,ht.u,sizeOf,typeInfo,hi,hsz,hn0,hn2,qaa,jAv]⟩
theorem Vya{i j f:Nat}{fs:Array Field}{fl:Field}{fsize fbytes:Nat}{fzero:Value}{fd:TypeDesc}(hx:ρ x=.hp r i j)(ht:P.underlying t=some (.struct fs))(hf:fs[f]? =some fl)(hft:TyOk P fl.type fsize fbytes fzero fd)(hz:Nat.beq fsize 0=false):
 EvQ P ⟨dst,.fieldAddr t x f,ty,pos,af,gu⟩ ρ σ (.hp r i (j+fl.offset)):=
 ⟨fun c=>by simp,fun g ρv h _=>by
  have h1:=h x (by simp[Op.operands]);rw[hx]at h1;generalize hv:ρv x=v at h1;cases h1 with
  | @hp _ _ _ b off cap size n hl hi=>
   have hz' :fsize≠0:=by rintro rfl;simp at hz
   refine ⟨_,?_,.hp (j:=j+fl.offset) hl hi⟩;simp[execOp,Instr.fieldAt,Instr.sureAddr,hv,go_sem,underlying,ht,hf,fieldPlace,hft.sizeOf,hz',qaa,jBv]⟩
theorem YFa{g:G}{i j:Nat}{v:α}{vp:Value}(hob:RelO g r (.row e mu size (l.map F)))(hv:l[i]? =some v)(hp:Rel g (.hp r i j) vp):
 ∃b off cap vs,vp=.pointer (some ⟨b,(off+i) * size+j,none⟩)/\g.loc r=.row b off cap size l.length/\g.w.heap[b]? =some (.cells vs e (0,0))/\vs.size=(off+cap) * size/\cap<=maxLen/\l.length<=cap/\(F v).length=size/\(mu=true->g.u b=0)/\
  g.u b<=(off+l.length) * size/\(∀x∈l,(F x).length=size)/\∀i j x c,l[i]? =some x->(F x)[j]? =some c->RelP g.w g.u c (vs.getD ((off+i) * size+j) undef):=by
 generalize hls:l.map F=ls at hob;have hlt:i < l.length:=(jAc.1 hv).1;cases hob with
 | nil hl=>
  obtain rfl:l=[]:=by simpa using hls
  simp at hlt
 | @row _ _ _ _ b off cap vs h1 h2 h3 h3' h4 h5 h6 h7 h9=>
  subst hls;simp only[jAx]at h1 h4 h6;cases hp with
  | @hp _ _ _ b' off' cap' size' n' hl hi=>
   rw[h1]at hl;cases hl;exact ⟨b,off,cap,vs,rfl,h1,h2,h3,h3',h4,h5 _ (jBn (jAe hv)),h7,h6,fun x hx=>h5 _ (jBn hx),fun i j x c hi hj=>h9 i j (F x) c (by simp[hi]) hj⟩
theorem Wua{off i cap n size j s:Nat}(h1:i < n)(h2:n<=cap)(h3:j+s<=size):(off+i) * size+j+s<=(off+cap) * size:=by
 have:(off+i+1) * size<=(off+cap) * size:=jAn _ (by omega);rw[jAv (off+i)]at this;omega
section
variable {t' :TypeId} {size' bytes' :Nat} {zero' :Value} {d' :TypeDesc} {n:Int} {j:Nat} {v v' :α} {c:PV}
theorem ev_hload(hx:ρ x=.hp r n.toNat j)(hr:σ.get r=some (.row e mu size (l.map F)))(ht:TyOk P t' size' bytes' zero' d')(hd:dAgg d' =false)(hv:idx l n=some v)(hc:(F v)[j]? =some c):EvQ P ⟨dst,.load t' x,ty,pos,af,gu⟩ ρ σ (.pv c):=
 ⟨fun c=>by simp,fun g ρv h hs=>by
  have h1:=h x (by simp[Op.operands]);rw[hx]at h1;obtain ⟨hn0,hv⟩:=qDa hv;obtain ⟨b,off,cap,vs,e1,e2,e3,e4,e5,e6,e7,e8,e9,e10,e11⟩:=YFa (hs r _ hr) hv h1;have hj:j < size:=by rw[<-e7];exact (jAc.1 hc).1
  have hlt:=(jAc.1 hv).1;refine ⟨_,qTa e1 (vZa ht hd (kva e3 ?_)),.pv (e11 _ _ _ _ hv hc)⟩;rw[e4];exact Wua (s:=1) hlt e6 hj⟩
theorem vgb(hx:ρ x=.hp r n.toNat j)(hr:σ.get r=some (.row e mu size (l.map F)))(ht:TyOk P t' size' bytes' zero' d')(hd:dAgg d' =true)(hv:idx l n=some v)(hle:Nat.ble (j+size') (F v).length=true):EvQ P ⟨dst,.load t' x,ty,pos,af,gu⟩ ρ σ (.agg ((((F v).drop j).take size').map .pv)):=
 ⟨fun c=>by simp,fun g ρv h hs=>by
  have h1:=h x (by simp[Op.operands]);rw[hx]at h1;obtain ⟨hn0,hv⟩:=qDa hv;have hle:=jAd hle;obtain ⟨b,off,cap,vs,e1,e2,e3,e4,e5,e6,e7,e8,e9,e10,e11⟩:=YFa (hs r _ hr) hv h1;have hlt:=(jAc.1 hv).1;have hrel:∀q,q < size' ->∃c,(F v)[j+q]? =some c/\RelP g.w g.u c (vs.getD ((off+n.toNat) * size+(j+q)) undef):=by
   intro q hq;have h2:j+q < (F v).length:=by omega
   exact ⟨_,jAi h2,e11 _ _ _ _ hv (jAi h2)⟩
  refine ⟨_,qTa e1 (wEa ht hd (f:=fun q=>vs.getD ((off+n.toNat) * size+(j+q)) undef) fun q hq=>?_),.agg (by simp;omega) (fun q hq=>?_) (fun q c hq=>?_)⟩
  .rw[jBv];refine kva e3 ?_;rw[e4];have:=Wua (off:=off) (s:=1) (j:=j+q) (size:=size) hlt e6 (by omega);omega
  .simp only[List.size_toArray,jAx,List.length_range]at hq;rw[vKa _ _ _ hq];obtain ⟨c,_,hr⟩:=hrel q hq;exact hr.cellV
  simp only[jAq,jAl]at hq;obtain ⟨c',hc',rfl⟩:=hq;have hq2:q < size' :=by have:=(jAc.1 hc').1;simp at this;omega
  rw[jAt hq2,jBf]at hc';rw[vKa _ _ _ hq2];obtain ⟨c,hc,hr⟩:=hrel q hq2;rw[hc']at hc;cases hc;exact .pv hr⟩
theorem zRb{pcs:List PV}(hx:fr.ev x=.hp r n.toNat j)(hr:σ.get r=some (.row e true size (l.map F)))(hy:(fr.ev y).weak.cells=some (pcs.map .pv))(ht:TyOk E.P t' size' bytes' zero' d')(hz:Nat.beq pcs.length size' =true)
 (hv:idx l n=some v) (hle:Nat.ble (j+pcs.length) (F v).length=true) (hF' :F v' =(F v).take j++pcs++(F v).drop (j+pcs.length)):
 OpTo E ⟨none,.store t' x y,ty,pos,af,gu⟩ fr σ fr (σ.upd r (.row e true size ((l.set n.toNat v').map F))):=
 ⟨fun g a K Q hst hK=>by
  have hle:=jAd hle;have hz:=jAo hz;refine ⟨fun _ _=>trivial,?_⟩;rw[jAy _ _ _ (fun c=>by simp)];have h1:=hst.ev x;rw[hx]at h1;obtain ⟨hn0,hv⟩:=qDa hv;obtain ⟨b,off,cap,cur,e1,e2,e3,e4,e5,e6,e7,e8,e9,e10,e11⟩:=YFa (hst.so.obj r _ hr) hv h1;obtain ⟨v1,v2,v3⟩:=wFa (qSa (hst.ev y)) hy;have hlt:=(jAc.1 hv).1;rw[jAx]at v1;have hfit:=Wua (off:=off) (s:=pcs.length) (j:=j) (size:=size) hlt e6 (by omega);have hu0:=e8 rfl;have hone:∀u∈(a.eval y).cells.toList,u.oneCell' =true:=by
   intro u hu;obtain ⟨i,hi,rfl⟩:=jCm hu;have h0:=v2 i (by simpa using hi);rw[show (a.eval y).cells.getD i undef=(a.eval y).cells.toList[i] by simp[Array.getD,show i < (a.eval y).cells.size by simpa using hi]]at h0;cases hcase:(a.eval y).cells.toList[i] <;> rw[hcase]at h0 <;> first | rfl | simp[cellV]at h0
  generalize hP:(off+n.toNat) * size+j=p at e1 hfit;have hs:=run_storeCells_at (P:=E.P) b p e (a.eval y).cells.toList 0 cur g.w e3 (by simp;omega) hone;simp only[jCi]at hs;generalize hcs:(cur.toList.take p++(a.eval y).cells.toList++cur.toList.drop (p+(a.eval y).cells.toList.length))=cells at hs;have hrun:(execOp a.eval ⟨none,.store t' x y,ty,pos,af,gu⟩).run E.P g.w=.ok .skip (g.w.setRow b cells.toArray):=by
   show Sem.run E.P (do Instr.storeAt t' (a.eval x) (a.eval y);pure Next.skip) g.w=_;rw[e1];simp only[Instr.storeAt,Instr.sureAddr,storeVar,jAu,jBd,jAr,ht.sizeOf];rw[if_neg (by rw[v1,hz];simp)];simp only[jAu,jBd,jAr,hs]
  rw[hrun,Oper.uponIn_skip];have hyl:(a.eval y).cells.toList.length=pcs.length:=by simpa using v1
  have hclen:cells.length=cur.size:=by rw[<-hcs];simp;omega
  have hget:∀q,q < cur.size->cells[q]? =if p<=q/\q < p+pcs.length then (a.eval y).cells.toList[q - p]? else cur.toList[q]? :=by
   intro q hq;rw[<-hcs,jAp];rcases jBg q p with h2 | h2
   .rw[if_neg (by omega),jAk (by simp;omega),jAt h2]
   rw[jAh (by simp;omega)];simp only[jBu,jBj,show min p cur.size=p by omega];rcases jBg q (p+pcs.length) with h3 | h3
   .rw[if_pos ⟨h2,h3⟩,jAk (by omega)]
   rw[if_neg (by omega),jAh (by omega),jBf]
   congr 1
   omega
  have hheap:∀k,k≠b->(g.w.setRow b cells.toArray).heap[k]? =g.w.heap[k]? :=fun k hk=>by
   simp only[World.setRow,jCj];rw[if_neg (Ne.symm hk)]
  have hnewb:=setRow_heap g.w b cur cells.toArray e _ e3;have hsz:(g.w.setRow b cells.toArray).heap.size=g.w.heap.size:=by simp[World.setRow]
  have hxx:Ext g.w g.u (g.w.setRow b cells.toArray) g.u:=⟨jBr hsz.symm,fun _ _=>jBc _,fun k i hk hi=>by
   by_cases hkb:k=b
   .subst hkb;omega
   simp only[World.cell?];rw[hheap k hkb],fun r' hr' =>(hheap r' (by rintro rfl;rw[e3]at hr';cases hr')).trans hr'⟩
  refine hK ⟨g.w.setRow b cells.toArray,g.u,g.loc⟩ _ (St.put_none (hst.objset hr hxx rfl rfl rfl rfl (fun k hk hne=>⟨hheap k (by rintro rfl;exact hne (by rw[e2];rfl)),rfl⟩) (yka hst.so.wf (jBr hsz.symm) _) ?_ (fun _=>rfl)));have hFv' :(F v').length=size:=by rw[hF'];simp;omega
  refine .row (off:=off) (by rw[jAx,jBz];exact e2) hnewb (by simp[hclen,e4]) e5 (by simpa using e6) (fun z hz' =>?_) (by show g.u b<=_;rw[hu0];exact jCp _) (fun _=>hu0) (fun i' j' z c hi' hj' =>?_)
  .obtain ⟨w,hw,rfl⟩:=jBy.1 hz';rcases jBk hw with h2 | rfl
   .exact e10 w h2
   exact hFv'
  simp only[jAq,jAl]at hi';obtain ⟨w,hw,rfl⟩:=hi';have hil:i' < l.length:=by have:=(jAc.1 hw).1;simpa using this
  have hwF:(F w).length=size:=by
   rcases jBk (jAe hw) with h2 | rfl
   .exact e10 w h2
   exact hFv'
  have hjs:j' < size:=by rw[<-hwF];exact (jAc.1 hj').1
  have hpos:(off+i') * size+j' < cur.size:=by rw[e4];exact Wua (s:=1) hil e6 hjs
  have old:(F w)[j']? =some c->l[i']? =some w->¬(p<=(off+i') * size+j' /\(off+i') * size+j' < p+pcs.length)->RelP (g.w.setRow b cells.toArray) g.u c (cells.toArray.getD ((off+i') * size+j') undef):=by
   intro h2 h3 h4;have h5:=(e11 i' j' w c h3 h2).mono hxx;rw[jAf,jBi,hget _ hpos,if_neg h4];rw[jAf]at h5;simpa using h5
  by_cases hin:i' =n.toNat
  .subst hin;rw[jBm hlt]at hw;cases hw;have hold:∀c,(F v)[j']? =some c->¬(p<=(off+n.toNat) * size+j' /\(off+n.toNat) * size+j' < p+pcs.length)->RelP (g.w.setRow b cells.toArray) g.u c (cells.toArray.getD ((off+n.toNat) * size+j') undef):=by
    intro c h2 h4;have h5:=(e11 n.toNat j' v c hv h2).mono hxx;rw[jAf,jBi,hget _ hpos,if_neg h4];rw[jAf]at h5;simpa using h5
   rw[hF',jAp]at hj';have hjl:((F v).take j).length=j:=by simp;omega
   rcases jBg j' j with h2 | h2
   .rw[jAk (by omega),jAt h2]at hj';exact hold c hj' (by omega)
   rw[jAh (by omega),hjl]at hj';rcases jBg (j' - j) pcs.length with h3 | h3
   .rw[jAk h3]at hj';have h5:=v3 (j' - j) (.pv c) (by simp[hj']);cases h5 with
    | pv h5=>
     rw[jAf,jBi,hget _ hpos,if_pos (by omega),show (off+n.toNat) * size+j' - p=j' - j by omega];rw[jAf]at h5;have h6:=h5.mono hxx;simpa using h6
   rw[jAh h3,jBf,show j+pcs.length+(j' - j - pcs.length)=j' by omega]at hj';exact hold c hj' (by omega)
  rw[jBp (by omega)]at hw;refine old hj' hw ?_;rcases jBg i' n.toNat with h2 | h2
  .have:(off+i' +1) * size<=(off+n.toNat) * size:=jAn _ (by omega);rw[jAv (off+i')]at this;omega
  have:(off+n.toNat+1) * size<=(off+i') * size:=jAn _ (by omega);rw[jAv (off+n.toNat)]at this;omega⟩
end
end
end
section
open Go.RowKit Go.Lib Go.Proofs.Tryz
section
variable {K V:Type} [BEq K]
def mget:List (K × V)->K->Option V
 | [],_=>none
 | (k,v)::r,x=>if k==x then some v else mget r x
def mput:List (K × V)->K->V->List (K × V)
 | [],x,y=>[(x,y)]
 | (k,v)::r,x,y=>if k==x then (x,y)::r else (k,v)::mput r x y
def mpos:List (K × V)->K->Option Nat
 | [],_=>none
 | (k,_)::r,x=>if k==x then some 0 else (mpos r x).map (· +1)
theorem mget_pos(l:List (K × V))(x:K):mget l x=(mpos l x).bind fun i=>(l[i]?).map (·.2):=by
 induction l with
 | nil=>rfl
 | cons p r ih=>
  obtain ⟨k,v⟩:=p;unfold mget mpos;split
  .simp
  rw[ih];cases mpos r x <;> simp
theorem kHb(l:List (K × V))(x:K)(y:V):mput l x y=match mpos l x with | some i=>l.set i (x,y) | none=>l++ [(x,y)]:=by
 induction l with
 | nil=>rfl
 | cons p r ih=>
  obtain ⟨k,v⟩:=p;unfold mput mpos;split
  .simp
  rw[ih];cases mpos r x <;> simp
theorem vhb{l:List (K × V)}{x:K}{i:Nat}(h:mpos l x=some i):∃p,l[i]? =some p/\(p.1==x)=true:=by
 induction l generalizing i with
 | nil=>cases h
 | cons p r ih=>
  obtain ⟨k,v⟩:=p;unfold mpos at h;split at h
  .rename_i hk;cases h;exact ⟨(k,v),rfl,hk⟩
  obtain ⟨j,hj,rfl⟩:=jAl.1 h;obtain ⟨p,hp,hx⟩:=ih hj;exact ⟨p,by simpa using hp,hx⟩
end
def posK{K:Type}[BEq K]:List K->K->Option Nat
 | [],_=>none
 | k::r,x=>if k==x then some 0 else (posK r x).map (· +1)
theorem vib{K V:Type}[BEq K](l:List (K × V))(x:K):mpos l x=posK (l.map (·.1)) x:=by
 induction l with
 | nil=>rfl
 | cons p r ih=>
  obtain ⟨k,v⟩:=p;simp only[jDn,posK,mpos,ih]
structure KeyK (K:Type) [BEq K] [LawfulBEq K] where
 kf:K->Value
 ok:Program->TypeId->Prop
 find:∀{P:Program} {kt:TypeId},ok P kt->∀(w:World) (x:K) (ks:List K) (ents:List MapEntry),ents.map (·.key)=ks.map kf->(Instr.findKey kt (kf x) ents).run P w=.ok ((posK ks x).bind fun j=>(ents[j]?).map fun e=>(j,e.val)) w
 check:∀{P:Program} {kt:TypeId},ok P kt->∀(w:World) (x:K) (b:Bool),(Instr.checkKey b 10000 kt (kf x)).run P w=.ok () w
 stay:∀{P:Program} (w:World) (x:K),(Instr.keyThatStays (kf x) (kf x)).run P w=.ok (kf x) w
theorem QJa{K:Type}[BEq K][LawfulBEq K]{kd:TypeDesc}{kf:K->Value}(same:∀a b:K,Instr.sameNow kd (kf a) (kf b)=some (a==b)){k:K}:∀(ks:List K) {ents:List MapEntry} (i:Nat),ents.map (·.key)=ks.map kf->
 Instr.findNow kd (kf k) ents i=some ((posK ks k).bind fun j=>(ents[j]?).map fun x=>(i+j,x.val))
 | [],ents,i,h=>by
  have:ents=[]:=by simpa using h
  subst this;rfl
 | k' ::r,ents,i,h=>by
  match ents,h with
  | x::xs,h=>
   simp only[jDn,List.cons.injEq]at h;unfold Instr.findNow posK;rw[h.1,same];by_cases hkk:k' =k
   .subst hkk;simp
   have e1:(k==k')=false:=by simpa using fun h:k=k' =>hkk h.symm
   have e2:(k' ==k)=false:=by simpa using hkk
   rw[e1,e2];simp only[jAj,if_false];rw[QJa same r (i+1) h.2];cases posK r k <;> simp[jBv,Nat.add_comm 1]
def keyS:KeyK Str where
 kf s:=.string (strB s)
 ok P kt:=P.underlying kt=some .string
 find {P kt} h w x ks ents hk:=by
  have h1:=QJa (kd:=.string) (kf:=fun s:Str=>.string (strB s)) (fun a b=>by
   simp only[Instr.sameNow,Option.some.injEq];rw[jAz,MapKept.bytes_beq];simp only[beq_iff_eq];constructor
   .intro h;have:=congrArg ByteArray.toList h
    rwa [Vqa,Vqa]at this
   rintro rfl;rfl) (k:=x) ks 0 hk
  refine (MapKept.run_findKey h h1).trans ?_;cases posK ks x <;> simp
 check h w x b:=MapKept.run_checkKey h (k:=.string (strB x)) trivial b 9999
 stay w x:=MapKept.run_keyThatStays (d:=.string) (k:=.string (strB x)) trivial
def isV(k:Int × Str):Value:=.agg #[.int .i64 k.1,.string (strB k.2)]
structure KeyIS (P:Program) (kt:TypeId):Prop where
 fs : ∃ f1 f2 : Field, P.underlying kt = some (.struct #[f1, f2]) /\ f1.name ≠ "_" /\ f2.name ≠ "_" /\ f1.offset = 0 /\ f2.offset = 1 /\ (∃ s1 b1 z1, TyOk P f1.type s1 b1 z1 (.int .i64)) /\ ∃ s2 b2 z2, TyOk P f2.type s2 b2 z2 .string
 cmp:YDa P kt
theorem vjb(g:G)(k:Int × Str):Rel g (.agg [.i k.1,.s k.2]) (isV k):=
 .agg rfl (fun i hi=>by
  match i,hi with
  | 0,_=>rfl
  | 1,_=>rfl
  | i+2,hi=>simp at hi;omega) (fun i c hi=>by
  match i,hi with
  | 0,hi=>cases hi;exact .pv (.b rfl)
  | 1,hi=>cases hi;exact .pv (.b rfl)
  | i+2,hi=>simp at hi)
theorem YGa{P:Program}{kt:TypeId}(h:KeyIS P kt)(a b:Int × Str)(w:World):(Op.equal kt (isV a) (isV b)).run P w=.ok (a==b) w:=by
 obtain ⟨f1,f2,h1,h2,h3,h4,h5,⟨s1,b1,z1,h6⟩,s2,b2,z2,h7⟩:=h.fs;have:=(wXa (g:=⟨w,fun _=>0,fun _=>.none⟩) (l:=[f1,f2]) (vjb _ a) (vjb _ b) h1 h.cmp (.int h4 h2 h6 (.str h5 h3 h7 .nil)) w).1;rw[this]
 congr 1
 obtain ⟨a1,a2⟩:=a;obtain ⟨b1,b2⟩:=b;rw[jAz];simp[qta]
theorem ZRa{P:Program}{kt:TypeId}(h:KeyIS P kt){k:Int × Str}{w:World}:∀(ks:List (Int × Str)) {ents:List MapEntry} (i:Nat),ents.map (·.key)=ks.map isV->
 (Instr.findAsking kt (isV k) ents i).run P w=.ok ((posK ks k).bind fun j=>(ents[j]?).map fun x=>(i+j,x.val)) w
 | [],ents,i,h=>by
  have:ents=[]:=by simpa using h
  subst this;rfl
 | k' ::r,ents,i,hk=>by
  match ents,hk with
  | x::xs,hk=>
   simp only[jDn,List.cons.injEq]at hk;unfold Instr.findAsking posK;rw[hk.1,jAu,YGa h];simp only[jAr];by_cases hkk:k' =k
   .subst hkk;simp[jBd]
   have e1:(k==k')=false:=by simpa using fun h:k=k' =>hkk h.symm
   have e2:(k' ==k)=false:=by simpa using hkk
   rw[e1,e2];simp only[jAj,if_false];rw[ZRa h r (i+1) hk.2];cases posK r k <;> simp[jBv,Nat.add_comm 1]
def Wva:KeyK (Int × Str) where
 kf:=isV
 ok P kt:=KeyIS P kt
 find {P kt} h w x ks ents hk:=by
  obtain ⟨f1,f2,h1,_⟩:=h.fs;unfold Instr.findKey;rw[jAu,run_underlying h1];simp only[jAr];cases ents with
  | nil=>
   have:ks=[]:=by simpa using hk.symm
   subst this;rfl
  | cons e es=>
   have:Instr.findNow (.struct #[f1,f2]) (isV x) (e::es) 0=none:=rfl;rw[this];refine (ZRa h ks 0 hk).trans ?_;cases posK ks x <;> simp
 check {P kt} h w x b:=by
  obtain ⟨f1,f2,h1,h2,h3,h4,h5,⟨s1,b1,z1,h6⟩,s2,b2,z2,h7⟩:=h.fs;have p1:(part f1.type #[.int .i64 x.1,.string (strB x.2)] f1.offset).run P w=.ok (.int .i64 x.1) w:=by rw[h4];exact yEa h6 rfl (by simp)
  have p2:(part f2.type #[.int .i64 x.1,.string (strB x.2)] f2.offset).run P w=.ok (.string (strB x.2)) w:=by rw[h5];exact yEa h7 rfl (by simp)
  have c1:=MapKept.run_checkKey (P:=P) (w:=w) h6.u (k:=.int .i64 x.1) rfl b 9998;have c2:=MapKept.run_checkKey (P:=P) (w:=w) h7.u (k:=.string (strB x.2)) trivial b 9998;show (Instr.checkKey b (9999+1) kt (isV x)).run P w=.ok () w;unfold Instr.checkKey;rw[jAu,run_underlying h1];simp only[jAr,isV];simp[h2,h3,p1,p2,c1,c2,jAu,Result.andThen]
 stay w x:=by
  have hb:(strB x.2==strB x.2)=true:=by rw[MapKept.bytes_beq]
  have:Instr.sameBits 10000 (isV x) (isV x)=true:=by simp[isV,Instr.sameBits,hb]
  simp[Instr.keyThatStays,this]
def JKa:List AV->Option (List Value)
 | []=>some []
 | .pv (.b v)::r=>(JKa r).map (v:: ·)
 | _=>none
def keyOf:AV->Option Value
 | .pv (.b v)=>some v
 | .agg cs=>(JKa cs).map fun l=>.agg l.toArray
 | _=>none
theorem WZa{g:G}:∀{cs:List AV} {l:List Value} {vs:List Value},JKa cs=some l->vs.length=cs.length->(∀(i:Nat) (c:AV),cs[i]? =some c->∃v:Value,vs[i]? =some v/\Rel g c v)->vs=l
 | [],l,vs,h,hl,_=>by
  simp only[JKa,Option.some.injEq]at h;subst h;exact jBo hl
 | c::cs,l,vs,h,hl,hr=>by
  match vs,hl with
  | v::vs,hl=>
   unfold JKa at h;split at h
   .rename_i heq;cases heq
   .rename_i v0 r0 heq;cases heq;obtain ⟨l',h1,rfl⟩:=jAl.1 h;obtain ⟨v1,q1,q2⟩:=hr 0 _ rfl;cases q1;rw[kga q2,WZa h1 (by simpa using hl) (fun i c hi=>hr (i+1) c hi)]
   cases h
theorem vkb{g:G}{c:AV}{v x:Value}(h:Rel g c v)(hk:keyOf c=some x):v=x:=by
 unfold keyOf at hk;split at hk
 .cases hk;exact kga h
 .rename_i cs;obtain ⟨l,h1,rfl⟩:=jAl.1 hk;cases h with
  | @agg _ vs hl hc hr=>
   have:=WZa (vs:=vs.toList) h1 (by simpa using hl) (fun i c hi=>by
    have hlt:i < vs.size:=by rw[hl];exact (jAc.1 hi).1
    refine ⟨vs[i],by simp[hlt],?_⟩;have:=hr i c hi;simpa[Array.getD,hlt]using this)
   rw[<-this]
 cases hk
def mvA:Bool->List PV->AV
 | true,cs=>.agg (cs.map .pv)
 | false,p::_=>.pv p
 | false,[]=>.any
theorem rel_mvA{g:G}{ag:Bool}{cs:List PV}{v:Value}(h:Vna g.w g.u ag cs v):Rel g (mvA ag cs) v:=by
 cases ag with
 | true=>
  obtain ⟨vs,rfl,h1,h2⟩:=h;refine .agg (by simpa using h1) (fun i hi=>?_) (fun i c hi=>?_)
  .have:i < cs.length:=by omega
   exact (h2 i _ (jAi this)).cellV
  simp only[jAq,jAl]at hi;obtain ⟨c',hc,rfl⟩:=hi;exact .pv (h2 i c' hc)
 | false=>
  obtain ⟨p,rfl,h1⟩:=h;exact .pv h1
theorem relMV_of{g:G}{ag:Bool}{cs:List PV}{v:Value}(hne:ag=false->cs.length=1)(h:Rel g (mvA ag cs) v):Vna g.w g.u ag cs v:=by
 cases ag with
 | true=>
  cases h with
  | agg h1 h2 h3=>
   refine ⟨_,rfl,by simpa using h1,fun i c hi=>?_⟩;have:=h3 i (.pv c) (by simp[hi]);cases this with
   | pv h=>exact h
 | false=>
  match cs,hne rfl with
  | [p],_=>
   cases h with
   | pv h=>exact ⟨p,rfl,h⟩
def Qha:Value->PV
 | .slice none 0 0=>.sl none []
 | v=>.b v
def kIb:Bool->Value->Option (List PV)
 | true,.agg vs=>if vs.toList.all (fun v=>cellV v) then some (vs.toList.map Qha) else none
 | false,v=>if cellV v then some [Qha v] else none
 | _,_=>none
theorem yGa(w:World)(u:Nat->Nat)(v:Value)(h:cellV v=true):RelP w u (Qha v) v:=by
 unfold Qha;split
 .exact JCa (Yya w u)
 exact .b h
theorem qeb{w:World}{u:Nat->Nat}{ag:Bool}{z:Value}{cs:List PV}(h:kIb ag z=some cs):Vna w u ag cs z:=by
 unfold kIb at h;split at h
 .rename_i vs;split at h
  .rename_i ha;cases h;rw[jAw]at ha;refine ⟨_,rfl,by simp,fun i c hi=>?_⟩;simp only[jAq,jAl]at hi;obtain ⟨v,hv,rfl⟩:=hi;have:vs.getD i undef=v:=by
    rw[jAf];simp at hv;simp[hv]
   rw[this];exact yGa w u v (ha v (jAe hv))
  cases h
 .split at h
  .rename_i hv;cases h;exact ⟨_,rfl,yGa w u _ hv⟩
  cases h
 cases h
section
variable {K V:Type} [BEq K] [LawfulBEq K] {KK:KeyK K} {F:V->List PV} {ag:Bool}
abbrev menc(KK:KeyK K)(F:V->List PV)(es:List (K × V)):List (Value × List PV):=es.map fun p=>(KK.kf p.1,F p.2)
theorem Kaa{P:Program}{kt:TypeId}{w:World}{es:List (K × V)}{k:K}{ents:Array MapEntry}(hkt:KK.ok P kt)(hl:ents.size=es.length)(hk:∀(j:Nat) p x,es[j]? =some p->ents[j]? =some x->x.key=KK.kf p.1):
 (Instr.findKey kt (KK.kf k) ents.toList).run P w=.ok ((mpos es k).bind fun j=>(ents[j]?).map fun x=>(j,x.val)) w:=by
 have h:=KK.find hkt w k (es.map (·.1)) ents.toList (by
  refine List.ext_getElem? fun j=>?_
  simp only[jAq,jBw];cases hp:es[j]? with
  | none=>
   have:ents[j]? =none:=by rw[Array.getElem?_eq_none_iff,hl];exact List.getElem?_eq_none_iff.1 hp
   rw[this];rfl
  | some p=>
   have hlt:j < ents.size:=by rw[hl];exact (jAc.1 hp).1
   rw[jBl hlt];have:=hk j p _ hp (jBl hlt);simp[this])
 rw[h,vib];simp
variable {E:Env} {fr:Fr} {σ:Sto} {P:Program} {ρ:Operand->AV} {t kt e:TypeId} {m x y:Operand} {o size bytes ss sb k' :Nat} {zero sz:Value} {d:TypeDesc} {es:List (K × V)} {k:K} {z v:V}
variable {dst:Option Tmp} {ty:TypeId} {pos:String} {af:Array Edge} {gu:Option (Nat × Bool)}
theorem RelO.map_inv{g:G}(h:RelO g o (.mapo ag (menc KK F es))):∃b clock ents,g.loc o=.map b/\g.w.heap[b]? =some (.map ents clock)/\g.u b=0/\ents.size=es.length/\(∀(j:Nat) p x,es[j]? =some p->ents[j]? =some x->x.key=KK.kf p.1)/\∀(j:Nat) p x,es[j]? =some p->ents[j]? =some x->Vna g.w g.u ag (F p.2) x.val:=by
 generalize hes:menc KK F es=ms at h;cases h with
 | @mapo _ _ b clock ents h1 h2 h3 h4 h5=>
  subst hes;have key:∀(j:Nat) p x,es[j]? =some p->ents[j]? =some x->x.key=KK.kf p.1/\Vna g.w g.u ag (F p.2) x.val:=by
   intro j p x hp hx;obtain ⟨x',e1,e2,e3⟩:=h5 j (KK.kf p.1) (F p.2) (by simp[menc,hp]);rw[hx]at e1;cases e1;exact ⟨e2,e3⟩
  exact ⟨b,clock,ents,h1,h2,h3,by simpa[menc]using h4,fun j p x hp hx=>(key j p x hp hx).1,fun j p x hp hx=>(key j p x hp hx).2⟩
theorem qfb{g:G}(ok:Bool)(h:RelO g o (.mapo ag (menc KK F es))){vm:Value}(hm:Rel g (.mp o) vm)(ht:P.underlying t=some (.map kt e))(hkt:KK.ok P kt)(he:TyOk P e size bytes zero d)(hz:kIb ag zero=some (F z)):
 ∃v,(Instr.lookup t vm (KK.kf k) ok).run P g.w=.ok (if ok then .tuple #[v,.bool (mget es k).isSome] else v) g.w/\Vna g.w g.u ag (F ((mget es k).getD z)) v:=by
 obtain ⟨b,clock,ents,h1,h2,h3,h4,h5,h6⟩:=h.map_inv;cases hm with
 | mp hl=>
  rw[h1]at hl;cases hl;have hf:=Kaa (P:=P) (w:=g.w) (k:=k) hkt h4 h5;have hc:=KK.check (P:=P) hkt g.w k ents.isEmpty;rw[mget_pos];cases hp:mpos es k with
  | none=>
   rw[hp]at hf;refine ⟨zero,?_,qeb (by simpa using hz)⟩;simp only[Option.bind_none]at hf;simp[Instr.lookup,run_underlying ht,MapKept.run_getObj_map h2,hc,hf,he.zeroValue,Result.andThen]
  | some i=>
   obtain ⟨p,hp1,hp2⟩:=vhb hp;have hi:i < ents.size:=by rw[h4];exact (jAc.1 hp1).1
   rw[hp]at hf;refine ⟨ents[i].val,?_,?_⟩
   .simp only[jAb,jBl hi,jCv]at hf;simp[Instr.lookup,run_underlying ht,MapKept.run_getObj_map h2,hc,hf,hp1,Result.andThen]
   simp only[jAb,hp1,jCv,jBt];exact h6 i p _ hp1 (jBl hi)
theorem Kva(hm:ρ m=.mp o)(ho:σ.get o=some (.mapo ag (menc KK F es)))(hx:keyOf (ρ x)=some (KK.kf k))(ht:P.underlying t=some (.map kt e))(hkt:KK.ok P kt)(he:TyOk P e size bytes zero d)(hz:kIb ag zero=some (F z)):
 EvQ P ⟨dst,.lookup t m x false,ty,pos,af,gu⟩ ρ σ (mvA ag (F ((mget es k).getD z))):=
 ⟨fun c=>by simp,fun g ρv h hs=>by
  obtain ⟨h1,h2⟩:=ops2 (o:=⟨dst,.lookup t m x false,ty,pos,af,gu⟩) (x:=m) (y:=x) rfl h;rw[hm]at h1;have e2:=vkb h2 hx;obtain ⟨v,hr,hv⟩:=qfb (k:=k) (z:=z) false (hs o _ ho) h1 ht hkt he hz;refine ⟨v,?_,rel_mvA hv⟩;show Sem.run P (do let v <-Instr.lookup t (ρv m) (ρv x) false;pure (Next.value v)) g.w=_;rw[e2,jAu,hr];rfl⟩
theorem QKa{k0:Nat}(id:Nat)(ag:Bool)(hN:Nat.ble (k0+1) E.N=true)(hf:fr.has id=false)(hs:σ.has id=false):
 OpTo E ⟨some k0,.makeMap t none,ty,pos,af,gu⟩ fr σ ((k0,.mp id)::fr) ((id,.mapo ag [])::σ):=
 ⟨fun g a K Q hst hK=>by
  refine ⟨fun _ _=>trivial,?_⟩;rw[jAy _ _ _ (fun c=>by simp)];have hr:(execOp a.eval ⟨some k0,.makeMap t none,ty,pos,af,gu⟩).run E.P g.w=.ok (.value (.map (some g.w.heap.size))) (g.w.alloc (.map #[] 0)):=rfl;rw[hr,jBb];have hx:Ext g.w g.u (g.w.alloc (.map #[] 0)) g.u:=⟨by simp,fun _ _=>jBc _,fun k i hk _=>by
   simp only[World.cell?];rw[(MapKept.heap_alloc g.w _).2 k hk],fun r' hr' =>((MapKept.heap_alloc g.w _).2 r' (kMa hr')).trans hr'⟩
  have hu0:g.u g.w.heap.size=0:=hst.so.wf _ (jBc _);have hst' :=hst.addObj (g' :=⟨g.w.alloc (.map #[] 0),g.u,fun q=>if q=id then .map g.w.heap.size else g.loc q⟩) id (ob:=.mapo ag []) hf hs
   ⟨rfl,rfl,rfl,hx,fun k hk _=>⟨(MapKept.heap_alloc g.w _).2 k hk,rfl⟩⟩ (yka hst.so.wf hx.size _) (fun q hq=>if_neg hq)
   (.mapo (if_pos rfl) (MapKept.heap_alloc g.w _).1 hu0 rfl (fun i k c hi=>by simp at hi)) (fun b hb=>by
    simp only[AO.own,if_true,Loc.block]at hb;cases hb;exact jBc _)
  exact hK _ _ (hst'.put (jAd hN) (.mp (if_pos rfl)))⟩
theorem ZSa(hm:fr.ev m=.mp o)(ho:σ.get o=some (.mapo ag (menc KK F es)))(hx:keyOf (fr.ev x)=some (KK.kf k))(hy:(fr.ev y).weak=mvA ag (F v))(hne:ag || Nat.beq (F v).length 1)(ht:E.P.underlying t=some (.map kt e))(hkt:KK.ok E.P kt):
 OpTo E ⟨none,.mapUpdate t m x y,ty,pos,af,gu⟩ fr σ fr (σ.upd o (.mapo ag (menc KK F (mput es k v)))):=
 ⟨fun g a K Q hst hK=>by
  refine ⟨fun _ _=>trivial,?_⟩;rw[jAy _ _ _ (fun c=>by simp)];have h1:=hst.ev m;have h2:=hst.ev x;have h3:=qSa (hst.ev y);rw[hm]at h1;rw[hy]at h3;have e2:=vkb h2 hx;have h3:=relMV_of (fun hag=>by rw[hag]at hne;exact jAo hne) h3;obtain ⟨b,clock,ents,i1,i2,i3,i4,i5,i6⟩:=(hst.so.obj o _ ho).map_inv;generalize hvm:a.eval m=vm at h1;cases h1 with
  | mp hl=>
   rw[i1]at hl;cases hl;have hf:=Kaa (P:=E.P) (w:=g.w) (k:=k) hkt i4 i5;have hc:=KK.check (P:=E.P) hkt g.w k false;have hgo:∀ents' clock',ents'.size=(mput es k v).length->(∀(j:Nat) p x,(mput es k v)[j]? =some p->ents'[j]? =some x->x.key=KK.kf p.1/\Vna g.w g.u ag (F p.2) x.val)->
    (execOp a.eval ⟨none,.mapUpdate t m x y,ty,pos,af,gu⟩).run E.P g.w=.ok .skip {g.w with heap:=g.w.heap.setIfInBounds b (.map ents' clock')}->
    Oper.uponIn (fen E.rd) 0 E.P ⟨none,.mapUpdate t m x y,ty,pos,af,gu⟩ a K Q ((execOp a.eval ⟨none,.mapUpdate t m x y,ty,pos,af,gu⟩).run E.P g.w):=by
    intro ents' clock' hsz hrel hrun;rw[hrun,Oper.uponIn_skip];have hset:=MapKept.heap_set (o' :=.map ents' clock') i2;have hsize:(g.w.heap.setIfInBounds b (.map ents' clock')).size=g.w.heap.size:=by simp
    have hxx:Ext g.w g.u {g.w with heap:=g.w.heap.setIfInBounds b (.map ents' clock')} g.u:=⟨jBr hsize.symm,fun _ _=>jBc _,fun q i hq hi=>by
     by_cases hqb:q=b
     .subst hqb;omega
     simp only[World.cell?];rw[hset.2 q hqb],fun r' hr' =>(hset.2 r' (by rintro rfl;rw[i2]at hr';cases hr')).trans hr'⟩
    refine hK ⟨{g.w with heap:=g.w.heap.setIfInBounds b (.map ents' clock')},g.u,g.loc⟩ _ (St.put_none (hst.objset ho hxx rfl rfl rfl rfl (fun q hq hn=>⟨hset.2 q (by rintro rfl;exact hn (by simp[AO.own,i1,Loc.block])),rfl⟩) (yka hst.so.wf (jBr hsize.symm) _) ?_ (fun _=>rfl)));refine .mapo i1 hset.1 i3 (by simpa[menc]using hsz) (fun j k' c hj=>?_);simp only[menc,jAq,jAl,Prod.mk.injEq]at hj;obtain ⟨p,hp,rfl,rfl⟩:=hj;have hlt:j < ents'.size:=by rw[hsz];exact (jAc.1 hp).1
    obtain ⟨r1,r2⟩:=hrel j p _ hp (jBl hlt);exact ⟨_,jBl hlt,r1,r2.mono hxx⟩
   have hshow:(execOp a.eval ⟨none,.mapUpdate t m x y,ty,pos,af,gu⟩).run E.P g.w=Sem.run E.P (do Instr.mapUpdate t (.map (some b)) (KK.kf k) (a.eval y);pure Next.skip) g.w:=by
    show Sem.run E.P (do Instr.mapUpdate t (a.eval m) (a.eval x) (a.eval y);pure Next.skip) g.w=_;rw[hvm,e2]
   cases hp:mpos es k with
   | none=>
    rw[hp]at hf;simp only[Option.bind_none]at hf;have hmp:mput es k v=es++ [(k,v)]:=by rw[kHb,hp]
    refine hgo (ents.push ⟨KK.kf k,a.eval y,clock⟩) (clock+1) (by rw[hmp];simp[i4]) (fun j p x hj hx' =>?_) ?_
    .rw[hmp]at hj;rcases jBg j es.length with h4 | h4
     .rw[jAk h4]at hj;rw[Array.getElem?_push_lt (by omega)]at hx';have hx2:ents[j]? =some x:=by rw[jBl (by omega)];exact hx'
      exact ⟨i5 j p x hj hx2,i6 j p x hj hx2⟩
     have hj2:j=es.length:=by
      have:=(jAc.1 hj).1;simp at this;omega
     subst hj2;simp at hj;subst hj;rw[<-i4]at hx';simp at hx';subst hx';exact ⟨rfl,h3⟩
    rw[hshow];simp[Instr.mapUpdate,run_underlying ht,MapKept.run_getObj_map i2,hc,hf,MapKept.run_setObj_map _ i2,Result.andThen]
   | some i=>
    obtain ⟨p0,hp1,hp2⟩:=vhb hp;have hi:i < ents.size:=by rw[i4];exact (jAc.1 hp1).1
    rw[hp]at hf;simp only[jAb,jBl hi,jCv]at hf;have hmp:mput es k v=es.set i (k,v):=by rw[kHb,hp]
    have hkk:ents[i].key=KK.kf k:=by
     rw[i5 i p0 _ hp1 (jBl hi)];rw[show p0.1=k by simpa using hp2]
    refine hgo (ents.modify i fun e=>{e with key:=KK.kf k,val:=a.eval y}) clock (by rw[hmp];simp[i4]) (fun j p x hj hx' =>?_) ?_
    .rw[hmp]at hj;rw[jCj]at hx';by_cases hij:i=j
     .subst hij;rw[jBm (by rw[<-i4];exact hi)]at hj;cases hj;rw[if_pos rfl,jBl hi]at hx';cases hx';exact ⟨rfl,h3⟩
     rw[jBp hij]at hj;rw[if_neg hij]at hx';exact ⟨i5 j p x hj hx',i6 j p x hj hx'⟩
    rw[hshow];simp[Instr.mapUpdate,run_underlying ht,MapKept.run_getObj_map i2,hc,hf,hi,hkk,KK.stay,MapKept.run_setObj_map _ i2,Result.andThen]⟩
end
section
variable {P:Program} {ρ:Operand->AV} {σ:Sto} {t t' e:TypeId} {x:Operand} {α:Type} {F:α->List PV} {l:List α} {dst:Option Tmp} {ty:TypeId} {pos:String} {af:Array Edge} {gu:Option (Nat × Bool)} {ss sb:Nat} {sz:Value}
theorem W0a{ρv:Operand->Value}{w:World}{a:Option Addr}{n c:Nat}(ne:Bool)(hx:ρv x=.slice a n c)(hy:ρv (.const (.slice none 0 0))=.slice none 0 0)(ht:TyOk P t ss sb sz (.slice e)):
 (execOp ρv ⟨dst,.binOp (if ne then .neq else .eql) t x (.const (.slice none 0 0)) t',ty,pos,af,gu⟩).run P w=.ok (.value (.bool (if ne then !a.isNone else a.isNone))) w:=by
 cases ne <;> simp[execOp,hx,hy,go_sem,eqGuard,binOp,run_equal_slice_nil w t e a n c ht.u]
end
section
variable {K V:Type} [BEq K] [LawfulBEq K] {KK:KeyK K} {F:V->List PV} {ag:Bool} {P:Program} {ρ:Operand->AV} {σ:Sto} {t kt e:TypeId} {m x:Operand} {o size bytes:Nat} {zero:Value} {d:TypeDesc} {es:List (K × V)} {k:K} {z v:V}
variable {dst:Option Tmp} {ty:TypeId} {pos:String} {af:Array Edge} {gu:Option (Nat × Bool)}
end
end
section
open Go.RowKit Go.Lib Go.Proofs.Tryz
variable {E:Env} {fr:Fr} {σ:Sto} {K:Post} {P:Program} {ρ:Operand->AV}
variable {dst:Option Tmp} {ty:TypeId} {pos:String} {af:Array Edge} {gu:Option (Nat × Bool)}
section
variable {α:Type} {F:α->List PV} {l xs r' :List α} {r size bytes sb ss k lim:Nat} {e t:TypeId} {mu:Bool} {zero sz:Value} {d:TypeDesc} {x y:Operand} {nl:Option Bool}
theorem ev_hsub{p:Int}{k1:IntKind}{v:List α}(hx:ρ x=.hs r 0)(hr:σ.get r=some (.row e mu size (l.map F)))(hy:ρ y=.pv (.b (.int k1 p)))
 (ht:TyOk P t ss sb sz (.slice e)) (he:TyOk P e size bytes zero d) (hv:cut l p l.length=some v):EvQ P ⟨dst,.slice t x (some y) none none,ty,pos,af,gu⟩ ρ σ (.hsub r p.toNat):=
 ⟨fun c=>by simp,fun g ρv hh hs=>by
  have h1:=hh x (by simp[Op.operands]);have h2:=hh y (by simp[Op.operands]);rw[hx]at h1;rw[hy]at h2;have e2:=kga h2;obtain ⟨h0,h01,h02,_⟩:=Kta hv;obtain ⟨old,ho1,ev,ho3⟩:=(hs r _ hr).old h1;obtain ⟨a0,old⟩:=old;have hrun:∀ad cap,ρv x=.slice ad l.length cap->l.length<=cap->(execOp ρv ⟨dst,.slice t x (some y) none none,ty,pos,af,gu⟩).run P g.w=
   .ok (.value (.slice (if cap=p.toNat then ad else ad.map (·.add (p.toNat * size))) (l.length - p.toNat) (cap - p.toNat))) g.w:=by
   intro ad cap ev hcap;show Sem.run P (do let v <-Instr.sliceAt t (ρv x) ((some y).map ρv) (Option.map ρv none) none;pure (Next.value v)) g.w=_;have hb:=vpa (P:=P) (w:=g.w) (len:=l.length) (cap:=cap) (lo:=(some y).map ρv) (hi:=Option.map ρv none) (a:=p) (b:=l.length) hcap (.inr ⟨k1,by simp[e2]⟩) (.inl ⟨rfl,rfl⟩) h0 h01 (Int.le_refl _);rw[ev];simp only[Instr.sliceAt,underlying,program,jAu,Sem.run,ht.u,jAr,jBd,Instr.slice,hb,he.sizeOf,jBe]
  cases old with
  | none=>
   obtain ⟨hl,rfl⟩:=ho3;have hp:p.toNat=0:=by simp at h01;omega
   refine ⟨_,hrun a0 0 ev (by simp),?_⟩;rw[hp];simp only[if_true,jDf,jCx];exact .hsubNil _ hl
  | some o=>
   obtain ⟨b,off,cap,cur⟩:=o;obtain ⟨hb,hcs,hnc,hcm,ad,rfl,had⟩:=ho1;refine ⟨_,hrun (some ad) cap ev hnc,?_⟩;split
   .exact .hsub ho3.1 (by omega) (fun hc=>by omega)
   refine .hsub ho3.1 (by omega) (fun hc=>?_);rw[had (by omega)];show Addr.add _ _=_;rw[qaa,jAv]⟩
def clr0(l:List α)(i:Nat)(z:α):List α:=l.take i++List.replicate (l.length - i) z
theorem clr0_len(l:List α)(i:Nat)(z:α)(h:i<=l.length):(clr0 l i z).length=l.length:=by simp[clr0];omega
theorem Kwa{z:Array Value}{n q:Nat}(h:q < n * z.size):(Builtin.zeroCells z n).toList[q]? =z.toList[q % z.size]? :=by
 have hz:0 < z.size:=by
  rcases Nat.eq_zero_or_pos z.size with h0 | h0
  .rw[h0]at h;simp at h
  exact h0
 have hm:q % z.size < z.size:=Nat.mod_lt _ hz;simp[Builtin.zeroCells,h,hm]
theorem qgb{lo:Nat}{z:α}(hx:fr.ev x=.hsub r lo)(hr:σ.get r=some (.row e true size (l.map F)))(ht:TyOk E.P t ss sb sz (.slice e))(he:TyOk E.P e size bytes zero d)(hzz:(Nat.beq zero.cells.size size && Nat.ble 1 size && zero.cells.toList.all cellV)=true)
 (hz:zero.cells.toList.map Qha=F z):
 OpTo E ⟨none,.call ⟨.builtin .clear, #[x], #[t]⟩,ty,pos,af,gu⟩ fr σ fr (σ.upd r (.row e true size ((clr0 l lo z).map F))):=
 ⟨fun g a K Q hst hK=>by
  simp only[jAs]at hzz;have hz1:=jAo hzz.1.1;have hz2:=jAd hzz.1.2;have hz3:=hzz.2;rw[jAw]at hz3;refine ⟨fun _ _=>trivial,?_⟩;rw[jAy _ _ _ (fun c=>by simp)];have h1:=hst.ev x;rw[hx]at h1;generalize hev:a.eval x=vx at h1;have hexec:∀w',(Builtin.clear_ #[t] ty #[vx]).run E.P g.w=.ok (.tuple #[]) w' ->(execOp a.eval ⟨none,.call ⟨.builtin .clear, #[x], #[t]⟩,ty,pos,af,gu⟩).run E.P g.w=.ok (.value (.tuple #[])) w' :=by
   intro w' hc;simp[execOp,resolve,invoke,builtin,hev,hc]
  have hob:=hst.so.obj r _ hr;generalize hls:l.map F=ls at hob;cases hob with
  | nil hl=>
   obtain rfl:l=[]:=by simpa using hls
   cases h1 with
   | hsub h2=>rw[hl]at h2;cases h2
   | hsubNil ax=>
    rw[hexec g.w (by cases ax <;> simp[Builtin.clear_,run_underlying ht.u]),jBb];have:=hst.objset (ob:=.row e true size ((clr0 ([]:List α) lo z).map F)) hr (Ext.refl _ _) rfl rfl rfl rfl (fun _ _ _=>⟨rfl,rfl⟩) hst.so.wf (by simp[clr0];exact .nil hl) (fun _=>rfl);exact hK g _ (St.put_none this)
  | @row _ _ _ _ b off cap cur hl hb hn hm hle hzl hu hmu hrel=>
   subst hls;simp only[jAx]at hl hle hu;cases h1 with
   | hsubNil ax h2=>rw[hl]at h2;cases h2
   | @hsub _ _ _ _ _ _ _ ad h2 hlo ha=>
    rw[hl]at h2;cases h2;have hu0:=hmu rfl;by_cases hz0:l.length - lo=0
    .have hcl:clr0 l lo z=l:=by unfold clr0;rw[hz0,List.take_of_length_le (by omega)];simp
     rw[hcl]at hK;rw[hexec g.w (by rw[hz0];simp[Builtin.clear_,run_underlying ht.u]),jBb];have:=hst.objset (ob:=.row e true size (l.map F)) hr (Ext.refl _ _) rfl rfl rfl rfl (fun _ _ _=>⟨rfl,rfl⟩) hst.so.wf (hst.so.obj r _ hr) (fun _=>rfl);exact hK g _ (St.put_none this)
    have had:=ha (by omega);subst had;generalize hzs:(Builtin.zeroCells zero.cells (l.length - lo)).toList=zs;have hzlen:zs.length=(l.length - lo) * size:=by rw[<-hzs,jBj,size_zeroCells,hz1]
    have hzget:∀q,q < (l.length - lo) * size->zs[q]? =zero.cells.toList[q % size]? :=by
     intro q hq;rw[<-hzs,Kwa (by rw[hz1];exact hq),hz1]
    have hone:∀u∈zs,u.oneCell' =true:=by
     intro u hu';obtain ⟨q,hq⟩:=List.getElem?_of_mem hu';rw[hzget q (by rw[<-hzlen];exact (jAc.1 hq).1)]at hq;have:=hz3 u (jAe hq);cases u <;> first | rfl | simp[cellV]at this
    generalize hp:(off+lo) * size=p at *;have hfit:p+zs.length<=cur.size:=by
     rw[hzlen,<-hp,hn,<-jAv];exact jAn _ (by omega)
    have hs:=run_storeCells_at (P:=E.P) b p e zs 0 cur g.w hb (by simpa using hfit) hone;simp only[jCi]at hs;generalize hcs:(cur.toList.take p++zs++cur.toList.drop (p+zs.length))=cells at hs;have hrun:(Builtin.clear_ #[t] ty #[.slice (some ⟨b,p,none⟩) (l.length - lo) (cap - lo)]).run E.P g.w=.ok (.tuple #[]) (g.w.setRow b cells.toArray):=by
     obtain ⟨m,hm'⟩:∃m,l.length - lo=m+1:=⟨l.length - lo - 1,by omega⟩;rw[hm']at hzs ⊢;simp[Builtin.clear_,run_underlying ht.u,he.zeroValue,hzs,hs]
    rw[hexec _ hrun,jBb];have hclen:cells.length=cur.size:=by rw[<-hcs];simp;omega
    have hget:∀q,q < cur.size->cells[q]? =if p<=q/\q < p+zs.length then zs[q - p]? else cur.toList[q]? :=by
     intro q hq;rw[<-hcs,jAp];rcases jBg q p with h2 | h2
     .rw[if_neg (by omega),jAk (by simp;omega),jAt h2]
     rw[jAh (by simp;omega)];simp only[jBu,jBj,show min p cur.size=p by omega];rcases jBg q (p+zs.length) with h3 | h3
     .rw[if_pos ⟨h2,h3⟩,jAk (by omega)]
     rw[if_neg (by omega),jAh (by omega),jBf]
     congr 1
     omega
    have hheap:∀k,k≠b->(g.w.setRow b cells.toArray).heap[k]? =g.w.heap[k]? :=fun k hk=>by
     simp only[World.setRow,jCj];rw[if_neg (Ne.symm hk)]
    have hnewb:=setRow_heap g.w b cur cells.toArray e _ hb;have hsz:(g.w.setRow b cells.toArray).heap.size=g.w.heap.size:=by simp[World.setRow]
    have hxx:Ext g.w g.u (g.w.setRow b cells.toArray) g.u:=⟨jBr hsz.symm,fun _ _=>jBc _,fun k i hk hi=>by
     by_cases hkb:k=b
     .subst hkb;omega
     simp only[World.cell?];rw[hheap k hkb],fun r' hr' =>(hheap r' (by rintro rfl;rw[hb]at hr';cases hr')).trans hr'⟩
    have hst' :=hst.objset (g' :=⟨g.w.setRow b cells.toArray,g.u,g.loc⟩) (ob:=.row e true size ((clr0 l lo z).map F)) hr hxx rfl rfl rfl rfl (fun k hk hne=>⟨hheap k (by rintro rfl;exact hne (by rw[hl];rfl)),rfl⟩) (yka hst.so.wf (jBr hsz.symm) _) ?_ (fun _=>rfl)
    .exact hK _ _ (St.put_none hst')
    have hFz:(F z).length=size:=by rw[<-hz];simp[hz1]
    have hmem:∀w∈clr0 l lo z,(F w).length=size:=by
     intro w hw;rcases jCk.1 hw with h2 | h2
     .exact hzl _ (jBn (jCu h2))
     rw[jDe]at h2;rw[h2.2];exact hFz
    have hlen2:=clr0_len l lo z hlo;refine .row (off:=off) (by rw[jAx,hlen2];exact hl) hnewb (by simp[hclen,hn]) hm (by rw[jAx,hlen2];exact hle) (fun y' hy' =>by obtain ⟨w,hw,rfl⟩:=jBy.1 hy';exact hmem w hw) (by show g.u b<=_;rw[hu0];exact jCp _) (fun _=>hu0) (fun i j w' c hi hj=>?_);simp only[jAq,jAl]at hi;obtain ⟨w,hw,rfl⟩:=hi;have hil:i < l.length:=by have:=(jAc.1 hw).1;omega
    have hjs:j < size:=by rw[<-hmem w (jAe hw)];exact (jAc.1 hj).1
    have hpos:(off+i) * size+j < cur.size:=by rw[hn];exact Wua (s:=1) hil hle hjs
    rw[jAf,jBi,hget _ hpos];have htl:(l.take lo).length=lo:=by simp;omega
    unfold clr0 at hw;rcases jBg i lo with h2 | h2
    .rw[jAk (by omega),jAt h2]at hw;have hlt:(off+i) * size+j < p:=by
      have:(off+i+1) * size<=(off+lo) * size:=jAn _ (by omega);rw[jAv (off+i)]at this;omega
     rw[if_neg (by omega)];have h5:=(hrel i j (F w) c (by simp[hw]) hj).mono hxx;rw[jAf]at h5;simpa using h5
    rw[jAh (by omega),htl]at hw;have hwz:w=z:=by have:=jAe hw;rw[jDe]at this;exact this.2
    subst hwz;have e1:(off+i) * size+j=p+((i - lo) * size+j):=by
     rw[<-hp,<-jBv,<-jAv];congr 2;omega
    have hq:(i - lo) * size+j < (l.length - lo) * size:=by
     have:(i - lo+1) * size<=(l.length - lo) * size:=jAn _ (by omega);rw[jAv]at this;omega
    rw[e1,if_pos (by omega),jCq,hzget _ hq];have e2:((i - lo) * size+j) % size=j:=by rw[jDl,Nat.mul_add_mod,jDc hjs]
    rw[e2];rw[<-hz,jAq,jAl]at hj;obtain ⟨u,hu',rfl⟩:=hj;rw[hu'];exact yGa _ _ u (hz3 u (jAe hu'))⟩
theorem wIa(r:Nat)(hN:Nat.ble (k+1) E.N=true)(hx:fr.ev x=.z0)(hy:fr.ev y=.pv (.sl nl (xs.map F)))(ht:TyOk E.P t ss sb sz (.slice e))(he:TyOk E.P e size bytes zero d)
 (hzz:Nat.beq zero.cells.size size=true) (hs:Nat.ble 1 size=true) (hF:∀x,(F x).length=size) (hlim:(Nat.ble (lim * bytes) 140737488355328 && Nat.ble lim 9223372036854775807)=true) (hf:fr.has r=false) (hso:σ.has r=false) (h:app lim [] xs=some r'):
 OpTo E ⟨some k,.call ⟨.builtin .append, #[x,y], #[t,t]⟩,ty,pos,af,gu⟩ fr σ ((k,.hs r 0)::fr.clr r) ((Sto.clr r ((r,.row e true size [])::σ)).upd r (.row e true size (r'.map F))):=
 ⟨fun g a K Q hst hK=>by
  obtain ⟨hle,hr'⟩:=Vea h;simp only[jAs]at hlim;have hl1:=jAd hlim.1;have hl2:=jAd hlim.2;have hzz:=jAo hzz;have hs:=jAd hs;refine ⟨fun _ _=>trivial,?_⟩;rw[jAy _ _ _ (fun c=>by simp)];have h1:=hst.ev x;rw[hx]at h1;have hst0:=hst.adopt r e true size hf hso;have h2:=hst0.ev y;rw[hy]at h2;have hlb:(0+xs.length) * bytes<=140737488355328:=by
   simp only[jCx]at hle;exact jCh (jAn _ hle) hl1
  have hgr:Sto.get ((r,AO.row e true size [])::σ) r=some (.row e true size (([]:List α).map F)):=by rw[Sto.get_cons,if_pos rfl];rfl
  generalize hev:a.eval x=vx at h1;cases h1 with
  | z0 ax=>
   have ho3:q4b ⟨g.w,g.u,fun k=>if k=r then .nilRow else g.loc k⟩ r true size F ([]:List α) (ax,none):=⟨if_pos rfl,rfl⟩;cases h2 with
   | pv h2=>
    rcases zKb hF h2 with ⟨e2,rfl⟩ | ⟨a0,c,news,e2,hnews,hcells⟩
    .obtain ⟨v',w',hrun,hres⟩:=QHa (P:=E.P) (w:=g.w) (ty:=ty) (old:=(ax,none)) (n:=0) ht he rfl;rw[k2a (x:=x) (y:=y) (w:=g.w) (by rw[hev,e2];exact hrun),jBb];obtain ⟨g',rfl,hst',hv⟩:=hst0.appended (F:=F) (l:=[]) (xs:=[]) (old:=(ax,none)) hgr rfl ho3 (news:=[]) ⟨by simp,by simp,fun i j x c hi=>by simp at hi⟩ hres;exact hK g' _ (by rw[hr'];exact hst'.put (jAd hN) hv)
    obtain ⟨v',w',hrun,hres⟩:=jqa (P:=E.P) (w:=g.w) (ty:=ty) (c:=c) (old:=(ax,none)) (n:=0) ht he hzz (by omega) rfl hnews.len hcells hnews.one hlb (by unfold maxLen;simp only[jCx]at hle;omega);rw[k2a (x:=x) (y:=y) (w:=g.w) (by rw[hev,e2];exact hrun),jBb];obtain ⟨g',rfl,hst',hv⟩:=hst0.appended (F:=F) (l:=[]) (old:=(ax,none)) hgr rfl ho3 hnews hres;exact hK g' _ (by rw[hr'];exact hst'.put (jAd hN) hv)⟩
end
section
variable {t t' :TypeId} {x y:Operand} {a b:Int}
def iOr(a b:Int):Int:=w64 ((BitVec.ofInt 64 a ||| BitVec.ofInt 64 b).toNat:Int)
def iQuo(a b:Int):Int:=w64 (a.tdiv b)
def iRem(a b:Int):Int:=a.tmod b
theorem ev_idiv{op:BinOp}{r:Int}(hx:ρ x=.i a)(hy:ρ y=.i b)(hb:(b==0)=false)(hr:(op=.quo/\r=iQuo a b)∨(op=.rem/\r=iRem a b)):EvQ P ⟨dst,.binOp op t x y t',ty,pos,af,gu⟩ ρ σ (.i r):=
 ⟨fun c=>by simp,fun g ρv h _=>by
  obtain ⟨h1,h2⟩:=ops2 (o:=⟨dst,.binOp op t x y t',ty,pos,af,gu⟩) (x:=x) (y:=y) rfl h;rw[hx]at h1;rw[hy]at h2;have e1:=kga h1;have e2:=kga h2;have hb:b≠0:=by simpa using hb
  refine ⟨.int .i64 r,?_,.pv (.b rfl)⟩;rcases hr with ⟨rfl,rfl⟩ | ⟨rfl,rfl⟩ <;> simp[execOp,e1,e2,go_sem,eqGuard,binOp,Op.intDiv,hb,iQuo,iRem]⟩
theorem ev_irem(hx:ρ x=.i a)(hy:ρ y=.i b)(hb:(b==0)=false):EvQ P ⟨dst,.binOp .rem t x y t',ty,pos,af,gu⟩ ρ σ (.i (iRem a b)):=ev_idiv hx hy hb (.inr ⟨rfl,rfl⟩)
end
end
section
open Go.RowKit Go.Lib Go.Proofs.Tryz
variable {E:Env} {fr:Fr} {σ:Sto} {K:Post} {P:Program} {ρ:Operand->AV}
variable {dst:Option Tmp} {ty:TypeId} {pos:String} {af:Array Edge} {gu:Option (Nat × Bool)}
open Classical in
noncomputable def nilE{R:Type}(e:Bool)(A B:Option R):Option R:=if e then (if A=B then B else none) else B
theorem Kxa{R:Type}{e:Bool}{A B:Option R}{r:R}(he:e=true)(h:nilE e A B=some r):A=some r:=by
 unfold nilE at h;rw[if_pos he]at h;split at h
 .rename_i hab;rw[hab];exact h
 cases h
theorem Kya{R:Type}{e:Bool}{A B:Option R}{r:R}(h:nilE e A B=some r):B=some r:=by
 unfold nilE at h;split at h
 .split at h
  .exact h
  cases h
 exact h
theorem vlb{R:Type}(e:Bool)(A B:Option R)(h:e=true->A=B):nilE e A B=B:=by
 unfold nilE;split
 .rename_i he;rw[if_pos (h he)]
 rfl
section
variable {α:Type} {F:α->List PV} {l:List α} {t t' e:TypeId} {ss sb d k:Nat} {sz:Value}
theorem zSb{g:G}{v:Value}(h:Rel g (.l F l) v):(l=[]/\v=.slice none 0 0)∨∃a n c,v=.slice (some a) n c:=by
 cases h with
 | pv h=>
  obtain ⟨a',cap',size',b,off,val,hv,h0,_⟩:=Z5a h;cases a' with
  | none=>
   obtain ⟨rfl,he⟩:=h0 rfl;left;have:l=[]:=by simpa using he
   subst this;exact ⟨rfl,hv⟩
  | some a=>exact .inr ⟨a,_,_,hv⟩
theorem zTb(ne:Bool){ops:Array Oper}{rest:List Oper}(hg:gu=none)(hN:Nat.ble (k+1) E.N=true)(hd:fr.get d=.l F l)(ht:TyOk E.P t ss sb sz (.slice e))
 (h1:l.isEmpty=true->AWPL E ops rest ((k,.bo (!ne))::(d,.pv (.sl (some true) []))::fr) σ K) (h2:AWPL E ops rest ((k,.bo ne)::fr) σ K):
 AWPL E ops (⟨some k,.binOp (if ne then .neq else .eql) t (.tmp d) (.const (.slice none 0 0)) t',ty,pos,af,gu⟩::rest) fr σ K:=
 ⟨fun g a hst=>by
  subst hg;have hv:=hst.fr d;rw[hd]at hv;have hc:a.eval (.const (.slice none 0 0))=.slice none 0 0:=rfl;have hx:a.eval (.tmp d)=a.tmps.getD d undef:=rfl;simp only[wpListIn,Region.wanted,if_true];refine ⟨fun _ _=>trivial,?_⟩;rw[jAy _ _ _ (fun c=>by simp)];rcases zSb hv with ⟨hl,ev⟩ | ⟨ad,n,c,ev⟩
  .rw[W0a ne (hx.trans ev) hc ht,jBb];have hst2:=hst.reslot (d:=d) (c:=.pv (.sl (some true) [])) (by rw[ev];exact .pv (Yya _ _));have:=(h1 (by rw[hl];rfl)).go g _ (hst2.put (jAd hN) (c:=.bo (!ne)) (v:=.bool (!ne)) (.pv (.b rfl)));cases ne <;> exact this
  rw[W0a ne (hx.trans ev) hc ht,jBb];have:=h2.go g _ (hst.put (jAd hN) (c:=.bo ne) (v:=.bool ne) (.pv (.b rfl)));cases ne <;> exact this⟩
theorem y0a{ops:Array Oper}{rest:List Oper}(hg:gu=none)(hN:Nat.ble (k+1) E.N=true)(hd:fr.get d=.l F l)(ht:TyOk E.P t ss sb sz (.slice e))
 (h1:l.isEmpty=true->AWPL E ops rest ((k,.bo true)::(d,.pv (.sl (some true) []))::fr) σ K) (h2:AWPL E ops rest ((k,.bo false)::fr) σ K):
 AWPL E ops (⟨some k,.binOp .eql t (.tmp d) (.const (.slice none 0 0)) t',ty,pos,af,gu⟩::rest) fr σ K:=zTb false hg hN hd ht h1 h2
end
section
variable {t e:TypeId} {ss sb size bytes k:Nat} {sz zero:Value} {d:TypeDesc}
theorem j5a(hN:Nat.ble (k+1) E.N=true)(ht:TyOk E.P t ss sb sz (.slice e))(he:TyOk E.P e size bytes zero d):
 OpTo E ⟨some k,.buildSlice t 0 #[],ty,pos,af,gu⟩ fr σ ((k,.z0)::fr) σ:=
 ⟨fun g a K Q hst hK=>by
  refine ⟨fun _ _=>trivial,?_⟩;rw[jAy _ _ _ (fun c=>by simp)];have hrun:(execOp a.eval ⟨some k,.buildSlice t 0 #[],ty,pos,af,gu⟩).run E.P g.w=.ok (.value (.slice (some ⟨g.w.heap.size,0,none⟩) 0 0)) (g.w.alloc (.cells #[] e)):=by
   show Sem.run E.P (do let v <-Instr.buildSlice t 0 (Array.map (fun (x:Nat × Operand)=>(x.1,a.eval x.2)) #[]);pure (Next.value v)) g.w=_;simp only[Instr.buildSlice,underlying,program,jAu,Sem.run,ht.u,he.sizeOf,jAr,jBd,Nat.zero_mul,if_true];rw[if_neg (by simp)];have e1:(Array.map (fun (x:Nat × Operand)=>(x.1,a.eval x.2)) #[]).toList=[]:=by simp
   have harr:∀z:Array Value,Array.map (fun x=>z[x % z.size]!) (Array.range 0)= #[]:=by intro z;simp
   simp only[jAu,jBd,jAr,e1,Instr.fill,harr];rfl
  rw[hrun,jBb];have hold:=yYa g #[] e 0 0 (g.loc 0);have hwf:=Vca hst.so.wf #[] e 0 0 (g.loc 0);have hst' :=hst.grow hold hwf (fun q _=>by show (if q=0 then g.loc 0 else g.loc q)=g.loc q;split <;> simp_all);exact hK _ _ (hst'.put (jAd hN) (.z0 _))⟩
end
def nz(b:Int):Option Bool:=if b==0 then none else some true
end
section
theorem qga{C:Prop}(b:Bool)(h1:b=true->C)(h2:b=false->C):C:=by
 cases b
 .exact h2 rfl
 exact h1 rfl
theorem awpl_le{E:Env}{fr fr' :Fr}{σ σ' :Sto}{K:Post}{ops:Array Oper}{ol:List Oper}(hf:FrLe fr fr')(hs:kza σ σ')(h:AWPL E ops ol fr' σ' K):AWPL E ops ol fr σ K:=⟨fun g a hst=>h.go g a (hst.le hf hs)⟩
section
variable {E:Env} {fr:Fr} {σ:Sto} {K:Post} {ops:Array Oper}
theorem xr{id:Nat}{l:List Oper}{y:Code}(h:AWPL E l.toArray l fr σ (Wsa E y K)):AWP E (.seq (.region id l.toArray false) y) fr σ K:=vka (kRa h)
theorem nk{y:Code}(h:AWP E y fr σ K):AWPL E ops [] fr σ (Wsa E y K):=qna (koa h)
theorem nx{id:Nat}{l:List Oper}{y:Code}(h:AWPL E l.toArray l fr σ (Wsa E y K)):AWPL E ops [] fr σ (Wsa E (.seq (.region id l.toArray false) y) K):=nk (xr h)
end
end
section
open Go.RowKit Go.Lib Go.Proofs.Tryz
variable {E:Env} {fr:Fr} {σ:Sto} {K:Post}
abbrev Objs:=List (Option (Nat × List AV))
def YHa:List Nat->Bool
 | []=>true
 | x::r=> !(r.any fun y=>Nat.beq x y) && YHa r
theorem Sok.le{S:Nat->Prop}{g0 g:G}{σ' :Sto}(h:Sok S g0 g σ)(hs:∀o ob,σ'.get o=some ob->σ.get o=some ob):Sok S g0 g σ' :=
 ⟨fun o ob ho=>h.obj o ob (hs o ob ho),fun o o' ob ob' b h1 h2=>h.apart o o' ob ob' b (hs _ _ h1) (hs _ _ h2),fun o ob b h1=>h.mine o ob b (hs _ _ h1),h.old,h.wf⟩
structure OpNew (E:Env) (o:Oper) (id:Nat) (cs:List AV):Prop where
 go:∃(vs:Array Value) (t:TypeId),vs.size=cs.length/\(∀i,i < vs.size->cellV (vs.getD i undef)=true)/\(∀(g:G) i c,cs[i]? =some c->Rel g c (vs.getD i undef))/\∀(g:G) a (K:Act->World->Prop) (Q:Exit->Act->World->Prop),K (a.put o.dst (.pointer (some ⟨g.w.heap.size,0,none⟩))) (g.alloc vs t 0 id (.blk g.w.heap.size)).w->o.wpIn (fen E.rd) 0 E.P a g.w K Q
theorem zUb{k id:Nat}{t:TypeId}{size bytes:Nat}{zero:Value}{d:TypeDesc}{cs:List AV}{ty:TypeId}{pos:String}{af:Array Edge}{gu:Option (Nat × Bool)}(ht:TyOk E.P t size bytes zero d)(hz:zero.cells.toList.map vla=cs)(hz2:zero.cells.toList.all cellV=true):OpNew E ⟨some k,.alloc t,ty,pos,af,gu⟩ id cs:=
 ⟨zero.cells,t,by subst hz;simp,fun i hi=>(by
  rw[jAw]at hz2;have:=hz2 zero.cells[i] (by simp);simpa[Array.getD,hi]using this),fun g i c hi=>(by
  subst hz;simp only[jAq,jAl,jBw]at hi;obtain ⟨v,hv,rfl⟩:=hi;rw[jAf,hv];exact yfa g v),fun g a K Q hK=>by
  refine ⟨fun _ _=>trivial,?_⟩;rw[jAy _ _ _ (fun c=>by simp)];have hr:(execOp a.eval ⟨some k,.alloc t,ty,pos,af,gu⟩).run E.P g.w=.ok (.value (.pointer (some ⟨g.w.heap.size,0,none⟩))) (g.w.alloc (.cells zero.cells t)):=by
   show Sem.run E.P (do let v <-Instr.alloc t true (.tuple #[]);pure (Next.value v)) g.w=_;simp only[Instr.alloc,jAu,ht.zeroValue,jAr,Qaa,jBd]
  rw[hr,jBb];exact hK⟩
inductive Vza (E:Env) (ops:Array Oper) (fr:Fr) (σ:Sto):List Oper->List AV->Objs->Prop
 | nil:Vza E ops fr σ [] [] []
 | run {o:Oper} {l:List Oper} {c:AV} {cs:List AV} {az:Objs} (hg:qEa ops fr o) (h:OpG E o fr σ c) (hr:Vza E ops fr σ l cs az):Vza E ops fr σ (o::l) (c::cs) (none::az)
 | skip {o:Oper} {l:List Oper} {cs:List AV} {az:Objs} (hg:j2a ops fr o) (hr:Vza E ops fr σ l cs az):Vza E ops fr σ (o::l) (.tup []::cs) (none::az)
 | new {o:Oper} {l:List Oper} {cs:List AV} {az:Objs} (id:Nat) {ds:List AV} (hg:qEa ops fr o) (h:OpNew E o id ds) (hr:Vza E ops fr σ l cs az):Vza E ops fr σ (o::l) (.ptr id 0::cs) (some (id,ds)::az)
theorem Vza.len{ops:Array Oper}{l:List Oper}{cs:List AV}{az:Objs}(h:Vza E ops fr σ l cs az):cs.length=l.length/\az.length=l.length:=by
 induction h with
 | nil=>exact ⟨rfl,rfl⟩
 | run _ _ _ ih=>simp[ih.1,ih.2]
 | skip _ _ ih=>simp[ih.1,ih.2]
 | new _ _ _ _ ih=>simp[ih.1,ih.2]
theorem Vza.get{ops:Array Oper}{l:List Oper}{cs:List AV}{az:Objs}(h:Vza E ops fr σ l cs az):∀{i:Nat} {o:Oper} {c:AV},l[i]? =some o->cs[i]? =some c->(qEa ops fr o/\OpG E o fr σ c/\az[i]? =some none)∨(j2a ops fr o/\c=.tup []/\az[i]? =some none)∨(qEa ops fr o/\∃id ds,c=.ptr id 0/\OpNew E o id ds/\az[i]? =some (some (id,ds))):=by
 induction h with
 | nil=>intro i o c h1;simp at h1
 | run hg h _ ih=>
  intro i o c h1 h2;cases i with
  | zero=>simp at h1 h2;subst h1;subst h2;exact .inl ⟨hg,h,rfl⟩
  | succ i=>exact ih (by simpa using h1) (by simpa using h2)
 | skip hg _ ih=>
  intro i o c h1 h2;cases i with
  | zero=>simp at h1 h2;subst h1;subst h2;exact .inr (.inl ⟨hg,rfl,rfl⟩)
  | succ i=>exact ih (by simpa using h1) (by simpa using h2)
 | new id hg h _ ih=>
  intro i o c h1 h2;cases i with
  | zero=>simp at h1 h2;subst h1;subst h2;exact .inr (.inr ⟨hg,id,_,rfl,h,rfl⟩)
  | succ i=>exact ih (by simpa using h1) (by simpa using h2)
end
section
section
variable {F:Fence} {n:Nat} {P:Program} {Q:Exit->Act->World->Prop} {a:Act} {w:World}
def noGoto(Q:Exit->Act->World->Prop):Exit->Act->World->Prop
 | .goto _,_,_=>False
 | e,a,w=>Q e a w
theorem wya{b:Frame}{k:List Item}{cs:List Frame}{c:Code}:step P (lone (b.atR a (.code (.scope c)::k)) cs w)=.next (lone (b.atR a (.code c:: .inScope c::k)) cs w):=
 step_lone_go (by simp[stepG,stepG.exec,Frame.atR])
theorem YIa{b:Frame}{k:List Item}{cs:List Frame}{c:Code}:step P (lone (b.atR a (.inScope c::k)) cs w)=.next (lone (b.atR a k) cs w):=
 step_lone_go (by simp[stepG,stepG.exec,Frame.atR])
theorem qhb{c:Code}(h:c.wpIn F n P (noGoto Q) a w):(Code.scope c).wpIn F n P Q a w:=by
 intro b k cs hro hb hr;have h0:(lone (b.atR a (.code (.scope c)::k)) cs w).fenced P F:=fenced_calm hb hr rfl;obtain ⟨e,a₁,w₁,hq,harr⟩:=h b (.inScope c::k) cs hro hb hr;cases e with
 | normal=>exact ⟨.normal,a₁,w₁,hq,.head h0 wya (StepsIn.trans harr (.one (fenced_calm hb hr rfl) YIa))⟩
 | exit id=>
  have hx:exitTo id (.inScope c::k)=exitTo id k:=by simp[exitTo]
  exact ⟨.exit id,a₁,w₁,hq,fun k' hk=>.head h0 wya (harr.1 k' (by rw[hx];exact hk)),
   fun hr' hk=>let ⟨k₁,h1,h2⟩:=harr.2 hr' (by rw[hx];exact hk);⟨k₁,h1,.head h0 wya h2⟩⟩
 | goto l=>exact hq.elim
 | ret=>exact ⟨_,a₁,w₁,hq,.of_steps (.one h0 wya) harr⟩
 | panic ch=>exact ⟨_,a₁,w₁,hq,.of_steps (.one h0 wya) harr⟩
 | outgrown=>exact ⟨_,a₁,w₁,hq,.of_steps (.one h0 wya) harr⟩
end
section
variable {E:Env} {fr:Fr} {σ:Sto} {K:Post}
def vmb(K:Post):Post
 | .goto _,_,_=>False
 | e,fr,σ=>K e fr σ
theorem vnb{c:Code}(h:AWP E c fr σ (vmb K)):AWP E (.scope c) fr σ K:=
 ⟨fun g a hs=>qhb (wpIn_mono (h.go g a hs) fun e a' w' ⟨g',fr',σ',h1,h2,h3⟩=>by
  cases e <;> first | exact ⟨g',fr',σ',h1,h2,h3⟩ | exact h3.elim)⟩
theorem vob{l:Nat}(h:K .normal fr σ):AWP E (.label l) fr σ K:=⟨fun g a hs=>wpIn_label ⟨g,fr,σ,rfl,hs,h⟩⟩
theorem St.itset{g:G}{a:Act}{o pos' :Nat}{s:ByteArray}{pos:Nat}(h:St E g a fr σ)(ho:σ.get o=some (.it s pos)):∃b,g.loc o=.blk b/\g.w.heap[b]? =some (.stringIter s pos)/\St E ⟨{g.w with heap:=g.w.heap.setIfInBounds b (.stringIter s pos')},g.u,g.loc⟩ a fr (σ.upd o (.it s pos')):=by
 cases h.so.obj o _ ho with
 | @it _ _ b hl hb hu=>
  refine ⟨b,hl,hb,?_⟩;have hbl:=kMa hb;generalize hw:({g.w with heap:=g.w.heap.setIfInBounds b (.stringIter s pos')}:World)=w';have hheap:∀k,k≠b->w'.heap[k]? =g.w.heap[k]? :=fun k hk=>by subst hw;exact jCn (Ne.symm hk)
  have hnew:w'.heap[b]? =some (.stringIter s pos'):=by subst hw;exact Array.getElem?_setIfInBounds_self_of_lt hbl
  have hsz:w'.heap.size=g.w.heap.size:=by subst hw;simp
  have hx:Ext g.w g.u w' g.u:=⟨jBr hsz.symm,fun _ _=>jBc _,fun k i hk hi=>by
   by_cases hkb:k=b
   .subst hkb;simp[World.cell?,hb,hnew]
   simp only[World.cell?];rw[hheap k hkb],fun r hr=>(hheap r (by rintro rfl;rw[hb]at hr;cases hr)).trans hr⟩
  have hget:=Sto.get_upd (ob:=.it s pos') ho;have hsome:∀k ob,(σ.upd o (.it s pos')).get k=some ob->∃ob',σ.get k=some ob' /\∀l,ob'.own l=ob.own l:=by
   intro k ob hk;rw[hget]at hk;split at hk
   .rename_i hko;cases hk;exact ⟨.it s pos,hko▸ho,fun _=>rfl⟩
   exact ⟨_,hk,fun _=>rfl⟩
  refine ⟨fun d=>(h.fr d).mono (g' :=⟨w',g.u,g.loc⟩) hx (fun _ _=>rfl),h.n,h.df.mono hx,⟨?_,fun k k' ob ob' b' h1 h2=>?_,fun k ob b' h1=>?_,?_,?_⟩⟩
  .intro k ob hk;rw[hget]at hk;split at hk
   .rename_i hko;subst hko;cases hk;exact .it hl hnew hu
   rename_i hko;refine (h.so.obj k ob hk).mono (g' :=⟨w',g.u,g.loc⟩) hx rfl (fun _ _=>rfl) fun b' hb' =>⟨hheap b' ?_,rfl⟩
   rintro rfl;exact hko (h.so.apart k o ob _ b' hk ho hb' (by rw[hl];rfl))
  .obtain ⟨_,e1,q1⟩:=hsome k _ h1;obtain ⟨_,e2,q2⟩:=hsome k' _ h2;rw[<-q1,<-q2];exact h.so.apart k k' _ _ b' e1 e2
  .obtain ⟨_,e1,q1⟩:=hsome k _ h1;rw[<-q1];exact h.so.mine k _ b' e1
  .refine h.so.old.trans ⟨by subst hw;rfl,by subst hw;rfl,by subst hw;rfl,hx,fun k hk hs=>⟨hheap k ?_,rfl⟩⟩;rintro rfl;rcases h.so.mine o _ k ho (by rw[hl];rfl) with h1 | h1
   .exact hs (.inr h1)
   exact hs (.inl h1)
  intro k hk;exact h.so.wf k (by rw[<-hsz];exact hk)
variable {ty:TypeId} {pos:String} {af:Array Edge} {gu:Option (Nat × Bool)} {x:Operand} {t t' :TypeId} {ss sb ss' sb' :Nat} {sz sz' :Value}
theorem qib{k:Nat}(id:Nat){s:Str}(hN:Nat.ble (k+1) E.N=true)(hx:fr.ev x=.s s)(ht:TyOk E.P t ss sb sz .string)(hf:fr.has id=false)(hs:σ.has id=false):
 OpTo E ⟨some k,.range t x,ty,pos,af,gu⟩ fr σ ((k,.ptr id 0)::fr) ((id,.it (strB s) 0)::σ):=
 ⟨fun g a K Q hst hK=>by
  refine ⟨fun _ _=>trivial,?_⟩;rw[jAy _ _ _ (fun c=>by simp)];have h1:=hst.ev x;rw[hx]at h1;have e1:=kga h1;have hr:(execOp a.eval ⟨some k,.range t x,ty,pos,af,gu⟩).run E.P g.w=.ok (.value (.pointer (some ⟨g.w.heap.size,0,none⟩))) (g.w.alloc (.stringIter (strB s) 0)):=by
   show Sem.run E.P (do let v <-Instr.range t (a.eval x);pure (Next.value v)) g.w=_;rw[e1];simp only[Instr.range,underlying,program,jAu,Sem.run,ht.u,jAr];rfl
  rw[hr,jBb];have hnew:(g.w.alloc (.stringIter (strB s) 0)).heap[g.w.heap.size]? =some (.stringIter (strB s) 0):=by show (g.w.heap.push _)[g.w.heap.size]? =_;simp
  have hold:Old (fun _=>False) g ⟨g.w.alloc (.stringIter (strB s) 0),fun q=>if q=g.w.heap.size then 0 else g.u q,fun q=>if q=id then .blk g.w.heap.size else g.loc q⟩:=by
   refine ⟨rfl,rfl,rfl,⟨by show g.w.heap.size<=(g.w.alloc _).heap.size;simp,fun q hq=>by dsimp only;split <;> omega,fun q i hq hi=>?_,fun r hr=>(Below.heap_alloc _ _ _ (kMa hr)).trans hr⟩,fun q hq _=>⟨Below.heap_alloc _ _ _ hq,by dsimp only;split <;> omega⟩⟩;simp only[World.cell?];rw[show (g.w.alloc (.stringIter (strB s) 0)).heap[q]? =g.w.heap[q]? from Below.heap_alloc _ _ _ hq]
  have hwf:Wf ⟨g.w.alloc (.stringIter (strB s) 0),fun q=>if q=g.w.heap.size then 0 else g.u q,fun q=>if q=id then .blk g.w.heap.size else g.loc q⟩:=by
   intro q hq;have hq:g.w.heap.size+1<=q:=by simpa using hq
   show (if q=g.w.heap.size then 0 else g.u q)=0;rw[if_neg (by omega)];exact hst.so.wf q (by omega)
  have hst' :=hst.addObj id (ob:=.it (strB s) 0) hf hs hold hwf (fun q hq=>if_neg hq) (.it (if_pos rfl) hnew (if_pos rfl)) (fun b hb=>by
   simp only[AO.own,if_true,Loc.block]at hb;cases hb;omega)
  exact hK _ _ (hst'.put (jAd hN) (.ptr (if_pos rfl)))⟩
def ZTa(s:Str)(i:Nat):Int:=((Utf8.decode (strB s) i).1:Nat)
def y1a(s:Str)(i:Nat):Nat:=(Utf8.decode (strB s) i).2
theorem YJa{P:Program}(w:World)(s:ByteArray)(r pos:Nat)(ty:TypeId)(hb:w.heap[r]? =some (.stringIter s pos))(h:pos < s.size):
 (Instr.next (.pointer (some ⟨r,0,none⟩)) true ty).run P w=.ok (.tuple #[.bool true,.int .i64 pos,.int .i32 (Utf8.decode s pos).1]) {w with heap:=w.heap.setIfInBounds r (.stringIter s (pos+(Utf8.decode s pos).2))}:=by
 simp only[Instr.next,getObj,setObj,jAu,Sem.run,hb,Result.andThen,h,if_true];simp[goInt]
theorem YKa{P:Program}(w:World)(s:ByteArray)(r pos:Nat)(ty:TypeId)(hb:w.heap[r]? =some (.stringIter s pos))(h:¬pos < s.size):
 (Instr.next (.pointer (some ⟨r,0,none⟩)) true ty).run P w=.ok (.tuple #[.bool false]) w:=by
 simp[Instr.next,getObj,Sem.run,hb,h]
theorem vpb{ops:Array Oper}{rest:List Oper}{k o i:Nat}{s:Str}(hg:gu=none)(hN:Nat.ble (k+1) E.N=true)(hx:fr.ev x=.ptr o 0)(ho:σ.get o=some (.it (strB s) i))
 (h1:decide (i < s.length)=true->AWPL E ops rest ((k,.tup [.bo true,.i i,.pv (.b (.int .i32 (ZTa s i)))])::fr) (σ.upd o (.it (strB s) (i+y1a s i))) K)
 (h2:decide (i < s.length)=false->AWPL E ops rest ((k,.tup [.bo false])::fr) σ K):
 AWPL E ops (⟨some k,.next x true,ty,pos,af,gu⟩::rest) fr σ K:=
 ⟨fun g a hst=>by
  subst hg;have hv:=hst.ev x;rw[hx]at hv;simp only[wpListIn,Region.wanted,if_true];refine ⟨fun _ _=>trivial,?_⟩;rw[jAy _ _ _ (fun c=>by simp)];obtain ⟨b,hl,hb,hst2⟩:=hst.itset (pos' :=i+y1a s i) ho;have ev:a.eval x=.pointer (some ⟨b,0,none⟩):=by
   generalize a.eval x=v at hv;cases hv with
   | ptr hl2=>rw[hl]at hl2;cases hl2;rfl
  by_cases hlt:i < s.length
  .have hr:(execOp a.eval ⟨some k,.next x true,ty,pos,af,none⟩).run E.P g.w=.ok (.value (.tuple #[.bool true,.int .i64 i,.int .i32 (ZTa s i)])) {g.w with heap:=g.w.heap.setIfInBounds b (.stringIter (strB s) (i+y1a s i))}:=by
    show Sem.run E.P (do let v <-Instr.next (a.eval x) true ty;pure (Next.value v)) g.w=_;rw[ev,jAu,YJa g.w (strB s) b i ty hb (by rw[kBa];exact hlt)];rfl
   rw[hr,jBb];exact (h1 (decide_eq_true hlt)).go ⟨_,_,_⟩ _ (hst2.put (jAd hN) (.tup rfl (fun j c hj=>by
    match j,hj with
    | 0,hj=>simp at hj;subst hj;exact .pv (.b rfl)
    | 1,hj=>simp at hj;subst hj;exact .pv (.b rfl)
    | 2,hj=>simp at hj;subst hj;exact .pv (.b rfl)
    | j+3,hj=>simp at hj)))
  have hr:(execOp a.eval ⟨some k,.next x true,ty,pos,af,none⟩).run E.P g.w=.ok (.value (.tuple #[.bool false])) g.w:=by
   show Sem.run E.P (do let v <-Instr.next (a.eval x) true ty;pure (Next.value v)) g.w=_;rw[ev,jAu,YKa g.w (strB s) b i ty hb (by rw[kBa];exact hlt)];rfl
  rw[hr,jBb];exact (h2 (decide_eq_false hlt)).go g _ (hst.put (jAd hN) (.tup rfl (fun j c hj=>by
   match j,hj with
   | 0,hj=>simp at hj;subst hj;exact .pv (.b rfl)
   | j+1,hj=>simp at hj)))⟩
end
section
variable {P:Program} {ρ:Operand->AV} {σ:Sto} {dst:Option Tmp} {ty:TypeId} {pos:String} {af:Array Edge} {gu:Option (Nat × Bool)} {x:Operand} {t t' :TypeId} {ss sb ss' sb' :Nat} {sz sz' :Value}
theorem ev_u8i32{c:UInt8}(hx:ρ x=.u8 c)(ha:TyOk P t ss sb sz (.int .u8))(hb:TyOk P t' ss' sb' sz' (.int .i32)):EvQ P ⟨dst,.convert t t' x,ty,pos,af,gu⟩ ρ σ (.pv (.b (.int .i32 (c.toNat:Int)))):=
 ⟨fun c=>by simp,fun g ρv h _=>by
  have h1:=h x (by simp[Op.operands]);rw[hx]at h1;have e1:=kga h1;have hlt:=c.toNat_lt;have hw:IntKind.i32.wrap (c.toNat:Int)=c.toNat:=by simp only[IntKind.wrap,IntKind.bits,IntKind.signed];simp;omega
  refine ⟨.int .i32 c.toNat,?_,.pv (.b rfl)⟩;simp[execOp,convert,e1,go_sem,underlying,ha.u,hb.u,Conv.intToInt,hw]⟩
theorem ev_i32u8{n:Int}(hx:ρ x=.pv (.b (.int .i32 n)))(ha:TyOk P t ss sb sz (.int .i32))(hb:TyOk P t' ss' sb' sz' (.int .u8)):EvQ P ⟨dst,.convert t t' x,ty,pos,af,gu⟩ ρ σ (.u8 (toU8 n)):=
 ⟨fun c=>by simp,fun g ρv h _=>by
  have h1:=h x (by simp[Op.operands]);rw[hx]at h1;have e1:=kga h1;refine ⟨.int .u8 (toU8 n).toNat,?_,.pv (.b rfl)⟩;simp[execOp,convert,e1,go_sem,underlying,ha.u,hb.u,Conv.intToInt,zHb]⟩
def wJa(n:Int):Str:=(Utf8.encode n).data.toList
theorem ev_i32s{n:Int}(hx:ρ x=.pv (.b (.int .i32 n)))(ha:TyOk P t ss sb sz (.int .i32))(hb:TyOk P t' ss' sb' sz' .string):EvQ P ⟨dst,.convert t t' x,ty,pos,af,gu⟩ ρ σ (.s (wJa n)):=
 ⟨fun c=>by simp,fun g ρv h _=>by
  have h1:=h x (by simp[Op.operands]);rw[hx]at h1;have e1:=kga h1;refine ⟨.string (Utf8.encode n),?_,.pv (.b rfl)⟩;simp[execOp,convert,e1,go_sem,underlying,ha.u,hb.u,Conv.intToString]⟩
end
end
section
structure VAa where
 size:Nat
 bytes:Nat
 zero:Value
 desc:TypeDesc
 pl:Option (Array (Nat × Nat))
abbrev Tab:=List (Nat × VAa)
def Tab.get:Tab->Nat->Option VAa
 | [],_=>none
 | (k,a)::r,t=>bif Nat.beq k t then some a else Tab.get r t
structure RowOk (P:Program) (t:TypeId) (r:VAa):Prop where
 ty:TyOk P t r.size r.bytes r.zero r.desc
 pl:∀fs p,r.desc=.struct fs->r.pl=some p->∀w,Sem.run P (fs.mapM fun f=>do pure (f.offset,<-sizeOf f.type)) w=.ok p w
def kVa(P:Program)(T:Tab):Prop:=∀t r,T.get t=some r->RowOk P t r
theorem tab_nil{P:Program}:kVa P []:=fun t r h=>by simp[Tab.get]at h
theorem Tab.get_cons(k:Nat)(a:VAa)(T:Tab)(t:Nat):Tab.get ((k,a)::T) t=if k=t then some a else Tab.get T t:=by
 by_cases h:k=t
 .subst h;simp[Tab.get]
 have:Nat.beq k t=false:=by cases hb:Nat.beq k t with
  | false=>rfl
  | true=>exact absurd (jAo hb) h
 simp[Tab.get,this,h]
theorem vqb{P:Program}{T:Tab}{k:Nat}{r:VAa}(h:RowOk P k r)(hT:kVa P T):kVa P ((k,r)::T):=fun t r' h' =>by
 rw[Tab.get_cons]at h';split at h'
 .rename_i hk;subst hk;cases h';exact h
 exact hT t r' h'
theorem k3a{P:Program}{T:Tab}{k size bytes:Nat}{zero:Value}{d:TypeDesc}(h:TyOk P k size bytes zero d)(hT:kVa P T):kVa P ((k,⟨size,bytes,zero,d,none⟩)::T):=
 vqb ⟨h,fun fs p _ h=>by cases h⟩ hT
theorem k8a{P:Program}{T:Tab}{k size bytes:Nat}{zero:Value}{fs:Array Field}{p:Array (Nat × Nat)}(h:TyOk P k size bytes zero (.struct fs))(hp:∀w,Sem.run P (fs.mapM fun f=>do pure (f.offset,<-sizeOf f.type)) w=.ok p w)(hT:kVa P T):kVa P ((k,⟨size,bytes,zero,.struct fs,some p⟩)::T):=
 vqb ⟨h,fun fs' p' h1 h2=>by cases h1;cases h2;exact hp⟩ hT
def AV.force:AV->Option AV
 | .any=>some .any
 | .pv p=>some (.pv p)
 | .agg cs=>some (.agg cs)
 | .tup vs=>some (.tup vs)
 | .ptr o f=>some (.ptr o f)
 | .ep c=>some (.ep c)
 | .hs r o=>some (.hs r o)
 | .hp r i o=>some (.hp r i o)
 | .fn f a c=>some (.fn f a c)
 | .mp o=>some (.mp o)
 | .hsub r l=>some (.hsub r l)
 | .z0=>some .z0
 | .hpre r h=>some (.hpre r h)
 | .ifc b=>some (.ifc b)
 | .ns r=>some (.ns r)
 | .np r i o=>some (.np r i o)
 | .hn r i=>some (.hn r i)
 | .hnp r i k o=>some (.hnp r i k o)
 | .nn b=>some (.nn b)
 | .ls o=>some (.ls o)
 | .mr o=>some (.mr o)
theorem AV.force_eq{c d:AV}(h:c.force=some d):c=d:=by cases c <;> simpa[AV.force]using h
def w2a:List AV->Option (List AV)
 | []=>some []
 | c::cs=>match c.force with
  | some c' =>(match w2a cs with | some cs' =>some (c' ::cs') | none=>none)
  | none=>none
theorem q5a:∀{cs ds:List AV},w2a cs=some ds->cs=ds
 | [],_,h=>by simpa[w2a]using h
 | c::cs,_,h=>by
  unfold w2a at h;split at h
  .rename_i c' hc;split at h
   .rename_i cs' hcs;cases h;rw[AV.force_eq hc,q5a hcs]
   cases h
  cases h
def JLa:List PV->Option (List PV)
 | []=>some []
 | c::cs=>match JLa cs with | some cs' =>some (c::cs') | none=>none
theorem JMa:∀{cs ds:List PV},JLa cs=some ds->cs=ds
 | [],_,h=>by simpa[JLa]using h
 | c::cs,_,h=>by
  unfold JLa at h;split at h
  .rename_i cs' hcs;cases h;rw[JMa hcs]
  cases h
def AV.str? :AV->Option Str
 | .pv (.b (.string s))=>some s.data.toList
 | _=>none
theorem AV.str?_eq{c:AV}{s:Str}(h:c.str? =some s):c=.s s:=by
 unfold AV.str? at h;split at h
 .cases h;rfl
 cases h
def Sto.updF:Sto->Nat->AO->Option Sto
 | [],_,_=>some []
 | (k,a)::r,o,ob=>match Nat.beq k o with
  | true=>some ((k,ob)::r)
  | false=>(match Sto.updF r o ob with
   | some r' =>some ((k,a)::r')
   | none=>none)
section
variable {P:Program} {T:Tab} {ρ:Operand->AV} {σ:Sto} {dst:Option Tmp} {ty:TypeId} {pos:String} {af:Array Edge} {gu:Option (Nat × Bool)} {c:AV}
def qStr(op:BinOp)(x y:Str):Option AV:=match op with
 | .eql=>some (.bo (x==y))
 | .neq=>some (.bo (x !=y))
 | .lss=>some (.bo (Op.bytesLess x y))
 | _=>none
def qCmp(op:BinOp)(x y:Int):Option AV:=match op with
 | .eql=>some (.bo (x==y))
 | .neq=>some (.bo (x !=y))
 | .lss=>some (.bo (decide (x < y)))
 | .leq=>some (.bo (decide (x<=y)))
 | .gtr=>some (.bo (decide (y < x)))
 | .geq=>some (.bo (decide (y<=x)))
 | _=>none
def qI64(op:BinOp)(x y:Int):Option AV:=match op with
 | .add=>some (.i (IntKind.wrap .i64 (x+y)))
 | .sub=>some (.i (IntKind.wrap .i64 (x - y)))
 | .mul=>some (.i (IntKind.wrap .i64 (x * y)))
 | op=>qCmp op x y
def qBool(T:Tab)(op:BinOp)(t:TypeId)(x y:Bool):Option AV:=match T.get t with
 | some ⟨_,_,_,.bool,_⟩=>(match op with | .eql=>some (.bo (x==y)) | .neq=>some (.bo (x !=y)) | _=>none)
 | _=>none
def qBin(T:Tab)(op:BinOp)(t:TypeId)(a b:AV):Option AV:=match a with
 | .pv (.b (.int .i64 x))=>(match b with | .pv (.b (.int .i64 y))=>qI64 op x y | _=>none)
 | .pv (.b (.int .u8 x))=>(match b with | .pv (.b (.int .u8 y))=>qCmp op x y | _=>none)
 | .pv (.b (.int .i32 x))=>(match b with | .pv (.b (.int .i32 y))=>qCmp op x y | _=>none)
 | .pv (.b (.int .u64 x))=>(match b with | .pv (.b (.int .u64 y))=>qCmp op x y | _=>none)
 | .pv (.b (.string x))=>(match b with | .pv (.b (.string y))=>qStr op x.data.toList y.data.toList | _=>none)
 | .pv (.b (.bool x))=>(match b with | .pv (.b (.bool y))=>qBool T op t x y | _=>none)
 | _=>none
theorem YLa{op:BinOp}{t t' :TypeId}{x y:Operand}{k:IntKind}{a b:Int}(hx:ρ x=.pv (.b (.int k a)))(hy:ρ y=.pv (.b (.int k b)))(h:qCmp op a b=some c):EvQ P ⟨dst,.binOp op t x y t',ty,pos,af,gu⟩ ρ σ c:=by
 unfold qCmp at h;split at h <;> first | (cases h;done) | skip
 all_goals cases h
 .exact ev_eql hx hy
 .exact ev_neq hx hy
 .exact ev_lss hx hy
 .exact ev_leq hx hy
 .exact ev_gtr hx hy
 exact qXb hx hy
theorem qI64_ok{op:BinOp}{t t' :TypeId}{x y:Operand}{a b:Int}(hx:ρ x=.pv (.b (.int .i64 a)))(hy:ρ y=.pv (.b (.int .i64 b)))(h:qI64 op a b=some c):EvQ P ⟨dst,.binOp op t x y t',ty,pos,af,gu⟩ ρ σ c:=by
 unfold qI64 at h;split at h
 .cases h;exact ev_add hx hy
 .cases h;exact ev_sub hx hy
 .cases h;exact ev_mul hx hy
 exact YLa hx hy h
theorem qStr_ok{op:BinOp}{t t' :TypeId}{x y:Operand}{a b:Str}(hx:ρ x=.s a)(hy:ρ y=.s b)(h:qStr op a b=some c):EvQ P ⟨dst,.binOp op t x y t',ty,pos,af,gu⟩ ρ σ c:=by
 unfold qStr at h;split at h <;> first | (cases h;done) | skip
 all_goals cases h
 .exact qYb hx hy
 .exact ev_sneq hx hy
 exact ev_slss hx hy
theorem qBool_ok(hT:kVa P T){op:BinOp}{t t' :TypeId}{x y:Operand}{a b:Bool}(hx:ρ x=.bo a)(hy:ρ y=.bo b)(h:qBool T op t a b=some c):EvQ P ⟨dst,.binOp op t x y t',ty,pos,af,gu⟩ ρ σ c:=by
 unfold qBool at h;split at h
 .rename_i hr;have:=(hT _ _ hr).ty;split at h
  .cases h;exact ev_beql hx hy this
  .cases h;exact ev_bneq hx hy this
  cases h
 cases h
theorem qBin_ok(hT:kVa P T){op:BinOp}{t t' :TypeId}{x y:Operand}(h:qBin T op t (ρ x) (ρ y)=some c):EvQ P ⟨dst,.binOp op t x y t',ty,pos,af,gu⟩ ρ σ c:=by
 unfold qBin at h;split at h
 .rename_i hx;split at h
  .rename_i hy;exact qI64_ok hx hy h
  cases h
 .rename_i hx;split at h
  .rename_i hy;exact YLa hx hy h
  cases h
 .rename_i hx;split at h
  .rename_i hy;exact YLa hx hy h
  cases h
 .rename_i hx;split at h
  .rename_i hy;exact YLa hx hy h
  cases h
 .rename_i hx;split at h
  .rename_i hy;exact qStr_ok hx hy h
  cases h
 .rename_i hx;split at h
  .rename_i hy;exact qBool_ok hT hx hy h
  cases h
 cases h
def qLoad(T:Tab)(σ:Sto)(t:TypeId)(v:AV):Option AV:=match T.get t with
 | none=>none
 | some row=>match v with
  | .ptr o off=>(match σ.get o with
   | some (.cells cs)=>bif dAgg row.desc then (bif Nat.ble (off+row.size) cs.length then (match w2a ((cs.drop off).take row.size) with | some l=>some (.agg l) | none=>none) else none)
    else (match cs[off]? with | some c=>c.force | none=>none)
   | _=>none)
  | .ep el=>bif dAgg row.desc then (bif Nat.beq el.length row.size then (match w2a (el.map .pv) with | some l=>some (.agg l) | none=>none) else none)
   else (match el with | c::_=>some (.pv c) | []=>none)
  | _=>none
theorem qLoad_ok(hT:kVa P T){t:TypeId}{x:Operand}(h:qLoad T σ t (ρ x)=some c):EvQ P ⟨dst,.load t x,ty,pos,af,gu⟩ ρ σ c:=by
 unfold qLoad at h;split at h
 .cases h
 rename_i row hr;have ht:=(hT _ _ hr).ty;split at h
 .rename_i o off hx;split at h
  .rename_i cs ho;cases hd:dAgg row.desc with
   | true=>
    rw[hd]at h;simp only[cond_true]at h;cases hn:Nat.ble (off+row.size) cs.length with
    | false=>rw[hn]at h;cases h
    | true=>
     rw[hn]at h;simp only[cond_true]at h;split at h
     .rename_i l hl;cases h;rw[<-q5a hl];exact ev_loadN hx ho ht hd hn
     cases h
   | false=>
    rw[hd]at h;simp only[cond_false]at h;split at h
    .rename_i c' hc;rw[<-AV.force_eq h];exact K9a hx ho ht hd hc
    cases h
  cases h
 .rename_i el hx;cases hd:dAgg row.desc with
  | true=>
   rw[hd]at h;simp only[cond_true]at h;cases hn:Nat.beq el.length row.size with
   | false=>rw[hn]at h;cases h
   | true=>
    rw[hn]at h;simp only[cond_true]at h;split at h
    .rename_i l hl;cases h;rw[<-q5a hl];exact zGb hx ht hd (jAo hn)
    cases h
  | false=>
   rw[hd]at h;simp only[cond_false]at h;split at h
   .cases h;exact WUa hx ht hd (by simp)
   cases h
 cases h
def qFA(T:Tab)(t:TypeId)(f:Nat)(v:AV):Option AV:=match T.get t with
 | some ⟨_,_,_,.struct fs,_⟩=>(match fs[f]? with
  | some fl=>(match T.get fl.type with
   | some r2=>bif Nat.beq r2.size 0 then none else (match v with
    | .ptr o off=>some (.ptr o (off+fl.offset))
    | .ep el=>bif Nat.ble fl.offset el.length then (match JLa (el.drop fl.offset) with | some l=>some (.ep l) | none=>none) else none
    | .hp r i j=>some (.hp r i (j+fl.offset))
    | _=>none)
   | none=>none)
  | none=>none)
 | _=>none
theorem qFA_ok(hT:kVa P T){t:TypeId}{f:Nat}{x:Operand}(h:qFA T t f (ρ x)=some c):EvQ P ⟨dst,.fieldAddr t x f,ty,pos,af,gu⟩ ρ σ c:=by
 unfold qFA at h;split at h
 .rename_i fs _ hr;have ht:=(hT _ _ hr).ty.u;split at h
  .rename_i fl hf;split at h
   .rename_i r2 hr2;have ht2:=(hT _ _ hr2).ty;cases hz:Nat.beq r2.size 0 with
    | true=>rw[hz]at h;cases h
    | false=>
     rw[hz]at h;simp only[cond_false]at h;split at h
     .rename_i hx;cases h;exact v0a hx ht hf ht2 hz
     .rename_i el hx;cases hle:Nat.ble fl.offset el.length with
      | false=>rw[hle]at h;cases h
      | true=>
       rw[hle]at h;simp only[cond_true]at h;split at h
       .rename_i l hl;cases h;rw[<-JMa hl];exact Vra hx ht hf ht2 hz hle
       cases h
     .rename_i hx;cases h;exact Vya hx ht hf ht2 hz
     cases h
   cases h
  cases h
 cases h
def vrb(T:Tab)(t:TypeId)(f:Nat)(v:AV):Option AV:=match T.get t with
 | some ⟨_,_,_,.struct fs,_⟩=>(match fs[f]? with
  | some fl=>(match T.get fl.type with
   | some r2=>(match v with
    | .agg cs=>bif dAgg r2.desc then none else (match cs[fl.offset]? with | some c=>c.force | none=>none)
    | _=>none)
   | none=>none)
  | none=>none)
 | _=>none
theorem vsb(hT:kVa P T){t:TypeId}{f:Nat}{x:Operand}(h:vrb T t f (ρ x)=some c):EvQ P ⟨dst,.field t x f,ty,pos,af,gu⟩ ρ σ c:=by
 unfold vrb at h;split at h
 .rename_i fs _ hr;have ht:=(hT _ _ hr).ty.u;split at h
  .rename_i fl hf;split at h
   .rename_i r2 hr2;have ht2:=(hT _ _ hr2).ty;split at h
    .rename_i cs hx;cases hd:dAgg r2.desc with
     | true=>rw[hd]at h;cases h
     | false=>
      rw[hd]at h;simp only[cond_false]at h;split at h
      .rename_i c' hc;rw[<-AV.force_eq h];exact ev_field hx ht hf ht2 hd hc
      cases h
    cases h
   cases h
  cases h
 cases h
def qLen(T:Tab)(t:TypeId)(v:AV):Option AV:=match v with
 | .pv (.b (.string s))=>(match T.get t with | some ⟨_,_,_,.string,_⟩=>some (.i s.data.toList.length) | _=>none)
 | _=>none
theorem qLen_ok(hT:kVa P T){t:TypeId}{x:Operand}(h:qLen T t (ρ x)=some c):EvQ P ⟨dst,.call ⟨.builtin .len, #[x], #[t]⟩,ty,pos,af,gu⟩ ρ σ c:=by
 unfold qLen at h;split at h
 .rename_i hx;split at h
  .rename_i hr;cases h;exact ev_slen hx (hT _ _ hr).ty.u
  cases h
 cases h
def vtb(T:Tab)(t:TypeId)(ps:List (Nat × AV)):Option AV:=match T.get t with
 | some ⟨_,_,z,.struct _,some pl⟩=>bif z.cells.toList.all cellV then (match w2a (z.cells.toList.map vla) with
  | some zs=>(match YAa (pl[·]?) zs ps with
   | some cs=>(match w2a cs with | some cs' =>some (.agg cs') | none=>none)
   | none=>none)
  | none=>none) else none
 | _=>none
theorem vub(hT:kVa P T){t:TypeId}{ps:List (Nat × Operand)}(h:vtb T t (ps.map fun p=>(p.1,ρ p.2))=some c):EvQ P ⟨dst,.build t ps.toArray,ty,pos,af,gu⟩ ρ σ c:=by
 unfold vtb at h;split at h
 .rename_i z fs pl hr;have hk:=hT _ _ hr;cases hz:z.cells.toList.all cellV with
  | false=>rw[hz]at h;cases h
  | true=>
   rw[hz]at h;simp only[cond_true]at h;split at h
   .rename_i zs hzs;split at h
    .rename_i cs hc;split at h
     .rename_i cs' hcs;cases h;rw[<-q5a hcs];rw[<-q5a hzs]at hc;exact ev_build hk.ty (hk.pl fs pl rfl rfl) (.inr ⟨rfl,hz⟩) hc
     cases h
    cases h
   cases h
 cases h
def qConv(T:Tab)(t t' :TypeId)(v:AV):Option AV:=match T.get t,T.get t' with
 | some ⟨_,_,_,.string,_⟩,some ⟨_,_,_,.string,_⟩=>(match v with | .pv (.b (.string s))=>some (.s s.data.toList) | _=>none)
 | some ⟨_,_,_,.int .i32,_⟩,some ⟨_,_,_,.int .u8,_⟩=>(match v with | .pv (.b (.int .i32 n))=>some (.u8 (toU8 n)) | _=>none)
 | some ⟨_,_,_,.int .i32,_⟩,some ⟨_,_,_,.string,_⟩=>(match v with | .pv (.b (.int .i32 n))=>some (.s (wJa n)) | _=>none)
 | _,_=>none
theorem qConv_ok(hT:kVa P T){t t' :TypeId}{x:Operand}(h:qConv T t t' (ρ x)=some c):EvQ P ⟨dst,.convert t t' x,ty,pos,af,gu⟩ ρ σ c:=by
 unfold qConv at h;split at h
 .rename_i h1 h2;split at h
  .rename_i hx;cases h;exact ev_s2s hx (hT _ _ h1).ty (hT _ _ h2).ty
  cases h
 .rename_i h1 h2;split at h
  .rename_i hx;cases h;exact ev_i32u8 hx (hT _ _ h1).ty (hT _ _ h2).ty
  cases h
 .rename_i h1 h2;split at h
  .rename_i hx;cases h;exact ev_i32s hx (hT _ _ h1).ty (hT _ _ h2).ty
  cases h
 cases h
theorem zVb{x:Operand}{o off:Nat}(hx:ρ x=.ptr o off):EvQ P ⟨dst,.nilCheck x,ty,pos,af,gu⟩ ρ σ (.ptr o off):=
 ⟨fun c=>by simp,fun g ρv h _=>by
  have h1:=h x (by simp[Op.operands]);rw[hx]at h1;generalize hv:ρv x=v at h1;cases h1 with
  | @ptr _ _ b hl=>
   refine ⟨_,?_,.ptr hl⟩;simp[execOp,hv]⟩
def qval(T:Tab)(ρ:Operand->AV)(σ:Sto):Op->Option AV
 | .move x=>(ρ x).force
 | .assign x=>(ρ x).force
 | .extract x i=>(match ρ x with | .tup cs=>(match cs[i]? with | some c=>c.force | none=>none) | _=>none)
 | .binOp op t x y _=>qBin T op t (ρ x) (ρ y)
 | .unOp .not _ x=>(match ρ x with | .pv (.b (.bool b))=>some (.bo (!b)) | _=>none)
 | .pick c x y=>(match ρ c with | .pv (.b (.bool b))=>(match b with | true=>(ρ x).force | false=>(ρ y).force) | _=>none)
 | .load t x=>qLoad T σ t (ρ x)
 | .fieldAddr t x f=>qFA T t f (ρ x)
 | .field t x f=>vrb T t f (ρ x)
 | .call ⟨.builtin .len,⟨[x]⟩,⟨[t]⟩⟩=>qLen T t (ρ x)
 | .build t ps=>vtb T t (ps.toList.map fun p=>(p.1,ρ p.2))
 | .convert t t' x=>qConv T t t' (ρ x)
 | .makeFunc f xs ys=>(match w2a (xs.toList.map ρ),w2a (ys.toList.map ρ) with | some a,some b=>some (.fn f a b) | _,_=>none)
 | .nilCheck x=>(match ρ x with | .ptr o off=>some (.ptr o off) | _=>none)
 | _=>none
theorem VBa(hT:kVa P T){op:Op}(h:qval T ρ σ op=some c):EvQ P ⟨dst,op,ty,pos,af,gu⟩ ρ σ c:=by
 unfold qval at h;split at h
 .rw[<-AV.force_eq h];exact kYa
 .rw[<-AV.force_eq h];exact qsa
 .split at h
  .rename_i hx;split at h
   .rename_i hc;rw[<-AV.force_eq h];exact k6b hx hc
   cases h
  cases h
 .exact qBin_ok hT h
 .split at h
  .rename_i hx;cases h;exact ev_not hx
  cases h
 .split at h
  .rename_i b hc;cases b with
   | true=>rw[<-AV.force_eq h];exact zua hc rfl
   | false=>rw[<-AV.force_eq h];exact vma hc rfl
  cases h
 .exact qLoad_ok hT h
 .exact qFA_ok hT h
 .exact vsb hT h
 .exact qLen_ok hT h
 .rename_i ps;obtain ⟨ps⟩:=ps;exact vub hT h
 .exact qConv_ok hT h
 .rename_i f xs ys;obtain ⟨xs⟩:=xs;obtain ⟨ys⟩:=ys;split at h
  .rename_i h1 h2;cases h;exact zOb (q5a h1) (q5a h2)
  cases h
 .split at h
  .rename_i hx;cases h;exact zVb hx
  cases h
 cases h
end
section
variable {E:Env} {fr:Fr} {σ:Sto} {K:Post}
def opDo(T:Tab)(N:Nat)(o:Oper)(fr:Fr)(σ:Sto):Option (Fr × Sto):=match o.dst with
 | some d=>bif Nat.ble (d+1) N then (match o.op with
  | .alloc t=>(match T.get t with
   | some row=>(match w2a (row.zero.cells.toList.map vla) with
    | some cs=>bif (row.zero.cells.toList.all cellV && !fr.has d && !σ.has d && !AV.hasL d cs) then some ((d,.ptr d 0)::fr,(d,.cells cs)::σ) else none
    | none=>none)
   | none=>none)
  | .box _ x=>(match (fr.ev x).cells with
   | some cs0=>(match w2a cs0 with
    | some cs=>bif (!fr.has d && !σ.has d && !AV.hasL d cs) then some ((d,.ptr d 0)::fr,(d,.cells cs)::σ) else none
    | none=>none)
   | none=>none)
  | op=>(match qval T fr.ev σ op with
   | some c=>some ((d,c)::fr,σ)
   | none=>none)) else none
 | none=>(match o.op with
  | .store t x y=>(match T.get t with
   | some row=>(match fr.ev x with
    | .ptr b off=>(match σ.get b with
     | some (.cells cs)=>(match (fr.ev y).cells with
      | some vs=>bif (Nat.beq vs.length row.size && Nat.ble (off+vs.length) cs.length) then (match w2a (ZNa cs off vs) with
       | some cs' =>(match Sto.updF σ b (.cells cs') with
        | some σ' =>some (fr,σ')
        | none=>none)
       | none=>none) else none
      | none=>none)
     | _=>none)
    | _=>none)
   | none=>none)
  | _=>none)
theorem vvb:∀{σ σ' :Sto} {o:Nat} {ob:AO},Sto.updF σ o ob=some σ' ->σ.upd o ob=σ'
 | [],_,_,_,h=>by simp[Sto.updF]at h;subst h;rfl
 | (k,a)::r,σ',o,ob,h=>by
  unfold Sto.updF at h;unfold Sto.upd;cases hb:Nat.beq k o with
  | true=>rw[hb]at h;cases h;rfl
  | false=>
   rw[hb]at h;dsimp only at h;split at h
   .rename_i r' hr;cases h;rw[vvb hr];rfl
   cases h
theorem YMa{T:Tab}(hT:kVa E.P T){o:Oper}{fr' :Fr}{σ' :Sto}(h:opDo T E.N o fr σ=some (fr',σ')):OpTo E o fr σ fr' σ' :=by
 obtain ⟨dst,op,ty,pos,af,gu⟩:=o;unfold opDo at h;split at h
 .rename_i d hd;dsimp only at hd;subst hd;cases hN:Nat.ble (d+1) E.N with
  | false=>rw[hN]at h;cases h
  | true=>
   rw[hN]at h;simp only[cond_true]at h;split at h
   .rename_i t;split at h
    .rename_i row hr;split at h
     .rename_i cs hcs;cases hb:(row.zero.cells.toList.all cellV && !fr.has d && !σ.has d && !AV.hasL d cs) with
      | false=>rw[hb]at h;cases h
      | true=>
       rw[hb]at h;simp only[cond_true]at h;cases h;simp only[jAs,jCb]at hb;obtain ⟨⟨⟨h1,h2⟩,h3⟩,h4⟩:=hb;exact Zwa d hN (hT _ _ hr).ty (.inr ⟨q5a hcs,h1⟩) h2 h3 h4
     cases h
    cases h
   .split at h
    .rename_i cs0 hc0;split at h
     .rename_i cs hcs;cases hb:(!fr.has d && !σ.has d && !AV.hasL d cs) with
      | false=>rw[hb]at h;cases h
      | true=>
       rw[hb]at h;simp only[cond_true]at h;cases h;simp only[jAs,jCb]at hb;obtain ⟨⟨h2,h3⟩,h4⟩:=hb;rw[q5a hcs]at hc0;exact Zxa d hN hc0 h2 h3 h4
     cases h
    cases h
   split at h
   .rename_i c hc;cases h;exact zJa rfl hN (VBa hT hc)
   cases h
 rename_i hd;dsimp only at hd;subst hd;split at h
 .subst_vars
  split at h
  .rename_i row hr;split at h
   .rename_i b off hx;split at h
    .rename_i cs ho;split at h
     .rename_i vs hy;cases hb:(Nat.beq vs.length row.size && Nat.ble (off+vs.length) cs.length) with
      | false=>rw[hb]at h;cases h
      | true=>
       rw[hb]at h;simp only[cond_true]at h;simp only[jAs]at hb;split at h
       .rename_i cs' hcs;split at h
        .rename_i s' hs';cases h;have e1:=vvb hs';rw[<-q5a hcs]at e1;rw[<-e1];exact WVa hx ho hy (hT _ _ hr).ty hb.1 hb.2
        cases h
       cases h
     cases h
    cases h
   cases h
  cases h
 cases h
def Mono(K:Post):Prop:=∀e fr σ fr' σ',FrLe fr fr' ->kza σ σ' ->K e fr' σ' ->K e fr σ
theorem qjb{y:Code}(h:Mono K):Mono (Wsa E y K):=fun e fr σ fr' σ' hf hs hk=>by
 cases e <;> first | exact JEa hf hs hk | exact h _ _ _ _ _ hf hs hk
theorem zWb{id:Nat}(h:Mono K):Mono (j0a id K):=fun e fr σ fr' σ' hf hs hk=>by
 cases e
 case exit i=>
  simp only[j0a]at hk ⊢;split
  .rename_i hi;rw[if_pos hi]at hk;exact h _ _ _ _ _ hf hs hk
  rename_i hi;rw[if_neg hi]at hk;exact h _ _ _ _ _ hf hs hk
 all_goals exact h _ _ _ _ _ hf hs hk
theorem vwb{J:Type}{frs:J->Fr}{stos:J->Sto}{M:J->Prop}(h:Mono K):Mono (JoinK K frs stos M):=fun e fr σ fr' σ' hf hs hk=>by
 cases e
 case normal=>
  obtain ⟨j,hm,h1,h2⟩:=hk;exact ⟨j,hm,Zva hf h1,qya hs h2⟩
 all_goals exact h _ _ _ _ _ hf hs hk
theorem qkb(h:Mono K):Mono (vmb K):=fun e fr σ fr' σ' hf hs hk=>by
 cases e <;> first | exact h _ _ _ _ _ hf hs hk | exact hk.elim
theorem vxb{e0:Exit}{fr0:Fr}{σ0:Sto}:Mono (At e0 fr0 σ0):=fun e fr σ fr' σ' hf hs ⟨h1,h2,h3⟩=>⟨h1,Zva hf h2,qya hs h3⟩
theorem Qia{A R:Type}{frs:A->Fr}{stos:A->Sto}{e0:R->Exit}{fr0:R->Fr}{σ0:R->Sto}{x:Step A R}:Mono (Ksa frs stos (fun b=>At (e0 b) (fr0 b) (σ0 b)) x):=fun e fr σ fr' σ' hf hs hk=>by
 cases x with
 | cont s=>exact vxb e fr σ fr' σ' hf hs hk
 | out r=>exact ⟨hk.1,vxb e fr σ fr' σ' hf hs hk.2⟩
theorem vyb{P:Program}{fn:Func}{r:AV}:Mono (Kret P fn r):=fun e fr σ fr' σ' hf hs ⟨h1,cs,h2,h3⟩=>⟨h1,cs,h2.le hf hs,h3⟩
inductive KS where
 | base (K:Post) (h:Mono K)
 | th (y:Code) (k:KS)
 | bl (id:Nat) (k:KS)
 | sc (k:KS)
 | jo {J:Type} (frs:J->Fr) (stos:J->Sto) (M:J->Prop) (k:KS)
def KS.post(E:Env):KS->Post
 | .base K _=>K
 | .th y k=>Wsa E y (k.post E)
 | .bl id k=>j0a id (k.post E)
 | .sc k=>vmb (k.post E)
 | .jo frs stos M k=>JoinK (k.post E) frs stos M
theorem KS.mono(E:Env):∀k:KS,Mono (k.post E)
 | .base _ h=>h
 | .th _ k=>qjb (k.mono E)
 | .bl _ k=>zWb (k.mono E)
 | .sc k=>qkb (k.mono E)
 | .jo _ _ _ k=>vwb (k.mono E)
inductive GS where
 | ops (ops:Array Oper) (l:List Oper) (fr:Fr) (σ:Sto) (k:KS)
 | code (c:Code) (fr:Fr) (σ:Sto) (k:KS)
 | at (e:Exit) (fr:Fr) (σ:Sto) (k:KS)
def GS.holds(E:Env):GS->Prop
 | .ops o l fr σ k=>AWPL E o l fr σ (k.post E)
 | .code c fr σ k=>AWP E c fr σ (k.post E)
 | .at e fr σ k=>k.post E e fr σ
def GS.step(T:Tab)(N:Nat):GS->Option GS
 | .ops o l fr σ k=>(match l with
  | []=>some (.at .normal fr σ k)
  | x::rest=>(match x.guard with
   | none=>(match opDo T N x fr σ with | some (fr',σ')=>some (.ops o rest fr' σ' k) | none=>none)
   | some (j,want)=>(match (o[j]?).bind (·.dst) with
    | none=>none
    | some d=>(match fr.get d with
     | .pv (.b (.bool t))=>(match (match t,want with | true,w=>w | false,w=> !w) with
      | true=>(match opDo T N x fr σ with | some (fr',σ')=>some (.ops o rest fr' σ' k) | none=>none)
      | false=>(match x.dst with | some d=>some (.ops o rest ((d,.tup [])::fr) σ k) | none=>some (.ops o rest fr σ k)))
     | .tup []=>(match x.dst with | some d=>some (.ops o rest ((d,.tup [])::fr) σ k) | none=>some (.ops o rest fr σ k))
     | _=>none))))
 | .code c fr σ k=>(match c with
  | .seq x y=>some (.code x fr σ (.th y k))
  | .region _ os draw=>(match draw with | false=>some (.ops os os.toList fr σ k) | true=>none)
  | .block id x=>some (.code x fr σ (.bl id k))
  | .scope x=>some (.code x fr σ (.sc k))
  | .label _=>some (.at .normal fr σ k)
  | .skip=>some (.at .normal fr σ k)
  | .ret=>some (.at .ret fr σ k)
  | .exit i=>some (.at (.exit i) fr σ k)
  | .cond v x y=>(match fr.ev v with
   | .pv (.b (.bool t))=>(match t with | true=>some (.code x fr σ k) | false=>some (.code y fr σ k))
   | _=>none)
  | _=>none)
 | .at e fr σ k=>(match k with
  | .base _ _=>none
  | .th y k=>(match e with
   | .normal=>some (.code y fr σ k)
   | .ret=>some (.at .ret fr σ k)
   | .exit i=>some (.at (.exit i) fr σ k)
   | _=>none)
  | .bl id k=>(match e with
   | .normal=>some (.at .normal fr σ k)
   | .ret=>some (.at .ret fr σ k)
   | .exit i=>(match Nat.beq i id with | true=>some (.at .normal fr σ k) | false=>some (.at (.exit i) fr σ k))
   | _=>none)
  | .sc k=>(match e with
   | .normal=>some (.at .normal fr σ k)
   | .ret=>some (.at .ret fr σ k)
   | .exit i=>some (.at (.exit i) fr σ k)
   | _=>none)
  | .jo _ _ _ k=>(match e with
   | .ret=>some (.at .ret fr σ k)
   | .exit i=>some (.at (.exit i) fr σ k)
   | _=>none))
def GS.run(T:Tab)(N:Nat):Nat->GS->Option GS
 | 0,g=>some g
 | n+1,g=>match GS.step T N g with
  | some g' =>GS.run T N n g'
  | none=>none
theorem step_ok{T:Tab}(hT:kVa E.P T){g g' :GS}(h:GS.step T E.N g=some g')(hh:g'.holds E):g.holds E:=by
 unfold GS.step at h;split at h
 .rename_i o l fr σ k;split at h
  .cases h;exact qna hh
  rename_i x rest;split at h
  .rename_i hg;split at h
   .rename_i fr' σ' ho;cases h;exact zGa hg (YMa hT ho) hh
   cases h
  rename_i j want hg;split at h
  .cases h
  rename_i d hj;split at h
  .rename_i t hv;split at h
   .rename_i hw;have ht:t=want:=by cases t <;> cases want <;> simp_all
    split at h
    .rename_i fr' σ' ho;cases h;exact w6a hg hj hv ht (YMa hT ho) hh
    cases h
   rename_i hw;have ht:t= !want:=by cases t <;> cases want <;> simp_all
   split at h
   .rename_i d' hd;cases h;exact yRa hg hj hv ht (by rw[hd];exact hh)
   rename_i hd;cases h;exact yRa hg hj hv ht (by rw[hd];exact hh)
  .rename_i hv;split at h
   .rename_i d' hd;cases h;exact JFa hg hj hv (by rw[hd];exact hh)
   rename_i hd;cases h;exact JFa hg hj hv (by rw[hd];exact hh)
  cases h
 .rename_i c fr σ k;split at h
  .cases h;exact vka hh
  .rename_i id ops draw;cases draw with
   | false=>cases h;obtain ⟨ops⟩:=ops;exact kRa hh
   | true=>cases h
  .cases h;exact Voa hh
  .cases h;exact vnb hh
  .cases h;exact vob hh
  .cases h;exact Ywa hh
  .cases h;exact K6a hh
  .cases h;exact kyb hh
  .split at h
   .rename_i t hv;cases t with
    | true=>cases h;exact Kra hv (fun _=>hh) (fun h=>nomatch h)
    | false=>cases h;exact Kra hv (fun h=>nomatch h) (fun _=>hh)
   cases h
  cases h
 rename_i e fr σ k;split at h
 .cases h
 .split at h <;> first | (cases h;done) | (cases h;exact hh)
 .split at h
  .cases h;exact hh
  .cases h;exact hh
  .rename_i id k _ i;cases hb:Nat.beq i id with
   | true=>rw[hb]at h;cases h;have:=jAo hb;subst this;exact Vpa hh
   | false=>rw[hb]at h;cases h;exact JBa hb hh
  cases h
 .split at h <;> first | (cases h;done) | (cases h;exact hh)
 split at h <;> first | (cases h;done) | (cases h;exact hh)
theorem rn{T:Tab}(hT:kVa E.P T)(n:Nat){g g' :GS}(h:GS.run T E.N n g=some g')(hh:g'.holds E):g.holds E:=by
 induction n generalizing g with
 | zero=>simp only[GS.run,Option.some.injEq]at h;subst h;exact hh
 | succ n ih=>
  unfold GS.run at h;split at h
  .rename_i g1 h1;exact step_ok hT h1 (ih h)
  cases h
end
end
section
open Go.RowKit Go.Lib Go.Proofs.Tryz
variable {E:Env} {fr:Fr} {σ:Sto} {K:Post} {P:Program} {ρ:Operand->AV}
variable {dst:Option Tmp} {ty:TypeId} {pos:String} {af:Array Edge} {gu:Option (Nat × Bool)} {x y:Operand} {r:Nat} {l:List UInt8} {t tx e:TypeId}
section
variable {n:Int} {kk:IntKind} {v v' :UInt8} {ss sb s1 s2:Nat} {sz zero:Value}
end
end
section
open Go.RowKit Go.Lib Go.Proofs.Tryz
variable {E:Env} {fr:Fr} {σ:Sto} {K:Post} {P:Program} {ρ:Operand->AV}
variable {dst:Option Tmp} {ty:TypeId} {pos:String} {af:Array Edge} {gu:Option (Nat × Bool)}
def zrep{α:Type}(lim:Nat)(n:Int)(z:α):Option (List α):=if 0 < n/\n.toNat<=lim then some (List.replicate n.toNat z) else none
section
variable {α:Type} {F:α->List PV} {r' :List α} {r size bytes sb ss s1 b1 k lim:Nat} {e t tn:TypeId} {zero sz z1:Value} {d d1:TypeDesc} {x y:Operand} {n:Int} {kn:IntKind} {z:α}
theorem JNa(hx:ρ x=.pv (.sl (some true) []))(ht:P.underlying t=some (.slice e)):EvQ P ⟨dst,.call ⟨.builtin .cap, #[x], #[t]⟩,ty,pos,af,gu⟩ ρ σ (.i 0):=
 ⟨fun c=>by simp,fun g ρv h hs=>by
  have h1:=h x (by simp[Op.operands,Call.operands]);rw[hx]at h1;have e1:=jra h1;refine ⟨.int .i64 0,?_,.pv (.b rfl)⟩;simp[execOp,resolve,invoke,builtin,Builtin.cap_,e1,go_sem,underlying,ht,goInt]⟩
theorem JOa(hx:ρ x=.pv (.sl (some true) []))(ht:P.underlying t=some (.slice e)):EvQ P ⟨dst,.call ⟨.builtin .len, #[x], #[t]⟩,ty,pos,af,gu⟩ ρ σ (.i 0):=
 ⟨fun c=>by simp,fun g ρv h hs=>by
  have h1:=h x (by simp[Op.operands,Call.operands]);rw[hx]at h1;have e1:=jra h1;refine ⟨.int .i64 0,?_,.pv (.b rfl)⟩;simp[execOp,resolve,invoke,builtin,Builtin.len_,e1,go_sem,underlying,ht,goInt]⟩
theorem ev_slnil{k1:IntKind}(hx:ρ x=.pv (.sl (some true) []))(hy:ρ y=.pv (.b (.int k1 0)))(ht:TyOk P t ss sb sz (.slice e))(he:TyOk P e size bytes zero d):EvQ P ⟨dst,.slice t x none (some y) none,ty,pos,af,gu⟩ ρ σ (.pv (.sl (some true) [])):=
 ⟨fun c=>by simp,fun g ρv hh hs=>by
  have h1:=hh x (by simp[Op.operands]);have h2:=hh y (by simp[Op.operands]);rw[hx]at h1;rw[hy]at h2;have e1:=jra h1;have e2:=kga h2;refine ⟨.slice none 0 0,?_,by rw[<-e1];exact h1⟩;show Sem.run P (do let v <-Instr.sliceAt t (ρv x) (Option.map ρv none) ((some y).map ρv) none;pure (Next.value v)) g.w=_;have hb:=vpa (P:=P) (w:=g.w) (len:=0) (cap:=0) (lo:=Option.map ρv none) (hi:=(some y).map ρv) (a:=0) (b:=0) (jBc _) (.inl ⟨rfl,rfl⟩) (.inr ⟨k1,by simp[e2]⟩) (Int.le_refl _) (Int.le_refl _) (Int.le_refl _);rw[e1];simp only[Instr.sliceAt,underlying,program,jAu,Sem.run,ht.u,jAr,jBd,Instr.slice,hb,he.sizeOf];rfl⟩
theorem JPa(r:Nat)(hN:Nat.ble (k+1) E.N=true)(hfr:fr.has r=false)(hsr:σ.has r=false)(hx:fr.ev x=.pv (.sl (some true) []))(hy:fr.ev y=.i n)(ht:TyOk E.P t ss sb sz (.slice e))(htn:TyOk E.P tn s1 b1 z1 (.int kn))(he:TyOk E.P e size bytes zero d)
 (hzz:(Nat.beq zero.cells.size size && Nat.ble 1 size && zero.cells.toList.all cellV)=true) (hz:zero.cells.toList.map Qha=F z) (hlim:(Nat.ble (lim * bytes) 140737488355328 && Nat.ble lim 140737488355328)=true) (h:zrep lim n z=some r'):
 OpTo E ⟨some k,.call ⟨.builtin .append, #[x,y], #[t,tn]⟩,ty,pos,af,gu⟩ fr σ ((k,.hs r 0)::fr) ((r,.row e true size (r'.map F))::σ):=
 ⟨fun g a K Q hst hK=>by
  simp only[jAs]at hzz hlim;have hz1:=jAo hzz.1.1;have hz2:=jAd hzz.1.2;have hz3:=hzz.2;rw[jAw]at hz3;have hl1:=jAd hlim.1;have hl2:=jAd hlim.2;unfold zrep at h;split at h
  .rename_i hc;obtain ⟨hn0,hnl⟩:=hc;cases h;refine ⟨fun _ _=>trivial,?_⟩;rw[jAy _ _ _ (fun c=>by simp)];have h1:=hst.ev x;rw[hx]at h1;have e1:=jra h1;have h2:=hst.ev y;rw[hy]at h2;have e2:=kga h2;obtain ⟨m,rfl⟩:∃m:Nat,n=(m:Int):=⟨n.toNat,by omega⟩;simp only[jBe]at hnl ⊢;have hm0:0 < m:=by omega
   obtain ⟨i,hi,hsz,hby,hzero⟩:=he.info;have hbytes:m * i.bytes<=281474976710656:=by
    rw[hby];have:m * bytes<=lim * bytes:=jAn _ hnl;omega
   have hr:=run_append_nil_zeros (P:=E.P) g.w t tn ty e i zero .i64 kn ht.u htn.u hi hzero m hm0 (by omega) (by omega) hbytes;rw[k2a (x:=x) (y:=y) (w:=g.w) (by rw[e1,e2];exact hr),jBb];have hge:=grownCap_ge g.w m 0 e;have hmax:=grownCap_le_maxLen g.w m 0 e (by unfold maxLen;omega);generalize hcap:grownCap g.w m 0 e=cap at hge hmax;generalize hcells:Builtin.zeroCells zero.cells m++Builtin.zeroCells zero.cells (cap - m)=cells;have hcsz:cells.size=cap * size:=by
    rw[<-hcells];simp only[Array.size_append,size_zeroCells,hz1,<-jAv]
    congr 1;omega
   have hget:∀q,q < m * size->cells.toList[q]? =zero.cells.toList[q % size]? :=by
    intro q hq;rw[<-hcells,Array.toList_append,jAk (by rw[jBj,size_zeroCells,hz1];exact hq),Kwa (by rw[hz1];exact hq),hz1]
   let gd:G:=⟨g.w.drew,g.u,g.loc⟩;have hFz:(F z).length=size:=by rw[<-hz,jAx,jBj,hz1]
   have hold:=yYa gd cells e 0 r (.row g.w.heap.size 0 cap size m);have hold' :Old (fun _=>False) g (gd.alloc cells e 0 r (.row g.w.heap.size 0 cap size m)):=⟨hold.os,hold.tape,hold.output,⟨hold.ext.1,hold.ext.2,hold.ext.3,hold.ext.4⟩,hold.block⟩;have hwf:=Vca (g:=gd) hst.so.wf cells e 0 r (.row g.w.heap.size 0 cap size m);have hblk:(gd.alloc cells e 0 r (.row g.w.heap.size 0 cap size m)).w.heap[g.w.heap.size]? =some (.cells cells e (0,0)):=heap_alloc_new g.w.drew _;have hloc:(gd.alloc cells e 0 r (.row g.w.heap.size 0 cap size m)).loc r=.row g.w.heap.size 0 cap size m:=if_pos rfl;have hst' :=hst.addObj r (ob:=.row e true size ((List.replicate m z).map F)) hfr hsr hold' hwf (fun q hq=>if_neg hq) (.row (off:=0) (by rw[hloc];simp) hblk (by rw[jCc];exact hcsz) hmax (by simpa using hge) (fun w hw=>by
    obtain ⟨w',hw',rfl⟩:=jBy.1 hw;rw[jDe]at hw';rw[hw'.2,hFz]) (by show (if g.w.heap.size=g.w.heap.size then 0 else _)<=_;simp) (fun _=>if_pos rfl) (fun i' j w c hi' hj=>by
    simp only[jAq,jAl]at hi';obtain ⟨w',hw',rfl⟩:=hi';have him:i' < m:=by have:=(jAc.1 hw').1;simpa using this
    have:w' =z:=by have:=jAe hw';rw[jDe]at this;exact this.2
    subst this;have hjs:j < size:=by rw[<-hFz];exact (jAc.1 hj).1
    have hq:i' * size+j < m * size:=by
     have:(i' +1) * size<=m * size:=jAn _ (by omega);rw[jAv]at this;omega
    rw[<-hz,jAq,jAl]at hj;obtain ⟨u,hu,rfl⟩:=hj;have h5:=hget (i' * size+j) hq;rw[jDl i',Nat.mul_add_mod,jDc hjs,hu,jDl size]at h5;rw[jCc,jAf,<-jBw,h5];exact yGa _ _ u (hz3 u (jAe hu)))) (fun b hb=>by
    simp only[AO.own,hloc,Loc.block]at hb;cases hb;exact jBc _)
   exact hK _ _ (hst'.put (jAd hN) (.hs hloc (fun _=>by simp)))
  cases h⟩
end
end
section
open Go.RowKit Go.Lib Go.Proofs.Tryz
variable {E:Env} {fr:Fr} {σ:Sto} {K:Post}
end
section
mutual
def AV.strong:AV->Bool
 | .pv (.sl (some _) _)=>true
 | .agg cs=>AV.strongL cs
 | .tup cs=>AV.strongL cs
 | _=>false
def AV.strongL:List AV->Bool
 | []=>false
 | c::cs=>c.strong || AV.strongL cs
end
def Fr.sel(fr:Fr)(p:Nat × AV):Nat × AV:=(p.1,bif p.2.strong then fr.get p.1 else (fr.get p.1).weak)
theorem frw{fr:Fr}:∀{fr' :Fr},fr'.map fr.sel=fr' ->FrLe fr fr'
 | [],_=>zYa
 | (k,a)::r,h=>by
  simp only[jDn,List.cons.injEq]at h;obtain ⟨h1,h2⟩:=h;have h3:(bif a.strong then fr.get k else (fr.get k).weak)=a:=congrArg Prod.snd h1;cases hs:a.strong with
  | true=>rw[hs]at h3;exact zea h3 (frw h2)
  | false=>rw[hs]at h3;exact qVb h3 (frw h2)
def Sto.sel(σ:Sto)(p:Nat × AO):Option AO:=match p.2 with
 | .cells cs=>bif AV.strongL cs then σ.get p.1 else (match σ.get p.1 with
  | some (.cells ds)=>some (.cells (AV.weakL ds))
  | _=>none)
 | _=>σ.get p.1
theorem stw{σ:Sto}:∀{σ' :Sto},σ'.map σ.sel=σ'.map (fun p=>some p.2)->kza σ σ'
 | [],_=>zja
 | (k,a)::r,h=>by
  simp only[jDn,List.cons.injEq]at h;obtain ⟨h1,h2⟩:=h;unfold Sto.sel at h1;split at h1
  .rename_i cs hc;dsimp only at hc;subst hc;cases hs:AV.strongL cs with
   | true=>rw[hs]at h1;exact zda h1 (stw h2)
   | false=>
    rw[hs]at h1;simp only[cond_false]at h1;split at h1
    .rename_i ds hd;simp only[Option.some.injEq,AO.cells.injEq]at h1;exact K7a hd h1 (stw h2)
    cases h1
  exact zda h1 (stw h2)
theorem kpw{fr:Fr}:∀{l:Fr},l.map (fun p=>fr.get p.1)=l.map (·.2)->Keep fr l
 | [],_=>.nil
 | (k,a)::r,h=>by
  simp only[jDn,List.cons.injEq]at h;exact .cons h.1 (kpw h.2)
theorem hdw{σ:Sto}{base:Nat}{T:Array Value}:∀{l:Fr},l.map (fun p=>σ.get (base+p.1))=l.map (fun p=>some (.hold p.2 (T.getD p.1 undef)))->Held σ base T l
 | [],_=>.nil
 | (k,a)::r,h=>by
  simp only[jDn,List.cons.injEq]at h;exact .cons h.1 (hdw h.2)
section
variable {E:Env} {fr:Fr} {σ:Sto} {k:KS} {ops:Array Oper} {l:List Oper} {R:Type} {r:R} {A B:Option R} {t:Bool}
theorem hO(h:(GS.ops ops l fr σ k).holds E):AWPL E ops l fr σ (k.post E):=h
theorem hC{c:Code}(h:(GS.code c fr σ k).holds E):AWP E c fr σ (k.post E):=h
theorem hB{K:Post}{c:Code}(hK:Mono K)(h:(GS.code c fr σ (.base K hK)).holds E):AWP E c fr σ K:=h
theorem hA{e:Exit}(h:(GS.at e fr σ k).holds E):k.post E e fr σ:=h
theorem St.relit{g:G}{a:Act}(h:St E g a fr σ){d:Nat}(hd:fr.get d=.pv (.b (.bool t))):St E g a ((d,.pv (.b (.bool t)))::fr) σ:=h.reslot (by rw[<-hd];exact h.fr d)
theorem kn(d:Nat){b:Bool}(hc:t=b)(hd:fr.get d=.pv (.b (.bool t)))(h:(GS.ops ops l ((d,.pv (.b (.bool b)))::fr) σ k).holds E):(GS.ops ops l fr σ k).holds E:=by
 subst hc;exact ⟨fun g a hs=>h.go g a (hs.relit hd)⟩
theorem bs(d:Nat)(hr:(bif t then A else B)=some r)(hd:fr.get d=.pv (.b (.bool t)))(hT:t=true->A=some r->(GS.ops ops l ((d,.pv (.b (.bool true)))::fr) σ k).holds E)(hF:t=false->B=some r->(GS.ops ops l ((d,.pv (.b (.bool false)))::fr) σ k).holds E):(GS.ops ops l fr σ k).holds E:=by
 cases t with
 | true=>exact kn d rfl hd (hT rfl hr)
 | false=>exact kn d rfl hd (hF rfl hr)
theorem ac(d:Nat){x y:Code}(hr:(bif t then A else B)=some r)(hd:fr.get d=.pv (.b (.bool t)))(hT:t=true->A=some r->(GS.code x ((d,.pv (.b (.bool true)))::fr) σ k).holds E)(hF:t=false->B=some r->(GS.code y ((d,.pv (.b (.bool false)))::fr) σ k).holds E):(GS.code (.cond (.tmp d) x y) fr σ k).holds E:=
 Kra (t:=t) hd (fun h=>by subst h;exact ⟨fun g a hs=>(hT rfl hr).go g a (hs.relit hd)⟩) (fun h=>by subst h;exact ⟨fun g a hs=>(hF rfl hr).go g a (hs.relit hd)⟩)
theorem jb{J:Type}{X:Option J}{f:J->Option R}{x y:Code}(hr:X.bind f=some r)(frs:J->Fr)(stos:J->Sto)(hx:∀j,X=some j->(GS.code x fr σ (.jo frs stos (fun z=>j=z) k)).holds E)(hy:∀j,f j=some r->(GS.code y (frs j) (stos j) k).holds E):(GS.code (.seq x y) fr σ k).holds E:=by
 obtain ⟨j,h1,h2⟩:=zaa hr;exact Vda frs stos (fun z=>j=z) (hx j h1) (fun _ hz=>hz▸hy j h2)
theorem jk{J:Type}{x y:Code}(frs:J->Fr)(stos:J->Sto)(M:J->Prop)(hx:(GS.code x fr σ (.jo frs stos M k)).holds E)(hy:∀j,M j->(GS.code y (frs j) (stos j) k).holds E):(GS.code (.seq x y) fr σ k).holds E:=
 Vda frs stos M hx hy
theorem jn{J:Type}{frs:J->Fr}{stos:J->Sto}{M:J->Prop}(j:J)(hm:M j)(hf:(frs j).map fr.sel=frs j)(hs:(stos j).map σ.sel=(stos j).map (fun p=>some p.2)):(GS.at .normal fr σ (.jo frs stos M k)).holds E:=⟨j,hm,frw hf,stw hs⟩
theorem ct{J:Type}{X:Option J}{f:J->Option R}{o:Oper}(hr:X.bind f=some r)(frs:J->Fr)(stos:J->Sto)
 (hx:∀j,X=some j->(∀fr' σ',(frs j).map fr'.sel=frs j->(stos j).map σ'.sel=(stos j).map (fun p=>some p.2)->AWPL E ops l fr' σ' (k.post E))->(GS.ops ops (o::l) fr σ k).holds E) (hy:∀j,f j=some r->(GS.ops ops l (frs j) (stos j) k).holds E):(GS.ops ops (o::l) fr σ k).holds E:=by
 obtain ⟨j,h1,h2⟩:=zaa hr;exact hx j h1 (fun fr' σ' hf hs=>awpl_le (frw hf) (stw hs) (hy j h2))
def isN:Exit->Bool
 | .normal=>true
 | _=>false
theorem al{A B:Type}{c:Code}{body:A->Option (Step A B)}{s:A}{f:B->Option R}(hr:(iter body s).bind f=some r)(frs:A->Fr)(stos:A->Sto)(e0:B->Exit)(fr0:B->Fr)(σ0:B->Sto)(hf:(frs s).map fr.sel=frs s)(hs:(stos s).map σ.sel=(stos s).map (fun p=>some p.2))
 (h:∀s x,body s=some x->(GS.code c (frs s) (stos s) (.base (Ksa frs stos (fun b=>At (e0 b) (fr0 b) (σ0 b)) x) Qia)).holds E)
 (hK:∀b,f b=some r->(GS.at (e0 b) (fr0 b) (σ0 b) k).holds E):(GS.code (.loop c) fr σ k).holds E:=by
 obtain ⟨b,h1,h2⟩:=zaa hr;exact kAb body frs stos (fun b=>At (e0 b) (fr0 b) (σ0 b)) (fun s x hx=>h s x hx) s h1 (frw hf) (stw hs) (fun e fr σ ⟨he,hf,hs⟩=>by
  subst he;exact k.mono E _ _ _ _ _ hf hs (hK b h2))
theorem al1{A B:Type}{c:Code}{body:A->Option (Step A B)}{s:A}{f:B->Option R}(hr:(iter body s).bind f=some r)(frs:A->Fr)(stos:A->Sto)(e0:Exit)(fr0:B->Fr)(σ0:B->Sto)(hf:(frs s).map fr.sel=frs s)(hs:(stos s).map σ.sel=(stos s).map (fun p=>some p.2))
 (h:∀s x,body s=some x->(GS.code c (frs s) (stos s) (.base (Ksa frs stos (fun b=>At ((fun _=>e0) b) (fr0 b) (σ0 b)) x) Qia)).holds E)
 (hK:∀b,f b=some r->(GS.at e0 (fr0 b) (σ0 b) k).holds E):(GS.code (.loop c) fr σ k).holds E:=al hr frs stos (fun _=>e0) fr0 σ0 hf hs h hK
theorem al2{A B C:Type}{c:Code}{body:A->Option (Step A (B ⊕ C))}{s:A}{f:B->Option R}{g:C->Option R}(hr:(iter body s).bind (Sum.elim f g)=some r)(frs:A->Fr)(stos:A->Sto)(e1:Exit)(fr1:B->Fr)(σ1:B->Sto)(e2:Exit)(fr2:C->Fr)(σ2:C->Sto)(hf:(frs s).map fr.sel=frs s)(hs:(stos s).map σ.sel=(stos s).map (fun p=>some p.2))
 (h:∀s x,body s=some x->(GS.code c (frs s) (stos s) (.base (Ksa frs stos (fun b=>At (Sum.elim (fun _=>e1) (fun _=>e2) b) (Sum.elim fr1 fr2 b) (Sum.elim σ1 σ2 b)) x) Qia)).holds E)
 (hK1:∀b,f b=some r->(GS.at e1 (fr1 b) (σ1 b) k).holds E) (hK2:∀b,g b=some r->(GS.at e2 (fr2 b) (σ2 b) k).holds E):(GS.code (.loop c) fr σ k).holds E:=
 al hr frs stos _ _ _ hf hs h (fun b hb=>by cases b with | inl b=>exact hK1 b hb | inr b=>exact hK2 b hb)
theorem atc{A B:Type}{frs:A->Fr}{stos:A->Sto}{e0:B->Exit}{fr0:B->Fr}{σ0:B->Sto}{s:A}{hm:Mono (Ksa frs stos (fun b=>At (e0 b) (fr0 b) (σ0 b)) (.cont s))}(hf:(frs s).map fr.sel=frs s)(hs:(stos s).map σ.sel=(stos s).map (fun p=>some p.2)):(GS.at .normal fr σ (.base (Ksa frs stos (fun b=>At (e0 b) (fr0 b) (σ0 b)) (.cont s)) hm)).holds E:=⟨rfl,frw hf,stw hs⟩
theorem ato{A B:Type}{e:Exit}{frs:A->Fr}{stos:A->Sto}{e0:B->Exit}{fr0:B->Fr}{σ0:B->Sto}{b:B}{hm:Mono (Ksa frs stos (fun b=>At (e0 b) (fr0 b) (σ0 b)) (.out b))}(he:e=e0 b)(hn:isN e=false)(hf:(fr0 b).map fr.sel=fr0 b)(hs:(σ0 b).map σ.sel=(σ0 b).map (fun p=>some p.2)):(GS.at e fr σ (.base (Ksa frs stos (fun b=>At (e0 b) (fr0 b) (σ0 b)) (.out b)) hm)).holds E:=
 ⟨fun h=>(by rw[h]at hn;cases hn),he,frw hf,stw hs⟩
def VCa(T:Tab)(fr:Fr)(σ:Sto):List ResultVar->Option (List AV)
 | []=>some []
 | .tmp t::r=>(match (fr.get t).force,VCa T fr σ r with | some c,some cs=>some (c::cs) | _,_=>none)
 | .cell a t::r=>(match fr.get a,T.get t with
  | .ptr o 0,some row=>(match σ.get o with
   | some (.cells ds)=>bif dAgg row.desc then (bif Nat.ble row.size ds.length then (match w2a (ds.take row.size),VCa T fr σ r with | some l,some cs=>some (.agg l::cs) | _,_=>none) else none)
    else (match ds[0]?,VCa T fr σ r with | some c,some cs=>some (c::cs) | _,_=>none)
   | _=>none)
  | _,_=>none)
theorem jwa{P:Program}{T:Tab}(hT:kVa P T):∀{l:List ResultVar} {cs:List AV},VCa T fr σ l=some cs->ResL P fr σ l cs
 | [],_,h=>by simp[VCa]at h;subst h;exact .nil
 | .tmp t::l,_,h=>by
  unfold VCa at h;split at h
  .rename_i h1 h2;cases h;exact .cons (Qba (AV.force_eq h1)) (jwa hT h2)
  cases h
 | .cell a t::l,_,h=>by
  unfold VCa at h;split at h
  .rename_i o row ha hr;have ht:=(hT _ _ hr).ty;split at h
   .rename_i ds ho;cases hd:dAgg row.desc with
    | true=>
     rw[hd]at h;simp only[cond_true]at h;cases hn:Nat.ble row.size ds.length with
     | false=>rw[hn]at h;cases h
     | true=>
      rw[hn]at h;simp only[cond_true]at h;split at h
      .rename_i h1 h2;cases h;rw[<-q5a h1];exact .cons (q0b ha ho ht hd hn) (jwa hT h2)
      cases h
    | false=>
     rw[hd]at h;simp only[cond_false]at h;split at h
     .rename_i h1 h2;cases h;exact .cons (res_cell ha ho ht hd h1) (jwa hT h2)
     cases h
   cases h
  cases h
theorem kr{P:Program}{T:Tab}(hT:kVa P T){e:Exit}{fn:Func}{cs:List AV}{r:AV}{hm:Mono (Kret P fn r)}(he:isN e=true∨e=.ret)(h:VCa T fr σ fn.results.toList=some cs)(hr:QWa cs=r):(GS.at e fr σ (.base (Kret P fn r) hm)).holds E:=
 ⟨by cases e <;> simp_all [isN],cs,jwa hT h,hr⟩
theorem rf{P:Program}{f:FuncId}{fn:Func}{c:Code}(hok:FnOk P f fn c){args:List AV}{r:AV}(hN:Nat.ble args.length fn.ntmps=true)(hr:∀k,r.has k=false)
 (h:∀g0 (hg:Gl g0),(GS.code c (k7a 0 args) [] (.base (Kret P fn r) vyb)).holds ⟨P,none,g0,fn.ntmps,false,hg,fun _=>False,fun _ _ h=>h⟩):Run P f args r:=yZa hok hN hr h
end
section
variable {E:Env} {fr:Fr} {σ:Sto} {k:KS} {ops:Array Oper} {rest:List Oper} {ty:TypeId} {pos:String} {af:Array Edge} {x y z:Operand} {t t' t2 e:TypeId}
variable {α:Type} {F:α->List PV} {l xs r' v:List α} {nl:Option Bool} {k1 k2:IntKind} {d r lim size:Nat} {n p q:Int} {mu:Bool} {b2:Nat} {z1 z2:Value} {td:TypeDesc} {T:Tab} {c:AV}
theorem ug{dst:Option Tmp}{op:Op}{j d:Nat}{want b:Bool}(hj:(ops[j]?).bind (·.dst)=some d)(hv:fr.get d=.pv (.b (.bool b)))(ht:b=want)
 (h:(GS.ops ops (⟨dst,op,ty,pos,af,none⟩::rest) fr σ k).holds E):(GS.ops ops (⟨dst,op,ty,pos,af,some (j,want)⟩::rest) fr σ k).holds E:=
 ⟨fun g a hs=>by
  have hy:=yXa hs hj hv;have hw:Region.wanted ⟨dst,op,ty,pos,af,some (j,want)⟩ (yielded ops a.tmps)=true:=by simp[Region.wanted,hy,ht]
  have h0:=h.go g a hs;have hw0:Region.wanted ⟨dst,op,ty,pos,af,none⟩ (yielded ops a.tmps)=true:=by simp[Region.wanted]
  simp only[wpListIn,hw,hw0,if_true]at h0 ⊢;exact h0⟩
theorem wo{o:Oper}{fr' :Fr}{σ' :Sto}(ho:OpTo E o fr σ fr' σ')(hg:o.guard=none)(h:(GS.ops ops rest fr' σ' k).holds E):(GS.ops ops (o::rest) fr σ k).holds E:=zGa hg ho h
theorem wq{o:Oper}(h:EvQ E.P o fr.ev σ c)(hg:o.guard=none)(hd:o.dst=some d)(hN:Nat.ble (d+1) E.N=true)(hq:(GS.ops ops rest ((d,c)::fr) σ k).holds E):(GS.ops ops (o::rest) fr σ k).holds E:=zGa hg (zJa hd hN h) hq
theorem cl{f:FuncId}{d:Nat}{xs:List Operand}{ats:Array TypeId}{args:List AV}{r:AV}(hr:Run E.P f args r)(hN:Nat.ble (d+1) E.N=true)(ha:xs.map (fun x=>(fr.ev x).weak)=args)(h:(GS.ops ops rest ((d,r)::fr) σ k).holds E):
 (GS.ops ops (⟨some d,.call ⟨.value (.func f),xs.toArray,ats⟩,ty,pos,af,none⟩::rest) fr σ k).holds E:=zGa rfl (Vsa hr hN ha) h
def Tab.sl(T:Tab)(t:TypeId):Option (TypeId × VAa):=match T.get t with
 | some ⟨_,_,_,.slice e,_⟩=>(match T.get e with | some r=>some (e,r) | none=>none)
 | _=>none
theorem Tab.sl_ok{P:Program}(hT:kVa P T){row:VAa}(h:T.sl t=some (e,row)):(∃ss sb sz,TyOk P t ss sb sz (.slice e))/\TyOk P e row.size row.bytes row.zero row.desc:=by
 unfold Tab.sl at h;split at h
 .rename_i h1;split at h
  .rename_i h2;cases h;exact ⟨⟨_,_,_,(hT _ _ h1).ty⟩,(hT _ _ h2).ty⟩
  cases h
 cases h
def Tab.st(T:Tab)(t:TypeId):Bool:=match T.get t with
 | some ⟨_,_,_,.string,_⟩=>true
 | _=>false
theorem Tab.st_ok{P:Program}(hT:kVa P T)(h:T.st t=true):∃ss sb sz,TyOk P t ss sb sz .string:=by
 unfold Tab.st at h;split at h
 .rename_i h1;exact ⟨_,_,_,(hT _ _ h1).ty⟩
 cases h
variable {row:VAa}
theorem wi{a:α}(hT:kVa E.P T)(hi:idx l n=some a)(hs:T.sl t=some (e,row))(hx:fr.ev x=.pv (.sl nl (l.map F)))(hy:fr.ev y=.pv (.b (.int k1 n)))(hz:(F a).length=row.size)(hN:Nat.ble (d+1) E.N=true)(hq:(GS.ops ops rest ((d,.ep (F a))::fr) σ k).holds E):
 (GS.ops ops (⟨some d,.indexAddr t x y,ty,pos,af,none⟩::rest) fr σ k).holds E:=by
 obtain ⟨⟨_,_,_,h1⟩,h2⟩:=Tab.sl_ok hT hs;exact zGa rfl (zJa rfl hN (q4a hx hy h1 h2 hz hi)) hq
theorem wih{a:α}(hT:kVa E.P T)(hi:idx l n=some a)(hs:T.sl t=some (e,row))(hx:fr.ev x=.hs r 0)(hy:fr.ev y=.pv (.b (.int k1 n)))(hr:σ.get r=some (.row e mu row.size (l.map F)))(hN:Nat.ble (d+1) E.N=true)(hq:(GS.ops ops rest ((d,.hp r n.toNat 0)::fr) σ k).holds E):
 (GS.ops ops (⟨some d,.indexAddr t x y,ty,pos,af,none⟩::rest) fr σ k).holds E:=by
 obtain ⟨⟨_,_,_,h1⟩,h2⟩:=Tab.sl_ok hT hs;exact zGa rfl (zJa rfl hN (ev_hidx hx hy hr h1 h2 hi)) hq
theorem ws{s:Str}{b:UInt8}(hT:kVa E.P T)(hi:idx s n=some b)(hs:T.st t=true)(hx:(fr.ev x).str? =some s)(hy:fr.ev y=.pv (.b (.int k1 n)))(hN:Nat.ble (d+1) E.N=true)(hq:(GS.ops ops rest ((d,.u8 b)::fr) σ k).holds E):
 (GS.ops ops (⟨some d,.index t x y,ty,pos,af,none⟩::rest) fr σ k).holds E:=by
 obtain ⟨_,_,_,h1⟩:=Tab.st_ok hT hs;exact zGa rfl (zJa rfl hN (Qca (AV.str?_eq hx) hy h1 hi)) hq
theorem wc{a b s:Str}(hi:cat a b=some s)(hx:(fr.ev x).str? =some a)(hy:(fr.ev y).str? =some b)(hN:Nat.ble (d+1) E.N=true)(hq:(GS.ops ops rest ((d,.s s)::fr) σ k).holds E):
 (GS.ops ops (⟨some d,.binOp .add t x y t',ty,pos,af,none⟩::rest) fr σ k).holds E:=zGa rfl (zJa rfl hN (ev_cat (AV.str?_eq hx) (AV.str?_eq hy) hi)) hq
theorem wn(hT:kVa E.P T)(hs:T.sl t=some (e,row))(hx:fr.ev x=.pv (.sl nl (l.map F)))(hN:Nat.ble (d+1) E.N=true)(hq:(GS.ops ops rest ((d,.i l.length)::fr) σ k).holds E):
 (GS.ops ops (⟨some d,.call ⟨.builtin .len, #[x], #[t]⟩,ty,pos,af,none⟩::rest) fr σ k).holds E:=by
 obtain ⟨⟨_,_,_,h1⟩,h2⟩:=Tab.sl_ok hT hs;exact zGa rfl (zJa rfl hN (kFa hx h1.u)) hq
theorem wnh(hT:kVa E.P T)(hs:T.sl t=some (e,row))(hx:fr.ev x=.hs r 0)(hr:σ.get r=some (.row e mu size (l.map F)))(hN:Nat.ble (d+1) E.N=true)(hq:(GS.ops ops rest ((d,.i l.length)::fr) σ k).holds E):
 (GS.ops ops (⟨some d,.call ⟨.builtin .len, #[x], #[t]⟩,ty,pos,af,none⟩::rest) fr σ k).holds E:=by
 obtain ⟨⟨_,_,_,h1⟩,h2⟩:=Tab.sl_ok hT hs;exact zGa rfl (zJa rfl hN (ev_hlen hx hr h1.u)) hq
def Tab.ub(T:Tab)(t t' :TypeId):Bool:=match T.get t,T.get t' with
 | some ⟨_,_,_,.int .u8,_⟩,some ⟨_,_,_,.int .i64,_⟩=>true
 | _,_=>false
theorem wu{b:UInt8}(hT:kVa E.P T)(hs:T.ub t t' =true)(hx:fr.ev x=.u8 b)(hN:Nat.ble (d+1) E.N=true)(hq:(GS.ops ops rest ((d,.i b.toNat)::fr) σ k).holds E):
 (GS.ops ops (⟨some d,.convert t t' x,ty,pos,af,none⟩::rest) fr σ k).holds E:=by
 unfold Tab.ub at hs;split at hs
 .rename_i h1 h2;exact zGa rfl (zJa rfl hN (ev_u8int hx (hT _ _ h1).ty (hT _ _ h2).ty)) hq
 cases hs
def Tab.ur(T:Tab)(t t' :TypeId):Bool:=match T.get t,T.get t' with
 | some ⟨_,_,_,.int .u8,_⟩,some ⟨_,_,_,.int .i32,_⟩=>true
 | _,_=>false
theorem wur{b:UInt8}(hT:kVa E.P T)(hs:T.ur t t' =true)(hx:fr.ev x=.u8 b)(hN:Nat.ble (d+1) E.N=true)(hq:(GS.ops ops rest ((d,.pv (.b (.int .i32 (b.toNat:Int))))::fr) σ k).holds E):
 (GS.ops ops (⟨some d,.convert t t' x,ty,pos,af,none⟩::rest) fr σ k).holds E:=by
 unfold Tab.ur at hs;split at hs
 .rename_i h1 h2;exact zGa rfl (zJa rfl hN (ev_u8i32 hx (hT _ _ h1).ty (hT _ _ h2).ty)) hq
 cases hs
theorem wr{s:Str}(id:Nat)(hT:kVa E.P T)(hs:T.st t=true)(hx:(fr.ev x).str? =some s)(hf:(fr.has id || σ.has id)=false)(hN:Nat.ble (d+1) E.N=true)(hq:(GS.ops ops rest ((d,.ptr id 0)::fr) ((id,.it (strB s) 0)::σ) k).holds E):
 (GS.ops ops (⟨some d,.range t x,ty,pos,af,none⟩::rest) fr σ k).holds E:=by
 obtain ⟨_,_,_,h1⟩:=Tab.st_ok hT hs;simp only[Bool.or_eq_false_iff]at hf;exact zGa rfl (qib id hN (AV.str?_eq hx) h1 hf.1 hf.2) hq
theorem wnx{R:Type}{A B:Option R}{rr:R}{o i:Nat}{s:Str}(hr:(bif decide (i < s.length) then A else B)=some rr)(hx:fr.ev x=.ptr o 0)(ho:σ.get o=some (.it (strB s) i))(hN:Nat.ble (d+1) E.N=true)
 (h1:decide (i < s.length)=true->A=some rr->(GS.ops ops rest ((d,.tup [.bo true,.i i,.pv (.b (.int .i32 (ZTa s i)))])::fr) (σ.upd o (.it (strB s) (i+y1a s i))) k).holds E)
 (h2:decide (i < s.length)=false->B=some rr->(GS.ops ops rest ((d,.tup [.bo false])::fr) σ k).holds E):
 (GS.ops ops (⟨some d,.next x true,ty,pos,af,none⟩::rest) fr σ k).holds E:=
 vpb rfl hN hx ho (fun h=>h1 h (by rw[h]at hr;exact hr)) (fun h=>h2 h (by rw[h]at hr;exact hr))
section
variable {s w:Str}
theorem wscL(hT:kVa E.P T)(hr:cut s p s.length=some w)(hs:T.st t=true)(hx:(fr.ev x).str? =some s)(hy:fr.ev y=.pv (.b (.int k1 p)))(hN:Nat.ble (d+1) E.N=true)(hq:(GS.ops ops rest ((d,.s w)::fr) σ k).holds E):
 (GS.ops ops (⟨some d,.slice t x (some y) none none,ty,pos,af,none⟩::rest) fr σ k).holds E:=by
 obtain ⟨_,_,_,h1⟩:=Tab.st_ok hT hs;exact zGa rfl (zJa rfl hN (kDb (AV.str?_eq hx) hy h1 hr)) hq
theorem wscH(hT:kVa E.P T)(hr:cut s 0 q=some w)(hs:T.st t=true)(hx:(fr.ev x).str? =some s)(hy:fr.ev z=.pv (.b (.int k1 q)))(hN:Nat.ble (d+1) E.N=true)(hq:(GS.ops ops rest ((d,.s w)::fr) σ k).holds E):
 (GS.ops ops (⟨some d,.slice t x none (some z) none,ty,pos,af,none⟩::rest) fr σ k).holds E:=by
 obtain ⟨_,_,_,h1⟩:=Tab.st_ok hT hs;exact zGa rfl (zJa rfl hN (ev_scutH (AV.str?_eq hx) hy h1 hr)) hq
end
theorem wlL(hT:kVa E.P T)(hr:cut l p l.length=some v)(hs:T.sl t=some (e,row))(hx:fr.ev x=.pv (.sl nl (l.map F)))(hy:fr.ev y=.pv (.b (.int k1 p)))(hF:∀x,(F x).length=row.size)(hN:Nat.ble (d+1) E.N=true)(hq:(GS.ops ops rest ((d,.l F v)::fr) σ k).holds E):
 (GS.ops ops (⟨some d,.slice t x (some y) none none,ty,pos,af,none⟩::rest) fr σ k).holds E:=by
 obtain ⟨⟨_,_,_,h1⟩,h2⟩:=Tab.sl_ok hT hs;exact zGa rfl (zJa rfl hN (ev_cutL hx hy h1 h2 hF hr)) hq
theorem wlH(hT:kVa E.P T)(hr:cut l 0 q=some v)(hs:T.sl t=some (e,row))(hx:fr.ev x=.pv (.sl nl (l.map F)))(hy:fr.ev z=.pv (.b (.int k1 q)))(hF:∀x,(F x).length=row.size)(hN:Nat.ble (d+1) E.N=true)(hq:(GS.ops ops rest ((d,.l F v)::fr) σ k).holds E):
 (GS.ops ops (⟨some d,.slice t x none (some z) none,ty,pos,af,none⟩::rest) fr σ k).holds E:=by
 obtain ⟨⟨_,_,_,h1⟩,h2⟩:=Tab.sl_ok hT hs;exact zGa rfl (zJa rfl hN (q6b hx hy h1 h2 hF hr)) hq
def rowFit(row:VAa)(lim:Nat):Bool:=Nat.beq row.zero.cells.size row.size && Nat.ble 1 row.size && (Nat.ble (lim * row.bytes) 140737488355328 && Nat.ble lim 9223372036854775807)
theorem wa(hT:kVa E.P T)(h:app lim l xs=some r')(hs:T.sl t=some (e,row))(hx:fr.ev x=.hs r 0)(hr:σ.get r=some (.row e mu row.size (l.map F)))(hy:fr.ev y=.pv (.sl nl (xs.map F)))(hF:∀x,(F x).length=row.size)(hfit:rowFit row lim=true)(hN:Nat.ble (d+1) E.N=true)(hq:(GS.ops ops rest ((d,.hs r 0)::fr.clr r) ((σ.clr r).upd r (.row e mu row.size (r'.map F))) k).holds E):
 (GS.ops ops (⟨some d,.call ⟨.builtin .append, #[x,y], #[t,t]⟩,ty,pos,af,none⟩::rest) fr σ k).holds E:=by
 obtain ⟨⟨_,_,_,h1⟩,h2⟩:=Tab.sl_ok hT hs;simp only[rowFit,jAs]at hfit;exact zGa rfl (wxa hN hx hr hy h1 h2 hfit.1.1 hfit.1.2 hF (by simp only[jAs];exact hfit.2) h) hq
def Tab.bs(T:Tab)(t t2:TypeId):Bool:=match T.get t with
 | some ⟨_,_,_,.slice e,_⟩=>(match T.get e with | some ⟨_,_,_,.int .u8,_⟩=>T.st t2 | _=>false)
 | _=>false
theorem wb{s:Str}(hT:kVa E.P T)(hs:T.bs t t2=true)(hx:fr.ev x=.pv (.sl nl (s.map cU)))(hN:Nat.ble (d+1) E.N=true)(hq:(GS.ops ops rest ((d,.s s)::fr) σ k).holds E):
 (GS.ops ops (⟨some d,.convert t t2 x,ty,pos,af,none⟩::rest) fr σ k).holds E:=by
 unfold Tab.bs at hs;split at hs
 .rename_i h1;split at hs
  .rename_i h2;obtain ⟨_,_,_,h3⟩:=Tab.st_ok hT hs;exact zGa rfl (zJa rfl hN (Qda hx (hT _ _ h1).ty (hT _ _ h2).ty h3)) hq
  cases hs
 cases hs
theorem wz(F:α->List PV)(l:List α){m:Nat}{ps:List (Nat × Operand)}(hT:kVa E.P T)(hs:T.sl t=some (e,row))(hzs:(Nat.beq row.zero.cells.size row.size && Nat.ble 1 row.size && row.zero.cells.toList.all cellV)=true)(hF:∀x,(F x).length=row.size)(hln:(Nat.beq l.length m && Nat.ble (m * row.size) 16777216)=true)
 (hc:YAa (fun i=>some (i * row.size,row.size)) (List.replicate (m * row.size) .any) (ps.map fun p=>(p.1,(fr.ev p.2).weak))=some (l.flatMap fun x=>(F x).map AV.pv)) (hN:Nat.ble (d+1) E.N=true) (hq:(GS.ops ops rest ((d,.l F l)::fr) σ k).holds E):
 (GS.ops ops (⟨some d,.buildSlice t m ps.toArray,ty,pos,af,none⟩::rest) fr σ k).holds E:=by
 obtain ⟨⟨_,_,_,h1⟩,h2⟩:=Tab.sl_ok hT hs;exact zGa rfl (ZQa rfl hN (vWa h1 h2 hzs hF hln hc)) hq
theorem mono_inl{d:Nat}{fn:Func}{base sid:Nat}{T:Array Value}{ds:List Deferred}{K:Post}:Mono (InlK E ops rest d fn base sid T ds K):=fun e fr σ fr' σ' hf hs ⟨h1,fr2,σ2,cs,fr'',σ'',h2,h3,h4⟩=>⟨h1,fr2,σ2,cs,fr'',σ'',Zva hf h2,qya hs h3,h4⟩
theorem mono_itr{base sid lid b:Nat}{L:Loop}{T:Array Value}{ds:List Deferred}{K:Post}:Mono (ItrK E base sid lid b L T ds K):=fun e fr σ fr' σ' _ hs ⟨h1,σ2,L',fr'',σ'',h2,h3⟩=>⟨h1,σ2,L',fr'',σ'',qya hs h2,h3⟩
theorem mono_rnd{d base2 sid2 lid b:Nat}{L:Loop}{T:Array Value}{ds:List Deferred}{K:Post}:Mono (RndK E ops rest d base2 sid2 lid b L T ds K):=fun e fr σ fr' σ' _ hs ⟨L',t,σ2,fr'',σ'',h1,h2,h3⟩=>⟨L',t,σ2,fr'',σ'',h1,qya hs h2,h3⟩
theorem mono_asg{lid b:Nat}{L:Loop}{body:Code}{K:Post}:Mono (AsgK E lid b L body K):=fun e fr σ fr' σ' hf hs ⟨h1,fr2,σ2,h2,h3,h4⟩=>⟨h1,fr2,σ2,Zva hf h2,qya hs h3,h4⟩
theorem il{d f:Nat}{fn:Func}{c:Code}{fx:Operand}{xs:List Operand}{ats:Array TypeId}{first cap args:List AV}(base sid:Nat)(keep:Fr)(hf:fr.ev fx=.fn (.func f) first cap)(hok:FnOk E.P f fn c)
 (hN:(Nat.ble (d+1) E.N && Nat.ble args.length fn.ntmps)=true) (ha:first++xs.map fr.ev++cap=args) (hk:keep.map (fun p=>fr.get p.1)=keep.map (·.2))
 (h:∀(T:Array Value) (ds:List Deferred),(GS.code c (k7a 0 args) ((sid,.sus E.g0.w.heap.size ds)::(holds base T keep++σ)) (.base (InlK E ops rest d fn base sid T ds (k.post E)) mono_inl)).holds ⟨E.P,none,E.g0,fn.ntmps,true,E.gl,E.S,E.sg⟩):
 (GS.ops ops (⟨some d,.call ⟨.value fx,xs.toArray,ats⟩,ty,pos,af,none⟩::rest) fr σ k).holds E:=
 awpl_inl base sid keep (zya rfl) hf hok hN ha (kpw hk) fun T ds _=>h T ds
theorem ie{E' :Env}{d:Nat}{fn:Func}{base sid:Nat}{Tm:Array Value}{ds:List Deferred}{e:Exit}{hm:Mono (InlK E ops rest d fn base sid Tm ds (k.post E))}(hT:kVa E.P T)(cs:List AV)(fr'' :Fr)(σ'' :Sto)(he:isN e=true∨e=.ret)(hr:VCa T fr σ fn.results.toList=some cs)(hh:fr''.map (fun p=>σ.get (base+p.1))=fr''.map (fun p=>some (.hold p.2 (Tm.getD p.1 undef))))(hsu:σ.get sid=some (.sus E.g0.w.heap.size ds))(hle:σ''.map σ.sel=σ''.map (fun p=>some p.2))
 (h:AWPL E ops rest ((d,QWa cs)::fr'') σ'' (k.post E)):(GS.at e fr σ (.base (InlK E ops rest d fn base sid Tm ds (k.post E)) hm)).holds E' :=
 inlK (by cases e <;> simp_all [isN]) qKa yba (jwa hT hr) (hdw hh) hsu (stw hle) h
end
end
section
open Go.RowKit Go.Lib Go.Proofs.Tryz
variable {E:Env} {fr:Fr} {σ:Sto} {K:Post} {P:Program} {ρ:Operand->AV}
variable {dst:Option Tmp} {ty:TypeId} {pos:String} {af:Array Edge} {gu:Option (Nat × Bool)}
section
variable {α:Type} {F:α->List PV} {l xs r' :List α} {r size bytes sb ss k lim:Nat} {e t:TypeId} {mu:Bool} {zero sz:Value} {d:TypeDesc} {x y z:Operand} {nl:Option Bool}
theorem ev_hpre{q:Int}{k1:IntKind}{v:List α}(hx:ρ x=.hs r 0)(hr:σ.get r=some (.row e mu size (l.map F)))(hy:ρ y=.pv (.b (.int k1 q)))
 (ht:TyOk P t ss sb sz (.slice e)) (he:TyOk P e size bytes zero d) (hv:cut l 0 q=some v):EvQ P ⟨dst,.slice t x none (some y) none,ty,pos,af,gu⟩ ρ σ (.hpre r q.toNat):=
 ⟨fun c=>by simp,fun g ρv hh hs=>by
  have h1:=hh x (by simp[Op.operands]);have h2:=hh y (by simp[Op.operands]);rw[hx]at h1;rw[hy]at h2;have e2:=kga h2;obtain ⟨h0,h01,h02,_⟩:=Kta hv;obtain ⟨old,ho1,ev,ho3⟩:=(hs r _ hr).old h1;obtain ⟨a0,old⟩:=old;have hrun:∀ad cap,ρv x=.slice ad l.length cap->l.length<=cap->(execOp ρv ⟨dst,.slice t x none (some y) none,ty,pos,af,gu⟩).run P g.w=
   .ok (.value (.slice (if cap=(0:Int).toNat then ad else ad.map (·.add ((0:Int).toNat * size))) (q.toNat - (0:Int).toNat) (cap - (0:Int).toNat))) g.w:=by
   intro ad cap ev hcap;show Sem.run P (do let v <-Instr.sliceAt t (ρv x) (Option.map ρv none) ((some y).map ρv) none;pure (Next.value v)) g.w=_;have hb:=vpa (P:=P) (w:=g.w) (len:=l.length) (cap:=cap) (lo:=Option.map ρv none) (hi:=(some y).map ρv) (a:=0) (b:=q) hcap (.inl ⟨rfl,rfl⟩) (.inr ⟨k1,by simp[e2]⟩) h0 h01 h02;rw[ev];simp only[Instr.sliceAt,underlying,program,jAu,Sem.run,ht.u,jAr,jBd,Instr.slice,hb,he.sizeOf]
  cases old with
  | none=>
   obtain ⟨hl,rfl⟩:=ho3;have hq:q.toNat=0:=by simp at h02;omega
   refine ⟨_,hrun a0 0 ev (by simp),?_⟩;rw[hq];simp only[Int.toNat_zero,if_true,jDf];exact .hpreNil _ hl
  | some o=>
   obtain ⟨b,off,cap,cur⟩:=o;obtain ⟨hb,hcs,hnc,hcm,ad,rfl,had⟩:=ho1;refine ⟨_,hrun (some ad) cap ev hnc,?_⟩;simp only[Int.toNat_zero,jDf,Nat.zero_mul];split
   .exact .hpre ho3.1 (by omega) (fun hc=>by omega)
   refine .hpre ho3.1 (by omega) (fun hc=>?_);rw[had (by omega)];show Addr.add _ _=_;rw[qaa,jCi]⟩
theorem QXa{w:World}{len cap:Nat}{a b:Int}{k1 k2:IntKind}(h0:0<=a)(h1:a<=b)(h2:b<=cap):
 (Instr.sliceBounds true len cap (some (.int k1 a)) (some (.int k2 b)) none).run P w=.ok (a.toNat,b.toNat,cap) w:=by
 have a1:0<=b/\b<=(cap:Int):=⟨by omega,by omega⟩;have a2:0<=a/\a<=b:=⟨by omega,by omega⟩;have a3:max b 0=b:=by omega
 simp[Instr.sliceBounds,Instr.sliceBound,asIntOf,a1,a2,a3]
theorem QYa{w:World}{len cap:Nat}{a b c:Int}{k1 k2 k3:IntKind}(h0:0<=a)(h1:a<=b)(h2:b<=c)(h3:c<=cap):
 (Instr.sliceBounds true len cap (some (.int k1 a)) (some (.int k2 b)) (some (.int k3 c))).run P w=.ok (a.toNat,b.toNat,c.toNat) w:=by
 have a1:0<=c/\c<=(cap:Int):=⟨by omega,by omega⟩;have a2:0<=b/\b<=c:=⟨by omega,by omega⟩;have a3:0<=a/\a<=b:=⟨by omega,by omega⟩;have a4:max c 0=c:=by omega
 have a5:max b 0=b:=by omega
 simp[Instr.sliceBounds,Instr.sliceBound,asIntOf,a1,a2,a3,a4,a5]
def cut3(l:List α)(a b c:Int):Option Unit:=if 0<=a/\a<=b/\b<=c/\c<=l.length then some () else none
theorem ev_hcut3{a b c:Int}{k1 k2 k3:IntKind}{u:Operand}{v:Unit}(hx:ρ x=.hs r 0)(hr:σ.get r=some (.row e mu size (l.map F)))(hy:ρ y=.pv (.b (.int k1 a)))(hz:ρ z=.pv (.b (.int k2 b)))(hu:ρ u=.pv (.b (.int k3 c)))
 (ht:TyOk P t ss sb sz (.slice e)) (he:TyOk P e size bytes zero d) (hv:cut3 l a b c=some v):EvQ P ⟨dst,.slice t x (some y) (some z) (some u),ty,pos,af,gu⟩ ρ σ .any:=
 ⟨fun c=>by simp,fun g ρv hh hs=>by
  have h1:=hh x (by simp[Op.operands]);have h2:=hh y (by simp[Op.operands]);have h3:=hh z (by simp[Op.operands]);have h4:=hh u (by simp[Op.operands]);rw[hx]at h1;rw[hy]at h2;rw[hz]at h3;rw[hu]at h4;have e2:=kga h2;have e3:=kga h3;have e4:=kga h4;have hc:0<=a/\a<=b/\b<=c/\c<=l.length:=by
   unfold cut3 at hv;split at hv
   .assumption
   cases hv
  obtain ⟨c0,c1,c2,c3⟩:=hc;obtain ⟨old,ho1,ev,ho3⟩:=(hs r _ hr).old h1;obtain ⟨a0,old⟩:=old;have hrun:∀ad cap,ρv x=.slice ad l.length cap->l.length<=cap->∃v',(execOp ρv ⟨dst,.slice t x (some y) (some z) (some u),ty,pos,af,gu⟩).run P g.w=.ok (.value v') g.w:=by
   intro ad cap ev hcap;have hb:=QYa (P:=P) (w:=g.w) (len:=l.length) (cap:=cap) (k1:=k1) (k2:=k2) (k3:=k3) c0 c1 c2 (by omega);refine ⟨.slice (if c.toNat=a.toNat then ad else ad.map (·.add (a.toNat * size))) (b.toNat - a.toNat) (c.toNat - a.toNat),?_⟩;show Sem.run P (do let v <-Instr.sliceAt t (ρv x) ((some y).map ρv) ((some z).map ρv) ((some u).map ρv);pure (Next.value v)) g.w=_;simp only[jCv,e2,e3,e4];rw[ev];simp only[Instr.sliceAt,underlying,program,jAu,Sem.run,ht.u,jAr,jBd,Instr.slice,hb,he.sizeOf]
  cases old with
  | none=>
   obtain ⟨hl,rfl⟩:=ho3;obtain ⟨v',h5⟩:=hrun a0 0 ev (by simp);exact ⟨v',h5,.any _⟩
  | some o=>
   obtain ⟨b',off,cap,cur⟩:=o;obtain ⟨hb,hcs,hnc,hcm,ad,rfl,had⟩:=ho1;obtain ⟨v',h5⟩:=hrun (some ad) cap ev hnc;exact ⟨v',h5,.any _⟩⟩
theorem qlb{n:Nat}(hx:ρ x=.hpre r n)(ht:P.underlying t=some (.slice e)):EvQ P ⟨dst,.call ⟨.builtin .len, #[x], #[t]⟩,ty,pos,af,gu⟩ ρ σ (.i (n:Int)):=
 ⟨fun c=>by simp,fun g ρv hh _=>by
  have h1:=hh x (by simp[Op.operands,Call.operands]);rw[hx]at h1;have hval:∃a cap,ρv x=.slice a n cap:=by
   generalize ρv x=v at h1;cases h1 with
   | hpreNil a=>exact ⟨_,_,rfl⟩
   | hpre=>exact ⟨_,_,rfl⟩
  obtain ⟨a,cap,hval⟩:=hval;refine ⟨.int .i64 n,?_,.pv (.b rfl)⟩;simp[execOp,resolve,invoke,builtin,Builtin.len_,hval,go_sem,underlying,ht,goInt]⟩
def VDa(l:List α)(a b:Int):Option Unit:=if 0<=a/\a<=b/\b=l.length then some () else none
theorem vzb{n:Nat}{a b:Int}{k1 k2:IntKind}{v:Unit}(hx:ρ x=.hpre r n)(hr:σ.get r=some (.row e mu size (l.map F)))(hy:ρ y=.pv (.b (.int k1 a)))(hz:ρ z=.pv (.b (.int k2 b)))
 (ht:TyOk P t ss sb sz (.slice e)) (he:TyOk P e size bytes zero d) (hv:VDa l a b=some v):EvQ P ⟨dst,.slice t x (some y) (some z) none,ty,pos,af,gu⟩ ρ σ (.hsub r a.toNat):=
 ⟨fun c=>by simp,fun g ρv hh hs=>by
  have h1:=hh x (by simp[Op.operands]);have h2:=hh y (by simp[Op.operands]);have h3:=hh z (by simp[Op.operands]);rw[hx]at h1;rw[hy]at h2;rw[hz]at h3;have e2:=kga h2;have e3:=kga h3;have hc:0<=a/\a<=b/\b=l.length:=by
   unfold VDa at hv;split at hv
   .assumption
   cases hv
  obtain ⟨c0,c1,c2⟩:=hc;have hrun:∀ad m cap,ρv x=.slice ad m cap->l.length<=cap->(execOp ρv ⟨dst,.slice t x (some y) (some z) none,ty,pos,af,gu⟩).run P g.w=
   .ok (.value (.slice (if cap=a.toNat then ad else ad.map (·.add (a.toNat * size))) (b.toNat - a.toNat) (cap - a.toNat))) g.w:=by
   intro ad m cap ev hcap;have hb:=QXa (P:=P) (w:=g.w) (len:=m) (cap:=cap) (k1:=k1) (k2:=k2) c0 c1 (by omega);show Sem.run P (do let v <-Instr.sliceAt t (ρv x) ((some y).map ρv) ((some z).map ρv) none;pure (Next.value v)) g.w=_;simp only[jCv,e2,e3];rw[ev];simp only[Instr.sliceAt,underlying,program,jAu,Sem.run,ht.u,jAr,jBd,Instr.slice,hb,he.sizeOf]
  have hob:=hs r _ hr;generalize hls:l.map F=ls at hob;generalize hev:ρv x=vx at h1 hrun;cases hob with
  | nil hl=>
   obtain rfl:l=[]:=by simpa using hls
   cases h1 with
   | hpre h2=>rw[hl]at h2;cases h2
   | hpreNil ax=>
    have ha:a.toNat=0:=by simp at c2;omega
    have hb:b.toNat=0:=by simp at c2;omega
    refine ⟨_,hrun ax 0 0 rfl (by simp),?_⟩;rw[ha,hb];simp only[if_true,jDf];exact .hsubNil _ hl
  | @row _ _ _ _ b' off cap cur hl hb hn hm hle hzl hu hmu hrel=>
   subst hls;simp only[jAx]at hl hle hu;cases h1 with
   | hpreNil ax h2=>rw[hl]at h2;cases h2
   | @hpre _ _ _ _ _ _ _ ad h2 hlo ha=>
    rw[hl]at h2;cases h2;have hbn:b.toNat=l.length:=by omega
    refine ⟨_,hrun (some ad) n cap rfl hle,?_⟩;rw[hbn];split
    .exact .hsub hl (by omega) (fun hc=>by omega)
    refine .hsub hl (by omega) (fun hc=>?_);rw[ha (by omega)];show Addr.add _ _=_;rw[qaa,jAv]⟩
def shft(l:List α)(p q:Int):Option (List α):=if 0<=p/\p<=q/\q<=l.length then some (l.take p.toNat++l.drop q.toNat++l.drop (p.toNat+(l.length - q.toNat))) else none
theorem qmb{p q:Int}{l' :List α}(hN:Nat.ble (k+1) E.N=true)(hx:fr.ev x=.hpre r p.toNat)(hy:fr.ev y=.hsub r q.toNat)(hr:σ.get r=some (.row e true size (l.map F)))
 (ht:TyOk E.P t ss sb sz (.slice e)) (he:TyOk E.P e size bytes zero d) (hs:Nat.ble 1 size=true) (h:shft l p q=some l'):
 OpTo E ⟨some k,.call ⟨.builtin .append, #[x,y], #[t,t]⟩,ty,pos,af,gu⟩ fr σ ((k,.hpre r (p.toNat+(l.length - q.toNat)))::fr) (σ.upd r (.row e true size (l'.map F))):=
 ⟨fun g a K Q hst hK=>by
  have hs:=jAd hs;have hc:(0<=p/\p<=q/\q<=l.length)/\l.take p.toNat++l.drop q.toNat++l.drop (p.toNat+(l.length - q.toNat))=l' :=by
   unfold shft at h;split at h
   .rename_i h0;cases h;exact ⟨h0,rfl⟩
   cases h
  obtain ⟨⟨c0,c1,c2⟩,hl'⟩:=hc;have d1:p.toNat<=q.toNat:=by omega
  have d2:q.toNat<=l.length:=by omega
  generalize p.toNat=p at *;generalize q.toNat=q at *;refine ⟨fun _ _=>trivial,?_⟩;rw[jAy _ _ _ (fun c=>by simp)];have h1:=hst.ev x;have h2:=hst.ev y;rw[hx]at h1;rw[hy]at h2;generalize hev:a.eval x=vx at h1;generalize hey:a.eval y=vy at h2;obtain ⟨i,hi,hsz,hby,hzero⟩:=he.info;have hob:=hst.so.obj r _ hr;generalize hls:l.map F=ls at hob;cases hob with
  | nil hl=>
   obtain rfl:l=[]:=by simpa using hls
   have hp0:p=0:=by simp at d2;omega
   subst hp0;have hl0:l' =[]:=by rw[<-hl'];simp
   subst hl0;cases h1 with
   | hpre h3=>rw[hl]at h3;cases h3
   | hpreNil ax=>
    cases h2 with
    | hsub h3=>rw[hl]at h3;cases h3
    | hsubNil ay=>
     have hrun:(Builtin.append_ #[t,t] ty #[.slice ax 0 0,.slice ay 0 0]).run E.P g.w=.ok (.slice ax 0 0) g.w:=by
      cases ax <;> cases ay <;> simp[Builtin.append_,run_underlying ht.u,sizeOf,typeInfo,hi,Builtin.lenOf,Builtin.firstCells,loadCells,loadCellsFrom,storeCells]
     rw[k2a (x:=x) (y:=y) (w:=g.w) (by rw[hev,hey];exact hrun),jBb];have hst' :=hst.objset (ob:=.row e true size (([]:List α).map F)) hr (Ext.refl _ _) rfl rfl rfl rfl (fun _ _ _=>⟨rfl,rfl⟩) hst.so.wf (hst.so.obj r _ hr) (fun _=>rfl);refine hK g _ (hst'.put (jAd hN) ?_);have:(0+(([]:List α).length - q))=0:=by simp
     rw[this];exact .hpreNil _ hl
  | @row _ _ _ _ b off cap cur hl hb hn hm hle hzl hu hmu hrel=>
   subst hls;simp only[jAx]at hl hle hu;have hu0:=hmu rfl;cases h1 with
   | hpreNil ax h3=>rw[hl]at h3;cases h3
   | @hpre _ _ _ _ _ _ _ ad h3 hlo ha=>
    rw[hl]at h3;cases h3;cases h2 with
    | hsubNil ay h4=>rw[hl]at h4;cases h4
    | @hsub _ _ _ _ _ _ _ ad2 h4 hlo2 ha2=>
     rw[hl]at h4;cases h4;by_cases hm0:l.length - q=0
     .have hl0:l' =l:=by
       rw[<-hl',hm0,jCi,List.drop_eq_nil_of_le (by omega:l.length<=q)];simp
      subst hl0;have hrun:(Builtin.append_ #[t,t] ty #[.slice (some ad) p cap,.slice (some ad2) (l'.length - q) (cap - q)]).run E.P g.w=.ok (.slice (some ad) p cap) g.w:=by
       rw[hm0];have:p<=cap:=by omega
       simp[Builtin.append_,run_underlying ht.u,sizeOf,typeInfo,hi,Builtin.lenOf,Builtin.firstCells,loadCells,loadCellsFrom,this,storeCells]
      rw[k2a (x:=x) (y:=y) (w:=g.w) (by rw[hev,hey];exact hrun),jBb];have hst' :=hst.objset (ob:=.row e true size (l'.map F)) hr (Ext.refl _ _) rfl rfl rfl rfl (fun _ _ _=>⟨rfl,rfl⟩) hst.so.wf (hst.so.obj r _ hr) (fun _=>rfl);refine hK g _ (hst'.put (jAd hN) ?_);rw[hm0,jCi];exact .hpre hl hlo ha
     have had:=ha (by omega);subst had;have had2:=ha2 (by omega);subst had2;generalize hmm:l.length - q=m at *;have hfitm:(off+q) * size+m * size<=cur.size:=by
      rw[hn,<-jAv];exact jAn _ (by omega)
     generalize hnews:((cur.toList.drop ((off+q) * size)).take (m * size))=news;have hnlen:news.length=m * size:=by
      rw[<-hnews];simp only[jBu,jCg,jBj];omega
     have hnget:∀k,k < m * size->news[k]? =cur.toList[(off+q) * size+k]? :=by
      intro k hk;rw[<-hnews,jAt hk,jBf]
     have hNews:News g.w g.u size F (l.drop q) news:=by
      refine ⟨by rw[hnlen,jCg,hmm],fun z hz=>hzl _ (jBn (jDi hz)),fun i j z c hz hj=>?_⟩;rw[jBf]at hz;have hil:q+i < l.length:=(jAc.1 hz).1;have hjs:j < size:=by rw[<-hzl (F z) (jBn (jAe hz))];exact (jAc.1 hj).1
      have hk:i * size+j < m * size:=by
       have:(i+1) * size<=m * size:=jAn _ (by omega);rw[jAv]at this;omega
      have h5:=hrel (q+i) j (F z) c (by simp[hz]) hj;have e1:(off+(q+i)) * size+j=(off+q) * size+(i * size+j):=by rw[<-jBv,jAv (off+q)];omega
      rw[e1]at h5;refine ⟨cur.getD ((off+q) * size+(i * size+j)) undef,?_,h5⟩;rw[hnget _ hk,jAf];have:(off+q) * size+(i * size+j) < cur.size:=by omega
      simp[this]
     have hsz' :i.size=size:=hsz;have hrun:=yCa (P:=E.P) g.w t ty e i ht.u hi b off p cap cur hb ⟨b,(off+q) * size,none⟩ m (cap - q) news (by rw[hnlen,hsz'])
      (fun j u hj=>by
       have hk:j < m * size:=by rw[<-hnlen];exact (jAc.1 hj).1
       rw[qaa];simp only[World.cell?,hb];rw[hnget _ hk]at hj;simpa using hj) hNews.one (by omega) (by rw[hnlen,hsz',hn,<-jAv];exact jAn _ (by omega))
     rw[hsz']at hrun;rw[k2a (x:=x) (y:=y) (w:=g.w) (by rw[hev,hey];exact hrun),jBb];generalize hP:(off+p) * size=pp at *;generalize hcs:(cur.toList.take pp++news++cur.toList.drop (pp+news.length))=cells at *;have hfit:pp+news.length<=cur.size:=by
      rw[hnlen,<-hP,hn,<-jAv];exact jAn _ (by omega)
     have hclen:cells.length=cur.size:=by rw[<-hcs];simp;omega
     have hget:∀q,q < cur.size->cells[q]? =if pp<=q/\q < pp+news.length then news[q - pp]? else cur.toList[q]? :=by
      intro q hq;rw[<-hcs,jAp];rcases jBg q pp with h2 | h2
      .rw[if_neg (by omega),jAk (by simp;omega),jAt h2]
      rw[jAh (by simp;omega)];simp only[jBu,jBj,show min pp cur.size=pp by omega];rcases jBg q (pp+news.length) with h3 | h3
      .rw[if_pos ⟨h2,h3⟩,jAk (by omega)]
      rw[if_neg (by omega),jAh (by omega),jBf]
      congr 1
      omega
     have hheap:∀k,k≠b->(g.w.setRow b cells.toArray).heap[k]? =g.w.heap[k]? :=fun k hk=>by
      simp only[World.setRow,jCj];rw[if_neg (Ne.symm hk)]
     have hnewb:=setRow_heap g.w b cur cells.toArray e _ hb;have hsz:(g.w.setRow b cells.toArray).heap.size=g.w.heap.size:=by simp[World.setRow]
     have hxx:Ext g.w g.u (g.w.setRow b cells.toArray) g.u:=⟨jBr hsz.symm,fun _ _=>jBc _,fun k i hk hi=>by
      by_cases hkb:k=b
      .subst hkb;omega
      simp only[World.cell?];rw[hheap k hkb],fun r' hr' =>(hheap r' (by rintro rfl;rw[hb]at hr';cases hr')).trans hr'⟩
     have htl:(l.take p).length=p:=by simp;omega
     have hdl:(l.drop q).length=m:=by simp;omega
     have hlen2:l'.length=l.length:=by rw[<-hl'];simp;omega
     have hl'get:∀i,l'[i]? =if p<=i/\i < p+m then l[q+(i - p)]? else l[i]? :=by
      intro i;rw[<-hl',jAp];rcases jBg i p with h2 | h2
      .rw[if_neg (by omega),jAk (by omega),jAt h2]
      rw[jAh (by omega),htl];rcases jBg i (p+m) with h3 | h3
      .rw[if_pos ⟨h2,h3⟩,jAk (by omega),jBf]
      rw[if_neg (by omega),jAh (by omega),jBf,hdl]
      congr 1
      omega
     have hmem:∀w∈l',(F w).length=size:=by
      intro w hw;rw[<-hl']at hw;rcases jCk.1 hw with h2 | h2
      .rcases jCk.1 h2 with h3 | h3
       .exact hzl _ (jBn (jCu h3))
       exact hzl _ (jBn (jDi h3))
      exact hzl _ (jBn (jDi h2))
     have hst' :=hst.objset (g' :=⟨g.w.setRow b cells.toArray,g.u,g.loc⟩) (ob:=.row e true size (l'.map F)) hr hxx rfl rfl rfl rfl (fun k hk hne=>⟨hheap k (by rintro rfl;exact hne (by rw[hl];rfl)),rfl⟩) (yka hst.so.wf (jBr hsz.symm) _) ?_ (fun _=>rfl)
     .refine hK _ _ (hst'.put (jAd hN) ?_);exact .hpre hl (by omega) (fun _=>rfl)
     refine .row (off:=off) (by rw[jAx,hlen2];exact hl) hnewb (by simp[hclen,hn]) hm (by rw[jAx,hlen2];exact hle) (fun y' hy' =>by obtain ⟨w,hw,rfl⟩:=jBy.1 hy';exact hmem w hw) (by show g.u b<=_;rw[hu0];exact jCp _) (fun _=>hu0) (fun i j w' c hi hj=>?_);simp only[jAq,jAl]at hi;obtain ⟨w,hw,rfl⟩:=hi;have hil:i < l.length:=by have:=(jAc.1 hw).1;omega
     have hjs:j < size:=by rw[<-hmem w (jAe hw)];exact (jAc.1 hj).1
     have hpos:(off+i) * size+j < cur.size:=by rw[hn];exact Wua (s:=1) hil hle hjs
     rw[jAf,jBi,hget _ hpos];rw[hl'get]at hw;by_cases hin:p<=i/\i < p+m
     .rw[if_pos hin]at hw;have e1:(off+i) * size+j=pp+((i - p) * size+j):=by
       rw[<-hP,<-jBv,<-jAv];congr 2;omega
      have hk:(i - p) * size+j < m * size:=by
       have:(i - p+1) * size<=m * size:=jAn _ (by omega);rw[jAv]at this;omega
      rw[e1,if_pos (by omega),jCq,hnget _ hk];have h5:=(hrel (q+(i - p)) j (F w) c (by simp[hw]) hj).mono hxx;have e2:(off+(q+(i - p))) * size+j=(off+q) * size+((i - p) * size+j):=by rw[<-jBv,jAv (off+q)];omega
      rw[jAf,e2]at h5;simpa using h5
     rw[if_neg hin]at hw;have hout:¬(pp<=(off+i) * size+j/\(off+i) * size+j < pp+news.length):=by
      rw[hnlen,<-hP];rcases jBg i p with h2 | h2
      .have:(off+i+1) * size<=(off+p) * size:=jAn _ (by omega);rw[jAv (off+i)]at this;omega
      have:(off+p) * size+m * size<=(off+i) * size:=by rw[<-jAv];exact jAn _ (by omega)
      omega
     rw[if_neg hout];have h5:=(hrel i j (F w) c (by simp[hw]) hj).mono hxx;rw[jAf]at h5;simpa using h5⟩
theorem St.hprecut{g:G}{a:Act}{d' n:Nat}(h:St E g a fr σ)(hd:fr.get d' =.hpre r n)(hr:σ.get r=some (.row e true size (l.map F))):
 ∃g',g'.w=g.w/\St E g' a ((d',.hs r 0)::fr.clr r) ((σ.clr r).upd r (.row e true size ((l.take n).map F))):=by
 have h1:=h.fr d';rw[hd]at h1;generalize hev:a.tmps.getD d' undef=vx at h1;have hob:=h.so.obj r _ hr;generalize hls:l.map F=ls at hob;cases hob with
 | nil hl=>
  obtain rfl:l=[]:=by simpa using hls
  cases h1 with
  | hpre h2=>rw[hl]at h2;cases h2
  | hpreNil ax=>
   have:=h.row_upd (ob:=.row e true size ((([]:List α).take 0).map F)) hr (Ext.refl _ _) (fun _ _=>rfl) rfl rfl rfl (fun _ _ _=>⟨rfl,rfl⟩) h.so.wf (by simp;exact .nil hl) (fun b hb=>.inl hb);exact ⟨g,rfl,this.reslot (by rw[hev];exact .hsNil _ hl)⟩
 | @row _ _ _ _ b off cap vs hl hb hn hm hle hz hu hmu hrel=>
  subst hls;simp only[jAx]at hl hle hu;cases h1 with
  | hpreNil ax h2=>rw[hl]at h2;cases h2
  | @hpre _ _ _ _ _ _ _ ad h2 hlo ha=>
   rw[hl]at h2;cases h2;have hlen:(l.take n).length=n:=by simp;omega
   have hst' :=h.row_upd (g' :=⟨g.w,g.u,fun k=>if k=r then .row b off cap size n else g.loc k⟩) (ob:=.row e true size ((l.take n).map F)) hr (Ext.refl _ _) (fun k hk=>if_neg hk) rfl rfl rfl (fun _ _ _=>⟨rfl,rfl⟩) h.so.wf
    (.row (off:=off) (cap:=cap) (by simp only[if_true];rw[jAx,hlen]) hb hn hm (by rw[jAx,hlen];omega)
     (fun z hz' =>by obtain ⟨w,hw,rfl⟩:=jBy.1 hz';exact hz _ (jBn (jCu hw)))
     (by show g.u b<=_;rw[hmu rfl];exact jCp _) hmu (fun i j z c hi hj=>by
      simp only[jAq,jAl]at hi;obtain ⟨w,hw,rfl⟩:=hi;have hpl:i < n:=by have:=(jAc.1 hw).1;omega
      rw[jAt hpl]at hw;exact hrel i j (F w) c (by simp[hw]) hj)) (fun b' hb' =>.inl (by simp only[if_true]at hb';rw[hl];exact hb'))
   exact ⟨⟨g.w,g.u,fun k=>if k=r then .row b off cap size n else g.loc k⟩,rfl,hst'.reslot (by rw[hev];exact .hs (if_pos rfl) ha)⟩
theorem zXb{c:Code}{d' n:Nat}(hd:fr.get d' =.hpre r n)(hr:σ.get r=some (.row e true size (l.map F)))(h:AWP E c ((d',.hs r 0)::fr.clr r) ((σ.clr r).upd r (.row e true size ((l.take n).map F))) K):AWP E c fr σ K:=
 ⟨fun g a hst=>by
  obtain ⟨g',hw,h2⟩:=hst.hprecut hd hr;have:=h.go g' a h2;rw[hw]at this;exact this⟩
theorem vAb{c:Code}{d' :Nat}(hd:fr.get d' =.hs r 0)(hr:σ.get r=some (.row e mu size (l.map F)))(h:AWP E c ((d',.hs r 0)::fr.clr r) ((σ.clr r).upd r (.row e mu size (l.map F))) K):AWP E c fr σ K:=
 ⟨fun g a hst=>by
  have h1:=hst.fr d';rw[hd]at h1;have:=hst.row_upd (ob:=.row e mu size (l.map F)) hr (Ext.refl _ _) (fun _ _=>rfl) rfl rfl rfl (fun _ _ _=>⟨rfl,rfl⟩) hst.so.wf (hst.so.obj r _ hr) (fun b hb=>.inl hb);exact h.go g a (this.reslot h1)⟩
end
end
section
inductive Kza (B:Nat) (g:G) (e:TypeId) (size:Nat) (els:List (List PV)):Value->Prop
 | nil (a:Option Addr) (h:els=[]):Kza B g e size els (.slice a 0 0)
 | row {b off cap n:Nat} {ad:Addr} (hB:B<=b) (hn:n=els.length) (ha:0 < cap->ad=⟨b,off * size,none⟩) (ho:RelO ⟨g.w,g.u,fun _=>.row b off cap size n⟩ 0 (.row e true size els)):Kza B g e size els (.slice (some ad) n cap)
structure RunO (P:Program) (f:FuncId) (args:List AV) (e:TypeId) (size:Nat) (els:List (List PV)):Prop where
 ok:∃fn c,FnOk P f fn c
 run:∀g vs,Wf g->Gl g->yga g args vs->CallsIn (fen none) 0 P f vs g.w fun x w' =>∃g' v,g'.w=w' /\g'.loc=g.loc/\Old (fun _=>False) g g' /\Wf g' /\x=.returned v/\Kza g.w.heap.size g' e size els v
variable {P:Program} {σ:Sto} {dst:Option Tmp} {ty:TypeId} {pos:String} {af:Array Edge} {gu:Option (Nat × Bool)} {E:Env} {fr:Fr}
theorem St.newrow{g g1:G}{a:Act}{r:Nat}{e:TypeId}{size:Nat}{els:List (List PV)}{v:Value}(h:St E g a fr σ)(ho:Old (fun _=>False) g g1)(hw:Wf g1)(hl:g1.loc=g.loc)(hv:Kza g.w.heap.size g1 e size els v)(hf:fr.has r=false)(hs:σ.has r=false):
 ∃g2,g2.w=g1.w/\St E g2 a fr ((r,.row e true size els)::σ)/\Rel g2 (.hs r 0) v/\g2.u=g1.u/\∀k,k≠r->g2.loc k=g1.loc k:=by
 have h1:St E g1 a fr σ:=h.grow ho hw (fun k _=>by rw[hl]);cases hv with
 | nil ax h0=>
  subst h0;exact ⟨⟨g1.w,g1.u,fun k=>if k=r then .nilRow else g1.loc k⟩,rfl,h1.adopt r e true size hf hs,.hsNil _ (if_pos rfl),rfl,fun k hk=>if_neg hk⟩
 | @row b off cap n ad hB hn ha hob=>
  subst hn;have hloc:∀k,k≠r->(⟨g1.w,g1.u,fun k=>if k=r then Loc.row b off cap size els.length else g1.loc k⟩:G).loc k=g1.loc k:=fun k hk=>if_neg hk
  have hget:∀o ob,Sto.get ((r,.row e true size els)::σ) o=some ob->(o=r/\ob=.row e true size els)∨(o≠r/\σ.get o=some ob):=by
   intro o ob hg;rw[Sto.get_cons]at hg;split at hg
   .rename_i hk;cases hg;exact .inl ⟨hk.symm,rfl⟩
   rename_i hk;exact .inr ⟨Ne.symm hk,hg⟩
  have hlt:∀o ob b',σ.get o=some ob->ob.own (g1.loc o) b' ->b' < b:=by
   intro o ob b' ho1 hb';rw[hl]at hb';have:=(h.so.obj o ob ho1).block_lt hb';omega
  refine ⟨⟨g1.w,g1.u,fun k=>if k=r then Loc.row b off cap size els.length else g1.loc k⟩,rfl,⟨fun d' =>Rel.mono (g:=g1) (g' :=⟨g1.w,g1.u,fun k=>if k=r then Loc.row b off cap size els.length else g1.loc k⟩) (Ext.refl _ _) (h1.fr d') fun k hk=>hloc k ?_,h1.n,h1.df,⟨?_,?_,?_,⟨h1.so.old.os,h1.so.old.tape,h1.so.old.output,h1.so.old.ext,h1.so.old.block⟩,h1.so.wf⟩⟩,?_,rfl,hloc⟩
  .rintro rfl;rw[Fr.has_get hk]at hf;cases hf
  .intro o ob hg;rcases hget o ob hg with ⟨rfl,rfl⟩ | ⟨hne,hg1⟩
   .cases hob with
    | nil q=>cases q
    | row q1 q2 q3 q4 q5 q6 q7 q8 q9=>cases q1;exact .row (if_pos rfl) q2 q3 q4 q5 q6 q7 q8 q9
   refine RelO.mono (g:=g1) (g' :=⟨g1.w,g1.u,fun k=>if k=r then Loc.row b off cap size els.length else g1.loc k⟩) (h1.so.obj o ob hg1) (Ext.refl _ _) (hloc o hne) (fun k hk=>hloc k ?_) fun b hb=>⟨rfl,rfl⟩
   rintro rfl;rw[Sto.has_get hg1 hk]at hs;cases hs
  .intro o o' ob ob' b1 h2 h3 h4 h5;rcases hget o ob h2 with ⟨rfl,rfl⟩ | ⟨hne,hg⟩ <;> rcases hget o' ob' h3 with ⟨rfl,rfl⟩ | ⟨hne',hg'⟩
   .rfl
   .simp only[if_true,hne',if_false]at h4 h5;have:=hlt o' ob' b1 hg' h5;simp only[AO.own,Loc.block,Option.some.injEq]at h4;omega
   .simp only[if_true,hne,if_false]at h4 h5;have:=hlt o ob b1 hg h4;simp only[AO.own,Loc.block,Option.some.injEq]at h5;omega
   simp only[hne,hne',if_false]at h4 h5;exact h1.so.apart o o' ob ob' b1 hg hg' h4 h5
  .intro o ob b1 h2 h3;rcases hget o ob h2 with ⟨rfl,rfl⟩ | ⟨hne,hg⟩
   .simp only[if_true,AO.own,Loc.block,Option.some.injEq]at h3;have:=h.so.old.ext.size;exact .inl (by omega)
   simp only[hne,if_false]at h3;exact h1.so.mine o ob b1 hg h3
  exact .hs (if_pos rfl) ha
theorem ZAa{f:FuncId}{k:Nat}{xs:List Operand}{ats:Array TypeId}{args:List AV}{e:TypeId}{size:Nat}{els:List (List PV)}(r:Nat)(hr:RunO E.P f args e size els)(hN:Nat.ble (k+1) E.N=true)(hf:fr.has r=false)(hs:σ.has r=false)(ha:xs.map (fun x=>(fr.ev x).weak)=args):
 OpTo E ⟨some k,.call ⟨.value (.func f),xs.toArray,ats⟩,ty,pos,af,gu⟩ fr σ ((k,.hs r 0)::fr) ((r,.row e true size els)::σ):=
 ⟨fun g a K Q hst hK=>by
  obtain ⟨fn,c,hok⟩:=hr.ok;refine ⟨fun _ _=>trivial,?_⟩;rw[jAy _ _ _ (fun c=>by simp),wwa hok (first:= #[]) (cap:= #[]) rfl,jDr];refine ⟨fun h=>by simp[fen]at h,?_⟩;have hargs:yga g args (#[]++xs.toArray.map a.eval++ #[]):=by
   subst ha;refine ⟨by simp,fun i c hi=>?_⟩;simp only[jAq,jAl]at hi;obtain ⟨x,hx,rfl⟩:=hi;have:=qSa (hst.ev x);simpa[hx]using this
  refine (wva (hr.run g _ hst.so.wf (E.glOf hst.so) hargs)).mono ?_;rintro x w' ⟨g',v,rfl,hl,ho,hw,rfl,hv⟩;obtain ⟨g2,hw2,hst2,hv2,_,_⟩:=hst.newrow ho hw hl hv hf hs;have:=hK g2 _ (hst2.put (jAd hN) hv2);rw[hw2]at this;exact this⟩
def vBb(P:Program)(fn:Func)(e:TypeId)(size:Nat)(els:List (List PV)):Post:=fun x fr σ=>(x=.ret∨x=.normal)/\∃r0,ResL P fr σ fn.results.toList [.hs r0 0]/\σ.get r0=some (.row e true size els)
theorem qnb{fn:Func}{e:TypeId}{size:Nat}{els:List (List PV)}:Mono (vBb P fn e size els):=fun x fr σ fr' σ' hf hs ⟨h1,r0,h2,h3⟩=>⟨h1,r0,h2.le hf hs,by
 rcases hs r0 _ h3 with h4 | ⟨cs,_,h4⟩
 .exact h4
 cases h4⟩
theorem zYb{f:FuncId}{fn:Func}{c:Code}(hok:FnOk P f fn c){args:List AV}{e:TypeId}{size:Nat}{els:List (List PV)}(hN:Nat.ble args.length fn.ntmps=true)
 (h:∀g0 (hg:Gl g0),AWP ⟨P,none,g0,fn.ntmps,false,hg,fun _=>False,fun _ _ h=>h⟩ c (k7a 0 args) [] (vBb P fn e size els)):RunO P f args e size els:=by
 refine ⟨⟨fn,c,hok⟩,fun g vs hw hgl ⟨hsz,ha⟩=>?_⟩;have hN:=jAd hN;refine callsIn_of_wp_marks hok.f hok.b trivial<|wpIn_mono ((h g hgl).go g _ ⟨fun d=>?_,by simp;omega,⟨Dok.nil _ _,fun _=>rfl⟩,⟨fun o ob ho=>by simp[Sto.get]at ho,fun o o' ob ob' b ho=>by simp[Sto.get]at ho,fun o ob b ho=>by simp[Sto.get]at ho,Old.refl _ g,hw⟩⟩) ?_
 .rw[v8a];simp only[jCp,if_true,jDf];cases hc:args[d]? with
  | none=>exact .any _
  | some c=>
   have hlt:d < vs.size:=by rw[hsz];exact (jAc.1 hc).1
   have:=ha d c hc;rw[jAf,jBs hlt,<-jAf];exact this
 rintro x a w' ⟨g',fr',σ',rfl,hst,he,r0,hres,hr0⟩;obtain ⟨bs,hds,hnd,hbs⟩:=hst.df.ok;have key:∀w',Took g'.w bs w' ->∃v,(results fn a.tmps).run P w' =.ok v w' /\∃g'' v',g''.w=w' /\g''.loc=g.loc/\Old (fun _=>False) g g'' /\Wf g'' /\Ending.returned v=.returned v' /\Kza g.w.heap.size g'' e size els v' :=by
  intro w' ht;have hcellb:∀(k:Nat) (vs:Array Value) (t:TypeId) (fz:Nat × Nat),g'.w.heap[k]? =some (Obj.cells vs t fz)->w'.heap[k]? =g'.w.heap[k]? :=by
   intro k vs t fz hk;refine ht.block k fun hx=>?_
   rw[(hbs k hx).2]at hk;cases hk
  have hx0:Ext0 g'.w g'.u w' g'.u:=⟨jBr ht.size.symm,fun _ _=>jBc _,fun k i hk hi=>by
   by_cases hkb:k∈bs
   .simp[World.cell?,(hbs k hkb).2,ht.took k hkb]
   simp only[World.cell?];rw[ht.block k hkb]⟩
  obtain ⟨v,h1,h2⟩:=jpa (P:=P) (g:=⟨w',g'.u,g'.loc⟩) hres (fun d=>(hst.fr d).mono0 hx0 (fun _ _=>rfl)) (fun k cs' hk=>by
   cases hst.so.obj k _ hk with
   | cells q1 q2 q3 q4 q5 q6=>exact .cells q1 ((hcellb _ _ _ _ q2).trans q2) q3 q4 q5 fun i c hi=>(q6 i c hi).mono0 hx0 (fun _ _=>rfl))
  have hrow:=hst.so.obj r0 _ hr0;refine ⟨v,h1,⟨w',g'.u,g.loc⟩,v,rfl,rfl,⟨ht.os.trans hst.so.old.os,ht.tape.trans hst.so.old.tape,ht.output.trans hst.so.old.output,⟨by rw[ht.size];exact hst.so.old.ext.size,hst.so.old.ext.pub,fun k i hk hi=>?_,fun r' hr' =>?_⟩,fun k hk hs=>?_⟩,fun k hk=>hst.so.wf k (by rw[<-ht.size];exact hk),rfl,?_⟩
  .have hkb:k ∉ bs:=fun hx=>by have:g.w.heap.size<=k:=(hbs k hx).1;omega
   simp only[World.cell?];rw[ht.block k hkb];exact hst.so.old.ext.cell k i hk hi
  .have hkb:r' ∉ bs:=fun hx=>by have:g.w.heap.size<=r' :=(hbs r' hx).1;have:=kMa hr';omega
   rw[ht.block r' hkb];exact hst.so.old.ext.df r' hr'
  .have hkb:k ∉ bs:=fun hx=>by have:g.w.heap.size<=k:=(hbs k hx).1;omega
   rw[ht.block k hkb];exact hst.so.old.block k hk hs
  replace h2:Rel ⟨w',g'.u,g'.loc⟩ (.hs r0 0) v:=h2
  cases hrow with
  | nil q1=>
   cases h2 with
   | hsNil ax q2=>exact .nil ax rfl
   | hs q2=>exact absurd (q1.symm.trans q2) (by simp)
  | @row _ _ _ _ b off cap vs' q1 q2 q3 q4 q5 q6 q7 q8 q9=>
   have hB:=hst.so.mine r0 _ b hr0 (by rw[q1];rfl);cases h2 with
   | hsNil ax q10=>exact absurd (q1.symm.trans q10) (by simp)
   | @hs _ b2 off2 cap2 size2 n2 ad q10 q11=>
    have q12:Loc.row b off cap size els.length=Loc.row b2 off2 cap2 size2 n2:=q1.symm.trans q10;cases q12;refine .row (b:=b) (off:=off) (hB.elim id fun hc=>hc.elim) rfl q11<|.row rfl ((hcellb _ _ _ _ q2).trans q2) q3 q4 q5 q6 q7 q8 fun i j x c hi hj=>(q9 i j x c hi hj).mono0 hx0
 rcases he with rfl | rfl
 .show LeavesInM _ _ _ _ _ _ _ _ _;rw[hds];exact vna bs g'.w hnd (fun r' hr' =>(hbs r' hr').2) key
 show LeavesInM _ _ _ _ _ _ _ _ _;rw[hds];exact vna bs g'.w hnd (fun r' hr' =>(hbs r' hr').2) key
theorem rfO{f:FuncId}{fn:Func}{c:Code}(hok:FnOk P f fn c){args:List AV}{e:TypeId}{size:Nat}{els:List (List PV)}(hN:Nat.ble args.length fn.ntmps=true)
 (h:∀g0 (hg:Gl g0),(GS.code c (k7a 0 args) [] (.base (vBb P fn e size els) qnb)).holds ⟨P,none,g0,fn.ntmps,false,hg,fun _=>False,fun _ _ h=>h⟩):RunO P f args e size els:=zYb hok hN h
theorem krO{T:Tab}(hT:kVa P T){x:Exit}{fn:Func}{e:TypeId}{size:Nat}{els:List (List PV)}{r0:Nat}{hm:Mono (vBb P fn e size els)}(he:isN x=true∨x=.ret)(h:VCa T fr σ fn.results.toList=some [.hs r0 0])(hg:σ.get r0=some (.row e true size els)):(GS.at x fr σ (.base (vBb P fn e size els) hm)).holds E:=
 ⟨by cases x <;> simp_all [isN],r0,jwa hT h,hg⟩
theorem fn{fr:Fr}:FrLe fr []:=zYa
theorem fc{fr fr' :Fr}{k:Nat}{c:AV}(h:fr.get k=c)(h' :FrLe fr fr'):FrLe fr ((k,c)::fr'):=zea h h'
theorem sn{σ:Sto}:kza σ []:=zja
theorem sc2{σ σ' :Sto}{k:Nat}{ob:AO}(h:σ.get k=some ob)(h' :kza σ σ'):kza σ ((k,ob)::σ'):=zda h h'
def bt:Nat->Nat->List Bool
 | 0,_=>[]
 | n+1,m=>(m % 2==1)::bt n (m / 2)
end
section
open Go.RowKit Go.Lib Go.Proofs.Tryz
variable {E:Env} {fr:Fr} {σ:Sto} {K:Post}
abbrev ObX:=List (Option (Nat × AO))
def objX(D:Nat->Bool):Nat->ObX->Sto
 | _,[]=>[]
 | i,none::r=>objX D (i+1) r
 | i,some (id,cs)::r=>bif D i then (id,cs)::objX D (i+1) r else objX D (i+1) r
def idX:ObX->List Nat
 | []=>[]
 | none::r=>idX r
 | some (id,_)::r=>id::idX r
def qob(fr:Fr)(σ:Sto)(cs:List AV)(az:ObX):Bool:=
 YHa (idX az) && ((idX az).all fun k=> !fr.has k && !σ.has k && (σ.get k).isNone) &&
 (az.all fun | none=>true | some (_,c)=>(idX az).all fun k=> !AO.has k c) &&
 ((cs.zip az).all fun p=>(idX az).all fun k=>(match p.2 with | some (id,_)=>Nat.beq id k | none=>false) || !p.1.has k)
theorem zZb{az:ObX}{j id:Nat}{cs:AO}(h:az[j]? =some (some (id,cs))):id∈idX az:=by
 induction az generalizing j with
 | nil=>simp at h
 | cons x r ih=>
  cases j with
  | zero=>simp at h;subst h;simp[idX]
  | succ j=>
   have:=ih (j:=j) (by simpa using h);cases x with
   | none=>simpa[idX]using this
   | some x=>obtain ⟨a,b⟩:=x;simp[idX,this]
theorem YNa{az:ObX}(hd:YHa (idX az)=true){i j id:Nat}{c c' :AO}(hi:az[i]? =some (some (id,c)))(hj:az[j]? =some (some (id,c'))):i=j:=by
 induction az generalizing i j with
 | nil=>simp at hi
 | cons x r ih=>
  cases x with
  | none=>
   cases i with
   | zero=>simp at hi
   | succ i=>
    cases j with
    | zero=>simp at hj
    | succ j=>rw[ih (by simpa[idX]using hd) (i:=i) (j:=j) (by simpa using hi) (by simpa using hj)]
  | some x=>
   obtain ⟨a,b⟩:=x;simp only[idX,YHa,jAs,jCb]at hd;have hn:∀{k:Nat} {c:AO},r[k]? =some (some (a,c))->False:=by
    intro k c hk;have:=zZb hk;have h1:=hd.1;rw[jCr]at h1;exact h1 a this (Nat.beq_refl a)
   cases i with
   | zero=>
    simp at hi;obtain ⟨rfl,rfl⟩:=hi;cases j with
    | zero=>rfl
    | succ j=>exact (hn (by simpa using hj)).elim
   | succ i=>
    cases j with
    | zero=>
     simp at hj;obtain ⟨rfl,rfl⟩:=hj;exact (hn (by simpa using hi)).elim
    | succ j=>rw[ih hd.2 (i:=i) (j:=j) (by simpa using hi) (by simpa using hj)]
theorem j6a{D:Nat->Bool}{o:Nat}:∀(az:ObX) (n:Nat),(∀j c,az[j]? =some (some (o,c))->D (n+j)=false)->Sto.get (objX D n az++σ) o=σ.get o
 | [],_,_=>rfl
 | none::r,n,h=>j6a r (n+1) (fun j c hj=>by have:=h (j+1) c (by simpa using hj);rwa [show n+1+j=n+(j+1) by omega])
 | some (id,cs)::r,n,h=>by
  have ih:=j6a r (n+1) (fun j c hj=>by have:=h (j+1) c (by simpa using hj);rwa [show n+1+j=n+(j+1) by omega]);unfold objX;cases hD:D n with
  | false=>exact ih
  | true=>
   show Sto.get ((id,cs)::(objX D (n+1) r++σ)) o=_;rw[Sto.get_cons,if_neg]
   .exact ih
   rintro rfl;have:=h 0 cs rfl;rw[jCi,hD]at this;cases this
theorem KAa{D:Nat->Bool}{o:Nat}{c:AO}:∀(az:ObX) (n j:Nat),YHa (idX az)=true->az[j]? =some (some (o,c))->D (n+j)=true->Sto.get (objX D n az++σ) o=some (c)
 | [],_,_,_,h,_=>by simp at h
 | none::r,n,j,hd,h,hD=>by
  cases j with
  | zero=>simp at h
  | succ j=>exact KAa r (n+1) j (by simpa[idX]using hd) (by simpa using h) (by rwa [show n+1+j=n+(j+1) by omega])
 | some (id,cs)::r,n,j,hd,h,hD=>by
  unfold objX;cases j with
  | zero=>
   simp at h;obtain ⟨rfl,rfl⟩:=h;rw[jCi]at hD;rw[hD];show Sto.get ((id,cs)::(objX D (n+1) r++σ)) id=_;rw[Sto.get_cons,if_pos rfl]
  | succ j=>
   have hne:id≠o:=by
    rintro rfl;have:=YNa hd (i:=0) (j:=j+1) rfl h;omega
   have hd' :YHa (idX r)=true:=by simp only[idX,YHa,jAs]at hd;exact hd.2
   have ih:=KAa r (n+1) j hd' (by simpa using h) (by rwa [show n+1+j=n+(j+1) by omega]);cases D n with
   | false=>exact ih
   | true=>
    show Sto.get ((id,cs)::(objX D (n+1) r++σ)) o=_;rw[Sto.get_cons,if_neg hne];exact ih
theorem W1a{D:Nat->Bool}(az:ObX)(hd:YHa (idX az)=true)(o:Nat):(∃j c,D j=true/\az[j]? =some (some (o,c))/\Sto.get (objX D 0 az++σ) o=some (c))∨((∀j c,az[j]? =some (some (o,c))->D j=false)/\Sto.get (objX D 0 az++σ) o=σ.get o):=by
 by_cases h:∃j c,D j=true/\az[j]? =some (some (o,c))
 .obtain ⟨j,c,h1,h2⟩:=h;exact .inl ⟨j,c,h1,h2,KAa az 0 j hd h2 (by simpa using h1)⟩
 have hn:∀j c,az[j]? =some (some (o,c))->D j=false:=by
  intro j c hj;cases hD:D j with
  | false=>rfl
  | true=>exact absurd ⟨j,c,hD,hj⟩ h
 exact .inr ⟨hn,j6a az 0 (fun j c hj=>by simpa using hn j c hj)⟩
theorem KBa{D D' :Nat->Bool}:∀(az:ObX) (n:Nat),(∀j x,az[j]? =some (some x)->D (n+j)=D' (n+j))->objX D n az=objX D' n az
 | [],_,_=>rfl
 | none::r,n,h=>KBa r (n+1) (fun j x hj=>by have:=h (j+1) x (by simpa using hj);rwa [show n+1+j=n+(j+1) by omega])
 | some (id,cs)::r,n,h=>by
  have ih:=KBa (D:=D) (D' :=D') r (n+1) (fun j x hj=>by have:=h (j+1) x (by simpa using hj);rwa [show n+1+j=n+(j+1) by omega]);unfold objX;rw[show D n=D' n from h 0 _ rfl,ih]
theorem YOa{D:Nat->Bool}{k:Nat}(hσ:σ.has k=false):∀(az:ObX) (n:Nat),(∀(j id:Nat) (c:AO),az[j]? =some (some (id,c))->AO.has k c=false)->Sto.has k (objX D n az++σ)=false
 | [],_,_=>hσ
 | none::r,n,h=>YOa hσ r (n+1) (fun j id c hj=>h (j+1) id c (by simpa using hj))
 | some (id,cs)::r,n,h=>by
  have ih:=YOa (D:=D) hσ r (n+1) (fun j id c hj=>h (j+1) id c (by simpa using hj));unfold objX;cases D n with
  | false=>exact ih
  | true=>
   show Sto.has k ((id,cs)::(objX D (n+1) r++σ))=false;unfold Sto.has;rw[ih];simp[h 0 id cs rfl]
structure vCb (E:Env) (FR:Fr) (o:Oper) (id:Nat) (c:AV) (ob:AO):Prop where
 go:∀(g:G) a (σ' :Sto) (K:Act->World->Prop) (Q:Exit->Act->World->Prop),(∀x∈o.op.operands,Rel g (FR.ev x) (a.eval x))->St E g a [] σ' ->σ'.has id=false->ob.has id=false->
  (∀g' v,Old (fun _=>False) g g' ->(∀k,k≠id->g'.loc k=g.loc k)->Sok E.S E.g0 g' ((id,ob)::σ')->Rel g' c v->K (a.put o.dst v) g'.w)->o.wpIn (fen E.rd) 0 E.P a g.w K Q
theorem JQa{FR:Fr}{k id:Nat}{t:TypeId}{size bytes:Nat}{zero:Value}{d:TypeDesc}{cs:List AV}{ty:TypeId}{pos:String}{af:Array Edge}{gu:Option (Nat × Bool)}(ht:TyOk E.P t size bytes zero d)(hz:zero.cells.toList.map vla=cs)(hz2:zero.cells.toList.all cellV=true):vCb E FR ⟨some k,.alloc t,ty,pos,af,gu⟩ id (.ptr id 0) (.cells cs):=
 ⟨fun g a σ' K Q _ hst hid hob hK=>by
  obtain ⟨vs,t',q1,q2,q3,q4⟩:=(zUb (E:=E) (k:=k) (id:=id) (ty:=ty) (pos:=pos) (af:=af) (gu:=gu) ht hz hz2).go;have hst2:=hst.box id rfl hid t' q1 q2 (q3 g) hob;exact q4 g a _ _ (hK _ _ (yYa g vs t' 0 id (.blk g.w.heap.size)) (fun k hk=>if_neg hk) hst2.so (.ptr (if_pos rfl)))⟩
inductive wKa (E:Env) (ops:Array Oper) (fr:Fr) (σ:Sto):List Oper->List AV->ObX->Prop
 | nil:wKa E ops fr σ [] [] []
 | run {o:Oper} {l:List Oper} {c:AV} {cs:List AV} {az:ObX} (hg:qEa ops fr o) (h:OpG E o fr σ c) (hr:wKa E ops fr σ l cs az):wKa E ops fr σ (o::l) (c::cs) (none::az)
 | skip {o:Oper} {l:List Oper} {cs:List AV} {az:ObX} (hg:j2a ops fr o) (hr:wKa E ops fr σ l cs az):wKa E ops fr σ (o::l) (.tup []::cs) (none::az)
 | new {o:Oper} {l:List Oper} {cs:List AV} {az:ObX} (id:Nat) {c:AV} {ob:AO} (hg:qEa ops fr o) (h:vCb E fr o id c ob) (hr:wKa E ops fr σ l cs az):wKa E ops fr σ (o::l) (c::cs) (some (id,ob)::az)
theorem wKa.len{ops:Array Oper}{l:List Oper}{cs:List AV}{az:ObX}(h:wKa E ops fr σ l cs az):cs.length=l.length/\az.length=l.length:=by
 induction h with
 | nil=>exact ⟨rfl,rfl⟩
 | run _ _ _ ih=>simp[ih.1,ih.2]
 | skip _ _ ih=>simp[ih.1,ih.2]
 | new _ _ _ _ ih=>simp[ih.1,ih.2]
theorem wKa.get{ops:Array Oper}{l:List Oper}{cs:List AV}{az:ObX}(h:wKa E ops fr σ l cs az):∀{i:Nat} {o:Oper} {c:AV},l[i]? =some o->cs[i]? =some c->(qEa ops fr o/\OpG E o fr σ c/\az[i]? =some none)∨(j2a ops fr o/\c=.tup []/\az[i]? =some none)∨(qEa ops fr o/\∃id ob,vCb E fr o id c ob/\az[i]? =some (some (id,ob))):=by
 induction h with
 | nil=>intro i o c h1;simp at h1
 | run hg h _ ih=>
  intro i o c h1 h2;cases i with
  | zero=>simp at h1 h2;subst h1;subst h2;exact .inl ⟨hg,h,rfl⟩
  | succ i=>exact ih (by simpa using h1) (by simpa using h2)
 | skip hg _ ih=>
  intro i o c h1 h2;cases i with
  | zero=>simp at h1 h2;subst h1;subst h2;exact .inr (.inl ⟨hg,rfl,rfl⟩)
  | succ i=>exact ih (by simpa using h1) (by simpa using h2)
 | new id hg h _ ih=>
  intro i o c h1 h2;cases i with
  | zero=>simp at h1 h2;subst h1;subst h2;exact .inr (.inr ⟨hg,id,_,h,rfl⟩)
  | succ i=>exact ih (by simpa using h1) (by simpa using h2)
def z0b{ι β:Type}:List ι->(ι->Option (List β))->Option (List β)
 | [],_=>some []
 | i::is,f=>match f i with
  | some a=>(match z0b is f with | some b=>some (a++b) | none=>none)
  | none=>none
theorem VEa{ι β:Type}{f:ι->Option (List β)}:∀{is:List ι} {ls:List β},z0b is f=some ls->∀i∈is,∃a,f i=some a/\∀p∈a,p∈ls
 | [],_,_,i,hi=>by cases hi
 | j::is,ls,h,i,hi=>by
  unfold z0b at h;cases hf:f j with
  | none=>rw[hf]at h;cases h
  | some a=>
   rw[hf]at h;cases hr:z0b is f with
   | none=>rw[hr]at h;cases h
   | some b=>
    rw[hr]at h;cases h;rcases jCd.1 hi with rfl | hi
    .exact ⟨a,hf,fun p hp=>List.mem_append_left _ hp⟩
    obtain ⟨a',h1,h2⟩:=VEa hr i hi;exact ⟨a',h1,fun p hp=>List.mem_append_right _ (h2 p hp)⟩
def kJb(l:List Oper)(fr:Fr):Option (Nat × Bool)->Option Bool
 | none=>some true
 | some (j,want)=>match (l[j]?).bind (·.dst) with
  | some d=>(match fr.get d with | .pv (.b (.bool t))=>(match t,want with | true,true=>some true | false,false=>some true | _,_=>some false) | .tup []=>some false | _=>none)
  | none=>none
theorem YPa{l:List Oper}{g:G}{a:Act}{o:Oper}{b:Bool}(hs:St E g a fr σ)(h:kJb l fr o.guard=some b):Region.wanted o (yielded l.toArray a.tmps)=b:=by
 cases hg:o.guard with
 | none=>rw[hg]at h;cases h;simp[Region.wanted,hg]
 | some jw=>
  obtain ⟨j,want⟩:=jw;rw[hg]at h;unfold kJb at h;cases hj:(l[j]?).bind (·.dst) with
  | none=>simp only[hj]at h;cases h
  | some d=>
   simp only[hj]at h;have hj' :(l.toArray[j]?).bind (·.dst)=some d:=by rw[jBi];exact hj
   split at h
   .rename_i t hv;have hy:=yXa hs hj' hv;cases t <;> cases want <;> cases h <;> simp[Region.wanted,hg,hy]
   .rename_i hv;cases h;have hy:yielded l.toArray a.tmps j=none:=by
     have h1:=hs.fr d;rw[hv]at h1;unfold yielded;rw[hj'];simp only[jAb];cases hx:a.tmps[d]? with
     | none=>rfl
     | some x=>
      rw[jAf,hx]at h1;simp only[jBt]at h1;cases h1;rfl
    simp[Region.wanted,hg,hy]
   cases h
def VFa(T:Tab)(N:Nat)(l:List Oper)(q:Nat):Nat->List Bool->Fr->Sto->Option (List (Fr × Sto))
 | 0,_,_,_=>none
 | n+1,D,fr,σ=>match (D.take q).all id with
  | true=>some [(fr,σ)]
  | false=>z0b (Vxa l D) fun i=>match l[i]? with
   | some o=>(match kJb l fr o.guard with
    | some true=>(match opDo T N o fr σ with | some r=>VFa T N l q n (D.set i true) r.1 r.2 | none=>none)
    | some false=>VFa T N l q n (D.set i true) ((o.dst.map fun d=>(d,AV.tup [])).toList++fr) σ
    | none=>none)
   | none=>none
def JRa(m:Nat)(fl:List Nat):Nat->Nat->List (List Bool)
 | 0,_=>[[]]
 | k+1,i=>(JRa m fl k (i+1)).flatMap fun r=>match Nat.ble m i with
  | true=>[false::r]
  | false=>(match fl.contains i with | true=>[true::r,false::r] | false=>[true::r])
theorem JSa{m:Nat}{fl:List Nat}:∀(k i:Nat) (D:List Bool),D.length=k->(∀j,j < k->m<=i+j->D.getD j false=false)->(∀j,j < k->i+j < m->fl.contains (i+j)=false->D.getD j false=true)->D∈JRa m fl k i
 | 0,i,D,h,_,_=>by
  obtain rfl:=jBo h;simp[JRa]
 | k+1,i,D,h,h1,h2=>by
  cases D with
  | nil=>simp at h
  | cons b r=>
   have ih:=JSa (m:=m) (fl:=fl) k (i+1) r (by simpa using h) (fun j hj hmj=>by
    have h3:m<=i+(j+1):=by omega
    have h4:=h1 (j+1) (by omega) h3;simpa using h4) (fun j hj hmj hc=>by
    have h3:i+(j+1) < m:=by omega
    have h4:fl.contains (i+(j+1))=false:=by rw[show i+(j+1)=i+1+j by omega];exact hc
    have h5:=h2 (j+1) (by omega) h3 h4;simpa using h5)
   unfold JRa;rw[List.mem_flatMap];refine ⟨r,ih,?_⟩;cases hm:Nat.ble m i with
   | true=>
    have:=h1 0 (by omega) (by have:=jAd hm;omega);simp at this;subst this;simp
   | false=>
    have hlt:i < m:=by
     rcases jBg i m with h3 | h3
     .exact h3
     rw[Nat.ble_eq_true_of_le h3]at hm;cases hm
    cases hc:fl.contains i with
    | true=>cases b <;> simp
    | false=>
     have:=h2 0 (by omega) (by omega) (by simpa using hc);simp at this;subst this;simp
def JTa:List AV->List Bool->List AV
 | c::cs,b::bs=>(bif b then c else .any)::JTa cs bs
 | _,_=>[]
theorem JUa:∀{cs:List AV} {bs:List Bool},cs.length<=bs.length->∀(i:Nat) (c:AV),cs[i]? =some c->(JTa cs bs)[i]? =some (bif bs.getD i false then c else .any)
 | [],_,_,i,c,h=>by simp at h
 | c0::cs,[],hl,_,_,_=>by simp at hl
 | c0::cs,b::bs,hl,i,c,h=>by
  cases i with
  | zero=>simp at h;subst h;simp[JTa]
  | succ i=>have:=JUa (cs:=cs) (bs:=bs) (by simpa using hl) i c (by simpa using h);simpa[JTa]using this
def VGa(T:Tab)(N:Nat)(l:List Oper)(m q:Nat)(fl:List Nat)(fuel:Nat)(cs:List AV)(fr:Fr)(σ:Sto):Option (List (Fr × Sto)):=
 z0b (JRa m fl l.length 0) fun D=>VFa T N l q fuel D (jua (l.take m) (JTa cs D) []++fr) σ
def Qja(l:List Oper)(m q:Nat)(fl:List Nat):Bool:=
 wHa .any l.toArray &&
 ((l.take m).all fun o=>o.dst.isSome) &&
 (List.range m).all (fun i=>(List.range m).all fun j=>Nat.beq i j || (l[i]?).bind (·.dst) !=(l[j]?).bind (·.dst)) &&
 ((l.take m).all fun o=>(kFb o).all fun t=>(List.range m).all fun j=>(l[j]?).bind (·.dst) !=some t || jva o j) &&
 ((l.take m).all fun o=>match o.guard with | none=>true | some (j,_)=>jva o j) &&
 (List.range l.length).all (fun i=>Nat.ble (i+1) m || (List.range i).all fun j=>(Nat.ble (i+1) q && fl.contains j) || ((w1a l l.length).getD i 0).testBit j)
def JDX(E:Env)(T:Tab)(l:List Oper)(m q:Nat)(fl:List Nat)(cs:List AV)(az:ObX)(fr:Fr)(σ:Sto)(frJ:Fr)(σJ:Sto)(K:Post)(D:Nat->Bool)(a:Act)(w:World):Prop:=
 (∀i o,l[i]? =some o->D i=true->∀e∈o.after,Region.binds .any e=true->D e.on=true)/\
 ((∃g,g.w=w/\(∀i,m<=i->D i=false)/\(∃i,i < m/\fl.contains i=false/\D i=false)/\a.tmps.size=E.N/\DokE E g.w a.defers/\Sok E.S E.g0 g (objX D 0 az++σ)/\
  (∀d,(∀i o,i < m->l[i]? =some o->o.dst≠some d)->Rel g (fr.get d) (a.tmps.getD d undef))/\
  (∀i o c d,i < m->D i=true->l[i]? =some o->cs[i]? =some c->o.dst=some d->Rel g c (a.tmps.getD d undef)))
  ∨(∃s,q<=s/\(∀i,i < l.length->(D i=true↔i < s))/\s<=l.length/\wpListIn (fen E.rd) 0 E.P l.toArray (Ends E K) (l.drop s) a w)
  ∨(∃(Dl:List Bool) (fr2:Fr) (σ2:Sto) (g:G) (n:Nat) (ls:List (Fr × Sto)),g.w=w/\Dl.length=l.length/\(∀i,i < l.length->D i=Dl.getD i false)/\(∀i,q<=i->D i=false)/\(Dl.take q).all id=false/\St E g a fr2 σ2/\
   VFa T E.N l q n Dl fr2 σ2=some ls/\∀p∈ls,FrLe p.1 frJ/\kza p.2 σJ))
set_option maxHeartbeats 2000000 in
theorem W2a{id:Nat}{l:List Oper}(m q fuel:Nat)(fl:List Nat)(new:Fr){cs:List AV}{az:ObX}{σ' :Sto}{T:Tab}{ls:List (Fr × Sto)}(frJ:Fr)(σJ:Sto)(hT:kVa E.P T)(hmix:E.P.follows .mixedOrders=true)(hok:Qja l m q fl=true)(hm:Nat.ble m q=true)(hq:Nat.ble q l.length=true)
 (hfl:(fl.all fun f=>match az[f]? with | some none=>true | _=>false)=true) (hN:((l.take m).all fun o=>o.dst.all fun d=>Nat.ble (d+1) E.N)=true)
 (hp:wKa E l.toArray (new++fr) σ (l.take m) cs az) (hfree:qob fr σ cs az=true) (hσ:objX (fun _=>true) 0 az++σ=σ') (hnew:jua (l.take m) cs []=new)
 (hl:VGa T E.N l m q fl fuel cs fr σ' =some ls) (hle:∀p∈ls,FrLe p.1 frJ/\kza p.2 σJ) (h:AWPL E l.toArray (l.drop q) frJ σJ K):AWP E (.region id l.toArray true) fr σ K:=by
 have hmq:=jAd hm;have hq:=jAd hq;have hm:m<=l.length:=by omega
 simp only[Qja,jAs,jAw]at hok;obtain ⟨⟨⟨⟨⟨hlb,hsome⟩,hdist⟩,hdat⟩,hgrd⟩,hsuf⟩:=hok;have hcslen:cs.length=m:=by rw[hp.len.1];simp;omega
 have haslen:az.length=m:=by rw[hp.len.2];simp;omega
 simp only[qob,jAs,jAw]at hfree;obtain ⟨⟨⟨hdist2,hids⟩,hcells⟩,hcsid⟩:=hfree;have hids' :∀k∈idX az,fr.has k=false/\σ.has k=false/\σ.get k=none:=by
  intro k hk;have:=hids k hk;simp only[jCb,Option.isNone_iff_eq_none]at this;exact ⟨this.1.1,this.1.2,this.2⟩
 have hcells' :∀(j id:Nat) (c:AO),az[j]? =some (some (id,c))->∀k∈idX az,AO.has k c=false:=by
  intro j id c hj k hk;have:=hcells _ (jAe hj);simp only[jAw,jCb]at this;exact this k hk
 have hcs' :∀(j:Nat) (c:AV) (x:Option (Nat × AO)),cs[j]? =some c->az[j]? =some x->∀k∈idX az,(∀id ds,x=some (id,ds)->id≠k)->c.has k=false:=by
  intro j c x hc hx k hk hne;have hmz:(c,x)∈cs.zip az:=by
   refine jAe (i:=j) ?_;rw[List.getElem?_zip_eq_some];exact ⟨hc,hx⟩
  have:=hcsid _ hmz k hk;simp only[jBx,jCb]at this;rcases this with h1 | h1
  .cases x with
   | none=>cases h1
   | some x=>obtain ⟨id,ds⟩:=x;exact absurd (jAo h1) (hne id ds rfl)
  exact h1
 have hsub:∀(D:Nat->Bool) o ob,σ.get o=some ob->Sto.get (objX D 0 az++σ) o=some ob:=by
  intro D o ob ho;rcases W1a (σ:=σ) (D:=D) az hdist2 o with ⟨j,c,_,h2,_⟩ | ⟨_,h2⟩
  .have:=(hids' o (zZb h2)).2.2;rw[this]at ho;cases ho
  rw[h2];exact ho
 have htake:∀i,i < m->(l.take m)[i]? =l[i]? :=fun i hi=>jAt hi
 have hmem:∀i o,i < m->l[i]? =some o->o∈l.take m:=fun i o hi ho=>jAe (by rw[htake i hi];exact ho)
 have hdist' :∀i j o o',i < m->j < m->l[i]? =some o->l[j]? =some o' ->i≠j->o.dst≠o'.dst:=by
  intro i j o o' hi hj ho ho' hne hc;have:=hdist i (by simpa using hi) j (by simpa using hj);simp only[jBx,bne_iff_ne,ne_eq]at this;rcases this with h1 | h1
  .exact hne (jAo h1)
  exact h1 (by rw[ho,ho'];simpa using hc)
 have hA:∀(cs' :List AV) d,(∀i o,i < m->l[i]? =some o->o.dst≠some d)->(jua (l.take m) cs' []++fr).get d=fr.get d:=by
  intro cs' d hd;rw[<-j4a,jCo];refine Z7a _ _ _ _ fun o ho=>?_
  obtain ⟨i,hi,rfl⟩:=jCm ho;have hi' :i < m:=by simp at hi;omega
  exact hd i _ hi' (by rw[<-htake i hi'];exact jAi hi)
 have hB:∀(cs' :List AV) i o c d,i < m->l[i]? =some o->cs'[i]? =some c->o.dst=some d->(jua (l.take m) cs' []++fr).get d=c:=by
  intro cs' i o c d hi ho hc hd;rw[<-j4a,jCo];refine JHa _ _ _ i o c d (fun i j o o' h1 h2 hne=>?_) (by rw[htake i hi];exact ho) hc hd;have hi1:i < m:=by have:=(jAc.1 h1).1;simp at this;omega
  have hj1:j < m:=by have:=(jAc.1 h2).1;simp at this;omega
  rw[htake i hi1]at h1;rw[htake j hj1]at h2;exact hdist' i j o o' hi1 hj1 h1 h2 hne
 have hsuf' :∀{D:Nat->Bool} i o,(∀i o,l[i]? =some o->D i=true->∀e∈o.after,Region.binds .any e=true->D e.on=true)->m<=i->l[i]? =some o->(∀e∈o.after,Region.binds .any e=true->D e.on=true)->∀j,j < i->(q<=i∨fl.contains j=false)->D j=true:=by
  intro D i o hcl hi ho he j hj hqj;have hil:i < l.length:=(jAc.1 ho).1;have:=hsuf i (by simpa using hil);simp only[jBx,jAw,jAs]at this;rcases this with h1 | h1
  .have:=jAd h1;omega
  rcases h1 j (by simpa using hj) with ⟨h2,h3⟩ | h2
  .have:=jAd h2;rcases hqj with h4 | h4
   .omega
   rw[h4]at h3;cases h3
  exact Z6a hcl l.length i o ho he j h2
 have hdir:∀{D:Nat->Bool} {o:Oper} {j:Nat},(∀e∈o.after,Region.binds .any e=true->D e.on=true)->jva o j=true->D j=true:=by
  intro D o j he hd;simp only[jva,List.any_eq_true,jAs]at hd;obtain ⟨e,h1,h2,h3⟩:=hd;rw[<-jAo h3];exact he e (by simpa using h1) h2
 have hflz:∀j x,az[j]? =some (some x)->fl.contains j=false:=by
  intro j x hj;cases hc:fl.contains j with
  | false=>rfl
  | true=>
   rw[jAw]at hfl;have:=hfl j (by simpa using hc);rw[hj]at this;cases this
 have enter2:∀(g:G) (a:Act) (D:Nat->Bool) (Dl:List Bool) (fr2:Fr) (σ2:Sto) (n:Nat) (ls2:List (Fr × Sto)),(∀i o,l[i]? =some o->D i=true->∀e∈o.after,Region.binds .any e=true->D e.on=true)->Dl.length=l.length->(∀i,i < l.length->D i=Dl.getD i false)->(∀i,q<=i->D i=false)->St E g a fr2 σ2->VFa T E.N l q n Dl fr2 σ2=some ls2->(∀p∈ls2,FrLe p.1 frJ/\kza p.2 σJ)->JDX E T l m q fl cs az fr σ frJ σJ K D a g.w:=by
  intro g a D Dl fr2 σ2 n ls2 hcl hlen hbits hge hst htree hls;cases hall:(Dl.take q).all _root_.id with
  | false=>exact ⟨hcl,.inr (.inr ⟨Dl,fr2,σ2,g,n,ls2,rfl,hlen,hbits,hge,hall,hst,htree,hls⟩)⟩
  | true=>
   cases n with
   | zero=>unfold VFa at htree;cases htree
   | succ n=>
    unfold VFa at htree;rw[hall]at htree;cases htree;obtain ⟨h1,h2⟩:=hls (fr2,σ2) (by simp);refine ⟨hcl,.inr (.inl ⟨q,jBc _,fun i hi=>⟨fun hd=>?_,fun hlt=>?_⟩,hq,h.go g a (hst.le h1 h2)⟩)⟩
    .rcases jBg i q with h3 | h3
     .exact h3
     rw[hge i h3]at hd;cases hd
    rw[hbits i hi];rw[jAw]at hall;have hiD:i < Dl.length:=by omega
    have:=hall Dl[i] (jAe (i:=i) (by rw[jAt hlt];exact jAi hiD));simpa[jAm,hiD]using this
 have close1:∀(g:G) (a:Act) (D:Nat->Bool),(∀i o,l[i]? =some o->D i=true->∀e∈o.after,Region.binds .any e=true->D e.on=true)->(∀i,m<=i->D i=false)->(∀i,i < m->fl.contains i=false->D i=true)->a.tmps.size=E.N->DokE E g.w a.defers->Sok E.S E.g0 g (objX D 0 az++σ)->
  (∀d,(∀i o,i < m->l[i]? =some o->o.dst≠some d)->Rel g (fr.get d) (a.tmps.getD d undef))->
  (∀i o c d,i < m->D i=true->l[i]? =some o->cs[i]? =some c->o.dst=some d->Rel g c (a.tmps.getD d undef))->JDX E T l m q fl cs az fr σ frJ σJ K D a g.w:=by
  intro g a D hcl hge hdone hsz hdf hso hf0 hfD;have hlen:((List.range l.length).map D).length=l.length:=by simp
  have hbits:∀i,i < l.length->D i=((List.range l.length).map D).getD i false:=by intro i hi;simp[jAm,hi]
  have hmem2:(List.range l.length).map D∈JRa m fl l.length 0:=JSa l.length 0 _ hlen (fun j hj hmj=>by rw[<-hbits j hj];exact hge j (by omega)) (fun j hj hmj hc=>by rw[<-hbits j hj];rw[jCc]at hmj hc;exact hdone j hmj hc);obtain ⟨ls2,h1,h2⟩:=VEa hl _ hmem2;refine enter2 g a D _ _ σ' fuel ls2 hcl hlen hbits (fun i hi=>hge i (by omega)) ⟨fun d=>?_,hsz,hdf,?_⟩ h1 (fun p hp=>hle p (h2 p hp))
  .by_cases hex2:∃j o',j < m/\l[j]? =some o' /\o'.dst=some d
   .obtain ⟨j,o',hj,q1,q2⟩:=hex2;obtain ⟨c',hc'⟩:∃c,cs[j]? =some c:=⟨cs[j]'(by omega),jAi (by omega)⟩;have hmk:=JUa (cs:=cs) (bs:=(List.range l.length).map D) (by rw[hlen];omega) j c' hc';rw[hB _ j o' _ d hj q1 hmk q2,<-hbits j (by omega)];cases hD:D j with
    | false=>exact .any _
    | true=>exact hfD j o' c' d hj hD q1 hc' q2
   rw[hA _ d (fun j o' hj q1 q2=>hex2 ⟨j,o',hj,q1,q2⟩)];exact hf0 d (fun j o' hj q1 q2=>hex2 ⟨j,o',hj,q1,q2⟩)
  have e:objX D 0 az=objX (fun _=>true) 0 az:=KBa az 0 (fun j x hj=>by
   rw[jCc];have hjm:j < m:=by have:=(jAc.1 hj).1;omega
   exact hdone j hjm (hflz j x hj))
  rw[<-hσ,<-e];exact hso
 refine ⟨fun g a hst=>?_⟩;have hst0:=hst.drew;refine yma hmix hlb (JDX E T l m q fl cs az fr σ frJ σJ K) ?_ ?_ ?_
 .have hso0:Sok E.S E.g0 ⟨g.w.drew,g.u,g.loc⟩ (objX (fun _=>false) 0 az++σ):=hst0.so.le (fun o ob ho=>by rw[<-j6a (D:=fun _=>false) az 0 (fun _ _ _=>rfl)];exact ho);by_cases hex:∃i,i < m/\fl.contains i=false
  .obtain ⟨i,hi1,hi2⟩:=hex;exact ⟨fun i o _ hd=>by simp at hd,.inl ⟨⟨g.w.drew,g.u,g.loc⟩,rfl,fun _ _=>rfl,⟨i,hi1,hi2,rfl⟩,hst0.n,hst0.df,hso0,fun d _=>hst0.fr d,fun i o c d _ hd=>by simp at hd⟩⟩
  exact close1 ⟨g.w.drew,g.u,g.loc⟩ a (fun _=>false) (fun i o _ hd=>by simp at hd) (fun _ _=>rfl) (fun i h1 h2=>absurd ⟨i,h1,h2⟩ hex) hst0.n hst0.df hso0 (fun d _=>hst0.fr d) (fun i o c d _ hd=>by simp at hd)
 .rintro D a w ⟨_,⟨g,_,_,⟨i,hi,_,hd⟩,_⟩ | ⟨s,hs1,hs2,hs3,hs4⟩ | ⟨Dl,_,_,_,_,_,_,hlen,hbits,_,hall2,_⟩⟩ hall
  .rw[hall i (by simp;omega)]at hd;cases hd
  .have:s=l.length:=by
    rcases jBg s l.length with h1 | h1
    .have:=(hs2 s h1).1 (hall s (by simpa using h1));omega
    omega
   subst this;rw[List.drop_length]at hs4;exact hs4
  exfalso;have:(Dl.take q).all _root_.id=true:=by
   rw[jAw];intro x hx;obtain ⟨i,hi,rfl⟩:=List.mem_iff_getElem.1 (jCu hx);have h1:=hbits i (by omega);rw[hall i (by simp;omega)]at h1;simp only[jAm,jAi hi,jBt]at h1;simp[<-h1]
  rw[this]at hall2;cases hall2
 rintro D a w i o ⟨hcl,hJ⟩ ho hDi he;have ho' :l[i]? =some o:=by simpa using ho
 have hil:i < l.length:=(jAc.1 ho').1;have hcl' :∀i' o',l[i']? =some o' ->upd D i i' =true->∀e∈o'.after,Region.binds .any e=true->upd D i e.on=true:=by
  intro i' o' h1 h2 e h3 h4;unfold upd at h2 ⊢;split
  .rfl
  split at h2
  .rename_i hii;subst hii;rw[ho']at h1;cases h1;exact he e h3 h4
  exact hcl i' o' h1 h2 e h3 h4
 rcases hJ with ⟨g,rfl,hge,⟨i0,hi0,hfl0,hd0⟩,hsz,hdf,hso,hf0,hfD⟩ | ⟨s,hs1,hs2,hs3,hs4⟩ | ⟨Dl,fr2,σ2,g,n,ls2,rfl,hlen,hbits,hge,hall2,hst2,htree,hls2⟩
 .have him:i < m:=by
   rcases jBg i m with h1 | h1
   .exact h1
   have:=hsuf' i o hcl h1 ho' he i0 (by omega) (.inr hfl0);rw[hd0]at this;cases this
  obtain ⟨c,hc⟩:∃c,cs[i]? =some c:=⟨cs[i]'(by omega),jAi (by omega)⟩;have hslot:∀d,(∃j o' ,j < m/\l[j]? =some o' /\o'.dst=some d/\D j=true)∨(∀j o',j < m->l[j]? =some o' ->o'.dst≠some d)->Rel g ((new++fr).get d) (a.tmps.getD d undef):=by
   rintro d (⟨j,o',hj,ho1,hd1,hD1⟩ | hno)
   .obtain ⟨c',hc'⟩:∃c,cs[j]? =some c:=⟨cs[j]'(by omega),jAi (by omega)⟩;rw[<-hnew,hB cs j o' c' d hj ho1 hc' hd1];exact hfD j o' c' d hj hD1 ho1 hc' hd1
   rw[<-hnew,hA cs d hno];exact hf0 d hno
  have hops:∀x∈o.op.operands,Rel g ((new++fr).ev x) (a.eval x):=by
   intro x hx;cases x with
   | const v=>exact yfa g v
   | global q=>exact .pv (.b rfl)
   | func f=>exact .fn (by simp) (by simp) (fun i c h=>by simp at h) (fun i c h=>by simp at h)
   | tmp t=>
    refine hslot t ?_;by_cases hex:∃j o',j < m/\l[j]? =some o' /\o'.dst=some t
    .obtain ⟨j,o',hj,ho1,hd1⟩:=hex;have h1:=hdat o (hmem i o him ho') t (by simp only[kFb,jDm];exact ⟨.tmp t,by simpa using hx,rfl⟩) j (by simpa using hj);simp only[jBx,bne_iff_ne,ne_eq]at h1;rcases h1 with h1 | h1
     .exact absurd (by rw[ho1];simpa using hd1) h1
     exact .inl ⟨j,o',hj,ho1,hd1,hdir he h1⟩
    exact .inr fun j o' hj ho1 hd1=>hex ⟨j,o',hj,ho1,hd1⟩
  have hguard:∀j want d,o.guard=some (j,want)->(l.toArray[j]?).bind (·.dst)=some d->Rel g ((new++fr).get d) (a.tmps.getD d undef):=by
   intro j want d hg hj;have h1:=hgrd o (hmem i o him ho');rw[hg]at h1;have hDj:=hdir he h1;have hjm:j < m:=by
    rcases jBg j m with h2 | h2
    .exact h2
    rw[hge j h2]at hDj;cases hDj
   cases hoj:l[j]? with
   | none=>rw[jBi,hoj]at hj;cases hj
   | some o' =>
    rw[jBi,hoj]at hj;exact hslot d (.inl ⟨j,o',hjm,hoj,by simpa using hj,hDj⟩)
  have hafter:∀(g' :G) (v:Value) (d:Nat),o.dst=some d->Old (fun _=>False) g g' ->Sok E.S E.g0 g' (objX (upd D i) 0 az++σ)->(∀c v,Rel g c v->(∀k,k∈idX az->az[i]?.bind (fun x=>x.map (·.1))=some k->c.has k=false)->Rel g' c v)->Rel g' c v->JDX E T l m q fl cs az fr σ frJ σJ K (upd D i) (a.put o.dst v) g'.w:=by
   intro g' v d hd hold hso' hmono0 hv;have hdN:d < E.N:=by
    rw[jAw]at hN;have:=hN o (hmem i o him ho');rw[hd]at this;exact jAd (by simpa using this)
   have hget:∀d',(a.put o.dst v).tmps.getD d' undef=if d=d' then v else a.tmps.getD d' undef:=by
    intro d';rw[hd];simp only[Act.put];rw[vTa];by_cases h1:d=d'
    .rw[if_pos ⟨h1,by omega⟩,if_pos h1]
    rw[if_neg (fun x=>h1 x.1),if_neg h1]
   have hsz' :(a.put o.dst v).tmps.size=E.N:=by rw[hd];simp[Act.put,hsz]
   have hdf' :DokE E g'.w (a.put o.dst v).defers:=by rw[hd];exact hdf.mono hold.ext
   have hF0:∀d',(∀i o,i < m->l[i]? =some o->o.dst≠some d')->Rel g' (fr.get d') ((a.put o.dst v).tmps.getD d' undef):=by
    intro d' hno;rw[hget,if_neg (by rintro rfl;exact hno i o him ho' hd)];exact hmono0 _ _ (hf0 d' hno) (fun k hk _=>by
     cases hx:(fr.get d').has k with
     | false=>rfl
     | true=>have:=Fr.has_get hx;rw[(hids' k hk).1]at this;cases this)
   have hFD:∀i' o' c' d',i' < m->upd D i i' =true->l[i']? =some o' ->cs[i']? =some c' ->o'.dst=some d' ->Rel g' c' ((a.put o.dst v).tmps.getD d' undef):=by
    intro i' o' c' d' hi' hD' h1 h2 h3;by_cases hii:i' =i
    .subst hii;rw[ho']at h1;cases h1;rw[hc]at h2;cases h2;rw[hd]at h3;cases h3;rw[hget,if_pos rfl];exact hv
    have hD1:D i' =true:=by unfold upd at hD';rwa [if_neg hii]at hD'
    have hne:d≠d' :=by
     rintro rfl;exact hdist' i' i o' o hi' him h1 ho' hii (h3.trans hd.symm)
    rw[hget,if_neg hne];refine hmono0 _ _ (hfD i' o' c' d' hi' hD1 h1 h2 h3) (fun k hk hki=>?_);obtain ⟨x,hx⟩:∃x,az[i']? =some x:=⟨az[i']'(by omega),jAi (by omega)⟩;refine hcs' i' c' x h2 hx k hk (fun id ds hxe hik=>?_);subst hxe;subst hik;cases hai:az[i]? with
    | none=>rw[hai]at hki;cases hki
    | some y=>
     rw[hai]at hki;cases y with
     | none=>cases hki
     | some y=>
      obtain ⟨id2,ds2⟩:=y;simp at hki;subst hki;exact hii (YNa hdist2 hx hai)
   have hge' :∀i',m<=i' ->upd D i i' =false:=by
    intro i' hi';unfold upd;rw[if_neg (by omega)];exact hge i' hi'
   by_cases hex:∃i',i' < m/\fl.contains i' =false/\upd D i i' =false
   .exact ⟨hcl',.inl ⟨g',rfl,hge',hex,hsz',hdf',hso',hF0,hFD⟩⟩
   refine close1 g' _ _ hcl' hge' (fun i' h1 h2=>?_) hsz' hdf' hso' hF0 hFD;cases h3:upd D i i' with
   | true=>rfl
   | false=>exact absurd ⟨i',h1,h2,h3⟩ hex
  obtain ⟨d,hd⟩:∃d,o.dst=some d:=by
   have:=hsome o (hmem i o him ho');cases hd:o.dst with
   | none=>rw[hd]at this;cases this
   | some d=>exact ⟨d,rfl⟩
  unfold wpOpIn;rw[ho];simp only;have hyes:qEa l.toArray (new++fr) o->Region.wanted o (yielded l.toArray a.tmps)=true:=by
   intro hg;cases hg with
   | plain h1=>simp[Region.wanted,h1]
   | @yes j d' want t h1 h2 h3 h4=>
    have hr:=hguard j want d' h1 h2;rw[h3]at hr;have hy:yielded l.toArray a.tmps j=some t:=by
     unfold yielded;rw[h2];simp only[jAb];have h5:=Kqa hr;cases hx:a.tmps[d']? with
     | none=>rw[jAf,hx]at h5;simp[undef]at h5
     | some x=>rw[jAf,hx]at h5;simp at h5;rw[h5]
    have h6:(yielded l.toArray a.tmps j==some want)=true:=by rw[hy,h4];cases want <;> rfl
    simp only[Region.wanted,h1,h6]
  have hsame:az[i]? =some none->objX (upd D i) 0 az=objX D 0 az:=fun hn=>KBa az 0 (fun j x hj=>by
   rw[jCc];unfold upd;rw[if_neg (by rintro rfl;rw[hn]at hj;cases hj)])
  rcases hp.get (i:=i) (by rw[htake i him];exact ho') hc with ⟨hg,hop,has⟩ | ⟨hg,rfl,has⟩ | ⟨hg,id,ob,hop,has⟩
  .have hw:=hyes hg;simp only[hw,if_true];exact hop.go g a _ _ hops (hso.le (hsub D)) fun g' v h1 h2 h3 h4=>hafter g' v d hd h1 (by rw[hsame has];exact hso.grow h1 h2 (fun k _=>by rw[h3])) (fun c v hr _=>hr.mono h1.ext (fun k _=>by rw[h3])) h4
  .have hw:Region.wanted o (yielded l.toArray a.tmps)=false:=by
    cases hg with
    | @no j d' want t h1 h2 h3 h4=>
     have hr:=hguard j want d' h1 h2;rw[h3]at hr;have hy:yielded l.toArray a.tmps j=some t:=by
      unfold yielded;rw[h2];simp only[jAb];have h5:=Kqa hr;cases hx:a.tmps[d']? with
      | none=>rw[jAf,hx]at h5;simp[undef]at h5
      | some x=>rw[jAf,hx]at h5;simp at h5;rw[h5]
     have h6:(yielded l.toArray a.tmps j==some want)=false:=by rw[hy,h4];cases want <;> rfl
     simp only[Region.wanted,h1,h6]
    | @none j d' want h1 h2 h3=>
     have hr:=hguard j want d' h1 h2;rw[h3]at hr;have hy:yielded l.toArray a.tmps j=none:=by
      unfold yielded;rw[h2];simp only[jAb];cases hx:a.tmps[d']? with
      | none=>rfl
      | some x=>rw[jAf,hx]at hr;simp only[jBt]at hr;cases hr;rfl
     have h6:(yielded l.toArray a.tmps j==some want)=false:=by rw[hy];rfl
     simp only[Region.wanted,h1,h6]
   simp only[hw];exact ⟨fun _ _=>trivial,hafter g undef d hd (Old.refl _ g) (by rw[hsame has];exact hso) (fun c v hr _=>hr) (.tup rfl (fun i c hi=>by simp at hi))⟩
  have hw:=hyes hg;simp only[hw,if_true];have hidm:=zZb has;have hst1:St E g a [] (objX D 0 az++σ):=⟨fun _=>.any _,hsz,hdf,hso⟩;refine hop.go g a _ _ _ hops hst1 (YOa (hids' id hidm).2.1 az 0 (fun j id' c hj=>hcells' j id' c hj id hidm)) (hcells' i id ob has id hidm) fun g' v hold hloc hso2 hv=>hafter g' v d hd hold ?_ ?_ hv
  .refine hso2.le fun o' ob ho1=>?_
   rw[Sto.get_cons];rcases W1a (σ:=σ) (D:=upd D i) az hdist2 o' with ⟨j,c',h1,h2,h3⟩ | ⟨h1,h2⟩
   .by_cases hji:j=i
    .subst hji;rw[has]at h2;simp at h2;obtain ⟨rfl,rfl⟩:=h2;rw[if_pos rfl,<-ho1,h3]
    have hne:id≠o' :=by rintro rfl;exact hji (YNa hdist2 h2 has)
    rw[if_neg hne,<-ho1,h3];have hDj:D j=true:=by unfold upd at h1;rwa [if_neg hji]at h1
    exact KAa az 0 j hdist2 h2 (by simpa using hDj)
   have hne:id≠o' :=by
    rintro rfl;have:=h1 i _ has;simp[upd]at this
   rw[if_neg hne,<-ho1,h2];refine j6a az 0 (fun j c' hj=>?_);rw[jCc];have h3:=h1 j c' hj;unfold upd at h3;split at h3
   .cases h3
   exact h3
  intro c v hr hk;refine hr.mono hold.ext (fun k hck=>hloc k ?_);rintro rfl;have:=hk k hidm (by rw[has];rfl);rw[this]at hck;cases hck
 .have hil:i < l.length:=(jAc.1 ho').1;have his:s<=i:=by
   rcases jBg i s with h1 | h1
   .rw[(hs2 i hil).2 h1]at hDi;cases hDi
   exact h1
  have hsi:i=s:=by
   rcases jBg s i with h1 | h1
   .have:=hsuf' i o hcl (by omega) ho' he s h1 (.inl (by omega));have:=(hs2 s (by omega)).1 this;omega
   omega
  subst hsi;have hdrop:l.drop i=o::l.drop (i+1):=by
   rw[List.drop_eq_getElem_cons hil]
   congr 1
   exact (jAc.1 ho').2
  rw[hdrop]at hs4;unfold wpOpIn;rw[ho];simp only[wpListIn]at hs4 ⊢;have hJ' :∀a' w',wpListIn (fen E.rd) 0 E.P l.toArray (Ends E K) (l.drop (i+1)) a' w' ->JDX E T l m q fl cs az fr σ frJ σJ K (upd D i) a' w' :=by
   intro a' w' hw';refine ⟨hcl',.inr (.inl ⟨i+1,by omega,fun i' hi' =>?_,by omega,hw'⟩)⟩;unfold upd;split
   .rename_i hii;subst hii;simp
   rename_i hii;rw[hs2 i' hi'];omega
  split
  .rename_i hw;rw[if_pos hw]at hs4;exact Oper.wpIn_mono hJ' hs4
  rename_i hw;rw[if_neg hw]at hs4;exact ⟨hs4.1,hJ' _ _ hs4.2⟩
 have hnq:i < q:=by
  rcases jBg i q with h1 | h1
  .exact h1
  exfalso;have:(Dl.take q).all _root_.id=true:=by
   rw[jAw];intro x hx;obtain ⟨j,hj,rfl⟩:=List.mem_iff_getElem.1 hx;have hjq:j < q:=by simp at hj;omega
   have hjl:j < Dl.length:=by simp at hj;omega
   have h2:=hsuf' i o hcl (by omega) ho' he j (by omega) (.inl h1);rw[hbits j (by omega)]at h2;simp only[List.getElem_take];simpa[jAm,hjl]using h2
  rw[this]at hall2;cases hall2
 have hready:i∈Vxa l Dl:=by
  simp only[Vxa,jCw,jDk];refine ⟨hil,?_⟩;unfold vdb;rw[ho'];simp only[jAs,jCb,jAw,jBx];refine ⟨by rw[<-hbits i hil];exact hDi,fun e he1=>?_⟩;cases hb:Region.binds .any e with
  | false=>exact .inl rfl
  | true=>
   refine .inr ?_;have h1:=he e (by simpa using he1) hb;have hlt:=ySa hlb ho e (by simpa using he1) hb;rw[<-hbits e.on (by omega)];exact h1
 have hnext:∀k,k < l.length->upd D i k=(Dl.set i true).getD k false:=by
  intro k hk;unfold upd;simp only[jAm,jDs];by_cases hki:k=i
  .subst hki;simp[hlen,hk]
  rw[if_neg hki,if_neg (Ne.symm hki),<-jAm];exact hbits k hk
 cases n with
 | zero=>unfold VFa at htree;cases htree
 | succ n=>
  unfold VFa at htree;rw[hall2]at htree;obtain ⟨b,h1,h2⟩:=VEa htree i hready;rw[ho']at h1;simp only at h1;cases hgd:kJb l fr2 o.guard with
  | none=>rw[hgd]at h1;cases h1
  | some bw=>
   have hw:=YPa hst2 hgd;rw[hgd]at h1;cases bw with
   | true=>
    dsimp only at h1;cases hdo:opDo T E.N o fr2 σ2 with
    | none=>rw[hdo]at h1;cases h1
    | some r=>
     rw[hdo]at h1;obtain ⟨fr3,σ3⟩:=r;unfold wpOpIn;rw[ho];simp only[hw,if_true];exact (YMa hT hdo).go g a _ _ hst2 fun g' a' hst3=>enter2 g' a' _ _ _ _ n b hcl' (by simp[hlen]) hnext (fun k hk=>by unfold upd;rw[if_neg (by omega)];exact hge k hk) hst3 h1 (fun p hp=>hls2 p (h2 p hp))
   | false=>
    dsimp only at h1;unfold wpOpIn;rw[ho];simp only[hw];exact ⟨fun _ _=>trivial,enter2 g _ _ _ _ _ n b hcl' (by simp[hlen]) hnext (fun k hk=>by unfold upd;rw[if_neg (by omega)];exact hge k hk) hst2.putUndef h1 (fun p hp=>hls2 p (h2 p hp))⟩
section
variable {E:Env} {fr:Fr} {σ:Sto} {k:KS} {ops:Array Oper} {T:Tab} {c:AV} {t ty:TypeId} {pos:String} {af:Array Edge} {row:VAa}
theorem drX{id:Nat}{l:List Oper}(m q fuel cnt:Nat)(fl:List Nat)(new:Fr){cs:List AV}{az:ObX}{σ' :Sto}(frJ:Fr)(σJ:Sto)(hT:kVa E.P T)(hmix:E.P.follows .mixedOrders=true)(hok:Qja l m q fl=true)(hm:Nat.ble m q=true)(hq:Nat.ble q l.length=true)
 (hN:((l.take m).all fun o=>o.dst.all fun d=>Nat.ble (d+1) E.N)=true)
 (hp:wKa E l.toArray (new++fr) σ (l.take m) cs az) (hfl:(fl.all fun f=>match az[f]? with | some none=>true | _=>false)=true) (hfree:qob fr σ cs az=true) (hσ:objX (fun _=>true) 0 az++σ=σ') (hnew:jua (l.take m) cs []=new)
 (hl:(VGa T E.N l m q fl fuel cs fr σ').map (fun ls=>ls.map fun p=>(frJ.map p.1.sel,σJ.map p.2.sel))=some (List.replicate cnt (frJ,σJ.map fun p=>some p.2))) (h:(GS.ops l.toArray (l.drop q) frJ σJ k).holds E):(GS.code (.region id l.toArray true) fr σ k).holds E:=by
 cases hls:VGa T E.N l m q fl fuel cs fr σ' with
 | none=>rw[hls]at hl;cases hl
 | some ls=>
  rw[hls]at hl;simp only[jCv,Option.some.injEq]at hl;refine W2a m q fuel fl new frJ σJ hT hmix hok hm hq hfl hN hp hfree hσ hnew hls (fun p hp=>?_) h;have h1:(frJ.map p.1.sel,σJ.map p.2.sel)∈List.replicate cnt (frJ,σJ.map fun p=>some p.2):=by rw[<-hl];exact jBy.2 ⟨p,hp,rfl⟩
  rw[jDe]at h1;have h2:=Prod.mk.inj h1.2;exact ⟨frw h2.1,stw h2.2⟩
theorem pqX{o:Oper}{l:List Oper}{cs:List AV}{az:ObX}(hT:kVa E.P T)(hq:qval T fr.ev σ o.op=some c)(hg:qEa ops fr o)(hr:wKa E ops fr σ l cs az):wKa E ops fr σ (o::l) (c::cs) (none::az):=.run hg (zpa (VBa hT hq)) hr
theorem pnX{d:Nat}{gu:Option (Nat × Bool)}{l:List Oper}{cs ds:List AV}{az:ObX}(id:Nat)(hT:kVa E.P T)(ht:T.get t=some row)(hz:w2a (row.zero.cells.toList.map vla)=some ds)(hz2:row.zero.cells.toList.all cellV=true)(hg:qEa ops fr ⟨some d,.alloc t,ty,pos,af,gu⟩)(hr:wKa E ops fr σ l cs az):wKa E ops fr σ (⟨some d,.alloc t,ty,pos,af,gu⟩::l) (.ptr id 0::cs) (some (id,.cells ds)::az):=
 .new id hg (JQa (hT _ _ ht).ty (q5a hz) hz2) hr
end
end
section
section
variable {P:Program} {dst:Option Tmp} {ty:TypeId} {pos:String} {af:Array Edge} {gu:Option (Nat × Bool)} {ρ:Operand->AV} {σ:Sto}
variable {t e:TypeId} {size bytes ss sb len:Nat} {zero sz:Value} {d:TypeDesc} {x y:Operand} {k:IntKind} {n:Int}
end
end
section
variable {P:Program} {ρ:Operand->AV} {σ:Sto} {dst:Option Tmp} {ty:TypeId} {pos:String} {af:Array Edge} {gu:Option (Nat × Bool)}
end
section
variable {P:Program} {σ:Sto} {dst:Option Tmp} {ty:TypeId} {pos:String} {af:Array Edge} {gu:Option (Nat × Bool)} {E:Env} {fr:Fr} {K:Post}
end
section
open Go.ChangeShapes Go.WideShapes Go.ChangeAt Go.RowKit Go.Proofs.Tryz
def uAll(W:World)(k:Nat):Nat:=match W.heap[k]? with
 | some (.cells vs _ _)=>vs.size
 | _=>0
theorem vDb{W:World}{b i:Nat}{v:Value}(h:W.cell? ⟨b,i,none⟩=some v):i < uAll W b/\b < W.heap.size:=by
 unfold World.cell? at h;simp only[Option.isSome_none,jAj,if_false]at h;split at h
 .rename_i c t z hb;refine ⟨?_,(Array.getElem?_eq_some_iff.1 hb).1⟩;unfold uAll;rw[hb];exact (Array.getElem?_eq_some_iff.1 h).1
 cases h
def gAll(W:World):G:=⟨W,uAll W,fun _=>.none⟩
theorem wf_all(W:World):Wf (gAll W):=fun k hk=>by
 show uAll W k=0;unfold uAll;have:W.heap[k]? =none:=jDd hk;rw[this]
structure RelC (W:World) (ps:List PV) (cs:List Value):Prop where
 len:cs.length=ps.length
 rel:∀(i:Nat) (c:PV),ps[i]? =some c->RelP W (uAll W) c (cs.getD i undef)
theorem ZBa{W:World}{p:PV}{v:Value}(h:RelP W (uAll W) p v):RelC W [p] [v]:=⟨rfl,fun i c hi=>by
 cases i with
 | zero=>simp at hi;subst hi;exact h
 | succ i=>simp at hi⟩
theorem z1b{W:World}{p1 p2:List PV}{cs:List Value}{n:Nat}(hn:n=p1.length)(h1:RelC W p1 (cs.take n))(h2:RelC W p2 (cs.drop n)):RelC W (p1++p2) cs:=by
 subst hn;have l1:=h1.len;have l2:=h2.len;simp at l1 l2;refine ⟨by simp;omega,fun i c hi=>?_⟩;rcases jBg i p1.length with hlt | hge
 .rw[jAk hlt]at hi;have:=h1.rel i c hi;simpa[jAm,List.getElem?_take,hlt]using this
 rw[jAh hge]at hi;have:=h2.rel _ c hi;simp only[jAm,jBf]at this ⊢
 rwa [show p1.length+(i - p1.length)=i by omega]at this
structure yTa (P:Program) (t:TypeId) {T:Type} (n:Nat) (pc:T->List PV) (ok:T->Prop) (bk:T->Nat):Prop where
 cells:P.cellsOf t=n
 len:∀x,(pc x).length=n
 op:∀{H:Type} {enc:TypeId × Value->H} {W:World} {fuel:Nat} {cs:List Value} {d:DataW H × List MemPlace},DataW.trod enc P W 0 (fun _=>true) true fuel t cs=some d->
  ∃x:T,RelC W (pc x) cs/\ok x/\bk x<=Rows.uptoBulk d.1
def ok64(n:Int):Prop:= -9223372036854775808<=n/\n<=9223372036854775807
def Wwa(s:Str):Prop:=s.length<=maxLen
def okL{T:Type}(ok:T->Prop)(l:List T):Prop:=l.length<=maxLen/\∀x∈l,ok x
def bkL{T:Type}(bk:T->Nat):List T->Nat
 | []=>1
 | x::r=>bk x+bkL bk r
variable {P:Program} {t e:TypeId}
theorem opens_I(ht:P.underlying t=some (.int .i64))(hc:P.cellsOf t=1):yTa P t 1 cI ok64 (fun _=>1):=⟨hc,fun _=>rfl,fun h=>by
 obtain ⟨n,rfl,rfl,hw⟩:=DataW.trod_int ht h;refine ⟨n,ZBa (.b rfl),?_,by simp[Rows.uptoBulk]⟩;unfold ok64;simpa[Lit.wf,IntKind.min,IntKind.max,IntKind.signed,IntKind.bits]using hw⟩
theorem opens_U(ht:P.underlying t=some (.int .u8))(hc:P.cellsOf t=1):yTa P t 1 cU (fun _=>True) (fun _=>1):=⟨hc,fun _=>rfl,fun {H enc W fuel cs d} h=>by
 obtain ⟨n,rfl,rfl,hw⟩:=DataW.trod_int ht h;have hw:0<=n/\n<=255:=by simpa[Lit.wf,IntKind.min,IntKind.max,IntKind.signed,IntKind.bits]using hw
 refine ⟨UInt8.ofNat n.toNat,ZBa ?_,trivial,by simp[Rows.uptoBulk]⟩;have:((UInt8.ofNat n.toNat).toNat:Int)=n:=by
  rw[jCt];omega
 show RelP W (uAll W) (.b (.int .u8 _)) _;rw[this];exact .b rfl⟩
theorem opens_S(ht:P.underlying t=some .string)(hc:P.cellsOf t=1):yTa P t 1 cS Wwa (fun s=>s.length+1):=⟨hc,fun _=>rfl,fun {H enc W fuel cs d} h=>by
 obtain ⟨s,rfl,rfl,hw⟩:=DataW.trod_string ht h;refine ⟨s.data.toList,ZBa ?_,?_,?_⟩
 .have:strB s.data.toList=s:=by cases s;simp[strB]
  show RelP W (uAll W) (.b (.string (strB s.data.toList))) _;rw[this];exact .b rfl
 .show s.data.toList.length<=maxLen;have:s.data.toList.length=s.size:=by cases s;rfl
  omega
 simp[Rows.uptoBulk]⟩
theorem bkL_map{T:Type}{H:Type}{bk:T->Nat}(n:Nat)(X:Nat->T)(D:Nat->DataW H)(h:∀i,i < n->bk (X i)<=Rows.uptoBulk (D i)):bkL bk ((List.range n).map X)<=Rows.uptoBulkAll ((List.range n).map D)+1:=by
 suffices h' :∀l:List Nat,(∀i∈l,i < n)->bkL bk (l.map X)<=Rows.uptoBulkAll (l.map D)+1 from h' _ (fun i hi=>jDk.1 hi)
 intro l;induction l with
 | nil=>intro _;simp[bkL]
 | cons i l ih=>
  intro hl;have h1:=h i (hl i (List.mem_cons_self ..));have h2:=ih fun j hj=>hl j (jDj _ hj)
  simp only[jDn,bkL,Rows.uptoBulkAll];omega
theorem VHa{T:Type}[Inhabited T]{n:Nat}{pc:T->List PV}{ok:T->Prop}{bk:T->Nat}(h:yTa P e n pc ok bk)(hn:Nat.blt 0 n=true)(ht:P.underlying t=some (.slice e))(hc:P.cellsOf t=1):yTa P t 1 (cL pc) (okL ok) (bkL bk):=⟨hc,fun _=>rfl,fun {H enc W fuel cs d} hd=>by
 have hn:0 < n:=jAd hn;rcases Go.Deep.open_slice ht hd with ⟨rfl,rfl⟩ | ⟨a,len,cap,m,n',D,Pl,rfl,hb,hl,hm,hmm,rfl,hx⟩
 .refine ⟨[],ZBa (RelP.sl (a:=none) (cap:=0) 1 0 0 (fun _=>undef) (fun x hx=>by cases hx) (fun _=>⟨rfl,rfl⟩) (by simp) (by simp) (by simp) (by simp) (fun i hi=>by simp at hi) (fun i j e c hi=>by simp at hi)),⟨jCp _,by simp⟩,by simp[bkL,Rows.uptoBulk]⟩
 simp only[if_true]at hmm;subst hmm;obtain ⟨X,hX⟩:=Go.Deep.choose_lt (n:=len) (p:=fun i (x:T)=>∃cs',W.cells? 0 (a.add (i * P.cellsOf e)) (P.cellsOf e)=some cs' /\RelC W (pc x) cs' /\ok x/\bk x<=Rows.uptoBulk (D i)) (fun i hi=>by
  obtain ⟨cs',h1,h2⟩:=hx i (by omega);obtain ⟨x,h3,h4,h5⟩:=h.op h2;exact ⟨x,cs',h1,h3,h4,h5⟩)
 rw[h.cells]at hX;have hcell:∀i j,i < len->j < n->∃v,W.cell? (a.add (i * n+j))=some v/\∀c,(pc (X i))[j]? =some c->RelP W (uAll W) c v:=by
  intro i j hi hj;obtain ⟨cs',h1,h2,_⟩:=hX i hi;obtain ⟨_,hlen,hget⟩:=World.cells?_some h1;have hj' :=hget j hj;have hadd:(a.add (i * n)).add j=a.add (i * n+j):=by
   unfold Addr.add;by_cases h0:j=0
   .simp[h0]
   by_cases h00:i * n=0
   .simp[h0,h00]
   rw[if_neg h0,if_neg h00,if_neg (by omega)];simp[jBv]
  rw[hadd]at hj';have hlt:j < cs'.length:=by omega
  refine ⟨cs'[j],by rw[hj'];exact jAi hlt,fun c hc' =>?_⟩;have:=h2.rel j c hc';simpa[jAm,jAi hlt]using this
 by_cases h0:len=0
 .subst h0;refine ⟨[],ZBa (RelP.sl (elems:=[]) (a:=some a) (cap:=m) 1 0 0 (fun _=>undef) (fun x hx=>by cases hx) (fun hx=>by cases hx) (by simp) (by simp) (by simp) (by simp) (fun i hi=>by simp at hi) (fun i j e c hi=>by simp at hi)),⟨jCp _,by simp⟩,by simp[bkL,Rows.uptoBulk]⟩
 obtain ⟨b,off,spot⟩:=a;have hspot:spot=none:=by
  obtain ⟨v,hv,_⟩:=hcell 0 0 (by omega) hn;simpa[Addr.add]using World.cell?_spot hv
 subst hspot;have hadd:∀i,(⟨b,off,none⟩:Addr).add i=⟨b,off+i,none⟩:=by
  intro i;unfold Addr.add;by_cases h0:i=0
  .simp[h0]
  simp[h0]
 simp only[hadd]at hcell;have hdm:∀i j,j < n->(i * n+j) / n=i/\(i * n+j) % n=j:=by
  intro i j hj;rw[jDl,Nat.mul_add_div hn,Nat.mul_add_mod];exact ⟨by rw[Nat.div_eq_of_lt hj];rfl,jDc hj⟩
 have hcv:∀k,k < len * n->∃v,W.cell? ⟨b,off+k,none⟩=some v/\∀c,(pc (X (k / n)))[k % n]? =some c->RelP W (uAll W) c v:=by
  intro k hk;have h1:k / n < len:=Nat.div_lt_of_lt_mul (by rw[jDl];exact hk);have h2:k % n < n:=Nat.mod_lt _ hn;have:=hcell (k / n) (k % n) h1 h2
  rwa [show k / n * n+k % n=k by rw[jDl];exact Nat.div_add_mod k n]at this
 obtain ⟨V,hV⟩:=Go.Deep.choose_lt (α:=Value) hcv;refine ⟨(List.range len).map X,?_,⟨by simp;omega,?_⟩,?_⟩
 .have key:RelP W (uAll W) (.sl none (((List.range len).map X).map pc)) (.slice (some ⟨b,off,none⟩) (((List.range len).map X).map pc).length m):=by
   refine .sl n b off V (fun x hx=>by cases hx) (fun hx=>by cases hx) (by simpa using hl) (fun e he=>?_) (fun _=>rfl) (fun _=>?_) (fun i hi=>?_) (fun i j e' c hi hj=>?_)
   .simp only[List.map_map,jBy]at he;obtain ⟨i,_,rfl⟩:=he;exact h.len _
   .simp only[jAx,List.length_range];have hpos:0 < len * n:=Nat.mul_pos (by omega) hn;obtain ⟨hv,_⟩:=hV (len * n - 1) (by omega);obtain ⟨h1,h2⟩:=vDb hv;exact ⟨by omega,h2⟩
   .exact (hV i (by simpa using hi)).1
   simp only[jAq,List.map_map]at hi;rw[jAl]at hi;obtain ⟨i',hi',rfl⟩:=hi;obtain ⟨hlt,rfl⟩:=jAc.1 hi';simp only[List.length_range]at hlt;simp only[List.getElem_range,Function.comp]at hj;have hjn:j < n:=by have:=(jAc.1 hj).1;rw[h.len]at this;exact this
   have hk:i * n+j < len * n:=by
    have:=jAn n (show i+1<=len from hlt);rw[jAv]at this;omega
   have:=(hV _ hk).2 c;rw[(hdm i j hjn).1,(hdm i j hjn).2]at this;exact this hj
  have hl' :(((List.range len).map X).map pc).length=len:=by simp
  rw[hl']at key;exact ZBa key
 .intro x hx;simp only[jBy,jDk]at hx;obtain ⟨i,hi,rfl⟩:=hx;obtain ⟨_,_,_,h4,_⟩:=hX i hi;exact h4
 have:=bkL_map len X D (fun i hi=>by obtain ⟨_,_,_,_,h5⟩:=hX i hi;exact h5);simp only[Rows.uptoBulk];omega⟩
theorem z2b{T:Type}{pc:T->List PV}{ok:T->Prop}{bk:T->Nat}(h:yTa P t 1 pc ok bk){H:Type}{enc:TypeId × Value->H}{W:World}{v:Value}{d:DataW H}{ps:List MemPlace}(hv:cellV v=true)(hd:DataW.Trod enc P W 0 (fun _=>true) true t v d ps):
 ∃x,(∀p,pc x=[p]->Rel (gAll W) (.pv p) v)/\ok x/\bk x<=Rows.uptoBulk d:=by
 obtain ⟨fuel,hf⟩:=hd;obtain ⟨x,h1,h2,h3⟩:=h.op hf;refine ⟨x,fun p hp=>.pv ?_,h2,h3⟩;have hcs:v.cells.toList=[v]:=by cases v <;> first | rfl | cases hv
 rw[hcs,hp]at h1;have:=h1.rel 0 p rfl;exact this
theorem JVa{f:FuncId}{args:List AV}(h:Run P f args (.pv (pB true))){W:World}{vs:Array Value}(hgl:Gl (gAll W))(ha:yga (gAll W) args vs):Calls P f vs W fun e W' =>e=.returned (.bool true)/\Below W.heap.size W W' :=by
 refine callsIn_wide.1 ((h.run (gAll W) vs (wf_all W) hgl ha).mono ?_);rintro e w' ⟨g',v,rfl,hl,ho,hw,rfl,hv⟩;refine ⟨by rw[Kqa hv],⟨ho.os,ho.tape,ho.output,ho.ext.size,fun k hk=>(ho.block k hk (by simp)).1⟩⟩
theorem qba{W:World}{p1 p2:List PV}{cs:List Value}{off n:Nat}(hn:n=p1.length)(h1:RelC W p1 ((cs.drop off).take n))(h2:RelC W p2 (cs.drop (off+n))):RelC W (p1++p2) (cs.drop off):=z1b hn h1 (by rw[List.drop_drop];exact h2)
theorem jxa{W:World}{cs:List Value}{k:Nat}(h:cs.length=k):RelC W [] (cs.drop k):=⟨by simp[h],fun i c hi=>by simp at hi⟩
inductive RelL (g:G):List AV->List Value->Prop
 | nil:RelL g [] []
 | cons {c:AV} {v:Value} {cs:List AV} {vs:List Value} (h:Rel g c v) (r:RelL g cs vs):RelL g (c::cs) (v::vs)
theorem qpb{g:G}{cs:List AV}{vs:List Value}(h:RelL g cs vs):yga g cs vs.toArray:=by
 have key:vs.length=cs.length/\∀(i:Nat) (c:AV),cs[i]? =some c->Rel g c (vs.getD i undef):=by
  induction h with
  | nil=>exact ⟨rfl,fun i c hi=>by simp at hi⟩
  | cons h _ ih=>
   refine ⟨by simp[ih.1],fun i c hi=>?_⟩;cases i with
   | zero=>simp at hi;subst hi;exact h
   | succ i=>exact ih.2 i c (by simpa using hi)
 exact ⟨by simpa using key.1,fun i c hi=>by have:=key.2 i c hi;simpa[jAm]using this⟩
end
section
def Blk(w:World)(b:Nat)(t:TypeId)(cs:Array Value):Prop:=w.heap[b]? =some (.cells cs t (0,0))
theorem Blk.lt{w:World}{b:Nat}{t:TypeId}{cs:Array Value}(h:Blk w b t cs):b < w.heap.size:=by
 rcases jBg b w.heap.size with hlt | hge
 .exact hlt
 unfold Blk at h;rw[jDd hge]at h;cases h
theorem Blk.two{w:World}{b:Nat}{t:TypeId}{x y:Value}(h:Blk w b t #[x,y]):
 w.cell? ⟨b,0,none⟩=some x/\w.cell? ⟨b,1,none⟩=some y/\w.frozen? ⟨b,0,none⟩=false/\w.frozen? ⟨b,1,none⟩=false/\b < w.heap.size:=by
 refine ⟨?_,?_,?_,?_,h.lt⟩ <;> unfold Blk at h <;> simp[World.cell?,World.frozen?,h]
theorem Blk.new(w:World)(t:TypeId)(cs:Array Value):Blk (w.alloc (.cells cs t)) w.heap.size t cs:=heap_alloc_new w _
theorem Blk.alloc{w:World}{b:Nat}{t:TypeId}{cs:Array Value}(h:Blk w b t cs)(o:Obj):Blk (w.alloc o) b t cs:=(Below.heap_alloc w o b h.lt).trans h
section
variable {w1 w2:World} {b t:Nat} {cs:Array Value} {o:Obj}
end
end
section
open Go.ChangeShapes Go.WideShapes Go.ChangeAt Go.RowKit Go.Proofs.Tryz
open Go.ChangeMaps (open_string shut_string)
theorem own:ownKnob prog.godebug=none:=by kernel_rfl
theorem laidOut:laidOutB prog=true:=by kernel_rfl
theorem KCa{H:Type}{enc:TypeId × Value->H}{P:Program}(hl:laidOutB P=true){W W' :World}(hb:Below W.heap.size W W'):
 ∀(ts:List TypeId) (vs:List Value) (ds:List (DataW H)) (ps:List MemPlace),(ts.all fun t=>P.readableRec t && decide (t < P.types.size))=true->
  DataW.TrodAll enc P W 0 (fun _=>true) true ts vs ds ps->DataW.TrodAll enc P W' 0 (fun b=>decide (b < W.heap.size)) true ts vs ds ps
 | [],[],[],_,_,h=>h
 | t::ts,v::vs,d::ds,ps,hts,⟨p,q,h,hs,e⟩=>by
  simp only[List.all_cons,jAs,decide_eq_true_eq]at hts;have lt:∀x∈p,x.block < W.heap.size:=by obtain ⟨m,hm⟩:=h;exact DataW.trod_lt m _ _ _ hm
  exact ⟨p,q,Below.trod hl hts.1.1 hts.1.2 h hb lt,KCa hl hb ts vs ds q hts.2 hs,e⟩
theorem vEb{H:Type}{enc:TypeId × Value->H}{P:Program}{f:Func}{s:ChangeSpec}{t:TypeId}(hl:laidOutB P=true)(hres:f.resultTypes= #[t])(ht:P.underlying t=some .bool)
 (hts:(f.params.toList.all fun t=>P.readableRec t && decide (t < P.types.size))=true) {W W' :World} {args:Array Value} {ds gs:List (DataW H)} {before:List MemPlace} (hv:s.vars=[])
 (hspec:s.fn H (ds++gs)={results:=[.lit (.bool true)],args:=ds,vars:=[]})
 (hW:DataW.Whole enc P f.params.toList s.vars false W args.toList ds gs before) (hb:Below W.heap.size W W'):
 s.post enc P f false true false false W args (.bool true) W' :=by
 have hW' :=hW;obtain ⟨p,q,hA,hV,hbe,hfz,hnd⟩:=hW;refine ⟨ds,gs,before,[],p,[],hW',?_,?_,?_,?_,fun h=>by cases h⟩
 .rw[hspec,hres];exact trodAll_mk1 (shut_bool ht _)
 .rw[hspec];exact KCa hl hb _ _ _ _ hts hA
 .rw[hspec,hv];rfl
 have hq:q=[]:=by rw[hv]at hV;cases gs with
  | nil=>exact hV
  | cons g gs=>exact hV.elim
 refine World.keptBut_mono (fun p hp=>⟨hp,?_⟩) (hb.frame (· ∈before));rw[hbe,hq,jCz]at hp;exact .inr (.inl hp)
end
section
open Go.ChangeShapes Go.WideShapes Go.ChangeAt Go.RowKit Go.Proofs.Tryz
theorem wLa{H:Type}{enc:TypeId × Value->H}{a:Assume}{C:Checked}{os:Os}{f:FuncId}{fn:Func}{s:OpenSpec}{k:(H:Type)->List (DataW H)->Bool}(hk:s.cond=some k){F:Stop.Interp}{conds:List PathCond}{apart fresh handsOn again:Bool}
 (own:ownKnob C.prog.godebug=none) (started:os.Started) (noInit:C.prog.inits.idxOf? f=none) (hfn:C.prog.funcs[f]? =some fn)
 (witness:∃(w:World) (tape:Tape) (i:Input),w.os=os/\(w.forCall tape i).Shaped C.prog/\i.vars=[]/\Input.okWide C.prog (w.forCall tape i) .any w.heap.size f i/\
  s.pre6 enc C.prog fn conds apart (w.forCall tape i).memory i.args/\a.holds C.prog (lone (Frame.enter C.prog f i.args .normal) [] (w.forCall tape i)))
 (contract:∀(W:World) (base:Nat) (args:Array Value) (ds gs:List (DataW H)) (before:List MemPlace),
  (∀(j:Nat) t v,fn.params[j]? =some t->args[j]? =some v->Value.okWide C.prog W .any base t v)->
  DataW.Whole enc C.prog fn.params.toList s.vars apart W args.toList ds gs before->
  conds.all (PathCond.test C.prog ⟨fn.params.toList,ds,s.bare.plain.varTypes C.prog,gs⟩)=true->k H (ds++gs)=true->
  W.ShapedOpen C.prog->
  a.holds C.prog (lone (Frame.enter C.prog f args .normal) [] W)->
  Calls C.prog f args W fun e W' =>∃v,e=.returned v/\(s.at F).post enc C.prog fn apart fresh handsOn again W args v W'):
 ReturnsInHanded a C os f .any (s.pre6 enc C.prog fn conds apart) ((s.at F).post enc C.prog fn apart fresh handsOn again):=by
 refine returnsInHanded_of_calls own started noInit witness ?_;intro w tape i _ hsh _ hok hpre hholds;obtain ⟨_,_,_,fn',hfn',_,_,_,_,hval⟩:=hok;have e:fn' =fn:=Option.some.inj (hfn'.symm.trans hfn);subst e;obtain ⟨ds,gs,before,hw,hc,hkk⟩:=(OpenSpec.pre_some hk conds apart _ _).1 hpre.1;refine (contract (w.forCall tape i) w.heap.size i.args ds gs before hval (DataW.Whole.of_heap (w' :=w.forCall tape i) (by rfl) hw) hc hkk hsh hholds).mono fun e W' ⟨v,he,hp⟩=>?_
 subst he;exact ChangeSpec.post_blind hp
theorem JWa{W:World}(h:W.ShapedOpen prog):Gl (gAll W):=by
 refine ⟨fun p hp=>?_,fun p hp=>by simp[globK]at hp,fun k hk=>by simp[globI]at hk⟩;simp only[globs,jCd,List.not_mem_nil,or_false]at hp;subst hp;obtain ⟨m,hm⟩:=cell_of_shapedOpen_int (P:=prog) (g:=0) (t:=3) (zero:= #[.int .i64 0]) h (of_decide_eq_true (by kernel_rfl)) (by kernel_rfl) rfl (by kernel_rfl) (by kernel_rfl) underlying3;obtain ⟨h1,h2⟩:=vDb hm;exact ⟨h2,h1,m,hm⟩
end
section
theorem Sto.get_mem{σ:Sto}{o:Nat}{ob:AO}(h:σ.get o=some ob):(o,ob)∈σ:=by
 induction σ with
 | nil=>simp[Sto.get]at h
 | cons x s ih=>
  obtain ⟨k,a⟩:=x;rw[Sto.get_cons]at h;split at h
  .rename_i hk;cases h;subst hk;exact List.mem_cons_self
  exact jDj _ (ih h)
theorem Sto.get_append(s1 s2:Sto)(o:Nat):Sto.get (s1++s2) o=(Sto.get s1 o).or (Sto.get s2 o):=by
 induction s1 with
 | nil=>simp[Sto.get]
 | cons x s ih=>
  obtain ⟨k,a⟩:=x;rw[List.cons_append,Sto.get_cons,Sto.get_cons,ih];split <;> rfl
theorem kKb{l:List Nat}{a:Nat}(h:l.contains a=true):a∈l:=by simpa using h
def AV.okS(rows:List Nat):AV->Bool
 | .pv _=>true
 | .hs r _=>rows.contains r
 | _=>false
def AO.okS(rows:List Nat):AO->Bool
 | .cells cs=>cs.all (AV.okS rows)
 | .row _ _ _ _=>true
 | .opq _ _ _=>true
 | _=>false
def Sto.okS(O:Nat)(rows:List Nat)(σ:Sto):Bool:=σ.all fun p=>(Nat.beq p.1 O || rows.contains p.1) && p.2.okS rows
theorem AV.okS_has{rows:List Nat}{c:AV}{k:Nat}(h:c.okS rows=true)(hk:c.has k=true):k∈rows:=by
 unfold AV.okS at h;split at h
 .simp[AV.has]at hk
 .have:=jAo hk;subst this;exact kKb h
 cases h
theorem AV.hasL_mem{k:Nat}{cs:List AV}(h:AV.hasL k cs=true):∃c∈cs,c.has k=true:=by
 induction cs with
 | nil=>simp[AV.hasL]at h
 | cons c cs ih=>
  unfold AV.hasL at h;simp only[jBx]at h;rcases h with h | h
  .exact ⟨c,List.mem_cons_self,h⟩
  obtain ⟨d,hd,h⟩:=ih h;exact ⟨d,jDj _ hd,h⟩
theorem AO.okS_has{rows:List Nat}{ob:AO}{k:Nat}(h:ob.okS rows=true)(hk:ob.has k=true):k∈rows:=by
 cases ob with
 | cells cs=>
  obtain ⟨c,hc,hck⟩:=AV.hasL_mem hk;exact AV.okS_has (jAw.1 h c hc) hck
 | row=>simp[AO.has]at hk
 | opq=>simp[AO.has]at hk
 | _=>cases h
theorem Sto.okS_get{O:Nat}{rows:List Nat}{σ:Sto}(h:σ.okS O rows=true){o:Nat}{ob:AO}(ho:σ.get o=some ob):(o=O∨o∈rows)/\ob.okS rows=true:=by
 have:=jAw.1 h _ (Sto.get_mem ho);simp only[jAs,jBx]at this;exact ⟨this.1.imp jAo kKb,this.2⟩
structure Own (g:G) (σ:Sto):Prop where
 obj:∀o ob,σ.get o=some ob->RelO g o ob
 apart:∀o o' ob ob' b,σ.get o=some ob->σ.get o' =some ob' ->ob.own (g.loc o) b->ob'.own (g.loc o') b->o=o'
 low:∀o ob b,σ.get o=some ob->ob.own (g.loc o) b->¬GlB b
def SB(g:G)(σ:Sto)(b:Nat):Prop:=∃o ob,σ.get o=some ob/\ob.own (g.loc o) b
structure RunS (P:Program) (f:FuncId) (args:List AV) (σ0:Sto) (r:AV) (σ1:Sto) (O:Nat) (rows:List Nat):Prop where
 ok:∃fn c,FnOk P f fn c
 ok0:σ0.okS O rows=true
 ok1:σ1.okS O rows=true
 run:∀g vs,Wf g->Gl g->Own g σ0->yga g args vs->CallsIn (fen none) 0 P f vs g.w fun e w' =>∃g' v,g'.w=w' /\(∀k,k ∉ rows->g'.loc k=g.loc k)/\Old (SB g σ0) g g' /\Wf g' /\e=.returned v/\Rel g' r v/\
  (∀o ob,σ1.get o=some ob->RelO g' o ob)/\(∀o o' ob ob' b,σ1.get o=some ob->σ1.get o' =some ob' ->ob.own (g'.loc o) b->ob'.own (g'.loc o') b->o=o')/\
  (∀o ob b,σ1.get o=some ob->ob.own (g'.loc o) b->g.w.heap.size<=b∨SB g σ0 b)
variable {P:Program} {σ:Sto} {dst:Option Tmp} {ty:TypeId} {pos:String} {af:Array Edge} {gu:Option (Nat × Bool)} {E:Env} {fr:Fr} {K:Post}
theorem qqb{g g' :G}{o:Nat}{ob:AO}{rows:List Nat}(hk:ob.okS rows=true)(h:RelO g o ob)(hx:Ext0 g.w g.u g'.w g'.u)(hl:g'.loc o=g.loc o)(hh:∀k∈rows,g'.loc k=g.loc k)
 (hb:∀(b:Nat) (vs:Array Value) (t:TypeId) (fz:Nat × Nat),g.w.heap[b]? =some (Obj.cells vs t fz)->g'.w.heap[b]? =g.w.heap[b]?) (hu:g'.u=g.u):RelO g' o ob:=by
 cases h with
 | @cells cs b t vs h1 h2 h3 h4 h5 h6=>
  exact .cells (hl.trans h1) ((hb _ _ _ _ h2).trans h2) h3 (by rw[hu];exact h4) h5 fun i c hi=>(h6 i c hi).mono0 hx fun k hck=>hh k (AV.okS_has (jAw.1 hk c (jAe hi)) hck)
 | nil h1=>exact .nil (hl.trans h1)
 | @row e mu size elems b off cap vs h1 h2 h3 h3' h4 h5 h6 h7 h9=>
  exact .row (hl.trans h1) ((hb _ _ _ _ h2).trans h2) h3 h3' h4 h5 (by rw[hu];exact h6) (by rw[hu];exact h7) fun i j x c hi hj=>(h9 i j x c hi hj).mono0 hx
 | @opq t t1 n Q b vs h1 h2 h3 h4 h5=>exact .opq (hl.trans h1) ((hb _ _ _ _ h2).trans h2) h3 (by rw[hu];exact h4) fun w' u' hx' =>h5 w' u' (hx.trans hx')
 | _=>cases hk
def qrb(P:Program)(fn:Func)(r hc:AV)(H:Nat)(T:Array Value)(σ1:Sto):Post:=fun e fr σ=>(e=.ret∨e=.normal)/\(∃cs,ResL P fr σ fn.results.toList cs/\QWa cs=r)/\kza σ ((H,.hold hc (T.getD 0 undef))::σ1)
theorem qsb{fn:Func}{r hc:AV}{H:Nat}{T:Array Value}{σ1:Sto}:Mono (qrb P fn r hc H T σ1):=fun x fr σ fr' σ' hf hs ⟨h1,⟨cs,h2,h2'⟩,h3⟩=>⟨h1,⟨cs,h2.le hf hs,h2'⟩,qya hs h3⟩
theorem JXa{f:FuncId}{fn:Func}{c:Code}(hok:FnOk P f fn c){args:List AV}{r hc:AV}{σ0 σ1:Sto}{O H:Nat}{rows:List Nat}(hN:Nat.ble args.length fn.ntmps=true)(hr:∀k,r.has k=true->k∈rows)
 (h0:(args[0]? =some hc/\∀(g g' :G) (v:Value) (ob:AO),(∀o ob,σ0.get o=some ob->RelO g o ob)->σ1.get O=some ob->RelO g' O ob->Rel g hc v->Rel g' hc v->g'.loc O=g.loc O)∨(hc=.any/\Sto.get σ1 O=none))
 (k0:σ0.okS O rows=true) (k1:σ1.okS O rows=true) (hH:Sto.get σ0 H=none) (hH1:Sto.get σ1 H=none)
 (h:∀g0 (hg:Gl g0) (S:Nat->Prop) (sg:∀k,GlB k->¬S k) (T:Array Value),AWP ⟨P,none,g0,fn.ntmps,false,hg,S,sg⟩ c (k7a 0 args) ((H,.hold hc (T.getD 0 undef))::σ0) (qrb P fn r hc H T σ1)):RunS P f args σ0 r σ1 O rows:=by
 refine ⟨⟨fn,c,hok⟩,k0,k1,fun g vs hw hgl hown ⟨hsz,ha⟩=>?_⟩;have hN:=jAd hN;have hget0:∀o ob,Sto.get ((H,AO.hold hc (vs.getD 0 undef))::σ0) o=some ob->(o=H/\ob=.hold hc (vs.getD 0 undef))∨(o≠H/\σ0.get o=some ob):=by
  intro o ob ho;rw[Sto.get_cons]at ho;split at ho
  .rename_i hk;cases ho;exact .inl ⟨hk.symm,rfl⟩
  rename_i hk;exact .inr ⟨Ne.symm hk,ho⟩
 refine callsIn_of_wp_marks hok.f hok.b trivial<|wpIn_mono ((h g hgl (SB g σ0) (fun k hk ⟨o,ob,h1,h2⟩=>hown.low o ob k h1 h2 hk) vs).go g _ ⟨fun d=>?_,by simp;omega,⟨Dok.nil _ _,fun _=>rfl⟩,⟨?_,?_,?_,Old.refl _ g,hw⟩⟩) ?_
 .rw[v8a];simp only[jCp,if_true,jDf];cases hc:args[d]? with
  | none=>exact .any _
  | some c=>
   have hlt:d < vs.size:=by rw[hsz];exact (jAc.1 hc).1
   have:=ha d c hc;rw[jAf,jBs hlt,<-jAf];exact this
 .intro o ob ho;rcases hget0 o ob ho with ⟨rfl,rfl⟩ | ⟨_,ho⟩
  .rcases h0 with ⟨h0,_⟩ | ⟨rfl,_⟩
   .exact .hold (ha 0 _ h0)
   exact .hold (.any _)
  exact hown.obj o ob ho
 .intro o o' ob ob' b h1 h2 h3 h4;rcases hget0 o ob h1 with ⟨rfl,rfl⟩ | ⟨_,h1⟩
  .cases h3
  rcases hget0 o' ob' h2 with ⟨rfl,rfl⟩ | ⟨_,h2⟩
  .cases h4
  exact hown.apart o o' ob ob' b h1 h2 h3 h4
 .intro o ob b h1 h2;rcases hget0 o ob h1 with ⟨rfl,rfl⟩ | ⟨_,h1⟩
  .cases h2
  exact .inr ⟨o,ob,h1,h2⟩
 rintro e a w' ⟨g',fr',σ',rfl,hst,he,⟨cs,hres,rfl⟩,hle⟩;obtain ⟨bs,hds,hnd,hbs⟩:=hst.df.ok;have hle1:∀o ob,σ1.get o=some ob->∃ob',σ'.get o=some ob' /\RelO g' o ob/\∀l,ob.own l=ob'.own l:=by
  intro o ob ho;have hne:o≠H:=by rintro rfl;rw[hH1]at ho;cases ho
  have hg:Sto.get ((H,AO.hold hc (vs.getD 0 undef))::σ1) o=some ob:=by rw[Sto.get_cons,if_neg (Ne.symm hne)];exact ho
  obtain ⟨ob',h1,h2⟩:=hle.some hg;exact ⟨ob',h1,hle.obj hst.so.obj o ob hg,fun l=>(h2 l).symm⟩
 have hO:(∃ob,σ1.get O=some ob)->g'.loc O=g.loc O:=by
  rintro ⟨ob,hob⟩;rcases h0 with ⟨h0,hloc⟩ | ⟨_,h0⟩
  case inr=>rw[h0]at hob;cases hob
  have hh:=hle H (.hold hc (vs.getD 0 undef)) (by rw[Sto.get_cons,if_pos rfl]);have hh:σ'.get H=some (.hold hc (vs.getD 0 undef)):=by
   rcases hh with hh | ⟨cs,_,hh⟩
   .exact hh
   cases hh
  have h1:=hst.so.obj H _ hh;obtain ⟨_,_,hro,_⟩:=hle1 O ob hob;cases h1 with
  | hold h1=>exact hloc g g' _ ob hown.obj hob hro (ha 0 _ h0) h1
 have key:∀w',Took g'.w bs w' ->∃v,(results fn a.tmps).run P w' =.ok v w' /\∃g'' v',g''.w=w' /\(∀k,k ∉ rows->g''.loc k=g.loc k)/\Old (SB g σ0) g g'' /\Wf g'' /\Ending.returned v=.returned v' /\Rel g'' (QWa cs) v' /\
  (∀o ob,σ1.get o=some ob->RelO g'' o ob)/\(∀o o' ob ob' b,σ1.get o=some ob->σ1.get o' =some ob' ->ob.own (g''.loc o) b->ob'.own (g''.loc o') b->o=o')/\
  (∀o ob b,σ1.get o=some ob->ob.own (g''.loc o) b->g.w.heap.size<=b∨SB g σ0 b):=by
  intro w' ht;have hcellb:∀(k:Nat) (vs:Array Value) (t:TypeId) (fz:Nat × Nat),g'.w.heap[k]? =some (Obj.cells vs t fz)->w'.heap[k]? =g'.w.heap[k]? :=by
   intro k vs t fz hk;refine ht.block k fun hx=>?_
   rw[(hbs k hx).2]at hk;cases hk
  have hx0:Ext0 g'.w g'.u w' g'.u:=⟨jBr ht.size.symm,fun _ _=>jBc _,fun k i hk hi=>by
   by_cases hkb:k∈bs
   .simp[World.cell?,(hbs k hkb).2,ht.took k hkb]
   simp only[World.cell?];rw[ht.block k hkb]⟩
  obtain ⟨v,h1,h2⟩:=jpa (P:=P) (g:=⟨w',g'.u,g'.loc⟩) hres (fun d=>(hst.fr d).mono0 hx0 (fun _ _=>rfl)) (fun k cs' hk=>by
   cases hst.so.obj k _ hk with
   | cells q1 q2 q3 q4 q5 q6=>exact .cells q1 ((hcellb _ _ _ _ q2).trans q2) q3 q4 q5 fun i c hi=>(q6 i c hi).mono0 hx0 (fun _ _=>rfl))
  have hloc:∀o ob,σ1.get o=some ob->(if o∈rows then g'.loc o else g.loc o)=g'.loc o:=by
   intro o ob ho;rcases (Sto.okS_get k1 ho).1 with rfl | hin
   .split
    .rfl
    exact (hO ⟨ob,ho⟩).symm
   rw[if_pos hin]
  refine ⟨v,h1,⟨w',g'.u,fun k=>if k∈rows then g'.loc k else g.loc k⟩,v,rfl,fun k hk=>if_neg hk,⟨ht.os.trans hst.so.old.os,ht.tape.trans hst.so.old.tape,ht.output.trans hst.so.old.output,⟨by rw[ht.size];exact hst.so.old.ext.size,hst.so.old.ext.pub,fun k i hk hi=>?_,fun r' hr' =>?_⟩,fun k hk hs=>?_⟩,fun k hk=>hst.so.wf k (by rw[<-ht.size];exact hk),rfl,
   Rel.mono (g:=⟨w',g'.u,g'.loc⟩) (g' :=⟨w',g'.u,fun k=>if k∈rows then g'.loc k else g.loc k⟩) (Ext.refl w' g'.u) h2 (fun k hk=>if_pos (hr k hk)),?_,?_,?_⟩
  .have hkb:k ∉ bs:=fun hx=>by have:g.w.heap.size<=k:=(hbs k hx).1;omega
   simp only[World.cell?];rw[ht.block k hkb];exact hst.so.old.ext.cell k i hk hi
  .have hkb:r' ∉ bs:=fun hx=>by have:g.w.heap.size<=r' :=(hbs r' hx).1;have:=kMa hr';omega
   rw[ht.block r' hkb];exact hst.so.old.ext.df r' hr'
  .have hkb:k ∉ bs:=fun hx=>by have:g.w.heap.size<=k:=(hbs k hx).1;omega
   rw[ht.block k hkb];exact hst.so.old.block k hk hs
  .intro o ob ho;obtain ⟨_,_,hro,_⟩:=hle1 o ob ho;exact qqb (g:=g') (g' :=⟨w',g'.u,fun k=>if k∈rows then g'.loc k else g.loc k⟩) (Sto.okS_get k1 ho).2 hro hx0 (hloc o ob ho) (fun k hk=>if_pos hk) hcellb rfl
  .intro o o' ob ob' b q1 q2 q3 q4;simp only[hloc o ob q1]at q3;simp only[hloc o' ob' q2]at q4;obtain ⟨_,p1,_,e1⟩:=hle1 o ob q1;obtain ⟨_,p2,_,e2⟩:=hle1 o' ob' q2;rw[e1]at q3;rw[e2]at q4;exact hst.so.apart o o' _ _ b p1 p2 q3 q4
  intro o ob b q1 q2;simp only[hloc o ob q1]at q2;obtain ⟨_,p1,_,e1⟩:=hle1 o ob q1;rw[e1]at q2;exact hst.so.mine o _ b p1 q2
 rcases he with rfl | rfl
 .show LeavesInM _ _ _ _ _ _ _ _ _;rw[hds];exact vna bs g'.w hnd (fun r' hr' =>(hbs r' hr').2) key
 show LeavesInM _ _ _ _ _ _ _ _ _;rw[hds];exact vna bs g'.w hnd (fun r' hr' =>(hbs r' hr').2) key
theorem z3b{f:FuncId}{fn:Func}{c:Code}(hok:FnOk P f fn c){args:List AV}{r hc:AV}{σ0 σ1:Sto}{O H:Nat}{rows:List Nat}(hN:Nat.ble args.length fn.ntmps=true)(hr:∀k,r.has k=true->k∈rows)(h0:(hc=.ptr O 0/\args[0]? =some (.ptr O 0))∨(hc=.any/\Sto.get σ1 O=none))
 (k0:σ0.okS O rows=true) (k1:σ1.okS O rows=true) (hH:Sto.get σ0 H=none) (hH1:Sto.get σ1 H=none)
 (h:∀g0 (hg:Gl g0) (S:Nat->Prop) (sg:∀k,GlB k->¬S k) (T:Array Value),AWP ⟨P,none,g0,fn.ntmps,false,hg,S,sg⟩ c (k7a 0 args) ((H,.hold hc (T.getD 0 undef))::σ0) (qrb P fn r hc H T σ1)):RunS P f args σ0 r σ1 O rows:=
 JXa hok hN hr (h0.imp (fun ⟨e,h⟩=>⟨e▸h,fun g g' v ob _ _ _ h1 h2=>by
  subst e;cases h1 with
  | ptr q1=>cases h2 with
   | ptr q2=>exact q2.trans q1.symm⟩) id) k0 k1 hH hH1 h
def Sto.dels(ids:List Nat):Sto->Sto
 | []=>[]
 | (k,a)::l=>bif ids.contains k then Sto.dels ids l else (k,a)::Sto.dels ids l
theorem Sto.get_dels(ids:List Nat)(σ:Sto)(o:Nat):(σ.dels ids).get o=if o∈ids then none else σ.get o:=by
 induction σ with
 | nil=>simp[Sto.dels,Sto.get]
 | cons x l ih=>
  obtain ⟨k,a⟩:=x;unfold Sto.dels;cases hc:ids.contains k with
  | true=>
   have hk:k∈ids:=by simpa using hc
   rw[cond_true,ih,Sto.get_cons];by_cases ho:o∈ids
   .rw[if_pos ho,if_pos ho]
   rw[if_neg ho,if_neg ho,if_neg (by rintro rfl;exact ho hk)]
  | false=>
   have hk:k ∉ ids:=by simpa using hc
   rw[cond_false,Sto.get_cons,Sto.get_cons,ih];by_cases ho:k=o
   .subst ho;simp[hk]
   rw[if_neg ho,if_neg ho]
def AV.clrs(rows:List Nat)(c:AV):AV:=bif rows.any (fun r=>c.has r) then .any else c
def Fr.clrs(rows:List Nat):Fr->Fr
 | []=>[]
 | (k,a)::l=>(k,a.clrs rows)::Fr.clrs rows l
def AO.clrs(rows:List Nat):AO->AO
 | .cells cs=>.cells (cs.map (AV.clrs rows))
 | .hold c v=>.hold (c.clrs rows) v
 | o=>o
def Sto.clrs(rows:List Nat):Sto->Sto
 | []=>[]
 | (k,a)::l=>(k,a.clrs rows)::Sto.clrs rows l
theorem Fr.get_clrs(rows:List Nat)(fr:Fr)(d:Nat):(fr.clrs rows).get d=(fr.get d).clrs rows:=by
 induction fr with
 | nil=>unfold Fr.clrs Fr.get AV.clrs;cases rows.any (fun r=>AV.has r AV.any) <;> rfl
 | cons x l ih=>
  obtain ⟨k,a⟩:=x;simp only[Fr.clrs,Fr.get_cons,ih];split <;> rfl
theorem Sto.get_clrs(rows:List Nat)(σ:Sto)(o:Nat):(σ.clrs rows).get o=(σ.get o).map (AO.clrs rows):=by
 induction σ with
 | nil=>rfl
 | cons x l ih=>
  obtain ⟨k,a⟩:=x;simp only[Sto.clrs,Sto.get_cons,ih];split <;> rfl
theorem Vha{g g' :G}{rows:List Nat}(hx:Ext g.w g.u g'.w g'.u)(hl:∀k,k ∉ rows->g'.loc k=g.loc k){c:AV}{v:Value}(h:Rel g c v):Rel g' (c.clrs rows) v:=by
 unfold AV.clrs;cases hc:rows.any (fun r=>c.has r) with
 | true=>exact .any _
 | false=>exact h.mono hx fun k hk=>hl k fun hin=>jCr.1 hc k hin hk
theorem AO.own_clrs(rows:List Nat)(ob:AO)(l:Loc):(ob.clrs rows).own l=ob.own l:=by cases ob <;> rfl
theorem vFb{g g' :G}{o:Nat}{ob:AO}{rows:List Nat}(hro:RelO g o ob)(hx:Ext g.w g.u g'.w g'.u)(hl:∀k,k ∉ rows->g'.loc k=g.loc k)(ho:o ∉ rows)
 (hb:∀b,ob.own (g.loc o) b->g'.w.heap[b]? =g.w.heap[b]? /\g'.u b=g.u b):RelO g' o (ob.clrs rows):=by
 cases hro with
 | @cells cs b t vs h1 h2 h3 h4 h5 h6=>
  obtain ⟨b1,b2⟩:=hb b (by rw[h1];rfl);refine .cells ((hl o ho).trans h1) (b1.trans h2) (by simpa using h3) (b2.trans h4) h5 fun i c hi=>?_
  simp only[jAq,jAl]at hi;obtain ⟨c',hc',rfl⟩:=hi;exact Vha hx hl (h6 i c' hc')
 | nil h1=>exact .nil ((hl o ho).trans h1)
 | @row e mu size elems b off cap vs h1 h2 h3 h3' h4 h5 h6 h7 h9=>
  obtain ⟨b1,b2⟩:=hb b (by rw[h1];rfl);exact .row ((hl o ho).trans h1) (b1.trans h2) h3 h3' h4 h5 (by rw[b2];exact h6) (by rw[b2];exact h7) fun i j x c hi hj=>(h9 i j x c hi hj).mono hx
 | hold h1=>exact .hold (Vha hx hl h1)
 | sus h1=>exact .sus (h1.mono hx)
 | @lp L b h1 h2=>
  obtain ⟨b1,b2⟩:=hb b (by rw[h1];rfl);exact .lp ((hl o ho).trans h1) (b1.trans h2)
 | @it s pos b h1 h2 h3=>
  obtain ⟨b1,b2⟩:=hb b (by rw[h1];rfl);exact .it ((hl o ho).trans h1) (b1.trans h2) (b2.trans h3)
 | @buf l e b cap vs h1 h2 h3 h4 h5 h6=>
  obtain ⟨b1,b2⟩:=hb b (by rw[h1];rfl);exact .buf ((hl o ho).trans h1) (b1.trans h2) h3 h4 (b2.trans h5) h6
 | @mapo ag es b clock ents h1 h2 h3 h4 h5=>
  obtain ⟨b1,b2⟩:=hb b (by rw[h1];rfl);exact .mapo ((hl o ho).trans h1) (b1.trans h2) (b2.trans h3) h4 fun i k c hi=>by
   obtain ⟨x,e1,e2,e3⟩:=h5 i k c hi;exact ⟨x,e1,e2,e3.mono hx⟩
 | @opq t t1 n Q b vs h1 h2 h3 h4 h5=>
  obtain ⟨b1,b2⟩:=hb b (by rw[h1];rfl);exact .opq ((hl o ho).trans h1) (b1.trans h2) h3 (b2.trans h4) fun w' u' hx' =>h5 w' u' (hx.to0.trans hx')
 | nrowNil h1=>exact .nrowNil ((hl o ho).trans h1)
 | nrow h1 h2 h3 h4 h5 h6 h7 h8 h9 h10 h11 h12=>exact (RelO.nrow h1 h2 h3 h4 h5 h6 h7 h8 h9 h10 h11 h12).mono hx (hl o ho) (fun _ hk=>by cases hk) hb
 | mapr h1 h2 h3 h4 h5 h6 h7=>exact (RelO.mapr h1 h2 h3 h4 h5 h6 h7).mono hx (hl o ho) (fun _ hk=>by cases hk) hb
theorem gl_lt{g:G}(h:Gl g){k:Nat}(hk:GlB k):k < g.w.heap.size:=by
 rcases hk with ⟨p,hp,rfl⟩ | hk
 .obtain ⟨t,fz,h1⟩:=h.2.1 p hp;exact kMa h1
 obtain ⟨tp,x,t,fz,h1⟩:=h.2.2 k hk;exact kMa h1
theorem zEa{f:FuncId}{k:Nat}{xs:List Operand}{ats:Array TypeId}{args:List AV}{r:AV}{σ0 σ1:Sto}{O:Nat}{rows:List Nat}(hr:RunS E.P f args σ0 r σ1 O rows)(hN:Nat.ble (k+1) E.N=true)(ha:xs.map (fun x=>(fr.ev x).weak)=args)(hle:kza σ σ0):
 OpTo E ⟨some k,.call ⟨.value (.func f),xs.toArray,ats⟩,ty,pos,af,gu⟩ fr σ ((k,r)::fr.clrs rows) (σ1++(σ.dels (O::rows)).clrs rows):=
 ⟨fun g a K Q hst hK=>by
  obtain ⟨fn,c,hok⟩:=hr.ok;refine ⟨fun _ _=>trivial,?_⟩;rw[jAy _ _ _ (fun c=>by simp),wwa hok (first:= #[]) (cap:= #[]) rfl,jDr];refine ⟨fun h=>by simp[fen]at h,?_⟩;have hargs:yga g args (#[]++xs.toArray.map a.eval++ #[]):=by
   subst ha;refine ⟨by simp,fun i c hi=>?_⟩;simp only[jAq,jAl]at hi;obtain ⟨x,hx,rfl⟩:=hi;have:=qSa (hst.ev x);simpa[hx]using this
  have hsb:∀b,SB g σ0 b->b < g.w.heap.size/\(E.g0.w.heap.size<=b∨E.S b):=by
   rintro b ⟨o,ob,h1,h2⟩;obtain ⟨ob',h3,h4⟩:=hle.some h1;rw[<-h4]at h2;exact ⟨(hst.so.obj o ob' h3).block_lt h2,hst.so.mine o ob' b h3 h2⟩
  have hown:Own g σ0:=⟨hle.obj hst.so.obj,fun o o' ob ob' b h1 h2 h3 h4=>by
   obtain ⟨_,p1,e1⟩:=hle.some h1;obtain ⟨_,p2,e2⟩:=hle.some h2;rw[<-e1]at h3;rw[<-e2]at h4;exact hst.so.apart o o' _ _ b p1 p2 h3 h4,fun o ob b h1 h2 hb=>by
   rcases (hsb b ⟨o,ob,h1,h2⟩).2 with h3 | h3
   .have:=gl_lt E.gl hb;omega
   exact E.sg b hb h3⟩
  refine (wva (hr.run g _ hst.so.wf (E.glOf hst.so) hown hargs)).mono ?_;rintro e w' ⟨g',v,rfl,hl,ho,hw,rfl,hv,hobj,hap,hmine⟩;have hget:∀o ob,Sto.get (σ1++(σ.dels (O::rows)).clrs rows) o=some ob->σ1.get o=some ob∨(o ∉ O::rows/\∃ob1,σ.get o=some ob1/\ob=ob1.clrs rows):=by
   intro o ob hg;rw[Sto.get_append]at hg;cases h1:σ1.get o with
   | some ob1=>rw[h1]at hg;exact .inl (by simpa using hg)
   | none=>
    rw[h1,Option.none_or,Sto.get_clrs,Sto.get_dels]at hg;split at hg
    .cases hg
    rename_i hno;cases h2:σ.get o with
    | none=>rw[h2]at hg;cases hg
    | some ob1=>rw[h2]at hg;exact .inr ⟨hno,ob1,rfl,by simpa using hg.symm⟩
  have hout:∀o ob1 b,o ∉ O::rows->σ.get o=some ob1->ob1.own (g.loc o) b->¬SB g σ0 b:=by
   rintro o ob1 b hno ho1 hb ⟨o2,ob2,h2,hb2⟩;obtain ⟨ob3,h3,e3⟩:=hle.some h2;rw[<-e3]at hb2;have:=hst.so.apart o o2 _ _ b ho1 h3 hb hb2;subst this;rcases (Sto.okS_get hr.ok0 h2).1 with rfl | hin
   .exact hno List.mem_cons_self
   exact hno (jDj _ hin)
  have hnr:∀o,o ∉ O::rows->o ∉ rows:=fun o h hin=>h (jDj _ hin)
  have hst' :St E g' a (fr.clrs rows) (σ1++(σ.dels (O::rows)).clrs rows):=by
   refine ⟨fun d=>by rw[Fr.get_clrs];exact Vha ho.ext hl (hst.fr d),hst.n,hst.df.mono ho.ext,⟨?_,?_,?_,?_,hw⟩⟩
   .intro o ob hg;rcases hget o ob hg with h1 | ⟨hno,ob1,ho1,rfl⟩
    .exact hobj o ob h1
    have hro:=hst.so.obj o ob1 ho1;exact vFb hro ho.ext hl (hnr o hno) fun b hb=>ho.block b (hro.block_lt hb) (hout o ob1 b hno ho1 hb)
   .intro o o' ob ob' b h1 h2 h3 h4;rcases hget o ob h1 with h1 | ⟨hno,ob1,ho1,rfl⟩ <;> rcases hget o' ob' h2 with h2 | ⟨hno',ob1',ho1',rfl⟩
    .exact hap o o' ob ob' b h1 h2 h3 h4
    .exfalso;rw[AO.own_clrs,hl o' (hnr o' hno')]at h4;have hlt:=(hst.so.obj o' ob1' ho1').block_lt h4;rcases hmine o ob b h1 h3 with h5 | h5
     .omega
     exact hout o' ob1' b hno' ho1' h4 h5
    .exfalso;rw[AO.own_clrs,hl o (hnr o hno)]at h3;have hlt:=(hst.so.obj o ob1 ho1).block_lt h3;rcases hmine o' ob' b h2 h4 with h5 | h5
     .omega
     exact hout o ob1 b hno ho1 h3 h5
    rw[AO.own_clrs,hl o (hnr o hno)]at h3;rw[AO.own_clrs,hl o' (hnr o' hno')]at h4;exact hst.so.apart o o' ob1 ob1' b ho1 ho1' h3 h4
   .intro o ob b h1 h2;rcases hget o ob h1 with h1 | ⟨hno,ob1,ho1,rfl⟩
    .rcases hmine o ob b h1 h2 with h5 | h5
     .exact .inl (jCh hst.so.old.ext.size h5)
     exact (hsb b h5).2
    rw[AO.own_clrs,hl o (hnr o hno)]at h2;exact hst.so.mine o ob1 b ho1 h2
   refine hst.so.old.trans (ho.mono fun b _ hb=>?_);exact (hsb b hb).2.symm
  exact hK g' _ (hst'.put (jAd hN) hv)⟩
theorem vGb{ops:Array Oper}{ol:List Oper}(o:Nat)(h:AWPL E ops ol (fr.clr o) (σ.del o) K):AWPL E ops ol fr σ K:=
 ⟨fun g a hst=>h.go g a (hst.le (fun d=>by
  rw[Fr.get_clr];unfold AV.clr;cases (fr.get d).has o with
  | true=>exact .inl rfl
  | false=>exact .inr (.inl rfl)) fun o' ob ho=>.inl (by
  rw[Sto.get_del]at ho;split at ho
  .cases ho
  exact ho))⟩
section
variable {α:Type} {F:α->List PV} {l:List α} {size:Nat} {e:TypeId}
end
section
variable {g g' :G} {r r' :Nat}
end
section
variable {α:Type} {F:α->List PV} {r' :List α} {size bytes sb ss k lim:Nat} {e t:TypeId} {zero sz:Value} {d:TypeDesc} {x:Operand} {n:Int} {z:α}
end
theorem rfS{P:Program}{f:FuncId}{fn:Func}{c:Code}{args:List AV}{r:AV}{σ0 σ1:Sto}{O H:Nat}{rows:List Nat}(hc:AV)(hok:FnOk P f fn c)(hN:Nat.ble args.length fn.ntmps=true)(hr:∀k,r.has k=true->k∈rows)(h0:(hc=.ptr O 0/\args[0]? =some (.ptr O 0))∨(hc=.any/\Sto.get σ1 O=none))
 (k0:σ0.okS O rows=true) (k1:σ1.okS O rows=true) (hH:Sto.get σ0 H=none) (hH1:Sto.get σ1 H=none)
 (h:∀g0 (hg:Gl g0) (S:Nat->Prop) (sg:∀k,GlB k->¬S k) (T:Array Value),(GS.code c (k7a 0 args) ((H,.hold hc (T.getD 0 undef))::σ0) (.base (qrb P fn r hc H T σ1) qsb)).holds ⟨P,none,g0,fn.ntmps,false,hg,S,sg⟩):RunS P f args σ0 r σ1 O rows:=z3b hok hN hr h0 k0 k1 hH hH1 h
theorem krS{P:Program}{T:Tab}{Tm:Array Value}(hT:kVa P T){e:Exit}{fn:Func}{cs:List AV}{r hc:AV}{H:Nat}{σ1:Sto}{hm:Mono (qrb P fn r hc H Tm σ1)}(he:isN e=true∨e=.ret)(h:VCa T fr σ fn.results.toList=some cs)(hr:QWa cs=r)(hs:kza σ ((H,.hold hc (Tm.getD 0 undef))::σ1)):
 (GS.at e fr σ (.base (qrb P fn r hc H Tm σ1) hm)).holds E:=⟨by cases e <;> simp_all [isN],⟨cs,jwa hT h,hr⟩,hs⟩
def AV.okR(rows:List Nat):AV->Bool
 | .agg l=>l.all (AV.okS rows)
 | .ifc _=>true
 | c=>c.okS rows
def AV.okT(rows:List Nat):AV->Bool
 | .tup l=>l.all (AV.okR rows)
 | c=>c.okR rows
theorem AV.okR_has{rows:List Nat}{c:AV}(h:c.okR rows=true){k:Nat}(hk:c.has k=true):k∈rows:=by
 unfold AV.okR at h;split at h
 .obtain ⟨c',hc,hk'⟩:=AV.hasL_mem hk;exact AV.okS_has (jAw.1 h c' hc) hk'
 .simp[AV.has]at hk
 exact AV.okS_has h hk
theorem hasT{rows:List Nat}{c:AV}(h:c.okT rows=true):∀k,c.has k=true->k∈rows:=by
 intro k hk;unfold AV.okT at h;split at h
 .obtain ⟨c',hc,hk'⟩:=AV.hasL_mem hk;exact AV.okR_has (jAw.1 h c' hc) hk'
 exact AV.okR_has h hk
end
end Go.Proofs.YtdblnmhmmfahkaaGreat
