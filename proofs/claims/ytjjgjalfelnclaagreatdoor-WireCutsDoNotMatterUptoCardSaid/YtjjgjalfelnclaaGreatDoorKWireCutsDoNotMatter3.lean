/- Part 3 of the proof of the law WireCutsDoNotMatter: what it needs. -/
import Derived.Test.YtjjgjalfelnclaaGreatDoorKWireCutsDoNotMatter2
import Derived.Test.YtjjgjalfelnclaaGreatDoorProg
import Derived.Lib.IndexMore
import Derived.Lib.IndexAny
import Derived.Lib.Atoi
import Derived.Lib.Join
import Derived.Lib.Repeat
import Derived.Lib.Split
import Derived.Lib.FieldsP
import Derived.Lib.Strings
import Derived.Lib.ItoaMem
import Derived.Laws.RangeAny
import Derived.Lib.SplitLaws
set_option linter.unusedVariables false
set_option linter.unusedSimpArgs false
set_option maxRecDepth 100000
set_option maxHeartbeats 40000000
namespace Go.Proofs.YtjjgjalfelnclaaGreatDoor
open Go.RowKit Go.Proofs.Tryz
section
open Go.RowKit Go.Lib Go.Proofs.Tryz
def Fr.mp(f:AV->AV):Fr->Fr
 | []=>[]
 | (k,c)::l=>(k,f c)::Fr.mp f l
def AO.mp(f:AV->AV):AO->AO
 | .cells cs=>.cells (cs.map f)
 | .hold c v=>.hold (f c) v
 | o=>o
def Sto.mp(f:AV->AV):Sto->Sto
 | []=>[]
 | (k,a)::l=>(k,a.mp f)::Sto.mp f l
theorem Fr.get_mp{f:AV->AV}(h0:f .any=.any)(fr:Fr)(d:Nat):(fr.mp f).get d=f (fr.get d):=by
 induction fr with
 | nil=>exact h0.symm
 | cons x l ih=>
  obtain ⟨k,c⟩:=x;simp only[Fr.mp,Fr.get_cons,ih];split <;> rfl
theorem Sto.get_mp(f:AV->AV)(σ:Sto)(o:Nat):(σ.mp f).get o=(σ.get o).map (AO.mp f):=by
 induction σ with
 | nil=>rfl
 | cons x l ih=>
  obtain ⟨k,c⟩:=x;simp only[Sto.mp,Sto.get_cons,ih];split <;> rfl
theorem AO.own_mp(f:AV->AV)(ob:AO)(l:Loc):(ob.mp f).own l=ob.own l:=by cases ob <;> rfl
def AV.on(f:AV->AV):AV->AV
 | .agg l=>.agg (l.map f)
 | c=>f c
theorem K0b{g g' :G}{f:AV->AV}(hf:∀c v,Rel g c v->Rel g' (f c) v){c:AV}{v:Value}(h:Rel g c v):Rel g' (AV.on f c) v:=by
 cases c
 case agg cs=>
  cases h with
  | agg hl hc h=>
   refine .agg (by simp[hl]) hc fun i c hi=>?_
   simp only[jAk,jAg]at hi;obtain ⟨c',h1,rfl⟩:=hi;exact hf _ _ (h i c' h1)
 all_goals exact hf _ _ h
variable {E:Env} {fr:Fr} {σ:Sto} {K:Post}
theorem St.turn{g g' :G}{a:Act}(h:St E g a fr σ){r:Nat}{ob0 ob:AO}(hr:σ.get r=some ob0)(R:List Nat)(hR:r ∉ R)(f:AV->AV)(hf0:f .any=.any)(hf:∀c v,Rel g c v->Rel g' (f c) v)
 (hx:Ext g.w g.u g'.w g'.u) (hl:∀k,k≠r->g'.loc k=g.loc k) (hos:g'.w.os=g.w.os) (htape:g'.w.tape=g.w.tape) (hout:g'.w.output=g.w.output)
 (hb:∀b,b < g.w.heap.size->(∀o ob1,(o=r∨o∈R)->σ.get o=some ob1->¬ob1.own (g.loc o) b)->g'.w.heap[b]? =g.w.heap[b]? /\g'.u b=g.u b) (hwf:Wf g') (hob:RelO g' r ob)
 (hnew:∀b,ob.own (g'.loc r) b->(∃o ob1,(o=r∨o∈R)/\σ.get o=some ob1/\ob1.own (g.loc o) b)∨g.w.heap.size<=b):St E g' a (fr.mp f) (((σ.dels R).mp f).upd r ob):=by
 have hgr:((σ.dels R).mp f).get r=some (ob0.mp f):=by rw[Sto.get_mp,Sto.get_dels,if_neg hR,hr];rfl
 have hget:∀o ob',(((σ.dels R).mp f).upd r ob).get o=some ob' ->(o=r/\ob' =ob)∨(o≠r/\o ∉ R/\∃ob1,σ.get o=some ob1/\ob' =ob1.mp f):=by
  intro o ob' ho;rw[Sto.get_upd hgr]at ho;split at ho
  .rename_i hor;cases ho;exact .inl ⟨hor,rfl⟩
  rename_i hor;rw[Sto.get_mp,Sto.get_dels]at ho;split at ho
  .cases ho
  rename_i hoR;cases ho1:σ.get o with
  | none=>rw[ho1]at ho;cases ho
  | some ob1=>rw[ho1]at ho;cases ho;exact .inr ⟨hor,hoR,ob1,rfl,rfl⟩
 have hdis:∀o ob1 b,o≠r->o ∉ R->σ.get o=some ob1->ob1.own (g.loc o) b->∀o' ob2,(o' =r∨o' ∈R)->σ.get o' =some ob2->¬ob2.own (g.loc o') b:=by
  intro o ob1 b hne hnR ho hbo o' ob2 ho' h2 hc;have:=h.so.apart o o' ob1 ob2 b ho h2 hbo hc;subst this;rcases ho' with rfl | ho'
  .exact hne rfl
  exact hnR ho'
 refine ⟨fun d=>by rw[Fr.get_mp hf0];exact hf _ _ (h.fr d),h.n,h.df.mono hx,⟨?_,?_,?_,?_,hwf⟩⟩
 .intro o ob' ho;rcases hget o ob' ho with ⟨rfl,rfl⟩ | ⟨hne,hnR,ob1,ho1,rfl⟩
  .exact hob
  have hro:=h.so.obj o ob1 ho1;have hbb:∀b,ob1.own (g.loc o) b->g'.w.heap[b]? =g.w.heap[b]? /\g'.u b=g.u b:=fun b hb' =>hb b (hro.block_lt hb') (hdis o ob1 b hne hnR ho1 hb')
  cases ob1
  case cells cs=>
   cases hro with
   | @cells _ b t vs h1 h2 h3 h4 h5 h6=>
    obtain ⟨b1,b2⟩:=hbb b (by rw[h1];rfl);refine .cells ((hl o hne).trans h1) (b1.trans h2) (by simpa using h3) (b2.trans h4) h5 fun i c hi=>?_
    simp only[jAk,jAg]at hi;obtain ⟨c',hc',rfl⟩:=hi;exact hf _ _ (h6 i c' hc')
  case hold c v=>cases hro with
   | hold h1=>exact .hold (hf _ _ h1)
  all_goals exact hro.mono hx (hl o hne) (fun _ hk=>by cases hk) hbb
 .intro o o' ob1 ob2 b h1 h2 h3 h4;rcases hget o ob1 h1 with ⟨rfl,rfl⟩ | ⟨hne,hnR,ob1,ho1,rfl⟩ <;> rcases hget o' ob2 h2 with ⟨rfl,rfl⟩ | ⟨hne',hnR',ob2,ho2,rfl⟩
  .rfl
  .rw[AO.own_mp,hl o' hne']at h4;rcases hnew b h3 with ⟨q,obq,hq,hq1,hq2⟩ | h5
   .exact absurd hq2 (hdis o' ob2 b hne' hnR' ho2 h4 q obq hq hq1)
   have:=(h.so.obj o' _ ho2).block_lt h4;omega
  .rw[AO.own_mp,hl o hne]at h3;rcases hnew b h4 with ⟨q,obq,hq,hq1,hq2⟩ | h5
   .exact absurd hq2 (hdis o ob1 b hne hnR ho1 h3 q obq hq hq1)
   have:=(h.so.obj o _ ho1).block_lt h3;omega
  rw[AO.own_mp,hl o hne]at h3;rw[AO.own_mp,hl o' hne']at h4;exact h.so.apart o o' _ _ b ho1 ho2 h3 h4
 .intro o ob1 b h1 h2;rcases hget o ob1 h1 with ⟨rfl,rfl⟩ | ⟨hne,hnR,ob1,ho1,rfl⟩
  .rcases hnew b h2 with ⟨q,obq,hq,hq1,hq2⟩ | h5
   .exact h.so.mine q obq b hq1 hq2
   exact .inl (jBp h.so.old.ext.size h5)
  rw[AO.own_mp,hl o hne]at h2;exact h.so.mine o _ b ho1 h2
 refine h.so.old.trans ⟨hos,htape,hout,hx,fun b hbl hs=>hb b hbl fun q obq hq hq1 hq2=>?_⟩;rcases h.so.mine q obq b hq1 hq2 with h1 | h1
 .exact hs (.inr h1)
 exact hs (.inl h1)
def KGa(size2:Nat):Loc->Loc
 | .row b off cap size n=>.nest b off cap size n size2 []
 | l=>l
def AV.nst(r:Nat):AV->AV
 | .hs x off=>bif Nat.beq x r then .ns r else .hs x off
 | c=>bif c.has r then .any else c
theorem Wva{g g' :G}{r:Nat}(hx:Ext g.w g.u g'.w g'.u)(hl:∀k,k≠r->g'.loc k=g.loc k){c:AV}{v:Value}(h:Rel g c v):Rel g' (bif c.has r then .any else c) v:=klb hx hl h
theorem rel_nst{g g' :G}{r size2:Nat}(hx:Ext g.w g.u g'.w g'.u)(hk:∀k,k≠r->g'.loc k=g.loc k)(hl:g'.loc r=KGa size2 (g.loc r)){c:AV}{v:Value}(h:Rel g c v):Rel g' (c.nst r) v:=by
 cases c
 case hs x off=>
  cases hb:Nat.beq x r with
  | true=>
   rw[show AV.nst r (.hs x off)=.ns r by show (bif Nat.beq x r then AV.ns r else AV.hs x off)=_;rw[hb];rfl];have:x=r:=jAm hb;subst this;cases h with
   | hsNil a h1=>exact .nsNil a (by rw[hl,h1];rfl)
   | hs h1 h2=>exact .ns (size2:=size2) (subs:=[]) (by rw[hl,h1];rfl) h2
  | false=>
   rw[show AV.nst r (.hs x off)=.hs x off by show (bif Nat.beq x r then AV.ns r else AV.hs x off)=_;rw[hb];rfl];have hne:x≠r:=by rintro rfl;simp at hb
   exact h.mono hx fun k hk' =>hk k (by have:=jAm (show Nat.beq x k=true from hk');subst this;exact hne)
 all_goals exact Wva hx hk h
theorem St.nest{g:G}{a:Act}{r size:Nat}{e:TypeId}{elems:List (List PV)}(h:St E g a fr σ)(hr:σ.get r=some (.row e true size elems))(j:Nat)(e2:TypeId)(size2:Nat):
 St E ⟨g.w,g.u,fun k=>if k=r then KGa size2 (g.loc r) else g.loc k⟩ a (fr.mp (AV.on (AV.nst r))) (((σ.dels []).mp (AV.on (AV.nst r))).upd r (.nrow e size j e2 size2 0 elems)):=by
 have hl:(⟨g.w,g.u,fun k=>if k=r then KGa size2 (g.loc r) else g.loc k⟩:G).loc r=KGa size2 (g.loc r):=if_pos rfl;have hob:=h.so.obj r _ hr;have hbl:(KGa size2 (g.loc r)).block=(g.loc r).block/\(∀b,b∈(KGa size2 (g.loc r)).subs->(g.loc r).block=some b):=by
  cases hob with
  | nil h1=>rw[h1];exact ⟨rfl,fun b hb=>by cases hb⟩
  | row h1=>rw[h1];exact ⟨rfl,fun b hb=>by cases hb⟩
 refine h.turn (g' :=⟨g.w,g.u,fun k=>if k=r then KGa size2 (g.loc r) else g.loc k⟩) hr [] (by simp) _ rfl (fun c v=>K0b fun c v=>rel_nst (g:=g) (g' :=⟨g.w,g.u,fun k=>if k=r then KGa size2 (g.loc r) else g.loc k⟩) (Ext.refl _ _) (fun k hk=>if_neg hk) hl) (Ext.refl _ _) (fun k hk=>if_neg hk) rfl rfl rfl (fun _ _ _=>⟨rfl,rfl⟩) h.so.wf ?_ (fun b hb=>.inl ⟨r,_,.inl rfl,hr,?_⟩)
 .cases hob with
  | nil h1=>exact .nrowNil (by rw[hl,h1];rfl)
  | row h1 h2 h3 h4 h5 h6 h7 h8 h9=>exact .nrow (subs:=[]) (by rw[hl,h1];rfl) h2 h3 h4 h5 h6 (h8 rfl) rfl (jDd _) (by simp[wma]) (fun i j' x c hi hj _=>h9 i j' x c hi hj) (fun i s x hi=>by simp at hi)
 rcases hb with hb | hb
 .rw[hl,hbl.1]at hb;exact hb
 rw[hl]at hb;exact hbl.2 b hb
theorem Yda.pub{w:World}{u:Nat->Nat}{e:TypeId}{mu:Bool}{size:Nat}{rows:List (List PV)}{s:Nat × Nat × Nat × Nat}{v:Value}(h:Yda w u e mu size rows s v){u' :Nat->Nat}(hx:Ext0 w u w u')(hu:(s.2.1+s.2.2.2) * size<=u' s.1):RelP w u' (.sl none rows) v:=by
 obtain ⟨vs,h1,h2,h3⟩:=h.blk;have hv:=h.val;rw[<-h.n]at hv;subst hv;have hne:rows≠ []:=by rintro rfl;have:=h.pos;rw[<-h.n]at this;simp at this
 have hle:rows.length<=s.2.2.1:=by rw[h.n];exact h.le
 refine .sl size s.1 (s.2.1 * size) (fun i=>vs.getD (s.2.1 * size+i) undef) (fun x hx=>by cases hx) (fun hx=>by cases hx) hle h.z (fun _=>rfl) (fun _=>⟨?_,zUa h1⟩) (fun i hi=>?_) (fun i j x c hi hj=>?_)
 .rw[<-jBg,h.n];exact hu
 .refine kOa h1 ?_;rw[h2,jBg];have:=jAy size hle;omega
 have:=(h3 i j x c hi hj).mono0 hx;rw[show (s.2.1+i) * size+j=s.2.1 * size+(i * size+j) by rw[jBg];omega]at this;exact this
theorem wvb.pub{w:World}{u:Nat->Nat}{e:TypeId}{size:Nat}{rows:List (List PV)}{s:Option (Nat × Nat × Nat × Nat)}{v:Value}(h:wvb w u e size rows s v){u' :Nat->Nat}(hx:Ext0 w u w u')(hu:∀t,s=some t->(t.2.1+t.2.2.2) * size<=u' t.1):RelP w u' (.sl none rows) v:=by
 cases s with
 | none=>
  obtain ⟨rfl,a,cap,rfl,h0⟩:=h;have:=RelP.sl (w:=w) (u:=u') (nl:=none) (elems:=[]) (a:=a) (cap:=cap) 1 0 0 (fun _=>undef) (fun x hx=>by cases hx) (fun hx=>⟨h0 hx,rfl⟩) (by simp) (by simp) (by simp) (by simp) (fun i hi=>by simp at hi) (fun i j e c hi=>by simp at hi);exact this
 | some t=>exact Yda.pub h hx (hu t rfl)
end
section
open Go.RowKit Go.Lib Go.Proofs.Tryz
variable {E:Env} {fr:Fr} {σ:Sto} {K:Post} {P:Program} {ρ:Operand->AV}
variable {dst:Option Tmp} {ty:TypeId} {pos:String} {af:Array Edge} {gu:Option (Nat × Bool)}
section
variable {α β:Type} {F:α->List PV} {G2:β->List PV} {l:List α} {l2:List β} {r size size2 bytes sb ss k j m:Nat} {e e2 t:TypeId} {zero sz:Value} {d:TypeDesc} {x y:Operand}
structure NAt (g:G) (r:Nat) (e:TypeId) (size j:Nat) (e2:TypeId) (size2 m:Nat) (F:α->List PV) (l:List α) (b off cap:Nat) (vs:Array Value) (subs:List (Option (Nat × Nat × Nat × Nat))):Prop where
 loc:g.loc r=.nest b off cap size l.length size2 subs
 heap:g.w.heap[b]? =some (.cells vs e (0,0))
 sz:vs.size=(off+cap) * size
 max:cap<=maxLen
 le:l.length<=cap
 z:∀x∈l,(F x).length=size
 u:g.u b=0
 sl:subs.length=m
 ml:m<=l.length
 nd:(b::wma subs).Nodup
 cell:∀i j' x c,l[i]? =some x->(F x)[j']? =some c->(m<=i∨j' ≠j)->RelP g.w g.u c (vs.getD ((off+i) * size+j') undef)
 sub:∀i s x,subs[i]? =some s->l[i]? =some x->∃rows,(F x)[j]? =some (.sl none rows)/\wvb g.w g.u e2 size2 rows s (vs.getD ((off+i) * size+j) undef)
theorem NAt.obj{g:G}{b off cap:Nat}{vs:Array Value}{subs:List (Option (Nat × Nat × Nat × Nat))}(h:NAt g r e size j e2 size2 m F l b off cap vs subs):RelO g r (.nrow e size j e2 size2 m (l.map F)):=
 .nrow (by rw[jBd];exact h.loc) h.heap h.sz h.max (by rw[jBd];exact h.le) (fun x hx=>by obtain ⟨y,hy,rfl⟩:=jCd.1 hx;exact h.z y hy) h.u h.sl (by rw[jBd];exact h.ml) h.nd
  (fun i j' x c hi hj hc=>by
   simp only[jAk,jAg]at hi;obtain ⟨y,hy,rfl⟩:=hi;exact h.cell i j' y c hy hj hc)
  (fun i s x hi hx=>by
   simp only[jAk,jAg]at hx;obtain ⟨y,hy,rfl⟩:=hx;exact h.sub i s y hi hy)
theorem NAt.place{g:G}{b off cap i q:Nat}{vs:Array Value}{subs:List (Option (Nat × Nat × Nat × Nat))}(h:NAt g r e size j e2 size2 m F l b off cap vs subs)(hi:i < l.length)(hq:q < size):(off+i) * size+q < vs.size:=by
 rw[h.sz];exact Kyb (s:=1) hi h.le hq
section
variable {t' :TypeId} {size' bytes' :Nat} {zero' :Value} {d' :TypeDesc} {n:Int} {j0:Nat} {v v' :α} {c:PV}
theorem Yda.lt{w:World}{u:Nat->Nat}{mu:Bool}{s:Nat × Nat × Nat × Nat}{vx:Value}{i q:Nat}{vs:Array Value}(h:Yda w u e mu size (l.map F) s vx)(hsz:vs.size=(s.2.1+s.2.2.1) * size)(hi:i < l.length)(hq:q < size):(s.2.1+i) * size+q < vs.size:=by
 rw[hsz];have h1:=h.n;have h2:=h.le;rw[jBd]at h1;exact Kyb (s:=1) (n:=l.length) hi (by omega) hq
end
end
end
section
open Go.RowKit Go.Lib Go.Proofs.Tryz
structure Wrote (w w' :World) (b p:Nat) (t:TypeId) (cur new:Array Value) (cl:List Value):Prop where
 os:w'.os=w.os
 tape:w'.tape=w.tape
 output:w'.output=w.output
 size:w'.heap.size=w.heap.size
 other:∀k,k≠b->w'.heap[k]? =w.heap[k]?
 here:w'.heap[b]? =some (.cells new t (0,0))
 sz:new.size=cur.size
 inn:∀q,q < cl.length->new.getD (p+q) undef=cl.getD q undef
 out:∀q,(q < p∨p+cl.length<=q)->new.getD q undef=cur.getD q undef
theorem Wrote.ext{w w' :World}{b p:Nat}{t:TypeId}{cur new:Array Value}{cl:List Value}{u:Nat->Nat}(h:Wrote w w' b p t cur new cl)(hb:w.heap[b]? =some (.cells cur t (0,0)))(hu:u b=0):Ext w u w' u:=⟨jCi h.size.symm,fun _ _=>jAn _,fun k i hk hi=>by
 by_cases hkb:k=b
 .subst hkb;omega
 simp only[World.cell?];rw[h.other k hkb],fun r hr=>(h.other r (by rintro rfl;rw[hb]at hr;cases hr)).trans hr⟩
variable {E:Env} {fr:Fr} {σ:Sto} {K:Post} {P:Program} {ρ:Operand->AV}
variable {dst:Option Tmp} {ty:TypeId} {pos:String} {af:Array Edge} {gu:Option (Nat × Bool)}
section
variable {α β:Type} {F:α->List PV} {G2:β->List PV} {l:List α} {l2:List β} {r r2 size size2 bytes sb ss k j m:Nat} {e e2 t:TypeId} {zero sz:Value} {d:TypeDesc} {x y:Operand}
variable {t' :TypeId} {size' bytes' :Nat} {zero' :Value} {d' :TypeDesc} {n:Int} {j0:Nat} {v v' :α} {c:PV}
end
end
section
open Go.RowKit Go.Lib Go.Proofs.Tryz
def q2b(l l' :Loc):Prop:=l' =l∨(∃b off cap size n size2 subs more,l=.nest b off cap size n size2 subs/\l' =.nest b off cap size n size2 (subs++more))∨∃b subs subs',l=.mapr b subs/\l' =.mapr b subs'
theorem q2b.plain{l l' :Loc}(h:q2b l l')(hn:∀b off cap size n size2 subs,l≠ .nest b off cap size n size2 subs/\l≠ .mapr b subs):l' =l:=by
 rcases h with h | ⟨b,off,cap,size,n,size2,subs,more,h,_⟩ | ⟨b,subs,subs',h,_⟩
 .exact h
 .exact absurd h (hn _ _ _ _ _ _ _).1
 exact absurd h (hn b 0 0 0 0 0 subs).2
theorem q2b.mapr{l' :Loc}{b:Nat}{subs:List (Option (Nat × Nat × Nat × Nat))}(h:q2b (.mapr b subs) l'):∃subs',l' =.mapr b subs' :=by
 rcases h with h | ⟨b',off',cap',size',n',size2',subs',more,h,h2⟩ | ⟨b',s1,s2,h,h2⟩
 .exact ⟨_,h⟩
 .cases h
 cases h;exact ⟨_,h2⟩
theorem q2b.nest{l' :Loc}{b off cap size n size2:Nat}{subs:List (Option (Nat × Nat × Nat × Nat))}(h:q2b (.nest b off cap size n size2 subs) l'):∃more,l' =.nest b off cap size n size2 (subs++more):=by
 rcases h with h | ⟨b',off',cap',size',n',size2',subs',more,h,h2⟩ | ⟨b',s1,s2,h,h2⟩
 .exact ⟨[],by rw[jBj];exact h⟩
 .cases h;exact ⟨more,h2⟩
 cases h
theorem kGb{α:Type}{l more:List α}{i:Nat}{x:α}(h:l[i]? =some x):(l++more)[i]? =some x:=by
 rw[jAs (jAd.1 h).1];exact h
theorem Rel.more{g g' :G}(hx:Ext g.w g.u g'.w g'.u){c:AV}{v:Value}(h:Rel g c v):(∀o,c.has o=true->q2b (g.loc o) (g'.loc o))->Rel g' c v:=by
 have hx0:=hx.to0;induction h with
 | any v=>exact fun _=>.any v
 | pv h=>exact fun _=>.pv (h.mono0 hx0)
 | @agg cs vs hl hc h ih=>exact fun hh=>.agg hl hc (fun i c hi=>ih i c hi fun o ho=>hh o (by unfold AV.has;exact AV.hasL_of hi ho))
 | @tup cs vs hl h ih=>exact fun hh=>.tup hl (fun i c hi=>ih i c hi fun o ho=>hh o (by unfold AV.has;exact AV.hasL_of hi ho))
 | @ptr o off b hl=>exact fun hh=>.ptr (by have:=hh o (by simp[AV.has]);rw[hl]at this;exact this.plain (by intros;simp))
 | @ep cells b off val hu hb hcell h=>exact fun hh=>Rel.mono hx (.ep val hu hb hcell h) (fun o ho=>by cases ho)
 | @hsNil r a hl=>exact fun hh=>.hsNil a (by have:=hh r (by simp[AV.has]);rw[hl]at this;exact this.plain (by intros;simp))
 | @hs r b off cap size n a hl ha=>exact fun hh=>.hs (by have:=hh r (by simp[AV.has]);rw[hl]at this;exact this.plain (by intros;simp)) ha
 | @hp r idx j b off cap size n hl hi=>exact fun hh=>.hp (by have:=hh r (by simp[AV.has]);rw[hl]at this;exact this.plain (by intros;simp)) hi
 | @fn f first captured fv cv h1 h2 hf hc ihf ihc=>
  exact fun hh=>.fn h1 h2 (fun i c hi=>ihf i c hi fun o ho=>hh o (by simp[AV.has,AV.hasL_of hi ho])) (fun i c hi=>ihc i c hi fun o ho=>hh o (by simp[AV.has,AV.hasL_of hi ho]))
 | @mp o b hl=>exact fun hh=>.mp (by have:=hh o (by simp[AV.has]);rw[hl]at this;exact this.plain (by intros;simp))
 | @hsubNil r lo a hl=>exact fun hh=>.hsubNil a (by have:=hh r (by simp[AV.has]);rw[hl]at this;exact this.plain (by intros;simp))
 | @hsub r lo b off cap size n a hl hle ha=>exact fun hh=>.hsub (by have:=hh r (by simp[AV.has]);rw[hl]at this;exact this.plain (by intros;simp)) hle ha
 | z0 a=>exact fun _=>.z0 a
 | ifc h=>exact fun _=>.ifc h
 | @hpreNil r a hl=>exact fun hh=>.hpreNil a (by have:=hh r (by simp[AV.has]);rw[hl]at this;exact this.plain (by intros;simp))
 | @hpre r hi b off cap size n a hl hle ha=>exact fun hh=>.hpre (by have:=hh r (by simp[AV.has]);rw[hl]at this;exact this.plain (by intros;simp)) hle ha
 | @nsNil r a hl=>exact fun hh=>.nsNil a (by have:=hh r (by simp[AV.has]);rw[hl]at this;exact this.plain (by intros;simp))
 | @ns r b off cap size n size2 subs a hl ha=>exact fun hh=>by have:=hh r (by simp[AV.has]);rw[hl]at this;obtain ⟨more,h2⟩:=this.nest;exact .ns h2 ha
 | @np r idx j b off cap size n size2 subs hl hi=>exact fun hh=>by have:=hh r (by simp[AV.has]);rw[hl]at this;obtain ⟨more,h2⟩:=this.nest;exact .np h2 hi
 | @hnNil r idx b off cap size n size2 subs a cap2 hl hs=>exact fun hh=>by have:=hh r (by simp[AV.has]);rw[hl]at this;obtain ⟨more,h2⟩:=this.nest;exact .hnNil a cap2 h2 (kGb hs)
 | @hn r idx b off cap size n size2 b2 off2 cap2 n2 subs hl hs=>exact fun hh=>by have:=hh r (by simp[AV.has]);rw[hl]at this;obtain ⟨more,h2⟩:=this.nest;exact .hn h2 (kGb hs)
 | @hnp r idx k j b off cap size n size2 b2 off2 cap2 n2 subs hl hs hk=>exact fun hh=>by have:=hh r (by simp[AV.has]);rw[hl]at this;obtain ⟨more,h2⟩:=this.nest;exact .hnp h2 (kGb hs) hk
 | nn h=>exact fun _=>.nn h
 | @ls o b hl=>exact fun hh=>.ls (by have:=hh o (by simp[AV.has]);rw[hl]at this;exact this.plain (by intros;simp))
 | @mr o b subs hl=>exact fun hh=>by have:=hh o (by simp[AV.has]);rw[hl]at this;obtain ⟨s,h2⟩:=this.mapr;exact .mr h2
variable {E:Env} {fr:Fr} {σ:Sto} {K:Post} {P:Program} {ρ:Operand->AV}
variable {dst:Option Tmp} {ty:TypeId} {pos:String} {af:Array Edge} {gu:Option (Nat × Bool)}
section
variable {α β:Type} {F:α->List PV} {G2:β->List PV} {l:List α} {l2:List β} {r r2 size size2 bytes sb ss k j m:Nat} {e e2 t:TypeId} {zero sz:Value} {d:TypeDesc} {x y:Operand}
variable {t' :TypeId} {size' bytes' :Nat} {zero' :Value} {d' :TypeDesc} {n:Int} {j0:Nat} {v v' :α} {c:PV}
end
end
section
open Go.RowKit Go.Lib Go.Proofs.Tryz
variable {E:Env} {fr:Fr} {σ:Sto} {K:Post} {P:Program} {ρ:Operand->AV}
variable {dst:Option Tmp} {ty:TypeId} {pos:String} {af:Array Edge} {gu:Option (Nat × Bool)}
section
variable {α β:Type} {F:α->List PV} {G2:β->List PV} {l r' :List α} {l2:List β} {r r2 o size size2 bytes sb ss k j m lim:Nat} {e e2 t:TypeId} {zero sz:Value} {d:TypeDesc} {x y:Operand} {v:α} {cs:List AV}
end
end
section
open Go.RowKit Go.Lib Go.Proofs.Tryz
variable {E:Env} {fr:Fr} {σ:Sto} {K:Post}
theorem St.split{g g' :G}{a:Act}(h:St E g a fr σ){r r1:Nat}{ob0 ob ob1:AO}(hr:σ.get r=some ob0)(hf1:fr.has r1=false)(hs1:σ.has r1=false)(hg1:σ.get r1=none)(hw:g'.w=g.w)(hu:g'.u=g.u)(hl:∀k,k≠r->k≠r1->g'.loc k=g.loc k)(hle:q2b (g.loc r) (g'.loc r))
 (hok:ob0.has r1=false) (hob:RelO g' r ob) (hob1:RelO g' r1 ob1) (hsub:∀b,ob.own (g'.loc r) b->ob0.own (g.loc r) b) (hsub1:∀b,ob1.own (g'.loc r1) b->ob0.own (g.loc r) b) (hdis:∀b,ob.own (g'.loc r) b->¬ob1.own (g'.loc r1) b)
 (hhas:∀o ob2,o≠r->σ.get o=some ob2->ob2.has r=true->∃cs,ob2=.cells cs∨∃c v,ob2=.hold c v):St E g' a fr ((r1,ob1)::σ.upd r ob):=by
 have hne:r≠r1:=by rintro rfl;rw[hr]at hg1;cases hg1
 have hx:Ext g.w g.u g'.w g'.u:=by rw[hw,hu];exact Ext.refl _ _
 have hrel:∀c v,c.has r1=false->Rel g c v->Rel g' c v:=fun c v hc hv=>hv.more hx fun o ho=>by
  by_cases h1:o=r
  .subst h1;exact hle
  by_cases h2:o=r1
  .subst h2;rw[hc]at ho;cases ho
  exact .inl (hl o h1 h2)
 have hgu:=Sto.get_upd (ob:=ob) hr;have hget:∀o ob',Sto.get ((r1,ob1)::σ.upd r ob) o=some ob' ->(o=r1/\ob' =ob1)∨(o=r/\ob' =ob)∨(o≠r/\o≠r1/\σ.get o=some ob'):=by
  intro o ob' ho;rw[Sto.get_cons]at ho;split at ho
  .rename_i h1;cases ho;exact .inl ⟨h1.symm,rfl⟩
  rename_i h1;rw[hgu]at ho;split at ho
  .rename_i h2;cases ho;exact .inr (.inl ⟨h2,rfl⟩)
  rename_i h2;exact .inr (.inr ⟨h2,Ne.symm h1,ho⟩)
 refine ⟨fun d=>hrel _ _ ?_ (h.fr d),h.n,by rw[hw];exact h.df,⟨?_,?_,?_,?_,fun k hk=>by rw[hu];exact h.so.wf k (by rw[<-hw];exact hk)⟩⟩
 .cases hh:(fr.get d).has r1 with
  | false=>rfl
  | true=>rw[Fr.has_get hh]at hf1;cases hf1
 .intro o ob' ho;rcases hget o ob' ho with ⟨rfl,rfl⟩ | ⟨rfl,rfl⟩ | ⟨h1,h2,ho⟩
  .exact hob1
  .exact hob
  have hro:=h.so.obj o ob' ho;have hn:ob'.has r1=false:=by
   cases hh:ob'.has r1 with
   | false=>rfl
   | true=>rw[Sto.has_get ho hh]at hs1;cases hs1
  cases ob' with
  | cells cs=>
   cases hro with
   | @cells _ b t vs q1 q2 q3 q4 q5 q6=>
    refine .cells ((hl o h1 h2).trans q1) (by rw[hw];exact q2) q3 (by rw[hu];exact q4) q5 fun i c hi=>hrel c _ ?_ (q6 i c hi)
    cases hh:c.has r1 with
    | false=>rfl
    | true=>rw[show (AO.cells cs).has r1=AV.hasL r1 cs from rfl,AV.hasL_of hi hh]at hn;cases hn
  | hold c v=>cases hro with
   | hold q1=>exact .hold (hrel c _ hn q1)
  | _=>exact hro.mono hx (hl o h1 h2) (fun _ hk=>by cases hk) fun b _=>by rw[hw,hu];exact ⟨rfl,rfl⟩
 .intro o o' oa ob' b h1 h2 h3 h4;rcases hget o oa h1 with ⟨rfl,rfl⟩ | ⟨rfl,rfl⟩ | ⟨p1,p2,p3⟩ <;> rcases hget o' ob' h2 with ⟨rfl,rfl⟩ | ⟨rfl,rfl⟩ | ⟨q1,q2,q3⟩
  .rfl
  .exact absurd h3 (hdis b h4)
  .rw[hl o' q1 q2]at h4;exact absurd (h.so.apart r o' _ _ b hr q3 (hsub1 b h3) h4) (Ne.symm q1)
  .exact absurd h4 (hdis b h3)
  .rfl
  .rw[hl o' q1 q2]at h4;exact absurd (h.so.apart o o' _ _ b hr q3 (hsub b h3) h4) (Ne.symm q1)
  .rw[hl o p1 p2]at h3;exact absurd (h.so.apart o r _ _ b p3 hr h3 (hsub1 b h4)) p1
  .rw[hl o p1 p2]at h3;exact absurd (h.so.apart o o' _ _ b p3 hr h3 (hsub b h4)) p1
  rw[hl o p1 p2]at h3;rw[hl o' q1 q2]at h4;exact h.so.apart o o' _ _ b p3 q3 h3 h4
 .intro o oa b h1 h2;rcases hget o oa h1 with ⟨rfl,rfl⟩ | ⟨rfl,rfl⟩ | ⟨p1,p2,p3⟩
  .exact h.so.mine r _ b hr (hsub1 b h2)
  .exact h.so.mine o _ b hr (hsub b h2)
  rw[hl o p1 p2]at h2;exact h.so.mine o _ b p3 h2
 exact ⟨by rw[hw];exact h.so.old.os,by rw[hw];exact h.so.old.tape,by rw[hw];exact h.so.old.output,h.so.old.ext.trans hx,fun b hb hs=>by rw[hw,hu];exact h.so.old.block b hb hs⟩
section
variable {κ β:Type} [BEq κ] [LawfulBEq κ] {KK:KeyK κ} {G2:β->List PV} {P:Program} {ρ:Operand->AV} {t kt e e1:TypeId} {m x y:Operand} {o r size sz1 bytes k0:Nat} {d:TypeDesc} {es:List (κ × List β)} {k:κ} {l:List β}
variable {dst:Option Tmp} {ty:TypeId} {pos:String} {af:Array Edge} {gu:Option (Nat × Bool)}
abbrev mencR(KK:KeyK κ)(G2:β->List PV)(es:List (κ × List β)):List (Value × List (List PV)):=es.map fun p=>(KK.kf p.1,p.2.map G2)
structure MAt (g:G) (o:Nat) (e:TypeId) (size:Nat) (tk:Option Nat) (KK:KeyK κ) (G2:β->List PV) (es:List (κ × List β)) (b clock:Nat) (ents:Array MapEntry) (subs:List (Option (Nat × Nat × Nat × Nat))):Prop where
 loc:g.loc o=.mapr b subs
 heap:g.w.heap[b]? =some (.map ents clock)
 u:g.u b=0
 n:ents.size=es.length
 sl:subs.length=es.length
 nd:(b::wma subs).Nodup
 key:∀(i:Nat) p x,es[i]? =some p->ents[i]? =some x->x.key=KK.kf p.1
 cv:∀(i:Nat) x,ents[i]? =some x->cellV x.val=true
 ent:∀(i:Nat) p x,es[i]? =some p->ents[i]? =some x->(tk=some i/\subs[i]? =some none∨tk≠some i/\∃s,subs[i]? =some (some s)/\Yda g.w g.u e false size (p.2.map G2) s x.val)
theorem MAt.obj{g:G}{tk:Option Nat}{b clock:Nat}{ents:Array MapEntry}{subs:List (Option (Nat × Nat × Nat × Nat))}(h:MAt g o e1 size tk KK G2 es b clock ents subs):RelO g o (.mapr e1 size tk (mencR KK G2 es)):=
 .mapr h.loc h.heap h.u (by simpa[mencR]using h.n) (by simpa[mencR]using h.sl) h.nd fun i k' rows hi=>by
  simp only[mencR,jAk,jAg,Prod.mk.injEq]at hi;obtain ⟨p,hp,rfl,rfl⟩:=hi;have hlt:i < ents.size:=by rw[h.n];exact (jAd.1 hp).1
  have hx:=jBv hlt;exact ⟨_,hx,h.key i p _ hp hx,h.cv i _ hx,h.ent i p _ hp hx⟩
def Wwa:Loc->Loc
 | .map b=>.mapr b []
 | l=>l
def AV.mrs(o:Nat):AV->AV
 | .mp x=>bif Nat.beq x o then .mr o else .mp x
 | c=>bif c.has o then .any else c
theorem rel_mrs{g g' :G}(hx:Ext g.w g.u g'.w g'.u)(hk:∀k,k≠o->g'.loc k=g.loc k)(hl:g'.loc o=Wwa (g.loc o)){c:AV}{v:Value}(h:Rel g c v):Rel g' (c.mrs o) v:=by
 cases c
 case mp x=>
  cases hb:Nat.beq x o with
  | true=>
   rw[show AV.mrs o (.mp x)=.mr o by show (bif Nat.beq x o then AV.mr o else AV.mp x)=_;rw[hb];rfl];have:x=o:=jAm hb;subst this;cases h with
   | mp h1=>exact .mr (subs:=[]) (by rw[hl,h1];rfl)
  | false=>
   rw[show AV.mrs o (.mp x)=.mp x by show (bif Nat.beq x o then AV.mr o else AV.mp x)=_;rw[hb];rfl];have hne:x≠o:=by rintro rfl;simp at hb
   exact h.mono hx fun k hk' =>hk k (by have:=jAm (show Nat.beq x k=true from hk');subst this;exact hne)
 all_goals exact Wva hx hk h
theorem St.mapr{g:G}{a:Act}(h:St E g a fr σ)(ho:σ.get o=some (.mapo false []))(e:TypeId)(size:Nat):
 St E ⟨g.w,g.u,fun k=>if k=o then Wwa (g.loc o) else g.loc k⟩ a (fr.mp (AV.on (AV.mrs o))) (((σ.dels []).mp (AV.on (AV.mrs o))).upd o (.mapr e size none [])):=by
 have hl:(⟨g.w,g.u,fun k=>if k=o then Wwa (g.loc o) else g.loc k⟩:G).loc o=Wwa (g.loc o):=if_pos rfl;have hob:=h.so.obj o _ ho;generalize hms:([]:List (Value × List PV))=ms at hob;cases hob with
 | @mapo _ _ b clock ents h1 h2 h3 h4 h5=>
  subst hms;refine h.turn (g' :=⟨g.w,g.u,fun k=>if k=o then Wwa (g.loc o) else g.loc k⟩) ho [] (by simp) _ rfl (fun c v=>K0b fun c v=>rel_mrs (g:=g) (g' :=⟨g.w,g.u,fun k=>if k=o then Wwa (g.loc o) else g.loc k⟩) (Ext.refl _ _) (fun k hk=>if_neg hk) hl) (Ext.refl _ _) (fun k hk=>if_neg hk) rfl rfl rfl (fun _ _ _=>⟨rfl,rfl⟩) h.so.wf ?_ (fun q hq=>.inl ⟨o,_,.inl rfl,ho,?_⟩)
  .exact .mapr (subs:=[]) (by rw[hl,h1];rfl) h2 h3 h4 rfl (by simp[wma]) (fun i k rows hi=>by simp at hi)
  rw[hl,h1]at hq;rw[h1];rcases hq with hq | hq
  .exact hq
  cases hq
end
end
section
section
variable {E:Env} {ρ:Operand->AV} {P:Program} {fr FR:Fr} {σ:Sto} {dst:Option Nat} {ty:TypeId} {pos:String} {af:Array Edge} {gu:Option (Nat × Bool)}
end
section
variable {E:Env} {FR:Fr} {σ:Sto} {ty:TypeId} {pos:String} {af:Array Edge} {gu:Option (Nat × Bool)} {α β:Type} {F:α->List PV} {G2:β->List PV} {l:List α} {l2:List β} {e e2 t' :TypeId} {size size2 size' bytes' j j0 m r r2:Nat} {zero' :Value} {d' :TypeDesc} {x y:Operand} {n n2:Int} {v v' :α} {w2 w2' :β} {pcs:List PV}
end
end
section
section
variable {P:Program} {t:TypeId}
variable {ρ:Operand->AV} {σ:Sto} {dst:Option Nat} {ty:TypeId} {pos:String} {af:Array Edge} {gu:Option (Nat × Bool)} {x y:Operand} {ss sb:Nat} {sz:Value}
end
end
section
variable {E:Env} {fr:Fr} {σ:Sto} {K:Post} {k:KS} {ops:Array Oper} {T:Tab} {c:AV} {t ty:TypeId} {pos:String} {af:Array Edge} {row:YWa}
end
theorem mixed:prog.follows .mixedOrders=true:=by kernel_rfl
def zca.sto(x:zca):Sto:=[(90000000,.cells [.s x.Client.Name,.s x.Client.Mail.Envelope.From,.l zba.pc x.Client.Mail.Envelope.To,.s x.Client.Mail.Envelope.Id,.l zga.pc x.Client.Mail.Message.Fields,.l cU x.Client.Mail.Message.Body,.bo x.Client.Pipelined,.l cU x.Client.Buffer,.i x.Client.Expected,.bo x.Client.Whole,.bo x.Client.Done,.hs 90000012 0,.l cU x.content,.bo x.chunk,.hs 90000015 0]),(90000012,.row 3 true 1 (List.map cI x.Client.Results)),(90000015,.row 5 false 1 (List.map cU x.out))]
def zda.sto(x:zda):Sto:=[(90002000,.cells [.s x.Server.Name,.i x.Server.Size,.i x.Server.Many,.i x.Server.Phase,.bo x.Server.Greeted,.bo x.Server.Mailing,.s x.Server.From,.l zba.pc x.Server.To,.hs 90002009 0,.hs 90002010 0,.i x.Server.Lost,.i x.Server.Dots,.bo x.Server.Chunked,.i x.Server.Left,.bo x.Server.Last,.bo x.Server.Ignore,.i x.Server.Count,.hs 90002018 0,.hs 90002019 0]),(90002009,.row 5 false 1 (List.map cU x.Server.Buffer)),(90002010,.row 5 false 1 (List.map cU x.Server.Data)),(90002018,.row 58 false 2 (List.map zra.pc x.replies)),(90002019,.row 30 false 5 (List.map zua.pc x.mails))]
def zma.sto(x:zma):Sto:=[(90006000,.cells [.s x.client.Name,.s x.client.Mail.Envelope.From,.l zba.pc x.client.Mail.Envelope.To,.s x.client.Mail.Envelope.Id,.l zga.pc x.client.Mail.Message.Fields,.l cU x.client.Mail.Message.Body,.bo x.client.Pipelined,.l cU x.client.Buffer,.i x.client.Expected,.bo x.client.Whole,.bo x.client.Done,.l cI x.client.Results,.s x.server.Name,.i x.server.Size,.i x.server.Many,.i x.server.Phase,.bo x.server.Greeted,.bo x.server.Mailing,.s x.server.From,.l zba.pc x.server.To,.l cU x.server.Buffer,.l cU x.server.Data,.i x.server.Lost,.i x.server.Dots,.bo x.server.Chunked,.i x.server.Left,.bo x.server.Last,.bo x.server.Ignore,.i x.server.Count,.hs 90006030 0,.hs 90006031 0,.hs 90006032 0]),(90006030,.row 5 false 1 (List.map cU x.down)),(90006031,.row 5 false 1 (List.map cU x.up)),(90006032,.row 30 false 5 (List.map zua.pc x.mails))]
theorem Y0a:wFb prog 135:=⟨by kernel_rfl,by kernel_rfl⟩
theorem w1a:wFb prog 34:=⟨by kernel_rfl,by kernel_rfl⟩
theorem kHb:wFb prog 84:=⟨by kernel_rfl,by kernel_rfl⟩
theorem Wxa:wFb prog 43:=⟨by kernel_rfl,by kernel_rfl⟩
theorem kIb (w : World) : Sem.run prog (Array.mapM (fun (f : Field) => do pure (f.offset, <- sizeOf f.type)) #[⟨"Name", 9, 0, false, "", "", 0⟩, ⟨"Mail", 30, 1, false, "", "", 16⟩, ⟨"Pipelined", 4, 6, false, "", "", 120⟩, ⟨"Buffer", 26, 7, false, "", "", 128⟩, ⟨"Expected", 3, 8, false, "", "", 152⟩, ⟨"Whole", 4, 9, false, "", "", 160⟩, ⟨"Done", 4, 10, false, "", "", 161⟩, ⟨"Results", 31, 11, false, "", "", 168⟩]) w = .ok #[(0, 1), (1, 5), (6, 1), (7, 1), (8, 1), (9, 1), (10, 1), (11, 1)] w := by kernel_rfl
theorem J5a (w : World) : Sem.run prog (Array.mapM (fun (f : Field) => do pure (f.offset, <- sizeOf f.type)) #[⟨"Verb", 3, 0, false, "", "", 0⟩, ⟨"Name", 9, 1, false, "", "", 8⟩, ⟨"Address", 9, 2, false, "", "", 24⟩, ⟨"Size", 3, 3, false, "", "", 40⟩, ⟨"Notify", 3, 4, false, "", "", 48⟩, ⟨"Last", 4, 5, false, "", "", 56⟩]) w = .ok #[(0, 1), (1, 1), (2, 1), (3, 1), (4, 1), (5, 1)] w := by kernel_rfl
theorem Y1a (w : World) : Sem.run prog (Array.mapM (fun (f : Field) => do pure (f.offset, <- sizeOf f.type)) #[⟨"From", 9, 0, false, "", "", 0⟩, ⟨"To", 22, 1, false, "", "", 16⟩, ⟨"Id", 9, 2, false, "", "", 40⟩]) w = .ok #[(0, 1), (1, 1), (2, 1)] w := by kernel_rfl
theorem q3b (w : World) : Sem.run prog (Array.mapM (fun (f : Field) => do pure (f.offset, <- sizeOf f.type)) #[⟨"Code", 3, 0, false, "", "", 0⟩, ⟨"Index", 3, 1, false, "", "", 8⟩]) w = .ok #[(0, 1), (1, 1)] w := by kernel_rfl
theorem q4b (w : World) : Sem.run prog (Array.mapM (fun (f : Field) => do pure (f.offset, <- sizeOf f.type)) #[⟨"Name", 9, 0, false, "", "", 0⟩, ⟨"Value", 9, 1, false, "", "", 16⟩]) w = .ok #[(0, 1), (1, 1)] w := by kernel_rfl
theorem wVb (w : World) : Sem.run prog (Array.mapM (fun (f : Field) => do pure (f.offset, <- sizeOf f.type)) #[⟨"Envelope", 24, 0, false, "", "", 0⟩, ⟨"Message", 28, 3, false, "", "", 56⟩]) w = .ok #[(0, 3), (3, 2)] w := by kernel_rfl
theorem J6a (w : World) : Sem.run prog (Array.mapM (fun (f : Field) => do pure (f.offset, <- sizeOf f.type)) #[⟨"Fields", 25, 0, false, "", "", 0⟩, ⟨"Body", 26, 1, false, "", "", 24⟩]) w = .ok #[(0, 1), (1, 1)] w := by kernel_rfl
theorem Yea (w : World) : Sem.run prog (Array.mapM (fun (f : Field) => do pure (f.offset, <- sizeOf f.type)) #[⟨"Address", 9, 0, false, "", "", 0⟩, ⟨"Notify", 3, 1, false, "", "", 16⟩]) w = .ok #[(0, 1), (1, 1)] w := by kernel_rfl
theorem q5b (w : World) : Sem.run prog (Array.mapM (fun (f : Field) => do pure (f.offset, <- sizeOf f.type)) #[⟨"Code", 3, 0, false, "", "", 0⟩, ⟨"Lines", 56, 1, false, "", "", 8⟩]) w = .ok #[(0, 1), (1, 1)] w := by kernel_rfl
theorem kJb (w : World) : Sem.run prog (Array.mapM (fun (f : Field) => do pure (f.offset, <- sizeOf f.type)) #[⟨"Name", 9, 0, false, "", "", 0⟩, ⟨"Size", 3, 1, false, "", "", 16⟩, ⟨"Many", 3, 2, false, "", "", 24⟩, ⟨"Phase", 3, 3, false, "", "", 32⟩, ⟨"Greeted", 4, 4, false, "", "", 40⟩, ⟨"Mailing", 4, 5, false, "", "", 41⟩, ⟨"From", 9, 6, false, "", "", 48⟩, ⟨"To", 22, 7, false, "", "", 64⟩, ⟨"Buffer", 26, 8, false, "", "", 88⟩, ⟨"Data", 26, 9, false, "", "", 112⟩, ⟨"Lost", 3, 10, false, "", "", 136⟩, ⟨"Dots", 3, 11, false, "", "", 144⟩, ⟨"Chunked", 4, 12, false, "", "", 152⟩, ⟨"Left", 3, 13, false, "", "", 160⟩, ⟨"Last", 4, 14, false, "", "", 168⟩, ⟨"Ignore", 4, 15, false, "", "", 169⟩, ⟨"Count", 3, 16, false, "", "", 176⟩]) w = .ok #[(0, 1), (1, 1), (2, 1), (3, 1), (4, 1), (5, 1), (6, 1), (7, 1), (8, 1), (9, 1), (10, 1), (11, 1), (12, 1), (13, 1), (14, 1), (15, 1), (16, 1)] w := by kernel_rfl
theorem Wya (w : World) : Sem.run prog (Array.mapM (fun (f : Field) => do pure (f.offset, <- sizeOf f.type)) #[⟨"Client", 50, 0, true, "", "", 0⟩, ⟨"content", 26, 12, false, "", "posthouse/client", 192⟩, ⟨"chunk", 4, 13, false, "", "posthouse/client", 216⟩, ⟨"out", 26, 14, false, "", "posthouse/client", 224⟩]) w = .ok #[(0, 12), (12, 1), (13, 1), (14, 1)] w := by kernel_rfl
theorem QIa (w : World) : Sem.run prog (Array.mapM (fun (f : Field) => do pure (f.offset, <- sizeOf f.type)) #[⟨"n", 3, 0, false, "", "posthouse/command", 0⟩, ⟨"word", 9, 1, false, "", "posthouse/command", 8⟩]) w = .ok #[(0, 1), (1, 1)] w := by kernel_rfl
theorem KHa (w : World) : Sem.run prog (Array.mapM (fun (f : Field) => do pure (f.offset, <- sizeOf f.type)) #[⟨"C", 50, 0, false, "", "", 0⟩, ⟨"Out", 26, 12, false, "", "", 192⟩]) w = .ok #[(0, 12), (12, 1)] w := by kernel_rfl
theorem Wza (w : World) : Sem.run prog (Array.mapM (fun (f : Field) => do pure (f.offset, <- sizeOf f.type)) #[⟨"Server", 55, 0, true, "", "", 0⟩, ⟨"replies", 68, 17, false, "", "posthouse/server", 184⟩, ⟨"mails", 32, 18, false, "", "posthouse/server", 208⟩]) w = .ok #[(0, 17), (17, 1), (18, 1)] w := by kernel_rfl
theorem q6b (w : World) : Sem.run prog (Array.mapM (fun (f : Field) => do pure (f.offset, <- sizeOf f.type)) #[⟨"client", 50, 0, false, "", "posthouse/wire", 0⟩, ⟨"server", 55, 12, false, "", "posthouse/wire", 192⟩, ⟨"down", 26, 29, false, "", "posthouse/wire", 376⟩, ⟨"up", 26, 30, false, "", "posthouse/wire", 400⟩, ⟨"mails", 32, 31, false, "", "posthouse/wire", 424⟩]) w = .ok #[(0, 12), (12, 17), (29, 1), (30, 1), (31, 1)] w := by kernel_rfl
theorem vta:TyOk prog 281 6 72 (.agg #[.int .i64 0,.string ⟨#[]⟩,.int .i64 0,.string ⟨#[]⟩,.int .i64 0,.string ⟨#[]⟩]) (.array 3 280):=⟨by kernel_rfl,by kernel_rfl⟩
theorem j9a:TyOk prog 183 8 128 (.agg #[.string ⟨#[]⟩,.string ⟨#[]⟩,.string ⟨#[]⟩,.string ⟨#[]⟩,.string ⟨#[]⟩,.string ⟨#[]⟩,.string ⟨#[]⟩,.string ⟨#[]⟩]) (.array 8 9):=⟨by kernel_rfl,by kernel_rfl⟩
theorem VOa : TyOk prog 50 12 192 (.agg #[.string ⟨#[]⟩, .string ⟨#[]⟩, .slice none 0 0, .string ⟨#[]⟩, .slice none 0 0, .slice none 0 0, .bool false, .slice none 0 0, .int .i64 0, .bool false, .bool false, .slice none 0 0]) (.struct #[⟨"Name", 9, 0, false, "", "", 0⟩, ⟨"Mail", 30, 1, false, "", "", 16⟩, ⟨"Pipelined", 4, 6, false, "", "", 120⟩, ⟨"Buffer", 26, 7, false, "", "", 128⟩, ⟨"Expected", 3, 8, false, "", "", 152⟩, ⟨"Whole", 4, 9, false, "", "", 160⟩, ⟨"Done", 4, 10, false, "", "", 161⟩, ⟨"Results", 31, 11, false, "", "", 168⟩]) := ⟨by kernel_rfl, by kernel_rfl⟩
theorem QYa : TyOk prog 135 6 64 (.agg #[.int .i64 0, .string ⟨#[]⟩, .string ⟨#[]⟩, .int .i64 0, .int .i64 0, .bool false]) (.struct #[⟨"Verb", 3, 0, false, "", "", 0⟩, ⟨"Name", 9, 1, false, "", "", 8⟩, ⟨"Address", 9, 2, false, "", "", 24⟩, ⟨"Size", 3, 3, false, "", "", 40⟩, ⟨"Notify", 3, 4, false, "", "", 48⟩, ⟨"Last", 4, 5, false, "", "", 56⟩]) := ⟨by kernel_rfl, by kernel_rfl⟩
theorem KIa : TyOk prog 24 3 56 (.agg #[.string ⟨#[]⟩, .slice none 0 0, .string ⟨#[]⟩]) (.struct #[⟨"From", 9, 0, false, "", "", 0⟩, ⟨"To", 22, 1, false, "", "", 16⟩, ⟨"Id", 9, 2, false, "", "", 40⟩]) := ⟨by kernel_rfl, by kernel_rfl⟩
theorem kPa : TyOk prog 34 2 16 (.agg #[.int .i64 0, .int .i64 0]) (.struct #[⟨"Code", 3, 0, false, "", "", 0⟩, ⟨"Index", 3, 1, false, "", "", 8⟩]) := ⟨by kernel_rfl, by kernel_rfl⟩
theorem vXa : TyOk prog 84 2 32 (.agg #[.string ⟨#[]⟩, .string ⟨#[]⟩]) (.struct #[⟨"Name", 9, 0, false, "", "", 0⟩, ⟨"Value", 9, 1, false, "", "", 16⟩]) := ⟨by kernel_rfl, by kernel_rfl⟩
theorem qUa : TyOk prog 30 5 104 (.agg #[.string ⟨#[]⟩, .slice none 0 0, .string ⟨#[]⟩, .slice none 0 0, .slice none 0 0]) (.struct #[⟨"Envelope", 24, 0, false, "", "", 0⟩, ⟨"Message", 28, 3, false, "", "", 56⟩]) := ⟨by kernel_rfl, by kernel_rfl⟩
theorem QZa : TyOk prog 28 2 48 (.agg #[.slice none 0 0, .slice none 0 0]) (.struct #[⟨"Fields", 25, 0, false, "", "", 0⟩, ⟨"Body", 26, 1, false, "", "", 24⟩]) := ⟨by kernel_rfl, by kernel_rfl⟩
theorem zxa : TyOk prog 43 2 24 (.agg #[.string ⟨#[]⟩, .int .i64 0]) (.struct #[⟨"Address", 9, 0, false, "", "", 0⟩, ⟨"Notify", 3, 1, false, "", "", 16⟩]) := ⟨by kernel_rfl, by kernel_rfl⟩
theorem q7b : TyOk prog 58 2 32 (.agg #[.int .i64 0, .slice none 0 0]) (.struct #[⟨"Code", 3, 0, false, "", "", 0⟩, ⟨"Lines", 56, 1, false, "", "", 8⟩]) := ⟨by kernel_rfl, by kernel_rfl⟩
theorem VPa : TyOk prog 55 17 184 (.agg #[.string ⟨#[]⟩, .int .i64 0, .int .i64 0, .int .i64 0, .bool false, .bool false, .string ⟨#[]⟩, .slice none 0 0, .slice none 0 0, .slice none 0 0, .int .i64 0, .int .i64 0, .bool false, .int .i64 0, .bool false, .bool false, .int .i64 0]) (.struct #[⟨"Name", 9, 0, false, "", "", 0⟩, ⟨"Size", 3, 1, false, "", "", 16⟩, ⟨"Many", 3, 2, false, "", "", 24⟩, ⟨"Phase", 3, 3, false, "", "", 32⟩, ⟨"Greeted", 4, 4, false, "", "", 40⟩, ⟨"Mailing", 4, 5, false, "", "", 41⟩, ⟨"From", 9, 6, false, "", "", 48⟩, ⟨"To", 22, 7, false, "", "", 64⟩, ⟨"Buffer", 26, 8, false, "", "", 88⟩, ⟨"Data", 26, 9, false, "", "", 112⟩, ⟨"Lost", 3, 10, false, "", "", 136⟩, ⟨"Dots", 3, 11, false, "", "", 144⟩, ⟨"Chunked", 4, 12, false, "", "", 152⟩, ⟨"Left", 3, 13, false, "", "", 160⟩, ⟨"Last", 4, 14, false, "", "", 168⟩, ⟨"Ignore", 4, 15, false, "", "", 169⟩, ⟨"Count", 3, 16, false, "", "", 176⟩]) := ⟨by kernel_rfl, by kernel_rfl⟩
theorem WAa:TyOk prog 4 1 1 (.bool false) .bool:=⟨by kernel_rfl,by kernel_rfl⟩
theorem WBa : TyOk prog 101 15 248 (.agg #[.string ⟨#[]⟩, .string ⟨#[]⟩, .slice none 0 0, .string ⟨#[]⟩, .slice none 0 0, .slice none 0 0, .bool false, .slice none 0 0, .int .i64 0, .bool false, .bool false, .slice none 0 0, .slice none 0 0, .bool false, .slice none 0 0]) (.struct #[⟨"Client", 50, 0, true, "", "", 0⟩, ⟨"content", 26, 12, false, "", "posthouse/client", 192⟩, ⟨"chunk", 4, 13, false, "", "posthouse/client", 216⟩, ⟨"out", 26, 14, false, "", "posthouse/client", 224⟩]) := ⟨by kernel_rfl, by kernel_rfl⟩
theorem wka : TyOk prog 280 2 24 (.agg #[.int .i64 0, .string ⟨#[]⟩]) (.struct #[⟨"n", 3, 0, false, "", "posthouse/command", 0⟩, ⟨"word", 9, 1, false, "", "posthouse/command", 8⟩]) := ⟨by kernel_rfl, by kernel_rfl⟩
theorem yXb : TyOk prog 210 1 16 (.nilIface) (.interface #[("Error", 299)]) := ⟨by kernel_rfl, by kernel_rfl⟩
theorem kQa:TyOk prog 3 1 8 (.int .i64 0) (.int .i64):=⟨by kernel_rfl,by kernel_rfl⟩
theorem ty_int32:TyOk prog 21 1 4 (.int .i32 0) (.int .i32):=⟨by kernel_rfl,by kernel_rfl⟩
theorem yxa:TyOk prog 251 1 8 (.map none) (.map 9 3):=⟨by kernel_rfl,by kernel_rfl⟩
theorem Vja:TyOk prog 124 1 8 (.pointer none) (.pointer 126):=⟨by kernel_rfl,by kernel_rfl⟩
theorem ZCa : TyOk prog 79 19 232 (.agg #[.string ⟨#[]⟩, .int .i64 0, .int .i64 0, .int .i64 0, .bool false, .bool false, .string ⟨#[]⟩, .slice none 0 0, .slice none 0 0, .slice none 0 0, .int .i64 0, .int .i64 0, .bool false, .int .i64 0, .bool false, .bool false, .int .i64 0, .slice none 0 0, .slice none 0 0]) (.struct #[⟨"S", 55, 0, false, "", "", 0⟩, ⟨"Replies", 68, 17, false, "", "", 184⟩, ⟨"Mails", 32, 18, false, "", "", 208⟩]) := ⟨by kernel_rfl, by kernel_rfl⟩
theorem KJa : TyOk prog 76 13 216 (.agg #[.string ⟨#[]⟩, .string ⟨#[]⟩, .slice none 0 0, .string ⟨#[]⟩, .slice none 0 0, .slice none 0 0, .bool false, .slice none 0 0, .int .i64 0, .bool false, .bool false, .slice none 0 0, .slice none 0 0]) (.struct #[⟨"C", 50, 0, false, "", "", 0⟩, ⟨"Out", 26, 12, false, "", "", 192⟩]) := ⟨by kernel_rfl, by kernel_rfl⟩
theorem qVa:TyOk prog 25 1 24 (.slice none 0 0) (.slice 84):=⟨by kernel_rfl,by kernel_rfl⟩
theorem kda:TyOk prog 32 1 24 (.slice none 0 0) (.slice 30):=⟨by kernel_rfl,by kernel_rfl⟩
theorem zha:TyOk prog 22 1 24 (.slice none 0 0) (.slice 43):=⟨by kernel_rfl,by kernel_rfl⟩
theorem J7a:TyOk prog 68 1 24 (.slice none 0 0) (.slice 58):=⟨by kernel_rfl,by kernel_rfl⟩
theorem q3a:TyOk prog 31 1 24 (.slice none 0 0) (.slice 3):=⟨by kernel_rfl,by kernel_rfl⟩
theorem q8b:TyOk prog 143 1 24 (.slice none 0 0) (.slice 26):=⟨by kernel_rfl,by kernel_rfl⟩
theorem Z4a:TyOk prog 56 1 24 (.slice none 0 0) (.slice 9):=⟨by kernel_rfl,by kernel_rfl⟩
theorem zja:TyOk prog 26 1 24 (.slice none 0 0) (.slice 5):=⟨by kernel_rfl,by kernel_rfl⟩
theorem WCa : TyOk prog 126 19 232 (.agg #[.string ⟨#[]⟩, .int .i64 0, .int .i64 0, .int .i64 0, .bool false, .bool false, .string ⟨#[]⟩, .slice none 0 0, .slice none 0 0, .slice none 0 0, .int .i64 0, .int .i64 0, .bool false, .int .i64 0, .bool false, .bool false, .int .i64 0, .slice none 0 0, .slice none 0 0]) (.struct #[⟨"Server", 55, 0, true, "", "", 0⟩, ⟨"replies", 68, 17, false, "", "posthouse/server", 184⟩, ⟨"mails", 32, 18, false, "", "posthouse/server", 208⟩]) := ⟨by kernel_rfl, by kernel_rfl⟩
theorem zGa:TyOk prog 9 1 16 (.string ⟨#[]⟩) .string:=⟨by kernel_rfl,by kernel_rfl⟩
theorem ty_uint:TyOk prog 169 1 8 (.int .u64 0) (.int .u64):=⟨by kernel_rfl,by kernel_rfl⟩
theorem K1b:TyOk prog 201 1 8 (.int .u64 0) (.int .u64):=⟨by kernel_rfl,by kernel_rfl⟩
theorem zCa:TyOk prog 5 1 1 (.int .u8 0) (.int .u8):=⟨by kernel_rfl,by kernel_rfl⟩
theorem q9b : TyOk prog 66 32 448 (.agg #[.string ⟨#[]⟩, .string ⟨#[]⟩, .slice none 0 0, .string ⟨#[]⟩, .slice none 0 0, .slice none 0 0, .bool false, .slice none 0 0, .int .i64 0, .bool false, .bool false, .slice none 0 0, .string ⟨#[]⟩, .int .i64 0, .int .i64 0, .int .i64 0, .bool false, .bool false, .string ⟨#[]⟩, .slice none 0 0, .slice none 0 0, .slice none 0 0, .int .i64 0, .int .i64 0, .bool false, .int .i64 0, .bool false, .bool false, .int .i64 0, .slice none 0 0, .slice none 0 0, .slice none 0 0]) (.struct #[⟨"client", 50, 0, false, "", "posthouse/wire", 0⟩, ⟨"server", 55, 12, false, "", "posthouse/wire", 192⟩, ⟨"down", 26, 29, false, "", "posthouse/wire", 376⟩, ⟨"up", 26, 30, false, "", "posthouse/wire", 400⟩, ⟨"mails", 32, 31, false, "", "posthouse/wire", 424⟩]) := ⟨by kernel_rfl, by kernel_rfl⟩
def tab : Tab := [(281, ⟨6, 72, (.agg #[.int .i64 0, .string ⟨#[]⟩, .int .i64 0, .string ⟨#[]⟩, .int .i64 0, .string ⟨#[]⟩]), (.array 3 280), none⟩), (183, ⟨8, 128, (.agg #[.string ⟨#[]⟩, .string ⟨#[]⟩, .string ⟨#[]⟩, .string ⟨#[]⟩, .string ⟨#[]⟩, .string ⟨#[]⟩, .string ⟨#[]⟩, .string ⟨#[]⟩]), (.array 8 9), none⟩), (50, ⟨12, 192, (.agg #[.string ⟨#[]⟩, .string ⟨#[]⟩, .slice none 0 0, .string ⟨#[]⟩, .slice none 0 0, .slice none 0 0, .bool false, .slice none 0 0, .int .i64 0, .bool false, .bool false, .slice none 0 0]), (.struct #[⟨"Name", 9, 0, false, "", "", 0⟩, ⟨"Mail", 30, 1, false, "", "", 16⟩, ⟨"Pipelined", 4, 6, false, "", "", 120⟩, ⟨"Buffer", 26, 7, false, "", "", 128⟩, ⟨"Expected", 3, 8, false, "", "", 152⟩, ⟨"Whole", 4, 9, false, "", "", 160⟩, ⟨"Done", 4, 10, false, "", "", 161⟩, ⟨"Results", 31, 11, false, "", "", 168⟩]), (some #[(0, 1), (1, 5), (6, 1), (7, 1), (8, 1), (9, 1), (10, 1), (11, 1)])⟩), (135, ⟨6, 64, (.agg #[.int .i64 0, .string ⟨#[]⟩, .string ⟨#[]⟩, .int .i64 0, .int .i64 0, .bool false]), (.struct #[⟨"Verb", 3, 0, false, "", "", 0⟩, ⟨"Name", 9, 1, false, "", "", 8⟩, ⟨"Address", 9, 2, false, "", "", 24⟩, ⟨"Size", 3, 3, false, "", "", 40⟩, ⟨"Notify", 3, 4, false, "", "", 48⟩, ⟨"Last", 4, 5, false, "", "", 56⟩]), (some #[(0, 1), (1, 1), (2, 1), (3, 1), (4, 1), (5, 1)])⟩), (24, ⟨3, 56, (.agg #[.string ⟨#[]⟩, .slice none 0 0, .string ⟨#[]⟩]), (.struct #[⟨"From", 9, 0, false, "", "", 0⟩, ⟨"To", 22, 1, false, "", "", 16⟩, ⟨"Id", 9, 2, false, "", "", 40⟩]), (some #[(0, 1), (1, 1), (2, 1)])⟩), (34, ⟨2, 16, (.agg #[.int .i64 0, .int .i64 0]), (.struct #[⟨"Code", 3, 0, false, "", "", 0⟩, ⟨"Index", 3, 1, false, "", "", 8⟩]), (some #[(0, 1), (1, 1)])⟩), (84, ⟨2, 32, (.agg #[.string ⟨#[]⟩, .string ⟨#[]⟩]), (.struct #[⟨"Name", 9, 0, false, "", "", 0⟩, ⟨"Value", 9, 1, false, "", "", 16⟩]), (some #[(0, 1), (1, 1)])⟩), (30, ⟨5, 104, (.agg #[.string ⟨#[]⟩, .slice none 0 0, .string ⟨#[]⟩, .slice none 0 0, .slice none 0 0]), (.struct #[⟨"Envelope", 24, 0, false, "", "", 0⟩, ⟨"Message", 28, 3, false, "", "", 56⟩]), (some #[(0, 3), (3, 2)])⟩), (28, ⟨2, 48, (.agg #[.slice none 0 0, .slice none 0 0]), (.struct #[⟨"Fields", 25, 0, false, "", "", 0⟩, ⟨"Body", 26, 1, false, "", "", 24⟩]), (some #[(0, 1), (1, 1)])⟩), (43, ⟨2, 24, (.agg #[.string ⟨#[]⟩, .int .i64 0]), (.struct #[⟨"Address", 9, 0, false, "", "", 0⟩, ⟨"Notify", 3, 1, false, "", "", 16⟩]), (some #[(0, 1), (1, 1)])⟩), (58, ⟨2, 32, (.agg #[.int .i64 0, .slice none 0 0]), (.struct #[⟨"Code", 3, 0, false, "", "", 0⟩, ⟨"Lines", 56, 1, false, "", "", 8⟩]), (some #[(0, 1), (1, 1)])⟩), (55, ⟨17, 184, (.agg #[.string ⟨#[]⟩, .int .i64 0, .int .i64 0, .int .i64 0, .bool false, .bool false, .string ⟨#[]⟩, .slice none 0 0, .slice none 0 0, .slice none 0 0, .int .i64 0, .int .i64 0, .bool false, .int .i64 0, .bool false, .bool false, .int .i64 0]), (.struct #[⟨"Name", 9, 0, false, "", "", 0⟩, ⟨"Size", 3, 1, false, "", "", 16⟩, ⟨"Many", 3, 2, false, "", "", 24⟩, ⟨"Phase", 3, 3, false, "", "", 32⟩, ⟨"Greeted", 4, 4, false, "", "", 40⟩, ⟨"Mailing", 4, 5, false, "", "", 41⟩, ⟨"From", 9, 6, false, "", "", 48⟩, ⟨"To", 22, 7, false, "", "", 64⟩, ⟨"Buffer", 26, 8, false, "", "", 88⟩, ⟨"Data", 26, 9, false, "", "", 112⟩, ⟨"Lost", 3, 10, false, "", "", 136⟩, ⟨"Dots", 3, 11, false, "", "", 144⟩, ⟨"Chunked", 4, 12, false, "", "", 152⟩, ⟨"Left", 3, 13, false, "", "", 160⟩, ⟨"Last", 4, 14, false, "", "", 168⟩, ⟨"Ignore", 4, 15, false, "", "", 169⟩, ⟨"Count", 3, 16, false, "", "", 176⟩]), (some #[(0, 1), (1, 1), (2, 1), (3, 1), (4, 1), (5, 1), (6, 1), (7, 1), (8, 1), (9, 1), (10, 1), (11, 1), (12, 1), (13, 1), (14, 1), (15, 1), (16, 1)])⟩), (4, ⟨1, 1, (.bool false), .bool, none⟩), (101, ⟨15, 248, (.agg #[.string ⟨#[]⟩, .string ⟨#[]⟩, .slice none 0 0, .string ⟨#[]⟩, .slice none 0 0, .slice none 0 0, .bool false, .slice none 0 0, .int .i64 0, .bool false, .bool false, .slice none 0 0, .slice none 0 0, .bool false, .slice none 0 0]), (.struct #[⟨"Client", 50, 0, true, "", "", 0⟩, ⟨"content", 26, 12, false, "", "posthouse/client", 192⟩, ⟨"chunk", 4, 13, false, "", "posthouse/client", 216⟩, ⟨"out", 26, 14, false, "", "posthouse/client", 224⟩]), (some #[(0, 12), (12, 1), (13, 1), (14, 1)])⟩), (280, ⟨2, 24, (.agg #[.int .i64 0, .string ⟨#[]⟩]), (.struct #[⟨"n", 3, 0, false, "", "posthouse/command", 0⟩, ⟨"word", 9, 1, false, "", "posthouse/command", 8⟩]), (some #[(0, 1), (1, 1)])⟩), (210, ⟨1, 16, (.nilIface), (.interface #[("Error", 299)]), none⟩), (3, ⟨1, 8, (.int .i64 0), (.int .i64), none⟩), (21, ⟨1, 4, (.int .i32 0), (.int .i32), none⟩), (251, ⟨1, 8, (.map none), (.map 9 3), none⟩), (124, ⟨1, 8, (.pointer none), (.pointer 126), none⟩), (79, ⟨19, 232, (.agg #[.string ⟨#[]⟩, .int .i64 0, .int .i64 0, .int .i64 0, .bool false, .bool false, .string ⟨#[]⟩, .slice none 0 0, .slice none 0 0, .slice none 0 0, .int .i64 0, .int .i64 0, .bool false, .int .i64 0, .bool false, .bool false, .int .i64 0, .slice none 0 0, .slice none 0 0]), (.struct #[⟨"S", 55, 0, false, "", "", 0⟩, ⟨"Replies", 68, 17, false, "", "", 184⟩, ⟨"Mails", 32, 18, false, "", "", 208⟩]), none⟩), (76, ⟨13, 216, (.agg #[.string ⟨#[]⟩, .string ⟨#[]⟩, .slice none 0 0, .string ⟨#[]⟩, .slice none 0 0, .slice none 0 0, .bool false, .slice none 0 0, .int .i64 0, .bool false, .bool false, .slice none 0 0, .slice none 0 0]), (.struct #[⟨"C", 50, 0, false, "", "", 0⟩, ⟨"Out", 26, 12, false, "", "", 192⟩]), (some #[(0, 12), (12, 1)])⟩), (25, ⟨1, 24, (.slice none 0 0), (.slice 84), none⟩), (32, ⟨1, 24, (.slice none 0 0), (.slice 30), none⟩), (22, ⟨1, 24, (.slice none 0 0), (.slice 43), none⟩), (68, ⟨1, 24, (.slice none 0 0), (.slice 58), none⟩), (31, ⟨1, 24, (.slice none 0 0), (.slice 3), none⟩), (143, ⟨1, 24, (.slice none 0 0), (.slice 26), none⟩), (56, ⟨1, 24, (.slice none 0 0), (.slice 9), none⟩), (26, ⟨1, 24, (.slice none 0 0), (.slice 5), none⟩), (126, ⟨19, 232, (.agg #[.string ⟨#[]⟩, .int .i64 0, .int .i64 0, .int .i64 0, .bool false, .bool false, .string ⟨#[]⟩, .slice none 0 0, .slice none 0 0, .slice none 0 0, .int .i64 0, .int .i64 0, .bool false, .int .i64 0, .bool false, .bool false, .int .i64 0, .slice none 0 0, .slice none 0 0]), (.struct #[⟨"Server", 55, 0, true, "", "", 0⟩, ⟨"replies", 68, 17, false, "", "posthouse/server", 184⟩, ⟨"mails", 32, 18, false, "", "posthouse/server", 208⟩]), (some #[(0, 17), (17, 1), (18, 1)])⟩), (9, ⟨1, 16, (.string ⟨#[]⟩), .string, none⟩), (169, ⟨1, 8, (.int .u64 0), (.int .u64), none⟩), (201, ⟨1, 8, (.int .u64 0), (.int .u64), none⟩), (5, ⟨1, 1, (.int .u8 0), (.int .u8), none⟩), (66, ⟨32, 448, (.agg #[.string ⟨#[]⟩, .string ⟨#[]⟩, .slice none 0 0, .string ⟨#[]⟩, .slice none 0 0, .slice none 0 0, .bool false, .slice none 0 0, .int .i64 0, .bool false, .bool false, .slice none 0 0, .string ⟨#[]⟩, .int .i64 0, .int .i64 0, .int .i64 0, .bool false, .bool false, .string ⟨#[]⟩, .slice none 0 0, .slice none 0 0, .slice none 0 0, .int .i64 0, .int .i64 0, .bool false, .int .i64 0, .bool false, .bool false, .int .i64 0, .slice none 0 0, .slice none 0 0, .slice none 0 0]), (.struct #[⟨"client", 50, 0, false, "", "posthouse/wire", 0⟩, ⟨"server", 55, 12, false, "", "posthouse/wire", 192⟩, ⟨"down", 26, 29, false, "", "posthouse/wire", 376⟩, ⟨"up", 26, 30, false, "", "posthouse/wire", 400⟩, ⟨"mails", 32, 31, false, "", "posthouse/wire", 424⟩]), (some #[(0, 12), (12, 17), (29, 1), (30, 1), (31, 1)])⟩)]
theorem tk:kca prog tab:=(qaa vta (qaa j9a (qxa VOa kIb (qxa QYa J5a (qxa KIa Y1a (qxa kPa q3b (qxa vXa q4b (qxa qUa wVb (qxa QZa J6a (qxa zxa Yea (qxa q7b q5b (qxa VPa kJb (qaa WAa (qxa WBa Wya (qxa wka QIa (qaa yXb (qaa kQa (qaa ty_int32 (qaa yxa (qaa Vja (qaa ZCa (qxa KJa KHa (qaa qVa (qaa kda (qaa zha (qaa J7a (qaa q3a (qaa q8b (qaa Z4a (qaa zja (qxa WCa Wza (qaa zGa (qaa ty_uint (qaa K1b (qaa zCa (qxa q9b q6b tab_nil))))))))))))))))))))))))))))))))))))
def zqa.ok(x:zqa):Prop:=ok64 x.Code/\ok64 x.Index
def zqa.bk(x:zqa):Nat:=(fun _=>1) x.Code+(fun _=>1) x.Index+1
instance:Inhabited zqa:=⟨⟨default,default⟩⟩
def j8a.ok(x:j8a):Prop:=QGa x.Address/\(okL QGa) x.To
def j8a.bk(x:j8a):Nat:=(fun s=>s.length+1) x.Address+(bkL (fun s=>s.length+1)) x.To+1
instance:Inhabited j8a:=⟨⟨default,default⟩⟩
def zba.ok(x:zba):Prop:=QGa x.Address/\ok64 x.Notify
def zba.bk(x:zba):Nat:=(fun s=>s.length+1) x.Address+(fun _=>1) x.Notify+1
instance:Inhabited zba:=⟨⟨default,default⟩⟩
def zFa.ok(x:zFa):Prop:=QGa x.From/\(okL zba.ok) x.To/\QGa x.Id
def zFa.bk(x:zFa):Nat:=(fun s=>s.length+1) x.From+(bkL zba.bk) x.To+(fun s=>s.length+1) x.Id+1
instance:Inhabited zFa:=⟨⟨default,default,default⟩⟩
def zga.ok(x:zga):Prop:=QGa x.Name/\QGa x.Value
def zga.bk(x:zga):Nat:=(fun s=>s.length+1) x.Name+(fun s=>s.length+1) x.Value+1
instance:Inhabited zga:=⟨⟨default,default⟩⟩
def zta.ok(x:zta):Prop:=(okL zga.ok) x.Fields/\(okL (fun _=>True)) x.Body
def zta.bk(x:zta):Nat:=(bkL zga.bk) x.Fields+(bkL (fun _=>1)) x.Body+1
instance:Inhabited zta:=⟨⟨default,default⟩⟩
def zua.ok(x:zua):Prop:=zFa.ok x.Envelope/\zta.ok x.Message
def zua.bk(x:zua):Nat:=zFa.bk x.Envelope+zta.bk x.Message+1
instance:Inhabited zua:=⟨⟨default,default⟩⟩
def zra.ok(x:zra):Prop:=ok64 x.Code/\(okL QGa) x.Lines
def zra.bk(x:zra):Nat:=(fun _=>1) x.Code+(bkL (fun s=>s.length+1)) x.Lines+1
instance:Inhabited zra:=⟨⟨default,default⟩⟩
def zfa.ok(x:zfa):Prop:=ok64 x.Verb/\QGa x.Name/\QGa x.Address/\ok64 x.Size/\ok64 x.Notify/\(fun _=>True) x.Last
def zfa.bk(x:zfa):Nat:=(fun _=>1) x.Verb+(fun s=>s.length+1) x.Name+(fun s=>s.length+1) x.Address+(fun _=>1) x.Size+(fun _=>1) x.Notify+(fun _=>1) x.Last+1
instance:Inhabited zfa:=⟨⟨default,default,default,default,default,default⟩⟩
def zla.ok(x:zla):Prop:=ok64 x.n/\QGa x.word
def zla.bk(x:zla):Nat:=(fun _=>1) x.n+(fun s=>s.length+1) x.word+1
instance:Inhabited zla:=⟨⟨default,default⟩⟩
def zna.ok(x:zna):Prop:=QGa x.Name/\zua.ok x.Mail/\(fun _=>True) x.Pipelined/\(okL (fun _=>True)) x.Buffer/\ok64 x.Expected/\(fun _=>True) x.Whole/\(fun _=>True) x.Done/\(okL ok64) x.Results
def zna.bk(x:zna):Nat:=(fun s=>s.length+1) x.Name+zua.bk x.Mail+(fun _=>1) x.Pipelined+(bkL (fun _=>1)) x.Buffer+(fun _=>1) x.Expected+(fun _=>1) x.Whole+(fun _=>1) x.Done+(bkL (fun _=>1)) x.Results+1
instance:Inhabited zna:=⟨⟨default,default,default,default,default,default,default,default⟩⟩
def zca.ok(x:zca):Prop:=zna.ok x.Client/\(okL (fun _=>True)) x.content/\(fun _=>True) x.chunk/\(okL (fun _=>True)) x.out
def zca.bk(x:zca):Nat:=zna.bk x.Client+(bkL (fun _=>1)) x.content+(fun _=>1) x.chunk+(bkL (fun _=>1)) x.out+1
instance:Inhabited zca:=⟨⟨default,default,default,default⟩⟩
def z9a.ok(x:z9a):Prop:=zna.ok x.C/\(okL (fun _=>True)) x.Out
def z9a.bk(x:z9a):Nat:=zna.bk x.C+(bkL (fun _=>1)) x.Out+1
instance:Inhabited z9a:=⟨⟨default,default⟩⟩
def zsa.ok(x:zsa):Prop:=QGa x.Name/\ok64 x.Size/\ok64 x.Many/\ok64 x.Phase/\(fun _=>True) x.Greeted/\(fun _=>True) x.Mailing/\QGa x.From/\(okL zba.ok) x.To/\(okL (fun _=>True)) x.Buffer/\(okL (fun _=>True)) x.Data/\ok64 x.Lost/\ok64 x.Dots/\(fun _=>True) x.Chunked/\ok64 x.Left/\(fun _=>True) x.Last/\(fun _=>True) x.Ignore/\ok64 x.Count
def zsa.bk(x:zsa):Nat:=(fun s=>s.length+1) x.Name+(fun _=>1) x.Size+(fun _=>1) x.Many+(fun _=>1) x.Phase+(fun _=>1) x.Greeted+(fun _=>1) x.Mailing+(fun s=>s.length+1) x.From+(bkL zba.bk) x.To+(bkL (fun _=>1)) x.Buffer+(bkL (fun _=>1)) x.Data+(fun _=>1) x.Lost+(fun _=>1) x.Dots+(fun _=>1) x.Chunked+(fun _=>1) x.Left+(fun _=>1) x.Last+(fun _=>1) x.Ignore+(fun _=>1) x.Count+1
instance:Inhabited zsa:=⟨⟨default,default,default,default,default,default,default,default,default,default,default,default,default,default,default,default,default⟩⟩
def zda.ok(x:zda):Prop:=zsa.ok x.Server/\(okL zra.ok) x.replies/\(okL zua.ok) x.mails
def zda.bk(x:zda):Nat:=zsa.bk x.Server+(bkL zra.bk) x.replies+(bkL zua.bk) x.mails+1
instance:Inhabited zda:=⟨⟨default,default,default⟩⟩
def zSa.ok(x:zSa):Prop:=zsa.ok x.S/\(okL zra.ok) x.Replies/\(okL zua.ok) x.Mails
def zSa.bk(x:zSa):Nat:=zsa.bk x.S+(bkL zra.bk) x.Replies+(bkL zua.bk) x.Mails+1
instance:Inhabited zSa:=⟨⟨default,default,default⟩⟩
def zma.ok(x:zma):Prop:=zna.ok x.client/\zsa.ok x.server/\(okL (fun _=>True)) x.down/\(okL (fun _=>True)) x.up/\(okL zua.ok) x.mails
def zma.bk(x:zma):Nat:=zna.bk x.client+zsa.bk x.server+(bkL (fun _=>1)) x.down+(bkL (fun _=>1)) x.up+(bkL zua.bk) x.mails+1
instance:Inhabited zma:=⟨⟨default,default,default,default,default⟩⟩
theorem wpa:Zla prog 9 1 cS QGa (fun s=>s.length+1):=opens_S zGa.u (by kernel_rfl)
theorem vab:Zla prog 3 1 cI ok64 (fun _=>1):=opens_I kQa.u (by kernel_rfl)
theorem Yfa:Zla prog 43 2 zba.pc zba.ok zba.bk:=⟨by kernel_rfl,fun _=>rfl,fun {H enc W fuel cs d} h=>by
 obtain ⟨xs,n,_,rfl,hl,hlen,hf⟩:=DataW.trod_struct zxa.u h;have hl2:cs.length=2:=hl.trans (by kernel_rfl)
 match xs,hlen with
 | [y0,y1],_=>
  obtain ⟨x0,r0,o0,b0⟩:=wpa.op (show _=some y0 from hf 0 _ rfl)
  replace r0:RelC W _ (List.take (prog.cellsOf 9) (List.drop 0 cs)):=r0
  rw[wpa.cells]at r0;obtain ⟨x1,r1,o1,b1⟩:=vab.op (show _=some y1 from hf 1 _ rfl)
  replace r1:RelC W _ (List.take (prog.cellsOf 3) (List.drop 1 cs)):=r1
  rw[vab.cells]at r1;exact ⟨⟨x0,x1⟩,(w0a (off:=0) rfl r0 (w0a (off:=1) rfl r1 (VMa hl2))),⟨o0,o1⟩,by simp only[List.map,Rows.uptoBulk,Rows.uptoBulkAll,zba.bk];omega⟩⟩
theorem Zaa:Zla prog 22 1 (cL zba.pc) (okL zba.ok) (bkL zba.bk):=kzb Yfa rfl zha.u (by kernel_rfl)
theorem KKa:Zla prog 24 3 zFa.pc zFa.ok zFa.bk:=⟨by kernel_rfl,fun _=>rfl,fun {H enc W fuel cs d} h=>by
 obtain ⟨xs,n,_,rfl,hl,hlen,hf⟩:=DataW.trod_struct KIa.u h;have hl2:cs.length=3:=hl.trans (by kernel_rfl)
 match xs,hlen with
 | [y0,y1,y2],_=>
  obtain ⟨x0,r0,o0,b0⟩:=wpa.op (show _=some y0 from hf 0 _ rfl)
  replace r0:RelC W _ (List.take (prog.cellsOf 9) (List.drop 0 cs)):=r0
  rw[wpa.cells]at r0;obtain ⟨x1,r1,o1,b1⟩:=Zaa.op (show _=some y1 from hf 1 _ rfl)
  replace r1:RelC W _ (List.take (prog.cellsOf 22) (List.drop 1 cs)):=r1
  rw[Zaa.cells]at r1;obtain ⟨x2,r2,o2,b2⟩:=wpa.op (show _=some y2 from hf 2 _ rfl)
  replace r2:RelC W _ (List.take (prog.cellsOf 9) (List.drop 2 cs)):=r2
  rw[wpa.cells]at r2;exact ⟨⟨x0,x1,x2⟩,(w0a (off:=0) rfl r0 (w0a (off:=1) rfl r1 (w0a (off:=2) rfl r2 (VMa hl2)))),⟨o0,o1,o2⟩,by simp only[List.map,Rows.uptoBulk,Rows.uptoBulkAll,zFa.bk];omega⟩⟩
theorem vbb:Zla prog 84 2 zga.pc zga.ok zga.bk:=⟨by kernel_rfl,fun _=>rfl,fun {H enc W fuel cs d} h=>by
 obtain ⟨xs,n,_,rfl,hl,hlen,hf⟩:=DataW.trod_struct vXa.u h;have hl2:cs.length=2:=hl.trans (by kernel_rfl)
 match xs,hlen with
 | [y0,y1],_=>
  obtain ⟨x0,r0,o0,b0⟩:=wpa.op (show _=some y0 from hf 0 _ rfl)
  replace r0:RelC W _ (List.take (prog.cellsOf 9) (List.drop 0 cs)):=r0
  rw[wpa.cells]at r0;obtain ⟨x1,r1,o1,b1⟩:=wpa.op (show _=some y1 from hf 1 _ rfl)
  replace r1:RelC W _ (List.take (prog.cellsOf 9) (List.drop 1 cs)):=r1
  rw[wpa.cells]at r1;exact ⟨⟨x0,x1⟩,(w0a (off:=0) rfl r0 (w0a (off:=1) rfl r1 (VMa hl2))),⟨o0,o1⟩,by simp only[List.map,Rows.uptoBulk,Rows.uptoBulkAll,zga.bk];omega⟩⟩
theorem Q0a:Zla prog 25 1 (cL zga.pc) (okL zga.ok) (bkL zga.bk):=kzb vbb rfl qVa.u (by kernel_rfl)
theorem op_uint8:Zla prog 5 1 cU (fun _=>True) (fun _=>1):=opens_U zCa.u (by kernel_rfl)
theorem zCb:Zla prog 26 1 (cL cU) (okL (fun _=>True)) (bkL (fun _=>1)):=kzb op_uint8 rfl zja.u (by kernel_rfl)
theorem Q1a:Zla prog 28 2 zta.pc zta.ok zta.bk:=⟨by kernel_rfl,fun _=>rfl,fun {H enc W fuel cs d} h=>by
 obtain ⟨xs,n,_,rfl,hl,hlen,hf⟩:=DataW.trod_struct QZa.u h;have hl2:cs.length=2:=hl.trans (by kernel_rfl)
 match xs,hlen with
 | [y0,y1],_=>
  obtain ⟨x0,r0,o0,b0⟩:=Q0a.op (show _=some y0 from hf 0 _ rfl)
  replace r0:RelC W _ (List.take (prog.cellsOf 25) (List.drop 0 cs)):=r0
  rw[Q0a.cells]at r0;obtain ⟨x1,r1,o1,b1⟩:=zCb.op (show _=some y1 from hf 1 _ rfl)
  replace r1:RelC W _ (List.take (prog.cellsOf 26) (List.drop 1 cs)):=r1
  rw[zCb.cells]at r1;exact ⟨⟨x0,x1⟩,(w0a (off:=0) rfl r0 (w0a (off:=1) rfl r1 (VMa hl2))),⟨o0,o1⟩,by simp only[List.map,Rows.uptoBulk,Rows.uptoBulkAll,zta.bk];omega⟩⟩
theorem wWb:Zla prog 30 5 zua.pc zua.ok zua.bk:=⟨by kernel_rfl,fun _=>rfl,fun {H enc W fuel cs d} h=>by
 obtain ⟨xs,n,_,rfl,hl,hlen,hf⟩:=DataW.trod_struct qUa.u h;have hl2:cs.length=5:=hl.trans (by kernel_rfl)
 match xs,hlen with
 | [y0,y1],_=>
  obtain ⟨x0,r0,o0,b0⟩:=KKa.op (show _=some y0 from hf 0 _ rfl)
  replace r0:RelC W _ (List.take (prog.cellsOf 24) (List.drop 0 cs)):=r0
  rw[KKa.cells]at r0;obtain ⟨x1,r1,o1,b1⟩:=Q1a.op (show _=some y1 from hf 1 _ rfl)
  replace r1:RelC W _ (List.take (prog.cellsOf 28) (List.drop 3 cs)):=r1
  rw[Q1a.cells]at r1;exact ⟨⟨x0,x1⟩,(w0a (off:=0) rfl r0 (w0a (off:=3) rfl r1 (VMa hl2))),⟨o0,o1⟩,by simp only[List.map,Rows.uptoBulk,Rows.uptoBulkAll,zua.bk];omega⟩⟩
theorem op_bool:Zla prog 4 1 cB (fun _=>True) (fun _=>1):=opens_B WAa.u (by kernel_rfl)
theorem op_s_int:Zla prog 31 1 (cL cI) (okL ok64) (bkL (fun _=>1)):=kzb vab rfl q3a.u (by kernel_rfl)
def R_At(a0:Int)(a1:Int):Option zqa:=
 some ((zqa.mk a0 a1))
def zka(a0:Int)(a1:Int):Option zqa:=
 some ((zqa.mk a0 a1))
def zHa:Option zqa:=
 some ((zqa.mk 0 0))
def zDa(a0:zqa):Option Bool:=
 some ((a0.Code !=0))
def wLa(a0:UInt8):Option Bool:=
 ((bif decide (97<=(a0.toNat:Int)) then (bif decide ((a0.toNat:Int)<=122) then some true else (bif decide (65<=(a0.toNat:Int)) then (bif decide ((a0.toNat:Int)<=90) then some true else (bif decide (48<=(a0.toNat:Int)) then some (decide ((a0.toNat:Int)<=57)) else some false)) else (bif decide (48<=(a0.toNat:Int)) then some (decide ((a0.toNat:Int)<=57)) else some false))) else (bif decide (65<=(a0.toNat:Int)) then (bif decide ((a0.toNat:Int)<=90) then some true else (bif decide (48<=(a0.toNat:Int)) then some (decide ((a0.toNat:Int)<=57)) else some false)) else (bif decide (48<=(a0.toNat:Int)) then some (decide ((a0.toNat:Int)<=57)) else some false))):Option Bool).bind fun (j1:Bool)=>some j1
def vua(a0:List UInt8)(a1:List UInt8):Option Bool:=
 some ((a0==a1))
def qya(a0:List UInt8)(a1:List UInt8):Option Bool:=
 ((bif decide ((a1.length:Int)<=(a0.length:Int)) then (cut a0 0 ((a1.length:Int))).bind fun v3=>(vua v3 a1).bind fun v5=>some v5 else some false):Option Bool).bind fun (j1:Bool)=>some j1
def zZa(a0:List UInt8)(a1:List UInt8):Option Bool:=
 ((bif decide ((a1.length:Int)<=(a0.length:Int)) then (cut a0 ((w64 ((a0.length:Int) - (a1.length:Int)))) ((a0.length:Int))).bind fun v3=>(vua v3 a1).bind fun v5=>some v5 else some false):Option Bool).bind fun (j1:Bool)=>some j1
def qWa(a b:List UInt8):Option Int:=if a.length < 4294967281/\b.length=2 then some (Lib.index a b) else none
def z1a(s:Str)(c:UInt8):Option Int:=some (Lib.indexByte s c)
def qga(s t:Str):Option Bool:=if s.length < 4294967281 then some (Lib.contains s t) else none
def vva(s t:Str):Option (Str × Str × Bool):=if s.length < 4294967281 then some (Lib.cut s t) else none
def kZa(a0:Int):Option Bool:=
 ((bif decide (0<=a0) then some (decide (a0 < 55296)) else some false):Option Bool).bind fun (j1:Bool)=>(bif j1 then some true else ((bif decide (57343 < a0) then some (decide (a0<=1114111)) else some false):Option Bool).bind fun (j4:Bool)=>(bif j4 then some true else some false))
def q4a(a0:Str)(s7:Nat):Option (Step Nat (Unit ⊕ Int)):=
 (bif decide (s7 < a0.length) then (bif ((QXa a0 s7)==65533) then some (.out (.inr (((s7:Nat):Int)))) else some (.cont (s7+ZAa a0 s7))) else some (.out (.inl (()))))
def jaa(a0:Str)(a1:Int)(j23:Int × Int)(s36:Int):Option (Step Int Unit):=
 (bif decide (s36 < (((Zka a1)).length:Int)) then (idx a0 ((w64 (j23.2 - s36)))).bind fun v40=>(idx ((Zka a1)) ((w64 (j23.1 - s36)))).bind fun v42=>(bif ((v40.toNat:Int) !=(v42.toNat:Int)) then none else some (.cont (w64 (s36+1)))) else some (.out (())))
noncomputable def q5a(a0:Str)(a1:Int)(j23:Int × Int):Option (Step Int (Unit ⊕ Int)):=
 (iter (jaa a0 a1 j23) 1).bind fun b37=>some (.out (.inr ((w64 (j23.2 - j23.1)))))
noncomputable def q6a(a0:Str)(a1:Int)(s17:Int):Option (Step Int (Unit ⊕ Int)):=
 (bif decide (s17 < (a0.length:Int)) then (idx a0 s17).bind fun v24=>(idx ((Zka a1)) ((w64 ((((Zka a1)).length:Int) - 1)))).bind fun v26=>(bif ((v24.toNat:Int) !=(v26.toNat:Int)) then (cut a0 ((w64 (s17+1))) ((a0.length:Int))).bind fun v29=>(idx ((Zka a1)) ((w64 ((((Zka a1)).length:Int) - 1)))).bind fun v31=>(z1a v29 v31).bind fun v33=>(bif decide (v33 < 0) then some (.out (.inr ((-1)))) else (q5a a0 a1 ((w64 ((((Zka a1)).length:Int) - 1)),(w64 (s17+(w64 (v33+1))))))) else (q5a a0 a1 ((w64 ((((Zka a1)).length:Int) - 1)),s17))) else some (.out (.inl (()))))
noncomputable def kDa(a0:Str)(a1:Int):Option Int:=
 ((bif decide (0<=a1) then some (decide (a1 < 128)) else some false):Option Bool).bind fun (j1:Bool)=>(bif j1 then (z1a a0 ((toU8 a1))).bind fun v4=>some v4 else (bif (a1==65533) then (iter (q4a a0) 0).bind (Sum.elim (fun b8=>some ((-1))) (fun b9=>some b9)) else (kZa a1).bind fun v14=>(bif (!v14) then some ((-1)) else (iter (q6a a0 a1) ((w64 ((((Zka a1)).length:Int) - 1)))).bind (Sum.elim (fun b18=>some ((-1))) (fun b19=>some b19)))))
def zQa(a0:Int):Option Bool:=
 some (decide (8 < a0))
noncomputable def q7a(a0:Str)(a1:Str)(s12:Nat):Option (Step Nat (Unit ⊕ Int)):=
 (bif decide (s12 < a0.length) then (kDa a1 ((QXa a0 s12))).bind fun v18=>(bif decide (0<=v18) then some (.out (.inr (((s12:Nat):Int)))) else some (.cont (s12+ZAa a0 s12))) else some (.out (.inl (()))))
noncomputable def wca(a0:Str)(a1:Str):Option Int:=
 (bif (a1==([]:Str)) then some ((-1)) else (bif ((a1.length:Int)==1) then (idx a1 0).bind fun v3=>((bif decide (128<=(v3.toNat:Int)) then some 65533 else some ((v3.toNat:Int))):Option Int).bind fun (j5:Int)=>(kDa a0 j5).bind fun v7=>some v7 else (zQa ((a0.length:Int))).bind fun v9=>(bif v9 then none else (iter (q7a a0 a1) 0).bind (Sum.elim (fun b13=>some ((-1))) (fun b14=>some b14)))))
def zDb(t:Str):Bool:=t.all fun c=>decide (c.toNat < 128)
def qLa(s t:Str):Option Int:=if s.length < 4294967281/\t.length < 4294967281/\2<=t.length/\zDb t=true then some (Lib.indexAny s t) else none
def qXa(a0:List UInt8)(s11:Int × (List UInt8)):Option (Step (Int × (List UInt8)) (List UInt8)):=
 (cut a0 s11.1 ((a0.length:Int))).bind fun v14=>(qWa v14 (([(13:UInt8),(10:UInt8)]:List UInt8))).bind fun v16=>((bif decide (v16 < 0) then some ((true,s11.2)) else (cut a0 s11.1 ((w64 (s11.1+v16)))).bind fun v20=>((qya v20 (([(46:UInt8)]:List UInt8))).bind fun v23=>(bif v23 then (app 140737488355328 s11.2 (([(46:UInt8)]:List UInt8))).bind fun v26=>some v26 else some s11.2):Option (List UInt8)).bind fun (j22:List UInt8)=>(app 140737488355328 j22 v20).bind fun v28=>(app 140737488355328 v28 (([13,10]:Str))).bind fun v30=>some ((false,v30))):Option (Bool × (List UInt8))).bind fun (j18:Bool × (List UInt8))=>(bif j18.1 then some (.out j18.2) else some (.cont ((w64 (s11.1+(w64 (v16+2)))),j18.2)))
noncomputable def wGa(a0:List UInt8):Option ((List UInt8) × zqa):=
 (bif decide (12000 < (a0.length:Int)) then (zka 1 ((-1))).bind fun v2=>some ((([]:List UInt8),v2)) else ((bif decide (0 < (a0.length:Int)) then (zZa a0 (([(13:UInt8),(10:UInt8)]:List UInt8))).bind fun v6=>some ((!v6)) else some false):Option Bool).bind fun (j4:Bool)=>(bif j4 then (zka 5 ((-2))).bind fun v9=>some ((([]:List UInt8),v9)) else (iter (qXa a0) ((0,([]:List UInt8)))).bind fun b12=>(app 140737488355328 b12 (([46,13,10]:Str))).bind fun v33=>(zHa).bind fun v35=>some ((v33,v35))))
def kna(a0:Str)(a1:Str):Option Bool:=
 ((bif decide ((a1.length:Int)<=(a0.length:Int)) then (cut a0 0 ((a1.length:Int))).bind fun v3=>some ((v3==a1)) else some false):Option Bool).bind fun (j1:Bool)=>some j1
def k5a(a0:Str)(a1:Str):Option Bool:=
 (kna a0 a1).bind fun v1=>some v1
def koa(a0:Str)(a1:Str):Option Bool:=
 ((bif decide ((a1.length:Int)<=(a0.length:Int)) then (cut a0 ((w64 ((a0.length:Int) - (a1.length:Int)))) ((a0.length:Int))).bind fun v3=>some ((v3==a1)) else some false):Option Bool).bind fun (j1:Bool)=>some j1
def k6a(a0:Str)(a1:Str):Option Bool:=
 (koa a0 a1).bind fun v1=>some v1
def qPa(a0:Str)(s5:Int):Option (Step Int (Unit ⊕ Unit)):=
 (bif decide (s5 < (a0.length:Int)) then (idx a0 s5).bind fun v11=>((bif decide (97<=(v11.toNat:Int)) then (bif decide ((v11.toNat:Int)<=122) then some true else (bif decide (48<=(v11.toNat:Int)) then (bif decide ((v11.toNat:Int)<=57) then some true else (bif ((v11.toNat:Int)==45) then some true else some (((v11.toNat:Int)==46)))) else (bif ((v11.toNat:Int)==45) then some true else some (((v11.toNat:Int)==46))))) else (bif decide (48<=(v11.toNat:Int)) then (bif decide ((v11.toNat:Int)<=57) then some true else (bif ((v11.toNat:Int)==45) then some true else some (((v11.toNat:Int)==46)))) else (bif ((v11.toNat:Int)==45) then some true else some (((v11.toNat:Int)==46))))):Option Bool).bind fun (j13:Bool)=>(bif (!j13) then some (.out (.inr (()))) else some (.cont (w64 (s5+1)))) else some (.out (.inl (()))))
noncomputable def vYa(a0:Str):Option Bool:=
 ((bif (a0 !=([]:Str)) then (bif decide ((a0.length:Int)<=60) then ((iter (qPa a0) 0).bind (Sum.elim (fun b6=>some true) (fun b7=>some false)):Option Bool).bind fun (j4:Bool)=>(bif j4 then (k5a a0 (([46]:Str))).bind fun v26=>(bif (!v26) then (k6a a0 (([46]:Str))).bind fun v29=>(bif (!v29) then (qga a0 (([46,46]:Str))).bind fun v32=>some ((!v32)) else some false) else some false) else some false) else some false) else some false):Option Bool).bind fun (j1:Bool)=>some j1
def vaa(v1:Str × Str × Bool)(s8:Int):Option (Step Int (Unit ⊕ Unit)):=
 (bif decide (s8 < (v1.1.length:Int)) then (idx v1.1 s8).bind fun v14=>((wLa v14).bind fun v17=>(bif v17 then some true else (z1a (([45,95,46,43,61]:Str)) v14).bind fun v20=>some (decide (0<=v20))):Option Bool).bind fun (j16:Bool)=>(bif (!j16) then some (.out (.inr (()))) else some (.cont (w64 (s8+1)))) else some (.out (.inl (()))))
noncomputable def wqa(a0:Str):Option (Str × Str × Bool):=
 (vva a0 (([64]:Str))).bind fun v1=>((bif v1.2.2 then (bif (v1.1 !=([]:Str)) then (bif decide ((v1.1.length:Int)<=60) then ((iter (vaa v1) 0).bind (Sum.elim (fun b9=>some true) (fun b10=>some false)):Option Bool).bind fun (j7:Bool)=>(bif j7 then (vYa v1.2.1).bind fun v24=>some v24 else some false) else some false) else some false) else some false):Option Bool).bind fun (j3:Bool)=>some ((v1.1,v1.2.1,j3))
noncomputable def kxa(a0:Str):Option Bool:=
 (wqa a0).bind fun v1=>some v1.2.2
def w2a(a0:Str)(s5:Int):Option (Step Int (Unit ⊕ Unit)):=
 (bif decide (s5 < (a0.length:Int)) then (idx a0 s5).bind fun v11=>((wLa v11).bind fun v14=>(bif v14 then some true else (bif ((v11.toNat:Int)==45) then some true else (bif ((v11.toNat:Int)==95) then some true else some (((v11.toNat:Int)==46))))):Option Bool).bind fun (j13:Bool)=>(bif (!j13) then some (.out (.inr (()))) else some (.cont (w64 (s5+1)))) else some (.out (.inl (()))))
noncomputable def wMa(a0:Str):Option Bool:=
 ((bif (a0 !=([]:Str)) then (bif decide ((a0.length:Int)<=60) then ((iter (w2a a0) 0).bind (Sum.elim (fun b6=>some true) (fun b7=>some false)):Option Bool).bind fun (j4:Bool)=>some j4 else some false) else some false):Option Bool).bind fun (j1:Bool)=>some j1
def qza(a0:Int):Option Bool:=
 ((bif decide (0<=a0) then some (decide (a0<=7)) else some false):Option Bool).bind fun (j1:Bool)=>some j1
def k0a(v7:zba)(v19:List zba)(s22:Int):Option (Step Int (Unit ⊕ Int)):=
 (bif decide (s22 < (v19.length:Int)) then (idx v19 s22).bind fun v28=>(bif (v28.Address==v7.Address) then some (.out (.inr s22)) else some (.cont (w64 (s22+1)))) else some (.out (.inl (()))))
noncomputable def qIa(a0:List zba)(s1:Int):Option (Step Int (Unit ⊕ zqa)):=
 (bif decide (s1 < (a0.length:Int)) then (idx a0 s1).bind fun v7=>(kxa v7.Address).bind fun v9=>(bif (!v9) then (zka 10 s1).bind fun v12=>some (.out (.inr v12)) else (qza v7.Notify).bind fun v14=>(bif (!v14) then (zka 3 s1).bind fun v17=>some (.out (.inr v17)) else (cut a0 0 s1).bind fun v19=>((iter (k0a v7 v19) 0).bind (Sum.elim (fun b23=>some ((-1))) (fun b24=>some b24)):Option Int).bind fun (j21:Int)=>(bif decide (0<=j21) then (zka 7 s1).bind fun v32=>some (.out (.inr v32)) else some (.cont (w64 (s1+1)))))) else some (.out (.inl (()))))
noncomputable def kza(a0:List zba):Option zqa:=
 (iter (qIa a0) 0).bind (Sum.elim (fun b2=>(zHa).bind fun v34=>some v34) (fun b3=>some b3))
noncomputable def vba(a0:zFa):Option zqa:=
 ((bif (a0.From !=([]:Str)) then (kxa a0.From).bind fun v3=>some ((!v3)) else some false):Option Bool).bind fun (j1:Bool)=>(bif j1 then (zka 10 ((-10))).bind fun v6=>some v6 else ((bif decide ((a0.To.length:Int) < 1) then some true else some (decide (60 < (a0.To.length:Int)))):Option Bool).bind fun (j8:Bool)=>(bif j8 then (zka 2 ((-11))).bind fun v11=>some v11 else ((bif (a0.Id !=([]:Str)) then (wMa a0.Id).bind fun v15=>some ((!v15)) else some false):Option Bool).bind fun (j13:Bool)=>(bif j13 then (zka 10 ((-12))).bind fun v18=>some v18 else (kza a0.To).bind fun v20=>some v20)))
def vca(s4:Int × (List zba) × (List (Str × Int)))(j10:(List zba) × (List (Str × Int))):Option (Step (Int × (List zba) × (List (Str × Int))) ((List zba) ⊕ ((List zba) × zqa))):=
 some (.cont ((w64 (s4.1+1)),j10.1,j10.2))
noncomputable def vda(a0:List zba)(s4:Int × (List zba) × (List (Str × Int))):Option (Step (Int × (List zba) × (List (Str × Int))) ((List zba) ⊕ ((List zba) × zqa))):=
 (bif decide (s4.1 < (a0.length:Int)) then (idx a0 s4.1).bind fun v11=>(kxa v11.Address).bind fun v13=>(bif (!v13) then (zka 10 s4.1).bind fun v16=>some (.out (.inr (([],v16)))) else (qza v11.Notify).bind fun v18=>(bif (!v18) then (zka 3 s4.1).bind fun v21=>some (.out (.inr (([],v21)))) else (bif (mget s4.2.2 v11.Address).isSome then (idx s4.2.1 (((mget s4.2.2 v11.Address).getD 0))).bind fun v24=>(idx s4.2.1 (((mget s4.2.2 v11.Address).getD 0))).bind fun v26=>(idx s4.2.1 (((mget s4.2.2 v11.Address).getD 0))).bind fun v28=>(idx s4.2.1 (((mget s4.2.2 v11.Address).getD 0))).bind fun v30=>(vca s4 ((List.set s4.2.1 (Int.toNat (((mget s4.2.2 v11.Address).getD 0))) ((zba.mk v30.Address ((iOr v26.Notify v11.Notify))))),s4.2.2)) else (app 5864062014805 s4.2.1 (([v11]:List zba))).bind fun v32=>(vca s4 (v32,(mput s4.2.2 v11.Address ((s4.2.1.length:Int)))))))) else some (.out (.inl s4.2.1)))
noncomputable def wra(a0:List zba):Option ((List zba) × zqa):=
 (bif decide (300 < (a0.length:Int)) then (zka 2 ((-1))).bind fun v2=>some (([],v2)) else (iter (vda a0) ((0,([]:List zba),([]:List (Str × Int))))).bind (Sum.elim (fun b5=>(zHa).bind fun v34=>some ((b5,v34))) (fun b6=>some ((b6.1,b6.2)))))
def zKa(a0:Str)(a1:Str):Option Bool:=
 (qLa a0 a1).bind fun v1=>some (decide (0<=v1))
def yLa(a0:Str)(s5:Int):Option (Step Int (Unit ⊕ Unit)):=
 (bif decide (s5 < (a0.length:Int)) then (idx a0 s5).bind fun v11=>((bif decide (33<=(v11.toNat:Int)) then (bif decide ((v11.toNat:Int)<=126) then some (((v11.toNat:Int) !=58)) else some false) else some false):Option Bool).bind fun (j13:Bool)=>(bif (!j13) then some (.out (.inr (()))) else some (.cont (w64 (s5+1)))) else some (.out (.inl (()))))
noncomputable def KLa(a0:Str):Option Bool:=
 ((bif (a0 !=([]:Str)) then (bif decide ((a0.length:Int)<=60) then ((iter (yLa a0) 0).bind (Sum.elim (fun b6=>some true) (fun b7=>some false)):Option Bool).bind fun (j4:Bool)=>some j4 else some false) else some false):Option Bool).bind fun (j1:Bool)=>some j1
def KMa(a0:Str):Option Bool:=
 (zKa a0 (([13,10,0]:Str))).bind fun v1=>some v1
def vwa(a0:UInt8):Option Bool:=
 ((bif ((a0.toNat:Int)==32) then some true else some (((a0.toNat:Int)==9))):Option Bool).bind fun (j1:Bool)=>some j1
def ZDa(a0:Str):Option Bool:=
 ((KMa a0).bind fun v2=>(bif (!v2) then (bif (a0==([]:Str)) then some true else (idx a0 0).bind fun v6=>(vwa v6).bind fun v8=>(bif (!v8) then (idx a0 ((w64 ((a0.length:Int) - 1)))).bind fun v11=>(vwa v11).bind fun v13=>some ((!v13)) else some false)) else some false):Option Bool).bind fun (j1:Bool)=>some j1
def vxa(s1:Int × Int)(j5:Int):Option (Step (Int × Int) Int):=
 some (.cont (j5,(w64 (s1.2+1))))
def jfa(a0:Str)(s1:Int × Int):Option (Step (Int × Int) Int):=
 (bif decide (s1.2 < (a0.length:Int)) then ((idx a0 s1.2).bind fun v7=>(vwa v7).bind fun v9=>(bif (!v9) then some true else (idx a0 ((w64 (s1.2 - 1)))).bind fun v12=>(vwa v12).bind fun v14=>some v14):Option Bool).bind fun (j6:Bool)=>(bif j6 then (vxa s1 s1.1) else ((bif decide (0 < s1.1) then some (decide (78 < s1.2)) else some false):Option Bool).bind fun (j17:Bool)=>(bif j17 then some (.out s1.1) else (vxa s1 s1.2))) else some (.out s1.1))
noncomputable def ZEa(a0:Str)(a1:Int):Option Int:=
 (iter (jfa a0) ((0,(max a1 1)))).bind fun b2=>some b2
noncomputable def yMa(s18:Str × Int × (List Str)):Option (Step (Str × Int × (List Str)) (Str × (List Str))):=
 (bif decide (78 < (s18.1.length:Int)) then (ZEa s18.1 s18.2.1).bind fun v22=>(bif (v22==0) then some (.out ((s18.1,s18.2.2))) else (cut s18.1 0 v22).bind fun v25=>(app 8796093022208 s18.2.2 (([v25]:List Str))).bind fun v27=>(cut s18.1 v22 ((s18.1.length:Int))).bind fun v29=>some (.cont (v29,0,v27))) else some (.out ((s18.1,s18.2.2))))
def Zba(v31:List Str)(s34:Int):Option (Step Int (Unit ⊕ ((List Str) × zqa))):=
 (bif decide (s34 < (v31.length:Int)) then (idx v31 s34).bind fun v40=>(bif decide (998 < (v40.length:Int)) then (zka 1 s34).bind fun v43=>some (.out (.inr (([],v43)))) else some (.cont (w64 (s34+1)))) else some (.out (.inl (()))))
noncomputable def jwa(a0:Str)(a1:Str):Option ((List Str) × zqa):=
 (KLa a0).bind fun v1=>(bif (!v1) then (zka 10 ((-1))).bind fun v4=>some (([],v4)) else (bif decide (4000 < (a1.length:Int)) then (zka 1 ((-1))).bind fun v7=>some (([],v7)) else (ZDa a1).bind fun v9=>(bif (!v9) then (zka 11 ((-1))).bind fun v12=>some (([],v12)) else (cat a0 (([58,32]:Str))).bind fun v14=>(cat v14 a1).bind fun v16=>(iter (yMa) ((v16,(w64 ((a0.length:Int)+2)),([]:List Str)))).bind fun b19=>(app 8796093022208 b19.2 (([b19.1]:List Str))).bind fun v31=>(iter (Zba v31) 0).bind (Sum.elim (fun b35=>(zHa).bind fun v45=>some ((v31,v45))) (fun b36=>some ((b36.1,b36.2)))))))
noncomputable def vOa(a0:List zga)(s4:Int):Option (Step Int (Unit ⊕ zqa)):=
 (bif decide (s4 < (a0.length:Int)) then (idx a0 s4).bind fun v10=>(jwa v10.Name v10.Value).bind fun v12=>(zDa v12.2).bind fun v14=>(bif v14 then (zka v12.2.Code s4).bind fun v17=>some (.out (.inr v17)) else some (.cont (w64 (s4+1)))) else some (.out (.inl (()))))
noncomputable def vZa(a0:List zga):Option zqa:=
 (bif decide (60 < (a0.length:Int)) then (zka 2 ((-1))).bind fun v2=>some v2 else (iter (vOa a0) 0).bind (Sum.elim (fun b5=>(zHa).bind fun v19=>some v19) (fun b6=>some b6)))
def vEa(v7:(List Str) × zqa)(s9:Int × (List UInt8)):Option (Step (Int × (List UInt8)) (List UInt8)):=
 (bif decide (s9.1 < (v7.1.length:Int)) then (idx v7.1 s9.1).bind fun v13=>(app 140737488355328 s9.2 v13).bind fun v15=>(app 140737488355328 v15 (([(13:UInt8),(10:UInt8)]:List UInt8))).bind fun v17=>some (.cont ((w64 (s9.1+1)),v17)) else some (.out s9.2))
noncomputable def vFa(a0:zta)(s1:Int × (List UInt8)):Option (Step (Int × (List UInt8)) (List UInt8)):=
 (bif decide (s1.1 < (a0.Fields.length:Int)) then (idx a0.Fields s1.1).bind fun v5=>(jwa v5.Name v5.Value).bind fun v7=>(iter (vEa v7) ((0,s1.2))).bind fun b10=>some (.cont ((w64 (s1.1+1)),b10)) else some (.out s1.2))
noncomputable def wda(a0:zta):Option (List UInt8):=
 (iter (vFa a0) ((0,([]:List UInt8)))).bind fun b2=>(app 140737488355328 b2 (([(13:UInt8),(10:UInt8)]:List UInt8))).bind fun v19=>(app 140737488355328 v19 a0.Body).bind fun v21=>some v21
def w3a(j7:Int × Int):Option (Step (Int × Int) (Unit ⊕ Int)):=
 some (.cont (j7.1,(w64 (j7.2+1))))
def wea(a0:List UInt8)(s1:Int × Int):Option (Step (Int × Int) (Unit ⊕ Int)):=
 (bif decide (s1.2 < (a0.length:Int)) then (idx a0 s1.2).bind fun v8=>((bif ((v8.toNat:Int)==13) then (bif decide ((w64 (s1.2+1)) < (a0.length:Int)) then (idx a0 ((w64 (s1.2+1)))).bind fun v13=>some (((v13.toNat:Int)==10)) else some false) else some false):Option Bool).bind fun (j10:Bool)=>(bif j10 then (w3a (0,(w64 (s1.2+1)))) else ((bif ((v8.toNat:Int)==13) then some true else some (((v8.toNat:Int)==10))):Option Bool).bind fun (j16:Bool)=>(bif j16 then some (.out (.inr 11)) else (bif decide (998 < (w64 (s1.1+1))) then some (.out (.inr 1)) else (w3a ((w64 (s1.1+1)),s1.2))))) else some (.out (.inl (()))))
noncomputable def ZFa(a0:List UInt8):Option Int:=
 (iter (wea a0) ((0,0))).bind (Sum.elim (fun b2=>some 0) (fun b3=>some b3))
noncomputable def yNa(a0:List UInt8):Option zqa:=
 (ZFa a0).bind fun v1=>(bif (v1==11) then (zka 11 ((-5))).bind fun v4=>some v4 else (bif (v1==1) then (zka 1 ((-6))).bind fun v7=>some v7 else (zHa).bind fun v9=>some v9))
noncomputable def qha(a0:zta):Option zqa:=
 (vZa a0.Fields).bind fun v1=>(zDa v1).bind fun v3=>(bif v3 then some v1 else (wda a0).bind fun v6=>(bif decide (12000 < (v6.length:Int)) then (zka 1 ((-4))).bind fun v9=>some v9 else (yNa a0.Body).bind fun v11=>some v11))
noncomputable def wsa(a0:zua):Option zqa:=
 (vba a0.Envelope).bind fun v1=>(zDa v1).bind fun v3=>(bif v3 then some v1 else (qha a0.Message).bind fun v6=>(zDa v6).bind fun v8=>(bif v8 then (zka v6.Code ((-30))).bind fun v11=>some v11 else (zHa).bind fun v13=>some v13))
noncomputable def jxa(a0:Str):Option Bool:=
 (jwa a0 (([]:Str))).bind fun v1=>(zDa v1.2).bind fun v3=>some ((!v3))
def qYa(a0:Str)(s1:Int × (List UInt8)):Option (Step (Int × (List UInt8)) (List UInt8)):=
 (bif decide (s1.1 < (a0.length:Int)) then ((idx s1.2 s1.1).bind fun v6=>(idx s1.2 s1.1).bind fun v8=>((bif decide (65<=(v8.toNat:Int)) then some (decide ((v8.toNat:Int)<=90)) else some false):Option Bool).bind fun (j10:Bool)=>(bif j10 then (idx s1.2 s1.1).bind fun v13=>(idx s1.2 s1.1).bind fun v15=>some ((List.set s1.2 (Int.toNat s1.1) (((v8+(97:UInt8)) - (65:UInt8))))) else some s1.2):Option (List UInt8)).bind fun (j5:List UInt8)=>some (.cont ((w64 (s1.1+1)),j5)) else some (.out s1.2))
noncomputable def wHa(a0:Str):Option Str:=
 (iter (qYa a0) ((0,a0))).bind fun b2=>some b2
def wEa(a0:zta)(a1:zta)(s4:Int):Option (Step Int (Unit ⊕ Bool)):=
 (bif decide (s4 < (a0.Fields.length:Int)) then (idx a0.Fields s4).bind fun v10=>(idx a1.Fields s4).bind fun v12=>(bif (!(wna [(v10.Name==v12.Name),(v10.Value==v12.Value)])) then some (.out (.inr false)) else some (.cont (w64 (s4+1)))) else some (.out (.inl (()))))
noncomputable def w4a(a0:zta)(a1:zta):Option Bool:=
 ((bif ((a0.Fields.length:Int) !=(a1.Fields.length:Int)) then some true else some ((a0.Body !=a1.Body))):Option Bool).bind fun (j1:Bool)=>(bif j1 then some false else (iter (wEa a0 a1) 0).bind (Sum.elim (fun b5=>some true) (fun b6=>some b6)))
def jga(a0:zua)(a1:zua)(s5:Int):Option (Step Int (Unit ⊕ Bool)):=
 (bif decide (s5 < (a0.Envelope.To.length:Int)) then (idx a0.Envelope.To s5).bind fun v11=>(idx a1.Envelope.To s5).bind fun v13=>(bif (!(wna [(v11.Address==v13.Address),(v11.Notify==v13.Notify)])) then some (.out (.inr false)) else some (.cont (w64 (s5+1)))) else some (.out (.inl (()))))
noncomputable def ZGa(a0:zua)(a1:zua):Option Bool:=
 ((bif (a0.Envelope.From !=a1.Envelope.From) then some true else (bif (a0.Envelope.Id !=a1.Envelope.Id) then some true else some (((a0.Envelope.To.length:Int) !=(a1.Envelope.To.length:Int))))):Option Bool).bind fun (j1:Bool)=>(bif j1 then some false else (iter (jga a0 a1) 0).bind (Sum.elim (fun b6=>(w4a a0.Message a1.Message).bind fun v16=>some v16) (fun b7=>some b7)))
noncomputable def yEa(a0:List zua)(a1:List zua)(s2:Int):Option (Step Int (Unit ⊕ Bool)):=
 (bif decide (s2 < (a0.length:Int)) then (idx a0 s2).bind fun v8=>(idx a1 s2).bind fun v10=>(ZGa v8 v10).bind fun v12=>(bif (!v12) then some (.out (.inr false)) else some (.cont (w64 (s2+1)))) else some (.out (.inl (()))))
noncomputable def jya(a0:List zua)(a1:List zua):Option Bool:=
 (bif ((a0.length:Int) !=(a1.length:Int)) then some false else (iter (yEa a0 a1) 0).bind (Sum.elim (fun b3=>some true) (fun b4=>some b4)))
noncomputable def z8a(a0:List zga):Option (List zga):=
 (nilE a0.isEmpty (some ([])) ((app 4398046511104 ([]:List zga) a0).bind fun v2=>some v2))
def zMa(n:Int):Option Str:=if -9223372036854775808<=n/\n<=9223372036854775807 then some (Lib.itoa n) else none
def qqa(s:Str):Option (Int × Bool):=if s.length<=18 then (match Lib.atoi s with | some n=>some (n,false) | none=>some (0,true)) else none
def jna(a0:Int):Option Bool:=
 ((bif decide (200<=a0) then some (decide (a0<=599)) else some false):Option Bool).bind fun (j1:Bool)=>some j1
def wfa(a0:zra)(s11:Int):Option (Step Int (Unit ⊕ zqa)):=
 (bif decide (s11 < (a0.Lines.length:Int)) then (idx a0.Lines s11).bind fun v17=>(bif decide (500 < (v17.length:Int)) then (zka 1 s11).bind fun v20=>some (.out (.inr v20)) else (zKa v17 (([13,10]:Str))).bind fun v22=>(bif v22 then (zka 5 s11).bind fun v25=>some (.out (.inr v25)) else some (.cont (w64 (s11+1))))) else some (.out (.inl (()))))
noncomputable def vHa(a0:zra):Option zqa:=
 (jna a0.Code).bind fun v1=>(bif (!v1) then (zka 3 ((-1))).bind fun v4=>some v4 else ((bif decide ((a0.Lines.length:Int) < 1) then some true else some (decide (20 < (a0.Lines.length:Int)))):Option Bool).bind fun (j6:Bool)=>(bif j6 then (zka 2 ((-2))).bind fun v9=>some v9 else (iter (wfa a0) 0).bind (Sum.elim (fun b12=>(zHa).bind fun v27=>some v27) (fun b13=>some b13))))
noncomputable def wta(a0:zra)(s6:Int × (List Str)):Option (Step (Int × (List Str)) (List Str)):=
 (bif decide (s6.1 < (a0.Lines.length:Int)) then (idx a0.Lines s6.1).bind fun v10=>((bif (s6.1==(w64 ((a0.Lines.length:Int) - 1))) then some (([32]:Str)) else some (([45]:Str))):Option Str).bind fun (j12:Str)=>(zMa a0.Code).bind fun v14=>(cat v14 j12).bind fun v16=>(cat v16 v10).bind fun v18=>(app 8796093022208 s6.2 (([v18]:List Str))).bind fun v20=>some (.cont ((w64 (s6.1+1)),v20)) else some (.out s6.2))
noncomputable def yya(a0:zra):Option ((List Str) × zqa):=
 (vHa a0).bind fun v1=>(zDa v1).bind fun v3=>(bif v3 then some (([],v1)) else (iter (wta a0) ((0,([]:List Str)))).bind fun b7=>(zHa).bind fun v22=>some ((b7,v22)))
def w5a(a0:Str)(s1:Int):Option (Step Int (Unit ⊕ Bool)):=
 (bif decide (s1 < (a0.length:Int)) then ((idx a0 s1).bind fun v8=>(bif decide ((v8.toNat:Int) < 48) then some true else (idx a0 s1).bind fun v11=>some (decide (57 < (v11.toNat:Int)))):Option Bool).bind fun (j7:Bool)=>(bif j7 then some (.out (.inr false)) else some (.cont (w64 (s1+1)))) else some (.out (.inl (()))))
noncomputable def v0a(a0:Str):Option Bool:=
 (iter (w5a a0) 0).bind (Sum.elim (fun b2=>some ((a0 !=([]:Str)))) (fun b3=>some b3))
noncomputable def ZHa(a0:Str):Option (Int × Str × Bool × Bool):=
 ((bif decide ((a0.length:Int) < 4) then some true else (idx a0 3).bind fun v3=>(bif ((v3.toNat:Int) !=45) then (idx a0 3).bind fun v6=>(bif ((v6.toNat:Int) !=32) then some true else (cut a0 0 3).bind fun v9=>(v0a v9).bind fun v11=>(bif (!v11) then some true else (zKa a0 (([13,10]:Str))).bind fun v14=>some v14)) else (cut a0 0 3).bind fun v16=>(v0a v16).bind fun v18=>(bif (!v18) then some true else (zKa a0 (([13,10]:Str))).bind fun v21=>some v21))):Option Bool).bind fun (j1:Bool)=>(bif j1 then some ((0,([]:Str),false,false)) else (cut a0 0 3).bind fun v24=>(qqa v24).bind fun v26=>(cut a0 4 ((a0.length:Int))).bind fun v28=>(idx a0 3).bind fun v30=>(jna v26.1).bind fun v32=>some ((v26.1,v28,((v30.toNat:Int)==32),v32)))
noncomputable def yFa(a0:List Str)(s4:Int × (List Str) × Int):Option (Step (Int × (List Str) × Int) (Unit ⊕ (zra × Int × zqa))):=
 (bif decide (s4.1 < (a0.length:Int)) then (idx a0 s4.1).bind fun v10=>(ZHa v10).bind fun v12=>((bif (s4.1==20) then some 2 else (bif (!v12.2.2.2) then some 11 else (bif decide (500 < (v12.2.1.length:Int)) then some 1 else ((bif decide (0 < s4.1) then some ((v12.1 !=s4.2.2)) else some false):Option Bool).bind fun (j18:Bool)=>(bif j18 then some 5 else some 0)))):Option Int).bind fun (j14:Int)=>(bif (j14 !=0) then (zka j14 s4.1).bind fun v22=>some (.out (.inr (((zra.mk 0 ([])),0,v22)))) else (app 8796093022208 s4.2.1 (([v12.2.1]:List Str))).bind fun v24=>(bif v12.2.2.1 then (zHa).bind fun v27=>some (.out (.inr (((zra.mk v12.1 v24),(w64 (s4.1+1)),v27)))) else some (.cont ((w64 (s4.1+1)),v24,v12.1)))) else some (.out (.inl (()))))
noncomputable def jza(a0:List Str):Option (zra × Int × zqa):=
 (bif decide (300 < (a0.length:Int)) then (zka 2 ((-1))).bind fun v2=>some (((zra.mk 0 ([])),0,v2)) else (iter (yFa a0) ((0,([]:List Str),0))).bind (Sum.elim (fun b5=>(zka 9 ((-2))).bind fun v29=>some (((zra.mk 0 ([])),0,v29))) (fun b6=>some ((b6.1,b6.2.1,b6.2.2)))))
noncomputable def jAa(a0:zra):Option (Int × zqa):=
 (vHa a0).bind fun v1=>(zDa v1).bind fun v3=>(bif v3 then some ((0,v1)) else (zHa).bind fun v6=>some (((iQuo a0.Code 100),v6)))
def v1a(l:List Str)(s:Str):Option Str:=if l.length<=140737488355328/\(Lib.join l s).length<=140737488355328 then some (Lib.join l s) else none
def sp32(x:Nat):Bool:=decide ((x:Int)=32)
def qda(s:Str):Option (List Str):=if s.length<=4294967296 then some ((Lib.goFieldsP sp32 (strB s)).map fun b=>b.data.toList) else none
def kea(s t:Str):Option (Str × Bool):=some (Lib.trimPrefix s t,Lib.hasPrefix s t)
def kfa(s t:Str):Option (Str × Bool):=if s.length<=9223372036854775807 then some (Lib.trimSuffix s t,Lib.hasSuffix s t) else none
def yOa(a0:zfa):Option zfa:=
 ((bif (a0.Verb==1) then some ((a0.Name,([]:Str),0,0,false)) else (bif (a0.Verb==2) then some ((([]:Str),a0.Address,a0.Size,0,false)) else (bif (a0.Verb==3) then some ((([]:Str),a0.Address,0,a0.Notify,false)) else (bif (a0.Verb==5) then some ((([]:Str),([]:Str),a0.Size,0,a0.Last)) else some ((([]:Str),([]:Str),0,0,false)))))):Option (Str × Str × Int × Int × Bool)).bind fun (j1:Str × Str × Int × Int × Bool)=>some ((zfa.mk a0.Verb j1.1 j1.2.1 j1.2.2.1 j1.2.2.2.1 j1.2.2.2.2))
noncomputable def qMa(a0:zfa):Option zqa:=
 ((bif (a0.Verb==3) then some true else (bif (a0.Verb==2) then some ((a0.Address !=([]:Str))) else some false)):Option Bool).bind fun (j1:Bool)=>((bif decide (a0.Verb < 1) then some true else some (decide (8 < a0.Verb))):Option Bool).bind fun (j4:Bool)=>(bif j4 then (zka 4 ((-2))).bind fun v7=>some v7 else (yOa a0).bind fun v9=>(bif (!(wna [(a0.Verb==v9.Verb),(a0.Name==v9.Name),(a0.Address==v9.Address),(a0.Size==v9.Size),(a0.Notify==v9.Notify),(a0.Last==v9.Last)])) then (zka 5 ((-3))).bind fun v12=>some v12 else ((bif (a0.Verb==1) then (wMa a0.Name).bind fun v16=>some ((!v16)) else some false):Option Bool).bind fun (j14:Bool)=>(bif j14 then (zka 10 ((-4))).bind fun v19=>some v19 else ((bif j1 then (kxa a0.Address).bind fun v23=>some ((!v23)) else some false):Option Bool).bind fun (j21:Bool)=>(bif j21 then (zka 10 ((-5))).bind fun v26=>some v26 else ((bif decide (a0.Size < 0) then some true else some (decide (1000000 < a0.Size))):Option Bool).bind fun (j28:Bool)=>(bif j28 then (zka 3 ((-6))).bind fun v31=>some v31 else (qza a0.Notify).bind fun v33=>(bif (!v33) then (zka 3 ((-7))).bind fun v36=>some v36 else (zHa).bind fun v38=>some v38))))))
def w6a:Option (Str × Str × Str × Str × Str × Str × Str × Str):=
 some ((([104,101,108,108,111]:Str),([109,97,105,108]:Str),([114,99,112,116]:Str),([100,97,116,97]:Str),([99,104,117,110,107]:Str),([114,101,115,101,116]:Str),([110,111,111,112]:Str),([113,117,105,116]:Str)))
def vPa:Option (zla × zla × zla):=
 some (((zla.mk 1 (([102,97,105,108,117,114,101]:Str))),(zla.mk 2 (([100,101,108,97,121]:Str))),(zla.mk 4 (([115,117,99,99,101,115,115]:Str)))))
def yza(a0:Int)(v1:zla × zla × zla)(s3:Int × (List Str)):Option (Step (Int × (List Str)) (List Str)):=
 (bif decide (s3.1 < 3) then ((idx ([v1.1,v1.2.1,v1.2.2]:List zla) s3.1).bind fun v8=>(bif ((iAnd a0 v8.n) !=0) then (app 8796093022208 s3.2 (([v8.word]:List Str))).bind fun v11=>some v11 else some s3.2):Option (List Str)).bind fun (j7:List Str)=>some (.cont ((w64 (s3.1+1)),j7)) else some (.out s3.2))
noncomputable def vIa(a0:Int):Option Str:=
 (vPa).bind fun v1=>(iter (yza a0 v1) ((0,([]:List Str)))).bind fun b4=>(bif ((b4.length:Int)==0) then some (([110,101,118,101,114]:Str)) else (v1a b4 (([44]:Str))).bind fun v14=>some v14)
noncomputable def w7a(a0:zfa):Option (Str × zqa):=
 (qMa a0).bind fun v1=>(zDa v1).bind fun v3=>(bif v3 then some ((([]:Str),v1)) else (w6a).bind fun v6=>(idx ([v6.1,v6.2.1,v6.2.2.1,v6.2.2.2.1,v6.2.2.2.2.1,v6.2.2.2.2.2.1,v6.2.2.2.2.2.2.1,v6.2.2.2.2.2.2.2]:List Str) ((w64 (a0.Verb - 1)))).bind fun v8=>((bif (a0.Verb==1) then (cat (([32]:Str)) a0.Name).bind fun v12=>(cat v8 v12).bind fun v14=>some v14 else (bif (a0.Verb==2) then (cat (([32,60]:Str)) a0.Address).bind fun v17=>(cat v17 (([62]:Str))).bind fun v19=>(cat v8 v19).bind fun v21=>(bif (a0.Size !=0) then (zMa a0.Size).bind fun v24=>(cat (([32,115,105,122,101,61]:Str)) v24).bind fun v26=>(cat v21 v26).bind fun v28=>some v28 else some v21) else (bif (a0.Verb==3) then (cat (([32,60]:Str)) a0.Address).bind fun v31=>(cat v31 (([62]:Str))).bind fun v33=>(cat v8 v33).bind fun v35=>(bif (a0.Notify !=1) then (vIa a0.Notify).bind fun v38=>(cat (([32,110,111,116,105,102,121,61]:Str)) v38).bind fun v40=>(cat v35 v40).bind fun v42=>some v42 else some v35) else (bif (a0.Verb==5) then (zMa a0.Size).bind fun v45=>(cat (([32]:Str)) v45).bind fun v47=>(cat v8 v47).bind fun v49=>(bif a0.Last then (cat v49 (([32,108,97,115,116]:Str))).bind fun v52=>some v52 else some v49) else some v8)))):Option Str).bind fun (j10:Str)=>(zHa).bind fun v54=>some ((j10,v54)))
noncomputable def vea(a0:Str):Option (Str × Bool):=
 (kea a0 (([60]:Str))).bind fun v1=>(kfa v1.1 (([62]:Str))).bind fun v3=>((bif v1.2 then some v3.2 else some false):Option Bool).bind fun (j5:Bool)=>some ((v3.1,j5))
noncomputable def qra(a0:List Str)(a1:Str):Option (Str × Bool):=
 (bif ((a0.length:Int) !=1) then some ((([]:Str),false)) else (idx a0 0).bind fun v2=>(wHa v2).bind fun v4=>(cat a1 (([61]:Str))).bind fun v6=>(kea v4 v6).bind fun v8=>some ((v8.1,v8.2)))
noncomputable def yPa(a0:Str)(a1:Int):Option (Int × Bool):=
 (qqa a0).bind fun v1=>((bif v1.2 then some true else (zMa v1.1).bind fun v5=>(bif (v5 !=a0) then some true else (bif decide (v1.1 < 0) then some true else some (decide (a1 < v1.1))))):Option Bool).bind fun (j3:Bool)=>(bif j3 then some ((0,false)) else some ((v1.1,true)))
noncomputable def vJa(a0:Str):Option (Int × Bool):=
 (bif decide (9 < (a0.length:Int)) then some ((0,false)) else (yPa a0 999999999).bind fun v2=>some ((v2.1,v2.2)))
noncomputable def kva(a0:Str)(a1:Bool)(s1:Int):Option (Step Int (Unit ⊕ (Int × Bool))):=
 (bif decide (s1 < 8) then ((bif a1 then (vIa s1).bind fun v9=>some ((v9==a0)) else some false):Option Bool).bind fun (j7:Bool)=>(bif j7 then some (.out (.inr ((s1,true)))) else some (.cont (w64 (s1+1)))) else some (.out (.inl (()))))
noncomputable def yQa(a0:Str)(a1:Bool):Option (Int × Bool):=
 (iter (kva a0 a1) 0).bind (Sum.elim (fun b2=>some ((0,false))) (fun b3=>some ((b3.1,b3.2))))
def wua(a0:Int)(a1:Int)(c0_0:List Str):Option Bool:=
 ((bif decide (a0<=(c0_0.length:Int)) then some (decide ((c0_0.length:Int)<=a1)) else some false):Option Bool).bind fun (j1:Bool)=>some j1
def kwa(a0:Int)(j1:Bool × Bool × Str × Str × Int × Int × Bool):Option (zfa × Bool):=
 ((bif j1.1 then some j1.2.1 else some false):Option Bool).bind fun (j2:Bool)=>some (((zfa.mk a0 j1.2.2.1 j1.2.2.2.1 j1.2.2.2.2.1 j1.2.2.2.2.2.1 j1.2.2.2.2.2.2),j2))
noncomputable def yRa(a0:Int)(a1:List Str):Option (zfa × Bool):=
 (bif (a0==1) then ((bif decide (1<=(a1.length:Int)) then some (decide ((a1.length:Int)<=1)) else some false):Option Bool).bind fun (j5:Bool)=>(bif (!j5) then some (((zfa.mk a0 (([]:Str)) (([]:Str)) 0 0 false),false)) else (idx a1 0).bind fun v8=>(kwa a0 (true,true,v8,([]:Str),0,0,false))) else (bif (a0==2) then ((bif decide (1<=(a1.length:Int)) then some (decide ((a1.length:Int)<=2)) else some false):Option Bool).bind fun (j11:Bool)=>(bif (!j11) then some (((zfa.mk a0 (([]:Str)) (([]:Str)) 0 0 false),false)) else (idx a1 0).bind fun v14=>(vea v14).bind fun v16=>(bif ((a1.length:Int)==2) then (cut a1 1 ((a1.length:Int))).bind fun v19=>(qra v19 (([115,105,122,101]:Str))).bind fun v21=>(vJa v21.1).bind fun v23=>(bif v23.2 then (kwa a0 (v16.2,v21.2,([]:Str),v16.1,v23.1,0,false)) else (kwa a0 (v16.2,false,([]:Str),v16.1,v23.1,0,false))) else (kwa a0 (v16.2,true,([]:Str),v16.1,0,0,false)))) else (bif (a0==3) then ((bif decide (1<=(a1.length:Int)) then some (decide ((a1.length:Int)<=2)) else some false):Option Bool).bind fun (j27:Bool)=>(bif (!j27) then some (((zfa.mk a0 (([]:Str)) (([]:Str)) 0 0 false),false)) else (idx a1 0).bind fun v30=>(vea v30).bind fun v32=>(bif ((a1.length:Int)==2) then (cut a1 1 ((a1.length:Int))).bind fun v35=>(qra v35 (([110,111,116,105,102,121]:Str))).bind fun v37=>(yQa v37.1 v37.2).bind fun v39=>(kwa a0 (v32.2,v39.2,([]:Str),v32.1,0,v39.1,false)) else (kwa a0 (v32.2,true,([]:Str),v32.1,0,1,false)))) else (bif (a0==5) then ((bif decide (1<=(a1.length:Int)) then some (decide ((a1.length:Int)<=2)) else some false):Option Bool).bind fun (j42:Bool)=>(bif (!j42) then some (((zfa.mk a0 (([]:Str)) (([]:Str)) 0 0 false),false)) else (idx a1 0).bind fun v45=>(vJa v45).bind fun v47=>(bif (!(((a1.length:Int)==2))) then (kwa a0 (v47.2,true,([]:Str),([]:Str),v47.1,0,((a1.length:Int)==2))) else (idx a1 1).bind fun v50=>(wHa v50).bind fun v52=>(kwa a0 (v47.2,(v52==([108,97,115,116]:Str)),([]:Str),([]:Str),v47.1,0,((a1.length:Int)==2))))) else (wua 0 0 a1).bind fun v54=>some (((zfa.mk a0 (([]:Str)) (([]:Str)) 0 0 false),v54))))))
noncomputable def qNa(v4:List Str)(v6:Str × Str × Str × Str × Str × Str × Str × Str)(s8:Int × Int):Option (Step (Int × Int) Int):=
 (bif decide (s8.2 < 8) then ((idx ([v6.1,v6.2.1,v6.2.2.1,v6.2.2.2.1,v6.2.2.2.2.1,v6.2.2.2.2.2.1,v6.2.2.2.2.2.2.1,v6.2.2.2.2.2.2.2]:List Str) s8.2).bind fun v13=>((bif decide (0 < (v4.length:Int)) then (idx v4 0).bind fun v17=>(wHa v17).bind fun v19=>some ((v19==v13)) else some false):Option Bool).bind fun (j15:Bool)=>(bif j15 then some ((w64 (s8.2+1))) else some s8.1):Option Int).bind fun (j12:Int)=>some (.cont (j12,(w64 (s8.2+1)))) else some (.out s8.1))
noncomputable def w8a(a0:Str):Option (zfa × zqa):=
 (bif decide (4000 < (a0.length:Int)) then (zka 1 ((-1))).bind fun v2=>some (((zfa.mk 0 (([]:Str)) (([]:Str)) 0 0 false),v2)) else (qda a0).bind fun v4=>(w6a).bind fun v6=>(iter (qNa v4 v6) ((0,0))).bind fun b9=>(bif (b9==0) then (zka 18 ((-2))).bind fun v23=>some (((zfa.mk 0 (([]:Str)) (([]:Str)) 0 0 false),v23)) else (cut v4 1 ((v4.length:Int))).bind fun v25=>(yRa b9 v25).bind fun v27=>(bif (!v27.2) then (zka 11 ((-3))).bind fun v30=>some (((zfa.mk 0 (([]:Str)) (([]:Str)) 0 0 false),v30)) else (qMa v27.1).bind fun v32=>(zDa v32).bind fun v34=>(bif v34 then some (((zfa.mk 0 (([]:Str)) (([]:Str)) 0 0 false),v32)) else (zHa).bind fun v37=>some ((v27.1,v37))))))
noncomputable def w9a(a0:zta):Option ((List UInt8) × zqa):=
 (qha a0).bind fun v1=>(zDa v1).bind fun v3=>(bif v3 then some (([],v1)) else (wda a0).bind fun v6=>(zHa).bind fun v8=>some ((v6,v8)))
def z3a(a0:zca)(a1:Int)(s1:Int × zca):Option (Step (Int × zca) zca):=
 (bif decide (s1.1 < (a0.Client.Results.length:Int)) then ((idx s1.2.Client.Results s1.1).bind fun v6=>(idx s1.2.Client.Results s1.1).bind fun v8=>(bif (v8==0) then (idx s1.2.Client.Results s1.1).bind fun v11=>(idx s1.2.Client.Results s1.1).bind fun v13=>some ((zca.mk ((zna.mk s1.2.Client.Name s1.2.Client.Mail s1.2.Client.Pipelined s1.2.Client.Buffer s1.2.Client.Expected s1.2.Client.Whole s1.2.Client.Done ((List.set s1.2.Client.Results (Int.toNat s1.1) a1)))) s1.2.content s1.2.chunk s1.2.out)) else some s1.2):Option zca).bind fun (j5:zca)=>some (.cont ((w64 (s1.1+1)),j5)) else some (.out s1.2))
noncomputable def kAa(a0:zca)(a1:Int):Option zca:=
 (iter (z3a a0 a1) ((0,a0))).bind fun b2=>some b2
def qJa(a0:zca)(s2:Int):Option (Step Int (Unit ⊕ Int)):=
 (bif decide (s2 < (a0.Client.Results.length:Int)) then (idx a0.Client.Results s2).bind fun v8=>(idx a0.Client.Results s2).bind fun v10=>(bif (0==v10) then some (.out (.inr s2)) else some (.cont (w64 (s2+1)))) else some (.out (.inl (()))))
noncomputable def kBa(a0:zca):Option (Bool × zca):=
 ((iter (qJa a0) 0).bind (Sum.elim (fun b3=>some ((-1))) (fun b4=>some b4)):Option Int).bind fun (j1:Int)=>some (((!(decide (0<=j1))),a0))
noncomputable def zza(a0:zca)(a1:zfa):Option zca:=
 (w7a a1).bind fun v1=>(app 140737488355328 a0.out v1.1).bind fun v3=>(app 140737488355328 v3 (([(13:UInt8),(10:UInt8)]:List UInt8))).bind fun v5=>some ((zca.mk a0.Client a0.content a0.chunk v5))
noncomputable def zEa(a0:zca)(a1:Int):Option zca:=
 (kAa a0 a1).bind fun v1=>(zza v1 ((zfa.mk 8 (([]:Str)) (([]:Str)) 0 0 false))).bind fun v3=>some ((zca.mk ((zna.mk v3.Client.Name v3.Client.Mail v3.Client.Pipelined v3.Client.Buffer v3.Client.Expected v3.Client.Whole true v3.Client.Results)) v3.content v3.chunk v3.out))
noncomputable def k7a(a0:zca):Option zca:=
 ((bif a0.Client.Whole then some 4 else some 2):Option Int).bind fun (j1:Int)=>(kAa a0 j1).bind fun v3=>some ((zca.mk ((zna.mk v3.Client.Name v3.Client.Mail v3.Client.Pipelined v3.Client.Buffer v3.Client.Expected v3.Client.Whole true v3.Client.Results)) v3.content v3.chunk v3.out))
def kaa(a0:zca):Option (Int × zca):=
 some (((a0.Client.Mail.Envelope.To.length:Int),a0))
noncomputable def zJa(a0:zca)(a1:Int):Option zca:=
 (bif (a1==1) then (zza a0 ((zfa.mk 1 a0.Client.Name (([]:Str)) 0 0 false))).bind fun v2=>some v2 else (bif (a1==2) then (zza a0 ((zfa.mk 2 (([]:Str)) a0.Client.Mail.Envelope.From ((a0.content.length:Int)) 0 false))).bind fun v5=>some v5 else (kaa a0).bind fun v7=>(bif decide (a1 < (w64 (v7.1+3))) then (idx a0.Client.Mail.Envelope.To ((w64 (a1 - 3)))).bind fun v10=>(zza v7.2 ((zfa.mk 3 (([]:Str)) v10.Address 0 v10.Notify false))).bind fun v12=>some v12 else (bif v7.2.chunk then (zza v7.2 ((zfa.mk 5 (([]:Str)) (([]:Str)) ((v7.2.content.length:Int)) 0 true))).bind fun v15=>(app 140737488355328 v15.out v15.content).bind fun v17=>some ((zca.mk ((zna.mk v15.Client.Name v15.Client.Mail v15.Client.Pipelined v15.Client.Buffer v15.Client.Expected true v15.Client.Done v15.Client.Results)) v15.content v15.chunk v17)) else (zza v7.2 ((zfa.mk 4 (([]:Str)) (([]:Str)) 0 0 false))).bind fun v19=>some v19))))
noncomputable def zTa(j4:Int × Bool)(s10:Int × zca):Option (Step (Int × zca) zca):=
 (bif decide (s10.1<=j4.1) then (zJa s10.2 s10.1).bind fun v14=>some (.cont ((w64 (s10.1+1)),v14)) else some (.out s10.2))
noncomputable def kba(a0:zca):Option zca:=
 (kaa ((zca.mk ((zna.mk a0.Client.Name a0.Client.Mail a0.Client.Pipelined a0.Client.Buffer ((w64 (a0.Client.Expected+1))) a0.Client.Whole a0.Client.Done a0.Client.Results)) a0.content a0.chunk a0.out))).bind fun v1=>(((bif (!v1.2.Client.Pipelined) then some (((w64 (v1.1+3)),true)) else some (((w64 (v1.1+3)),(v1.2.Client.Expected==1)))):Option (Int × Bool)).bind fun (j4:Int × Bool)=>(bif j4.2 then (zJa v1.2 v1.2.Client.Expected).bind fun v7=>some ((j4.1,v7)) else (bif (v1.2.Client.Expected==2) then (iter (zTa j4) ((2,v1.2))).bind fun b11=>some ((j4.1,b11)) else some ((j4.1,v1.2)))):Option (Int × zca)).bind fun (j3:Int × zca)=>((bif (j3.2.Client.Expected==j3.1) then some j3.2.chunk else some false):Option Bool).bind fun (j16:Bool)=>(bif j16 then some ((zca.mk ((zna.mk j3.2.Client.Name j3.2.Client.Mail j3.2.Client.Pipelined j3.2.Client.Buffer ((w64 (j3.2.Client.Expected+1))) j3.2.Client.Whole j3.2.Client.Done j3.2.Client.Results)) j3.2.content j3.2.chunk j3.2.out)) else some j3.2)
def qca(a0:Int):Option Int:=
 (bif (a0==5) then some 3 else some 2)
noncomputable def q8a(a0:zca)(a1:Int):Option zca:=
 (bif (a1 !=3) then (qca a1).bind fun v2=>(zEa a0 v2).bind fun v4=>some v4 else (kBa a0).bind fun v6=>(bif v6.1 then some ((zca.mk ((zna.mk v6.2.Client.Name v6.2.Client.Mail v6.2.Client.Pipelined v6.2.Client.Buffer v6.2.Client.Expected v6.2.Client.Whole true v6.2.Client.Results)) v6.2.content v6.2.chunk v6.2.out)) else (wGa v6.2.content).bind fun v9=>(app 140737488355328 v6.2.out v9.1).bind fun v11=>some ((zca.mk ((zna.mk v6.2.Client.Name v6.2.Client.Mail v6.2.Client.Pipelined v6.2.Client.Buffer ((w64 (v6.2.Client.Expected+1))) true v6.2.Client.Done v6.2.Client.Results)) v6.2.content v6.2.chunk v11))))
noncomputable def k8a(a0:zca)(a1:zra):Option zca:=
 (jAa a1).bind fun v1=>(kaa a0).bind fun v3=>(bif decide (v3.2.Client.Expected < 3) then (bif (v1.1 !=2) then (qca v1.1).bind fun v7=>(zEa v3.2 v7).bind fun v9=>some v9 else (kba v3.2).bind fun v11=>some v11) else (bif decide (v3.2.Client.Expected < (w64 (v3.1+3))) then ((bif (v1.1 !=2) then (qca v1.1).bind fun v16=>(idx v3.2.Client.Results ((w64 (v3.2.Client.Expected - 3)))).bind fun v18=>(idx v3.2.Client.Results ((w64 (v3.2.Client.Expected - 3)))).bind fun v20=>some (((w64 (v3.1+3)),(zca.mk ((zna.mk v3.2.Client.Name v3.2.Client.Mail v3.2.Client.Pipelined v3.2.Client.Buffer v3.2.Client.Expected v3.2.Client.Whole v3.2.Client.Done ((List.set v3.2.Client.Results (Int.toNat ((w64 (v3.2.Client.Expected - 3)))) v16)))) v3.2.content v3.2.chunk v3.2.out))) else some (((w64 (v3.1+3)),v3.2))):Option (Int × zca)).bind fun (j14:Int × zca)=>((bif (j14.2.Client.Expected==(w64 (j14.1 - 1))) then (bif (!j14.2.Client.Pipelined) then (kBa j14.2).bind fun v25=>some ((v25.1,v25.2)) else some ((false,j14.2))) else some ((false,j14.2))):Option (Bool × zca)).bind fun (j22:Bool × zca)=>(bif j22.1 then (zEa j22.2 2).bind fun v28=>some v28 else (kba j22.2).bind fun v30=>some v30) else (bif (v3.2.Client.Expected==(w64 (v3.1+3))) then (q8a v3.2 v1.1).bind fun v33=>some v33 else (bif (v1.1==2) then (zEa v3.2 1).bind fun v36=>some v36 else (qca v1.1).bind fun v38=>(zEa v3.2 v38).bind fun v40=>some v40))))
noncomputable def kra(a0:zca)(s1:Int × (List Str)):Option (Step (Int × (List Str)) (Bool × zca)):=
 (cut a0.Client.Buffer s1.1 ((a0.Client.Buffer.length:Int))).bind fun v4=>(qWa v4 (([(13:UInt8),(10:UInt8)]:List UInt8))).bind fun v6=>(bif decide (v6 < 0) then some (.out ((false,a0))) else (cut a0.Client.Buffer s1.1 ((w64 (s1.1+v6)))).bind fun v9=>(app 8796093022208 s1.2 (([v9]:List Str))).bind fun v11=>(jza v11).bind fun v13=>((bif decide (4000 < v6) then some (((w64 (s1.1+(w64 (v6+2)))),true)) else (bif (v13.2.2.Code !=0) then some (((w64 (s1.1+(w64 (v6+2)))),(v13.2.2.Code !=9))) else some (((w64 (s1.1+(w64 (v6+2)))),false)))):Option (Int × Bool)).bind fun (j15:Int × Bool)=>(bif j15.2 then (k7a a0).bind fun v19=>some (.out ((false,v19))) else (bif (v13.2.2.Code==0) then (cut a0.Client.Buffer j15.1 ((a0.Client.Buffer.length:Int))).bind fun v22=>(k8a ((zca.mk ((zna.mk a0.Client.Name a0.Client.Mail a0.Client.Pipelined v22 a0.Client.Expected a0.Client.Whole a0.Client.Done a0.Client.Results)) a0.content a0.chunk a0.out)) v13.1).bind fun v24=>some (.out ((true,v24))) else some (.cont (j15.1,v11)))))
noncomputable def k9a(a0:zca):Option (Bool × zca):=
 (iter (kra a0) ((0,([]:List Str)))).bind fun b2=>some ((b2.1,b2.2))
noncomputable def wNa(a0:Str)(a1:zua):Option zqa:=
 (wMa a0).bind fun v1=>(bif (!v1) then (zka 10 ((-20))).bind fun v4=>some v4 else (wsa a1).bind fun v6=>some v6)
noncomputable def vya(a0:zua):Option zua:=
 ((nilE a0.Envelope.To.isEmpty (some ([])) ((app 5864062014805 ([]:List zba) a0.Envelope.To).bind fun v3=>some v3)):Option (List zba)).bind fun (j1:List zba)=>(z8a a0.Message.Fields).bind fun v5=>((nilE a0.Message.Body.isEmpty (some ([])) ((app 140737488355328 ([]:List UInt8) a0.Message.Body).bind fun v9=>some v9)):Option (List UInt8)).bind fun (j7:List UInt8)=>some ((zua.mk ((zFa.mk a0.Envelope.From j1 a0.Envelope.Id)) ((zta.mk v5 j7))))
noncomputable def ySa(a0:Str)(a1:zua)(a2:Bool):Option (zna × zqa):=
 (wNa a0 a1).bind fun v1=>(zDa v1).bind fun v3=>(bif v3 then some (((zna.mk (([]:Str)) ((zua.mk ((zFa.mk (([]:Str)) ([]) (([]:Str)))) ((zta.mk ([]) ([]))))) false ([]) 0 false false ([])),v1)) else (vya a1).bind fun v6=>(zmk 17592186044416 ((a1.Envelope.To.length:Int)) (0:Int)).bind fun v8=>(zHa).bind fun v10=>some (((zna.mk a0 v6 a2 ([]) 0 false false v8),v10)))
noncomputable def vKa(a0:zta):Option ((List UInt8) × Bool):=
 (w9a a0).bind fun v1=>(zZa v1.1 (([(13:UInt8),(10:UInt8)]:List UInt8))).bind fun v3=>some ((v1.1,(!v3)))
def wva(a0:zna)(s13:Int):Option (Step Int (Unit ⊕ Bool)):=
 (bif decide (s13 < (a0.Results.length:Int)) then (idx a0.Results s13).bind fun v19=>((bif decide (a0.Expected<=(w64 (s13+3))) then some ((v19 !=0)) else some false):Option Bool).bind fun (j21:Bool)=>(bif j21 then some (.out (.inr false)) else some (.cont (w64 (s13+1)))) else some (.out (.inl (()))))
noncomputable def jBa(a0:zna):Option Bool:=
 (vKa a0.Mail.Message).bind fun v1=>((bif (a0.Expected==(w64 ((a0.Mail.Envelope.To.length:Int)+4))) then (bif (a0.Whole !=true) then some true else (bif v1.2 then some ((a0.Expected==(w64 ((a0.Mail.Envelope.To.length:Int)+3)))) else some false)) else (bif v1.2 then (bif a0.Pipelined then (bif (a0.Whole !=decide (2<=a0.Expected)) then some true else some ((a0.Expected==(w64 ((a0.Mail.Envelope.To.length:Int)+3))))) else (bif (a0.Whole !=false) then some true else some ((a0.Expected==(w64 ((a0.Mail.Envelope.To.length:Int)+3)))))) else (bif (a0.Whole !=false) then some true else some false))):Option Bool).bind fun (j3:Bool)=>(bif j3 then some false else (iter (wva a0) 0).bind (Sum.elim (fun b14=>some true) (fun b15=>some b15)))
def v2a(a0:zna)(s9:Int):Option (Step Int (Unit ⊕ Int)):=
 (bif decide (s9 < (a0.Results.length:Int)) then (idx a0.Results s9).bind fun v15=>((bif decide (v15 < 0) then some true else some (decide (4 < v15))):Option Bool).bind fun (j17:Bool)=>(bif j17 then some (.out (.inr s9)) else some (.cont (w64 (s9+1)))) else some (.out (.inl (()))))
noncomputable def wOa(a0:zna):Option zqa:=
 (wNa a0.Name a0.Mail).bind fun v1=>(zDa v1).bind fun v3=>(bif v3 then some v1 else ((bif ((a0.Results.length:Int) !=(a0.Mail.Envelope.To.length:Int)) then some true else ((iter (v2a a0) 0).bind (Sum.elim (fun b10=>some ((-1))) (fun b11=>some b11)):Option Int).bind fun (j8:Int)=>(bif decide (0<=j8) then some true else (bif decide (a0.Expected < 0) then some true else (bif decide ((w64 ((a0.Mail.Envelope.To.length:Int)+4)) < a0.Expected) then some true else (bif decide (40000 < (a0.Buffer.length:Int)) then some true else (bif (!a0.Done) then (jBa a0).bind fun v25=>some ((!v25)) else some false)))))):Option Bool).bind fun (j6:Bool)=>(bif j6 then (zka 5 ((-23))).bind fun v28=>some v28 else (zHa).bind fun v30=>some v30))
noncomputable def kMa(a0:List Int):Option (List Int):=
 (nilE a0.isEmpty (some ([])) ((app 17592186044416 ([]:List Int) a0).bind fun v2=>some v2))
def kja(a0:List (List UInt8))(s1:Int × Int):Option (Step (Int × Int) Int):=
 (bif decide (s1.2 < (a0.length:Int)) then (idx a0 s1.2).bind fun v5=>(bif decide ((w64 (s1.1+(v5.length:Int))) < 0) then none else some (.cont ((w64 (s1.1+(v5.length:Int))),(w64 (s1.2+1))))) else some (.out s1.1))
def kka(a0:List (List UInt8))(s14:Int × (List UInt8)):Option (Step (Int × (List UInt8)) (List UInt8)):=
 (bif decide (s14.1 < (a0.length:Int)) then (idx a0 s14.1).bind fun v18=>(app 140737488355328 s14.2 v18).bind fun v20=>some (.cont ((w64 (s14.1+1)),v20)) else some (.out s14.2))
def kVa(a0:List (List UInt8))(s22:Int × (List UInt8)):Option (Step (Int × (List UInt8)) (List UInt8)):=
 (bif decide (s22.1 < (a0.length:Int)) then (idx a0 s22.1).bind fun v26=>(app 140737488355328 s22.2 v26).bind fun v28=>some (.cont ((w64 (s22.1+1)),v28)) else some (.out s22.2))
noncomputable def kKa(a0:List (List UInt8)):Option (List UInt8):=
 (iter (kja a0) ((0,0))).bind fun b2=>(bif decide (b2 < 0) then none else (bif decide (0 < (w64 (b2 - (w64 (0 - 0))))) then (zrep 140737488355328 ((w64 (b2 - (w64 (0 - 0))))) ((0:UInt8):UInt8)).bind fun v10=>(cut v10 0 0).bind fun v12=>(iter (kka a0) ((0,v12))).bind fun b15=>some b15 else (iter (kVa a0) ((0,([]:List UInt8)))).bind fun b23=>some b23))
noncomputable def qZa(s17:zca):Option (Step zca zca):=
 ((bif (!s17.Client.Done) then (k9a s17).bind fun v22=>some ((v22.1,v22.2)) else some ((false,s17))):Option (Bool × zca)).bind fun (j20:Bool × zca)=>(bif j20.1 then some (.cont j20.2) else some (.out j20.2))
noncomputable def jCa(a0:zna)(a1:List UInt8):Option (zna × (List UInt8) × zqa):=
 (wOa a0).bind fun v1=>(zDa v1).bind fun v3=>(bif v3 then some (((zna.mk (([]:Str)) ((zua.mk ((zFa.mk (([]:Str)) ([]) (([]:Str)))) ((zta.mk ([]) ([]))))) false ([]) 0 false false ([])),[],v1)) else (bif decide (40000 < (w64 ((a0.Buffer.length:Int)+(a1.length:Int)))) then (zka 1 ((-1))).bind fun v7=>some (((zna.mk (([]:Str)) ((zua.mk ((zFa.mk (([]:Str)) ([]) (([]:Str)))) ((zta.mk ([]) ([]))))) false ([]) 0 false false ([])),[],v7)) else (vya a0.Mail).bind fun v9=>(kMa a0.Results).bind fun v11=>(kKa (([a0.Buffer,a1]:List (List UInt8)))).bind fun v13=>(vKa v9.Message).bind fun v15=>(iter (qZa) ((zca.mk ((zna.mk a0.Name v9 a0.Pipelined v13 a0.Expected a0.Whole a0.Done v11)) v15.1 v15.2 (([]:List UInt8))))).bind fun b18=>(((nilE b18.Client.Buffer.isEmpty (some ([])) ((app 140737488355328 ([]:List UInt8) b18.Client.Buffer).bind fun v28=>some v28)):Option (List UInt8)).bind fun (j26:List UInt8)=>(bif b18.Client.Done then some ((zca.mk ((zna.mk b18.Client.Name b18.Client.Mail b18.Client.Pipelined ([]) b18.Client.Expected b18.Client.Whole b18.Client.Done b18.Client.Results)) b18.content b18.chunk b18.out)) else some ((zca.mk ((zna.mk b18.Client.Name b18.Client.Mail b18.Client.Pipelined j26 b18.Client.Expected b18.Client.Whole b18.Client.Done b18.Client.Results)) b18.content b18.chunk b18.out))):Option zca).bind fun (j25:zca)=>(zHa).bind fun v31=>some ((j25.Client,j25.out,v31))))
noncomputable def yTa(a0:zna):Option (zna × zqa):=
 (wOa a0).bind fun v1=>(zDa v1).bind fun v3=>(bif v3 then some (((zna.mk (([]:Str)) ((zua.mk ((zFa.mk (([]:Str)) ([]) (([]:Str)))) ((zta.mk ([]) ([]))))) false ([]) 0 false false ([])),v1)) else (vya a0.Mail).bind fun v6=>(kMa a0.Results).bind fun v8=>(k7a ((zca.mk ((zna.mk a0.Name v6 a0.Pipelined ([]) a0.Expected a0.Whole a0.Done v8)) ([]) false (([]:List UInt8))))).bind fun v10=>(zHa).bind fun v12=>some ((v10.Client,v12)))
def VQa(a0:List Int)(a1:List Int)(s2:Int):Option (Step Int (Unit ⊕ Bool)):=
 (bif decide (s2 < (a0.length:Int)) then (idx a0 s2).bind fun v8=>(idx a1 s2).bind fun v10=>(bif (v8 !=v10) then some (.out (.inr false)) else some (.cont (w64 (s2+1)))) else some (.out (.inl (()))))
noncomputable def Y2a(a0:List Int)(a1:List Int):Option Bool:=
 (bif ((a0.length:Int) !=(a1.length:Int)) then some false else (iter (VQa a0 a1) 0).bind (Sum.elim (fun b3=>some true) (fun b4=>some b4)))
def Z5a(a0:List Str)(s1:Int × (List zba)):Option (Step (Int × (List zba)) (List zba)):=
 (bif decide (s1.1 < (a0.length:Int)) then (idx a0 s1.1).bind fun v5=>(app 5864062014805 s1.2 (([(zba.mk v5 1)]:List zba))).bind fun v7=>some (.cont ((w64 (s1.1+1)),v7)) else some (.out s1.2))
noncomputable def Z6a(a0:List Str):Option zua:=
 (iter (Z5a a0) ((0,([]:List zba)))).bind fun b2=>some ((zua.mk ((zFa.mk (([115,64,120]:Str)) b2 (([55]:Str)))) ((zta.mk ([]) ([])))))
section
theorem W3a(a b:Nat)(h:a+b<=9223372036854775807):w64 ((a:Int)+(b:Int))=((a+b:Nat):Int):=by
 rw[qwa (by omega) (by omega)];simp
theorem K2b(a k:Nat)(h:a+OfNat.ofNat k<=9223372036854775807):w64 ((a:Int)+(no_index (OfNat.ofNat k:Int)))=((a+OfNat.ofNat k:Nat):Int):=by
 have e:(OfNat.ofNat k:Int)=((OfNat.ofNat k:Nat):Int):=rfl;rw[e];exact W3a a _ h
theorem K3b(a b:Nat)(h:b<=a)(ha:a<=9223372036854775807):w64 ((a:Int) - (b:Int))=((a - b:Nat):Int):=by
 rw[qwa (by omega) (by omega)];omega
theorem wXb(a:Nat)(h:a<=9223372036854775807):w64 (a:Int)=(a:Int):=qwa (by omega) (by omega)
theorem ZIa(c:UInt8)(k:Nat)(hk:OfNat.ofNat k < 256):((c.toNat:Int)==no_index (OfNat.ofNat k:Int))=(c==OfNat.ofNat k):=by
 have e:(OfNat.ofNat k:Int)=((OfNat.ofNat k:Nat):Int):=rfl;have h2:(OfNat.ofNat k:UInt8).toNat=(OfNat.ofNat k:Nat):=by
  show (UInt8.ofNat k).toNat=k;rw[jCf];exact jDy hk
 rw[jAo,beq_iff_eq,beq_iff_eq,<-UInt8.toNat_inj,h2,e];omega
theorem u8_ne(c:UInt8)(k:Nat)(hk:OfNat.ofNat k < 256):((c.toNat:Int) !=no_index (OfNat.ofNat k:Int))=(c !=OfNat.ofNat k):=by
 unfold bne;rw[ZIa c k hk]
section
variable {α:Type}
theorem Zma(l:List α)(i:Nat):idx l (i:Int)=l[i]? :=by unfold idx;rw[if_pos (by omega)];simp
theorem yYb{l:List α}{i:Nat}(h:i < l.length):idx l (i:Int)=some l[i]:=by rw[Zma];exact jAj h
theorem idx_app(p:List α)(x:α)(r:List α):idx (p++x::r) (p.length:Int)=some x:=by rw[Zma];simp
theorem yZb{l:List α}{a b:Nat}(h1:a<=b)(h2:b<=l.length):cut l (a:Int) (b:Int)=some ((l.drop a).take (b - a)):=by
 unfold cut;rw[if_pos (by omega)];simp
theorem jba{l:List α}{a:Nat}(h1:a<=l.length):cut l (a:Int) (l.length:Int)=some (l.drop a):=by
 rw[yZb h1 (jAn _)];rw[jCm (by simp)]
theorem KNa{l:List α}{b:Nat}(h2:b<=l.length):cut l 0 (b:Int)=some (l.take b):=by
 have:=yZb (l:=l) (a:=0) (b:=b) (by omega) h2;simpa using this
theorem kRa{lim:Nat}{l xs:List α}(h:l.length+xs.length<=lim):app lim l xs=some (l++xs):=by unfold app;rw[if_pos h]
theorem vfa{a b:Str}(h:a.length+b.length<=9223372036854775807):cat a b=some (a++b):=by unfold cat;rw[if_pos h]
end
section
variable {A R:Type} {body:A->Option (Step A R)}
theorem kKb(Inv:A->Prop)(m:A->Nat)(Post:A->R->Prop)
 (h:∀s,Inv s->(∃r,body s=some (.out r)/\Post s r)∨∃s',body s=some (.cont s')/\Inv s' /\m s' < m s/\∀r,Post s' r->Post s r):
 ∀s,Inv s->∃r,iter body s=some r/\Post s r:=by
 intro s;induction hn:m s using Nat.strongRecOn generalizing s with
 | _ n ih=>
  intro hi;rcases h s hi with ⟨r,h1,h2⟩ | ⟨s',h1,h2,h3,h4⟩
  .exact ⟨r,zOa h1,h2⟩
  obtain ⟨r,h5,h6⟩:=ih (m s') (by omega) s' rfl h2;exact ⟨r,(zYa h1).trans h5,h4 r h6⟩
theorem WDa{α S:Type}(l:List α)(enc:Nat->S->A)(spec:Nat->List α->S->R)(Inv:Nat->List α->S->Prop)
 (h0:∀s,Inv l.length [] s->body (enc l.length s)=some (.out (spec l.length [] s)))
 (h1:∀p x r s,l=p++x::r->Inv p.length (x::r) s->(body (enc p.length s)=some (.out (spec p.length (x::r) s)))∨∃s',body (enc p.length s)=some (.cont (enc (p.length+1) s'))/\spec p.length (x::r) s=spec (p.length+1) r s' /\Inv (p.length+1) r s'):
 ∀{s0:A} (s:S) (_:s0=enc 0 s) (_:Inv 0 l s),iter body s0=some (spec 0 l s):=by
 have key:∀r p s,l=p++r->Inv p.length r s->iter body (enc p.length s)=some (spec p.length r s):=by
  intro r;induction r with
  | nil=>
   intro p s h hi;have:p=l:=by simp[h]
   subst this;exact zOa (h0 s hi)
  | cons x r ih=>
   intro p s h hi;rcases h1 p x r s h hi with hb | ⟨s',hb,hs,hi'⟩
   .exact zOa hb
   rw[zYa hb,hs];have:=ih (p++ [x]) s' (by simp[h]) (by simpa using hi');simpa using this
 rintro _ s rfl hi;exact key l [] s rfl hi
end
end
section
section
variable {α R O A S:Type}
def zPa(q:Nat->α->Option R):Nat->List α->Option R
 | _,[]=>none
 | i,x::r=>match q i x with | some y=>some y | none=>zPa q (i+1) r
theorem kga(l:List α)(q:Nat->α->Option R)(oN:O)(oS:R->O){body:Int->Option (Step Int O)}(hl:body (l.length:Int)=some (.out oN))
 (hs:∀(i:Nat) x,l[i]? =some x->body (i:Int)=some ((q i x).elim (.cont ((i+1:Nat):Int)) fun r=>.out (oS r))):
 iter body 0=some ((zPa q 0 l).elim oN oS):=by
 have key:∀r p,l=p++r->iter body (p.length:Int)=some ((zPa q p.length r).elim oN oS):=by
  intro r;induction r with
  | nil=>
   intro p h;have:p=l:=by simp[h]
   subst this;exact zOa hl
  | cons x r ih=>
   intro p h;have hx:=hs p.length x (by simp[h]);unfold zPa;cases hq:q p.length x with
   | some y=>rw[hq]at hx;exact zOa hx
   | none=>
    rw[hq]at hx;rw[zYa hx];have:=ih (p++ [x]) (by simp[h]);simpa using this
 exact key l [] rfl
theorem zEb(l:List α)(enc:Int->S->A)(f:Nat->S->α->S)(out:S->O)(Inv:Nat->S->Prop){body:A->Option (Step A O)}
 (hl:∀s,Inv l.length s->body (enc l.length s)=some (.out (out s)))
 (hs:∀(i:Nat) x s,l[i]? =some x->Inv i s->body (enc i s)=some (.cont (enc ((i+1:Nat):Int) (f i s x)))/\Inv (i+1) (f i s x)) (s:S) (h0:Inv 0 s):
 ∃t,iter body (enc 0 s)=some (out t)/\Inv l.length t/\t=(l.zipIdx.foldl (fun s p=>f p.2 s p.1) s):=by
 have key:∀r p s,l=p++r->Inv p.length s->∃t,iter body (enc (p.length:Int) s)=some (out t)/\Inv l.length t/\t=((r.zipIdx p.length).foldl (fun s p=>f p.2 s p.1) s):=by
  intro r;induction r with
  | nil=>
   intro p s h hi;have:p=l:=by simp[h]
   subst this;exact ⟨s,zOa (hl s hi),hi,rfl⟩
  | cons x r ih=>
   intro p s h hi;obtain ⟨h1,h2⟩:=hs p.length x s (by simp[h]) hi;rw[zYa h1];obtain ⟨t,h3,h4,h5⟩:=ih (p++ [x]) (f p.length s x) (by simp[h]) (by simpa using h2);refine ⟨t,by simpa using h3,h4,?_⟩;rw[h5];simp
 exact key l [] s rfl h0
theorem vcb(f:S->α->S)(l:List α):∀(n:Nat) (s:S),(l.zipIdx n).foldl (fun s p=>f s p.1) s=l.foldl f s:=by
 induction l with
 | nil=>intro n s;rfl
 | cons x r ih=>intro n s;simp[ih]
theorem KOa(l:List α)(enc:Int->S->A)(f:S->α->S)(out:S->O)(Inv:Nat->S->Prop){body:A->Option (Step A O)}
 (hl:∀s,Inv l.length s->body (enc l.length s)=some (.out (out s)))
 (hs:∀(i:Nat) x s,l[i]? =some x->Inv i s->body (enc i s)=some (.cont (enc ((i+1:Nat):Int) (f s x)))/\Inv (i+1) (f s x)) (s:S) (h0:Inv 0 s):
 iter body (enc 0 s)=some (out (l.foldl f s))/\Inv l.length (l.foldl f s):=by
 obtain ⟨t,h1,h2,h3⟩:=zEb l enc (fun _=>f) out Inv hl hs s h0;have:t=l.foldl f s:=by rw[h3];exact vcb f l 0 s
 subst this;exact ⟨h1,h2⟩
theorem Qsa(c:α->Bool)(r:R)(l:List α)(n:Nat):zPa (fun _ x=>if c x then some r else none) n l=if l.any c then some r else none:=by
 induction l generalizing n with
 | nil=>rfl
 | cons x l ih=>unfold zPa;cases h:c x <;> simp[h,ih]
theorem qia{q:Nat->α->Option R}{l:List α}{n:Nat}:zPa q n l=none↔∀(i:Nat) x,l[i]? =some x->q (n+i) x=none:=by
 induction l generalizing n with
 | nil=>simp[zPa]
 | cons x l ih=>
  unfold zPa;cases h:q n x with
  | some y=>
   simp only[reduceCtorEq,false_iff];intro hh;have:=hh 0 x rfl;rw[jCy,h]at this;cases this
  | none=>
   rw[ih];constructor
   .intro hh i y hy;cases i with
    | zero=>simp at hy;subst hy;exact h
    | succ i=>rw[show n+(i+1)=n+1+i by omega];exact hh i y (by simpa using hy)
   intro hh i y hy;rw[show n+1+i=n+(i+1) by omega];exact hh (i+1) y (by simpa using hy)
theorem jDa{q:Nat->α->Option R}{l:List α}{n:Nat}{r:R}(h:zPa q n l=some r):∃(i:Nat) (x:α),l[i]? =some x/\q (n+i) x=some r:=by
 induction l generalizing n with
 | nil=>cases h
 | cons x l ih=>
  unfold zPa at h;cases hq:q n x with
  | some y=>rw[hq]at h;cases h;exact ⟨0,x,rfl,hq⟩
  | none=>
   rw[hq]at h;obtain ⟨i,y,h1,h2⟩:=ih h;exact ⟨i+1,y,by simpa using h1,by rw[show n+(i+1)=n+1+i by omega];exact h2⟩
theorem kla{l:List α}{i:Nat}{x:α}(h:l[i]? =some x):i < l.length:=(jAd.1 h).1
theorem qQa{l:List α}{i:Nat}{x:α}(h:l[i]? =some x):decide ((i:Int) < (l.length:Int))=true:=by have:=kla h;simp;omega
theorem kLa(l:List α):decide ((l.length:Int) < (l.length:Int))=false:=by simp
theorem kma{l:List α}{i:Nat}{x:α}(h:l[i]? =some x):idx l (i:Int)=some x:=by rw[Zma];exact h
end
end
section
theorem Y3a{α:Type}(c:α->Bool)(l:List α):∀n:Nat,decide ((0:Int)<=(zPa (fun i x=>if c x then some ((i:Nat):Int) else none) n l).getD (-1))=l.any c:=by
 induction l with
 | nil=>intro n;rfl
 | cons x l ih=>
  intro n;unfold zPa;cases hc:c x with
  | true=>simp[hc]
  | false=>simp only[jAr,if_false,jDl,hc,jDs];exact ih (n+1)
theorem kLb(o:Option Int):Sum.elim (fun _=>some (-1)) (fun b=>some b) (o.elim (Sum.inl ()) Sum.inr:Unit ⊕ Int)=some (o.getD (-1)):=by cases o <;> rfl
theorem sc(i:Nat)(h:i < 9223372036854775807):w64 ((i:Int)+1)=((i+1:Nat):Int):=by rw[show ((i:Int)+1)=((i+1:Nat):Int) by omega,wXb _ (by omega)]
theorem bkL_pos{T:Type}(bk:T->Nat)(l:List T):1<=bkL bk l:=by
 induction l with
 | nil=>simp[bkL]
 | cons y l ih=>unfold bkL;omega
theorem K4b{T:Type}{bk:T->Nat}{l:List T}{x:T}(h:x∈l):bk x+1<=bkL bk l:=by
 induction l with
 | nil=>cases h
 | cons y l ih=>
  unfold bkL;have hp:=bkL_pos bk l;rcases jBh.1 h with rfl | h
  .omega
  have:=ih h;omega
theorem kMb{T:Type}{bk:T->Nat}(hb:∀x,1<=bk x)(l:List T):l.length+1<=bkL bk l:=by
 induction l with
 | nil=>simp[bkL]
 | cons y l ih=>unfold bkL;have:=hb y;simp;omega
section
variable {α:Type}
end
theorem Zmb{V:Type}(m:List (Str × V))(k:Str)(v:V)(x:Str):mget (mput m k v) x=if k==x then some v else mget m x:=by
 induction m with
 | nil=>rfl
 | cons p m ih=>
  obtain ⟨k',v'⟩:=p;unfold mput;by_cases h:k' =k
  .subst h;simp only[beq_self_eq_true,if_true,mget];cases k' ==x <;> simp
  have h1:(k' ==k)=false:=by simpa using h
  rw[h1];simp only[jAr,if_false,mget];rw[ih];by_cases h2:k' =x
  .subst h2;have:(k==k')=false:=by simpa using fun h' =>h h'.symm
   simp[this]
  have:(k' ==x)=false:=by simpa using h2
  rw[this];simp
section
variable {α A S O:Type}
end
end
theorem vga{u:Nat}(h:u < 10):Lib.decDigits u=[UInt8.ofNat (48+u)]:=by rw[Lib.decDigits,dif_pos h]
theorem YDa{u:Nat}(h:¬u < 10):Lib.decDigits u=Lib.decDigits (u / 10)++Lib.decDigits (u % 10):=by
 rw[Lib.decDigits,dif_neg h,vga (show u % 10 < 10 by omega)]
theorem yGa:∀(k u:Nat),u < 10 ^ (k+1)->(Lib.decDigits u).length<=k+1
 | 0,u,h=>by rw[vga (by simpa using h)];simp
 | k+1,u,h=>by
  by_cases h10:u < 10
  .rw[vga h10];simp
  have:=yGa k (u / 10) (by rw[Nat.pow_succ]at h;omega);rw[YDa h10,vga (show u % 10 < 10 by omega)];simp;omega
theorem y0b(u:Nat):1<=(Lib.decDigits u).length:=by
 by_cases h10:u < 10
 .rw[vga h10];simp
 rw[YDa h10,vga (show u % 10 < 10 by omega)];simp
theorem jEa(u:Nat)(h:u<=9223372036854775807):zMa (u:Int)=some (Lib.decDigits u):=by
 unfold zMa;rw[if_pos (by omega),Lib.itoa_nonneg]
def wYb(c:UInt8):Bool:=(decide (97<=c) && decide (c<=122)) || (decide (65<=c) && decide (c<=90)) || (decide (48<=c) && decide (c<=57))
def W4a(c:UInt8):Bool:=(decide (97<=c) && decide (c<=122)) || (decide (48<=c) && decide (c<=57)) || c==45 || c==46
def wZb(c:UInt8):Bool:=wYb c || c==45 || c==95 || c==46 || c==43 || c==61
def zFb:Bool->Str->Bool
 | p,[]=> !p
 | p,c::r=>if c=46 then !p && zFb true r else zFb false r
def domP(s:Str):Bool:=decide (s.length<=60) && s.all W4a && zFb true s
def atP(s:Str):Nat:=s.findIdx (· ==64)
def qja(s:Str):Bool:=decide (atP s < s.length) && decide (1<=atP s) && decide (atP s<=60) && (s.take (atP s)).all wZb && domP (s.drop (atP s+1))
theorem W5a(k:Nat)(c:UInt8)(hk:OfNat.ofNat k < 256):decide ((no_index (OfNat.ofNat k:Int))<=(c.toNat:Int))=decide ((OfNat.ofNat k:UInt8)<=c):=by
 have e:(OfNat.ofNat k:Int)=((OfNat.ofNat k:Nat):Int):=rfl;have h2:(OfNat.ofNat k:UInt8).toNat=(OfNat.ofNat k:Nat):=by
  show (UInt8.ofNat k).toNat=k;rw[jCf];exact jDy hk
 rw[jAo,decide_eq_true_eq,decide_eq_true_eq,jDu,h2,e];omega
theorem W6a(k:Nat)(c:UInt8)(hk:OfNat.ofNat k < 256):decide ((c.toNat:Int)<=(no_index (OfNat.ofNat k:Int)))=decide (c<=(OfNat.ofNat k:UInt8)):=by
 have e:(OfNat.ofNat k:Int)=((OfNat.ofNat k:Nat):Int):=rfl;have h2:(OfNat.ofNat k:UInt8).toNat=(OfNat.ofNat k:Nat):=by
  show (UInt8.ofNat k).toNat=k;rw[jCf];exact jDy hk
 rw[jAo,decide_eq_true_eq,decide_eq_true_eq,jDu,h2,e];omega
theorem KPa(c:UInt8):wLa c=some (wYb c):=by
 unfold wLa wYb;simp only[W5a 97 c (by decide),W6a 122 c (by decide),W5a 65 c (by decide),W6a 90 c (by decide),W5a 48 c (by decide),W6a 57 c (by decide)];cases decide ((97:UInt8)<=c) <;> cases decide (c<=122) <;> cases decide ((65:UInt8)<=c) <;> cases decide (c<=90) <;> cases decide ((48:UInt8)<=c) <;> cases decide (c<=57) <;> rfl
theorem kNb(s:Str):∀p,zFb p s=(!(p && (s.isEmpty || s.head? ==some 46)) && !(s.getLast? ==some 46) && !Lib.contains s [46,46]):=by
 induction s with
 | nil=>intro p;cases p <;> simp[zFb,Lib.contains,Lib.index]
 | cons c r ih=>
  intro p;have hcont:Lib.contains (c::r) [46,46]=((c==46 && r.head? ==some 46) || Lib.contains r [46,46]):=by
   unfold Lib.contains;rw[Lib.index];have hpre:([46,46]:List UInt8).isPrefixOf (c::r)=(c==46 && r.head? ==some 46):=by
    cases r with
    | nil=>simp[List.isPrefixOf]
    | cons d r=>simp only[List.isPrefixOf,List.head?_cons,jEh];rw[jAo];simp;constructor <;> rintro ⟨rfl,rfl⟩ <;> exact ⟨rfl,rfl⟩
   rw[hpre];have hg:=Lib.index_ge r [46,46];cases c==46 && r.head? ==some 46 with
   | true=>simp
   | false=>
    simp only[jAr,if_false,jDs];by_cases h:Lib.index r [46,46]= -1
    .simp[h]
    have:(Lib.index r [46,46]== -1)=false:=by simpa using h
    rw[this];simp only[jAr,if_false];rw[jAo];simp;omega
  rw[hcont,zFb];have hlast:(c::r).getLast? =if r.isEmpty then some c else r.getLast? :=by cases r <;> simp
  rw[hlast];by_cases hc:c=46
  .subst hc;rw[if_pos rfl,ih true];cases r with
   | nil=>simp
   | cons d r=>cases p <;> cases hd:(d==46) <;> simp_all [Bool.and_comm,jDw,Bool.and_left_comm]
  have h1:(c==46)=false:=by simpa using hc
  have h2:(some c==some (46:UInt8))=false:=by simpa using hc
  rw[if_neg hc,ih false];cases r with
  | nil=>simp[h1,h2,Lib.contains,Lib.index,hc]
  | cons d r=>simp[h1,h2,hc]
theorem QJa(s t:Str):k5a s t=some (t.isPrefixOf s):=by
 unfold k5a kna;by_cases h:t.length<=s.length
 .have:decide ((t.length:Int)<=(s.length:Int))=true:=by simp;omega
  rw[this,KNa h];simp only[cond_true,jAc,Option.some.injEq];rw[jAo,beq_iff_eq,List.isPrefixOf_iff_prefix,List.prefix_iff_eq_take];constructor <;> exact fun h=>h.symm
 have:decide ((t.length:Int)<=(s.length:Int))=false:=by simp;omega
 rw[this];simp only[cond_false,jAc,Option.some.injEq]
 symm
 rw[jCo];intro hp;exact h (List.isPrefixOf_iff_prefix.1 hp).length_le
theorem QKa(s t:Str)(hs:s.length<=9223372036854775806):k6a s t=some (t.isSuffixOf s):=by
 unfold k6a koa;by_cases h:t.length<=s.length
 .have:decide ((t.length:Int)<=(s.length:Int))=true:=by simp;omega
  rw[this,K3b _ _ h (by omega),jba (by omega)];simp only[cond_true,jAc,Option.some.injEq];rw[jAo,beq_iff_eq,jBk,List.suffix_iff_eq_drop];constructor <;> exact fun h=>h.symm
 have:decide ((t.length:Int)<=(s.length:Int))=false:=by simp;omega
 rw[this];simp only[cond_false,jAc,Option.some.injEq]
 symm
 rw[jCo];intro hp;exact h (jBk.1 hp).length_le
theorem dom_char(c:UInt8):((bif decide ((97:UInt8)<=c) then (bif decide (c<=122) then some true else (bif decide ((48:UInt8)<=c) then (bif decide (c<=57) then some true else (bif (c==45) then some true else some (c==46))) else (bif (c==45) then some true else some (c==46)))) else (bif decide ((48:UInt8)<=c) then (bif decide (c<=57) then some true else (bif (c==45) then some true else some (c==46))) else (bif (c==45) then some true else some (c==46)))):Option Bool)=some (W4a c):=by
 unfold W4a;cases decide ((97:UInt8)<=c) <;> cases decide (c<=122) <;> cases decide ((48:UInt8)<=c) <;> cases decide (c<=57) <;> cases (c==45) <;> rfl
theorem VRa(s:Str)(hs:s.length < 4294967281):vYa s=some (domP s):=by
 have hloop:iter (qPa s) 0=some ((zPa (fun _ c=>if !W4a c then some () else none) 0 s).elim (.inl ()) .inr):=by
  refine kga s _ (Sum.inl ()) Sum.inr ?_ ?_
  .unfold qPa;rw[kLa];rfl
  intro i c hc;have hi:=kla hc;unfold qPa;rw[qQa hc,kma hc];simp only[cond_true,jAc,ZIa c 45 (by decide),ZIa c 46 (by decide),W5a 97 c (by decide),W6a 122 c (by decide),W5a 48 c (by decide),W6a 57 c (by decide),dom_char];rw[show ((i:Int)+1)=((i+1:Nat):Int) by omega,wXb _ (by omega)];cases W4a c <;> rfl
 unfold vYa domP;rw[hloop,Qsa,kNb];by_cases hn:s=[]
 .subst hn;simp
 have h1:(s !=([]:Str))=true:=by simpa using hn
 rw[h1];simp only[cond_true];by_cases hl:s.length<=60
 .have h2:decide ((s.length:Int)<=60)=true:=by simp;omega
  rw[h2];have hall:s.any (fun c=> !W4a c)= !(s.all W4a):=by simp[List.not_all_eq_any_not]
  rw[hall];cases hg:s.all W4a with
  | false=>simp[hl]
  | true=>
   simp only[jBf,jAr,if_false,Option.elim,jAc,cond_true,QJa,QKa s [46] (by omega),qga,if_pos hs];have hp:([46]:Str).isPrefixOf s=(s.head? ==some 46):=by
    cases s with
    | nil=>rfl
    | cons d r=>simp only[List.isPrefixOf,List.head?_cons,jEh];rw[jAo];simp;exact ⟨fun h=>h.symm,fun h=>h.symm⟩
   have hsf:([46]:Str).isSuffixOf s=(s.getLast? ==some 46):=by
    rw[jAo,jBk,beq_iff_eq];constructor
    .rintro ⟨t,rfl⟩;simp
    intro h;obtain ⟨ys,rfl⟩:=List.getLast?_eq_some_iff.1 h;exact ⟨ys,rfl⟩
   have he:s.isEmpty=false:=by simpa using hn
   rw[hp,hsf,he];cases s.head? ==some 46 <;> cases s.getLast? ==some 46 <;> cases Lib.contains s [46,46] <;> simp[hl]
 have h2:decide ((s.length:Int)<=60)=false:=by simp;omega
 rw[h2];simp[hl]
theorem kOb(s:Str):Lib.index s [64]=if atP s < s.length then (atP s:Int) else -1:=by
 rw[Lib.index_one];unfold atP;induction s with
 | nil=>rfl
 | cons c r ih=>
  rw[Lib.indexByte,List.findIdx_cons];cases hc:(c==64) with
  | true=>simp
  | false=>
   simp only[jAr,if_false,cond_false,jAu];rw[ih];by_cases h:r.findIdx (· ==64) < r.length
   .simp only[if_pos h,if_pos (show r.findIdx (· ==64)+1 < r.length+1 by omega)];have:(((r.findIdx (· ==64):Nat):Int)== -1)=false:=by rw[beq_eq_false_iff_ne];omega
    rw[this];simp
   simp only[if_neg h,if_neg (show ¬(r.findIdx (· ==64)+1 < r.length+1) by omega)];simp
theorem cut_at(s:Str):Lib.cut s [64]=if atP s < s.length then (s.take (atP s),s.drop (atP s+1),true) else (s,[],false):=by
 unfold Lib.cut;rw[kOb];by_cases h:atP s < s.length
 .rw[if_pos h,if_pos h,if_pos (by omega)];simp
 rw[if_neg h,if_neg h,if_neg (by omega)]
def y1b(s:Str):Str × Str × Bool:=if atP s < s.length then (s.take (atP s),s.drop (atP s+1),qja s) else (s,[],false)
theorem K5b(c:UInt8):(wYb c || decide (0<=Lib.indexByte [45,95,46,43,61] c))=wZb c:=by
 unfold wZb;by_cases h1:c=45
 .subst h1;decide
 by_cases h2:c=95
 .subst h2;decide
 by_cases h3:c=46
 .subst h3;decide
 by_cases h4:c=43
 .subst h4;decide
 by_cases h5:c=61
 .subst h5;decide
 rw[beq_eq_false_iff_ne.2 h1,beq_eq_false_iff_ne.2 h2,beq_eq_false_iff_ne.2 h3,beq_eq_false_iff_ne.2 h4,beq_eq_false_iff_ne.2 h5];simp[Lib.indexByte,Ne.symm h1,Ne.symm h2,Ne.symm h3,Ne.symm h4,Ne.symm h5]
theorem WEa(s:Str)(hs:s.length < 4294967281):wqa s=some (y1b s):=by
 have hloop:∀v:Str × Str × Bool,v.1.length < 4294967281->iter (vaa v) 0=some ((zPa (fun _ c=>if !wZb c then some () else none) 0 v.1).elim (.inl ()) .inr):=by
  intro v hv;refine kga v.1 _ (Sum.inl ()) Sum.inr ?_ ?_
  .unfold vaa;rw[kLa];rfl
  intro i c hc;have hi:=kla hc;unfold vaa;rw[qQa hc,kma hc];simp only[cond_true,jAc,KPa,z1a];rw[show ((i:Int)+1)=((i+1:Nat):Int) by omega,wXb _ (by omega)];have hg:=K5b c;cases hl:wYb c with
  | true=>rw[hl]at hg;simp only[Bool.true_or]at hg;rw[<-hg];rfl
  | false=>rw[hl]at hg;simp only[jDs]at hg;rw[<-hg];cases decide (0<=Lib.indexByte [45,95,46,43,61] c) <;> rfl
 unfold wqa vva;rw[if_pos hs,cut_at];simp only[jAc];unfold y1b;by_cases h:atP s < s.length
 .simp only[if_pos h,cond_true];rw[hloop _ (by simp;omega),Qsa];have hall:(s.take (atP s)).any (fun c=> !wZb c)= !((s.take (atP s)).all wZb):=by simp[List.not_all_eq_any_not]
  simp only[hall];have hlen:(s.take (atP s)).length=atP s:=by simp;omega
  rw[hlen,VRa _ (by simp;omega)];unfold qja;by_cases h0:atP s=0
  .simp[h0]
  have hne:(s.take (atP s) !=([]:Str))=true:=by
   simp only[bne_iff_ne,ne_eq];intro hx;have:=congrArg List.length hx;rw[hlen]at this;simp at this;omega
  rw[hne];by_cases h60:atP s<=60
  .have e:decide ((atP s:Int)<=60)=true:=by simp;omega
   rw[e];cases (s.take (atP s)).all wZb <;> simp[h,h60] <;> omega
  have e:decide ((atP s:Int)<=60)=false:=by simp;omega
  rw[e];simp[h60]
 simp[if_neg h]
theorem w0b(s:Str):(y1b s).2.2=qja s:=by
 unfold y1b;by_cases h:atP s < s.length
 .rw[if_pos h]
 rw[if_neg h];unfold qja;simp[h]
theorem qAa(s:Str)(hs:s.length < 4294967281):kxa s=some (qja s):=by
 unfold kxa;rw[WEa s hs];simp[w0b]
theorem Q2a(o:Option Unit)(a b:Bool):Sum.elim (fun _=>some a) (fun _=>some b) (o.elim (Sum.inl ()) Sum.inr:Unit ⊕ Unit)=some (bif o.isSome then b else a):=by cases o <;> rfl
theorem VSa{α R:Type}(c:α->Bool)(r:R)(l:List α)(n:Nat):(zPa (fun _ x=>if c x then some r else none) n l).isSome=l.any c:=by
 rw[Qsa];cases l.any c <;> rfl
theorem w1b{α:Type}(l:List α)(p:α->Bool):l.any (fun x=> !p x)= !l.all p:=by simp[List.not_all_eq_any_not]
theorem R_At_eq(a b:Int):R_At a b=some ⟨a,b⟩:=rfl
theorem zAa(a b:Int):zka a b=some ⟨a,b⟩:=rfl
theorem zLa:zHa=some ⟨0,0⟩:=rfl
theorem zBa(f:zqa):zDa f=some (f.Code !=0):=rfl
theorem WFa(o:Option zqa)(f:zqa):Sum.elim (fun _=>some f) (fun b=>some b) (o.elim (Sum.inl ()) Sum.inr:Unit ⊕ zqa)=some (o.getD f):=by cases o <;> rfl
def nameC(c:UInt8):Bool:=wYb c || c==45 || c==95 || c==46
def v3a(s:Str):Bool:=decide (1<=s.length) && decide (s.length<=60) && s.all nameC
theorem KQa{s:Str}(h:v3a s=true):1<=s.length/\s.length<=60:=by
 unfold v3a at h;simp only[jAh,decide_eq_true_eq]at h;exact ⟨h.1.1,h.1.2⟩
theorem jha(s:Str)(hs:s.length<=1048576):wMa s=some (v3a s):=by
 have hloop:iter (w2a s) 0=some ((zPa (fun _ c=>if !nameC c then some () else none) 0 s).elim (.inl ()) .inr):=by
  refine kga s _ (Sum.inl ()) Sum.inr ?_ ?_
  .unfold w2a;rw[kLa];rfl
  intro i c hc;have hi:=kla hc;unfold w2a;rw[qQa hc,kma hc];simp only[cond_true,jAc,KPa,ZIa c 45 (by decide),ZIa c 95 (by decide),ZIa c 46 (by decide),sc i (by omega)];unfold nameC;cases wYb c <;> cases (c==45) <;> cases (c==95) <;> cases (c==46) <;> rfl
 unfold wMa v3a;rw[hloop];simp only[jAc,Q2a,VSa,w1b];by_cases hn:s=[]
 .subst hn;rfl
 have h1:(s !=([]:Str))=true:=by simpa using hn
 have h2:decide (1<=s.length)=true:=by have:=jCv.2 hn;simp;omega
 have e2:decide ((s.length:Int)<=60)=decide (s.length<=60):=by rw[jAo];simp;omega
 rw[h1,h2,e2];cases decide (s.length<=60) <;> cases s.all nameC <;> rfl
def qBa(n:Int):Bool:=decide (0<=n) && decide (n<=7)
def recQ(l:List zba)(i:Nat)(r:zba):Option zqa:=
 if !qja r.Address then some ⟨10,i⟩ else if !qBa r.Notify then some ⟨3,i⟩ else if (l.take i).any (fun x=>x.Address==r.Address) then some ⟨7,i⟩ else none
def recF(l:List zba):zqa:=(zPa (recQ l) 0 l).getD ⟨0,0⟩
def K6b(s:Str):Bool:=s !=([]:Str) && !qja s
def envF(e:zFa):zqa:=if K6b e.From then ⟨10, -10⟩ else if decide (e.To.length < 1) || decide (60 < e.To.length) then ⟨2, -11⟩ else if e.Id !=([]:Str) && !v3a e.Id then ⟨10, -12⟩ else recF e.To
def zGb(l:List zba):Prop:=l.length<=1048576/\∀a∈l,a.Address.length<=1048576
def jFa(e:zFa):Prop:=e.From.length<=1048576/\e.Id.length<=1048576/\zGb e.To
theorem yaa(n:Int):qza n=some (qBa n):=by unfold qza qBa;cases decide (0<=n) <;> rfl
theorem any_take(l:List zba)(i:Nat)(s:Str)(hl:l.length<=1048576):decide ((0:Int)<=(zPa (fun i x=>if x.Address==s then some ((i:Nat):Int) else none) 0 (l.take i)).getD (-1))=(l.take i).any (fun x=>x.Address==s):=Y3a (fun x=>x.Address==s) (l.take i) 0
theorem yna(l:List zba)(h:zGb l):kza l=some (recF l):=by
 obtain ⟨h3,h4⟩:=h;unfold kza recF;rw[kga l (recQ l) (.inl ()) .inr]
 .simp only[jAc,zLa,WFa]
 .unfold qIa;rw[kLa];rfl
 intro i r hr;have hi:=kla hr;have ha:=h4 r (jAi hr);have hl2:iter (k0a r (l.take i)) 0=some ((zPa (fun i x=>if x.Address==r.Address then some ((i:Nat):Int) else none) 0 (l.take i)).elim (.inl ()) .inr):=by
  refine kga (l.take i) _ (Sum.inl ()) Sum.inr ?_ ?_
  .unfold k0a;rw[kLa];rfl
  intro k x hx;have hk:=kla hx;simp at hk;unfold k0a;rw[qQa hx,kma hx];simp only[cond_true,jAc,sc k (by omega)];cases x.Address==r.Address <;> rfl
 unfold qIa recQ;rw[qQa hr,kma hr];simp only[cond_true,jAc,qAa _ (show r.Address.length < 4294967281 by omega),zAa,yaa,KNa (Nat.le_of_lt hi),hl2,kLb,any_take _ _ _ h3,sc i (by omega)];cases qja r.Address <;> cases qBa r.Notify <;> cases (l.take i).any (fun x=>x.Address==r.Address) <;> rfl
theorem QLa(e:zFa)(h:jFa e):vba e=some (envF e):=by
 obtain ⟨h1,h2,h3⟩:=h;unfold vba envF;rw[qAa _ (by omega),jha _ h2,yna _ h3];have e1:decide ((e.To.length:Int) < 1)=decide (e.To.length < 1):=by generalize e.To.length=n;rw[jAo];simp;omega
 have e2:decide ((60:Int) < (e.To.length:Int))=decide (60 < e.To.length):=by rw[jAo];simp;omega
 simp only[jAc,zAa,e1,e2];unfold K6b;cases e.From !=([]:Str) <;> cases qja e.From <;> cases decide (e.To.length < 1) <;> cases decide (60 < e.To.length) <;> cases e.Id !=([]:Str) <;> cases v3a e.Id <;> rfl
theorem K7b{e:zFa}(h:zFa.bk e<=1048576):jFa e:=by
 unfold zFa.bk at h;dsimp only at h;refine ⟨by omega,by omega,?_,fun a ha=>?_⟩
 .have:=kMb (bk:=zba.bk) (fun x=>by unfold zba.bk;omega) e.To;omega
 have h5:=K4b (bk:=zba.bk) ha;have h6:zba.bk a=a.Address.length+1+1+1:=rfl;omega
theorem W7a(b:UInt8):∀(l:Str) (acc:Nat),Lib.decFrom acc (l++ [b])=(Lib.decFrom acc l).bind fun n=>(Lib.digitVal b).map fun d=>n * 10+d
 | [],acc=>by
  simp only[jBm,Lib.decFrom,jAc];cases Lib.digitVal b <;> rfl
 | x::l,acc=>by
  rw[jBu,Lib.decFrom,Lib.decFrom];cases Lib.digitVal x with
  | none=>rfl
  | some d=>exact W7a b l _
theorem Zna{d:Nat}(h:d < 10):Lib.digitVal (UInt8.ofNat (48+d))=some d:=by
 have e:(UInt8.ofNat (48+d)).toNat=48+d:=by rw[jCf];omega
 unfold Lib.digitVal;rw[e,if_pos (by omega)]
 congr 1;omega
theorem Y4a:∀(k u:Nat),u < 10 ^ (k+1)->Lib.decFrom 0 (Lib.decDigits u)=some u
 | 0,u,h=>by
  rw[vga (by simpa using h),Lib.decFrom,Zna (show u < 10 by simpa using h)];simp[Lib.decFrom]
 | k+1,u,h=>by
  by_cases h10:u < 10
  .rw[vga h10,Lib.decFrom,Zna h10];simp[Lib.decFrom]
  rw[YDa h10,vga (show u % 10 < 10 by omega),W7a,Y4a k (u / 10) (by rw[Nat.pow_succ]at h;omega),Zna (by omega)];simp;omega
theorem Vka(u:Nat):Lib.decFrom 0 (Lib.decDigits u)=some u:=by
 refine Y4a u u<|jCg (Nat.lt_pow_self (by omega)) (Nat.pow_le_pow_right (by omega) (by omega))
theorem K8b(u:Nat):Lib.decDigits u≠ []:=by
 intro h;have:=y0b u;rw[h]at this;simp at this
theorem Qta(u:Nat):Lib.decNat (Lib.decDigits u)=some u:=by
 unfold Lib.decNat;have:(Lib.decDigits u).isEmpty=false:=by
  cases h:Lib.decDigits u with
  | nil=>exact absurd h (K8b u)
  | cons x l=>rfl
 rw[this];exact Vka u
theorem vdb(u:Nat):∃(d:Nat) (r:Str),d < 10/\Lib.decDigits u=UInt8.ofNat (48+d)::r/\(10<=u->1<=d)/\(u < 10->r=[]):=by
 induction u using Nat.strongRecOn with
 | _ u ih=>
  by_cases h10:u < 10
  .exact ⟨u,[],h10,vga h10,by omega,fun _=>rfl⟩
  obtain ⟨d,r,h1,h2,h3,h4⟩:=ih (u / 10) (by omega);refine ⟨d,r++Lib.decDigits (u % 10),h1,by rw[YDa h10,h2];rfl,fun _=>?_,by omega⟩;by_cases h5:10<=u / 10
  .exact h3 h5
  have h6:=vga (show u / 10 < 10 by omega);rw[h2]at h6;injection h6 with h7 _
  have h8:=congrArg UInt8.toNat h7;rw[jCf,jCf]at h8;omega
theorem jGa(u:Nat):∀c∈Lib.decDigits u,48<=c.toNat/\c.toNat<=57:=by
 intro c hc;obtain ⟨k,hk⟩:=List.mem_iff_getElem?.1 hc;obtain ⟨d,hd⟩:=Lib.digit_of_decFrom _ _ _ (Vka u) k c hk;have:=Lib.digitVal_eq hd;omega
theorem y2b(m:Nat):Lib.atoi (Lib.decDigits m)=some (m:Int):=by
 obtain ⟨d,r,h1,h2,_⟩:=vdb m;have e45:(UInt8.ofNat (48+d)==45)=false:=by
  rw[beq_eq_false_iff_ne];intro e;have:=congrArg UInt8.toNat e;rw[jCf]at this;have h45:(45:UInt8).toNat=45:=rfl;omega
 have e43:(UInt8.ofNat (48+d)==43)=false:=by
  rw[beq_eq_false_iff_ne];intro e;have:=congrArg UInt8.toNat e;rw[jCf]at this;have h43:(43:UInt8).toNat=43:=rfl;omega
 have hd:=Qta m;rw[h2]at hd ⊢;unfold Lib.atoi;dsimp only;rw[e45,e43,hd];rfl
def numP(s:Str):Option Nat:=if s.length<=9 then (match Lib.decNat s with | some m=>if Lib.decDigits m=s then some m else none | none=>none) else none
theorem K9b{s:Str}{m:Nat}(h:numP s=some m):s.length<=9/\Lib.decDigits m=s/\m < 1000000000:=by
 unfold numP at h;split at h
 .rename_i h9;split at h
  .rename_i n hn;split at h
   .rename_i he;cases h;have h1:=Lib.decFrom_lt _ _ _ (Lib.decNat_some hn).2;have h2:10 ^ s.length<=10 ^ 9:=Nat.pow_le_pow_right (by omega) h9;exact ⟨h9,he,by omega⟩
   cases h
  cases h
 cases h
theorem kPb{m:Nat}(h:m < 1000000000):numP (Lib.decDigits m)=some m:=by
 unfold numP;rw[if_pos (yGa 8 m (by omega)),Qta];simp
theorem Y5a(s:Str)(h9:s.length<=9):yPa s 999999999=some (match numP s with | some m=>((m:Int),true) | none=>(0,false)):=by
 have hlen:s.length<=18:=by omega
 unfold yPa qqa;rw[if_pos hlen];have noneCase:(∀m,s≠Lib.decDigits m)->numP s=none:=by
  intro hno;cases hm:numP s with
  | none=>rfl
  | some m=>exact absurd (K9b hm).2.1.symm (hno m)
 cases ha:Lib.atoi s with
 | none=>
  have:numP s=none:=by
   refine noneCase fun m hm=>?_
   have h3:Lib.atoi s=some (m:Int):=by rw[hm];exact y2b m
   rw[h3]at ha;cases ha
  rw[this];rfl
 | some n=>
  obtain ⟨b0,r,hs,hc⟩:=Lib.atoi_cases ha;have hbig: -1000000000000000000 < n/\n < 1000000000000000000:=by
   rcases hc with ⟨_,m,_,hm,rfl⟩ | ⟨_,m,_,hm,rfl⟩ | ⟨_,_,m,hm,rfl⟩
   .have:=Lib.decFrom_lt18 hm (by rw[hs]at hlen;simp at hlen;omega);omega
   .have:=Lib.decFrom_lt18 hm (by rw[hs]at hlen;simp at hlen;omega);omega
   have:=Lib.decFrom_lt18 hm (by rw[<-hs];exact hlen);omega
  simp only[jAc,cond_false];unfold zMa;rw[if_pos (by omega)];simp only[jAc];by_cases hi:Lib.itoa n=s
  .have:(Lib.itoa n !=s)=false:=by simp[hi]
   rw[this];simp only[cond_false];by_cases hn:n < 0
   .rw[decide_eq_true hn];have:numP s=none:=by
     refine noneCase fun m hm=>?_
     unfold Lib.itoa at hi;rw[if_pos hn]at hi;obtain ⟨d,r',h1,h2,_⟩:=vdb m;rw[hm,h2]at hi;injection hi with h3 _
     have:=congrArg UInt8.toNat h3;rw[jCf]at this;simp at this;omega
    rw[this];rfl
   rw[decide_eq_false hn];unfold Lib.itoa at hi;rw[if_neg hn]at hi;have hlt:n.toNat < 1000000000:=by
    have h1:=Lib.decFrom_lt _ _ _ (Vka n.toNat);rw[hi]at h1;have h2:10 ^ s.length<=10 ^ 9:=Nat.pow_le_pow_right (by omega) h9;omega
   have hP:numP s=some n.toNat:=by rw[<-hi];exact kPb hlt
   rw[hP];simp only[cond_false];rw[decide_eq_false (by omega)];simp only[cond_false,jAc];rw[show ((n.toNat:Nat):Int)=n by omega]
  have:(Lib.itoa n !=s)=true:=by simpa using hi
  rw[this];have hP:numP s=none:=by
   refine noneCase fun m hm=>hi ?_
   have h3:Lib.atoi s=some (m:Int):=by rw[hm];exact y2b m
   rw[ha]at h3;cases h3;rw[Lib.itoa_nonneg,hm]
  rw[hP];rfl
theorem yAa(s:Str):vJa s=some (match numP s with | some m=>((m:Int),true) | none=>(0,false)):=by
 unfold vJa;by_cases h9:s.length<=9
 .rw[decide_eq_false (by omega),Y5a s h9];cases numP s <;> rfl
 rw[decide_eq_true (by omega)];have:numP s=none:=by unfold numP;rw[if_neg h9]
 rw[this];rfl
def add1(o:List Str)(x:Str):List Str:=if o.contains x then o else o++ [x]
def zHb(o xs:List Str):List Str:=xs.foldl add1 o
theorem add1_mem(o:List Str)(x y:Str):y∈add1 o x↔y∈o∨y=x:=by
 unfold add1;split
 .rename_i h;simp at h;constructor
  .exact .inl
  rintro (h1 | rfl)
  .exact h1
  exact h
 simp
theorem w2b(o:List Str)(x:Str):o <+:add1 o x:=by
 unfold add1;split
 .exact List.prefix_refl _
 exact jCt _ _
theorem Znb{o:List Str}(h:o.Nodup)(x:Str):(add1 o x).Nodup:=by
 unfold add1;split
 .exact h
 rename_i hx;simp at hx;rw[List.nodup_append];exact ⟨h,by simp,fun a ha b hb hab=>by simp at hb;subst hb;subst hab;exact hx ha⟩
theorem Zob(xs:List Str):∀(o:List Str) (y:Str),y∈zHb o xs↔y∈o∨y∈xs:=by
 induction xs with
 | nil=>intro o y;simp[zHb]
 | cons x xs ih=>intro o y;show y∈zHb (add1 o x) xs↔_;rw[ih,add1_mem];simp[or_assoc]
theorem kQb(xs:List Str):∀o:List Str,o <+:zHb o xs:=by
 induction xs with
 | nil=>intro o;exact List.prefix_refl _
 | cons x xs ih=>intro o;exact (w2b o x).trans (ih _)
theorem veb(xs:List Str):∀{o:List Str},o.Nodup->(zHb o xs).Nodup:=by
 induction xs with
 | nil=>intro o h;exact h
 | cons x xs ih=>intro o h;exact ih (Znb h x)
theorem nodup_le{l m:List Str}(hl:l.Nodup)(h:∀x∈l,x∈m):l.length<=m.length:=by
 induction l generalizing m with
 | nil=>simp
 | cons x l ih=>
  have hx:x∈m:=h x (by simp);obtain ⟨hxl,hl'⟩:=List.nodup_cons.1 hl;have:=ih (m:=m.erase x) hl' (fun y hy=>by
   have hne:y≠x:=by rintro rfl;exact hxl hy
   exact (List.mem_erase_of_ne hne).2 (h y (by simp[hy])))
  rw[List.length_erase_of_mem hx]at this;have:0 < m.length:=List.length_pos_of_mem hx;simp;omega
def tgtO(l:List j8a)(s:Str):Option (List Str):=(l.find? (fun a=>a.Address==s)).map (·.To)
def tgt(l:List j8a)(s:Str):List Str:=(tgtO l s).getD []
def univ(l:List j8a)(from_:List Str):List Str:=from_++l.flatMap (·.To)
theorem tgt_sub(l:List j8a)(s x:Str)(h:x∈tgt l s):∃a∈l,a.Address=s/\x∈a.To:=by
 unfold tgt tgtO at h;cases hf:l.find? (fun a=>a.Address==s) with
 | none=>rw[hf]at h;simp at h
 | some a=>
  rw[hf]at h;have:=List.find?_some hf;exact ⟨a,List.mem_of_find?_eq_some hf,by simpa using this,by simpa using h⟩
structure Inv (l:List j8a) (U:List Str) (k:Nat) (out:List Str):Prop where
 nd:out.Nodup
 sub:∀x∈out,x∈U
 le:k<=out.length
theorem Inv.len{l:List j8a}{U:List Str}{k:Nat}{out:List Str}(h:Inv l U k out):out.length<=U.length:=nodup_le h.nd h.sub
theorem Inv.step{l:List j8a}{from_:List Str}{k:Nat}{out:List Str}(h:Inv l (univ l from_) k out){s:Str}(hs:out[k]? =some s):Inv l (univ l from_) (k+1) (zHb out (tgt l s)):=by
 refine ⟨veb _ h.nd,fun x hx=>?_,?_⟩
 .rcases (Zob _ _ _).1 hx with h1 | h1
  .exact h.sub x h1
  obtain ⟨a,ha,_,hxa⟩:=tgt_sub l s x h1;exact jCc.2 (.inr (List.mem_flatMap.2 ⟨a,ha,hxa⟩))
 have:=(kQb (tgt l s) out).length_le;have:=kla hs;omega
theorem kRb(s:Str)(i:Nat)(h:i < s.length):(strB s)[i]'(by rw[zNa];exact h)=s[i]:=rfl
theorem Qab(s:Str)(i:Nat)(h:i < s.length):(strB s).get! i=s[i]:=by
 have:=get_at (strB s) i (by rw[zNa];exact h);rw[jCy]at this;rw[this];rfl
theorem zIb{s:Str}{i:Nat}{c:UInt8}(h:s[i]? =some c)(hc:c.toNat < 128):QXa s i=(c.toNat:Int)/\ZAa s i=1:=by
 have hi:=kla h;have e:s[i]=c:=by rw[jAj hi]at h;exact Option.some.inj h
 have hd:=decode_ascii (strB s) i (by rw[zNa];exact hi) (by rw[kRb s i hi,e];exact hc);unfold QXa ZAa;rw[hd,kRb s i hi,e];exact ⟨rfl,rfl⟩
theorem Qbb{s:Str}{i:Nat}{c:UInt8}(h:s[i]? =some c)(hc:128<=c.toNat):128<=QXa s i/\QXa s i<=2147483647/\1<=ZAa s i:=by
 have hi:=kla h;have e:s[i]=c:=by rw[jAj hi]at h;exact Option.some.inj h
 have hd:=decode_high (strB s) i (by rw[zNa];exact hi) (by rw[kRb s i hi,e];exact hc);have hl:=decode_le (strB s) i;unfold QXa ZAa;exact ⟨by omega,by omega,hd.2⟩
theorem w3b(s:ByteArray)(pos:Nat):∀k,1<=k->k < (Utf8.decode s pos).2->(s.get! (pos+k)).toNat / 64=2:=by
 intro k h1 h2;simp only[Utf8.decode]at h2;repeat' split at h2
 all_goals first
  | (exfalso;simp at h2;omega)
  | (
   rename_i hq _;simp only[jAh,decide_eq_true_eq,beq_iff_eq]at hq;have h2:k < 2:=h2;obtain rfl:k=1:=by omega
   exact hq.2.2)
  | (
   rename_i hq _;simp only[jAh,decide_eq_true_eq,beq_iff_eq]at hq;have h2:k < 3:=h2;have:k=1∨k=2:=by omega
   rcases this with rfl | rfl
   .exact hq.1.2.2
   exact hq.2.2)
  | (
   rename_i hq _;simp only[jAh,decide_eq_true_eq,beq_iff_eq]at hq;have h2:k < 4:=h2;have:k=1∨k=2∨k=3:=by omega
   rcases this with rfl | rfl | rfl
   .exact hq.1.1.2.2
   .exact hq.1.2.2
   exact hq.2.2)
theorem Qcb{s:Str}{i j:Nat}{c d:UInt8}(h:s[i]? =some c)(hc:128<=c.toNat)(h1:i<=j)(h2:j < i+ZAa s i)(hj:s[j]? =some d):128<=d.toNat:=by
 by_cases e:j=i
 .subst e;rw[h]at hj;cases hj;exact hc
 have hjl:=kla hj;have e2:s[j]=d:=by rw[jAj hjl]at hj;exact Option.some.inj hj
 have:=w3b (strB s) i (j - i) (by omega) (by unfold ZAa at h2;omega);rw[show i+(j - i)=j by omega,Qab s j hjl,e2]at this;omega
theorem toU8_nat(c:UInt8):toU8 (c.toNat:Int)=c:=by
 unfold toU8;have:=c.toNat_lt;rw[show ((c.toNat:Int) % 256).toNat=c.toNat by omega];simp
theorem zJb{t:Str}(h:zDb t=true){c:UInt8}(hc:c∈t):c.toNat < 128:=by
 unfold zDb at h;rw[jAw]at h;simpa using h c hc
theorem Zpb{r:Int}(h:128<=r):∃m x,1<=m/\m<=3/\(Zka r).length=m+1/\(Zka r)[m]? =some x/\128<=x.toNat:=by
 unfold Zka;simp only[Utf8.encode];have hc:128<=(if Utf8.valid r=true then r.toNat else Utf8.runeError):=by
  split
  .omega
  decide
 generalize (if Utf8.valid r=true then r.toNat else Utf8.runeError)=c at hc;have hb:∀n:Nat,128<=(UInt8.ofNat (128+n % 64)).toNat:=by
  intro n;rw[jCf];have:(128+n % 64) % 2 ^ 8=128+n % 64:=jDy (by omega);rw[this];omega
 rw[if_neg (by omega)];split
 .exact ⟨1,_,by omega,by omega,rfl,rfl,hb c⟩
 split
 .exact ⟨2,_,by omega,by omega,rfl,rfl,hb c⟩
 exact ⟨3,_,by omega,by omega,rfl,rfl,hb c⟩
theorem J8a{t:Str}(h:∀c∈t,c.toNat < 128){x:UInt8}(hx:128<=x.toNat):Lib.indexByte t x= -1:=by
 have hc:=Lib.contains_iff_indexByte t x;have hn:t.contains x=false:=by
  rw[jCo];intro hm;have:=h x (by simpa using hm);omega
 rw[hn]at hc;have hge:=Lib.indexByte_ge t x;have:=of_decide_eq_false hc.symm;omega
theorem Y6a(t:Str)(c:UInt8)(hc:c.toNat < 128):kDa t (c.toNat:Int)=some (Lib.indexByte t c):=by
 unfold kDa;have h1:decide ((0:Int)<=(c.toNat:Int))=true:=by simp
 have h2:decide ((c.toNat:Int) < 128)=true:=by simp;omega
 rw[h1,h2];simp only[cond_true,jAc,toU8_nat];rfl
theorem J9a(t:Str)(r:Int)(hr:128<=r)(ht:∀c∈t,c.toNat < 128)(hl:t.length<=4294967281):kDa t r=some (-1):=by
 unfold kDa;have h1:decide ((0:Int)<=r)=true:=by simp;omega
 have h2:decide (r < 128)=false:=by simp;omega
 rw[h1,h2];simp only[cond_true,cond_false,jAc];cases hq:r==65533 with
 | true=>
  simp only[cond_true];obtain ⟨o,ho,rfl⟩:=kKb (body:=q4a t) (fun i=>i<=t.length) (fun i=>t.length - i) (fun _ o=>o=.inl ()) (fun i hi=>by
   unfold q4a;by_cases hlt:i < t.length
   .right;have hg:t[i]? =some t[i]:=jAj hlt;have hc:=ht t[i] (jDj hlt);obtain ⟨e1,e2⟩:=zIb hg hc;rw[e1,e2,decide_eq_true hlt];have hne:((t[i].toNat:Int)==65533)=false:=by rw[beq_eq_false_iff_ne];omega
    rw[hne];exact ⟨i+1,rfl,by omega,by omega,fun _ h=>h⟩
   left;rw[decide_eq_false hlt];exact ⟨.inl (),rfl,rfl⟩) 0 (jDd _)
  rw[ho];rfl
 | false=>
  simp only[cond_false];have hv:∃b,kZa r=some b:=by
   unfold kZa;cases decide (0<=r) <;> cases decide (r < 55296) <;> cases decide (57343 < r) <;> cases decide (r<=1114111) <;> exact ⟨_,rfl⟩
  obtain ⟨b,hb⟩:=hv;rw[hb];simp only[jAc];cases b with
  | false=>rfl
  | true=>
   simp only[jBf,cond_false];obtain ⟨m,x,hm1,hm3,hlen,hx,hx128⟩:=Zpb hr;have hst:w64 (((Zka r).length:Int) - 1)=(m:Int):=by rw[hlen,qwa (by omega) (by omega)];omega
   rw[hst];have hbody:∃o,q6a t r (m:Int)=some (.out o)/\(o=.inl ()∨o=.inr (-1)):=by
    unfold q6a;by_cases hlt:m < t.length
    .have hd:decide ((m:Int) < (t.length:Int))=true:=by simp;omega
     have hc:=ht t[m] (jDj hlt);rw[hd,hst,yYb hlt,kma hx];have hne:((t[m].toNat:Int) !=(x.toNat:Int))=true:=by simp;omega
     simp only[cond_true,jAc,hne];rw[show (m:Int)+1=((m+1:Nat):Int) by omega,wXb _ (by omega),jba (by omega)];simp only[jAc];have hib:z1a (t.drop (m+1)) x=some (-1):=by
      show some (Lib.indexByte (t.drop (m+1)) x)=_;rw[J8a (fun c hc=>ht c (List.mem_of_mem_drop hc)) hx128]
     rw[hib];exact ⟨.inr (-1),rfl,.inr rfl⟩
    have hd:decide ((m:Int) < (t.length:Int))=false:=by simp;omega
    rw[hd];exact ⟨.inl (),rfl,.inl rfl⟩
   obtain ⟨o,ho,ho2⟩:=hbody;rw[zOa ho];rcases ho2 with rfl | rfl <;> rfl
theorem vfb(s t:Str)(h8:s.length<=8)(h2:2<=t.length)(hl:t.length < 4294967281)(ht:zDb t=true):wca s t=some (Lib.indexAny s t):=by
 have htc:∀c∈t,c.toNat < 128:=fun c hc=>zJb ht hc
 unfold wca;have e1:(t==([]:Str))=false:=by rw[beq_eq_false_iff_ne];rintro rfl;simp at h2
 have e2:((t.length:Int)==1)=false:=by rw[beq_eq_false_iff_ne];omega
 have e3:zQa (s.length:Int)=some false:=by unfold zQa;simp;omega
 rw[e1,e2,e3];simp only[cond_false,jAc];obtain ⟨o,ho,ho2⟩:=kKb (body:=q7a s t) (fun i=>Lib.NoAny s t i) (fun i=>s.length - i) (fun _ o=>Sum.elim (fun _=>some (-1)) (fun b=>some b) o=some (Lib.indexAny s t)) (fun i hi=>by
  unfold q7a;by_cases hlt:i < s.length
  .have hg:s[i]? =some s[i]:=jAj hlt;rw[decide_eq_true hlt];simp only[cond_true];by_cases hc:s[i].toNat < 128
   .obtain ⟨q1,q2⟩:=zIb hg hc;rw[q1,q2,Y6a t _ hc];simp only[jAc];have hcon:=Lib.contains_iff_indexByte t s[i];rw[<-hcon];cases hin:t.contains s[i] with
    | true=>
     left;exact ⟨.inr (i:Int),rfl,by rw[Lib.indexAny_hit hi hg hin];rfl⟩
    | false=>
     right;exact ⟨i+1,rfl,hi.succ hg hin,by omega,fun _ h=>h⟩
   have hc:128<=s[i].toNat:=by omega
   obtain ⟨q1,q2,q3⟩:=Qbb hg hc;rw[J9a t _ q1 htc (by omega)];right;refine ⟨i+ZAa s i,rfl,fun j b hj hb=>?_,by omega,fun _ h=>h⟩;by_cases hji:j < i
   .exact hi j b hji hb
   have:=Qcb hg hc (by omega) hj hb;rw[jCo];intro hm;have:=htc b (by simpa using hm);omega
  left;rw[decide_eq_false hlt];refine ⟨.inl (),rfl,?_⟩;have hn:Lib.NoAny s t s.length:=fun j b hj hb=>hi j b (by omega) hb
  rw[Lib.indexAny_none hn];rfl) 0 (Lib.NoAny.zero s t)
 rw[ho];exact ho2
theorem vgb(t:Str):∀s:Str,decide (0<=Lib.indexAny s t)=s.any fun c=>t.contains c:=by
 intro s;induction s with
 | nil=>rfl
 | cons c s ih=>
  have hge:=Lib.indexAny_ge t s;rw[jDl,<-ih,Lib.indexAny];cases t.contains c with
  | true=>simp
  | false=>
   simp only[jAr,if_false,jDs];by_cases h:Lib.indexAny s t= -1
   .simp[h]
   have:(Lib.indexAny s t== -1)=false:=by simpa using h
   rw[this];simp only[jAr,if_false];rw[jAo];simp;omega
theorem yoa(s t:Str)(hs:s.length<=1048576)(h2:2<=t.length)(hl:t.length<=1048576)(ht:zDb t=true):zKa s t=some (s.any fun c=>t.contains c):=by
 unfold zKa qLa;rw[if_pos ⟨by omega,by omega,h2,ht⟩];simp only[jAc,vgb]
def kpa(c:UInt8):Bool:=c==32 || c==9
theorem Zoa(c:UInt8):vwa c=some (kpa c):=by
 unfold vwa kpa;rw[ZIa c 32 (by decide),ZIa c 9 (by decide)];cases c==32 <;> rfl
def fnC(c:UInt8):Bool:=decide (33<=c) && decide (c<=126) && c !=58
def fnP(s:Str):Bool:=s !=([]:Str) && decide (s.length<=60) && s.all fnC
theorem dec60(s:Str):decide ((s.length:Int)<=60)=decide (s.length<=60):=by generalize s.length=n;rw[jAo];simp;omega
theorem vhb(s:Str)(hs:s.length<=1048576):KLa s=some (fnP s):=by
 have hloop:iter (yLa s) 0=some ((zPa (fun _ c=>if !fnC c then some () else none) 0 s).elim (.inl ()) .inr):=by
  refine kga s _ (Sum.inl ()) Sum.inr ?_ ?_
  .unfold yLa;rw[kLa];rfl
  intro i c hc;have hi:=kla hc;unfold yLa;rw[qQa hc,kma hc];simp only[cond_true,jAc,u8_ne c 58 (by decide),W5a 33 c (by decide),W6a 126 c (by decide),sc i (by omega)];unfold fnC;cases decide ((33:UInt8)<=c) <;> cases decide (c<=126) <;> cases c !=58 <;> rfl
 unfold KLa fnP;rw[hloop];simp only[jAc,Q2a,VSa,w1b,dec60];cases s !=([]:Str) <;> cases decide (s.length<=60) <;> cases s.all fnC <;> rfl
def endC(c:UInt8):Bool:=c==13 || c==10 || c==0
theorem vib(s:Str)(hs:s.length<=1048576):KMa s=some (s.any endC):=by
 unfold KMa;rw[yoa s _ hs (by decide) (by decide) (by decide)];simp only[jAc,Option.some.injEq]
 congr 1
 funext c;rw[jAo];simp[endC,or_assoc]
def edgeP(s:Str):Bool:=match s.head?,s.getLast? with | some a,some b=>kpa a || kpa b | _,_=>false
def valP(s:Str):Bool:= !(s.any endC) && !(edgeP s)
theorem idx_last(s:Str)(h:s≠ [])(hs:s.length<=1048576):∃a b,idx s 0=some a/\idx s (w64 ((s.length:Int) - 1))=some b/\s.head? =some a/\s.getLast? =some b:=by
 have hpos:=jCv.2 h;obtain ⟨a,r,rfl⟩:=List.exists_cons_of_ne_nil h;have e:w64 (((a::r).length:Int) - 1)=((r.length:Nat):Int):=by
  have hl:(a::r).length=r.length+1:=rfl;rw[qwa (by omega) (by omega)];omega
 refine ⟨a,(a::r).getLast h,rfl,?_,rfl,List.getLast?_eq_some_getLast h⟩;rw[e,Zma,List.getLast_eq_getElem h,jAj (by simp)]
 congr 2
theorem kSb(s:Str)(hs:s.length<=1048576):ZDa s=some (valP s):=by
 unfold ZDa valP;rw[vib s hs];simp only[jAc];by_cases hn:s=[]
 .subst hn;rfl
 obtain ⟨a,b,h1,h2,h3,h4⟩:=idx_last s hn hs;have e:(s==([]:Str))=false:=by simpa using hn
 unfold edgeP;rw[h1,h2,h3,h4,e];simp only[jAc,Zoa,cond_false];cases s.any endC <;> cases kpa a <;> cases kpa b <;> rfl
def br(t:Str)(f i:Nat):Bool:=decide (1<=i) && decide (f<=i) && (match t[i]?,t[i - 1]? with | some a,some b=>kpa a && !kpa b | _,_=>false)
def kTb(t:Str)(f:Nat):Nat->Nat
 | 0=>0
 | i+1=>if br t f (i+1) then i+1 else kTb t f i
def w4b(t:Str)(f:Nat):Nat->Nat->Nat
 | 0,_=>0
 | n+1,i=>if br t f i then i else w4b t f n (i+1)
def cutP(t:Str)(f:Nat):Nat:=if kTb t f 78=0 then w4b t f (t.length - 79) 79 else kTb t f 78
def w5b(t:Str)(f c:Nat):Prop:=(c=0/\∀j,br t f j=false)∨(br t f c=true/\((c<=78/\∀j,c < j->j<=78->br t f j=false)∨(78 < c/\∀j,j < c->br t f j=false)))
theorem Qdb(t:Str)(f:Nat):br t f 0=false:=rfl
theorem kUb{t:Str}{f i:Nat}(h:br t f i=true):i < t.length/\1<=i/\f<=i:=by
 unfold br at h;simp only[jAh,decide_eq_true_eq]at h;obtain ⟨⟨h1,h2⟩,h3⟩:=h;refine ⟨?_,h1,h2⟩;cases hi:t[i]? with
 | none=>rw[hi]at h3;simp at h3
 | some a=>exact kla hi
theorem vjb{t:Str}{f c d:Nat}(h:w5b t f c)(k:w5b t f d):c=d:=by
 rcases h with ⟨rfl,h⟩ | ⟨hc,h⟩ <;> rcases k with ⟨rfl,k⟩ | ⟨hd,k⟩
 .rfl
 .rw[h]at hd;cases hd
 .rw[k]at hc;cases hc
 rcases Nat.lt_trichotomy c d with hlt | heq | hgt
 .exfalso;rcases h with ⟨h1,h2⟩ | ⟨h1,h2⟩ <;> rcases k with ⟨k1,k2⟩ | ⟨k1,k2⟩
  .rw[h2 d hlt k1]at hd;cases hd
  .rw[k2 c hlt]at hc;cases hc
  .omega
  rw[k2 c hlt]at hc;cases hc
 .exact heq
 exfalso;rcases h with ⟨h1,h2⟩ | ⟨h1,h2⟩ <;> rcases k with ⟨k1,k2⟩ | ⟨k1,k2⟩
 .rw[k2 c hgt h1]at hc;cases hc
 .omega
 .rw[h2 d hgt]at hd;cases hd
 rw[h2 d hgt]at hd;cases hd
theorem Zqb(t:Str)(f:Nat):∀n,(kTb t f n=0/\∀j,j<=n->br t f j=false)∨(br t f (kTb t f n)=true/\kTb t f n<=n/\∀j,kTb t f n < j->j<=n->br t f j=false):=by
 intro n;induction n with
 | zero=>left;exact ⟨rfl,fun j hj=>by
  obtain rfl:j=0:=by omega
  exact Qdb t f⟩
 | succ n ih=>
  unfold kTb;by_cases h:br t f (n+1)=true
  .rw[if_pos h];right;exact ⟨h,jAn _,fun j h1 h2=>by omega⟩
  rw[if_neg h];rcases ih with ⟨h1,h2⟩ | ⟨h1,h2,h3⟩
  .left;refine ⟨h1,fun j hj=>?_⟩;by_cases e:j=n+1
   .subst e;simpa using h
   exact h2 j (by omega)
  right;refine ⟨h1,by omega,fun j hj hjn=>?_⟩;by_cases e:j=n+1
  .subst e;simpa using h
  exact h3 j hj (by omega)
theorem Zrb(t:Str)(f:Nat):∀n i,(w4b t f n i=0/\∀j,i<=j->j < i+n->br t f j=false)∨(br t f (w4b t f n i)=true/\i<=w4b t f n i/\∀j,i<=j->j < w4b t f n i->br t f j=false):=by
 intro n;induction n with
 | zero=>intro i;left;exact ⟨rfl,fun j h1 h2=>by omega⟩
 | succ n ih=>
  intro i;unfold w4b;by_cases h:br t f i=true
  .rw[if_pos h];right;exact ⟨h,jAn _,fun j h1 h2=>by omega⟩
  rw[if_neg h];have hb:br t f i=false:=by simpa using h
  rcases ih (i+1) with ⟨h1,h2⟩ | ⟨h1,h2,h3⟩
  .left;refine ⟨h1,fun j hj hjn=>?_⟩;by_cases e:j=i
   .subst e;exact hb
   exact h2 j (by omega) (by omega)
  right;refine ⟨h1,by omega,fun j hj hjn=>?_⟩;by_cases e:j=i
  .subst e;exact hb
  exact h3 j (by omega) hjn
theorem w6b(t:Str)(f:Nat):w5b t f (cutP t f):=by
 unfold cutP;rcases Zqb t f 78 with ⟨h1,h2⟩ | ⟨h1,h2,h3⟩
 .rw[if_pos h1];rcases Zrb t f (t.length - 79) 79 with ⟨k1,k2⟩ | ⟨k1,k2,k3⟩
  .left;refine ⟨k1,fun j=>?_⟩;by_cases hj:j<=78
   .exact h2 j hj
   cases hb:br t f j with
   | false=>rfl
   | true=>have:=(kUb hb).1;rw[k2 j (by omega) (by omega)]at hb;cases hb
  right;refine ⟨k1,.inr ⟨by omega,fun j hj=>?_⟩⟩;by_cases hj2:j<=78
  .exact h2 j hj2
  exact k3 j (by omega) hj
 have hne:kTb t f 78≠0:=by intro h;rw[h,Qdb]at h1;cases h1
 rw[if_neg hne];exact .inr ⟨h1,.inl ⟨h2,h3⟩⟩
theorem Qua{t:Str}{f:Nat}(h:cutP t f≠0):1<=cutP t f/\cutP t f < t.length:=by
 rcases w6b t f with ⟨h1,_⟩ | ⟨h1,_⟩
 .exact absurd h1 h
 exact ⟨(kUb h1).2.1,(kUb h1).1⟩
theorem br_at{t:Str}{f i:Nat}(h1:1<=i)(hi:i < t.length):br t f i=(decide (f<=i) && (kpa t[i] && !kpa (t[i - 1]'(by omega)))):=by
 unfold br;rw[jAj hi,jAj (show i - 1 < t.length by omega)];simp[h1]
def PInv(t:Str)(f b i:Nat):Prop:=f<=i/\1<=i/\((b=0/\∀j,j < i->br t f j=false)∨(br t f b=true/\b < i/\((b<=78/\∀j,b < j->j < i->br t f j=false)∨(78 < b/\∀j,j < b->br t f j=false))))
theorem PInv.done{t:Str}{f b i:Nat}(h:PInv t f b i)(hi:0 < b/\78 < i∨t.length<=i):w5b t f b:=by
 obtain ⟨hf,h1,h2⟩:=h;rcases h2 with ⟨rfl,h3⟩ | ⟨h3,h4,h5⟩
 .left;refine ⟨rfl,fun j=>?_⟩;cases hb:br t f j with
  | false=>rfl
  | true=>
   have:=(kUb hb).1;rw[h3 j (by omega)]at hb;cases hb
 right;refine ⟨h3,?_⟩;rcases h5 with ⟨h6,h7⟩ | h6
 .left;refine ⟨h6,fun j hj hj2=>?_⟩;cases hb:br t f j with
  | false=>rfl
  | true=>
   have:=(kUb hb).1;rw[h7 j hj (by omega)]at hb;cases hb
 exact .inr h6
theorem kVb(t:Str)(f:Nat)(ht:t.length<=4194304)(hf:f<=4194304):ZEa t (f:Int)=some ((cutP t (max f 1):Nat):Int):=by
 unfold ZEa;have hstart:max (f:Int) 1=((max f 1:Nat):Int):=by omega
 rw[hstart];obtain ⟨r,h1,b,rfl,h2⟩:=kKb (body:=jfa t) (fun s=>∃b i:Nat,s=((b:Int),(i:Int))/\PInv t (max f 1) b i/\i<=4194305) (fun s=>(4194306 - s.2).toNat) (fun _ r=>∃c:Nat,r=(c:Int)/\w5b t (max f 1) c) (by
  rintro _ ⟨b,i,rfl,hI,hil⟩;have hi1:=hI.2.1;unfold jfa;dsimp only;by_cases hlt:i < t.length
  .have hd:decide ((i:Int) < (t.length:Int))=true:=by simp;omega
   have hpre:w64 ((i:Int) - 1)=((i - 1:Nat):Int):=by rw[qwa (by omega) (by omega)];omega
   rw[hd,yYb hlt,hpre,yYb (show i - 1 < t.length by omega)];have hb:=br_at (f:=max f 1) hi1 hlt;have hfi:decide (max f 1<=i)=true:=by simp only[decide_eq_true_eq];exact hI.1
   rw[hfi,Bool.true_and]at hb;simp only[cond_true,jAc,Zoa];have next:∀b' :Nat,PInv t (max f 1) b' (i+1)->vxa ((b:Int),(i:Int)) (b' :Int)=some (.cont ((b' :Int),((i+1:Nat):Int))):=by
    intro b' _;unfold vxa;dsimp only;rw[sc i (by omega)]
   have hno:br t (max f 1) i=false->PInv t (max f 1) b (i+1):=by
    intro hnb;refine ⟨by have:=hI.1;omega,by omega,?_⟩;rcases hI.2.2 with ⟨q1,q2⟩ | ⟨q1,q2,q3⟩
    .left;refine ⟨q1,fun j hj=>?_⟩;by_cases e:j=i
     .subst e;exact hnb
     exact q2 j (by omega)
    right;refine ⟨q1,by omega,?_⟩;rcases q3 with ⟨q4,q5⟩ | q4
    .left;refine ⟨q4,fun j hj hj2=>?_⟩;by_cases e:j=i
     .subst e;exact hnb
     exact q5 j hj (by omega)
    exact .inr q4
   have goNo:br t (max f 1) i=false->(∃s',vxa ((b:Int),(i:Int)) (b:Int)=some (.cont s')/\(∃b i:Nat,s' =((b:Int),(i:Int))/\PInv t (max f 1) b i/\i<=4194305)/\(4194306 - s'.2).toNat < (4194306 - ((i:Int))).toNat/\∀r:Int,(∃c:Nat,r=(c:Int)/\w5b t (max f 1) c)->∃c:Nat,r=(c:Int)/\w5b t (max f 1) c):=by
    intro hnb;exact ⟨_,next b (hno hnb),⟨b,i+1,rfl,hno hnb,by omega⟩,by dsimp only;omega,fun _ h=>h⟩
   cases ha:kpa t[i] with
   | false=>
    rw[ha]at hb;simp only[jDn,cond_true,jAc];exact .inr (goNo hb)
   | true=>
    rw[ha]at hb;simp only[jBf,cond_false,jAc];cases hp:kpa t[i - 1] with
    | true=>
     rw[hp]at hb;simp only[cond_true];exact .inr (goNo hb)
    | false=>
     rw[hp]at hb;have hb:br t (max f 1) i=true:=hb;simp only[cond_false];by_cases hb0:0 < b/\78 < i
     .left;have e1:decide ((0:Int) < (b:Int))=true:=by simp;omega
      have e2:decide ((78:Int) < (i:Int))=true:=by simp;omega
      rw[e1,e2];exact ⟨(b:Int),rfl,b,rfl,hI.done (.inl hb0)⟩
     right;have e:(bif decide ((0:Int) < (b:Int)) then some (decide ((78:Int) < (i:Int))) else some false)=some false:=by
      by_cases h0:0 < b
      .have e1:decide ((0:Int) < (b:Int))=true:=by simp;omega
       have e2:decide ((78:Int) < (i:Int))=false:=by simp;omega
       rw[e1,e2];rfl
      have e1:decide ((0:Int) < (b:Int))=false:=by simp;omega
      rw[e1];rfl
     rw[e];simp only[jAc,cond_false];have hnew:PInv t (max f 1) i (i+1):=by
      refine ⟨by have:=hI.1;omega,by omega,.inr ⟨hb,by omega,?_⟩⟩;by_cases h78:i<=78
      .exact .inl ⟨h78,fun j h1 h2=>by omega⟩
      right;refine ⟨by omega,?_⟩;rcases hI.2.2 with ⟨q1,q2⟩ | ⟨q1,q2,q3⟩
      .exact q2
      exfalso;have:=(kUb q1).2.1;omega
     exact ⟨_,next i hnew,⟨i,i+1,rfl,hnew,by omega⟩,by dsimp only;omega,fun _ h=>h⟩
  left;have hd:decide ((i:Int) < (t.length:Int))=false:=by simp;omega
  rw[hd];exact ⟨(b:Int),rfl,b,rfl,hI.done (.inr (by omega))⟩) ((0:Int),((max f 1:Nat):Int)) ⟨0,max f 1,rfl,⟨jAn _,by omega,.inl ⟨rfl,fun j hj=>by
  cases hb:br t (max f 1) j with
  | false=>rfl
  | true=>have:=(kUb hb).2.2;omega⟩⟩,by omega⟩
 rw[h1];simp only[jAc];rw[vjb h2 (w6b t (max f 1))]
def VTa:Nat->Str->Nat->List Str
 | 0,t,_=>[t]
 | n+1,t,f=>if 78 < t.length then (if cutP t f=0 then [t] else t.take (cutP t f)::VTa n (t.drop (cutP t f)) 1) else [t]
theorem kWb:∀(n m:Nat) (t:Str) (f:Nat),t.length<=n->t.length<=m->VTa n t f=VTa m t f:=by
 intro n;induction n with
 | zero=>
  intro m t f h1 h2;cases m with
  | zero=>rfl
  | succ m=>unfold VTa;rw[if_neg (by omega)]
 | succ n ih=>
  intro m t f h1 h2;cases m with
  | zero=>unfold VTa;rw[if_neg (by omega)]
  | succ m=>
   unfold VTa;split
   .split
    .rfl
    rename_i hc;have:=Qua hc;rw[ih m _ 1 (by simp;omega) (by simp;omega)]
   rfl
def jHa(t:Str)(f:Nat):List Str:=VTa t.length t f
theorem Zca{t:Str}{f:Nat}(h:78 < t.length)(hc:cutP t f≠0):jHa t f=t.take (cutP t f)::jHa (t.drop (cutP t f)) 1:=by
 unfold jHa;obtain ⟨n,hn⟩:∃n,t.length=n+1:=⟨t.length - 1,by omega⟩;have hp:=Qua hc;rw[hn,VTa,if_pos h,if_neg hc];rw[kWb n (t.drop (cutP t f)).length _ 1 (by simp;omega) (jAn _)]
theorem qCa{t:Str}{f:Nat}(h:¬78 < t.length∨cutP t f=0):jHa t f=[t]:=by
 unfold jHa;cases hn:t.length with
 | zero=>rfl
 | succ n=>
  rw[VTa];rcases h with h | h
  .rw[if_neg h]
  split
  .rfl
  rfl
theorem KRa:∀(n:Nat) (t:Str) (f:Nat),t.length<=n->(jHa t f).flatten=t/\(jHa t f).length<=t.length+1:=by
 intro n;induction n with
 | zero=>intro t f h;rw[qCa (.inl (by omega))];simp
 | succ n ih=>
  intro t f h;by_cases h78:78 < t.length
  .by_cases hc:cutP t f=0
   .rw[qCa (.inr hc)];simp
   have hp:=Qua hc;rw[Zca h78 hc];obtain ⟨h1,h2⟩:=ih (t.drop (cutP t f)) 1 (by simp;omega);rw[List.flatten_cons,h1];refine ⟨by simp,?_⟩;simp only[jAu,jCr]at h2 ⊢;omega
  rw[qCa (.inl h78)];simp
theorem Zsb{body:Str × Int × List Str->Option (Step (Str × Int × List Str) (Str × List Str))}(enc:Nat->Int)(g:Nat)
 (h:∀(t:Str) (f:Nat) (out:List Str),t.length<=4194304->out.length<=4194305->f<=4194304->body (t,enc f,out)=some (if 78 < t.length then (if cutP t (max f 1)=0 then .out (t,out) else .cont (t.drop (cutP t (max f 1)),enc g,out++ [t.take (cutP t (max f 1))])) else .out (t,out))) (h0:max g 1=1):
 ∀(n:Nat) (t:Str) (f:Nat) (out:List Str),t.length<=n->t.length<=4194304->out.length+t.length<=4194305->f<=4194304->∃last init,iter body (t,enc f,out)=some (last,init)/\init++ [last]=out++jHa t (max f 1):=by
 intro n;induction n with
 | zero=>
  intro t f out h1 h2 h3 h4;have hb:=h t f out h2 (by omega) h4;rw[if_neg (by omega)]at hb;exact ⟨t,out,zOa hb,by rw[qCa (.inl (by omega))]⟩
 | succ n ih=>
  intro t f out h1 h2 h3 h4;have hb:=h t f out h2 (by omega) h4;by_cases h78:78 < t.length
  .rw[if_pos h78]at hb;by_cases hc:cutP t (max f 1)=0
   .rw[if_pos hc]at hb;exact ⟨t,out,zOa hb,by rw[qCa (.inr hc)]⟩
   rw[if_neg hc]at hb;have hp:=Qua hc;obtain ⟨last,init,q1,q2⟩:=ih (t.drop (cutP t (max f 1))) g (out++ [t.take (cutP t (max f 1))]) (by simp;omega) (by simp;omega) (by simp;omega) (by omega);refine ⟨last,init,(zYa hb).trans q1,?_⟩;rw[q2,h0,Zca h78 hc];simp
  rw[if_neg h78]at hb;exact ⟨t,out,zOa hb,by rw[qCa (.inl h78)]⟩
def txt(n v:Str):Str:=n++ [58,32]++v
def flP(n v:Str):List Str:=jHa (txt n v) (n.length+2)
theorem Qeb(t:Str)(f:Nat)(ht:t.length<=4194304)(hf:f<=4194304):∃last init,iter yMa (t,(f:Int),([]:List Str))=some (last,init)/\init++ [last]=jHa t (max f 1):=by
 have:=Zsb (body:=yMa) (fun n=>(n:Int)) 0 (fun t f out h1 h2 h3=>by
  unfold yMa;dsimp only;by_cases h78:78 < t.length
  .have hd:decide ((78:Int) < (t.length:Int))=true:=by rw[decide_eq_true_eq];omega
   rw[hd,if_pos h78,kVb t f h1 h3];simp only[cond_true,jAc];by_cases hc:cutP t (max f 1)=0
   .rw[if_pos hc,hc];rfl
   have hp:=Qua hc;have e:(((cutP t (max f 1):Nat):Int)==0)=false:=by rw[beq_eq_false_iff_ne];omega
   rw[if_neg hc,e,KNa (by omega),jba (by omega)];simp only[cond_false,jAc];rw[kRa (by simp;omega)];rfl
  have hd:decide ((78:Int) < (t.length:Int))=false:=by rw[decide_eq_false_iff_not];omega
  rw[hd,if_neg h78];rfl) (by decide) t.length t f [] (jAn _) ht (by simp;omega) hf
 simpa using this
theorem txt_cat(n v:Str)(hn:n.length<=1048576)(hv:v.length<=1048576):cat n [58,32]=some (n++ [58,32])/\cat (n++ [58,32]) v=some (txt n v)/\w64 ((n.length:Int)+2)=((n.length+2:Nat):Int):=by
 refine ⟨vfa (by simp;omega),vfa (by simp;omega),?_⟩;rw[qwa (by omega) (by omega)];omega
theorem kXb(n v:Str):(txt n v).length=n.length+2+v.length:=by unfold txt;simp;omega
def Y7a(i:Nat)(l:Str):Option Int:=if 998 < l.length then some (i:Int) else none
def w7b(n v:Str):List Str × zqa:=
 if !fnP n then ([],⟨10, -1⟩) else if 4000 < v.length then ([],⟨1, -1⟩) else if !valP v then ([],⟨11, -1⟩) else match zPa Y7a 0 (flP n v) with | some i=>([],⟨1,i⟩) | none=>(flP n v,⟨0,0⟩)
theorem fl_len(n v:Str):(flP n v).length<=n.length+v.length+3:=by
 have:=(KRa (txt n v).length (txt n v) (n.length+2) (jAn _)).2;have hl:=kXb n v;unfold flP;omega
theorem dec998(l:Str):decide ((998:Int) < (l.length:Int))=decide (998 < l.length):=by generalize l.length=n;rw[jAo];simp;omega
theorem KSa(n v:Str)(hn:n.length<=1048576)(hv:v.length<=1048576):jwa n v=some (w7b n v):=by
 obtain ⟨h1,h2,h3⟩:=txt_cat n v hn hv;have hl:=kXb n v;obtain ⟨last,init,q1,q2⟩:=Qeb (txt n v) (n.length+2) (by omega) (by omega);rw[show max (n.length+2) 1=n.length+2 by omega]at q2;unfold jwa w7b;rw[vhb n hn,kSb v hv];simp only[jAc,zAa,zLa];cases fnP n with
 | false=>rfl
 | true=>
  simp only[jBf,cond_false,jAr,if_false];by_cases h4:4000 < v.length
  .have hd:decide ((4000:Int) < (v.length:Int))=true:=by rw[decide_eq_true_eq];omega
   rw[hd,if_pos h4];rfl
  have hd:decide ((4000:Int) < (v.length:Int))=false:=by rw[decide_eq_false_iff_not];omega
  rw[hd,if_neg h4];simp only[cond_false];cases valP v with
  | false=>rfl
  | true=>
   simp only[jBf,cond_false,jAr,if_false];rw[h1];simp only[jAc];rw[h2];simp only[jAc];rw[h3,q1];simp only[jAc];have hj:=fl_len n v;have hfl:flP n v=init++ [last]:=q2.symm;have hj2:=hj;rw[hfl]at hj2;simp at hj2;rw[kRa (by simp;omega),<-hfl];simp only[jAc];rw[kga (flP n v) (fun i l=>(Y7a i l).map fun k=>(([]:List Str),(⟨1,k⟩:zqa))) (.inl ()) .inr]
   .simp only[jAc];have hm:∀(l:List Str) (i:Nat),zPa (fun i l=>(Y7a i l).map fun k=>(([]:List Str),(⟨1,k⟩:zqa))) i l=(zPa Y7a i l).map fun k=>(([]:List Str),(⟨1,k⟩:zqa)):=by
     intro l;induction l with
     | nil=>intro i;rfl
     | cons x l ih=>intro i;unfold zPa;rw[ih];cases Y7a i x <;> rfl
    rw[hm];cases zPa Y7a 0 (flP n v) <;> rfl
   .unfold Zba;rw[kLa];rfl
   intro i l hli;have hi:=kla hli;unfold Zba Y7a;rw[qQa hli,kma hli];simp only[cond_true,jAc,dec998,zAa,sc i (by omega)];by_cases h9:998 < l.length
   .simp[h9]
   simp[h9]
def Z7a(f:zga):Int:=(w7b f.Name f.Value).2.Code
def vkb(l:List Str):Bool:=l.any fun s=>decide (998 < s.length)
theorem zKb(l:List Str):∀n,(zPa Y7a n l).isSome=vkb l:=by
 induction l with
 | nil=>intro n;rfl
 | cons x l ih=>
  intro n;unfold zPa vkb Y7a;by_cases h:998 < x.length
  .simp[h]
  simp only[h,if_false,jDl,decide_false,jDs];exact ih (n+1)
def Ztb(n v:Str):Int:=if !fnP n then 10 else if 4000 < v.length then 1 else if !valP v then 11 else if vkb (flP n v) then 1 else 0
theorem YEa(f:zga):Z7a f=Ztb f.Name f.Value:=by
 unfold Z7a w7b Ztb;rw[<-zKb (flP f.Name f.Value) 0];split
 .rfl
 split
 .rfl
 split
 .rfl
 cases zPa Y7a 0 (flP f.Name f.Value) <;> rfl
def smallF(l:List zga):Prop:=l.length<=1048576/\∀f∈l,f.Name.length<=1048576/\f.Value.length<=1048576
def Y8a(i:Nat)(f:zga):Option zqa:=if Z7a f !=0 then some ⟨Z7a f,i⟩ else none
def WGa(l:List zga):zqa:=if 60 < l.length then ⟨2, -1⟩ else (zPa Y8a 0 l).getD ⟨0,0⟩
theorem dec60f(l:List zga):decide ((60:Int) < (l.length:Int))=decide (60 < l.length):=by generalize l.length=n;rw[jAo];simp;omega
theorem VUa(l:List zga)(h:smallF l):vZa l=some (WGa l):=by
 obtain ⟨h1,h2⟩:=h;unfold vZa WGa;rw[kga l Y8a (.inl ()) .inr]
 .simp only[jAc,zAa,zLa,WFa,dec60f];by_cases h6:60 < l.length <;> simp[h6]
 .unfold vOa;rw[kLa];rfl
 intro i f hf;have hi:=kla hf;obtain ⟨hn,hv⟩:=h2 f (jAi hf);unfold vOa Y8a;rw[qQa hf,kma hf];simp only[cond_true,jAc,KSa _ _ hn hv,zBa,zAa,sc i (by omega)];show (bif Z7a f !=0 then _ else _)=_;cases Z7a f !=0 <;> rfl
theorem Qva(l:List zga)(h:(WGa l).Code=0):¬60 < l.length/\zPa Y8a 0 l=none/\∀f∈l,Z7a f=0:=by
 unfold WGa at h;by_cases h6:60 < l.length
 .rw[if_pos h6]at h;simp at h
 rw[if_neg h6]at h;cases hq:zPa Y8a 0 l with
 | some y=>
  rw[hq]at h;obtain ⟨i,f,h1,h2⟩:=jDa hq;unfold Y8a at h2;exfalso;by_cases hc:Z7a f=0
  .simp[hc]at h2
  have:(Z7a f !=0)=true:=by simpa using hc
  rw[this]at h2;simp at h2;subst h2;exact hc h
 | none=>
  refine ⟨h6,rfl,fun f hf=>?_⟩;obtain ⟨i,hi⟩:=List.getElem?_of_mem hf;have:=qia.1 hq i f hi;unfold Y8a at this;simpa using this
theorem y3b{f:zga}(h:Z7a f=0):f.Name.length<=60/\f.Value.length<=4000/\w7b f.Name f.Value=(flP f.Name f.Value,⟨0,0⟩)/\∀l∈flP f.Name f.Value,l.length<=998:=by
 have h0:=h;rw[YEa]at h;unfold Ztb at h;have h1:fnP f.Name=true:=by cases hx:fnP f.Name with
  | true=>rfl
  | false=>rw[hx]at h;simp at h
 rw[h1]at h;simp only[jBf,jAr,if_false]at h;have h2:¬4000 < f.Value.length:=by intro hx;rw[if_pos hx]at h;simp at h
 rw[if_neg h2]at h;have h3:valP f.Value=true:=by cases hx:valP f.Value with
  | true=>rfl
  | false=>rw[hx]at h;simp at h
 rw[h3]at h;simp only[jBf,jAr,if_false]at h;have h4:vkb (flP f.Name f.Value)=false:=by cases hx:vkb (flP f.Name f.Value) with
  | false=>rfl
  | true=>rw[hx]at h;simp at h
 refine ⟨?_,by omega,?_,?_⟩
 .unfold fnP at h1;simp only[jAh,decide_eq_true_eq]at h1;exact h1.1.2
 .unfold w7b;rw[h1,h3];simp only[jBf,jAr,if_false,if_neg h2];have:=zKb (flP f.Name f.Value) 0;rw[h4]at this;cases hx:zPa Y7a 0 (flP f.Name f.Value) with
  | none=>rfl
  | some y=>rw[hx]at this;cases this
 intro l hl;unfold vkb at h4;rw[jCj]at h4;have:=h4 l hl;simp at this;omega
def addL(a:List UInt8)(l:Str):List UInt8:=a++l++ [13,10]
def addF(a:List UInt8)(f:zga):List UInt8:=(flP f.Name f.Value).foldl addL a
def zia(m:zta):List UInt8:=m.Fields.foldl addF []++ [13,10]++m.Body
theorem lines_wr(l:List Str)(acc:List UInt8)(hl:l.length<=5000)(h9:∀s∈l,s.length<=998)(ha:acc.length<=1000000000){body:Int × List UInt8->Option (Step (Int × List UInt8) (List UInt8))}
 (h0:∀s,body ((l.length:Int),s)=some (.out s)) (h1:∀(i:Nat) x s,l[i]? =some x->s.length<=1006000000->body ((i:Int),s)=some (.cont (((i+1:Nat):Int),addL s x))):iter body (0,acc)=some (l.foldl addL acc)/\(l.foldl addL acc).length<=acc.length+1000 * l.length:=
 KOa l (fun i s=>(i,s)) addL id (fun i s=>s.length<=acc.length+1000 * i) (body:=body) (fun s _=>h0 s) (fun i x s hx hi=>by
  have hlt:=kla hx;have h9x:=h9 x (jAi hx);refine ⟨h1 i x s hx (by omega),?_⟩;unfold addL;simp;omega) acc (by simp)
theorem Qfb(l:List zga)(hl:l.length<=60)(hc:∀f∈l,Z7a f=0){body:Int × List UInt8->Option (Step (Int × List UInt8) (List UInt8))}
 (h0:∀s,body ((l.length:Int),s)=some (.out s)) (h1:∀(i:Nat) f s,l[i]? =some f->s.length<=1000000000->body ((i:Int),s)=some (.cont (((i+1:Nat):Int),addF s f))/\(addF s f).length<=s.length+5000000):iter body (0,([]:List UInt8))=some (l.foldl addF [])/\(l.foldl addF []).length<=5000000 * l.length:=
 KOa l (fun i s=>(i,s)) addF id (fun i s=>s.length<=5000000 * i) (body:=body) (fun s _=>h0 s) (fun i f s hf hi=>by
  have hlt:=kla hf;obtain ⟨q1,q2⟩:=h1 i f s hf (by omega);exact ⟨q1,by omega⟩) [] (by simp)
theorem Kka(m:zta)(hb:m.Body.length<=1048576)(h60:m.Fields.length<=60)(hc:∀f∈m.Fields,Z7a f=0):wda m=some (zia m):=by
 unfold wda zia;obtain ⟨h1,h2⟩:=Qfb m.Fields h60 hc (body:=vFa m) (fun s=>by unfold vFa;rw[kLa];rfl) (fun i f s hf hs=>by
  have hi:=kla hf;obtain ⟨c1,c2,c3,c4⟩:=y3b (hc f (jAi hf));have hfl:=fl_len f.Name f.Value;obtain ⟨q1,q2⟩:=lines_wr (flP f.Name f.Value) s (by omega) c4 hs (body:=vEa (w7b f.Name f.Value)) (fun s=>by unfold vEa;rw[c3,kLa];rfl) (fun k x s hx hs=>by
   have hk:=kla hx;have:=c4 x (jAi hx);unfold vEa;rw[c3,qQa hx,kma hx];simp only[cond_true,jAc,sc k (by omega)];rw[kRa (by omega)];simp only[jAc];rw[kRa (by simp;omega)];rfl)
  unfold addF;refine ⟨?_,by omega⟩;unfold vFa;rw[qQa hf,kma hf];simp only[cond_true,jAc,KSa f.Name f.Value (by omega) (by omega),q1,sc i (by omega)])
 rw[h1];simp only[jAc];rw[kRa (by simp;omega)];simp only[jAc];rw[kRa (by simp;omega)];rfl
def Vla:Nat->List UInt8->Option Bool
 | _,[]=>none
 | c,[x]=>if x==13 || x==10 then some true else if 998 < c+1 then some false else none
 | c,x::y::r=>if x==13 && y==10 then Vla 0 r else if x==13 || x==10 then some true else if 998 < c+1 then some false else Vla (c+1) (y::r)
def YFa{O:Type}(e:Bool->O)(c i:Nat)(x:UInt8)(r:List UInt8):Step (Int × Int) (Unit ⊕ O):=
 if x==13 && r.head? ==some 10 then .cont (0,((i+2:Nat):Int)) else if x==13 || x==10 then .out (.inr (e true)) else if 998 < c+1 then .out (.inr (e false)) else .cont (((c+1:Nat):Int),((i+1:Nat):Int))
theorem Qgb{O:Type}(e:Bool->O)(l:List UInt8){body:Int × Int->Option (Step (Int × Int) (Unit ⊕ O))}
 (h0:∀c,body (c,(l.length:Int))=some (.out (.inl ())))
 (hs:∀(c:Nat) (p:List UInt8) x r,l=p++x::r->c<=998->body ((c:Int),(p.length:Int))=some (YFa e c p.length x r)):
 ∀(n:Nat) (r p:List UInt8) (c:Nat),r.length<=n->l=p++r->c<=998->iter body ((c:Int),(p.length:Int))=some ((Vla c r).elim (.inl ()) fun b=>.inr (e b)):=by
 intro n;induction n with
 | zero=>
  intro r p c hr hl hc;obtain rfl:r=[]:=jDc.1 (by omega);have:p=l:=by simp[hl]
  subst this;exact zOa (h0 _)
 | succ n ih=>
  intro r p c hr hl hc
  match r,hr,hl with
  | [],_,hl=>
   have:p=l:=by simp[hl]
   subst this;exact zOa (h0 _)
  | [x],hr,hl=>
   have hb:=hs c p x [] hl hc;unfold YFa at hb;have e1:(x==13 && ([]:List UInt8).head? ==some 10)=false:=by simp
   rw[e1]at hb;simp only[jAr,if_false]at hb;unfold Vla;cases hx:(x==13 || x==10) with
   | true=>rw[hx]at hb;exact zOa hb
   | false=>
    rw[hx]at hb;simp only[jAr,if_false]at hb ⊢;by_cases h9:998 < c+1
    .rw[if_pos h9]at hb ⊢;exact zOa hb
    rw[if_neg h9]at hb ⊢;rw[zYa hb];have:=ih [] (p++ [x]) (c+1) (by simp) (by simp[hl]) (by omega);rw[jAl]at this;exact this
  | x::y::r,hr,hl=>
   have hb:=hs c p x (y::r) hl hc;unfold YFa at hb;have e1:((y::r).head? ==some (10:UInt8))=(y==10):=by simp
   rw[e1]at hb;unfold Vla;cases hxy:(x==13 && y==10) with
   | true=>
    rw[hxy]at hb;simp only[if_true]at hb ⊢;rw[zYa hb];have:=ih r (p++ [x,y]) 0 (by simp at hr;omega) (by simp[hl]) (by omega);rw[jAl]at this;exact this
   | false=>
    rw[hxy]at hb;simp only[jAr,if_false]at hb ⊢;cases hx:(x==13 || x==10) with
    | true=>rw[hx]at hb;exact zOa hb
    | false=>
     rw[hx]at hb;simp only[jAr,if_false]at hb ⊢;by_cases h9:998 < c+1
     .rw[if_pos h9]at hb ⊢;exact zOa hb
     rw[if_neg h9]at hb ⊢;rw[zYa hb];have:=ih (y::r) (p++ [x]) (c+1) (by simp at hr ⊢;omega) (by simp[hl]) (by omega);rw[jAl]at this;exact this
theorem next_is{l p r:List UInt8}{x:UInt8}(h:l=p++x::r)(hl:l.length<=1048576):(bif decide (((p.length+1:Nat):Int) < (l.length:Int)) then (idx l ((p.length+1:Nat):Int)).bind fun v13=>some (((v13.toNat:Int)==10)) else some false)=some (r.head? ==some 10):=by
 subst h;simp at hl;cases r with
 | nil=>
  have:decide (((p.length+1:Nat):Int) < ((p++ [x]).length:Int))=false:=by simp
  rw[this];rfl
 | cons y r=>
  have:decide (((p.length+1:Nat):Int) < ((p++x::y::r).length:Int))=true:=by simp;omega
  rw[this,Zma];have:(p++x::y::r)[p.length+1]? =some y:=by simp[jAq]
  rw[this];simp only[cond_true,jAc,ZIa y 10 (by decide)];simp
theorem kYb(l:List UInt8)(hl:l.length<=1048576):ZFa l=some ((Vla 0 l).elim 0 fun b=>bif b then 11 else 1):=by
 unfold ZFa;have:=Qgb (fun b:Bool=>bif b then (11:Int) else 1) l (body:=wea l) (fun c=>by unfold wea;rw[kLa];rfl) (fun c p x r h hc=>by
  have hx:l[p.length]? =some x:=by simp[h]
  have hi:=kla hx;unfold wea w3a YFa;dsimp only;rw[qQa hx,kma hx];simp only[cond_true,jAc,ZIa x 13 (by decide),ZIa x 10 (by decide),sc p.length (by omega),sc (p.length+1) (by omega),sc c (by omega)];rw[next_is h hl];have h9:decide ((998:Int) < ((c+1:Nat):Int))=decide (998 < c+1):=by rw[jAo];simp;omega
  rw[h9];by_cases h98:998 < c+1 <;> simp only[h98,decide_true,decide_false,if_true,if_false] <;> cases x==13 <;> cases x==10 <;> cases r.head? ==some 10 <;> rfl) l.length l [] 0 (jAn _) rfl (by omega)
 have h2:iter (wea l) (0,0)=_:=this;rw[h2];cases Vla 0 l with
 | none=>rfl
 | some b=>cases b <;> rfl
def bodyF(l:List UInt8):zqa:=(Vla 0 l).elim ⟨0,0⟩ fun b=>bif b then ⟨11, -5⟩ else ⟨1, -6⟩
theorem Y9a(l:List UInt8)(hl:l.length<=1048576):yNa l=some (bodyF l):=by
 unfold yNa bodyF;rw[kYb l hl];cases Vla 0 l with
 | none=>rfl
 | some b=>cases b <;> rfl
def msgF(m:zta):zqa:=if (WGa m.Fields).Code !=0 then WGa m.Fields else if 12000 < (zia m).length then ⟨1, -4⟩ else bodyF m.Body
def ypa(m:zta):Prop:=smallF m.Fields/\m.Body.length<=1048576
theorem wIa(m:zta)(h:ypa m):qha m=some (msgF m):=by
 obtain ⟨h1,h2⟩:=h;unfold qha msgF;rw[VUa _ h1];simp only[jAc,zBa,zAa,Y9a _ h2];cases hc:(WGa m.Fields).Code !=0 with
 | true=>rfl
 | false=>
  obtain ⟨q1,q2,q3⟩:=Qva m.Fields (by simpa using hc);rw[Kka m h2 (by omega) q3];simp only[jAc,cond_false,jAr,if_false];have:decide ((12000:Int) < ((zia m).length:Int))=decide (12000 < (zia m).length):=by generalize (zia m).length=n;rw[jAo];simp;omega
  rw[this];by_cases hb:12000 < (zia m).length <;> simp[hb]
instance:DecidableEq zba:=fun a b=>decidable_of_iff (a.Address=b.Address/\a.Notify=b.Notify) (by cases a;cases b;simp)
instance:DecidableEq zqa:=fun a b=>decidable_of_iff (a.Code=b.Code/\a.Index=b.Index) (by cases a;cases b;simp)
instance:DecidableEq zFa:=fun a b=>decidable_of_iff (a.From=b.From/\a.To=b.To/\a.Id=b.Id) (by cases a;cases b;simp)
def eithS(a b:Int)(s:Int × Int):Int × Int:=(bif (iRem (iQuo a s.2) 2==1 || iRem (iQuo b s.2) 2==1) then w64 (s.1+s.2) else s.1,w64 (2 * s.2))
def eithP(a b:Int):Int:=(eithS a b (eithS a b (eithS a b (0,1)))).1
theorem Zub:∀a b:Fin 8,eithP (a.val:Int) (b.val:Int)=iOr (a.val:Int) (b.val:Int)/\qBa (eithP (a.val:Int) (b.val:Int))=true:=by decide+kernel
theorem y4b{n:Int}(h:qBa n=true):∃a:Fin 8,n=(a.val:Int):=by
 unfold qBa at h;simp at h;exact ⟨⟨n.toNat,by omega⟩,by simp;omega⟩
theorem eith_or{a b:Int}(ha:qBa a=true)(hb:qBa b=true):eithP a b=iOr a b/\qBa (iOr a b)=true:=by
 obtain ⟨x,rfl⟩:=y4b ha;obtain ⟨y,rfl⟩:=y4b hb;obtain ⟨h1,h2⟩:=Zub x y;exact ⟨h1,h1▸h2⟩
def orL(n:Int)(l:List zba):Int:=l.foldl (fun n r=>iOr n r.Notify) n
def kTa(s:Str)(r:zba):Bool:=r.Address==s
def yUa:Nat->List zba->List zba
 | 0,_=>[]
 | _,[]=>[]
 | n+1,r::t=>⟨r.Address,orL r.Notify (t.filter (kTa r.Address))⟩::yUa n (t.filter fun x=> !kTa r.Address x)
theorem kZb:∀(n m:Nat) (l:List zba),l.length<=n->l.length<=m->yUa n l=yUa m l:=by
 intro n;induction n with
 | zero=>intro m l h1 h2;have:l=[]:=jDc.1 (by omega);subst this;cases m <;> rfl
 | succ n ih=>
  intro m l h1 h2;cases l with
  | nil=>cases m <;> rfl
  | cons r t=>
   cases m with
   | zero=>simp at h2
   | succ m=>
    unfold yUa
    congr 1
    have:=List.length_filter_le (fun x=> !kTa r.Address x) t;simp at h1 h2;exact ih m _ (by omega) (by omega)
def jIa(l:List zba):List zba:=yUa l.length l
theorem Vma(r:zba)(t:List zba):jIa (r::t)=⟨r.Address,orL r.Notify (t.filter (kTa r.Address))⟩::jIa (t.filter fun x=> !kTa r.Address x):=by
 unfold jIa;rw[jAu,yUa]
 congr 1
 have:=List.length_filter_le (fun x=> !kTa r.Address x) t;exact kZb _ _ _ this (jAn _)
def yVa(out:List zba)(s:Str):Bool:=out.any (kTa s)
def putR(out:List zba)(r:zba):List zba:=if yVa out r.Address then out.map (fun x=>if kTa r.Address x then ⟨x.Address,iOr x.Notify r.Notify⟩ else x) else out++ [r]
theorem Zvb:∀(l out:List zba),l.foldl putR out=out.map (fun x=>⟨x.Address,orL x.Notify (l.filter (kTa x.Address))⟩)++jIa (l.filter fun x=> !yVa out x.Address):=by
 intro l;induction l with
 | nil=>intro out;simp[orL,jIa,yUa]
 | cons r t ih=>
  intro out;rw[jDv,ih];unfold putR;cases hh:yVa out r.Address with
  | true=>
   simp only[if_true,jEe];have hs:∀s,yVa (out.map fun x=>if kTa r.Address x then (⟨x.Address,iOr x.Notify r.Notify⟩:zba) else x) s=yVa out s:=by
    intro s;unfold yVa;rw[List.any_map]
    congr 1
    funext x;show kTa s (if kTa r.Address x then _ else x)=kTa s x;by_cases hq:kTa r.Address x=true
    .rw[if_pos hq];rfl
    rw[if_neg hq]
   have h1:(r::t).filter (fun x=> !yVa out x.Address)=t.filter fun x=> !yVa out x.Address:=by rw[List.filter_cons,hh];rfl
   rw[h1];simp only[hs]
   congr 1
   apply jDf;intro x hx;simp only[Function.comp];by_cases hr:kTa r.Address x=true
   .rw[if_pos hr];have:r.Address=x.Address:=by simpa[kTa]using (beq_iff_eq.1 hr).symm
    have h2:(r::t).filter (kTa x.Address)=r::t.filter (kTa x.Address):=by
     rw[List.filter_cons];simp[kTa,this]
    rw[h2];rfl
   rw[if_neg hr];have h2:(r::t).filter (kTa x.Address)=t.filter (kTa x.Address):=by
    rw[List.filter_cons];have:kTa x.Address r=false:=by
     rw[jCo];intro h;exact hr (by simp[kTa]at h ⊢;exact h.symm)
    rw[this];rfl
   rw[h2]
  | false=>
   simp only[jAr,if_false,List.map_append,jCh,List.map_nil,jAx];have h1:(r::t).filter (fun x=> !yVa out x.Address)=r::t.filter fun x=> !yVa out x.Address:=by rw[List.filter_cons,hh];rfl
   rw[h1,Vma];have hno:∀x∈out,kTa x.Address r=false:=by
    intro x hx;unfold yVa at hh;rw[jCj]at hh;have:=hh x hx;rw[jCo];intro h;exact this (by simp[kTa]at h ⊢;exact h.symm)
   congr 1
   .apply jDf;intro x hx;rw[List.filter_cons,hno x hx];rfl
   have h3:(t.filter fun x=> !yVa out x.Address).filter (kTa r.Address)=t.filter (kTa r.Address):=by
    rw[List.filter_filter];apply List.filter_congr;intro x hx;by_cases hs:kTa r.Address x=true
    .have:x.Address=r.Address:=by simpa[kTa]using hs
     rw[hs,this,hh];rfl
    rw[Bool.not_eq_true]at hs;rw[hs];rfl
   have h4:(t.filter fun x=> !yVa out x.Address).filter (fun x=> !kTa r.Address x)=t.filter fun x=> !yVa (out++ [r]) x.Address:=by
    rw[List.filter_filter];apply List.filter_congr;intro x hx;unfold yVa;rw[List.any_append];simp only[jDl,List.any_nil,Bool.or_false,Bool.not_or];have:kTa x.Address r=kTa r.Address x:=by unfold kTa;rw[jAo];simp;exact ⟨fun h=>h.symm,fun h=>h.symm⟩
    rw[this,Bool.and_comm]
   rw[h3,h4];rfl
theorem put_all(l:List zba):l.foldl putR []=jIa l:=by
 rw[Zvb];have:l.filter (fun x=> !yVa [] x.Address)=l:=List.filter_eq_self.2 (fun x _=>by simp[yVa]);rw[this];rfl
def mq(i:Nat)(r:zba):Option zqa:=if !qja r.Address then some ⟨10,i⟩ else if !qBa r.Notify then some ⟨3,i⟩ else none
def y5b(l:List zba):List zba × zqa:=if 300 < l.length then ([],⟨2, -1⟩) else match zPa mq 0 l with | some f=>([],f) | none=>(jIa l,⟨0,0⟩)
theorem w8b{α R:Type}(q:Nat->α->Option R)(i:Nat)(x:α)(r:List α):zPa q i (x::r)=match q i x with | some y=>some y | none=>zPa q (i+1) r:=rfl
def posA(out:List zba)(s:Str):Option Nat:=out.findIdx? (kTa s)
theorem k0b(out:List zba)(s:Str):(posA out s).isSome=yVa out s:=by unfold posA yVa;exact List.findIdx?_isSome
theorem posA_app(out:List zba)(r:zba)(s:Str)(h:yVa out r.Address=false):posA (out++ [r]) s=if r.Address==s then some out.length else posA out s:=by
 unfold posA;rw[List.findIdx?_append];by_cases hs:(r.Address==s)=true
 .rw[if_pos hs];have e:r.Address=s:=beq_iff_eq.1 hs;subst e;have:out.findIdx? (kTa r.Address)=none:=by
   have:=k0b out r.Address;rw[h]at this;unfold posA at this;simpa using this
  rw[this];simp[kTa]
 rw[if_neg hs];have:kTa s r=false:=by unfold kTa;simpa using hs
 simp[List.findIdx?_cons,this]
theorem posA_map(out:List zba)(f:zba->zba)(hf:∀x,(f x).Address=x.Address)(s:Str):posA (out.map f) s=posA out s:=by
 unfold posA;rw[List.findIdx?_map]
 congr 1
 funext x;simp[Function.comp,kTa,hf]
theorem posA_get:∀(out:List zba) (s:Str) (k:Nat),posA out s=some k->∃x,out[k]? =some x/\x.Address=s:=by
 intro out s k h;unfold posA at h;rw[List.findIdx?_eq_some_iff_getElem]at h;obtain ⟨h1,h2,_⟩:=h;exact ⟨out[k],jAj h1,by simpa[kTa]using h2⟩
theorem set_map(s:Str)(f:zba->zba):∀(out:List zba) (k:Nat) (x:zba),(out.map (·.Address)).Nodup->posA out s=some k->out[k]? =some x->out.set k (f x)=out.map (fun y=>if kTa s y then f y else y):=by
 intro out;induction out with
 | nil=>intro k x _ h;simp[posA]at h
 | cons y out ih=>
  intro k x hn hp hk;rw[jCh,List.nodup_cons]at hn;unfold posA at hp;rw[List.findIdx?_cons]at hp;by_cases hy:kTa s y=true
  .rw[if_pos hy]at hp;cases hp;simp at hk;subst hk;rw[List.set_cons_zero,jCh,if_pos hy]
   congr 1
   symm
   rw[jDf (g:=id)]
   .simp
   intro z hz;have:¬kTa s z=true:=by
    intro h;have e1:y.Address=s:=by simpa[kTa]using hy
    have e2:z.Address=s:=by simpa[kTa]using h
    exact hn.1 (by rw[e1,<-e2];exact jDz hz)
   rw[if_neg this];rfl
  rw[if_neg hy]at hp;cases hq:out.findIdx? (kTa s) with
  | none=>rw[hq]at hp;simp at hp
  | some k' =>
   rw[hq]at hp;simp at hp;subst hp;rw[List.set_cons_succ,jCh,if_neg hy,ih k' x hn.2 hq (by simpa using hk)]
structure MInv (i:Nat) (out:List zba) (m:List (Str × Int)):Prop where
 len:out.length<=i
 nd:(out.map (·.Address)).Nodup
 mp:∀s,mget m s=(posA out s).map fun k=>((k:Nat):Int)
theorem MInv.put{i:Nat}{out:List zba}{m:List (Str × Int)}(h:MInv i out m)(r:zba):MInv (i+1) (putR out r) (if yVa out r.Address then m else mput m r.Address (out.length:Int)):=by
 unfold putR;cases hh:yVa out r.Address with
 | true=>
  simp only[if_true];have hf:∀x:zba,(if kTa r.Address x then (⟨x.Address,iOr x.Notify r.Notify⟩:zba) else x).Address=x.Address:=by intro x;split <;> rfl
  refine ⟨by simp;have:=h.len;omega,?_,fun s=>?_⟩
  .rw[jEe,show ((·.Address) ∘ fun x:zba=>if kTa r.Address x then (⟨x.Address,iOr x.Notify r.Notify⟩:zba) else x)=(·.Address) from funext hf];exact h.nd
  rw[posA_map _ _ hf];exact h.mp s
 | false=>
  simp only[jAr,if_false];refine ⟨by simp;exact h.len,?_,fun s=>?_⟩
  .rw[List.map_append,List.nodup_append];refine ⟨h.nd,by simp,?_⟩;intro a ha b hb;simp at hb;subst hb;rintro rfl;obtain ⟨x,hx,hxe⟩:=jCd.1 ha;unfold yVa at hh;rw[jCj]at hh;exact hh x hx (by simp[kTa,hxe])
  rw[Zmb,posA_app _ _ _ hh,h.mp s];by_cases hs:(r.Address==s)=true
  .rw[if_pos hs,if_pos hs];rfl
  rw[if_neg hs,if_neg hs]
theorem WHa(l:List zba)(h:zGb l):wra l=some (y5b l):=by
 obtain ⟨h3,h4⟩:=h;unfold wra y5b;by_cases h300:300 < l.length
 .have:decide ((300:Int) < (l.length:Int))=true:=by simp;omega
  rw[this,if_pos h300];rfl
 have:decide ((300:Int) < (l.length:Int))=false:=by simp;omega
 rw[this,if_neg h300];simp only[cond_false];rw[WDa (body:=vda l) (s0:=((0:Int),([]:List zba),([]:List (Str × Int)))) (S:=List zba × List (Str × Int)) l (fun i s=>((i:Int),s.1,s.2)) (fun i r s=>match zPa mq i r with | some f=>Sum.inr ([],f) | none=>Sum.inl (r.foldl putR s.1)) (fun i r s=>MInv i s.1 s.2)
  (fun s hi=>by unfold vda;simp[kLa,zPa])
  (fun p x r s hl hi=>by
   have hx:l[p.length]? =some x:=by rw[hl];simp
   have hlt:=kla hx;have ha:=h4 x (jAi hx);have hil:=hi.len;have hmp:=hi.mp x.Address;have hq0:mq p.length x=if !qja x.Address then some ⟨10,(p.length:Int)⟩ else if !qBa x.Notify then some ⟨3,(p.length:Int)⟩ else none:=rfl;rw[w8b,hq0];unfold vda;dsimp only;rw[qQa hx,kma hx];simp only[cond_true,jAc,qAa _ (show x.Address.length < 4294967281 by omega),yaa,zAa];cases hA:qja x.Address with
   | false=>left;rfl
   | true=>
    cases hN:qBa x.Notify with
    | false=>left;rfl
    | true=>
     right;simp only[jBf,cond_false,jAr,if_false];refine ⟨(putR s.1 x,if yVa s.1 x.Address then s.2 else mput s.2 x.Address (s.1.length:Int)),?_,rfl,hi.put x⟩;unfold vca;rw[hmp];cases hp:posA s.1 x.Address with
     | some k=>
      obtain ⟨y,hy,hya⟩:=posA_get _ _ _ hp;have hh:yVa s.1 x.Address=true:=by rw[<-k0b,hp];rfl
      simp only[jCp,Option.isSome_some,cond_true,jDx,kma hy,jAc,jCw,sc p.length (by omega),hh,if_true];unfold putR;rw[hh,if_pos rfl,set_map x.Address (fun y=>⟨y.Address,iOr y.Notify x.Notify⟩) s.1 k y hi.nd hp hy]
     | none=>
      have hh:yVa s.1 x.Address=false:=by rw[<-k0b,hp];rfl
      simp only[Option.map_none,Option.isSome_none,cond_false,hh,jAr,if_false];rw[kRa (by simp;omega)];simp only[jAc,sc p.length (by omega)];unfold putR;rw[hh];rfl) ([],[]) rfl ⟨jAn _,by simp,fun s=>rfl⟩]
 simp only[jAc,zLa,put_all];cases zPa mq 0 l with
 | some f=>rfl
 | none=>rfl
theorem Qhb{m:zta}(h:zta.bk m<=1048576):ypa m:=by
 unfold zta.bk at h;have h1:=kMb (bk:=zga.bk) (fun x=>by unfold zga.bk;omega) m.Fields;have h2:=kMb (bk:=fun _:UInt8=>1) (fun x=>by simp) m.Body;refine ⟨⟨by omega,fun f hf=>?_⟩,by omega⟩;have h5:=K4b (bk:=zga.bk) hf;have h6:zga.bk f=f.Name.length+1+(f.Value.length+1)+1:=rfl;omega
def QMa(m:zua):zqa:=if (envF m.Envelope).Code !=0 then envF m.Envelope else if (msgF m.Message).Code !=0 then ⟨(msgF m.Message).Code, -30⟩ else ⟨0,0⟩
theorem WIa(m:zua)(h1:jFa m.Envelope)(h2:ypa m.Message):wsa m=some (QMa m):=by
 unfold wsa QMa;rw[QLa _ h1,wIa _ h2];simp only[jAc,zBa,zAa,zLa];cases (envF m.Envelope).Code !=0 <;> cases (msgF m.Message).Code !=0 <;> rfl
def lowC(c:UInt8):UInt8:=bif decide ((65:UInt8)<=c) && decide (c<=90) then c+97 - 65 else c
def lowP(s:Str):Str:=s.map lowC
theorem Zpa(s:Str)(hs:s.length<=1048576):wHa s=some (lowP s):=by
 unfold wHa;have key:∀r p:Str,s=p++r->iter (qYa s) ((p.length:Int),p.map lowC++r)=some (lowP s):=by
  intro r;induction r with
  | nil=>
   intro p h;have hp:p=s:=by simp[h]
   subst hp;refine zOa ?_;unfold qYa;dsimp only;rw[kLa];simp[lowP]
  | cons c r ih=>
   intro p h;have hx:s[p.length]? =some c:=by simp[h]
   have hi:=kla hx;have hx2:(p.map lowC++c::r)[p.length]? =some c:=by
    rw[jAq (by simp)];simp
   have hb:qYa s ((p.length:Int),p.map lowC++c::r)=some (.cont (((p.length+1:Nat):Int),(p++ [c]).map lowC++r)):=by
    unfold qYa;dsimp only;rw[qQa hx,kma hx2];simp only[cond_true,jAc,W5a 65 c (by decide),W6a 90 c (by decide),sc p.length (by omega),jCw];have hset:(p.map lowC++c::r).set p.length (lowC c)=(p++ [c]).map lowC++r:=by
     rw[List.set_append_right _ _ (by simp)];simp
    have hsame:lowC c=c->p.map lowC++c::r=(p++ [c]).map lowC++r:=by intro h;simp[h]
    unfold lowC at hset hsame ⊢;cases h1:decide ((65:UInt8)<=c) <;> cases h2:decide (c<=90) <;> rw[h1,h2]at hset hsame <;> simp only[jEh,Bool.and_false,Bool.true_and,Bool.false_and,cond_true,cond_false,jAc]at hset hsame ⊢
    .rw[hsame trivial]
    .rw[hsame trivial]
    .rw[hsame trivial]
    rw[hset]
   rw[zYa hb];have:=ih (p++ [c]) (by simp[h]);simpa using this
 have:=key s [] rfl;have h2:iter (qYa s) (0,s)=some (lowP s):=this;rw[h2];rfl
theorem zab(n:Str)(hn:n.length<=1048576):jxa n=some (fnP n):=by
 unfold jxa;rw[KSa n [] hn (by simp)];simp only[jAc,zBa,Option.some.injEq];have h:=YEa ⟨n,[]⟩;unfold Z7a at h;dsimp only at h;rw[h];unfold Ztb;cases hf:fnP n with
 | false=>rfl
 | true=>
  have h60:n.length<=60:=by unfold fnP at hf;simp only[jAh,decide_eq_true_eq]at hf;exact hf.1.2
  have hl:flP n []=[txt n []]:=by unfold flP;exact qCa (.inl (by have:=kXb n [];simp at this;omega))
  have hlb:vkb (flP n [])=false:=by
   rw[hl];have:=kXb n [];unfold vkb;simp at this ⊢;omega
  have hv:valP []=true:=rfl;rw[hlb,hv];rfl
def dl:Str:=[68,101,108,105,118,101,114,101,100,45,84,111]
theorem vlb{m:zua}(h:(QMa m).Code=0):(envF m.Envelope).Code=0/\(msgF m.Message).Code=0:=by
 unfold QMa at h;by_cases h1:(envF m.Envelope).Code=0
 .refine ⟨h1,?_⟩;have e:((envF m.Envelope).Code !=0)=false:=by simp[h1]
  rw[e]at h;simp only[jAr,if_false]at h;cases hc:(msgF m.Message).Code !=0 with
  | false=>simpa using hc
  | true=>rw[hc]at h;simpa using h
 have e:((envF m.Envelope).Code !=0)=true:=by simpa using h1
 rw[e]at h;simp only[if_true]at h;exact absurd h h1
theorem vmb{m:zta}(h:(msgF m).Code=0):(WGa m.Fields).Code=0:=by
 unfold msgF at h;cases hc:(WGa m.Fields).Code !=0 with
 | false=>simpa using hc
 | true=>rw[hc]at h;simpa using h
instance:DecidableEq zga:=fun a b=>decidable_of_iff (a.Name=b.Name/\a.Value=b.Value) (by cases a;cases b;simp)
instance:DecidableEq zta:=fun a b=>decidable_of_iff (a.Fields=b.Fields/\a.Body=b.Body) (by cases a;cases b;simp)
instance:DecidableEq zua:=fun a b=>decidable_of_iff (a.Envelope=b.Envelope/\a.Message=b.Message) (by cases a;cases b;simp)
theorem VVa(m:zta)(hf:m.Fields.length<=1048576):w4a m m=some true:=by
 unfold w4a;have e1:((m.Fields.length:Int) !=(m.Fields.length:Int))=false:=by simp
 have e2:(m.Body !=m.Body)=false:=by simp
 rw[e1,e2];simp only[cond_false,jAc];rw[kga m.Fields (fun _ _=>none) (.inl ()) .inr]
 .have:zPa (fun _ _=>(none:Option Bool)) 0 m.Fields=none:=by rw[qia];intro i x _;rfl
  simp only[jAc];rw[this];rfl
 .unfold wEa;rw[kLa];rfl
 intro i f hx;have hi:=kla hx;unfold wEa;rw[qQa hx,kma hx];simp only[cond_true,jAc,sc i (by omega)];simp[wna]
theorem Jaa(m:zua)(h1:m.Envelope.To.length<=1048576)(h2:m.Message.Fields.length<=1048576):ZGa m m=some true:=by
 unfold ZGa;have e1:(m.Envelope.From !=m.Envelope.From)=false:=by simp
 have e2:(m.Envelope.Id !=m.Envelope.Id)=false:=by simp
 have e3:((m.Envelope.To.length:Int) !=(m.Envelope.To.length:Int))=false:=by simp
 rw[e1,e2,e3];simp only[cond_false,jAc];rw[kga m.Envelope.To (fun _ _=>none) (.inl ()) .inr]
 .have:zPa (fun _ _=>(none:Option Bool)) 0 m.Envelope.To=none:=by rw[qia];intro i x _;rfl
  simp only[jAc];rw[this];simp only[Option.elim_none,Sum.elim_inl];rw[VVa _ h2];rfl
 .unfold jga;rw[kLa];rfl
 intro i f hx;have hi:=kla hx;unfold jga;rw[qQa hx,kma hx];simp only[cond_true,jAc,sc i (by omega)];simp[wna]
theorem Yga(l:List zua)(hl:l.length<=1048576)(h:∀m∈l,m.Envelope.To.length<=1048576/\m.Message.Fields.length<=1048576):jya l l=some true:=by
 unfold jya;have e3:((l.length:Int) !=(l.length:Int))=false:=by simp
 rw[e3];simp only[cond_false];rw[kga l (fun _ _=>none) (.inl ()) .inr]
 .have:zPa (fun _ _=>(none:Option Bool)) 0 l=none:=by rw[qia];intro i x _;rfl
  simp only[jAc];rw[this];rfl
 .unfold yEa;rw[kLa];rfl
 intro i m hx;have hi:=kla hx;obtain ⟨q1,q2⟩:=h m (jAi hx);unfold yEa;rw[qQa hx,kma hx];simp only[cond_true,jAc,sc i (by omega),Jaa m q1 q2];rfl
def wPa(c:UInt8):Str->List Str
 | []=>[[]]
 | b::r=>if b=c then []::wPa c r else match wPa c r with
  | x::l=>(b::x)::l
  | []=>[[b]]
theorem VWa(c:UInt8)(s:Str):∃x l,wPa c s=x::l:=by
 cases s with
 | nil=>exact ⟨_,_,rfl⟩
 | cons b r=>
  unfold wPa;split
  .exact ⟨_,_,rfl⟩
  split <;> exact ⟨_,_,rfl⟩
theorem Jba(c:UInt8)(r:Str):wPa c (c::r)=[]::wPa c r:=by rw[wPa,if_pos rfl]
theorem Vna{b c:UInt8}(h:b≠c){r x:Str}{l:List Str}(hr:wPa c r=x::l):wPa c (b::r)=(b::x)::l:=by
 rw[wPa,if_neg h,hr]
theorem Zwb{c:UInt8}{s x:Str}(h:x∈wPa c s):x.length<=s.length:=by
 induction s generalizing x with
 | nil=>simp[wPa]at h;subst h;simp
 | cons b r ih=>
  by_cases hb:b=c
  .subst hb;rw[Jba]at h;rcases jBh.1 h with rfl | h
   .simp
   have:=ih h;simp;omega
  obtain ⟨y,t,hy⟩:=VWa c r;rw[Vna hb hy]at h;rcases jBh.1 h with rfl | h
  .have:=ih (x:=y) (by rw[hy];simp);simp;omega
  have:=ih (x:=x) (by rw[hy];simp[h]);simp;omega
theorem Zxb{c:UInt8}{x r:Str}(h:c ∉ x):wPa c (x++c::r)=x::wPa c r:=by
 induction x with
 | nil=>exact Jba c r
 | cons b x ih=>
  simp at h;rw[jBu,Vna (Ne.symm h.1) (ih h.2)]
def nonE(l:List Str):List Str:=l.filter fun x=> !x.isEmpty
def yba(s:Str):List Str:=nonE (wPa 32 s)
def wrd(cur r:Str):List Str:=match wPa 32 r with
 | x::l=>nonE ((cur++x)::l)
 | []=>[]
theorem wrd_nil(s:Str):wrd [] s=yba s:=by
 unfold wrd yba;obtain ⟨x,l,h⟩:=VWa 32 s;rw[h];rfl
theorem wrd_end(cur:Str):wrd cur []=nonE [cur]:=by unfold wrd;simp[wPa]
theorem vnb(x:Str)(l:List Str):nonE (x::l)=nonE [x]++nonE l:=by unfold nonE;cases h:x.isEmpty <;> simp[h]
theorem wrd_sp(cur r:Str):wrd cur (32::r)=nonE [cur]++wrd [] r:=by
 obtain ⟨x,l,h⟩:=VWa 32 r;have e:wPa 32 (32::r)=[]::x::l:=by rw[Jba,h]
 unfold wrd;rw[e,h];show nonE ((cur++ [])::x::l)=nonE [cur]++nonE (([]++x)::l);rw[jBj,vnb];rfl
theorem KTa{c:UInt8}:∀{k r x:Str} {l:List Str},c ∉ k->wPa c r=x::l->wPa c (k++r)=(k++x)::l
 | [],_,_,_,_,h=>h
 | b::k,r,x,l,hk,h=>by
  simp at hk;rw[jBu,Vna (Ne.symm hk.1) (KTa hk.2 h)];rfl
theorem vob{k:Str}(cur r:Str)(hk:(32:UInt8) ∉ k):wrd cur (k++r)=wrd (cur++k) r:=by
 obtain ⟨x,l,h⟩:=VWa 32 r;unfold wrd;rw[KTa hk h,h];show nonE ((cur++(k++x))::l)=nonE ((cur++k++x)::l);rw[jAx]
theorem getB{l:Str}{i:Nat}(h:i < l.length):(strB l).get! i=l[i]:=by
 show (strB l).data[i]! =_;simp[strB,h]
theorem Qib{l:Str}{i:Nat}(h:i < l.length):(l[i]=32->Utf8.decode (strB l) i=(32,1))/\
 (l[i]≠32->(Utf8.decode (strB l) i).1≠32/\1<=(Utf8.decode (strB l) i).2/\i+(Utf8.decode (strB l) i).2<=l.length/\∀k (hk:i+k < l.length),k < (Utf8.decode (strB l) i).2->l[i+k]≠32):=by
 have hz:(strB l).size=l.length:=rfl;have e0:(strB l).get! (i+0)=l[i]:=getB h;have hne:∀{u:UInt8},u.toNat / 64=2->u≠32:=fun hu e=>by subst e;exact absurd hu (by decide)
 constructor
 .intro h32;unfold Utf8.decode;simp only[e0,h32];rfl
 intro h32;have hb:l[i].toNat≠32:=fun e=>h32 (UInt8.toNat_inj.1 e)
 have d0:∀(n:Nat),n=1->∀k (hk:i+k < l.length),k < n->l[i+k]≠32:=by
  intro n hn k hk hkn;have:k=0:=by omega
  subst this;exact h32
 have gt:∀k,(decide (i+k < (strB l).size) && ((strB l).get! (i+k)).toNat / 64==2)=true->∃hk:i+k < l.length,l[i+k]≠32:=by
  intro k hk;simp only[jAh,decide_eq_true_eq,beq_iff_eq,hz]at hk;refine ⟨hk.1,hne ?_⟩;rw[<-getB hk.1];exact hk.2
 unfold Utf8.decode;simp only[e0];split
 .exact ⟨hb,by simp,by simp;omega,d0 _ rfl⟩
 split
 .rename_i hc;simp only[jAh]at hc;obtain ⟨h1,n1⟩:=gt 1 (by simpa using hc.2);try dsimp only
  split
  .refine ⟨by dsimp only;omega,by simp,by simp;omega,fun k hk hkn=>?_⟩;dsimp only at hkn;obtain rfl | rfl:k=0∨k=1:=by omega
   .exact h32
   exact n1
  exact ⟨by decide,by simp,by simp;omega,d0 _ rfl⟩
 split
 .rename_i hc;simp only[jAh]at hc;obtain ⟨h1,n1⟩:=gt 1 (by simpa using hc.1.2);obtain ⟨h2,n2⟩:=gt 2 (by simpa using hc.2);try dsimp only
  split
  .rename_i hv;simp only[jAh,decide_eq_true_eq]at hv;refine ⟨by dsimp only;omega,by simp,by simp;omega,fun k hk hkn=>?_⟩;dsimp only at hkn;obtain rfl | rfl | rfl:k=0∨k=1∨k=2:=by omega
   .exact h32
   .exact n1
   exact n2
  exact ⟨by decide,by simp,by simp;omega,d0 _ rfl⟩
 split
 .rename_i hc;simp only[jAh]at hc;obtain ⟨h1,n1⟩:=gt 1 (by simpa using hc.1.1.2);obtain ⟨h2,n2⟩:=gt 2 (by simpa using hc.1.2);obtain ⟨h3,n3⟩:=gt 3 (by simpa using hc.2);try dsimp only
  split
  .rename_i hv;simp only[jAh,decide_eq_true_eq]at hv;refine ⟨by dsimp only;omega,by simp,by simp;omega,fun k hk hkn=>?_⟩;dsimp only at hkn;obtain rfl | rfl | rfl | rfl:k=0∨k=1∨k=2∨k=3:=by omega
   .exact h32
   .exact n1
   .exact n2
   exact n3
  exact ⟨by decide,by simp,by simp;omega,d0 _ rfl⟩
 exact ⟨by decide,by simp,by simp;omega,d0 _ rfl⟩
def curP(l:Str)(pos:Nat):Option Nat->Str
 | none=>[]
 | some a=>(l.drop a).take (pos - a)
def exP(l:Str)(x:Nat × Nat):Str:=((strB l).extract x.1 x.2).data.toList
theorem exP_eq(l:Str)(a b:Nat):exP l (a,b)=(l.drop a).take (b - a):=by
 unfold exP;rw[Lib.extract_data];simp[strB]
theorem spans_eq(l:Str):∀(f pos:Nat) (st:Option Nat) (acc:List (Nat × Nat)),l.length<=pos+f->pos<=l.length->(∀a,st=some a->a < pos)->
 (Lib.closeSpans (strB l) (Lib.spansFromP sp32 (strB l) f pos st acc)).map (exP l)=acc.map (exP l)++wrd (curP l pos st) (l.drop pos):=by
 have fin:∀(pos:Nat) (st:Option Nat) (acc:List (Nat × Nat)),pos=l.length->(∀a,st=some a->a < pos)->(Lib.closeSpans (strB l) (acc,st)).map (exP l)=acc.map (exP l)++wrd (curP l pos st) (l.drop pos):=by
  intro pos st acc hp hst;subst hp;rw[List.drop_length,wrd_end];cases st with
  | none=>simp[Lib.closeSpans,curP,nonE]
  | some a=>
   have ha:=hst a rfl;have e:curP l l.length (some a)=l.drop a:=by show (l.drop a).take (l.length - a)=_;rw[jCm (by simp)]
   rw[e];have hne:(l.drop a).isEmpty=false:=by
    cases hd:l.drop a with
    | nil=>have:=congrArg List.length hd;simp at this;omega
    | cons x y=>rfl
   have hz:(strB l).size=l.length:=rfl;simp[Lib.closeSpans,nonE,hne,exP_eq,hz,jCm]
 intro f;induction f with
 | zero=>
  intro pos st acc h1 h2 h3;unfold Lib.spansFromP;exact fin pos st acc (by omega) h3
 | succ f ih=>
  intro pos st acc h1 h2 h3;by_cases hlt:pos < l.length
  .have hz:pos < (strB l).size:=hlt;obtain ⟨d1,d2⟩:=Qib hlt;have hdr:l.drop pos=l[pos]::l.drop (pos+1):=jCq hlt;unfold Lib.spansFromP;rw[if_pos hz];by_cases h32:l[pos]=32
   .rw[d1 h32];rw[show sp32 (32,1).1=true by decide,if_pos rfl];dsimp only;rw[hdr,h32,wrd_sp];cases st with
    | none=>
     dsimp only;rw[ih (pos+1) none acc (by omega) (by omega) (fun a h=>by cases h)];simp[curP,nonE]
    | some a=>
     have ha:=h3 a rfl;dsimp only;rw[ih (pos+1) none (acc++ [(a,pos)]) (by omega) (by omega) (fun a h=>by cases h)];have hne:((l.drop a).take (pos - a)).isEmpty=false:=by
      cases hd:(l.drop a).take (pos - a) with
      | nil=>have:=congrArg List.length hd;simp at this;omega
      | cons x y=>rfl
     simp[curP,nonE,exP_eq,hne]
   obtain ⟨e1,e2,e3,e4⟩:=d2 h32;generalize Utf8.decode (strB l) pos=d at e1 e2 e3 e4;obtain ⟨r,n⟩:=d;dsimp only at e1 e2 e3 e4;have hsp:sp32 r=false:=by unfold sp32;rw[decide_eq_false];omega
   rw[hsp];simp only[jAr,if_false];have hk:(32:UInt8) ∉ (l.drop pos).take n:=by
    intro hm;obtain ⟨k,hk⟩:=List.mem_iff_getElem?.1 hm;rw[List.getElem?_take]at hk;split at hk
    .rename_i hkn;rw[jBo]at hk;have hkl:=(jAd.1 hk).1;have hke:=(jAd.1 hk).2;exact e4 k hkl hkn hke
    cases hk
   have hsplit:l.drop pos=(l.drop pos).take n++l.drop (pos+n):=by
    rw[<-List.drop_drop,jEk]
   cases st with
   | none=>
    dsimp only;rw[ih (pos+n) (some pos) acc (by omega) e3 (fun a h=>by cases h;omega)]
    conv=>rhs;rw[hsplit,vob _ _ hk]
    congr 2
    simp[curP]
   | some a=>
    have ha:=h3 a rfl;dsimp only;rw[ih (pos+n) (some a) acc (by omega) e3 (fun b h=>by cases h;omega)]
    conv=>rhs;rw[hsplit,vob _ _ hk]
    congr 2
    show (l.drop a).take (pos+n - a)=(l.drop a).take (pos - a)++(l.drop pos).take n;rw[show pos+n - a=(pos - a)+n by omega,List.take_add,List.drop_drop,show a+(pos - a)=pos by omega]
  rw[Lib.spansFromP_end _ _ _ _ _ _ (by show ¬pos < l.length;exact hlt)];exact fin pos st acc (by omega) h3
theorem w9b(l:Str):(Lib.goFieldsP sp32 (strB l)).map (fun b=>b.data.toList)=yba l:=by
 have h:=spans_eq l l.length 0 none [] (by omega) (by omega) (fun a h=>by cases h);rw[List.drop_zero]at h;unfold Lib.goFieldsP Lib.spansOfP;rw[jEe];rw[show ((fun b:ByteArray=>b.data.toList) ∘ fun x:Nat × Nat=>(strB l).extract x.1 x.2)=exP l from rfl];rw[show (strB l).size=l.length from rfl,h];simp[curP,wrd_nil]
theorem y6b(a b:Bool):(bif a then some b else some false:Option Bool)=some (a && b):=by cases a <;> rfl
theorem or_some(a b:Bool):(bif a then some true else some b:Option Bool)=some (a || b):=by cases a <;> rfl
def VXa(c:zfa):Bool:=(c.Verb==1 || c.Name==([]:Str)) && (c.Verb==2 || c.Verb==3 || c.Address==([]:Str)) && (c.Verb==2 || c.Verb==5 || c.Size==0) && (c.Verb==3 || c.Notify==0) && (c.Verb==5 || c.Last==false)
def cmdF(c:zfa):zqa:=
 bif decide (c.Verb < 1) || decide (8 < c.Verb) then ⟨4, -2⟩ else bif !VXa c then ⟨5, -3⟩ else bif c.Verb==1 && !v3a c.Name then ⟨10, -4⟩ else
 bif (c.Verb==3 || (c.Verb==2 && c.Address !=([]:Str))) && !qja c.Address then ⟨10, -5⟩ else bif decide (c.Size < 0) || decide (1000000 < c.Size) then ⟨3, -6⟩ else
 bif !qBa c.Notify then ⟨3, -7⟩ else ⟨0,0⟩
theorem five(v:Int):v=1∨v=2∨v=3∨v=5∨((v==1)=false/\(v==2)=false/\(v==3)=false/\(v==5)=false):=by
 simp only[beq_eq_false_iff_ne];omega
theorem used_eq(c:zfa):∃u,yOa c=some u/\wna [(c.Verb==u.Verb),(c.Name==u.Name),(c.Address==u.Address),(c.Size==u.Size),(c.Notify==u.Notify),(c.Last==u.Last)]=VXa c:=by
 obtain ⟨v,n,a,s,o,l⟩:=c;rcases five v with rfl | rfl | rfl | rfl | ⟨h1,h2,h3,h5⟩
 .exact ⟨⟨1,n,[],0,0,false⟩,rfl,by simp[wna,VXa,jDw]⟩
 .exact ⟨⟨2,[],a,s,0,false⟩,rfl,by simp[wna,VXa,jDw]⟩
 .exact ⟨⟨3,[],a,0,o,false⟩,rfl,by simp[wna,VXa,jDw]⟩
 .exact ⟨⟨5,[],[],s,0,l⟩,rfl,by simp[wna,VXa,jDw]⟩
 refine ⟨⟨v,[],[],0,0,false⟩,?_,?_⟩
 .unfold yOa;dsimp only;rw[h1,h2,h3,h5];rfl
 unfold VXa;dsimp only;rw[h1,h2,h3,h5];simp[wna,jDw]
def k1b(c:zfa):Prop:=c.Name.length<=1048576/\c.Address.length<=1048576
theorem jJa(c:zfa)(h:k1b c):qMa c=some (cmdF c):=by
 obtain ⟨u,hu,he⟩:=used_eq c;unfold qMa cmdF;rw[hu];simp only[jAc,he,jha _ h.1,qAa _ (show c.Address.length < 4294967281 by have:=h.2;omega),yaa,zAa,zLa,y6b,or_some];cases decide (c.Verb < 1) || decide (8 < c.Verb) with
 | true=>rfl
 | false=>
  cases VXa c with
  | false=>rfl
  | true=>
   cases c.Verb==1 && !v3a c.Name with
   | true=>rfl
   | false=>
    cases (c.Verb==3 || (c.Verb==2 && c.Address !=([]:Str))) && !qja c.Address with
    | true=>rfl
    | false=>
     cases decide (c.Size < 0) || decide (1000000 < c.Size) with
     | true=>rfl
     | false=>cases qBa c.Notify <;> rfl
structure wTa (c:zfa):Prop where
 verb:1<=c.Verb/\c.Verb<=8
 used:VXa c=true
 name:c.Verb=1->v3a c.Name=true
 addr:c.Verb=3∨(c.Verb=2/\c.Address≠ [])->qja c.Address=true
 size:0<=c.Size/\c.Size<=1000000
 note:0<=c.Notify/\c.Notify<=7
theorem Qjb{c:zfa}(h:(cmdF c).Code=0):wTa c/\cmdF c=⟨0,0⟩:=by
 unfold cmdF at h ⊢;cases h1:decide (c.Verb < 1) || decide (8 < c.Verb) with
 | true=>rw[h1]at h;exact absurd h (show (4:Int)≠0 by decide)
 | false=>
  rw[h1]at h;cases h2:VXa c with
  | false=>rw[h2]at h;exact absurd h (show (5:Int)≠0 by decide)
  | true=>
   rw[h2]at h;cases h3:c.Verb==1 && !v3a c.Name with
   | true=>rw[h3]at h;exact absurd h (show (10:Int)≠0 by decide)
   | false=>
    rw[h3]at h;cases h4:(c.Verb==3 || (c.Verb==2 && c.Address !=([]:Str))) && !qja c.Address with
    | true=>rw[h4]at h;exact absurd h (show (10:Int)≠0 by decide)
    | false=>
     rw[h4]at h;cases h5:decide (c.Size < 0) || decide (1000000 < c.Size) with
     | true=>rw[h5]at h;exact absurd h (show (3:Int)≠0 by decide)
     | false=>
      rw[h5]at h;cases h6:qBa c.Notify with
      | false=>rw[h6]at h;exact absurd h (show (3:Int)≠0 by decide)
      | true=>
       simp only[jCe,decide_eq_false_iff_not]at h1 h5;unfold qBa at h6;simp only[jAh,decide_eq_true_eq]at h6;refine ⟨⟨by omega,h2,fun hv=>?_,fun hv=>?_,by omega,h6⟩,rfl⟩
       .rw[hv]at h3;simpa using h3
       cases ha:qja c.Address with
       | true=>rfl
       | false=>
        rw[ha]at h4;rcases hv with hv | ⟨hv,hn⟩
        .rw[hv]at h4;simp at h4
        rw[hv]at h4;simp at h4;exact absurd h4 hn
def Kua:List Str:=[[104,101,108,108,111],[109,97,105,108],[114,99,112,116],[100,97,116,97],[99,104,117,110,107],[114,101,115,101,116],[110,111,111,112],[113,117,105,116]]
def Jca:List Str:=[[110,101,118,101,114],[102,97,105,108,117,114,101],[100,101,108,97,121],[102,97,105,108,117,114,101,44,100,101,108,97,121],[115,117,99,99,101,115,115],[102,97,105,108,117,114,101,44,115,117,99,99,101,115,115],[100,101,108,97,121,44,115,117,99,99,101,115,115],[102,97,105,108,117,114,101,44,100,101,108,97,121,44,115,117,99,99,101,115,115]]
def yWa(v:Int):Str:=Kua.getD (v - 1).toNat []
def KUa(n:Int):Str:=Jca.getD n.toNat []
def argT(c:zfa):List Str:=
 if c.Verb=1 then [c.Name] else if c.Verb=2 then ([60]++c.Address++ [62])::(if c.Size=0 then [] else [[115,105,122,101,61]++Lib.decDigits c.Size.toNat]) else
 if c.Verb=3 then ([60]++c.Address++ [62])::(if c.Notify=1 then [] else [[110,111,116,105,102,121,61]++KUa c.Notify]) else
 if c.Verb=5 then Lib.decDigits c.Size.toNat::(if c.Last then [[108,97,115,116]] else []) else []
def ZJa(w:Str)(l:List Str):Str:=w++(l.map fun s=>(32:UInt8)::s).flatten
def cmdT(c:zfa):Str:=ZJa (yWa c.Verb) (argT c)
def condsV:zla × zla × zla:=((zla.mk 1 (([102,97,105,108,117,114,101]:Str))),(zla.mk 2 (([100,101,108,97,121]:Str))),(zla.mk 4 (([115,117,99,99,101,115,115]:Str))))
instance:DecidableEq (Step (Int × List Str) (List Str)):=fun a b=>match a,b with
 | .cont x,.cont y=>decidable_of_iff (x=y) (by simp)
 | .out x,.out y=>decidable_of_iff (x=y) (by simp)
 | .cont x,.out y=>isFalse (by simp)
 | .out x,.cont y=>isFalse (by simp)
def Zyb(n:Nat):List Str:=(if n % 2=1 then [[102,97,105,108,117,114,101]] else [])++(if n / 2 % 2=1 then [[100,101,108,97,121]] else [])++(if n / 4 % 2=1 then [[115,117,99,99,101,115,115]] else [])
theorem Qkb:∀n:Fin 8,QFa (yza (n.val:Int) condsV) 4 (0,[])=some (Zyb n.val):=by decide+kernel
theorem vpb:∀n:Fin 8,(if Zyb n.val=[] then ([110,101,118,101,114]:Str) else Lib.join (Zyb n.val) [44])=Jca.getD n.val []/\(Zyb n.val).length<=3/\(Jca.getD n.val []).length<=100:=by decide+kernel
theorem ZKa{n:Int}(h:0<=n/\n<=7):vIa n=some (KUa n):=by
 have h1:=Qkb ⟨n.toNat,by omega⟩;obtain ⟨h2,h3,h4⟩:=vpb ⟨n.toNat,by omega⟩;dsimp only at h1 h2 h3 h4;rw[show ((n.toNat:Nat):Int)=n by omega]at h1;unfold vIa;have hc:vPa=some condsV:=rfl;rw[hc];simp only[jAc];rw[VBa.2 ⟨4,h1⟩];simp only[jAc];unfold KUa;by_cases he:Zyb n.toNat=[]
 .rw[if_pos he]at h2;rw[he,<-h2];rfl
 rw[if_neg he]at h2;have e:(((Zyb n.toNat).length:Int)==0)=false:=by
  rw[beq_eq_false_iff_ne];have:=jCv.2 he;omega
 rw[e];simp only[cond_false];unfold v1a;rw[if_pos ⟨by omega,by rw[h2];omega⟩,h2];rfl
theorem VYa{n:Int}(h:0<=n/\n<=7):(KUa n).length<=100:=(vpb ⟨n.toNat,by omega⟩).2.2
theorem Qlb:∀k:Fin 8,Kua[k.val]? =some (yWa ((k.val:Int)+1))/\(yWa ((k.val:Int)+1)).length<=5:=by decide
theorem y7b{v:Int}(h:1<=v/\v<=8):idx Kua (w64 (v - 1))=some (yWa v)/\(yWa v).length<=5:=by
 have:=Qlb ⟨(v - 1).toNat,by omega⟩;dsimp only at this;rw[show (((v - 1).toNat:Nat):Int)+1=v by omega]at this;rw[qwa (by omega) (by omega),show v - 1=(((v - 1).toNat:Nat):Int) by omega,Zma];exact this
theorem Kla:w6a=some (([104,101,108,108,111]:Str),([109,97,105,108]:Str),([114,99,112,116]:Str),([100,97,116,97]:Str),([99,104,117,110,107]:Str),([114,101,115,101,116]:Str),([110,111,111,112]:Str),([113,117,105,116]:Str)):=rfl
theorem Z8a{a:Str}(h:qja a=true):a.length<=121:=by
 unfold qja at h;simp only[jAh,decide_eq_true_eq]at h;obtain ⟨⟨⟨⟨h1,h2⟩,h3⟩,h4⟩,h5⟩:=h;unfold domP at h5;simp only[jAh,decide_eq_true_eq,jCr]at h5;omega
theorem VZa{c:zfa}(ok:wTa c):c.Address.length<=121:=by
 by_cases h:c.Address=[]
 .rw[h];simp
 refine Z8a (ok.addr ?_);have hu:=ok.used;unfold VXa at hu;simp only[jAh,jBs,beq_iff_eq]at hu;rcases hu.1.1.1.2 with (h2 | h2) | h2
 .exact .inr ⟨h2,h⟩
 .exact .inl h2
 exact absurd h2 h
theorem Yha(c:zfa)(h:k1b c):w7a c=some (bif (cmdF c).Code !=0 then ([],cmdF c) else (cmdT c,⟨0,0⟩)):=by
 unfold w7a;rw[jJa c h,Kla];simp only[jAc,zBa,zLa];cases hc:(cmdF c).Code !=0 with
 | true=>rfl
 | false=>
  obtain ⟨ok,_⟩:=Qjb (c:=c) (by simpa using hc);obtain ⟨hw,hwl⟩:=y7b ok.verb;have hal:=VZa ok;have hs:=ok.size;simp only[cond_false];rw[show ([([104,101,108,108,111]:Str),([109,97,105,108]:Str),([114,99,112,116]:Str),([100,97,116,97]:Str),([99,104,117,110,107]:Str),([114,101,115,101,116]:Str),([110,111,111,112]:Str),([113,117,105,116]:Str)]:List Str)=Kua from rfl,hw];simp only[jAc];have hit:zMa c.Size=some (Lib.decDigits c.Size.toNat):=by
   have:=jEa c.Size.toNat (by omega);rw[show ((c.Size.toNat:Nat):Int)=c.Size by omega]at this;exact this
  have hdl:=yGa 6 c.Size.toNat (by omega);have hnt:=VYa ok.note;unfold cmdT;generalize hW:yWa c.Verb=W at hwl ⊢;rcases five c.Verb with h1 | h1 | h1 | h1 | ⟨h1,h2,h3,h5⟩
  .have hn:=ok.name h1;have hnl:=(KQa hn).2;unfold argT;rw[if_pos h1,h1];simp only[show ((1:Int)==1)=true from rfl,cond_true];rw[vfa (by simp;omega)];simp only[jAc];rw[vfa (by simp;omega)];simp[ZJa]
  .unfold argT;rw[if_neg (by omega),if_pos h1,h1];simp only[show ((2:Int)==1)=false from rfl,show ((2:Int)==2)=true from rfl,cond_true,cond_false];rw[vfa (by simp;omega)];simp only[jAc];rw[vfa (by simp;omega)];simp only[jAc];rw[vfa (by simp;omega)];simp only[jAc];by_cases hz:c.Size=0
   .rw[if_pos hz,hz];simp[ZJa]
   have:(c.Size !=0)=true:=by simpa using hz
   rw[if_neg hz,this,hit];simp only[cond_true,jAc];rw[vfa (by simp;omega)];simp only[jAc];rw[vfa (by simp;omega)];simp[ZJa]
  .unfold argT;rw[if_neg (by omega),if_neg (by omega),if_pos h1,h1];simp only[show ((3:Int)==1)=false from rfl,show ((3:Int)==2)=false from rfl,show ((3:Int)==3)=true from rfl,cond_true,cond_false];rw[vfa (by simp;omega)];simp only[jAc];rw[vfa (by simp;omega)];simp only[jAc];rw[vfa (by simp;omega)];simp only[jAc];by_cases hz:c.Notify=1
   .rw[if_pos hz,hz];simp[ZJa]
   have:(c.Notify !=1)=true:=by simpa using hz
   rw[if_neg hz,this,ZKa ok.note];simp only[cond_true,jAc];rw[vfa (by simp;omega)];simp only[jAc];rw[vfa (by simp;omega)];simp[ZJa]
  .unfold argT;rw[if_neg (by omega),if_neg (by omega),if_neg (by omega),if_pos h1,h1];simp only[show ((5:Int)==1)=false from rfl,show ((5:Int)==2)=false from rfl,show ((5:Int)==3)=false from rfl,show ((5:Int)==5)=true from rfl,cond_true,cond_false,hit,jAc];rw[vfa (by simp;omega)];simp only[jAc];rw[vfa (by simp;omega)];simp only[jAc];cases c.Last with
   | true=>
    simp only[cond_true];rw[vfa (by simp;omega)];simp[ZJa]
   | false=>simp[ZJa]
  unfold argT;rw[if_neg (by simpa using h1),if_neg (by simpa using h2),if_neg (by simpa using h3),if_neg (by simpa using h5),h1,h2,h3,h5];simp[ZJa]
def rlnC(c:UInt8):Bool:=c==13 || c==10
def digC(c:UInt8):Bool:=decide (48<=c) && decide (c<=57)
def smLn(l:List Str):Prop:=l.length<=1048576/\∀s∈l,s.length<=1048576
theorem y8b(s:Str)(hs:s.length<=1048576):zKa s [13,10]=some (s.any rlnC):=by
 rw[yoa s _ hs (by decide) (by decide) (by decide)];simp only[Option.some.injEq]
 congr 1
 funext c;rw[jAo];simp[rlnC]
theorem lt48(c:UInt8):decide ((c.toNat:Int) < 48)= !decide ((48:UInt8)<=c):=by
 rw[<-W5a 48 c (by decide),jAo];simp
theorem gt57(c:UInt8):decide ((57:Int) < (c.toNat:Int))= !decide (c<=(57:UInt8)):=by
 rw[<-W6a 57 c (by decide),jAo];simp
theorem Jda(s:Str)(hs:s.length<=1048576):v0a s=some (s.all digC && s !=([]:Str)):=by
 unfold v0a;rw[kga s (fun _ c=>if !digC c then some false else none) (.inl ()) .inr,Qsa,w1b]
 .cases s.all digC <;> rfl
 .unfold w5a;rw[kLa];rfl
 intro i c hc;have hi:=kla hc;unfold w5a;rw[qQa hc,kma hc];simp only[cond_true,jAc,lt48,gt57,sc i (by omega)];unfold digC;cases decide ((48:UInt8)<=c) <;> cases decide (c<=(57:UInt8)) <;> rfl
def num3(a b c:UInt8):Nat:=((a.toNat - 48) * 10+(b.toNat - 48)) * 10+(c.toNat - 48)
theorem y9b{c:UInt8}:digC c=true↔48<=c.toNat/\c.toNat<=57:=by
 unfold digC;rw[jAh,decide_eq_true_eq,decide_eq_true_eq,jDu,jDu];exact Iff.rfl
theorem KVa{c:UInt8}(h:digC c=true):Lib.digitVal c=some (c.toNat - 48):=by
 unfold Lib.digitVal;rw[if_pos (y9b.1 h)]
theorem atoi_3{a b c:UInt8}(ha:digC a=true)(hb:digC b=true)(hc:digC c=true):qqa [a,b,c]=some ((num3 a b c:Int),false):=by
 have h1:=y9b.1 ha;have n1:(a==45)=false:=by rw[beq_eq_false_iff_ne];intro e;subst e;simp at h1
 have n2:(a==43)=false:=by rw[beq_eq_false_iff_ne];intro e;subst e;simp at h1
 have e:Lib.atoi [a,b,c]=some (num3 a b c:Int):=by
  unfold Lib.atoi;dsimp only;rw[n1,n2];simp[Lib.decNat,Lib.decFrom,KVa ha,KVa hb,KVa hc,num3]
 unfold qqa;rw[if_pos (show ([a,b,c]:Str).length<=18 by simp),e]
def dig3(u:Nat):Str:=[UInt8.ofNat (48+u / 100),UInt8.ofNat (48+u / 10 % 10),UInt8.ofNat (48+u % 10)]
theorem itoa_3{u:Nat}(h1:200<=u)(h2:u<=599):zMa (u:Int)=some (dig3 u):=by
 unfold zMa dig3;rw[if_pos (by omega),Lib.itoa_nonneg,Lib.decDigits,dif_neg (by omega),Lib.decDigits,dif_neg (by omega),Lib.decDigits,dif_pos (by omega),Nat.div_div_eq_div_mul];rfl
def numOf:Str->Nat
 | [a,b,c]=>num3 a b c
 | _=>0
theorem dig3_fin:∀k:Fin 400,numOf (dig3 (200+k.val))=200+k.val/\(dig3 (200+k.val)).all digC=true/\(dig3 (200+k.val)).any rlnC=false:=by decide+kernel
theorem zLb{u:Nat}(h1:200<=u)(h2:u<=599):numOf (dig3 u)=u/\(dig3 u).all digC=true/\(dig3 u).any rlnC=false:=by
 have:=dig3_fin ⟨u - 200,by omega⟩
 rwa [show 200+(⟨u - 200,by omega⟩:Fin 400).val=u by simp;omega]at this
def Q3a(c:Int):Bool:=decide (200<=c) && decide (c<=599)
theorem V0a(c:Int):jna c=some (Q3a c):=by unfold jna Q3a;cases decide (200<=c) <;> rfl
def Jea(i:Nat)(s:Str):Option zqa:=if 500 < s.length then some ⟨1,i⟩ else if s.any rlnC then some ⟨5,i⟩ else none
def yXa(r:zra):zqa:=if !Q3a r.Code then ⟨3, -1⟩ else if r.Lines.length < 1∨20 < r.Lines.length then ⟨2, -2⟩ else (zPa Jea 0 r.Lines).getD ⟨0,0⟩
theorem dec500(s:Str):decide ((500:Int) < (s.length:Int))=decide (500 < s.length):=by generalize s.length=n;rw[jAo];simp;omega
theorem ZLa(r:zra)(h:smLn r.Lines):vHa r=some (yXa r):=by
 obtain ⟨h1,h2⟩:=h;unfold vHa yXa;rw[kga r.Lines Jea (.inl ()) .inr (by unfold wfa;rw[kLa];rfl) (fun i s hs=>by
  have hi:=kla hs;have hsl:=h2 s (jAi hs);unfold wfa Jea;rw[qQa hs,kma hs];simp only[cond_true,jAc,dec500,y8b s hsl,zAa,sc i (by omega)];by_cases h500:500 < s.length
  .simp[h500]
  simp only[h500,decide_false,cond_false,if_false];cases s.any rlnC <;> rfl)]
 simp only[jAc,V0a,zAa,zLa,WFa];cases Q3a r.Code with
 | false=>rfl
 | true=>
  simp only[jBf,cond_false,jAr,if_false];by_cases ha:r.Lines.length < 1
  .rw[if_pos (Or.inl ha),decide_eq_true (by omega)];rfl
  rw[decide_eq_false (by omega)];by_cases hb:20 < r.Lines.length
  .rw[if_pos (Or.inr hb),decide_eq_true (by omega)];rfl
  rw[if_neg (by omega),decide_eq_false (by omega)];rfl
structure ROk (r:zra):Prop where
 code:∃u:Nat,r.Code=u/\200<=u/\u<=599
 len:1<=r.Lines.length/\r.Lines.length<=20
 lines:∀s∈r.Lines,s.length<=500/\s.any rlnC=false
theorem rOk_of{r:zra}(h:(yXa r).Code=0):ROk r:=by
 unfold yXa at h;cases hc:Q3a r.Code with
 | false=>rw[hc]at h;cases h
 | true=>
  rw[hc]at h;simp only[jBf,jAr,if_false]at h;by_cases hl:r.Lines.length < 1∨20 < r.Lines.length
  .rw[if_pos hl]at h;cases h
  rw[if_neg hl]at h;unfold Q3a at hc;simp only[jAh,decide_eq_true_eq]at hc;refine ⟨⟨r.Code.toNat,by omega,by omega,by omega⟩,by omega,fun s hs=>?_⟩;cases hf:zPa Jea 0 r.Lines with
  | some f=>
   rw[hf]at h;obtain ⟨i,x,_,hx⟩:=jDa hf;unfold Jea at hx;split at hx
   .cases hx;cases h
   split at hx
   .cases hx;cases h
   cases hx
  | none=>
   obtain ⟨i,hi⟩:=List.getElem?_of_mem hs;have:=qia.1 hf i s hi;unfold Jea at this;split at this
   .cases this
   rename_i h500;cases he:s.any rlnC with
   | true=>rw[he]at this;cases this
   | false=>exact ⟨by omega,rfl⟩
theorem vqb{r:zra}(h:ROk r):yXa r=⟨0,0⟩:=by
 obtain ⟨⟨u,hu,h1,h2⟩,hl,hx⟩:=h;unfold yXa;have hc:Q3a r.Code=true:=by unfold Q3a;rw[hu];simp;omega
 rw[hc,if_neg (by simp),if_neg (by omega)];rw[qia.2 (fun i s hs=>by
  obtain ⟨a,b⟩:=hx s (jAi hs);unfold Jea;rw[if_neg (by omega),b];rfl)]
 rfl
def prn(c:Str):List Str->List Str
 | []=>[]
 | [x]=>[c++32::x]
 | x::y::r=>(c++45::x)::prn c (y::r)
theorem yab(c:Str):∀l,(prn c l).length=l.length
 | []=>rfl
 | [x]=>rfl
 | x::y::r=>by simp[prn,yab c (y::r)]
theorem V1a(c:Str)(y:Str):∀l,prn c (l++ [y])=l.map (fun x=>c++45::x)++ [c++32::y]
 | []=>rfl
 | [x]=>rfl
 | x::z::r=>by
  have:=V1a c y (z::r);simp only[jBu,jCh,prn]at this ⊢;rw[this]
theorem k2b(c x:Str)(r:List Str):prn c (x::r)=(c++(if r=[] then 32 else 45)::x)::prn c r:=by
 cases r with
 | nil=>rfl
 | cons y r=>rfl
theorem last_eq(p:List Str)(x:Str)(r:List Str)(hl:(p++x::r).length<=1048576):((p.length:Int)==w64 (((p++x::r).length:Int) - 1))=decide (r=[]):=by
 rw[qwa (by omega) (by omega)];rw[jAo,beq_iff_eq,decide_eq_true_eq,jAl,jAu];cases r with
 | nil=>simp
 | cons y r=>simp;omega
theorem V2a(u:Nat):(dig3 u).length=3:=rfl
theorem zbb(r:zra)(h:smLn r.Lines):yya r=some (if (yXa r).Code≠0 then ([],yXa r) else (prn (dig3 r.Code.toNat) r.Lines,⟨0,0⟩)):=by
 unfold yya;rw[ZLa r h];simp only[jAc,zBa];by_cases hc:(yXa r).Code=0
 .have e:((yXa r).Code !=0)=false:=by simp[hc]
  rw[e,if_neg (by simp[hc])];obtain ⟨⟨u,hu,h1,h2⟩,hl,hx⟩:=rOk_of hc;have hu' :r.Code.toNat=u:=by omega
  rw[hu'];have hloop:iter (wta r) (0,([]:List Str))=some ([]++prn (dig3 u) r.Lines):=by
   refine WDa r.Lines (fun i s=>((i:Int),s)) (fun _ l s=>s++prn (dig3 u) l) (fun i _ s=>s.length=i) ?_ ?_ ([]:List Str) rfl rfl
   .intro s _;unfold wta;dsimp only;rw[kLa];simp[prn]
   intro p x q s hp hi;right;refine ⟨s++ [dig3 u++(if q=[] then 32 else 45)::x],?_,by rw[k2b];simp,by simp[hi]⟩;have hpx:r.Lines[p.length]? =some x:=by rw[hp];simp
   have hle:=kla hpx;have hxs:=(hx x (jAi hpx)).1;unfold wta;dsimp only;rw[qQa hpx,kma hpx,hu,itoa_3 h1 h2];have e2:((p.length:Int)==w64 ((r.Lines.length:Int) - 1))=decide (q=[]):=by
    have hll:=h.1;rw[hp]at hll ⊢;exact last_eq p x q hll
   rw[e2];simp only[cond_true,jAc,sc p.length (by omega)];by_cases hq:q=[]
   .rw[decide_eq_true hq,if_pos hq];simp only[cond_true,jAc];rw[vfa (by rw[V2a];decide),jAc,vfa (by simp[V2a];omega),jAc,kRa (by simp;omega)];simp
   rw[decide_eq_false hq,if_neg hq];simp only[cond_false,jAc];rw[vfa (by rw[V2a];decide),jAc,vfa (by simp[V2a];omega),jAc,kRa (by simp;omega)];simp
  rw[hloop];rfl
 have e:((yXa r).Code !=0)=true:=by simpa using hc
 rw[e,if_pos hc];rfl
theorem zcb(r:zra)(h:smLn r.Lines):jAa r=some (if (yXa r).Code≠0 then (0,yXa r) else (iQuo r.Code 100,⟨0,0⟩)):=by
 unfold jAa;rw[ZLa r h];simp only[jAc,zBa,zLa];by_cases hc:(yXa r).Code=0
 .have e:((yXa r).Code !=0)=false:=by simp[hc]
  rw[e,if_neg (by simp[hc])];rfl
 have e:((yXa r).Code !=0)=true:=by simpa using hc
 rw[e,if_pos hc];rfl
def rdQ:Str->Option Nat
 | a::b::c::d::r=>if (d==45 || d==32) && (digC a && digC b && digC c) && !((a::b::c::d::r).any rlnC) && (decide (200<=num3 a b c) && decide (num3 a b c<=599)) then some (num3 a b c) else none
 | _=>none
theorem Qmb{s:Str}{n:Nat}(h:rdQ s=some n):4<=s.length/\200<=n/\n<=599:=by
 unfold rdQ at h;split at h
 .split at h
  .rename_i hc;cases h;simp only[jAh,decide_eq_true_eq]at hc;exact ⟨by simp,hc.2.1,hc.2.2⟩
  cases h
 cases h
theorem rdQ_at{s:Str}{n:Nat}(h:rdQ s=some n):∃d,s[3]? =some d/\idx s 3=some d/\(d=45∨d=32):=by
 unfold rdQ at h;split at h
 .rename_i a b c d r;split at h
  .rename_i hc;simp only[jAh,jBs,beq_iff_eq]at hc;exact ⟨d,rfl,rfl,hc.1.1.1⟩
  cases h
 cases h
theorem u8_or(d:UInt8){γ:Type}(X Y:γ):(bif ((d.toNat:Int) !=45) then (bif ((d.toNat:Int) !=32) then X else Y) else Y)=if (d==45 || d==32) then Y else X:=by
 rw[u8_ne d 45 (by decide),u8_ne d 32 (by decide)];unfold bne;cases d==45 <;> cases d==32 <;> rfl
theorem cut03(a b c d:UInt8)(r:Str):cut (a::b::c::d::r) 0 3=some [a,b,c]:=by
 have:=KNa (l:=a::b::c::d::r) (b:=3) (by simp);exact this
theorem cut4(s:Str)(h:4<=s.length):cut s 4 (s.length:Int)=some (s.drop 4):=jba (a:=4) h
theorem k3b(s:Str)(hs:s.length<=1048576):∃v,ZHa s=some v/\v.2.2.2=(rdQ s).isSome/\∀n,rdQ s=some n->v=((n:Int),s.drop 4,(s[3]? ==some 32),true):=by
 match s,hs with
 | [],_=>exact ⟨_,rfl,rfl,fun n h=>by cases h⟩
 | [_],_=>exact ⟨_,rfl,rfl,fun n h=>by cases h⟩
 | [_,_],_=>exact ⟨_,rfl,rfl,fun n h=>by cases h⟩
 | [_,_,_],_=>exact ⟨_,rfl,rfl,fun n h=>by cases h⟩
 | a::b::c::d::r,hs=>
  have e1:decide (((a::b::c::d::r).length:Int) < 4)=false:=by simp;omega
  have e2:idx (a::b::c::d::r) 3=some d:=rfl;have e3:v0a [a,b,c]=some (digC a && digC b && digC c):=by
   have h:=Jda [a,b,c] (by simp);rw[h];show some ((digC a && (digC b && (digC c && true))) && true)=_;rw[jEh,jEh,jDw]
  have e4:=y8b _ hs;have e5:=cut4 (a::b::c::d::r) (by simp);unfold ZHa;rw[e1,e2,cut03,e4,e5];simp only[jAc,cond_false,e3,V0a];rw[u8_or];have hr:rdQ (a::b::c::d::r)=if (d==45 || d==32) && (digC a && digC b && digC c) && !((a::b::c::d::r).any rlnC) && (decide (200<=num3 a b c) && decide (num3 a b c<=599)) then some (num3 a b c) else none:=rfl;rw[hr];cases h1:(d==45 || d==32) with
  | false=>exact ⟨_,rfl,rfl,fun n h=>by simp at h⟩
  | true=>
   cases h2:(digC a && digC b && digC c) with
   | false=>exact ⟨_,rfl,rfl,fun n h=>by simp at h⟩
   | true=>
    cases h3:(a::b::c::d::r).any rlnC with
    | true=>exact ⟨_,rfl,rfl,fun n h=>by simp at h⟩
    | false=>
     have h2' :=h2;rw[jAh,jAh]at h2';simp only[jBf,jDn,Bool.true_and,if_true,cond_false,jAc];rw[atoi_3 h2'.1.1 h2'.1.2 h2'.2];simp only[jAc];have e6:Q3a ((num3 a b c:Nat):Int)=(decide (200<=num3 a b c) && decide (num3 a b c<=599)):=by
      unfold Q3a
      congr 1
      .rw[jAo];simp;omega
      rw[jAo];simp;omega
     rw[e6];cases h4:(decide (200<=num3 a b c) && decide (num3 a b c<=599)) with
     | false=>exact ⟨_,rfl,rfl,fun n h=>by simp at h⟩
     | true=>
      refine ⟨_,rfl,rfl,fun n h=>?_⟩;simp only[if_true,Option.some.injEq]at h;subst h;rw[ZIa d 32 (by decide)];simp
abbrev PR:=zra × Int × zqa
def parP:List Str->Nat->List Str->Int->Option PR
 | [],_,_,_=>none
 | s::r,i,acc,prev=>
  if i=20 then some (⟨0,[]⟩,0,⟨2,i⟩)
  else match rdQ s with
   | none=>some (⟨0,[]⟩,0,⟨11,i⟩)
   | some n=>
    if 504 < s.length then some (⟨0,[]⟩,0,⟨1,i⟩)
    else if 0 < i/\(n:Int)≠prev then some (⟨0,[]⟩,0,⟨5,i⟩)
    else if s[3]? =some 32 then some (⟨n,acc++ [s.drop 4]⟩,((i+1:Nat):Int),⟨0,0⟩)
    else parP r (i+1) (acc++ [s.drop 4]) n
def vha(l:List Str):PR:=if 300 < l.length then (⟨0,[]⟩,0,⟨2, -1⟩) else (parP l 0 [] 0).getD (⟨0,[]⟩,0,⟨9, -2⟩)
theorem gt0(i:Nat)(n:Nat)(prev:Int):(bif decide ((0:Int) < (i:Int)) then some ((n:Int) !=prev) else some false)=some (decide (0 < i/\(n:Int)≠prev)):=by
 by_cases h:0 < i
 .rw[decide_eq_true (by omega:(0:Int) < (i:Int))];by_cases h2:(n:Int)=prev
  .simp[h2]
  simp[h2,h]
 rw[decide_eq_false (by omega:¬(0:Int) < (i:Int))];simp[h]
theorem at32(s:Str)(d:UInt8)(h:s[3]? =some d):(s[3]? ==some 32)=decide (s[3]? =some 32):=by
 rw[h,jAo];simp
theorem eq20(i:Nat):((i:Int)==20)=decide (i=20):=by rw[jAo];simp;omega
def Qnb(x:Str)(i:Nat)(acc:List Str)(prev:Int):Step (Int × List Str × Int) (Unit ⊕ PR):=
 if i=20 then .out (.inr (⟨0,[]⟩,0,⟨2,i⟩))
 else match rdQ x with
 | none=>.out (.inr (⟨0,[]⟩,0,⟨11,i⟩))
 | some n=>
  if 504 < x.length then .out (.inr (⟨0,[]⟩,0,⟨1,i⟩))
  else if 0 < i/\(n:Int)≠prev then .out (.inr (⟨0,[]⟩,0,⟨5,i⟩))
  else if x[3]? =some 32 then .out (.inr (⟨n,acc++ [x.drop 4]⟩,((i+1:Nat):Int),⟨0,0⟩))
  else .cont (((i+1:Nat):Int),acc++ [x.drop 4],(n:Int))
theorem Zzb(l:List Str){body:Int × List Str × Int->Option (Step (Int × List Str × Int) (Unit ⊕ PR))}(h0:∀acc prev,body ((l.length:Int),acc,prev)=some (.out (.inl ())))
 (h1:∀(i:Nat) x acc prev,l[i]? =some x->acc.length=i->body ((i:Int),acc,prev)=some (Qnb x i acc prev)):iter body (0,([]:List Str),0)=some ((parP l 0 [] 0).elim (Sum.inl ()) Sum.inr):=by
 refine WDa l (fun i (s:List Str × Int)=>((i:Int),s.1,s.2)) (fun i r s=>(parP r i s.1 s.2).elim (Sum.inl ()) Sum.inr) (fun i _ s=>s.1.length=i) ?_ ?_ (([]:List Str),(0:Int)) rfl rfl
 .intro s _;exact h0 _ _
 intro p x q s hp hi;obtain ⟨acc,prev⟩:=s;dsimp only at hi ⊢;rw[h1 p.length x acc prev (by rw[hp];simp) hi];unfold Qnb;rw[parP];by_cases h20:p.length=20
 .rw[if_pos h20,if_pos h20];left;rfl
 rw[if_neg h20,if_neg h20];cases hr:rdQ x with
 | none=>left;rfl
 | some n=>
  dsimp only;by_cases h504:504 < x.length
  .rw[if_pos h504,if_pos h504];left;rfl
  rw[if_neg h504,if_neg h504];by_cases h5:0 < p.length/\(n:Int)≠prev
  .rw[if_pos h5,if_pos h5];left;rfl
  rw[if_neg h5,if_neg h5];by_cases h32:x[3]? =some 32
  .rw[if_pos h32,if_pos h32];left;rfl
  rw[if_neg h32,if_neg h32];exact Or.inr ⟨(acc++ [x.drop 4],(n:Int)),rfl,rfl,by simp[hi]⟩
theorem zdb(l:List Str)(h:smLn l):jza l=some (vha l):=by
 unfold jza vha;by_cases h300:300 < l.length
 .rw[if_pos h300,decide_eq_true (by omega)];rfl
 rw[if_neg h300,decide_eq_false (by omega),Zzb l]
 .simp only[cond_false,jAc,zAa];cases parP l 0 [] 0 <;> rfl
 .intro acc prev;unfold yFa;dsimp only;rw[kLa];rfl
 intro i x acc prev hx hi;have hle:=kla hx;have hxs:=h.2 x (jAi hx);obtain ⟨v,hv,hv1,hv2⟩:=k3b x hxs;unfold yFa Qnb;dsimp only;rw[qQa hx,kma hx];simp only[cond_true,jAc,hv,hv1,eq20,zAa,zLa];by_cases h20:i=20
 .rw[if_pos h20,decide_eq_true h20];rfl
 rw[if_neg h20,decide_eq_false h20];simp only[cond_false];cases hr:rdQ x with
 | none=>rfl
 | some n=>
  have hvn:=hv2 n hr;subst hvn;have hn:=Qmb hr;obtain ⟨d,hd,_,_⟩:=rdQ_at hr;have e5:decide ((500:Int) < (((x.drop 4).length:Nat):Int))=decide (504 < x.length):=by
   rw[jAo,jCr,decide_eq_true_eq,decide_eq_true_eq];omega
  simp only[Option.isSome_some,jBf,cond_false,e5,gt0,jAc];by_cases h504:504 < x.length
  .rw[decide_eq_true h504,if_pos h504];rfl
  rw[decide_eq_false h504,if_neg h504];simp only[cond_false];by_cases h5:0 < i/\(n:Int)≠prev
  .rw[decide_eq_true h5,if_pos h5];rfl
  rw[decide_eq_false h5,if_neg h5];simp only[cond_false,jAc,bne_self_eq_false];rw[kRa (by simp;omega)];simp only[jAc,at32 x d hd,sc i (by omega)];by_cases h32:x[3]? =some 32
  .rw[decide_eq_true h32,if_pos h32];rfl
  rw[decide_eq_false h32,if_neg h32];rfl
def fl:List UInt8->List UInt8->List Str × List UInt8
 | cur,[]=>([],cur)
 | cur,[c]=>([],cur++ [c])
 | cur,c::d::r=>if c=13/\d=10 then (cur::(fl [] r).1,(fl [] r).2) else fl (cur++ [c]) (d::r)
theorem Qob(cur r:List UInt8):fl cur (13::10::r)=(cur::(fl [] r).1,(fl [] r).2):=by rw[fl,if_pos ⟨rfl,rfl⟩]
theorem k4b{c d:UInt8}(h:¬(c=13/\d=10))(cur r:List UInt8):fl cur (c::d::r)=fl (cur++ [c]) (d::r):=by rw[fl,if_neg h]
theorem Jfa(c d:UInt8)(r:List UInt8):Lib.index (c::d::r) [13,10]=if c=13/\d=10 then 0 else if Lib.index (d::r) [13,10]= -1 then -1 else Lib.index (d::r) [13,10]+1:=by
 rw[Lib.index];by_cases h:c=13/\d=10
 .obtain ⟨rfl,rfl⟩:=h;simp
 rw[if_neg h,if_neg]
 .simp
 simp only[List.isPrefixOf,jEh,jAh,beq_iff_eq];rintro ⟨rfl,rfl⟩;exact h ⟨rfl,rfl⟩
theorem Qpb(l:List UInt8):∀cur,Lib.index l [13,10]= -1->fl cur l=([],cur++l):=by
 induction l with
 | nil=>intro cur _;simp[fl]
 | cons c r ih=>
  intro cur h
  match r,ih with
  | [],_=>simp[fl]
  | d::r,ih=>
   rw[Jfa]at h;have hg:=Lib.index_ge (d::r) [13,10];split at h
   .cases h
   rename_i hn;rw[k4b hn,ih]
   .simp
   split at h
   .assumption
   omega
theorem ybb(l:List UInt8):∀(cur:List UInt8) (k:Nat),Lib.index l [13,10]=(k:Int)->k+2<=l.length/\fl cur l=((cur++l.take k)::(fl [] (l.drop (k+2))).1,(fl [] (l.drop (k+2))).2):=by
 induction l with
 | nil=>intro cur k h;simp[Lib.index]at h
 | cons c r ih=>
  intro cur k h
  match r,ih with
  | [],_=>simp[Lib.index]at h
  | d::r,ih=>
   rw[Jfa]at h;have hg:=Lib.index_ge (d::r) [13,10];split at h
   .rename_i hn;obtain ⟨rfl,rfl⟩:=hn;obtain rfl:k=0:=by omega
    rw[Qob];simp
   rename_i hn;split at h
   .omega
   obtain ⟨j,rfl⟩:∃j,k=j+1:=⟨k - 1,by omega⟩;obtain ⟨h1,h2⟩:=ih (cur++ [c]) j (by omega);rw[k4b hn,h2];refine ⟨by simp at h1 ⊢;omega,?_⟩;simp
theorem Qqb(l:List UInt8)(cur:List UInt8):((fl cur l).1.flatMap fun x=>x++ [13,10])++(fl cur l).2=cur++l:=by
 fun_induction fl cur l with
 | case1 cur=>simp
 | case2 cur c=>simp
 | case3 cur c d r h ih=>obtain ⟨rfl,rfl⟩:=h;simpa using ih
 | case4 cur c d r h ih=>simpa using ih
theorem fl_size(l:List UInt8)(cur:List UInt8):2 * (fl cur l).1.length+(fl cur l).2.length<=cur.length+l.length:=by
 fun_induction fl cur l with
 | case1 cur=>simp
 | case2 cur c=>simp
 | case3 cur c d r h ih=>simp at ih ⊢;omega
 | case4 cur c d r h ih=>simp at ih ⊢;omega
end Go.Proofs.YtjjgjalfelnclaaGreatDoor
