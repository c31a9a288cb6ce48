/- Part 4 of the proof of the law DigestRoundTrips: what it needs. -/
import Derived.Test.YtpphhgbmooofgaaGreatDoorKDigestRoundTrips3
import Derived.Lib.ItoaMem
import Derived.Lib.Atoi
import Derived.Lib.SplitLaws
set_option linter.unusedVariables false
set_option linter.unusedSimpArgs false
noncomputable section
set_option maxRecDepth 100000
set_option maxHeartbeats 40000000
namespace Go.Proofs.YtpphhgbmooofgaaGreatDoor
open Go.RowKit Go.Proofs.Tryz
def y0a(f:zca):Int:=(qNb f.Name f.Value).2.Code
def kfb(l:List Str):Bool:=l.any fun s=>decide (998 < s.length)
theorem Y2a(l:List Str):∀n,(zZa WYa n l).isSome=kfb l:=by
 induction l with
 | nil=>intro n;rfl
 | cons x l ih=>
  intro n;unfold zZa kfb WYa;by_cases h:998 < x.length
  .simp[h]
  simp only[h,if_false,List.any_cons,decide_false,Bool.false_or];exact ih (n+1)
def wkb(n v:Str):Int:=if !fnP n then 10 else if 4000 < v.length then 1 else if !valP v then 11 else if kfb (flP n v) then 1 else 0
theorem Wua(f:zca):y0a f=wkb f.Name f.Value:=by
 unfold y0a qNb wkb;rw[<-Y2a (flP f.Name f.Value) 0];split
 .rfl
 split
 .rfl
 split
 .rfl
 cases zZa WYa 0 (flP f.Name f.Value) <;> rfl
def Zba(l:List zca):Prop:=l.length<=1048576/\∀f∈l,f.Name.length<=1048576/\f.Value.length<=1048576
def QKa(i:Nat)(f:zca):Option zoa:=if y0a f !=0 then some ⟨y0a f,i⟩ else none
def voa(l:List zca):zoa:=if 60 < l.length then ⟨2, -1⟩ else (zZa QKa 0 l).getD ⟨0,0⟩
theorem dec60f(l:List zca):decide ((60:Int) < (l.length:Int))=decide (60 < l.length):=by generalize l.length=n;rw[jBe];simp;omega
theorem wwa(l:List zca)(h:Zba l):koa l=some (voa l):=by
 obtain ⟨h1,h2⟩:=h;unfold koa voa;rw[qaa l QKa (.inl ()) .inr]
 .simp only[jAb,zTa,zPa,YYa,dec60f];by_cases h6:60 < l.length <;> simp[h6]
 .unfold vea;rw[kaa];rfl
 intro i f hf;have hi:=kfa hf;obtain ⟨hn,hv⟩:=h2 f (jAf hf);unfold vea QKa;rw[kSa hf,z3a hf];simp only[cond_true,jAb,ZUa _ _ hn hv,zqa,zTa,sc i (by omega)];show (bif y0a f !=0 then _ else _)=_;cases y0a f !=0 <;> rfl
theorem yHa(l:List zca)(h:(voa l).Code=0):¬60 < l.length/\zZa QKa 0 l=none/\∀f∈l,y0a f=0:=by
 unfold voa at h;by_cases h6:60 < l.length
 .rw[if_pos h6]at h;simp at h
 rw[if_neg h6]at h;cases hq:zZa QKa 0 l with
 | some y=>
  rw[hq]at h;obtain ⟨i,f,h1,h2⟩:=j2a hq;unfold QKa at h2;exfalso;by_cases hc:y0a f=0
  .simp[hc]at h2
  have:(y0a f !=0)=true:=by simpa using hc
  rw[this]at h2;simp at h2;subst h2;exact hc h
 | none=>
  refine ⟨h6,rfl,fun f hf=>?_⟩;obtain ⟨i,hi⟩:=List.getElem?_of_mem hf;have:=qUa.1 hq i f hi;unfold QKa at this;simpa using this
theorem Wva{f:zca}(h:y0a f=0):f.Name.length<=60/\f.Value.length<=4000/\qNb f.Name f.Value=(flP f.Name f.Value,⟨0,0⟩)/\∀l∈flP f.Name f.Value,l.length<=998:=by
 have h0:=h;rw[Wua]at h;unfold wkb at h;have h1:fnP f.Name=true:=by cases hx:fnP f.Name with
  | true=>rfl
  | false=>rw[hx]at h;simp at h
 rw[h1]at h;simp only[jAx,jAs,if_false]at h;have h2:¬4000 < f.Value.length:=by intro hx;rw[if_pos hx]at h;simp at h
 rw[if_neg h2]at h;have h3:valP f.Value=true:=by cases hx:valP f.Value with
  | true=>rfl
  | false=>rw[hx]at h;simp at h
 rw[h3]at h;simp only[jAx,jAs,if_false]at h;have h4:kfb (flP f.Name f.Value)=false:=by cases hx:kfb (flP f.Name f.Value) with
  | false=>rfl
  | true=>rw[hx]at h;simp at h
 refine ⟨?_,by omega,?_,?_⟩
 .unfold fnP at h1;simp only[jAk,decide_eq_true_eq]at h1;exact h1.1.2
 .unfold qNb;rw[h1,h3];simp only[jAx,jAs,if_false,if_neg h2];have:=Y2a (flP f.Name f.Value) 0;rw[h4]at this;cases hx:zZa WYa 0 (flP f.Name f.Value) with
  | none=>rfl
  | some y=>rw[hx]at this;cases this
 intro l hl;unfold kfb at h4;rw[jCn]at h4;have:=h4 l hl;simp at this;omega
def addL(a:List UInt8)(l:Str):List UInt8:=a++l++ [13,10]
def addF(a:List UInt8)(f:zca):List UInt8:=(flP f.Name f.Value).foldl addL a
def zra(m:zda):List UInt8:=m.Fields.foldl addF []++ [13,10]++m.Body
theorem vyb(l:List Str)(acc:List UInt8)(hl:l.length<=5000)(h9:∀s∈l,s.length<=998)(ha:acc.length<=1000000000){body:Int × List UInt8->Option (Step (Int × List UInt8) (List UInt8))}
 (h0:∀s,body ((l.length:Int),s)=some (.out s)) (h1:∀(i:Nat) x s,l[i]? =some x->s.length<=1006000000->body ((i:Int),s)=some (.cont (((i+1:Nat):Int),addL s x))):iter body (0,acc)=some (l.foldl addL acc)/\(l.foldl addL acc).length<=acc.length+1000 * l.length:=
 wva l (fun i s=>(i,s)) addL id (fun i s=>s.length<=acc.length+1000 * i) (body:=body) (fun s _=>h0 s) (fun i x s hx hi=>by
  have hlt:=kfa hx;have h9x:=h9 x (jAf hx);refine ⟨h1 i x s hx (by omega),?_⟩;unfold addL;simp;omega) acc (by simp)
theorem kgb(l:List zca)(hl:l.length<=60)(hc:∀f∈l,y0a f=0){body:Int × List UInt8->Option (Step (Int × List UInt8) (List UInt8))}
 (h0:∀s,body ((l.length:Int),s)=some (.out s)) (h1:∀(i:Nat) f s,l[i]? =some f->s.length<=1000000000->body ((i:Int),s)=some (.cont (((i+1:Nat):Int),addF s f))/\(addF s f).length<=s.length+5000000):iter body (0,([]:List UInt8))=some (l.foldl addF [])/\(l.foldl addF []).length<=5000000 * l.length:=
 wva l (fun i s=>(i,s)) addF id (fun i s=>s.length<=5000000 * i) (body:=body) (fun s _=>h0 s) (fun i f s hf hi=>by
  have hlt:=kfa hf;obtain ⟨q1,q2⟩:=h1 i f s hf (by omega);exact ⟨q1,by omega⟩) [] (by simp)
theorem yqa(m:zda)(hb:m.Body.length<=1048576)(h60:m.Fields.length<=60)(hc:∀f∈m.Fields,y0a f=0):qOa m=some (zra m):=by
 unfold qOa zra;obtain ⟨h1,h2⟩:=kgb m.Fields h60 hc (body:=q2a m) (fun s=>by unfold q2a;rw[kaa];rfl) (fun i f s hf hs=>by
  have hi:=kfa hf;obtain ⟨c1,c2,c3,c4⟩:=Wva (hc f (jAf hf));have hfl:=yOb f.Name f.Value;obtain ⟨q1,q2⟩:=vyb (flP f.Name f.Value) s (by omega) c4 hs (body:=q1a (qNb f.Name f.Value)) (fun s=>by unfold q1a;rw[c3,kaa];rfl) (fun k x s hx hs=>by
   have hk:=kfa hx;have:=c4 x (jAf hx);unfold q1a;rw[c3,kSa hx,z3a hx];simp only[cond_true,jAb,sc k (by omega)];rw[k7a (by omega)];simp only[jAb];rw[k7a (by simp;omega)];rfl)
  unfold addF;refine ⟨?_,by omega⟩;unfold q2a;rw[kSa hf,z3a hf];simp only[cond_true,jAb,ZUa f.Name f.Value (by omega) (by omega),q1,sc i (by omega)])
 rw[h1];simp only[jAb];rw[k7a (by simp;omega)];simp only[jAb];rw[k7a (by simp;omega)];rfl
theorem Vwa(m:zda)(hb:m.Body.length<=1048576)(h60:m.Fields.length<=60)(hc:∀f∈m.Fields,y0a f=0):jma m=some (zra m):=by
 unfold jma zra;obtain ⟨h1,h2⟩:=kgb m.Fields h60 hc (body:=vxa m) (fun s=>by unfold vxa;rw[kaa];rfl) (fun i f s hf hs=>by
  have hi:=kfa hf;obtain ⟨c1,c2,c3,c4⟩:=Wva (hc f (jAf hf));have hfl:=yOb f.Name f.Value;obtain ⟨q1,q2⟩:=vyb (flP f.Name f.Value) s (by omega) c4 hs (body:=vwa (flP f.Name f.Value)) (fun s=>by unfold vwa;rw[kaa];rfl) (fun k x s hx hs=>by
   have hk:=kfa hx;have:=c4 x (jAf hx);unfold vwa;rw[kSa hx,z3a hx];simp only[cond_true,jAb,sc k (by omega)];rw[k7a (by omega)];simp only[jAb];rw[k7a (by simp;omega)];rfl)
  unfold addF;refine ⟨?_,by omega⟩;unfold vxa;rw[kSa hf,z3a hf];simp only[cond_true,jAb,WXa f.Name f.Value (by omega) (by omega),q1,sc i (by omega)])
 rw[h1];simp only[jAb];rw[k7a (by simp;omega)];simp only[jAb];rw[k7a (by simp;omega)];rfl
def Kra:Nat->List UInt8->Option Bool
 | _,[]=>none
 | c,[x]=>if x==13 || x==10 then some true else if 998 < c+1 then some false else none
 | c,x::y::r=>if x==13 && y==10 then Kra 0 r else if x==13 || x==10 then some true else if 998 < c+1 then some false else Kra (c+1) (y::r)
def Wwa{O:Type}(e:Bool->O)(c i:Nat)(x:UInt8)(r:List UInt8):Step (Int × Int) (Unit ⊕ O):=
 if x==13 && r.head? ==some 10 then .cont (0,((i+2:Nat):Int)) else if x==13 || x==10 then .out (.inr (e true)) else if 998 < c+1 then .out (.inr (e false)) else .cont (((c+1:Nat):Int),((i+1:Nat):Int))
theorem yPb{O:Type}(e:Bool->O)(l:List UInt8){body:Int × Int->Option (Step (Int × Int) (Unit ⊕ O))}
 (h0:∀c,body (c,(l.length:Int))=some (.out (.inl ())))
 (hs:∀(c:Nat) (p:List UInt8) x r,l=p++x::r->c<=998->body ((c:Int),(p.length:Int))=some (Wwa e c p.length x r)):
 ∀(n:Nat) (r p:List UInt8) (c:Nat),r.length<=n->l=p++r->c<=998->iter body ((c:Int),(p.length:Int))=some ((Kra c r).elim (.inl ()) fun b=>.inr (e b)):=by
 intro n;induction n with
 | zero=>
  intro r p c hr hl hc;obtain rfl:r=[]:=List.length_eq_zero_iff.1 (by omega);have:p=l:=by simp[hl]
  subst this;exact zsa (h0 _)
 | succ n ih=>
  intro r p c hr hl hc
  match r,hr,hl with
  | [],_,hl=>
   have:p=l:=by simp[hl]
   subst this;exact zsa (h0 _)
  | [x],hr,hl=>
   have hb:=hs c p x [] hl hc;unfold Wwa at hb;have e1:(x==13 && ([]:List UInt8).head? ==some 10)=false:=by simp
   rw[e1]at hb;simp only[jAs,if_false]at hb;unfold Kra;cases hx:(x==13 || x==10) with
   | true=>rw[hx]at hb;exact zsa hb
   | false=>
    rw[hx]at hb;simp only[jAs,if_false]at hb ⊢;by_cases h9:998 < c+1
    .rw[if_pos h9]at hb ⊢;exact zsa hb
    rw[if_neg h9]at hb ⊢;rw[zxa hb];have:=ih [] (p++ [x]) (c+1) (by simp) (by simp[hl]) (by omega);rw[jBj]at this;exact this
  | x::y::r,hr,hl=>
   have hb:=hs c p x (y::r) hl hc;unfold Wwa at hb;have e1:((y::r).head? ==some (10:UInt8))=(y==10):=by simp
   rw[e1]at hb;unfold Kra;cases hxy:(x==13 && y==10) with
   | true=>
    rw[hxy]at hb;simp only[if_true]at hb ⊢;rw[zxa hb];have:=ih r (p++ [x,y]) 0 (by simp at hr;omega) (by simp[hl]) (by omega);rw[jBj]at this;exact this
   | false=>
    rw[hxy]at hb;simp only[jAs,if_false]at hb ⊢;cases hx:(x==13 || x==10) with
    | true=>rw[hx]at hb;exact zsa hb
    | false=>
     rw[hx]at hb;simp only[jAs,if_false]at hb ⊢;by_cases h9:998 < c+1
     .rw[if_pos h9]at hb ⊢;exact zsa hb
     rw[if_neg h9]at hb ⊢;rw[zxa hb];have:=ih (y::r) (p++ [x]) (c+1) (by simp at hr ⊢;omega) (by simp[hl]) (by omega);rw[jBj]at this;exact this
theorem next_is{l p r:List UInt8}{x:UInt8}(h:l=p++x::r)(hl:l.length<=1048576):(bif decide (((p.length+1:Nat):Int) < (l.length:Int)) then (idx l ((p.length+1:Nat):Int)).bind fun v13=>some (((v13.toNat:Int)==10)) else some false)=some (r.head? ==some 10):=by
 subst h;simp at hl;cases r with
 | nil=>
  have:decide (((p.length+1:Nat):Int) < ((p++ [x]).length:Int))=false:=by simp
  rw[this];rfl
 | cons y r=>
  have:decide (((p.length+1:Nat):Int) < ((p++x::y::r).length:Int))=true:=by simp;omega
  rw[this,Vsa];have:(p++x::y::r)[p.length+1]? =some y:=by simp[jAl]
  rw[this];simp only[cond_true,jAb,Kqa y 10 (by decide)];simp
theorem QLa(l:List UInt8)(hl:l.length<=1048576):wMa l=some ((Kra 0 l).elim 0 fun b=>bif b then 11 else 1):=by
 unfold wMa;have:=yPb (fun b:Bool=>bif b then (11:Int) else 1) l (body:=vva l) (fun c=>by unfold vva;rw[kaa];rfl) (fun c p x r h hc=>by
  have hx:l[p.length]? =some x:=by simp[h]
  have hi:=kfa hx;unfold vva wka Wwa;dsimp only;rw[kSa hx,z3a hx];simp only[cond_true,jAb,Kqa x 13 (by decide),Kqa x 10 (by decide),sc p.length (by omega),sc (p.length+1) (by omega),sc c (by omega)];rw[next_is h hl];have h9:decide ((998:Int) < ((c+1:Nat):Int))=decide (998 < c+1):=by rw[jBe];simp;omega
  rw[h9];by_cases h98:998 < c+1 <;> simp only[h98,decide_true,decide_false,if_true,if_false] <;> cases x==13 <;> cases x==10 <;> cases r.head? ==some 10 <;> rfl) l.length l [] 0 (jAq _) rfl (by omega)
 have h2:iter (vva l) (0,0)=_:=this;rw[h2];cases Kra 0 l with
 | none=>rfl
 | some b=>cases b <;> rfl
def bodyF(l:List UInt8):zoa:=(Kra 0 l).elim ⟨0,0⟩ fun b=>bif b then ⟨11, -5⟩ else ⟨1, -6⟩
theorem WZa(l:List UInt8)(hl:l.length<=1048576):yba l=some (bodyF l):=by
 unfold yba bodyF;rw[QLa l hl];cases Kra 0 l with
 | none=>rfl
 | some b=>cases b <;> rfl
def msgF(m:zda):zoa:=if (voa m.Fields).Code !=0 then voa m.Fields else if 12000 < (zra m).length then ⟨1, -4⟩ else bodyF m.Body
def ySa(m:zda):Prop:=Zba m.Fields/\m.Body.length<=1048576
theorem z4a(m:zda)(h:ySa m):zCa m=some (msgF m):=by
 obtain ⟨h1,h2⟩:=h;unfold zCa msgF;rw[wwa _ h1];simp only[jAb,zqa,zTa,WZa _ h2];cases hc:(voa m.Fields).Code !=0 with
 | true=>rfl
 | false=>
  obtain ⟨q1,q2,q3⟩:=yHa m.Fields (by simpa using hc);rw[yqa m h2 (by omega) q3];simp only[jAb,cond_false,jAs,if_false];have:decide ((12000:Int) < ((zra m).length:Int))=decide (12000 < (zra m).length):=by generalize (zra m).length=n;rw[jBe];simp;omega
  rw[this];by_cases hb:12000 < (zra m).length <;> simp[hb]
instance:DecidableEq zta:=fun a b=>decidable_of_iff (a.Address=b.Address/\a.Notify=b.Notify) (by cases a;cases b;simp)
instance:DecidableEq zoa:=fun a b=>decidable_of_iff (a.Code=b.Code/\a.Index=b.Index) (by cases a;cases b;simp)
instance:DecidableEq via:=fun a b=>decidable_of_iff (a.From=b.From/\a.To=b.To/\a.Id=b.Id) (by cases a;cases b;simp)
def W0a(s:Str)(r:zta):Bool:=r.Address==s
def qOb(out:List zta)(s:Str):Bool:=out.any (W0a s)
def putR(out:List zta)(r:zta):List zta:=if qOb out r.Address then out.map (fun x=>if W0a r.Address x then ⟨x.Address,iOr x.Notify r.Notify⟩ else x) else out++ [r]
def posA(out:List zta)(s:Str):Option Nat:=out.findIdx? (W0a s)
theorem posA_has(out:List zta)(s:Str):(posA out s).isSome=qOb out s:=by unfold posA qOb;exact List.findIdx?_isSome
theorem posA_app(out:List zta)(r:zta)(s:Str)(h:qOb out r.Address=false):posA (out++ [r]) s=if r.Address==s then some out.length else posA out s:=by
 unfold posA;rw[List.findIdx?_append];by_cases hs:(r.Address==s)=true
 .rw[if_pos hs];have e:r.Address=s:=beq_iff_eq.1 hs;subst e;have:out.findIdx? (W0a r.Address)=none:=by
   have:=posA_has out r.Address;rw[h]at this;unfold posA at this;simpa using this
  rw[this];simp[W0a]
 rw[if_neg hs];have:W0a s r=false:=by unfold W0a;simpa using hs
 simp[List.findIdx?_cons,this]
theorem posA_map(out:List zta)(f:zta->zta)(hf:∀x,(f x).Address=x.Address)(s:Str):posA (out.map f) s=posA out s:=by
 unfold posA;rw[List.findIdx?_map]
 congr 1
 funext x;simp[Function.comp,W0a,hf]
structure MInv (i:Nat) (out:List zta) (m:List (Str × Int)):Prop where
 len:out.length<=i
 nd:(out.map (·.Address)).Nodup
 mp:∀s,mget m s=(posA out s).map fun k=>((k:Nat):Int)
theorem MInv.put{i:Nat}{out:List zta}{m:List (Str × Int)}(h:MInv i out m)(r:zta):MInv (i+1) (putR out r) (if qOb out r.Address then m else mput m r.Address (out.length:Int)):=by
 unfold putR;cases hh:qOb out r.Address with
 | true=>
  simp only[if_true];have hf:∀x:zta,(if W0a r.Address x then (⟨x.Address,iOr x.Notify r.Notify⟩:zta) else x).Address=x.Address:=by intro x;split <;> rfl
  refine ⟨by simp;have:=h.len;omega,?_,fun s=>?_⟩
  .rw[List.map_map,show ((·.Address) ∘ fun x:zta=>if W0a r.Address x then (⟨x.Address,iOr x.Notify r.Notify⟩:zta) else x)=(·.Address) from funext hf];exact h.nd
  rw[posA_map _ _ hf];exact h.mp s
 | false=>
  simp only[jAs,if_false];refine ⟨by simp;exact h.len,?_,fun s=>?_⟩
  .rw[List.map_append,List.nodup_append];refine ⟨h.nd,by simp,?_⟩;intro a ha b hb;simp at hb;subst hb;rintro rfl;obtain ⟨x,hx,hxe⟩:=jBl.1 ha;unfold qOb at hh;rw[jCn]at hh;exact hh x hx (by simp[W0a,hxe])
  rw[wfb,posA_app _ _ _ hh,h.mp s];by_cases hs:(r.Address==s)=true
  .rw[if_pos hs,if_pos hs];rfl
  rw[if_neg hs,if_neg hs]
theorem yQb{m:zda}(h:zda.bk m<=1048576):ySa m:=by
 unfold zda.bk at h;have h1:=qJb (bk:=zca.bk) (fun x=>by unfold zca.bk;omega) m.Fields;have h2:=qJb (bk:=fun _:UInt8=>1) (fun x=>by simp) m.Body;refine ⟨⟨by omega,fun f hf=>?_⟩,by omega⟩;have h5:=yGb (bk:=zca.bk) hf;have h6:zca.bk f=f.Name.length+1+(f.Value.length+1)+1:=rfl;omega
def chkQ(i:Nat)(m:zda):Option zoa:=if (msgF m).Code !=0 then some ⟨(msgF m).Code,i⟩ else none
def chkF(l:List zda):zoa:=if l.length < 1∨20 < l.length then ⟨2, -20⟩ else (zZa chkQ 0 l).getD ⟨0,0⟩
def W1a(l:List zda):Prop:=l.length<=1048576/\∀m∈l,ySa m
theorem yRb{l:List zda}(h:bkL zda.bk l<=1048576):W1a l:=by
 have h1:=qJb (bk:=zda.bk) (fun x=>by unfold zda.bk;omega) l;refine ⟨by omega,fun m hm=>yQb ?_⟩;have:=yGb (bk:=zda.bk) hm;omega
theorem W2a(l:List zda)(h:W1a l):waa l=some (chkF l):=by
 obtain ⟨h1,h2⟩:=h;unfold waa chkF;rw[qaa l chkQ (.inl ()) .inr]
 .have e:(bif decide ((l.length:Int) < 1) then some true else some (decide ((20:Int) < (l.length:Int))))=some (decide (l.length < 1∨20 < l.length)):=by
   generalize l.length=n;by_cases h3:n < 1
   .have h4:(n:Int) < 1:=by omega
    simp[h3,h4]
   have h4:¬(n:Int) < 1:=by omega
   have h5:decide ((20:Int) < (n:Int))=decide (n < 1∨20 < n):=by rw[jBe];simp;omega
   rw[h5];simp[h4]
  rw[e];simp only[jAb,zTa,zPa,YYa];by_cases h6:l.length < 1∨20 < l.length
  .rw[if_pos h6,decide_eq_true h6];rfl
  rw[if_neg h6,decide_eq_false h6];rfl
 .unfold wra;rw[kaa];rfl
 intro i m hm;have hi:=kfa hm;unfold wra chkQ;rw[kSa hm,z3a hm];simp only[cond_true,jAb,z4a _ (h2 m (jAf hm)),zqa,zTa,sc i (by omega)];cases (msgF m).Code !=0 <;> rfl
theorem ySb{l:List zda}(h:(chkF l).Code=0):chkF l=⟨0,0⟩/\1<=l.length/\l.length<=20/\∀m∈l,(msgF m).Code=0:=by
 unfold chkF at h ⊢;split at h
 .cases h
 rename_i h0;rw[if_neg h0];cases hq:zZa chkQ 0 l with
 | some f=>
  rw[hq]at h;obtain ⟨i,m,_,h3⟩:=j2a hq;unfold chkQ at h3;split at h3
  .rename_i h4;cases h3;have h5:(msgF m).Code=0:=h;rw[h5]at h4;cases h4
  cases h3
 | none=>
  refine ⟨rfl,by omega,by omega,fun m hm=>?_⟩;obtain ⟨i,hi⟩:=List.mem_iff_getElem?.1 hm;have:=qUa.1 hq i m hi;unfold chkQ at this;split at this
  .cases this
  rename_i h4;simpa using h4
theorem Vxa{m:zda}(hm:(msgF m).Code=0)(h2:ySa m):qPa m=some (zra m,⟨0,0⟩)/\jma m=some (zra m)/\(zra m).length<=12000/\2<=(zra m).length:=by
 have hh:(voa m.Fields).Code=0:=by
  unfold msgF at hm;by_cases hz:(voa m.Fields).Code=0
  .exact hz
  rw[if_pos (by simpa using hz)]at hm;exact hm
 obtain ⟨q1,q2,q3⟩:=yHa _ hh;refine ⟨?_,Vwa m h2.2 (by omega) q3,?_,by unfold zra;simp;omega⟩
 .unfold qPa;rw[z4a _ h2];simp only[jAb,zqa,zPa,hm,yqa m h2.2 (by omega) q3];rfl
 unfold msgF at hm;rw[if_neg (by simpa using hh)]at hm;split at hm
 .cases hm
 omega
theorem qGa{u:Nat}(h:u < 10):Lib.decDigits u=[UInt8.ofNat (48+u)]:=by rw[Lib.decDigits,dif_pos h]
theorem Wxa{u:Nat}(h:¬u < 10):Lib.decDigits u=Lib.decDigits (u / 10)++Lib.decDigits (u % 10):=by
 rw[Lib.decDigits,dif_neg h,qGa (show u % 10 < 10 by omega)]
theorem QMa:∀(k u:Nat),u < 10 ^ (k+1)->(Lib.decDigits u).length<=k+1
 | 0,u,h=>by rw[qGa (by simpa using h)];simp
 | k+1,u,h=>by
  by_cases h10:u < 10
  .rw[qGa h10];simp
  have:=QMa k (u / 10) (by rw[Nat.pow_succ]at h;omega);rw[Wxa h10,qGa (show u % 10 < 10 by omega)];simp;omega
theorem decD_pos(u:Nat):1<=(Lib.decDigits u).length:=by
 by_cases h10:u < 10
 .rw[qGa h10];simp
 rw[Wxa h10,qGa (show u % 10 < 10 by omega)];simp
theorem iQuo10{u:Nat}(h:u<=9223372036854775807):iQuo (u:Int) 10=((u / 10:Nat):Int):=by
 unfold iQuo;rw[Int.tdiv_eq_ediv_of_nonneg (by omega),zIa (by omega) (by omega)];omega
theorem iRem10(u:Nat):iRem (u:Int) 10=((u % 10:Nat):Int):=by
 unfold iRem;rw[Int.tmod_eq_emod_of_nonneg (by omega)];omega
theorem yTb:∀u:Fin 10,cut ([48,49,50,51,52,53,54,55,56,57]:Str) (u.val:Int) (w64 ((u.val:Int)+1))=some [UInt8.ofNat (48+u.val)]:=by decide
theorem kOa{f g:Int->Option Str}(hf:∀n:Int,f n=bif decide (n < 10) then (cut ([48,49,50,51,52,53,54,55,56,57]:Str) n (w64 (n+1))).bind fun v2=>some v2 else (g (iQuo n 10)).bind fun v4=>(g (iRem n 10)).bind fun v6=>(cat v4 v6).bind fun v8=>some v8)
 (k:Nat) (hk:k<=17) (hg:∀u:Nat,u < 10 ^ k->1<=k->g (u:Int)=some (Lib.decDigits u)) (u:Nat) (hu:u < 10 ^ (k+1)):f (u:Int)=some (Lib.decDigits u):=by
 have hp:10 ^ (k+1)<=10 ^ 18:=Nat.pow_le_pow_right (by omega) (by omega);rw[hf];by_cases h10:u < 10
 .rw[decide_eq_true (by omega:(u:Int) < 10),cond_true,yTb ⟨u,h10⟩,qGa h10];rfl
 have hk1:1<=k:=by
  rcases Nat.eq_zero_or_pos k with rfl | h
  .simp at hu;omega
  exact h
 have h9:10 ^ 1<=10 ^ k:=Nat.pow_le_pow_right (by omega) hk1;rw[decide_eq_false (by omega:¬(u:Int) < 10),cond_false,iQuo10 (by omega),iRem10,hg _ (by rw[Nat.pow_succ]at hu;omega) hk1,hg _ (by omega) hk1,Wxa h10];have h1:=QMa 17 (u / 10) (by omega);have h2:=QMa 17 (u % 10) (by omega);simp only[jAb];rw[kRa (by omega)];rfl
theorem qPb(u:Nat)(h:u < 10 ^ 12):JUa (u:Int)=some (Lib.decDigits u):=by
 have h1:=kOa (f:=KYa) (g:=KXa) (fun _=>rfl) 0 (by omega) (fun _ _ h=>by omega);have h2:=kOa (f:=KZa) (fun _=>rfl) 1 (by omega) (fun u hu _=>h1 u hu);have h3:=kOa (f:=K0a) (fun _=>rfl) 2 (by omega) (fun u hu _=>h2 u hu);have h4:=kOa (f:=K1a) (fun _=>rfl) 3 (by omega) (fun u hu _=>h3 u hu);have h5:=kOa (f:=K2a) (fun _=>rfl) 4 (by omega) (fun u hu _=>h4 u hu);have h6:=kOa (f:=K3a) (fun _=>rfl) 5 (by omega) (fun u hu _=>h5 u hu);have h7:=kOa (f:=K4a) (fun _=>rfl) 6 (by omega) (fun u hu _=>h6 u hu);have h8:=kOa (f:=K5a) (fun _=>rfl) 7 (by omega) (fun u hu _=>h7 u hu);have h9:=kOa (f:=K6a) (fun _=>rfl) 8 (by omega) (fun u hu _=>h8 u hu);have h10:=kOa (f:=ZIa) (fun _=>rfl) 9 (by omega) (fun u hu _=>h9 u hu);have h11:=kOa (f:=ZJa) (fun _=>rfl) 10 (by omega) (fun u hu _=>h10 u hu);exact kOa (f:=JUa) (fun _=>rfl) 11 (by omega) (fun u hu _=>h11 u hu) u h
theorem W3a(u:Nat)(h:u<=9223372036854775807):kda (u:Int)=some (Lib.decDigits u):=by
 unfold kda;rw[if_pos (by omega),Lib.itoa_nonneg]
def padD(u k:Nat):Str:=List.replicate (k - (Lib.decDigits u).length) 48++Lib.decDigits u
theorem qVa{u k:Nat}(hk:1<=k)(h:u < 10 ^ k):(padD u k).length=k:=by
 unfold padD;have:=QMa (k - 1) u (by rw[show k - 1+1=k by omega];exact h);simp;omega
theorem khb(k:Nat)(hk:k<=1000):∀(n:Nat) (s:Str),k - s.length=n->iter (ZKa (k:Int)) s=some (List.replicate n 48++s)
 | 0,s,h=>by
  refine zsa ?_;unfold ZKa;rw[decide_eq_false (by omega)];rfl
 | n+1,s,h=>by
  have hc:ZKa (k:Int) s=some (.cont (48::s)):=by
   unfold ZKa;rw[decide_eq_true (by omega),kRa (by simp;omega)];rfl
  rw[zxa hc,khb k hk n (48::s) (by simp;omega),List.replicate_succ',jBi];rfl
theorem kib(u k:Nat)(hk:k<=1000)(h:u < 10 ^ 12):QEa (u:Int) (k:Int)=some (padD u k):=by
 unfold QEa padD;rw[qPb u h];simp only[jAb];rw[khb k hk _ _ rfl];rfl
theorem wlb(c:UInt8)(n:Nat):Lib.repeatL [c] n=List.replicate n c:=by
 induction n with
 | zero=>rfl
 | succ n ih=>rw[Lib.repeatL,ih];rfl
theorem VVa(u k:Nat)(hk:k<=1000)(h:u < 10 ^ 12):k1a (u:Int) (k:Int)=some (padD u k):=by
 have hl:=QMa 11 u (by omega);unfold k1a padD;rw[W3a u (by omega)];simp only[jAb];have e:max 0 (w64 ((k:Int) - ((Lib.decDigits u).length:Int)))=((k - (Lib.decDigits u).length:Nat):Int):=by
  rw[zIa (by omega) (by omega)];omega
 unfold qma;rw[e,if_pos ⟨by omega,by omega,by simp;omega⟩,jDl,wlb];simp only[jAb];rw[kRa (by simp;omega)];rfl
theorem VWa(b:UInt8):∀(l:Str) (acc:Nat),Lib.decFrom acc (l++ [b])=(Lib.decFrom acc l).bind fun n=>(Lib.digitVal b).map fun d=>n * 10+d
 | [],acc=>by
  simp only[jBt,Lib.decFrom,jAb];cases Lib.digitVal b <;> rfl
 | x::l,acc=>by
  rw[List.cons_append,Lib.decFrom,Lib.decFrom];cases Lib.digitVal x with
  | none=>rfl
  | some d=>exact VWa b l _
theorem jra{d:Nat}(h:d < 10):Lib.digitVal (UInt8.ofNat (48+d))=some d:=by
 have e:(UInt8.ofNat (48+d)).toNat=48+d:=by rw[jCg];omega
 unfold Lib.digitVal;rw[e,if_pos (by omega)]
 congr 1;omega
theorem W4a:∀(k u:Nat),u < 10 ^ (k+1)->Lib.decFrom 0 (Lib.decDigits u)=some u
 | 0,u,h=>by
  rw[qGa (by simpa using h),Lib.decFrom,jra (show u < 10 by simpa using h)];simp[Lib.decFrom]
 | k+1,u,h=>by
  by_cases h10:u < 10
  .rw[qGa h10,Lib.decFrom,jra h10];simp[Lib.decFrom]
  rw[Wxa h10,qGa (show u % 10 < 10 by omega),VWa,W4a k (u / 10) (by rw[Nat.pow_succ]at h;omega),jra (by omega)];simp;omega
theorem W5a(u:Nat):Lib.decFrom 0 (Lib.decDigits u)=some u:=by
 refine W4a u u<|jBq (Nat.lt_pow_self (by omega)) (Nat.pow_le_pow_right (by omega) (by omega))
theorem decD_ne(u:Nat):Lib.decDigits u≠ []:=by
 intro h;have:=decD_pos u;rw[h]at this;simp at this
theorem Y3a(u:Nat):Lib.decNat (Lib.decDigits u)=some u:=by
 unfold Lib.decNat;have:(Lib.decDigits u).isEmpty=false:=by
  cases h:Lib.decDigits u with
  | nil=>exact absurd h (decD_ne u)
  | cons x l=>rfl
 rw[this];exact W5a u
theorem qQb(u:Nat):∀c∈Lib.decDigits u,48<=c.toNat/\c.toNat<=57:=by
 intro c hc;obtain ⟨k,hk⟩:=List.mem_iff_getElem?.1 hc;obtain ⟨d,hd⟩:=Lib.digit_of_decFrom _ _ _ (W5a u) k c hk;have:=Lib.digitVal_eq hd;omega
section
def kCT:Str:=[67,111,110,116,101,110,116,45,84,121,112,101]
def vIT:Str:=[109,101,115,115,97,103,101,47,105,116,101,109]
def vMD:Str:=[109,117,108,116,105,112,97,114,116,47,100,105,103,101,115,116]
def tMD:Str:=[109,117,108,116,105,112,97,114,116]
def tD:Str:=[100,105,103,101,115,116]
def itF:List zca:=[⟨kCT,vIT⟩]
def fldF(a w d v:Str):List zca:=[⟨[70,114,111,109],a⟩,⟨[68,97,116,101],w⟩,⟨[88,45,68,105,103,101,115,116],d⟩,⟨kCT,v⟩]
def vda(b:List UInt8):zpa:=⟨itF,b,[]⟩
def digP(a w d:Str)(bs:List (List UInt8)):zpa:=⟨fldF a w d vMD,[],bs.map vda⟩
theorem type_dig(a w d:Str):vya (fldF a w d vMD)=some (⟨tMD,tD,[]⟩,3,true):=by kernel_rfl
theorem kjb(a w d:Str)(P:List zpa):qpa ⟨fldF a w d vMD,[],P⟩=some 0:=by kernel_rfl
theorem Y4a(b:List UInt8):qRa itF b 1=some []:=by kernel_rfl
theorem yUb:koa itF=some ⟨0,0⟩:=by kernel_rfl
def bodC(b:List UInt8):Int:=(Kra 0 b).elim 0 fun t=>bif t then 11 else 1
theorem wmb(b:List UInt8)(hb:b.length<=12000):q9a ⟨⟨itF,b,[]⟩,w64 (0+1)⟩=some (bodC b):=by
 unfold q9a;dsimp only;rw[yUb];simp only[jAb,zqa];rw[show decide ((12000:Int) < (b.length:Int))=false by rw[decide_eq_false_iff_not];omega,QLa b (by omega),show w64 (0+1)=1 from rfl,Y4a];show (bif bodC b !=0 then some (bodC b) else some 0)=some (bodC b);cases hc:bodC b !=0 with
 | true=>rfl
 | false=>
  have:bodC b=0:=by simpa using hc
  rw[this];rfl
section
variable {α R O A:Type}
theorem qRb(l:List α)(q:Nat->α->Option R)(oN:O)(oS:R->O)(enc:Nat->A){body:A->Option (Step A O)}(hl:body (enc l.length)=some (.out oN))
 (hs:∀(i:Nat) x,l[i]? =some x->body (enc i)=some ((q i x).elim (.cont (enc (i+1))) fun r=>.out (oS r))):
 iter body (enc 0)=some ((zZa q 0 l).elim oN oS):=by
 have key:∀r p,l=p++r->iter body (enc p.length)=some ((zZa q p.length r).elim oN oS):=by
  intro r;induction r with
  | nil=>
   intro p h;have:p=l:=by simp[h]
   subst this;exact zsa hl
  | cons x r ih=>
   intro p h;have hx:=hs p.length x (by simp[h]);unfold zZa;cases hq:q p.length x with
   | some y=>rw[hq]at hx;exact zsa hx
   | none=>
    rw[hq]at hx;rw[zxa hx];have:=ih (p++ [x]) (by simp[h]);simpa using this
 exact key l [] rfl
end
def itQ(i:Nat)(b:List UInt8):Option zoa:=if bodC b !=0 then some ⟨bodC b,((i+1:Nat):Int)⟩ else none
def valG(F:List zca)(bs:List (List UInt8)):zoa:=if (voa F).Code !=0 then ⟨(voa F).Code,0⟩ else (zZa itQ 0 bs).getD ⟨0,0⟩
def valD(a w d:Str)(bs:List (List UInt8)):zoa:=valG (fldF a w d vMD) bs
def digG(F:List zca)(bs:List (List UInt8)):zpa:=⟨F,[],bs.map vda⟩
theorem qSb(p:zpa)(h:p.Parts.length<=20):iter (kqa p) (0,w64 (0+1),false)=some (.inl false):=
 (wva p.Parts (fun i (_:Unit)=>(i,w64 (i+1),false)) (fun s _=>s) (fun _=>.inl false) (fun _ _=>True) (body:=kqa p) (fun s _=>by unfold kqa;dsimp only;rw[kaa];rfl) (fun i x s hx _=>by
  have hi:=kfa hx;refine ⟨?_,trivial⟩;unfold kqa;dsimp only;rw[kSa hx,z3a hx,sc i (by omega),show decide ((40:Int)<=((i+1:Nat):Int))=false by rw[decide_eq_false_iff_not];omega];simp only[cond_true,cond_false,jAb];rw[show iter (vAa ((i:Int),((i+1:Nat):Int),false)) 0=some (w64 (((i+1:Nat):Int)+1),false) from zsa rfl];rfl) () trivial).1
theorem jfa(F:List zca)(bs:List (List UInt8))(hs:Zba F)(hw:qpa (digG F bs)=some 0)(h1:1<=bs.length)(h2:bs.length<=20)(h3:∀b∈bs,b.length<=12000):z8a (digG F bs)=some (valG F bs):=by
 unfold z8a;rw[qSb (digG F bs) (by show (bs.map vda).length<=20;simpa using h2)];simp only[jAb,Sum.elim_inl,cond_false];have hc:vSa ⟨digG F bs,0⟩=some (voa F).Code:=by
  unfold vSa;dsimp only;rw[show (digG F bs).Fields=F from rfl,wwa _ hs];simp only[jAb,zqa];cases hz:(voa F).Code !=0 with
  | true=>rfl
  | false=>
   have hz' :(voa F).Code=0:=by simpa using hz
   rw[show (digG F bs).Parts=bs.map vda from rfl,show decide ((0:Int) < ((bs.map vda).length:Int))=true by simp;omega,show qpa (digG F bs)=some 0 from hw,hz'];rfl
 rw[hc];unfold valG;simp only[jAb,zTa,zPa];cases hz:(voa F).Code !=0 with
 | true=>rfl
 | false=>
  simp only[cond_false,jAs,if_false];have hl:iter (kra (digG F bs)) (0,w64 (0+1))=some ((zZa itQ 0 bs).elim (.inl ()) fun f=>.inr (f.Code,f.Index)):=
   qRb bs itQ (Sum.inl ():Unit ⊕ (Int × Int)) (fun f=>.inr (f.Code,f.Index)) (fun i=>((i:Int),w64 ((i:Int)+1))) (body:=kra (digG F bs)) (by
    unfold kra;dsimp only;rw[show ((digG F bs).Parts.length:Int)=(bs.length:Int) by show ((bs.map vda).length:Int)=_;simp,kaa];rfl) fun i b hb=>by
    have hi:=kfa hb;have hx:(digG F bs).Parts[i]? =some (vda b):=by show (bs.map vda)[i]? =_;simp[hb]
    unfold kra itQ;dsimp only;rw[kSa hx,z3a hx,sc i (by omega)];simp only[cond_true,jAb];rw[show q9a ⟨⟨(vda b).Fields,(vda b).Body,[]⟩,w64 (0+1)⟩=some (bodC b) from wmb b (h3 b (jAf hb))];simp only[jAb,zTa];cases hc:bodC b !=0 with
    | true=>rfl
    | false=>
     simp only[cond_false,jAs,if_false];rw[show iter (vBa ((i:Int),((i+1:Nat):Int))) 0=some (w64 (((i+1:Nat):Int)+1)) from zsa rfl];rfl
  rw[hl];cases zZa itQ 0 bs <;> rfl
theorem Vya(a w d:Str)(bs:List (List UInt8))(hs:Zba (fldF a w d vMD))(h1:1<=bs.length)(h2:bs.length<=20)(h3:∀b∈bs,b.length<=12000):z8a (digP a w d bs)=some (valD a w d bs):=
 jfa (fldF a w d vMD) bs hs (kjb a w d _) h1 h2 h3
def itH:List UInt8:=itF.foldl addF []++ [13,10]
def itT(b:List UInt8):List UInt8:=itH++b
theorem J3a:itH.length=30:=by decide+kernel
theorem Y5a:∀f∈itF,y0a f=0:=by decide+kernel
theorem V5a(b:List UInt8)(hb:b.length<=1048576):wSa itF b=some (itT b):=by
 have h:wSa itF b=qOa ⟨itF,b⟩:=by kernel_rfl
 rw[h,yqa ⟨itF,b⟩ hb (show itF.length<=60 by decide) Y5a];rfl
end
def fl:List UInt8->List UInt8->List Str × List UInt8
 | cur,[]=>([],cur)
 | cur,[c]=>([],cur++ [c])
 | cur,c::d::r=>if c=13/\d=10 then (cur::(fl [] r).1,(fl [] r).2) else fl (cur++ [c]) (d::r)
theorem fl_hit(cur r:List UInt8):fl cur (13::10::r)=(cur::(fl [] r).1,(fl [] r).2):=by rw[fl,if_pos ⟨rfl,rfl⟩]
theorem yVb{c d:UInt8}(h:¬(c=13/\d=10))(cur r:List UInt8):fl cur (c::d::r)=fl (cur++ [c]) (d::r):=by rw[fl,if_neg h]
theorem qqa(c d:UInt8)(r:List UInt8):Lib.index (c::d::r) [13,10]=if c=13/\d=10 then 0 else if Lib.index (d::r) [13,10]= -1 then -1 else Lib.index (d::r) [13,10]+1:=by
 rw[Lib.index];by_cases h:c=13/\d=10
 .obtain ⟨rfl,rfl⟩:=h;simp
 rw[if_neg h,if_neg]
 .simp
 simp only[List.isPrefixOf,jCq,jAk,beq_iff_eq];rintro ⟨rfl,rfl⟩;exact h ⟨rfl,rfl⟩
theorem fl_none(l:List UInt8):∀cur,Lib.index l [13,10]= -1->fl cur l=([],cur++l):=by
 induction l with
 | nil=>intro cur _;simp[fl]
 | cons c r ih=>
  intro cur h
  match r,ih with
  | [],_=>simp[fl]
  | d::r,ih=>
   rw[qqa]at h;have hg:=Lib.index_ge (d::r) [13,10];split at h
   .cases h
   rename_i hn;rw[yVb hn,ih]
   .simp
   split at h
   .assumption
   omega
theorem yWb(l:List UInt8):∀(cur:List UInt8) (k:Nat),Lib.index l [13,10]=(k:Int)->k+2<=l.length/\fl cur l=((cur++l.take k)::(fl [] (l.drop (k+2))).1,(fl [] (l.drop (k+2))).2):=by
 induction l with
 | nil=>intro cur k h;simp[Lib.index]at h
 | cons c r ih=>
  intro cur k h
  match r,ih with
  | [],_=>simp[Lib.index]at h
  | d::r,ih=>
   rw[qqa]at h;have hg:=Lib.index_ge (d::r) [13,10];split at h
   .rename_i hn;obtain ⟨rfl,rfl⟩:=hn;obtain rfl:k=0:=by omega
    rw[fl_hit];simp
   rename_i hn;split at h
   .omega
   obtain ⟨j,rfl⟩:∃j,k=j+1:=⟨k - 1,by omega⟩;obtain ⟨h1,h2⟩:=ih (cur++ [c]) j (by omega);rw[yVb hn,h2];refine ⟨by simp at h1 ⊢;omega,?_⟩;simp
theorem yXb(l:List UInt8)(cur:List UInt8):((fl cur l).1.flatMap fun x=>x++ [13,10])++(fl cur l).2=cur++l:=by
 fun_induction fl cur l with
 | case1 cur=>simp
 | case2 cur c=>simp
 | case3 cur c d r h ih=>obtain ⟨rfl,rfl⟩:=h;simpa using ih
 | case4 cur c d r h ih=>simpa using ih
def lns(t:List UInt8):List Str:=(fl [] t).1++(if (fl [] t).2=[] then [] else [(fl [] t).2])
theorem J4a{t:List UInt8}(h:Lib.index t [13,10]= -1)(hn:t≠ []):lns t=[t]:=by
 unfold lns;rw[fl_none t [] h];simp[hn]
theorem J5a{t:List UInt8}{k:Nat}(h:Lib.index t [13,10]=(k:Int)):k+2<=t.length/\lns t=t.take k::lns (t.drop (k+2)):=by
 obtain ⟨h1,h2⟩:=yWb t [] k h;refine ⟨h1,?_⟩;unfold lns;rw[h2];simp
def hasL(p:Str)(t:List UInt8):Bool:=(lns t).any p.isPrefixOf
theorem wnb(t:List UInt8)(b:Str)(ht:t.length<=1048576)(hb:b.length<=100)(n:Nat):∀k:Nat,k<=t.length->t.length - k=n->
 iter (kpa t b) (k:Int)=some (bif hasL ([45,45]++b) (t.drop k) then .inr () else .inl ()):=by
 induction n using Nat.strongRecOn with
 | _ n ih=>
  intro k h1 h2;by_cases hk:k=t.length
  .subst hk;rw[zsa (r:=.inl ()) (by unfold kpa;rw[kaa];rfl)];rw[List.drop_length];rfl
  have hx:t[k]? =some (t[k]'(by omega)):=jAg (by omega);have hg:=Lib.index_ge (t.drop k) [13,10];have hne:t.drop k≠ []:=by intro e;have:=congrArg List.length e;simp at this;omega
  by_cases hi:Lib.index (t.drop k) [13,10]= -1
  .have hb2:kpa t b (k:Int)=some (bif ([45,45]++b).isPrefixOf (t.drop k) then .out (.inr ()) else .cont (t.length:Int)):=by
    unfold kpa;rw[kSa hx];simp only[yRa (Nat.le_of_lt (show k < t.length by omega)),jAb,v0a,cond_true];rw[if_pos (by simp;omega)];simp only[hi,jAb,show decide ((0:Int)<= -1)=false by decide,cond_false,yRa (Nat.le_of_lt (show k < t.length by omega)),kRa (show ([45,45]:Str).length+b.length<=9223372036854775807 by simp;omega),vCa];cases ([45,45]++b).isPrefixOf (t.drop k) <;> rfl
   have hh:hasL ([45,45]++b) (t.drop k)=([45,45]++b).isPrefixOf (t.drop k):=by unfold hasL;rw[J4a hi hne];simp
   rw[hh];cases hp:([45,45]++b).isPrefixOf (t.drop k) with
   | true=>rw[hp]at hb2;rw[zsa hb2];rfl
   | false=>
    rw[hp]at hb2;rw[zxa hb2,zsa (r:=.inl ()) (by unfold kpa;rw[kaa];rfl)];rfl
  obtain ⟨j,hj⟩:∃j:Nat,Lib.index (t.drop k) [13,10]=(j:Int):=⟨(Lib.index (t.drop k) [13,10]).toNat,by omega⟩;obtain ⟨hj2,hl⟩:=J5a hj;simp at hj2;have hb2:kpa t b (k:Int)=some (bif ([45,45]++b).isPrefixOf ((t.drop k).take j) then .out (.inr ()) else .cont ((k+j+2:Nat):Int)):=by
   unfold kpa;rw[kSa hx];simp only[yRa (Nat.le_of_lt (show k < t.length by omega)),jAb,v0a,cond_true];rw[if_pos (by simp;omega)];simp only[hj,jAb,show decide ((0:Int)<=(j:Int))=true by simp,cond_true];rw[z6b k j (by omega),show w64 (((k+j:Nat):Int)+2)=((k+j+2:Nat):Int) from by rw[zIa (by omega) (by omega)];omega];rw[YWa (show k<=k+j by omega) (by omega)];simp only[jAb,kRa (show ([45,45]:Str).length+b.length<=9223372036854775807 by simp;omega),vCa,show k+j - k=j by omega];cases ([45,45]++b).isPrefixOf ((t.drop k).take j) <;> rfl
  have hh:hasL ([45,45]++b) (t.drop k)=(([45,45]++b).isPrefixOf ((t.drop k).take j) || hasL ([45,45]++b) (t.drop (k+j+2))):=by
   unfold hasL;rw[hl];simp[List.drop_drop,jCj]
  rw[hh];cases hp:([45,45]++b).isPrefixOf ((t.drop k).take j) with
  | true=>rw[hp]at hb2;rw[zsa hb2];rfl
  | false=>
   rw[hp]at hb2;rw[zxa hb2,ih (t.length - (k+j+2)) (by omega) (k+j+2) (by omega) rfl];simp
theorem free1_eq(t:List UInt8)(b:Str)(ht:t.length<=1048576)(hb:b.length<=100):yga t b=some (hasL ([45,45]++b) t):=by
 have h:=wnb t b ht hb _ 0 (jBz _) rfl;rw[show ((0:Nat):Int)=0 from rfl]at h;unfold yga;rw[h,List.drop_zero];cases hasL ([45,45]++b) t <;> rfl
def bndD(n:Nat):Str:=98::Lib.decDigits n
def Yva(ts:List (List UInt8))(n:Nat):Bool:=ts.any (hasL ([45,45]++bndD n))
theorem kkb{α:Type}[DecidableEq α]:∀{a b:List α},a.Nodup->(∀x∈a,x∈b)->a.length<=b.length
 | [],b,_,_=>jBz _
 | x::a,b,hn,hs=>by
  have hx:=hs x (by simp);obtain ⟨h1,h2⟩:=List.nodup_cons.1 hn;have:=kkb (b:=b.erase x) h2 fun y hy=>(List.mem_erase_of_ne (by rintro rfl;exact h1 hy)).2 (hs y (by simp[hy]))
  rw[List.length_erase_of_mem hx]at this;have:=List.length_pos_of_mem hx;simp;omega
def yYb(L:Str):List Str:=(List.range (L.length+1)).map fun j=>L.take j
def prefs(ts:List (List UInt8)):List Str:=ts.flatMap fun t=>(lns t).flatMap yYb
theorem lns_size(n:Nat):∀t:List UInt8,t.length=n->((lns t).flatMap yYb).length<=t.length+1:=by
 induction n using Nat.strongRecOn with
 | _ n ih=>
  intro t ht;by_cases h0:t=[]
  .subst h0;simp[lns,fl]
  have hg:=Lib.index_ge t [13,10];by_cases hi:Lib.index t [13,10]= -1
  .rw[J4a hi h0];simp[yYb]
  obtain ⟨j,hj⟩:∃j:Nat,Lib.index t [13,10]=(j:Int):=⟨(Lib.index t [13,10]).toNat,by omega⟩;obtain ⟨hj2,hl⟩:=J5a hj;have:=ih (t.drop (j+2)).length (by simp;omega) (t.drop (j+2)) rfl;rw[hl,jCv,jBj];have e:(yYb (t.take j)).length=j+1:=by simp[yYb];omega
  rw[jDc]at this;omega
def QNa:List (List UInt8)->Nat
 | []=>0
 | t::ts=>t.length+1+QNa ts
theorem Y6a:∀ts:List (List UInt8),(prefs ts).length<=QNa ts
 | []=>jAq _
 | t::ts=>by
  have h1:=lns_size _ t rfl;have h2:=Y6a ts;unfold prefs at h2 ⊢;rw[jCv,jBj];unfold QNa;omega
theorem dec_inj{u v:Nat}(h:Lib.decDigits u=Lib.decDigits v):u=v:=by
 have h1:=Y3a u;rw[h,Y3a v]at h1;cases h1;rfl
theorem used_le(ts:List (List UInt8))(k:Nat)(h:∀j,j < k->Yva ts j=true):k<=QNa ts:=by
 refine jBg ?_ (Y6a ts);have h1:((List.range k).map fun j=>([45,45]++bndD j:Str)).length<=(prefs ts).length:=by
  refine kkb ?_ fun x hx=>?_
  .rw[List.nodup_iff_pairwise_ne,List.pairwise_map];refine List.Pairwise.imp ?_ (List.nodup_iff_pairwise_ne.1 List.nodup_range);intro a b hab e;exact hab (dec_inj (by simpa[bndD]using e))
  obtain ⟨j,hj,rfl⟩:=jBl.1 hx;have hu:=h j (jCm.1 hj);obtain ⟨t,ht,h2⟩:=List.any_eq_true.1 hu;obtain ⟨L,hL,h3⟩:=List.any_eq_true.1 h2;refine List.mem_flatMap.2 ⟨t,ht,List.mem_flatMap.2 ⟨L,hL,jBl.2 ⟨([45,45]++bndD j:Str).length,?_,?_⟩⟩⟩
  .rw[jCm];have:=(jCw.1 h3).length_le;omega
  exact (List.prefix_iff_eq_take.1 (jCw.1 h3)).symm
 simpa using h1
theorem J6a(n:Nat)(h:n<=1000000):kda (n:Int)=some (Lib.decDigits n):=by
 unfold kda;rw[if_pos (by omega),Lib.itoa_nonneg]
theorem QOa{n:Nat}(h:n<=1000000):(Lib.decDigits n).length<=7:=by
 have key:∀(k u:Nat),u < 10 ^ (k+1)->(Lib.decDigits u).length<=k+1:=by
  intro k;induction k with
  | zero=>intro u hu;rw[Lib.decDigits,dif_pos (by simpa using hu)];simp
  | succ k ih=>
   intro u hu;rw[Lib.decDigits];split
   .simp
   have:=ih (u / 10) (by rw[Nat.pow_succ]at hu;omega);simp;omega
 exact key 6 n (by omega)
theorem Y7a(p:Str):∀(ts:List (List UInt8)) (m:Nat),ts.any (hasL p)=(zZa (fun (i:Nat) t=>if hasL p t then some (i:Int) else none) m ts).isSome
 | [],m=>rfl
 | t::ts,m=>by
  unfold zZa;rw[List.any_cons,Y7a p ts (m+1)];cases hasL p t <;> simp
theorem wob(ts:List (List UInt8))(n:Nat)(h:n<=1000000)(hts:∀t∈ts,t.length<=1048576)(hl:ts.length<=1048576):
 wua ts (n:Int)=some (bif Yva ts n then .cont ((n+1:Nat):Int) else .out (bndD n)):=by
 have h7:=QOa h;unfold wua;rw[J6a n h];simp only[jAb];rw[kRa (by simp;omega)];simp only[jAb];have hloop:iter (wta ts ([98]++Lib.decDigits n)) 0=some ((zZa (fun (i:Nat) t=>if hasL ([45,45]++bndD n) t then some (i:Int) else none) 0 ts).elim (.inl ()) .inr):=by
  refine qaa ts (fun (i:Nat) t=>if hasL ([45,45]++bndD n) t then some (i:Int) else none) (Sum.inl ():Unit ⊕ Int) .inr ?_ fun i t ht=>?_
  .unfold wta;rw[kaa];rfl
  have hi:=kfa ht;unfold wta;rw[kSa ht,z3a ht];simp only[cond_true,jAb];rw[free1_eq t _ (hts t (jAf ht)) (by simp;omega),sc i (by omega)];show (some (hasL ([45,45]++bndD n) t)).bind _=_;cases hasL ([45,45]++bndD n) t <;> rfl
 rw[hloop];have hu:Yva ts n=(zZa (fun (i:Nat) t=>if hasL ([45,45]++bndD n) t then some (i:Int) else none) 0 ts).isSome:=Y7a _ ts 0;rw[hu];cases hf:zZa (fun (i:Nat) t=>if hasL ([45,45]++bndD n) t then some (i:Int) else none) 0 ts with
 | none=>rfl
 | some x=>
  obtain ⟨i,t,_,h3⟩:=j2a hf;split at h3
  .cases h3;simp only[Option.elim_some,jAb,Sum.elim_inr,show decide ((0:Int)<=((0+i:Nat):Int))=true by simp,jAx,cond_false,Option.isSome_some,cond_true];rw[sc n (by omega)]
  cases h3
theorem J7a(ts:List (List UInt8))(hs:QNa ts<=1000000)(hts:∀t∈ts,t.length<=1048576)(hl:ts.length<=1048576):∃n,n<=1000000/\Yva ts n=false/\jJa ts=some (bndD n):=by
 obtain ⟨r,h1,n,h2,h3,h4⟩:=j1a (body:=wua ts) (fun s=>∃k:Nat,s=(k:Int)/\∀j,j < k->Yva ts j=true) (fun s=>1000001 - s.toNat) (fun _ r=>∃n,n<=1000000/\Yva ts n=false/\r=bndD n) (fun s hi=>by
  obtain ⟨k,rfl,hk⟩:=hi;have hle:=used_le ts k hk;have hb:=wob ts k (by omega) hts hl;cases hu:Yva ts k with
  | false=>rw[hu]at hb;exact .inl ⟨_,hb,k,by omega,hu,rfl⟩
  | true=>
   rw[hu]at hb;refine .inr ⟨_,hb,⟨k+1,rfl,fun j hj=>?_⟩,?_,fun r hr=>hr⟩
   .rcases jAv j k with h | h
    .exact hk j h
    obtain rfl:j=k:=by omega
    exact hu
   simp;omega) 0 ⟨0,rfl,fun j hj=>by omega⟩
 refine ⟨n,h2,h3,?_⟩;unfold jJa;rw[h1,h4];rfl
def add1(o:List Str)(x:Str):List Str:=if o.contains x then o else o++ [x]
def Y8a(o xs:List Str):List Str:=xs.foldl add1 o
theorem add1_mem(o:List Str)(x y:Str):y∈add1 o x↔y∈o∨y=x:=by
 unfold add1;split
 .rename_i h;simp at h;constructor
  .exact .inl
  rintro (h1 | rfl)
  .exact h1
  exact h
 simp
theorem qTb(o:List Str)(x:Str):o <+:add1 o x:=by
 unfold add1;split
 .exact List.prefix_refl _
 exact List.prefix_append _ _
theorem wpb{o:List Str}(h:o.Nodup)(x:Str):(add1 o x).Nodup:=by
 unfold add1;split
 .exact h
 rename_i hx;simp at hx;rw[List.nodup_append];exact ⟨h,by simp,fun a ha b hb hab=>by simp at hb;subst hb;subst hab;exact hx ha⟩
theorem wqb(xs:List Str):∀(o:List Str) (y:Str),y∈Y8a o xs↔y∈o∨y∈xs:=by
 induction xs with
 | nil=>intro o y;simp[Y8a]
 | cons x xs ih=>intro o y;show y∈Y8a (add1 o x) xs↔_;rw[ih,add1_mem];simp[or_assoc]
theorem J8a(xs:List Str):∀o:List Str,o <+:Y8a o xs:=by
 induction xs with
 | nil=>intro o;exact List.prefix_refl _
 | cons x xs ih=>intro o;exact (qTb o x).trans (ih _)
theorem klb(xs:List Str):∀{o:List Str},o.Nodup->(Y8a o xs).Nodup:=by
 induction xs with
 | nil=>intro o h;exact h
 | cons x xs ih=>intro o h;exact ih (wpb h x)
theorem nodup_le{l m:List Str}(hl:l.Nodup)(h:∀x∈l,x∈m):l.length<=m.length:=by
 induction l generalizing m with
 | nil=>simp
 | cons x l ih=>
  have hx:x∈m:=h x (by simp);obtain ⟨hxl,hl'⟩:=List.nodup_cons.1 hl;have:=ih (m:=m.erase x) hl' (fun y hy=>by
   have hne:y≠x:=by rintro rfl;exact hxl hy
   exact (List.mem_erase_of_ne hne).2 (h y (by simp[hy])))
  rw[List.length_erase_of_mem hx]at this;have:0 < m.length:=List.length_pos_of_mem hx;simp;omega
def tgtO(l:List jba)(s:Str):Option (List Str):=(l.find? (fun a=>a.Address==s)).map (·.To)
def tgt(l:List jba)(s:Str):List Str:=(tgtO l s).getD []
def univ(l:List jba)(from_:List Str):List Str:=from_++l.flatMap (·.To)
theorem tgt_sub(l:List jba)(s x:Str)(h:x∈tgt l s):∃a∈l,a.Address=s/\x∈a.To:=by
 unfold tgt tgtO at h;cases hf:l.find? (fun a=>a.Address==s) with
 | none=>rw[hf]at h;simp at h
 | some a=>
  rw[hf]at h;have:=List.find?_some hf;exact ⟨a,List.mem_of_find?_eq_some hf,by simpa using this,by simpa using h⟩
structure Inv (l:List jba) (U:List Str) (k:Nat) (out:List Str):Prop where
 nd:out.Nodup
 sub:∀x∈out,x∈U
 le:k<=out.length
theorem Inv.len{l:List jba}{U:List Str}{k:Nat}{out:List Str}(h:Inv l U k out):out.length<=U.length:=nodup_le h.nd h.sub
theorem Inv.step{l:List jba}{from_:List Str}{k:Nat}{out:List Str}(h:Inv l (univ l from_) k out){s:Str}(hs:out[k]? =some s):Inv l (univ l from_) (k+1) (Y8a out (tgt l s)):=by
 refine ⟨klb _ h.nd,fun x hx=>?_,?_⟩
 .rcases (wqb _ _ _).1 hx with h1 | h1
  .exact h.sub x h1
  obtain ⟨a,ha,_,hxa⟩:=tgt_sub l s x h1;exact jDj.2 (.inr (List.mem_flatMap.2 ⟨a,ha,hxa⟩))
 have:=(J8a (tgt l s) out).length_le;have:=kfa hs;omega
def lowC(c:UInt8):UInt8:=bif decide ((65:UInt8)<=c) && decide (c<=90) then c+97 - 65 else c
def lowP(s:Str):Str:=s.map lowC
theorem KJa(s:Str)(hs:s.length<=1048576):wOa s=some (lowP s):=by
 unfold wOa;have key:∀r p:Str,s=p++r->iter (qla s) ((p.length:Int),p.map lowC++r)=some (lowP s):=by
  intro r;induction r with
  | nil=>
   intro p h;have hp:p=s:=by simp[h]
   subst hp;refine zsa ?_;unfold qla;dsimp only;rw[kaa];simp[lowP]
  | cons c r ih=>
   intro p h;have hx:s[p.length]? =some c:=by simp[h]
   have hi:=kfa hx;have hx2:(p.map lowC++c::r)[p.length]? =some c:=by
    rw[jAl (by simp)];simp
   have hb:qla s ((p.length:Int),p.map lowC++c::r)=some (.cont (((p.length+1:Nat):Int),(p++ [c]).map lowC++r)):=by
    unfold qla;dsimp only;rw[kSa hx,z3a hx2];simp only[cond_true,jAb,WTa 65 c (by decide),WUa 90 c (by decide),sc p.length (by omega),jDl];have hset:(p.map lowC++c::r).set p.length (lowC c)=(p++ [c]).map lowC++r:=by
     rw[List.set_append_right _ _ (by simp)];simp
    have hsame:lowC c=c->p.map lowC++c::r=(p++ [c]).map lowC++r:=by intro h;simp[h]
    unfold lowC at hset hsame ⊢;cases h1:decide ((65:UInt8)<=c) <;> cases h2:decide (c<=90) <;> rw[h1,h2]at hset hsame <;> simp only[jCq,Bool.and_false,Bool.true_and,Bool.false_and,cond_true,cond_false,jAb]at hset hsame ⊢
    .rw[hsame trivial]
    .rw[hsame trivial]
    .rw[hsame trivial]
    rw[hset]
   rw[zxa hb];have:=ih (p++ [c]) (by simp[h]);simpa using this
 have:=key s [] rfl;have h2:iter (qla s) (0,s)=some (lowP s):=this;rw[h2];rfl
def qUb(a b:Str):Bool:=lowP a==lowP b
theorem J9a(a b:Str)(ha:a.length<=1048576)(hb:b.length<=1048576):kBa a b=some (qUb a b):=by
 unfold kBa qUb;rw[KJa a ha,KJa b hb];simp only[jAb];by_cases h:a.length=b.length
 .have:((a.length:Int)==(b.length:Int))=true:=by simp[h]
  rw[this];rfl
 have:((a.length:Int)==(b.length:Int))=false:=by rw[beq_eq_false_iff_ne];omega
 rw[this];have:(lowP a==lowP b)=false:=by
  rw[beq_eq_false_iff_ne];intro hc;have:=congrArg List.length hc;simp[lowP]at this;exact h this
 rw[this];rfl
theorem KKa(n:Str)(hn:n.length<=1048576):wNa n=some (fnP n):=by
 unfold wNa;rw[ZUa n [] hn (by simp)];simp only[jAb,zqa,Option.some.injEq];have h:=Wua ⟨n,[]⟩;unfold y0a at h;dsimp only at h;rw[h];unfold wkb;cases hf:fnP n with
 | false=>rfl
 | true=>
  have h60:n.length<=60:=by unfold fnP at hf;simp only[jAk,decide_eq_true_eq]at hf;exact hf.1.2
  have hl:flP n []=[txt n []]:=by unfold flP;exact k4a (.inl (by have:=WWa n [];simp at this;omega))
  have hlb:kfb (flP n [])=false:=by
   rw[hl];have:=WWa n [];unfold kfb;simp at this ⊢;omega
  have hv:valP []=true:=rfl;rw[hlb,hv];rfl
theorem W6a(l:List zca)(n:Str)(hl:Zba l)(hn:n.length<=1048576):yca l n=some (if (voa l).Code !=0 then voa l else if !fnP n then ⟨10, -3⟩ else ⟨0,0⟩):=by
 unfold yca;rw[wwa l hl,KKa n hn];simp only[jAb,zqa,zTa,zPa];cases (voa l).Code !=0 <;> cases fnP n <;> rfl
def getP(l:List zca)(n:Str):List Str:=(l.filter fun f=>qUb f.Name n).map (·.Value)
theorem get_fold(n:Str)(l:List zca):∀o:List Str,l.foldl (fun o (f:zca)=>if qUb f.Name n then o++ [f.Value] else o) o=o++getP l n:=by
 unfold getP;induction l with
 | nil=>intro o;simp
 | cons f l ih=>intro o;rw[jCc,ih,List.filter_cons];cases qUb f.Name n <;> simp
theorem zab(l:List zca)(n:Str)(hl:Zba l)(hn:n.length<=1048576):jHa l n=some (if (voa l).Code !=0 then ([],voa l) else if !fnP n then ([],⟨10, -3⟩) else (getP l n,⟨0,0⟩)):=by
 unfold jHa;rw[W6a l n hl hn];obtain ⟨h1,h2⟩:=hl;have:=(wva l (fun i (s:List Str)=>(i,s)) (fun o (f:zca)=>if qUb f.Name n then o++ [f.Value] else o) id (fun i s=>s.length<=i) (body:=wma l n)
  (fun s _=>by unfold wma;simp[kaa]) (fun i f s hf hi=>by
   have hlt:=kfa hf;have hfs:=h2 f (jAf hf);refine ⟨?_,by split <;> (try simp) <;> omega⟩;unfold wma;dsimp only;rw[kSa hf,z3a hf];simp only[cond_true,jAb,sc i (by omega),J9a _ _ hfs.1 hn];cases qUb f.Name n with
   | false=>rfl
   | true=>
    simp only[cond_true,if_true];rw[k7a (by simp;omega)];rfl) [] (by simp)).1
 rw[this,get_fold];simp only[jAb,zqa,zPa];cases hc:(voa l).Code !=0 with
 | true=>simp[hc]
 | false=>cases hf:fnP n <;> simp
theorem wrb(f:zca)(l:List zca)(hl:l.length<=1048576):zFa [[f],l]=some (f::l):=by
 unfold zFa;have h1:iter (zwa [[f],l]) (0,0)=some (((l.length+1:Nat):Int)):=by
  have e1:w64 ((0:Int)+1)=1:=rfl;have e2:w64 ((1:Int)+(l.length:Int))=((l.length+1:Nat):Int):=by rw[zIa (by omega) (by omega)];omega
  have s1:zwa [[f],l] (0,0)=some (.cont (1,1)):=rfl;have s2:zwa [[f],l] (1,1)=some (.cont (((l.length+1:Nat):Int),2)):=by
   show (bif decide (w64 ((1:Int)+(l.length:Int)) < 0) then none else some (Step.cont (w64 ((1:Int)+(l.length:Int)),w64 (1+1))))=_;rw[e2,decide_eq_false (by omega)];rfl
  have s3:zwa [[f],l] (((l.length+1:Nat):Int),2)=some (.out ((l.length+1:Nat):Int)):=rfl;exact (zxa s1).trans ((zxa s2).trans (zsa s3))
 rw[h1];simp only[jAb];have e0:w64 (((l.length+1:Nat):Int) - w64 (0 - 0))=((l.length+1:Nat):Int):=by
  show w64 (((l.length+1:Nat):Int) - 0)=_;rw[Int.sub_zero,qEb _ (by omega)]
 rw[e0,decide_eq_false (show ¬(((l.length+1:Nat):Int) < 0) by omega),decide_eq_true (show (0:Int) < ((l.length+1:Nat):Int) by omega)];simp only[cond_true,cond_false];have hz:zrep 4398046511104 ((l.length+1:Nat):Int) (⟨[],[]⟩:zca)=some (List.replicate (l.length+1) ⟨[],[]⟩):=by
  unfold zrep;rw[if_pos ⟨by omega,by simp;omega⟩];rfl
 rw[hz];simp only[jAb];have hc:cut (List.replicate (l.length+1) (⟨[],[]⟩:zca)) 0 0=some []:=by
  have:=WSa (l:=List.replicate (l.length+1) (⟨[],[]⟩:zca)) (b:=0) (by omega);simpa using this
 rw[hc];simp only[jAb];have s1:zBa [[f],l] (0,[])=some (.cont (1,[f])):=by
  show (app 4398046511104 ([]:List zca) [f]).bind (fun v20=>some (Step.cont (w64 (0+1),v20)))=_;rw[k7a (by simp)];rfl
 have s2:zBa [[f],l] (1,[f])=some (.cont (2,f::l)):=by
  show (app 4398046511104 [f] l).bind (fun v20=>some (Step.cont (w64 (1+1),v20)))=_;rw[k7a (by simp;omega)];rfl
 have s3:zBa [[f],l] (2,f::l)=some (.out (f::l)):=rfl;rw[zxa s1,zxa s2,zsa s3];rfl
theorem Ywa(m:zda)(n v:Str)(hf:m.Fields.length<=1048576)(hb:m.Body.length<=1048576):yMa m n v=some ⟨⟨n,v⟩::m.Fields,m.Body⟩:=by
 unfold yMa;rw[wrb _ _ hf];simp only[jAb];have ha:(app 140737488355328 ([]:List UInt8) m.Body).bind (fun v5=>some v5)=some m.Body:=by rw[k7a (by simp;omega)];rfl
 rw[ha,zCb]
 .rfl
 intro he;rw[List.isEmpty_iff.1 he]
theorem yZb{m:zda}(h:(msgF m).Code=0):(voa m.Fields).Code=0:=by
 unfold msgF at h;cases hc:(voa m.Fields).Code !=0 with
 | false=>simpa using hc
 | true=>rw[hc]at h;simpa using h
instance:DecidableEq zca:=fun a b=>decidable_of_iff (a.Name=b.Name/\a.Value=b.Value) (by cases a;cases b;simp)
instance:DecidableEq zda:=fun a b=>decidable_of_iff (a.Fields=b.Fields/\a.Body=b.Body) (by cases a;cases b;simp)
instance:DecidableEq WOa:=fun a b=>decidable_of_iff (a.Envelope=b.Envelope/\a.Message=b.Message) (by cases a;cases b;simp)
theorem jga{α:Type}{lim:Nat}(l:List α)(h:l.length<=lim):(nilE l.isEmpty (some ([]:List α)) ((app lim ([]:List α) l).bind fun v=>some v))=some l:=by
 rw[k7a (by simpa using h)];simp only[jBt,jAb];exact zCb _ _ _ (fun he=>by rw[List.isEmpty_iff.1 he])
theorem qVb{f:zca}{l:List zca}(h1:f.Name.length<=1048576/\f.Value.length<=1048576)(h:Zba l)(h60:l.length < 1048576):Zba (f::l):=by
 refine ⟨by simp;omega,fun g hg=>?_⟩;rcases jBo.1 hg with rfl | hg
 .exact h1
 exact h.2 g hg
def D11:List UInt8:=[98,48,49,50,51,52,53,54,55,56,57]
theorem zbb(n:Nat):∀c∈bndD n,c∈D11:=by
 intro c hc;rcases jBo.1 hc with rfl | hc
 .decide
 obtain ⟨h1,h2⟩:=qQb n c hc;have h:∀i:Fin 10,UInt8.ofNat (48+i.val)∈D11:=by decide
 have:=h ⟨c.toNat - 48,by omega⟩;rw[show 48+(c.toNat - 48)=c.toNat by omega,UInt8.ofNat_toNat]at this;exact this
theorem zcb{n:Nat}(h:n<=1000000):(bndD n).length<=8/\1<=(bndD n).length:=by
 have:=QOa h;unfold bndD;simp;omega
theorem tokC:∀c∈D11,((bif decide (33<=(c.toNat:Int)) then (bif decide ((c.toNat:Int)<=126) then (zua (([40,41,60,62,64,44,59,58,92,34,47,91,93,63,61,42,37,39]:Str)) c).bind fun v16=>some (decide (v16 < 0)) else some false) else some false):Option Bool)=some true:=by decide+kernel
theorem tok_true(s:Str)(h0:s≠ [])(h60:s.length<=60)(hc:∀c∈s,c∈D11):k2a s=some true:=by
 unfold k2a;rw[show (s !=([]:Str))=true by simpa using h0,show decide ((s.length:Int)<=60)=true by simp;omega];have hl:iter (vPa s) 0=some (.inl ()):=by
  rw[qaa s (fun _ _=>(none:Option Unit)) (.inl ()) .inr]
  .rw[show zZa (fun _ _=>(none:Option Unit)) 0 s=none by rw[qUa];intro i x _;rfl];rfl
  .unfold vPa;rw[kaa];rfl
  intro i c hx;have hi:=kfa hx;unfold vPa;rw[kSa hx,z3a hx];simp only[cond_true,jAb];rw[tokC c (hc c (jAf hx)),sc i (by omega)];rfl
 rw[hl];rfl
theorem Y9a:∀s:Str,s.length<=9->(∀c∈s,c∈D11)->iter z2a s=some ()
 | [],_,_=>zsa rfl
 | c::s,h,hc=>by
  have h128:∀c∈D11,decide ((c.toNat:Int) < 128)=true:=by decide
  have hb:z2a (c::s)=some (.cont s):=by
   unfold z2a;rw[show decide ((0:Int) < ((c::s).length:Int))=true by simp <;> omega,show idx (c::s) 0=some c from rfl];simp only[cond_true,jAb,h128 c (hc c (by simp))];rw[show cut (c::s) 1 ((c::s).length:Int)=some s from by have:=yRa (l:=c::s) (a:=1) (by simp);simpa using this];simp only[jAb];rw[show decide ((8:Int) < (s.length:Int))=false by simp at h;simp;omega];rfl
  rw[zxa hb];exact Y9a s (by simp at h;omega) fun x hx=>hc x (by simp[hx])
def kB:Str:=[98,111,117,110,100,97,114,121]
def mB(v:Str):kEa:=⟨tMD,tD,[⟨kB,v⟩]⟩
def vB(v:Str):Str:=vMD++ [59,32]++kB++ [61]++v
theorem zdb(v:Str)(h0:v≠ [])(h8:v.length<=8)(hc:∀c∈v,c∈D11):qoa (mB v)=some ⟨0,0⟩:=by
 have hb:qDa (mB v) 0=some (.cont 1):=by
  unfold qDa;rw[show decide ((0:Int) < ((mB v).Params.length:Int))=true from rfl,show idx (mB v).Params 0=some ⟨kB,v⟩ from rfl];simp only[cond_true,jAb];rw[show k2a kB=some true by kernel_rfl];simp only[jAb,jAx,cond_false];rw[show decide ((20:Int) < (kB.length:Int))=false from rfl,show cut (mB v).Params 0 0=some [] from rfl];simp only[cond_false,jAb];rw[show iter (wQa ⟨kB,v⟩ []) 0=some (.inl ()) from zsa rfl];simp only[jAb,Sum.elim_inl];rw[show decide ((0:Int)<= -1)=false from rfl,show decide ((500:Int) < (v.length:Int))=false by simp;omega];simp only[cond_false];unfold kJa;rw[Y9a v (by omega) hc];rfl
 unfold qoa;rw[show k2a (mB v).Type_=some true by kernel_rfl,show k2a (mB v).Sub=some true by kernel_rfl,zxa hb,show iter (qDa (mB v)) 1=some (.inl ()) from zsa rfl];rfl
theorem mB_print(v:Str)(h0:v≠ [])(h8:v.length<=8)(hc:∀c∈v,c∈D11):qQa (mB v)=some (vB v,⟨0,0⟩):=by
 have hp:yQa ⟨kB,v⟩=some ([59,32]++kB++ [61]++v):=by
  unfold yQa;rw[tok_true v h0 (by omega) hc];simp only[jAb,cond_true];rw[show cat [59,32] kB=some ([59,32]++kB) from rfl];simp only[jAb];rw[show cat ([59,32]++kB) [61]=some ([59,32]++kB++ [61]) from rfl];simp only[jAb];rw[kRa (by show 11+v.length<=_;omega)];rfl
 have hb:vQa (mB v) (tMD++ [47]++tD,0)=some (.cont (vB v,1)):=by
  unfold vQa;dsimp only;rw[show decide ((0:Int) < ((mB v).Params.length:Int))=true from rfl,show idx (mB v).Params 0=some ⟨kB,v⟩ from rfl];simp only[cond_true,jAb,hp];rw[kRa (by simp[tMD,tD,kB];omega)];rfl
 unfold qQa;rw[zdb v h0 h8 hc];simp only[jAb,zqa,bne_self_eq_false,cond_false];rw[show cat (mB v).Type_ [47]=some (tMD++ [47]) from rfl];simp only[jAb];rw[show cat (tMD++ [47]) (mB v).Sub=some (tMD++ [47]++tD) from rfl];simp only[jAb];rw[zxa hb,show iter (vQa (mB v)) (vB v,1)=some (vB v) from zsa rfl];simp only[jAb,zPa];rw[show decide ((4000:Int) < ((vB v).length:Int))=false by rw[decide_eq_false_iff_not];unfold vB;rw[jBj,show (vMD++ [59,32]++kB++ [61]:Str).length=27 from rfl];omega];rfl
def sepB(v:Str):List UInt8:=[45,45]++v++ [13,10]
def wsb(v:Str):List UInt8:=[45,45]++v++ [45,45,13,10]
def addT(v:Str)(acc:List UInt8)(t:List UInt8):List UInt8:=acc++sepB v++t++ [13,10]
def Zja(v:Str)(ts:List (List UInt8)):List UInt8:=ts.foldl (addT v) []++wsb v
theorem W7a(v:Str)(hv:v.length<=8):∀(ts:List (List UInt8)) (acc:List UInt8),(ts.foldl (addT v) acc).length<=acc.length+20 * ts.length+QNa ts
 | [],acc=>by simp[QNa]
 | t::ts,acc=>by
  have:=W7a v hv ts (addT v acc t);rw[jCc];unfold QNa;have e:(addT v acc t).length=acc.length+(4+v.length)+t.length+2:=by unfold addT sepB;simp;omega
  simp only[jBn];omega
theorem wtb(a w d:Str)(bs:List (List UInt8))(h2:bs.length<=20)(h3:∀b∈bs,b.length<=12000):iter (kKa (digP a w d bs)) (0,[])=some (bs.map itT):=by
 have h:=(wva bs (fun i (s:List (List UInt8))=>(i,s)) (fun s b=>s++ [itT b]) (fun s=>s) (fun i s=>s.length<=i) (body:=kKa (digP a w d bs)) (fun s _=>by
  unfold kKa;dsimp only;rw[show ((digP a w d bs).Parts.length:Int)=(bs.length:Int) by show ((bs.map vda).length:Int)=_;simp,kaa];rfl) (fun i b s hb hs=>by
  have hi:=kfa hb;have hx:(digP a w d bs).Parts[i]? =some (vda b):=by show (bs.map vda)[i]? =_;simp[hb]
  have:=h3 b (jAf hb);refine ⟨?_,by simp;omega⟩;unfold kKa;dsimp only;rw[kSa hx,z3a hx];simp only[cond_true,jAb];unfold wsa;simp only[jAb];rw[show wSa (vda b).Fields (vda b).Body=some (itT b) from V5a b (by omega)];simp only[jAb];rw[k7a (by simp;omega),sc i (by omega)];rfl) [] (by simp)).1
 rw[show ((0:Int),([]:List (List UInt8)))=(0,[]) from rfl]at h;rw[h];have key:∀(l:List (List UInt8)) (acc:List (List UInt8)),l.foldl (fun s b=>s++ [itT b]) acc=acc++l.map itT:=by
  intro l;induction l with
  | nil=>intro acc;simp
  | cons x l ih=>intro acc;rw[jCc,ih];simp
 rw[key];rfl
theorem wub(v:Str)(hv:v.length<=8)(ts:List (List UInt8))(h2:ts.length<=20)(h3:QNa ts<=1000000):iter (kLa ts v) (0,[])=some (ts.foldl (addT v) []):=
 (wva ts (fun i (s:List UInt8)=>(i,s)) (addT v) (fun s=>s) (fun i s=>s.length<=2000000 * i) (body:=kLa ts v) (fun s _=>by unfold kLa;rw[kaa];rfl) (fun i t s ht hs=>by
  have hi:=kfa ht;have hts:t.length<=QNa ts:=by
   have key:∀l:List (List UInt8),t∈l->t.length<=QNa l:=by
    intro l;induction l with
    | nil=>intro h;cases h
    | cons x l ih=>
     intro h;unfold QNa;rcases jBo.1 h with rfl | h
     .omega
     have:=ih h;omega
   exact key ts (jAf ht)
  have h20:2000000 * i<=2000000 * 20:=Nat.mul_le_mul_left _ (by omega);refine ⟨?_,by unfold addT sepB;simp;omega⟩;unfold kLa addT sepB;dsimp only;rw[kSa ht,z3a ht];simp only[cond_true,jAb];rw[kRa (by simp;omega)];simp only[jAb];rw[kRa (by simp;omega)];simp only[jAb];rw[k7a (by simp;omega)];simp only[jAb];rw[k7a (by simp;omega)];simp only[jAb];rw[k7a (by simp;omega),sc i (by omega)];simp) [] (by simp)).1
theorem kmb(bs:List (List UInt8))(h3:∀b∈bs,b.length<=12000):QNa (bs.map itT)<=12031 * bs.length:=by
 induction bs with
 | nil=>exact jAq _
 | cons b bs ih=>
  have h:=h3 b (by simp);have:=ih fun x hx=>h3 x (by simp[hx])
  have e:(itT b).length=30+b.length:=by unfold itT;rw[jBj,J3a]
  rw[jCp];unfold QNa;simp only[jBn];omega
theorem W8a(a w d:Str)(bs:List (List UInt8))(h1:1<=bs.length)(h2:bs.length<=20)(h3:∀b∈bs,b.length<=12000):∃n,n<=1000000/\Yva (bs.map itT) n=false/\
 vna (digP a w d bs)=some (fldF a w d (vB (bndD n)),Zja (bndD n) (bs.map itT)):=by
 have hz:=kmb bs h3;have hz2:12031 * bs.length<=12031 * 20:=Nat.mul_le_mul_left _ h2;have hT:∀t∈bs.map itT,t.length<=1048576:=by
  intro t ht;obtain ⟨b,hb,rfl⟩:=jBl.1 ht;have:=h3 b hb;unfold itT;rw[jBj,J3a];omega
 obtain ⟨n,hn,hu,hf⟩:=J7a (bs.map itT) (by omega) hT (by simp;omega);obtain ⟨l8,l1⟩:=zcb hn;have hne:bndD n≠ []:=by unfold bndD;simp
 refine ⟨n,hn,hu,?_⟩;have hlen:=W7a (bndD n) l8 (bs.map itT) [];unfold vna;rw[show (((digP a w d bs).Parts.length:Int)==0)=false by rw[show (digP a w d bs).Parts=bs.map vda from rfl];simp;intro e;rw[e]at h1;simp at h1];simp only[cond_false];rw[wtb a w d bs h2 h3];simp only[jAb];rw[hf];simp only[jAb];rw[show (digP a w d bs).Fields=fldF a w d vMD from rfl,type_dig];simp only[jAb];rw[show z0a []=some [] by kernel_rfl];simp only[jAb];rw[show app 4398046511104 ([]:List zna) [⟨[98,111,117,110,100,97,114,121],bndD n⟩]=some [⟨kB,bndD n⟩] from rfl];simp only[jAb];rw[show zja (fldF a w d vMD)=some (fldF a w d vMD) from jga _ (by show 4<=_;decide)];simp only[jAb];rw[show qQa ⟨tMD,tD,[⟨kB,bndD n⟩]⟩=some (vB (bndD n),⟨0,0⟩) from mB_print _ hne l8 (zbb n)];simp only[jAb];rw[show idx (fldF a w d vMD) 3=some ⟨kCT,vMD⟩ from rfl];simp only[jAb];rw[wub (bndD n) l8 (bs.map itT) (by simpa using h2) (by omega)];simp only[jAb];rw[kRa (by simp;omega)];simp only[jAb];rw[kRa (by simp;omega)];simp only[jAb];rw[k7a (by simp at hlen ⊢;omega)];rfl
def Zka(a w d:Str)(bs:List (List UInt8))(n:Nat):zda:=⟨fldF a w d (vB (bndD n)),Zja (bndD n) (bs.map itT)⟩
def QPa(a w d:Str)(bs:List (List UInt8))(n:Nat):zda × zoa:=
 if (valD a w d bs).Code !=0 then (⟨[],[]⟩,valD a w d bs) else if (msgF (Zka a w d bs n)).Code !=0 then (⟨[],[]⟩,⟨(msgF (Zka a w d bs n)).Code, -3⟩) else (Zka a w d bs n,⟨0,0⟩)
theorem zeb(a w d:Str)(bs:List (List UInt8))(h1:1<=bs.length)(h2:bs.length<=20)(h3:∀b∈bs,b.length<=12000)(ha:a.length<=1048576)(hw:w.length<=1048576)(hd:d.length<=1048576):
 ∃n,n<=1000000/\Yva (bs.map itT) n=false/\ySa (Zka a w d bs n)/\qSa (digP a w d bs)=some (QPa a w d bs n):=by
 obtain ⟨n,hn,hu,hj⟩:=W8a a w d bs h1 h2 h3;obtain ⟨l8,l1⟩:=zcb hn;have hz:=kmb bs h3;have hz2:12031 * bs.length<=12031 * 20:=Nat.mul_le_mul_left _ h2;have hlen:=W7a (bndD n) l8 (bs.map itT) [];have hbl:(Zja (bndD n) (bs.map itT)).length<=1048576:=by unfold Zja wsb;simp at hlen ⊢;omega
 have hsf:∀v:Str,v.length<=1048576->Zba (fldF a w d v):=fun v hv=>⟨by show 4<=_;decide,fun f hf=>by
  unfold fldF at hf;simp only[jBo,jDb,or_false]at hf;rcases hf with rfl | rfl | rfl | rfl <;> refine ⟨?_,?_⟩ <;> first | assumption | exact jAd rfl⟩
 have hvB:(vB (bndD n)).length<=1048576:=by unfold vB vMD kB;simp;omega
 have hsm:ySa (Zka a w d bs n):=⟨hsf _ hvB,hbl⟩;refine ⟨n,hn,hu,hsm,?_⟩;unfold qSa QPa;rw[Vya a w d bs (hsf vMD (by decide)) h1 h2 h3,hj];simp only[jAb,zqa,zTa,zPa];cases hv:(valD a w d bs).Code !=0 with
 | true=>rfl
 | false=>
  simp only[cond_false,jAs,if_false];rw[show zja (fldF a w d (vB (bndD n)))=some (fldF a w d (vB (bndD n))) from jga _ (by show 4<=_;decide)];simp only[jAb];rw[show zKa (Zja (bndD n) (bs.map itT))=some (Zja (bndD n) (bs.map itT)) from jga _ (by omega)];simp only[jAb];rw[show zCa ⟨fldF a w d (vB (bndD n)),Zja (bndD n) (bs.map itT)⟩=some (msgF (Zka a w d bs n)) from z4a _ hsm];simp only[jAb];cases (msgF (Zka a w d bs n)).Code !=0 <;> rfl
def Ksa(y:Int):Bool:=y % 4==0 && (y % 100 !=0 || y % 400==0)
def befI(y:Int):Int:=365 * (y - 1)+(y - 1) / 4 - (y - 1) / 100+(y - 1) / 400
def ylen(y:Int):Int:=if Ksa y then 366 else 365
theorem jMa(y:Int):befI (y+1)=befI y+ylen y:=by
 unfold befI ylen Ksa;by_cases h4:y % 4=0 <;> by_cases h100:y % 100=0 <;> by_cases h400:y % 400=0 <;> simp[h4,h100,h400] <;> omega
theorem Kma(y:Int):365<=ylen y/\ylen y<=366:=by unfold ylen;split <;> omega
theorem vzb(y:Int)(k:Nat):befI y+365 * k<=befI (y+k)/\befI (y+k)<=befI y+366 * k:=by
 induction k with
 | zero=>simp
 | succ k ih=>
  have h:=jMa (y+k);have h2:=Kma (y+k);rw[show y+((k+1:Nat):Int)=y+k+1 by omega,h];omega
theorem ZVa{a b:Int}(h:a<=b):befI a<=befI b:=by
 have:=(vzb a (b - a).toNat).1;rw[show a+((b - a).toNat:Int)=b by omega]at this;omega
def dimI(y m:Int):Int:=if m=2 then (if Ksa y then 29 else 28) else if m=4∨m=6∨m=9∨m=11 then 30 else 31
def domI(y:Int):Nat->Int
 | 0=>0
 | m+1=>domI y m+dimI y ((m+1:Nat):Int)
theorem qWb(y:Int):domI y 12=ylen y:=by
 unfold ylen;cases h:Ksa y <;> simp[domI,dimI,h]
theorem j4a(y m:Int):28<=dimI y m/\dimI y m<=31:=by unfold dimI;repeat' split <;> omega
theorem domI_lt(y:Int){a b:Nat}(h:a < b):domI y a+28<=domI y b:=by
 induction b with
 | zero=>omega
 | succ b ih=>
  have:=j4a y ((b+1:Nat):Int);rw[domI];by_cases e:a=b
  .subst e;omega
  have:=ih (by omega);omega
theorem jNa(y k:Int):(iRem y k==0)=(y % k==0):=by
 unfold iRem;rw[jBe,beq_iff_eq,beq_iff_eq];constructor
 .intro h;exact Int.emod_eq_zero_of_dvd (Int.dvd_of_tmod_eq_zero h)
 intro h;exact Int.tmod_eq_zero_of_dvd (Int.dvd_of_emod_eq_zero h)
theorem zfb(y:Int):jIa y=some (Ksa y):=by
 unfold jIa Ksa bne;rw[jNa,jNa,jNa];cases y % 4==0 <;> cases y % 100==0 <;> cases y % 400==0 <;> rfl
theorem QQa(y:Int):WRa y=some (Ksa y):=by
 unfold WRa Ksa bne;rw[jNa,jNa,jNa];have h:(y % 4==0)=false->(y % 400==0)=false:=by
  intro h;rw[beq_eq_false_iff_ne]at h ⊢;omega
 revert h
 cases y % 4==0 <;> cases y % 100==0 <;> cases y % 400==0 <;> simp
theorem j5a{a b:Int}(ha:0<=a)(hb:0 < b)(h:a<=9223372036854775807):iQuo a b=a / b:=by
 unfold iQuo;rw[Int.tdiv_eq_ediv_of_nonneg ha];have h1:0<=a / b:=Int.ediv_nonneg ha (by omega);have h2:a / b<=a:=Int.ediv_le_self b ha;exact zIa (by omega) (by omega)
theorem ZWa{y:Int}(h1:1<=y)(h2:y<=100000):v6a y=some (befI y):=by
 unfold v6a befI;have e0:w64 (y - 1)=y - 1:=zIa (by omega) (by omega);have e1:w64 (365 * (y - 1))=365 * (y - 1):=zIa (by omega) (by omega);rw[e0,e1,j5a (by omega) (by omega) (by omega),j5a (by omega) (by omega) (by omega),j5a (by omega) (by omega) (by omega)];have e2:w64 (365 * (y - 1)+(y - 1) / 4)=365 * (y - 1)+(y - 1) / 4:=zIa (by omega) (by omega);have e3:w64 (365 * (y - 1)+(y - 1) / 4 - (y - 1) / 100)=365 * (y - 1)+(y - 1) / 4 - (y - 1) / 100:=zIa (by omega) (by omega);rw[e2,e3,zIa (by omega) (by omega)]
theorem ZXa{y m:Int}(h1:1<=m)(h2:m<=12):v7a y m=some (dimI y m):=by
 unfold v7a;have e0:w64 (m - 1)=m - 1:=zIa (by omega) (by omega);rw[e0,zfb];obtain rfl | rfl | rfl | rfl | rfl | rfl | rfl | rfl | rfl | rfl | rfl | rfl:m=1∨m=2∨m=3∨m=4∨m=5∨m=6∨m=7∨m=8∨m=9∨m=10∨m=11∨m=12:=by omega
 all_goals (cases h:Ksa y <;> simp[dimI,h,idx] <;> rfl)
theorem W9a(y:Int)(n:Nat):0<=domI y n/\domI y n<=31 * n:=by
 induction n with
 | zero=>simp[domI]
 | succ n ih=>have:=j4a y ((n+1:Nat):Int);rw[domI];omega
theorem vAb(y:Int):∀(r j:Nat) (n:Int),j+r<=12-> -100000000<=n->n+31 * r<=100000000->iter (v8a y ((j+r+1:Nat):Int)) (n,((j+1:Nat):Int))=some (n+(domI y (j+r) - domI y j))
 | 0,j,n,h1,h2,h3=>by
  refine zsa ?_;unfold v8a;dsimp only;rw[decide_eq_false (by omega)];simp
 | r+1,j,n,h1,h2,h3=>by
  have hd:=j4a y ((j+1:Nat):Int);have hc:v8a y ((j+(r+1)+1:Nat):Int) (n,((j+1:Nat):Int))=some (.cont (n+dimI y ((j+1:Nat):Int),((j+1+1:Nat):Int))):=by
   unfold v8a;dsimp only;rw[decide_eq_true (by omega),ZXa (by omega) (by omega)];simp only[cond_true,jAb];rw[zIa (by omega) (by omega),zIa (by omega) (by omega)];rfl
  rw[zxa hc];have:=vAb y r (j+1) (n+dimI y ((j+1:Nat):Int)) (by omega) (by omega) (by omega);rw[show j+1+r+1=j+(r+1)+1 by omega]at this;rw[this,show j+1+r=j+(r+1) by omega,domI]
  congr 1
  omega
def dayN(y:Int)(m:Nat)(d:Int):Int:=befI y - befI 1970+d - 1+domI y (m - 1)
theorem wxa:befI 1970=719162:=by decide
theorem jOa{y:Int}(h1:1<=y)(h2:y<=5000):0<=befI y/\befI y<=2000000:=by unfold befI;omega
theorem qHa{y d:Int}{m:Nat}(h1:1<=y)(h2:y<=5000)(hm1:1<=m)(hm2:m<=12)(hd1:0<=d)(hd2:d<=1000):vla y m d=some (dayN y m d):=by
 have hb:=jOa h1 h2;unfold vla;rw[ZWa h1 (by omega),ZWa (by omega:(1:Int)<=1970) (by omega),wxa];simp only[jAb];have e1:w64 (befI y - 719162)=befI y - 719162:=zIa (by omega) (by omega);have e2:w64 (befI y - 719162+d)=befI y - 719162+d:=zIa (by omega) (by omega);have e3:w64 (befI y - 719162+d - 1)=befI y - 719162+d - 1:=zIa (by omega) (by omega);rw[e1,e2,e3];have:=vAb y (m - 1) 0 (befI y - 719162+d - 1) (by omega) (by omega) (by omega);rw[show 0+(m - 1)+1=m by omega,jBu]at this;rw[show ((0+1:Nat):Int)=1 from rfl]at this;rw[this];unfold dayN;rw[wxa];simp[domI]
theorem qXb(y:Int):dayN y 1 1=befI y - 719162:=by unfold dayN;rw[wxa];simp[domI]
theorem wvb{v:Int × Int}{Y:Int}(h1:1<=Y)(h2:Y<=4000)(hY:befI Y<=v.1+719162/\v.1+719162 < befI (Y+1)):∀(k:Nat) (y:Int),k<=11->1<=y->y<=Y->Y < y+2 * ((2 ^ k:Nat):Int)->iter (q6a v) (y,((2 ^ k:Nat):Int))=some Y:=by
 have step:∀(s:Nat) (y:Int),1<=s->s<=2048->1<=y->y<=Y->q6a v (y,(s:Int))=some (.cont (if y+s<=Y then y+s else y,((s / 2:Nat):Int))):=by
  intro s y hs1 hs2 hy1 hy2;unfold q6a;dsimp only;rw[decide_eq_true (by omega:(0:Int) < (s:Int))];have e1:w64 (y+(s:Int))=y+s:=zIa (by omega) (by omega);have e2:iQuo (s:Int) 2=((s / 2:Nat):Int):=by rw[j5a (by omega) (by omega) (by omega)];omega
  rw[e1,e2];simp only[cond_true];by_cases h4:y+s<=4000
  .rw[decide_eq_true h4];have hd:=qHa (y:=y+s) (d:=1) (m:=1) (by omega) (by omega) (by omega) (by omega) (by omega) (by omega);rw[show ((1:Nat):Int)=1 from rfl]at hd;rw[hd,qXb];simp only[cond_true,jAb];by_cases hc:y+s<=Y
   .have:=ZVa hc;rw[if_pos hc,decide_eq_true (by omega)];rfl
   have:=ZVa (show Y+1<=y+s by omega);rw[if_neg hc,decide_eq_false (by omega)];rfl
  rw[decide_eq_false h4,if_neg (by omega)];rfl
 intro k;induction k with
 | zero=>
  intro y _ hy1 hy2 hy3;have hs:=step 1 y (by omega) (by omega) hy1 hy2;rw[show ((2 ^ 0:Nat):Int)=((1:Nat):Int) from rfl,zxa hs];have e:(if y+((1:Nat):Int)<=Y then y+((1:Nat):Int) else y)=Y:=by
   simp only[Nat.pow_zero]at hy3;split <;> omega
  rw[e];exact zsa (by unfold q6a;rfl)
 | succ k ih=>
  intro y hk hy1 hy2 hy3;have hp:(2 ^ k:Nat)<=2 ^ 10:=Nat.pow_le_pow_right (by omega) (by omega);have hp1:1<=(2 ^ k:Nat):=Nat.one_le_pow _ _ (by omega);rw[Nat.pow_succ]at hy3 ⊢;generalize hq:(2 ^ k:Nat)=q at *;have hs:=step (q * 2) y (by omega) (by omega) hy1 hy2;rw[zxa hs,show q * 2 / 2=q by omega];refine ih _ (by omega) (by split <;> omega) (by split <;> omega) (by split <;> omega)
theorem QRa(y:Int){a b:Nat}(h:a<=b):domI y a<=domI y b:=by
 rcases jAv a b with h2 | h2
 .have:=domI_lt y h2;omega
 rw[show a=b by omega];omega
theorem qYb{v:Int × Int}{Y:Int}{M:Nat}(h1:1<=Y)(h2:Y<=4000)(hM:M<=11)(hD:domI Y M<=v.1+719162 - befI Y/\v.1+719162 - befI Y < domI Y (M+1)):∀(r:Nat),M+r<=11->iter (q7a v Y) ((M+r+1:Nat):Int)=some ((M+1:Nat):Int):=by
 have val:∀m:Nat,m<=11->vla Y ((m+1:Nat):Int) 1=some (befI Y - 719162+domI Y m):=by
  intro m hm;rw[qHa h1 (by omega) (by omega) (by omega) (by omega) (by omega)];unfold dayN;rw[wxa,Nat.add_sub_cancel]
  congr 1;omega
 intro r;induction r with
 | zero=>
  intro _;refine zsa ?_;unfold q7a;rw[jBw,val M hM];simp only[jAb];rw[decide_eq_false (by omega)];rfl
 | succ r ih=>
  intro hr;have hc:q7a v Y ((M+(r+1)+1:Nat):Int)=some (.cont ((M+r+1:Nat):Int)):=by
   unfold q7a;rw[val (M+(r+1)) hr];have:=QRa Y (show M+1<=M+(r+1) by omega);simp only[jAb];rw[decide_eq_true (by omega),zIa (by omega) (by omega)];simp only[cond_true]
   congr 2;omega
  rw[zxa hc];exact ih (by omega)
theorem jsa{n k:Int}(hk1:1<=k)(hk2:k<=1000000)(h1: -1000000000000<=n)(h2:n<=1000000000000):wPa n k=some (n / k,n % k):=by
 have hb1:=jCt n (show k≠0 by omega);have hb2:=jCl n (show 0 < k by omega);have ht:(iRem n k+k)=n % k+(if 0<=n∨n % k=0 then k else 0):=by
  unfold iRem;rw[Int.tmod_eq_emod];by_cases h0:0<=n
  .simp[h0]
  by_cases hd:k ∣ n
  .have:=Int.emod_eq_zero_of_dvd hd;simp[hd,this]
  have hne:n % k≠0:=fun h=>hd (Int.dvd_of_emod_eq_zero h)
  have hnat:(k.natAbs:Int)=k:=by omega
  simp[h0,hd,hne,hnat]
 have hr:iRem (iRem n k+k) k=n % k:=by
  rw[ht];unfold iRem;split
  .rw[Int.tmod_eq_emod_of_nonneg (by omega)];simp
  rw[Int.add_zero,Int.tmod_eq_emod_of_nonneg hb1];simp
 unfold wPa nz;have hz:(k==0)=false:=by rw[beq_eq_false_iff_ne];omega
 have e1:w64 (iRem n k+k)=iRem n k+k:=by
  refine zIa ?_ ?_ <;> (rw[ht];split <;> omega)
 simp only[hz,jAs,if_false,jAb,e1,hr];have hq:n=k * (n / k)+n % k:=(Int.mul_ediv_add_emod n k).symm;have e2:w64 (n - n % k)=n - n % k:=zIa (by omega) (by omega);rw[e2];have e3:iQuo (n - n % k) k=n / k:=by
  unfold iQuo;have e4:n - n % k=k * (n / k):=by omega
  rw[e4,Int.mul_tdiv_cancel_left _ (by omega)];have h3: -1000000000000<=n / k:=Int.le_ediv_of_mul_le (by omega) (by omega);have h4:n / k<=1000000000000:=Int.ediv_le_of_le_mul (by omega) (by omega);exact zIa (by omega) (by omega)
 rw[e3]
theorem QSa:befI 1=0:=by decide
theorem knb:befI 4001=1460970:=by decide
theorem kob:befI 4000=1460604:=by decide
theorem VXa(y n:Int)(h0:0<=n):∀k:Nat,n < domI y k->∃M:Nat,M < k/\domI y M<=n/\n < domI y (M+1)
 | 0,h=>by simp only[domI]at h;omega
 | k+1,h=>by
  by_cases h2:n < domI y k
  .obtain ⟨M,h3,h4⟩:=VXa y n h0 k h2;exact ⟨M,by omega,h4⟩
  exact ⟨k,by omega,by omega,h⟩
theorem Vza{a b:Int}(h:0<=a):iRem a b=a % b:=Int.tmod_eq_emod_of_nonneg h
theorem when_l1(t:Int)(h1: -68719476736<=t)(h2:t<=68719476736):∃r:Int × Int,iter ZLa (t,0)=some r/\0<=r.1/\r.1+86400 * r.2=t/\r.1<=68719476736:=by
 have key:=j1a (body:=ZLa) (fun s=>s.1+86400 * s.2=t/\ -68719476736<=s.1/\s.1<=68719476736/\s.2<=0/\ -1000000<=s.2/\t<=s.1) (fun s=>(-s.1).toNat) (fun s r=>0<=r.1/\r.1+86400 * r.2=t/\r.1<=68719476736) (fun s hs=>by
  obtain ⟨i1,i2,i3,i4,i5,i6⟩:=hs;by_cases hc:s.1 < 0
  .right;refine ⟨(s.1+34560000,s.2 - 400),?_,⟨?_,?_,?_,?_,?_,?_⟩,?_,fun r h=>h⟩
   .unfold ZLa;rw[decide_eq_true hc,zIa (by omega) (by omega),zIa (by omega) (by omega)];rfl
   all_goals (dsimp only;omega)
  left;refine ⟨s,?_,⟨by omega,i1,i3⟩⟩;unfold ZLa;rw[decide_eq_false hc];rfl)
 exact key (t,0) ⟨by simp,h1,h2,by simp,by simp,by simp⟩
theorem when_l2(D:Int)(h1: -800000<=D)(h2:D<=800000):∃r:Int × Int,iter ZMa (D,1970)=some r/\0<=r.1/\befI r.2+r.1=719162+D/\r.1<=800000/\ -10000<=r.2/\r.2<=1970:=by
 have key:=j1a (body:=ZMa) (fun s=>befI s.2+s.1=719162+D/\s.1<=800000/\ -800000<=s.1/\s.2<=1970/\ -800000+365 * (1970 - s.2)<=s.1) (fun s=>(-s.1).toNat) (fun s r=>0<=r.1/\befI r.2+r.1=719162+D/\r.1<=800000/\ -10000<=r.2/\r.2<=1970) (fun s hs=>by
  obtain ⟨i1,i2,i3,i4,i5⟩:=hs;by_cases hc:s.1 < 0
  .right;have hy:=jMa (s.2 - 1);rw[show s.2 - 1+1=s.2 by omega]at hy;have hb:=Kma (s.2 - 1);have hb2:ylen (s.2 - 1)=if Ksa (s.2 - 1) then 366 else 365:=rfl;have e1:w64 (s.2 - 1)=s.2 - 1:=zIa (by omega) (by omega);refine ⟨(s.1+ylen (s.2 - 1),s.2 - 1),?_,⟨?_,?_,?_,?_,?_⟩,?_,fun r h=>h⟩
   .unfold ZMa;rw[decide_eq_true hc,e1,QQa];simp only[cond_true,jAb];have e2:w64 (s.1+365)=s.1+365:=zIa (by omega) (by omega);have e3:w64 (s.1+365+1)=s.1+365+1:=zIa (by omega) (by omega);rw[e2,e3,hb2];cases Ksa (s.2 - 1)
    .rfl
    simp only[cond_true,if_true];rw[show s.1+365+1=s.1+366 by omega]
   all_goals (dsimp only;omega)
  left;refine ⟨s,?_,⟨by omega,i1,i2,by omega,i4⟩⟩;unfold ZMa;rw[decide_eq_false hc];rfl)
 exact key (D,1970) ⟨by rw[wxa],by omega,by omega,by simp,by simp;omega⟩
theorem when_l3(N:Int)(s0:Int × Int)(h0:0<=s0.1)(h1:s0.1<=800000)(h2: -10000<=s0.2)(h3:s0.2<=1970)(hN:befI s0.2+s0.1=N):∃r:Int × Int,iter ZNa s0=some r/\0<=r.1/\r.1 < ylen r.2/\befI r.2+r.1=N/\ -10000<=r.2/\r.2<=10000:=by
 have key:=j1a (body:=ZNa) (fun s=>befI s.2+s.1=N/\0<=s.1/\s.1<=800000/\ -10000<=s.2/\s.1+365 * (s.2 - s0.2)<=800000) (fun s=>s.1.toNat) (fun s r=>0<=r.1/\r.1 < ylen r.2/\befI r.2+r.1=N/\ -10000<=r.2/\r.2<=10000) (fun s hs=>by
  obtain ⟨i1,i2,i3,i4,i5⟩:=hs;have hy:=jMa s.2;have hb:=Kma s.2;have hb2:ylen s.2=if Ksa s.2 then 366 else 365:=rfl;have hj:((WRa s.2).bind fun v19=>(bif v19 then some 366 else some 365):Option Int)=some (ylen s.2):=by
   rw[QQa,hb2];cases Ksa s.2 <;> rfl
  by_cases hc:s.1 < ylen s.2
  .left;refine ⟨s,?_,⟨i2,hc,i1,i4,by omega⟩⟩;unfold ZNa;rw[hj];simp only[jAb];rw[decide_eq_true hc];rfl
  right;refine ⟨(s.1 - ylen s.2,s.2+1),?_,⟨?_,?_,?_,?_,?_⟩,?_,fun r h=>h⟩
  .unfold ZNa;rw[hj];simp only[jAb];rw[decide_eq_false hc,zIa (by omega) (by omega),zIa (by omega) (by omega)];rfl
  all_goals (dsimp only;omega))
 exact key s0 ⟨hN,h0,h1,h2,by omega⟩
theorem kpb{y m:Int}(h1:1<=m)(h2:m<=12):vwb y m=some (dimI y m):=by
 unfold vwb;have e0:w64 (m - 1)=m - 1:=zIa (by omega) (by omega);rw[e0,QQa];obtain rfl | rfl | rfl | rfl | rfl | rfl | rfl | rfl | rfl | rfl | rfl | rfl:m=1∨m=2∨m=3∨m=4∨m=5∨m=6∨m=7∨m=8∨m=9∨m=10∨m=11∨m=12:=by omega
 all_goals (cases h:Ksa y <;> simp[dimI,h,idx])
theorem y0b(b:Int × Int)(M:Nat)(hM:M<=11)(hd:domI b.2 M<=b.1/\b.1 < domI b.2 (M+1))(hb:b.1<=400):∀(n k:Nat),k+n=M->iter (ZOa b) (((k+1:Nat):Int),b.1 - domI b.2 k)=some (((M+1:Nat):Int),b.1 - domI b.2 M)
 | 0,k,h=>by
  obtain rfl:k=M:=by omega
  refine zsa ?_;unfold ZOa;dsimp only;rw[kpb (by omega) (by omega)];simp only[jAb];have:=W9a b.2 k;rw[decide_eq_false (by simp only[domI]at hd;omega)];rfl
 | n+1,k,h=>by
  have hk:=QRa b.2 (show k+1<=M by omega);have hn:=W9a b.2 k;have hp:=j4a b.2 ((k+1:Nat):Int);have e:domI b.2 (k+1)=domI b.2 k+dimI b.2 ((k+1:Nat):Int):=rfl;have hc:ZOa b (((k+1:Nat):Int),b.1 - domI b.2 k)=some (.cont (((k+1+1:Nat):Int),b.1 - domI b.2 (k+1))):=by
   unfold ZOa;dsimp only;rw[kpb (by omega) (by omega)];simp only[jAb];rw[decide_eq_true (by omega),zIa (by omega) (by omega),zIa (by omega) (by omega)];simp only[cond_true]
   congr 3
   omega
  rw[zxa hc];exact y0b b M hM hd hb n (k+1) (by omega)
theorem y1b(b:Int × Int)(hy:1<=b.2)(hy2:b.2<=4000):∀(n:Nat) (k:Int),1<=k->k+n=b.2->iter (ZPa b) (befI k - 364 * (k - 1)+1,k)=some (befI b.2 - 364 * (b.2 - 1)+1)
 | 0,k,h1,h=>by
  obtain rfl:b.2=k:=by omega
  refine zsa ?_;unfold ZPa;dsimp only;rw[decide_eq_false (by omega)];rfl
 | n+1,k,h1,h=>by
  have hs:=jMa k;have hb2:ylen k=if Ksa k then 366 else 365:=rfl;have hb0:=jOa h1 (by omega);have hc:ZPa b (befI k - 364 * (k - 1)+1,k)=some (.cont (befI (k+1) - 364 * (k+1 - 1)+1,k+1)):=by
   unfold ZPa;dsimp only;rw[decide_eq_true (by omega),QQa];have e1:w64 (befI k - 364 * (k - 1)+1+1)=befI k - 364 * (k - 1)+1+1:=zIa (by omega) (by omega);have e2:w64 (befI k - 364 * (k - 1)+1+1+1)=befI k - 364 * (k - 1)+1+1+1:=zIa (by omega) (by omega);have e3:w64 (k+1)=k+1:=zIa (by omega) (by omega);simp only[cond_true,jAb];rw[e1,e2,e3];cases hl:Ksa k
   .rw[hl]at hb2;simp only[cond_false,jAb]
    congr 3
    simp at hb2;omega
   rw[hl]at hb2;simp only[cond_true,jAb]
   congr 3
   simp at hb2;omega
  rw[zxa hc];exact y1b b hy hy2 n (k+1) (by omega) (by omega)
def wdT(w:Nat):Str:=(([83,117,110,77,111,110,84,117,101,87,101,100,84,104,117,70,114,105,83,97,116]:Str).drop (3 * w)).take 3
def moT(m:Nat):Str:=(([74,97,110,70,101,98,77,97,114,65,112,114,77,97,121,74,117,110,74,117,108,65,117,103,83,101,112,79,99,116,78,111,118,68,101,99]:Str).drop (3 * m)).take 3
theorem wd_cut:∀w:Fin 7,cut (([83,117,110,77,111,110,84,117,101,87,101,100,84,104,117,70,114,105,83,97,116]:Str)) ((w64 (3 * (w.val:Int)))) ((w64 ((w64 (3 * (w.val:Int)))+3)))=some (wdT w.val):=by decide
theorem mo_cut:∀m:Fin 12,cut (([74,97,110,70,101,98,77,97,114,65,112,114,77,97,121,74,117,110,74,117,108,65,117,103,83,101,112,79,99,116,78,111,118,68,101,99]:Str)) ((w64 ((w64 (3 * ((m.val+1:Nat):Int))) - 3))) ((w64 (3 * ((m.val+1:Nat):Int))))=some (moT m.val):=by decide
theorem wd_idx:∀w:Fin 7,vJa.bind (fun v30=>(idx ([v30.1,v30.2.1,v30.2.2.1,v30.2.2.2.1,v30.2.2.2.2.1,v30.2.2.2.2.2.1,v30.2.2.2.2.2.2]:List Str) (w.val:Int)))=some (wdT w.val):=by decide
theorem mo_idx:∀m:Fin 12,yda.bind (fun v38=>(idx ([v38.1,v38.2.1,v38.2.2.1,v38.2.2.2.1,v38.2.2.2.2.1,v38.2.2.2.2.2.1,v38.2.2.2.2.2.2.1,v38.2.2.2.2.2.2.2.1,v38.2.2.2.2.2.2.2.2.1,v38.2.2.2.2.2.2.2.2.2.1,v38.2.2.2.2.2.2.2.2.2.2.1,v38.2.2.2.2.2.2.2.2.2.2.2]:List Str) (m.val:Int)))=some (moT m.val):=by decide
theorem qZb:∀w:Fin 7,(wdT w.val).length=3:=by decide
theorem q0b:∀m:Fin 12,(moT m.val).length=3:=by decide
def QTa(w D m y h mi s:Nat):Str:=wdT w++ [44,32]++padD D 2++ [32]++moT m++ [32]++padD y 4++ [32]++padD h 2++ [58]++padD mi 2++ [58]++padD s 2++ [32,43,48,48,48,48]
theorem yTa(a b c:Int):kta a b c=some (decide (b<=a) && decide (a<=c)):=by
 unfold kta;by_cases h:b<=a <;> simp[h]
theorem j6a(t:Int):jEa t=some (decide (-68719476736<=t) && decide (t<=68719476736)):=by
 unfold jEa;by_cases h:(-68719476736:Int)<=t <;> simp[h]
theorem pad2{u:Nat}(h:u < 1000000):k1a (u:Int) 2=some (padD u 2):=VVa u 2 (by omega) (by omega)
theorem pad4{u:Nat}(h:u < 1000000):k1a (u:Int) 4=some (padD u 4):=VVa u 4 (by omega) (by omega)
theorem fill2{u:Nat}(h:u < 1000000):QEa (u:Int) 2=some (padD u 2):=kib u 2 (by omega) (by omega)
theorem fill4{u:Nat}(h:u < 1000000):QEa (u:Int) 4=some (padD u 4):=kib u 4 (by omega) (by omega)
theorem VYa:domI 4000 11=335:=by decide
theorem y2b(t:Int)(h1: -68719476736<=t)(h2:t<=68719476736)(hN:t / 86400+719162 < 0∨1460970<=t / 86400+719162):∃d,kCa t 0=some (d,⟨3, -3⟩):=by
 unfold kCa;rw[j6a,decide_eq_true h1,decide_eq_true h2];simp only[jAb,jCq,jAx,cond_false,yTa];have e1:w64 (60 * (0:Int))=0:=by decide
 have e2:w64 (t+0)=t:=by rw[Int.add_zero];exact zIa (by omega) (by omega)
 have d1:=qHa (y:=1) (m:=1) (d:=1) (by omega) (by omega) (by omega) (by omega) (by omega) (by omega);have d2:=qHa (y:=4000) (m:=12) (d:=31) (by omega) (by omega) (by omega) (by omega) (by omega) (by omega);rw[show ((1:Nat):Int)=1 from rfl,qXb,QSa]at d1;have e3:dayN 4000 12 31=741807:=by unfold dayN;rw[wxa,kob];show (1460604:Int) - 719162+31 - 1+domI 4000 11=_;rw[VYa];rfl
 rw[show ((12:Nat):Int)=12 from rfl,e3]at d2;rw[e1,e2,jsa (by omega) (by omega) (by omega) (by omega),d1];rw[show (decide ((-900:Int)<=0) && decide ((0:Int)<=900))=true by decide];simp only[jAb,jAx,cond_false];rcases hN with hN | hN
 .rw[decide_eq_true (by omega:t / 86400 < 0 - 719162)];exact ⟨_,rfl⟩
 rw[decide_eq_false (by omega:¬t / 86400 < 0 - 719162),d2];simp only[jAb,cond_false];rw[decide_eq_true (by omega:741807 < t / 86400)];exact ⟨_,rfl⟩
theorem civil_in(t:Int)(h1: -68719476736<=t)(h2:t<=68719476736)(Y:Int)(M:Nat)(g:Int)(hY1:1<=Y)(hY2:Y<=4000)(hM:M<=11)(hN:befI Y+g=t / 86400+719162)(hd:domI Y M<=g/\g < domI Y (M+1)):
 kCa t 0=some (⟨Y,((M+1:Nat):Int),g - domI Y M+1,t % 86400 / 3600,t % 86400 / 60 % 60,t % 86400 % 60,0⟩,⟨0,0⟩):=by
 have hb0:=jOa hY1 (by omega);have hn:=W9a Y M;have hm12:=QRa Y (show M+1<=12 by omega);have hyl:=Kma Y;have hys:=jMa Y;have h40:=ZVa (show Y+1<=4001 by omega);rw[qWb]at hm12;rw[knb]at h40;have hr1:=jCt t (show (86400:Int)≠0 by omega);have hr2:=jCl t (show (0:Int) < 86400 by omega);unfold kCa;rw[j6a,decide_eq_true h1,decide_eq_true h2];simp only[jAb,jCq,jAx,cond_false,yTa];have e1:w64 (60 * (0:Int))=0:=by decide
 have e2:w64 (t+0)=t:=by rw[Int.add_zero];exact zIa (by omega) (by omega)
 have d1:=qHa (y:=1) (m:=1) (d:=1) (by omega) (by omega) (by omega) (by omega) (by omega) (by omega);have d2:=qHa (y:=4000) (m:=12) (d:=31) (by omega) (by omega) (by omega) (by omega) (by omega) (by omega);rw[show ((1:Nat):Int)=1 from rfl,qXb,QSa]at d1;have e3:dayN 4000 12 31=741807:=by unfold dayN;rw[wxa,kob];show (1460604:Int) - 719162+31 - 1+domI 4000 11=_;rw[VYa];rfl
 rw[show ((12:Nat):Int)=12 from rfl,e3]at d2;rw[e1,e2,jsa (by omega) (by omega) (by omega) (by omega),d1];rw[show (decide ((-900:Int)<=0) && decide ((0:Int)<=900))=true by decide];simp only[jAb,jAx,cond_false];rw[decide_eq_false (by omega:¬t / 86400 < 0 - 719162),d2];simp only[jAb,cond_false];rw[decide_eq_false (by omega:¬741807 < t / 86400)];simp only[cond_false];have hy:=wvb (v:=(t / 86400,t % 86400)) hY1 hY2 (by dsimp only;omega) 11 1 (by omega) (by omega) (by omega) (by rw[show ((2 ^ 11:Nat):Int)=2048 from rfl];omega);rw[show ((2 ^ 11:Nat):Int)=2048 from rfl]at hy;rw[hy];simp only[jAb];have hm:=qYb (v:=(t / 86400,t % 86400)) hY1 hY2 hM (by dsimp only;omega) (11 - M) (by omega);rw[show M+(11 - M)+1=12 by omega,show ((12:Nat):Int)=12 from rfl]at hm;rw[hm];simp only[jAb];rw[qHa hY1 (by omega) (by omega) (by omega) (by omega) (by omega)];simp only[jAb,zPa];have e4:dayN Y (M+1) 1=befI Y - 719162+domI Y M:=by unfold dayN;rw[wxa,Nat.add_sub_cancel];omega
 have e5:w64 (t / 86400 - dayN Y (M+1) 1)=g - domI Y M:=by rw[e4,zIa (by omega) (by omega)];omega
 have e6:w64 (g - domI Y M+1)=g - domI Y M+1:=zIa (by omega) (by omega);rw[e5,e6,j5a hr1 (by omega) (by omega),j5a hr1 (by omega) (by omega),Vza (by omega),Vza (by omega)]
theorem print_in(t:Int)(Y:Int)(M:Nat)(g:Int)(hY1:1<=Y)(hY2:Y<=4000)(hM:M<=11)(hN:befI Y+g=t / 86400+719162)(hd:domI Y M<=g/\g < domI Y (M+1)):
 vma ⟨Y,((M+1:Nat):Int),g - domI Y M+1,t % 86400 / 3600,t % 86400 / 60 % 60,t % 86400 % 60,0⟩=some (QTa ((t / 86400+4) % 7).toNat (g - domI Y M+1).toNat M Y.toNat (t % 86400 / 3600).toNat (t % 86400 / 60 % 60).toNat (t % 86400 % 60).toNat,⟨0,0⟩):=by
 have hb0:=jOa hY1 (by omega);have hn:=W9a Y M;have hm12:=QRa Y (show M+1<=12 by omega);have hyl:=Kma Y;rw[qWb]at hm12;have hr1:=jCt t (show (86400:Int)≠0 by omega);have hr2:=jCl t (show (0:Int) < 86400 by omega);have hds:domI Y (M+1)=domI Y M+dimI Y ((M+1:Nat):Int):=rfl;have hdp:=j4a Y ((M+1:Nat):Int);have hmm:min (max ((M+1:Nat):Int) 1) 12=((M+1:Nat):Int):=by omega
 have hval:vIa ⟨Y,((M+1:Nat):Int),g - domI Y M+1,t % 86400 / 3600,t % 86400 / 60 % 60,t % 86400 % 60,0⟩=some ⟨0,0⟩:=by
  unfold vIa;simp only[yTa,hmm,jAb];rw[ZXa (by omega) (by omega)];rw[decide_eq_true hY1,decide_eq_true hY2,decide_eq_true (by omega:(1:Int)<=((M+1:Nat):Int)),decide_eq_true (by omega:((M+1:Nat):Int)<=12)];simp only[jAb,jCq,cond_true];rw[decide_eq_true (by omega:(1:Int)<=g - domI Y M+1),decide_eq_true (by omega:g - domI Y M+1<=dimI Y ((M+1:Nat):Int)),
   decide_eq_true (by omega:(0:Int)<=t % 86400 / 3600),decide_eq_true (by omega:t % 86400 / 3600<=23),
   decide_eq_true (by omega:(0:Int)<=t % 86400 / 60 % 60),decide_eq_true (by omega:t % 86400 / 60 % 60<=59),
   decide_eq_true (by omega:(0:Int)<=t % 86400 % 60),decide_eq_true (by omega:t % 86400 % 60<=59)]
  rfl
 have hwk:woa ⟨Y,((M+1:Nat):Int),g - domI Y M+1,t % 86400 / 3600,t % 86400 / 60 % 60,t % 86400 % 60,0⟩=some ((t / 86400+4) % 7,⟨0,0⟩):=by
  unfold woa;rw[hval];simp only[jAb,zqa,zPa];rw[qHa hY1 (by omega) (by omega) (by omega) (by omega) (by omega)];have e4:dayN Y (M+1) (g - domI Y M+1)=t / 86400:=by unfold dayN;rw[wxa,Nat.add_sub_cancel];omega
  simp only[jAb,e4];rw[zIa (by omega) (by omega),jsa (by omega) (by omega) (by omega) (by omega)];rfl
 unfold vma;rw[hwk];simp only[jAb,zqa,zPa];have hw7:=jCt (t / 86400+4) (show (7:Int)≠0 by omega);have hw8:=jCl (t / 86400+4) (show (0:Int) < 7 by omega);have hwi:=wd_idx ⟨((t / 86400+4) % 7).toNat,by omega⟩;have hmi:=mo_idx ⟨M,by omega⟩;dsimp only at hwi hmi;rw[show ((((t / 86400+4) % 7).toNat:Nat):Int)=(t / 86400+4) % 7 by omega]at hwi;have ew:w64 (((M+1:Nat):Int) - 1)=(M:Int):=by rw[zIa (by omega) (by omega)];omega
 have p0:k1a (iQuo 0 60) 2=some (padD 0 2):=pad2 (u:=0) (by omega);have p0' :k1a (iRem 0 60) 2=some (padD 0 2):=pad2 (u:=0) (by omega);have p1:=pad2 (u:=(t % 86400 / 3600).toNat) (by omega);have p2:=pad2 (u:=(t % 86400 / 60 % 60).toNat) (by omega);have p3:=pad2 (u:=(t % 86400 % 60).toNat) (by omega);have p4:=pad2 (u:=(g - domI Y M+1).toNat) (by omega);have p5:=pad4 (u:=Y.toNat) (by omega);have l1:=qVa (u:=(t % 86400 / 3600).toNat) (k:=2) (by omega) (by omega);have l2:=qVa (u:=(t % 86400 / 60 % 60).toNat) (k:=2) (by omega) (by omega);have l3:=qVa (u:=(t % 86400 % 60).toNat) (k:=2) (by omega) (by omega);have l4:=qVa (u:=(g - domI Y M+1).toNat) (k:=2) (by omega) (by omega);have l5:=qVa (u:=Y.toNat) (k:=4) (by omega) (by omega);have lw:=qZb ⟨((t / 86400+4) % 7).toNat,by omega⟩;have lm:=q0b ⟨M,by omega⟩;dsimp only at lw lm;rw[show (((t % 86400 / 3600).toNat:Nat):Int)=t % 86400 / 3600 by omega]at p1;rw[show (((t % 86400 / 60 % 60).toNat:Nat):Int)=t % 86400 / 60 % 60 by omega]at p2;rw[show (((t % 86400 % 60).toNat:Nat):Int)=t % 86400 % 60 by omega]at p3;rw[show (((g - domI Y M+1).toNat:Nat):Int)=g - domI Y M+1 by omega]at p4;rw[show ((Y.toNat:Nat):Int)=Y by omega]at p5;have pz:padD 0 2=[48,48]:=by unfold padD;rw[qGa (by omega)];rfl
 generalize hPw:wdT ((t / 86400+4) % 7).toNat=Pw at *;generalize hPm:moT M=Pm at *;generalize hP1:padD (t % 86400 / 3600).toNat 2=P1 at *;generalize hP2:padD (t % 86400 / 60 % 60).toNat 2=P2 at *;generalize hP3:padD (t % 86400 % 60).toNat 2=P3 at *;generalize hP4:padD (g - domI Y M+1).toNat 2=P4 at *;generalize hP5:padD Y.toNat 4=P5 at *;rw[show (decide ((0:Int) < 0))=false by decide];simp only[cond_false,jAb,bne_self_eq_false,p0,p0',p1,p2,p3,pz];rw[kRa (by simp)];simp only[jAb];rw[kRa (by simp)];simp only[jAb];rw[kRa (by simp;omega)];simp only[jAb];rw[kRa (by simp;omega)];simp only[jAb];rw[kRa (by simp;omega)];simp only[jAb];rw[kRa (by simp;omega)];simp only[jAb];unfold vJa yda at *;simp only[jAb]at hwi hmi ⊢;rw[hwi];simp only[jAb];rw[kRa (by simp;omega),p4,ew,hmi,p5];simp only[jAb];unfold vka QTa;have ej:Lib.join [Pw++ [44],P4,Pm,P5,P1++ [58]++P2++ [58]++P3,[43]++([48,48]++ [48,48])] [32]=Pw++ [44,32]++P4++ [32]++Pm++ [32]++P5++ [32]++P1++ [58]++P2++ [58]++P3++ [32,43,48,48,48,48]:=by
  rw[Lib.join_cons];simp[Lib.joinTail]
 rw[ej,if_pos ⟨by simp,by simp;omega⟩,hPw,hPm,hP1,hP2,hP3,hP4,hP5];rfl
theorem y3b{Pw P4 Pm P5 P1 P2 P3:Str}{Fw F4 Fm F5 F1 F2 F3:Option Str}(hw:Fw=some Pw)(h4:F4=some P4)(hm:Fm=some Pm)(h5:F5=some P5)(h1:F1=some P1)(h2:F2=some P2)(h3:F3=some P3)
 (lw:Pw.length=3) (l4:P4.length=2) (lm:Pm.length=3) (l5:P5.length=4) (l1:P1.length=2) (l2:P2.length=2) (l3:P3.length=2):
 (Fw.bind fun v42=>(cat v42 (([44,32]:Str))).bind fun v44=>F4.bind fun v46=>(cat v44 v46).bind fun v48=>(cat v48 (([32]:Str))).bind fun v50=>Fm.bind fun v52=>(cat v50 v52).bind fun v54=>(cat v54 (([32]:Str))).bind fun v56=>F5.bind fun v58=>(cat v56 v58).bind fun v60=>(cat v60 (([32]:Str))).bind fun v62=>F1.bind fun v64=>(cat v62 v64).bind fun v66=>(cat v66 (([58]:Str))).bind fun v68=>F2.bind fun v70=>(cat v68 v70).bind fun v72=>(cat v72 (([58]:Str))).bind fun v74=>F3.bind fun v76=>(cat v74 v76).bind fun v78=>(cat v78 (([32,43,48,48,48,48]:Str))).bind fun v80=>some ((v80,true)))=
  some (Pw++ [44,32]++P4++ [32]++Pm++ [32]++P5++ [32]++P1++ [58]++P2++ [58]++P3++ [32,43,48,48,48,48],true):=by
 subst hw h4 hm h5 h1 h2 h3;simp only[jAb];repeat (rw[kRa (by simp;omega)];simp only[jAb])
theorem y4b(t:Int)(h1: -68719476736<=t)(h2:t<=68719476736):(QFa t=some ([],false)/\(t / 86400+719162 < 0∨1460970<=t / 86400+719162))∨
 ∃(Y:Int) (M:Nat) (g:Int),1<=Y/\Y<=4000/\M<=11/\befI Y+g=t / 86400+719162/\(domI Y M<=g/\g < domI Y (M+1))/\
  QFa t=some (QTa ((t / 86400+4) % 7).toNat (g - domI Y M+1).toNat M Y.toNat (t % 86400 / 3600).toNat (t % 86400 / 60 % 60).toNat (t % 86400 % 60).toNat,true):=by
 obtain ⟨b5,hb5,i1,i2,i3⟩:=when_l1 t h1 h2;have eD:w64 (b5.2+iQuo b5.1 86400)=t / 86400:=by
  rw[j5a i1 (by omega) (by omega),zIa (by omega) (by omega)];omega
 have eS:iRem b5.1 86400=t % 86400:=by rw[Vza i1];omega
 obtain ⟨b9,hb9,j1,j2,j3,j4,j5⟩:=when_l2 (t / 86400) (by omega) (by omega);obtain ⟨⟨g,Y⟩,hb16,k1,k2,k3,k4,k5⟩:=when_l3 (719162+t / 86400) (b9.1,b9.2) j1 j3 j4 j5 j2;dsimp only at k1 k2 k3 k4 k5;unfold QFa;rw[qHb,decide_eq_true h1,decide_eq_true h2];simp only[jAb,jCq,jAx,cond_false];rw[hb5];simp only[jAb];rw[eD,hb9];simp only[jAb];rw[hb16];simp only[jAb,qHb];have hys:=jMa Y;by_cases hY:1<=Y/\Y<=4000
 .right;obtain ⟨hY1,hY2⟩:=hY;have hb0:=jOa hY1 (by omega);have hb1:=(vzb 1 (Y - 1).toNat).1;rw[QSa,show (1:Int)+((Y - 1).toNat:Int)=Y by omega]at hb1;obtain ⟨M,hM,hd1,hd2⟩:=VXa Y g k1 12 (by rw[qWb];exact k2);refine ⟨Y,M,g,hY1,hY2,by omega,by omega,⟨hd1,hd2⟩,?_⟩;have hn:=W9a Y M;have hyl:=Kma Y;have hds:domI Y (M+1)=domI Y M+dimI Y ((M+1:Nat):Int):=rfl;have hdp:=j4a Y ((M+1:Nat):Int);rw[decide_eq_true hY1,decide_eq_true hY2];simp only[jCq,jAx,cond_false];have q4:=y0b (g,Y) M (by omega) ⟨hd1,hd2⟩ (by dsimp only;omega) M 0 (by omega);dsimp only[domI]at q4;rw[show (((0+1:Nat):Int),g - 0)=((1:Int),g) by simp]at q4;have q5:=y1b (g,Y) hY1 hY2 (Y - 1).toNat 1 (by omega) (by dsimp only;omega);rw[QSa]at q5;rw[show ((0:Int) - 364 * (1 - 1)+1,(1:Int))=(1,1) by simp]at q5;dsimp only at q5;rw[q4];simp only[jAb];rw[q5];simp only[jAb];have hr1:=jCt t (show (86400:Int)≠0 by omega);have hr2:=jCl t (show (0:Int) < 86400 by omega);have hw7:=jCt (t / 86400+4) (show (7:Int)≠0 by omega);have hw8:=jCl (t / 86400+4) (show (0:Int) < 7 by omega);have e35:iRem (w64 (befI Y - 364 * (Y - 1)+1+g)) 7=((((t / 86400+4) % 7).toNat:Nat):Int):=by
   rw[zIa (by omega) (by omega),Vza (by omega)];omega
  have hwc:cut (([83,117,110,77,111,110,84,117,101,87,101,100,84,104,117,70,114,105,83,97,116]:Str)) ((w64 (3 * (iRem (w64 (befI Y - 364 * (Y - 1)+1+g)) 7)))) ((w64 ((w64 (3 * (iRem (w64 (befI Y - 364 * (Y - 1)+1+g)) 7)))+3)))=some (wdT ((t / 86400+4) % 7).toNat):=by
   rw[e35];exact wd_cut ⟨((t / 86400+4) % 7).toNat,by omega⟩
  have hmc:cut (([74,97,110,70,101,98,77,97,114,65,112,114,77,97,121,74,117,110,74,117,108,65,117,103,83,101,112,79,99,116,78,111,118,68,101,99]:Str)) ((w64 ((w64 (3 * ((M+1:Nat):Int))) - 3))) ((w64 (3 * ((M+1:Nat):Int))))=some (moT M):=mo_cut ⟨M,by omega⟩;have p1:=fill2 (u:=(t % 86400 / 3600).toNat) (by omega);have p2:=fill2 (u:=(t % 86400 / 60 % 60).toNat) (by omega);have p3:=fill2 (u:=(t % 86400 % 60).toNat) (by omega);have p4:=fill2 (u:=(g - domI Y M+1).toNat) (by omega);have p5:=fill4 (u:=Y.toNat) (by omega);have l1:=qVa (u:=(t % 86400 / 3600).toNat) (k:=2) (by omega) (by omega);have l2:=qVa (u:=(t % 86400 / 60 % 60).toNat) (k:=2) (by omega) (by omega);have l3:=qVa (u:=(t % 86400 % 60).toNat) (k:=2) (by omega) (by omega);have l4:=qVa (u:=(g - domI Y M+1).toNat) (k:=2) (by omega) (by omega);have l5:=qVa (u:=Y.toNat) (k:=4) (by omega) (by omega);have lw:=qZb ⟨((t / 86400+4) % 7).toNat,by omega⟩;have lm:=q0b ⟨M,by omega⟩;dsimp only at lw lm;rw[show (((t % 86400 / 3600).toNat:Nat):Int)=iQuo (iRem b5.1 86400) 3600 by rw[eS,j5a hr1 (by omega) (by omega)];omega]at p1;rw[show (((t % 86400 / 60 % 60).toNat:Nat):Int)=iRem (iQuo (iRem b5.1 86400) 60) 60 by rw[eS,j5a hr1 (by omega) (by omega),Vza (by omega)];omega]at p2;rw[show (((t % 86400 % 60).toNat:Nat):Int)=iRem (iRem b5.1 86400) 60 by rw[eS,Vza (by omega)];omega]at p3;rw[show (((g - domI Y M+1).toNat:Nat):Int)=w64 (g - domI Y M+1) by rw[zIa (by omega) (by omega)];omega]at p4;rw[show ((Y.toNat:Nat):Int)=Y by omega]at p5;exact y3b hwc p4 hmc p5 p1 p2 p3 lw l4 lm l5 l1 l2 l3
 left;have e:(decide (1<=Y) && decide (Y<=4000))=false:=by
  rw[Bool.and_eq_false_iff];by_cases h:1<=Y
  .right;rw[decide_eq_false];omega
  left;rw[decide_eq_false h]
 rw[e];refine ⟨rfl,?_⟩;by_cases hY1:1<=Y
 .right;have:=ZVa (show 4001<=Y by omega);rw[knb]at this;omega
 left;have:=ZVa (show Y+1<=1 by omega);rw[QSa]at this;omega
theorem y5b(t:Int):(QFa t=some ([],false)/\∃d f,kCa t 0=some (d,f)/\f.Code=3)∨∃w D m y h mi s,w < 7/\1<=D/\D<=31/\m < 12/\1<=y/\y<=4000/\h < 24/\mi < 60/\s < 60/\QFa t=some (QTa w D m y h mi s,true)/\∃d,kCa t 0=some (d,⟨0,0⟩)/\vma d=some (QTa w D m y h mi s,⟨0,0⟩):=by
 by_cases hr: -68719476736<=t/\t<=68719476736
 .obtain ⟨h1,h2⟩:=hr;rcases y4b t h1 h2 with ⟨h3,h4⟩ | ⟨Y,M,g,hY1,hY2,hM,hN,hd,hw⟩
  .left;obtain ⟨d,hd⟩:=y2b t h1 h2 h4;exact ⟨h3,d,_,hd,rfl⟩
  right;have hr1:=jCt t (show (86400:Int)≠0 by omega);have hr2:=jCl t (show (0:Int) < 86400 by omega);have hw7:=jCt (t / 86400+4) (show (7:Int)≠0 by omega);have hw8:=jCl (t / 86400+4) (show (0:Int) < 7 by omega);have hds:domI Y (M+1)=domI Y M+dimI Y ((M+1:Nat):Int):=rfl;have hdp:=j4a Y ((M+1:Nat):Int);exact ⟨_,_,_,_,_,_,_,by omega,by omega,by omega,by omega,by omega,by omega,by omega,by omega,by omega,hw,_,civil_in t h1 h2 Y M g hY1 hY2 hM hN hd,print_in t Y M g hY1 hY2 hM hN hd⟩
 left;have e:(decide ((-68719476736:Int)<=t) && decide (t<=68719476736))=false:=by
  rw[Bool.and_eq_false_iff];by_cases h:(-68719476736:Int)<=t
  .right;rw[decide_eq_false];omega
  left;rw[decide_eq_false h]
 refine ⟨?_,⟨0,0,0,0,0,0,0⟩,⟨3, -2⟩,?_,rfl⟩
 .unfold QFa;rw[qHb,e];rfl
 unfold kCa;rw[j6a,e];rfl
theorem QUa(m:zda)(hf:m.Fields.length<=1048576):wna m m=some true:=by
 unfold wna;have e1:((m.Fields.length:Int) !=(m.Fields.length:Int))=false:=by simp
 have e2:(m.Body !=m.Body)=false:=by simp
 rw[e1,e2];simp only[cond_false,jAb];rw[qaa m.Fields (fun _ _=>none) (.inl ()) .inr]
 .have:zZa (fun _ _=>(none:Option Bool)) 0 m.Fields=none:=by rw[qUa];intro i x _;rfl
  simp only[jAb];rw[this];rfl
 .unfold vWa;rw[kaa];rfl
 intro i f hx;have hi:=kfa hx;unfold vWa;rw[kSa hx,z3a hx];simp only[cond_true,jAb,sc i (by omega)];simp[V1a]
def zgb(t:Int):Option Str:=match QFa t with | some (x,true)=>some x | _=>none
theorem K8a(t:Int):(zgb t=none/\QFa t=some ([],false)/\∃d f,kCa t 0=some (d,f)/\f.Code=3)∨
 ∃w D m y h mi s,w < 7/\1<=D/\D<=31/\m < 12/\1<=y/\y<=4000/\h < 24/\mi < 60/\s < 60/\zgb t=some (QTa w D m y h mi s)/\QFa t=some (QTa w D m y h mi s,true)/\∃d,kCa t 0=some (d,⟨0,0⟩)/\vma d=some (QTa w D m y h mi s,⟨0,0⟩):=by
 rcases y5b t with ⟨h1,h2⟩ | ⟨w,D,m,y,h,mi,s,b1,b2,b3,b4,b5,b6,b7,b8,b9,h1,h2⟩
 .exact .inl ⟨by unfold zgb;rw[h1],h1,h2⟩
 exact .inr ⟨w,D,m,y,h,mi,s,b1,b2,b3,b4,b5,b6,b7,b8,b9,by unfold zgb;rw[h1],h1,h2⟩
theorem y6b{w D m y h mi s:Nat}(b1:w < 7)(b3:D<=31)(b4:m < 12)(b6:y<=4000)(b7:h < 24)(b8:mi < 60)(b9:s < 60):(QTa w D m y h mi s).length=31:=by
 have l1:=qVa (u:=h) (k:=2) (by omega) (by omega);have l2:=qVa (u:=mi) (k:=2) (by omega) (by omega);have l3:=qVa (u:=s) (k:=2) (by omega) (by omega);have l4:=qVa (u:=D) (k:=2) (by omega) (by omega);have l5:=qVa (u:=y) (k:=4) (by omega) (by omega);have lw:=qZb ⟨w,b1⟩;have lm:=q0b ⟨m,b4⟩;dsimp only at lw lm;unfold QTa;simp[l1,l2,l3,l4,l5,lw,lm]
theorem Yaa{t:Int}{x:Str}(h:zgb t=some x):x.length=31:=by
 rcases K8a t with ⟨h1,_⟩ | ⟨w,D,m,y,hh,mi,s,b1,b2,b3,b4,b5,b6,b7,b8,b9,h1,_⟩
 .rw[h]at h1;cases h1
 rw[h]at h1;cases h1;exact y6b b1 b3 b4 b6 b7 b8 b9
def rcv:Str:=[82,101,99,101,105,118,101,100]
def stV(by_ id when:Str):Str:=[98,121,32]++by_++ [32,105,100,32]++id++ [59,32]++when
def stM(m:zda)(by_ id when:Str):zda:=⟨⟨rcv,stV by_ id when⟩::m.Fields,m.Body⟩
def noM:zda:=⟨[],[]⟩
def Yba(m:zda)(by_ id:Str)(t:Int):zda × zoa:=
 bif (msgF m).Code !=0 then (noM,msgF m) else bif !Ysa by_ then (noM,⟨10, -10⟩) else bif !Ysa id then (noM,⟨10, -12⟩) else
 bif (m.Fields.length:Int)==60 then (noM,⟨2, -13⟩) else match zgb t with
  | none=>(noM,⟨3, -2⟩)
  | some x=>bif (msgF (stM m by_ id x)).Code !=0 then (noM,⟨(msgF (stM m by_ id x)).Code, -14⟩) else (stM m by_ id x,⟨0,0⟩)
theorem msg_60{m:zda}(h:(msgF m).Code=0):m.Fields.length<=60:=by
 have:=(yHa _ (yZb h)).1;omega
theorem y7b{m:zda}{by_ id x:Str}(hm:ySa m)(h60:m.Fields.length<=60)(h1:by_.length<=60)(h2:id.length<=60)(h3:x.length<=60):ySa (stM m by_ id x):=
 ⟨qVb ⟨by show rcv.length<=_;decide,by show (stV by_ id x).length<=_;unfold stV;simp;omega⟩ hm.1 (by omega),hm.2⟩
theorem Yxa(m:zda)(by_ id:Str)(t:Int)(hm:ySa m)(h1:by_.length<=1048576)(h2:id.length<=1048576):yNa m by_ id t=some (Yba m by_ id t):=by
 unfold yNa Yba;rw[z4a m hm,QIa _ h1,QIa _ h2];simp only[jAb,zqa,zTa,zPa];cases hc:(msgF m).Code !=0 with
 | true=>rfl
 | false=>
  have hm0:(msgF m).Code=0:=by simpa using hc
  have h60:=msg_60 hm0;simp only[cond_false];cases hn1:Ysa by_ with
  | false=>rfl
  | true=>
   cases hn2:Ysa id with
   | false=>rfl
   | true=>
    simp only[jAx,cond_false];cases (m.Fields.length:Int)==60 with
    | true=>rfl
    | false=>
     simp only[cond_false];have q1:=z9b hn1;have q2:=z9b hn2;rcases K8a t with ⟨w1,_,d,f,w2,w3⟩ | ⟨w,D,mo,y,hh,mi,s,b1,b2,b3,b4,b5,b6,b7,b8,b9,w1,_,d,w2,w3⟩
     .rw[w1,w2];simp only[jAb,w3];rfl
     have hx:=Yaa w1;rw[w1,w2];generalize hX:QTa w D mo y hh mi s=X at *;simp only[jAb,bne_self_eq_false,cond_false,w3];rw[kRa (by simp;omega)];simp only[jAb];rw[kRa (by simp;omega)];simp only[jAb];rw[kRa (by simp;omega)];simp only[jAb];rw[kRa (by simp;omega)];simp only[jAb];rw[kRa (by simp;omega)];simp only[jAb];rw[Ywa _ _ _ (by omega) hm.2];simp only[jAb];have hv:zCa ⟨⟨[82,101,99,101,105,118,101,100],([98,121,32]:Str)++by_++ [32,105,100,32]++id++ [59,32]++X⟩::m.Fields,m.Body⟩=some (msgF (stM m by_ id X)):=z4a _ (y7b hm h60 q1.2 q2.2 (by omega));rw[hv];simp only[jAb];cases (msgF (stM m by_ id X)).Code !=0 <;> rfl
theorem y8b(l:List zda)(h:W1a l)(hl:l.length<=20)(hm:∀m∈l,(msgF m).Code=0):iter (vaa l) (0,[])=some ((l.map zra).map vda):=by
 have h:=(wva l (fun i (s:List zpa)=>(i,s)) (fun s m=>s++ [vda (zra m)]) (fun s=>s) (fun i s=>s.length<=i) (body:=vaa l) (fun s _=>by unfold vaa;rw[kaa];rfl) (fun i m s hx hs=>by
  have hi:=kfa hx;have hmem:=jAf hx;obtain ⟨e1,_,_,_⟩:=Vxa (hm m hmem) (h.2 m hmem);refine ⟨?_,by simp;omega⟩;unfold vaa;dsimp only;rw[kSa hx,z3a hx];simp only[cond_true,jAb,e1];rw[k7a (by simp;omega),sc i (by omega)];rfl) [] (by simp)).1
 rw[h];have key:∀(l:List zda) (acc:List zpa),l.foldl (fun s m=>s++ [vda (zra m)]) acc=acc++(l.map zra).map vda:=by
  intro l;induction l with
  | nil=>intro acc;simp
  | cons x l ih=>intro acc;rw[jCc,ih];simp
 rw[key];rfl
inductive Made (a:Str) (l:List zda) (t:Int):zda × zoa->Prop
 | name (h:Yra a=false):Made a l t (⟨[],[]⟩,⟨10, -10⟩)
 | chk (h:Yra a=true) (h2:(chkF l).Code≠0):Made a l t (⟨[],[]⟩,chkF l)
 | time (h:Yra a=true) (h2:(chkF l).Code=0) (h3:zgb t=none):Made a l t (⟨[],[]⟩,⟨3, -2⟩)
 | join (h:Yra a=true) (h2:(chkF l).Code=0) (w:Str) (h3:zgb t=some w) (n:Nat) (hn:n<=1000000) (hu:Yva ((l.map zra).map itT) n=false) (hs:ySa (Zka a w (Lib.decDigits l.length) (l.map zra) n))
  (hj:qSa (digP a w (Lib.decDigits l.length) (l.map zra))=some (QPa a w (Lib.decDigits l.length) (l.map zra) n)):
  Made a l t (if (QPa a w (Lib.decDigits l.length) (l.map zra) n).2.Code !=0 then (⟨[],[]⟩,⟨(QPa a w (Lib.decDigits l.length) (l.map zra) n).2.Code, -21⟩) else ((QPa a w (Lib.decDigits l.length) (l.map zra) n).1,⟨0,0⟩))
theorem Yya(a:Str)(l:List zda)(t:Int)(ha:a.length<=1048576)(h:W1a l):∃r,wTa a l t=some r/\Made a l t r:=by
 unfold wTa;rw[K7a a (by omega)];simp only[jAb];cases hA:Yra a with
 | false=>exact ⟨_,rfl,.name hA⟩
 | true=>
  simp only[jAx,cond_false];rw[W2a l h];simp only[jAb,zqa,zTa,zPa];by_cases hc:(chkF l).Code=0
  .obtain ⟨e,n1,n2,hm⟩:=ySb hc;rw[show ((chkF l).Code !=0)=false by simpa using hc];simp only[cond_false];rcases K8a t with ⟨h1,_,d,f,h3,h4⟩ | ⟨w,D,m,y,hh,mi,s,b1,b2,b3,b4,b5,b6,b7,b8,b9,h1,_,d,h3,h4⟩
   .rw[h3];simp only[jAb,h4];exact ⟨_,rfl,.time hA hc h1⟩
   rw[h3];simp only[jAb,bne_self_eq_false,cond_false];rw[h4];simp only[jAb];rw[J6a l.length (by omega)];simp only[jAb];rw[y8b l h n2 hm];simp only[jAb];have hw:=Yaa h1;have hd:=QOa (n:=l.length) (by omega);obtain ⟨n,hn,hu,hs,hj⟩:=zeb a (QTa w D m y hh mi s) (Lib.decDigits l.length) (l.map zra) (by simpa using n1) (by simpa using n2) (fun b hb=>by
    obtain ⟨m,hm2,rfl⟩:=jBl.1 hb;exact (Vxa (hm m hm2) (h.2 m hm2)).2.2.1) ha (by omega) (by omega)
   rw[show qSa ⟨[⟨[70,114,111,109],a⟩,⟨[68,97,116,101],QTa w D m y hh mi s⟩,⟨[88,45,68,105,103,101,115,116],Lib.decDigits l.length⟩,⟨[67,111,110,116,101,110,116,45,84,121,112,101],[109,117,108,116,105,112,97,114,116,47,100,105,103,101,115,116]⟩],[],(l.map zra).map vda⟩=_ from hj];refine ⟨_,?_,.join hA hc _ h1 n hn hu hs hj⟩;simp only[jAb];cases (QPa a (QTa w D m y hh mi s) (Lib.decDigits l.length) (l.map zra) n).2.Code !=0 <;> rfl
  rw[show ((chkF l).Code !=0)=true by simpa using hc];exact ⟨_,rfl,.chk hA hc⟩
theorem QVa(s t:List UInt8)(hs:s.length<=9223372036854775806):kYa s t=some (t.isSuffixOf s):=by
 unfold kYa qka;by_cases h:t.length<=s.length
 .have:decide ((t.length:Int)<=(s.length:Int))=true:=by simp;omega
  rw[this,w64_ns _ _ h (by omega),yRa (by omega)];simp only[cond_true,jAb,Option.some.injEq];rw[jBe,beq_iff_eq,jBx,List.suffix_iff_eq_drop];constructor <;> exact fun h=>h.symm
 have:decide ((t.length:Int)<=(s.length:Int))=false:=by simp;omega
 rw[this];simp only[cond_false,jAb,Option.some.injEq]
 symm
 rw[Bool.eq_false_iff];intro hp;exact h (jBx.1 hp).length_le
def chop(s:List UInt8):List UInt8:=if [13].isSuffixOf s then s.take (s.length - 1) else s
theorem zhb(s:List UInt8)(hs:s.length<=9223372036854775806):kNa s [13]=some (chop s):=by
 unfold kNa chop;rw[QVa s _ hs];cases h: [13].isSuffixOf s with
 | false=>rfl
 | true=>
  have hl:=(jBx.1 h).length_le;simp only[jBn,List.length_nil]at hl;simp only[jAb,cond_true,jBn,List.length_nil];rw[show ((s.length:Int) - ((0+1:Nat):Int))=((s.length - 1:Nat):Int) by omega,qEb _ (by omega),WSa (by omega)];rfl
def eol(b:List UInt8):Nat:=b.findIdx (· ==10)
theorem KLa(c:UInt8):∀b:List UInt8,Lib.indexByte b c=if b.findIdx (· ==c) < b.length then ((b.findIdx (· ==c):Nat):Int) else -1
 | []=>rfl
 | x::b=>by
  have ih:=KLa c b;unfold Lib.indexByte;rw[List.findIdx_cons,ih];cases hx:x==c with
  | true=>simp
  | false=>
   simp only[jAs,if_false,cond_false,jBn];by_cases h:b.findIdx (· ==c) < b.length
   .rw[if_pos h,if_neg (by simp),if_pos (by omega)];simp
   rw[if_neg h,if_pos (show ((-1:Int)== -1)=true from rfl),if_neg (by omega)]
def y1a(b:List UInt8):List UInt8 × Nat:=if eol b < b.length then (chop (b.take (eol b)),eol b+1) else (b,b.length)
theorem Yza(b:List UInt8)(hb:b.length<=1048576):yOa b=some ((y1a b).1,((y1a b).2:Int)):=by
 unfold yOa y1a qAa;simp only[jAb];rw[KLa,show b.findIdx (· ==10)=eol b from rfl];by_cases h:eol b < b.length
 .rw[if_pos h,if_pos h,decide_eq_false (by omega),cond_false,WSa (by omega)];simp only[jAb];rw[zhb _ (by simp;omega)];simp only[jAb];rw[w64_nl _ _ (show eol b+OfNat.ofNat 1<=_ by show eol b+1<=_;omega)]
 rw[if_neg h,if_neg h];rfl
theorem kqb{b:List UInt8}(h:b≠ []):1<=(y1a b).2/\(y1a b).2<=b.length/\(y1a b).1.length<=b.length:=by
 have:=jDd.2 h;unfold y1a;split
 .refine ⟨by simp,by simp;omega,?_⟩;unfold chop;split <;> simp <;> omega
 exact ⟨this,jAq _,jAq _⟩
def yra(l:List UInt8):List UInt8:=(l.reverse.dropWhile zUa).reverse
theorem krb:(fun x=>([32,9]:List UInt8).contains x)=zUa:=by
 funext x;simp[zUa,List.contains,List.elem];cases h1:x==32 <;> cases h2:x==9 <;> simp_all
theorem yha(s:Str)(hs:s.length<=9223372036854775807):kXa s [32,9]=some (yra s):=by
 unfold kXa Lib.trimRightS yra;rw[if_pos ⟨hs,by decide,rfl⟩,krb]
theorem Jaa(c:UInt8):∀b:List UInt8,Lib.index b [c]=if b.findIdx (· ==c) < b.length then ((b.findIdx (· ==c):Nat):Int) else -1
 | []=>rfl
 | x::b=>by
  have ih:=Jaa c b;unfold Lib.index;rw[List.findIdx_cons,ih];have hp:([c]:List UInt8).isPrefixOf (x::b)=(x==c):=by
   simp only[List.isPrefixOf,jCq];rw[jBe,beq_iff_eq,beq_iff_eq];exact eq_comm
  rw[hp];cases hx:x==c with
  | true=>simp
  | false=>
   simp only[jAs,if_false,cond_false,jBn];by_cases h:b.findIdx (· ==c) < b.length
   .rw[if_pos h,if_neg (by simp),if_pos (by omega)];simp
   rw[if_neg h,if_pos (show ((-1:Int)== -1)=true from rfl),if_neg (by omega)]
def colI(s:Str):Nat:=s.findIdx (· ==58)
def colP(s:Str):Str × Str × Bool:=if colI s < s.length then (yra (s.take (colI s)),s.drop (colI s+1),fnP (yra (s.take (colI s)))) else (yra s,[],false)
theorem QWa(s:Str):(yra s).length<=s.length:=by
 unfold yra;rw[List.length_reverse];have:=(List.dropWhile_sublist zUa (l:=s.reverse)).length_le;simpa using this
theorem y9b(s:Str):Lib.cut s [58]=if colI s < s.length then (s.take (colI s),s.drop (colI s+1),true) else (s,[],false):=by
 unfold Lib.cut;rw[Jaa,show s.findIdx (· ==58)=colI s from rfl];by_cases h:colI s < s.length
 .rw[if_pos h,if_pos h,if_pos (by omega)];simp
 rw[if_neg h,if_neg h,if_neg (by omega)]
theorem V6a(s:Str)(hs:s.length<=1048576):wpa s=some (⟨(colP s).1,(colP s).2.1⟩,(colP s).2.2):=by
 unfold wpa kZa;rw[if_pos (by omega)];simp only[jAb];rw[y9b];unfold colP;by_cases h:colI s < s.length
 .rw[if_pos h,if_pos h];dsimp only;rw[yha _ (by simp;omega)];simp only[jAb,cond_true];rw[KKa _ (by have:=QWa (s.take (colI s));simp at this;omega)];rfl
 rw[if_neg h,if_neg h];dsimp only;rw[yha _ (by omega)];rfl
theorem wwb(l:Str)(x:UInt8):yra (l++ [x])=if zUa x then yra l else l++ [x]:=by
 unfold yra;rw[List.reverse_append,List.reverse_cons,List.reverse_nil,jBt,List.singleton_append,List.dropWhile_cons];split
 .rfl
 simp
theorem colP_len(s:Str):(colP s).1.length<=s.length/\(colP s).2.1.length<=s.length:=by
 unfold colP;split
 .refine ⟨?_,by simp⟩;have:=QWa (s.take (colI s));simp at this ⊢;omega
 exact ⟨QWa s,by simp⟩
def Kta(l:List UInt8):List UInt8:=l.dropWhile zUa
theorem Jba(x:UInt8)(l:Str):yra (x::l)=if zUa x=true/\yra l=[] then [] else x::yra l:=by
 unfold yra;rw[List.reverse_cons,List.dropWhile_append];cases h:(l.reverse.dropWhile zUa).isEmpty with
 | true=>
  have h0:l.reverse.dropWhile zUa=[]:=List.isEmpty_iff.1 h;rw[h0,List.dropWhile_cons];cases hx:zUa x <;> simp
 | false=>
  have h0:l.reverse.dropWhile zUa≠ []:=fun e=>by rw[e]at h;cases h
  simp[h0]
theorem ksb:∀l:Str,Kta (yra l)=yra (Kta l)
 | []=>rfl
 | x::l=>by
  have ih:=ksb l;rw[Jba];cases hx:zUa x with
  | false=>
   rw[if_neg (by simp)];unfold Kta;rw[List.dropWhile_cons_of_neg (by simp[hx]),List.dropWhile_cons_of_neg (by simp[hx]),Jba,if_neg (by simp[hx])]
  | true=>
   rw[show Kta (x::l)=Kta l by unfold Kta;rw[List.dropWhile_cons_of_pos hx],<-ih];split
   .rename_i h;rw[h.2]
   unfold Kta;rw[List.dropWhile_cons_of_pos hx]
def Zca(v:Str):Str:=yra (Kta (v.map kIa))
theorem Jca(v:Str):(Zca v).length<=v.length:=by
 unfold Zca Kta;have h1:=QWa ((v.map kIa).dropWhile zUa);have h2:=(List.dropWhile_sublist zUa (l:=v.map kIa)).length_le;simp at h2;omega
theorem Trim_eq(v:Str)(hs:v.length<=1048576):((zYa v).bind fun v48=>yea v48 [32,9])=some (Zca v):=by
 unfold zYa yea Lib.trimS Lib.trimLeftS Lib.trimRightS;rw[if_pos (by omega)];simp only[jAb];rw[if_pos ⟨by simp;omega,by decide,rfl⟩,krb];show some (Kta (yra (v.map kIa)))=_;rw[ksb];rfl
def jta:Nat->List UInt8->List UInt8
 | 0,_=>[]
 | _+1,[]=>[]
 | n+1,c::r=>if c=13 then 13::10::jta n (if r.head? =some 10 then r.drop 1 else r) else if c=10 then 13::10::jta n r else c::jta n r
theorem Yca:∀(n:Nat) (l:List UInt8),(jta n l).length<=2 * n
 | 0,_=>by simp[jta]
 | n+1,[]=>by simp[jta]
 | n+1,c::r=>by
  unfold jta;split
  .have:=Yca n (if r.head? =some 10 then r.drop 1 else r);simp only[jBn];omega
  have:=Yca n r;split <;> simp only[jBn] <;> omega
theorem VAa:∀(n m:Nat) (l:List UInt8),l.length<=n->l.length<=m->jta n l=jta m l
 | 0,m,l,h,_=>by
  obtain rfl:=jCh (by omega:l.length=0);cases m <;> rfl
 | n+1,m,[],_,_=>by cases m <;> rfl
 | n+1,0,c::r,_,h=>by simp at h
 | n+1,m+1,c::r,h1,h2=>by
  simp only[jBn]at h1 h2;unfold jta;have hle:(if r.head? =some 10 then r.drop 1 else r).length<=r.length:=by
   split
   .simp
   exact jAq _
  have e1:=VAa n m (if r.head? =some 10 then r.drop 1 else r) (by omega) (by omega);have e2:=VAa n m r (by omega) (by omega);rw[e1,e2]
theorem jab(b:List UInt8)(hb:b.length<=1048576){body:Int × List UInt8->Option (Step (Int × List UInt8) (List UInt8))}
 (h0:∀a,body ((b.length:Int),a)=some (.out a))
 (h1:∀(i:Nat) c a,b[i]? =some c->a.length<=3000000->body ((i:Int),a)=some (.cont (if c=13 then (((if b[i+1]? =some 10 then i+2 else i+1:Nat):Int),a++ [13,10]) else if c=10 then (((i+1:Nat):Int),a++ [13,10]) else (((i+1:Nat):Int),a++ [c])))):
 ∀(n i:Nat) (a:List UInt8),i+n=b.length->a.length<=2 * i->iter body ((i:Int),a)=some (a++jta n (b.drop i)):=by
 intro n;induction n using Nat.strongRecOn with
 | _ n ih=>
  intro i a hn ha;cases n with
  | zero=>
   obtain rfl:i=b.length:=by omega
   rw[zsa (h0 a)];simp[jta]
  | succ n=>
   have hi:i < b.length:=by omega
   have hd:b.drop i=b[i]::b.drop (i+1):=jBy hi;have hs:=h1 i b[i] a (jAg hi) (by omega);rw[zxa hs,hd];unfold jta;by_cases h13:b[i]=13
   .rw[if_pos h13,if_pos h13];have hh:(b.drop (i+1)).head? =b[i+1]? :=by rw[List.head?_drop]
    rw[hh];by_cases h10:b[i+1]? =some 10
    .rw[if_pos h10,if_pos h10];have hi1:=(jAc.1 h10).1;have:=ih (n - 1) (by omega) (i+2) (a++ [13,10]) (by omega) (by simp;omega);rw[this,List.drop_drop,VAa (n - 1) n _ (by simp;omega) (by simp;omega)];simp
    rw[if_neg h10,if_neg h10];have:=ih n (by omega) (i+1) (a++ [13,10]) (by omega) (by simp;omega);rw[this];simp
   rw[if_neg h13,if_neg h13];by_cases h10:b[i]=10
   .rw[if_pos h10,if_pos h10,ih n (by omega) (i+1) (a++ [13,10]) (by omega) (by simp;omega)];simp
   rw[if_neg h10,if_neg h10,ih n (by omega) (i+1) (a++ [b[i]]) (by omega) (by simp;omega)];simp
theorem q1b(c k:UInt8):(c==k)=decide (c=k):=by rw[jBe];simp
theorem next_lf(b:List UInt8)(i:Nat)(hb:b.length<=1048576)(hi:i < b.length):(bif decide (w64 ((i:Int)+1) < (b.length:Int)) then (idx b (w64 ((i:Int)+1))).bind fun v11=>some ((v11.toNat:Int)==10) else some false)=some (decide (b[i+1]? =some 10)):=by
 rw[sc i (by omega)];by_cases h:i+1 < b.length
 .rw[decide_eq_true (by omega),Vsa,jAg h];simp only[cond_true,jAb];rw[Kqa _ 10 (by decide),q1b]
  congr 1
  rw[jBe];simp
 rw[decide_eq_false (by omega),jCk (by omega)];rfl
theorem V7a(b:List UInt8)(hb:b.length<=1048576):wqa b=some (jta b.length b):=by
 unfold wqa;have:=jab b hb (body:=q3a b) (fun a=>by unfold q3a;rw[kaa];rfl) (fun i c a hc ha=>by
  have hi:=kfa hc;unfold q3a;dsimp only;rw[kSa hc,z3a hc,next_lf b i hb hi];simp only[cond_true,jAb];rw[Kqa c 13 (by decide),Kqa c 10 (by decide),q1b,q1b];rw[k7a (show a.length+([13,10]:List UInt8).length<=_ by simp;omega),k7a (show a.length+ [c].length<=_ by simp;omega)];by_cases h13:c=13
  .rw[if_pos h13,decide_eq_true h13];simp only[cond_true,jAb];by_cases h10:b[i+1]? =some 10
   .rw[if_pos h10,decide_eq_true h10];simp only[cond_true,jAb];rw[sc i (by omega),sc (i+1) (by omega)]
   rw[if_neg h10,decide_eq_false h10];simp only[cond_false,jAb];rw[sc i (by omega)]
  rw[if_neg h13,decide_eq_false h13];simp only[cond_false,jAb];by_cases h10:c=10
  .rw[if_pos h10,decide_eq_true h10];simp only[cond_true,jAb];rw[sc i (by omega)]
  rw[if_neg h10,decide_eq_false h10];simp only[cond_false,jAb];rw[sc i (by omega)]) b.length 0 [] (by omega) (by simp)
 rw[show ((0:Int))=((0:Nat):Int) from rfl,this];rfl
def ZYa{S R:Type}(step:S->S ⊕ R)(dflt:R):Nat->S->R
 | 0,_=>dflt
 | n+1,s=>match step s with | .inl s' =>ZYa step dflt n s' | .inr r=>r
theorem ktb{S R A B:Type}(enc:S->A)(out:R->B)(step:S->S ⊕ R)(dflt:R)(Inv:S->Prop)(m:S->Nat){body:A->Option (Step A B)}
 (h:∀s,Inv s->body (enc s)=some (Sum.elim (fun s' =>.cont (enc s')) (fun r=>.out (out r)) (step s))/\∀s',step s=.inl s' ->Inv s' /\m s' < m s):
 ∀(n:Nat) (s:S),Inv s->m s < n->iter body (enc s)=some (out (ZYa step dflt n s)):=by
 intro n;induction n with
 | zero=>intro s _ h2;omega
 | succ n ih=>
  intro s hs hm;obtain ⟨h1,h2⟩:=h s hs;unfold ZYa;cases hst:step s with
  | inl s' =>
   rw[hst]at h1;obtain ⟨h3,h4⟩:=h2 s' hst;rw[zxa h1];exact ih s' h3 (by omega)
  | inr r=>
   rw[hst]at h1;exact zsa h1
theorem kub{S R:Type}(step:S->S ⊕ R)(dflt:R)(Inv:S->Prop)(Post:R->Prop)(m:S->Nat)
 (h:∀s,Inv s->(∀s',step s=.inl s' ->Inv s' /\m s' < m s)/\∀r,step s=.inr r->Post r):∀(n:Nat) (s:S),Inv s->m s < n->Post (ZYa step dflt n s):=by
 intro n;induction n with
 | zero=>intro s _ h2;omega
 | succ n ih=>
  intro s hs hm;obtain ⟨h1,h2⟩:=h s hs;unfold ZYa;cases hst:step s with
  | inl s' =>exact ih s' (h1 s' hst).1 (by have:=(h1 s' hst).2;omega)
  | inr r=>exact h2 r hst
def ZZa(l:List zca)(t:Str):List zca:=match l[l.length - 1]? with
 | some f=>l.set (l.length - 1) ⟨f.Name,f.Value++t⟩
 | none=>l
def wya(b:List UInt8)(s:Nat × List zca):(Nat × List zca) ⊕ (Nat × List zca):=
 if s.1 < b.length then
  match (y1a (b.drop s.1)).1 with
  | []=>.inr (s.1+(y1a (b.drop s.1)).2,s.2)
  | c::_=>if zUa c=true/\s.2≠ [] then .inl (s.1+(y1a (b.drop s.1)).2,ZZa s.2 (y1a (b.drop s.1)).1)
   else if (colP (y1a (b.drop s.1)).1).2.2=true then .inl (s.1+(y1a (b.drop s.1)).2,s.2++ [⟨(colP (y1a (b.drop s.1)).1).1,(colP (y1a (b.drop s.1)).1).2.1⟩])
   else .inr s
 else .inr s
def HInv(b:List UInt8)(s:Nat × List zca):Prop:=s.1<=b.length/\s.2.length<=s.1/\∀f∈s.2,f.Name.length<=s.1/\f.Value.length<=s.1
theorem kvb(b:List UInt8):(y1a b).1.length<=(y1a b).2:=by
 unfold y1a;split
 .unfold chop;split <;> simp <;> omega
 exact jAq _
theorem kwb{l:List zca}(h:l≠ []):∃f,l[l.length - 1]? =some f/\f∈l:=by
 have:=jDd.2 h;exact ⟨l[l.length - 1]'(by omega),jAg (by omega),List.getElem_mem _⟩
theorem kxb{b:List UInt8}{s:Nat × List zca}(h:HInv b s):(∀s',wya b s=.inl s' ->HInv b s' /\b.length - s'.1 < b.length - s.1)/\∀r,wya b s=.inr r->HInv b r:=by
 obtain ⟨h1,h2,h3⟩:=h;unfold wya;by_cases hl:s.1 < b.length
 .rw[if_pos hl];have hne:b.drop s.1≠ []:=by
   intro e;have:=congrArg List.length e;simp at this;omega
  obtain ⟨p1,p2,p3⟩:=kqb hne;have p4:=kvb (b.drop s.1);rw[jDc]at p2;generalize y1a (b.drop s.1)=L at p1 p2 p3 p4;obtain ⟨t,n⟩:=L;dsimp only at p1 p2 p3 p4 ⊢;cases t with
  | nil=>
   refine ⟨fun s' e=>(by cases e),fun r e=>?_⟩;cases e;exact ⟨by show s.1+n<=_;omega,by show s.2.length<=s.1+n;omega,fun f hf=>by have:=h3 f hf;show _<=s.1+n/\_<=s.1+n;omega⟩
  | cons c t=>
   dsimp only;by_cases hb:zUa c=true/\s.2≠ []
   .rw[if_pos hb];refine ⟨fun s' e=>?_,fun r e=>by cases e⟩;cases e;obtain ⟨f,hf,hm⟩:=kwb hb.2;have hset:ZZa s.2 (c::t)=s.2.set (s.2.length - 1) ⟨f.Name,f.Value++(c::t)⟩:=by unfold ZZa;rw[hf]
    refine ⟨⟨by show s.1+n<=_;omega,?_,fun g hg=>?_⟩,by show b.length - (s.1+n) < _;omega⟩
    .show (ZZa s.2 (c::t)).length<=s.1+n;rw[hset,List.length_set];omega
    have hg:g∈ZZa s.2 (c::t):=hg;rw[hset]at hg;show _<=s.1+n/\_<=s.1+n;rcases List.mem_or_eq_of_mem_set hg with h4 | rfl
    .have:=h3 g h4;omega
    have:=h3 f hm;simp only[jBj];omega
   rw[if_neg hb];by_cases hc:(colP (c::t)).2.2=true
   .rw[if_pos hc];refine ⟨fun s' e=>?_,fun r e=>by cases e⟩;cases e;obtain ⟨q1,q2⟩:=colP_len (c::t);refine ⟨⟨by show s.1+n<=_;omega,by simp;omega,fun g hg=>?_⟩,by show b.length - (s.1+n) < _;omega⟩;rcases jDj.1 hg with h4 | h4
    .have:=h3 g h4;show _<=s.1+n/\_<=s.1+n;omega
    rw[jDg]at h4;subst h4;show _<=s.1+n/\_<=s.1+n;dsimp only;omega
   rw[if_neg hc];exact ⟨fun s' e=>(by cases e),fun r e=>(by cases e;exact ⟨h1,h2,h3⟩)⟩
 rw[if_neg hl];exact ⟨fun s' e=>(by cases e),fun r e=>(by cases e;exact ⟨h1,h2,h3⟩)⟩
def encH(s:Nat × List zca):Int × List zca:=((s.1:Int),s.2)
theorem last_idx{l:List zca}(h:l≠ [])(hl:l.length<=1048576):w64 ((l.length:Int) - 1)=((l.length - 1:Nat):Int):=by
 have:=jDd.2 h;rw[show ((l.length:Int) - 1)=((l.length - 1:Nat):Int) by omega,qEb _ (by omega)]
theorem jbb(b:List UInt8)(hb:b.length<=12000)(s:Nat × List zca)(h:HInv b s):vKa b (encH s)=some (Sum.elim (fun s' =>.cont (encH s')) (fun r=>.out (encH r)) (wya b s)):=by
 obtain ⟨h1,h2,h3⟩:=h;unfold vKa wya encH;by_cases hl:s.1 < b.length
 .rw[if_pos hl,decide_eq_true (by omega)];have hne:b.drop s.1≠ []:=by
   intro e;have:=congrArg List.length e;simp at this;omega
  obtain ⟨p1,p2,p3⟩:=kqb hne;have p4:=kvb (b.drop s.1);have hline:=Yza (b.drop s.1) (by simp;omega);rw[jDc]at p2 p3;simp only[cond_true];rw[yRa (by omega)];simp only[jAb];rw[hline];generalize y1a (b.drop s.1)=L at p1 p2 p3 p4;obtain ⟨t,n⟩:=L;dsimp only at p1 p2 p3 p4 ⊢;simp only[jAb];rw[z6b _ _ (by omega)];cases t with
  | nil=>rfl
  | cons c t=>
   rw[show ((c::t)==([]:Str))=false from rfl,show idx (c::t) 0=some c from rfl];simp only[cond_false,jAb,jqa];have e0:(bif zUa c then some (decide ((0:Int) < (s.2.length:Int))) else some false)=some (decide (zUa c=true/\s.2≠ [])):=by
    cases zUa c with
    | false=>rfl
    | true=>
     simp only[cond_true,Option.some.injEq];rw[jBe];simp[jDd]
   rw[e0];simp only[jAb];by_cases hbl:zUa c=true/\s.2≠ []
   .rw[if_pos hbl,decide_eq_true hbl];obtain ⟨f,hf,hm⟩:=kwb hbl.2;have hv:=h3 f hm;simp only[cond_true];rw[last_idx hbl.2 (by omega),Vsa,hf];simp only[jAb];rw[kRa (by omega)];simp only[jAb];unfold ZZa;rw[hf];rfl
   rw[if_neg hbl,decide_eq_false hbl];simp only[cond_false];rw[V6a _ (by omega)];simp only[jAb];cases hc:(colP (c::t)).2.2 with
   | false=>rfl
   | true=>
    rw[if_pos rfl];simp only[jAx,cond_false];rw[k7a (by simp;omega)];rfl
 rw[if_neg hl,decide_eq_false (by omega)];rfl
def y2a(b:List UInt8):Nat × List zca:=ZYa (wya b) (0,[]) (b.length+1) (0,[])
theorem hinv0(b:List UInt8):HInv b (0,[]):=⟨jBz _,jAq _,fun f hf=>by cases hf⟩
theorem kyb(b:List UInt8):HInv b (y2a b):=kub (wya b) (0,[]) (HInv b) (HInv b) (fun s=>b.length - s.1) (fun s hs=>kxb hs) _ _ (hinv0 b) (by show b.length - 0 < _;omega)
theorem kzb(b:List UInt8)(hb:b.length<=12000):iter (vKa b) ((0,([]:List zca)))=some (encH (y2a b)):=
 ktb encH encH (wya b) (0,[]) (HInv b) (fun s=>b.length - s.1) (fun s hs=>⟨jbb b hb s hs,(kxb hs).1⟩) _ (0,[]) (hinv0 b) (by show b.length - 0 < _;omega)
def wFa(f:zca):zca:=⟨f.Name,Zca f.Value⟩
def mixF(l:List zca)(i:Nat):List zca:=(l.take i).map wFa++l.drop i
theorem mixF_at{l:List zca}{i:Nat}{x:zca}(h:l[i]? =some x):(mixF l i)[i]? =some x:=by
 have hi:=(jAc.1 h).1;unfold mixF;rw[jAl (by simp;omega)];simp only[jAu,jBv,jBh];rw[show i+(i - min i l.length)=i by omega];exact h
theorem jcb{l:List zca}{i:Nat}{x:zca}(h:l[i]? =some x):(mixF l i).set i (wFa x)=mixF l (i+1):=by
 have hi:=(jAc.1 h).1;have hx:=(jAc.1 h).2;unfold mixF;rw[List.set_append_right _ _ (by simp;omega)];simp only[jAu,jBv];rw[show i - min i l.length=0 by omega,List.take_add_one,h,jBy hi,hx];simp
theorem mixF_all(l:List zca):mixF l l.length=l.map wFa:=by simp[mixF]
theorem jdb(l:List zca):mixF l 0=l:=by simp[mixF]
def jeb(l:List zca)(i:Nat):Nat ⊕ Option Nat:=match l[i]? with
 | some f=>if 4000 < (Zca f.Value).length then .inr (some i) else .inl (i+1)
 | none=>.inr none
def vout(l:List zca):Option Nat->(List zca) ⊕ ((List zca) × Int × zoa)
 | none=>.inl (l.map wFa)
 | some i=>.inr ([],0,⟨1,(i:Int)⟩)
def jfb(l:List zca):Option Nat:=ZYa (jeb l) none (l.length+1) 0
theorem kAb(p:Int × List zca)(hl:p.2.length<=1048576)(hv:∀f∈p.2,f.Value.length<=1048576):iter (vLa p) ((0,p.2))=some (vout p.2 (jfb p.2)):=by
 have h:=ktb (fun i:Nat=>((i:Int),mixF p.2 i)) (vout p.2) (jeb p.2) none (fun i=>i<=p.2.length) (fun i=>p.2.length - i) (body:=vLa p) (fun i hi=>?_) (p.2.length+1) 0 (jBz _) (by omega)
 .rw[jdb]at h;exact h
 unfold vLa jeb;cases hf:p.2[i]? with
 | none=>
  have:i=p.2.length:=by have:=List.getElem?_eq_none_iff.1 hf;omega
  subst this;dsimp only;rw[decide_eq_false (by omega),mixF_all];exact ⟨rfl,fun s' e=>by cases e⟩
 | some f=>
  have hi2:=kfa hf;have hfv:=hv f (jAf hf);dsimp only;rw[decide_eq_true (by omega),z3a (mixF_at hf)];simp only[cond_true,jAb];have ht:=Trim_eq f.Value hfv;have hlt:(Zca f.Value).length<=1048576:=jBg (Jca _) hfv;cases hr:zYa f.Value with
  | none=>rw[hr]at ht;cases ht
  | some v=>
   rw[hr]at ht;simp only[jAb]at ht ⊢;rw[ht];simp only[jAb];by_cases h4:4000 < (Zca f.Value).length
   .rw[if_pos h4,decide_eq_true (by omega)];exact ⟨rfl,fun s' e=>by cases e⟩
   rw[if_neg h4,decide_eq_false (by omega)];simp only[cond_false];rw[sc i (by omega),jDl];refine ⟨?_,fun s' e=>by cases e;exact ⟨by omega,by omega⟩⟩;rw[show (⟨f.Name,Zca f.Value⟩:zca)=wFa f from rfl,jcb hf];rfl
theorem wxb(l:List zca):(jfb l=none->∀f∈l,(wFa f).Value.length<=4000)/\(jfb l≠none->∃f∈l,4000 < (wFa f).Value.length):=by
 refine kub (jeb l) none (fun i=>i<=l.length/\∀j f,j < i->l[j]? =some f->(wFa f).Value.length<=4000) (fun r=>(r=none->∀f∈l,(wFa f).Value.length<=4000)/\(r≠none->∃f∈l,4000 < (wFa f).Value.length)) (fun i=>l.length - i) ?_ _ 0 ⟨jBz _,fun j f h=>by omega⟩ (by omega);rintro i ⟨hi,hj⟩;unfold jeb;cases hf:l[i]? with
 | none=>
  refine ⟨fun s' e=>(by cases e),fun r e=>?_⟩;cases e;refine ⟨fun _ f hm=>?_,fun h=>absurd rfl h⟩;obtain ⟨j,hjf⟩:=List.getElem?_of_mem hm;have:=List.getElem?_eq_none_iff.1 hf;exact hj j f (by have:=kfa hjf;omega) hjf
 | some f=>
  dsimp only;by_cases h4:4000 < (Zca f.Value).length
  .rw[if_pos h4];refine ⟨fun s' e=>(by cases e),fun r e=>?_⟩;cases e;exact ⟨fun h=>(by cases h),fun _=>⟨f,jAf hf,h4⟩⟩
  rw[if_neg h4];refine ⟨fun s' e=>?_,fun r e=>by cases e⟩;cases e;have:=kfa hf;refine ⟨⟨by omega,fun j g hji hg=>?_⟩,by omega⟩;by_cases e:j=i
  .subst e;rw[hf]at hg;cases hg;exact Nat.le_of_not_lt h4
  exact hj j g (by omega) hg
def zeroM:zda:=⟨[],[]⟩
def rawM(b:List UInt8):zda:=⟨(y2a b).2.map wFa,jta (b.drop (y2a b).1).length (b.drop (y2a b).1)⟩
def jgb(b:List UInt8):zda × Bool:=
 if 60 < (y2a b).2.length then (zeroM,false) else if (msgF (rawM b)).Code=0 then (rawM b,true) else (zeroM,false)
theorem wyb(b:List UInt8)(hb:b.length<=12000):ySa (rawM b):=by
 obtain ⟨h1,h2,h3⟩:=kyb b;refine ⟨⟨by show ((y2a b).2.map wFa).length<=_;simp;omega,fun f hf=>?_⟩,?_⟩
 .have hf:f∈(y2a b).2.map wFa:=hf;obtain ⟨g,hg,rfl⟩:=jBl.1 hf;have:=h3 g hg;have h4:=Jca g.Value;show g.Name.length<=_/\(Zca g.Value).length<=_;omega
 show (jta _ _).length<=_;have:=Yca (b.drop (y2a b).1).length (b.drop (y2a b).1);simp at this ⊢;omega
theorem Yda(b:List UInt8)(hb:b.length<=12000):∃f:zoa,v9a b=some ((jgb b).1,f)/\(f.Code !=0)= !(jgb b).2:=by
 obtain ⟨h1,h2,h3⟩:=kyb b;unfold v9a v1a;rw[decide_eq_false (by omega),kzb b hb];simp only[cond_false,jAb,encH];unfold jgb;by_cases h60:60 < (y2a b).2.length
 .rw[if_pos h60,decide_eq_true (by omega)];exact ⟨⟨2, -2⟩,rfl,rfl⟩
 rw[if_neg h60,decide_eq_false (by omega)];simp only[cond_false];rw[kAb ((((y2a b).1:Nat):Int),(y2a b).2) (by show (y2a b).2.length<=_;omega) (fun f hf=>by have:=h3 f hf;omega)];simp only[jAb];obtain ⟨v1,v2⟩:=wxb (y2a b).2;cases hv:jfb (y2a b).2 with
 | none=>
  simp only[vout,Sum.elim_inl,zPa,jAb,zqa];rw[show ((0:Int) !=0)=false from rfl];simp only[cond_false];rw[yRa h1];simp only[jAb];rw[V7a _ (by simp;omega)];simp only[jAb];rw[show (⟨(y2a b).2.map wFa,jta (b.drop (y2a b).1).length (b.drop (y2a b).1)⟩:zda)=rawM b from rfl,z4a _ (wyb b hb)];simp only[jAb];by_cases h0:(msgF (rawM b)).Code=0
  .rw[if_pos h0,h0];exact ⟨⟨0,0⟩,rfl,rfl⟩
  rw[if_neg h0,bne_iff_ne.2 h0];exact ⟨msgF (rawM b),rfl,by rw[bne_iff_ne.2 h0];rfl⟩
 | some i=>
  have h0:¬(msgF (rawM b)).Code=0:=by
   intro h0;obtain ⟨f,hf,h4⟩:=v2 (by rw[hv];simp);have hh:(voa (rawM b).Fields).Code=0:=by
    by_cases hz:(voa (rawM b).Fields).Code=0
    .exact hz
    unfold msgF at h0;rw[if_pos (by simp[hz])]at h0;exact h0
   have:=(Wva ((yHa _ hh).2.2 (wFa f) (jBl.2 ⟨f,hf,rfl⟩))).2.1;omega
  rw[if_neg h0];exact ⟨⟨1,(i:Int)⟩,rfl,rfl⟩
theorem q2b:∀(k:Nat) (l:List UInt8) (c n:Nat),l.length<=k->Kra c l=none->l.length<=n->jta n l=l
 | _,[],c,n,_,_,_=>by cases n <;> rfl
 | k,[x],c,n,_,h,hn=>by
  unfold Kra at h;have hx:(x==13 || x==10)=false:=by
   cases hq:x==13 || x==10 with
   | false=>rfl
   | true=>simp_all
  simp only[jCy,beq_eq_false_iff_ne]at hx;cases n with
  | zero=>grind
  | succ n=>
   unfold jta;rw[if_neg hx.1,if_neg hx.2];cases n <;> rfl
 | 0,x::y::r,c,n,hk,_,_=>by grind
 | k+1,x::y::r,c,n,hk,h,hn=>by
  unfold Kra at h;cases n with
  | zero=>grind
  | succ n=>
   simp only[jBn]at hk hn;by_cases h1:(x==13 && y==10)=true
   .rw[if_pos h1]at h;simp only[jAk,beq_iff_eq]at h1;obtain ⟨rfl,rfl⟩:=h1;unfold jta;rw[if_pos rfl,if_pos (by rfl),show (10::r:List UInt8).drop 1=r from rfl,q2b k r 0 n (by omega) h (by omega)]
   rw[if_neg h1]at h;have hx:(x==13 || x==10)=false:=by
    cases hq:x==13 || x==10 with
    | false=>rfl
    | true=>simp_all
   rw[hx]at h;simp only[jCy,beq_eq_false_iff_ne]at hx;have h9:Kra (c+1) (y::r)=none:=by
    by_cases h9:998 < c+1
    .simp_all
    simp_all
   unfold jta;rw[if_neg hx.1,if_neg hx.2,q2b k (y::r) (c+1) n (by simp_all) h9 (by simp_all)]
theorem zib(l r:List UInt8)(h:(10:UInt8) ∉ l):y1a (l++13::10::r)=(l,l.length+2):=by
 have e:eol (l++13::10::r)=l.length+1:=by
  unfold eol;rw[List.findIdx_append];have h1:l.findIdx (· ==10)=l.length:=List.findIdx_eq_length.2 fun x hx=>by
   grind
  rw[h1,if_neg (by omega)];simp[List.findIdx_cons];omega
 unfold y1a;rw[e,if_pos (by simp)];have e2:(l++13::10::r).take (l.length+1)=l++ [13]:=by
  rw[show l++13::10::r=(l++ [13])++10::r by simp,List.take_left' (by simp)]
 rw[e2];have e3:chop (l++ [13])=l:=by
  unfold chop;rw[if_pos (jBx.2 ⟨l,rfl⟩)];simp
 rw[e3]
theorem Wya{l:Str}(h:∀b,l.getLast? =some b->zUa b=false):yra l=l:=by
 rcases List.eq_nil_or_concat l with rfl | ⟨p,x,rfl⟩
 .rfl
 rw[List.concat_eq_append]at h ⊢;rw[wwb,h x (by simp)];rfl
theorem ltrim_id{l:Str}(h:∀b,l.head? =some b->zUa b=false):Kta l=l:=by
 cases l with
 | nil=>rfl
 | cons x l=>unfold Kta;simp_all
theorem clean_id{v:Str}(h:∀c∈v,endC c=false):v.map kIa=v:=by
 have:v.map kIa=v.map id:=List.map_congr_left fun c hc=>by
  have:=h c hc;unfold endC at this;simp only[jCy,beq_eq_false_iff_ne]at this;unfold kIa
  simp_all
 simp_all
theorem clean_rt{v:Str}(h:valP v=true):Zca (32::v)=v:=by
 unfold valP at h;simp only[jAk,jBp,jCn,Bool.not_eq_true]at h;obtain ⟨h1,h2⟩:=h;unfold Zca;have e:(32::v:Str).map kIa=32::v:=by
  rw[jCp,clean_id h1];rfl
 rw[e];have e2:Kta (32::v)=Kta v:=by unfold Kta;rw[List.dropWhile_cons];rfl
 have hed:∀a b,v.head? =some a->v.getLast? =some b->zUa a=false/\zUa b=false:=fun a b ha hb=>by
  unfold edgeP at h2
  simp_all
 have e3:Kta v=v:=ltrim_id fun b hb=>by
  have hne:v≠ []:=fun e=>by simp_all
  exact (hed b _ hb (List.getLast?_eq_some_getLast hne)).1
 have e4:yra v=v:=Wya fun b hb=>by
  cases hv:v with
  | nil=>simp_all
  | cons x t=>simp_all
 simp_all
theorem vBb{t:Str}{f c:Nat}(h:br t f c=true):∃b r,t.drop c=b::r/\zUa b=true:=by
 obtain ⟨h1,h2,h3⟩:=J0a h;rw[br_at h2 h1]at h;simp only[jAk]at h;exact ⟨t[c],t.drop (c+1),jBy h1,h.2.1⟩
theorem cut_br{t:Str}{f:Nat}(h:cutP t f≠0):br t f (cutP t f)=true:=by
 rcases qMb t f with h1 | h1
 all_goals simp_all
theorem Yea:∀(n:Nat) (t:Str) (f:Nat),t.length<=n->(∃b r,t=b::r/\zUa b=true)->∀l∈ypa t f,∃b r,l=b::r/\zUa b=true
 | 0,t,f,hn,⟨b,r,e,_⟩=>by simp_all
 | n+1,t,f,hn,⟨b,r,e,hb⟩=>fun l hl=>by
  by_cases h78:78 < t.length
  .by_cases hc:cutP t f=0
   .rw[k4a (.inr hc),jDg]at hl
    simp_all
   have hp:=j3a hc;rw[jda h78 hc]at hl;rcases jBo.1 hl with h1 | h1
   .obtain ⟨k,hk⟩:∃k,cutP t f=k+1:=⟨cutP t f - 1,by omega⟩
    simp_all
   exact Yea n (t.drop (cutP t f)) 1 (by grind) (vBb (cut_br hc)) l h1
  rw[k4a (.inl h78),jDg]at hl
  simp_all
theorem jhb(n v:Str):∃(v1:Str) (L:List Str),flP n v=(n++58::32::v1)::L/\v1++L.flatten=v/\∀l∈L,∃b r,l=b::r/\zUa b=true:=by
 have ht:txt n v=n++58::32::v:=by unfold txt;simp
 unfold flP;by_cases h78:78 < (txt n v).length
 .by_cases hc:cutP (txt n v) (n.length+2)=0
  .rw[k4a (.inr hc),ht]
   grind
  have hb:=cut_br hc;obtain ⟨h1,h2,h3⟩:=J0a hb;have hj:=(jea _ (txt n v) (n.length+2) (jAq _)).1;rw[jda h78 hc]at hj ⊢;have e:(txt n v).take (cutP (txt n v) (n.length+2))=n++58::32::v.take (cutP (txt n v) (n.length+2) - (n.length+2)):=by
   rw[show txt n v=(n++ [58,32])++v by simp_all,List.take_append];rw[List.take_of_length_le (by simp_all)];simp
  refine ⟨_,_,by rw[e],?_,Yea _ _ 1 (jAq _) (vBb hb)⟩
  simp_all
 rw[k4a (.inl h78),ht]
 grind
theorem vCb{n:Str}(h:fnP n=true):n≠ []/\∀c∈n,fnC c=true:=by
 unfold fnP at h
 simp_all
theorem vDb{c:UInt8}(h:fnC c=true):c≠58/\c≠10/\c≠13/\zUa c=false:=by
 unfold fnC at h;simp only[jAk,decide_eq_true_eq,bne_iff_ne]at h;have h33:(33:UInt8).toNat<=c.toNat:=UInt8.le_iff_toNat_le.1 h.1.1;have k:(33:UInt8).toNat=33:=rfl;refine ⟨h.2,?_,?_,?_⟩
 .grind
 .grind
 unfold zUa
 grind
theorem colP_at{n v1:Str}(h:fnP n=true):colP (n++58::32::v1)=(n,32::v1,true):=by
 obtain ⟨h1,h2⟩:=vCb h;have e:colI (n++58::32::v1)=n.length:=by
  unfold colI;rw[List.findIdx_append];have h3:n.findIdx (· ==58)=n.length:=List.findIdx_eq_length.2 fun x hx=>by
   rw[beq_eq_false_iff_ne];exact (vDb (h2 x hx)).1
  rw[h3,if_neg (by omega)];simp[List.findIdx_cons]
 have er:yra n=n:=Wya fun b hb=>(vDb (h2 b (List.mem_of_getLast? hb))).2.2.2
 unfold colP
 simp_all
def crs(l:Str):List UInt8:=l++ [13,10]
theorem kBb(fs:List zca)(f:zca)(t:Str):ZZa (fs++ [f]) t=fs++ [⟨f.Name,f.Value++t⟩]:=by
 unfold ZZa
 simp_all
theorem kCb{b:List UInt8}{s s' :Nat × List zca}(d:Nat × List zca)(n:Nat)(h:wya b s=.inl s'):ZYa (wya b) d (n+1) s=ZYa (wya b) d n s' :=by
 rw[ZYa,h]
theorem vEb(b:List UInt8)(d:Nat × List zca)(n:Nat)(fs:List zca):∀(L:List Str) (p r:List UInt8) (f:zca),(∀l∈L,(10:UInt8) ∉ l/\∃c t,l=c::t/\zUa c=true)->b=p++(L.flatMap crs++r)->
 ZYa (wya b) d (n+L.length) (p.length,fs++ [f])=ZYa (wya b) d n ((p++L.flatMap crs).length,fs++ [⟨f.Name,f.Value++L.flatten⟩])
 | [],p,r,f,_,_=>by simp
 | l::L,p,r,f,hL,hb=>by
  obtain ⟨h10,c,t,e,hc⟩:=hL l (by simp);have hb2:b=(p++crs l)++(L.flatMap crs++r):=by rw[hb];simp
  have hd:b.drop p.length=l++13::10::(L.flatMap crs++r):=by
   rw[hb,List.drop_left' rfl];simp[crs]
  have hs:wya b (p.length,fs++ [f])=.inl ((p++crs l).length,fs++ [⟨f.Name,f.Value++l⟩]):=by
   unfold wya;dsimp only;rw[if_pos (by simp_all),hd,zib _ _ h10];dsimp only;rw[e];dsimp only;rw[if_pos ⟨hc,by simp⟩,<-e,kBb];simp[crs]
  rw[jBn,show n+(L.length+1)=(n+L.length)+1 by omega,kCb d _ hs,vEb b d n fs L (p++crs l) r ⟨f.Name,f.Value++l⟩ (fun x hx=>hL x (by grind)) hb2];simp
theorem field_rt(b:List UInt8)(d:Nat × List zca)(n:Nat)(fs:List zca)(f:zca)(hf:y0a f=0)(p r:List UInt8)(hb:b=p++((flP f.Name f.Value).flatMap crs++r)):
 ZYa (wya b) d (n+(flP f.Name f.Value).length) (p.length,fs)=ZYa (wya b) d n ((p++(flP f.Name f.Value).flatMap crs).length,fs++ [⟨f.Name,32::f.Value⟩]):=by
 rw[Wua]at hf;unfold wkb at hf;have hn:fnP f.Name=true:=by
  cases e:fnP f.Name with
  | true=>rfl
  | false=>simp_all
 rw[hn,if_neg (by simp)]at hf;have hv4:¬4000 < f.Value.length:=fun e=>by omega
 rw[if_neg hv4]at hf;have hv:valP f.Value=true:=by
  cases e:valP f.Value with
  | true=>rfl
  | false=>simp_all
 obtain ⟨h1,h2⟩:=vCb hn;have hj:=(jea _ (txt f.Name f.Value) (f.Name.length+2) (jAq _)).1;have no10:(10:UInt8) ∉ txt f.Name f.Value:=by
  intro h;unfold txt at h;rcases jDj.1 h with h | h
  .rcases jDj.1 h with h | h
   .exact (vDb (h2 _ h)).2.1 rfl
   simp_all
  unfold valP at hv;simp only[jAk,jBp,jCn]at hv;exact hv.1 _ h rfl
 have no10l:∀l∈flP f.Name f.Value,(10:UInt8) ∉ l:=fun l hl h=>no10 (by
  rw[<-hj];exact List.mem_flatten.2 ⟨l,hl,h⟩)
 obtain ⟨v1,L,e1,e2,e3⟩:=jhb f.Name f.Value;rw[e1]at hb no10l ⊢;have hfirst:=no10l _ (jDi ..);have hb2:b=(p++crs (f.Name++58::32::v1))++(L.flatMap crs++r):=by rw[hb];simp
 have hd:b.drop p.length=(f.Name++58::32::v1)++13::10::(L.flatMap crs++r):=by
  rw[hb,List.drop_left' rfl];simp[crs]
 have hs:wya b (p.length,fs)=.inl ((p++crs (f.Name++58::32::v1)).length,fs++ [⟨f.Name,32::v1⟩]):=by
  unfold wya;dsimp only;rw[if_pos (by grind),hd,zib _ _ hfirst];dsimp only;obtain ⟨c,t,hct⟩:∃c t,f.Name=c::t:=List.exists_cons_of_ne_nil h1;have hc:zUa c=false:=(vDb (h2 c (by simp_all))).2.2.2;have e4:f.Name++58::32::v1=c::(t++58::32::v1):=by rw[hct];rfl
  rw[e4];dsimp only;rw[<-e4,if_neg (by simp_all),colP_at hn,if_pos rfl];simp[crs];omega
 rw[jBn,show n+(L.length+1)=(n+L.length)+1 by omega,kCb d _ hs,vEb b d n fs L _ r ⟨f.Name,32::v1⟩ (fun l hl=>⟨no10l l (by grind),e3 l hl⟩) hb2]
 simp_all
def vpa(f:zca):List UInt8:=(flP f.Name f.Value).flatMap crs
theorem addF_eq(a:List UInt8)(f:zca):addF a f=a++vpa f:=by
 unfold addF vpa;have key:∀(L:List Str) (a:List UInt8),L.foldl addL a=a++L.flatMap crs:=by
  intro L;induction L with
  | nil=>simp_all
  | cons l L ih=>intro a;rw[jCc,ih];simp[addL,crs]
 simp_all
theorem jib(L:List zca)(a:List UInt8):L.foldl addF a=a++L.flatMap vpa:=by
 induction L generalizing a with
 | nil=>simp
 | cons f L ih=>rw[jCc,ih,addF_eq];simp
theorem kDb(m:zda):zra m=m.Fields.flatMap vpa++13::10::m.Body:=by
 unfold zra;rw[jib];simp
def jPa(L:List zca):Nat:=(L.map fun f=>(flP f.Name f.Value).length).sum
theorem kEb(b:List UInt8)(d:Nat × List zca)(n:Nat):∀(L:List zca) (fs:List zca) (p r:List UInt8),(∀f∈L,y0a f=0)->b=p++(L.flatMap vpa++r)->
 ZYa (wya b) d (n+jPa L) (p.length,fs)=ZYa (wya b) d n ((p++L.flatMap vpa).length,fs++L.map fun f=>⟨f.Name,32::f.Value⟩)
 | [],fs,p,r,_,_=>by simp[jPa]
 | f::L,fs,p,r,hL,hb=>by
  have hb2:b=(p++vpa f)++(L.flatMap vpa++r):=by rw[hb];simp
  have e:jPa (f::L)=jPa L+(flP f.Name f.Value).length:=by unfold jPa;simp;omega
  rw[e,show n+(jPa L+(flP f.Name f.Value).length)=(n+jPa L)+(flP f.Name f.Value).length by omega];rw[field_rt b d (n+jPa L) fs f (hL f (by simp)) p (L.flatMap vpa++r) (by rw[hb];simp[vpa])];have:=kEb b d n L (fs++ [⟨f.Name,32::f.Value⟩]) (p++vpa f) r (fun g hg=>hL g (by grind)) hb2;unfold vpa at this ⊢
  simp_all
theorem crs_len(L:List Str):L.length<=(L.flatMap crs).length:=by
 induction L with
 | nil=>simp
 | cons l L ih=>simp[crs]at ih ⊢;omega
theorem wzb(L:List zca):jPa L<=(L.flatMap vpa).length:=by
 induction L with
 | nil=>simp[jPa]
 | cons f L ih=>
  have:=crs_len (flP f.Name f.Value);unfold jPa at ih ⊢;simp only[jCp,List.sum_cons,jCv,jBj];unfold vpa at ih ⊢;omega
theorem q3b{m:zda}(h:∀f∈m.Fields,y0a f=0):y2a (zra m)=((m.Fields.flatMap vpa).length+2,m.Fields.map fun f=>⟨f.Name,32::f.Value⟩):=by
 unfold y2a;have hb:=kDb m;have hl:=wzb m.Fields;have hlen:(zra m).length=(m.Fields.flatMap vpa).length+2+m.Body.length:=by rw[hb];simp;omega
 rw[show (zra m).length+1=((zra m).length - jPa m.Fields)+1+jPa m.Fields by omega];rw[show ((0,[]):Nat × List zca)=(([]:List UInt8).length,[]) from rfl];rw[kEb (zra m) _ _ m.Fields [] [] (13::10::m.Body) h (by simp_all)];simp only[jBt];have hs:wya (zra m) ((m.Fields.flatMap vpa).length,m.Fields.map fun f=>⟨f.Name,32::f.Value⟩)=.inr ((m.Fields.flatMap vpa).length+2,m.Fields.map fun f=>⟨f.Name,32::f.Value⟩):=by
  unfold wya;dsimp only;have hd:(zra m).drop (m.Fields.flatMap vpa).length=[]++13::10::m.Body:=by
   rw[hb,List.drop_left' rfl];rfl
  rw[if_pos (by omega),hd,zib [] _ (by simp)];rfl
 rw[ZYa,hs]
theorem QXa{m:zda}(h:(msgF m).Code=0):m.Fields.length<=60/\(∀f∈m.Fields,y0a f=0)/\(zra m).length<=12000/\Kra 0 m.Body=none:=by
 unfold msgF at h;have hh:(voa m.Fields).Code=0:=by
  by_cases hz:(voa m.Fields).Code=0
  .exact hz
  simp_all
 obtain ⟨q1,q2,q3⟩:=yHa _ hh;rw[hh,if_neg (by decide)]at h;have hl:¬12000 < (zra m).length:=fun e=>by simp_all
 rw[if_neg hl]at h;refine ⟨by omega,q3,by omega,?_⟩;unfold bodyF at h;cases hb:Kra 0 m.Body with
 | none=>rfl
 | some x=>
  grind
theorem rawM_rt{m:zda}(h:(msgF m).Code=0):rawM (zra m)=m:=by
 obtain ⟨h1,h2,h3,h4⟩:=QXa h;unfold rawM;rw[q3b h2];dsimp only;have hd:(zra m).drop ((m.Fields.flatMap vpa).length+2)=m.Body:=by
  rw[kDb,show m.Fields.flatMap vpa++13::10::m.Body=(m.Fields.flatMap vpa++ [13,10])++m.Body by simp,List.drop_left' (by simp)]
 rw[hd,q2b _ m.Body 0 _ (jAq _) h4 (jAq _),List.map_map];have:m.Fields.map (wFa ∘ fun f=>⟨f.Name,32::f.Value⟩)=m.Fields.map id:=List.map_congr_left fun f hf=>by
  have hc:=h2 f hf;have hv:valP f.Value=true:=by
   rw[Wua]at hc;unfold wkb at hc;cases e:valP f.Value with
   | true=>rfl
   | false=>
    grind
  show wFa ⟨f.Name,32::f.Value⟩=f;unfold wFa;rw[clean_rt hv]
 simp_all
theorem readP_rt{m:zda}(h:(msgF m).Code=0):jgb (zra m)=(m,true):=by
 obtain ⟨h1,h2,h3,h4⟩:=QXa h;unfold jgb;rw[rawM_rt h,q3b h2,if_neg (by grind),if_pos h]
section
theorem kFb(l:Str):yra l <+:l:=by
 unfold yra;have h:=List.dropWhile_suffix (l:=l.reverse) zUa;simpa using List.reverse_prefix.2 h
theorem jjb(v:Str)(h0:v≠ [])(hc:∀c∈v,c∈D11):∀b,([45,45]++v).getLast? =some b->zUa b=false:=by
 intro b hb;have h:∀c∈D11,zUa c=false:=by decide
 rw[List.getLast?_append]at hb;cases hv:v.getLast? with
 | none=>exact absurd (List.getLast?_eq_none_iff.1 hv) h0
 | some x=>
  rw[hv]at hb;cases hb;exact h _ (hc _ (List.mem_of_getLast? hv))
section
variable {v:Str}
theorem Jda{l:Str}(hl:l.length<=1048576)(hv:v.length<=60)(h:([45,45]++v).isPrefixOf l=false):qFa l v=some 0:=by
 have hp:¬([45,45]++v) <+:l:=fun e=>by rw[jCw.2 e]at h;cases h
 unfold qFa;rw[yha l (by omega)];simp only[jAb];rw[kRa (by simp;omega)];simp only[jAb];have e1:(yra l==[45,45]++v)=false:=by
  rw[beq_eq_false_iff_ne];intro e;exact hp (e▸kFb l)
 rw[e1];simp only[cond_false];rw[kRa (by simp;omega)];simp only[jAb];have e2:(yra l==[45,45]++v++ [45,45])=false:=by
  rw[beq_eq_false_iff_ne];intro e;exact hp ((List.prefix_append _ _).trans (e▸kFb l))
 rw[e2];rfl
theorem kind_sep(h0:v≠ [])(hv:v.length<=60)(hc:∀c∈v,c∈D11):qFa ([45,45]++v) v=some 1:=by
 unfold qFa;rw[yha _ (by simp;omega),Wya (jjb v h0 hc)];simp only[jAb];rw[kRa (by simp;omega)];simp
theorem kind_end(hv:v.length<=60):qFa ([45,45]++v++ [45,45]) v=some 2:=by
 unfold qFa;rw[yha _ (by simp;omega),Wya (fun b hb=>by rw[List.getLast?_append]at hb;cases hb;rfl)];simp only[jAb];rw[kRa (by simp;omega)];simp only[jAb];rw[show ([45,45]++v++ [45,45]==[45,45]++v)=false by rw[beq_eq_false_iff_ne];intro e;have:=congrArg List.length e;simp at this];simp only[cond_false];rw[kRa (by simp;omega)];simp
theorem Kna:∀{t r:List UInt8},Lib.index t [13,10]= -1->Lib.index (t++13::10::r) [13,10]=(t.length:Int)
 | [],r,_=>by rw[jBt,qqa,if_pos ⟨rfl,rfl⟩];rfl
 | [c],r,_=>by
  have e:Lib.index (13::10::r) [13,10]=0:=by rw[qqa,if_pos ⟨rfl,rfl⟩]
  rw[show [c]++13::10::r=c::13::10::r from rfl,qqa,if_neg (by rintro ⟨_,h⟩;cases h),e];rfl
 | c::d::t,r,h=>by
  rw[qqa]at h;split at h
  .cases h
  rename_i hn;have hg:=Lib.index_ge (d::t) [13,10];have h2:Lib.index (d::t) [13,10]= -1:=by
   split at h
   .assumption
   omega
  have ih:=Kna (r:=r) h2;rw[show (c::d::t)++13::10::r=c::d::(t++13::10::r) from rfl,qqa,if_neg hn];rw[show (d::t)++13::10::r=d::(t++13::10::r) from rfl]at ih;rw[ih,if_neg (by omega)];simp
theorem Jea:∀{t r:List UInt8} {j:Nat},Lib.index t [13,10]=(j:Int)->Lib.index (t++r) [13,10]=(j:Int)
 | [],r,j,h=>by simp[Lib.index]at h
 | [c],r,j,h=>by simp[Lib.index]at h
 | c::d::t,r,j,h=>by
  rw[qqa]at h;rw[show (c::d::t)++r=c::d::(t++r) from rfl,qqa];split at h
  .rename_i hn;rw[if_pos hn];exact h
  rename_i hn;rw[if_neg hn];have hg:=Lib.index_ge (d::t) [13,10];split at h
  .omega
  obtain ⟨i,hi⟩:∃i:Nat,Lib.index (d::t) [13,10]=(i:Int):=⟨(Lib.index (d::t) [13,10]).toNat,by omega⟩;have:=Jea (r:=r) hi;rw[show (d::t)++r=d::(t++r) from rfl]at this;rw[this,if_neg (by omega)];omega
theorem QYa{b p l r:List UInt8}(hb:b=p++(l++13::10::r))(hs:b.length<=1048576)(hi:Lib.index (l++13::10::r) [13,10]=(l.length:Int))(fr:Int)(out:List (List UInt8))(k:Int)(hk:qFa l v=some k){q:Nat}(hq:p.length+l.length+2=q):
 zXa b v ((p.length:Int),fr,out)=(bif (k==0) then some (.cont ((q:Int),fr,out)) else ((bif decide (0<=fr) then (cut b fr ((max fr ((w64 ((p.length:Int) - 2)))))).bind fun v20=>(app 5864062014805 out (([v20]:List (List UInt8)))).bind fun v22=>some v22 else some out):Option (List (List UInt8))).bind fun (j18:List (List UInt8))=>(bif (k==2) then some (.out (.inr ((fr,j18,j18)))) else some (.cont ((q:Int),(q:Int),j18)))):=by
 subst hq;have hlen:b.length=p.length+l.length+2+r.length:=by rw[hb];simp;omega
 have hd:b.drop p.length=l++13::10::r:=by rw[hb,List.drop_left]
 unfold zXa;dsimp only;rw[show decide ((p.length:Int) < (b.length:Int))=true by simp;omega,yRa (by omega),hd];simp only[cond_true,jAb,v0a];rw[if_pos (by simp;omega)];simp only[jAb,hi];rw[show decide ((0:Int)<=(l.length:Int))=true by simp];simp only[cond_true,jAb];rw[z6b p.length l.length (by omega),show w64 (((p.length+l.length:Nat):Int)+2)=((p.length+l.length+2:Nat):Int) from by rw[zIa (by omega) (by omega)];omega];rw[YWa (show p.length<=p.length+l.length by omega) (by omega),hd];simp only[jAb];rw[show p.length+l.length - p.length=l.length by omega,List.take_left,hk];simp only[jAb];rw[z6b p.length l.length (by omega),show w64 (((p.length+l.length:Nat):Int)+2)=((p.length+l.length+2:Nat):Int) from by rw[zIa (by omega) (by omega)];omega,show min ((p.length+l.length+2:Nat):Int) (b.length:Int)=((p.length+l.length+2:Nat):Int) by omega]
theorem scan(hv:v.length<=60){b:List UInt8}(hs:b.length<=1048576)(n:Nat):∀(t p r:List UInt8) (fr:Int) (out:List (List UInt8)),t.length=n->b=p++(t++13::10::r)->hasL ([45,45]++v) t=false->
 iter (zXa b v) ((p.length:Int),fr,out)=iter (zXa b v) (((p.length+t.length+2:Nat):Int),fr,out):=by
 induction n using Nat.strongRecOn with
 | _ n ih=>
  intro t p r fr out hn hb hh;have hlen:b.length=p.length+t.length+2+r.length:=by rw[hb];simp;omega
  have hg:=Lib.index_ge t [13,10];by_cases hi:Lib.index t [13,10]= -1
  .have hk:qFa t v=some 0:=by
    refine Jda (by omega) hv ?_;by_cases h0:t=[]
    .subst h0;rfl
    unfold hasL at hh;rw[J4a hi h0]at hh;simpa using hh
   rw[zxa (QYa hb hs (Kna hi) fr out 0 hk rfl)]
  obtain ⟨j,hj⟩:∃j:Nat,Lib.index t [13,10]=(j:Int):=⟨(Lib.index t [13,10]).toNat,by omega⟩;obtain ⟨hj2,hl⟩:=J5a hj;unfold hasL at hh;rw[hl,List.any_cons,jCy]at hh;have hsplit:t=t.take j++13::10::t.drop (j+2):=by
   have h2:=yXb t [];obtain ⟨_,h3⟩:=yWb t [] j hj;have h4:=yXb (t.drop (j+2)) [];rw[h3]at h2;simp only[jBt,jCv,jBi]at h2 h4;rw[h4]at h2;simpa using h2.symm
  have hb2:b=p++(t.take j++13::10::(t.drop (j+2)++13::10::r)):=by
   rw[hb]
   conv=>lhs;rw[hsplit]
   simp
  have hlj:(t.take j).length=j:=by rw[jBv];omega
  have hi2:Lib.index (t.take j++13::10::(t.drop (j+2)++13::10::r)) [13,10]=((t.take j).length:Int):=by
   have:=Jea (r:=13::10::r) hj;rw[hlj,<-this]
   congr 1
   conv=>rhs;rw[hsplit]
   simp
  rw[zxa (QYa hb2 hs hi2 fr out 0 (Jda (by omega) hv hh.1) (q:=(p++(t.take j++ [13,10])).length) (by simp;omega))];show iter _ ((((p++(t.take j++ [13,10])).length:Nat):Int),fr,out)=_;rw[ih (t.drop (j+2)).length (by simp;omega) (t.drop (j+2)) (p++(t.take j++ [13,10])) r fr out rfl (by rw[hb2];simp) hh.2]
  congr 3
  simp;omega
end
def yAa(v:Str):List (List UInt8)->List UInt8
 | []=>wsb v
 | t::ts=>sepB v++(t++13::10::yAa v ts)
theorem zjb(v:Str)(ts:List (List UInt8)):Zja v ts=yAa v ts:=by
 have key:∀(ts:List (List UInt8)) (acc:List UInt8),ts.foldl (addT v) acc++wsb v=acc++yAa v ts:=by
  intro ts;induction ts with
  | nil=>intro acc;rfl
  | cons t ts ih=>intro acc;rw[jCc,ih];unfold addT;simp[yAa]
 exact key ts []
section
variable {v:Str}
theorem no13(hc:∀c∈v,c∈D11)(x:Str)(hx:∀c∈x,c≠13):Lib.index ([45,45]++v++x) [13,10]= -1:=by
 have key:∀l:List UInt8,(∀c∈l,c≠13)->Lib.index l [13,10]= -1:=by
  intro l;induction l with
  | nil=>intro _;simp[Lib.index]
  | cons c r ih=>
   intro h
   match r,ih with
   | [],_=>simp[Lib.index]
   | d::r,ih=>
    rw[qqa,if_neg (by rintro ⟨e,_⟩;exact h c (by simp) e),ih fun x hx=>h x (by simp[hx])];rfl
 have h11:∀c∈D11,c≠13:=by decide
 refine key _ fun c h=>?_
 simp only[jBi,jDj,jBo,jDb,or_false]at h;rcases h with (h | h) | h | h
 .subst h;decide
 .subst h;decide
 .exact h11 c (hc c h)
 exact hx c h
theorem sep_at(h0:v≠ [])(hv:v.length<=60)(hc:∀c∈v,c∈D11){b p r:List UInt8}(hb:b=p++(sepB v++r))(hs:b.length<=1048576)(fr:Int)(out:List (List UInt8)):
 zXa b v ((p.length:Int),fr,out)=((bif decide (0<=fr) then (cut b fr ((max fr ((w64 ((p.length:Int) - 2)))))).bind fun v20=>(app 5864062014805 out (([v20]:List (List UInt8)))).bind fun v22=>some v22 else some out):Option (List (List UInt8))).bind fun j18=>some (.cont (((p.length+(sepB v).length:Nat):Int),((p.length+(sepB v).length:Nat):Int),j18)):=by
 have h:=QYa (v:=v) (b:=b) (p:=p) (l:=[45,45]++v) (r:=r) (by rw[hb];unfold sepB;simp) hs (Kna (by simpa using no13 hc [] (fun c h=>by cases h))) fr out 1 (kind_sep h0 hv hc) (q:=p.length+(sepB v).length) (by unfold sepB;simp;omega);rw[h];rfl
theorem jkb(h0:v≠ [])(hv:v.length<=60)(hc:∀c∈v,c∈D11){b:List UInt8}(hs:b.length<=1048576):∀(ts:List (List UInt8)) (p t0:List UInt8) (out:List (List UInt8)),ts.length+out.length<=1048576->b=p++(t0++13::10::yAa v ts)->(∀t∈ts,hasL ([45,45]++v) t=false)->
 ∃x y,iter (zXa b v) (((p.length+t0.length+2:Nat):Int),(p.length:Int),out)=some (.inr (x,y,out++t0::ts))
 | [],p,t0,out,hn,hb,hh=>by
  have hlen:b.length=p.length+t0.length+2+(wsb v).length:=by rw[hb];simp[yAa];omega
  have hst:=QYa (v:=v) (b:=b) (p:=p++t0++ [13,10]) (l:=[45,45]++v++ [45,45]) (r:=[]) (by rw[hb];unfold yAa wsb;simp) hs (Kna (no13 hc [45,45] (by decide))) (p.length:Int) out 2 (kind_end hv) rfl;have hpl:(p++t0++ [13,10]).length=p.length+t0.length+2:=by simp;omega
  rw[hpl]at hst;have hcut:cut b (p.length:Int) (max (p.length:Int) (w64 (((p.length+t0.length+2:Nat):Int) - 2)))=some t0:=by
   rw[zIa (by omega) (by omega),show max (p.length:Int) (((p.length+t0.length+2:Nat):Int) - 2)=((p.length+t0.length:Nat):Int) by omega,YWa (by omega) (by omega),hb,List.drop_left,show p.length+t0.length - p.length=t0.length by omega,List.take_left]
  refine ⟨(p.length:Int),out++ [t0],zsa (hst.trans ?_)⟩;rw[show decide ((0:Int)<=(p.length:Int))=true by simp,hcut];simp only[cond_true,jAb];rw[k7a (by simp at hn ⊢;omega)];rfl
 | t::ts,p,t0,out,hn,hb,hh=>by
  have hlen:b.length=p.length+t0.length+2+(yAa v (t::ts)).length:=by rw[hb];simp;omega
  have hcut:cut b (p.length:Int) (max (p.length:Int) (w64 (((p.length+t0.length+2:Nat):Int) - 2)))=some t0:=by
   rw[zIa (by omega) (by omega),show max (p.length:Int) (((p.length+t0.length+2:Nat):Int) - 2)=((p.length+t0.length:Nat):Int) by omega,YWa (by omega) (by omega),hb,List.drop_left,show p.length+t0.length - p.length=t0.length by omega,List.take_left]
  have hst:=sep_at h0 hv hc (b:=b) (p:=p++t0++ [13,10]) (r:=t++13::10::yAa v ts) (by rw[hb];simp[yAa]) hs (p.length:Int) out;have hpl:(p++t0++ [13,10]).length=p.length+t0.length+2:=by simp;omega
  rw[hpl]at hst;rw[show decide ((0:Int)<=(p.length:Int))=true by simp,hcut]at hst;simp only[cond_true,jAb]at hst;rw[k7a (by simp at hn ⊢;omega)]at hst;simp only[jAb]at hst;rw[zxa hst];have hp:p.length+t0.length+2+(sepB v).length=(p++t0++ [13,10]++sepB v).length:=by simp;omega
  rw[hp,scan hv hs _ t (p++t0++ [13,10]++sepB v) (yAa v ts) _ _ rfl (by rw[hb];simp[yAa]) (hh t (by simp))];obtain ⟨x,y,h⟩:=jkb h0 hv hc hs ts (p++t0++ [13,10]++sepB v) t (out++ [t0]) (by simp at hn ⊢;omega) (by rw[hb];simp[yAa]) fun x hx=>hh x (by simp[hx])
  refine ⟨x,y,h.trans ?_⟩;simp
theorem kGb(h0:v≠ [])(hv:v.length<=60)(hc:∀c∈v,c∈D11)(t:List UInt8)(ts:List (List UInt8))(hs:(yAa v (t::ts)).length<=1048576)(hn:ts.length<=1000)(hh:∀x∈t::ts,hasL ([45,45]++v) x=false):k3a (yAa v (t::ts)) v=some (t::ts):=by
 have hst:=sep_at h0 hv hc (b:=yAa v (t::ts)) (p:=[]) (r:=t++13::10::yAa v ts) (by simp[yAa]) hs (-1) [];have hst2:zXa (yAa v (t::ts)) v (0, -1,[])=some (.cont ((((sepB v).length:Nat):Int),(((sepB v).length:Nat):Int),[])):=by simpa using hst
 unfold k3a;rw[zxa hst2,scan hv hs _ t (sepB v) (yAa v ts) _ _ rfl (by simp[yAa]) (hh t (by simp))];obtain ⟨x,y,h⟩:=jkb h0 hv hc hs ts (sepB v) t [] (by simp;omega) (by simp[yAa]) fun x hx=>hh x (by simp[hx])
 rw[h];rfl
end
end
theorem QZa(s:Str)(q:UInt8->Bool){body:Int->Option (Step Int Int)}(hb:∀(i:Nat) c,s[i]? =some c->body (i:Int)=some (bif q c then .cont ((i+1:Nat):Int) else .out (i:Int)))(he:body (s.length:Int)=some (.out (s.length:Int))):
 iter body 0=some ((s.takeWhile q).length:Int):=by
 have key:∀r p,s=p++r->iter body (p.length:Int)=some ((p.length+(r.takeWhile q).length:Nat):Int):=by
  intro r;induction r with
  | nil=>
   intro p h;have:p=s:=by simp[h]
   subst this;exact zsa he
  | cons c r ih=>
   intro p h;have hx:=hb p.length c (by simp[h]);cases hq:q c with
   | true=>
    rw[hq]at hx;rw[zxa hx];have:=ih (p++ [c]) (by simp[h]);rw[List.takeWhile_cons,hq,if_pos rfl];simp only[jBj,jBn,List.length_nil]at this ⊢;rw[show p.length+((List.takeWhile q r).length+1)=p.length+(0+1)+(List.takeWhile q r).length by omega];exact this
   | false=>
    rw[hq]at hx;rw[zsa hx,List.takeWhile_cons,hq];simp
 have:=key s [] rfl;simpa using this
theorem jha(s:Str)(q:UInt8->Bool):cut s 0 ((s.takeWhile q).length:Int)=some (s.takeWhile q)/\cut s ((s.takeWhile q).length:Int) (s.length:Int)=some (s.dropWhile q):=by
 have h:=List.takeWhile_append_dropWhile (p:=q) (l:=s);generalize s.takeWhile q=A at *;generalize s.dropWhile q=B at *;subst h;rw[WSa (by simp),yRa (by simp),List.take_left,List.drop_left];exact ⟨rfl,rfl⟩
def tkP(c:UInt8):Bool:=decide (33<=(c.toNat:Int)) && decide ((c.toNat:Int)<=126) && decide (Lib.indexByte [40,41,60,62,64,44,59,58,92,34,47,91,93,63,61,42,37,39] c < 0)
theorem jlb(c:UInt8):((bif decide (33<=(c.toNat:Int)) then (bif decide ((c.toNat:Int)<=126) then (zua (([40,41,60,62,64,44,59,58,92,34,47,91,93,63,61,42,37,39]:Str)) c).bind fun v13=>some (decide (v13 < 0)) else some false) else some false):Option Bool)=some (tkP c):=by
 unfold tkP zua;cases decide (33<=(c.toNat:Int)) <;> cases decide ((c.toNat:Int)<=126) <;> rfl
theorem jmb(c:UInt8):qBa c=some (tkP c):=by unfold qBa;rw[jlb];rfl
theorem take_l1(s:Str)(hs:s.length<=1048576):iter (vMa ⟨s⟩) 0=some ((s.takeWhile tkP).length:Int):=
 QZa s tkP (fun i c hx=>by
  have hi:=kfa hx;unfold vMa;dsimp only;rw[kSa hx,z3a hx];simp only[cond_true,jAb];rw[jlb,sc i (by omega)];cases tkP c <;> rfl) (by unfold vMa;dsimp only;rw[kaa];rfl)
theorem take_l2(s:Str)(hs:s.length<=1048576):iter (vNa ⟨s⟩) 0=some ((s.takeWhile tkP).length:Int):=
 QZa s tkP (fun i c hx=>by
  have hi:=kfa hx;unfold vNa;dsimp only;rw[kSa hx,z3a hx];simp only[cond_true,jAb];rw[jlb,sc i (by omega)];cases tkP c <;> rfl) (by unfold vNa;dsimp only;rw[kaa];rfl)
def tkS(c:UInt8):Bool:=tkP c || ((c.toNat:Int)==42)
theorem take_r1(s:Str)(hs:s.length<=1048576):iter (kQa ⟨s⟩) 0=some ((s.takeWhile tkS).length:Int):=
 QZa s tkS (fun i c hx=>by
  have hi:=kfa hx;unfold kQa tkS;dsimp only;rw[kSa hx,z3a hx];simp only[cond_true,jAb];rw[jmb,sc i (by omega)];cases tkP c <;> cases (c.toNat:Int)==42 <;> rfl) (by unfold kQa;dsimp only;rw[kaa];rfl)
def tkV(c:UInt8):Bool:=tkP c || ((c.toNat:Int)==37) || ((c.toNat:Int)==39) || ((c.toNat:Int)==42)
theorem take_v1(s:Str)(hs:s.length<=1048576):iter (kGa ⟨s⟩) 0=some ((s.takeWhile tkV).length:Int):=
 QZa s tkV (fun i c hx=>by
  have hi:=kfa hx;unfold kGa tkV;dsimp only;rw[kSa hx,z3a hx];simp only[cond_true,jAb];rw[jmb,sc i (by omega)];cases tkP c <;> cases (c.toNat:Int)==37 <;> cases (c.toNat:Int)==39 <;> cases (c.toNat:Int)==42 <;> rfl) (by unfold kGa;dsimp only;rw[kaa];rfl)
theorem jQa(s:Str)(hs:s.length<=1048576):zEa ⟨s⟩=some ⟨Lib.trimLeftS s [32,9]⟩:=by
 unfold zEa vXa;rw[if_pos ⟨by show s.length<=_;omega,by decide,by decide⟩];rfl
theorem zkb(c:UInt8)(s r:Str)(hs:s.length<=1048576)(h:Lib.trimLeftS s [32,9]=c::r)(hr:r.length<=1048576):zMa ⟨s⟩ c=some (true,⟨r⟩):=by
 unfold zMa;rw[jQa s hs];simp only[jAb,h];rw[show (c::r==([]:Str))=false from rfl,show idx (c::r) 0=some c from rfl];simp only[cond_false,jAb,bne_self_eq_false];rw[show cut (c::r) 1 ((c::r).length:Int)=some r from by have:=yRa (l:=c::r) (a:=1) (by simp);simpa using this];rfl
theorem jnb(c d:UInt8)(s r:Str)(hs:s.length<=1048576)(h:Lib.trimLeftS s [32,9]=d::r)(hd:((d.toNat:Int) !=(c.toNat:Int))=true):zMa ⟨s⟩ c=some (false,⟨d::r⟩):=by
 unfold zMa;rw[jQa s hs];simp only[jAb,h];rw[show (d::r==([]:Str))=false from rfl,show idx (d::r) 0=some d from rfl];simp only[cond_false,jAb,hd,cond_true]
theorem kHb{q:UInt8->Bool}:∀{s:Str},(∀c∈s,q c=true)->s.takeWhile q=s/\s.dropWhile q=[]
 | [],_=>⟨rfl,rfl⟩
 | c::s,h=>by
  obtain ⟨h1,h2⟩:=kHb (s:=s) fun x hx=>h x (by simp[hx])
  rw[List.takeWhile_cons,List.dropWhile_cons,h c (by simp)];simp[h1,h2]
theorem parse_vB(v:Str)(h0:v≠ [])(h8:v.length<=8)(hc:∀c∈v,c∈D11):yPa (vB v)=some (mB v,true):=by
 have hD:∀c∈D11,tkV c=true/\([32,9]:List UInt8).contains c=false/\((c.toNat:Int) !=((34:UInt8).toNat:Int))=true:=by decide+kernel
 obtain ⟨d,r,rfl⟩:∃d r,v=d::r:=by cases v with | nil=>exact absurd rfl h0 | cons d r=>exact ⟨d,r,rfl⟩
 have hd:=hD d (hc d (by simp));have htl:Lib.trimLeftS (d::r) [32,9]=d::r:=by unfold Lib.trimLeftS;rw[List.dropWhile_cons,hd.2.1];rfl
 obtain ⟨w1,w2⟩:=kHb (q:=tkV) (s:=d::r) fun c h=>(hD c (hc c h)).1
 have hvl:(vB (d::r)).length<=100:=by unfold vB;rw[jBj,show (vMD++ [59,32]++kB++ [61]:Str).length=27 from rfl];omega
 have hval:qfa ⟨d::r⟩=some (d::r,true,⟨[]⟩):=by
  unfold qfa;rw[jnb 34 d (d::r) r (by omega) htl hd.2.2];simp only[jAb,Bool.not_false,cond_true];rw[jQa (d::r) (by omega),htl];simp only[jAb];rw[take_v1 (d::r) (by omega)];simp only[jAb];rw[(jha (d::r) tkV).1,(jha (d::r) tkV).2,w1,w2];rfl
 have hread:qCa ⟨32::(kB++61::d::r)⟩=some (⟨kB, -1,false,d::r⟩,true,⟨[]⟩):=by
  have hl:(32::(kB++61::d::r)).length<=1048576:=by simp[kB]at h8 ⊢;omega
  unfold qCa;rw[jQa _ hl,show Lib.trimLeftS (32::(kB++61::d::r)) [32,9]=kB++61::d::r from rfl];simp only[jAb];rw[take_r1 _ (by simp[kB]at h8 ⊢;omega)];simp only[jAb];rw[(jha (kB++61::d::r) tkS).1,(jha (kB++61::d::r) tkS).2,show (kB++61::d::r).takeWhile tkS=kB by kernel_rfl,show (kB++61::d::r).dropWhile tkS=61::d::r by kernel_rfl];simp only[jAb];rw[zkb 61 (61::d::r) (d::r) (by simp at h8 ⊢;omega) rfl (by omega)];simp only[jAb,jAx,cond_false];rw[hval,show kZa kB [42]=some (kB,[],false) by kernel_rfl];rfl
 have hl3:q8a (⟨59::32::(kB++61::d::r)⟩,[])=some (.cont (⟨[]⟩,[⟨kB, -1,false,d::r⟩])):=by
  unfold q8a;dsimp only;rw[zkb 59 (59::32::(kB++61::d::r)) (32::(kB++61::d::r)) (by simp[kB]at h8 ⊢;omega) rfl (by simp[kB]at h8 ⊢;omega)];simp only[jAb,cond_true];rw[hread];rfl
 have hl3b:q8a (⟨[]⟩,[⟨kB, -1,false,d::r⟩])=some (.out (.inl (⟨[]⟩,[⟨kB, -1,false,d::r⟩]))):=by
  unfold q8a;dsimp only;rw[show zMa ⟨[]⟩ 59=some (false,⟨[]⟩) by kernel_rfl];rfl
 have hl4:vOa (⟨[]⟩,[⟨kB, -1,false,d::r⟩]) (0,[])=some (.cont (1,[⟨kB,d::r⟩])):=by
  unfold vOa;dsimp only;rw[show decide ((0:Int) < (([⟨kB, -1,false,d::r⟩]:List zia).length:Int))=true from rfl,show idx ([⟨kB, -1,false,d::r⟩]:List zia) 0=some ⟨kB, -1,false,d::r⟩ from rfl];simp only[cond_true,jAb];rw[show cut ([⟨kB, -1,false,d::r⟩]:List zia) 0 0=some [] from rfl];simp only[jAb];rw[show iter (jna ⟨kB, -1,false,d::r⟩ []) 0=some (.inl ()) from zsa rfl];simp only[jAb,Sum.elim_inl];rw[show decide ((0:Int)<= -1)=false from rfl];simp only[cond_false];have h7:wZa (⟨[]⟩,[⟨kB, -1,false,d::r⟩]) ⟨kB, -1,false,d::r⟩ (0,[])=some (.cont (1,[⟨kB, -1,false,d::r⟩])):=by kernel_rfl
  rw[zxa h7,show iter (wZa (⟨[]⟩,[⟨kB, -1,false,d::r⟩]) ⟨kB, -1,false,d::r⟩) (1,[⟨kB, -1,false,d::r⟩])=some [⟨kB, -1,false,d::r⟩] from zsa rfl];rfl
 have e0:vB (d::r)=tMD++47::(tD++59::32::(kB++61::d::r)):=rfl;unfold yPa;rw[jQa _ (by omega),show Lib.trimLeftS (vB (d::r)) [32,9]=vB (d::r) from rfl];simp only[jAb];rw[take_l1 _ (by omega)];simp only[jAb];rw[(jha (vB (d::r)) tkP).1,(jha (vB (d::r)) tkP).2,show (vB (d::r)).takeWhile tkP=tMD by kernel_rfl,show (vB (d::r)).dropWhile tkP=47::(tD++59::32::(kB++61::d::r)) by kernel_rfl];simp only[jAb];have hl5:(tD++59::32::(kB++61::d::r)).length<=1048576:=by simp[tD,kB]at h8 ⊢;omega
 rw[zkb 47 (47::(tD++59::32::(kB++61::d::r))) _ (by simp[tD,kB]at h8 ⊢;omega) rfl hl5];simp only[jAb];rw[jQa _ hl5,show Lib.trimLeftS (tD++59::32::(kB++61::d::r)) [32,9]=tD++59::32::(kB++61::d::r) from rfl];simp only[jAb];rw[take_l2 _ hl5];simp only[jAb];rw[(jha (tD++59::32::(kB++61::d::r)) tkP).1,(jha (tD++59::32::(kB++61::d::r)) tkP).2,show (tD++59::32::(kB++61::d::r)).takeWhile tkP=tD by kernel_rfl,show (tD++59::32::(kB++61::d::r)).dropWhile tkP=59::32::(kB++61::d::r) by kernel_rfl];simp only[jAb];rw[show (tMD==([]:Str))=false from rfl,show (tD==([]:Str))=false from rfl];simp only[cond_false,jAx,jAb];rw[zxa hl3,zsa hl3b];simp only[jAb,Sum.elim_inl];rw[show zEa ⟨[]⟩=some ⟨[]⟩ by kernel_rfl];simp only[jAb];rw[zxa hl4,show iter (vOa (⟨[]⟩,[⟨kB, -1,false,d::r⟩])) (1,[⟨kB,d::r⟩])=some (.inl [⟨kB,d::r⟩]) from zsa rfl];rfl
theorem vFb(v:Str)(h0:v≠ [])(h8:v.length<=8)(hc:∀c∈v,c∈D11):wRa (vB v)=some (mB v,⟨0,0⟩):=by
 have hvl:(vB v).length<=100:=by unfold vB;rw[jBj,show (vMD++ [59,32]++kB++ [61]:Str).length=27 from rfl];omega
 unfold wRa;rw[show decide ((4000:Int) < ((vB v).length:Int))=false by rw[decide_eq_false_iff_not];omega,parse_vB v h0 h8 hc];simp only[cond_false,jAb,jAx];rw[zdb v h0 h8 hc];rfl
section
def kXD:Str:=[88,45,68,105,103,101,115,116]
structure DF (F:Str->List zca) (k:Nat) (d:Str):Prop where
 ty:∀v,iter (jYa (F v)) (-1,0)=some (.inl (k:Int))
 pos:∀v,(F v)[k]? =some ⟨kCT,v⟩
 put:∀v v',(F v).set k ⟨kCT,v'⟩=F v'
 len:∀v,(F v).length<=60
 whole:∀P,qpa ⟨F vMD,[],P⟩=some 0
 ct:getP (F vMD) kCT=[vMD]
 xd:getP (F vMD) kXD=[d]
 small:∀v,v.length<=1048576->Zba (F v)
 head:(voa (F vMD)).Code=0
section
variable {F:Str->List zca} {k:Nat} {d:Str}
theorem DF.type(h:DF F k d){v:Str}{m:kEa}{f:zoa}(hp:wRa v=some (m,f)):vya (F v)=some (m,(k:Int), !(f.Code !=0)):=by
 unfold vya;rw[h.ty v];simp only[jAb,Sum.elim_inl];rw[show decide ((k:Int) < 0)=false by simp,z3a (h.pos v)];simp only[cond_false,jAb,hp,zqa]
theorem param_vB(v:Str)(h0:v≠ [])(h8:v.length<=8)(hc:∀c∈v,c∈D11):v2a (mB v) kB=some (v,true,⟨0,0⟩):=by
 unfold v2a;rw[zdb v h0 h8 hc,zsa (show joa (mB v) kB 0=some (.out (.inr (v,true,⟨0,0⟩))) by kernel_rfl)];rfl
theorem DF.boundary(h:DF F k d)(v:Str)(h0:v≠ [])(h8:v.length<=8)(hc:∀c∈v,c∈D11):vRa (F (vB v))=some (v,true):=by
 have h11:∀c∈D11,(decide (32<=(c.toNat:Int))=true/\decide ((c.toNat:Int)<=126)=true):=by decide
 have hl:iter (qEa (v,true,⟨0,0⟩)) 0=some (.inl ()):=by
  rw[qaa v (fun _ _=>(none:Option Unit)) (.inl ()) .inr]
  .rw[show zZa (fun _ _=>(none:Option Unit)) 0 v=none by rw[qUa];intro i x _;rfl];rfl
  .unfold qEa;dsimp only;rw[kaa];rfl
  intro i c hx;have hi:=kfa hx;obtain ⟨a1,a2⟩:=h11 c (hc c (jAf hx));unfold qEa;dsimp only;rw[kSa hx,z3a hx];simp only[cond_true,jAb,a1,a2,sc i (by omega)];rfl
 have hsuf:z7a v [32]=some false:=by
  rw[yva v [32] (by omega)]
  congr 1
  cases hs:List.isSuffixOf [32] v with
  | false=>rfl
  | true=>
   obtain ⟨p,rfl⟩:=jBx.1 hs;have:=hc 32 (by simp)
   revert this;decide
 unfold vRa;rw[h.type (vFb v h0 h8 hc)];simp only[jAb];rw[show kBa (mB v).Type_ [109,117,108,116,105,112,97,114,116]=some true by kernel_rfl];simp only[jAb,bne_self_eq_false,Bool.not_false,jAx,cond_false];rw[show v2a (mB v) [98,111,117,110,100,97,114,121]=some (v,true,⟨0,0⟩) from param_vB v h0 h8 hc];simp only[jAb];rw[show (v !=([]:Str))=true by simpa using h0,show decide ((v.length:Int)<=60)=true by simp;omega,hl,hsuf];rfl
theorem DF.inner(h:DF F k d)(v:Str)(h0:v≠ [])(h8:v.length<=8)(hc:∀c∈v,c∈D11)(b:List UInt8)(o:List (List UInt8))(hb:k3a b v=some o):qRa (F (vB v)) b 0=some o:=by
 unfold qRa;rw[h.boundary v h0 h8 hc];simp only[jAb];rw[show (bif (!true) then some true else some (decide ((8:Int)<=0)))=some false from rfl];simp only[jAb,cond_false,hb]
theorem DF.bare(h:DF F k d)(v:Str)(h0:v≠ [])(h8:v.length<=8)(hc:∀c∈v,c∈D11):yGa (F (vB v))=some (F vMD,true):=by
 unfold yGa;rw[h.type (vFb v h0 h8 hc)];simp only[jAb];rw[zsa (show jZa (mB v,(k:Int), !((⟨0,0⟩:zoa).Code !=0)) 0=some (.out (.inr 0)) by kernel_rfl)];simp only[jAb,Sum.elim_inr];rw[show ((0:Int)== -1)=false from rfl];simp only[cond_false];rw[zsa (show j0a (0,w64 (0+1),(mB v).Params)=some (.out (0,[⟨kB,v⟩])) by kernel_rfl)];simp only[jAb];rw[show cut ([⟨kB,v⟩]:List zna) 0 (([⟨kB,v⟩]:List zna).length:Int)=some [⟨kB,v⟩] from rfl];simp only[jAb];rw[show cut (clr0 ([⟨kB,v⟩]:List zna) (Int.toNat 0) ⟨[],[]⟩) 0 0=some [] from rfl];simp only[jAb];rw[show qQa ⟨(mB v).Type_,(mB v).Sub,[]⟩=some (vMD,⟨0,0⟩) by kernel_rfl];simp only[jAb,zqa,bne_self_eq_false,cond_false];rw[show zja (F (vB v))=some (F (vB v)) from jga _ (jBg (h.len (vB v)) (by decide))];simp only[jAb,z3a (h.pos (vB v)),jDl];rw[h.put]
theorem head_itH:(itF.flatMap vpa).length+2=30:=by decide+kernel
theorem V8a(b:List UInt8)(hb:(itT b).length<=12000):v1a (itT b)=some (itF,30,⟨0,0⟩):=by
 have hh:y2a (itT b)=(30,[⟨kCT,32::vIT⟩]):=by
  have:=q3b (m:=⟨itF,b⟩) Y5a;rw[show zra ⟨itF,b⟩=itT b from rfl,head_itH]at this;exact this
 unfold v1a;rw[decide_eq_false (by omega),kzb (itT b) hb,hh];simp only[cond_false,jAb,encH];rw[show decide ((60:Int) < (([⟨kCT,32::vIT⟩]:List zca).length:Int))=false from rfl];simp only[cond_false];rw[kAb ((((30:Nat)):Int),[⟨kCT,32::vIT⟩]) (by decide) (by decide)];rw[show vout [⟨kCT,32::vIT⟩] (jfb [⟨kCT,32::vIT⟩])=.inl itF by kernel_rfl];rfl
theorem job(s:zea)(b:List UInt8)(hb:(itT b).length<=12000)(h40:0<=s.many/\s.many < 40):kya s (itT b) 1=some (vda b,true,⟨s.many+1,s.fault⟩):=by
 have hl:(itT b).length=30+b.length:=by unfold itT;rw[jBj,J3a]
 unfold kya;rw[V8a b hb];simp only[jAb,zqa,bne_self_eq_false,cond_false];rw[show (s.many==40)=false by rw[beq_eq_false_iff_ne];omega];simp only[cond_false];rw[show cut (itT b) 30 ((itT b).length:Int)=some b by
  have:=yRa (l:=itT b) (a:=30) (by omega);rw[show ((30:Nat):Int)=30 from rfl]at this;rw[this];unfold itT;rw[List.drop_left' J3a]]
 simp only[jAb];unfold k5a;rw[show zja itF=some itF from jga _ (by decide),show zKa b=some b from jga _ (by omega),Y4a b];simp only[jAb];rw[show ((([]:List (List UInt8)).length:Int)==0)=true from rfl];simp only[cond_true,jAb];rw[zIa (by omega) (by omega)];rfl
theorem q4b(v5:List (List UInt8))(bs:List (List UInt8))(e:v5=bs.map itT)(h2:bs.length<=20)(h3:∀b∈bs,(itT b).length<=12000):
 iter (zSa 0 v5) (0,⟨1,⟨0,0⟩⟩,[])=some (.inl (⟨(bs.length:Int)+1,⟨0,0⟩⟩,bs.map vda)):=by
 subst e;have h:=(wva bs (fun i (s:Nat × List zpa)=>(i,(⟨(s.1:Int)+1,⟨0,0⟩⟩:zea),s.2)) (fun s b=>(s.1+1,s.2++ [vda b])) (fun s=>(Sum.inl ((⟨(s.1:Int)+1,⟨0,0⟩⟩:zea),s.2):(zea × List zpa) ⊕ zea)) (fun i s=>s.1=i/\s.2.length=i) (body:=zSa 0 (bs.map itT)) (fun s _=>by
  unfold zSa;dsimp only;rw[show (((bs.map itT).length:Nat):Int)=(bs.length:Int) by simp,kaa];rfl) (fun i b s hb hs=>by
  have hi:=kfa hb;have hx:(bs.map itT)[i]? =some (itT b):=by simp[hb]
  obtain ⟨s1,s2⟩:=hs;refine ⟨?_,by simp[s1],by simp[s2]⟩;unfold zSa;dsimp only;rw[kSa hx,z3a hx];simp only[cond_true,jAb];rw[show w64 (0+1)=1 from rfl,job _ b (h3 b (jAf hb)) (by dsimp only;omega)];simp only[jAb,jAx,cond_false];rw[k7a (by simp[s2];omega),sc i (by omega)];simp only[jAb];rfl) (0,[]) ⟨rfl,rfl⟩).1
 have key:∀(l:List (List UInt8)) (a:Nat) (acc:List zpa),l.foldl (fun (s:Nat × List zpa) b=>(s.1+1,s.2++ [vda b])) (a,acc)=(a+l.length,acc++l.map vda):=by
  intro l;induction l with
  | nil=>intro a acc;simp
  | cons x l ih=>intro a acc;rw[jCc,ih];simp;omega
 rw[key]at h;simpa using h
theorem DF.split(h:DF F k d)(v:Str)(h0:v≠ [])(h8:v.length<=8)(hc:∀c∈v,c∈D11)(bs:List (List UInt8))(h1:1<=bs.length)(h2:bs.length<=20)(hu:∀t∈bs.map itT,hasL ([45,45]++v) t=false)
 (hm:(msgF ⟨F (vB v),Zja v (bs.map itT)⟩).Code=0) (hsm:ySa ⟨F (vB v),Zja v (bs.map itT)⟩) (hbod:∀b∈bs,bodC b=0):vUa ⟨F (vB v),Zja v (bs.map itT)⟩=some (digG (F vMD) bs,⟨0,0⟩):=by
 obtain ⟨p1,p2,p3,p4⟩:=QXa hm;have hbl:(Zja v (bs.map itT)).length<=12000:=by unfold zra at p3;simp at p3;omega
 have h3:∀b∈bs,(itT b).length<=12000:=by
  intro b hb;have key:∀ts:List (List UInt8),itT b∈ts->(itT b).length<=(yAa v ts).length:=by
   intro ts;induction ts with
   | nil=>intro h;cases h
   | cons t ts ih=>
    intro h;unfold yAa;rcases jBo.1 h with rfl | h
    .simp;omega
    have:=ih h;simp;omega
  have:=key (bs.map itT) (jBl.2 ⟨b,hb,rfl⟩);rw[<-zjb]at this;omega
 have hcon:k3a (Zja v (bs.map itT)) v=some (bs.map itT):=by
  rw[zjb]
  match bs,h1,h2,hu,hbl with
  | [],h1,_,_,_=>cases h1
  | b::bs,_,h2,hu,hbl=>
   rw[zjb]at hbl;exact kGb h0 (by omega) hc (itT b) (bs.map itT) (by rw[jCp]at hbl;omega) (by simp at h2 ⊢;omega) hu
 have hval:z8a (digG (F vMD) bs)=some ⟨0,0⟩:=by
  rw[jfa (F vMD) bs (h.small vMD (by decide)) (h.whole _) h1 h2 fun b hb=>by
   have:=h3 b hb;unfold itT at this;rw[jBj]at this;omega]
  unfold valG;rw[h.head];simp only[bne_self_eq_false,jAs,if_false,Option.some.injEq];rw[show zZa itQ 0 bs=none from qUa.2 fun i b hb=>by
   unfold itQ;rw[hbod b (jAf hb)];rfl]
  rfl
 unfold vUa;rw[z4a _ hsm];simp only[jAb,zqa,hm,bne_self_eq_false,cond_false];unfold k6a;rw[show zja (F (vB v))=some (F (vB v)) from jga _ (jBg (h.len (vB v)) (by decide)),show zKa (Zja v (bs.map itT))=some (Zja v (bs.map itT)) from jga _ (by omega),h.inner v h0 h8 hc _ _ hcon];simp only[jAb];rw[show (((bs.map itT).length:Int)==0)=false by rw[beq_eq_false_iff_ne,jAu];omega,h.bare v h0 h8 hc];simp only[cond_false,jAb,jAx];rw[show w64 (0+1)=1 from rfl,q4b (bs.map itT) bs rfl h2 h3];simp only[jAb,Sum.elim_inl,jAx,cond_false];rw[show z8a ⟨F vMD,[],bs.map vda⟩=some ⟨0,0⟩ from hval];rfl
end
theorem wAb(b:List UInt8):qka b b=some true:=by unfold qka;simp
theorem read_msg{m:zda}(hm:(msgF m).Code=0)(h2:ySa m):vba (vda (zra m))=some (m,true):=by
 obtain ⟨e1,_,e3,_⟩:=Vxa hm h2;obtain ⟨f,r1,r2⟩:=Yda (zra m) e3;rw[readP_rt hm]at r1 r2;unfold vba;rw[show qna (vda (zra m)).Fields [67,111,110,116,101,110,116,45,84,121,112,101] [109,101,115,115,97,103,101,47,105,116,101,109]=some true by kernel_rfl];simp only[jAb,jAx,cond_false];rw[show v9a (vda (zra m)).Body=some (m,f) from r1];simp only[jAb,zqa,r2,jAx,cond_false,e1,bne_self_eq_false,Bool.not_false,cond_true];rw[show qka (zra m) (vda (zra m)).Body=some true from wAb _];rfl
theorem jpb(F:List zca)(l:List zda)(f:zoa)(h:W1a l)(hl:l.length<=20)(hm:∀m∈l,(msgF m).Code=0):iter (vca (digG F (l.map zra),f)) (0,[])=some (.inl l):=by
 have h:=(wva l (fun i (s:List zda)=>(i,s)) (fun s m=>s++ [m]) (fun s=>(Sum.inl s:List zda ⊕ (List zda × Bool × zoa))) (fun i s=>s.length<=i) (body:=vca (digG F (l.map zra),f)) (fun s _=>by
  unfold vca;dsimp only;rw[show ((digG F (l.map zra)).Parts.length:Int)=(l.length:Int) by show (((l.map zra).map vda).length:Int)=_;simp,kaa];rfl) (fun i m s hx hs=>by
  have hi:=kfa hx;have hmem:=jAf hx;have hp:(digG F (l.map zra)).Parts[i]? =some (vda (zra m)):=by show ((l.map zra).map vda)[i]? =_;simp[hx]
  refine ⟨?_,by simp;omega⟩;unfold vca;dsimp only;rw[kSa hp,z3a hp];simp only[cond_true,jAb];rw[show vba ⟨(vda (zra m)).Fields,(vda (zra m)).Body,[]⟩=some (m,true) from read_msg (hm m hmem) (h.2 m hmem)];simp only[jAb,jAx,cond_false];rw[k7a (by simp;omega),sc i (by omega)];rfl) [] (by simp)).1
 rw[h];have key:∀(l acc:List zda),l.foldl (fun s m=>s++ [m]) acc=acc++l:=by
  intro l;induction l with
  | nil=>intro acc;simp
  | cons x l ih=>intro acc;rw[jCc,ih];simp
 rw[key];rfl
theorem jqb(F:List zca)(n x:Str)(hs:Zba F)(hn:n.length<=1048576)(hh:(voa F).Code=0)(hf:fnP n=true)(hg:getP F n=[x]):qna F n x=some true:=by
 unfold qna;rw[zab F n hs hn,hh,hf,hg];simp only[bne_self_eq_false,jAs,if_false,jAx,jAb];rw[show ((([x]:List Str).length:Int)==1)=true from rfl,show idx ([x]:List Str) 0=some x from rfl];simp
theorem KMa{F:Str->List zca}{k:Nat}(l:List zda)(h:DF F k (Lib.decDigits l.length))(v:Str)(h0:v≠ [])(h8:v.length<=8)(hc:∀c∈v,c∈D11)(hs:W1a l)(h1:1<=l.length)(h2:l.length<=20)(hl:∀m∈l,(msgF m).Code=0)
 (hu:∀t∈(l.map zra).map itT,hasL ([45,45]++v) t=false) (hm:(msgF ⟨F (vB v),Zja v ((l.map zra).map itT)⟩).Code=0) (hsm:ySa ⟨F (vB v),Zja v ((l.map zra).map itT)⟩) (hbod:∀b∈l.map zra,bodC b=0):
 qTa ⟨F (vB v),Zja v ((l.map zra).map itT)⟩=some (l,true,⟨0,0⟩):=by
 have hsF:=h.small vMD (by decide);unfold qTa;rw[z4a _ hsm];simp only[jAb,zqa,hm,bne_self_eq_false,cond_false];rw[h.split v h0 h8 hc (l.map zra) (by simpa using h1) (by simpa using h2) hu hm hsm hbod];simp only[jAb,bne_self_eq_false,cond_false];have hpl:((digG (F vMD) (l.map zra)).Parts.length:Int)=(l.length:Int):=by show (((l.map zra).map vda).length:Int)=_;simp
 rw[hpl,show decide ((l.length:Int) < 1)=false by rw[decide_eq_false_iff_not];omega,show decide ((20:Int) < (l.length:Int))=false by rw[decide_eq_false_iff_not];omega];simp only[cond_false];rw[show qna (digG (F vMD) (l.map zra)).Fields [67,111,110,116,101,110,116,45,84,121,112,101] [109,117,108,116,105,112,97,114,116,47,100,105,103,101,115,116]=some true from jqb (F vMD) kCT vMD hsF (by decide) h.head (by decide+kernel) h.ct];simp only[jAb,jAx,cond_false];rw[J6a l.length (by omega)];simp only[jAb];rw[show qna (digG (F vMD) (l.map zra)).Fields [88,45,68,105,103,101,115,116] (Lib.decDigits l.length)=some true from jqb (F vMD) kXD _ hsF (by decide) h.head (by decide+kernel) h.xd];simp only[jAb,jAx,cond_false];rw[jpb (F vMD) l _ hs h2 hl];rfl
end
theorem q5b{m:zda}{b i:Str}{t:Int}(h:(Yba m b i t).2.Code=0):∃x,Yba m b i t=(stM m b i x,⟨0,0⟩)/\(msgF (stM m b i x)).Code=0:=by
 unfold Yba at h ⊢;cases hc:(msgF m).Code !=0 with
 | true=>rw[hc]at h;exact absurd h (by simpa using hc)
 | false=>
  rw[hc]at h;simp only[cond_false]at h ⊢;cases hn1:Ysa b with
  | false=>rw[hn1]at h;exact absurd h (show (10:Int)≠0 by decide)
  | true=>
   rw[hn1]at h;cases hn2:Ysa i with
   | false=>rw[hn2]at h;exact absurd h (show (10:Int)≠0 by decide)
   | true=>
    rw[hn2]at h;simp only[jAx,cond_false]at h ⊢;cases h6:(m.Fields.length:Int)==60 with
    | true=>rw[h6]at h;exact absurd h (show (2:Int)≠0 by decide)
    | false=>
     rw[h6]at h;simp only[cond_false]at h ⊢;cases hw:zgb t with
     | none=>rw[hw]at h;exact absurd h (show (3:Int)≠0 by decide)
     | some x=>
      rw[hw]at h;dsimp only at h ⊢;cases hz:(msgF (stM m b i x)).Code !=0 with
      | true=>rw[hz]at h;exact absurd h (by simpa using hz)
      | false=>exact ⟨x,rfl,by simpa using hz⟩
theorem wBb{l:List zca}(h60:l.length<=60)(h:∀f∈l,y0a f=0):(voa l).Code=0:=by
 unfold voa;rw[if_neg (by omega),show zZa QKa 0 l=none from qUa.2 fun i f hf=>by unfold QKa;rw[h f (jAf hf)];rfl];rfl
theorem Jfa{a w d:Str}(ha:a.length<=1048576)(hw:w.length<=1048576)(hd:d.length<=1048576)(v:Str)(hv:v.length<=1048576):Zba (fldF a w d v):=⟨by show 4<=_;decide,fun f hf=>by
 unfold fldF at hf;simp only[jBo,jDb,or_false]at hf;rcases hf with rfl | rfl | rfl | rfl <;> refine ⟨?_,?_⟩ <;> first | assumption | exact jAd rfl⟩
theorem df0{a w d:Str}(ha:a.length<=1048576)(hw:w.length<=1048576)(hd:d.length<=1048576)(hh:(voa (fldF a w d vMD)).Code=0):DF (fldF a w d) 3 d where
 ty _:=by kernel_rfl
 pos _:=rfl
 put _ _:=rfl
 len _:=jAd rfl
 whole:=kjb a w d
 ct:=by kernel_rfl
 xd:=by kernel_rfl
 small:=Jfa ha hw hd
 head:=hh
theorem df1{y a w d:Str}(hy:y.length<=1048576)(ha:a.length<=1048576)(hw:w.length<=1048576)(hd:d.length<=1048576)(hh:(voa (fldF a w d vMD)).Code=0)(hc:y0a ⟨rcv,y⟩=0):DF (fun v=>⟨rcv,y⟩::fldF a w d v) 4 d where
 ty _:=by kernel_rfl
 pos _:=rfl
 put _ _:=rfl
 len _:=jAd rfl
 whole _:=by kernel_rfl
 ct:=by kernel_rfl
 xd:=by kernel_rfl
 small v hv:=by
  obtain ⟨s1,s2⟩:=Jfa ha hw hd v hv;refine ⟨by show 5<=_;decide,fun f hf=>?_⟩;rcases jBo.1 hf with rfl | hf
  .exact ⟨jAd rfl,hy⟩
  exact s2 f hf
 head:=wBb (jAd rfl) fun f hf=>by
  rcases jBo.1 hf with rfl | hf
  .exact hc
  exact (yHa _ hh).2.2 f hf
theorem valG_ok{F:List zca}{bs:List (List UInt8)}(h:(valG F bs).Code=0):(voa F).Code=0/\∀b∈bs,bodC b=0:=by
 unfold valG at h;by_cases h0:(voa F).Code=0
 .refine ⟨h0,fun b hb=>?_⟩;rw[if_neg (by simpa using h0)]at h;cases hq:zZa itQ 0 bs with
  | some f=>
   rw[hq]at h;obtain ⟨i,x,_,h3⟩:=j2a hq;unfold itQ at h3;split at h3
   .rename_i h4;cases h3;have h5:bodC x=0:=h;rw[h5]at h4;cases h4
   cases h3
  | none=>
   obtain ⟨i,hi⟩:=List.mem_iff_getElem?.1 hb;have:=qUa.1 hq i b hi;unfold itQ at this;split at this
   .cases this
   rename_i h4;simpa using h4
 rw[if_pos (by simpa using h0)]at h;exact absurd h h0
theorem kIb(l:List zda)(h:W1a l)(x:Bool × zoa):iter (kza l (l,x)) 0=some (.inl ()):=by
 rw[qaa l (fun _ _=>(none:Option Bool)) (.inl ()) .inr]
 .rw[show zZa (fun _ _=>(none:Option Bool)) 0 l=none by rw[qUa];intro i x _;rfl];rfl
 .unfold kza;rw[kaa];rfl
 intro i m hx;have hi:=kfa hx;have:=h.1;unfold kza;dsimp only;rw[kSa hx,z3a hx];simp only[cond_true,jAb];rw[QUa _ (h.2 m (jAf hx)).1.1,sc i (by omega)];rfl
theorem jRa(a0:Str)(a1:List zda)(a2:Int)(a3:Str)(o0:jWa a0)(o1:okL zda.ok a1)(o2:ok64 a2)(o3:jWa a3)(hk:a0.length+1+bkL zda.bk a1+1+(a3.length+1)<=1048576):kDa a0 a1 a2 a3=some true:=by
 have hs:=yRb (l:=a1) (by omega);obtain ⟨r,hr,hM⟩:=Yya a0 a1 a2 (by omega) hs;have hbad:r.2.Code≠0->r.1.Fields=[]->kDa a0 a1 a2 a3=some true:=by
  intro h1 h2;unfold kDa;rw[hr,ZSa];simp only[jAb,jAx,cond_false,cond_true];rw[show (r.2.Code !=0)=true by simpa using h1,h2];rfl
 cases hM with
 | name h=>exact hbad (show (10:Int)≠0 by decide) rfl
 | chk h h2=>exact hbad h2 rfl
 | time h h2 h3=>exact hbad (show (3:Int)≠0 by decide) rfl
 | join h h2 w h3 n hn hu hsm hj=>
  by_cases hc:(QPa a0 w (Lib.decDigits a1.length) (a1.map zra) n).2.Code=0
  .obtain ⟨e,n1,n2,hm⟩:=ySb h2;rw[show ((QPa a0 w (Lib.decDigits a1.length) (a1.map zra) n).2.Code !=0)=false by simpa using hc]at hr;simp only[jAs,if_false]at hr;have hval:(valD a0 w (Lib.decDigits a1.length) (a1.map zra)).Code=0:=by
    by_cases hz:(valD a0 w (Lib.decDigits a1.length) (a1.map zra)).Code=0
    .exact hz
    unfold QPa at hc;rw[if_pos (by simpa using hz)]at hc;exact hc
   have hmsg:(msgF (Zka a0 w (Lib.decDigits a1.length) (a1.map zra) n)).Code=0:=by
    by_cases hz:(msgF (Zka a0 w (Lib.decDigits a1.length) (a1.map zra) n)).Code=0
    .exact hz
    unfold QPa at hc;rw[if_neg (by simpa using hval),if_pos (by simpa using hz)]at hc;exact absurd hc hz
   have hjm:(QPa a0 w (Lib.decDigits a1.length) (a1.map zra) n).1=Zka a0 w (Lib.decDigits a1.length) (a1.map zra) n:=by
    unfold QPa;rw[if_neg (by simpa using hval),if_neg (by simpa using hmsg)]
   rw[hjm]at hr;obtain ⟨hh,hbod⟩:=valG_ok hval;obtain ⟨l8,l1⟩:=zcb hn;have hne:bndD n≠ []:=by unfold bndD;simp
   have hw:=Yaa h3;have hd:=QOa (n:=a1.length) (by omega);have hhas:∀t∈(a1.map zra).map itT,hasL ([45,45]++bndD n) t=false:=jCn.1 hu |> fun q t ht=>by simpa using q t ht
   have read0:=KMa a1 (df0 (a:=a0) (w:=w) (d:=Lib.decDigits a1.length) (by omega) (by omega) (by omega) hh) (bndD n) hne l8 (zbb n) hs n1 n2 hm hhas hmsg hsm hbod;unfold kDa;rw[hr,ZSa];simp only[jAb,jAx,cond_false,bne_self_eq_false];rw[Yxa _ a3 [49] a2 hsm (by omega) (by decide)];simp only[jAb];by_cases ht:(Yba (Zka a0 w (Lib.decDigits a1.length) (a1.map zra) n) a3 [49] a2).2.Code=0
   .obtain ⟨x,hx,hv⟩:=q5b ht;rw[hx];simp only[beq_self_eq_true,cond_true,jAb];have hp:=QXa hv;have hcy:y0a ⟨rcv,stV a3 [49] x⟩=0:=hp.2.1 _ (by simp[stM]);have hcl:=(Wva hcy).2.1;have hsm2:ySa (stM (Zka a0 w (Lib.decDigits a1.length) (a1.map zra) n) a3 [49] x):=by
     obtain ⟨⟨s1,s2⟩,s3⟩:=hsm;refine ⟨⟨jBg hp.1 (by decide),fun f hf=>?_⟩,s3⟩;rcases jBo.1 hf with rfl | hf
     .exact ⟨jAd rfl,jBg hcl (by decide)⟩
     exact s2 f hf
    have read1:=KMa a1 (df1 (y:=stV a3 [49] x) (a:=a0) (w:=w) (d:=Lib.decDigits a1.length) (jBg hcl (by decide)) (by omega) (by omega) (by omega) hh hcy) (bndD n) hne l8 (zbb n) hs n1 n2 hm hhas hv hsm2 hbod;rw[show qTa ⟨(stM (Zka a0 w (Lib.decDigits a1.length) (a1.map zra) n) a3 [49] x).Fields,(stM (Zka a0 w (Lib.decDigits a1.length) (a1.map zra) n) a3 [49] x).Body⟩=some (a1,true,⟨0,0⟩) from read1];simp only[jAb,bne_self_eq_false,cond_false,jAx];rw[kIb a1 hs];rfl
   rw[show ((Yba (Zka a0 w (Lib.decDigits a1.length) (a1.map zra) n) a3 [49] a2).2.Code==0)=false by simpa using ht];simp only[cond_false,jAb];rw[show qTa ⟨(Zka a0 w (Lib.decDigits a1.length) (a1.map zra) n).Fields,(Zka a0 w (Lib.decDigits a1.length) (a1.map zra) n).Body⟩=some (a1,true,⟨0,0⟩) from read0];simp only[jAb,bne_self_eq_false,cond_false,jAx];rw[kIb a1 hs];rfl
  rw[show ((QPa a0 w (Lib.decDigits a1.length) (a1.map zra) n).2.Code !=0)=true by simpa using hc]at hr hbad;exact hbad hc rfl
section
section
variable {E:Env} {T:Tab} {fr:Fr} {σ:Sto} {k:KS} {ops:Array Oper} {l:List Oper} {V R:Type} {r:R} {A B:Option R} {t:Bool} {g:GS}
def isR:Exit->Bool
 | .normal=>true
 | .ret=>true
 | _=>false
theorem jrb{e:Exit}(h:isR e=true):isN e=true∨e=.ret:=by cases e <;> simp_all [isR,isN]
theorem jx(n:Nat){J:Type}{a j:J}(hr:some a=some j){frs:J->Fr}{stos:J->Sto}(hT:zOa E.P T:=by exact tk)(h:GS.run T E.N n g=some (.at .normal fr σ (.jo frs stos (fun z=>j=z) k)):=by exact rfl)(hf:(frs a).map fr.sel=frs a:=by exact rfl)(hs:(stos a).map σ.sel=(stos a).map (fun p=>some p.2):=by exact rfl):g.holds E:=
 rn hT n h (by cases hr;exact jn _ rfl hf hs)
theorem kx(n:Nat){a r:R}(hr:some a=some r){fn:Func}{rv:AV}{cs:List AV}{e:Exit}{hm:Mono (Kret E.P fn rv)}(hT:zOa E.P T:=by exact tk)(h:GS.run T E.N n g=some (.at e fr σ (.base (Kret E.P fn rv) hm)):=by exact rfl)(he:isR e=true:=by exact rfl)(hc:Qya T fr σ fn.results.toList=some cs:=by exact rfl)(hv:some a=some r->WAa cs=rv:=by (rintro ⟨⟩;exact rfl)):g.holds E:=
 rn hT n h (kr hT (jrb he) hc (hv hr))
theorem cx(n:Nat){A B:Type}{s:A}{x:Step A B}(hr:some (.cont s)=some x){frs:A->Fr}{stos:A->Sto}{O:B->Post}{hm:Mono (jva frs stos O x)}(hT:zOa E.P T:=by exact tk)(h:GS.run T E.N n g=some (.at .normal fr σ (.base (jva frs stos O x) hm)):=by exact rfl)(hf:(frs s).map fr.sel=frs s:=by exact rfl)(hs:(stos s).map σ.sel=(stos s).map (fun p=>some p.2):=by exact rfl):g.holds E:=
 rn hT n h (by cases hr;exact ⟨rfl,frw hf,stw hs⟩)
theorem ox(n:Nat){A B:Type}{b:B}{x:Step A B}(hr:some (.out b)=some x){e:Exit}{frs:A->Fr}{stos:A->Sto}{e0:B->Exit}{fr0:B->Fr}{σ0:B->Sto}{hm:Mono (jva frs stos (fun b=>At (e0 b) (fr0 b) (σ0 b)) x)}(hT:zOa E.P T:=by exact tk)(h:GS.run T E.N n g=some (.at e fr σ (.base (jva frs stos (fun b=>At (e0 b) (fr0 b) (σ0 b)) x) hm)):=by exact rfl)(he:e=e0 b:=by exact rfl)(hn:isN e=false:=by exact rfl)(hf:(fr0 b).map fr.sel=fr0 b:=by exact rfl)(hs:(σ0 b).map σ.sel=(σ0 b).map (fun p=>some p.2):=by exact rfl):g.holds E:=
 rn hT n h (by cases hr;exact ato he hn hf hs)
theorem sxx(n:Nat){a r:R}(hr:some a=some r){fn:Func}{rv w:AV}{σ1:Sto}{Tm:Array Value}{H:Nat}{cs:List AV}{e:Exit}{hm:Mono (zRb E.P fn rv w H Tm σ1)}(hT:zOa E.P T:=by exact tk)(h:GS.run T E.N n g=some (.at e fr σ (.base (zRb E.P fn rv w H Tm σ1) hm)):=by exact rfl)(he:isR e=true:=by exact rfl)(hc:Qya T fr σ fn.results.toList=some cs:=by exact rfl)(hv:some a=some r->WAa cs=rv:=by (rintro ⟨⟩;exact rfl))(hs:some a=some r->((H,.hold w (Tm.getD 0 undef))::σ1).map σ.sel=((H,.hold w (Tm.getD 0 undef))::σ1).map (fun p=>some p.2):=by (rintro ⟨⟩;exact rfl)):g.holds E:=
 rn hT n h (krS hT (jrb he) hc (hv hr) (stw (hs hr)))
theorem ax(n d:Nat){x y:Code}(hr:(bif t then A else B)=some r)(hA:A=some r->(GS.code x ((d,.pv (.b (.bool true)))::fr) σ k).holds E)(hB:B=some r->(GS.code y ((d,.pv (.b (.bool false)))::fr) σ k).holds E)(hT:zOa E.P T:=by exact tk)(h:GS.run T E.N n g=some (.code (.cond (.tmp d) x y) fr σ k):=by exact rfl)(hd:fr.get d=.pv (.b (.bool t)):=by exact rfl):g.holds E:=
 rn hT n h (ac d hr hd (fun _=>hA) (fun _=>hB))
theorem bx(n d:Nat)(hr:(bif t then A else B)=some r)(hA:t=true->A=some r->(GS.ops ops l ((d,.pv (.b (.bool true)))::fr) σ k).holds E)(hB:t=false->B=some r->(GS.ops ops l ((d,.pv (.b (.bool false)))::fr) σ k).holds E)(hT:zOa E.P T:=by exact tk)(h:GS.run T E.N n g=some (.ops ops l fr σ k):=by exact rfl)(hd:fr.get d=.pv (.b (.bool t)):=by exact rfl):g.holds E:=
 rn hT n h (bs d hr hd hA hB)
theorem clx(n:Nat){X:Option V}{F:V->Option R}(hr:X.bind F=some r){f:FuncId}{d:Nat}{xs:List Operand}{ats:Array TypeId}{args:List AV}{rv:V->AV}{ty:TypeId}{pos:String}{af:Array Edge}(hc:∀v,X=some v->Run E.P f args (rv v))(hq:∀v,X=some v->F v=some r->(GS.ops ops l ((d,rv v)::fr) σ k).holds E)(hT:zOa E.P T:=by exact tk)(h:GS.run T E.N n g=some (.ops ops (⟨some d,.call ⟨.value (.func f),xs.toArray,ats⟩,ty,pos,af,none⟩::l) fr σ k):=by exact rfl)(hN:Nat.ble (d+1) E.N=true:=by exact rfl)(ha:xs.map (fun x=>(fr.ev x).weak)=args:=by exact rfl):g.holds E:=by
 obtain ⟨v,h1,h2⟩:=zaa hr;exact rn hT n h (cl (hc v h1) hN ha (hq v h1 h2))
theorem csx(n:Nat){X:Option V}{F:V->Option R}(hr:X.bind F=some r){f:FuncId}{d O:Nat}{xs:List Operand}{ats:Array TypeId}{args:List AV}{rv:V->AV}{σ0:Sto}{σ1:V->Sto}{rows:List Nat}{ty:TypeId}{pos:String}{af:Array Edge}(hc:∀v,X=some v->RunS E.P f args σ0 (rv v) (σ1 v) O rows)(hq:∀v,X=some v->F v=some r->(GS.ops ops l ((d,rv v)::fr.clrs rows) (σ1 v++(σ.dels (O::rows)).clrs rows) k).holds E)(hT:zOa E.P T:=by exact tk)(h:GS.run T E.N n g=some (.ops ops (⟨some d,.call ⟨.value (.func f),xs.toArray,ats⟩,ty,pos,af,none⟩::l) fr σ k):=by exact rfl)(hN:Nat.ble (d+1) E.N=true:=by exact rfl)(ha:xs.map (fun x=>(fr.ev x).weak)=args:=by exact rfl)(hs:σ0.map σ.sel=σ0.map (fun p=>some p.2):=by exact rfl):g.holds E:=by
 obtain ⟨v,h1,h2⟩:=zaa hr;exact rn hT n h (wo (Vna (hc v h1) hN ha (stw hs)) rfl (hq v h1 h2))
theorem rfx{P:Program}{f:FuncId}{fn:Func}{c:Code}{args:List AV}{r:AV}(hf:P.funcs[f]? =some fn)
 (h:∀g0 (hg:Gl g0),(GS.code c (kwa 0 args) [] (.base (Kret P fn r) zFb)).holds ⟨P,none,g0,fn.ntmps,false,hg,fun _=>False,fun _ _ h=>h⟩)
 (hb : fn.body = some c := by exact rfl) (hn : (fn.name == "runtime.NumGoroutine") = false := by kernel_rfl) (hN : Nat.ble args.length fn.ntmps = true := by exact rfl) (hr : ∀ k, r.has k = false := by exact fun _ => rfl) : Run P f args r := rf ⟨hf, hb, hn⟩ hN hr h
end
end
section
def Fr.px(fr:Fr):List Nat->Option Fr
 | []=>some []
 | k::ks=>match (fr.get k).force with
  | some a=>(match Fr.px fr ks with | some r=>some ((k,a)::r) | none=>none)
  | none=>none
theorem Fr.px_ok{fr:Fr}:∀{ks:List Nat} {r:Fr},fr.px ks=some r->FrLe fr r/\r.map (fun p=>fr.get p.1)=r.map (·.2)
 | [],r,h=>by cases h;exact ⟨Qia,rfl⟩
 | k::ks,r,h=>by
  unfold Fr.px at h;split at h
  .rename_i a ha;split at h
   .rename_i r1 h1;cases h;obtain ⟨q1,q2⟩:=Fr.px_ok h1;refine ⟨Qja (AV.force_eq ha) q1,?_⟩;simp only[jCp,q2,AV.force_eq ha]
   cases h
  cases h
def Sto.px(σ:Sto):List Nat->Option Sto
 | []=>some []
 | k::ks=>match σ.get k with
  | some a=>(match Sto.px σ ks with | some r=>some ((k,a)::r) | none=>none)
  | none=>none
section
variable {E:Env} {T:Tab} {fr fr' :Fr} {σ σ' :Sto} {k:KS} {ops:Array Oper} {l:List Oper} {R:Type} {r:R} {g:GS}
theorem jq(n:Nat){J:Type}{X:Option J}{f:J->Option R}(hr:X.bind f=some r)(ks os:List Nat)(F:J->Fr)(S:J->Sto){x y:Code}(hx:∀j,X=some j->(GS.code x fr σ (.jo (fun j=>F j++fr') (fun j=>S j++σ') (fun z=>j=z) k)).holds E)(hy:∀j,f j=some r->(GS.code y (F j++fr') (S j++σ') k).holds E)
 (hT:zOa E.P T:=by exact tk) (h:GS.run T E.N n g=some (.code (.seq x y) fr σ k):=by exact rfl) (hf:fr.px ks=some fr' :=by exact rfl) (hs:σ.px os=some σ' :=by exact rfl):g.holds E:=
 rn hT n h (jb hr (fun j=>F j++fr') (fun j=>S j++σ') hx hy)
theorem jkq(n:Nat){J:Type}(ks os:List Nat)(F:J->Fr)(S:J->Sto)(M:J->Prop){x y:Code}(hx:(GS.code x fr σ (.jo (fun j=>F j++fr') (fun j=>S j++σ') M k)).holds E)(hy:∀j,M j->(GS.code y (F j++fr') (S j++σ') k).holds E)
 (hT:zOa E.P T:=by exact tk) (h:GS.run T E.N n g=some (.code (.seq x y) fr σ k):=by exact rfl) (hf:fr.px ks=some fr' :=by exact rfl) (hs:σ.px os=some σ' :=by exact rfl):g.holds E:=
 rn hT n h (jk (fun j=>F j++fr') (fun j=>S j++σ') M hx hy)
theorem ctq(n:Nat){J:Type}{X:Option J}{f:J->Option R}{o:Oper}(hr:X.bind f=some r)(ks os:List Nat)(F:J->Fr)(S:J->Sto)
 (hx:∀j,X=some j->(∀fr1 σ1,(F j++fr').map fr1.sel=F j++fr' ->(S j++σ').map σ1.sel=(S j++σ').map (fun p=>some p.2)->AWPL E ops l fr1 σ1 (k.post E))->(GS.ops ops (o::l) fr σ k).holds E) (hy:∀j,f j=some r->(GS.ops ops l (F j++fr') (S j++σ') k).holds E)
 (hT:zOa E.P T:=by exact tk) (h:GS.run T E.N n g=some (.ops ops (o::l) fr σ k):=by exact rfl) (hf:fr.px ks=some fr' :=by exact rfl) (hs:σ.px os=some σ' :=by exact rfl):g.holds E:=
 rn hT n h (ct hr (fun j=>F j++fr') (fun j=>S j++σ') hx hy)
theorem aq1(n:Nat){A B:Type}{c:Code}{body:A->Option (Step A B)}{s:A}{f:B->Option R}(hr:(iter body s).bind f=some r)(ks os:List Nat)(F:A->Fr)(S:A->Sto)(e0:Exit)(ks1 os1:List Nat)(F1:B->Fr)(S1:B->Sto){fr1:Fr}{σ1:Sto}
 (h:∀s x,body s=some x->(GS.code c (F s++fr') (S s++σ') (.base (jva (fun s=>F s++fr') (fun s=>S s++σ') (fun b=>At ((fun _=>e0) b) (F1 b++fr1) (S1 b++σ1)) x) jAa)).holds E)
 (hK:∀b,f b=some r->(GS.at e0 (F1 b++fr1) (S1 b++σ1) k).holds E)
 (hT:zOa E.P T:=by exact tk) (hg:GS.run T E.N n g=some (.code (.loop c) fr σ k):=by exact rfl) (h1:fr.px ks=some fr' :=by exact rfl) (h2:σ.px os=some σ' :=by exact rfl) (h3:fr.px ks1=some fr1:=by exact rfl) (h4:σ.px os1=some σ1:=by exact rfl) (hf:(F s++fr').map fr.sel=F s++fr' :=by exact rfl) (hs:(S s++σ').map σ.sel=(S s++σ').map (fun p=>some p.2):=by exact rfl):g.holds E:=
 rn hT n hg (al1 hr (fun s=>F s++fr') (fun s=>S s++σ') e0 (fun b=>F1 b++fr1) (fun b=>S1 b++σ1) hf hs h hK)
theorem aq2(n:Nat){A B C:Type}{c:Code}{body:A->Option (Step A (B ⊕ C))}{s:A}{f:B->Option R}{f2:C->Option R}(hr:(iter body s).bind (Sum.elim f f2)=some r)(ks os:List Nat)(F:A->Fr)(S:A->Sto)(e1:Exit)(ks1 os1:List Nat)(F1:B->Fr)(S1:B->Sto)(e2:Exit)(ks2 os2:List Nat)(F2:C->Fr)(S2:C->Sto){fr1 fr2:Fr}{σ1 σ2:Sto}
 (h:∀s x,body s=some x->(GS.code c (F s++fr') (S s++σ') (.base (jva (fun s=>F s++fr') (fun s=>S s++σ') (fun b=>At (Sum.elim (fun _=>e1) (fun _=>e2) b) (Sum.elim (fun b=>F1 b++fr1) (fun b=>F2 b++fr2) b) (Sum.elim (fun b=>S1 b++σ1) (fun b=>S2 b++σ2) b)) x) jAa)).holds E)
 (hK1:∀b,f b=some r->(GS.at e1 (F1 b++fr1) (S1 b++σ1) k).holds E) (hK2:∀b,f2 b=some r->(GS.at e2 (F2 b++fr2) (S2 b++σ2) k).holds E)
 (hT:zOa E.P T:=by exact tk) (hg:GS.run T E.N n g=some (.code (.loop c) fr σ k):=by exact rfl) (h1:fr.px ks=some fr' :=by exact rfl) (h2:σ.px os=some σ' :=by exact rfl) (h3:fr.px ks1=some fr1:=by exact rfl) (h4:σ.px os1=some σ1:=by exact rfl) (h5:fr.px ks2=some fr2:=by exact rfl) (h6:σ.px os2=some σ2:=by exact rfl) (hf:(F s++fr').map fr.sel=F s++fr' :=by exact rfl) (hs:(S s++σ').map σ.sel=(S s++σ').map (fun p=>some p.2):=by exact rfl):g.holds E:=
 rn hT n hg (al2 hr (fun s=>F s++fr') (fun s=>S s++σ') e1 (fun b=>F1 b++fr1) (fun b=>S1 b++σ1) e2 (fun b=>F2 b++fr2) (fun b=>S2 b++σ2) hf hs h hK1 hK2)
def fjoin(a b c:List AV):Option (List AV):=w5a (a++b++c)
theorem iq(n:Nat){d f:Nat}{fn:Func}{c:Code}{fx:Operand}{xs:List Operand}{ats:Array TypeId}{first cap args:List AV}{ty:TypeId}{pos:String}{af:Array Edge}(base:Nat)(ks:List Nat){keep:Fr}(hok:FnOk E.P f fn c)
 (h:∀(T:Array Value) (ds:List Deferred),(GS.code c (kwa 0 args) ((base+99999,.sus E.g0.w.heap.size ds)::(holds base T keep++σ)) (.base (InlK E ops l d fn base (base+99999) T ds (k.post E)) vob)).holds ⟨E.P,none,E.g0,fn.ntmps,true,E.gl,E.S,E.sg⟩)
 (hT:zOa E.P T:=by exact tk) (hg:GS.run T E.N n g=some (.ops ops (⟨some d,.call ⟨.value fx,xs.toArray,ats⟩,ty,pos,af,none⟩::l) fr σ k):=by exact rfl) (hf:fr.ev fx=.fn (.func f) first cap:=by exact rfl) (ha:fjoin first (xs.map fr.ev) cap=some args:=by exact rfl) (hN:(Nat.ble (d+1) E.N && Nat.ble args.length fn.ntmps)=true:=by exact rfl) (hk:fr.px ks=some keep:=by exact rfl):g.holds E:=
 rn hT n hg (il base (base+99999) keep hf hok hN (qya ha) (Fr.px_ok hk).2 h)
def Sto.held(base:Nat):Sto->Option Fr
 | []=>some []
 | (k,ob)::r=>match ob with
  | .hold v _=>(match (Nat.ble base k && Nat.ble (k+1) (base+99999)) with
   | true=>(match v.force,Sto.held base r with | some a,some f=>some ((k - base,a)::f) | _,_=>none)
   | false=>Sto.held base r)
  | _=>Sto.held base r
def Sto.less(base:Nat):Sto->Option Sto
 | []=>some []
 | (k,ob)::r=>match (Nat.ble base k && Nat.ble k (base+99999)) with
  | true=>Sto.less base r
  | false=>(match Sto.less base r with | some f=>some ((k,ob)::f) | none=>none)
theorem ieq{E' :Env}(n:Nat){fr2:Fr}{σ2:Sto}{cs:List AV}{d:Nat}{fn:Func}{base:Nat}{Tm:Array Value}{ds:List Deferred}{e:Exit}{hm:Mono (InlK E ops l d fn base (base+99999) Tm ds (k.post E))}
 (h:AWPL E ops l ((d,retI cs)::fr2) σ2 (k.post E)) (hT:zOa E'.P T:=by exact tk) (hg:GS.run T E'.N n g=some (.at e fr σ (.base (InlK E ops l d fn base (base+99999) Tm ds (k.post E)) hm)):=by exact rfl) (he:isR e=true:=by exact rfl) (hr:Qya T fr σ fn.results.toList=some cs:=by exact rfl) (h1:σ.held base=some fr2:=by exact rfl) (h2:σ.less base=some σ2:=by exact rfl)
 (hh:fr2.map (fun p=>σ.get (base+p.1))=fr2.map (fun p=>some (.hold p.2 (Tm.getD p.1 undef))):=by exact rfl) (hsu:σ.get (base+99999)=some (.sus E.g0.w.heap.size ds):=by exact rfl) (hle:σ2.map σ.sel=σ2.map (fun p=>some p.2):=by exact rfl) (hE:E.P=E'.P:=by exact rfl):g.holds E' :=
 rn hT n hg (ie (hE▸hT) cs fr2 σ2 (jrb he) hr hh hsu hle h)
def purL(l:List Oper)(cs:List (Option AV))(fr:Fr):Fr:=purF l cs (allT l)++fr
theorem mdq(n:Nat){id:Nat}(tl:List (Nat × AV))(ks:List Nat){frJ:Fr}{ss:List Sto}{σJ:Sto}{cs:List (Option AV)}(ht:Told E l cs fr (σ::ss) tl)(h:(GS.at .normal frJ σJ k).holds E)
 (hmix:E.P.follows .mixedOrders=true) (hT:zOa E.P T:=by exact tk) (hg:GS.run T E.N n g=some (.code (.region id l.toArray true) fr σ k):=by exact rfl) (hz:zrun T E.N tl l 0 fr σ=some (cs,ss,σJ):=by exact rfl)
 (hk:(zchk E.N tl l cs,(List.range ((hvL l cs).length+1)).map (fun k=>(purK l cs tl k).map (JQa T l cs fr (stoK σ ss k))),(List.range (hvL l cs).length).map (stoD T E.N l cs fr σ ss),stoK σ ss (hvL l cs).length)=(true,(List.range ((hvL l cs).length+1)).map (fun k=>(purK l cs tl k).map (Kpa cs)),(List.range (hvL l cs).length).map (fun k=>some (stoK σ ss (k+1))),σJ):=by kernel_rfl)
 (hf:(purL l cs fr).px ks=some frJ:=by exact rfl):g.holds E:=
 rn hT n hg (mc hT tl frJ hmix hz hk ht (Fr.px_ok hf).1 h)
end
end
section
variable {E:Env} {T:Tab} {fr FR:Fr} {σ:Sto} {k:KS} {l:List Oper} {cs:List AV} {kn:List (Nat × Bool)} {tl:List (Nat × AV)} {g:GS}
def kget:List (Nat × Bool)->Nat->Option Bool
 | [],_=>none
 | (d,b)::r,i=>bif Nat.beq d i then some b else kget r i
inductive kJb (FR:Fr):List (Nat × Bool)->Prop
 | nil:kJb FR []
 | cons {d:Nat} {b t:Bool} {r:List (Nat × Bool)} (hv:FR.get d=.pv (.b (.bool t))) (ht:t=b) (hr:kJb FR r):kJb FR ((d,b)::r)
theorem kJb.get(h:kJb FR kn){d:Nat}{b:Bool}(hk:kget kn d=some b):∃t,FR.get d=.pv (.b (.bool t))/\t=b:=by
 induction h with
 | nil=>cases hk
 | @cons e b' t r hv ht _ ih=>
  unfold kget at hk;cases hb:Nat.beq e d with
  | true=>rw[hb]at hk;cases hk;have:=jAi hb;subst this;exact ⟨t,hv,ht⟩
  | false=>rw[hb]at hk;exact ih hk
def gsee(l:List Oper)(kn:List (Nat × Bool))(FR:Fr)(o:Oper):Option Bool:=match o.guard with
 | none=>some true
 | some (j,want)=>(match (l[j]?).bind (·.dst) with
  | none=>none
  | some d=>(match kget kn d with
   | some b=>some (b==want)
   | none=>(match FR.get d with | .tup []=>some false | .pv (.b (.bool t))=>(match t,want with | true,w=>some w | false,w=>some (!w)) | _=>none)))
theorem q6b(hk:kJb FR kn){o:Oper}{b:Bool}(h:gsee l kn FR o=some b):(b=true->kHa l.toArray FR o)/\(b=false->jUa l.toArray FR o):=by
 unfold gsee at h;split at h
 .rename_i hg;cases h;exact ⟨fun _=>.plain hg,fun e=>by cases e⟩
 rename_i j want hg;split at h
 .cases h
 rename_i d hd;have hj:(l.toArray[j]?).bind (·.dst)=some d:=by simpa using hd
 split at h
 .rename_i b' hb;obtain ⟨t,hv,ht⟩:=hk.get hb;cases h;refine ⟨fun e=>.yes hg hj hv ?_,fun e=>.no hg hj hv ?_⟩
  .rw[ht];simpa using e
  rw[ht];cases b' <;> cases want <;> simp_all
 split at h
 .rename_i hv;cases h;exact ⟨fun e=>(by cases e),fun _=>.none hg hj hv⟩
 .rename_i t hv;split at h
  .cases h;exact ⟨fun e=>.yes hg hj hv e.symm,fun e=>.no hg hj hv (by rw[e];rfl)⟩
  cases h;exact ⟨fun e=>.yes hg hj hv (by cases want <;> simp_all),fun e=>.no hg hj hv (by cases want <;> simp_all)⟩
 cases h
def dval(T:Tab)(kn:List (Nat × Bool))(FR:Fr)(σ:Sto)(op:Op):Option AV:=match op with
 | .pick (.tmp d) x y=>(match kget kn d with | some true=>(FR.ev x).force | some false=>(FR.ev y).force | none=>qval T FR.ev σ op)
 | _=>qval T FR.ev σ op
theorem dval_ok(hT:zOa E.P T)(hk:kJb FR kn){o:Oper}{c:AV}(h:dval T kn FR σ o.op=some c):OpG E o FR σ c:=by
 obtain ⟨dst,op,ty,pos,af,gu⟩:=o;dsimp only at h;unfold dval at h;split at h
 .split at h
  .rename_i hb;obtain ⟨t,hv,ht⟩:=hk.get hb;rw[<-AV.force_eq h];exact qxa (Zna hv ht)
  .rename_i hb;obtain ⟨t,hv,ht⟩:=hk.get hb;rw[<-AV.force_eq h];exact qxa (Qla hv ht)
  exact qxa (Zwa hT h)
 exact qxa (Zwa hT h)
def drun(T:Tab)(l:List Oper)(kn:List (Nat × Bool))(σ:Sto)(tl:List (Nat × AV)):List Oper->Nat->Fr->Option (List AV)
 | [],_,_=>some []
 | o::r,i,fr=>match o.dst with
  | none=>none
  | some d=>(match (match gsee l kn fr o with
   | some true=>(match tget tl i with | some c=>some c | none=>dval T kn fr σ o.op)
   | some false=>some (.tup [])
   | none=>none) with
   | some c=>(match drun T l kn σ tl r (i+1) ((d,c)::fr) with | some cs=>some (c::cs) | none=>none)
   | none=>none)
def dchk(T:Tab)(l:List Oper)(kn:List (Nat × Bool))(FR:Fr)(σ:Sto)(tl:List (Nat × AV))(cs:List AV)(i:Nat):Option AV:=match l[i]? with
 | none=>none
 | some o=>(match gsee l kn FR o with
  | some true=>(match tget tl i with | some _=>cs[i]? | none=>dval T kn FR σ o.op)
  | some false=>some (.tup [])
  | none=>none)
inductive wCb (E:Env) (l:List Oper) (cs:List AV) (FR:Fr) (σ:Sto):List (Nat × AV)->Prop
 | nil:wCb E l cs FR σ []
 | cons {i:Nat} {c:AV} {o:Oper} {r:List (Nat × AV)} (ho:l[i]? =some o) (hc:cs[i]? =some c) (h:OpG E o FR σ c) (hr:wCb E l cs FR σ r):wCb E l cs FR σ ((i,c)::r)
theorem wCb.get(h:wCb E l cs FR σ tl){i:Nat}{c:AV}(hi:tget tl i=some c):∃o c,l[i]? =some o/\cs[i]? =some c/\OpG E o FR σ c:=by
 induction h with
 | nil=>cases hi
 | @cons k c o r ho hc h _ ih=>
  unfold tget at hi;cases hb:Nat.beq k i with
  | true=>have:=jAi hb;subst this;exact ⟨o,c,ho,hc,h⟩
  | false=>rw[hb]at hi;exact ih hi
theorem jsb:∀{l' :List Oper} {cs' :List AV},cs'.length=l'.length->(∀(i:Nat) o c,l'[i]? =some o->cs'[i]? =some c->(kHa l.toArray FR o/\OpG E o FR σ c)∨(jUa l.toArray FR o/\c=.tup []))->Pres E l.toArray FR σ l' cs'
 | [],[],_,_=>.nil
 | [],_::_,h,_=>by simp at h
 | _::_,[],h,_=>by simp at h
 | o::r,c::cs,hl,h=>by
  have ih:=jsb (l' :=r) (cs' :=cs) (by simpa using hl) fun i o c h1 h2=>h (i+1) o c (by simpa using h1) (by simpa using h2)
  rcases h 0 o c rfl rfl with ⟨h1,h2⟩ | ⟨h1,rfl⟩
  .exact .run h1 h2 ih
  exact .skip h1 ih
def vGb:Fr->Option Fr
 | []=>some []
 | (k,a)::r=>match a.force with
  | some a' =>(match vGb r with | some r' =>some ((k,a')::r') | none=>none)
  | none=>none
theorem kKb:∀{f f' :Fr},vGb f=some f' ->f=f'
 | [],_,h=>by cases h;rfl
 | (k,a)::r,f',h=>by
  unfold vGb at h;split at h
  .rename_i a' ha;split at h
   .rename_i r' hr;cases h;rw[AV.force_eq ha,kKb hr]
   cases h
  cases h
theorem dq(n:Nat){id:Nat}(m:Nat)(kn:List (Nat × Bool))(tl:List (Nat × AV)){new:Fr}(hf:kJb (new++fr) kn)(ht:wCb E l cs (new++fr) σ tl)(h:(GS.ops l.toArray (l.drop m) (new++fr) σ k).holds E)
 (hmix:E.P.follows .mixedOrders=true) (hT:zOa E.P T:=by exact tk) (hg:GS.run T E.N n g=some (.code (.region id l.toArray true) fr σ k):=by exact rfl) (hz:drun T l kn σ tl (l.take m) 0 fr=some cs:=by exact rfl) (hn:vGb (w3a (l.take m) cs [])=some new:=by exact rfl)
 (hk:(w6b l m && Nat.ble m l.length && ((l.take m).all fun o=>o.dst.all fun d=>Nat.ble (d+1) E.N) && Nat.beq cs.length m,(List.range m).map (dchk T l kn (new++fr) σ tl cs))=(true,(List.range m).map (cs[·]?)):=by kernel_rfl):g.holds E:=by
 have k1:=congrArg Prod.fst hk;have k2:=congrArg Prod.snd hk;simp only[jAk]at k1;obtain ⟨⟨⟨q1,q2⟩,q3⟩,q4⟩:=k1;have hlen:=jAi q4;have hm:=jAd q2;refine rn hT n hg (w7b m new hmix q1 q2 q3 (jsb (by simp;omega) fun i o c h1 h2=>?_) (kKb hn) h);have him:i < m:=by have:=(jAc.1 h1).1;simp at this;omega
 rw[jAt him]at h1;have e:=List.map_inj_left.1 k2 i (jCm.2 him);unfold dchk at e;rw[h1,h2]at e;dsimp only at e;split at e
 .rename_i hg;split at e
  .rename_i c' hc;obtain ⟨o',c'',e1,e2,e3⟩:=ht.get hc;rw[h1]at e1;rw[h2]at e2;cases e1;cases e2;exact .inl ⟨(q6b hf hg).1 rfl,e3⟩
  exact .inl ⟨(q6b hf hg).1 rfl,dval_ok hT hf e⟩
 .rename_i hg;cases e;exact .inr ⟨(q6b hf hg).2 rfl,rfl⟩
 cases e
end
theorem wDb(a0:List Int)(a1:List Int)(r:Bool)(hr:yEb a0 a1=some r):Run prog 25 [.l cI a0,.l cI a1] (.bo r):=by
 unfold yEb at hr;refine rfx (fn:=f25) func25 fun g0 hg=>?_
 refine rn tk 9 rfl<|wn tk rfl rfl rfl<|rn tk 1 rfl<|wn tk rfl rfl rfl ?_;refine ax 3 10 hr (fun hr=>?_) fun hr=>?_
 .exact kx 7 hr
 refine aq2 9 hr [0,1] [] (fun s2=>[(5,.i s2)]) (fun _=>[]) (.exit 0) [] [] (fun _=>[]) (fun _=>[]) .ret [] [] (fun b4=>[(4,.bo b4)]) (fun _=>[]) (fun s2 x6 hr=>?_) (fun b3 hr=>?_) (fun b4 hr=>?_)
 .unfold z5b at hr;refine rn tk 5 rfl<|wn tk rfl rfl rfl ?_;refine ax 3 14 hr (fun hr=>?_) fun hr=>?_
  .refine rn tk 5 rfl ?_;obtain ⟨v8,h9,hr⟩:=zaa hr;obtain ⟨v10,h11,hr⟩:=zaa hr;refine mdq 0 [(2,.ep [pI v8]),(6,.ep [pI v10])] [0,1,5,25] (.cons rfl rfl (t0 (qxa (Qna (f:=cI) rfl rfl JTa jCa rfl h9))) (.cons rfl rfl (t0 (qxa (Qna (f:=cI) rfl rfl JTa jCa rfl h11))) .nil)) ?_ mixed;refine ax 1 25 hr (fun hr=>?_) fun hr=>?_
   .exact ox 8 hr
   exact cx 8 hr
  exact ox 2 hr
 .exact kx 8 hr
 exact kx 2 hr
theorem zha(a0:zoa)(r:Bool)(hr:zma a0=some r):Run prog 30 [.agg [.i a0.Code,.i a0.Index]] (.bo r):=by
 unfold zma at hr;refine rfx (fn:=f30) func30 fun g0 hg=>?_
 exact kx 15 hr
theorem zga(a0:Int)(a1:Int)(r:zoa)(hr:zka a0 a1=some r):Run prog 28 [.i a0,.i a1] (.agg [.i r.Code,.i r.Index]):=by
 unfold zka at hr;refine rfx (fn:=f28) func28 fun g0 hg=>?_
 exact kx 14 hr
theorem zla(r:zoa)(hr:zza=some r):Run prog 35 [] (.agg [.i r.Code,.i r.Index]):=by
 unfold zza at hr;refine rfx (fn:=f35) func35 fun g0 hg=>?_
 exact kx 12 hr
theorem zlb(a0:Str)(r:Bool)(hr:ZEa a0=some r):Run prog 140 [.s a0] (.bo r):=by
 unfold ZEa at hr;refine rfx (fn:=Tryz.f140) func140 fun g0 hg=>?_
 refine jq 5 hr [] [] (fun j1=>[(2,.bo j1)]) (fun _=>[]) (fun j1 hr=>?_) (fun j1 hr=>?_)
 .refine bx 4 5 hr (fun c2 hr=>?_) fun c2 hr=>?_
  .refine bx 5 10 hr (fun c3 hr=>?_) fun c3 hr=>?_
   .refine rn tk 1 rfl<|ug rfl rfl rfl ?_;refine ctq 0 hr [10] [] (fun j4=>[(12,.bo j4)]) (fun _=>[]) (fun j4 hr jump4=>?_) (fun j4 hr=>?_)
    .refine iq 0 400000 [10] (fn:=f89) ⟨func89,rfl,by kernel_rfl⟩ fun T4 ds4=>?_
     refine aq2 14 hr [0,1,7] [499999,400010] (fun s5=>[(8,.i s5)]) (fun _=>[]) (.exit 0) [] [499999,400010] (fun _=>[]) (fun _=>[]) .ret [4] [499999,400010] (fun _=>[]) (fun _=>[]) (fun s5 x9 hr=>?_) (fun b6 hr=>?_) (fun b7 hr=>?_)
     .unfold w8a at hr;refine ax 6 9 hr (fun hr=>?_) fun hr=>?_
      .refine rn tk 15 rfl ?_;obtain ⟨v11,h12,hr⟩:=zaa hr;refine ws tk h12 rfl rfl rfl rfl ?_;refine iq 0 600000 [0,1,7,8] (fn:=f179) ⟨func179,rfl,by kernel_rfl⟩ fun T6 ds6=>?_
       refine jq 5 hr [] [699999,600000,600001,600007,600008,499999,400010] (fun j13=>[(2,.bo j13)]) (fun _=>[]) (fun j13 hr=>?_) (fun j13 hr=>?_)
       .refine bx 4 5 hr (fun c14 hr=>?_) fun c14 hr=>?_
        .refine bx 4 9 hr (fun c15 hr=>?_) fun c15 hr=>?_
         .exact jx 5 hr
         exact jx 5 hr
        exact jx 9 hr
       refine ieq 1 (hO ?_);refine ax 3 16 hr (fun hr=>?_) fun hr=>?_
       .exact ox 8 hr
       exact cx 7 hr
      exact ox 2 hr
     .refine ieq 8 ?_;cases hr;exact jump4 _ _ rfl rfl
     refine ieq 2 ?_;cases hr;exact jump4 _ _ rfl rfl
    exact jx 3 hr
   exact jx 5 hr
  exact jx 10 hr
 exact kx 1 hr
theorem vqa(a0:UInt8)(r:Bool)(hr:qMa a0=some r):Run prog 160 [.u8 a0] (.bo r):=by
 unfold qMa at hr;refine rfx (fn:=Tryz.f160) func160 fun g0 hg=>?_
 refine jq 5 hr [] [] (fun j1=>[(2,.bo j1)]) (fun _=>[]) (fun j1 hr=>?_) (fun j1 hr=>?_)
 .refine bx 4 5 hr (fun c2 hr=>?_) fun c2 hr=>?_
  .exact jx 5 hr
  exact jx 5 hr
 exact kx 1 hr
theorem YAa(a0:Str)(a1:Int)(r:Int)(hr:jGa a0 a1=some r):Run prog 142 [.s a0,.i a1] (.i r):=by
 unfold jGa at hr;refine rfx (fn:=f142) func142 fun g0 hg=>?_
 refine rn tk 14 rfl<|wq (vmb rfl rfl) rfl rfl rfl ?_;refine aq1 4 hr [0] [] (fun s1=>[(5,.i s1.1),(6,.i s1.2)]) (fun _=>[]) (.exit 0) [] [] (fun b2=>[(5,.i b2)]) (fun _=>[]) (fun s1 x3 hr=>?_) (fun b2 hr=>?_)
 .unfold yya at hr;refine ax 9 12 hr (fun hr=>?_) fun hr=>?_
  .refine jkq 2 [0,6] [] (fun j5=>[(5,.i j5)]) (fun _=>[]) (fun j5=>qNa s1 j5=some x3) ?_ ?_
   .refine jq 2 hr [0,5,6] [] (fun j6=>[(26,.bo j6)]) (fun _=>[]) (fun j6 hr=>?_) (fun j6 hr=>?_)
    .refine rn tk 3 rfl ?_;obtain ⟨v7,h8,hr⟩:=zaa hr;refine ws tk h8 rfl rfl rfl rfl ?_;refine clx 0 hr (vqa _) fun v9 _ hr=>?_
     refine bx 2 20 hr (fun c11 hr=>?_) fun c11 hr=>?_
     .exact jx 7 hr
     refine rn tk 3 rfl ?_;obtain ⟨v12,h13,hr⟩:=zaa hr;refine ug rfl rfl rfl<|ws tk h13 rfl rfl rfl rfl ?_;obtain ⟨v14,h15,hr⟩:=zaa hr;refine ug rfl rfl rfl<|cl (vqa _ _ h15) rfl rfl ?_;exact jx 2 hr
    refine ax 0 26 hr (fun hr=>?_) fun hr=>?_
    .refine rn tk 3 rfl<|jn s1.1 hr rfl rfl
    refine jq 3 hr [0,5,6] [] (fun j17=>[(32,.bo j17)]) (fun _=>[]) (fun j17 hr=>?_) (fun j17 hr=>?_)
    .refine bx 4 29 hr (fun c18 hr=>?_) fun c18 hr=>?_
     .exact jx 4 hr
     exact jx 4 hr
    refine ax 0 32 hr (fun hr=>?_) fun hr=>?_
    .exact ox 4 hr
    refine rn tk 7 rfl<|jn s1.2 hr rfl rfl
   intro j5 hr;unfold qNa at hr;exact cx 5 hr
  exact ox 2 hr
 exact kx 9 hr
end Go.Proofs.YtpphhgbmooofgaaGreatDoor
