/- Part 4 of the proof of the law DigestBatchesMatchSpec: what it needs. -/
import Derived.Test.YtpphhgbmooofgaaGreatDoorKDigestBatchesMatchSpec3
import Derived.Lib.ItoaMem
import Derived.Lib.Atoi
import Derived.Lib.SplitLaws
import Derived.Shelf.Strings.Builder1
import Derived.Shelf.Strings.Builder2
import Derived.Shelf.Strings.OnBuilder
import Derived.Shelf.Strings.Trim
import Derived.Shelf.Small.Utf8
import Derived.Shelf.Small.Bits
import Derived.Shelf.Small.Strs
import Derived.Shelf.Small.Wraps
import Derived.Shelf.Strings.BuilderF
import Derived.Shelf.Strconv.Atoi
import Derived.Shelf.Strconv.Itoa0
import Derived.Shelf.Strconv.Itoa1
import Derived.Shelf.LaysM
import Derived.Shelf.Strconv.Itoa2
import Derived.Shelf.Strconv.Itoa3
import Derived.Shelf.Strconv.AtoiErrFast
import Derived.Shelf.Strconv.ParseIntEmpty
import Derived.Shelf.Strconv.AtoiFail
import Derived.Shelf.Strconv.Clone
import Derived.Shelf.Strconv.SyntaxError
import Derived.Shelf.LaysC
import Derived.Shelf.Strconv.ToError
import Derived.Shelf.Strconv.AtoiErr
import Derived.Shelf.Strconv.ErrVar
import Derived.Shelf.Strings.Search1
import Derived.Shelf.Strings.Search2
import Derived.Shelf.Strings.Search3
import Derived.Shelf.Strings.Cut
import Derived.Shelf.Strings.Count
import Derived.Shelf.Strings.Shaped
import Derived.Shelf.Strings.Prefix
import Derived.Shelf.Strings.Split
import Derived.Shelf.Strings.Runes
import Derived.Shelf.Strings.IndexAny
import Derived.Shelf.Strings.AsciiSet
import Derived.Shelf.Strings.IndexAnyAll
import Derived.Shelf.Bits.Mul64
import Derived.Shelf.Strings.Repeat
import Derived.Shelf.Unicode.DecodeSlow
import Derived.Shelf.Unicode.DecodeAny
import Derived.Shelf.Bytes.SlIndexSmall
import Derived.Shelf.Bytes.SlIndexAt
import Derived.Shelf.Bytes.SlSearch0
import Derived.Shelf.Bytes.SlSearch1
import Derived.Shelf.Bytes.SlSearch2
import Derived.Shelf.Bytes.SlIndexWhole
import Derived.Shelf.Bytes.SlSmallAll
import Derived.Shelf.Bytes.SlEqualAll
import Derived.Shelf.Bytes.Small
import Derived.Shelf.Bytes.IndexByte
import Derived.Test.YtpphhgbmooofgaaGreatDoorProg
import Derived.Shelf.Strings.SlTrimAscii
set_option linter.unusedVariables false
set_option linter.unusedSimpArgs false
set_option maxRecDepth 100000
set_option maxHeartbeats 40000000
namespace Go.Proofs.YtpphhgbmooofgaaGreatDoor
open Go.RowKit Go.Proofs.Tryz
def Vua:Nat->List UInt8->Option Bool
 | _,[]=>none
 | c,[x]=>if x==13 || x==10 then some true else if 998 < c+1 then some false else none
 | c,x::y::r=>if x==13 && y==10 then Vua 0 r else if x==13 || x==10 then some true else if 998 < c+1 then some false else Vua (c+1) (y::r)
def Kha{O:Type}(e:Bool->O)(c i:Nat)(x:UInt8)(r:List UInt8):Step (Int × Int) (Unit ⊕ O):=
 if x==13 && r.head? ==some 10 then .cont (0,((i+2:Nat):Int)) else if x==13 || x==10 then .out (.inr (e true)) else if 998 < c+1 then .out (.inr (e false)) else .cont (((c+1:Nat):Int),((i+1:Nat):Int))
theorem YDa{O:Type}(e:Bool->O)(l:List UInt8){body:Int × Int->Option (Step (Int × Int) (Unit ⊕ O))}
 (h0:∀c,body (c,(l.length:Int))=some (.out (.inl ())))
 (hs:∀(c:Nat) (p:List UInt8) x r,l=p++x::r->c<=998->body ((c:Int),(p.length:Int))=some (Kha e c p.length x r)):
 ∀(n:Nat) (r p:List UInt8) (c:Nat),r.length<=n->l=p++r->c<=998->iter body ((c:Int),(p.length:Int))=some ((Vua c r).elim (.inl ()) fun b=>.inr (e b)):=by
 intro n;induction n with
 | zero=>
  intro r p c hr hl hc;obtain rfl:r=[]:=List.length_eq_zero_iff.1 (by omega);have:p=l:=by simp[hl]
  subst this;exact kha (h0 _)
 | succ n ih=>
  intro r p c hr hl hc
  match r,hr,hl with
  | [],_,hl=>
   have:p=l:=by simp[hl]
   subst this;exact kha (h0 _)
  | [x],hr,hl=>
   have hb:=hs c p x [] hl hc;unfold Kha at hb;have e1:(x==13 && ([]:List UInt8).head? ==some 10)=false:=by simp
   rw[e1]at hb;simp only[jBc,if_false]at hb;unfold Vua;cases hx:(x==13 || x==10) with
   | true=>rw[hx]at hb;exact kha hb
   | false=>
    rw[hx]at hb;simp only[jBc,if_false]at hb ⊢;by_cases h9:998 < c+1
    .rw[if_pos h9]at hb ⊢;exact kha hb
    rw[if_neg h9]at hb ⊢;rw[qZa hb];have:=ih [] (p++ [x]) (c+1) (by simp) (by simp[hl]) (by omega);rw[jCp]at this;exact this
  | x::y::r,hr,hl=>
   have hb:=hs c p x (y::r) hl hc;unfold Kha at hb;have e1:((y::r).head? ==some (10:UInt8))=(y==10):=by simp
   rw[e1]at hb;unfold Vua;cases hxy:(x==13 && y==10) with
   | true=>
    rw[hxy]at hb;simp only[if_true]at hb ⊢;rw[qZa hb];have:=ih r (p++ [x,y]) 0 (by simp at hr;omega) (by simp[hl]) (by omega);rw[jCp]at this;exact this
   | false=>
    rw[hxy]at hb;simp only[jBc,if_false]at hb ⊢;cases hx:(x==13 || x==10) with
    | true=>rw[hx]at hb;exact kha hb
    | false=>
     rw[hx]at hb;simp only[jBc,if_false]at hb ⊢;by_cases h9:998 < c+1
     .rw[if_pos h9]at hb ⊢;exact kha hb
     rw[if_neg h9]at hb ⊢;rw[qZa hb];have:=ih (y::r) (p++ [x]) (c+1) (by simp at hr ⊢;omega) (by simp[hl]) (by omega);rw[jCp]at this;exact this
theorem qeb{l p r:List UInt8}{x:UInt8}(h:l=p++x::r)(hl:l.length<=1048576):(bif decide (((p.length+1:Nat):Int) < (l.length:Int)) then (idx l ((p.length+1:Nat):Int)).bind fun v13=>some (((v13.toNat:Int)==10)) else some false)=some (r.head? ==some 10):=by
 subst h;simp at hl;cases r with
 | nil=>
  have:decide (((p.length+1:Nat):Int) < ((p++ [x]).length:Int))=false:=by simp
  rw[this];rfl
 | cons y r=>
  have:decide (((p.length+1:Nat):Int) < ((p++x::y::r).length:Int))=true:=by simp;omega
  rw[this,WGa];have:(p++x::y::r)[p.length+1]? =some y:=by simp[jAk]
  rw[this];simp only[cond_true,jAc,Kca y 10 (by decide)];simp
theorem WOa(l:List UInt8)(hl:l.length<=1048576):vqa l=some ((Vua 0 l).elim 0 fun b=>bif b then 11 else 1):=by
 unfold vqa;have:=YDa (fun b:Bool=>bif b then (11:Int) else 1) l (body:=qza l) (fun c=>by unfold qza;rw[qha];rfl) (fun c p x r h hc=>by
  have hx:l[p.length]? =some x:=by simp[h]
  have hi:=kRa hx;unfold qza q5a Kha;dsimp only;rw[via hx,k1a hx];simp only[cond_true,jAc,Kca x 13 (by decide),Kca x 10 (by decide),sc p.length (by omega),sc (p.length+1) (by omega),sc c (by omega)];rw[qeb h hl];have h9:decide ((998:Int) < ((c+1:Nat):Int))=decide (998 < c+1):=by rw[jBj];simp;omega
  rw[h9];by_cases h98:998 < c+1 <;> simp only[h98,decide_true,decide_false,if_true,if_false] <;> cases x==13 <;> cases x==10 <;> cases r.head? ==some 10 <;> rfl) l.length l [] 0 (jAs _) rfl (by omega)
 have h2:iter (qza l) (0,0)=_:=this;rw[h2];cases Vua 0 l with
 | none=>rfl
 | some b=>cases b <;> rfl
def bodyF(l:List UInt8):zma:=(Vua 0 l).elim ⟨0,0⟩ fun b=>bif b then ⟨11, -5⟩ else ⟨1, -6⟩
theorem Q8a(l:List UInt8)(hl:l.length<=1048576):vMa l=some (bodyF l):=by
 unfold vMa bodyF;rw[WOa l hl];cases Vua 0 l with
 | none=>rfl
 | some b=>cases b <;> rfl
def msgF(m:zda):zma:=if (jNa m.Fields).Code !=0 then jNa m.Fields else if 12000 < (kda m).length then ⟨1, -4⟩ else bodyF m.Body
def YEa(m:zda):Prop:=smallF m.Fields/\m.Body.length<=1048576
theorem wxa(m:zda)(h:YEa m):zKa m=some (msgF m):=by
 obtain ⟨h1,h2⟩:=h;unfold zKa msgF;rw[Kga _ h1];simp only[jAc,qta,kka,Q8a _ h2];cases hc:(jNa m.Fields).Code !=0 with
 | true=>rfl
 | false=>
  obtain ⟨q1,q2,q3⟩:=jKa m.Fields (by simpa using hc);rw[yHa m h2 (by omega) q3];simp only[jAc,cond_false,jBc,if_false];have:decide ((12000:Int) < ((kda m).length:Int))=decide (12000 < (kda m).length):=by generalize (kda m).length=n;rw[jBj];simp;omega
  rw[this];by_cases hb:12000 < (kda m).length <;> simp[hb]
theorem KRa(m:zda)(h:YEa m):qba m=some (msgF m):=by
 obtain ⟨⟨h1,h3⟩,h2⟩:=h;unfold qba msgF;rw[qda m.Fields jia (.inl ()) .inr]
 .have hbl:iter (kna m) (0,0)=_:=YDa (fun b:Bool=>bif b then (⟨11, -5⟩:zma) else ⟨1, -6⟩) m.Body (body:=kna m) (fun c=>by unfold kna;rw[qha];rfl) (fun c p x r h hc=>by
   have hx:m.Body[p.length]? =some x:=by simp[h]
   have hi:=kRa hx;unfold kna kLa Kha;dsimp only;rw[via hx,k1a hx];simp only[cond_true,jAc,Kca x 13 (by decide),Kca x 10 (by decide),sc p.length (by omega),sc (p.length+1) (by omega),sc c (by omega),KOa];rw[qeb h h2];have h9:decide ((998:Int) < ((c+1:Nat):Int))=decide (998 < c+1):=by rw[jBj];simp;omega
   rw[h9];by_cases h98:998 < c+1 <;> simp only[h98,decide_true,decide_false,if_true,if_false] <;> cases x==13 <;> cases x==10 <;> cases r.head? ==some 10 <;> rfl) m.Body.length m.Body [] 0 (jAs _) rfl (by omega)
  rw[hbl,dec60f];simp only[jAc,KOa];by_cases h6:60 < m.Fields.length
  .have:jNa m.Fields=⟨2, -1⟩:=by unfold jNa;rw[if_pos h6]
   rw[this];simp[h6]
  simp only[h6,decide_false,cond_false];have hh:jNa m.Fields=(kfa jia 0 m.Fields).getD ⟨0,0⟩:=by unfold jNa;rw[if_neg h6]
  cases hq:kfa jia 0 m.Fields with
  | some y=>
   rw[hq]at hh;have hc:((jNa m.Fields).Code !=0)=true:=by
    cases hc:(jNa m.Fields).Code !=0 with
    | true=>rfl
    | false=>
     obtain ⟨_,q2,_⟩:=jKa m.Fields (by simpa using hc);rw[hq]at q2;cases q2
   rw[hc,hh];rfl
  | none=>
   rw[hq]at hh;have hz:jNa m.Fields=⟨0,0⟩:=hh;obtain ⟨q1,q2,q3⟩:=jKa m.Fields (by rw[hz]);rw[yna m h2 (by omega) q3,hz];simp only[jAc,Option.elim_none,Sum.elim_inl];have hbb:m.Body.length<=(kda m).length:=by unfold kda;simp;omega
   have e2:(bif decide ((12000:Int) < (m.Body.length:Int)) then some true else some (decide ((12000:Int) < ((kda m).length:Int))))=some (decide (12000 < (kda m).length)):=by
    generalize (kda m).length=n at *;by_cases hx:12000 < m.Body.length
    .have e3:decide ((12000:Int) < (m.Body.length:Int))=true:=by rw[decide_eq_true_eq];omega
     have e4:decide (12000 < n)=true:=by rw[decide_eq_true_eq];omega
     rw[e3,e4];rfl
    have e3:decide ((12000:Int) < (m.Body.length:Int))=false:=by rw[decide_eq_false_iff_not];omega
    rw[e3];simp only[cond_false,Option.some.injEq];rw[jBj];simp;omega
   rw[e2];simp only[jAc];unfold bodyF;by_cases hb:12000 < (kda m).length
   .simp[hb]
   simp only[hb,decide_false,cond_false,if_false];cases Vua 0 m.Body <;> rfl
 .unfold qAa;rw[qha];rfl
 intro i f hf;have hi:=kRa hf;obtain ⟨hn,hv⟩:=h3 f (jAg hf);unfold qAa jia;rw[via hf,k1a hf];simp only[cond_true,jAc,Vta _ hn hv,KOa,sc i (by omega)];cases ZBa f !=0 <;> rfl
instance:DecidableEq zqa:=fun a b=>decidable_of_iff (a.Address=b.Address/\a.Notify=b.Notify) (by cases a;cases b;simp)
instance:DecidableEq zma:=fun a b=>decidable_of_iff (a.Code=b.Code/\a.Index=b.Index) (by cases a;cases b;simp)
instance:DecidableEq qna:=fun a b=>decidable_of_iff (a.From=b.From/\a.To=b.To/\a.Id=b.Id) (by cases a;cases b;simp)
def Q9a(s:Str)(r:zqa):Bool:=r.Address==s
def JLa(out:List zqa)(s:Str):Bool:=out.any (Q9a s)
def putR(out:List zqa)(r:zqa):List zqa:=if JLa out r.Address then out.map (fun x=>if Q9a r.Address x then ⟨x.Address,iOr x.Notify r.Notify⟩ else x) else out++ [r]
def posA(out:List zqa)(s:Str):Option Nat:=out.findIdx? (Q9a s)
theorem posA_has(out:List zqa)(s:Str):(posA out s).isSome=JLa out s:=by unfold posA JLa;exact List.findIdx?_isSome
theorem posA_app(out:List zqa)(r:zqa)(s:Str)(h:JLa out r.Address=false):posA (out++ [r]) s=if r.Address==s then some out.length else posA out s:=by
 unfold posA;rw[List.findIdx?_append];by_cases hs:(r.Address==s)=true
 .rw[if_pos hs];have e:r.Address=s:=beq_iff_eq.1 hs;subst e;have:out.findIdx? (Q9a r.Address)=none:=by
   have:=posA_has out r.Address;rw[h]at this;unfold posA at this;simpa using this
  rw[this];simp[Q9a]
 rw[if_neg hs];have:Q9a s r=false:=by unfold Q9a;simpa using hs
 simp[List.findIdx?_cons,this]
theorem posA_map(out:List zqa)(f:zqa->zqa)(hf:∀x,(f x).Address=x.Address)(s:Str):posA (out.map f) s=posA out s:=by
 unfold posA;rw[List.findIdx?_map]
 congr 1
 funext x;simp[Function.comp,Q9a,hf]
structure MInv (i:Nat) (out:List zqa) (m:List (Str × Int)):Prop where
 len:out.length<=i
 nd:(out.map (·.Address)).Nodup
 mp:∀s,mget m s=(posA out s).map fun k=>((k:Nat):Int)
theorem MInv.put{i:Nat}{out:List zqa}{m:List (Str × Int)}(h:MInv i out m)(r:zqa):MInv (i+1) (putR out r) (if JLa out r.Address then m else mput m r.Address (out.length:Int)):=by
 unfold putR;cases hh:JLa out r.Address with
 | true=>
  simp only[if_true];have hf:∀x:zqa,(if Q9a r.Address x then (⟨x.Address,iOr x.Notify r.Notify⟩:zqa) else x).Address=x.Address:=by intro x;split <;> rfl
  refine ⟨by simp;have:=h.len;omega,?_,fun s=>?_⟩
  .rw[List.map_map,show ((·.Address) ∘ fun x:zqa=>if Q9a r.Address x then (⟨x.Address,iOr x.Notify r.Notify⟩:zqa) else x)=(·.Address) from funext hf];exact h.nd
  rw[posA_map _ _ hf];exact h.mp s
 | false=>
  simp only[jBc,if_false];refine ⟨by simp;exact h.len,?_,fun s=>?_⟩
  .rw[List.map_append,List.nodup_append];refine ⟨h.nd,by simp,?_⟩;intro a ha b hb;simp at hb;subst hb;rintro rfl;obtain ⟨x,hx,hxe⟩:=jBo.1 ha;unfold JLa at hh;rw[List.any_eq_false]at hh;exact hh x hx (by simp[Q9a,hxe])
  rw[zVb,posA_app _ _ _ hh,h.mp s];by_cases hs:(r.Address==s)=true
  .rw[if_pos hs,if_pos hs];rfl
  rw[if_neg hs,if_neg hs]
theorem qfb{m:zda}(h:zda.bk m<=1048576):YEa m:=by
 unfold zda.bk at h;have h1:=JEa (bk:=zca.bk) (fun x=>by unfold zca.bk;omega) m.Fields;have h2:=JEa (bk:=fun _:UInt8=>1) (fun x=>by simp) m.Body;refine ⟨⟨by omega,fun f hf=>?_⟩,by omega⟩;have h5:=k4b (bk:=zca.bk) hf;have h6:zca.bk f=f.Name.length+1+(f.Value.length+1)+1:=rfl;omega
def chkQ(i:Nat)(m:zda):Option zma:=if (msgF m).Code !=0 then some ⟨(msgF m).Code,i⟩ else none
def chkF(l:List zda):zma:=if l.length < 1∨20 < l.length then ⟨2, -20⟩ else (kfa chkQ 0 l).getD ⟨0,0⟩
def YFa(l:List zda):Prop:=l.length<=1048576/\∀m∈l,YEa m
theorem qgb{l:List zda}(h:bkL zda.bk l<=1048576):YFa l:=by
 have h1:=JEa (bk:=zda.bk) (fun x=>by unfold zda.bk;omega) l;refine ⟨by omega,fun m hm=>qfb ?_⟩;have:=k4b (bk:=zda.bk) hm;omega
theorem Vaa(l:List zda)(h:YFa l):qVa l=some (chkF l):=by
 obtain ⟨h1,h2⟩:=h;unfold qVa chkF;rw[qda l chkQ (.inl ()) .inr]
 .have e:(bif decide ((l.length:Int) < 1) then some true else some (decide ((20:Int) < (l.length:Int))))=some (decide (l.length < 1∨20 < l.length)):=by
   generalize l.length=n;by_cases h3:n < 1
   .have h4:(n:Int) < 1:=by omega
    simp[h3,h4]
   have h4:¬(n:Int) < 1:=by omega
   have h5:decide ((20:Int) < (n:Int))=decide (n < 1∨20 < n):=by rw[jBj];simp;omega
   rw[h5];simp[h4]
  rw[e];simp only[jAc,kka,vba,KPa];by_cases h6:l.length < 1∨20 < l.length
  .rw[if_pos h6,decide_eq_true h6];rfl
  rw[if_neg h6,decide_eq_false h6];rfl
 .unfold q8a;rw[qha];rfl
 intro i m hm;have hi:=kRa hm;unfold q8a chkQ;rw[via hm,k1a hm];simp only[cond_true,jAc,wxa _ (h2 m (jAg hm)),qta,kka,sc i (by omega)];cases (msgF m).Code !=0 <;> rfl
theorem ZCa(l:List zda)(h:YFa l):k8a l=some (chkF l):=by
 obtain ⟨h1,h2⟩:=h;unfold k8a chkF;rw[qda l chkQ (.inl ()) .inr,WIa]
 .simp only[jAc,KOa,KPa];have e:(!(decide ((1:Int)<=(l.length:Int)) && decide ((l.length:Int)<=20)))=decide (l.length < 1∨20 < l.length):=by
   generalize l.length=n;rw[jBj];simp;omega
  rw[e];by_cases h6:l.length < 1∨20 < l.length
  .rw[if_pos h6,decide_eq_true h6];rfl
  rw[if_neg h6,decide_eq_false h6];rfl
 .unfold k0a;rw[qha];rfl
 intro i m hm;have hi:=kRa hm;unfold k0a chkQ;rw[via hm,k1a hm];simp only[cond_true,jAc,KRa _ (h2 m (jAg hm)),KOa,sc i (by omega)];cases (msgF m).Code !=0 <;> rfl
theorem chkF_ok{l:List zda}(h:(chkF l).Code=0):chkF l=⟨0,0⟩/\1<=l.length/\l.length<=20/\∀m∈l,(msgF m).Code=0:=by
 unfold chkF at h ⊢;split at h
 .cases h
 rename_i h0;rw[if_neg h0];cases hq:kfa chkQ 0 l with
 | some f=>
  rw[hq]at h;obtain ⟨i,m,_,h3⟩:=Q5a hq;unfold chkQ at h3;split at h3
  .rename_i h4;cases h3;have h5:(msgF m).Code=0:=h;rw[h5]at h4;cases h4
  cases h3
 | none=>
  refine ⟨rfl,by omega,by omega,fun m hm=>?_⟩;obtain ⟨i,hi⟩:=List.mem_iff_getElem?.1 hm;have:=ZAa.1 hq i m hi;unfold chkQ at this;split at this
  .cases this
  rename_i h4;simpa using h4
theorem VYa{m:zda}(hm:(msgF m).Code=0)(h2:YEa m):kZa m=some (kda m,⟨0,0⟩)/\kCa m=some (kda m)/\(kda m).length<=12000/\2<=(kda m).length:=by
 have hh:(jNa m.Fields).Code=0:=by
  unfold msgF at hm;by_cases hz:(jNa m.Fields).Code=0
  .exact hz
  rw[if_pos (by simpa using hz)]at hm;exact hm
 obtain ⟨q1,q2,q3⟩:=jKa _ hh;refine ⟨?_,yna m h2.2 (by omega) q3,?_,by unfold kda;simp;omega⟩
 .unfold kZa;rw[wxa _ h2];simp only[jAc,qta,vba,hm,yHa m h2.2 (by omega) q3];rfl
 unfold msgF at hm;rw[if_neg (by simpa using hh)]at hm;split at hm
 .cases hm
 omega
def add1(o:List Str)(x:Str):List Str:=if o.contains x then o else o++ [x]
def VZa(o xs:List Str):List Str:=xs.foldl add1 o
theorem add1_mem(o:List Str)(x y:Str):y∈add1 o x↔y∈o∨y=x:=by
 unfold add1;split
 .rename_i h;simp at h;constructor
  .exact .inl
  rintro (h1 | rfl)
  .exact h1
  exact h
 simp
theorem JMa(o:List Str)(x:Str):o <+:add1 o x:=by
 unfold add1;split
 .exact List.prefix_refl _
 exact List.prefix_append _ _
theorem zZb{o:List Str}(h:o.Nodup)(x:Str):(add1 o x).Nodup:=by
 unfold add1;split
 .exact h
 rename_i hx;simp at hx;rw[List.nodup_append];exact ⟨h,by simp,fun a ha b hb hab=>by simp at hb;subst hb;subst hab;exact hx ha⟩
theorem z0b(xs:List Str):∀(o:List Str) (y:Str),y∈VZa o xs↔y∈o∨y∈xs:=by
 induction xs with
 | nil=>intro o y;simp[VZa]
 | cons x xs ih=>intro o y;show y∈VZa (add1 o x) xs↔_;rw[ih,add1_mem];simp[or_assoc]
theorem WPa(xs:List Str):∀o:List Str,o <+:VZa o xs:=by
 induction xs with
 | nil=>intro o;exact List.prefix_refl _
 | cons x xs ih=>intro o;exact (JMa o x).trans (ih _)
theorem YGa(xs:List Str):∀{o:List Str},o.Nodup->(VZa o xs).Nodup:=by
 induction xs with
 | nil=>intro o h;exact h
 | cons x xs ih=>intro o h;exact ih (zZb h x)
theorem nodup_le{l m:List Str}(hl:l.Nodup)(h:∀x∈l,x∈m):l.length<=m.length:=by
 induction l generalizing m with
 | nil=>simp
 | cons x l ih=>
  have hx:x∈m:=h x (by simp);obtain ⟨hxl,hl'⟩:=List.nodup_cons.1 hl;have:=ih (m:=m.erase x) hl' (fun y hy=>by
   have hne:y≠x:=by rintro rfl;exact hxl hy
   exact (List.mem_erase_of_ne hne).2 (h y (by simp[hy])))
  rw[List.length_erase_of_mem hx]at this;have:0 < m.length:=List.length_pos_of_mem hx;simp;omega
def tgtO(l:List wKa)(s:Str):Option (List Str):=(l.find? (fun a=>a.Address==s)).map (·.To)
def tgt(l:List wKa)(s:Str):List Str:=(tgtO l s).getD []
def univ(l:List wKa)(from_:List Str):List Str:=from_++l.flatMap (·.To)
theorem tgt_sub(l:List wKa)(s x:Str)(h:x∈tgt l s):∃a∈l,a.Address=s/\x∈a.To:=by
 unfold tgt tgtO at h;cases hf:l.find? (fun a=>a.Address==s) with
 | none=>rw[hf]at h;simp at h
 | some a=>
  rw[hf]at h;have:=List.find?_some hf;exact ⟨a,List.mem_of_find?_eq_some hf,by simpa using this,by simpa using h⟩
structure Inv (l:List wKa) (U:List Str) (k:Nat) (out:List Str):Prop where
 nd:out.Nodup
 sub:∀x∈out,x∈U
 le:k<=out.length
theorem Inv.len{l:List wKa}{U:List Str}{k:Nat}{out:List Str}(h:Inv l U k out):out.length<=U.length:=nodup_le h.nd h.sub
theorem Inv.step{l:List wKa}{from_:List Str}{k:Nat}{out:List Str}(h:Inv l (univ l from_) k out){s:Str}(hs:out[k]? =some s):Inv l (univ l from_) (k+1) (VZa out (tgt l s)):=by
 refine ⟨YGa _ h.nd,fun x hx=>?_,?_⟩
 .rcases (z0b _ _ _).1 hx with h1 | h1
  .exact h.sub x h1
  obtain ⟨a,ha,_,hxa⟩:=tgt_sub l s x h1;exact List.mem_append.2 (.inr (List.mem_flatMap.2 ⟨a,ha,hxa⟩))
 have:=(WPa (tgt l s) out).length_le;have:=kRa hs;omega
instance:DecidableEq zca:=fun a b=>decidable_of_iff (a.Name=b.Name/\a.Value=b.Value) (by cases a;cases b;simp)
instance:DecidableEq zda:=fun a b=>decidable_of_iff (a.Fields=b.Fields/\a.Body=b.Body) (by cases a;cases b;simp)
instance:DecidableEq Q1a:=fun a b=>decidable_of_iff (a.Envelope=b.Envelope/\a.Message=b.Message) (by cases a;cases b;simp)
instance:DecidableEq (Step (Int × List Str) (List Str)):=fun a b=>match a,b with
 | .cont x,.cont y=>decidable_of_iff (x=y) (by simp)
 | .out x,.out y=>decidable_of_iff (x=y) (by simp)
 | .cont x,.out y=>isFalse (by simp)
 | .out x,.cont y=>isFalse (by simp)
def rlnC(c:UInt8):Bool:=c==13 || c==10
def digC(c:UInt8):Bool:=decide (48<=c) && decide (c<=57)
def num3(a b c:UInt8):Nat:=((a.toNat - 48) * 10+(b.toNat - 48)) * 10+(c.toNat - 48)
def rdQ:Str->Option Nat
 | a::b::c::d::r=>if (d==45 || d==32) && (digC a && digC b && digC c) && !((a::b::c::d::r).any rlnC) && (decide (200<=num3 a b c) && decide (num3 a b c<=599)) then some (num3 a b c) else none
 | _=>none
abbrev PR:=K9a × Int × zma
def parP:List Str->Nat->List Str->Int->Option PR
 | [],_,_,_=>none
 | s::r,i,acc,prev=>
  if i=20 then some (⟨0,[]⟩,0,⟨2,i⟩)
  else match rdQ s with
   | none=>some (⟨0,[]⟩,0,⟨11,i⟩)
   | some n=>
    if 504 < s.length then some (⟨0,[]⟩,0,⟨1,i⟩)
    else if 0 < i/\(n:Int)≠prev then some (⟨0,[]⟩,0,⟨5,i⟩)
    else if s[3]? =some 32 then some (⟨n,acc++ [s.drop 4]⟩,((i+1:Nat):Int),⟨0,0⟩)
    else parP r (i+1) (acc++ [s.drop 4]) n
def parseP(l:List Str):PR:=if 300 < l.length then (⟨0,[]⟩,0,⟨2, -1⟩) else (parP l 0 [] 0).getD (⟨0,[]⟩,0,⟨9, -2⟩)
def fl:List UInt8->List UInt8->List Str × List UInt8
 | cur,[]=>([],cur)
 | cur,[c]=>([],cur++ [c])
 | cur,c::d::r=>if c=13/\d=10 then (cur::(fl [] r).1,(fl [] r).2) else fl (cur++ [c]) (d::r)
abbrev Talk:=zHa
def many(t:Talk):Nat:=t.C.Mail.Envelope.To.length
def codeL(l:List Str):Int:=(parseP l).2.2.Code
def badL(acc:List Str)(x:Str):Prop:=4000 < x.length∨(codeL (acc++ [x])≠0/\codeL (acc++ [x])≠9)
instance (acc:List Str) (x:Str):Decidable (badL acc x):=inferInstanceAs (Decidable (_∨_))
theorem Vba(l:List Int)(h:l.length<=1048576):VQa l l=some true:=by
 unfold VQa;rw[show ((l.length:Int) !=(l.length:Int))=false by simp];simp only[cond_false];rw[qda l (fun _ _=>none) (.inl ()) .inr]
 .have:kfa (fun _ _=>(none:Option Bool)) 0 l=none:=by rw[ZAa];intro i x _;rfl
  rw[this];rfl
 .unfold Z6a;rw[qha];rfl
 intro i f hx;have hi:=kRa hx;unfold Z6a;rw[via hx,k1a hx];simp only[cond_true,jAc,sc i (by omega)];simp
def WQa(most:Int)(s:Int × List Int)(m:zda):Int × List Int:=
 match s.2[s.2.length - 1]? with
 | some v=>if v < most/\s.1+(kda m).length<=6000 then (s.1+(kda m).length,s.2.set (s.2.length - 1) (v+1)) else ((kda m).length,s.2++ [1])
 | none=>((kda m).length,s.2++ [1])
def BInv(most:Int)(i:Nat)(s:Int × List Int):Prop:=0<=s.1/\s.1<=12000/\s.2.length<=i/\∀v∈s.2,1<=v/\v<=most
theorem BInv.step{most:Int}{i:Nat}{s:Int × List Int}{m:zda}(h:BInv most i s)(h1:1<=most)(hb:(kda m).length<=12000):BInv most (i+1) (WQa most s m):=by
 obtain ⟨a,b,c,d⟩:=h;have hn:BInv most (i+1) (((kda m).length:Int),s.2++ [1]):=by
  refine ⟨by show (0:Int)<=((kda m).length:Int);omega,by show ((kda m).length:Int)<=12000;omega,by simp;omega,fun v hv=>?_⟩;rcases List.mem_append.1 hv with hv | hv
  .exact d v hv
  rw[List.mem_singleton.1 hv];omega
 unfold WQa;split
 .rename_i v hv;split
  .rename_i hc;refine ⟨by show 0<=s.1+_;omega,by show s.1+_<=12000;omega,by simp;omega,fun x hx=>?_⟩;rcases List.mem_or_eq_of_mem_set hx with hx | rfl
   .exact d x hx
   have:=d v (jAg hv);omega
  exact hn
 exact hn
theorem zib(l:List Int)(hl:l.length<=100):(l=[]/\w64 ((l.length:Int) - 1)= -1)∨∃v,l[l.length - 1]? =some v/\w64 ((l.length:Int) - 1)=((l.length - 1:Nat):Int)/\idx l ((l.length - 1:Nat):Int)=some v:=by
 cases l with
 | nil=>exact .inl ⟨rfl,by decide⟩
 | cons x r=>
  have h:(x::r).length - 1 < (x::r).length:=by simp
  refine .inr ⟨_,jAf h,?_,VSa h⟩;rw[yda (by omega) (by omega)];simp
theorem YHa(l:List zda)(most:Int)(h:YFa l)(hl:l.length<=20)(hm:∀m∈l,(msgF m).Code=0)(h1:1<=most)(h2:most<=20):
 iter (kqa l most) (0,0,[])=some (l.foldl (WQa most) (0,[])).2/\BInv most l.length (l.foldl (WQa most) (0,[])):=
 Kda l (fun i s=>(s.1,i,s.2)) (WQa most) (fun s=>s.2) (BInv most) (body:=kqa l most) (fun s _=>by unfold kqa;rw[qha];rfl) (fun i m s hx hs=>by
  have hi:=kRa hx;have hmem:=jAg hx;obtain ⟨e1,_,e3,_⟩:=VYa (hm m hmem) (h.2 m hmem);refine ⟨?_,hs.step h1 e3⟩;obtain ⟨a,b,c,d⟩:=hs;unfold kqa WQa;dsimp only;rw[via hx,k1a hx];simp only[cond_true,jAc,e1,sc i (by omega)];rw[yda (n:=s.1+((kda m).length:Int)) (by omega) (by omega)];rcases zib s.2 (by omega) with ⟨e,e2⟩ | ⟨v,e,e2,e4⟩
  .rw[e2,e];rw[waa (by simp)];rfl
  rw[e2,e4,e];have hv:=d v (jAg e);have e5:=waa (lim:=17592186044416) (l:=s.2) (xs:=[(1:Int)]) (by simp;omega);have e6:w64 (v+1)=v+1:=yda (by omega) (by omega);rw[show decide ((0:Int)<=((s.2.length - 1:Nat):Int))=true by simp];simp only[cond_true,jAc];by_cases c1:v < most
  .by_cases c2:s.1+((kda m).length:Int)<=6000
   .rw[decide_eq_true c1,decide_eq_true c2,if_pos ⟨c1,c2⟩];simp only[cond_true,jAc,e4,e6,Int.toNat_natCast]
   rw[decide_eq_true c1,decide_eq_false c2,if_neg (fun h=>c2 h.2)];simp only[cond_true,cond_false,jAc,e5]
  rw[decide_eq_false c1,if_neg (fun h=>c1 h.1)];simp only[cond_false,jAc,e5]) (0,[]) ⟨by decide,by decide,by simp,fun v hv=>by cases hv⟩
theorem law_loop(l:List zda)(most:Int)(j:Int × Int)(hj:j.1=0)(h:YFa l)(hl:l.length<=20)(hm:∀m∈l,(msgF m).Code=0)(h1:1<=most)(h2:most<=20):
 iter (zra l most j) (0,0,[])=some (l.foldl (WQa most) (0,[])).2:=
 (Kda l (fun i s=>(s.1,i,s.2)) (WQa most) (fun s=>s.2) (BInv most) (body:=zra l most j) (fun s _=>by unfold zra;rw[qha];rfl) (fun i m s hx hs=>by
  have hi:=kRa hx;have hmem:=jAg hx;obtain ⟨_,e1,e3,_⟩:=VYa (hm m hmem) (h.2 m hmem);refine ⟨?_,hs.step h1 e3⟩;obtain ⟨a,b,c,d⟩:=hs;unfold zra WQa;dsimp only;rw[via hx,k1a hx,hj];simp only[cond_true,jAc,e1,sc i (by omega),beq_self_eq_true];rw[yda (n:=s.1+((kda m).length:Int)) (by omega) (by omega)];rcases zib s.2 (by omega) with ⟨e,e2⟩ | ⟨v,e,e2,e4⟩
  .rw[e2,e];rw[waa (by simp)];rfl
  rw[e2,e4,e];have hv:=d v (jAg e);have e5:=waa (lim:=17592186044416) (l:=s.2) (xs:=[(1:Int)]) (by simp;omega);have e6:w64 (v+1)=v+1:=yda (by omega) (by omega);rw[show decide (((s.2.length - 1:Nat):Int) < 0)=false by simp];simp only[cond_false,jAc,e4];by_cases c1:v=most
  .rw[show (v==most)=true by simpa using c1,if_neg (fun h=>by omega)];simp only[cond_true,jAc,e5]
  have c3:v < most:=by omega
  rw[show (v==most)=false by simpa using c1];by_cases c2:s.1+((kda m).length:Int)<=6000
  .rw[show decide ((6000:Int) < s.1+((kda m).length:Int))=false by simp;omega,if_pos ⟨c3,c2⟩];simp only[cond_false,jAc,e4,e6,Int.toNat_natCast]
  rw[show decide ((6000:Int) < s.1+((kda m).length:Int))=true by simp;omega,if_neg (fun h=>c2 h.2)];simp only[cond_true,cond_false,jAc,e5]) (0,[]) ⟨by decide,by decide,by simp,fun v hv=>by cases hv⟩).1
theorem zjb(l:List zda)(most:Int)(j:Int × Int)(hj:j.1≠0)(hl:l.length<=1048576):iter (zra l most j) (0,0,[])=some []:=by
 refine kha ?_;unfold zra;rw[show (j.1==0)=false by simpa using hj];cases decide ((0:Int) < (l.length:Int)) <;> rfl
theorem vQa(a0:List zda)(a1:Int)(o0:okL zda.ok a0)(o1:ok64 a1)(hk:bkL zda.bk a0+1<=1048576):z5a a0 a1=some true:=by
 have hs:=qgb (l:=a0) (by omega);unfold z5a qNa;rw[Vaa _ hs,ZCa _ hs,Q4a];simp only[jAc,qta,kka,vba,WIa,KOa];by_cases hc:(chkF a0).Code=0
 .obtain ⟨e,n1,n2,hm⟩:=chkF_ok hc;rw[e];have e9:(bif decide (a1 < 1) then some true else some (decide ((20:Int) < a1)))=some (!(decide ((1:Int)<=a1) && decide (a1<=20))):=by
   by_cases h3:a1 < 1
   .have:¬(1:Int)<=a1:=by omega
    simp[h3,this]
   have:(1:Int)<=a1:=by omega
   have h5:decide ((20:Int) < a1)= !decide (a1<=20):=by rw[jBj];simp
   rw[h5];simp[h3,this]
  rw[e9];by_cases h3:1<=a1/\a1<=20
  .obtain ⟨h3,h4⟩:=h3;rw[decide_eq_true h3,decide_eq_true h4];obtain ⟨b1,b2⟩:=YHa a0 a1 hs n2 hm h3 h4;rw[b1];simp only[Bool.and_self,jBv,cond_false,jAc,bne_self_eq_false,beq_self_eq_true,cond_true];rw[law_loop a0 a1 (0,0) rfl hs n2 hm h3 h4];simp only[jAc];rw[Vba _ (by have:=b2.2.2.1;omega)];rfl
  have h5:(!(decide ((1:Int)<=a1) && decide (a1<=20)))=true:=by
   cases h7:decide ((1:Int)<=a1) && decide (a1<=20) with
   | false=>rfl
   | true=>exact absurd (by simpa using h7) h3
  rw[h5];simp only[cond_true,jAc,bne_self_eq_false,beq_self_eq_true,cond_false];rw[zjb a0 a1 (3, -22) (by decide) hs.1];simp only[jAc];rw[Vba _ (by simp)];rfl
 have e1:((chkF a0).Code !=0)=true:=by simpa using hc
 have e2:((chkF a0).Code==0)=false:=by simpa using hc
 rw[e1,e2];simp only[cond_true,cond_false,jAc];rw[zjb a0 a1 ((chkF a0).Code,(chkF a0).Index) hc hs.1];simp only[jAc];rw[Vba _ (by simp)];simp[QLa]
section
section
variable {E:Env} {T:Tab} {fr:Fr} {σ:Sto} {k:KS} {ops:Array Oper} {l:List Oper} {V R:Type} {r:R} {A B:Option R} {t:Bool} {g:GS}
def isR:Exit->Bool
 | .normal=>true
 | .ret=>true
 | _=>false
theorem qhb{e:Exit}(h:isR e=true):isN e=true∨e=.ret:=by cases e <;> simp_all [isR,isN]
theorem jx(n:Nat){J:Type}{a j:J}(hr:some a=some j){frs:J->Fr}{stos:J->Sto}(hT:zBa E.P T:=by exact tk)(h:GS.run T E.N n g=some (.at .normal fr σ (.jo frs stos (fun z=>j=z) k)):=by exact rfl)(hf:(frs a).map fr.sel=frs a:=by exact rfl)(hs:(stos a).map σ.sel=(stos a).map (fun p=>some p.2):=by exact rfl):g.holds E:=
 rn hT n h (by cases hr;exact jn _ rfl hf hs)
theorem kx(n:Nat){a r:R}(hr:some a=some r){fn:Func}{rv:AV}{cs:List AV}{e:Exit}{hm:Mono (Kret E.P fn rv)}(hT:zBa E.P T:=by exact tk)(h:GS.run T E.N n g=some (.at e fr σ (.base (Kret E.P fn rv) hm)):=by exact rfl)(he:isR e=true:=by exact rfl)(hc:ZYa T fr σ fn.results.toList=some cs:=by exact rfl)(hv:some a=some r->QJa cs=rv:=by (rintro ⟨⟩;exact rfl)):g.holds E:=
 rn hT n h (kr hT (qhb he) hc (hv hr))
theorem cx(n:Nat){A B:Type}{s:A}{x:Step A B}(hr:some (.cont s)=some x){frs:A->Fr}{stos:A->Sto}{O:B->Post}{hm:Mono (w9a frs stos O x)}(hT:zBa E.P T:=by exact tk)(h:GS.run T E.N n g=some (.at .normal fr σ (.base (w9a frs stos O x) hm)):=by exact rfl)(hf:(frs s).map fr.sel=frs s:=by exact rfl)(hs:(stos s).map σ.sel=(stos s).map (fun p=>some p.2):=by exact rfl):g.holds E:=
 rn hT n h (by cases hr;exact ⟨rfl,frw hf,stw hs⟩)
theorem ox(n:Nat){A B:Type}{b:B}{x:Step A B}(hr:some (.out b)=some x){e:Exit}{frs:A->Fr}{stos:A->Sto}{e0:B->Exit}{fr0:B->Fr}{σ0:B->Sto}{hm:Mono (w9a frs stos (fun b=>At (e0 b) (fr0 b) (σ0 b)) x)}(hT:zBa E.P T:=by exact tk)(h:GS.run T E.N n g=some (.at e fr σ (.base (w9a frs stos (fun b=>At (e0 b) (fr0 b) (σ0 b)) x) hm)):=by exact rfl)(he:e=e0 b:=by exact rfl)(hn:isN e=false:=by exact rfl)(hf:(fr0 b).map fr.sel=fr0 b:=by exact rfl)(hs:(σ0 b).map σ.sel=(σ0 b).map (fun p=>some p.2):=by exact rfl):g.holds E:=
 rn hT n h (by cases hr;exact ato he hn hf hs)
theorem sxx(n:Nat){a r:R}(hr:some a=some r){fn:Func}{rv w:AV}{σ1:Sto}{Tm:Array Value}{H:Nat}{cs:List AV}{e:Exit}{hm:Mono (Yja E.P fn rv w H Tm σ1)}(hT:zBa E.P T:=by exact tk)(h:GS.run T E.N n g=some (.at e fr σ (.base (Yja E.P fn rv w H Tm σ1) hm)):=by exact rfl)(he:isR e=true:=by exact rfl)(hc:ZYa T fr σ fn.results.toList=some cs:=by exact rfl)(hv:some a=some r->QJa cs=rv:=by (rintro ⟨⟩;exact rfl))(hs:some a=some r->((H,.hold w (Tm.getD 0 undef))::σ1).map σ.sel=((H,.hold w (Tm.getD 0 undef))::σ1).map (fun p=>some p.2):=by (rintro ⟨⟩;exact rfl)):g.holds E:=
 rn hT n h (krS hT (qhb he) hc (hv hr) (stw (hs hr)))
theorem ax(n d:Nat){x y:Code}(hr:(bif t then A else B)=some r)(hA:A=some r->(GS.code x ((d,.pv (.b (.bool true)))::fr) σ k).holds E)(hB:B=some r->(GS.code y ((d,.pv (.b (.bool false)))::fr) σ k).holds E)(hT:zBa E.P T:=by exact tk)(h:GS.run T E.N n g=some (.code (.cond (.tmp d) x y) fr σ k):=by exact rfl)(hd:fr.get d=.pv (.b (.bool t)):=by exact rfl):g.holds E:=
 rn hT n h (ac d hr hd (fun _=>hA) (fun _=>hB))
theorem bx(n d:Nat)(hr:(bif t then A else B)=some r)(hA:t=true->A=some r->(GS.ops ops l ((d,.pv (.b (.bool true)))::fr) σ k).holds E)(hB:t=false->B=some r->(GS.ops ops l ((d,.pv (.b (.bool false)))::fr) σ k).holds E)(hT:zBa E.P T:=by exact tk)(h:GS.run T E.N n g=some (.ops ops l fr σ k):=by exact rfl)(hd:fr.get d=.pv (.b (.bool t)):=by exact rfl):g.holds E:=
 rn hT n h (bs d hr hd hA hB)
theorem clx(n:Nat){X:Option V}{F:V->Option R}(hr:X.bind F=some r){f:FuncId}{d:Nat}{xs:List Operand}{ats:Array TypeId}{args:List AV}{rv:V->AV}{ty:TypeId}{pos:String}{af:Array Edge}(hc:∀v,X=some v->Run E.P f args (rv v))(hq:∀v,X=some v->F v=some r->(GS.ops ops l ((d,rv v)::fr) σ k).holds E)(hT:zBa E.P T:=by exact tk)(h:GS.run T E.N n g=some (.ops ops (⟨some d,.call ⟨.value (.func f),xs.toArray,ats⟩,ty,pos,af,none⟩::l) fr σ k):=by exact rfl)(hN:Nat.ble (d+1) E.N=true:=by exact rfl)(ha:xs.map (fun x=>(fr.ev x).weak)=args:=by exact rfl):g.holds E:=by
 obtain ⟨v,h1,h2⟩:=zaa hr;exact rn hT n h (cl (hc v h1) hN ha (hq v h1 h2))
theorem csx(n:Nat){X:Option V}{F:V->Option R}(hr:X.bind F=some r){f:FuncId}{d O:Nat}{xs:List Operand}{ats:Array TypeId}{args:List AV}{rv:V->AV}{σ0:Sto}{σ1:V->Sto}{rows:List Nat}{ty:TypeId}{pos:String}{af:Array Edge}(hc:∀v,X=some v->RunS E.P f args σ0 (rv v) (σ1 v) O rows)(hq:∀v,X=some v->F v=some r->(GS.ops ops l ((d,rv v)::fr.clrs rows) (σ1 v++(σ.dels (O::rows)).clrs rows) k).holds E)(hT:zBa E.P T:=by exact tk)(h:GS.run T E.N n g=some (.ops ops (⟨some d,.call ⟨.value (.func f),xs.toArray,ats⟩,ty,pos,af,none⟩::l) fr σ k):=by exact rfl)(hN:Nat.ble (d+1) E.N=true:=by exact rfl)(ha:xs.map (fun x=>(fr.ev x).weak)=args:=by exact rfl)(hs:σ0.map σ.sel=σ0.map (fun p=>some p.2):=by exact rfl):g.holds E:=by
 obtain ⟨v,h1,h2⟩:=zaa hr;exact rn hT n h (wo (KEa (hc v h1) hN ha (stw hs)) rfl (hq v h1 h2))
theorem rfx{P:Program}{f:FuncId}{fn:Func}{c:Code}{args:List AV}{r:AV}(hf:P.funcs[f]? =some fn)
 (h:∀g0 (hg:Gl g0),(GS.code c (z1a 0 args) [] (.base (Kret P fn r) Yaa)).holds ⟨P,none,g0,fn.ntmps,false,hg,fun _=>False,fun _ _ h=>h⟩)
 (hb : fn.body = some c := by exact rfl) (hn : (fn.name == "runtime.NumGoroutine") = false := by kernel_rfl) (hN : Nat.ble args.length fn.ntmps = true := by exact rfl) (hr : ∀ k, r.has k = false := by exact fun _ => rfl) : Run P f args r := rf ⟨hf, hb, hn⟩ hN hr h
end
end
section
def Fr.px(fr:Fr):List Nat->Option Fr
 | []=>some []
 | k::ks=>match (fr.get k).force with
  | some a=>(match Fr.px fr ks with | some r=>some ((k,a)::r) | none=>none)
  | none=>none
theorem Fr.px_ok{fr:Fr}:∀{ks:List Nat} {r:Fr},fr.px ks=some r->FrLe fr r/\r.map (fun p=>fr.get p.1)=r.map (·.2)
 | [],r,h=>by cases h;exact ⟨ZMa,rfl⟩
 | k::ks,r,h=>by
  unfold Fr.px at h;split at h
  .rename_i a ha;split at h
   .rename_i r1 h1;cases h;obtain ⟨q1,q2⟩:=Fr.px_ok h1;refine ⟨ZNa (AV.force_eq ha) q1,?_⟩;simp only[List.map_cons,q2,AV.force_eq ha]
   cases h
  cases h
def Sto.px(σ:Sto):List Nat->Option Sto
 | []=>some []
 | k::ks=>match σ.get k with
  | some a=>(match Sto.px σ ks with | some r=>some ((k,a)::r) | none=>none)
  | none=>none
section
variable {E:Env} {T:Tab} {fr fr' :Fr} {σ σ' :Sto} {k:KS} {ops:Array Oper} {l:List Oper} {R:Type} {r:R} {g:GS}
theorem jq(n:Nat){J:Type}{X:Option J}{f:J->Option R}(hr:X.bind f=some r)(ks os:List Nat)(F:J->Fr)(S:J->Sto){x y:Code}(hx:∀j,X=some j->(GS.code x fr σ (.jo (fun j=>F j++fr') (fun j=>S j++σ') (fun z=>j=z) k)).holds E)(hy:∀j,f j=some r->(GS.code y (F j++fr') (S j++σ') k).holds E)
 (hT:zBa E.P T:=by exact tk) (h:GS.run T E.N n g=some (.code (.seq x y) fr σ k):=by exact rfl) (hf:fr.px ks=some fr' :=by exact rfl) (hs:σ.px os=some σ' :=by exact rfl):g.holds E:=
 rn hT n h (jb hr (fun j=>F j++fr') (fun j=>S j++σ') hx hy)
theorem jkq(n:Nat){J:Type}(ks os:List Nat)(F:J->Fr)(S:J->Sto)(M:J->Prop){x y:Code}(hx:(GS.code x fr σ (.jo (fun j=>F j++fr') (fun j=>S j++σ') M k)).holds E)(hy:∀j,M j->(GS.code y (F j++fr') (S j++σ') k).holds E)
 (hT:zBa E.P T:=by exact tk) (h:GS.run T E.N n g=some (.code (.seq x y) fr σ k):=by exact rfl) (hf:fr.px ks=some fr' :=by exact rfl) (hs:σ.px os=some σ' :=by exact rfl):g.holds E:=
 rn hT n h (jk (fun j=>F j++fr') (fun j=>S j++σ') M hx hy)
theorem ctq(n:Nat){J:Type}{X:Option J}{f:J->Option R}{o:Oper}(hr:X.bind f=some r)(ks os:List Nat)(F:J->Fr)(S:J->Sto)
 (hx:∀j,X=some j->(∀fr1 σ1,(F j++fr').map fr1.sel=F j++fr' ->(S j++σ').map σ1.sel=(S j++σ').map (fun p=>some p.2)->AWPL E ops l fr1 σ1 (k.post E))->(GS.ops ops (o::l) fr σ k).holds E) (hy:∀j,f j=some r->(GS.ops ops l (F j++fr') (S j++σ') k).holds E)
 (hT:zBa E.P T:=by exact tk) (h:GS.run T E.N n g=some (.ops ops (o::l) fr σ k):=by exact rfl) (hf:fr.px ks=some fr' :=by exact rfl) (hs:σ.px os=some σ' :=by exact rfl):g.holds E:=
 rn hT n h (ct hr (fun j=>F j++fr') (fun j=>S j++σ') hx hy)
theorem aq1(n:Nat){A B:Type}{c:Code}{body:A->Option (Step A B)}{s:A}{f:B->Option R}(hr:(iter body s).bind f=some r)(ks os:List Nat)(F:A->Fr)(S:A->Sto)(e0:Exit)(ks1 os1:List Nat)(F1:B->Fr)(S1:B->Sto){fr1:Fr}{σ1:Sto}
 (h:∀s x,body s=some x->(GS.code c (F s++fr') (S s++σ') (.base (w9a (fun s=>F s++fr') (fun s=>S s++σ') (fun b=>At ((fun _=>e0) b) (F1 b++fr1) (S1 b++σ1)) x) yfa)).holds E)
 (hK:∀b,f b=some r->(GS.at e0 (F1 b++fr1) (S1 b++σ1) k).holds E)
 (hT:zBa E.P T:=by exact tk) (hg:GS.run T E.N n g=some (.code (.loop c) fr σ k):=by exact rfl) (h1:fr.px ks=some fr' :=by exact rfl) (h2:σ.px os=some σ' :=by exact rfl) (h3:fr.px ks1=some fr1:=by exact rfl) (h4:σ.px os1=some σ1:=by exact rfl) (hf:(F s++fr').map fr.sel=F s++fr' :=by exact rfl) (hs:(S s++σ').map σ.sel=(S s++σ').map (fun p=>some p.2):=by exact rfl):g.holds E:=
 rn hT n hg (al1 hr (fun s=>F s++fr') (fun s=>S s++σ') e0 (fun b=>F1 b++fr1) (fun b=>S1 b++σ1) hf hs h hK)
theorem aq2(n:Nat){A B C:Type}{c:Code}{body:A->Option (Step A (B ⊕ C))}{s:A}{f:B->Option R}{f2:C->Option R}(hr:(iter body s).bind (Sum.elim f f2)=some r)(ks os:List Nat)(F:A->Fr)(S:A->Sto)(e1:Exit)(ks1 os1:List Nat)(F1:B->Fr)(S1:B->Sto)(e2:Exit)(ks2 os2:List Nat)(F2:C->Fr)(S2:C->Sto){fr1 fr2:Fr}{σ1 σ2:Sto}
 (h:∀s x,body s=some x->(GS.code c (F s++fr') (S s++σ') (.base (w9a (fun s=>F s++fr') (fun s=>S s++σ') (fun b=>At (Sum.elim (fun _=>e1) (fun _=>e2) b) (Sum.elim (fun b=>F1 b++fr1) (fun b=>F2 b++fr2) b) (Sum.elim (fun b=>S1 b++σ1) (fun b=>S2 b++σ2) b)) x) yfa)).holds E)
 (hK1:∀b,f b=some r->(GS.at e1 (F1 b++fr1) (S1 b++σ1) k).holds E) (hK2:∀b,f2 b=some r->(GS.at e2 (F2 b++fr2) (S2 b++σ2) k).holds E)
 (hT:zBa E.P T:=by exact tk) (hg:GS.run T E.N n g=some (.code (.loop c) fr σ k):=by exact rfl) (h1:fr.px ks=some fr' :=by exact rfl) (h2:σ.px os=some σ' :=by exact rfl) (h3:fr.px ks1=some fr1:=by exact rfl) (h4:σ.px os1=some σ1:=by exact rfl) (h5:fr.px ks2=some fr2:=by exact rfl) (h6:σ.px os2=some σ2:=by exact rfl) (hf:(F s++fr').map fr.sel=F s++fr' :=by exact rfl) (hs:(S s++σ').map σ.sel=(S s++σ').map (fun p=>some p.2):=by exact rfl):g.holds E:=
 rn hT n hg (al2 hr (fun s=>F s++fr') (fun s=>S s++σ') e1 (fun b=>F1 b++fr1) (fun b=>S1 b++σ1) e2 (fun b=>F2 b++fr2) (fun b=>S2 b++σ2) hf hs h hK1 hK2)
def fjoin(a b c:List AV):Option (List AV):=vFa (a++b++c)
theorem iq(n:Nat){d f:Nat}{fn:Func}{c:Code}{fx:Operand}{xs:List Operand}{ats:Array TypeId}{first cap args:List AV}{ty:TypeId}{pos:String}{af:Array Edge}(base:Nat)(ks:List Nat){keep:Fr}(hok:FnOk E.P f fn c)
 (h:∀(T:Array Value) (ds:List Deferred),(GS.code c (z1a 0 args) ((base+99999,.sus E.g0.w.heap.size ds)::(holds base T keep++σ)) (.base (InlK E ops l d fn base (base+99999) T ds (k.post E)) J5a)).holds ⟨E.P,none,E.g0,fn.ntmps,true,E.gl,E.S,E.sg⟩)
 (hT:zBa E.P T:=by exact tk) (hg:GS.run T E.N n g=some (.ops ops (⟨some d,.call ⟨.value fx,xs.toArray,ats⟩,ty,pos,af,none⟩::l) fr σ k):=by exact rfl) (hf:fr.ev fx=.fn (.func f) first cap:=by exact rfl) (ha:fjoin first (xs.map fr.ev) cap=some args:=by exact rfl) (hN:(Nat.ble (d+1) E.N && Nat.ble args.length fn.ntmps)=true:=by exact rfl) (hk:fr.px ks=some keep:=by exact rfl):g.holds E:=
 rn hT n hg (il base (base+99999) keep hf hok hN (kIa ha) (Fr.px_ok hk).2 h)
def Sto.held(base:Nat):Sto->Option Fr
 | []=>some []
 | (k,ob)::r=>match ob with
  | .hold v _=>(match (Nat.ble base k && Nat.ble (k+1) (base+99999)) with
   | true=>(match v.force,Sto.held base r with | some a,some f=>some ((k - base,a)::f) | _,_=>none)
   | false=>Sto.held base r)
  | _=>Sto.held base r
def Sto.less(base:Nat):Sto->Option Sto
 | []=>some []
 | (k,ob)::r=>match (Nat.ble base k && Nat.ble k (base+99999)) with
  | true=>Sto.less base r
  | false=>(match Sto.less base r with | some f=>some ((k,ob)::f) | none=>none)
theorem ieq{E' :Env}(n:Nat){fr2:Fr}{σ2:Sto}{cs:List AV}{d:Nat}{fn:Func}{base:Nat}{Tm:Array Value}{ds:List Deferred}{e:Exit}{hm:Mono (InlK E ops l d fn base (base+99999) Tm ds (k.post E))}
 (h:AWPL E ops l ((d,retI cs)::fr2) σ2 (k.post E)) (hT:zBa E'.P T:=by exact tk) (hg:GS.run T E'.N n g=some (.at e fr σ (.base (InlK E ops l d fn base (base+99999) Tm ds (k.post E)) hm)):=by exact rfl) (he:isR e=true:=by exact rfl) (hr:ZYa T fr σ fn.results.toList=some cs:=by exact rfl) (h1:σ.held base=some fr2:=by exact rfl) (h2:σ.less base=some σ2:=by exact rfl)
 (hh:fr2.map (fun p=>σ.get (base+p.1))=fr2.map (fun p=>some (.hold p.2 (Tm.getD p.1 undef))):=by exact rfl) (hsu:σ.get (base+99999)=some (.sus E.g0.w.heap.size ds):=by exact rfl) (hle:σ2.map σ.sel=σ2.map (fun p=>some p.2):=by exact rfl) (hE:E.P=E'.P:=by exact rfl):g.holds E' :=
 rn hT n hg (ie (hE▸hT) cs fr2 σ2 (qhb he) hr hh hsu hle h)
def purL(l:List Oper)(cs:List (Option AV))(fr:Fr):Fr:=purF l cs (allT l)++fr
theorem mdq(n:Nat){id:Nat}(tl:List (Nat × AV))(ks:List Nat){frJ:Fr}{ss:List Sto}{σJ:Sto}{cs:List (Option AV)}(ht:Told E l cs fr (σ::ss) tl)(h:(GS.at .normal frJ σJ k).holds E)
 (hmix:E.P.follows .mixedOrders=true) (hT:zBa E.P T:=by exact tk) (hg:GS.run T E.N n g=some (.code (.region id l.toArray true) fr σ k):=by exact rfl) (hz:zrun T E.N tl l 0 fr σ=some (cs,ss,σJ):=by exact rfl)
 (hk:(zchk E.N tl l cs,(List.range ((hvL l cs).length+1)).map (fun k=>(purK l cs tl k).map (WCa T l cs fr (stoK σ ss k))),(List.range (hvL l cs).length).map (stoD T E.N l cs fr σ ss),stoK σ ss (hvL l cs).length)=(true,(List.range ((hvL l cs).length+1)).map (fun k=>(purK l cs tl k).map (jMa cs)),(List.range (hvL l cs).length).map (fun k=>some (stoK σ ss (k+1))),σJ):=by kernel_rfl)
 (hf:(purL l cs fr).px ks=some frJ:=by exact rfl):g.holds E:=
 rn hT n hg (mc hT tl frJ hmix hz hk ht (Fr.px_ok hf).1 h)
end
end
theorem V0a(a0:List Int)(a1:List Int)(r:Bool)(hr:VQa a0 a1=some r):Run prog 25 [.l cI a0,.l cI a1] (.bo r):=by
 unfold VQa at hr;refine rfx (fn:=f25) func25 fun g0 hg=>?_
 refine rn tk 9 rfl<|wn tk rfl rfl rfl<|rn tk 1 rfl<|wn tk rfl rfl rfl ?_;refine ax 3 10 hr (fun hr=>?_) fun hr=>?_
 .exact kx 7 hr
 refine aq2 9 hr [0,1] [] (fun s2=>[(5,.i s2)]) (fun _=>[]) (.exit 0) [] [] (fun _=>[]) (fun _=>[]) .ret [] [] (fun b4=>[(4,.bo b4)]) (fun _=>[]) (fun s2 x6 hr=>?_) (fun b3 hr=>?_) (fun b4 hr=>?_)
 .unfold Z6a at hr;refine rn tk 5 rfl<|wn tk rfl rfl rfl ?_;refine ax 3 14 hr (fun hr=>?_) fun hr=>?_
  .refine rn tk 5 rfl ?_;obtain ⟨v8,h9,hr⟩:=zaa hr;obtain ⟨v10,h11,hr⟩:=zaa hr;refine mdq 0 [(2,.ep [pI v8]),(6,.ep [pI v10])] [0,1,5,25] (.cons rfl rfl (t0 (k4a (QKa (f:=cI) rfl rfl WFa vIa rfl h9))) (.cons rfl rfl (t0 (k4a (QKa (f:=cI) rfl rfl WFa vIa rfl h11))) .nil)) ?_ mixed;refine ax 1 25 hr (fun hr=>?_) fun hr=>?_
   .exact ox 8 hr
   exact cx 8 hr
  exact ox 2 hr
 .exact kx 8 hr
 exact kx 2 hr
section
variable {E:Env} {T:Tab} {fr FR:Fr} {σ:Sto} {k:KS} {l:List Oper} {cs:List AV} {kn:List (Nat × Bool)} {tl:List (Nat × AV)} {g:GS}
def kget:List (Nat × Bool)->Nat->Option Bool
 | [],_=>none
 | (d,b)::r,i=>bif Nat.beq d i then some b else kget r i
inductive YIa (FR:Fr):List (Nat × Bool)->Prop
 | nil:YIa FR []
 | cons {d:Nat} {b t:Bool} {r:List (Nat × Bool)} (hv:FR.get d=.pv (.b (.bool t))) (ht:t=b) (hr:YIa FR r):YIa FR ((d,b)::r)
theorem YIa.get(h:YIa FR kn){d:Nat}{b:Bool}(hk:kget kn d=some b):∃t,FR.get d=.pv (.b (.bool t))/\t=b:=by
 induction h with
 | nil=>cases hk
 | @cons e b' t r hv ht _ ih=>
  unfold kget at hk;cases hb:Nat.beq e d with
  | true=>rw[hb]at hk;cases hk;have:=jAi hb;subst this;exact ⟨t,hv,ht⟩
  | false=>rw[hb]at hk;exact ih hk
def gsee(l:List Oper)(kn:List (Nat × Bool))(FR:Fr)(o:Oper):Option Bool:=match o.guard with
 | none=>some true
 | some (j,want)=>(match (l[j]?).bind (·.dst) with
  | none=>none
  | some d=>(match kget kn d with
   | some b=>some (b==want)
   | none=>(match FR.get d with | .tup []=>some false | .pv (.b (.bool t))=>(match t,want with | true,w=>some w | false,w=>some (!w)) | _=>none)))
theorem JNa(hk:YIa FR kn){o:Oper}{b:Bool}(h:gsee l kn FR o=some b):(b=true->kba l.toArray FR o)/\(b=false->yqa l.toArray FR o):=by
 unfold gsee at h;split at h
 .rename_i hg;cases h;exact ⟨fun _=>.plain hg,fun e=>by cases e⟩
 rename_i j want hg;split at h
 .cases h
 rename_i d hd;have hj:(l.toArray[j]?).bind (·.dst)=some d:=by simpa using hd
 split at h
 .rename_i b' hb;obtain ⟨t,hv,ht⟩:=hk.get hb;cases h;refine ⟨fun e=>.yes hg hj hv ?_,fun e=>.no hg hj hv ?_⟩
  .rw[ht];simpa using e
  rw[ht];cases b' <;> cases want <;> simp_all
 split at h
 .rename_i hv;cases h;exact ⟨fun e=>(by cases e),fun _=>.none hg hj hv⟩
 .rename_i t hv;split at h
  .cases h;exact ⟨fun e=>.yes hg hj hv e.symm,fun e=>.no hg hj hv (by rw[e];rfl)⟩
  cases h;exact ⟨fun e=>.yes hg hj hv (by cases want <;> simp_all),fun e=>.no hg hj hv (by cases want <;> simp_all)⟩
 cases h
def dval(T:Tab)(kn:List (Nat × Bool))(FR:Fr)(σ:Sto)(op:Op):Option AV:=match op with
 | .pick (.tmp d) x y=>(match kget kn d with | some true=>(FR.ev x).force | some false=>(FR.ev y).force | none=>qval T FR.ev σ op)
 | _=>qval T FR.ev σ op
theorem dval_ok(hT:zBa E.P T)(hk:YIa FR kn){o:Oper}{c:AV}(h:dval T kn FR σ o.op=some c):OpG E o FR σ c:=by
 obtain ⟨dst,op,ty,pos,af,gu⟩:=o;dsimp only at h;unfold dval at h;split at h
 .split at h
  .rename_i hb;obtain ⟨t,hv,ht⟩:=hk.get hb;rw[<-AV.force_eq h];exact k4a (yRa hv ht)
  .rename_i hb;obtain ⟨t,hv,ht⟩:=hk.get hb;rw[<-AV.force_eq h];exact k4a (ZPa hv ht)
  exact k4a (yYa hT h)
 exact k4a (yYa hT h)
def drun(T:Tab)(l:List Oper)(kn:List (Nat × Bool))(σ:Sto)(tl:List (Nat × AV)):List Oper->Nat->Fr->Option (List AV)
 | [],_,_=>some []
 | o::r,i,fr=>match o.dst with
  | none=>none
  | some d=>(match (match gsee l kn fr o with
   | some true=>(match tget tl i with | some c=>some c | none=>dval T kn fr σ o.op)
   | some false=>some (.tup [])
   | none=>none) with
   | some c=>(match drun T l kn σ tl r (i+1) ((d,c)::fr) with | some cs=>some (c::cs) | none=>none)
   | none=>none)
def dchk(T:Tab)(l:List Oper)(kn:List (Nat × Bool))(FR:Fr)(σ:Sto)(tl:List (Nat × AV))(cs:List AV)(i:Nat):Option AV:=match l[i]? with
 | none=>none
 | some o=>(match gsee l kn FR o with
  | some true=>(match tget tl i with | some _=>cs[i]? | none=>dval T kn FR σ o.op)
  | some false=>some (.tup [])
  | none=>none)
inductive z1b (E:Env) (l:List Oper) (cs:List AV) (FR:Fr) (σ:Sto):List (Nat × AV)->Prop
 | nil:z1b E l cs FR σ []
 | cons {i:Nat} {c:AV} {o:Oper} {r:List (Nat × AV)} (ho:l[i]? =some o) (hc:cs[i]? =some c) (h:OpG E o FR σ c) (hr:z1b E l cs FR σ r):z1b E l cs FR σ ((i,c)::r)
theorem z1b.get(h:z1b E l cs FR σ tl){i:Nat}{c:AV}(hi:tget tl i=some c):∃o c,l[i]? =some o/\cs[i]? =some c/\OpG E o FR σ c:=by
 induction h with
 | nil=>cases hi
 | @cons k c o r ho hc h _ ih=>
  unfold tget at hi;cases hb:Nat.beq k i with
  | true=>have:=jAi hb;subst this;exact ⟨o,c,ho,hc,h⟩
  | false=>rw[hb]at hi;exact ih hi
theorem qib:∀{l' :List Oper} {cs' :List AV},cs'.length=l'.length->(∀(i:Nat) o c,l'[i]? =some o->cs'[i]? =some c->(kba l.toArray FR o/\OpG E o FR σ c)∨(yqa l.toArray FR o/\c=.tup []))->Pres E l.toArray FR σ l' cs'
 | [],[],_,_=>.nil
 | [],_::_,h,_=>by simp at h
 | _::_,[],h,_=>by simp at h
 | o::r,c::cs,hl,h=>by
  have ih:=qib (l' :=r) (cs' :=cs) (by simpa using hl) fun i o c h1 h2=>h (i+1) o c (by simpa using h1) (by simpa using h2)
  rcases h 0 o c rfl rfl with ⟨h1,h2⟩ | ⟨h1,rfl⟩
  .exact .run h1 h2 ih
  exact .skip h1 ih
def zkb:Fr->Option Fr
 | []=>some []
 | (k,a)::r=>match a.force with
  | some a' =>(match zkb r with | some r' =>some ((k,a')::r') | none=>none)
  | none=>none
theorem YJa:∀{f f' :Fr},zkb f=some f' ->f=f'
 | [],_,h=>by cases h;rfl
 | (k,a)::r,f',h=>by
  unfold zkb at h;split at h
  .rename_i a' ha;split at h
   .rename_i r' hr;cases h;rw[AV.force_eq ha,YJa hr]
   cases h
  cases h
theorem dq(n:Nat){id:Nat}(m:Nat)(kn:List (Nat × Bool))(tl:List (Nat × AV)){new:Fr}(hf:YIa (new++fr) kn)(ht:z1b E l cs (new++fr) σ tl)(h:(GS.ops l.toArray (l.drop m) (new++fr) σ k).holds E)
 (hmix:E.P.follows .mixedOrders=true) (hT:zBa E.P T:=by exact tk) (hg:GS.run T E.N n g=some (.code (.region id l.toArray true) fr σ k):=by exact rfl) (hz:drun T l kn σ tl (l.take m) 0 fr=some cs:=by exact rfl) (hn:zkb (vEa (l.take m) cs [])=some new:=by exact rfl)
 (hk:(kub l m && Nat.ble m l.length && ((l.take m).all fun o=>o.dst.all fun d=>Nat.ble (d+1) E.N) && Nat.beq cs.length m,(List.range m).map (dchk T l kn (new++fr) σ tl cs))=(true,(List.range m).map (cs[·]?)):=by kernel_rfl):g.holds E:=by
 have k1:=congrArg Prod.fst hk;have k2:=congrArg Prod.snd hk;simp only[jAp]at k1;obtain ⟨⟨⟨q1,q2⟩,q3⟩,q4⟩:=k1;have hlen:=jAi q4;have hm:=jAe q2;refine rn hT n hg (kvb m new hmix q1 q2 q3 (qib (by simp;omega) fun i o c h1 h2=>?_) (YJa hn) h);have him:i < m:=by have:=(jAb.1 h1).1;simp at this;omega
 rw[jAr him]at h1;have e:=List.map_inj_left.1 k2 i (jCl.2 him);unfold dchk at e;rw[h1,h2]at e;dsimp only at e;split at e
 .rename_i hg;split at e
  .rename_i c' hc;obtain ⟨o',c'',e1,e2,e3⟩:=ht.get hc;rw[h1]at e1;rw[h2]at e2;cases e1;cases e2;exact .inl ⟨(JNa hf hg).1 rfl,e3⟩
  exact .inl ⟨(JNa hf hg).1 rfl,dval_ok hT hf e⟩
 .rename_i hg;cases e;exact .inr ⟨(JNa hf hg).2 rfl,rfl⟩
 cases e
end
theorem zha(a0:zma)(r:Bool)(hr:zna a0=some r):Run prog 30 [.agg [.i a0.Code,.i a0.Index]] (.bo r):=by
 unfold zna at hr;refine rfx (fn:=f30) func30 fun g0 hg=>?_
 exact kx 15 hr
theorem zga(a0:Int)(a1:Int)(r:zma)(hr:zja a0 a1=some r):Run prog 28 [.i a0,.i a1] (.agg [.i r.Code,.i r.Index]):=by
 unfold zja at hr;refine rfx (fn:=f28) func28 fun g0 hg=>?_
 exact kx 14 hr
theorem zka(r:zma)(hr:zua=some r):Run prog 35 [] (.agg [.i r.Code,.i r.Index]):=by
 unfold zua at hr;refine rfx (fn:=f35) func35 fun g0 hg=>?_
 exact kx 12 hr
theorem WRa(a0:Str)(r:Bool)(hr:y7a a0=some r):Run prog 140 [.s a0] (.bo r):=by
 unfold y7a at hr;refine rfx (fn:=Tryz.f140) func140 fun g0 hg=>?_
 refine jq 5 hr [] [] (fun j1=>[(2,.bo j1)]) (fun _=>[]) (fun j1 hr=>?_) (fun j1 hr=>?_)
 .refine bx 4 5 hr (fun c2 hr=>?_) fun c2 hr=>?_
  .refine bx 5 10 hr (fun c3 hr=>?_) fun c3 hr=>?_
   .refine rn tk 1 rfl<|ug rfl rfl rfl ?_;refine ctq 0 hr [10] [] (fun j4=>[(12,.bo j4)]) (fun _=>[]) (fun j4 hr jump4=>?_) (fun j4 hr=>?_)
    .refine iq 0 400000 [10] (fn:=f89) ⟨func89,rfl,by kernel_rfl⟩ fun T4 ds4=>?_
     refine aq2 14 hr [0,1,7] [499999,400010] (fun s5=>[(8,.i s5)]) (fun _=>[]) (.exit 0) [] [499999,400010] (fun _=>[]) (fun _=>[]) .ret [4] [499999,400010] (fun _=>[]) (fun _=>[]) (fun s5 x9 hr=>?_) (fun b6 hr=>?_) (fun b7 hr=>?_)
     .unfold vJa at hr;refine ax 6 9 hr (fun hr=>?_) fun hr=>?_
      .refine rn tk 15 rfl ?_;obtain ⟨v11,h12,hr⟩:=zaa hr;refine ws tk h12 rfl rfl rfl rfl ?_;refine iq 0 600000 [0,1,7,8] (fn:=f179) ⟨func179,rfl,by kernel_rfl⟩ fun T6 ds6=>?_
       refine jq 5 hr [] [699999,600000,600001,600007,600008,499999,400010] (fun j13=>[(2,.bo j13)]) (fun _=>[]) (fun j13 hr=>?_) (fun j13 hr=>?_)
       .refine bx 4 5 hr (fun c14 hr=>?_) fun c14 hr=>?_
        .refine bx 4 9 hr (fun c15 hr=>?_) fun c15 hr=>?_
         .exact jx 5 hr
         exact jx 5 hr
        exact jx 9 hr
       refine ieq 1 (hO ?_);refine ax 3 16 hr (fun hr=>?_) fun hr=>?_
       .exact ox 8 hr
       exact cx 7 hr
      exact ox 2 hr
     .refine ieq 8 ?_;cases hr;exact jump4 _ _ rfl rfl
     refine ieq 2 ?_;cases hr;exact jump4 _ _ rfl rfl
    exact jx 3 hr
   exact jx 5 hr
  exact jx 10 hr
 exact kx 1 hr
theorem qua(a0:UInt8)(r:Bool)(hr:kXa a0=some r):Run prog 160 [.u8 a0] (.bo r):=by
 unfold kXa at hr;refine rfx (fn:=Tryz.f160) func160 fun g0 hg=>?_
 refine jq 5 hr [] [] (fun j1=>[(2,.bo j1)]) (fun _=>[]) (fun j1 hr=>?_) (fun j1 hr=>?_)
 .refine bx 4 5 hr (fun c2 hr=>?_) fun c2 hr=>?_
  .exact jx 5 hr
  exact jx 5 hr
 exact kx 1 hr
theorem Vva(a0:Str)(a1:Int)(r:Int)(hr:yja a0 a1=some r):Run prog 142 [.s a0,.i a1] (.i r):=by
 unfold yja at hr;refine rfx (fn:=f142) func142 fun g0 hg=>?_
 refine rn tk 14 rfl<|wq (J3a rfl rfl) rfl rfl rfl ?_;refine aq1 4 hr [0] [] (fun s1=>[(5,.i s1.1),(6,.i s1.2)]) (fun _=>[]) (.exit 0) [] [] (fun b2=>[(5,.i b2)]) (fun _=>[]) (fun s1 x3 hr=>?_) (fun b2 hr=>?_)
 .unfold wea at hr;refine ax 9 12 hr (fun hr=>?_) fun hr=>?_
  .refine jkq 2 [0,6] [] (fun j5=>[(5,.i j5)]) (fun _=>[]) (fun j5=>kYa s1 j5=some x3) ?_ ?_
   .refine jq 2 hr [0,5,6] [] (fun j6=>[(26,.bo j6)]) (fun _=>[]) (fun j6 hr=>?_) (fun j6 hr=>?_)
    .refine rn tk 3 rfl ?_;obtain ⟨v7,h8,hr⟩:=zaa hr;refine ws tk h8 rfl rfl rfl rfl ?_;refine clx 0 hr (qua _) fun v9 _ hr=>?_
     refine bx 2 20 hr (fun c11 hr=>?_) fun c11 hr=>?_
     .exact jx 7 hr
     refine rn tk 3 rfl ?_;obtain ⟨v12,h13,hr⟩:=zaa hr;refine ug rfl rfl rfl<|ws tk h13 rfl rfl rfl rfl ?_;obtain ⟨v14,h15,hr⟩:=zaa hr;refine ug rfl rfl rfl<|cl (qua _ _ h15) rfl rfl ?_;exact jx 2 hr
    refine ax 0 26 hr (fun hr=>?_) fun hr=>?_
    .refine rn tk 3 rfl<|jn s1.1 hr rfl rfl
    refine jq 3 hr [0,5,6] [] (fun j17=>[(32,.bo j17)]) (fun _=>[]) (fun j17 hr=>?_) (fun j17 hr=>?_)
    .refine bx 4 29 hr (fun c18 hr=>?_) fun c18 hr=>?_
     .exact jx 4 hr
     exact jx 4 hr
    refine ax 0 32 hr (fun hr=>?_) fun hr=>?_
    .exact ox 4 hr
    refine rn tk 7 rfl<|jn s1.2 hr rfl rfl
   intro j5 hr;unfold kYa at hr;exact cx 5 hr
  exact ox 2 hr
 exact kx 9 hr
end Go.Proofs.YtpphhgbmooofgaaGreatDoor
namespace Go.Proofs
open Go.Shelf
def Tryz.lays156_ren:Go.Shelf.Ren:=⟨fun | 156=>66 | 165=>101 | 166=>102 | 169=>103 | 240=>134 | 241=>135 | 276=>172 | 277=>173 | n=>n,fun | 31=>54 | 9=>9 | 3=>3 | 4=>4 | 0=>0 | 20=>20 | 72=>152 | 76=>156 | 70=>150 | 37=>24 | 75=>155 | 127=>188 | 164=>217 | 5=>5 | 80=>158 | n=>n,fun | n=>n⟩
theorem Tryz.cqz{α:Type}{a:Option α}{x y:α}(h:a=some x)(e:x=y):a=some y:=h.trans (congrArg some e)
theorem Tryz.lays156:Go.Proofs.Lays.n156 prog Tryz.lays156_ren:=⟨by kernel_rfl,cqz func66 (by kernel_rfl),cqz func101 (by kernel_rfl),cqz func102 (by kernel_rfl),cqz func103 (by kernel_rfl),cqz func134 (by kernel_rfl),cqz func135 (by kernel_rfl),cqz func172 (by kernel_rfl),cqz func173 (by kernel_rfl),underlying0,isAgg0,sizeOf0,zeroValue0,underlying3,isAgg3,sizeOf3,zeroValue3,underlying4,isAgg4,sizeOf4,zeroValue4,underlying9,isAgg9,sizeOf9,zeroValue9,underlying20,isAgg20,sizeOf20,zeroValue20,underlying54,isAgg54,sizeOf54,zeroValue54,underlying24,isAgg24,sizeOf24,zeroValue24,underlying150,isAgg150,sizeOf150,zeroValue150,underlying152,isAgg152,sizeOf152,zeroValue152,underlying155,isAgg155,sizeOf155,zeroValue155,underlying156,isAgg156,sizeOf156,zeroValue156,underlying188,isAgg188,sizeOf188,zeroValue188,underlying217,isAgg217,sizeOf217,zeroValue217⟩
theorem Tryz.Builder_Extra_156:Builder.Extra prog Tryz.lays156_ren:={
 sizeBuilder:=by kernel_rfl
 liesBuilder:=by kernel_rfl
 t5:=underlying5
 a5:=isAgg5
 z5:=sizeOf5
 v5:=zeroValue5
 infoByte:=by kernel_rfl
 cellsByte:=by kernel_rfl
 sizeByte:=by kernel_rfl
 neB5:=by decide}
open Go.RowKit in
theorem Tryz.strings_Join_none(a:Option Addr)(c:Nat)(sep:ByteArray)(w:World):
 Calls prog 66 #[.slice a 0 c,.string sep] w fun e w' =>e=.returned (.string ⟨#[]⟩)/\w' =w:=Any.strings_Join_none Tryz.lays156 Tryz.Builder_Extra_156 a c sep w
open Go.RowKit in
theorem Tryz.strings_Join(bk o c:Nat)(xs:List ByteArray)(sep:ByteArray)(w:World)(hcells:∀(j:Nat) x,xs[j]? =some x->w.cell? ⟨bk,o+j,none⟩=some (.string x))(hbk:bk < w.heap.size)(hN:xs.length<=140737488355328)(hcap:xs.length<=c)(hlen:(Lib.join (xs.map (·.data.toList)) sep.data.toList).length<=140737488355328):
 Calls prog 66 #[.slice (some ⟨bk,o,none⟩) xs.length c,.string sep] w fun e w' =>e=.returned (.string ⟨(Lib.join (xs.map (·.data.toList)) sep.data.toList).toArray⟩)/\Below w.heap.size w w' :=Any.strings_Join Tryz.lays156 Tryz.Builder_Extra_156 bk o c xs sep w hcells hbk hN hcap hlen
def Tryz.lays161_ren:Go.Shelf.Ren:=⟨fun | 161=>215 | 231=>197 | 227=>199 | 233=>200 | 235=>202 | 228=>223 | 197=>224 | 151=>225 | 260=>243 | 152=>244 | 137=>95 | 119=>260 | 224=>183 | 225=>204 | 217=>127 | 266=>167 | n=>n,fun | 9=>9 | 4=>4 | 3=>3 | 5=>5 | 117=>262 | 116=>261 | 0=>0 | 124=>265 | 105=>278 | 21=>21 | 119=>237 | 46=>184 | 139=>240 | 138=>239 | n=>n,fun | 3=>2 | 4=>3 | n=>n⟩
theorem Tryz.lays161:Go.Proofs.Lays.n161 prog Tryz.lays161_ren:=⟨by kernel_rfl,cqz func260 (by kernel_rfl),cqz func95 (by kernel_rfl),cqz func225 (by kernel_rfl),cqz func244 (by kernel_rfl),cqz func215 (by kernel_rfl),cqz func224 (by kernel_rfl),cqz func127 (by kernel_rfl),cqz func183 (by kernel_rfl),cqz func204 (by kernel_rfl),cqz func199 (by kernel_rfl),cqz func223 (by kernel_rfl),cqz func197 (by kernel_rfl),cqz func200 (by kernel_rfl),cqz func202 (by kernel_rfl),cqz func243 (by kernel_rfl),cqz func167 (by kernel_rfl),underlying0,isAgg0,sizeOf0,zeroValue0,underlying3,isAgg3,sizeOf3,zeroValue3,underlying4,isAgg4,sizeOf4,zeroValue4,underlying5,isAgg5,sizeOf5,zeroValue5,underlying9,isAgg9,sizeOf9,zeroValue9,underlying21,isAgg21,sizeOf21,zeroValue21,underlying184,isAgg184,sizeOf184,zeroValue184,underlying278,isAgg278,sizeOf278,zeroValue278,underlying261,isAgg261,sizeOf261,underlying262,isAgg262,sizeOf262,zeroValue262,underlying237,isAgg237,sizeOf237,underlying265,isAgg265,sizeOf265,zeroValue265,underlying239,isAgg239,sizeOf239,zeroValue239,underlying240,isAgg240,sizeOf240,zeroValue240,by kernel_rfl,by kernel_rfl⟩
def Tryz.lays162_ren:Go.Shelf.Ren:=⟨fun | 162=>196 | 232=>198 | 227=>199 | 234=>201 | 236=>203 | 228=>223 | 271=>226 | 151=>225 | 120=>245 | 197=>224 | 152=>244 | 260=>243 | 137=>95 | 119=>260 | 224=>183 | 225=>204 | 217=>127 | 266=>167 | n=>n,fun | 9=>9 | 4=>4 | 3=>3 | 5=>5 | 117=>262 | 116=>261 | 0=>0 | 124=>265 | 21=>21 | 105=>278 | 46=>184 | 119=>237 | 139=>240 | 138=>239 | n=>n,fun | 3=>2 | 4=>3 | n=>n⟩
theorem Tryz.lays162:Go.Proofs.Lays.n162 prog Tryz.lays162_ren:=⟨by kernel_rfl,cqz func260 (by kernel_rfl),cqz func245 (by kernel_rfl),cqz func95 (by kernel_rfl),cqz func225 (by kernel_rfl),cqz func244 (by kernel_rfl),cqz func196 (by kernel_rfl),cqz func224 (by kernel_rfl),cqz func127 (by kernel_rfl),cqz func183 (by kernel_rfl),cqz func204 (by kernel_rfl),cqz func199 (by kernel_rfl),cqz func223 (by kernel_rfl),cqz func198 (by kernel_rfl),cqz func201 (by kernel_rfl),cqz func203 (by kernel_rfl),cqz func243 (by kernel_rfl),cqz func167 (by kernel_rfl),cqz func226 (by kernel_rfl),underlying0,isAgg0,sizeOf0,zeroValue0,underlying3,isAgg3,sizeOf3,zeroValue3,underlying4,isAgg4,sizeOf4,zeroValue4,underlying5,isAgg5,sizeOf5,zeroValue5,underlying9,isAgg9,sizeOf9,zeroValue9,underlying21,isAgg21,sizeOf21,zeroValue21,underlying184,isAgg184,sizeOf184,zeroValue184,underlying278,isAgg278,sizeOf278,zeroValue278,underlying261,isAgg261,sizeOf261,underlying262,isAgg262,sizeOf262,zeroValue262,underlying237,isAgg237,sizeOf237,underlying265,isAgg265,sizeOf265,zeroValue265,underlying239,isAgg239,sizeOf239,zeroValue239,underlying240,isAgg240,sizeOf240,zeroValue240,by kernel_rfl,by kernel_rfl⟩
def Tryz.lays160_ren:Go.Shelf.Ren:=⟨fun | 160=>162 | 232=>198 | 231=>197 | 227=>199 | 234=>201 | 233=>200 | 236=>203 | 235=>202 | 228=>223 | 271=>226 | 151=>225 | 197=>224 | 120=>245 | 152=>244 | 260=>243 | 137=>95 | 119=>260 | 224=>183 | 225=>204 | 217=>127 | 266=>167 | n=>n,fun | 9=>9 | 4=>4 | 3=>3 | 5=>5 | 117=>262 | 116=>261 | 0=>0 | 124=>265 | 21=>21 | 105=>278 | 46=>184 | 119=>237 | 139=>240 | 138=>239 | n=>n,fun | 3=>2 | 4=>3 | n=>n⟩
theorem Tryz.lays160:Go.Proofs.Lays.n160 prog Tryz.lays160_ren:=⟨by kernel_rfl,cqz func260 (by kernel_rfl),cqz func245 (by kernel_rfl),cqz func95 (by kernel_rfl),cqz func225 (by kernel_rfl),cqz func244 (by kernel_rfl),cqz func162 (by kernel_rfl),cqz func224 (by kernel_rfl),cqz func127 (by kernel_rfl),cqz func183 (by kernel_rfl),cqz func204 (by kernel_rfl),cqz func199 (by kernel_rfl),cqz func223 (by kernel_rfl),cqz func197 (by kernel_rfl),cqz func198 (by kernel_rfl),cqz func200 (by kernel_rfl),cqz func201 (by kernel_rfl),cqz func202 (by kernel_rfl),cqz func203 (by kernel_rfl),cqz func243 (by kernel_rfl),cqz func167 (by kernel_rfl),cqz func226 (by kernel_rfl),underlying0,isAgg0,sizeOf0,zeroValue0,underlying3,isAgg3,sizeOf3,zeroValue3,underlying4,isAgg4,sizeOf4,zeroValue4,underlying5,isAgg5,sizeOf5,zeroValue5,underlying9,isAgg9,sizeOf9,zeroValue9,underlying21,isAgg21,sizeOf21,zeroValue21,underlying184,isAgg184,sizeOf184,zeroValue184,underlying278,isAgg278,sizeOf278,zeroValue278,underlying261,isAgg261,sizeOf261,underlying262,isAgg262,sizeOf262,zeroValue262,underlying237,isAgg237,sizeOf237,underlying265,isAgg265,sizeOf265,zeroValue265,underlying239,isAgg239,sizeOf239,zeroValue239,underlying240,isAgg240,sizeOf240,zeroValue240,by kernel_rfl,by kernel_rfl⟩
def Tryz.lays137_ren:Go.Shelf.Ren:=⟨fun | 137=>95 | 217=>127 | 266=>167 | n=>n,fun | 9=>9 | 5=>5 | 3=>3 | n=>n,fun | n=>n⟩
theorem Tryz.lays137:Go.Proofs.Lays.n137 prog Tryz.lays137_ren:=⟨by kernel_rfl,cqz func95 (by kernel_rfl),cqz func127 (by kernel_rfl),cqz func167 (by kernel_rfl),underlying3,isAgg3,sizeOf3,zeroValue3,underlying5,isAgg5,sizeOf5,zeroValue5,underlying9,isAgg9,sizeOf9,zeroValue9⟩
open Go.RowKit in
theorem Tryz.strings_IndexByte(s:ByteArray)(c:Int)(w:World):
 Calls prog 95 #[.string s,.int .u8 c] w fun e w' =>e=.returned (.int .i64 (Lib.indexByte s.data.toList c.toNat.toUInt8))/\w' =w:=Any.strings_IndexByte Tryz.lays137 s c w
def Tryz.lays104_ren:Go.Shelf.Ren:=⟨fun | 104=>213 | 211=>230 | 207=>168 | n=>n,fun | 9=>9 | 4=>4 | 24=>34 | 3=>3 | n=>n,fun | n=>n⟩
theorem Tryz.lays104:Go.Proofs.Lays.n104 prog Tryz.lays104_ren:=⟨by kernel_rfl,cqz func213 (by kernel_rfl),cqz func168 (by kernel_rfl),cqz func230 (by kernel_rfl),underlying3,isAgg3,sizeOf3,zeroValue3,underlying4,isAgg4,sizeOf4,zeroValue4,underlying9,isAgg9,sizeOf9,zeroValue9,underlying34,isAgg34,sizeOf34,zeroValue34⟩
open Go.RowKit in
theorem Tryz.strings_CutSuffix(s p:ByteArray)(w:World)(hs:s.size<=9223372036854775807):
 Calls prog 213 #[.string s,.string p] w fun e w' =>e=.returned (.tuple #[.string ⟨(Lib.trimSuffix s.data.toList p.data.toList).toArray⟩,.bool (Lib.hasSuffix s.data.toList p.data.toList)])/\w' =w:=Any.strings_CutSuffix Tryz.lays104 s p w hs
def Tryz.lays172_ren:Go.Shelf.Ren:=⟨fun | 172=>231 | 244=>247 | 245=>248 | 247=>261 | 279=>262 | 280=>263 | 281=>264 | 282=>265 | 287=>285 | 316=>286 | 171=>33 | 205=>287 | 321=>300 | 322=>301 | 243=>69 | 246=>104 | 283=>136 | 284=>137 | 285=>138 | 286=>139 | 129=>175 | 317=>174 | 318=>176 | 319=>177 | 320=>178 | 337=>206 | 338=>207 | n=>n,fun | 9=>9 | 3=>3 | 75=>155 | 76=>156 | 4=>4 | 5=>5 | 167=>322 | 37=>24 | 0=>0 | 85=>323 | 2=>2 | 168=>325 | 53=>190 | 175=>345 | 46=>184 | 210=>348 | 127=>188 | 145=>361 | 143=>359 | 21=>21 | 171=>189 | 173=>193 | 212=>221 | 51=>212 | 20=>20 | 213=>222 | 232=>282 | 233=>283 | 80=>158 | n=>n,fun | 15=>6 | 16=>7 | 17=>0 | 18=>4 | 19=>5 | n=>n⟩
theorem Tryz.lays172:Go.Proofs.Lays.n172 prog Tryz.lays172_ren:=⟨by kernel_rfl,cqz func175 (by kernel_rfl),cqz func33 (by kernel_rfl),cqz func231 (by kernel_rfl),cqz func287 (by kernel_rfl),cqz func69 (by kernel_rfl),cqz func247 (by kernel_rfl),cqz func248 (by kernel_rfl),cqz func104 (by kernel_rfl),cqz func261 (by kernel_rfl),cqz func262 (by kernel_rfl),cqz func263 (by kernel_rfl),cqz func264 (by kernel_rfl),cqz func265 (by kernel_rfl),cqz func136 (by kernel_rfl),cqz func137 (by kernel_rfl),cqz func138 (by kernel_rfl),cqz func139 (by kernel_rfl),cqz func285 (by kernel_rfl),cqz func286 (by kernel_rfl),cqz func174 (by kernel_rfl),cqz func176 (by kernel_rfl),cqz func177 (by kernel_rfl),cqz func178 (by kernel_rfl),cqz func300 (by kernel_rfl),cqz func301 (by kernel_rfl),cqz func206 (by kernel_rfl),cqz func207 (by kernel_rfl),underlying0,isAgg0,sizeOf0,zeroValue0,underlying2,isAgg2,sizeOf2,zeroValue2,underlying3,isAgg3,sizeOf3,zeroValue3,underlying4,isAgg4,sizeOf4,zeroValue4,underlying5,isAgg5,sizeOf5,zeroValue5,underlying9,isAgg9,sizeOf9,zeroValue9,underlying20,isAgg20,sizeOf20,zeroValue20,underlying21,isAgg21,sizeOf21,zeroValue21,underlying24,isAgg24,sizeOf24,zeroValue24,underlying184,isAgg184,sizeOf184,zeroValue184,underlying212,isAgg212,sizeOf212,zeroValue212,underlying190,isAgg190,sizeOf190,zeroValue190,underlying155,isAgg155,sizeOf155,zeroValue155,underlying156,isAgg156,sizeOf156,zeroValue156,underlying323,isAgg323,sizeOf323,zeroValue323,underlying188,isAgg188,sizeOf188,zeroValue188,underlying359,isAgg359,sizeOf359,zeroValue359,underlying361,isAgg361,sizeOf361,zeroValue361,underlying322,isAgg322,sizeOf322,zeroValue322,underlying325,isAgg325,sizeOf325,zeroValue325,underlying189,isAgg189,sizeOf189,zeroValue189,underlying193,isAgg193,sizeOf193,zeroValue193,underlying345,isAgg345,sizeOf345,zeroValue345,underlying348,isAgg348,sizeOf348,zeroValue348,underlying221,isAgg221,sizeOf221,zeroValue221,underlying222,isAgg222,sizeOf222,underlying282,isAgg282,sizeOf282,zeroValue282,underlying283,isAgg283,sizeOf283,zeroValue283,by kernel_rfl,by kernel_rfl,by kernel_rfl,by kernel_rfl,by kernel_rfl⟩
open Go.RowKit in
theorem Tryz.strconv_Atoi(s:ByteArray)(n:Int)(hl:s.size<=18)(h:Lib.atoi s.data.toList=some n)(w:World):
 Calls prog 231 #[.string s] w fun e w' =>e=.returned (.tuple #[.int .i64 n,.nilIface])/\∃t,w' =Lib.bytesWorld w 5 t:=Any.strconv_Atoi Tryz.lays172 s n hl h w
def Tryz.laysM171_ren:Go.Shelf.Ren:=⟨fun | 171=>33 | 243=>69 | 246=>104 | 283=>136 | 284=>137 | 285=>138 | 286=>139 | 129=>175 | 317=>174 | 318=>176 | 319=>177 | 320=>178 | 337=>206 | 338=>207 | n=>n,fun | 3=>3 | 9=>9 | 2=>2 | 4=>4 | 171=>189 | 0=>0 | 53=>190 | 37=>24 | 5=>5 | 173=>193 | 212=>221 | 51=>212 | 20=>20 | 213=>222 | 46=>184 | 232=>282 | 233=>283 | n=>n,fun | 17=>0 | 18=>4 | 19=>5 | n=>n⟩
theorem Tryz.laysM171:Go.Proofs.LaysM.n171 prog Tryz.laysM171_ren:={mixed:=by kernel_rfl,f129:=cqz func175 (by kernel_rfl),f171:=cqz func33 (by kernel_rfl),f243:=cqz func69 (by kernel_rfl),f246:=cqz func104 (by kernel_rfl),f283:=cqz func136 (by kernel_rfl),f284:=cqz func137 (by kernel_rfl),f285:=cqz func138 (by kernel_rfl),f286:=cqz func139 (by kernel_rfl),f317:=cqz func174 (by kernel_rfl),f318:=cqz func176 (by kernel_rfl),f319:=cqz func177 (by kernel_rfl),f320:=cqz func178 (by kernel_rfl),f337:=cqz func206 (by kernel_rfl),f338:=cqz func207 (by kernel_rfl),t0:=underlying0,a0:=isAgg0,z0:=sizeOf0,v0:=zeroValue0,t2:=underlying2,a2:=isAgg2,z2:=sizeOf2,v2:=zeroValue2,t3:=underlying3,a3:=isAgg3,z3:=sizeOf3,v3:=zeroValue3,t4:=underlying4,a4:=isAgg4,z4:=sizeOf4,v4:=zeroValue4,t5:=underlying5,a5:=isAgg5,z5:=sizeOf5,v5:=zeroValue5,t9:=underlying9,a9:=isAgg9,z9:=sizeOf9,v9:=zeroValue9,t20:=underlying20,a20:=isAgg20,z20:=sizeOf20,v20:=zeroValue20,t37:=underlying24,a37:=isAgg24,z37:=sizeOf24,v37:=zeroValue24,t46:=underlying184,a46:=isAgg184,z46:=sizeOf184,v46:=zeroValue184,t51:=underlying212,a51:=isAgg212,z51:=sizeOf212,v51:=zeroValue212,t53:=underlying190,a53:=isAgg190,z53:=sizeOf190,v53:=zeroValue190,t171:=underlying189,a171:=isAgg189,z171:=sizeOf189,v171:=zeroValue189,t173:=underlying193,a173:=isAgg193,z173:=sizeOf193,v173:=zeroValue193,t212:=underlying221,a212:=isAgg221,z212:=sizeOf221,v212:=zeroValue221,t213:=underlying222,a213:=isAgg222,z213:=sizeOf222,t232:=underlying282,a232:=isAgg282,z232:=sizeOf282,v232:=zeroValue282,t233:=underlying283,a233:=isAgg283,z233:=sizeOf283,v233:=zeroValue283,g17:=by kernel_rfl,g18:=by kernel_rfl,g19:=by kernel_rfl,i0:=by kernel_rfl,i2:=by kernel_rfl,i3:=by kernel_rfl,i4:=by kernel_rfl,i5:=by kernel_rfl,i9:=by kernel_rfl,i20:=by kernel_rfl,i37:=by kernel_rfl,i46:=by kernel_rfl,i51:=by kernel_rfl,i53:=by kernel_rfl,i171:=by kernel_rfl,i173:=by kernel_rfl,i212:=by kernel_rfl,i232:=by kernel_rfl,i233:=by kernel_rfl,m17:=by kernel_rfl,m18:=by kernel_rfl,m19:=by kernel_rfl}
open Go.RowKit Go.Sort Go.Lib in
theorem Tryz.strconv_Itoa (n : Int) (h0 : -9223372036854775808 <= n) (h1 : n <= 9223372036854775807) (w : World) (htab : Lib.TabIs prog w "internal/strconv.uint64pow10" .u64 Lib.pow10Tab) :
 Calls prog 33 #[.int .i64 n] w fun e w' =>e=.returned (.string ⟨(Lib.itoa n).toArray⟩)/\∃k os,w' =grow (w.drewN k) os:=Any.strconv_Itoa Tryz.laysM171 n h0 h1 w htab
def Tryz.laysC172_ren:Go.Shelf.Ren:=⟨fun | 172=>231 | 244=>247 | 245=>248 | 247=>261 | 279=>262 | 280=>263 | 281=>264 | 282=>265 | 287=>285 | 316=>286 | 171=>33 | 205=>287 | 321=>300 | 322=>301 | 243=>69 | 246=>104 | 283=>136 | 284=>137 | 285=>138 | 286=>139 | 129=>175 | 317=>174 | 318=>176 | 319=>177 | 320=>178 | 337=>206 | 338=>207 | n=>n,fun | 9=>9 | 3=>3 | 75=>155 | 76=>156 | 4=>4 | 5=>5 | 167=>322 | 37=>24 | 0=>0 | 85=>323 | 2=>2 | 168=>325 | 53=>190 | 175=>345 | 46=>184 | 210=>348 | 127=>188 | 145=>361 | 143=>359 | 21=>21 | 171=>189 | 173=>193 | 212=>221 | 51=>212 | 20=>20 | 213=>222 | 232=>282 | 233=>283 | 80=>158 | n=>n,fun | 15=>6 | 16=>7 | 17=>0 | 18=>4 | 19=>5 | n=>n⟩
theorem Tryz.laysC172:Go.Proofs.LaysC.n172 prog Tryz.laysC172_ren:={mixed:=by kernel_rfl,f129:=cqz func175 (by kernel_rfl),f171:=cqz func33 (by kernel_rfl),f172:=cqz func231 (by kernel_rfl),f205:=cqz func287 (by kernel_rfl),f243:=cqz func69 (by kernel_rfl),f244:=cqz func247 (by kernel_rfl),f245:=cqz func248 (by kernel_rfl),f246:=cqz func104 (by kernel_rfl),f247:=cqz func261 (by kernel_rfl),f279:=cqz func262 (by kernel_rfl),f280:=cqz func263 (by kernel_rfl),f281:=cqz func264 (by kernel_rfl),f282:=cqz func265 (by kernel_rfl),f283:=cqz func136 (by kernel_rfl),f284:=cqz func137 (by kernel_rfl),f285:=cqz func138 (by kernel_rfl),f286:=cqz func139 (by kernel_rfl),f287:=cqz func285 (by kernel_rfl),f316:=cqz func286 (by kernel_rfl),f317:=cqz func174 (by kernel_rfl),f318:=cqz func176 (by kernel_rfl),f319:=cqz func177 (by kernel_rfl),f320:=cqz func178 (by kernel_rfl),f321:=cqz func300 (by kernel_rfl),f322:=cqz func301 (by kernel_rfl),f337:=cqz func206 (by kernel_rfl),f338:=cqz func207 (by kernel_rfl),t0:=underlying0,a0:=isAgg0,z0:=sizeOf0,v0:=zeroValue0,t2:=underlying2,a2:=isAgg2,z2:=sizeOf2,v2:=zeroValue2,t3:=underlying3,a3:=isAgg3,z3:=sizeOf3,v3:=zeroValue3,t4:=underlying4,a4:=isAgg4,z4:=sizeOf4,v4:=zeroValue4,t5:=underlying5,a5:=isAgg5,z5:=sizeOf5,v5:=zeroValue5,t9:=underlying9,a9:=isAgg9,z9:=sizeOf9,v9:=zeroValue9,t20:=underlying20,a20:=isAgg20,z20:=sizeOf20,v20:=zeroValue20,t21:=underlying21,a21:=isAgg21,z21:=sizeOf21,v21:=zeroValue21,t37:=underlying24,a37:=isAgg24,z37:=sizeOf24,v37:=zeroValue24,t46:=underlying184,a46:=isAgg184,z46:=sizeOf184,v46:=zeroValue184,t51:=underlying212,a51:=isAgg212,z51:=sizeOf212,v51:=zeroValue212,t53:=underlying190,a53:=isAgg190,z53:=sizeOf190,v53:=zeroValue190,t75:=underlying155,a75:=isAgg155,z75:=sizeOf155,v75:=zeroValue155,t76:=underlying156,a76:=isAgg156,z76:=sizeOf156,v76:=zeroValue156,t85:=underlying323,a85:=isAgg323,z85:=sizeOf323,v85:=zeroValue323,t127:=underlying188,a127:=isAgg188,z127:=sizeOf188,v127:=zeroValue188,t143:=underlying359,a143:=isAgg359,z143:=sizeOf359,v143:=zeroValue359,t145:=underlying361,a145:=isAgg361,z145:=sizeOf361,v145:=zeroValue361,t167:=underlying322,a167:=isAgg322,z167:=sizeOf322,v167:=zeroValue322,t168:=underlying325,a168:=isAgg325,z168:=sizeOf325,v168:=zeroValue325,t171:=underlying189,a171:=isAgg189,z171:=sizeOf189,v171:=zeroValue189,t173:=underlying193,a173:=isAgg193,z173:=sizeOf193,v173:=zeroValue193,t175:=underlying345,a175:=isAgg345,z175:=sizeOf345,v175:=zeroValue345,t210:=underlying348,a210:=isAgg348,z210:=sizeOf348,v210:=zeroValue348,t212:=underlying221,a212:=isAgg221,z212:=sizeOf221,v212:=zeroValue221,t213:=underlying222,a213:=isAgg222,z213:=sizeOf222,t232:=underlying282,a232:=isAgg282,z232:=sizeOf282,v232:=zeroValue282,t233:=underlying283,a233:=isAgg283,z233:=sizeOf283,v233:=zeroValue283,g15:=by kernel_rfl,g16:=by kernel_rfl,g17:=by kernel_rfl,g18:=by kernel_rfl,g19:=by kernel_rfl,t80:=underlying158,a80:=isAgg158,z80:=sizeOf158,v80:=zeroValue158,i0:=by kernel_rfl,i2:=by kernel_rfl,i3:=by kernel_rfl,i4:=by kernel_rfl,i5:=by kernel_rfl,i9:=by kernel_rfl,i20:=by kernel_rfl,i21:=by kernel_rfl,i37:=by kernel_rfl,i46:=by kernel_rfl,i51:=by kernel_rfl,i53:=by kernel_rfl,i75:=by kernel_rfl,i76:=by kernel_rfl,i80:=by kernel_rfl,i85:=by kernel_rfl,i127:=by kernel_rfl,i143:=by kernel_rfl,i145:=by kernel_rfl,i167:=by kernel_rfl,i168:=by kernel_rfl,i171:=by kernel_rfl,i173:=by kernel_rfl,i175:=by kernel_rfl,i210:=by kernel_rfl,i212:=by kernel_rfl,i232:=by kernel_rfl,i233:=by kernel_rfl,m15:=by kernel_rfl,m16:=by kernel_rfl,m17:=by kernel_rfl,m18:=by kernel_rfl,m19:=by kernel_rfl,c0:=by kernel_rfl,c2:=by kernel_rfl,c3:=by kernel_rfl,c4:=by kernel_rfl,c5:=by kernel_rfl,c9:=by kernel_rfl,c20:=by kernel_rfl,c21:=by kernel_rfl,c37:=by kernel_rfl,c46:=by kernel_rfl,c51:=by kernel_rfl,c53:=by kernel_rfl,c75:=by kernel_rfl,c76:=by kernel_rfl,c80:=by kernel_rfl,c85:=by kernel_rfl,c127:=by kernel_rfl,c143:=by kernel_rfl,c145:=by kernel_rfl,c167:=by kernel_rfl,c168:=by kernel_rfl,c171:=by kernel_rfl,c173:=by kernel_rfl,c175:=by kernel_rfl,c210:=by kernel_rfl,c212:=by kernel_rfl,c213:=by kernel_rfl,c232:=by kernel_rfl,c233:=by kernel_rfl}
open Go.RowKit in
theorem Tryz.strconv_Atoi_err_var (s : ByteArray) (hl : s.size <= 18) (h : Lib.atoi s.data.toList = none) (tp : TypeId) (p : Value) (w : World) (hvar : w.var? prog "strconv.ErrSyntax" = some #[.iface tp p]) :
 Calls prog 231 #[.string s] w fun e w' =>∃N,e=.returned (.tuple #[.int .i64 0,.iface 325 (.pointer (some ⟨N,0,none⟩))])/\w.heap.size<=N/\w'.heap[N]? =some (.cells #[.string ⟨#[65,116,111,105]⟩,.string s,.iface tp p] 348 (0,0))/\Below w.heap.size w w' :=Any.strconv_Atoi_err_var Tryz.laysC172 s hl h tp p w hvar
def Tryz.lays144_ren:Go.Shelf.Ren:=⟨fun | 144=>130 | 143=>169 | 219=>166 | 217=>127 | 225=>204 | 224=>183 | 267=>205 | 266=>167 | 314=>227 | n=>n,fun | 9=>9 | 4=>4 | 3=>3 | 5=>5 | 46=>184 | 146=>213 | 51=>212 | n=>n,fun | 1=>1 | n=>n⟩
theorem Tryz.lays144:Go.Proofs.Lays.n144 prog Tryz.lays144_ren:=⟨by kernel_rfl,cqz func169 (by kernel_rfl),cqz func130 (by kernel_rfl),cqz func127 (by kernel_rfl),cqz func166 (by kernel_rfl),cqz func183 (by kernel_rfl),cqz func204 (by kernel_rfl),cqz func167 (by kernel_rfl),cqz func205 (by kernel_rfl),cqz func227 (by kernel_rfl),underlying3,isAgg3,sizeOf3,zeroValue3,underlying4,isAgg4,sizeOf4,zeroValue4,underlying5,isAgg5,sizeOf5,zeroValue5,underlying9,isAgg9,sizeOf9,zeroValue9,underlying184,isAgg184,sizeOf184,zeroValue184,underlying212,isAgg212,sizeOf212,zeroValue212,underlying213,isAgg213,sizeOf213,zeroValue213,by kernel_rfl⟩
open Go.RowKit Go.Lib in
theorem Tryz.strings_Contains(s sub:ByteArray)(m:Int)(w:World)(hs:s.size < 4294967281)(hm:w.cell? ⟨1,0,none⟩=some (.int .i64 m)):
 Calls prog 130 #[.string s,.string sub] w fun e w' =>e=.returned (.bool (Lib.contains s.data.toList sub.data.toList))/\w' =w:=Any.strings_Contains Tryz.lays144 s sub m w hs hm
def Tryz.lays145_ren:Go.Shelf.Ren:=⟨fun | 145=>93 | 220=>126 | 219=>166 | 217=>127 | 225=>204 | 224=>183 | 267=>205 | 266=>167 | 314=>227 | n=>n,fun | 9=>9 | 4=>4 | 59=>102 | 3=>3 | 5=>5 | 46=>184 | 146=>213 | 51=>212 | n=>n,fun | 1=>1 | n=>n⟩
theorem Tryz.lays145:Go.Proofs.Lays.n145 prog Tryz.lays145_ren:=⟨by kernel_rfl,cqz func93 (by kernel_rfl),cqz func127 (by kernel_rfl),cqz func166 (by kernel_rfl),cqz func126 (by kernel_rfl),cqz func183 (by kernel_rfl),cqz func204 (by kernel_rfl),cqz func167 (by kernel_rfl),cqz func205 (by kernel_rfl),cqz func227 (by kernel_rfl),underlying3,isAgg3,sizeOf3,zeroValue3,underlying4,isAgg4,sizeOf4,zeroValue4,underlying5,isAgg5,sizeOf5,zeroValue5,underlying9,isAgg9,sizeOf9,zeroValue9,underlying184,isAgg184,sizeOf184,zeroValue184,underlying212,isAgg212,sizeOf212,zeroValue212,underlying102,isAgg102,sizeOf102,zeroValue102,underlying213,isAgg213,sizeOf213,zeroValue213,by kernel_rfl⟩
open Go.RowKit Go.Lib in
theorem Tryz.strings_Cut(s sep:ByteArray)(m:Int)(w:World)(hs:s.size < 4294967281)(hm:w.cell? ⟨1,0,none⟩=some (.int .i64 m)):
 Calls prog 93 #[.string s,.string sep] w fun e w' =>e=.returned (.tuple #[.string ⟨(Lib.cut s.data.toList sep.data.toList).1.toArray⟩,.string ⟨(Lib.cut s.data.toList sep.data.toList).2.1.toArray⟩,.bool (Lib.cut s.data.toList sep.data.toList).2.2])/\∃n,w' =w.drewN n:=Any.strings_Cut Tryz.lays145 s sep m w hs hm
def Tryz.lays99_ren:Go.Shelf.Ren:=⟨fun | 99=>113 | 206=>147 | n=>n,fun | 9=>9 | 4=>4 | 3=>3 | n=>n,fun | n=>n⟩
theorem Tryz.lays99:Go.Proofs.Lays.n99 prog Tryz.lays99_ren:=⟨by kernel_rfl,cqz func113 (by kernel_rfl),cqz func147 (by kernel_rfl),underlying3,isAgg3,sizeOf3,zeroValue3,underlying4,isAgg4,sizeOf4,zeroValue4,underlying9,isAgg9,sizeOf9,zeroValue9⟩
open Go.RowKit Go.Lib in
theorem Tryz.strings_HasPrefix(s p:ByteArray)(w:World):
 Calls prog 113 #[.string s,.string p] w fun e w' =>e=.returned (.bool (Lib.hasPrefix s.data.toList p.data.toList))/\w' =w:=Any.strings_HasPrefix Tryz.lays99 s p w
def Tryz.lays100_ren:Go.Shelf.Ren:=⟨fun | 100=>129 | 207=>168 | n=>n,fun | 9=>9 | 4=>4 | 3=>3 | n=>n,fun | n=>n⟩
theorem Tryz.lays100:Go.Proofs.Lays.n100 prog Tryz.lays100_ren:=⟨by kernel_rfl,cqz func129 (by kernel_rfl),cqz func168 (by kernel_rfl),underlying3,isAgg3,sizeOf3,zeroValue3,underlying4,isAgg4,sizeOf4,zeroValue4,underlying9,isAgg9,sizeOf9,zeroValue9⟩
open Go.RowKit Go.Lib in
theorem Tryz.strings_HasSuffix(s p:ByteArray)(w:World)(hs:s.size<=9223372036854775807):
 Calls prog 129 #[.string s,.string p] w fun e w' =>e=.returned (.bool (Lib.hasSuffix s.data.toList p.data.toList))/\w' =w:=Any.strings_HasSuffix Tryz.lays100 s p w hs
def Tryz.lays226_ren:Go.Shelf.Ren:=⟨fun | 226=>246 | n=>n,fun | 3=>3 | 4=>4 | n=>n,fun | n=>n⟩
theorem Tryz.lays226:Go.Proofs.Lays.n226 prog Tryz.lays226_ren:=⟨by kernel_rfl,cqz func246 (by kernel_rfl),underlying3,isAgg3,sizeOf3,zeroValue3,underlying4,isAgg4,sizeOf4,zeroValue4⟩
open Go.RowKit Go.Lib in
theorem Tryz.strings_shouldUseASCIISet(n:Int)(w:World):
 Calls prog 246 #[.int .i64 n] w fun e w' =>e=.returned (.bool (decide (8 < n)))/\w' =w:=Any.strings_shouldUseASCIISet Tryz.lays226 n w
def Tryz.lays153_ren:Go.Shelf.Ren:=⟨fun | 153=>228 | 152=>244 | 226=>246 | 227=>199 | 228=>223 | 137=>95 | 119=>260 | 224=>183 | 225=>204 | 217=>127 | 266=>167 | n=>n,fun | 9=>9 | 3=>3 | 4=>4 | 5=>5 | 21=>21 | 117=>262 | 116=>261 | 0=>0 | 46=>184 | 124=>265 | n=>n,fun | n=>n⟩
theorem Tryz.lays153:Go.Proofs.Lays.n153 prog Tryz.lays153_ren:=⟨by kernel_rfl,cqz func260 (by kernel_rfl),cqz func95 (by kernel_rfl),cqz func244 (by kernel_rfl),cqz func228 (by kernel_rfl),cqz func127 (by kernel_rfl),cqz func183 (by kernel_rfl),cqz func204 (by kernel_rfl),cqz func246 (by kernel_rfl),cqz func199 (by kernel_rfl),cqz func223 (by kernel_rfl),cqz func167 (by kernel_rfl),underlying0,isAgg0,sizeOf0,zeroValue0,underlying3,isAgg3,sizeOf3,zeroValue3,underlying4,isAgg4,sizeOf4,zeroValue4,underlying5,isAgg5,sizeOf5,zeroValue5,underlying9,isAgg9,sizeOf9,zeroValue9,underlying21,isAgg21,sizeOf21,zeroValue21,underlying184,isAgg184,sizeOf184,zeroValue184,underlying261,isAgg261,sizeOf261,underlying262,isAgg262,sizeOf262,zeroValue262,underlying265,isAgg265,sizeOf265,zeroValue265⟩
open Go.RowKit Go.Lib in
theorem Tryz.strings_IndexAny_long(hv116:∀w,(zeroValue 261).run prog w=.ok (.agg (Array.replicate 256 (.bool false))) w)(s chars:ByteArray)(w:World)(h2:2<=chars.size)(h8:8 < s.size)(hs:s.size < 4294967281)(hcs:chars.size < 4294967281)(hascii:∀(j:Nat) b,chars.data.toList[j]? =some b->b.toNat < 128):
 Calls prog 228 #[.string s,.string chars] w fun e w' =>e=.returned (.int .i64 (Lib.indexAny s.data.toList chars.data.toList))/\w' =((w.alloc (.cells (Lib.setCells chars.data.toList) 261)).alloc (.cells (Lib.setCells chars.data.toList) 261)):=Any.strings_IndexAny_long Tryz.lays153 hv116 (by kernel_rfl) s chars w h2 h8 hs hcs hascii
open Go.RowKit Go.Lib in
theorem Tryz.strings_IndexAny(hv116:∀w,(zeroValue 261).run prog w=.ok (.agg (Array.replicate 256 (.bool false))) w)(s chars:ByteArray)(w:World)(hs:s.size < 4294967281)(hcs:chars.size < 4294967281)(has:∀(j:Nat) b,s.data.toList[j]? =some b->b.toNat < 128)(hac:∀(j:Nat) b,chars.data.toList[j]? =some b->b.toNat < 128):
 Calls prog 228 #[.string s,.string chars] w fun e w' =>e=.returned (.int .i64 (Lib.indexAny s.data.toList chars.data.toList))/\Below w.heap.size w w' :=Any.strings_IndexAny Tryz.lays153 hv116 (by kernel_rfl) s chars w hs hcs has hac
def Tryz.lays150_ren:Go.Shelf.Ren:=⟨fun | 150=>208 | 153=>228 | 152=>244 | 226=>246 | 227=>199 | 228=>223 | 137=>95 | 119=>260 | 224=>183 | 225=>204 | 217=>127 | 266=>167 | n=>n,fun | 9=>9 | 4=>4 | 3=>3 | 5=>5 | 21=>21 | 117=>262 | 116=>261 | 0=>0 | 46=>184 | 124=>265 | n=>n,fun | n=>n⟩
theorem Tryz.lays150:Go.Proofs.Lays.n150 prog Tryz.lays150_ren:=⟨by kernel_rfl,cqz func260 (by kernel_rfl),cqz func95 (by kernel_rfl),cqz func208 (by kernel_rfl),cqz func244 (by kernel_rfl),cqz func228 (by kernel_rfl),cqz func127 (by kernel_rfl),cqz func183 (by kernel_rfl),cqz func204 (by kernel_rfl),cqz func246 (by kernel_rfl),cqz func199 (by kernel_rfl),cqz func223 (by kernel_rfl),cqz func167 (by kernel_rfl),underlying0,isAgg0,sizeOf0,zeroValue0,underlying3,isAgg3,sizeOf3,zeroValue3,underlying4,isAgg4,sizeOf4,zeroValue4,underlying5,isAgg5,sizeOf5,zeroValue5,underlying9,isAgg9,sizeOf9,zeroValue9,underlying21,isAgg21,sizeOf21,zeroValue21,underlying184,isAgg184,sizeOf184,zeroValue184,underlying261,isAgg261,sizeOf261,underlying262,isAgg262,sizeOf262,zeroValue262,underlying265,isAgg265,sizeOf265,zeroValue265⟩
open Go.RowKit Go.Lib in
theorem Tryz.strings_ContainsAny(hv116:∀w,(zeroValue 261).run prog w=.ok (.agg (Array.replicate 256 (.bool false))) w)(s chars:ByteArray)(w:World)(hs:s.size < 4294967281)(hcs:chars.size < 4294967281)(has:∀(j:Nat) b,s.data.toList[j]? =some b->b.toNat < 128)(hac:∀(j:Nat) b,chars.data.toList[j]? =some b->b.toNat < 128):
 Calls prog 208 #[.string s,.string chars] w fun e w' =>e=.returned (.bool (Lib.containsAny s.data.toList chars.data.toList))/\Below w.heap.size w w' :=Any.strings_ContainsAny Tryz.lays150 hv116 (by kernel_rfl) s chars w hs hcs has hac
def Tryz.lays105_ren:Go.Shelf.Ren:=⟨fun | 105=>100 | 212=>132 | 99=>113 | 165=>101 | 166=>102 | 170=>133 | 169=>103 | 263=>170 | 264=>171 | 206=>147 | 240=>134 | 241=>135 | 276=>172 | 277=>173 | n=>n,fun | 9=>9 | 3=>3 | 4=>4 | 20=>20 | 0=>0 | 46=>184 | 109=>185 | 5=>5 | 72=>152 | 76=>156 | 51=>212 | 146=>213 | 53=>190 | 148=>215 | 70=>150 | 37=>24 | 75=>155 | 127=>188 | 164=>217 | 80=>158 | n=>n,fun | n=>n⟩
theorem Tryz.lays105:Go.Proofs.Lays.n105 prog Tryz.lays105_ren:=⟨by kernel_rfl,cqz func113 (by kernel_rfl),cqz func100 (by kernel_rfl),cqz func101 (by kernel_rfl),cqz func102 (by kernel_rfl),cqz func103 (by kernel_rfl),cqz func133 (by kernel_rfl),cqz func147 (by kernel_rfl),cqz func132 (by kernel_rfl),cqz func134 (by kernel_rfl),cqz func135 (by kernel_rfl),cqz func170 (by kernel_rfl),cqz func171 (by kernel_rfl),cqz func172 (by kernel_rfl),cqz func173 (by kernel_rfl),underlying0,isAgg0,sizeOf0,zeroValue0,underlying3,isAgg3,sizeOf3,zeroValue3,underlying4,isAgg4,sizeOf4,zeroValue4,underlying5,isAgg5,sizeOf5,zeroValue5,underlying9,isAgg9,sizeOf9,zeroValue9,underlying20,isAgg20,sizeOf20,zeroValue20,underlying24,isAgg24,sizeOf24,zeroValue24,underlying184,isAgg184,sizeOf184,zeroValue184,underlying212,isAgg212,sizeOf212,zeroValue212,underlying190,isAgg190,sizeOf190,zeroValue190,underlying150,isAgg150,sizeOf150,zeroValue150,underlying152,isAgg152,sizeOf152,zeroValue152,underlying155,isAgg155,sizeOf155,zeroValue155,underlying156,isAgg156,sizeOf156,zeroValue156,underlying185,isAgg185,sizeOf185,zeroValue185,underlying188,isAgg188,sizeOf188,zeroValue188,underlying213,isAgg213,sizeOf213,zeroValue213,underlying215,isAgg215,sizeOf215,zeroValue215,underlying217,isAgg217,sizeOf217,zeroValue217⟩
theorem Tryz.Builder_Extra_105:Builder.Extra prog Tryz.lays105_ren:={
 sizeBuilder:=by kernel_rfl
 liesBuilder:=by kernel_rfl
 t5:=underlying5
 a5:=isAgg5
 z5:=sizeOf5
 v5:=zeroValue5
 infoByte:=by kernel_rfl
 cellsByte:=by kernel_rfl
 sizeByte:=by kernel_rfl
 neB5:=by decide}
open Go.RowKit Go.Lib in
theorem Tryz.strings_Repeat(s:ByteArray)(c:Nat)(w:World)(hc:c<=9223372036854775807)(hlen:s.size * c<=140737488355328):
 Calls prog 100 #[.string s,.int .i64 c] w fun e w' =>e=.returned (.string ⟨(Lib.repeatL s.data.toList c).toArray⟩)/\Below w.heap.size w w' :=Any.strings_Repeat Tryz.lays105 Tryz.Builder_Extra_105 s c w hc hlen
def Tryz.lays185_ren:Go.Shelf.Ren:=⟨fun | 185=>146 | 187=>181 | 115=>84 | 253=>182 | 224=>183 | 254=>184 | 255=>209 | 291=>210 | n=>n,fun | 37=>24 | 3=>3 | 4=>4 | 0=>0 | 5=>5 | 46=>184 | 9=>9 | 146=>213 | 51=>212 | n=>n,fun | 1=>1 | n=>n⟩
theorem Tryz.lays185:Go.Proofs.Lays.n185 prog Tryz.lays185_ren:=⟨by kernel_rfl,cqz func84 (by kernel_rfl),cqz func146 (by kernel_rfl),cqz func181 (by kernel_rfl),cqz func183 (by kernel_rfl),cqz func182 (by kernel_rfl),cqz func184 (by kernel_rfl),cqz func209 (by kernel_rfl),cqz func210 (by kernel_rfl),underlying0,isAgg0,sizeOf0,zeroValue0,underlying3,isAgg3,sizeOf3,zeroValue3,underlying4,isAgg4,sizeOf4,zeroValue4,underlying5,isAgg5,sizeOf5,zeroValue5,underlying9,isAgg9,sizeOf9,zeroValue9,underlying24,isAgg24,sizeOf24,zeroValue24,underlying184,isAgg184,sizeOf184,zeroValue184,underlying212,isAgg212,sizeOf212,zeroValue212,underlying213,isAgg213,sizeOf213,zeroValue213,by kernel_rfl⟩
open Go.RowKit Go.Lib in
theorem Tryz.bytes_Index_longer(p q:Option Addr)(n c m d:Nat)(w:World)(h2:2<=m)(hnm:n < m)(hm:m<=9223372036854775807):
 Calls prog 146 #[.slice p n c,.slice q m d] w fun e w' =>e=.returned (.int .i64 (-1))/\w' =w:=Any.bytes_Index_longer Tryz.lays185 p q n c m d w h2 hnm hm
def Tryz.lays187_ren:Go.Shelf.Ren:=⟨fun | 187=>181 | 255=>209 | n=>n,fun | 37=>24 | 5=>5 | 3=>3 | n=>n,fun | n=>n⟩
theorem Tryz.lays187:Go.Proofs.Lays.n187 prog Tryz.lays187_ren:=⟨by kernel_rfl,cqz func181 (by kernel_rfl),cqz func209 (by kernel_rfl),underlying3,isAgg3,sizeOf3,zeroValue3,underlying5,isAgg5,sizeOf5,zeroValue5,underlying24,isAgg24,sizeOf24,zeroValue24⟩
open Go.RowKit Go.Lib in
theorem Tryz.bytes_IndexByte_at(a:Addr)(n c:Nat)(xs:List Int)(cv:Int)(w:World)(hx:xs.length=n)(hc:∀i,i < n->w.cell? (a.add i)=some (.int .u8 (xs.getD i 0))):
 Calls prog 181 #[.slice (some a) n c,.int .u8 cv] w fun e w' =>e=.returned (.int .i64 (Lib.indexByte (Lib.bytesOf xs) cv.toNat.toUInt8))/\w' =w:=Any.bytes_IndexByte_at Tryz.lays187 a n c xs cv w hx hc
def Tryz.lays115_ren:Go.Shelf.Ren:=⟨fun | 115=>84 | n=>n,fun | 37=>24 | 4=>4 | 9=>9 | 5=>5 | n=>n,fun | n=>n⟩
theorem Tryz.lays115:Go.Proofs.Lays.n115 prog Tryz.lays115_ren:=⟨by kernel_rfl,cqz func84 (by kernel_rfl),underlying4,isAgg4,sizeOf4,zeroValue4,underlying9,isAgg9,sizeOf9,zeroValue9,underlying24,isAgg24,sizeOf24,zeroValue24⟩
open Go.Proofs Go.RowKit Go.Lib in
theorem Tryz.bytes_Index_at(a1 a2:Addr)(n c1 k c2:Nat)(xs ys:List Int)(m:Int)(w:World)(hx:xs.length=n)(hy:ys.length=k)(hr1:∀x∈xs,0<=x/\x < 256)(hr2:∀y∈ys,0<=y/\y < 256)(hc1:∀i,i < n->w.cell? (a1.add i)=some (.int .u8 (xs.getD i 0)))(hc2:∀i,i < k->w.cell? (a2.add i)=some (.int .u8 (ys.getD i 0)))(hcap:n<=c1)(hs:n < 4294967281)(hk:k<=9223372036854775807)(hm:w.cell? ⟨1,0,none⟩=some (.int .i64 m)):
 Calls prog 146 #[.slice (some a1) n c1,.slice (some a2) k c2] w fun e w' =>e=.returned (.int .i64 (Lib.index (Lib.bytesOf xs) (Lib.bytesOf ys)))/\∃q,w' =w.drewN q:=Any.bytes_Index_at Tryz.lays185 a1 a2 n c1 k c2 xs ys m w hx hy hr1 hr2 hc1 hc2 hcap hs hk hm
def Tryz.laysnb117_ren:Go.Shelf.Ren:=⟨fun | 117=>222 | 115=>84 | n=>n,fun | 37=>24 | 4=>4 | 3=>3 | 9=>9 | 5=>5 | n=>n,fun | n=>n⟩
theorem Tryz.laysnb117:Go.Proofs.Lays.nb117 prog Tryz.laysnb117_ren:={mixed:=by kernel_rfl,f115:=cqz func84 (by kernel_rfl),f117:=cqz func222 (by kernel_rfl),t3:=underlying3,a3:=isAgg3,z3:=sizeOf3,v3:=zeroValue3,t4:=underlying4,a4:=isAgg4,z4:=sizeOf4,v4:=zeroValue4,t9:=underlying9,a9:=isAgg9,z9:=sizeOf9,v9:=zeroValue9,t37:=underlying24,a37:=isAgg24,z37:=sizeOf24,v37:=zeroValue24,t5:=underlying5,a5:=isAgg5,z5:=sizeOf5,v5:=zeroValue5}
def Tryz.laysnb140_ren:Go.Shelf.Ren:=⟨fun | 140=>195 | 117=>222 | 115=>84 | n=>n,fun | 37=>24 | 4=>4 | 3=>3 | 9=>9 | 5=>5 | n=>n,fun | n=>n⟩
theorem Tryz.laysnb140:Go.Proofs.Lays.nb140 prog Tryz.laysnb140_ren:={mixed:=by kernel_rfl,f115:=cqz func84 (by kernel_rfl),f117:=cqz func222 (by kernel_rfl),f140:=cqz func195 (by kernel_rfl),t3:=underlying3,a3:=isAgg3,z3:=sizeOf3,v3:=zeroValue3,t4:=underlying4,a4:=isAgg4,z4:=sizeOf4,v4:=zeroValue4,t9:=underlying9,a9:=isAgg9,z9:=sizeOf9,v9:=zeroValue9,t37:=underlying24,a37:=isAgg24,z37:=sizeOf24,v37:=zeroValue24,t5:=underlying5,a5:=isAgg5,z5:=sizeOf5,v5:=zeroValue5}
theorem Tryz.bytes_Equal(v1 v2:Value)(xs ys:List Int)(w:World)(h1:(convert 24 9 v1).run prog w=.ok (.string (strOfNums xs)) w)(h2:(convert 24 9 v2).run prog w=.ok (.string (strOfNums ys)) w):
 Calls prog 84 #[v1,v2] w fun e w' =>e=.returned (.bool (Lib.bytesOf xs==Lib.bytesOf ys))/\w' =w:=Any.bytes_Equal Tryz.lays115 v1 v2 xs ys w h1 h2
theorem Tryz.bytes_HasSuffix(b1 o1 n c b2 o2 m d:Nat)(xs ys:List Int)(w:World)(hx:xs.length=n)(hy:ys.length=m)(hnc:n<=c)(hbig:n<=9223372036854775807)(hc1:∀i,i < n->w.cell? ⟨b1,o1+i,none⟩=some (.int .u8 (xs.getD i 0)))(hc2:∀i,i < m->w.cell? ⟨b2,o2+i,none⟩=some (.int .u8 (ys.getD i 0))):
 Calls prog 222 #[.slice (some ⟨b1,o1,none⟩) n c,.slice (some ⟨b2,o2,none⟩) m d] w fun e w' =>e=.returned (.bool (Lib.hasSuffix (Lib.bytesOf xs) (Lib.bytesOf ys)))/\w' =w:=Any.bytes_HasSuffix Tryz.laysnb117 b1 o1 n c b2 o2 m d xs ys w hx hy hnc hbig hc1 hc2
theorem Tryz.bytes_TrimSuffix(b1 o1 n c b2 o2 m d:Nat)(xs ys:List Int)(w:World)(hx:xs.length=n)(hy:ys.length=m)(hnc:n<=c)(hbig:n<=9223372036854775807)(hc1:∀i,i < n->w.cell? ⟨b1,o1+i,none⟩=some (.int .u8 (xs.getD i 0)))(hc2:∀i,i < m->w.cell? ⟨b2,o2+i,none⟩=some (.int .u8 (ys.getD i 0))):
 Calls prog 195 #[.slice (some ⟨b1,o1,none⟩) n c,.slice (some ⟨b2,o2,none⟩) m d] w fun e w' =>e=.returned (Lib.bytesTrimSuffix b1 o1 n c xs ys)/\w' =w:=Any.bytes_TrimSuffix Tryz.laysnb140 b1 o1 n c b2 o2 m d xs ys w hx hy hnc hbig hc1 hc2
theorem Tryz.bytes_IndexByte(b o n c:Nat)(xs:List Int)(cv:Int)(w:World)(hx:xs.length=n)(hc:∀i,i < n->w.cell? ⟨b,o+i,none⟩=some (.int .u8 (xs.getD i 0))):
 Calls prog 181 #[.slice (some ⟨b,o,none⟩) n c,.int .u8 cv] w fun e w' =>e=.returned (.int .i64 (Lib.indexByte (Lib.bytesOf xs) cv.toNat.toUInt8))/\w' =w:=Any.bytes_IndexByte Tryz.lays187 b o n c xs cv w hx hc
theorem Tryz.bytes_IndexByte_nil(cv:Int)(w:World):
 Calls prog 181 #[.slice none 0 0,.int .u8 cv] w fun e w' =>e=.returned (.int .i64 (-1))/\w' =w:=Any.bytes_IndexByte_nil Tryz.lays187 cv w
end Go.Proofs
namespace Go.Proofs.YtpphhgbmooofgaaGreatDoor
open Go.RowKit Go.Proofs.Tryz
theorem YKa(g:G)(q:Nat):Old (fun _=>False) g ⟨g.w.drewN q,g.u,g.loc⟩:=
 ⟨rfl,rfl,rfl,⟨jAs _,fun _ _=>jAs _,fun _ _ _ _=>rfl,fun _ h=>h⟩,fun _ _ _=>⟨rfl,rfl⟩⟩
theorem ZDa{g:G}{s:Str}{v:Value}(h:Rel g (.s s) v):v=.string (strB s):=zMa h
theorem zJa(s:Str)(c:UInt8)(r:Int)(hr:zva s c=some r):Run prog 95 [.s s,.u8 c] (.i r):=by
 unfold zva at hr;cases hr;refine ⟨⟨_,_,⟨func95,rfl,by kernel_rfl⟩⟩,fun g vs hw hg ha=>?_⟩;obtain ⟨hsz,hrel⟩:=ha;obtain ⟨l⟩:=vs
 match l,hsz with
 | [x,y],_=>
  obtain rfl:=ZDa (hrel 0 _ rfl);have e2:y=.int .u8 (c.toNat:Int):=zMa (hrel 1 _ rfl);subst e2;refine callsIn_wide.2 ((Tryz.strings_IndexByte (strB s) (c.toNat:Int) g.w).mono ?_);rintro e w' ⟨rfl,rfl⟩;refine ⟨g,_,rfl,rfl,Old.refl _ g,hw,rfl,?_⟩;simp[strB];exact .pv (.b rfl)
theorem wDa(a0:Int)(r:Bool)(hr:z2a a0=some r):Run prog 260 [.pv (.b (.int .i32 a0))] (.bo r):=by
 unfold z2a at hr;refine rfx (fn:=Tryz.f260) func260 fun g0 hg=>?_
 refine jq 7 hr [0] [] (fun j1=>[(3,.bo j1)]) (fun _=>[]) (fun j1 hr=>?_) (fun j1 hr=>?_)
 .refine bx 4 6 hr (fun c2 hr=>?_) fun c2 hr=>?_
  .exact jx 5 hr
  exact jx 5 hr
 refine ax 0 3 hr (fun hr=>?_) fun hr=>?_
 .exact kx 8 hr
 refine jq 0 hr [] [] (fun j4=>[(10,.bo j4)]) (fun _=>[]) (fun j4 hr=>?_) (fun j4 hr=>?_)
 .refine bx 4 13 hr (fun c5 hr=>?_) fun c5 hr=>?_
  .exact jx 5 hr
  exact jx 5 hr
 refine ax 0 10 hr (fun hr=>?_) fun hr=>?_
 .exact kx 8 hr
 exact kx 9 hr
theorem vRa(a0:Str)(a1:Int)(r:Int)(hr:zPa a0 a1=some r):Run prog 244 [.s a0,.pv (.b (.int .i32 a1))] (.i r):=by
 unfold zPa at hr;refine rfx (fn:=Tryz.f244) func244 fun g0 hg=>?_
 refine rn tk 6 rfl<|jb hr (fun j1=>[(0,.s a0),(1,.pv (.b (.int .i32 a1))),(160,.bo j1)]) (fun j1=>[]) (fun j1 hr=>?_) (fun j1 hr=>?_)
 .refine bx 4 163 hr (fun c2 hr=>?_) fun c2 hr=>?_
  .exact jx 5 hr
  exact jx 5 hr
 refine ax 0 160 hr (fun hr=>?_) fun hr=>?_
 .refine clx 5 hr (zJa _ _) fun v4 _ hr=>?_
  exact kx 5 hr
 refine ax 7 171 hr (fun hr=>?_) fun hr=>?_
 .refine rn tk 4 rfl<|wr 1175 tk rfl rfl rfl rfl<|rn tk 3 rfl<|al2 hr (fun s7=>[(175,.ptr 1175 0)]) (fun s7=>[(1175,.it (strB a0) s7)]) (.exit 9) (fun b8=>[]) (fun b8=>[]) .ret (fun b9=>[(4,.i b9)]) (fun b9=>[]) rfl rfl (fun s7 x11 hr=>?_) (fun b8 hr=>?_) (fun b9 hr=>?_)
  .unfold kEa at hr;refine rn tk 2 rfl<|wnx hr rfl rfl rfl (fun c12 hr=>?_) (fun c12 hr=>?_)
   .refine ax 22 181 hr (fun hr=>?_) fun hr=>?_
    .exact ox 8 hr
    exact cx 2 hr
   exact ox 7 hr
  .exact kx 9 hr
  exact kx 3 hr
 refine clx 3 hr (wDa _) fun v14 _ hr=>?_
 refine ax 4 183 hr (fun hr=>?_) fun hr=>?_
 .exact kx 7 hr
 refine rn tk 29 rfl<|al2 hr (fun s17=>[(0,.s a0),(7,.s ((wWa a1))),(8,.i ((w64 ((((wWa a1)).length:Int) - 1)))),(9,.i s17)]) (fun s17=>[]) (.exit 1) (fun b18=>[]) (fun b18=>[]) .ret (fun b19=>[(4,.i b19)]) (fun b19=>[]) rfl rfl (fun s17 x21 hr=>?_) (fun b18 hr=>?_) (fun b19 hr=>?_)
 .unfold kGa at hr;refine ax 9 26 hr (fun hr=>?_) fun hr=>?_
  .refine rn tk 4 rfl<|jk (fun j23=>[(0,.s a0),(7,.s ((wWa a1))),(8,.i j23.1),(9,.i j23.2)]) (fun j23=>[]) (fun j23=>kFa a0 a1 j23=some x21) ?_ ?_
   .refine rn tk 1 rfl ?_;obtain ⟨v24,h25,hr⟩:=zaa hr;obtain ⟨v26,h27,hr⟩:=zaa hr;refine dq 0 6 [] [(2,.u8 v24),(5,.u8 v26)] .nil (.cons rfl rfl (k4a (Kya rfl rfl zCa h25)) (.cons rfl rfl (k4a (Kya rfl rfl zCa h27)) .nil)) ?_ mixed;refine ax 3 33 hr (fun hr=>?_) fun hr=>?_
    .refine rn tk 1 rfl ?_;obtain ⟨v29,h30,hr⟩:=zaa hr;obtain ⟨v31,h32,hr⟩:=zaa hr;refine dq 0 7 [] [(3,.s v29),(6,.u8 v31)] .nil (.cons rfl rfl (k4a (J0a rfl rfl zCa h30)) (.cons rfl rfl (k4a (Kya rfl rfl zCa h32)) .nil)) ?_ mixed;refine clx 0 hr (zJa _ _) fun v33 _ hr=>?_
     refine ax 10 43 hr (fun hr=>?_) fun hr=>?_
     .exact ox 10 hr
     refine rn tk 9 rfl<|jn (((w64 ((((wWa a1)).length:Int) - 1)),(w64 (s17+(w64 (v33+1)))))) hr rfl rfl
    refine rn tk 1 rfl<|jn (((w64 ((((wWa a1)).length:Int) - 1)),s17)) hr rfl rfl
   intro j23 hr;unfold kFa at hr;refine rn tk 7 rfl<|al1 hr (fun s36=>[(0,.s a0),(7,.s ((wWa a1))),(8,.i j23.1),(9,.i j23.2),(12,.i s36)]) (fun s36=>[]) (.exit 3) (fun b37=>[(8,.i j23.1),(9,.i j23.2)]) (fun b37=>[]) rfl rfl (fun s36 x38 hr=>?_) (fun b37 hr=>?_)
   .unfold v3a at hr;refine ax 9 51 hr (fun hr=>?_) fun hr=>?_
    .refine rn tk 5 rfl ?_;obtain ⟨v40,h41,hr⟩:=zaa hr;obtain ⟨v42,h43,hr⟩:=zaa hr;refine dq 0 10 [] [(4,.u8 v40),(9,.u8 v42)] .nil (.cons rfl rfl (k4a (Kya rfl rfl zCa h41)) (.cons rfl rfl (k4a (Kya rfl rfl zCa h43)) .nil)) ?_ mixed;refine ax 3 64 hr (fun hr=>?_) fun hr=>?_
     .cases hr
     exact cx 8 hr
    exact ox 2 hr
   exact ox 15 hr
  exact ox 2 hr
 .exact kx 12 hr
 exact kx 4 hr
theorem v1a(a0:Int)(r:Bool)(hr:zya a0=some r):Run prog 246 [.i a0] (.bo r):=by
 unfold zya at hr;refine rfx (fn:=Tryz.f246) func246 fun g0 hg=>?_
 exact kx 13 hr
theorem jja(a0:Str)(a1:Str)(r:Int)(hr:qxa a0 a1=some r):Run prog 228 [.s a0,.s a1] (.i r):=by
 unfold qxa at hr;refine rfx (fn:=Tryz.f228) func228 fun g0 hg=>?_
 refine ax 12 12 hr (fun hr=>?_) fun hr=>?_
 .exact kx 7 hr
 refine ax 10 15 hr (fun hr=>?_) fun hr=>?_
 .refine rn tk 3 rfl ?_;obtain ⟨v3,h4,hr⟩:=zaa hr;refine ws tk h4 rfl rfl rfl rfl<|wur tk rfl rfl rfl<|rn tk 3 rfl<|jb hr (fun j5=>[(0,.s a0),(5,.pv (.b (.int .i32 j5)))]) (fun j5=>[]) (fun j5 hr=>?_) (fun j5 hr=>?_)
  .refine ax 6 20 hr (fun hr=>?_) fun hr=>?_
   .exact jx 3 hr
   exact jx 1 hr
  refine clx 4 hr (vRa _ _) fun v7 _ hr=>?_
  exact kx 5 hr
 refine clx 7 hr (v1a _) fun v9 _ hr=>?_
 refine ax 2 26 hr (fun hr=>?_) fun hr=>?_
 .refine rn tk 3 rfl ?_;cases hr
 refine rn tk 6 rfl<|wr 1045 tk rfl rfl rfl rfl<|rn tk 3 rfl<|al2 hr (fun s12=>[(1,.s a1),(45,.ptr 1045 0)]) (fun s12=>[(1045,.it (strB a0) s12)]) (.exit 2) (fun b13=>[]) (fun b13=>[]) .ret (fun b14=>[(4,.i b14)]) (fun b14=>[]) rfl rfl (fun s12 x16 hr=>?_) (fun b13 hr=>?_) (fun b14 hr=>?_)
 .unfold kHa at hr;refine rn tk 2 rfl<|wnx hr rfl rfl rfl (fun c17 hr=>?_) (fun c17 hr=>?_)
  .refine clx 20 hr (vRa _ _) fun v18 _ hr=>?_
   refine ax 3 53 hr (fun hr=>?_) fun hr=>?_
   .exact ox 8 hr
   exact cx 2 hr
  exact ox 7 hr
 .exact kx 8 hr
 exact kx 2 hr
theorem V1a(g:G)(vs:Array Value)(t:TypeId):Old (fun _=>False) g ⟨g.w.alloc (.cells vs t),fun k=>if k=g.w.heap.size then 0 else g.u k,g.loc⟩:=by
 have h:=yaa g vs t 0 0 (g.loc 0);have e:(g.alloc vs t 0 0 (g.loc 0))=⟨g.w.alloc (.cells vs t),fun k=>if k=g.w.heap.size then 0 else g.u k,g.loc⟩:=by
  unfold G.alloc
  congr 1
  funext k;split
  .rename_i hk;rw[hk]
  rfl
 rw[<-e];exact h
theorem YLa{g:G}(h:Wf g)(vs:Array Value)(t:TypeId):Wf ⟨g.w.alloc (.cells vs t),fun k=>if k=g.w.heap.size then 0 else g.u k,g.loc⟩:=by
 intro k hk;have hk:g.w.heap.size+1<=k:=by simpa using hk
 show (if k=g.w.heap.size then 0 else g.u k)=0;rw[if_neg (by omega)];exact h k (by omega)
theorem z2b{t:Str}(h:VPa t=true):∀(j:Nat) b,(strB t).data.toList[j]? =some b->b.toNat < 128:=fun j b hb=>VUa h (jAg hb)
theorem jOa(s t:Str)(r:Int)(hr:kta s t=some r):Run prog 228 [.s s,.s t] (.i r):=by
 unfold kta at hr;split at hr
 case isFalse=>cases hr
 rename_i hc;obtain ⟨h1,h2,h3,h4⟩:=hc;by_cases h8:s.length<=8
 .exact jja s t r (by rw[Yxa s t h8 h3 h2 h4];exact hr)
 cases hr;refine ⟨⟨_,_,⟨func228,rfl,by kernel_rfl⟩⟩,fun g vs hw hg ha=>?_⟩;obtain ⟨hsz,hrel⟩:=ha;obtain ⟨l⟩:=vs
 match l,hsz with
 | [x,y],_=>
  obtain rfl:=ZDa (hrel 0 _ rfl);obtain rfl:=ZDa (hrel 1 _ rfl);have h116:(prog.info? 261).map (fun i=>(i.zero,i.size))=some (some (.agg (Array.replicate 256 (.bool false))),256):=by kernel_rfl
  have hz:=(zero_of_info h116).1;refine callsIn_wide.2 ((Tryz.strings_IndexAny_long hz (strB s) (strB t) g.w (by rw[zwa];exact h3) (by rw[zwa];omega) (by rw[zwa];exact h1) (by rw[zwa];exact h2) (z2b h4)).mono ?_);rintro e w' ⟨rfl,rfl⟩;have o1:=V1a g (Lib.setCells t) 261;have w1:=YLa hw (Lib.setCells t) 261;have o2:=V1a ⟨g.w.alloc (.cells (Lib.setCells t) 261),fun k=>if k=g.w.heap.size then 0 else g.u k,g.loc⟩ (Lib.setCells t) 261;have w2:=YLa w1 (Lib.setCells t) 261;have o3:Old (fun _=>False) g _:=o1.trans (o2.mono (S' :=fun b=>False∨g.w.heap.size<=b) (by intro b _ hf;exact hf.elim));exact ⟨⟨_,_,_⟩,_,rfl,(by rfl),o3,w2,(by rfl),.pv (.b rfl)⟩
theorem yEa(a0:Str)(a1:Str)(r:Bool)(hr:zOa a0 a1=some r):Run prog 208 [.s a0,.s a1] (.bo r):=by
 unfold zOa at hr;refine rfx (fn:=f208) func208 fun g0 hg=>?_
 refine clx 9 hr (jOa _ _) fun v1 _ hr=>?_
 exact kx 5 hr
theorem WSa(a0:Str)(r:Bool)(hr:y8a a0=some r):Run prog 180 [.s a0] (.bo r):=by
 unfold y8a at hr;refine rfx (fn:=f180) func180 fun g0 hg=>?_
 refine clx 8 hr (yEa _ _) fun v1 _ hr=>?_
 exact kx 4 hr
theorem Vwa(a0:Str)(r:Bool)(hr:yia a0=some r):Run prog 141 [.s a0] (.bo r):=by
 unfold yia at hr;refine rfx (fn:=f141) func141 fun g0 hg=>?_
 refine jq 5 hr [] [] (fun j1=>[(2,.bo j1)]) (fun _=>[]) (fun j1 hr=>?_) (fun j1 hr=>?_)
 .refine clx 2 hr (WSa _) fun v2 _ hr=>?_
  refine bx 2 6 hr (fun c4 hr=>?_) fun c4 hr=>?_
  .refine bx 3 9 hr (fun c5 hr=>?_) fun c5 hr=>?_
   .exact jx 17 hr
   refine rn tk 1 rfl ?_;obtain ⟨v6,h7,hr⟩:=zaa hr;refine ug rfl rfl rfl<|ws tk h7 rfl rfl rfl rfl ?_;obtain ⟨v8,h9,hr⟩:=zaa hr;refine ug rfl rfl rfl<|cl (qua _ _ h9) rfl rfl ?_;refine bx 2 14 hr (fun c10 hr=>?_) fun c10 hr=>?_
   .refine rn tk 4 rfl ?_;obtain ⟨v11,h12,hr⟩:=zaa hr;refine ug rfl rfl rfl<|ws tk h12 rfl rfl rfl rfl ?_;obtain ⟨v13,h14,hr⟩:=zaa hr;refine ug rfl rfl rfl<|cl (qua _ _ h14) rfl rfl ?_;exact jx 6 hr
   exact jx 12 hr
  exact jx 20 hr
 exact kx 1 hr
theorem wga(a0:Str)(a1:Str)(r:(List Str) × zma)(hr:vLa a0 a1=some r):Run prog 105 [.s a0,.s a1] (.tup [.l cS r.1,.agg [.i r.2.Code,.i r.2.Index]]):=by
 unfold vLa at hr;refine rfx (fn:=Tryz.f105) func105 fun g0 hg=>?_
 refine clx 11 hr (WRa _) fun v1 _ hr=>?_
 refine ax 4 12 hr (fun hr=>?_) fun hr=>?_
 .refine clx 2 hr (zga _ _) fun v4 _ hr=>?_
  exact kx 7 hr
 refine ax 8 17 hr (fun hr=>?_) fun hr=>?_
 .refine clx 2 hr (zga _ _) fun v7 _ hr=>?_
  exact kx 7 hr
 refine clx 3 hr (Vwa _) fun v9 _ hr=>?_
 refine ax 4 22 hr (fun hr=>?_) fun hr=>?_
 .refine clx 2 hr (zga _ _) fun v12 _ hr=>?_
  exact kx 7 hr
 refine rn tk 6 rfl ?_;obtain ⟨v14,h15,hr⟩:=zaa hr;refine wc h15 rfl rfl rfl<|rn tk 1 rfl ?_;obtain ⟨v16,h17,hr⟩:=zaa hr;refine wc h17 rfl rfl rfl<|rn tk 10 rfl ?_;refine kaa 1008 (d:=8) 9 1 rfl rfl rfl (hO ?_);refine aq1 4 hr [5,8] [5] (fun s18=>[(6,.s s18.1),(7,.i s18.2.1)]) (fun s18=>[(1008,.row 9 false 1 (List.map cS s18.2.2))]) (.exit 1) [5,8] [5] (fun b19=>[(6,.s b19.1)]) (fun b19=>[(1008,.row 9 false 1 (List.map cS b19.2))]) (fun s18 x20 hr=>?_) (fun b19 hr=>?_)
 .unfold vKa at hr;refine ax 8 36 hr (fun hr=>?_) fun hr=>?_
  .refine clx 7 hr (Vva _ _) fun v22 _ hr=>?_
   refine ax 10 41 hr (fun hr=>?_) fun hr=>?_
   .exact ox 3 hr
   refine rn tk 7 rfl ?_;obtain ⟨v25,h26,hr⟩:=zaa hr;refine wscH tk h26 rfl rfl rfl rfl<|wz cS ([v25]:List Str) tk rfl rfl (fun _=>rfl) rfl rfl rfl ?_;obtain ⟨v27,h28,hr⟩:=zaa hr;refine wa tk h28 rfl rfl rfl rfl (fun _=>rfl) rfl rfl<|rn tk 6 rfl ?_;obtain ⟨v29,h30,hr⟩:=zaa hr;refine wscL tk h30 rfl rfl rfl rfl ?_;exact cx 4 hr
  exact ox 2 hr
 refine rn tk 6 rfl<|wz cS ([b19.1]:List Str) tk rfl rfl (fun _=>rfl) rfl rfl rfl ?_;obtain ⟨v31,h32,hr⟩:=zaa hr;refine wa tk h32 rfl rfl rfl rfl (fun _=>rfl) rfl rfl<|rn tk 7 rfl<|wnh tk rfl rfl rfl rfl<|rn tk 4 rfl ?_;refine kTa (d:=55) (F:=cS) (l:=v31) rfl rfl (hC ?_);refine aq2 0 hr [5,8,55,56] [1008,5] (fun s34=>[(57,.i s34)]) (fun _=>[]) (.exit 3) [5,8] [1008,5] (fun _=>[]) (fun _=>[]) .ret [5] [] (fun b36=>[(4,.l cS b36.1)]) (fun b36=>[(5,.cells [.i b36.2.Code,.i b36.2.Index])]) (fun s34 x38 hr=>?_) (fun b35 hr=>?_) (fun b36 hr=>?_)
 .unfold wMa at hr;refine ax 6 58 hr (fun hr=>?_) fun hr=>?_
  .refine rn tk 7 rfl ?_;obtain ⟨v40,h41,hr⟩:=zaa hr;refine wi tk h41 rfl rfl rfl rfl rfl ?_;refine ax 12 64 hr (fun hr=>?_) fun hr=>?_
   .refine clx 3 hr (zga _ _) fun v43 _ hr=>?_
    exact ox 7 hr
   exact cx 7 hr
  exact ox 2 hr
 .refine clx 5 hr zka fun v45 _ hr=>?_
  refine rn tk 4 rfl ?_;refine kTa (d:=4) (F:=cS) (l:=v31) rfl rfl (hC ?_);exact kx 1 hr
 exact kx 2 hr
theorem k2a(a0:List zca)(r:zma)(hr:z8a a0=some r):Run prog 80 [.l zca.pc a0] (.agg [.i r.Code,.i r.Index]):=by
 unfold z8a at hr;refine rfx (fn:=f80) func80 fun g0 hg=>?_
 refine rn tk 9 rfl<|wn tk rfl rfl rfl ?_;refine ax 3 9 hr (fun hr=>?_) fun hr=>?_
 .refine clx 2 hr (zga _ _) fun v2 _ hr=>?_
  exact kx 5 hr
 refine rn tk 6 rfl<|wn tk rfl rfl rfl ?_;refine aq2 4 hr [2,11,12] [2] (fun s4=>[(13,.i s4)]) (fun _=>[]) (.exit 0) [2] [2] (fun _=>[]) (fun _=>[]) .ret [2] [] (fun _=>[]) (fun b6=>[(2,.cells [.i b6.Code,.i b6.Index])]) (fun s4 x8 hr=>?_) (fun b5 hr=>?_) (fun b6 hr=>?_)
 .unfold qia at hr;refine ax 6 14 hr (fun hr=>?_) fun hr=>?_
  .refine rn tk 7 rfl ?_;obtain ⟨v10,h11,hr⟩:=zaa hr;refine wi tk h11 rfl rfl rfl rfl rfl ?_;refine clx 12 hr (wga _ _) fun v12 _ hr=>?_
   refine clx 11 hr (zha _) fun v14 _ hr=>?_
   refine ax 2 27 hr (fun hr=>?_) fun hr=>?_
   .refine clx 5 hr (zga _ _) fun v17 _ hr=>?_
    exact ox 6 hr
   exact cx 7 hr
  exact ox 2 hr
 .refine clx 4 hr zka fun v19 _ hr=>?_
  exact kx 4 hr
 exact kx 2 hr
theorem w8a(a0:List UInt8)(r:Int)(hr:vqa a0=some r):Run prog 109 [.l cU a0] (.i r):=by
 unfold vqa at hr;refine rfx (fn:=f109) func109 fun g0 hg=>?_
 refine aq2 17 hr [0] [] (fun s1=>[(3,.i s1.1),(4,.i s1.2)]) (fun _=>[]) (.exit 0) [] [] (fun _=>[]) (fun _=>[]) .ret [] [] (fun b3=>[(2,.i b3)]) (fun _=>[]) (fun s1 x5 hr=>?_) (fun b2 hr=>?_) (fun b3 hr=>?_)
 .unfold qza at hr;refine rn tk 5 rfl<|wn tk rfl rfl rfl ?_;refine ax 3 9 hr (fun hr=>?_) fun hr=>?_
  .refine jkq 2 [0] [] (fun j7=>[(3,.i j7.1),(4,.i j7.2)]) (fun _=>[]) (fun j7=>q5a j7=some x5) ?_ ?_
   .refine rn tk 5 rfl ?_;obtain ⟨v8,h9,hr⟩:=zaa hr;refine wi tk h9 rfl rfl rfl rfl rfl ?_;refine jq 5 hr [0,3,4,5] [] (fun j10=>[(32,.bo j10)]) (fun _=>[]) (fun j10 hr=>?_) (fun j10 hr=>?_)
    .refine bx 4 18 hr (fun c11 hr=>?_) fun c11 hr=>?_
     .refine rn tk 3 rfl<|ug rfl rfl rfl<|wn tk rfl rfl rfl ?_;refine bx 3 25 hr (fun c12 hr=>?_) fun c12 hr=>?_
      .refine rn tk 3 rfl ?_;obtain ⟨v13,h14,hr⟩:=zaa hr;refine ug rfl rfl rfl<|wi tk h14 rfl rfl rfl rfl rfl ?_;exact jx 4 hr
      exact jx 8 hr
     exact jx 15 hr
    refine ax 0 32 hr (fun hr=>?_) fun hr=>?_
    .refine rn tk 15 rfl<|jn ((0,(w64 (s1.2+1)))) hr rfl rfl
    refine jq 3 hr [0,3,4] [] (fun j16=>[(40,.bo j16)]) (fun _=>[]) (fun j16 hr=>?_) (fun j16 hr=>?_)
    .refine bx 4 37 hr (fun c17 hr=>?_) fun c17 hr=>?_
     .exact jx 4 hr
     exact jx 4 hr
    refine ax 0 40 hr (fun hr=>?_) fun hr=>?_
    .exact ox 9 hr
    refine ax 15 44 hr (fun hr=>?_) fun hr=>?_
    .exact ox 8 hr
    refine rn tk 2 rfl<|jn (((w64 (s1.1+1)),s1.2)) hr rfl rfl
   intro j7 hr;unfold q5a at hr;exact cx 5 hr
  exact ox 2 hr
 .exact kx 8 hr
 exact kx 2 hr
theorem Qla(a0:List UInt8)(r:zma)(hr:vMa a0=some r):Run prog 81 [.l cU a0] (.agg [.i r.Code,.i r.Index]):=by
 unfold vMa at hr;refine rfx (fn:=f81) func81 fun g0 hg=>?_
 refine clx 9 hr (w8a _) fun v1 _ hr=>?_
 refine ax 9 5 hr (fun hr=>?_) fun hr=>?_
 .refine clx 2 hr (zga _ _) fun v4 _ hr=>?_
  exact kx 6 hr
 refine ax 6 8 hr (fun hr=>?_) fun hr=>?_
 .refine clx 2 hr (zga _ _) fun v7 _ hr=>?_
  exact kx 6 hr
 refine clx 5 hr zka fun v9 _ hr=>?_
 exact kx 4 hr
section
open Go.RowKit Go.Lib Go.Proofs.Tryz
variable {E:Env} {T:Tab} {fr:Fr} {σ:Sto} {k:KS} {l:List Oper} {cs:List (Option AV)} {all:List Node} {H:List Bool} {K:Post} {g:GS}
abbrev HvF:=Fr->Sto->Fr × Sto
def hget:List (Nat × HvF)->Nat->Option HvF
 | [],_=>none
 | (k,c)::r,i=>bif Nat.beq k i then some c else hget r i
def mrun(T:Tab)(tl:List (Nat × AV))(hl:List (Nat × HvF)):List Oper->Nat->Fr->Sto->Option (List (Option AV))
 | [],_,_,_=>some []
 | o::r,i,fr,σ=>match hget hl i with
  | some F=>(match F fr σ with | (f',s')=>(match mrun T tl hl r (i+1) f' s' with | some cs=>some (none::cs) | none=>none))
  | none=>(match o.dst with
   | none=>none
   | some d=>(match (match tget tl i with | some c=>some c | none=>qval T fr.ev σ o.op) with
    | some c=>(match mrun T tl hl r (i+1) ((d,c)::fr) σ with | some cs=>some (some c::cs) | none=>none)
    | none=>none))
def runH(hl:List (Nat × HvF)):List Nat->Fr->Sto->Option (Fr × Sto)
 | [],f,s=>some (f,s)
 | i::r,f,s=>match hget hl i with
  | some F=>(match F f s with | (f',s')=>runH hl r f' s')
  | none=>none
def ndsF(n:Nat)(hl:List (Nat × HvF))(fr:Fr)(σ:Sto):List (List Nat)->Option (List Node)
 | []=>some []
 | h::r=>match runH hl h fr σ with
  | some (f,s)=>(match ndsF n hl fr σ r with | some x=>some (((List.range n).map h.contains,f,s)::x) | none=>none)
  | none=>none
theorem mh(n:Nat){id:Nat}(tl:List (Nat × AV))(hl:List (Nat × HvF))(Hs:List (List Nat))(h:y0a E l cs (k.post E) all all)
 (hmix:E.P.follows .mixedOrders=true) (hT:zBa E.P T:=by exact tk) (hg:GS.run T E.N n g=some (.code (.region id l.toArray true) fr σ k):=by exact rfl) (hz:mrun T tl hl l 0 fr σ=some cs:=by exact rfl) (hn:ndsF l.length hl fr σ Hs=some all:=by exact rfl)
 (hok:(zbb E.N l cs,all[0]?)=(true,some (List.replicate l.length false,fr,σ)):=by kernel_rfl):g.holds E:=
 rn hT n hg (VMa cs all hmix (congrArg Prod.fst hok) (congrArg Prod.snd hok) rfl kea kVa h)
theorem mfq(hT:zBa E.P T)(is ks:List Nat){frJ:Fr}(h2:qGa E l cs all H fr σ is)(h:K .normal frJ σ)(h1:((y2a l cs H is).map (WCa T l cs fr σ),(y2a l cs H is).all (fun i=>(jMa cs i).isSome))=((y2a l cs H is).map (jMa cs),true):=by kernel_rfl)(hf:(purL l cs fr).px ks=some frJ:=by exact rfl):WBa E l cs K all (H,fr,σ):=
 mf hT is frJ h1 h2 (Fr.px_ok hf).1 h
theorem mnq(hT:zBa E.P T)(is:List Nat)(h2:qGa E l cs all H fr σ is)(h1:(((List.range l.length).all fun i=> !(isHv cs i) || H.getD i false),(y2a l cs H is).map (WCa T l cs fr σ),(y2a l cs H is).all (fun i=>(jMa cs i).isSome))=(false,(y2a l cs H is).map (jMa cs),true):=by kernel_rfl):WBa E l cs K all (H,fr,σ):=mn hT is h1 h2
theorem mdtq(j:Nat){i k:Nat}{o:Oper}{c:AV}{rs:List Nat}{σ' :Sto}(h:HvD E o (purF l cs (allT l)++fr) σ k c rs σ')(ho:l[i]? =some o:=by exact rfl)(e:(((List.range l.length).all fun i=>wda l cs i !=some k),zab cs rs,cs[i]?,all[j]?)=(true,true,some none,some (H.set i true,(k,c)::fr.clrs rs,σ')):=by kernel_rfl):Jya E l cs all H fr σ i:=mdt j ho h e
theorem mpu{i:Nat}{o:Oper}{c:AV}(h:OpG E o (purF l cs (allT l)++fr) σ c)(ho:l[i]? =some o:=by exact rfl)(hc:cs[i]? =some (some c):=by exact rfl):Jya E l cs all H fr σ i:=.pure ho hc h
end
theorem yoa(a0:zda)(r:List UInt8)(hr:qya a0=some r):Run prog 70 [.agg [.l zca.pc a0.Fields,.l cU a0.Body]] (.l cU r):=by
 unfold qya at hr;refine rfx (fn:=f70) func70 fun g0 hg=>?_
 refine rn tk 9 rfl ?_;refine kaa 1003 (d:=3) 5 1 rfl rfl rfl (hO ?_);refine rn tk 7 rfl<|wn tk rfl rfl rfl ?_;refine aq1 4 hr [1,3,11,12] [1] (fun s1=>[(13,.i s1.1)]) (fun s1=>[(1003,.row 5 false 1 (List.map cU s1.2))]) (.exit 0) [1,3] [1] (fun _=>[]) (fun b2=>[(1003,.row 5 false 1 (List.map cU b2))]) (fun s1 x3 hr=>?_) (fun b2 hr=>?_)
 .unfold k6a at hr;refine ax 6 14 hr (fun hr=>?_) fun hr=>?_
  .refine rn tk 6 rfl ?_;obtain ⟨v5,h6,hr⟩:=zaa hr;refine wi tk h6 rfl rfl rfl rfl rfl ?_;refine clx 11 hr (wga _ _) fun v7 _ hr=>?_
   refine rn tk 11 rfl<|wn tk rfl rfl rfl ?_;refine aq1 4 hr [1,3,11,12,13,25,26] [1] (fun s9=>[(27,.i s9.1)]) (fun s9=>[(1003,.row 5 false 1 (List.map cU s9.2))]) (.exit 2) [1,3,11,12,13] [1] (fun _=>[]) (fun b10=>[(1003,.row 5 false 1 (List.map cU b10))]) (fun s9 x11 hr=>?_) (fun b10 hr=>?_)
   .unfold k5a at hr;refine ax 6 28 hr (fun hr=>?_) fun hr=>?_
    .refine rn tk 6 rfl ?_;obtain ⟨v13,h14,hr⟩:=zaa hr;refine wi tk h14 rfl rfl rfl rfl rfl<|rn tk 7 rfl ?_;obtain ⟨v15,h16,hr⟩:=zaa hr;refine wo (vDa (k:=33) (l:=s9.2) (s:=v13) (lim:=140737488355328) rfl rfl rfl rfl zsa zCa.u zEa rfl h16) rfl<|wz cU ([(13:UInt8),(10:UInt8)]:List UInt8) tk rfl rfl (fun _=>rfl) rfl rfl rfl ?_;obtain ⟨v17,h18,hr⟩:=zaa hr;refine wa tk h18 rfl rfl rfl rfl (fun _=>rfl) rfl rfl ?_;exact cx 8 hr
    exact ox 2 hr
   exact cx 7 hr
  exact ox 2 hr
 refine rn tk 3 rfl ?_;obtain ⟨v19,h20,hr⟩:=zaa hr;obtain ⟨v21,h22,hr⟩:=zaa hr;refine mh 0 [(1,.l cU (([(13:UInt8),(10:UInt8)]:List UInt8)))] [(0,fun f s=>((38,.hs 1003 0)::f,s)),(2,fun f s=>((40,.hs 1003 0)::Fr.clrs [1003] f,(Sto.upd (Sto.clr 1003 s) 1003 (.row 5 false 1 (List.map cU v19))))),(5,fun f s=>((43,.hs 1003 0)::Fr.clrs [1003] f,(Sto.upd (Sto.clr 1003 s) 1003 (.row 5 false 1 (List.map cU v21))))),(6,fun f s=>((2,.hs 1003 0)::f,s))] [[],[0],[0,2],[0,2,5],[0,2,5,6]] ?_ mixed;refine .cons (mnq tk [0,1] (.cons (mdtq 1 (hv_g rfl rfl (mqz tk rfl))) (.cons (mpu (QPa (F:=cU) (l:=([(13:UInt8),(10:UInt8)]:List UInt8)) zsa zEa rfl (fun _=>rfl) rfl rfl)) .nil))) (.cons (mnq tk [1,2] (.cons (mpu (QPa (F:=cU) (l:=([(13:UInt8),(10:UInt8)]:List UInt8)) zsa zEa rfl (fun _=>rfl) rfl rfl)) (.cons (mdtq 2 (Yma (F:=cU) (l:=b2) (xs:=(([(13:UInt8),(10:UInt8)]:List UInt8))) (lim:=140737488355328) rfl rfl rfl rfl zsa zEa rfl rfl (fun _=>rfl) rfl h20)) .nil))) (.cons (mnq tk [5] (.cons (mdtq 3 (Yma (F:=cU) (l:=v19) (xs:=a0.Body) (lim:=140737488355328) rfl rfl rfl rfl zsa zEa rfl rfl (fun _=>rfl) rfl h22)) .nil)) (.cons (mnq tk [6] (.cons (mdtq 4 (hv_g rfl rfl (mqz tk rfl))) .nil)) (.cons (mfq tk [] [2] .nil (hA ?_)) .nil))));refine rn tk 1 rfl ?_;refine kTa (d:=2) (F:=cU) (l:=v21) rfl rfl (hC ?_);exact kx 1 hr
theorem zXa(a0:zda)(r:zma)(hr:zKa a0=some r):Run prog 47 [.agg [.l zca.pc a0.Fields,.l cU a0.Body]] (.agg [.i r.Code,.i r.Index]):=by
 unfold zKa at hr;refine rfx (fn:=f47) func47 fun g0 hg=>?_
 refine clx 11 hr (k2a _) fun v1 _ hr=>?_
 refine clx 7 hr (zha _) fun v3 _ hr=>?_
 refine ax 2 8 hr (fun hr=>?_) fun hr=>?_
 .exact kx 8 hr
 refine clx 6 hr (yoa _) fun v6 _ hr=>?_
 refine wn tk rfl rfl rfl ?_;refine ax 3 13 hr (fun hr=>?_) fun hr=>?_
 .refine clx 2 hr (zga _ _) fun v9 _ hr=>?_
  exact kx 5 hr
 refine clx 6 hr (Qla _) fun v11 _ hr=>?_
 exact kx 4 hr
theorem yIa(a0:List zda)(r:zma)(hr:qVa a0=some r):Run prog 29 [.l zda.pc a0] (.agg [.i r.Code,.i r.Index]):=by
 unfold qVa at hr;refine rfx (fn:=f29) func29 fun g0 hg=>?_
 refine jq 6 hr [0,2] [2] (fun j1=>[(13,.bo j1)]) (fun _=>[]) (fun j1 hr=>?_) (fun j1 hr=>?_)
 .refine rn tk 2 rfl<|wn tk rfl rfl rfl ?_;refine bx 2 9 hr (fun c2 hr=>?_) fun c2 hr=>?_
  .exact jx 5 hr
  refine rn tk 1 rfl<|ug rfl rfl rfl<|wn tk rfl rfl rfl ?_;exact jx 3 hr
 refine ax 0 13 hr (fun hr=>?_) fun hr=>?_
 .refine clx 2 hr (zga _ _) fun v4 _ hr=>?_
  exact kx 5 hr
 refine rn tk 6 rfl<|wn tk rfl rfl rfl ?_;refine aq2 4 hr [2,15,16] [2] (fun s6=>[(17,.i s6)]) (fun _=>[]) (.exit 0) [2] [2] (fun _=>[]) (fun _=>[]) .ret [2] [] (fun _=>[]) (fun b8=>[(2,.cells [.i b8.Code,.i b8.Index])]) (fun s6 x10 hr=>?_) (fun b7 hr=>?_) (fun b8 hr=>?_)
 .unfold q8a at hr;refine ax 6 18 hr (fun hr=>?_) fun hr=>?_
  .refine rn tk 7 rfl ?_;obtain ⟨v12,h13,hr⟩:=zaa hr;refine wi tk h13 rfl rfl rfl rfl rfl ?_;refine clx 9 hr (zXa _) fun v14 _ hr=>?_
   refine clx 7 hr (zha _) fun v16 _ hr=>?_
   refine ax 2 25 hr (fun hr=>?_) fun hr=>?_
   .refine clx 5 hr (zga _ _) fun v19 _ hr=>?_
    exact ox 6 hr
   exact cx 7 hr
  exact ox 2 hr
 .refine clx 4 hr zka fun v21 _ hr=>?_
  exact kx 4 hr
 exact kx 2 hr
theorem vva(a0:zda)(r:(List UInt8) × zma)(hr:kZa a0=some r):Run prog 34 [.agg [.l zca.pc a0.Fields,.l cU a0.Body]] (.tup [.l cU r.1,.agg [.i r.2.Code,.i r.2.Index]]):=by
 unfold kZa at hr;refine rfx (fn:=f34) func34 fun g0 hg=>?_
 refine clx 11 hr (zXa _) fun v1 _ hr=>?_
 refine clx 7 hr (zha _) fun v3 _ hr=>?_
 refine ax 2 8 hr (fun hr=>?_) fun hr=>?_
 .refine mdq 1 [] [2,3] .nil ?_ mixed;exact kx 3 hr
 refine clx 5 hr (yoa _) fun v6 _ hr=>?_
 refine clx 0 hr zka fun v8 _ hr=>?_
 exact kx 5 hr
theorem wSa(a0:List zda)(a1:Int)(r:(List Int) × zma)(hr:qNa a0 a1=some r):Run prog 24 [.l zda.pc a0,.i a1] (.tup [.l cI r.1,.agg [.i r.2.Code,.i r.2.Index]]):=by
 unfold qNa at hr;refine rfx (fn:=f24) func24 fun g0 hg=>?_
 refine clx 10 hr (yIa _) fun v1 _ hr=>?_
 refine clx 7 hr (zha _) fun v3 _ hr=>?_
 refine ax 2 17 hr (fun hr=>?_) fun hr=>?_
 .refine dq 1 2 [] [] .nil .nil ?_ mixed;exact kx 5 hr
 refine jq 3 hr [0,1,5] [5] (fun j6=>[(24,.bo j6)]) (fun _=>[]) (fun j6 hr=>?_) (fun j6 hr=>?_)
 .refine bx 4 21 hr (fun c7 hr=>?_) fun c7 hr=>?_
  .exact jx 4 hr
  exact jx 4 hr
 refine ax 0 24 hr (fun hr=>?_) fun hr=>?_
 .refine clx 2 hr (zga _ _) fun v9 _ hr=>?_
  exact kx 6 hr
 refine rn tk 5 rfl ?_;refine qla 1007 (d:=7) 3 1 rfl rfl rfl (hO ?_);refine rn tk 11 rfl<|wn tk rfl rfl rfl ?_;refine aq1 4 hr [1,5,7,26,27] [5] (fun s11=>[(8,.i s11.1),(28,.i s11.2.1)]) (fun s11=>[(1007,.row 3 true 1 (List.map cI s11.2.2))]) (.exit 0) [5,7] [5] (fun _=>[]) (fun b12=>[(1007,.row 3 true 1 (List.map cI b12))]) (fun s11 x13 hr=>?_) (fun b12 hr=>?_)
 .unfold kqa at hr;refine ax 6 29 hr (fun hr=>?_) fun hr=>?_
  .refine jq 2 hr [1,5,7,26,27,28] [5] (fun j15=>[(8,.i j15.1)]) (fun j15=>[(1007,.row 3 true 1 (List.map cI j15.2))]) (fun j15 hr=>?_) (fun j15 hr=>?_)
   .refine rn tk 3 rfl ?_;obtain ⟨v16,h17,hr⟩:=zaa hr;refine wi tk h17 rfl rfl rfl rfl rfl ?_;refine clx 8 hr (vva _) fun v18 _ hr=>?_
    refine rn tk 12 rfl<|wn tk rfl rfl rfl<|rn tk 8 rfl<|wnh tk rfl rfl rfl rfl ?_;refine jq 4 hr [1,5,7,11,26,27,28] [1007,5] (fun j20=>[(8,.i j20.1),(13,.i j20.2.1),(57,.bo j20.2.2)]) (fun _=>[]) (fun j20 hr=>?_) (fun j20 hr=>?_)
    .refine bx 4 46 hr (fun c21 hr=>?_) fun c21 hr=>?_
     .refine rn tk 2 rfl ?_;obtain ⟨v22,h23,hr⟩:=zaa hr;refine ug rfl rfl rfl<|wih tk h23 rfl rfl rfl rfl rfl ?_;obtain ⟨v24,h25,hr⟩:=zaa hr;refine ug rfl rfl rfl<|wq (jCa (F:=cI) (l:=s11.2.2) (n:=((w64 ((s11.2.2.length:Int) - 1)))) (j:=0) rfl rfl vIa rfl h25 rfl) rfl rfl rfl ?_;refine bx 4 54 hr (fun c26 hr=>?_) fun c26 hr=>?_
      .exact jx 4 hr
      exact jx 4 hr
     exact jx 12 hr
    refine ax 0 57 hr (fun hr=>?_) fun hr=>?_
    .refine rn tk 4 rfl ?_;obtain ⟨v28,h29,hr⟩:=zaa hr;refine wih tk h29 rfl rfl rfl rfl rfl ?_;obtain ⟨v30,h31,hr⟩:=zaa hr;refine wq (jCa (F:=cI) (l:=s11.2.2) (n:=j20.2.1) (j:=0) rfl rfl vIa rfl h31 rfl) rfl rfl rfl<|rn tk 1 rfl ?_;obtain ⟨v32,h33,hr⟩:=zaa hr;refine wih tk h33 rfl rfl rfl rfl rfl ?_;obtain ⟨v34,h35,hr⟩:=zaa hr;refine wo (qQa (F:=cI) (l:=s11.2.2) (n:=j20.2.1) (j:=0) (v:=v34) (v' :=((w64 (v30+1)))) (pcs:=[pI ((w64 (v30+1)))]) rfl rfl rfl vIa rfl h35 rfl rfl) rfl ?_;exact jx 5 hr
    refine rn tk 5 rfl<|wz cI ([1]:List Int) tk rfl rfl (fun _=>rfl) rfl rfl rfl ?_;obtain ⟨v36,h37,hr⟩:=zaa hr;refine wa tk h37 rfl rfl rfl rfl (fun _=>rfl) rfl rfl<|rn tk 5 rfl<|wn tk rfl rfl rfl ?_;exact jx 3 hr
   exact cx 4 hr
  exact ox 2 hr
 refine clx 5 hr zka fun v38 _ hr=>?_
 refine rn tk 4 rfl ?_;refine jBa 1007 rfl (hC ?_);refine kTa (d:=4) (F:=cI) (l:=b12) rfl rfl (hC ?_);exact kx 1 hr
theorem str_argN{g:G}{s:Str}{v:Value}(h:Rel g (.s s) v):v=.string (strB s):=zMa h
theorem pow_tab {g : G} (hg : Gl g) : Lib.TabIs prog g.w "internal/strconv.uint64pow10" .u64 Lib.pow10Tab := by
 obtain ⟨t,fz,h⟩:=hg.2.1 (0,(Lib.pow10Tab.map fun z=>Value.int .u64 z).toArray) (by simp[globK]);have hn : prog.globalNamed "internal/strconv.uint64pow10" = some 0 := by kernel_rfl
 unfold Lib.TabIs World.var?;rw[hn];simp only[jAc];simp only at h;rw[h]
theorem zlb(g:G)(q:Nat)(os:Array Obj):Old (fun _=>False) g ⟨Go.Sort.grow (g.w.drewN q) os,g.u,g.loc⟩:=by
 have hb:∀k,k < g.w.heap.size->(Go.Sort.grow (g.w.drewN q) os).heap[k]? =g.w.heap[k]? :=by
  intro k hk;show (g.w.heap++os)[k]? =_;rw[jBd hk]
 refine ⟨rfl,rfl,rfl,⟨?_,fun _ _=>jAs _,fun k i hk hi=>?_,fun r hr=>(hb r (zAa hr)).trans hr⟩,fun k hk _=>⟨hb k hk,rfl⟩⟩
 .show g.w.heap.size<=(g.w.heap++os).size;simp
 simp only[World.cell?];rw[hb k hk]
theorem k9a(n:Int)(r:Str)(hr:kia n=some r):Run prog 33 [.i n] (.s r):=by
 unfold kia at hr;split at hr
 case isFalse=>cases hr
 rename_i hlen;cases hr;refine ⟨⟨_,_,⟨func33,rfl,by kernel_rfl⟩⟩,fun g vs hw hg ha=>?_⟩;obtain ⟨hsz,hrel⟩:=ha;obtain ⟨l⟩:=vs
 match l,hsz with
 | [x],_=>
  have e2:x=.int .i64 n:=zMa (hrel 0 _ rfl);subst e2;refine callsIn_wide.2 ((Tryz.strconv_Itoa n hlen.1 hlen.2 g.w (pow_tab hg)).mono ?_);rintro e w' ⟨rfl,q,os,rfl⟩;exact ⟨⟨Go.Sort.grow (g.w.drewN q) os,g.u,g.loc⟩,_,rfl,rfl,zlb g q os,fun k hk=>hw k (jBi (zlb g q os).ext.size hk),rfl,.pv (.b rfl)⟩
theorem Vxa(a0:Int)(r:Bool)(hr:KJa a0=some r):Run prog 60 [.i a0] (.bo r):=by
 unfold KJa at hr;refine VDa (fn:=f60) ⟨func60,rfl,by kernel_rfl⟩ rfl (fun _=>rfl) fun g0 hg=>?_
 refine Y3a ?_;refine Kua ?_;refine zTa rfl (kOa (d:=2) rfl rfl ZOa) ?_;refine Qza<|WUa ?_;obtain ⟨j1,hx,hy⟩:=zaa hr;refine Wea (fun j1=>[(2,.bo j1)]) (fun j1=>[]) (fun z=>j1=z) ?_ ?_
 .have hr:=hx;clear hx hy;refine Kua ?_;refine zTa rfl (kOa (d:=3) rfl rfl Kva) ?_;refine zTa rfl (kOa (d:=4) rfl rfl (ev_geq rfl rfl)) ?_;refine zTa rfl (kOa (d:=5) rfl rfl Kva)<|qRa (decide ((-68719476736)<=a0)) (fun c2=>?_) (fun c2=>?_)
  .replace hr:=K2a c2 hr
   refine Wba (d:=5) rfl rfl rfl c2 (kOa (d:=6) rfl rfl Kva) ?_;refine Wba (d:=5) rfl rfl rfl c2 (kOa (d:=7) rfl rfl (ev_leq rfl rfl)) ?_;refine zTa rfl (kOa (d:=8) rfl rfl (yRa rfl c2)) ?_;refine zTa rfl (kOa (d:=2) rfl rfl ZOa) ?_;refine Qza ?_;cases hr;exact K4a _ rfl (ZNa rfl ZMa) zza
  replace hr:=K3a c2 hr
  refine Wca (d:=5) rfl rfl rfl c2 ?_;refine Wca (d:=5) rfl rfl rfl c2 ?_;refine zTa rfl (kOa (d:=8) rfl rfl (ZPa rfl c2)) ?_;refine zTa rfl (kOa (d:=2) rfl rfl ZOa) ?_;refine Qza ?_;cases hr;exact K4a _ rfl (ZNa rfl ZMa) zza
 rintro _ rfl;have hr:=hy;clear hx hy;refine kdb ?_;cases hr;exact kret' rfl (.cons (kkb rfl) .nil) rfl
theorem yJa(a0:Int)(r:Int)(hr:wNa a0=some r):Run prog 97 [.i a0] (.i r):=by
 unfold wNa at hr;refine rfx (fn:=f97) func97 fun g0 hg=>?_
 refine rn tk 17 rfl<|wq (yUa rfl rfl rfl) rfl rfl rfl<|rn tk 2 rfl<|wq (yUa rfl rfl rfl) rfl rfl rfl<|rn tk 2 rfl<|wq (yUa rfl rfl rfl) rfl rfl rfl ?_;exact kx 5 hr
theorem Vya(a0:Int)(r:Bool)(hr:KLa a0=some r):Run prog 131 [.i a0] (.bo r):=by
 unfold KLa at hr;refine rfx (fn:=f131) func131 fun g0 hg=>?_
 refine rn tk 5 rfl<|jb hr (fun j1=>[(2,.bo j1)]) (fun j1=>[]) (fun j1 hr=>?_) (fun j1 hr=>?_)
 .refine rn tk 2 rfl<|wq (yVa rfl rfl rfl) rfl rfl rfl ?_;refine bx 2 6 hr (fun c2 hr=>?_) fun c2 hr=>?_
  .refine rn tk 1 rfl<|ug rfl rfl rfl<|wq (yVa rfl rfl rfl) rfl rfl rfl ?_;refine bx 2 10 hr (fun c3 hr=>?_) fun c3 hr=>?_
   .exact jx 7 hr
   refine rn tk 1 rfl<|ug rfl rfl rfl<|wq (yVa rfl rfl rfl) rfl rfl rfl ?_;exact jx 5 hr
  exact jx 11 hr
 exact kx 1 hr
theorem yKa(a0:Int)(a1:Int)(r:Int)(hr:wOa a0 a1=some r):Run prog 98 [.i a0,.i a1] (.i r):=by
 unfold wOa at hr;refine rfx (fn:=f98) func98 fun g0 hg=>?_
 refine rn tk 7 rfl<|wq (QZa (cs:=[.i 31,.i 28,.i 31,.i 30,.i 31,.i 30,.i 31,.i 31,.i 30,.i 31,.i 30,.i 31]) KHa vIa (.inr ⟨rfl,rfl⟩) (by kernel_rfl)) rfl rfl rfl<|rn tk 2 rfl ?_;obtain ⟨v1,h2,hr⟩:=zaa hr;refine wq (Jsa (f:=cI) (L:=([31,28,31,30,31,30,31,31,30,31,30,31]:List Int)) rfl rfl KHa vIa rfl rfl (fun _=>rfl) h2 rfl) rfl rfl rfl<|rn tk 3 rfl<|jb hr (fun j3=>[(5,.i j3)]) (fun j3=>[]) (fun j3 hr=>?_) (fun j3 hr=>?_)
 .refine jb hr (fun j4=>[(5,.i v1),(15,.bo j4)]) (fun j4=>[]) (fun j4 hr=>?_) (fun j4 hr=>?_)
  .refine bx 4 12 hr (fun c5 hr=>?_) fun c5 hr=>?_
   .refine rn tk 1 rfl ?_;obtain ⟨v6,h7,hr⟩:=zaa hr;refine ug rfl rfl rfl<|cl (Vya _ _ h7) rfl rfl ?_;exact jx 2 hr
   exact jx 4 hr
  refine ax 0 15 hr (fun hr=>?_) fun hr=>?_
  .exact jx 5 hr
  exact jx 1 hr
 exact kx 7 hr
theorem qDa(a0:Int)(a1:Int)(a2:Int)(r:Int)(hr:vNa a0 a1 a2=some r):Run prog 63 [.i a0,.i a1,.i a2] (.i r):=by
 unfold vNa at hr;refine rfx (fn:=f63) func63 fun g0 hg=>?_
 refine clx 8 hr (yJa _) fun v1 _ hr=>?_
 refine clx 0 hr (yJa _) fun v3 _ hr=>?_
 refine rn tk 14 rfl<|al1 hr (fun s5=>[(0,.i a0),(1,.i a1),(7,.i s5.1),(8,.i s5.2)]) (fun s5=>[]) (.exit 0) (fun b6=>[(7,.i b6)]) (fun b6=>[]) rfl rfl (fun s5 x7 hr=>?_) (fun b6 hr=>?_)
 .unfold Qba at hr;refine ax 8 18 hr (fun hr=>?_) fun hr=>?_
  .refine clx 8 hr (yKa _ _) fun v9 _ hr=>?_
   exact cx 10 hr
  exact ox 2 hr
 exact kx 9 hr
theorem jka(a0:Int)(a1:Int)(r:Int × Int)(hr:ywa a0 a1=some r):Run prog 62 [.i a0,.i a1] (.tup [.i r.1,.i r.2]):=by
 unfold ywa at hr;refine rfx (fn:=f62) func62 fun g0 hg=>?_
 refine rn tk 10 rfl ?_;obtain ⟨v1,h2,hr⟩:=zaa hr;refine wq (yVa rfl rfl (Jka h2)) rfl rfl rfl<|rn tk 3 rfl ?_;obtain ⟨v3,h4,hr⟩:=zaa hr;refine wq (yVa rfl rfl (Jka h4)) rfl rfl rfl<|rn tk 9 rfl ?_;obtain ⟨v5,h6,hr⟩:=zaa hr;refine wq (yUa rfl rfl (Jka h6)) rfl rfl rfl ?_;exact kx 6 hr
theorem zDa(a0:Int)(a1:Int)(a2:Int)(r:Bool)(hr:kja a0 a1 a2=some r):Run prog 61 [.i a0,.i a1,.i a2] (.bo r):=by
 unfold kja at hr;refine rfx (fn:=f61) func61 fun g0 hg=>?_
 refine rn tk 5 rfl<|jb hr (fun j1=>[(6,.bo j1)]) (fun j1=>[]) (fun j1 hr=>?_) (fun j1 hr=>?_)
 .refine bx 5 10 hr (fun c2 hr=>?_) fun c2 hr=>?_
  .exact jx 6 hr
  exact jx 6 hr
 exact kx 1 hr
theorem Vca(a0:Int)(a1:Int)(r:yga × zma)(hr:Zsa a0 a1=some r):Run prog 31 [.i a0,.i a1] (.tup [.agg (zN0 r.1),.agg [.i r.2.Code,.i r.2.Index]]):=by
 unfold Zsa at hr;refine rfx (fn:=f31) func31 fun g0 hg=>?_
 refine clx 10 hr (Vxa _) fun v1 _ hr=>?_
 refine ax 3 13 hr (fun hr=>?_) fun hr=>?_
 .refine clx 3 hr (zga _ _) fun v4 _ hr=>?_
  exact kx 6 hr
 refine clx 6 hr (zDa _ _ _) fun v6 _ hr=>?_
 refine ax 3 18 hr (fun hr=>?_) fun hr=>?_
 .refine clx 3 hr (zga _ _) fun v9 _ hr=>?_
  exact kx 6 hr
 refine clx 8 hr (jka _ _) fun v11 _ hr=>?_
 refine rn tk 8 rfl<|jb hr (fun j13=>[(1,.i a1),(4,.ptr 4 0),(5,.ptr 5 0),(6,.i v11.1),(7,.i v11.2),(36,.bo j13)]) (fun j13=>[(5,.cells [.i 0,.i 0]),(4,.cells [.i 0,.i 0,.i 0,.i 0,.i 0,.i 0,.i 0])]) (fun j13 hr=>?_) (fun j13 hr=>?_)
 .refine clx 2 hr (qDa _ _ _) fun v14 _ hr=>?_
  refine bx 2 32 hr (fun c16 hr=>?_) fun c16 hr=>?_
  .exact jx 5 hr
  refine rn tk 1 rfl ?_;obtain ⟨v17,h18,hr⟩:=zaa hr;refine ug rfl rfl rfl<|cl (qDa _ _ _ _ h18) rfl rfl ?_;exact jx 3 hr
 refine ax 0 36 hr (fun hr=>?_) fun hr=>?_
 .refine clx 3 hr (zga _ _) fun v20 _ hr=>?_
  exact kx 6 hr
 refine rn tk 14 rfl<|al1 hr (fun s22=>[(1,.i a1),(4,.ptr 4 0),(5,.ptr 5 0),(6,.i v11.1),(7,.i v11.2),(8,.i s22.1),(9,.i s22.2)]) (fun s22=>[(5,.cells [.i 0,.i 0]),(4,.cells [.i 0,.i 0,.i 0,.i 0,.i 0,.i 0,.i 0])]) (.exit 0) (fun b23=>[(1,.i a1),(4,.ptr 4 0),(5,.ptr 5 0),(6,.i v11.1),(7,.i v11.2),(8,.i b23)]) (fun b23=>[(5,.cells [.i 0,.i 0]),(4,.cells [.i 0,.i 0,.i 0,.i 0,.i 0,.i 0,.i 0])]) rfl rfl (fun s22 x24 hr=>?_) (fun b23 hr=>?_)
 .unfold j2a at hr;refine ax 7 40 hr (fun hr=>?_) fun hr=>?_
  .refine rn tk 2 rfl<|jb hr (fun j26=>[(1,.i a1),(4,.ptr 4 0),(5,.ptr 5 0),(6,.i v11.1),(7,.i v11.2),(8,.i j26),(9,.i s22.2)]) (fun j26=>[(5,.cells [.i 0,.i 0]),(4,.cells [.i 0,.i 0,.i 0,.i 0,.i 0,.i 0,.i 0])]) (fun j26 hr=>?_) (fun j26 hr=>?_)
   .refine rn tk 1 rfl<|jb hr (fun j27=>[(1,.i a1),(4,.ptr 4 0),(5,.ptr 5 0),(6,.i v11.1),(7,.i v11.2),(8,.i s22.1),(9,.i s22.2),(54,.bo j27)]) (fun j27=>[(5,.cells [.i 0,.i 0]),(4,.cells [.i 0,.i 0,.i 0,.i 0,.i 0,.i 0,.i 0])]) (fun j27 hr=>?_) (fun j27 hr=>?_)
    .refine bx 6 47 hr (fun c28 hr=>?_) fun c28 hr=>?_
     .refine rn tk 3 rfl ?_;obtain ⟨v29,h30,hr⟩:=zaa hr;refine ug rfl rfl rfl<|cl (qDa _ _ _ _ h30) rfl rfl ?_;exact jx 4 hr
     exact jx 8 hr
    refine ax 0 54 hr (fun hr=>?_) fun hr=>?_
    .exact jx 7 hr
    exact jx 2 hr
   refine rn tk 2 rfl<|wq (yUa rfl rfl rfl) rfl rfl rfl ?_;exact cx 2 hr
  exact ox 2 hr
 refine rn tk 9 rfl<|al1 hr (fun s32=>[(1,.i a1),(4,.ptr 4 0),(5,.ptr 5 0),(6,.i v11.1),(7,.i v11.2),(8,.i b23),(10,.i s32)]) (fun s32=>[(5,.cells [.i 0,.i 0]),(4,.cells [.i 0,.i 0,.i 0,.i 0,.i 0,.i 0,.i 0])]) (.exit 2) (fun b33=>[(1,.i a1),(4,.ptr 4 0),(5,.ptr 5 0),(6,.i v11.1),(7,.i v11.2),(8,.i b23),(10,.i b33)]) (fun b33=>[(5,.cells [.i 0,.i 0]),(4,.cells [.i 0,.i 0,.i 0,.i 0,.i 0,.i 0,.i 0])]) rfl rfl (fun s32 x34 hr=>?_) (fun b33 hr=>?_)
 .unfold j3a at hr;refine clx 5 hr (qDa _ _ _) fun v35 _ hr=>?_
  refine ax 4 62 hr (fun hr=>?_) fun hr=>?_
  .exact cx 9 hr
  exact ox 2 hr
 refine clx 9 hr (qDa _ _ _) fun v38 _ hr=>?_
 refine rn tk 3 rfl<|wq (yUa rfl rfl rfl) rfl rfl rfl<|rn tk 1 rfl<|wq (yUa rfl rfl rfl) rfl rfl rfl<|wq (yVa rfl rfl rfl) rfl rfl rfl<|rn tk 1 rfl<|wq (yVa rfl rfl rfl) rfl rfl rfl ?_;refine clx 2 hr zka fun v40 _ hr=>?_
 exact kx 5 hr
theorem qjb{g:G}{w' :World}(h:Below g.w.heap.size g.w w'):Old (fun _=>False) g ⟨w',g.u,g.loc⟩:=
 ⟨h.os,h.tape,h.output,⟨h.size,fun _ _=>jAs _,fun k i hk _=>by simp only[World.cell?];rw[h.block k hk],fun r hr=>(h.block r (zAa hr)).trans hr⟩,fun k hk _=>⟨h.block k hk,rfl⟩⟩
theorem str_argJ{g:G}{s:Str}{v:Value}(h:Rel g (.s s) v):v=.string (strB s):=zMa h
theorem qkb{g:G}{l:List Str}{v:Value}(h:Rel g (.l cS l) v):∃ad cap,v=.slice ad l.length cap/\l.length<=cap/\(l≠ []->∃b off,ad=some ⟨b,off,none⟩/\b < g.w.heap.size/\∀(i:Nat) s,l[i]? =some s->g.w.cell? ⟨b,off+i,none⟩=some (.string (strB s))):=by
 cases h with
 | pv h=>
  generalize hE:l.map cS=elems at h;have hEl:elems.length=l.length:=by rw[<-hE];simp
  unfold pL at h;rw[hE]at h;cases h with
  | @sl _ _ a cap size b off val hn h0 hc hz ha hu hcell h=>
   refine ⟨a,cap,by rw[hEl],by omega,fun hne=>?_⟩;have hne' :elems≠ []:=by rw[<-hE];simpa using hne
   refine ⟨b,off,ha hne',(hu hne').2,fun i s hi=>?_⟩;have hget:elems[i]? =some (cS s):=by rw[<-hE];simp[hi]
   have hs1:size=1:=by
    have:=hz _ (jAg hget);simpa[cS]using this.symm
   subst hs1;have hlt:i < elems.length:=(jAb.1 hget).1;rw[hcell i (by omega)];have:=h i 0 _ (.b (.string (strB s))) hget rfl;simp only[jCc,jBn]at this;have e:=zMa (g:=g) (.pv this);rw[e]
theorem Qma(l:List Str)(s:Str)(r:Str)(hr:qUa l s=some r):Run prog 66 [.l cS l,.s s] (.s r):=by
 unfold qUa at hr;split at hr
 case isFalse=>cases hr
 rename_i hlen;cases hr;refine ⟨⟨_,_,⟨func66,rfl,by kernel_rfl⟩⟩,fun g vs hw hg ha=>?_⟩;obtain ⟨hsz,hrel⟩:=ha;obtain ⟨vl⟩:=vs
 match vl,hsz with
 | [x,y],_=>
  have h0:Rel g (.l cS l) x:=hrel 0 _ rfl;obtain rfl:=str_argJ (hrel 1 _ rfl);obtain ⟨ad,cap,rfl,hcap,hcell⟩:=qkb h0;refine callsIn_wide.2 ?_
  suffices hs:Calls prog 66 #[.slice ad l.length cap,.string (strB s)] g.w fun e w' =>e=.returned (.string (strB (Lib.join l s)))/\Below g.w.heap.size g.w w' by
   refine hs.mono ?_;rintro e w' ⟨rfl,hb⟩;exact ⟨⟨w',g.u,g.loc⟩,_,rfl,rfl,qjb hb,fun k hk=>hw k (jBi hb.size hk),rfl,.pv (.b rfl)⟩
  cases l with
  | nil=>exact (Tryz.strings_Join_none ad cap (strB s) g.w).mono fun e w' ⟨he,hw⟩=>⟨he,hw▸Below.refl _ _⟩
  | cons a l=>
   obtain ⟨b,off,rfl,hb,hc⟩:=hcell (by simp);have e1:((a::l).map strB).map (·.data.toList)=a::l:=by
    rw[List.map_map]
    conv=>rhs;rw[<-List.map_id (a::l)]
    exact List.map_congr_left fun x _=>rfl
   have:=Tryz.strings_Join b off cap ((a::l).map strB) (strB s) g.w (fun j x hx=>by
    simp only[jAj,jAh]at hx;obtain ⟨y,hy,rfl⟩:=hx;exact hc j y hy) hb (by rw[jAu];exact hlen.1) (by rw[jAu];exact hcap) (by rw[e1];exact hlen.2)
   rw[e1,jAu]at this;exact this
theorem Kia(a0:yga)(r:zma)(hr:w0a a0=some r):Run prog 99 [.agg (zN0 a0)] (.agg [.i r.Code,.i r.Index]):=by
 unfold w0a at hr;refine rfx (fn:=Tryz.f99) func99 fun g0 hg=>?_
 refine rn tk 6 rfl<|jb hr (fun j1=>[(2,.ptr 2 0),(3,.bo j1)]) (fun j1=>[(2,.cells [.i 0,.i 0])]) (fun j1 hr=>?_) (fun j1 hr=>?_)
 .obtain ⟨v2,h3,hr⟩:=zaa hr;refine qRa v2 (fun c4=>?_) (fun c4=>?_)
  .replace hr:=K2a c4 hr
   obtain ⟨v5,h6,hr⟩:=zaa hr;refine qRa v5 (fun c7=>?_) (fun c7=>?_)
   .replace hr:=K2a c7 hr
    obtain ⟨v8,h9,hr⟩:=zaa hr;refine dr 18 [(21,.i v8),(20,.i ((min ((max a0.Month 1)) 12))),(19,.i ((max a0.Month 1))),(18,.i a0.Month),(17,.ptr 1 1),(16,.i a0.Year),(15,.ptr 1 0),(14,.i a0.Day),(13,.ptr 1 2),(12,.bo v5),(11,.bo v5),(10,.bo v5),(9,.i a0.Month),(8,.ptr 1 1),(7,.bo v2),(6,.bo v2),(5,.i a0.Year),(4,.ptr 1 0)] mixed (by kernel_rfl) rfl rfl (pq tk rfl (.plain rfl) (pq tk rfl (.plain rfl) (.run (.plain rfl) (zFa (zDa a0.Year 1 4000 v2 h3) rfl) (pq tk rfl (.plain rfl) (pq tk rfl (.yes (d:=7) rfl rfl rfl c4) (pq tk rfl (.yes (d:=7) rfl rfl rfl c4) (.run (.yes (d:=7) rfl rfl rfl c4) (zFa (zDa a0.Month 1 12 v5 h6) rfl) (.run (.plain rfl) (k4a (yRa rfl c4)) (pq tk rfl (.plain rfl) (pq tk rfl (.yes (d:=12) rfl rfl rfl c7) (pq tk rfl (.yes (d:=12) rfl rfl rfl c7) (pq tk rfl (.yes (d:=12) rfl rfl rfl c7) (pq tk rfl (.yes (d:=12) rfl rfl rfl c7) (pq tk rfl (.yes (d:=12) rfl rfl rfl c7) (pq tk rfl (.yes (d:=12) rfl rfl rfl c7) (.run (.yes (d:=12) rfl rfl rfl c7) (k4a (J3a rfl rfl)) (.run (.yes (d:=12) rfl rfl rfl c7) (k4a (ev_min rfl rfl)) (.run (.yes (d:=12) rfl rfl rfl c7) (zFa (yKa a0.Year ((min ((max a0.Month 1)) 12)) v8 h9) rfl) .nil)))))))))))))))))) rfl<|kn 12 c7 rfl ?_;obtain ⟨v10,h11,hr⟩:=zaa hr;refine ug rfl rfl rfl<|cl (zDa _ _ _ _ h11) rfl rfl ?_;refine bx 2 24 hr (fun c12 hr=>?_) fun c12 hr=>?_
    .refine rn tk 2 rfl ?_;obtain ⟨v13,h14,hr⟩:=zaa hr;refine ug rfl rfl rfl<|cl (zDa _ _ _ _ h14) rfl rfl ?_;refine bx 2 29 hr (fun c15 hr=>?_) fun c15 hr=>?_
     .refine rn tk 2 rfl ?_;obtain ⟨v16,h17,hr⟩:=zaa hr;refine ug rfl rfl rfl<|cl (zDa _ _ _ _ h17) rfl rfl ?_;refine bx 2 34 hr (fun c18 hr=>?_) fun c18 hr=>?_
      .refine rn tk 2 rfl ?_;obtain ⟨v19,h20,hr⟩:=zaa hr;refine ug rfl rfl rfl<|cl (zDa _ _ _ _ h20) rfl rfl ?_;refine bx 2 39 hr (fun c21 hr=>?_) fun c21 hr=>?_
       .refine rn tk 2 rfl ?_;obtain ⟨v22,h23,hr⟩:=zaa hr;refine ug rfl rfl rfl<|cl (zDa _ _ _ _ h23) rfl rfl ?_;exact jx 3 hr
       exact jx 6 hr
      exact jx 11 hr
     exact jx 16 hr
    exact jx 21 hr
   replace hr:=K3a c7 hr
   refine dr 18 [(21,.tup []),(20,.tup []),(19,.tup []),(18,.tup []),(17,.tup []),(16,.tup []),(15,.tup []),(14,.tup []),(13,.tup []),(12,.bo v5),(11,.bo v5),(10,.bo v5),(9,.i a0.Month),(8,.ptr 1 1),(7,.bo v2),(6,.bo v2),(5,.i a0.Year),(4,.ptr 1 0)] mixed (by kernel_rfl) rfl rfl (pq tk rfl (.plain rfl) (pq tk rfl (.plain rfl) (.run (.plain rfl) (zFa (zDa a0.Year 1 4000 v2 h3) rfl) (pq tk rfl (.plain rfl) (pq tk rfl (.yes (d:=7) rfl rfl rfl c4) (pq tk rfl (.yes (d:=7) rfl rfl rfl c4) (.run (.yes (d:=7) rfl rfl rfl c4) (zFa (zDa a0.Month 1 12 v5 h6) rfl) (.run (.plain rfl) (k4a (yRa rfl c4)) (pq tk rfl (.plain rfl) (.skip (.no (d:=12) rfl rfl rfl c7) (.skip (.no (d:=12) rfl rfl rfl c7) (.skip (.no (d:=12) rfl rfl rfl c7) (.skip (.no (d:=12) rfl rfl rfl c7) (.skip (.no (d:=12) rfl rfl rfl c7) (.skip (.no (d:=12) rfl rfl rfl c7) (.skip (.no (d:=12) rfl rfl rfl c7) (.skip (.no (d:=12) rfl rfl rfl c7) (.skip (.no (d:=12) rfl rfl rfl c7) .nil)))))))))))))))))) rfl<|kn 12 c7 rfl ?_;exact jx 24 hr
  replace hr:=K3a c4 hr
  refine dr 18 [(21,.tup []),(20,.tup []),(19,.tup []),(18,.tup []),(17,.tup []),(16,.tup []),(15,.tup []),(14,.tup []),(13,.tup []),(12,.bo false),(11,.bo false),(10,.tup []),(9,.tup []),(8,.tup []),(7,.bo v2),(6,.bo v2),(5,.i a0.Year),(4,.ptr 1 0)] mixed (by kernel_rfl) rfl rfl (pq tk rfl (.plain rfl) (pq tk rfl (.plain rfl) (.run (.plain rfl) (zFa (zDa a0.Year 1 4000 v2 h3) rfl) (pq tk rfl (.plain rfl) (.skip (.no (d:=7) rfl rfl rfl c4) (.skip (.no (d:=7) rfl rfl rfl c4) (.skip (.no (d:=7) rfl rfl rfl c4) (.run (.plain rfl) (k4a (ZPa rfl c4)) (pq tk rfl (.plain rfl) (.skip (.no (d:=12) rfl rfl rfl rfl) (.skip (.no (d:=12) rfl rfl rfl rfl) (.skip (.no (d:=12) rfl rfl rfl rfl) (.skip (.no (d:=12) rfl rfl rfl rfl) (.skip (.no (d:=12) rfl rfl rfl rfl) (.skip (.no (d:=12) rfl rfl rfl rfl) (.skip (.no (d:=12) rfl rfl rfl rfl) (.skip (.no (d:=12) rfl rfl rfl rfl) (.skip (.no (d:=12) rfl rfl rfl rfl) .nil)))))))))))))))))) rfl ?_;exact jx 24 hr
 refine ax 7 45 hr (fun hr=>?_) fun hr=>?_
 .refine clx 2 hr (zga _ _) fun v25 _ hr=>?_
  exact kx 5 hr
 refine clx 4 hr zka fun v27 _ hr=>?_
 exact kx 4 hr
theorem KSa(a0:yga)(r:Int × zma)(hr:yxa a0=some r):Run prog 64 [.agg (zN0 a0)] (.tup [.i r.1,.agg [.i r.2.Code,.i r.2.Index]]):=by
 unfold yxa at hr;refine rfx (fn:=f64) func64 fun g0 hg=>?_
 refine clx 11 hr (Kia _) fun v1 _ hr=>?_
 refine clx 7 hr (zha _) fun v3 _ hr=>?_
 refine ax 2 10 hr (fun hr=>?_) fun hr=>?_
 .refine rn tk 1 rfl<|dr 2 [(2,.i 0),(11,.agg [.i v1.Code,.i v1.Index])] mixed (by kernel_rfl) rfl rfl (pq tk rfl (.plain rfl) (pq tk rfl (.plain rfl) .nil)) rfl ?_;exact kx 5 hr
 refine clx 10 hr (qDa _ _ _) fun v6 _ hr=>?_
 refine clx 1 hr (jka _ _) fun v8 _ hr=>?_
 refine clx 10 hr zka fun v10 _ hr=>?_
 exact kx 5 hr
theorem Qna(r:Str × Str × Str × Str × Str × Str × Str × Str × Str × Str × Str × Str)(hr:jaa=some r):Run prog 68 [] (.agg [.s r.1,.s r.2.1,.s r.2.2.1,.s r.2.2.2.1,.s r.2.2.2.2.1,.s r.2.2.2.2.2.1,.s r.2.2.2.2.2.2.1,.s r.2.2.2.2.2.2.2.1,.s r.2.2.2.2.2.2.2.2.1,.s r.2.2.2.2.2.2.2.2.2.1,.s r.2.2.2.2.2.2.2.2.2.2.1,.s r.2.2.2.2.2.2.2.2.2.2.2]):=by
 unfold jaa at hr;refine rfx (fn:=f68) func68 fun g0 hg=>?_
 refine rn tk 7 rfl<|wq (QZa (cs:=[.s (([74,97,110]:Str)),.s (([70,101,98]:Str)),.s (([77,97,114]:Str)),.s (([65,112,114]:Str)),.s (([77,97,121]:Str)),.s (([74,117,110]:Str)),.s (([74,117,108]:Str)),.s (([65,117,103]:Str)),.s (([83,101,112]:Str)),.s (([79,99,116]:Str)),.s (([78,111,118]:Str)),.s (([68,101,99]:Str))]) ysa zCa (.inr ⟨rfl,rfl⟩) (by kernel_rfl)) rfl rfl rfl ?_;exact kx 4 hr
theorem z3b{g:G}{w' :World}(h:Below g.w.heap.size g.w w'):Old (fun _=>False) g ⟨w',g.u,g.loc⟩:=
 ⟨h.os,h.tape,h.output,⟨h.size,fun _ _=>jAs _,fun k i hk _=>by simp only[World.cell?];rw[h.block k hk],fun r hr=>(h.block r (zAa hr)).trans hr⟩,fun k hk _=>⟨h.block k hk,rfl⟩⟩
theorem str_argP{g:G}{s:Str}{v:Value}(h:Rel g (.s s) v):v=.string (strB s):=zMa h
theorem Kja(s:Str)(n:Int)(r:Str)(hr:qca s n=some r):Run prog 100 [.s s,.i n] (.s r):=by
 unfold qca at hr;split at hr
 case isFalse=>cases hr
 rename_i hlen;cases hr;refine ⟨⟨_,_,⟨func100,rfl,by kernel_rfl⟩⟩,fun g vs hw hg ha=>?_⟩;obtain ⟨hsz,hrel⟩:=ha;obtain ⟨vl⟩:=vs
 match vl,hsz with
 | [x,y],_=>
  obtain rfl:=str_argP (hrel 0 _ rfl);have e2:y=.int .i64 n:=zMa (hrel 1 _ rfl);subst e2;have e3:((n.toNat:Nat):Int)=n:=by omega
  have h:=Tryz.strings_Repeat (strB s) n.toNat g.w (by omega) (by rw[zwa];exact hlen.2.2);rw[e3]at h;refine callsIn_wide.2 (h.mono ?_);rintro e w' ⟨rfl,hb⟩;exact ⟨⟨w',g.u,g.loc⟩,_,rfl,rfl,z3b hb,fun k hk=>hw k (jBi hb.size hk),rfl,.pv (.b rfl)⟩
theorem k3a(a0:Int)(a1:Int)(r:Str)(hr:q7a a0 a1=some r):Run prog 65 [.i a0,.i a1] (.s r):=by
 unfold q7a at hr;refine rfx (fn:=f65) func65 fun g0 hg=>?_
 refine clx 8 hr (k9a _) fun v1 _ hr=>?_
 refine rn tk 9 rfl<|wq (J3a rfl rfl) rfl rfl rfl ?_;refine clx 0 hr (Kja _ _) fun v3 _ hr=>?_
 refine rn tk 1 rfl ?_;obtain ⟨v5,h6,hr⟩:=zaa hr;refine wc h6 rfl rfl rfl ?_;exact kx 4 hr
theorem Kka(r:Str × Str × Str × Str × Str × Str × Str)(hr:w1a=some r):Run prog 67 [] (.agg [.s r.1,.s r.2.1,.s r.2.2.1,.s r.2.2.2.1,.s r.2.2.2.2.1,.s r.2.2.2.2.2.1,.s r.2.2.2.2.2.2]):=by
 unfold w1a at hr;refine rfx (fn:=f67) func67 fun g0 hg=>?_
 refine rn tk 7 rfl<|wq (QZa (cs:=[.s (([83,117,110]:Str)),.s (([77,111,110]:Str)),.s (([84,117,101]:Str)),.s (([87,101,100]:Str)),.s (([84,104,117]:Str)),.s (([70,114,105]:Str)),.s (([83,97,116]:Str))]) y4a zCa (.inr ⟨rfl,rfl⟩) (by kernel_rfl)) rfl rfl rfl ?_;exact kx 4 hr
theorem Vda(a0:yga)(r:Str × zma)(hr:Zta a0=some r):Run prog 32 [.agg (zN0 a0)] (.tup [.s r.1,.agg [.i r.2.Code,.i r.2.Index]]):=by
 unfold Zta at hr;refine rfx (fn:=f32) func32 fun g0 hg=>?_
 refine clx 10 hr (KSa _) fun v1 _ hr=>?_
 refine clx 12 hr (zha _) fun v3 _ hr=>?_
 refine ax 2 15 hr (fun hr=>?_) fun hr=>?_
 .refine rn tk 1 rfl<|dr 2 [(2,.s (([]:Str))),(16,.agg [.i v1.2.Code,.i v1.2.Index])] mixed (by kernel_rfl) rfl rfl (pq tk rfl (.plain rfl) (pq tk rfl (.plain rfl) .nil)) rfl ?_;exact kx 5 hr
 refine rn tk 3 rfl<|dr 3 [(6,.s (([43]:Str))),(18,.i a0.Zone),(17,.ptr 1 6)] mixed (by kernel_rfl) rfl rfl (pq tk rfl (.plain rfl) (pq tk rfl (.plain rfl) (pq tk rfl (.plain rfl) .nil))) rfl<|rn tk 3 rfl<|jb hr (fun j6=>[(1,.ptr 1 0),(3,.ptr 3 0),(4,.i v1.1),(6,.s j6.1),(7,.i j6.2)]) (fun j6=>[(3,.cells [.i 0,.i 0]),(1,.cells (zN0 a0))]) (fun j6 hr=>?_) (fun j6 hr=>?_)
 .refine ax 7 21 hr (fun hr=>?_) fun hr=>?_
  .refine dr 4 [(6,.s (([45]:Str))),(24,.i ((w64 (0 - a0.Zone)))),(23,.i a0.Zone),(22,.ptr 1 6)] mixed (by kernel_rfl) rfl rfl (pq tk rfl (.plain rfl) (pq tk rfl (.plain rfl) (.run (.plain rfl) (k4a (ev_ineg rfl)) (pq tk rfl (.plain rfl) .nil)))) rfl ?_;exact jx 2 hr
  exact jx 1 hr
 refine rn tk 4 rfl<|wq (yUa rfl rfl rfl) rfl rfl rfl ?_;refine clx 0 hr (k3a _ _) fun v8 _ hr=>?_
 refine rn tk 1 rfl<|wq (yVa rfl rfl rfl) rfl rfl rfl ?_;refine clx 0 hr (k3a _ _) fun v10 _ hr=>?_
 obtain ⟨v12,h13,hr⟩:=zaa hr;refine wc h13 rfl rfl rfl ?_;obtain ⟨v14,h15,hr⟩:=zaa hr;refine wc h15 rfl rfl rfl<|rn tk 4 rfl ?_;obtain ⟨v16,h17,hr⟩:=zaa hr;obtain ⟨v18,h19,hr⟩:=zaa hr;obtain ⟨v20,h21,hr⟩:=zaa hr;obtain ⟨v22,h23,hr⟩:=zaa hr;obtain ⟨v24,h25,hr⟩:=zaa hr;obtain ⟨v26,h27,hr⟩:=zaa hr;refine dr 12 [(45,.s v26),(44,.i a0.Second),(43,.ptr 1 5),(42,.s v24),(41,.s v22),(40,.s v20),(39,.i a0.Minute),(38,.ptr 1 4),(37,.s v18),(36,.s v16),(35,.i a0.Hour),(34,.ptr 1 3)] mixed (by kernel_rfl) rfl rfl (pq tk rfl (.plain rfl) (pq tk rfl (.plain rfl) (.run (.plain rfl) (zFa (k3a a0.Hour 2 v16 h17) rfl) (.run (.plain rfl) (k4a (W1a rfl rfl h19)) (pq tk rfl (.plain rfl) (pq tk rfl (.plain rfl) (.run (.plain rfl) (zFa (k3a a0.Minute 2 v20 h21) rfl) (.run (.plain rfl) (k4a (W1a rfl rfl h23)) (.run (.plain rfl) (k4a (W1a rfl rfl h25)) (pq tk rfl (.plain rfl) (pq tk rfl (.plain rfl) (.run (.plain rfl) (zFa (k3a a0.Second 2 v26 h27) rfl) .nil)))))))))))) rfl ?_;obtain ⟨v28,h29,hr⟩:=zaa hr;refine wc h29 rfl rfl rfl<|rn tk 4 rfl ?_;obtain ⟨v30,h31,hr⟩:=zaa hr;obtain ⟨v32,h33,hr⟩:=zaa hr;obtain ⟨v34,h35,hr⟩:=zaa hr;obtain ⟨v36,h37,hr⟩:=zaa hr;obtain ⟨v38,h39,hr⟩:=zaa hr;obtain ⟨v40,h41,hr⟩:=zaa hr;obtain ⟨v42,h43,hr⟩:=zaa hr;refine dr 17 [(63,.s v14),(62,.s v28),(61,.s v42),(60,.i a0.Year),(59,.ptr 1 0),(58,.s v40),(57,.i ((w64 (a0.Month - 1)))),(56,.i a0.Month),(55,.ptr 1 1),(54,.agg [.s v38.1,.s v38.2.1,.s v38.2.2.1,.s v38.2.2.2.1,.s v38.2.2.2.2.1,.s v38.2.2.2.2.2.1,.s v38.2.2.2.2.2.2.1,.s v38.2.2.2.2.2.2.2.1,.s v38.2.2.2.2.2.2.2.2.1,.s v38.2.2.2.2.2.2.2.2.2.1,.s v38.2.2.2.2.2.2.2.2.2.2.1,.s v38.2.2.2.2.2.2.2.2.2.2.2]),(53,.s v36),(52,.i a0.Day),(51,.ptr 1 2),(50,.s v34),(49,.s v32),(48,.i v1.1),(47,.agg [.s v30.1,.s v30.2.1,.s v30.2.2.1,.s v30.2.2.2.1,.s v30.2.2.2.2.1,.s v30.2.2.2.2.2.1,.s v30.2.2.2.2.2.2])] mixed (by kernel_rfl) rfl rfl (.run (.plain rfl) (zFa (Kka v30 h31) rfl) (pq tk rfl (.plain rfl) (.run (.plain rfl) (k4a (Jsa (f:=cS) (L:=([v30.1,v30.2.1,v30.2.2.1,v30.2.2.2.1,v30.2.2.2.2.1,v30.2.2.2.2.2.1,v30.2.2.2.2.2.2]:List Str)) rfl rfl y4a zCa rfl rfl (fun _=>rfl) h33 rfl)) (.run (.plain rfl) (k4a (W1a rfl rfl h35)) (pq tk rfl (.plain rfl) (pq tk rfl (.plain rfl) (.run (.plain rfl) (zFa (k3a a0.Day 2 v36 h37) rfl) (.run (.plain rfl) (zFa (Qna v38 h39) rfl) (pq tk rfl (.plain rfl) (pq tk rfl (.plain rfl) (pq tk rfl (.plain rfl) (.run (.plain rfl) (k4a (Jsa (f:=cS) (L:=([v38.1,v38.2.1,v38.2.2.1,v38.2.2.2.1,v38.2.2.2.2.1,v38.2.2.2.2.2.1,v38.2.2.2.2.2.2.1,v38.2.2.2.2.2.2.2.1,v38.2.2.2.2.2.2.2.2.1,v38.2.2.2.2.2.2.2.2.2.1,v38.2.2.2.2.2.2.2.2.2.2.1,v38.2.2.2.2.2.2.2.2.2.2.2]:List Str)) rfl rfl ysa zCa rfl rfl (fun _=>rfl) h41 rfl)) (pq tk rfl (.plain rfl) (pq tk rfl (.plain rfl) (.run (.plain rfl) (zFa (k3a a0.Year 4 v42 h43) rfl) (pq tk rfl (.plain rfl) (pq tk rfl (.plain rfl) .nil))))))))))))))))) rfl<|wz cS ([v34,v36,v40,v42,v28,v14]:List Str) tk rfl rfl (fun _=>rfl) rfl rfl rfl ?_;refine clx 0 hr (Qma _ _) fun v44 _ hr=>?_
 refine clx 0 hr zka fun v46 _ hr=>?_
 exact kx 5 hr
theorem wya(s t:Str)(r:Str × Str × Bool)(hr:qpa s t=some r):Run prog 93 [.s s,.s t] (.tup [.s r.1,.s r.2.1,.bo r.2.2]):=by
 unfold qpa at hr;split at hr
 case isFalse=>cases hr
 rename_i hlen;cases hr;refine ⟨⟨_,_,⟨func93,rfl,by kernel_rfl⟩⟩,fun g vs hw hg ha=>?_⟩;obtain ⟨hsz,hrel⟩:=ha;obtain ⟨l⟩:=vs
 match l,hsz with
 | [x,y],_=>
  obtain rfl:=ZDa (hrel 0 _ rfl);obtain rfl:=ZDa (hrel 1 _ rfl);obtain ⟨_,_,m,hm⟩:=hg.1 (1,0) (by simp[kbb]);refine callsIn_wide.2 ((Tryz.strings_Cut (strB s) (strB t) m g.w (by rw[zwa];exact hlen) hm).mono ?_);rintro e w' ⟨rfl,q,rfl⟩;refine ⟨⟨g.w.drewN q,g.u,g.loc⟩,_,rfl,rfl,YKa g q,hw,rfl,.tup rfl fun i c hi=>?_⟩
  match i,hi with
  | 0,rfl=>exact .pv (.b rfl)
  | 1,rfl=>exact .pv (.b rfl)
  | 2,rfl=>exact .pv (.b rfl)
theorem Qoa(a0:UInt8)(r:Bool)(hr:y6a a0=some r):Run prog 91 [.u8 a0] (.bo r):=by
 unfold y6a at hr;refine rfx (fn:=f91) func91 fun g0 hg=>?_
 refine jq 5 hr [] [] (fun j1=>[(2,.bo j1)]) (fun _=>[]) (fun j1 hr=>?_) (fun j1 hr=>?_)
 .refine bx 4 5 hr (fun c2 hr=>?_) fun c2 hr=>?_
  .refine bx 4 9 hr (fun c3 hr=>?_) fun c3 hr=>?_
   .exact jx 17 hr
   refine bx 3 12 hr (fun c4 hr=>?_) fun c4 hr=>?_
   .refine bx 5 17 hr (fun c5 hr=>?_) fun c5 hr=>?_
    .exact jx 9 hr
    refine bx 3 20 hr (fun c6 hr=>?_) fun c6 hr=>?_
    .exact jx 6 hr
    exact jx 6 hr
   refine bx 8 20 hr (fun c7 hr=>?_) fun c7 hr=>?_
   .exact jx 6 hr
   exact jx 6 hr
  refine bx 7 12 hr (fun c8 hr=>?_) fun c8 hr=>?_
  .refine bx 5 17 hr (fun c9 hr=>?_) fun c9 hr=>?_
   .exact jx 9 hr
   refine bx 3 20 hr (fun c10 hr=>?_) fun c10 hr=>?_
   .exact jx 6 hr
   exact jx 6 hr
  refine bx 8 20 hr (fun c11 hr=>?_) fun c11 hr=>?_
  .exact jx 6 hr
  exact jx 6 hr
 exact kx 1 hr
theorem jPa(s t:Str)(r:Bool)(hr:ksa s t=some r):Run prog 130 [.s s,.s t] (.bo r):=by
 unfold ksa at hr;split at hr
 case isFalse=>cases hr
 rename_i hlen;cases hr;refine ⟨⟨_,_,⟨func130,rfl,by kernel_rfl⟩⟩,fun g vs hw hg ha=>?_⟩;obtain ⟨hsz,hrel⟩:=ha;obtain ⟨l⟩:=vs
 match l,hsz with
 | [x,y],_=>
  obtain rfl:=ZDa (hrel 0 _ rfl);obtain rfl:=ZDa (hrel 1 _ rfl);obtain ⟨_,_,m,hm⟩:=hg.1 (1,0) (by simp[kbb]);refine callsIn_wide.2 ((Tryz.strings_Contains (strB s) (strB t) m g.w (by rw[zwa];exact hlen) hm).mono ?_);rintro e w' ⟨rfl,rfl⟩;exact ⟨g,_,rfl,rfl,Old.refl _ g,hw,rfl,.pv (.b rfl)⟩
theorem qWa(a0:Str)(a1:Str)(r:Bool)(hr:z6a a0 a1=some r):Run prog 147 [.s a0,.s a1] (.bo r):=by
 unfold z6a at hr;refine rfx (fn:=f147) func147 fun g0 hg=>?_
 refine jq 5 hr [] [] (fun j1=>[(4,.bo j1)]) (fun _=>[]) (fun j1 hr=>?_) (fun j1 hr=>?_)
 .refine bx 7 10 hr (fun c2 hr=>?_) fun c2 hr=>?_
  .refine rn tk 3 rfl ?_;obtain ⟨v3,h4,hr⟩:=zaa hr;refine ug rfl rfl rfl<|wscH tk h4 rfl rfl rfl rfl ?_;exact jx 5 hr
  exact jx 9 hr
 exact kx 1 hr
theorem vSa(a0:Str)(a1:Str)(r:Bool)(hr:kla a0 a1=some r):Run prog 113 [.s a0,.s a1] (.bo r):=by
 unfold kla at hr;refine rfx (fn:=f113) func113 fun g0 hg=>?_
 refine clx 9 hr (qWa _ _) fun v1 _ hr=>?_
 exact kx 4 hr
theorem qXa(a0:Str)(a1:Str)(r:Bool)(hr:z7a a0 a1=some r):Run prog 168 [.s a0,.s a1] (.bo r):=by
 unfold z7a at hr;refine rfx (fn:=f168) func168 fun g0 hg=>?_
 refine jq 5 hr [] [] (fun j1=>[(4,.bo j1)]) (fun _=>[]) (fun j1 hr=>?_) (fun j1 hr=>?_)
 .refine bx 7 10 hr (fun c2 hr=>?_) fun c2 hr=>?_
  .refine rn tk 6 rfl ?_;obtain ⟨v3,h4,hr⟩:=zaa hr;refine ug rfl rfl rfl<|wscL tk h4 rfl rfl rfl rfl ?_;exact jx 5 hr
  exact jx 12 hr
 exact kx 1 hr
theorem vTa(a0:Str)(a1:Str)(r:Bool)(hr:kma a0 a1=some r):Run prog 129 [.s a0,.s a1] (.bo r):=by
 unfold kma at hr;refine rfx (fn:=Tryz.f129) func129 fun g0 hg=>?_
 refine clx 9 hr (qXa _ _) fun v1 _ hr=>?_
 exact kx 4 hr
theorem ZEa(a0:Str)(r:Bool)(hr:wpa a0=some r):Run prog 96 [.s a0] (.bo r):=by
 unfold wpa at hr;refine rfx (fn:=f96) func96 fun g0 hg=>?_
 refine jq 10 hr [] [] (fun j1=>[(2,.bo j1)]) (fun _=>[]) (fun j1 hr=>?_) (fun j1 hr=>?_)
 .refine bx 4 6 hr (fun c2 hr=>?_) fun c2 hr=>?_
  .refine bx 5 11 hr (fun c3 hr=>?_) fun c3 hr=>?_
   .refine rn tk 2 rfl<|ug rfl rfl rfl ?_;refine ctq 0 hr [0,11] [] (fun j4=>[(14,.bo j4)]) (fun _=>[]) (fun j4 hr jump4=>?_) (fun j4 hr=>?_)
    .refine iq 0 400000 [0,11] (fn:=f89) ⟨func89,rfl,by kernel_rfl⟩ fun T4 ds4=>?_
     refine aq2 14 hr [0,1,7] [499999,400000,400011] (fun s5=>[(8,.i s5)]) (fun _=>[]) (.exit 0) [] [499999,400000,400011] (fun _=>[]) (fun _=>[]) .ret [4] [499999,400000,400011] (fun _=>[]) (fun _=>[]) (fun s5 x9 hr=>?_) (fun b6 hr=>?_) (fun b7 hr=>?_)
     .unfold wLa at hr;refine ax 6 9 hr (fun hr=>?_) fun hr=>?_
      .refine rn tk 15 rfl ?_;obtain ⟨v11,h12,hr⟩:=zaa hr;refine ws tk h12 rfl rfl rfl rfl ?_;refine iq 0 600000 [0,1,7,8] (fn:=f128) ⟨func128,rfl,by kernel_rfl⟩ fun T6 ds6=>?_
       refine jq 5 hr [] [699999,600000,600001,600007,600008,499999,400000,400011] (fun j13=>[(2,.bo j13)]) (fun _=>[]) (fun j13 hr=>?_) (fun j13 hr=>?_)
       .refine bx 4 5 hr (fun c14 hr=>?_) fun c14 hr=>?_
        .refine bx 4 9 hr (fun c15 hr=>?_) fun c15 hr=>?_
         .exact jx 17 hr
         refine bx 3 12 hr (fun c16 hr=>?_) fun c16 hr=>?_
         .refine bx 5 17 hr (fun c17 hr=>?_) fun c17 hr=>?_
          .exact jx 9 hr
          refine bx 4 21 hr (fun c18 hr=>?_) fun c18 hr=>?_
          .exact jx 5 hr
          exact jx 5 hr
         refine bx 9 21 hr (fun c19 hr=>?_) fun c19 hr=>?_
         .exact jx 5 hr
         exact jx 5 hr
        refine bx 7 12 hr (fun c20 hr=>?_) fun c20 hr=>?_
        .refine bx 5 17 hr (fun c21 hr=>?_) fun c21 hr=>?_
         .exact jx 9 hr
         refine bx 4 21 hr (fun c22 hr=>?_) fun c22 hr=>?_
         .exact jx 5 hr
         exact jx 5 hr
        refine bx 9 21 hr (fun c23 hr=>?_) fun c23 hr=>?_
        .exact jx 5 hr
        exact jx 5 hr
       refine ieq 1 (hO ?_);refine ax 3 16 hr (fun hr=>?_) fun hr=>?_
       .exact ox 8 hr
       exact cx 7 hr
      exact ox 2 hr
     .refine ieq 8 ?_;cases hr;exact jump4 _ _ rfl rfl
     refine ieq 2 ?_;cases hr;exact jump4 _ _ rfl rfl
    refine bx 2 16 hr (fun c25 hr=>?_) fun c25 hr=>?_
    .refine rn tk 1 rfl ?_;obtain ⟨v26,h27,hr⟩:=zaa hr;refine ug rfl rfl rfl<|cl (vSa _ _ _ h27) rfl rfl ?_;refine bx 3 21 hr (fun c28 hr=>?_) fun c28 hr=>?_
     .refine rn tk 1 rfl ?_;obtain ⟨v29,h30,hr⟩:=zaa hr;refine ug rfl rfl rfl<|cl (vTa _ _ _ h30) rfl rfl ?_;refine bx 3 26 hr (fun c31 hr=>?_) fun c31 hr=>?_
      .refine rn tk 1 rfl ?_;obtain ⟨v32,h33,hr⟩:=zaa hr;refine ug rfl rfl rfl<|cl (jPa _ _ _ h33) rfl rfl ?_;exact jx 4 hr
      exact jx 6 hr
     exact jx 11 hr
    exact jx 16 hr
   exact jx 21 hr
  exact jx 26 hr
 exact kx 1 hr
theorem Kla(a0:Str)(r:Str × Str × Bool)(hr:wZa a0=some r):Run prog 59 [.s a0] (.tup [.s r.1,.s r.2.1,.bo r.2.2]):=by
 unfold wZa at hr;refine rfx (fn:=f59) func59 fun g0 hg=>?_
 refine clx 10 hr (wya _ _) fun v1 _ hr=>?_
 refine jq 14 hr [2,3] [] (fun j3=>[(4,.bo j3)]) (fun _=>[]) (fun j3 hr=>?_) (fun j3 hr=>?_)
 .refine bx 5 15 hr (fun c4 hr=>?_) fun c4 hr=>?_
  .refine bx 4 19 hr (fun c5 hr=>?_) fun c5 hr=>?_
   .refine bx 5 24 hr (fun c6 hr=>?_) fun c6 hr=>?_
    .refine rn tk 2 rfl<|ug rfl rfl rfl ?_;refine ctq 0 hr [3,12,13,24] [] (fun j7=>[(27,.bo j7)]) (fun _=>[]) (fun j7 hr jump4=>?_) (fun j7 hr=>?_)
     .refine iq 0 400000 [3,12,13,24] (fn:=f89) ⟨func89,rfl,by kernel_rfl⟩ fun T4 ds4=>?_
      refine aq2 14 hr [0,1,7] [499999,400003,400012,400013,400024] (fun s8=>[(8,.i s8)]) (fun _=>[]) (.exit 0) [] [499999,400003,400012,400013,400024] (fun _=>[]) (fun _=>[]) .ret [4] [499999,400003,400012,400013,400024] (fun _=>[]) (fun _=>[]) (fun s8 x12 hr=>?_) (fun b9 hr=>?_) (fun b10 hr=>?_)
      .unfold yha at hr;refine ax 6 9 hr (fun hr=>?_) fun hr=>?_
       .refine rn tk 15 rfl ?_;obtain ⟨v14,h15,hr⟩:=zaa hr;refine ws tk h15 rfl rfl rfl rfl ?_;refine iq 0 600000 [0,1,7,8] (fn:=f94) ⟨func94,rfl,by kernel_rfl⟩ fun T6 ds6=>?_
        refine jq 5 hr [] [699999,600000,600001,600007,600008,499999,400003,400012,400013,400024] (fun j16=>[(2,.bo j16)]) (fun _=>[]) (fun j16 hr=>?_) (fun j16 hr=>?_)
        .refine clx 2 hr (Qoa _) fun v17 _ hr=>?_
         refine bx 1 5 hr (fun c19 hr=>?_) fun c19 hr=>?_
         .exact jx 6 hr
         refine rn tk 1 rfl ?_;obtain ⟨v20,h21,hr⟩:=zaa hr;refine ug rfl rfl rfl<|cl (zJa _ _ _ h21) rfl rfl ?_;exact jx 4 hr
        refine ieq 1 (hO ?_);refine ax 3 16 hr (fun hr=>?_) fun hr=>?_
        .exact ox 8 hr
        exact cx 7 hr
       exact ox 2 hr
      .refine ieq 8 ?_;cases hr;exact jump4 _ _ rfl rfl
      refine ieq 2 ?_;cases hr;exact jump4 _ _ rfl rfl
     refine bx 2 29 hr (fun c23 hr=>?_) fun c23 hr=>?_
     .refine rn tk 1 rfl ?_;obtain ⟨v24,h25,hr⟩:=zaa hr;refine ug rfl rfl rfl<|cl (ZEa _ _ h25) rfl rfl ?_;exact jx 5 hr
     exact jx 7 hr
    exact jx 12 hr
   exact jx 17 hr
  exact jx 21 hr
 exact kx 1 hr
theorem jQa(a0:Str)(r:Bool)(hr:vZa a0=some r):Run prog 27 [.s a0] (.bo r):=by
 unfold vZa at hr;refine rfx (fn:=f27) func27 fun g0 hg=>?_
 refine clx 8 hr (Kla _) fun v1 _ hr=>?_
 exact kx 16 hr
section
def PV.flat:PV->Bool
 | .b _=>true
 | _=>false
def AV.flat1:AV->Bool
 | .pv p=>p.flat
 | .hs _ _=>true
 | _=>false
def AV.flat2:AV->Bool
 | .agg l=>l.all AV.flat1
 | c=>c.flat1
def AV.flat:AV->Bool
 | .tup l=>l.all AV.flat2
 | c=>c.flat2
section
variable {g g' :G} {c:AV} {v:Value}
theorem YMa{w:World}{u u' :Nat->Nat}{p:PV}{v:Value}(hp:p.flat=true)(h:RelP w u p v):RelP w u' p v:=by
 cases h with
 | b hv=>exact .b hv
 | sl=>cases hp
theorem YNa(hw:g'.w=g.w)(hl:g'.loc=g.loc)(hc:c.flat1=true)(h:Rel g c v):Rel g' c v:=by
 cases h with
 | pv h=>exact .pv (by rw[hw];exact YMa hc h)
 | hsNil a h=>exact .hsNil a (by rw[hl];exact h)
 | hs h ha=>exact .hs (by rw[hl];exact h) ha
 | _=>cases hc
theorem YOa(hw:g'.w=g.w)(hl:g'.loc=g.loc)(hc:c.flat2=true)(h:Rel g c v):Rel g' c v:=by
 unfold AV.flat2 at hc;split at hc
 .cases h with
  | agg h1 h2 h3=>exact .agg h1 h2 fun i c hi=>YNa hw hl (jAn.1 hc c (jAg hi)) (h3 i c hi)
 exact YNa hw hl hc h
theorem rel_flat(hw:g'.w=g.w)(hl:g'.loc=g.loc)(hc:c.flat=true)(h:Rel g c v):Rel g' c v:=by
 unfold AV.flat at hc;split at hc
 .cases h with
  | tup h1 h3=>exact .tup h1 fun i c hi=>YOa hw hl (jAn.1 hc c (jAg hi)) (h3 i c hi)
 exact YOa hw hl hc h
end
theorem runS_mu0{P:Program}{f:FuncId}{args:List AV}{r:AV}{e:TypeId}{size R O:Nat}{rows:List Nat}{E:List (List PV)}(h:RunS P f args [] r [(R,.row e false size E)] O rows)(hr:r.flat=true)
 (hF:∀x∈E,∀c∈x,c.flat=true):RunS P f args [] r [(R,.row e true size E)] O rows:=by
 have hget:∀{mu:Bool} {E:List (List PV)} {o:Nat} {ob:AO},Sto.get [(R,.row e mu size E)] o=some ob->o=R/\ob=.row e mu size E:=by
  intro mu E o ob ho;have:=List.mem_singleton.1 (Sto.get_mem ho);cases this;exact ⟨rfl,rfl⟩
 have hself:∀{mu:Bool},Sto.get [(R,.row e mu size E)] R=some (.row e mu size E):=by intro mu;simp[Sto.get]
 refine ⟨h.ok,h.ok0,h.ok1,fun g vs hw hg ho ha=>(h.run g vs hw hg ho ha).mono ?_⟩;rintro e' w' ⟨g',v,rfl,hl,hold,hwf,rfl,hrel,hobj, -,hmine⟩;have hR:=hobj R _ hself;cases hR with
 | nil hn=>
  refine ⟨g',v,rfl,hl,hold,hwf,rfl,hrel,fun o ob ho=>?_,fun o o' ob ob' b h1 h2 _ _=>(hget h1).1.trans (hget h2).1.symm,fun o ob b h1 h2=>?_⟩
  .obtain ⟨rfl,rfl⟩:=hget ho;exact .nil hn
  obtain ⟨rfl,rfl⟩:=hget h1;exact hmine _ _ b hself h2
 | @row _ _ _ _ b off cap vs h1 h2 h3 h4 h5 h6 h7 h8 h9=>
  have hb:g.w.heap.size<=b:=by
   rcases hmine R _ b hself (by show (g'.loc R).block=some b;rw[h1];rfl) with hb | ⟨o,ob,hx,_⟩
   .exact hb
   cases hx
  refine ⟨⟨g'.w,fun k=>if k=b then 0 else g'.u k,g'.loc⟩,v,rfl,hl,⟨hold.os,hold.tape,hold.output,⟨hold.ext.size,fun k hk=>?_,hold.ext.cell,hold.ext.df⟩,fun k hk hs=>?_⟩,fun k hk=>?_,rfl,rel_flat (g:=g') rfl rfl hr hrel,fun o ob ho=>?_,fun o o' ob ob' b h1 h2 _ _=>(hget h1).1.trans (hget h2).1.symm,fun o ob b h1 h2=>?_⟩
  .show g.u k<=if k=b then 0 else g'.u k;rw[if_neg (by omega)];exact hold.ext.pub k hk
  .show _/\(if k=b then 0 else g'.u k)=_;rw[if_neg (by omega)];exact hold.block k hk hs
  .show (if k=b then 0 else g'.u k)=0;split
   .rfl
   exact hwf k hk
  .obtain ⟨rfl,rfl⟩:=hget ho;refine .row h1 h2 h3 h4 h5 h6 (by show (if b=b then 0 else _)<=_;rw[if_pos rfl];exact jCb _) (fun _=>by show (if b=b then 0 else _)=0;rw[if_pos rfl]) fun i j x c hi hj=>YMa (hF x (jAg hi) c (jAg hj)) (h9 i j x c hi hj)
  obtain ⟨rfl,rfl⟩:=hget h1;exact hmine _ _ b hself h2
theorem runS_mu{α:Type}{F:α->List PV}{P:Program}{f:FuncId}{args:List AV}{r:AV}{e:TypeId}{size R O:Nat}{rows:List Nat}{l:List α}(h:RunS P f args [] r [(R,.row e false size (l.map F))] O rows)(hr:r.flat=true)
 (hF:∀x,(F x).all PV.flat=true:=by exact fun _=>rfl):RunS P f args [] r [(R,.row e true size (l.map F))] O rows:=
 runS_mu0 h hr fun x hx c hc=>by
  obtain ⟨y,_,rfl⟩:=jBo.1 hx;exact jAn.1 (hF y) c hc
theorem KTa{P:Program}{ρ:Operand->AV}{σ:Sto}{x:Operand}{nl:Option Bool}{t e ty:TypeId}{dst:Option Tmp}{pos:String}{af:Array Edge}{gu:Option (Nat × Bool)}(hx:ρ x=.pv (.sl nl []))(ht:P.underlying t=some (.slice e)):EvQ P ⟨dst,.call ⟨.builtin .len, #[x], #[t]⟩,ty,pos,af,gu⟩ ρ σ (.i 0):=
 knb (f:=fun _:Unit=>[]) (l:=[]) hx ht
theorem St.dropc{E:Env}{fr:Fr}{σ:Sto}{g:G}{a:Act}(o:Nat)(h:St E g a fr σ):St E g a (fr.clrs [o]) ((σ.clrs [o]).dels [o]):=by
 have hget:∀o' ob,((σ.clrs [o]).dels [o]).get o' =some ob->o' ∉ [o]/\∃ob1,σ.get o' =some ob1/\ob=ob1.clrs [o]:=by
  intro o' ob ho;rw[Sto.get_dels]at ho;split at ho
  .cases ho
  rename_i hn;rw[Sto.get_clrs,jAh]at ho;obtain ⟨ob1,h1,rfl⟩:=ho;exact ⟨hn,ob1,h1,rfl⟩
 refine ⟨fun d=>?_,h.n,h.df,⟨fun o' ob ho=>?_,fun o1 o2 ob1 ob2 b h1 h2 h3 h4=>?_,fun o' ob b h1 h2=>?_,h.so.old,h.so.wf⟩⟩
 .rw[Fr.get_clrs];exact QGa (Ext.refl _ _) (fun _ _=>rfl) (h.fr d)
 .obtain ⟨hn,ob1,h1,rfl⟩:=hget o' ob ho;exact Yla (h.so.obj o' ob1 h1) (Ext.refl _ _) (fun _ _=>rfl) hn fun _ _=>⟨rfl,rfl⟩
 .obtain ⟨_,p1,q1,rfl⟩:=hget o1 ob1 h1;obtain ⟨_,p2,q2,rfl⟩:=hget o2 ob2 h2;rw[AO.own_clrs]at h3 h4;exact h.so.apart o1 o2 p1 p2 b q1 q2 h3 h4
 obtain ⟨_,p1,q1,rfl⟩:=hget o' ob h1;rw[AO.own_clrs]at h2;exact h.so.mine o' p1 b q1 h2
theorem YPa{E:Env}{fr:Fr}{σ:Sto}{K:Post}{c:Code}(o:Nat)(h:AWP E c (fr.clrs [o]) ((σ.clrs [o]).dels [o]) K):AWP E c fr σ K:=⟨fun g a hst=>h.go g a (hst.dropc o)⟩
theorem V2a{E:Env}{fr:Fr}{σ:Sto}{K:Post}{ops:Array Oper}{ol:List Oper}(o:Nat)(h:AWPL E ops ol (fr.clrs [o]) ((σ.clrs [o]).dels [o]) K):AWPL E ops ol fr σ K:=⟨fun g a hst=>h.go g a (hst.dropc o)⟩
end
theorem jla(a0:Str)(r:Str)(hr:yva a0=some r):Run prog 148 [.s a0] (.s r):=by
 unfold yva at hr;refine rfx (fn:=f148) func148 fun g0 hg=>?_
 refine rn tk 8 rfl<|wo (zIb (k:=7) (s:=a0) 1007 rfl rfl rfl rfl zCa zsa zEa) rfl<|rn tk 7 rfl<|wq (kPb (l:=a0) rfl rfl zsa.u) rfl rfl rfl ?_;refine aq1 4 hr [3,8,9] [] (fun s1=>[(10,.i s1.1)]) (fun s1=>[(1007,.buf s1.2)]) (.exit 0) [3] [] (fun _=>[]) (fun b2=>[(1007,.buf b2)]) (fun s1 x3 hr=>?_) (fun b2 hr=>?_)
 .unfold j1a at hr;refine ax 6 11 hr (fun hr=>?_) fun hr=>?_
  .refine jq 2 hr [3,8,9,10] [] (fun _=>[]) (fun j5=>[(1007,.buf j5)]) (fun j5 hr=>?_) (fun j5 hr=>?_)
   .refine rn tk 4 rfl ?_;obtain ⟨v6,h7,hr⟩:=zaa hr;refine wq (Yba (l:=s1.2) (n:=s1.1) rfl rfl rfl zsa zEa h7) rfl rfl rfl ?_;obtain ⟨v8,h9,hr⟩:=zaa hr;refine wq (zHb (l:=s1.2) (n:=s1.1) rfl rfl zEa h9) rfl rfl rfl ?_;refine jq 4 hr [3,4,5,8,9,10] [1007] (fun j10=>[(20,.bo j10)]) (fun _=>[]) (fun j10 hr=>?_) (fun j10 hr=>?_)
    .refine bx 4 17 hr (fun c11 hr=>?_) fun c11 hr=>?_
     .exact jx 4 hr
     exact jx 4 hr
    refine ax 0 20 hr (fun hr=>?_) fun hr=>?_
    .refine rn tk 4 rfl<|wq (ev_u8add (a:=v8) (b:=(97:UInt8)) rfl rfl) rfl rfl rfl<|wq (ev_u8sub (a:=((v8+(97:UInt8)))) (b:=(65:UInt8)) rfl rfl) rfl rfl rfl ?_;obtain ⟨v13,h14,hr⟩:=zaa hr;refine wq (Yba (l:=s1.2) (n:=s1.1) rfl rfl rfl zsa zEa h14) rfl rfl rfl ?_;obtain ⟨v15,h16,hr⟩:=zaa hr;refine wo (Wva (l:=s1.2) (n:=s1.1) (v:=v15) (v' :=(((v8+(97:UInt8)) - (65:UInt8)))) rfl rfl rfl zEa h16) rfl ?_;exact jx 2 hr
    exact jx 2 hr
   exact cx 4 hr
  exact ox 2 hr
 refine rn tk 5 rfl<|wq (ev_buf2s (l:=b2) rfl rfl zsa zEa zCa) rfl rfl rfl ?_;exact kx 4 hr
theorem zSa(a0:Str)(a1:Str)(r:Bool)(hr:kua a0 a1=some r):Run prog 114 [.s a0,.s a1] (.bo r):=by
 unfold kua at hr;refine rfx (fn:=f114) func114 fun g0 hg=>?_
 refine rn tk 5 rfl<|jb hr (fun j1=>[(4,.bo j1)]) (fun j1=>[]) (fun j1 hr=>?_) (fun j1 hr=>?_)
 .refine bx 7 10 hr (fun c2 hr=>?_) fun c2 hr=>?_
  .refine rn tk 1 rfl ?_;obtain ⟨v3,h4,hr⟩:=zaa hr;refine ug rfl rfl rfl<|cl (jla _ _ h4) rfl rfl<|rn tk 1 rfl ?_;obtain ⟨v5,h6,hr⟩:=zaa hr;refine ug rfl rfl rfl<|cl (jla _ _ h6) rfl rfl ?_;exact jx 4 hr
  exact jx 8 hr
 exact kx 1 hr
theorem vca(a0:Str)(r:Bool)(hr:vsa a0=some r):Run prog 150 [.s a0] (.bo r):=by
 unfold vsa at hr;refine rfx (fn:=Tryz.f150) func150 fun g0 hg=>?_
 refine jq 5 hr [] [] (fun j1=>[(2,.bo j1)]) (fun _=>[]) (fun j1 hr=>?_) (fun j1 hr=>?_)
 .refine bx 4 5 hr (fun c2 hr=>?_) fun c2 hr=>?_
  .refine bx 5 10 hr (fun c3 hr=>?_) fun c3 hr=>?_
   .refine rn tk 1 rfl<|ug rfl rfl rfl ?_;refine ctq 0 hr [10] [] (fun j4=>[(12,.bo j4)]) (fun _=>[]) (fun j4 hr jump4=>?_) (fun j4 hr=>?_)
    .refine iq 0 400000 [10] (fn:=f89) ⟨func89,rfl,by kernel_rfl⟩ fun T4 ds4=>?_
     refine aq2 14 hr [0,1,7] [499999,400010] (fun s5=>[(8,.i s5)]) (fun _=>[]) (.exit 0) [] [499999,400010] (fun _=>[]) (fun _=>[]) .ret [4] [499999,400010] (fun _=>[]) (fun _=>[]) (fun s5 x9 hr=>?_) (fun b6 hr=>?_) (fun b7 hr=>?_)
     .unfold Zca at hr;refine ax 6 9 hr (fun hr=>?_) fun hr=>?_
      .refine rn tk 15 rfl ?_;obtain ⟨v11,h12,hr⟩:=zaa hr;refine ws tk h12 rfl rfl rfl rfl ?_;refine iq 0 600000 [0,1,7,8] (fn:=f186) ⟨func186,rfl,by kernel_rfl⟩ fun T6 ds6=>?_
       refine jq 5 hr [] [699999,600000,600001,600007,600008,499999,400010] (fun j13=>[(2,.bo j13)]) (fun _=>[]) (fun j13 hr=>?_) (fun j13 hr=>?_)
       .refine bx 4 5 hr (fun c14 hr=>?_) fun c14 hr=>?_
        .refine bx 4 9 hr (fun c15 hr=>?_) fun c15 hr=>?_
         .refine rn tk 1 rfl ?_;obtain ⟨v16,h17,hr⟩:=zaa hr;refine ug rfl rfl rfl<|cl (zJa _ _ _ h17) rfl rfl ?_;exact jx 4 hr
         exact jx 6 hr
        exact jx 10 hr
       refine ieq 1 (hO ?_);refine ax 3 16 hr (fun hr=>?_) fun hr=>?_
       .exact ox 8 hr
       exact cx 7 hr
      exact ox 2 hr
     .refine ieq 8 ?_;cases hr;exact jump4 _ _ rfl rfl
     refine ieq 2 ?_;cases hr;exact jump4 _ _ rfl rfl
    exact jx 3 hr
   exact jx 5 hr
  exact jx 10 hr
 exact kx 1 hr
theorem wha(a0:Str)(r:Bool)(hr:kNa a0=some r):Run prog 153 [.s a0] (.bo r):=by
 unfold kNa at hr;refine rfx (fn:=Tryz.f153) func153 fun g0 hg=>?_
 refine aq1 7 hr [] [] (fun s1=>[(0,.s s1)]) (fun _=>[]) (.exit 0) [] [] (fun _=>[]) (fun _=>[]) (fun s1 x3 hr=>?_) (fun b2 hr=>?_)
 .unfold qsa at hr;refine ax 8 9 hr (fun hr=>?_) fun hr=>?_
  .refine rn tk 6 rfl ?_;obtain ⟨v5,h6,hr⟩:=zaa hr;refine ws tk h6 rfl rfl rfl rfl ?_;refine ax 10 13 hr (fun hr=>?_) fun hr=>?_
   .refine rn tk 3 rfl ?_;obtain ⟨v8,h9,hr⟩:=zaa hr;refine wscL tk h9 rfl rfl rfl rfl ?_;refine bx 10 19 hr (fun c10 hr=>?_) fun c10 hr=>?_
    .refine rn tk 1 rfl ?_;cases hr
    exact cx 13 hr
   refine rn tk 5 rfl ?_;cases hr
  exact ox 2 hr
 exact kx 8 hr
theorem vda(a0:kca)(r:zma)(hr:qKa a0=some r):Run prog 116 [.agg [.s a0.Type_,.s a0.Sub,.l zla.pc a0.Params]] (.agg [.i r.Code,.i r.Index]):=by
 unfold qKa at hr;refine rfx (fn:=f116) func116 fun g0 hg=>?_
 refine jq 7 hr [1,2] [2,1] (fun j1=>[(14,.bo j1)]) (fun _=>[]) (fun j1 hr=>?_) (fun j1 hr=>?_)
 .refine clx 3 hr (vca _) fun v2 _ hr=>?_
  refine bx 2 9 hr (fun c4 hr=>?_) fun c4 hr=>?_
  .exact jx 6 hr
  refine rn tk 2 rfl ?_;obtain ⟨v5,h6,hr⟩:=zaa hr;refine ug rfl rfl rfl<|cl (vca _ _ h6) rfl rfl ?_;exact jx 3 hr
 refine ax 0 14 hr (fun hr=>?_) fun hr=>?_
 .refine clx 2 hr (zga _ _) fun v8 _ hr=>?_
  exact kx 5 hr
 refine rn tk 7 rfl<|wn tk rfl rfl rfl ?_;refine ax 3 19 hr (fun hr=>?_) fun hr=>?_
 .refine clx 2 hr (zga _ _) fun v11 _ hr=>?_
  exact kx 5 hr
 refine rn tk 7 rfl<|wn tk rfl rfl rfl ?_;refine aq2 4 hr [1,2,22,23] [2,1] (fun s13=>[(24,.i s13)]) (fun _=>[]) (.exit 0) [2] [2] (fun _=>[]) (fun _=>[]) .ret [2] [] (fun _=>[]) (fun b15=>[(2,.cells [.i b15.Code,.i b15.Index])]) (fun s13 x17 hr=>?_) (fun b14 hr=>?_) (fun b15 hr=>?_)
 .unfold yla at hr;refine ax 6 25 hr (fun hr=>?_) fun hr=>?_
  .refine rn tk 7 rfl ?_;obtain ⟨v19,h20,hr⟩:=zaa hr;refine wi tk h20 rfl rfl rfl rfl rfl ?_;refine jq 7 hr [1,2,3,4,22,23,24] [4,2,1] (fun j21=>[(29,.bo j21)]) (fun _=>[]) (fun j21 hr=>?_) (fun j21 hr=>?_)
   .refine clx 3 hr (vca _) fun v22 _ hr=>?_
    refine bx 2 34 hr (fun c24 hr=>?_) fun c24 hr=>?_
    .exact jx 7 hr
    exact jx 7 hr
   refine ax 0 29 hr (fun hr=>?_) fun hr=>?_
   .refine clx 3 hr (zga _ _) fun v26 _ hr=>?_
    exact ox 7 hr
   refine rn tk 5 rfl ?_;obtain ⟨v28,h29,hr⟩:=zaa hr;refine wlH tk h29 rfl rfl rfl (fun _=>rfl) rfl ?_;refine iq 1 500000 [1,2,3,4,22,23,24] (fn:=Tryz.f151) ⟨func151,rfl,by kernel_rfl⟩ fun T5 ds5=>?_
   refine ctq 9 hr [] [599999,500001,500002,500003,500004,500022,500023,500024,4,2,1] (fun j30=>[(7,.i j30)]) (fun _=>[]) (fun j30 hr jump6=>?_) (fun j30 hr=>?_)
   .refine iq 0 600000 [] (fn:=Tryz.f165) ⟨func165,rfl,by kernel_rfl⟩ fun T6 ds6=>?_
    refine rn tk 9 rfl<|wn tk rfl rfl rfl ?_;refine aq2 4 hr [0,1,7] [699999,599999,500001,500002,500003,500004,500022,500023,500024,4,2,1] (fun s31=>[(8,.i s31)]) (fun _=>[]) (.exit 0) [] [699999,599999,500001,500002,500003,500004,500022,500023,500024,4,2,1] (fun _=>[]) (fun _=>[]) .ret [] [699999,599999,500001,500002,500003,500004,500022,500023,500024,4,2,1] (fun b33=>[(4,.i b33)]) (fun _=>[]) (fun s31 x35 hr=>?_) (fun b32 hr=>?_) (fun b33 hr=>?_)
    .unfold yka at hr;refine ax 6 9 hr (fun hr=>?_) fun hr=>?_
     .refine rn tk 15 rfl ?_;obtain ⟨v37,h38,hr⟩:=zaa hr;refine wi tk h38 rfl rfl rfl rfl rfl ?_;refine iq 1 800000 [0,1,5,7,8] (fn:=Tryz.f152) ⟨func152,rfl,by kernel_rfl⟩ fun T8 ds8=>?_
      refine rn tk 2 rfl<|wo (q0a (k:=2) 1002 rfl rfl rfl rfl rfl) rfl ?_;refine clx 9 hr (zSa _ _) fun v39 _ hr=>?_
      refine ieq 4 (hO ?_);refine ax 2 16 hr (fun hr=>?_) fun hr=>?_
      .exact ox 9 hr
      exact cx 7 hr
     exact ox 2 hr
    .refine ieq 8 ?_;cases hr;exact jump6 _ _ rfl rfl
    refine ieq 2 ?_;cases hr;exact jump6 _ _ rfl rfl
   refine ieq 5 (hO ?_);refine ax 3 42 hr (fun hr=>?_) fun hr=>?_
   .refine clx 3 hr (zga _ _) fun v43 _ hr=>?_
    exact ox 7 hr
   refine ax 9 51 hr (fun hr=>?_) fun hr=>?_
   .refine clx 3 hr (zga _ _) fun v46 _ hr=>?_
    exact ox 7 hr
   refine clx 4 hr (wha _) fun v48 _ hr=>?_
   refine ax 4 58 hr (fun hr=>?_) fun hr=>?_
   .refine clx 3 hr (zga _ _) fun v51 _ hr=>?_
    exact ox 7 hr
   exact cx 8 hr
  exact ox 2 hr
 .refine clx 4 hr zka fun v53 _ hr=>?_
  exact kx 4 hr
 exact kx 2 hr
theorem jma(a0:kca)(a1:Str)(r:Str × Bool × zma)(hr:yBa a0 a1=some r):Run prog 143 [.agg [.s a0.Type_,.s a0.Sub,.l zla.pc a0.Params],.s a1] (.tup [.s r.1,.bo r.2.1,.agg [.i r.2.2.Code,.i r.2.2.Index]]):=by
 unfold yBa at hr;refine rfx (fn:=Tryz.f143) func143 fun g0 hg=>?_
 refine clx 12 hr (vda _) fun v1 _ hr=>?_
 refine clx 7 hr (zha _) fun v3 _ hr=>?_
 refine ax 2 13 hr (fun hr=>?_) fun hr=>?_
 .refine dq 1 3 [] [] .nil .nil ?_ mixed;exact kx 5 hr
 refine rn tk 7 rfl<|wn tk rfl rfl rfl ?_;refine aq2 4 hr [1,6,16,17] [6] (fun s6=>[(18,.i s6)]) (fun _=>[]) (.exit 0) [6] [6] (fun _=>[]) (fun _=>[]) .ret [6] [] (fun b8=>[(4,.s b8.1),(5,.bo b8.2.1)]) (fun b8=>[(6,.cells [.i b8.2.2.Code,.i b8.2.2.Index])]) (fun s6 x10 hr=>?_) (fun b7 hr=>?_) (fun b8 hr=>?_)
 .unfold Zda at hr;refine ax 6 19 hr (fun hr=>?_) fun hr=>?_
  .refine rn tk 6 rfl ?_;obtain ⟨v12,h13,hr⟩:=zaa hr;refine wi tk h13 rfl rfl rfl rfl rfl ?_;refine clx 10 hr (zSa _ _) fun v14 _ hr=>?_
   refine ax 2 25 hr (fun hr=>?_) fun hr=>?_
   .refine rn tk 1 rfl ?_;obtain ⟨v17,h18,hr⟩:=zaa hr;refine dq 0 3 [] [(2,.agg [.i v17.Code,.i v17.Index])] .nil (.cons rfl rfl (zFa (zka v17 h18) rfl) .nil) ?_ mixed;exact ox 8 hr
   exact cx 7 hr
  exact ox 2 hr
 .refine clx 4 hr zka fun v19 _ hr=>?_
  exact kx 6 hr
 exact kx 2 hr
theorem Qpa(a0:List zia)(r:zla × Bool)(hr:jea a0=some r):Run prog 218 [.l zia.pc a0] (.tup [.agg [.s r.1.Name,.s r.1.Value],.bo r.2]):=by
 unfold jea at hr;refine rfx (fn:=f218) func218 fun g0 hg=>?_
 refine rn tk 7 rfl ?_;obtain ⟨v1,h2,hr⟩:=zaa hr;obtain ⟨v3,h4,hr⟩:=zaa hr;refine drA 10 [(4,.ptr 4 0),(15,.agg [.s v1.name,.s v3.value]),(14,.s v3.value),(13,.ep [pS v3.value]),(12,.ep [pS v3.name,pI v3.number,pB v3.star,pS v3.value]),(11,.l zia.pc a0),(10,.s v1.name),(9,.ep [pS v1.name,pI v1.number,pB v1.star,pS v1.value]),(8,.ep [pS v1.name,pI v1.number,pB v1.star,pS v1.value]),(7,.l zia.pc a0)] mixed (by kernel_rfl) rfl rfl (pqA tk rfl (.plain rfl) (.run (.plain rfl) (k4a (QKa (f:=zia.pc) rfl rfl vYa wYa rfl h2)) (pqA tk rfl (.plain rfl) (pqA tk rfl (.plain rfl) (pqA tk rfl (.plain rfl) (.run (.plain rfl) (k4a (QKa (f:=zia.pc) rfl rfl vYa wYa rfl h4)) (pqA tk rfl (.plain rfl) (pqA tk rfl (.plain rfl) (pqA tk rfl (.plain rfl) (pnA 4 tk rfl rfl rfl (.plain rfl) .nil)))))))))) rfl rfl rfl<|rn tk 7 rfl ?_;obtain ⟨v5,h6,hr⟩:=zaa hr;refine wi tk h6 rfl rfl rfl rfl rfl ?_;refine ax 5 20 hr (fun hr=>?_) fun hr=>?_
 .refine rn tk 4 rfl<|wn tk rfl rfl rfl ?_;exact kx 7 hr
 refine rn tk 5 rfl ?_;cases hr
theorem YQa{g:G}{s:Str}{v:Value}(h:Rel g (.s s) v):v=.string (strB s):=zMa h
theorem JOa{g:G}{w' :World}(h:Below g.w.heap.size g.w w'):Old (fun _=>False) g ⟨w',g.u,g.loc⟩:=
 ⟨h.os,h.tape,h.output,⟨h.size,fun _ _=>jAs _,fun k i hk _=>by simp only[World.cell?];rw[h.block k hk],fun r hr=>(h.block r (zAa hr)).trans hr⟩,fun k hk _=>⟨h.block k hk,rfl⟩⟩
theorem jRa(s t:Str)(r:Str)(hr:v0a s t=some r):Run prog 215 [.s s,.s t] (.s r):=by
 unfold v0a at hr;split at hr
 case isFalse=>cases hr
 rename_i hc;obtain ⟨h1,h2,h3⟩:=hc;cases hr;refine ⟨⟨_,_,⟨func215,rfl,by kernel_rfl⟩⟩,fun g vs hw hg ha=>?_⟩;obtain ⟨hsz,hrel⟩:=ha;obtain ⟨l⟩:=vs
 match l,hsz with
 | [x,y],_=>
  obtain rfl:=YQa (hrel 0 _ rfl);obtain rfl:=YQa (hrel 1 _ rfl);have h116:(prog.info? 261).map (fun i=>(i.zero,i.size))=some (some (.agg (Array.replicate 256 (.bool false))),256):=by kernel_rfl
  refine callsIn_wide.2 ((Any.strings_TrimLeft_laid Tryz.lays161 h116 (strB s) (strB t) g.w (by rw[zwa];exact h2) (ascii_of_all (by simpa[VRa,strB]using h3))).mono ?_);rintro e w' ⟨rfl,hb⟩;refine ⟨⟨w',g.u,g.loc⟩,_,rfl,(by intros;rfl),JOa hb,fun k hk=>hw k (jBi hb.size hk),rfl,?_⟩;rw[show (strB s).data.toList=s by simp[strB],show (strB t).data.toList=t by simp[strB]];exact .pv (.b rfl)
theorem zLa(a0:zea)(r:zea)(hr:zIa a0=some r):RunS prog 189 [.ptr 90008000 0] (zea.sto a0) (.tup []) (zea.sto r) 90008000 []:=by
 unfold zIa at hr;refine rfS (fn:=f189) (H:=90008999) (.ptr 90008000 0) ⟨func189,rfl,by kernel_rfl⟩ rfl (hasT rfl) (.inl ⟨rfl,rfl⟩) rfl rfl rfl rfl fun g0 hg S sg T=>?_
 refine clx 6 hr (jRa _ _) fun v1 _ hr=>?_
 exact sxx 4 hr
theorem YRa{g:G}{s:Str}{v:Value}(h:Rel g (.s s) v):v=.string (strB s):=zMa h
theorem jna(s t:Str)(r:Str × Bool)(hr:koa s t=some r):Run prog 213 [.s s,.s t] (.tup [.s r.1,.bo r.2]):=by
 unfold koa at hr;split at hr
 case isFalse=>cases hr
 rename_i hlen;cases hr;refine ⟨⟨_,_,⟨func213,rfl,by kernel_rfl⟩⟩,fun g vs hw hg ha=>?_⟩;obtain ⟨hsz,hrel⟩:=ha;obtain ⟨l⟩:=vs
 match l,hsz with
 | [x,y],_=>
  obtain rfl:=YRa (hrel 0 _ rfl);obtain rfl:=YRa (hrel 1 _ rfl);refine callsIn_wide.2 ((Tryz.strings_CutSuffix (strB s) (strB t) g.w (by rw[zwa];exact hlen)).mono ?_);rintro e w' ⟨rfl,rfl⟩;refine ⟨g,_,rfl,rfl,Old.refl _ g,hw,rfl,.tup rfl fun i c hi=>?_⟩
  match i,hi with
  | 0,rfl=>exact .pv (.b rfl)
  | 1,rfl=>exact .pv (.b rfl)
theorem YSa(g:G)(e:TypeId)(s:ByteArray):Old (fun _=>False) g ⟨Lib.bytesWorld g.w e s,g.u,g.loc⟩:=by
 generalize hw:Lib.bytesWorld g.w e s=w';unfold Lib.bytesWorld at hw;have hother:∀q,q < g.w.heap.size->w'.heap[q]? =g.w.heap[q]? :=by
  intro q hq;subst hw;simp only[World.freeze,Nat.one_ne_zero,if_false,jBg];rw[if_neg (by omega)];exact Below.heap_alloc g.w.drew _ _ hq
 have hws:w'.heap.size=g.w.heap.size+1:=by subst hw;simp[World.freeze]
 refine ⟨by subst hw;first | (simp[World.freeze];done) | (simp[World.freeze];rfl),by subst hw;first | (simp[World.freeze];done) | (simp[World.freeze];rfl),by subst hw;first | (simp[World.freeze];done) | (simp[World.freeze];rfl),⟨by show g.w.heap.size<=w'.heap.size;omega,fun _ _=>jAs _,fun k i hk hi=>?_,fun r hr=>(hother r (zAa hr)).trans hr⟩,fun k hk _=>⟨hother k hk,rfl⟩⟩;simp only[World.cell?];rw[hother k hk]
theorem z4b{g:G}{w' :World}(h:Below g.w.heap.size g.w w'):Old (fun _=>False) g ⟨w',g.u,g.loc⟩:=
 ⟨h.os,h.tape,h.output,⟨h.size,fun _ _=>jAs _,fun k i hk _=>by simp only[World.cell?];rw[h.block k hk],fun r hr=>(h.block r (zAa hr)).trans hr⟩,fun k hk _=>⟨h.block k hk,rfl⟩⟩
theorem err_var {g : G} (hg : Gl g) : ∃ tp p, g.w.var? prog "strconv.ErrSyntax" = some #[.iface tp p] := by
 obtain ⟨tp,x,t,fz,h⟩:=hg.2.2 6 (by simp[zqb]);have hn : prog.globalNamed "strconv.ErrSyntax" = some 6 := by kernel_rfl
 refine ⟨tp,x,?_⟩;unfold World.var?;rw[hn];simp only[jAc];rw[h]
theorem Qqa(s:Str)(r:Int × Bool)(hr:qTa s=some r):Run prog 231 [.s s] (.tup [.i r.1,.ifc r.2]):=by
 unfold qTa at hr;split at hr
 case isFalse=>cases hr
 rename_i hlen;refine ⟨⟨_,_,⟨func231,rfl,by kernel_rfl⟩⟩,fun g vs hw hg ha=>?_⟩;obtain ⟨hsz,hrel⟩:=ha;obtain ⟨l⟩:=vs
 match l,hsz with
 | [x],_=>
  obtain rfl:=str_argN (hrel 0 _ rfl);cases hn:Lib.atoi s with
  | none=>
   rw[hn]at hr;cases hr;obtain ⟨tp,p,hvar⟩:=err_var hg;refine callsIn_wide.2 ((Tryz.strconv_Atoi_err_var (strB s) (by rw[zwa];exact hlen) (by simpa[strB]using hn) tp p g.w hvar).mono ?_);rintro e w' ⟨N,rfl,_,_,hb⟩;exact ⟨⟨w',g.u,g.loc⟩,_,rfl,rfl,z4b hb,fun k hk=>hw k (jBi hb.size hk),rfl,.tup rfl fun i c hi=>by
    match i,hi with
    | 0,rfl=>exact .pv (.b rfl)
    | 1,rfl=>exact .ifc rfl⟩
  | some n=>
   rw[hn]at hr;cases hr;refine callsIn_wide.2 ((Tryz.strconv_Atoi (strB s) n (by rw[zwa];exact hlen) (by simpa[strB]using hn) g.w).mono ?_);rintro e w' ⟨rfl,t,rfl⟩;exact ⟨⟨_,g.u,g.loc⟩,_,rfl,rfl,YSa g _ _,fun k hk=>hw k (jBi (YSa g _ _).ext.size hk),rfl,.tup rfl fun i c hi=>by
    match i,hi with
    | 0,rfl=>exact .pv (.b rfl)
    | 1,rfl=>exact .ifc rfl⟩
theorem Qra(a0:Str)(a1:Int)(r:Int × Bool)(hr:jba a0 a1=some r):Run prog 214 [.s a0,.i a1] (.tup [.i r.1,.bo r.2]):=by
 unfold jba at hr;refine rfx (fn:=f214) func214 fun g0 hg=>?_
 refine clx 9 hr (Qqa _) fun v1 _ hr=>?_
 refine jq 8 hr [6] [] (fun j3=>[(29,.bo j3)]) (fun _=>[]) (fun j3 hr=>?_) (fun j3 hr=>?_)
 .refine rn tk 2 rfl<|wq (ev_ifneq rfl rfl zcb) rfl rfl rfl ?_;refine bx 1 15 hr (fun c4 hr=>?_) fun c4 hr=>?_
  .exact jx 15 hr
  refine rn tk 1 rfl ?_;obtain ⟨v5,h6,hr⟩:=zaa hr;refine ug rfl rfl rfl<|cl (k9a _ _ h6) rfl rfl ?_;refine bx 4 21 hr (fun c7 hr=>?_) fun c7 hr=>?_
  .exact jx 9 hr
  refine bx 4 25 hr (fun c8 hr=>?_) fun c8 hr=>?_
  .exact jx 5 hr
  exact jx 5 hr
 refine ax 0 29 hr (fun hr=>?_) fun hr=>?_
 .exact kx 8 hr
 exact kx 10 hr
theorem kya(a0:zea)(a1:UInt8)(r:Bool × zea)(hr:kpa a0 a1=some r):RunS prog 187 [.ptr 90008000 0,.u8 a1] (zea.sto a0) (.bo r.1) (zea.sto r.2) 90008000 []:=by
 unfold kpa at hr;refine rfS (fn:=Tryz.f187) (H:=90008999) (.ptr 90008000 0) ⟨func187,rfl,by kernel_rfl⟩ rfl (hasT rfl) (.inl ⟨rfl,rfl⟩) rfl rfl rfl rfl fun g0 hg S sg T=>?_
 refine csx 8 hr (zLa a0) fun v1 _ hr=>?_
 refine jq 3 hr [0] [90008000,90008999] (fun j3=>[(20,.bo j3)]) (fun _=>[]) (fun j3 hr=>?_) (fun j3 hr=>?_)
 .refine bx 7 12 hr (fun c4 hr=>?_) fun c4 hr=>?_
  .exact jx 9 hr
  refine rn tk 4 rfl ?_;obtain ⟨v5,h6,hr⟩:=zaa hr;refine ug rfl rfl rfl<|ws tk h6 rfl rfl rfl rfl ?_;exact jx 4 hr
 refine ax 0 20 hr (fun hr=>?_) fun hr=>?_
 .exact sxx 7 hr
 refine rn tk 9 rfl ?_;obtain ⟨v8,h9,hr⟩:=zaa hr;refine wscL tk h9 rfl rfl rfl rfl ?_;exact sxx 11 hr
theorem wza(a0:UInt8)(r:Bool)(hr:q9a a0=some r):Run prog 186 [.u8 a0] (.bo r):=by
 unfold q9a at hr;refine rfx (fn:=f186) func186 fun g0 hg=>?_
 refine jq 5 hr [] [] (fun j1=>[(2,.bo j1)]) (fun _=>[]) (fun j1 hr=>?_) (fun j1 hr=>?_)
 .refine bx 4 5 hr (fun c2 hr=>?_) fun c2 hr=>?_
  .refine bx 4 9 hr (fun c3 hr=>?_) fun c3 hr=>?_
   .refine rn tk 1 rfl ?_;obtain ⟨v4,h5,hr⟩:=zaa hr;refine ug rfl rfl rfl<|cl (zJa _ _ _ h5) rfl rfl ?_;exact jx 4 hr
   exact jx 6 hr
  exact jx 10 hr
 exact kx 1 hr
theorem yPa(a0:zea)(r:Str × Bool × zea)(hr:vaa a0=some r):RunS prog 212 [.ptr 90008000 0] (zea.sto a0) (.tup [.s r.1,.bo r.2.1]) (zea.sto r.2.2) 90008000 []:=by
 unfold vaa at hr;refine rfS (fn:=Tryz.f212) (H:=90008999) (.ptr 90008000 0) ⟨func212,rfl,by kernel_rfl⟩ rfl (hasT rfl) (.inl ⟨rfl,rfl⟩) rfl rfl rfl rfl fun g0 hg S sg T=>?_
 refine csx 10 hr (kya _ _) fun v1 _ hr=>?_
 refine ax 3 9 hr (fun hr=>?_) fun hr=>?_
 .refine iq 3 100000 [] (fn:=Tryz.f185) ⟨func185,rfl,by kernel_rfl⟩ fun T1 ds1=>?_
  refine csx 8 hr (zLa v1.2) fun v4 _ hr=>?_
  refine aq1 9 hr [0,1] [90008000,199999,90008999] (fun s6=>[(5,.i s6)]) (fun _=>[]) (.exit 0) [0] [90008000,199999,90008999] (fun b7=>[(5,.i b7)]) (fun _=>[]) (fun s6 x8 hr=>?_) (fun b7 hr=>?_)
  .unfold vOa at hr;refine jq 1 hr [0,1,5] [90008000,199999,90008999] (fun j9=>[(25,.bo j9)]) (fun _=>[]) (fun j9 hr=>?_) (fun j9 hr=>?_)
   .refine bx 9 16 hr (fun c10 hr=>?_) fun c10 hr=>?_
    .refine rn tk 6 rfl ?_;obtain ⟨v11,h12,hr⟩:=zaa hr;refine ug rfl rfl rfl<|ws tk h12 rfl rfl rfl rfl<|ug rfl rfl rfl ?_;refine iq 0 500000 [0,1,5,16,17,18,19,20,21,22,23] (fn:=f229) ⟨func229,rfl,by kernel_rfl⟩ fun T5 ds5=>?_
     refine jq 5 hr [] [599999,500000,500001,500005,500016,500017,500018,500019,500020,500021,500022,500023,90008000,199999,90008999] (fun j13=>[(2,.bo j13)]) (fun _=>[]) (fun j13 hr=>?_) (fun j13 hr=>?_)
     .refine clx 2 hr (wza _) fun v14 _ hr=>?_
      refine bx 1 5 hr (fun c16 hr=>?_) fun c16 hr=>?_
      .exact jx 13 hr
      refine bx 4 9 hr (fun c17 hr=>?_) fun c17 hr=>?_
      .exact jx 9 hr
      refine bx 4 13 hr (fun c18 hr=>?_) fun c18 hr=>?_
      .exact jx 5 hr
      exact jx 5 hr
     refine ieq 1 (hO ?_);exact jx 2 hr
    exact jx 10 hr
   refine ax 0 25 hr (fun hr=>?_) fun hr=>?_
   .exact cx 9 hr
   exact ox 2 hr
  refine rn tk 9 rfl ?_;obtain ⟨v20,h21,hr⟩:=zaa hr;refine wscH tk h21 rfl rfl rfl rfl<|rn tk 11 rfl ?_;obtain ⟨v22,h23,hr⟩:=zaa hr;refine wscL tk h23 rfl rfl rfl rfl ?_;refine ieq 12 (hO ?_);exact sxx 6 hr
 refine rn tk 5 rfl ?_;refine kaa 1004 (d:=4) 5 1 rfl rfl rfl (hO ?_);refine aq2 9 hr [0,4] [90008000,90008999] (fun s24=>[(5,.i s24.1)]) (fun s24=>[(1004,.row 5 false 1 (List.map cU s24.2))]) (.exit 0) [] [90008000,90008999] (fun _=>[]) (fun _=>[]) .ret [] [90008999] (fun b26=>[(2,.s b26.1),(3,.bo b26.2.1)]) (fun b26=>zea.sto b26.2.2) (fun s24 x28 hr=>?_) (fun b25 hr=>?_) (fun b26 hr=>?_)
 .unfold vPa at hr;refine ax 12 18 hr (fun hr=>?_) fun hr=>?_
  .refine jkq 2 [0,4] [90008000,90008999] (fun j30=>[(5,.i j30.1)]) (fun j30=>[(1004,.row 5 false 1 (List.map cU j30.2))]) (fun j30=>kxa j30=some x28) ?_ ?_
   .refine rn tk 8 rfl ?_;obtain ⟨v31,h32,hr⟩:=zaa hr;refine ws tk h32 rfl rfl rfl rfl ?_;refine ax 15 32 hr (fun hr=>?_) fun hr=>?_
    .refine rn tk 9 rfl ?_;obtain ⟨v34,h35,hr⟩:=zaa hr;refine wscL tk h35 rfl rfl rfl rfl<|rn tk 8 rfl ?_;refine jxa (d:=44) (F:=cU) (l:=s24.2) rfl rfl (hO ?_);refine wb tk rfl rfl rfl ?_;exact ox 8 hr
    refine ax 6 46 hr (fun hr=>?_) fun hr=>?_
    .refine ax 19 56 hr (fun hr=>?_) fun hr=>?_
     .exact ox 11 hr
     refine rn tk 9 rfl ?_;obtain ⟨v38,h39,hr⟩:=zaa hr;refine ws tk h39 rfl rfl rfl rfl<|wz cU ([v38]:List UInt8) tk rfl rfl (fun _=>rfl) rfl rfl rfl ?_;obtain ⟨v40,h41,hr⟩:=zaa hr;refine wa tk h41 rfl rfl rfl rfl (fun _=>rfl) rfl rfl<|rn tk 4 rfl<|jn (((w64 (s24.1+1)),v40)) hr rfl rfl
    refine rn tk 3 rfl<|wz cU ([v31]:List UInt8) tk rfl rfl (fun _=>rfl) rfl rfl rfl ?_;obtain ⟨v42,h43,hr⟩:=zaa hr;refine wa tk h43 rfl rfl rfl rfl (fun _=>rfl) rfl rfl<|rn tk 4 rfl<|jn ((s24.1,v42)) hr rfl rfl
   intro j30 hr;unfold kxa at hr;exact cx 5 hr
  exact ox 2 hr
 .exact sxx 9 hr
 exact sxx 2 hr
theorem joa(a0:zea)(r:zia × Bool × zea)(hr:vra a0=some r):RunS prog 188 [.ptr 90008000 0] (zea.sto a0) (.tup [.agg [.s r.1.name,.i r.1.number,.bo r.1.star,.s r.1.value],.bo r.2.1]) (zea.sto r.2.2) 90008000 []:=by
 unfold vra at hr;refine rfS (fn:=f188) (H:=90008999) (.ptr 90008000 0) ⟨func188,rfl,by kernel_rfl⟩ rfl (hasT rfl) (.inl ⟨rfl,rfl⟩) rfl rfl rfl rfl fun g0 hg S sg T=>?_
 refine iq 9 100000 [0,2] (fn:=Tryz.f185) ⟨func185,rfl,by kernel_rfl⟩ fun T1 ds1=>?_
 refine csx 8 hr (zLa a0) fun v1 _ hr=>?_
 refine aq1 9 hr [0,1] [90008000,199999,100000,100002,2,90008999] (fun s3=>[(5,.i s3)]) (fun _=>[]) (.exit 0) [0] [90008000,199999,100000,100002,2,90008999] (fun b4=>[(5,.i b4)]) (fun _=>[]) (fun s3 x5 hr=>?_) (fun b4 hr=>?_)
 .unfold v4a at hr;refine jq 1 hr [0,1,5] [90008000,199999,100000,100002,2,90008999] (fun j6=>[(25,.bo j6)]) (fun _=>[]) (fun j6 hr=>?_) (fun j6 hr=>?_)
  .refine bx 9 16 hr (fun c7 hr=>?_) fun c7 hr=>?_
   .refine rn tk 6 rfl ?_;obtain ⟨v8,h9,hr⟩:=zaa hr;refine ug rfl rfl rfl<|ws tk h9 rfl rfl rfl rfl<|ug rfl rfl rfl ?_;refine iq 0 500000 [0,1,5,16,17,18,19,20,21,22,23] (fn:=Tryz.f211) ⟨func211,rfl,by kernel_rfl⟩ fun T5 ds5=>?_
    refine jq 5 hr [] [599999,500000,500001,500005,500016,500017,500018,500019,500020,500021,500022,500023,90008000,199999,100000,100002,2,90008999] (fun j10=>[(2,.bo j10)]) (fun _=>[]) (fun j10 hr=>?_) (fun j10 hr=>?_)
    .refine clx 2 hr (wza _) fun v11 _ hr=>?_
     refine bx 1 5 hr (fun c13 hr=>?_) fun c13 hr=>?_
     .exact jx 5 hr
     exact jx 5 hr
    refine ieq 1 (hO ?_);exact jx 2 hr
   exact jx 10 hr
  refine ax 0 25 hr (fun hr=>?_) fun hr=>?_
  .exact cx 9 hr
  exact ox 2 hr
 refine rn tk 9 rfl ?_;obtain ⟨v15,h16,hr⟩:=zaa hr;refine wscH tk h16 rfl rfl rfl rfl<|rn tk 11 rfl ?_;obtain ⟨v17,h18,hr⟩:=zaa hr;refine wscL tk h18 rfl rfl rfl rfl ?_;refine ieq 12 (hO ?_);refine csx 7 hr (kya _ _) fun v19 _ hr=>?_
 refine ax 3 17 hr (fun hr=>?_) fun hr=>?_
 .exact sxx 9 hr
 refine csx 5 hr (yPa v19.2) fun v22 _ hr=>?_
 refine clx 18 hr (wya _ _) fun v24 _ hr=>?_
 refine jq 16 hr [2,7,8] [90008000,2,90008999] (fun j26=>[(6,.bo j26.1)]) (fun j26=>[(7,.cells [.s v24.1,.i j26.2.1,.bo j26.2.2,.s v22.1])]) (fun j26 hr=>?_) (fun j26 hr=>?_)
 .refine ax 5 34 hr (fun hr=>?_) fun hr=>?_
  .refine clx 3 hr (jna _ _) fun v28 _ hr=>?_
   refine clx 11 hr (Qra _ _) fun v30 _ hr=>?_
   refine bx 17 49 hr (fun c32 hr=>?_) fun c32 hr=>?_
   .exact jx 4 hr
   exact jx 4 hr
  exact jx 1 hr
 refine jq 0 hr [2] [90008000,90008999] (fun j33=>[(3,.bo j33)]) (fun _=>[(2,.cells [.s v24.1,.i j26.2.1,.bo j26.2.2,.s v22.1])]) (fun j33 hr=>?_) (fun j33 hr=>?_)
 .refine bx 4 54 hr (fun c34 hr=>?_) fun c34 hr=>?_
  .exact jx 6 hr
  exact jx 6 hr
 exact sxx 1 hr
theorem Vea(a0:Str)(r:kca × Bool)(hr:Zva a0=some r):RunS prog 149 [.s a0] [] (.tup [.agg [.s r.1.Type_,.s r.1.Sub,.hs 90011003 0],.bo r.2]) [(90011003,.row 131 false 2 (List.map zla.pc r.1.Params))] 90011000 [90011003]:=by
 unfold Zva at hr;refine rfS (fn:=f149) (H:=90011999) .any ⟨func149,rfl,by kernel_rfl⟩ rfl (hasT rfl) (.inr ⟨rfl,rfl⟩) rfl rfl rfl rfl fun g0 hg S sg T=>?_
 refine rn tk 3 rfl ?_;refine zxa 1002 (o:=2) (j:=2) 131 2 rfl rfl rfl rfl (hO ?_);refine rn tk 7 rfl<|wo (q0a (k:=13) 90008000 rfl rfl rfl rfl rfl) rfl<|rn tk 6 rfl ?_;refine zxa 1005 (o:=5) (j:=2) 131 2 rfl rfl rfl rfl (hO ?_);refine Wza 1005 90011003 rfl rfl rfl rfl rfl rfl (hO ?_);refine iq 5 100000 [2,4,5] (fn:=Tryz.f185) ⟨func185,rfl,by kernel_rfl⟩ fun T1 ds1=>?_
 refine csx 8 hr (zLa _) fun v1 _ hr=>?_
 refine aq1 9 hr [0,1] [90008000,199999,100002,100004,100005,90011003,5,1002,2,90011999] (fun s3=>[(5,.i s3)]) (fun _=>[]) (.exit 0) [0] [90008000,199999,100002,100004,100005,90011003,5,1002,2,90011999] (fun b4=>[(5,.i b4)]) (fun _=>[]) (fun s3 x5 hr=>?_) (fun b4 hr=>?_)
 .unfold j6a at hr;refine jq 1 hr [0,1,5] [90008000,199999,100002,100004,100005,90011003,5,1002,2,90011999] (fun j6=>[(25,.bo j6)]) (fun _=>[]) (fun j6 hr=>?_) (fun j6 hr=>?_)
  .refine bx 9 16 hr (fun c7 hr=>?_) fun c7 hr=>?_
   .refine rn tk 6 rfl ?_;obtain ⟨v8,h9,hr⟩:=zaa hr;refine ug rfl rfl rfl<|ws tk h9 rfl rfl rfl rfl<|ug rfl rfl rfl ?_;refine iq 0 500000 [0,1,5,16,17,18,19,20,21,22,23] (fn:=f186) ⟨func186,rfl,by kernel_rfl⟩ fun T5 ds5=>?_
    refine jq 5 hr [] [599999,500000,500001,500005,500016,500017,500018,500019,500020,500021,500022,500023,90008000,199999,100002,100004,100005,90011003,5,1002,2,90011999] (fun j10=>[(2,.bo j10)]) (fun _=>[]) (fun j10 hr=>?_) (fun j10 hr=>?_)
    .refine bx 4 5 hr (fun c11 hr=>?_) fun c11 hr=>?_
     .refine bx 4 9 hr (fun c12 hr=>?_) fun c12 hr=>?_
      .refine rn tk 1 rfl ?_;obtain ⟨v13,h14,hr⟩:=zaa hr;refine ug rfl rfl rfl<|cl (zJa _ _ _ h14) rfl rfl ?_;exact jx 4 hr
      exact jx 6 hr
     exact jx 10 hr
    refine ieq 1 (hO ?_);exact jx 2 hr
   exact jx 10 hr
  refine ax 0 25 hr (fun hr=>?_) fun hr=>?_
  .exact cx 9 hr
  exact ox 2 hr
 refine rn tk 9 rfl ?_;obtain ⟨v16,h17,hr⟩:=zaa hr;refine wscH tk h17 rfl rfl rfl rfl<|rn tk 11 rfl ?_;obtain ⟨v18,h19,hr⟩:=zaa hr;refine wscL tk h19 rfl rfl rfl rfl ?_;refine ieq 12 (hO ?_);refine csx 7 hr (kya _ _) fun v20 _ hr=>?_
 refine iq 6 600000 [2,4,5,6] (fn:=Tryz.f185) ⟨func185,rfl,by kernel_rfl⟩ fun T6 ds6=>?_
 refine csx 8 hr (zLa v20.2) fun v22 _ hr=>?_
 refine aq1 9 hr [0,1] [90008000,699999,600002,600004,600005,600006,90011003,5,1002,2,90011999] (fun s24=>[(5,.i s24)]) (fun _=>[]) (.exit 0) [0] [90008000,699999,600002,600004,600005,600006,90011003,5,1002,2,90011999] (fun b25=>[(5,.i b25)]) (fun _=>[]) (fun s24 x26 hr=>?_) (fun b25 hr=>?_)
 .unfold j7a at hr;refine jq 1 hr [0,1,5] [90008000,699999,600002,600004,600005,600006,90011003,5,1002,2,90011999] (fun j27=>[(25,.bo j27)]) (fun _=>[]) (fun j27 hr=>?_) (fun j27 hr=>?_)
  .refine bx 9 16 hr (fun c28 hr=>?_) fun c28 hr=>?_
   .refine rn tk 6 rfl ?_;obtain ⟨v29,h30,hr⟩:=zaa hr;refine ug rfl rfl rfl<|ws tk h30 rfl rfl rfl rfl<|ug rfl rfl rfl ?_;refine iq 0 1000000 [0,1,5,16,17,18,19,20,21,22,23] (fn:=f186) ⟨func186,rfl,by kernel_rfl⟩ fun T10 ds10=>?_
    refine jq 5 hr [] [1099999,1000000,1000001,1000005,1000016,1000017,1000018,1000019,1000020,1000021,1000022,1000023,90008000,699999,600002,600004,600005,600006,90011003,5,1002,2,90011999] (fun j31=>[(2,.bo j31)]) (fun _=>[]) (fun j31 hr=>?_) (fun j31 hr=>?_)
    .refine bx 4 5 hr (fun c32 hr=>?_) fun c32 hr=>?_
     .refine bx 4 9 hr (fun c33 hr=>?_) fun c33 hr=>?_
      .refine rn tk 1 rfl ?_;obtain ⟨v34,h35,hr⟩:=zaa hr;refine ug rfl rfl rfl<|cl (zJa _ _ _ h35) rfl rfl ?_;exact jx 4 hr
      exact jx 6 hr
     exact jx 10 hr
    refine ieq 1 (hO ?_);exact jx 2 hr
   exact jx 10 hr
  refine ax 0 25 hr (fun hr=>?_) fun hr=>?_
  .exact cx 9 hr
  exact ox 2 hr
 refine rn tk 9 rfl ?_;obtain ⟨v37,h38,hr⟩:=zaa hr;refine wscH tk h38 rfl rfl rfl rfl<|rn tk 11 rfl ?_;obtain ⟨v39,h40,hr⟩:=zaa hr;refine wscL tk h40 rfl rfl rfl rfl ?_;refine ieq 12 (hO ?_);refine jq 5 hr [2,4,5] [90008000,90011003,5,1002,2,90011999] (fun j41=>[(33,.bo j41)]) (fun _=>[]) (fun j41 hr=>?_) (fun j41 hr=>?_)
 .refine bx 5 25 hr (fun c42 hr=>?_) fun c42 hr=>?_
  .exact jx 9 hr
  refine bx 4 29 hr (fun c43 hr=>?_) fun c43 hr=>?_
  .exact jx 5 hr
  exact jx 5 hr
 refine ax 0 33 hr (fun hr=>?_) fun hr=>?_
 .exact sxx 9 hr
 refine rn tk 5 rfl ?_;refine kaa 1007 (d:=7) 231 4 rfl rfl rfl (hO ?_);refine aq2 4 hr [2,4,5,7] [90011003,5,1002,2,90011999] (fun _=>[]) (fun s45=>(zea.sto s45.1)++ [(1007,.row 231 false 4 (List.map zia.pc s45.2))]) (.exit 0) [2,4,5,7] [90011003,5,1002,2,90011999] (fun _=>[]) (fun b46=>(zea.sto b46.1)++ [(1007,.row 231 false 4 (List.map zia.pc b46.2))]) .ret [2] [90011003,90011999] (fun _=>[(3,.bo false)]) (fun _=>[(2,.cells [.s v16,.s v37,.hs 90011003 0])]) (fun s45 x49 hr=>?_) (fun b46 hr=>?_) (fun b47 hr=>?_)
 .unfold j8a at hr;refine csx 4 hr (kya _ _) fun v50 _ hr=>?_
  refine ax 2 36 hr (fun hr=>?_) fun hr=>?_
  .refine csx 6 hr (joa v50.2) fun v53 _ hr=>?_
   refine ax 15 43 hr (fun hr=>?_) fun hr=>?_
   .exact ox 10 hr
   refine rn tk 5 rfl<|wz zia.pc ([v53.1]:List zia) tk rfl rfl (fun _=>rfl) rfl rfl rfl ?_;obtain ⟨v56,h57,hr⟩:=zaa hr;refine wa tk h57 rfl rfl rfl rfl (fun _=>rfl) rfl rfl ?_;exact cx 3 hr
  exact ox 2 hr
 .refine csx 5 hr (zLa b46.1) fun v58 _ hr=>?_
  refine iq 10 1100000 [2,4,5] (fn:=f190) ⟨func190,rfl,by kernel_rfl⟩ fun T11 ds11=>?_
  refine rn tk 9 rfl ?_;refine kaa 1004 (d:=4) 131 2 rfl rfl rfl (hO ?_);refine rn tk 6 rfl<|wnh tk rfl rfl rfl rfl<|rn tk 4 rfl ?_;refine kTa (d:=13) (F:=zia.pc) (l:=b46.2) rfl rfl (hC ?_);refine aq2 0 hr [0,4,13,14] [1199999,1100002,1100004,1100005,90008000,1007,90011003,5,1002,2,90011999] (fun s61=>[(15,.i s61.1)]) (fun s61=>[(1004,.row 131 false 2 (List.map zla.pc s61.2))]) (.exit 0) [4] [1199999,1100002,1100004,1100005,90008000,90011003,5,1002,2,90011999] (fun _=>[]) (fun b62=>[(1004,.row 131 false 2 (List.map zla.pc b62))]) .ret [3] [1199999,1100002,1100004,1100005,90008000,90011003,5,1002,2,90011999] (fun _=>[(2,.pv (.sl (some true) []))]) (fun _=>[]) (fun s61 x65 hr=>?_) (fun b62 hr=>?_) (fun b63 hr=>?_)
  .unfold Zba at hr;refine ax 6 16 hr (fun hr=>?_) fun hr=>?_
   .refine jkq 2 [0,4,13,14,15] [1199999,1100002,1100004,1100005,90008000,1007,90011003,5,1002,2,90011999] (fun _=>[]) (fun j67=>[(1004,.row 131 false 2 (List.map zla.pc j67))]) (fun j67=>vza s61 j67=some x65) ?_ ?_
    .refine rn tk 4 rfl ?_;obtain ⟨v68,h69,hr⟩:=zaa hr;refine wi tk h69 rfl rfl rfl rfl rfl<|rn tk 17 rfl ?_;refine jxa (d:=21) (F:=zia.pc) (l:=b46.2) rfl rfl (hO ?_);obtain ⟨v70,h71,hr⟩:=zaa hr;refine wlH tk h71 rfl rfl rfl (fun _=>rfl) rfl ?_;refine iq 1 9600000 [0,4,6,7,13,14,15] (fn:=Tryz.f217) ⟨func217,rfl,by kernel_rfl⟩ fun T96 ds96=>?_
     refine ctq 9 hr [] [9699999,9600000,9600004,9600013,9600014,9600015,9600006,9600007,6,1004,1199999,1100002,1100004,1100005,90008000,1007,90011003,5,1002,2,90011999] (fun j72=>[(7,.i j72)]) (fun _=>[]) (fun j72 hr jump97=>?_) (fun j72 hr=>?_)
     .refine iq 0 9700000 [] (fn:=Tryz.f232) ⟨func232,rfl,by kernel_rfl⟩ fun T97 ds97=>?_
      refine rn tk 9 rfl<|wn tk rfl rfl rfl ?_;refine aq2 4 hr [0,1,7] [9799999,9699999,9600000,9600004,9600013,9600014,9600015,9600006,9600007,6,1004,1199999,1100002,1100004,1100005,90008000,1007,90011003,5,1002,2,90011999] (fun s73=>[(8,.i s73)]) (fun _=>[]) (.exit 0) [] [9799999,9699999,9600000,9600004,9600013,9600014,9600015,9600006,9600007,6,1004,1199999,1100002,1100004,1100005,90008000,1007,90011003,5,1002,2,90011999] (fun _=>[]) (fun _=>[]) .ret [] [9799999,9699999,9600000,9600004,9600013,9600014,9600015,9600006,9600007,6,1004,1199999,1100002,1100004,1100005,90008000,1007,90011003,5,1002,2,90011999] (fun b75=>[(4,.i b75)]) (fun _=>[]) (fun s73 x77 hr=>?_) (fun b74 hr=>?_) (fun b75 hr=>?_)
      .unfold j9a at hr;refine ax 6 9 hr (fun hr=>?_) fun hr=>?_
       .refine rn tk 15 rfl ?_;obtain ⟨v79,h80,hr⟩:=zaa hr;refine wi tk h80 rfl rfl rfl rfl rfl ?_;refine iq 1 9900000 [0,1,5,7,8] (fn:=f216) ⟨func216,rfl,by kernel_rfl⟩ fun T99 ds99=>?_
        refine rn tk 2 rfl<|wo (q0a (k:=2) 2002 rfl rfl rfl rfl rfl) rfl ?_;refine clx 9 hr (zSa _ _) fun v81 _ hr=>?_
        refine ieq 4 (hO ?_);refine ax 2 16 hr (fun hr=>?_) fun hr=>?_
        .exact ox 9 hr
        exact cx 7 hr
       exact ox 2 hr
      .refine ieq 8 ?_;cases hr;exact jump97 _ _ rfl rfl
      refine ieq 2 ?_;cases hr;exact jump97 _ _ rfl rfl
     refine ieq 5 (hO ?_);refine ax 2 25 hr (fun hr=>?_) fun hr=>?_
     .refine rn tk 3 rfl<|jn s61.2 hr rfl rfl
     refine rn tk 5 rfl ?_;refine kaa 1008 (d:=8) 231 4 rfl rfl rfl (hO ?_);refine rn tk 6 rfl<|wnh tk rfl rfl rfl rfl<|rn tk 4 rfl ?_;refine kTa (d:=26) (F:=zia.pc) (l:=b46.2) rfl rfl (hC ?_);refine aq1 0 hr [0,4,6,7,8,13,14,15,26,27] [6,1004,1199999,1100002,1100004,1100005,90008000,1007,90011003,5,1002,2,90011999] (fun s86=>[(28,.i s86.1)]) (fun s86=>[(1008,.row 231 false 4 (List.map zia.pc s86.2))]) (.exit 2) [0,4,6,8,13,14,15] [6,1004,1199999,1100002,1100004,1100005,90008000,1007,90011003,5,1002,2,90011999] (fun _=>[]) (fun b87=>[(1008,.row 231 false 4 (List.map zia.pc b87))]) (fun s86 x88 hr=>?_) (fun b87 hr=>?_)
     .unfold Zaa at hr;refine ax 6 29 hr (fun hr=>?_) fun hr=>?_
      .refine jq 2 hr [0,4,6,7,8,13,14,15,26,27,28] [6,1004,1199999,1100002,1100004,1100005,90008000,1007,90011003,5,1002,2,90011999] (fun _=>[]) (fun j90=>[(1008,.row 231 false 4 (List.map zia.pc j90))]) (fun j90 hr=>?_) (fun j90 hr=>?_)
       .refine rn tk 3 rfl ?_;obtain ⟨v91,h92,hr⟩:=zaa hr;refine wi tk h92 rfl rfl rfl rfl rfl ?_;refine iq 9 10700000 [0,4,6,7,8,10,13,14,15,26,27,28] (fn:=f216) ⟨func216,rfl,by kernel_rfl⟩ fun T107 ds107=>?_
        refine rn tk 2 rfl<|wo (q0a (k:=2) 2002 rfl rfl rfl rfl rfl) rfl ?_;refine clx 9 hr (zSa _ _) fun v93 _ hr=>?_
        refine ieq 4 (hO ?_);refine ax 2 34 hr (fun hr=>?_) fun hr=>?_
        .refine rn tk 3 rfl<|wz zia.pc ([v91]:List zia) tk rfl rfl (fun _=>rfl) rfl rfl rfl ?_;obtain ⟨v96,h97,hr⟩:=zaa hr;refine wa tk h97 rfl rfl rfl rfl (fun _=>rfl) rfl rfl ?_;exact jx 3 hr
        exact jx 2 hr
       exact cx 4 hr
      exact ox 2 hr
     refine rn tk 5 rfl ?_;refine jxa (d:=41) (F:=zia.pc) (l:=b87) rfl rfl (hO ?_);refine clx 0 hr (Qpa _) fun v98 _ hr=>?_
     refine ax 15 46 hr (fun hr=>?_) fun hr=>?_
     .exact ox 10 hr
     refine rn tk 13 rfl<|wz zla.pc ([(zla.mk v68.name v98.1.Value)]:List zla) tk rfl rfl (fun _=>rfl) rfl rfl rfl ?_;obtain ⟨v101,h102,hr⟩:=zaa hr;refine wa tk h102 rfl rfl rfl rfl (fun _=>rfl) rfl rfl<|rn tk 3 rfl<|jn v101 hr rfl rfl
    intro j67 hr;unfold vza at hr;exact cx 4 hr
   exact ox 2 hr
  .refine ieq 10 (hO ?_);refine rn tk 6 rfl ?_;refine V2a 90011003 ?_;refine Wza 1004 90011003 rfl rfl rfl rfl rfl rfl (hO ?_);refine rn tk 3 rfl<|drX 9 10 8 948 [3,4,5,6,7,8] [(65,.bo ((v58.s==([]:Str)))),(64,.bo ((v58.s==([]:Str)))),(63,.s v58.s),(62,.ptr 90008000 0),(61,.ptr 90008000 0),(60,.ptr 90008000 0),(59,.bo true),(58,.bo true),(57,.agg [.s v16,.s v37,.hs 90011003 0])] [(2,.ptr 2 0),(65,.bo ((v58.s==([]:Str))))] [(90011003,.row 131 false 2 (List.map zla.pc b62)),(90008000,.cells [.s v58.s]),(5,.cells [.s v16,.s v37,.hs 90011003 0]),(1002,.row 131 false 2 (List.map zla.pc (([]:List zla)))),(2,.cells [.s v16,.s v37,.hs 90011003 0]),(90011999,.hold (.any) (T.getD 0 undef))] tk mixed (by kernel_rfl) rfl rfl rfl (pqX tk rfl (.plain rfl) (pqX tk rfl (.plain rfl) (pqX tk rfl (.plain rfl) (pqX tk rfl (.yes (d:=59) rfl rfl rfl rfl) (pqX tk rfl (.yes (d:=59) rfl rfl rfl rfl) (pqX tk rfl (.yes (d:=59) rfl rfl rfl rfl) (pqX tk rfl (.yes (d:=59) rfl rfl rfl rfl) (pqX tk rfl (.yes (d:=59) rfl rfl rfl rfl) (pqX tk rfl (.plain rfl) .nil))))))))) rfl rfl rfl rfl (by kernel_rfl) ?_;exact sxx 4 hr
  refine ieq 2 (hO ?_);refine rn tk 5 rfl ?_;refine zxa 1005 (o:=5) (j:=2) 131 2 rfl rfl rfl rfl (hO ?_);refine rn tk 1 rfl ?_;refine V2a 90011003 ?_;refine Wza 1005 90011003 rfl rfl rfl rfl rfl rfl (hO ?_);refine rn tk 3 rfl<|drX 9 10 8 948 [3,4,5,6,7,8] [(65,.bo false),(64,.tup []),(63,.tup []),(62,.tup []),(61,.tup []),(60,.tup []),(59,.bo false),(58,.bo false),(57,.agg [.s v16,.s v37,.hs 90011003 0])] [(2,.ptr 2 0),(65,.bo false)] [(90011003,.row 131 false 2 (List.map zla.pc (([]:List zla)))),(90008000,.cells [.s v58.s]),(5,.cells [.s v16,.s v37,.hs 90011003 0]),(1002,.row 131 false 2 (List.map zla.pc (([]:List zla)))),(2,.cells [.s v16,.s v37,.hs 90011003 0]),(90011999,.hold (.any) (T.getD 0 undef))] tk mixed (by kernel_rfl) rfl rfl rfl (pqX tk rfl (.plain rfl) (pqX tk rfl (.plain rfl) (pqX tk rfl (.plain rfl) (.skip (.no (d:=59) rfl rfl rfl rfl) (.skip (.no (d:=59) rfl rfl rfl rfl) (.skip (.no (d:=59) rfl rfl rfl rfl) (.skip (.no (d:=59) rfl rfl rfl rfl) (.skip (.no (d:=59) rfl rfl rfl rfl) (pqX tk rfl (.plain rfl) .nil))))))))) rfl rfl rfl rfl (by kernel_rfl) ?_;exact sxx 4 hr
 exact sxx 2 hr
theorem Vfa(a0:Str)(r:kca × zma)(hr:Zwa a0=some r):RunS prog 115 [.s a0] [] (.tup [.agg [.s r.1.Type_,.s r.1.Sub,.hs 90011003 0],.agg [.i r.2.Code,.i r.2.Index]]) [(90011003,.row 131 false 2 (List.map zla.pc r.1.Params))] 90011000 [90011003]:=by
 unfold Zwa at hr;refine rfS (fn:=Tryz.f115) (H:=90011999) .any ⟨func115,rfl,by kernel_rfl⟩ rfl (hasT rfl) (.inr ⟨rfl,rfl⟩) rfl rfl rfl rfl fun g0 hg S sg T=>?_
 refine rn tk 3 rfl ?_;refine zxa 1002 (o:=2) (j:=2) 131 2 rfl rfl rfl rfl (hO ?_);refine ax 11 9 hr (fun hr=>?_) fun hr=>?_
 .refine clx 3 hr (zga _ _) fun v2 _ hr=>?_
  refine rn tk 1 rfl ?_;refine zxa 2002 (o:=2) (j:=2) 131 2 rfl rfl rfl rfl (hO ?_);refine rn tk 3 rfl ?_;refine Q0a 2002 90011003 rfl rfl rfl rfl rfl rfl (hC ?_);exact sxx 2 hr
 refine csx 5 hr (Vea a0) fun v4 _ hr=>?_
 refine rn tk 4 rfl ?_;refine zxa 1004 (o:=4) (j:=2) 131 2 rfl rfl rfl rfl (hO ?_);refine ax 11 18 hr (fun hr=>?_) fun hr=>?_
 .refine clx 3 hr (zga _ _) fun v7 _ hr=>?_
  refine rn tk 1 rfl ?_;refine zxa 2002 (o:=2) (j:=2) 131 2 rfl rfl rfl rfl (hO ?_);refine rn tk 3 rfl ?_;refine YPa 90011003 ?_;refine Q0a 2002 90011003 rfl rfl rfl rfl rfl rfl (hC ?_);exact sxx 2 hr
 refine rn tk 6 rfl ?_;refine woa (d' :=21) (j:=2) (F:=zla.pc) (l:=v4.1.Params) rfl rfl rfl (hO ?_);refine clx 0 hr (vda _) fun v9 _ hr=>?_
 refine clx 7 hr (zha _) fun v11 _ hr=>?_
 refine ax 2 24 hr (fun hr=>?_) fun hr=>?_
 .refine clx 5 hr (zga _ _) fun v14 _ hr=>?_
  refine rn tk 1 rfl ?_;refine zxa 2002 (o:=2) (j:=2) 131 2 rfl rfl rfl rfl (hO ?_);refine rn tk 3 rfl ?_;refine YPa 90011003 ?_;refine Q0a 2002 90011003 rfl rfl rfl rfl rfl rfl (hC ?_);exact sxx 2 hr
 refine rn tk 3 rfl ?_;obtain ⟨v16,h17,hr⟩:=zaa hr;refine drF 1 0 [(29,.agg [.s v4.1.Type_,.s v4.1.Sub,.hs 90011003 0])] [(29,.any)] [(2,.ptr 2 0),(3,.ptr 3 0),(29,.agg [.s v4.1.Type_,.s v4.1.Sub,.hs 90011003 0]),(30,.agg [.i v16.Code,.i v16.Index])] [(6,.cells [.i v9.Code,.i v9.Index]),(1004,.row 131 false 2 (List.map zla.pc (([]:List zla)))),(4,.cells [.s v4.1.Type_,.s v4.1.Sub,.hs 90011003 0]),(90011003,.row 131 false 2 (List.map zla.pc v4.1.Params)),(3,.cells [.i 0,.i 0]),(1002,.row 131 false 2 (List.map zla.pc (([]:List zla)))),(2,.cells [.s (([]:Str)),.s (([]:Str)),.hs 1002 0]),(90011999,.hold (.any) (T.getD 0 undef))] mixed (by kernel_rfl) rfl rfl rfl rfl rfl (pqF tk rfl (.plain rfl) .nil) rfl rfl rfl rfl rfl (fun hJ=>?_) (fun hJ=>?_) ?_
 .refine cl (zka _ h17) rfl rfl ?_;exact hJ _ _ rfl rfl
 .refine cl (zka _ h17) rfl rfl<|rn tk 1 rfl ?_;exact hJ _ _ rfl rfl
 exact sxx 5 hr
theorem vAa(a0:List zca)(r:kca × Int × Bool)(hr:wka a0=some r):RunS prog 77 [.l zca.pc a0] [] (.tup [.agg [.s r.1.Type_,.s r.1.Sub,.hs 90011003 0],.i r.2.1,.bo r.2.2]) [(90011003,.row 131 false 2 (List.map zla.pc r.1.Params))] 90011000 [90011003]:=by
 unfold wka at hr;refine rfS (fn:=f77) (H:=90011999) .any ⟨func77,rfl,by kernel_rfl⟩ rfl (hasT rfl) (.inr ⟨rfl,rfl⟩) rfl rfl rfl rfl fun g0 hg S sg T=>?_
 refine rn tk 3 rfl ?_;refine zxa 1002 (o:=2) (j:=2) 131 2 rfl rfl rfl rfl (hO ?_);refine rn tk 13 rfl<|wn tk rfl rfl rfl ?_;refine aq2 4 hr [0,2,10,11] [1002,2,90011999] (fun s1=>[(5,.i s1.1),(12,.i s1.2)]) (fun _=>[]) (.exit 0) [0,2] [1002,2,90011999] (fun b2=>[(5,.i b2)]) (fun _=>[]) .ret [2,3,4] [90011999] (fun _=>[]) (fun _=>[(90011003,.row 131 false 2 (List.map zla.pc (([]:List zla)))),(2,.cells [.s (([]:Str)),.s (([]:Str)),.hs 90011003 0])]) (fun s1 x5 hr=>?_) (fun b2 hr=>?_) (fun b3 hr=>?_)
 .unfold Z7a at hr;refine ax 6 13 hr (fun hr=>?_) fun hr=>?_
  .refine jkq 2 [0,2,10,11,12] [1002,2,90011999] (fun j7=>[(5,.i j7)]) (fun _=>[]) (fun j7=>wfa s1 j7=some x5) ?_ ?_
   .refine rn tk 4 rfl ?_;obtain ⟨v8,h9,hr⟩:=zaa hr;refine wi tk h9 rfl rfl rfl rfl rfl ?_;refine clx 10 hr (zSa _ _) fun v10 _ hr=>?_
    refine ax 2 19 hr (fun hr=>?_) fun hr=>?_
    .refine ax 7 21 hr (fun hr=>?_) fun hr=>?_
     .refine rn tk 4 rfl ?_;refine zxa 2002 (o:=2) (j:=2) 131 2 rfl rfl rfl rfl (hO ?_);refine rn tk 4 rfl ?_;refine Q0a 2002 90011003 rfl rfl rfl rfl rfl rfl (hC ?_);exact ox 4 hr
     refine rn tk 7 rfl<|jn s1.2 hr rfl rfl
    refine rn tk 2 rfl<|jn s1.1 hr rfl rfl
   intro j7 hr;unfold wfa at hr;exact cx 4 hr
  exact ox 2 hr
 .refine ax 9 26 hr (fun hr=>?_) fun hr=>?_
  .refine rn tk 4 rfl ?_;refine zxa 2002 (o:=2) (j:=2) 131 2 rfl rfl rfl rfl (hO ?_);refine rn tk 4 rfl ?_;refine Q0a 2002 90011003 rfl rfl rfl rfl rfl rfl (hC ?_);exact sxx 2 hr
  refine rn tk 6 rfl ?_;obtain ⟨v15,h16,hr⟩:=zaa hr;refine wi tk h16 rfl rfl rfl rfl rfl ?_;refine csx 2 hr (Vfa v15.Value) fun v17 _ hr=>?_
  refine rn tk 4 rfl ?_;refine zxa 1008 (o:=8) (j:=2) 131 2 rfl rfl rfl rfl (hO ?_);refine rn tk 6 rfl ?_;obtain ⟨v19,h20,hr⟩:=zaa hr;refine drX 5 7 5 14 [1,4] [(41,.bo ((!v19))),(40,.bo v19),(39,.agg [.i v17.2.Code,.i v17.2.Index]),(38,.i b2),(37,.agg [.s v17.1.Type_,.s v17.1.Sub,.hs 90011003 0])] [(2,.ptr 2 0),(3,.i b2),(41,.bo ((!v19)))] [(9,.cells [.i v17.2.Code,.i v17.2.Index]),(1008,.row 131 false 2 (List.map zla.pc (([]:List zla)))),(8,.cells [.s v17.1.Type_,.s v17.1.Sub,.hs 90011003 0]),(90011003,.row 131 false 2 (List.map zla.pc v17.1.Params)),(1002,.row 131 false 2 (List.map zla.pc (([]:List zla)))),(2,.cells [.s v17.1.Type_,.s v17.1.Sub,.hs 90011003 0]),(90011999,.hold (.any) (T.getD 0 undef))] tk mixed (by kernel_rfl) rfl rfl rfl (pqX tk rfl (.plain rfl) (pqX tk rfl (.plain rfl) (pqX tk rfl (.plain rfl) (.run (.plain rfl) (zFa (zha v17.2 v19 h20) rfl) (pqX tk rfl (.plain rfl) .nil))))) rfl rfl rfl rfl (by kernel_rfl) ?_;exact sxx 4 hr
 exact sxx 2 hr
end Go.Proofs.YtpphhgbmooofgaaGreatDoor
