/- Part 4 of the proof of the law ServerTakesWhatIsSent: what it needs. -/
import Derived.Test.YtmmjihadplknjaaGreatDoorKServerTakesWhatIsSent3
import Derived.Shelf.Strings.Builder1
import Derived.Shelf.Strings.Builder2
import Derived.Shelf.Strings.OnBuilder
import Derived.Shelf.Strings.Trim
import Derived.Shelf.Small.Utf8
import Derived.Shelf.Small.Strs
import Derived.Shelf.Small.Wraps
import Derived.Shelf.Strings.BuilderF
import Derived.Shelf.Strconv.Atoi
import Derived.Shelf.Strconv.Itoa0
import Derived.Shelf.Strconv.Itoa1
import Derived.Shelf.LaysM
import Derived.Shelf.Strconv.Itoa2
import Derived.Shelf.Strconv.Itoa3
import Derived.Shelf.Strconv.AtoiErrFast
import Derived.Shelf.Strconv.ParseIntEmpty
import Derived.Shelf.Strconv.AtoiFail
import Derived.Shelf.Strconv.Clone
import Derived.Shelf.Strconv.SyntaxError
import Derived.Shelf.LaysC
import Derived.Shelf.Strconv.ToError
import Derived.Shelf.Strconv.AtoiErr
import Derived.Shelf.Strconv.ErrVar
import Derived.Shelf.Strings.Search1
import Derived.Shelf.Strings.Search2
import Derived.Shelf.Strings.Search3
import Derived.Shelf.Strings.Cut
import Derived.Shelf.Strings.Count
import Derived.Shelf.Strings.Shaped
import Derived.Shelf.Strings.Prefix
import Derived.Shelf.Strings.Split
import Derived.Shelf.Strings.Runes
import Derived.Shelf.Strings.IndexAny
import Derived.Shelf.Strings.AsciiSet
import Derived.Shelf.Strings.IndexAnyAll
import Derived.Shelf.Unicode.DecodeSlow
import Derived.Shelf.Strings.FieldsFuncAny
import Derived.Shelf.Bytes.SlIndexSmall
import Derived.Shelf.Bytes.SlIndexAt
import Derived.Shelf.Bytes.SlSearch0
import Derived.Shelf.Bytes.SlSearch1
import Derived.Shelf.Bytes.SlSearch2
import Derived.Shelf.Bytes.SlIndexWhole
import Derived.Shelf.Bytes.SlSmallAll
import Derived.Shelf.Bytes.SlEqualAll
import Derived.Shelf.Bytes.Small
import Derived.Shelf.Bytes.IndexByte
import Derived.Test.YtmmjihadplknjaaGreatDoorProg
set_option linter.unusedVariables false
set_option linter.unusedSimpArgs false
set_option maxRecDepth 100000
set_option maxHeartbeats 40000000
namespace Go.Proofs.YtmmjihadplknjaaGreatDoor
open Go.RowKit Go.Proofs.Tryz
def angP:Str->Option Str
 | b::r=>if b=60/\r.getLast? =some 62 then some r.dropLast else none
 | []=>none
theorem JFa(c:UInt8)(v:Str):Lib.hasSuffix v [c]=decide (v.getLast? =some c):=by
 unfold Lib.hasSuffix;rw[Bool.eq_iff_iff,List.isSuffixOf_iff_suffix,decide_eq_true_eq];constructor
 .rintro ⟨t,rfl⟩;simp
 intro h;have hne:v≠ []:=by rintro rfl;cases h
 refine ⟨v.dropLast,?_⟩;have:=List.dropLast_concat_getLast hne;rw[List.getLast?_eq_some_getLast hne]at h;rw[Option.some.inj h]at this;exact this
theorem q7a(a:Str)(ha:a.length<=1048576):∃x,qAa a=some (x,(angP a).isSome)/\∀y,angP a=some y->x=y:=by
 unfold qAa z3a;simp only[Option.bind_some];have hpre:∀(t:Str),Lib.hasPrefix (60::t) [60]=true:=fun t=>by simp[Lib.hasPrefix]
 cases a with
 | nil=>
  refine ⟨[],?_,fun y h=>by cases h⟩;unfold z4a;rfl
 | cons b r=>
  by_cases hb:b=60
  .subst hb;have h1:Lib.trimPrefix (60::r) [60]=r:=by unfold Lib.trimPrefix;rw[hpre];rfl
   rw[h1,hpre];unfold z4a;simp at ha;have hsm:(angP (60::r)).isSome=decide (r.getLast? =some 62):=by
    unfold angP;by_cases hl:r.getLast? =some 62 <;> simp[hl]
   rw[if_pos (by omega),JFa,hsm];simp only[Option.bind_some,cond_true];refine ⟨_,rfl,fun y hy=>?_⟩;unfold angP at hy;by_cases hl:r.getLast? =some 62
   .simp only[hl,and_self,if_true,Option.some.injEq]at hy;subst hy;unfold Lib.trimSuffix;rw[JFa,hl];simp[List.dropLast_eq_take]
   simp[hl]at hy
  have h1:Lib.hasPrefix (b::r) [60]=false:=by
   simp[Lib.hasPrefix,List.isPrefixOf];exact fun h=>hb h.symm
  have h2:Lib.trimPrefix (b::r) [60]=b::r:=by unfold Lib.trimPrefix;rw[h1];rfl
  rw[h1,h2];unfold z4a;rw[if_pos (by omega)];have h3:angP (b::r)=none:=by unfold angP;simp[hb]
  exact ⟨_,by rw[h3];rfl,fun y hy=>by rw[h3]at hy;cases hy⟩
def optP(o n:Str):Option Str:=if (n++ [61]).isPrefixOf (lowP o) then some ((lowP o).drop (n.length+1)) else none
theorem j6a(o n:Str)(ho:o.length<=1048576)(hn:n.length<=100):∃x,kWa [o] n=some (x,(optP o n).isSome)/\(∀y,optP o n=some y->x=y)/\x.length<=o.length:=by
 have hll:(lowP o).length=o.length:=by unfold lowP;simp
 unfold kWa;have e1:((([o]:List Str).length:Int) !=1)=false:=rfl;have e2:idx [o] 0=some o:=rfl;rw[e1,e2];simp only[cond_false,Option.bind_some,jCa o ho];rw[wxa (by simp;omega)];unfold z3a;simp only[Option.bind_some];unfold optP Lib.trimPrefix Lib.hasPrefix;by_cases h:(n++ [61]).isPrefixOf (lowP o)=true
 .rw[if_pos h];refine ⟨_,by rw[h];rfl,fun y hy=>?_,by simp;omega⟩;rw[if_pos h]at hy;cases hy;simp
 have h0:(n++ [61]).isPrefixOf (lowP o)=false:=by cases hb:(n++ [61]).isPrefixOf (lowP o) with
  | true=>exact absurd hb h
  | false=>rfl
 refine ⟨lowP o,?_,fun y hy=>?_,by omega⟩
 .rw[h0];simp
 rw[h0]at hy;simp at hy
def KHa(s:Str):Option Int:=zFa (fun i w=>if w==s then some ((i:Nat):Int) else none) 0 jGa
theorem Yxa(s:Str)(b:Bool):yda s b=some (match (if b then KHa s else none) with | some n=>(n,true) | none=>(0,false)):=by
 unfold yda;cases b with
 | false=>
  have qla:∀i:Nat,i<=8->iter (kga s false) (i:Int)=some (.inl ()):=by
   intro i hi;have key:∀k i:Nat,i+k=8->iter (kga s false) (i:Int)=some (.inl ()):=by
    intro k;induction k with
    | zero=>
     intro i h;refine zGa ?_;unfold kga;rw[decide_eq_false (by omega)];rfl
    | succ k ih=>
     intro i h;have hs:kga s false (i:Int)=some (.cont ((i+1:Nat):Int)):=by
      unfold kga;rw[decide_eq_true (by omega)];simp only[cond_true,cond_false,Option.bind_some,sc i (by omega)]
     rw[zNa hs];exact ih (i+1) (by omega)
   exact key (8 - i) i (by omega)
  have:=qla 0 (by omega);rw[show (((0:Nat)):Int)=0 from rfl]at this;rw[this];rfl
 | true=>
  have hl:=zQa jGa (fun i w=>if w==s then some (((i:Nat):Int),true) else none) (Sum.inl ()) Sum.inr (body:=kga s true)
   (by unfold kga;rfl) (fun i w hw=>by
    have hi:=zUa hw;have h8:jGa.length=8:=rfl;have hc:ZMa (i:Int)=w:=by
     unfold ZMa;rw[Int.toNat_natCast,List.getD_eq_getElem?_getD,hw];rfl
    unfold kga;rw[decide_eq_true (by omega),VTa (by omega),hc];simp only[cond_true,Option.bind_some,sc i (by omega)];cases w==s <;> rfl)
  rw[hl];have hf:∀(l:List Str) (n:Nat),zFa (fun i w=>if w==s then some (((i:Nat):Int),true) else none) n l=(zFa (fun i w=>if w==s then some ((i:Nat):Int) else none) n l).map fun x=>(x,true):=by
   intro l;induction l with
   | nil=>intro n;rfl
   | cons y l ih=>
    intro n;unfold zFa;cases hy:y==s with
    | true=>simp
    | false=>simp only[Bool.false_eq_true,if_false];exact ih (n+1)
  rw[hf];unfold KHa;rw[if_pos rfl];cases zFa (fun i w=>if w==s then some ((i:Nat):Int) else none) 0 jGa <;> rfl
def Wsa:Str:=[115,105,122,101]
def notW:Str:=[110,111,116,105,102,121]
def kWb:Str:=[108,97,115,116]
def vBa(v:Int)(l:List Str):Option zma:=
 if v=1 then (match l with | [n]=>some ⟨1,n,[],0,0,false⟩ | _=>none)
 else if v=2 then (match l with
  | [a]=>(angP a).map fun x=>⟨2,[],x,0,0,false⟩
  | [a,o]=>(angP a).bind fun x=>(optP o Wsa).bind fun s=>(numP s).map fun (m:Nat)=>(⟨2,[],x,(m:Int),0,false⟩:zma)
  | _=>none)
 else if v=3 then (match l with
  | [a]=>(angP a).map fun x=>⟨3,[],x,0,1,false⟩
  | [a,o]=>(angP a).bind fun x=>(optP o notW).bind fun s=>(KHa s).map fun m=>⟨3,[],x,0,m,false⟩
  | _=>none)
 else if v=5 then (match l with
  | [n]=>(numP n).map fun (m:Nat)=>(⟨5,[],[],(m:Int),0,false⟩:zma)
  | [n,x]=>(numP n).bind fun m=>if lowP x=kWb then some ⟨5,[],[],(m:Int),0,true⟩ else none
  | _=>none)
 else (match l with | []=>some ⟨v,[],[],0,0,false⟩ | _=>none)
theorem ap2(a:Str):vBa 2 [a]=(angP a).map fun x=>(⟨2,[],x,0,0,false⟩:zma):=rfl
theorem ap22(a o:Str):vBa 2 [a,o]=(angP a).bind fun x=>(optP o Wsa).bind fun s=>(numP s).map fun (m:Nat)=>(⟨2,[],x,(m:Int),0,false⟩:zma):=rfl
theorem ap3(a:Str):vBa 3 [a]=(angP a).map fun x=>(⟨3,[],x,0,1,false⟩:zma):=rfl
theorem ap33(a o:Str):vBa 3 [a,o]=(angP a).bind fun x=>(optP o notW).bind fun s=>(KHa s).map fun m=>(⟨3,[],x,0,m,false⟩:zma):=rfl
theorem ap5(n:Str):vBa 5 [n]=(numP n).map fun (m:Nat)=>(⟨5,[],[],(m:Int),0,false⟩:zma):=rfl
theorem ap55(n x:Str):vBa 5 [n,x]=(numP n).bind fun (m:Nat)=>if lowP x=kWb then some (⟨5,[],[],(m:Int),0,true⟩:zma) else none:=rfl
theorem len_in(l:List Str)(a b:Int):(((bif decide (a<=(l.length:Int)) then some (decide ((l.length:Int)<=b)) else some false):Option Bool))=some (decide (a<=(l.length:Int)) && decide ((l.length:Int)<=b)):=wdb _ _
theorem Yya(v:Int)(l:List Str)(hl:∀s∈l,s.length<=1048576)(hv:v≠4->v≠6->v≠7->v≠8->v=1∨v=2∨v=3∨v=5):
 ∃c,yea v l=some (c,(vBa v l).isSome)/\∀y,vBa v l=some y->c=y:=by
 have none3:∀(a b c:Str) (r:List Str) (v:Int),vBa v (a::b::c::r)=none:=by
  intro a b c r v;unfold vBa;repeat' split <;> first | rfl | (rename_i h;cases h) | skip
 unfold yea;simp only[len_in,Option.bind_some];rcases five v with rfl | rfl | rfl | rfl | ⟨h1,h2,h3,h5⟩
 .simp only[show ((1:Int)==1)=true from rfl,cond_true]
  match l,hl with
  | [],_=>exact ⟨_,rfl,fun y h=>by cases h⟩
  | [n],_=>exact ⟨_,rfl,fun y h=>by cases h;rfl⟩
  | a::b::r,_=>
   have e:(decide ((1:Int)<=(((a::b::r).length:Nat):Int)) && decide ((((a::b::r).length:Nat):Int)<=1))=false:=by simp;omega
   rw[e];exact ⟨_,rfl,fun y h=>by cases h⟩
 .simp only[show ((2:Int)==1)=false from rfl,show ((2:Int)==2)=true from rfl,cond_true,cond_false]
  match l,hl with
  | [],_=>exact ⟨_,rfl,fun y h=>by cases h⟩
  | [a],hl=>
   obtain ⟨x,hx,hy⟩:=q7a a (hl a (by simp));have e2:idx [a] 0=some a:=rfl;have e4:(((([a]:List Str).length:Nat):Int)==2)=false:=rfl;have e5:(decide ((1:Int)<=(((([a]:List Str).length:Nat):Int))) && decide ((((([a]:List Str).length:Nat):Int))<=2))=true:=rfl;rw[e5,e2,e4];simp only[Option.bind_some,Bool.not_true,cond_false];rw[hx];refine ⟨⟨2,[],x,0,0,false⟩,?_,fun y h=>?_⟩
   .rw[ap2];cases angP a <;> rfl
   rw[ap2]at h;cases ha:angP a with
   | none=>rw[ha]at h;cases h
   | some z=>rw[ha]at h;cases h;rw[hy z ha]
  | [a,o],hl=>
   obtain ⟨x,hx,hy⟩:=q7a a (hl a (by simp));obtain ⟨z,hz,hzy,hzl⟩:=j6a o Wsa (hl o (by simp)) (by decide);have e2:idx [a,o] 0=some a:=rfl;have e3:cut [a,o] 1 ((([a,o]:List Str).length:Nat):Int)=some [o]:=rfl;have e4:(((([a,o]:List Str).length:Nat):Int)==2)=true:=rfl;have e5:(decide ((1:Int)<=(((([a,o]:List Str).length:Nat):Int))) && decide ((((([a,o]:List Str).length:Nat):Int))<=2))=true:=rfl;have hz' :kWa [o] ([115,105,122,101]:Str)=_:=hz;rw[e5,e2,e4,e3];simp only[Option.bind_some,Bool.not_true,cond_false,cond_true];rw[hx];simp only[Option.bind_some];rw[hz'];simp only[Option.bind_some,wVa];cases hn:numP z with
   | none=>
    refine ⟨⟨2,[],x,0,0,false⟩,?_,fun y h=>?_⟩
    .have:vBa 2 [a,o]=none:=by
      rw[ap22];cases angP a with
      | none=>rfl
      | some q=>
       cases ho:optP o Wsa with
       | none=>simp[ho]
       | some w=>
        have:=hzy w ho;subst this;simp[ho,hn]
     rw[this];cases (angP a).isSome <;> rfl
    exfalso;rw[ap22]at h;cases ha:angP a with
    | none=>rw[ha]at h;cases h
    | some q=>
     cases ho:optP o Wsa with
     | none=>rw[ha]at h;simp[ho]at h
     | some w=>
      have:=hzy w ho;subst this;rw[ha]at h;simp[ho,hn]at h
   | some m=>
    refine ⟨⟨2,[],x,(m:Int),0,false⟩,?_,fun y h=>?_⟩
    .rw[ap22];cases ha:angP a with
     | none=>rfl
     | some q=>
      cases ho:optP o Wsa with
      | none=>simp[ho];rfl
      | some w=>
       have:=hzy w ho;subst this;simp[ho,hn];rfl
    rw[ap22]at h;cases ha:angP a with
    | none=>rw[ha]at h;cases h
    | some q=>
     cases ho:optP o Wsa with
     | none=>rw[ha]at h;simp[ho]at h
     | some w=>
      have:=hzy w ho;subst this;rw[ha]at h;simp[ho,hn]at h;rw[<-h,hy q ha]
  | a::b::c::r,_=>
   have e:(decide ((1:Int)<=(((a::b::c::r).length:Nat):Int)) && decide ((((a::b::c::r).length:Nat):Int)<=2))=false:=by simp;omega
   rw[e,none3];exact ⟨_,rfl,fun y h=>by cases h⟩
 .simp only[show ((3:Int)==1)=false from rfl,show ((3:Int)==2)=false from rfl,show ((3:Int)==3)=true from rfl,cond_true,cond_false]
  match l,hl with
  | [],_=>exact ⟨_,rfl,fun y h=>by cases h⟩
  | [a],hl=>
   obtain ⟨x,hx,hy⟩:=q7a a (hl a (by simp));have e2:idx [a] 0=some a:=rfl;have e4:(((([a]:List Str).length:Nat):Int)==2)=false:=rfl;have e5:(decide ((1:Int)<=(((([a]:List Str).length:Nat):Int))) && decide ((((([a]:List Str).length:Nat):Int))<=2))=true:=rfl;rw[e5,e2,e4];simp only[Option.bind_some,Bool.not_true,cond_false];rw[hx];refine ⟨⟨3,[],x,0,1,false⟩,?_,fun y h=>?_⟩
   .rw[ap3];cases angP a <;> rfl
   rw[ap3]at h;cases ha:angP a with
   | none=>rw[ha]at h;cases h
   | some z=>rw[ha]at h;cases h;rw[hy z ha]
  | [a,o],hl=>
   obtain ⟨x,hx,hy⟩:=q7a a (hl a (by simp));obtain ⟨z,hz,hzy,hzl⟩:=j6a o notW (hl o (by simp)) (by decide);have e2:idx [a,o] 0=some a:=rfl;have e3:cut [a,o] 1 ((([a,o]:List Str).length:Nat):Int)=some [o]:=rfl;have e4:(((([a,o]:List Str).length:Nat):Int)==2)=true:=rfl;have e5:(decide ((1:Int)<=(((([a,o]:List Str).length:Nat):Int))) && decide ((((([a,o]:List Str).length:Nat):Int))<=2))=true:=rfl;have hz' :kWa [o] ([110,111,116,105,102,121]:Str)=_:=hz;rw[e5,e2,e4,e3];simp only[Option.bind_some,Bool.not_true,cond_false,cond_true];rw[hx];simp only[Option.bind_some];rw[hz'];simp only[Option.bind_some,Yxa];cases ho:optP o notW with
   | none=>
    have h0:vBa 3 [a,o]=none:=by
     rw[ap33];cases angP a <;> simp[ho]
    rw[h0];refine ⟨⟨3,[],x,0,0,false⟩,?_,fun y h=>by cases h⟩;cases (angP a).isSome <;> rfl
   | some w=>
    have:=hzy w ho;subst this;simp only[Option.isSome_some,if_true];cases hn:KHa z with
    | none=>
     have h0:vBa 3 [a,o]=none:=by
      rw[ap33];cases angP a <;> simp[ho,hn]
     rw[h0];refine ⟨⟨3,[],x,0,0,false⟩,?_,fun y h=>by cases h⟩;cases (angP a).isSome <;> rfl
    | some m=>
     refine ⟨⟨3,[],x,0,m,false⟩,?_,fun y h=>?_⟩
     .rw[ap33];cases ha:angP a with
      | none=>rfl
      | some q=>simp[ho,hn];rfl
     rw[ap33]at h;cases ha:angP a with
     | none=>rw[ha]at h;cases h
     | some q=>
      rw[ha]at h;simp[ho,hn]at h;rw[<-h,hy q ha]
  | a::b::c::r,_=>
   have e:(decide ((1:Int)<=(((a::b::c::r).length:Nat):Int)) && decide ((((a::b::c::r).length:Nat):Int)<=2))=false:=by simp;omega
   rw[e,none3];exact ⟨_,rfl,fun y h=>by cases h⟩
 .simp only[show ((5:Int)==1)=false from rfl,show ((5:Int)==2)=false from rfl,show ((5:Int)==3)=false from rfl,show ((5:Int)==5)=true from rfl,cond_true,cond_false]
  match l,hl with
  | [],_=>exact ⟨_,rfl,fun y h=>by cases h⟩
  | [a],hl=>
   have e2:idx [a] 0=some a:=rfl;have e4:(((([a]:List Str).length:Nat):Int)==2)=false:=rfl;have e5:(decide ((1:Int)<=(((([a]:List Str).length:Nat):Int))) && decide ((((([a]:List Str).length:Nat):Int))<=2))=true:=rfl;rw[e5,e2,e4];simp only[Option.bind_some,Bool.not_true,Bool.not_false,cond_false,cond_true,wVa];cases hn:numP a with
   | none=>
    have h0:vBa 5 [a]=none:=by
     rw[ap5];simp[hn]
    rw[h0];exact ⟨⟨5,[],[],0,0,false⟩,rfl,fun y h=>by cases h⟩
   | some m=>
    have h0:vBa 5 [a]=some ⟨5,[],[],(m:Int),0,false⟩:=by
     rw[ap5];simp[hn]
    rw[h0];exact ⟨⟨5,[],[],(m:Int),0,false⟩,rfl,fun y h=>by cases h;rfl⟩
  | [a,x],hl=>
   have e2:idx [a,x] 0=some a:=rfl;have e3:idx [a,x] 1=some x:=rfl;have e4:(((([a,x]:List Str).length:Nat):Int)==2)=true:=rfl;have e5:(decide ((1:Int)<=(((([a,x]:List Str).length:Nat):Int))) && decide ((((([a,x]:List Str).length:Nat):Int))<=2))=true:=rfl;rw[e5,e2,e4,e3];simp only[Option.bind_some,Bool.not_true,cond_false,cond_true,wVa,jCa x (hl x (by simp))];have hw:(lowP x==([108,97,115,116]:Str))=decide (lowP x=kWb):=by rw[Bool.eq_iff_iff,beq_iff_eq,decide_eq_true_eq];exact Iff.rfl
   rw[hw];cases hn:numP a with
   | none=>
    have h0:vBa 5 [a,x]=none:=by
     rw[ap55];simp[hn]
    rw[h0];exact ⟨⟨5,[],[],0,0,true⟩,rfl,fun y h=>by cases h⟩
   | some m=>
    by_cases hx:lowP x=kWb
    .have h0:vBa 5 [a,x]=some ⟨5,[],[],(m:Int),0,true⟩:=by
      rw[ap55];simp[hn,hx]
     rw[h0,decide_eq_true hx];exact ⟨⟨5,[],[],(m:Int),0,true⟩,rfl,fun y h=>by cases h;rfl⟩
    have h0:vBa 5 [a,x]=none:=by
     rw[ap55];simp[hn,hx]
    rw[h0,decide_eq_false hx];exact ⟨⟨5,[],[],(m:Int),0,true⟩,rfl,fun y h=>by cases h⟩
  | a::b::c::r,_=>
   have e:(decide ((1:Int)<=(((a::b::c::r).length:Nat):Int)) && decide ((((a::b::c::r).length:Nat):Int)<=2))=false:=by simp;omega
   rw[e,none3];exact ⟨_,rfl,fun y h=>by cases h⟩
 rw[h1,h2,h3,h5];simp only[cond_false];have n1:v≠1:=by simpa using h1
 have n2:v≠2:=by simpa using h2
 have n3:v≠3:=by simpa using h3
 have n5:v≠5:=by simpa using h5
 have hr:vPa 0 0 l=some l.isEmpty:=by
  unfold vPa;rw[len_in];cases l with
  | nil=>rfl
  | cons a r=>
   simp only[Option.bind_some];have:(decide ((0:Int)<=(((a::r).length:Nat):Int)) && decide ((((a::r).length:Nat):Int)<=0))=false:=by simp
   rw[this];rfl
 rw[hr];unfold vBa;rw[if_neg n1,if_neg n2,if_neg n3,if_neg n5];cases l with
 | nil=>exact ⟨_,rfl,fun y h=>by cases h;rfl⟩
 | cons a r=>exact ⟨_,rfl,fun y h=>by cases h⟩
def Y6a(y:Str):Int:=Q8a.zipIdx.foldl (fun (s:Int) p=>if y==p.1 then ((p.2+1:Nat):Int) else s) 0
def kXb:List Str->Int
 | []=>0
 | x::_=>Y6a (lowP x)
theorem Yza(y:Str):(Y6a y=0/\y ∉ Q8a)∨∃v:Int,1<=v/\v<=8/\Y6a y=v/\y=zQb v:=by
 by_cases h:y∈Q8a
 .right;have:∀z∈Q8a,∃v:Fin 8,Y6a z=(v.val:Int)+1/\z=zQb ((v.val:Int)+1):=by decide
  obtain ⟨v,h1,h2⟩:=this y h;exact ⟨(v.val:Int)+1,by omega,by omega,h1,h2⟩
 left;refine ⟨?_,h⟩;simp only[Q8a,List.mem_cons,List.not_mem_nil,or_false,not_or]at h;obtain ⟨a1,a2,a3,a4,a5,a6,a7,a8⟩:=h;simp[Y6a,Q8a,List.zipIdx,a1,a2,a3,a4,a5,a6,a7,a8]
theorem Q9a(w:List Str)(hw:∀s∈w,s.length<=1048576):iter (qca w (([104,101,108,108,111]:Str),([109,97,105,108]:Str),([114,99,112,116]:Str),([100,97,116,97]:Str),([99,104,117,110,107]:Str),([114,101,115,101,116]:Str),([110,111,111,112]:Str),([113,117,105,116]:Str))) (0,0)=some (kXb w):=by
 obtain ⟨t,h1,h2,h3⟩:=Kxa Q8a (fun i (s:Int)=>(s,i)) (fun i s x=>match w with | []=>s | y::_=>if lowP y==x then ((i+1:Nat):Int) else s) id (fun _ _=>True) (body:=qca w (([104,101,108,108,111]:Str),([109,97,105,108]:Str),([114,99,112,116]:Str),([100,97,116,97]:Str),([99,104,117,110,107]:Str),([114,101,115,101,116]:Str),([110,111,111,112]:Str),([113,117,105,116]:Str)))
  (fun s _=>by unfold qca;rfl) (fun i x s hx _=>by
   have hi:=zUa hx;have h8:Q8a.length=8:=rfl;refine ⟨?_,trivial⟩;unfold qca;dsimp only;rw[decide_eq_true (by omega),show ([([104,101,108,108,111]:Str),([109,97,105,108]:Str),([114,99,112,116]:Str),([100,97,116,97]:Str),([99,104,117,110,107]:Str),([114,101,115,101,116]:Str),([110,111,111,112]:Str),([113,117,105,116]:Str)]:List Str)=Q8a from rfl,zJa hx];simp only[cond_true,Option.bind_some,sc i (by omega)];cases w with
   | nil=>rfl
   | cons y r=>
    have e1:decide ((0:Int) < (((y::r).length:Nat):Int))=true:=by simp
    have e2:idx (y::r) 0=some y:=rfl;rw[e1,e2];simp only[cond_true,Option.bind_some,jCa y (hw y (by simp))];cases lowP y==x <;> rfl) 0 trivial
 rw[h1,h3];cases w with
 | nil=>rfl
 | cons y r=>rfl
def noC:zma:=⟨0,[],[],0,0,false⟩
def finP(c:zma):zma × zva:=bif (cmdF c).Code !=0 then (noC,cmdF c) else (c,⟨0,0⟩)
def yla(s:Str):zma × zva:=
 if 4000 < s.length then (noC,⟨1, -1⟩) else if kXb (vma s)=0 then (noC,⟨18, -2⟩) else match vBa (kXb (vma s)) ((vma s).drop 1) with
  | none=>(noC,⟨11, -3⟩)
  | some c=>finP c
theorem JGa{s x:Str}(h:x∈vma s):x.length<=s.length:=w8b (List.mem_filter.1 h).1
theorem jqa{a y:Str}(h:angP a=some y):y.length<=a.length:=by
 unfold angP at h;split at h
 .split at h
  .cases h;simp;omega
  cases h
 cases h
theorem vjb{v:Int}{l:List Str}{c:zma}(hl:∀s∈l,s.length<=1048576)(h:vBa v l=some c):zOb c:=by
 unfold vBa at h;have z:([]:Str).length<=1048576:=by decide
 split at h
 .split at h
  .cases h;exact ⟨hl _ (by simp),z⟩
  cases h
 split at h
 .split at h
  .rename_i a;cases ha:angP a with
   | none=>rw[ha]at h;cases h
   | some q=>rw[ha]at h;cases h;exact ⟨z,Nat.le_trans (jqa ha) (hl _ (by simp))⟩
  .rename_i a o;cases ha:angP a with
   | none=>rw[ha]at h;cases h
   | some q=>
    rw[ha]at h;cases ho:optP o Wsa with
    | none=>simp[ho]at h
    | some w=>
     cases hn:numP w with
     | none=>simp[ho,hn]at h
     | some m=>simp[ho,hn]at h;subst h;exact ⟨z,Nat.le_trans (jqa ha) (hl _ (by simp))⟩
  cases h
 split at h
 .split at h
  .rename_i a;cases ha:angP a with
   | none=>rw[ha]at h;cases h
   | some q=>rw[ha]at h;cases h;exact ⟨z,Nat.le_trans (jqa ha) (hl _ (by simp))⟩
  .rename_i a o;cases ha:angP a with
   | none=>rw[ha]at h;cases h
   | some q=>
    rw[ha]at h;cases ho:optP o notW with
    | none=>simp[ho]at h
    | some w=>
     cases hn:KHa w with
     | none=>simp[ho,hn]at h
     | some m=>simp[ho,hn]at h;subst h;exact ⟨z,Nat.le_trans (jqa ha) (hl _ (by simp))⟩
  cases h
 split at h
 .split at h
  .rename_i n;cases hn:numP n with
   | none=>simp[hn]at h
   | some m=>simp[hn]at h;subst h;exact ⟨z,z⟩
  .rename_i n x;cases hn:numP n with
   | none=>simp[hn]at h
   | some m=>simp[hn]at h;obtain ⟨_,rfl⟩:=h;exact ⟨z,z⟩
  cases h
 split at h
 .cases h;exact ⟨z,z⟩
 cases h
theorem Wta(s:Str)(hs:s.length<=1048576):wsa s=some (yla s):=by
 unfold wsa yla;by_cases h4:4000 < s.length
 .rw[decide_eq_true (by omega),if_pos h4];rfl
 rw[decide_eq_false (by omega),if_neg h4];have hw:∀x∈vma s,x.length<=1048576:=fun x hx=>by have:=JGa hx;omega
 have hf:kLa s=some (vma s):=by
  unfold kLa;rw[if_pos (by omega),vib]
 rw[hf,Wqa];simp only[cond_false,Option.bind_some,kra,qfa,kia];rw[Q9a _ hw];simp only[Option.bind_some];generalize vma s=w at hw ⊢;cases w with
 | nil=>rfl
 | cons y r=>
  have e:kXb (y::r)=Y6a (lowP y):=rfl;rw[e];rcases Yza (lowP y) with ⟨h0,_⟩ | ⟨v,h1,h8,hv,_⟩
  .rw[h0];rfl
  rw[hv];have e0:(v==0)=false:=by rw[beq_eq_false_iff_ne];omega
  rw[e0,if_neg (by omega)];have ec:cut (y::r) 1 (((y::r).length:Nat):Int)=some r:=by
   have:=yXa (l:=y::r) (a:=1) (by simp);exact this
  rw[ec];simp only[cond_false,Option.bind_some,List.drop_succ_cons,List.drop_zero];have hr:∀x∈r,x.length<=1048576:=fun x hx=>hw x (by simp[hx])
  obtain ⟨c,h2,h3⟩:=Yya v r hr (by omega);rw[h2];simp only[Option.bind_some];cases ha:vBa v r with
  | none=>rfl
  | some z=>
   have:=h3 z ha;subst this;have hsm:=vjb hr ha;simp only[Option.isSome_some,Bool.not_true,cond_false,Qza c hsm,Option.bind_some];unfold finP;cases hq:(cmdF c).Code !=0 with
   | true=>rfl
   | false=>rfl
theorem ybb(s:Str)(hs:s.length<=1048576):∀(r p word:Str) (out:List Str),s=p++r->word.length<=p.length->out.length<=p.length->iter (vza s) (word,(p.length:Int),out)=some (out++wrd word r):=by
 intro r;induction r with
 | nil=>
  intro p word out hp hw ho;rw[List.append_nil]at hp;subst hp;have hb:vza s (word,(s.length:Int),out)=some (.cont ([],((s.length+1:Nat):Int),out++nonE [word])):=by
   unfold vza;dsimp only;rw[decide_eq_true (by omega),zRa];simp only[cond_true,cond_false,Option.bind_some];rw[sc s.length (by omega)];by_cases he:word=[]
   .subst he;simp[nonE]
   have h1:(word !=([]:Str))=true:=by simpa using he
   have h2:nonE [word]=[word]:=by
    cases word with
    | nil=>exact absurd rfl he
    | cons b t=>rfl
   rw[h1,h2,zYa (by simp;omega)];rfl
  rw[zNa hb,jSb];refine zGa ?_;unfold vza;dsimp only;rw[decide_eq_false (by omega)];rfl
 | cons b r ih=>
  intro p word out hp hw ho;have hlen:s.length=p.length+(r.length+1):=by rw[hp];simp
  have hget:idx s (p.length:Int)=some b:=by rw[hp];exact W8a p b r
  by_cases hb:b=32
  .subst hb;have qla:vza s (word,(p.length:Int),out)=some (.cont ([],((p.length+1:Nat):Int),out++nonE [word])):=by
    unfold vza;dsimp only;rw[decide_eq_true (by omega),decide_eq_true (by omega:(p.length:Int) < (s.length:Int)),hget];have e32:(((32:UInt8).toNat:Int) !=32)=false:=rfl;simp only[cond_true,Option.bind_some,e32,cond_false];rw[sc p.length (by omega)];by_cases he:word=[]
    .subst he;simp[nonE]
    have h1:(word !=([]:Str))=true:=by simpa using he
    have h2:nonE [word]=[word]:=by
     cases word with
     | nil=>exact absurd rfl he
     | cons b t=>rfl
    rw[h1,h2,zYa (by simp;omega)];rfl
   rw[zNa qla,wrd_sp,<-List.append_assoc];have h3:=ih (p++ [32]) [] (out++nonE [word]) (by rw[hp];simp) (by simp) (by
    have:(nonE [word]).length<=1:=by unfold nonE;exact List.length_filter_le _ _
    simp;omega)
   simp only[List.length_append,List.length_cons,List.length_nil]at h3;rw[show 0+1=1 from rfl]at h3;exact h3
  have qla:vza s (word,(p.length:Int),out)=some (.cont (word++ [b],((p.length+1:Nat):Int),out)):=by
   unfold vza;dsimp only;have e32:((b.toNat:Int) !=32)=true:=by
    have:=ZIa b 32 (by decide);rw[show ((b.toNat:Int) !=32)=(b !=32) from this];simpa using hb
   rw[decide_eq_true (by omega),decide_eq_true (by omega:(p.length:Int) < (s.length:Int)),hget];simp only[cond_true,Option.bind_some,e32];rw[sc p.length (by omega),kvb (by omega) (by omega)];have e:(s.drop p.length).take (p.length+1 - p.length)=[b]:=by rw[hp,show p.length+1 - p.length=1 by omega];simp
   rw[e];simp only[Option.bind_some];rw[wxa (by simp;omega)];rfl
  rw[zNa qla];have h3:=ih (p++ [b]) (word++ [b]) out (by rw[hp];simp) (by simp;omega) (by simp;omega);simp only[List.length_append,List.length_cons,List.length_nil]at h3;rw[show 0+1=1 from rfl]at h3;rw[h3];have:=Ywa (k:=[b]) word r (by simpa using fun h=>hb h.symm);rw[<-this];rfl
theorem ycb(s:Str)(hs:s.length<=1048576):q0b s=some (vma s):=by
 have:=ybb s hs s [] [] [] rfl (by simp) (by simp);unfold q0b;rw[show (([]:Str),(0:Int),([]:List Str))=(([]:Str),((([]:Str).length:Nat):Int),([]:List Str)) from rfl,this,jRb];rfl
theorem JHa(o n:Str)(ho:o.length<=1048576)(hn:n.length<=100):VDa o (n++ [61])=some (match optP o n with | some y=>(y,true) | none=>([],false)):=by
 have hll:(lowP o).length=o.length:=by unfold lowP;simp
 unfold VDa;rw[VQa o ho];simp only[Option.bind_some];have hpre:((n++ [61]).isPrefixOf (lowP o))=decide ((lowP o).take (n++ [61]).length=n++ [61]):=by
  rw[Bool.eq_iff_iff,List.isPrefixOf_iff_prefix,List.prefix_iff_eq_take,decide_eq_true_eq];exact eq_comm
 unfold optP;rw[hpre];by_cases hlt:(lowP o).length < (n++ [61]).length
 .rw[decide_eq_true (by omega)];have:¬(lowP o).take (n++ [61]).length=n++ [61]:=by
   intro h;have:=congrArg List.length h;rw[List.length_take]at this;omega
  rw[decide_eq_false this];rfl
 rw[decide_eq_false (by omega)];simp only[cond_false];rw[j0a (by omega)];simp only[Option.bind_some];by_cases h:(lowP o).take (n++ [61]).length=n++ [61]
 .have e:((lowP o).take (n++ [61]).length !=n++ [61])=false:=by rw[h];simp
  rw[e,decide_eq_true h];simp only[cond_false];rw[yXa (by omega)];simp
 have e:((lowP o).take (n++ [61]).length !=n++ [61])=true:=by simpa using h
 rw[e,decide_eq_false h];rfl
theorem jYb(w:List Str)(hw:∀s∈w,s.length<=1048576):iter (qXa w) (1,0)=some (kXb w):=by
 cases w with
 | nil=>exact zGa (by unfold qXa;rfl)
 | cons y r=>
  obtain ⟨t,h1,h2,h3⟩:=Kxa Q8a (fun i (s:Int)=>(i+1,s)) (fun i s x=>if lowP y==x then ((i+1:Nat):Int) else s) id (fun _ _=>True) (body:=qXa (y::r))
   (fun s _=>by unfold qXa;rfl) (fun i x s hx _=>by
    have hi:=zUa hx;have h8:Q8a.length=8:=rfl;refine ⟨?_,trivial⟩;unfold qXa;dsimp only;have e1:decide ((0:Int) < (((y::r).length:Nat):Int))=true:=by simp
    have e2:idx (y::r) 0=some y:=rfl;have e3:zQb ((i:Int)+1)=x:=by
     unfold zQb;rw[show ((i:Int)+1 - 1).toNat=i by omega,List.getD_eq_getElem?_getD,hx];rfl
    rw[decide_eq_true (by omega),e1,e2,jXb (by omega),e3];simp only[cond_true,Option.bind_some,VQa y (hw y (by simp))];rw[qsa (by omega) (by omega)];cases lowP y==x with
    | true=>simp
    | false=>simp) 0 trivial
  rw[show ((1:Int),(0:Int))=((0:Int)+1,0) from rfl];rw[h1,h3];rfl
theorem kYb(s:Str)(b:Bool)(n0:Int):iter (qZa (s,b)) (false,0,n0)=some (match (if b then KHa s else none) with | some n=>(true,n) | none=>(false,n0)):=by
 cases b with
 | false=>
  refine zGa ?_;unfold qZa;rfl
 | true=>
  obtain ⟨t,h1,h2,h3⟩:=Kxa jGa (fun i (q:Bool × Int)=>(q.1,i,q.2)) (fun i q x=>if x==s then (true,(i:Int)) else q) id (fun _ _=>True) (body:=qZa (s,true))
   (fun q _=>by unfold qZa;rfl) (fun i x q hx _=>by
    have hi:=zUa hx;have h8:jGa.length=8:=rfl;refine ⟨?_,trivial⟩;have hc:ZMa (i:Int)=x:=by
     unfold ZMa;rw[Int.toNat_natCast,List.getD_eq_getElem?_getD,hx];rfl
    unfold qZa;dsimp only;rw[decide_eq_true (by omega),Kha (by omega),hc];simp only[cond_true,Option.bind_some,sc i (by omega)];cases x==s <;> rfl) (false,n0) trivial
  rw[h1,h3,if_pos rfl];have key:jGa.zipIdx.foldl (fun (q:Bool × Int) p=>if p.1==s then (true,((p.2:Nat):Int)) else q) (false,n0)=(match KHa s with | some n=>(true,n) | none=>(false,n0)):=by
   by_cases h:s∈jGa
   .have:∀z∈jGa,∃k:Fin 8,KHa z=some (k.val:Int)/\∀n:Int,jGa.zipIdx.foldl (fun (q:Bool × Int) p=>if p.1==z then (true,((p.2:Nat):Int)) else q) (false,n)=(true,(k.val:Int)):=by
     intro z hz;simp only[jGa,List.mem_cons,List.not_mem_nil,or_false]at hz;rcases hz with rfl | rfl | rfl | rfl | rfl | rfl | rfl | rfl
     .exact ⟨0,rfl,fun n=>rfl⟩
     .exact ⟨1,rfl,fun n=>rfl⟩
     .exact ⟨2,rfl,fun n=>rfl⟩
     .exact ⟨3,rfl,fun n=>rfl⟩
     .exact ⟨4,rfl,fun n=>rfl⟩
     .exact ⟨5,rfl,fun n=>rfl⟩
     .exact ⟨6,rfl,fun n=>rfl⟩
     exact ⟨7,rfl,fun n=>rfl⟩
    obtain ⟨k,h4,h5⟩:=this s h;rw[h4,h5 n0]
   have h6:KHa s=none:=by
    unfold KHa;rw[v6a];intro i x hx;have hne:(x==s)=false:=by
     rw[beq_eq_false_iff_ne];rintro rfl;exact h (List.mem_of_getElem? hx)
    simp[hne]
   rw[h6];simp only[jGa,List.mem_cons,List.not_mem_nil,or_false,not_or]at h;obtain ⟨a1,a2,a3,a4,a5,a6,a7,a8⟩:=h;simp[jGa,List.zipIdx,Ne.symm a1,Ne.symm a2,Ne.symm a3,Ne.symm a4,Ne.symm a5,Ne.symm a6,Ne.symm a7,Ne.symm a8]
  rw[key];rfl
theorem jZb(v:Int)(n a:Str)(z o:Int)(b:Bool)(h:zOb ⟨v,n,a,z,o,b⟩):qYa v (n,a,0) (z,o,b)=some (finP ⟨v,n,a,z,o,b⟩):=by
 unfold qYa finP;rw[VSa _ h];simp only[Option.bind_some];cases hc:(cmdF ⟨v,n,a,z,o,b⟩).Code !=0 with
 | true=>rfl
 | false=>
  have:=(jUb (c:=⟨v,n,a,z,o,b⟩) (by simpa using hc)).2;rw[this];rfl
theorem kZb(v:Int)(n a:Str)(q z o:Int)(b:Bool):qYa v (n,a,q) (z,o,b)=qYa v (n,a,0) (z,o,b):=rfl
theorem WLa(a:Str):(((bif decide ((a.length:Int) < 2) then some true else (idx a 0).bind fun v84=>(bif ((v84.toNat:Int) !=60) then some true else (idx a ((w64 ((a.length:Int) - 1)))).bind fun v89=>some (((v89.toNat:Int) !=62)))):Option Bool))=some (!(angP a).isSome)∨4611686018427387904<=a.length:=by
 by_cases hbig:4611686018427387904<=a.length
 .exact .inr hbig
 left
 match a with
 | []=>rfl
 | [b]=>
  have:angP [b]=none:=by unfold angP;simp
  rw[this];rfl
 | b::c::r=>
  have e1:decide ((((b::c::r).length:Nat):Int) < 2)=false:=by simp;omega
  have e2:idx (b::c::r) 0=some b:=rfl;have e3:idx (b::c::r) (w64 ((((b::c::r).length:Nat):Int) - 1))=(c::r).getLast? :=by
   have hl:(b::c::r).length=r.length+2:=rfl;rw[qsa (by omega) (by omega),show (((b::c::r).length:Nat):Int) - 1=((r.length+1:Nat):Int) by omega,v5a];rw[List.getLast?_eq_getElem?];simp
  rw[e1,e2,e3];obtain ⟨w,e4⟩:∃w,(c::r).getLast? =some w:=⟨_,List.getLast?_eq_some_getLast (by simp)⟩;rw[e4];simp only[cond_false,Option.bind_some];have e5:=ZIa b 60 (by decide);have e6:=ZIa w 62 (by decide);rw[show ((b.toNat:Int) !=60)=(b !=60) from e5,show ((w.toNat:Int) !=62)=(w !=62) from e6];have hap:angP (b::c::r)=if b=60/\(c::r).getLast? =some 62 then some (c::r).dropLast else none:=rfl;rw[hap,e4];by_cases h1:b=60
  .subst h1;by_cases h2:w=62
   .simp[h2]
   have h3:(w !=62)=true:=by simpa using h2
   rw[h3];simp[h2]
  have h3:(b !=60)=true:=by simpa using h1
  rw[h3];simp[h1]
theorem WMa{a y:Str}(h:angP a=some y)(hl:a.length<=1048576):cut a 1 (w64 ((a.length:Int) - 1))=some y:=by
 unfold angP at h;split at h
 .rename_i b r;split at h
  .rename_i hb;cases h;have hr:r≠ []:=by
    intro e;subst e;simp at hb
   have hp:=List.length_pos_iff.2 hr;have hl2:(b::r).length=r.length+1:=rfl;rw[qsa (by omega) (by omega),show (((b::r).length:Nat):Int) - 1=((r.length:Nat):Int) by omega];have:=kvb (l:=b::r) (a:=1) (b:=r.length) (by omega) (by simp);rw[show ((1:Nat):Int)=1 from rfl]at this;rw[this];simp[List.dropLast_eq_take]
  cases h
 cases h
def badC:zma × zva:=(noC,⟨11, -3⟩)
theorem j0b(v:Int)(a b:Str)(n ad:Str)(z:Int)(hn:n.length<=1048576)(had:ad.length<=1048576)(hb:b.length<=1048576):
 kIa v ⟨11, -3⟩ [a,b] (n,ad,z)=some (
  if v=2 then (match (optP b Wsa).bind numP with | some m=>finP ⟨2,n,ad,(m:Int),0,false⟩ | none=>badC)
  else if v=3 then (match (optP b notW).bind KHa with | some m=>finP ⟨3,n,ad,z,m,false⟩ | none=>badC)
  else if v=5 then (if lowP b=kWb then finP ⟨5,n,ad,z,0,true⟩ else badC) else badC):=by
 have e4:(((([a,b]:List Str).length:Nat):Int)==2)=true:=rfl;have e3:idx [a,b] 1=some b:=rfl;unfold kIa;rw[e4,e3];simp only[Option.bind_some,cond_true];rcases five v with rfl | rfl | rfl | rfl | ⟨h1,h2,h3,h5⟩
 .rw[if_neg (by omega),if_neg (by omega),if_neg (by omega)];rfl
 .rw[if_pos rfl];have ha:=JHa b Wsa hb (by decide);have ha' :VDa b ([115,105,122,101,61]:Str)=_:=ha;simp only[show ((2:Int)==3)=false from rfl,show ((2:Int)==2)=true from rfl,cond_true,cond_false,Option.bind_some];rw[ha'];simp only[Option.bind_some];cases ho:optP b Wsa with
  | none=>
   simp only[Option.bind_none];rw[Zva [] (by decide)];rfl
  | some w=>
   have hwl:w.length<=1048576:=by
    unfold optP at ho;split at ho
    .cases ho;have:(lowP b).length=b.length:=by unfold lowP;simp
     simp;omega
    cases ho
   simp only[Option.bind_some];rw[Zva w hwl];cases hm:numP w with
   | none=>rfl
   | some m=>
    simp only[Option.bind_some,cond_true];rw[decide_eq_true (by omega)];simp only[Bool.not_true,cond_false];rw[kZb,jZb _ _ _ _ _ _ ⟨hn,had⟩]
 .rw[if_neg (by omega),if_pos rfl];have ha:=JHa b notW hb (by decide);have ha' :VDa b ([110,111,116,105,102,121,61]:Str)=_:=ha;simp only[show ((3:Int)==3)=true from rfl,show ((3:Int)==2)=false from rfl,cond_true,cond_false,Option.bind_some];rw[ha'];simp only[Option.bind_some];cases ho:optP b notW with
  | none=>
   simp only[Option.bind_none];rw[kYb];rfl
  | some w=>
   simp only[Option.bind_some];rw[kYb,if_pos rfl];cases hm:KHa w with
   | none=>rfl
   | some m=>
    simp only[Option.bind_some,Bool.not_true,cond_false];rw[kZb,jZb _ _ _ _ _ _ ⟨hn,had⟩]
 .rw[if_neg (by omega),if_neg (by omega),if_pos rfl];simp only[show ((5:Int)==3)=false from rfl,show ((5:Int)==2)=false from rfl,show ((5:Int)==5)=true from rfl,cond_true,cond_false,Option.bind_some,VQa b hb];have hw:(lowP b==([108,97,115,116]:Str))=decide (lowP b=kWb):=by rw[Bool.eq_iff_iff,beq_iff_eq,decide_eq_true_eq];exact Iff.rfl
  rw[hw];by_cases hl:lowP b=kWb
  .rw[decide_eq_true hl,if_pos hl];simp only[Bool.not_true,cond_false];rw[kZb,jZb _ _ _ _ _ _ ⟨hn,had⟩]
  rw[decide_eq_false hl,if_neg hl];rfl
 rw[if_neg (by simpa using h2),if_neg (by simpa using h3),if_neg (by simpa using h5),h2,h3,h5];rfl
theorem Vaa(v:Int)(f:zva)(l:List Str)(n ad:Str)(z:Int)(hl:l.length<=1)(hn:n.length<=1048576)(had:ad.length<=1048576):
 kIa v f l (n,ad,z)=some (finP ⟨v,n,ad,z,if v=3 then 1 else 0,false⟩):=by
 have e4:(((l.length:Nat):Int)==2)=false:=by rw[beq_eq_false_iff_ne];omega
 unfold kIa;rw[e4];by_cases h3:v=3
 .subst h3;simp only[show ((3:Int)==3)=true from rfl,cond_true,cond_false,Option.bind_some,if_true];rw[kZb,jZb _ _ _ _ _ _ ⟨hn,had⟩]
 have:(v==3)=false:=by simpa using h3
 simp only[this,cond_false,Option.bind_some,if_neg h3];rw[kZb,jZb _ _ _ _ _ _ ⟨hn,had⟩]
theorem Y7a(s:Str)(hs:s.length<=1048576):Qra s=some (yla s):=by
 unfold Qra yla;by_cases h4:4000 < s.length
 .rw[decide_eq_true (by omega),if_pos h4];rfl
 rw[decide_eq_false (by omega),if_neg h4];have hw:∀x∈vma s,x.length<=1048576:=fun x hx=>by have:=JGa hx;omega
 rw[ycb s hs];simp only[cond_false,Option.bind_some,jAa];rw[jYb _ hw];simp only[Option.bind_some];have hwl:(vma s).length<=1048577:=by
  have h1:=kSb 32 s;have h2:(vma s).length<=(vla 32 s).length:=List.length_filter_le _ _;omega
 generalize vma s=w at hw hwl ⊢;cases w with
 | nil=>rfl
 | cons y r=>
  have e:kXb (y::r)=Y6a (lowP y):=rfl;rw[e];rcases Yza (lowP y) with ⟨h0,_⟩ | ⟨v,h1,h8,hv,_⟩
  .rw[h0];rfl
  rw[hv];have e0:(v==0)=false:=by rw[beq_eq_false_iff_ne];omega
  rw[e0,if_neg (by omega)];have ec:cut (y::r) 1 (((y::r).length:Nat):Int)=some r:=by
   have:=yXa (l:=y::r) (a:=1) (by simp);exact this
  rw[ec];simp only[cond_false,Option.bind_some,List.drop_succ_cons,List.drop_zero];have hr:∀x∈r,x.length<=1048576:=fun x hx=>hw x (by simp[hx])
  have hrl:r.length<=1048576:=by simp at hwl;omega
  have z:([]:Str).length<=1048576:=by decide
  have low:∀(a b:Int),R_In (r.length:Int) a b=some (decide (a<=(r.length:Int)) && decide ((r.length:Int)<=b)):=fun a b=>vka _ _ _
  have many3:∀(a b c:Str) (t:List Str) (v:Int),vBa v (a::b::c::t)=none:=by
   intro a b c t v;unfold vBa;repeat' split <;> first | rfl | (rename_i h;cases h) | skip
  have lastCase:∀(t:List Str) (v:Int),(v=4∨v=6∨v=7∨v=8)->vBa v t=(if t.isEmpty then some ⟨v,[],[],0,0,false⟩ else none):=by
   intro t v hv;unfold vBa;rw[if_neg (by omega),if_neg (by omega),if_neg (by omega),if_neg (by omega)];cases t <;> rfl
  have quiet:∀v:Int,(v=4∨v=6∨v=7∨v=8)->∀(X:Option (zma × zva)),(r=[]->X=kIa v ⟨11, -3⟩ r ([],[],0))->
   (bif !(decide ((0:Int)<=(r.length:Int)) && decide ((r.length:Int)<=0)) then some (noC,(⟨11, -3⟩:zva)) else X)=some (match vBa v r with | none=>(noC,⟨11, -3⟩) | some c=>finP c):=by
   intro v hv X hX;rw[lastCase r v hv];cases r with
   | nil=>
    rw[hX rfl,Vaa v _ [] [] [] 0 (by simp) z z,if_neg (by omega)];rfl
   | cons a t=>
    have e1:(decide ((0:Int)<=(((a::t).length:Nat):Int)) && decide ((((a::t).length:Nat):Int)<=0))=false:=by simp
    rw[e1];rfl
  have bad:(⟨11, -3⟩:zva)=⟨11, -3⟩:=rfl;have hv8:v=1∨v=2∨v=3∨v=4∨v=5∨v=6∨v=7∨v=8:=by omega
  rcases hv8 with rfl | rfl | rfl | rfl | rfl | rfl | rfl | rfl
  .rw[show idx ([1,1,1,0,1,0,0,0]:List Int) (w64 (1 - 1))=some 1 from by decide,show idx ([1,2,2,0,2,0,0,0]:List Int) (w64 (1 - 1))=some 1 from by decide];simp only[Option.bind_some,low]
   match r,hr with
   | [],_=>rfl
   | [n],hr=>
    have e2:idx [n] 0=some n:=rfl;have e5:(decide ((1:Int)<=(((([n]:List Str).length:Nat):Int))) && decide ((((([n]:List Str).length:Nat):Int))<=1))=true:=rfl;rw[e5,e2];simp only[Bool.not_true,cond_false,show ((1:Int)==1)=true from rfl,cond_true,Option.bind_some];rw[Vaa 1 _ [n] n [] 0 (by simp) (hr n (by simp)) z];rfl
   | a::b::t,_=>
    have e1:(decide ((1:Int)<=(((a::b::t).length:Nat):Int)) && decide ((((a::b::t).length:Nat):Int)<=1))=false:=by simp;omega
    rw[e1];rfl
  .rw[show idx ([1,1,1,0,1,0,0,0]:List Int) (w64 (2 - 1))=some 1 from by decide,show idx ([1,2,2,0,2,0,0,0]:List Int) (w64 (2 - 1))=some 2 from by decide];simp only[Option.bind_some,low]
   match r,hr with
   | [],_=>rfl
   | [a],hr=>
    have e2:idx [a] 0=some a:=rfl;have e5:(decide ((1:Int)<=(((([a]:List Str).length:Nat):Int))) && decide ((((([a]:List Str).length:Nat):Int))<=2))=true:=rfl;have hal:=hr a (by simp);rw[e5,e2,ap2];simp only[Bool.not_true,cond_false,show ((2:Int)==1)=false from rfl,show ((2:Int)==2)=true from rfl,cond_true,Option.bind_some];rcases WLa a with ha | ha
    .rw[ha];cases hp:angP a with
     | none=>rfl
     | some q=>
      simp only[Option.isSome_some,Bool.not_true,cond_false,Option.bind_some,WMa hp hal];rw[Vaa 2 _ [a] [] q 0 (by simp) z (Nat.le_trans (jqa hp) hal)];rfl
    omega
   | [a,o],hr=>
    have e2:idx [a,o] 0=some a:=rfl;have e5:(decide ((1:Int)<=(((([a,o]:List Str).length:Nat):Int))) && decide ((((([a,o]:List Str).length:Nat):Int))<=2))=true:=rfl;have hal:=hr a (by simp);rw[e5,e2,ap22];simp only[Bool.not_true,cond_false,show ((2:Int)==1)=false from rfl,show ((2:Int)==2)=true from rfl,cond_true,Option.bind_some];rcases WLa a with ha | ha
    .rw[ha];cases hp:angP a with
     | none=>rfl
     | some q=>
      simp only[Option.isSome_some,Bool.not_true,cond_false,Option.bind_some,WMa hp hal];rw[j0b 2 a o [] q 0 z (Nat.le_trans (jqa hp) hal) (hr o (by simp)),if_pos rfl];cases optP o Wsa with
      | none=>rfl
      | some w=>
       simp only[Option.bind_some];cases numP w <;> rfl
    omega
   | a::b::c::t,_=>
    have e1:(decide ((1:Int)<=(((a::b::c::t).length:Nat):Int)) && decide ((((a::b::c::t).length:Nat):Int)<=2))=false:=by simp;omega
    rw[e1,many3];rfl
  .rw[show idx ([1,1,1,0,1,0,0,0]:List Int) (w64 (3 - 1))=some 1 from by decide,show idx ([1,2,2,0,2,0,0,0]:List Int) (w64 (3 - 1))=some 2 from by decide];simp only[Option.bind_some,low]
   match r,hr with
   | [],_=>rfl
   | [a],hr=>
    have e2:idx [a] 0=some a:=rfl;have e5:(decide ((1:Int)<=(((([a]:List Str).length:Nat):Int))) && decide ((((([a]:List Str).length:Nat):Int))<=2))=true:=rfl;have hal:=hr a (by simp);rw[e5,e2,ap3];simp only[Bool.not_true,cond_false,show ((3:Int)==1)=false from rfl,show ((3:Int)==2)=false from rfl,show ((3:Int)==3)=true from rfl,cond_true,Option.bind_some];rcases WLa a with ha | ha
    .rw[ha];cases hp:angP a with
     | none=>rfl
     | some q=>
      simp only[Option.isSome_some,Bool.not_true,cond_false,Option.bind_some,WMa hp hal];rw[Vaa 3 _ [a] [] q 0 (by simp) z (Nat.le_trans (jqa hp) hal)];rfl
    omega
   | [a,o],hr=>
    have e2:idx [a,o] 0=some a:=rfl;have e5:(decide ((1:Int)<=(((([a,o]:List Str).length:Nat):Int))) && decide ((((([a,o]:List Str).length:Nat):Int))<=2))=true:=rfl;have hal:=hr a (by simp);rw[e5,e2,ap33];simp only[Bool.not_true,cond_false,show ((3:Int)==1)=false from rfl,show ((3:Int)==2)=false from rfl,show ((3:Int)==3)=true from rfl,cond_true,Option.bind_some];rcases WLa a with ha | ha
    .rw[ha];cases hp:angP a with
     | none=>rfl
     | some q=>
      simp only[Option.isSome_some,Bool.not_true,cond_false,Option.bind_some,WMa hp hal];rw[j0b 3 a o [] q 0 z (Nat.le_trans (jqa hp) hal) (hr o (by simp)),if_neg (by omega),if_pos rfl];cases optP o notW with
      | none=>rfl
      | some w=>
       simp only[Option.bind_some];cases KHa w <;> rfl
    omega
   | a::b::c::t,_=>
    have e1:(decide ((1:Int)<=(((a::b::c::t).length:Nat):Int)) && decide ((((a::b::c::t).length:Nat):Int)<=2))=false:=by simp;omega
    rw[e1,many3];rfl
  .rw[show idx ([1,1,1,0,1,0,0,0]:List Int) (w64 (4 - 1))=some 0 from by decide,show idx ([1,2,2,0,2,0,0,0]:List Int) (w64 (4 - 1))=some 0 from by decide];simp only[Option.bind_some,low];exact quiet 4 (by omega) _ (fun _=>rfl)
  .rw[show idx ([1,1,1,0,1,0,0,0]:List Int) (w64 (5 - 1))=some 1 from by decide,show idx ([1,2,2,0,2,0,0,0]:List Int) (w64 (5 - 1))=some 2 from by decide];simp only[Option.bind_some,low]
   match r,hr with
   | [],_=>rfl
   | [a],hr=>
    have e2:idx [a] 0=some a:=rfl;have e5:(decide ((1:Int)<=(((([a]:List Str).length:Nat):Int))) && decide ((((([a]:List Str).length:Nat):Int))<=2))=true:=rfl;have hal:=hr a (by simp);rw[e5,e2,ap5];simp only[Bool.not_true,cond_false,show ((5:Int)==1)=false from rfl,show ((5:Int)==2)=false from rfl,show ((5:Int)==3)=false from rfl,show ((5:Int)==5)=true from rfl,cond_true,Option.bind_some,Zva a hal];cases hn:numP a with
    | none=>rfl
    | some m=>
     have hm0:¬((m:Nat):Int) < 0:=by omega
     dsimp only;rw[decide_eq_false hm0];simp only[cond_false];rw[Vaa 5 _ [a] [] [] _ (by simp) z z];rfl
   | [a,o],hr=>
    have e2:idx [a,o] 0=some a:=rfl;have e5:(decide ((1:Int)<=(((([a,o]:List Str).length:Nat):Int))) && decide ((((([a,o]:List Str).length:Nat):Int))<=2))=true:=rfl;have hal:=hr a (by simp);rw[e5,e2,ap55];simp only[Bool.not_true,cond_false,show ((5:Int)==1)=false from rfl,show ((5:Int)==2)=false from rfl,show ((5:Int)==3)=false from rfl,show ((5:Int)==5)=true from rfl,cond_true,Option.bind_some,Zva a hal];cases hn:numP a with
    | none=>rfl
    | some m=>
     have hm0:¬((m:Nat):Int) < 0:=by omega
     dsimp only;rw[decide_eq_false hm0];simp only[cond_false];rw[j0b 5 a o [] [] _ z z (hr o (by simp)),if_neg (by omega),if_neg (by omega),if_pos rfl];simp only[Option.bind_some];by_cases hx:lowP o=kWb
     .rw[if_pos hx,if_pos hx]
     rw[if_neg hx,if_neg hx];rfl
   | a::b::c::t,_=>
    have e1:(decide ((1:Int)<=(((a::b::c::t).length:Nat):Int)) && decide ((((a::b::c::t).length:Nat):Int)<=2))=false:=by simp;omega
    rw[e1,many3];rfl
  .rw[show idx ([1,1,1,0,1,0,0,0]:List Int) (w64 (6 - 1))=some 0 from by decide,show idx ([1,2,2,0,2,0,0,0]:List Int) (w64 (6 - 1))=some 0 from by decide];simp only[Option.bind_some,low];exact quiet 6 (by omega) _ (fun _=>rfl)
  .rw[show idx ([1,1,1,0,1,0,0,0]:List Int) (w64 (7 - 1))=some 0 from by decide,show idx ([1,2,2,0,2,0,0,0]:List Int) (w64 (7 - 1))=some 0 from by decide];simp only[Option.bind_some,low];exact quiet 7 (by omega) _ (fun _=>rfl)
  rw[show idx ([1,1,1,0,1,0,0,0]:List Int) (w64 (8 - 1))=some 0 from by decide,show idx ([1,2,2,0,2,0,0,0]:List Int) (w64 (8 - 1))=some 0 from by decide];simp only[Option.bind_some,low];exact quiet 8 (by omega) _ (fun _=>rfl)
abbrev Ses:=zea
def cv(x:Ses):zda:=⟨x.Server,x.replies,x.mails⟩
def sayS(x:Ses)(code:Int)(l:List Str):Ses:=⟨x.Server,x.replies++ [⟨code,l⟩],x.mails⟩
def abS(x:Ses):Ses:=⟨{x.Server with Mailing:=false,From:=[],To:=[],Data:=[],Lost:=0,Chunked:=false},x.replies,x.mails⟩
def qFa(x:Ses)(c:UInt8):Ses:=if (x.Server.Data.length:Int) < x.Server.Size then ⟨{x.Server with Data:=x.Server.Data++ [c]},x.replies,x.mails⟩ else ⟨{x.Server with Lost:=min (x.Server.Lost+1) 1099511627776},x.replies,x.mails⟩
def idS(s:zja):Str:=s.Name++ [45]++Lib.decDigits (s.Count+1).toNat
def web:Str:=[108,97,114,103,101]
def wfb:Str:=[114,101,102,117,115,101,100]
def Wda:Str:=[111,114,100,101,114]
def okW:Str:=[111,107]
def VUa(x:Ses):Ses:=abS (if 0 < x.Server.Lost then sayS x 552 [web] else if (wUa x.Server.Data).2=false∨x.Server.Count=1000000 then sayS x 554 [wfb]
 else sayS ⟨{x.Server with Count:=x.Server.Count+1},x.replies,x.mails++ [⟨⟨x.Server.From,x.Server.To,idS x.Server⟩,(wUa x.Server.Data).1⟩]⟩ 250 [idS x.Server])
def K5a(x:Ses):Ses:=bif x.Server.Ignore then sayS ⟨{x.Server with Phase:=0,Last:=false,Ignore:=false},x.replies,x.mails⟩ 503 [Wda]
 else bif x.Server.Last then VUa ⟨{x.Server with Phase:=0,Last:=false,Ignore:=false},x.replies,x.mails⟩ else sayS ⟨{x.Server with Phase:=0,Last:=false,Ignore:=false},x.replies,x.mails⟩ 250 [okW]
def addR(x:Ses)(c:zma):List zca:=wea (x.Server.To++ [⟨c.Address,c.Notify⟩])
def k0b(x:Ses)(c:zma):Ses:=bif (!x.Server.Mailing || x.Server.Chunked) then sayS x 503 [Wda] else if x.Server.Many < ((addR x c).length:Int) then sayS x 452 [[109,97,110,121]] else sayS ⟨{x.Server with To:=addR x c},x.replies,x.mails⟩ 250 [okW]
def sizeW' :Str:=[115,105,122,101,32]
def YAa:Str:=[114,101,99,105,112,105,101,110,116,115,32]
def KIa(x:Ses)(c:zma):Ses:=
 if c.Verb=1 then sayS ⟨{(abS x).Server with Greeted:=true},x.replies,x.mails⟩ 250 [x.Server.Name,sizeW' ++Lib.decDigits x.Server.Size.toNat,YAa++Lib.decDigits x.Server.Many.toNat]
 else if c.Verb=2 then (bif (!x.Server.Greeted || x.Server.Mailing) then sayS x 503 [Wda] else if x.Server.Size < c.Size then sayS x 552 [web] else sayS ⟨{x.Server with Mailing:=true,From:=c.Address},x.replies,x.mails⟩ 250 [okW])
 else if c.Verb=3 then k0b x c
 else if c.Verb=4 then (bif (x.Server.To.isEmpty || x.Server.Chunked) then sayS x 503 [Wda] else sayS ⟨{x.Server with Phase:=1},x.replies,x.mails⟩ 354 [[103,111,32,111,110]])
 else if c.Verb=5 then (if c.Size=0 then K5a ⟨{x.Server with Phase:=2,Left:=c.Size,Last:=c.Last,Ignore:=x.Server.To.isEmpty,Chunked:= !x.Server.To.isEmpty},x.replies,x.mails⟩ else ⟨{x.Server with Phase:=2,Left:=c.Size,Last:=c.Last,Ignore:=x.Server.To.isEmpty,Chunked:= !x.Server.To.isEmpty},x.replies,x.mails⟩)
 else if c.Verb=6 then sayS (abS x) 250 [okW]
 else if c.Verb=8 then (sayS ⟨{(abS x).Server with Phase:=3,Buffer:=[]},x.replies,x.mails⟩ 221 [[98,121,101]])
 else sayS x 250 [okW]
def Vba:Str:=[117,110,107,110,111,119,110]
def j1b:Str:=[115,121,110,116,97,120]
def bufS(x:Ses)(b:List UInt8):Ses:=⟨{x.Server with Buffer:=b},x.replies,x.mails⟩
def zRb(x:Ses)(c:UInt8):Ses:=
 if [13,10].isSuffixOf (x.Server.Buffer++ [c]) then
  let r:=yla ((x.Server.Buffer++ [c]).take ((x.Server.Buffer++ [c]).length - 2))
  if r.2.Code=18 then sayS (bufS x []) 500 [Vba] else if r.2.Code=0 then KIa (bufS x []) r.1 else sayS (bufS x []) 501 [j1b]
 else if (x.Server.Buffer++ [c]).length=4002 then sayS ⟨{(abS x).Server with Phase:=3,Buffer:=[]},x.replies,x.mails⟩ 500 [Vba]
 else bufS x (x.Server.Buffer++ [c])
def zSb(x:Ses)(d:Int):Ses:=⟨{x.Server with Dots:=d},x.replies,x.mails⟩
def VVa(x:Ses)(c:UInt8):Ses:=
 if x.Server.Dots=0/\c=46 then zSb x 1
 else if x.Server.Dots=1/\c=13 then zSb x 2
 else if x.Server.Dots=2/\c=10 then VUa ⟨{x.Server with Phase:=0,Dots:=0},x.replies,x.mails⟩
 else zSb (qFa (if x.Server.Dots=2 then qFa x 13 else x) c) (if c=13 then 4 else if c=10/\x.Server.Dots=4 then 0 else 3)
def yEa(x:Ses)(c:UInt8):Ses:=
 if x.Server.Phase=0 then zRb x c else if x.Server.Phase=1 then VVa x c
 else if x.Server.Phase=2 then
  let y:=bif x.Server.Ignore then x else qFa x c;let z:Ses:=⟨{y.Server with Left:=y.Server.Left - 1},y.replies,y.mails⟩
  if z.Server.Left=0 then K5a z else z
 else x
structure SI (x:Ses) (n:Nat):Prop where
 size:1<=x.Server.Size/\x.Server.Size<=12000
 many:1<=x.Server.Many/\x.Server.Many<=60
 name:x.Server.Name.length<=40
 data:(x.Server.Data.length:Int)<=x.Server.Size
 buf:x.Server.Buffer.length<=4001
 tos:x.Server.To.length<=60/\∀r∈x.Server.To,kGa r.Address=true/\kUa r.Notify=true
 lost:0<=x.Server.Lost/\x.Server.Lost<=1099511627776
 count:0<=x.Server.Count/\x.Server.Count<=1000000
 left:x.Server.Phase=2->1<=x.Server.Left/\x.Server.Left<=1000000
 chunk:x.Server.To=[]->x.Server.Chunked=false
 dots:x.Server.Phase≠1->x.Server.Dots=0
 reps:x.replies.length<=n
 mails:x.mails.length<=n
theorem Kia(x:Ses)(code:Int)(l:List Str)(h:x.replies.length<=1000000000):zra x code l=some (sayS x code l):=by
 unfold zra;rw[zYa (by simp;omega)];rfl
theorem y0a(x:Ses)(code:Int)(l:Str)(h:x.replies.length<=1000000000):wda (cv x) code l=some (cv (sayS x code [l])):=by
 unfold wda;rw[zYa (by show x.replies.length+_<=_;simp;omega)];rfl
theorem ab_eq(x:Ses):zZa x=some (abS x):=rfl
theorem zTb(x:Ses):vAa (cv x)=some (cv (abS x)):=rfl
theorem j2b(x:Ses)(c:UInt8){n:Nat}(h:SI x n):kca x c=some (qFa x c):=by
 have h1:=h.size;have h2:=h.data;have h3:=h.lost;unfold kca qFa;by_cases hd:(x.Server.Data.length:Int) < x.Server.Size
 .rw[if_pos hd,decide_eq_true hd];simp only[cond_true];rw[zYa (by simp;omega)];rfl
 rw[if_neg hd,decide_eq_false hd];simp only[cond_false];rw[qsa (by omega) (by omega)]
theorem vkb(x:Ses)(c:UInt8){n:Nat}(h:SI x n):Qua (cv x) c=some (cv (qFa x c)):=by
 have h1:=h.size;have h2:=h.data;have h3:=h.lost;unfold Qua qFa cv;dsimp only;by_cases hd:(x.Server.Data.length:Int) < x.Server.Size
 .rw[if_pos hd,decide_eq_true hd];simp only[cond_true];rw[zYa (by simp;omega)];rfl
 rw[if_neg hd,decide_eq_false hd];simp only[cond_false];by_cases hl:x.Server.Lost < 1099511627776
 .rw[decide_eq_true hl,qsa (by omega) (by omega),show min (x.Server.Lost+1) 1099511627776=x.Server.Lost+1 by omega];rfl
 rw[decide_eq_false hl,show min (x.Server.Lost+1) 1099511627776=x.Server.Lost by omega];rfl
theorem Zya{x:Ses}{n:Nat}(h:SI x n)(c:UInt8):SI (qFa x c) n:=by
 obtain ⟨a1,a2,a3,a4,a5,a6,a7,a8,a9,a10,a11,a12,a13⟩:=h;unfold qFa;split
 .exact ⟨a1,a2,a3,by simp;omega,a5,a6,a7,a8,a9,a10,a11,a12,a13⟩
 exact ⟨a1,a2,a3,a4,a5,a6,⟨by show 0<=min _ _;omega,by show min _ _<=_;omega⟩,a8,a9,a10,a11,a12,a13⟩
theorem JIa{α:Type}{lim:Nat}(l:List α)(h:l.length<=lim):(nilE l.isEmpty (some ([]:List α)) ((app lim ([]:List α) l).bind fun v=>some v))=some l:=by
 rw[yXb]
 .rw[zYa (by simpa using h)];rfl
 intro he;have:=List.isEmpty_iff.1 he;subst this;rw[zYa (by simp)];rfl
theorem YBa(l:List zca)(h:l.length<=1048576):zta l=some l:=JIa l (by omega)
theorem YCa(l:List UInt8)(h:l.length<=1048576):kza l=some l:=JIa l (by omega)
theorem Wea{c:Int}(h:0<=c/\c<=1000000):kba (w64 (c+1))=some (Lib.decDigits (c+1).toNat)/\Zla (w64 (c+1))=some (Lib.decDigits (c+1).toNat):=by
 have e:w64 (c+1)=(((c+1).toNat:Nat):Int):=by rw[qsa (by omega) (by omega)];omega
 rw[e,Kda _ (by omega),Ypa _ (by omega)];simp
theorem j7a{n:Nat}(h:n<=1000001):(Lib.decDigits n).length<=7:=Q5a 6 n (by omega)
theorem j3b(x:Ses){n:Nat}(h:SI x n)(hn:n<=1000000):z5a x=some (VUa x):=by
 obtain ⟨f,hf,hc⟩:=Yoa x.Server.Data (by have:=h.size;have:=h.data;omega);have h1:=h.reps;have h2:=h.mails;have h3:=h.name;have h4:=h.tos.1;have h5:=h.count;unfold z5a VUa;rw[hf];simp only[Option.bind_some];by_cases hl:0 < x.Server.Lost
 .rw[if_pos hl,decide_eq_true hl];simp only[cond_true];rw[Kia _ _ _ (by omega)];rfl
 rw[if_neg hl,decide_eq_false hl];simp only[cond_false,kia,Option.bind_some];rw[hc];have e:(bif (!(wUa x.Server.Data).2) then some true else some (x.Server.Count==1000000))=some (decide ((wUa x.Server.Data).2=false∨x.Server.Count=1000000)):=by
  cases (wUa x.Server.Data).2 with
  | false=>simp
  | true=>
   simp only[Bool.not_true,cond_false,Option.some.injEq];rw[Bool.eq_iff_iff];simp
 rw[e];simp only[Option.bind_some];by_cases hr:(wUa x.Server.Data).2=false∨x.Server.Count=1000000
 .rw[if_pos hr,decide_eq_true hr];simp only[cond_true];rw[Kia _ _ _ (by omega)];rfl
 rw[if_neg hr,decide_eq_false hr];simp only[cond_false];rw[wxa (by simp;omega)];simp only[Option.bind_some];rw[(Wea h5).1];simp only[Option.bind_some];have:=j7a (n:=(x.Server.Count+1).toNat) (by omega);rw[wxa (by simp;omega)];simp only[Option.bind_some];rw[YBa _ (by omega)];simp only[Option.bind_some];rw[zYa (by simp;omega)];simp only[Option.bind_some];rw[qsa (by omega) (by omega),Kia _ _ _ (by show x.replies.length<=_;omega)];rfl
theorem JJa(x:Ses){n:Nat}(h:SI x n)(hn:n<=1000000):Zoa (cv x)=some (cv (VUa x)):=by
 have hf:=Y5a x.Server.Data (by have:=h.size;have:=h.data;omega);have h1:=h.reps;have h2:=h.mails;have h3:=h.name;have h4:=h.tos.1;have h5:=h.count;unfold Zoa VUa;rw[show (cv x).S=x.Server from rfl,show (cv x).Mails=x.mails from rfl,show (cv x).Replies=x.replies from rfl,hf];simp only[Option.bind_some];by_cases hl:0 < x.Server.Lost
 .rw[if_pos hl,decide_eq_true hl];simp only[cond_true];rw[show ([108,97,114,103,101]:Str)=web from rfl,y0a _ _ _ (by omega)];rfl
 rw[if_neg hl,decide_eq_false hl];simp only[cond_false];have e:(bif (!(wUa x.Server.Data).2) then some true else some (x.Server.Count==1000000))=some (decide ((wUa x.Server.Data).2=false∨x.Server.Count=1000000)):=by
  cases (wUa x.Server.Data).2 with
  | false=>simp
  | true=>
   simp only[Bool.not_true,cond_false,Option.some.injEq];rw[Bool.eq_iff_iff];simp
 rw[e];simp only[Option.bind_some];by_cases hr:(wUa x.Server.Data).2=false∨x.Server.Count=1000000
 .rw[if_pos hr,decide_eq_true hr];simp only[cond_true];rw[show ([114,101,102,117,115,101,100]:Str)=wfb from rfl,y0a _ _ _ (by omega)];rfl
 rw[if_neg hr,decide_eq_false hr];simp only[cond_false];rw[wxa (by simp;omega)];simp only[Option.bind_some];rw[(Wea h5).2];simp only[Option.bind_some];have:=j7a (n:=(x.Server.Count+1).toNat) (by omega);rw[wxa (by simp;omega)];simp only[Option.bind_some];rw[zYa (by simp;omega)];simp only[Option.bind_some];rw[qsa (by omega) (by omega)];exact (congrArg (fun o=>o.bind fun v23=>(vAa v23).bind fun v25=>some v25) (y0a ⟨{x.Server with Count:=x.Server.Count+1},x.replies,x.mails++ [⟨⟨x.Server.From,x.Server.To,idS x.Server⟩,(wUa x.Server.Data).1⟩]⟩ 250 (idS x.Server) (by show x.replies.length<=_;omega))).trans rfl
theorem wgb:∀(l:List zca) (n:Int),kUa n=true->(∀r∈l,kUa r.Notify=true)->kUa (orL n l)=true
 | [],n,h,_=>h
 | r::l,n,h,hl=>wgb l (iOr n r.Notify) (jEb h (hl r (by simp))).2 fun x hx=>hl x (by simp[hx])
theorem Wfa:∀(n:Nat) (l:List zca),(∀r∈l,kGa r.Address=true/\kUa r.Notify=true)->(j4a n l).length<=l.length/\∀r∈j4a n l,kGa r.Address=true/\kUa r.Notify=true
 | 0,l,_=>by simp[j4a]
 | n+1,[],_=>by simp[j4a]
 | n+1,r::t,h=>by
  obtain ⟨h1,h2⟩:=Wfa n (t.filter fun x=> !z7a r.Address x) fun x hx=>h x (by simp[(List.mem_filter.1 hx).1])
  have h3:=List.length_filter_le (fun x=> !z7a r.Address x) t;unfold j4a;refine ⟨by simp only[List.length_cons];omega,fun x hx=>?_⟩;rcases List.mem_cons.1 hx with rfl | hx
  .exact ⟨(h r (by simp)).1,wgb _ _ (h r (by simp)).2 fun y hy=>(h y (by simp[(List.mem_filter.1 hy).1])).2⟩
  exact h2 x hx
theorem k1b{l:List zca}(h:∀r∈l,kGa r.Address=true/\kUa r.Notify=true):(wea l).length<=l.length/\∀r∈wea l,kGa r.Address=true/\kUa r.Notify=true:=Wfa l.length l h
theorem j4b{l:List zca}(h:l≠ []):wea l≠ []:=by
 cases l with
 | nil=>exact absurd rfl h
 | cons r t=>rw[Zta];simp
theorem j5b{l:List zca}(h:∀r∈l,kGa r.Address=true/\kUa r.Notify=true)(hl:l.length<=300):v7b l=(wea l,⟨0,0⟩):=by
 unfold v7b;rw[if_neg (by omega)];have:zFa mq 0 l=none:=v6a.2 fun i x hx=>by
  obtain ⟨h1,h2⟩:=h x (List.mem_of_getElem? hx);unfold mq;rw[h1,h2];rfl
 rw[this]
theorem ydb{l:List zca}(h:∀r∈l,kGa r.Address=true/\kUa r.Notify=true)(hl:l.length<=1048576):Jta l:=⟨hl,fun r hr=>by have:=Zxa (h r hr).1;omega⟩
theorem whb{s:Str}(h:(yla s).2.Code=0):zPb (yla s).1:=by
 unfold yla at h ⊢;split at h
 .exact absurd h (by decide)
 rename_i h1;rw[if_neg h1];split at h
 .exact absurd h (by decide)
 rename_i h2;rw[if_neg h2];cases hc:vBa (kXb (vma s)) ((vma s).drop 1) with
 | none=>rw[hc]at h;exact absurd h (by decide)
 | some c=>
  rw[hc]at h;have h:(finP c).2.Code=0:=h;show zPb (finP c).1;unfold finP at h ⊢;by_cases hz:(cmdF c).Code=0
  .rw[hz];exact (jUb hz).1
  rw[bne_iff_ne.2 hz]at h;exact absurd h hz
theorem qOa{x:Ses}{n:Nat}(h:SI x n)(code:Int)(l:List Str):SI (sayS x code l) (n+1):=by
 obtain ⟨a1,a2,a3,a4,a5,a6,a7,a8,a9,a10,a11,a12,a13⟩:=h;exact ⟨a1,a2,a3,a4,a5,a6,a7,a8,a9,a10,a11,by show (x.replies++_).length<=_;simp;omega,by show x.mails.length<=_;omega⟩
theorem k2b{x:Ses}{n:Nat}(h:SI x n):SI (abS x) n:=by
 obtain ⟨a1,a2,a3,a4,a5,a6,a7,a8,a9,a10,a11,a12,a13⟩:=h;exact ⟨a1,a2,a3,by show ((0:Nat):Int)<=x.Server.Size;omega,a5,⟨by simp[abS],fun r hr=>by simp[abS]at hr⟩,⟨by show (0:Int)<=0;omega,by show (0:Int)<=_;omega⟩,a8,a9,fun _=>rfl,a11,a12,a13⟩
theorem SI.up{x:Ses}{n:Nat}(h:SI x n):SI x (n+1):=by
 obtain ⟨a1,a2,a3,a4,a5,a6,a7,a8,a9,a10,a11,a12,a13⟩:=h;exact ⟨a1,a2,a3,a4,a5,a6,a7,a8,a9,a10,a11,by omega,by omega⟩
theorem wib{x:Ses}{n:Nat}(h:SI x n):SI (VUa x) (n+1):=by
 unfold VUa;refine k2b ?_;split
 .exact qOa h _ _
 split
 .exact qOa h _ _
 rename_i hr;obtain ⟨a1,a2,a3,a4,a5,a6,a7,a8,a9,a10,a11,a12,a13⟩:=h;have hc:x.Server.Count≠1000000:=fun e=>hr (.inr e)
 exact ⟨a1,a2,a3,a4,a5,a6,a7,⟨by show 0<=x.Server.Count+1;omega,by show x.Server.Count+1<=_;omega⟩,a9,a10,a11,by show (x.replies++_).length<=_;simp;omega,by show (x.mails++_).length<=_;simp;omega⟩
theorem k3b{x:Ses}{n:Nat}(h:SI x n)(hd:x.Server.Dots=0):SI ⟨{x.Server with Phase:=0,Last:=false,Ignore:=false},x.replies,x.mails⟩ n:=by
 obtain ⟨a1,a2,a3,a4,a5,a6,a7,a8,a9,a10,a11,a12,a13⟩:=h;exact ⟨a1,a2,a3,a4,a5,a6,a7,a8,fun e=>absurd (show (0:Int)=2 from e) (by decide),a10,fun _=>hd,a12,a13⟩
theorem wjb(x:Ses){n:Nat}(h:SI {x with Server:={x.Server with Phase:=0}} n)(hn:n<=1000000):kea x=some (K5a x)/\Zpa (cv x)=some (cv (K5a x)):=by
 have hd:x.Server.Dots=0:=h.dots (by show (0:Int)≠1;decide);have h' :=k3b h hd;have hr:=h.reps;have hr:x.replies.length<=n:=hr;unfold kea Zpa K5a;rw[show (cv x).S=x.Server from rfl,show (cv x).Mails=x.mails from rfl,show (cv x).Replies=x.replies from rfl];cases x.Server.Ignore with
 | true=>
  simp only[cond_true];rw[Kia _ _ _ (by show x.replies.length<=_;omega)];exact ⟨rfl,(congrArg (fun o=>o.bind fun v=>some v) (y0a ⟨{x.Server with Phase:=0,Last:=false,Ignore:=false},x.replies,x.mails⟩ 503 Wda (by show x.replies.length<=_;omega))).trans rfl⟩
 | false=>
  cases x.Server.Last with
  | true=>
   simp only[cond_true,cond_false];refine ⟨?_,?_⟩
   .exact (congrArg (fun o=>o.bind fun v=>some v) (j3b ⟨{x.Server with Phase:=0,Last:=false,Ignore:=false},x.replies,x.mails⟩ h' hn)).trans rfl
   exact (congrArg (fun o=>o.bind fun v=>some v) (JJa ⟨{x.Server with Phase:=0,Last:=false,Ignore:=false},x.replies,x.mails⟩ h' hn)).trans rfl
  | false=>
   simp only[cond_false];rw[Kia _ _ _ (by show x.replies.length<=_;omega)];exact ⟨rfl,(congrArg (fun o=>o.bind fun v=>some v) (y0a ⟨{x.Server with Phase:=0,Last:=false,Ignore:=false},x.replies,x.mails⟩ 250 okW (by show x.replies.length<=_;omega))).trans rfl⟩
theorem YDa{x:Ses}{n:Nat}(h:SI x n){c:zma}(ok:zPb c)(hv:c.Verb=3):∀r∈x.Server.To++ [(⟨c.Address,c.Notify⟩:zca)],kGa r.Address=true/\kUa r.Notify=true:=by
 intro r hr;rcases List.mem_append.1 hr with hr | hr
 .exact h.tos.2 r hr
 rw[List.mem_singleton]at hr;subst hr;refine ⟨ok.addr (.inl hv),?_⟩;have:=ok.note;show kUa c.Notify=true;unfold kUa;rw[decide_eq_true this.1,decide_eq_true this.2];rfl
theorem rcpt_eq(x:Ses){n:Nat}(h:SI x n)(hn:n<=1000000){c:zma}(ok:zPb c)(hv:c.Verb=3):koa x c=some (k0b x c):=by
 have hl:=YDa h ok hv;have h60:=h.tos.1;have hr:=h.reps;have hlen:(x.Server.To++ [(⟨c.Address,c.Notify⟩:zca)]).length<=61:=by simp;omega
 unfold koa k0b;rw[YBa _ (by omega)];simp only[Option.bind_some];rw[zYa (by simp;omega)];simp only[Option.bind_some];rw[VLa _ (ydb hl (by omega)),j5b hl (by omega)];simp only[Option.bind_some];have e:(bif (!x.Server.Mailing) then some true else some x.Server.Chunked)=some (!x.Server.Mailing || x.Server.Chunked):=by cases x.Server.Mailing <;> rfl
 rw[e];simp only[Option.bind_some];cases !x.Server.Mailing || x.Server.Chunked with
 | true=>
  simp only[cond_true];rw[Kia _ _ _ (by omega)];rfl
 | false=>
  simp only[cond_false];unfold addR;by_cases hm:x.Server.Many < ((wea (x.Server.To++ [⟨c.Address,c.Notify⟩])).length:Int)
  .rw[if_pos hm,decide_eq_true hm];simp only[cond_true];rw[Kia _ _ _ (by omega)];rfl
  rw[if_neg hm,decide_eq_false hm];simp only[cond_false];rw[Kia _ _ _ (by show x.replies.length<=_;omega)];rfl
theorem rcptS_si{x:Ses}{n:Nat}(h:SI x n){c:zma}(ok:zPb c)(hv:c.Verb=3):SI (k0b x c) (n+1):=by
 have hl:=YDa h ok hv;obtain ⟨h1,h2⟩:=k1b hl;have h3:=j4b (l:=x.Server.To++ [(⟨c.Address,c.Notify⟩:zca)]) (by simp);unfold k0b;cases !x.Server.Mailing || x.Server.Chunked with
 | true=>exact qOa h _ _
 | false=>
  simp only[cond_false];split
  .exact qOa h _ _
  rename_i hm;refine qOa ?_ _ _;obtain ⟨a1,a2,a3,a4,a5,a6,a7,a8,a9,a10,a11,a12,a13⟩:=h;exact ⟨a1,a2,a3,a4,a5,⟨by show (addR x c).length<=60;omega,h2⟩,a7,a8,a9,fun e=>absurd e h3,a11,a12,a13⟩
theorem JKa{c:Int}(h:0<=c/\c<=1000000):kba c=some (Lib.decDigits c.toNat)/\Zla c=some (Lib.decDigits c.toNat):=by
 obtain ⟨k,rfl⟩:∃k:Nat,c=(k:Int):=⟨c.toNat,by omega⟩;rw[Kda _ (by omega),Ypa _ (by omega),Int.toNat_natCast];exact ⟨rfl,rfl⟩
theorem vVa(x:Ses)(code:Int)(l:List Str)(h:x.replies.length<=1000000000):(zra x code l).bind (fun v=>some v)=some (sayS x code l):=by rw[Kia x code l h];rfl
theorem q0a(x:Ses)(code:Int)(l:Str)(h:x.replies.length<=1000000000):(wda (cv x) code l).bind (fun v=>some v)=some (cv (sayS x code [l])):=by rw[y0a x code l h];rfl
theorem k1_eq(x:Ses)(h:x.replies.length<=1000000000):wwa (cv x)=some (cv (sayS x 250 [okW])):=q0a x 250 okW h
theorem k4b{x:Ses}{n:Nat}(h:SI x n)(hd:x.Server.Dots=0)(c:zma):SI ⟨{x.Server with Phase:=0,Left:=c.Size,Last:=c.Last,Ignore:=x.Server.To.isEmpty,Chunked:= !x.Server.To.isEmpty},x.replies,x.mails⟩ n:=by
 obtain ⟨a1,a2,a3,a4,a5,a6,a7,a8,a9,a10,a11,a12,a13⟩:=h;exact ⟨a1,a2,a3,a4,a5,a6,a7,a8,fun e=>absurd (show (0:Int)=2 from e) (by decide),fun e=>by
  have e:x.Server.To=[]:=e;show (!x.Server.To.isEmpty)=false;rw[e];rfl,fun _=>hd,a12,a13⟩
theorem Vca(l:List zca):((l.length:Int)==0)=l.isEmpty:=by cases l <;> simp;omega
theorem exec_eq(x:Ses){n:Nat}(h:SI x n)(hn:n<=1000000)(hp:x.Server.Phase=0)(hb:x.Server.Buffer=[]){c:zma}(ok:zPb c):kAa x c=some (KIa x c)/\VGa (cv x) c=some (cv (KIa x c)):=by
 have hr:=h.reps;have hv:=ok.verb;have hname:=h.name;have hd:x.Server.Dots=0:=h.dots (by rw[hp];decide);unfold kAa VGa KIa;rw[show (cv x).S=x.Server from rfl,show (cv x).Mails=x.mails from rfl,show (cv x).Replies=x.replies from rfl];by_cases h1:c.Verb=1
 .rw[if_pos h1,h1];simp only[show ((1:Int)==1)=true from rfl,cond_true,ab_eq,zTb,Option.bind_some];have hs:=JKa (c:=x.Server.Size) (by have:=h.size;omega);have hm:=JKa (c:=x.Server.Many) (by have:=h.many;omega);have l1:=j7a (n:=x.Server.Size.toNat) (by have:=h.size;omega);have l2:=j7a (n:=x.Server.Many.toNat) (by have:=h.many;omega);rw[show (abS x).Server.Size=x.Server.Size from rfl,show (abS x).Server.Many=x.Server.Many from rfl,show (cv (abS x)).S.Size=x.Server.Size from rfl,show (cv (abS x)).S.Many=x.Server.Many from rfl,hs.1,hs.2,hm.1,hm.2];simp only[Option.bind_some];rw[wxa (show ([115,105,122,101,32]:Str).length+_<=_ by simp;omega),wxa (show ([114,101,99,105,112,105,101,110,116,115,32]:Str).length+_<=_ by simp;omega)];simp only[Option.bind_some];refine ⟨vVa ⟨{(abS x).Server with Greeted:=true},x.replies,x.mails⟩ 250 _ (by show x.replies.length<=_;omega),?_⟩;rw[zYa (by show x.replies.length+_<=_;simp;omega)];rfl
 rw[if_neg h1,beq_eq_false_iff_ne.2 h1];simp only[cond_false];by_cases h2:c.Verb=2
 .rw[if_pos h2,h2];simp only[show ((2:Int)==2)=true from rfl,cond_true];have e:(bif (!x.Server.Greeted) then some true else some x.Server.Mailing)=some (!x.Server.Greeted || x.Server.Mailing):=by cases x.Server.Greeted <;> rfl
  rw[e];simp only[Option.bind_some];cases !x.Server.Greeted || x.Server.Mailing with
  | true=>
   simp only[cond_true];exact ⟨vVa x 503 _ (by omega),q0a x 503 Wda (by omega)⟩
  | false=>
   simp only[cond_false];by_cases hs:x.Server.Size < c.Size
   .rw[if_pos hs,decide_eq_true hs];simp only[cond_true];exact ⟨vVa x 552 _ (by omega),q0a x 552 web (by omega)⟩
   rw[if_neg hs,decide_eq_false hs];simp only[cond_false];exact ⟨vVa ⟨{x.Server with Mailing:=true,From:=c.Address},x.replies,x.mails⟩ 250 _ (by show x.replies.length<=_;omega),k1_eq ⟨{x.Server with Mailing:=true,From:=c.Address},x.replies,x.mails⟩ (by show x.replies.length<=_;omega)⟩
 rw[if_neg h2,beq_eq_false_iff_ne.2 h2];simp only[cond_false];by_cases h3:c.Verb=3
 .rw[if_pos h3,h3];simp only[show ((3:Int)==3)=true from rfl,cond_true];refine ⟨by rw[rcpt_eq x h hn ok h3];rfl,?_⟩;have hl:=YDa h ok h3;have h60:=h.tos.1;have e:(bif (!x.Server.Mailing) then some true else some x.Server.Chunked)=some (!x.Server.Mailing || x.Server.Chunked):=by cases x.Server.Mailing <;> rfl
  rw[e];unfold k0b;simp only[Option.bind_some];cases !x.Server.Mailing || x.Server.Chunked with
  | true=>
   simp only[cond_true];exact q0a x 503 Wda (by omega)
  | false=>
   simp only[cond_false];rw[zYa (by simp;omega)];simp only[Option.bind_some,List.nil_append];rw[zYa (by simp;omega)];simp only[Option.bind_some];rw[vgb _ (by simp;omega) (fun r hr=>(hl r hr).2)];simp only[Option.bind_some];unfold addR;by_cases hm:x.Server.Many < ((wea (x.Server.To++ [⟨c.Address,c.Notify⟩])).length:Int)
   .rw[if_pos hm,decide_eq_true hm];simp only[cond_true];exact q0a x 452 [109,97,110,121] (by omega)
   rw[if_neg hm,decide_eq_false hm];simp only[cond_false];exact k1_eq ⟨{x.Server with To:=wea (x.Server.To++ [⟨c.Address,c.Notify⟩])},x.replies,x.mails⟩ (by show x.replies.length<=_;omega)
 rw[if_neg h3,beq_eq_false_iff_ne.2 h3];simp only[cond_false];by_cases h4:c.Verb=4
 .rw[if_pos h4,h4];simp only[show ((4:Int)==4)=true from rfl,cond_true];have e:(bif ((x.Server.To.length:Int)==0) then some true else some x.Server.Chunked)=some (x.Server.To.isEmpty || x.Server.Chunked):=by rw[Vca];cases x.Server.To.isEmpty <;> rfl
  rw[e];simp only[Option.bind_some];cases x.Server.To.isEmpty || x.Server.Chunked with
  | true=>
   simp only[cond_true];exact ⟨vVa x 503 _ (by omega),q0a x 503 Wda (by omega)⟩
  | false=>
   simp only[cond_false];refine ⟨vVa ⟨{x.Server with Phase:=1},x.replies,x.mails⟩ 354 _ (by show x.replies.length<=_;omega),?_⟩;have:=q0a ⟨{x.Server with Phase:=1},x.replies,x.mails⟩ 354 [103,111,32,111,110] (by show x.replies.length<=_;omega);rw[<-this];have e0:cv ⟨{x.Server with Phase:=1},x.replies,x.mails⟩=⟨{x.Server with Phase:=1,Dots:=0},x.replies,x.mails⟩:=by unfold cv;rw[<-hd]
   rw[e0]
 rw[if_neg h4,beq_eq_false_iff_ne.2 h4];simp only[cond_false];by_cases h5:c.Verb=5
 .rw[if_pos h5,h5];simp only[show ((5:Int)==5)=true from rfl,cond_true];rw[Vca];have e:(bif !x.Server.To.isEmpty then some (⟨⟨x.Server.Name,x.Server.Size,x.Server.Many,2,x.Server.Greeted,x.Server.Mailing,x.Server.From,x.Server.To,x.Server.Buffer,x.Server.Data,x.Server.Lost,x.Server.Dots,true,c.Size,c.Last,x.Server.To.isEmpty,x.Server.Count⟩,x.replies,x.mails⟩:zda)
   else some ⟨⟨x.Server.Name,x.Server.Size,x.Server.Many,2,x.Server.Greeted,x.Server.Mailing,x.Server.From,x.Server.To,x.Server.Buffer,x.Server.Data,x.Server.Lost,x.Server.Dots,x.Server.Chunked,c.Size,c.Last,x.Server.To.isEmpty,x.Server.Count⟩,x.replies,x.mails⟩)=
   some (cv ⟨{x.Server with Phase:=2,Left:=c.Size,Last:=c.Last,Ignore:=x.Server.To.isEmpty,Chunked:= !x.Server.To.isEmpty},x.replies,x.mails⟩):=by
   cases he:x.Server.To.isEmpty with
   | true=>
    have hc:=h.chunk (List.isEmpty_iff.1 he);simp only[Bool.not_true,cond_false];rw[hc];rfl
   | false=>rfl
  rw[e];simp only[Option.bind_some];by_cases hz:c.Size=0
  .rw[if_pos hz,hz];simp only[show ((0:Int)==0)=true from rfl,cond_true];obtain ⟨e1,e2⟩:=wjb ⟨{x.Server with Phase:=2,Left:=c.Size,Last:=c.Last,Ignore:=x.Server.To.isEmpty,Chunked:= !x.Server.To.isEmpty},x.replies,x.mails⟩ (k4b h hd c) hn;rw[hz]at e1 e2;exact ⟨(congrArg (fun o=>o.bind fun v=>some v) e1).trans rfl,(congrArg (fun o=>o.bind fun v=>some v) e2).trans rfl⟩
  rw[if_neg hz,beq_eq_false_iff_ne.2 hz];exact ⟨rfl,rfl⟩
 rw[if_neg h5,beq_eq_false_iff_ne.2 h5];simp only[cond_false];by_cases h6:c.Verb=6
 .rw[if_pos h6,h6];simp only[show ((6:Int)==6)=true from rfl,cond_true,ab_eq,zTb,Option.bind_some];exact ⟨vVa (abS x) 250 _ (by show x.replies.length<=_;omega),k1_eq (abS x) (by show x.replies.length<=_;omega)⟩
 rw[if_neg h6,beq_eq_false_iff_ne.2 h6];simp only[cond_false];by_cases h8:c.Verb=8
 .rw[if_pos h8,h8];simp only[show ((8:Int)==7)=false from rfl,show ((8:Int)==8)=true from rfl,cond_true,cond_false,zTb,Option.bind_some];refine ⟨?_,?_⟩
  .rw[Kia x 221 _ (by omega)];rfl
  have e0:(⟨{(abS x).Server with Phase:=3},x.replies,x.mails⟩:zda)=cv ⟨{(abS x).Server with Phase:=3,Buffer:=[]},x.replies,x.mails⟩:=by
   unfold cv abS;simp only[hb]
  exact (congrArg (fun s=>(wda s 221 [98,121,101]).bind fun v=>some v) e0).trans (q0a ⟨{(abS x).Server with Phase:=3,Buffer:=[]},x.replies,x.mails⟩ 221 [98,121,101] (by show x.replies.length<=_;omega))
 rw[if_neg h8,beq_eq_false_iff_ne.2 h8];have h7:c.Verb=7:=by omega
 rw[h7];simp only[show ((7:Int)==7)=true from rfl,cond_true,cond_false];exact ⟨vVa x 250 _ (by omega),k1_eq x (by omega)⟩
theorem JLa{x:Ses}{n:Nat}(h:SI ⟨{x.Server with Phase:=0},x.replies,x.mails⟩ n)(hd:x.Server.Dots=0):SI (K5a x) (n+1):=by
 have h0:SI ⟨{x.Server with Phase:=0,Last:=false,Ignore:=false},x.replies,x.mails⟩ n:=k3b (x:=⟨{x.Server with Phase:=0},x.replies,x.mails⟩) h hd;unfold K5a;cases x.Server.Ignore with
 | true=>exact qOa h0 _ _
 | false=>
  cases x.Server.Last with
  | true=>exact wib h0
  | false=>exact qOa h0 _ _
theorem execS_si{x:Ses}{n:Nat}(h:SI x n)(hp:x.Server.Phase=0){c:zma}(ok:zPb c):SI (KIa x c) (n+1):=by
 have hd:x.Server.Dots=0:=h.dots (by rw[hp];decide);have hv:=ok.verb;have hs:=ok.size;unfold KIa;by_cases h1:c.Verb=1
 .rw[if_pos h1];refine qOa ?_ _ _;obtain ⟨a1,a2,a3,a4,a5,a6,a7,a8,a9,a10,a11,a12,a13⟩:=k2b h;exact ⟨a1,a2,a3,a4,a5,a6,a7,a8,a9,a10,a11,a12,a13⟩
 rw[if_neg h1];by_cases h2:c.Verb=2
 .rw[if_pos h2];cases !x.Server.Greeted || x.Server.Mailing with
  | true=>exact qOa h _ _
  | false=>
   simp only[cond_false];split
   .exact qOa h _ _
   refine qOa ?_ _ _;obtain ⟨a1,a2,a3,a4,a5,a6,a7,a8,a9,a10,a11,a12,a13⟩:=h;exact ⟨a1,a2,a3,a4,a5,a6,a7,a8,a9,a10,a11,a12,a13⟩
 rw[if_neg h2];by_cases h3:c.Verb=3
 .rw[if_pos h3];exact rcptS_si h ok h3
 rw[if_neg h3];by_cases h4:c.Verb=4
 .rw[if_pos h4];cases x.Server.To.isEmpty || x.Server.Chunked with
  | true=>exact qOa h _ _
  | false=>
   refine qOa ?_ _ _;obtain ⟨a1,a2,a3,a4,a5,a6,a7,a8,a9,a10,a11,a12,a13⟩:=h;exact ⟨a1,a2,a3,a4,a5,a6,a7,a8,fun e=>absurd (show (1:Int)=2 from e) (by decide),a10,fun _=>hd,a12,a13⟩
 rw[if_neg h4];by_cases h5:c.Verb=5
 .rw[if_pos h5];by_cases hz:c.Size=0
  .rw[if_pos hz];have hq:=k4b h hd c;exact JLa (x:=⟨{x.Server with Phase:=2,Left:=c.Size,Last:=c.Last,Ignore:=x.Server.To.isEmpty,Chunked:= !x.Server.To.isEmpty},x.replies,x.mails⟩) hq hd
  rw[if_neg hz];have h' :=h.up;obtain ⟨a1,a2,a3,a4,a5,a6,a7,a8,a9,a10,a11,a12,a13⟩:=h';exact ⟨a1,a2,a3,a4,a5,a6,a7,a8,fun _=>⟨by show 1<=c.Size;omega,hs.2⟩,fun e=>by
   have e:x.Server.To=[]:=e;show (!x.Server.To.isEmpty)=false;rw[e];rfl,fun _=>hd,a12,a13⟩
 rw[if_neg h5];by_cases h6:c.Verb=6
 .rw[if_pos h6];exact qOa (k2b h) _ _
 rw[if_neg h6];by_cases h8:c.Verb=8
 .rw[if_pos h8];refine qOa ?_ _ _;obtain ⟨a1,a2,a3,a4,a5,a6,a7,a8,a9,a10,a11,a12,a13⟩:=k2b h;exact ⟨a1,a2,a3,a4,by show (0:Nat)<=4001;omega,a6,a7,a8,fun e=>absurd (show (3:Int)=2 from e) (by decide),a10,fun _=>hd,a12,a13⟩
 rw[if_neg h8];exact qOa h _ _
theorem suff_two(l:List UInt8)(c:UInt8): [13,10].isSuffixOf (l++ [c])=(decide (2<=(l++ [c]).length) && (((l++ [c])[(l++ [c]).length - 2]?).elim false (· ==13) && c==10)):=by
 rcases List.eq_nil_or_concat l with rfl | ⟨p,y,rfl⟩
 .have h1:([13,10]:List UInt8).isSuffixOf ([]++ [c])=false:=by
   rw[Bool.eq_false_iff];intro h;have:=(List.isSuffixOf_iff_suffix.1 h).length_le;simp at this
  rw[h1];rfl
 rw[List.concat_eq_append,Bool.eq_iff_iff,List.isSuffixOf_iff_suffix];have e1:(p++ [y]++ [c]).length - 2=p.length:=by simp
 rw[e1];have e2:(p++ [y]++ [c])[p.length]? =some y:=by simp
 rw[e2];simp only[Option.elim_some,Bool.and_eq_true,beq_iff_eq,decide_eq_true_eq];constructor
 .rintro ⟨t,ht⟩;rw[show p++ [y]++ [c]=p++ [y,c] by simp]at ht;have:=(List.append_inj' ht rfl).2;simp at this;exact ⟨by simp,this.1.symm,this.2.symm⟩
 rintro ⟨_,rfl,rfl⟩;exact ⟨p,by simp⟩
theorem vlb{x:Ses}{n:Nat}(h:SI x n){b:List UInt8}(hb:b.length<=4001):SI (bufS x b) n:=by
 obtain ⟨a1,a2,a3,a4,a5,a6,a7,a8,a9,a10,a11,a12,a13⟩:=h;exact ⟨a1,a2,a3,a4,hb,a6,a7,a8,a9,a10,a11,a12,a13⟩
theorem line_eq(x:Ses){n:Nat}(h:SI x n)(hn:n<=1000000)(hp:x.Server.Phase=0)(c:UInt8):k3a x c=some (zRb x c)/\Qta (cv x) c=some (cv (zRb x c)):=by
 have hr:=h.reps;have hb:=h.buf;have h0:=vlb h (b:=[]) (by simp);have hlen:(x.Server.Buffer++ [c]).length=x.Server.Buffer.length+1:=by simp
 unfold k3a Qta zRb;rw[show (cv x).S=x.Server from rfl,show (cv x).Mails=x.mails from rfl,show (cv x).Replies=x.replies from rfl];rw[zYa (show x.Server.Buffer.length+ [c].length<=140737488355328 by simp;omega),zYa (show ([]:List UInt8).length+x.Server.Buffer.length<=140737488355328 by simp;omega)];simp only[Option.bind_some,List.nil_append];rw[zYa (show x.Server.Buffer.length+ [c].length<=140737488355328 by simp;omega)];simp only[Option.bind_some];unfold qDa;rw[joa _ _ (by omega)];simp only[Option.bind_some];have eR:(bif decide ((2:Int)<=((x.Server.Buffer++ [c]).length:Int)) then (idx (x.Server.Buffer++ [c]) (w64 (((x.Server.Buffer++ [c]).length:Int) - 2))).bind fun v7=>(bif ((v7.toNat:Int)==13) then (idx (x.Server.Buffer++ [c]) (w64 (((x.Server.Buffer++ [c]).length:Int) - 1))).bind fun v10=>some ((v10.toNat:Int)==10) else some false) else some false)=some ([13,10].isSuffixOf (x.Server.Buffer++ [c])):=by
  rw[suff_two];by_cases h2:2<=(x.Server.Buffer++ [c]).length
  .rw[decide_eq_true (show (2:Int)<=((x.Server.Buffer++ [c]).length:Int) by omega),decide_eq_true h2];rw[show (((x.Server.Buffer++ [c]).length:Int) - 2)=(((x.Server.Buffer++ [c]).length - 2:Nat):Int) by omega,ZHa _ (by omega),show (((x.Server.Buffer++ [c]).length:Int) - 1)=((x.Server.Buffer.length:Nat):Int) by omega,ZHa _ (by omega),W8a x.Server.Buffer c [],v5a,List.getElem?_eq_getElem (by omega)];simp only[cond_true,Option.bind_some,Option.elim_some,Bool.true_and];rw[qEa _ 13 (by decide),qEa _ 10 (by decide)];cases (x.Server.Buffer++ [c])[(x.Server.Buffer++ [c]).length - 2]==13 <;> rfl
  rw[decide_eq_false (show ¬(2:Int)<=((x.Server.Buffer++ [c]).length:Int) by omega),decide_eq_false h2];rfl
 rw[eR];simp only[Option.bind_some];cases hs: [13,10].isSuffixOf (x.Server.Buffer++ [c]) with
 | true=>
  have hl2:=(List.isSuffixOf_iff_suffix.1 hs).length_le;simp only[List.length_cons,List.length_nil]at hl2;have ecut:w64 (((x.Server.Buffer++ [c]).length:Int) - (([13,10]:List UInt8).length:Int))=(((x.Server.Buffer++ [c]).length - 2:Nat):Int):=by
   rw[show (((x.Server.Buffer++ [c]).length:Int) - (([13,10]:List UInt8).length:Int))=(((x.Server.Buffer++ [c]).length - 2:Nat):Int) by simp only[List.length_cons,List.length_nil];omega,ZHa _ (by omega)]
  have ecut2:w64 (((x.Server.Buffer++ [c]).length:Int) - 2)=(((x.Server.Buffer++ [c]).length - 2:Nat):Int):=by
   rw[show (((x.Server.Buffer++ [c]).length:Int) - 2)=(((x.Server.Buffer++ [c]).length - 2:Nat):Int) by omega,ZHa _ (by omega)]
  simp only[Bool.not_true,cond_false,cond_true,if_true];rw[ecut,ecut2,j0a (by omega)];simp only[Option.bind_some,Bool.not_true,cond_false];rw[Wta _ (by simp;omega),Y7a _ (by simp;omega)];simp only[Option.bind_some];generalize hR:yla ((x.Server.Buffer++ [c]).take ((x.Server.Buffer++ [c]).length - 2))=r;by_cases h18:r.2.Code=18
  .rw[if_pos h18,h18];simp only[show ((18:Int)==0)=false from rfl,show ((18:Int)==18)=true from rfl,cond_true,cond_false];exact ⟨vVa (bufS x []) 500 _ (by show x.replies.length<=_;omega),q0a (bufS x []) 500 Vba (by show x.replies.length<=_;omega)⟩
  rw[if_neg h18];by_cases hz:r.2.Code=0
  .have ok:zPb r.1:=by rw[<-hR]at hz ⊢;exact whb hz
   obtain ⟨e1,e2⟩:=exec_eq (bufS x []) h0 hn hp rfl ok;rw[if_pos hz,hz];simp only[show ((0:Int)==0)=true from rfl,show ((0:Int)==18)=false from rfl,show ((0:Int) !=0)=false from rfl,cond_true,cond_false];exact ⟨(congrArg (fun o=>o.bind fun v=>some v) e1).trans rfl,(congrArg (fun o=>o.bind fun v=>some v) e2).trans rfl⟩
  rw[if_neg hz,beq_eq_false_iff_ne.2 hz,beq_eq_false_iff_ne.2 h18,bne_iff_ne.2 hz];simp only[cond_true,cond_false];exact ⟨vVa (bufS x []) 501 _ (by show x.replies.length<=_;omega),q0a (bufS x []) 501 j1b (by show x.replies.length<=_;omega)⟩
 | false=>
  simp only[Bool.not_false,cond_true,cond_false,Bool.false_eq_true,if_false,Option.bind_some];by_cases h4:(x.Server.Buffer++ [c]).length=4002
  .rw[if_pos h4,h4];simp only[show (((4002:Nat):Int)==4002)=true from rfl,cond_true];refine ⟨?_,?_⟩
   .exact (congrArg (fun o=>(o.bind fun (v8:zea)=>(kSa v8).bind fun v10=>some v10).bind fun j=>some j) (Kia (bufS x (x.Server.Buffer++ [c])) 500 [Vba] (by show x.replies.length<=_;omega))).trans rfl
   exact (congrArg (fun o=>o.bind fun v=>some v) (y0a ⟨{(abS x).Server with Phase:=3,Buffer:=[]},x.replies,x.mails⟩ 500 Vba (by show x.replies.length<=_;omega))).trans rfl
  rw[if_neg h4,beq_eq_false_iff_ne.2 (show ((x.Server.Buffer++ [c]).length:Int)≠4002 by omega)];exact ⟨rfl,rfl⟩
theorem lineS_si{x:Ses}{n:Nat}(h:SI x n)(hp:x.Server.Phase=0)(c:UInt8):SI (zRb x c) (n+1):=by
 have hb:=h.buf;have h0:=vlb h (b:=[]) (by simp);have hd:x.Server.Dots=0:=h.dots (by rw[hp];decide);have hlen:(x.Server.Buffer++ [c]).length=x.Server.Buffer.length+1:=by simp
 unfold zRb;split
 .generalize hR:yla ((x.Server.Buffer++ [c]).take ((x.Server.Buffer++ [c]).length - 2))=r;dsimp only;split
  .exact qOa h0 _ _
  split
  .rename_i hz;exact execS_si h0 hp (by rw[<-hR]at hz ⊢;exact whb hz)
  exact qOa h0 _ _
 split
 .refine qOa ?_ _ _;obtain ⟨a1,a2,a3,a4,a5,a6,a7,a8,a9,a10,a11,a12,a13⟩:=k2b h;exact ⟨a1,a2,a3,a4,by show (0:Nat)<=4001;omega,a6,a7,a8,fun e=>absurd (show (3:Int)=2 from e) (by decide),a10,fun _=>hd,a12,a13⟩
 rename_i h4;exact (vlb h (by omega)).up
theorem wWa(x:Ses)(c:UInt8):(qFa x c).Server.Dots=x.Server.Dots/\(qFa x c).Server.Phase=x.Server.Phase:=by unfold qFa;split <;> exact ⟨rfl,rfl⟩
theorem WNa{x:Ses}{n:Nat}(h:SI x n)(hp:x.Server.Phase=1)(d:Int):SI (zSb x d) n:=by
 obtain ⟨a1,a2,a3,a4,a5,a6,a7,a8,a9,a10,a11,a12,a13⟩:=h;exact ⟨a1,a2,a3,a4,a5,a6,a7,a8,a9,a10,fun e=>absurd hp e,a12,a13⟩
theorem YEa(p q:Prop)[Decidable p][Decidable q]:(bif decide p then some (decide q) else some false)=some (decide (p/\q)):=by
 by_cases hp:p <;> by_cases hq:q <;> simp[hp,hq]
theorem deq(a b:Int):(a==b)=decide (a=b):=by rw[Bool.eq_iff_iff];simp
theorem j6b(x:Ses){n:Nat}(h:SI x n)(c:UInt8):kfa c x=some (zSb (qFa x c) (if c=13 then 4 else if c=10/\x.Server.Dots=4 then 0 else 3)):=by
 unfold kfa;rw[j2b x c h];simp only[Option.bind_some];rw[(wWa x c).1,qEa c 13 (by decide),qEa c 10 (by decide),jEa,jEa,deq,YEa];simp only[Option.bind_some];by_cases h13:c=13
 .rw[if_pos h13,decide_eq_true h13];rfl
 rw[if_neg h13,decide_eq_false h13];by_cases h10:c=10/\x.Server.Dots=4
 .rw[if_pos h10,decide_eq_true h10];rfl
 rw[if_neg h10,decide_eq_false h10];rfl
theorem zUb{x:Ses}{n:Nat}(h:SI x n):SI ⟨{x.Server with Phase:=0,Dots:=0},x.replies,x.mails⟩ n:=by
 obtain ⟨a1,a2,a3,a4,a5,a6,a7,a8,a9,a10,a11,a12,a13⟩:=h;exact ⟨a1,a2,a3,a4,a5,a6,a7,a8,fun e=>absurd (show (0:Int)=2 from e) (by decide),a10,fun _=>rfl,a12,a13⟩
theorem data_eq(x:Ses){n:Nat}(h:SI x n)(hn:n<=1000000)(c:UInt8):k4a x c=some (VVa x c)/\Qva (cv x) c=some (cv (VVa x c)):=by
 unfold k4a Qva VVa;rw[show (cv x).S=x.Server from rfl,show (cv x).Mails=x.mails from rfl,show (cv x).Replies=x.replies from rfl];rw[qEa c 46 (by decide),qEa c 13 (by decide),qEa c 10 (by decide),jEa,jEa,jEa,deq,deq,deq,deq,YEa,YEa,YEa,YEa];simp only[Option.bind_some];by_cases h0:x.Server.Dots=0/\c=46
 .rw[if_pos h0,decide_eq_true h0];exact ⟨rfl,rfl⟩
 rw[if_neg h0,decide_eq_false h0];simp only[cond_false];by_cases h1:x.Server.Dots=1/\c=13
 .rw[if_pos h1,decide_eq_true h1];exact ⟨rfl,rfl⟩
 rw[if_neg h1,decide_eq_false h1];simp only[cond_false];by_cases h2:x.Server.Dots=2/\c=10
 .rw[if_pos h2,decide_eq_true h2];simp only[cond_true];exact ⟨(congrArg (fun o=>o.bind fun v=>some v) (j3b _ (zUb h) hn)).trans rfl,(congrArg (fun o=>o.bind fun v=>some v) (JJa _ (zUb h) hn)).trans rfl⟩
 rw[if_neg h2,decide_eq_false h2];simp only[cond_false];have key:∀y:Ses,SI y n->y.Server.Dots=x.Server.Dots->((Qua (cv y) c).bind fun v16=>((bif decide (c=13) then some (cv (zSb ⟨v16.S,v16.Replies,v16.Mails⟩ 4)) else some (cv (zSb ⟨v16.S,v16.Replies,v16.Mails⟩ 3))):Option zda).bind fun j18=>((bif decide (x.Server.Dots=4/\c=10) then some (cv (zSb ⟨j18.S,j18.Replies,j18.Mails⟩ 0)) else some j18):Option zda).bind fun j20=>some j20)=some (cv (zSb (qFa y c) (if c=13 then 4 else if c=10/\x.Server.Dots=4 then 0 else 3))):=by
  intro y hy hd;rw[vkb y c hy];simp only[Option.bind_some];by_cases h13:c=13
  .rw[if_pos h13,decide_eq_true h13];simp only[cond_true,Option.bind_some];rw[decide_eq_false (show ¬(x.Server.Dots=4/\c=10) by rw[h13];simp)];rfl
  rw[if_neg h13,decide_eq_false h13];simp only[cond_false,Option.bind_some];by_cases h10:x.Server.Dots=4/\c=10
  .rw[decide_eq_true h10,if_pos ⟨h10.2,h10.1⟩];rfl
  rw[decide_eq_false h10,if_neg (fun e=>h10 ⟨e.2,e.1⟩)];rfl
 by_cases hd2:x.Server.Dots=2
 .rw[if_pos hd2,decide_eq_true hd2];simp only[cond_true];have hk:=Zya h 13;have hkd:=(wWa x 13).1;rw[j2b x 13 h,vkb x 13 h];simp only[Option.bind_some];refine ⟨?_,key (qFa x 13) hk hkd⟩;rw[j6b _ hk c,hkd]
 rw[if_neg hd2,decide_eq_false hd2];simp only[cond_false,Option.bind_some];refine ⟨?_,key x h rfl⟩;rw[j6b x h c]
theorem dataS_si{x:Ses}{n:Nat}(h:SI x n)(hp:x.Server.Phase=1)(c:UInt8):SI (VVa x c) (n+1):=by
 unfold VVa;split
 .exact (WNa h hp _).up
 split
 .exact (WNa h hp _).up
 split
 .exact wib (zUb h)
 split
 .exact (WNa (Zya (Zya h 13) c) (by rw[(wWa _ _).2,(wWa _ _).2];exact hp) _).up
 exact (WNa (Zya h c) (by rw[(wWa _ _).2];exact hp) _).up
def vmb(x:Ses):Ses:=⟨{x.Server with Left:=x.Server.Left - 1},x.replies,x.mails⟩
theorem wkb{x:Ses}{n:Nat}(h:SI x n)(hp:x.Server.Phase=2):SI ⟨{(vmb x).Server with Phase:=0},x.replies,x.mails⟩ n/\((vmb x).Server.Left≠0->SI (vmb x) n):=by
 have hl:=h.left hp;have hd:x.Server.Dots=0:=h.dots (by rw[hp];decide);obtain ⟨a1,a2,a3,a4,a5,a6,a7,a8,a9,a10,a11,a12,a13⟩:=h;refine ⟨⟨a1,a2,a3,a4,a5,a6,a7,a8,fun e=>absurd (show (0:Int)=2 from e) (by decide),a10,fun _=>hd,a12,a13⟩,fun hz=>⟨a1,a2,a3,a4,a5,a6,a7,a8,fun _=>?_,a10,fun _=>hd,a12,a13⟩⟩;have hz:x.Server.Left - 1≠0:=hz;exact ⟨by show 1<=x.Server.Left - 1;omega,by show x.Server.Left - 1<=_;omega⟩
theorem wlb{x:Ses}{n:Nat}(h:SI x n)(c:UInt8):SI (yEa x c) (n+1):=by
 unfold yEa;split
 .rename_i hp;exact lineS_si h hp c
 split
 .rename_i hp;exact dataS_si h hp c
 split
 .rename_i hp;have hy:SI (bif x.Server.Ignore then x else qFa x c) n/\(bif x.Server.Ignore then x else qFa x c).Server.Phase=2:=by
   cases x.Server.Ignore with
   | true=>exact ⟨h,hp⟩
   | false=>exact ⟨Zya h c,by rw[show (bif false then x else qFa x c)=qFa x c from rfl,(wWa x c).2];exact hp⟩
  generalize (bif x.Server.Ignore then x else qFa x c)=y at hy;obtain ⟨hy,hyp⟩:=hy;obtain ⟨h1,h2⟩:=wkb hy hyp;show SI (if (vmb y).Server.Left=0 then K5a (vmb y) else vmb y) (n+1);split
  .exact JLa h1 (hy.dots (by rw[hyp];decide))
  rename_i hz;exact (h2 hz).up
 exact h.up
theorem j7b(a1:List UInt8)(ha:a1.length<=1000000)(i:Nat)(c:UInt8)(x:Ses)(hc:a1[i]? =some c)(h:SI x i):qka a1 ((i:Int),x)=some (.cont (((i+1:Nat):Int),yEa x c))/\yja a1 ((i:Int),cv x)=some (.cont (((i+1:Nat):Int),cv (yEa x c))):=by
 have hi:=zUa hc;unfold qka yja yEa;dsimp only;rw[kqa hc,zJa hc,show (cv x).S=x.Server from rfl];simp only[cond_true,Option.bind_some];rw[sc i (by omega)];by_cases h0:x.Server.Phase=0
 .obtain ⟨e1,e2⟩:=line_eq x h (by omega) h0 c;rw[if_pos h0,h0,e1,e2];exact ⟨rfl,rfl⟩
 rw[if_neg h0,beq_eq_false_iff_ne.2 h0];simp only[cond_false];by_cases h1:x.Server.Phase=1
 .obtain ⟨e1,e2⟩:=data_eq x h (by omega) c;rw[if_pos h1,h1,e1,e2];exact ⟨rfl,rfl⟩
 rw[if_neg h1,beq_eq_false_iff_ne.2 h1];simp only[cond_false];by_cases h2:x.Server.Phase=2
 .rw[if_pos h2,h2];simp only[show ((2:Int)==2)=true from rfl,cond_true];have e1:(bif !x.Server.Ignore then (kca x c).bind fun v36=>some v36 else some x)=some (bif x.Server.Ignore then x else qFa x c):=by
   rw[j2b x c h];cases x.Server.Ignore <;> rfl
  have e2:(bif !x.Server.Ignore then (Qua (cv x) c).bind fun v23=>some v23 else some (cv x))=some (cv (bif x.Server.Ignore then x else qFa x c)):=by
   rw[vkb x c h];cases x.Server.Ignore <;> rfl
  rw[e1,e2];simp only[Option.bind_some];have hy:SI (bif x.Server.Ignore then x else qFa x c) i/\(bif x.Server.Ignore then x else qFa x c).Server.Phase=2:=by
   cases x.Server.Ignore with
   | true=>exact ⟨h,h2⟩
   | false=>exact ⟨Zya h c,by rw[show (bif false then x else qFa x c)=qFa x c from rfl,(wWa x c).2];exact h2⟩
  generalize (bif x.Server.Ignore then x else qFa x c)=y at hy;obtain ⟨hy,hyp⟩:=hy;obtain ⟨q1,q2⟩:=wkb hy hyp;have hl:=hy.left hyp;rw[show (cv y).S=y.Server from rfl,show (cv y).Mails=y.mails from rfl,show (cv y).Replies=y.replies from rfl,qsa (n:=y.Server.Left - 1) (by omega) (by omega)];by_cases hz:y.Server.Left - 1=0
  .obtain ⟨c1,c2⟩:=wjb (vmb y) q1 (by omega);rw[if_pos hz];have hb:(y.Server.Left - 1==0)=true:=by rw[hz];rfl
   rw[hb];exact ⟨(congrArg (fun (o:Option zea)=>(o.bind fun v39=>some v39).bind fun (j24:zea)=>(some (Step.cont (((i+1:Nat):Int),j24)):Option (Step (Int × zea) zea))) c1).trans rfl,(congrArg (fun (o:Option zda)=>(o.bind fun v39=>some v39).bind fun (j24:zda)=>(some (Step.cont (((i+1:Nat):Int),j24)):Option (Step (Int × zda) zda))) c2).trans rfl⟩
  rw[if_neg hz,beq_eq_false_iff_ne.2 hz];exact ⟨rfl,rfl⟩
 rw[if_neg h2,beq_eq_false_iff_ne.2 h2];exact ⟨rfl,rfl⟩
def wza(x:Ses)(b:List UInt8):Ses:=b.foldl yEa x
theorem j8b(a1:List UInt8)(ha:a1.length<=1000000)(x:Ses)(h:SI x 0):iter (qka a1) ((0,x))=some (wza x a1)/\iter (yja a1) ((0,cv x))=some (cv (wza x a1))/\SI (wza x a1) a1.length:=by
 obtain ⟨h1,h2⟩:=yYa a1 (fun i (s:Ses)=>(i,s)) yEa id (fun i s=>SI s i) (body:=qka a1) (fun s _=>by unfold qka;rw[zRa];rfl) (fun i c s hc hs=>⟨(j7b a1 ha i c s hc hs).1,wlb hs c⟩) x h;obtain ⟨h3,_⟩:=yYa a1 (fun i (s:Ses)=>(i,cv s)) yEa cv (fun i s=>SI s i) (body:=yja a1) (fun s _=>by unfold yja;rw[zRa];rfl) (fun i c s hc hs=>⟨(j7b a1 ha i c s hc hs).2,wlb hs c⟩) x h;exact ⟨h1,h3,h2⟩
def fl:List UInt8->List UInt8->List Str × List UInt8
 | cur,[]=>([],cur)
 | cur,[c]=>([],cur++ [c])
 | cur,c::d::r=>if c=13/\d=10 then (cur::(fl [] r).1,(fl [] r).2) else fl (cur++ [c]) (d::r)
theorem fl_hit(cur r:List UInt8):fl cur (13::10::r)=(cur::(fl [] r).1,(fl [] r).2):=by rw[fl,if_pos ⟨rfl,rfl⟩]
theorem fl_miss{c d:UInt8}(h:¬(c=13/\d=10))(cur r:List UInt8):fl cur (c::d::r)=fl (cur++ [c]) (d::r):=by rw[fl,if_neg h]
theorem j9b(l:List UInt8)(cur:List UInt8):((fl cur l).1.flatMap fun x=>x++ [13,10])++(fl cur l).2=cur++l:=by
 fun_induction fl cur l with
 | case1 cur=>simp
 | case2 cur c=>simp
 | case3 cur c d r h ih=>obtain ⟨rfl,rfl⟩:=h;simpa using ih
 | case4 cur c d r h ih=>simpa using ih
theorem fl_size(l:List UInt8)(cur:List UInt8):2 * (fl cur l).1.length+(fl cur l).2.length<=cur.length+l.length:=by
 fun_induction fl cur l with
 | case1 cur=>simp
 | case2 cur c=>simp
 | case3 cur c d r h ih=>simp at ih ⊢;omega
 | case4 cur c d r h ih=>simp at ih ⊢;omega
theorem vnb(b:List UInt8)(hb:b.length < 8796093022208)(n:Nat):∀(from_ i:Nat) (out:List Str),from_ < i->b.length - i=n->out.length<=from_->i<=b.length+1->from_<=b.length->
 iter (qaa b) ((from_:Int),(i:Int),out)=some (((b.length - (fl ((b.drop from_).take (i - 1 - from_)) (b.drop (i - 1))).2.length:Nat):Int),out++(fl ((b.drop from_).take (i - 1 - from_)) (b.drop (i - 1))).1):=by
 induction n using Nat.strongRecOn with
 | _ n ih=>
  intro from_ i out h1 h2 h3 h5 h7;by_cases h4:i < b.length
  .have e1:b.drop (i - 1)=b[i - 1]::b[i]::b.drop (i+1):=by
    rw[List.drop_eq_getElem_cons (by omega)]
    congr 1
    rw[show i - 1+1=i by omega,List.drop_eq_getElem_cons h4]
   by_cases hx:b[i - 1]=13/\b[i]=10
   .have hbd:qaa b ((from_:Int),(i:Int),out)=some (.cont (((i+1:Nat):Int),((i+1:Nat):Int),out++ [(b.drop from_).take (i - 1 - from_)])):=by
     unfold qaa;simp (disch:=omega) only[jpb,kub,kvb,K0a];simp only[hx,Option.bind_some];rw[zYa (by simp;omega)];simp[h4,h1]
    rw[zNa hbd,e1,hx.1,hx.2,fl_hit];by_cases h6:i+1 < b.length
    .have hbd2:qaa b (((i+1:Nat):Int),((i+1:Nat):Int),out++ [(b.drop from_).take (i - 1 - from_)])=some (.cont (((i+1:Nat):Int),((i+2:Nat):Int),out++ [(b.drop from_).take (i - 1 - from_)])):=by
      unfold qaa;simp (disch:=omega) only[jpb,kub,K0a];simp[h6,show (i:Int)+1 < b.length by omega];omega
     rw[zNa hbd2,ih (b.length - (i+2)) (by omega) (i+1) (i+2) _ (by omega) rfl (by simp;omega) (by omega) (by omega)];simp
    have hbd2:qaa b (((i+1:Nat):Int),((i+1:Nat):Int),out++ [(b.drop from_).take (i - 1 - from_)])=some (.out (((i+1:Nat):Int),out++ [(b.drop from_).take (i - 1 - from_)])):=by
     unfold qaa;simp[h6,show ¬(i:Int)+1 < b.length by omega]
    rw[zGa hbd2];have e2:b.drop (i+1)=[]:=List.drop_of_length_le (by omega);simp[e2,fl];omega
   have hbd:qaa b ((from_:Int),(i:Int),out)=some (.cont ((from_:Int),((i+1:Nat):Int),out)):=by
    unfold qaa;simp (disch:=omega) only[jpb,kub,K0a];simp (disch:=decide) only[Option.bind_some,qEa,show decide ((i:Int) < b.length)=true by simp;omega,cond_true];by_cases a1:b[i]=10
    .have a2:b[i - 1]≠13:=fun h=>hx ⟨h,a1⟩
     simp[Bool.cond_eq_ite,a1,a2]
    simp[Bool.cond_eq_ite,a1]
   rw[zNa hbd,ih (b.length - (i+1)) (by omega) from_ (i+1) _ (by omega) rfl h3 (by omega) h7,e1,fl_miss hx];have e3:(b.drop from_).take (i+1 - 1 - from_)=(b.drop from_).take (i - 1 - from_)++ [b[i - 1]]:=by
    rw[show i+1 - 1 - from_=(i - 1 - from_)+1 by omega,List.take_add_one];simp[show from_+(i - 1 - from_)=i - 1 by omega,List.getElem?_eq_getElem (show i - 1 < b.length by omega)]
   have e4:b.drop (i+1 - 1)=b[i]::b.drop (i+1):=by
    rw[show i+1 - 1=i by omega,List.drop_eq_getElem_cons h4]
   rw[e3,e4]
  have hbd:qaa b ((from_:Int),(i:Int),out)=some (.out ((from_:Int),out)):=by
   unfold qaa;simp[h4]
  rw[zGa hbd];have e5:fl ((b.drop from_).take (i - 1 - from_)) (b.drop (i - 1))=([],b.drop from_):=by
   by_cases h6:i - 1 < b.length
   .rw[List.drop_eq_getElem_cons h6,show i - 1+1=b.length by omega];simp only[List.drop_length,fl,Prod.mk.injEq,true_and];have:=List.take_append_drop (i - 1 - from_) (b.drop from_);rw[List.drop_drop,show from_+(i - 1 - from_)=i - 1 by omega,List.drop_eq_getElem_cons h6,show i - 1+1=b.length by omega,List.drop_length]at this;exact this
   rw[show b.drop (i - 1)=[] from List.drop_of_length_le (by omega)];simp only[fl,Prod.mk.injEq,true_and];exact List.take_of_length_le (by simp;omega)
  rw[e5];simp;omega
theorem fl_rest(a:List UInt8):a.drop (a.length - (fl [] a).2.length)=(fl [] a).2:=by
 have hj:=j9b a [];simp only[List.nil_append]at hj;have hx:a.length - (fl [] a).2.length=((fl [] a).1.flatMap fun x=>x++ [13,10]).length:=by
  have:=congrArg List.length hj;simp only[List.length_append]at this;omega
 rw[hx];have:=List.drop_left (l₁:=(fl [] a).1.flatMap fun x=>x++ [13,10]) (l₂:=(fl [] a).2);rw[hj]at this;exact this
def KJa(name:Str)(size many:Int):zva:=if wDa name=false∨40 < name.length then ⟨10, -20⟩ else if size < 1∨12000 < size then ⟨3, -21⟩ else if many < 1∨60 < many then ⟨3, -22⟩ else ⟨0,0⟩
theorem wmb(p q:Prop)[Decidable p][Decidable q]:(bif decide p then some true else some (decide q))=some (decide (p∨q)):=by
 by_cases hp:p <;> by_cases hq:q <;> simp[hp,hq]
theorem Zab(b:Bool):(!b)=decide (b=false):=by cases b <;> rfl
theorem len40(s:Str):decide ((40:Int) < (s.length:Int))=decide (40 < s.length):=by rw[Bool.eq_iff_iff];simp;omega
theorem Zbb(name:Str)(size many:Int)(h:name.length<=1048576):k0a name size many=some (KJa name size many):=by
 unfold k0a KJa;rw[QXa _ h];simp only[Option.bind_some];rw[Zab,len40,wmb,wmb,wmb];simp only[Option.bind_some,kra,qfa];by_cases h1:wDa name=false∨40 < name.length
 .rw[if_pos h1,decide_eq_true h1];rfl
 rw[if_neg h1,decide_eq_false h1];by_cases h2:size < 1∨12000 < size
 .rw[if_pos h2,decide_eq_true h2];rfl
 rw[if_neg h2,decide_eq_false h2];by_cases h3:many < 1∨60 < many
 .rw[if_pos h3,decide_eq_true h3];rfl
 rw[if_neg h3,decide_eq_false h3];rfl
theorem in_not(a b c:Int):(!(decide (b<=a) && decide (a<=c)))=decide (a < b∨c < a):=by
 rw[Bool.eq_iff_iff];simp only[Bool.not_eq_true',Bool.and_eq_false_iff,decide_eq_false_iff_not,decide_eq_true_eq];omega
theorem Zcb(s:zja)(h:s.Name.length<=1048576):jya s=some (KJa s.Name s.Size s.Many):=by
 unfold jya KJa;rw[Qwa _ h];simp only[Option.bind_some];rw[Zab,len40,wmb];simp only[Option.bind_some,vka,jAa,in_not];by_cases h1:wDa s.Name=false∨40 < s.Name.length
 .rw[if_pos h1,decide_eq_true h1];rfl
 rw[if_neg h1,decide_eq_false h1];by_cases h2:s.Size < 1∨12000 < s.Size
 .rw[if_pos h2,decide_eq_true h2];rfl
 rw[if_neg h2,decide_eq_false h2];by_cases h3:s.Many < 1∨60 < s.Many
 .rw[if_pos h3,decide_eq_true h3];rfl
 rw[if_neg h3,decide_eq_false h3];rfl
theorem Zdb(a b c:Bool):(bif a then some b else some c)=some (bif a then b else c):=by cases a <;> rfl
theorem Zeb(a b:Bool):(bif a then b else false)=(a && b):=by cases a <;> rfl
theorem cnd_or(a b:Bool):(bif a then true else b)=(a || b):=by cases a <;> rfl
theorem wnb(a b:Bool):(bif a then false else b)=(!a && b):=by cases a <;> rfl
theorem JMa(a b c:Int):kXa a b c=some (decide (b<=a) && decide (a<=c)):=by
 unfold kXa;cases decide (b<=a) <;> rfl
def Zfb(b:List UInt8):Bool:=decide (Lib.index b [13,10]≠ -1)
theorem vob(b:List UInt8)(h:b.length<=1048576):vTa b [13,10]=some (Zfb b):=by
 unfold vTa Zga Zfb;rw[if_pos ⟨by omega,rfl⟩];simp only[Option.bind_some,Option.some.injEq];rw[Bool.eq_iff_iff];simp
def okB(s:zja):Bool:=
 !((s.From !=([]:Str) && !kGa s.From) || decide (s.Many < (s.To.length:Int)) || (recF s.To).Code !=0) &&
 !((!s.Greeted && s.Mailing) || (!s.Mailing && (s.From !=([]:Str) || !s.To.isEmpty)) || (s.Chunked && s.To.isEmpty)) &&
 !(decide (s.Size < (s.Data.length:Int)) || decide (s.Lost < 0∨1099511627776 < s.Lost) || decide (s.Count < 0∨1000000 < s.Count)) &&
 !((decide (0 < (s.Data.length:Int)) || decide (0 < s.Lost)) && (!s.Chunked && s.Phase !=1)) &&
 (
  bif s.Phase==0 then decide ((s.Buffer.length:Int) < 4002) && (!Zfb s.Buffer && (s.Dots==0 && (s.Left==0 && (!s.Last && !s.Ignore))))
  else bif s.Phase==1 then !s.To.isEmpty && (!s.Chunked && (s.Buffer.isEmpty && (decide (0<=s.Dots) && decide (s.Dots<=4) && (s.Left==0 && (!s.Last && !s.Ignore)))))
  else bif s.Phase==2 then (s.Ignore==s.To.isEmpty) && ((s.Ignore== !s.Chunked) && (s.Buffer.isEmpty && (s.Dots==0 && (decide (1<=s.Left) && decide (s.Left<=1000000)))))
  else bif s.Phase==3 then !s.Mailing && (s.Buffer.isEmpty && (s.Dots==0 && (s.Left==0 && (!s.Last && !s.Ignore)))) else false)
structure k5b (s:zja):Prop where
 frm:s.From.length<=1048576
 tos:Jta s.To
 buf:s.Buffer.length<=1048576
 data:s.Data.length<=1048576
 name:s.Name.length<=1048576
theorem Zgb(l:List zca):decide ((0:Int) < (l.length:Int))= !l.isEmpty:=by cases l <;> simp
theorem len_posB(l:List UInt8):decide ((0:Int) < (l.length:Int))= !l.isEmpty:=by cases l <;> simp
theorem JNa(l:List UInt8):((l.length:Int)==0)=l.isEmpty:=by cases l <;> simp;omega
theorem phase_eq(s:zja)(h:k5b s):yia s=some (bif s.Phase==0 then decide ((s.Buffer.length:Int) < 4002) && (!Zfb s.Buffer && (s.Dots==0 && (s.Left==0 && (!s.Last && !s.Ignore))))
 else bif s.Phase==1 then !s.To.isEmpty && (!s.Chunked && (s.Buffer.isEmpty && (decide (0<=s.Dots) && decide (s.Dots<=4) && (s.Left==0 && (!s.Last && !s.Ignore)))))
 else bif s.Phase==2 then (s.Ignore==s.To.isEmpty) && ((s.Ignore== !s.Chunked) && (s.Buffer.isEmpty && (s.Dots==0 && (decide (1<=s.Left) && decide (s.Left<=1000000)))))
 else bif s.Phase==3 then !s.Mailing && (s.Buffer.isEmpty && (s.Dots==0 && (s.Left==0 && (!s.Last && !s.Ignore)))) else false):=by
 unfold yia;rw[vob _ h.buf];simp only[Option.bind_some,JMa,Zgb,Vca,JNa,Zdb,Zeb,cnd_or,wnb]
theorem Zhb(s:zja)(h:k5b s):wva s=some (okB s):=by
 have h1:=h.frm;unfold wva okB;rw[qNa _ (by omega),ZJa _ h.tos,phase_eq s h];simp only[Option.bind_some,JMa,kia,Zdb,Zeb,cnd_or,wnb,Zgb,Vca,JNa,len_posB,in_not,Option.some.injEq];cases s.From !=([]:Str) <;> cases kGa s.From <;> cases s.Greeted <;> cases s.Mailing <;> cases s.Chunked <;> cases s.To.isEmpty <;> cases s.Data.isEmpty <;> simp[Bool.and_assoc]
theorem zVb{l:List zca}(h:(recF l).Code=0):(∀r∈l,kGa r.Address=true/\kUa r.Notify=true)/\(l.map (·.Address)).Nodup:=by
 have hz:zFa (recQ l) 0 l=none:=by
  unfold recF at h;cases hf:zFa (recQ l) 0 l with
  | none=>rfl
  | some f=>
   exfalso;rw[hf]at h;obtain ⟨i,x,hx,hq⟩:=Zqa hf;unfold recQ at hq;split at hq
   .cases hq;simp at h
   split at hq
   .cases hq;simp at h
   split at hq
   .cases hq;simp at h
   cases hq
 rw[v6a]at hz;have key:∀(i:Nat) r,l[i]? =some r->kGa r.Address=true/\kUa r.Notify=true/\(l.take i).any (fun x=>x.Address==r.Address)=false:=by
  intro i r hr;have:=hz i r hr;rw[Nat.zero_add]at this;unfold recQ at this;cases h1:kGa r.Address with
  | false=>rw[h1]at this;simp at this
  | true=>
   cases h2:kUa r.Notify with
   | false=>rw[h1,h2]at this;simp at this
   | true=>
    cases h3:(l.take i).any (fun x=>x.Address==r.Address) with
    | true=>rw[h1,h2,h3]at this;simp at this
    | false=>exact ⟨rfl,rfl,rfl⟩
 refine ⟨fun r hr=>?_,?_⟩
 .obtain ⟨i,hi⟩:=List.getElem?_of_mem hr;exact ⟨(key i r hi).1,(key i r hi).2.1⟩
 rw[List.Nodup,List.pairwise_iff_getElem];intro i j hi hj hij;simp only[List.length_map]at hi hj;simp only[List.getElem_map];have h3:=(key j l[j] (List.getElem?_eq_getElem hj)).2.2;rw[List.any_eq_false]at h3;have:=h3 l[i] (List.mem_of_getElem? (i:=i) (by rw[List.getElem?_take_of_lt hij];exact List.getElem?_eq_getElem hi));simpa using this
def zeroS:zja:=⟨[],0,0,0,false,false,[],[],[],[],0,0,false,0,false,false,0⟩
def srvF(s:zja):zva:=if (KJa s.Name s.Size s.Many).Code≠0 then KJa s.Name s.Size s.Many else if okB s=false then ⟨5, -23⟩ else ⟨0,0⟩
def vpb(s:zja)(b:List UInt8):zja × List zLa × List zVa × zva:=
 if (srvF s).Code≠0 then (zeroS,[],[],srvF s) else if 40000 < b.length then (zeroS,[],[],⟨1, -1⟩) else ((wza ⟨s,[],[]⟩ b).Server,(wza ⟨s,[],[]⟩ b).replies,(wza ⟨s,[],[]⟩ b).mails,⟨0,0⟩)
theorem k6b{n:Str}{a b:Int}(h:(KJa n a b).Code=0):KJa n a b=⟨0,0⟩/\n.length<=40/\wDa n=true/\(1<=a/\a<=12000)/\(1<=b/\b<=60):=by
 unfold KJa at h ⊢;by_cases h1:wDa n=false∨40 < n.length
 .rw[if_pos h1]at h;exact absurd h (by decide)
 rw[if_neg h1]at h ⊢;by_cases h2:a < 1∨12000 < a
 .rw[if_pos h2]at h;exact absurd h (by decide)
 rw[if_neg h2]at h ⊢;by_cases h3:b < 1∨60 < b
 .rw[if_pos h3]at h;exact absurd h (by decide)
 rw[if_neg h3];refine ⟨rfl,by omega,?_,by omega,by omega⟩;cases hn:wDa n with
 | true=>rfl
 | false=>exact absurd (.inl hn) h1
theorem srv_zero{s:zja}(h:(srvF s).Code=0):(KJa s.Name s.Size s.Many).Code=0/\okB s=true/\srvF s=⟨0,0⟩:=by
 unfold srvF at h ⊢;by_cases h1:(KJa s.Name s.Size s.Many).Code≠0
 .rw[if_pos h1]at h;exact absurd h h1
 rw[if_neg h1]at h ⊢;by_cases h2:okB s=false
 .rw[if_pos h2]at h;exact absurd h (by decide)
 rw[if_neg h2];exact ⟨Decidable.not_not.1 h1,by simpa using h2,rfl⟩
theorem si_of_ok{s:zja}(h:(srvF s).Code=0):SI ⟨s,[],[]⟩ 0:=by
 obtain ⟨hc,ho,_⟩:=srv_zero h;obtain ⟨_,c1,c2,c3,c4⟩:=k6b hc;unfold okB at ho;simp only[Bool.and_eq_true]at ho;obtain ⟨⟨⟨⟨o1,o2⟩,o3⟩,o4⟩,o5⟩:=ho;simp only[Bool.not_eq_true',Bool.or_eq_false_iff,decide_eq_false_iff_not]at o1 o2 o3;obtain ⟨⟨f1,f2⟩,f3⟩:=o1;obtain ⟨⟨g1,g2⟩,g3⟩:=o2;obtain ⟨⟨d1,d2⟩,d3⟩:=o3;have hrec:(recF s.To).Code=0:=by simpa[bne]using f3
 refine ⟨c3,c4,c1,by show (s.Data.length:Int)<=s.Size;omega,?_,⟨by show s.To.length<=60;omega,(zVb hrec).1⟩,by show 0<=s.Lost/\s.Lost<=_;omega,by show 0<=s.Count/\s.Count<=_;omega,?_,?_,?_,Nat.le_refl _,Nat.le_refl _⟩
 .show s.Buffer.length<=4001;by_cases p0:s.Phase=0
  .rw[p0]at o5;simp at o5;omega
  have:s.Buffer.isEmpty=true:=by
   rw[beq_eq_false_iff_ne.2 p0]at o5;by_cases p1:s.Phase=1
   .rw[p1]at o5;simp at o5;simp[o5]
   by_cases p2:s.Phase=2
   .rw[p2]at o5;simp at o5;simp[o5]
   by_cases p3:s.Phase=3
   .rw[p3]at o5;simp at o5;simp[o5]
   rw[beq_eq_false_iff_ne.2 p1,beq_eq_false_iff_ne.2 p2,beq_eq_false_iff_ne.2 p3]at o5;cases o5
  rw[List.isEmpty_iff.1 this];simp
 .intro p2;have p2:s.Phase=2:=p2;rw[p2]at o5;simp at o5;show 1<=s.Left/\s.Left<=1000000;exact ⟨o5.2.2.2.2.1,o5.2.2.2.2.2⟩
 .intro e;have e:s.To=[]:=e;show s.Chunked=false;rw[e]at g3;simpa using g3
 intro p1;have p1:s.Phase≠1:=p1;show s.Dots=0;by_cases p0:s.Phase=0
 .rw[p0]at o5;simp at o5;exact o5.2.2.1
 rw[beq_eq_false_iff_ne.2 p0,beq_eq_false_iff_ne.2 p1]at o5;by_cases p2:s.Phase=2
 .rw[p2]at o5;simp at o5;exact o5.2.2.2.1
 by_cases p3:s.Phase=3
 .rw[p3]at o5;simp at o5;exact o5.2.2.1
 rw[beq_eq_false_iff_ne.2 p2,beq_eq_false_iff_ne.2 p3]at o5;cases o5
theorem Zib(s:zja)(b:List UInt8)(h:k5b s)(hb:b.length<=1048576):v4a s b=some (vpb s b):=by
 unfold v4a vpb;rw[Zbb _ _ _ h.name];simp only[Option.bind_some,kia];by_cases hc:(KJa s.Name s.Size s.Many).Code=0
 .rw[hc,Zhb s h];simp only[show ((0:Int) !=0)=false from rfl,cond_false,Option.bind_some];cases ho:okB s with
  | false=>
   have e:srvF s=⟨5, -23⟩:=by unfold srvF;rw[if_neg (by simp[hc]),if_pos ho]
   rw[e,if_pos (by decide)];rfl
  | true=>
   have e:srvF s=⟨0,0⟩:=by unfold srvF;rw[if_neg (by simp[hc]),if_neg (by simp[ho])]
   rw[e,if_neg (by decide)];simp only[Bool.not_true,cond_false];by_cases h4:40000 < b.length
   .rw[if_pos h4,decide_eq_true (by omega)];rfl
   rw[if_neg h4,decide_eq_false (by omega)];simp only[cond_false];have hsi:=si_of_ok (s:=s) (by rw[e]);rw[YBa _ h.tos.1,YCa _ h.buf,YCa _ h.data];simp only[Option.bind_some];rw[show (⟨⟨s.Name,s.Size,s.Many,s.Phase,s.Greeted,s.Mailing,s.From,s.To,s.Buffer,s.Data,s.Lost,s.Dots,s.Chunked,s.Left,s.Last,s.Ignore,s.Count⟩,([]:List zLa),([]:List zVa)⟩:Ses)=⟨s,[],[]⟩ from rfl,(j8b b (by omega) _ hsi).1];rfl
 have e:srvF s=KJa s.Name s.Size s.Many:=by unfold srvF;rw[if_pos hc]
 rw[e,if_pos hc,bne_iff_ne.2 hc];rfl
def newF(n:Str)(a b:Int):zja × zLa × zva:=if (KJa n a b).Code≠0 then (zeroS,⟨0,[]⟩,KJa n a b) else (⟨n,a,b,0,false,false,[],[],[],[],0,0,false,0,false,false,0⟩,⟨220,[n]⟩,⟨0,0⟩)
theorem Zjb(n:Str)(a b:Int)(h:n.length<=1048576):wQa n a b=some (newF n a b)/\Waa n a b=some (newF n a b):=by
 unfold wQa Waa newF;rw[Zbb _ _ _ h,Zcb _ h];simp only[Option.bind_some,kia];by_cases hc:(KJa n a b).Code=0
 .obtain ⟨e,_⟩:=k6b hc;rw[if_neg (by simp[hc]),hc,e];exact ⟨rfl,rfl⟩
 rw[if_pos hc,bne_iff_ne.2 hc];exact ⟨rfl,rfl⟩
def exIn:List UInt8:=[104,101,108,108,111,32,99,13,10,109,97,105,108,32,60,115,64,120,62,13,10,114,99,112,116,32,60,97,64,121,62,13,10,100,97,116,97,13,10,13,10,46,46,13,10,46,13,10,110,111,111,112,13,10]
def exS:zja:=⟨[109,120],1000,10,0,false,false,[],[],[],[],0,0,false,0,false,false,0⟩
def exId:Str:=[109,120]++ [45]++Lib.decDigits 1
def k7b:Ses:=⟨⟨[109,120],1000,10,0,true,false,[],[],[],[],0,0,false,0,false,false,1⟩,
 [⟨250,[[109,120],sizeW' ++Lib.decDigits 1000,YAa++Lib.decDigits 10]⟩,⟨250,[okW]⟩,⟨250,[okW]⟩,⟨354,[[103,111,32,111,110]]⟩,⟨250,[exId]⟩,⟨250,[okW]⟩],
 [⟨⟨[115,64,120],[⟨[97,64,121],1⟩],exId⟩,⟨[],[46,13,10]⟩⟩]⟩
theorem ex_feed:wza ⟨exS,[],[]⟩ exIn=k7b:=by kernel_rfl
theorem ex_small:k5b exS:=⟨by decide,⟨by decide,fun r hr=>by cases hr⟩,by decide,by decide,by decide⟩
theorem Zkb:exId=[109,120,45,49]:=by unfold exId;rw[kHa (by decide)];rfl
theorem ex_srv:srvF exS=⟨0,0⟩:=by kernel_rfl
theorem ex_new:newF [109,120] 1000 10=(exS,⟨220,[[109,120]]⟩,⟨0,0⟩):=by kernel_rfl
theorem ex_bad:newF [] 1 1=(zeroS,⟨0,[]⟩,⟨10, -20⟩):=by kernel_rfl
theorem ex_feedF:vpb exS exIn=(k7b.Server,k7b.replies,k7b.mails,⟨0,0⟩):=by
 unfold vpb;rw[ex_srv,if_neg (by decide),if_neg (by decide),ex_feed]
theorem Zlb:jZa=some true:=by
 unfold jZa;rw[(Zjb [109,120] 1000 10 (by decide)).1,ex_new];simp only[Option.bind_some];rw[show ([(104:UInt8),(101:UInt8),(108:UInt8),(108:UInt8),(111:UInt8),(32:UInt8),(99:UInt8),(13:UInt8),(10:UInt8),(109:UInt8),(97:UInt8),(105:UInt8),(108:UInt8),(32:UInt8),(60:UInt8),(115:UInt8),(64:UInt8),(120:UInt8),(62:UInt8),(13:UInt8),(10:UInt8),(114:UInt8),(99:UInt8),(112:UInt8),(116:UInt8),(32:UInt8),(60:UInt8),(97:UInt8),(64:UInt8),(121:UInt8),(62:UInt8),(13:UInt8),(10:UInt8),(100:UInt8),(97:UInt8),(116:UInt8),(97:UInt8),(13:UInt8),(10:UInt8),(13:UInt8),(10:UInt8),(46:UInt8),(46:UInt8),(13:UInt8),(10:UInt8),(46:UInt8),(13:UInt8),(10:UInt8),(110:UInt8),(111:UInt8),(111:UInt8),(112:UInt8),(13:UInt8),(10:UInt8)]:List UInt8)=exIn from rfl,Zib exS exIn ex_small (by decide),ex_feedF,(Zjb [] 1 1 (by decide)).1,ex_bad];simp only[Option.bind_some,jAa];rw[show idx k7b.replies 3=some ⟨354,[[103,111,32,111,110]]⟩ from rfl,show idx k7b.replies 4=some ⟨250,[exId]⟩ from rfl,show idx k7b.replies 5=some ⟨250,[okW]⟩ from rfl,show idx k7b.mails 0=some ⟨⟨[115,64,120],[⟨[97,64,121],1⟩],exId⟩,⟨[],[46,13,10]⟩⟩ from rfl];simp only[Option.bind_some];rw[kyb _ _ (by simp),Zkb];rfl
structure VS (s:zja):Prop where
 frm:s.From=[]∨kGa s.From=true
 len:(s.To.length:Int)<=s.Many
 tos:(recF s.To).Code=0
 greet:s.Mailing=true->s.Greeted=true
 quiet:s.Mailing=false->s.From=[]/\s.To=[]
 chunk:s.Chunked=true->s.To≠ []
 data:(s.Data.length:Int)<=s.Size
 lost:0<=s.Lost/\s.Lost<=1099511627776
 count:0<=s.Count/\s.Count<=1000000
 dat:s.Chunked=false->s.Phase≠1->s.Data=[]/\s.Lost=0
 p0:s.Phase=0->s.Buffer.length<=4001/\Zfb s.Buffer=false/\s.Dots=0/\s.Left=0/\s.Last=false/\s.Ignore=false
 p1:s.Phase=1->s.To≠ []/\s.Chunked=false/\s.Buffer=[]/\(0<=s.Dots/\s.Dots<=4)/\s.Left=0/\s.Last=false/\s.Ignore=false
 p2:s.Phase=2->s.Ignore=s.To.isEmpty/\s.Ignore= !s.Chunked/\s.Buffer=[]/\s.Dots=0/\(1<=s.Left/\s.Left<=1000000)
 p3:s.Phase=3->s.Mailing=false/\s.Buffer=[]/\s.Dots=0/\s.Left=0/\s.Last=false/\s.Ignore=false
 ph:s.Phase=0∨s.Phase=1∨s.Phase=2∨s.Phase=3
theorem keep_vs{x:Ses}(h:VS x.Server)(hs:1<=x.Server.Size)(hp:x.Server.Phase=1∨x.Server.Chunked=true)(c:UInt8):VS (qFa x c).Server:=by
 unfold qFa;obtain ⟨a1,a2,a3,a4,a5,a6,a7,a8,a9,a10,a11,a12,a13,a14,a15⟩:=h;have no:x.Server.Chunked=false->x.Server.Phase≠1->False:=fun e1 e2=>hp.elim e2 fun e=>by rw[e]at e1;cases e1
 split
 .rename_i hlt;exact ⟨a1,a2,a3,a4,a5,a6,by show ((x.Server.Data++ [c]).length:Int)<=_;simp;omega,a8,a9,fun e1 e2=>(no e1 e2).elim,a11,a12,a13,a14,a15⟩
 exact ⟨a1,a2,a3,a4,a5,a6,a7,⟨by show 0<=min _ _;omega,by show min _ _<=_;omega⟩,a9,fun e1 e2=>(no e1 e2).elim,a11,a12,a13,a14,a15⟩
theorem Zmb(x:Ses)(c:UInt8):(qFa x c).Server.Size=x.Server.Size/\(qFa x c).Server.Chunked=x.Server.Chunked:=by unfold qFa;split <;> exact ⟨rfl,rfl⟩
def idN(nm:Str)(k:Nat):Str:=nm++ [45]++Lib.decDigits k
theorem idN_inj{nm:Str}{j k:Nat}(h:idN nm j=idN nm k):j=k:=by
 have h:=List.append_cancel_left h;have:=Kza j;rw[h,Kza k]at this;exact (Option.some.inj this).symm
theorem idN_ok(nm:Str)(k:Nat): [idN nm k]≠ [okW]:=by
 intro h;have h:idN nm k=okW:=List.head_eq_of_cons_eq h;have h45:(45:UInt8)∈idN nm k:=by simp[idN]
 rw[h]at h45;simp[okW]at h45
theorem idN_name{nm:Str}{k:Nat}(h:wDa nm=true)(hl:nm.length<=40)(hk:k<=1000001):wDa (idN nm k)=true:=by
 have h7:=j7a hk;have hp:=zNb k;unfold wDa at h ⊢;simp only[Bool.and_eq_true,decide_eq_true_eq,List.all_eq_true]at h ⊢;refine ⟨⟨by simp[idN];omega,by simp[idN];omega⟩,fun c hc=>?_⟩;unfold idN at hc;rcases List.mem_append.1 hc with hc | hc
 .rcases List.mem_append.1 hc with hc | hc
  .exact h.2 c hc
  rw[List.mem_singleton.1 hc];rfl
 obtain ⟨h1,h2⟩:=vhb k c hc;have e:c=UInt8.ofNat c.toNat:=(UInt8.ofNat_toNat).symm;rw[e];have:c.toNat=48∨c.toNat=49∨c.toNat=50∨c.toNat=51∨c.toNat=52∨c.toNat=53∨c.toNat=54∨c.toNat=55∨c.toNat=56∨c.toNat=57:=by omega
 rcases this with h | h | h | h | h | h | h | h | h | h <;> rw[h] <;> rfl
def sdP(nm:Str)(k:Nat)(r:zLa):Bool:=r.Code==250 && r.Lines==[idN nm k]
def vqb(nm:Str)(R:List zLa)(k:Nat):Nat:=R.countP (sdP nm k)
def okM(nm:Str)(many:Int)(k:Nat)(m:zVa):Prop:=m.Envelope.Id=idN nm k/\kIb m=⟨0,0⟩/\(m.Envelope.To.length:Int)<=many/\kAb m.Envelope/\Yfa m.Message
structure MI (nm:Str) (mx:Int) (c0:Nat) (x:Ses):Prop where
 name:x.Server.Name=nm
 many:x.Server.Many=mx
 count:x.Server.Count=((c0+x.mails.length:Nat):Int)
 ok:∀i m,x.mails[i]? =some m->okM nm mx (c0+1+i) m
 said:∀i,vqb nm x.replies (c0+1+i)=if i < x.mails.length then 1 else 0
theorem MI.of{nm:Str}{many:Int}{c0:Nat}{x:Ses}(h:MI nm many c0 x){s:zja}(h1:s.Name=x.Server.Name)(h2:s.Many=x.Server.Many)(h3:s.Count=x.Server.Count):MI nm many c0 ⟨s,x.replies,x.mails⟩:=
 ⟨h1.trans h.name,h2.trans h.many,h3.trans h.count,h.ok,h.said⟩
theorem MI.say{nm:Str}{many:Int}{c0:Nat}{x:Ses}(h:MI nm many c0 x){code:Int}{l:List Str}(hl:code≠250∨l.length≠1∨l=[okW]):MI nm many c0 (sayS x code l):=by
 refine ⟨h.name,h.many,h.count,h.ok,fun i=>?_⟩;have e:sdP nm (c0+1+i) ⟨code,l⟩=false:=by
  unfold sdP;rcases hl with hl | hl | hl
  .simp[hl]
  .have:l≠ [idN nm (c0+1+i)]:=fun e=>hl (by rw[e];rfl)
   simp[this]
  subst hl;have:=(idN_ok nm (c0+1+i)).symm;simp only[beq_eq_false_iff_ne.2 this,Bool.and_false]
 rw[show (sayS x code l).mails=x.mails from rfl,<-h.said i];unfold vqb sayS;simp[e]
theorem mail_ok{m:zVa}(h1:m.Envelope.From=[]∨kGa m.Envelope.From=true)(h2:m.Envelope.To≠ [])(h3:m.Envelope.To.length<=60)(h4:wDa m.Envelope.Id=true)(h5:(recF m.Envelope.To).Code=0)(h6:(msgF m.Message).Code=0):kIb m=⟨0,0⟩:=by
 have hl:1<=m.Envelope.To.length:=by cases he:m.Envelope.To with
  | nil=>exact absurd he h2
  | cons=>simp
 have he:envF m.Envelope=recF m.Envelope.To:=by
  unfold envF;have e1:q6b m.Envelope.From=false:=by unfold q6b;rcases h1 with e | e <;> simp[e]
  have e2:(decide (m.Envelope.To.length < 1) || decide (60 < m.Envelope.To.length))=false:=by rw[decide_eq_false (by omega),decide_eq_false (by omega)];rfl
  rw[e1,e2,h4,if_neg (by decide),if_neg (by decide),if_neg (by simp)]
 unfold kIb;rw[he,h5,h6];rfl
structure DN (x:Ses):Prop where
 frm:x.Server.From=[]∨kGa x.Server.From=true
 ne:x.Server.To≠ []
 len:(x.Server.To.length:Int)<=x.Server.Many
 l60:x.Server.To.length<=60
 tos:(recF x.Server.To).Code=0
 data:x.Server.Data.length<=12000
 cnt:x.Server.Count<=1000000
 nm:wDa x.Server.Name=true/\x.Server.Name.length<=40
theorem yeb{l:List zca}(h:(recF l).Code=0)(hl:l.length<=60):Jta l:=⟨by omega,fun a ha=>by
 have:=Zxa ((zVb h).1 a ha).1;omega⟩
theorem yfb{b:List UInt8}(h:(wUa b).2=true):(wUa b).1=rawM b/\(msgF (rawM b)).Code=0:=by
 unfold wUa at h ⊢;by_cases h6:60 < (wTa b).2.length
 .rw[if_pos h6]at h;cases h
 rw[if_neg h6]at h ⊢;by_cases hz:(msgF (rawM b)).Code=0
 .rw[if_pos hz];exact ⟨rfl,hz⟩
 rw[if_neg hz]at h;cases h
theorem Znb(nm:Str)(R:List zLa)(r:zLa)(k:Nat):vqb nm (R++ [r]) k=vqb nm R k+if sdP nm k r then 1 else 0:=by
 unfold vqb;rw[List.countP_append,List.countP_singleton]
theorem MI.done{nm:Str}{many:Int}{c0:Nat}{x:Ses}(h:MI nm many c0 x)(d:DN x):MI nm many c0 (VUa x):=by
 unfold VUa;have ab:∀{y:Ses},MI nm many c0 y->MI nm many c0 (abS y):=fun hy=>hy.of rfl rfl rfl
 refine ab ?_;split
 .exact h.say (.inl (by decide))
 split
 .exact h.say (.inl (by decide))
 rename_i hn;have hr:(wUa x.Server.Data).2=true:=by
  cases e:(wUa x.Server.Data).2 with
  | true=>rfl
  | false=>exact absurd (.inl e) hn
 have hnc:x.Server.Count≠1000000:=fun e=>hn (.inr e)
 have hc:=h.count;have hid:idS x.Server=idN nm (c0+1+x.mails.length):=by
  unfold idS idN;rw[h.name,show (x.Server.Count+1).toNat=c0+1+x.mails.length by omega]
 have hk:∀i,sdP nm (c0+1+i) ⟨250,[idS x.Server]⟩=decide (i=x.mails.length):=fun i=>by
  unfold sdP;rw[hid];by_cases e:i=x.mails.length
  .subst e;simp
  have:idN nm (c0+1+x.mails.length)≠idN nm (c0+1+i):=fun q=>e (by have:=idN_inj q;omega)
  have:([idN nm (c0+1+x.mails.length)]==[idN nm (c0+1+i)])=false:=beq_eq_false_iff_ne.2 fun q=>this (List.head_eq_of_cons_eq q)
  rw[decide_eq_false e];simp only[this,Bool.and_false]
 obtain ⟨q1,q2⟩:=yfb hr;have hm:okM nm many (c0+1+x.mails.length) ⟨⟨x.Server.From,x.Server.To,idS x.Server⟩,(wUa x.Server.Data).1⟩:=by
  obtain ⟨d1,d2,d3,d4,d5,d6,d7,d8,d9⟩:=d;rw[h.name]at d8 d9;rw[h.many]at d3;have hnm:=idN_name d8 d9 (k:=c0+1+x.mails.length) (by omega);have h60:=jub hnm;rw[q1,hid];exact ⟨rfl,mail_ok d1 d2 d4 hnm d5 q2,d3,⟨by
   rcases d1 with e | e
   .show x.Server.From.length<=_;rw[e];simp
   have:=Zxa e;show x.Server.From.length<=_;omega,by show (idN nm (c0+1+x.mails.length)).length<=_;omega,yeb d5 d4⟩,VPa _ d6⟩
 refine ⟨h.name,h.many,?_,fun i m hi=>?_,fun i=>?_⟩
 .show x.Server.Count+1=((c0+(x.mails++ [_]).length:Nat):Int);rw[List.length_append];simp only[List.length_cons,List.length_nil];omega
 .have hi:(x.mails++ [(⟨⟨x.Server.From,x.Server.To,idS x.Server⟩,(wUa x.Server.Data).1⟩:zVa)])[i]? =some m:=hi;by_cases hl:i < x.mails.length
  .rw[List.getElem?_append_left hl]at hi;exact h.ok i m hi
  rw[List.getElem?_append_right (by omega)]at hi;have hz:i - x.mails.length=0:=by
   by_cases e:i - x.mails.length=0
   .exact e
   rw[List.getElem?_eq_none (by simp;omega)]at hi;cases hi
  rw[hz]at hi;have hi:=Option.some.inj hi;rw[<-hi,show i=x.mails.length by omega];exact hm
 show vqb nm (x.replies++ [⟨250,[idS x.Server]⟩]) (c0+1+i)=if i < (x.mails++ [_]).length then 1 else 0;rw[Znb,h.said i,hk i,List.length_append];simp only[List.length_cons,List.length_nil,decide_eq_true_eq];by_cases h1:i < x.mails.length
 .rw[if_pos h1,if_neg (by omega),if_pos (by omega)]
 by_cases h2:i=x.mails.length
 .rw[if_neg h1,if_pos h2,if_pos (by omega)]
 rw[if_neg h1,if_neg h2,if_neg (by omega)]
theorem MI.chunk{nm:Str}{many:Int}{c0:Nat}{x:Ses}(h:MI nm many c0 x)(d:x.Server.Ignore=false->DN x):MI nm many c0 (K5a x):=by
 unfold K5a;have h0:MI nm many c0 ⟨{x.Server with Phase:=0,Last:=false,Ignore:=false},x.replies,x.mails⟩:=h.of rfl rfl rfl;cases hi:x.Server.Ignore with
 | true=>exact h0.say (.inl (by decide))
 | false=>
  obtain ⟨d1,d2,d3,d4,d5,d6,d7,d8⟩:=d hi;cases x.Server.Last with
  | true=>exact h0.done ⟨d1,d2,d3,d4,d5,d6,d7,d8⟩
  | false=>exact h0.say (.inr (.inr rfl))
theorem MI.exec{nm:Str}{many:Int}{c0:Nat}{x:Ses}(h:MI nm many c0 x)(d:x.Server.To≠ []->DN x)(c:zma):MI nm many c0 (KIa x c):=by
 unfold KIa;split
 .exact MI.say (x:=⟨{(abS x).Server with Greeted:=true},x.replies,x.mails⟩) (h.of rfl rfl rfl) (.inr (.inl (by simp)))
 split
 .cases !x.Server.Greeted || x.Server.Mailing with
  | true=>exact h.say (.inl (by decide))
  | false=>
   simp only[cond_false];split
   .exact h.say (.inl (by decide))
   exact MI.say (x:=⟨{x.Server with Mailing:=true,From:=c.Address},x.replies,x.mails⟩) (h.of rfl rfl rfl) (.inr (.inr rfl))
 split
 .unfold k0b;cases !x.Server.Mailing || x.Server.Chunked with
  | true=>exact h.say (.inl (by decide))
  | false=>
   simp only[cond_false];split
   .exact h.say (.inl (by decide))
   exact MI.say (x:=⟨{x.Server with To:=addR x c},x.replies,x.mails⟩) (h.of rfl rfl rfl) (.inr (.inr rfl))
 split
 .cases x.Server.To.isEmpty || x.Server.Chunked with
  | true=>exact h.say (.inl (by decide))
  | false=>exact MI.say (x:=⟨{x.Server with Phase:=1},x.replies,x.mails⟩) (h.of rfl rfl rfl) (.inl (by decide))
 split
 .split
  .refine MI.chunk (x:=⟨{x.Server with Phase:=2,Left:=c.Size,Last:=c.Last,Ignore:=x.Server.To.isEmpty,Chunked:= !x.Server.To.isEmpty},x.replies,x.mails⟩) (h.of rfl rfl rfl) fun hi=>?_
   have hi:x.Server.To.isEmpty=false:=hi;obtain ⟨d1,d2,d3,d4,d5,d6,d7,d8⟩:=d fun e=>by rw[e]at hi;cases hi
   exact ⟨d1,d2,d3,d4,d5,d6,d7,d8⟩
  exact h.of rfl rfl rfl
 split
 .exact MI.say (x:=abS x) (h.of rfl rfl rfl) (.inr (.inr rfl))
 split
 .exact MI.say (x:=⟨{(abS x).Server with Phase:=3,Buffer:=[]},x.replies,x.mails⟩) (h.of rfl rfl rfl) (.inl (by decide))
 exact h.say (.inr (.inr rfl))
theorem DN.mk'{nm:Str}{many:Int}{c0:Nat}{x:Ses}{n:Nat}(h:MI nm many c0 x)(hsi:SI x n)(v:VS x.Server)(hn:wDa nm=true)(ht:x.Server.To≠ []):DN x:=
 ⟨v.frm,ht,v.len,hsi.tos.1,v.tos,by have:=hsi.data;have:=hsi.size;omega,hsi.count.2,by rw[h.name];exact hn,hsi.name⟩
theorem MI.keep{nm:Str}{many:Int}{c0:Nat}{x:Ses}(h:MI nm many c0 x)(c:UInt8):MI nm many c0 (qFa x c):=by
 unfold qFa;split <;> exact h.of rfl rfl rfl
theorem MI.byte{nm:Str}{many:Int}{c0:Nat}{x:Ses}{n:Nat}(h:MI nm many c0 x)(hsi:SI x n)(v:VS x.Server)(hn:wDa nm=true)(c:UInt8):MI nm many c0 (yEa x c):=by
 have dn:=DN.mk' h hsi v hn;unfold yEa;split
 .unfold zRb;have hb:MI nm many c0 (bufS x []):=h.of rfl rfl rfl;split
  .dsimp only;split
   .exact hb.say (.inl (by decide))
   split
   .refine hb.exec (fun ht=>?_) _;obtain ⟨d1,d2,d3,d4,d5,d6,d7,d8⟩:=dn ht;exact ⟨d1,d2,d3,d4,d5,d6,d7,d8⟩
   exact hb.say (.inl (by decide))
  split
  .exact MI.say (x:=⟨{(abS x).Server with Phase:=3,Buffer:=[]},x.replies,x.mails⟩) (h.of rfl rfl rfl) (.inl (by decide))
  exact h.of rfl rfl rfl
 split
 .rename_i hp;unfold VVa;split
  .exact h.of rfl rfl rfl
  split
  .exact h.of rfl rfl rfl
  split
  .refine MI.done (x:=⟨{x.Server with Phase:=0,Dots:=0},x.replies,x.mails⟩) (h.of rfl rfl rfl) ?_;obtain ⟨d1,d2,d3,d4,d5,d6,d7,d8⟩:=dn (v.p1 hp).1;exact ⟨d1,d2,d3,d4,d5,d6,d7,d8⟩
  split
  .exact MI.of ((h.keep 13).keep c) rfl rfl rfl
  exact MI.of (h.keep c) rfl rfl rfl
 split
 .rename_i hp;have hy:MI nm many c0 (bif x.Server.Ignore then x else qFa x c)/\((bif x.Server.Ignore then x else qFa x c).Server.Ignore=false->DN (bif x.Server.Ignore then x else qFa x c)):=by
   cases hi:x.Server.Ignore with
   | true=>exact ⟨h,fun e=>absurd (hi.symm.trans e) (by decide)⟩
   | false=>
    have hch:x.Server.Chunked=true:=by
     have:=(v.p2 hp).2.1;rw[hi]at this;cases hx:x.Server.Chunked with
     | true=>rfl
     | false=>rw[hx]at this;cases this
    have hk:=keep_vs v hsi.size.1 (.inr hch) c;refine ⟨h.keep c,fun _=>DN.mk' (h.keep c) (Zya hsi c) hk hn ?_⟩;exact hk.chunk (by rw[(Zmb x c).2];exact hch)
  generalize (bif x.Server.Ignore then x else qFa x c)=y at hy;obtain ⟨hy,hd⟩:=hy;dsimp only;split
  .refine MI.chunk (x:=⟨{y.Server with Left:=y.Server.Left - 1},y.replies,y.mails⟩) (hy.of rfl rfl rfl) fun hi=>?_
   obtain ⟨d1,d2,d3,d4,d5,d6,d7,d8⟩:=hd hi;exact ⟨d1,d2,d3,d4,d5,d6,d7,d8⟩
  exact hy.of rfl rfl rfl
 exact h
theorem MI.start{s:zja}(h:0<=s.Count):MI s.Name s.Many s.Count.toNat ⟨s,[],[]⟩:=
 ⟨rfl,rfl,by show s.Count=((s.Count.toNat+0:Nat):Int);omega,fun i m hi=>(by cases hi),fun i=>by
  show vqb s.Name [] _=if i < 0 then 1 else 0;rw[if_neg (by omega)];rfl⟩
theorem vrb:∀(k:Nat) (l:List UInt8) (c n:Nat),l.length<=k->KGa c l=none->l.length<=n->yZa n l=l
 | _,[],c,n,_,_,_=>by cases n <;> rfl
 | k,[x],c,n,_,h,hn=>by
  unfold KGa at h;have hx:(x==13 || x==10)=false:=by
   cases hq:x==13 || x==10 with
   | false=>rfl
   | true=>rw[if_pos hq]at h;cases h
  simp only[Bool.or_eq_false_iff,beq_eq_false_iff_ne]at hx;cases n with
  | zero=>simp at hn
  | succ n=>
   unfold yZa;rw[if_neg hx.1,if_neg hx.2];cases n <;> rfl
 | 0,x::y::r,c,n,hk,_,_=>by simp at hk
 | k+1,x::y::r,c,n,hk,h,hn=>by
  unfold KGa at h;cases n with
  | zero=>simp at hn
  | succ n=>
   simp only[List.length_cons]at hk hn;by_cases h1:(x==13 && y==10)=true
   .rw[if_pos h1]at h;simp only[Bool.and_eq_true,beq_iff_eq]at h1;obtain ⟨rfl,rfl⟩:=h1;unfold yZa;rw[if_pos rfl,if_pos (by rfl),show (10::r:List UInt8).drop 1=r from rfl,vrb k r 0 n (by omega) h (by omega)]
   rw[if_neg h1]at h;have hx:(x==13 || x==10)=false:=by
    cases hq:x==13 || x==10 with
    | false=>rfl
    | true=>rw[if_pos hq]at h;cases h
   rw[hx]at h;simp only[Bool.or_eq_false_iff,beq_eq_false_iff_ne]at hx;have h9:KGa (c+1) (y::r)=none:=by
    by_cases h9:998 < c+1
    .rw[if_pos h9]at h;simp at h
    rw[if_neg h9]at h;simpa using h
   unfold yZa;rw[if_neg hx.1,if_neg hx.2,vrb k (y::r) (c+1) n (by simp only[List.length_cons];omega) h9 (by simp only[List.length_cons];omega)]
theorem zWb(l r:List UInt8)(h:(10:UInt8) ∉ l):yka (l++13::10::r)=(l,l.length+2):=by
 have e:eol (l++13::10::r)=l.length+1:=by
  unfold eol;rw[List.findIdx_append];have h1:l.findIdx (· ==10)=l.length:=List.findIdx_eq_length.2 fun x hx=>by
   rw[beq_eq_false_iff_ne];intro e;subst e;exact h hx
  rw[h1,if_neg (by omega)];simp[List.findIdx_cons];omega
 unfold yka;rw[e,if_pos (by simp)];have e2:(l++13::10::r).take (l.length+1)=l++ [13]:=by
  rw[show l++13::10::r=(l++ [13])++10::r by simp,List.take_left' (by simp)]
 rw[e2];have e3:chop (l++ [13])=l:=by
  unfold chop;rw[if_pos (List.isSuffixOf_iff_suffix.2 ⟨l,rfl⟩)];simp
 rw[e3]
theorem wob{l:Str}(h:∀b,l.getLast? =some b->zIa b=false):vUa l=l:=by
 rcases List.eq_nil_or_concat l with rfl | ⟨p,x,rfl⟩
 .rfl
 rw[List.concat_eq_append]at h ⊢;rw[VNa,h x (by simp)];rfl
theorem ltrim_id{l:Str}(h:∀b,l.head? =some b->zIa b=false):jDa l=l:=by
 cases l with
 | nil=>rfl
 | cons x l=>unfold jDa;rw[List.dropWhile_cons,h x rfl];rfl
theorem clean_id{v:Str}(h:∀c∈v,endC c=false):v.map kka=v:=by
 have:v.map kka=v.map id:=List.map_congr_left fun c hc=>by
  have:=h c hc;unfold endC at this;simp only[Bool.or_eq_false_iff,beq_eq_false_iff_ne]at this;unfold kka;rw[if_neg (fun e=>e.elim this.2 this.1.1)];rfl
 rw[this,List.map_id]
theorem clean_rt{v:Str}(h:valP v=true):jpa (32::v)=v:=by
 unfold valP at h;simp only[Bool.and_eq_true,Bool.not_eq_true',List.any_eq_false,Bool.not_eq_true]at h;obtain ⟨h1,h2⟩:=h;unfold jpa;have e:(32::v:Str).map kka=32::v:=by
  rw[List.map_cons,clean_id h1];rfl
 rw[e];have e2:jDa (32::v)=jDa v:=by unfold jDa;rw[List.dropWhile_cons];rfl
 have hed:∀a b,v.head? =some a->v.getLast? =some b->zIa a=false/\zIa b=false:=fun a b ha hb=>by
  unfold wZb at h2;rw[ha,hb]at h2;simpa using h2
 have e3:jDa v=v:=ltrim_id fun b hb=>by
  have hne:v≠ []:=fun e=>by rw[e]at hb;cases hb
  exact (hed b _ hb (List.getLast?_eq_some_getLast hne)).1
 have e4:vUa v=v:=wob fun b hb=>by
  cases hv:v with
  | nil=>rw[hv]at hb;cases hb
  | cons x t=>exact (hed x b (by rw[hv];rfl) hb).2
 rw[e2,e3,e4]
theorem wpb{t:Str}{f c:Nat}(h:br t f c=true):∃b r,t.drop c=b::r/\zIa b=true:=by
 obtain ⟨h1,h2,h3⟩:=zCb h;rw[br_at h2 h1]at h;simp only[Bool.and_eq_true]at h;exact ⟨t[c],t.drop (c+1),List.drop_eq_getElem_cons h1,h.2.1⟩
theorem cut_br{t:Str}{f:Nat}(h:cutP t f≠0):br t f (cutP t f)=true:=by
 rcases q9b t f with h1 | h1
 .exact absurd h1.1 h
 exact h1.1
theorem YFa:∀(n:Nat) (t:Str) (f:Nat),t.length<=n->(∃b r,t=b::r/\zIa b=true)->∀l∈yra t f,∃b r,l=b::r/\zIa b=true
 | 0,t,f,hn,⟨b,r,e,_⟩=>by rw[e]at hn;simp at hn
 | n+1,t,f,hn,⟨b,r,e,hb⟩=>fun l hl=>by
  by_cases h78:78 < t.length
  .by_cases hc:cutP t f=0
   .rw[k5a (.inr hc),List.mem_singleton]at hl;exact ⟨b,r,hl.trans e,hb⟩
   have hp:=Zsa hc;rw[jla h78 hc]at hl;rcases List.mem_cons.1 hl with h1 | h1
   .obtain ⟨k,hk⟩:∃k,cutP t f=k+1:=⟨cutP t f - 1,by omega⟩;rw[hk,e]at h1;exact ⟨b,r.take k,by rw[h1];rfl,hb⟩
   exact YFa n (t.drop (cutP t f)) 1 (by simp;omega) (wpb (cut_br hc)) l h1
  rw[k5a (.inl h78),List.mem_singleton]at hl;exact ⟨b,r,hl.trans e,hb⟩
theorem Zob(n v:Str):∃(v1:Str) (L:List Str),flP n v=(n++58::32::v1)::L/\v1++L.flatten=v/\∀l∈L,∃b r,l=b::r/\zIa b=true:=by
 have ht:txt n v=n++58::32::v:=by unfold txt;simp
 unfold flP;by_cases h78:78 < (txt n v).length
 .by_cases hc:cutP (txt n v) (n.length+2)=0
  .rw[k5a (.inr hc),ht];exact ⟨v,[],rfl,by simp,by simp⟩
  have hb:=cut_br hc;obtain ⟨h1,h2,h3⟩:=zCb hb;have hj:=(jma _ (txt n v) (n.length+2) (Nat.le_refl _)).1;rw[jla h78 hc]at hj ⊢;have e:(txt n v).take (cutP (txt n v) (n.length+2))=n++58::32::v.take (cutP (txt n v) (n.length+2) - (n.length+2)):=by
   rw[show txt n v=(n++ [58,32])++v by rw[ht];simp,List.take_append];rw[List.take_of_length_le (by simp;rw[<-ht];exact h3)];simp
  refine ⟨_,_,by rw[e],?_,YFa _ _ 1 (Nat.le_refl _) (wpb hb)⟩;rw[List.flatten_cons,e,ht,List.append_assoc]at hj;have:=List.append_cancel_left hj;simpa[ht]using this
 rw[k5a (.inl h78),ht];exact ⟨v,[],rfl,by simp,by simp⟩
theorem wqb{n:Str}(h:fnP n=true):n≠ []/\∀c∈n,fnC c=true:=by
 unfold fnP at h;simp only[Bool.and_eq_true,bne_iff_ne,ne_eq,List.all_eq_true]at h;exact ⟨h.1.1,h.2⟩
theorem wrb{c:UInt8}(h:fnC c=true):c≠58/\c≠10/\c≠13/\zIa c=false:=by
 unfold fnC at h;simp only[Bool.and_eq_true,decide_eq_true_eq,bne_iff_ne]at h;have h33:(33:UInt8).toNat<=c.toNat:=UInt8.le_iff_toNat_le.1 h.1.1;have k:(33:UInt8).toNat=33:=rfl;refine ⟨h.2,?_,?_,?_⟩
 .rintro rfl;exact absurd h33 (by decide)
 .rintro rfl;exact absurd h33 (by decide)
 unfold zIa;rw[Bool.or_eq_false_iff,beq_eq_false_iff_ne,beq_eq_false_iff_ne];constructor
 .rintro rfl;exact absurd h33 (by decide)
 rintro rfl;exact absurd h33 (by decide)
theorem colP_at{n v1:Str}(h:fnP n=true):colP (n++58::32::v1)=(n,32::v1,true):=by
 obtain ⟨h1,h2⟩:=wqb h;have e:colI (n++58::32::v1)=n.length:=by
  unfold colI;rw[List.findIdx_append];have h3:n.findIdx (· ==58)=n.length:=List.findIdx_eq_length.2 fun x hx=>by
   rw[beq_eq_false_iff_ne];exact (wrb (h2 x hx)).1
  rw[h3,if_neg (by omega)];simp[List.findIdx_cons]
 have er:vUa n=n:=wob fun b hb=>(wrb (h2 b (List.mem_of_getLast? hb))).2.2.2
 unfold colP;rw[e,if_pos (by simp),List.take_left' rfl,er,h];have:(n++58::32::v1).drop (n.length+1)=32::v1:=by
  rw[show n++58::32::v1=(n++ [58])++32::v1 by simp,List.drop_left' (by simp)]
 rw[this]
def crs(l:Str):List UInt8:=l++ [13,10]
theorem k8b(fs:List zha)(f:zha)(t:Str):Zua (fs++ [f]) t=fs++ [⟨f.Name,f.Value++t⟩]:=by
 unfold Zua;have e:(fs++ [f])[(fs++ [f]).length - 1]? =some f:=by simp
 rw[e];simp
theorem k9b{b:List UInt8}{s s' :Nat × List zha}(d:Nat × List zha)(n:Nat)(h:qla b s=.inl s'):Kca (qla b) d (n+1) s=Kca (qla b) d n s' :=by
 rw[Kca,h]
theorem wsb(b:List UInt8)(d:Nat × List zha)(n:Nat)(fs:List zha):∀(L:List Str) (p r:List UInt8) (f:zha),(∀l∈L,(10:UInt8) ∉ l/\∃c t,l=c::t/\zIa c=true)->b=p++(L.flatMap crs++r)->
 Kca (qla b) d (n+L.length) (p.length,fs++ [f])=Kca (qla b) d n ((p++L.flatMap crs).length,fs++ [⟨f.Name,f.Value++L.flatten⟩])
 | [],p,r,f,_,_=>by simp
 | l::L,p,r,f,hL,hb=>by
  obtain ⟨h10,c,t,e,hc⟩:=hL l (by simp);have hb2:b=(p++crs l)++(L.flatMap crs++r):=by rw[hb];simp
  have hd:b.drop p.length=l++13::10::(L.flatMap crs++r):=by
   rw[hb,List.drop_left' rfl];simp[crs]
  have hs:qla b (p.length,fs++ [f])=.inl ((p++crs l).length,fs++ [⟨f.Name,f.Value++l⟩]):=by
   unfold qla;dsimp only;rw[if_pos (by rw[hb,List.flatMap_cons];simp[crs];omega),hd,zWb _ _ h10];dsimp only;rw[e];dsimp only;rw[if_pos ⟨hc,by simp⟩,<-e,k8b];simp[crs]
  rw[List.length_cons,show n+(L.length+1)=(n+L.length)+1 by omega,k9b d _ hs,wsb b d n fs L (p++crs l) r ⟨f.Name,f.Value++l⟩ (fun x hx=>hL x (by simp[hx])) hb2];simp
theorem field_rt(b:List UInt8)(d:Nat × List zha)(n:Nat)(fs:List zha)(f:zha)(hf:yDa f=0)(p r:List UInt8)(hb:b=p++((flP f.Name f.Value).flatMap crs++r)):
 Kca (qla b) d (n+(flP f.Name f.Value).length) (p.length,fs)=Kca (qla b) d n ((p++(flP f.Name f.Value).flatMap crs).length,fs++ [⟨f.Name,32::f.Value⟩]):=by
 rw[Q0a]at hf;unfold vbb at hf;have hn:fnP f.Name=true:=by
  cases e:fnP f.Name with
  | true=>rfl
  | false=>rw[e,if_pos (by simp)]at hf;exact absurd hf (by decide)
 rw[hn,if_neg (by simp)]at hf;have hv4:¬4000 < f.Value.length:=fun e=>by rw[if_pos e]at hf;exact absurd hf (by decide)
 rw[if_neg hv4]at hf;have hv:valP f.Value=true:=by
  cases e:valP f.Value with
  | true=>rfl
  | false=>rw[e,if_pos (by simp)]at hf;exact absurd hf (by decide)
 obtain ⟨h1,h2⟩:=wqb hn;have hj:=(jma _ (txt f.Name f.Value) (f.Name.length+2) (Nat.le_refl _)).1;have no10:(10:UInt8) ∉ txt f.Name f.Value:=by
  intro h;unfold txt at h;rcases List.mem_append.1 h with h | h
  .rcases List.mem_append.1 h with h | h
   .exact (wrb (h2 _ h)).2.1 rfl
   simp at h
  unfold valP at hv;simp only[Bool.and_eq_true,Bool.not_eq_true',List.any_eq_false]at hv;exact hv.1 _ h rfl
 have no10l:∀l∈flP f.Name f.Value,(10:UInt8) ∉ l:=fun l hl h=>no10 (by
  rw[<-hj];exact List.mem_flatten.2 ⟨l,hl,h⟩)
 obtain ⟨v1,L,e1,e2,e3⟩:=Zob f.Name f.Value;rw[e1]at hb no10l ⊢;have hfirst:=no10l _ (List.mem_cons_self ..);have hb2:b=(p++crs (f.Name++58::32::v1))++(L.flatMap crs++r):=by rw[hb];simp
 have hd:b.drop p.length=(f.Name++58::32::v1)++13::10::(L.flatMap crs++r):=by
  rw[hb,List.drop_left' rfl];simp[crs]
 have hs:qla b (p.length,fs)=.inl ((p++crs (f.Name++58::32::v1)).length,fs++ [⟨f.Name,32::v1⟩]):=by
  unfold qla;dsimp only;rw[if_pos (by rw[hb,List.flatMap_cons];simp[crs];omega),hd,zWb _ _ hfirst];dsimp only;obtain ⟨c,t,hct⟩:∃c t,f.Name=c::t:=List.exists_cons_of_ne_nil h1;have hc:zIa c=false:=(wrb (h2 c (by rw[hct];simp))).2.2.2;have e4:f.Name++58::32::v1=c::(t++58::32::v1):=by rw[hct];rfl
  rw[e4];dsimp only;rw[<-e4,if_neg (by rw[hc];simp),colP_at hn,if_pos rfl];simp[crs];omega
 rw[List.length_cons,show n+(L.length+1)=(n+L.length)+1 by omega,k9b d _ hs,wsb b d n fs L _ r ⟨f.Name,32::v1⟩ (fun l hl=>⟨no10l l (by simp[hl]),e3 l hl⟩) hb2];rw[<-e2];simp
def vEa(f:zha):List UInt8:=(flP f.Name f.Value).flatMap crs
theorem addF_eq(a:List UInt8)(f:zha):addF a f=a++vEa f:=by
 unfold addF vEa;have key:∀(L:List Str) (a:List UInt8),L.foldl addL a=a++L.flatMap crs:=by
  intro L;induction L with
  | nil=>intro a;simp
  | cons l L ih=>intro a;rw[List.foldl_cons,ih];simp[addL,crs]
 exact key _ a
theorem Zpb(L:List zha)(a:List UInt8):L.foldl addF a=a++L.flatMap vEa:=by
 induction L generalizing a with
 | nil=>simp
 | cons f L ih=>rw[List.foldl_cons,ih,addF_eq];simp
theorem YGa(m:zsa):z1a m=m.Fields.flatMap vEa++13::10::m.Body:=by
 unfold z1a;rw[Zpb];simp
def j8a(L:List zha):Nat:=(L.map fun f=>(flP f.Name f.Value).length).sum
theorem qab(b:List UInt8)(d:Nat × List zha)(n:Nat):∀(L:List zha) (fs:List zha) (p r:List UInt8),(∀f∈L,yDa f=0)->b=p++(L.flatMap vEa++r)->
 Kca (qla b) d (n+j8a L) (p.length,fs)=Kca (qla b) d n ((p++L.flatMap vEa).length,fs++L.map fun f=>⟨f.Name,32::f.Value⟩)
 | [],fs,p,r,_,_=>by simp[j8a]
 | f::L,fs,p,r,hL,hb=>by
  have hb2:b=(p++vEa f)++(L.flatMap vEa++r):=by rw[hb];simp
  have e:j8a (f::L)=j8a L+(flP f.Name f.Value).length:=by unfold j8a;simp;omega
  rw[e,show n+(j8a L+(flP f.Name f.Value).length)=(n+j8a L)+(flP f.Name f.Value).length by omega];rw[field_rt b d (n+j8a L) fs f (hL f (by simp)) p (L.flatMap vEa++r) (by rw[hb];simp[vEa])];have:=qab b d n L (fs++ [⟨f.Name,32::f.Value⟩]) (p++vEa f) r (fun g hg=>hL g (by simp[hg])) hb2;unfold vEa at this ⊢;rw[this];simp
theorem crs_len(L:List Str):L.length<=(L.flatMap crs).length:=by
 induction L with
 | nil=>simp
 | cons l L ih=>simp[crs]at ih ⊢;omega
theorem ygb(L:List zha):j8a L<=(L.flatMap vEa).length:=by
 induction L with
 | nil=>simp[j8a]
 | cons f L ih=>
  have:=crs_len (flP f.Name f.Value);unfold j8a at ih ⊢;simp only[List.map_cons,List.sum_cons,List.flatMap_cons,List.length_append];unfold vEa at ih ⊢;omega
theorem Zqb{m:zsa}(h:∀f∈m.Fields,yDa f=0):wTa (z1a m)=((m.Fields.flatMap vEa).length+2,m.Fields.map fun f=>⟨f.Name,32::f.Value⟩):=by
 unfold wTa;have hb:=YGa m;have hl:=ygb m.Fields;have hlen:(z1a m).length=(m.Fields.flatMap vEa).length+2+m.Body.length:=by rw[hb];simp;omega
 rw[show (z1a m).length+1=((z1a m).length - j8a m.Fields)+1+j8a m.Fields by omega];rw[show ((0,[]):Nat × List zha)=(([]:List UInt8).length,[]) from rfl];rw[qab (z1a m) _ _ m.Fields [] [] (13::10::m.Body) h (by rw[hb];rfl)];simp only[List.nil_append];have hs:qla (z1a m) ((m.Fields.flatMap vEa).length,m.Fields.map fun f=>⟨f.Name,32::f.Value⟩)=.inr ((m.Fields.flatMap vEa).length+2,m.Fields.map fun f=>⟨f.Name,32::f.Value⟩):=by
  unfold qla;dsimp only;have hd:(z1a m).drop (m.Fields.flatMap vEa).length=[]++13::10::m.Body:=by
   rw[hb,List.drop_left' rfl];rfl
  rw[if_pos (by omega),hd,zWb [] _ (by simp)];rfl
 rw[Kca,hs]
theorem YHa{m:zsa}(h:(msgF m).Code=0):m.Fields.length<=60/\(∀f∈m.Fields,yDa f=0)/\(z1a m).length<=12000/\KGa 0 m.Body=none:=by
 unfold msgF at h;have hh:(ZLa m.Fields).Code=0:=by
  by_cases hz:(ZLa m.Fields).Code=0
  .exact hz
  rw[if_pos (by simpa using hz)]at h;exact h
 obtain ⟨q1,q2,q3⟩:=j2a _ hh;rw[hh,if_neg (by decide)]at h;have hl:¬12000 < (z1a m).length:=fun e=>by rw[if_pos e]at h;exact absurd h (by decide)
 rw[if_neg hl]at h;refine ⟨by omega,q3,by omega,?_⟩;unfold jDb at h;cases hb:KGa 0 m.Body with
 | none=>rfl
 | some x=>
  rw[hb]at h;cases x <;> exact absurd h (by decide)
theorem rawM_rt{m:zsa}(h:(msgF m).Code=0):rawM (z1a m)=m:=by
 obtain ⟨h1,h2,h3,h4⟩:=YHa h;unfold rawM;rw[Zqb h2];dsimp only;have hd:(z1a m).drop ((m.Fields.flatMap vEa).length+2)=m.Body:=by
  rw[YGa,show m.Fields.flatMap vEa++13::10::m.Body=(m.Fields.flatMap vEa++ [13,10])++m.Body by simp,List.drop_left' (by simp)]
 rw[hd,vrb _ m.Body 0 _ (Nat.le_refl _) h4 (Nat.le_refl _),List.map_map];have:m.Fields.map (vDa ∘ fun f=>⟨f.Name,32::f.Value⟩)=m.Fields.map id:=List.map_congr_left fun f hf=>by
  have hc:=h2 f hf;have hv:valP f.Value=true:=by
   rw[Q0a]at hc;unfold vbb at hc;cases e:valP f.Value with
   | true=>rfl
   | false=>
    rw[e]at hc;split at hc
    .exact absurd hc (by decide)
    split at hc
    .exact absurd hc (by decide)
    rw[if_pos (by decide)]at hc;exact absurd hc (by decide)
  show vDa ⟨f.Name,32::f.Value⟩=f;unfold vDa;rw[clean_rt hv]
 rw[this,List.map_id]
theorem readP_rt{m:zsa}(h:(msgF m).Code=0):wUa (z1a m)=(m,true):=by
 obtain ⟨h1,h2,h3,h4⟩:=YHa h;unfold wUa;rw[rawM_rt h,Zqb h2,if_neg (by simp;omega),if_pos h]
theorem Zrb{s:Str}(h:kGa s=true):(32:UInt8) ∉ s:=by
 unfold kGa at h;simp only[Bool.and_eq_true,decide_eq_true_eq,List.all_eq_true]at h;obtain ⟨⟨⟨⟨h1,h2⟩,h3⟩,h4⟩,h5⟩:=h;unfold domP at h5;simp only[Bool.and_eq_true,decide_eq_true_eq,List.all_eq_true]at h5;intro hm;have hs:s=s.take (atP s)++s[atP s]::s.drop (atP s+1):=by
  rw[<-List.drop_eq_getElem_cons h1,List.take_append_drop]
 rw[hs]at hm;have hat:s[atP s]=64:=by
  have:=List.findIdx_getElem (xs:=s) (p:=(· ==64)) (w:=h1);exact (by simpa using this:s[List.findIdx (fun x=>x==64) s]=64)
 rcases List.mem_append.1 hm with h6 | h6
 .exact absurd (h4 _ h6) (by decide)
 rcases List.mem_cons.1 h6 with h7 | h7
 .rw[hat]at h7;exact absurd h7 (by decide)
 exact absurd (h5.1.2 _ h7) (by decide)
theorem QAa{x:Str}(r:Str)(hx:x≠ [])(h:(32:UInt8) ∉ x):vma (x++32::r)=x::vma r:=by
 unfold vma;rw[w9b h,kTb];cases x with
 | nil=>exact absurd rfl hx
 | cons b t=>rfl
theorem JOa{x:Str}(hx:x≠ [])(h:(32:UInt8) ∉ x):vma x=[x]:=by
 have e:=Kga (c:=32) (k:=x) (r:=[]) (x:=[]) (l:=[]) h rfl;rw[List.append_nil]at e;unfold vma;rw[e];cases x with
 | nil=>exact absurd rfl hx
 | cons b t=>rfl
theorem Zsb(a:Str):angP ([60]++a++ [62])=some a:=by
 unfold angP;simp
theorem Ztb:∀{s:Str},(∀c∈s,¬(65<=c.toNat/\c.toNat<=90))->lowP s=s
 | [],_=>rfl
 | b::s,h=>by
  have hb:=h b (by simp);have ih:=Ztb (s:=s) fun c hc=>h c (by simp[hc])
  unfold lowP at ih ⊢;rw[List.map_cons,ih];have:lowC b=b:=by
   unfold lowC;have e:(decide ((65:UInt8)<=b) && decide (b<=90))=false:=by
    cases hq:decide ((65:UInt8)<=b) && decide (b<=90) with
    | false=>rfl
    | true=>
     simp only[Bool.and_eq_true,decide_eq_true_eq,UInt8.le_iff_toNat_le]at hq;exact absurd hq hb
   rw[e];rfl
  rw[this]
theorem optP_id(n t:Str)(hn:∀c∈n,¬(65<=c.toNat/\c.toNat<=90))(ht:∀c∈t,¬(65<=c.toNat/\c.toNat<=90)):optP (n++ [61]++t) n=some t:=by
 have hl:lowP (n++ [61]++t)=n++ [61]++t:=Ztb fun c hc=>by
  simp only[List.mem_append,List.mem_singleton]at hc;rcases hc with (hc | rfl) | hc
  .exact hn c hc
  .decide
  exact ht c hc
 unfold optP;rw[hl];have:(n++ [61]).isPrefixOf (n++ [61]++t)=true:=by rw[List.isPrefixOf_iff_prefix];exact List.prefix_append _ _
 rw[if_pos this]
 congr 1
 rw[List.drop_append_of_le_length (by simp)];simp
theorem Zub:∀k:Fin 8,KHa (jGa.getD k.val [])=some (k.val:Int)/\(∀c∈jGa.getD k.val [],¬(65<=c.toNat/\c.toNat<=90))/\(32:UInt8) ∉ jGa.getD k.val []:=by decide
theorem yhb{n:Int}(h:0<=n/\n<=7):KHa (ZMa n)=some n/\(∀c∈ZMa n,¬(65<=c.toNat/\c.toNat<=90))/\(32:UInt8) ∉ ZMa n:=by
 have:=Zub ⟨n.toNat,by omega⟩;dsimp only at this;rw[show ((n.toNat:Nat):Int)=n by omega]at this;exact this
def dot0:Str->Bool
 | c::_=>c==46
 | []=>false
def wfa(l:Str):Str:=if dot0 l then 46::l else l
def wXa(ls:List Str):Str:=ls.flatMap fun x=>wfa x++ [13,10]
theorem yib(l cur:List UInt8):(fl cur l).2=[]↔(l=[]/\cur=[])∨ [13,10] <:+l:=by
 fun_induction fl cur l with
 | case1 cur=>simp
 | case2 cur c=>
  simp;intro h;have:=h.length_le;simp at this
 | case3 cur c d r h ih=>
  obtain ⟨rfl,rfl⟩:=h;simp only[ih,List.suffix_cons_iff];simp
 | case4 cur c d r h ih=>
  rw[ih,List.suffix_cons_iff (a:=c)];simp;intro h1 h2 _;exact absurd ⟨h1.symm,h2.symm⟩ h
theorem KAa(x:Str):(wfa x).length<=x.length+1/\x.length<=(wfa x).length:=by unfold wfa;split <;> simp
theorem flat_len(ls:List Str):(ls.flatMap fun x=>x++ [13,10]).length>=2 * ls.length:=by
 induction ls with
 | nil=>simp
 | cons x r ih=>simp at ih ⊢;omega
theorem vsb(ls:List Str):(wXa ls).length<=(ls.flatMap fun x=>x++ [13,10]).length+ls.length:=by
 induction ls with
 | nil=>simp[wXa]
 | cons x r ih=>
  have:=(KAa x).1;unfold wXa at ih ⊢;simp at ih ⊢;omega
def QBa(ls:List Str):Str:=ls.flatMap fun x=>x++ [13,10]
theorem Zvb:QBa []=[]:=rfl
theorem JPa(x:Str)(r:List Str):QBa (x::r)=x++13::10::QBa r:=by simp[QBa]
theorem YIa(x:Str)(r:List Str):(QBa (x::r)).length=x.length+2+(QBa r).length:=by simp[JPa];omega
theorem wtb(a:List UInt8):QBa (fl [] a).1++(fl [] a).2=a:=j9b a []
theorem wub(a:List UInt8):(QBa (fl [] a).1).length+(fl [] a).2.length=a.length:=by
 have:=congrArg List.length (wtb a);simpa only[List.length_append]using this
def KKa:List Str->Str
 | []=>[]
 | [x]=>wfa x
 | x::y::r=>wfa x++ [13,10]++KKa (y::r)
theorem zXb(ls:List Str):KKa (ls++ [[]])=wXa ls:=by
 induction ls with
 | nil=>rfl
 | cons x r ih=>
  cases r with
  | nil=>simp[KKa,wXa,wfa,dot0]
  | cons y r=>simp only[List.cons_append,KKa]at ih ⊢;rw[ih];simp[wXa]
theorem Zwb(a:List UInt8)(ha:a.length < 1099511627776):ksb a=some (KKa ((fl [] a).1++ [(fl [] a).2])++ [46,13,10]):=by
 unfold ksb;have hl:QVa a=qaa a:=rfl;have h0:=vnb a (by omega) _ 0 1 [] (by omega) rfl (by simp) (by omega) (by omega);simp only[List.drop_zero,List.nil_append,Nat.sub_self,List.take_zero]at h0;have e:(((0:Nat):Int),((1:Nat):Int),([]:List Str))=(0,1,[]):=rfl;rw[e]at h0;have hs:=fl_size a [];have hj:=wub a;simp at hs;rw[hl,h0];simp only[Option.bind_some];rw[yXa (by omega),fl_rest];simp only[Option.bind_some];rw[zYa (by simp;omega)];simp only[Option.bind_some];have hsl:∀ls:List Str,(KKa ls).length<=(QBa ls).length+ls.length:=by
  intro ls
  fun_induction KKa ls with
  | case1=>simp
  | case2 x=>have:=(KAa x).1;rw[YIa];simp;omega
  | case3 x y r ih=>have:=(KAa x).1;rw[YIa];simp at ih ⊢;omega
 have hb:=hsl ((fl [] a).1++ [(fl [] a).2]);have hfl:(QBa ((fl [] a).1++ [(fl [] a).2])).length=(QBa (fl [] a).1).length+(fl [] a).2.length+2:=by unfold QBa;rw[List.flatMap_append];simp;omega
 simp only[List.length_append,List.length_singleton]at hb;rw[VHa (s0:=((0:Int),([]:List UInt8))) (S:=List UInt8) (R:=List UInt8) ((fl [] a).1++ [(fl [] a).2]) (fun i s=>((i:Int),s)) (fun i r s=>s++KKa r)
  (fun i r s=>s.length+(KKa r).length<=3 * a.length+100) ?_ ?_ [] rfl ?_]
 .simp only[Option.bind_some];rw[zYa (by simp;omega)];simp
 .intro s hi;unfold Z4a;simp[KKa]
 .intro p x r s hp hi;right;have hd:=KAa x;have hlt:p.length+1<=(fl [] a).1.length+1:=by have:=congrArg List.length hp;simp at this;omega
  have hlen:((fl [] a).1++ [(fl [] a).2]).length=p.length+1+r.length:=by rw[hp];simp;omega
  have hdo:((((some x).bind fun v29=>(bif decide (0 < (v29.length:Int)) then (some x).bind fun v32=>(idx v32 0).bind fun v34=>some (((v34.toNat:Int)==46)) else some false):Option Bool))=some (dot0 x)):=by
   cases x with
   | nil=>rfl
   | cons c q=>
    have:decide ((0:Int) < ((c::q).length:Int))=true:=by simp
    simp (disch:=decide) only[idx_lit,dot0,qEa,this,Option.bind_some,cond_true];rfl
  have hsx:s.length+(wfa x).length+(if r=[] then 0 else 2)<=3 * a.length+100:=by
   cases r with
   | nil=>simpa[KKa]using hi
   | cons y r=>simp[KKa]at hi ⊢;omega
  refine ⟨s++wfa x++(if r=[] then [] else [13,10]),?_,?_,?_⟩
  .unfold Z4a;simp only[v5a,hp,q2b];rw[<-hp,hlen,hdo];have hlt2:decide ((p.length:Int) < ((p.length+1+r.length:Nat):Int))=true:=by simp;omega
   have hc:((bif dot0 x then (app 140737488355328 s [46]).bind fun v37=>some v37 else some s):Option (List UInt8))=some (s++(if dot0 x then [46] else [])):=by
    cases hx:dot0 x with
    | false=>simp
    | true=>
     simp only[wfa,hx,if_true,List.length_cons]at hsx;simp only[cond_true];rw[zYa (by simp;omega)];simp
   have hdl:(s++(if dot0 x then [46] else [])).length+x.length=s.length+(wfa x).length:=by unfold wfa;cases dot0 x <;> simp <;> omega
   have hde:(s++(if dot0 x then [46] else []))++x=s++wfa x:=by unfold wfa;cases dot0 x <;> simp
   simp (disch:=omega) only[kub,hlt2,cond_true,Option.bind_some,hc];rw[zYa (by omega)];simp only[Option.bind_some,hde];cases r with
   | nil=>simp
   | cons y r=>
    have:decide (((p.length+1:Nat):Int) < ((p.length+1+(y::r).length:Nat):Int))=true:=by simp;omega
    simp only[this,cond_true];rw[zYa (by simp at hsx ⊢;omega)];simp
  .cases r with
   | nil=>simp[KKa]
   | cons y r=>simp[KKa]
  cases r with
  | nil=>simp[KKa]at hi ⊢;omega
  | cons y r=>simp[KKa]at hi ⊢;omega
 simp;omega
def noCR:Str->Bool
 | c::d::r=> !(c==13 && d==10) && noCR (d::r)
 | _=>true
theorem wga{c d:UInt8}{r:Str}:noCR (c::d::r)=true↔¬(c=13/\d=10)/\noCR (d::r)=true:=by
 rw[noCR,Bool.and_eq_true];by_cases h1:c=13 <;> by_cases h2:d=10 <;> simp[h1,h2]
theorem Zxb(l:Str)(c d:UInt8):noCR (l++ [c])=true->¬(c=13/\d=10)->noCR (l++ [c,d])=true:=by
 induction l with
 | nil=>intro _ h;simp only[List.nil_append];exact wga.2 ⟨h,rfl⟩
 | cons x l ih=>
  intro h1 h2;cases l with
  | nil=>
   simp only[List.nil_append,List.cons_append]at h1 ih ⊢;obtain ⟨a,b⟩:=wga.1 h1;exact wga.2 ⟨a,ih b h2⟩
  | cons y l=>
   simp only[List.cons_append]at h1 ih ⊢;obtain ⟨a,b⟩:=wga.1 h1;exact wga.2 ⟨a,ih b h2⟩
theorem noCR_pre(l m:Str):noCR (l++m)=true->noCR l=true:=by
 induction l with
 | nil=>intro _;rfl
 | cons x l ih=>
  intro h;cases l with
  | nil=>rfl
  | cons y l=>
   simp only[List.cons_append]at h ih;obtain ⟨a,b⟩:=wga.1 h;exact wga.2 ⟨a,ih b⟩
theorem fl_lines(l cur:Str):noCR (cur++l.take 1)=true->∀x∈(fl cur l).1,noCR x=true:=by
 fun_induction fl cur l with
 | case1 cur=>simp
 | case2 cur c=>simp
 | case3 cur c d r h ih=>
  intro hc x hx;rcases List.mem_cons.1 hx with rfl | hx
  .exact noCR_pre _ _ hc
  refine ih ?_ x hx;cases r <;> rfl
 | case4 cur c d r h ih=>
  intro hc;refine ih ?_;have:=Zxb cur c d (by simpa using hc) h;simpa using this
theorem Zyb(l:Str):∀x∈(fl [] l).1,noCR x=true:=fl_lines l [] (by cases l <;> rfl)
theorem qbb(x:Ses)(a b:List UInt8):wza x (a++b)=wza (wza x a) b:=List.foldl_append
theorem suff_no{l:List UInt8}{c:UInt8}(h:c≠10):([13,10]:List UInt8).isSuffixOf (l++ [c])=false:=by
 rw[Bool.eq_false_iff];intro e;obtain ⟨t,ht⟩:=List.isSuffixOf_iff_suffix.1 e;have:=congrArg List.getLast? ht;simp at this;exact h this.symm
theorem suff_yes(l:List UInt8):([13,10]:List UInt8).isSuffixOf ((l++ [13])++ [10])=true:=List.isSuffixOf_iff_suffix.2 ⟨l,by simp⟩
theorem JQa(x:Ses)(hp:x.Server.Phase=0):∀(q p:List UInt8),(10:UInt8) ∉ q->(p++q).length<=4001->wza (bufS x p) q=bufS x (p++q)
 | [],p,_,_=>by rw[List.append_nil];rfl
 | c::q,p,h,hl=>by
  have hc:c≠10:=fun e=>h (by rw[e];simp)
  have e:yEa (bufS x p) c=bufS x (p++ [c]):=by
   unfold yEa;rw[if_pos (show (bufS x p).Server.Phase=0 from hp)];unfold zRb;rw[show (bufS x p).Server.Buffer=p from rfl,suff_no hc,if_neg (by decide),if_neg (by simp at hl ⊢;omega)];rfl
  show wza (yEa (bufS x p) c) q=_;rw[e,JQa x hp q (p++ [c]) (fun hm=>h (by simp[hm])) (by simpa using hl)];simp
theorem Vda(x:Ses)(hp:x.Server.Phase=0)(hb:x.Server.Buffer=[])(l:Str)(h10:(10:UInt8) ∉ l)(hl:l.length<=4000)(c:zma)(hc:yla l=(c,⟨0,0⟩))(r:List UInt8):wza x (l++13::10::r)=wza (KIa x c) r:=by
 have e0:bufS x []=x:=by
  have:bufS x []=bufS x x.Server.Buffer:=by rw[hb]
  rw[this];rfl
 have h1:=JQa x hp (l++ [13]) [] (by simp[h10]) (by simp;omega);rw[e0,List.nil_append]at h1;rw[show l++13::10::r=(l++ [13])++10::r by simp,qbb,h1];show wza (yEa (bufS x (l++ [13])) 10) r=_;have e:yEa (bufS x (l++ [13])) 10=KIa x c:=by
  unfold yEa;rw[if_pos (show (bufS x (l++ [13])).Server.Phase=0 from hp)];unfold zRb;rw[show (bufS x (l++ [13])).Server.Buffer=l++ [13] from rfl,suff_yes,if_pos rfl];have ht:((l++ [13])++ [10]).take (((l++ [13])++ [10]).length - 2)=l:=by simp
  dsimp only;rw[ht,hc,if_neg (show ¬(0:Int)=18 by decide),if_pos rfl];show KIa (bufS x []) c=_;rw[e0]
 rw[e]
theorem qcb{c:zma}{s x:Str}{w:List Str}(he:cmdF c=⟨0,0⟩)(hw:vma s=x::w)(hv:Y6a (lowP x)=c.Verb)(h0:c.Verb≠0)(ha:vBa c.Verb w=some c)(hs:s.length<=4000):yla s=(c,⟨0,0⟩):=by
 unfold yla;rw[hw,if_neg (by omega)];have:kXb (x::w)=c.Verb:=hv;rw[this,if_neg h0];simp only[List.drop_succ_cons,List.drop_zero];rw[ha];show finP c=_;unfold finP;rw[he];rfl
def qdb:Str:=[104,101,108,108,111,32,99]
def Y8a(f:Str):Str:=[109,97,105,108]++32::([60]++f++ [62])
def ZNa(r:zca):Str:=[114,99,112,116]++32::(([60]++r.Address++ [62])++32::([110,111,116,105,102,121,61]++ZMa r.Notify))
def yjb:Str:=[100,97,116,97]
theorem vtb:yla qdb=(⟨1,[99],[],0,0,false⟩,⟨0,0⟩):=by kernel_rfl
theorem ykb:yla yjb=(⟨4,[],[],0,0,false⟩,⟨0,0⟩):=by kernel_rfl
theorem Zzb{a:Str}(h:a=[]∨kGa a=true):(32:UInt8) ∉ ([60]++a++ [62]:Str):=by
 have h32:(32:UInt8) ∉ a:=by
  rcases h with h | h
  .rw[h];simp
  exact Zrb h
 simp[h32]
theorem qeb{s:Str}(h:kGa s=true):(10:UInt8) ∉ s:=by
 unfold kGa at h;simp only[Bool.and_eq_true,decide_eq_true_eq,List.all_eq_true]at h;obtain ⟨⟨⟨⟨h1,h2⟩,h3⟩,h4⟩,h5⟩:=h;unfold domP at h5;simp only[Bool.and_eq_true,decide_eq_true_eq,List.all_eq_true]at h5;intro hm;have hs:s=s.take (atP s)++s[atP s]::s.drop (atP s+1):=by
  rw[<-List.drop_eq_getElem_cons h1,List.take_append_drop]
 rw[hs]at hm;have hat:s[atP s]=64:=by
  have:=List.findIdx_getElem (xs:=s) (p:=(· ==64)) (w:=h1);exact (by simpa using this:s[List.findIdx (fun x=>x==64) s]=64)
 rcases List.mem_append.1 hm with h6 | h6
 .exact absurd (h4 _ h6) (by decide)
 rcases List.mem_cons.1 h6 with h7 | h7
 .rw[hat]at h7;exact absurd h7 (by decide)
 exact absurd (h5.1.2 _ h7) (by decide)
theorem ylb:∀k:Fin 8,(10:UInt8) ∉ jGa.getD k.val []:=by decide
theorem ZAb{n:Int}(h:0<=n/\n<=7):(10:UInt8) ∉ ZMa n:=by
 have:=ylb ⟨n.toNat,by omega⟩;exact this
theorem ZBb{n:Int}(h:kUa n=true):0<=n/\n<=7:=by
 unfold kUa at h;simpa using h
theorem JRa{f:Str}(h:f=[]∨kGa f=true):yla (Y8a f)=(⟨2,[],f,0,0,false⟩,⟨0,0⟩)/\(10:UInt8) ∉ Y8a f/\(Y8a f).length<=200:=by
 have hl:f.length<=121:=by
  rcases h with h | h
  .rw[h];simp
  exact Zxa h
 have h10:(10:UInt8) ∉ f:=by
  rcases h with h | h
  .rw[h];simp
  exact qeb h
 have hlen:(Y8a f).length<=200:=by unfold Y8a;simp;omega
 refine ⟨?_,by unfold Y8a;simp[h10],hlen⟩;refine qcb (x:=[109,97,105,108]) (w:=[[60]++f++ [62]]) ?_ ?_ (show Y6a (lowP [109,97,105,108])=2 by decide) (show (2:Int)≠0 by decide) ?_ (by omega)
 .rcases h with h | h
  .rw[h];kernel_rfl
  simp[cmdF,VRa,kUa,h]
 .unfold Y8a;rw[QAa _ (by decide) (by decide),JOa (by simp) (Zzb h)]
 rw[show vBa (⟨2,[],f,0,0,false⟩:zma).Verb [[60]++f++ [62]]=vBa 2 [[60]++f++ [62]] from rfl,ap2,Zsb];rfl
theorem VWa{r:zca}(h:kGa r.Address=true/\kUa r.Notify=true):yla (ZNa r)=(⟨3,[],r.Address,0,r.Notify,false⟩,⟨0,0⟩)/\(10:UInt8) ∉ ZNa r/\(ZNa r).length<=250:=by
 obtain ⟨ha,hn⟩:=h;have hno:=ZBb hn;have hl:=Zxa ha;have h10:=qeb ha;have c10:=ZAb hno;have hcl:=kVb hno;obtain ⟨t1,t2,t3⟩:=yhb hno;have hlen:(ZNa r).length<=250:=by unfold ZNa;simp;omega
 refine ⟨?_,by unfold ZNa;simp[h10,c10],hlen⟩;refine qcb (x:=[114,99,112,116]) (w:=[[60]++r.Address++ [62],[110,111,116,105,102,121,61]++ZMa r.Notify]) ?_ ?_ (show Y6a (lowP [114,99,112,116])=3 by decide) (show (3:Int)≠0 by decide) ?_ (by omega)
 .simp[cmdF,VRa,ha,hn]
 .unfold ZNa;rw[QAa _ (by decide) (by decide),QAa _ (by simp) (Zzb (.inr ha)),JOa (by simp) (by simp[t3])]
 rw[show vBa (⟨3,[],r.Address,0,r.Notify,false⟩:zma).Verb [[60]++r.Address++ [62],[110,111,116,105,102,121,61]++ZMa r.Notify]=vBa 3 [[60]++r.Address++ [62],[110,111,116,105,102,121,61]++ZMa r.Notify] from rfl,ap33,Zsb];have e:optP ([110,111,116,105,102,121,61]++ZMa r.Notify) notW=some (ZMa r.Notify):=optP_id notW _ (by decide) t2;simp only[Option.bind_some];rw[e];simp only[Option.bind_some];rw[t1];rfl
def stS(f:Str)(tos:List zca)(g m:Bool)(R:List zLa):Ses:=⟨⟨[109,120],12000,60,0,g,m,f,tos,[],[],0,0,false,0,false,false,0⟩,R,[]⟩
def dS(f:Str)(tos:List zca)(R:List zLa)(D:List UInt8)(d:Int):Ses:=⟨⟨[109,120],12000,60,1,true,true,f,tos,[],D,0,d,false,0,false,false,0⟩,R,[]⟩
theorem qfb:∀(l:List zca),(l.map (·.Address)).Nodup->wea l=l
 | [],_=>rfl
 | r::t,h=>by
  rw[List.map_cons,List.nodup_cons]at h;have no:∀x∈t,z7a r.Address x=false:=fun x hx=>by
   unfold z7a;rw[beq_eq_false_iff_ne];intro e;exact h.1 (by rw[<-e];exact List.mem_map_of_mem hx)
  have e1:t.filter (z7a r.Address)=[]:=List.filter_eq_nil_iff.2 fun x hx=>by rw[no x hx];decide
  have e2:t.filter (fun x=> !z7a r.Address x)=t:=List.filter_eq_self.2 fun x hx=>by rw[no x hx];rfl
  rw[Zta,e1,e2,qfb t h.2];rfl
theorem ymb:∃R,KIa (stS [] [] false false []) ⟨1,[99],[],0,0,false⟩=stS [] [] true false R:=⟨_,rfl⟩
theorem ZCb(f:Str)(R:List zLa):∃R',KIa (stS [] [] true false R) ⟨2,[],f,0,0,false⟩=stS f [] true true R' :=⟨_,rfl⟩
theorem ZDb(f:Str)(tos:List zca)(R:List zLa)(r:zca)(hn:((tos++ [r]).map (·.Address)).Nodup)(hl:(tos++ [r]).length<=60):∃R',KIa (stS f tos true true R) ⟨3,[],r.Address,0,r.Notify,false⟩=stS f (tos++ [r]) true true R' :=by
 refine ⟨R++ [⟨250,[okW]⟩],?_⟩;unfold KIa;rw[if_neg (show ¬(3:Int)=1 by decide),if_neg (show ¬(3:Int)=2 by decide),if_pos rfl];unfold k0b;have e:addR (stS f tos true true R) ⟨3,[],r.Address,0,r.Notify,false⟩=tos++ [r]:=qfb _ hn;rw[e];have e:∀(A B:Ses),(if (60:Int) < ((tos++ [r]).length:Int) then A else B)=B:=fun A B=>if_neg (by omega)
 exact (e _ _).trans rfl
theorem ZEb(f:Str)(tos:List zca)(R:List zLa)(h:tos≠ []):∃R',KIa (stS f tos true true R) ⟨4,[],[],0,0,false⟩=dS f tos R' [] 0:=by
 cases tos with
 | nil=>exact absurd rfl h
 | cons r t=>exact ⟨_,rfl⟩
theorem JSa(f:Str)(b:List UInt8):∀(l done:List zca) (R:List zLa),(∀r∈l,kGa r.Address=true/\kUa r.Notify=true)->((done++l).map (·.Address)).Nodup->(done++l).length<=60->
 ∃R',wza (stS f done true true R) (l.flatMap (fun r=>ZNa r++ [13,10])++b)=wza (stS f (done++l) true true R') b
 | [],done,R,_,_,_=>⟨R,by rw[List.append_nil];rfl⟩
 | r::l,done,R,h,hn,hl=>by
  obtain ⟨p1,p2,p3⟩:=VWa (h r (by simp));have e:done++r::l=(done++ [r])++l:=by simp
  rw[e]at hn hl ⊢;obtain ⟨R1,h1⟩:=ZDb f done R r (by rw[List.map_append]at hn;exact (List.nodup_append.1 hn).1) (by rw[List.length_append]at hl;omega);obtain ⟨R2,h2⟩:=JSa f b l (done++ [r]) R1 (fun x hx=>h x (by simp[hx])) hn hl;refine ⟨R2,?_⟩;rw[<-h2,<-h1,List.flatMap_cons];have:=Vda (stS f done true true R) rfl rfl (ZNa r) p2 (by omega) _ p1 (l.flatMap (fun r=>ZNa r++ [13,10])++b);rw[<-this];simp
theorem vna(x:Ses)(c:UInt8)(b:List UInt8):wza x (c::b)=wza (yEa x c) b:=rfl
theorem zYb(x:Ses):wza x []=x:=rfl
theorem YJa{x:Ses}{c:UInt8}(h:x.Server.Phase=1):yEa x c=VVa x c:=by
 unfold yEa;rw[if_neg (by rw[h];decide),if_pos h]
theorem y1a(f:Str)(tos:List zca)(R:List zLa)(D:List UInt8)(d:Int)(c:UInt8)(h0:¬(d=0/\c=46))(h1:¬(d=1/\c=13))(h2:d≠2)(hl:D.length < 12000):
 yEa (dS f tos R D d) c=dS f tos R (D++ [c]) (if c=13 then 4 else if c=10/\d=4 then 0 else 3):=by
 rw[YJa (x:=dS f tos R D d) rfl];unfold VVa;rw[show (dS f tos R D d).Server.Dots=d from rfl,if_neg h0,if_neg h1,if_neg (fun e=>h2 e.1),if_neg h2];have e:qFa (dS f tos R D d) c=dS f tos R (D++ [c]) d:=by
  unfold qFa;rw[if_pos (show ((dS f tos R D d).Server.Data.length:Int) < (dS f tos R D d).Server.Size from by show (D.length:Int) < 12000;omega)];rfl
 rw[e];rfl
theorem ite34(p:Prop)[Decidable p]:(if p then (4:Int) else 3)≠0/\(if p then (4:Int) else 3)≠1/\(if p then (4:Int) else 3)≠2:=by
 split <;> decide
theorem zZb(f:Str)(tos:List zca)(R:List zLa):∀(q:Str) (c0:UInt8) (D:List UInt8),noCR (c0::q)=true->D.length+q.length+2<=12000->
 wza (dS f tos R D (if c0=13 then 4 else 3)) (q++ [13,10])=dS f tos R (D++q++ [13,10]) 0
 | [],c0,D,h,hl=>by
  obtain ⟨i0,i1,i2⟩:=ite34 (c0=13);simp only[List.length_nil]at hl;have s1:=y1a f tos R D (if c0=13 then 4 else 3) 13 (fun e=>i0 e.1) (fun e=>i1 e.1) i2 (by omega);rw[if_pos rfl]at s1;have s2:=y1a f tos R (D++ [13]) 4 10 (by decide) (by decide) (by decide) (by simp;omega);rw[if_neg (by decide),if_pos ⟨rfl,rfl⟩]at s2;rw[List.nil_append,vna,s1,vna,s2,zYb];simp
 | c::q,c0,D,h,hl=>by
  obtain ⟨i0,i1,i2⟩:=ite34 (c0=13);obtain ⟨n1,n2⟩:=wga.1 h;simp only[List.length_cons]at hl;have s1:=y1a f tos R D (if c0=13 then 4 else 3) c (fun e=>i0 e.1) (fun e=>i1 e.1) i2 (by omega);have e:(if c=13 then (4:Int) else if c=10/\(if c0=13 then (4:Int) else 3)=4 then 0 else 3)=if c=13 then 4 else 3:=by
   by_cases h13:c=13
   .rw[if_pos h13,if_pos h13]
   rw[if_neg h13,if_neg h13,if_neg];rintro ⟨e1,e2⟩;by_cases hc:c0=13
   .exact n1 ⟨hc,e1⟩
   rw[if_neg hc]at e2;exact absurd e2 (by decide)
  rw[e]at s1;rw[List.cons_append,vna,s1,zZb f tos R q c (D++ [c]) n2 (by simp;omega)];simp
theorem ynb(f:Str)(tos:List zca)(R:List zLa)(x:Str)(D:List UInt8)(h:noCR x=true)(hl:D.length+x.length+2<=12000):
 wza (dS f tos R D 0) (wfa x++ [13,10])=dS f tos R (D++x++ [13,10]) 0:=by
 cases x with
 | nil=>
  simp only[List.length_nil]at hl;have s1:=y1a f tos R D 0 13 (by decide) (by decide) (by decide) (by omega);rw[if_pos rfl]at s1;have s2:=y1a f tos R (D++ [13]) 4 10 (by decide) (by decide) (by decide) (by simp;omega);rw[if_neg (by decide),if_pos ⟨rfl,rfl⟩]at s2;rw[show wfa []++ [13,10]=[13,10] from rfl,vna,s1,vna,s2,zYb];simp
 | cons c q=>
  simp only[List.length_cons]at hl;by_cases hc:c=46
  .subst hc;have s0:yEa (dS f tos R D 0) 46=dS f tos R D 1:=by
    rw[YJa (x:=dS f tos R D 0) rfl];unfold VVa;rw[if_pos ⟨rfl,rfl⟩];rfl
   have s1:=y1a f tos R D 1 46 (by decide) (by decide) (by decide) (by omega);rw[if_neg (by decide),if_neg (by decide)]at s1;have hm:=zZb f tos R q 46 (D++ [46]) h (by simp;omega);rw[if_neg (by decide)]at hm;rw[show wfa (46::q)++ [13,10]=46::46::(q++ [13,10]) from rfl,vna,s0,vna,s1,hm];simp
  have e:wfa (c::q)=c::q:=by
   unfold wfa dot0;rw[if_neg (by simpa using hc)]
  rw[e];have s1:=y1a f tos R D 0 c (fun e=>hc e.2) (by simp) (by decide) (by omega);rw[show (if c=13 then (4:Int) else if c=10/\(0:Int)=4 then 0 else 3)=if c=13 then 4 else 3 by
   rw[if_neg (show ¬(c=10/\(0:Int)=4) from fun e=>absurd e.2 (by decide))]]at s1
  have hm:=zZb f tos R q c (D++ [c]) h (by simp;omega);rw[List.cons_append,vna,s1,hm];simp
theorem Wga(f:Str)(tos:List zca)(R:List zLa)(b:List UInt8):∀(ls:List Str) (D:List UInt8),(∀x∈ls,noCR x=true)->D.length+(QBa ls).length<=12000->
 wza (dS f tos R D 0) (wXa ls++b)=wza (dS f tos R (D++QBa ls) 0) b
 | [],D,_,_=>by rw[Zvb,List.append_nil];rfl
 | x::ls,D,h,hl=>by
  have hx:=YIa x ls;have h1:=ynb f tos R x D (h x (by simp)) (by omega);have h2:=Wga f tos R b ls (D++x++ [13,10]) (fun y hy=>h y (by simp[hy])) (by simp;omega);have e:wXa (x::ls)++b=(wfa x++ [13,10])++(wXa ls++b):=by unfold wXa;simp
  rw[e,qbb,h1,h2,JPa];simp
theorem doneS_ok{x:Ses}{m:zsa}(h1:x.Server.Lost=0)(h2:wUa x.Server.Data=(m,true))(h3:x.Server.Count=0):(VUa x).mails=x.mails++ [⟨⟨x.Server.From,x.Server.To,idS x.Server⟩,m⟩]:=by
 unfold VUa;rw[h1,h2,h3,if_neg (by decide),if_neg (by simp)];rfl
theorem end_feed(f:Str)(tos:List zca)(R:List zLa)(D:List UInt8)(m:zsa)(hr:wUa D=(m,true)):
 (wza (dS f tos R D 0) [46,13,10]).mails=[⟨⟨f,tos,[109,120,45,49]⟩,m⟩]:=by
 have s0:yEa (dS f tos R D 0) 46=dS f tos R D 1:=by
  rw[YJa (x:=dS f tos R D 0) rfl];unfold VVa;rw[if_pos ⟨rfl,rfl⟩];rfl
 have s1:yEa (dS f tos R D 1) 13=dS f tos R D 2:=by
  rw[YJa (x:=dS f tos R D 1) rfl];unfold VVa;rw[if_neg (fun e=>absurd e.2 (by decide)),if_pos ⟨rfl,rfl⟩];rfl
 have s2:yEa (dS f tos R D 2) 10=VUa ⟨⟨[109,120],12000,60,0,true,true,f,tos,[],D,0,0,false,0,false,false,0⟩,R,[]⟩:=by
  rw[YJa (x:=dS f tos R D 2) rfl];unfold VVa;rw[if_neg (fun e=>absurd e.2 (by decide)),if_neg (fun e=>absurd e.2 (by decide)),if_pos ⟨rfl,rfl⟩];rfl
 rw[vna,s0,vna,s1,vna,s2,zYb,doneS_ok (m:=m) rfl hr rfl];show [(⟨⟨f,tos,exId⟩,m⟩:zVa)]=_;rw[Zkb]
def qgb(f:Str)(tos:List zca)(b:List UInt8):List UInt8:=
 qdb++13::10::(Y8a f++13::10::(tos.flatMap (fun r=>ZNa r++ [13,10])++(yjb++13::10::(wXa (fl [] b).1++ [46,13,10]))))
theorem ZFb{f:Str}{tos:List zca}{m:zsa}(hf:f=[]∨kGa f=true)(ht:∀r∈tos,kGa r.Address=true/\kUa r.Notify=true)(hn:(tos.map (·.Address)).Nodup)(hne:tos≠ [])(hl:tos.length<=60)(hm:(msgF m).Code=0)
 (hb:(z1a m).length<=12000) (he:(fl [] (z1a m)).2=[]):(wza (stS [] [] false false []) (qgb f tos (z1a m))).mails=[⟨⟨f,tos,[109,120,45,49]⟩,m⟩]:=by
 obtain ⟨m1,m2,m3⟩:=JRa hf;unfold qgb;rw[Vda (stS [] [] false false []) rfl rfl qdb (by decide) (by decide) _ vtb];obtain ⟨R1,e1⟩:=ymb;rw[e1,Vda (stS [] [] true false R1) rfl rfl (Y8a f) m2 (by omega) _ m1];obtain ⟨R2,e2⟩:=ZCb f R1;rw[e2];obtain ⟨R3,e3⟩:=JSa f (yjb++13::10::(wXa (fl [] (z1a m)).1++ [46,13,10])) tos [] R2 ht hn hl;rw[e3,List.nil_append,Vda (stS f tos true true R3) rfl rfl yjb (by decide) (by decide) _ ykb];obtain ⟨R4,e4⟩:=ZEb f tos R3 hne;have hj:=wtb (z1a m);rw[he,List.append_nil]at hj;rw[e4,Wga f tos R4 [46,13,10] (fl [] (z1a m)).1 [] (Zyb _) (by rw[hj];simpa using hb),List.nil_append,hj];exact end_feed f tos R4 (z1a m) m (readP_rt hm)
theorem YKa:∀(l:List zca),(∀r∈l,kGa r.Address=true/\kUa r.Notify=true)->(l.flatMap (fun r=>ZNa r++ [13,10])).length<=252 * l.length
 | [],_=>by simp
 | r::l,h=>by
  have h1:=YKa l fun x hx=>h x (by simp[hx])
  have h2:=(VWa (h r (by simp))).2.2;rw[List.flatMap_cons];simp only[List.length_append,List.length_cons,List.length_nil]at h1 ⊢;omega
theorem sess_len{f:Str}{tos:List zca}{b:List UInt8}(hf:f=[]∨kGa f=true)(ht:∀r∈tos,kGa r.Address=true/\kUa r.Notify=true)(hl:tos.length<=60)(hb:b.length<=12000):(qgb f tos b).length<=40000:=by
 obtain ⟨m1,m2,m3⟩:=JRa hf;have h1:=vsb (fl [] b).1;have h2:=wub b;have h3:=flat_len (fl [] b).1;have h4:(QBa (fl [] b).1).length=((fl [] b).1.flatMap fun x=>x++ [13,10]).length:=rfl;have h5:=YKa tos ht;unfold qgb;simp only[List.length_append,List.length_cons,List.length_nil];have:qdb.length=7:=rfl;have:yjb.length=4:=rfl;omega
def rawP(m:zsa):Bool:= !decide ([13,10] <:+z1a m)
theorem suff2(p:List UInt8)(x y:UInt8):decide ([13,10] <:+p++ [x,y])=(x==13 && y==10):=by
 rw[Bool.eq_iff_iff];simp only[decide_eq_true_eq,Bool.and_eq_true,beq_iff_eq];constructor
 .rintro ⟨q,hq⟩;have:=List.append_inj_right' hq rfl;simp at this;exact ⟨this.1.symm,this.2.symm⟩
 rintro ⟨rfl,rfl⟩;exact ⟨p,rfl⟩
theorem ZGb(m:zsa):2<=(z1a m).length:=by
 unfold z1a;simp;omega
theorem ZHb{m:zsa}(h1:m.Body.length<=12000)(h2:m.Fields.length<=60)(h3:∀f∈m.Fields,yDa f=0)(h4:(z1a m).length<=12000):ktb m=some (rawP m):=by
 have hl:=ZGb m;unfold ktb rawP;rw[wSa m (by omega) h2 h3];obtain ⟨p,x,y,hb⟩:∃p x y,z1a m=p++ [x,y]:=by
  generalize z1a m=b at hl;obtain ⟨q,y,rfl⟩:∃q y,b=q++ [y]:=⟨b.dropLast,b.getLast (by intro e;subst e;simp at hl),(List.dropLast_concat_getLast _).symm⟩;have hq:q≠ []:=by intro e;subst e;simp at hl
  obtain ⟨p,x,rfl⟩:∃p x,q=p++ [x]:=⟨q.dropLast,q.getLast hq,(List.dropLast_concat_getLast _).symm⟩;exact ⟨p,x,y,by simp⟩
 rw[hb]at h4 ⊢;rw[suff2];simp only[List.length_append,List.length_cons,List.length_nil]at h4;have e1:w64 (((p++ [x,y]).length:Int) - 2)=(p.length:Int):=by simp only[List.length_append,List.length_cons,List.length_nil];rw[qsa (by omega) (by omega)];omega
 have e2:w64 (((p++ [x,y]).length:Int) - 1)=((p++ [x]).length:Int):=by simp only[List.length_append,List.length_cons,List.length_nil];rw[qsa (by omega) (by omega)];omega
 have i1:idx (p++ [x,y]) (p.length:Int)=some x:=W8a p x [y];have i2:idx (p++ [x,y]) ((p++ [x]).length:Int)=some y:=by
  have:=W8a (p++ [x]) y [];simpa using this
 simp only[Option.bind_some];rw[e1,e2,i1,i2];simp only[Option.bind_some,ZIa x 13 (by decide),ZIa y 10 (by decide)];unfold bne;cases x==13 <;> cases y==10 <;> rfl
def pre(R:List zLa)(M:List zVa)(x:Ses):Ses:=⟨x.Server,R++x.replies,M++x.mails⟩
theorem feedF_ok{s:zja}{b:List UInt8}(h:(srvF s).Code=0)(hb:¬40000 < b.length):vpb s b=((wza ⟨s,[],[]⟩ b).Server,(wza ⟨s,[],[]⟩ b).replies,(wza ⟨s,[],[]⟩ b).mails,⟨0,0⟩):=by
 unfold vpb;rw[if_neg (show ¬(srvF s).Code≠0 from fun e=>e h),if_neg hb]
theorem ZIb{e:zEa}(h:(envF e).Code=0):(e.From=[]∨kGa e.From=true)/\e.To≠ []/\e.To.length<=60/\(recF e.To).Code=0:=by
 unfold envF at h;have h1:q6b e.From=false:=by
  cases hq:q6b e.From with
  | false=>rfl
  | true=>rw[hq,if_pos rfl]at h;exact absurd h (show ¬(10:Int)=0 by decide)
 rw[h1,if_neg (by decide)]at h;have h2:(decide (e.To.length < 1) || decide (60 < e.To.length))=false:=by
  cases hq:decide (e.To.length < 1) || decide (60 < e.To.length) with
  | false=>rfl
  | true=>rw[hq,if_pos rfl]at h;exact absurd h (show ¬(2:Int)=0 by decide)
 rw[h2,if_neg (by decide)]at h;have h3:(e.Id !=([]:Str) && !wDa e.Id)=false:=by
  cases hq:e.Id !=([]:Str) && !wDa e.Id with
  | false=>rfl
  | true=>rw[hq,if_pos rfl]at h;exact absurd h (show ¬(10:Int)=0 by decide)
 rw[h3,if_neg (by decide)]at h;simp only[Bool.or_eq_false_iff,decide_eq_false_iff_not]at h2;refine ⟨?_,fun e0=>by rw[e0]at h2;simp at h2,by omega,h⟩;unfold q6b at h1;by_cases hf:e.From=[]
 .exact .inl hf
 right;have:(e.From !=([]:Str))=true:=by simpa using hf
 rw[this,Bool.true_and]at h1;simpa using h1
theorem vub{m:zVa}(h:(kIb m).Code=0):(envF m.Envelope).Code=0/\(msgF m.Message).Code=0:=by
 unfold kIb at h;by_cases h1:(envF m.Envelope).Code=0
 .refine ⟨h1,?_⟩;rw[h1]at h;by_cases h2:(msgF m.Message).Code=0
  .exact h2
  rw[if_neg (by decide),if_pos (by simpa using h2)]at h;exact h
 rw[if_pos (by simpa using h1)]at h;exact absurd h h1
theorem yob(a0:zVa)(h:∀r∈a0.Envelope.To,kGa r.Address=true/\kUa r.Notify=true)(hl:a0.Envelope.To.length<=60)(s0:List UInt8)(h0:s0.length<=1000):iter (zPa a0) (0,s0)=some (s0++a0.Envelope.To.flatMap (fun r=>ZNa r++ [13,10])):=by
 obtain ⟨h1,_⟩:=yYa a0.Envelope.To (fun j (s:List UInt8)=>(j,s)) (fun s r=>s++(ZNa r++ [13,10])) id (fun j s=>s.length<=1000+252 * j) (body:=zPa a0) (fun s _=>by unfold zPa;rw[zRa];rfl) (fun j r s hr hs=>by
  have hj:=zUa hr;have hm:=h r (List.mem_of_getElem? hr);have p3:=(VWa hm).2.2;have hno:=ZBb hm.2;have hal:=Zxa hm.1;have hcl:=kVb hno;refine ⟨?_,by simp only[List.length_append,List.length_cons,List.length_nil];omega⟩;unfold zPa;dsimp only;rw[kqa hr,zJa hr];simp only[cond_true,Option.bind_some];rw[wxa (by simp;omega)];simp only[Option.bind_some];rw[wxa (by simp;omega)];simp only[Option.bind_some];rw[Kha hno];simp only[Option.bind_some];rw[wxa (by simp;omega)];simp only[Option.bind_some];rw[wxa (by simp;omega)];simp only[Option.bind_some];rw[zYa (by simp;omega),sc j (by omega)];simp[ZNa]) s0 (by omega)
 have key:∀(l:List zca) (s:List UInt8),l.foldl (fun s r=>s++(ZNa r++ [13,10])) s=s++l.flatMap (fun r=>ZNa r++ [13,10]):=by
  intro l;induction l with
  | nil=>intro s;simp
  | cons r l ih=>intro s;rw[List.foldl_cons,ih,List.flatMap_cons];simp
 rw[key]at h1;exact h1
theorem new_mx:newF [109,120] 12000 60=(⟨[109,120],12000,60,0,false,false,[],[],[],[],0,0,false,0,false,false,0⟩,⟨220,[[109,120]]⟩,⟨0,0⟩):=by kernel_rfl
def mxS:zja:=⟨[109,120],12000,60,0,false,false,[],[],[],[],0,0,false,0,false,false,0⟩
theorem mx_srv:srvF mxS=⟨0,0⟩:=by kernel_rfl
theorem mx_small:k5b mxS:=⟨by decide,⟨by decide,fun r hr=>by cases hr⟩,by decide,by decide,by decide⟩
theorem ysa(a0:zVa)(o0:zVa.ok a0)(hk:zVa.bk a0<=1048576):kMa a0=some true:=by
 have hk2:zVa.bk a0=zEa.bk a0.Envelope+zsa.bk a0.Message+1:=rfl;have s1:kAb a0.Envelope:=jvb (by omega);have s2:Yfa a0.Message:=jFb (by omega);unfold kMa;rw[Y3a a0 s1 s2,Zlb];simp only[Option.bind_some,Bool.not_true,cond_false,cond_true];by_cases hc:(kIb a0).Code=0
 .obtain ⟨he,hm⟩:=vub hc;obtain ⟨e1,e2,e3,e4⟩:=ZIb he;obtain ⟨e5,e6⟩:=zVb e4;obtain ⟨m1,m2,m3,m4⟩:=YHa hm;have hbody:a0.Message.Body.length<=12000:=by
   have:=YGa a0.Message;have:=congrArg List.length this;simp at this;omega
  rw[hc,ZHb hbody m1 m2 m3];simp only[show ((0:Int) !=0)=false from rfl,cond_false,Option.bind_some];cases hr:rawP a0.Message with
  | true=>rfl
  | false=>
   have hend:(fl [] (z1a a0.Message)).2=[]:=(yib _ []).2 (.inr (by unfold rawP at hr;simpa using hr));have hfl:a0.Envelope.From.length<=121:=by
    rcases e1 with h | h
    .rw[h];simp
    exact Zxa h
   have hlen:=sess_len e1 e5 e3 m3;have hrl:=YKa _ e5;simp only[cond_false];rw[(Zjb [109,120] 12000 60 (by decide)).1,new_mx];simp only[Option.bind_some];rw[wxa (by simp;omega)];simp only[Option.bind_some];rw[wxa (by simp;omega)];simp only[Option.bind_some];rw[zYa (by simp;omega)];simp only[Option.bind_some];rw[yob a0 e5 e3 _ (by simp;omega)];simp only[Option.bind_some];rw[zYa (by simp only[List.length_append,List.length_cons,List.length_nil];omega)];simp only[Option.bind_some];rw[wSa _ (by omega) m1 m2];simp only[Option.bind_some];rw[Zwb _ (by omega),hend,zXb];simp only[Option.bind_some];have hS:qgb a0.Envelope.From a0.Envelope.To (z1a a0.Message)=((([]++(([104,101,108,108,111,32,99,13,10,109,97,105,108,32,60]++a0.Envelope.From)++ [62,13,10]))++a0.Envelope.To.flatMap (fun r=>ZNa r++ [13,10]))++ [100,97,116,97,13,10])++(wXa (fl [] (z1a a0.Message)).1++ [46,13,10]):=by
    unfold qgb qdb Y8a yjb;simp
   rw[zYa (by rw[hS]at hlen;simp only[List.length_append]at hlen ⊢;omega),<-hS];simp only[Option.bind_some];rw[show v4a (⟨[109,120],12000,60,0,false,false,[],[],[],[],0,0,false,0,false,false,0⟩:zja) (qgb a0.Envelope.From a0.Envelope.To (z1a a0.Message))=some (vpb mxS (qgb a0.Envelope.From a0.Envelope.To (z1a a0.Message))) from Zib mxS _ mx_small (by omega)];rw[feedF_ok (by rw[mx_srv]) (by omega)];have hmails:=ZFb e1 e5 e6 e2 e3 hm m3 hend;rw[show stS [] [] false false []=⟨mxS,[],[]⟩ from rfl]at hmails;simp only[Option.bind_some,show ((0:Int) !=0)=false from rfl,cond_false];rw[hmails];rw[show idx ([⟨⟨a0.Envelope.From,a0.Envelope.To,[109,120,45,49]⟩,a0.Message⟩]:List zVa) 0=some ⟨⟨a0.Envelope.From,a0.Envelope.To,[109,120,45,49]⟩,a0.Message⟩ from rfl];have h60:a0.Message.Fields.length<=1048576:=by omega
   simp only[Option.bind_some];rw[Yva ⟨⟨a0.Envelope.From,a0.Envelope.To,[109,120,45,49]⟩,a0.Message⟩ (by show a0.Envelope.To.length<=_;omega) h60];rfl
 rw[bne_iff_ne.2 hc];rfl
theorem vCa(a0:Int)(a1:Int)(r:zva)(hr:R_At a0 a1=some r):Run prog 15 [.i a0,.i a1] (.agg [.i r.Code,.i r.Index]):=by
 unfold R_At at hr;refine rf (fn:=f15) ⟨func15,rfl,by kernel_rfl⟩ rfl (fun _=>rfl) fun g0 hg=>?_
 refine rn tk 14 rfl ?_;cases hr;exact kr tk (.inr rfl) rfl rfl
theorem z0b(a0:List Str)(a1:List Str)(r:Bool)(hr:Z3a a0 a1=some r):Run prog 32 [.l cS a0,.l cS a1] (.bo r):=by
 unfold Z3a at hr;refine rf (fn:=f32) ⟨func32,rfl,by kernel_rfl⟩ rfl (fun _=>rfl) fun g0 hg=>?_
 refine rn tk 9 rfl<|wn tk rfl rfl rfl<|rn tk 1 rfl<|wn tk rfl rfl rfl<|rn tk 3 rfl<|ac 10 hr rfl (fun c1 hr=>?_) (fun c1 hr=>?_)
 .refine rn tk 7 rfl ?_;cases hr;exact kr tk (.inr rfl) rfl rfl
 refine rn tk 9 rfl<|al2 hr (fun s2=>[(0,.l cS a0),(1,.l cS a1),(5,.i s2)]) (fun s2=>[]) (.exit 0) (fun b3=>[]) (fun b3=>[]) .ret (fun b4=>[(4,.bo b4)]) (fun b4=>[]) rfl rfl (fun s2 x6 hr=>?_) (fun b3 hr=>?_) (fun b4 hr=>?_)
 .unfold jea at hr;refine rn tk 5 rfl<|wn tk rfl rfl rfl<|rn tk 3 rfl<|ac 14 hr rfl (fun c7 hr=>?_) (fun c7 hr=>?_)
  .refine rn tk 5 rfl ?_;obtain ⟨v8,h9,hr⟩:=zaa hr;obtain ⟨v10,h11,hr⟩:=zaa hr;refine dr 8 [(24,.s v10),(23,.ep [pS v10]),(22,.i s2),(21,.l cS a1),(20,.s v8),(19,.ep [pS v8]),(18,.i s2),(17,.l cS a0)] mixed (by kernel_rfl) rfl rfl (pq tk rfl (.plain rfl) (pq tk rfl (.plain rfl) (.run (.plain rfl) (k9a (wEa (f:=cS) rfl rfl kBa zwa rfl h9)) (pq tk rfl (.plain rfl) (pq tk rfl (.plain rfl) (pq tk rfl (.plain rfl) (.run (.plain rfl) (k9a (wEa (f:=cS) rfl rfl kBa zwa rfl h11)) (pq tk rfl (.plain rfl) .nil)))))))) rfl<|rn tk 3 rfl<|ac 25 hr rfl (fun c12 hr=>?_) (fun c12 hr=>?_)
   .refine rn tk 8 rfl ?_;cases hr;exact ato rfl rfl rfl rfl
   refine rn tk 8 rfl ?_;cases hr;exact atc rfl rfl
  refine rn tk 2 rfl ?_;cases hr;exact ato rfl rfl rfl rfl
 .refine rn tk 8 rfl ?_;cases hr;exact kr tk (.inr rfl) rfl rfl
 refine rn tk 2 rfl ?_;cases hr;exact kr tk (.inr rfl) rfl rfl
section
open Go.RowKit Go.Lib Go.Proofs.Tryz
variable {E:Env} {fr:Fr} {σ:Sto} {K:Post} {T:Tab} {l:List Oper} {cs:List (Option AV)} {all:List Node} {H:List Bool}
theorem wna.of:∀{is:List Nat},(∀i∈is,wUb E l cs all H fr σ i)->wna E l cs all H fr σ is
 | [],_=>.nil
 | i::is,h=>.cons (h i (by simp)) (wna.of fun j hj=>h j (by simp[hj]))
def ypb(T:Tab)(l:List Oper)(cs:List (Option AV))(fr:Fr)(σ:Sto)(i:Nat):Option AV:=(l[i]?).bind fun o=>qval T (purF l cs (allT l)++fr).ev σ o.op
def YLa(cs:List (Option AV))(i:Nat):Option AV:=(cs[i]?).bind id
def YMa(l:List Oper)(cs:List (Option AV))(H:List Bool)(is:List Nat):List Nat:=(mayL l cs H).filter fun i=> !is.contains i
theorem ms_all(hT:kTa E.P T)(is:List Nat)(h1:((YMa l cs H is).map (ypb T l cs fr σ),(YMa l cs H is).all (fun i=>(YLa cs i).isSome))=((YMa l cs H is).map (YLa cs),true))(h2:wna E l cs all H fr σ is):wna E l cs all H fr σ (mayL l cs H):=by
 refine wna.of fun i hi=>?_
 by_cases hc:is.contains i=true
 .exact h2.get (by simpa using hc)
 have hm:i∈YMa l cs H is:=by
  unfold YMa;rw[List.mem_filter];exact ⟨hi,by simpa using hc⟩
 have e1:=congrArg Prod.fst h1;have e2:=congrArg Prod.snd h1;have hq:ypb T l cs fr σ i=YLa cs i:=List.map_inj_left.1 e1 i hm;have hs:(YLa cs i).isSome=true:=List.all_eq_true.1 e2 i hm;obtain ⟨c,hcc⟩:=Option.isSome_iff_exists.1 hs;rw[hcc]at hq;obtain ⟨o,ho,hv⟩:=Option.bind_eq_some_iff.1 hq;obtain ⟨x,hx,hxc⟩:=Option.bind_eq_some_iff.1 hcc;have hxc:x=some c:=hxc;subst hxc;exact .pure ho hx (k9a (WYa hT hv))
theorem mn(hT:kTa E.P T)(is:List Nat)(h1:(((List.range l.length).all fun i=> !(isHv cs i) || H.getD i false),(YMa l cs H is).map (ypb T l cs fr σ),(YMa l cs H is).all (fun i=>(YLa cs i).isSome))=(false,(YMa l cs H is).map (YLa cs),true))(h2:wna E l cs all H fr σ is):qXb E l cs K all (H,fr,σ):=
 .step _ rfl (congrArg Prod.fst h1) (ms_all hT is (congrArg Prod.snd h1) h2)
theorem mf(hT:kTa E.P T)(is:List Nat)(frJ:Fr)(h1:((YMa l cs H is).map (ypb T l cs fr σ),(YMa l cs H is).all (fun i=>(YLa cs i).isSome))=((YMa l cs H is).map (YLa cs),true))(h2:wna E l cs all H fr σ is)(hf:FrLe (purF l cs (allT l)++fr) frJ)(h:K .normal frJ σ):qXb E l cs K all (H,fr,σ):=
 .full _ rfl (ms_all hT is h1 h2) hf kOa h
theorem mst(j:Nat){i:Nat}{o:Oper}{σ' :Sto}(ho:l[i]? =some o)(h:HvS E o (purF l cs (allT l)++fr) σ σ')(e:(cs[i]?,all[j]?)=(some none,some (H.set i true,fr,σ'))):wUb E l cs all H fr σ i:=
 .sto j ho (congrArg Prod.fst e) h (congrArg Prod.snd e) w3a kOa
theorem mdt(j:Nat){i k:Nat}{o:Oper}{c:AV}{rs:List Nat}{σ' :Sto}(ho:l[i]? =some o)(h:HvD E o (purF l cs (allT l)++fr) σ k c rs σ')(e:(((List.range l.length).all fun i=>yRa l cs i !=some k),noRows cs rs,cs[i]?,all[j]?)=(true,true,some none,some (H.set i true,(k,c)::fr.clrs rs,σ'))):wUb E l cs all H fr σ i:=
 .dst j ho (congrArg (fun x=>x.2.2.1) e) (congrArg (fun x=>x.1) e) (congrArg (fun x=>x.2.1) e) h (congrArg (fun x=>x.2.2.2) e) w3a kOa
theorem hv_g{o:Oper}{k:Nat}{c:AV}(hk:o.dst=some k)(hN:Nat.ble (k+1) E.N=true)(h:OpG E o fr σ c):HvD E o fr σ k c [] σ:=
 ⟨fun f2 he _=>zmb (jPa hk hN ⟨fun g a K Q hx=>h.go g a K Q fun x hm=>by rw[<-he x hm];exact hx x hm⟩) Vya kOa⟩
theorem mz{id:Nat}(cs:List (Option AV))(mk:Fr->Sto->List Node)(hmix:E.P.follows .mixedOrders=true)(hok:(vWb E.N l cs,(mk fr σ)[0]?)=(true,some (List.replicate l.length false,fr,σ)))(h:ZZa E l cs K (mk fr σ) (mk fr σ)):AWP E (.region id l.toArray true) fr σ K:=
 Vxa cs (mk fr σ) hmix (congrArg Prod.fst hok) (congrArg Prod.snd hok) rfl w3a kOa h
end
section
open Go.RowKit Go.Lib Go.Proofs.Tryz
variable {E:Env} {fr:Fr} {σ:Sto} {K:Post} {T:Tab} {l:List Oper} {cs:List (Option AV)} {all:List Node} {H:List Bool}
def tget:List (Nat × AV)->Nat->Option AV
 | [],_=>none
 | (k,c)::r,i=>bif Nat.beq k i then some c else tget r i
def zrun(T:Tab)(N:Nat)(tl:List (Nat × AV)):List Oper->Nat->Fr->Sto->Option (List (Option AV) × List Sto × Sto)
 | [],_,_,σ=>some ([],[],σ)
 | o::r,i,fr,σ=>match o.dst with
  | none=>(match opDo T N o fr σ with
   | some (_,σ')=>(match zrun T N tl r (i+1) fr σ' with
    | some (cs,ss,sj)=>some (none::cs,σ' ::ss,sj)
    | none=>none)
   | none=>none)
  | some d=>(match (match tget tl i with | some c=>some c | none=>qval T fr.ev σ o.op) with
   | some c=>(match zrun T N tl r (i+1) ((d,c)::fr) σ with
    | some (cs,ss,sj)=>some (some c::cs,ss,sj)
    | none=>none)
   | none=>none)
def hvL(l:List Oper)(cs:List (Option AV)):List Nat:=(List.range l.length).filter (isHv cs)
def hvH(l:List Oper)(cs:List (Option AV))(k:Nat):List Bool:=(List.range l.length).map fun i=>((hvL l cs).take k).contains i
def stoK(σ:Sto)(ss:List Sto)(k:Nat):Sto:=(σ::ss).getD k σ
def nodK(l:List Oper)(cs:List (Option AV))(fr:Fr)(σ:Sto)(ss:List Sto)(k:Nat):Node:=(hvH l cs k,fr,stoK σ ss k)
def nods(l:List Oper)(cs:List (Option AV))(fr:Fr)(σ:Sto)(ss:List Sto):List Node:=(List.range ((hvL l cs).length+1)).map (nodK l cs fr σ ss)
def purK(l:List Oper)(cs:List (Option AV))(tl:List (Nat × AV))(k:Nat):List Nat:=(mayL l cs (hvH l cs k)).filter fun i=> !(isHv cs i) && (tget tl i).isNone
def stoD(T:Tab)(N:Nat)(l:List Oper)(cs:List (Option AV))(fr:Fr)(σ:Sto)(ss:List Sto)(k:Nat):Option Sto:=match l[(hvL l cs).getD k 0]? with
 | some o=>(match o.dst with
  | none=>(opDo T N o (purF l cs (allT l)++fr) (stoK σ ss k)).map Prod.snd
  | some _=>none)
 | none=>none
def zchk(N:Nat)(tl:List (Nat × AV))(l:List Oper)(cs:List (Option AV)):Bool:=
 vWb N l cs &&
 ((List.range ((hvL l cs).length+1)).all fun k=>(mayL l cs (hvH l cs k)).all fun i=> !(isHv cs i) || (Nat.beq i ((hvL l cs).getD k 0) && Nat.ble (k+1) (hvL l cs).length)) &&
 ((List.range (hvL l cs).length).all fun k=>((hvH l cs k).set ((hvL l cs).getD k 0) true==hvH l cs (k+1)) && !((List.range l.length).all fun i=> !(isHv cs i) || (hvH l cs k).getD i false)) &&
 (hvH l cs 0==List.replicate l.length false) &&
 ((List.range ((hvL l cs).length+1)).all fun k=>(purK l cs tl k).all fun i=>(YLa cs i).isSome)
inductive Told (E:Env) (l:List Oper) (cs:List (Option AV)) (fr:Fr) (L:List Sto):List (Nat × AV)->Prop
 | nil:Told E l cs fr L []
 | cons {i:Nat} {c:AV} {o:Oper} {r:List (Nat × AV)} (ho:l[i]? =some o) (hc:cs[i]? =some (some c)) (h:∀s,s∈L->OpG E o (purF l cs (allT l)++fr) s c) (hr:Told E l cs fr L r):Told E l cs fr L ((i,c)::r)
theorem t0{o:Oper}{FR:Fr}{c:AV}(h:OpG E o FR σ c):∀s,s∈ [σ]->OpG E o FR s c:=fun s hs=>by
 rw[List.mem_singleton.1 hs];exact h
theorem Told.get{L:List Sto}{tl:List (Nat × AV)}(h:Told E l cs fr L tl){i:Nat}(hi:(tget tl i).isSome=true):∃o c,l[i]? =some o/\cs[i]? =some (some c)/\∀s,s∈L->OpG E o (purF l cs (allT l)++fr) s c:=by
 induction h with
 | nil=>cases hi
 | @cons k c o r ho hc h _ ih=>
  unfold tget at hi;cases hb:Nat.beq k i with
  | true=>
   have:=Nat.eq_of_beq_eq_true hb;subst this;exact ⟨o,c,ho,hc,h⟩
  | false=>rw[hb]at hi;exact ih hi
theorem ZZa.of:∀{r:List Node},(∀nd∈r,qXb E l cs K all nd)->ZZa E l cs K all r
 | [],_=>.nil
 | nd::r,h=>.cons (h nd (by simp)) (ZZa.of fun x hx=>h x (by simp[hx]))
theorem opDo_sto{N:Nat}{o:Oper}{FR:Fr}{p:Fr × Sto}(hT:kTa E.P T)(hN:N=E.N)(hd:o.dst=none)(h:opDo T N o FR σ=some p):HvS E o FR σ p.2:=by
 subst hN;obtain ⟨f2,σ'⟩:=p;refine ⟨fun fr he _=>?_⟩;refine qPb hT ?_;obtain ⟨dst,op,ty,pos,af,gu⟩:=o;dsimp only at hd;subst hd;unfold opDo at h ⊢;dsimp only at h ⊢;cases op
 case store t x y=>
  have e1:=he x (by simp[Op.operands,Call.operands]);have e2:=he y (by simp[Op.operands,Call.operands]);dsimp only at h ⊢;rw[e1,e2];split at h
  .rename_i row hr;split at h
   .rename_i b off hx;split at h
    .rename_i cs' ho;split at h
     .rename_i vs hy;cases hb:(Nat.beq vs.length row.size && Nat.ble (off+vs.length) cs'.length) with
      | false=>rw[hb]at h;cases h
      | true=>
       rw[hb]at h;simp only[cond_true]at h ⊢;split at h
       .rename_i c2 hc2;split at h
        .rename_i s2 hs2;cases h;simp only[hr,hx,ho,hy,hb,hc2,hs2,cond_true]
        cases h
       cases h
     cases h
    cases h
   cases h
  cases h
 all_goals cases h
theorem mc(hT:kTa E.P T){id:Nat}(tl:List (Nat × AV))(frJ:Fr){ss:List Sto}{σJ:Sto}(hmix:E.P.follows .mixedOrders=true)(hz:zrun T E.N tl l 0 fr σ=some (cs,ss,σJ))
 (hk:(zchk E.N tl l cs,(List.range ((hvL l cs).length+1)).map (fun k=>(purK l cs tl k).map (ypb T l cs fr (stoK σ ss k))),(List.range (hvL l cs).length).map (stoD T E.N l cs fr σ ss),stoK σ ss (hvL l cs).length)=(true,(List.range ((hvL l cs).length+1)).map (fun k=>(purK l cs tl k).map (YLa cs)),(List.range (hvL l cs).length).map (fun k=>some (stoK σ ss (k+1))),σJ))
 (ht:Told E l cs fr (σ::ss) tl) (hf:FrLe (purF l cs (allT l)++fr) frJ) (h:K .normal frJ σJ):AWP E (.region id l.toArray true) fr σ K:=by
 have k1:=congrArg (fun x=>x.1) hk;have k2:=congrArg (fun x=>x.2.1) hk;have k3:=congrArg (fun x=>x.2.2.1) hk;have k4:=congrArg (fun x=>x.2.2.2) hk;dsimp only at k1 k2 k3 k4;rw[<-k4]at h;have hin:∀k,stoK σ ss k∈σ::ss:=fun k=>by
  unfold stoK;rw[List.getD_eq_getElem?_getD];cases hg:(σ::ss)[k]? with
  | none=>simp
  | some s=>exact List.mem_of_getElem? hg
 simp only[zchk,Bool.and_eq_true,List.all_eq_true]at k1;obtain ⟨⟨⟨⟨q1,q2⟩,q3⟩,q4⟩,q5⟩:=k1;have hget:∀k,k < (hvL l cs).length+1->(nods l cs fr σ ss)[k]? =some (nodK l cs fr σ ss k):=fun k hk=>by
  unfold nods;rw[List.getElem?_map,List.getElem?_range hk];rfl
 refine Vxa cs (nods l cs fr σ ss) hmix q1 (hget 0 (by omega)) (by simpa using q4) w3a kOa (ZZa.of fun nd hnd=>?_);obtain ⟨k,hk',rfl⟩:=List.mem_map.1 hnd;have hkr:k < (hvL l cs).length+1:=by simpa using hk'
 have steps:wna E l cs (nods l cs fr σ ss) (hvH l cs k) fr (stoK σ ss k) (mayL l cs (hvH l cs k)):=wna.of fun i hi=>by
  have hi2:=q2 k (by simpa using hkr) i hi;cases hh:isHv cs i with
  | true=>
   rw[hh]at hi2;simp only[Bool.not_true,Bool.false_or,Bool.and_eq_true]at hi2;have hik:=Nat.eq_of_beq_eq_true hi2.1;have hkn:=Nat.le_of_ble_eq_true hi2.2;have h3:=List.map_inj_left.1 k3 k (List.mem_range.2 (by omega));have hq3:=q3 k (List.mem_range.2 (by omega));simp only[Bool.and_eq_true,beq_iff_eq]at hq3;unfold stoD at h3;rw[<-hik]at h3 hq3;split at h3
   .rename_i o ho;split at h3
    .rename_i hd;obtain ⟨p,hp,hp2⟩:=Option.map_eq_some_iff.1 h3;have hc:cs[i]? =some none:=by
      unfold isHv at hh;split at hh
      .rename_i e;exact e
      cases hh
     have hs:=opDo_sto hT rfl hd hp;rw[hp2]at hs;exact .sto (k+1) ho hc hs (by rw[hget (k+1) (by omega)];unfold nodK;rw[hq3.1]) w3a kOa
    cases h3
   cases h3
  | false=>
   cases htl:tget tl i with
   | some c0=>
    obtain ⟨o,c,e1,e2,e3⟩:=ht.get (i:=i) (by rw[htl];rfl);exact .pure e1 e2 (e3 _ (hin k))
   | none=>
    have hm:i∈purK l cs tl k:=by
     unfold purK;rw[List.mem_filter];exact ⟨hi,by rw[hh,htl];rfl⟩
    have e1:=List.map_inj_left.1 k2 k (by simpa using hkr);have hq:ypb T l cs fr (stoK σ ss k) i=YLa cs i:=List.map_inj_left.1 e1 i hm;have hs:=q5 k (by simpa using hkr) i hm;obtain ⟨c,hcc⟩:=Option.isSome_iff_exists.1 hs;rw[hcc]at hq;obtain ⟨o,ho,hv⟩:=Option.bind_eq_some_iff.1 hq;obtain ⟨x,hx,hxc⟩:=Option.bind_eq_some_iff.1 hcc;have hxc:x=some c:=hxc;subst hxc;exact .pure ho hx (k9a (WYa hT hv))
 by_cases hkn:k < (hvL l cs).length
 .have hq3:=q3 k (by simpa using hkn);simp only[Bool.and_eq_true,Bool.not_eq_true']at hq3;exact .step _ rfl hq3.2 steps
 have:k=(hvL l cs).length:=by omega
 subst this;exact .full _ rfl steps hf kOa h
end
theorem zWa(a0:zva)(r:Bool)(hr:z8a a0=some r):Run prog 29 [.agg [.i a0.Code,.i a0.Index]] (.bo r):=by
 unfold z8a at hr;refine rf (fn:=f29) ⟨func29,rfl,by kernel_rfl⟩ rfl (fun _=>rfl) fun g0 hg=>?_
 refine rn tk 15 rfl ?_;cases hr;exact kr tk (.inr rfl) rfl rfl
theorem zqa(a0:Int)(a1:Int)(r:zva)(hr:zxa a0 a1=some r):Run prog 35 [.i a0,.i a1] (.agg [.i r.Code,.i r.Index]):=by
 unfold zxa at hr;refine rf (fn:=f35) ⟨func35,rfl,by kernel_rfl⟩ rfl (fun _=>rfl) fun g0 hg=>?_
 refine rn tk 14 rfl ?_;cases hr;exact kr tk (.inr rfl) rfl rfl
theorem z2a(r:zva)(hr:kCa=some r):Run prog 30 [] (.agg [.i r.Code,.i r.Index]):=by
 unfold kCa at hr;refine rf (fn:=f30) ⟨func30,rfl,by kernel_rfl⟩ rfl (fun _=>rfl) fun g0 hg=>?_
 refine rn tk 12 rfl ?_;cases hr;exact kr tk (.inr rfl) rfl rfl
theorem ZFa(a0:UInt8)(r:Bool)(hr:waa a0=some r):Run prog 84 [.u8 a0] (.bo r):=by
 unfold waa at hr;refine rf (fn:=f84) ⟨func84,rfl,by kernel_rfl⟩ rfl (fun _=>rfl) fun g0 hg=>?_
 refine rn tk 5 rfl<|jb hr (fun j1=>[(2,.bo j1)]) (fun j1=>[]) (fun j1 hr=>?_) (fun j1 hr=>?_)
 .refine rn tk 4 rfl<|bs 5 hr rfl (fun c2 hr=>?_) (fun c2 hr=>?_)
  .refine rn tk 4 rfl<|bs 9 hr rfl (fun c3 hr=>?_) (fun c3 hr=>?_)
   .refine rn tk 17 rfl ?_;cases hr;exact jn _ rfl rfl rfl
   refine rn tk 3 rfl<|bs 12 hr rfl (fun c4 hr=>?_) (fun c4 hr=>?_)
   .refine rn tk 5 rfl<|bs 17 hr rfl (fun c5 hr=>?_) (fun c5 hr=>?_)
    .refine rn tk 9 rfl ?_;cases hr;exact jn _ rfl rfl rfl
    refine rn tk 3 rfl<|bs 20 hr rfl (fun c6 hr=>?_) (fun c6 hr=>?_)
    .refine rn tk 6 rfl ?_;cases hr;exact jn _ rfl rfl rfl
    refine rn tk 6 rfl ?_;cases hr;exact jn _ rfl rfl rfl
   refine rn tk 8 rfl<|bs 20 hr rfl (fun c7 hr=>?_) (fun c7 hr=>?_)
   .refine rn tk 6 rfl ?_;cases hr;exact jn _ rfl rfl rfl
   refine rn tk 6 rfl ?_;cases hr;exact jn _ rfl rfl rfl
  refine rn tk 7 rfl<|bs 12 hr rfl (fun c8 hr=>?_) (fun c8 hr=>?_)
  .refine rn tk 5 rfl<|bs 17 hr rfl (fun c9 hr=>?_) (fun c9 hr=>?_)
   .refine rn tk 9 rfl ?_;cases hr;exact jn _ rfl rfl rfl
   refine rn tk 3 rfl<|bs 20 hr rfl (fun c10 hr=>?_) (fun c10 hr=>?_)
   .refine rn tk 6 rfl ?_;cases hr;exact jn _ rfl rfl rfl
   refine rn tk 6 rfl ?_;cases hr;exact jn _ rfl rfl rfl
  refine rn tk 8 rfl<|bs 20 hr rfl (fun c11 hr=>?_) (fun c11 hr=>?_)
  .refine rn tk 6 rfl ?_;cases hr;exact jn _ rfl rfl rfl
  refine rn tk 6 rfl ?_;cases hr;exact jn _ rfl rfl rfl
 refine rn tk 1 rfl ?_;cases hr;exact kr tk (.inr rfl) rfl rfl
theorem K6a(a0:Str)(r:Bool)(hr:yLa a0=some r):Run prog 56 [.s a0] (.bo r):=by
 unfold yLa at hr;refine rf (fn:=f56) ⟨func56,rfl,by kernel_rfl⟩ rfl (fun _=>rfl) fun g0 hg=>?_
 refine rn tk 5 rfl<|jb hr (fun j1=>[(2,.bo j1)]) (fun j1=>[]) (fun j1 hr=>?_) (fun j1 hr=>?_)
 .refine rn tk 4 rfl<|bs 5 hr rfl (fun c2 hr=>?_) (fun c2 hr=>?_)
  .refine rn tk 5 rfl<|bs 10 hr rfl (fun c3 hr=>?_) (fun c3 hr=>?_)
   .refine rn tk 1 rfl<|ug rfl rfl rfl<|ct hr (fun j4=>[(10,.bo true),(12,.bo j4)]) (fun j4=>[]) (fun j4 hr jump4=>?_) (fun j4 hr=>?_)
    .refine il (fn:=f82) (args:=[.s a0,.fn (.func 83) [] []]) 400000 499999 [(10,.bo true)] rfl ⟨func82,rfl,by kernel_rfl⟩ rfl rfl rfl fun T4 ds4=>?_
     refine rn tk 14 rfl<|al2 hr (fun s5=>[(0,.s a0),(1,.fn (.func 83) [] []),(7,.i ((a0.length:Int))),(8,.i s5)]) (fun s5=>[(499999,.sus g0.w.heap.size ds4),(400010,.hold (.bo true) (T4.getD 10 undef))]) (.exit 0) (fun b6=>[]) (fun b6=>[(499999,.sus g0.w.heap.size ds4),(400010,.hold (.bo true) (T4.getD 10 undef))]) .ret (fun b7=>[(4,.bo false)]) (fun b7=>[(499999,.sus g0.w.heap.size ds4),(400010,.hold (.bo true) (T4.getD 10 undef))]) rfl rfl (fun s5 x9 hr=>?_) (fun b6 hr=>?_) (fun b7 hr=>?_)
     .unfold woa at hr;refine rn tk 6 rfl<|ac 9 hr rfl (fun c10 hr=>?_) (fun c10 hr=>?_)
      .refine rn tk 15 rfl ?_;obtain ⟨v11,h12,hr⟩:=zaa hr;refine ws tk h12 rfl rfl rfl rfl<|il (fn:=f83) (args:=[.u8 v11]) 600000 699999 [(0,.s a0),(1,.fn (.func 83) [] []),(7,.i ((a0.length:Int))),(8,.i s5)] rfl ⟨func83,rfl,by kernel_rfl⟩ rfl rfl rfl fun T6 ds6=>?_
       refine rn tk 5 rfl<|jb hr (fun j13=>[(2,.bo j13)]) (fun j13=>[(699999,.sus g0.w.heap.size ds6),(600000,.hold (.s a0) (T6.getD 0 undef)),(600001,.hold (.fn (.func 83) [] []) (T6.getD 1 undef)),(600007,.hold (.i ((a0.length:Int))) (T6.getD 7 undef)),(600008,.hold (.i s5) (T6.getD 8 undef)),(499999,.sus g0.w.heap.size ds4),(400010,.hold (.bo true) (T4.getD 10 undef))]) (fun j13 hr=>?_) (fun j13 hr=>?_)
       .refine rn tk 2 rfl ?_;obtain ⟨v14,h15,hr⟩:=zaa hr;refine cl (ZFa _ _ h15) rfl rfl<|rn tk 1 rfl<|bs 5 hr rfl (fun c16 hr=>?_) (fun c16 hr=>?_)
        .refine rn tk 13 rfl ?_;cases hr;exact jn _ rfl rfl rfl
        refine rn tk 4 rfl<|bs 9 hr rfl (fun c17 hr=>?_) (fun c17 hr=>?_)
        .refine rn tk 9 rfl ?_;cases hr;exact jn _ rfl rfl rfl
        refine rn tk 4 rfl<|bs 13 hr rfl (fun c18 hr=>?_) (fun c18 hr=>?_)
        .refine rn tk 5 rfl ?_;cases hr;exact jn _ rfl rfl rfl
        refine rn tk 5 rfl ?_;cases hr;exact jn _ rfl rfl rfl
       refine rn tk 1 rfl ?_;refine ie tk [.bo j13] [(0,.s a0),(1,.fn (.func 83) [] []),(7,.i ((a0.length:Int))),(8,.i s5)] [(499999,.sus g0.w.heap.size ds4),(400010,.hold (.bo true) (T4.getD 10 undef))] (.inr rfl) rfl rfl rfl rfl (hO ?_);refine rn tk 3 rfl<|ac 16 hr rfl (fun c19 hr=>?_) (fun c19 hr=>?_)
       .refine rn tk 8 rfl ?_;cases hr;exact ato rfl rfl rfl rfl
       refine rn tk 7 rfl ?_;cases hr;exact atc rfl rfl
      refine rn tk 2 rfl ?_;cases hr;exact ato rfl rfl rfl rfl
     .refine rn tk 8 rfl ?_;refine ie tk [.bo true] [(10,.bo true)] [] (.inr rfl) rfl rfl rfl rfl ?_;cases hr;exact jump4 _ _ rfl rfl
     refine rn tk 2 rfl ?_;refine ie tk [.bo false] [(10,.bo true)] [] (.inr rfl) rfl rfl rfl rfl ?_;cases hr;exact jump4 _ _ rfl rfl
    refine rn tk 3 rfl ?_;cases hr;exact jn _ rfl rfl rfl
   refine rn tk 5 rfl ?_;cases hr;exact jn _ rfl rfl rfl
  refine rn tk 10 rfl ?_;cases hr;exact jn _ rfl rfl rfl
 refine rn tk 1 rfl ?_;cases hr;exact kr tk (.inr rfl) rfl rfl
theorem yma(a0:Str)(a1:Int)(a2:Int)(r:zva)(hr:k0a a0 a1 a2=some r):Run prog 28 [.s a0,.i a1,.i a2] (.agg [.i r.Code,.i r.Index]):=by
 unfold k0a at hr;refine rf (fn:=f28) ⟨func28,rfl,by kernel_rfl⟩ rfl (fun _=>rfl) fun g0 hg=>?_
 refine rn tk 7 rfl<|jb hr (fun j1=>[(1,.i a1),(2,.i a2),(6,.ptr 6 0),(7,.bo j1)]) (fun j1=>[(6,.cells [.i 0,.i 0])]) (fun j1 hr=>?_) (fun j1 hr=>?_)
 .refine rn tk 2 rfl ?_;obtain ⟨v2,h3,hr⟩:=zaa hr;refine cl (K6a _ _ h3) rfl rfl<|rn tk 2 rfl<|bs 11 hr rfl (fun c4 hr=>?_) (fun c4 hr=>?_)
  .refine rn tk 6 rfl ?_;cases hr;exact jn _ rfl rfl rfl
  refine rn tk 6 rfl ?_;cases hr;exact jn _ rfl rfl rfl
 refine ac 7 hr rfl (fun c5 hr=>?_) (fun c5 hr=>?_)
 .refine rn tk 2 rfl ?_;obtain ⟨v6,h7,hr⟩:=zaa hr;refine cl (zqa _ _ _ h7) rfl rfl<|rn tk 6 rfl ?_;cases hr;exact kr tk (.inr rfl) rfl rfl
 refine jb hr (fun j8=>[(2,.i a2),(6,.ptr 6 0),(17,.bo j8)]) (fun j8=>[(6,.cells [.i 0,.i 0])]) (fun j8 hr=>?_) (fun j8 hr=>?_)
 .refine rn tk 4 rfl<|bs 20 hr rfl (fun c9 hr=>?_) (fun c9 hr=>?_)
  .refine rn tk 5 rfl ?_;cases hr;exact jn _ rfl rfl rfl
  refine rn tk 5 rfl ?_;cases hr;exact jn _ rfl rfl rfl
 refine ac 17 hr rfl (fun c10 hr=>?_) (fun c10 hr=>?_)
 .refine rn tk 2 rfl ?_;obtain ⟨v11,h12,hr⟩:=zaa hr;refine cl (zqa _ _ _ h12) rfl rfl<|rn tk 6 rfl ?_;cases hr;exact kr tk (.inr rfl) rfl rfl
 refine jb hr (fun j13=>[(6,.ptr 6 0),(25,.bo j13)]) (fun j13=>[(6,.cells [.i 0,.i 0])]) (fun j13 hr=>?_) (fun j13 hr=>?_)
 .refine rn tk 4 rfl<|bs 28 hr rfl (fun c14 hr=>?_) (fun c14 hr=>?_)
  .refine rn tk 5 rfl ?_;cases hr;exact jn _ rfl rfl rfl
  refine rn tk 5 rfl ?_;cases hr;exact jn _ rfl rfl rfl
 refine ac 25 hr rfl (fun c15 hr=>?_) (fun c15 hr=>?_)
 .refine rn tk 2 rfl ?_;obtain ⟨v16,h17,hr⟩:=zaa hr;refine cl (zqa _ _ _ h17) rfl rfl<|rn tk 6 rfl ?_;cases hr;exact kr tk (.inr rfl) rfl rfl
 refine rn tk 5 rfl ?_;obtain ⟨v18,h19,hr⟩:=zaa hr;refine cl (z2a _ h19) rfl rfl<|rn tk 4 rfl ?_;cases hr;exact kr tk (.inr rfl) rfl rfl
end Go.Proofs.YtmmjihadplknjaaGreatDoor
namespace Go.Proofs
open Go.Shelf
def Tryz.lays156_ren:Go.Shelf.Ren:=⟨fun | 156=>188 | 165=>206 | 166=>207 | 169=>208 | 240=>227 | 241=>228 | 276=>239 | 277=>240 | n=>n,fun | 31=>26 | 9=>9 | 3=>3 | 4=>4 | 0=>0 | 20=>20 | 72=>226 | 76=>207 | 70=>224 | 37=>23 | 75=>206 | 127=>253 | 164=>278 | 5=>5 | 80=>228 | n=>n,fun | n=>n⟩
theorem Tryz.cqz{α:Type}{a:Option α}{x y:α}(h:a=some x)(e:x=y):a=some y:=h.trans (congrArg some e)
theorem Tryz.lays156:Go.Proofs.Lays.n156 prog Tryz.lays156_ren:=⟨by kernel_rfl,cqz func188 (by kernel_rfl),cqz func206 (by kernel_rfl),cqz func207 (by kernel_rfl),cqz func208 (by kernel_rfl),cqz func227 (by kernel_rfl),cqz func228 (by kernel_rfl),cqz func239 (by kernel_rfl),cqz func240 (by kernel_rfl),underlying0,isAgg0,sizeOf0,zeroValue0,underlying3,isAgg3,sizeOf3,zeroValue3,underlying4,isAgg4,sizeOf4,zeroValue4,underlying9,isAgg9,sizeOf9,zeroValue9,underlying20,isAgg20,sizeOf20,zeroValue20,underlying26,isAgg26,sizeOf26,zeroValue26,underlying23,isAgg23,sizeOf23,zeroValue23,underlying224,isAgg224,sizeOf224,zeroValue224,underlying226,isAgg226,sizeOf226,zeroValue226,underlying206,isAgg206,sizeOf206,zeroValue206,underlying207,isAgg207,sizeOf207,zeroValue207,underlying253,isAgg253,sizeOf253,zeroValue253,underlying278,isAgg278,sizeOf278,zeroValue278⟩
theorem Tryz.Builder_Extra_156:Builder.Extra prog Tryz.lays156_ren:={
 sizeBuilder:=by kernel_rfl
 liesBuilder:=by kernel_rfl
 t5:=underlying5
 a5:=isAgg5
 z5:=sizeOf5
 v5:=zeroValue5
 infoByte:=by kernel_rfl
 cellsByte:=by kernel_rfl
 sizeByte:=by kernel_rfl
 neB5:=by decide}
open Go.RowKit in
theorem Tryz.strings_Join_none(a:Option Addr)(c:Nat)(sep:ByteArray)(w:World):
 Calls prog 188 #[.slice a 0 c,.string sep] w fun e w' =>e=.returned (.string ⟨#[]⟩)/\w' =w:=Any.strings_Join_none Tryz.lays156 Tryz.Builder_Extra_156 a c sep w
open Go.RowKit in
theorem Tryz.strings_Join(bk o c:Nat)(xs:List ByteArray)(sep:ByteArray)(w:World)(hcells:∀(j:Nat) x,xs[j]? =some x->w.cell? ⟨bk,o+j,none⟩=some (.string x))(hbk:bk < w.heap.size)(hN:xs.length<=140737488355328)(hcap:xs.length<=c)(hlen:(Lib.join (xs.map (·.data.toList)) sep.data.toList).length<=140737488355328):
 Calls prog 188 #[.slice (some ⟨bk,o,none⟩) xs.length c,.string sep] w fun e w' =>e=.returned (.string ⟨(Lib.join (xs.map (·.data.toList)) sep.data.toList).toArray⟩)/\Below w.heap.size w w' :=Any.strings_Join Tryz.lays156 Tryz.Builder_Extra_156 bk o c xs sep w hcells hbk hN hcap hlen
def Tryz.lays162_ren:Go.Shelf.Ren:=⟨fun | 162=>169 | 232=>172 | 227=>173 | 234=>175 | 236=>177 | 228=>192 | 271=>195 | 151=>194 | 120=>213 | 197=>193 | 152=>209 | 260=>212 | 137=>118 | 119=>229 | 224=>148 | 225=>190 | 217=>141 | 266=>162 | n=>n,fun | 9=>9 | 4=>4 | 3=>3 | 5=>5 | 117=>194 | 116=>193 | 0=>0 | 124=>197 | 21=>21 | 105=>214 | 46=>162 | 119=>239 | 139=>256 | 138=>255 | n=>n,fun | 3=>2 | 4=>3 | n=>n⟩
theorem Tryz.lays162:Go.Proofs.Lays.n162 prog Tryz.lays162_ren:=⟨by kernel_rfl,cqz func229 (by kernel_rfl),cqz func213 (by kernel_rfl),cqz func118 (by kernel_rfl),cqz func194 (by kernel_rfl),cqz func209 (by kernel_rfl),cqz func169 (by kernel_rfl),cqz func193 (by kernel_rfl),cqz func141 (by kernel_rfl),cqz func148 (by kernel_rfl),cqz func190 (by kernel_rfl),cqz func173 (by kernel_rfl),cqz func192 (by kernel_rfl),cqz func172 (by kernel_rfl),cqz func175 (by kernel_rfl),cqz func177 (by kernel_rfl),cqz func212 (by kernel_rfl),cqz func162 (by kernel_rfl),cqz func195 (by kernel_rfl),underlying0,isAgg0,sizeOf0,zeroValue0,underlying3,isAgg3,sizeOf3,zeroValue3,underlying4,isAgg4,sizeOf4,zeroValue4,underlying5,isAgg5,sizeOf5,zeroValue5,underlying9,isAgg9,sizeOf9,zeroValue9,underlying21,isAgg21,sizeOf21,zeroValue21,underlying162,isAgg162,sizeOf162,zeroValue162,underlying214,isAgg214,sizeOf214,zeroValue214,underlying193,isAgg193,sizeOf193,underlying194,isAgg194,sizeOf194,zeroValue194,underlying239,isAgg239,sizeOf239,underlying197,isAgg197,sizeOf197,zeroValue197,underlying255,isAgg255,sizeOf255,zeroValue255,underlying256,isAgg256,sizeOf256,zeroValue256,by kernel_rfl,by kernel_rfl⟩
def Tryz.lays160_ren:Go.Shelf.Ren:=⟨fun | 160=>153 | 232=>172 | 231=>171 | 227=>173 | 234=>175 | 233=>174 | 236=>177 | 235=>176 | 228=>192 | 271=>195 | 151=>194 | 197=>193 | 120=>213 | 152=>209 | 260=>212 | 137=>118 | 119=>229 | 224=>148 | 225=>190 | 217=>141 | 266=>162 | n=>n,fun | 9=>9 | 4=>4 | 3=>3 | 5=>5 | 117=>194 | 116=>193 | 0=>0 | 124=>197 | 21=>21 | 105=>214 | 46=>162 | 119=>239 | 139=>256 | 138=>255 | n=>n,fun | 3=>2 | 4=>3 | n=>n⟩
theorem Tryz.lays160:Go.Proofs.Lays.n160 prog Tryz.lays160_ren:=⟨by kernel_rfl,cqz func229 (by kernel_rfl),cqz func213 (by kernel_rfl),cqz func118 (by kernel_rfl),cqz func194 (by kernel_rfl),cqz func209 (by kernel_rfl),cqz func153 (by kernel_rfl),cqz func193 (by kernel_rfl),cqz func141 (by kernel_rfl),cqz func148 (by kernel_rfl),cqz func190 (by kernel_rfl),cqz func173 (by kernel_rfl),cqz func192 (by kernel_rfl),cqz func171 (by kernel_rfl),cqz func172 (by kernel_rfl),cqz func174 (by kernel_rfl),cqz func175 (by kernel_rfl),cqz func176 (by kernel_rfl),cqz func177 (by kernel_rfl),cqz func212 (by kernel_rfl),cqz func162 (by kernel_rfl),cqz func195 (by kernel_rfl),underlying0,isAgg0,sizeOf0,zeroValue0,underlying3,isAgg3,sizeOf3,zeroValue3,underlying4,isAgg4,sizeOf4,zeroValue4,underlying5,isAgg5,sizeOf5,zeroValue5,underlying9,isAgg9,sizeOf9,zeroValue9,underlying21,isAgg21,sizeOf21,zeroValue21,underlying162,isAgg162,sizeOf162,zeroValue162,underlying214,isAgg214,sizeOf214,zeroValue214,underlying193,isAgg193,sizeOf193,underlying194,isAgg194,sizeOf194,zeroValue194,underlying239,isAgg239,sizeOf239,underlying197,isAgg197,sizeOf197,zeroValue197,underlying255,isAgg255,sizeOf255,zeroValue255,underlying256,isAgg256,sizeOf256,zeroValue256,by kernel_rfl,by kernel_rfl⟩
def Tryz.lays137_ren:Go.Shelf.Ren:=⟨fun | 137=>118 | 217=>141 | 266=>162 | n=>n,fun | 9=>9 | 5=>5 | 3=>3 | n=>n,fun | n=>n⟩
theorem Tryz.lays137:Go.Proofs.Lays.n137 prog Tryz.lays137_ren:=⟨by kernel_rfl,cqz func118 (by kernel_rfl),cqz func141 (by kernel_rfl),cqz func162 (by kernel_rfl),underlying3,isAgg3,sizeOf3,zeroValue3,underlying5,isAgg5,sizeOf5,zeroValue5,underlying9,isAgg9,sizeOf9,zeroValue9⟩
open Go.RowKit in
theorem Tryz.strings_IndexByte(s:ByteArray)(c:Int)(w:World):
 Calls prog 118 #[.string s,.int .u8 c] w fun e w' =>e=.returned (.int .i64 (Lib.indexByte s.data.toList c.toNat.toUInt8))/\w' =w:=Any.strings_IndexByte Tryz.lays137 s c w
def Tryz.lays103_ren:Go.Shelf.Ren:=⟨fun | 103=>156 | 210=>184 | 206=>163 | n=>n,fun | 9=>9 | 4=>4 | 24=>130 | 3=>3 | n=>n,fun | n=>n⟩
theorem Tryz.lays103:Go.Proofs.Lays.n103 prog Tryz.lays103_ren:=⟨by kernel_rfl,cqz func156 (by kernel_rfl),cqz func163 (by kernel_rfl),cqz func184 (by kernel_rfl),underlying3,isAgg3,sizeOf3,zeroValue3,underlying4,isAgg4,sizeOf4,zeroValue4,underlying9,isAgg9,sizeOf9,zeroValue9,underlying130,isAgg130,sizeOf130,zeroValue130⟩
open Go.RowKit in
theorem Tryz.strings_CutPrefix(s p:ByteArray)(w:World):
 Calls prog 156 #[.string s,.string p] w fun e w' =>e=.returned (.tuple #[.string ⟨(Lib.trimPrefix s.data.toList p.data.toList).toArray⟩,.bool (Lib.hasPrefix s.data.toList p.data.toList)])/\w' =w:=Any.strings_CutPrefix Tryz.lays103 s p w
def Tryz.lays104_ren:Go.Shelf.Ren:=⟨fun | 104=>157 | 211=>185 | 207=>164 | n=>n,fun | 9=>9 | 4=>4 | 24=>130 | 3=>3 | n=>n,fun | n=>n⟩
theorem Tryz.lays104:Go.Proofs.Lays.n104 prog Tryz.lays104_ren:=⟨by kernel_rfl,cqz func157 (by kernel_rfl),cqz func164 (by kernel_rfl),cqz func185 (by kernel_rfl),underlying3,isAgg3,sizeOf3,zeroValue3,underlying4,isAgg4,sizeOf4,zeroValue4,underlying9,isAgg9,sizeOf9,zeroValue9,underlying130,isAgg130,sizeOf130,zeroValue130⟩
open Go.RowKit in
theorem Tryz.strings_CutSuffix(s p:ByteArray)(w:World)(hs:s.size<=9223372036854775807):
 Calls prog 157 #[.string s,.string p] w fun e w' =>e=.returned (.tuple #[.string ⟨(Lib.trimSuffix s.data.toList p.data.toList).toArray⟩,.bool (Lib.hasSuffix s.data.toList p.data.toList)])/\w' =w:=Any.strings_CutSuffix Tryz.lays104 s p w hs
def Tryz.lays172_ren:Go.Shelf.Ren:=⟨fun | 172=>186 | 244=>204 | 245=>205 | 247=>222 | 279=>223 | 280=>224 | 281=>225 | 282=>226 | 287=>236 | 316=>237 | 171=>92 | 205=>238 | 321=>250 | 322=>251 | 243=>124 | 246=>155 | 283=>180 | 284=>181 | 285=>182 | 286=>183 | 129=>200 | 317=>199 | 318=>201 | 319=>202 | 320=>203 | 337=>220 | 338=>221 | n=>n,fun | 9=>9 | 3=>3 | 75=>206 | 76=>207 | 4=>4 | 5=>5 | 167=>247 | 37=>23 | 0=>0 | 85=>248 | 2=>2 | 168=>250 | 53=>200 | 175=>273 | 46=>162 | 210=>276 | 127=>253 | 145=>293 | 143=>291 | 21=>21 | 171=>199 | 173=>203 | 212=>220 | 51=>172 | 20=>20 | 213=>221 | 232=>271 | 233=>272 | 80=>228 | n=>n,fun | 15=>6 | 16=>7 | 17=>1 | 18=>4 | 19=>5 | n=>n⟩
theorem Tryz.lays172:Go.Proofs.Lays.n172 prog Tryz.lays172_ren:=⟨by kernel_rfl,cqz func200 (by kernel_rfl),cqz func92 (by kernel_rfl),cqz func186 (by kernel_rfl),cqz func238 (by kernel_rfl),cqz func124 (by kernel_rfl),cqz func204 (by kernel_rfl),cqz func205 (by kernel_rfl),cqz func155 (by kernel_rfl),cqz func222 (by kernel_rfl),cqz func223 (by kernel_rfl),cqz func224 (by kernel_rfl),cqz func225 (by kernel_rfl),cqz func226 (by kernel_rfl),cqz func180 (by kernel_rfl),cqz func181 (by kernel_rfl),cqz func182 (by kernel_rfl),cqz func183 (by kernel_rfl),cqz func236 (by kernel_rfl),cqz func237 (by kernel_rfl),cqz func199 (by kernel_rfl),cqz func201 (by kernel_rfl),cqz func202 (by kernel_rfl),cqz func203 (by kernel_rfl),cqz func250 (by kernel_rfl),cqz func251 (by kernel_rfl),cqz func220 (by kernel_rfl),cqz func221 (by kernel_rfl),underlying0,isAgg0,sizeOf0,zeroValue0,underlying2,isAgg2,sizeOf2,zeroValue2,underlying3,isAgg3,sizeOf3,zeroValue3,underlying4,isAgg4,sizeOf4,zeroValue4,underlying5,isAgg5,sizeOf5,zeroValue5,underlying9,isAgg9,sizeOf9,zeroValue9,underlying20,isAgg20,sizeOf20,zeroValue20,underlying21,isAgg21,sizeOf21,zeroValue21,underlying23,isAgg23,sizeOf23,zeroValue23,underlying162,isAgg162,sizeOf162,zeroValue162,underlying172,isAgg172,sizeOf172,zeroValue172,underlying200,isAgg200,sizeOf200,zeroValue200,underlying206,isAgg206,sizeOf206,zeroValue206,underlying207,isAgg207,sizeOf207,zeroValue207,underlying248,isAgg248,sizeOf248,zeroValue248,underlying253,isAgg253,sizeOf253,zeroValue253,underlying291,isAgg291,sizeOf291,zeroValue291,underlying293,isAgg293,sizeOf293,zeroValue293,underlying247,isAgg247,sizeOf247,zeroValue247,underlying250,isAgg250,sizeOf250,zeroValue250,underlying199,isAgg199,sizeOf199,zeroValue199,underlying203,isAgg203,sizeOf203,zeroValue203,underlying273,isAgg273,sizeOf273,zeroValue273,underlying276,isAgg276,sizeOf276,zeroValue276,underlying220,isAgg220,sizeOf220,zeroValue220,underlying221,isAgg221,sizeOf221,underlying271,isAgg271,sizeOf271,zeroValue271,underlying272,isAgg272,sizeOf272,zeroValue272,by kernel_rfl,by kernel_rfl,by kernel_rfl,by kernel_rfl,by kernel_rfl⟩
open Go.RowKit in
theorem Tryz.strconv_Atoi(s:ByteArray)(n:Int)(hl:s.size<=18)(h:Lib.atoi s.data.toList=some n)(w:World):
 Calls prog 186 #[.string s] w fun e w' =>e=.returned (.tuple #[.int .i64 n,.nilIface])/\∃t,w' =Lib.bytesWorld w 5 t:=Any.strconv_Atoi Tryz.lays172 s n hl h w
def Tryz.laysM171_ren:Go.Shelf.Ren:=⟨fun | 171=>92 | 243=>124 | 246=>155 | 283=>180 | 284=>181 | 285=>182 | 286=>183 | 129=>200 | 317=>199 | 318=>201 | 319=>202 | 320=>203 | 337=>220 | 338=>221 | n=>n,fun | 3=>3 | 9=>9 | 2=>2 | 4=>4 | 171=>199 | 0=>0 | 53=>200 | 37=>23 | 5=>5 | 173=>203 | 212=>220 | 51=>172 | 20=>20 | 213=>221 | 46=>162 | 232=>271 | 233=>272 | n=>n,fun | 17=>1 | 18=>4 | 19=>5 | n=>n⟩
theorem Tryz.laysM171:Go.Proofs.LaysM.n171 prog Tryz.laysM171_ren:={mixed:=by kernel_rfl,f129:=cqz func200 (by kernel_rfl),f171:=cqz func92 (by kernel_rfl),f243:=cqz func124 (by kernel_rfl),f246:=cqz func155 (by kernel_rfl),f283:=cqz func180 (by kernel_rfl),f284:=cqz func181 (by kernel_rfl),f285:=cqz func182 (by kernel_rfl),f286:=cqz func183 (by kernel_rfl),f317:=cqz func199 (by kernel_rfl),f318:=cqz func201 (by kernel_rfl),f319:=cqz func202 (by kernel_rfl),f320:=cqz func203 (by kernel_rfl),f337:=cqz func220 (by kernel_rfl),f338:=cqz func221 (by kernel_rfl),t0:=underlying0,a0:=isAgg0,z0:=sizeOf0,v0:=zeroValue0,t2:=underlying2,a2:=isAgg2,z2:=sizeOf2,v2:=zeroValue2,t3:=underlying3,a3:=isAgg3,z3:=sizeOf3,v3:=zeroValue3,t4:=underlying4,a4:=isAgg4,z4:=sizeOf4,v4:=zeroValue4,t5:=underlying5,a5:=isAgg5,z5:=sizeOf5,v5:=zeroValue5,t9:=underlying9,a9:=isAgg9,z9:=sizeOf9,v9:=zeroValue9,t20:=underlying20,a20:=isAgg20,z20:=sizeOf20,v20:=zeroValue20,t37:=underlying23,a37:=isAgg23,z37:=sizeOf23,v37:=zeroValue23,t46:=underlying162,a46:=isAgg162,z46:=sizeOf162,v46:=zeroValue162,t51:=underlying172,a51:=isAgg172,z51:=sizeOf172,v51:=zeroValue172,t53:=underlying200,a53:=isAgg200,z53:=sizeOf200,v53:=zeroValue200,t171:=underlying199,a171:=isAgg199,z171:=sizeOf199,v171:=zeroValue199,t173:=underlying203,a173:=isAgg203,z173:=sizeOf203,v173:=zeroValue203,t212:=underlying220,a212:=isAgg220,z212:=sizeOf220,v212:=zeroValue220,t213:=underlying221,a213:=isAgg221,z213:=sizeOf221,t232:=underlying271,a232:=isAgg271,z232:=sizeOf271,v232:=zeroValue271,t233:=underlying272,a233:=isAgg272,z233:=sizeOf272,v233:=zeroValue272,g17:=by kernel_rfl,g18:=by kernel_rfl,g19:=by kernel_rfl,i0:=by kernel_rfl,i2:=by kernel_rfl,i3:=by kernel_rfl,i4:=by kernel_rfl,i5:=by kernel_rfl,i9:=by kernel_rfl,i20:=by kernel_rfl,i37:=by kernel_rfl,i46:=by kernel_rfl,i51:=by kernel_rfl,i53:=by kernel_rfl,i171:=by kernel_rfl,i173:=by kernel_rfl,i212:=by kernel_rfl,i232:=by kernel_rfl,i233:=by kernel_rfl,m17:=by kernel_rfl,m18:=by kernel_rfl,m19:=by kernel_rfl}
open Go.RowKit Go.Sort Go.Lib in
theorem Tryz.strconv_Itoa (n : Int) (h0 : -9223372036854775808 <= n) (h1 : n <= 9223372036854775807) (w : World) (htab : Lib.TabIs prog w "internal/strconv.uint64pow10" .u64 Lib.pow10Tab) :
 Calls prog 92 #[.int .i64 n] w fun e w' =>e=.returned (.string ⟨(Lib.itoa n).toArray⟩)/\∃k os,w' =grow (w.drewN k) os:=Any.strconv_Itoa Tryz.laysM171 n h0 h1 w htab
def Tryz.laysC172_ren:Go.Shelf.Ren:=⟨fun | 172=>186 | 244=>204 | 245=>205 | 247=>222 | 279=>223 | 280=>224 | 281=>225 | 282=>226 | 287=>236 | 316=>237 | 171=>92 | 205=>238 | 321=>250 | 322=>251 | 243=>124 | 246=>155 | 283=>180 | 284=>181 | 285=>182 | 286=>183 | 129=>200 | 317=>199 | 318=>201 | 319=>202 | 320=>203 | 337=>220 | 338=>221 | n=>n,fun | 9=>9 | 3=>3 | 75=>206 | 76=>207 | 4=>4 | 5=>5 | 167=>247 | 37=>23 | 0=>0 | 85=>248 | 2=>2 | 168=>250 | 53=>200 | 175=>273 | 46=>162 | 210=>276 | 127=>253 | 145=>293 | 143=>291 | 21=>21 | 171=>199 | 173=>203 | 212=>220 | 51=>172 | 20=>20 | 213=>221 | 232=>271 | 233=>272 | 80=>228 | n=>n,fun | 15=>6 | 16=>7 | 17=>1 | 18=>4 | 19=>5 | n=>n⟩
theorem Tryz.laysC172:Go.Proofs.LaysC.n172 prog Tryz.laysC172_ren:={mixed:=by kernel_rfl,f129:=cqz func200 (by kernel_rfl),f171:=cqz func92 (by kernel_rfl),f172:=cqz func186 (by kernel_rfl),f205:=cqz func238 (by kernel_rfl),f243:=cqz func124 (by kernel_rfl),f244:=cqz func204 (by kernel_rfl),f245:=cqz func205 (by kernel_rfl),f246:=cqz func155 (by kernel_rfl),f247:=cqz func222 (by kernel_rfl),f279:=cqz func223 (by kernel_rfl),f280:=cqz func224 (by kernel_rfl),f281:=cqz func225 (by kernel_rfl),f282:=cqz func226 (by kernel_rfl),f283:=cqz func180 (by kernel_rfl),f284:=cqz func181 (by kernel_rfl),f285:=cqz func182 (by kernel_rfl),f286:=cqz func183 (by kernel_rfl),f287:=cqz func236 (by kernel_rfl),f316:=cqz func237 (by kernel_rfl),f317:=cqz func199 (by kernel_rfl),f318:=cqz func201 (by kernel_rfl),f319:=cqz func202 (by kernel_rfl),f320:=cqz func203 (by kernel_rfl),f321:=cqz func250 (by kernel_rfl),f322:=cqz func251 (by kernel_rfl),f337:=cqz func220 (by kernel_rfl),f338:=cqz func221 (by kernel_rfl),t0:=underlying0,a0:=isAgg0,z0:=sizeOf0,v0:=zeroValue0,t2:=underlying2,a2:=isAgg2,z2:=sizeOf2,v2:=zeroValue2,t3:=underlying3,a3:=isAgg3,z3:=sizeOf3,v3:=zeroValue3,t4:=underlying4,a4:=isAgg4,z4:=sizeOf4,v4:=zeroValue4,t5:=underlying5,a5:=isAgg5,z5:=sizeOf5,v5:=zeroValue5,t9:=underlying9,a9:=isAgg9,z9:=sizeOf9,v9:=zeroValue9,t20:=underlying20,a20:=isAgg20,z20:=sizeOf20,v20:=zeroValue20,t21:=underlying21,a21:=isAgg21,z21:=sizeOf21,v21:=zeroValue21,t37:=underlying23,a37:=isAgg23,z37:=sizeOf23,v37:=zeroValue23,t46:=underlying162,a46:=isAgg162,z46:=sizeOf162,v46:=zeroValue162,t51:=underlying172,a51:=isAgg172,z51:=sizeOf172,v51:=zeroValue172,t53:=underlying200,a53:=isAgg200,z53:=sizeOf200,v53:=zeroValue200,t75:=underlying206,a75:=isAgg206,z75:=sizeOf206,v75:=zeroValue206,t76:=underlying207,a76:=isAgg207,z76:=sizeOf207,v76:=zeroValue207,t85:=underlying248,a85:=isAgg248,z85:=sizeOf248,v85:=zeroValue248,t127:=underlying253,a127:=isAgg253,z127:=sizeOf253,v127:=zeroValue253,t143:=underlying291,a143:=isAgg291,z143:=sizeOf291,v143:=zeroValue291,t145:=underlying293,a145:=isAgg293,z145:=sizeOf293,v145:=zeroValue293,t167:=underlying247,a167:=isAgg247,z167:=sizeOf247,v167:=zeroValue247,t168:=underlying250,a168:=isAgg250,z168:=sizeOf250,v168:=zeroValue250,t171:=underlying199,a171:=isAgg199,z171:=sizeOf199,v171:=zeroValue199,t173:=underlying203,a173:=isAgg203,z173:=sizeOf203,v173:=zeroValue203,t175:=underlying273,a175:=isAgg273,z175:=sizeOf273,v175:=zeroValue273,t210:=underlying276,a210:=isAgg276,z210:=sizeOf276,v210:=zeroValue276,t212:=underlying220,a212:=isAgg220,z212:=sizeOf220,v212:=zeroValue220,t213:=underlying221,a213:=isAgg221,z213:=sizeOf221,t232:=underlying271,a232:=isAgg271,z232:=sizeOf271,v232:=zeroValue271,t233:=underlying272,a233:=isAgg272,z233:=sizeOf272,v233:=zeroValue272,g15:=by kernel_rfl,g16:=by kernel_rfl,g17:=by kernel_rfl,g18:=by kernel_rfl,g19:=by kernel_rfl,t80:=underlying228,a80:=isAgg228,z80:=sizeOf228,v80:=zeroValue228,i0:=by kernel_rfl,i2:=by kernel_rfl,i3:=by kernel_rfl,i4:=by kernel_rfl,i5:=by kernel_rfl,i9:=by kernel_rfl,i20:=by kernel_rfl,i21:=by kernel_rfl,i37:=by kernel_rfl,i46:=by kernel_rfl,i51:=by kernel_rfl,i53:=by kernel_rfl,i75:=by kernel_rfl,i76:=by kernel_rfl,i80:=by kernel_rfl,i85:=by kernel_rfl,i127:=by kernel_rfl,i143:=by kernel_rfl,i145:=by kernel_rfl,i167:=by kernel_rfl,i168:=by kernel_rfl,i171:=by kernel_rfl,i173:=by kernel_rfl,i175:=by kernel_rfl,i210:=by kernel_rfl,i212:=by kernel_rfl,i232:=by kernel_rfl,i233:=by kernel_rfl,m15:=by kernel_rfl,m16:=by kernel_rfl,m17:=by kernel_rfl,m18:=by kernel_rfl,m19:=by kernel_rfl,c0:=by kernel_rfl,c2:=by kernel_rfl,c3:=by kernel_rfl,c4:=by kernel_rfl,c5:=by kernel_rfl,c9:=by kernel_rfl,c20:=by kernel_rfl,c21:=by kernel_rfl,c37:=by kernel_rfl,c46:=by kernel_rfl,c51:=by kernel_rfl,c53:=by kernel_rfl,c75:=by kernel_rfl,c76:=by kernel_rfl,c80:=by kernel_rfl,c85:=by kernel_rfl,c127:=by kernel_rfl,c143:=by kernel_rfl,c145:=by kernel_rfl,c167:=by kernel_rfl,c168:=by kernel_rfl,c171:=by kernel_rfl,c173:=by kernel_rfl,c175:=by kernel_rfl,c210:=by kernel_rfl,c212:=by kernel_rfl,c213:=by kernel_rfl,c232:=by kernel_rfl,c233:=by kernel_rfl}
open Go.RowKit in
theorem Tryz.strconv_Atoi_err_var (s : ByteArray) (hl : s.size <= 18) (h : Lib.atoi s.data.toList = none) (tp : TypeId) (p : Value) (w : World) (hvar : w.var? prog "strconv.ErrSyntax" = some #[.iface tp p]) :
 Calls prog 186 #[.string s] w fun e w' =>∃N,e=.returned (.tuple #[.int .i64 0,.iface 250 (.pointer (some ⟨N,0,none⟩))])/\w.heap.size<=N/\w'.heap[N]? =some (.cells #[.string ⟨#[65,116,111,105]⟩,.string s,.iface tp p] 276 (0,0))/\Below w.heap.size w w' :=Any.strconv_Atoi_err_var Tryz.laysC172 s hl h tp p w hvar
def Tryz.lays144_ren:Go.Shelf.Ren:=⟨fun | 144=>145 | 143=>165 | 219=>161 | 217=>141 | 225=>190 | 224=>148 | 267=>191 | 266=>162 | 314=>211 | n=>n,fun | 9=>9 | 4=>4 | 3=>3 | 5=>5 | 46=>162 | 146=>173 | 51=>172 | n=>n,fun | 1=>0 | n=>n⟩
theorem Tryz.lays144:Go.Proofs.Lays.n144 prog Tryz.lays144_ren:=⟨by kernel_rfl,cqz func165 (by kernel_rfl),cqz func145 (by kernel_rfl),cqz func141 (by kernel_rfl),cqz func161 (by kernel_rfl),cqz func148 (by kernel_rfl),cqz func190 (by kernel_rfl),cqz func162 (by kernel_rfl),cqz func191 (by kernel_rfl),cqz func211 (by kernel_rfl),underlying3,isAgg3,sizeOf3,zeroValue3,underlying4,isAgg4,sizeOf4,zeroValue4,underlying5,isAgg5,sizeOf5,zeroValue5,underlying9,isAgg9,sizeOf9,zeroValue9,underlying162,isAgg162,sizeOf162,zeroValue162,underlying172,isAgg172,sizeOf172,zeroValue172,underlying173,isAgg173,sizeOf173,zeroValue173,by kernel_rfl⟩
open Go.RowKit Go.Lib in
theorem Tryz.strings_Contains(s sub:ByteArray)(m:Int)(w:World)(hs:s.size < 4294967281)(hm:w.cell? ⟨0,0,none⟩=some (.int .i64 m)):
 Calls prog 145 #[.string s,.string sub] w fun e w' =>e=.returned (.bool (Lib.contains s.data.toList sub.data.toList))/\w' =w:=Any.strings_Contains Tryz.lays144 s sub m w hs hm
def Tryz.lays145_ren:Go.Shelf.Ren:=⟨fun | 145=>116 | 220=>140 | 219=>161 | 217=>141 | 225=>190 | 224=>148 | 267=>191 | 266=>162 | 314=>211 | n=>n,fun | 9=>9 | 4=>4 | 59=>111 | 3=>3 | 5=>5 | 46=>162 | 146=>173 | 51=>172 | n=>n,fun | 1=>0 | n=>n⟩
theorem Tryz.lays145:Go.Proofs.Lays.n145 prog Tryz.lays145_ren:=⟨by kernel_rfl,cqz func116 (by kernel_rfl),cqz func141 (by kernel_rfl),cqz func161 (by kernel_rfl),cqz func140 (by kernel_rfl),cqz func148 (by kernel_rfl),cqz func190 (by kernel_rfl),cqz func162 (by kernel_rfl),cqz func191 (by kernel_rfl),cqz func211 (by kernel_rfl),underlying3,isAgg3,sizeOf3,zeroValue3,underlying4,isAgg4,sizeOf4,zeroValue4,underlying5,isAgg5,sizeOf5,zeroValue5,underlying9,isAgg9,sizeOf9,zeroValue9,underlying162,isAgg162,sizeOf162,zeroValue162,underlying172,isAgg172,sizeOf172,zeroValue172,underlying111,isAgg111,sizeOf111,zeroValue111,underlying173,isAgg173,sizeOf173,zeroValue173,by kernel_rfl⟩
open Go.RowKit Go.Lib in
theorem Tryz.strings_Cut(s sep:ByteArray)(m:Int)(w:World)(hs:s.size < 4294967281)(hm:w.cell? ⟨0,0,none⟩=some (.int .i64 m)):
 Calls prog 116 #[.string s,.string sep] w fun e w' =>e=.returned (.tuple #[.string ⟨(Lib.cut s.data.toList sep.data.toList).1.toArray⟩,.string ⟨(Lib.cut s.data.toList sep.data.toList).2.1.toArray⟩,.bool (Lib.cut s.data.toList sep.data.toList).2.2])/\∃n,w' =w.drewN n:=Any.strings_Cut Tryz.lays145 s sep m w hs hm
def Tryz.lays99_ren:Go.Shelf.Ren:=⟨fun | 99=>143 | 206=>163 | n=>n,fun | 9=>9 | 4=>4 | 3=>3 | n=>n,fun | n=>n⟩
theorem Tryz.lays99:Go.Proofs.Lays.n99 prog Tryz.lays99_ren:=⟨by kernel_rfl,cqz func143 (by kernel_rfl),cqz func163 (by kernel_rfl),underlying3,isAgg3,sizeOf3,zeroValue3,underlying4,isAgg4,sizeOf4,zeroValue4,underlying9,isAgg9,sizeOf9,zeroValue9⟩
open Go.RowKit Go.Lib in
theorem Tryz.strings_HasPrefix(s p:ByteArray)(w:World):
 Calls prog 143 #[.string s,.string p] w fun e w' =>e=.returned (.bool (Lib.hasPrefix s.data.toList p.data.toList))/\w' =w:=Any.strings_HasPrefix Tryz.lays99 s p w
def Tryz.lays100_ren:Go.Shelf.Ren:=⟨fun | 100=>144 | 207=>164 | n=>n,fun | 9=>9 | 4=>4 | 3=>3 | n=>n,fun | n=>n⟩
theorem Tryz.lays100:Go.Proofs.Lays.n100 prog Tryz.lays100_ren:=⟨by kernel_rfl,cqz func144 (by kernel_rfl),cqz func164 (by kernel_rfl),underlying3,isAgg3,sizeOf3,zeroValue3,underlying4,isAgg4,sizeOf4,zeroValue4,underlying9,isAgg9,sizeOf9,zeroValue9⟩
open Go.RowKit Go.Lib in
theorem Tryz.strings_HasSuffix(s p:ByteArray)(w:World)(hs:s.size<=9223372036854775807):
 Calls prog 144 #[.string s,.string p] w fun e w' =>e=.returned (.bool (Lib.hasSuffix s.data.toList p.data.toList))/\w' =w:=Any.strings_HasSuffix Tryz.lays100 s p w hs
def Tryz.lays226_ren:Go.Shelf.Ren:=⟨fun | 226=>210 | n=>n,fun | 3=>3 | 4=>4 | n=>n,fun | n=>n⟩
theorem Tryz.lays226:Go.Proofs.Lays.n226 prog Tryz.lays226_ren:=⟨by kernel_rfl,cqz func210 (by kernel_rfl),underlying3,isAgg3,sizeOf3,zeroValue3,underlying4,isAgg4,sizeOf4,zeroValue4⟩
open Go.RowKit Go.Lib in
theorem Tryz.strings_shouldUseASCIISet(n:Int)(w:World):
 Calls prog 210 #[.int .i64 n] w fun e w' =>e=.returned (.bool (decide (8 < n)))/\w' =w:=Any.strings_shouldUseASCIISet Tryz.lays226 n w
def Tryz.lays153_ren:Go.Shelf.Ren:=⟨fun | 153=>189 | 152=>209 | 226=>210 | 227=>173 | 228=>192 | 137=>118 | 119=>229 | 224=>148 | 225=>190 | 217=>141 | 266=>162 | n=>n,fun | 9=>9 | 3=>3 | 4=>4 | 5=>5 | 21=>21 | 117=>194 | 116=>193 | 0=>0 | 46=>162 | 124=>197 | n=>n,fun | n=>n⟩
theorem Tryz.lays153:Go.Proofs.Lays.n153 prog Tryz.lays153_ren:=⟨by kernel_rfl,cqz func229 (by kernel_rfl),cqz func118 (by kernel_rfl),cqz func209 (by kernel_rfl),cqz func189 (by kernel_rfl),cqz func141 (by kernel_rfl),cqz func148 (by kernel_rfl),cqz func190 (by kernel_rfl),cqz func210 (by kernel_rfl),cqz func173 (by kernel_rfl),cqz func192 (by kernel_rfl),cqz func162 (by kernel_rfl),underlying0,isAgg0,sizeOf0,zeroValue0,underlying3,isAgg3,sizeOf3,zeroValue3,underlying4,isAgg4,sizeOf4,zeroValue4,underlying5,isAgg5,sizeOf5,zeroValue5,underlying9,isAgg9,sizeOf9,zeroValue9,underlying21,isAgg21,sizeOf21,zeroValue21,underlying162,isAgg162,sizeOf162,zeroValue162,underlying193,isAgg193,sizeOf193,underlying194,isAgg194,sizeOf194,zeroValue194,underlying197,isAgg197,sizeOf197,zeroValue197⟩
open Go.RowKit Go.Lib in
theorem Tryz.strings_IndexAny_long(hv116:∀w,(zeroValue 193).run prog w=.ok (.agg (Array.replicate 256 (.bool false))) w)(s chars:ByteArray)(w:World)(h2:2<=chars.size)(h8:8 < s.size)(hs:s.size < 4294967281)(hcs:chars.size < 4294967281)(hascii:∀(j:Nat) b,chars.data.toList[j]? =some b->b.toNat < 128):
 Calls prog 189 #[.string s,.string chars] w fun e w' =>e=.returned (.int .i64 (Lib.indexAny s.data.toList chars.data.toList))/\w' =((w.alloc (.cells (Lib.setCells chars.data.toList) 193)).alloc (.cells (Lib.setCells chars.data.toList) 193)):=Any.strings_IndexAny_long Tryz.lays153 hv116 (by kernel_rfl) s chars w h2 h8 hs hcs hascii
open Go.RowKit Go.Lib in
theorem Tryz.strings_IndexAny(hv116:∀w,(zeroValue 193).run prog w=.ok (.agg (Array.replicate 256 (.bool false))) w)(s chars:ByteArray)(w:World)(hs:s.size < 4294967281)(hcs:chars.size < 4294967281)(has:∀(j:Nat) b,s.data.toList[j]? =some b->b.toNat < 128)(hac:∀(j:Nat) b,chars.data.toList[j]? =some b->b.toNat < 128):
 Calls prog 189 #[.string s,.string chars] w fun e w' =>e=.returned (.int .i64 (Lib.indexAny s.data.toList chars.data.toList))/\Below w.heap.size w w' :=Any.strings_IndexAny Tryz.lays153 hv116 (by kernel_rfl) s chars w hs hcs has hac
def Tryz.lays150_ren:Go.Shelf.Ren:=⟨fun | 150=>160 | 153=>189 | 152=>209 | 226=>210 | 227=>173 | 228=>192 | 137=>118 | 119=>229 | 224=>148 | 225=>190 | 217=>141 | 266=>162 | n=>n,fun | 9=>9 | 4=>4 | 3=>3 | 5=>5 | 21=>21 | 117=>194 | 116=>193 | 0=>0 | 46=>162 | 124=>197 | n=>n,fun | n=>n⟩
theorem Tryz.lays150:Go.Proofs.Lays.n150 prog Tryz.lays150_ren:=⟨by kernel_rfl,cqz func229 (by kernel_rfl),cqz func118 (by kernel_rfl),cqz func160 (by kernel_rfl),cqz func209 (by kernel_rfl),cqz func189 (by kernel_rfl),cqz func141 (by kernel_rfl),cqz func148 (by kernel_rfl),cqz func190 (by kernel_rfl),cqz func210 (by kernel_rfl),cqz func173 (by kernel_rfl),cqz func192 (by kernel_rfl),cqz func162 (by kernel_rfl),underlying0,isAgg0,sizeOf0,zeroValue0,underlying3,isAgg3,sizeOf3,zeroValue3,underlying4,isAgg4,sizeOf4,zeroValue4,underlying5,isAgg5,sizeOf5,zeroValue5,underlying9,isAgg9,sizeOf9,zeroValue9,underlying21,isAgg21,sizeOf21,zeroValue21,underlying162,isAgg162,sizeOf162,zeroValue162,underlying193,isAgg193,sizeOf193,underlying194,isAgg194,sizeOf194,zeroValue194,underlying197,isAgg197,sizeOf197,zeroValue197⟩
open Go.RowKit Go.Lib in
theorem Tryz.strings_ContainsAny(hv116:∀w,(zeroValue 193).run prog w=.ok (.agg (Array.replicate 256 (.bool false))) w)(s chars:ByteArray)(w:World)(hs:s.size < 4294967281)(hcs:chars.size < 4294967281)(has:∀(j:Nat) b,s.data.toList[j]? =some b->b.toNat < 128)(hac:∀(j:Nat) b,chars.data.toList[j]? =some b->b.toNat < 128):
 Calls prog 160 #[.string s,.string chars] w fun e w' =>e=.returned (.bool (Lib.containsAny s.data.toList chars.data.toList))/\Below w.heap.size w w' :=Any.strings_ContainsAny Tryz.lays150 hv116 (by kernel_rfl) s chars w hs hcs has hac
def Tryz.lays229_ren:Go.Shelf.Ren:=⟨fun | 229=>95 | n=>n,fun | 9=>9 | 40=>120 | 31=>26 | 152=>142 | 3=>3 | 0=>0 | 4=>4 | 21=>21 | 154=>144 | n=>n,fun | n=>n⟩
theorem Tryz.lays229:Go.Proofs.Lays.n229 prog Tryz.lays229_ren:=⟨by kernel_rfl,cqz func95 (by kernel_rfl),underlying0,isAgg0,sizeOf0,zeroValue0,underlying3,isAgg3,sizeOf3,zeroValue3,underlying4,isAgg4,sizeOf4,zeroValue4,underlying9,isAgg9,sizeOf9,zeroValue9,underlying21,isAgg21,sizeOf21,zeroValue21,underlying26,isAgg26,sizeOf26,zeroValue26,underlying120,isAgg120,sizeOf120,zeroValue120,underlying142,isAgg142,sizeOf142,zeroValue142,underlying144,isAgg144,sizeOf144,zeroValue144⟩
open Go.RowKit Go.Lib in
theorem Tryz.strings_FieldsFunc(g:Nat)(lb:Array Value)(eg:∀args w,(callFunc g args).run prog w=.ok (.enter g args) w)(p:Nat->Bool)(s:ByteArray)(w:World)(hs:s.size<=4294967296)(hp:PredAt prog g lb encR p w):
 Calls prog 95 #[.string s,.func (.func g) #[] lb] w fun e w' =>∃A,e=.returned (.slice (some ⟨A,0,none⟩) (Lib.goFieldsP p s).length (Lib.goFieldsP p s).length)/\w.heap.size<=A/\
  w'.ownsRow w.heap.size 9 1 (.slice (some ⟨A,0,none⟩) (Lib.goFieldsP p s).length (Lib.goFieldsP p s).length) (Lib.goFieldsP p s).length ((Lib.goFieldsP p s).map Value.string)/\Below w.heap.size w w' :=Any.strings_FieldsFunc Tryz.lays229 g lb eg p s w hs hp (by kernel_rfl) (by kernel_rfl)
def Tryz.lays185_ren:Go.Shelf.Ren:=⟨fun | 185=>121 | 187=>146 | 115=>125 | 253=>147 | 224=>148 | 254=>149 | 255=>166 | 291=>167 | n=>n,fun | 37=>23 | 3=>3 | 4=>4 | 0=>0 | 5=>5 | 46=>162 | 9=>9 | 146=>173 | 51=>172 | n=>n,fun | 1=>0 | n=>n⟩
theorem Tryz.lays185:Go.Proofs.Lays.n185 prog Tryz.lays185_ren:=⟨by kernel_rfl,cqz func125 (by kernel_rfl),cqz func121 (by kernel_rfl),cqz func146 (by kernel_rfl),cqz func148 (by kernel_rfl),cqz func147 (by kernel_rfl),cqz func149 (by kernel_rfl),cqz func166 (by kernel_rfl),cqz func167 (by kernel_rfl),underlying0,isAgg0,sizeOf0,zeroValue0,underlying3,isAgg3,sizeOf3,zeroValue3,underlying4,isAgg4,sizeOf4,zeroValue4,underlying5,isAgg5,sizeOf5,zeroValue5,underlying9,isAgg9,sizeOf9,zeroValue9,underlying23,isAgg23,sizeOf23,zeroValue23,underlying162,isAgg162,sizeOf162,zeroValue162,underlying172,isAgg172,sizeOf172,zeroValue172,underlying173,isAgg173,sizeOf173,zeroValue173,by kernel_rfl⟩
open Go.RowKit Go.Lib in
theorem Tryz.bytes_Index_longer(p q:Option Addr)(n c m d:Nat)(w:World)(h2:2<=m)(hnm:n < m)(hm:m<=9223372036854775807):
 Calls prog 121 #[.slice p n c,.slice q m d] w fun e w' =>e=.returned (.int .i64 (-1))/\w' =w:=Any.bytes_Index_longer Tryz.lays185 p q n c m d w h2 hnm hm
def Tryz.lays187_ren:Go.Shelf.Ren:=⟨fun | 187=>146 | 255=>166 | n=>n,fun | 37=>23 | 5=>5 | 3=>3 | n=>n,fun | n=>n⟩
theorem Tryz.lays187:Go.Proofs.Lays.n187 prog Tryz.lays187_ren:=⟨by kernel_rfl,cqz func146 (by kernel_rfl),cqz func166 (by kernel_rfl),underlying3,isAgg3,sizeOf3,zeroValue3,underlying5,isAgg5,sizeOf5,zeroValue5,underlying23,isAgg23,sizeOf23,zeroValue23⟩
open Go.RowKit Go.Lib in
theorem Tryz.bytes_IndexByte_at(a:Addr)(n c:Nat)(xs:List Int)(cv:Int)(w:World)(hx:xs.length=n)(hc:∀i,i < n->w.cell? (a.add i)=some (.int .u8 (xs.getD i 0))):
 Calls prog 146 #[.slice (some a) n c,.int .u8 cv] w fun e w' =>e=.returned (.int .i64 (Lib.indexByte (Lib.bytesOf xs) cv.toNat.toUInt8))/\w' =w:=Any.bytes_IndexByte_at Tryz.lays187 a n c xs cv w hx hc
def Tryz.lays115_ren:Go.Shelf.Ren:=⟨fun | 115=>125 | n=>n,fun | 37=>23 | 4=>4 | 9=>9 | 5=>5 | n=>n,fun | n=>n⟩
theorem Tryz.lays115:Go.Proofs.Lays.n115 prog Tryz.lays115_ren:=⟨by kernel_rfl,cqz func125 (by kernel_rfl),underlying4,isAgg4,sizeOf4,zeroValue4,underlying9,isAgg9,sizeOf9,zeroValue9,underlying23,isAgg23,sizeOf23,zeroValue23⟩
open Go.Proofs Go.RowKit Go.Lib in
theorem Tryz.bytes_Index_at(a1 a2:Addr)(n c1 k c2:Nat)(xs ys:List Int)(m:Int)(w:World)(hx:xs.length=n)(hy:ys.length=k)(hr1:∀x∈xs,0<=x/\x < 256)(hr2:∀y∈ys,0<=y/\y < 256)(hc1:∀i,i < n->w.cell? (a1.add i)=some (.int .u8 (xs.getD i 0)))(hc2:∀i,i < k->w.cell? (a2.add i)=some (.int .u8 (ys.getD i 0)))(hcap:n<=c1)(hs:n < 4294967281)(hk:k<=9223372036854775807)(hm:w.cell? ⟨0,0,none⟩=some (.int .i64 m)):
 Calls prog 121 #[.slice (some a1) n c1,.slice (some a2) k c2] w fun e w' =>e=.returned (.int .i64 (Lib.index (Lib.bytesOf xs) (Lib.bytesOf ys)))/\∃q,w' =w.drewN q:=Any.bytes_Index_at Tryz.lays185 a1 a2 n c1 k c2 xs ys m w hx hy hr1 hr2 hc1 hc2 hcap hs hk hm
def Tryz.laysnb117_ren:Go.Shelf.Ren:=⟨fun | 117=>94 | 115=>125 | n=>n,fun | 37=>23 | 4=>4 | 3=>3 | 9=>9 | 5=>5 | n=>n,fun | n=>n⟩
theorem Tryz.laysnb117:Go.Proofs.Lays.nb117 prog Tryz.laysnb117_ren:={mixed:=by kernel_rfl,f115:=cqz func125 (by kernel_rfl),f117:=cqz func94 (by kernel_rfl),t3:=underlying3,a3:=isAgg3,z3:=sizeOf3,v3:=zeroValue3,t4:=underlying4,a4:=isAgg4,z4:=sizeOf4,v4:=zeroValue4,t9:=underlying9,a9:=isAgg9,z9:=sizeOf9,v9:=zeroValue9,t37:=underlying23,a37:=isAgg23,z37:=sizeOf23,v37:=zeroValue23,t5:=underlying5,a5:=isAgg5,z5:=sizeOf5,v5:=zeroValue5}
def Tryz.laysnb140_ren:Go.Shelf.Ren:=⟨fun | 140=>168 | 117=>94 | 115=>125 | n=>n,fun | 37=>23 | 4=>4 | 3=>3 | 9=>9 | 5=>5 | n=>n,fun | n=>n⟩
theorem Tryz.laysnb140:Go.Proofs.Lays.nb140 prog Tryz.laysnb140_ren:={mixed:=by kernel_rfl,f115:=cqz func125 (by kernel_rfl),f117:=cqz func94 (by kernel_rfl),f140:=cqz func168 (by kernel_rfl),t3:=underlying3,a3:=isAgg3,z3:=sizeOf3,v3:=zeroValue3,t4:=underlying4,a4:=isAgg4,z4:=sizeOf4,v4:=zeroValue4,t9:=underlying9,a9:=isAgg9,z9:=sizeOf9,v9:=zeroValue9,t37:=underlying23,a37:=isAgg23,z37:=sizeOf23,v37:=zeroValue23,t5:=underlying5,a5:=isAgg5,z5:=sizeOf5,v5:=zeroValue5}
def Tryz.laysnb142_ren:Go.Shelf.Ren:=⟨fun | 142=>65 | 117=>94 | 115=>125 | n=>n,fun | 37=>23 | 4=>4 | 3=>3 | 9=>9 | 5=>5 | n=>n,fun | n=>n⟩
theorem Tryz.laysnb142:Go.Proofs.Lays.nb142 prog Tryz.laysnb142_ren:={mixed:=by kernel_rfl,f115:=cqz func125 (by kernel_rfl),f117:=cqz func94 (by kernel_rfl),f142:=cqz func65 (by kernel_rfl),t3:=underlying3,a3:=isAgg3,z3:=sizeOf3,v3:=zeroValue3,t4:=underlying4,a4:=isAgg4,z4:=sizeOf4,v4:=zeroValue4,t9:=underlying9,a9:=isAgg9,z9:=sizeOf9,v9:=zeroValue9,t37:=underlying23,a37:=isAgg23,z37:=sizeOf23,v37:=zeroValue23,t5:=underlying5,a5:=isAgg5,z5:=sizeOf5,v5:=zeroValue5}
theorem Tryz.bytes_Equal(v1 v2:Value)(xs ys:List Int)(w:World)(h1:(convert 23 9 v1).run prog w=.ok (.string (strOfNums xs)) w)(h2:(convert 23 9 v2).run prog w=.ok (.string (strOfNums ys)) w):
 Calls prog 125 #[v1,v2] w fun e w' =>e=.returned (.bool (Lib.bytesOf xs==Lib.bytesOf ys))/\w' =w:=Any.bytes_Equal Tryz.lays115 v1 v2 xs ys w h1 h2
theorem Tryz.bytes_HasSuffix(b1 o1 n c b2 o2 m d:Nat)(xs ys:List Int)(w:World)(hx:xs.length=n)(hy:ys.length=m)(hnc:n<=c)(hbig:n<=9223372036854775807)(hc1:∀i,i < n->w.cell? ⟨b1,o1+i,none⟩=some (.int .u8 (xs.getD i 0)))(hc2:∀i,i < m->w.cell? ⟨b2,o2+i,none⟩=some (.int .u8 (ys.getD i 0))):
 Calls prog 94 #[.slice (some ⟨b1,o1,none⟩) n c,.slice (some ⟨b2,o2,none⟩) m d] w fun e w' =>e=.returned (.bool (Lib.hasSuffix (Lib.bytesOf xs) (Lib.bytesOf ys)))/\w' =w:=Any.bytes_HasSuffix Tryz.laysnb117 b1 o1 n c b2 o2 m d xs ys w hx hy hnc hbig hc1 hc2
theorem Tryz.bytes_TrimSuffix(b1 o1 n c b2 o2 m d:Nat)(xs ys:List Int)(w:World)(hx:xs.length=n)(hy:ys.length=m)(hnc:n<=c)(hbig:n<=9223372036854775807)(hc1:∀i,i < n->w.cell? ⟨b1,o1+i,none⟩=some (.int .u8 (xs.getD i 0)))(hc2:∀i,i < m->w.cell? ⟨b2,o2+i,none⟩=some (.int .u8 (ys.getD i 0))):
 Calls prog 168 #[.slice (some ⟨b1,o1,none⟩) n c,.slice (some ⟨b2,o2,none⟩) m d] w fun e w' =>e=.returned (Lib.bytesTrimSuffix b1 o1 n c xs ys)/\w' =w:=Any.bytes_TrimSuffix Tryz.laysnb140 b1 o1 n c b2 o2 m d xs ys w hx hy hnc hbig hc1 hc2
theorem Tryz.bytes_CutSuffix(b1 o1 n c b2 o2 m d:Nat)(xs ys:List Int)(w:World)(hx:xs.length=n)(hy:ys.length=m)(hnc:n<=c)(hbig:n<=9223372036854775807)(hc1:∀i,i < n->w.cell? ⟨b1,o1+i,none⟩=some (.int .u8 (xs.getD i 0)))(hc2:∀i,i < m->w.cell? ⟨b2,o2+i,none⟩=some (.int .u8 (ys.getD i 0))):
 Calls prog 65 #[.slice (some ⟨b1,o1,none⟩) n c,.slice (some ⟨b2,o2,none⟩) m d] w fun e w' =>e=.returned (.tuple #[Lib.bytesTrimSuffix b1 o1 n c xs ys,.bool (Lib.hasSuffix (Lib.bytesOf xs) (Lib.bytesOf ys))])/\w' =w:=Any.bytes_CutSuffix Tryz.laysnb142 b1 o1 n c b2 o2 m d xs ys w hx hy hnc hbig hc1 hc2
theorem Tryz.bytes_IndexByte(b o n c:Nat)(xs:List Int)(cv:Int)(w:World)(hx:xs.length=n)(hc:∀i,i < n->w.cell? ⟨b,o+i,none⟩=some (.int .u8 (xs.getD i 0))):
 Calls prog 146 #[.slice (some ⟨b,o,none⟩) n c,.int .u8 cv] w fun e w' =>e=.returned (.int .i64 (Lib.indexByte (Lib.bytesOf xs) cv.toNat.toUInt8))/\w' =w:=Any.bytes_IndexByte Tryz.lays187 b o n c xs cv w hx hc
theorem Tryz.bytes_IndexByte_nil(cv:Int)(w:World):
 Calls prog 146 #[.slice none 0 0,.int .u8 cv] w fun e w' =>e=.returned (.int .i64 (-1))/\w' =w:=Any.bytes_IndexByte_nil Tryz.lays187 cv w
end Go.Proofs
namespace Go.Proofs.YtmmjihadplknjaaGreatDoor
open Go.RowKit Go.Proofs.Tryz
theorem qhb(g:G)(q:Nat):Old (fun _=>False) g ⟨g.w.drewN q,g.u,g.loc⟩:=
 ⟨rfl,rfl,rfl,⟨Nat.le_refl _,fun _ _=>Nat.le_refl _,fun _ _ _ _=>rfl,fun _ h=>h⟩,fun _ _ _=>⟨rfl,rfl⟩⟩
theorem QCa{g:G}{s:Str}{v:Value}(h:Rel g (.s s) v):v=.string (strB s):=kda h
theorem voa(s:Str)(c:UInt8)(r:Int)(hr:zXa s c=some r):Run prog 118 [.s s,.u8 c] (.i r):=by
 unfold zXa at hr;cases hr;refine ⟨⟨_,_,⟨func118,rfl,by kernel_rfl⟩⟩,fun g vs hw hg ha=>?_⟩;obtain ⟨hsz,hrel⟩:=ha;obtain ⟨l⟩:=vs
 match l,hsz with
 | [x,y],_=>
  obtain rfl:=QCa (hrel 0 _ rfl);have e2:y=.int .u8 (c.toNat:Int):=kda (hrel 1 _ rfl);subst e2;refine callsIn_wide.2 ((Tryz.strings_IndexByte (strB s) (c.toNat:Int) g.w).mono ?_);rintro e w' ⟨rfl,rfl⟩;refine ⟨g,_,rfl,rfl,Old.refl _ g,hw,rfl,?_⟩;simp[strB];exact .pv (.b rfl)
theorem KLa(s t:Str)(r:Bool)(hr:kPa s t=some r):Run prog 145 [.s s,.s t] (.bo r):=by
 unfold kPa at hr;split at hr
 case isFalse=>cases hr
 rename_i hlen;cases hr;refine ⟨⟨_,_,⟨func145,rfl,by kernel_rfl⟩⟩,fun g vs hw hg ha=>?_⟩;obtain ⟨hsz,hrel⟩:=ha;obtain ⟨l⟩:=vs
 match l,hsz with
 | [x,y],_=>
  obtain rfl:=QCa (hrel 0 _ rfl);obtain rfl:=QCa (hrel 1 _ rfl);obtain ⟨_,_,m,hm⟩:=hg.1 (0,0) (by simp[yCb]);refine callsIn_wide.2 ((Tryz.strings_Contains (strB s) (strB t) m g.w (by rw[zKa];exact hlen) hm).mono ?_);rintro e w' ⟨rfl,rfl⟩;exact ⟨g,_,rfl,rfl,Old.refl _ g,hw,rfl,.pv (.b rfl)⟩
theorem Kja(s t:Str)(r:Str × Str × Bool)(hr:qKa s t=some r):Run prog 116 [.s s,.s t] (.tup [.s r.1,.s r.2.1,.bo r.2.2]):=by
 unfold qKa at hr;split at hr
 case isFalse=>cases hr
 rename_i hlen;cases hr;refine ⟨⟨_,_,⟨func116,rfl,by kernel_rfl⟩⟩,fun g vs hw hg ha=>?_⟩;obtain ⟨hsz,hrel⟩:=ha;obtain ⟨l⟩:=vs
 match l,hsz with
 | [x,y],_=>
  obtain rfl:=QCa (hrel 0 _ rfl);obtain rfl:=QCa (hrel 1 _ rfl);obtain ⟨_,_,m,hm⟩:=hg.1 (0,0) (by simp[yCb]);refine callsIn_wide.2 ((Tryz.strings_Cut (strB s) (strB t) m g.w (by rw[zKa];exact hlen) hm).mono ?_);rintro e w' ⟨rfl,q,rfl⟩;refine ⟨⟨g.w.drewN q,g.u,g.loc⟩,_,rfl,rfl,qhb g q,hw,rfl,.tup rfl fun i c hi=>?_⟩
  match i,hi with
  | 0,rfl=>exact .pv (.b rfl)
  | 1,rfl=>exact .pv (.b rfl)
  | 2,rfl=>exact .pv (.b rfl)
theorem wia(a0:Str)(a1:Str)(r:Bool)(hr:z9a a0 a1=some r):Run prog 163 [.s a0,.s a1] (.bo r):=by
 unfold z9a at hr;refine rf (fn:=f163) ⟨func163,rfl,by kernel_rfl⟩ rfl (fun _=>rfl) fun g0 hg=>?_
 refine rn tk 5 rfl<|jb hr (fun j1=>[(4,.bo j1)]) (fun j1=>[]) (fun j1 hr=>?_) (fun j1 hr=>?_)
 .refine rn tk 7 rfl<|bs 10 hr rfl (fun c2 hr=>?_) (fun c2 hr=>?_)
  .refine rn tk 3 rfl ?_;obtain ⟨v3,h4,hr⟩:=zaa hr;refine ug rfl rfl rfl<|wscH tk h4 rfl rfl rfl rfl<|rn tk 5 rfl ?_;cases hr;exact jn _ rfl rfl rfl
  refine rn tk 9 rfl ?_;cases hr;exact jn _ rfl rfl rfl
 refine rn tk 1 rfl ?_;cases hr;exact kr tk (.inr rfl) rfl rfl
theorem Kka(a0:Str)(a1:Str)(r:Bool)(hr:kDa a0 a1=some r):Run prog 143 [.s a0,.s a1] (.bo r):=by
 unfold kDa at hr;refine rf (fn:=Tryz.f143) ⟨func143,rfl,by kernel_rfl⟩ rfl (fun _=>rfl) fun g0 hg=>?_
 refine rn tk 9 rfl ?_;obtain ⟨v1,h2,hr⟩:=zaa hr;refine cl (wia _ _ _ h2) rfl rfl<|rn tk 4 rfl ?_;cases hr;exact kr tk (.inr rfl) rfl rfl
theorem wja(a0:Str)(a1:Str)(r:Bool)(hr:kaa a0 a1=some r):Run prog 164 [.s a0,.s a1] (.bo r):=by
 unfold kaa at hr;refine rf (fn:=f164) ⟨func164,rfl,by kernel_rfl⟩ rfl (fun _=>rfl) fun g0 hg=>?_
 refine rn tk 5 rfl<|jb hr (fun j1=>[(4,.bo j1)]) (fun j1=>[]) (fun j1 hr=>?_) (fun j1 hr=>?_)
 .refine rn tk 7 rfl<|bs 10 hr rfl (fun c2 hr=>?_) (fun c2 hr=>?_)
  .refine rn tk 6 rfl ?_;obtain ⟨v3,h4,hr⟩:=zaa hr;refine ug rfl rfl rfl<|wscL tk h4 rfl rfl rfl rfl<|rn tk 5 rfl ?_;cases hr;exact jn _ rfl rfl rfl
  refine rn tk 12 rfl ?_;cases hr;exact jn _ rfl rfl rfl
 refine rn tk 1 rfl ?_;cases hr;exact kr tk (.inr rfl) rfl rfl
theorem Kla(a0:Str)(a1:Str)(r:Bool)(hr:kEa a0 a1=some r):Run prog 144 [.s a0,.s a1] (.bo r):=by
 unfold kEa at hr;refine rf (fn:=Tryz.f144) ⟨func144,rfl,by kernel_rfl⟩ rfl (fun _=>rfl) fun g0 hg=>?_
 refine rn tk 9 rfl ?_;obtain ⟨v1,h2,hr⟩:=zaa hr;refine cl (wja _ _ _ h2) rfl rfl<|rn tk 4 rfl ?_;cases hr;exact kr tk (.inr rfl) rfl rfl
end Go.Proofs.YtmmjihadplknjaaGreatDoor
