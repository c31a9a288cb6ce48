/- Part 4 of the proof of the law ServerMatchesSpec: what it needs. -/
import Derived.Test.YtmmjihadplknjaaGreatDoorKServerMatchesSpec3
import Derived.Lib.Atoi
import Derived.Lib.SplitLaws
import Derived.Shelf.Strings.Builder1
import Derived.Shelf.Strings.Builder2
import Derived.Shelf.Strings.OnBuilder
import Derived.Shelf.Strings.Trim
import Derived.Shelf.Small.Utf8
import Derived.Shelf.Small.Strs
import Derived.Shelf.Small.Wraps
import Derived.Shelf.Strings.BuilderF
import Derived.Shelf.Strconv.Atoi
import Derived.Shelf.Strconv.Itoa0
import Derived.Shelf.Strconv.Itoa1
import Derived.Shelf.LaysM
import Derived.Shelf.Strconv.Itoa2
import Derived.Shelf.Strconv.Itoa3
import Derived.Shelf.Strconv.AtoiErrFast
import Derived.Shelf.Strconv.ParseIntEmpty
import Derived.Shelf.Strconv.AtoiFail
import Derived.Shelf.Strconv.Clone
import Derived.Shelf.Strconv.SyntaxError
import Derived.Shelf.LaysC
import Derived.Shelf.Strconv.ToError
import Derived.Shelf.Strconv.AtoiErr
import Derived.Shelf.Strconv.ErrVar
import Derived.Shelf.Strings.Search1
import Derived.Shelf.Strings.Search2
import Derived.Shelf.Strings.Search3
import Derived.Shelf.Strings.Cut
import Derived.Shelf.Strings.Count
import Derived.Shelf.Strings.Shaped
import Derived.Shelf.Strings.Prefix
import Derived.Shelf.Strings.Split
import Derived.Shelf.Strings.Runes
import Derived.Shelf.Strings.IndexAny
import Derived.Shelf.Strings.AsciiSet
import Derived.Shelf.Strings.IndexAnyAll
import Derived.Shelf.Unicode.DecodeSlow
import Derived.Shelf.Strings.FieldsFuncAny
import Derived.Shelf.Bytes.SlIndexSmall
import Derived.Shelf.Bytes.SlIndexAt
import Derived.Shelf.Bytes.SlSearch0
import Derived.Shelf.Bytes.SlSearch1
import Derived.Shelf.Bytes.SlSearch2
import Derived.Shelf.Bytes.SlIndexWhole
import Derived.Shelf.Bytes.SlSmallAll
import Derived.Shelf.Bytes.SlEqualAll
import Derived.Shelf.Bytes.Small
import Derived.Shelf.Bytes.IndexByte
import Derived.Test.YtmmjihadplknjaaGreatDoorProg
set_option linter.unusedVariables false
set_option linter.unusedSimpArgs false
set_option maxRecDepth 100000
set_option maxHeartbeats 40000000
namespace Go.Proofs.YtmmjihadplknjaaGreatDoor
open Go.RowKit Go.Proofs.Tryz
theorem Koa(b:UInt8):∀(l:Str) (acc:Nat),Lib.decFrom acc (l++ [b])=(Lib.decFrom acc l).bind fun n=>(Lib.digitVal b).map fun d=>n * 10+d
 | [],acc=>by
  simp only[List.nil_append,Lib.decFrom,Option.bind_some];cases Lib.digitVal b <;> rfl
 | x::l,acc=>by
  rw[List.cons_append,Lib.decFrom,Lib.decFrom];cases Lib.digitVal x with
  | none=>rfl
  | some d=>exact Koa b l _
theorem jSa{d:Nat}(h:d < 10):Lib.digitVal (UInt8.ofNat (48+d))=some d:=by
 have e:(UInt8.ofNat (48+d)).toNat=48+d:=by rw[UInt8.toNat_ofNat'];omega
 unfold Lib.digitVal;rw[e,if_pos (by omega)]
 congr 1;omega
theorem YRa:∀(k u:Nat),u < 10 ^ (k+1)->Lib.decFrom 0 (Lib.decDigits u)=some u
 | 0,u,h=>by
  rw[kDa (by simpa using h),Lib.decFrom,jSa (show u < 10 by simpa using h)];simp[Lib.decFrom]
 | k+1,u,h=>by
  by_cases h10:u < 10
  .rw[kDa h10,Lib.decFrom,jSa h10];simp[Lib.decFrom]
  rw[KZa h10,kDa (show u % 10 < 10 by omega),Koa,YRa k (u / 10) (by rw[Nat.pow_succ]at h;omega),jSa (by omega)];simp;omega
theorem YSa(u:Nat):Lib.decFrom 0 (Lib.decDigits u)=some u:=by
 refine YRa u u<|Nat.lt_of_lt_of_le (Nat.lt_pow_self (by omega)) (Nat.pow_le_pow_right (by omega) (by omega))
theorem decD_ne(u:Nat):Lib.decDigits u≠ []:=by
 intro h;have:=wtb u;rw[h]at this;simp at this
theorem zeb(u:Nat):Lib.decNat (Lib.decDigits u)=some u:=by
 unfold Lib.decNat;have:(Lib.decDigits u).isEmpty=false:=by
  cases h:Lib.decDigits u with
  | nil=>exact absurd h (decD_ne u)
  | cons x l=>rfl
 rw[this];exact YSa u
theorem YTa(u:Nat):∃(d:Nat) (r:Str),d < 10/\Lib.decDigits u=UInt8.ofNat (48+d)::r/\(10<=u->1<=d)/\(u < 10->r=[]):=by
 induction u using Nat.strongRecOn with
 | _ u ih=>
  by_cases h10:u < 10
  .exact ⟨u,[],h10,kDa h10,by omega,fun _=>rfl⟩
  obtain ⟨d,r,h1,h2,h3,h4⟩:=ih (u / 10) (by omega);refine ⟨d,r++Lib.decDigits (u % 10),h1,by rw[KZa h10,h2];rfl,fun _=>?_,by omega⟩;by_cases h5:10<=u / 10
  .exact h3 h5
  have h6:=kDa (show u / 10 < 10 by omega);rw[h2]at h6;injection h6 with h7 _
  have h8:=congrArg UInt8.toNat h7;rw[UInt8.toNat_ofNat',UInt8.toNat_ofNat']at h8;omega
theorem zfb:∀(l:Str) (acc n:Nat),Lib.decFrom acc l=some n->acc<=n
 | [],acc,n,h=>by simp[Lib.decFrom]at h;omega
 | x::l,acc,n,h=>by
  rw[Lib.decFrom]at h;cases hd:Lib.digitVal x with
  | none=>rw[hd]at h;cases h
  | some d=>
   rw[hd]at h;have:=zfb l _ n h;omega
theorem qdb:∀(k:Nat) (s:Str) (m:Nat),s.length=k->Lib.decFrom 0 s=some m->s≠ []->(s.length=1∨s.head? ≠some 48)->Lib.decDigits m=s
 | 0,s,m,hk,h,hne,_=>absurd (List.length_eq_zero_iff.1 hk) hne
 | k+1,s,m,hk,h,hne,hz=>by
  obtain ⟨t,b,rfl⟩:∃t b,s=t++ [b]:=⟨s.dropLast,s.getLast hne,(List.dropLast_concat_getLast hne).symm⟩;rw[Koa]at h;cases ht:Lib.decFrom 0 t with
  | none=>rw[ht]at h;cases h
  | some n=>
   rw[ht]at h;cases hb:Lib.digitVal b with
   | none=>rw[hb]at h;cases h
   | some d=>
    rw[hb]at h;simp only[Option.bind_some,Option.map_some,Option.some.injEq]at h;subst h;obtain ⟨h1,h2,h3⟩:=Lib.digitVal_eq hb;have hbe:UInt8.ofNat (48+d)=b:=by
     rw[<-UInt8.toNat_inj,UInt8.toNat_ofNat'];omega
    cases t with
    | nil=>
     simp[Lib.decFrom]at ht;subst ht;rw[Nat.zero_mul,Nat.zero_add,kDa (by omega),hbe];rfl
    | cons x t=>
     have hx:x≠48:=by
      rcases hz with hz | hz
      .simp at hz
      intro e;subst e;simp at hz
     have hn1:1<=n:=by
      rw[Lib.decFrom]at ht;cases hx2:Lib.digitVal x with
      | none=>rw[hx2]at ht;cases ht
      | some e=>
       rw[hx2]at ht;have h4:=zfb t _ n ht;obtain ⟨h5,h6,h7⟩:=Lib.digitVal_eq hx2;have:x.toNat≠48:=fun e2=>hx (UInt8.toNat_inj.1 e2)
       omega
     have ih:=qdb k (x::t) n (by simp at hk ⊢;omega) ht (by simp) (.inr (by simpa using hx));rw[KZa (by omega),show (n * 10+d) / 10=n by omega,show (n * 10+d) % 10=d by omega,ih,kDa (by omega),hbe]
theorem wub(m:Nat):Lib.atoi (Lib.decDigits m)=some (m:Int):=by
 obtain ⟨d,r,h1,h2,_⟩:=YTa m;have e45:(UInt8.ofNat (48+d)==45)=false:=by
  rw[beq_eq_false_iff_ne];intro e;have:=congrArg UInt8.toNat e;rw[UInt8.toNat_ofNat']at this;have h45:(45:UInt8).toNat=45:=rfl;omega
 have e43:(UInt8.ofNat (48+d)==43)=false:=by
  rw[beq_eq_false_iff_ne];intro e;have:=congrArg UInt8.toNat e;rw[UInt8.toNat_ofNat']at this;have h43:(43:UInt8).toNat=43:=rfl;omega
 have hd:=zeb m;rw[h2]at hd ⊢;unfold Lib.atoi;dsimp only;rw[e45,e43,hd];rfl
def numP(s:Str):Option Nat:=if s.length<=9 then (match Lib.decNat s with | some m=>if Lib.decDigits m=s then some m else none | none=>none) else none
theorem YUa{s:Str}{m:Nat}(h:numP s=some m):s.length<=9/\Lib.decDigits m=s/\m < 1000000000:=by
 unfold numP at h;split at h
 .rename_i h9;split at h
  .rename_i n hn;split at h
   .rename_i he;cases h;have h1:=Lib.decFrom_lt _ _ _ (Lib.decNat_some hn).2;have h2:10 ^ s.length<=10 ^ 9:=Nat.pow_le_pow_right (by omega) h9;exact ⟨h9,he,by omega⟩
   cases h
  cases h
 cases h
theorem numP_dec{m:Nat}(h:m < 1000000000):numP (Lib.decDigits m)=some m:=by
 unfold numP;rw[if_pos (Vma 8 m (by omega)),zeb];simp
theorem YVa(s:Str)(h9:s.length<=9):yla s 999999999=some (match numP s with | some m=>((m:Int),true) | none=>(0,false)):=by
 have hlen:s.length<=18:=by omega
 unfold yla vxa;rw[if_pos hlen];have noneCase:(∀m,s≠Lib.decDigits m)->numP s=none:=by
  intro hno;cases hm:numP s with
  | none=>rfl
  | some m=>exact absurd (YUa hm).2.1.symm (hno m)
 cases ha:Lib.atoi s with
 | none=>
  have:numP s=none:=by
   refine noneCase fun m hm=>?_
   have h3:Lib.atoi s=some (m:Int):=by rw[hm];exact wub m
   rw[h3]at ha;cases ha
  rw[this];rfl
 | some n=>
  obtain ⟨b0,r,hs,hc⟩:=Lib.atoi_cases ha;have hbig: -1000000000000000000 < n/\n < 1000000000000000000:=by
   rcases hc with ⟨_,m,_,hm,rfl⟩ | ⟨_,m,_,hm,rfl⟩ | ⟨_,_,m,hm,rfl⟩
   .have:=Lib.decFrom_lt18 hm (by rw[hs]at hlen;simp at hlen;omega);omega
   .have:=Lib.decFrom_lt18 hm (by rw[hs]at hlen;simp at hlen;omega);omega
   have:=Lib.decFrom_lt18 hm (by rw[<-hs];exact hlen);omega
  simp only[Option.bind_some,cond_false];unfold z5a;rw[if_pos (by omega)];simp only[Option.bind_some];by_cases hi:Lib.itoa n=s
  .have:(Lib.itoa n !=s)=false:=by simp[hi]
   rw[this];simp only[cond_false];by_cases hn:n < 0
   .rw[decide_eq_true hn];have:numP s=none:=by
     refine noneCase fun m hm=>?_
     unfold Lib.itoa at hi;rw[if_pos hn]at hi;obtain ⟨d,r',h1,h2,_⟩:=YTa m;rw[hm,h2]at hi;injection hi with h3 _
     have:=congrArg UInt8.toNat h3;rw[UInt8.toNat_ofNat']at this;simp at this;omega
    rw[this];rfl
   rw[decide_eq_false hn];unfold Lib.itoa at hi;rw[if_neg hn]at hi;have hlt:n.toNat < 1000000000:=by
    have h1:=Lib.decFrom_lt _ _ _ (YSa n.toNat);rw[hi]at h1;have h2:10 ^ s.length<=10 ^ 9:=Nat.pow_le_pow_right (by omega) h9;omega
   have hP:numP s=some n.toNat:=by rw[<-hi];exact numP_dec hlt
   rw[hP];simp only[cond_false];rw[decide_eq_false (by omega)];simp only[cond_false,Option.bind_some];rw[show ((n.toNat:Nat):Int)=n by omega]
  have:(Lib.itoa n !=s)=true:=by simpa using hi
  rw[this];have hP:numP s=none:=by
   refine noneCase fun m hm=>hi ?_
   have h3:Lib.atoi s=some (m:Int):=by rw[hm];exact wub m
   rw[ha]at h3;cases h3;rw[Lib.itoa_nonneg,hm]
  rw[hP];rfl
theorem YWa(s:Str)(hs:s.length<=9):∀(r p:Str) (acc:Nat),s=p++r->acc < 10 ^ p.length->iter (wga s) ((acc:Int),(p.length:Int))=some (match Lib.decFrom acc r with | some m=>.inl (m:Int) | none=>.inr (-1))
 | [],p,acc,h,ha=>by
  rw[List.append_nil]at h;subst h;refine zGa ?_;unfold wga;dsimp only;rw[zMa];rfl
 | x::r,p,acc,h,ha=>by
  have hp:p.length<=8:=by have:=congrArg List.length h;simp at this;omega
  have hpw:10 ^ p.length<=10 ^ 8:=Nat.pow_le_pow_right (by omega) hp;have hx:s[p.length]? =some x:=by rw[h];simp
  have hin:R_In (x.toNat:Int) 48 57=some (decide (48<=x.toNat) && decide (x.toNat<=57)):=by
   rw[vfa]
   congr 2 <;> (rw[Bool.eq_iff_iff,decide_eq_true_eq,decide_eq_true_eq];omega)
  by_cases hd:48<=x.toNat/\x.toNat<=57
  .have hv:Lib.digitVal x=some (x.toNat - 48):=by unfold Lib.digitVal;rw[if_pos hd]
   have h2:(x - 48).toNat=x.toNat - 48:=UInt8.toNat_sub_of_le x 48 (by rw[UInt8.le_iff_toNat_le];exact hd.1);have w5a:wga s ((acc:Int),(p.length:Int))=some (.cont (((acc * 10+(x.toNat - 48):Nat):Int),((p.length+1:Nat):Int))):=by
    unfold wga;dsimp only;rw[kia hx,zHa hx];simp only[cond_true,Option.bind_some,hin];rw[decide_eq_true hd.1,decide_eq_true hd.2,h2];have e1:w64 (10 * (acc:Int))=10 * (acc:Int):=q0a (by omega) (by omega);simp only[Bool.and_true,Bool.not_true,cond_false,sc p.length (by omega)];rw[e1,q0a (by omega) (by omega)]
    congr 3
    omega
   rw[zNa w5a];have:=YWa s hs r (p++ [x]) (acc * 10+(x.toNat - 48)) (by simp[h]) (by simp[Nat.pow_succ];omega);simp only[List.length_append,List.length_cons,List.length_nil]at this;rw[show 0+1=1 from rfl]at this;rw[this,Lib.decFrom,hv]
  have hv:Lib.digitVal x=none:=by unfold Lib.digitVal;rw[if_neg hd]
  have hb:(decide (48<=x.toNat) && decide (x.toNat<=57))=false:=by
   cases h1:decide (48<=x.toNat) && decide (x.toNat<=57) with
   | false=>rfl
   | true=>simp only[Bool.and_eq_true,decide_eq_true_eq]at h1;exact absurd h1 hd
  rw[Lib.decFrom,hv];refine zGa ?_;unfold wga;dsimp only;rw[kia hx,zHa hx];simp only[cond_true,Option.bind_some,hin,hb];rfl
theorem ZJa(s:Str)(hs:s.length<=1048576):KUa s=some (match numP s with | some m=>(m:Int) | none=> -1):=by
 unfold KUa;rw[vfa];by_cases h9:1<=s.length/\s.length<=9
 .have e:(decide ((1:Int)<=(s.length:Int)) && decide ((s.length:Int)<=9))=true:=by simp;omega
  rw[e];simp only[Option.bind_some,Bool.not_true,cond_false];cases s with
  | nil=>simp at h9
  | cons x r=>
   have e0:idx (x::r) 0=some x:=rfl;rw[e0];simp only[Option.bind_some,qWa x 48 (by decide)];have loop:=YWa (x::r) h9.2 (x::r) [] 0 rfl (by simp);rw[show (((0:Nat):Int),(([]:Str).length:Int))=((0:Int),(0:Int)) from rfl]at loop;rw[loop];by_cases hz:1 < (x::r).length/\x=48
   .obtain ⟨h1,rfl⟩:=hz;rw[decide_eq_true (by omega)];have hP:numP (48::r)=none:=by
     cases hm:numP (48::r) with
     | none=>rfl
     | some m=>
      obtain ⟨_,h2,_⟩:=YUa hm;obtain ⟨d,r',h3,h4,h5,h6⟩:=YTa m;rw[h2]at h4;injection h4 with h7 h8
      have h9' :=congrArg UInt8.toNat h7;rw[UInt8.toNat_ofNat']at h9';have hd0:d=0:=by
       have:(48:UInt8).toNat=48:=rfl;omega
      by_cases h10:10<=m
      .have:=h5 h10;omega
      have:=h6 (by omega);rw[h8]at h1;rw[this]at h1;simp at h1
    rw[hP];rfl
   have e1:(bif decide ((1:Int) < (((x::r).length:Nat):Int)) then some (x==48) else some false)=some false:=by
    by_cases h1:1 < (x::r).length
    .have hx:x≠48:=fun e=>hz ⟨h1,e⟩
     rw[decide_eq_true (by omega)];simpa using hx
    rw[decide_eq_false (by omega)];rfl
   rw[e1];simp only[Option.bind_some,cond_false];have hd:Lib.decNat (x::r)=Lib.decFrom 0 (x::r):=rfl;unfold numP;rw[if_pos h9.2,hd];cases hm:Lib.decFrom 0 (x::r) with
   | none=>rfl
   | some m=>
    have hc:=qdb _ (x::r) m rfl hm (by simp) (by
     by_cases h1:(x::r).length=1
     .exact .inl h1
     right;have hx:x≠48:=fun e=>hz ⟨by have:(x::r).length=r.length+1:=rfl;omega,e⟩
     simpa using hx)
    simp only[hc,if_true];rfl
 have e:(decide ((1:Int)<=(s.length:Int)) && decide ((s.length:Int)<=9))=false:=by
  cases h1:decide ((1:Int)<=(s.length:Int)) && decide ((s.length:Int)<=9) with
  | false=>rfl
  | true=>simp at h1;exact absurd ⟨by omega,by omega⟩ h9
 rw[e];have hP:numP s=none:=by
  cases hm:numP s with
  | none=>rfl
  | some m=>
   obtain ⟨h1,h2,_⟩:=YUa hm;have:=wtb m;rw[h2]at this;exact absurd ⟨this,h1⟩ h9
 rw[hP];rfl
theorem w6a(s:Str):q8a s=some (match numP s with | some m=>((m:Int),true) | none=>(0,false)):=by
 unfold q8a;by_cases h9:s.length<=9
 .rw[decide_eq_false (by omega),YVa s h9];cases numP s <;> rfl
 rw[decide_eq_true (by omega)];have:numP s=none:=by unfold numP;rw[if_neg h9]
 rw[this];rfl
instance:DecidableEq zia:=fun a b=>decidable_of_iff (a.Name=b.Name/\a.Value=b.Value) (by cases a;cases b;simp)
instance:DecidableEq zBa:=fun a b=>decidable_of_iff (a.Fields=b.Fields/\a.Body=b.Body) (by cases a;cases b;simp)
instance:DecidableEq zza:=fun a b=>decidable_of_iff (a.Envelope=b.Envelope/\a.Message=b.Message) (by cases a;cases b;simp)
theorem low_add(c:UInt8):c+97 - 65=c+32:=by
 rw[<-UInt8.toNat_inj];have:=c.toNat_lt;simp only[UInt8.toNat_add,UInt8.toNat_sub,UInt8.reduceToNat];omega
theorem V6a(s:Str)(hs:s.length<=1048576):QEa s=some (lowP s):=by
 unfold QEa lowP;have:=(Zia s (fun i (o:List UInt8)=>(i,o)) (fun o c=>o++ [lowC c]) id (fun i o=>o.length<=i) (body:=Zaa s)
  (fun o _=>by unfold Zaa;simp[zMa]) (fun i c o hx hi=>by
   have hlt:=zOa hx;refine ⟨?_,by simp;omega⟩;unfold Zaa;dsimp only;rw[kia hx,zHa hx];simp only[cond_true,Option.bind_some,vfa,jEa 65 c (by decide),jFa 90 c (by decide),sc i (by omega)];have hl:((bif (decide ((65:UInt8)<=c) && decide (c<=90)) then some (c+32) else some c):Option UInt8)=some (lowC c):=by
    unfold lowC;rw[low_add];cases decide ((65:UInt8)<=c) && decide (c<=90) <;> rfl
   rw[hl];simp only[Option.bind_some];rw[kha (by simp;omega)];rfl) [] (by simp)).1
 rw[this,map_fold];simp
theorem Vna(m:zBa)(hf:m.Fields.length<=1048576):wBa m m=some true:=by
 unfold wBa;have e1:((m.Fields.length:Int) !=(m.Fields.length:Int))=false:=by simp
 have e2:(m.Body !=m.Body)=false:=by simp
 rw[e1,e2];simp only[cond_false,Option.bind_some];rw[zIa m.Fields (fun _ _=>none) (.inl ()) .inr]
 .have:zEa (fun _ _=>(none:Option Bool)) 0 m.Fields=none:=by rw[qXa];intro i x _;rfl
  simp only[Option.bind_some];rw[this];rfl
 .unfold v7a;rw[zMa];rfl
 intro i f hx;have hi:=zOa hx;unfold v7a;rw[kia hx,zHa hx];simp only[cond_true,Option.bind_some,sc i (by omega)];simp[wqa]
theorem YXa(m:zza)(h1:m.Envelope.To.length<=1048576)(h2:m.Message.Fields.length<=1048576):Zba m m=some true:=by
 unfold Zba;have e1:(m.Envelope.From !=m.Envelope.From)=false:=by simp
 have e2:(m.Envelope.Id !=m.Envelope.Id)=false:=by simp
 have e3:((m.Envelope.To.length:Int) !=(m.Envelope.To.length:Int))=false:=by simp
 rw[e1,e2,e3];simp only[cond_false,Option.bind_some];rw[zIa m.Envelope.To (fun _ _=>none) (.inl ()) .inr]
 .have:zEa (fun _ _=>(none:Option Bool)) 0 m.Envelope.To=none:=by rw[qXa];intro i x _;rfl
  simp only[Option.bind_some];rw[this];simp only[Option.elim_none,Sum.elim_inl];rw[Vna _ h2];rfl
 .unfold yIa;rw[zMa];rfl
 intro i f hx;have hi:=zOa hx;unfold yIa;rw[kia hx,zHa hx];simp only[cond_true,Option.bind_some,sc i (by omega)];simp[wqa]
theorem WIa(l:List zza)(hl:l.length<=1048576)(h:∀m∈l,m.Envelope.To.length<=1048576/\m.Message.Fields.length<=1048576):y6a l l=some true:=by
 unfold y6a;have e3:((l.length:Int) !=(l.length:Int))=false:=by simp
 rw[e3];simp only[cond_false];rw[zIa l (fun _ _=>none) (.inl ()) .inr]
 .have:zEa (fun _ _=>(none:Option Bool)) 0 l=none:=by rw[qXa];intro i x _;rfl
  simp only[Option.bind_some];rw[this];rfl
 .unfold yaa;rw[zMa];rfl
 intro i m hx;have hi:=zOa hx;obtain ⟨q1,q2⟩:=h m (List.mem_of_getElem? hx);unfold yaa;rw[kia hx,zHa hx];simp only[cond_true,Option.bind_some,sc i (by omega),YXa m q1 q2];rfl
def v5a(c:UInt8):Str->List Str
 | []=>[[]]
 | b::r=>if b=c then []::v5a c r else match v5a c r with
  | x::l=>(b::x)::l
  | []=>[[b]]
theorem Kpa(c:UInt8)(s:Str):∃x l,v5a c s=x::l:=by
 cases s with
 | nil=>exact ⟨_,_,rfl⟩
 | cons b r=>
  unfold v5a;split
  .exact ⟨_,_,rfl⟩
  split <;> exact ⟨_,_,rfl⟩
theorem YYa(c:UInt8)(r:Str):v5a c (c::r)=[]::v5a c r:=by rw[v5a,if_pos rfl]
theorem QLa{b c:UInt8}(h:b≠c){r x:Str}{l:List Str}(hr:v5a c r=x::l):v5a c (b::r)=(b::x)::l:=by
 rw[v5a,if_neg h,hr]
theorem qeb(c:UInt8)(s:Str):(v5a c s).length<=s.length+1:=by
 induction s with
 | nil=>simp[v5a]
 | cons b r ih=>
  by_cases hb:b=c
  .subst hb;rw[YYa];simp;omega
  obtain ⟨x,t,hx⟩:=Kpa c r;rw[hx]at ih;rw[QLa hb hx];simp at ih ⊢;omega
theorem ynb{c:UInt8}{s x:Str}(h:x∈v5a c s):x.length<=s.length:=by
 induction s generalizing x with
 | nil=>simp[v5a]at h;subst h;simp
 | cons b r ih=>
  by_cases hb:b=c
  .subst hb;rw[YYa]at h;rcases List.mem_cons.1 h with rfl | h
   .simp
   have:=ih h;simp;omega
  obtain ⟨y,t,hy⟩:=Kpa c r;rw[QLa hb hy]at h;rcases List.mem_cons.1 h with rfl | h
  .have:=ih (x:=y) (by rw[hy];simp);simp;omega
  have:=ih (x:=x) (by rw[hy];simp[h]);simp;omega
def nonE(l:List Str):List Str:=l.filter fun x=> !x.isEmpty
def yua(s:Str):List Str:=nonE (v5a 32 s)
def wrd(cur r:Str):List Str:=match v5a 32 r with
 | x::l=>nonE ((cur++x)::l)
 | []=>[]
theorem jYb(s:Str):wrd [] s=yua s:=by
 unfold wrd yua;obtain ⟨x,l,h⟩:=Kpa 32 s;rw[h];rfl
theorem jZb(cur:Str):wrd cur []=nonE [cur]:=by unfold wrd;simp[v5a]
theorem j0b(x:Str)(l:List Str):nonE (x::l)=nonE [x]++nonE l:=by unfold nonE;cases h:x.isEmpty <;> simp[h]
theorem wrd_sp(cur r:Str):wrd cur (32::r)=nonE [cur]++wrd [] r:=by
 obtain ⟨x,l,h⟩:=Kpa 32 r;have e:v5a 32 (32::r)=[]::x::l:=by rw[YYa,h]
 unfold wrd;rw[e,h];show nonE ((cur++ [])::x::l)=nonE [cur]++nonE (([]++x)::l);rw[List.append_nil,j0b];rfl
theorem Wua{c:UInt8}:∀{k r x:Str} {l:List Str},c ∉ k->v5a c r=x::l->v5a c (k++r)=(k++x)::l
 | [],_,_,_,_,h=>h
 | b::k,r,x,l,hk,h=>by
  simp at hk;rw[List.cons_append,QLa (Ne.symm hk.1) (Wua hk.2 h)];rfl
theorem YZa{k:Str}(cur r:Str)(hk:(32:UInt8) ∉ k):wrd cur (k++r)=wrd (cur++k) r:=by
 obtain ⟨x,l,h⟩:=Kpa 32 r;unfold wrd;rw[Wua hk h,h];show nonE ((cur++(k++x))::l)=nonE ((cur++k++x)::l);rw[List.append_assoc]
theorem getB{l:Str}{i:Nat}(h:i < l.length):(strB l).get! i=l[i]:=by
 show (strB l).data[i]! =_;simp[strB,h]
theorem j1b{l:Str}{i:Nat}(h:i < l.length):(l[i]=32->Utf8.decode (strB l) i=(32,1))/\
 (l[i]≠32->(Utf8.decode (strB l) i).1≠32/\1<=(Utf8.decode (strB l) i).2/\i+(Utf8.decode (strB l) i).2<=l.length/\∀k (hk:i+k < l.length),k < (Utf8.decode (strB l) i).2->l[i+k]≠32):=by
 have hz:(strB l).size=l.length:=rfl;have e0:(strB l).get! (i+0)=l[i]:=getB h;have hne:∀{u:UInt8},u.toNat / 64=2->u≠32:=fun hu e=>by subst e;exact absurd hu (by decide)
 constructor
 .intro h32;unfold Utf8.decode;simp only[e0,h32];rfl
 intro h32;have hb:l[i].toNat≠32:=fun e=>h32 (UInt8.toNat_inj.1 e)
 have d0:∀(n:Nat),n=1->∀k (hk:i+k < l.length),k < n->l[i+k]≠32:=by
  intro n hn k hk hkn;have:k=0:=by omega
  subst this;exact h32
 have gt:∀k,(decide (i+k < (strB l).size) && ((strB l).get! (i+k)).toNat / 64==2)=true->∃hk:i+k < l.length,l[i+k]≠32:=by
  intro k hk;simp only[Bool.and_eq_true,decide_eq_true_eq,beq_iff_eq,hz]at hk;refine ⟨hk.1,hne ?_⟩;rw[<-getB hk.1];exact hk.2
 unfold Utf8.decode;simp only[e0];split
 .exact ⟨hb,by simp,by simp;omega,d0 _ rfl⟩
 split
 .rename_i hc;simp only[Bool.and_eq_true]at hc;obtain ⟨h1,n1⟩:=gt 1 (by simpa using hc.2);try dsimp only
  split
  .refine ⟨by dsimp only;omega,by simp,by simp;omega,fun k hk hkn=>?_⟩;dsimp only at hkn;obtain rfl | rfl:k=0∨k=1:=by omega
   .exact h32
   exact n1
  exact ⟨by decide,by simp,by simp;omega,d0 _ rfl⟩
 split
 .rename_i hc;simp only[Bool.and_eq_true]at hc;obtain ⟨h1,n1⟩:=gt 1 (by simpa using hc.1.2);obtain ⟨h2,n2⟩:=gt 2 (by simpa using hc.2);try dsimp only
  split
  .rename_i hv;simp only[Bool.and_eq_true,decide_eq_true_eq]at hv;refine ⟨by dsimp only;omega,by simp,by simp;omega,fun k hk hkn=>?_⟩;dsimp only at hkn;obtain rfl | rfl | rfl:k=0∨k=1∨k=2:=by omega
   .exact h32
   .exact n1
   exact n2
  exact ⟨by decide,by simp,by simp;omega,d0 _ rfl⟩
 split
 .rename_i hc;simp only[Bool.and_eq_true]at hc;obtain ⟨h1,n1⟩:=gt 1 (by simpa using hc.1.1.2);obtain ⟨h2,n2⟩:=gt 2 (by simpa using hc.1.2);obtain ⟨h3,n3⟩:=gt 3 (by simpa using hc.2);try dsimp only
  split
  .rename_i hv;simp only[Bool.and_eq_true,decide_eq_true_eq]at hv;refine ⟨by dsimp only;omega,by simp,by simp;omega,fun k hk hkn=>?_⟩;dsimp only at hkn;obtain rfl | rfl | rfl | rfl:k=0∨k=1∨k=2∨k=3:=by omega
   .exact h32
   .exact n1
   .exact n2
   exact n3
  exact ⟨by decide,by simp,by simp;omega,d0 _ rfl⟩
 exact ⟨by decide,by simp,by simp;omega,d0 _ rfl⟩
def curP(l:Str)(pos:Nat):Option Nat->Str
 | none=>[]
 | some a=>(l.drop a).take (pos - a)
def exP(l:Str)(x:Nat × Nat):Str:=((strB l).extract x.1 x.2).data.toList
theorem exP_eq(l:Str)(a b:Nat):exP l (a,b)=(l.drop a).take (b - a):=by
 unfold exP;rw[Lib.extract_data];simp[strB]
theorem spans_eq(l:Str):∀(f pos:Nat) (st:Option Nat) (acc:List (Nat × Nat)),l.length<=pos+f->pos<=l.length->(∀a,st=some a->a < pos)->
 (Lib.closeSpans (strB l) (Lib.spansFromP sp32 (strB l) f pos st acc)).map (exP l)=acc.map (exP l)++wrd (curP l pos st) (l.drop pos):=by
 have fin:∀(pos:Nat) (st:Option Nat) (acc:List (Nat × Nat)),pos=l.length->(∀a,st=some a->a < pos)->(Lib.closeSpans (strB l) (acc,st)).map (exP l)=acc.map (exP l)++wrd (curP l pos st) (l.drop pos):=by
  intro pos st acc hp hst;subst hp;rw[List.drop_length,jZb];cases st with
  | none=>simp[Lib.closeSpans,curP,nonE]
  | some a=>
   have ha:=hst a rfl;have e:curP l l.length (some a)=l.drop a:=by show (l.drop a).take (l.length - a)=_;rw[List.take_of_length_le (by simp)]
   rw[e];have hne:(l.drop a).isEmpty=false:=by
    cases hd:l.drop a with
    | nil=>have:=congrArg List.length hd;simp at this;omega
    | cons x y=>rfl
   have hz:(strB l).size=l.length:=rfl;simp[Lib.closeSpans,nonE,hne,exP_eq,hz,List.take_of_length_le]
 intro f;induction f with
 | zero=>
  intro pos st acc h1 h2 h3;unfold Lib.spansFromP;exact fin pos st acc (by omega) h3
 | succ f ih=>
  intro pos st acc h1 h2 h3;by_cases hlt:pos < l.length
  .have hz:pos < (strB l).size:=hlt;obtain ⟨d1,d2⟩:=j1b hlt;have hdr:l.drop pos=l[pos]::l.drop (pos+1):=List.drop_eq_getElem_cons hlt;unfold Lib.spansFromP;rw[if_pos hz];by_cases h32:l[pos]=32
   .rw[d1 h32];rw[show sp32 (32,1).1=true by decide,if_pos rfl];dsimp only;rw[hdr,h32,wrd_sp];cases st with
    | none=>
     dsimp only;rw[ih (pos+1) none acc (by omega) (by omega) (fun a h=>by cases h)];simp[curP,nonE]
    | some a=>
     have ha:=h3 a rfl;dsimp only;rw[ih (pos+1) none (acc++ [(a,pos)]) (by omega) (by omega) (fun a h=>by cases h)];have hne:((l.drop a).take (pos - a)).isEmpty=false:=by
      cases hd:(l.drop a).take (pos - a) with
      | nil=>have:=congrArg List.length hd;simp at this;omega
      | cons x y=>rfl
     simp[curP,nonE,exP_eq,hne]
   obtain ⟨e1,e2,e3,e4⟩:=d2 h32;generalize Utf8.decode (strB l) pos=d at e1 e2 e3 e4;obtain ⟨r,n⟩:=d;dsimp only at e1 e2 e3 e4;have hsp:sp32 r=false:=by unfold sp32;rw[decide_eq_false];omega
   rw[hsp];simp only[Bool.false_eq_true,if_false];have hk:(32:UInt8) ∉ (l.drop pos).take n:=by
    intro hm;obtain ⟨k,hk⟩:=List.mem_iff_getElem?.1 hm;rw[List.getElem?_take]at hk;split at hk
    .rename_i hkn;rw[List.getElem?_drop]at hk;have hkl:=(List.getElem?_eq_some_iff.1 hk).1;have hke:=(List.getElem?_eq_some_iff.1 hk).2;exact e4 k hkl hkn hke
    cases hk
   have hsplit:l.drop pos=(l.drop pos).take n++l.drop (pos+n):=by
    rw[<-List.drop_drop,List.take_append_drop]
   cases st with
   | none=>
    dsimp only;rw[ih (pos+n) (some pos) acc (by omega) e3 (fun a h=>by cases h;omega)]
    conv=>rhs;rw[hsplit,YZa _ _ hk]
    congr 2
    simp[curP]
   | some a=>
    have ha:=h3 a rfl;dsimp only;rw[ih (pos+n) (some a) acc (by omega) e3 (fun b h=>by cases h;omega)]
    conv=>rhs;rw[hsplit,YZa _ _ hk]
    congr 2
    show (l.drop a).take (pos+n - a)=(l.drop a).take (pos - a)++(l.drop pos).take n;rw[show pos+n - a=(pos - a)+n by omega,List.take_add,List.drop_drop,show a+(pos - a)=pos by omega]
  rw[Lib.spansFromP_end _ _ _ _ _ _ (by show ¬pos < l.length;exact hlt)];exact fin pos st acc (by omega) h3
theorem vpb(l:Str):(Lib.goFieldsP sp32 (strB l)).map (fun b=>b.data.toList)=yua l:=by
 have h:=spans_eq l l.length 0 none [] (by omega) (by omega) (fun a h=>by cases h);rw[List.drop_zero]at h;unfold Lib.goFieldsP Lib.spansOfP;rw[List.map_map];rw[show ((fun b:ByteArray=>b.data.toList) ∘ fun x:Nat × Nat=>(strB l).extract x.1 x.2)=exP l from rfl];rw[show (strB l).size=l.length from rfl,h];simp[curP,jYb]
theorem wvb(a b:Bool):(bif a then some b else some false:Option Bool)=some (a && b):=by cases a <;> rfl
theorem or_some(a b:Bool):(bif a then some true else some b:Option Bool)=some (a || b):=by cases a <;> rfl
def Y0a(c:zoa):Bool:=(c.Verb==1 || c.Name==([]:Str)) && (c.Verb==2 || c.Verb==3 || c.Address==([]:Str)) && (c.Verb==2 || c.Verb==5 || c.Size==0) && (c.Verb==3 || c.Notify==0) && (c.Verb==5 || c.Last==false)
def cmdF(c:zoa):zta:=
 bif decide (c.Verb < 1) || decide (8 < c.Verb) then ⟨4, -2⟩ else bif !Y0a c then ⟨5, -3⟩ else bif c.Verb==1 && !ZXa c.Name then ⟨10, -4⟩ else
 bif (c.Verb==3 || (c.Verb==2 && c.Address !=([]:Str))) && !qIa c.Address then ⟨10, -5⟩ else bif decide (c.Size < 0) || decide (1000000 < c.Size) then ⟨3, -6⟩ else
 bif !qKa c.Notify then ⟨3, -7⟩ else ⟨0,0⟩
theorem five(v:Int):v=1∨v=2∨v=3∨v=5∨((v==1)=false/\(v==2)=false/\(v==3)=false/\(v==5)=false):=by
 simp only[beq_eq_false_iff_ne];omega
theorem used_eq(c:zoa):∃u,yka c=some u/\wqa [(c.Verb==u.Verb),(c.Name==u.Name),(c.Address==u.Address),(c.Size==u.Size),(c.Notify==u.Notify),(c.Last==u.Last)]=Y0a c:=by
 obtain ⟨v,n,a,s,o,l⟩:=c;rcases five v with rfl | rfl | rfl | rfl | ⟨h1,h2,h3,h5⟩
 .exact ⟨⟨1,n,[],0,0,false⟩,rfl,by simp[wqa,Y0a,Bool.and_assoc]⟩
 .exact ⟨⟨2,[],a,s,0,false⟩,rfl,by simp[wqa,Y0a,Bool.and_assoc]⟩
 .exact ⟨⟨3,[],a,0,o,false⟩,rfl,by simp[wqa,Y0a,Bool.and_assoc]⟩
 .exact ⟨⟨5,[],[],s,0,l⟩,rfl,by simp[wqa,Y0a,Bool.and_assoc]⟩
 refine ⟨⟨v,[],[],0,0,false⟩,?_,?_⟩
 .unfold yka;dsimp only;rw[h1,h2,h3,h5];rfl
 unfold Y0a;dsimp only;rw[h1,h2,h3,h5];simp[wqa,Bool.and_assoc]
def kjb(c:zoa):Prop:=c.Name.length<=1048576/\c.Address.length<=1048576
theorem QMa(c:zoa)(h:kjb c):q5a c=some (cmdF c):=by
 obtain ⟨u,hu,he⟩:=used_eq c;unfold q5a cmdF;rw[hu];simp only[Option.bind_some,he,Vfa _ h.1,qYa _ (show c.Address.length < 4294967281 by have:=h.2;omega),wHa,kna,qga,wvb,or_some];cases decide (c.Verb < 1) || decide (8 < c.Verb) with
 | true=>rfl
 | false=>
  cases Y0a c with
  | false=>rfl
  | true=>
   cases c.Verb==1 && !ZXa c.Name with
   | true=>rfl
   | false=>
    cases (c.Verb==3 || (c.Verb==2 && c.Address !=([]:Str))) && !qIa c.Address with
    | true=>rfl
    | false=>
     cases decide (c.Size < 0) || decide (1000000 < c.Size) with
     | true=>rfl
     | false=>cases qKa c.Notify <;> rfl
theorem V7a(c:zoa)(h:kjb c):vYa c=some (cmdF c):=by
 have hN:=QFa _ h.1;have hA:=yba c.Address (by have:=h.2;omega);unfold vYa cmdF;rw[vfa];have e1:(!(decide (1<=c.Verb) && decide (c.Verb<=8)))=(decide (c.Verb < 1) || decide (8 < c.Verb)):=by
  rw[Bool.eq_iff_iff];simp
 simp only[Option.bind_some,e1,jOa];cases hv:decide (c.Verb < 1) || decide (8 < c.Verb) with
 | true=>rfl
 | false=>
  simp only[cond_false,hN,hA,Option.bind_some,vfa];obtain ⟨v,n,a,s,o,l⟩:=c;dsimp only at *;have en:(n !=([]:Str))= !(n==([]:Str)):=rfl;have ea:(a !=([]:Str))= !(a==([]:Str)):=rfl;have es:(s !=(0:Int))= !(s==0):=rfl;have eo:(o !=(0:Int))= !(o==0):=rfl;have e0:(0:Int)<=1000000:=by omega
  have sz:(decide (0<=s) && decide (s<=1000000))= !(decide (s < 0) || decide (1000000 < s)):=by rw[Bool.eq_iff_iff];simp
  have sz0:s=0->(decide (s < 0) || decide (1000000 < s))=false:=fun e=>by subst e;rfl
  have no0:o=0->qKa o=true:=fun e=>by subst e;rfl
  have nop:(decide (0<=o) && decide (o<=7))=qKa o:=rfl;rw[en,ea,es,eo,sz,nop];unfold Y0a;dsimp only;rcases five v with rfl | rfl | rfl | rfl | ⟨h1,h2,h3,h5⟩
  .simp only[show ((1:Int)==1)=true from rfl,show ((1:Int)==2)=false from rfl,show ((1:Int)==3)=false from rfl,show ((1:Int)==5)=false from rfl,show ((1:Int) !=1)=false from rfl,show ((1:Int) !=2)=true from rfl,show ((1:Int) !=3)=true from rfl,show ((1:Int) !=5)=true from rfl];cases a==([]:Str) with
   | false=>rfl
   | true=>
    cases hs:s==0 with
    | false=>rfl
    | true=>
     cases ho:o==0 with
     | false=>rfl
     | true=>
      rw[sz0 (by simpa using hs),no0 (by simpa using ho)];cases l <;> cases ZXa n <;> rfl
  .simp only[show ((2:Int)==1)=false from rfl,show ((2:Int)==2)=true from rfl,show ((2:Int)==3)=false from rfl,show ((2:Int)==5)=false from rfl,show ((2:Int) !=1)=true from rfl,show ((2:Int) !=2)=false from rfl,show ((2:Int) !=3)=true from rfl,show ((2:Int) !=5)=true from rfl];cases n==([]:Str) with
   | false=>rfl
   | true=>
    cases ho:o==0 with
    | false=>rfl
    | true=>
     rw[no0 (by simpa using ho)];cases l <;> cases a==([]:Str) <;> cases qIa a <;> cases (decide (s < 0) || decide (1000000 < s)) <;> rfl
  .simp only[show ((3:Int)==1)=false from rfl,show ((3:Int)==2)=false from rfl,show ((3:Int)==3)=true from rfl,show ((3:Int)==5)=false from rfl,show ((3:Int) !=1)=true from rfl,show ((3:Int) !=2)=true from rfl,show ((3:Int) !=3)=false from rfl,show ((3:Int) !=5)=true from rfl];cases n==([]:Str) with
   | false=>rfl
   | true=>
    cases hs:s==0 with
    | false=>rfl
    | true=>
     rw[sz0 (by simpa using hs)];cases l <;> cases qIa a <;> cases qKa o <;> rfl
  .simp only[show ((5:Int)==1)=false from rfl,show ((5:Int)==2)=false from rfl,show ((5:Int)==3)=false from rfl,show ((5:Int)==5)=true from rfl,show ((5:Int) !=1)=true from rfl,show ((5:Int) !=2)=true from rfl,show ((5:Int) !=3)=true from rfl,show ((5:Int) !=5)=false from rfl];cases n==([]:Str) with
   | false=>rfl
   | true=>
    cases a==([]:Str) with
    | false=>rfl
    | true=>
     cases ho:o==0 with
     | false=>rfl
     | true=>
      rw[no0 (by simpa using ho)];cases (decide (s < 0) || decide (1000000 < s)) <;> rfl
  have n1:(v !=1)=true:=by unfold bne;rw[h1];rfl
  have n2:(v !=2)=true:=by unfold bne;rw[h2];rfl
  have n3:(v !=3)=true:=by unfold bne;rw[h3];rfl
  have n5:(v !=5)=true:=by unfold bne;rw[h5];rfl
  rw[h1,h2,h3,h5,n1,n2,n3,n5];cases n==([]:Str) with
  | false=>rfl
  | true=>
   cases a==([]:Str) with
   | false=>rfl
   | true=>
    cases hs:s==0 with
    | false=>rfl
    | true=>
     cases ho:o==0 with
     | false=>rfl
     | true=>
      rw[sz0 (by simpa using hs),no0 (by simpa using ho)];cases l <;> rfl
structure kkb (c:zoa):Prop where
 verb:1<=c.Verb/\c.Verb<=8
 used:Y0a c=true
 name:c.Verb=1->ZXa c.Name=true
 addr:c.Verb=3∨(c.Verb=2/\c.Address≠ [])->qIa c.Address=true
 size:0<=c.Size/\c.Size<=1000000
 note:0<=c.Notify/\c.Notify<=7
theorem j2b{c:zoa}(h:(cmdF c).Code=0):kkb c/\cmdF c=⟨0,0⟩:=by
 unfold cmdF at h ⊢;cases h1:decide (c.Verb < 1) || decide (8 < c.Verb) with
 | true=>rw[h1]at h;exact absurd h (show (4:Int)≠0 by decide)
 | false=>
  rw[h1]at h;cases h2:Y0a c with
  | false=>rw[h2]at h;exact absurd h (show (5:Int)≠0 by decide)
  | true=>
   rw[h2]at h;cases h3:c.Verb==1 && !ZXa c.Name with
   | true=>rw[h3]at h;exact absurd h (show (10:Int)≠0 by decide)
   | false=>
    rw[h3]at h;cases h4:(c.Verb==3 || (c.Verb==2 && c.Address !=([]:Str))) && !qIa c.Address with
    | true=>rw[h4]at h;exact absurd h (show (10:Int)≠0 by decide)
    | false=>
     rw[h4]at h;cases h5:decide (c.Size < 0) || decide (1000000 < c.Size) with
     | true=>rw[h5]at h;exact absurd h (show (3:Int)≠0 by decide)
     | false=>
      rw[h5]at h;cases h6:qKa c.Notify with
      | false=>rw[h6]at h;exact absurd h (show (3:Int)≠0 by decide)
      | true=>
       simp only[Bool.or_eq_false_iff,decide_eq_false_iff_not]at h1 h5;unfold qKa at h6;simp only[Bool.and_eq_true,decide_eq_true_eq]at h6;refine ⟨⟨by omega,h2,fun hv=>?_,fun hv=>?_,by omega,h6⟩,rfl⟩
       .rw[hv]at h3;simpa using h3
       cases ha:qIa c.Address with
       | true=>rfl
       | false=>
        rw[ha]at h4;rcases hv with hv | ⟨hv,hn⟩
        .rw[hv]at h4;simp at h4
        rw[hv]at h4;simp at h4;exact absurd h4 hn
def Voa:List Str:=[[104,101,108,108,111],[109,97,105,108],[114,99,112,116],[100,97,116,97],[99,104,117,110,107],[114,101,115,101,116],[110,111,111,112],[113,117,105,116]]
def Kqa:List Str:=[[110,101,118,101,114],[102,97,105,108,117,114,101],[100,101,108,97,121],[102,97,105,108,117,114,101,44,100,101,108,97,121],[115,117,99,99,101,115,115],[102,97,105,108,117,114,101,44,115,117,99,99,101,115,115],[100,101,108,97,121,44,115,117,99,99,101,115,115],[102,97,105,108,117,114,101,44,100,101,108,97,121,44,115,117,99,99,101,115,115]]
def klb(v:Int):Str:=Voa.getD (v - 1).toNat []
def vqb(n:Int):Str:=Kqa.getD n.toNat []
def condsV:zma × zma × zma:=((zma.mk 1 (([102,97,105,108,117,114,101]:Str))),(zma.mk 2 (([100,101,108,97,121]:Str))),(zma.mk 4 (([115,117,99,99,101,115,115]:Str))))
instance:DecidableEq (Step (Int × List Str) (List Str)):=fun a b=>match a,b with
 | .cont x,.cont y=>decidable_of_iff (x=y) (by simp)
 | .out x,.out y=>decidable_of_iff (x=y) (by simp)
 | .cont x,.out y=>isFalse (by simp)
 | .out x,.cont y=>isFalse (by simp)
def yob(n:Nat):List Str:=(if n % 2=1 then [[102,97,105,108,117,114,101]] else [])++(if n / 2 % 2=1 then [[100,101,108,97,121]] else [])++(if n / 4 % 2=1 then [[115,117,99,99,101,115,115]] else [])
theorem j3b:∀n:Fin 8,K3a (wZa (n.val:Int) condsV) 4 (0,[])=some (yob n.val):=by decide+kernel
theorem j4b:∀n:Fin 8,(if yob n.val=[] then ([110,101,118,101,114]:Str) else Lib.join (yob n.val) [44])=Kqa.getD n.val []/\(yob n.val).length<=3/\(Kqa.getD n.val []).length<=100:=by decide+kernel
theorem V8a{n:Int}(h:0<=n/\n<=7):vWa n=some (vqb n):=by
 have h1:=j3b ⟨n.toNat,by omega⟩;obtain ⟨h2,h3,h4⟩:=j4b ⟨n.toNat,by omega⟩;dsimp only at h1 h2 h3 h4;rw[show ((n.toNat:Nat):Int)=n by omega]at h1;unfold vWa;have hc:vla=some condsV:=rfl;rw[hc];simp only[Option.bind_some];rw[Q0a.2 ⟨4,h1⟩];simp only[Option.bind_some];unfold vqb;by_cases he:yob n.toNat=[]
 .rw[if_pos he]at h2;rw[he,<-h2];rfl
 rw[if_neg he]at h2;have e:(((yob n.toNat).length:Int)==0)=false:=by
  rw[beq_eq_false_iff_ne];have:=List.length_pos_iff.2 he;omega
 rw[e];simp only[cond_false];unfold vya;rw[if_pos ⟨by omega,by rw[h2];omega⟩,h2];rfl
theorem j5b:∀k:Fin 8,Voa[k.val]? =some (klb ((k.val:Int)+1))/\(klb ((k.val:Int)+1)).length<=5:=by decide
theorem word_idx{v:Int}(h:1<=v/\v<=8):idx Voa (w64 (v - 1))=some (klb v)/\(klb v).length<=5:=by
 have:=j5b ⟨(v - 1).toNat,by omega⟩;dsimp only at this;rw[show (((v - 1).toNat:Nat):Int)+1=v by omega]at this;rw[q0a (by omega) (by omega),show v - 1=(((v - 1).toNat:Nat):Int) by omega,w3a];exact this
theorem WJa:yKa=some (([104,101,108,108,111]:Str),([109,97,105,108]:Str),([114,99,112,116]:Str),([100,97,116,97]:Str),([99,104,117,110,107]:Str),([114,101,115,101,116]:Str),([110,111,111,112]:Str),([113,117,105,116]:Str)):=rfl
theorem addr_len{a:Str}(h:qIa a=true):a.length<=121:=by
 unfold qIa at h;simp only[Bool.and_eq_true,decide_eq_true_eq]at h;obtain ⟨⟨⟨⟨h1,h2⟩,h3⟩,h4⟩,h5⟩:=h;unfold domP at h5;simp only[Bool.and_eq_true,decide_eq_true_eq,List.length_drop]at h5;omega
theorem j6b{v:Int}(h:1<=v/\v<=8):kTb v=some (klb v):=by
 unfold kTb;exact (congrArg (fun o:Option Str=>o.bind fun v1=>some v1) (word_idx h).1)
theorem WKa:∀k:Fin 8,yoa (k.val:Int)=some (Kqa.getD k.val []):=by decide
theorem Y1a{n:Int}(h:0<=n/\n<=7):yoa n=some (vqb n):=by
 have:=WKa ⟨n.toNat,by omega⟩;dsimp only at this;rw[show ((n.toNat:Nat):Int)=n by omega]at this;exact this
def angP:Str->Option Str
 | b::r=>if b=60/\r.getLast? =some 62 then some r.dropLast else none
 | []=>none
theorem zgb(c:UInt8)(v:Str):Lib.hasSuffix v [c]=decide (v.getLast? =some c):=by
 unfold Lib.hasSuffix;rw[Bool.eq_iff_iff,List.isSuffixOf_iff_suffix,decide_eq_true_eq];constructor
 .rintro ⟨t,rfl⟩;simp
 intro h;have hne:v≠ []:=by rintro rfl;cases h
 refine ⟨v.dropLast,?_⟩;have:=List.dropLast_concat_getLast hne;rw[List.getLast?_eq_some_getLast hne]at h;rw[Option.some.inj h]at this;exact this
theorem vma(a:Str)(ha:a.length<=1048576):∃x,qDa a=some (x,(angP a).isSome)/\∀y,angP a=some y->x=y:=by
 unfold qDa zYa;simp only[Option.bind_some];have hpre:∀(t:Str),Lib.hasPrefix (60::t) [60]=true:=fun t=>by simp[Lib.hasPrefix]
 cases a with
 | nil=>
  refine ⟨[],?_,fun y h=>by cases h⟩;unfold zZa;rfl
 | cons b r=>
  by_cases hb:b=60
  .subst hb;have h1:Lib.trimPrefix (60::r) [60]=r:=by unfold Lib.trimPrefix;rw[hpre];rfl
   rw[h1,hpre];unfold zZa;simp at ha;have hsm:(angP (60::r)).isSome=decide (r.getLast? =some 62):=by
    unfold angP;by_cases hl:r.getLast? =some 62 <;> simp[hl]
   rw[if_pos (by omega),zgb,hsm];simp only[Option.bind_some,cond_true];refine ⟨_,rfl,fun y hy=>?_⟩;unfold angP at hy;by_cases hl:r.getLast? =some 62
   .simp only[hl,and_self,if_true,Option.some.injEq]at hy;subst hy;unfold Lib.trimSuffix;rw[zgb,hl];simp[List.dropLast_eq_take]
   simp[hl]at hy
  have h1:Lib.hasPrefix (b::r) [60]=false:=by
   simp[Lib.hasPrefix,List.isPrefixOf];exact fun h=>hb h.symm
  have h2:Lib.trimPrefix (b::r) [60]=b::r:=by unfold Lib.trimPrefix;rw[h1];rfl
  rw[h1,h2];unfold zZa;rw[if_pos (by omega)];have h3:angP (b::r)=none:=by unfold angP;simp[hb]
  exact ⟨_,by rw[h3];rfl,fun y hy=>by rw[h3]at hy;cases hy⟩
def optP(o n:Str):Option Str:=if (n++ [61]).isPrefixOf (lowP o) then some ((lowP o).drop (n.length+1)) else none
theorem Zma(o n:Str)(ho:o.length<=1048576)(hn:n.length<=100):∃x,kUa [o] n=some (x,(optP o n).isSome)/\(∀y,optP o n=some y->x=y)/\x.length<=o.length:=by
 have hll:(lowP o).length=o.length:=by unfold lowP;simp
 unfold kUa;have e1:((([o]:List Str).length:Int) !=1)=false:=rfl;have e2:idx [o] 0=some o:=rfl;rw[e1,e2];simp only[cond_false,Option.bind_some,jQa o ho];rw[Zha (by simp;omega)];unfold zYa;simp only[Option.bind_some];unfold optP Lib.trimPrefix Lib.hasPrefix;by_cases h:(n++ [61]).isPrefixOf (lowP o)=true
 .rw[if_pos h];refine ⟨_,by rw[h];rfl,fun y hy=>?_,by simp;omega⟩;rw[if_pos h]at hy;cases hy;simp
 have h0:(n++ [61]).isPrefixOf (lowP o)=false:=by cases hb:(n++ [61]).isPrefixOf (lowP o) with
  | true=>exact absurd hb h
  | false=>rfl
 refine ⟨lowP o,?_,fun y hy=>?_,by omega⟩
 .rw[h0];simp
 rw[h0]at hy;simp at hy
def Vpa(s:Str):Option Int:=zEa (fun i w=>if w==s then some ((i:Nat):Int) else none) 0 Kqa
theorem Y2a(s:Str)(b:Bool):yma s b=some (match (if b then Vpa s else none) with | some n=>(n,true) | none=>(0,false)):=by
 unfold yma;cases b with
 | false=>
  have w5a:∀i:Nat,i<=8->iter (kba s false) (i:Int)=some (.inl ()):=by
   intro i hi;have key:∀k i:Nat,i+k=8->iter (kba s false) (i:Int)=some (.inl ()):=by
    intro k;induction k with
    | zero=>
     intro i h;refine zGa ?_;unfold kba;rw[decide_eq_false (by omega)];rfl
    | succ k ih=>
     intro i h;have hs:kba s false (i:Int)=some (.cont ((i+1:Nat):Int)):=by
      unfold kba;rw[decide_eq_true (by omega)];simp only[cond_true,cond_false,Option.bind_some,sc i (by omega)]
     rw[zNa hs];exact ih (i+1) (by omega)
   exact key (8 - i) i (by omega)
  have:=w5a 0 (by omega);rw[show (((0:Nat)):Int)=0 from rfl]at this;rw[this];rfl
 | true=>
  have hl:=zIa Kqa (fun i w=>if w==s then some (((i:Nat):Int),true) else none) (Sum.inl ()) Sum.inr (body:=kba s true)
   (by unfold kba;rfl) (fun i w hw=>by
    have hi:=zOa hw;have h8:Kqa.length=8:=rfl;have hc:vqb (i:Int)=w:=by
     unfold vqb;rw[Int.toNat_natCast,List.getD_eq_getElem?_getD,hw];rfl
    unfold kba;rw[decide_eq_true (by omega),V8a (by omega),hc];simp only[cond_true,Option.bind_some,sc i (by omega)];cases w==s <;> rfl)
  rw[hl];have hf:∀(l:List Str) (n:Nat),zEa (fun i w=>if w==s then some (((i:Nat):Int),true) else none) n l=(zEa (fun i w=>if w==s then some ((i:Nat):Int) else none) n l).map fun x=>(x,true):=by
   intro l;induction l with
   | nil=>intro n;rfl
   | cons y l ih=>
    intro n;unfold zEa;cases hy:y==s with
    | true=>simp
    | false=>simp only[Bool.false_eq_true,if_false];exact ih (n+1)
  rw[hf];unfold Vpa;rw[if_pos rfl];cases zEa (fun i w=>if w==s then some ((i:Nat):Int) else none) 0 Kqa <;> rfl
def WLa:Str:=[115,105,122,101]
def notW:Str:=[110,111,116,105,102,121]
def qfb:Str:=[108,97,115,116]
def wKa(v:Int)(l:List Str):Option zoa:=
 if v=1 then (match l with | [n]=>some ⟨1,n,[],0,0,false⟩ | _=>none)
 else if v=2 then (match l with
  | [a]=>(angP a).map fun x=>⟨2,[],x,0,0,false⟩
  | [a,o]=>(angP a).bind fun x=>(optP o WLa).bind fun s=>(numP s).map fun (m:Nat)=>(⟨2,[],x,(m:Int),0,false⟩:zoa)
  | _=>none)
 else if v=3 then (match l with
  | [a]=>(angP a).map fun x=>⟨3,[],x,0,1,false⟩
  | [a,o]=>(angP a).bind fun x=>(optP o notW).bind fun s=>(Vpa s).map fun m=>⟨3,[],x,0,m,false⟩
  | _=>none)
 else if v=5 then (match l with
  | [n]=>(numP n).map fun (m:Nat)=>(⟨5,[],[],(m:Int),0,false⟩:zoa)
  | [n,x]=>(numP n).bind fun m=>if lowP x=qfb then some ⟨5,[],[],(m:Int),0,true⟩ else none
  | _=>none)
 else (match l with | []=>some ⟨v,[],[],0,0,false⟩ | _=>none)
theorem ap2(a:Str):wKa 2 [a]=(angP a).map fun x=>(⟨2,[],x,0,0,false⟩:zoa):=rfl
theorem ap22(a o:Str):wKa 2 [a,o]=(angP a).bind fun x=>(optP o WLa).bind fun s=>(numP s).map fun (m:Nat)=>(⟨2,[],x,(m:Int),0,false⟩:zoa):=rfl
theorem ap3(a:Str):wKa 3 [a]=(angP a).map fun x=>(⟨3,[],x,0,1,false⟩:zoa):=rfl
theorem ap33(a o:Str):wKa 3 [a,o]=(angP a).bind fun x=>(optP o notW).bind fun s=>(Vpa s).map fun m=>(⟨3,[],x,0,m,false⟩:zoa):=rfl
theorem ap5(n:Str):wKa 5 [n]=(numP n).map fun (m:Nat)=>(⟨5,[],[],(m:Int),0,false⟩:zoa):=rfl
theorem ap55(n x:Str):wKa 5 [n,x]=(numP n).bind fun (m:Nat)=>if lowP x=qfb then some (⟨5,[],[],(m:Int),0,true⟩:zoa) else none:=rfl
theorem len_in(l:List Str)(a b:Int):(((bif decide (a<=(l.length:Int)) then some (decide ((l.length:Int)<=b)) else some false):Option Bool))=some (decide (a<=(l.length:Int)) && decide ((l.length:Int)<=b)):=wvb _ _
theorem Y3a(v:Int)(l:List Str)(hl:∀s∈l,s.length<=1048576)(hv:v≠4->v≠6->v≠7->v≠8->v=1∨v=2∨v=3∨v=5):
 ∃c,yna v l=some (c,(wKa v l).isSome)/\∀y,wKa v l=some y->c=y:=by
 have none3:∀(a b c:Str) (r:List Str) (v:Int),wKa v (a::b::c::r)=none:=by
  intro a b c r v;unfold wKa;repeat' split <;> first | rfl | (rename_i h;cases h) | skip
 unfold yna;simp only[len_in,Option.bind_some];rcases five v with rfl | rfl | rfl | rfl | ⟨h1,h2,h3,h5⟩
 .simp only[show ((1:Int)==1)=true from rfl,cond_true]
  match l,hl with
  | [],_=>exact ⟨_,rfl,fun y h=>by cases h⟩
  | [n],_=>exact ⟨_,rfl,fun y h=>by cases h;rfl⟩
  | a::b::r,_=>
   have e:(decide ((1:Int)<=(((a::b::r).length:Nat):Int)) && decide ((((a::b::r).length:Nat):Int)<=1))=false:=by simp;omega
   rw[e];exact ⟨_,rfl,fun y h=>by cases h⟩
 .simp only[show ((2:Int)==1)=false from rfl,show ((2:Int)==2)=true from rfl,cond_true,cond_false]
  match l,hl with
  | [],_=>exact ⟨_,rfl,fun y h=>by cases h⟩
  | [a],hl=>
   obtain ⟨x,hx,hy⟩:=vma a (hl a (by simp));have e2:idx [a] 0=some a:=rfl;have e4:(((([a]:List Str).length:Nat):Int)==2)=false:=rfl;have e5:(decide ((1:Int)<=(((([a]:List Str).length:Nat):Int))) && decide ((((([a]:List Str).length:Nat):Int))<=2))=true:=rfl;rw[e5,e2,e4];simp only[Option.bind_some,Bool.not_true,cond_false];rw[hx];refine ⟨⟨2,[],x,0,0,false⟩,?_,fun y h=>?_⟩
   .rw[ap2];cases angP a <;> rfl
   rw[ap2]at h;cases ha:angP a with
   | none=>rw[ha]at h;cases h
   | some z=>rw[ha]at h;cases h;rw[hy z ha]
  | [a,o],hl=>
   obtain ⟨x,hx,hy⟩:=vma a (hl a (by simp));obtain ⟨z,hz,hzy,hzl⟩:=Zma o WLa (hl o (by simp)) (by decide);have e2:idx [a,o] 0=some a:=rfl;have e3:cut [a,o] 1 ((([a,o]:List Str).length:Nat):Int)=some [o]:=rfl;have e4:(((([a,o]:List Str).length:Nat):Int)==2)=true:=rfl;have e5:(decide ((1:Int)<=(((([a,o]:List Str).length:Nat):Int))) && decide ((((([a,o]:List Str).length:Nat):Int))<=2))=true:=rfl;have hz' :kUa [o] ([115,105,122,101]:Str)=_:=hz;rw[e5,e2,e4,e3];simp only[Option.bind_some,Bool.not_true,cond_false,cond_true];rw[hx];simp only[Option.bind_some];rw[hz'];simp only[Option.bind_some,w6a];cases hn:numP z with
   | none=>
    refine ⟨⟨2,[],x,0,0,false⟩,?_,fun y h=>?_⟩
    .have:wKa 2 [a,o]=none:=by
      rw[ap22];cases angP a with
      | none=>rfl
      | some q=>
       cases ho:optP o WLa with
       | none=>simp[ho]
       | some w=>
        have:=hzy w ho;subst this;simp[ho,hn]
     rw[this];cases (angP a).isSome <;> rfl
    exfalso;rw[ap22]at h;cases ha:angP a with
    | none=>rw[ha]at h;cases h
    | some q=>
     cases ho:optP o WLa with
     | none=>rw[ha]at h;simp[ho]at h
     | some w=>
      have:=hzy w ho;subst this;rw[ha]at h;simp[ho,hn]at h
   | some m=>
    refine ⟨⟨2,[],x,(m:Int),0,false⟩,?_,fun y h=>?_⟩
    .rw[ap22];cases ha:angP a with
     | none=>rfl
     | some q=>
      cases ho:optP o WLa with
      | none=>simp[ho];rfl
      | some w=>
       have:=hzy w ho;subst this;simp[ho,hn];rfl
    rw[ap22]at h;cases ha:angP a with
    | none=>rw[ha]at h;cases h
    | some q=>
     cases ho:optP o WLa with
     | none=>rw[ha]at h;simp[ho]at h
     | some w=>
      have:=hzy w ho;subst this;rw[ha]at h;simp[ho,hn]at h;rw[<-h,hy q ha]
  | a::b::c::r,_=>
   have e:(decide ((1:Int)<=(((a::b::c::r).length:Nat):Int)) && decide ((((a::b::c::r).length:Nat):Int)<=2))=false:=by simp;omega
   rw[e,none3];exact ⟨_,rfl,fun y h=>by cases h⟩
 .simp only[show ((3:Int)==1)=false from rfl,show ((3:Int)==2)=false from rfl,show ((3:Int)==3)=true from rfl,cond_true,cond_false]
  match l,hl with
  | [],_=>exact ⟨_,rfl,fun y h=>by cases h⟩
  | [a],hl=>
   obtain ⟨x,hx,hy⟩:=vma a (hl a (by simp));have e2:idx [a] 0=some a:=rfl;have e4:(((([a]:List Str).length:Nat):Int)==2)=false:=rfl;have e5:(decide ((1:Int)<=(((([a]:List Str).length:Nat):Int))) && decide ((((([a]:List Str).length:Nat):Int))<=2))=true:=rfl;rw[e5,e2,e4];simp only[Option.bind_some,Bool.not_true,cond_false];rw[hx];refine ⟨⟨3,[],x,0,1,false⟩,?_,fun y h=>?_⟩
   .rw[ap3];cases angP a <;> rfl
   rw[ap3]at h;cases ha:angP a with
   | none=>rw[ha]at h;cases h
   | some z=>rw[ha]at h;cases h;rw[hy z ha]
  | [a,o],hl=>
   obtain ⟨x,hx,hy⟩:=vma a (hl a (by simp));obtain ⟨z,hz,hzy,hzl⟩:=Zma o notW (hl o (by simp)) (by decide);have e2:idx [a,o] 0=some a:=rfl;have e3:cut [a,o] 1 ((([a,o]:List Str).length:Nat):Int)=some [o]:=rfl;have e4:(((([a,o]:List Str).length:Nat):Int)==2)=true:=rfl;have e5:(decide ((1:Int)<=(((([a,o]:List Str).length:Nat):Int))) && decide ((((([a,o]:List Str).length:Nat):Int))<=2))=true:=rfl;have hz' :kUa [o] ([110,111,116,105,102,121]:Str)=_:=hz;rw[e5,e2,e4,e3];simp only[Option.bind_some,Bool.not_true,cond_false,cond_true];rw[hx];simp only[Option.bind_some];rw[hz'];simp only[Option.bind_some,Y2a];cases ho:optP o notW with
   | none=>
    have h0:wKa 3 [a,o]=none:=by
     rw[ap33];cases angP a <;> simp[ho]
    rw[h0];refine ⟨⟨3,[],x,0,0,false⟩,?_,fun y h=>by cases h⟩;cases (angP a).isSome <;> rfl
   | some w=>
    have:=hzy w ho;subst this;simp only[Option.isSome_some,if_true];cases hn:Vpa z with
    | none=>
     have h0:wKa 3 [a,o]=none:=by
      rw[ap33];cases angP a <;> simp[ho,hn]
     rw[h0];refine ⟨⟨3,[],x,0,0,false⟩,?_,fun y h=>by cases h⟩;cases (angP a).isSome <;> rfl
    | some m=>
     refine ⟨⟨3,[],x,0,m,false⟩,?_,fun y h=>?_⟩
     .rw[ap33];cases ha:angP a with
      | none=>rfl
      | some q=>simp[ho,hn];rfl
     rw[ap33]at h;cases ha:angP a with
     | none=>rw[ha]at h;cases h
     | some q=>
      rw[ha]at h;simp[ho,hn]at h;rw[<-h,hy q ha]
  | a::b::c::r,_=>
   have e:(decide ((1:Int)<=(((a::b::c::r).length:Nat):Int)) && decide ((((a::b::c::r).length:Nat):Int)<=2))=false:=by simp;omega
   rw[e,none3];exact ⟨_,rfl,fun y h=>by cases h⟩
 .simp only[show ((5:Int)==1)=false from rfl,show ((5:Int)==2)=false from rfl,show ((5:Int)==3)=false from rfl,show ((5:Int)==5)=true from rfl,cond_true,cond_false]
  match l,hl with
  | [],_=>exact ⟨_,rfl,fun y h=>by cases h⟩
  | [a],hl=>
   have e2:idx [a] 0=some a:=rfl;have e4:(((([a]:List Str).length:Nat):Int)==2)=false:=rfl;have e5:(decide ((1:Int)<=(((([a]:List Str).length:Nat):Int))) && decide ((((([a]:List Str).length:Nat):Int))<=2))=true:=rfl;rw[e5,e2,e4];simp only[Option.bind_some,Bool.not_true,Bool.not_false,cond_false,cond_true,w6a];cases hn:numP a with
   | none=>
    have h0:wKa 5 [a]=none:=by
     rw[ap5];simp[hn]
    rw[h0];exact ⟨⟨5,[],[],0,0,false⟩,rfl,fun y h=>by cases h⟩
   | some m=>
    have h0:wKa 5 [a]=some ⟨5,[],[],(m:Int),0,false⟩:=by
     rw[ap5];simp[hn]
    rw[h0];exact ⟨⟨5,[],[],(m:Int),0,false⟩,rfl,fun y h=>by cases h;rfl⟩
  | [a,x],hl=>
   have e2:idx [a,x] 0=some a:=rfl;have e3:idx [a,x] 1=some x:=rfl;have e4:(((([a,x]:List Str).length:Nat):Int)==2)=true:=rfl;have e5:(decide ((1:Int)<=(((([a,x]:List Str).length:Nat):Int))) && decide ((((([a,x]:List Str).length:Nat):Int))<=2))=true:=rfl;rw[e5,e2,e4,e3];simp only[Option.bind_some,Bool.not_true,cond_false,cond_true,w6a,jQa x (hl x (by simp))];have hw:(lowP x==([108,97,115,116]:Str))=decide (lowP x=qfb):=by rw[Bool.eq_iff_iff,beq_iff_eq,decide_eq_true_eq];exact Iff.rfl
   rw[hw];cases hn:numP a with
   | none=>
    have h0:wKa 5 [a,x]=none:=by
     rw[ap55];simp[hn]
    rw[h0];exact ⟨⟨5,[],[],0,0,true⟩,rfl,fun y h=>by cases h⟩
   | some m=>
    by_cases hx:lowP x=qfb
    .have h0:wKa 5 [a,x]=some ⟨5,[],[],(m:Int),0,true⟩:=by
      rw[ap55];simp[hn,hx]
     rw[h0,decide_eq_true hx];exact ⟨⟨5,[],[],(m:Int),0,true⟩,rfl,fun y h=>by cases h;rfl⟩
    have h0:wKa 5 [a,x]=none:=by
     rw[ap55];simp[hn,hx]
    rw[h0,decide_eq_false hx];exact ⟨⟨5,[],[],(m:Int),0,true⟩,rfl,fun y h=>by cases h⟩
  | a::b::c::r,_=>
   have e:(decide ((1:Int)<=(((a::b::c::r).length:Nat):Int)) && decide ((((a::b::c::r).length:Nat):Int)<=2))=false:=by simp;omega
   rw[e,none3];exact ⟨_,rfl,fun y h=>by cases h⟩
 rw[h1,h2,h3,h5];simp only[cond_false];have n1:v≠1:=by simpa using h1
 have n2:v≠2:=by simpa using h2
 have n3:v≠3:=by simpa using h3
 have n5:v≠5:=by simpa using h5
 have hr:vXa 0 0 l=some l.isEmpty:=by
  unfold vXa;rw[len_in];cases l with
  | nil=>rfl
  | cons a r=>
   simp only[Option.bind_some];have:(decide ((0:Int)<=(((a::r).length:Nat):Int)) && decide ((((a::r).length:Nat):Int)<=0))=false:=by simp
   rw[this];rfl
 rw[hr];unfold wKa;rw[if_neg n1,if_neg n2,if_neg n3,if_neg n5];cases l with
 | nil=>exact ⟨_,rfl,fun y h=>by cases h;rfl⟩
 | cons a r=>exact ⟨_,rfl,fun y h=>by cases h⟩
def vrb(y:Str):Int:=Voa.zipIdx.foldl (fun (s:Int) p=>if y==p.1 then ((p.2+1:Nat):Int) else s) 0
def vsb:List Str->Int
 | []=>0
 | x::_=>vrb (lowP x)
theorem Y4a(y:Str):(vrb y=0/\y ∉ Voa)∨∃v:Int,1<=v/\v<=8/\vrb y=v/\y=klb v:=by
 by_cases h:y∈Voa
 .right;have:∀z∈Voa,∃v:Fin 8,vrb z=(v.val:Int)+1/\z=klb ((v.val:Int)+1):=by decide
  obtain ⟨v,h1,h2⟩:=this y h;exact ⟨(v.val:Int)+1,by omega,by omega,h1,h2⟩
 left;refine ⟨?_,h⟩;simp only[Voa,List.mem_cons,List.not_mem_nil,or_false,not_or]at h;obtain ⟨a1,a2,a3,a4,a5,a6,a7,a8⟩:=h;simp[vrb,Voa,List.zipIdx,a1,a2,a3,a4,a5,a6,a7,a8]
theorem Vqa(w:List Str)(hw:∀s∈w,s.length<=1048576):iter (qba w (([104,101,108,108,111]:Str),([109,97,105,108]:Str),([114,99,112,116]:Str),([100,97,116,97]:Str),([99,104,117,110,107]:Str),([114,101,115,101,116]:Str),([110,111,111,112]:Str),([113,117,105,116]:Str))) (0,0)=some (vsb w):=by
 obtain ⟨t,h1,h2,h3⟩:=KWa Voa (fun i (s:Int)=>(s,i)) (fun i s x=>match w with | []=>s | y::_=>if lowP y==x then ((i+1:Nat):Int) else s) id (fun _ _=>True) (body:=qba w (([104,101,108,108,111]:Str),([109,97,105,108]:Str),([114,99,112,116]:Str),([100,97,116,97]:Str),([99,104,117,110,107]:Str),([114,101,115,101,116]:Str),([110,111,111,112]:Str),([113,117,105,116]:Str)))
  (fun s _=>by unfold qba;rfl) (fun i x s hx _=>by
   have hi:=zOa hx;have h8:Voa.length=8:=rfl;refine ⟨?_,trivial⟩;unfold qba;dsimp only;rw[decide_eq_true (by omega),show ([([104,101,108,108,111]:Str),([109,97,105,108]:Str),([114,99,112,116]:Str),([100,97,116,97]:Str),([99,104,117,110,107]:Str),([114,101,115,101,116]:Str),([110,111,111,112]:Str),([113,117,105,116]:Str)]:List Str)=Voa from rfl,zHa hx];simp only[cond_true,Option.bind_some,sc i (by omega)];cases w with
   | nil=>rfl
   | cons y r=>
    have e1:decide ((0:Int) < (((y::r).length:Nat):Int))=true:=by simp
    have e2:idx (y::r) 0=some y:=rfl;rw[e1,e2];simp only[cond_true,Option.bind_some,jQa y (hw y (by simp))];cases lowP y==x <;> rfl) 0 trivial
 rw[h1,h3];cases w with
 | nil=>rfl
 | cons y r=>rfl
def noC:zoa:=⟨0,[],[],0,0,false⟩
def finP(c:zoa):zoa × zta:=bif (cmdF c).Code !=0 then (noC,cmdF c) else (c,⟨0,0⟩)
def Qsa(s:Str):zoa × zta:=
 if 4000 < s.length then (noC,⟨1, -1⟩) else if vsb (yua s)=0 then (noC,⟨18, -2⟩) else match wKa (vsb (yua s)) ((yua s).drop 1) with
  | none=>(noC,⟨11, -3⟩)
  | some c=>finP c
theorem zhb{s x:Str}(h:x∈yua s):x.length<=s.length:=ynb (List.mem_filter.1 h).1
theorem jJa{a y:Str}(h:angP a=some y):y.length<=a.length:=by
 unfold angP at h;split at h
 .split at h
  .cases h;simp;omega
  cases h
 cases h
theorem vtb{v:Int}{l:List Str}{c:zoa}(hl:∀s∈l,s.length<=1048576)(h:wKa v l=some c):kjb c:=by
 unfold wKa at h;have z:([]:Str).length<=1048576:=by decide
 split at h
 .split at h
  .cases h;exact ⟨hl _ (by simp),z⟩
  cases h
 split at h
 .split at h
  .rename_i a;cases ha:angP a with
   | none=>rw[ha]at h;cases h
   | some q=>rw[ha]at h;cases h;exact ⟨z,Nat.le_trans (jJa ha) (hl _ (by simp))⟩
  .rename_i a o;cases ha:angP a with
   | none=>rw[ha]at h;cases h
   | some q=>
    rw[ha]at h;cases ho:optP o WLa with
    | none=>simp[ho]at h
    | some w=>
     cases hn:numP w with
     | none=>simp[ho,hn]at h
     | some m=>simp[ho,hn]at h;subst h;exact ⟨z,Nat.le_trans (jJa ha) (hl _ (by simp))⟩
  cases h
 split at h
 .split at h
  .rename_i a;cases ha:angP a with
   | none=>rw[ha]at h;cases h
   | some q=>rw[ha]at h;cases h;exact ⟨z,Nat.le_trans (jJa ha) (hl _ (by simp))⟩
  .rename_i a o;cases ha:angP a with
   | none=>rw[ha]at h;cases h
   | some q=>
    rw[ha]at h;cases ho:optP o notW with
    | none=>simp[ho]at h
    | some w=>
     cases hn:Vpa w with
     | none=>simp[ho,hn]at h
     | some m=>simp[ho,hn]at h;subst h;exact ⟨z,Nat.le_trans (jJa ha) (hl _ (by simp))⟩
  cases h
 split at h
 .split at h
  .rename_i n;cases hn:numP n with
   | none=>simp[hn]at h
   | some m=>simp[hn]at h;subst h;exact ⟨z,z⟩
  .rename_i n x;cases hn:numP n with
   | none=>simp[hn]at h
   | some m=>simp[hn]at h;obtain ⟨_,rfl⟩:=h;exact ⟨z,z⟩
  cases h
 split at h
 .cases h;exact ⟨z,z⟩
 cases h
theorem WMa(s:Str)(hs:s.length<=1048576):wCa s=some (Qsa s):=by
 unfold wCa Qsa;by_cases h4:4000 < s.length
 .rw[decide_eq_true (by omega),if_pos h4];rfl
 rw[decide_eq_false (by omega),if_neg h4];have hw:∀x∈yua s,x.length<=1048576:=fun x hx=>by have:=zhb hx;omega
 have hf:kHa s=some (yua s):=by
  unfold kHa;rw[if_pos (by omega),vpb]
 rw[hf,WJa];simp only[cond_false,Option.bind_some,kna,qga,kea];rw[Vqa _ hw];simp only[Option.bind_some];generalize yua s=w at hw ⊢;cases w with
 | nil=>rfl
 | cons y r=>
  have e:vsb (y::r)=vrb (lowP y):=rfl;rw[e];rcases Y4a (lowP y) with ⟨h0,_⟩ | ⟨v,h1,h8,hv,_⟩
  .rw[h0];rfl
  rw[hv];have e0:(v==0)=false:=by rw[beq_eq_false_iff_ne];omega
  rw[e0,if_neg (by omega)];have ec:cut (y::r) 1 (((y::r).length:Nat):Int)=some r:=by
   have:=jna (l:=y::r) (a:=1) (by simp);exact this
  rw[ec];simp only[cond_false,Option.bind_some,List.drop_succ_cons,List.drop_zero];have hr:∀x∈r,x.length<=1048576:=fun x hx=>hw x (by simp[hx])
  obtain ⟨c,h2,h3⟩:=Y3a v r hr (by omega);rw[h2];simp only[Option.bind_some];cases ha:wKa v r with
  | none=>rfl
  | some z=>
   have:=h3 z ha;subst this;have hsm:=vtb hr ha;simp only[Option.isSome_some,Bool.not_true,cond_false,QMa c hsm,Option.bind_some];unfold finP;cases hq:(cmdF c).Code !=0 with
   | true=>rfl
   | false=>rfl
theorem ypb(s:Str)(hs:s.length<=1048576):∀(r p word:Str) (out:List Str),s=p++r->word.length<=p.length->out.length<=p.length->iter (q9a s) (word,(p.length:Int),out)=some (out++wrd word r):=by
 intro r;induction r with
 | nil=>
  intro p word out hp hw ho;rw[List.append_nil]at hp;subst hp;have hb:q9a s (word,(s.length:Int),out)=some (.cont ([],((s.length+1:Nat):Int),out++nonE [word])):=by
   unfold q9a;dsimp only;rw[decide_eq_true (by omega),zMa];simp only[cond_true,cond_false,Option.bind_some];rw[sc s.length (by omega)];by_cases he:word=[]
   .subst he;simp[nonE]
   have h1:(word !=([]:Str))=true:=by simpa using he
   have h2:nonE [word]=[word]:=by
    cases word with
    | nil=>exact absurd rfl he
    | cons b t=>rfl
   rw[h1,h2,kha (by simp;omega)];rfl
  rw[zNa hb,jZb];refine zGa ?_;unfold q9a;dsimp only;rw[decide_eq_false (by omega)];rfl
 | cons b r ih=>
  intro p word out hp hw ho;have hlen:s.length=p.length+(r.length+1):=by rw[hp];simp
  have hget:idx s (p.length:Int)=some b:=by rw[hp];exact vcb p b r
  by_cases hb:b=32
  .subst hb;have w5a:q9a s (word,(p.length:Int),out)=some (.cont ([],((p.length+1:Nat):Int),out++nonE [word])):=by
    unfold q9a;dsimp only;rw[decide_eq_true (by omega),decide_eq_true (by omega:(p.length:Int) < (s.length:Int)),hget];have e32:(((32:UInt8).toNat:Int) !=32)=false:=rfl;simp only[cond_true,Option.bind_some,e32,cond_false];rw[sc p.length (by omega)];by_cases he:word=[]
    .subst he;simp[nonE]
    have h1:(word !=([]:Str))=true:=by simpa using he
    have h2:nonE [word]=[word]:=by
     cases word with
     | nil=>exact absurd rfl he
     | cons b t=>rfl
    rw[h1,h2,kha (by simp;omega)];rfl
   rw[zNa w5a,wrd_sp,<-List.append_assoc];have h3:=ih (p++ [32]) [] (out++nonE [word]) (by rw[hp];simp) (by simp) (by
    have:(nonE [word]).length<=1:=by unfold nonE;exact List.length_filter_le _ _
    simp;omega)
   simp only[List.length_append,List.length_cons,List.length_nil]at h3;rw[show 0+1=1 from rfl]at h3;exact h3
  have w5a:q9a s (word,(p.length:Int),out)=some (.cont (word++ [b],((p.length+1:Nat):Int),out)):=by
   unfold q9a;dsimp only;have e32:((b.toNat:Int) !=32)=true:=by
    have:=K6a b 32 (by decide);rw[show ((b.toNat:Int) !=32)=(b !=32) from this];simpa using hb
   rw[decide_eq_true (by omega),decide_eq_true (by omega:(p.length:Int) < (s.length:Int)),hget];simp only[cond_true,Option.bind_some,e32];rw[sc p.length (by omega),kUb (by omega) (by omega)];have e:(s.drop p.length).take (p.length+1 - p.length)=[b]:=by rw[hp,show p.length+1 - p.length=1 by omega];simp
   rw[e];simp only[Option.bind_some];rw[Zha (by simp;omega)];rfl
  rw[zNa w5a];have h3:=ih (p++ [b]) (word++ [b]) out (by rw[hp];simp) (by simp;omega) (by simp;omega);simp only[List.length_append,List.length_cons,List.length_nil]at h3;rw[show 0+1=1 from rfl]at h3;rw[h3];have:=YZa (k:=[b]) word r (by simpa using fun h=>hb h.symm);rw[<-this];rfl
theorem yqb(s:Str)(hs:s.length<=1048576):Yza s=some (yua s):=by
 have:=ypb s hs s [] [] [] rfl (by simp) (by simp);unfold Yza;rw[show (([]:Str),(0:Int),([]:List Str))=(([]:Str),((([]:Str).length:Nat):Int),([]:List Str)) from rfl,this,jYb];rfl
theorem zib(o n:Str)(ho:o.length<=1048576)(hn:n.length<=100):Kfa o (n++ [61])=some (match optP o n with | some y=>(y,true) | none=>([],false)):=by
 have hll:(lowP o).length=o.length:=by unfold lowP;simp
 unfold Kfa;rw[V6a o ho];simp only[Option.bind_some];have hpre:((n++ [61]).isPrefixOf (lowP o))=decide ((lowP o).take (n++ [61]).length=n++ [61]):=by
  rw[Bool.eq_iff_iff,List.isPrefixOf_iff_prefix,List.prefix_iff_eq_take,decide_eq_true_eq];exact eq_comm
 unfold optP;rw[hpre];by_cases hlt:(lowP o).length < (n++ [61]).length
 .rw[decide_eq_true (by omega)];have:¬(lowP o).take (n++ [61]).length=n++ [61]:=by
   intro h;have:=congrArg List.length h;rw[List.length_take]at this;omega
  rw[decide_eq_false this];rfl
 rw[decide_eq_false (by omega)];simp only[cond_false];rw[Zga (by omega)];simp only[Option.bind_some];by_cases h:(lowP o).take (n++ [61]).length=n++ [61]
 .have e:((lowP o).take (n++ [61]).length !=n++ [61])=false:=by rw[h];simp
  rw[e,decide_eq_true h];simp only[cond_false];rw[jna (by omega)];simp
 have e:((lowP o).take (n++ [61]).length !=n++ [61])=true:=by simpa using h
 rw[e,decide_eq_false h];rfl
theorem j7b(w:List Str)(hw:∀s∈w,s.length<=1048576):iter (qka w) (1,0)=some (vsb w):=by
 cases w with
 | nil=>exact zGa (by unfold qka;rfl)
 | cons y r=>
  obtain ⟨t,h1,h2,h3⟩:=KWa Voa (fun i (s:Int)=>(i+1,s)) (fun i s x=>if lowP y==x then ((i+1:Nat):Int) else s) id (fun _ _=>True) (body:=qka (y::r))
   (fun s _=>by unfold qka;rfl) (fun i x s hx _=>by
    have hi:=zOa hx;have h8:Voa.length=8:=rfl;refine ⟨?_,trivial⟩;unfold qka;dsimp only;have e1:decide ((0:Int) < (((y::r).length:Nat):Int))=true:=by simp
    have e2:idx (y::r) 0=some y:=rfl;have e3:klb ((i:Int)+1)=x:=by
     unfold klb;rw[show ((i:Int)+1 - 1).toNat=i by omega,List.getD_eq_getElem?_getD,hx];rfl
    rw[decide_eq_true (by omega),e1,e2,j6b (by omega),e3];simp only[cond_true,Option.bind_some,V6a y (hw y (by simp))];rw[q0a (by omega) (by omega)];cases lowP y==x with
    | true=>simp
    | false=>simp) 0 trivial
  rw[show ((1:Int),(0:Int))=((0:Int)+1,0) from rfl];rw[h1,h3];rfl
theorem qgb(s:Str)(b:Bool)(n0:Int):iter (qla (s,b)) (false,0,n0)=some (match (if b then Vpa s else none) with | some n=>(true,n) | none=>(false,n0)):=by
 cases b with
 | false=>
  refine zGa ?_;unfold qla;rfl
 | true=>
  obtain ⟨t,h1,h2,h3⟩:=KWa Kqa (fun i (q:Bool × Int)=>(q.1,i,q.2)) (fun i q x=>if x==s then (true,(i:Int)) else q) id (fun _ _=>True) (body:=qla (s,true))
   (fun q _=>by unfold qla;rfl) (fun i x q hx _=>by
    have hi:=zOa hx;have h8:Kqa.length=8:=rfl;refine ⟨?_,trivial⟩;have hc:vqb (i:Int)=x:=by
     unfold vqb;rw[Int.toNat_natCast,List.getD_eq_getElem?_getD,hx];rfl
    unfold qla;dsimp only;rw[decide_eq_true (by omega),Y1a (by omega),hc];simp only[cond_true,Option.bind_some,sc i (by omega)];cases x==s <;> rfl) (false,n0) trivial
  rw[h1,h3,if_pos rfl];have key:Kqa.zipIdx.foldl (fun (q:Bool × Int) p=>if p.1==s then (true,((p.2:Nat):Int)) else q) (false,n0)=(match Vpa s with | some n=>(true,n) | none=>(false,n0)):=by
   by_cases h:s∈Kqa
   .have:∀z∈Kqa,∃k:Fin 8,Vpa z=some (k.val:Int)/\∀n:Int,Kqa.zipIdx.foldl (fun (q:Bool × Int) p=>if p.1==z then (true,((p.2:Nat):Int)) else q) (false,n)=(true,(k.val:Int)):=by
     intro z hz;simp only[Kqa,List.mem_cons,List.not_mem_nil,or_false]at hz;rcases hz with rfl | rfl | rfl | rfl | rfl | rfl | rfl | rfl
     .exact ⟨0,rfl,fun n=>rfl⟩
     .exact ⟨1,rfl,fun n=>rfl⟩
     .exact ⟨2,rfl,fun n=>rfl⟩
     .exact ⟨3,rfl,fun n=>rfl⟩
     .exact ⟨4,rfl,fun n=>rfl⟩
     .exact ⟨5,rfl,fun n=>rfl⟩
     .exact ⟨6,rfl,fun n=>rfl⟩
     exact ⟨7,rfl,fun n=>rfl⟩
    obtain ⟨k,h4,h5⟩:=this s h;rw[h4,h5 n0]
   have h6:Vpa s=none:=by
    unfold Vpa;rw[qXa];intro i x hx;have hne:(x==s)=false:=by
     rw[beq_eq_false_iff_ne];rintro rfl;exact h (List.mem_of_getElem? hx)
    simp[hne]
   rw[h6];simp only[Kqa,List.mem_cons,List.not_mem_nil,or_false,not_or]at h;obtain ⟨a1,a2,a3,a4,a5,a6,a7,a8⟩:=h;simp[Kqa,List.zipIdx,Ne.symm a1,Ne.symm a2,Ne.symm a3,Ne.symm a4,Ne.symm a5,Ne.symm a6,Ne.symm a7,Ne.symm a8]
  rw[key];rfl
theorem j8b(v:Int)(n a:Str)(z o:Int)(b:Bool)(h:kjb ⟨v,n,a,z,o,b⟩):kVa v (n,a,0) (z,o,b)=some (finP ⟨v,n,a,z,o,b⟩):=by
 unfold kVa finP;rw[V7a _ h];simp only[Option.bind_some];cases hc:(cmdF ⟨v,n,a,z,o,b⟩).Code !=0 with
 | true=>rfl
 | false=>
  have:=(j2b (c:=⟨v,n,a,z,o,b⟩) (by simpa using hc)).2;rw[this];rfl
theorem qhb(v:Int)(n a:Str)(q z o:Int)(b:Bool):kVa v (n,a,q) (z,o,b)=kVa v (n,a,0) (z,o,b):=rfl
theorem W5a(a:Str):(((bif decide ((a.length:Int) < 2) then some true else (idx a 0).bind fun v84=>(bif ((v84.toNat:Int) !=60) then some true else (idx a ((w64 ((a.length:Int) - 1)))).bind fun v89=>some (((v89.toNat:Int) !=62)))):Option Bool))=some (!(angP a).isSome)∨4611686018427387904<=a.length:=by
 by_cases hbig:4611686018427387904<=a.length
 .exact .inr hbig
 left
 match a with
 | []=>rfl
 | [b]=>
  have:angP [b]=none:=by unfold angP;simp
  rw[this];rfl
 | b::c::r=>
  have e1:decide ((((b::c::r).length:Nat):Int) < 2)=false:=by simp;omega
  have e2:idx (b::c::r) 0=some b:=rfl;have e3:idx (b::c::r) (w64 ((((b::c::r).length:Nat):Int) - 1))=(c::r).getLast? :=by
   have hl:(b::c::r).length=r.length+2:=rfl;rw[q0a (by omega) (by omega),show (((b::c::r).length:Nat):Int) - 1=((r.length+1:Nat):Int) by omega,w3a];rw[List.getLast?_eq_getElem?];simp
  rw[e1,e2,e3];obtain ⟨w,e4⟩:∃w,(c::r).getLast? =some w:=⟨_,List.getLast?_eq_some_getLast (by simp)⟩;rw[e4];simp only[cond_false,Option.bind_some];have e5:=K6a b 60 (by decide);have e6:=K6a w 62 (by decide);rw[show ((b.toNat:Int) !=60)=(b !=60) from e5,show ((w.toNat:Int) !=62)=(w !=62) from e6];have hap:angP (b::c::r)=if b=60/\(c::r).getLast? =some 62 then some (c::r).dropLast else none:=rfl;rw[hap,e4];by_cases h1:b=60
  .subst h1;by_cases h2:w=62
   .simp[h2]
   have h3:(w !=62)=true:=by simpa using h2
   rw[h3];simp[h2]
  have h3:(b !=60)=true:=by simpa using h1
  rw[h3];simp[h1]
theorem W6a{a y:Str}(h:angP a=some y)(hl:a.length<=1048576):cut a 1 (w64 ((a.length:Int) - 1))=some y:=by
 unfold angP at h;split at h
 .rename_i b r;split at h
  .rename_i hb;cases h;have hr:r≠ []:=by
    intro e;subst e;simp at hb
   have hp:=List.length_pos_iff.2 hr;have hl2:(b::r).length=r.length+1:=rfl;rw[q0a (by omega) (by omega),show (((b::r).length:Nat):Int) - 1=((r.length:Nat):Int) by omega];have:=kUb (l:=b::r) (a:=1) (b:=r.length) (by omega) (by simp);rw[show ((1:Nat):Int)=1 from rfl]at this;rw[this];simp[List.dropLast_eq_take]
  cases h
 cases h
def badC:zoa × zta:=(noC,⟨11, -3⟩)
theorem j9b(v:Int)(a b:Str)(n ad:Str)(z:Int)(hn:n.length<=1048576)(had:ad.length<=1048576)(hb:b.length<=1048576):
 kda v ⟨11, -3⟩ [a,b] (n,ad,z)=some (
  if v=2 then (match (optP b WLa).bind numP with | some m=>finP ⟨2,n,ad,(m:Int),0,false⟩ | none=>badC)
  else if v=3 then (match (optP b notW).bind Vpa with | some m=>finP ⟨3,n,ad,z,m,false⟩ | none=>badC)
  else if v=5 then (if lowP b=qfb then finP ⟨5,n,ad,z,0,true⟩ else badC) else badC):=by
 have e4:(((([a,b]:List Str).length:Nat):Int)==2)=true:=rfl;have e3:idx [a,b] 1=some b:=rfl;unfold kda;rw[e4,e3];simp only[Option.bind_some,cond_true];rcases five v with rfl | rfl | rfl | rfl | ⟨h1,h2,h3,h5⟩
 .rw[if_neg (by omega),if_neg (by omega),if_neg (by omega)];rfl
 .rw[if_pos rfl];have ha:=zib b WLa hb (by decide);have ha' :Kfa b ([115,105,122,101,61]:Str)=_:=ha;simp only[show ((2:Int)==3)=false from rfl,show ((2:Int)==2)=true from rfl,cond_true,cond_false,Option.bind_some];rw[ha'];simp only[Option.bind_some];cases ho:optP b WLa with
  | none=>
   simp only[Option.bind_none];rw[ZJa [] (by decide)];rfl
  | some w=>
   have hwl:w.length<=1048576:=by
    unfold optP at ho;split at ho
    .cases ho;have:(lowP b).length=b.length:=by unfold lowP;simp
     simp;omega
    cases ho
   simp only[Option.bind_some];rw[ZJa w hwl];cases hm:numP w with
   | none=>rfl
   | some m=>
    simp only[Option.bind_some,cond_true];rw[decide_eq_true (by omega)];simp only[Bool.not_true,cond_false];rw[qhb,j8b _ _ _ _ _ _ ⟨hn,had⟩]
 .rw[if_neg (by omega),if_pos rfl];have ha:=zib b notW hb (by decide);have ha' :Kfa b ([110,111,116,105,102,121,61]:Str)=_:=ha;simp only[show ((3:Int)==3)=true from rfl,show ((3:Int)==2)=false from rfl,cond_true,cond_false,Option.bind_some];rw[ha'];simp only[Option.bind_some];cases ho:optP b notW with
  | none=>
   simp only[Option.bind_none];rw[qgb];rfl
  | some w=>
   simp only[Option.bind_some];rw[qgb,if_pos rfl];cases hm:Vpa w with
   | none=>rfl
   | some m=>
    simp only[Option.bind_some,Bool.not_true,cond_false];rw[qhb,j8b _ _ _ _ _ _ ⟨hn,had⟩]
 .rw[if_neg (by omega),if_neg (by omega),if_pos rfl];simp only[show ((5:Int)==3)=false from rfl,show ((5:Int)==2)=false from rfl,show ((5:Int)==5)=true from rfl,cond_true,cond_false,Option.bind_some,V6a b hb];have hw:(lowP b==([108,97,115,116]:Str))=decide (lowP b=qfb):=by rw[Bool.eq_iff_iff,beq_iff_eq,decide_eq_true_eq];exact Iff.rfl
  rw[hw];by_cases hl:lowP b=qfb
  .rw[decide_eq_true hl,if_pos hl];simp only[Bool.not_true,cond_false];rw[qhb,j8b _ _ _ _ _ _ ⟨hn,had⟩]
  rw[decide_eq_false hl,if_neg hl];rfl
 rw[if_neg (by simpa using h2),if_neg (by simpa using h3),if_neg (by simpa using h5),h2,h3,h5];rfl
theorem Vra(v:Int)(f:zta)(l:List Str)(n ad:Str)(z:Int)(hl:l.length<=1)(hn:n.length<=1048576)(had:ad.length<=1048576):
 kda v f l (n,ad,z)=some (finP ⟨v,n,ad,z,if v=3 then 1 else 0,false⟩):=by
 have e4:(((l.length:Nat):Int)==2)=false:=by rw[beq_eq_false_iff_ne];omega
 unfold kda;rw[e4];by_cases h3:v=3
 .subst h3;simp only[show ((3:Int)==3)=true from rfl,cond_true,cond_false,Option.bind_some,if_true];rw[qhb,j8b _ _ _ _ _ _ ⟨hn,had⟩]
 have:(v==3)=false:=by simpa using h3
 simp only[this,cond_false,Option.bind_some,if_neg h3];rw[qhb,j8b _ _ _ _ _ _ ⟨hn,had⟩]
theorem JEa(s:Str)(hs:s.length<=1048576):jia s=some (Qsa s):=by
 unfold jia Qsa;by_cases h4:4000 < s.length
 .rw[decide_eq_true (by omega),if_pos h4];rfl
 rw[decide_eq_false (by omega),if_neg h4];have hw:∀x∈yua s,x.length<=1048576:=fun x hx=>by have:=zhb hx;omega
 rw[yqb s hs];simp only[cond_false,Option.bind_some,jOa];rw[j7b _ hw];simp only[Option.bind_some];have hwl:(yua s).length<=1048577:=by
  have h1:=qeb 32 s;have h2:(yua s).length<=(v5a 32 s).length:=List.length_filter_le _ _;omega
 generalize yua s=w at hw hwl ⊢;cases w with
 | nil=>rfl
 | cons y r=>
  have e:vsb (y::r)=vrb (lowP y):=rfl;rw[e];rcases Y4a (lowP y) with ⟨h0,_⟩ | ⟨v,h1,h8,hv,_⟩
  .rw[h0];rfl
  rw[hv];have e0:(v==0)=false:=by rw[beq_eq_false_iff_ne];omega
  rw[e0,if_neg (by omega)];have ec:cut (y::r) 1 (((y::r).length:Nat):Int)=some r:=by
   have:=jna (l:=y::r) (a:=1) (by simp);exact this
  rw[ec];simp only[cond_false,Option.bind_some,List.drop_succ_cons,List.drop_zero];have hr:∀x∈r,x.length<=1048576:=fun x hx=>hw x (by simp[hx])
  have hrl:r.length<=1048576:=by simp at hwl;omega
  have z:([]:Str).length<=1048576:=by decide
  have low:∀(a b:Int),R_In (r.length:Int) a b=some (decide (a<=(r.length:Int)) && decide ((r.length:Int)<=b)):=fun a b=>vfa _ _ _
  have many3:∀(a b c:Str) (t:List Str) (v:Int),wKa v (a::b::c::t)=none:=by
   intro a b c t v;unfold wKa;repeat' split <;> first | rfl | (rename_i h;cases h) | skip
  have lastCase:∀(t:List Str) (v:Int),(v=4∨v=6∨v=7∨v=8)->wKa v t=(if t.isEmpty then some ⟨v,[],[],0,0,false⟩ else none):=by
   intro t v hv;unfold wKa;rw[if_neg (by omega),if_neg (by omega),if_neg (by omega),if_neg (by omega)];cases t <;> rfl
  have quiet:∀v:Int,(v=4∨v=6∨v=7∨v=8)->∀(X:Option (zoa × zta)),(r=[]->X=kda v ⟨11, -3⟩ r ([],[],0))->
   (bif !(decide ((0:Int)<=(r.length:Int)) && decide ((r.length:Int)<=0)) then some (noC,(⟨11, -3⟩:zta)) else X)=some (match wKa v r with | none=>(noC,⟨11, -3⟩) | some c=>finP c):=by
   intro v hv X hX;rw[lastCase r v hv];cases r with
   | nil=>
    rw[hX rfl,Vra v _ [] [] [] 0 (by simp) z z,if_neg (by omega)];rfl
   | cons a t=>
    have e1:(decide ((0:Int)<=(((a::t).length:Nat):Int)) && decide ((((a::t).length:Nat):Int)<=0))=false:=by simp
    rw[e1];rfl
  have bad:(⟨11, -3⟩:zta)=⟨11, -3⟩:=rfl;have hv8:v=1∨v=2∨v=3∨v=4∨v=5∨v=6∨v=7∨v=8:=by omega
  rcases hv8 with rfl | rfl | rfl | rfl | rfl | rfl | rfl | rfl
  .rw[show idx ([1,1,1,0,1,0,0,0]:List Int) (w64 (1 - 1))=some 1 from by decide,show idx ([1,2,2,0,2,0,0,0]:List Int) (w64 (1 - 1))=some 1 from by decide];simp only[Option.bind_some,low]
   match r,hr with
   | [],_=>rfl
   | [n],hr=>
    have e2:idx [n] 0=some n:=rfl;have e5:(decide ((1:Int)<=(((([n]:List Str).length:Nat):Int))) && decide ((((([n]:List Str).length:Nat):Int))<=1))=true:=rfl;rw[e5,e2];simp only[Bool.not_true,cond_false,show ((1:Int)==1)=true from rfl,cond_true,Option.bind_some];rw[Vra 1 _ [n] n [] 0 (by simp) (hr n (by simp)) z];rfl
   | a::b::t,_=>
    have e1:(decide ((1:Int)<=(((a::b::t).length:Nat):Int)) && decide ((((a::b::t).length:Nat):Int)<=1))=false:=by simp;omega
    rw[e1];rfl
  .rw[show idx ([1,1,1,0,1,0,0,0]:List Int) (w64 (2 - 1))=some 1 from by decide,show idx ([1,2,2,0,2,0,0,0]:List Int) (w64 (2 - 1))=some 2 from by decide];simp only[Option.bind_some,low]
   match r,hr with
   | [],_=>rfl
   | [a],hr=>
    have e2:idx [a] 0=some a:=rfl;have e5:(decide ((1:Int)<=(((([a]:List Str).length:Nat):Int))) && decide ((((([a]:List Str).length:Nat):Int))<=2))=true:=rfl;have hal:=hr a (by simp);rw[e5,e2,ap2];simp only[Bool.not_true,cond_false,show ((2:Int)==1)=false from rfl,show ((2:Int)==2)=true from rfl,cond_true,Option.bind_some];rcases W5a a with ha | ha
    .rw[ha];cases hp:angP a with
     | none=>rfl
     | some q=>
      simp only[Option.isSome_some,Bool.not_true,cond_false,Option.bind_some,W6a hp hal];rw[Vra 2 _ [a] [] q 0 (by simp) z (Nat.le_trans (jJa hp) hal)];rfl
    omega
   | [a,o],hr=>
    have e2:idx [a,o] 0=some a:=rfl;have e5:(decide ((1:Int)<=(((([a,o]:List Str).length:Nat):Int))) && decide ((((([a,o]:List Str).length:Nat):Int))<=2))=true:=rfl;have hal:=hr a (by simp);rw[e5,e2,ap22];simp only[Bool.not_true,cond_false,show ((2:Int)==1)=false from rfl,show ((2:Int)==2)=true from rfl,cond_true,Option.bind_some];rcases W5a a with ha | ha
    .rw[ha];cases hp:angP a with
     | none=>rfl
     | some q=>
      simp only[Option.isSome_some,Bool.not_true,cond_false,Option.bind_some,W6a hp hal];rw[j9b 2 a o [] q 0 z (Nat.le_trans (jJa hp) hal) (hr o (by simp)),if_pos rfl];cases optP o WLa with
      | none=>rfl
      | some w=>
       simp only[Option.bind_some];cases numP w <;> rfl
    omega
   | a::b::c::t,_=>
    have e1:(decide ((1:Int)<=(((a::b::c::t).length:Nat):Int)) && decide ((((a::b::c::t).length:Nat):Int)<=2))=false:=by simp;omega
    rw[e1,many3];rfl
  .rw[show idx ([1,1,1,0,1,0,0,0]:List Int) (w64 (3 - 1))=some 1 from by decide,show idx ([1,2,2,0,2,0,0,0]:List Int) (w64 (3 - 1))=some 2 from by decide];simp only[Option.bind_some,low]
   match r,hr with
   | [],_=>rfl
   | [a],hr=>
    have e2:idx [a] 0=some a:=rfl;have e5:(decide ((1:Int)<=(((([a]:List Str).length:Nat):Int))) && decide ((((([a]:List Str).length:Nat):Int))<=2))=true:=rfl;have hal:=hr a (by simp);rw[e5,e2,ap3];simp only[Bool.not_true,cond_false,show ((3:Int)==1)=false from rfl,show ((3:Int)==2)=false from rfl,show ((3:Int)==3)=true from rfl,cond_true,Option.bind_some];rcases W5a a with ha | ha
    .rw[ha];cases hp:angP a with
     | none=>rfl
     | some q=>
      simp only[Option.isSome_some,Bool.not_true,cond_false,Option.bind_some,W6a hp hal];rw[Vra 3 _ [a] [] q 0 (by simp) z (Nat.le_trans (jJa hp) hal)];rfl
    omega
   | [a,o],hr=>
    have e2:idx [a,o] 0=some a:=rfl;have e5:(decide ((1:Int)<=(((([a,o]:List Str).length:Nat):Int))) && decide ((((([a,o]:List Str).length:Nat):Int))<=2))=true:=rfl;have hal:=hr a (by simp);rw[e5,e2,ap33];simp only[Bool.not_true,cond_false,show ((3:Int)==1)=false from rfl,show ((3:Int)==2)=false from rfl,show ((3:Int)==3)=true from rfl,cond_true,Option.bind_some];rcases W5a a with ha | ha
    .rw[ha];cases hp:angP a with
     | none=>rfl
     | some q=>
      simp only[Option.isSome_some,Bool.not_true,cond_false,Option.bind_some,W6a hp hal];rw[j9b 3 a o [] q 0 z (Nat.le_trans (jJa hp) hal) (hr o (by simp)),if_neg (by omega),if_pos rfl];cases optP o notW with
      | none=>rfl
      | some w=>
       simp only[Option.bind_some];cases Vpa w <;> rfl
    omega
   | a::b::c::t,_=>
    have e1:(decide ((1:Int)<=(((a::b::c::t).length:Nat):Int)) && decide ((((a::b::c::t).length:Nat):Int)<=2))=false:=by simp;omega
    rw[e1,many3];rfl
  .rw[show idx ([1,1,1,0,1,0,0,0]:List Int) (w64 (4 - 1))=some 0 from by decide,show idx ([1,2,2,0,2,0,0,0]:List Int) (w64 (4 - 1))=some 0 from by decide];simp only[Option.bind_some,low];exact quiet 4 (by omega) _ (fun _=>rfl)
  .rw[show idx ([1,1,1,0,1,0,0,0]:List Int) (w64 (5 - 1))=some 1 from by decide,show idx ([1,2,2,0,2,0,0,0]:List Int) (w64 (5 - 1))=some 2 from by decide];simp only[Option.bind_some,low]
   match r,hr with
   | [],_=>rfl
   | [a],hr=>
    have e2:idx [a] 0=some a:=rfl;have e5:(decide ((1:Int)<=(((([a]:List Str).length:Nat):Int))) && decide ((((([a]:List Str).length:Nat):Int))<=2))=true:=rfl;have hal:=hr a (by simp);rw[e5,e2,ap5];simp only[Bool.not_true,cond_false,show ((5:Int)==1)=false from rfl,show ((5:Int)==2)=false from rfl,show ((5:Int)==3)=false from rfl,show ((5:Int)==5)=true from rfl,cond_true,Option.bind_some,ZJa a hal];cases hn:numP a with
    | none=>rfl
    | some m=>
     have hm0:¬((m:Nat):Int) < 0:=by omega
     dsimp only;rw[decide_eq_false hm0];simp only[cond_false];rw[Vra 5 _ [a] [] [] _ (by simp) z z];rfl
   | [a,o],hr=>
    have e2:idx [a,o] 0=some a:=rfl;have e5:(decide ((1:Int)<=(((([a,o]:List Str).length:Nat):Int))) && decide ((((([a,o]:List Str).length:Nat):Int))<=2))=true:=rfl;have hal:=hr a (by simp);rw[e5,e2,ap55];simp only[Bool.not_true,cond_false,show ((5:Int)==1)=false from rfl,show ((5:Int)==2)=false from rfl,show ((5:Int)==3)=false from rfl,show ((5:Int)==5)=true from rfl,cond_true,Option.bind_some,ZJa a hal];cases hn:numP a with
    | none=>rfl
    | some m=>
     have hm0:¬((m:Nat):Int) < 0:=by omega
     dsimp only;rw[decide_eq_false hm0];simp only[cond_false];rw[j9b 5 a o [] [] _ z z (hr o (by simp)),if_neg (by omega),if_neg (by omega),if_pos rfl];simp only[Option.bind_some];by_cases hx:lowP o=qfb
     .rw[if_pos hx,if_pos hx]
     rw[if_neg hx,if_neg hx];rfl
   | a::b::c::t,_=>
    have e1:(decide ((1:Int)<=(((a::b::c::t).length:Nat):Int)) && decide ((((a::b::c::t).length:Nat):Int)<=2))=false:=by simp;omega
    rw[e1,many3];rfl
  .rw[show idx ([1,1,1,0,1,0,0,0]:List Int) (w64 (6 - 1))=some 0 from by decide,show idx ([1,2,2,0,2,0,0,0]:List Int) (w64 (6 - 1))=some 0 from by decide];simp only[Option.bind_some,low];exact quiet 6 (by omega) _ (fun _=>rfl)
  .rw[show idx ([1,1,1,0,1,0,0,0]:List Int) (w64 (7 - 1))=some 0 from by decide,show idx ([1,2,2,0,2,0,0,0]:List Int) (w64 (7 - 1))=some 0 from by decide];simp only[Option.bind_some,low];exact quiet 7 (by omega) _ (fun _=>rfl)
  rw[show idx ([1,1,1,0,1,0,0,0]:List Int) (w64 (8 - 1))=some 0 from by decide,show idx ([1,2,2,0,2,0,0,0]:List Int) (w64 (8 - 1))=some 0 from by decide];simp only[Option.bind_some,low];exact quiet 8 (by omega) _ (fun _=>rfl)
abbrev Ses:=zea
def cv(x:Ses):zda:=⟨x.Server,x.replies,x.mails⟩
def sayS(x:Ses)(code:Int)(l:List Str):Ses:=⟨x.Server,x.replies++ [⟨code,l⟩],x.mails⟩
def abS(x:Ses):Ses:=⟨{x.Server with Mailing:=false,From:=[],To:=[],Data:=[],Lost:=0,Chunked:=false},x.replies,x.mails⟩
def vNa(x:Ses)(c:UInt8):Ses:=if (x.Server.Data.length:Int) < x.Server.Size then ⟨{x.Server with Data:=x.Server.Data++ [c]},x.replies,x.mails⟩ else ⟨{x.Server with Lost:=min (x.Server.Lost+1) 1099511627776},x.replies,x.mails⟩
def idS(s:zha):Str:=s.Name++ [45]++Lib.decDigits (s.Count+1).toNat
def wwb:Str:=[108,97,114,103,101]
def wxb:Str:=[114,101,102,117,115,101,100]
def Wva:Str:=[111,114,100,101,114]
def okW:Str:=[111,107]
def JFa(x:Ses):Ses:=abS (if 0 < x.Server.Lost then sayS x 552 [wwb] else if (ZIa x.Server.Data).2=false∨x.Server.Count=1000000 then sayS x 554 [wxb]
 else sayS ⟨{x.Server with Count:=x.Server.Count+1},x.replies,x.mails++ [⟨⟨x.Server.From,x.Server.To,idS x.Server⟩,(ZIa x.Server.Data).1⟩]⟩ 250 [idS x.Server])
def Qta(x:Ses):Ses:=bif x.Server.Ignore then sayS ⟨{x.Server with Phase:=0,Last:=false,Ignore:=false},x.replies,x.mails⟩ 503 [Wva]
 else bif x.Server.Last then JFa ⟨{x.Server with Phase:=0,Last:=false,Ignore:=false},x.replies,x.mails⟩ else sayS ⟨{x.Server with Phase:=0,Last:=false,Ignore:=false},x.replies,x.mails⟩ 250 [okW]
def addR(x:Ses)(c:zoa):List zca:=wIa (x.Server.To++ [⟨c.Address,c.Notify⟩])
def vub(x:Ses)(c:zoa):Ses:=bif (!x.Server.Mailing || x.Server.Chunked) then sayS x 503 [Wva] else if x.Server.Many < ((addR x c).length:Int) then sayS x 452 [[109,97,110,121]] else sayS ⟨{x.Server with To:=addR x c},x.replies,x.mails⟩ 250 [okW]
def sizeW' :Str:=[115,105,122,101,32]
def Y5a:Str:=[114,101,99,105,112,105,101,110,116,115,32]
def qib(x:Ses)(c:zoa):Ses:=
 if c.Verb=1 then sayS ⟨{(abS x).Server with Greeted:=true},x.replies,x.mails⟩ 250 [x.Server.Name,sizeW' ++Lib.decDigits x.Server.Size.toNat,Y5a++Lib.decDigits x.Server.Many.toNat]
 else if c.Verb=2 then (bif (!x.Server.Greeted || x.Server.Mailing) then sayS x 503 [Wva] else if x.Server.Size < c.Size then sayS x 552 [wwb] else sayS ⟨{x.Server with Mailing:=true,From:=c.Address},x.replies,x.mails⟩ 250 [okW])
 else if c.Verb=3 then vub x c
 else if c.Verb=4 then (bif (x.Server.To.isEmpty || x.Server.Chunked) then sayS x 503 [Wva] else sayS ⟨{x.Server with Phase:=1},x.replies,x.mails⟩ 354 [[103,111,32,111,110]])
 else if c.Verb=5 then (if c.Size=0 then Qta ⟨{x.Server with Phase:=2,Left:=c.Size,Last:=c.Last,Ignore:=x.Server.To.isEmpty,Chunked:= !x.Server.To.isEmpty},x.replies,x.mails⟩ else ⟨{x.Server with Phase:=2,Left:=c.Size,Last:=c.Last,Ignore:=x.Server.To.isEmpty,Chunked:= !x.Server.To.isEmpty},x.replies,x.mails⟩)
 else if c.Verb=6 then sayS (abS x) 250 [okW]
 else if c.Verb=8 then (sayS ⟨{(abS x).Server with Phase:=3,Buffer:=[]},x.replies,x.mails⟩ 221 [[98,121,101]])
 else sayS x 250 [okW]
def Vsa:Str:=[117,110,107,110,111,119,110]
def Zab:Str:=[115,121,110,116,97,120]
def bufS(x:Ses)(b:List UInt8):Ses:=⟨{x.Server with Buffer:=b},x.replies,x.mails⟩
def vvb(x:Ses)(c:UInt8):Ses:=
 if [13,10].isSuffixOf (x.Server.Buffer++ [c]) then
  let r:=Qsa ((x.Server.Buffer++ [c]).take ((x.Server.Buffer++ [c]).length - 2))
  if r.2.Code=18 then sayS (bufS x []) 500 [Vsa] else if r.2.Code=0 then qib (bufS x []) r.1 else sayS (bufS x []) 501 [Zab]
 else if (x.Server.Buffer++ [c]).length=4002 then sayS ⟨{(abS x).Server with Phase:=3,Buffer:=[]},x.replies,x.mails⟩ 500 [Vsa]
 else bufS x (x.Server.Buffer++ [c])
def kmb(x:Ses)(d:Int):Ses:=⟨{x.Server with Dots:=d},x.replies,x.mails⟩
def vwb(x:Ses)(c:UInt8):Ses:=
 if x.Server.Dots=0/\c=46 then kmb x 1
 else if x.Server.Dots=1/\c=13 then kmb x 2
 else if x.Server.Dots=2/\c=10 then JFa ⟨{x.Server with Phase:=0,Dots:=0},x.replies,x.mails⟩
 else kmb (vNa (if x.Server.Dots=2 then vNa x 13 else x) c) (if c=13 then 4 else if c=10/\x.Server.Dots=4 then 0 else 3)
def Y6a(x:Ses)(c:UInt8):Ses:=
 if x.Server.Phase=0 then vvb x c else if x.Server.Phase=1 then vwb x c
 else if x.Server.Phase=2 then
  let y:=bif x.Server.Ignore then x else vNa x c;let z:Ses:=⟨{y.Server with Left:=y.Server.Left - 1},y.replies,y.mails⟩
  if z.Server.Left=0 then Qta z else z
 else x
structure SI (x:Ses) (n:Nat):Prop where
 size:1<=x.Server.Size/\x.Server.Size<=12000
 many:1<=x.Server.Many/\x.Server.Many<=60
 name:x.Server.Name.length<=40
 data:(x.Server.Data.length:Int)<=x.Server.Size
 buf:x.Server.Buffer.length<=4001
 tos:x.Server.To.length<=60/\∀r∈x.Server.To,qIa r.Address=true/\qKa r.Notify=true
 lost:0<=x.Server.Lost/\x.Server.Lost<=1099511627776
 count:0<=x.Server.Count/\x.Server.Count<=1000000
 left:x.Server.Phase=2->1<=x.Server.Left/\x.Server.Left<=1000000
 chunk:x.Server.To=[]->x.Server.Chunked=false
 dots:x.Server.Phase≠1->x.Server.Dots=0
 reps:x.replies.length<=n
 mails:x.mails.length<=n
theorem Kra(x:Ses)(code:Int)(l:List Str)(h:x.replies.length<=1000000000):zra x code l=some (sayS x code l):=by
 unfold zra;rw[kha (by simp;omega)];rfl
theorem jqa(x:Ses)(code:Int)(l:Str)(h:x.replies.length<=1000000000):vKa (cv x) code l=some (cv (sayS x code [l])):=by
 unfold vKa;rw[kha (by show x.replies.length+_<=_;simp;omega)];rfl
theorem ab_eq(x:Ses):zTa x=some (abS x):=rfl
theorem knb(x:Ses):qHa (cv x)=some (cv (abS x)):=rfl
theorem Zbb(x:Ses)(c:UInt8){n:Nat}(h:SI x n):z6a x c=some (vNa x c):=by
 have h1:=h.size;have h2:=h.data;have h3:=h.lost;unfold z6a vNa;by_cases hd:(x.Server.Data.length:Int) < x.Server.Size
 .rw[if_pos hd,decide_eq_true hd];simp only[cond_true];rw[kha (by simp;omega)];rfl
 rw[if_neg hd,decide_eq_false hd];simp only[cond_false];rw[q0a (by omega) (by omega)]
theorem vxb(x:Ses)(c:UInt8){n:Nat}(h:SI x n):ZDa (cv x) c=some (cv (vNa x c)):=by
 have h1:=h.size;have h2:=h.data;have h3:=h.lost;unfold ZDa vNa cv;dsimp only;by_cases hd:(x.Server.Data.length:Int) < x.Server.Size
 .rw[if_pos hd,decide_eq_true hd];simp only[cond_true];rw[kha (by simp;omega)];rfl
 rw[if_neg hd,decide_eq_false hd];simp only[cond_false];by_cases hl:x.Server.Lost < 1099511627776
 .rw[decide_eq_true hl,q0a (by omega) (by omega),show min (x.Server.Lost+1) 1099511627776=x.Server.Lost+1 by omega];rfl
 rw[decide_eq_false hl,show min (x.Server.Lost+1) 1099511627776=x.Server.Lost by omega];rfl
theorem K0a{x:Ses}{n:Nat}(h:SI x n)(c:UInt8):SI (vNa x c) n:=by
 obtain ⟨a1,a2,a3,a4,a5,a6,a7,a8,a9,a10,a11,a12,a13⟩:=h;unfold vNa;split
 .exact ⟨a1,a2,a3,by simp;omega,a5,a6,a7,a8,a9,a10,a11,a12,a13⟩
 exact ⟨a1,a2,a3,a4,a5,a6,⟨by show 0<=min _ _;omega,by show min _ _<=_;omega⟩,a8,a9,a10,a11,a12,a13⟩
theorem zjb{α:Type}{lim:Nat}(l:List α)(h:l.length<=lim):(nilE l.isEmpty (some ([]:List α)) ((app lim ([]:List α) l).bind fun v=>some v))=some l:=by
 rw[y2b]
 .rw[kha (by simpa using h)];rfl
 intro he;have:=List.isEmpty_iff.1 he;subst this;rw[kha (by simp)];rfl
theorem Y7a(l:List zca)(h:l.length<=1048576):zsa l=some l:=zjb l (by omega)
theorem Y8a(l:List UInt8)(h:l.length<=1048576):kxa l=some l:=zjb l (by omega)
theorem Wwa{c:Int}(h:0<=c/\c<=1000000):z5a (w64 (c+1))=some (Lib.decDigits (c+1).toNat)/\yJa (w64 (c+1))=some (Lib.decDigits (c+1).toNat):=by
 have e:w64 (c+1)=(((c+1).toNat:Nat):Int):=by rw[q0a (by omega) (by omega)];omega
 rw[e,Kna _ (by omega),YQa _ (by omega)];simp
theorem K1a{n:Nat}(h:n<=1000001):(Lib.decDigits n).length<=7:=Vma 6 n (by omega)
theorem Zcb(x:Ses){n:Nat}(h:SI x n)(hn:n<=1000000):z0a x=some (JFa x):=by
 obtain ⟨f,hf,hc⟩:=YPa x.Server.Data (by have:=h.size;have:=h.data;omega);have h1:=h.reps;have h2:=h.mails;have h3:=h.name;have h4:=h.tos.1;have h5:=h.count;unfold z0a JFa;rw[hf];simp only[Option.bind_some];by_cases hl:0 < x.Server.Lost
 .rw[if_pos hl,decide_eq_true hl];simp only[cond_true];rw[Kra _ _ _ (by omega)];rfl
 rw[if_neg hl,decide_eq_false hl];simp only[cond_false,kea,Option.bind_some];rw[hc];have e:(bif (!(ZIa x.Server.Data).2) then some true else some (x.Server.Count==1000000))=some (decide ((ZIa x.Server.Data).2=false∨x.Server.Count=1000000)):=by
  cases (ZIa x.Server.Data).2 with
  | false=>simp
  | true=>
   simp only[Bool.not_true,cond_false,Option.some.injEq];rw[Bool.eq_iff_iff];simp
 rw[e];simp only[Option.bind_some];by_cases hr:(ZIa x.Server.Data).2=false∨x.Server.Count=1000000
 .rw[if_pos hr,decide_eq_true hr];simp only[cond_true];rw[Kra _ _ _ (by omega)];rfl
 rw[if_neg hr,decide_eq_false hr];simp only[cond_false];rw[Zha (by simp;omega)];simp only[Option.bind_some];rw[(Wwa h5).1];simp only[Option.bind_some];have:=K1a (n:=(x.Server.Count+1).toNat) (by omega);rw[Zha (by simp;omega)];simp only[Option.bind_some];rw[Y7a _ (by omega)];simp only[Option.bind_some];rw[kha (by simp;omega)];simp only[Option.bind_some];rw[q0a (by omega) (by omega),Kra _ _ _ (by show x.replies.length<=_;omega)];rfl
theorem zkb(x:Ses){n:Nat}(h:SI x n)(hn:n<=1000000):w1a (cv x)=some (cv (JFa x)):=by
 have hf:=JDa x.Server.Data (by have:=h.size;have:=h.data;omega);have h1:=h.reps;have h2:=h.mails;have h3:=h.name;have h4:=h.tos.1;have h5:=h.count;unfold w1a JFa;rw[show (cv x).S=x.Server from rfl,show (cv x).Mails=x.mails from rfl,show (cv x).Replies=x.replies from rfl,hf];simp only[Option.bind_some];by_cases hl:0 < x.Server.Lost
 .rw[if_pos hl,decide_eq_true hl];simp only[cond_true];rw[show ([108,97,114,103,101]:Str)=wwb from rfl,jqa _ _ _ (by omega)];rfl
 rw[if_neg hl,decide_eq_false hl];simp only[cond_false];have e:(bif (!(ZIa x.Server.Data).2) then some true else some (x.Server.Count==1000000))=some (decide ((ZIa x.Server.Data).2=false∨x.Server.Count=1000000)):=by
  cases (ZIa x.Server.Data).2 with
  | false=>simp
  | true=>
   simp only[Bool.not_true,cond_false,Option.some.injEq];rw[Bool.eq_iff_iff];simp
 rw[e];simp only[Option.bind_some];by_cases hr:(ZIa x.Server.Data).2=false∨x.Server.Count=1000000
 .rw[if_pos hr,decide_eq_true hr];simp only[cond_true];rw[show ([114,101,102,117,115,101,100]:Str)=wxb from rfl,jqa _ _ _ (by omega)];rfl
 rw[if_neg hr,decide_eq_false hr];simp only[cond_false];rw[Zha (by simp;omega)];simp only[Option.bind_some];rw[(Wwa h5).2];simp only[Option.bind_some];have:=K1a (n:=(x.Server.Count+1).toNat) (by omega);rw[Zha (by simp;omega)];simp only[Option.bind_some];rw[kha (by simp;omega)];simp only[Option.bind_some];rw[q0a (by omega) (by omega)];exact (congrArg (fun o=>o.bind fun v23=>(qHa v23).bind fun v25=>some v25) (jqa ⟨{x.Server with Count:=x.Server.Count+1},x.replies,x.mails++ [⟨⟨x.Server.From,x.Server.To,idS x.Server⟩,(ZIa x.Server.Data).1⟩]⟩ 250 (idS x.Server) (by show x.replies.length<=_;omega))).trans rfl
theorem wyb:∀(l:List zca) (n:Int),qKa n=true->(∀r∈l,qKa r.Notify=true)->qKa (orL n l)=true
 | [],n,h,_=>h
 | r::l,n,h,hl=>wyb l (iOr n r.Notify) (jMb h (hl r (by simp))).2 fun x hx=>hl x (by simp[hx])
theorem Wxa:∀(n:Nat) (l:List zca),(∀r∈l,qIa r.Address=true/\qKa r.Notify=true)->(Zka n l).length<=l.length/\∀r∈Zka n l,qIa r.Address=true/\qKa r.Notify=true
 | 0,l,_=>by simp[Zka]
 | n+1,[],_=>by simp[Zka]
 | n+1,r::t,h=>by
  obtain ⟨h1,h2⟩:=Wxa n (t.filter fun x=> !kga r.Address x) fun x hx=>h x (by simp[(List.mem_filter.1 hx).1])
  have h3:=List.length_filter_le (fun x=> !kga r.Address x) t;unfold Zka;refine ⟨by simp only[List.length_cons];omega,fun x hx=>?_⟩;rcases List.mem_cons.1 hx with rfl | hx
  .exact ⟨(h r (by simp)).1,wyb _ _ (h r (by simp)).2 fun y hy=>(h y (by simp[(List.mem_filter.1 hy).1])).2⟩
  exact h2 x hx
theorem qjb{l:List zca}(h:∀r∈l,qIa r.Address=true/\qKa r.Notify=true):(wIa l).length<=l.length/\∀r∈wIa l,qIa r.Address=true/\qKa r.Notify=true:=Wxa l.length l h
theorem Zdb{l:List zca}(h:l≠ []):wIa l≠ []:=by
 cases l with
 | nil=>exact absurd rfl h
 | cons r t=>rw[QIa];simp
theorem Zeb{l:List zca}(h:∀r∈l,qIa r.Address=true/\qKa r.Notify=true)(hl:l.length<=300):wob l=(wIa l,⟨0,0⟩):=by
 unfold wob;rw[if_neg (by omega)];have:zEa mq 0 l=none:=qXa.2 fun i x hx=>by
  obtain ⟨h1,h2⟩:=h x (List.mem_of_getElem? hx);unfold mq;rw[h1,h2];rfl
 rw[this]
theorem yrb{l:List zca}(h:∀r∈l,qIa r.Address=true/\qKa r.Notify=true)(hl:l.length<=1048576):J1a l:=⟨hl,fun r hr=>by have:=addr_len (h r hr).1;omega⟩
theorem wzb{s:Str}(h:(Qsa s).2.Code=0):kkb (Qsa s).1:=by
 unfold Qsa at h ⊢;split at h
 .exact absurd h (by decide)
 rename_i h1;rw[if_neg h1];split at h
 .exact absurd h (by decide)
 rename_i h2;rw[if_neg h2];cases hc:wKa (vsb (yua s)) ((yua s).drop 1) with
 | none=>rw[hc]at h;exact absurd h (by decide)
 | some c=>
  rw[hc]at h;have h:(finP c).2.Code=0:=h;show kkb (finP c).1;unfold finP at h ⊢;by_cases hz:(cmdF c).Code=0
  .rw[hz];exact (j2b hz).1
  rw[bne_iff_ne.2 hz]at h;exact absurd h hz
theorem qZa{x:Ses}{n:Nat}(h:SI x n)(code:Int)(l:List Str):SI (sayS x code l) (n+1):=by
 obtain ⟨a1,a2,a3,a4,a5,a6,a7,a8,a9,a10,a11,a12,a13⟩:=h;exact ⟨a1,a2,a3,a4,a5,a6,a7,a8,a9,a10,a11,by show (x.replies++_).length<=_;simp;omega,by show x.mails.length<=_;omega⟩
theorem qkb{x:Ses}{n:Nat}(h:SI x n):SI (abS x) n:=by
 obtain ⟨a1,a2,a3,a4,a5,a6,a7,a8,a9,a10,a11,a12,a13⟩:=h;exact ⟨a1,a2,a3,by show ((0:Nat):Int)<=x.Server.Size;omega,a5,⟨by simp[abS],fun r hr=>by simp[abS]at hr⟩,⟨by show (0:Int)<=0;omega,by show (0:Int)<=_;omega⟩,a8,a9,fun _=>rfl,a11,a12,a13⟩
theorem SI.up{x:Ses}{n:Nat}(h:SI x n):SI x (n+1):=by
 obtain ⟨a1,a2,a3,a4,a5,a6,a7,a8,a9,a10,a11,a12,a13⟩:=h;exact ⟨a1,a2,a3,a4,a5,a6,a7,a8,a9,a10,a11,by omega,by omega⟩
theorem wAb{x:Ses}{n:Nat}(h:SI x n):SI (JFa x) (n+1):=by
 unfold JFa;refine qkb ?_;split
 .exact qZa h _ _
 split
 .exact qZa h _ _
 rename_i hr;obtain ⟨a1,a2,a3,a4,a5,a6,a7,a8,a9,a10,a11,a12,a13⟩:=h;have hc:x.Server.Count≠1000000:=fun e=>hr (.inr e)
 exact ⟨a1,a2,a3,a4,a5,a6,a7,⟨by show 0<=x.Server.Count+1;omega,by show x.Server.Count+1<=_;omega⟩,a9,a10,a11,by show (x.replies++_).length<=_;simp;omega,by show (x.mails++_).length<=_;simp;omega⟩
theorem qlb{x:Ses}{n:Nat}(h:SI x n)(hd:x.Server.Dots=0):SI ⟨{x.Server with Phase:=0,Last:=false,Ignore:=false},x.replies,x.mails⟩ n:=by
 obtain ⟨a1,a2,a3,a4,a5,a6,a7,a8,a9,a10,a11,a12,a13⟩:=h;exact ⟨a1,a2,a3,a4,a5,a6,a7,a8,fun e=>absurd (show (0:Int)=2 from e) (by decide),a10,fun _=>hd,a12,a13⟩
theorem wBb(x:Ses){n:Nat}(h:SI {x with Server:={x.Server with Phase:=0}} n)(hn:n<=1000000):z9a x=some (Qta x)/\w2a (cv x)=some (cv (Qta x)):=by
 have hd:x.Server.Dots=0:=h.dots (by show (0:Int)≠1;decide);have h' :=qlb h hd;have hr:=h.reps;have hr:x.replies.length<=n:=hr;unfold z9a w2a Qta;rw[show (cv x).S=x.Server from rfl,show (cv x).Mails=x.mails from rfl,show (cv x).Replies=x.replies from rfl];cases x.Server.Ignore with
 | true=>
  simp only[cond_true];rw[Kra _ _ _ (by show x.replies.length<=_;omega)];exact ⟨rfl,(congrArg (fun o=>o.bind fun v=>some v) (jqa ⟨{x.Server with Phase:=0,Last:=false,Ignore:=false},x.replies,x.mails⟩ 503 Wva (by show x.replies.length<=_;omega))).trans rfl⟩
 | false=>
  cases x.Server.Last with
  | true=>
   simp only[cond_true,cond_false];refine ⟨?_,?_⟩
   .exact (congrArg (fun o=>o.bind fun v=>some v) (Zcb ⟨{x.Server with Phase:=0,Last:=false,Ignore:=false},x.replies,x.mails⟩ h' hn)).trans rfl
   exact (congrArg (fun o=>o.bind fun v=>some v) (zkb ⟨{x.Server with Phase:=0,Last:=false,Ignore:=false},x.replies,x.mails⟩ h' hn)).trans rfl
  | false=>
   simp only[cond_false];rw[Kra _ _ _ (by show x.replies.length<=_;omega)];exact ⟨rfl,(congrArg (fun o=>o.bind fun v=>some v) (jqa ⟨{x.Server with Phase:=0,Last:=false,Ignore:=false},x.replies,x.mails⟩ 250 okW (by show x.replies.length<=_;omega))).trans rfl⟩
theorem Y9a{x:Ses}{n:Nat}(h:SI x n){c:zoa}(ok:kkb c)(hv:c.Verb=3):∀r∈x.Server.To++ [(⟨c.Address,c.Notify⟩:zca)],qIa r.Address=true/\qKa r.Notify=true:=by
 intro r hr;rcases List.mem_append.1 hr with hr | hr
 .exact h.tos.2 r hr
 rw[List.mem_singleton]at hr;subst hr;refine ⟨ok.addr (.inl hv),?_⟩;have:=ok.note;show qKa c.Notify=true;unfold qKa;rw[decide_eq_true this.1,decide_eq_true this.2];rfl
theorem rcpt_eq(x:Ses){n:Nat}(h:SI x n)(hn:n<=1000000){c:zoa}(ok:kkb c)(hv:c.Verb=3):kla x c=some (vub x c):=by
 have hl:=Y9a h ok hv;have h60:=h.tos.1;have hr:=h.reps;have hlen:(x.Server.To++ [(⟨c.Address,c.Notify⟩:zca)]).length<=61:=by simp;omega
 unfold kla vub;rw[Y7a _ (by omega)];simp only[Option.bind_some];rw[kha (by simp;omega)];simp only[Option.bind_some];rw[V3a _ (yrb hl (by omega)),Zeb hl (by omega)];simp only[Option.bind_some];have e:(bif (!x.Server.Mailing) then some true else some x.Server.Chunked)=some (!x.Server.Mailing || x.Server.Chunked):=by cases x.Server.Mailing <;> rfl
 rw[e];simp only[Option.bind_some];cases !x.Server.Mailing || x.Server.Chunked with
 | true=>
  simp only[cond_true];rw[Kra _ _ _ (by omega)];rfl
 | false=>
  simp only[cond_false];unfold addR;by_cases hm:x.Server.Many < ((wIa (x.Server.To++ [⟨c.Address,c.Notify⟩])).length:Int)
  .rw[if_pos hm,decide_eq_true hm];simp only[cond_true];rw[Kra _ _ _ (by omega)];rfl
  rw[if_neg hm,decide_eq_false hm];simp only[cond_false];rw[Kra _ _ _ (by show x.replies.length<=_;omega)];rfl
theorem rcptS_si{x:Ses}{n:Nat}(h:SI x n){c:zoa}(ok:kkb c)(hv:c.Verb=3):SI (vub x c) (n+1):=by
 have hl:=Y9a h ok hv;obtain ⟨h1,h2⟩:=qjb hl;have h3:=Zdb (l:=x.Server.To++ [(⟨c.Address,c.Notify⟩:zca)]) (by simp);unfold vub;cases !x.Server.Mailing || x.Server.Chunked with
 | true=>exact qZa h _ _
 | false=>
  simp only[cond_false];split
  .exact qZa h _ _
  rename_i hm;refine qZa ?_ _ _;obtain ⟨a1,a2,a3,a4,a5,a6,a7,a8,a9,a10,a11,a12,a13⟩:=h;exact ⟨a1,a2,a3,a4,a5,⟨by show (addR x c).length<=60;omega,h2⟩,a7,a8,a9,fun e=>absurd e h3,a11,a12,a13⟩
theorem zlb{c:Int}(h:0<=c/\c<=1000000):z5a c=some (Lib.decDigits c.toNat)/\yJa c=some (Lib.decDigits c.toNat):=by
 obtain ⟨k,rfl⟩:∃k:Nat,c=(k:Int):=⟨c.toNat,by omega⟩;rw[Kna _ (by omega),YQa _ (by omega),Int.toNat_natCast];exact ⟨rfl,rfl⟩
theorem v6a(x:Ses)(code:Int)(l:List Str)(h:x.replies.length<=1000000000):(zra x code l).bind (fun v=>some v)=some (sayS x code l):=by rw[Kra x code l h];rfl
theorem vca(x:Ses)(code:Int)(l:Str)(h:x.replies.length<=1000000000):(vKa (cv x) code l).bind (fun v=>some v)=some (cv (sayS x code [l])):=by rw[jqa x code l h];rfl
theorem k1_eq(x:Ses)(h:x.replies.length<=1000000000):qVa (cv x)=some (cv (sayS x 250 [okW])):=vca x 250 okW h
theorem qmb{x:Ses}{n:Nat}(h:SI x n)(hd:x.Server.Dots=0)(c:zoa):SI ⟨{x.Server with Phase:=0,Left:=c.Size,Last:=c.Last,Ignore:=x.Server.To.isEmpty,Chunked:= !x.Server.To.isEmpty},x.replies,x.mails⟩ n:=by
 obtain ⟨a1,a2,a3,a4,a5,a6,a7,a8,a9,a10,a11,a12,a13⟩:=h;exact ⟨a1,a2,a3,a4,a5,a6,a7,a8,fun e=>absurd (show (0:Int)=2 from e) (by decide),fun e=>by
  have e:x.Server.To=[]:=e;show (!x.Server.To.isEmpty)=false;rw[e];rfl,fun _=>hd,a12,a13⟩
theorem Ksa(l:List zca):((l.length:Int)==0)=l.isEmpty:=by cases l <;> simp;omega
theorem exec_eq(x:Ses){n:Nat}(h:SI x n)(hn:n<=1000000)(hp:x.Server.Phase=0)(hb:x.Server.Buffer=[]){c:zoa}(ok:kkb c):kya x c=some (qib x c)/\Zda (cv x) c=some (cv (qib x c)):=by
 have hr:=h.reps;have hv:=ok.verb;have hname:=h.name;have hd:x.Server.Dots=0:=h.dots (by rw[hp];decide);unfold kya Zda qib;rw[show (cv x).S=x.Server from rfl,show (cv x).Mails=x.mails from rfl,show (cv x).Replies=x.replies from rfl];by_cases h1:c.Verb=1
 .rw[if_pos h1,h1];simp only[show ((1:Int)==1)=true from rfl,cond_true,ab_eq,knb,Option.bind_some];have hs:=zlb (c:=x.Server.Size) (by have:=h.size;omega);have hm:=zlb (c:=x.Server.Many) (by have:=h.many;omega);have l1:=K1a (n:=x.Server.Size.toNat) (by have:=h.size;omega);have l2:=K1a (n:=x.Server.Many.toNat) (by have:=h.many;omega);rw[show (abS x).Server.Size=x.Server.Size from rfl,show (abS x).Server.Many=x.Server.Many from rfl,show (cv (abS x)).S.Size=x.Server.Size from rfl,show (cv (abS x)).S.Many=x.Server.Many from rfl,hs.1,hs.2,hm.1,hm.2];simp only[Option.bind_some];rw[Zha (show ([115,105,122,101,32]:Str).length+_<=_ by simp;omega),Zha (show ([114,101,99,105,112,105,101,110,116,115,32]:Str).length+_<=_ by simp;omega)];simp only[Option.bind_some];refine ⟨v6a ⟨{(abS x).Server with Greeted:=true},x.replies,x.mails⟩ 250 _ (by show x.replies.length<=_;omega),?_⟩;rw[kha (by show x.replies.length+_<=_;simp;omega)];rfl
 rw[if_neg h1,beq_eq_false_iff_ne.2 h1];simp only[cond_false];by_cases h2:c.Verb=2
 .rw[if_pos h2,h2];simp only[show ((2:Int)==2)=true from rfl,cond_true];have e:(bif (!x.Server.Greeted) then some true else some x.Server.Mailing)=some (!x.Server.Greeted || x.Server.Mailing):=by cases x.Server.Greeted <;> rfl
  rw[e];simp only[Option.bind_some];cases !x.Server.Greeted || x.Server.Mailing with
  | true=>
   simp only[cond_true];exact ⟨v6a x 503 _ (by omega),vca x 503 Wva (by omega)⟩
  | false=>
   simp only[cond_false];by_cases hs:x.Server.Size < c.Size
   .rw[if_pos hs,decide_eq_true hs];simp only[cond_true];exact ⟨v6a x 552 _ (by omega),vca x 552 wwb (by omega)⟩
   rw[if_neg hs,decide_eq_false hs];simp only[cond_false];exact ⟨v6a ⟨{x.Server with Mailing:=true,From:=c.Address},x.replies,x.mails⟩ 250 _ (by show x.replies.length<=_;omega),k1_eq ⟨{x.Server with Mailing:=true,From:=c.Address},x.replies,x.mails⟩ (by show x.replies.length<=_;omega)⟩
 rw[if_neg h2,beq_eq_false_iff_ne.2 h2];simp only[cond_false];by_cases h3:c.Verb=3
 .rw[if_pos h3,h3];simp only[show ((3:Int)==3)=true from rfl,cond_true];refine ⟨by rw[rcpt_eq x h hn ok h3];rfl,?_⟩;have hl:=Y9a h ok h3;have h60:=h.tos.1;have e:(bif (!x.Server.Mailing) then some true else some x.Server.Chunked)=some (!x.Server.Mailing || x.Server.Chunked):=by cases x.Server.Mailing <;> rfl
  rw[e];unfold vub;simp only[Option.bind_some];cases !x.Server.Mailing || x.Server.Chunked with
  | true=>
   simp only[cond_true];exact vca x 503 Wva (by omega)
  | false=>
   simp only[cond_false];rw[kha (by simp;omega)];simp only[Option.bind_some,List.nil_append];rw[kha (by simp;omega)];simp only[Option.bind_some];rw[vnb _ (by simp;omega) (fun r hr=>(hl r hr).2)];simp only[Option.bind_some];unfold addR;by_cases hm:x.Server.Many < ((wIa (x.Server.To++ [⟨c.Address,c.Notify⟩])).length:Int)
   .rw[if_pos hm,decide_eq_true hm];simp only[cond_true];exact vca x 452 [109,97,110,121] (by omega)
   rw[if_neg hm,decide_eq_false hm];simp only[cond_false];exact k1_eq ⟨{x.Server with To:=wIa (x.Server.To++ [⟨c.Address,c.Notify⟩])},x.replies,x.mails⟩ (by show x.replies.length<=_;omega)
 rw[if_neg h3,beq_eq_false_iff_ne.2 h3];simp only[cond_false];by_cases h4:c.Verb=4
 .rw[if_pos h4,h4];simp only[show ((4:Int)==4)=true from rfl,cond_true];have e:(bif ((x.Server.To.length:Int)==0) then some true else some x.Server.Chunked)=some (x.Server.To.isEmpty || x.Server.Chunked):=by rw[Ksa];cases x.Server.To.isEmpty <;> rfl
  rw[e];simp only[Option.bind_some];cases x.Server.To.isEmpty || x.Server.Chunked with
  | true=>
   simp only[cond_true];exact ⟨v6a x 503 _ (by omega),vca x 503 Wva (by omega)⟩
  | false=>
   simp only[cond_false];refine ⟨v6a ⟨{x.Server with Phase:=1},x.replies,x.mails⟩ 354 _ (by show x.replies.length<=_;omega),?_⟩;have:=vca ⟨{x.Server with Phase:=1},x.replies,x.mails⟩ 354 [103,111,32,111,110] (by show x.replies.length<=_;omega);rw[<-this];have e0:cv ⟨{x.Server with Phase:=1},x.replies,x.mails⟩=⟨{x.Server with Phase:=1,Dots:=0},x.replies,x.mails⟩:=by unfold cv;rw[<-hd]
   rw[e0]
 rw[if_neg h4,beq_eq_false_iff_ne.2 h4];simp only[cond_false];by_cases h5:c.Verb=5
 .rw[if_pos h5,h5];simp only[show ((5:Int)==5)=true from rfl,cond_true];rw[Ksa];have e:(bif !x.Server.To.isEmpty then some (⟨⟨x.Server.Name,x.Server.Size,x.Server.Many,2,x.Server.Greeted,x.Server.Mailing,x.Server.From,x.Server.To,x.Server.Buffer,x.Server.Data,x.Server.Lost,x.Server.Dots,true,c.Size,c.Last,x.Server.To.isEmpty,x.Server.Count⟩,x.replies,x.mails⟩:zda)
   else some ⟨⟨x.Server.Name,x.Server.Size,x.Server.Many,2,x.Server.Greeted,x.Server.Mailing,x.Server.From,x.Server.To,x.Server.Buffer,x.Server.Data,x.Server.Lost,x.Server.Dots,x.Server.Chunked,c.Size,c.Last,x.Server.To.isEmpty,x.Server.Count⟩,x.replies,x.mails⟩)=
   some (cv ⟨{x.Server with Phase:=2,Left:=c.Size,Last:=c.Last,Ignore:=x.Server.To.isEmpty,Chunked:= !x.Server.To.isEmpty},x.replies,x.mails⟩):=by
   cases he:x.Server.To.isEmpty with
   | true=>
    have hc:=h.chunk (List.isEmpty_iff.1 he);simp only[Bool.not_true,cond_false];rw[hc];rfl
   | false=>rfl
  rw[e];simp only[Option.bind_some];by_cases hz:c.Size=0
  .rw[if_pos hz,hz];simp only[show ((0:Int)==0)=true from rfl,cond_true];obtain ⟨e1,e2⟩:=wBb ⟨{x.Server with Phase:=2,Left:=c.Size,Last:=c.Last,Ignore:=x.Server.To.isEmpty,Chunked:= !x.Server.To.isEmpty},x.replies,x.mails⟩ (qmb h hd c) hn;rw[hz]at e1 e2;exact ⟨(congrArg (fun o=>o.bind fun v=>some v) e1).trans rfl,(congrArg (fun o=>o.bind fun v=>some v) e2).trans rfl⟩
  rw[if_neg hz,beq_eq_false_iff_ne.2 hz];exact ⟨rfl,rfl⟩
 rw[if_neg h5,beq_eq_false_iff_ne.2 h5];simp only[cond_false];by_cases h6:c.Verb=6
 .rw[if_pos h6,h6];simp only[show ((6:Int)==6)=true from rfl,cond_true,ab_eq,knb,Option.bind_some];exact ⟨v6a (abS x) 250 _ (by show x.replies.length<=_;omega),k1_eq (abS x) (by show x.replies.length<=_;omega)⟩
 rw[if_neg h6,beq_eq_false_iff_ne.2 h6];simp only[cond_false];by_cases h8:c.Verb=8
 .rw[if_pos h8,h8];simp only[show ((8:Int)==7)=false from rfl,show ((8:Int)==8)=true from rfl,cond_true,cond_false,knb,Option.bind_some];refine ⟨?_,?_⟩
  .rw[Kra x 221 _ (by omega)];rfl
  have e0:(⟨{(abS x).Server with Phase:=3},x.replies,x.mails⟩:zda)=cv ⟨{(abS x).Server with Phase:=3,Buffer:=[]},x.replies,x.mails⟩:=by
   unfold cv abS;simp only[hb]
  exact (congrArg (fun s=>(vKa s 221 [98,121,101]).bind fun v=>some v) e0).trans (vca ⟨{(abS x).Server with Phase:=3,Buffer:=[]},x.replies,x.mails⟩ 221 [98,121,101] (by show x.replies.length<=_;omega))
 rw[if_neg h8,beq_eq_false_iff_ne.2 h8];have h7:c.Verb=7:=by omega
 rw[h7];simp only[show ((7:Int)==7)=true from rfl,cond_true,cond_false];exact ⟨v6a x 250 _ (by omega),k1_eq x (by omega)⟩
theorem zmb{x:Ses}{n:Nat}(h:SI ⟨{x.Server with Phase:=0},x.replies,x.mails⟩ n)(hd:x.Server.Dots=0):SI (Qta x) (n+1):=by
 have h0:SI ⟨{x.Server with Phase:=0,Last:=false,Ignore:=false},x.replies,x.mails⟩ n:=qlb (x:=⟨{x.Server with Phase:=0},x.replies,x.mails⟩) h hd;unfold Qta;cases x.Server.Ignore with
 | true=>exact qZa h0 _ _
 | false=>
  cases x.Server.Last with
  | true=>exact wAb h0
  | false=>exact qZa h0 _ _
theorem execS_si{x:Ses}{n:Nat}(h:SI x n)(hp:x.Server.Phase=0){c:zoa}(ok:kkb c):SI (qib x c) (n+1):=by
 have hd:x.Server.Dots=0:=h.dots (by rw[hp];decide);have hv:=ok.verb;have hs:=ok.size;unfold qib;by_cases h1:c.Verb=1
 .rw[if_pos h1];refine qZa ?_ _ _;obtain ⟨a1,a2,a3,a4,a5,a6,a7,a8,a9,a10,a11,a12,a13⟩:=qkb h;exact ⟨a1,a2,a3,a4,a5,a6,a7,a8,a9,a10,a11,a12,a13⟩
 rw[if_neg h1];by_cases h2:c.Verb=2
 .rw[if_pos h2];cases !x.Server.Greeted || x.Server.Mailing with
  | true=>exact qZa h _ _
  | false=>
   simp only[cond_false];split
   .exact qZa h _ _
   refine qZa ?_ _ _;obtain ⟨a1,a2,a3,a4,a5,a6,a7,a8,a9,a10,a11,a12,a13⟩:=h;exact ⟨a1,a2,a3,a4,a5,a6,a7,a8,a9,a10,a11,a12,a13⟩
 rw[if_neg h2];by_cases h3:c.Verb=3
 .rw[if_pos h3];exact rcptS_si h ok h3
 rw[if_neg h3];by_cases h4:c.Verb=4
 .rw[if_pos h4];cases x.Server.To.isEmpty || x.Server.Chunked with
  | true=>exact qZa h _ _
  | false=>
   refine qZa ?_ _ _;obtain ⟨a1,a2,a3,a4,a5,a6,a7,a8,a9,a10,a11,a12,a13⟩:=h;exact ⟨a1,a2,a3,a4,a5,a6,a7,a8,fun e=>absurd (show (1:Int)=2 from e) (by decide),a10,fun _=>hd,a12,a13⟩
 rw[if_neg h4];by_cases h5:c.Verb=5
 .rw[if_pos h5];by_cases hz:c.Size=0
  .rw[if_pos hz];have hq:=qmb h hd c;exact zmb (x:=⟨{x.Server with Phase:=2,Left:=c.Size,Last:=c.Last,Ignore:=x.Server.To.isEmpty,Chunked:= !x.Server.To.isEmpty},x.replies,x.mails⟩) hq hd
  rw[if_neg hz];have h' :=h.up;obtain ⟨a1,a2,a3,a4,a5,a6,a7,a8,a9,a10,a11,a12,a13⟩:=h';exact ⟨a1,a2,a3,a4,a5,a6,a7,a8,fun _=>⟨by show 1<=c.Size;omega,hs.2⟩,fun e=>by
   have e:x.Server.To=[]:=e;show (!x.Server.To.isEmpty)=false;rw[e];rfl,fun _=>hd,a12,a13⟩
 rw[if_neg h5];by_cases h6:c.Verb=6
 .rw[if_pos h6];exact qZa (qkb h) _ _
 rw[if_neg h6];by_cases h8:c.Verb=8
 .rw[if_pos h8];refine qZa ?_ _ _;obtain ⟨a1,a2,a3,a4,a5,a6,a7,a8,a9,a10,a11,a12,a13⟩:=qkb h;exact ⟨a1,a2,a3,a4,by show (0:Nat)<=4001;omega,a6,a7,a8,fun e=>absurd (show (3:Int)=2 from e) (by decide),a10,fun _=>hd,a12,a13⟩
 rw[if_neg h8];exact qZa h _ _
theorem suff_two(l:List UInt8)(c:UInt8): [13,10].isSuffixOf (l++ [c])=(decide (2<=(l++ [c]).length) && (((l++ [c])[(l++ [c]).length - 2]?).elim false (· ==13) && c==10)):=by
 rcases List.eq_nil_or_concat l with rfl | ⟨p,y,rfl⟩
 .have h1:([13,10]:List UInt8).isSuffixOf ([]++ [c])=false:=by
   rw[Bool.eq_false_iff];intro h;have:=(List.isSuffixOf_iff_suffix.1 h).length_le;simp at this
  rw[h1];rfl
 rw[List.concat_eq_append,Bool.eq_iff_iff,List.isSuffixOf_iff_suffix];have e1:(p++ [y]++ [c]).length - 2=p.length:=by simp
 rw[e1];have e2:(p++ [y]++ [c])[p.length]? =some y:=by simp
 rw[e2];simp only[Option.elim_some,Bool.and_eq_true,beq_iff_eq,decide_eq_true_eq];constructor
 .rintro ⟨t,ht⟩;rw[show p++ [y]++ [c]=p++ [y,c] by simp]at ht;have:=(List.append_inj' ht rfl).2;simp at this;exact ⟨by simp,this.1.symm,this.2.symm⟩
 rintro ⟨_,rfl,rfl⟩;exact ⟨p,by simp⟩
theorem vyb{x:Ses}{n:Nat}(h:SI x n){b:List UInt8}(hb:b.length<=4001):SI (bufS x b) n:=by
 obtain ⟨a1,a2,a3,a4,a5,a6,a7,a8,a9,a10,a11,a12,a13⟩:=h;exact ⟨a1,a2,a3,a4,hb,a6,a7,a8,a9,a10,a11,a12,a13⟩
theorem line_eq(x:Ses){n:Nat}(h:SI x n)(hn:n<=1000000)(hp:x.Server.Phase=0)(c:UInt8):k3a x c=some (vvb x c)/\jla (cv x) c=some (cv (vvb x c)):=by
 have hr:=h.reps;have hb:=h.buf;have h0:=vyb h (b:=[]) (by simp);have hlen:(x.Server.Buffer++ [c]).length=x.Server.Buffer.length+1:=by simp
 unfold k3a jla vvb;rw[show (cv x).S=x.Server from rfl,show (cv x).Mails=x.mails from rfl,show (cv x).Replies=x.replies from rfl];rw[kha (show x.Server.Buffer.length+ [c].length<=140737488355328 by simp;omega),kha (show ([]:List UInt8).length+x.Server.Buffer.length<=140737488355328 by simp;omega)];simp only[Option.bind_some,List.nil_append];rw[kha (show x.Server.Buffer.length+ [c].length<=140737488355328 by simp;omega)];simp only[Option.bind_some];unfold qGa;rw[jIa _ _ (by omega)];simp only[Option.bind_some];have eR:(bif decide ((2:Int)<=((x.Server.Buffer++ [c]).length:Int)) then (idx (x.Server.Buffer++ [c]) (w64 (((x.Server.Buffer++ [c]).length:Int) - 2))).bind fun v7=>(bif ((v7.toNat:Int)==13) then (idx (x.Server.Buffer++ [c]) (w64 (((x.Server.Buffer++ [c]).length:Int) - 1))).bind fun v10=>some ((v10.toNat:Int)==10) else some false) else some false)=some ([13,10].isSuffixOf (x.Server.Buffer++ [c])):=by
  rw[suff_two];by_cases h2:2<=(x.Server.Buffer++ [c]).length
  .rw[decide_eq_true (show (2:Int)<=((x.Server.Buffer++ [c]).length:Int) by omega),decide_eq_true h2];rw[show (((x.Server.Buffer++ [c]).length:Int) - 2)=(((x.Server.Buffer++ [c]).length - 2:Nat):Int) by omega,ZWa _ (by omega),show (((x.Server.Buffer++ [c]).length:Int) - 1)=((x.Server.Buffer.length:Nat):Int) by omega,ZWa _ (by omega),vcb x.Server.Buffer c [],w3a,List.getElem?_eq_getElem (by omega)];simp only[cond_true,Option.bind_some,Option.elim_some,Bool.true_and];rw[qWa _ 13 (by decide),qWa _ 10 (by decide)];cases (x.Server.Buffer++ [c])[(x.Server.Buffer++ [c]).length - 2]==13 <;> rfl
  rw[decide_eq_false (show ¬(2:Int)<=((x.Server.Buffer++ [c]).length:Int) by omega),decide_eq_false h2];rfl
 rw[eR];simp only[Option.bind_some];cases hs: [13,10].isSuffixOf (x.Server.Buffer++ [c]) with
 | true=>
  have hl2:=(List.isSuffixOf_iff_suffix.1 hs).length_le;simp only[List.length_cons,List.length_nil]at hl2;have ecut:w64 (((x.Server.Buffer++ [c]).length:Int) - (([13,10]:List UInt8).length:Int))=(((x.Server.Buffer++ [c]).length - 2:Nat):Int):=by
   rw[show (((x.Server.Buffer++ [c]).length:Int) - (([13,10]:List UInt8).length:Int))=(((x.Server.Buffer++ [c]).length - 2:Nat):Int) by simp only[List.length_cons,List.length_nil];omega,ZWa _ (by omega)]
  have ecut2:w64 (((x.Server.Buffer++ [c]).length:Int) - 2)=(((x.Server.Buffer++ [c]).length - 2:Nat):Int):=by
   rw[show (((x.Server.Buffer++ [c]).length:Int) - 2)=(((x.Server.Buffer++ [c]).length - 2:Nat):Int) by omega,ZWa _ (by omega)]
  simp only[Bool.not_true,cond_false,cond_true,if_true];rw[ecut,ecut2,Zga (by omega)];simp only[Option.bind_some,Bool.not_true,cond_false];rw[WMa _ (by simp;omega),JEa _ (by simp;omega)];simp only[Option.bind_some];generalize hR:Qsa ((x.Server.Buffer++ [c]).take ((x.Server.Buffer++ [c]).length - 2))=r;by_cases h18:r.2.Code=18
  .rw[if_pos h18,h18];simp only[show ((18:Int)==0)=false from rfl,show ((18:Int)==18)=true from rfl,cond_true,cond_false];exact ⟨v6a (bufS x []) 500 _ (by show x.replies.length<=_;omega),vca (bufS x []) 500 Vsa (by show x.replies.length<=_;omega)⟩
  rw[if_neg h18];by_cases hz:r.2.Code=0
  .have ok:kkb r.1:=by rw[<-hR]at hz ⊢;exact wzb hz
   obtain ⟨e1,e2⟩:=exec_eq (bufS x []) h0 hn hp rfl ok;rw[if_pos hz,hz];simp only[show ((0:Int)==0)=true from rfl,show ((0:Int)==18)=false from rfl,show ((0:Int) !=0)=false from rfl,cond_true,cond_false];exact ⟨(congrArg (fun o=>o.bind fun v=>some v) e1).trans rfl,(congrArg (fun o=>o.bind fun v=>some v) e2).trans rfl⟩
  rw[if_neg hz,beq_eq_false_iff_ne.2 hz,beq_eq_false_iff_ne.2 h18,bne_iff_ne.2 hz];simp only[cond_true,cond_false];exact ⟨v6a (bufS x []) 501 _ (by show x.replies.length<=_;omega),vca (bufS x []) 501 Zab (by show x.replies.length<=_;omega)⟩
 | false=>
  simp only[Bool.not_false,cond_true,cond_false,Bool.false_eq_true,if_false,Option.bind_some];by_cases h4:(x.Server.Buffer++ [c]).length=4002
  .rw[if_pos h4,h4];simp only[show (((4002:Nat):Int)==4002)=true from rfl,cond_true];refine ⟨?_,?_⟩
   .exact (congrArg (fun o=>(o.bind fun (v8:zea)=>(kQa v8).bind fun v10=>some v10).bind fun j=>some j) (Kra (bufS x (x.Server.Buffer++ [c])) 500 [Vsa] (by show x.replies.length<=_;omega))).trans rfl
   exact (congrArg (fun o=>o.bind fun v=>some v) (jqa ⟨{(abS x).Server with Phase:=3,Buffer:=[]},x.replies,x.mails⟩ 500 Vsa (by show x.replies.length<=_;omega))).trans rfl
  rw[if_neg h4,beq_eq_false_iff_ne.2 (show ((x.Server.Buffer++ [c]).length:Int)≠4002 by omega)];exact ⟨rfl,rfl⟩
theorem lineS_si{x:Ses}{n:Nat}(h:SI x n)(hp:x.Server.Phase=0)(c:UInt8):SI (vvb x c) (n+1):=by
 have hb:=h.buf;have h0:=vyb h (b:=[]) (by simp);have hd:x.Server.Dots=0:=h.dots (by rw[hp];decide);have hlen:(x.Server.Buffer++ [c]).length=x.Server.Buffer.length+1:=by simp
 unfold vvb;split
 .generalize hR:Qsa ((x.Server.Buffer++ [c]).take ((x.Server.Buffer++ [c]).length - 2))=r;dsimp only;split
  .exact qZa h0 _ _
  split
  .rename_i hz;exact execS_si h0 hp (by rw[<-hR]at hz ⊢;exact wzb hz)
  exact qZa h0 _ _
 split
 .refine qZa ?_ _ _;obtain ⟨a1,a2,a3,a4,a5,a6,a7,a8,a9,a10,a11,a12,a13⟩:=qkb h;exact ⟨a1,a2,a3,a4,by show (0:Nat)<=4001;omega,a6,a7,a8,fun e=>absurd (show (3:Int)=2 from e) (by decide),a10,fun _=>hd,a12,a13⟩
 rename_i h4;exact (vyb h (by omega)).up
theorem w7a(x:Ses)(c:UInt8):(vNa x c).Server.Dots=x.Server.Dots/\(vNa x c).Server.Phase=x.Server.Phase:=by unfold vNa;split <;> exact ⟨rfl,rfl⟩
theorem W7a{x:Ses}{n:Nat}(h:SI x n)(hp:x.Server.Phase=1)(d:Int):SI (kmb x d) n:=by
 obtain ⟨a1,a2,a3,a4,a5,a6,a7,a8,a9,a10,a11,a12,a13⟩:=h;exact ⟨a1,a2,a3,a4,a5,a6,a7,a8,a9,a10,fun e=>absurd hp e,a12,a13⟩
theorem Jaa(p q:Prop)[Decidable p][Decidable q]:(bif decide p then some (decide q) else some false)=some (decide (p/\q)):=by
 by_cases hp:p <;> by_cases hq:q <;> simp[hp,hq]
theorem deq(a b:Int):(a==b)=decide (a=b):=by rw[Bool.eq_iff_iff];simp
theorem Zfb(x:Ses){n:Nat}(h:SI x n)(c:UInt8):kaa c x=some (kmb (vNa x c) (if c=13 then 4 else if c=10/\x.Server.Dots=4 then 0 else 3)):=by
 unfold kaa;rw[Zbb x c h];simp only[Option.bind_some];rw[(w7a x c).1,qWa c 13 (by decide),qWa c 10 (by decide),jRa,jRa,deq,Jaa];simp only[Option.bind_some];by_cases h13:c=13
 .rw[if_pos h13,decide_eq_true h13];rfl
 rw[if_neg h13,decide_eq_false h13];by_cases h10:c=10/\x.Server.Dots=4
 .rw[if_pos h10,decide_eq_true h10];rfl
 rw[if_neg h10,decide_eq_false h10];rfl
theorem kob{x:Ses}{n:Nat}(h:SI x n):SI ⟨{x.Server with Phase:=0,Dots:=0},x.replies,x.mails⟩ n:=by
 obtain ⟨a1,a2,a3,a4,a5,a6,a7,a8,a9,a10,a11,a12,a13⟩:=h;exact ⟨a1,a2,a3,a4,a5,a6,a7,a8,fun e=>absurd (show (0:Int)=2 from e) (by decide),a10,fun _=>rfl,a12,a13⟩
theorem data_eq(x:Ses){n:Nat}(h:SI x n)(hn:n<=1000000)(c:UInt8):k4a x c=some (vwb x c)/\jma (cv x) c=some (cv (vwb x c)):=by
 unfold k4a jma vwb;rw[show (cv x).S=x.Server from rfl,show (cv x).Mails=x.mails from rfl,show (cv x).Replies=x.replies from rfl];rw[qWa c 46 (by decide),qWa c 13 (by decide),qWa c 10 (by decide),jRa,jRa,jRa,deq,deq,deq,deq,Jaa,Jaa,Jaa,Jaa];simp only[Option.bind_some];by_cases h0:x.Server.Dots=0/\c=46
 .rw[if_pos h0,decide_eq_true h0];exact ⟨rfl,rfl⟩
 rw[if_neg h0,decide_eq_false h0];simp only[cond_false];by_cases h1:x.Server.Dots=1/\c=13
 .rw[if_pos h1,decide_eq_true h1];exact ⟨rfl,rfl⟩
 rw[if_neg h1,decide_eq_false h1];simp only[cond_false];by_cases h2:x.Server.Dots=2/\c=10
 .rw[if_pos h2,decide_eq_true h2];simp only[cond_true];exact ⟨(congrArg (fun o=>o.bind fun v=>some v) (Zcb _ (kob h) hn)).trans rfl,(congrArg (fun o=>o.bind fun v=>some v) (zkb _ (kob h) hn)).trans rfl⟩
 rw[if_neg h2,decide_eq_false h2];simp only[cond_false];have key:∀y:Ses,SI y n->y.Server.Dots=x.Server.Dots->((ZDa (cv y) c).bind fun v16=>((bif decide (c=13) then some (cv (kmb ⟨v16.S,v16.Replies,v16.Mails⟩ 4)) else some (cv (kmb ⟨v16.S,v16.Replies,v16.Mails⟩ 3))):Option zda).bind fun j18=>((bif decide (x.Server.Dots=4/\c=10) then some (cv (kmb ⟨j18.S,j18.Replies,j18.Mails⟩ 0)) else some j18):Option zda).bind fun j20=>some j20)=some (cv (kmb (vNa y c) (if c=13 then 4 else if c=10/\x.Server.Dots=4 then 0 else 3))):=by
  intro y hy hd;rw[vxb y c hy];simp only[Option.bind_some];by_cases h13:c=13
  .rw[if_pos h13,decide_eq_true h13];simp only[cond_true,Option.bind_some];rw[decide_eq_false (show ¬(x.Server.Dots=4/\c=10) by rw[h13];simp)];rfl
  rw[if_neg h13,decide_eq_false h13];simp only[cond_false,Option.bind_some];by_cases h10:x.Server.Dots=4/\c=10
  .rw[decide_eq_true h10,if_pos ⟨h10.2,h10.1⟩];rfl
  rw[decide_eq_false h10,if_neg (fun e=>h10 ⟨e.2,e.1⟩)];rfl
 by_cases hd2:x.Server.Dots=2
 .rw[if_pos hd2,decide_eq_true hd2];simp only[cond_true];have hk:=K0a h 13;have hkd:=(w7a x 13).1;rw[Zbb x 13 h,vxb x 13 h];simp only[Option.bind_some];refine ⟨?_,key (vNa x 13) hk hkd⟩;rw[Zfb _ hk c,hkd]
 rw[if_neg hd2,decide_eq_false hd2];simp only[cond_false,Option.bind_some];refine ⟨?_,key x h rfl⟩;rw[Zfb x h c]
theorem dataS_si{x:Ses}{n:Nat}(h:SI x n)(hp:x.Server.Phase=1)(c:UInt8):SI (vwb x c) (n+1):=by
 unfold vwb;split
 .exact (W7a h hp _).up
 split
 .exact (W7a h hp _).up
 split
 .exact wAb (kob h)
 split
 .exact (W7a (K0a (K0a h 13) c) (by rw[(w7a _ _).2,(w7a _ _).2];exact hp) _).up
 exact (W7a (K0a h c) (by rw[(w7a _ _).2];exact hp) _).up
def vzb(x:Ses):Ses:=⟨{x.Server with Left:=x.Server.Left - 1},x.replies,x.mails⟩
theorem wCb{x:Ses}{n:Nat}(h:SI x n)(hp:x.Server.Phase=2):SI ⟨{(vzb x).Server with Phase:=0},x.replies,x.mails⟩ n/\((vzb x).Server.Left≠0->SI (vzb x) n):=by
 have hl:=h.left hp;have hd:x.Server.Dots=0:=h.dots (by rw[hp];decide);obtain ⟨a1,a2,a3,a4,a5,a6,a7,a8,a9,a10,a11,a12,a13⟩:=h;refine ⟨⟨a1,a2,a3,a4,a5,a6,a7,a8,fun e=>absurd (show (0:Int)=2 from e) (by decide),a10,fun _=>hd,a12,a13⟩,fun hz=>⟨a1,a2,a3,a4,a5,a6,a7,a8,fun _=>?_,a10,fun _=>hd,a12,a13⟩⟩;have hz:x.Server.Left - 1≠0:=hz;exact ⟨by show 1<=x.Server.Left - 1;omega,by show x.Server.Left - 1<=_;omega⟩
theorem kpb{x:Ses}{n:Nat}(h:SI x n)(c:UInt8):SI (Y6a x c) (n+1):=by
 unfold Y6a;split
 .rename_i hp;exact lineS_si h hp c
 split
 .rename_i hp;exact dataS_si h hp c
 split
 .rename_i hp;have hy:SI (bif x.Server.Ignore then x else vNa x c) n/\(bif x.Server.Ignore then x else vNa x c).Server.Phase=2:=by
   cases x.Server.Ignore with
   | true=>exact ⟨h,hp⟩
   | false=>exact ⟨K0a h c,by rw[show (bif false then x else vNa x c)=vNa x c from rfl,(w7a x c).2];exact hp⟩
  generalize (bif x.Server.Ignore then x else vNa x c)=y at hy;obtain ⟨hy,hyp⟩:=hy;obtain ⟨h1,h2⟩:=wCb hy hyp;show SI (if (vzb y).Server.Left=0 then Qta (vzb y) else vzb y) (n+1);split
  .exact zmb h1 (hy.dots (by rw[hyp];decide))
  rename_i hz;exact (h2 hz).up
 exact h.up
theorem Zgb(a1:List UInt8)(ha:a1.length<=1000000)(i:Nat)(c:UInt8)(x:Ses)(hc:a1[i]? =some c)(h:SI x i):qma a1 ((i:Int),x)=some (.cont (((i+1:Nat):Int),Y6a x c))/\vza a1 ((i:Int),cv x)=some (.cont (((i+1:Nat):Int),cv (Y6a x c))):=by
 have hi:=zOa hc;unfold qma vza Y6a;dsimp only;rw[kia hc,zHa hc,show (cv x).S=x.Server from rfl];simp only[cond_true,Option.bind_some];rw[sc i (by omega)];by_cases h0:x.Server.Phase=0
 .obtain ⟨e1,e2⟩:=line_eq x h (by omega) h0 c;rw[if_pos h0,h0,e1,e2];exact ⟨rfl,rfl⟩
 rw[if_neg h0,beq_eq_false_iff_ne.2 h0];simp only[cond_false];by_cases h1:x.Server.Phase=1
 .obtain ⟨e1,e2⟩:=data_eq x h (by omega) c;rw[if_pos h1,h1,e1,e2];exact ⟨rfl,rfl⟩
 rw[if_neg h1,beq_eq_false_iff_ne.2 h1];simp only[cond_false];by_cases h2:x.Server.Phase=2
 .rw[if_pos h2,h2];simp only[show ((2:Int)==2)=true from rfl,cond_true];have e1:(bif !x.Server.Ignore then (z6a x c).bind fun v36=>some v36 else some x)=some (bif x.Server.Ignore then x else vNa x c):=by
   rw[Zbb x c h];cases x.Server.Ignore <;> rfl
  have e2:(bif !x.Server.Ignore then (ZDa (cv x) c).bind fun v23=>some v23 else some (cv x))=some (cv (bif x.Server.Ignore then x else vNa x c)):=by
   rw[vxb x c h];cases x.Server.Ignore <;> rfl
  rw[e1,e2];simp only[Option.bind_some];have hy:SI (bif x.Server.Ignore then x else vNa x c) i/\(bif x.Server.Ignore then x else vNa x c).Server.Phase=2:=by
   cases x.Server.Ignore with
   | true=>exact ⟨h,h2⟩
   | false=>exact ⟨K0a h c,by rw[show (bif false then x else vNa x c)=vNa x c from rfl,(w7a x c).2];exact h2⟩
  generalize (bif x.Server.Ignore then x else vNa x c)=y at hy;obtain ⟨hy,hyp⟩:=hy;obtain ⟨q1,q2⟩:=wCb hy hyp;have hl:=hy.left hyp;rw[show (cv y).S=y.Server from rfl,show (cv y).Mails=y.mails from rfl,show (cv y).Replies=y.replies from rfl,q0a (n:=y.Server.Left - 1) (by omega) (by omega)];by_cases hz:y.Server.Left - 1=0
  .obtain ⟨c1,c2⟩:=wBb (vzb y) q1 (by omega);rw[if_pos hz];have hb:(y.Server.Left - 1==0)=true:=by rw[hz];rfl
   rw[hb];exact ⟨(congrArg (fun (o:Option zea)=>(o.bind fun v39=>some v39).bind fun (j24:zea)=>(some (Step.cont (((i+1:Nat):Int),j24)):Option (Step (Int × zea) zea))) c1).trans rfl,(congrArg (fun (o:Option zda)=>(o.bind fun v39=>some v39).bind fun (j24:zda)=>(some (Step.cont (((i+1:Nat):Int),j24)):Option (Step (Int × zda) zda))) c2).trans rfl⟩
  rw[if_neg hz,beq_eq_false_iff_ne.2 hz];exact ⟨rfl,rfl⟩
 rw[if_neg h2,beq_eq_false_iff_ne.2 h2];exact ⟨rfl,rfl⟩
def JGa(x:Ses)(b:List UInt8):Ses:=b.foldl Y6a x
theorem Jba(a1:List UInt8)(ha:a1.length<=1000000)(x:Ses)(h:SI x 0):iter (qma a1) ((0,x))=some (JGa x a1)/\iter (vza a1) ((0,cv x))=some (cv (JGa x a1))/\SI (JGa x a1) a1.length:=by
 obtain ⟨h1,h2⟩:=Zia a1 (fun i (s:Ses)=>(i,s)) Y6a id (fun i s=>SI s i) (body:=qma a1) (fun s _=>by unfold qma;rw[zMa];rfl) (fun i c s hc hs=>⟨(Zgb a1 ha i c s hc hs).1,kpb hs c⟩) x h;obtain ⟨h3,_⟩:=Zia a1 (fun i (s:Ses)=>(i,cv s)) Y6a cv (fun i s=>SI s i) (body:=vza a1) (fun s _=>by unfold vza;rw[zMa];rfl) (fun i c s hc hs=>⟨(Zgb a1 ha i c s hc hs).2,kpb hs c⟩) x h;exact ⟨h1,h3,h2⟩
def fl:List UInt8->List UInt8->List Str × List UInt8
 | cur,[]=>([],cur)
 | cur,[c]=>([],cur++ [c])
 | cur,c::d::r=>if c=13/\d=10 then (cur::(fl [] r).1,(fl [] r).2) else fl (cur++ [c]) (d::r)
theorem fl_hit(cur r:List UInt8):fl cur (13::10::r)=(cur::(fl [] r).1,(fl [] r).2):=by rw[fl,if_pos ⟨rfl,rfl⟩]
theorem vAb{c d:UInt8}(h:¬(c=13/\d=10))(cur r:List UInt8):fl cur (c::d::r)=fl (cur++ [c]) (d::r):=by rw[fl,if_neg h]
theorem Jca(c d:UInt8)(r:List UInt8):Lib.index (c::d::r) [13,10]=if c=13/\d=10 then 0 else if Lib.index (d::r) [13,10]= -1 then -1 else Lib.index (d::r) [13,10]+1:=by
 rw[Lib.index];by_cases h:c=13/\d=10
 .obtain ⟨rfl,rfl⟩:=h;simp
 rw[if_neg h,if_neg]
 .simp
 simp only[List.isPrefixOf,Bool.and_true,Bool.and_eq_true,beq_iff_eq];rintro ⟨rfl,rfl⟩;exact h ⟨rfl,rfl⟩
theorem fl_none(l:List UInt8):∀cur,Lib.index l [13,10]= -1->fl cur l=([],cur++l):=by
 induction l with
 | nil=>intro cur _;simp[fl]
 | cons c r ih=>
  intro cur h
  match r,ih with
  | [],_=>simp[fl]
  | d::r,ih=>
   rw[Jca]at h;have hg:=Lib.index_ge (d::r) [13,10];split at h
   .cases h
   rename_i hn;rw[vAb hn,ih]
   .simp
   split at h
   .assumption
   omega
theorem fl_some(l:List UInt8):∀(cur:List UInt8) (k:Nat),Lib.index l [13,10]=(k:Int)->k+2<=l.length/\fl cur l=((cur++l.take k)::(fl [] (l.drop (k+2))).1,(fl [] (l.drop (k+2))).2):=by
 induction l with
 | nil=>intro cur k h;simp[Lib.index]at h
 | cons c r ih=>
  intro cur k h
  match r,ih with
  | [],_=>simp[Lib.index]at h
  | d::r,ih=>
   rw[Jca]at h;have hg:=Lib.index_ge (d::r) [13,10];split at h
   .rename_i hn;obtain ⟨rfl,rfl⟩:=hn;obtain rfl:k=0:=by omega
    rw[fl_hit];simp
   rename_i hn;split at h
   .omega
   obtain ⟨j,rfl⟩:∃j,k=j+1:=⟨k - 1,by omega⟩;obtain ⟨h1,h2⟩:=ih (cur++ [c]) j (by omega);rw[vAb hn,h2];refine ⟨by simp at h1 ⊢;omega,?_⟩;simp
theorem fl_join(l:List UInt8)(cur:List UInt8):((fl cur l).1.flatMap fun x=>x++ [13,10])++(fl cur l).2=cur++l:=by
 fun_induction fl cur l with
 | case1 cur=>simp
 | case2 cur c=>simp
 | case3 cur c d r h ih=>obtain ⟨rfl,rfl⟩:=h;simpa using ih
 | case4 cur c d r h ih=>simpa using ih
theorem vBb(b:List UInt8)(hb:b.length < 8796093022208)(n:Nat):∀(from_ i:Nat) (out:List Str),from_ < i->b.length - i=n->out.length<=from_->i<=b.length+1->from_<=b.length->
 iter (kJa b) ((from_:Int),(i:Int),out)=some (((b.length - (fl ((b.drop from_).take (i - 1 - from_)) (b.drop (i - 1))).2.length:Nat):Int),out++(fl ((b.drop from_).take (i - 1 - from_)) (b.drop (i - 1))).1):=by
 induction n using Nat.strongRecOn with
 | _ n ih=>
  intro from_ i out h1 h2 h3 h5 h7;by_cases h4:i < b.length
  .have e1:b.drop (i - 1)=b[i - 1]::b[i]::b.drop (i+1):=by
    rw[List.drop_eq_getElem_cons (by omega)]
    congr 1
    rw[show i - 1+1=i by omega,List.drop_eq_getElem_cons h4]
   by_cases hx:b[i - 1]=13/\b[i]=10
   .have hbd:kJa b ((from_:Int),(i:Int),out)=some (.cont (((i+1:Nat):Int),((i+1:Nat):Int),out++ [(b.drop from_).take (i - 1 - from_)])):=by
     unfold kJa;simp (disch:=omega) only[jwb,wgb,kUb,Kja];simp only[hx,Option.bind_some];rw[kha (by simp;omega)];simp[h4,h1]
    rw[zNa hbd,e1,hx.1,hx.2,fl_hit];by_cases h6:i+1 < b.length
    .have hbd2:kJa b (((i+1:Nat):Int),((i+1:Nat):Int),out++ [(b.drop from_).take (i - 1 - from_)])=some (.cont (((i+1:Nat):Int),((i+2:Nat):Int),out++ [(b.drop from_).take (i - 1 - from_)])):=by
      unfold kJa;simp (disch:=omega) only[jwb,wgb,Kja];simp[h6,show (i:Int)+1 < b.length by omega];omega
     rw[zNa hbd2,ih (b.length - (i+2)) (by omega) (i+1) (i+2) _ (by omega) rfl (by simp;omega) (by omega) (by omega)];simp
    have hbd2:kJa b (((i+1:Nat):Int),((i+1:Nat):Int),out++ [(b.drop from_).take (i - 1 - from_)])=some (.out (((i+1:Nat):Int),out++ [(b.drop from_).take (i - 1 - from_)])):=by
     unfold kJa;simp[h6,show ¬(i:Int)+1 < b.length by omega]
    rw[zGa hbd2];have e2:b.drop (i+1)=[]:=List.drop_of_length_le (by omega);simp[e2,fl];omega
   have hbd:kJa b ((from_:Int),(i:Int),out)=some (.cont ((from_:Int),((i+1:Nat):Int),out)):=by
    unfold kJa;simp (disch:=omega) only[jwb,wgb,Kja];simp (disch:=decide) only[Option.bind_some,qWa,show decide ((i:Int) < b.length)=true by simp;omega,cond_true];by_cases a1:b[i]=10
    .have a2:b[i - 1]≠13:=fun h=>hx ⟨h,a1⟩
     simp[Bool.cond_eq_ite,a1,a2]
    simp[Bool.cond_eq_ite,a1]
   rw[zNa hbd,ih (b.length - (i+1)) (by omega) from_ (i+1) _ (by omega) rfl h3 (by omega) h7,e1,vAb hx];have e3:(b.drop from_).take (i+1 - 1 - from_)=(b.drop from_).take (i - 1 - from_)++ [b[i - 1]]:=by
    rw[show i+1 - 1 - from_=(i - 1 - from_)+1 by omega,List.take_add_one];simp[show from_+(i - 1 - from_)=i - 1 by omega,List.getElem?_eq_getElem (show i - 1 < b.length by omega)]
   have e4:b.drop (i+1 - 1)=b[i]::b.drop (i+1):=by
    rw[show i+1 - 1=i by omega,List.drop_eq_getElem_cons h4]
   rw[e3,e4]
  have hbd:kJa b ((from_:Int),(i:Int),out)=some (.out ((from_:Int),out)):=by
   unfold kJa;simp[h4]
  rw[zGa hbd];have e5:fl ((b.drop from_).take (i - 1 - from_)) (b.drop (i - 1))=([],b.drop from_):=by
   by_cases h6:i - 1 < b.length
   .rw[List.drop_eq_getElem_cons h6,show i - 1+1=b.length by omega];simp only[List.drop_length,fl,Prod.mk.injEq,true_and];have:=List.take_append_drop (i - 1 - from_) (b.drop from_);rw[List.drop_drop,show from_+(i - 1 - from_)=i - 1 by omega,List.drop_eq_getElem_cons h6,show i - 1+1=b.length by omega,List.drop_length]at this;exact this
   rw[show b.drop (i - 1)=[] from List.drop_of_length_le (by omega)];simp only[fl,Prod.mk.injEq,true_and];exact List.take_of_length_le (by simp;omega)
  rw[e5];simp;omega
theorem fl_rest(a:List UInt8):a.drop (a.length - (fl [] a).2.length)=(fl [] a).2:=by
 have hj:=fl_join a [];simp only[List.nil_append]at hj;have hx:a.length - (fl [] a).2.length=((fl [] a).1.flatMap fun x=>x++ [13,10]).length:=by
  have:=congrArg List.length hj;simp only[List.length_append]at this;omega
 rw[hx];have:=List.drop_left (l₁:=(fl [] a).1.flatMap fun x=>x++ [13,10]) (l₂:=(fl [] a).2);rw[hj]at this;exact this
theorem ysb(b:List UInt8)(hb:b.length < 8796093022208):Yya b=some (fl [] b):=by
 unfold Yya;have:=vBb b hb _ 0 1 [] (by omega) rfl (by simp) (by omega) (by omega);simp only[List.drop_zero,List.nil_append,Nat.sub_self,List.take_zero]at this;have e:(((0:Nat):Int),((1:Nat):Int),([]:List Str))=(0,1,[]):=rfl;rw[e]at this;rw[this];simp only[Option.bind_some];rw[jna (by omega),fl_rest];rfl
def Kta(name:Str)(size many:Int):zta:=if ZXa name=false∨40 < name.length then ⟨10, -20⟩ else if size < 1∨12000 < size then ⟨3, -21⟩ else if many < 1∨60 < many then ⟨3, -22⟩ else ⟨0,0⟩
theorem wDb(p q:Prop)[Decidable p][Decidable q]:(bif decide p then some true else some (decide q))=some (decide (p∨q)):=by
 by_cases hp:p <;> by_cases hq:q <;> simp[hp,hq]
theorem Zhb(b:Bool):(!b)=decide (b=false):=by cases b <;> rfl
theorem len40(s:Str):decide ((40:Int) < (s.length:Int))=decide (40 < s.length):=by rw[Bool.eq_iff_iff];simp;omega
theorem Zib(name:Str)(size many:Int)(h:name.length<=1048576):k0a name size many=some (Kta name size many):=by
 unfold k0a Kta;rw[Vfa _ h];simp only[Option.bind_some];rw[Zhb,len40,wDb,wDb,wDb];simp only[Option.bind_some,kna,qga];by_cases h1:ZXa name=false∨40 < name.length
 .rw[if_pos h1,decide_eq_true h1];rfl
 rw[if_neg h1,decide_eq_false h1];by_cases h2:size < 1∨12000 < size
 .rw[if_pos h2,decide_eq_true h2];rfl
 rw[if_neg h2,decide_eq_false h2];by_cases h3:many < 1∨60 < many
 .rw[if_pos h3,decide_eq_true h3];rfl
 rw[if_neg h3,decide_eq_false h3];rfl
theorem Zjb(a b c:Int):(!(decide (b<=a) && decide (a<=c)))=decide (a < b∨c < a):=by
 rw[Bool.eq_iff_iff];simp only[Bool.not_eq_true',Bool.and_eq_false_iff,decide_eq_false_iff_not,decide_eq_true_eq];omega
theorem qnb(s:zha)(h:s.Name.length<=1048576):vba s=some (Kta s.Name s.Size s.Many):=by
 unfold vba Kta;rw[QFa _ h];simp only[Option.bind_some];rw[Zhb,len40,wDb];simp only[Option.bind_some,vfa,jOa,Zjb];by_cases h1:ZXa s.Name=false∨40 < s.Name.length
 .rw[if_pos h1,decide_eq_true h1];rfl
 rw[if_neg h1,decide_eq_false h1];by_cases h2:s.Size < 1∨12000 < s.Size
 .rw[if_pos h2,decide_eq_true h2];rfl
 rw[if_neg h2,decide_eq_false h2];by_cases h3:s.Many < 1∨60 < s.Many
 .rw[if_pos h3,decide_eq_true h3];rfl
 rw[if_neg h3,decide_eq_false h3];rfl
theorem vCb(a b c:Bool):(bif a then some b else some c)=some (bif a then b else c):=by cases a <;> rfl
theorem vDb(a b:Bool):(bif a then b else false)=(a && b):=by cases a <;> rfl
theorem Zkb(a b:Bool):(bif a then true else b)=(a || b):=by cases a <;> rfl
theorem kqb(a b:Bool):(bif a then false else b)=(!a && b):=by cases a <;> rfl
theorem znb(a b c:Int):kWa a b c=some (decide (b<=a) && decide (a<=c)):=by
 unfold kWa;cases decide (b<=a) <;> rfl
def ytb(b:List UInt8):Bool:=decide (Lib.index b [13,10]≠ -1)
theorem vEb(b:List UInt8)(h:b.length<=1048576):v3a b [13,10]=some (ytb b):=by
 unfold v3a Zza ytb;rw[if_pos ⟨by omega,rfl⟩];simp only[Option.bind_some,Option.some.injEq];rw[Bool.eq_iff_iff];simp
theorem Zlb(b:List UInt8)(h:b.length<=1048576):Kia b=some (ytb b):=by
 unfold Kia ytb;rw[ysb b (by omega)];simp only[Option.bind_some,Option.some.injEq];by_cases hi:Lib.index b [13,10]= -1
 .rw[fl_none b [] hi,hi];rfl
 have hge:=Lib.index_ge b [13,10];obtain ⟨k,hk⟩:∃k:Nat,Lib.index b [13,10]=(k:Int):=⟨(Lib.index b [13,10]).toNat,by omega⟩;rw[(fl_some b [] k hk).2,decide_eq_true hi];simp
def okB(s:zha):Bool:=
 !((s.From !=([]:Str) && !qIa s.From) || decide (s.Many < (s.To.length:Int)) || (recF s.To).Code !=0) &&
 !((!s.Greeted && s.Mailing) || (!s.Mailing && (s.From !=([]:Str) || !s.To.isEmpty)) || (s.Chunked && s.To.isEmpty)) &&
 !(decide (s.Size < (s.Data.length:Int)) || decide (s.Lost < 0∨1099511627776 < s.Lost) || decide (s.Count < 0∨1000000 < s.Count)) &&
 !((decide (0 < (s.Data.length:Int)) || decide (0 < s.Lost)) && (!s.Chunked && s.Phase !=1)) &&
 (
  bif s.Phase==0 then decide ((s.Buffer.length:Int) < 4002) && (!ytb s.Buffer && (s.Dots==0 && (s.Left==0 && (!s.Last && !s.Ignore))))
  else bif s.Phase==1 then !s.To.isEmpty && (!s.Chunked && (s.Buffer.isEmpty && (decide (0<=s.Dots) && decide (s.Dots<=4) && (s.Left==0 && (!s.Last && !s.Ignore)))))
  else bif s.Phase==2 then (s.Ignore==s.To.isEmpty) && ((s.Ignore== !s.Chunked) && (s.Buffer.isEmpty && (s.Dots==0 && (decide (1<=s.Left) && decide (s.Left<=1000000)))))
  else bif s.Phase==3 then !s.Mailing && (s.Buffer.isEmpty && (s.Dots==0 && (s.Left==0 && (!s.Last && !s.Ignore)))) else false)
structure Wya (s:zha):Prop where
 frm:s.From.length<=1048576
 tos:J1a s.To
 buf:s.Buffer.length<=1048576
 data:s.Data.length<=1048576
 name:s.Name.length<=1048576
theorem vFb(l:List zca):decide ((0:Int) < (l.length:Int))= !l.isEmpty:=by cases l <;> simp
theorem wEb(l:List UInt8):decide ((0:Int) < (l.length:Int))= !l.isEmpty:=by cases l <;> simp
theorem V9a(l:List UInt8):((l.length:Int)==0)=l.isEmpty:=by cases l <;> simp;omega
theorem phase_eq(s:zha)(h:Wya s):yta s=some (bif s.Phase==0 then decide ((s.Buffer.length:Int) < 4002) && (!ytb s.Buffer && (s.Dots==0 && (s.Left==0 && (!s.Last && !s.Ignore))))
 else bif s.Phase==1 then !s.To.isEmpty && (!s.Chunked && (s.Buffer.isEmpty && (decide (0<=s.Dots) && decide (s.Dots<=4) && (s.Left==0 && (!s.Last && !s.Ignore)))))
 else bif s.Phase==2 then (s.Ignore==s.To.isEmpty) && ((s.Ignore== !s.Chunked) && (s.Buffer.isEmpty && (s.Dots==0 && (decide (1<=s.Left) && decide (s.Left<=1000000)))))
 else bif s.Phase==3 then !s.Mailing && (s.Buffer.isEmpty && (s.Dots==0 && (s.Left==0 && (!s.Last && !s.Ignore)))) else false):=by
 unfold yta;rw[vEb _ h.buf];simp only[Option.bind_some,znb,vFb,Ksa,V9a,vCb,vDb,Zkb,kqb]
theorem Zmb(s:zha)(h:Wya s):wFa s=some (okB s):=by
 have h1:=h.frm;unfold wFa okB;rw[qYa _ (by omega),ZYa _ h.tos,phase_eq s h];simp only[Option.bind_some,znb,kea,vCb,vDb,Zkb,kqb,vFb,Ksa,V9a,wEb,Zjb,Option.some.injEq];cases s.From !=([]:Str) <;> cases qIa s.From <;> cases s.Greeted <;> cases s.Mailing <;> cases s.Chunked <;> cases s.To.isEmpty <;> cases s.Data.isEmpty <;> simp[Bool.and_assoc]
theorem env_to(l:List zca)(h60:l.length<=60):(!l.isEmpty && (envF ⟨[],l,[]⟩).Code !=0)=((recF l).Code !=0):=by
 cases l with
 | nil=>rfl
 | cons x l=>
  unfold envF;rw[show fromB (⟨[],x::l,[]⟩:zKa).From=false from rfl,if_neg (by simp),show (decide ((⟨[],x::l,[]⟩:zKa).To.length < 1) || decide (60 < (⟨[],x::l,[]⟩:zKa).To.length))=false by simp at h60 ⊢;omega,if_neg (by simp),show (((⟨[],x::l,[]⟩:zKa).Id !=([]:Str)) && !ZXa (⟨[],x::l,[]⟩:zKa).Id)=false from rfl,if_neg (by simp)];simp
theorem yub(s:zha)(h:Wya s)(hm:s.Many<=60):Zea s=some (okB s):=by
 have h1:=h.frm;unfold Zea okB;rw[yba _ (by omega),Vga ⟨[],s.To,[]⟩ ⟨by simp,by simp,h.tos⟩,Zlb _ h.buf];simp only[Option.bind_some,vfa,vCb,vDb,Zkb,kqb,vFb,Ksa,V9a,wEb,Zjb,Option.some.injEq];by_cases hlen:s.Many < (s.To.length:Int)
 .rw[decide_eq_true hlen];simp
 rw[decide_eq_false hlen,env_to s.To (by omega)];have e:decide ((s.Buffer.length:Int)<=4001)=decide ((s.Buffer.length:Int) < 4002):=by rw[Bool.eq_iff_iff];simp only[decide_eq_true_eq];omega
 rw[e];by_cases p0:s.Phase=0
 .rw[p0];simp only[show ((0:Int)==0)=true from rfl,show ((0:Int) !=0)=false from rfl,show ((0:Int) !=1)=true from rfl,show ((0:Int) !=2)=true from rfl,cond_true,Bool.false_and,Bool.true_and,Bool.false_or];cases s.From !=([]:Str) <;> cases qIa s.From <;> cases s.Greeted <;> cases s.Mailing <;> cases s.Chunked <;> cases s.To.isEmpty <;> simp[bne,Bool.and_assoc] <;> grind
 by_cases p1:s.Phase=1
 .rw[p1];simp only[show ((1:Int)==0)=false from rfl,show ((1:Int)==1)=true from rfl,show ((1:Int) !=0)=true from rfl,show ((1:Int) !=1)=false from rfl,show ((1:Int) !=2)=true from rfl,cond_true,cond_false,Bool.false_and,Bool.true_and,Bool.false_or,Bool.and_false];cases s.From !=([]:Str) <;> cases qIa s.From <;> cases s.Greeted <;> cases s.Mailing <;> cases s.Chunked <;> cases s.To.isEmpty <;> simp[bne,Bool.and_assoc] <;> grind
 by_cases p2:s.Phase=2
 .rw[p2];simp only[show ((2:Int)==0)=false from rfl,show ((2:Int)==1)=false from rfl,show ((2:Int)==2)=true from rfl,show ((2:Int) !=0)=true from rfl,show ((2:Int) !=1)=true from rfl,show ((2:Int) !=2)=false from rfl,cond_true,cond_false,Bool.false_and,Bool.true_and,Bool.false_or,Bool.and_false];cases s.From !=([]:Str) <;> cases qIa s.From <;> cases s.Greeted <;> cases s.Mailing <;> cases s.Chunked <;> cases s.To.isEmpty <;> simp[bne,Bool.and_assoc] <;> grind
 rw[beq_eq_false_iff_ne.2 p0,beq_eq_false_iff_ne.2 p1,beq_eq_false_iff_ne.2 p2,bne_iff_ne.2 p0,bne_iff_ne.2 p1,bne_iff_ne.2 p2];simp only[cond_true,cond_false,Bool.false_and,Bool.true_and,Bool.false_or,Bool.and_false];cases s.From !=([]:Str) <;> cases qIa s.From <;> cases s.Greeted <;> cases s.Mailing <;> cases s.Chunked <;> cases s.To.isEmpty <;> simp[bne,Bool.and_assoc] <;> grind
theorem recF_inv{l:List zca}(h:(recF l).Code=0):(∀r∈l,qIa r.Address=true/\qKa r.Notify=true)/\(l.map (·.Address)).Nodup:=by
 have hz:zEa (recQ l) 0 l=none:=by
  unfold recF at h;cases hf:zEa (recQ l) 0 l with
  | none=>rfl
  | some f=>
   exfalso;rw[hf]at h;obtain ⟨i,x,hx,hq⟩:=ZEa hf;unfold recQ at hq;split at hq
   .cases hq;simp at h
   split at hq
   .cases hq;simp at h
   split at hq
   .cases hq;simp at h
   cases hq
 rw[qXa]at hz;have key:∀(i:Nat) r,l[i]? =some r->qIa r.Address=true/\qKa r.Notify=true/\(l.take i).any (fun x=>x.Address==r.Address)=false:=by
  intro i r hr;have:=hz i r hr;rw[Nat.zero_add]at this;unfold recQ at this;cases h1:qIa r.Address with
  | false=>rw[h1]at this;simp at this
  | true=>
   cases h2:qKa r.Notify with
   | false=>rw[h1,h2]at this;simp at this
   | true=>
    cases h3:(l.take i).any (fun x=>x.Address==r.Address) with
    | true=>rw[h1,h2,h3]at this;simp at this
    | false=>exact ⟨rfl,rfl,rfl⟩
 refine ⟨fun r hr=>?_,?_⟩
 .obtain ⟨i,hi⟩:=List.getElem?_of_mem hr;exact ⟨(key i r hi).1,(key i r hi).2.1⟩
 rw[List.Nodup,List.pairwise_iff_getElem];intro i j hi hj hij;simp only[List.length_map]at hi hj;simp only[List.getElem_map];have h3:=(key j l[j] (List.getElem?_eq_getElem hj)).2.2;rw[List.any_eq_false]at h3;have:=h3 l[i] (List.mem_of_getElem? (i:=i) (by rw[List.getElem?_take_of_lt hij];exact List.getElem?_eq_getElem hi));simpa using this
def qob:zha:=⟨[],0,0,0,false,false,[],[],[],[],0,0,false,0,false,false,0⟩
def srvF(s:zha):zta:=if (Kta s.Name s.Size s.Many).Code≠0 then Kta s.Name s.Size s.Many else if okB s=false then ⟨5, -23⟩ else ⟨0,0⟩
def Znb(s:zha)(b:List UInt8):zha × List zka × List zza × zta:=
 if (srvF s).Code≠0 then (qob,[],[],srvF s) else if 40000 < b.length then (qob,[],[],⟨1, -1⟩) else ((JGa ⟨s,[],[]⟩ b).Server,(JGa ⟨s,[],[]⟩ b).replies,(JGa ⟨s,[],[]⟩ b).mails,⟨0,0⟩)
theorem Jda{n:Str}{a b:Int}(h:(Kta n a b).Code=0):Kta n a b=⟨0,0⟩/\n.length<=40/\ZXa n=true/\(1<=a/\a<=12000)/\(1<=b/\b<=60):=by
 unfold Kta at h ⊢;by_cases h1:ZXa n=false∨40 < n.length
 .rw[if_pos h1]at h;exact absurd h (by decide)
 rw[if_neg h1]at h ⊢;by_cases h2:a < 1∨12000 < a
 .rw[if_pos h2]at h;exact absurd h (by decide)
 rw[if_neg h2]at h ⊢;by_cases h3:b < 1∨60 < b
 .rw[if_pos h3]at h;exact absurd h (by decide)
 rw[if_neg h3];refine ⟨rfl,by omega,?_,by omega,by omega⟩;cases hn:ZXa n with
 | true=>rfl
 | false=>exact absurd (.inl hn) h1
theorem wFb{s:zha}(h:(srvF s).Code=0):(Kta s.Name s.Size s.Many).Code=0/\okB s=true/\srvF s=⟨0,0⟩:=by
 unfold srvF at h ⊢;by_cases h1:(Kta s.Name s.Size s.Many).Code≠0
 .rw[if_pos h1]at h;exact absurd h h1
 rw[if_neg h1]at h ⊢;by_cases h2:okB s=false
 .rw[if_pos h2]at h;exact absurd h (by decide)
 rw[if_neg h2];exact ⟨Decidable.not_not.1 h1,by simpa using h2,rfl⟩
theorem W8a{s:zha}(h:(srvF s).Code=0):SI ⟨s,[],[]⟩ 0:=by
 obtain ⟨hc,ho,_⟩:=wFb h;obtain ⟨_,c1,c2,c3,c4⟩:=Jda hc;unfold okB at ho;simp only[Bool.and_eq_true]at ho;obtain ⟨⟨⟨⟨o1,o2⟩,o3⟩,o4⟩,o5⟩:=ho;simp only[Bool.not_eq_true',Bool.or_eq_false_iff,decide_eq_false_iff_not]at o1 o2 o3;obtain ⟨⟨f1,f2⟩,f3⟩:=o1;obtain ⟨⟨g1,g2⟩,g3⟩:=o2;obtain ⟨⟨d1,d2⟩,d3⟩:=o3;have hrec:(recF s.To).Code=0:=by simpa[bne]using f3
 refine ⟨c3,c4,c1,by show (s.Data.length:Int)<=s.Size;omega,?_,⟨by show s.To.length<=60;omega,(recF_inv hrec).1⟩,by show 0<=s.Lost/\s.Lost<=_;omega,by show 0<=s.Count/\s.Count<=_;omega,?_,?_,?_,Nat.le_refl _,Nat.le_refl _⟩
 .show s.Buffer.length<=4001;by_cases p0:s.Phase=0
  .rw[p0]at o5;simp at o5;omega
  have:s.Buffer.isEmpty=true:=by
   rw[beq_eq_false_iff_ne.2 p0]at o5;by_cases p1:s.Phase=1
   .rw[p1]at o5;simp at o5;simp[o5]
   by_cases p2:s.Phase=2
   .rw[p2]at o5;simp at o5;simp[o5]
   by_cases p3:s.Phase=3
   .rw[p3]at o5;simp at o5;simp[o5]
   rw[beq_eq_false_iff_ne.2 p1,beq_eq_false_iff_ne.2 p2,beq_eq_false_iff_ne.2 p3]at o5;cases o5
  rw[List.isEmpty_iff.1 this];simp
 .intro p2;have p2:s.Phase=2:=p2;rw[p2]at o5;simp at o5;show 1<=s.Left/\s.Left<=1000000;exact ⟨o5.2.2.2.2.1,o5.2.2.2.2.2⟩
 .intro e;have e:s.To=[]:=e;show s.Chunked=false;rw[e]at g3;simpa using g3
 intro p1;have p1:s.Phase≠1:=p1;show s.Dots=0;by_cases p0:s.Phase=0
 .rw[p0]at o5;simp at o5;exact o5.2.2.1
 rw[beq_eq_false_iff_ne.2 p0,beq_eq_false_iff_ne.2 p1]at o5;by_cases p2:s.Phase=2
 .rw[p2]at o5;simp at o5;exact o5.2.2.2.1
 by_cases p3:s.Phase=3
 .rw[p3]at o5;simp at o5;exact o5.2.2.1
 rw[beq_eq_false_iff_ne.2 p2,beq_eq_false_iff_ne.2 p3]at o5;cases o5
theorem Zob(s:zha)(b:List UInt8)(h:Wya s)(hb:b.length<=1048576):w0a s b=some (Znb s b):=by
 unfold w0a Znb;rw[Zib _ _ _ h.name];simp only[Option.bind_some,kea];by_cases hc:(Kta s.Name s.Size s.Many).Code=0
 .rw[hc,Zmb s h];simp only[show ((0:Int) !=0)=false from rfl,cond_false,Option.bind_some];cases ho:okB s with
  | false=>
   have e:srvF s=⟨5, -23⟩:=by unfold srvF;rw[if_neg (by simp[hc]),if_pos ho]
   rw[e,if_pos (by decide)];rfl
  | true=>
   have e:srvF s=⟨0,0⟩:=by unfold srvF;rw[if_neg (by simp[hc]),if_neg (by simp[ho])]
   rw[e,if_neg (by decide)];simp only[Bool.not_true,cond_false];by_cases h4:40000 < b.length
   .rw[if_pos h4,decide_eq_true (by omega)];rfl
   rw[if_neg h4,decide_eq_false (by omega)];simp only[cond_false];have hsi:=W8a (s:=s) (by rw[e]);rw[Y7a _ h.tos.1,Y8a _ h.buf,Y8a _ h.data];simp only[Option.bind_some];rw[show (⟨⟨s.Name,s.Size,s.Many,s.Phase,s.Greeted,s.Mailing,s.From,s.To,s.Buffer,s.Data,s.Lost,s.Dots,s.Chunked,s.Left,s.Last,s.Ignore,s.Count⟩,([]:List zka),([]:List zza)⟩:Ses)=⟨s,[],[]⟩ from rfl,(Jba b (by omega) _ hsi).1];rfl
 have e:srvF s=Kta s.Name s.Size s.Many:=by unfold srvF;rw[if_pos hc]
 rw[e,if_pos hc,bne_iff_ne.2 hc];rfl
theorem Zpb(s:zha)(h:Wya s):v4a s=some (srvF s):=by
 unfold v4a srvF;rw[qnb s h.name];simp only[Option.bind_some];by_cases hc:(Kta s.Name s.Size s.Many).Code=0
 .obtain ⟨e,_,_,_,hm⟩:=Jda hc;rw[if_neg (by simp[hc]),hc,yub s h hm.2];simp only[show ((0:Int)==0)=true from rfl,cond_true,Option.bind_some];cases ho:okB s with
  | false=>rfl
  | true=>
   rw[if_neg (by simp)];rw[e];rfl
 rw[if_pos hc,beq_eq_false_iff_ne.2 hc];rfl
theorem Zqb(s:zha)(b:List UInt8)(h:(srvF s).Code=0)(hb:b.length<=1000000):Kha s b=some (cv (JGa ⟨s,[],[]⟩ b)):=by
 have hsi:=W8a h;have hd:=hsi.data;have hz:=hsi.size;have hd:(s.Data.length:Int)<=s.Size:=hd;have hz:1<=s.Size/\s.Size<=12000:=hz;unfold Kha;rw[kha (by simp;omega)];simp only[Option.bind_some,List.nil_append];rw[show (⟨⟨s.Name,s.Size,s.Many,s.Phase,s.Greeted,s.Mailing,s.From,s.To,s.Buffer,s.Data,s.Lost,s.Dots,s.Chunked,s.Left,s.Last,s.Ignore,s.Count⟩,([]:List zka),([]:List zza)⟩:zda)=cv ⟨s,[],[]⟩ from rfl,(Jba b hb _ hsi).2.1];rfl
def newF(n:Str)(a b:Int):zha × zka × zta:=if (Kta n a b).Code≠0 then (qob,⟨0,[]⟩,Kta n a b) else (⟨n,a,b,0,false,false,[],[],[],[],0,0,false,0,false,false,0⟩,⟨220,[n]⟩,⟨0,0⟩)
theorem New_eq(n:Str)(a b:Int)(h:n.length<=1048576):ySa n a b=some (newF n a b)/\Woa n a b=some (newF n a b):=by
 unfold ySa Woa newF;rw[Zib _ _ _ h,qnb _ h];simp only[Option.bind_some,kea];by_cases hc:(Kta n a b).Code=0
 .obtain ⟨e,_⟩:=Jda hc;rw[if_neg (by simp[hc]),hc,e];exact ⟨rfl,rfl⟩
 rw[if_pos hc,bne_iff_ne.2 hc];exact ⟨rfl,rfl⟩
def exIn:List UInt8:=[104,101,108,108,111,32,99,13,10,109,97,105,108,32,60,115,64,120,62,13,10,114,99,112,116,32,60,97,64,121,62,13,10,100,97,116,97,13,10,13,10,46,46,13,10,46,13,10,110,111,111,112,13,10]
def exS:zha:=⟨[109,120],1000,10,0,false,false,[],[],[],[],0,0,false,0,false,false,0⟩
def exId:Str:=[109,120]++ [45]++Lib.decDigits 1
def qpb:Ses:=⟨⟨[109,120],1000,10,0,true,false,[],[],[],[],0,0,false,0,false,false,1⟩,
 [⟨250,[[109,120],sizeW' ++Lib.decDigits 1000,Y5a++Lib.decDigits 10]⟩,⟨250,[okW]⟩,⟨250,[okW]⟩,⟨354,[[103,111,32,111,110]]⟩,⟨250,[exId]⟩,⟨250,[okW]⟩],
 [⟨⟨[115,64,120],[⟨[97,64,121],1⟩],exId⟩,⟨[],[46,13,10]⟩⟩]⟩
theorem ex_feed:JGa ⟨exS,[],[]⟩ exIn=qpb:=by kernel_rfl
theorem ex_small:Wya exS:=⟨by decide,⟨by decide,fun r hr=>by cases hr⟩,by decide,by decide,by decide⟩
theorem exId_eq:exId=[109,120,45,49]:=by unfold exId;rw[kDa (by decide)];rfl
theorem ex_srv:srvF exS=⟨0,0⟩:=by kernel_rfl
theorem ex_new:newF [109,120] 1000 10=(exS,⟨220,[[109,120]]⟩,⟨0,0⟩):=by kernel_rfl
theorem ex_bad:newF [] 1 1=(qob,⟨0,[]⟩,⟨10, -20⟩):=by kernel_rfl
theorem ex_feedF:Znb exS exIn=(qpb.Server,qpb.replies,qpb.mails,⟨0,0⟩):=by
 unfold Znb;rw[ex_srv,if_neg (by decide),if_neg (by decide),ex_feed]
theorem Zrb:Zfa=some true:=by
 unfold Zfa;rw[(New_eq [109,120] 1000 10 (by decide)).1,ex_new];simp only[Option.bind_some];rw[show ([(104:UInt8),(101:UInt8),(108:UInt8),(108:UInt8),(111:UInt8),(32:UInt8),(99:UInt8),(13:UInt8),(10:UInt8),(109:UInt8),(97:UInt8),(105:UInt8),(108:UInt8),(32:UInt8),(60:UInt8),(115:UInt8),(64:UInt8),(120:UInt8),(62:UInt8),(13:UInt8),(10:UInt8),(114:UInt8),(99:UInt8),(112:UInt8),(116:UInt8),(32:UInt8),(60:UInt8),(97:UInt8),(64:UInt8),(121:UInt8),(62:UInt8),(13:UInt8),(10:UInt8),(100:UInt8),(97:UInt8),(116:UInt8),(97:UInt8),(13:UInt8),(10:UInt8),(13:UInt8),(10:UInt8),(46:UInt8),(46:UInt8),(13:UInt8),(10:UInt8),(46:UInt8),(13:UInt8),(10:UInt8),(110:UInt8),(111:UInt8),(111:UInt8),(112:UInt8),(13:UInt8),(10:UInt8)]:List UInt8)=exIn from rfl,Zob exS exIn ex_small (by decide),ex_feedF,(New_eq [] 1 1 (by decide)).1,ex_bad];simp only[Option.bind_some,jOa];rw[show idx qpb.replies 3=some ⟨354,[[103,111,32,111,110]]⟩ from rfl,show idx qpb.replies 4=some ⟨250,[exId]⟩ from rfl,show idx qpb.replies 5=some ⟨250,[okW]⟩ from rfl,show idx qpb.mails 0=some ⟨⟨[115,64,120],[⟨[97,64,121],1⟩],exId⟩,⟨[],[46,13,10]⟩⟩ from rfl];simp only[Option.bind_some];rw[Wpa _ _ (by simp),exId_eq];rfl
theorem QNa(s:zha)(h:s.To.length<=1048576):qfa s s=some true:=by
 unfold qfa;rw[QHa _ _ h];simp
theorem vGb(r:zka)(h:r.Lines.length<=1048576):y7a r r=some true:=by
 unfold y7a;rw[Wpa _ _ (by omega)];simp
theorem qqb(l:List zka)(hl:l.length<=1048576)(h:∀r∈l,r.Lines.length<=1048576):wGa l l=some true:=by
 unfold wGa;rw[show (((l.length:Nat):Int) !=((l.length:Nat):Int))=false by simp];simp only[cond_false];rw[zIa l (fun _ _=>(none:Option Bool)) (.inl ()) .inr]
 .have:∀(l:List zka) (n:Nat),zEa (fun _ _=>(none:Option Bool)) n l=none:=by
   intro l;induction l with
   | nil=>intro n;rfl
   | cons x l ih=>intro n;exact ih (n+1)
  rw[this];rfl
 .unfold v8a;rw[zMa];rfl
 intro i r hr;have hi:=zOa hr;unfold v8a;rw[kia hr,zHa hr];simp only[cond_true,Option.bind_some];rw[vGb r (h r (List.mem_of_getElem? hr))];simp only[Option.bind_some,Bool.not_true,cond_false];rw[sc i (by omega)];rfl
theorem Zsb{s:zha}(h:zha.bk s<=1048576):Wya s:=by
 unfold zha.bk at h;dsimp only at h;have h1:=z2b (bk:=fun _:UInt8=>1) (fun x=>by simp) s.Buffer;have h2:=z2b (bk:=fun _:UInt8=>1) (fun x=>by simp) s.Data;exact ⟨by omega,jAb (by omega),by omega,by omega,by omega⟩
def Out(x:Ses):Prop:=(∀r∈x.replies,r.Lines.length<=3)/\∀m∈x.mails,m.Envelope.To.length<=60/\m.Message.Fields.length<=60
theorem kKa{x:Ses}(h:Out x){code:Int}{l:List Str}(hl:l.length<=3):Out (sayS x code l):=by
 refine ⟨fun r hr=>?_,h.2⟩;rcases List.mem_append.1 hr with hr | hr
 .exact h.1 r hr
 rw[List.mem_singleton]at hr;subst hr;exact hl
theorem qrb(b:List UInt8):(ZIa b).1.Fields.length<=60:=by
 unfold ZIa;split
 .simp[zeroM]
 split
 .show ((yza b).2.map woa).length<=60;rw[List.length_map];omega
 simp[zeroM]
theorem qsb{x:Ses}(h:Out x)(h60:x.Server.To.length<=60):Out (JFa x):=by
 unfold JFa;show Out (if 0 < x.Server.Lost then _ else _);split
 .exact kKa h (by decide)
 split
 .exact kKa h (by decide)
 have key:Out ⟨{x.Server with Count:=x.Server.Count+1},x.replies,x.mails++ [⟨⟨x.Server.From,x.Server.To,idS x.Server⟩,(ZIa x.Server.Data).1⟩]⟩:=⟨h.1,fun m hm=>by
  rcases List.mem_append.1 hm with hm | hm
  .exact h.2 m hm
  rw[List.mem_singleton]at hm;subst hm;exact ⟨h60,qrb _⟩⟩
 exact kKa key (show (1:Nat)<=3 by omega)
theorem zob{x:Ses}(h:Out x)(h60:x.Server.To.length<=60):Out (Qta x):=by
 unfold Qta;cases x.Server.Ignore with
 | true=>exact kKa (x:=⟨{x.Server with Phase:=0,Last:=false,Ignore:=false},x.replies,x.mails⟩) h (by decide)
 | false=>
  cases x.Server.Last with
  | true=>exact qsb (x:=⟨{x.Server with Phase:=0,Last:=false,Ignore:=false},x.replies,x.mails⟩) h h60
  | false=>exact kKa (x:=⟨{x.Server with Phase:=0,Last:=false,Ignore:=false},x.replies,x.mails⟩) h (by decide)
theorem Ztb{x:Ses}(h:Out x)(h60:x.Server.To.length<=60)(c:zoa):Out (qib x c):=by
 unfold qib;split
 .exact kKa (x:=⟨{(abS x).Server with Greeted:=true},x.replies,x.mails⟩) h (by simp)
 split
 .cases !x.Server.Greeted || x.Server.Mailing with
  | true=>exact kKa h (by decide)
  | false=>
   simp only[cond_false];split
   .exact kKa h (by decide)
   exact kKa (x:=⟨{x.Server with Mailing:=true,From:=c.Address},x.replies,x.mails⟩) h (by decide)
 split
 .unfold vub;cases !x.Server.Mailing || x.Server.Chunked with
  | true=>exact kKa h (by decide)
  | false=>
   simp only[cond_false];split
   .exact kKa h (by decide)
   exact kKa (x:=⟨{x.Server with To:=addR x c},x.replies,x.mails⟩) h (by decide)
 split
 .cases x.Server.To.isEmpty || x.Server.Chunked with
  | true=>exact kKa h (by decide)
  | false=>exact kKa (x:=⟨{x.Server with Phase:=1},x.replies,x.mails⟩) h (by decide)
 split
 .split
  .exact zob (x:=⟨{x.Server with Phase:=2,Left:=c.Size,Last:=c.Last,Ignore:=x.Server.To.isEmpty,Chunked:= !x.Server.To.isEmpty},x.replies,x.mails⟩) h h60
  exact h
 split
 .exact kKa (x:=abS x) h (by decide)
 split
 .exact kKa (x:=⟨{(abS x).Server with Phase:=3,Buffer:=[]},x.replies,x.mails⟩) h (by decide)
 exact kKa h (by decide)
theorem Vta{x:Ses}(h:Out x)(c:UInt8):Out (vNa x c)/\(vNa x c).Server.To=x.Server.To:=by
 unfold vNa;split <;> exact ⟨h,rfl⟩
theorem Zub{x:Ses}(h:Out x)(h60:x.Server.To.length<=60)(c:UInt8):Out (Y6a x c):=by
 unfold Y6a;split
 .unfold vvb;split
  .dsimp only;split
   .exact kKa (x:=bufS x []) h (by decide)
   split
   .exact Ztb (x:=bufS x []) h h60 _
   exact kKa (x:=bufS x []) h (by decide)
  split
  .exact kKa (x:=⟨{(abS x).Server with Phase:=3,Buffer:=[]},x.replies,x.mails⟩) h (by decide)
  exact h
 split
 .unfold vwb;split
  .exact h
  split
  .exact h
  split
  .exact qsb (x:=⟨{x.Server with Phase:=0,Dots:=0},x.replies,x.mails⟩) h h60
  split
  .exact (Vta (Vta h 13).1 c).1
  exact (Vta h c).1
 split
 .have hy:Out (bif x.Server.Ignore then x else vNa x c)/\(bif x.Server.Ignore then x else vNa x c).Server.To=x.Server.To:=by
   cases x.Server.Ignore with
   | true=>exact ⟨h,rfl⟩
   | false=>exact Vta h c
  generalize (bif x.Server.Ignore then x else vNa x c)=y at hy;dsimp only;split
  .exact zob (x:=⟨{y.Server with Left:=y.Server.Left - 1},y.replies,y.mails⟩) hy.1 (by show y.Server.To.length<=60;rw[hy.2];exact h60)
  exact hy.1
 exact h
theorem qtb:∀(b:List UInt8) (x:Ses) (n:Nat),SI x n->Out x->Out (JGa x b)
 | [],x,n,_,h=>h
 | c::b,x,n,hs,h=>qtb b (Y6a x c) (n+1) (kpb hs c) (Zub h hs.tos.1 c)
theorem out0(s:zha):Out ⟨s,[],[]⟩:=⟨fun r hr=>(by cases hr),fun m hm=>(by cases hm)⟩
theorem jTa(a0:zha)(a1:List UInt8)(o0:zha.ok a0)(o1:okL (fun _=>True) a1)(hk:zha.bk a0+bkL (fun _=>1) a1<=1048576):qta a0 a1=some true:=by
 have hs:Wya a0:=Zsb (by omega);have hd:=z2b (bk:=fun _:UInt8=>1) (fun x=>by simp) a1;have hb1:a1.length<=1048576:=by omega
 unfold qta;rw[Zob a0 a1 hs hb1,Zpb a0 hs,Zrb];simp only[Option.bind_some,Bool.not_true,cond_false,cond_true];unfold Znb;by_cases h0:(srvF a0).Code=0
 .obtain ⟨_,_,e⟩:=wFb h0;rw[if_neg (by simp[h0]),e];simp only[show ((0:Int)==0)=true from rfl,cond_true,Option.bind_some];by_cases h4:40000 < a1.length
  .rw[if_pos h4,decide_eq_true (show (40000:Int) < (a1.length:Int) by omega)];simp only[cond_true,jOa,Option.bind_some];rw[show qfa qob ⟨[],0,0,0,false,false,[],[],[],[],0,0,false,0,false,false,0⟩=some true from QNa qob (by decide)];rfl
  rw[if_neg h4,decide_eq_false (show ¬(40000:Int) < (a1.length:Int) by omega),Zqb a0 a1 h0 (by omega)];simp only[cond_false,Option.bind_some];have hsi:=(Jba a1 (by omega) _ (W8a h0)).2.2;have ho:=qtb a1 _ _ (W8a h0) (out0 a0);generalize JGa ⟨a0,[],[]⟩ a1=x at hsi ho;have h60:=hsi.tos.1;have hr:=hsi.reps;have hm:=hsi.mails;rw[show (cv x).S=x.Server from rfl,show (cv x).Mails=x.mails from rfl,show (cv x).Replies=x.replies from rfl,QNa _ (by omega),qqb _ (by omega) (fun r hr=>by have:=ho.1 r hr;omega),WIa _ (by omega) (fun m hm=>by have:=ho.2 m hm;omega)];rfl
 rw[if_pos h0,beq_eq_false_iff_ne.2 h0];simp only[cond_false,Option.bind_some];rw[show qfa qob ⟨[],0,0,0,false,false,[],[],[],[],0,0,false,0,false,false,0⟩=some true from QNa qob (by decide)];have e1:wqa [((srvF a0).Code==(srvF a0).Code),((srvF a0).Index==(srvF a0).Index)]=true:=by simp[wqa]
 rw[e1,bne_iff_ne.2 h0];rfl
theorem z7a(a0:Int)(a1:Int)(r:zta)(hr:R_At a0 a1=some r):Run prog 15 [.i a0,.i a1] (.agg [.i r.Code,.i r.Index]):=by
 unfold R_At at hr;refine rf (fn:=f15) ⟨func15,rfl,by kernel_rfl⟩ rfl (fun _=>rfl) fun g0 hg=>?_
 refine rn tk 14 rfl ?_;cases hr;exact kr tk (.inr rfl) rfl rfl
theorem Vua(a0:List Str)(a1:List Str)(r:Bool)(hr:j6a a0 a1=some r):Run prog 32 [.l cS a0,.l cS a1] (.bo r):=by
 unfold j6a at hr;refine rf (fn:=f32) ⟨func32,rfl,by kernel_rfl⟩ rfl (fun _=>rfl) fun g0 hg=>?_
 refine rn tk 9 rfl<|wn tk rfl rfl rfl<|rn tk 1 rfl<|wn tk rfl rfl rfl<|rn tk 3 rfl<|ac 10 hr rfl (fun c1 hr=>?_) (fun c1 hr=>?_)
 .refine rn tk 7 rfl ?_;cases hr;exact kr tk (.inr rfl) rfl rfl
 refine rn tk 9 rfl<|al2 hr (fun s2=>[(0,.l cS a0),(1,.l cS a1),(5,.i s2)]) (fun s2=>[]) (.exit 0) (fun b3=>[]) (fun b3=>[]) .ret (fun b4=>[(4,.bo b4)]) (fun b4=>[]) rfl rfl (fun s2 x6 hr=>?_) (fun b3 hr=>?_) (fun b4 hr=>?_)
 .unfold jCa at hr;refine rn tk 5 rfl<|wn tk rfl rfl rfl<|rn tk 3 rfl<|ac 14 hr rfl (fun c7 hr=>?_) (fun c7 hr=>?_)
  .refine rn tk 5 rfl ?_;obtain ⟨v8,h9,hr⟩:=zaa hr;obtain ⟨v10,h11,hr⟩:=zaa hr;refine dr 8 [(24,.s v10),(23,.ep [pS v10]),(22,.i s2),(21,.l cS a1),(20,.s v8),(19,.ep [pS v8]),(18,.i s2),(17,.l cS a0)] mixed (by kernel_rfl) rfl rfl (pq tk rfl (.plain rfl) (pq tk rfl (.plain rfl) (.run (.plain rfl) (kfa (qLa (f:=cS) rfl rfl vsa zCa rfl h9)) (pq tk rfl (.plain rfl) (pq tk rfl (.plain rfl) (pq tk rfl (.plain rfl) (.run (.plain rfl) (kfa (qLa (f:=cS) rfl rfl vsa zCa rfl h11)) (pq tk rfl (.plain rfl) .nil)))))))) rfl<|rn tk 3 rfl<|ac 25 hr rfl (fun c12 hr=>?_) (fun c12 hr=>?_)
   .refine rn tk 8 rfl ?_;cases hr;exact ato rfl rfl rfl rfl
   refine rn tk 8 rfl ?_;cases hr;exact atc rfl rfl
  refine rn tk 2 rfl ?_;cases hr;exact ato rfl rfl rfl rfl
 .refine rn tk 8 rfl ?_;cases hr;exact kr tk (.inr rfl) rfl rfl
 refine rn tk 2 rfl ?_;cases hr;exact kr tk (.inr rfl) rfl rfl
section
open Go.RowKit Go.Lib Go.Proofs.Tryz
variable {E:Env} {fr:Fr} {σ:Sto} {K:Post} {T:Tab} {l:List Oper} {cs:List (Option AV)} {all:List Node} {H:List Bool}
theorem wxa.of:∀{is:List Nat},(∀i∈is,yab E l cs all H fr σ i)->wxa E l cs all H fr σ is
 | [],_=>.nil
 | i::is,h=>.cons (h i (by simp)) (wxa.of fun j hj=>h j (by simp[hj]))
def yvb(T:Tab)(l:List Oper)(cs:List (Option AV))(fr:Fr)(σ:Sto)(i:Nat):Option AV:=(l[i]?).bind fun o=>qval T (purF l cs (allT l)++fr).ev σ o.op
def Jea(cs:List (Option AV))(i:Nat):Option AV:=(cs[i]?).bind id
def Jfa(l:List Oper)(cs:List (Option AV))(H:List Bool)(is:List Nat):List Nat:=(mayL l cs H).filter fun i=> !is.contains i
theorem ms_all(hT:kLa E.P T)(is:List Nat)(h1:((Jfa l cs H is).map (yvb T l cs fr σ),(Jfa l cs H is).all (fun i=>(Jea cs i).isSome))=((Jfa l cs H is).map (Jea cs),true))(h2:wxa E l cs all H fr σ is):wxa E l cs all H fr σ (mayL l cs H):=by
 refine wxa.of fun i hi=>?_
 by_cases hc:is.contains i=true
 .exact h2.get (by simpa using hc)
 have hm:i∈Jfa l cs H is:=by
  unfold Jfa;rw[List.mem_filter];exact ⟨hi,by simpa using hc⟩
 have e1:=congrArg Prod.fst h1;have e2:=congrArg Prod.snd h1;have hq:yvb T l cs fr σ i=Jea cs i:=List.map_inj_left.1 e1 i hm;have hs:(Jea cs i).isSome=true:=List.all_eq_true.1 e2 i hm;obtain ⟨c,hcc⟩:=Option.isSome_iff_exists.1 hs;rw[hcc]at hq;obtain ⟨o,ho,hv⟩:=Option.bind_eq_some_iff.1 hq;obtain ⟨x,hx,hxc⟩:=Option.bind_eq_some_iff.1 hcc;have hxc:x=some c:=hxc;subst hxc;exact .pure ho hx (kfa (Ypa hT hv))
theorem mn(hT:kLa E.P T)(is:List Nat)(h1:(((List.range l.length).all fun i=> !(isHv cs i) || H.getD i false),(Jfa l cs H is).map (yvb T l cs fr σ),(Jfa l cs H is).all (fun i=>(Jea cs i).isSome))=(false,(Jfa l cs H is).map (Jea cs),true))(h2:wxa E l cs all H fr σ is):vab E l cs K all (H,fr,σ):=
 .step _ rfl (congrArg Prod.fst h1) (ms_all hT is (congrArg Prod.snd h1) h2)
theorem mf(hT:kLa E.P T)(is:List Nat)(frJ:Fr)(h1:((Jfa l cs H is).map (yvb T l cs fr σ),(Jfa l cs H is).all (fun i=>(Jea cs i).isSome))=((Jfa l cs H is).map (Jea cs),true))(h2:wxa E l cs all H fr σ is)(hf:FrLe (purF l cs (allT l)++fr) frJ)(h:K .normal frJ σ):vab E l cs K all (H,fr,σ):=
 .full _ rfl (ms_all hT is h1 h2) hf kMa h
theorem mst(j:Nat){i:Nat}{o:Oper}{σ' :Sto}(ho:l[i]? =some o)(h:HvS E o (purF l cs (allT l)++fr) σ σ')(e:(cs[i]?,all[j]?)=(some none,some (H.set i true,fr,σ'))):yab E l cs all H fr σ i:=
 .sto j ho (congrArg Prod.fst e) h (congrArg Prod.snd e) yUa kMa
theorem mdt(j:Nat){i k:Nat}{o:Oper}{c:AV}{rs:List Nat}{σ' :Sto}(ho:l[i]? =some o)(h:HvD E o (purF l cs (allT l)++fr) σ k c rs σ')(e:(((List.range l.length).all fun i=>y1a l cs i !=some k),noRows cs rs,cs[i]?,all[j]?)=(true,true,some none,some (H.set i true,(k,c)::fr.clrs rs,σ'))):yab E l cs all H fr σ i:=
 .dst j ho (congrArg (fun x=>x.2.2.1) e) (congrArg (fun x=>x.1) e) (congrArg (fun x=>x.2.1) e) h (congrArg (fun x=>x.2.2.2) e) yUa kMa
theorem hv_g{o:Oper}{k:Nat}{c:AV}(hk:o.dst=some k)(hN:Nat.ble (k+1) E.N=true)(h:OpG E o fr σ c):HvD E o fr σ k c [] σ:=
 ⟨fun f2 he _=>zUb (Q6a hk hN ⟨fun g a K Q hx=>h.go g a K Q fun x hm=>by rw[<-he x hm];exact hx x hm⟩) VUa kMa⟩
theorem mz{id:Nat}(cs:List (Option AV))(mk:Fr->Sto->List Node)(hmix:E.P.follows .mixedOrders=true)(hok:(wcb E.N l cs,(mk fr σ)[0]?)=(true,some (List.replicate l.length false,fr,σ)))(h:Kba E l cs K (mk fr σ) (mk fr σ)):AWP E (.region id l.toArray true) fr σ K:=
 VTa cs (mk fr σ) hmix (congrArg Prod.fst hok) (congrArg Prod.snd hok) rfl yUa kMa h
end
section
open Go.RowKit Go.Lib Go.Proofs.Tryz
variable {E:Env} {fr:Fr} {σ:Sto} {K:Post} {T:Tab} {l:List Oper} {cs:List (Option AV)} {all:List Node} {H:List Bool}
def tget:List (Nat × AV)->Nat->Option AV
 | [],_=>none
 | (k,c)::r,i=>bif Nat.beq k i then some c else tget r i
def zrun(T:Tab)(N:Nat)(tl:List (Nat × AV)):List Oper->Nat->Fr->Sto->Option (List (Option AV) × List Sto × Sto)
 | [],_,_,σ=>some ([],[],σ)
 | o::r,i,fr,σ=>match o.dst with
  | none=>(match opDo T N o fr σ with
   | some (_,σ')=>(match zrun T N tl r (i+1) fr σ' with
    | some (cs,ss,sj)=>some (none::cs,σ' ::ss,sj)
    | none=>none)
   | none=>none)
  | some d=>(match (match tget tl i with | some c=>some c | none=>qval T fr.ev σ o.op) with
   | some c=>(match zrun T N tl r (i+1) ((d,c)::fr) σ with
    | some (cs,ss,sj)=>some (some c::cs,ss,sj)
    | none=>none)
   | none=>none)
def hvL(l:List Oper)(cs:List (Option AV)):List Nat:=(List.range l.length).filter (isHv cs)
def hvH(l:List Oper)(cs:List (Option AV))(k:Nat):List Bool:=(List.range l.length).map fun i=>((hvL l cs).take k).contains i
def stoK(σ:Sto)(ss:List Sto)(k:Nat):Sto:=(σ::ss).getD k σ
def nodK(l:List Oper)(cs:List (Option AV))(fr:Fr)(σ:Sto)(ss:List Sto)(k:Nat):Node:=(hvH l cs k,fr,stoK σ ss k)
def nods(l:List Oper)(cs:List (Option AV))(fr:Fr)(σ:Sto)(ss:List Sto):List Node:=(List.range ((hvL l cs).length+1)).map (nodK l cs fr σ ss)
def purK(l:List Oper)(cs:List (Option AV))(tl:List (Nat × AV))(k:Nat):List Nat:=(mayL l cs (hvH l cs k)).filter fun i=> !(isHv cs i) && (tget tl i).isNone
def stoD(T:Tab)(N:Nat)(l:List Oper)(cs:List (Option AV))(fr:Fr)(σ:Sto)(ss:List Sto)(k:Nat):Option Sto:=match l[(hvL l cs).getD k 0]? with
 | some o=>(match o.dst with
  | none=>(opDo T N o (purF l cs (allT l)++fr) (stoK σ ss k)).map Prod.snd
  | some _=>none)
 | none=>none
def zchk(N:Nat)(tl:List (Nat × AV))(l:List Oper)(cs:List (Option AV)):Bool:=
 wcb N l cs &&
 ((List.range ((hvL l cs).length+1)).all fun k=>(mayL l cs (hvH l cs k)).all fun i=> !(isHv cs i) || (Nat.beq i ((hvL l cs).getD k 0) && Nat.ble (k+1) (hvL l cs).length)) &&
 ((List.range (hvL l cs).length).all fun k=>((hvH l cs k).set ((hvL l cs).getD k 0) true==hvH l cs (k+1)) && !((List.range l.length).all fun i=> !(isHv cs i) || (hvH l cs k).getD i false)) &&
 (hvH l cs 0==List.replicate l.length false) &&
 ((List.range ((hvL l cs).length+1)).all fun k=>(purK l cs tl k).all fun i=>(Jea cs i).isSome)
inductive Told (E:Env) (l:List Oper) (cs:List (Option AV)) (fr:Fr) (L:List Sto):List (Nat × AV)->Prop
 | nil:Told E l cs fr L []
 | cons {i:Nat} {c:AV} {o:Oper} {r:List (Nat × AV)} (ho:l[i]? =some o) (hc:cs[i]? =some (some c)) (h:∀s,s∈L->OpG E o (purF l cs (allT l)++fr) s c) (hr:Told E l cs fr L r):Told E l cs fr L ((i,c)::r)
theorem t0{o:Oper}{FR:Fr}{c:AV}(h:OpG E o FR σ c):∀s,s∈ [σ]->OpG E o FR s c:=fun s hs=>by
 rw[List.mem_singleton.1 hs];exact h
theorem Told.get{L:List Sto}{tl:List (Nat × AV)}(h:Told E l cs fr L tl){i:Nat}(hi:(tget tl i).isSome=true):∃o c,l[i]? =some o/\cs[i]? =some (some c)/\∀s,s∈L->OpG E o (purF l cs (allT l)++fr) s c:=by
 induction h with
 | nil=>cases hi
 | @cons k c o r ho hc h _ ih=>
  unfold tget at hi;cases hb:Nat.beq k i with
  | true=>
   have:=Nat.eq_of_beq_eq_true hb;subst this;exact ⟨o,c,ho,hc,h⟩
  | false=>rw[hb]at hi;exact ih hi
theorem Kba.of:∀{r:List Node},(∀nd∈r,vab E l cs K all nd)->Kba E l cs K all r
 | [],_=>.nil
 | nd::r,h=>.cons (h nd (by simp)) (Kba.of fun x hx=>h x (by simp[hx]))
theorem opDo_sto{N:Nat}{o:Oper}{FR:Fr}{p:Fr × Sto}(hT:kLa E.P T)(hN:N=E.N)(hd:o.dst=none)(h:opDo T N o FR σ=some p):HvS E o FR σ p.2:=by
 subst hN;obtain ⟨f2,σ'⟩:=p;refine ⟨fun fr he _=>?_⟩;refine q3b hT ?_;obtain ⟨dst,op,ty,pos,af,gu⟩:=o;dsimp only at hd;subst hd;unfold opDo at h ⊢;dsimp only at h ⊢;cases op
 case store t x y=>
  have e1:=he x (by simp[Op.operands,Call.operands]);have e2:=he y (by simp[Op.operands,Call.operands]);dsimp only at h ⊢;rw[e1,e2];split at h
  .rename_i row hr;split at h
   .rename_i b off hx;split at h
    .rename_i cs' ho;split at h
     .rename_i vs hy;cases hb:(Nat.beq vs.length row.size && Nat.ble (off+vs.length) cs'.length) with
      | false=>rw[hb]at h;cases h
      | true=>
       rw[hb]at h;simp only[cond_true]at h ⊢;split at h
       .rename_i c2 hc2;split at h
        .rename_i s2 hs2;cases h;simp only[hr,hx,ho,hy,hb,hc2,hs2,cond_true]
        cases h
       cases h
     cases h
    cases h
   cases h
  cases h
 all_goals cases h
theorem mc(hT:kLa E.P T){id:Nat}(tl:List (Nat × AV))(frJ:Fr){ss:List Sto}{σJ:Sto}(hmix:E.P.follows .mixedOrders=true)(hz:zrun T E.N tl l 0 fr σ=some (cs,ss,σJ))
 (hk:(zchk E.N tl l cs,(List.range ((hvL l cs).length+1)).map (fun k=>(purK l cs tl k).map (yvb T l cs fr (stoK σ ss k))),(List.range (hvL l cs).length).map (stoD T E.N l cs fr σ ss),stoK σ ss (hvL l cs).length)=(true,(List.range ((hvL l cs).length+1)).map (fun k=>(purK l cs tl k).map (Jea cs)),(List.range (hvL l cs).length).map (fun k=>some (stoK σ ss (k+1))),σJ))
 (ht:Told E l cs fr (σ::ss) tl) (hf:FrLe (purF l cs (allT l)++fr) frJ) (h:K .normal frJ σJ):AWP E (.region id l.toArray true) fr σ K:=by
 have k1:=congrArg (fun x=>x.1) hk;have k2:=congrArg (fun x=>x.2.1) hk;have k3:=congrArg (fun x=>x.2.2.1) hk;have k4:=congrArg (fun x=>x.2.2.2) hk;dsimp only at k1 k2 k3 k4;rw[<-k4]at h;have hin:∀k,stoK σ ss k∈σ::ss:=fun k=>by
  unfold stoK;rw[List.getD_eq_getElem?_getD];cases hg:(σ::ss)[k]? with
  | none=>simp
  | some s=>exact List.mem_of_getElem? hg
 simp only[zchk,Bool.and_eq_true,List.all_eq_true]at k1;obtain ⟨⟨⟨⟨q1,q2⟩,q3⟩,q4⟩,q5⟩:=k1;have hget:∀k,k < (hvL l cs).length+1->(nods l cs fr σ ss)[k]? =some (nodK l cs fr σ ss k):=fun k hk=>by
  unfold nods;rw[List.getElem?_map,List.getElem?_range hk];rfl
 refine VTa cs (nods l cs fr σ ss) hmix q1 (hget 0 (by omega)) (by simpa using q4) yUa kMa (Kba.of fun nd hnd=>?_);obtain ⟨k,hk',rfl⟩:=List.mem_map.1 hnd;have hkr:k < (hvL l cs).length+1:=by simpa using hk'
 have steps:wxa E l cs (nods l cs fr σ ss) (hvH l cs k) fr (stoK σ ss k) (mayL l cs (hvH l cs k)):=wxa.of fun i hi=>by
  have hi2:=q2 k (by simpa using hkr) i hi;cases hh:isHv cs i with
  | true=>
   rw[hh]at hi2;simp only[Bool.not_true,Bool.false_or,Bool.and_eq_true]at hi2;have hik:=Nat.eq_of_beq_eq_true hi2.1;have hkn:=Nat.le_of_ble_eq_true hi2.2;have h3:=List.map_inj_left.1 k3 k (List.mem_range.2 (by omega));have hq3:=q3 k (List.mem_range.2 (by omega));simp only[Bool.and_eq_true,beq_iff_eq]at hq3;unfold stoD at h3;rw[<-hik]at h3 hq3;split at h3
   .rename_i o ho;split at h3
    .rename_i hd;obtain ⟨p,hp,hp2⟩:=Option.map_eq_some_iff.1 h3;have hc:cs[i]? =some none:=by
      unfold isHv at hh;split at hh
      .rename_i e;exact e
      cases hh
     have hs:=opDo_sto hT rfl hd hp;rw[hp2]at hs;exact .sto (k+1) ho hc hs (by rw[hget (k+1) (by omega)];unfold nodK;rw[hq3.1]) yUa kMa
    cases h3
   cases h3
  | false=>
   cases htl:tget tl i with
   | some c0=>
    obtain ⟨o,c,e1,e2,e3⟩:=ht.get (i:=i) (by rw[htl];rfl);exact .pure e1 e2 (e3 _ (hin k))
   | none=>
    have hm:i∈purK l cs tl k:=by
     unfold purK;rw[List.mem_filter];exact ⟨hi,by rw[hh,htl];rfl⟩
    have e1:=List.map_inj_left.1 k2 k (by simpa using hkr);have hq:yvb T l cs fr (stoK σ ss k) i=Jea cs i:=List.map_inj_left.1 e1 i hm;have hs:=q5 k (by simpa using hkr) i hm;obtain ⟨c,hcc⟩:=Option.isSome_iff_exists.1 hs;rw[hcc]at hq;obtain ⟨o,ho,hv⟩:=Option.bind_eq_some_iff.1 hq;obtain ⟨x,hx,hxc⟩:=Option.bind_eq_some_iff.1 hcc;have hxc:x=some c:=hxc;subst hxc;exact .pure ho hx (kfa (Ypa hT hv))
 by_cases hkn:k < (hvL l cs).length
 .have hq3:=q3 k (by simpa using hkn);simp only[Bool.and_eq_true,Bool.not_eq_true']at hq3;exact .step _ rfl hq3.2 steps
 have:k=(hvL l cs).length:=by omega
 subst this;exact .full _ rfl steps hf kMa h
end
theorem zRa(a0:zta)(r:Bool)(hr:z2a a0=some r):Run prog 29 [.agg [.i a0.Code,.i a0.Index]] (.bo r):=by
 unfold z2a at hr;refine rf (fn:=f29) ⟨func29,rfl,by kernel_rfl⟩ rfl (fun _=>rfl) fun g0 hg=>?_
 refine rn tk 15 rfl ?_;cases hr;exact kr tk (.inr rfl) rfl rfl
theorem zqa(a0:Int)(a1:Int)(r:zta)(hr:zAa a0 a1=some r):Run prog 35 [.i a0,.i a1] (.agg [.i r.Code,.i r.Index]):=by
 unfold zAa at hr;refine rf (fn:=f35) ⟨func35,rfl,by kernel_rfl⟩ rfl (fun _=>rfl) fun g0 hg=>?_
 refine rn tk 14 rfl ?_;cases hr;exact kr tk (.inr rfl) rfl rfl
theorem zWa(r:zta)(hr:kza=some r):Run prog 30 [] (.agg [.i r.Code,.i r.Index]):=by
 unfold kza at hr;refine rf (fn:=f30) ⟨func30,rfl,by kernel_rfl⟩ rfl (fun _=>rfl) fun g0 hg=>?_
 refine rn tk 12 rfl ?_;cases hr;exact kr tk (.inr rfl) rfl rfl
theorem ZSa(a0:UInt8)(r:Bool)(hr:wla a0=some r):Run prog 84 [.u8 a0] (.bo r):=by
 unfold wla at hr;refine rf (fn:=f84) ⟨func84,rfl,by kernel_rfl⟩ rfl (fun _=>rfl) fun g0 hg=>?_
 refine rn tk 5 rfl<|jb hr (fun j1=>[(2,.bo j1)]) (fun j1=>[]) (fun j1 hr=>?_) (fun j1 hr=>?_)
 .refine rn tk 4 rfl<|bs 5 hr rfl (fun c2 hr=>?_) (fun c2 hr=>?_)
  .refine rn tk 4 rfl<|bs 9 hr rfl (fun c3 hr=>?_) (fun c3 hr=>?_)
   .refine rn tk 17 rfl ?_;cases hr;exact jn _ rfl rfl rfl
   refine rn tk 3 rfl<|bs 12 hr rfl (fun c4 hr=>?_) (fun c4 hr=>?_)
   .refine rn tk 5 rfl<|bs 17 hr rfl (fun c5 hr=>?_) (fun c5 hr=>?_)
    .refine rn tk 9 rfl ?_;cases hr;exact jn _ rfl rfl rfl
    refine rn tk 3 rfl<|bs 20 hr rfl (fun c6 hr=>?_) (fun c6 hr=>?_)
    .refine rn tk 6 rfl ?_;cases hr;exact jn _ rfl rfl rfl
    refine rn tk 6 rfl ?_;cases hr;exact jn _ rfl rfl rfl
   refine rn tk 8 rfl<|bs 20 hr rfl (fun c7 hr=>?_) (fun c7 hr=>?_)
   .refine rn tk 6 rfl ?_;cases hr;exact jn _ rfl rfl rfl
   refine rn tk 6 rfl ?_;cases hr;exact jn _ rfl rfl rfl
  refine rn tk 7 rfl<|bs 12 hr rfl (fun c8 hr=>?_) (fun c8 hr=>?_)
  .refine rn tk 5 rfl<|bs 17 hr rfl (fun c9 hr=>?_) (fun c9 hr=>?_)
   .refine rn tk 9 rfl ?_;cases hr;exact jn _ rfl rfl rfl
   refine rn tk 3 rfl<|bs 20 hr rfl (fun c10 hr=>?_) (fun c10 hr=>?_)
   .refine rn tk 6 rfl ?_;cases hr;exact jn _ rfl rfl rfl
   refine rn tk 6 rfl ?_;cases hr;exact jn _ rfl rfl rfl
  refine rn tk 8 rfl<|bs 20 hr rfl (fun c11 hr=>?_) (fun c11 hr=>?_)
  .refine rn tk 6 rfl ?_;cases hr;exact jn _ rfl rfl rfl
  refine rn tk 6 rfl ?_;cases hr;exact jn _ rfl rfl rfl
 refine rn tk 1 rfl ?_;cases hr;exact kr tk (.inr rfl) rfl rfl
theorem Qua(a0:Str)(r:Bool)(hr:yQa a0=some r):Run prog 56 [.s a0] (.bo r):=by
 unfold yQa at hr;refine rf (fn:=f56) ⟨func56,rfl,by kernel_rfl⟩ rfl (fun _=>rfl) fun g0 hg=>?_
 refine rn tk 5 rfl<|jb hr (fun j1=>[(2,.bo j1)]) (fun j1=>[]) (fun j1 hr=>?_) (fun j1 hr=>?_)
 .refine rn tk 4 rfl<|bs 5 hr rfl (fun c2 hr=>?_) (fun c2 hr=>?_)
  .refine rn tk 5 rfl<|bs 10 hr rfl (fun c3 hr=>?_) (fun c3 hr=>?_)
   .refine rn tk 1 rfl<|ug rfl rfl rfl<|ct hr (fun j4=>[(10,.bo true),(12,.bo j4)]) (fun j4=>[]) (fun j4 hr jump4=>?_) (fun j4 hr=>?_)
    .refine il (fn:=f82) (args:=[.s a0,.fn (.func 83) [] []]) 400000 499999 [(10,.bo true)] rfl ⟨func82,rfl,by kernel_rfl⟩ rfl rfl rfl fun T4 ds4=>?_
     refine rn tk 14 rfl<|al2 hr (fun s5=>[(0,.s a0),(1,.fn (.func 83) [] []),(7,.i ((a0.length:Int))),(8,.i s5)]) (fun s5=>[(499999,.sus g0.w.heap.size ds4),(400010,.hold (.bo true) (T4.getD 10 undef))]) (.exit 0) (fun b6=>[]) (fun b6=>[(499999,.sus g0.w.heap.size ds4),(400010,.hold (.bo true) (T4.getD 10 undef))]) .ret (fun b7=>[(4,.bo false)]) (fun b7=>[(499999,.sus g0.w.heap.size ds4),(400010,.hold (.bo true) (T4.getD 10 undef))]) rfl rfl (fun s5 x9 hr=>?_) (fun b6 hr=>?_) (fun b7 hr=>?_)
     .unfold wya at hr;refine rn tk 6 rfl<|ac 9 hr rfl (fun c10 hr=>?_) (fun c10 hr=>?_)
      .refine rn tk 15 rfl ?_;obtain ⟨v11,h12,hr⟩:=zaa hr;refine ws tk h12 rfl rfl rfl rfl<|il (fn:=f83) (args:=[.u8 v11]) 600000 699999 [(0,.s a0),(1,.fn (.func 83) [] []),(7,.i ((a0.length:Int))),(8,.i s5)] rfl ⟨func83,rfl,by kernel_rfl⟩ rfl rfl rfl fun T6 ds6=>?_
       refine rn tk 5 rfl<|jb hr (fun j13=>[(2,.bo j13)]) (fun j13=>[(699999,.sus g0.w.heap.size ds6),(600000,.hold (.s a0) (T6.getD 0 undef)),(600001,.hold (.fn (.func 83) [] []) (T6.getD 1 undef)),(600007,.hold (.i ((a0.length:Int))) (T6.getD 7 undef)),(600008,.hold (.i s5) (T6.getD 8 undef)),(499999,.sus g0.w.heap.size ds4),(400010,.hold (.bo true) (T4.getD 10 undef))]) (fun j13 hr=>?_) (fun j13 hr=>?_)
       .refine rn tk 2 rfl ?_;obtain ⟨v14,h15,hr⟩:=zaa hr;refine cl (ZSa _ _ h15) rfl rfl<|rn tk 1 rfl<|bs 5 hr rfl (fun c16 hr=>?_) (fun c16 hr=>?_)
        .refine rn tk 13 rfl ?_;cases hr;exact jn _ rfl rfl rfl
        refine rn tk 4 rfl<|bs 9 hr rfl (fun c17 hr=>?_) (fun c17 hr=>?_)
        .refine rn tk 9 rfl ?_;cases hr;exact jn _ rfl rfl rfl
        refine rn tk 4 rfl<|bs 13 hr rfl (fun c18 hr=>?_) (fun c18 hr=>?_)
        .refine rn tk 5 rfl ?_;cases hr;exact jn _ rfl rfl rfl
        refine rn tk 5 rfl ?_;cases hr;exact jn _ rfl rfl rfl
       refine rn tk 1 rfl ?_;refine ie tk [.bo j13] [(0,.s a0),(1,.fn (.func 83) [] []),(7,.i ((a0.length:Int))),(8,.i s5)] [(499999,.sus g0.w.heap.size ds4),(400010,.hold (.bo true) (T4.getD 10 undef))] (.inr rfl) rfl rfl rfl rfl (hO ?_);refine rn tk 3 rfl<|ac 16 hr rfl (fun c19 hr=>?_) (fun c19 hr=>?_)
       .refine rn tk 8 rfl ?_;cases hr;exact ato rfl rfl rfl rfl
       refine rn tk 7 rfl ?_;cases hr;exact atc rfl rfl
      refine rn tk 2 rfl ?_;cases hr;exact ato rfl rfl rfl rfl
     .refine rn tk 8 rfl ?_;refine ie tk [.bo true] [(10,.bo true)] [] (.inr rfl) rfl rfl rfl rfl ?_;cases hr;exact jump4 _ _ rfl rfl
     refine rn tk 2 rfl ?_;refine ie tk [.bo false] [(10,.bo true)] [] (.inr rfl) rfl rfl rfl rfl ?_;cases hr;exact jump4 _ _ rfl rfl
    refine rn tk 3 rfl ?_;cases hr;exact jn _ rfl rfl rfl
   refine rn tk 5 rfl ?_;cases hr;exact jn _ rfl rfl rfl
  refine rn tk 10 rfl ?_;cases hr;exact jn _ rfl rfl rfl
 refine rn tk 1 rfl ?_;cases hr;exact kr tk (.inr rfl) rfl rfl
theorem yva(a0:Str)(a1:Int)(a2:Int)(r:zta)(hr:k0a a0 a1 a2=some r):Run prog 28 [.s a0,.i a1,.i a2] (.agg [.i r.Code,.i r.Index]):=by
 unfold k0a at hr;refine rf (fn:=f28) ⟨func28,rfl,by kernel_rfl⟩ rfl (fun _=>rfl) fun g0 hg=>?_
 refine rn tk 7 rfl<|jb hr (fun j1=>[(1,.i a1),(2,.i a2),(6,.ptr 6 0),(7,.bo j1)]) (fun j1=>[(6,.cells [.i 0,.i 0])]) (fun j1 hr=>?_) (fun j1 hr=>?_)
 .refine rn tk 2 rfl ?_;obtain ⟨v2,h3,hr⟩:=zaa hr;refine cl (Qua _ _ h3) rfl rfl<|rn tk 2 rfl<|bs 11 hr rfl (fun c4 hr=>?_) (fun c4 hr=>?_)
  .refine rn tk 6 rfl ?_;cases hr;exact jn _ rfl rfl rfl
  refine rn tk 6 rfl ?_;cases hr;exact jn _ rfl rfl rfl
 refine ac 7 hr rfl (fun c5 hr=>?_) (fun c5 hr=>?_)
 .refine rn tk 2 rfl ?_;obtain ⟨v6,h7,hr⟩:=zaa hr;refine cl (zqa _ _ _ h7) rfl rfl<|rn tk 6 rfl ?_;cases hr;exact kr tk (.inr rfl) rfl rfl
 refine jb hr (fun j8=>[(2,.i a2),(6,.ptr 6 0),(17,.bo j8)]) (fun j8=>[(6,.cells [.i 0,.i 0])]) (fun j8 hr=>?_) (fun j8 hr=>?_)
 .refine rn tk 4 rfl<|bs 20 hr rfl (fun c9 hr=>?_) (fun c9 hr=>?_)
  .refine rn tk 5 rfl ?_;cases hr;exact jn _ rfl rfl rfl
  refine rn tk 5 rfl ?_;cases hr;exact jn _ rfl rfl rfl
 refine ac 17 hr rfl (fun c10 hr=>?_) (fun c10 hr=>?_)
 .refine rn tk 2 rfl ?_;obtain ⟨v11,h12,hr⟩:=zaa hr;refine cl (zqa _ _ _ h12) rfl rfl<|rn tk 6 rfl ?_;cases hr;exact kr tk (.inr rfl) rfl rfl
 refine jb hr (fun j13=>[(6,.ptr 6 0),(25,.bo j13)]) (fun j13=>[(6,.cells [.i 0,.i 0])]) (fun j13 hr=>?_) (fun j13 hr=>?_)
 .refine rn tk 4 rfl<|bs 28 hr rfl (fun c14 hr=>?_) (fun c14 hr=>?_)
  .refine rn tk 5 rfl ?_;cases hr;exact jn _ rfl rfl rfl
  refine rn tk 5 rfl ?_;cases hr;exact jn _ rfl rfl rfl
 refine ac 25 hr rfl (fun c15 hr=>?_) (fun c15 hr=>?_)
 .refine rn tk 2 rfl ?_;obtain ⟨v16,h17,hr⟩:=zaa hr;refine cl (zqa _ _ _ h17) rfl rfl<|rn tk 6 rfl ?_;cases hr;exact kr tk (.inr rfl) rfl rfl
 refine rn tk 5 rfl ?_;obtain ⟨v18,h19,hr⟩:=zaa hr;refine cl (zWa _ h19) rfl rfl<|rn tk 4 rfl ?_;cases hr;exact kr tk (.inr rfl) rfl rfl
end Go.Proofs.YtmmjihadplknjaaGreatDoor
namespace Go.Proofs
open Go.Shelf
def Tryz.lays156_ren:Go.Shelf.Ren:=⟨fun | 156=>188 | 165=>206 | 166=>207 | 169=>208 | 240=>227 | 241=>228 | 276=>239 | 277=>240 | n=>n,fun | 31=>26 | 9=>9 | 3=>3 | 4=>4 | 0=>0 | 20=>20 | 72=>226 | 76=>207 | 70=>224 | 37=>23 | 75=>206 | 127=>253 | 164=>278 | 5=>5 | 80=>228 | n=>n,fun | n=>n⟩
theorem Tryz.cqz{α:Type}{a:Option α}{x y:α}(h:a=some x)(e:x=y):a=some y:=h.trans (congrArg some e)
theorem Tryz.lays156:Go.Proofs.Lays.n156 prog Tryz.lays156_ren:=⟨by kernel_rfl,cqz func188 (by kernel_rfl),cqz func206 (by kernel_rfl),cqz func207 (by kernel_rfl),cqz func208 (by kernel_rfl),cqz func227 (by kernel_rfl),cqz func228 (by kernel_rfl),cqz func239 (by kernel_rfl),cqz func240 (by kernel_rfl),underlying0,isAgg0,sizeOf0,zeroValue0,underlying3,isAgg3,sizeOf3,zeroValue3,underlying4,isAgg4,sizeOf4,zeroValue4,underlying9,isAgg9,sizeOf9,zeroValue9,underlying20,isAgg20,sizeOf20,zeroValue20,underlying26,isAgg26,sizeOf26,zeroValue26,underlying23,isAgg23,sizeOf23,zeroValue23,underlying224,isAgg224,sizeOf224,zeroValue224,underlying226,isAgg226,sizeOf226,zeroValue226,underlying206,isAgg206,sizeOf206,zeroValue206,underlying207,isAgg207,sizeOf207,zeroValue207,underlying253,isAgg253,sizeOf253,zeroValue253,underlying278,isAgg278,sizeOf278,zeroValue278⟩
theorem Tryz.Builder_Extra_156:Builder.Extra prog Tryz.lays156_ren:={
 sizeBuilder:=by kernel_rfl
 liesBuilder:=by kernel_rfl
 t5:=underlying5
 a5:=isAgg5
 z5:=sizeOf5
 v5:=zeroValue5
 infoByte:=by kernel_rfl
 cellsByte:=by kernel_rfl
 sizeByte:=by kernel_rfl
 neB5:=by decide}
open Go.RowKit in
theorem Tryz.strings_Join_none(a:Option Addr)(c:Nat)(sep:ByteArray)(w:World):
 Calls prog 188 #[.slice a 0 c,.string sep] w fun e w' =>e=.returned (.string ⟨#[]⟩)/\w' =w:=Any.strings_Join_none Tryz.lays156 Tryz.Builder_Extra_156 a c sep w
open Go.RowKit in
theorem Tryz.strings_Join(bk o c:Nat)(xs:List ByteArray)(sep:ByteArray)(w:World)(hcells:∀(j:Nat) x,xs[j]? =some x->w.cell? ⟨bk,o+j,none⟩=some (.string x))(hbk:bk < w.heap.size)(hN:xs.length<=140737488355328)(hcap:xs.length<=c)(hlen:(Lib.join (xs.map (·.data.toList)) sep.data.toList).length<=140737488355328):
 Calls prog 188 #[.slice (some ⟨bk,o,none⟩) xs.length c,.string sep] w fun e w' =>e=.returned (.string ⟨(Lib.join (xs.map (·.data.toList)) sep.data.toList).toArray⟩)/\Below w.heap.size w w' :=Any.strings_Join Tryz.lays156 Tryz.Builder_Extra_156 bk o c xs sep w hcells hbk hN hcap hlen
def Tryz.lays162_ren:Go.Shelf.Ren:=⟨fun | 162=>169 | 232=>172 | 227=>173 | 234=>175 | 236=>177 | 228=>192 | 271=>195 | 151=>194 | 120=>213 | 197=>193 | 152=>209 | 260=>212 | 137=>118 | 119=>229 | 224=>148 | 225=>190 | 217=>141 | 266=>162 | n=>n,fun | 9=>9 | 4=>4 | 3=>3 | 5=>5 | 117=>194 | 116=>193 | 0=>0 | 124=>197 | 21=>21 | 105=>214 | 46=>162 | 119=>239 | 139=>256 | 138=>255 | n=>n,fun | 3=>2 | 4=>3 | n=>n⟩
theorem Tryz.lays162:Go.Proofs.Lays.n162 prog Tryz.lays162_ren:=⟨by kernel_rfl,cqz func229 (by kernel_rfl),cqz func213 (by kernel_rfl),cqz func118 (by kernel_rfl),cqz func194 (by kernel_rfl),cqz func209 (by kernel_rfl),cqz func169 (by kernel_rfl),cqz func193 (by kernel_rfl),cqz func141 (by kernel_rfl),cqz func148 (by kernel_rfl),cqz func190 (by kernel_rfl),cqz func173 (by kernel_rfl),cqz func192 (by kernel_rfl),cqz func172 (by kernel_rfl),cqz func175 (by kernel_rfl),cqz func177 (by kernel_rfl),cqz func212 (by kernel_rfl),cqz func162 (by kernel_rfl),cqz func195 (by kernel_rfl),underlying0,isAgg0,sizeOf0,zeroValue0,underlying3,isAgg3,sizeOf3,zeroValue3,underlying4,isAgg4,sizeOf4,zeroValue4,underlying5,isAgg5,sizeOf5,zeroValue5,underlying9,isAgg9,sizeOf9,zeroValue9,underlying21,isAgg21,sizeOf21,zeroValue21,underlying162,isAgg162,sizeOf162,zeroValue162,underlying214,isAgg214,sizeOf214,zeroValue214,underlying193,isAgg193,sizeOf193,underlying194,isAgg194,sizeOf194,zeroValue194,underlying239,isAgg239,sizeOf239,underlying197,isAgg197,sizeOf197,zeroValue197,underlying255,isAgg255,sizeOf255,zeroValue255,underlying256,isAgg256,sizeOf256,zeroValue256,by kernel_rfl,by kernel_rfl⟩
def Tryz.lays160_ren:Go.Shelf.Ren:=⟨fun | 160=>153 | 232=>172 | 231=>171 | 227=>173 | 234=>175 | 233=>174 | 236=>177 | 235=>176 | 228=>192 | 271=>195 | 151=>194 | 197=>193 | 120=>213 | 152=>209 | 260=>212 | 137=>118 | 119=>229 | 224=>148 | 225=>190 | 217=>141 | 266=>162 | n=>n,fun | 9=>9 | 4=>4 | 3=>3 | 5=>5 | 117=>194 | 116=>193 | 0=>0 | 124=>197 | 21=>21 | 105=>214 | 46=>162 | 119=>239 | 139=>256 | 138=>255 | n=>n,fun | 3=>2 | 4=>3 | n=>n⟩
theorem Tryz.lays160:Go.Proofs.Lays.n160 prog Tryz.lays160_ren:=⟨by kernel_rfl,cqz func229 (by kernel_rfl),cqz func213 (by kernel_rfl),cqz func118 (by kernel_rfl),cqz func194 (by kernel_rfl),cqz func209 (by kernel_rfl),cqz func153 (by kernel_rfl),cqz func193 (by kernel_rfl),cqz func141 (by kernel_rfl),cqz func148 (by kernel_rfl),cqz func190 (by kernel_rfl),cqz func173 (by kernel_rfl),cqz func192 (by kernel_rfl),cqz func171 (by kernel_rfl),cqz func172 (by kernel_rfl),cqz func174 (by kernel_rfl),cqz func175 (by kernel_rfl),cqz func176 (by kernel_rfl),cqz func177 (by kernel_rfl),cqz func212 (by kernel_rfl),cqz func162 (by kernel_rfl),cqz func195 (by kernel_rfl),underlying0,isAgg0,sizeOf0,zeroValue0,underlying3,isAgg3,sizeOf3,zeroValue3,underlying4,isAgg4,sizeOf4,zeroValue4,underlying5,isAgg5,sizeOf5,zeroValue5,underlying9,isAgg9,sizeOf9,zeroValue9,underlying21,isAgg21,sizeOf21,zeroValue21,underlying162,isAgg162,sizeOf162,zeroValue162,underlying214,isAgg214,sizeOf214,zeroValue214,underlying193,isAgg193,sizeOf193,underlying194,isAgg194,sizeOf194,zeroValue194,underlying239,isAgg239,sizeOf239,underlying197,isAgg197,sizeOf197,zeroValue197,underlying255,isAgg255,sizeOf255,zeroValue255,underlying256,isAgg256,sizeOf256,zeroValue256,by kernel_rfl,by kernel_rfl⟩
def Tryz.lays137_ren:Go.Shelf.Ren:=⟨fun | 137=>118 | 217=>141 | 266=>162 | n=>n,fun | 9=>9 | 5=>5 | 3=>3 | n=>n,fun | n=>n⟩
theorem Tryz.lays137:Go.Proofs.Lays.n137 prog Tryz.lays137_ren:=⟨by kernel_rfl,cqz func118 (by kernel_rfl),cqz func141 (by kernel_rfl),cqz func162 (by kernel_rfl),underlying3,isAgg3,sizeOf3,zeroValue3,underlying5,isAgg5,sizeOf5,zeroValue5,underlying9,isAgg9,sizeOf9,zeroValue9⟩
open Go.RowKit in
theorem Tryz.strings_IndexByte(s:ByteArray)(c:Int)(w:World):
 Calls prog 118 #[.string s,.int .u8 c] w fun e w' =>e=.returned (.int .i64 (Lib.indexByte s.data.toList c.toNat.toUInt8))/\w' =w:=Any.strings_IndexByte Tryz.lays137 s c w
def Tryz.lays103_ren:Go.Shelf.Ren:=⟨fun | 103=>156 | 210=>184 | 206=>163 | n=>n,fun | 9=>9 | 4=>4 | 24=>130 | 3=>3 | n=>n,fun | n=>n⟩
theorem Tryz.lays103:Go.Proofs.Lays.n103 prog Tryz.lays103_ren:=⟨by kernel_rfl,cqz func156 (by kernel_rfl),cqz func163 (by kernel_rfl),cqz func184 (by kernel_rfl),underlying3,isAgg3,sizeOf3,zeroValue3,underlying4,isAgg4,sizeOf4,zeroValue4,underlying9,isAgg9,sizeOf9,zeroValue9,underlying130,isAgg130,sizeOf130,zeroValue130⟩
open Go.RowKit in
theorem Tryz.strings_CutPrefix(s p:ByteArray)(w:World):
 Calls prog 156 #[.string s,.string p] w fun e w' =>e=.returned (.tuple #[.string ⟨(Lib.trimPrefix s.data.toList p.data.toList).toArray⟩,.bool (Lib.hasPrefix s.data.toList p.data.toList)])/\w' =w:=Any.strings_CutPrefix Tryz.lays103 s p w
def Tryz.lays104_ren:Go.Shelf.Ren:=⟨fun | 104=>157 | 211=>185 | 207=>164 | n=>n,fun | 9=>9 | 4=>4 | 24=>130 | 3=>3 | n=>n,fun | n=>n⟩
theorem Tryz.lays104:Go.Proofs.Lays.n104 prog Tryz.lays104_ren:=⟨by kernel_rfl,cqz func157 (by kernel_rfl),cqz func164 (by kernel_rfl),cqz func185 (by kernel_rfl),underlying3,isAgg3,sizeOf3,zeroValue3,underlying4,isAgg4,sizeOf4,zeroValue4,underlying9,isAgg9,sizeOf9,zeroValue9,underlying130,isAgg130,sizeOf130,zeroValue130⟩
open Go.RowKit in
theorem Tryz.strings_CutSuffix(s p:ByteArray)(w:World)(hs:s.size<=9223372036854775807):
 Calls prog 157 #[.string s,.string p] w fun e w' =>e=.returned (.tuple #[.string ⟨(Lib.trimSuffix s.data.toList p.data.toList).toArray⟩,.bool (Lib.hasSuffix s.data.toList p.data.toList)])/\w' =w:=Any.strings_CutSuffix Tryz.lays104 s p w hs
def Tryz.lays172_ren:Go.Shelf.Ren:=⟨fun | 172=>186 | 244=>204 | 245=>205 | 247=>222 | 279=>223 | 280=>224 | 281=>225 | 282=>226 | 287=>236 | 316=>237 | 171=>92 | 205=>238 | 321=>250 | 322=>251 | 243=>124 | 246=>155 | 283=>180 | 284=>181 | 285=>182 | 286=>183 | 129=>200 | 317=>199 | 318=>201 | 319=>202 | 320=>203 | 337=>220 | 338=>221 | n=>n,fun | 9=>9 | 3=>3 | 75=>206 | 76=>207 | 4=>4 | 5=>5 | 167=>247 | 37=>23 | 0=>0 | 85=>248 | 2=>2 | 168=>250 | 53=>200 | 175=>273 | 46=>162 | 210=>276 | 127=>253 | 145=>293 | 143=>291 | 21=>21 | 171=>199 | 173=>203 | 212=>220 | 51=>172 | 20=>20 | 213=>221 | 232=>271 | 233=>272 | 80=>228 | n=>n,fun | 15=>6 | 16=>7 | 17=>1 | 18=>4 | 19=>5 | n=>n⟩
theorem Tryz.lays172:Go.Proofs.Lays.n172 prog Tryz.lays172_ren:=⟨by kernel_rfl,cqz func200 (by kernel_rfl),cqz func92 (by kernel_rfl),cqz func186 (by kernel_rfl),cqz func238 (by kernel_rfl),cqz func124 (by kernel_rfl),cqz func204 (by kernel_rfl),cqz func205 (by kernel_rfl),cqz func155 (by kernel_rfl),cqz func222 (by kernel_rfl),cqz func223 (by kernel_rfl),cqz func224 (by kernel_rfl),cqz func225 (by kernel_rfl),cqz func226 (by kernel_rfl),cqz func180 (by kernel_rfl),cqz func181 (by kernel_rfl),cqz func182 (by kernel_rfl),cqz func183 (by kernel_rfl),cqz func236 (by kernel_rfl),cqz func237 (by kernel_rfl),cqz func199 (by kernel_rfl),cqz func201 (by kernel_rfl),cqz func202 (by kernel_rfl),cqz func203 (by kernel_rfl),cqz func250 (by kernel_rfl),cqz func251 (by kernel_rfl),cqz func220 (by kernel_rfl),cqz func221 (by kernel_rfl),underlying0,isAgg0,sizeOf0,zeroValue0,underlying2,isAgg2,sizeOf2,zeroValue2,underlying3,isAgg3,sizeOf3,zeroValue3,underlying4,isAgg4,sizeOf4,zeroValue4,underlying5,isAgg5,sizeOf5,zeroValue5,underlying9,isAgg9,sizeOf9,zeroValue9,underlying20,isAgg20,sizeOf20,zeroValue20,underlying21,isAgg21,sizeOf21,zeroValue21,underlying23,isAgg23,sizeOf23,zeroValue23,underlying162,isAgg162,sizeOf162,zeroValue162,underlying172,isAgg172,sizeOf172,zeroValue172,underlying200,isAgg200,sizeOf200,zeroValue200,underlying206,isAgg206,sizeOf206,zeroValue206,underlying207,isAgg207,sizeOf207,zeroValue207,underlying248,isAgg248,sizeOf248,zeroValue248,underlying253,isAgg253,sizeOf253,zeroValue253,underlying291,isAgg291,sizeOf291,zeroValue291,underlying293,isAgg293,sizeOf293,zeroValue293,underlying247,isAgg247,sizeOf247,zeroValue247,underlying250,isAgg250,sizeOf250,zeroValue250,underlying199,isAgg199,sizeOf199,zeroValue199,underlying203,isAgg203,sizeOf203,zeroValue203,underlying273,isAgg273,sizeOf273,zeroValue273,underlying276,isAgg276,sizeOf276,zeroValue276,underlying220,isAgg220,sizeOf220,zeroValue220,underlying221,isAgg221,sizeOf221,underlying271,isAgg271,sizeOf271,zeroValue271,underlying272,isAgg272,sizeOf272,zeroValue272,by kernel_rfl,by kernel_rfl,by kernel_rfl,by kernel_rfl,by kernel_rfl⟩
open Go.RowKit in
theorem Tryz.strconv_Atoi(s:ByteArray)(n:Int)(hl:s.size<=18)(h:Lib.atoi s.data.toList=some n)(w:World):
 Calls prog 186 #[.string s] w fun e w' =>e=.returned (.tuple #[.int .i64 n,.nilIface])/\∃t,w' =Lib.bytesWorld w 5 t:=Any.strconv_Atoi Tryz.lays172 s n hl h w
def Tryz.laysM171_ren:Go.Shelf.Ren:=⟨fun | 171=>92 | 243=>124 | 246=>155 | 283=>180 | 284=>181 | 285=>182 | 286=>183 | 129=>200 | 317=>199 | 318=>201 | 319=>202 | 320=>203 | 337=>220 | 338=>221 | n=>n,fun | 3=>3 | 9=>9 | 2=>2 | 4=>4 | 171=>199 | 0=>0 | 53=>200 | 37=>23 | 5=>5 | 173=>203 | 212=>220 | 51=>172 | 20=>20 | 213=>221 | 46=>162 | 232=>271 | 233=>272 | n=>n,fun | 17=>1 | 18=>4 | 19=>5 | n=>n⟩
theorem Tryz.laysM171:Go.Proofs.LaysM.n171 prog Tryz.laysM171_ren:={mixed:=by kernel_rfl,f129:=cqz func200 (by kernel_rfl),f171:=cqz func92 (by kernel_rfl),f243:=cqz func124 (by kernel_rfl),f246:=cqz func155 (by kernel_rfl),f283:=cqz func180 (by kernel_rfl),f284:=cqz func181 (by kernel_rfl),f285:=cqz func182 (by kernel_rfl),f286:=cqz func183 (by kernel_rfl),f317:=cqz func199 (by kernel_rfl),f318:=cqz func201 (by kernel_rfl),f319:=cqz func202 (by kernel_rfl),f320:=cqz func203 (by kernel_rfl),f337:=cqz func220 (by kernel_rfl),f338:=cqz func221 (by kernel_rfl),t0:=underlying0,a0:=isAgg0,z0:=sizeOf0,v0:=zeroValue0,t2:=underlying2,a2:=isAgg2,z2:=sizeOf2,v2:=zeroValue2,t3:=underlying3,a3:=isAgg3,z3:=sizeOf3,v3:=zeroValue3,t4:=underlying4,a4:=isAgg4,z4:=sizeOf4,v4:=zeroValue4,t5:=underlying5,a5:=isAgg5,z5:=sizeOf5,v5:=zeroValue5,t9:=underlying9,a9:=isAgg9,z9:=sizeOf9,v9:=zeroValue9,t20:=underlying20,a20:=isAgg20,z20:=sizeOf20,v20:=zeroValue20,t37:=underlying23,a37:=isAgg23,z37:=sizeOf23,v37:=zeroValue23,t46:=underlying162,a46:=isAgg162,z46:=sizeOf162,v46:=zeroValue162,t51:=underlying172,a51:=isAgg172,z51:=sizeOf172,v51:=zeroValue172,t53:=underlying200,a53:=isAgg200,z53:=sizeOf200,v53:=zeroValue200,t171:=underlying199,a171:=isAgg199,z171:=sizeOf199,v171:=zeroValue199,t173:=underlying203,a173:=isAgg203,z173:=sizeOf203,v173:=zeroValue203,t212:=underlying220,a212:=isAgg220,z212:=sizeOf220,v212:=zeroValue220,t213:=underlying221,a213:=isAgg221,z213:=sizeOf221,t232:=underlying271,a232:=isAgg271,z232:=sizeOf271,v232:=zeroValue271,t233:=underlying272,a233:=isAgg272,z233:=sizeOf272,v233:=zeroValue272,g17:=by kernel_rfl,g18:=by kernel_rfl,g19:=by kernel_rfl,i0:=by kernel_rfl,i2:=by kernel_rfl,i3:=by kernel_rfl,i4:=by kernel_rfl,i5:=by kernel_rfl,i9:=by kernel_rfl,i20:=by kernel_rfl,i37:=by kernel_rfl,i46:=by kernel_rfl,i51:=by kernel_rfl,i53:=by kernel_rfl,i171:=by kernel_rfl,i173:=by kernel_rfl,i212:=by kernel_rfl,i232:=by kernel_rfl,i233:=by kernel_rfl,m17:=by kernel_rfl,m18:=by kernel_rfl,m19:=by kernel_rfl}
open Go.RowKit Go.Sort Go.Lib in
theorem Tryz.strconv_Itoa (n : Int) (h0 : -9223372036854775808 <= n) (h1 : n <= 9223372036854775807) (w : World) (htab : Lib.TabIs prog w "internal/strconv.uint64pow10" .u64 Lib.pow10Tab) :
 Calls prog 92 #[.int .i64 n] w fun e w' =>e=.returned (.string ⟨(Lib.itoa n).toArray⟩)/\∃k os,w' =grow (w.drewN k) os:=Any.strconv_Itoa Tryz.laysM171 n h0 h1 w htab
def Tryz.laysC172_ren:Go.Shelf.Ren:=⟨fun | 172=>186 | 244=>204 | 245=>205 | 247=>222 | 279=>223 | 280=>224 | 281=>225 | 282=>226 | 287=>236 | 316=>237 | 171=>92 | 205=>238 | 321=>250 | 322=>251 | 243=>124 | 246=>155 | 283=>180 | 284=>181 | 285=>182 | 286=>183 | 129=>200 | 317=>199 | 318=>201 | 319=>202 | 320=>203 | 337=>220 | 338=>221 | n=>n,fun | 9=>9 | 3=>3 | 75=>206 | 76=>207 | 4=>4 | 5=>5 | 167=>247 | 37=>23 | 0=>0 | 85=>248 | 2=>2 | 168=>250 | 53=>200 | 175=>273 | 46=>162 | 210=>276 | 127=>253 | 145=>293 | 143=>291 | 21=>21 | 171=>199 | 173=>203 | 212=>220 | 51=>172 | 20=>20 | 213=>221 | 232=>271 | 233=>272 | 80=>228 | n=>n,fun | 15=>6 | 16=>7 | 17=>1 | 18=>4 | 19=>5 | n=>n⟩
theorem Tryz.laysC172:Go.Proofs.LaysC.n172 prog Tryz.laysC172_ren:={mixed:=by kernel_rfl,f129:=cqz func200 (by kernel_rfl),f171:=cqz func92 (by kernel_rfl),f172:=cqz func186 (by kernel_rfl),f205:=cqz func238 (by kernel_rfl),f243:=cqz func124 (by kernel_rfl),f244:=cqz func204 (by kernel_rfl),f245:=cqz func205 (by kernel_rfl),f246:=cqz func155 (by kernel_rfl),f247:=cqz func222 (by kernel_rfl),f279:=cqz func223 (by kernel_rfl),f280:=cqz func224 (by kernel_rfl),f281:=cqz func225 (by kernel_rfl),f282:=cqz func226 (by kernel_rfl),f283:=cqz func180 (by kernel_rfl),f284:=cqz func181 (by kernel_rfl),f285:=cqz func182 (by kernel_rfl),f286:=cqz func183 (by kernel_rfl),f287:=cqz func236 (by kernel_rfl),f316:=cqz func237 (by kernel_rfl),f317:=cqz func199 (by kernel_rfl),f318:=cqz func201 (by kernel_rfl),f319:=cqz func202 (by kernel_rfl),f320:=cqz func203 (by kernel_rfl),f321:=cqz func250 (by kernel_rfl),f322:=cqz func251 (by kernel_rfl),f337:=cqz func220 (by kernel_rfl),f338:=cqz func221 (by kernel_rfl),t0:=underlying0,a0:=isAgg0,z0:=sizeOf0,v0:=zeroValue0,t2:=underlying2,a2:=isAgg2,z2:=sizeOf2,v2:=zeroValue2,t3:=underlying3,a3:=isAgg3,z3:=sizeOf3,v3:=zeroValue3,t4:=underlying4,a4:=isAgg4,z4:=sizeOf4,v4:=zeroValue4,t5:=underlying5,a5:=isAgg5,z5:=sizeOf5,v5:=zeroValue5,t9:=underlying9,a9:=isAgg9,z9:=sizeOf9,v9:=zeroValue9,t20:=underlying20,a20:=isAgg20,z20:=sizeOf20,v20:=zeroValue20,t21:=underlying21,a21:=isAgg21,z21:=sizeOf21,v21:=zeroValue21,t37:=underlying23,a37:=isAgg23,z37:=sizeOf23,v37:=zeroValue23,t46:=underlying162,a46:=isAgg162,z46:=sizeOf162,v46:=zeroValue162,t51:=underlying172,a51:=isAgg172,z51:=sizeOf172,v51:=zeroValue172,t53:=underlying200,a53:=isAgg200,z53:=sizeOf200,v53:=zeroValue200,t75:=underlying206,a75:=isAgg206,z75:=sizeOf206,v75:=zeroValue206,t76:=underlying207,a76:=isAgg207,z76:=sizeOf207,v76:=zeroValue207,t85:=underlying248,a85:=isAgg248,z85:=sizeOf248,v85:=zeroValue248,t127:=underlying253,a127:=isAgg253,z127:=sizeOf253,v127:=zeroValue253,t143:=underlying291,a143:=isAgg291,z143:=sizeOf291,v143:=zeroValue291,t145:=underlying293,a145:=isAgg293,z145:=sizeOf293,v145:=zeroValue293,t167:=underlying247,a167:=isAgg247,z167:=sizeOf247,v167:=zeroValue247,t168:=underlying250,a168:=isAgg250,z168:=sizeOf250,v168:=zeroValue250,t171:=underlying199,a171:=isAgg199,z171:=sizeOf199,v171:=zeroValue199,t173:=underlying203,a173:=isAgg203,z173:=sizeOf203,v173:=zeroValue203,t175:=underlying273,a175:=isAgg273,z175:=sizeOf273,v175:=zeroValue273,t210:=underlying276,a210:=isAgg276,z210:=sizeOf276,v210:=zeroValue276,t212:=underlying220,a212:=isAgg220,z212:=sizeOf220,v212:=zeroValue220,t213:=underlying221,a213:=isAgg221,z213:=sizeOf221,t232:=underlying271,a232:=isAgg271,z232:=sizeOf271,v232:=zeroValue271,t233:=underlying272,a233:=isAgg272,z233:=sizeOf272,v233:=zeroValue272,g15:=by kernel_rfl,g16:=by kernel_rfl,g17:=by kernel_rfl,g18:=by kernel_rfl,g19:=by kernel_rfl,t80:=underlying228,a80:=isAgg228,z80:=sizeOf228,v80:=zeroValue228,i0:=by kernel_rfl,i2:=by kernel_rfl,i3:=by kernel_rfl,i4:=by kernel_rfl,i5:=by kernel_rfl,i9:=by kernel_rfl,i20:=by kernel_rfl,i21:=by kernel_rfl,i37:=by kernel_rfl,i46:=by kernel_rfl,i51:=by kernel_rfl,i53:=by kernel_rfl,i75:=by kernel_rfl,i76:=by kernel_rfl,i80:=by kernel_rfl,i85:=by kernel_rfl,i127:=by kernel_rfl,i143:=by kernel_rfl,i145:=by kernel_rfl,i167:=by kernel_rfl,i168:=by kernel_rfl,i171:=by kernel_rfl,i173:=by kernel_rfl,i175:=by kernel_rfl,i210:=by kernel_rfl,i212:=by kernel_rfl,i232:=by kernel_rfl,i233:=by kernel_rfl,m15:=by kernel_rfl,m16:=by kernel_rfl,m17:=by kernel_rfl,m18:=by kernel_rfl,m19:=by kernel_rfl,c0:=by kernel_rfl,c2:=by kernel_rfl,c3:=by kernel_rfl,c4:=by kernel_rfl,c5:=by kernel_rfl,c9:=by kernel_rfl,c20:=by kernel_rfl,c21:=by kernel_rfl,c37:=by kernel_rfl,c46:=by kernel_rfl,c51:=by kernel_rfl,c53:=by kernel_rfl,c75:=by kernel_rfl,c76:=by kernel_rfl,c80:=by kernel_rfl,c85:=by kernel_rfl,c127:=by kernel_rfl,c143:=by kernel_rfl,c145:=by kernel_rfl,c167:=by kernel_rfl,c168:=by kernel_rfl,c171:=by kernel_rfl,c173:=by kernel_rfl,c175:=by kernel_rfl,c210:=by kernel_rfl,c212:=by kernel_rfl,c213:=by kernel_rfl,c232:=by kernel_rfl,c233:=by kernel_rfl}
open Go.RowKit in
theorem Tryz.strconv_Atoi_err_var (s : ByteArray) (hl : s.size <= 18) (h : Lib.atoi s.data.toList = none) (tp : TypeId) (p : Value) (w : World) (hvar : w.var? prog "strconv.ErrSyntax" = some #[.iface tp p]) :
 Calls prog 186 #[.string s] w fun e w' =>∃N,e=.returned (.tuple #[.int .i64 0,.iface 250 (.pointer (some ⟨N,0,none⟩))])/\w.heap.size<=N/\w'.heap[N]? =some (.cells #[.string ⟨#[65,116,111,105]⟩,.string s,.iface tp p] 276 (0,0))/\Below w.heap.size w w' :=Any.strconv_Atoi_err_var Tryz.laysC172 s hl h tp p w hvar
def Tryz.lays144_ren:Go.Shelf.Ren:=⟨fun | 144=>145 | 143=>165 | 219=>161 | 217=>141 | 225=>190 | 224=>148 | 267=>191 | 266=>162 | 314=>211 | n=>n,fun | 9=>9 | 4=>4 | 3=>3 | 5=>5 | 46=>162 | 146=>173 | 51=>172 | n=>n,fun | 1=>0 | n=>n⟩
theorem Tryz.lays144:Go.Proofs.Lays.n144 prog Tryz.lays144_ren:=⟨by kernel_rfl,cqz func165 (by kernel_rfl),cqz func145 (by kernel_rfl),cqz func141 (by kernel_rfl),cqz func161 (by kernel_rfl),cqz func148 (by kernel_rfl),cqz func190 (by kernel_rfl),cqz func162 (by kernel_rfl),cqz func191 (by kernel_rfl),cqz func211 (by kernel_rfl),underlying3,isAgg3,sizeOf3,zeroValue3,underlying4,isAgg4,sizeOf4,zeroValue4,underlying5,isAgg5,sizeOf5,zeroValue5,underlying9,isAgg9,sizeOf9,zeroValue9,underlying162,isAgg162,sizeOf162,zeroValue162,underlying172,isAgg172,sizeOf172,zeroValue172,underlying173,isAgg173,sizeOf173,zeroValue173,by kernel_rfl⟩
open Go.RowKit Go.Lib in
theorem Tryz.strings_Contains(s sub:ByteArray)(m:Int)(w:World)(hs:s.size < 4294967281)(hm:w.cell? ⟨0,0,none⟩=some (.int .i64 m)):
 Calls prog 145 #[.string s,.string sub] w fun e w' =>e=.returned (.bool (Lib.contains s.data.toList sub.data.toList))/\w' =w:=Any.strings_Contains Tryz.lays144 s sub m w hs hm
def Tryz.lays145_ren:Go.Shelf.Ren:=⟨fun | 145=>116 | 220=>140 | 219=>161 | 217=>141 | 225=>190 | 224=>148 | 267=>191 | 266=>162 | 314=>211 | n=>n,fun | 9=>9 | 4=>4 | 59=>111 | 3=>3 | 5=>5 | 46=>162 | 146=>173 | 51=>172 | n=>n,fun | 1=>0 | n=>n⟩
theorem Tryz.lays145:Go.Proofs.Lays.n145 prog Tryz.lays145_ren:=⟨by kernel_rfl,cqz func116 (by kernel_rfl),cqz func141 (by kernel_rfl),cqz func161 (by kernel_rfl),cqz func140 (by kernel_rfl),cqz func148 (by kernel_rfl),cqz func190 (by kernel_rfl),cqz func162 (by kernel_rfl),cqz func191 (by kernel_rfl),cqz func211 (by kernel_rfl),underlying3,isAgg3,sizeOf3,zeroValue3,underlying4,isAgg4,sizeOf4,zeroValue4,underlying5,isAgg5,sizeOf5,zeroValue5,underlying9,isAgg9,sizeOf9,zeroValue9,underlying162,isAgg162,sizeOf162,zeroValue162,underlying172,isAgg172,sizeOf172,zeroValue172,underlying111,isAgg111,sizeOf111,zeroValue111,underlying173,isAgg173,sizeOf173,zeroValue173,by kernel_rfl⟩
open Go.RowKit Go.Lib in
theorem Tryz.strings_Cut(s sep:ByteArray)(m:Int)(w:World)(hs:s.size < 4294967281)(hm:w.cell? ⟨0,0,none⟩=some (.int .i64 m)):
 Calls prog 116 #[.string s,.string sep] w fun e w' =>e=.returned (.tuple #[.string ⟨(Lib.cut s.data.toList sep.data.toList).1.toArray⟩,.string ⟨(Lib.cut s.data.toList sep.data.toList).2.1.toArray⟩,.bool (Lib.cut s.data.toList sep.data.toList).2.2])/\∃n,w' =w.drewN n:=Any.strings_Cut Tryz.lays145 s sep m w hs hm
def Tryz.lays99_ren:Go.Shelf.Ren:=⟨fun | 99=>143 | 206=>163 | n=>n,fun | 9=>9 | 4=>4 | 3=>3 | n=>n,fun | n=>n⟩
theorem Tryz.lays99:Go.Proofs.Lays.n99 prog Tryz.lays99_ren:=⟨by kernel_rfl,cqz func143 (by kernel_rfl),cqz func163 (by kernel_rfl),underlying3,isAgg3,sizeOf3,zeroValue3,underlying4,isAgg4,sizeOf4,zeroValue4,underlying9,isAgg9,sizeOf9,zeroValue9⟩
open Go.RowKit Go.Lib in
theorem Tryz.strings_HasPrefix(s p:ByteArray)(w:World):
 Calls prog 143 #[.string s,.string p] w fun e w' =>e=.returned (.bool (Lib.hasPrefix s.data.toList p.data.toList))/\w' =w:=Any.strings_HasPrefix Tryz.lays99 s p w
def Tryz.lays100_ren:Go.Shelf.Ren:=⟨fun | 100=>144 | 207=>164 | n=>n,fun | 9=>9 | 4=>4 | 3=>3 | n=>n,fun | n=>n⟩
theorem Tryz.lays100:Go.Proofs.Lays.n100 prog Tryz.lays100_ren:=⟨by kernel_rfl,cqz func144 (by kernel_rfl),cqz func164 (by kernel_rfl),underlying3,isAgg3,sizeOf3,zeroValue3,underlying4,isAgg4,sizeOf4,zeroValue4,underlying9,isAgg9,sizeOf9,zeroValue9⟩
open Go.RowKit Go.Lib in
theorem Tryz.strings_HasSuffix(s p:ByteArray)(w:World)(hs:s.size<=9223372036854775807):
 Calls prog 144 #[.string s,.string p] w fun e w' =>e=.returned (.bool (Lib.hasSuffix s.data.toList p.data.toList))/\w' =w:=Any.strings_HasSuffix Tryz.lays100 s p w hs
def Tryz.lays226_ren:Go.Shelf.Ren:=⟨fun | 226=>210 | n=>n,fun | 3=>3 | 4=>4 | n=>n,fun | n=>n⟩
theorem Tryz.lays226:Go.Proofs.Lays.n226 prog Tryz.lays226_ren:=⟨by kernel_rfl,cqz func210 (by kernel_rfl),underlying3,isAgg3,sizeOf3,zeroValue3,underlying4,isAgg4,sizeOf4,zeroValue4⟩
open Go.RowKit Go.Lib in
theorem Tryz.strings_shouldUseASCIISet(n:Int)(w:World):
 Calls prog 210 #[.int .i64 n] w fun e w' =>e=.returned (.bool (decide (8 < n)))/\w' =w:=Any.strings_shouldUseASCIISet Tryz.lays226 n w
def Tryz.lays153_ren:Go.Shelf.Ren:=⟨fun | 153=>189 | 152=>209 | 226=>210 | 227=>173 | 228=>192 | 137=>118 | 119=>229 | 224=>148 | 225=>190 | 217=>141 | 266=>162 | n=>n,fun | 9=>9 | 3=>3 | 4=>4 | 5=>5 | 21=>21 | 117=>194 | 116=>193 | 0=>0 | 46=>162 | 124=>197 | n=>n,fun | n=>n⟩
theorem Tryz.lays153:Go.Proofs.Lays.n153 prog Tryz.lays153_ren:=⟨by kernel_rfl,cqz func229 (by kernel_rfl),cqz func118 (by kernel_rfl),cqz func209 (by kernel_rfl),cqz func189 (by kernel_rfl),cqz func141 (by kernel_rfl),cqz func148 (by kernel_rfl),cqz func190 (by kernel_rfl),cqz func210 (by kernel_rfl),cqz func173 (by kernel_rfl),cqz func192 (by kernel_rfl),cqz func162 (by kernel_rfl),underlying0,isAgg0,sizeOf0,zeroValue0,underlying3,isAgg3,sizeOf3,zeroValue3,underlying4,isAgg4,sizeOf4,zeroValue4,underlying5,isAgg5,sizeOf5,zeroValue5,underlying9,isAgg9,sizeOf9,zeroValue9,underlying21,isAgg21,sizeOf21,zeroValue21,underlying162,isAgg162,sizeOf162,zeroValue162,underlying193,isAgg193,sizeOf193,underlying194,isAgg194,sizeOf194,zeroValue194,underlying197,isAgg197,sizeOf197,zeroValue197⟩
open Go.RowKit Go.Lib in
theorem Tryz.strings_IndexAny_long(hv116:∀w,(zeroValue 193).run prog w=.ok (.agg (Array.replicate 256 (.bool false))) w)(s chars:ByteArray)(w:World)(h2:2<=chars.size)(h8:8 < s.size)(hs:s.size < 4294967281)(hcs:chars.size < 4294967281)(hascii:∀(j:Nat) b,chars.data.toList[j]? =some b->b.toNat < 128):
 Calls prog 189 #[.string s,.string chars] w fun e w' =>e=.returned (.int .i64 (Lib.indexAny s.data.toList chars.data.toList))/\w' =((w.alloc (.cells (Lib.setCells chars.data.toList) 193)).alloc (.cells (Lib.setCells chars.data.toList) 193)):=Any.strings_IndexAny_long Tryz.lays153 hv116 (by kernel_rfl) s chars w h2 h8 hs hcs hascii
open Go.RowKit Go.Lib in
theorem Tryz.strings_IndexAny(hv116:∀w,(zeroValue 193).run prog w=.ok (.agg (Array.replicate 256 (.bool false))) w)(s chars:ByteArray)(w:World)(hs:s.size < 4294967281)(hcs:chars.size < 4294967281)(has:∀(j:Nat) b,s.data.toList[j]? =some b->b.toNat < 128)(hac:∀(j:Nat) b,chars.data.toList[j]? =some b->b.toNat < 128):
 Calls prog 189 #[.string s,.string chars] w fun e w' =>e=.returned (.int .i64 (Lib.indexAny s.data.toList chars.data.toList))/\Below w.heap.size w w' :=Any.strings_IndexAny Tryz.lays153 hv116 (by kernel_rfl) s chars w hs hcs has hac
def Tryz.lays150_ren:Go.Shelf.Ren:=⟨fun | 150=>160 | 153=>189 | 152=>209 | 226=>210 | 227=>173 | 228=>192 | 137=>118 | 119=>229 | 224=>148 | 225=>190 | 217=>141 | 266=>162 | n=>n,fun | 9=>9 | 4=>4 | 3=>3 | 5=>5 | 21=>21 | 117=>194 | 116=>193 | 0=>0 | 46=>162 | 124=>197 | n=>n,fun | n=>n⟩
theorem Tryz.lays150:Go.Proofs.Lays.n150 prog Tryz.lays150_ren:=⟨by kernel_rfl,cqz func229 (by kernel_rfl),cqz func118 (by kernel_rfl),cqz func160 (by kernel_rfl),cqz func209 (by kernel_rfl),cqz func189 (by kernel_rfl),cqz func141 (by kernel_rfl),cqz func148 (by kernel_rfl),cqz func190 (by kernel_rfl),cqz func210 (by kernel_rfl),cqz func173 (by kernel_rfl),cqz func192 (by kernel_rfl),cqz func162 (by kernel_rfl),underlying0,isAgg0,sizeOf0,zeroValue0,underlying3,isAgg3,sizeOf3,zeroValue3,underlying4,isAgg4,sizeOf4,zeroValue4,underlying5,isAgg5,sizeOf5,zeroValue5,underlying9,isAgg9,sizeOf9,zeroValue9,underlying21,isAgg21,sizeOf21,zeroValue21,underlying162,isAgg162,sizeOf162,zeroValue162,underlying193,isAgg193,sizeOf193,underlying194,isAgg194,sizeOf194,zeroValue194,underlying197,isAgg197,sizeOf197,zeroValue197⟩
open Go.RowKit Go.Lib in
theorem Tryz.strings_ContainsAny(hv116:∀w,(zeroValue 193).run prog w=.ok (.agg (Array.replicate 256 (.bool false))) w)(s chars:ByteArray)(w:World)(hs:s.size < 4294967281)(hcs:chars.size < 4294967281)(has:∀(j:Nat) b,s.data.toList[j]? =some b->b.toNat < 128)(hac:∀(j:Nat) b,chars.data.toList[j]? =some b->b.toNat < 128):
 Calls prog 160 #[.string s,.string chars] w fun e w' =>e=.returned (.bool (Lib.containsAny s.data.toList chars.data.toList))/\Below w.heap.size w w' :=Any.strings_ContainsAny Tryz.lays150 hv116 (by kernel_rfl) s chars w hs hcs has hac
def Tryz.lays229_ren:Go.Shelf.Ren:=⟨fun | 229=>95 | n=>n,fun | 9=>9 | 40=>120 | 31=>26 | 152=>142 | 3=>3 | 0=>0 | 4=>4 | 21=>21 | 154=>144 | n=>n,fun | n=>n⟩
theorem Tryz.lays229:Go.Proofs.Lays.n229 prog Tryz.lays229_ren:=⟨by kernel_rfl,cqz func95 (by kernel_rfl),underlying0,isAgg0,sizeOf0,zeroValue0,underlying3,isAgg3,sizeOf3,zeroValue3,underlying4,isAgg4,sizeOf4,zeroValue4,underlying9,isAgg9,sizeOf9,zeroValue9,underlying21,isAgg21,sizeOf21,zeroValue21,underlying26,isAgg26,sizeOf26,zeroValue26,underlying120,isAgg120,sizeOf120,zeroValue120,underlying142,isAgg142,sizeOf142,zeroValue142,underlying144,isAgg144,sizeOf144,zeroValue144⟩
open Go.RowKit Go.Lib in
theorem Tryz.strings_FieldsFunc(g:Nat)(lb:Array Value)(eg:∀args w,(callFunc g args).run prog w=.ok (.enter g args) w)(p:Nat->Bool)(s:ByteArray)(w:World)(hs:s.size<=4294967296)(hp:PredAt prog g lb encR p w):
 Calls prog 95 #[.string s,.func (.func g) #[] lb] w fun e w' =>∃A,e=.returned (.slice (some ⟨A,0,none⟩) (Lib.goFieldsP p s).length (Lib.goFieldsP p s).length)/\w.heap.size<=A/\
  w'.ownsRow w.heap.size 9 1 (.slice (some ⟨A,0,none⟩) (Lib.goFieldsP p s).length (Lib.goFieldsP p s).length) (Lib.goFieldsP p s).length ((Lib.goFieldsP p s).map Value.string)/\Below w.heap.size w w' :=Any.strings_FieldsFunc Tryz.lays229 g lb eg p s w hs hp (by kernel_rfl) (by kernel_rfl)
def Tryz.lays185_ren:Go.Shelf.Ren:=⟨fun | 185=>121 | 187=>146 | 115=>125 | 253=>147 | 224=>148 | 254=>149 | 255=>166 | 291=>167 | n=>n,fun | 37=>23 | 3=>3 | 4=>4 | 0=>0 | 5=>5 | 46=>162 | 9=>9 | 146=>173 | 51=>172 | n=>n,fun | 1=>0 | n=>n⟩
theorem Tryz.lays185:Go.Proofs.Lays.n185 prog Tryz.lays185_ren:=⟨by kernel_rfl,cqz func125 (by kernel_rfl),cqz func121 (by kernel_rfl),cqz func146 (by kernel_rfl),cqz func148 (by kernel_rfl),cqz func147 (by kernel_rfl),cqz func149 (by kernel_rfl),cqz func166 (by kernel_rfl),cqz func167 (by kernel_rfl),underlying0,isAgg0,sizeOf0,zeroValue0,underlying3,isAgg3,sizeOf3,zeroValue3,underlying4,isAgg4,sizeOf4,zeroValue4,underlying5,isAgg5,sizeOf5,zeroValue5,underlying9,isAgg9,sizeOf9,zeroValue9,underlying23,isAgg23,sizeOf23,zeroValue23,underlying162,isAgg162,sizeOf162,zeroValue162,underlying172,isAgg172,sizeOf172,zeroValue172,underlying173,isAgg173,sizeOf173,zeroValue173,by kernel_rfl⟩
open Go.RowKit Go.Lib in
theorem Tryz.bytes_Index_longer(p q:Option Addr)(n c m d:Nat)(w:World)(h2:2<=m)(hnm:n < m)(hm:m<=9223372036854775807):
 Calls prog 121 #[.slice p n c,.slice q m d] w fun e w' =>e=.returned (.int .i64 (-1))/\w' =w:=Any.bytes_Index_longer Tryz.lays185 p q n c m d w h2 hnm hm
def Tryz.lays187_ren:Go.Shelf.Ren:=⟨fun | 187=>146 | 255=>166 | n=>n,fun | 37=>23 | 5=>5 | 3=>3 | n=>n,fun | n=>n⟩
theorem Tryz.lays187:Go.Proofs.Lays.n187 prog Tryz.lays187_ren:=⟨by kernel_rfl,cqz func146 (by kernel_rfl),cqz func166 (by kernel_rfl),underlying3,isAgg3,sizeOf3,zeroValue3,underlying5,isAgg5,sizeOf5,zeroValue5,underlying23,isAgg23,sizeOf23,zeroValue23⟩
open Go.RowKit Go.Lib in
theorem Tryz.bytes_IndexByte_at(a:Addr)(n c:Nat)(xs:List Int)(cv:Int)(w:World)(hx:xs.length=n)(hc:∀i,i < n->w.cell? (a.add i)=some (.int .u8 (xs.getD i 0))):
 Calls prog 146 #[.slice (some a) n c,.int .u8 cv] w fun e w' =>e=.returned (.int .i64 (Lib.indexByte (Lib.bytesOf xs) cv.toNat.toUInt8))/\w' =w:=Any.bytes_IndexByte_at Tryz.lays187 a n c xs cv w hx hc
def Tryz.lays115_ren:Go.Shelf.Ren:=⟨fun | 115=>125 | n=>n,fun | 37=>23 | 4=>4 | 9=>9 | 5=>5 | n=>n,fun | n=>n⟩
theorem Tryz.lays115:Go.Proofs.Lays.n115 prog Tryz.lays115_ren:=⟨by kernel_rfl,cqz func125 (by kernel_rfl),underlying4,isAgg4,sizeOf4,zeroValue4,underlying9,isAgg9,sizeOf9,zeroValue9,underlying23,isAgg23,sizeOf23,zeroValue23⟩
open Go.Proofs Go.RowKit Go.Lib in
theorem Tryz.bytes_Index_at(a1 a2:Addr)(n c1 k c2:Nat)(xs ys:List Int)(m:Int)(w:World)(hx:xs.length=n)(hy:ys.length=k)(hr1:∀x∈xs,0<=x/\x < 256)(hr2:∀y∈ys,0<=y/\y < 256)(hc1:∀i,i < n->w.cell? (a1.add i)=some (.int .u8 (xs.getD i 0)))(hc2:∀i,i < k->w.cell? (a2.add i)=some (.int .u8 (ys.getD i 0)))(hcap:n<=c1)(hs:n < 4294967281)(hk:k<=9223372036854775807)(hm:w.cell? ⟨0,0,none⟩=some (.int .i64 m)):
 Calls prog 121 #[.slice (some a1) n c1,.slice (some a2) k c2] w fun e w' =>e=.returned (.int .i64 (Lib.index (Lib.bytesOf xs) (Lib.bytesOf ys)))/\∃q,w' =w.drewN q:=Any.bytes_Index_at Tryz.lays185 a1 a2 n c1 k c2 xs ys m w hx hy hr1 hr2 hc1 hc2 hcap hs hk hm
def Tryz.laysnb117_ren:Go.Shelf.Ren:=⟨fun | 117=>94 | 115=>125 | n=>n,fun | 37=>23 | 4=>4 | 3=>3 | 9=>9 | 5=>5 | n=>n,fun | n=>n⟩
theorem Tryz.laysnb117:Go.Proofs.Lays.nb117 prog Tryz.laysnb117_ren:={mixed:=by kernel_rfl,f115:=cqz func125 (by kernel_rfl),f117:=cqz func94 (by kernel_rfl),t3:=underlying3,a3:=isAgg3,z3:=sizeOf3,v3:=zeroValue3,t4:=underlying4,a4:=isAgg4,z4:=sizeOf4,v4:=zeroValue4,t9:=underlying9,a9:=isAgg9,z9:=sizeOf9,v9:=zeroValue9,t37:=underlying23,a37:=isAgg23,z37:=sizeOf23,v37:=zeroValue23,t5:=underlying5,a5:=isAgg5,z5:=sizeOf5,v5:=zeroValue5}
def Tryz.laysnb140_ren:Go.Shelf.Ren:=⟨fun | 140=>168 | 117=>94 | 115=>125 | n=>n,fun | 37=>23 | 4=>4 | 3=>3 | 9=>9 | 5=>5 | n=>n,fun | n=>n⟩
theorem Tryz.laysnb140:Go.Proofs.Lays.nb140 prog Tryz.laysnb140_ren:={mixed:=by kernel_rfl,f115:=cqz func125 (by kernel_rfl),f117:=cqz func94 (by kernel_rfl),f140:=cqz func168 (by kernel_rfl),t3:=underlying3,a3:=isAgg3,z3:=sizeOf3,v3:=zeroValue3,t4:=underlying4,a4:=isAgg4,z4:=sizeOf4,v4:=zeroValue4,t9:=underlying9,a9:=isAgg9,z9:=sizeOf9,v9:=zeroValue9,t37:=underlying23,a37:=isAgg23,z37:=sizeOf23,v37:=zeroValue23,t5:=underlying5,a5:=isAgg5,z5:=sizeOf5,v5:=zeroValue5}
def Tryz.laysnb142_ren:Go.Shelf.Ren:=⟨fun | 142=>65 | 117=>94 | 115=>125 | n=>n,fun | 37=>23 | 4=>4 | 3=>3 | 9=>9 | 5=>5 | n=>n,fun | n=>n⟩
theorem Tryz.laysnb142:Go.Proofs.Lays.nb142 prog Tryz.laysnb142_ren:={mixed:=by kernel_rfl,f115:=cqz func125 (by kernel_rfl),f117:=cqz func94 (by kernel_rfl),f142:=cqz func65 (by kernel_rfl),t3:=underlying3,a3:=isAgg3,z3:=sizeOf3,v3:=zeroValue3,t4:=underlying4,a4:=isAgg4,z4:=sizeOf4,v4:=zeroValue4,t9:=underlying9,a9:=isAgg9,z9:=sizeOf9,v9:=zeroValue9,t37:=underlying23,a37:=isAgg23,z37:=sizeOf23,v37:=zeroValue23,t5:=underlying5,a5:=isAgg5,z5:=sizeOf5,v5:=zeroValue5}
theorem Tryz.bytes_Equal(v1 v2:Value)(xs ys:List Int)(w:World)(h1:(convert 23 9 v1).run prog w=.ok (.string (strOfNums xs)) w)(h2:(convert 23 9 v2).run prog w=.ok (.string (strOfNums ys)) w):
 Calls prog 125 #[v1,v2] w fun e w' =>e=.returned (.bool (Lib.bytesOf xs==Lib.bytesOf ys))/\w' =w:=Any.bytes_Equal Tryz.lays115 v1 v2 xs ys w h1 h2
theorem Tryz.bytes_HasSuffix(b1 o1 n c b2 o2 m d:Nat)(xs ys:List Int)(w:World)(hx:xs.length=n)(hy:ys.length=m)(hnc:n<=c)(hbig:n<=9223372036854775807)(hc1:∀i,i < n->w.cell? ⟨b1,o1+i,none⟩=some (.int .u8 (xs.getD i 0)))(hc2:∀i,i < m->w.cell? ⟨b2,o2+i,none⟩=some (.int .u8 (ys.getD i 0))):
 Calls prog 94 #[.slice (some ⟨b1,o1,none⟩) n c,.slice (some ⟨b2,o2,none⟩) m d] w fun e w' =>e=.returned (.bool (Lib.hasSuffix (Lib.bytesOf xs) (Lib.bytesOf ys)))/\w' =w:=Any.bytes_HasSuffix Tryz.laysnb117 b1 o1 n c b2 o2 m d xs ys w hx hy hnc hbig hc1 hc2
theorem Tryz.bytes_TrimSuffix(b1 o1 n c b2 o2 m d:Nat)(xs ys:List Int)(w:World)(hx:xs.length=n)(hy:ys.length=m)(hnc:n<=c)(hbig:n<=9223372036854775807)(hc1:∀i,i < n->w.cell? ⟨b1,o1+i,none⟩=some (.int .u8 (xs.getD i 0)))(hc2:∀i,i < m->w.cell? ⟨b2,o2+i,none⟩=some (.int .u8 (ys.getD i 0))):
 Calls prog 168 #[.slice (some ⟨b1,o1,none⟩) n c,.slice (some ⟨b2,o2,none⟩) m d] w fun e w' =>e=.returned (Lib.bytesTrimSuffix b1 o1 n c xs ys)/\w' =w:=Any.bytes_TrimSuffix Tryz.laysnb140 b1 o1 n c b2 o2 m d xs ys w hx hy hnc hbig hc1 hc2
theorem Tryz.bytes_CutSuffix(b1 o1 n c b2 o2 m d:Nat)(xs ys:List Int)(w:World)(hx:xs.length=n)(hy:ys.length=m)(hnc:n<=c)(hbig:n<=9223372036854775807)(hc1:∀i,i < n->w.cell? ⟨b1,o1+i,none⟩=some (.int .u8 (xs.getD i 0)))(hc2:∀i,i < m->w.cell? ⟨b2,o2+i,none⟩=some (.int .u8 (ys.getD i 0))):
 Calls prog 65 #[.slice (some ⟨b1,o1,none⟩) n c,.slice (some ⟨b2,o2,none⟩) m d] w fun e w' =>e=.returned (.tuple #[Lib.bytesTrimSuffix b1 o1 n c xs ys,.bool (Lib.hasSuffix (Lib.bytesOf xs) (Lib.bytesOf ys))])/\w' =w:=Any.bytes_CutSuffix Tryz.laysnb142 b1 o1 n c b2 o2 m d xs ys w hx hy hnc hbig hc1 hc2
theorem Tryz.bytes_IndexByte(b o n c:Nat)(xs:List Int)(cv:Int)(w:World)(hx:xs.length=n)(hc:∀i,i < n->w.cell? ⟨b,o+i,none⟩=some (.int .u8 (xs.getD i 0))):
 Calls prog 146 #[.slice (some ⟨b,o,none⟩) n c,.int .u8 cv] w fun e w' =>e=.returned (.int .i64 (Lib.indexByte (Lib.bytesOf xs) cv.toNat.toUInt8))/\w' =w:=Any.bytes_IndexByte Tryz.lays187 b o n c xs cv w hx hc
theorem Tryz.bytes_IndexByte_nil(cv:Int)(w:World):
 Calls prog 146 #[.slice none 0 0,.int .u8 cv] w fun e w' =>e=.returned (.int .i64 (-1))/\w' =w:=Any.bytes_IndexByte_nil Tryz.lays187 cv w
end Go.Proofs
namespace Go.Proofs.YtmmjihadplknjaaGreatDoor
open Go.RowKit Go.Proofs.Tryz
theorem qub(g:G)(q:Nat):Old (fun _=>False) g ⟨g.w.drewN q,g.u,g.loc⟩:=
 ⟨rfl,rfl,rfl,⟨Nat.le_refl _,fun _ _=>Nat.le_refl _,fun _ _ _ _=>rfl,fun _ h=>h⟩,fun _ _ _=>⟨rfl,rfl⟩⟩
theorem QOa{g:G}{s:Str}{v:Value}(h:Rel g (.s s) v):v=.string (strB s):=zXa h
theorem vAa(s:Str)(c:UInt8)(r:Int)(hr:zSa s c=some r):Run prog 118 [.s s,.u8 c] (.i r):=by
 unfold zSa at hr;cases hr;refine ⟨⟨_,_,⟨func118,rfl,by kernel_rfl⟩⟩,fun g vs hw hg ha=>?_⟩;obtain ⟨hsz,hrel⟩:=ha;obtain ⟨l⟩:=vs
 match l,hsz with
 | [x,y],_=>
  obtain rfl:=QOa (hrel 0 _ rfl);have e2:y=.int .u8 (c.toNat:Int):=zXa (hrel 1 _ rfl);subst e2;refine callsIn_wide.2 ((Tryz.strings_IndexByte (strB s) (c.toNat:Int) g.w).mono ?_);rintro e w' ⟨rfl,rfl⟩;refine ⟨g,_,rfl,rfl,Old.refl _ g,hw,rfl,?_⟩;simp[strB];exact .pv (.b rfl)
theorem Qaa(s t:Str)(r:Bool)(hr:kNa s t=some r):Run prog 145 [.s s,.s t] (.bo r):=by
 unfold kNa at hr;split at hr
 case isFalse=>cases hr
 rename_i hlen;cases hr;refine ⟨⟨_,_,⟨func145,rfl,by kernel_rfl⟩⟩,fun g vs hw hg ha=>?_⟩;obtain ⟨hsz,hrel⟩:=ha;obtain ⟨l⟩:=vs
 match l,hsz with
 | [x,y],_=>
  obtain rfl:=QOa (hrel 0 _ rfl);obtain rfl:=QOa (hrel 1 _ rfl);obtain ⟨_,_,m,hm⟩:=hg.1 (0,0) (by simp[yHb]);refine callsIn_wide.2 ((Tryz.strings_Contains (strB s) (strB t) m g.w (by rw[zJa];exact hlen) hm).mono ?_);rintro e w' ⟨rfl,rfl⟩;exact ⟨g,_,rfl,rfl,Old.refl _ g,hw,rfl,.pv (.b rfl)⟩
theorem Kua(s t:Str)(r:Str × Str × Bool)(hr:qRa s t=some r):Run prog 116 [.s s,.s t] (.tup [.s r.1,.s r.2.1,.bo r.2.2]):=by
 unfold qRa at hr;split at hr
 case isFalse=>cases hr
 rename_i hlen;cases hr;refine ⟨⟨_,_,⟨func116,rfl,by kernel_rfl⟩⟩,fun g vs hw hg ha=>?_⟩;obtain ⟨hsz,hrel⟩:=ha;obtain ⟨l⟩:=vs
 match l,hsz with
 | [x,y],_=>
  obtain rfl:=QOa (hrel 0 _ rfl);obtain rfl:=QOa (hrel 1 _ rfl);obtain ⟨_,_,m,hm⟩:=hg.1 (0,0) (by simp[yHb]);refine callsIn_wide.2 ((Tryz.strings_Cut (strB s) (strB t) m g.w (by rw[zJa];exact hlen) hm).mono ?_);rintro e w' ⟨rfl,q,rfl⟩;refine ⟨⟨g.w.drewN q,g.u,g.loc⟩,_,rfl,rfl,qub g q,hw,rfl,.tup rfl fun i c hi=>?_⟩
  match i,hi with
  | 0,rfl=>exact .pv (.b rfl)
  | 1,rfl=>exact .pv (.b rfl)
  | 2,rfl=>exact .pv (.b rfl)
theorem wra(a0:Str)(a1:Str)(r:Bool)(hr:z3a a0 a1=some r):Run prog 163 [.s a0,.s a1] (.bo r):=by
 unfold z3a at hr;refine rf (fn:=f163) ⟨func163,rfl,by kernel_rfl⟩ rfl (fun _=>rfl) fun g0 hg=>?_
 refine rn tk 5 rfl<|jb hr (fun j1=>[(4,.bo j1)]) (fun j1=>[]) (fun j1 hr=>?_) (fun j1 hr=>?_)
 .refine rn tk 7 rfl<|bs 10 hr rfl (fun c2 hr=>?_) (fun c2 hr=>?_)
  .refine rn tk 3 rfl ?_;obtain ⟨v3,h4,hr⟩:=zaa hr;refine ug rfl rfl rfl<|wscH tk h4 rfl rfl rfl rfl<|rn tk 5 rfl ?_;cases hr;exact jn _ rfl rfl rfl
  refine rn tk 9 rfl ?_;cases hr;exact jn _ rfl rfl rfl
 refine rn tk 1 rfl ?_;cases hr;exact kr tk (.inr rfl) rfl rfl
theorem Kva(a0:Str)(a1:Str)(r:Bool)(hr:kAa a0 a1=some r):Run prog 143 [.s a0,.s a1] (.bo r):=by
 unfold kAa at hr;refine rf (fn:=Tryz.f143) ⟨func143,rfl,by kernel_rfl⟩ rfl (fun _=>rfl) fun g0 hg=>?_
 refine rn tk 9 rfl ?_;obtain ⟨v1,h2,hr⟩:=zaa hr;refine cl (wra _ _ _ h2) rfl rfl<|rn tk 4 rfl ?_;cases hr;exact kr tk (.inr rfl) rfl rfl
theorem wsa(a0:Str)(a1:Str)(r:Bool)(hr:z4a a0 a1=some r):Run prog 164 [.s a0,.s a1] (.bo r):=by
 unfold z4a at hr;refine rf (fn:=f164) ⟨func164,rfl,by kernel_rfl⟩ rfl (fun _=>rfl) fun g0 hg=>?_
 refine rn tk 5 rfl<|jb hr (fun j1=>[(4,.bo j1)]) (fun j1=>[]) (fun j1 hr=>?_) (fun j1 hr=>?_)
 .refine rn tk 7 rfl<|bs 10 hr rfl (fun c2 hr=>?_) (fun c2 hr=>?_)
  .refine rn tk 6 rfl ?_;obtain ⟨v3,h4,hr⟩:=zaa hr;refine ug rfl rfl rfl<|wscL tk h4 rfl rfl rfl rfl<|rn tk 5 rfl ?_;cases hr;exact jn _ rfl rfl rfl
  refine rn tk 12 rfl ?_;cases hr;exact jn _ rfl rfl rfl
 refine rn tk 1 rfl ?_;cases hr;exact kr tk (.inr rfl) rfl rfl
theorem Kwa(a0:Str)(a1:Str)(r:Bool)(hr:kBa a0 a1=some r):Run prog 144 [.s a0,.s a1] (.bo r):=by
 unfold kBa at hr;refine rf (fn:=Tryz.f144) ⟨func144,rfl,by kernel_rfl⟩ rfl (fun _=>rfl) fun g0 hg=>?_
 refine rn tk 9 rfl ?_;obtain ⟨v1,h2,hr⟩:=zaa hr;refine cl (wsa _ _ _ h2) rfl rfl<|rn tk 4 rfl ?_;cases hr;exact kr tk (.inr rfl) rfl rfl
theorem QPa(a0:Str)(r:Bool)(hr:vta a0=some r):Run prog 119 [.s a0] (.bo r):=by
 unfold vta at hr;refine rf (fn:=Tryz.f119) ⟨func119,rfl,by kernel_rfl⟩ rfl (fun _=>rfl) fun g0 hg=>?_
 refine rn tk 10 rfl<|jb hr (fun j1=>[(2,.bo j1)]) (fun j1=>[]) (fun j1 hr=>?_) (fun j1 hr=>?_)
 .refine rn tk 4 rfl<|bs 6 hr rfl (fun c2 hr=>?_) (fun c2 hr=>?_)
  .refine rn tk 5 rfl<|bs 11 hr rfl (fun c3 hr=>?_) (fun c3 hr=>?_)
   .refine rn tk 2 rfl<|ug rfl rfl rfl<|ct hr (fun j4=>[(0,.s a0),(11,.bo true),(14,.bo j4)]) (fun j4=>[]) (fun j4 hr jump4=>?_) (fun j4 hr=>?_)
    .refine il (fn:=f82) (args:=[.s a0,.fn (.func 142) [] []]) 400000 499999 [(0,.s a0),(11,.bo true)] rfl ⟨func82,rfl,by kernel_rfl⟩ rfl rfl rfl fun T4 ds4=>?_
     refine rn tk 14 rfl<|al2 hr (fun s5=>[(0,.s a0),(1,.fn (.func 142) [] []),(7,.i ((a0.length:Int))),(8,.i s5)]) (fun s5=>[(499999,.sus g0.w.heap.size ds4),(400000,.hold (.s a0) (T4.getD 0 undef)),(400011,.hold (.bo true) (T4.getD 11 undef))]) (.exit 0) (fun b6=>[]) (fun b6=>[(499999,.sus g0.w.heap.size ds4),(400000,.hold (.s a0) (T4.getD 0 undef)),(400011,.hold (.bo true) (T4.getD 11 undef))]) .ret (fun b7=>[(4,.bo false)]) (fun b7=>[(499999,.sus g0.w.heap.size ds4),(400000,.hold (.s a0) (T4.getD 0 undef)),(400011,.hold (.bo true) (T4.getD 11 undef))]) rfl rfl (fun s5 x9 hr=>?_) (fun b6 hr=>?_) (fun b7 hr=>?_)
     .unfold qda at hr;refine rn tk 6 rfl<|ac 9 hr rfl (fun c10 hr=>?_) (fun c10 hr=>?_)
      .refine rn tk 15 rfl ?_;obtain ⟨v11,h12,hr⟩:=zaa hr;refine ws tk h12 rfl rfl rfl rfl<|il (fn:=Tryz.f142) (args:=[.u8 v11]) 600000 699999 [(0,.s a0),(1,.fn (.func 142) [] []),(7,.i ((a0.length:Int))),(8,.i s5)] rfl ⟨func142,rfl,by kernel_rfl⟩ rfl rfl rfl fun T6 ds6=>?_
       refine rn tk 5 rfl<|jb hr (fun j13=>[(2,.bo j13)]) (fun j13=>[(699999,.sus g0.w.heap.size ds6),(600000,.hold (.s a0) (T6.getD 0 undef)),(600001,.hold (.fn (.func 142) [] []) (T6.getD 1 undef)),(600007,.hold (.i ((a0.length:Int))) (T6.getD 7 undef)),(600008,.hold (.i s5) (T6.getD 8 undef)),(499999,.sus g0.w.heap.size ds4),(400000,.hold (.s a0) (T4.getD 0 undef)),(400011,.hold (.bo true) (T4.getD 11 undef))]) (fun j13 hr=>?_) (fun j13 hr=>?_)
       .refine rn tk 4 rfl<|bs 5 hr rfl (fun c14 hr=>?_) (fun c14 hr=>?_)
        .refine rn tk 4 rfl<|bs 9 hr rfl (fun c15 hr=>?_) (fun c15 hr=>?_)
         .refine rn tk 17 rfl ?_;cases hr;exact jn _ rfl rfl rfl
         refine rn tk 3 rfl<|bs 12 hr rfl (fun c16 hr=>?_) (fun c16 hr=>?_)
         .refine rn tk 5 rfl<|bs 17 hr rfl (fun c17 hr=>?_) (fun c17 hr=>?_)
          .refine rn tk 9 rfl ?_;cases hr;exact jn _ rfl rfl rfl
          refine rn tk 4 rfl<|bs 21 hr rfl (fun c18 hr=>?_) (fun c18 hr=>?_)
          .refine rn tk 5 rfl ?_;cases hr;exact jn _ rfl rfl rfl
          refine rn tk 5 rfl ?_;cases hr;exact jn _ rfl rfl rfl
         refine rn tk 9 rfl<|bs 21 hr rfl (fun c19 hr=>?_) (fun c19 hr=>?_)
         .refine rn tk 5 rfl ?_;cases hr;exact jn _ rfl rfl rfl
         refine rn tk 5 rfl ?_;cases hr;exact jn _ rfl rfl rfl
        refine rn tk 7 rfl<|bs 12 hr rfl (fun c20 hr=>?_) (fun c20 hr=>?_)
        .refine rn tk 5 rfl<|bs 17 hr rfl (fun c21 hr=>?_) (fun c21 hr=>?_)
         .refine rn tk 9 rfl ?_;cases hr;exact jn _ rfl rfl rfl
         refine rn tk 4 rfl<|bs 21 hr rfl (fun c22 hr=>?_) (fun c22 hr=>?_)
         .refine rn tk 5 rfl ?_;cases hr;exact jn _ rfl rfl rfl
         refine rn tk 5 rfl ?_;cases hr;exact jn _ rfl rfl rfl
        refine rn tk 9 rfl<|bs 21 hr rfl (fun c23 hr=>?_) (fun c23 hr=>?_)
        .refine rn tk 5 rfl ?_;cases hr;exact jn _ rfl rfl rfl
        refine rn tk 5 rfl ?_;cases hr;exact jn _ rfl rfl rfl
       refine rn tk 1 rfl ?_;refine ie tk [.bo j13] [(0,.s a0),(1,.fn (.func 142) [] []),(7,.i ((a0.length:Int))),(8,.i s5)] [(499999,.sus g0.w.heap.size ds4),(400000,.hold (.s a0) (T4.getD 0 undef)),(400011,.hold (.bo true) (T4.getD 11 undef))] (.inr rfl) rfl rfl rfl rfl (hO ?_);refine rn tk 3 rfl<|ac 16 hr rfl (fun c24 hr=>?_) (fun c24 hr=>?_)
       .refine rn tk 8 rfl ?_;cases hr;exact ato rfl rfl rfl rfl
       refine rn tk 7 rfl ?_;cases hr;exact atc rfl rfl
      refine rn tk 2 rfl ?_;cases hr;exact ato rfl rfl rfl rfl
     .refine rn tk 8 rfl ?_;refine ie tk [.bo true] [(0,.s a0),(11,.bo true)] [] (.inr rfl) rfl rfl rfl rfl ?_;cases hr;exact jump4 _ _ rfl rfl
     refine rn tk 2 rfl ?_;refine ie tk [.bo false] [(0,.s a0),(11,.bo true)] [] (.inr rfl) rfl rfl rfl rfl ?_;cases hr;exact jump4 _ _ rfl rfl
    refine rn tk 2 rfl<|bs 16 hr rfl (fun c25 hr=>?_) (fun c25 hr=>?_)
    .refine rn tk 1 rfl ?_;obtain ⟨v26,h27,hr⟩:=zaa hr;refine ug rfl rfl rfl<|cl (Kva _ _ _ h27) rfl rfl<|rn tk 3 rfl<|bs 21 hr rfl (fun c28 hr=>?_) (fun c28 hr=>?_)
     .refine rn tk 1 rfl ?_;obtain ⟨v29,h30,hr⟩:=zaa hr;refine ug rfl rfl rfl<|cl (Kwa _ _ _ h30) rfl rfl<|rn tk 3 rfl<|bs 26 hr rfl (fun c31 hr=>?_) (fun c31 hr=>?_)
      .refine rn tk 1 rfl ?_;obtain ⟨v32,h33,hr⟩:=zaa hr;refine ug rfl rfl rfl<|cl (Qaa _ _ _ h33) rfl rfl<|rn tk 4 rfl ?_;cases hr;exact jn _ rfl rfl rfl
      refine rn tk 6 rfl ?_;cases hr;exact jn _ rfl rfl rfl
     refine rn tk 11 rfl ?_;cases hr;exact jn _ rfl rfl rfl
    refine rn tk 16 rfl ?_;cases hr;exact jn _ rfl rfl rfl
   refine rn tk 21 rfl ?_;cases hr;exact jn _ rfl rfl rfl
  refine rn tk 26 rfl ?_;cases hr;exact jn _ rfl rfl rfl
 refine rn tk 1 rfl ?_;cases hr;exact kr tk (.inr rfl) rfl rfl
theorem Vva(a0:Str)(r:Str × Str × Bool)(hr:vPa a0=some r):Run prog 86 [.s a0] (.tup [.s r.1,.s r.2.1,.bo r.2.2]):=by
 unfold vPa at hr;refine rf (fn:=f86) ⟨func86,rfl,by kernel_rfl⟩ rfl (fun _=>rfl) fun g0 hg=>?_
 refine rn tk 10 rfl ?_;obtain ⟨v1,h2,hr⟩:=zaa hr;refine cl (Kua _ _ _ h2) rfl rfl<|rn tk 14 rfl<|jb hr (fun j3=>[(2,.s v1.1),(3,.s v1.2.1),(4,.bo j3)]) (fun j3=>[]) (fun j3 hr=>?_) (fun j3 hr=>?_)
 .refine rn tk 5 rfl<|bs 15 hr rfl (fun c4 hr=>?_) (fun c4 hr=>?_)
  .refine rn tk 4 rfl<|bs 19 hr rfl (fun c5 hr=>?_) (fun c5 hr=>?_)
   .refine rn tk 5 rfl<|bs 24 hr rfl (fun c6 hr=>?_) (fun c6 hr=>?_)
    .refine rn tk 2 rfl<|ug rfl rfl rfl<|ct hr (fun j7=>[(3,.s v1.2.1),(12,.s v1.1),(13,.s v1.2.1),(24,.bo true),(27,.bo j7)]) (fun j7=>[]) (fun j7 hr jump4=>?_) (fun j7 hr=>?_)
     .refine il (fn:=f82) (args:=[.s v1.1,.fn (.func 117) [] []]) 400000 499999 [(3,.s v1.2.1),(12,.s v1.1),(13,.s v1.2.1),(24,.bo true)] rfl ⟨func82,rfl,by kernel_rfl⟩ rfl rfl rfl fun T4 ds4=>?_
      refine rn tk 14 rfl<|al2 hr (fun s8=>[(0,.s v1.1),(1,.fn (.func 117) [] []),(7,.i ((v1.1.length:Int))),(8,.i s8)]) (fun s8=>[(499999,.sus g0.w.heap.size ds4),(400003,.hold (.s v1.2.1) (T4.getD 3 undef)),(400012,.hold (.s v1.1) (T4.getD 12 undef)),(400013,.hold (.s v1.2.1) (T4.getD 13 undef)),(400024,.hold (.bo true) (T4.getD 24 undef))]) (.exit 0) (fun b9=>[]) (fun b9=>[(499999,.sus g0.w.heap.size ds4),(400003,.hold (.s v1.2.1) (T4.getD 3 undef)),(400012,.hold (.s v1.1) (T4.getD 12 undef)),(400013,.hold (.s v1.2.1) (T4.getD 13 undef)),(400024,.hold (.bo true) (T4.getD 24 undef))]) .ret (fun b10=>[(4,.bo false)]) (fun b10=>[(499999,.sus g0.w.heap.size ds4),(400003,.hold (.s v1.2.1) (T4.getD 3 undef)),(400012,.hold (.s v1.1) (T4.getD 12 undef)),(400013,.hold (.s v1.2.1) (T4.getD 13 undef)),(400024,.hold (.bo true) (T4.getD 24 undef))]) rfl rfl (fun s8 x12 hr=>?_) (fun b9 hr=>?_) (fun b10 hr=>?_)
      .unfold qxa at hr;refine rn tk 6 rfl<|ac 9 hr rfl (fun c13 hr=>?_) (fun c13 hr=>?_)
       .refine rn tk 15 rfl ?_;obtain ⟨v14,h15,hr⟩:=zaa hr;refine ws tk h15 rfl rfl rfl rfl<|il (fn:=Tryz.f117) (args:=[.u8 v14]) 600000 699999 [(0,.s v1.1),(1,.fn (.func 117) [] []),(7,.i ((v1.1.length:Int))),(8,.i s8)] rfl ⟨func117,rfl,by kernel_rfl⟩ rfl rfl rfl fun T6 ds6=>?_
        refine rn tk 5 rfl<|jb hr (fun j16=>[(2,.bo j16)]) (fun j16=>[(699999,.sus g0.w.heap.size ds6),(600000,.hold (.s v1.1) (T6.getD 0 undef)),(600001,.hold (.fn (.func 117) [] []) (T6.getD 1 undef)),(600007,.hold (.i ((v1.1.length:Int))) (T6.getD 7 undef)),(600008,.hold (.i s8) (T6.getD 8 undef)),(499999,.sus g0.w.heap.size ds4),(400003,.hold (.s v1.2.1) (T4.getD 3 undef)),(400012,.hold (.s v1.1) (T4.getD 12 undef)),(400013,.hold (.s v1.2.1) (T4.getD 13 undef)),(400024,.hold (.bo true) (T4.getD 24 undef))]) (fun j16 hr=>?_) (fun j16 hr=>?_)
        .refine rn tk 2 rfl ?_;obtain ⟨v17,h18,hr⟩:=zaa hr;refine cl (ZSa _ _ h18) rfl rfl<|rn tk 1 rfl<|bs 5 hr rfl (fun c19 hr=>?_) (fun c19 hr=>?_)
         .refine rn tk 6 rfl ?_;cases hr;exact jn _ rfl rfl rfl
         refine rn tk 1 rfl ?_;obtain ⟨v20,h21,hr⟩:=zaa hr;refine ug rfl rfl rfl<|cl (vAa _ _ _ h21) rfl rfl<|rn tk 4 rfl ?_;cases hr;exact jn _ rfl rfl rfl
        refine rn tk 1 rfl ?_;refine ie tk [.bo j16] [(0,.s v1.1),(1,.fn (.func 117) [] []),(7,.i ((v1.1.length:Int))),(8,.i s8)] [(499999,.sus g0.w.heap.size ds4),(400003,.hold (.s v1.2.1) (T4.getD 3 undef)),(400012,.hold (.s v1.1) (T4.getD 12 undef)),(400013,.hold (.s v1.2.1) (T4.getD 13 undef)),(400024,.hold (.bo true) (T4.getD 24 undef))] (.inr rfl) rfl rfl rfl rfl (hO ?_);refine rn tk 3 rfl<|ac 16 hr rfl (fun c22 hr=>?_) (fun c22 hr=>?_)
        .refine rn tk 8 rfl ?_;cases hr;exact ato rfl rfl rfl rfl
        refine rn tk 7 rfl ?_;cases hr;exact atc rfl rfl
       refine rn tk 2 rfl ?_;cases hr;exact ato rfl rfl rfl rfl
      .refine rn tk 8 rfl ?_;refine ie tk [.bo true] [(3,.s v1.2.1),(12,.s v1.1),(13,.s v1.2.1),(24,.bo true)] [] (.inr rfl) rfl rfl rfl rfl ?_;cases hr;exact jump4 _ _ rfl rfl
      refine rn tk 2 rfl ?_;refine ie tk [.bo false] [(3,.s v1.2.1),(12,.s v1.1),(13,.s v1.2.1),(24,.bo true)] [] (.inr rfl) rfl rfl rfl rfl ?_;cases hr;exact jump4 _ _ rfl rfl
     refine rn tk 2 rfl<|bs 29 hr rfl (fun c23 hr=>?_) (fun c23 hr=>?_)
     .refine rn tk 1 rfl ?_;obtain ⟨v24,h25,hr⟩:=zaa hr;refine ug rfl rfl rfl<|cl (QPa _ _ h25) rfl rfl<|rn tk 5 rfl ?_;cases hr;exact jn _ rfl rfl rfl
     refine rn tk 7 rfl ?_;cases hr;exact jn _ rfl rfl rfl
    refine rn tk 12 rfl ?_;cases hr;exact jn _ rfl rfl rfl
   refine rn tk 17 rfl ?_;cases hr;exact jn _ rfl rfl rfl
  refine rn tk 21 rfl ?_;cases hr;exact jn _ rfl rfl rfl
 refine rn tk 1 rfl ?_;cases hr;exact kr tk (.inr rfl) rfl rfl
theorem qua(a0:Str)(r:Bool)(hr:kra a0=some r):Run prog 59 [.s a0] (.bo r):=by
 unfold kra at hr;refine rf (fn:=f59) ⟨func59,rfl,by kernel_rfl⟩ rfl (fun _=>rfl) fun g0 hg=>?_
 refine rn tk 8 rfl ?_;obtain ⟨v1,h2,hr⟩:=zaa hr;refine cl (Vva _ _ h2) rfl rfl<|rn tk 16 rfl ?_;cases hr;exact kr tk (.inr rfl) rfl rfl
theorem wia(a0:Int)(r:Bool)(hr:k2a a0=some r):Run prog 87 [.i a0] (.bo r):=by
 unfold k2a at hr;refine rf (fn:=f87) ⟨func87,rfl,by kernel_rfl⟩ rfl (fun _=>rfl) fun g0 hg=>?_
 refine rn tk 5 rfl<|jb hr (fun j1=>[(2,.bo j1)]) (fun j1=>[]) (fun j1 hr=>?_) (fun j1 hr=>?_)
 .refine rn tk 4 rfl<|bs 5 hr rfl (fun c2 hr=>?_) (fun c2 hr=>?_)
  .refine rn tk 5 rfl ?_;cases hr;exact jn _ rfl rfl rfl
  refine rn tk 5 rfl ?_;cases hr;exact jn _ rfl rfl rfl
 refine rn tk 1 rfl ?_;cases hr;exact kr tk (.inr rfl) rfl rfl
end Go.Proofs.YtmmjihadplknjaaGreatDoor
