/- Part 4 of the proof of the law ServerNewMatchesSpec: what it needs. -/
import Derived.Test.YtmmjihadplknjaaGreatDoorKServerNewMatchesSpec3
import Derived.Lib.ItoaMem
import Derived.Lib.Atoi
import Derived.Lib.SplitLaws
import Derived.Shelf.Strings.Builder1
import Derived.Shelf.Strings.Builder2
import Derived.Shelf.Strings.OnBuilder
import Derived.Shelf.Strings.Trim
import Derived.Shelf.Small.Utf8
import Derived.Shelf.Small.Strs
import Derived.Shelf.Small.Wraps
import Derived.Shelf.Strings.BuilderF
import Derived.Shelf.Strconv.Atoi
import Derived.Shelf.Strconv.Itoa0
import Derived.Shelf.Strconv.Itoa1
import Derived.Shelf.LaysM
import Derived.Shelf.Strconv.Itoa2
import Derived.Shelf.Strconv.Itoa3
import Derived.Shelf.Strconv.AtoiErrFast
import Derived.Shelf.Strconv.ParseIntEmpty
import Derived.Shelf.Strconv.AtoiFail
import Derived.Shelf.Strconv.Clone
import Derived.Shelf.Strconv.SyntaxError
import Derived.Shelf.LaysC
import Derived.Shelf.Strconv.ToError
import Derived.Shelf.Strconv.AtoiErr
import Derived.Shelf.Strconv.ErrVar
import Derived.Shelf.Strings.Search1
import Derived.Shelf.Strings.Search2
import Derived.Shelf.Strings.Search3
import Derived.Shelf.Strings.Cut
import Derived.Shelf.Strings.Count
import Derived.Shelf.Strings.Shaped
import Derived.Shelf.Strings.Prefix
import Derived.Shelf.Strings.Split
import Derived.Shelf.Strings.Runes
import Derived.Shelf.Strings.IndexAny
import Derived.Shelf.Strings.AsciiSet
import Derived.Shelf.Strings.IndexAnyAll
import Derived.Shelf.Unicode.DecodeSlow
import Derived.Shelf.Strings.FieldsFuncAny
import Derived.Shelf.Bytes.SlIndexSmall
import Derived.Shelf.Bytes.SlIndexAt
import Derived.Shelf.Bytes.SlSearch0
import Derived.Shelf.Bytes.SlSearch1
import Derived.Shelf.Bytes.SlSearch2
import Derived.Shelf.Bytes.SlIndexWhole
import Derived.Shelf.Bytes.SlSmallAll
import Derived.Shelf.Bytes.SlEqualAll
import Derived.Shelf.Bytes.Small
import Derived.Shelf.Bytes.IndexByte
import Derived.Test.YtmmjihadplknjaaGreatDoorProg
set_option linter.unusedVariables false
set_option linter.unusedSimpArgs false
set_option maxRecDepth 100000
set_option maxHeartbeats 40000000
namespace Go.Proofs.YtmmjihadplknjaaGreatDoor
open Go.RowKit
def mixF(l:List zia)(i:Nat):List zia:=(l.take i).map v7a++l.drop i
theorem yrb{l:List zia}{i:Nat}{x:zia}(h:l[i]? =some x):(mixF l i)[i]? =some x:=by
 have hi:=(List.getElem?_eq_some_iff.1 h).1;unfold mixF;rw[List.getElem?_append_right (by simp;omega)];simp only[List.length_map,List.length_take,List.getElem?_drop];rw[show i+(i - min i l.length)=i by omega];exact h
theorem qQb(l:List zia)(i:Nat):(mixF l i).length=l.length:=by simp[mixF];omega
theorem zIb{l:List zia}{i:Nat}{x:zia}(h:l[i]? =some x):(mixF l i).set i (v7a x)=mixF l (i+1):=by
 have hi:=(List.getElem?_eq_some_iff.1 h).1;have hx:=(List.getElem?_eq_some_iff.1 h).2;unfold mixF;rw[List.set_append_right _ _ (by simp;omega)];simp only[List.length_map,List.length_take];rw[show i - min i l.length=0 by omega,List.take_add_one,h,List.drop_eq_getElem_cons hi,hx];simp
theorem qRb(l:List zia):mixF l l.length=l.map v7a:=by simp[mixF]
theorem zJb(l:List zia):mixF l 0=l:=by simp[mixF]
def ysb(l:List zia)(i:Nat):Nat ⊕ Option Nat:=match l[i]? with
 | some f=>if 4000 < (j1a f.Value).length then .inr (some i) else .inl (i+1)
 | none=>.inr none
def vout(l:List zia):Option Nat->(List zia) ⊕ ((List zia) × Int × zua)
 | none=>.inl (l.map v7a)
 | some i=>.inr ([],0,⟨1,(i:Int)⟩)
def valsP(l:List zia):Option Nat:=k0b (ysb l) none (l.length+1) 0
theorem ytb(p:Int × List zia)(hl:p.2.length<=1048576)(hv:∀f∈p.2,f.Value.length<=1048576):iter (vxa p) ((0,p.2))=some (vout p.2 (valsP p.2)):=by
 have h:=Qga (fun i:Nat=>((i:Int),mixF p.2 i)) (vout p.2) (ysb p.2) none (fun i=>i<=p.2.length) (fun i=>p.2.length - i) (body:=vxa p) (fun i hi=>?_) (p.2.length+1) 0 (Nat.zero_le _) (by omega)
 .rw[zJb]at h;exact h
 unfold vxa ysb;cases hf:p.2[i]? with
 | none=>
  have:i=p.2.length:=by have:=List.getElem?_eq_none_iff.1 hf;omega
  subst this;dsimp only;rw[decide_eq_false (by omega),qRb];exact ⟨rfl,fun s' e=>by cases e⟩
 | some f=>
  have hi2:=zXa hf;have hfv:=hv f (List.mem_of_getElem? hf);dsimp only;rw[decide_eq_true (by omega),zMa (yrb hf)];simp only[cond_true,Option.bind_some];have ht:=Trim_eq f.Value hfv;have hlt:(j1a f.Value).length<=1048576:=Nat.le_trans (YNa _) hfv;cases hr:z0a f.Value with
  | none=>rw[hr]at ht;cases ht
  | some v=>
   rw[hr]at ht;simp only[Option.bind_some]at ht ⊢;rw[ht];simp only[Option.bind_some];by_cases h4:4000 < (j1a f.Value).length
   .rw[if_pos h4,decide_eq_true (by omega)];exact ⟨rfl,fun s' e=>by cases e⟩
   rw[if_neg h4,decide_eq_false (by omega)];simp only[cond_false];rw[sc i (by omega),Int.toNat_natCast];refine ⟨?_,fun s' e=>by cases e;exact ⟨by omega,by omega⟩⟩;rw[show (⟨f.Name,j1a f.Value⟩:zia)=v7a f from rfl,zIb hf];rfl
theorem vals_ref(l:List zia)(hl:l.length<=1048576)(hv:∀f∈l,f.Value.length<=1048576):iter (wGa) ((0,l))=some (l.map v7a):=by
 have h:=Qga (fun i:Nat=>((i:Int),mixF l i)) (fun _:Unit=>l.map v7a) (fun i=>if i < l.length then .inl (i+1) else .inr ()) () (fun i=>i<=l.length) (fun i=>l.length - i) (body:=wGa) (fun i hi=>?_) (l.length+1) 0 (Nat.zero_le _) (by omega)
 .rw[zJb]at h;exact h
 unfold wGa;by_cases hi2:i < l.length
 .have hf:l[i]? =some l[i]:=List.getElem?_eq_getElem hi2;rw[if_pos hi2];dsimp only;rw[qQb,decide_eq_true (by omega),zMa (yrb hf)];simp only[cond_true,Option.bind_some];rw[zEb _ (hv _ (List.getElem_mem _))];simp only[Option.bind_some];rw[sc i (by omega),Int.toNat_natCast];refine ⟨?_,fun s' e=>by cases e;exact ⟨by omega,by omega⟩⟩;rw[show (⟨l[i].Name,j1a l[i].Value⟩:zia)=v7a l[i] from rfl,zIb hf];rfl
 rw[if_neg hi2];obtain rfl:i=l.length:=by omega
 dsimp only;rw[qQb,decide_eq_false (by omega),qRb];exact ⟨rfl,fun s' e=>by cases e⟩
theorem vPb(l:List zia):(valsP l=none->∀f∈l,(v7a f).Value.length<=4000)/\(valsP l≠none->∃f∈l,4000 < (v7a f).Value.length):=by
 refine zGb (ysb l) none (fun i=>i<=l.length/\∀j f,j < i->l[j]? =some f->(v7a f).Value.length<=4000) (fun r=>(r=none->∀f∈l,(v7a f).Value.length<=4000)/\(r≠none->∃f∈l,4000 < (v7a f).Value.length)) (fun i=>l.length - i) ?_ _ 0 ⟨Nat.zero_le _,fun j f h=>by omega⟩ (by omega);rintro i ⟨hi,hj⟩;unfold ysb;cases hf:l[i]? with
 | none=>
  refine ⟨fun s' e=>(by cases e),fun r e=>?_⟩;cases e;refine ⟨fun _ f hm=>?_,fun h=>absurd rfl h⟩;obtain ⟨j,hjf⟩:=List.getElem?_of_mem hm;have:=List.getElem?_eq_none_iff.1 hf;exact hj j f (by have:=zXa hjf;omega) hjf
 | some f=>
  dsimp only;by_cases h4:4000 < (j1a f.Value).length
  .rw[if_pos h4];refine ⟨fun s' e=>(by cases e),fun r e=>?_⟩;cases e;exact ⟨fun h=>(by cases h),fun _=>⟨f,List.mem_of_getElem? hf,h4⟩⟩
  rw[if_neg h4];refine ⟨fun s' e=>?_,fun r e=>by cases e⟩;cases e;have:=zXa hf;refine ⟨⟨by omega,fun j g hji hg=>?_⟩,by omega⟩;by_cases e:j=i
  .subst e;rw[hf]at hg;cases hg;exact Nat.le_of_not_lt h4
  exact hj j g (by omega) hg
def zeroM:zAa:=⟨[],[]⟩
def rawM(b:List UInt8):zAa:=⟨(yfa b).2.map v7a,jRa (b.drop (yfa b).1).length (b.drop (yfa b).1)⟩
def ZWa(b:List UInt8):zAa × Bool:=
 if 60 < (yfa b).2.length then (zeroM,false) else if (msgF (rawM b)).Code=0 then (rawM b,true) else (zeroM,false)
theorem YOa(b:List UInt8)(hb:b.length<=12000):yib (rawM b):=by
 obtain ⟨h1,h2,h3⟩:=WEa b;refine ⟨⟨by show ((yfa b).2.map v7a).length<=_;simp;omega,fun f hf=>?_⟩,?_⟩
 .have hf:f∈(yfa b).2.map v7a:=hf;obtain ⟨g,hg,rfl⟩:=List.mem_map.1 hf;have:=h3 g hg;have h4:=YNa g.Value;show g.Name.length<=_/\(j1a g.Value).length<=_;omega
 show (jRa _ _).length<=_;have:=WAa (b.drop (yfa b).1).length (b.drop (yfa b).1);simp at this ⊢;omega
theorem Yja(b:List UInt8)(hb:b.length<=12000):KBa b=some (ZWa b):=by
 obtain ⟨h1,h2,h3⟩:=WEa b;unfold KBa;rw[(zHb b hb).2];simp only[Option.bind_some,encH];unfold ZWa;by_cases h60:60 < (yfa b).2.length
 .rw[if_pos h60,decide_eq_true (by omega)];rfl
 rw[if_neg h60,decide_eq_false (by omega)];simp only[cond_false];rw[vals_ref _ (by omega) (fun f hf=>by have:=h3 f hf;omega)];simp only[Option.bind_some];rw[ypb b (by omega) _ h1];simp only[Option.bind_some];rw[show (⟨(yfa b).2.map v7a,jRa (b.drop (yfa b).1).length (b.drop (yfa b).1)⟩:zAa)=rawM b from rfl,QWa _ (YOa b hb)];simp only[Option.bind_some];by_cases h0:(msgF (rawM b)).Code=0
 .rw[if_pos h0,h0];rfl
 rw[if_neg h0,bne_iff_ne.2 h0];rfl
theorem WFa(b:List UInt8)(hb:b.length<=12000):∃f:zua,wTa b=some ((ZWa b).1,f)/\(f.Code !=0)= !(ZWa b).2:=by
 obtain ⟨h1,h2,h3⟩:=WEa b;unfold wTa jKa;rw[decide_eq_false (by omega),(zHb b hb).1];simp only[cond_false,Option.bind_some,encH];unfold ZWa;by_cases h60:60 < (yfa b).2.length
 .rw[if_pos h60,decide_eq_true (by omega)];exact ⟨⟨2, -2⟩,rfl,rfl⟩
 rw[if_neg h60,decide_eq_false (by omega)];simp only[cond_false];rw[ytb ((((yfa b).1:Nat):Int),(yfa b).2) (by show (yfa b).2.length<=_;omega) (fun f hf=>by have:=h3 f hf;omega)];simp only[Option.bind_some];obtain ⟨v1,v2⟩:=vPb (yfa b).2;cases hv:valsP (yfa b).2 with
 | none=>
  simp only[vout,Sum.elim_inl,qaa,Option.bind_some,kga];rw[show ((0:Int) !=0)=false from rfl];simp only[cond_false];rw[ySa h1];simp only[Option.bind_some];rw[VAa _ (by simp;omega)];simp only[Option.bind_some];rw[show (⟨(yfa b).2.map v7a,jRa (b.drop (yfa b).1).length (b.drop (yfa b).1)⟩:zAa)=rawM b from rfl,KHa _ (YOa b hb)];simp only[Option.bind_some];by_cases h0:(msgF (rawM b)).Code=0
  .rw[if_pos h0,h0];exact ⟨⟨0,0⟩,rfl,rfl⟩
  rw[if_neg h0,bne_iff_ne.2 h0];exact ⟨msgF (rawM b),rfl,by rw[bne_iff_ne.2 h0];rfl⟩
 | some i=>
  have h0:¬(msgF (rawM b)).Code=0:=by
   intro h0;obtain ⟨f,hf,h4⟩:=v2 (by rw[hv];simp);have hh:(ZVa (rawM b).Fields).Code=0:=by
    by_cases hz:(ZVa (rawM b).Fields).Code=0
    .exact hz
    unfold msgF at h0;rw[if_pos (by simp[hz])]at h0;exact h0
   have:=(JNa ((ZKa _ hh).2.2 (v7a f) (List.mem_map.2 ⟨f,hf,rfl⟩))).2.1;omega
  rw[if_neg h0];exact ⟨⟨1,(i:Int)⟩,rfl,rfl⟩
theorem kEa{u:Nat}(h:u < 10):Lib.decDigits u=[UInt8.ofNat (48+u)]:=by rw[Lib.decDigits,dif_pos h]
theorem ZLa{u:Nat}(h:¬u < 10):Lib.decDigits u=Lib.decDigits (u / 10)++Lib.decDigits (u % 10):=by
 rw[Lib.decDigits,dif_neg h,kEa (show u % 10 < 10 by omega)]
theorem Qha:∀(k u:Nat),u < 10 ^ (k+1)->(Lib.decDigits u).length<=k+1
 | 0,u,h=>by rw[kEa (by simpa using h)];simp
 | k+1,u,h=>by
  by_cases h10:u < 10
  .rw[kEa h10];simp
  have:=Qha k (u / 10) (by rw[Nat.pow_succ]at h;omega);rw[ZLa h10,kEa (show u % 10 < 10 by omega)];simp;omega
theorem qSb(u:Nat):1<=(Lib.decDigits u).length:=by
 by_cases h10:u < 10
 .rw[kEa h10];simp
 rw[ZLa h10,kEa (show u % 10 < 10 by omega)];simp
theorem iQuo10{u:Nat}(h:u<=9223372036854775807):iQuo (u:Int) 10=((u / 10:Nat):Int):=by
 unfold iQuo;rw[Int.tdiv_eq_ediv_of_nonneg (by omega),qGa (by omega) (by omega)];omega
theorem iRem10(u:Nat):iRem (u:Int) 10=((u % 10:Nat):Int):=by
 unfold iRem;rw[Int.tmod_eq_emod_of_nonneg (by omega)];omega
theorem yub:∀u:Fin 10,cut ([48,49,50,51,52,53,54,55,56,57]:Str) (u.val:Int) (w64 ((u.val:Int)+1))=some [UInt8.ofNat (48+u.val)]:=by decide
theorem kLa{f g:Int->Option Str}(hf:∀n:Int,f n=bif decide (n < 10) then (cut ([48,49,50,51,52,53,54,55,56,57]:Str) n (w64 (n+1))).bind fun v2=>some v2 else (g (iQuo n 10)).bind fun v4=>(g (iRem n 10)).bind fun v6=>(cat v4 v6).bind fun v8=>some v8)
 (k:Nat) (hk:k<=17) (hg:∀u:Nat,u < 10 ^ k->1<=k->g (u:Int)=some (Lib.decDigits u)) (u:Nat) (hu:u < 10 ^ (k+1)):f (u:Int)=some (Lib.decDigits u):=by
 have hp:10 ^ (k+1)<=10 ^ 18:=Nat.pow_le_pow_right (by omega) (by omega);rw[hf];by_cases h10:u < 10
 .rw[decide_eq_true (by omega:(u:Int) < 10),cond_true,yub ⟨u,h10⟩,kEa h10];rfl
 have hk1:1<=k:=by
  rcases Nat.eq_zero_or_pos k with rfl | h
  .simp at hu;omega
  exact h
 have h9:10 ^ 1<=10 ^ k:=Nat.pow_le_pow_right (by omega) hk1;rw[decide_eq_false (by omega:¬(u:Int) < 10),cond_false,iQuo10 (by omega),iRem10,hg _ (by rw[Nat.pow_succ]at hu;omega) hk1,hg _ (by omega) hk1,ZLa h10];have h1:=Qha 17 (u / 10) (by omega);have h2:=Qha 17 (u % 10) (by omega);simp only[Option.bind_some];rw[joa (by omega)];rfl
theorem WGa(u:Nat)(h:u < 10 ^ 12):jJa (u:Int)=some (Lib.decDigits u):=by
 have h1:=kLa (f:=Kra) (g:=Kqa) (fun _=>rfl) 0 (by omega) (fun _ _ h=>by omega);have h2:=kLa (f:=Ksa) (fun _=>rfl) 1 (by omega) (fun u hu _=>h1 u hu);have h3:=kLa (f:=Kta) (fun _=>rfl) 2 (by omega) (fun u hu _=>h2 u hu);have h4:=kLa (f:=Kua) (fun _=>rfl) 3 (by omega) (fun u hu _=>h3 u hu);have h5:=kLa (f:=Kva) (fun _=>rfl) 4 (by omega) (fun u hu _=>h4 u hu);have h6:=kLa (f:=Kwa) (fun _=>rfl) 5 (by omega) (fun u hu _=>h5 u hu);have h7:=kLa (f:=Kxa) (fun _=>rfl) 6 (by omega) (fun u hu _=>h6 u hu);have h8:=kLa (f:=Kya) (fun _=>rfl) 7 (by omega) (fun u hu _=>h7 u hu);have h9:=kLa (f:=Kza) (fun _=>rfl) 8 (by omega) (fun u hu _=>h8 u hu);have h10:=kLa (f:=Zla) (fun _=>rfl) 9 (by omega) (fun u hu _=>h9 u hu);have h11:=kLa (f:=Zma) (fun _=>rfl) 10 (by omega) (fun u hu _=>h10 u hu);exact kLa (f:=jJa) (fun _=>rfl) 11 (by omega) (fun u hu _=>h11 u hu) u h
theorem Zsa(u:Nat)(h:u<=9223372036854775807):z8a (u:Int)=some (Lib.decDigits u):=by
 unfold z8a;rw[if_pos (by omega),Lib.itoa_nonneg]
theorem Zta(b:UInt8):∀(l:Str) (acc:Nat),Lib.decFrom acc (l++ [b])=(Lib.decFrom acc l).bind fun n=>(Lib.digitVal b).map fun d=>n * 10+d
 | [],acc=>by
  simp only[List.nil_append,Lib.decFrom,Option.bind_some];cases Lib.digitVal b <;> rfl
 | x::l,acc=>by
  rw[List.cons_append,Lib.decFrom,Lib.decFrom];cases Lib.digitVal x with
  | none=>rfl
  | some d=>exact Zta b l _
theorem y9a{d:Nat}(h:d < 10):Lib.digitVal (UInt8.ofNat (48+d))=some d:=by
 have e:(UInt8.ofNat (48+d)).toNat=48+d:=by rw[UInt8.toNat_ofNat'];omega
 unfold Lib.digitVal;rw[e,if_pos (by omega)]
 congr 1;omega
theorem WHa:∀(k u:Nat),u < 10 ^ (k+1)->Lib.decFrom 0 (Lib.decDigits u)=some u
 | 0,u,h=>by
  rw[kEa (by simpa using h),Lib.decFrom,y9a (show u < 10 by simpa using h)];simp[Lib.decFrom]
 | k+1,u,h=>by
  by_cases h10:u < 10
  .rw[kEa h10,Lib.decFrom,y9a h10];simp[Lib.decFrom]
  rw[ZLa h10,kEa (show u % 10 < 10 by omega),Zta,WHa k (u / 10) (by rw[Nat.pow_succ]at h;omega),y9a (by omega)];simp;omega
theorem WIa(u:Nat):Lib.decFrom 0 (Lib.decDigits u)=some u:=by
 refine WHa u u<|Nat.lt_of_lt_of_le (Nat.lt_pow_self (by omega)) (Nat.pow_le_pow_right (by omega) (by omega))
theorem decD_ne(u:Nat):Lib.decDigits u≠ []:=by
 intro h;have:=qSb u;rw[h]at this;simp at this
theorem YPa(u:Nat):Lib.decNat (Lib.decDigits u)=some u:=by
 unfold Lib.decNat;have:(Lib.decDigits u).isEmpty=false:=by
  cases h:Lib.decDigits u with
  | nil=>exact absurd h (decD_ne u)
  | cons x l=>rfl
 rw[this];exact WIa u
theorem WJa(u:Nat):∃(d:Nat) (r:Str),d < 10/\Lib.decDigits u=UInt8.ofNat (48+d)::r/\(10<=u->1<=d)/\(u < 10->r=[]):=by
 induction u using Nat.strongRecOn with
 | _ u ih=>
  by_cases h10:u < 10
  .exact ⟨u,[],h10,kEa h10,by omega,fun _=>rfl⟩
  obtain ⟨d,r,h1,h2,h3,h4⟩:=ih (u / 10) (by omega);refine ⟨d,r++Lib.decDigits (u % 10),h1,by rw[ZLa h10,h2];rfl,fun _=>?_,by omega⟩;by_cases h5:10<=u / 10
  .exact h3 h5
  have h6:=kEa (show u / 10 < 10 by omega);rw[h2]at h6;injection h6 with h7 _
  have h8:=congrArg UInt8.toNat h7;rw[UInt8.toNat_ofNat',UInt8.toNat_ofNat']at h8;omega
theorem YQa:∀(l:Str) (acc n:Nat),Lib.decFrom acc l=some n->acc<=n
 | [],acc,n,h=>by simp[Lib.decFrom]at h;omega
 | x::l,acc,n,h=>by
  rw[Lib.decFrom]at h;cases hd:Lib.digitVal x with
  | none=>rw[hd]at h;cases h
  | some d=>
   rw[hd]at h;have:=YQa l _ n h;omega
theorem zKb:∀(k:Nat) (s:Str) (m:Nat),s.length=k->Lib.decFrom 0 s=some m->s≠ []->(s.length=1∨s.head? ≠some 48)->Lib.decDigits m=s
 | 0,s,m,hk,h,hne,_=>absurd (List.length_eq_zero_iff.1 hk) hne
 | k+1,s,m,hk,h,hne,hz=>by
  obtain ⟨t,b,rfl⟩:∃t b,s=t++ [b]:=⟨s.dropLast,s.getLast hne,(List.dropLast_concat_getLast hne).symm⟩;rw[Zta]at h;cases ht:Lib.decFrom 0 t with
  | none=>rw[ht]at h;cases h
  | some n=>
   rw[ht]at h;cases hb:Lib.digitVal b with
   | none=>rw[hb]at h;cases h
   | some d=>
    rw[hb]at h;simp only[Option.bind_some,Option.map_some,Option.some.injEq]at h;subst h;obtain ⟨h1,h2,h3⟩:=Lib.digitVal_eq hb;have hbe:UInt8.ofNat (48+d)=b:=by
     rw[<-UInt8.toNat_inj,UInt8.toNat_ofNat'];omega
    cases t with
    | nil=>
     simp[Lib.decFrom]at ht;subst ht;rw[Nat.zero_mul,Nat.zero_add,kEa (by omega),hbe];rfl
    | cons x t=>
     have hx:x≠48:=by
      rcases hz with hz | hz
      .simp at hz
      intro e;subst e;simp at hz
     have hn1:1<=n:=by
      rw[Lib.decFrom]at ht;cases hx2:Lib.digitVal x with
      | none=>rw[hx2]at ht;cases ht
      | some e=>
       rw[hx2]at ht;have h4:=YQa t _ n ht;obtain ⟨h5,h6,h7⟩:=Lib.digitVal_eq hx2;have:x.toNat≠48:=fun e2=>hx (UInt8.toNat_inj.1 e2)
       omega
     have ih:=zKb k (x::t) n (by simp at hk ⊢;omega) ht (by simp) (.inr (by simpa using hx));rw[ZLa (by omega),show (n * 10+d) / 10=n by omega,show (n * 10+d) % 10=d by omega,ih,kEa (by omega),hbe]
theorem qTb(m:Nat):Lib.atoi (Lib.decDigits m)=some (m:Int):=by
 obtain ⟨d,r,h1,h2,_⟩:=WJa m;have e45:(UInt8.ofNat (48+d)==45)=false:=by
  rw[beq_eq_false_iff_ne];intro e;have:=congrArg UInt8.toNat e;rw[UInt8.toNat_ofNat']at this;have h45:(45:UInt8).toNat=45:=rfl;omega
 have e43:(UInt8.ofNat (48+d)==43)=false:=by
  rw[beq_eq_false_iff_ne];intro e;have:=congrArg UInt8.toNat e;rw[UInt8.toNat_ofNat']at this;have h43:(43:UInt8).toNat=43:=rfl;omega
 have hd:=YPa m;rw[h2]at hd ⊢;unfold Lib.atoi;dsimp only;rw[e45,e43,hd];rfl
def numP(s:Str):Option Nat:=if s.length<=9 then (match Lib.decNat s with | some m=>if Lib.decDigits m=s then some m else none | none=>none) else none
theorem WKa{s:Str}{m:Nat}(h:numP s=some m):s.length<=9/\Lib.decDigits m=s/\m < 1000000000:=by
 unfold numP at h;split at h
 .rename_i h9;split at h
  .rename_i n hn;split at h
   .rename_i he;cases h;have h1:=Lib.decFrom_lt _ _ _ (Lib.decNat_some hn).2;have h2:10 ^ s.length<=10 ^ 9:=Nat.pow_le_pow_right (by omega) h9;exact ⟨h9,he,by omega⟩
   cases h
  cases h
 cases h
theorem numP_dec{m:Nat}(h:m < 1000000000):numP (Lib.decDigits m)=some m:=by
 unfold numP;rw[if_pos (Qha 8 m (by omega)),YPa];simp
theorem WLa(s:Str)(h9:s.length<=9):wPa s 999999999=some (match numP s with | some m=>((m:Int),true) | none=>(0,false)):=by
 have hlen:s.length<=18:=by omega
 unfold wPa q7a;rw[if_pos hlen];have noneCase:(∀m,s≠Lib.decDigits m)->numP s=none:=by
  intro hno;cases hm:numP s with
  | none=>rfl
  | some m=>exact absurd (WKa hm).2.1.symm (hno m)
 cases ha:Lib.atoi s with
 | none=>
  have:numP s=none:=by
   refine noneCase fun m hm=>?_
   have h3:Lib.atoi s=some (m:Int):=by rw[hm];exact qTb m
   rw[h3]at ha;cases ha
  rw[this];rfl
 | some n=>
  obtain ⟨b0,r,hs,hc⟩:=Lib.atoi_cases ha;have hbig: -1000000000000000000 < n/\n < 1000000000000000000:=by
   rcases hc with ⟨_,m,_,hm,rfl⟩ | ⟨_,m,_,hm,rfl⟩ | ⟨_,_,m,hm,rfl⟩
   .have:=Lib.decFrom_lt18 hm (by rw[hs]at hlen;simp at hlen;omega);omega
   .have:=Lib.decFrom_lt18 hm (by rw[hs]at hlen;simp at hlen;omega);omega
   have:=Lib.decFrom_lt18 hm (by rw[<-hs];exact hlen);omega
  simp only[Option.bind_some,cond_false];unfold z8a;rw[if_pos (by omega)];simp only[Option.bind_some];by_cases hi:Lib.itoa n=s
  .have:(Lib.itoa n !=s)=false:=by simp[hi]
   rw[this];simp only[cond_false];by_cases hn:n < 0
   .rw[decide_eq_true hn];have:numP s=none:=by
     refine noneCase fun m hm=>?_
     unfold Lib.itoa at hi;rw[if_pos hn]at hi;obtain ⟨d,r',h1,h2,_⟩:=WJa m;rw[hm,h2]at hi;injection hi with h3 _
     have:=congrArg UInt8.toNat h3;rw[UInt8.toNat_ofNat']at this;simp at this;omega
    rw[this];rfl
   rw[decide_eq_false hn];unfold Lib.itoa at hi;rw[if_neg hn]at hi;have hlt:n.toNat < 1000000000:=by
    have h1:=Lib.decFrom_lt _ _ _ (WIa n.toNat);rw[hi]at h1;have h2:10 ^ s.length<=10 ^ 9:=Nat.pow_le_pow_right (by omega) h9;omega
   have hP:numP s=some n.toNat:=by rw[<-hi];exact numP_dec hlt
   rw[hP];simp only[cond_false];rw[decide_eq_false (by omega)];simp only[cond_false,Option.bind_some];rw[show ((n.toNat:Nat):Int)=n by omega]
  have:(Lib.itoa n !=s)=true:=by simpa using hi
  rw[this];have hP:numP s=none:=by
   refine noneCase fun m hm=>hi ?_
   have h3:Lib.atoi s=some (m:Int):=by rw[hm];exact qTb m
   rw[ha]at h3;cases h3;rw[Lib.itoa_nonneg,hm]
  rw[hP];rfl
theorem WMa(s:Str)(hs:s.length<=9):∀(r p:Str) (acc:Nat),s=p++r->acc < 10 ^ p.length->iter (wpa s) ((acc:Int),(p.length:Int))=some (match Lib.decFrom acc r with | some m=>.inl (m:Int) | none=>.inr (-1))
 | [],p,acc,h,ha=>by
  rw[List.append_nil]at h;subst h;refine zGa ?_;unfold wpa;dsimp only;rw[zSa];rfl
 | x::r,p,acc,h,ha=>by
  have hp:p.length<=8:=by have:=congrArg List.length h;simp at this;omega
  have hpw:10 ^ p.length<=10 ^ 8:=Nat.pow_le_pow_right (by omega) hp;have hx:s[p.length]? =some x:=by rw[h];simp
  have hin:R_In (x.toNat:Int) 48 57=some (decide (48<=x.toNat) && decide (x.toNat<=57)):=by
   rw[vJa]
   congr 2 <;> (rw[Bool.eq_iff_iff,decide_eq_true_eq,decide_eq_true_eq];omega)
  by_cases hd:48<=x.toNat/\x.toNat<=57
  .have hv:Lib.digitVal x=some (x.toNat - 48):=by unfold Lib.digitVal;rw[if_pos hd]
   have h2:(x - 48).toNat=x.toNat - 48:=UInt8.toNat_sub_of_le x 48 (by rw[UInt8.le_iff_toNat_le];exact hd.1);have wva:wpa s ((acc:Int),(p.length:Int))=some (.cont (((acc * 10+(x.toNat - 48):Nat):Int),((p.length+1:Nat):Int))):=by
    unfold wpa;dsimp only;rw[kza hx,zMa hx];simp only[cond_true,Option.bind_some,hin];rw[decide_eq_true hd.1,decide_eq_true hd.2,h2];have e1:w64 (10 * (acc:Int))=10 * (acc:Int):=qGa (by omega) (by omega);simp only[Bool.and_true,Bool.not_true,cond_false,sc p.length (by omega)];rw[e1,qGa (by omega) (by omega)]
    congr 3
    omega
   rw[zQa wva];have:=WMa s hs r (p++ [x]) (acc * 10+(x.toNat - 48)) (by simp[h]) (by simp[Nat.pow_succ];omega);simp only[List.length_append,List.length_cons,List.length_nil]at this;rw[show 0+1=1 from rfl]at this;rw[this,Lib.decFrom,hv]
  have hv:Lib.digitVal x=none:=by unfold Lib.digitVal;rw[if_neg hd]
  have hb:(decide (48<=x.toNat) && decide (x.toNat<=57))=false:=by
   cases h1:decide (48<=x.toNat) && decide (x.toNat<=57) with
   | false=>rfl
   | true=>simp only[Bool.and_eq_true,decide_eq_true_eq]at h1;exact absurd h1 hd
  rw[Lib.decFrom,hv];refine zGa ?_;unfold wpa;dsimp only;rw[kza hx,zMa hx];simp only[cond_true,Option.bind_some,hin,hb];rfl
theorem jSa(s:Str)(hs:s.length<=1048576):VTa s=some (match numP s with | some m=>(m:Int) | none=> -1):=by
 unfold VTa;rw[vJa];by_cases h9:1<=s.length/\s.length<=9
 .have e:(decide ((1:Int)<=(s.length:Int)) && decide ((s.length:Int)<=9))=true:=by simp;omega
  rw[e];simp only[Option.bind_some,Bool.not_true,cond_false];cases s with
  | nil=>simp at h9
  | cons x r=>
   have e0:idx (x::r) 0=some x:=rfl;rw[e0];simp only[Option.bind_some,qNa x 48 (by decide)];have loop:=WMa (x::r) h9.2 (x::r) [] 0 rfl (by simp);rw[show (((0:Nat):Int),(([]:Str).length:Int))=((0:Int),(0:Int)) from rfl]at loop;rw[loop];by_cases hz:1 < (x::r).length/\x=48
   .obtain ⟨h1,rfl⟩:=hz;rw[decide_eq_true (by omega)];have hP:numP (48::r)=none:=by
     cases hm:numP (48::r) with
     | none=>rfl
     | some m=>
      obtain ⟨_,h2,_⟩:=WKa hm;obtain ⟨d,r',h3,h4,h5,h6⟩:=WJa m;rw[h2]at h4;injection h4 with h7 h8
      have h9' :=congrArg UInt8.toNat h7;rw[UInt8.toNat_ofNat']at h9';have hd0:d=0:=by
       have:(48:UInt8).toNat=48:=rfl;omega
      by_cases h10:10<=m
      .have:=h5 h10;omega
      have:=h6 (by omega);rw[h8]at h1;rw[this]at h1;simp at h1
    rw[hP];rfl
   have e1:(bif decide ((1:Int) < (((x::r).length:Nat):Int)) then some (x==48) else some false)=some false:=by
    by_cases h1:1 < (x::r).length
    .have hx:x≠48:=fun e=>hz ⟨h1,e⟩
     rw[decide_eq_true (by omega)];simpa using hx
    rw[decide_eq_false (by omega)];rfl
   rw[e1];simp only[Option.bind_some,cond_false];have hd:Lib.decNat (x::r)=Lib.decFrom 0 (x::r):=rfl;unfold numP;rw[if_pos h9.2,hd];cases hm:Lib.decFrom 0 (x::r) with
   | none=>rfl
   | some m=>
    have hc:=zKb _ (x::r) m rfl hm (by simp) (by
     by_cases h1:(x::r).length=1
     .exact .inl h1
     right;have hx:x≠48:=fun e=>hz ⟨by have:(x::r).length=r.length+1:=rfl;omega,e⟩
     simpa using hx)
    simp only[hc,if_true];rfl
 have e:(decide ((1:Int)<=(s.length:Int)) && decide ((s.length:Int)<=9))=false:=by
  cases h1:decide ((1:Int)<=(s.length:Int)) && decide ((s.length:Int)<=9) with
  | false=>rfl
  | true=>simp at h1;exact absurd ⟨by omega,by omega⟩ h9
 rw[e];have hP:numP s=none:=by
  cases hm:numP s with
  | none=>rfl
  | some m=>
   obtain ⟨h1,h2,_⟩:=WKa hm;have:=qSb m;rw[h2]at this;exact absurd ⟨this,h1⟩ h9
 rw[hP];rfl
theorem wwa(s:Str):qPa s=some (match numP s with | some m=>((m:Int),true) | none=>(0,false)):=by
 unfold qPa;by_cases h9:s.length<=9
 .rw[decide_eq_false (by omega),WLa s h9];cases numP s <;> rfl
 rw[decide_eq_true (by omega)];have:numP s=none:=by unfold numP;rw[if_neg h9]
 rw[this];rfl
instance:DecidableEq zia:=fun a b=>decidable_of_iff (a.Name=b.Name/\a.Value=b.Value) (by cases a;cases b;simp)
instance:DecidableEq zAa:=fun a b=>decidable_of_iff (a.Fields=b.Fields/\a.Body=b.Body) (by cases a;cases b;simp)
instance:DecidableEq zEa:=fun a b=>decidable_of_iff (a.Envelope=b.Envelope/\a.Message=b.Message) (by cases a;cases b;simp)
theorem low_add(c:UInt8):c+97 - 65=c+32:=by
 rw[<-UInt8.toNat_inj];have:=c.toNat_lt;simp only[UInt8.toNat_add,UInt8.toNat_sub,UInt8.reduceToNat];omega
theorem Q0a(s:Str)(hs:s.length<=1048576):Woa s=some (lowP s):=by
 unfold Woa lowP;have:=(jpa s (fun i (o:List UInt8)=>(i,o)) (fun o c=>o++ [lowC c]) id (fun i o=>o.length<=i) (body:=ZHa s)
  (fun o _=>by unfold ZHa;simp[zSa]) (fun i c o hx hi=>by
   have hlt:=zXa hx;refine ⟨?_,by simp;omega⟩;unfold ZHa;dsimp only;rw[kza hx,zMa hx];simp only[cond_true,Option.bind_some,vJa,yTa 65 c (by decide),yUa 90 c (by decide),sc i (by omega)];have hl:((bif (decide ((65:UInt8)<=c) && decide (c<=90)) then some (c+32) else some c):Option UInt8)=some (lowC c):=by
    unfold lowC;rw[low_add];cases decide ((65:UInt8)<=c) && decide (c<=90) <;> rfl
   rw[hl];simp only[Option.bind_some];rw[kna (by simp;omega)];rfl) [] (by simp)).1
 rw[this,map_fold];simp
def vBa(c:UInt8):Str->List Str
 | []=>[[]]
 | b::r=>if b=c then []::vBa c r else match vBa c r with
  | x::l=>(b::x)::l
  | []=>[[b]]
theorem Zua(c:UInt8)(s:Str):∃x l,vBa c s=x::l:=by
 cases s with
 | nil=>exact ⟨_,_,rfl⟩
 | cons b r=>
  unfold vBa;split
  .exact ⟨_,_,rfl⟩
  split <;> exact ⟨_,_,rfl⟩
theorem WNa(c:UInt8)(r:Str):vBa c (c::r)=[]::vBa c r:=by rw[vBa,if_pos rfl]
theorem KMa{b c:UInt8}(h:b≠c){r x:Str}{l:List Str}(hr:vBa c r=x::l):vBa c (b::r)=(b::x)::l:=by
 rw[vBa,if_neg h,hr]
theorem zLb(c:UInt8)(s:Str):(vBa c s).length<=s.length+1:=by
 induction s with
 | nil=>simp[vBa]
 | cons b r ih=>
  by_cases hb:b=c
  .subst hb;rw[WNa];simp;omega
  obtain ⟨x,t,hx⟩:=Zua c r;rw[hx]at ih;rw[KMa hb hx];simp at ih ⊢;omega
theorem vQb{c:UInt8}{s x:Str}(h:x∈vBa c s):x.length<=s.length:=by
 induction s generalizing x with
 | nil=>simp[vBa]at h;subst h;simp
 | cons b r ih=>
  by_cases hb:b=c
  .subst hb;rw[WNa]at h;rcases List.mem_cons.1 h with rfl | h
   .simp
   have:=ih h;simp;omega
  obtain ⟨y,t,hy⟩:=Zua c r;rw[KMa hb hy]at h;rcases List.mem_cons.1 h with rfl | h
  .have:=ih (x:=y) (by rw[hy];simp);simp;omega
  have:=ih (x:=x) (by rw[hy];simp[h]);simp;omega
def nonE(l:List Str):List Str:=l.filter fun x=> !x.isEmpty
def wYa(s:Str):List Str:=nonE (vBa 32 s)
def wrd(cur r:Str):List Str:=match vBa 32 r with
 | x::l=>nonE ((cur++x)::l)
 | []=>[]
theorem yvb(s:Str):wrd [] s=wYa s:=by
 unfold wrd wYa;obtain ⟨x,l,h⟩:=Zua 32 s;rw[h];rfl
theorem ywb(cur:Str):wrd cur []=nonE [cur]:=by unfold wrd;simp[vBa]
theorem yxb(x:Str)(l:List Str):nonE (x::l)=nonE [x]++nonE l:=by unfold nonE;cases h:x.isEmpty <;> simp[h]
theorem wrd_sp(cur r:Str):wrd cur (32::r)=nonE [cur]++wrd [] r:=by
 obtain ⟨x,l,h⟩:=Zua 32 r;have e:vBa 32 (32::r)=[]::x::l:=by rw[WNa,h]
 unfold wrd;rw[e,h];show nonE ((cur++ [])::x::l)=nonE [cur]++nonE (([]++x)::l);rw[List.append_nil,yxb];rfl
theorem Vpa{c:UInt8}:∀{k r x:Str} {l:List Str},c ∉ k->vBa c r=x::l->vBa c (k++r)=(k++x)::l
 | [],_,_,_,_,h=>h
 | b::k,r,x,l,hk,h=>by
  simp at hk;rw[List.cons_append,KMa (Ne.symm hk.1) (Vpa hk.2 h)];rfl
theorem WOa{k:Str}(cur r:Str)(hk:(32:UInt8) ∉ k):wrd cur (k++r)=wrd (cur++k) r:=by
 obtain ⟨x,l,h⟩:=Zua 32 r;unfold wrd;rw[Vpa hk h,h];show nonE ((cur++(k++x))::l)=nonE ((cur++k++x)::l);rw[List.append_assoc]
theorem getB{l:Str}{i:Nat}(h:i < l.length):(strB l).get! i=l[i]:=by
 show (strB l).data[i]! =_;simp[strB,h]
theorem yyb{l:Str}{i:Nat}(h:i < l.length):(l[i]=32->Utf8.decode (strB l) i=(32,1))/\
 (l[i]≠32->(Utf8.decode (strB l) i).1≠32/\1<=(Utf8.decode (strB l) i).2/\i+(Utf8.decode (strB l) i).2<=l.length/\∀k (hk:i+k < l.length),k < (Utf8.decode (strB l) i).2->l[i+k]≠32):=by
 have hz:(strB l).size=l.length:=rfl;have e0:(strB l).get! (i+0)=l[i]:=getB h;have hne:∀{u:UInt8},u.toNat / 64=2->u≠32:=fun hu e=>by subst e;exact absurd hu (by decide)
 constructor
 .intro h32;unfold Utf8.decode;simp only[e0,h32];rfl
 intro h32;have hb:l[i].toNat≠32:=fun e=>h32 (UInt8.toNat_inj.1 e)
 have d0:∀(n:Nat),n=1->∀k (hk:i+k < l.length),k < n->l[i+k]≠32:=by
  intro n hn k hk hkn;have:k=0:=by omega
  subst this;exact h32
 have gt:∀k,(decide (i+k < (strB l).size) && ((strB l).get! (i+k)).toNat / 64==2)=true->∃hk:i+k < l.length,l[i+k]≠32:=by
  intro k hk;simp only[Bool.and_eq_true,decide_eq_true_eq,beq_iff_eq,hz]at hk;refine ⟨hk.1,hne ?_⟩;rw[<-getB hk.1];exact hk.2
 unfold Utf8.decode;simp only[e0];split
 .exact ⟨hb,by simp,by simp;omega,d0 _ rfl⟩
 split
 .rename_i hc;simp only[Bool.and_eq_true]at hc;obtain ⟨h1,n1⟩:=gt 1 (by simpa using hc.2);try dsimp only
  split
  .refine ⟨by dsimp only;omega,by simp,by simp;omega,fun k hk hkn=>?_⟩;dsimp only at hkn;obtain rfl | rfl:k=0∨k=1:=by omega
   .exact h32
   exact n1
  exact ⟨by decide,by simp,by simp;omega,d0 _ rfl⟩
 split
 .rename_i hc;simp only[Bool.and_eq_true]at hc;obtain ⟨h1,n1⟩:=gt 1 (by simpa using hc.1.2);obtain ⟨h2,n2⟩:=gt 2 (by simpa using hc.2);try dsimp only
  split
  .rename_i hv;simp only[Bool.and_eq_true,decide_eq_true_eq]at hv;refine ⟨by dsimp only;omega,by simp,by simp;omega,fun k hk hkn=>?_⟩;dsimp only at hkn;obtain rfl | rfl | rfl:k=0∨k=1∨k=2:=by omega
   .exact h32
   .exact n1
   exact n2
  exact ⟨by decide,by simp,by simp;omega,d0 _ rfl⟩
 split
 .rename_i hc;simp only[Bool.and_eq_true]at hc;obtain ⟨h1,n1⟩:=gt 1 (by simpa using hc.1.1.2);obtain ⟨h2,n2⟩:=gt 2 (by simpa using hc.1.2);obtain ⟨h3,n3⟩:=gt 3 (by simpa using hc.2);try dsimp only
  split
  .rename_i hv;simp only[Bool.and_eq_true,decide_eq_true_eq]at hv;refine ⟨by dsimp only;omega,by simp,by simp;omega,fun k hk hkn=>?_⟩;dsimp only at hkn;obtain rfl | rfl | rfl | rfl:k=0∨k=1∨k=2∨k=3:=by omega
   .exact h32
   .exact n1
   .exact n2
   exact n3
  exact ⟨by decide,by simp,by simp;omega,d0 _ rfl⟩
 exact ⟨by decide,by simp,by simp;omega,d0 _ rfl⟩
def curP(l:Str)(pos:Nat):Option Nat->Str
 | none=>[]
 | some a=>(l.drop a).take (pos - a)
def exP(l:Str)(x:Nat × Nat):Str:=((strB l).extract x.1 x.2).data.toList
theorem exP_eq(l:Str)(a b:Nat):exP l (a,b)=(l.drop a).take (b - a):=by
 unfold exP;rw[Lib.extract_data];simp[strB]
theorem spans_eq(l:Str):∀(f pos:Nat) (st:Option Nat) (acc:List (Nat × Nat)),l.length<=pos+f->pos<=l.length->(∀a,st=some a->a < pos)->
 (Lib.closeSpans (strB l) (Lib.spansFromP sp32 (strB l) f pos st acc)).map (exP l)=acc.map (exP l)++wrd (curP l pos st) (l.drop pos):=by
 have fin:∀(pos:Nat) (st:Option Nat) (acc:List (Nat × Nat)),pos=l.length->(∀a,st=some a->a < pos)->(Lib.closeSpans (strB l) (acc,st)).map (exP l)=acc.map (exP l)++wrd (curP l pos st) (l.drop pos):=by
  intro pos st acc hp hst;subst hp;rw[List.drop_length,ywb];cases st with
  | none=>simp[Lib.closeSpans,curP,nonE]
  | some a=>
   have ha:=hst a rfl;have e:curP l l.length (some a)=l.drop a:=by show (l.drop a).take (l.length - a)=_;rw[List.take_of_length_le (by simp)]
   rw[e];have hne:(l.drop a).isEmpty=false:=by
    cases hd:l.drop a with
    | nil=>have:=congrArg List.length hd;simp at this;omega
    | cons x y=>rfl
   have hz:(strB l).size=l.length:=rfl;simp[Lib.closeSpans,nonE,hne,exP_eq,hz,List.take_of_length_le]
 intro f;induction f with
 | zero=>
  intro pos st acc h1 h2 h3;unfold Lib.spansFromP;exact fin pos st acc (by omega) h3
 | succ f ih=>
  intro pos st acc h1 h2 h3;by_cases hlt:pos < l.length
  .have hz:pos < (strB l).size:=hlt;obtain ⟨d1,d2⟩:=yyb hlt;have hdr:l.drop pos=l[pos]::l.drop (pos+1):=List.drop_eq_getElem_cons hlt;unfold Lib.spansFromP;rw[if_pos hz];by_cases h32:l[pos]=32
   .rw[d1 h32];rw[show sp32 (32,1).1=true by decide,if_pos rfl];dsimp only;rw[hdr,h32,wrd_sp];cases st with
    | none=>
     dsimp only;rw[ih (pos+1) none acc (by omega) (by omega) (fun a h=>by cases h)];simp[curP,nonE]
    | some a=>
     have ha:=h3 a rfl;dsimp only;rw[ih (pos+1) none (acc++ [(a,pos)]) (by omega) (by omega) (fun a h=>by cases h)];have hne:((l.drop a).take (pos - a)).isEmpty=false:=by
      cases hd:(l.drop a).take (pos - a) with
      | nil=>have:=congrArg List.length hd;simp at this;omega
      | cons x y=>rfl
     simp[curP,nonE,exP_eq,hne]
   obtain ⟨e1,e2,e3,e4⟩:=d2 h32;generalize Utf8.decode (strB l) pos=d at e1 e2 e3 e4;obtain ⟨r,n⟩:=d;dsimp only at e1 e2 e3 e4;have hsp:sp32 r=false:=by unfold sp32;rw[decide_eq_false];omega
   rw[hsp];simp only[Bool.false_eq_true,if_false];have hk:(32:UInt8) ∉ (l.drop pos).take n:=by
    intro hm;obtain ⟨k,hk⟩:=List.mem_iff_getElem?.1 hm;rw[List.getElem?_take]at hk;split at hk
    .rename_i hkn;rw[List.getElem?_drop]at hk;have hkl:=(List.getElem?_eq_some_iff.1 hk).1;have hke:=(List.getElem?_eq_some_iff.1 hk).2;exact e4 k hkl hkn hke
    cases hk
   have hsplit:l.drop pos=(l.drop pos).take n++l.drop (pos+n):=by
    rw[<-List.drop_drop,List.take_append_drop]
   cases st with
   | none=>
    dsimp only;rw[ih (pos+n) (some pos) acc (by omega) e3 (fun a h=>by cases h;omega)]
    conv=>rhs;rw[hsplit,WOa _ _ hk]
    congr 2
    simp[curP]
   | some a=>
    have ha:=h3 a rfl;dsimp only;rw[ih (pos+n) (some a) acc (by omega) e3 (fun b h=>by cases h;omega)]
    conv=>rhs;rw[hsplit,WOa _ _ hk]
    congr 2
    show (l.drop a).take (pos+n - a)=(l.drop a).take (pos - a)++(l.drop pos).take n;rw[show pos+n - a=(pos - a)+n by omega,List.take_add,List.drop_drop,show a+(pos - a)=pos by omega]
  rw[Lib.spansFromP_end _ _ _ _ _ _ (by show ¬pos < l.length;exact hlt)];exact fin pos st acc (by omega) h3
theorem k1b(l:Str):(Lib.goFieldsP sp32 (strB l)).map (fun b=>b.data.toList)=wYa l:=by
 have h:=spans_eq l l.length 0 none [] (by omega) (by omega) (fun a h=>by cases h);rw[List.drop_zero]at h;unfold Lib.goFieldsP Lib.spansOfP;rw[List.map_map];rw[show ((fun b:ByteArray=>b.data.toList) ∘ fun x:Nat × Nat=>(strB l).extract x.1 x.2)=exP l from rfl];rw[show (strB l).size=l.length from rfl,h];simp[curP,yvb]
theorem qUb(a b:Bool):(bif a then some b else some false:Option Bool)=some (a && b):=by cases a <;> rfl
theorem or_some(a b:Bool):(bif a then some true else some b:Option Bool)=some (a || b):=by cases a <;> rfl
def WPa(c:zka):Bool:=(c.Verb==1 || c.Name==([]:Str)) && (c.Verb==2 || c.Verb==3 || c.Address==([]:Str)) && (c.Verb==2 || c.Verb==5 || c.Size==0) && (c.Verb==3 || c.Notify==0) && (c.Verb==5 || c.Last==false)
def cmdF(c:zka):zua:=
 bif decide (c.Verb < 1) || decide (8 < c.Verb) then ⟨4, -2⟩ else bif !WPa c then ⟨5, -3⟩ else bif c.Verb==1 && !KGa c.Name then ⟨10, -4⟩ else
 bif (c.Verb==3 || (c.Verb==2 && c.Address !=([]:Str))) && !vna c.Address then ⟨10, -5⟩ else bif decide (c.Size < 0) || decide (1000000 < c.Size) then ⟨3, -6⟩ else
 bif !qEa c.Notify then ⟨3, -7⟩ else ⟨0,0⟩
theorem five(v:Int):v=1∨v=2∨v=3∨v=5∨((v==1)=false/\(v==2)=false/\(v==3)=false/\(v==5)=false):=by
 simp only[beq_eq_false_iff_ne];omega
theorem used_eq(c:zka):∃u,wOa c=some u/\yaa [(c.Verb==u.Verb),(c.Name==u.Name),(c.Address==u.Address),(c.Size==u.Size),(c.Notify==u.Notify),(c.Last==u.Last)]=WPa c:=by
 obtain ⟨v,n,a,s,o,l⟩:=c;rcases five v with rfl | rfl | rfl | rfl | ⟨h1,h2,h3,h5⟩
 .exact ⟨⟨1,n,[],0,0,false⟩,rfl,by simp[yaa,WPa,Bool.and_assoc]⟩
 .exact ⟨⟨2,[],a,s,0,false⟩,rfl,by simp[yaa,WPa,Bool.and_assoc]⟩
 .exact ⟨⟨3,[],a,0,o,false⟩,rfl,by simp[yaa,WPa,Bool.and_assoc]⟩
 .exact ⟨⟨5,[],[],s,0,l⟩,rfl,by simp[yaa,WPa,Bool.and_assoc]⟩
 refine ⟨⟨v,[],[],0,0,false⟩,?_,?_⟩
 .unfold wOa;dsimp only;rw[h1,h2,h3,h5];rfl
 unfold WPa;dsimp only;rw[h1,h2,h3,h5];simp[yaa,Bool.and_assoc]
def JUa(c:zka):Prop:=c.Name.length<=1048576/\c.Address.length<=1048576
theorem KNa(c:zka)(h:JUa c):qLa c=some (cmdF c):=by
 obtain ⟨u,hu,he⟩:=used_eq c;unfold qLa cmdF;rw[hu];simp only[Option.bind_some,he,Qba _ h.1,qDa _ (show c.Address.length < 4294967281 by have:=h.2;omega),v4a,kpa,qaa,qUb,or_some];cases decide (c.Verb < 1) || decide (8 < c.Verb) with
 | true=>rfl
 | false=>
  cases WPa c with
  | false=>rfl
  | true=>
   cases c.Verb==1 && !KGa c.Name with
   | true=>rfl
   | false=>
    cases (c.Verb==3 || (c.Verb==2 && c.Address !=([]:Str))) && !vna c.Address with
    | true=>rfl
    | false=>
     cases decide (c.Size < 0) || decide (1000000 < c.Size) with
     | true=>rfl
     | false=>cases qEa c.Notify <;> rfl
theorem Q1a(c:zka)(h:JUa c):y5a c=some (cmdF c):=by
 have hN:=Wsa _ h.1;have hA:=Yea c.Address (by have:=h.2;omega);unfold y5a cmdF;rw[vJa];have e1:(!(decide (1<=c.Verb) && decide (c.Verb<=8)))=(decide (c.Verb < 1) || decide (8 < c.Verb)):=by
  rw[Bool.eq_iff_iff];simp
 simp only[Option.bind_some,e1,KFa];cases hv:decide (c.Verb < 1) || decide (8 < c.Verb) with
 | true=>rfl
 | false=>
  simp only[cond_false,hN,hA,Option.bind_some,vJa];obtain ⟨v,n,a,s,o,l⟩:=c;dsimp only at *;have en:(n !=([]:Str))= !(n==([]:Str)):=rfl;have ea:(a !=([]:Str))= !(a==([]:Str)):=rfl;have es:(s !=(0:Int))= !(s==0):=rfl;have eo:(o !=(0:Int))= !(o==0):=rfl;have e0:(0:Int)<=1000000:=by omega
  have sz:(decide (0<=s) && decide (s<=1000000))= !(decide (s < 0) || decide (1000000 < s)):=by rw[Bool.eq_iff_iff];simp
  have sz0:s=0->(decide (s < 0) || decide (1000000 < s))=false:=fun e=>by subst e;rfl
  have no0:o=0->qEa o=true:=fun e=>by subst e;rfl
  have nop:(decide (0<=o) && decide (o<=7))=qEa o:=rfl;rw[en,ea,es,eo,sz,nop];unfold WPa;dsimp only;rcases five v with rfl | rfl | rfl | rfl | ⟨h1,h2,h3,h5⟩
  .simp only[show ((1:Int)==1)=true from rfl,show ((1:Int)==2)=false from rfl,show ((1:Int)==3)=false from rfl,show ((1:Int)==5)=false from rfl,show ((1:Int) !=1)=false from rfl,show ((1:Int) !=2)=true from rfl,show ((1:Int) !=3)=true from rfl,show ((1:Int) !=5)=true from rfl];cases a==([]:Str) with
   | false=>rfl
   | true=>
    cases hs:s==0 with
    | false=>rfl
    | true=>
     cases ho:o==0 with
     | false=>rfl
     | true=>
      rw[sz0 (by simpa using hs),no0 (by simpa using ho)];cases l <;> cases KGa n <;> rfl
  .simp only[show ((2:Int)==1)=false from rfl,show ((2:Int)==2)=true from rfl,show ((2:Int)==3)=false from rfl,show ((2:Int)==5)=false from rfl,show ((2:Int) !=1)=true from rfl,show ((2:Int) !=2)=false from rfl,show ((2:Int) !=3)=true from rfl,show ((2:Int) !=5)=true from rfl];cases n==([]:Str) with
   | false=>rfl
   | true=>
    cases ho:o==0 with
    | false=>rfl
    | true=>
     rw[no0 (by simpa using ho)];cases l <;> cases a==([]:Str) <;> cases vna a <;> cases (decide (s < 0) || decide (1000000 < s)) <;> rfl
  .simp only[show ((3:Int)==1)=false from rfl,show ((3:Int)==2)=false from rfl,show ((3:Int)==3)=true from rfl,show ((3:Int)==5)=false from rfl,show ((3:Int) !=1)=true from rfl,show ((3:Int) !=2)=true from rfl,show ((3:Int) !=3)=false from rfl,show ((3:Int) !=5)=true from rfl];cases n==([]:Str) with
   | false=>rfl
   | true=>
    cases hs:s==0 with
    | false=>rfl
    | true=>
     rw[sz0 (by simpa using hs)];cases l <;> cases vna a <;> cases qEa o <;> rfl
  .simp only[show ((5:Int)==1)=false from rfl,show ((5:Int)==2)=false from rfl,show ((5:Int)==3)=false from rfl,show ((5:Int)==5)=true from rfl,show ((5:Int) !=1)=true from rfl,show ((5:Int) !=2)=true from rfl,show ((5:Int) !=3)=true from rfl,show ((5:Int) !=5)=false from rfl];cases n==([]:Str) with
   | false=>rfl
   | true=>
    cases a==([]:Str) with
    | false=>rfl
    | true=>
     cases ho:o==0 with
     | false=>rfl
     | true=>
      rw[no0 (by simpa using ho)];cases (decide (s < 0) || decide (1000000 < s)) <;> rfl
  have n1:(v !=1)=true:=by unfold bne;rw[h1];rfl
  have n2:(v !=2)=true:=by unfold bne;rw[h2];rfl
  have n3:(v !=3)=true:=by unfold bne;rw[h3];rfl
  have n5:(v !=5)=true:=by unfold bne;rw[h5];rfl
  rw[h1,h2,h3,h5,n1,n2,n3,n5];cases n==([]:Str) with
  | false=>rfl
  | true=>
   cases a==([]:Str) with
   | false=>rfl
   | true=>
    cases hs:s==0 with
    | false=>rfl
    | true=>
     cases ho:o==0 with
     | false=>rfl
     | true=>
      rw[sz0 (by simpa using hs),no0 (by simpa using ho)];cases l <;> rfl
structure JVa (c:zka):Prop where
 verb:1<=c.Verb/\c.Verb<=8
 used:WPa c=true
 name:c.Verb=1->KGa c.Name=true
 addr:c.Verb=3∨(c.Verb=2/\c.Address≠ [])->vna c.Address=true
 size:0<=c.Size/\c.Size<=1000000
 note:0<=c.Notify/\c.Notify<=7
theorem yzb{c:zka}(h:(cmdF c).Code=0):JVa c/\cmdF c=⟨0,0⟩:=by
 unfold cmdF at h ⊢;cases h1:decide (c.Verb < 1) || decide (8 < c.Verb) with
 | true=>rw[h1]at h;exact absurd h (show (4:Int)≠0 by decide)
 | false=>
  rw[h1]at h;cases h2:WPa c with
  | false=>rw[h2]at h;exact absurd h (show (5:Int)≠0 by decide)
  | true=>
   rw[h2]at h;cases h3:c.Verb==1 && !KGa c.Name with
   | true=>rw[h3]at h;exact absurd h (show (10:Int)≠0 by decide)
   | false=>
    rw[h3]at h;cases h4:(c.Verb==3 || (c.Verb==2 && c.Address !=([]:Str))) && !vna c.Address with
    | true=>rw[h4]at h;exact absurd h (show (10:Int)≠0 by decide)
    | false=>
     rw[h4]at h;cases h5:decide (c.Size < 0) || decide (1000000 < c.Size) with
     | true=>rw[h5]at h;exact absurd h (show (3:Int)≠0 by decide)
     | false=>
      rw[h5]at h;cases h6:qEa c.Notify with
      | false=>rw[h6]at h;exact absurd h (show (3:Int)≠0 by decide)
      | true=>
       simp only[Bool.or_eq_false_iff,decide_eq_false_iff_not]at h1 h5;unfold qEa at h6;simp only[Bool.and_eq_true,decide_eq_true_eq]at h6;refine ⟨⟨by omega,h2,fun hv=>?_,fun hv=>?_,by omega,h6⟩,rfl⟩
       .rw[hv]at h3;simpa using h3
       cases ha:vna c.Address with
       | true=>rfl
       | false=>
        rw[ha]at h4;rcases hv with hv | ⟨hv,hn⟩
        .rw[hv]at h4;simp at h4
        rw[hv]at h4;simp at h4;exact absurd h4 hn
def Qia:List Str:=[[104,101,108,108,111],[109,97,105,108],[114,99,112,116],[100,97,116,97],[99,104,117,110,107],[114,101,115,101,116],[110,111,111,112],[113,117,105,116]]
def Zva:List Str:=[[110,101,118,101,114],[102,97,105,108,117,114,101],[100,101,108,97,121],[102,97,105,108,117,114,101,44,100,101,108,97,121],[115,117,99,99,101,115,115],[102,97,105,108,117,114,101,44,115,117,99,99,101,115,115],[100,101,108,97,121,44,115,117,99,99,101,115,115],[102,97,105,108,117,114,101,44,100,101,108,97,121,44,115,117,99,99,101,115,115]]
def JWa(v:Int):Str:=Qia.getD (v - 1).toNat []
def k2b(n:Int):Str:=Zva.getD n.toNat []
def condsV:zja × zja × zja:=((zja.mk 1 (([102,97,105,108,117,114,101]:Str))),(zja.mk 2 (([100,101,108,97,121]:Str))),(zja.mk 4 (([115,117,99,99,101,115,115]:Str))))
instance:DecidableEq (Step (Int × List Str) (List Str)):=fun a b=>match a,b with
 | .cont x,.cont y=>decidable_of_iff (x=y) (by simp)
 | .out x,.out y=>decidable_of_iff (x=y) (by simp)
 | .cont x,.out y=>isFalse (by simp)
 | .out x,.cont y=>isFalse (by simp)
def vRb(n:Nat):List Str:=(if n % 2=1 then [[102,97,105,108,117,114,101]] else [])++(if n / 2 % 2=1 then [[100,101,108,97,121]] else [])++(if n / 4 % 2=1 then [[115,117,99,99,101,115,115]] else [])
theorem yAb:∀n:Fin 8,ZQa (wqa (n.val:Int) condsV) 4 (0,[])=some (vRb n.val):=by decide+kernel
theorem yBb:∀n:Fin 8,(if vRb n.val=[] then ([110,101,118,101,114]:Str) else Lib.join (vRb n.val) [44])=Zva.getD n.val []/\(vRb n.val).length<=3/\(Zva.getD n.val []).length<=100:=by decide+kernel
theorem Q2a{n:Int}(h:0<=n/\n<=7):vua n=some (k2b n):=by
 have h1:=yAb ⟨n.toNat,by omega⟩;obtain ⟨h2,h3,h4⟩:=yBb ⟨n.toNat,by omega⟩;dsimp only at h1 h2 h3 h4;rw[show ((n.toNat:Nat):Int)=n by omega]at h1;unfold vua;have hc:qXa=some condsV:=rfl;rw[hc];simp only[Option.bind_some];rw[KWa.2 ⟨4,h1⟩];simp only[Option.bind_some];unfold k2b;by_cases he:vRb n.toNat=[]
 .rw[if_pos he]at h2;rw[he,<-h2];rfl
 rw[if_neg he]at h2;have e:(((vRb n.toNat).length:Int)==0)=false:=by
  rw[beq_eq_false_iff_ne];have:=List.length_pos_iff.2 he;omega
 rw[e];simp only[cond_false];unfold q8a;rw[if_pos ⟨by omega,by rw[h2];omega⟩,h2];rfl
theorem yCb:∀k:Fin 8,Qia[k.val]? =some (JWa ((k.val:Int)+1))/\(JWa ((k.val:Int)+1)).length<=5:=by decide
theorem word_idx{v:Int}(h:1<=v/\v<=8):idx Qia (w64 (v - 1))=some (JWa v)/\(JWa v).length<=5:=by
 have:=yCb ⟨(v - 1).toNat,by omega⟩;dsimp only at this;rw[show (((v - 1).toNat:Nat):Int)+1=v by omega]at this;rw[qGa (by omega) (by omega),show v - 1=(((v - 1).toNat:Nat):Int) by omega,wsa];exact this
theorem VBa:yda=some (([104,101,108,108,111]:Str),([109,97,105,108]:Str),([114,99,112,116]:Str),([100,97,116,97]:Str),([99,104,117,110,107]:Str),([114,101,115,101,116]:Str),([110,111,111,112]:Str),([113,117,105,116]:Str)):=rfl
theorem addr_len{a:Str}(h:vna a=true):a.length<=121:=by
 unfold vna at h;simp only[Bool.and_eq_true,decide_eq_true_eq]at h;obtain ⟨⟨⟨⟨h1,h2⟩,h3⟩,h4⟩,h5⟩:=h;unfold domP at h5;simp only[Bool.and_eq_true,decide_eq_true_eq,List.length_drop]at h5;omega
theorem yDb{v:Int}(h:1<=v/\v<=8):w3b v=some (JWa v):=by
 unfold w3b;exact (congrArg (fun o:Option Str=>o.bind fun v1=>some v1) (word_idx h).1)
theorem VCa:∀k:Fin 8,Zna (k.val:Int)=some (Zva.getD k.val []):=by decide
theorem WQa{n:Int}(h:0<=n/\n<=7):Zna n=some (k2b n):=by
 have:=VCa ⟨n.toNat,by omega⟩;dsimp only at this;rw[show ((n.toNat:Nat):Int)=n by omega]at this;exact this
def angP:Str->Option Str
 | b::r=>if b=60/\r.getLast? =some 62 then some r.dropLast else none
 | []=>none
theorem YRa(c:UInt8)(v:Str):Lib.hasSuffix v [c]=decide (v.getLast? =some c):=by
 unfold Lib.hasSuffix;rw[Bool.eq_iff_iff,List.isSuffixOf_iff_suffix,decide_eq_true_eq];constructor
 .rintro ⟨t,rfl⟩;simp
 intro h;have hne:v≠ []:=by rintro rfl;cases h
 refine ⟨v.dropLast,?_⟩;have:=List.dropLast_concat_getLast hne;rw[List.getLast?_eq_some_getLast hne]at h;rw[Option.some.inj h]at this;exact this
theorem qYa(a:Str)(ha:a.length<=1048576):∃x,qpa a=some (x,(angP a).isSome)/\∀y,angP a=some y->x=y:=by
 unfold qpa z1a;simp only[Option.bind_some];have hpre:∀(t:Str),Lib.hasPrefix (60::t) [60]=true:=fun t=>by simp[Lib.hasPrefix]
 cases a with
 | nil=>
  refine ⟨[],?_,fun y h=>by cases h⟩;unfold z2a;rfl
 | cons b r=>
  by_cases hb:b=60
  .subst hb;have h1:Lib.trimPrefix (60::r) [60]=r:=by unfold Lib.trimPrefix;rw[hpre];rfl
   rw[h1,hpre];unfold z2a;simp at ha;have hsm:(angP (60::r)).isSome=decide (r.getLast? =some 62):=by
    unfold angP;by_cases hl:r.getLast? =some 62 <;> simp[hl]
   rw[if_pos (by omega),YRa,hsm];simp only[Option.bind_some,cond_true];refine ⟨_,rfl,fun y hy=>?_⟩;unfold angP at hy;by_cases hl:r.getLast? =some 62
   .simp only[hl,and_self,if_true,Option.some.injEq]at hy;subst hy;unfold Lib.trimSuffix;rw[YRa,hl];simp[List.dropLast_eq_take]
   simp[hl]at hy
  have h1:Lib.hasPrefix (b::r) [60]=false:=by
   simp[Lib.hasPrefix,List.isPrefixOf];exact fun h=>hb h.symm
  have h2:Lib.trimPrefix (b::r) [60]=b::r:=by unfold Lib.trimPrefix;rw[h1];rfl
  rw[h1,h2];unfold z2a;rw[if_pos (by omega)];have h3:angP (b::r)=none:=by unfold angP;simp[hb]
  exact ⟨_,by rw[h3];rfl,fun y hy=>by rw[h3]at hy;cases hy⟩
def optP(o n:Str):Option Str:=if (n++ [61]).isPrefixOf (lowP o) then some ((lowP o).drop (n.length+1)) else none
theorem jta(o n:Str)(ho:o.length<=1048576)(hn:n.length<=100):∃x,kRa [o] n=some (x,(optP o n).isSome)/\(∀y,optP o n=some y->x=y)/\x.length<=o.length:=by
 have hll:(lowP o).length=o.length:=by unfold lowP;simp
 unfold kRa;have e1:((([o]:List Str).length:Int) !=1)=false:=rfl;have e2:idx [o] 0=some o:=rfl;rw[e1,e2];simp only[cond_false,Option.bind_some,y7a o ho];rw[joa (by simp;omega)];unfold z1a;simp only[Option.bind_some];unfold optP Lib.trimPrefix Lib.hasPrefix;by_cases h:(n++ [61]).isPrefixOf (lowP o)=true
 .rw[if_pos h];refine ⟨_,by rw[h];rfl,fun y hy=>?_,by simp;omega⟩;rw[if_pos h]at hy;cases hy;simp
 have h0:(n++ [61]).isPrefixOf (lowP o)=false:=by cases hb:(n++ [61]).isPrefixOf (lowP o) with
  | true=>exact absurd hb h
  | false=>rfl
 refine ⟨lowP o,?_,fun y hy=>?_,by omega⟩
 .rw[h0];simp
 rw[h0]at hy;simp at hy
def Qja(s:Str):Option Int:=zFa (fun i w=>if w==s then some ((i:Nat):Int) else none) 0 Zva
theorem WRa(s:Str)(b:Bool):wQa s b=some (match (if b then Qja s else none) with | some n=>(n,true) | none=>(0,false)):=by
 unfold wQa;cases b with
 | false=>
  have wva:∀i:Nat,i<=8->iter (kea s false) (i:Int)=some (.inl ()):=by
   intro i hi;have key:∀k i:Nat,i+k=8->iter (kea s false) (i:Int)=some (.inl ()):=by
    intro k;induction k with
    | zero=>
     intro i h;refine zGa ?_;unfold kea;rw[decide_eq_false (by omega)];rfl
    | succ k ih=>
     intro i h;have hs:kea s false (i:Int)=some (.cont ((i+1:Nat):Int)):=by
      unfold kea;rw[decide_eq_true (by omega)];simp only[cond_true,cond_false,Option.bind_some,sc i (by omega)]
     rw[zQa hs];exact ih (i+1) (by omega)
   exact key (8 - i) i (by omega)
  have:=wva 0 (by omega);rw[show (((0:Nat)):Int)=0 from rfl]at this;rw[this];rfl
 | true=>
  have hl:=zVa Zva (fun i w=>if w==s then some (((i:Nat):Int),true) else none) (Sum.inl ()) Sum.inr (body:=kea s true)
   (by unfold kea;rfl) (fun i w hw=>by
    have hi:=zXa hw;have h8:Zva.length=8:=rfl;have hc:k2b (i:Int)=w:=by
     unfold k2b;rw[Int.toNat_natCast,List.getD_eq_getElem?_getD,hw];rfl
    unfold kea;rw[decide_eq_true (by omega),Q2a (by omega),hc];simp only[cond_true,Option.bind_some,sc i (by omega)];cases w==s <;> rfl)
  rw[hl];have hf:∀(l:List Str) (n:Nat),zFa (fun i w=>if w==s then some (((i:Nat):Int),true) else none) n l=(zFa (fun i w=>if w==s then some ((i:Nat):Int) else none) n l).map fun x=>(x,true):=by
   intro l;induction l with
   | nil=>intro n;rfl
   | cons y l ih=>
    intro n;unfold zFa;cases hy:y==s with
    | true=>simp
    | false=>simp only[Bool.false_eq_true,if_false];exact ih (n+1)
  rw[hf];unfold Qja;rw[if_pos rfl];cases zFa (fun i w=>if w==s then some ((i:Nat):Int) else none) 0 Zva <;> rfl
def VDa:Str:=[115,105,122,101]
def notW:Str:=[110,111,116,105,102,121]
def zMb:Str:=[108,97,115,116]
def v8a(v:Int)(l:List Str):Option zka:=
 if v=1 then (match l with | [n]=>some ⟨1,n,[],0,0,false⟩ | _=>none)
 else if v=2 then (match l with
  | [a]=>(angP a).map fun x=>⟨2,[],x,0,0,false⟩
  | [a,o]=>(angP a).bind fun x=>(optP o VDa).bind fun s=>(numP s).map fun (m:Nat)=>(⟨2,[],x,(m:Int),0,false⟩:zka)
  | _=>none)
 else if v=3 then (match l with
  | [a]=>(angP a).map fun x=>⟨3,[],x,0,1,false⟩
  | [a,o]=>(angP a).bind fun x=>(optP o notW).bind fun s=>(Qja s).map fun m=>⟨3,[],x,0,m,false⟩
  | _=>none)
 else if v=5 then (match l with
  | [n]=>(numP n).map fun (m:Nat)=>(⟨5,[],[],(m:Int),0,false⟩:zka)
  | [n,x]=>(numP n).bind fun m=>if lowP x=zMb then some ⟨5,[],[],(m:Int),0,true⟩ else none
  | _=>none)
 else (match l with | []=>some ⟨v,[],[],0,0,false⟩ | _=>none)
theorem ap2(a:Str):v8a 2 [a]=(angP a).map fun x=>(⟨2,[],x,0,0,false⟩:zka):=rfl
theorem ap22(a o:Str):v8a 2 [a,o]=(angP a).bind fun x=>(optP o VDa).bind fun s=>(numP s).map fun (m:Nat)=>(⟨2,[],x,(m:Int),0,false⟩:zka):=rfl
theorem ap3(a:Str):v8a 3 [a]=(angP a).map fun x=>(⟨3,[],x,0,1,false⟩:zka):=rfl
theorem ap33(a o:Str):v8a 3 [a,o]=(angP a).bind fun x=>(optP o notW).bind fun s=>(Qja s).map fun m=>(⟨3,[],x,0,m,false⟩:zka):=rfl
theorem ap5(n:Str):v8a 5 [n]=(numP n).map fun (m:Nat)=>(⟨5,[],[],(m:Int),0,false⟩:zka):=rfl
theorem ap55(n x:Str):v8a 5 [n,x]=(numP n).bind fun (m:Nat)=>if lowP x=zMb then some (⟨5,[],[],(m:Int),0,true⟩:zka) else none:=rfl
theorem len_in(l:List Str)(a b:Int):(((bif decide (a<=(l.length:Int)) then some (decide ((l.length:Int)<=b)) else some false):Option Bool))=some (decide (a<=(l.length:Int)) && decide ((l.length:Int)<=b)):=qUb _ _
theorem WSa(v:Int)(l:List Str)(hl:∀s∈l,s.length<=1048576)(hv:v≠4->v≠6->v≠7->v≠8->v=1∨v=2∨v=3∨v=5):
 ∃c,wRa v l=some (c,(v8a v l).isSome)/\∀y,v8a v l=some y->c=y:=by
 have none3:∀(a b c:Str) (r:List Str) (v:Int),v8a v (a::b::c::r)=none:=by
  intro a b c r v;unfold v8a;repeat' split <;> first | rfl | (rename_i h;cases h) | skip
 unfold wRa;simp only[len_in,Option.bind_some];rcases five v with rfl | rfl | rfl | rfl | ⟨h1,h2,h3,h5⟩
 .simp only[show ((1:Int)==1)=true from rfl,cond_true]
  match l,hl with
  | [],_=>exact ⟨_,rfl,fun y h=>by cases h⟩
  | [n],_=>exact ⟨_,rfl,fun y h=>by cases h;rfl⟩
  | a::b::r,_=>
   have e:(decide ((1:Int)<=(((a::b::r).length:Nat):Int)) && decide ((((a::b::r).length:Nat):Int)<=1))=false:=by simp;omega
   rw[e];exact ⟨_,rfl,fun y h=>by cases h⟩
 .simp only[show ((2:Int)==1)=false from rfl,show ((2:Int)==2)=true from rfl,cond_true,cond_false]
  match l,hl with
  | [],_=>exact ⟨_,rfl,fun y h=>by cases h⟩
  | [a],hl=>
   obtain ⟨x,hx,hy⟩:=qYa a (hl a (by simp));have e2:idx [a] 0=some a:=rfl;have e4:(((([a]:List Str).length:Nat):Int)==2)=false:=rfl;have e5:(decide ((1:Int)<=(((([a]:List Str).length:Nat):Int))) && decide ((((([a]:List Str).length:Nat):Int))<=2))=true:=rfl;rw[e5,e2,e4];simp only[Option.bind_some,Bool.not_true,cond_false];rw[hx];refine ⟨⟨2,[],x,0,0,false⟩,?_,fun y h=>?_⟩
   .rw[ap2];cases angP a <;> rfl
   rw[ap2]at h;cases ha:angP a with
   | none=>rw[ha]at h;cases h
   | some z=>rw[ha]at h;cases h;rw[hy z ha]
  | [a,o],hl=>
   obtain ⟨x,hx,hy⟩:=qYa a (hl a (by simp));obtain ⟨z,hz,hzy,hzl⟩:=jta o VDa (hl o (by simp)) (by decide);have e2:idx [a,o] 0=some a:=rfl;have e3:cut [a,o] 1 ((([a,o]:List Str).length:Nat):Int)=some [o]:=rfl;have e4:(((([a,o]:List Str).length:Nat):Int)==2)=true:=rfl;have e5:(decide ((1:Int)<=(((([a,o]:List Str).length:Nat):Int))) && decide ((((([a,o]:List Str).length:Nat):Int))<=2))=true:=rfl;have hz' :kRa [o] ([115,105,122,101]:Str)=_:=hz;rw[e5,e2,e4,e3];simp only[Option.bind_some,Bool.not_true,cond_false,cond_true];rw[hx];simp only[Option.bind_some];rw[hz'];simp only[Option.bind_some,wwa];cases hn:numP z with
   | none=>
    refine ⟨⟨2,[],x,0,0,false⟩,?_,fun y h=>?_⟩
    .have:v8a 2 [a,o]=none:=by
      rw[ap22];cases angP a with
      | none=>rfl
      | some q=>
       cases ho:optP o VDa with
       | none=>simp[ho]
       | some w=>
        have:=hzy w ho;subst this;simp[ho,hn]
     rw[this];cases (angP a).isSome <;> rfl
    exfalso;rw[ap22]at h;cases ha:angP a with
    | none=>rw[ha]at h;cases h
    | some q=>
     cases ho:optP o VDa with
     | none=>rw[ha]at h;simp[ho]at h
     | some w=>
      have:=hzy w ho;subst this;rw[ha]at h;simp[ho,hn]at h
   | some m=>
    refine ⟨⟨2,[],x,(m:Int),0,false⟩,?_,fun y h=>?_⟩
    .rw[ap22];cases ha:angP a with
     | none=>rfl
     | some q=>
      cases ho:optP o VDa with
      | none=>simp[ho];rfl
      | some w=>
       have:=hzy w ho;subst this;simp[ho,hn];rfl
    rw[ap22]at h;cases ha:angP a with
    | none=>rw[ha]at h;cases h
    | some q=>
     cases ho:optP o VDa with
     | none=>rw[ha]at h;simp[ho]at h
     | some w=>
      have:=hzy w ho;subst this;rw[ha]at h;simp[ho,hn]at h;rw[<-h,hy q ha]
  | a::b::c::r,_=>
   have e:(decide ((1:Int)<=(((a::b::c::r).length:Nat):Int)) && decide ((((a::b::c::r).length:Nat):Int)<=2))=false:=by simp;omega
   rw[e,none3];exact ⟨_,rfl,fun y h=>by cases h⟩
 .simp only[show ((3:Int)==1)=false from rfl,show ((3:Int)==2)=false from rfl,show ((3:Int)==3)=true from rfl,cond_true,cond_false]
  match l,hl with
  | [],_=>exact ⟨_,rfl,fun y h=>by cases h⟩
  | [a],hl=>
   obtain ⟨x,hx,hy⟩:=qYa a (hl a (by simp));have e2:idx [a] 0=some a:=rfl;have e4:(((([a]:List Str).length:Nat):Int)==2)=false:=rfl;have e5:(decide ((1:Int)<=(((([a]:List Str).length:Nat):Int))) && decide ((((([a]:List Str).length:Nat):Int))<=2))=true:=rfl;rw[e5,e2,e4];simp only[Option.bind_some,Bool.not_true,cond_false];rw[hx];refine ⟨⟨3,[],x,0,1,false⟩,?_,fun y h=>?_⟩
   .rw[ap3];cases angP a <;> rfl
   rw[ap3]at h;cases ha:angP a with
   | none=>rw[ha]at h;cases h
   | some z=>rw[ha]at h;cases h;rw[hy z ha]
  | [a,o],hl=>
   obtain ⟨x,hx,hy⟩:=qYa a (hl a (by simp));obtain ⟨z,hz,hzy,hzl⟩:=jta o notW (hl o (by simp)) (by decide);have e2:idx [a,o] 0=some a:=rfl;have e3:cut [a,o] 1 ((([a,o]:List Str).length:Nat):Int)=some [o]:=rfl;have e4:(((([a,o]:List Str).length:Nat):Int)==2)=true:=rfl;have e5:(decide ((1:Int)<=(((([a,o]:List Str).length:Nat):Int))) && decide ((((([a,o]:List Str).length:Nat):Int))<=2))=true:=rfl;have hz' :kRa [o] ([110,111,116,105,102,121]:Str)=_:=hz;rw[e5,e2,e4,e3];simp only[Option.bind_some,Bool.not_true,cond_false,cond_true];rw[hx];simp only[Option.bind_some];rw[hz'];simp only[Option.bind_some,WRa];cases ho:optP o notW with
   | none=>
    have h0:v8a 3 [a,o]=none:=by
     rw[ap33];cases angP a <;> simp[ho]
    rw[h0];refine ⟨⟨3,[],x,0,0,false⟩,?_,fun y h=>by cases h⟩;cases (angP a).isSome <;> rfl
   | some w=>
    have:=hzy w ho;subst this;simp only[Option.isSome_some,if_true];cases hn:Qja z with
    | none=>
     have h0:v8a 3 [a,o]=none:=by
      rw[ap33];cases angP a <;> simp[ho,hn]
     rw[h0];refine ⟨⟨3,[],x,0,0,false⟩,?_,fun y h=>by cases h⟩;cases (angP a).isSome <;> rfl
    | some m=>
     refine ⟨⟨3,[],x,0,m,false⟩,?_,fun y h=>?_⟩
     .rw[ap33];cases ha:angP a with
      | none=>rfl
      | some q=>simp[ho,hn];rfl
     rw[ap33]at h;cases ha:angP a with
     | none=>rw[ha]at h;cases h
     | some q=>
      rw[ha]at h;simp[ho,hn]at h;rw[<-h,hy q ha]
  | a::b::c::r,_=>
   have e:(decide ((1:Int)<=(((a::b::c::r).length:Nat):Int)) && decide ((((a::b::c::r).length:Nat):Int)<=2))=false:=by simp;omega
   rw[e,none3];exact ⟨_,rfl,fun y h=>by cases h⟩
 .simp only[show ((5:Int)==1)=false from rfl,show ((5:Int)==2)=false from rfl,show ((5:Int)==3)=false from rfl,show ((5:Int)==5)=true from rfl,cond_true,cond_false]
  match l,hl with
  | [],_=>exact ⟨_,rfl,fun y h=>by cases h⟩
  | [a],hl=>
   have e2:idx [a] 0=some a:=rfl;have e4:(((([a]:List Str).length:Nat):Int)==2)=false:=rfl;have e5:(decide ((1:Int)<=(((([a]:List Str).length:Nat):Int))) && decide ((((([a]:List Str).length:Nat):Int))<=2))=true:=rfl;rw[e5,e2,e4];simp only[Option.bind_some,Bool.not_true,Bool.not_false,cond_false,cond_true,wwa];cases hn:numP a with
   | none=>
    have h0:v8a 5 [a]=none:=by
     rw[ap5];simp[hn]
    rw[h0];exact ⟨⟨5,[],[],0,0,false⟩,rfl,fun y h=>by cases h⟩
   | some m=>
    have h0:v8a 5 [a]=some ⟨5,[],[],(m:Int),0,false⟩:=by
     rw[ap5];simp[hn]
    rw[h0];exact ⟨⟨5,[],[],(m:Int),0,false⟩,rfl,fun y h=>by cases h;rfl⟩
  | [a,x],hl=>
   have e2:idx [a,x] 0=some a:=rfl;have e3:idx [a,x] 1=some x:=rfl;have e4:(((([a,x]:List Str).length:Nat):Int)==2)=true:=rfl;have e5:(decide ((1:Int)<=(((([a,x]:List Str).length:Nat):Int))) && decide ((((([a,x]:List Str).length:Nat):Int))<=2))=true:=rfl;rw[e5,e2,e4,e3];simp only[Option.bind_some,Bool.not_true,cond_false,cond_true,wwa,y7a x (hl x (by simp))];have hw:(lowP x==([108,97,115,116]:Str))=decide (lowP x=zMb):=by rw[Bool.eq_iff_iff,beq_iff_eq,decide_eq_true_eq];exact Iff.rfl
   rw[hw];cases hn:numP a with
   | none=>
    have h0:v8a 5 [a,x]=none:=by
     rw[ap55];simp[hn]
    rw[h0];exact ⟨⟨5,[],[],0,0,true⟩,rfl,fun y h=>by cases h⟩
   | some m=>
    by_cases hx:lowP x=zMb
    .have h0:v8a 5 [a,x]=some ⟨5,[],[],(m:Int),0,true⟩:=by
      rw[ap55];simp[hn,hx]
     rw[h0,decide_eq_true hx];exact ⟨⟨5,[],[],(m:Int),0,true⟩,rfl,fun y h=>by cases h;rfl⟩
    have h0:v8a 5 [a,x]=none:=by
     rw[ap55];simp[hn,hx]
    rw[h0,decide_eq_false hx];exact ⟨⟨5,[],[],(m:Int),0,true⟩,rfl,fun y h=>by cases h⟩
  | a::b::c::r,_=>
   have e:(decide ((1:Int)<=(((a::b::c::r).length:Nat):Int)) && decide ((((a::b::c::r).length:Nat):Int)<=2))=false:=by simp;omega
   rw[e,none3];exact ⟨_,rfl,fun y h=>by cases h⟩
 rw[h1,h2,h3,h5];simp only[cond_false];have n1:v≠1:=by simpa using h1
 have n2:v≠2:=by simpa using h2
 have n3:v≠3:=by simpa using h3
 have n5:v≠5:=by simpa using h5
 have hr:vva 0 0 l=some l.isEmpty:=by
  unfold vva;rw[len_in];cases l with
  | nil=>rfl
  | cons a r=>
   simp only[Option.bind_some];have:(decide ((0:Int)<=(((a::r).length:Nat):Int)) && decide ((((a::r).length:Nat):Int)<=0))=false:=by simp
   rw[this];rfl
 rw[hr];unfold v8a;rw[if_neg n1,if_neg n2,if_neg n3,if_neg n5];cases l with
 | nil=>exact ⟨_,rfl,fun y h=>by cases h;rfl⟩
 | cons a r=>exact ⟨_,rfl,fun y h=>by cases h⟩
def k3b(y:Str):Int:=Qia.zipIdx.foldl (fun (s:Int) p=>if y==p.1 then ((p.2+1:Nat):Int) else s) 0
def k4b:List Str->Int
 | []=>0
 | x::_=>k3b (lowP x)
theorem WTa(y:Str):(k3b y=0/\y ∉ Qia)∨∃v:Int,1<=v/\v<=8/\k3b y=v/\y=JWa v:=by
 by_cases h:y∈Qia
 .right;have:∀z∈Qia,∃v:Fin 8,k3b z=(v.val:Int)+1/\z=JWa ((v.val:Int)+1):=by decide
  obtain ⟨v,h1,h2⟩:=this y h;exact ⟨(v.val:Int)+1,by omega,by omega,h1,h2⟩
 left;refine ⟨?_,h⟩;simp only[Qia,List.mem_cons,List.not_mem_nil,or_false,not_or]at h;obtain ⟨a1,a2,a3,a4,a5,a6,a7,a8⟩:=h;simp[k3b,Qia,List.zipIdx,a1,a2,a3,a4,a5,a6,a7,a8]
theorem Qka(w:List Str)(hw:∀s∈w,s.length<=1048576):iter (k6a w (([104,101,108,108,111]:Str),([109,97,105,108]:Str),([114,99,112,116]:Str),([100,97,116,97]:Str),([99,104,117,110,107]:Str),([114,101,115,101,116]:Str),([110,111,111,112]:Str),([113,117,105,116]:Str))) (0,0)=some (k4b w):=by
 obtain ⟨t,h1,h2,h3⟩:=ZIa Qia (fun i (s:Int)=>(s,i)) (fun i s x=>match w with | []=>s | y::_=>if lowP y==x then ((i+1:Nat):Int) else s) id (fun _ _=>True) (body:=k6a w (([104,101,108,108,111]:Str),([109,97,105,108]:Str),([114,99,112,116]:Str),([100,97,116,97]:Str),([99,104,117,110,107]:Str),([114,101,115,101,116]:Str),([110,111,111,112]:Str),([113,117,105,116]:Str)))
  (fun s _=>by unfold k6a;rfl) (fun i x s hx _=>by
   have hi:=zXa hx;have h8:Qia.length=8:=rfl;refine ⟨?_,trivial⟩;unfold k6a;dsimp only;rw[decide_eq_true (by omega),show ([([104,101,108,108,111]:Str),([109,97,105,108]:Str),([114,99,112,116]:Str),([100,97,116,97]:Str),([99,104,117,110,107]:Str),([114,101,115,101,116]:Str),([110,111,111,112]:Str),([113,117,105,116]:Str)]:List Str)=Qia from rfl,zMa hx];simp only[cond_true,Option.bind_some,sc i (by omega)];cases w with
   | nil=>rfl
   | cons y r=>
    have e1:decide ((0:Int) < (((y::r).length:Nat):Int))=true:=by simp
    have e2:idx (y::r) 0=some y:=rfl;rw[e1,e2];simp only[cond_true,Option.bind_some,y7a y (hw y (by simp))];cases lowP y==x <;> rfl) 0 trivial
 rw[h1,h3];cases w with
 | nil=>rfl
 | cons y r=>rfl
def noC:zka:=⟨0,[],[],0,0,false⟩
def finP(c:zka):zka × zua:=bif (cmdF c).Code !=0 then (noC,cmdF c) else (c,⟨0,0⟩)
def Kea(s:Str):zka × zua:=
 if 4000 < s.length then (noC,⟨1, -1⟩) else if k4b (wYa s)=0 then (noC,⟨18, -2⟩) else match v8a (k4b (wYa s)) ((wYa s).drop 1) with
  | none=>(noC,⟨11, -3⟩)
  | some c=>finP c
theorem YSa{s x:Str}(h:x∈wYa s):x.length<=s.length:=vQb (List.mem_filter.1 h).1
theorem yYa{a y:Str}(h:angP a=some y):y.length<=a.length:=by
 unfold angP at h;split at h
 .split at h
  .cases h;simp;omega
  cases h
 cases h
theorem k5b{v:Int}{l:List Str}{c:zka}(hl:∀s∈l,s.length<=1048576)(h:v8a v l=some c):JUa c:=by
 unfold v8a at h;have z:([]:Str).length<=1048576:=by decide
 split at h
 .split at h
  .cases h;exact ⟨hl _ (by simp),z⟩
  cases h
 split at h
 .split at h
  .rename_i a;cases ha:angP a with
   | none=>rw[ha]at h;cases h
   | some q=>rw[ha]at h;cases h;exact ⟨z,Nat.le_trans (yYa ha) (hl _ (by simp))⟩
  .rename_i a o;cases ha:angP a with
   | none=>rw[ha]at h;cases h
   | some q=>
    rw[ha]at h;cases ho:optP o VDa with
    | none=>simp[ho]at h
    | some w=>
     cases hn:numP w with
     | none=>simp[ho,hn]at h
     | some m=>simp[ho,hn]at h;subst h;exact ⟨z,Nat.le_trans (yYa ha) (hl _ (by simp))⟩
  cases h
 split at h
 .split at h
  .rename_i a;cases ha:angP a with
   | none=>rw[ha]at h;cases h
   | some q=>rw[ha]at h;cases h;exact ⟨z,Nat.le_trans (yYa ha) (hl _ (by simp))⟩
  .rename_i a o;cases ha:angP a with
   | none=>rw[ha]at h;cases h
   | some q=>
    rw[ha]at h;cases ho:optP o notW with
    | none=>simp[ho]at h
    | some w=>
     cases hn:Qja w with
     | none=>simp[ho,hn]at h
     | some m=>simp[ho,hn]at h;subst h;exact ⟨z,Nat.le_trans (yYa ha) (hl _ (by simp))⟩
  cases h
 split at h
 .split at h
  .rename_i n;cases hn:numP n with
   | none=>simp[hn]at h
   | some m=>simp[hn]at h;subst h;exact ⟨z,z⟩
  .rename_i n x;cases hn:numP n with
   | none=>simp[hn]at h
   | some m=>simp[hn]at h;obtain ⟨_,rfl⟩:=h;exact ⟨z,z⟩
  cases h
 split at h
 .cases h;exact ⟨z,z⟩
 cases h
theorem VEa(s:Str)(hs:s.length<=1048576):vYa s=some (Kea s):=by
 unfold vYa Kea;by_cases h4:4000 < s.length
 .rw[decide_eq_true (by omega),if_pos h4];rfl
 rw[decide_eq_false (by omega),if_neg h4];have hw:∀x∈wYa s,x.length<=1048576:=fun x hx=>by have:=YSa hx;omega
 have hf:kIa s=some (wYa s):=by
  unfold kIa;rw[if_pos (by omega),k1b]
 rw[hf,VBa];simp only[cond_false,Option.bind_some,kpa,qaa,kga];rw[Qka _ hw];simp only[Option.bind_some];generalize wYa s=w at hw ⊢;cases w with
 | nil=>rfl
 | cons y r=>
  have e:k4b (y::r)=k3b (lowP y):=rfl;rw[e];rcases WTa (lowP y) with ⟨h0,_⟩ | ⟨v,h1,h8,hv,_⟩
  .rw[h0];rfl
  rw[hv];have e0:(v==0)=false:=by rw[beq_eq_false_iff_ne];omega
  rw[e0,if_neg (by omega)];have ec:cut (y::r) 1 (((y::r).length:Nat):Int)=some r:=by
   have:=ySa (l:=y::r) (a:=1) (by simp);exact this
  rw[ec];simp only[cond_false,Option.bind_some,List.drop_succ_cons,List.drop_zero];have hr:∀x∈r,x.length<=1048576:=fun x hx=>hw x (by simp[hx])
  obtain ⟨c,h2,h3⟩:=WSa v r hr (by omega);rw[h2];simp only[Option.bind_some];cases ha:v8a v r with
  | none=>rfl
  | some z=>
   have:=h3 z ha;subst this;have hsm:=k5b hr ha;simp only[Option.isSome_some,Bool.not_true,cond_false,KNa c hsm,Option.bind_some];unfold finP;cases hq:(cmdF c).Code !=0 with
   | true=>rfl
   | false=>rfl
theorem vSb(s:Str)(hs:s.length<=1048576):∀(r p word:Str) (out:List Str),s=p++r->word.length<=p.length->out.length<=p.length->iter (vla s) (word,(p.length:Int),out)=some (out++wrd word r):=by
 intro r;induction r with
 | nil=>
  intro p word out hp hw ho;rw[List.append_nil]at hp;subst hp;have hb:vla s (word,(s.length:Int),out)=some (.cont ([],((s.length+1:Nat):Int),out++nonE [word])):=by
   unfold vla;dsimp only;rw[decide_eq_true (by omega),zSa];simp only[cond_true,cond_false,Option.bind_some];rw[sc s.length (by omega)];by_cases he:word=[]
   .subst he;simp[nonE]
   have h1:(word !=([]:Str))=true:=by simpa using he
   have h2:nonE [word]=[word]:=by
    cases word with
    | nil=>exact absurd rfl he
    | cons b t=>rfl
   rw[h1,h2,kna (by simp;omega)];rfl
  rw[zQa hb,ywb];refine zGa ?_;unfold vla;dsimp only;rw[decide_eq_false (by omega)];rfl
 | cons b r ih=>
  intro p word out hp hw ho;have hlen:s.length=p.length+(r.length+1):=by rw[hp];simp
  have hget:idx s (p.length:Int)=some b:=by rw[hp];exact kOb p b r
  by_cases hb:b=32
  .subst hb;have wva:vla s (word,(p.length:Int),out)=some (.cont ([],((p.length+1:Nat):Int),out++nonE [word])):=by
    unfold vla;dsimp only;rw[decide_eq_true (by omega),decide_eq_true (by omega:(p.length:Int) < (s.length:Int)),hget];have e32:(((32:UInt8).toNat:Int) !=32)=false:=rfl;simp only[cond_true,Option.bind_some,e32,cond_false];rw[sc p.length (by omega)];by_cases he:word=[]
    .subst he;simp[nonE]
    have h1:(word !=([]:Str))=true:=by simpa using he
    have h2:nonE [word]=[word]:=by
     cases word with
     | nil=>exact absurd rfl he
     | cons b t=>rfl
    rw[h1,h2,kna (by simp;omega)];rfl
   rw[zQa wva,wrd_sp,<-List.append_assoc];have h3:=ih (p++ [32]) [] (out++nonE [word]) (by rw[hp];simp) (by simp) (by
    have:(nonE [word]).length<=1:=by unfold nonE;exact List.length_filter_le _ _
    simp;omega)
   simp only[List.length_append,List.length_cons,List.length_nil]at h3;rw[show 0+1=1 from rfl]at h3;exact h3
  have wva:vla s (word,(p.length:Int),out)=some (.cont (word++ [b],((p.length+1:Nat):Int),out)):=by
   unfold vla;dsimp only;have e32:((b.toNat:Int) !=32)=true:=by
    have:=ZSa b 32 (by decide);rw[show ((b.toNat:Int) !=32)=(b !=32) from this];simpa using hb
   rw[decide_eq_true (by omega),decide_eq_true (by omega:(p.length:Int) < (s.length:Int)),hget];simp only[cond_true,Option.bind_some,e32];rw[sc p.length (by omega),qFb (by omega) (by omega)];have e:(s.drop p.length).take (p.length+1 - p.length)=[b]:=by rw[hp,show p.length+1 - p.length=1 by omega];simp
   rw[e];simp only[Option.bind_some];rw[joa (by simp;omega)];rfl
  rw[zQa wva];have h3:=ih (p++ [b]) (word++ [b]) out (by rw[hp];simp) (by simp;omega) (by simp;omega);simp only[List.length_append,List.length_cons,List.length_nil]at h3;rw[show 0+1=1 from rfl]at h3;rw[h3];have:=WOa (k:=[b]) word r (by simpa using fun h=>hb h.symm);rw[<-this];rfl
theorem vTb(s:Str)(hs:s.length<=1048576):kMb s=some (wYa s):=by
 have:=vSb s hs s [] [] [] rfl (by simp) (by simp);unfold kMb;rw[show (([]:Str),(0:Int),([]:List Str))=(([]:Str),((([]:Str).length:Nat):Int),([]:List Str)) from rfl,this,yvb];rfl
theorem YTa(o n:Str)(ho:o.length<=1048576)(hn:n.length<=100):QPa o (n++ [61])=some (match optP o n with | some y=>(y,true) | none=>([],false)):=by
 have hll:(lowP o).length=o.length:=by unfold lowP;simp
 unfold QPa;rw[Q0a o ho];simp only[Option.bind_some];have hpre:((n++ [61]).isPrefixOf (lowP o))=decide ((lowP o).take (n++ [61]).length=n++ [61]):=by
  rw[Bool.eq_iff_iff,List.isPrefixOf_iff_prefix,List.prefix_iff_eq_take,decide_eq_true_eq];exact eq_comm
 unfold optP;rw[hpre];by_cases hlt:(lowP o).length < (n++ [61]).length
 .rw[decide_eq_true (by omega)];have:¬(lowP o).take (n++ [61]).length=n++ [61]:=by
   intro h;have:=congrArg List.length h;rw[List.length_take]at this;omega
  rw[decide_eq_false this];rfl
 rw[decide_eq_false (by omega)];simp only[cond_false];rw[jZa (by omega)];simp only[Option.bind_some];by_cases h:(lowP o).take (n++ [61]).length=n++ [61]
 .have e:((lowP o).take (n++ [61]).length !=n++ [61])=false:=by rw[h];simp
  rw[e,decide_eq_true h];simp only[cond_false];rw[ySa (by omega)];simp
 have e:((lowP o).take (n++ [61]).length !=n++ [61])=true:=by simpa using h
 rw[e,decide_eq_false h];rfl
theorem yEb(w:List Str)(hw:∀s∈w,s.length<=1048576):iter (qQa w) (1,0)=some (k4b w):=by
 cases w with
 | nil=>exact zGa (by unfold qQa;rfl)
 | cons y r=>
  obtain ⟨t,h1,h2,h3⟩:=ZIa Qia (fun i (s:Int)=>(i+1,s)) (fun i s x=>if lowP y==x then ((i+1:Nat):Int) else s) id (fun _ _=>True) (body:=qQa (y::r))
   (fun s _=>by unfold qQa;rfl) (fun i x s hx _=>by
    have hi:=zXa hx;have h8:Qia.length=8:=rfl;refine ⟨?_,trivial⟩;unfold qQa;dsimp only;have e1:decide ((0:Int) < (((y::r).length:Nat):Int))=true:=by simp
    have e2:idx (y::r) 0=some y:=rfl;have e3:JWa ((i:Int)+1)=x:=by
     unfold JWa;rw[show ((i:Int)+1 - 1).toNat=i by omega,List.getD_eq_getElem?_getD,hx];rfl
    rw[decide_eq_true (by omega),e1,e2,yDb (by omega),e3];simp only[cond_true,Option.bind_some,Q0a y (hw y (by simp))];rw[qGa (by omega) (by omega)];cases lowP y==x with
    | true=>simp
    | false=>simp) 0 trivial
  rw[show ((1:Int),(0:Int))=((0:Int)+1,0) from rfl];rw[h1,h3];rfl
theorem zNb(s:Str)(b:Bool)(n0:Int):iter (qSa (s,b)) (false,0,n0)=some (match (if b then Qja s else none) with | some n=>(true,n) | none=>(false,n0)):=by
 cases b with
 | false=>
  refine zGa ?_;unfold qSa;rfl
 | true=>
  obtain ⟨t,h1,h2,h3⟩:=ZIa Zva (fun i (q:Bool × Int)=>(q.1,i,q.2)) (fun i q x=>if x==s then (true,(i:Int)) else q) id (fun _ _=>True) (body:=qSa (s,true))
   (fun q _=>by unfold qSa;rfl) (fun i x q hx _=>by
    have hi:=zXa hx;have h8:Zva.length=8:=rfl;refine ⟨?_,trivial⟩;have hc:k2b (i:Int)=x:=by
     unfold k2b;rw[Int.toNat_natCast,List.getD_eq_getElem?_getD,hx];rfl
    unfold qSa;dsimp only;rw[decide_eq_true (by omega),WQa (by omega),hc];simp only[cond_true,Option.bind_some,sc i (by omega)];cases x==s <;> rfl) (false,n0) trivial
  rw[h1,h3,if_pos rfl];have key:Zva.zipIdx.foldl (fun (q:Bool × Int) p=>if p.1==s then (true,((p.2:Nat):Int)) else q) (false,n0)=(match Qja s with | some n=>(true,n) | none=>(false,n0)):=by
   by_cases h:s∈Zva
   .have:∀z∈Zva,∃k:Fin 8,Qja z=some (k.val:Int)/\∀n:Int,Zva.zipIdx.foldl (fun (q:Bool × Int) p=>if p.1==z then (true,((p.2:Nat):Int)) else q) (false,n)=(true,(k.val:Int)):=by
     intro z hz;simp only[Zva,List.mem_cons,List.not_mem_nil,or_false]at hz;rcases hz with rfl | rfl | rfl | rfl | rfl | rfl | rfl | rfl
     .exact ⟨0,rfl,fun n=>rfl⟩
     .exact ⟨1,rfl,fun n=>rfl⟩
     .exact ⟨2,rfl,fun n=>rfl⟩
     .exact ⟨3,rfl,fun n=>rfl⟩
     .exact ⟨4,rfl,fun n=>rfl⟩
     .exact ⟨5,rfl,fun n=>rfl⟩
     .exact ⟨6,rfl,fun n=>rfl⟩
     exact ⟨7,rfl,fun n=>rfl⟩
    obtain ⟨k,h4,h5⟩:=this s h;rw[h4,h5 n0]
   have h6:Qja s=none:=by
    unfold Qja;rw[wta];intro i x hx;have hne:(x==s)=false:=by
     rw[beq_eq_false_iff_ne];rintro rfl;exact h (List.mem_of_getElem? hx)
    simp[hne]
   rw[h6];simp only[Zva,List.mem_cons,List.not_mem_nil,or_false,not_or]at h;obtain ⟨a1,a2,a3,a4,a5,a6,a7,a8⟩:=h;simp[Zva,List.zipIdx,Ne.symm a1,Ne.symm a2,Ne.symm a3,Ne.symm a4,Ne.symm a5,Ne.symm a6,Ne.symm a7,Ne.symm a8]
  rw[key];rfl
theorem yFb(v:Int)(n a:Str)(z o:Int)(b:Bool)(h:JUa ⟨v,n,a,z,o,b⟩):qRa v (n,a,0) (z,o,b)=some (finP ⟨v,n,a,z,o,b⟩):=by
 unfold qRa finP;rw[Q1a _ h];simp only[Option.bind_some];cases hc:(cmdF ⟨v,n,a,z,o,b⟩).Code !=0 with
 | true=>rfl
 | false=>
  have:=(yzb (c:=⟨v,n,a,z,o,b⟩) (by simpa using hc)).2;rw[this];rfl
theorem zOb(v:Int)(n a:Str)(q z o:Int)(b:Bool):qRa v (n,a,q) (z,o,b)=qRa v (n,a,0) (z,o,b):=rfl
theorem VVa(a:Str):(((bif decide ((a.length:Int) < 2) then some true else (idx a 0).bind fun v84=>(bif ((v84.toNat:Int) !=60) then some true else (idx a ((w64 ((a.length:Int) - 1)))).bind fun v89=>some (((v89.toNat:Int) !=62)))):Option Bool))=some (!(angP a).isSome)∨4611686018427387904<=a.length:=by
 by_cases hbig:4611686018427387904<=a.length
 .exact .inr hbig
 left
 match a with
 | []=>rfl
 | [b]=>
  have:angP [b]=none:=by unfold angP;simp
  rw[this];rfl
 | b::c::r=>
  have e1:decide ((((b::c::r).length:Nat):Int) < 2)=false:=by simp;omega
  have e2:idx (b::c::r) 0=some b:=rfl;have e3:idx (b::c::r) (w64 ((((b::c::r).length:Nat):Int) - 1))=(c::r).getLast? :=by
   have hl:(b::c::r).length=r.length+2:=rfl;rw[qGa (by omega) (by omega),show (((b::c::r).length:Nat):Int) - 1=((r.length+1:Nat):Int) by omega,wsa];rw[List.getLast?_eq_getElem?];simp
  rw[e1,e2,e3];obtain ⟨w,e4⟩:∃w,(c::r).getLast? =some w:=⟨_,List.getLast?_eq_some_getLast (by simp)⟩;rw[e4];simp only[cond_false,Option.bind_some];have e5:=ZSa b 60 (by decide);have e6:=ZSa w 62 (by decide);rw[show ((b.toNat:Int) !=60)=(b !=60) from e5,show ((w.toNat:Int) !=62)=(w !=62) from e6];have hap:angP (b::c::r)=if b=60/\(c::r).getLast? =some 62 then some (c::r).dropLast else none:=rfl;rw[hap,e4];by_cases h1:b=60
  .subst h1;by_cases h2:w=62
   .simp[h2]
   have h3:(w !=62)=true:=by simpa using h2
   rw[h3];simp[h2]
  have h3:(b !=60)=true:=by simpa using h1
  rw[h3];simp[h1]
theorem VWa{a y:Str}(h:angP a=some y)(hl:a.length<=1048576):cut a 1 (w64 ((a.length:Int) - 1))=some y:=by
 unfold angP at h;split at h
 .rename_i b r;split at h
  .rename_i hb;cases h;have hr:r≠ []:=by
    intro e;subst e;simp at hb
   have hp:=List.length_pos_iff.2 hr;have hl2:(b::r).length=r.length+1:=rfl;rw[qGa (by omega) (by omega),show (((b::r).length:Nat):Int) - 1=((r.length:Nat):Int) by omega];have:=qFb (l:=b::r) (a:=1) (b:=r.length) (by omega) (by simp);rw[show ((1:Nat):Int)=1 from rfl]at this;rw[this];simp[List.dropLast_eq_take]
  cases h
 cases h
def badC:zka × zua:=(noC,⟨11, -3⟩)
theorem yGb(v:Int)(a b:Str)(n ad:Str)(z:Int)(hn:n.length<=1048576)(had:ad.length<=1048576)(hb:b.length<=1048576):
 kFa v ⟨11, -3⟩ [a,b] (n,ad,z)=some (
  if v=2 then (match (optP b VDa).bind numP with | some m=>finP ⟨2,n,ad,(m:Int),0,false⟩ | none=>badC)
  else if v=3 then (match (optP b notW).bind Qja with | some m=>finP ⟨3,n,ad,z,m,false⟩ | none=>badC)
  else if v=5 then (if lowP b=zMb then finP ⟨5,n,ad,z,0,true⟩ else badC) else badC):=by
 have e4:(((([a,b]:List Str).length:Nat):Int)==2)=true:=rfl;have e3:idx [a,b] 1=some b:=rfl;unfold kFa;rw[e4,e3];simp only[Option.bind_some,cond_true];rcases five v with rfl | rfl | rfl | rfl | ⟨h1,h2,h3,h5⟩
 .rw[if_neg (by omega),if_neg (by omega),if_neg (by omega)];rfl
 .rw[if_pos rfl];have ha:=YTa b VDa hb (by decide);have ha' :QPa b ([115,105,122,101,61]:Str)=_:=ha;simp only[show ((2:Int)==3)=false from rfl,show ((2:Int)==2)=true from rfl,cond_true,cond_false,Option.bind_some];rw[ha'];simp only[Option.bind_some];cases ho:optP b VDa with
  | none=>
   simp only[Option.bind_none];rw[jSa [] (by decide)];rfl
  | some w=>
   have hwl:w.length<=1048576:=by
    unfold optP at ho;split at ho
    .cases ho;have:(lowP b).length=b.length:=by unfold lowP;simp
     simp;omega
    cases ho
   simp only[Option.bind_some];rw[jSa w hwl];cases hm:numP w with
   | none=>rfl
   | some m=>
    simp only[Option.bind_some,cond_true];rw[decide_eq_true (by omega)];simp only[Bool.not_true,cond_false];rw[zOb,yFb _ _ _ _ _ _ ⟨hn,had⟩]
 .rw[if_neg (by omega),if_pos rfl];have ha:=YTa b notW hb (by decide);have ha' :QPa b ([110,111,116,105,102,121,61]:Str)=_:=ha;simp only[show ((3:Int)==3)=true from rfl,show ((3:Int)==2)=false from rfl,cond_true,cond_false,Option.bind_some];rw[ha'];simp only[Option.bind_some];cases ho:optP b notW with
  | none=>
   simp only[Option.bind_none];rw[zNb];rfl
  | some w=>
   simp only[Option.bind_some];rw[zNb,if_pos rfl];cases hm:Qja w with
   | none=>rfl
   | some m=>
    simp only[Option.bind_some,Bool.not_true,cond_false];rw[zOb,yFb _ _ _ _ _ _ ⟨hn,had⟩]
 .rw[if_neg (by omega),if_neg (by omega),if_pos rfl];simp only[show ((5:Int)==3)=false from rfl,show ((5:Int)==2)=false from rfl,show ((5:Int)==5)=true from rfl,cond_true,cond_false,Option.bind_some,Q0a b hb];have hw:(lowP b==([108,97,115,116]:Str))=decide (lowP b=zMb):=by rw[Bool.eq_iff_iff,beq_iff_eq,decide_eq_true_eq];exact Iff.rfl
  rw[hw];by_cases hl:lowP b=zMb
  .rw[decide_eq_true hl,if_pos hl];simp only[Bool.not_true,cond_false];rw[zOb,yFb _ _ _ _ _ _ ⟨hn,had⟩]
  rw[decide_eq_false hl,if_neg hl];rfl
 rw[if_neg (by simpa using h2),if_neg (by simpa using h3),if_neg (by simpa using h5),h2,h3,h5];rfl
theorem Qla(v:Int)(f:zua)(l:List Str)(n ad:Str)(z:Int)(hl:l.length<=1)(hn:n.length<=1048576)(had:ad.length<=1048576):
 kFa v f l (n,ad,z)=some (finP ⟨v,n,ad,z,if v=3 then 1 else 0,false⟩):=by
 have e4:(((l.length:Nat):Int)==2)=false:=by rw[beq_eq_false_iff_ne];omega
 unfold kFa;rw[e4];by_cases h3:v=3
 .subst h3;simp only[show ((3:Int)==3)=true from rfl,cond_true,cond_false,Option.bind_some,if_true];rw[zOb,yFb _ _ _ _ _ _ ⟨hn,had⟩]
 have:(v==3)=false:=by simpa using h3
 simp only[this,cond_false,Option.bind_some,if_neg h3];rw[zOb,yFb _ _ _ _ _ _ ⟨hn,had⟩]
theorem Yka(s:Str)(hs:s.length<=1048576):KAa s=some (Kea s):=by
 unfold KAa Kea;by_cases h4:4000 < s.length
 .rw[decide_eq_true (by omega),if_pos h4];rfl
 rw[decide_eq_false (by omega),if_neg h4];have hw:∀x∈wYa s,x.length<=1048576:=fun x hx=>by have:=YSa hx;omega
 rw[vTb s hs];simp only[cond_false,Option.bind_some,KFa];rw[yEb _ hw];simp only[Option.bind_some];have hwl:(wYa s).length<=1048577:=by
  have h1:=zLb 32 s;have h2:(wYa s).length<=(vBa 32 s).length:=List.length_filter_le _ _;omega
 generalize wYa s=w at hw hwl ⊢;cases w with
 | nil=>rfl
 | cons y r=>
  have e:k4b (y::r)=k3b (lowP y):=rfl;rw[e];rcases WTa (lowP y) with ⟨h0,_⟩ | ⟨v,h1,h8,hv,_⟩
  .rw[h0];rfl
  rw[hv];have e0:(v==0)=false:=by rw[beq_eq_false_iff_ne];omega
  rw[e0,if_neg (by omega)];have ec:cut (y::r) 1 (((y::r).length:Nat):Int)=some r:=by
   have:=ySa (l:=y::r) (a:=1) (by simp);exact this
  rw[ec];simp only[cond_false,Option.bind_some,List.drop_succ_cons,List.drop_zero];have hr:∀x∈r,x.length<=1048576:=fun x hx=>hw x (by simp[hx])
  have hrl:r.length<=1048576:=by simp at hwl;omega
  have z:([]:Str).length<=1048576:=by decide
  have low:∀(a b:Int),R_In (r.length:Int) a b=some (decide (a<=(r.length:Int)) && decide ((r.length:Int)<=b)):=fun a b=>vJa _ _ _
  have many3:∀(a b c:Str) (t:List Str) (v:Int),v8a v (a::b::c::t)=none:=by
   intro a b c t v;unfold v8a;repeat' split <;> first | rfl | (rename_i h;cases h) | skip
  have lastCase:∀(t:List Str) (v:Int),(v=4∨v=6∨v=7∨v=8)->v8a v t=(if t.isEmpty then some ⟨v,[],[],0,0,false⟩ else none):=by
   intro t v hv;unfold v8a;rw[if_neg (by omega),if_neg (by omega),if_neg (by omega),if_neg (by omega)];cases t <;> rfl
  have quiet:∀v:Int,(v=4∨v=6∨v=7∨v=8)->∀(X:Option (zka × zua)),(r=[]->X=kFa v ⟨11, -3⟩ r ([],[],0))->
   (bif !(decide ((0:Int)<=(r.length:Int)) && decide ((r.length:Int)<=0)) then some (noC,(⟨11, -3⟩:zua)) else X)=some (match v8a v r with | none=>(noC,⟨11, -3⟩) | some c=>finP c):=by
   intro v hv X hX;rw[lastCase r v hv];cases r with
   | nil=>
    rw[hX rfl,Qla v _ [] [] [] 0 (by simp) z z,if_neg (by omega)];rfl
   | cons a t=>
    have e1:(decide ((0:Int)<=(((a::t).length:Nat):Int)) && decide ((((a::t).length:Nat):Int)<=0))=false:=by simp
    rw[e1];rfl
  have bad:(⟨11, -3⟩:zua)=⟨11, -3⟩:=rfl;have hv8:v=1∨v=2∨v=3∨v=4∨v=5∨v=6∨v=7∨v=8:=by omega
  rcases hv8 with rfl | rfl | rfl | rfl | rfl | rfl | rfl | rfl
  .rw[show idx ([1,1,1,0,1,0,0,0]:List Int) (w64 (1 - 1))=some 1 from by decide,show idx ([1,2,2,0,2,0,0,0]:List Int) (w64 (1 - 1))=some 1 from by decide];simp only[Option.bind_some,low]
   match r,hr with
   | [],_=>rfl
   | [n],hr=>
    have e2:idx [n] 0=some n:=rfl;have e5:(decide ((1:Int)<=(((([n]:List Str).length:Nat):Int))) && decide ((((([n]:List Str).length:Nat):Int))<=1))=true:=rfl;rw[e5,e2];simp only[Bool.not_true,cond_false,show ((1:Int)==1)=true from rfl,cond_true,Option.bind_some];rw[Qla 1 _ [n] n [] 0 (by simp) (hr n (by simp)) z];rfl
   | a::b::t,_=>
    have e1:(decide ((1:Int)<=(((a::b::t).length:Nat):Int)) && decide ((((a::b::t).length:Nat):Int)<=1))=false:=by simp;omega
    rw[e1];rfl
  .rw[show idx ([1,1,1,0,1,0,0,0]:List Int) (w64 (2 - 1))=some 1 from by decide,show idx ([1,2,2,0,2,0,0,0]:List Int) (w64 (2 - 1))=some 2 from by decide];simp only[Option.bind_some,low]
   match r,hr with
   | [],_=>rfl
   | [a],hr=>
    have e2:idx [a] 0=some a:=rfl;have e5:(decide ((1:Int)<=(((([a]:List Str).length:Nat):Int))) && decide ((((([a]:List Str).length:Nat):Int))<=2))=true:=rfl;have hal:=hr a (by simp);rw[e5,e2,ap2];simp only[Bool.not_true,cond_false,show ((2:Int)==1)=false from rfl,show ((2:Int)==2)=true from rfl,cond_true,Option.bind_some];rcases VVa a with ha | ha
    .rw[ha];cases hp:angP a with
     | none=>rfl
     | some q=>
      simp only[Option.isSome_some,Bool.not_true,cond_false,Option.bind_some,VWa hp hal];rw[Qla 2 _ [a] [] q 0 (by simp) z (Nat.le_trans (yYa hp) hal)];rfl
    omega
   | [a,o],hr=>
    have e2:idx [a,o] 0=some a:=rfl;have e5:(decide ((1:Int)<=(((([a,o]:List Str).length:Nat):Int))) && decide ((((([a,o]:List Str).length:Nat):Int))<=2))=true:=rfl;have hal:=hr a (by simp);rw[e5,e2,ap22];simp only[Bool.not_true,cond_false,show ((2:Int)==1)=false from rfl,show ((2:Int)==2)=true from rfl,cond_true,Option.bind_some];rcases VVa a with ha | ha
    .rw[ha];cases hp:angP a with
     | none=>rfl
     | some q=>
      simp only[Option.isSome_some,Bool.not_true,cond_false,Option.bind_some,VWa hp hal];rw[yGb 2 a o [] q 0 z (Nat.le_trans (yYa hp) hal) (hr o (by simp)),if_pos rfl];cases optP o VDa with
      | none=>rfl
      | some w=>
       simp only[Option.bind_some];cases numP w <;> rfl
    omega
   | a::b::c::t,_=>
    have e1:(decide ((1:Int)<=(((a::b::c::t).length:Nat):Int)) && decide ((((a::b::c::t).length:Nat):Int)<=2))=false:=by simp;omega
    rw[e1,many3];rfl
  .rw[show idx ([1,1,1,0,1,0,0,0]:List Int) (w64 (3 - 1))=some 1 from by decide,show idx ([1,2,2,0,2,0,0,0]:List Int) (w64 (3 - 1))=some 2 from by decide];simp only[Option.bind_some,low]
   match r,hr with
   | [],_=>rfl
   | [a],hr=>
    have e2:idx [a] 0=some a:=rfl;have e5:(decide ((1:Int)<=(((([a]:List Str).length:Nat):Int))) && decide ((((([a]:List Str).length:Nat):Int))<=2))=true:=rfl;have hal:=hr a (by simp);rw[e5,e2,ap3];simp only[Bool.not_true,cond_false,show ((3:Int)==1)=false from rfl,show ((3:Int)==2)=false from rfl,show ((3:Int)==3)=true from rfl,cond_true,Option.bind_some];rcases VVa a with ha | ha
    .rw[ha];cases hp:angP a with
     | none=>rfl
     | some q=>
      simp only[Option.isSome_some,Bool.not_true,cond_false,Option.bind_some,VWa hp hal];rw[Qla 3 _ [a] [] q 0 (by simp) z (Nat.le_trans (yYa hp) hal)];rfl
    omega
   | [a,o],hr=>
    have e2:idx [a,o] 0=some a:=rfl;have e5:(decide ((1:Int)<=(((([a,o]:List Str).length:Nat):Int))) && decide ((((([a,o]:List Str).length:Nat):Int))<=2))=true:=rfl;have hal:=hr a (by simp);rw[e5,e2,ap33];simp only[Bool.not_true,cond_false,show ((3:Int)==1)=false from rfl,show ((3:Int)==2)=false from rfl,show ((3:Int)==3)=true from rfl,cond_true,Option.bind_some];rcases VVa a with ha | ha
    .rw[ha];cases hp:angP a with
     | none=>rfl
     | some q=>
      simp only[Option.isSome_some,Bool.not_true,cond_false,Option.bind_some,VWa hp hal];rw[yGb 3 a o [] q 0 z (Nat.le_trans (yYa hp) hal) (hr o (by simp)),if_neg (by omega),if_pos rfl];cases optP o notW with
      | none=>rfl
      | some w=>
       simp only[Option.bind_some];cases Qja w <;> rfl
    omega
   | a::b::c::t,_=>
    have e1:(decide ((1:Int)<=(((a::b::c::t).length:Nat):Int)) && decide ((((a::b::c::t).length:Nat):Int)<=2))=false:=by simp;omega
    rw[e1,many3];rfl
  .rw[show idx ([1,1,1,0,1,0,0,0]:List Int) (w64 (4 - 1))=some 0 from by decide,show idx ([1,2,2,0,2,0,0,0]:List Int) (w64 (4 - 1))=some 0 from by decide];simp only[Option.bind_some,low];exact quiet 4 (by omega) _ (fun _=>rfl)
  .rw[show idx ([1,1,1,0,1,0,0,0]:List Int) (w64 (5 - 1))=some 1 from by decide,show idx ([1,2,2,0,2,0,0,0]:List Int) (w64 (5 - 1))=some 2 from by decide];simp only[Option.bind_some,low]
   match r,hr with
   | [],_=>rfl
   | [a],hr=>
    have e2:idx [a] 0=some a:=rfl;have e5:(decide ((1:Int)<=(((([a]:List Str).length:Nat):Int))) && decide ((((([a]:List Str).length:Nat):Int))<=2))=true:=rfl;have hal:=hr a (by simp);rw[e5,e2,ap5];simp only[Bool.not_true,cond_false,show ((5:Int)==1)=false from rfl,show ((5:Int)==2)=false from rfl,show ((5:Int)==3)=false from rfl,show ((5:Int)==5)=true from rfl,cond_true,Option.bind_some,jSa a hal];cases hn:numP a with
    | none=>rfl
    | some m=>
     have hm0:¬((m:Nat):Int) < 0:=by omega
     dsimp only;rw[decide_eq_false hm0];simp only[cond_false];rw[Qla 5 _ [a] [] [] _ (by simp) z z];rfl
   | [a,o],hr=>
    have e2:idx [a,o] 0=some a:=rfl;have e5:(decide ((1:Int)<=(((([a,o]:List Str).length:Nat):Int))) && decide ((((([a,o]:List Str).length:Nat):Int))<=2))=true:=rfl;have hal:=hr a (by simp);rw[e5,e2,ap55];simp only[Bool.not_true,cond_false,show ((5:Int)==1)=false from rfl,show ((5:Int)==2)=false from rfl,show ((5:Int)==3)=false from rfl,show ((5:Int)==5)=true from rfl,cond_true,Option.bind_some,jSa a hal];cases hn:numP a with
    | none=>rfl
    | some m=>
     have hm0:¬((m:Nat):Int) < 0:=by omega
     dsimp only;rw[decide_eq_false hm0];simp only[cond_false];rw[yGb 5 a o [] [] _ z z (hr o (by simp)),if_neg (by omega),if_neg (by omega),if_pos rfl];simp only[Option.bind_some];by_cases hx:lowP o=zMb
     .rw[if_pos hx,if_pos hx]
     rw[if_neg hx,if_neg hx];rfl
   | a::b::c::t,_=>
    have e1:(decide ((1:Int)<=(((a::b::c::t).length:Nat):Int)) && decide ((((a::b::c::t).length:Nat):Int)<=2))=false:=by simp;omega
    rw[e1,many3];rfl
  .rw[show idx ([1,1,1,0,1,0,0,0]:List Int) (w64 (6 - 1))=some 0 from by decide,show idx ([1,2,2,0,2,0,0,0]:List Int) (w64 (6 - 1))=some 0 from by decide];simp only[Option.bind_some,low];exact quiet 6 (by omega) _ (fun _=>rfl)
  .rw[show idx ([1,1,1,0,1,0,0,0]:List Int) (w64 (7 - 1))=some 0 from by decide,show idx ([1,2,2,0,2,0,0,0]:List Int) (w64 (7 - 1))=some 0 from by decide];simp only[Option.bind_some,low];exact quiet 7 (by omega) _ (fun _=>rfl)
  rw[show idx ([1,1,1,0,1,0,0,0]:List Int) (w64 (8 - 1))=some 0 from by decide,show idx ([1,2,2,0,2,0,0,0]:List Int) (w64 (8 - 1))=some 0 from by decide];simp only[Option.bind_some,low];exact quiet 8 (by omega) _ (fun _=>rfl)
abbrev Ses:=zea
def cv(x:Ses):zda:=⟨x.Server,x.replies,x.mails⟩
def sayS(x:Ses)(code:Int)(l:List Str):Ses:=⟨x.Server,x.replies++ [⟨code,l⟩],x.mails⟩
def abS(x:Ses):Ses:=⟨{x.Server with Mailing:=false,From:=[],To:=[],Data:=[],Lost:=0,Chunked:=false},x.replies,x.mails⟩
def wxa(x:Ses)(c:UInt8):Ses:=if (x.Server.Data.length:Int) < x.Server.Size then ⟨{x.Server with Data:=x.Server.Data++ [c]},x.replies,x.mails⟩ else ⟨{x.Server with Lost:=min (x.Server.Lost+1) 1099511627776},x.replies,x.mails⟩
def idS(s:zha):Str:=s.Name++ [45]++Lib.decDigits (s.Count+1).toNat
def qVb:Str:=[108,97,114,103,101]
def qWb:Str:=[114,101,102,117,115,101,100]
def Vqa:Str:=[111,114,100,101,114]
def okW:Str:=[111,107]
def zPb(x:Ses):Ses:=abS (if 0 < x.Server.Lost then sayS x 552 [qVb] else if (ZWa x.Server.Data).2=false∨x.Server.Count=1000000 then sayS x 554 [qWb]
 else sayS ⟨{x.Server with Count:=x.Server.Count+1},x.replies,x.mails++ [⟨⟨x.Server.From,x.Server.To,idS x.Server⟩,(ZWa x.Server.Data).1⟩]⟩ 250 [idS x.Server])
def Vra(x:Ses):Ses:=bif x.Server.Ignore then sayS ⟨{x.Server with Phase:=0,Last:=false,Ignore:=false},x.replies,x.mails⟩ 503 [Vqa]
 else bif x.Server.Last then zPb ⟨{x.Server with Phase:=0,Last:=false,Ignore:=false},x.replies,x.mails⟩ else sayS ⟨{x.Server with Phase:=0,Last:=false,Ignore:=false},x.replies,x.mails⟩ 250 [okW]
def addR(x:Ses)(c:zka):List zca:=v5a (x.Server.To++ [⟨c.Address,c.Notify⟩])
def vUb(x:Ses)(c:zka):Ses:=bif (!x.Server.Mailing || x.Server.Chunked) then sayS x 503 [Vqa] else if x.Server.Many < ((addR x c).length:Int) then sayS x 452 [[109,97,110,121]] else sayS ⟨{x.Server with To:=addR x c},x.replies,x.mails⟩ 250 [okW]
def sizeW' :Str:=[115,105,122,101,32]
def WUa:Str:=[114,101,99,105,112,105,101,110,116,115,32]
def vVb(x:Ses)(c:zka):Ses:=
 if c.Verb=1 then sayS ⟨{(abS x).Server with Greeted:=true},x.replies,x.mails⟩ 250 [x.Server.Name,sizeW' ++Lib.decDigits x.Server.Size.toNat,WUa++Lib.decDigits x.Server.Many.toNat]
 else if c.Verb=2 then (bif (!x.Server.Greeted || x.Server.Mailing) then sayS x 503 [Vqa] else if x.Server.Size < c.Size then sayS x 552 [qVb] else sayS ⟨{x.Server with Mailing:=true,From:=c.Address},x.replies,x.mails⟩ 250 [okW])
 else if c.Verb=3 then vUb x c
 else if c.Verb=4 then (bif (x.Server.To.isEmpty || x.Server.Chunked) then sayS x 503 [Vqa] else sayS ⟨{x.Server with Phase:=1},x.replies,x.mails⟩ 354 [[103,111,32,111,110]])
 else if c.Verb=5 then (if c.Size=0 then Vra ⟨{x.Server with Phase:=2,Left:=c.Size,Last:=c.Last,Ignore:=x.Server.To.isEmpty,Chunked:= !x.Server.To.isEmpty},x.replies,x.mails⟩ else ⟨{x.Server with Phase:=2,Left:=c.Size,Last:=c.Last,Ignore:=x.Server.To.isEmpty,Chunked:= !x.Server.To.isEmpty},x.replies,x.mails⟩)
 else if c.Verb=6 then sayS (abS x) 250 [okW]
 else if c.Verb=8 then (sayS ⟨{(abS x).Server with Phase:=3,Buffer:=[]},x.replies,x.mails⟩ 221 [[98,121,101]])
 else sayS x 250 [okW]
def Qma:Str:=[117,110,107,110,111,119,110]
def yHb:Str:=[115,121,110,116,97,120]
def bufS(x:Ses)(b:List UInt8):Ses:=⟨{x.Server with Buffer:=b},x.replies,x.mails⟩
def vWb(x:Ses)(c:UInt8):Ses:=
 if [13,10].isSuffixOf (x.Server.Buffer++ [c]) then
  let r:=Kea ((x.Server.Buffer++ [c]).take ((x.Server.Buffer++ [c]).length - 2))
  if r.2.Code=18 then sayS (bufS x []) 500 [Qma] else if r.2.Code=0 then vVb (bufS x []) r.1 else sayS (bufS x []) 501 [yHb]
 else if (x.Server.Buffer++ [c]).length=4002 then sayS ⟨{(abS x).Server with Phase:=3,Buffer:=[]},x.replies,x.mails⟩ 500 [Qma]
 else bufS x (x.Server.Buffer++ [c])
def JXa(x:Ses)(d:Int):Ses:=⟨{x.Server with Dots:=d},x.replies,x.mails⟩
def vXb(x:Ses)(c:UInt8):Ses:=
 if x.Server.Dots=0/\c=46 then JXa x 1
 else if x.Server.Dots=1/\c=13 then JXa x 2
 else if x.Server.Dots=2/\c=10 then zPb ⟨{x.Server with Phase:=0,Dots:=0},x.replies,x.mails⟩
 else JXa (wxa (if x.Server.Dots=2 then wxa x 13 else x) c) (if c=13 then 4 else if c=10/\x.Server.Dots=4 then 0 else 3)
def zQb(x:Ses)(c:UInt8):Ses:=
 if x.Server.Phase=0 then vWb x c else if x.Server.Phase=1 then vXb x c
 else if x.Server.Phase=2 then
  let y:=bif x.Server.Ignore then x else wxa x c;let z:Ses:=⟨{y.Server with Left:=y.Server.Left - 1},y.replies,y.mails⟩
  if z.Server.Left=0 then Vra z else z
 else x
structure SI (x:Ses) (n:Nat):Prop where
 size:1<=x.Server.Size/\x.Server.Size<=12000
 many:1<=x.Server.Many/\x.Server.Many<=60
 name:x.Server.Name.length<=40
 data:(x.Server.Data.length:Int)<=x.Server.Size
 buf:x.Server.Buffer.length<=4001
 tos:x.Server.To.length<=60/\∀r∈x.Server.To,vna r.Address=true/\qEa r.Notify=true
 lost:0<=x.Server.Lost/\x.Server.Lost<=1099511627776
 count:0<=x.Server.Count/\x.Server.Count<=1000000
 left:x.Server.Phase=2->1<=x.Server.Left/\x.Server.Left<=1000000
 chunk:x.Server.To=[]->x.Server.Chunked=false
 dots:x.Server.Phase≠1->x.Server.Dots=0
 reps:x.replies.length<=n
 mails:x.mails.length<=n
theorem Zwa(x:Ses)(code:Int)(l:List Str)(h:x.replies.length<=1000000000):zoa x code l=some (sayS x code l):=by
 unfold zoa;rw[kna (by simp;omega)];rfl
theorem yAa(x:Ses)(code:Int)(l:Str)(h:x.replies.length<=1000000000):vOa (cv x) code l=some (cv (sayS x code [l])):=by
 unfold vOa;rw[kna (by show x.replies.length+_<=_;simp;omega)];rfl
theorem ab_eq(x:Ses):zYa x=some (abS x):=rfl
theorem JYa(x:Ses):vma (cv x)=some (cv (abS x)):=rfl
theorem yIb(x:Ses)(c:UInt8){n:Nat}(h:SI x n):z9a x c=some (wxa x c):=by
 have h1:=h.size;have h2:=h.data;have h3:=h.lost;unfold z9a wxa;by_cases hd:(x.Server.Data.length:Int) < x.Server.Size
 .rw[if_pos hd,decide_eq_true hd];simp only[cond_true];rw[kna (by simp;omega)];rfl
 rw[if_neg hd,decide_eq_false hd];simp only[cond_false];rw[qGa (by omega) (by omega)]
theorem k6b(x:Ses)(c:UInt8){n:Nat}(h:SI x n):KDa (cv x) c=some (cv (wxa x c)):=by
 have h1:=h.size;have h2:=h.data;have h3:=h.lost;unfold KDa wxa cv;dsimp only;by_cases hd:(x.Server.Data.length:Int) < x.Server.Size
 .rw[if_pos hd,decide_eq_true hd];simp only[cond_true];rw[kna (by simp;omega)];rfl
 rw[if_neg hd,decide_eq_false hd];simp only[cond_false];by_cases hl:x.Server.Lost < 1099511627776
 .rw[decide_eq_true hl,qGa (by omega) (by omega),show min (x.Server.Lost+1) 1099511627776=x.Server.Lost+1 by omega];rfl
 rw[decide_eq_false hl,show min (x.Server.Lost+1) 1099511627776=x.Server.Lost by omega];rfl
theorem ZMa{x:Ses}{n:Nat}(h:SI x n)(c:UInt8):SI (wxa x c) n:=by
 obtain ⟨a1,a2,a3,a4,a5,a6,a7,a8,a9,a10,a11,a12,a13⟩:=h;unfold wxa;split
 .exact ⟨a1,a2,a3,by simp;omega,a5,a6,a7,a8,a9,a10,a11,a12,a13⟩
 exact ⟨a1,a2,a3,a4,a5,a6,⟨by show 0<=min _ _;omega,by show min _ _<=_;omega⟩,a8,a9,a10,a11,a12,a13⟩
theorem YUa{α:Type}{lim:Nat}(l:List α)(h:l.length<=lim):(nilE l.isEmpty (some ([]:List α)) ((app lim ([]:List α) l).bind fun v=>some v))=some l:=by
 rw[wyb]
 .rw[kna (by simpa using h)];rfl
 intro he;have:=List.isEmpty_iff.1 he;subst this;rw[kna (by simp)];rfl
theorem WVa(l:List zca)(h:l.length<=1048576):zpa l=some l:=YUa l (by omega)
theorem WWa(l:List UInt8)(h:l.length<=1048576):kxa l=some l:=YUa l (by omega)
theorem Vsa{c:Int}(h:0<=c/\c<=1000000):z8a (w64 (c+1))=some (Lib.decDigits (c+1).toNat)/\jJa (w64 (c+1))=some (Lib.decDigits (c+1).toNat):=by
 have e:w64 (c+1)=(((c+1).toNat:Nat):Int):=by rw[qGa (by omega) (by omega)];omega
 rw[e,Zsa _ (by omega),WGa _ (by omega)];simp
theorem ZNa{n:Nat}(h:n<=1000001):(Lib.decDigits n).length<=7:=Qha 6 n (by omega)
theorem yJb(x:Ses){n:Nat}(h:SI x n)(hn:n<=1000000):z3a x=some (zPb x):=by
 obtain ⟨f,hf,hc⟩:=WFa x.Server.Data (by have:=h.size;have:=h.data;omega);have h1:=h.reps;have h2:=h.mails;have h3:=h.name;have h4:=h.tos.1;have h5:=h.count;unfold z3a zPb;rw[hf];simp only[Option.bind_some];by_cases hl:0 < x.Server.Lost
 .rw[if_pos hl,decide_eq_true hl];simp only[cond_true];rw[Zwa _ _ _ (by omega)];rfl
 rw[if_neg hl,decide_eq_false hl];simp only[cond_false,kga,Option.bind_some];rw[hc];have e:(bif (!(ZWa x.Server.Data).2) then some true else some (x.Server.Count==1000000))=some (decide ((ZWa x.Server.Data).2=false∨x.Server.Count=1000000)):=by
  cases (ZWa x.Server.Data).2 with
  | false=>simp
  | true=>
   simp only[Bool.not_true,cond_false,Option.some.injEq];rw[Bool.eq_iff_iff];simp
 rw[e];simp only[Option.bind_some];by_cases hr:(ZWa x.Server.Data).2=false∨x.Server.Count=1000000
 .rw[if_pos hr,decide_eq_true hr];simp only[cond_true];rw[Zwa _ _ _ (by omega)];rfl
 rw[if_neg hr,decide_eq_false hr];simp only[cond_false];rw[joa (by simp;omega)];simp only[Option.bind_some];rw[(Vsa h5).1];simp only[Option.bind_some];have:=ZNa (n:=(x.Server.Count+1).toNat) (by omega);rw[joa (by simp;omega)];simp only[Option.bind_some];rw[WVa _ (by omega)];simp only[Option.bind_some];rw[kna (by simp;omega)];simp only[Option.bind_some];rw[qGa (by omega) (by omega),Zwa _ _ _ (by show x.replies.length<=_;omega)];rfl
theorem YVa(x:Ses){n:Nat}(h:SI x n)(hn:n<=1000000):jMa (cv x)=some (cv (zPb x)):=by
 have hf:=Yja x.Server.Data (by have:=h.size;have:=h.data;omega);have h1:=h.reps;have h2:=h.mails;have h3:=h.name;have h4:=h.tos.1;have h5:=h.count;unfold jMa zPb;rw[show (cv x).S=x.Server from rfl,show (cv x).Mails=x.mails from rfl,show (cv x).Replies=x.replies from rfl,hf];simp only[Option.bind_some];by_cases hl:0 < x.Server.Lost
 .rw[if_pos hl,decide_eq_true hl];simp only[cond_true];rw[show ([108,97,114,103,101]:Str)=qVb from rfl,yAa _ _ _ (by omega)];rfl
 rw[if_neg hl,decide_eq_false hl];simp only[cond_false];have e:(bif (!(ZWa x.Server.Data).2) then some true else some (x.Server.Count==1000000))=some (decide ((ZWa x.Server.Data).2=false∨x.Server.Count=1000000)):=by
  cases (ZWa x.Server.Data).2 with
  | false=>simp
  | true=>
   simp only[Bool.not_true,cond_false,Option.some.injEq];rw[Bool.eq_iff_iff];simp
 rw[e];simp only[Option.bind_some];by_cases hr:(ZWa x.Server.Data).2=false∨x.Server.Count=1000000
 .rw[if_pos hr,decide_eq_true hr];simp only[cond_true];rw[show ([114,101,102,117,115,101,100]:Str)=qWb from rfl,yAa _ _ _ (by omega)];rfl
 rw[if_neg hr,decide_eq_false hr];simp only[cond_false];rw[joa (by simp;omega)];simp only[Option.bind_some];rw[(Vsa h5).2];simp only[Option.bind_some];have:=ZNa (n:=(x.Server.Count+1).toNat) (by omega);rw[joa (by simp;omega)];simp only[Option.bind_some];rw[kna (by simp;omega)];simp only[Option.bind_some];rw[qGa (by omega) (by omega)];exact (congrArg (fun o=>o.bind fun v23=>(vma v23).bind fun v25=>some v25) (yAa ⟨{x.Server with Count:=x.Server.Count+1},x.replies,x.mails++ [⟨⟨x.Server.From,x.Server.To,idS x.Server⟩,(ZWa x.Server.Data).1⟩]⟩ 250 (idS x.Server) (by show x.replies.length<=_;omega))).trans rfl
theorem qXb:∀(l:List zca) (n:Int),qEa n=true->(∀r∈l,qEa r.Notify=true)->qEa (orL n l)=true
 | [],n,h,_=>h
 | r::l,n,h,hl=>qXb l (iOr n r.Notify) (yjb h (hl r (by simp))).2 fun x hx=>hl x (by simp[hx])
theorem Vta:∀(n:Nat) (l:List zca),(∀r∈l,vna r.Address=true/\qEa r.Notify=true)->(jra n l).length<=l.length/\∀r∈jra n l,vna r.Address=true/\qEa r.Notify=true
 | 0,l,_=>by simp[jra]
 | n+1,[],_=>by simp[jra]
 | n+1,r::t,h=>by
  obtain ⟨h1,h2⟩:=Vta n (t.filter fun x=> !kha r.Address x) fun x hx=>h x (by simp[(List.mem_filter.1 hx).1])
  have h3:=List.length_filter_le (fun x=> !kha r.Address x) t;unfold jra;refine ⟨by simp only[List.length_cons];omega,fun x hx=>?_⟩;rcases List.mem_cons.1 hx with rfl | hx
  .exact ⟨(h r (by simp)).1,qXb _ _ (h r (by simp)).2 fun y hy=>(h y (by simp[(List.mem_filter.1 hy).1])).2⟩
  exact h2 x hx
theorem zRb{l:List zca}(h:∀r∈l,vna r.Address=true/\qEa r.Notify=true):(v5a l).length<=l.length/\∀r∈v5a l,vna r.Address=true/\qEa r.Notify=true:=Vta l.length l h
theorem yKb{l:List zca}(h:l≠ []):v5a l≠ []:=by
 cases l with
 | nil=>exact absurd rfl h
 | cons r t=>rw[KJa];simp
theorem yLb{l:List zca}(h:∀r∈l,vna r.Address=true/\qEa r.Notify=true)(hl:l.length<=300):qNb l=(v5a l,⟨0,0⟩):=by
 unfold qNb;rw[if_neg (by omega)];have:zFa mq 0 l=none:=wta.2 fun i x hx=>by
  obtain ⟨h1,h2⟩:=h x (List.mem_of_getElem? hx);unfold mq;rw[h1,h2];rfl
 rw[this]
theorem vYb{l:List zca}(h:∀r∈l,vna r.Address=true/\qEa r.Notify=true)(hl:l.length<=1048576):qIb l:=⟨hl,fun r hr=>by have:=addr_len (h r hr).1;omega⟩
theorem qYb{s:Str}(h:(Kea s).2.Code=0):JVa (Kea s).1:=by
 unfold Kea at h ⊢;split at h
 .exact absurd h (by decide)
 rename_i h1;rw[if_neg h1];split at h
 .exact absurd h (by decide)
 rename_i h2;rw[if_neg h2];cases hc:v8a (k4b (wYa s)) ((wYa s).drop 1) with
 | none=>rw[hc]at h;exact absurd h (by decide)
 | some c=>
  rw[hc]at h;have h:(finP c).2.Code=0:=h;show JVa (finP c).1;unfold finP at h ⊢;by_cases hz:(cmdF c).Code=0
  .rw[hz];exact (yzb hz).1
  rw[bne_iff_ne.2 hz]at h;exact absurd h hz
theorem qFa{x:Ses}{n:Nat}(h:SI x n)(code:Int)(l:List Str):SI (sayS x code l) (n+1):=by
 obtain ⟨a1,a2,a3,a4,a5,a6,a7,a8,a9,a10,a11,a12,a13⟩:=h;exact ⟨a1,a2,a3,a4,a5,a6,a7,a8,a9,a10,a11,by show (x.replies++_).length<=_;simp;omega,by show x.mails.length<=_;omega⟩
theorem zSb{x:Ses}{n:Nat}(h:SI x n):SI (abS x) n:=by
 obtain ⟨a1,a2,a3,a4,a5,a6,a7,a8,a9,a10,a11,a12,a13⟩:=h;exact ⟨a1,a2,a3,by show ((0:Nat):Int)<=x.Server.Size;omega,a5,⟨by simp[abS],fun r hr=>by simp[abS]at hr⟩,⟨by show (0:Int)<=0;omega,by show (0:Int)<=_;omega⟩,a8,a9,fun _=>rfl,a11,a12,a13⟩
theorem SI.up{x:Ses}{n:Nat}(h:SI x n):SI x (n+1):=by
 obtain ⟨a1,a2,a3,a4,a5,a6,a7,a8,a9,a10,a11,a12,a13⟩:=h;exact ⟨a1,a2,a3,a4,a5,a6,a7,a8,a9,a10,a11,by omega,by omega⟩
theorem qZb{x:Ses}{n:Nat}(h:SI x n):SI (zPb x) (n+1):=by
 unfold zPb;refine zSb ?_;split
 .exact qFa h _ _
 split
 .exact qFa h _ _
 rename_i hr;obtain ⟨a1,a2,a3,a4,a5,a6,a7,a8,a9,a10,a11,a12,a13⟩:=h;have hc:x.Server.Count≠1000000:=fun e=>hr (.inr e)
 exact ⟨a1,a2,a3,a4,a5,a6,a7,⟨by show 0<=x.Server.Count+1;omega,by show x.Server.Count+1<=_;omega⟩,a9,a10,a11,by show (x.replies++_).length<=_;simp;omega,by show (x.mails++_).length<=_;simp;omega⟩
theorem zTb{x:Ses}{n:Nat}(h:SI x n)(hd:x.Server.Dots=0):SI ⟨{x.Server with Phase:=0,Last:=false,Ignore:=false},x.replies,x.mails⟩ n:=by
 obtain ⟨a1,a2,a3,a4,a5,a6,a7,a8,a9,a10,a11,a12,a13⟩:=h;exact ⟨a1,a2,a3,a4,a5,a6,a7,a8,fun e=>absurd (show (0:Int)=2 from e) (by decide),a10,fun _=>hd,a12,a13⟩
theorem q0b(x:Ses){n:Nat}(h:SI {x with Server:={x.Server with Phase:=0}} n)(hn:n<=1000000):kca x=some (Vra x)/\jNa (cv x)=some (cv (Vra x)):=by
 have hd:x.Server.Dots=0:=h.dots (by show (0:Int)≠1;decide);have h' :=zTb h hd;have hr:=h.reps;have hr:x.replies.length<=n:=hr;unfold kca jNa Vra;rw[show (cv x).S=x.Server from rfl,show (cv x).Mails=x.mails from rfl,show (cv x).Replies=x.replies from rfl];cases x.Server.Ignore with
 | true=>
  simp only[cond_true];rw[Zwa _ _ _ (by show x.replies.length<=_;omega)];exact ⟨rfl,(congrArg (fun o=>o.bind fun v=>some v) (yAa ⟨{x.Server with Phase:=0,Last:=false,Ignore:=false},x.replies,x.mails⟩ 503 Vqa (by show x.replies.length<=_;omega))).trans rfl⟩
 | false=>
  cases x.Server.Last with
  | true=>
   simp only[cond_true,cond_false];refine ⟨?_,?_⟩
   .exact (congrArg (fun o=>o.bind fun v=>some v) (yJb ⟨{x.Server with Phase:=0,Last:=false,Ignore:=false},x.replies,x.mails⟩ h' hn)).trans rfl
   exact (congrArg (fun o=>o.bind fun v=>some v) (YVa ⟨{x.Server with Phase:=0,Last:=false,Ignore:=false},x.replies,x.mails⟩ h' hn)).trans rfl
  | false=>
   simp only[cond_false];rw[Zwa _ _ _ (by show x.replies.length<=_;omega)];exact ⟨rfl,(congrArg (fun o=>o.bind fun v=>some v) (yAa ⟨{x.Server with Phase:=0,Last:=false,Ignore:=false},x.replies,x.mails⟩ 250 okW (by show x.replies.length<=_;omega))).trans rfl⟩
theorem WXa{x:Ses}{n:Nat}(h:SI x n){c:zka}(ok:JVa c)(hv:c.Verb=3):∀r∈x.Server.To++ [(⟨c.Address,c.Notify⟩:zca)],vna r.Address=true/\qEa r.Notify=true:=by
 intro r hr;rcases List.mem_append.1 hr with hr | hr
 .exact h.tos.2 r hr
 rw[List.mem_singleton]at hr;subst hr;refine ⟨ok.addr (.inl hv),?_⟩;have:=ok.note;show qEa c.Notify=true;unfold qEa;rw[decide_eq_true this.1,decide_eq_true this.2];rfl
theorem rcpt_eq(x:Ses){n:Nat}(h:SI x n)(hn:n<=1000000){c:zka}(ok:JVa c)(hv:c.Verb=3):kla x c=some (vUb x c):=by
 have hl:=WXa h ok hv;have h60:=h.tos.1;have hr:=h.reps;have hlen:(x.Server.To++ [(⟨c.Address,c.Notify⟩:zca)]).length<=61:=by simp;omega
 unfold kla vUb;rw[WVa _ (by omega)];simp only[Option.bind_some];rw[kna (by simp;omega)];simp only[Option.bind_some];rw[QXa _ (vYb hl (by omega)),yLb hl (by omega)];simp only[Option.bind_some];have e:(bif (!x.Server.Mailing) then some true else some x.Server.Chunked)=some (!x.Server.Mailing || x.Server.Chunked):=by cases x.Server.Mailing <;> rfl
 rw[e];simp only[Option.bind_some];cases !x.Server.Mailing || x.Server.Chunked with
 | true=>
  simp only[cond_true];rw[Zwa _ _ _ (by omega)];rfl
 | false=>
  simp only[cond_false];unfold addR;by_cases hm:x.Server.Many < ((v5a (x.Server.To++ [⟨c.Address,c.Notify⟩])).length:Int)
  .rw[if_pos hm,decide_eq_true hm];simp only[cond_true];rw[Zwa _ _ _ (by omega)];rfl
  rw[if_neg hm,decide_eq_false hm];simp only[cond_false];rw[Zwa _ _ _ (by show x.replies.length<=_;omega)];rfl
theorem rcptS_si{x:Ses}{n:Nat}(h:SI x n){c:zka}(ok:JVa c)(hv:c.Verb=3):SI (vUb x c) (n+1):=by
 have hl:=WXa h ok hv;obtain ⟨h1,h2⟩:=zRb hl;have h3:=yKb (l:=x.Server.To++ [(⟨c.Address,c.Notify⟩:zca)]) (by simp);unfold vUb;cases !x.Server.Mailing || x.Server.Chunked with
 | true=>exact qFa h _ _
 | false=>
  simp only[cond_false];split
  .exact qFa h _ _
  rename_i hm;refine qFa ?_ _ _;obtain ⟨a1,a2,a3,a4,a5,a6,a7,a8,a9,a10,a11,a12,a13⟩:=h;exact ⟨a1,a2,a3,a4,a5,⟨by show (addR x c).length<=60;omega,h2⟩,a7,a8,a9,fun e=>absurd e h3,a11,a12,a13⟩
theorem YWa{c:Int}(h:0<=c/\c<=1000000):z8a c=some (Lib.decDigits c.toNat)/\jJa c=some (Lib.decDigits c.toNat):=by
 obtain ⟨k,rfl⟩:∃k:Nat,c=(k:Int):=⟨c.toNat,by omega⟩;rw[Zsa _ (by omega),WGa _ (by omega),Int.toNat_natCast];exact ⟨rfl,rfl⟩
theorem vCa(x:Ses)(code:Int)(l:List Str)(h:x.replies.length<=1000000000):(zoa x code l).bind (fun v=>some v)=some (sayS x code l):=by rw[Zwa x code l h];rfl
theorem qTa(x:Ses)(code:Int)(l:Str)(h:x.replies.length<=1000000000):(vOa (cv x) code l).bind (fun v=>some v)=some (cv (sayS x code [l])):=by rw[yAa x code l h];rfl
theorem k1_eq(x:Ses)(h:x.replies.length<=1000000000):v2a (cv x)=some (cv (sayS x 250 [okW])):=qTa x 250 okW h
theorem zUb{x:Ses}{n:Nat}(h:SI x n)(hd:x.Server.Dots=0)(c:zka):SI ⟨{x.Server with Phase:=0,Left:=c.Size,Last:=c.Last,Ignore:=x.Server.To.isEmpty,Chunked:= !x.Server.To.isEmpty},x.replies,x.mails⟩ n:=by
 obtain ⟨a1,a2,a3,a4,a5,a6,a7,a8,a9,a10,a11,a12,a13⟩:=h;exact ⟨a1,a2,a3,a4,a5,a6,a7,a8,fun e=>absurd (show (0:Int)=2 from e) (by decide),fun e=>by
  have e:x.Server.To=[]:=e;show (!x.Server.To.isEmpty)=false;rw[e];rfl,fun _=>hd,a12,a13⟩
theorem Qna(l:List zca):((l.length:Int)==0)=l.isEmpty:=by cases l <;> simp;omega
theorem exec_eq(x:Ses){n:Nat}(h:SI x n)(hn:n<=1000000)(hp:x.Server.Phase=0)(hb:x.Server.Buffer=[]){c:zka}(ok:JVa c):kya x c=some (vVb x c)/\QSa (cv x) c=some (cv (vVb x c)):=by
 have hr:=h.reps;have hv:=ok.verb;have hname:=h.name;have hd:x.Server.Dots=0:=h.dots (by rw[hp];decide);unfold kya QSa vVb;rw[show (cv x).S=x.Server from rfl,show (cv x).Mails=x.mails from rfl,show (cv x).Replies=x.replies from rfl];by_cases h1:c.Verb=1
 .rw[if_pos h1,h1];simp only[show ((1:Int)==1)=true from rfl,cond_true,ab_eq,JYa,Option.bind_some];have hs:=YWa (c:=x.Server.Size) (by have:=h.size;omega);have hm:=YWa (c:=x.Server.Many) (by have:=h.many;omega);have l1:=ZNa (n:=x.Server.Size.toNat) (by have:=h.size;omega);have l2:=ZNa (n:=x.Server.Many.toNat) (by have:=h.many;omega);rw[show (abS x).Server.Size=x.Server.Size from rfl,show (abS x).Server.Many=x.Server.Many from rfl,show (cv (abS x)).S.Size=x.Server.Size from rfl,show (cv (abS x)).S.Many=x.Server.Many from rfl,hs.1,hs.2,hm.1,hm.2];simp only[Option.bind_some];rw[joa (show ([115,105,122,101,32]:Str).length+_<=_ by simp;omega),joa (show ([114,101,99,105,112,105,101,110,116,115,32]:Str).length+_<=_ by simp;omega)];simp only[Option.bind_some];refine ⟨vCa ⟨{(abS x).Server with Greeted:=true},x.replies,x.mails⟩ 250 _ (by show x.replies.length<=_;omega),?_⟩;rw[kna (by show x.replies.length+_<=_;simp;omega)];rfl
 rw[if_neg h1,beq_eq_false_iff_ne.2 h1];simp only[cond_false];by_cases h2:c.Verb=2
 .rw[if_pos h2,h2];simp only[show ((2:Int)==2)=true from rfl,cond_true];have e:(bif (!x.Server.Greeted) then some true else some x.Server.Mailing)=some (!x.Server.Greeted || x.Server.Mailing):=by cases x.Server.Greeted <;> rfl
  rw[e];simp only[Option.bind_some];cases !x.Server.Greeted || x.Server.Mailing with
  | true=>
   simp only[cond_true];exact ⟨vCa x 503 _ (by omega),qTa x 503 Vqa (by omega)⟩
  | false=>
   simp only[cond_false];by_cases hs:x.Server.Size < c.Size
   .rw[if_pos hs,decide_eq_true hs];simp only[cond_true];exact ⟨vCa x 552 _ (by omega),qTa x 552 qVb (by omega)⟩
   rw[if_neg hs,decide_eq_false hs];simp only[cond_false];exact ⟨vCa ⟨{x.Server with Mailing:=true,From:=c.Address},x.replies,x.mails⟩ 250 _ (by show x.replies.length<=_;omega),k1_eq ⟨{x.Server with Mailing:=true,From:=c.Address},x.replies,x.mails⟩ (by show x.replies.length<=_;omega)⟩
 rw[if_neg h2,beq_eq_false_iff_ne.2 h2];simp only[cond_false];by_cases h3:c.Verb=3
 .rw[if_pos h3,h3];simp only[show ((3:Int)==3)=true from rfl,cond_true];refine ⟨by rw[rcpt_eq x h hn ok h3];rfl,?_⟩;have hl:=WXa h ok h3;have h60:=h.tos.1;have e:(bif (!x.Server.Mailing) then some true else some x.Server.Chunked)=some (!x.Server.Mailing || x.Server.Chunked):=by cases x.Server.Mailing <;> rfl
  rw[e];unfold vUb;simp only[Option.bind_some];cases !x.Server.Mailing || x.Server.Chunked with
  | true=>
   simp only[cond_true];exact qTa x 503 Vqa (by omega)
  | false=>
   simp only[cond_false];rw[kna (by simp;omega)];simp only[Option.bind_some,List.nil_append];rw[kna (by simp;omega)];simp only[Option.bind_some];rw[kZb _ (by simp;omega) (fun r hr=>(hl r hr).2)];simp only[Option.bind_some];unfold addR;by_cases hm:x.Server.Many < ((v5a (x.Server.To++ [⟨c.Address,c.Notify⟩])).length:Int)
   .rw[if_pos hm,decide_eq_true hm];simp only[cond_true];exact qTa x 452 [109,97,110,121] (by omega)
   rw[if_neg hm,decide_eq_false hm];simp only[cond_false];exact k1_eq ⟨{x.Server with To:=v5a (x.Server.To++ [⟨c.Address,c.Notify⟩])},x.replies,x.mails⟩ (by show x.replies.length<=_;omega)
 rw[if_neg h3,beq_eq_false_iff_ne.2 h3];simp only[cond_false];by_cases h4:c.Verb=4
 .rw[if_pos h4,h4];simp only[show ((4:Int)==4)=true from rfl,cond_true];have e:(bif ((x.Server.To.length:Int)==0) then some true else some x.Server.Chunked)=some (x.Server.To.isEmpty || x.Server.Chunked):=by rw[Qna];cases x.Server.To.isEmpty <;> rfl
  rw[e];simp only[Option.bind_some];cases x.Server.To.isEmpty || x.Server.Chunked with
  | true=>
   simp only[cond_true];exact ⟨vCa x 503 _ (by omega),qTa x 503 Vqa (by omega)⟩
  | false=>
   simp only[cond_false];refine ⟨vCa ⟨{x.Server with Phase:=1},x.replies,x.mails⟩ 354 _ (by show x.replies.length<=_;omega),?_⟩;have:=qTa ⟨{x.Server with Phase:=1},x.replies,x.mails⟩ 354 [103,111,32,111,110] (by show x.replies.length<=_;omega);rw[<-this];have e0:cv ⟨{x.Server with Phase:=1},x.replies,x.mails⟩=⟨{x.Server with Phase:=1,Dots:=0},x.replies,x.mails⟩:=by unfold cv;rw[<-hd]
   rw[e0]
 rw[if_neg h4,beq_eq_false_iff_ne.2 h4];simp only[cond_false];by_cases h5:c.Verb=5
 .rw[if_pos h5,h5];simp only[show ((5:Int)==5)=true from rfl,cond_true];rw[Qna];have e:(bif !x.Server.To.isEmpty then some (⟨⟨x.Server.Name,x.Server.Size,x.Server.Many,2,x.Server.Greeted,x.Server.Mailing,x.Server.From,x.Server.To,x.Server.Buffer,x.Server.Data,x.Server.Lost,x.Server.Dots,true,c.Size,c.Last,x.Server.To.isEmpty,x.Server.Count⟩,x.replies,x.mails⟩:zda)
   else some ⟨⟨x.Server.Name,x.Server.Size,x.Server.Many,2,x.Server.Greeted,x.Server.Mailing,x.Server.From,x.Server.To,x.Server.Buffer,x.Server.Data,x.Server.Lost,x.Server.Dots,x.Server.Chunked,c.Size,c.Last,x.Server.To.isEmpty,x.Server.Count⟩,x.replies,x.mails⟩)=
   some (cv ⟨{x.Server with Phase:=2,Left:=c.Size,Last:=c.Last,Ignore:=x.Server.To.isEmpty,Chunked:= !x.Server.To.isEmpty},x.replies,x.mails⟩):=by
   cases he:x.Server.To.isEmpty with
   | true=>
    have hc:=h.chunk (List.isEmpty_iff.1 he);simp only[Bool.not_true,cond_false];rw[hc];rfl
   | false=>rfl
  rw[e];simp only[Option.bind_some];by_cases hz:c.Size=0
  .rw[if_pos hz,hz];simp only[show ((0:Int)==0)=true from rfl,cond_true];obtain ⟨e1,e2⟩:=q0b ⟨{x.Server with Phase:=2,Left:=c.Size,Last:=c.Last,Ignore:=x.Server.To.isEmpty,Chunked:= !x.Server.To.isEmpty},x.replies,x.mails⟩ (zUb h hd c) hn;rw[hz]at e1 e2;exact ⟨(congrArg (fun o=>o.bind fun v=>some v) e1).trans rfl,(congrArg (fun o=>o.bind fun v=>some v) e2).trans rfl⟩
  rw[if_neg hz,beq_eq_false_iff_ne.2 hz];exact ⟨rfl,rfl⟩
 rw[if_neg h5,beq_eq_false_iff_ne.2 h5];simp only[cond_false];by_cases h6:c.Verb=6
 .rw[if_pos h6,h6];simp only[show ((6:Int)==6)=true from rfl,cond_true,ab_eq,JYa,Option.bind_some];exact ⟨vCa (abS x) 250 _ (by show x.replies.length<=_;omega),k1_eq (abS x) (by show x.replies.length<=_;omega)⟩
 rw[if_neg h6,beq_eq_false_iff_ne.2 h6];simp only[cond_false];by_cases h8:c.Verb=8
 .rw[if_pos h8,h8];simp only[show ((8:Int)==7)=false from rfl,show ((8:Int)==8)=true from rfl,cond_true,cond_false,JYa,Option.bind_some];refine ⟨?_,?_⟩
  .rw[Zwa x 221 _ (by omega)];rfl
  have e0:(⟨{(abS x).Server with Phase:=3},x.replies,x.mails⟩:zda)=cv ⟨{(abS x).Server with Phase:=3,Buffer:=[]},x.replies,x.mails⟩:=by
   unfold cv abS;simp only[hb]
  exact (congrArg (fun s=>(vOa s 221 [98,121,101]).bind fun v=>some v) e0).trans (qTa ⟨{(abS x).Server with Phase:=3,Buffer:=[]},x.replies,x.mails⟩ 221 [98,121,101] (by show x.replies.length<=_;omega))
 rw[if_neg h8,beq_eq_false_iff_ne.2 h8];have h7:c.Verb=7:=by omega
 rw[h7];simp only[show ((7:Int)==7)=true from rfl,cond_true,cond_false];exact ⟨vCa x 250 _ (by omega),k1_eq x (by omega)⟩
theorem YXa{x:Ses}{n:Nat}(h:SI ⟨{x.Server with Phase:=0},x.replies,x.mails⟩ n)(hd:x.Server.Dots=0):SI (Vra x) (n+1):=by
 have h0:SI ⟨{x.Server with Phase:=0,Last:=false,Ignore:=false},x.replies,x.mails⟩ n:=zTb (x:=⟨{x.Server with Phase:=0},x.replies,x.mails⟩) h hd;unfold Vra;cases x.Server.Ignore with
 | true=>exact qFa h0 _ _
 | false=>
  cases x.Server.Last with
  | true=>exact qZb h0
  | false=>exact qFa h0 _ _
theorem execS_si{x:Ses}{n:Nat}(h:SI x n)(hp:x.Server.Phase=0){c:zka}(ok:JVa c):SI (vVb x c) (n+1):=by
 have hd:x.Server.Dots=0:=h.dots (by rw[hp];decide);have hv:=ok.verb;have hs:=ok.size;unfold vVb;by_cases h1:c.Verb=1
 .rw[if_pos h1];refine qFa ?_ _ _;obtain ⟨a1,a2,a3,a4,a5,a6,a7,a8,a9,a10,a11,a12,a13⟩:=zSb h;exact ⟨a1,a2,a3,a4,a5,a6,a7,a8,a9,a10,a11,a12,a13⟩
 rw[if_neg h1];by_cases h2:c.Verb=2
 .rw[if_pos h2];cases !x.Server.Greeted || x.Server.Mailing with
  | true=>exact qFa h _ _
  | false=>
   simp only[cond_false];split
   .exact qFa h _ _
   refine qFa ?_ _ _;obtain ⟨a1,a2,a3,a4,a5,a6,a7,a8,a9,a10,a11,a12,a13⟩:=h;exact ⟨a1,a2,a3,a4,a5,a6,a7,a8,a9,a10,a11,a12,a13⟩
 rw[if_neg h2];by_cases h3:c.Verb=3
 .rw[if_pos h3];exact rcptS_si h ok h3
 rw[if_neg h3];by_cases h4:c.Verb=4
 .rw[if_pos h4];cases x.Server.To.isEmpty || x.Server.Chunked with
  | true=>exact qFa h _ _
  | false=>
   refine qFa ?_ _ _;obtain ⟨a1,a2,a3,a4,a5,a6,a7,a8,a9,a10,a11,a12,a13⟩:=h;exact ⟨a1,a2,a3,a4,a5,a6,a7,a8,fun e=>absurd (show (1:Int)=2 from e) (by decide),a10,fun _=>hd,a12,a13⟩
 rw[if_neg h4];by_cases h5:c.Verb=5
 .rw[if_pos h5];by_cases hz:c.Size=0
  .rw[if_pos hz];have hq:=zUb h hd c;exact YXa (x:=⟨{x.Server with Phase:=2,Left:=c.Size,Last:=c.Last,Ignore:=x.Server.To.isEmpty,Chunked:= !x.Server.To.isEmpty},x.replies,x.mails⟩) hq hd
  rw[if_neg hz];have h' :=h.up;obtain ⟨a1,a2,a3,a4,a5,a6,a7,a8,a9,a10,a11,a12,a13⟩:=h';exact ⟨a1,a2,a3,a4,a5,a6,a7,a8,fun _=>⟨by show 1<=c.Size;omega,hs.2⟩,fun e=>by
   have e:x.Server.To=[]:=e;show (!x.Server.To.isEmpty)=false;rw[e];rfl,fun _=>hd,a12,a13⟩
 rw[if_neg h5];by_cases h6:c.Verb=6
 .rw[if_pos h6];exact qFa (zSb h) _ _
 rw[if_neg h6];by_cases h8:c.Verb=8
 .rw[if_pos h8];refine qFa ?_ _ _;obtain ⟨a1,a2,a3,a4,a5,a6,a7,a8,a9,a10,a11,a12,a13⟩:=zSb h;exact ⟨a1,a2,a3,a4,by show (0:Nat)<=4001;omega,a6,a7,a8,fun e=>absurd (show (3:Int)=2 from e) (by decide),a10,fun _=>hd,a12,a13⟩
 rw[if_neg h8];exact qFa h _ _
theorem suff_two(l:List UInt8)(c:UInt8): [13,10].isSuffixOf (l++ [c])=(decide (2<=(l++ [c]).length) && (((l++ [c])[(l++ [c]).length - 2]?).elim false (· ==13) && c==10)):=by
 rcases List.eq_nil_or_concat l with rfl | ⟨p,y,rfl⟩
 .have h1:([13,10]:List UInt8).isSuffixOf ([]++ [c])=false:=by
   rw[Bool.eq_false_iff];intro h;have:=(List.isSuffixOf_iff_suffix.1 h).length_le;simp at this
  rw[h1];rfl
 rw[List.concat_eq_append,Bool.eq_iff_iff,List.isSuffixOf_iff_suffix];have e1:(p++ [y]++ [c]).length - 2=p.length:=by simp
 rw[e1];have e2:(p++ [y]++ [c])[p.length]? =some y:=by simp
 rw[e2];simp only[Option.elim_some,Bool.and_eq_true,beq_iff_eq,decide_eq_true_eq];constructor
 .rintro ⟨t,ht⟩;rw[show p++ [y]++ [c]=p++ [y,c] by simp]at ht;have:=(List.append_inj' ht rfl).2;simp at this;exact ⟨by simp,this.1.symm,this.2.symm⟩
 rintro ⟨_,rfl,rfl⟩;exact ⟨p,by simp⟩
theorem k7b{x:Ses}{n:Nat}(h:SI x n){b:List UInt8}(hb:b.length<=4001):SI (bufS x b) n:=by
 obtain ⟨a1,a2,a3,a4,a5,a6,a7,a8,a9,a10,a11,a12,a13⟩:=h;exact ⟨a1,a2,a3,a4,hb,a6,a7,a8,a9,a10,a11,a12,a13⟩
theorem line_eq(x:Ses){n:Nat}(h:SI x n)(hn:n<=1000000)(hp:x.Server.Phase=0)(c:UInt8):k0a x c=some (vWb x c)/\KCa (cv x) c=some (cv (vWb x c)):=by
 have hr:=h.reps;have hb:=h.buf;have h0:=k7b h (b:=[]) (by simp);have hlen:(x.Server.Buffer++ [c]).length=x.Server.Buffer.length+1:=by simp
 unfold k0a KCa vWb;rw[show (cv x).S=x.Server from rfl,show (cv x).Mails=x.mails from rfl,show (cv x).Replies=x.replies from rfl];rw[kna (show x.Server.Buffer.length+ [c].length<=140737488355328 by simp;omega),kna (show ([]:List UInt8).length+x.Server.Buffer.length<=140737488355328 by simp;omega)];simp only[Option.bind_some,List.nil_append];rw[kna (show x.Server.Buffer.length+ [c].length<=140737488355328 by simp;omega)];simp only[Option.bind_some];unfold qsa;rw[yXa _ _ (by omega)];simp only[Option.bind_some];have eR:(bif decide ((2:Int)<=((x.Server.Buffer++ [c]).length:Int)) then (idx (x.Server.Buffer++ [c]) (w64 (((x.Server.Buffer++ [c]).length:Int) - 2))).bind fun v7=>(bif ((v7.toNat:Int)==13) then (idx (x.Server.Buffer++ [c]) (w64 (((x.Server.Buffer++ [c]).length:Int) - 1))).bind fun v10=>some ((v10.toNat:Int)==10) else some false) else some false)=some ([13,10].isSuffixOf (x.Server.Buffer++ [c])):=by
  rw[suff_two];by_cases h2:2<=(x.Server.Buffer++ [c]).length
  .rw[decide_eq_true (show (2:Int)<=((x.Server.Buffer++ [c]).length:Int) by omega),decide_eq_true h2];rw[show (((x.Server.Buffer++ [c]).length:Int) - 2)=(((x.Server.Buffer++ [c]).length - 2:Nat):Int) by omega,j3a _ (by omega),show (((x.Server.Buffer++ [c]).length:Int) - 1)=((x.Server.Buffer.length:Nat):Int) by omega,j3a _ (by omega),kOb x.Server.Buffer c [],wsa,List.getElem?_eq_getElem (by omega)];simp only[cond_true,Option.bind_some,Option.elim_some,Bool.true_and];rw[qNa _ 13 (by decide),qNa _ 10 (by decide)];cases (x.Server.Buffer++ [c])[(x.Server.Buffer++ [c]).length - 2]==13 <;> rfl
  rw[decide_eq_false (show ¬(2:Int)<=((x.Server.Buffer++ [c]).length:Int) by omega),decide_eq_false h2];rfl
 rw[eR];simp only[Option.bind_some];cases hs: [13,10].isSuffixOf (x.Server.Buffer++ [c]) with
 | true=>
  have hl2:=(List.isSuffixOf_iff_suffix.1 hs).length_le;simp only[List.length_cons,List.length_nil]at hl2;have ecut:w64 (((x.Server.Buffer++ [c]).length:Int) - (([13,10]:List UInt8).length:Int))=(((x.Server.Buffer++ [c]).length - 2:Nat):Int):=by
   rw[show (((x.Server.Buffer++ [c]).length:Int) - (([13,10]:List UInt8).length:Int))=(((x.Server.Buffer++ [c]).length - 2:Nat):Int) by simp only[List.length_cons,List.length_nil];omega,j3a _ (by omega)]
  have ecut2:w64 (((x.Server.Buffer++ [c]).length:Int) - 2)=(((x.Server.Buffer++ [c]).length - 2:Nat):Int):=by
   rw[show (((x.Server.Buffer++ [c]).length:Int) - 2)=(((x.Server.Buffer++ [c]).length - 2:Nat):Int) by omega,j3a _ (by omega)]
  simp only[Bool.not_true,cond_false,cond_true,if_true];rw[ecut,ecut2,jZa (by omega)];simp only[Option.bind_some,Bool.not_true,cond_false];rw[VEa _ (by simp;omega),Yka _ (by simp;omega)];simp only[Option.bind_some];generalize hR:Kea ((x.Server.Buffer++ [c]).take ((x.Server.Buffer++ [c]).length - 2))=r;by_cases h18:r.2.Code=18
  .rw[if_pos h18,h18];simp only[show ((18:Int)==0)=false from rfl,show ((18:Int)==18)=true from rfl,cond_true,cond_false];exact ⟨vCa (bufS x []) 500 _ (by show x.replies.length<=_;omega),qTa (bufS x []) 500 Qma (by show x.replies.length<=_;omega)⟩
  rw[if_neg h18];by_cases hz:r.2.Code=0
  .have ok:JVa r.1:=by rw[<-hR]at hz ⊢;exact qYb hz
   obtain ⟨e1,e2⟩:=exec_eq (bufS x []) h0 hn hp rfl ok;rw[if_pos hz,hz];simp only[show ((0:Int)==0)=true from rfl,show ((0:Int)==18)=false from rfl,show ((0:Int) !=0)=false from rfl,cond_true,cond_false];exact ⟨(congrArg (fun o=>o.bind fun v=>some v) e1).trans rfl,(congrArg (fun o=>o.bind fun v=>some v) e2).trans rfl⟩
  rw[if_neg hz,beq_eq_false_iff_ne.2 hz,beq_eq_false_iff_ne.2 h18,bne_iff_ne.2 hz];simp only[cond_true,cond_false];exact ⟨vCa (bufS x []) 501 _ (by show x.replies.length<=_;omega),qTa (bufS x []) 501 yHb (by show x.replies.length<=_;omega)⟩
 | false=>
  simp only[Bool.not_false,cond_true,cond_false,Bool.false_eq_true,if_false,Option.bind_some];by_cases h4:(x.Server.Buffer++ [c]).length=4002
  .rw[if_pos h4,h4];simp only[show (((4002:Nat):Int)==4002)=true from rfl,cond_true];refine ⟨?_,?_⟩
   .exact (congrArg (fun o=>(o.bind fun (v8:zea)=>(kOa v8).bind fun v10=>some v10).bind fun j=>some j) (Zwa (bufS x (x.Server.Buffer++ [c])) 500 [Qma] (by show x.replies.length<=_;omega))).trans rfl
   exact (congrArg (fun o=>o.bind fun v=>some v) (yAa ⟨{(abS x).Server with Phase:=3,Buffer:=[]},x.replies,x.mails⟩ 500 Qma (by show x.replies.length<=_;omega))).trans rfl
  rw[if_neg h4,beq_eq_false_iff_ne.2 (show ((x.Server.Buffer++ [c]).length:Int)≠4002 by omega)];exact ⟨rfl,rfl⟩
theorem lineS_si{x:Ses}{n:Nat}(h:SI x n)(hp:x.Server.Phase=0)(c:UInt8):SI (vWb x c) (n+1):=by
 have hb:=h.buf;have h0:=k7b h (b:=[]) (by simp);have hd:x.Server.Dots=0:=h.dots (by rw[hp];decide);have hlen:(x.Server.Buffer++ [c]).length=x.Server.Buffer.length+1:=by simp
 unfold vWb;split
 .generalize hR:Kea ((x.Server.Buffer++ [c]).take ((x.Server.Buffer++ [c]).length - 2))=r;dsimp only;split
  .exact qFa h0 _ _
  split
  .rename_i hz;exact execS_si h0 hp (by rw[<-hR]at hz ⊢;exact qYb hz)
  exact qFa h0 _ _
 split
 .refine qFa ?_ _ _;obtain ⟨a1,a2,a3,a4,a5,a6,a7,a8,a9,a10,a11,a12,a13⟩:=zSb h;exact ⟨a1,a2,a3,a4,by show (0:Nat)<=4001;omega,a6,a7,a8,fun e=>absurd (show (3:Int)=2 from e) (by decide),a10,fun _=>hd,a12,a13⟩
 rename_i h4;exact (k7b h (by omega)).up
theorem wya(x:Ses)(c:UInt8):(wxa x c).Server.Dots=x.Server.Dots/\(wxa x c).Server.Phase=x.Server.Phase:=by unfold wxa;split <;> exact ⟨rfl,rfl⟩
theorem VXa{x:Ses}{n:Nat}(h:SI x n)(hp:x.Server.Phase=1)(d:Int):SI (JXa x d) n:=by
 obtain ⟨a1,a2,a3,a4,a5,a6,a7,a8,a9,a10,a11,a12,a13⟩:=h;exact ⟨a1,a2,a3,a4,a5,a6,a7,a8,a9,a10,fun e=>absurd hp e,a12,a13⟩
theorem WYa(p q:Prop)[Decidable p][Decidable q]:(bif decide p then some (decide q) else some false)=some (decide (p/\q)):=by
 by_cases hp:p <;> by_cases hq:q <;> simp[hp,hq]
theorem deq(a b:Int):(a==b)=decide (a=b):=by rw[Bool.eq_iff_iff];simp
theorem yMb(x:Ses){n:Nat}(h:SI x n)(c:UInt8):kda c x=some (JXa (wxa x c) (if c=13 then 4 else if c=10/\x.Server.Dots=4 then 0 else 3)):=by
 unfold kda;rw[yIb x c h];simp only[Option.bind_some];rw[(wya x c).1,qNa c 13 (by decide),qNa c 10 (by decide),y8a,y8a,deq,WYa];simp only[Option.bind_some];by_cases h13:c=13
 .rw[if_pos h13,decide_eq_true h13];rfl
 rw[if_neg h13,decide_eq_false h13];by_cases h10:c=10/\x.Server.Dots=4
 .rw[if_pos h10,decide_eq_true h10];rfl
 rw[if_neg h10,decide_eq_false h10];rfl
theorem JZa{x:Ses}{n:Nat}(h:SI x n):SI ⟨{x.Server with Phase:=0,Dots:=0},x.replies,x.mails⟩ n:=by
 obtain ⟨a1,a2,a3,a4,a5,a6,a7,a8,a9,a10,a11,a12,a13⟩:=h;exact ⟨a1,a2,a3,a4,a5,a6,a7,a8,fun e=>absurd (show (0:Int)=2 from e) (by decide),a10,fun _=>rfl,a12,a13⟩
theorem data_eq(x:Ses){n:Nat}(h:SI x n)(hn:n<=1000000)(c:UInt8):k1a x c=some (vXb x c)/\KEa (cv x) c=some (cv (vXb x c)):=by
 unfold k1a KEa vXb;rw[show (cv x).S=x.Server from rfl,show (cv x).Mails=x.mails from rfl,show (cv x).Replies=x.replies from rfl];rw[qNa c 46 (by decide),qNa c 13 (by decide),qNa c 10 (by decide),y8a,y8a,y8a,deq,deq,deq,deq,WYa,WYa,WYa,WYa];simp only[Option.bind_some];by_cases h0:x.Server.Dots=0/\c=46
 .rw[if_pos h0,decide_eq_true h0];exact ⟨rfl,rfl⟩
 rw[if_neg h0,decide_eq_false h0];simp only[cond_false];by_cases h1:x.Server.Dots=1/\c=13
 .rw[if_pos h1,decide_eq_true h1];exact ⟨rfl,rfl⟩
 rw[if_neg h1,decide_eq_false h1];simp only[cond_false];by_cases h2:x.Server.Dots=2/\c=10
 .rw[if_pos h2,decide_eq_true h2];simp only[cond_true];exact ⟨(congrArg (fun o=>o.bind fun v=>some v) (yJb _ (JZa h) hn)).trans rfl,(congrArg (fun o=>o.bind fun v=>some v) (YVa _ (JZa h) hn)).trans rfl⟩
 rw[if_neg h2,decide_eq_false h2];simp only[cond_false];have key:∀y:Ses,SI y n->y.Server.Dots=x.Server.Dots->((KDa (cv y) c).bind fun v16=>((bif decide (c=13) then some (cv (JXa ⟨v16.S,v16.Replies,v16.Mails⟩ 4)) else some (cv (JXa ⟨v16.S,v16.Replies,v16.Mails⟩ 3))):Option zda).bind fun j18=>((bif decide (x.Server.Dots=4/\c=10) then some (cv (JXa ⟨j18.S,j18.Replies,j18.Mails⟩ 0)) else some j18):Option zda).bind fun j20=>some j20)=some (cv (JXa (wxa y c) (if c=13 then 4 else if c=10/\x.Server.Dots=4 then 0 else 3))):=by
  intro y hy hd;rw[k6b y c hy];simp only[Option.bind_some];by_cases h13:c=13
  .rw[if_pos h13,decide_eq_true h13];simp only[cond_true,Option.bind_some];rw[decide_eq_false (show ¬(x.Server.Dots=4/\c=10) by rw[h13];simp)];rfl
  rw[if_neg h13,decide_eq_false h13];simp only[cond_false,Option.bind_some];by_cases h10:x.Server.Dots=4/\c=10
  .rw[decide_eq_true h10,if_pos ⟨h10.2,h10.1⟩];rfl
  rw[decide_eq_false h10,if_neg (fun e=>h10 ⟨e.2,e.1⟩)];rfl
 by_cases hd2:x.Server.Dots=2
 .rw[if_pos hd2,decide_eq_true hd2];simp only[cond_true];have hk:=ZMa h 13;have hkd:=(wya x 13).1;rw[yIb x 13 h,k6b x 13 h];simp only[Option.bind_some];refine ⟨?_,key (wxa x 13) hk hkd⟩;rw[yMb _ hk c,hkd]
 rw[if_neg hd2,decide_eq_false hd2];simp only[cond_false,Option.bind_some];refine ⟨?_,key x h rfl⟩;rw[yMb x h c]
theorem dataS_si{x:Ses}{n:Nat}(h:SI x n)(hp:x.Server.Phase=1)(c:UInt8):SI (vXb x c) (n+1):=by
 unfold vXb;split
 .exact (VXa h hp _).up
 split
 .exact (VXa h hp _).up
 split
 .exact qZb (JZa h)
 split
 .exact (VXa (ZMa (ZMa h 13) c) (by rw[(wya _ _).2,(wya _ _).2];exact hp) _).up
 exact (VXa (ZMa h c) (by rw[(wya _ _).2];exact hp) _).up
def k8b(x:Ses):Ses:=⟨{x.Server with Left:=x.Server.Left - 1},x.replies,x.mails⟩
theorem q1b{x:Ses}{n:Nat}(h:SI x n)(hp:x.Server.Phase=2):SI ⟨{(k8b x).Server with Phase:=0},x.replies,x.mails⟩ n/\((k8b x).Server.Left≠0->SI (k8b x) n):=by
 have hl:=h.left hp;have hd:x.Server.Dots=0:=h.dots (by rw[hp];decide);obtain ⟨a1,a2,a3,a4,a5,a6,a7,a8,a9,a10,a11,a12,a13⟩:=h;refine ⟨⟨a1,a2,a3,a4,a5,a6,a7,a8,fun e=>absurd (show (0:Int)=2 from e) (by decide),a10,fun _=>hd,a12,a13⟩,fun hz=>⟨a1,a2,a3,a4,a5,a6,a7,a8,fun _=>?_,a10,fun _=>hd,a12,a13⟩⟩;have hz:x.Server.Left - 1≠0:=hz;exact ⟨by show 1<=x.Server.Left - 1;omega,by show x.Server.Left - 1<=_;omega⟩
theorem q2b{x:Ses}{n:Nat}(h:SI x n)(c:UInt8):SI (zQb x c) (n+1):=by
 unfold zQb;split
 .rename_i hp;exact lineS_si h hp c
 split
 .rename_i hp;exact dataS_si h hp c
 split
 .rename_i hp;have hy:SI (bif x.Server.Ignore then x else wxa x c) n/\(bif x.Server.Ignore then x else wxa x c).Server.Phase=2:=by
   cases x.Server.Ignore with
   | true=>exact ⟨h,hp⟩
   | false=>exact ⟨ZMa h c,by rw[show (bif false then x else wxa x c)=wxa x c from rfl,(wya x c).2];exact hp⟩
  generalize (bif x.Server.Ignore then x else wxa x c)=y at hy;obtain ⟨hy,hyp⟩:=hy;obtain ⟨h1,h2⟩:=q1b hy hyp;show SI (if (k8b y).Server.Left=0 then Vra (k8b y) else k8b y) (n+1);split
  .exact YXa h1 (hy.dots (by rw[hyp];decide))
  rename_i hz;exact (h2 hz).up
 exact h.up
theorem yNb(a1:List UInt8)(ha:a1.length<=1000000)(i:Nat)(c:UInt8)(x:Ses)(hc:a1[i]? =some c)(h:SI x i):qda a1 ((i:Int),x)=some (.cont (((i+1:Nat):Int),zQb x c))/\wWa a1 ((i:Int),cv x)=some (.cont (((i+1:Nat):Int),cv (zQb x c))):=by
 have hi:=zXa hc;unfold qda wWa zQb;dsimp only;rw[kza hc,zMa hc,show (cv x).S=x.Server from rfl];simp only[cond_true,Option.bind_some];rw[sc i (by omega)];by_cases h0:x.Server.Phase=0
 .obtain ⟨e1,e2⟩:=line_eq x h (by omega) h0 c;rw[if_pos h0,h0,e1,e2];exact ⟨rfl,rfl⟩
 rw[if_neg h0,beq_eq_false_iff_ne.2 h0];simp only[cond_false];by_cases h1:x.Server.Phase=1
 .obtain ⟨e1,e2⟩:=data_eq x h (by omega) c;rw[if_pos h1,h1,e1,e2];exact ⟨rfl,rfl⟩
 rw[if_neg h1,beq_eq_false_iff_ne.2 h1];simp only[cond_false];by_cases h2:x.Server.Phase=2
 .rw[if_pos h2,h2];simp only[show ((2:Int)==2)=true from rfl,cond_true];have e1:(bif !x.Server.Ignore then (z9a x c).bind fun v36=>some v36 else some x)=some (bif x.Server.Ignore then x else wxa x c):=by
   rw[yIb x c h];cases x.Server.Ignore <;> rfl
  have e2:(bif !x.Server.Ignore then (KDa (cv x) c).bind fun v23=>some v23 else some (cv x))=some (cv (bif x.Server.Ignore then x else wxa x c)):=by
   rw[k6b x c h];cases x.Server.Ignore <;> rfl
  rw[e1,e2];simp only[Option.bind_some];have hy:SI (bif x.Server.Ignore then x else wxa x c) i/\(bif x.Server.Ignore then x else wxa x c).Server.Phase=2:=by
   cases x.Server.Ignore with
   | true=>exact ⟨h,h2⟩
   | false=>exact ⟨ZMa h c,by rw[show (bif false then x else wxa x c)=wxa x c from rfl,(wya x c).2];exact h2⟩
  generalize (bif x.Server.Ignore then x else wxa x c)=y at hy;obtain ⟨hy,hyp⟩:=hy;obtain ⟨q1,q2⟩:=q1b hy hyp;have hl:=hy.left hyp;rw[show (cv y).S=y.Server from rfl,show (cv y).Mails=y.mails from rfl,show (cv y).Replies=y.replies from rfl,qGa (n:=y.Server.Left - 1) (by omega) (by omega)];by_cases hz:y.Server.Left - 1=0
  .obtain ⟨c1,c2⟩:=q0b (k8b y) q1 (by omega);rw[if_pos hz];have hb:(y.Server.Left - 1==0)=true:=by rw[hz];rfl
   rw[hb];exact ⟨(congrArg (fun (o:Option zea)=>(o.bind fun v39=>some v39).bind fun (j24:zea)=>(some (Step.cont (((i+1:Nat):Int),j24)):Option (Step (Int × zea) zea))) c1).trans rfl,(congrArg (fun (o:Option zda)=>(o.bind fun v39=>some v39).bind fun (j24:zda)=>(some (Step.cont (((i+1:Nat):Int),j24)):Option (Step (Int × zda) zda))) c2).trans rfl⟩
  rw[if_neg hz,beq_eq_false_iff_ne.2 hz];exact ⟨rfl,rfl⟩
 rw[if_neg h2,beq_eq_false_iff_ne.2 h2];exact ⟨rfl,rfl⟩
def k9b(x:Ses)(b:List UInt8):Ses:=b.foldl zQb x
theorem yOb(a1:List UInt8)(ha:a1.length<=1000000)(x:Ses)(h:SI x 0):iter (qda a1) ((0,x))=some (k9b x a1)/\iter (wWa a1) ((0,cv x))=some (cv (k9b x a1))/\SI (k9b x a1) a1.length:=by
 obtain ⟨h1,h2⟩:=jpa a1 (fun i (s:Ses)=>(i,s)) zQb id (fun i s=>SI s i) (body:=qda a1) (fun s _=>by unfold qda;rw[zSa];rfl) (fun i c s hc hs=>⟨(yNb a1 ha i c s hc hs).1,q2b hs c⟩) x h;obtain ⟨h3,_⟩:=jpa a1 (fun i (s:Ses)=>(i,cv s)) zQb cv (fun i s=>SI s i) (body:=wWa a1) (fun s _=>by unfold wWa;rw[zSa];rfl) (fun i c s hc hs=>⟨(yNb a1 ha i c s hc hs).2,q2b hs c⟩) x h;exact ⟨h1,h3,h2⟩
def fl:List UInt8->List UInt8->List Str × List UInt8
 | cur,[]=>([],cur)
 | cur,[c]=>([],cur++ [c])
 | cur,c::d::r=>if c=13/\d=10 then (cur::(fl [] r).1,(fl [] r).2) else fl (cur++ [c]) (d::r)
def ZXa(name:Str)(size many:Int):zua:=if KGa name=false∨40 < name.length then ⟨10, -20⟩ else if size < 1∨12000 < size then ⟨3, -21⟩ else if many < 1∨60 < many then ⟨3, -22⟩ else ⟨0,0⟩
theorem q3b(p q:Prop)[Decidable p][Decidable q]:(bif decide p then some true else some (decide q))=some (decide (p∨q)):=by
 by_cases hp:p <;> by_cases hq:q <;> simp[hp,hq]
theorem yPb(b:Bool):(!b)=decide (b=false):=by cases b <;> rfl
theorem len40(s:Str):decide ((40:Int) < (s.length:Int))=decide (40 < s.length):=by rw[Bool.eq_iff_iff];simp;omega
theorem yQb(name:Str)(size many:Int)(h:name.length<=1048576):kWa name size many=some (ZXa name size many):=by
 unfold kWa ZXa;rw[Qba _ h];simp only[Option.bind_some];rw[yPb,len40,q3b,q3b,q3b];simp only[Option.bind_some,kpa,qaa];by_cases h1:KGa name=false∨40 < name.length
 .rw[if_pos h1,decide_eq_true h1];rfl
 rw[if_neg h1,decide_eq_false h1];by_cases h2:size < 1∨12000 < size
 .rw[if_pos h2,decide_eq_true h2];rfl
 rw[if_neg h2,decide_eq_false h2];by_cases h3:many < 1∨60 < many
 .rw[if_pos h3,decide_eq_true h3];rfl
 rw[if_neg h3,decide_eq_false h3];rfl
theorem in_not(a b c:Int):(!(decide (b<=a) && decide (a<=c)))=decide (a < b∨c < a):=by
 rw[Bool.eq_iff_iff];simp only[Bool.not_eq_true',Bool.and_eq_false_iff,decide_eq_false_iff_not,decide_eq_true_eq];omega
theorem yRb(s:zha)(h:s.Name.length<=1048576):vAa s=some (ZXa s.Name s.Size s.Many):=by
 unfold vAa ZXa;rw[Wsa _ h];simp only[Option.bind_some];rw[yPb,len40,q3b];simp only[Option.bind_some,vJa,KFa,in_not];by_cases h1:KGa s.Name=false∨40 < s.Name.length
 .rw[if_pos h1,decide_eq_true h1];rfl
 rw[if_neg h1,decide_eq_false h1];by_cases h2:s.Size < 1∨12000 < s.Size
 .rw[if_pos h2,decide_eq_true h2];rfl
 rw[if_neg h2,decide_eq_false h2];by_cases h3:s.Many < 1∨60 < s.Many
 .rw[if_pos h3,decide_eq_true h3];rfl
 rw[if_neg h3,decide_eq_false h3];rfl
theorem ySb(a b c:Bool):(bif a then some b else some c)=some (bif a then b else c):=by cases a <;> rfl
theorem yTb(a b:Bool):(bif a then b else false)=(a && b):=by cases a <;> rfl
theorem cnd_or(a b:Bool):(bif a then true else b)=(a || b):=by cases a <;> rfl
theorem q4b(a b:Bool):(bif a then false else b)=(!a && b):=by cases a <;> rfl
theorem YYa(a b c:Int):kSa a b c=some (decide (b<=a) && decide (a<=c)):=by
 unfold kSa;cases decide (b<=a) <;> rfl
def crlfB(b:List UInt8):Bool:=decide (Lib.index b [13,10]≠ -1)
theorem qab(b:List UInt8)(h:b.length<=1048576):vza b [13,10]=some (crlfB b):=by
 unfold vza jEa crlfB;rw[if_pos ⟨by omega,rfl⟩];simp only[Option.bind_some,Option.some.injEq];rw[Bool.eq_iff_iff];simp
def okB(s:zha):Bool:=
 !((s.From !=([]:Str) && !vna s.From) || decide (s.Many < (s.To.length:Int)) || (recF s.To).Code !=0) &&
 !((!s.Greeted && s.Mailing) || (!s.Mailing && (s.From !=([]:Str) || !s.To.isEmpty)) || (s.Chunked && s.To.isEmpty)) &&
 !(decide (s.Size < (s.Data.length:Int)) || decide (s.Lost < 0∨1099511627776 < s.Lost) || decide (s.Count < 0∨1000000 < s.Count)) &&
 !((decide (0 < (s.Data.length:Int)) || decide (0 < s.Lost)) && (!s.Chunked && s.Phase !=1)) &&
 (
  bif s.Phase==0 then decide ((s.Buffer.length:Int) < 4002) && (!crlfB s.Buffer && (s.Dots==0 && (s.Left==0 && (!s.Last && !s.Ignore))))
  else bif s.Phase==1 then !s.To.isEmpty && (!s.Chunked && (s.Buffer.isEmpty && (decide (0<=s.Dots) && decide (s.Dots<=4) && (s.Left==0 && (!s.Last && !s.Ignore)))))
  else bif s.Phase==2 then (s.Ignore==s.To.isEmpty) && ((s.Ignore== !s.Chunked) && (s.Buffer.isEmpty && (s.Dots==0 && (decide (1<=s.Left) && decide (s.Left<=1000000)))))
  else bif s.Phase==3 then !s.Mailing && (s.Buffer.isEmpty && (s.Dots==0 && (s.Left==0 && (!s.Last && !s.Ignore)))) else false)
structure q5b (s:zha):Prop where
 frm:s.From.length<=1048576
 tos:qIb s.To
 buf:s.Buffer.length<=1048576
 data:s.Data.length<=1048576
 name:s.Name.length<=1048576
theorem yUb(l:List zca):decide ((0:Int) < (l.length:Int))= !l.isEmpty:=by cases l <;> simp
theorem len_posB(l:List UInt8):decide ((0:Int) < (l.length:Int))= !l.isEmpty:=by cases l <;> simp
theorem YZa(l:List UInt8):((l.length:Int)==0)=l.isEmpty:=by cases l <;> simp;omega
theorem phase_eq(s:zha)(h:q5b s):wVa s=some (bif s.Phase==0 then decide ((s.Buffer.length:Int) < 4002) && (!crlfB s.Buffer && (s.Dots==0 && (s.Left==0 && (!s.Last && !s.Ignore))))
 else bif s.Phase==1 then !s.To.isEmpty && (!s.Chunked && (s.Buffer.isEmpty && (decide (0<=s.Dots) && decide (s.Dots<=4) && (s.Left==0 && (!s.Last && !s.Ignore)))))
 else bif s.Phase==2 then (s.Ignore==s.To.isEmpty) && ((s.Ignore== !s.Chunked) && (s.Buffer.isEmpty && (s.Dots==0 && (decide (1<=s.Left) && decide (s.Left<=1000000)))))
 else bif s.Phase==3 then !s.Mailing && (s.Buffer.isEmpty && (s.Dots==0 && (s.Left==0 && (!s.Last && !s.Ignore)))) else false):=by
 unfold wVa;rw[qab _ h.buf];simp only[Option.bind_some,YYa,yUb,Qna,YZa,ySb,yTb,cnd_or,q4b]
theorem yVb(s:zha)(h:q5b s):v1a s=some (okB s):=by
 have h1:=h.frm;unfold v1a okB;rw[qDa _ (by omega),j4a _ h.tos,phase_eq s h];simp only[Option.bind_some,YYa,kga,ySb,yTb,cnd_or,q4b,yUb,Qna,YZa,len_posB,in_not,Option.some.injEq];cases s.From !=([]:Str) <;> cases vna s.From <;> cases s.Greeted <;> cases s.Mailing <;> cases s.Chunked <;> cases s.To.isEmpty <;> cases s.Data.isEmpty <;> simp[Bool.and_assoc]
theorem recF_inv{l:List zca}(h:(recF l).Code=0):(∀r∈l,vna r.Address=true/\qEa r.Notify=true)/\(l.map (·.Address)).Nodup:=by
 have hz:zFa (recQ l) 0 l=none:=by
  unfold recF at h;cases hf:zFa (recQ l) 0 l with
  | none=>rfl
  | some f=>
   exfalso;rw[hf]at h;obtain ⟨i,x,hx,hq⟩:=jOa hf;unfold recQ at hq;split at hq
   .cases hq;simp at h
   split at hq
   .cases hq;simp at h
   split at hq
   .cases hq;simp at h
   cases hq
 rw[wta]at hz;have key:∀(i:Nat) r,l[i]? =some r->vna r.Address=true/\qEa r.Notify=true/\(l.take i).any (fun x=>x.Address==r.Address)=false:=by
  intro i r hr;have:=hz i r hr;rw[Nat.zero_add]at this;unfold recQ at this;cases h1:vna r.Address with
  | false=>rw[h1]at this;simp at this
  | true=>
   cases h2:qEa r.Notify with
   | false=>rw[h1,h2]at this;simp at this
   | true=>
    cases h3:(l.take i).any (fun x=>x.Address==r.Address) with
    | true=>rw[h1,h2,h3]at this;simp at this
    | false=>exact ⟨rfl,rfl,rfl⟩
 refine ⟨fun r hr=>?_,?_⟩
 .obtain ⟨i,hi⟩:=List.getElem?_of_mem hr;exact ⟨(key i r hi).1,(key i r hi).2.1⟩
 rw[List.Nodup,List.pairwise_iff_getElem];intro i j hi hj hij;simp only[List.length_map]at hi hj;simp only[List.getElem_map];have h3:=(key j l[j] (List.getElem?_eq_getElem hj)).2.2;rw[List.any_eq_false]at h3;have:=h3 l[i] (List.mem_of_getElem? (i:=i) (by rw[List.getElem?_take_of_lt hij];exact List.getElem?_eq_getElem hi));simpa using this
def yWb:zha:=⟨[],0,0,0,false,false,[],[],[],[],0,0,false,0,false,false,0⟩
def srvF(s:zha):zua:=if (ZXa s.Name s.Size s.Many).Code≠0 then ZXa s.Name s.Size s.Many else if okB s=false then ⟨5, -23⟩ else ⟨0,0⟩
def feedF(s:zha)(b:List UInt8):zha × List zsa × List zEa × zua:=
 if (srvF s).Code≠0 then (yWb,[],[],srvF s) else if 40000 < b.length then (yWb,[],[],⟨1, -1⟩) else ((k9b ⟨s,[],[]⟩ b).Server,(k9b ⟨s,[],[]⟩ b).replies,(k9b ⟨s,[],[]⟩ b).mails,⟨0,0⟩)
theorem zVb{n:Str}{a b:Int}(h:(ZXa n a b).Code=0):ZXa n a b=⟨0,0⟩/\n.length<=40/\KGa n=true/\(1<=a/\a<=12000)/\(1<=b/\b<=60):=by
 unfold ZXa at h ⊢;by_cases h1:KGa n=false∨40 < n.length
 .rw[if_pos h1]at h;exact absurd h (by decide)
 rw[if_neg h1]at h ⊢;by_cases h2:a < 1∨12000 < a
 .rw[if_pos h2]at h;exact absurd h (by decide)
 rw[if_neg h2]at h ⊢;by_cases h3:b < 1∨60 < b
 .rw[if_pos h3]at h;exact absurd h (by decide)
 rw[if_neg h3];refine ⟨rfl,by omega,?_,by omega,by omega⟩;cases hn:KGa n with
 | true=>rfl
 | false=>exact absurd (.inl hn) h1
theorem srv_zero{s:zha}(h:(srvF s).Code=0):(ZXa s.Name s.Size s.Many).Code=0/\okB s=true/\srvF s=⟨0,0⟩:=by
 unfold srvF at h ⊢;by_cases h1:(ZXa s.Name s.Size s.Many).Code≠0
 .rw[if_pos h1]at h;exact absurd h h1
 rw[if_neg h1]at h ⊢;by_cases h2:okB s=false
 .rw[if_pos h2]at h;exact absurd h (by decide)
 rw[if_neg h2];exact ⟨Decidable.not_not.1 h1,by simpa using h2,rfl⟩
theorem si_of_ok{s:zha}(h:(srvF s).Code=0):SI ⟨s,[],[]⟩ 0:=by
 obtain ⟨hc,ho,_⟩:=srv_zero h;obtain ⟨_,c1,c2,c3,c4⟩:=zVb hc;unfold okB at ho;simp only[Bool.and_eq_true]at ho;obtain ⟨⟨⟨⟨o1,o2⟩,o3⟩,o4⟩,o5⟩:=ho;simp only[Bool.not_eq_true',Bool.or_eq_false_iff,decide_eq_false_iff_not]at o1 o2 o3;obtain ⟨⟨f1,f2⟩,f3⟩:=o1;obtain ⟨⟨g1,g2⟩,g3⟩:=o2;obtain ⟨⟨d1,d2⟩,d3⟩:=o3;have hrec:(recF s.To).Code=0:=by simpa[bne]using f3
 refine ⟨c3,c4,c1,by show (s.Data.length:Int)<=s.Size;omega,?_,⟨by show s.To.length<=60;omega,(recF_inv hrec).1⟩,by show 0<=s.Lost/\s.Lost<=_;omega,by show 0<=s.Count/\s.Count<=_;omega,?_,?_,?_,Nat.le_refl _,Nat.le_refl _⟩
 .show s.Buffer.length<=4001;by_cases p0:s.Phase=0
  .rw[p0]at o5;simp at o5;omega
  have:s.Buffer.isEmpty=true:=by
   rw[beq_eq_false_iff_ne.2 p0]at o5;by_cases p1:s.Phase=1
   .rw[p1]at o5;simp at o5;simp[o5]
   by_cases p2:s.Phase=2
   .rw[p2]at o5;simp at o5;simp[o5]
   by_cases p3:s.Phase=3
   .rw[p3]at o5;simp at o5;simp[o5]
   rw[beq_eq_false_iff_ne.2 p1,beq_eq_false_iff_ne.2 p2,beq_eq_false_iff_ne.2 p3]at o5;cases o5
  rw[List.isEmpty_iff.1 this];simp
 .intro p2;have p2:s.Phase=2:=p2;rw[p2]at o5;simp at o5;show 1<=s.Left/\s.Left<=1000000;exact ⟨o5.2.2.2.2.1,o5.2.2.2.2.2⟩
 .intro e;have e:s.To=[]:=e;show s.Chunked=false;rw[e]at g3;simpa using g3
 intro p1;have p1:s.Phase≠1:=p1;show s.Dots=0;by_cases p0:s.Phase=0
 .rw[p0]at o5;simp at o5;exact o5.2.2.1
 rw[beq_eq_false_iff_ne.2 p0,beq_eq_false_iff_ne.2 p1]at o5;by_cases p2:s.Phase=2
 .rw[p2]at o5;simp at o5;exact o5.2.2.2.1
 by_cases p3:s.Phase=3
 .rw[p3]at o5;simp at o5;exact o5.2.2.1
 rw[beq_eq_false_iff_ne.2 p2,beq_eq_false_iff_ne.2 p3]at o5;cases o5
theorem Feed_eq(s:zha)(b:List UInt8)(h:q5b s)(hb:b.length<=1048576):yxa s b=some (feedF s b):=by
 unfold yxa feedF;rw[yQb _ _ _ h.name];simp only[Option.bind_some,kga];by_cases hc:(ZXa s.Name s.Size s.Many).Code=0
 .rw[hc,yVb s h];simp only[show ((0:Int) !=0)=false from rfl,cond_false,Option.bind_some];cases ho:okB s with
  | false=>
   have e:srvF s=⟨5, -23⟩:=by unfold srvF;rw[if_neg (by simp[hc]),if_pos ho]
   rw[e,if_pos (by decide)];rfl
  | true=>
   have e:srvF s=⟨0,0⟩:=by unfold srvF;rw[if_neg (by simp[hc]),if_neg (by simp[ho])]
   rw[e,if_neg (by decide)];simp only[Bool.not_true,cond_false];by_cases h4:40000 < b.length
   .rw[if_pos h4,decide_eq_true (by omega)];rfl
   rw[if_neg h4,decide_eq_false (by omega)];simp only[cond_false];have hsi:=si_of_ok (s:=s) (by rw[e]);rw[WVa _ h.tos.1,WWa _ h.buf,WWa _ h.data];simp only[Option.bind_some];rw[show (⟨⟨s.Name,s.Size,s.Many,s.Phase,s.Greeted,s.Mailing,s.From,s.To,s.Buffer,s.Data,s.Lost,s.Dots,s.Chunked,s.Left,s.Last,s.Ignore,s.Count⟩,([]:List zsa),([]:List zEa)⟩:Ses)=⟨s,[],[]⟩ from rfl,(yOb b (by omega) _ hsi).1];rfl
 have e:srvF s=ZXa s.Name s.Size s.Many:=by unfold srvF;rw[if_pos hc]
 rw[e,if_pos hc,bne_iff_ne.2 hc];rfl
def newF(n:Str)(a b:Int):zha × zsa × zua:=if (ZXa n a b).Code≠0 then (yWb,⟨0,[]⟩,ZXa n a b) else (⟨n,a,b,0,false,false,[],[],[],[],0,0,false,0,false,false,0⟩,⟨220,[n]⟩,⟨0,0⟩)
theorem q6b(n:Str)(a b:Int)(h:n.length<=1048576):wra n a b=some (newF n a b)/\wXa n a b=some (newF n a b):=by
 unfold wra wXa newF;rw[yQb _ _ _ h,yRb _ h];simp only[Option.bind_some,kga];by_cases hc:(ZXa n a b).Code=0
 .obtain ⟨e,_⟩:=zVb hc;rw[if_neg (by simp[hc]),hc,e];exact ⟨rfl,rfl⟩
 rw[if_pos hc,bne_iff_ne.2 hc];exact ⟨rfl,rfl⟩
def exIn:List UInt8:=[104,101,108,108,111,32,99,13,10,109,97,105,108,32,60,115,64,120,62,13,10,114,99,112,116,32,60,97,64,121,62,13,10,100,97,116,97,13,10,13,10,46,46,13,10,46,13,10,110,111,111,112,13,10]
def exS:zha:=⟨[109,120],1000,10,0,false,false,[],[],[],[],0,0,false,0,false,false,0⟩
def exId:Str:=[109,120]++ [45]++Lib.decDigits 1
def zWb:Ses:=⟨⟨[109,120],1000,10,0,true,false,[],[],[],[],0,0,false,0,false,false,1⟩,
 [⟨250,[[109,120],sizeW' ++Lib.decDigits 1000,WUa++Lib.decDigits 10]⟩,⟨250,[okW]⟩,⟨250,[okW]⟩,⟨354,[[103,111,32,111,110]]⟩,⟨250,[exId]⟩,⟨250,[okW]⟩],
 [⟨⟨[115,64,120],[⟨[97,64,121],1⟩],exId⟩,⟨[],[46,13,10]⟩⟩]⟩
theorem ex_feed:k9b ⟨exS,[],[]⟩ exIn=zWb:=by kernel_rfl
theorem ex_small:q5b exS:=⟨by decide,⟨by decide,fun r hr=>by cases hr⟩,by decide,by decide,by decide⟩
theorem exId_eq:exId=[109,120,45,49]:=by unfold exId;rw[kEa (by decide)];rfl
theorem ex_srv:srvF exS=⟨0,0⟩:=by kernel_rfl
theorem ex_new:newF [109,120] 1000 10=(exS,⟨220,[[109,120]]⟩,⟨0,0⟩):=by kernel_rfl
theorem ex_bad:newF [] 1 1=(yWb,⟨0,[]⟩,⟨10, -20⟩):=by kernel_rfl
theorem ex_feedF:feedF exS exIn=(zWb.Server,zWb.replies,zWb.mails,⟨0,0⟩):=by
 unfold feedF;rw[ex_srv,if_neg (by decide),if_neg (by decide),ex_feed]
theorem yXb:Zoa=some true:=by
 unfold Zoa;rw[(q6b [109,120] 1000 10 (by decide)).1,ex_new];simp only[Option.bind_some];rw[show ([(104:UInt8),(101:UInt8),(108:UInt8),(108:UInt8),(111:UInt8),(32:UInt8),(99:UInt8),(13:UInt8),(10:UInt8),(109:UInt8),(97:UInt8),(105:UInt8),(108:UInt8),(32:UInt8),(60:UInt8),(115:UInt8),(64:UInt8),(120:UInt8),(62:UInt8),(13:UInt8),(10:UInt8),(114:UInt8),(99:UInt8),(112:UInt8),(116:UInt8),(32:UInt8),(60:UInt8),(97:UInt8),(64:UInt8),(121:UInt8),(62:UInt8),(13:UInt8),(10:UInt8),(100:UInt8),(97:UInt8),(116:UInt8),(97:UInt8),(13:UInt8),(10:UInt8),(13:UInt8),(10:UInt8),(46:UInt8),(46:UInt8),(13:UInt8),(10:UInt8),(46:UInt8),(13:UInt8),(10:UInt8),(110:UInt8),(111:UInt8),(111:UInt8),(112:UInt8),(13:UInt8),(10:UInt8)]:List UInt8)=exIn from rfl,Feed_eq exS exIn ex_small (by decide),ex_feedF,(q6b [] 1 1 (by decide)).1,ex_bad];simp only[Option.bind_some,KFa];rw[show idx zWb.replies 3=some ⟨354,[[103,111,32,111,110]]⟩ from rfl,show idx zWb.replies 4=some ⟨250,[exId]⟩ from rfl,show idx zWb.replies 5=some ⟨250,[okW]⟩ from rfl,show idx zWb.mails 0=some ⟨⟨[115,64,120],[⟨[97,64,121],1⟩],exId⟩,⟨[],[46,13,10]⟩⟩ from rfl];simp only[Option.bind_some];rw[Vka _ _ (by simp),exId_eq];rfl
theorem qbb(s:zha)(h:s.To.length<=1048576):v3a s s=some true:=by
 unfold v3a;rw[KIa _ _ h];simp
theorem qcb(r:zsa)(h:r.Lines.length<=1048576):yva r r=some true:=by
 unfold yva;rw[Vka _ _ (by omega)];simp
def Out(x:Ses):Prop:=(∀r∈x.replies,r.Lines.length<=3)/\∀m∈x.mails,m.Envelope.To.length<=60/\m.Message.Fields.length<=60
theorem yga(a0:Str)(a1:Int)(a2:Int)(o0:w3a a0)(o1:ok64 a1)(o2:ok64 a2)(hk:(fun s=>s.length+1) a0+(fun _=>1) a1+(fun _=>1) a2<=1048576):kPa a0 a1 a2=some true:=by
 have hn:a0.length<=1048576:=by dsimp only at hk;omega
 unfold kPa;rw[(q6b a0 a1 a2 hn).1,(q6b a0 a1 a2 hn).2,yXb];simp only[Option.bind_some,cond_true];have h1:(newF a0 a1 a2).1.To.length<=1048576:=by
  unfold newF;split <;> simp[yWb]
 have h2:(newF a0 a1 a2).2.1.Lines.length<=1048576:=by
  unfold newF;split <;> simp
 rw[qbb _ h1];simp only[Option.bind_some,cond_true];rw[qcb _ h2];simp[yaa]
theorem VYa(a0:Int)(a1:Int)(r:zua)(hr:R_At a0 a1=some r):Run Tryz.prog 15 [.i a0,.i a1] (.agg [.i r.Code,.i r.Index]):=by
 unfold R_At at hr;refine rf (fn:=Tryz.f15) ⟨Tryz.func15,rfl,by kernel_rfl⟩ rfl (fun _=>rfl) fun g0 hg=>?_
 refine rn tk 14 rfl ?_;cases hr;exact kr tk (.inr rfl) rfl rfl
theorem Qoa(a0:List Str)(a1:List Str)(r:Bool)(hr:jja a0 a1=some r):Run Tryz.prog 32 [.l cS a0,.l cS a1] (.bo r):=by
 unfold jja at hr;refine rf (fn:=Tryz.f32) ⟨Tryz.func32,rfl,by kernel_rfl⟩ rfl (fun _=>rfl) fun g0 hg=>?_
 refine rn tk 9 rfl<|wn tk rfl rfl rfl<|rn tk 1 rfl<|wn tk rfl rfl rfl<|rn tk 3 rfl<|ac 10 hr rfl (fun c1 hr=>?_) (fun c1 hr=>?_)
 .refine rn tk 7 rfl ?_;cases hr;exact kr tk (.inr rfl) rfl rfl
 refine rn tk 9 rfl<|al2 hr (fun s2=>[(0,.l cS a0),(1,.l cS a1),(5,.i s2)]) (fun s2=>[]) (.exit 0) (fun b3=>[]) (fun b3=>[]) .ret (fun b4=>[(4,.bo b4)]) (fun b4=>[]) rfl rfl (fun s2 x6 hr=>?_) (fun b3 hr=>?_) (fun b4 hr=>?_)
 .unfold yNa at hr;refine rn tk 5 rfl<|wn tk rfl rfl rfl<|rn tk 3 rfl<|ac 14 hr rfl (fun c7 hr=>?_) (fun c7 hr=>?_)
  .refine rn tk 5 rfl ?_;obtain ⟨v8,h9,hr⟩:=zaa hr;obtain ⟨v10,h11,hr⟩:=zaa hr;refine dr 8 [(24,.s v10),(23,.ep [pS v10]),(22,.i s2),(21,.l cS a1),(20,.s v8),(19,.ep [pS v8]),(18,.i s2),(17,.l cS a0)] mixed (by kernel_rfl) rfl rfl (pq tk rfl (.plain rfl) (pq tk rfl (.plain rfl) (.run (.plain rfl) (wga (zbb (f:=cS) rfl rfl qba zCa rfl h9)) (pq tk rfl (.plain rfl) (pq tk rfl (.plain rfl) (pq tk rfl (.plain rfl) (.run (.plain rfl) (wga (zbb (f:=cS) rfl rfl qba zCa rfl h11)) (pq tk rfl (.plain rfl) .nil)))))))) rfl<|rn tk 3 rfl<|ac 25 hr rfl (fun c12 hr=>?_) (fun c12 hr=>?_)
   .refine rn tk 8 rfl ?_;cases hr;exact ato rfl rfl rfl rfl
   refine rn tk 8 rfl ?_;cases hr;exact atc rfl rfl
  refine rn tk 2 rfl ?_;cases hr;exact ato rfl rfl rfl rfl
 .refine rn tk 8 rfl ?_;cases hr;exact kr tk (.inr rfl) rfl rfl
 refine rn tk 2 rfl ?_;cases hr;exact kr tk (.inr rfl) rfl rfl
theorem zTa(a0:zua)(r:Bool)(hr:z5a a0=some r):Run Tryz.prog 29 [.agg [.i a0.Code,.i a0.Index]] (.bo r):=by
 unfold z5a at hr;refine rf (fn:=Tryz.f29) ⟨Tryz.func29,rfl,by kernel_rfl⟩ rfl (fun _=>rfl) fun g0 hg=>?_
 refine rn tk 15 rfl ?_;cases hr;exact kr tk (.inr rfl) rfl rfl
theorem zma(a0:Int)(a1:Int)(r:zua)(hr:zwa a0 a1=some r):Run Tryz.prog 35 [.i a0,.i a1] (.agg [.i r.Code,.i r.Index]):=by
 unfold zwa at hr;refine rf (fn:=Tryz.f35) ⟨Tryz.func35,rfl,by kernel_rfl⟩ rfl (fun _=>rfl) fun g0 hg=>?_
 refine rn tk 14 rfl ?_;cases hr;exact kr tk (.inr rfl) rfl rfl
theorem zWa(r:zua)(hr:kAa=some r):Run Tryz.prog 30 [] (.agg [.i r.Code,.i r.Index]):=by
 unfold kAa at hr;refine rf (fn:=Tryz.f30) ⟨Tryz.func30,rfl,by kernel_rfl⟩ rfl (fun _=>rfl) fun g0 hg=>?_
 refine rn tk 12 rfl ?_;cases hr;exact kr tk (.inr rfl) rfl rfl
theorem j2a(a0:UInt8)(r:Bool)(hr:vNa a0=some r):Run Tryz.prog 84 [.u8 a0] (.bo r):=by
 unfold vNa at hr;refine rf (fn:=Tryz.f84) ⟨Tryz.func84,rfl,by kernel_rfl⟩ rfl (fun _=>rfl) fun g0 hg=>?_
 refine rn tk 5 rfl<|jb hr (fun j1=>[(2,.bo j1)]) (fun j1=>[]) (fun j1 hr=>?_) (fun j1 hr=>?_)
 .refine rn tk 4 rfl<|bs 5 hr rfl (fun c2 hr=>?_) (fun c2 hr=>?_)
  .refine rn tk 4 rfl<|bs 9 hr rfl (fun c3 hr=>?_) (fun c3 hr=>?_)
   .refine rn tk 17 rfl ?_;cases hr;exact jn _ rfl rfl rfl
   refine rn tk 3 rfl<|bs 12 hr rfl (fun c4 hr=>?_) (fun c4 hr=>?_)
   .refine rn tk 5 rfl<|bs 17 hr rfl (fun c5 hr=>?_) (fun c5 hr=>?_)
    .refine rn tk 9 rfl ?_;cases hr;exact jn _ rfl rfl rfl
    refine rn tk 3 rfl<|bs 20 hr rfl (fun c6 hr=>?_) (fun c6 hr=>?_)
    .refine rn tk 6 rfl ?_;cases hr;exact jn _ rfl rfl rfl
    refine rn tk 6 rfl ?_;cases hr;exact jn _ rfl rfl rfl
   refine rn tk 8 rfl<|bs 20 hr rfl (fun c7 hr=>?_) (fun c7 hr=>?_)
   .refine rn tk 6 rfl ?_;cases hr;exact jn _ rfl rfl rfl
   refine rn tk 6 rfl ?_;cases hr;exact jn _ rfl rfl rfl
  refine rn tk 7 rfl<|bs 12 hr rfl (fun c8 hr=>?_) (fun c8 hr=>?_)
  .refine rn tk 5 rfl<|bs 17 hr rfl (fun c9 hr=>?_) (fun c9 hr=>?_)
   .refine rn tk 9 rfl ?_;cases hr;exact jn _ rfl rfl rfl
   refine rn tk 3 rfl<|bs 20 hr rfl (fun c10 hr=>?_) (fun c10 hr=>?_)
   .refine rn tk 6 rfl ?_;cases hr;exact jn _ rfl rfl rfl
   refine rn tk 6 rfl ?_;cases hr;exact jn _ rfl rfl rfl
  refine rn tk 8 rfl<|bs 20 hr rfl (fun c11 hr=>?_) (fun c11 hr=>?_)
  .refine rn tk 6 rfl ?_;cases hr;exact jn _ rfl rfl rfl
  refine rn tk 6 rfl ?_;cases hr;exact jn _ rfl rfl rfl
 refine rn tk 1 rfl ?_;cases hr;exact kr tk (.inr rfl) rfl rfl
theorem Kfa(a0:Str)(r:Bool)(hr:yka a0=some r):Run Tryz.prog 56 [.s a0] (.bo r):=by
 unfold yka at hr;refine rf (fn:=Tryz.f56) ⟨Tryz.func56,rfl,by kernel_rfl⟩ rfl (fun _=>rfl) fun g0 hg=>?_
 refine rn tk 5 rfl<|jb hr (fun j1=>[(2,.bo j1)]) (fun j1=>[]) (fun j1 hr=>?_) (fun j1 hr=>?_)
 .refine rn tk 4 rfl<|bs 5 hr rfl (fun c2 hr=>?_) (fun c2 hr=>?_)
  .refine rn tk 5 rfl<|bs 10 hr rfl (fun c3 hr=>?_) (fun c3 hr=>?_)
   .refine rn tk 1 rfl<|ug rfl rfl rfl<|ct hr (fun j4=>[(10,.bo true),(12,.bo j4)]) (fun j4=>[]) (fun j4 hr jump4=>?_) (fun j4 hr=>?_)
    .refine il (fn:=Tryz.f82) (args:=[.s a0,.fn (.func 83) [] []]) 400000 499999 [(10,.bo true)] rfl ⟨Tryz.func82,rfl,by kernel_rfl⟩ rfl rfl rfl fun T4 ds4=>?_
     refine rn tk 14 rfl<|al2 hr (fun s5=>[(0,.s a0),(1,.fn (.func 83) [] []),(7,.i ((a0.length:Int))),(8,.i s5)]) (fun s5=>[(499999,.sus g0.w.heap.size ds4),(400010,.hold (.bo true) (T4.getD 10 undef))]) (.exit 0) (fun b6=>[]) (fun b6=>[(499999,.sus g0.w.heap.size ds4),(400010,.hold (.bo true) (T4.getD 10 undef))]) .ret (fun b7=>[(4,.bo false)]) (fun b7=>[(499999,.sus g0.w.heap.size ds4),(400010,.hold (.bo true) (T4.getD 10 undef))]) rfl rfl (fun s5 x9 hr=>?_) (fun b6 hr=>?_) (fun b7 hr=>?_)
     .unfold vUa at hr;refine rn tk 6 rfl<|ac 9 hr rfl (fun c10 hr=>?_) (fun c10 hr=>?_)
      .refine rn tk 15 rfl ?_;obtain ⟨v11,h12,hr⟩:=zaa hr;refine ws tk h12 rfl rfl rfl rfl<|il (fn:=Tryz.f83) (args:=[.u8 v11]) 600000 699999 [(0,.s a0),(1,.fn (.func 83) [] []),(7,.i ((a0.length:Int))),(8,.i s5)] rfl ⟨Tryz.func83,rfl,by kernel_rfl⟩ rfl rfl rfl fun T6 ds6=>?_
       refine rn tk 5 rfl<|jb hr (fun j13=>[(2,.bo j13)]) (fun j13=>[(699999,.sus g0.w.heap.size ds6),(600000,.hold (.s a0) (T6.getD 0 undef)),(600001,.hold (.fn (.func 83) [] []) (T6.getD 1 undef)),(600007,.hold (.i ((a0.length:Int))) (T6.getD 7 undef)),(600008,.hold (.i s5) (T6.getD 8 undef)),(499999,.sus g0.w.heap.size ds4),(400010,.hold (.bo true) (T4.getD 10 undef))]) (fun j13 hr=>?_) (fun j13 hr=>?_)
       .refine rn tk 2 rfl ?_;obtain ⟨v14,h15,hr⟩:=zaa hr;refine cl (j2a _ _ h15) rfl rfl<|rn tk 1 rfl<|bs 5 hr rfl (fun c16 hr=>?_) (fun c16 hr=>?_)
        .refine rn tk 13 rfl ?_;cases hr;exact jn _ rfl rfl rfl
        refine rn tk 4 rfl<|bs 9 hr rfl (fun c17 hr=>?_) (fun c17 hr=>?_)
        .refine rn tk 9 rfl ?_;cases hr;exact jn _ rfl rfl rfl
        refine rn tk 4 rfl<|bs 13 hr rfl (fun c18 hr=>?_) (fun c18 hr=>?_)
        .refine rn tk 5 rfl ?_;cases hr;exact jn _ rfl rfl rfl
        refine rn tk 5 rfl ?_;cases hr;exact jn _ rfl rfl rfl
       refine rn tk 1 rfl ?_;refine ie tk [.bo j13] [(0,.s a0),(1,.fn (.func 83) [] []),(7,.i ((a0.length:Int))),(8,.i s5)] [(499999,.sus g0.w.heap.size ds4),(400010,.hold (.bo true) (T4.getD 10 undef))] (.inr rfl) rfl rfl rfl rfl (hO ?_);refine rn tk 3 rfl<|ac 16 hr rfl (fun c19 hr=>?_) (fun c19 hr=>?_)
       .refine rn tk 8 rfl ?_;cases hr;exact ato rfl rfl rfl rfl
       refine rn tk 7 rfl ?_;cases hr;exact atc rfl rfl
      refine rn tk 2 rfl ?_;cases hr;exact ato rfl rfl rfl rfl
     .refine rn tk 8 rfl ?_;refine ie tk [.bo true] [(10,.bo true)] [] (.inr rfl) rfl rfl rfl rfl ?_;cases hr;exact jump4 _ _ rfl rfl
     refine rn tk 2 rfl ?_;refine ie tk [.bo false] [(10,.bo true)] [] (.inr rfl) rfl rfl rfl rfl ?_;cases hr;exact jump4 _ _ rfl rfl
    refine rn tk 3 rfl ?_;cases hr;exact jn _ rfl rfl rfl
   refine rn tk 5 rfl ?_;cases hr;exact jn _ rfl rfl rfl
  refine rn tk 10 rfl ?_;cases hr;exact jn _ rfl rfl rfl
 refine rn tk 1 rfl ?_;cases hr;exact kr tk (.inr rfl) rfl rfl
theorem wZa(a0:Str)(a1:Int)(a2:Int)(r:zua)(hr:kWa a0 a1 a2=some r):Run Tryz.prog 28 [.s a0,.i a1,.i a2] (.agg [.i r.Code,.i r.Index]):=by
 unfold kWa at hr;refine rf (fn:=Tryz.f28) ⟨Tryz.func28,rfl,by kernel_rfl⟩ rfl (fun _=>rfl) fun g0 hg=>?_
 refine rn tk 7 rfl<|jb hr (fun j1=>[(1,.i a1),(2,.i a2),(6,.ptr 6 0),(7,.bo j1)]) (fun j1=>[(6,.cells [.i 0,.i 0])]) (fun j1 hr=>?_) (fun j1 hr=>?_)
 .refine rn tk 2 rfl ?_;obtain ⟨v2,h3,hr⟩:=zaa hr;refine cl (Kfa _ _ h3) rfl rfl<|rn tk 2 rfl<|bs 11 hr rfl (fun c4 hr=>?_) (fun c4 hr=>?_)
  .refine rn tk 6 rfl ?_;cases hr;exact jn _ rfl rfl rfl
  refine rn tk 6 rfl ?_;cases hr;exact jn _ rfl rfl rfl
 refine ac 7 hr rfl (fun c5 hr=>?_) (fun c5 hr=>?_)
 .refine rn tk 2 rfl ?_;obtain ⟨v6,h7,hr⟩:=zaa hr;refine cl (zma _ _ _ h7) rfl rfl<|rn tk 6 rfl ?_;cases hr;exact kr tk (.inr rfl) rfl rfl
 refine jb hr (fun j8=>[(2,.i a2),(6,.ptr 6 0),(17,.bo j8)]) (fun j8=>[(6,.cells [.i 0,.i 0])]) (fun j8 hr=>?_) (fun j8 hr=>?_)
 .refine rn tk 4 rfl<|bs 20 hr rfl (fun c9 hr=>?_) (fun c9 hr=>?_)
  .refine rn tk 5 rfl ?_;cases hr;exact jn _ rfl rfl rfl
  refine rn tk 5 rfl ?_;cases hr;exact jn _ rfl rfl rfl
 refine ac 17 hr rfl (fun c10 hr=>?_) (fun c10 hr=>?_)
 .refine rn tk 2 rfl ?_;obtain ⟨v11,h12,hr⟩:=zaa hr;refine cl (zma _ _ _ h12) rfl rfl<|rn tk 6 rfl ?_;cases hr;exact kr tk (.inr rfl) rfl rfl
 refine jb hr (fun j13=>[(6,.ptr 6 0),(25,.bo j13)]) (fun j13=>[(6,.cells [.i 0,.i 0])]) (fun j13 hr=>?_) (fun j13 hr=>?_)
 .refine rn tk 4 rfl<|bs 28 hr rfl (fun c14 hr=>?_) (fun c14 hr=>?_)
  .refine rn tk 5 rfl ?_;cases hr;exact jn _ rfl rfl rfl
  refine rn tk 5 rfl ?_;cases hr;exact jn _ rfl rfl rfl
 refine ac 25 hr rfl (fun c15 hr=>?_) (fun c15 hr=>?_)
 .refine rn tk 2 rfl ?_;obtain ⟨v16,h17,hr⟩:=zaa hr;refine cl (zma _ _ _ h17) rfl rfl<|rn tk 6 rfl ?_;cases hr;exact kr tk (.inr rfl) rfl rfl
 refine rn tk 5 rfl ?_;obtain ⟨v18,h19,hr⟩:=zaa hr;refine cl (zWa _ h19) rfl rfl<|rn tk 4 rfl ?_;cases hr;exact kr tk (.inr rfl) rfl rfl
end Go.Proofs.YtmmjihadplknjaaGreatDoor
namespace Go.Proofs
open Go.Shelf
def Tryz.lays156_ren:Go.Shelf.Ren:=⟨fun | 156=>188 | 165=>206 | 166=>207 | 169=>208 | 240=>227 | 241=>228 | 276=>239 | 277=>240 | n=>n,fun | 31=>26 | 9=>9 | 3=>3 | 4=>4 | 0=>0 | 20=>20 | 72=>226 | 76=>207 | 70=>224 | 37=>23 | 75=>206 | 127=>253 | 164=>278 | 5=>5 | 80=>228 | n=>n,fun | n=>n⟩
theorem Tryz.lays156:Go.Proofs.Lays.n156 Tryz.prog Tryz.lays156_ren:={
 mixed:=by kernel_rfl
 f156:=Tryz.func188.trans (congrArg some (by kernel_rfl))
 f165:=Tryz.func206.trans (congrArg some (by kernel_rfl))
 f166:=Tryz.func207.trans (congrArg some (by kernel_rfl))
 f169:=Tryz.func208.trans (congrArg some (by kernel_rfl))
 f240:=Tryz.func227.trans (congrArg some (by kernel_rfl))
 f241:=Tryz.func228.trans (congrArg some (by kernel_rfl))
 f276:=Tryz.func239.trans (congrArg some (by kernel_rfl))
 f277:=Tryz.func240.trans (congrArg some (by kernel_rfl))
 t0:=Tryz.underlying0
 a0:=Tryz.isAgg0
 z0:=Tryz.sizeOf0
 v0:=Tryz.zeroValue0
 t3:=Tryz.underlying3
 a3:=Tryz.isAgg3
 z3:=Tryz.sizeOf3
 v3:=Tryz.zeroValue3
 t4:=Tryz.underlying4
 a4:=Tryz.isAgg4
 z4:=Tryz.sizeOf4
 v4:=Tryz.zeroValue4
 t9:=Tryz.underlying9
 a9:=Tryz.isAgg9
 z9:=Tryz.sizeOf9
 v9:=Tryz.zeroValue9
 t20:=Tryz.underlying20
 a20:=Tryz.isAgg20
 z20:=Tryz.sizeOf20
 v20:=Tryz.zeroValue20
 t31:=Tryz.underlying26
 a31:=Tryz.isAgg26
 z31:=Tryz.sizeOf26
 v31:=Tryz.zeroValue26
 t37:=Tryz.underlying23
 a37:=Tryz.isAgg23
 z37:=Tryz.sizeOf23
 v37:=Tryz.zeroValue23
 t70:=Tryz.underlying224
 a70:=Tryz.isAgg224
 z70:=Tryz.sizeOf224
 v70:=Tryz.zeroValue224
 t72:=Tryz.underlying226
 a72:=Tryz.isAgg226
 z72:=Tryz.sizeOf226
 v72:=Tryz.zeroValue226
 t75:=Tryz.underlying206
 a75:=Tryz.isAgg206
 z75:=Tryz.sizeOf206
 v75:=Tryz.zeroValue206
 t76:=Tryz.underlying207
 a76:=Tryz.isAgg207
 z76:=Tryz.sizeOf207
 v76:=Tryz.zeroValue207
 t127:=Tryz.underlying253
 a127:=Tryz.isAgg253
 z127:=Tryz.sizeOf253
 v127:=Tryz.zeroValue253
 t164:=Tryz.underlying278
 a164:=Tryz.isAgg278
 z164:=Tryz.sizeOf278
 v164:=Tryz.zeroValue278}
theorem Tryz.Builder_Extra_156:Builder.Extra Tryz.prog Tryz.lays156_ren:={
 sizeBuilder:=by kernel_rfl
 liesBuilder:=by kernel_rfl
 t5:=Tryz.underlying5
 a5:=Tryz.isAgg5
 z5:=Tryz.sizeOf5
 v5:=Tryz.zeroValue5
 infoByte:=by kernel_rfl
 cellsByte:=by kernel_rfl
 sizeByte:=by kernel_rfl
 neB5:=by decide}
open Go.RowKit in
theorem Tryz.strings_Join_none(a:Option Addr)(c:Nat)(sep:ByteArray)(w:World):
 Calls Tryz.prog 188 #[.slice a 0 c,.string sep] w fun e w' =>e=.returned (.string ⟨#[]⟩)/\w' =w:=Any.strings_Join_none Tryz.lays156 Tryz.Builder_Extra_156 a c sep w
open Go.RowKit in
theorem Tryz.strings_Join(bk o c:Nat)(xs:List ByteArray)(sep:ByteArray)(w:World)(hcells:∀(j:Nat) x,xs[j]? =some x->w.cell? ⟨bk,o+j,none⟩=some (.string x))(hbk:bk < w.heap.size)(hN:xs.length<=140737488355328)(hcap:xs.length<=c)(hlen:(Lib.join (xs.map (·.data.toList)) sep.data.toList).length<=140737488355328):
 Calls Tryz.prog 188 #[.slice (some ⟨bk,o,none⟩) xs.length c,.string sep] w fun e w' =>e=.returned (.string ⟨(Lib.join (xs.map (·.data.toList)) sep.data.toList).toArray⟩)/\Below w.heap.size w w' :=Any.strings_Join Tryz.lays156 Tryz.Builder_Extra_156 bk o c xs sep w hcells hbk hN hcap hlen
def Tryz.lays162_ren:Go.Shelf.Ren:=⟨fun | 162=>169 | 232=>172 | 227=>173 | 234=>175 | 236=>177 | 228=>192 | 271=>195 | 151=>194 | 120=>213 | 197=>193 | 152=>209 | 260=>212 | 137=>118 | 119=>229 | 224=>148 | 225=>190 | 217=>141 | 266=>162 | n=>n,fun | 9=>9 | 4=>4 | 3=>3 | 5=>5 | 117=>194 | 116=>193 | 0=>0 | 124=>197 | 21=>21 | 105=>214 | 46=>162 | 119=>239 | 139=>256 | 138=>255 | n=>n,fun | 3=>2 | 4=>3 | n=>n⟩
theorem Tryz.lays162:Go.Proofs.Lays.n162 Tryz.prog Tryz.lays162_ren:={
 mixed:=by kernel_rfl
 f119:=Tryz.func229.trans (congrArg some (by kernel_rfl))
 f120:=Tryz.func213.trans (congrArg some (by kernel_rfl))
 f137:=Tryz.func118.trans (congrArg some (by kernel_rfl))
 f151:=Tryz.func194.trans (congrArg some (by kernel_rfl))
 f152:=Tryz.func209.trans (congrArg some (by kernel_rfl))
 f162:=Tryz.func169.trans (congrArg some (by kernel_rfl))
 f197:=Tryz.func193.trans (congrArg some (by kernel_rfl))
 f217:=Tryz.func141.trans (congrArg some (by kernel_rfl))
 f224:=Tryz.func148.trans (congrArg some (by kernel_rfl))
 f225:=Tryz.func190.trans (congrArg some (by kernel_rfl))
 f227:=Tryz.func173.trans (congrArg some (by kernel_rfl))
 f228:=Tryz.func192.trans (congrArg some (by kernel_rfl))
 f232:=Tryz.func172.trans (congrArg some (by kernel_rfl))
 f234:=Tryz.func175.trans (congrArg some (by kernel_rfl))
 f236:=Tryz.func177.trans (congrArg some (by kernel_rfl))
 f260:=Tryz.func212.trans (congrArg some (by kernel_rfl))
 f266:=Tryz.func162.trans (congrArg some (by kernel_rfl))
 f271:=Tryz.func195.trans (congrArg some (by kernel_rfl))
 t0:=Tryz.underlying0
 a0:=Tryz.isAgg0
 z0:=Tryz.sizeOf0
 v0:=Tryz.zeroValue0
 t3:=Tryz.underlying3
 a3:=Tryz.isAgg3
 z3:=Tryz.sizeOf3
 v3:=Tryz.zeroValue3
 t4:=Tryz.underlying4
 a4:=Tryz.isAgg4
 z4:=Tryz.sizeOf4
 v4:=Tryz.zeroValue4
 t5:=Tryz.underlying5
 a5:=Tryz.isAgg5
 z5:=Tryz.sizeOf5
 v5:=Tryz.zeroValue5
 t9:=Tryz.underlying9
 a9:=Tryz.isAgg9
 z9:=Tryz.sizeOf9
 v9:=Tryz.zeroValue9
 t21:=Tryz.underlying21
 a21:=Tryz.isAgg21
 z21:=Tryz.sizeOf21
 v21:=Tryz.zeroValue21
 t46:=Tryz.underlying162
 a46:=Tryz.isAgg162
 z46:=Tryz.sizeOf162
 v46:=Tryz.zeroValue162
 t105:=Tryz.underlying214
 a105:=Tryz.isAgg214
 z105:=Tryz.sizeOf214
 v105:=Tryz.zeroValue214
 t116:=Tryz.underlying193
 a116:=Tryz.isAgg193
 z116:=Tryz.sizeOf193
 t117:=Tryz.underlying194
 a117:=Tryz.isAgg194
 z117:=Tryz.sizeOf194
 v117:=Tryz.zeroValue194
 t119:=Tryz.underlying239
 a119:=Tryz.isAgg239
 z119:=Tryz.sizeOf239
 t124:=Tryz.underlying197
 a124:=Tryz.isAgg197
 z124:=Tryz.sizeOf197
 v124:=Tryz.zeroValue197
 t138:=Tryz.underlying255
 a138:=Tryz.isAgg255
 z138:=Tryz.sizeOf255
 v138:=Tryz.zeroValue255
 t139:=Tryz.underlying256
 a139:=Tryz.isAgg256
 z139:=Tryz.sizeOf256
 v139:=Tryz.zeroValue256
 g3:=by kernel_rfl
 g4:=by kernel_rfl}
def Tryz.lays160_ren:Go.Shelf.Ren:=⟨fun | 160=>153 | 232=>172 | 231=>171 | 227=>173 | 234=>175 | 233=>174 | 236=>177 | 235=>176 | 228=>192 | 271=>195 | 151=>194 | 197=>193 | 120=>213 | 152=>209 | 260=>212 | 137=>118 | 119=>229 | 224=>148 | 225=>190 | 217=>141 | 266=>162 | n=>n,fun | 9=>9 | 4=>4 | 3=>3 | 5=>5 | 117=>194 | 116=>193 | 0=>0 | 124=>197 | 21=>21 | 105=>214 | 46=>162 | 119=>239 | 139=>256 | 138=>255 | n=>n,fun | 3=>2 | 4=>3 | n=>n⟩
theorem Tryz.lays160:Go.Proofs.Lays.n160 Tryz.prog Tryz.lays160_ren:={
 mixed:=by kernel_rfl
 f119:=Tryz.func229.trans (congrArg some (by kernel_rfl))
 f120:=Tryz.func213.trans (congrArg some (by kernel_rfl))
 f137:=Tryz.func118.trans (congrArg some (by kernel_rfl))
 f151:=Tryz.func194.trans (congrArg some (by kernel_rfl))
 f152:=Tryz.func209.trans (congrArg some (by kernel_rfl))
 f160:=Tryz.func153.trans (congrArg some (by kernel_rfl))
 f197:=Tryz.func193.trans (congrArg some (by kernel_rfl))
 f217:=Tryz.func141.trans (congrArg some (by kernel_rfl))
 f224:=Tryz.func148.trans (congrArg some (by kernel_rfl))
 f225:=Tryz.func190.trans (congrArg some (by kernel_rfl))
 f227:=Tryz.func173.trans (congrArg some (by kernel_rfl))
 f228:=Tryz.func192.trans (congrArg some (by kernel_rfl))
 f231:=Tryz.func171.trans (congrArg some (by kernel_rfl))
 f232:=Tryz.func172.trans (congrArg some (by kernel_rfl))
 f233:=Tryz.func174.trans (congrArg some (by kernel_rfl))
 f234:=Tryz.func175.trans (congrArg some (by kernel_rfl))
 f235:=Tryz.func176.trans (congrArg some (by kernel_rfl))
 f236:=Tryz.func177.trans (congrArg some (by kernel_rfl))
 f260:=Tryz.func212.trans (congrArg some (by kernel_rfl))
 f266:=Tryz.func162.trans (congrArg some (by kernel_rfl))
 f271:=Tryz.func195.trans (congrArg some (by kernel_rfl))
 t0:=Tryz.underlying0
 a0:=Tryz.isAgg0
 z0:=Tryz.sizeOf0
 v0:=Tryz.zeroValue0
 t3:=Tryz.underlying3
 a3:=Tryz.isAgg3
 z3:=Tryz.sizeOf3
 v3:=Tryz.zeroValue3
 t4:=Tryz.underlying4
 a4:=Tryz.isAgg4
 z4:=Tryz.sizeOf4
 v4:=Tryz.zeroValue4
 t5:=Tryz.underlying5
 a5:=Tryz.isAgg5
 z5:=Tryz.sizeOf5
 v5:=Tryz.zeroValue5
 t9:=Tryz.underlying9
 a9:=Tryz.isAgg9
 z9:=Tryz.sizeOf9
 v9:=Tryz.zeroValue9
 t21:=Tryz.underlying21
 a21:=Tryz.isAgg21
 z21:=Tryz.sizeOf21
 v21:=Tryz.zeroValue21
 t46:=Tryz.underlying162
 a46:=Tryz.isAgg162
 z46:=Tryz.sizeOf162
 v46:=Tryz.zeroValue162
 t105:=Tryz.underlying214
 a105:=Tryz.isAgg214
 z105:=Tryz.sizeOf214
 v105:=Tryz.zeroValue214
 t116:=Tryz.underlying193
 a116:=Tryz.isAgg193
 z116:=Tryz.sizeOf193
 t117:=Tryz.underlying194
 a117:=Tryz.isAgg194
 z117:=Tryz.sizeOf194
 v117:=Tryz.zeroValue194
 t119:=Tryz.underlying239
 a119:=Tryz.isAgg239
 z119:=Tryz.sizeOf239
 t124:=Tryz.underlying197
 a124:=Tryz.isAgg197
 z124:=Tryz.sizeOf197
 v124:=Tryz.zeroValue197
 t138:=Tryz.underlying255
 a138:=Tryz.isAgg255
 z138:=Tryz.sizeOf255
 v138:=Tryz.zeroValue255
 t139:=Tryz.underlying256
 a139:=Tryz.isAgg256
 z139:=Tryz.sizeOf256
 v139:=Tryz.zeroValue256
 g3:=by kernel_rfl
 g4:=by kernel_rfl}
def Tryz.lays137_ren:Go.Shelf.Ren:=⟨fun | 137=>118 | 217=>141 | 266=>162 | n=>n,fun | 9=>9 | 5=>5 | 3=>3 | n=>n,fun | n=>n⟩
theorem Tryz.lays137:Go.Proofs.Lays.n137 Tryz.prog Tryz.lays137_ren:={
 mixed:=by kernel_rfl
 f137:=Tryz.func118.trans (congrArg some (by kernel_rfl))
 f217:=Tryz.func141.trans (congrArg some (by kernel_rfl))
 f266:=Tryz.func162.trans (congrArg some (by kernel_rfl))
 t3:=Tryz.underlying3
 a3:=Tryz.isAgg3
 z3:=Tryz.sizeOf3
 v3:=Tryz.zeroValue3
 t5:=Tryz.underlying5
 a5:=Tryz.isAgg5
 z5:=Tryz.sizeOf5
 v5:=Tryz.zeroValue5
 t9:=Tryz.underlying9
 a9:=Tryz.isAgg9
 z9:=Tryz.sizeOf9
 v9:=Tryz.zeroValue9}
open Go.RowKit in
theorem Tryz.strings_IndexByte(s:ByteArray)(c:Int)(w:World):
 Calls Tryz.prog 118 #[.string s,.int .u8 c] w fun e w' =>e=.returned (.int .i64 (Lib.indexByte s.data.toList c.toNat.toUInt8))/\w' =w:=Any.strings_IndexByte Tryz.lays137 s c w
def Tryz.lays103_ren:Go.Shelf.Ren:=⟨fun | 103=>156 | 210=>184 | 206=>163 | n=>n,fun | 9=>9 | 4=>4 | 24=>130 | 3=>3 | n=>n,fun | n=>n⟩
theorem Tryz.lays103:Go.Proofs.Lays.n103 Tryz.prog Tryz.lays103_ren:={
 mixed:=by kernel_rfl
 f103:=Tryz.func156.trans (congrArg some (by kernel_rfl))
 f206:=Tryz.func163.trans (congrArg some (by kernel_rfl))
 f210:=Tryz.func184.trans (congrArg some (by kernel_rfl))
 t3:=Tryz.underlying3
 a3:=Tryz.isAgg3
 z3:=Tryz.sizeOf3
 v3:=Tryz.zeroValue3
 t4:=Tryz.underlying4
 a4:=Tryz.isAgg4
 z4:=Tryz.sizeOf4
 v4:=Tryz.zeroValue4
 t9:=Tryz.underlying9
 a9:=Tryz.isAgg9
 z9:=Tryz.sizeOf9
 v9:=Tryz.zeroValue9
 t24:=Tryz.underlying130
 a24:=Tryz.isAgg130
 z24:=Tryz.sizeOf130
 v24:=Tryz.zeroValue130}
open Go.RowKit in
theorem Tryz.strings_CutPrefix(s p:ByteArray)(w:World):
 Calls Tryz.prog 156 #[.string s,.string p] w fun e w' =>e=.returned (.tuple #[.string ⟨(Lib.trimPrefix s.data.toList p.data.toList).toArray⟩,.bool (Lib.hasPrefix s.data.toList p.data.toList)])/\w' =w:=Any.strings_CutPrefix Tryz.lays103 s p w
def Tryz.lays104_ren:Go.Shelf.Ren:=⟨fun | 104=>157 | 211=>185 | 207=>164 | n=>n,fun | 9=>9 | 4=>4 | 24=>130 | 3=>3 | n=>n,fun | n=>n⟩
theorem Tryz.lays104:Go.Proofs.Lays.n104 Tryz.prog Tryz.lays104_ren:={
 mixed:=by kernel_rfl
 f104:=Tryz.func157.trans (congrArg some (by kernel_rfl))
 f207:=Tryz.func164.trans (congrArg some (by kernel_rfl))
 f211:=Tryz.func185.trans (congrArg some (by kernel_rfl))
 t3:=Tryz.underlying3
 a3:=Tryz.isAgg3
 z3:=Tryz.sizeOf3
 v3:=Tryz.zeroValue3
 t4:=Tryz.underlying4
 a4:=Tryz.isAgg4
 z4:=Tryz.sizeOf4
 v4:=Tryz.zeroValue4
 t9:=Tryz.underlying9
 a9:=Tryz.isAgg9
 z9:=Tryz.sizeOf9
 v9:=Tryz.zeroValue9
 t24:=Tryz.underlying130
 a24:=Tryz.isAgg130
 z24:=Tryz.sizeOf130
 v24:=Tryz.zeroValue130}
open Go.RowKit in
theorem Tryz.strings_CutSuffix(s p:ByteArray)(w:World)(hs:s.size<=9223372036854775807):
 Calls Tryz.prog 157 #[.string s,.string p] w fun e w' =>e=.returned (.tuple #[.string ⟨(Lib.trimSuffix s.data.toList p.data.toList).toArray⟩,.bool (Lib.hasSuffix s.data.toList p.data.toList)])/\w' =w:=Any.strings_CutSuffix Tryz.lays104 s p w hs
def Tryz.lays172_ren:Go.Shelf.Ren:=⟨fun | 172=>186 | 244=>204 | 245=>205 | 247=>222 | 279=>223 | 280=>224 | 281=>225 | 282=>226 | 287=>236 | 316=>237 | 171=>92 | 205=>238 | 321=>250 | 322=>251 | 243=>124 | 246=>155 | 283=>180 | 284=>181 | 285=>182 | 286=>183 | 129=>200 | 317=>199 | 318=>201 | 319=>202 | 320=>203 | 337=>220 | 338=>221 | n=>n,fun | 9=>9 | 3=>3 | 75=>206 | 76=>207 | 4=>4 | 5=>5 | 167=>247 | 37=>23 | 0=>0 | 85=>248 | 2=>2 | 168=>250 | 53=>200 | 175=>273 | 46=>162 | 210=>276 | 127=>253 | 145=>293 | 143=>291 | 21=>21 | 171=>199 | 173=>203 | 212=>220 | 51=>172 | 20=>20 | 213=>221 | 232=>271 | 233=>272 | 80=>228 | n=>n,fun | 15=>6 | 16=>7 | 17=>1 | 18=>4 | 19=>5 | n=>n⟩
theorem Tryz.lays172:Go.Proofs.Lays.n172 Tryz.prog Tryz.lays172_ren:={
 mixed:=by kernel_rfl
 f129:=Tryz.func200.trans (congrArg some (by kernel_rfl))
 f171:=Tryz.func92.trans (congrArg some (by kernel_rfl))
 f172:=Tryz.func186.trans (congrArg some (by kernel_rfl))
 f205:=Tryz.func238.trans (congrArg some (by kernel_rfl))
 f243:=Tryz.func124.trans (congrArg some (by kernel_rfl))
 f244:=Tryz.func204.trans (congrArg some (by kernel_rfl))
 f245:=Tryz.func205.trans (congrArg some (by kernel_rfl))
 f246:=Tryz.func155.trans (congrArg some (by kernel_rfl))
 f247:=Tryz.func222.trans (congrArg some (by kernel_rfl))
 f279:=Tryz.func223.trans (congrArg some (by kernel_rfl))
 f280:=Tryz.func224.trans (congrArg some (by kernel_rfl))
 f281:=Tryz.func225.trans (congrArg some (by kernel_rfl))
 f282:=Tryz.func226.trans (congrArg some (by kernel_rfl))
 f283:=Tryz.func180.trans (congrArg some (by kernel_rfl))
 f284:=Tryz.func181.trans (congrArg some (by kernel_rfl))
 f285:=Tryz.func182.trans (congrArg some (by kernel_rfl))
 f286:=Tryz.func183.trans (congrArg some (by kernel_rfl))
 f287:=Tryz.func236.trans (congrArg some (by kernel_rfl))
 f316:=Tryz.func237.trans (congrArg some (by kernel_rfl))
 f317:=Tryz.func199.trans (congrArg some (by kernel_rfl))
 f318:=Tryz.func201.trans (congrArg some (by kernel_rfl))
 f319:=Tryz.func202.trans (congrArg some (by kernel_rfl))
 f320:=Tryz.func203.trans (congrArg some (by kernel_rfl))
 f321:=Tryz.func250.trans (congrArg some (by kernel_rfl))
 f322:=Tryz.func251.trans (congrArg some (by kernel_rfl))
 f337:=Tryz.func220.trans (congrArg some (by kernel_rfl))
 f338:=Tryz.func221.trans (congrArg some (by kernel_rfl))
 t0:=Tryz.underlying0
 a0:=Tryz.isAgg0
 z0:=Tryz.sizeOf0
 v0:=Tryz.zeroValue0
 t2:=Tryz.underlying2
 a2:=Tryz.isAgg2
 z2:=Tryz.sizeOf2
 v2:=Tryz.zeroValue2
 t3:=Tryz.underlying3
 a3:=Tryz.isAgg3
 z3:=Tryz.sizeOf3
 v3:=Tryz.zeroValue3
 t4:=Tryz.underlying4
 a4:=Tryz.isAgg4
 z4:=Tryz.sizeOf4
 v4:=Tryz.zeroValue4
 t5:=Tryz.underlying5
 a5:=Tryz.isAgg5
 z5:=Tryz.sizeOf5
 v5:=Tryz.zeroValue5
 t9:=Tryz.underlying9
 a9:=Tryz.isAgg9
 z9:=Tryz.sizeOf9
 v9:=Tryz.zeroValue9
 t20:=Tryz.underlying20
 a20:=Tryz.isAgg20
 z20:=Tryz.sizeOf20
 v20:=Tryz.zeroValue20
 t21:=Tryz.underlying21
 a21:=Tryz.isAgg21
 z21:=Tryz.sizeOf21
 v21:=Tryz.zeroValue21
 t37:=Tryz.underlying23
 a37:=Tryz.isAgg23
 z37:=Tryz.sizeOf23
 v37:=Tryz.zeroValue23
 t46:=Tryz.underlying162
 a46:=Tryz.isAgg162
 z46:=Tryz.sizeOf162
 v46:=Tryz.zeroValue162
 t51:=Tryz.underlying172
 a51:=Tryz.isAgg172
 z51:=Tryz.sizeOf172
 v51:=Tryz.zeroValue172
 t53:=Tryz.underlying200
 a53:=Tryz.isAgg200
 z53:=Tryz.sizeOf200
 v53:=Tryz.zeroValue200
 t75:=Tryz.underlying206
 a75:=Tryz.isAgg206
 z75:=Tryz.sizeOf206
 v75:=Tryz.zeroValue206
 t76:=Tryz.underlying207
 a76:=Tryz.isAgg207
 z76:=Tryz.sizeOf207
 v76:=Tryz.zeroValue207
 t85:=Tryz.underlying248
 a85:=Tryz.isAgg248
 z85:=Tryz.sizeOf248
 v85:=Tryz.zeroValue248
 t127:=Tryz.underlying253
 a127:=Tryz.isAgg253
 z127:=Tryz.sizeOf253
 v127:=Tryz.zeroValue253
 t143:=Tryz.underlying291
 a143:=Tryz.isAgg291
 z143:=Tryz.sizeOf291
 v143:=Tryz.zeroValue291
 t145:=Tryz.underlying293
 a145:=Tryz.isAgg293
 z145:=Tryz.sizeOf293
 v145:=Tryz.zeroValue293
 t167:=Tryz.underlying247
 a167:=Tryz.isAgg247
 z167:=Tryz.sizeOf247
 v167:=Tryz.zeroValue247
 t168:=Tryz.underlying250
 a168:=Tryz.isAgg250
 z168:=Tryz.sizeOf250
 v168:=Tryz.zeroValue250
 t171:=Tryz.underlying199
 a171:=Tryz.isAgg199
 z171:=Tryz.sizeOf199
 v171:=Tryz.zeroValue199
 t173:=Tryz.underlying203
 a173:=Tryz.isAgg203
 z173:=Tryz.sizeOf203
 v173:=Tryz.zeroValue203
 t175:=Tryz.underlying273
 a175:=Tryz.isAgg273
 z175:=Tryz.sizeOf273
 v175:=Tryz.zeroValue273
 t210:=Tryz.underlying276
 a210:=Tryz.isAgg276
 z210:=Tryz.sizeOf276
 v210:=Tryz.zeroValue276
 t212:=Tryz.underlying220
 a212:=Tryz.isAgg220
 z212:=Tryz.sizeOf220
 v212:=Tryz.zeroValue220
 t213:=Tryz.underlying221
 a213:=Tryz.isAgg221
 z213:=Tryz.sizeOf221
 t232:=Tryz.underlying271
 a232:=Tryz.isAgg271
 z232:=Tryz.sizeOf271
 v232:=Tryz.zeroValue271
 t233:=Tryz.underlying272
 a233:=Tryz.isAgg272
 z233:=Tryz.sizeOf272
 v233:=Tryz.zeroValue272
 g15:=by kernel_rfl
 g16:=by kernel_rfl
 g17:=by kernel_rfl
 g18:=by kernel_rfl
 g19:=by kernel_rfl}
open Go.RowKit in
theorem Tryz.strconv_Atoi(s:ByteArray)(n:Int)(hl:s.size<=18)(h:Lib.atoi s.data.toList=some n)(w:World):
 Calls Tryz.prog 186 #[.string s] w fun e w' =>e=.returned (.tuple #[.int .i64 n,.nilIface])/\∃t,w' =Lib.bytesWorld w 5 t:=Any.strconv_Atoi Tryz.lays172 s n hl h w
def Tryz.laysM171_ren:Go.Shelf.Ren:=⟨fun | 171=>92 | 243=>124 | 246=>155 | 283=>180 | 284=>181 | 285=>182 | 286=>183 | 129=>200 | 317=>199 | 318=>201 | 319=>202 | 320=>203 | 337=>220 | 338=>221 | n=>n,fun | 3=>3 | 9=>9 | 2=>2 | 4=>4 | 171=>199 | 0=>0 | 53=>200 | 37=>23 | 5=>5 | 173=>203 | 212=>220 | 51=>172 | 20=>20 | 213=>221 | 46=>162 | 232=>271 | 233=>272 | n=>n,fun | 17=>1 | 18=>4 | 19=>5 | n=>n⟩
theorem Tryz.laysM171:Go.Proofs.LaysM.n171 Tryz.prog Tryz.laysM171_ren:={
 mixed:=by kernel_rfl
 f129:=Tryz.func200.trans (congrArg some (by kernel_rfl))
 f171:=Tryz.func92.trans (congrArg some (by kernel_rfl))
 f243:=Tryz.func124.trans (congrArg some (by kernel_rfl))
 f246:=Tryz.func155.trans (congrArg some (by kernel_rfl))
 f283:=Tryz.func180.trans (congrArg some (by kernel_rfl))
 f284:=Tryz.func181.trans (congrArg some (by kernel_rfl))
 f285:=Tryz.func182.trans (congrArg some (by kernel_rfl))
 f286:=Tryz.func183.trans (congrArg some (by kernel_rfl))
 f317:=Tryz.func199.trans (congrArg some (by kernel_rfl))
 f318:=Tryz.func201.trans (congrArg some (by kernel_rfl))
 f319:=Tryz.func202.trans (congrArg some (by kernel_rfl))
 f320:=Tryz.func203.trans (congrArg some (by kernel_rfl))
 f337:=Tryz.func220.trans (congrArg some (by kernel_rfl))
 f338:=Tryz.func221.trans (congrArg some (by kernel_rfl))
 t0:=Tryz.underlying0
 a0:=Tryz.isAgg0
 z0:=Tryz.sizeOf0
 v0:=Tryz.zeroValue0
 t2:=Tryz.underlying2
 a2:=Tryz.isAgg2
 z2:=Tryz.sizeOf2
 v2:=Tryz.zeroValue2
 t3:=Tryz.underlying3
 a3:=Tryz.isAgg3
 z3:=Tryz.sizeOf3
 v3:=Tryz.zeroValue3
 t4:=Tryz.underlying4
 a4:=Tryz.isAgg4
 z4:=Tryz.sizeOf4
 v4:=Tryz.zeroValue4
 t5:=Tryz.underlying5
 a5:=Tryz.isAgg5
 z5:=Tryz.sizeOf5
 v5:=Tryz.zeroValue5
 t9:=Tryz.underlying9
 a9:=Tryz.isAgg9
 z9:=Tryz.sizeOf9
 v9:=Tryz.zeroValue9
 t20:=Tryz.underlying20
 a20:=Tryz.isAgg20
 z20:=Tryz.sizeOf20
 v20:=Tryz.zeroValue20
 t37:=Tryz.underlying23
 a37:=Tryz.isAgg23
 z37:=Tryz.sizeOf23
 v37:=Tryz.zeroValue23
 t46:=Tryz.underlying162
 a46:=Tryz.isAgg162
 z46:=Tryz.sizeOf162
 v46:=Tryz.zeroValue162
 t51:=Tryz.underlying172
 a51:=Tryz.isAgg172
 z51:=Tryz.sizeOf172
 v51:=Tryz.zeroValue172
 t53:=Tryz.underlying200
 a53:=Tryz.isAgg200
 z53:=Tryz.sizeOf200
 v53:=Tryz.zeroValue200
 t171:=Tryz.underlying199
 a171:=Tryz.isAgg199
 z171:=Tryz.sizeOf199
 v171:=Tryz.zeroValue199
 t173:=Tryz.underlying203
 a173:=Tryz.isAgg203
 z173:=Tryz.sizeOf203
 v173:=Tryz.zeroValue203
 t212:=Tryz.underlying220
 a212:=Tryz.isAgg220
 z212:=Tryz.sizeOf220
 v212:=Tryz.zeroValue220
 t213:=Tryz.underlying221
 a213:=Tryz.isAgg221
 z213:=Tryz.sizeOf221
 t232:=Tryz.underlying271
 a232:=Tryz.isAgg271
 z232:=Tryz.sizeOf271
 v232:=Tryz.zeroValue271
 t233:=Tryz.underlying272
 a233:=Tryz.isAgg272
 z233:=Tryz.sizeOf272
 v233:=Tryz.zeroValue272
 g17:=by kernel_rfl
 g18:=by kernel_rfl
 g19:=by kernel_rfl
 i0:=by kernel_rfl
 i2:=by kernel_rfl
 i3:=by kernel_rfl
 i4:=by kernel_rfl
 i5:=by kernel_rfl
 i9:=by kernel_rfl
 i20:=by kernel_rfl
 i37:=by kernel_rfl
 i46:=by kernel_rfl
 i51:=by kernel_rfl
 i53:=by kernel_rfl
 i171:=by kernel_rfl
 i173:=by kernel_rfl
 i212:=by kernel_rfl
 i232:=by kernel_rfl
 i233:=by kernel_rfl
 m17:=by kernel_rfl
 m18:=by kernel_rfl
 m19:=by kernel_rfl}
open Go.RowKit Go.Sort Go.Lib in
theorem Tryz.strconv_Itoa (n : Int) (h0 : -9223372036854775808 <= n) (h1 : n <= 9223372036854775807) (w : World) (htab : Lib.TabIs Tryz.prog w "internal/strconv.uint64pow10" .u64 Lib.pow10Tab) :
 Calls Tryz.prog 92 #[.int .i64 n] w fun e w' =>e=.returned (.string ⟨(Lib.itoa n).toArray⟩)/\∃k os,w' =grow (w.drewN k) os:=Any.strconv_Itoa Tryz.laysM171 n h0 h1 w htab
def Tryz.laysC172_ren:Go.Shelf.Ren:=⟨fun | 172=>186 | 244=>204 | 245=>205 | 247=>222 | 279=>223 | 280=>224 | 281=>225 | 282=>226 | 287=>236 | 316=>237 | 171=>92 | 205=>238 | 321=>250 | 322=>251 | 243=>124 | 246=>155 | 283=>180 | 284=>181 | 285=>182 | 286=>183 | 129=>200 | 317=>199 | 318=>201 | 319=>202 | 320=>203 | 337=>220 | 338=>221 | n=>n,fun | 9=>9 | 3=>3 | 75=>206 | 76=>207 | 4=>4 | 5=>5 | 167=>247 | 37=>23 | 0=>0 | 85=>248 | 2=>2 | 168=>250 | 53=>200 | 175=>273 | 46=>162 | 210=>276 | 127=>253 | 145=>293 | 143=>291 | 21=>21 | 171=>199 | 173=>203 | 212=>220 | 51=>172 | 20=>20 | 213=>221 | 232=>271 | 233=>272 | 80=>228 | n=>n,fun | 15=>6 | 16=>7 | 17=>1 | 18=>4 | 19=>5 | n=>n⟩
theorem Tryz.laysC172:Go.Proofs.LaysC.n172 Tryz.prog Tryz.laysC172_ren:={
 mixed:=by kernel_rfl
 f129:=Tryz.func200.trans (congrArg some (by kernel_rfl))
 f171:=Tryz.func92.trans (congrArg some (by kernel_rfl))
 f172:=Tryz.func186.trans (congrArg some (by kernel_rfl))
 f205:=Tryz.func238.trans (congrArg some (by kernel_rfl))
 f243:=Tryz.func124.trans (congrArg some (by kernel_rfl))
 f244:=Tryz.func204.trans (congrArg some (by kernel_rfl))
 f245:=Tryz.func205.trans (congrArg some (by kernel_rfl))
 f246:=Tryz.func155.trans (congrArg some (by kernel_rfl))
 f247:=Tryz.func222.trans (congrArg some (by kernel_rfl))
 f279:=Tryz.func223.trans (congrArg some (by kernel_rfl))
 f280:=Tryz.func224.trans (congrArg some (by kernel_rfl))
 f281:=Tryz.func225.trans (congrArg some (by kernel_rfl))
 f282:=Tryz.func226.trans (congrArg some (by kernel_rfl))
 f283:=Tryz.func180.trans (congrArg some (by kernel_rfl))
 f284:=Tryz.func181.trans (congrArg some (by kernel_rfl))
 f285:=Tryz.func182.trans (congrArg some (by kernel_rfl))
 f286:=Tryz.func183.trans (congrArg some (by kernel_rfl))
 f287:=Tryz.func236.trans (congrArg some (by kernel_rfl))
 f316:=Tryz.func237.trans (congrArg some (by kernel_rfl))
 f317:=Tryz.func199.trans (congrArg some (by kernel_rfl))
 f318:=Tryz.func201.trans (congrArg some (by kernel_rfl))
 f319:=Tryz.func202.trans (congrArg some (by kernel_rfl))
 f320:=Tryz.func203.trans (congrArg some (by kernel_rfl))
 f321:=Tryz.func250.trans (congrArg some (by kernel_rfl))
 f322:=Tryz.func251.trans (congrArg some (by kernel_rfl))
 f337:=Tryz.func220.trans (congrArg some (by kernel_rfl))
 f338:=Tryz.func221.trans (congrArg some (by kernel_rfl))
 t0:=Tryz.underlying0
 a0:=Tryz.isAgg0
 z0:=Tryz.sizeOf0
 v0:=Tryz.zeroValue0
 t2:=Tryz.underlying2
 a2:=Tryz.isAgg2
 z2:=Tryz.sizeOf2
 v2:=Tryz.zeroValue2
 t3:=Tryz.underlying3
 a3:=Tryz.isAgg3
 z3:=Tryz.sizeOf3
 v3:=Tryz.zeroValue3
 t4:=Tryz.underlying4
 a4:=Tryz.isAgg4
 z4:=Tryz.sizeOf4
 v4:=Tryz.zeroValue4
 t5:=Tryz.underlying5
 a5:=Tryz.isAgg5
 z5:=Tryz.sizeOf5
 v5:=Tryz.zeroValue5
 t9:=Tryz.underlying9
 a9:=Tryz.isAgg9
 z9:=Tryz.sizeOf9
 v9:=Tryz.zeroValue9
 t20:=Tryz.underlying20
 a20:=Tryz.isAgg20
 z20:=Tryz.sizeOf20
 v20:=Tryz.zeroValue20
 t21:=Tryz.underlying21
 a21:=Tryz.isAgg21
 z21:=Tryz.sizeOf21
 v21:=Tryz.zeroValue21
 t37:=Tryz.underlying23
 a37:=Tryz.isAgg23
 z37:=Tryz.sizeOf23
 v37:=Tryz.zeroValue23
 t46:=Tryz.underlying162
 a46:=Tryz.isAgg162
 z46:=Tryz.sizeOf162
 v46:=Tryz.zeroValue162
 t51:=Tryz.underlying172
 a51:=Tryz.isAgg172
 z51:=Tryz.sizeOf172
 v51:=Tryz.zeroValue172
 t53:=Tryz.underlying200
 a53:=Tryz.isAgg200
 z53:=Tryz.sizeOf200
 v53:=Tryz.zeroValue200
 t75:=Tryz.underlying206
 a75:=Tryz.isAgg206
 z75:=Tryz.sizeOf206
 v75:=Tryz.zeroValue206
 t76:=Tryz.underlying207
 a76:=Tryz.isAgg207
 z76:=Tryz.sizeOf207
 v76:=Tryz.zeroValue207
 t85:=Tryz.underlying248
 a85:=Tryz.isAgg248
 z85:=Tryz.sizeOf248
 v85:=Tryz.zeroValue248
 t127:=Tryz.underlying253
 a127:=Tryz.isAgg253
 z127:=Tryz.sizeOf253
 v127:=Tryz.zeroValue253
 t143:=Tryz.underlying291
 a143:=Tryz.isAgg291
 z143:=Tryz.sizeOf291
 v143:=Tryz.zeroValue291
 t145:=Tryz.underlying293
 a145:=Tryz.isAgg293
 z145:=Tryz.sizeOf293
 v145:=Tryz.zeroValue293
 t167:=Tryz.underlying247
 a167:=Tryz.isAgg247
 z167:=Tryz.sizeOf247
 v167:=Tryz.zeroValue247
 t168:=Tryz.underlying250
 a168:=Tryz.isAgg250
 z168:=Tryz.sizeOf250
 v168:=Tryz.zeroValue250
 t171:=Tryz.underlying199
 a171:=Tryz.isAgg199
 z171:=Tryz.sizeOf199
 v171:=Tryz.zeroValue199
 t173:=Tryz.underlying203
 a173:=Tryz.isAgg203
 z173:=Tryz.sizeOf203
 v173:=Tryz.zeroValue203
 t175:=Tryz.underlying273
 a175:=Tryz.isAgg273
 z175:=Tryz.sizeOf273
 v175:=Tryz.zeroValue273
 t210:=Tryz.underlying276
 a210:=Tryz.isAgg276
 z210:=Tryz.sizeOf276
 v210:=Tryz.zeroValue276
 t212:=Tryz.underlying220
 a212:=Tryz.isAgg220
 z212:=Tryz.sizeOf220
 v212:=Tryz.zeroValue220
 t213:=Tryz.underlying221
 a213:=Tryz.isAgg221
 z213:=Tryz.sizeOf221
 t232:=Tryz.underlying271
 a232:=Tryz.isAgg271
 z232:=Tryz.sizeOf271
 v232:=Tryz.zeroValue271
 t233:=Tryz.underlying272
 a233:=Tryz.isAgg272
 z233:=Tryz.sizeOf272
 v233:=Tryz.zeroValue272
 g15:=by kernel_rfl
 g16:=by kernel_rfl
 g17:=by kernel_rfl
 g18:=by kernel_rfl
 g19:=by kernel_rfl
 t80:=Tryz.underlying228
 a80:=Tryz.isAgg228
 z80:=Tryz.sizeOf228
 v80:=Tryz.zeroValue228
 i0:=by kernel_rfl
 i2:=by kernel_rfl
 i3:=by kernel_rfl
 i4:=by kernel_rfl
 i5:=by kernel_rfl
 i9:=by kernel_rfl
 i20:=by kernel_rfl
 i21:=by kernel_rfl
 i37:=by kernel_rfl
 i46:=by kernel_rfl
 i51:=by kernel_rfl
 i53:=by kernel_rfl
 i75:=by kernel_rfl
 i76:=by kernel_rfl
 i80:=by kernel_rfl
 i85:=by kernel_rfl
 i127:=by kernel_rfl
 i143:=by kernel_rfl
 i145:=by kernel_rfl
 i167:=by kernel_rfl
 i168:=by kernel_rfl
 i171:=by kernel_rfl
 i173:=by kernel_rfl
 i175:=by kernel_rfl
 i210:=by kernel_rfl
 i212:=by kernel_rfl
 i232:=by kernel_rfl
 i233:=by kernel_rfl
 m15:=by kernel_rfl
 m16:=by kernel_rfl
 m17:=by kernel_rfl
 m18:=by kernel_rfl
 m19:=by kernel_rfl
 c0:=by kernel_rfl
 c2:=by kernel_rfl
 c3:=by kernel_rfl
 c4:=by kernel_rfl
 c5:=by kernel_rfl
 c9:=by kernel_rfl
 c20:=by kernel_rfl
 c21:=by kernel_rfl
 c37:=by kernel_rfl
 c46:=by kernel_rfl
 c51:=by kernel_rfl
 c53:=by kernel_rfl
 c75:=by kernel_rfl
 c76:=by kernel_rfl
 c80:=by kernel_rfl
 c85:=by kernel_rfl
 c127:=by kernel_rfl
 c143:=by kernel_rfl
 c145:=by kernel_rfl
 c167:=by kernel_rfl
 c168:=by kernel_rfl
 c171:=by kernel_rfl
 c173:=by kernel_rfl
 c175:=by kernel_rfl
 c210:=by kernel_rfl
 c212:=by kernel_rfl
 c213:=by kernel_rfl
 c232:=by kernel_rfl
 c233:=by kernel_rfl}
open Go.RowKit in
theorem Tryz.strconv_Atoi_err_var (s : ByteArray) (hl : s.size <= 18) (h : Lib.atoi s.data.toList = none) (tp : TypeId) (p : Value) (w : World) (hvar : w.var? Tryz.prog "strconv.ErrSyntax" = some #[.iface tp p]) :
 Calls Tryz.prog 186 #[.string s] w fun e w' =>∃N,e=.returned (.tuple #[.int .i64 0,.iface 250 (.pointer (some ⟨N,0,none⟩))])/\w.heap.size<=N/\w'.heap[N]? =some (.cells #[.string ⟨#[65,116,111,105]⟩,.string s,.iface tp p] 276 (0,0))/\Below w.heap.size w w' :=Any.strconv_Atoi_err_var Tryz.laysC172 s hl h tp p w hvar
def Tryz.lays144_ren:Go.Shelf.Ren:=⟨fun | 144=>145 | 143=>165 | 219=>161 | 217=>141 | 225=>190 | 224=>148 | 267=>191 | 266=>162 | 314=>211 | n=>n,fun | 9=>9 | 4=>4 | 3=>3 | 5=>5 | 46=>162 | 146=>173 | 51=>172 | n=>n,fun | 1=>0 | n=>n⟩
theorem Tryz.lays144:Go.Proofs.Lays.n144 Tryz.prog Tryz.lays144_ren:={
 mixed:=by kernel_rfl
 f143:=Tryz.func165.trans (congrArg some (by kernel_rfl))
 f144:=Tryz.func145.trans (congrArg some (by kernel_rfl))
 f217:=Tryz.func141.trans (congrArg some (by kernel_rfl))
 f219:=Tryz.func161.trans (congrArg some (by kernel_rfl))
 f224:=Tryz.func148.trans (congrArg some (by kernel_rfl))
 f225:=Tryz.func190.trans (congrArg some (by kernel_rfl))
 f266:=Tryz.func162.trans (congrArg some (by kernel_rfl))
 f267:=Tryz.func191.trans (congrArg some (by kernel_rfl))
 f314:=Tryz.func211.trans (congrArg some (by kernel_rfl))
 t3:=Tryz.underlying3
 a3:=Tryz.isAgg3
 z3:=Tryz.sizeOf3
 v3:=Tryz.zeroValue3
 t4:=Tryz.underlying4
 a4:=Tryz.isAgg4
 z4:=Tryz.sizeOf4
 v4:=Tryz.zeroValue4
 t5:=Tryz.underlying5
 a5:=Tryz.isAgg5
 z5:=Tryz.sizeOf5
 v5:=Tryz.zeroValue5
 t9:=Tryz.underlying9
 a9:=Tryz.isAgg9
 z9:=Tryz.sizeOf9
 v9:=Tryz.zeroValue9
 t46:=Tryz.underlying162
 a46:=Tryz.isAgg162
 z46:=Tryz.sizeOf162
 v46:=Tryz.zeroValue162
 t51:=Tryz.underlying172
 a51:=Tryz.isAgg172
 z51:=Tryz.sizeOf172
 v51:=Tryz.zeroValue172
 t146:=Tryz.underlying173
 a146:=Tryz.isAgg173
 z146:=Tryz.sizeOf173
 v146:=Tryz.zeroValue173
 g1:=by kernel_rfl}
open Go.RowKit Go.Lib in
theorem Tryz.strings_Contains(s sub:ByteArray)(m:Int)(w:World)(hs:s.size < 4294967281)(hm:w.cell? ⟨0,0,none⟩=some (.int .i64 m)):
 Calls Tryz.prog 145 #[.string s,.string sub] w fun e w' =>e=.returned (.bool (Lib.contains s.data.toList sub.data.toList))/\w' =w:=Any.strings_Contains Tryz.lays144 s sub m w hs hm
def Tryz.lays145_ren:Go.Shelf.Ren:=⟨fun | 145=>116 | 220=>140 | 219=>161 | 217=>141 | 225=>190 | 224=>148 | 267=>191 | 266=>162 | 314=>211 | n=>n,fun | 9=>9 | 4=>4 | 59=>111 | 3=>3 | 5=>5 | 46=>162 | 146=>173 | 51=>172 | n=>n,fun | 1=>0 | n=>n⟩
theorem Tryz.lays145:Go.Proofs.Lays.n145 Tryz.prog Tryz.lays145_ren:={
 mixed:=by kernel_rfl
 f145:=Tryz.func116.trans (congrArg some (by kernel_rfl))
 f217:=Tryz.func141.trans (congrArg some (by kernel_rfl))
 f219:=Tryz.func161.trans (congrArg some (by kernel_rfl))
 f220:=Tryz.func140.trans (congrArg some (by kernel_rfl))
 f224:=Tryz.func148.trans (congrArg some (by kernel_rfl))
 f225:=Tryz.func190.trans (congrArg some (by kernel_rfl))
 f266:=Tryz.func162.trans (congrArg some (by kernel_rfl))
 f267:=Tryz.func191.trans (congrArg some (by kernel_rfl))
 f314:=Tryz.func211.trans (congrArg some (by kernel_rfl))
 t3:=Tryz.underlying3
 a3:=Tryz.isAgg3
 z3:=Tryz.sizeOf3
 v3:=Tryz.zeroValue3
 t4:=Tryz.underlying4
 a4:=Tryz.isAgg4
 z4:=Tryz.sizeOf4
 v4:=Tryz.zeroValue4
 t5:=Tryz.underlying5
 a5:=Tryz.isAgg5
 z5:=Tryz.sizeOf5
 v5:=Tryz.zeroValue5
 t9:=Tryz.underlying9
 a9:=Tryz.isAgg9
 z9:=Tryz.sizeOf9
 v9:=Tryz.zeroValue9
 t46:=Tryz.underlying162
 a46:=Tryz.isAgg162
 z46:=Tryz.sizeOf162
 v46:=Tryz.zeroValue162
 t51:=Tryz.underlying172
 a51:=Tryz.isAgg172
 z51:=Tryz.sizeOf172
 v51:=Tryz.zeroValue172
 t59:=Tryz.underlying111
 a59:=Tryz.isAgg111
 z59:=Tryz.sizeOf111
 v59:=Tryz.zeroValue111
 t146:=Tryz.underlying173
 a146:=Tryz.isAgg173
 z146:=Tryz.sizeOf173
 v146:=Tryz.zeroValue173
 g1:=by kernel_rfl}
open Go.RowKit Go.Lib in
theorem Tryz.strings_Cut(s sep:ByteArray)(m:Int)(w:World)(hs:s.size < 4294967281)(hm:w.cell? ⟨0,0,none⟩=some (.int .i64 m)):
 Calls Tryz.prog 116 #[.string s,.string sep] w fun e w' =>e=.returned (.tuple #[.string ⟨(Lib.cut s.data.toList sep.data.toList).1.toArray⟩,.string ⟨(Lib.cut s.data.toList sep.data.toList).2.1.toArray⟩,.bool (Lib.cut s.data.toList sep.data.toList).2.2])/\∃n,w' =w.drewN n:=Any.strings_Cut Tryz.lays145 s sep m w hs hm
def Tryz.lays99_ren:Go.Shelf.Ren:=⟨fun | 99=>143 | 206=>163 | n=>n,fun | 9=>9 | 4=>4 | 3=>3 | n=>n,fun | n=>n⟩
theorem Tryz.lays99:Go.Proofs.Lays.n99 Tryz.prog Tryz.lays99_ren:={
 mixed:=by kernel_rfl
 f99:=Tryz.func143.trans (congrArg some (by kernel_rfl))
 f206:=Tryz.func163.trans (congrArg some (by kernel_rfl))
 t3:=Tryz.underlying3
 a3:=Tryz.isAgg3
 z3:=Tryz.sizeOf3
 v3:=Tryz.zeroValue3
 t4:=Tryz.underlying4
 a4:=Tryz.isAgg4
 z4:=Tryz.sizeOf4
 v4:=Tryz.zeroValue4
 t9:=Tryz.underlying9
 a9:=Tryz.isAgg9
 z9:=Tryz.sizeOf9
 v9:=Tryz.zeroValue9}
open Go.RowKit Go.Lib in
theorem Tryz.strings_HasPrefix(s p:ByteArray)(w:World):
 Calls Tryz.prog 143 #[.string s,.string p] w fun e w' =>e=.returned (.bool (Lib.hasPrefix s.data.toList p.data.toList))/\w' =w:=Any.strings_HasPrefix Tryz.lays99 s p w
def Tryz.lays100_ren:Go.Shelf.Ren:=⟨fun | 100=>144 | 207=>164 | n=>n,fun | 9=>9 | 4=>4 | 3=>3 | n=>n,fun | n=>n⟩
theorem Tryz.lays100:Go.Proofs.Lays.n100 Tryz.prog Tryz.lays100_ren:={
 mixed:=by kernel_rfl
 f100:=Tryz.func144.trans (congrArg some (by kernel_rfl))
 f207:=Tryz.func164.trans (congrArg some (by kernel_rfl))
 t3:=Tryz.underlying3
 a3:=Tryz.isAgg3
 z3:=Tryz.sizeOf3
 v3:=Tryz.zeroValue3
 t4:=Tryz.underlying4
 a4:=Tryz.isAgg4
 z4:=Tryz.sizeOf4
 v4:=Tryz.zeroValue4
 t9:=Tryz.underlying9
 a9:=Tryz.isAgg9
 z9:=Tryz.sizeOf9
 v9:=Tryz.zeroValue9}
open Go.RowKit Go.Lib in
theorem Tryz.strings_HasSuffix(s p:ByteArray)(w:World)(hs:s.size<=9223372036854775807):
 Calls Tryz.prog 144 #[.string s,.string p] w fun e w' =>e=.returned (.bool (Lib.hasSuffix s.data.toList p.data.toList))/\w' =w:=Any.strings_HasSuffix Tryz.lays100 s p w hs
def Tryz.lays226_ren:Go.Shelf.Ren:=⟨fun | 226=>210 | n=>n,fun | 3=>3 | 4=>4 | n=>n,fun | n=>n⟩
theorem Tryz.lays226:Go.Proofs.Lays.n226 Tryz.prog Tryz.lays226_ren:={
 mixed:=by kernel_rfl
 f226:=Tryz.func210.trans (congrArg some (by kernel_rfl))
 t3:=Tryz.underlying3
 a3:=Tryz.isAgg3
 z3:=Tryz.sizeOf3
 v3:=Tryz.zeroValue3
 t4:=Tryz.underlying4
 a4:=Tryz.isAgg4
 z4:=Tryz.sizeOf4
 v4:=Tryz.zeroValue4}
open Go.RowKit Go.Lib in
theorem Tryz.strings_shouldUseASCIISet(n:Int)(w:World):
 Calls Tryz.prog 210 #[.int .i64 n] w fun e w' =>e=.returned (.bool (decide (8 < n)))/\w' =w:=Any.strings_shouldUseASCIISet Tryz.lays226 n w
def Tryz.lays153_ren:Go.Shelf.Ren:=⟨fun | 153=>189 | 152=>209 | 226=>210 | 227=>173 | 228=>192 | 137=>118 | 119=>229 | 224=>148 | 225=>190 | 217=>141 | 266=>162 | n=>n,fun | 9=>9 | 3=>3 | 4=>4 | 5=>5 | 21=>21 | 117=>194 | 116=>193 | 0=>0 | 46=>162 | 124=>197 | n=>n,fun | n=>n⟩
theorem Tryz.lays153:Go.Proofs.Lays.n153 Tryz.prog Tryz.lays153_ren:={
 mixed:=by kernel_rfl
 f119:=Tryz.func229.trans (congrArg some (by kernel_rfl))
 f137:=Tryz.func118.trans (congrArg some (by kernel_rfl))
 f152:=Tryz.func209.trans (congrArg some (by kernel_rfl))
 f153:=Tryz.func189.trans (congrArg some (by kernel_rfl))
 f217:=Tryz.func141.trans (congrArg some (by kernel_rfl))
 f224:=Tryz.func148.trans (congrArg some (by kernel_rfl))
 f225:=Tryz.func190.trans (congrArg some (by kernel_rfl))
 f226:=Tryz.func210.trans (congrArg some (by kernel_rfl))
 f227:=Tryz.func173.trans (congrArg some (by kernel_rfl))
 f228:=Tryz.func192.trans (congrArg some (by kernel_rfl))
 f266:=Tryz.func162.trans (congrArg some (by kernel_rfl))
 t0:=Tryz.underlying0
 a0:=Tryz.isAgg0
 z0:=Tryz.sizeOf0
 v0:=Tryz.zeroValue0
 t3:=Tryz.underlying3
 a3:=Tryz.isAgg3
 z3:=Tryz.sizeOf3
 v3:=Tryz.zeroValue3
 t4:=Tryz.underlying4
 a4:=Tryz.isAgg4
 z4:=Tryz.sizeOf4
 v4:=Tryz.zeroValue4
 t5:=Tryz.underlying5
 a5:=Tryz.isAgg5
 z5:=Tryz.sizeOf5
 v5:=Tryz.zeroValue5
 t9:=Tryz.underlying9
 a9:=Tryz.isAgg9
 z9:=Tryz.sizeOf9
 v9:=Tryz.zeroValue9
 t21:=Tryz.underlying21
 a21:=Tryz.isAgg21
 z21:=Tryz.sizeOf21
 v21:=Tryz.zeroValue21
 t46:=Tryz.underlying162
 a46:=Tryz.isAgg162
 z46:=Tryz.sizeOf162
 v46:=Tryz.zeroValue162
 t116:=Tryz.underlying193
 a116:=Tryz.isAgg193
 z116:=Tryz.sizeOf193
 t117:=Tryz.underlying194
 a117:=Tryz.isAgg194
 z117:=Tryz.sizeOf194
 v117:=Tryz.zeroValue194
 t124:=Tryz.underlying197
 a124:=Tryz.isAgg197
 z124:=Tryz.sizeOf197
 v124:=Tryz.zeroValue197}
open Go.RowKit Go.Lib in
theorem Tryz.strings_IndexAny_long(hv116:∀w,(zeroValue 193).run Tryz.prog w=.ok (.agg (Array.replicate 256 (.bool false))) w)(s chars:ByteArray)(w:World)(h2:2<=chars.size)(h8:8 < s.size)(hs:s.size < 4294967281)(hcs:chars.size < 4294967281)(hascii:∀(j:Nat) b,chars.data.toList[j]? =some b->b.toNat < 128):
 Calls Tryz.prog 189 #[.string s,.string chars] w fun e w' =>e=.returned (.int .i64 (Lib.indexAny s.data.toList chars.data.toList))/\w' =((w.alloc (.cells (Lib.setCells chars.data.toList) 193)).alloc (.cells (Lib.setCells chars.data.toList) 193)):=Any.strings_IndexAny_long Tryz.lays153 hv116 (by kernel_rfl) s chars w h2 h8 hs hcs hascii
open Go.RowKit Go.Lib in
theorem Tryz.strings_IndexAny(hv116:∀w,(zeroValue 193).run Tryz.prog w=.ok (.agg (Array.replicate 256 (.bool false))) w)(s chars:ByteArray)(w:World)(hs:s.size < 4294967281)(hcs:chars.size < 4294967281)(has:∀(j:Nat) b,s.data.toList[j]? =some b->b.toNat < 128)(hac:∀(j:Nat) b,chars.data.toList[j]? =some b->b.toNat < 128):
 Calls Tryz.prog 189 #[.string s,.string chars] w fun e w' =>e=.returned (.int .i64 (Lib.indexAny s.data.toList chars.data.toList))/\Below w.heap.size w w' :=Any.strings_IndexAny Tryz.lays153 hv116 (by kernel_rfl) s chars w hs hcs has hac
def Tryz.lays150_ren:Go.Shelf.Ren:=⟨fun | 150=>160 | 153=>189 | 152=>209 | 226=>210 | 227=>173 | 228=>192 | 137=>118 | 119=>229 | 224=>148 | 225=>190 | 217=>141 | 266=>162 | n=>n,fun | 9=>9 | 4=>4 | 3=>3 | 5=>5 | 21=>21 | 117=>194 | 116=>193 | 0=>0 | 46=>162 | 124=>197 | n=>n,fun | n=>n⟩
theorem Tryz.lays150:Go.Proofs.Lays.n150 Tryz.prog Tryz.lays150_ren:={
 mixed:=by kernel_rfl
 f119:=Tryz.func229.trans (congrArg some (by kernel_rfl))
 f137:=Tryz.func118.trans (congrArg some (by kernel_rfl))
 f150:=Tryz.func160.trans (congrArg some (by kernel_rfl))
 f152:=Tryz.func209.trans (congrArg some (by kernel_rfl))
 f153:=Tryz.func189.trans (congrArg some (by kernel_rfl))
 f217:=Tryz.func141.trans (congrArg some (by kernel_rfl))
 f224:=Tryz.func148.trans (congrArg some (by kernel_rfl))
 f225:=Tryz.func190.trans (congrArg some (by kernel_rfl))
 f226:=Tryz.func210.trans (congrArg some (by kernel_rfl))
 f227:=Tryz.func173.trans (congrArg some (by kernel_rfl))
 f228:=Tryz.func192.trans (congrArg some (by kernel_rfl))
 f266:=Tryz.func162.trans (congrArg some (by kernel_rfl))
 t0:=Tryz.underlying0
 a0:=Tryz.isAgg0
 z0:=Tryz.sizeOf0
 v0:=Tryz.zeroValue0
 t3:=Tryz.underlying3
 a3:=Tryz.isAgg3
 z3:=Tryz.sizeOf3
 v3:=Tryz.zeroValue3
 t4:=Tryz.underlying4
 a4:=Tryz.isAgg4
 z4:=Tryz.sizeOf4
 v4:=Tryz.zeroValue4
 t5:=Tryz.underlying5
 a5:=Tryz.isAgg5
 z5:=Tryz.sizeOf5
 v5:=Tryz.zeroValue5
 t9:=Tryz.underlying9
 a9:=Tryz.isAgg9
 z9:=Tryz.sizeOf9
 v9:=Tryz.zeroValue9
 t21:=Tryz.underlying21
 a21:=Tryz.isAgg21
 z21:=Tryz.sizeOf21
 v21:=Tryz.zeroValue21
 t46:=Tryz.underlying162
 a46:=Tryz.isAgg162
 z46:=Tryz.sizeOf162
 v46:=Tryz.zeroValue162
 t116:=Tryz.underlying193
 a116:=Tryz.isAgg193
 z116:=Tryz.sizeOf193
 t117:=Tryz.underlying194
 a117:=Tryz.isAgg194
 z117:=Tryz.sizeOf194
 v117:=Tryz.zeroValue194
 t124:=Tryz.underlying197
 a124:=Tryz.isAgg197
 z124:=Tryz.sizeOf197
 v124:=Tryz.zeroValue197}
open Go.RowKit Go.Lib in
theorem Tryz.strings_ContainsAny(hv116:∀w,(zeroValue 193).run Tryz.prog w=.ok (.agg (Array.replicate 256 (.bool false))) w)(s chars:ByteArray)(w:World)(hs:s.size < 4294967281)(hcs:chars.size < 4294967281)(has:∀(j:Nat) b,s.data.toList[j]? =some b->b.toNat < 128)(hac:∀(j:Nat) b,chars.data.toList[j]? =some b->b.toNat < 128):
 Calls Tryz.prog 160 #[.string s,.string chars] w fun e w' =>e=.returned (.bool (Lib.containsAny s.data.toList chars.data.toList))/\Below w.heap.size w w' :=Any.strings_ContainsAny Tryz.lays150 hv116 (by kernel_rfl) s chars w hs hcs has hac
def Tryz.lays229_ren:Go.Shelf.Ren:=⟨fun | 229=>95 | n=>n,fun | 9=>9 | 40=>120 | 31=>26 | 152=>142 | 3=>3 | 0=>0 | 4=>4 | 21=>21 | 154=>144 | n=>n,fun | n=>n⟩
theorem Tryz.lays229:Go.Proofs.Lays.n229 Tryz.prog Tryz.lays229_ren:={
 mixed:=by kernel_rfl
 f229:=Tryz.func95.trans (congrArg some (by kernel_rfl))
 t0:=Tryz.underlying0
 a0:=Tryz.isAgg0
 z0:=Tryz.sizeOf0
 v0:=Tryz.zeroValue0
 t3:=Tryz.underlying3
 a3:=Tryz.isAgg3
 z3:=Tryz.sizeOf3
 v3:=Tryz.zeroValue3
 t4:=Tryz.underlying4
 a4:=Tryz.isAgg4
 z4:=Tryz.sizeOf4
 v4:=Tryz.zeroValue4
 t9:=Tryz.underlying9
 a9:=Tryz.isAgg9
 z9:=Tryz.sizeOf9
 v9:=Tryz.zeroValue9
 t21:=Tryz.underlying21
 a21:=Tryz.isAgg21
 z21:=Tryz.sizeOf21
 v21:=Tryz.zeroValue21
 t31:=Tryz.underlying26
 a31:=Tryz.isAgg26
 z31:=Tryz.sizeOf26
 v31:=Tryz.zeroValue26
 t40:=Tryz.underlying120
 a40:=Tryz.isAgg120
 z40:=Tryz.sizeOf120
 v40:=Tryz.zeroValue120
 t152:=Tryz.underlying142
 a152:=Tryz.isAgg142
 z152:=Tryz.sizeOf142
 v152:=Tryz.zeroValue142
 t154:=Tryz.underlying144
 a154:=Tryz.isAgg144
 z154:=Tryz.sizeOf144
 v154:=Tryz.zeroValue144}
open Go.RowKit Go.Lib in
theorem Tryz.strings_FieldsFunc(g:Nat)(lb:Array Value)(eg:∀args w,(callFunc g args).run Tryz.prog w=.ok (.enter g args) w)(p:Nat->Bool)(s:ByteArray)(w:World)(hs:s.size<=4294967296)(hp:PredAt Tryz.prog g lb encR p w):
 Calls Tryz.prog 95 #[.string s,.func (.func g) #[] lb] w fun e w' =>∃A,e=.returned (.slice (some ⟨A,0,none⟩) (Lib.goFieldsP p s).length (Lib.goFieldsP p s).length)/\w.heap.size<=A/\
  w'.ownsRow w.heap.size 9 1 (.slice (some ⟨A,0,none⟩) (Lib.goFieldsP p s).length (Lib.goFieldsP p s).length) (Lib.goFieldsP p s).length ((Lib.goFieldsP p s).map Value.string)/\Below w.heap.size w w' :=Any.strings_FieldsFunc Tryz.lays229 g lb eg p s w hs hp (by kernel_rfl) (by kernel_rfl)
def Tryz.lays185_ren:Go.Shelf.Ren:=⟨fun | 185=>121 | 187=>146 | 115=>125 | 253=>147 | 224=>148 | 254=>149 | 255=>166 | 291=>167 | n=>n,fun | 37=>23 | 3=>3 | 4=>4 | 0=>0 | 5=>5 | 46=>162 | 9=>9 | 146=>173 | 51=>172 | n=>n,fun | 1=>0 | n=>n⟩
theorem Tryz.lays185:Go.Proofs.Lays.n185 Tryz.prog Tryz.lays185_ren:={
 mixed:=by kernel_rfl
 f115:=Tryz.func125.trans (congrArg some (by kernel_rfl))
 f185:=Tryz.func121.trans (congrArg some (by kernel_rfl))
 f187:=Tryz.func146.trans (congrArg some (by kernel_rfl))
 f224:=Tryz.func148.trans (congrArg some (by kernel_rfl))
 f253:=Tryz.func147.trans (congrArg some (by kernel_rfl))
 f254:=Tryz.func149.trans (congrArg some (by kernel_rfl))
 f255:=Tryz.func166.trans (congrArg some (by kernel_rfl))
 f291:=Tryz.func167.trans (congrArg some (by kernel_rfl))
 t0:=Tryz.underlying0
 a0:=Tryz.isAgg0
 z0:=Tryz.sizeOf0
 v0:=Tryz.zeroValue0
 t3:=Tryz.underlying3
 a3:=Tryz.isAgg3
 z3:=Tryz.sizeOf3
 v3:=Tryz.zeroValue3
 t4:=Tryz.underlying4
 a4:=Tryz.isAgg4
 z4:=Tryz.sizeOf4
 v4:=Tryz.zeroValue4
 t5:=Tryz.underlying5
 a5:=Tryz.isAgg5
 z5:=Tryz.sizeOf5
 v5:=Tryz.zeroValue5
 t9:=Tryz.underlying9
 a9:=Tryz.isAgg9
 z9:=Tryz.sizeOf9
 v9:=Tryz.zeroValue9
 t37:=Tryz.underlying23
 a37:=Tryz.isAgg23
 z37:=Tryz.sizeOf23
 v37:=Tryz.zeroValue23
 t46:=Tryz.underlying162
 a46:=Tryz.isAgg162
 z46:=Tryz.sizeOf162
 v46:=Tryz.zeroValue162
 t51:=Tryz.underlying172
 a51:=Tryz.isAgg172
 z51:=Tryz.sizeOf172
 v51:=Tryz.zeroValue172
 t146:=Tryz.underlying173
 a146:=Tryz.isAgg173
 z146:=Tryz.sizeOf173
 v146:=Tryz.zeroValue173
 g1:=by kernel_rfl}
open Go.RowKit Go.Lib in
theorem Tryz.bytes_Index_longer(p q:Option Addr)(n c m d:Nat)(w:World)(h2:2<=m)(hnm:n < m)(hm:m<=9223372036854775807):
 Calls Tryz.prog 121 #[.slice p n c,.slice q m d] w fun e w' =>e=.returned (.int .i64 (-1))/\w' =w:=Any.bytes_Index_longer Tryz.lays185 p q n c m d w h2 hnm hm
def Tryz.lays187_ren:Go.Shelf.Ren:=⟨fun | 187=>146 | 255=>166 | n=>n,fun | 37=>23 | 5=>5 | 3=>3 | n=>n,fun | n=>n⟩
theorem Tryz.lays187:Go.Proofs.Lays.n187 Tryz.prog Tryz.lays187_ren:={
 mixed:=by kernel_rfl
 f187:=Tryz.func146.trans (congrArg some (by kernel_rfl))
 f255:=Tryz.func166.trans (congrArg some (by kernel_rfl))
 t3:=Tryz.underlying3
 a3:=Tryz.isAgg3
 z3:=Tryz.sizeOf3
 v3:=Tryz.zeroValue3
 t5:=Tryz.underlying5
 a5:=Tryz.isAgg5
 z5:=Tryz.sizeOf5
 v5:=Tryz.zeroValue5
 t37:=Tryz.underlying23
 a37:=Tryz.isAgg23
 z37:=Tryz.sizeOf23
 v37:=Tryz.zeroValue23}
open Go.RowKit Go.Lib in
theorem Tryz.bytes_IndexByte_at(a:Addr)(n c:Nat)(xs:List Int)(cv:Int)(w:World)(hx:xs.length=n)(hc:∀i,i < n->w.cell? (a.add i)=some (.int .u8 (xs.getD i 0))):
 Calls Tryz.prog 146 #[.slice (some a) n c,.int .u8 cv] w fun e w' =>e=.returned (.int .i64 (Lib.indexByte (Lib.bytesOf xs) cv.toNat.toUInt8))/\w' =w:=Any.bytes_IndexByte_at Tryz.lays187 a n c xs cv w hx hc
def Tryz.lays115_ren:Go.Shelf.Ren:=⟨fun | 115=>125 | n=>n,fun | 37=>23 | 4=>4 | 9=>9 | 5=>5 | n=>n,fun | n=>n⟩
theorem Tryz.lays115:Go.Proofs.Lays.n115 Tryz.prog Tryz.lays115_ren:={
 mixed:=by kernel_rfl
 f115:=Tryz.func125.trans (congrArg some (by kernel_rfl))
 t4:=Tryz.underlying4
 a4:=Tryz.isAgg4
 z4:=Tryz.sizeOf4
 v4:=Tryz.zeroValue4
 t9:=Tryz.underlying9
 a9:=Tryz.isAgg9
 z9:=Tryz.sizeOf9
 v9:=Tryz.zeroValue9
 t37:=Tryz.underlying23
 a37:=Tryz.isAgg23
 z37:=Tryz.sizeOf23
 v37:=Tryz.zeroValue23}
open Go.Proofs Go.RowKit Go.Lib in
theorem Tryz.bytes_Index_at(a1 a2:Addr)(n c1 k c2:Nat)(xs ys:List Int)(m:Int)(w:World)(hx:xs.length=n)(hy:ys.length=k)(hr1:∀x∈xs,0<=x/\x < 256)(hr2:∀y∈ys,0<=y/\y < 256)(hc1:∀i,i < n->w.cell? (a1.add i)=some (.int .u8 (xs.getD i 0)))(hc2:∀i,i < k->w.cell? (a2.add i)=some (.int .u8 (ys.getD i 0)))(hcap:n<=c1)(hs:n < 4294967281)(hk:k<=9223372036854775807)(hm:w.cell? ⟨0,0,none⟩=some (.int .i64 m)):
 Calls Tryz.prog 121 #[.slice (some a1) n c1,.slice (some a2) k c2] w fun e w' =>e=.returned (.int .i64 (Lib.index (Lib.bytesOf xs) (Lib.bytesOf ys)))/\∃q,w' =w.drewN q:=Any.bytes_Index_at Tryz.lays185 a1 a2 n c1 k c2 xs ys m w hx hy hr1 hr2 hc1 hc2 hcap hs hk hm
def Tryz.laysnb117_ren:Go.Shelf.Ren:=⟨fun | 117=>94 | 115=>125 | n=>n,fun | 37=>23 | 4=>4 | 3=>3 | 9=>9 | 5=>5 | n=>n,fun | n=>n⟩
theorem Tryz.laysnb117:Go.Proofs.Lays.nb117 Tryz.prog Tryz.laysnb117_ren:={
 mixed:=by kernel_rfl
 f115:=Tryz.func125.trans (congrArg some (by kernel_rfl))
 f117:=Tryz.func94.trans (congrArg some (by kernel_rfl))
 t3:=Tryz.underlying3
 a3:=Tryz.isAgg3
 z3:=Tryz.sizeOf3
 v3:=Tryz.zeroValue3
 t4:=Tryz.underlying4
 a4:=Tryz.isAgg4
 z4:=Tryz.sizeOf4
 v4:=Tryz.zeroValue4
 t9:=Tryz.underlying9
 a9:=Tryz.isAgg9
 z9:=Tryz.sizeOf9
 v9:=Tryz.zeroValue9
 t37:=Tryz.underlying23
 a37:=Tryz.isAgg23
 z37:=Tryz.sizeOf23
 v37:=Tryz.zeroValue23
 t5:=Tryz.underlying5
 a5:=Tryz.isAgg5
 z5:=Tryz.sizeOf5
 v5:=Tryz.zeroValue5}
def Tryz.laysnb140_ren:Go.Shelf.Ren:=⟨fun | 140=>168 | 117=>94 | 115=>125 | n=>n,fun | 37=>23 | 4=>4 | 3=>3 | 9=>9 | 5=>5 | n=>n,fun | n=>n⟩
theorem Tryz.laysnb140:Go.Proofs.Lays.nb140 Tryz.prog Tryz.laysnb140_ren:={
 mixed:=by kernel_rfl
 f115:=Tryz.func125.trans (congrArg some (by kernel_rfl))
 f117:=Tryz.func94.trans (congrArg some (by kernel_rfl))
 f140:=Tryz.func168.trans (congrArg some (by kernel_rfl))
 t3:=Tryz.underlying3
 a3:=Tryz.isAgg3
 z3:=Tryz.sizeOf3
 v3:=Tryz.zeroValue3
 t4:=Tryz.underlying4
 a4:=Tryz.isAgg4
 z4:=Tryz.sizeOf4
 v4:=Tryz.zeroValue4
 t9:=Tryz.underlying9
 a9:=Tryz.isAgg9
 z9:=Tryz.sizeOf9
 v9:=Tryz.zeroValue9
 t37:=Tryz.underlying23
 a37:=Tryz.isAgg23
 z37:=Tryz.sizeOf23
 v37:=Tryz.zeroValue23
 t5:=Tryz.underlying5
 a5:=Tryz.isAgg5
 z5:=Tryz.sizeOf5
 v5:=Tryz.zeroValue5}
def Tryz.laysnb142_ren:Go.Shelf.Ren:=⟨fun | 142=>65 | 117=>94 | 115=>125 | n=>n,fun | 37=>23 | 4=>4 | 3=>3 | 9=>9 | 5=>5 | n=>n,fun | n=>n⟩
theorem Tryz.laysnb142:Go.Proofs.Lays.nb142 Tryz.prog Tryz.laysnb142_ren:={
 mixed:=by kernel_rfl
 f115:=Tryz.func125.trans (congrArg some (by kernel_rfl))
 f117:=Tryz.func94.trans (congrArg some (by kernel_rfl))
 f142:=Tryz.func65.trans (congrArg some (by kernel_rfl))
 t3:=Tryz.underlying3
 a3:=Tryz.isAgg3
 z3:=Tryz.sizeOf3
 v3:=Tryz.zeroValue3
 t4:=Tryz.underlying4
 a4:=Tryz.isAgg4
 z4:=Tryz.sizeOf4
 v4:=Tryz.zeroValue4
 t9:=Tryz.underlying9
 a9:=Tryz.isAgg9
 z9:=Tryz.sizeOf9
 v9:=Tryz.zeroValue9
 t37:=Tryz.underlying23
 a37:=Tryz.isAgg23
 z37:=Tryz.sizeOf23
 v37:=Tryz.zeroValue23
 t5:=Tryz.underlying5
 a5:=Tryz.isAgg5
 z5:=Tryz.sizeOf5
 v5:=Tryz.zeroValue5}
theorem Tryz.bytes_Equal(v1 v2:Value)(xs ys:List Int)(w:World)(h1:(convert 23 9 v1).run Tryz.prog w=.ok (.string (strOfNums xs)) w)(h2:(convert 23 9 v2).run Tryz.prog w=.ok (.string (strOfNums ys)) w):
 Calls Tryz.prog 125 #[v1,v2] w fun e w' =>e=.returned (.bool (Lib.bytesOf xs==Lib.bytesOf ys))/\w' =w:=Any.bytes_Equal Tryz.lays115 v1 v2 xs ys w h1 h2
theorem Tryz.bytes_HasSuffix(b1 o1 n c b2 o2 m d:Nat)(xs ys:List Int)(w:World)(hx:xs.length=n)(hy:ys.length=m)(hnc:n<=c)(hbig:n<=9223372036854775807)(hc1:∀i,i < n->w.cell? ⟨b1,o1+i,none⟩=some (.int .u8 (xs.getD i 0)))(hc2:∀i,i < m->w.cell? ⟨b2,o2+i,none⟩=some (.int .u8 (ys.getD i 0))):
 Calls Tryz.prog 94 #[.slice (some ⟨b1,o1,none⟩) n c,.slice (some ⟨b2,o2,none⟩) m d] w fun e w' =>e=.returned (.bool (Lib.hasSuffix (Lib.bytesOf xs) (Lib.bytesOf ys)))/\w' =w:=Any.bytes_HasSuffix Tryz.laysnb117 b1 o1 n c b2 o2 m d xs ys w hx hy hnc hbig hc1 hc2
theorem Tryz.bytes_TrimSuffix(b1 o1 n c b2 o2 m d:Nat)(xs ys:List Int)(w:World)(hx:xs.length=n)(hy:ys.length=m)(hnc:n<=c)(hbig:n<=9223372036854775807)(hc1:∀i,i < n->w.cell? ⟨b1,o1+i,none⟩=some (.int .u8 (xs.getD i 0)))(hc2:∀i,i < m->w.cell? ⟨b2,o2+i,none⟩=some (.int .u8 (ys.getD i 0))):
 Calls Tryz.prog 168 #[.slice (some ⟨b1,o1,none⟩) n c,.slice (some ⟨b2,o2,none⟩) m d] w fun e w' =>e=.returned (Lib.bytesTrimSuffix b1 o1 n c xs ys)/\w' =w:=Any.bytes_TrimSuffix Tryz.laysnb140 b1 o1 n c b2 o2 m d xs ys w hx hy hnc hbig hc1 hc2
theorem Tryz.bytes_CutSuffix(b1 o1 n c b2 o2 m d:Nat)(xs ys:List Int)(w:World)(hx:xs.length=n)(hy:ys.length=m)(hnc:n<=c)(hbig:n<=9223372036854775807)(hc1:∀i,i < n->w.cell? ⟨b1,o1+i,none⟩=some (.int .u8 (xs.getD i 0)))(hc2:∀i,i < m->w.cell? ⟨b2,o2+i,none⟩=some (.int .u8 (ys.getD i 0))):
 Calls Tryz.prog 65 #[.slice (some ⟨b1,o1,none⟩) n c,.slice (some ⟨b2,o2,none⟩) m d] w fun e w' =>e=.returned (.tuple #[Lib.bytesTrimSuffix b1 o1 n c xs ys,.bool (Lib.hasSuffix (Lib.bytesOf xs) (Lib.bytesOf ys))])/\w' =w:=Any.bytes_CutSuffix Tryz.laysnb142 b1 o1 n c b2 o2 m d xs ys w hx hy hnc hbig hc1 hc2
theorem Tryz.bytes_IndexByte(b o n c:Nat)(xs:List Int)(cv:Int)(w:World)(hx:xs.length=n)(hc:∀i,i < n->w.cell? ⟨b,o+i,none⟩=some (.int .u8 (xs.getD i 0))):
 Calls Tryz.prog 146 #[.slice (some ⟨b,o,none⟩) n c,.int .u8 cv] w fun e w' =>e=.returned (.int .i64 (Lib.indexByte (Lib.bytesOf xs) cv.toNat.toUInt8))/\w' =w:=Any.bytes_IndexByte Tryz.lays187 b o n c xs cv w hx hc
theorem Tryz.bytes_IndexByte_nil(cv:Int)(w:World):
 Calls Tryz.prog 146 #[.slice none 0 0,.int .u8 cv] w fun e w' =>e=.returned (.int .i64 (-1))/\w' =w:=Any.bytes_IndexByte_nil Tryz.lays187 cv w
end Go.Proofs
namespace Go.Proofs.YtmmjihadplknjaaGreatDoor
open Go.RowKit
theorem zXb(g:G)(q:Nat):Old (fun _=>False) g ⟨g.w.drewN q,g.u,g.loc⟩:=
 ⟨rfl,rfl,rfl,⟨Nat.le_refl _,fun _ _=>Nat.le_refl _,fun _ _ _ _=>rfl,fun _ h=>h⟩,fun _ _ _=>⟨rfl,rfl⟩⟩
theorem KOa{g:G}{s:Str}{v:Value}(h:Rel g (.s s) v):v=.string (strB s):=kba h
theorem q9a(s:Str)(c:UInt8)(r:Int)(hr:zUa s c=some r):Run Tryz.prog 118 [.s s,.u8 c] (.i r):=by
 unfold zUa at hr;cases hr;refine ⟨⟨_,_,⟨Tryz.func118,rfl,by kernel_rfl⟩⟩,fun g vs hw hg ha=>?_⟩;obtain ⟨hsz,hrel⟩:=ha;obtain ⟨l⟩:=vs
 match l,hsz with
 | [x,y],_=>
  obtain rfl:=KOa (hrel 0 _ rfl);have e2:y=.int .u8 (c.toNat:Int):=kba (hrel 1 _ rfl);subst e2;refine callsIn_wide.2 ((Tryz.strings_IndexByte (strB s) (c.toNat:Int) g.w).mono ?_);rintro e w' ⟨rfl,rfl⟩;refine ⟨g,_,rfl,rfl,Old.refl _ g,hw,rfl,?_⟩;simp[strB];exact .pv (.b rfl)
theorem ZYa(s t:Str)(r:Bool)(hr:kJa s t=some r):Run Tryz.prog 145 [.s s,.s t] (.bo r):=by
 unfold kJa at hr;split at hr
 case isFalse=>cases hr
 rename_i hlen;cases hr;refine ⟨⟨_,_,⟨Tryz.func145,rfl,by kernel_rfl⟩⟩,fun g vs hw hg ha=>?_⟩;obtain ⟨hsz,hrel⟩:=ha;obtain ⟨l⟩:=vs
 match l,hsz with
 | [x,y],_=>
  obtain rfl:=KOa (hrel 0 _ rfl);obtain rfl:=KOa (hrel 1 _ rfl);obtain ⟨_,_,m,hm⟩:=hg.1 (0,0) (by simp[v8b]);refine callsIn_wide.2 ((Tryz.strings_Contains (strB s) (strB t) m g.w (by rw[zIa];exact hlen) hm).mono ?_);rintro e w' ⟨rfl,rfl⟩;exact ⟨g,_,rfl,rfl,Old.refl _ g,hw,rfl,.pv (.b rfl)⟩
theorem Zxa(s t:Str)(r:Str × Str × Bool)(hr:qza s t=some r):Run Tryz.prog 116 [.s s,.s t] (.tup [.s r.1,.s r.2.1,.bo r.2.2]):=by
 unfold qza at hr;split at hr
 case isFalse=>cases hr
 rename_i hlen;cases hr;refine ⟨⟨_,_,⟨Tryz.func116,rfl,by kernel_rfl⟩⟩,fun g vs hw hg ha=>?_⟩;obtain ⟨hsz,hrel⟩:=ha;obtain ⟨l⟩:=vs
 match l,hsz with
 | [x,y],_=>
  obtain rfl:=KOa (hrel 0 _ rfl);obtain rfl:=KOa (hrel 1 _ rfl);obtain ⟨_,_,m,hm⟩:=hg.1 (0,0) (by simp[v8b]);refine callsIn_wide.2 ((Tryz.strings_Cut (strB s) (strB t) m g.w (by rw[zIa];exact hlen) hm).mono ?_);rintro e w' ⟨rfl,q,rfl⟩;refine ⟨⟨g.w.drewN q,g.u,g.loc⟩,_,rfl,rfl,zXb g q,hw,rfl,.tup rfl fun i c hi=>?_⟩
  match i,hi with
  | 0,rfl=>exact .pv (.b rfl)
  | 1,rfl=>exact .pv (.b rfl)
  | 2,rfl=>exact .pv (.b rfl)
theorem vQa(a0:Str)(a1:Str)(r:Bool)(hr:z6a a0 a1=some r):Run Tryz.prog 163 [.s a0,.s a1] (.bo r):=by
 unfold z6a at hr;refine rf (fn:=Tryz.f163) ⟨Tryz.func163,rfl,by kernel_rfl⟩ rfl (fun _=>rfl) fun g0 hg=>?_
 refine rn tk 5 rfl<|jb hr (fun j1=>[(4,.bo j1)]) (fun j1=>[]) (fun j1 hr=>?_) (fun j1 hr=>?_)
 .refine rn tk 7 rfl<|bs 10 hr rfl (fun c2 hr=>?_) (fun c2 hr=>?_)
  .refine rn tk 3 rfl ?_;obtain ⟨v3,h4,hr⟩:=zaa hr;refine ug rfl rfl rfl<|wscH tk h4 rfl rfl rfl rfl<|rn tk 5 rfl ?_;cases hr;exact jn _ rfl rfl rfl
  refine rn tk 9 rfl ?_;cases hr;exact jn _ rfl rfl rfl
 refine rn tk 1 rfl ?_;cases hr;exact kr tk (.inr rfl) rfl rfl
theorem Zya(a0:Str)(a1:Str)(r:Bool)(hr:kBa a0 a1=some r):Run Tryz.prog 143 [.s a0,.s a1] (.bo r):=by
 unfold kBa at hr;refine rf (fn:=Tryz.f143) ⟨Tryz.func143,rfl,by kernel_rfl⟩ rfl (fun _=>rfl) fun g0 hg=>?_
 refine rn tk 9 rfl ?_;obtain ⟨v1,h2,hr⟩:=zaa hr;refine cl (vQa _ _ _ h2) rfl rfl<|rn tk 4 rfl ?_;cases hr;exact kr tk (.inr rfl) rfl rfl
theorem vRa(a0:Str)(a1:Str)(r:Bool)(hr:z7a a0 a1=some r):Run Tryz.prog 164 [.s a0,.s a1] (.bo r):=by
 unfold z7a at hr;refine rf (fn:=Tryz.f164) ⟨Tryz.func164,rfl,by kernel_rfl⟩ rfl (fun _=>rfl) fun g0 hg=>?_
 refine rn tk 5 rfl<|jb hr (fun j1=>[(4,.bo j1)]) (fun j1=>[]) (fun j1 hr=>?_) (fun j1 hr=>?_)
 .refine rn tk 7 rfl<|bs 10 hr rfl (fun c2 hr=>?_) (fun c2 hr=>?_)
  .refine rn tk 6 rfl ?_;obtain ⟨v3,h4,hr⟩:=zaa hr;refine ug rfl rfl rfl<|wscL tk h4 rfl rfl rfl rfl<|rn tk 5 rfl ?_;cases hr;exact jn _ rfl rfl rfl
  refine rn tk 12 rfl ?_;cases hr;exact jn _ rfl rfl rfl
 refine rn tk 1 rfl ?_;cases hr;exact kr tk (.inr rfl) rfl rfl
theorem Zza(a0:Str)(a1:Str)(r:Bool)(hr:kCa a0 a1=some r):Run Tryz.prog 144 [.s a0,.s a1] (.bo r):=by
 unfold kCa at hr;refine rf (fn:=Tryz.f144) ⟨Tryz.func144,rfl,by kernel_rfl⟩ rfl (fun _=>rfl) fun g0 hg=>?_
 refine rn tk 9 rfl ?_;obtain ⟨v1,h2,hr⟩:=zaa hr;refine cl (vRa _ _ _ h2) rfl rfl<|rn tk 4 rfl ?_;cases hr;exact kr tk (.inr rfl) rfl rfl
theorem KPa(a0:Str)(r:Bool)(hr:q5a a0=some r):Run Tryz.prog 119 [.s a0] (.bo r):=by
 unfold q5a at hr;refine rf (fn:=Tryz.f119) ⟨Tryz.func119,rfl,by kernel_rfl⟩ rfl (fun _=>rfl) fun g0 hg=>?_
 refine rn tk 10 rfl<|jb hr (fun j1=>[(2,.bo j1)]) (fun j1=>[]) (fun j1 hr=>?_) (fun j1 hr=>?_)
 .refine rn tk 4 rfl<|bs 6 hr rfl (fun c2 hr=>?_) (fun c2 hr=>?_)
  .refine rn tk 5 rfl<|bs 11 hr rfl (fun c3 hr=>?_) (fun c3 hr=>?_)
   .refine rn tk 2 rfl<|ug rfl rfl rfl<|ct hr (fun j4=>[(0,.s a0),(11,.bo true),(14,.bo j4)]) (fun j4=>[]) (fun j4 hr jump4=>?_) (fun j4 hr=>?_)
    .refine il (fn:=Tryz.f82) (args:=[.s a0,.fn (.func 142) [] []]) 400000 499999 [(0,.s a0),(11,.bo true)] rfl ⟨Tryz.func82,rfl,by kernel_rfl⟩ rfl rfl rfl fun T4 ds4=>?_
     refine rn tk 14 rfl<|al2 hr (fun s5=>[(0,.s a0),(1,.fn (.func 142) [] []),(7,.i ((a0.length:Int))),(8,.i s5)]) (fun s5=>[(499999,.sus g0.w.heap.size ds4),(400000,.hold (.s a0) (T4.getD 0 undef)),(400011,.hold (.bo true) (T4.getD 11 undef))]) (.exit 0) (fun b6=>[]) (fun b6=>[(499999,.sus g0.w.heap.size ds4),(400000,.hold (.s a0) (T4.getD 0 undef)),(400011,.hold (.bo true) (T4.getD 11 undef))]) .ret (fun b7=>[(4,.bo false)]) (fun b7=>[(499999,.sus g0.w.heap.size ds4),(400000,.hold (.s a0) (T4.getD 0 undef)),(400011,.hold (.bo true) (T4.getD 11 undef))]) rfl rfl (fun s5 x9 hr=>?_) (fun b6 hr=>?_) (fun b7 hr=>?_)
     .unfold k9a at hr;refine rn tk 6 rfl<|ac 9 hr rfl (fun c10 hr=>?_) (fun c10 hr=>?_)
      .refine rn tk 15 rfl ?_;obtain ⟨v11,h12,hr⟩:=zaa hr;refine ws tk h12 rfl rfl rfl rfl<|il (fn:=Tryz.f142) (args:=[.u8 v11]) 600000 699999 [(0,.s a0),(1,.fn (.func 142) [] []),(7,.i ((a0.length:Int))),(8,.i s5)] rfl ⟨Tryz.func142,rfl,by kernel_rfl⟩ rfl rfl rfl fun T6 ds6=>?_
       refine rn tk 5 rfl<|jb hr (fun j13=>[(2,.bo j13)]) (fun j13=>[(699999,.sus g0.w.heap.size ds6),(600000,.hold (.s a0) (T6.getD 0 undef)),(600001,.hold (.fn (.func 142) [] []) (T6.getD 1 undef)),(600007,.hold (.i ((a0.length:Int))) (T6.getD 7 undef)),(600008,.hold (.i s5) (T6.getD 8 undef)),(499999,.sus g0.w.heap.size ds4),(400000,.hold (.s a0) (T4.getD 0 undef)),(400011,.hold (.bo true) (T4.getD 11 undef))]) (fun j13 hr=>?_) (fun j13 hr=>?_)
       .refine rn tk 4 rfl<|bs 5 hr rfl (fun c14 hr=>?_) (fun c14 hr=>?_)
        .refine rn tk 4 rfl<|bs 9 hr rfl (fun c15 hr=>?_) (fun c15 hr=>?_)
         .refine rn tk 17 rfl ?_;cases hr;exact jn _ rfl rfl rfl
         refine rn tk 3 rfl<|bs 12 hr rfl (fun c16 hr=>?_) (fun c16 hr=>?_)
         .refine rn tk 5 rfl<|bs 17 hr rfl (fun c17 hr=>?_) (fun c17 hr=>?_)
          .refine rn tk 9 rfl ?_;cases hr;exact jn _ rfl rfl rfl
          refine rn tk 4 rfl<|bs 21 hr rfl (fun c18 hr=>?_) (fun c18 hr=>?_)
          .refine rn tk 5 rfl ?_;cases hr;exact jn _ rfl rfl rfl
          refine rn tk 5 rfl ?_;cases hr;exact jn _ rfl rfl rfl
         refine rn tk 9 rfl<|bs 21 hr rfl (fun c19 hr=>?_) (fun c19 hr=>?_)
         .refine rn tk 5 rfl ?_;cases hr;exact jn _ rfl rfl rfl
         refine rn tk 5 rfl ?_;cases hr;exact jn _ rfl rfl rfl
        refine rn tk 7 rfl<|bs 12 hr rfl (fun c20 hr=>?_) (fun c20 hr=>?_)
        .refine rn tk 5 rfl<|bs 17 hr rfl (fun c21 hr=>?_) (fun c21 hr=>?_)
         .refine rn tk 9 rfl ?_;cases hr;exact jn _ rfl rfl rfl
         refine rn tk 4 rfl<|bs 21 hr rfl (fun c22 hr=>?_) (fun c22 hr=>?_)
         .refine rn tk 5 rfl ?_;cases hr;exact jn _ rfl rfl rfl
         refine rn tk 5 rfl ?_;cases hr;exact jn _ rfl rfl rfl
        refine rn tk 9 rfl<|bs 21 hr rfl (fun c23 hr=>?_) (fun c23 hr=>?_)
        .refine rn tk 5 rfl ?_;cases hr;exact jn _ rfl rfl rfl
        refine rn tk 5 rfl ?_;cases hr;exact jn _ rfl rfl rfl
       refine rn tk 1 rfl ?_;refine ie tk [.bo j13] [(0,.s a0),(1,.fn (.func 142) [] []),(7,.i ((a0.length:Int))),(8,.i s5)] [(499999,.sus g0.w.heap.size ds4),(400000,.hold (.s a0) (T4.getD 0 undef)),(400011,.hold (.bo true) (T4.getD 11 undef))] (.inr rfl) rfl rfl rfl rfl (hO ?_);refine rn tk 3 rfl<|ac 16 hr rfl (fun c24 hr=>?_) (fun c24 hr=>?_)
       .refine rn tk 8 rfl ?_;cases hr;exact ato rfl rfl rfl rfl
       refine rn tk 7 rfl ?_;cases hr;exact atc rfl rfl
      refine rn tk 2 rfl ?_;cases hr;exact ato rfl rfl rfl rfl
     .refine rn tk 8 rfl ?_;refine ie tk [.bo true] [(0,.s a0),(11,.bo true)] [] (.inr rfl) rfl rfl rfl rfl ?_;cases hr;exact jump4 _ _ rfl rfl
     refine rn tk 2 rfl ?_;refine ie tk [.bo false] [(0,.s a0),(11,.bo true)] [] (.inr rfl) rfl rfl rfl rfl ?_;cases hr;exact jump4 _ _ rfl rfl
    refine rn tk 2 rfl<|bs 16 hr rfl (fun c25 hr=>?_) (fun c25 hr=>?_)
    .refine rn tk 1 rfl ?_;obtain ⟨v26,h27,hr⟩:=zaa hr;refine ug rfl rfl rfl<|cl (Zya _ _ _ h27) rfl rfl<|rn tk 3 rfl<|bs 21 hr rfl (fun c28 hr=>?_) (fun c28 hr=>?_)
     .refine rn tk 1 rfl ?_;obtain ⟨v29,h30,hr⟩:=zaa hr;refine ug rfl rfl rfl<|cl (Zza _ _ _ h30) rfl rfl<|rn tk 3 rfl<|bs 26 hr rfl (fun c31 hr=>?_) (fun c31 hr=>?_)
      .refine rn tk 1 rfl ?_;obtain ⟨v32,h33,hr⟩:=zaa hr;refine ug rfl rfl rfl<|cl (ZYa _ _ _ h33) rfl rfl<|rn tk 4 rfl ?_;cases hr;exact jn _ rfl rfl rfl
      refine rn tk 6 rfl ?_;cases hr;exact jn _ rfl rfl rfl
     refine rn tk 11 rfl ?_;cases hr;exact jn _ rfl rfl rfl
    refine rn tk 16 rfl ?_;cases hr;exact jn _ rfl rfl rfl
   refine rn tk 21 rfl ?_;cases hr;exact jn _ rfl rfl rfl
  refine rn tk 26 rfl ?_;cases hr;exact jn _ rfl rfl rfl
 refine rn tk 1 rfl ?_;cases hr;exact kr tk (.inr rfl) rfl rfl
theorem Qpa(a0:Str)(r:Str × Str × Bool)(hr:vsa a0=some r):Run Tryz.prog 86 [.s a0] (.tup [.s r.1,.s r.2.1,.bo r.2.2]):=by
 unfold vsa at hr;refine rf (fn:=Tryz.f86) ⟨Tryz.func86,rfl,by kernel_rfl⟩ rfl (fun _=>rfl) fun g0 hg=>?_
 refine rn tk 10 rfl ?_;obtain ⟨v1,h2,hr⟩:=zaa hr;refine cl (Zxa _ _ _ h2) rfl rfl<|rn tk 14 rfl<|jb hr (fun j3=>[(2,.s v1.1),(3,.s v1.2.1),(4,.bo j3)]) (fun j3=>[]) (fun j3 hr=>?_) (fun j3 hr=>?_)
 .refine rn tk 5 rfl<|bs 15 hr rfl (fun c4 hr=>?_) (fun c4 hr=>?_)
  .refine rn tk 4 rfl<|bs 19 hr rfl (fun c5 hr=>?_) (fun c5 hr=>?_)
   .refine rn tk 5 rfl<|bs 24 hr rfl (fun c6 hr=>?_) (fun c6 hr=>?_)
    .refine rn tk 2 rfl<|ug rfl rfl rfl<|ct hr (fun j7=>[(3,.s v1.2.1),(12,.s v1.1),(13,.s v1.2.1),(24,.bo true),(27,.bo j7)]) (fun j7=>[]) (fun j7 hr jump4=>?_) (fun j7 hr=>?_)
     .refine il (fn:=Tryz.f82) (args:=[.s v1.1,.fn (.func 117) [] []]) 400000 499999 [(3,.s v1.2.1),(12,.s v1.1),(13,.s v1.2.1),(24,.bo true)] rfl ⟨Tryz.func82,rfl,by kernel_rfl⟩ rfl rfl rfl fun T4 ds4=>?_
      refine rn tk 14 rfl<|al2 hr (fun s8=>[(0,.s v1.1),(1,.fn (.func 117) [] []),(7,.i ((v1.1.length:Int))),(8,.i s8)]) (fun s8=>[(499999,.sus g0.w.heap.size ds4),(400003,.hold (.s v1.2.1) (T4.getD 3 undef)),(400012,.hold (.s v1.1) (T4.getD 12 undef)),(400013,.hold (.s v1.2.1) (T4.getD 13 undef)),(400024,.hold (.bo true) (T4.getD 24 undef))]) (.exit 0) (fun b9=>[]) (fun b9=>[(499999,.sus g0.w.heap.size ds4),(400003,.hold (.s v1.2.1) (T4.getD 3 undef)),(400012,.hold (.s v1.1) (T4.getD 12 undef)),(400013,.hold (.s v1.2.1) (T4.getD 13 undef)),(400024,.hold (.bo true) (T4.getD 24 undef))]) .ret (fun b10=>[(4,.bo false)]) (fun b10=>[(499999,.sus g0.w.heap.size ds4),(400003,.hold (.s v1.2.1) (T4.getD 3 undef)),(400012,.hold (.s v1.1) (T4.getD 12 undef)),(400013,.hold (.s v1.2.1) (T4.getD 13 undef)),(400024,.hold (.bo true) (T4.getD 24 undef))]) rfl rfl (fun s8 x12 hr=>?_) (fun b9 hr=>?_) (fun b10 hr=>?_)
      .unfold qla at hr;refine rn tk 6 rfl<|ac 9 hr rfl (fun c13 hr=>?_) (fun c13 hr=>?_)
       .refine rn tk 15 rfl ?_;obtain ⟨v14,h15,hr⟩:=zaa hr;refine ws tk h15 rfl rfl rfl rfl<|il (fn:=Tryz.f117) (args:=[.u8 v14]) 600000 699999 [(0,.s v1.1),(1,.fn (.func 117) [] []),(7,.i ((v1.1.length:Int))),(8,.i s8)] rfl ⟨Tryz.func117,rfl,by kernel_rfl⟩ rfl rfl rfl fun T6 ds6=>?_
        refine rn tk 5 rfl<|jb hr (fun j16=>[(2,.bo j16)]) (fun j16=>[(699999,.sus g0.w.heap.size ds6),(600000,.hold (.s v1.1) (T6.getD 0 undef)),(600001,.hold (.fn (.func 117) [] []) (T6.getD 1 undef)),(600007,.hold (.i ((v1.1.length:Int))) (T6.getD 7 undef)),(600008,.hold (.i s8) (T6.getD 8 undef)),(499999,.sus g0.w.heap.size ds4),(400003,.hold (.s v1.2.1) (T4.getD 3 undef)),(400012,.hold (.s v1.1) (T4.getD 12 undef)),(400013,.hold (.s v1.2.1) (T4.getD 13 undef)),(400024,.hold (.bo true) (T4.getD 24 undef))]) (fun j16 hr=>?_) (fun j16 hr=>?_)
        .refine rn tk 2 rfl ?_;obtain ⟨v17,h18,hr⟩:=zaa hr;refine cl (j2a _ _ h18) rfl rfl<|rn tk 1 rfl<|bs 5 hr rfl (fun c19 hr=>?_) (fun c19 hr=>?_)
         .refine rn tk 6 rfl ?_;cases hr;exact jn _ rfl rfl rfl
         refine rn tk 1 rfl ?_;obtain ⟨v20,h21,hr⟩:=zaa hr;refine ug rfl rfl rfl<|cl (q9a _ _ _ h21) rfl rfl<|rn tk 4 rfl ?_;cases hr;exact jn _ rfl rfl rfl
        refine rn tk 1 rfl ?_;refine ie tk [.bo j16] [(0,.s v1.1),(1,.fn (.func 117) [] []),(7,.i ((v1.1.length:Int))),(8,.i s8)] [(499999,.sus g0.w.heap.size ds4),(400003,.hold (.s v1.2.1) (T4.getD 3 undef)),(400012,.hold (.s v1.1) (T4.getD 12 undef)),(400013,.hold (.s v1.2.1) (T4.getD 13 undef)),(400024,.hold (.bo true) (T4.getD 24 undef))] (.inr rfl) rfl rfl rfl rfl (hO ?_);refine rn tk 3 rfl<|ac 16 hr rfl (fun c22 hr=>?_) (fun c22 hr=>?_)
        .refine rn tk 8 rfl ?_;cases hr;exact ato rfl rfl rfl rfl
        refine rn tk 7 rfl ?_;cases hr;exact atc rfl rfl
       refine rn tk 2 rfl ?_;cases hr;exact ato rfl rfl rfl rfl
      .refine rn tk 8 rfl ?_;refine ie tk [.bo true] [(3,.s v1.2.1),(12,.s v1.1),(13,.s v1.2.1),(24,.bo true)] [] (.inr rfl) rfl rfl rfl rfl ?_;cases hr;exact jump4 _ _ rfl rfl
      refine rn tk 2 rfl ?_;refine ie tk [.bo false] [(3,.s v1.2.1),(12,.s v1.1),(13,.s v1.2.1),(24,.bo true)] [] (.inr rfl) rfl rfl rfl rfl ?_;cases hr;exact jump4 _ _ rfl rfl
     refine rn tk 2 rfl<|bs 29 hr rfl (fun c23 hr=>?_) (fun c23 hr=>?_)
     .refine rn tk 1 rfl ?_;obtain ⟨v24,h25,hr⟩:=zaa hr;refine ug rfl rfl rfl<|cl (KPa _ _ h25) rfl rfl<|rn tk 5 rfl ?_;cases hr;exact jn _ rfl rfl rfl
     refine rn tk 7 rfl ?_;cases hr;exact jn _ rfl rfl rfl
    refine rn tk 12 rfl ?_;cases hr;exact jn _ rfl rfl rfl
   refine rn tk 17 rfl ?_;cases hr;exact jn _ rfl rfl rfl
  refine rn tk 21 rfl ?_;cases hr;exact jn _ rfl rfl rfl
 refine rn tk 1 rfl ?_;cases hr;exact kr tk (.inr rfl) rfl rfl
theorem qia(a0:Str)(r:Bool)(hr:kqa a0=some r):Run Tryz.prog 59 [.s a0] (.bo r):=by
 unfold kqa at hr;refine rf (fn:=Tryz.f59) ⟨Tryz.func59,rfl,by kernel_rfl⟩ rfl (fun _=>rfl) fun g0 hg=>?_
 refine rn tk 8 rfl ?_;obtain ⟨v1,h2,hr⟩:=zaa hr;refine cl (Qpa _ _ h2) rfl rfl<|rn tk 16 rfl ?_;cases hr;exact kr tk (.inr rfl) rfl rfl
theorem vLa(a0:Int)(r:Bool)(hr:kYa a0=some r):Run Tryz.prog 87 [.i a0] (.bo r):=by
 unfold kYa at hr;refine rf (fn:=Tryz.f87) ⟨Tryz.func87,rfl,by kernel_rfl⟩ rfl (fun _=>rfl) fun g0 hg=>?_
 refine rn tk 5 rfl<|jb hr (fun j1=>[(2,.bo j1)]) (fun j1=>[]) (fun j1 hr=>?_) (fun j1 hr=>?_)
 .refine rn tk 4 rfl<|bs 5 hr rfl (fun c2 hr=>?_) (fun c2 hr=>?_)
  .refine rn tk 5 rfl ?_;cases hr;exact jn _ rfl rfl rfl
  refine rn tk 5 rfl ?_;cases hr;exact jn _ rfl rfl rfl
 refine rn tk 1 rfl ?_;cases hr;exact kr tk (.inr rfl) rfl rfl
theorem v9a(a0:List zca)(r:zua)(hr:kDa a0=some r):Run Tryz.prog 60 [.l zca.pc a0] (.agg [.i r.Code,.i r.Index]):=by
 unfold kDa at hr;refine rf (fn:=Tryz.f60) ⟨Tryz.func60,rfl,by kernel_rfl⟩ rfl (fun _=>rfl) fun g0 hg=>?_
 refine rn tk 9 rfl<|wn tk rfl rfl rfl<|rn tk 4 rfl<|al2 hr (fun s1=>[(0,.l zca.pc a0),(2,.ptr 2 0),(5,.l zca.pc a0),(6,.i ((a0.length:Int))),(7,.i s1)]) (fun s1=>[(2,.cells [.i 0,.i 0])]) (.exit 0) (fun b2=>[(2,.ptr 2 0)]) (fun b2=>[(2,.cells [.i 0,.i 0])]) .ret (fun b3=>[(2,.ptr 2 0)]) (fun b3=>[(2,.cells [.i b3.Code,.i b3.Index])]) rfl rfl (fun s1 x5 hr=>?_) (fun b2 hr=>?_) (fun b3 hr=>?_)
 .unfold k3a at hr;refine rn tk 6 rfl<|ac 8 hr rfl (fun c6 hr=>?_) (fun c6 hr=>?_)
  .refine rn tk 7 rfl ?_;obtain ⟨v7,h8,hr⟩:=zaa hr;refine wi tk h8 rfl rfl rfl rfl rfl<|rn tk 11 rfl ?_;obtain ⟨v9,h10,hr⟩:=zaa hr;refine cl (qia _ _ h10) rfl rfl<|rn tk 4 rfl<|ac 12 hr rfl (fun c11 hr=>?_) (fun c11 hr=>?_)
   .refine rn tk 3 rfl ?_;obtain ⟨v12,h13,hr⟩:=zaa hr;refine cl (zma _ _ _ h13) rfl rfl<|rn tk 7 rfl ?_;cases hr;exact ato rfl rfl rfl rfl
   refine rn tk 4 rfl ?_;obtain ⟨v14,h15,hr⟩:=zaa hr;refine cl (vLa _ _ h15) rfl rfl<|rn tk 4 rfl<|ac 19 hr rfl (fun c16 hr=>?_) (fun c16 hr=>?_)
   .refine rn tk 3 rfl ?_;obtain ⟨v17,h18,hr⟩:=zaa hr;refine cl (zma _ _ _ h18) rfl rfl<|rn tk 7 rfl ?_;cases hr;exact ato rfl rfl rfl rfl
   refine rn tk 4 rfl ?_;obtain ⟨v19,h20,hr⟩:=zaa hr;refine wlH tk h20 rfl rfl rfl (fun _=>rfl) rfl<|rn tk 1 rfl<|il (fn:=Tryz.f88) (args:=[.l zca.pc v19,.fn (.func 89) [] [.ptr 4 0]]) 500000 599999 [(0,.l zca.pc a0),(2,.ptr 2 0),(3,.i s1),(5,.l zca.pc a0),(6,.i ((a0.length:Int))),(7,.i s1)] rfl ⟨Tryz.func88,rfl,by kernel_rfl⟩ rfl rfl rfl fun T5 ds5=>?_
   refine rn tk 9 rfl<|ct hr (fun j21=>[(7,.i j21)]) (fun j21=>[(599999,.sus g0.w.heap.size ds5),(500000,.hold (.l zca.pc a0) (T5.getD 0 undef)),(500002,.hold (.ptr 2 0) (T5.getD 2 undef)),(500005,.hold (.l zca.pc a0) (T5.getD 5 undef)),(500006,.hold (.i ((a0.length:Int))) (T5.getD 6 undef)),(500007,.hold (.i s1) (T5.getD 7 undef)),(500003,.hold (.i s1) (T5.getD 3 undef)),(2,.cells [.i 0,.i 0])]) (fun j21 hr jump6=>?_) (fun j21 hr=>?_)
   .refine il (fn:=Tryz.f120) (args:=[.l zca.pc v19,.fn (.func 89) [] [.ptr 4 0]]) 600000 699999 [] rfl ⟨Tryz.func120,rfl,by kernel_rfl⟩ rfl rfl rfl fun T6 ds6=>?_
    refine rn tk 9 rfl<|wn tk rfl rfl rfl<|rn tk 4 rfl<|al2 hr (fun s22=>[(0,.l zca.pc v19),(1,.fn (.func 89) [] [.ptr 4 0]),(7,.i ((v19.length:Int))),(8,.i s22)]) (fun s22=>[(699999,.sus g0.w.heap.size ds6),(599999,.sus g0.w.heap.size ds5),(500000,.hold (.l zca.pc a0) (T5.getD 0 undef)),(500002,.hold (.ptr 2 0) (T5.getD 2 undef)),(500005,.hold (.l zca.pc a0) (T5.getD 5 undef)),(500006,.hold (.i ((a0.length:Int))) (T5.getD 6 undef)),(500007,.hold (.i s1) (T5.getD 7 undef)),(500003,.hold (.i s1) (T5.getD 3 undef)),(4,.cells [.s v7.Address,.i v7.Notify]),(2,.cells [.i 0,.i 0])]) (.exit 0) (fun b23=>[]) (fun b23=>[(699999,.sus g0.w.heap.size ds6),(599999,.sus g0.w.heap.size ds5),(500000,.hold (.l zca.pc a0) (T5.getD 0 undef)),(500002,.hold (.ptr 2 0) (T5.getD 2 undef)),(500005,.hold (.l zca.pc a0) (T5.getD 5 undef)),(500006,.hold (.i ((a0.length:Int))) (T5.getD 6 undef)),(500007,.hold (.i s1) (T5.getD 7 undef)),(500003,.hold (.i s1) (T5.getD 3 undef)),(2,.cells [.i 0,.i 0])]) .ret (fun b24=>[(4,.i b24)]) (fun b24=>[(699999,.sus g0.w.heap.size ds6),(599999,.sus g0.w.heap.size ds5),(500000,.hold (.l zca.pc a0) (T5.getD 0 undef)),(500002,.hold (.ptr 2 0) (T5.getD 2 undef)),(500005,.hold (.l zca.pc a0) (T5.getD 5 undef)),(500006,.hold (.i ((a0.length:Int))) (T5.getD 6 undef)),(500007,.hold (.i s1) (T5.getD 7 undef)),(500003,.hold (.i s1) (T5.getD 3 undef)),(2,.cells [.i 0,.i 0])]) rfl rfl (fun s22 x26 hr=>?_) (fun b23 hr=>?_) (fun b24 hr=>?_)
    .unfold kwa at hr;refine rn tk 6 rfl<|ac 9 hr rfl (fun c27 hr=>?_) (fun c27 hr=>?_)
     .refine rn tk 15 rfl ?_;obtain ⟨v28,h29,hr⟩:=zaa hr;refine wi tk h29 rfl rfl rfl rfl rfl<|rn tk 1 rfl<|il (fn:=Tryz.f89) (args:=[.agg [.s v28.Address,.i v28.Notify],.ptr 4 0]) 800000 899999 [(0,.l zca.pc v19),(1,.fn (.func 89) [] [.ptr 4 0]),(5,.i s22),(7,.i ((v19.length:Int))),(8,.i s22)] rfl ⟨Tryz.func89,rfl,by kernel_rfl⟩ rfl rfl rfl fun T8 ds8=>?_
      refine rn tk 2 rfl<|wo (Jba (k:=2) 1002 rfl rfl rfl rfl rfl) rfl<|rn tk 14 rfl ?_;refine ie tk [.bo ((v28.Address==v7.Address))] [(0,.l zca.pc v19),(1,.fn (.func 89) [] [.ptr 4 0]),(5,.i s22),(7,.i ((v19.length:Int))),(8,.i s22)] [(1002,.cells [.s v28.Address,.i v28.Notify]),(699999,.sus g0.w.heap.size ds6),(599999,.sus g0.w.heap.size ds5),(500000,.hold (.l zca.pc a0) (T5.getD 0 undef)),(500002,.hold (.ptr 2 0) (T5.getD 2 undef)),(500005,.hold (.l zca.pc a0) (T5.getD 5 undef)),(500006,.hold (.i ((a0.length:Int))) (T5.getD 6 undef)),(500007,.hold (.i s1) (T5.getD 7 undef)),(500003,.hold (.i s1) (T5.getD 3 undef)),(4,.cells [.s v7.Address,.i v7.Notify]),(2,.cells [.i 0,.i 0])] (.inr rfl) rfl rfl rfl rfl (hO ?_);refine rn tk 2 rfl<|ac 16 hr rfl (fun c30 hr=>?_) (fun c30 hr=>?_)
      .refine rn tk 9 rfl ?_;cases hr;exact ato rfl rfl rfl rfl
      refine rn tk 7 rfl ?_;cases hr;exact atc rfl rfl
     refine rn tk 2 rfl ?_;cases hr;exact ato rfl rfl rfl rfl
    .refine rn tk 8 rfl ?_;refine ie tk [.i ((-1))] [] [(599999,.sus g0.w.heap.size ds5),(500000,.hold (.l zca.pc a0) (T5.getD 0 undef)),(500002,.hold (.ptr 2 0) (T5.getD 2 undef)),(500005,.hold (.l zca.pc a0) (T5.getD 5 undef)),(500006,.hold (.i ((a0.length:Int))) (T5.getD 6 undef)),(500007,.hold (.i s1) (T5.getD 7 undef)),(500003,.hold (.i s1) (T5.getD 3 undef)),(2,.cells [.i 0,.i 0])] (.inr rfl) rfl rfl rfl rfl ?_;cases hr;exact jump6 _ _ rfl rfl
    refine rn tk 2 rfl ?_;refine ie tk [.i b24] [] [(599999,.sus g0.w.heap.size ds5),(500000,.hold (.l zca.pc a0) (T5.getD 0 undef)),(500002,.hold (.ptr 2 0) (T5.getD 2 undef)),(500005,.hold (.l zca.pc a0) (T5.getD 5 undef)),(500006,.hold (.i ((a0.length:Int))) (T5.getD 6 undef)),(500007,.hold (.i s1) (T5.getD 7 undef)),(500003,.hold (.i s1) (T5.getD 3 undef)),(2,.cells [.i 0,.i 0])] (.inr rfl) rfl rfl rfl rfl ?_;cases hr;exact jump6 _ _ rfl rfl
   refine rn tk 5 rfl ?_;refine ie tk [.bo (decide (0<=j21))] [(0,.l zca.pc a0),(2,.ptr 2 0),(3,.i s1),(5,.l zca.pc a0),(6,.i ((a0.length:Int))),(7,.i s1)] [(2,.cells [.i 0,.i 0])] (.inr rfl) rfl rfl rfl rfl (hO ?_);refine rn tk 3 rfl<|ac 26 hr rfl (fun c31 hr=>?_) (fun c31 hr=>?_)
   .refine rn tk 3 rfl ?_;obtain ⟨v32,h33,hr⟩:=zaa hr;refine cl (zma _ _ _ h33) rfl rfl<|rn tk 7 rfl ?_;cases hr;exact ato rfl rfl rfl rfl
   refine rn tk 8 rfl ?_;cases hr;exact atc rfl rfl
  refine rn tk 2 rfl ?_;cases hr;exact ato rfl rfl rfl rfl
 .refine rn tk 4 rfl ?_;obtain ⟨v34,h35,hr⟩:=zaa hr;refine cl (zWa _ h35) rfl rfl<|rn tk 4 rfl ?_;cases hr;exact kr tk (.inr rfl) rfl rfl
 refine rn tk 2 rfl ?_;cases hr;exact kr tk (.inr rfl) rfl rfl
theorem qZa(a0:Int)(a1:Int)(a2:Int)(r:Bool)(hr:kSa a0 a1 a2=some r):Run Tryz.prog 61 [.i a0,.i a1,.i a2] (.bo r):=by
 unfold kSa at hr;refine rf (fn:=Tryz.f61) ⟨Tryz.func61,rfl,by kernel_rfl⟩ rfl (fun _=>rfl) fun g0 hg=>?_
 refine rn tk 5 rfl<|jb hr (fun j1=>[(6,.bo j1)]) (fun j1=>[]) (fun j1 hr=>?_) (fun j1 hr=>?_)
 .refine rn tk 5 rfl<|bs 10 hr rfl (fun c2 hr=>?_) (fun c2 hr=>?_)
  .refine rn tk 6 rfl ?_;cases hr;exact jn _ rfl rfl rfl
  refine rn tk 6 rfl ?_;cases hr;exact jn _ rfl rfl rfl
 refine rn tk 1 rfl ?_;cases hr;exact kr tk (.inr rfl) rfl rfl
def nums(l:List UInt8):List Int:=l.map fun c=>(c.toNat:Int)
theorem Q3a(l:List UInt8):Lib.bytesOf (nums l)=l:=by simp[Lib.bytesOf,nums,Function.comp_def]
theorem Y0a(l:List UInt8):∀x∈nums l,0<=x/\x < 256:=by
 intro x hx;obtain ⟨c,_,rfl⟩:=List.mem_map.1 hx;have:=c.toNat_lt;omega
theorem yYb(l:List UInt8)(i:Nat)(h:i < l.length):(nums l).getD i 0=(l[i].toNat:Int):=by simp[nums,h]
theorem KQa{g:G}{l:List UInt8}{v:Value}(h:Rel g (.l cU l) v):∃ad cap,v=.slice ad l.length cap/\l.length<=cap/\(l≠ []->∃b off,ad=some ⟨b,off,none⟩/\∀i,i < l.length->g.w.cell? ((⟨b,off,none⟩:Addr).add i)=some (.int .u8 ((nums l).getD i 0))):=by
 cases h with
 | pv h=>
  generalize hE:l.map cU=elems at h;have hEl:elems.length=l.length:=by rw[<-hE];simp
  unfold pL at h;rw[hE]at h;cases h with
  | @sl _ _ a cap size b off val hn h0 hc hz ha hu hcell h=>
   refine ⟨a,cap,by rw[hEl],by omega,fun hne=>⟨b,off,ha (by rw[<-hE];simpa using hne),fun i hi=>?_⟩⟩;have hget:elems[i]? =some (cU l[i]):=by rw[<-hE];simp[hi]
   have hs1:size=1:=by
    have:=hz _ (List.mem_of_getElem? hget);simpa[cU]using this.symm
   subst hs1;rw[vea,hcell i (by omega),yYb l i hi];have:=h i 0 _ (.b (.int .u8 (l[i].toNat:Int))) hget rfl;simp only[Nat.mul_one,Nat.add_zero]at this;have e:=kba (g:=g) (.pv this);rw[e]
theorem WZa(a b:List UInt8)(r:Int)(hr:jEa a b=some r):Run Tryz.prog 121 [.l cU a,.l cU b] (.i r):=by
 unfold jEa at hr;split at hr
 case isFalse=>cases hr
 rename_i hlen;cases hr;refine ⟨⟨_,_,⟨Tryz.func121,rfl,by kernel_rfl⟩⟩,fun g vs hw hg ha=>?_⟩;obtain ⟨hsz,hrel⟩:=ha;obtain ⟨l⟩:=vs
 match l,hsz with
 | [x,y],_=>
  have h0:Rel g (.l cU a) x:=hrel 0 _ rfl;have h1:Rel g (.l cU b) y:=hrel 1 _ rfl;obtain ⟨ad,cap,rfl,hcap,hcell⟩:=KQa h0;obtain ⟨ad2,cap2,rfl,hcap2,hcell2⟩:=KQa h1;have hb2:=hlen.2;obtain ⟨b2,o2,rfl,hc2⟩:=hcell2 (by rintro rfl;simp at hb2);refine callsIn_wide.2 ?_
  suffices hs:Calls Tryz.prog 121 #[.slice ad a.length cap,.slice (some ⟨b2,o2,none⟩) b.length cap2] g.w fun e w' =>e=.returned (.int .i64 (Lib.index a b))/\∃q,w' =g.w.drewN q by
   refine hs.mono ?_;rintro e w' ⟨rfl,q,rfl⟩;exact ⟨⟨g.w.drewN q,g.u,g.loc⟩,_,rfl,rfl,zXb g q,hw,rfl,.pv (.b rfl)⟩
  by_cases hs:a.length < 2
  .have hi:Lib.index a b= -1:=by
    match a,b,hs,hb2 with
    | [],[p,q],_,_=>rfl
    | [c],[p,q],_,_=>simp[Lib.index]
   rw[hi];exact (Tryz.bytes_Index_longer ad (some ⟨b2,o2,none⟩) a.length cap b.length cap2 g.w (by omega) (by omega) (by omega)).mono fun e w' ⟨h1,h2⟩=>⟨h1,0,h2⟩
  obtain ⟨b1,o1,rfl,hc1⟩:=hcell (by rintro rfl;simp at hs);obtain ⟨_,_,m,hm⟩:=hg.1 (0,0) (by simp[v8b]);have:=Tryz.bytes_Index_at ⟨b1,o1,none⟩ ⟨b2,o2,none⟩ a.length cap b.length cap2 (nums a) (nums b) m g.w (by simp[nums]) (by simp[nums]) (Y0a a) (Y0a b) hc1 hc2 hcap hlen.1 (by omega) hm;rw[Q3a,Q3a]at this;exact this
theorem Qqa(a0:List UInt8)(a1:List UInt8)(r:Bool)(hr:vza a0 a1=some r):Run Tryz.prog 90 [.l cU a0,.l cU a1] (.bo r):=by
 unfold vza at hr;refine rf (fn:=Tryz.f90) ⟨Tryz.func90,rfl,by kernel_rfl⟩ rfl (fun _=>rfl) fun g0 hg=>?_
 refine rn tk 9 rfl ?_;obtain ⟨v1,h2,hr⟩:=zaa hr;refine cl (WZa _ _ _ h2) rfl rfl<|rn tk 5 rfl ?_;cases hr;exact kr tk (.inr rfl) rfl rfl
theorem VFa(a0:zha)(r:Bool)(hr:wVa a0=some r):Run Tryz.prog 62 [.agg [.s a0.Name,.i a0.Size,.i a0.Many,.i a0.Phase,.bo a0.Greeted,.bo a0.Mailing,.s a0.From,.l zca.pc a0.To,.l cU a0.Buffer,.l cU a0.Data,.i a0.Lost,.i a0.Dots,.bo a0.Chunked,.i a0.Left,.bo a0.Last,.bo a0.Ignore,.i a0.Count]] (.bo r):=by
 unfold wVa at hr;refine rf (fn:=Tryz.f62) ⟨Tryz.func62,rfl,by kernel_rfl⟩ rfl (fun _=>rfl) fun g0 hg=>?_
 refine rn tk 6 rfl<|jb hr (fun j1=>[(1,.ptr 1 0),(3,.bo j1)]) (fun j1=>[(1,.cells [.s a0.Name,.i a0.Size,.i a0.Many,.i a0.Phase,.bo a0.Greeted,.bo a0.Mailing,.s a0.From,.l zca.pc a0.To,.l cU a0.Buffer,.l cU a0.Data,.i a0.Lost,.i a0.Dots,.bo a0.Chunked,.i a0.Left,.bo a0.Last,.bo a0.Ignore,.i a0.Count])]) (fun j1 hr=>?_) (fun j1 hr=>?_)
 .refine rn tk 5 rfl<|bs 7 hr rfl (fun c2 hr=>?_) (fun c2 hr=>?_)
  .refine rn tk 5 rfl<|bs 12 hr rfl (fun c3 hr=>?_) (fun c3 hr=>?_)
   .refine rn tk 6 rfl ?_;cases hr;exact jn _ rfl rfl rfl
   refine rn tk 6 rfl ?_;cases hr;exact jn _ rfl rfl rfl
  refine rn tk 11 rfl ?_;cases hr;exact jn _ rfl rfl rfl
 refine rn tk 14 rfl<|ac 19 hr rfl (fun c4 hr=>?_) (fun c4 hr=>?_)
 .refine jb hr (fun j5=>[(2,.bo j5)]) (fun j5=>[]) (fun j5 hr=>?_) (fun j5 hr=>?_)
  .refine rn tk 3 rfl<|wn tk rfl rfl rfl<|rn tk 2 rfl<|bs 25 hr rfl (fun c6 hr=>?_) (fun c6 hr=>?_)
   .refine rn tk 2 rfl ?_;refine yLa rfl (K1a (F:=cU) (l:=([(13:UInt8),(10:UInt8)]:List UInt8)) zqa zOa rfl (fun _=>rfl) rfl rfl) zqa zOa (Yua (d:=25) rfl rfl rfl rfl) (Yua (d:=25) rfl rfl rfl rfl) rfl (hO ?_);obtain ⟨v7,h8,hr⟩:=zaa hr;refine ug rfl rfl rfl<|cl (Qqa _ _ _ h8) rfl rfl<|rn tk 3 rfl<|bs 33 hr rfl (fun c9 hr=>?_) (fun c9 hr=>?_)
    .refine rn tk 5 rfl<|bs 38 hr rfl (fun c10 hr=>?_) (fun c10 hr=>?_)
     .refine rn tk 4 rfl ?_;cases hr;exact jn _ rfl rfl rfl
     refine rn tk 4 rfl ?_;cases hr;exact jn _ rfl rfl rfl
    refine rn tk 9 rfl ?_;cases hr;exact jn _ rfl rfl rfl
   refine rn tk 17 rfl ?_;cases hr;exact jn _ rfl rfl rfl
  refine rn tk 3 rfl ?_;cases hr;exact kr tk (.inr rfl) rfl rfl
 refine rn tk 6 rfl<|ac 41 hr rfl (fun c11 hr=>?_) (fun c11 hr=>?_)
 .refine jb hr (fun j12=>[(2,.bo j12)]) (fun j12=>[]) (fun j12 hr=>?_) (fun j12 hr=>?_)
  .refine rn tk 3 rfl<|wn tk rfl rfl rfl<|rn tk 2 rfl<|bs 47 hr rfl (fun c13 hr=>?_) (fun c13 hr=>?_)
   .refine rn tk 5 rfl<|bs 52 hr rfl (fun c14 hr=>?_) (fun c14 hr=>?_)
    .refine rn tk 2 rfl<|ug rfl rfl rfl<|wn tk rfl rfl rfl<|rn tk 3 rfl<|bs 58 hr rfl (fun c15 hr=>?_) (fun c15 hr=>?_)
     .refine rn tk 2 rfl ?_;obtain ⟨v16,h17,hr⟩:=zaa hr;refine ug rfl rfl rfl<|cl (qZa _ _ _ _ h17) rfl rfl<|rn tk 2 rfl<|bs 63 hr rfl (fun c18 hr=>?_) (fun c18 hr=>?_)
      .refine rn tk 4 rfl ?_;cases hr;exact jn _ rfl rfl rfl
      refine rn tk 4 rfl ?_;cases hr;exact jn _ rfl rfl rfl
     refine rn tk 9 rfl ?_;cases hr;exact jn _ rfl rfl rfl
    refine rn tk 15 rfl ?_;cases hr;exact jn _ rfl rfl rfl
   refine rn tk 20 rfl ?_;cases hr;exact jn _ rfl rfl rfl
  refine rn tk 3 rfl ?_;cases hr;exact kr tk (.inr rfl) rfl rfl
 refine rn tk 6 rfl<|ac 66 hr rfl (fun c19 hr=>?_) (fun c19 hr=>?_)
 .refine jb hr (fun j20=>[(2,.bo j20)]) (fun j20=>[]) (fun j20 hr=>?_) (fun j20 hr=>?_)
  .refine rn tk 5 rfl<|wn tk rfl rfl rfl<|rn tk 3 rfl<|bs 75 hr rfl (fun c21 hr=>?_) (fun c21 hr=>?_)
   .refine rn tk 8 rfl<|bs 83 hr rfl (fun c22 hr=>?_) (fun c22 hr=>?_)
    .refine rn tk 2 rfl<|ug rfl rfl rfl<|wn tk rfl rfl rfl<|rn tk 3 rfl<|bs 89 hr rfl (fun c23 hr=>?_) (fun c23 hr=>?_)
     .refine rn tk 5 rfl<|bs 94 hr rfl (fun c24 hr=>?_) (fun c24 hr=>?_)
      .refine rn tk 2 rfl ?_;obtain ⟨v25,h26,hr⟩:=zaa hr;refine ug rfl rfl rfl<|cl (qZa _ _ _ _ h26) rfl rfl<|rn tk 3 rfl ?_;cases hr;exact jn _ rfl rfl rfl
      refine rn tk 6 rfl ?_;cases hr;exact jn _ rfl rfl rfl
     refine rn tk 11 rfl ?_;cases hr;exact jn _ rfl rfl rfl
    refine rn tk 17 rfl ?_;cases hr;exact jn _ rfl rfl rfl
   refine rn tk 25 rfl ?_;cases hr;exact jn _ rfl rfl rfl
  refine rn tk 3 rfl ?_;cases hr;exact kr tk (.inr rfl) rfl rfl
 refine rn tk 6 rfl<|ac 99 hr rfl (fun c27 hr=>?_) (fun c27 hr=>?_)
 .refine jb hr (fun j28=>[(2,.bo j28)]) (fun j28=>[]) (fun j28 hr=>?_) (fun j28 hr=>?_)
  .refine rn tk 5 rfl<|bs 104 hr rfl (fun c29 hr=>?_) (fun c29 hr=>?_)
   .refine rn tk 2 rfl<|ug rfl rfl rfl<|wn tk rfl rfl rfl<|rn tk 3 rfl<|bs 110 hr rfl (fun c30 hr=>?_) (fun c30 hr=>?_)
    .refine rn tk 5 rfl<|bs 115 hr rfl (fun c31 hr=>?_) (fun c31 hr=>?_)
     .refine rn tk 4 rfl ?_;cases hr;exact jn _ rfl rfl rfl
     refine rn tk 4 rfl ?_;cases hr;exact jn _ rfl rfl rfl
    refine rn tk 9 rfl ?_;cases hr;exact jn _ rfl rfl rfl
   refine rn tk 15 rfl ?_;cases hr;exact jn _ rfl rfl rfl
  refine rn tk 3 rfl ?_;cases hr;exact kr tk (.inr rfl) rfl rfl
 refine rn tk 9 rfl ?_;cases hr;exact kr tk (.inr rfl) rfl rfl
end Go.Proofs.YtmmjihadplknjaaGreatDoor
