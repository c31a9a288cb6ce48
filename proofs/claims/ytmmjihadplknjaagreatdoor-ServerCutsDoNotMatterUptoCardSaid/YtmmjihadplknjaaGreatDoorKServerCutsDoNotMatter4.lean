/- Part 4 of the proof of the law ServerCutsDoNotMatter: what it needs. -/
import Derived.Test.YtmmjihadplknjaaGreatDoorKServerCutsDoNotMatter3
import Derived.Lib.ItoaMem
import Derived.Lib.Atoi
import Derived.Lib.SplitLaws
set_option linter.unusedVariables false
set_option linter.unusedSimpArgs false
set_option maxRecDepth 100000
set_option maxHeartbeats 40000000
namespace Go.Proofs.YtmmjihadplknjaaGreatDoor
open Go.RowKit
def v3a(l:List UInt8):List UInt8:=(l.reverse.dropWhile zLa).reverse
theorem kib:(fun x=>([32,9]:List UInt8).contains x)=zLa:=by
 funext x;simp[zLa,List.contains,List.elem];cases h1:x==32 <;> cases h2:x==9 <;> simp_all
theorem VGa(s:Str)(hs:s.length<=9223372036854775807):qga s [32,9]=some (v3a s):=by
 unfold qga Lib.trimRightS v3a;rw[if_pos ⟨hs,by decide,rfl⟩,kib]
theorem Jia(c:UInt8):∀b:List UInt8,Lib.index b [c]=if b.findIdx (· ==c) < b.length then ((b.findIdx (· ==c):Nat):Int) else -1
 | []=>rfl
 | x::b=>by
  have ih:=Jia c b;unfold Lib.index;rw[List.findIdx_cons,ih];have hp:([c]:List UInt8).isPrefixOf (x::b)=(x==c):=by
   simp only[List.isPrefixOf,Bool.and_true];rw[Bool.eq_iff_iff,beq_iff_eq,beq_iff_eq];exact eq_comm
  rw[hp];cases hx:x==c with
  | true=>simp
  | false=>
   simp only[Bool.false_eq_true,if_false,cond_false,List.length_cons];by_cases h:b.findIdx (· ==c) < b.length
   .rw[if_pos h,if_neg (by simp),if_pos (by omega)];simp
   rw[if_neg h,if_pos (show ((-1:Int)== -1)=true from rfl),if_neg (by omega)]
def colI(s:Str):Nat:=s.findIdx (· ==58)
def colP(s:Str):Str × Str × Bool:=if colI s < s.length then (v3a (s.take (colI s)),s.drop (colI s+1),fnP (v3a (s.take (colI s)))) else (v3a s,[],false)
theorem jGa(s:Str):(v3a s).length<=s.length:=by
 unfold v3a;rw[List.length_reverse];have:=(List.dropWhile_sublist zLa (l:=s.reverse)).length_le;simpa using this
theorem y7b(s:Str):Lib.cut s [58]=if colI s < s.length then (s.take (colI s),s.drop (colI s+1),true) else (s,[],false):=by
 unfold Lib.cut;rw[Jia,show s.findIdx (· ==58)=colI s from rfl];by_cases h:colI s < s.length
 .rw[if_pos h,if_pos h,if_pos (by omega)];simp
 rw[if_neg h,if_neg h,if_neg (by omega)]
theorem VTa(s:Str)(hs:s.length<=1048576):vWa s=some (⟨(colP s).1,(colP s).2.1⟩,(colP s).2.2):=by
 unfold vWa qsa;rw[if_pos (by omega)];simp only[Option.bind_some];rw[y7b];unfold colP;by_cases h:colI s < s.length
 .rw[if_pos h,if_pos h];dsimp only;rw[VGa _ (by simp;omega)];simp only[Option.bind_some,cond_true];rw[Kqa _ (by have:=jGa (s.take (colI s));simp at this;omega)];rfl
 rw[if_neg h,if_neg h];dsimp only;rw[VGa _ (by omega)];rfl
theorem y8b(n:Str)(hn:n.length<=1048576):(j5a ⟨n,[]⟩==0)=fnP n:=by
 have h1:=Kqa n hn;unfold wna at h1;rw[y3a n [] hn (by simp)]at h1;simp only[Option.bind_some,z9a,Option.some.injEq]at h1;rw[<-h1];show (j5a ⟨n,[]⟩==0)= !(j5a ⟨n,[]⟩ !=0);simp[bne]
theorem Jja(l:Str)(x:UInt8):v3a (l++ [x])=if zLa x then v3a l else l++ [x]:=by
 unfold v3a;rw[List.reverse_append,List.reverse_cons,List.reverse_nil,List.nil_append,List.singleton_append,List.dropWhile_cons];split
 .rfl
 simp
theorem wAb(s:Str)(hs:s.length<=1048576)(i:Nat)(hi:i<=s.length):∃k:Nat,iter (jBa s) (i:Int)=some (k:Int)/\k<=i/\s.take k=v3a (s.take i):=by
 obtain ⟨r,h1,k,h2,h3,h4⟩:=Wga (body:=jBa s) (fun n=>∃m:Nat,n=(m:Int)/\m<=i/\v3a (s.take m)=v3a (s.take i)) (fun n=>n.toNat) (fun _ r=>∃k:Nat,r=(k:Int)/\k<=i/\s.take k=v3a (s.take i)) (by
  rintro _ ⟨m,rfl,hm,he⟩;cases m with
  | zero=>exact .inl ⟨0,rfl,0,rfl,Nat.zero_le _,he⟩
  | succ m=>
   have hml:m < s.length:=by omega
   have e1:decide ((0:Int) < ((m+1:Nat):Int))=true:=by simp
   have e2:w64 (((m+1:Nat):Int) - 1)=((m:Nat):Int):=by rw[show (((m+1:Nat):Int) - 1)=((m:Nat):Int) by omega,Zia _ (by omega)]
   have hb:jBa s ((m+1:Nat):Int)=some (bif zLa s[m] then .cont (m:Int) else .out ((m+1:Nat):Int)):=by
    unfold jBa;rw[e1,e2,wqa,List.getElem?_eq_getElem hml];simp only[cond_true,Option.bind_some,yoa];cases zLa s[m] <;> rfl
   have ht:s.take (m+1)=s.take m++ [s[m]]:=by rw[List.take_add_one,List.getElem?_eq_getElem hml];rfl
   rw[ht,Jja]at he;rw[hb];cases hx:zLa s[m] with
   | true=>
    rw[hx,if_pos rfl]at he;exact .inr ⟨(m:Int),rfl,⟨m,rfl,by omega,he⟩,by simp,fun _ h=>h⟩
   | false=>
    rw[hx,if_neg (by simp)]at he;exact .inl ⟨((m+1:Nat):Int),rfl,m+1,rfl,hm,by rw[ht];exact he⟩) (i:Int) ⟨i,rfl,Nat.le_refl _,rfl⟩
 subst h2;exact ⟨k,h1,h3,h4⟩
theorem Jka(s:Str)(hs:s.length<=1048576):qyb s=some (bif (colP s).2.2 then ((colP s).1,(colP s).2.1) else ([],[])):=by
 unfold qyb;rw[zEa s (fun i x=>if x==58 then some (bif fnP (v3a (s.take i)) then (v3a (s.take i),s.drop (i+1)) else (([]:Str),([]:Str))) else none) (.inl ()) .inr]
 .rw[Vba];unfold colP;rw[show s.findIdx (· ==58)=colI s from rfl];by_cases h:colI s < s.length
  .rw[if_pos h,if_pos h];simp only[Nat.zero_add,Option.bind_some,Option.elim_some,Sum.elim_inr]
  rw[if_neg h,if_neg h];rfl
 .unfold Q4a;rw[zHa];rfl
 intro i c hc;have hi:=zIa hc;unfold Q4a;rw[kea hc,zAa hc];simp only[cond_true,Option.bind_some];rw[Z7a c 58 (by decide)];cases h10:c==58 with
 | false=>
  simp only[bne,h10,Bool.not_false,cond_true,Bool.false_eq_true,if_false,Option.elim_none];rw[sc i (by omega)]
 | true=>
  simp only[bne,h10,Bool.not_true,cond_false,if_true,Option.elim_some];obtain ⟨k,h1,h2,h3⟩:=wAb s hs i (by omega);rw[h1];simp only[Option.bind_some];rw[Zea (by omega),h3];simp only[Option.bind_some];rw[Kpa ⟨v3a (s.take i),[]⟩ (by have:=jGa (s.take i);simp at this ⊢;omega) (by simp)];simp only[Option.bind_some];rw[y8b _ (by have:=jGa (s.take i);simp at this ⊢;omega),sc i (by omega),yZa (by omega)];cases fnP (v3a (s.take i)) <;> rfl
theorem y9b{s:Str}(h:(colP s).2.2=true):(colP s).1≠ []:=by
 unfold colP at h ⊢;split
 .rename_i hc;rw[if_pos hc]at h;intro he;have h:fnP (v3a (s.take (colI s)))=true:=h;have he:v3a (s.take (colI s))=[]:=he;rw[he]at h;cases h
 rename_i hc;rw[if_neg hc]at h;cases h
theorem colP_len(s:Str):(colP s).1.length<=s.length/\(colP s).2.1.length<=s.length:=by
 unfold colP;split
 .refine ⟨?_,by simp⟩;have:=jGa (s.take (colI s));simp at this ⊢;omega
 exact ⟨jGa s,by simp⟩
def KYa(l:List UInt8):List UInt8:=l.dropWhile zLa
theorem Jla(x:UInt8)(l:Str):v3a (x::l)=if zLa x=true/\v3a l=[] then [] else x::v3a l:=by
 unfold v3a;rw[List.reverse_cons,List.dropWhile_append];cases h:(l.reverse.dropWhile zLa).isEmpty with
 | true=>
  have h0:l.reverse.dropWhile zLa=[]:=List.isEmpty_iff.1 h;rw[h0,List.dropWhile_cons];cases hx:zLa x <;> simp
 | false=>
  have h0:l.reverse.dropWhile zLa≠ []:=fun e=>by rw[e]at h;cases h
  simp[h0]
theorem kjb:∀l:Str,KYa (v3a l)=v3a (KYa l)
 | []=>rfl
 | x::l=>by
  have ih:=kjb l;rw[Jla];cases hx:zLa x with
  | false=>
   rw[if_neg (by simp)];unfold KYa;rw[List.dropWhile_cons_of_neg (by simp[hx]),List.dropWhile_cons_of_neg (by simp[hx]),Jla,if_neg (by simp[hx])]
  | true=>
   rw[show KYa (x::l)=KYa l by unfold KYa;rw[List.dropWhile_cons_of_pos hx],<-ih];split
   .rename_i h;rw[h.2]
   unfold KYa;rw[List.dropWhile_cons_of_pos hx]
def Zga(v:Str):Str:=v3a (KYa (v.map kja))
theorem Jma(v:Str):(Zga v).length<=v.length:=by
 unfold Zga KYa;have h1:=jGa ((v.map kja).dropWhile zLa);have h2:=(List.dropWhile_sublist zLa (l:=v.map kja)).length_le;simp at h2;omega
theorem Trim_eq(v:Str)(hs:v.length<=1048576):((zSa v).bind fun v48=>wOa v48 [32,9])=some (Zga v):=by
 unfold zSa wOa Lib.trimS Lib.trimLeftS Lib.trimRightS;rw[if_pos (by omega)];simp only[Option.bind_some];rw[if_pos ⟨by simp;omega,by decide,rfl⟩,kib];show some (KYa (v3a (v.map kja)))=_;rw[kjb];rfl
theorem cleaned1(s:Str)(hs:s.length<=1048576):iter (wQa s) (0,([]:List UInt8))=some (s.map kja):=by
 have h:=jEa s (fun i a=>(i,a)) (fun (a:List UInt8) c=>a++ [kja c]) id (fun i a=>a.length=i) (body:=wQa s) (fun a ha=>by
  unfold wQa;rw[zHa];rfl) (fun i c a hc ha=>by
  have hi:=zIa hc;refine ⟨?_,by simp[ha]⟩;unfold wQa;rw[kea hc,zAa hc];simp only[cond_true,Option.bind_some];rw[qEa c 0 (by decide),qEa c 13 (by decide)];have e:(bif c==0 then some true else some (c==13):Option Bool)=some (c==0 || c==13):=by cases c==0 <;> rfl
  rw[e];simp only[Option.bind_some];have e2:(bif (c==0 || c==13) then some (32:UInt8) else some c)=some (kja c):=by
   unfold kja;by_cases h0:c=0
   .subst h0;rfl
   by_cases h1:c=13
   .subst h1;rfl
   rw[beq_eq_false_iff_ne.2 h0,beq_eq_false_iff_ne.2 h1,if_neg (by simp[h0,h1])];rfl
  rw[e2];simp only[Option.bind_some];rw[zTa (by simp;omega),sc i (by omega)];rfl) [] rfl
 rw[h.1];have:∀(l:Str) (a:List UInt8),l.foldl (fun a c=>a++ [kja c]) a=a++l.map kja:=by
  intro l;induction l with
  | nil=>intro a;simp
  | cons x l ih=>intro a;rw[List.foldl_cons,ih];simp
 rw[this];rfl
theorem vyb:∀(l:Str),l.length<=1048576->iter (yXa) l=some (KYa l)
 | [],_=>zBa rfl
 | x::l,h=>by
  have hb:yXa (x::l)=some (bif zLa x then .cont l else .out (x::l)):=by
   unfold yXa;rw[show decide ((0:Int) < ((x::l).length:Int))=true by simp,show idx (x::l) 0=some x from rfl];simp only[cond_true,Option.bind_some,yoa];rw[show ((1:Int))=((1:Nat):Int) from rfl,yZa (by simp)];cases zLa x <;> rfl
  cases hx:zLa x with
  | true=>
   rw[hx]at hb;rw[zMa hb,vyb l (by simp at h;omega)];unfold KYa;rw[List.dropWhile_cons_of_pos hx]
  | false=>
   rw[hx]at hb;rw[zBa hb];unfold KYa;rw[List.dropWhile_cons_of_neg (by simp[hx])]
theorem cleaned3(n:Nat):∀(l:Str),l.length=n->l.length<=1048576->iter (yYa) l=some (v3a l):=by
 induction n with
 | zero=>
  intro l hn _;have:=List.eq_nil_of_length_eq_zero hn;subst this;exact zBa rfl
 | succ n ih=>
  intro l hn h;obtain ⟨p,x,rfl⟩:∃p x,l=p++ [x]:=⟨l.dropLast,l.getLast (by rintro rfl;simp at hn),(List.dropLast_concat_getLast _).symm⟩;have hp:p.length=n:=by simpa using hn
  have hb:yYa (p++ [x])=some (bif zLa x then .cont p else .out (p++ [x])):=by
   unfold yYa;have e2:w64 (((p++ [x]).length:Int) - 1)=(p.length:Int):=by
    rw[show (((p++ [x]).length:Int) - 1)=(p.length:Int) by simp,Zia _ (by omega)]
   rw[show decide ((0:Int) < ((p++ [x]).length:Int))=true by simp,e2,qzb p x []];simp only[cond_true,Option.bind_some,yoa];rw[Zea (by simp)];simp only[List.take_left];cases zLa x <;> rfl
  rw[Jja];cases hx:zLa x with
  | true=>
   rw[hx]at hb;rw[zMa hb,ih p hp (by omega),if_pos rfl]
  | false=>
   rw[hx]at hb;rw[zBa hb,if_neg (by simp)]
theorem kkb(s:Str)(hs:s.length<=1048576):WNa s=some (Zga s):=by
 unfold WNa;rw[cleaned1 s hs];simp only[Option.bind_some];have h2:(KYa (s.map kja)).length<=s.length:=by
  unfold KYa;have:=(List.dropWhile_sublist zLa (l:=s.map kja)).length_le;simpa using this
 rw[vyb _ (by simpa using hs)];simp only[Option.bind_some];rw[cleaned3 _ _ rfl (by omega)];rfl
def j6a:Nat->List UInt8->List UInt8
 | 0,_=>[]
 | _+1,[]=>[]
 | n+1,c::r=>if c=13 then 13::10::j6a n (if r.head? =some 10 then r.drop 1 else r) else if c=10 then 13::10::j6a n r else c::j6a n r
theorem WZa:∀(n:Nat) (l:List UInt8),(j6a n l).length<=2 * n
 | 0,_=>by simp[j6a]
 | n+1,[]=>by simp[j6a]
 | n+1,c::r=>by
  unfold j6a;split
  .have:=WZa n (if r.head? =some 10 then r.drop 1 else r);simp only[List.length_cons];omega
  have:=WZa n r;split <;> simp only[List.length_cons] <;> omega
theorem Vca:∀(n m:Nat) (l:List UInt8),l.length<=n->l.length<=m->j6a n l=j6a m l
 | 0,m,l,h,_=>by
  obtain rfl:=List.eq_nil_of_length_eq_zero (by omega:l.length=0);cases m <;> rfl
 | n+1,m,[],_,_=>by cases m <;> rfl
 | n+1,0,c::r,_,h=>by simp at h
 | n+1,m+1,c::r,h1,h2=>by
  simp only[List.length_cons]at h1 h2;unfold j6a;have hle:(if r.head? =some 10 then r.drop 1 else r).length<=r.length:=by
   split
   .simp
   exact Nat.le_refl _
  have e1:=Vca n m (if r.head? =some 10 then r.drop 1 else r) (by omega) (by omega);have e2:=Vca n m r (by omega) (by omega);rw[e1,e2]
theorem klb(b:List UInt8)(hb:b.length<=1048576){body:Int × List UInt8->Option (Step (Int × List UInt8) (List UInt8))}
 (h0:∀a,body ((b.length:Int),a)=some (.out a))
 (h1:∀(i:Nat) c a,b[i]? =some c->a.length<=3000000->body ((i:Int),a)=some (.cont (if c=13 then (((if b[i+1]? =some 10 then i+2 else i+1:Nat):Int),a++ [13,10]) else if c=10 then (((i+1:Nat):Int),a++ [13,10]) else (((i+1:Nat):Int),a++ [c])))):
 ∀(n i:Nat) (a:List UInt8),i+n=b.length->a.length<=2 * i->iter body ((i:Int),a)=some (a++j6a n (b.drop i)):=by
 intro n;induction n using Nat.strongRecOn with
 | _ n ih=>
  intro i a hn ha;cases n with
  | zero=>
   obtain rfl:i=b.length:=by omega
   rw[zBa (h0 a)];simp[j6a]
  | succ n=>
   have hi:i < b.length:=by omega
   have hd:b.drop i=b[i]::b.drop (i+1):=List.drop_eq_getElem_cons hi;have hs:=h1 i b[i] a (List.getElem?_eq_getElem hi) (by omega);rw[zMa hs,hd];unfold j6a;by_cases h13:b[i]=13
   .rw[if_pos h13,if_pos h13];have hh:(b.drop (i+1)).head? =b[i+1]? :=by rw[List.head?_drop]
    rw[hh];by_cases h10:b[i+1]? =some 10
    .rw[if_pos h10,if_pos h10];have hi1:=(List.getElem?_eq_some_iff.1 h10).1;have:=ih (n - 1) (by omega) (i+2) (a++ [13,10]) (by omega) (by simp;omega);rw[this,List.drop_drop,Vca (n - 1) n _ (by simp;omega) (by simp;omega)];simp
    rw[if_neg h10,if_neg h10];have:=ih n (by omega) (i+1) (a++ [13,10]) (by omega) (by simp;omega);rw[this];simp
   rw[if_neg h13,if_neg h13];by_cases h10:b[i]=10
   .rw[if_pos h10,if_pos h10,ih n (by omega) (i+1) (a++ [13,10]) (by omega) (by simp;omega)];simp
   rw[if_neg h10,if_neg h10,ih n (by omega) (i+1) (a++ [b[i]]) (by omega) (by simp;omega)];simp
theorem jja(c k:UInt8):(c==k)=decide (c=k):=by rw[Bool.eq_iff_iff];simp
theorem jab(b:List UInt8)(i:Nat)(hb:b.length<=1048576)(hi:i < b.length):(bif decide (w64 ((i:Int)+1) < (b.length:Int)) then (idx b (w64 ((i:Int)+1))).bind fun v11=>some ((v11.toNat:Int)==10) else some false)=some (decide (b[i+1]? =some 10)):=by
 rw[sc i (by omega)];by_cases h:i+1 < b.length
 .rw[decide_eq_true (by omega),wqa,List.getElem?_eq_getElem h];simp only[cond_true,Option.bind_some];rw[qEa _ 10 (by decide),jja]
  congr 1
  rw[Bool.eq_iff_iff];simp
 rw[decide_eq_false (by omega),List.getElem?_eq_none (by omega)];rfl
theorem VUa(b:List UInt8)(hb:b.length<=1048576):vXa b=some (j6a b.length b):=by
 unfold vXa;have:=klb b hb (body:=qDa b) (fun a=>by unfold qDa;rw[zHa];rfl) (fun i c a hc ha=>by
  have hi:=zIa hc;unfold qDa;dsimp only;rw[kea hc,zAa hc,jab b i hb hi];simp only[cond_true,Option.bind_some];rw[qEa c 13 (by decide),qEa c 10 (by decide),jja,jja];rw[zTa (show a.length+([13,10]:List UInt8).length<=_ by simp;omega),zTa (show a.length+ [c].length<=_ by simp;omega)];by_cases h13:c=13
  .rw[if_pos h13,decide_eq_true h13];simp only[cond_true,Option.bind_some];by_cases h10:b[i+1]? =some 10
   .rw[if_pos h10,decide_eq_true h10];simp only[cond_true,Option.bind_some];rw[sc i (by omega),sc (i+1) (by omega)]
   rw[if_neg h10,decide_eq_false h10];simp only[cond_false,Option.bind_some];rw[sc i (by omega)]
  rw[if_neg h13,decide_eq_false h13];simp only[cond_false,Option.bind_some];by_cases h10:c=10
  .rw[if_pos h10,decide_eq_true h10];simp only[cond_true,Option.bind_some];rw[sc i (by omega)]
  rw[if_neg h10,decide_eq_false h10];simp only[cond_false,Option.bind_some];rw[sc i (by omega)]) b.length 0 [] (by omega) (by simp)
 rw[show ((0:Int))=((0:Nat):Int) from rfl,this];rfl
theorem jbb(b:List UInt8)(hb:b.length<=1048576)(i:Nat)(hi:i<=b.length):iter (vra b) ((i:Int),([]:List UInt8))=some (j6a (b.drop i).length (b.drop i)):=by
 have:=klb b hb (body:=vra b) (fun a=>by unfold vra;rw[zHa];rfl) (fun i c a hc ha=>by
  have hi:=zIa hc;unfold vra;dsimp only;rw[kea hc,zAa hc,jab b i hb hi];simp only[cond_true,Option.bind_some];rw[qEa c 13 (by decide),qEa c 10 (by decide),jja,jja];rw[zTa (show a.length+([13,10]:List UInt8).length<=_ by simp;omega),zTa (show a.length+ [c].length<=_ by simp;omega)];by_cases h13:c=13
  .rw[if_pos h13,decide_eq_true h13];simp only[cond_true,Option.bind_some];by_cases h10:b[i+1]? =some 10
   .rw[if_pos h10,decide_eq_true h10];simp only[cond_true,Option.bind_some];rw[sc i (by omega),sc (i+1) (by omega)]
   rw[if_neg h10,decide_eq_false h10];simp only[cond_false,Option.bind_some];rw[sc i (by omega)]
  rw[if_neg h13,decide_eq_false h13];simp only[cond_false,Option.bind_some];by_cases h10:c=10
  .rw[if_pos h10,decide_eq_true h10];simp only[cond_true,cond_false,Option.bind_some];rw[sc i (by omega)]
  rw[if_neg h10,decide_eq_false h10];simp only[cond_false,Option.bind_some];rw[sc i (by omega)]) (b.drop i).length i [] (by simp;omega) (by simp)
 rw[this];rfl
def qLb{S R:Type}(step:S->S ⊕ R)(dflt:R):Nat->S->R
 | 0,_=>dflt
 | n+1,s=>match step s with | .inl s' =>qLb step dflt n s' | .inr r=>r
theorem Qsa{S R A B:Type}(enc:S->A)(out:R->B)(step:S->S ⊕ R)(dflt:R)(Inv:S->Prop)(m:S->Nat){body:A->Option (Step A B)}
 (h:∀s,Inv s->body (enc s)=some (Sum.elim (fun s' =>.cont (enc s')) (fun r=>.out (out r)) (step s))/\∀s',step s=.inl s' ->Inv s' /\m s' < m s):
 ∀(n:Nat) (s:S),Inv s->m s < n->iter body (enc s)=some (out (qLb step dflt n s)):=by
 intro n;induction n with
 | zero=>intro s _ h2;omega
 | succ n ih=>
  intro s hs hm;obtain ⟨h1,h2⟩:=h s hs;unfold qLb;cases hst:step s with
  | inl s' =>
   rw[hst]at h1;obtain ⟨h3,h4⟩:=h2 s' hst;rw[zMa h1];exact ih s' h3 (by omega)
  | inr r=>
   rw[hst]at h1;exact zBa h1
theorem kmb{S R:Type}(step:S->S ⊕ R)(dflt:R)(Inv:S->Prop)(Post:R->Prop)(m:S->Nat)
 (h:∀s,Inv s->(∀s',step s=.inl s' ->Inv s' /\m s' < m s)/\∀r,step s=.inr r->Post r):∀(n:Nat) (s:S),Inv s->m s < n->Post (qLb step dflt n s):=by
 intro n;induction n with
 | zero=>intro s _ h2;omega
 | succ n ih=>
  intro s hs hm;obtain ⟨h1,h2⟩:=h s hs;unfold qLb;cases hst:step s with
  | inl s' =>exact ih s' (h1 s' hst).1 (by have:=(h1 s' hst).2;omega)
  | inr r=>exact h2 r hst
def KZa(l:List zia)(t:Str):List zia:=match l[l.length - 1]? with
 | some f=>l.set (l.length - 1) ⟨f.Name,f.Value++t⟩
 | none=>l
def wsa(b:List UInt8)(s:Nat × List zia):(Nat × List zia) ⊕ (Nat × List zia):=
 if s.1 < b.length then
  match (yga (b.drop s.1)).1 with
  | []=>.inr (s.1+(yga (b.drop s.1)).2,s.2)
  | c::_=>if zLa c=true/\s.2≠ [] then .inl (s.1+(yga (b.drop s.1)).2,KZa s.2 (yga (b.drop s.1)).1)
   else if (colP (yga (b.drop s.1)).1).2.2=true then .inl (s.1+(yga (b.drop s.1)).2,s.2++ [⟨(colP (yga (b.drop s.1)).1).1,(colP (yga (b.drop s.1)).1).2.1⟩])
   else .inr s
 else .inr s
def HInv(b:List UInt8)(s:Nat × List zia):Prop:=s.1<=b.length/\s.2.length<=s.1/\∀f∈s.2,f.Name.length<=s.1/\f.Value.length<=s.1
theorem W0a(b:List UInt8):(yga b).1.length<=(yga b).2:=by
 unfold yga;split
 .unfold chop;split <;> simp <;> omega
 exact Nat.le_refl _
theorem W1a{l:List zia}(h:l≠ []):∃f,l[l.length - 1]? =some f/\f∈l:=by
 have:=List.length_pos_iff.2 h;exact ⟨l[l.length - 1]'(by omega),List.getElem?_eq_getElem (by omega),List.getElem_mem _⟩
theorem W2a{b:List UInt8}{s:Nat × List zia}(h:HInv b s):(∀s',wsa b s=.inl s' ->HInv b s' /\b.length - s'.1 < b.length - s.1)/\∀r,wsa b s=.inr r->HInv b r:=by
 obtain ⟨h1,h2,h3⟩:=h;unfold wsa;by_cases hl:s.1 < b.length
 .rw[if_pos hl];have hne:b.drop s.1≠ []:=by
   intro e;have:=congrArg List.length e;simp at this;omega
  obtain ⟨p1,p2,p3⟩:=WYa hne;have p4:=W0a (b.drop s.1);rw[List.length_drop]at p2;generalize yga (b.drop s.1)=L at p1 p2 p3 p4;obtain ⟨t,n⟩:=L;dsimp only at p1 p2 p3 p4 ⊢;cases t with
  | nil=>
   refine ⟨fun s' e=>(by cases e),fun r e=>?_⟩;cases e;exact ⟨by show s.1+n<=_;omega,by show s.2.length<=s.1+n;omega,fun f hf=>by have:=h3 f hf;show _<=s.1+n/\_<=s.1+n;omega⟩
  | cons c t=>
   dsimp only;by_cases hb:zLa c=true/\s.2≠ []
   .rw[if_pos hb];refine ⟨fun s' e=>?_,fun r e=>by cases e⟩;cases e;obtain ⟨f,hf,hm⟩:=W1a hb.2;have hset:KZa s.2 (c::t)=s.2.set (s.2.length - 1) ⟨f.Name,f.Value++(c::t)⟩:=by unfold KZa;rw[hf]
    refine ⟨⟨by show s.1+n<=_;omega,?_,fun g hg=>?_⟩,by show b.length - (s.1+n) < _;omega⟩
    .show (KZa s.2 (c::t)).length<=s.1+n;rw[hset,List.length_set];omega
    have hg:g∈KZa s.2 (c::t):=hg;rw[hset]at hg;show _<=s.1+n/\_<=s.1+n;rcases List.mem_or_eq_of_mem_set hg with h4 | rfl
    .have:=h3 g h4;omega
    have:=h3 f hm;simp only[List.length_append];omega
   rw[if_neg hb];by_cases hc:(colP (c::t)).2.2=true
   .rw[if_pos hc];refine ⟨fun s' e=>?_,fun r e=>by cases e⟩;cases e;obtain ⟨q1,q2⟩:=colP_len (c::t);refine ⟨⟨by show s.1+n<=_;omega,by simp;omega,fun g hg=>?_⟩,by show b.length - (s.1+n) < _;omega⟩;rcases List.mem_append.1 hg with h4 | h4
    .have:=h3 g h4;show _<=s.1+n/\_<=s.1+n;omega
    rw[List.mem_singleton]at h4;subst h4;show _<=s.1+n/\_<=s.1+n;dsimp only;omega
   rw[if_neg hc];exact ⟨fun s' e=>(by cases e),fun r e=>(by cases e;exact ⟨h1,h2,h3⟩)⟩
 rw[if_neg hl];exact ⟨fun s' e=>(by cases e),fun r e=>(by cases e;exact ⟨h1,h2,h3⟩)⟩
def encH(s:Nat × List zia):Int × List zia:=((s.1:Int),s.2)
theorem vzb{l:List zia}(h:l≠ [])(hl:l.length<=1048576):w64 ((l.length:Int) - 1)=((l.length - 1:Nat):Int):=by
 have:=List.length_pos_iff.2 h;rw[show ((l.length:Int) - 1)=((l.length - 1:Nat):Int) by omega,Zia _ (by omega)]
theorem jcb(b:List UInt8)(hb:b.length<=12000)(s:Nat × List zia)(h:HInv b s):vpa b (encH s)=some (Sum.elim (fun s' =>.cont (encH s')) (fun r=>.out (encH r)) (wsa b s)):=by
 obtain ⟨h1,h2,h3⟩:=h;unfold vpa wsa encH;by_cases hl:s.1 < b.length
 .rw[if_pos hl,decide_eq_true (by omega)];have hne:b.drop s.1≠ []:=by
   intro e;have:=congrArg List.length e;simp at this;omega
  obtain ⟨p1,p2,p3⟩:=WYa hne;have p4:=W0a (b.drop s.1);have hline:=YNa (b.drop s.1) (by simp;omega);rw[List.length_drop]at p2 p3;simp only[cond_true];rw[yZa (by omega)];simp only[Option.bind_some];rw[hline];generalize yga (b.drop s.1)=L at p1 p2 p3 p4;obtain ⟨t,n⟩:=L;dsimp only at p1 p2 p3 p4 ⊢;simp only[Option.bind_some];rw[yPb _ _ (by omega)];cases t with
  | nil=>rfl
  | cons c t=>
   rw[show ((c::t)==([]:Str))=false from rfl,show idx (c::t) 0=some c from rfl];simp only[cond_false,Option.bind_some,jha];have e0:(bif zLa c then some (decide ((0:Int) < (s.2.length:Int))) else some false)=some (decide (zLa c=true/\s.2≠ [])):=by
    cases zLa c with
    | false=>rfl
    | true=>
     simp only[cond_true,Option.some.injEq];rw[Bool.eq_iff_iff];simp[List.length_pos_iff]
   rw[e0];simp only[Option.bind_some];by_cases hbl:zLa c=true/\s.2≠ []
   .rw[if_pos hbl,decide_eq_true hbl];obtain ⟨f,hf,hm⟩:=W1a hbl.2;have hv:=h3 f hm;simp only[cond_true];rw[vzb hbl.2 (by omega),wqa,hf];simp only[Option.bind_some];rw[jDa (by omega)];simp only[Option.bind_some];unfold KZa;rw[hf];rfl
   rw[if_neg hbl,decide_eq_false hbl];simp only[cond_false];rw[VTa _ (by omega)];simp only[Option.bind_some];cases hc:(colP (c::t)).2.2 with
   | false=>rfl
   | true=>
    rw[if_pos rfl];simp only[Bool.not_true,cond_false];rw[zTa (by simp;omega)];rfl
 rw[if_neg hl,decide_eq_false (by omega)];rfl
theorem ref_body(b:List UInt8)(hb:b.length<=12000)(s:Nat × List zia)(h:HInv b s):wCa b (encH s)=some (Sum.elim (fun s' =>.cont (encH s')) (fun r=>.out (encH r)) (wsa b s)):=by
 obtain ⟨h1,h2,h3⟩:=h;unfold wCa wsa encH;by_cases hl:s.1 < b.length
 .rw[if_pos hl,decide_eq_true (by omega)];have hne:b.drop s.1≠ []:=by
   intro e;have:=congrArg List.length e;simp at this;omega
  obtain ⟨p1,p2,p3⟩:=WYa hne;have p4:=W0a (b.drop s.1);have hline:=zvb (b.drop s.1) (by simp;omega);rw[List.length_drop]at p2 p3;simp only[cond_true];rw[yZa (by omega)];simp only[Option.bind_some];rw[hline];generalize yga (b.drop s.1)=L at p1 p2 p3 p4;obtain ⟨t,n⟩:=L;dsimp only at p1 p2 p3 p4 ⊢;simp only[Option.bind_some];rw[yPb _ _ (by omega)];cases t with
  | nil=>rfl
  | cons c t=>
   rw[show ((c::t)==([]:Str))=false from rfl,show idx (c::t) 0=some c from rfl];simp only[cond_false,Option.bind_some,yoa];by_cases hs:s.2=[]
   .have e1:w64 ((s.2.length:Int) - 1)= -1:=by rw[hs];rfl
    rw[e1,if_neg (fun e=>e.2 hs)];have e0:(bif zLa c then some ((-1:Int),decide ((0:Int)<= -1)) else some (-1,false))=some (-1,false):=by cases zLa c <;> rfl
    rw[e0];simp only[Option.bind_some,cond_false];rw[Jka _ (by omega)];simp only[Option.bind_some];cases hc:(colP (c::t)).2.2 with
    | false=>rfl
    | true=>
     have hn:=y9b hc;rw[if_pos rfl];simp only[cond_true];rw[beq_eq_false_iff_ne.2 hn];simp only[cond_false];rw[zTa (by simp;omega)];rfl
   rw[vzb hs (by omega)];have e0:(bif zLa c then some (((s.2.length - 1:Nat):Int),decide ((0:Int)<=((s.2.length - 1:Nat):Int))) else some (((s.2.length - 1:Nat):Int),false))=some (((s.2.length - 1:Nat):Int),zLa c):=by
    cases zLa c with
    | false=>rfl
    | true=>simp only[cond_true];rw[decide_eq_true (by omega)]
   rw[e0];simp only[Option.bind_some];cases hbl:zLa c with
   | true=>
    rw[if_pos ⟨rfl,hs⟩];obtain ⟨f,hf,hm⟩:=W1a hs;have hv:=h3 f hm;simp only[cond_true];rw[wqa,hf];simp only[Option.bind_some];rw[jDa (by omega)];simp only[Option.bind_some];unfold KZa;rw[hf];rfl
   | false=>
    rw[if_neg (by simp)];simp only[cond_false];rw[Jka _ (by omega)];simp only[Option.bind_some];cases hc:(colP (c::t)).2.2 with
    | false=>rfl
    | true=>
     have hn:=y9b hc;rw[if_pos rfl];simp only[cond_true];rw[beq_eq_false_iff_ne.2 hn];simp only[cond_false];rw[zTa (by simp;omega)];rfl
 rw[if_neg hl,decide_eq_false (by omega)];rfl
def w0a(b:List UInt8):Nat × List zia:=qLb (wsa b) (0,[]) (b.length+1) (0,[])
theorem hinv0(b:List UInt8):HInv b (0,[]):=⟨Nat.zero_le _,Nat.le_refl _,fun f hf=>by cases hf⟩
theorem W3a(b:List UInt8):HInv b (w0a b):=kmb (wsa b) (0,[]) (HInv b) (HInv b) (fun s=>b.length - s.1) (fun s hs=>W2a hs) _ _ (hinv0 b) (by show b.length - 0 < _;omega)
theorem knb(b:List UInt8)(hb:b.length<=12000):iter (vpa b) ((0,([]:List zia)))=some (encH (w0a b))/\iter (wCa b) ((0,([]:List zia)))=some (encH (w0a b)):=
 ⟨Qsa encH encH (wsa b) (0,[]) (HInv b) (fun s=>b.length - s.1) (fun s hs=>⟨jcb b hb s hs,(W2a hs).1⟩) _ (0,[]) (hinv0 b) (by show b.length - 0 < _;omega),
  Qsa encH encH (wsa b) (0,[]) (HInv b) (fun s=>b.length - s.1) (fun s hs=>⟨ref_body b hb s hs,(W2a hs).1⟩) _ (0,[]) (hinv0 b) (by show b.length - 0 < _;omega)⟩
def vKa(f:zia):zia:=⟨f.Name,Zga f.Value⟩
def mixF(l:List zia)(i:Nat):List zia:=(l.take i).map vKa++l.drop i
theorem jdb{l:List zia}{i:Nat}{x:zia}(h:l[i]? =some x):(mixF l i)[i]? =some x:=by
 have hi:=(List.getElem?_eq_some_iff.1 h).1;unfold mixF;rw[List.getElem?_append_right (by simp;omega)];simp only[List.length_map,List.length_take,List.getElem?_drop];rw[show i+(i - min i l.length)=i by omega];exact h
theorem vAb(l:List zia)(i:Nat):(mixF l i).length=l.length:=by simp[mixF];omega
theorem kob{l:List zia}{i:Nat}{x:zia}(h:l[i]? =some x):(mixF l i).set i (vKa x)=mixF l (i+1):=by
 have hi:=(List.getElem?_eq_some_iff.1 h).1;have hx:=(List.getElem?_eq_some_iff.1 h).2;unfold mixF;rw[List.set_append_right _ _ (by simp;omega)];simp only[List.length_map,List.length_take];rw[show i - min i l.length=0 by omega,List.take_add_one,h,List.drop_eq_getElem_cons hi,hx];simp
theorem vBb(l:List zia):mixF l l.length=l.map vKa:=by simp[mixF]
theorem kpb(l:List zia):mixF l 0=l:=by simp[mixF]
def jeb(l:List zia)(i:Nat):Nat ⊕ Option Nat:=match l[i]? with
 | some f=>if 4000 < (Zga f.Value).length then .inr (some i) else .inl (i+1)
 | none=>.inr none
def vout(l:List zia):Option Nat->(List zia) ⊕ ((List zia) × Int × zta)
 | none=>.inl (l.map vKa)
 | some i=>.inr ([],0,⟨1,(i:Int)⟩)
def valsP(l:List zia):Option Nat:=qLb (jeb l) none (l.length+1) 0
theorem jfb(p:Int × List zia)(hl:p.2.length<=1048576)(hv:∀f∈p.2,f.Value.length<=1048576):iter (vqa p) ((0,p.2))=some (vout p.2 (valsP p.2)):=by
 have h:=Qsa (fun i:Nat=>((i:Int),mixF p.2 i)) (vout p.2) (jeb p.2) none (fun i=>i<=p.2.length) (fun i=>p.2.length - i) (body:=vqa p) (fun i hi=>?_) (p.2.length+1) 0 (Nat.zero_le _) (by omega)
 .rw[kpb]at h;exact h
 unfold vqa jeb;cases hf:p.2[i]? with
 | none=>
  have:i=p.2.length:=by have:=List.getElem?_eq_none_iff.1 hf;omega
  subst this;dsimp only;rw[decide_eq_false (by omega),vBb];exact ⟨rfl,fun s' e=>by cases e⟩
 | some f=>
  have hi2:=zIa hf;have hfv:=hv f (List.mem_of_getElem? hf);dsimp only;rw[decide_eq_true (by omega),zAa (jdb hf)];simp only[cond_true,Option.bind_some];have ht:=Trim_eq f.Value hfv;have hlt:(Zga f.Value).length<=1048576:=Nat.le_trans (Jma _) hfv;cases hr:zSa f.Value with
  | none=>rw[hr]at ht;cases ht
  | some v=>
   rw[hr]at ht;simp only[Option.bind_some]at ht ⊢;rw[ht];simp only[Option.bind_some];by_cases h4:4000 < (Zga f.Value).length
   .rw[if_pos h4,decide_eq_true (by omega)];exact ⟨rfl,fun s' e=>by cases e⟩
   rw[if_neg h4,decide_eq_false (by omega)];simp only[cond_false];rw[sc i (by omega),Int.toNat_natCast];refine ⟨?_,fun s' e=>by cases e;exact ⟨by omega,by omega⟩⟩;rw[show (⟨f.Name,Zga f.Value⟩:zia)=vKa f from rfl,kob hf];rfl
theorem vals_ref(l:List zia)(hl:l.length<=1048576)(hv:∀f∈l,f.Value.length<=1048576):iter (wDa) ((0,l))=some (l.map vKa):=by
 have h:=Qsa (fun i:Nat=>((i:Int),mixF l i)) (fun _:Unit=>l.map vKa) (fun i=>if i < l.length then .inl (i+1) else .inr ()) () (fun i=>i<=l.length) (fun i=>l.length - i) (body:=wDa) (fun i hi=>?_) (l.length+1) 0 (Nat.zero_le _) (by omega)
 .rw[kpb]at h;exact h
 unfold wDa;by_cases hi2:i < l.length
 .have hf:l[i]? =some l[i]:=List.getElem?_eq_getElem hi2;rw[if_pos hi2];dsimp only;rw[vAb,decide_eq_true (by omega),zAa (jdb hf)];simp only[cond_true,Option.bind_some];rw[kkb _ (hv _ (List.getElem_mem _))];simp only[Option.bind_some];rw[sc i (by omega),Int.toNat_natCast];refine ⟨?_,fun s' e=>by cases e;exact ⟨by omega,by omega⟩⟩;rw[show (⟨l[i].Name,Zga l[i].Value⟩:zia)=vKa l[i] from rfl,kob hf];rfl
 rw[if_neg hi2];obtain rfl:i=l.length:=by omega
 dsimp only;rw[vAb,decide_eq_false (by omega),vBb];exact ⟨rfl,fun s' e=>by cases e⟩
theorem wBb(l:List zia):(valsP l=none->∀f∈l,(vKa f).Value.length<=4000)/\(valsP l≠none->∃f∈l,4000 < (vKa f).Value.length):=by
 refine kmb (jeb l) none (fun i=>i<=l.length/\∀j f,j < i->l[j]? =some f->(vKa f).Value.length<=4000) (fun r=>(r=none->∀f∈l,(vKa f).Value.length<=4000)/\(r≠none->∃f∈l,4000 < (vKa f).Value.length)) (fun i=>l.length - i) ?_ _ 0 ⟨Nat.zero_le _,fun j f h=>by omega⟩ (by omega);rintro i ⟨hi,hj⟩;unfold jeb;cases hf:l[i]? with
 | none=>
  refine ⟨fun s' e=>(by cases e),fun r e=>?_⟩;cases e;refine ⟨fun _ f hm=>?_,fun h=>absurd rfl h⟩;obtain ⟨j,hjf⟩:=List.getElem?_of_mem hm;have:=List.getElem?_eq_none_iff.1 hf;exact hj j f (by have:=zIa hjf;omega) hjf
 | some f=>
  dsimp only;by_cases h4:4000 < (Zga f.Value).length
  .rw[if_pos h4];refine ⟨fun s' e=>(by cases e),fun r e=>?_⟩;cases e;exact ⟨fun h=>(by cases h),fun _=>⟨f,List.mem_of_getElem? hf,h4⟩⟩
  rw[if_neg h4];refine ⟨fun s' e=>?_,fun r e=>by cases e⟩;cases e;have:=zIa hf;refine ⟨⟨by omega,fun j g hji hg=>?_⟩,by omega⟩;by_cases e:j=i
  .subst e;rw[hf]at hg;cases hg;exact Nat.le_of_not_lt h4
  exact hj j g (by omega) hg
def zeroM:zxa:=⟨[],[]⟩
def rawM(b:List UInt8):zxa:=⟨(w0a b).2.map vKa,j6a (b.drop (w0a b).1).length (b.drop (w0a b).1)⟩
def jka(b:List UInt8):zxa × Bool:=
 if 60 < (w0a b).2.length then (zeroM,false) else if (msgF (rawM b)).Code=0 then (rawM b,true) else (zeroM,false)
theorem Jna(b:List UInt8)(hb:b.length<=12000):y4b (rawM b):=by
 obtain ⟨h1,h2,h3⟩:=W3a b;refine ⟨⟨by show ((w0a b).2.map vKa).length<=_;simp;omega,fun f hf=>?_⟩,?_⟩
 .have hf:f∈(w0a b).2.map vKa:=hf;obtain ⟨g,hg,rfl⟩:=List.mem_map.1 hf;have:=h3 g hg;have h4:=Jma g.Value;show g.Name.length<=_/\(Zga g.Value).length<=_;omega
 show (j6a _ _).length<=_;have:=WZa (b.drop (w0a b).1).length (b.drop (w0a b).1);simp at this ⊢;omega
theorem YOa(b:List UInt8)(hb:b.length<=12000):KPa b=some (jka b):=by
 obtain ⟨h1,h2,h3⟩:=W3a b;unfold KPa;rw[(knb b hb).2];simp only[Option.bind_some,encH];unfold jka;by_cases h60:60 < (w0a b).2.length
 .rw[if_pos h60,decide_eq_true (by omega)];rfl
 rw[if_neg h60,decide_eq_false (by omega)];simp only[cond_false];rw[vals_ref _ (by omega) (fun f hf=>by have:=h3 f hf;omega)];simp only[Option.bind_some];rw[jbb b (by omega) _ h1];simp only[Option.bind_some];rw[show (⟨(w0a b).2.map vKa,j6a (b.drop (w0a b).1).length (b.drop (w0a b).1)⟩:zxa)=rawM b from rfl,Q9a _ (Jna b hb)];simp only[Option.bind_some];by_cases h0:(msgF (rawM b)).Code=0
 .rw[if_pos h0,h0];rfl
 rw[if_neg h0,bne_iff_ne.2 h0];rfl
theorem W4a(b:List UInt8)(hb:b.length<=12000):∃f:zta,wPa b=some ((jka b).1,f)/\(f.Code !=0)= !(jka b).2:=by
 obtain ⟨h1,h2,h3⟩:=W3a b;unfold wPa jZa;rw[decide_eq_false (by omega),(knb b hb).1];simp only[cond_false,Option.bind_some,encH];unfold jka;by_cases h60:60 < (w0a b).2.length
 .rw[if_pos h60,decide_eq_true (by omega)];exact ⟨⟨2, -2⟩,rfl,rfl⟩
 rw[if_neg h60,decide_eq_false (by omega)];simp only[cond_false];rw[jfb ((((w0a b).1:Nat):Int),(w0a b).2) (by show (w0a b).2.length<=_;omega) (fun f hf=>by have:=h3 f hf;omega)];simp only[Option.bind_some];obtain ⟨v1,v2⟩:=wBb (w0a b).2;cases hv:valsP (w0a b).2 with
 | none=>
  simp only[vout,Sum.elim_inl,k1a,Option.bind_some,z9a];rw[show ((0:Int) !=0)=false from rfl];simp only[cond_false];rw[yZa h1];simp only[Option.bind_some];rw[VUa _ (by simp;omega)];simp only[Option.bind_some];rw[show (⟨(w0a b).2.map vKa,j6a (b.drop (w0a b).1).length (b.drop (w0a b).1)⟩:zxa)=rawM b from rfl,KVa _ (Jna b hb)];simp only[Option.bind_some];by_cases h0:(msgF (rawM b)).Code=0
  .rw[if_pos h0,h0];exact ⟨⟨0,0⟩,rfl,rfl⟩
  rw[if_neg h0,bne_iff_ne.2 h0];exact ⟨msgF (rawM b),rfl,by rw[bne_iff_ne.2 h0];rfl⟩
 | some i=>
  have h0:¬(msgF (rawM b)).Code=0:=by
   intro h0;obtain ⟨f,hf,h4⟩:=v2 (by rw[hv];simp);have hh:(Kaa (rawM b).Fields).Code=0:=by
    by_cases hz:(Kaa (rawM b).Fields).Code=0
    .exact hz
    unfold msgF at h0;rw[if_pos (by simp[hz])]at h0;exact h0
   have:=(zpb ((Z0a _ hh).2.2 (vKa f) (List.mem_map.2 ⟨f,hf,rfl⟩))).2.1;omega
  rw[if_neg h0];exact ⟨⟨1,(i:Int)⟩,rfl,rfl⟩
theorem kua{u:Nat}(h:u < 10):Lib.decDigits u=[UInt8.ofNat (48+u)]:=by rw[Lib.decDigits,dif_pos h]
theorem Z1a{u:Nat}(h:¬u < 10):Lib.decDigits u=Lib.decDigits (u / 10)++Lib.decDigits (u % 10):=by
 rw[Lib.decDigits,dif_neg h,kua (show u % 10 < 10 by omega)]
theorem Qta:∀(k u:Nat),u < 10 ^ (k+1)->(Lib.decDigits u).length<=k+1
 | 0,u,h=>by rw[kua (by simpa using h)];simp
 | k+1,u,h=>by
  by_cases h10:u < 10
  .rw[kua h10];simp
  have:=Qta k (u / 10) (by rw[Nat.pow_succ]at h;omega);rw[Z1a h10,kua (show u % 10 < 10 by omega)];simp;omega
theorem vCb(u:Nat):1<=(Lib.decDigits u).length:=by
 by_cases h10:u < 10
 .rw[kua h10];simp
 rw[Z1a h10,kua (show u % 10 < 10 by omega)];simp
theorem iQuo10{u:Nat}(h:u<=9223372036854775807):iQuo (u:Int) 10=((u / 10:Nat):Int):=by
 unfold iQuo;rw[Int.tdiv_eq_ediv_of_nonneg (by omega),qMa (by omega) (by omega)];omega
theorem iRem10(u:Nat):iRem (u:Int) 10=((u % 10:Nat):Int):=by
 unfold iRem;rw[Int.tmod_eq_emod_of_nonneg (by omega)];omega
theorem jgb:∀u:Fin 10,cut ([48,49,50,51,52,53,54,55,56,57]:Str) (u.val:Int) (w64 ((u.val:Int)+1))=some [UInt8.ofNat (48+u.val)]:=by decide
theorem kEa{f g:Int->Option Str}(hf:∀n:Int,f n=bif decide (n < 10) then (cut ([48,49,50,51,52,53,54,55,56,57]:Str) n (w64 (n+1))).bind fun v2=>some v2 else (g (iQuo n 10)).bind fun v4=>(g (iRem n 10)).bind fun v6=>(cat v4 v6).bind fun v8=>some v8)
 (k:Nat) (hk:k<=17) (hg:∀u:Nat,u < 10 ^ k->1<=k->g (u:Int)=some (Lib.decDigits u)) (u:Nat) (hu:u < 10 ^ (k+1)):f (u:Int)=some (Lib.decDigits u):=by
 have hp:10 ^ (k+1)<=10 ^ 18:=Nat.pow_le_pow_right (by omega) (by omega);rw[hf];by_cases h10:u < 10
 .rw[decide_eq_true (by omega:(u:Int) < 10),cond_true,jgb ⟨u,h10⟩,kua h10];rfl
 have hk1:1<=k:=by
  rcases Nat.eq_zero_or_pos k with rfl | h
  .simp at hu;omega
  exact h
 have h9:10 ^ 1<=10 ^ k:=Nat.pow_le_pow_right (by omega) hk1;rw[decide_eq_false (by omega:¬(u:Int) < 10),cond_false,iQuo10 (by omega),iRem10,hg _ (by rw[Nat.pow_succ]at hu;omega) hk1,hg _ (by omega) hk1,Z1a h10];have h1:=Qta 17 (u / 10) (by omega);have h2:=Qta 17 (u % 10) (by omega);simp only[Option.bind_some];rw[jDa (by omega)];rfl
theorem W5a(u:Nat)(h:u < 10 ^ 12):jYa (u:Int)=some (Lib.decDigits u):=by
 have h1:=kEa (f:=KFa) (g:=KEa) (fun _=>rfl) 0 (by omega) (fun _ _ h=>by omega);have h2:=kEa (f:=KGa) (fun _=>rfl) 1 (by omega) (fun u hu _=>h1 u hu);have h3:=kEa (f:=KHa) (fun _=>rfl) 2 (by omega) (fun u hu _=>h2 u hu);have h4:=kEa (f:=KIa) (fun _=>rfl) 3 (by omega) (fun u hu _=>h3 u hu);have h5:=kEa (f:=KJa) (fun _=>rfl) 4 (by omega) (fun u hu _=>h4 u hu);have h6:=kEa (f:=KKa) (fun _=>rfl) 5 (by omega) (fun u hu _=>h5 u hu);have h7:=kEa (f:=KLa) (fun _=>rfl) 6 (by omega) (fun u hu _=>h6 u hu);have h8:=kEa (f:=KMa) (fun _=>rfl) 7 (by omega) (fun u hu _=>h7 u hu);have h9:=kEa (f:=KNa) (fun _=>rfl) 8 (by omega) (fun u hu _=>h8 u hu);have h10:=kEa (f:=ZBa) (fun _=>rfl) 9 (by omega) (fun u hu _=>h9 u hu);have h11:=kEa (f:=ZCa) (fun _=>rfl) 10 (by omega) (fun u hu _=>h10 u hu);exact kEa (f:=jYa) (fun _=>rfl) 11 (by omega) (fun u hu _=>h11 u hu) u h
theorem ZHa(u:Nat)(h:u<=9223372036854775807):z1a (u:Int)=some (Lib.decDigits u):=by
 unfold z1a;rw[if_pos (by omega),Lib.itoa_nonneg]
theorem ZIa(b:UInt8):∀(l:Str) (acc:Nat),Lib.decFrom acc (l++ [b])=(Lib.decFrom acc l).bind fun n=>(Lib.digitVal b).map fun d=>n * 10+d
 | [],acc=>by
  simp only[List.nil_append,Lib.decFrom,Option.bind_some];cases Lib.digitVal b <;> rfl
 | x::l,acc=>by
  rw[List.cons_append,Lib.decFrom,Lib.decFrom];cases Lib.digitVal x with
  | none=>rfl
  | some d=>exact ZIa b l _
theorem jla{d:Nat}(h:d < 10):Lib.digitVal (UInt8.ofNat (48+d))=some d:=by
 have e:(UInt8.ofNat (48+d)).toNat=48+d:=by rw[UInt8.toNat_ofNat'];omega
 unfold Lib.digitVal;rw[e,if_pos (by omega)]
 congr 1;omega
theorem W6a:∀(k u:Nat),u < 10 ^ (k+1)->Lib.decFrom 0 (Lib.decDigits u)=some u
 | 0,u,h=>by
  rw[kua (by simpa using h),Lib.decFrom,jla (show u < 10 by simpa using h)];simp[Lib.decFrom]
 | k+1,u,h=>by
  by_cases h10:u < 10
  .rw[kua h10,Lib.decFrom,jla h10];simp[Lib.decFrom]
  rw[Z1a h10,kua (show u % 10 < 10 by omega),ZIa,W6a k (u / 10) (by rw[Nat.pow_succ]at h;omega),jla (by omega)];simp;omega
theorem W7a(u:Nat):Lib.decFrom 0 (Lib.decDigits u)=some u:=by
 refine W6a u u<|Nat.lt_of_lt_of_le (Nat.lt_pow_self (by omega)) (Nat.pow_le_pow_right (by omega) (by omega))
theorem decD_ne(u:Nat):Lib.decDigits u≠ []:=by
 intro h;have:=vCb u;rw[h]at this;simp at this
theorem Joa(u:Nat):Lib.decNat (Lib.decDigits u)=some u:=by
 unfold Lib.decNat;have:(Lib.decDigits u).isEmpty=false:=by
  cases h:Lib.decDigits u with
  | nil=>exact absurd h (decD_ne u)
  | cons x l=>rfl
 rw[this];exact W7a u
theorem W8a(u:Nat):∃(d:Nat) (r:Str),d < 10/\Lib.decDigits u=UInt8.ofNat (48+d)::r/\(10<=u->1<=d)/\(u < 10->r=[]):=by
 induction u using Nat.strongRecOn with
 | _ u ih=>
  by_cases h10:u < 10
  .exact ⟨u,[],h10,kua h10,by omega,fun _=>rfl⟩
  obtain ⟨d,r,h1,h2,h3,h4⟩:=ih (u / 10) (by omega);refine ⟨d,r++Lib.decDigits (u % 10),h1,by rw[Z1a h10,h2];rfl,fun _=>?_,by omega⟩;by_cases h5:10<=u / 10
  .exact h3 h5
  have h6:=kua (show u / 10 < 10 by omega);rw[h2]at h6;injection h6 with h7 _
  have h8:=congrArg UInt8.toNat h7;rw[UInt8.toNat_ofNat',UInt8.toNat_ofNat']at h8;omega
theorem Jpa:∀(l:Str) (acc n:Nat),Lib.decFrom acc l=some n->acc<=n
 | [],acc,n,h=>by simp[Lib.decFrom]at h;omega
 | x::l,acc,n,h=>by
  rw[Lib.decFrom]at h;cases hd:Lib.digitVal x with
  | none=>rw[hd]at h;cases h
  | some d=>
   rw[hd]at h;have:=Jpa l _ n h;omega
theorem kqb:∀(k:Nat) (s:Str) (m:Nat),s.length=k->Lib.decFrom 0 s=some m->s≠ []->(s.length=1∨s.head? ≠some 48)->Lib.decDigits m=s
 | 0,s,m,hk,h,hne,_=>absurd (List.length_eq_zero_iff.1 hk) hne
 | k+1,s,m,hk,h,hne,hz=>by
  obtain ⟨t,b,rfl⟩:∃t b,s=t++ [b]:=⟨s.dropLast,s.getLast hne,(List.dropLast_concat_getLast hne).symm⟩;rw[ZIa]at h;cases ht:Lib.decFrom 0 t with
  | none=>rw[ht]at h;cases h
  | some n=>
   rw[ht]at h;cases hb:Lib.digitVal b with
   | none=>rw[hb]at h;cases h
   | some d=>
    rw[hb]at h;simp only[Option.bind_some,Option.map_some,Option.some.injEq]at h;subst h;obtain ⟨h1,h2,h3⟩:=Lib.digitVal_eq hb;have hbe:UInt8.ofNat (48+d)=b:=by
     rw[<-UInt8.toNat_inj,UInt8.toNat_ofNat'];omega
    cases t with
    | nil=>
     simp[Lib.decFrom]at ht;subst ht;rw[Nat.zero_mul,Nat.zero_add,kua (by omega),hbe];rfl
    | cons x t=>
     have hx:x≠48:=by
      rcases hz with hz | hz
      .simp at hz
      intro e;subst e;simp at hz
     have hn1:1<=n:=by
      rw[Lib.decFrom]at ht;cases hx2:Lib.digitVal x with
      | none=>rw[hx2]at ht;cases ht
      | some e=>
       rw[hx2]at ht;have h4:=Jpa t _ n ht;obtain ⟨h5,h6,h7⟩:=Lib.digitVal_eq hx2;have:x.toNat≠48:=fun e2=>hx (UInt8.toNat_inj.1 e2)
       omega
     have ih:=kqb k (x::t) n (by simp at hk ⊢;omega) ht (by simp) (.inr (by simpa using hx));rw[Z1a (by omega),show (n * 10+d) / 10=n by omega,show (n * 10+d) % 10=d by omega,ih,kua (by omega),hbe]
theorem vDb(m:Nat):Lib.atoi (Lib.decDigits m)=some (m:Int):=by
 obtain ⟨d,r,h1,h2,_⟩:=W8a m;have e45:(UInt8.ofNat (48+d)==45)=false:=by
  rw[beq_eq_false_iff_ne];intro e;have:=congrArg UInt8.toNat e;rw[UInt8.toNat_ofNat']at this;have h45:(45:UInt8).toNat=45:=rfl;omega
 have e43:(UInt8.ofNat (48+d)==43)=false:=by
  rw[beq_eq_false_iff_ne];intro e;have:=congrArg UInt8.toNat e;rw[UInt8.toNat_ofNat']at this;have h43:(43:UInt8).toNat=43:=rfl;omega
 have hd:=Joa m;rw[h2]at hd ⊢;unfold Lib.atoi;dsimp only;rw[e45,e43,hd];rfl
def numP(s:Str):Option Nat:=if s.length<=9 then (match Lib.decNat s with | some m=>if Lib.decDigits m=s then some m else none | none=>none) else none
theorem W9a{s:Str}{m:Nat}(h:numP s=some m):s.length<=9/\Lib.decDigits m=s/\m < 1000000000:=by
 unfold numP at h;split at h
 .rename_i h9;split at h
  .rename_i n hn;split at h
   .rename_i he;cases h;have h1:=Lib.decFrom_lt _ _ _ (Lib.decNat_some hn).2;have h2:10 ^ s.length<=10 ^ 9:=Nat.pow_le_pow_right (by omega) h9;exact ⟨h9,he,by omega⟩
   cases h
  cases h
 cases h
theorem numP_dec{m:Nat}(h:m < 1000000000):numP (Lib.decDigits m)=some m:=by
 unfold numP;rw[if_pos (Qta 8 m (by omega)),Joa];simp
theorem Yaa(s:Str)(h9:s.length<=9):wLa s 999999999=some (match numP s with | some m=>((m:Int),true) | none=>(0,false)):=by
 have hlen:s.length<=18:=by omega
 unfold wLa qZa;rw[if_pos hlen];have noneCase:(∀m,s≠Lib.decDigits m)->numP s=none:=by
  intro hno;cases hm:numP s with
  | none=>rfl
  | some m=>exact absurd (W9a hm).2.1.symm (hno m)
 cases ha:Lib.atoi s with
 | none=>
  have:numP s=none:=by
   refine noneCase fun m hm=>?_
   have h3:Lib.atoi s=some (m:Int):=by rw[hm];exact vDb m
   rw[h3]at ha;cases ha
  rw[this];rfl
 | some n=>
  obtain ⟨b0,r,hs,hc⟩:=Lib.atoi_cases ha;have hbig: -1000000000000000000 < n/\n < 1000000000000000000:=by
   rcases hc with ⟨_,m,_,hm,rfl⟩ | ⟨_,m,_,hm,rfl⟩ | ⟨_,_,m,hm,rfl⟩
   .have:=Lib.decFrom_lt18 hm (by rw[hs]at hlen;simp at hlen;omega);omega
   .have:=Lib.decFrom_lt18 hm (by rw[hs]at hlen;simp at hlen;omega);omega
   have:=Lib.decFrom_lt18 hm (by rw[<-hs];exact hlen);omega
  simp only[Option.bind_some,cond_false];unfold z1a;rw[if_pos (by omega)];simp only[Option.bind_some];by_cases hi:Lib.itoa n=s
  .have:(Lib.itoa n !=s)=false:=by simp[hi]
   rw[this];simp only[cond_false];by_cases hn:n < 0
   .rw[decide_eq_true hn];have:numP s=none:=by
     refine noneCase fun m hm=>?_
     unfold Lib.itoa at hi;rw[if_pos hn]at hi;obtain ⟨d,r',h1,h2,_⟩:=W8a m;rw[hm,h2]at hi;injection hi with h3 _
     have:=congrArg UInt8.toNat h3;rw[UInt8.toNat_ofNat']at this;simp at this;omega
    rw[this];rfl
   rw[decide_eq_false hn];unfold Lib.itoa at hi;rw[if_neg hn]at hi;have hlt:n.toNat < 1000000000:=by
    have h1:=Lib.decFrom_lt _ _ _ (W7a n.toNat);rw[hi]at h1;have h2:10 ^ s.length<=10 ^ 9:=Nat.pow_le_pow_right (by omega) h9;omega
   have hP:numP s=some n.toNat:=by rw[<-hi];exact numP_dec hlt
   rw[hP];simp only[cond_false];rw[decide_eq_false (by omega)];simp only[cond_false,Option.bind_some];rw[show ((n.toNat:Nat):Int)=n by omega]
  have:(Lib.itoa n !=s)=true:=by simpa using hi
  rw[this];have hP:numP s=none:=by
   refine noneCase fun m hm=>hi ?_
   have h3:Lib.atoi s=some (m:Int):=by rw[hm];exact vDb m
   rw[ha]at h3;cases h3;rw[Lib.itoa_nonneg,hm]
  rw[hP];rfl
theorem Yba(s:Str)(hs:s.length<=9):∀(r p:Str) (acc:Nat),s=p++r->acc < 10 ^ p.length->iter (woa s) ((acc:Int),(p.length:Int))=some (match Lib.decFrom acc r with | some m=>.inl (m:Int) | none=>.inr (-1))
 | [],p,acc,h,ha=>by
  rw[List.append_nil]at h;subst h;refine zBa ?_;unfold woa;dsimp only;rw[zHa];rfl
 | x::r,p,acc,h,ha=>by
  have hp:p.length<=8:=by have:=congrArg List.length h;simp at this;omega
  have hpw:10 ^ p.length<=10 ^ 8:=Nat.pow_le_pow_right (by omega) hp;have hx:s[p.length]? =some x:=by rw[h];simp
  have hin:R_In (x.toNat:Int) 48 57=some (decide (48<=x.toNat) && decide (x.toNat<=57)):=by
   rw[vDa]
   congr 2 <;> (rw[Bool.eq_iff_iff,decide_eq_true_eq,decide_eq_true_eq];omega)
  by_cases hd:48<=x.toNat/\x.toNat<=57
  .have hv:Lib.digitVal x=some (x.toNat - 48):=by unfold Lib.digitVal;rw[if_pos hd]
   have h2:(x - 48).toNat=x.toNat - 48:=UInt8.toNat_sub_of_le x 48 (by rw[UInt8.le_iff_toNat_le];exact hd.1);have wsa:woa s ((acc:Int),(p.length:Int))=some (.cont (((acc * 10+(x.toNat - 48):Nat):Int),((p.length+1:Nat):Int))):=by
    unfold woa;dsimp only;rw[kea hx,zAa hx];simp only[cond_true,Option.bind_some,hin];rw[decide_eq_true hd.1,decide_eq_true hd.2,h2];have e1:w64 (10 * (acc:Int))=10 * (acc:Int):=qMa (by omega) (by omega);simp only[Bool.and_true,Bool.not_true,cond_false,sc p.length (by omega)];rw[e1,qMa (by omega) (by omega)]
    congr 3
    omega
   rw[zMa wsa];have:=Yba s hs r (p++ [x]) (acc * 10+(x.toNat - 48)) (by simp[h]) (by simp[Nat.pow_succ];omega);simp only[List.length_append,List.length_cons,List.length_nil]at this;rw[show 0+1=1 from rfl]at this;rw[this,Lib.decFrom,hv]
  have hv:Lib.digitVal x=none:=by unfold Lib.digitVal;rw[if_neg hd]
  have hb:(decide (48<=x.toNat) && decide (x.toNat<=57))=false:=by
   cases h1:decide (48<=x.toNat) && decide (x.toNat<=57) with
   | false=>rfl
   | true=>simp only[Bool.and_eq_true,decide_eq_true_eq]at h1;exact absurd h1 hd
  rw[Lib.decFrom,hv];refine zBa ?_;unfold woa;dsimp only;rw[kea hx,zAa hx];simp only[cond_true,Option.bind_some,hin,hb];rfl
theorem j7a(s:Str)(hs:s.length<=1048576):Wfa s=some (match numP s with | some m=>(m:Int) | none=> -1):=by
 unfold Wfa;rw[vDa];by_cases h9:1<=s.length/\s.length<=9
 .have e:(decide ((1:Int)<=(s.length:Int)) && decide ((s.length:Int)<=9))=true:=by simp;omega
  rw[e];simp only[Option.bind_some,Bool.not_true,cond_false];cases s with
  | nil=>simp at h9
  | cons x r=>
   have e0:idx (x::r) 0=some x:=rfl;rw[e0];simp only[Option.bind_some,qEa x 48 (by decide)];have loop:=Yba (x::r) h9.2 (x::r) [] 0 rfl (by simp);rw[show (((0:Nat):Int),(([]:Str).length:Int))=((0:Int),(0:Int)) from rfl]at loop;rw[loop];by_cases hz:1 < (x::r).length/\x=48
   .obtain ⟨h1,rfl⟩:=hz;rw[decide_eq_true (by omega)];have hP:numP (48::r)=none:=by
     cases hm:numP (48::r) with
     | none=>rfl
     | some m=>
      obtain ⟨_,h2,_⟩:=W9a hm;obtain ⟨d,r',h3,h4,h5,h6⟩:=W8a m;rw[h2]at h4;injection h4 with h7 h8
      have h9' :=congrArg UInt8.toNat h7;rw[UInt8.toNat_ofNat']at h9';have hd0:d=0:=by
       have:(48:UInt8).toNat=48:=rfl;omega
      by_cases h10:10<=m
      .have:=h5 h10;omega
      have:=h6 (by omega);rw[h8]at h1;rw[this]at h1;simp at h1
    rw[hP];rfl
   have e1:(bif decide ((1:Int) < (((x::r).length:Nat):Int)) then some (x==48) else some false)=some false:=by
    by_cases h1:1 < (x::r).length
    .have hx:x≠48:=fun e=>hz ⟨h1,e⟩
     rw[decide_eq_true (by omega)];simpa using hx
    rw[decide_eq_false (by omega)];rfl
   rw[e1];simp only[Option.bind_some,cond_false];have hd:Lib.decNat (x::r)=Lib.decFrom 0 (x::r):=rfl;unfold numP;rw[if_pos h9.2,hd];cases hm:Lib.decFrom 0 (x::r) with
   | none=>rfl
   | some m=>
    have hc:=kqb _ (x::r) m rfl hm (by simp) (by
     by_cases h1:(x::r).length=1
     .exact .inl h1
     right;have hx:x≠48:=fun e=>hz ⟨by have:(x::r).length=r.length+1:=rfl;omega,e⟩
     simpa using hx)
    simp only[hc,if_true];rfl
 have e:(decide ((1:Int)<=(s.length:Int)) && decide ((s.length:Int)<=9))=false:=by
  cases h1:decide ((1:Int)<=(s.length:Int)) && decide ((s.length:Int)<=9) with
  | false=>rfl
  | true=>simp at h1;exact absurd ⟨by omega,by omega⟩ h9
 rw[e];have hP:numP s=none:=by
  cases hm:numP s with
  | none=>rfl
  | some m=>
   obtain ⟨h1,h2,_⟩:=W9a hm;have:=vCb m;rw[h2]at this;exact absurd ⟨this,h1⟩ h9
 rw[hP];rfl
theorem wta(s:Str):qGa s=some (match numP s with | some m=>((m:Int),true) | none=>(0,false)):=by
 unfold qGa;by_cases h9:s.length<=9
 .rw[decide_eq_false (by omega),Yaa s h9];cases numP s <;> rfl
 rw[decide_eq_true (by omega)];have:numP s=none:=by unfold numP;rw[if_neg h9]
 rw[this];rfl
instance:DecidableEq zia:=fun a b=>decidable_of_iff (a.Name=b.Name/\a.Value=b.Value) (by cases a;cases b;simp)
instance:DecidableEq zxa:=fun a b=>decidable_of_iff (a.Fields=b.Fields/\a.Body=b.Body) (by cases a;cases b;simp)
instance:DecidableEq zwa:=fun a b=>decidable_of_iff (a.Envelope=b.Envelope/\a.Message=b.Message) (by cases a;cases b;simp)
theorem low_add(c:UInt8):c+97 - 65=c+32:=by
 rw[<-UInt8.toNat_inj];have:=c.toNat_lt;simp only[UInt8.toNat_add,UInt8.toNat_sub,UInt8.reduceToNat];omega
theorem Vda(s:Str)(hs:s.length<=1048576):WMa s=some (lowP s):=by
 unfold WMa lowP;have:=(jEa s (fun i (o:List UInt8)=>(i,o)) (fun o c=>o++ [lowC c]) id (fun i o=>o.length<=i) (body:=ZXa s)
  (fun o _=>by unfold ZXa;simp[zHa]) (fun i c o hx hi=>by
   have hlt:=zIa hx;refine ⟨?_,by simp;omega⟩;unfold ZXa;dsimp only;rw[kea hx,zAa hx];simp only[cond_true,Option.bind_some,vDa,y0a 65 c (by decide),y1a 90 c (by decide),sc i (by omega)];have hl:((bif (decide ((65:UInt8)<=c) && decide (c<=90)) then some (c+32) else some c):Option UInt8)=some (lowC c):=by
    unfold lowC;rw[low_add];cases decide ((65:UInt8)<=c) && decide (c<=90) <;> rfl
   rw[hl];simp only[Option.bind_some];rw[zTa (by simp;omega)];rfl) [] (by simp)).1
 rw[this,map_fold];simp
theorem Qua(m:zxa)(hf:m.Fields.length<=1048576):vUa m m=some true:=by
 unfold vUa;have e1:((m.Fields.length:Int) !=(m.Fields.length:Int))=false:=by simp
 have e2:(m.Body !=m.Body)=false:=by simp
 rw[e1,e2];simp only[cond_false,Option.bind_some];rw[zEa m.Fields (fun _ _=>none) (.inl ()) .inr]
 .have:zza (fun _ _=>(none:Option Bool)) 0 m.Fields=none:=by rw[k4a];intro i x _;rfl
  simp only[Option.bind_some];rw[this];rfl
 .unfold vva;rw[zHa];rfl
 intro i f hx;have hi:=zIa hx;unfold vva;rw[kea hx,zAa hx];simp only[cond_true,Option.bind_some,sc i (by omega)];simp[w8a]
theorem Yca(m:zwa)(h1:m.Envelope.To.length<=1048576)(h2:m.Message.Fields.length<=1048576):jAa m m=some true:=by
 unfold jAa;have e1:(m.Envelope.From !=m.Envelope.From)=false:=by simp
 have e2:(m.Envelope.Id !=m.Envelope.Id)=false:=by simp
 have e3:((m.Envelope.To.length:Int) !=(m.Envelope.To.length:Int))=false:=by simp
 rw[e1,e2,e3];simp only[cond_false,Option.bind_some];rw[zEa m.Envelope.To (fun _ _=>none) (.inl ()) .inr]
 .have:zza (fun _ _=>(none:Option Bool)) 0 m.Envelope.To=none:=by rw[k4a];intro i x _;rfl
  simp only[Option.bind_some];rw[this];simp only[Option.elim_none,Sum.elim_inl];rw[Qua _ h2];rfl
 .unfold yea;rw[zHa];rfl
 intro i f hx;have hi:=zIa hx;unfold yea;rw[kea hx,zAa hx];simp only[cond_true,Option.bind_some,sc i (by omega)];simp[w8a]
theorem VVa(l:List zwa)(hl:l.length<=1048576)(h:∀m∈l,m.Envelope.To.length<=1048576/\m.Message.Fields.length<=1048576):yza l l=some true:=by
 unfold yza;have e3:((l.length:Int) !=(l.length:Int))=false:=by simp
 rw[e3];simp only[cond_false];rw[zEa l (fun _ _=>none) (.inl ()) .inr]
 .have:zza (fun _ _=>(none:Option Bool)) 0 l=none:=by rw[k4a];intro i x _;rfl
  simp only[Option.bind_some];rw[this];rfl
 .unfold wBa;rw[zHa];rfl
 intro i m hx;have hi:=zIa hx;obtain ⟨q1,q2⟩:=h m (List.mem_of_getElem? hx);unfold wBa;rw[kea hx,zAa hx];simp only[cond_true,Option.bind_some,sc i (by omega),Yca m q1 q2];rfl
def vta(c:UInt8):Str->List Str
 | []=>[[]]
 | b::r=>if b=c then []::vta c r else match vta c r with
  | x::l=>(b::x)::l
  | []=>[[b]]
theorem ZJa(c:UInt8)(s:Str):∃x l,vta c s=x::l:=by
 cases s with
 | nil=>exact ⟨_,_,rfl⟩
 | cons b r=>
  unfold vta;split
  .exact ⟨_,_,rfl⟩
  split <;> exact ⟨_,_,rfl⟩
theorem Yda(c:UInt8)(r:Str):vta c (c::r)=[]::vta c r:=by rw[vta,if_pos rfl]
theorem K0a{b c:UInt8}(h:b≠c){r x:Str}{l:List Str}(hr:vta c r=x::l):vta c (b::r)=(b::x)::l:=by
 rw[vta,if_neg h,hr]
theorem krb(c:UInt8)(s:Str):(vta c s).length<=s.length+1:=by
 induction s with
 | nil=>simp[vta]
 | cons b r ih=>
  by_cases hb:b=c
  .subst hb;rw[Yda];simp;omega
  obtain ⟨x,t,hx⟩:=ZJa c r;rw[hx]at ih;rw[K0a hb hx];simp at ih ⊢;omega
theorem wCb{c:UInt8}{s x:Str}(h:x∈vta c s):x.length<=s.length:=by
 induction s generalizing x with
 | nil=>simp[vta]at h;subst h;simp
 | cons b r ih=>
  by_cases hb:b=c
  .subst hb;rw[Yda]at h;rcases List.mem_cons.1 h with rfl | h
   .simp
   have:=ih h;simp;omega
  obtain ⟨y,t,hy⟩:=ZJa c r;rw[K0a hb hy]at h;rcases List.mem_cons.1 h with rfl | h
  .have:=ih (x:=y) (by rw[hy];simp);simp;omega
  have:=ih (x:=x) (by rw[hy];simp[h]);simp;omega
def nonE(l:List Str):List Str:=l.filter fun x=> !x.isEmpty
def wTa(s:Str):List Str:=nonE (vta 32 s)
def wrd(cur r:Str):List Str:=match vta 32 r with
 | x::l=>nonE ((cur++x)::l)
 | []=>[]
theorem jhb(s:Str):wrd [] s=wTa s:=by
 unfold wrd wTa;obtain ⟨x,l,h⟩:=ZJa 32 s;rw[h];rfl
theorem jib(cur:Str):wrd cur []=nonE [cur]:=by unfold wrd;simp[vta]
theorem jjb(x:Str)(l:List Str):nonE (x::l)=nonE [x]++nonE l:=by unfold nonE;cases h:x.isEmpty <;> simp[h]
theorem wrd_sp(cur r:Str):wrd cur (32::r)=nonE [cur]++wrd [] r:=by
 obtain ⟨x,l,h⟩:=ZJa 32 r;have e:vta 32 (32::r)=[]::x::l:=by rw[Yda,h]
 unfold wrd;rw[e,h];show nonE ((cur++ [])::x::l)=nonE [cur]++nonE (([]++x)::l);rw[List.append_nil,jjb];rfl
theorem VHa{c:UInt8}:∀{k r x:Str} {l:List Str},c ∉ k->vta c r=x::l->vta c (k++r)=(k++x)::l
 | [],_,_,_,_,h=>h
 | b::k,r,x,l,hk,h=>by
  simp at hk;rw[List.cons_append,K0a (Ne.symm hk.1) (VHa hk.2 h)];rfl
theorem Yea{k:Str}(cur r:Str)(hk:(32:UInt8) ∉ k):wrd cur (k++r)=wrd (cur++k) r:=by
 obtain ⟨x,l,h⟩:=ZJa 32 r;unfold wrd;rw[VHa hk h,h];show nonE ((cur++(k++x))::l)=nonE ((cur++k++x)::l);rw[List.append_assoc]
theorem getB{l:Str}{i:Nat}(h:i < l.length):(strB l).get! i=l[i]:=by
 show (strB l).data[i]! =_;simp[strB,h]
theorem jkb{l:Str}{i:Nat}(h:i < l.length):(l[i]=32->Utf8.decode (strB l) i=(32,1))/\
 (l[i]≠32->(Utf8.decode (strB l) i).1≠32/\1<=(Utf8.decode (strB l) i).2/\i+(Utf8.decode (strB l) i).2<=l.length/\∀k (hk:i+k < l.length),k < (Utf8.decode (strB l) i).2->l[i+k]≠32):=by
 have hz:(strB l).size=l.length:=rfl;have e0:(strB l).get! (i+0)=l[i]:=getB h;have hne:∀{u:UInt8},u.toNat / 64=2->u≠32:=fun hu e=>by subst e;exact absurd hu (by decide)
 constructor
 .intro h32;unfold Utf8.decode;simp only[e0,h32];rfl
 intro h32;have hb:l[i].toNat≠32:=fun e=>h32 (UInt8.toNat_inj.1 e)
 have d0:∀(n:Nat),n=1->∀k (hk:i+k < l.length),k < n->l[i+k]≠32:=by
  intro n hn k hk hkn;have:k=0:=by omega
  subst this;exact h32
 have gt:∀k,(decide (i+k < (strB l).size) && ((strB l).get! (i+k)).toNat / 64==2)=true->∃hk:i+k < l.length,l[i+k]≠32:=by
  intro k hk;simp only[Bool.and_eq_true,decide_eq_true_eq,beq_iff_eq,hz]at hk;refine ⟨hk.1,hne ?_⟩;rw[<-getB hk.1];exact hk.2
 unfold Utf8.decode;simp only[e0];split
 .exact ⟨hb,by simp,by simp;omega,d0 _ rfl⟩
 split
 .rename_i hc;simp only[Bool.and_eq_true]at hc;obtain ⟨h1,n1⟩:=gt 1 (by simpa using hc.2);try dsimp only
  split
  .refine ⟨by dsimp only;omega,by simp,by simp;omega,fun k hk hkn=>?_⟩;dsimp only at hkn;obtain rfl | rfl:k=0∨k=1:=by omega
   .exact h32
   exact n1
  exact ⟨by decide,by simp,by simp;omega,d0 _ rfl⟩
 split
 .rename_i hc;simp only[Bool.and_eq_true]at hc;obtain ⟨h1,n1⟩:=gt 1 (by simpa using hc.1.2);obtain ⟨h2,n2⟩:=gt 2 (by simpa using hc.2);try dsimp only
  split
  .rename_i hv;simp only[Bool.and_eq_true,decide_eq_true_eq]at hv;refine ⟨by dsimp only;omega,by simp,by simp;omega,fun k hk hkn=>?_⟩;dsimp only at hkn;obtain rfl | rfl | rfl:k=0∨k=1∨k=2:=by omega
   .exact h32
   .exact n1
   exact n2
  exact ⟨by decide,by simp,by simp;omega,d0 _ rfl⟩
 split
 .rename_i hc;simp only[Bool.and_eq_true]at hc;obtain ⟨h1,n1⟩:=gt 1 (by simpa using hc.1.1.2);obtain ⟨h2,n2⟩:=gt 2 (by simpa using hc.1.2);obtain ⟨h3,n3⟩:=gt 3 (by simpa using hc.2);try dsimp only
  split
  .rename_i hv;simp only[Bool.and_eq_true,decide_eq_true_eq]at hv;refine ⟨by dsimp only;omega,by simp,by simp;omega,fun k hk hkn=>?_⟩;dsimp only at hkn;obtain rfl | rfl | rfl | rfl:k=0∨k=1∨k=2∨k=3:=by omega
   .exact h32
   .exact n1
   .exact n2
   exact n3
  exact ⟨by decide,by simp,by simp;omega,d0 _ rfl⟩
 exact ⟨by decide,by simp,by simp;omega,d0 _ rfl⟩
def curP(l:Str)(pos:Nat):Option Nat->Str
 | none=>[]
 | some a=>(l.drop a).take (pos - a)
def exP(l:Str)(x:Nat × Nat):Str:=((strB l).extract x.1 x.2).data.toList
theorem exP_eq(l:Str)(a b:Nat):exP l (a,b)=(l.drop a).take (b - a):=by
 unfold exP;rw[Lib.extract_data];simp[strB]
theorem spans_eq(l:Str):∀(f pos:Nat) (st:Option Nat) (acc:List (Nat × Nat)),l.length<=pos+f->pos<=l.length->(∀a,st=some a->a < pos)->
 (Lib.closeSpans (strB l) (Lib.spansFromP sp32 (strB l) f pos st acc)).map (exP l)=acc.map (exP l)++wrd (curP l pos st) (l.drop pos):=by
 have fin:∀(pos:Nat) (st:Option Nat) (acc:List (Nat × Nat)),pos=l.length->(∀a,st=some a->a < pos)->(Lib.closeSpans (strB l) (acc,st)).map (exP l)=acc.map (exP l)++wrd (curP l pos st) (l.drop pos):=by
  intro pos st acc hp hst;subst hp;rw[List.drop_length,jib];cases st with
  | none=>simp[Lib.closeSpans,curP,nonE]
  | some a=>
   have ha:=hst a rfl;have e:curP l l.length (some a)=l.drop a:=by show (l.drop a).take (l.length - a)=_;rw[List.take_of_length_le (by simp)]
   rw[e];have hne:(l.drop a).isEmpty=false:=by
    cases hd:l.drop a with
    | nil=>have:=congrArg List.length hd;simp at this;omega
    | cons x y=>rfl
   have hz:(strB l).size=l.length:=rfl;simp[Lib.closeSpans,nonE,hne,exP_eq,hz,List.take_of_length_le]
 intro f;induction f with
 | zero=>
  intro pos st acc h1 h2 h3;unfold Lib.spansFromP;exact fin pos st acc (by omega) h3
 | succ f ih=>
  intro pos st acc h1 h2 h3;by_cases hlt:pos < l.length
  .have hz:pos < (strB l).size:=hlt;obtain ⟨d1,d2⟩:=jkb hlt;have hdr:l.drop pos=l[pos]::l.drop (pos+1):=List.drop_eq_getElem_cons hlt;unfold Lib.spansFromP;rw[if_pos hz];by_cases h32:l[pos]=32
   .rw[d1 h32];rw[show sp32 (32,1).1=true by decide,if_pos rfl];dsimp only;rw[hdr,h32,wrd_sp];cases st with
    | none=>
     dsimp only;rw[ih (pos+1) none acc (by omega) (by omega) (fun a h=>by cases h)];simp[curP,nonE]
    | some a=>
     have ha:=h3 a rfl;dsimp only;rw[ih (pos+1) none (acc++ [(a,pos)]) (by omega) (by omega) (fun a h=>by cases h)];have hne:((l.drop a).take (pos - a)).isEmpty=false:=by
      cases hd:(l.drop a).take (pos - a) with
      | nil=>have:=congrArg List.length hd;simp at this;omega
      | cons x y=>rfl
     simp[curP,nonE,exP_eq,hne]
   obtain ⟨e1,e2,e3,e4⟩:=d2 h32;generalize Utf8.decode (strB l) pos=d at e1 e2 e3 e4;obtain ⟨r,n⟩:=d;dsimp only at e1 e2 e3 e4;have hsp:sp32 r=false:=by unfold sp32;rw[decide_eq_false];omega
   rw[hsp];simp only[Bool.false_eq_true,if_false];have hk:(32:UInt8) ∉ (l.drop pos).take n:=by
    intro hm;obtain ⟨k,hk⟩:=List.mem_iff_getElem?.1 hm;rw[List.getElem?_take]at hk;split at hk
    .rename_i hkn;rw[List.getElem?_drop]at hk;have hkl:=(List.getElem?_eq_some_iff.1 hk).1;have hke:=(List.getElem?_eq_some_iff.1 hk).2;exact e4 k hkl hkn hke
    cases hk
   have hsplit:l.drop pos=(l.drop pos).take n++l.drop (pos+n):=by
    rw[<-List.drop_drop,List.take_append_drop]
   cases st with
   | none=>
    dsimp only;rw[ih (pos+n) (some pos) acc (by omega) e3 (fun a h=>by cases h;omega)]
    conv=>rhs;rw[hsplit,Yea _ _ hk]
    congr 2
    simp[curP]
   | some a=>
    have ha:=h3 a rfl;dsimp only;rw[ih (pos+n) (some a) acc (by omega) e3 (fun b h=>by cases h;omega)]
    conv=>rhs;rw[hsplit,Yea _ _ hk]
    congr 2
    show (l.drop a).take (pos+n - a)=(l.drop a).take (pos - a)++(l.drop pos).take n;rw[show pos+n - a=(pos - a)+n by omega,List.take_add,List.drop_drop,show a+(pos - a)=pos by omega]
  rw[Lib.spansFromP_end _ _ _ _ _ _ (by show ¬pos < l.length;exact hlt)];exact fin pos st acc (by omega) h3
theorem qMb(l:Str):(Lib.goFieldsP sp32 (strB l)).map (fun b=>b.data.toList)=wTa l:=by
 have h:=spans_eq l l.length 0 none [] (by omega) (by omega) (fun a h=>by cases h);rw[List.drop_zero]at h;unfold Lib.goFieldsP Lib.spansOfP;rw[List.map_map];rw[show ((fun b:ByteArray=>b.data.toList) ∘ fun x:Nat × Nat=>(strB l).extract x.1 x.2)=exP l from rfl];rw[show (strB l).size=l.length from rfl,h];simp[curP,jhb]
theorem vEb(a b:Bool):(bif a then some b else some false:Option Bool)=some (a && b):=by cases a <;> rfl
theorem or_some(a b:Bool):(bif a then some true else some b:Option Bool)=some (a || b):=by cases a <;> rfl
def Yfa(c:zka):Bool:=(c.Verb==1 || c.Name==([]:Str)) && (c.Verb==2 || c.Verb==3 || c.Address==([]:Str)) && (c.Verb==2 || c.Verb==5 || c.Size==0) && (c.Verb==3 || c.Notify==0) && (c.Verb==5 || c.Last==false)
def cmdF(c:zka):zta:=
 bif decide (c.Verb < 1) || decide (8 < c.Verb) then ⟨4, -2⟩ else bif !Yfa c then ⟨5, -3⟩ else bif c.Verb==1 && !KUa c.Name then ⟨10, -4⟩ else
 bif (c.Verb==3 || (c.Verb==2 && c.Address !=([]:Str))) && !qja c.Address then ⟨10, -5⟩ else bif decide (c.Size < 0) || decide (1000000 < c.Size) then ⟨3, -6⟩ else
 bif !kWa c.Notify then ⟨3, -7⟩ else ⟨0,0⟩
theorem five(v:Int):v=1∨v=2∨v=3∨v=5∨((v==1)=false/\(v==2)=false/\(v==3)=false/\(v==5)=false):=by
 simp only[beq_eq_false_iff_ne];omega
theorem used_eq(c:zka):∃u,wKa c=some u/\w8a [(c.Verb==u.Verb),(c.Name==u.Name),(c.Address==u.Address),(c.Size==u.Size),(c.Notify==u.Notify),(c.Last==u.Last)]=Yfa c:=by
 obtain ⟨v,n,a,s,o,l⟩:=c;rcases five v with rfl | rfl | rfl | rfl | ⟨h1,h2,h3,h5⟩
 .exact ⟨⟨1,n,[],0,0,false⟩,rfl,by simp[w8a,Yfa,Bool.and_assoc]⟩
 .exact ⟨⟨2,[],a,s,0,false⟩,rfl,by simp[w8a,Yfa,Bool.and_assoc]⟩
 .exact ⟨⟨3,[],a,0,o,false⟩,rfl,by simp[w8a,Yfa,Bool.and_assoc]⟩
 .exact ⟨⟨5,[],[],s,0,l⟩,rfl,by simp[w8a,Yfa,Bool.and_assoc]⟩
 refine ⟨⟨v,[],[],0,0,false⟩,?_,?_⟩
 .unfold wKa;dsimp only;rw[h1,h2,h3,h5];rfl
 unfold Yfa;dsimp only;rw[h1,h2,h3,h5];simp[w8a,Bool.and_assoc]
def zwb(c:zka):Prop:=c.Name.length<=1048576/\c.Address.length<=1048576
theorem K1a(c:zka)(h:zwb c):qCa c=some (cmdF c):=by
 obtain ⟨u,hu,he⟩:=used_eq c;unfold qCa cmdF;rw[hu];simp only[Option.bind_some,he,Qna _ h.1,qwa _ (show c.Address.length < 4294967281 by have:=h.2;omega),v2a,kha,k1a,vEb,or_some];cases decide (c.Verb < 1) || decide (8 < c.Verb) with
 | true=>rfl
 | false=>
  cases Yfa c with
  | false=>rfl
  | true=>
   cases c.Verb==1 && !KUa c.Name with
   | true=>rfl
   | false=>
    cases (c.Verb==3 || (c.Verb==2 && c.Address !=([]:Str))) && !qja c.Address with
    | true=>rfl
    | false=>
     cases decide (c.Size < 0) || decide (1000000 < c.Size) with
     | true=>rfl
     | false=>cases kWa c.Notify <;> rfl
theorem Vea(c:zka)(h:zwb c):jfa c=some (cmdF c):=by
 have hN:=WRa _ h.1;have hA:=YJa c.Address (by have:=h.2;omega);unfold jfa cmdF;rw[vDa];have e1:(!(decide (1<=c.Verb) && decide (c.Verb<=8)))=(decide (c.Verb < 1) || decide (8 < c.Verb)):=by
  rw[Bool.eq_iff_iff];simp
 simp only[Option.bind_some,e1,KTa];cases hv:decide (c.Verb < 1) || decide (8 < c.Verb) with
 | true=>rfl
 | false=>
  simp only[cond_false,hN,hA,Option.bind_some,vDa];obtain ⟨v,n,a,s,o,l⟩:=c;dsimp only at *;have en:(n !=([]:Str))= !(n==([]:Str)):=rfl;have ea:(a !=([]:Str))= !(a==([]:Str)):=rfl;have es:(s !=(0:Int))= !(s==0):=rfl;have eo:(o !=(0:Int))= !(o==0):=rfl;have e0:(0:Int)<=1000000:=by omega
  have sz:(decide (0<=s) && decide (s<=1000000))= !(decide (s < 0) || decide (1000000 < s)):=by rw[Bool.eq_iff_iff];simp
  have sz0:s=0->(decide (s < 0) || decide (1000000 < s))=false:=fun e=>by subst e;rfl
  have no0:o=0->kWa o=true:=fun e=>by subst e;rfl
  have nop:(decide (0<=o) && decide (o<=7))=kWa o:=rfl;rw[en,ea,es,eo,sz,nop];unfold Yfa;dsimp only;rcases five v with rfl | rfl | rfl | rfl | ⟨h1,h2,h3,h5⟩
  .simp only[show ((1:Int)==1)=true from rfl,show ((1:Int)==2)=false from rfl,show ((1:Int)==3)=false from rfl,show ((1:Int)==5)=false from rfl,show ((1:Int) !=1)=false from rfl,show ((1:Int) !=2)=true from rfl,show ((1:Int) !=3)=true from rfl,show ((1:Int) !=5)=true from rfl];cases a==([]:Str) with
   | false=>rfl
   | true=>
    cases hs:s==0 with
    | false=>rfl
    | true=>
     cases ho:o==0 with
     | false=>rfl
     | true=>
      rw[sz0 (by simpa using hs),no0 (by simpa using ho)];cases l <;> cases KUa n <;> rfl
  .simp only[show ((2:Int)==1)=false from rfl,show ((2:Int)==2)=true from rfl,show ((2:Int)==3)=false from rfl,show ((2:Int)==5)=false from rfl,show ((2:Int) !=1)=true from rfl,show ((2:Int) !=2)=false from rfl,show ((2:Int) !=3)=true from rfl,show ((2:Int) !=5)=true from rfl];cases n==([]:Str) with
   | false=>rfl
   | true=>
    cases ho:o==0 with
    | false=>rfl
    | true=>
     rw[no0 (by simpa using ho)];cases l <;> cases a==([]:Str) <;> cases qja a <;> cases (decide (s < 0) || decide (1000000 < s)) <;> rfl
  .simp only[show ((3:Int)==1)=false from rfl,show ((3:Int)==2)=false from rfl,show ((3:Int)==3)=true from rfl,show ((3:Int)==5)=false from rfl,show ((3:Int) !=1)=true from rfl,show ((3:Int) !=2)=true from rfl,show ((3:Int) !=3)=false from rfl,show ((3:Int) !=5)=true from rfl];cases n==([]:Str) with
   | false=>rfl
   | true=>
    cases hs:s==0 with
    | false=>rfl
    | true=>
     rw[sz0 (by simpa using hs)];cases l <;> cases qja a <;> cases kWa o <;> rfl
  .simp only[show ((5:Int)==1)=false from rfl,show ((5:Int)==2)=false from rfl,show ((5:Int)==3)=false from rfl,show ((5:Int)==5)=true from rfl,show ((5:Int) !=1)=true from rfl,show ((5:Int) !=2)=true from rfl,show ((5:Int) !=3)=true from rfl,show ((5:Int) !=5)=false from rfl];cases n==([]:Str) with
   | false=>rfl
   | true=>
    cases a==([]:Str) with
    | false=>rfl
    | true=>
     cases ho:o==0 with
     | false=>rfl
     | true=>
      rw[no0 (by simpa using ho)];cases (decide (s < 0) || decide (1000000 < s)) <;> rfl
  have n1:(v !=1)=true:=by unfold bne;rw[h1];rfl
  have n2:(v !=2)=true:=by unfold bne;rw[h2];rfl
  have n3:(v !=3)=true:=by unfold bne;rw[h3];rfl
  have n5:(v !=5)=true:=by unfold bne;rw[h5];rfl
  rw[h1,h2,h3,h5,n1,n2,n3,n5];cases n==([]:Str) with
  | false=>rfl
  | true=>
   cases a==([]:Str) with
   | false=>rfl
   | true=>
    cases hs:s==0 with
    | false=>rfl
    | true=>
     cases ho:o==0 with
     | false=>rfl
     | true=>
      rw[sz0 (by simpa using hs),no0 (by simpa using ho)];cases l <;> rfl
structure YPa (c:zka):Prop where
 verb:1<=c.Verb/\c.Verb<=8
 used:Yfa c=true
 name:c.Verb=1->KUa c.Name=true
 addr:c.Verb=3∨(c.Verb=2/\c.Address≠ [])->qja c.Address=true
 size:0<=c.Size/\c.Size<=1000000
 note:0<=c.Notify/\c.Notify<=7
theorem jlb{c:zka}(h:(cmdF c).Code=0):YPa c/\cmdF c=⟨0,0⟩:=by
 unfold cmdF at h ⊢;cases h1:decide (c.Verb < 1) || decide (8 < c.Verb) with
 | true=>rw[h1]at h;exact absurd h (show (4:Int)≠0 by decide)
 | false=>
  rw[h1]at h;cases h2:Yfa c with
  | false=>rw[h2]at h;exact absurd h (show (5:Int)≠0 by decide)
  | true=>
   rw[h2]at h;cases h3:c.Verb==1 && !KUa c.Name with
   | true=>rw[h3]at h;exact absurd h (show (10:Int)≠0 by decide)
   | false=>
    rw[h3]at h;cases h4:(c.Verb==3 || (c.Verb==2 && c.Address !=([]:Str))) && !qja c.Address with
    | true=>rw[h4]at h;exact absurd h (show (10:Int)≠0 by decide)
    | false=>
     rw[h4]at h;cases h5:decide (c.Size < 0) || decide (1000000 < c.Size) with
     | true=>rw[h5]at h;exact absurd h (show (3:Int)≠0 by decide)
     | false=>
      rw[h5]at h;cases h6:kWa c.Notify with
      | false=>rw[h6]at h;exact absurd h (show (3:Int)≠0 by decide)
      | true=>
       simp only[Bool.or_eq_false_iff,decide_eq_false_iff_not]at h1 h5;unfold kWa at h6;simp only[Bool.and_eq_true,decide_eq_true_eq]at h6;refine ⟨⟨by omega,h2,fun hv=>?_,fun hv=>?_,by omega,h6⟩,rfl⟩
       .rw[hv]at h3;simpa using h3
       cases ha:qja c.Address with
       | true=>rfl
       | false=>
        rw[ha]at h4;rcases hv with hv | ⟨hv,hn⟩
        .rw[hv]at h4;simp at h4
        rw[hv]at h4;simp at h4;exact absurd h4 hn
def Qva:List Str:=[[104,101,108,108,111],[109,97,105,108],[114,99,112,116],[100,97,116,97],[99,104,117,110,107],[114,101,115,101,116],[110,111,111,112],[113,117,105,116]]
def ZKa:List Str:=[[110,101,118,101,114],[102,97,105,108,117,114,101],[100,101,108,97,121],[102,97,105,108,117,114,101,44,100,101,108,97,121],[115,117,99,99,101,115,115],[102,97,105,108,117,114,101,44,115,117,99,99,101,115,115],[100,101,108,97,121,44,115,117,99,99,101,115,115],[102,97,105,108,117,114,101,44,100,101,108,97,121,44,115,117,99,99,101,115,115]]
def zxb(v:Int):Str:=Qva.getD (v - 1).toNat []
def qNb(n:Int):Str:=ZKa.getD n.toNat []
def condsV:zja × zja × zja:=((zja.mk 1 (([102,97,105,108,117,114,101]:Str))),(zja.mk 2 (([100,101,108,97,121]:Str))),(zja.mk 4 (([115,117,99,99,101,115,115]:Str))))
instance:DecidableEq (Step (Int × List Str) (List Str)):=fun a b=>match a,b with
 | .cont x,.cont y=>decidable_of_iff (x=y) (by simp)
 | .out x,.out y=>decidable_of_iff (x=y) (by simp)
 | .cont x,.out y=>isFalse (by simp)
 | .out x,.cont y=>isFalse (by simp)
def wDb(n:Nat):List Str:=(if n % 2=1 then [[102,97,105,108,117,114,101]] else [])++(if n / 2 % 2=1 then [[100,101,108,97,121]] else [])++(if n / 4 % 2=1 then [[115,117,99,99,101,115,115]] else [])
theorem jmb:∀n:Fin 8,Z4a (wpa (n.val:Int) condsV) 4 (0,[])=some (wDb n.val):=by decide+kernel
theorem jnb:∀n:Fin 8,(if wDb n.val=[] then ([110,101,118,101,114]:Str) else Lib.join (wDb n.val) [44])=ZKa.getD n.val []/\(wDb n.val).length<=3/\(ZKa.getD n.val []).length<=100:=by decide+kernel
theorem Vfa{n:Int}(h:0<=n/\n<=7):vna n=some (qNb n):=by
 have h1:=jmb ⟨n.toNat,by omega⟩;obtain ⟨h2,h3,h4⟩:=jnb ⟨n.toNat,by omega⟩;dsimp only at h1 h2 h3 h4;rw[show ((n.toNat:Nat):Int)=n by omega]at h1;unfold vna;have hc:qPa=some condsV:=rfl;rw[hc];simp only[Option.bind_some];rw[Qaa.2 ⟨4,h1⟩];simp only[Option.bind_some];unfold qNb;by_cases he:wDb n.toNat=[]
 .rw[if_pos he]at h2;rw[he,<-h2];rfl
 rw[if_neg he]at h2;have e:(((wDb n.toNat).length:Int)==0)=false:=by
  rw[beq_eq_false_iff_ne];have:=List.length_pos_iff.2 he;omega
 rw[e];simp only[cond_false];unfold q0a;rw[if_pos ⟨by omega,by rw[h2];omega⟩,h2];rfl
theorem job:∀k:Fin 8,Qva[k.val]? =some (zxb ((k.val:Int)+1))/\(zxb ((k.val:Int)+1)).length<=5:=by decide
theorem word_idx{v:Int}(h:1<=v/\v<=8):idx Qva (w64 (v - 1))=some (zxb v)/\(zxb v).length<=5:=by
 have:=job ⟨(v - 1).toNat,by omega⟩;dsimp only at this;rw[show (((v - 1).toNat:Nat):Int)+1=v by omega]at this;rw[qMa (by omega) (by omega),show v - 1=(((v - 1).toNat:Nat):Int) by omega,wqa];exact this
theorem VWa:yfa=some (([104,101,108,108,111]:Str),([109,97,105,108]:Str),([114,99,112,116]:Str),([100,97,116,97]:Str),([99,104,117,110,107]:Str),([114,101,115,101,116]:Str),([110,111,111,112]:Str),([113,117,105,116]:Str)):=rfl
theorem vFb{a:Str}(h:qja a=true):a.length<=121:=by
 unfold qja at h;simp only[Bool.and_eq_true,decide_eq_true_eq]at h;obtain ⟨⟨⟨⟨h1,h2⟩,h3⟩,h4⟩,h5⟩:=h;unfold domP at h5;simp only[Bool.and_eq_true,decide_eq_true_eq,List.length_drop]at h5;omega
theorem jpb{v:Int}(h:1<=v/\v<=8):yOb v=some (zxb v):=by
 unfold yOb;exact (congrArg (fun o:Option Str=>o.bind fun v1=>some v1) (word_idx h).1)
theorem VXa:∀k:Fin 8,ZDa (k.val:Int)=some (ZKa.getD k.val []):=by decide
theorem Yga{n:Int}(h:0<=n/\n<=7):ZDa n=some (qNb n):=by
 have:=VXa ⟨n.toNat,by omega⟩;dsimp only at this;rw[show ((n.toNat:Nat):Int)=n by omega]at this;exact this
def angP:Str->Option Str
 | b::r=>if b=60/\r.getLast? =some 62 then some r.dropLast else none
 | []=>none
theorem Jqa(c:UInt8)(v:Str):Lib.hasSuffix v [c]=decide (v.getLast? =some c):=by
 unfold Lib.hasSuffix;rw[Bool.eq_iff_iff,List.isSuffixOf_iff_suffix,decide_eq_true_eq];constructor
 .rintro ⟨t,rfl⟩;simp
 intro h;have hne:v≠ []:=by rintro rfl;cases h
 refine ⟨v.dropLast,?_⟩;have:=List.dropLast_concat_getLast hne;rw[List.getLast?_eq_some_getLast hne]at h;rw[Option.some.inj h]at this;exact this
theorem qQa(a:Str)(ha:a.length<=1048576):∃x,qfa a=some (x,(angP a).isSome)/\∀y,angP a=some y->x=y:=by
 unfold qfa zUa;simp only[Option.bind_some];have hpre:∀(t:Str),Lib.hasPrefix (60::t) [60]=true:=fun t=>by simp[Lib.hasPrefix]
 cases a with
 | nil=>
  refine ⟨[],?_,fun y h=>by cases h⟩;unfold zVa;rfl
 | cons b r=>
  by_cases hb:b=60
  .subst hb;have h1:Lib.trimPrefix (60::r) [60]=r:=by unfold Lib.trimPrefix;rw[hpre];rfl
   rw[h1,hpre];unfold zVa;simp at ha;have hsm:(angP (60::r)).isSome=decide (r.getLast? =some 62):=by
    unfold angP;by_cases hl:r.getLast? =some 62 <;> simp[hl]
   rw[if_pos (by omega),Jqa,hsm];simp only[Option.bind_some,cond_true];refine ⟨_,rfl,fun y hy=>?_⟩;unfold angP at hy;by_cases hl:r.getLast? =some 62
   .simp only[hl,and_self,if_true,Option.some.injEq]at hy;subst hy;unfold Lib.trimSuffix;rw[Jqa,hl];simp[List.dropLast_eq_take]
   simp[hl]at hy
  have h1:Lib.hasPrefix (b::r) [60]=false:=by
   simp[Lib.hasPrefix,List.isPrefixOf];exact fun h=>hb h.symm
  have h2:Lib.trimPrefix (b::r) [60]=b::r:=by unfold Lib.trimPrefix;rw[h1];rfl
  rw[h1,h2];unfold zVa;rw[if_pos (by omega)];have h3:angP (b::r)=none:=by unfold angP;simp[hb]
  exact ⟨_,by rw[h3];rfl,fun y hy=>by rw[h3]at hy;cases hy⟩
def optP(o n:Str):Option Str:=if (n++ [61]).isPrefixOf (lowP o) then some ((lowP o).drop (n.length+1)) else none
theorem jHa(o n:Str)(ho:o.length<=1048576)(hn:n.length<=100):∃x,kKa [o] n=some (x,(optP o n).isSome)/\(∀y,optP o n=some y->x=y)/\x.length<=o.length:=by
 have hll:(lowP o).length=o.length:=by unfold lowP;simp
 unfold kKa;have e1:((([o]:List Str).length:Int) !=1)=false:=rfl;have e2:idx [o] 0=some o:=rfl;rw[e1,e2];simp only[cond_false,Option.bind_some,jia o ho];rw[jDa (by simp;omega)];unfold zUa;simp only[Option.bind_some];unfold optP Lib.trimPrefix Lib.hasPrefix;by_cases h:(n++ [61]).isPrefixOf (lowP o)=true
 .rw[if_pos h];refine ⟨_,by rw[h];rfl,fun y hy=>?_,by simp;omega⟩;rw[if_pos h]at hy;cases hy;simp
 have h0:(n++ [61]).isPrefixOf (lowP o)=false:=by cases hb:(n++ [61]).isPrefixOf (lowP o) with
  | true=>exact absurd hb h
  | false=>rfl
 refine ⟨lowP o,?_,fun y hy=>?_,by omega⟩
 .rw[h0];simp
 rw[h0]at hy;simp at hy
def Qwa(s:Str):Option Int:=zza (fun i w=>if w==s then some ((i:Nat):Int) else none) 0 ZKa
theorem Yha(s:Str)(b:Bool):wMa s b=some (match (if b then Qwa s else none) with | some n=>(n,true) | none=>(0,false)):=by
 unfold wMa;cases b with
 | false=>
  have wsa:∀i:Nat,i<=8->iter (z7a s false) (i:Int)=some (.inl ()):=by
   intro i hi;have key:∀k i:Nat,i+k=8->iter (z7a s false) (i:Int)=some (.inl ()):=by
    intro k;induction k with
    | zero=>
     intro i h;refine zBa ?_;unfold z7a;rw[decide_eq_false (by omega)];rfl
    | succ k ih=>
     intro i h;have hs:z7a s false (i:Int)=some (.cont ((i+1:Nat):Int)):=by
      unfold z7a;rw[decide_eq_true (by omega)];simp only[cond_true,cond_false,Option.bind_some,sc i (by omega)]
     rw[zMa hs];exact ih (i+1) (by omega)
   exact key (8 - i) i (by omega)
  have:=wsa 0 (by omega);rw[show (((0:Nat)):Int)=0 from rfl]at this;rw[this];rfl
 | true=>
  have hl:=zEa ZKa (fun i w=>if w==s then some (((i:Nat):Int),true) else none) (Sum.inl ()) Sum.inr (body:=z7a s true)
   (by unfold z7a;rfl) (fun i w hw=>by
    have hi:=zIa hw;have h8:ZKa.length=8:=rfl;have hc:qNb (i:Int)=w:=by
     unfold qNb;rw[Int.toNat_natCast,List.getD_eq_getElem?_getD,hw];rfl
    unfold z7a;rw[decide_eq_true (by omega),Vfa (by omega),hc];simp only[cond_true,Option.bind_some,sc i (by omega)];cases w==s <;> rfl)
  rw[hl];have hf:∀(l:List Str) (n:Nat),zza (fun i w=>if w==s then some (((i:Nat):Int),true) else none) n l=(zza (fun i w=>if w==s then some ((i:Nat):Int) else none) n l).map fun x=>(x,true):=by
   intro l;induction l with
   | nil=>intro n;rfl
   | cons y l ih=>
    intro n;unfold zza;cases hy:y==s with
    | true=>simp
    | false=>simp only[Bool.false_eq_true,if_false];exact ih (n+1)
  rw[hf];unfold Qwa;rw[if_pos rfl];cases zza (fun i w=>if w==s then some ((i:Nat):Int) else none) 0 ZKa <;> rfl
def VYa:Str:=[115,105,122,101]
def notW:Str:=[110,111,116,105,102,121]
def ksb:Str:=[108,97,115,116]
def v4a(v:Int)(l:List Str):Option zka:=
 if v=1 then (match l with | [n]=>some ⟨1,n,[],0,0,false⟩ | _=>none)
 else if v=2 then (match l with
  | [a]=>(angP a).map fun x=>⟨2,[],x,0,0,false⟩
  | [a,o]=>(angP a).bind fun x=>(optP o VYa).bind fun s=>(numP s).map fun (m:Nat)=>(⟨2,[],x,(m:Int),0,false⟩:zka)
  | _=>none)
 else if v=3 then (match l with
  | [a]=>(angP a).map fun x=>⟨3,[],x,0,1,false⟩
  | [a,o]=>(angP a).bind fun x=>(optP o notW).bind fun s=>(Qwa s).map fun m=>⟨3,[],x,0,m,false⟩
  | _=>none)
 else if v=5 then (match l with
  | [n]=>(numP n).map fun (m:Nat)=>(⟨5,[],[],(m:Int),0,false⟩:zka)
  | [n,x]=>(numP n).bind fun m=>if lowP x=ksb then some ⟨5,[],[],(m:Int),0,true⟩ else none
  | _=>none)
 else (match l with | []=>some ⟨v,[],[],0,0,false⟩ | _=>none)
theorem ap2(a:Str):v4a 2 [a]=(angP a).map fun x=>(⟨2,[],x,0,0,false⟩:zka):=rfl
theorem ap22(a o:Str):v4a 2 [a,o]=(angP a).bind fun x=>(optP o VYa).bind fun s=>(numP s).map fun (m:Nat)=>(⟨2,[],x,(m:Int),0,false⟩:zka):=rfl
theorem ap3(a:Str):v4a 3 [a]=(angP a).map fun x=>(⟨3,[],x,0,1,false⟩:zka):=rfl
theorem ap33(a o:Str):v4a 3 [a,o]=(angP a).bind fun x=>(optP o notW).bind fun s=>(Qwa s).map fun m=>(⟨3,[],x,0,m,false⟩:zka):=rfl
theorem ap5(n:Str):v4a 5 [n]=(numP n).map fun (m:Nat)=>(⟨5,[],[],(m:Int),0,false⟩:zka):=rfl
theorem ap55(n x:Str):v4a 5 [n,x]=(numP n).bind fun (m:Nat)=>if lowP x=ksb then some (⟨5,[],[],(m:Int),0,true⟩:zka) else none:=rfl
theorem len_in(l:List Str)(a b:Int):(((bif decide (a<=(l.length:Int)) then some (decide ((l.length:Int)<=b)) else some false):Option Bool))=some (decide (a<=(l.length:Int)) && decide ((l.length:Int)<=b)):=vEb _ _
theorem Yia(v:Int)(l:List Str)(hl:∀s∈l,s.length<=1048576)(hv:v≠4->v≠6->v≠7->v≠8->v=1∨v=2∨v=3∨v=5):
 ∃c,wNa v l=some (c,(v4a v l).isSome)/\∀y,v4a v l=some y->c=y:=by
 have none3:∀(a b c:Str) (r:List Str) (v:Int),v4a v (a::b::c::r)=none:=by
  intro a b c r v;unfold v4a;repeat' split <;> first | rfl | (rename_i h;cases h) | skip
 unfold wNa;simp only[len_in,Option.bind_some];rcases five v with rfl | rfl | rfl | rfl | ⟨h1,h2,h3,h5⟩
 .simp only[show ((1:Int)==1)=true from rfl,cond_true]
  match l,hl with
  | [],_=>exact ⟨_,rfl,fun y h=>by cases h⟩
  | [n],_=>exact ⟨_,rfl,fun y h=>by cases h;rfl⟩
  | a::b::r,_=>
   have e:(decide ((1:Int)<=(((a::b::r).length:Nat):Int)) && decide ((((a::b::r).length:Nat):Int)<=1))=false:=by simp;omega
   rw[e];exact ⟨_,rfl,fun y h=>by cases h⟩
 .simp only[show ((2:Int)==1)=false from rfl,show ((2:Int)==2)=true from rfl,cond_true,cond_false]
  match l,hl with
  | [],_=>exact ⟨_,rfl,fun y h=>by cases h⟩
  | [a],hl=>
   obtain ⟨x,hx,hy⟩:=qQa a (hl a (by simp));have e2:idx [a] 0=some a:=rfl;have e4:(((([a]:List Str).length:Nat):Int)==2)=false:=rfl;have e5:(decide ((1:Int)<=(((([a]:List Str).length:Nat):Int))) && decide ((((([a]:List Str).length:Nat):Int))<=2))=true:=rfl;rw[e5,e2,e4];simp only[Option.bind_some,Bool.not_true,cond_false];rw[hx];refine ⟨⟨2,[],x,0,0,false⟩,?_,fun y h=>?_⟩
   .rw[ap2];cases angP a <;> rfl
   rw[ap2]at h;cases ha:angP a with
   | none=>rw[ha]at h;cases h
   | some z=>rw[ha]at h;cases h;rw[hy z ha]
  | [a,o],hl=>
   obtain ⟨x,hx,hy⟩:=qQa a (hl a (by simp));obtain ⟨z,hz,hzy,hzl⟩:=jHa o VYa (hl o (by simp)) (by decide);have e2:idx [a,o] 0=some a:=rfl;have e3:cut [a,o] 1 ((([a,o]:List Str).length:Nat):Int)=some [o]:=rfl;have e4:(((([a,o]:List Str).length:Nat):Int)==2)=true:=rfl;have e5:(decide ((1:Int)<=(((([a,o]:List Str).length:Nat):Int))) && decide ((((([a,o]:List Str).length:Nat):Int))<=2))=true:=rfl;have hz' :kKa [o] ([115,105,122,101]:Str)=_:=hz;rw[e5,e2,e4,e3];simp only[Option.bind_some,Bool.not_true,cond_false,cond_true];rw[hx];simp only[Option.bind_some];rw[hz'];simp only[Option.bind_some,wta];cases hn:numP z with
   | none=>
    refine ⟨⟨2,[],x,0,0,false⟩,?_,fun y h=>?_⟩
    .have:v4a 2 [a,o]=none:=by
      rw[ap22];cases angP a with
      | none=>rfl
      | some q=>
       cases ho:optP o VYa with
       | none=>simp[ho]
       | some w=>
        have:=hzy w ho;subst this;simp[ho,hn]
     rw[this];cases (angP a).isSome <;> rfl
    exfalso;rw[ap22]at h;cases ha:angP a with
    | none=>rw[ha]at h;cases h
    | some q=>
     cases ho:optP o VYa with
     | none=>rw[ha]at h;simp[ho]at h
     | some w=>
      have:=hzy w ho;subst this;rw[ha]at h;simp[ho,hn]at h
   | some m=>
    refine ⟨⟨2,[],x,(m:Int),0,false⟩,?_,fun y h=>?_⟩
    .rw[ap22];cases ha:angP a with
     | none=>rfl
     | some q=>
      cases ho:optP o VYa with
      | none=>simp[ho];rfl
      | some w=>
       have:=hzy w ho;subst this;simp[ho,hn];rfl
    rw[ap22]at h;cases ha:angP a with
    | none=>rw[ha]at h;cases h
    | some q=>
     cases ho:optP o VYa with
     | none=>rw[ha]at h;simp[ho]at h
     | some w=>
      have:=hzy w ho;subst this;rw[ha]at h;simp[ho,hn]at h;rw[<-h,hy q ha]
  | a::b::c::r,_=>
   have e:(decide ((1:Int)<=(((a::b::c::r).length:Nat):Int)) && decide ((((a::b::c::r).length:Nat):Int)<=2))=false:=by simp;omega
   rw[e,none3];exact ⟨_,rfl,fun y h=>by cases h⟩
 .simp only[show ((3:Int)==1)=false from rfl,show ((3:Int)==2)=false from rfl,show ((3:Int)==3)=true from rfl,cond_true,cond_false]
  match l,hl with
  | [],_=>exact ⟨_,rfl,fun y h=>by cases h⟩
  | [a],hl=>
   obtain ⟨x,hx,hy⟩:=qQa a (hl a (by simp));have e2:idx [a] 0=some a:=rfl;have e4:(((([a]:List Str).length:Nat):Int)==2)=false:=rfl;have e5:(decide ((1:Int)<=(((([a]:List Str).length:Nat):Int))) && decide ((((([a]:List Str).length:Nat):Int))<=2))=true:=rfl;rw[e5,e2,e4];simp only[Option.bind_some,Bool.not_true,cond_false];rw[hx];refine ⟨⟨3,[],x,0,1,false⟩,?_,fun y h=>?_⟩
   .rw[ap3];cases angP a <;> rfl
   rw[ap3]at h;cases ha:angP a with
   | none=>rw[ha]at h;cases h
   | some z=>rw[ha]at h;cases h;rw[hy z ha]
  | [a,o],hl=>
   obtain ⟨x,hx,hy⟩:=qQa a (hl a (by simp));obtain ⟨z,hz,hzy,hzl⟩:=jHa o notW (hl o (by simp)) (by decide);have e2:idx [a,o] 0=some a:=rfl;have e3:cut [a,o] 1 ((([a,o]:List Str).length:Nat):Int)=some [o]:=rfl;have e4:(((([a,o]:List Str).length:Nat):Int)==2)=true:=rfl;have e5:(decide ((1:Int)<=(((([a,o]:List Str).length:Nat):Int))) && decide ((((([a,o]:List Str).length:Nat):Int))<=2))=true:=rfl;have hz' :kKa [o] ([110,111,116,105,102,121]:Str)=_:=hz;rw[e5,e2,e4,e3];simp only[Option.bind_some,Bool.not_true,cond_false,cond_true];rw[hx];simp only[Option.bind_some];rw[hz'];simp only[Option.bind_some,Yha];cases ho:optP o notW with
   | none=>
    have h0:v4a 3 [a,o]=none:=by
     rw[ap33];cases angP a <;> simp[ho]
    rw[h0];refine ⟨⟨3,[],x,0,0,false⟩,?_,fun y h=>by cases h⟩;cases (angP a).isSome <;> rfl
   | some w=>
    have:=hzy w ho;subst this;simp only[Option.isSome_some,if_true];cases hn:Qwa z with
    | none=>
     have h0:v4a 3 [a,o]=none:=by
      rw[ap33];cases angP a <;> simp[ho,hn]
     rw[h0];refine ⟨⟨3,[],x,0,0,false⟩,?_,fun y h=>by cases h⟩;cases (angP a).isSome <;> rfl
    | some m=>
     refine ⟨⟨3,[],x,0,m,false⟩,?_,fun y h=>?_⟩
     .rw[ap33];cases ha:angP a with
      | none=>rfl
      | some q=>simp[ho,hn];rfl
     rw[ap33]at h;cases ha:angP a with
     | none=>rw[ha]at h;cases h
     | some q=>
      rw[ha]at h;simp[ho,hn]at h;rw[<-h,hy q ha]
  | a::b::c::r,_=>
   have e:(decide ((1:Int)<=(((a::b::c::r).length:Nat):Int)) && decide ((((a::b::c::r).length:Nat):Int)<=2))=false:=by simp;omega
   rw[e,none3];exact ⟨_,rfl,fun y h=>by cases h⟩
 .simp only[show ((5:Int)==1)=false from rfl,show ((5:Int)==2)=false from rfl,show ((5:Int)==3)=false from rfl,show ((5:Int)==5)=true from rfl,cond_true,cond_false]
  match l,hl with
  | [],_=>exact ⟨_,rfl,fun y h=>by cases h⟩
  | [a],hl=>
   have e2:idx [a] 0=some a:=rfl;have e4:(((([a]:List Str).length:Nat):Int)==2)=false:=rfl;have e5:(decide ((1:Int)<=(((([a]:List Str).length:Nat):Int))) && decide ((((([a]:List Str).length:Nat):Int))<=2))=true:=rfl;rw[e5,e2,e4];simp only[Option.bind_some,Bool.not_true,Bool.not_false,cond_false,cond_true,wta];cases hn:numP a with
   | none=>
    have h0:v4a 5 [a]=none:=by
     rw[ap5];simp[hn]
    rw[h0];exact ⟨⟨5,[],[],0,0,false⟩,rfl,fun y h=>by cases h⟩
   | some m=>
    have h0:v4a 5 [a]=some ⟨5,[],[],(m:Int),0,false⟩:=by
     rw[ap5];simp[hn]
    rw[h0];exact ⟨⟨5,[],[],(m:Int),0,false⟩,rfl,fun y h=>by cases h;rfl⟩
  | [a,x],hl=>
   have e2:idx [a,x] 0=some a:=rfl;have e3:idx [a,x] 1=some x:=rfl;have e4:(((([a,x]:List Str).length:Nat):Int)==2)=true:=rfl;have e5:(decide ((1:Int)<=(((([a,x]:List Str).length:Nat):Int))) && decide ((((([a,x]:List Str).length:Nat):Int))<=2))=true:=rfl;rw[e5,e2,e4,e3];simp only[Option.bind_some,Bool.not_true,cond_false,cond_true,wta,jia x (hl x (by simp))];have hw:(lowP x==([108,97,115,116]:Str))=decide (lowP x=ksb):=by rw[Bool.eq_iff_iff,beq_iff_eq,decide_eq_true_eq];exact Iff.rfl
   rw[hw];cases hn:numP a with
   | none=>
    have h0:v4a 5 [a,x]=none:=by
     rw[ap55];simp[hn]
    rw[h0];exact ⟨⟨5,[],[],0,0,true⟩,rfl,fun y h=>by cases h⟩
   | some m=>
    by_cases hx:lowP x=ksb
    .have h0:v4a 5 [a,x]=some ⟨5,[],[],(m:Int),0,true⟩:=by
      rw[ap55];simp[hn,hx]
     rw[h0,decide_eq_true hx];exact ⟨⟨5,[],[],(m:Int),0,true⟩,rfl,fun y h=>by cases h;rfl⟩
    have h0:v4a 5 [a,x]=none:=by
     rw[ap55];simp[hn,hx]
    rw[h0,decide_eq_false hx];exact ⟨⟨5,[],[],(m:Int),0,true⟩,rfl,fun y h=>by cases h⟩
  | a::b::c::r,_=>
   have e:(decide ((1:Int)<=(((a::b::c::r).length:Nat):Int)) && decide ((((a::b::c::r).length:Nat):Int)<=2))=false:=by simp;omega
   rw[e,none3];exact ⟨_,rfl,fun y h=>by cases h⟩
 rw[h1,h2,h3,h5];simp only[cond_false];have n1:v≠1:=by simpa using h1
 have n2:v≠2:=by simpa using h2
 have n3:v≠3:=by simpa using h3
 have n5:v≠5:=by simpa using h5
 have hr:voa 0 0 l=some l.isEmpty:=by
  unfold voa;rw[len_in];cases l with
  | nil=>rfl
  | cons a r=>
   simp only[Option.bind_some];have:(decide ((0:Int)<=(((a::r).length:Nat):Int)) && decide ((((a::r).length:Nat):Int)<=0))=false:=by simp
   rw[this];rfl
 rw[hr];unfold v4a;rw[if_neg n1,if_neg n2,if_neg n3,if_neg n5];cases l with
 | nil=>exact ⟨_,rfl,fun y h=>by cases h;rfl⟩
 | cons a r=>exact ⟨_,rfl,fun y h=>by cases h⟩
def qOb(y:Str):Int:=Qva.zipIdx.foldl (fun (s:Int) p=>if y==p.1 then ((p.2+1:Nat):Int) else s) 0
def qPb:List Str->Int
 | []=>0
 | x::_=>qOb (lowP x)
theorem Yja(y:Str):(qOb y=0/\y ∉ Qva)∨∃v:Int,1<=v/\v<=8/\qOb y=v/\y=zxb v:=by
 by_cases h:y∈Qva
 .right;have:∀z∈Qva,∃v:Fin 8,qOb z=(v.val:Int)+1/\z=zxb ((v.val:Int)+1):=by decide
  obtain ⟨v,h1,h2⟩:=this y h;exact ⟨(v.val:Int)+1,by omega,by omega,h1,h2⟩
 left;refine ⟨?_,h⟩;simp only[Qva,List.mem_cons,List.not_mem_nil,or_false,not_or]at h;obtain ⟨a1,a2,a3,a4,a5,a6,a7,a8⟩:=h;simp[qOb,Qva,List.zipIdx,a1,a2,a3,a4,a5,a6,a7,a8]
theorem Qxa(w:List Str)(hw:∀s∈w,s.length<=1048576):iter (kYa w (([104,101,108,108,111]:Str),([109,97,105,108]:Str),([114,99,112,116]:Str),([100,97,116,97]:Str),([99,104,117,110,107]:Str),([114,101,115,101,116]:Str),([110,111,111,112]:Str),([113,117,105,116]:Str))) (0,0)=some (qPb w):=by
 obtain ⟨t,h1,h2,h3⟩:=ZYa Qva (fun i (s:Int)=>(s,i)) (fun i s x=>match w with | []=>s | y::_=>if lowP y==x then ((i+1:Nat):Int) else s) id (fun _ _=>True) (body:=kYa w (([104,101,108,108,111]:Str),([109,97,105,108]:Str),([114,99,112,116]:Str),([100,97,116,97]:Str),([99,104,117,110,107]:Str),([114,101,115,101,116]:Str),([110,111,111,112]:Str),([113,117,105,116]:Str)))
  (fun s _=>by unfold kYa;rfl) (fun i x s hx _=>by
   have hi:=zIa hx;have h8:Qva.length=8:=rfl;refine ⟨?_,trivial⟩;unfold kYa;dsimp only;rw[decide_eq_true (by omega),show ([([104,101,108,108,111]:Str),([109,97,105,108]:Str),([114,99,112,116]:Str),([100,97,116,97]:Str),([99,104,117,110,107]:Str),([114,101,115,101,116]:Str),([110,111,111,112]:Str),([113,117,105,116]:Str)]:List Str)=Qva from rfl,zAa hx];simp only[cond_true,Option.bind_some,sc i (by omega)];cases w with
   | nil=>rfl
   | cons y r=>
    have e1:decide ((0:Int) < (((y::r).length:Nat):Int))=true:=by simp
    have e2:idx (y::r) 0=some y:=rfl;rw[e1,e2];simp only[cond_true,Option.bind_some,jia y (hw y (by simp))];cases lowP y==x <;> rfl) 0 trivial
 rw[h1,h3];cases w with
 | nil=>rfl
 | cons y r=>rfl
def noC:zka:=⟨0,[],[],0,0,false⟩
def finP(c:zka):zka × zta:=bif (cmdF c).Code !=0 then (noC,cmdF c) else (c,⟨0,0⟩)
def ZLa(s:Str):zka × zta:=
 if 4000 < s.length then (noC,⟨1, -1⟩) else if qPb (wTa s)=0 then (noC,⟨18, -2⟩) else match v4a (qPb (wTa s)) ((wTa s).drop 1) with
  | none=>(noC,⟨11, -3⟩)
  | some c=>finP c
theorem Jra{s x:Str}(h:x∈wTa s):x.length<=s.length:=wCb (List.mem_filter.1 h).1
theorem y5a{a y:Str}(h:angP a=some y):y.length<=a.length:=by
 unfold angP at h;split at h
 .split at h
  .cases h;simp;omega
  cases h
 cases h
theorem qQb{v:Int}{l:List Str}{c:zka}(hl:∀s∈l,s.length<=1048576)(h:v4a v l=some c):zwb c:=by
 unfold v4a at h;have z:([]:Str).length<=1048576:=by decide
 split at h
 .split at h
  .cases h;exact ⟨hl _ (by simp),z⟩
  cases h
 split at h
 .split at h
  .rename_i a;cases ha:angP a with
   | none=>rw[ha]at h;cases h
   | some q=>rw[ha]at h;cases h;exact ⟨z,Nat.le_trans (y5a ha) (hl _ (by simp))⟩
  .rename_i a o;cases ha:angP a with
   | none=>rw[ha]at h;cases h
   | some q=>
    rw[ha]at h;cases ho:optP o VYa with
    | none=>simp[ho]at h
    | some w=>
     cases hn:numP w with
     | none=>simp[ho,hn]at h
     | some m=>simp[ho,hn]at h;subst h;exact ⟨z,Nat.le_trans (y5a ha) (hl _ (by simp))⟩
  cases h
 split at h
 .split at h
  .rename_i a;cases ha:angP a with
   | none=>rw[ha]at h;cases h
   | some q=>rw[ha]at h;cases h;exact ⟨z,Nat.le_trans (y5a ha) (hl _ (by simp))⟩
  .rename_i a o;cases ha:angP a with
   | none=>rw[ha]at h;cases h
   | some q=>
    rw[ha]at h;cases ho:optP o notW with
    | none=>simp[ho]at h
    | some w=>
     cases hn:Qwa w with
     | none=>simp[ho,hn]at h
     | some m=>simp[ho,hn]at h;subst h;exact ⟨z,Nat.le_trans (y5a ha) (hl _ (by simp))⟩
  cases h
 split at h
 .split at h
  .rename_i n;cases hn:numP n with
   | none=>simp[hn]at h
   | some m=>simp[hn]at h;subst h;exact ⟨z,z⟩
  .rename_i n x;cases hn:numP n with
   | none=>simp[hn]at h
   | some m=>simp[hn]at h;obtain ⟨_,rfl⟩:=h;exact ⟨z,z⟩
  cases h
 split at h
 .cases h;exact ⟨z,z⟩
 cases h
theorem VZa(s:Str)(hs:s.length<=1048576):vVa s=some (ZLa s):=by
 unfold vVa ZLa;by_cases h4:4000 < s.length
 .rw[decide_eq_true (by omega),if_pos h4];rfl
 rw[decide_eq_false (by omega),if_neg h4];have hw:∀x∈wTa s,x.length<=1048576:=fun x hx=>by have:=Jra hx;omega
 have hf:kza s=some (wTa s):=by
  unfold kza;rw[if_pos (by omega),qMb]
 rw[hf,VWa];simp only[cond_false,Option.bind_some,kha,k1a,z9a];rw[Qxa _ hw];simp only[Option.bind_some];generalize wTa s=w at hw ⊢;cases w with
 | nil=>rfl
 | cons y r=>
  have e:qPb (y::r)=qOb (lowP y):=rfl;rw[e];rcases Yja (lowP y) with ⟨h0,_⟩ | ⟨v,h1,h8,hv,_⟩
  .rw[h0];rfl
  rw[hv];have e0:(v==0)=false:=by rw[beq_eq_false_iff_ne];omega
  rw[e0,if_neg (by omega)];have ec:cut (y::r) 1 (((y::r).length:Nat):Int)=some r:=by
   have:=yZa (l:=y::r) (a:=1) (by simp);exact this
  rw[ec];simp only[cond_false,Option.bind_some,List.drop_succ_cons,List.drop_zero];have hr:∀x∈r,x.length<=1048576:=fun x hx=>hw x (by simp[hx])
  obtain ⟨c,h2,h3⟩:=Yia v r hr (by omega);rw[h2];simp only[Option.bind_some];cases ha:v4a v r with
  | none=>rfl
  | some z=>
   have:=h3 z ha;subst this;have hsm:=qQb hr ha;simp only[Option.isSome_some,Bool.not_true,cond_false,K1a c hsm,Option.bind_some];unfold finP;cases hq:(cmdF c).Code !=0 with
   | true=>rfl
   | false=>rfl
theorem wEb(s:Str)(hs:s.length<=1048576):∀(r p word:Str) (out:List Str),s=p++r->word.length<=p.length->out.length<=p.length->iter (vea s) (word,(p.length:Int),out)=some (out++wrd word r):=by
 intro r;induction r with
 | nil=>
  intro p word out hp hw ho;rw[List.append_nil]at hp;subst hp;have hb:vea s (word,(s.length:Int),out)=some (.cont ([],((s.length+1:Nat):Int),out++nonE [word])):=by
   unfold vea;dsimp only;rw[decide_eq_true (by omega),zHa];simp only[cond_true,cond_false,Option.bind_some];rw[sc s.length (by omega)];by_cases he:word=[]
   .subst he;simp[nonE]
   have h1:(word !=([]:Str))=true:=by simpa using he
   have h2:nonE [word]=[word]:=by
    cases word with
    | nil=>exact absurd rfl he
    | cons b t=>rfl
   rw[h1,h2,zTa (by simp;omega)];rfl
  rw[zMa hb,jib];refine zBa ?_;unfold vea;dsimp only;rw[decide_eq_false (by omega)];rfl
 | cons b r ih=>
  intro p word out hp hw ho;have hlen:s.length=p.length+(r.length+1):=by rw[hp];simp
  have hget:idx s (p.length:Int)=some b:=by rw[hp];exact qzb p b r
  by_cases hb:b=32
  .subst hb;have wsa:vea s (word,(p.length:Int),out)=some (.cont ([],((p.length+1:Nat):Int),out++nonE [word])):=by
    unfold vea;dsimp only;rw[decide_eq_true (by omega),decide_eq_true (by omega:(p.length:Int) < (s.length:Int)),hget];have e32:(((32:UInt8).toNat:Int) !=32)=false:=rfl;simp only[cond_true,Option.bind_some,e32,cond_false];rw[sc p.length (by omega)];by_cases he:word=[]
    .subst he;simp[nonE]
    have h1:(word !=([]:Str))=true:=by simpa using he
    have h2:nonE [word]=[word]:=by
     cases word with
     | nil=>exact absurd rfl he
     | cons b t=>rfl
    rw[h1,h2,zTa (by simp;omega)];rfl
   rw[zMa wsa,wrd_sp,<-List.append_assoc];have h3:=ih (p++ [32]) [] (out++nonE [word]) (by rw[hp];simp) (by simp) (by
    have:(nonE [word]).length<=1:=by unfold nonE;exact List.length_filter_le _ _
    simp;omega)
   simp only[List.length_append,List.length_cons,List.length_nil]at h3;rw[show 0+1=1 from rfl]at h3;exact h3
  have wsa:vea s (word,(p.length:Int),out)=some (.cont (word++ [b],((p.length+1:Nat):Int),out)):=by
   unfold vea;dsimp only;have e32:((b.toNat:Int) !=32)=true:=by
    have:=Z7a b 32 (by decide);rw[show ((b.toNat:Int) !=32)=(b !=32) from this];simpa using hb
   rw[decide_eq_true (by omega),decide_eq_true (by omega:(p.length:Int) < (s.length:Int)),hget];simp only[cond_true,Option.bind_some,e32];rw[sc p.length (by omega),vqb (by omega) (by omega)];have e:(s.drop p.length).take (p.length+1 - p.length)=[b]:=by rw[hp,show p.length+1 - p.length=1 by omega];simp
   rw[e];simp only[Option.bind_some];rw[jDa (by simp;omega)];rfl
  rw[zMa wsa];have h3:=ih (p++ [b]) (word++ [b]) out (by rw[hp];simp) (by simp;omega) (by simp;omega);simp only[List.length_append,List.length_cons,List.length_nil]at h3;rw[show 0+1=1 from rfl]at h3;rw[h3];have:=Yea (k:=[b]) word r (by simpa using fun h=>hb h.symm);rw[<-this];rfl
theorem wFb(s:Str)(hs:s.length<=1048576):qxb s=some (wTa s):=by
 have:=wEb s hs s [] [] [] rfl (by simp) (by simp);unfold qxb;rw[show (([]:Str),(0:Int),([]:List Str))=(([]:Str),((([]:Str).length:Nat):Int),([]:List Str)) from rfl,this,jhb];rfl
theorem Jsa(o n:Str)(ho:o.length<=1048576)(hn:n.length<=100):Q2a o (n++ [61])=some (match optP o n with | some y=>(y,true) | none=>([],false)):=by
 have hll:(lowP o).length=o.length:=by unfold lowP;simp
 unfold Q2a;rw[Vda o ho];simp only[Option.bind_some];have hpre:((n++ [61]).isPrefixOf (lowP o))=decide ((lowP o).take (n++ [61]).length=n++ [61]):=by
  rw[Bool.eq_iff_iff,List.isPrefixOf_iff_prefix,List.prefix_iff_eq_take,decide_eq_true_eq];exact eq_comm
 unfold optP;rw[hpre];by_cases hlt:(lowP o).length < (n++ [61]).length
 .rw[decide_eq_true (by omega)];have:¬(lowP o).take (n++ [61]).length=n++ [61]:=by
   intro h;have:=congrArg List.length h;rw[List.length_take]at this;omega
  rw[decide_eq_false this];rfl
 rw[decide_eq_false (by omega)];simp only[cond_false];rw[Zea (by omega)];simp only[Option.bind_some];by_cases h:(lowP o).take (n++ [61]).length=n++ [61]
 .have e:((lowP o).take (n++ [61]).length !=n++ [61])=false:=by rw[h];simp
  rw[e,decide_eq_true h];simp only[cond_false];rw[yZa (by omega)];simp
 have e:((lowP o).take (n++ [61]).length !=n++ [61])=true:=by simpa using h
 rw[e,decide_eq_false h];rfl
theorem jqb(w:List Str)(hw:∀s∈w,s.length<=1048576):iter (qHa w) (1,0)=some (qPb w):=by
 cases w with
 | nil=>exact zBa (by unfold qHa;rfl)
 | cons y r=>
  obtain ⟨t,h1,h2,h3⟩:=ZYa Qva (fun i (s:Int)=>(i+1,s)) (fun i s x=>if lowP y==x then ((i+1:Nat):Int) else s) id (fun _ _=>True) (body:=qHa (y::r))
   (fun s _=>by unfold qHa;rfl) (fun i x s hx _=>by
    have hi:=zIa hx;have h8:Qva.length=8:=rfl;refine ⟨?_,trivial⟩;unfold qHa;dsimp only;have e1:decide ((0:Int) < (((y::r).length:Nat):Int))=true:=by simp
    have e2:idx (y::r) 0=some y:=rfl;have e3:zxb ((i:Int)+1)=x:=by
     unfold zxb;rw[show ((i:Int)+1 - 1).toNat=i by omega,List.getD_eq_getElem?_getD,hx];rfl
    rw[decide_eq_true (by omega),e1,e2,jpb (by omega),e3];simp only[cond_true,Option.bind_some,Vda y (hw y (by simp))];rw[qMa (by omega) (by omega)];cases lowP y==x with
    | true=>simp
    | false=>simp) 0 trivial
  rw[show ((1:Int),(0:Int))=((0:Int)+1,0) from rfl];rw[h1,h3];rfl
theorem ktb(s:Str)(b:Bool)(n0:Int):iter (qJa (s,b)) (false,0,n0)=some (match (if b then Qwa s else none) with | some n=>(true,n) | none=>(false,n0)):=by
 cases b with
 | false=>
  refine zBa ?_;unfold qJa;rfl
 | true=>
  obtain ⟨t,h1,h2,h3⟩:=ZYa ZKa (fun i (q:Bool × Int)=>(q.1,i,q.2)) (fun i q x=>if x==s then (true,(i:Int)) else q) id (fun _ _=>True) (body:=qJa (s,true))
   (fun q _=>by unfold qJa;rfl) (fun i x q hx _=>by
    have hi:=zIa hx;have h8:ZKa.length=8:=rfl;refine ⟨?_,trivial⟩;have hc:qNb (i:Int)=x:=by
     unfold qNb;rw[Int.toNat_natCast,List.getD_eq_getElem?_getD,hx];rfl
    unfold qJa;dsimp only;rw[decide_eq_true (by omega),Yga (by omega),hc];simp only[cond_true,Option.bind_some,sc i (by omega)];cases x==s <;> rfl) (false,n0) trivial
  rw[h1,h3,if_pos rfl];have key:ZKa.zipIdx.foldl (fun (q:Bool × Int) p=>if p.1==s then (true,((p.2:Nat):Int)) else q) (false,n0)=(match Qwa s with | some n=>(true,n) | none=>(false,n0)):=by
   by_cases h:s∈ZKa
   .have:∀z∈ZKa,∃k:Fin 8,Qwa z=some (k.val:Int)/\∀n:Int,ZKa.zipIdx.foldl (fun (q:Bool × Int) p=>if p.1==z then (true,((p.2:Nat):Int)) else q) (false,n)=(true,(k.val:Int)):=by
     intro z hz;simp only[ZKa,List.mem_cons,List.not_mem_nil,or_false]at hz;rcases hz with rfl | rfl | rfl | rfl | rfl | rfl | rfl | rfl
     .exact ⟨0,rfl,fun n=>rfl⟩
     .exact ⟨1,rfl,fun n=>rfl⟩
     .exact ⟨2,rfl,fun n=>rfl⟩
     .exact ⟨3,rfl,fun n=>rfl⟩
     .exact ⟨4,rfl,fun n=>rfl⟩
     .exact ⟨5,rfl,fun n=>rfl⟩
     .exact ⟨6,rfl,fun n=>rfl⟩
     exact ⟨7,rfl,fun n=>rfl⟩
    obtain ⟨k,h4,h5⟩:=this s h;rw[h4,h5 n0]
   have h6:Qwa s=none:=by
    unfold Qwa;rw[k4a];intro i x hx;have hne:(x==s)=false:=by
     rw[beq_eq_false_iff_ne];rintro rfl;exact h (List.mem_of_getElem? hx)
    simp[hne]
   rw[h6];simp only[ZKa,List.mem_cons,List.not_mem_nil,or_false,not_or]at h;obtain ⟨a1,a2,a3,a4,a5,a6,a7,a8⟩:=h;simp[ZKa,List.zipIdx,Ne.symm a1,Ne.symm a2,Ne.symm a3,Ne.symm a4,Ne.symm a5,Ne.symm a6,Ne.symm a7,Ne.symm a8]
  rw[key];rfl
theorem jrb(v:Int)(n a:Str)(z o:Int)(b:Bool)(h:zwb ⟨v,n,a,z,o,b⟩):qIa v (n,a,0) (z,o,b)=some (finP ⟨v,n,a,z,o,b⟩):=by
 unfold qIa finP;rw[Vea _ h];simp only[Option.bind_some];cases hc:(cmdF ⟨v,n,a,z,o,b⟩).Code !=0 with
 | true=>rfl
 | false=>
  have:=(jlb (c:=⟨v,n,a,z,o,b⟩) (by simpa using hc)).2;rw[this];rfl
theorem kub(v:Int)(n a:Str)(q z o:Int)(b:Bool):qIa v (n,a,q) (z,o,b)=qIa v (n,a,0) (z,o,b):=rfl
theorem Wha(a:Str):(((bif decide ((a.length:Int) < 2) then some true else (idx a 0).bind fun v84=>(bif ((v84.toNat:Int) !=60) then some true else (idx a ((w64 ((a.length:Int) - 1)))).bind fun v89=>some (((v89.toNat:Int) !=62)))):Option Bool))=some (!(angP a).isSome)∨4611686018427387904<=a.length:=by
 by_cases hbig:4611686018427387904<=a.length
 .exact .inr hbig
 left
 match a with
 | []=>rfl
 | [b]=>
  have:angP [b]=none:=by unfold angP;simp
  rw[this];rfl
 | b::c::r=>
  have e1:decide ((((b::c::r).length:Nat):Int) < 2)=false:=by simp;omega
  have e2:idx (b::c::r) 0=some b:=rfl;have e3:idx (b::c::r) (w64 ((((b::c::r).length:Nat):Int) - 1))=(c::r).getLast? :=by
   have hl:(b::c::r).length=r.length+2:=rfl;rw[qMa (by omega) (by omega),show (((b::c::r).length:Nat):Int) - 1=((r.length+1:Nat):Int) by omega,wqa];rw[List.getLast?_eq_getElem?];simp
  rw[e1,e2,e3];obtain ⟨w,e4⟩:∃w,(c::r).getLast? =some w:=⟨_,List.getLast?_eq_some_getLast (by simp)⟩;rw[e4];simp only[cond_false,Option.bind_some];have e5:=Z7a b 60 (by decide);have e6:=Z7a w 62 (by decide);rw[show ((b.toNat:Int) !=60)=(b !=60) from e5,show ((w.toNat:Int) !=62)=(w !=62) from e6];have hap:angP (b::c::r)=if b=60/\(c::r).getLast? =some 62 then some (c::r).dropLast else none:=rfl;rw[hap,e4];by_cases h1:b=60
  .subst h1;by_cases h2:w=62
   .simp[h2]
   have h3:(w !=62)=true:=by simpa using h2
   rw[h3];simp[h2]
  have h3:(b !=60)=true:=by simpa using h1
  rw[h3];simp[h1]
theorem Wia{a y:Str}(h:angP a=some y)(hl:a.length<=1048576):cut a 1 (w64 ((a.length:Int) - 1))=some y:=by
 unfold angP at h;split at h
 .rename_i b r;split at h
  .rename_i hb;cases h;have hr:r≠ []:=by
    intro e;subst e;simp at hb
   have hp:=List.length_pos_iff.2 hr;have hl2:(b::r).length=r.length+1:=rfl;rw[qMa (by omega) (by omega),show (((b::r).length:Nat):Int) - 1=((r.length:Nat):Int) by omega];have:=vqb (l:=b::r) (a:=1) (b:=r.length) (by omega) (by simp);rw[show ((1:Nat):Int)=1 from rfl]at this;rw[this];simp[List.dropLast_eq_take]
  cases h
 cases h
def badC:zka × zta:=(noC,⟨11, -3⟩)
theorem jsb(v:Int)(a b:Str)(n ad:Str)(z:Int)(hn:n.length<=1048576)(had:ad.length<=1048576)(hb:b.length<=1048576):
 kva v ⟨11, -3⟩ [a,b] (n,ad,z)=some (
  if v=2 then (match (optP b VYa).bind numP with | some m=>finP ⟨2,n,ad,(m:Int),0,false⟩ | none=>badC)
  else if v=3 then (match (optP b notW).bind Qwa with | some m=>finP ⟨3,n,ad,z,m,false⟩ | none=>badC)
  else if v=5 then (if lowP b=ksb then finP ⟨5,n,ad,z,0,true⟩ else badC) else badC):=by
 have e4:(((([a,b]:List Str).length:Nat):Int)==2)=true:=rfl;have e3:idx [a,b] 1=some b:=rfl;unfold kva;rw[e4,e3];simp only[Option.bind_some,cond_true];rcases five v with rfl | rfl | rfl | rfl | ⟨h1,h2,h3,h5⟩
 .rw[if_neg (by omega),if_neg (by omega),if_neg (by omega)];rfl
 .rw[if_pos rfl];have ha:=Jsa b VYa hb (by decide);have ha' :Q2a b ([115,105,122,101,61]:Str)=_:=ha;simp only[show ((2:Int)==3)=false from rfl,show ((2:Int)==2)=true from rfl,cond_true,cond_false,Option.bind_some];rw[ha'];simp only[Option.bind_some];cases ho:optP b VYa with
  | none=>
   simp only[Option.bind_none];rw[j7a [] (by decide)];rfl
  | some w=>
   have hwl:w.length<=1048576:=by
    unfold optP at ho;split at ho
    .cases ho;have:(lowP b).length=b.length:=by unfold lowP;simp
     simp;omega
    cases ho
   simp only[Option.bind_some];rw[j7a w hwl];cases hm:numP w with
   | none=>rfl
   | some m=>
    simp only[Option.bind_some,cond_true];rw[decide_eq_true (by omega)];simp only[Bool.not_true,cond_false];rw[kub,jrb _ _ _ _ _ _ ⟨hn,had⟩]
 .rw[if_neg (by omega),if_pos rfl];have ha:=Jsa b notW hb (by decide);have ha' :Q2a b ([110,111,116,105,102,121,61]:Str)=_:=ha;simp only[show ((3:Int)==3)=true from rfl,show ((3:Int)==2)=false from rfl,cond_true,cond_false,Option.bind_some];rw[ha'];simp only[Option.bind_some];cases ho:optP b notW with
  | none=>
   simp only[Option.bind_none];rw[ktb];rfl
  | some w=>
   simp only[Option.bind_some];rw[ktb,if_pos rfl];cases hm:Qwa w with
   | none=>rfl
   | some m=>
    simp only[Option.bind_some,Bool.not_true,cond_false];rw[kub,jrb _ _ _ _ _ _ ⟨hn,had⟩]
 .rw[if_neg (by omega),if_neg (by omega),if_pos rfl];simp only[show ((5:Int)==3)=false from rfl,show ((5:Int)==2)=false from rfl,show ((5:Int)==5)=true from rfl,cond_true,cond_false,Option.bind_some,Vda b hb];have hw:(lowP b==([108,97,115,116]:Str))=decide (lowP b=ksb):=by rw[Bool.eq_iff_iff,beq_iff_eq,decide_eq_true_eq];exact Iff.rfl
  rw[hw];by_cases hl:lowP b=ksb
  .rw[decide_eq_true hl,if_pos hl];simp only[Bool.not_true,cond_false];rw[kub,jrb _ _ _ _ _ _ ⟨hn,had⟩]
  rw[decide_eq_false hl,if_neg hl];rfl
 rw[if_neg (by simpa using h2),if_neg (by simpa using h3),if_neg (by simpa using h5),h2,h3,h5];rfl
theorem Qya(v:Int)(f:zta)(l:List Str)(n ad:Str)(z:Int)(hl:l.length<=1)(hn:n.length<=1048576)(had:ad.length<=1048576):
 kva v f l (n,ad,z)=some (finP ⟨v,n,ad,z,if v=3 then 1 else 0,false⟩):=by
 have e4:(((l.length:Nat):Int)==2)=false:=by rw[beq_eq_false_iff_ne];omega
 unfold kva;rw[e4];by_cases h3:v=3
 .subst h3;simp only[show ((3:Int)==3)=true from rfl,cond_true,cond_false,Option.bind_some,if_true];rw[kub,jrb _ _ _ _ _ _ ⟨hn,had⟩]
 have:(v==3)=false:=by simpa using h3
 simp only[this,cond_false,Option.bind_some,if_neg h3];rw[kub,jrb _ _ _ _ _ _ ⟨hn,had⟩]
theorem YQa(s:Str)(hs:s.length<=1048576):KOa s=some (ZLa s):=by
 unfold KOa ZLa;by_cases h4:4000 < s.length
 .rw[decide_eq_true (by omega),if_pos h4];rfl
 rw[decide_eq_false (by omega),if_neg h4];have hw:∀x∈wTa s,x.length<=1048576:=fun x hx=>by have:=Jra hx;omega
 rw[wFb s hs];simp only[cond_false,Option.bind_some,KTa];rw[jqb _ hw];simp only[Option.bind_some];have hwl:(wTa s).length<=1048577:=by
  have h1:=krb 32 s;have h2:(wTa s).length<=(vta 32 s).length:=List.length_filter_le _ _;omega
 generalize wTa s=w at hw hwl ⊢;cases w with
 | nil=>rfl
 | cons y r=>
  have e:qPb (y::r)=qOb (lowP y):=rfl;rw[e];rcases Yja (lowP y) with ⟨h0,_⟩ | ⟨v,h1,h8,hv,_⟩
  .rw[h0];rfl
  rw[hv];have e0:(v==0)=false:=by rw[beq_eq_false_iff_ne];omega
  rw[e0,if_neg (by omega)];have ec:cut (y::r) 1 (((y::r).length:Nat):Int)=some r:=by
   have:=yZa (l:=y::r) (a:=1) (by simp);exact this
  rw[ec];simp only[cond_false,Option.bind_some,List.drop_succ_cons,List.drop_zero];have hr:∀x∈r,x.length<=1048576:=fun x hx=>hw x (by simp[hx])
  have hrl:r.length<=1048576:=by simp at hwl;omega
  have z:([]:Str).length<=1048576:=by decide
  have low:∀(a b:Int),R_In (r.length:Int) a b=some (decide (a<=(r.length:Int)) && decide ((r.length:Int)<=b)):=fun a b=>vDa _ _ _
  have many3:∀(a b c:Str) (t:List Str) (v:Int),v4a v (a::b::c::t)=none:=by
   intro a b c t v;unfold v4a;repeat' split <;> first | rfl | (rename_i h;cases h) | skip
  have lastCase:∀(t:List Str) (v:Int),(v=4∨v=6∨v=7∨v=8)->v4a v t=(if t.isEmpty then some ⟨v,[],[],0,0,false⟩ else none):=by
   intro t v hv;unfold v4a;rw[if_neg (by omega),if_neg (by omega),if_neg (by omega),if_neg (by omega)];cases t <;> rfl
  have quiet:∀v:Int,(v=4∨v=6∨v=7∨v=8)->∀(X:Option (zka × zta)),(r=[]->X=kva v ⟨11, -3⟩ r ([],[],0))->
   (bif !(decide ((0:Int)<=(r.length:Int)) && decide ((r.length:Int)<=0)) then some (noC,(⟨11, -3⟩:zta)) else X)=some (match v4a v r with | none=>(noC,⟨11, -3⟩) | some c=>finP c):=by
   intro v hv X hX;rw[lastCase r v hv];cases r with
   | nil=>
    rw[hX rfl,Qya v _ [] [] [] 0 (by simp) z z,if_neg (by omega)];rfl
   | cons a t=>
    have e1:(decide ((0:Int)<=(((a::t).length:Nat):Int)) && decide ((((a::t).length:Nat):Int)<=0))=false:=by simp
    rw[e1];rfl
  have bad:(⟨11, -3⟩:zta)=⟨11, -3⟩:=rfl;have hv8:v=1∨v=2∨v=3∨v=4∨v=5∨v=6∨v=7∨v=8:=by omega
  rcases hv8 with rfl | rfl | rfl | rfl | rfl | rfl | rfl | rfl
  .rw[show idx ([1,1,1,0,1,0,0,0]:List Int) (w64 (1 - 1))=some 1 from by decide,show idx ([1,2,2,0,2,0,0,0]:List Int) (w64 (1 - 1))=some 1 from by decide];simp only[Option.bind_some,low]
   match r,hr with
   | [],_=>rfl
   | [n],hr=>
    have e2:idx [n] 0=some n:=rfl;have e5:(decide ((1:Int)<=(((([n]:List Str).length:Nat):Int))) && decide ((((([n]:List Str).length:Nat):Int))<=1))=true:=rfl;rw[e5,e2];simp only[Bool.not_true,cond_false,show ((1:Int)==1)=true from rfl,cond_true,Option.bind_some];rw[Qya 1 _ [n] n [] 0 (by simp) (hr n (by simp)) z];rfl
   | a::b::t,_=>
    have e1:(decide ((1:Int)<=(((a::b::t).length:Nat):Int)) && decide ((((a::b::t).length:Nat):Int)<=1))=false:=by simp;omega
    rw[e1];rfl
  .rw[show idx ([1,1,1,0,1,0,0,0]:List Int) (w64 (2 - 1))=some 1 from by decide,show idx ([1,2,2,0,2,0,0,0]:List Int) (w64 (2 - 1))=some 2 from by decide];simp only[Option.bind_some,low]
   match r,hr with
   | [],_=>rfl
   | [a],hr=>
    have e2:idx [a] 0=some a:=rfl;have e5:(decide ((1:Int)<=(((([a]:List Str).length:Nat):Int))) && decide ((((([a]:List Str).length:Nat):Int))<=2))=true:=rfl;have hal:=hr a (by simp);rw[e5,e2,ap2];simp only[Bool.not_true,cond_false,show ((2:Int)==1)=false from rfl,show ((2:Int)==2)=true from rfl,cond_true,Option.bind_some];rcases Wha a with ha | ha
    .rw[ha];cases hp:angP a with
     | none=>rfl
     | some q=>
      simp only[Option.isSome_some,Bool.not_true,cond_false,Option.bind_some,Wia hp hal];rw[Qya 2 _ [a] [] q 0 (by simp) z (Nat.le_trans (y5a hp) hal)];rfl
    omega
   | [a,o],hr=>
    have e2:idx [a,o] 0=some a:=rfl;have e5:(decide ((1:Int)<=(((([a,o]:List Str).length:Nat):Int))) && decide ((((([a,o]:List Str).length:Nat):Int))<=2))=true:=rfl;have hal:=hr a (by simp);rw[e5,e2,ap22];simp only[Bool.not_true,cond_false,show ((2:Int)==1)=false from rfl,show ((2:Int)==2)=true from rfl,cond_true,Option.bind_some];rcases Wha a with ha | ha
    .rw[ha];cases hp:angP a with
     | none=>rfl
     | some q=>
      simp only[Option.isSome_some,Bool.not_true,cond_false,Option.bind_some,Wia hp hal];rw[jsb 2 a o [] q 0 z (Nat.le_trans (y5a hp) hal) (hr o (by simp)),if_pos rfl];cases optP o VYa with
      | none=>rfl
      | some w=>
       simp only[Option.bind_some];cases numP w <;> rfl
    omega
   | a::b::c::t,_=>
    have e1:(decide ((1:Int)<=(((a::b::c::t).length:Nat):Int)) && decide ((((a::b::c::t).length:Nat):Int)<=2))=false:=by simp;omega
    rw[e1,many3];rfl
  .rw[show idx ([1,1,1,0,1,0,0,0]:List Int) (w64 (3 - 1))=some 1 from by decide,show idx ([1,2,2,0,2,0,0,0]:List Int) (w64 (3 - 1))=some 2 from by decide];simp only[Option.bind_some,low]
   match r,hr with
   | [],_=>rfl
   | [a],hr=>
    have e2:idx [a] 0=some a:=rfl;have e5:(decide ((1:Int)<=(((([a]:List Str).length:Nat):Int))) && decide ((((([a]:List Str).length:Nat):Int))<=2))=true:=rfl;have hal:=hr a (by simp);rw[e5,e2,ap3];simp only[Bool.not_true,cond_false,show ((3:Int)==1)=false from rfl,show ((3:Int)==2)=false from rfl,show ((3:Int)==3)=true from rfl,cond_true,Option.bind_some];rcases Wha a with ha | ha
    .rw[ha];cases hp:angP a with
     | none=>rfl
     | some q=>
      simp only[Option.isSome_some,Bool.not_true,cond_false,Option.bind_some,Wia hp hal];rw[Qya 3 _ [a] [] q 0 (by simp) z (Nat.le_trans (y5a hp) hal)];rfl
    omega
   | [a,o],hr=>
    have e2:idx [a,o] 0=some a:=rfl;have e5:(decide ((1:Int)<=(((([a,o]:List Str).length:Nat):Int))) && decide ((((([a,o]:List Str).length:Nat):Int))<=2))=true:=rfl;have hal:=hr a (by simp);rw[e5,e2,ap33];simp only[Bool.not_true,cond_false,show ((3:Int)==1)=false from rfl,show ((3:Int)==2)=false from rfl,show ((3:Int)==3)=true from rfl,cond_true,Option.bind_some];rcases Wha a with ha | ha
    .rw[ha];cases hp:angP a with
     | none=>rfl
     | some q=>
      simp only[Option.isSome_some,Bool.not_true,cond_false,Option.bind_some,Wia hp hal];rw[jsb 3 a o [] q 0 z (Nat.le_trans (y5a hp) hal) (hr o (by simp)),if_neg (by omega),if_pos rfl];cases optP o notW with
      | none=>rfl
      | some w=>
       simp only[Option.bind_some];cases Qwa w <;> rfl
    omega
   | a::b::c::t,_=>
    have e1:(decide ((1:Int)<=(((a::b::c::t).length:Nat):Int)) && decide ((((a::b::c::t).length:Nat):Int)<=2))=false:=by simp;omega
    rw[e1,many3];rfl
  .rw[show idx ([1,1,1,0,1,0,0,0]:List Int) (w64 (4 - 1))=some 0 from by decide,show idx ([1,2,2,0,2,0,0,0]:List Int) (w64 (4 - 1))=some 0 from by decide];simp only[Option.bind_some,low];exact quiet 4 (by omega) _ (fun _=>rfl)
  .rw[show idx ([1,1,1,0,1,0,0,0]:List Int) (w64 (5 - 1))=some 1 from by decide,show idx ([1,2,2,0,2,0,0,0]:List Int) (w64 (5 - 1))=some 2 from by decide];simp only[Option.bind_some,low]
   match r,hr with
   | [],_=>rfl
   | [a],hr=>
    have e2:idx [a] 0=some a:=rfl;have e5:(decide ((1:Int)<=(((([a]:List Str).length:Nat):Int))) && decide ((((([a]:List Str).length:Nat):Int))<=2))=true:=rfl;have hal:=hr a (by simp);rw[e5,e2,ap5];simp only[Bool.not_true,cond_false,show ((5:Int)==1)=false from rfl,show ((5:Int)==2)=false from rfl,show ((5:Int)==3)=false from rfl,show ((5:Int)==5)=true from rfl,cond_true,Option.bind_some,j7a a hal];cases hn:numP a with
    | none=>rfl
    | some m=>
     have hm0:¬((m:Nat):Int) < 0:=by omega
     dsimp only;rw[decide_eq_false hm0];simp only[cond_false];rw[Qya 5 _ [a] [] [] _ (by simp) z z];rfl
   | [a,o],hr=>
    have e2:idx [a,o] 0=some a:=rfl;have e5:(decide ((1:Int)<=(((([a,o]:List Str).length:Nat):Int))) && decide ((((([a,o]:List Str).length:Nat):Int))<=2))=true:=rfl;have hal:=hr a (by simp);rw[e5,e2,ap55];simp only[Bool.not_true,cond_false,show ((5:Int)==1)=false from rfl,show ((5:Int)==2)=false from rfl,show ((5:Int)==3)=false from rfl,show ((5:Int)==5)=true from rfl,cond_true,Option.bind_some,j7a a hal];cases hn:numP a with
    | none=>rfl
    | some m=>
     have hm0:¬((m:Nat):Int) < 0:=by omega
     dsimp only;rw[decide_eq_false hm0];simp only[cond_false];rw[jsb 5 a o [] [] _ z z (hr o (by simp)),if_neg (by omega),if_neg (by omega),if_pos rfl];simp only[Option.bind_some];by_cases hx:lowP o=ksb
     .rw[if_pos hx,if_pos hx]
     rw[if_neg hx,if_neg hx];rfl
   | a::b::c::t,_=>
    have e1:(decide ((1:Int)<=(((a::b::c::t).length:Nat):Int)) && decide ((((a::b::c::t).length:Nat):Int)<=2))=false:=by simp;omega
    rw[e1,many3];rfl
  .rw[show idx ([1,1,1,0,1,0,0,0]:List Int) (w64 (6 - 1))=some 0 from by decide,show idx ([1,2,2,0,2,0,0,0]:List Int) (w64 (6 - 1))=some 0 from by decide];simp only[Option.bind_some,low];exact quiet 6 (by omega) _ (fun _=>rfl)
  .rw[show idx ([1,1,1,0,1,0,0,0]:List Int) (w64 (7 - 1))=some 0 from by decide,show idx ([1,2,2,0,2,0,0,0]:List Int) (w64 (7 - 1))=some 0 from by decide];simp only[Option.bind_some,low];exact quiet 7 (by omega) _ (fun _=>rfl)
  rw[show idx ([1,1,1,0,1,0,0,0]:List Int) (w64 (8 - 1))=some 0 from by decide,show idx ([1,2,2,0,2,0,0,0]:List Int) (w64 (8 - 1))=some 0 from by decide];simp only[Option.bind_some,low];exact quiet 8 (by omega) _ (fun _=>rfl)
abbrev Ses:=zea
def cv(x:Ses):zda:=⟨x.Server,x.replies,x.mails⟩
def sayS(x:Ses)(code:Int)(l:List Str):Ses:=⟨x.Server,x.replies++ [⟨code,l⟩],x.mails⟩
def abS(x:Ses):Ses:=⟨{x.Server with Mailing:=false,From:=[],To:=[],Data:=[],Lost:=0,Chunked:=false},x.replies,x.mails⟩
def kwa(x:Ses)(c:UInt8):Ses:=if (x.Server.Data.length:Int) < x.Server.Size then ⟨{x.Server with Data:=x.Server.Data++ [c]},x.replies,x.mails⟩ else ⟨{x.Server with Lost:=min (x.Server.Lost+1) 1099511627776},x.replies,x.mails⟩
def idS(s:zha):Str:=s.Name++ [45]++Lib.decDigits (s.Count+1).toNat
def kvb:Str:=[108,97,114,103,101]
def zyb:Str:=[114,101,102,117,115,101,100]
def VIa:Str:=[111,114,100,101,114]
def okW:Str:=[111,107]
def ZMa(x:Ses):Ses:=abS (if 0 < x.Server.Lost then sayS x 552 [kvb] else if (jka x.Server.Data).2=false∨x.Server.Count=1000000 then sayS x 554 [zyb]
 else sayS ⟨{x.Server with Count:=x.Server.Count+1},x.replies,x.mails++ [⟨⟨x.Server.From,x.Server.To,idS x.Server⟩,(jka x.Server.Data).1⟩]⟩ 250 [idS x.Server])
def wUa(x:Ses):Ses:=bif x.Server.Ignore then sayS ⟨{x.Server with Phase:=0,Last:=false,Ignore:=false},x.replies,x.mails⟩ 503 [VIa]
 else bif x.Server.Last then ZMa ⟨{x.Server with Phase:=0,Last:=false,Ignore:=false},x.replies,x.mails⟩ else sayS ⟨{x.Server with Phase:=0,Last:=false,Ignore:=false},x.replies,x.mails⟩ 250 [okW]
def addR(x:Ses)(c:zka):List zca:=vJa (x.Server.To++ [⟨c.Address,c.Notify⟩])
def V0a(x:Ses)(c:zka):Ses:=bif (!x.Server.Mailing || x.Server.Chunked) then sayS x 503 [VIa] else if x.Server.Many < ((addR x c).length:Int) then sayS x 452 [[109,97,110,121]] else sayS ⟨{x.Server with To:=addR x c},x.replies,x.mails⟩ 250 [okW]
def sizeW' :Str:=[115,105,122,101,32]
def Yka:Str:=[114,101,99,105,112,105,101,110,116,115,32]
def K2a(x:Ses)(c:zka):Ses:=
 if c.Verb=1 then sayS ⟨{(abS x).Server with Greeted:=true},x.replies,x.mails⟩ 250 [x.Server.Name,sizeW' ++Lib.decDigits x.Server.Size.toNat,Yka++Lib.decDigits x.Server.Many.toNat]
 else if c.Verb=2 then (bif (!x.Server.Greeted || x.Server.Mailing) then sayS x 503 [VIa] else if x.Server.Size < c.Size then sayS x 552 [kvb] else sayS ⟨{x.Server with Mailing:=true,From:=c.Address},x.replies,x.mails⟩ 250 [okW])
 else if c.Verb=3 then V0a x c
 else if c.Verb=4 then (bif (x.Server.To.isEmpty || x.Server.Chunked) then sayS x 503 [VIa] else sayS ⟨{x.Server with Phase:=1},x.replies,x.mails⟩ 354 [[103,111,32,111,110]])
 else if c.Verb=5 then (if c.Size=0 then wUa ⟨{x.Server with Phase:=2,Left:=c.Size,Last:=c.Last,Ignore:=x.Server.To.isEmpty,Chunked:= !x.Server.To.isEmpty},x.replies,x.mails⟩ else ⟨{x.Server with Phase:=2,Left:=c.Size,Last:=c.Last,Ignore:=x.Server.To.isEmpty,Chunked:= !x.Server.To.isEmpty},x.replies,x.mails⟩)
 else if c.Verb=6 then sayS (abS x) 250 [okW]
 else if c.Verb=8 then (sayS ⟨{(abS x).Server with Phase:=3,Buffer:=[]},x.replies,x.mails⟩ 221 [[98,121,101]])
 else sayS x 250 [okW]
def Qza:Str:=[117,110,107,110,111,119,110]
def jtb:Str:=[115,121,110,116,97,120]
def bufS(x:Ses)(b:List UInt8):Ses:=⟨{x.Server with Buffer:=b},x.replies,x.mails⟩
def Yla(x:Ses)(c:UInt8):Ses:=
 if [13,10].isSuffixOf (x.Server.Buffer++ [c]) then
  let r:=ZLa ((x.Server.Buffer++ [c]).take ((x.Server.Buffer++ [c]).length - 2))
  if r.2.Code=18 then sayS (bufS x []) 500 [Qza] else if r.2.Code=0 then K2a (bufS x []) r.1 else sayS (bufS x []) 501 [jtb]
 else if (x.Server.Buffer++ [c]).length=4002 then sayS ⟨{(abS x).Server with Phase:=3,Buffer:=[]},x.replies,x.mails⟩ 500 [Qza]
 else bufS x (x.Server.Buffer++ [c])
def YRa(x:Ses)(d:Int):Ses:=⟨{x.Server with Dots:=d},x.replies,x.mails⟩
def Yma(x:Ses)(c:UInt8):Ses:=
 if x.Server.Dots=0/\c=46 then YRa x 1
 else if x.Server.Dots=1/\c=13 then YRa x 2
 else if x.Server.Dots=2/\c=10 then ZMa ⟨{x.Server with Phase:=0,Dots:=0},x.replies,x.mails⟩
 else YRa (kwa (if x.Server.Dots=2 then kwa x 13 else x) c) (if c=13 then 4 else if c=10/\x.Server.Dots=4 then 0 else 3)
def yMa(x:Ses)(c:UInt8):Ses:=
 if x.Server.Phase=0 then Yla x c else if x.Server.Phase=1 then Yma x c
 else if x.Server.Phase=2 then
  let y:=bif x.Server.Ignore then x else kwa x c;let z:Ses:=⟨{y.Server with Left:=y.Server.Left - 1},y.replies,y.mails⟩
  if z.Server.Left=0 then wUa z else z
 else x
structure SI (x:Ses) (n:Nat):Prop where
 size:1<=x.Server.Size/\x.Server.Size<=12000
 many:1<=x.Server.Many/\x.Server.Many<=60
 name:x.Server.Name.length<=40
 data:(x.Server.Data.length:Int)<=x.Server.Size
 buf:x.Server.Buffer.length<=4001
 tos:x.Server.To.length<=60/\∀r∈x.Server.To,qja r.Address=true/\kWa r.Notify=true
 lost:0<=x.Server.Lost/\x.Server.Lost<=1099511627776
 count:0<=x.Server.Count/\x.Server.Count<=1000000
 left:x.Server.Phase=2->1<=x.Server.Left/\x.Server.Left<=1000000
 chunk:x.Server.To=[]->x.Server.Chunked=false
 dots:x.Server.Phase≠1->x.Server.Dots=0
 reps:x.replies.length<=n
 mails:x.mails.length<=n
theorem ZNa(x:Ses)(code:Int)(l:List Str)(h:x.replies.length<=1000000000):zoa x code l=some (sayS x code l):=by
 unfold zoa;rw[zTa (by simp;omega)];rfl
theorem yEa(x:Ses)(code:Int)(l:Str)(h:x.replies.length<=1000000000):vIa (cv x) code l=some (cv (sayS x code [l])):=by
 unfold vIa;rw[zTa (by show x.replies.length+_<=_;simp;omega)];rfl
theorem ab_eq(x:Ses):zRa x=some (abS x):=rfl
theorem zzb(x:Ses):vfa (cv x)=some (cv (abS x)):=rfl
theorem jub(x:Ses)(c:UInt8){n:Nat}(h:SI x n):z2a x c=some (kwa x c):=by
 have h1:=h.size;have h2:=h.data;have h3:=h.lost;unfold z2a kwa;by_cases hd:(x.Server.Data.length:Int) < x.Server.Size
 .rw[if_pos hd,decide_eq_true hd];simp only[cond_true];rw[zTa (by simp;omega)];rfl
 rw[if_neg hd,decide_eq_false hd];simp only[cond_false];rw[qMa (by omega) (by omega)]
theorem qRb(x:Ses)(c:UInt8){n:Nat}(h:SI x n):KRa (cv x) c=some (cv (kwa x c)):=by
 have h1:=h.size;have h2:=h.data;have h3:=h.lost;unfold KRa kwa cv;dsimp only;by_cases hd:(x.Server.Data.length:Int) < x.Server.Size
 .rw[if_pos hd,decide_eq_true hd];simp only[cond_true];rw[zTa (by simp;omega)];rfl
 rw[if_neg hd,decide_eq_false hd];simp only[cond_false];by_cases hl:x.Server.Lost < 1099511627776
 .rw[decide_eq_true hl,qMa (by omega) (by omega),show min (x.Server.Lost+1) 1099511627776=x.Server.Lost+1 by omega];rfl
 rw[decide_eq_false hl,show min (x.Server.Lost+1) 1099511627776=x.Server.Lost by omega];rfl
theorem j8a{x:Ses}{n:Nat}(h:SI x n)(c:UInt8):SI (kwa x c) n:=by
 obtain ⟨a1,a2,a3,a4,a5,a6,a7,a8,a9,a10,a11,a12,a13⟩:=h;unfold kwa;split
 .exact ⟨a1,a2,a3,by simp;omega,a5,a6,a7,a8,a9,a10,a11,a12,a13⟩
 exact ⟨a1,a2,a3,a4,a5,a6,⟨by show 0<=min _ _;omega,by show min _ _<=_;omega⟩,a8,a9,a10,a11,a12,a13⟩
theorem Jta{α:Type}{lim:Nat}(l:List α)(h:l.length<=lim):(nilE l.isEmpty (some ([]:List α)) ((app lim ([]:List α) l).bind fun v=>some v))=some l:=by
 rw[yib]
 .rw[zTa (by simpa using h)];rfl
 intro he;have:=List.isEmpty_iff.1 he;subst this;rw[zTa (by simp)];rfl
theorem Yna(l:List zca)(h:l.length<=1048576):zra l=some l:=Jta l (by omega)
theorem Yoa(l:List UInt8)(h:l.length<=1048576):koa l=some l:=Jta l (by omega)
theorem VJa{c:Int}(h:0<=c/\c<=1000000):z1a (w64 (c+1))=some (Lib.decDigits (c+1).toNat)/\jYa (w64 (c+1))=some (Lib.decDigits (c+1).toNat):=by
 have e:w64 (c+1)=(((c+1).toNat:Nat):Int):=by rw[qMa (by omega) (by omega)];omega
 rw[e,ZHa _ (by omega),W5a _ (by omega)];simp
theorem Z2a{n:Nat}(h:n<=1000001):(Lib.decDigits n).length<=7:=Qta 6 n (by omega)
theorem jvb(x:Ses){n:Nat}(h:SI x n)(hn:n<=1000000):zWa x=some (ZMa x):=by
 obtain ⟨f,hf,hc⟩:=W4a x.Server.Data (by have:=h.size;have:=h.data;omega);have h1:=h.reps;have h2:=h.mails;have h3:=h.name;have h4:=h.tos.1;have h5:=h.count;unfold zWa ZMa;rw[hf];simp only[Option.bind_some];by_cases hl:0 < x.Server.Lost
 .rw[if_pos hl,decide_eq_true hl];simp only[cond_true];rw[ZNa _ _ _ (by omega)];rfl
 rw[if_neg hl,decide_eq_false hl];simp only[cond_false,z9a,Option.bind_some];rw[hc];have e:(bif (!(jka x.Server.Data).2) then some true else some (x.Server.Count==1000000))=some (decide ((jka x.Server.Data).2=false∨x.Server.Count=1000000)):=by
  cases (jka x.Server.Data).2 with
  | false=>simp
  | true=>
   simp only[Bool.not_true,cond_false,Option.some.injEq];rw[Bool.eq_iff_iff];simp
 rw[e];simp only[Option.bind_some];by_cases hr:(jka x.Server.Data).2=false∨x.Server.Count=1000000
 .rw[if_pos hr,decide_eq_true hr];simp only[cond_true];rw[ZNa _ _ _ (by omega)];rfl
 rw[if_neg hr,decide_eq_false hr];simp only[cond_false];rw[jDa (by simp;omega)];simp only[Option.bind_some];rw[(VJa h5).1];simp only[Option.bind_some];have:=Z2a (n:=(x.Server.Count+1).toNat) (by omega);rw[jDa (by simp;omega)];simp only[Option.bind_some];rw[Yna _ (by omega)];simp only[Option.bind_some];rw[zTa (by simp;omega)];simp only[Option.bind_some];rw[qMa (by omega) (by omega),ZNa _ _ _ (by show x.replies.length<=_;omega)];rfl
theorem Jua(x:Ses){n:Nat}(h:SI x n)(hn:n<=1000000):j1a (cv x)=some (cv (ZMa x)):=by
 have hf:=YOa x.Server.Data (by have:=h.size;have:=h.data;omega);have h1:=h.reps;have h2:=h.mails;have h3:=h.name;have h4:=h.tos.1;have h5:=h.count;unfold j1a ZMa;rw[show (cv x).S=x.Server from rfl,show (cv x).Mails=x.mails from rfl,show (cv x).Replies=x.replies from rfl,hf];simp only[Option.bind_some];by_cases hl:0 < x.Server.Lost
 .rw[if_pos hl,decide_eq_true hl];simp only[cond_true];rw[show ([108,97,114,103,101]:Str)=kvb from rfl,yEa _ _ _ (by omega)];rfl
 rw[if_neg hl,decide_eq_false hl];simp only[cond_false];have e:(bif (!(jka x.Server.Data).2) then some true else some (x.Server.Count==1000000))=some (decide ((jka x.Server.Data).2=false∨x.Server.Count=1000000)):=by
  cases (jka x.Server.Data).2 with
  | false=>simp
  | true=>
   simp only[Bool.not_true,cond_false,Option.some.injEq];rw[Bool.eq_iff_iff];simp
 rw[e];simp only[Option.bind_some];by_cases hr:(jka x.Server.Data).2=false∨x.Server.Count=1000000
 .rw[if_pos hr,decide_eq_true hr];simp only[cond_true];rw[show ([114,101,102,117,115,101,100]:Str)=zyb from rfl,yEa _ _ _ (by omega)];rfl
 rw[if_neg hr,decide_eq_false hr];simp only[cond_false];rw[jDa (by simp;omega)];simp only[Option.bind_some];rw[(VJa h5).2];simp only[Option.bind_some];have:=Z2a (n:=(x.Server.Count+1).toNat) (by omega);rw[jDa (by simp;omega)];simp only[Option.bind_some];rw[zTa (by simp;omega)];simp only[Option.bind_some];rw[qMa (by omega) (by omega)];exact (congrArg (fun o=>o.bind fun v23=>(vfa v23).bind fun v25=>some v25) (yEa ⟨{x.Server with Count:=x.Server.Count+1},x.replies,x.mails++ [⟨⟨x.Server.From,x.Server.To,idS x.Server⟩,(jka x.Server.Data).1⟩]⟩ 250 (idS x.Server) (by show x.replies.length<=_;omega))).trans rfl
theorem vGb:∀(l:List zca) (n:Int),kWa n=true->(∀r∈l,kWa r.Notify=true)->kWa (orL n l)=true
 | [],n,h,_=>h
 | r::l,n,h,hl=>vGb l (iOr n r.Notify) (y5b h (hl r (by simp))).2 fun x hx=>hl x (by simp[hx])
theorem VKa:∀(n:Nat) (l:List zca),(∀r∈l,qja r.Address=true/\kWa r.Notify=true)->(waa n l).length<=l.length/\∀r∈waa n l,qja r.Address=true/\kWa r.Notify=true
 | 0,l,_=>by simp[waa]
 | n+1,[],_=>by simp[waa]
 | n+1,r::t,h=>by
  obtain ⟨h1,h2⟩:=VKa n (t.filter fun x=> !z3a r.Address x) fun x hx=>h x (by simp[(List.mem_filter.1 hx).1])
  have h3:=List.length_filter_le (fun x=> !z3a r.Address x) t;unfold waa;refine ⟨by simp only[List.length_cons];omega,fun x hx=>?_⟩;rcases List.mem_cons.1 hx with rfl | hx
  .exact ⟨(h r (by simp)).1,vGb _ _ (h r (by simp)).2 fun y hy=>(h y (by simp[(List.mem_filter.1 hy).1])).2⟩
  exact h2 x hx
theorem VLa{l:List zca}(h:∀r∈l,qja r.Address=true/\kWa r.Notify=true):(vJa l).length<=l.length/\∀r∈vJa l,qja r.Address=true/\kWa r.Notify=true:=VKa l.length l h
theorem jwb{l:List zca}(h:l≠ []):vJa l≠ []:=by
 cases l with
 | nil=>exact absurd rfl h
 | cons r t=>rw[KXa];simp
theorem jxb{l:List zca}(h:∀r∈l,qja r.Address=true/\kWa r.Notify=true)(hl:l.length<=300):vxb l=(vJa l,⟨0,0⟩):=by
 unfold vxb;rw[if_neg (by omega)];have:zza mq 0 l=none:=k4a.2 fun i x hx=>by
  obtain ⟨h1,h2⟩:=h x (List.mem_of_getElem? hx);unfold mq;rw[h1,h2];rfl
 rw[this]
theorem Jva{l:List zca}(h:∀r∈l,qja r.Address=true/\kWa r.Notify=true)(hl:l.length<=1048576):kab l:=⟨hl,fun r hr=>by have:=vFb (h r hr).1;omega⟩
theorem zAb{s:Str}(h:(ZLa s).2.Code=0):YPa (ZLa s).1:=by
 unfold ZLa at h ⊢;split at h
 .exact absurd h (by decide)
 rename_i h1;rw[if_neg h1];split at h
 .exact absurd h (by decide)
 rename_i h2;rw[if_neg h2];cases hc:v4a (qPb (wTa s)) ((wTa s).drop 1) with
 | none=>rw[hc]at h;exact absurd h (by decide)
 | some c=>
  rw[hc]at h;have h:(finP c).2.Code=0:=h;show YPa (finP c).1;unfold finP at h ⊢;by_cases hz:(cmdF c).Code=0
  .rw[hz];exact (jlb hz).1
  rw[bne_iff_ne.2 hz]at h;exact absurd h hz
theorem qxa{x:Ses}{n:Nat}(h:SI x n)(code:Int)(l:List Str):SI (sayS x code l) (n+1):=by
 obtain ⟨a1,a2,a3,a4,a5,a6,a7,a8,a9,a10,a11,a12,a13⟩:=h;exact ⟨a1,a2,a3,a4,a5,a6,a7,a8,a9,a10,a11,by show (x.replies++_).length<=_;simp;omega,by show x.mails.length<=_;omega⟩
theorem kwb{x:Ses}{n:Nat}(h:SI x n):SI (abS x) n:=by
 obtain ⟨a1,a2,a3,a4,a5,a6,a7,a8,a9,a10,a11,a12,a13⟩:=h;exact ⟨a1,a2,a3,by show ((0:Nat):Int)<=x.Server.Size;omega,a5,⟨by simp[abS],fun r hr=>by simp[abS]at hr⟩,⟨by show (0:Int)<=0;omega,by show (0:Int)<=_;omega⟩,a8,a9,fun _=>rfl,a11,a12,a13⟩
theorem SI.up{x:Ses}{n:Nat}(h:SI x n):SI x (n+1):=by
 obtain ⟨a1,a2,a3,a4,a5,a6,a7,a8,a9,a10,a11,a12,a13⟩:=h;exact ⟨a1,a2,a3,a4,a5,a6,a7,a8,a9,a10,a11,by omega,by omega⟩
theorem vHb{x:Ses}{n:Nat}(h:SI x n):SI (ZMa x) (n+1):=by
 unfold ZMa;refine kwb ?_;split
 .exact qxa h _ _
 split
 .exact qxa h _ _
 rename_i hr;obtain ⟨a1,a2,a3,a4,a5,a6,a7,a8,a9,a10,a11,a12,a13⟩:=h;have hc:x.Server.Count≠1000000:=fun e=>hr (.inr e)
 exact ⟨a1,a2,a3,a4,a5,a6,a7,⟨by show 0<=x.Server.Count+1;omega,by show x.Server.Count+1<=_;omega⟩,a9,a10,a11,by show (x.replies++_).length<=_;simp;omega,by show (x.mails++_).length<=_;simp;omega⟩
theorem kxb{x:Ses}{n:Nat}(h:SI x n)(hd:x.Server.Dots=0):SI ⟨{x.Server with Phase:=0,Last:=false,Ignore:=false},x.replies,x.mails⟩ n:=by
 obtain ⟨a1,a2,a3,a4,a5,a6,a7,a8,a9,a10,a11,a12,a13⟩:=h;exact ⟨a1,a2,a3,a4,a5,a6,a7,a8,fun e=>absurd (show (0:Int)=2 from e) (by decide),a10,fun _=>hd,a12,a13⟩
theorem vIb(x:Ses){n:Nat}(h:SI {x with Server:={x.Server with Phase:=0}} n)(hn:n<=1000000):z4a x=some (wUa x)/\j2a (cv x)=some (cv (wUa x)):=by
 have hd:x.Server.Dots=0:=h.dots (by show (0:Int)≠1;decide);have h' :=kxb h hd;have hr:=h.reps;have hr:x.replies.length<=n:=hr;unfold z4a j2a wUa;rw[show (cv x).S=x.Server from rfl,show (cv x).Mails=x.mails from rfl,show (cv x).Replies=x.replies from rfl];cases x.Server.Ignore with
 | true=>
  simp only[cond_true];rw[ZNa _ _ _ (by show x.replies.length<=_;omega)];exact ⟨rfl,(congrArg (fun o=>o.bind fun v=>some v) (yEa ⟨{x.Server with Phase:=0,Last:=false,Ignore:=false},x.replies,x.mails⟩ 503 VIa (by show x.replies.length<=_;omega))).trans rfl⟩
 | false=>
  cases x.Server.Last with
  | true=>
   simp only[cond_true,cond_false];refine ⟨?_,?_⟩
   .exact (congrArg (fun o=>o.bind fun v=>some v) (jvb ⟨{x.Server with Phase:=0,Last:=false,Ignore:=false},x.replies,x.mails⟩ h' hn)).trans rfl
   exact (congrArg (fun o=>o.bind fun v=>some v) (Jua ⟨{x.Server with Phase:=0,Last:=false,Ignore:=false},x.replies,x.mails⟩ h' hn)).trans rfl
  | false=>
   simp only[cond_false];rw[ZNa _ _ _ (by show x.replies.length<=_;omega)];exact ⟨rfl,(congrArg (fun o=>o.bind fun v=>some v) (yEa ⟨{x.Server with Phase:=0,Last:=false,Ignore:=false},x.replies,x.mails⟩ 250 okW (by show x.replies.length<=_;omega))).trans rfl⟩
theorem Ypa{x:Ses}{n:Nat}(h:SI x n){c:zka}(ok:YPa c)(hv:c.Verb=3):∀r∈x.Server.To++ [(⟨c.Address,c.Notify⟩:zca)],qja r.Address=true/\kWa r.Notify=true:=by
 intro r hr;rcases List.mem_append.1 hr with hr | hr
 .exact h.tos.2 r hr
 rw[List.mem_singleton]at hr;subst hr;refine ⟨ok.addr (.inl hv),?_⟩;have:=ok.note;show kWa c.Notify=true;unfold kWa;rw[decide_eq_true this.1,decide_eq_true this.2];rfl
theorem rcpt_eq(x:Ses){n:Nat}(h:SI x n)(hn:n<=1000000){c:zka}(ok:YPa c)(hv:c.Verb=3):kda x c=some (V0a x c):=by
 have hl:=Ypa h ok hv;have h60:=h.tos.1;have hr:=h.reps;have hlen:(x.Server.To++ [(⟨c.Address,c.Notify⟩:zca)]).length<=61:=by simp;omega
 unfold kda V0a;rw[Yna _ (by omega)];simp only[Option.bind_some];rw[zTa (by simp;omega)];simp only[Option.bind_some];rw[Vaa _ (Jva hl (by omega)),jxb hl (by omega)];simp only[Option.bind_some];have e:(bif (!x.Server.Mailing) then some true else some x.Server.Chunked)=some (!x.Server.Mailing || x.Server.Chunked):=by cases x.Server.Mailing <;> rfl
 rw[e];simp only[Option.bind_some];cases !x.Server.Mailing || x.Server.Chunked with
 | true=>
  simp only[cond_true];rw[ZNa _ _ _ (by omega)];rfl
 | false=>
  simp only[cond_false];unfold addR;by_cases hm:x.Server.Many < ((vJa (x.Server.To++ [⟨c.Address,c.Notify⟩])).length:Int)
  .rw[if_pos hm,decide_eq_true hm];simp only[cond_true];rw[ZNa _ _ _ (by omega)];rfl
  rw[if_neg hm,decide_eq_false hm];simp only[cond_false];rw[ZNa _ _ _ (by show x.replies.length<=_;omega)];rfl
theorem rcptS_si{x:Ses}{n:Nat}(h:SI x n){c:zka}(ok:YPa c)(hv:c.Verb=3):SI (V0a x c) (n+1):=by
 have hl:=Ypa h ok hv;obtain ⟨h1,h2⟩:=VLa hl;have h3:=jwb (l:=x.Server.To++ [(⟨c.Address,c.Notify⟩:zca)]) (by simp);unfold V0a;cases !x.Server.Mailing || x.Server.Chunked with
 | true=>exact qxa h _ _
 | false=>
  simp only[cond_false];split
  .exact qxa h _ _
  rename_i hm;refine qxa ?_ _ _;obtain ⟨a1,a2,a3,a4,a5,a6,a7,a8,a9,a10,a11,a12,a13⟩:=h;exact ⟨a1,a2,a3,a4,a5,⟨by show (addR x c).length<=60;omega,h2⟩,a7,a8,a9,fun e=>absurd e h3,a11,a12,a13⟩
theorem Jwa{c:Int}(h:0<=c/\c<=1000000):z1a c=some (Lib.decDigits c.toNat)/\jYa c=some (Lib.decDigits c.toNat):=by
 obtain ⟨k,rfl⟩:∃k:Nat,c=(k:Int):=⟨c.toNat,by omega⟩;rw[ZHa _ (by omega),W5a _ (by omega),Int.toNat_natCast];exact ⟨rfl,rfl⟩
theorem vua(x:Ses)(code:Int)(l:List Str)(h:x.replies.length<=1000000000):(zoa x code l).bind (fun v=>some v)=some (sayS x code l):=by rw[ZNa x code l h];rfl
theorem qKa(x:Ses)(code:Int)(l:Str)(h:x.replies.length<=1000000000):(vIa (cv x) code l).bind (fun v=>some v)=some (cv (sayS x code [l])):=by rw[yEa x code l h];rfl
theorem k1_eq(x:Ses)(h:x.replies.length<=1000000000):vZa (cv x)=some (cv (sayS x 250 [okW])):=qKa x 250 okW h
theorem kyb{x:Ses}{n:Nat}(h:SI x n)(hd:x.Server.Dots=0)(c:zka):SI ⟨{x.Server with Phase:=0,Left:=c.Size,Last:=c.Last,Ignore:=x.Server.To.isEmpty,Chunked:= !x.Server.To.isEmpty},x.replies,x.mails⟩ n:=by
 obtain ⟨a1,a2,a3,a4,a5,a6,a7,a8,a9,a10,a11,a12,a13⟩:=h;exact ⟨a1,a2,a3,a4,a5,a6,a7,a8,fun e=>absurd (show (0:Int)=2 from e) (by decide),fun e=>by
  have e:x.Server.To=[]:=e;show (!x.Server.To.isEmpty)=false;rw[e];rfl,fun _=>hd,a12,a13⟩
theorem QAa(l:List zca):((l.length:Int)==0)=l.isEmpty:=by cases l <;> simp;omega
theorem exec_eq(x:Ses){n:Nat}(h:SI x n)(hn:n<=1000000)(hp:x.Server.Phase=0)(hb:x.Server.Buffer=[]){c:zka}(ok:YPa c):kpa x c=some (K2a x c)/\Q5a (cv x) c=some (cv (K2a x c)):=by
 have hr:=h.reps;have hv:=ok.verb;have hname:=h.name;have hd:x.Server.Dots=0:=h.dots (by rw[hp];decide);unfold kpa Q5a K2a;rw[show (cv x).S=x.Server from rfl,show (cv x).Mails=x.mails from rfl,show (cv x).Replies=x.replies from rfl];by_cases h1:c.Verb=1
 .rw[if_pos h1,h1];simp only[show ((1:Int)==1)=true from rfl,cond_true,ab_eq,zzb,Option.bind_some];have hs:=Jwa (c:=x.Server.Size) (by have:=h.size;omega);have hm:=Jwa (c:=x.Server.Many) (by have:=h.many;omega);have l1:=Z2a (n:=x.Server.Size.toNat) (by have:=h.size;omega);have l2:=Z2a (n:=x.Server.Many.toNat) (by have:=h.many;omega);rw[show (abS x).Server.Size=x.Server.Size from rfl,show (abS x).Server.Many=x.Server.Many from rfl,show (cv (abS x)).S.Size=x.Server.Size from rfl,show (cv (abS x)).S.Many=x.Server.Many from rfl,hs.1,hs.2,hm.1,hm.2];simp only[Option.bind_some];rw[jDa (show ([115,105,122,101,32]:Str).length+_<=_ by simp;omega),jDa (show ([114,101,99,105,112,105,101,110,116,115,32]:Str).length+_<=_ by simp;omega)];simp only[Option.bind_some];refine ⟨vua ⟨{(abS x).Server with Greeted:=true},x.replies,x.mails⟩ 250 _ (by show x.replies.length<=_;omega),?_⟩;rw[zTa (by show x.replies.length+_<=_;simp;omega)];rfl
 rw[if_neg h1,beq_eq_false_iff_ne.2 h1];simp only[cond_false];by_cases h2:c.Verb=2
 .rw[if_pos h2,h2];simp only[show ((2:Int)==2)=true from rfl,cond_true];have e:(bif (!x.Server.Greeted) then some true else some x.Server.Mailing)=some (!x.Server.Greeted || x.Server.Mailing):=by cases x.Server.Greeted <;> rfl
  rw[e];simp only[Option.bind_some];cases !x.Server.Greeted || x.Server.Mailing with
  | true=>
   simp only[cond_true];exact ⟨vua x 503 _ (by omega),qKa x 503 VIa (by omega)⟩
  | false=>
   simp only[cond_false];by_cases hs:x.Server.Size < c.Size
   .rw[if_pos hs,decide_eq_true hs];simp only[cond_true];exact ⟨vua x 552 _ (by omega),qKa x 552 kvb (by omega)⟩
   rw[if_neg hs,decide_eq_false hs];simp only[cond_false];exact ⟨vua ⟨{x.Server with Mailing:=true,From:=c.Address},x.replies,x.mails⟩ 250 _ (by show x.replies.length<=_;omega),k1_eq ⟨{x.Server with Mailing:=true,From:=c.Address},x.replies,x.mails⟩ (by show x.replies.length<=_;omega)⟩
 rw[if_neg h2,beq_eq_false_iff_ne.2 h2];simp only[cond_false];by_cases h3:c.Verb=3
 .rw[if_pos h3,h3];simp only[show ((3:Int)==3)=true from rfl,cond_true];refine ⟨by rw[rcpt_eq x h hn ok h3];rfl,?_⟩;have hl:=Ypa h ok h3;have h60:=h.tos.1;have e:(bif (!x.Server.Mailing) then some true else some x.Server.Chunked)=some (!x.Server.Mailing || x.Server.Chunked):=by cases x.Server.Mailing <;> rfl
  rw[e];unfold V0a;simp only[Option.bind_some];cases !x.Server.Mailing || x.Server.Chunked with
  | true=>
   simp only[cond_true];exact qKa x 503 VIa (by omega)
  | false=>
   simp only[cond_false];rw[zTa (by simp;omega)];simp only[Option.bind_some,List.nil_append];rw[zTa (by simp;omega)];simp only[Option.bind_some];rw[qKb _ (by simp;omega) (fun r hr=>(hl r hr).2)];simp only[Option.bind_some];unfold addR;by_cases hm:x.Server.Many < ((vJa (x.Server.To++ [⟨c.Address,c.Notify⟩])).length:Int)
   .rw[if_pos hm,decide_eq_true hm];simp only[cond_true];exact qKa x 452 [109,97,110,121] (by omega)
   rw[if_neg hm,decide_eq_false hm];simp only[cond_false];exact k1_eq ⟨{x.Server with To:=vJa (x.Server.To++ [⟨c.Address,c.Notify⟩])},x.replies,x.mails⟩ (by show x.replies.length<=_;omega)
 rw[if_neg h3,beq_eq_false_iff_ne.2 h3];simp only[cond_false];by_cases h4:c.Verb=4
 .rw[if_pos h4,h4];simp only[show ((4:Int)==4)=true from rfl,cond_true];have e:(bif ((x.Server.To.length:Int)==0) then some true else some x.Server.Chunked)=some (x.Server.To.isEmpty || x.Server.Chunked):=by rw[QAa];cases x.Server.To.isEmpty <;> rfl
  rw[e];simp only[Option.bind_some];cases x.Server.To.isEmpty || x.Server.Chunked with
  | true=>
   simp only[cond_true];exact ⟨vua x 503 _ (by omega),qKa x 503 VIa (by omega)⟩
  | false=>
   simp only[cond_false];refine ⟨vua ⟨{x.Server with Phase:=1},x.replies,x.mails⟩ 354 _ (by show x.replies.length<=_;omega),?_⟩;have:=qKa ⟨{x.Server with Phase:=1},x.replies,x.mails⟩ 354 [103,111,32,111,110] (by show x.replies.length<=_;omega);rw[<-this];have e0:cv ⟨{x.Server with Phase:=1},x.replies,x.mails⟩=⟨{x.Server with Phase:=1,Dots:=0},x.replies,x.mails⟩:=by unfold cv;rw[<-hd]
   rw[e0]
 rw[if_neg h4,beq_eq_false_iff_ne.2 h4];simp only[cond_false];by_cases h5:c.Verb=5
 .rw[if_pos h5,h5];simp only[show ((5:Int)==5)=true from rfl,cond_true];rw[QAa];have e:(bif !x.Server.To.isEmpty then some (⟨⟨x.Server.Name,x.Server.Size,x.Server.Many,2,x.Server.Greeted,x.Server.Mailing,x.Server.From,x.Server.To,x.Server.Buffer,x.Server.Data,x.Server.Lost,x.Server.Dots,true,c.Size,c.Last,x.Server.To.isEmpty,x.Server.Count⟩,x.replies,x.mails⟩:zda)
   else some ⟨⟨x.Server.Name,x.Server.Size,x.Server.Many,2,x.Server.Greeted,x.Server.Mailing,x.Server.From,x.Server.To,x.Server.Buffer,x.Server.Data,x.Server.Lost,x.Server.Dots,x.Server.Chunked,c.Size,c.Last,x.Server.To.isEmpty,x.Server.Count⟩,x.replies,x.mails⟩)=
   some (cv ⟨{x.Server with Phase:=2,Left:=c.Size,Last:=c.Last,Ignore:=x.Server.To.isEmpty,Chunked:= !x.Server.To.isEmpty},x.replies,x.mails⟩):=by
   cases he:x.Server.To.isEmpty with
   | true=>
    have hc:=h.chunk (List.isEmpty_iff.1 he);simp only[Bool.not_true,cond_false];rw[hc];rfl
   | false=>rfl
  rw[e];simp only[Option.bind_some];by_cases hz:c.Size=0
  .rw[if_pos hz,hz];simp only[show ((0:Int)==0)=true from rfl,cond_true];obtain ⟨e1,e2⟩:=vIb ⟨{x.Server with Phase:=2,Left:=c.Size,Last:=c.Last,Ignore:=x.Server.To.isEmpty,Chunked:= !x.Server.To.isEmpty},x.replies,x.mails⟩ (kyb h hd c) hn;rw[hz]at e1 e2;exact ⟨(congrArg (fun o=>o.bind fun v=>some v) e1).trans rfl,(congrArg (fun o=>o.bind fun v=>some v) e2).trans rfl⟩
  rw[if_neg hz,beq_eq_false_iff_ne.2 hz];exact ⟨rfl,rfl⟩
 rw[if_neg h5,beq_eq_false_iff_ne.2 h5];simp only[cond_false];by_cases h6:c.Verb=6
 .rw[if_pos h6,h6];simp only[show ((6:Int)==6)=true from rfl,cond_true,ab_eq,zzb,Option.bind_some];exact ⟨vua (abS x) 250 _ (by show x.replies.length<=_;omega),k1_eq (abS x) (by show x.replies.length<=_;omega)⟩
 rw[if_neg h6,beq_eq_false_iff_ne.2 h6];simp only[cond_false];by_cases h8:c.Verb=8
 .rw[if_pos h8,h8];simp only[show ((8:Int)==7)=false from rfl,show ((8:Int)==8)=true from rfl,cond_true,cond_false,zzb,Option.bind_some];refine ⟨?_,?_⟩
  .rw[ZNa x 221 _ (by omega)];rfl
  have e0:(⟨{(abS x).Server with Phase:=3},x.replies,x.mails⟩:zda)=cv ⟨{(abS x).Server with Phase:=3,Buffer:=[]},x.replies,x.mails⟩:=by
   unfold cv abS;simp only[hb]
  exact (congrArg (fun s=>(vIa s 221 [98,121,101]).bind fun v=>some v) e0).trans (qKa ⟨{(abS x).Server with Phase:=3,Buffer:=[]},x.replies,x.mails⟩ 221 [98,121,101] (by show x.replies.length<=_;omega))
 rw[if_neg h8,beq_eq_false_iff_ne.2 h8];have h7:c.Verb=7:=by omega
 rw[h7];simp only[show ((7:Int)==7)=true from rfl,cond_true,cond_false];exact ⟨vua x 250 _ (by omega),k1_eq x (by omega)⟩
theorem Jxa{x:Ses}{n:Nat}(h:SI ⟨{x.Server with Phase:=0},x.replies,x.mails⟩ n)(hd:x.Server.Dots=0):SI (wUa x) (n+1):=by
 have h0:SI ⟨{x.Server with Phase:=0,Last:=false,Ignore:=false},x.replies,x.mails⟩ n:=kxb (x:=⟨{x.Server with Phase:=0},x.replies,x.mails⟩) h hd;unfold wUa;cases x.Server.Ignore with
 | true=>exact qxa h0 _ _
 | false=>
  cases x.Server.Last with
  | true=>exact vHb h0
  | false=>exact qxa h0 _ _
theorem execS_si{x:Ses}{n:Nat}(h:SI x n)(hp:x.Server.Phase=0){c:zka}(ok:YPa c):SI (K2a x c) (n+1):=by
 have hd:x.Server.Dots=0:=h.dots (by rw[hp];decide);have hv:=ok.verb;have hs:=ok.size;unfold K2a;by_cases h1:c.Verb=1
 .rw[if_pos h1];refine qxa ?_ _ _;obtain ⟨a1,a2,a3,a4,a5,a6,a7,a8,a9,a10,a11,a12,a13⟩:=kwb h;exact ⟨a1,a2,a3,a4,a5,a6,a7,a8,a9,a10,a11,a12,a13⟩
 rw[if_neg h1];by_cases h2:c.Verb=2
 .rw[if_pos h2];cases !x.Server.Greeted || x.Server.Mailing with
  | true=>exact qxa h _ _
  | false=>
   simp only[cond_false];split
   .exact qxa h _ _
   refine qxa ?_ _ _;obtain ⟨a1,a2,a3,a4,a5,a6,a7,a8,a9,a10,a11,a12,a13⟩:=h;exact ⟨a1,a2,a3,a4,a5,a6,a7,a8,a9,a10,a11,a12,a13⟩
 rw[if_neg h2];by_cases h3:c.Verb=3
 .rw[if_pos h3];exact rcptS_si h ok h3
 rw[if_neg h3];by_cases h4:c.Verb=4
 .rw[if_pos h4];cases x.Server.To.isEmpty || x.Server.Chunked with
  | true=>exact qxa h _ _
  | false=>
   refine qxa ?_ _ _;obtain ⟨a1,a2,a3,a4,a5,a6,a7,a8,a9,a10,a11,a12,a13⟩:=h;exact ⟨a1,a2,a3,a4,a5,a6,a7,a8,fun e=>absurd (show (1:Int)=2 from e) (by decide),a10,fun _=>hd,a12,a13⟩
 rw[if_neg h4];by_cases h5:c.Verb=5
 .rw[if_pos h5];by_cases hz:c.Size=0
  .rw[if_pos hz];have hq:=kyb h hd c;exact Jxa (x:=⟨{x.Server with Phase:=2,Left:=c.Size,Last:=c.Last,Ignore:=x.Server.To.isEmpty,Chunked:= !x.Server.To.isEmpty},x.replies,x.mails⟩) hq hd
  rw[if_neg hz];have h' :=h.up;obtain ⟨a1,a2,a3,a4,a5,a6,a7,a8,a9,a10,a11,a12,a13⟩:=h';exact ⟨a1,a2,a3,a4,a5,a6,a7,a8,fun _=>⟨by show 1<=c.Size;omega,hs.2⟩,fun e=>by
   have e:x.Server.To=[]:=e;show (!x.Server.To.isEmpty)=false;rw[e];rfl,fun _=>hd,a12,a13⟩
 rw[if_neg h5];by_cases h6:c.Verb=6
 .rw[if_pos h6];exact qxa (kwb h) _ _
 rw[if_neg h6];by_cases h8:c.Verb=8
 .rw[if_pos h8];refine qxa ?_ _ _;obtain ⟨a1,a2,a3,a4,a5,a6,a7,a8,a9,a10,a11,a12,a13⟩:=kwb h;exact ⟨a1,a2,a3,a4,by show (0:Nat)<=4001;omega,a6,a7,a8,fun e=>absurd (show (3:Int)=2 from e) (by decide),a10,fun _=>hd,a12,a13⟩
 rw[if_neg h8];exact qxa h _ _
theorem Wja(l:List UInt8)(c:UInt8): [13,10].isSuffixOf (l++ [c])=(decide (2<=(l++ [c]).length) && (((l++ [c])[(l++ [c]).length - 2]?).elim false (· ==13) && c==10)):=by
 rcases List.eq_nil_or_concat l with rfl | ⟨p,y,rfl⟩
 .have h1:([13,10]:List UInt8).isSuffixOf ([]++ [c])=false:=by
   rw[Bool.eq_false_iff];intro h;have:=(List.isSuffixOf_iff_suffix.1 h).length_le;simp at this
  rw[h1];rfl
 rw[List.concat_eq_append,Bool.eq_iff_iff,List.isSuffixOf_iff_suffix];have e1:(p++ [y]++ [c]).length - 2=p.length:=by simp
 rw[e1];have e2:(p++ [y]++ [c])[p.length]? =some y:=by simp
 rw[e2];simp only[Option.elim_some,Bool.and_eq_true,beq_iff_eq,decide_eq_true_eq];constructor
 .rintro ⟨t,ht⟩;rw[show p++ [y]++ [c]=p++ [y,c] by simp]at ht;have:=(List.append_inj' ht rfl).2;simp at this;exact ⟨by simp,this.1.symm,this.2.symm⟩
 rintro ⟨_,rfl,rfl⟩;exact ⟨p,by simp⟩
theorem qSb{x:Ses}{n:Nat}(h:SI x n){b:List UInt8}(hb:b.length<=4001):SI (bufS x b) n:=by
 obtain ⟨a1,a2,a3,a4,a5,a6,a7,a8,a9,a10,a11,a12,a13⟩:=h;exact ⟨a1,a2,a3,a4,hb,a6,a7,a8,a9,a10,a11,a12,a13⟩
theorem line_eq(x:Ses){n:Nat}(h:SI x n)(hn:n<=1000000)(hp:x.Server.Phase=0)(c:UInt8):kSa x c=some (Yla x c)/\KQa (cv x) c=some (cv (Yla x c)):=by
 have hr:=h.reps;have hb:=h.buf;have h0:=qSb h (b:=[]) (by simp);have hlen:(x.Server.Buffer++ [c]).length=x.Server.Buffer.length+1:=by simp
 unfold kSa KQa Yla;rw[show (cv x).S=x.Server from rfl,show (cv x).Mails=x.mails from rfl,show (cv x).Replies=x.replies from rfl];rw[zTa (show x.Server.Buffer.length+ [c].length<=140737488355328 by simp;omega),zTa (show ([]:List UInt8).length+x.Server.Buffer.length<=140737488355328 by simp;omega)];simp only[Option.bind_some,List.nil_append];rw[zTa (show x.Server.Buffer.length+ [c].length<=140737488355328 by simp;omega)];simp only[Option.bind_some];unfold qia;rw[y4a _ _ (by omega)];simp only[Option.bind_some];have eR:(bif decide ((2:Int)<=((x.Server.Buffer++ [c]).length:Int)) then (idx (x.Server.Buffer++ [c]) (w64 (((x.Server.Buffer++ [c]).length:Int) - 2))).bind fun v7=>(bif ((v7.toNat:Int)==13) then (idx (x.Server.Buffer++ [c]) (w64 (((x.Server.Buffer++ [c]).length:Int) - 1))).bind fun v10=>some ((v10.toNat:Int)==10) else some false) else some false)=some ([13,10].isSuffixOf (x.Server.Buffer++ [c])):=by
  rw[Wja];by_cases h2:2<=(x.Server.Buffer++ [c]).length
  .rw[decide_eq_true (show (2:Int)<=((x.Server.Buffer++ [c]).length:Int) by omega),decide_eq_true h2];rw[show (((x.Server.Buffer++ [c]).length:Int) - 2)=(((x.Server.Buffer++ [c]).length - 2:Nat):Int) by omega,Zia _ (by omega),show (((x.Server.Buffer++ [c]).length:Int) - 1)=((x.Server.Buffer.length:Nat):Int) by omega,Zia _ (by omega),qzb x.Server.Buffer c [],wqa,List.getElem?_eq_getElem (by omega)];simp only[cond_true,Option.bind_some,Option.elim_some,Bool.true_and];rw[qEa _ 13 (by decide),qEa _ 10 (by decide)];cases (x.Server.Buffer++ [c])[(x.Server.Buffer++ [c]).length - 2]==13 <;> rfl
  rw[decide_eq_false (show ¬(2:Int)<=((x.Server.Buffer++ [c]).length:Int) by omega),decide_eq_false h2];rfl
 rw[eR];simp only[Option.bind_some];cases hs: [13,10].isSuffixOf (x.Server.Buffer++ [c]) with
 | true=>
  have hl2:=(List.isSuffixOf_iff_suffix.1 hs).length_le;simp only[List.length_cons,List.length_nil]at hl2;have ecut:w64 (((x.Server.Buffer++ [c]).length:Int) - (([13,10]:List UInt8).length:Int))=(((x.Server.Buffer++ [c]).length - 2:Nat):Int):=by
   rw[show (((x.Server.Buffer++ [c]).length:Int) - (([13,10]:List UInt8).length:Int))=(((x.Server.Buffer++ [c]).length - 2:Nat):Int) by simp only[List.length_cons,List.length_nil];omega,Zia _ (by omega)]
  have ecut2:w64 (((x.Server.Buffer++ [c]).length:Int) - 2)=(((x.Server.Buffer++ [c]).length - 2:Nat):Int):=by
   rw[show (((x.Server.Buffer++ [c]).length:Int) - 2)=(((x.Server.Buffer++ [c]).length - 2:Nat):Int) by omega,Zia _ (by omega)]
  simp only[Bool.not_true,cond_false,cond_true,if_true];rw[ecut,ecut2,Zea (by omega)];simp only[Option.bind_some,Bool.not_true,cond_false];rw[VZa _ (by simp;omega),YQa _ (by simp;omega)];simp only[Option.bind_some];generalize hR:ZLa ((x.Server.Buffer++ [c]).take ((x.Server.Buffer++ [c]).length - 2))=r;by_cases h18:r.2.Code=18
  .rw[if_pos h18,h18];simp only[show ((18:Int)==0)=false from rfl,show ((18:Int)==18)=true from rfl,cond_true,cond_false];exact ⟨vua (bufS x []) 500 _ (by show x.replies.length<=_;omega),qKa (bufS x []) 500 Qza (by show x.replies.length<=_;omega)⟩
  rw[if_neg h18];by_cases hz:r.2.Code=0
  .have ok:YPa r.1:=by rw[<-hR]at hz ⊢;exact zAb hz
   obtain ⟨e1,e2⟩:=exec_eq (bufS x []) h0 hn hp rfl ok;rw[if_pos hz,hz];simp only[show ((0:Int)==0)=true from rfl,show ((0:Int)==18)=false from rfl,show ((0:Int) !=0)=false from rfl,cond_true,cond_false];exact ⟨(congrArg (fun o=>o.bind fun v=>some v) e1).trans rfl,(congrArg (fun o=>o.bind fun v=>some v) e2).trans rfl⟩
  rw[if_neg hz,beq_eq_false_iff_ne.2 hz,beq_eq_false_iff_ne.2 h18,bne_iff_ne.2 hz];simp only[cond_true,cond_false];exact ⟨vua (bufS x []) 501 _ (by show x.replies.length<=_;omega),qKa (bufS x []) 501 jtb (by show x.replies.length<=_;omega)⟩
 | false=>
  simp only[Bool.not_false,cond_true,cond_false,Bool.false_eq_true,if_false,Option.bind_some];by_cases h4:(x.Server.Buffer++ [c]).length=4002
  .rw[if_pos h4,h4];simp only[show (((4002:Nat):Int)==4002)=true from rfl,cond_true];refine ⟨?_,?_⟩
   .exact (congrArg (fun o=>(o.bind fun (v8:zea)=>(kGa v8).bind fun v10=>some v10).bind fun j=>some j) (ZNa (bufS x (x.Server.Buffer++ [c])) 500 [Qza] (by show x.replies.length<=_;omega))).trans rfl
   exact (congrArg (fun o=>o.bind fun v=>some v) (yEa ⟨{(abS x).Server with Phase:=3,Buffer:=[]},x.replies,x.mails⟩ 500 Qza (by show x.replies.length<=_;omega))).trans rfl
  rw[if_neg h4,beq_eq_false_iff_ne.2 (show ((x.Server.Buffer++ [c]).length:Int)≠4002 by omega)];exact ⟨rfl,rfl⟩
theorem lineS_si{x:Ses}{n:Nat}(h:SI x n)(hp:x.Server.Phase=0)(c:UInt8):SI (Yla x c) (n+1):=by
 have hb:=h.buf;have h0:=qSb h (b:=[]) (by simp);have hd:x.Server.Dots=0:=h.dots (by rw[hp];decide);have hlen:(x.Server.Buffer++ [c]).length=x.Server.Buffer.length+1:=by simp
 unfold Yla;split
 .generalize hR:ZLa ((x.Server.Buffer++ [c]).take ((x.Server.Buffer++ [c]).length - 2))=r;dsimp only;split
  .exact qxa h0 _ _
  split
  .rename_i hz;exact execS_si h0 hp (by rw[<-hR]at hz ⊢;exact zAb hz)
  exact qxa h0 _ _
 split
 .refine qxa ?_ _ _;obtain ⟨a1,a2,a3,a4,a5,a6,a7,a8,a9,a10,a11,a12,a13⟩:=kwb h;exact ⟨a1,a2,a3,a4,by show (0:Nat)<=4001;omega,a6,a7,a8,fun e=>absurd (show (3:Int)=2 from e) (by decide),a10,fun _=>hd,a12,a13⟩
 rename_i h4;exact (qSb h (by omega)).up
theorem qka(x:Ses)(c:UInt8):(kwa x c).Server.Dots=x.Server.Dots/\(kwa x c).Server.Phase=x.Server.Phase:=by unfold kwa;split <;> exact ⟨rfl,rfl⟩
theorem Wka{x:Ses}{n:Nat}(h:SI x n)(hp:x.Server.Phase=1)(d:Int):SI (YRa x d) n:=by
 obtain ⟨a1,a2,a3,a4,a5,a6,a7,a8,a9,a10,a11,a12,a13⟩:=h;exact ⟨a1,a2,a3,a4,a5,a6,a7,a8,a9,a10,fun e=>absurd hp e,a12,a13⟩
theorem Yqa(p q:Prop)[Decidable p][Decidable q]:(bif decide p then some (decide q) else some false)=some (decide (p/\q)):=by
 by_cases hp:p <;> by_cases hq:q <;> simp[hp,hq]
theorem deq(a b:Int):(a==b)=decide (a=b):=by rw[Bool.eq_iff_iff];simp
theorem jyb(x:Ses){n:Nat}(h:SI x n)(c:UInt8):z5a c x=some (YRa (kwa x c) (if c=13 then 4 else if c=10/\x.Server.Dots=4 then 0 else 3)):=by
 unfold z5a;rw[jub x c h];simp only[Option.bind_some];rw[(qka x c).1,qEa c 13 (by decide),qEa c 10 (by decide),jja,jja,deq,Yqa];simp only[Option.bind_some];by_cases h13:c=13
 .rw[if_pos h13,decide_eq_true h13];rfl
 rw[if_neg h13,decide_eq_false h13];by_cases h10:c=10/\x.Server.Dots=4
 .rw[if_pos h10,decide_eq_true h10];rfl
 rw[if_neg h10,decide_eq_false h10];rfl
theorem zBb{x:Ses}{n:Nat}(h:SI x n):SI ⟨{x.Server with Phase:=0,Dots:=0},x.replies,x.mails⟩ n:=by
 obtain ⟨a1,a2,a3,a4,a5,a6,a7,a8,a9,a10,a11,a12,a13⟩:=h;exact ⟨a1,a2,a3,a4,a5,a6,a7,a8,fun e=>absurd (show (0:Int)=2 from e) (by decide),a10,fun _=>rfl,a12,a13⟩
theorem data_eq(x:Ses){n:Nat}(h:SI x n)(hn:n<=1000000)(c:UInt8):kTa x c=some (Yma x c)/\KSa (cv x) c=some (cv (Yma x c)):=by
 unfold kTa KSa Yma;rw[show (cv x).S=x.Server from rfl,show (cv x).Mails=x.mails from rfl,show (cv x).Replies=x.replies from rfl];rw[qEa c 46 (by decide),qEa c 13 (by decide),qEa c 10 (by decide),jja,jja,jja,deq,deq,deq,deq,Yqa,Yqa,Yqa,Yqa];simp only[Option.bind_some];by_cases h0:x.Server.Dots=0/\c=46
 .rw[if_pos h0,decide_eq_true h0];exact ⟨rfl,rfl⟩
 rw[if_neg h0,decide_eq_false h0];simp only[cond_false];by_cases h1:x.Server.Dots=1/\c=13
 .rw[if_pos h1,decide_eq_true h1];exact ⟨rfl,rfl⟩
 rw[if_neg h1,decide_eq_false h1];simp only[cond_false];by_cases h2:x.Server.Dots=2/\c=10
 .rw[if_pos h2,decide_eq_true h2];simp only[cond_true];exact ⟨(congrArg (fun o=>o.bind fun v=>some v) (jvb _ (zBb h) hn)).trans rfl,(congrArg (fun o=>o.bind fun v=>some v) (Jua _ (zBb h) hn)).trans rfl⟩
 rw[if_neg h2,decide_eq_false h2];simp only[cond_false];have key:∀y:Ses,SI y n->y.Server.Dots=x.Server.Dots->((KRa (cv y) c).bind fun v16=>((bif decide (c=13) then some (cv (YRa ⟨v16.S,v16.Replies,v16.Mails⟩ 4)) else some (cv (YRa ⟨v16.S,v16.Replies,v16.Mails⟩ 3))):Option zda).bind fun j18=>((bif decide (x.Server.Dots=4/\c=10) then some (cv (YRa ⟨j18.S,j18.Replies,j18.Mails⟩ 0)) else some j18):Option zda).bind fun j20=>some j20)=some (cv (YRa (kwa y c) (if c=13 then 4 else if c=10/\x.Server.Dots=4 then 0 else 3))):=by
  intro y hy hd;rw[qRb y c hy];simp only[Option.bind_some];by_cases h13:c=13
  .rw[if_pos h13,decide_eq_true h13];simp only[cond_true,Option.bind_some];rw[decide_eq_false (show ¬(x.Server.Dots=4/\c=10) by rw[h13];simp)];rfl
  rw[if_neg h13,decide_eq_false h13];simp only[cond_false,Option.bind_some];by_cases h10:x.Server.Dots=4/\c=10
  .rw[decide_eq_true h10,if_pos ⟨h10.2,h10.1⟩];rfl
  rw[decide_eq_false h10,if_neg (fun e=>h10 ⟨e.2,e.1⟩)];rfl
 by_cases hd2:x.Server.Dots=2
 .rw[if_pos hd2,decide_eq_true hd2];simp only[cond_true];have hk:=j8a h 13;have hkd:=(qka x 13).1;rw[jub x 13 h,qRb x 13 h];simp only[Option.bind_some];refine ⟨?_,key (kwa x 13) hk hkd⟩;rw[jyb _ hk c,hkd]
 rw[if_neg hd2,decide_eq_false hd2];simp only[cond_false,Option.bind_some];refine ⟨?_,key x h rfl⟩;rw[jyb x h c]
theorem dataS_si{x:Ses}{n:Nat}(h:SI x n)(hp:x.Server.Phase=1)(c:UInt8):SI (Yma x c) (n+1):=by
 unfold Yma;split
 .exact (Wka h hp _).up
 split
 .exact (Wka h hp _).up
 split
 .exact vHb (zBb h)
 split
 .exact (Wka (j8a (j8a h 13) c) (by rw[(qka _ _).2,(qka _ _).2];exact hp) _).up
 exact (Wka (j8a h c) (by rw[(qka _ _).2];exact hp) _).up
def qTb(x:Ses):Ses:=⟨{x.Server with Left:=x.Server.Left - 1},x.replies,x.mails⟩
theorem vJb{x:Ses}{n:Nat}(h:SI x n)(hp:x.Server.Phase=2):SI ⟨{(qTb x).Server with Phase:=0},x.replies,x.mails⟩ n/\((qTb x).Server.Left≠0->SI (qTb x) n):=by
 have hl:=h.left hp;have hd:x.Server.Dots=0:=h.dots (by rw[hp];decide);obtain ⟨a1,a2,a3,a4,a5,a6,a7,a8,a9,a10,a11,a12,a13⟩:=h;refine ⟨⟨a1,a2,a3,a4,a5,a6,a7,a8,fun e=>absurd (show (0:Int)=2 from e) (by decide),a10,fun _=>hd,a12,a13⟩,fun hz=>⟨a1,a2,a3,a4,a5,a6,a7,a8,fun _=>?_,a10,fun _=>hd,a12,a13⟩⟩;have hz:x.Server.Left - 1≠0:=hz;exact ⟨by show 1<=x.Server.Left - 1;omega,by show x.Server.Left - 1<=_;omega⟩
theorem Wla{x:Ses}{n:Nat}(h:SI x n)(c:UInt8):SI (yMa x c) (n+1):=by
 unfold yMa;split
 .rename_i hp;exact lineS_si h hp c
 split
 .rename_i hp;exact dataS_si h hp c
 split
 .rename_i hp;have hy:SI (bif x.Server.Ignore then x else kwa x c) n/\(bif x.Server.Ignore then x else kwa x c).Server.Phase=2:=by
   cases x.Server.Ignore with
   | true=>exact ⟨h,hp⟩
   | false=>exact ⟨j8a h c,by rw[show (bif false then x else kwa x c)=kwa x c from rfl,(qka x c).2];exact hp⟩
  generalize (bif x.Server.Ignore then x else kwa x c)=y at hy;obtain ⟨hy,hyp⟩:=hy;obtain ⟨h1,h2⟩:=vJb hy hyp;show SI (if (qTb y).Server.Left=0 then wUa (qTb y) else qTb y) (n+1);split
  .exact Jxa h1 (hy.dots (by rw[hyp];decide))
  rename_i hz;exact (h2 hz).up
 exact h.up
theorem jzb(a1:List UInt8)(ha:a1.length<=1000000)(i:Nat)(c:UInt8)(x:Ses)(hc:a1[i]? =some c)(h:SI x i):k3a a1 ((i:Int),x)=some (.cont (((i+1:Nat):Int),yMa x c))/\wSa a1 ((i:Int),cv x)=some (.cont (((i+1:Nat):Int),cv (yMa x c))):=by
 have hi:=zIa hc;unfold k3a wSa yMa;dsimp only;rw[kea hc,zAa hc,show (cv x).S=x.Server from rfl];simp only[cond_true,Option.bind_some];rw[sc i (by omega)];by_cases h0:x.Server.Phase=0
 .obtain ⟨e1,e2⟩:=line_eq x h (by omega) h0 c;rw[if_pos h0,h0,e1,e2];exact ⟨rfl,rfl⟩
 rw[if_neg h0,beq_eq_false_iff_ne.2 h0];simp only[cond_false];by_cases h1:x.Server.Phase=1
 .obtain ⟨e1,e2⟩:=data_eq x h (by omega) c;rw[if_pos h1,h1,e1,e2];exact ⟨rfl,rfl⟩
 rw[if_neg h1,beq_eq_false_iff_ne.2 h1];simp only[cond_false];by_cases h2:x.Server.Phase=2
 .rw[if_pos h2,h2];simp only[show ((2:Int)==2)=true from rfl,cond_true];have e1:(bif !x.Server.Ignore then (z2a x c).bind fun v36=>some v36 else some x)=some (bif x.Server.Ignore then x else kwa x c):=by
   rw[jub x c h];cases x.Server.Ignore <;> rfl
  have e2:(bif !x.Server.Ignore then (KRa (cv x) c).bind fun v23=>some v23 else some (cv x))=some (cv (bif x.Server.Ignore then x else kwa x c)):=by
   rw[qRb x c h];cases x.Server.Ignore <;> rfl
  rw[e1,e2];simp only[Option.bind_some];have hy:SI (bif x.Server.Ignore then x else kwa x c) i/\(bif x.Server.Ignore then x else kwa x c).Server.Phase=2:=by
   cases x.Server.Ignore with
   | true=>exact ⟨h,h2⟩
   | false=>exact ⟨j8a h c,by rw[show (bif false then x else kwa x c)=kwa x c from rfl,(qka x c).2];exact h2⟩
  generalize (bif x.Server.Ignore then x else kwa x c)=y at hy;obtain ⟨hy,hyp⟩:=hy;obtain ⟨q1,q2⟩:=vJb hy hyp;have hl:=hy.left hyp;rw[show (cv y).S=y.Server from rfl,show (cv y).Mails=y.mails from rfl,show (cv y).Replies=y.replies from rfl,qMa (n:=y.Server.Left - 1) (by omega) (by omega)];by_cases hz:y.Server.Left - 1=0
  .obtain ⟨c1,c2⟩:=vIb (qTb y) q1 (by omega);rw[if_pos hz];have hb:(y.Server.Left - 1==0)=true:=by rw[hz];rfl
   rw[hb];exact ⟨(congrArg (fun (o:Option zea)=>(o.bind fun v39=>some v39).bind fun (j24:zea)=>(some (Step.cont (((i+1:Nat):Int),j24)):Option (Step (Int × zea) zea))) c1).trans rfl,(congrArg (fun (o:Option zda)=>(o.bind fun v39=>some v39).bind fun (j24:zda)=>(some (Step.cont (((i+1:Nat):Int),j24)):Option (Step (Int × zda) zda))) c2).trans rfl⟩
  rw[if_neg hz,beq_eq_false_iff_ne.2 hz];exact ⟨rfl,rfl⟩
 rw[if_neg h2,beq_eq_false_iff_ne.2 h2];exact ⟨rfl,rfl⟩
def v8a(x:Ses)(b:List UInt8):Ses:=b.foldl yMa x
theorem Yra(a1:List UInt8)(ha:a1.length<=1000000)(x:Ses)(h:SI x 0):iter (k3a a1) ((0,x))=some (v8a x a1)/\iter (wSa a1) ((0,cv x))=some (cv (v8a x a1))/\SI (v8a x a1) a1.length:=by
 obtain ⟨h1,h2⟩:=jEa a1 (fun i (s:Ses)=>(i,s)) yMa id (fun i s=>SI s i) (body:=k3a a1) (fun s _=>by unfold k3a;rw[zHa];rfl) (fun i c s hc hs=>⟨(jzb a1 ha i c s hc hs).1,Wla hs c⟩) x h;obtain ⟨h3,_⟩:=jEa a1 (fun i (s:Ses)=>(i,cv s)) yMa cv (fun i s=>SI s i) (body:=wSa a1) (fun s _=>by unfold wSa;rw[zHa];rfl) (fun i c s hc hs=>⟨(jzb a1 ha i c s hc hs).2,Wla hs c⟩) x h;exact ⟨h1,h3,h2⟩
def fl:List UInt8->List UInt8->List Str × List UInt8
 | cur,[]=>([],cur)
 | cur,[c]=>([],cur++ [c])
 | cur,c::d::r=>if c=13/\d=10 then (cur::(fl [] r).1,(fl [] r).2) else fl (cur++ [c]) (d::r)
def Kba(name:Str)(size many:Int):zta:=if KUa name=false∨40 < name.length then ⟨10, -20⟩ else if size < 1∨12000 < size then ⟨3, -21⟩ else if many < 1∨60 < many then ⟨3, -22⟩ else ⟨0,0⟩
theorem vKb(p q:Prop)[Decidable p][Decidable q]:(bif decide p then some true else some (decide q))=some (decide (p∨q)):=by
 by_cases hp:p <;> by_cases hq:q <;> simp[hp,hq]
theorem jAb(b:Bool):(!b)=decide (b=false):=by cases b <;> rfl
theorem len40(s:Str):decide ((40:Int) < (s.length:Int))=decide (40 < s.length):=by rw[Bool.eq_iff_iff];simp;omega
theorem jBb(name:Str)(size many:Int)(h:name.length<=1048576):kNa name size many=some (Kba name size many):=by
 unfold kNa Kba;rw[Qna _ h];simp only[Option.bind_some];rw[jAb,len40,vKb,vKb,vKb];simp only[Option.bind_some,kha,k1a];by_cases h1:KUa name=false∨40 < name.length
 .rw[if_pos h1,decide_eq_true h1];rfl
 rw[if_neg h1,decide_eq_false h1];by_cases h2:size < 1∨12000 < size
 .rw[if_pos h2,decide_eq_true h2];rfl
 rw[if_neg h2,decide_eq_false h2];by_cases h3:many < 1∨60 < many
 .rw[if_pos h3,decide_eq_true h3];rfl
 rw[if_neg h3,decide_eq_false h3];rfl
theorem in_not(a b c:Int):(!(decide (b<=a) && decide (a<=c)))=decide (a < b∨c < a):=by
 rw[Bool.eq_iff_iff];simp only[Bool.not_eq_true',Bool.and_eq_false_iff,decide_eq_false_iff_not,decide_eq_true_eq];omega
theorem jCb(s:zha)(h:s.Name.length<=1048576):jga s=some (Kba s.Name s.Size s.Many):=by
 unfold jga Kba;rw[WRa _ h];simp only[Option.bind_some];rw[jAb,len40,vKb];simp only[Option.bind_some,vDa,KTa,in_not];by_cases h1:KUa s.Name=false∨40 < s.Name.length
 .rw[if_pos h1,decide_eq_true h1];rfl
 rw[if_neg h1,decide_eq_false h1];by_cases h2:s.Size < 1∨12000 < s.Size
 .rw[if_pos h2,decide_eq_true h2];rfl
 rw[if_neg h2,decide_eq_false h2];by_cases h3:s.Many < 1∨60 < s.Many
 .rw[if_pos h3,decide_eq_true h3];rfl
 rw[if_neg h3,decide_eq_false h3];rfl
theorem jDb(a b c:Bool):(bif a then some b else some c)=some (bif a then b else c):=by cases a <;> rfl
theorem jEb(a b:Bool):(bif a then b else false)=(a && b):=by cases a <;> rfl
theorem cnd_or(a b:Bool):(bif a then true else b)=(a || b):=by cases a <;> rfl
theorem vLb(a b:Bool):(bif a then false else b)=(!a && b):=by cases a <;> rfl
theorem Jya(a b c:Int):kLa a b c=some (decide (b<=a) && decide (a<=c)):=by
 unfold kLa;cases decide (b<=a) <;> rfl
def Vga(b:List UInt8):Bool:=decide (Lib.index b [13,10]≠ -1)
theorem qUb(b:List UInt8)(h:b.length<=1048576):vsa b [13,10]=some (Vga b):=by
 unfold vsa jUa Vga;rw[if_pos ⟨by omega,rfl⟩];simp only[Option.bind_some,Option.some.injEq];rw[Bool.eq_iff_iff];simp
def okB(s:zha):Bool:=
 !((s.From !=([]:Str) && !qja s.From) || decide (s.Many < (s.To.length:Int)) || (recF s.To).Code !=0) &&
 !((!s.Greeted && s.Mailing) || (!s.Mailing && (s.From !=([]:Str) || !s.To.isEmpty)) || (s.Chunked && s.To.isEmpty)) &&
 !(decide (s.Size < (s.Data.length:Int)) || decide (s.Lost < 0∨1099511627776 < s.Lost) || decide (s.Count < 0∨1000000 < s.Count)) &&
 !((decide (0 < (s.Data.length:Int)) || decide (0 < s.Lost)) && (!s.Chunked && s.Phase !=1)) &&
 (
  bif s.Phase==0 then decide ((s.Buffer.length:Int) < 4002) && (!Vga s.Buffer && (s.Dots==0 && (s.Left==0 && (!s.Last && !s.Ignore))))
  else bif s.Phase==1 then !s.To.isEmpty && (!s.Chunked && (s.Buffer.isEmpty && (decide (0<=s.Dots) && decide (s.Dots<=4) && (s.Left==0 && (!s.Last && !s.Ignore)))))
  else bif s.Phase==2 then (s.Ignore==s.To.isEmpty) && ((s.Ignore== !s.Chunked) && (s.Buffer.isEmpty && (s.Dots==0 && (decide (1<=s.Left) && decide (s.Left<=1000000)))))
  else bif s.Phase==3 then !s.Mailing && (s.Buffer.isEmpty && (s.Dots==0 && (s.Left==0 && (!s.Last && !s.Ignore)))) else false)
structure Ysa (s:zha):Prop where
 frm:s.From.length<=1048576
 tos:kab s.To
 buf:s.Buffer.length<=1048576
 data:s.Data.length<=1048576
 name:s.Name.length<=1048576
theorem jFb(l:List zca):decide ((0:Int) < (l.length:Int))= !l.isEmpty:=by cases l <;> simp
theorem vMb(l:List UInt8):decide ((0:Int) < (l.length:Int))= !l.isEmpty:=by cases l <;> simp
theorem Jza(l:List UInt8):((l.length:Int)==0)=l.isEmpty:=by cases l <;> simp;omega
theorem phase_eq(s:zha)(h:Ysa s):wRa s=some (bif s.Phase==0 then decide ((s.Buffer.length:Int) < 4002) && (!Vga s.Buffer && (s.Dots==0 && (s.Left==0 && (!s.Last && !s.Ignore))))
 else bif s.Phase==1 then !s.To.isEmpty && (!s.Chunked && (s.Buffer.isEmpty && (decide (0<=s.Dots) && decide (s.Dots<=4) && (s.Left==0 && (!s.Last && !s.Ignore)))))
 else bif s.Phase==2 then (s.Ignore==s.To.isEmpty) && ((s.Ignore== !s.Chunked) && (s.Buffer.isEmpty && (s.Dots==0 && (decide (1<=s.Left) && decide (s.Left<=1000000)))))
 else bif s.Phase==3 then !s.Mailing && (s.Buffer.isEmpty && (s.Dots==0 && (s.Left==0 && (!s.Last && !s.Ignore)))) else false):=by
 unfold wRa;rw[qUb _ h.buf];simp only[Option.bind_some,Jya,jFb,QAa,Jza,jDb,jEb,cnd_or,vLb]
theorem jGb(s:zha)(h:Ysa s):vYa s=some (okB s):=by
 have h1:=h.frm;unfold vYa okB;rw[qwa _ (by omega),Zja _ h.tos,phase_eq s h];simp only[Option.bind_some,Jya,z9a,jDb,jEb,cnd_or,vLb,jFb,QAa,Jza,vMb,in_not,Option.some.injEq];cases s.From !=([]:Str) <;> cases qja s.From <;> cases s.Greeted <;> cases s.Mailing <;> cases s.Chunked <;> cases s.To.isEmpty <;> cases s.Data.isEmpty <;> simp[Bool.and_assoc]
theorem recF_inv{l:List zca}(h:(recF l).Code=0):(∀r∈l,qja r.Address=true/\kWa r.Notify=true)/\(l.map (·.Address)).Nodup:=by
 have hz:zza (recQ l) 0 l=none:=by
  unfold recF at h;cases hf:zza (recQ l) 0 l with
  | none=>rfl
  | some f=>
   exfalso;rw[hf]at h;obtain ⟨i,x,hx,hq⟩:=j3a hf;unfold recQ at hq;split at hq
   .cases hq;simp at h
   split at hq
   .cases hq;simp at h
   split at hq
   .cases hq;simp at h
   cases hq
 rw[k4a]at hz;have key:∀(i:Nat) r,l[i]? =some r->qja r.Address=true/\kWa r.Notify=true/\(l.take i).any (fun x=>x.Address==r.Address)=false:=by
  intro i r hr;have:=hz i r hr;rw[Nat.zero_add]at this;unfold recQ at this;cases h1:qja r.Address with
  | false=>rw[h1]at this;simp at this
  | true=>
   cases h2:kWa r.Notify with
   | false=>rw[h1,h2]at this;simp at this
   | true=>
    cases h3:(l.take i).any (fun x=>x.Address==r.Address) with
    | true=>rw[h1,h2,h3]at this;simp at this
    | false=>exact ⟨rfl,rfl,rfl⟩
 refine ⟨fun r hr=>?_,?_⟩
 .obtain ⟨i,hi⟩:=List.getElem?_of_mem hr;exact ⟨(key i r hi).1,(key i r hi).2.1⟩
 rw[List.Nodup,List.pairwise_iff_getElem];intro i j hi hj hij;simp only[List.length_map]at hi hj;simp only[List.getElem_map];have h3:=(key j l[j] (List.getElem?_eq_getElem hj)).2.2;rw[List.any_eq_false]at h3;have:=h3 l[i] (List.mem_of_getElem? (i:=i) (by rw[List.getElem?_take_of_lt hij];exact List.getElem?_eq_getElem hi));simpa using this
theorem recF_of{l:List zca}(h:∀r∈l,qja r.Address=true/\kWa r.Notify=true)(hnd:(l.map (·.Address)).Nodup):recF l=⟨0,0⟩:=by
 unfold recF;have:zza (recQ l) 0 l=none:=by
  rw[k4a];intro i r hr;obtain ⟨ha,hn⟩:=h r (List.mem_of_getElem? hr);have hu:(l.take (0+i)).any (fun x=>x.Address==r.Address)=false:=by
   rw[Nat.zero_add,List.any_eq_false];intro y hy;obtain ⟨j,hj⟩:=List.getElem?_of_mem hy;have hji:j < i:=by have:=(List.getElem?_eq_some_iff.1 hj).1;simp at this;omega
   rw[List.getElem?_take_of_lt hji]at hj;intro hc;have hc:y.Address=r.Address:=by simpa using hc
   have hlt:=zIa hr;have hltj:=zIa hj;rw[List.Nodup,List.pairwise_iff_getElem]at hnd;refine hnd j i (by simpa using hltj) (by simpa using hlt) hji ?_;simp only[List.getElem_map];rw[(List.getElem?_eq_some_iff.1 hj).2,(List.getElem?_eq_some_iff.1 hr).2,hc]
  unfold recQ;rw[ha,hn,hu];rfl
 rw[this];rfl
def wGb:zha:=⟨[],0,0,0,false,false,[],[],[],[],0,0,false,0,false,false,0⟩
def srvF(s:zha):zta:=if (Kba s.Name s.Size s.Many).Code≠0 then Kba s.Name s.Size s.Many else if okB s=false then ⟨5, -23⟩ else ⟨0,0⟩
def Yta(s:zha)(b:List UInt8):zha × List zla × List zwa × zta:=
 if (srvF s).Code≠0 then (wGb,[],[],srvF s) else if 40000 < b.length then (wGb,[],[],⟨1, -1⟩) else ((v8a ⟨s,[],[]⟩ b).Server,(v8a ⟨s,[],[]⟩ b).replies,(v8a ⟨s,[],[]⟩ b).mails,⟨0,0⟩)
theorem kzb{n:Str}{a b:Int}(h:(Kba n a b).Code=0):Kba n a b=⟨0,0⟩/\n.length<=40/\KUa n=true/\(1<=a/\a<=12000)/\(1<=b/\b<=60):=by
 unfold Kba at h ⊢;by_cases h1:KUa n=false∨40 < n.length
 .rw[if_pos h1]at h;exact absurd h (by decide)
 rw[if_neg h1]at h ⊢;by_cases h2:a < 1∨12000 < a
 .rw[if_pos h2]at h;exact absurd h (by decide)
 rw[if_neg h2]at h ⊢;by_cases h3:b < 1∨60 < b
 .rw[if_pos h3]at h;exact absurd h (by decide)
 rw[if_neg h3];refine ⟨rfl,by omega,?_,by omega,by omega⟩;cases hn:KUa n with
 | true=>rfl
 | false=>exact absurd (.inl hn) h1
theorem vNb{s:zha}(h:(srvF s).Code=0):(Kba s.Name s.Size s.Many).Code=0/\okB s=true/\srvF s=⟨0,0⟩:=by
 unfold srvF at h ⊢;by_cases h1:(Kba s.Name s.Size s.Many).Code≠0
 .rw[if_pos h1]at h;exact absurd h h1
 rw[if_neg h1]at h ⊢;by_cases h2:okB s=false
 .rw[if_pos h2]at h;exact absurd h (by decide)
 rw[if_neg h2];exact ⟨Decidable.not_not.1 h1,by simpa using h2,rfl⟩
theorem vOb{s:zha}(h:(srvF s).Code=0):SI ⟨s,[],[]⟩ 0:=by
 obtain ⟨hc,ho,_⟩:=vNb h;obtain ⟨_,c1,c2,c3,c4⟩:=kzb hc;unfold okB at ho;simp only[Bool.and_eq_true]at ho;obtain ⟨⟨⟨⟨o1,o2⟩,o3⟩,o4⟩,o5⟩:=ho;simp only[Bool.not_eq_true',Bool.or_eq_false_iff,decide_eq_false_iff_not]at o1 o2 o3;obtain ⟨⟨f1,f2⟩,f3⟩:=o1;obtain ⟨⟨g1,g2⟩,g3⟩:=o2;obtain ⟨⟨d1,d2⟩,d3⟩:=o3;have hrec:(recF s.To).Code=0:=by simpa[bne]using f3
 refine ⟨c3,c4,c1,by show (s.Data.length:Int)<=s.Size;omega,?_,⟨by show s.To.length<=60;omega,(recF_inv hrec).1⟩,by show 0<=s.Lost/\s.Lost<=_;omega,by show 0<=s.Count/\s.Count<=_;omega,?_,?_,?_,Nat.le_refl _,Nat.le_refl _⟩
 .show s.Buffer.length<=4001;by_cases p0:s.Phase=0
  .rw[p0]at o5;simp at o5;omega
  have:s.Buffer.isEmpty=true:=by
   rw[beq_eq_false_iff_ne.2 p0]at o5;by_cases p1:s.Phase=1
   .rw[p1]at o5;simp at o5;simp[o5]
   by_cases p2:s.Phase=2
   .rw[p2]at o5;simp at o5;simp[o5]
   by_cases p3:s.Phase=3
   .rw[p3]at o5;simp at o5;simp[o5]
   rw[beq_eq_false_iff_ne.2 p1,beq_eq_false_iff_ne.2 p2,beq_eq_false_iff_ne.2 p3]at o5;cases o5
  rw[List.isEmpty_iff.1 this];simp
 .intro p2;have p2:s.Phase=2:=p2;rw[p2]at o5;simp at o5;show 1<=s.Left/\s.Left<=1000000;exact ⟨o5.2.2.2.2.1,o5.2.2.2.2.2⟩
 .intro e;have e:s.To=[]:=e;show s.Chunked=false;rw[e]at g3;simpa using g3
 intro p1;have p1:s.Phase≠1:=p1;show s.Dots=0;by_cases p0:s.Phase=0
 .rw[p0]at o5;simp at o5;exact o5.2.2.1
 rw[beq_eq_false_iff_ne.2 p0,beq_eq_false_iff_ne.2 p1]at o5;by_cases p2:s.Phase=2
 .rw[p2]at o5;simp at o5;exact o5.2.2.2.1
 by_cases p3:s.Phase=3
 .rw[p3]at o5;simp at o5;exact o5.2.2.1
 rw[beq_eq_false_iff_ne.2 p2,beq_eq_false_iff_ne.2 p3]at o5;cases o5
theorem zCb(s:zha)(b:List UInt8)(h:Ysa s)(hb:b.length<=1048576):q1a s b=some (Yta s b):=by
 unfold q1a Yta;rw[jBb _ _ _ h.name];simp only[Option.bind_some,z9a];by_cases hc:(Kba s.Name s.Size s.Many).Code=0
 .rw[hc,jGb s h];simp only[show ((0:Int) !=0)=false from rfl,cond_false,Option.bind_some];cases ho:okB s with
  | false=>
   have e:srvF s=⟨5, -23⟩:=by unfold srvF;rw[if_neg (by simp[hc]),if_pos ho]
   rw[e,if_pos (by decide)];rfl
  | true=>
   have e:srvF s=⟨0,0⟩:=by unfold srvF;rw[if_neg (by simp[hc]),if_neg (by simp[ho])]
   rw[e,if_neg (by decide)];simp only[Bool.not_true,cond_false];by_cases h4:40000 < b.length
   .rw[if_pos h4,decide_eq_true (by omega)];rfl
   rw[if_neg h4,decide_eq_false (by omega)];simp only[cond_false];have hsi:=vOb (s:=s) (by rw[e]);rw[Yna _ h.tos.1,Yoa _ h.buf,Yoa _ h.data];simp only[Option.bind_some];rw[show (⟨⟨s.Name,s.Size,s.Many,s.Phase,s.Greeted,s.Mailing,s.From,s.To,s.Buffer,s.Data,s.Lost,s.Dots,s.Chunked,s.Left,s.Last,s.Ignore,s.Count⟩,([]:List zla),([]:List zwa)⟩:Ses)=⟨s,[],[]⟩ from rfl,(Yra b (by omega) _ hsi).1];rfl
 have e:srvF s=Kba s.Name s.Size s.Many:=by unfold srvF;rw[if_pos hc]
 rw[e,if_pos hc,bne_iff_ne.2 hc];rfl
def newF(n:Str)(a b:Int):zha × zla × zta:=if (Kba n a b).Code≠0 then (wGb,⟨0,[]⟩,Kba n a b) else (⟨n,a,b,0,false,false,[],[],[],[],0,0,false,0,false,false,0⟩,⟨220,[n]⟩,⟨0,0⟩)
theorem New_eq(n:Str)(a b:Int)(h:n.length<=1048576):yna n a b=some (newF n a b)/\VAa n a b=some (newF n a b):=by
 unfold yna VAa newF;rw[jBb _ _ _ h,jCb _ h];simp only[Option.bind_some,z9a];by_cases hc:(Kba n a b).Code=0
 .obtain ⟨e,_⟩:=kzb hc;rw[if_neg (by simp[hc]),hc,e];exact ⟨rfl,rfl⟩
 rw[if_pos hc,bne_iff_ne.2 hc];exact ⟨rfl,rfl⟩
def exIn:List UInt8:=[104,101,108,108,111,32,99,13,10,109,97,105,108,32,60,115,64,120,62,13,10,114,99,112,116,32,60,97,64,121,62,13,10,100,97,116,97,13,10,13,10,46,46,13,10,46,13,10,110,111,111,112,13,10]
def exS:zha:=⟨[109,120],1000,10,0,false,false,[],[],[],[],0,0,false,0,false,false,0⟩
def exId:Str:=[109,120]++ [45]++Lib.decDigits 1
def kAb:Ses:=⟨⟨[109,120],1000,10,0,true,false,[],[],[],[],0,0,false,0,false,false,1⟩,
 [⟨250,[[109,120],sizeW' ++Lib.decDigits 1000,Yka++Lib.decDigits 10]⟩,⟨250,[okW]⟩,⟨250,[okW]⟩,⟨354,[[103,111,32,111,110]]⟩,⟨250,[exId]⟩,⟨250,[okW]⟩],
 [⟨⟨[115,64,120],[⟨[97,64,121],1⟩],exId⟩,⟨[],[46,13,10]⟩⟩]⟩
theorem ex_feed:v8a ⟨exS,[],[]⟩ exIn=kAb:=by kernel_rfl
theorem ex_small:Ysa exS:=⟨by decide,⟨by decide,fun r hr=>by cases hr⟩,by decide,by decide,by decide⟩
theorem exId_eq:exId=[109,120,45,49]:=by unfold exId;rw[kua (by decide)];rfl
theorem ex_srv:srvF exS=⟨0,0⟩:=by kernel_rfl
theorem ex_new:newF [109,120] 1000 10=(exS,⟨220,[[109,120]]⟩,⟨0,0⟩):=by kernel_rfl
theorem ex_bad:newF [] 1 1=(wGb,⟨0,[]⟩,⟨10, -20⟩):=by kernel_rfl
theorem ex_feedF:Yta exS exIn=(kAb.Server,kAb.replies,kAb.mails,⟨0,0⟩):=by
 unfold Yta;rw[ex_srv,if_neg (by decide),if_neg (by decide),ex_feed]
theorem jHb:jCa=some true:=by
 unfold jCa;rw[(New_eq [109,120] 1000 10 (by decide)).1,ex_new];simp only[Option.bind_some];rw[show ([(104:UInt8),(101:UInt8),(108:UInt8),(108:UInt8),(111:UInt8),(32:UInt8),(99:UInt8),(13:UInt8),(10:UInt8),(109:UInt8),(97:UInt8),(105:UInt8),(108:UInt8),(32:UInt8),(60:UInt8),(115:UInt8),(64:UInt8),(120:UInt8),(62:UInt8),(13:UInt8),(10:UInt8),(114:UInt8),(99:UInt8),(112:UInt8),(116:UInt8),(32:UInt8),(60:UInt8),(97:UInt8),(64:UInt8),(121:UInt8),(62:UInt8),(13:UInt8),(10:UInt8),(100:UInt8),(97:UInt8),(116:UInt8),(97:UInt8),(13:UInt8),(10:UInt8),(13:UInt8),(10:UInt8),(46:UInt8),(46:UInt8),(13:UInt8),(10:UInt8),(46:UInt8),(13:UInt8),(10:UInt8),(110:UInt8),(111:UInt8),(111:UInt8),(112:UInt8),(13:UInt8),(10:UInt8)]:List UInt8)=exIn from rfl,zCb exS exIn ex_small (by decide),ex_feedF,(New_eq [] 1 1 (by decide)).1,ex_bad];simp only[Option.bind_some,KTa];rw[show idx kAb.replies 3=some ⟨354,[[103,111,32,111,110]]⟩ from rfl,show idx kAb.replies 4=some ⟨250,[exId]⟩ from rfl,show idx kAb.replies 5=some ⟨250,[okW]⟩ from rfl,show idx kAb.mails 0=some ⟨⟨[115,64,120],[⟨[97,64,121],1⟩],exId⟩,⟨[],[46,13,10]⟩⟩ from rfl];simp only[Option.bind_some];rw[VCa _ _ (by simp),exId_eq];rfl
theorem qVb(s:zha)(h:s.To.length<=1048576):v0a s s=some true:=by
 unfold v0a;rw[KWa _ _ h];simp
theorem qWb(r:zla)(h:r.Lines.length<=1048576):yAa r r=some true:=by
 unfold yAa;rw[VCa _ _ (by omega)];simp
theorem kBb(l:List zla)(hl:l.length<=1048576)(h:∀r∈l,r.Lines.length<=1048576):v1a l l=some true:=by
 unfold v1a;rw[show (((l.length:Nat):Int) !=((l.length:Nat):Int))=false by simp];simp only[cond_false];rw[zEa l (fun _ _=>(none:Option Bool)) (.inl ()) .inr]
 .have:∀(l:List zla) (n:Nat),zza (fun _ _=>(none:Option Bool)) n l=none:=by
   intro l;induction l with
   | nil=>intro n;rfl
   | cons x l ih=>intro n;exact ih (n+1)
  rw[this];rfl
 .unfold vwa;rw[zHa];rfl
 intro i r hr;have hi:=zIa hr;unfold vwa;rw[kea hr,zAa hr];simp only[cond_true,Option.bind_some];rw[qWb r (h r (List.mem_of_getElem? hr))];simp only[Option.bind_some,Bool.not_true,cond_false];rw[sc i (by omega)];rfl
theorem jIb{s:zha}(h:zha.bk s<=1048576):Ysa s:=by
 unfold zha.bk at h;dsimp only at h;have h1:=WQa (bk:=fun _:UInt8=>1) (fun x=>by simp) s.Buffer;have h2:=WQa (bk:=fun _:UInt8=>1) (fun x=>by simp) s.Data;exact ⟨by omega,yTb (by omega),by omega,by omega,by omega⟩
def Out(x:Ses):Prop:=(∀r∈x.replies,r.Lines.length<=3)/\∀m∈x.mails,m.Envelope.To.length<=60/\m.Message.Fields.length<=60
theorem kBa{x:Ses}(h:Out x){code:Int}{l:List Str}(hl:l.length<=3):Out (sayS x code l):=by
 refine ⟨fun r hr=>?_,h.2⟩;rcases List.mem_append.1 hr with hr | hr
 .exact h.1 r hr
 rw[List.mem_singleton]at hr;subst hr;exact hl
theorem kCb(b:List UInt8):(jka b).1.Fields.length<=60:=by
 unfold jka;split
 .simp[zeroM]
 split
 .show ((w0a b).2.map vKa).length<=60;rw[List.length_map];omega
 simp[zeroM]
theorem kDb{x:Ses}(h:Out x)(h60:x.Server.To.length<=60):Out (ZMa x):=by
 unfold ZMa;show Out (if 0 < x.Server.Lost then _ else _);split
 .exact kBa h (by decide)
 split
 .exact kBa h (by decide)
 have key:Out ⟨{x.Server with Count:=x.Server.Count+1},x.replies,x.mails++ [⟨⟨x.Server.From,x.Server.To,idS x.Server⟩,(jka x.Server.Data).1⟩]⟩:=⟨h.1,fun m hm=>by
  rcases List.mem_append.1 hm with hm | hm
  .exact h.2 m hm
  rw[List.mem_singleton]at hm;subst hm;exact ⟨h60,kCb _⟩⟩
 exact kBa key (show (1:Nat)<=3 by omega)
theorem JAa{x:Ses}(h:Out x)(h60:x.Server.To.length<=60):Out (wUa x):=by
 unfold wUa;cases x.Server.Ignore with
 | true=>exact kBa (x:=⟨{x.Server with Phase:=0,Last:=false,Ignore:=false},x.replies,x.mails⟩) h (by decide)
 | false=>
  cases x.Server.Last with
  | true=>exact kDb (x:=⟨{x.Server with Phase:=0,Last:=false,Ignore:=false},x.replies,x.mails⟩) h h60
  | false=>exact kBa (x:=⟨{x.Server with Phase:=0,Last:=false,Ignore:=false},x.replies,x.mails⟩) h (by decide)
theorem jJb{x:Ses}(h:Out x)(h60:x.Server.To.length<=60)(c:zka):Out (K2a x c):=by
 unfold K2a;split
 .exact kBa (x:=⟨{(abS x).Server with Greeted:=true},x.replies,x.mails⟩) h (by simp)
 split
 .cases !x.Server.Greeted || x.Server.Mailing with
  | true=>exact kBa h (by decide)
  | false=>
   simp only[cond_false];split
   .exact kBa h (by decide)
   exact kBa (x:=⟨{x.Server with Mailing:=true,From:=c.Address},x.replies,x.mails⟩) h (by decide)
 split
 .unfold V0a;cases !x.Server.Mailing || x.Server.Chunked with
  | true=>exact kBa h (by decide)
  | false=>
   simp only[cond_false];split
   .exact kBa h (by decide)
   exact kBa (x:=⟨{x.Server with To:=addR x c},x.replies,x.mails⟩) h (by decide)
 split
 .cases x.Server.To.isEmpty || x.Server.Chunked with
  | true=>exact kBa h (by decide)
  | false=>exact kBa (x:=⟨{x.Server with Phase:=1},x.replies,x.mails⟩) h (by decide)
 split
 .split
  .exact JAa (x:=⟨{x.Server with Phase:=2,Left:=c.Size,Last:=c.Last,Ignore:=x.Server.To.isEmpty,Chunked:= !x.Server.To.isEmpty},x.replies,x.mails⟩) h h60
  exact h
 split
 .exact kBa (x:=abS x) h (by decide)
 split
 .exact kBa (x:=⟨{(abS x).Server with Phase:=3,Buffer:=[]},x.replies,x.mails⟩) h (by decide)
 exact kBa h (by decide)
theorem QBa{x:Ses}(h:Out x)(c:UInt8):Out (kwa x c)/\(kwa x c).Server.To=x.Server.To:=by
 unfold kwa;split <;> exact ⟨h,rfl⟩
theorem jKb{x:Ses}(h:Out x)(h60:x.Server.To.length<=60)(c:UInt8):Out (yMa x c):=by
 unfold yMa;split
 .unfold Yla;split
  .dsimp only;split
   .exact kBa (x:=bufS x []) h (by decide)
   split
   .exact jJb (x:=bufS x []) h h60 _
   exact kBa (x:=bufS x []) h (by decide)
  split
  .exact kBa (x:=⟨{(abS x).Server with Phase:=3,Buffer:=[]},x.replies,x.mails⟩) h (by decide)
  exact h
 split
 .unfold Yma;split
  .exact h
  split
  .exact h
  split
  .exact kDb (x:=⟨{x.Server with Phase:=0,Dots:=0},x.replies,x.mails⟩) h h60
  split
  .exact (QBa (QBa h 13).1 c).1
  exact (QBa h c).1
 split
 .have hy:Out (bif x.Server.Ignore then x else kwa x c)/\(bif x.Server.Ignore then x else kwa x c).Server.To=x.Server.To:=by
   cases x.Server.Ignore with
   | true=>exact ⟨h,rfl⟩
   | false=>exact QBa h c
  generalize (bif x.Server.Ignore then x else kwa x c)=y at hy;dsimp only;split
  .exact JAa (x:=⟨{y.Server with Left:=y.Server.Left - 1},y.replies,y.mails⟩) hy.1 (by show y.Server.To.length<=60;rw[hy.2];exact h60)
  exact hy.1
 exact h
theorem kEb:∀(b:List UInt8) (x:Ses) (n:Nat),SI x n->Out x->Out (v8a x b)
 | [],x,n,_,h=>h
 | c::b,x,n,hs,h=>kEb b (yMa x c) (n+1) (Wla hs c) (jKb h hs.tos.1 c)
theorem out0(s:zha):Out ⟨s,[],[]⟩:=⟨fun r hr=>(by cases hr),fun m hm=>(by cases hm)⟩
structure VS (s:zha):Prop where
 frm:s.From=[]∨qja s.From=true
 len:(s.To.length:Int)<=s.Many
 tos:(recF s.To).Code=0
 greet:s.Mailing=true->s.Greeted=true
 quiet:s.Mailing=false->s.From=[]/\s.To=[]
 chunk:s.Chunked=true->s.To≠ []
 data:(s.Data.length:Int)<=s.Size
 lost:0<=s.Lost/\s.Lost<=1099511627776
 count:0<=s.Count/\s.Count<=1000000
 dat:s.Chunked=false->s.Phase≠1->s.Data=[]/\s.Lost=0
 p0:s.Phase=0->s.Buffer.length<=4001/\Vga s.Buffer=false/\s.Dots=0/\s.Left=0/\s.Last=false/\s.Ignore=false
 p1:s.Phase=1->s.To≠ []/\s.Chunked=false/\s.Buffer=[]/\(0<=s.Dots/\s.Dots<=4)/\s.Left=0/\s.Last=false/\s.Ignore=false
 p2:s.Phase=2->s.Ignore=s.To.isEmpty/\s.Ignore= !s.Chunked/\s.Buffer=[]/\s.Dots=0/\(1<=s.Left/\s.Left<=1000000)
 p3:s.Phase=3->s.Mailing=false/\s.Buffer=[]/\s.Dots=0/\s.Left=0/\s.Last=false/\s.Ignore=false
 ph:s.Phase=0∨s.Phase=1∨s.Phase=2∨s.Phase=3
theorem kFb(s:zha):okB s=true↔(¬((s.From≠ []/\qja s.From=false)∨s.Many < (s.To.length:Int)∨(recF s.To).Code≠0)/\
 ¬((s.Greeted=false/\s.Mailing=true)∨(s.Mailing=false/\(s.From≠ []∨s.To≠ []))∨(s.Chunked=true/\s.To=[]))/\
 ¬(s.Size < (s.Data.length:Int)∨(s.Lost < 0∨1099511627776 < s.Lost)∨(s.Count < 0∨1000000 < s.Count))/\
 ¬((s.Data≠ []∨0 < s.Lost)/\s.Chunked=false/\s.Phase≠1)/\
 (
  s.Phase=0/\s.Buffer.length<=4001/\Vga s.Buffer=false/\s.Dots=0/\s.Left=0/\s.Last=false/\s.Ignore=false∨
  s.Phase=1/\s.To≠ []/\s.Chunked=false/\s.Buffer=[]/\(0<=s.Dots/\s.Dots<=4)/\s.Left=0/\s.Last=false/\s.Ignore=false∨
  s.Phase=2/\s.Ignore=s.To.isEmpty/\s.Ignore= !s.Chunked/\s.Buffer=[]/\s.Dots=0/\(1<=s.Left/\s.Left<=1000000)∨
  s.Phase=3/\s.Mailing=false/\s.Buffer=[]/\s.Dots=0/\s.Left=0/\s.Last=false/\s.Ignore=false)):=by
 unfold okB;have eb:decide ((s.Buffer.length:Int) < 4002)=decide (s.Buffer.length<=4001):=by rw[Bool.eq_iff_iff];simp only[decide_eq_true_eq];omega
 have ed:decide ((0:Int) < (s.Data.length:Int))= !s.Data.isEmpty:=vMb _;rw[eb,ed];by_cases p0:s.Phase=0
 .simp[p0,List.isEmpty_iff,bne]
  grind
 by_cases p1:s.Phase=1
 .simp[p1,List.isEmpty_iff,bne]
  grind
 by_cases p2:s.Phase=2
 .simp[p2,List.isEmpty_iff,bne]
  grind
 by_cases p3:s.Phase=3
 .simp[p3,List.isEmpty_iff,bne]
  grind
 simp[p0,p1,p2,p3]
theorem vs_of_ok{s:zha}(h:okB s=true):VS s:=by
 obtain ⟨a,b,c,d,e⟩:=(kFb s).1 h;have hl:0<=s.Lost:=by omega
 refine ⟨?_,by omega,Decidable.byContradiction fun x=>a (.inr (.inr x)),fun hm=>?_,fun hm=>?_,fun hc ht=>b (.inr (.inr ⟨hc,ht⟩)),by omega,by omega,by omega,fun hc hp=>?_,fun hp=>?_,fun hp=>?_,fun hp=>?_,fun hp=>?_,by omega⟩
 .by_cases hf:s.From=[]
  .exact .inl hf
  cases ha:qja s.From with
  | true=>exact .inr rfl
  | false=>exact absurd (.inl ⟨hf,ha⟩) a
 .cases hg:s.Greeted with
  | true=>rfl
  | false=>exact absurd (.inl ⟨hg,hm⟩) b
 .constructor
  .by_cases hf:s.From=[]
   .exact hf
   exact absurd (.inr (.inl ⟨hm,.inl hf⟩)) b
  by_cases hf:s.To=[]
  .exact hf
  exact absurd (.inr (.inl ⟨hm,.inr hf⟩)) b
 .constructor
  .by_cases hf:s.Data=[]
   .exact hf
   exact absurd ⟨.inl hf,hc,hp⟩ d
  by_cases hf:0 < s.Lost
  .exact absurd ⟨.inr hf,hc,hp⟩ d
  omega
 .rcases e with e | e | e | e
  .exact e.2
  .omega
  .omega
  omega
 .rcases e with e | e | e | e
  .omega
  .exact e.2
  .omega
  omega
 .rcases e with e | e | e | e
  .omega
  .omega
  .exact e.2
  omega
 rcases e with e | e | e | e
 .omega
 .omega
 .omega
 exact e.2
theorem ok_of_vs{s:zha}(h:VS s):okB s=true:=by
 refine (kFb s).2 ⟨?_,?_,?_,?_,?_⟩
 .rintro (⟨x,y⟩ | x | x)
  .rcases h.frm with z | z
   .exact x z
   rw[y]at z;cases z
  .have:=h.len;omega
  exact x h.tos
 .rintro (⟨x,y⟩ | ⟨x,y⟩ | ⟨x,y⟩)
  .rw[h.greet y]at x;cases x
  .obtain ⟨z1,z2⟩:=h.quiet x;exact y.elim (fun f=>f z1) (fun f=>f z2)
  exact h.chunk x y
 .have h1:=h.data;have h2:=h.lost;have h3:=h.count;omega
 .rintro ⟨x,y,z⟩;obtain ⟨q1,q2⟩:=h.dat y z;rcases x with x | x
  .exact x q1
  omega
 rcases h.ph with p | p | p | p
 .exact .inl ⟨p,h.p0 p⟩
 .exact .inr (.inl ⟨p,h.p1 p⟩)
 .exact .inr (.inr (.inl ⟨p,h.p2 p⟩))
 exact .inr (.inr (.inr ⟨p,h.p3 p⟩))
theorem Yua:∀(n:Nat) (l:List zca),(∀r∈waa n l,∃q∈l,q.Address=r.Address)/\((waa n l).map (·.Address)).Nodup
 | 0,l=>by simp[waa]
 | n+1,[]=>by simp[waa]
 | n+1,r::t=>by
  obtain ⟨h1,h2⟩:=Yua n (t.filter fun x=> !z3a r.Address x);unfold waa;refine ⟨fun x hx=>?_,?_⟩
  .rcases List.mem_cons.1 hx with rfl | hx
   .exact ⟨r,by simp,rfl⟩
   obtain ⟨q,hq,e⟩:=h1 x hx;exact ⟨q,by simp[(List.mem_filter.1 hq).1],e⟩
  rw[List.map_cons,List.nodup_cons];refine ⟨fun hm=>?_,h2⟩;obtain ⟨x,hx,e⟩:=List.mem_map.1 hm;obtain ⟨q,hq,e2⟩:=h1 x hx;have:=(List.mem_filter.1 hq).2;unfold z3a at this;simp at this;exact this (e2.trans e)
theorem wHb{l:List zca}(h:∀r∈l,qja r.Address=true/\kWa r.Notify=true):(recF (vJa l)).Code=0:=by
 rw[recF_of (VLa h).2 (Yua l.length l).2]
theorem Yva(x:UInt8)(l:List UInt8):Vga (x::l)=([13,10].isPrefixOf (x::l) || Vga l):=by
 have hge:=Lib.index_ge l [13,10];unfold Vga;rw[Lib.index];cases hp: [13,10].isPrefixOf (x::l) with
 | true=>rfl
 | false=>
  simp only[Bool.false_eq_true,if_false,Bool.false_or];by_cases hi:Lib.index l [13,10]= -1
  .rw[hi];rfl
  rw[if_neg (by simpa using hi),decide_eq_true (by omega),decide_eq_true hi]
theorem kGb(c:UInt8):∀b:List UInt8,Vga (b++ [c])=(Vga b || [13,10].isSuffixOf (b++ [c]))
 | []=>by
  have h1:([13,10]:List UInt8).isSuffixOf ([]++ [c])=false:=by
   rw[Bool.eq_false_iff];intro h;have:=(List.isSuffixOf_iff_suffix.1 h).length_le;simp at this
  rw[h1,List.nil_append,Yva];have h2:([13,10]:List UInt8).isPrefixOf [c]=false:=by simp[List.isPrefixOf]
  rw[h2];rfl
 | x::b=>by
  have ih:=kGb c b;rw[List.cons_append,Yva,Yva,ih];cases b with
  | nil=>
   have e1:([13,10]:List UInt8).isPrefixOf (x::([]++ [c]))=([13,10]:List UInt8).isSuffixOf (x::([]++ [c])):=by
    rw[show x::([]++ [c])=[x]++ [c] from rfl,Wja];have a1:((13:UInt8)==x)=(x==13):=by rw[Bool.eq_iff_iff,beq_iff_eq,beq_iff_eq];exact eq_comm
    have a2:((10:UInt8)==c)=(c==10):=by rw[Bool.eq_iff_iff,beq_iff_eq,beq_iff_eq];exact eq_comm
    show ((13==x) && ((10==c) && true))=(true && ((x==13) && (c==10)));rw[a1,a2];simp
   have e2:([13,10]:List UInt8).isSuffixOf ([]++ [c])=false:=by
    rw[Bool.eq_false_iff];intro h;have:=(List.isSuffixOf_iff_suffix.1 h).length_le;simp at this
   have e3:([13,10]:List UInt8).isPrefixOf [x]=false:=by simp[List.isPrefixOf]
   rw[e1,e2,e3];cases ([13,10]:List UInt8).isSuffixOf (x::([]++ [c])) <;> rfl
  | cons y b=>
   have e1:([13,10]:List UInt8).isPrefixOf (x::(y::b++ [c]))=([13,10]:List UInt8).isPrefixOf (x::y::b):=by simp[List.isPrefixOf]
   have e2:([13,10]:List UInt8).isSuffixOf (x::(y::b++ [c]))=([13,10]:List UInt8).isSuffixOf (y::b++ [c]):=by
    rw[show x::(y::b++ [c])=(x::y::b)++ [c] from rfl,Wja,Wja]
    congr 1
    .simp
    congr 2
    simp
   rw[e1,e2,Bool.or_assoc]
def P0(s:zha):Prop:=s.Buffer.length<=4001/\Vga s.Buffer=false/\s.Dots=0/\s.Left=0/\s.Last=false/\s.Ignore=false
theorem jLb{x:Ses}(hm:0<=x.Server.Many)(hs:0<=x.Server.Size)(hc:0<=x.Server.Count/\x.Server.Count<=1000000)(hp:x.Server.Phase=0)(h0:P0 x.Server):VS (abS x).Server where
 frm:=.inl rfl
 len:=hm
 tos:=rfl
 greet:=fun h=>by cases h
 quiet:=fun _=>⟨rfl,rfl⟩
 chunk:=fun h=>by cases h
 data:=hs
 lost:=⟨by show (0:Int)<=0;omega,by show (0:Int)<=_;omega⟩
 count:=hc
 dat:=fun _ _=>⟨rfl,rfl⟩
 p0:=fun _=>h0
 p1:=fun h=>absurd (hp.symm.trans h) (by decide)
 p2:=fun h=>absurd (hp.symm.trans h) (by decide)
 p3:=fun h=>absurd (hp.symm.trans h) (by decide)
 ph:=.inl hp
theorem jMb{x:Ses}(hm:0<=x.Server.Many)(hs:0<=x.Server.Size)(hc:0<=x.Server.Count/\x.Server.Count<=1000000)(hp:x.Server.Phase=0)(h0:P0 x.Server):VS (ZMa x).Server:=by
 unfold ZMa;split
 .exact jLb (x:=sayS x 552 [kvb]) hm hs hc hp h0
 split
 .exact jLb (x:=sayS x 554 [zyb]) hm hs hc hp h0
 rename_i hr;have:x.Server.Count≠1000000:=fun e=>hr (.inr e)
 exact jLb (x:=sayS ⟨{x.Server with Count:=x.Server.Count+1},_,_⟩ 250 [idS x.Server]) hm hs ⟨by show 0<=x.Server.Count+1;omega,by show x.Server.Count+1<=_;omega⟩ hp h0
theorem jNb{s:zha}(hb:s.Buffer=[])(hd:s.Dots=0)(hl:s.Left=0)(h1:s.Last=false)(h2:s.Ignore=false):P0 s:=by
 refine ⟨by rw[hb];simp,by rw[hb];rfl,hd,hl,h1,h2⟩
theorem vPb{y:zha}(h:VS y)(hm:0<=y.Many)(hs:0<=y.Size)(hp:y.Phase=2)(r:List zla)(m:List zwa):VS (wUa ⟨{y with Left:=0},r,m⟩).Server:=by
 obtain ⟨q1,q2,q3,q4,q5⟩:=h.p2 hp;have key:VS {y with Left:=0,Phase:=0,Last:=false,Ignore:=false}:=by
  obtain ⟨a1,a2,a3,a4,a5,a6,a7,a8,a9,a10,a11,a12,a13,a14,a15⟩:=h;exact ⟨a1,a2,a3,a4,a5,a6,a7,a8,a9,fun hc _=>a10 hc (by rw[hp];decide),fun _=>jNb q3 q4 rfl rfl rfl,fun e=>absurd (show (0:Int)=1 from e) (by decide),fun e=>absurd (show (0:Int)=2 from e) (by decide),fun e=>absurd (show (0:Int)=3 from e) (by decide),.inl rfl⟩
 unfold wUa;dsimp only;cases y.Ignore with
 | true=>exact key
 | false=>
  cases y.Last with
  | true=>exact jMb (x:=⟨{y with Left:=0,Phase:=0,Last:=false,Ignore:=false},r,m⟩) hm hs h.count rfl (jNb q3 q4 rfl rfl rfl)
  | false=>exact key
theorem exec_vs{x:Ses}(h:VS x.Server)(hm:1<=x.Server.Many)(hs:1<=x.Server.Size)(hp:x.Server.Phase=0)(hb:x.Server.Buffer=[])(hrec:∀r∈x.Server.To,qja r.Address=true/\kWa r.Notify=true){c:zka}(ok:YPa c):VS (K2a x c).Server:=by
 have h0:P0 x.Server:=h.p0 hp;have hv:=ok.verb;have hsz:=ok.size;obtain ⟨b1,b2,hd,hl,hla,hig⟩:=h0;have ha:=jLb (x:=x) (by omega) (by omega) h.count hp ⟨b1,b2,hd,hl,hla,hig⟩;have e1:∀{k:Int},x.Server.Phase=k->k=0:=fun e=>e.symm.trans hp
 unfold K2a;by_cases h1:c.Verb=1
 .rw[if_pos h1];obtain ⟨a1,a2,a3,a4,a5,a6,a7,a8,a9,a10,a11,a12,a13,a14,a15⟩:=ha;exact ⟨a1,a2,a3,fun _=>rfl,a5,a6,a7,a8,a9,a10,a11,a12,a13,a14,a15⟩
 rw[if_neg h1];by_cases h2:c.Verb=2
 .rw[if_pos h2];cases hg: !x.Server.Greeted || x.Server.Mailing with
  | true=>exact h
  | false=>
   simp only[cond_false];split
   .exact h
   have hgr:x.Server.Greeted=true:=by
    cases hx:x.Server.Greeted with
    | true=>rfl
    | false=>rw[hx]at hg;cases hg
   obtain ⟨a1,a2,a3,a4,a5,a6,a7,a8,a9,a10,a11,a12,a13,a14,a15⟩:=h;refine ⟨?_,a2,a3,fun _=>hgr,fun e=>(by cases e),a6,a7,a8,a9,a10,a11,a12,a13,fun e=>absurd (e1 e) (by decide),a15⟩;by_cases hn:c.Address=[]
   .exact .inl hn
   exact .inr (ok.addr (.inr ⟨h2,hn⟩))
 rw[if_neg h2];by_cases h3:c.Verb=3
 .rw[if_pos h3];unfold V0a;cases hg: !x.Server.Mailing || x.Server.Chunked with
  | true=>exact h
  | false=>
   simp only[cond_false];split
   .exact h
   rename_i hmany;have hmail:x.Server.Mailing=true:=by
    cases hx:x.Server.Mailing with
    | true=>rfl
    | false=>rw[hx]at hg;cases hg
   have hch:x.Server.Chunked=false:=by
    cases hx:x.Server.Chunked with
    | false=>rfl
    | true=>rw[hx]at hg;simp at hg
   have hl2:∀r∈x.Server.To++ [(⟨c.Address,c.Notify⟩:zca)],qja r.Address=true/\kWa r.Notify=true:=by
    intro r hr;rcases List.mem_append.1 hr with hr | hr
    .exact hrec r hr
    rw[List.mem_singleton]at hr;subst hr;refine ⟨ok.addr (.inl h3),?_⟩;have:=ok.note;show kWa c.Notify=true;unfold kWa;rw[decide_eq_true this.1,decide_eq_true this.2];rfl
   obtain ⟨a1,a2,a3,a4,a5,a6,a7,a8,a9,a10,a11,a12,a13,a14,a15⟩:=h;exact ⟨a1,by show ((addR x c).length:Int)<=x.Server.Many;omega,wHb hl2,a4,fun e=>absurd (hmail.symm.trans e) (by decide),fun e=>absurd (hch.symm.trans e) (by decide),a7,a8,a9,a10,a11,fun e=>absurd (e1 e) (by decide),fun e=>absurd (e1 e) (by decide),fun e=>absurd (e1 e) (by decide),a15⟩
 rw[if_neg h3];by_cases h4:c.Verb=4
 .rw[if_pos h4];cases hg:x.Server.To.isEmpty || x.Server.Chunked with
  | true=>exact h
  | false=>
   have hne:x.Server.To≠ []:=by
    intro e;rw[e]at hg;cases hg
   have hch:x.Server.Chunked=false:=by
    cases hx:x.Server.Chunked with
    | false=>rfl
    | true=>rw[hx]at hg;simp at hg
   obtain ⟨a1,a2,a3,a4,a5,a6,a7,a8,a9,a10,a11,a12,a13,a14,a15⟩:=h;exact ⟨a1,a2,a3,a4,a5,a6,a7,a8,a9,fun _ e=>absurd rfl e,fun e=>absurd (show (1:Int)=0 from e) (by decide),fun _=>⟨hne,hch,hb,⟨by show 0<=x.Server.Dots;omega,by show x.Server.Dots<=4;omega⟩,hl,hla,hig⟩,fun e=>absurd (show (1:Int)=2 from e) (by decide),fun e=>absurd (show (1:Int)=3 from e) (by decide),.inr (.inl rfl)⟩
 rw[if_neg h4];by_cases h5:c.Verb=5
 .rw[if_pos h5];have key:∀k:Int,1<=k->k<=1000000->VS {x.Server with Phase:=2,Left:=k,Last:=c.Last,Ignore:=x.Server.To.isEmpty,Chunked:= !x.Server.To.isEmpty}:=by
   intro k hk1 hk2;obtain ⟨a1,a2,a3,a4,a5,a6,a7,a8,a9,a10,a11,a12,a13,a14,a15⟩:=h;refine ⟨a1,a2,a3,a4,a5,fun e ht=>?_,a7,a8,a9,fun hc _=>?_,fun e=>absurd (show (2:Int)=0 from e) (by decide),fun e=>absurd (show (2:Int)=1 from e) (by decide),fun _=>⟨rfl,by show x.Server.To.isEmpty= !(!x.Server.To.isEmpty);simp,hb,hd,hk1,hk2⟩,fun e=>absurd (show (2:Int)=3 from e) (by decide),.inr (.inr (.inl rfl))⟩
   .have e:(!x.Server.To.isEmpty)=true:=e;have ht:x.Server.To=[]:=ht;rw[ht]at e;cases e
   have hc:(!x.Server.To.isEmpty)=false:=hc;have ht:x.Server.To=[]:=List.isEmpty_iff.1 (by simpa using hc);refine a10 ?_ (by rw[hp];decide);cases hx:x.Server.Chunked with
   | false=>rfl
   | true=>exact absurd ht (a6 hx)
  by_cases hz:c.Size=0
  .rw[if_pos hz,hz];exact vPb (y:={x.Server with Phase:=2,Left:=1,Last:=c.Last,Ignore:=x.Server.To.isEmpty,Chunked:= !x.Server.To.isEmpty}) (key 1 (by omega) (by omega)) (by show 0<=x.Server.Many;omega) (by show 0<=x.Server.Size;omega) rfl _ _
  rw[if_neg hz];exact key c.Size (by omega) hsz.2
 rw[if_neg h5];by_cases h6:c.Verb=6
 .rw[if_pos h6];exact ha
 rw[if_neg h6];by_cases h8:c.Verb=8
 .rw[if_pos h8];obtain ⟨a1,a2,a3,a4,a5,a6,a7,a8,a9,a10,a11,a12,a13,a14,a15⟩:=ha;exact ⟨a1,a2,a3,a4,a5,a6,a7,a8,a9,fun _ _=>⟨rfl,rfl⟩,fun e=>absurd (show (3:Int)=0 from e) (by decide),fun e=>absurd (show (3:Int)=1 from e) (by decide),fun e=>absurd (show (3:Int)=2 from e) (by decide),fun _=>⟨rfl,rfl,hd,hl,hla,hig⟩,.inr (.inr (.inr rfl))⟩
 rw[if_neg h8];exact h
theorem buf_vs{x:Ses}(h:VS x.Server)(hp:x.Server.Phase=0){b:List UInt8}(hb:b.length<=4001)(hc:Vga b=false):VS (bufS x b).Server:=by
 have e1:∀{k:Int},x.Server.Phase=k->k=0:=fun e=>e.symm.trans hp
 obtain ⟨b1,b2,hd,hl,hla,hig⟩:=h.p0 hp;obtain ⟨a1,a2,a3,a4,a5,a6,a7,a8,a9,a10,a11,a12,a13,a14,a15⟩:=h;exact ⟨a1,a2,a3,a4,a5,a6,a7,a8,a9,a10,fun _=>⟨hb,hc,hd,hl,hla,hig⟩,fun e=>absurd (e1 e) (by decide),fun e=>absurd (e1 e) (by decide),fun e=>absurd (e1 e) (by decide),a15⟩
theorem line_vs{x:Ses}{n:Nat}(hsi:SI x n)(h:VS x.Server)(hp:x.Server.Phase=0)(c:UInt8):VS (Yla x c).Server:=by
 have hlen:(x.Server.Buffer++ [c]).length=x.Server.Buffer.length+1:=by simp
 have hb:=hsi.buf;have h0:P0 x.Server:=h.p0 hp;have hbuf:=buf_vs h hp (b:=[]) (by simp) rfl;unfold Yla;split
 .generalize hR:ZLa ((x.Server.Buffer++ [c]).take ((x.Server.Buffer++ [c]).length - 2))=r;dsimp only;split
  .exact hbuf
  split
  .rename_i hz;exact exec_vs (x:=bufS x []) hbuf hsi.many.1 hsi.size.1 hp rfl hsi.tos.2 (by rw[<-hR]at hz ⊢;exact zAb hz)
  exact hbuf
 rename_i hs;split
 .have ha:=jLb (x:=x) (by have:=hsi.many;omega) (by have:=hsi.size;omega) h.count hp h0;obtain ⟨b1,b2,hd,hl,hla,hig⟩:=h0;obtain ⟨a1,a2,a3,a4,a5,a6,a7,a8,a9,a10,a11,a12,a13,a14,a15⟩:=ha;exact ⟨a1,a2,a3,a4,a5,a6,a7,a8,a9,fun _ _=>⟨rfl,rfl⟩,fun e=>absurd (show (3:Int)=0 from e) (by decide),fun e=>absurd (show (3:Int)=1 from e) (by decide),fun e=>absurd (show (3:Int)=2 from e) (by decide),fun _=>⟨rfl,rfl,hd,hl,hla,hig⟩,.inr (.inr (.inr rfl))⟩
 rename_i h4;refine buf_vs h hp (by omega) ?_;rw[kGb,(h.p0 hp).2.1,Bool.false_or];exact Bool.eq_false_iff.2 hs
theorem zDb{x:Ses}(h:VS x.Server)(hs:1<=x.Server.Size)(hp:x.Server.Phase=1∨x.Server.Chunked=true)(c:UInt8):VS (kwa x c).Server:=by
 unfold kwa;obtain ⟨a1,a2,a3,a4,a5,a6,a7,a8,a9,a10,a11,a12,a13,a14,a15⟩:=h;have no:x.Server.Chunked=false->x.Server.Phase≠1->False:=fun e1 e2=>hp.elim e2 fun e=>by rw[e]at e1;cases e1
 split
 .rename_i hlt;exact ⟨a1,a2,a3,a4,a5,a6,by show ((x.Server.Data++ [c]).length:Int)<=_;simp;omega,a8,a9,fun e1 e2=>(no e1 e2).elim,a11,a12,a13,a14,a15⟩
 exact ⟨a1,a2,a3,a4,a5,a6,a7,⟨by show 0<=min _ _;omega,by show min _ _<=_;omega⟩,a9,fun e1 e2=>(no e1 e2).elim,a11,a12,a13,a14,a15⟩
theorem zEb{x:Ses}(h:VS x.Server)(hp:x.Server.Phase=1){d:Int}(hd:0<=d/\d<=4):VS (YRa x d).Server:=by
 have e1:∀{k:Int},x.Server.Phase=k->k=1:=fun e=>e.symm.trans hp
 obtain ⟨a1,a2,a3,a4,a5,a6,a7,a8,a9,a10,a11,a12,a13,a14,a15⟩:=h;obtain ⟨q1,q2,q3,q4,q5⟩:=a12 hp;exact ⟨a1,a2,a3,a4,a5,a6,a7,a8,a9,a10,fun e=>absurd (e1 e) (by decide),fun _=>⟨q1,q2,q3,hd,q5⟩,fun e=>absurd (e1 e) (by decide),fun e=>absurd (e1 e) (by decide),a15⟩
theorem jOb(x:Ses)(c:UInt8):(kwa x c).Server.Size=x.Server.Size/\(kwa x c).Server.Chunked=x.Server.Chunked:=by unfold kwa;split <;> exact ⟨rfl,rfl⟩
theorem data_vs{x:Ses}{n:Nat}(hsi:SI x n)(h:VS x.Server)(hp:x.Server.Phase=1)(c:UInt8):VS (Yma x c).Server:=by
 have hs:=hsi.size;have hm:=hsi.many;unfold Yma;split
 .exact zEb h hp (by omega)
 split
 .exact zEb h hp (by omega)
 split
 .obtain ⟨q1,q2,q3,q4,q5,q6,q7⟩:=h.p1 hp;exact jMb (x:=⟨{x.Server with Phase:=0,Dots:=0},x.replies,x.mails⟩) (by show 0<=x.Server.Many;omega) (by show 0<=x.Server.Size;omega) h.count rfl (jNb q3 rfl q5 q6 q7)
 have hd:∀(p q:Prop) [Decidable p] [Decidable q],0<=(if p then (4:Int) else if q then 0 else 3)/\(if p then (4:Int) else if q then 0 else 3)<=4:=by
  intro p q _ _;split
  .omega
  split <;> omega
 split
 .have h1:=zDb h hs.1 (.inl hp) 13;have hp1:(kwa x 13).Server.Phase=1:=by rw[(qka x 13).2];exact hp
  exact zEb (zDb h1 (by rw[(jOb x 13).1];exact hs.1) (.inl hp1) c) (by rw[(qka _ _).2];exact hp1) (hd _ _)
 exact zEb (zDb h hs.1 (.inl hp) c) (by rw[(qka _ _).2];exact hp) (hd _ _)
theorem byte_vs{x:Ses}{n:Nat}(hsi:SI x n)(h:VS x.Server)(c:UInt8):VS (yMa x c).Server:=by
 unfold yMa;split
 .rename_i hp;exact line_vs hsi h hp c
 split
 .rename_i hp;exact data_vs hsi h hp c
 split
 .rename_i hp;have hy:VS (bif x.Server.Ignore then x else kwa x c).Server/\(bif x.Server.Ignore then x else kwa x c).Server.Phase=2/\SI (bif x.Server.Ignore then x else kwa x c) n:=by
   cases hi:x.Server.Ignore with
   | true=>exact ⟨h,hp,hsi⟩
   | false=>
    have hc:x.Server.Chunked=true:=by
     have:=(h.p2 hp).2.1;rw[hi]at this;cases hx:x.Server.Chunked with
     | true=>rfl
     | false=>rw[hx]at this;cases this
    exact ⟨zDb h hsi.size.1 (.inr hc) c,by show (kwa x c).Server.Phase=2;rw[(qka x c).2];exact hp,j8a hsi c⟩
  generalize (bif x.Server.Ignore then x else kwa x c)=y at hy;obtain ⟨hy,hyp,hysi⟩:=hy;have hm:=hysi.many;have hs:=hysi.size;dsimp only;split
  .rename_i hz;rw[hz];exact vPb hy (by omega) (by omega) hyp _ _
  rename_i hz;have e1:∀{k:Int},y.Server.Phase=k->k=2:=fun e=>e.symm.trans hyp
  obtain ⟨a1,a2,a3,a4,a5,a6,a7,a8,a9,a10,a11,a12,a13,a14,a15⟩:=hy;obtain ⟨q1,q2,q3,q4,q5,q6⟩:=a13 hyp;exact ⟨a1,a2,a3,a4,a5,a6,a7,a8,a9,a10,fun e=>absurd (e1 e) (by decide),fun e=>absurd (e1 e) (by decide),fun _=>⟨q1,q2,q3,q4,by show 1<=y.Server.Left - 1;omega,by show y.Server.Left - 1<=_;omega⟩,fun e=>absurd (e1 e) (by decide),a15⟩
 exact h
theorem jPb:∀(b:List UInt8) (x:Ses) (n:Nat),SI x n->VS x.Server->VS (v8a x b).Server
 | [],x,n,_,h=>h
 | c::b,x,n,hs,h=>jPb b (yMa x c) (n+1) (Wla hs c) (byte_vs hs h c)
def pre(R:List zla)(M:List zwa)(x:Ses):Ses:=⟨x.Server,R++x.replies,M++x.mails⟩
theorem qla(R:List zla)(M:List zwa)(x:Ses)(c:Int)(l:List Str):sayS (pre R M x) c l=pre R M (sayS x c l):=by
 unfold sayS pre;simp
theorem vQb(R:List zla)(M:List zwa)(x:Ses):ZMa (pre R M x)=pre R M (ZMa x):=by
 unfold ZMa;rw[show (pre R M x).Server=x.Server from rfl];split
 .rw[qla];rfl
 split
 .rw[qla];rfl
 rw[show (⟨{x.Server with Count:=x.Server.Count+1},(pre R M x).replies,(pre R M x).mails++ [⟨⟨x.Server.From,x.Server.To,idS x.Server⟩,(jka x.Server.Data).1⟩]⟩:Ses)=pre R M ⟨{x.Server with Count:=x.Server.Count+1},x.replies,x.mails++ [⟨⟨x.Server.From,x.Server.To,idS x.Server⟩,(jka x.Server.Data).1⟩]⟩ by unfold pre;simp,qla];rfl
theorem kHb(R:List zla)(M:List zwa)(x:Ses):wUa (pre R M x)=pre R M (wUa x):=by
 unfold wUa;rw[show (pre R M x).Server=x.Server from rfl];have e:(⟨{x.Server with Phase:=0,Last:=false,Ignore:=false},(pre R M x).replies,(pre R M x).mails⟩:Ses)=pre R M ⟨{x.Server with Phase:=0,Last:=false,Ignore:=false},x.replies,x.mails⟩:=rfl;rw[e];cases x.Server.Ignore with
 | true=>exact qla _ _ _ _ _
 | false=>
  cases x.Server.Last with
  | true=>exact vQb _ _ _
  | false=>exact qla _ _ _ _ _
theorem pre_rcpt(R:List zla)(M:List zwa)(x:Ses)(c:zka):V0a (pre R M x) c=pre R M (V0a x c):=by
 unfold V0a;rw[show (pre R M x).Server=x.Server from rfl,show addR (pre R M x) c=addR x c from rfl];cases !x.Server.Mailing || x.Server.Chunked with
 | true=>exact qla _ _ _ _ _
 | false=>
  simp only[cond_false];split
  .exact qla _ _ _ _ _
  exact qla R M ⟨{x.Server with To:=addR x c},x.replies,x.mails⟩ _ _
theorem pre_exec(R:List zla)(M:List zwa)(x:Ses)(c:zka):K2a (pre R M x) c=pre R M (K2a x c):=by
 unfold K2a;rw[show (pre R M x).Server=x.Server from rfl];split
 .exact qla R M ⟨{(abS x).Server with Greeted:=true},x.replies,x.mails⟩ _ _
 split
 .cases !x.Server.Greeted || x.Server.Mailing with
  | true=>exact qla _ _ _ _ _
  | false=>
   simp only[cond_false];split
   .exact qla _ _ _ _ _
   exact qla R M ⟨{x.Server with Mailing:=true,From:=c.Address},x.replies,x.mails⟩ _ _
 split
 .exact pre_rcpt _ _ _ _
 split
 .cases x.Server.To.isEmpty || x.Server.Chunked with
  | true=>exact qla _ _ _ _ _
  | false=>exact qla R M ⟨{x.Server with Phase:=1},x.replies,x.mails⟩ _ _
 split
 .split
  .exact kHb R M ⟨{x.Server with Phase:=2,Left:=c.Size,Last:=c.Last,Ignore:=x.Server.To.isEmpty,Chunked:= !x.Server.To.isEmpty},x.replies,x.mails⟩
  rfl
 split
 .exact qla R M (abS x) _ _
 split
 .exact qla R M ⟨{(abS x).Server with Phase:=3,Buffer:=[]},x.replies,x.mails⟩ _ _
 exact qla _ _ _ _ _
theorem Wma(R:List zla)(M:List zwa)(x:Ses)(c:UInt8):kwa (pre R M x) c=pre R M (kwa x c):=by
 unfold kwa;rw[show (pre R M x).Server=x.Server from rfl];split <;> rfl
theorem pre_byte(R:List zla)(M:List zwa)(x:Ses)(c:UInt8):yMa (pre R M x) c=pre R M (yMa x c):=by
 unfold yMa;rw[show (pre R M x).Server=x.Server from rfl];split
 .unfold Yla;rw[show (pre R M x).Server=x.Server from rfl];split
  .dsimp only;split
   .exact qla R M (bufS x []) _ _
   split
   .exact pre_exec R M (bufS x []) _
   exact qla R M (bufS x []) _ _
  split
  .exact qla R M ⟨{(abS x).Server with Phase:=3,Buffer:=[]},x.replies,x.mails⟩ _ _
  rfl
 split
 .unfold Yma;rw[show (pre R M x).Server=x.Server from rfl];split
  .rfl
  split
  .rfl
  split
  .exact vQb R M ⟨{x.Server with Phase:=0,Dots:=0},x.replies,x.mails⟩
  split
  .rw[Wma,Wma];rfl
  rw[Wma];rfl
 split
 .have e:(bif x.Server.Ignore then pre R M x else kwa (pre R M x) c)=pre R M (bif x.Server.Ignore then x else kwa x c):=by
   cases x.Server.Ignore with
   | true=>rfl
   | false=>exact Wma _ _ _ _
  rw[e];generalize (bif x.Server.Ignore then x else kwa x c)=y;dsimp only;rw[show (pre R M y).Server=y.Server from rfl];split
  .exact kHb R M ⟨{y.Server with Left:=y.Server.Left - 1},y.replies,y.mails⟩
  rfl
 rfl
theorem vRb(R:List zla)(M:List zwa):∀(b:List UInt8) (x:Ses),v8a (pre R M x) b=pre R M (v8a x b)
 | [],x=>rfl
 | c::b,x=>by
  show v8a (yMa (pre R M x) c) b=_;rw[pre_byte];exact vRb R M b (yMa x c)
theorem qXb(a b:List UInt8)(s:zha):v8a ⟨s,[],[]⟩ (a++b)=pre (v8a ⟨s,[],[]⟩ a).replies (v8a ⟨s,[],[]⟩ a).mails (v8a ⟨(v8a ⟨s,[],[]⟩ a).Server,[],[]⟩ b):=by
 rw[<-vRb];unfold v8a;rw[List.foldl_append];unfold pre;simp
def cf(x:Ses):Str × Int × Int:=(x.Server.Name,x.Server.Size,x.Server.Many)
theorem zFb(x:Ses)(c:UInt8):cf (kwa x c)=cf x:=by unfold kwa;split <;> rfl
theorem jQb(x:Ses):cf (ZMa x)=cf x:=by
 unfold ZMa;split
 .rfl
 split <;> rfl
theorem vSb(x:Ses):cf (wUa x)=cf x:=by
 unfold wUa;cases x.Server.Ignore with
 | true=>rfl
 | false=>
  cases x.Server.Last with
  | true=>exact jQb _
  | false=>rfl
theorem cf_exec(x:Ses)(c:zka):cf (K2a x c)=cf x:=by
 unfold K2a;split
 .rfl
 split
 .cases !x.Server.Greeted || x.Server.Mailing with
  | true=>rfl
  | false=>
   simp only[cond_false];split <;> rfl
 split
 .unfold V0a;cases !x.Server.Mailing || x.Server.Chunked with
  | true=>rfl
  | false=>
   simp only[cond_false];split <;> rfl
 split
 .cases x.Server.To.isEmpty || x.Server.Chunked <;> rfl
 split
 .split
  .exact vSb _
  rfl
 split
 .rfl
 split <;> rfl
theorem cf_byte(x:Ses)(c:UInt8):cf (yMa x c)=cf x:=by
 unfold yMa;split
 .unfold Yla;split
  .dsimp only;split
   .rfl
   split
   .exact cf_exec (bufS x []) _
   rfl
  split <;> rfl
 split
 .unfold Yma;split
  .rfl
  split
  .rfl
  split
  .exact jQb _
  split
  .exact (zFb _ c).trans (zFb x 13)
  exact zFb x c
 split
 .have e:cf (bif x.Server.Ignore then x else kwa x c)=cf x:=by
   cases x.Server.Ignore with
   | true=>rfl
   | false=>exact zFb x c
  rw[<-e];generalize (bif x.Server.Ignore then x else kwa x c)=y;dsimp only;split
  .exact vSb _
  rfl
 rfl
theorem jRb:∀(b:List UInt8) (x:Ses),cf (v8a x b)=cf x
 | [],x=>rfl
 | c::b,x=>(jRb b (yMa x c)).trans (cf_byte x c)
theorem qYb{x:Ses}{n:Nat}(h:SI x n)(v:VS x.Server):Ysa x.Server:=by
 have hz:=h.size;have hd:=h.data;have hb:=h.buf;have hn:=h.name;refine ⟨?_,Jva h.tos.2 (by have:=h.tos.1;omega),by omega,by omega,by omega⟩;rcases v.frm with e | e
 .rw[e];simp
 have:=vFb e;omega
theorem zGb{s:zha}{b:List UInt8}(h:(srvF s).Code=0)(hb:¬40000 < b.length):Yta s b=((v8a ⟨s,[],[]⟩ b).Server,(v8a ⟨s,[],[]⟩ b).replies,(v8a ⟨s,[],[]⟩ b).mails,⟨0,0⟩):=by
 unfold Yta;rw[if_neg (show ¬(srvF s).Code≠0 from fun e=>e h),if_neg hb]
theorem Vha{s:zha}{b:List UInt8}(h:(srvF s).Code=0)(hb:40000 < b.length):Yta s b=(wGb,[],[],⟨1, -1⟩):=by
 unfold Yta;rw[if_neg (show ¬(srvF s).Code≠0 from fun e=>e h),if_pos hb]
theorem kIb{s:zha}{b:List UInt8}(h:(srvF s).Code≠0):Yta s b=(wGb,[],[],srvF s):=by
 unfold Yta;rw[if_pos h]
theorem w1a(a0:zha)(a1:List UInt8)(a2:List UInt8)(o0:zha.ok a0)(o1:okL (fun _=>True) a1)(o2:okL (fun _=>True) a2)(hk:zha.bk a0+bkL (fun _=>1) a1+bkL (fun _=>1) a2<=1048576):kAa a0 a1 a2=some true:=by
 have hs:Ysa a0:=jIb (by omega);have h1:=WQa (bk:=fun _:UInt8=>1) (fun x=>by simp) a1;have h2:=WQa (bk:=fun _:UInt8=>1) (fun x=>by simp) a2;have h12:(a1++a2).length=a1.length+a2.length:=by simp
 unfold kAa;rw[zTa (by simp;omega)];simp only[Option.bind_some,List.nil_append];rw[zTa (by omega)];simp only[Option.bind_some];rw[zCb a0 a1 hs (by omega),zCb a0 (a1++a2) hs (by omega),jHb];simp only[Option.bind_some,Bool.not_true,cond_false,cond_true];by_cases h0:(srvF a0).Code=0
 .obtain ⟨hc,ho,e⟩:=vNb h0;by_cases h4:40000 < a1.length
  .rw[Vha h0 h4,Vha h0 (by omega)];rfl
  rw[zGb h0 h4];by_cases h5:40000 < (a1++a2).length
  .rw[Vha h0 h5];rfl
  rw[zGb h0 h5];simp only[show ((0:Int) !=0)=false from rfl,cond_false,Option.bind_some];have si0:=vOb h0;have si1:=(Yra a1 (by omega) _ si0).2.2;have v1:=jPb a1 _ 0 si0 (vs_of_ok ho);have ou:=kEb (a1++a2) _ _ si0 (out0 a0);have si2:=(Yra (a1++a2) (by omega) _ si0).2.2;have cfe:=jRb a1 ⟨a0,[],[]⟩;have app:=qXb a1 a2 a0;generalize v8a ⟨a0,[],[]⟩ (a1++a2)=u at app ou si2;generalize v8a ⟨a0,[],[]⟩ a1=x at si1 v1 cfe app;have sm:=qYb si1 v1;have hsrv:srvF x.Server=⟨0,0⟩:=by
   unfold cf at cfe;simp only[Prod.mk.injEq]at cfe;obtain ⟨c1,c2,c3⟩:=cfe;unfold srvF;rw[c1,c2,c3,if_neg (by simp[hc]),ok_of_vs v1,if_neg (by simp)]
  rw[zCb x.Server a2 sm (by omega)];have hf:Yta x.Server a2=((v8a ⟨x.Server,[],[]⟩ a2).Server,(v8a ⟨x.Server,[],[]⟩ a2).replies,(v8a ⟨x.Server,[],[]⟩ a2).mails,⟨0,0⟩):=by
   exact zGb (by rw[hsrv]) (by omega)
  rw[hf];simp only[show ((0:Int) !=0)=false from rfl,cond_false,Option.bind_some];generalize v8a ⟨x.Server,[],[]⟩ a2=y at app;subst app;have r1:=si2.reps;have m1:=si2.mails;have t1:=si2.tos.1;have r1:(x.replies++y.replies).length<=(a1++a2).length:=r1;have m1:(x.mails++y.mails).length<=(a1++a2).length:=m1;have t1:y.Server.To.length<=60:=t1;rw[List.length_append]at r1 m1;rw[zTa (by simp;omega)];simp only[Option.bind_some,List.nil_append];rw[zTa (by omega)];simp only[Option.bind_some];rw[zTa (by simp;omega)];simp only[Option.bind_some,List.nil_append];rw[zTa (by omega)];simp only[Option.bind_some];rw[show (pre x.replies x.mails y).Server=y.Server from rfl,show (pre x.replies x.mails y).replies=x.replies++y.replies from rfl,show (pre x.replies x.mails y).mails=x.mails++y.mails from rfl,qVb _ (by omega),kBb _ (by simp;omega) (fun r hr=>by have:=ou.1 r hr;omega),VVa _ (by simp;omega) (fun m hm=>by have:=ou.2 m hm;omega)];rfl
 rw[kIb h0,kIb h0,bne_iff_ne.2 h0];simp only[cond_true,Option.bind_some];rw[beq_eq_false_iff_ne.2 h0];rfl
theorem R_At_run(a0:Int)(a1:Int)(r:zta)(hr:R_At a0 a1=some r):Run Tryz.prog 15 [.i a0,.i a1] (.agg [.i r.Code,.i r.Index]):=by
 unfold R_At at hr;refine rf (fn:=Tryz.f15) ⟨Tryz.func15,rfl,by kernel_rfl⟩ rfl (fun _=>rfl) fun g0 hg=>?_
 refine rn tk 14 rfl ?_;cases hr;exact kr tk (.inr rfl) rfl rfl
theorem QCa(a0:List Str)(a1:List Str)(r:Bool)(hr:jwa a0 a1=some r):Run Tryz.prog 32 [.l cS a0,.l cS a1] (.bo r):=by
 unfold jwa at hr;refine rf (fn:=Tryz.f32) ⟨Tryz.func32,rfl,by kernel_rfl⟩ rfl (fun _=>rfl) fun g0 hg=>?_
 refine rn tk 9 rfl<|wn tk rfl rfl rfl<|rn tk 1 rfl<|wn tk rfl rfl rfl<|rn tk 3 rfl<|ac 10 hr rfl (fun c1 hr=>?_) (fun c1 hr=>?_)
 .refine rn tk 7 rfl ?_;cases hr;exact kr tk (.inr rfl) rfl rfl
 refine rn tk 9 rfl<|al2 hr (fun s2=>[(0,.l cS a0),(1,.l cS a1),(5,.i s2)]) (fun s2=>[]) (.exit 0) (fun b3=>[]) (fun b3=>[]) .ret (fun b4=>[(4,.bo b4)]) (fun b4=>[]) rfl rfl (fun s2 x6 hr=>?_) (fun b3 hr=>?_) (fun b4 hr=>?_)
 .unfold yUa at hr;refine rn tk 5 rfl<|wn tk rfl rfl rfl<|rn tk 3 rfl<|ac 14 hr rfl (fun c7 hr=>?_) (fun c7 hr=>?_)
  .refine rn tk 5 rfl ?_;obtain ⟨v8,h9,hr⟩:=zaa hr;obtain ⟨v10,h11,hr⟩:=zaa hr;refine dr 8 [(24,.s v10),(23,.ep [pS v10]),(22,.i s2),(21,.l cS a1),(20,.s v8),(19,.ep [pS v8]),(18,.i s2),(17,.l cS a0)] mixed (by kernel_rfl) rfl rfl (pq tk rfl (.plain rfl) (pq tk rfl (.plain rfl) (.run (.plain rfl) (qUa (jra (f:=cS) rfl rfl jTa zDa rfl h9)) (pq tk rfl (.plain rfl) (pq tk rfl (.plain rfl) (pq tk rfl (.plain rfl) (.run (.plain rfl) (qUa (jra (f:=cS) rfl rfl jTa zDa rfl h11)) (pq tk rfl (.plain rfl) .nil)))))))) rfl<|rn tk 3 rfl<|ac 25 hr rfl (fun c12 hr=>?_) (fun c12 hr=>?_)
   .refine rn tk 8 rfl ?_;cases hr;exact ato rfl rfl rfl rfl
   refine rn tk 8 rfl ?_;cases hr;exact atc rfl rfl
  refine rn tk 2 rfl ?_;cases hr;exact ato rfl rfl rfl rfl
 .refine rn tk 8 rfl ?_;cases hr;exact kr tk (.inr rfl) rfl rfl
 refine rn tk 2 rfl ?_;cases hr;exact kr tk (.inr rfl) rfl rfl
theorem zNa(a0:zta)(r:Bool)(hr:zYa a0=some r):Run Tryz.prog 29 [.agg [.i a0.Code,.i a0.Index]] (.bo r):=by
 unfold zYa at hr;refine rf (fn:=Tryz.f29) ⟨Tryz.func29,rfl,by kernel_rfl⟩ rfl (fun _=>rfl) fun g0 hg=>?_
 refine rn tk 15 rfl ?_;cases hr;exact kr tk (.inr rfl) rfl rfl
theorem zna(a0:Int)(a1:Int)(r:zta)(hr:zua a0 a1=some r):Run Tryz.prog 35 [.i a0,.i a1] (.agg [.i r.Code,.i r.Index]):=by
 unfold zua at hr;refine rf (fn:=Tryz.f35) ⟨Tryz.func35,rfl,by kernel_rfl⟩ rfl (fun _=>rfl) fun g0 hg=>?_
 refine rn tk 14 rfl ?_;cases hr;exact kr tk (.inr rfl) rfl rfl
theorem zPa(r:zta)(hr:kqa=some r):Run Tryz.prog 30 [] (.agg [.i r.Code,.i r.Index]):=by
 unfold kqa at hr;refine rf (fn:=Tryz.f30) ⟨Tryz.func30,rfl,by kernel_rfl⟩ rfl (fun _=>rfl) fun g0 hg=>?_
 refine rn tk 12 rfl ?_;cases hr;exact kr tk (.inr rfl) rfl rfl
theorem Zha(a0:UInt8)(r:Bool)(hr:vHa a0=some r):Run Tryz.prog 84 [.u8 a0] (.bo r):=by
 unfold vHa at hr;refine rf (fn:=Tryz.f84) ⟨Tryz.func84,rfl,by kernel_rfl⟩ rfl (fun _=>rfl) fun g0 hg=>?_
 refine rn tk 5 rfl<|jb hr (fun j1=>[(2,.bo j1)]) (fun j1=>[]) (fun j1 hr=>?_) (fun j1 hr=>?_)
 .refine rn tk 4 rfl<|bs 5 hr rfl (fun c2 hr=>?_) (fun c2 hr=>?_)
  .refine rn tk 4 rfl<|bs 9 hr rfl (fun c3 hr=>?_) (fun c3 hr=>?_)
   .refine rn tk 17 rfl ?_;cases hr;exact jn _ rfl rfl rfl
   refine rn tk 3 rfl<|bs 12 hr rfl (fun c4 hr=>?_) (fun c4 hr=>?_)
   .refine rn tk 5 rfl<|bs 17 hr rfl (fun c5 hr=>?_) (fun c5 hr=>?_)
    .refine rn tk 9 rfl ?_;cases hr;exact jn _ rfl rfl rfl
    refine rn tk 3 rfl<|bs 20 hr rfl (fun c6 hr=>?_) (fun c6 hr=>?_)
    .refine rn tk 6 rfl ?_;cases hr;exact jn _ rfl rfl rfl
    refine rn tk 6 rfl ?_;cases hr;exact jn _ rfl rfl rfl
   refine rn tk 8 rfl<|bs 20 hr rfl (fun c7 hr=>?_) (fun c7 hr=>?_)
   .refine rn tk 6 rfl ?_;cases hr;exact jn _ rfl rfl rfl
   refine rn tk 6 rfl ?_;cases hr;exact jn _ rfl rfl rfl
  refine rn tk 7 rfl<|bs 12 hr rfl (fun c8 hr=>?_) (fun c8 hr=>?_)
  .refine rn tk 5 rfl<|bs 17 hr rfl (fun c9 hr=>?_) (fun c9 hr=>?_)
   .refine rn tk 9 rfl ?_;cases hr;exact jn _ rfl rfl rfl
   refine rn tk 3 rfl<|bs 20 hr rfl (fun c10 hr=>?_) (fun c10 hr=>?_)
   .refine rn tk 6 rfl ?_;cases hr;exact jn _ rfl rfl rfl
   refine rn tk 6 rfl ?_;cases hr;exact jn _ rfl rfl rfl
  refine rn tk 8 rfl<|bs 20 hr rfl (fun c11 hr=>?_) (fun c11 hr=>?_)
  .refine rn tk 6 rfl ?_;cases hr;exact jn _ rfl rfl rfl
  refine rn tk 6 rfl ?_;cases hr;exact jn _ rfl rfl rfl
 refine rn tk 1 rfl ?_;cases hr;exact kr tk (.inr rfl) rfl rfl
theorem Ksa(a0:Str)(r:Bool)(hr:yma a0=some r):Run Tryz.prog 56 [.s a0] (.bo r):=by
 unfold yma at hr;refine rf (fn:=Tryz.f56) ⟨Tryz.func56,rfl,by kernel_rfl⟩ rfl (fun _=>rfl) fun g0 hg=>?_
 refine rn tk 5 rfl<|jb hr (fun j1=>[(2,.bo j1)]) (fun j1=>[]) (fun j1 hr=>?_) (fun j1 hr=>?_)
 .refine rn tk 4 rfl<|bs 5 hr rfl (fun c2 hr=>?_) (fun c2 hr=>?_)
  .refine rn tk 5 rfl<|bs 10 hr rfl (fun c3 hr=>?_) (fun c3 hr=>?_)
   .refine rn tk 1 rfl<|ug rfl rfl rfl<|ct hr (fun j4=>[(10,.bo true),(12,.bo j4)]) (fun j4=>[]) (fun j4 hr jump4=>?_) (fun j4 hr=>?_)
    .refine il (fn:=Tryz.f82) (args:=[.s a0,.fn (.func 83) [] []]) 400000 499999 [(10,.bo true)] rfl ⟨Tryz.func82,rfl,by kernel_rfl⟩ rfl rfl rfl fun T4 ds4=>?_
     refine rn tk 14 rfl<|al2 hr (fun s5=>[(0,.s a0),(1,.fn (.func 83) [] []),(7,.i ((a0.length:Int))),(8,.i s5)]) (fun s5=>[(499999,.sus g0.w.heap.size ds4),(400010,.hold (.bo true) (T4.getD 10 undef))]) (.exit 0) (fun b6=>[]) (fun b6=>[(499999,.sus g0.w.heap.size ds4),(400010,.hold (.bo true) (T4.getD 10 undef))]) .ret (fun b7=>[(4,.bo false)]) (fun b7=>[(499999,.sus g0.w.heap.size ds4),(400010,.hold (.bo true) (T4.getD 10 undef))]) rfl rfl (fun s5 x9 hr=>?_) (fun b6 hr=>?_) (fun b7 hr=>?_)
     .unfold vQa at hr;refine rn tk 6 rfl<|ac 9 hr rfl (fun c10 hr=>?_) (fun c10 hr=>?_)
      .refine rn tk 15 rfl ?_;obtain ⟨v11,h12,hr⟩:=zaa hr;refine ws tk h12 rfl rfl rfl rfl<|il (fn:=Tryz.f83) (args:=[.u8 v11]) 600000 699999 [(0,.s a0),(1,.fn (.func 83) [] []),(7,.i ((a0.length:Int))),(8,.i s5)] rfl ⟨Tryz.func83,rfl,by kernel_rfl⟩ rfl rfl rfl fun T6 ds6=>?_
       refine rn tk 5 rfl<|jb hr (fun j13=>[(2,.bo j13)]) (fun j13=>[(699999,.sus g0.w.heap.size ds6),(600000,.hold (.s a0) (T6.getD 0 undef)),(600001,.hold (.fn (.func 83) [] []) (T6.getD 1 undef)),(600007,.hold (.i ((a0.length:Int))) (T6.getD 7 undef)),(600008,.hold (.i s5) (T6.getD 8 undef)),(499999,.sus g0.w.heap.size ds4),(400010,.hold (.bo true) (T4.getD 10 undef))]) (fun j13 hr=>?_) (fun j13 hr=>?_)
       .refine rn tk 2 rfl ?_;obtain ⟨v14,h15,hr⟩:=zaa hr;refine cl (Zha _ _ h15) rfl rfl<|rn tk 1 rfl<|bs 5 hr rfl (fun c16 hr=>?_) (fun c16 hr=>?_)
        .refine rn tk 13 rfl ?_;cases hr;exact jn _ rfl rfl rfl
        refine rn tk 4 rfl<|bs 9 hr rfl (fun c17 hr=>?_) (fun c17 hr=>?_)
        .refine rn tk 9 rfl ?_;cases hr;exact jn _ rfl rfl rfl
        refine rn tk 4 rfl<|bs 13 hr rfl (fun c18 hr=>?_) (fun c18 hr=>?_)
        .refine rn tk 5 rfl ?_;cases hr;exact jn _ rfl rfl rfl
        refine rn tk 5 rfl ?_;cases hr;exact jn _ rfl rfl rfl
       refine rn tk 1 rfl ?_;refine ie tk [.bo j13] [(0,.s a0),(1,.fn (.func 83) [] []),(7,.i ((a0.length:Int))),(8,.i s5)] [(499999,.sus g0.w.heap.size ds4),(400010,.hold (.bo true) (T4.getD 10 undef))] (.inr rfl) rfl rfl rfl rfl (hO ?_);refine rn tk 3 rfl<|ac 16 hr rfl (fun c19 hr=>?_) (fun c19 hr=>?_)
       .refine rn tk 8 rfl ?_;cases hr;exact ato rfl rfl rfl rfl
       refine rn tk 7 rfl ?_;cases hr;exact atc rfl rfl
      refine rn tk 2 rfl ?_;cases hr;exact ato rfl rfl rfl rfl
     .refine rn tk 8 rfl ?_;refine ie tk [.bo true] [(10,.bo true)] [] (.inr rfl) rfl rfl rfl rfl ?_;cases hr;exact jump4 _ _ rfl rfl
     refine rn tk 2 rfl ?_;refine ie tk [.bo false] [(10,.bo true)] [] (.inr rfl) rfl rfl rfl rfl ?_;cases hr;exact jump4 _ _ rfl rfl
    refine rn tk 3 rfl ?_;cases hr;exact jn _ rfl rfl rfl
   refine rn tk 5 rfl ?_;cases hr;exact jn _ rfl rfl rfl
  refine rn tk 10 rfl ?_;cases hr;exact jn _ rfl rfl rfl
 refine rn tk 1 rfl ?_;cases hr;exact kr tk (.inr rfl) rfl rfl
theorem wVa(a0:Str)(a1:Int)(a2:Int)(r:zta)(hr:kNa a0 a1 a2=some r):Run Tryz.prog 28 [.s a0,.i a1,.i a2] (.agg [.i r.Code,.i r.Index]):=by
 unfold kNa at hr;refine rf (fn:=Tryz.f28) ⟨Tryz.func28,rfl,by kernel_rfl⟩ rfl (fun _=>rfl) fun g0 hg=>?_
 refine rn tk 7 rfl<|jb hr (fun j1=>[(1,.i a1),(2,.i a2),(6,.ptr 6 0),(7,.bo j1)]) (fun j1=>[(6,.cells [.i 0,.i 0])]) (fun j1 hr=>?_) (fun j1 hr=>?_)
 .refine rn tk 2 rfl ?_;obtain ⟨v2,h3,hr⟩:=zaa hr;refine cl (Ksa _ _ h3) rfl rfl<|rn tk 2 rfl<|bs 11 hr rfl (fun c4 hr=>?_) (fun c4 hr=>?_)
  .refine rn tk 6 rfl ?_;cases hr;exact jn _ rfl rfl rfl
  refine rn tk 6 rfl ?_;cases hr;exact jn _ rfl rfl rfl
 refine ac 7 hr rfl (fun c5 hr=>?_) (fun c5 hr=>?_)
 .refine rn tk 2 rfl ?_;obtain ⟨v6,h7,hr⟩:=zaa hr;refine cl (zna _ _ _ h7) rfl rfl<|rn tk 6 rfl ?_;cases hr;exact kr tk (.inr rfl) rfl rfl
 refine jb hr (fun j8=>[(2,.i a2),(6,.ptr 6 0),(17,.bo j8)]) (fun j8=>[(6,.cells [.i 0,.i 0])]) (fun j8 hr=>?_) (fun j8 hr=>?_)
 .refine rn tk 4 rfl<|bs 20 hr rfl (fun c9 hr=>?_) (fun c9 hr=>?_)
  .refine rn tk 5 rfl ?_;cases hr;exact jn _ rfl rfl rfl
  refine rn tk 5 rfl ?_;cases hr;exact jn _ rfl rfl rfl
 refine ac 17 hr rfl (fun c10 hr=>?_) (fun c10 hr=>?_)
 .refine rn tk 2 rfl ?_;obtain ⟨v11,h12,hr⟩:=zaa hr;refine cl (zna _ _ _ h12) rfl rfl<|rn tk 6 rfl ?_;cases hr;exact kr tk (.inr rfl) rfl rfl
 refine jb hr (fun j13=>[(6,.ptr 6 0),(25,.bo j13)]) (fun j13=>[(6,.cells [.i 0,.i 0])]) (fun j13 hr=>?_) (fun j13 hr=>?_)
 .refine rn tk 4 rfl<|bs 28 hr rfl (fun c14 hr=>?_) (fun c14 hr=>?_)
  .refine rn tk 5 rfl ?_;cases hr;exact jn _ rfl rfl rfl
  refine rn tk 5 rfl ?_;cases hr;exact jn _ rfl rfl rfl
 refine ac 25 hr rfl (fun c15 hr=>?_) (fun c15 hr=>?_)
 .refine rn tk 2 rfl ?_;obtain ⟨v16,h17,hr⟩:=zaa hr;refine cl (zna _ _ _ h17) rfl rfl<|rn tk 6 rfl ?_;cases hr;exact kr tk (.inr rfl) rfl rfl
 refine rn tk 5 rfl ?_;obtain ⟨v18,h19,hr⟩:=zaa hr;refine cl (zPa _ h19) rfl rfl<|rn tk 4 rfl ?_;cases hr;exact kr tk (.inr rfl) rfl rfl
end Go.Proofs.YtmmjihadplknjaaGreatDoor
