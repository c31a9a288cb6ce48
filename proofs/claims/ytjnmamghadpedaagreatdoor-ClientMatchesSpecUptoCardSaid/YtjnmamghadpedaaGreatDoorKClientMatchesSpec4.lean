/- Part 4 of the proof of the law ClientMatchesSpec: what it needs. -/
import Derived.Test.YtjnmamghadpedaaGreatDoorKClientMatchesSpec3
import Derived.Shelf.Strings.Builder1
import Derived.Shelf.Strings.Builder2
import Derived.Shelf.Strings.OnBuilder
import Derived.Shelf.Small.Utf8
import Derived.Shelf.Small.Strs
import Derived.Shelf.Strings.BuilderF
import Derived.Shelf.Strconv.Atoi
import Derived.Shelf.Strconv.Itoa0
import Derived.Shelf.Strconv.Itoa1
import Derived.Shelf.LaysM
import Derived.Shelf.Strconv.Itoa2
import Derived.Shelf.Strconv.Itoa3
import Derived.Shelf.Strconv.AtoiErrFast
import Derived.Shelf.Strconv.ParseIntEmpty
import Derived.Shelf.Strconv.AtoiFail
import Derived.Shelf.Strconv.Clone
import Derived.Shelf.Strconv.SyntaxError
import Derived.Shelf.LaysC
import Derived.Shelf.Strconv.ToError
import Derived.Shelf.Strconv.AtoiErr
import Derived.Shelf.Strconv.ErrVar
import Derived.Shelf.Strings.Search1
import Derived.Shelf.Strings.Search2
import Derived.Shelf.Strings.Search3
import Derived.Shelf.Strings.Cut
import Derived.Shelf.Strings.Shaped
import Derived.Shelf.Strings.Prefix
import Derived.Shelf.Strings.Runes
import Derived.Shelf.Strings.IndexAny
import Derived.Shelf.Strings.AsciiSet
import Derived.Shelf.Strings.IndexAnyAll
import Derived.Ground.Names2Prog
import Derived.Shelf.Slices.Clone
import Derived.Shelf.Bytes.SlIndexSmall
import Derived.Shelf.Bytes.SlIndexAt
import Derived.Shelf.Bytes.SlSearch0
import Derived.Shelf.Bytes.SlSearch1
import Derived.Shelf.Bytes.SlSearch2
import Derived.Shelf.Bytes.SlIndexWhole
import Derived.Ground.SlgnProg
import Derived.Shelf.SlicesE.Clone
import Derived.Shelf.Bytes.SlSmallAll
import Derived.Shelf.Bytes.SlEqualAll
import Derived.Shelf.Bytes.Small
import Derived.Shelf.Bytes.IndexByte
import Derived.Test.YtjnmamghadpedaaGreatDoorProg
set_option linter.unusedVariables false
set_option linter.unusedSimpArgs false
namespace Go.Proofs.YtjnmamghadpedaaGreatDoor
open Go.RowKit
def dot0:Str→Bool
 | c::_=> c==46
 | []=> false
def yna (l:Str):Str:=if dot0 l then 46::l else l
def y6a (ls:List Str):Str:=ls.flatMap fun x=> yna x++ [13,10]
theorem J9a (l:Str):k9a l [46]=some (dot0 l):=by
 unfold k9a
 cases l with
 | nil=> rfl
 | cons c r=>
  have:cut (c::r) 0 ((([46]:List UInt8).length:Nat):Int)=some [c]:=by
   rw [QWa (by simp)];rfl
  simp only [this,vea,Option.bind_some]
  simp [dot0]
  rw [Bool.cond_eq_ite]
  simp
  omega
theorem K8a (l:Str) (hl:l.length≤9223372036854775807):kRa l [13,10]=some (decide ([13,10] <:+l)):=by
 unfold kRa
 by_cases h:2≤l.length
 ·have e:w64 ((l.length:Int) - ((([13,10]:List UInt8).length:Nat):Int))=((l.length - 2:Nat):Int):=wFb _ _ h hl
  rw [e,y3a (by omega)]
  have:decide (((([13,10]:List UInt8).length:Nat):Int)≤(l.length:Int))=true:=by simp;omega
  simp only [this,cond_true,Option.bind_some,vea]
  congr 1
  rw [Bool.eq_iff_iff,decide_eq_true_iff,List.suffix_iff_eq_drop,beq_iff_eq]
  exact eq_comm
 ·have:decide (((([13,10]:List UInt8).length:Nat):Int)≤(l.length:Int))=false:=by simp;omega
  simp only [this,cond_false,Option.bind_some]
  congr 1
  symm
  simp only [decide_eq_false_iff_not]
  intro hs
  have:=hs.length_le
  simp at this
  omega
theorem Jna (l cur:List UInt8):(fl cur l).2= []↔(l= []∧cur= [])∨ [13,10] <:+l:=by
 fun_induction fl cur l with
 | case1 cur=> simp
 | case2 cur c=>
  simp
  intro h
  have:=h.length_le
  simp at this
 | case3 cur c d r h ih=>
  obtain ⟨rfl,rfl⟩:=h
  simp only [ih,List.suffix_cons_iff]
  simp
 | case4 cur c d r h ih=>
  rw [ih,List.suffix_cons_iff (a:=c)]
  simp
  intro h1 h2 _
  exact absurd ⟨h1.symm,h2.symm⟩ h
theorem j0a (x:Str):(yna x).length≤x.length+1∧x.length≤(yna x).length:=by unfold yna;split <;> simp
theorem qPb (ls:List Str):(ls.flatMap fun x=> x++ [13,10]).length≥2 * ls.length:=by
 induction ls with
 | nil=> simp
 | cons x r ih=> simp at ih ⊢;omega
theorem Yga (ls:List Str):(y6a ls).length≤(ls.flatMap fun x=> x++ [13,10]).length+ls.length:=by
 induction ls with
 | nil=> simp [y6a]
 | cons x r ih=>
  have:=(j0a x).1
  unfold y6a at ih ⊢
  simp at ih ⊢
  omega
theorem vBb (a:List UInt8) (ha:a.length≤12000) (n:Nat):∀(at_:Nat) (out:List UInt8),at_≤a.length→a.length - at_=n→out.length≤2 * at_→
  iter (k3a a) ((at_:Int),out)=some (out++y6a (fl [] (a.drop at_)).1):=by
 induction n using Nat.strongRecOn with
 | _ n ih=>
  intro at_ out h1 h2 h3
  have hg:=Lib.index_ge (a.drop at_) [13,10]
  by_cases hi:Lib.index (a.drop at_) [13,10]= -1
  ·have hb:k3a a ((at_:Int),out)=some (.out out):=by
    unfold k3a
    simp only [y3a h1,Option.bind_some,vfa]
    rw [if_pos (by simp;omega)]
    simp [hi]
   rw [zHa hb]
   simp [w4b _ [] hi,y6a]
  ·obtain ⟨k,hk⟩:∃k:Nat,Lib.index (a.drop at_) [13,10]=(k:Int):=⟨(Lib.index (a.drop at_) [13,10]).toNat,by omega⟩
   obtain ⟨hk2,hf⟩:=qcb _ [] k hk
   simp at hk2
   have hlen:(((a.drop at_).take k).length)=k:=by simp;omega
   have hd:=j0a ((a.drop at_).take k)
   have hb:k3a a ((at_:Int),out)=some (.cont (((at_+k+2:Nat):Int),out++(yna ((a.drop at_).take k)++ [13,10]))):=by
    unfold k3a
    simp only [y3a h1,Option.bind_some,vfa]
    rw [if_pos (by simp;omega)]
    simp (disch:=omega) only [hk,VZa,Jda,zOb,Option.bind_some,show ¬((k:Int) < 0) by omega,decide_false,cond_false]
    rw [show at_+k - at_=k by omega,show at_+(k+2)=at_+k+2 by omega]
    rw [J9a]
    unfold yna
    cases dot0 ((a.drop at_).take k) with
    | false=>
     simp only [Option.bind_some,cond_false]
     rw [koa (by omega)]
     simp only [Option.bind_some]
     rw [koa (by simp;omega)]
     simp
    | true=>
     simp only [Option.bind_some,cond_true]
     rw [koa (by simp;omega)]
     simp only [Option.bind_some]
     rw [koa (by simp;omega)]
     simp only [Option.bind_some]
     rw [koa (by simp;omega)]
     simp
   rw [zOa hb,ih (a.length - (at_+k+2)) (by omega) (at_+k+2) _ (by omega) rfl (by simp;omega),hf]
   simp [y6a,Nat.add_assoc]
theorem YOa (a:List UInt8):v4a a=some (if 12000 < a.length then ([],⟨1, -1⟩) else if (fl [] a).2≠ [] then ([],⟨5, -2⟩) else (y6a (fl [] a).1++ [46,13,10],⟨0,0⟩)):=by
 unfold v4a
 by_cases h:12000 < a.length
 ·have:decide ((12000:Int) < (a.length:Int))=true:=by simp;omega
  simp only [this,cond_true,zAa,Option.bind_some,if_pos h]
 ·have:decide ((12000:Int) < (a.length:Int))=false:=by simp;omega
  simp only [this,cond_false,if_neg h]
  have hs:=w5b a []
  have e:((0:Int),([]:List UInt8))=(((0:Nat):Int), []):=rfl
  have hl:=vBb a (by omega) _ 0 [] (by omega) rfl (by simp)
  rw [K8a _ (by omega),e,hl]
  have hj:((bif decide ((0:Int) < (a.length:Int)) then (some (decide ([13,10] <:+a))).bind fun v6=> some (!v6) else some false):Option Bool)=some (decide ((fl [] a).2≠ [])):=by
   have:=Jna a []
   simp at this
   by_cases h0:a= []
   ·simp [h0,fl]
   ·have h1:0 < a.length:=by cases a with
     | nil=> exact absurd rfl h0
     | cons c r=> simp
    simp [h1,this,h0]
  rw [hj]
  simp only [Option.bind_some]
  by_cases hr:(fl [] a).2= []
  ·have:=Yga (fl [] a).1
   have hjn:=qdb a []
   simp [hr] at hjn
   have hjl:=congrArg List.length hjn
   simp at hs
   rw [hr] at hs
   simp [hr,z7a]
   rw [koa]
   ·simp
   ·simp at hs ⊢
    simp at hjl this
    omega
  ·simp [hr,zAa]
end Go.Proofs.YtjnmamghadpedaaGreatDoor
namespace Go.Proofs.YtjnmamghadpedaaGreatDoor
open Go.RowKit
def zCa (ls:List Str):Str:=ls.flatMap fun x=> x++ [13,10]
theorem KIa (x:Str) (r:List Str):zCa (x::r)=x++13::10::zCa r:=by simp [zCa]
theorem Yha (x:Str) (r:List Str):(zCa (x::r)).length=x.length+2+(zCa r).length:=by simp [KIa];omega
theorem Wxa (a:List UInt8):zCa (fl [] a).1++(fl [] a).2=a:=qdb a []
theorem qQb (a:List UInt8):(zCa (fl [] a).1).length+(fl [] a).2.length=a.length:=by
 have:=congrArg List.length (Wxa a)
 simpa only [List.length_append] using this
def KRa:List Str→Str
 | []=> []
 | [x]=> yna x
 | x::y::r=> yna x++ [13,10]++KRa (y::r)
theorem zab (ls:List Str):KRa (ls++ [[]])=y6a ls:=by
 induction ls with
 | nil=> rfl
 | cons x r ih=>
  cases r with
  | nil=> simp [KRa,y6a,yna,dot0]
  | cons y r=> simp only [List.cons_append,KRa] at ih ⊢;rw [ih];simp [y6a]
theorem w7b (a:List UInt8) (ha:a.length < 1099511627776):Jba a=some (KRa ((fl [] a).1++ [(fl [] a).2])++ [46,13,10]):=by
 unfold Jba
 have hl:QPa a=kIa a:=rfl
 have h0:=Yfa a (by omega) _ 0 1 [] (by omega) rfl (by simp) (by omega) (by omega)
 simp only [List.drop_zero,List.nil_append,Nat.sub_self,List.take_zero] at h0
 have e:(((0:Nat):Int),((1:Nat):Int),([]:List Str))=(0,1, []):=rfl
 rw [e] at h0
 have hs:=w5b a []
 have hj:=qQb a
 simp at hs
 rw [hl,h0]
 simp only [Option.bind_some]
 rw [y3a (by omega),w6b]
 simp only [Option.bind_some]
 rw [koa (by simp;omega)]
 simp only [Option.bind_some]
 have hsl:∀ls:List Str,(KRa ls).length≤(zCa ls).length+ls.length:=by
  intro ls
  fun_induction KRa ls with
  | case1=> simp
  | case2 x=> have:=(j0a x).1;rw [Yha];simp;omega
  | case3 x y r ih=> have:=(j0a x).1;rw [Yha];simp at ih ⊢;omega
 have hb:=hsl ((fl [] a).1++ [(fl [] a).2])
 have hfl:(zCa ((fl [] a).1++ [(fl [] a).2])).length=(zCa (fl [] a).1).length+(fl [] a).2.length+2:=by unfold zCa;rw [List.flatMap_append];simp;omega
 simp only [List.length_append,List.length_singleton] at hb
 rw [Jea (s0:=((0:Int),([]:List UInt8))) (S:=List UInt8) (R:=List UInt8) ((fl [] a).1++ [(fl [] a).2]) (fun i s=> ((i:Int),s)) (fun i r s=> s++KRa r)
  (fun i r s=> s.length+(KRa r).length≤3 * a.length+100) ?_ ?_ [] rfl ?_]
 ·simp only [Option.bind_some]
  rw [koa (by simp;omega)]
  simp
 ·intro s hi
  unfold Z0a
  simp [KRa]
 ·intro p x r s hp hi
  right
  have hd:=j0a x
  have hlt:p.length+1≤(fl [] a).1.length+1:=by have:=congrArg List.length hp;simp at this;omega
  have hlen:((fl [] a).1++ [(fl [] a).2]).length=p.length+1+r.length:=by rw [hp];simp;omega
  have hdo:((((some x).bind fun v29=> (bif decide (0 < (v29.length:Int)) then (some x).bind fun v32=> (idx v32 0).bind fun v34=> some (((v34.toNat:Int)==46)) else some false):Option Bool))=some (dot0 x)):=by
   cases x with
   | nil=> rfl
   | cons c q=>
    have:decide ((0:Int) < ((c::q).length:Int))=true:=by simp
    simp (disch:=decide) only [idx_lit,dot0,v6a,this,Option.bind_some,cond_true]
    rfl
  have hsx:s.length+(yna x).length+(if r= [] then 0 else 2)≤3 * a.length+100:=by
   cases r with
   | nil=> simpa [KRa] using hi
   | cons y r=> simp [KRa] at hi ⊢;omega
  refine ⟨s++yna x++(if r= [] then [] else [13,10]), ?_, ?_, ?_⟩
  ·unfold Z0a
   simp only [yga,hp,kZb]
   rw [←hp,hlen,hdo]
   have hlt2:decide ((p.length:Int) < ((p.length+1+r.length:Nat):Int))=true:=by simp;omega
   have hc:((bif dot0 x then (app 140737488355328 s [46]).bind fun v37=> some v37 else some s):Option (List UInt8))=some (s++(if dot0 x then [46] else [])):=by
    cases hx:dot0 x with
    | false=> simp
    | true=>
     simp only [yna,hx,if_true,List.length_cons] at hsx
     simp only [cond_true]
     rw [koa (by simp;omega)]
     simp
   have hdl:(s++(if dot0 x then [46] else [])).length+x.length=s.length+(yna x).length:=by unfold yna;cases dot0 x <;> simp <;> omega
   have hde:(s++(if dot0 x then [46] else []))++x=s++yna x:=by unfold yna;cases dot0 x <;> simp
   simp (disch:=omega) only [Jda,hlt2,cond_true,Option.bind_some,hc]
   rw [koa (by omega)]
   simp only [Option.bind_some,hde]
   cases r with
   | nil=> simp
   | cons y r=>
    have:decide (((p.length+1:Nat):Int) < ((p.length+1+(y::r).length:Nat):Int))=true:=by simp;omega
    simp only [this,cond_true]
    rw [koa (by simp at hsx ⊢;omega)]
    simp
  ·cases r with
   | nil=> simp [KRa]
   | cons y r=> simp [KRa]
  ·cases r with
   | nil=> simp [KRa] at hi ⊢;omega
   | cons y r=> simp [KRa] at hi ⊢;omega
 ·simp;omega
end Go.Proofs.YtjnmamghadpedaaGreatDoor
namespace Go.Proofs.YtjnmamghadpedaaGreatDoor
open Go.RowKit
set_option maxHeartbeats 1000000
theorem recF_inv {l:List zca} (h:(recF l).Code=0):(∀r∈l,wDa r.Address=true∧ZHa r.Notify=true)∧(l.map (·.Address)).Nodup:=by
 have hz:zUa (recQ l) 0 l=none:=by
  unfold recF at h
  cases hf:zUa (recQ l) 0 l with
  | none=> rfl
  | some f=>
   exfalso
   rw [hf] at h
   obtain ⟨i,x,hx,hq⟩:=Zma hf
   unfold recQ at hq
   split at hq
   ·cases hq;simp at h
   ·split at hq
    ·cases hq;simp at h
    ·split at hq
     ·cases hq;simp at h
     ·cases hq
 rw [v7a] at hz
 have key:∀(i:Nat) r,l[i]? =some r→wDa r.Address=true∧ZHa r.Notify=true∧(l.take i).any (fun x=> x.Address==r.Address)=false:=by
  intro i r hr
  have:=hz i r hr
  rw [Nat.zero_add] at this
  unfold recQ at this
  cases h1:wDa r.Address with
  | false=> rw [h1] at this;simp at this
  | true=>
   cases h2:ZHa r.Notify with
   | false=> rw [h1,h2] at this;simp at this
   | true=>
    cases h3:(l.take i).any (fun x=> x.Address==r.Address) with
    | true=> rw [h1,h2,h3] at this;simp at this
    | false=> exact ⟨rfl,rfl,rfl⟩
 refine ⟨fun r hr=> ?_, ?_⟩
 ·obtain ⟨i,hi⟩:=List.getElem?_of_mem hr
  exact ⟨(key i r hi).1,(key i r hi).2.1⟩
 ·rw [List.Nodup,List.pairwise_iff_getElem]
  intro i j hi hj hij
  simp only [List.length_map] at hi hj
  simp only [List.getElem_map]
  have h3:=(key j l[j] (List.getElem?_eq_getElem hj)).2.2
  rw [List.any_eq_false] at h3
  have:=h3 l[i] (List.mem_of_getElem? (i:=i) (by rw [List.getElem?_take_of_lt hij];exact List.getElem?_eq_getElem hi))
  simpa using this
end Go.Proofs.YtjnmamghadpedaaGreatDoor
namespace Go.Proofs.YtjnmamghadpedaaGreatDoor
open Go.RowKit
set_option maxHeartbeats 1000000
abbrev Talk:=zea
theorem msgF_ok {m:zxa} (h:(msgF m).Code=0):(∀f∈m.Fields,ZJa f=0)∧m.Fields.length≤60∧(zsa m).length≤12000:=by
 have hh:=KHa _ (zZb h)
 refine ⟨hh.2.2,by omega, ?_⟩
 unfold msgF at h
 rw [if_neg (by simp [zZb h])] at h
 split at h
 ·exact absurd h (by decide)
 ·omega
theorem vCb {m:kea} (h:(jZa m).Code=0):(envF m.Envelope).Code=0∧(msgF m.Message).Code=0:=W7a h
theorem rec_inv' {l:List zca} (h:(recF l).Code=0):∀r∈l,wDa r.Address=true∧ZHa r.Notify=true:=(recF_inv h).1
def rawP (m:zxa):Bool:= !decide ([13,10] <:+zsa m)
def qeb:zta:=⟨8, [], [],0,0,false⟩
def w8b:zta:=⟨4, [], [],0,0,false⟩
def qRb (n:Str):zta:=⟨1,n, [],0,0,false⟩
def qfb (f:Str) (n:Nat):zta:=⟨2, [],f,n,0,false⟩
def w9b (r:zca):zta:=⟨3, [],r.Address,0,r.Notify,false⟩
def z3b (n:Nat):zta:=⟨5, [], [],n,0,true⟩
theorem qgb:Qoa qeb:=⟨by decide,by decide,by decide,fun h=> h.elim (fun h=> absurd h (by decide)) (fun h=> absurd h.1 (by decide)),by decide,by decide⟩
theorem qhb:Qoa w8b:=⟨by decide,by decide,by decide,fun h=> h.elim (fun h=> absurd h (by decide)) (fun h=> absurd h.1 (by decide)),by decide,by decide⟩
theorem zbb {n:Str} (h:jDa n=true):Qoa (qRb n):=⟨⟨Int.le_refl 1,show (1:Int)≤8 by decide⟩,rfl,fun _=> h,fun h=> h.elim (fun h=> absurd h (show ¬(1:Int)=3 by decide)) (fun h=> absurd h.1 (show ¬(1:Int)=2 by decide)),⟨Int.le_refl 0,show (0:Int)≤1000000 by decide⟩,⟨Int.le_refl 0,show (0:Int)≤7 by decide⟩⟩
theorem qib {f:Str} {n:Nat} (h:f= []∨wDa f=true) (hn:n≤1000000):Qoa (qfb f n):=
 ⟨⟨show (1:Int)≤2 by decide,show (2:Int)≤8 by decide⟩,rfl,fun h=> absurd h (show ¬(2:Int)=1 by decide),fun hv=> h.elim (fun h0=> hv.elim (fun hv=> absurd hv (show ¬(2:Int)=3 by decide)) fun hv=> absurd h0 hv.2) id,⟨show (0:Int)≤(n:Int) by omega,show (n:Int)≤1000000 by omega⟩,⟨Int.le_refl 0,show (0:Int)≤7 by decide⟩⟩
theorem qjb {r:zca} (h:wDa r.Address=true∧ZHa r.Notify=true):Qoa (w9b r):=by
 have h2:=h.2
 unfold ZHa at h2
 simp only [Bool.and_eq_true,decide_eq_true_eq] at h2
 exact ⟨⟨show (1:Int)≤3 by decide,show (3:Int)≤8 by decide⟩,rfl,fun h=> absurd h (show ¬(3:Int)=1 by decide),fun _=> h.1,⟨Int.le_refl 0,show (0:Int)≤1000000 by decide⟩,h2⟩
theorem Q6a {n:Nat} (hn:n≤1000000):Qoa (z3b n):=
 ⟨⟨show (1:Int)≤5 by decide,show (5:Int)≤8 by decide⟩,rfl,fun h=> absurd h (show ¬(5:Int)=1 by decide),fun h=> h.elim (fun h=> absurd h (show ¬(5:Int)=3 by decide)) (fun h=> absurd h.1 (show ¬(5:Int)=2 by decide)),⟨show (0:Int)≤(n:Int) by omega,show (n:Int)≤1000000 by omega⟩,⟨Int.le_refl 0,show (0:Int)≤7 by decide⟩⟩
theorem cmd_zero {c:zta} (ok:Qoa c):cmdF c=⟨0,0⟩:=by
 have h1:(decide (c.Verb < 1) || decide (8 < c.Verb))=false:=by
  have:=ok.verb
  rw [decide_eq_false (by omega),decide_eq_false (by omega)];rfl
 have h3:(c.Verb==1 && !jDa c.Name)=false:=by
  by_cases h:c.Verb=1
  ·rw [ok.name h];simp
  ·rw [beq_eq_false_iff_ne.2 h];rfl
 have h4:((c.Verb==3 || (c.Verb==2 && c.Address !=([]:Str))) && !wDa c.Address)=false:=by
  by_cases h:c.Verb=3∨(c.Verb=2∧c.Address≠ [])
  ·rw [ok.addr h];simp
  ·have h5:¬c.Verb=3:=fun e=> h (.inl e)
   rw [beq_eq_false_iff_ne.2 h5]
   by_cases h2:c.Verb=2
   ·have:c.Address= []:=Classical.byContradiction fun e=> h (.inr ⟨h2,e⟩)
    rw [this];simp
   ·rw [beq_eq_false_iff_ne.2 h2];rfl
 have h5:(decide (c.Size < 0) || decide (1000000 < c.Size))=false:=by
  have:=ok.size
  rw [decide_eq_false (by omega),decide_eq_false (by omega)];rfl
 have h6:ZHa c.Notify=true:=by
  have:=ok.note
  unfold ZHa
  rw [decide_eq_true this.1,decide_eq_true this.2];rfl
 unfold cmdF
 rw [h1,ok.used,h3,h4,h5,h6]
 rfl
theorem dec7 {n:Int} (h:0≤n∧n≤1000000):(Lib.decDigits n.toNat).length≤7:=KEa 6 n.toNat (by omega)
theorem zcb {c:zta} (ok:Qoa c):(cmdT c).length≤400:=by
 have hwl:=(Wwa ok.verb).2
 have hal:=Q4a ok
 have hd:=dec7 ok.size
 have hc:=Yaa ok.note
 have hn:c.Verb=1→c.Name.length≤60:=fun h=> (QYa (ok.name h)).2
 unfold cmdT ZKa argT
 by_cases h1:c.Verb=1
 ·have:=hn h1
  rw [if_pos h1];simp;omega
 rw [if_neg h1]
 by_cases h2:c.Verb=2
 ·rw [if_pos h2]
  by_cases hs:c.Size=0
  ·rw [if_pos hs];simp;omega
  ·rw [if_neg hs];simp;omega
 rw [if_neg h2]
 by_cases h3:c.Verb=3
 ·rw [if_pos h3]
  by_cases hs:c.Notify=1
  ·rw [if_pos hs];simp;omega
  ·rw [if_neg hs];simp;omega
 rw [if_neg h3]
 by_cases h5:c.Verb=5
 ·rw [if_pos h5]
  cases c.Last <;> simp <;> omega
 ·rw [if_neg h5];simp;omega
def KSa (out:List UInt8) (c:zta):List UInt8:=out++cmdT c++ [13,10]
def ses (t:Talk) (b:List UInt8) (r:Bool):zfa:=⟨t.C,b,r,t.Out⟩
theorem yab {c:zta} (ok:Qoa c) (hn:c.Name.length≤1048576):qab c:=by
 have hal:=Q4a ok
 exact ⟨hn,by omega⟩
theorem VHa (t:Talk) (b:List UInt8) (r:Bool) (c:zta) (ok:Qoa c) (hn:c.Name.length≤1048576) (ho:t.Out.length≤1000000000000):zFa (ses t b r) c=some (ses ⟨t.C,KSa t.Out c⟩ b r):=by
 have hl:=zcb ok
 unfold zFa ses
 rw [Wga c (yab ok hn),cmd_zero ok]
 simp only [Option.bind_some,bne_self_eq_false,cond_false]
 rw [koa (by omega)]
 simp only [Option.bind_some]
 rw [koa (by simp;omega)]
 rfl
theorem yAa (t:Talk) (c:zta) (ok:Qoa c) (ho:t.Out.length≤1000000000000):vGa t c=some ⟨t.C,KSa t.Out c⟩:=by
 have hl:=zcb ok
 unfold vGa
 rw [Wia ok]
 simp only [Option.bind_some]
 rw [koa (by omega)]
 simp only [Option.bind_some]
 rw [koa (by simp;omega)]
 rfl
structure Good (c:zla):Prop where
 name:jDa c.Name=true
 mail:(jZa c.Mail).Code=0
structure GoodM (m:kea):Prop where
 frm:m.Envelope.From= []∨wDa m.Envelope.From=true
 many:1≤m.Envelope.To.length∧m.Envelope.To.length≤60
 tos:∀r∈m.Envelope.To,wDa r.Address=true∧ZHa r.Notify=true
 codes:∀f∈m.Message.Fields,ZJa f=0
 many60:m.Message.Fields.length≤60
 big:(zsa m.Message).length≤12000
 body:m.Message.Body.length≤12000
theorem zZa {m:kea} (h:(jZa m).Code=0):GoodM m:=by
 obtain ⟨he,hm⟩:=vCb h
 obtain ⟨m1,m2,m3⟩:=msgF_ok hm
 have h' :=he
 unfold envF at h'
 split at h'
 ·exact absurd h' (by decide)
 rename_i hfr
 split at h'
 ·exact absurd h' (by decide)
 rename_i hto
 split at h'
 ·exact absurd h' (by decide)
 simp only [Bool.or_eq_true,decide_eq_true_eq] at hto
 refine ⟨?_,by omega,rec_inv' h',m1,m2,m3, ?_⟩
 ·by_cases h0:m.Envelope.From= []
  ·exact .inl h0
  ·right
   unfold fromB at hfr
   have:(m.Envelope.From !=([]:Str))=true:=by simpa using h0
   rw [this] at hfr
   simpa using hfr
 ·unfold zsa at m3
  simp only [List.length_append] at m3
  omega
def askP (t:Talk) (k:Nat):Talk:=
 if k=1 then ⟨t.C,KSa t.Out (qRb t.C.Name)⟩ else if k=2 then ⟨t.C,KSa t.Out (qfb t.C.Mail.Envelope.From (zsa t.C.Mail.Message).length)⟩ else
 match t.C.Mail.Envelope.To[k - 3]? with
 | some r=> ⟨t.C,KSa t.Out (w9b r)⟩
 | none=> if rawP t.C.Mail.Message=true then ⟨{t.C with Whole:=true},KSa t.Out (z3b (zsa t.C.Mail.Message).length)++zsa t.C.Mail.Message⟩ else ⟨t.C,KSa t.Out w8b⟩
theorem ask_C (t:Talk) (k:Nat):(askP t k).C={t.C with Whole:=(askP t k).C.Whole}:=by
 unfold askP
 split
 ·rfl
 ·split
  ·rfl
  ·split
   ·rfl
   ·split <;> rfl
theorem w9a {o:List UInt8} {c:zta} (ok:Qoa c):(KSa o c).length≤o.length+402:=by
 have:=zcb ok
 unfold KSa
 simp;omega
theorem zdb {t:Talk} (g:Good t.C) (k:Nat):(askP t k).Out.length≤t.Out.length+12402:=by
 have gm:=zZa g.mail
 have hb:=gm.big
 unfold askP
 split
 ·have:=w9a (o:=t.Out) (zbb g.name)
  dsimp only;omega
 ·split
  ·have:=w9a (o:=t.Out) (qib (n:=(zsa t.C.Mail.Message).length) gm.frm (by omega))
   dsimp only;omega
  ·split
   ·rename_i r hr
    have:=w9a (o:=t.Out) (qjb (gm.tos r (List.mem_of_getElem? hr)))
    dsimp only;omega
   ·split
    ·have:=w9a (o:=t.Out) (Q6a (n:=(zsa t.C.Mail.Message).length) (by omega))
     simp only [List.length_append];omega
    ·have:=w9a (o:=t.Out) qhb
     dsimp only;omega
theorem cmd_eq (t:Talk) (g:Good t.C) (ho:t.Out.length≤100000000000) (k:Nat) (h1:1≤k) (h2:k≤t.C.Mail.Envelope.To.length+3):
  zMa (ses t (zsa t.C.Mail.Message) (rawP t.C.Mail.Message)) (k:Int)=some (ses (askP t k) (zsa t.C.Mail.Message) (rawP t.C.Mail.Message)):=by
 have gm:=zZa g.mail
 have hb:=gm.big
 have hm:=gm.many
 have hn:=QYa g.name
 unfold zMa askP
 by_cases k1:k=1
 ·subst k1
  have hs:=VHa t (zsa t.C.Mail.Message) (rawP t.C.Mail.Message) _ (zbb g.name) (by show t.C.Name.length≤_;omega) (by omega)
  rw [if_pos rfl]
  show ((zFa (ses t (zsa t.C.Mail.Message) (rawP t.C.Mail.Message)) (qRb t.C.Name)).bind fun v=> some v)=_
  rw [hs]
  rfl
 by_cases k2:k=2
 ·subst k2
  have hs:=VHa t (zsa t.C.Mail.Message) (rawP t.C.Mail.Message) _ (qib (n:=(zsa t.C.Mail.Message).length) gm.frm (by omega)) (by show ([]:Str).length≤_;simp) (by omega)
  rw [if_neg (by decide),if_pos rfl]
  show ((zFa (ses t (zsa t.C.Mail.Message) (rawP t.C.Mail.Message)) (qfb t.C.Mail.Envelope.From (zsa t.C.Mail.Message).length)).bind fun v=> some v)=_
  rw [hs]
  rfl
 have e1:((k:Int)==1)=false:=by rw [beq_eq_false_iff_ne];omega
 have e2:((k:Int)==2)=false:=by rw [beq_eq_false_iff_ne];omega
 have ek:w64 ((k:Int) - 3)=((k - 3:Nat):Int):=by rw [z0a (by omega) (by omega)];omega
 have en:w64 ((t.C.Mail.Envelope.To.length:Int)+3)=((t.C.Mail.Envelope.To.length+3:Nat):Int):=by rw [z0a (by omega) (by omega)];omega
 rw [e1,e2,if_neg k1,if_neg k2]
 unfold z9a
 simp only [cond_false,Option.bind_some]
 show (bif decide ((k:Int) < w64 ((t.C.Mail.Envelope.To.length:Int)+3)) then (idx t.C.Mail.Envelope.To (w64 ((k:Int) - 3))).bind fun v10=> (zFa (ses t (zsa t.C.Mail.Message) (rawP t.C.Mail.Message)) (w9b v10)).bind fun v12=> some v12 else _)=_
 rw [en,ek,yga]
 by_cases hk:k < t.C.Mail.Envelope.To.length+3
 ·rw [decide_eq_true (by omega),List.getElem?_eq_getElem (by omega)]
  have hr:=gm.tos _ (List.getElem_mem (show k - 3 < t.C.Mail.Envelope.To.length by omega))
  simp only [cond_true,Option.bind_some,VHa t _ _ _ (qjb hr) (by show ([]:Str).length≤_;simp) (by omega)]
 ·rw [decide_eq_false (by omega),List.getElem?_eq_none (by omega)]
  dsimp only [cond_false]
  cases hr:rawP t.C.Mail.Message with
  | true=>
   have hs:=VHa t (zsa t.C.Mail.Message) true _ (Q6a (n:=(zsa t.C.Mail.Message).length) (by omega)) (by show ([]:Str).length≤_;simp) (by omega)
   have hl:=w9a (o:=t.Out) (Q6a (n:=(zsa t.C.Mail.Message).length) (by omega))
   rw [if_pos rfl]
   show ((zFa (ses t (zsa t.C.Mail.Message) true) (z3b (zsa t.C.Mail.Message).length)).bind _)=_
   rw [hs]
   simp only [Option.bind_some]
   unfold ses
   dsimp only
   rw [koa (by omega)]
   rfl
  | false=>
   rw [if_neg (by decide)]
   show ((zFa (ses t (zsa t.C.Mail.Message) false) w8b).bind fun v=> some v)=_
   rw [VHa t _ _ _ qhb (by show ([]:Str).length≤_;simp) (by omega)]
   rfl
theorem suff2 (p:List UInt8) (x y:UInt8):decide ([13,10] <:+p++ [x,y])=(x==13 && y==10):=by
 rw [Bool.eq_iff_iff]
 simp only [decide_eq_true_eq,Bool.and_eq_true,beq_iff_eq]
 constructor
 ·rintro ⟨q,hq⟩
  have:=List.append_inj_right' hq rfl
  simp at this
  exact ⟨this.1.symm,this.2.symm⟩
 ·rintro ⟨rfl,rfl⟩
  exact ⟨p,rfl⟩
theorem ybb (m:zxa):2≤(zsa m).length:=by
 unfold zsa
 simp;omega
theorem Yia {m:zxa} (h1:m.Body.length≤12000) (h2:m.Fields.length≤60) (h3:∀f∈m.Fields,ZJa f=0) (h4:(zsa m).length≤12000):VWa m=some (rawP m):=by
 have hl:=ybb m
 unfold VWa rawP
 rw [vza m (by omega) h2 h3]
 obtain ⟨p,x,y,hb⟩:∃p x y,zsa m=p++ [x,y]:=by
  generalize zsa m=b at hl
  obtain ⟨q,y,rfl⟩:∃q y,b=q++ [y]:=⟨b.dropLast,b.getLast (by intro e;subst e;simp at hl),(List.dropLast_concat_getLast _).symm⟩
  have hq:q≠ []:=by intro e;subst e;simp at hl
  obtain ⟨p,x,rfl⟩:∃p x,q=p++ [x]:=⟨q.dropLast,q.getLast hq,(List.dropLast_concat_getLast _).symm⟩
  exact ⟨p,x,y,by simp⟩
 rw [hb] at h4 ⊢
 rw [suff2]
 simp only [List.length_append,List.length_cons,List.length_nil] at h4
 have e1:w64 (((p++ [x,y]).length:Int) - 2)=(p.length:Int):=by simp only [List.length_append,List.length_cons,List.length_nil];rw [z0a (by omega) (by omega)];omega
 have e2:w64 (((p++ [x,y]).length:Int) - 1)=((p++ [x]).length:Int):=by simp only [List.length_append,List.length_cons,List.length_nil];rw [z0a (by omega) (by omega)];omega
 have i1:idx (p++ [x,y]) (p.length:Int)=some x:=JWa p x [y]
 have i2:idx (p++ [x,y]) ((p++ [x]).length:Int)=some y:=by
  have:=JWa (p++ [x]) y []
  simpa using this
 simp only [Option.bind_some]
 rw [e1,e2,i1,i2]
 simp only [Option.bind_some,Qma x 13 (by decide),Qma y 10 (by decide)]
 unfold bne
 cases x==13 <;> cases y==10 <;> rfl
theorem ask_eq (t:Talk) (g:Good t.C) (ho:t.Out.length≤100000000000) (k:Nat) (h1:1≤k) (h2:k≤t.C.Mail.Envelope.To.length+3):VXa t (k:Int)=some (askP t k):=by
 have gm:=zZa g.mail
 have hb:=gm.big
 have hm:=gm.many
 unfold VXa askP
 rw [vza _ (by have:=gm.body;omega) gm.many60 gm.codes]
 simp only [Option.bind_some]
 by_cases k1:k=1
 ·subst k1
  rw [if_pos rfl]
  show ((vGa t (qRb t.C.Name)).bind fun v=> some v)=_
  rw [yAa t _ (zbb g.name) (by omega)]
  rfl
 by_cases k2:k=2
 ·subst k2
  rw [if_neg (by decide),if_pos rfl]
  show ((vGa t (qfb t.C.Mail.Envelope.From (zsa t.C.Mail.Message).length)).bind fun v=> some v)=_
  rw [yAa t _ (qib gm.frm (by omega)) (by omega)]
  rfl
 have e1:((k:Int)==1)=false:=by rw [beq_eq_false_iff_ne];omega
 have e2:((k:Int)==2)=false:=by rw [beq_eq_false_iff_ne];omega
 have ek:w64 ((k:Int) - 3)=((k - 3:Nat):Int):=by rw [z0a (by omega) (by omega)];omega
 have en:w64 ((t.C.Mail.Envelope.To.length:Int)+3)=((t.C.Mail.Envelope.To.length+3:Nat):Int):=by rw [z0a (by omega) (by omega)];omega
 rw [e1,e2,if_neg k1,if_neg k2,en,ek,yga]
 simp only [cond_false]
 by_cases hk:k < t.C.Mail.Envelope.To.length+3
 ·rw [decide_eq_true (by omega),List.getElem?_eq_getElem (by omega)]
  have hr:=gm.tos _ (List.getElem_mem (show k - 3 < t.C.Mail.Envelope.To.length by omega))
  simp only [cond_true,Option.bind_some]
  show ((vGa t (w9b _)).bind fun v=> some v)=_
  rw [yAa t _ (qjb hr) (by omega)]
  rfl
 ·rw [decide_eq_false (by omega),List.getElem?_eq_none (by omega),Yia gm.body gm.many60 gm.codes gm.big]
  simp only [cond_false,Option.bind_some]
  cases hr:rawP t.C.Mail.Message with
  | true=>
   have hl:=w9a (o:=t.Out) (Q6a (n:=(zsa t.C.Mail.Message).length) (by omega))
   show ((vGa t (z3b (zsa t.C.Mail.Message).length)).bind _)=_
   rw [yAa t _ (Q6a (by omega)) (by omega)]
   simp only [Option.bind_some]
   rw [koa (by omega)]
   rfl
  | false=>
   show ((vGa t w8b).bind fun v=> some v)=_
   rw [yAa t _ qhb (by omega)]
   rfl
end Go.Proofs.YtjnmamghadpedaaGreatDoor
namespace Go.Proofs.YtjnmamghadpedaaGreatDoor
open Go.RowKit
set_option maxHeartbeats 1000000
set_option maxRecDepth 20000
def Zqa:Nat→Nat→Talk→Talk
 | 0,_,t=> t
 | m+1,k,t=> Zqa m (k+1) (askP t k)
theorem zeb {t:Talk} (g:Good t.C) (k:Nat):Good (askP t k).C:=by rw [ask_C];exact ⟨g.name,g.mail⟩
theorem KJa (t:Talk) (k:Nat):(askP t k).C.Mail=t.C.Mail:=by rw [ask_C]
theorem asks_C:∀(m k:Nat) (t:Talk),(Zqa m k t).C={t.C with Whole:=(Zqa m k t).C.Whole}
 | 0,_,_=> rfl
 | m+1,k,t=> by
  have h:=asks_C m (k+1) (askP t k)
  have h2:=ask_C t k
  show (Zqa m (k+1) (askP t k)).C=_
  rw [h,h2]
  rfl
def bnd:Nat→Nat
 | 0=> 0
 | m+1=> bnd m+12402
theorem Wya (m:Nat):bnd (m+1)=bnd m+12402:=rfl
theorem bnd_le:∀m d:Nat,bnd m≤bnd (m+d)
 | m,0=> Nat.le_refl _
 | m,d+1=> by have:=bnd_le m d;have h:=Wya (m+d);rw [←Nat.add_assoc];omega
theorem ycb {m:Nat} (h:m≤64):bnd m≤800000:=by
 have h1:=bnd_le m (64 - m)
 rw [show m+(64 - m)=64 by omega] at h1
 have h2:bnd 64≤800000:=by decide
 omega
theorem qSb:∀(m k:Nat) (t:Talk),Good t.C→(Zqa m k t).Out.length≤t.Out.length+bnd m
 | 0,_,t,_=> by show t.Out.length≤_;omega
 | m+1,k,t,g=> by
  have h:=qSb m (k+1) (askP t k) (zeb g k)
  have h2:=zdb g k
  have h3:=Wya m
  show (Zqa m (k+1) (askP t k)).Out.length≤_
  omega
theorem Yja (j:Int × Bool):∀(m k:Nat) (t:Talk),Good t.C→t.Out.length+bnd m≤95000000000→1≤k→k+m=t.C.Mail.Envelope.To.length+4→j.1=((t.C.Mail.Envelope.To.length+3:Nat):Int)→
  iter (zXa j) ((k:Int),ses t (zsa t.C.Mail.Message) (rawP t.C.Mail.Message))=some (ses (Zqa m k t) (zsa t.C.Mail.Message) (rawP t.C.Mail.Message))
 | 0,k,t,g,ho,h1,hk,hj=> by
  refine zHa ?_
  unfold zXa
  dsimp only
  rw [hj,decide_eq_false (by omega)]
  rfl
 | m+1,k,t,g,ho,h1,hk,hj=> by
  have hm:=(zZa g.mail).many
  have hstep:zXa j ((k:Int),ses t (zsa t.C.Mail.Message) (rawP t.C.Mail.Message))=some (.cont (((k+1:Nat):Int),ses (askP t k) (zsa t.C.Mail.Message) (rawP t.C.Mail.Message))):=by
   unfold zXa
   dsimp only
   rw [hj,decide_eq_true (by omega),cond_true,cmd_eq t g (by omega) k h1 (by omega)]
   simp only [Option.bind_some]
   rw [show w64 ((k:Int)+1)=((k+1:Nat):Int) by rw [z0a (by omega) (by omega)];omega]
  rw [zOa hstep]
  have hl:=zdb g k
  have h3:=Wya m
  have:=Yja j m (k+1) (askP t k) (zeb g k) (by omega) (by omega) (by rw [KJa];omega) (by rw [KJa];exact hj)
  rw [KJa] at this
  exact this
theorem z4b (t0:Talk):∀(m k:Nat) (t:Talk),Good t.C→t.Out.length+bnd m≤95000000000→1≤k→k+m=t.C.Mail.Envelope.To.length+4→t0.C.Results.length=t.C.Mail.Envelope.To.length→
  iter (wPa t0) ((k:Int),t)=some (Zqa m k t)
 | 0,k,t,g,ho,h1,hk,hj=> by
  have hm:=(zZa g.mail).many
  refine zHa ?_
  unfold wPa
  dsimp only
  rw [hj,show w64 ((t.C.Mail.Envelope.To.length:Int)+3)=((t.C.Mail.Envelope.To.length+3:Nat):Int) by rw [z0a (by omega) (by omega)];omega,decide_eq_false (by omega)]
  rfl
 | m+1,k,t,g,ho,h1,hk,hj=> by
  have hm:=(zZa g.mail).many
  have hstep:wPa t0 ((k:Int),t)=some (.cont (((k+1:Nat):Int),askP t k)):=by
   unfold wPa
   dsimp only
   rw [hj,show w64 ((t.C.Mail.Envelope.To.length:Int)+3)=((t.C.Mail.Envelope.To.length+3:Nat):Int) by rw [z0a (by omega) (by omega)];omega,decide_eq_true (by omega),cond_true,ask_eq t g (by omega) k h1 (by omega)]
   simp only [Option.bind_some]
   rw [show w64 ((k:Int)+1)=((k+1:Nat):Int) by rw [z0a (by omega) (by omega)];omega]
  rw [zOa hstep]
  have hl:=zdb g k
  have h3:=Wya m
  exact z4b t0 m (k+1) (askP t k) (zeb g k) (by omega) (by omega) (by rw [KJa];omega) (by rw [KJa];exact hj)
def setE (t:Talk) (e:Int):Talk:=⟨{t.C with Expected:=e},t.Out⟩
def many (t:Talk):Nat:=t.C.Mail.Envelope.To.length
def onP1 (t:Talk) (e:Nat):Talk:=if t.C.Pipelined=false∨e=0 then askP (setE t ((e+1:Nat):Int)) (e+1) else if e=1 then Zqa (many t+2) 2 (setE t ((e+1:Nat):Int)) else setE t ((e+1:Nat):Int)
def kWa (t:Talk) (e:Nat):Talk:=if e+1=many t+3∧rawP t.C.Mail.Message=true then setE (onP1 t e) ((e+2:Nat):Int) else onP1 t e
theorem on1_C (t:Talk) (e:Nat):(onP1 t e).C={t.C with Expected:=((e+1:Nat):Int),Whole:=(onP1 t e).C.Whole}:=by
 unfold onP1
 split
 ·rw [ask_C];rfl
 ·split
  ·rw [asks_C];rfl
  ·rfl
theorem on1_len {t:Talk} (g:Good t.C) (e:Nat):(onP1 t e).Out.length≤t.Out.length+800000:=by
 have hm:=(zZa g.mail).many
 have g' :Good (setE t ((e+1:Nat):Int)).C:=⟨g.name,g.mail⟩
 unfold onP1
 split
 ·have:=zdb g' (e+1)
  have e1:(setE t ((e+1:Nat):Int)).Out=t.Out:=rfl
  rw [e1] at this;omega
 ·split
  ·have:=qSb (many t+2) 2 _ g'
   have h3:=ycb (m:=many t+2) (by show t.C.Mail.Envelope.To.length+2≤_;omega)
   have e1:(setE t ((e+1:Nat):Int)).Out=t.Out:=rfl
   have e2:many t=t.C.Mail.Envelope.To.length:=rfl
   rw [e1] at this;omega
  ·show t.Out.length≤_;omega
theorem vDb {t:Talk} (g:Good t.C) (e:Nat):(kWa t e).Out.length≤t.Out.length+800000:=by
 have:=on1_len g e
 unfold kWa
 split
 ·exact this
 ·exact this
theorem z5b (t:Talk) (g:Good t.C) (ho:t.Out.length≤90000000000) (e:Nat) (he:t.C.Expected=(e:Int)) (h2:e≤many t+2):
  kaa (ses t (zsa t.C.Mail.Message) (rawP t.C.Mail.Message))=some (ses (kWa t e) (zsa t.C.Mail.Message) (rawP t.C.Mail.Message)):=by
 have hm:=(zZa g.mail).many
 have hmt:many t=t.C.Mail.Envelope.To.length:=rfl
 have ew:w64 (t.C.Expected+1)=((e+1:Nat):Int):=by rw [he,z0a (by omega) (by omega)];omega
 have g' :Good (setE t ((e+1:Nat):Int)).C:=⟨g.name,g.mail⟩
 have hs:(zfa.mk ((zla.mk t.C.Name t.C.Mail t.C.Pipelined t.C.Buffer ((w64 (t.C.Expected+1))) t.C.Whole t.C.Done t.C.Results)) (zsa t.C.Mail.Message) (rawP t.C.Mail.Message) t.Out)=ses (setE t ((e+1:Nat):Int)) (zsa t.C.Mail.Message) (rawP t.C.Mail.Message):=by rw [ew];rfl
 have en:w64 ((t.C.Mail.Envelope.To.length:Int)+3)=((many t+3:Nat):Int):=by rw [z0a (by omega) (by omega)];omega
 have hask:=cmd_eq (setE t ((e+1:Nat):Int)) g' (by show t.Out.length≤_;omega) (e+1) (by omega) (by show e+1≤t.C.Mail.Envelope.To.length+3;omega)
 have hloop:∀j:Int × Bool,j.1=((many t+3:Nat):Int)→iter (zXa j) (2,ses (setE t ((e+1:Nat):Int)) (zsa t.C.Mail.Message) (rawP t.C.Mail.Message))=some (ses (Zqa (many t+2) 2 (setE t ((e+1:Nat):Int))) (zsa t.C.Mail.Message) (rawP t.C.Mail.Message)):=fun j hj=>
  Yja j (many t+2) 2 (setE t ((e+1:Nat):Int)) g' (by have:=ycb (m:=many t+2) (by omega);show t.Out.length+bnd (many t+2)≤_;omega) (by omega) (by show 2+(many t+2)=t.C.Mail.Envelope.To.length+4;omega) hj
 have h1:∀q:Int × zfa,q=(((many t+3:Nat):Int),ses (onP1 t e) (zsa t.C.Mail.Message) (rawP t.C.Mail.Message))→
   (((bif (q.2.Client.Expected==q.1) then some q.2.chunk else some false):Option Bool).bind fun (j16:Bool)=> (bif j16 then some ((zfa.mk ((zla.mk q.2.Client.Name q.2.Client.Mail q.2.Client.Pipelined q.2.Client.Buffer ((w64 (q.2.Client.Expected+1))) q.2.Client.Whole q.2.Client.Done q.2.Client.Results)) q.2.content q.2.chunk q.2.out)) else some q.2))=some (ses (kWa t e) (zsa t.C.Mail.Message) (rawP t.C.Mail.Message)):=by
  rintro q rfl
  have hE:(ses (onP1 t e) (zsa t.C.Mail.Message) (rawP t.C.Mail.Message)).Client.Expected=((e+1:Nat):Int):=by show (onP1 t e).C.Expected=_;rw [on1_C]
  have ew2:w64 (((e+1:Nat):Int)+1)=((e+2:Nat):Int):=by rw [z0a (by omega) (by omega)];omega
  dsimp only
  rw [hE,ew2]
  unfold kWa
  by_cases hc:e+1=many t+3
  ·rw [show (((e+1:Nat):Int)==((many t+3:Nat):Int))=true by rw [beq_iff_eq];omega]
   simp only [cond_true,Option.bind_some]
   show (bif rawP t.C.Mail.Message then _ else _)=_
   cases hr:rawP t.C.Mail.Message with
   | true=> rw [if_pos ⟨hc,rfl⟩];rfl
   | false=> rw [if_neg (fun h=> by cases h.2)];rfl
  ·rw [show (((e+1:Nat):Int)==((many t+3:Nat):Int))=false by rw [beq_eq_false_iff_ne];omega,if_neg (fun h=> hc h.1)]
   rfl
 unfold kaa
 rw [show (zfa.mk ((zla.mk (ses t (zsa t.C.Mail.Message) (rawP t.C.Mail.Message)).Client.Name (ses t (zsa t.C.Mail.Message) (rawP t.C.Mail.Message)).Client.Mail (ses t (zsa t.C.Mail.Message) (rawP t.C.Mail.Message)).Client.Pipelined (ses t (zsa t.C.Mail.Message) (rawP t.C.Mail.Message)).Client.Buffer ((w64 ((ses t (zsa t.C.Mail.Message) (rawP t.C.Mail.Message)).Client.Expected+1))) (ses t (zsa t.C.Mail.Message) (rawP t.C.Mail.Message)).Client.Whole (ses t (zsa t.C.Mail.Message) (rawP t.C.Mail.Message)).Client.Done (ses t (zsa t.C.Mail.Message) (rawP t.C.Mail.Message)).Client.Results)) (ses t (zsa t.C.Mail.Message) (rawP t.C.Mail.Message)).content (ses t (zsa t.C.Mail.Message) (rawP t.C.Mail.Message)).chunk (ses t (zsa t.C.Mail.Message) (rawP t.C.Mail.Message)).out)=ses (setE t ((e+1:Nat):Int)) (zsa t.C.Mail.Message) (rawP t.C.Mail.Message) from hs]
 unfold z9a
 simp only [Option.bind_some]
 show ((((bif (!t.C.Pipelined) then some ((w64 ((t.C.Mail.Envelope.To.length:Int)+3)),true) else some ((w64 ((t.C.Mail.Envelope.To.length:Int)+3)),((((e+1:Nat):Int))==1))):Option (Int × Bool)).bind _).bind _)=_
 rw [en]
 cases hp:t.C.Pipelined with
 | false=>
  have ho1:onP1 t e=askP (setE t ((e+1:Nat):Int)) (e+1):=by unfold onP1;rw [if_pos (.inl hp)]
  simp only [Bool.not_false,cond_true,Option.bind_some]
  show ((zMa (ses (setE t ((e+1:Nat):Int)) (zsa t.C.Mail.Message) (rawP t.C.Mail.Message)) ((e+1:Nat):Int)).bind _).bind _=_
  rw [show zMa (ses (setE t ((e+1:Nat):Int)) (zsa t.C.Mail.Message) (rawP t.C.Mail.Message)) ((e+1:Nat):Int)=_ from hask]
  simp only [Option.bind_some]
  exact h1 _ (by rw [ho1])
 | true=>
  simp only [Bool.not_true,cond_false,Option.bind_some]
  by_cases h0:e=0
  ·have ho1:onP1 t e=askP (setE t ((e+1:Nat):Int)) (e+1):=by unfold onP1;rw [if_pos (.inr h0)]
   rw [show (((e+1:Nat):Int)==1)=true by rw [beq_iff_eq];omega]
   simp only [cond_true]
   show ((zMa (ses (setE t ((e+1:Nat):Int)) (zsa t.C.Mail.Message) (rawP t.C.Mail.Message)) ((e+1:Nat):Int)).bind _).bind _=_
   rw [show zMa (ses (setE t ((e+1:Nat):Int)) (zsa t.C.Mail.Message) (rawP t.C.Mail.Message)) ((e+1:Nat):Int)=_ from hask]
   simp only [Option.bind_some]
   exact h1 _ (by rw [ho1])
  ·rw [show (((e+1:Nat):Int)==1)=false by rw [beq_eq_false_iff_ne];omega]
   simp only [cond_false]
   show ((bif (((e+1:Nat):Int)==2) then _ else _):Option (Int × zfa)).bind _=_
   by_cases h1' :e=1
   ·have ho1:onP1 t e=Zqa (many t+2) 2 (setE t ((e+1:Nat):Int)):=by unfold onP1;rw [if_neg (by rw [hp];simp [h0]),if_pos h1']
    rw [show (((e+1:Nat):Int)==2)=true by rw [beq_iff_eq];omega]
    simp only [cond_true]
    rw [hloop _ rfl]
    simp only [Option.bind_some]
    exact h1 _ (by rw [ho1])
   ·have ho1:onP1 t e=setE t ((e+1:Nat):Int):=by unfold onP1;rw [if_neg (by rw [hp];simp [h0]),if_neg h1']
    rw [show (((e+1:Nat):Int)==2)=false by rw [beq_eq_false_iff_ne];omega]
    simp only [cond_false,Option.bind_some]
    exact h1 _ (by rw [ho1])
theorem ydb (t:Talk) (g:Good t.C) (ho:t.Out.length≤90000000000) (e:Nat) (he:t.C.Expected=(e:Int)) (h2:e≤many t+2) (hlen:t.C.Results.length=many t):Vza t=some (kWa t e):=by
 have hm:=(zZa g.mail).many
 have gm:=zZa g.mail
 have hmt:many t=t.C.Mail.Envelope.To.length:=rfl
 have ew:w64 (t.C.Expected+1)=((e+1:Nat):Int):=by rw [he,z0a (by omega) (by omega)];omega
 have g' :Good (setE t ((e+1:Nat):Int)).C:=⟨g.name,g.mail⟩
 have hs:(zea.mk ((zla.mk t.C.Name t.C.Mail t.C.Pipelined t.C.Buffer ((w64 (t.C.Expected+1))) t.C.Whole t.C.Done t.C.Results)) t.Out)=setE t ((e+1:Nat):Int):=by rw [ew];rfl
 have hask:=ask_eq (setE t ((e+1:Nat):Int)) g' (by show t.Out.length≤_;omega) (e+1) (by omega) (by show e+1≤t.C.Mail.Envelope.To.length+3;omega)
 have hloop:iter (wPa t) (2,setE t ((e+1:Nat):Int))=some (Zqa (many t+2) 2 (setE t ((e+1:Nat):Int))):=
  z4b t (many t+2) 2 (setE t ((e+1:Nat):Int)) g' (by have:=ycb (m:=many t+2) (by omega);show t.Out.length+bnd (many t+2)≤_;omega) (by omega) (by show 2+(many t+2)=t.C.Mail.Envelope.To.length+4;omega) hlen
 have e3:w64 ((t.C.Results.length:Int)+3)=((many t+3:Nat):Int):=by rw [hlen,z0a (by omega) (by omega)];omega
 have e4:w64 ((t.C.Results.length:Int)+4)=((many t+4:Nat):Int):=by rw [hlen,z0a (by omega) (by omega)];omega
 have h1:∀q:Talk,q=onP1 t e→((((bif (q.C.Expected==(w64 ((t.C.Results.length:Int)+3))) then (VWa q.C.Mail.Message).bind fun v17=> some v17 else some false):Option Bool).bind fun (j15:Bool)=> (bif j15 then some ((zea.mk ((zla.mk q.C.Name q.C.Mail q.C.Pipelined q.C.Buffer ((w64 ((t.C.Results.length:Int)+4))) q.C.Whole q.C.Done q.C.Results)) q.Out)) else some q):Option zea).bind fun (j14:zea)=> some j14)=some (kWa t e):=by
  rintro q rfl
  have hE:(onP1 t e).C.Expected=((e+1:Nat):Int):=by rw [on1_C]
  have hM:(onP1 t e).C.Mail=t.C.Mail:=by rw [on1_C]
  rw [hE,e3,e4,hM,Yia gm.body gm.many60 gm.codes gm.big]
  unfold kWa
  by_cases hc:e+1=many t+3
  ·rw [show (((e+1:Nat):Int)==((many t+3:Nat):Int))=true by rw [beq_iff_eq];omega]
   simp only [cond_true,Option.bind_some]
   cases hr:rawP t.C.Mail.Message with
   | true=>
    rw [if_pos ⟨hc,rfl⟩,show ((many t+4:Nat):Int)=((e+2:Nat):Int) by omega,←hM]
    rfl
   | false=> rw [if_neg (fun h=> by cases h.2)];rfl
  ·rw [show (((e+1:Nat):Int)==((many t+3:Nat):Int))=false by rw [beq_eq_false_iff_ne];omega,if_neg (fun h=> hc h.1)]
   rfl
 unfold Vza
 rw [hs,ew]
 cases hp:t.C.Pipelined with
 | false=>
  have ho1:onP1 t e=askP (setE t ((e+1:Nat):Int)) (e+1):=by unfold onP1;rw [if_pos (.inl hp)]
  simp only [Bool.not_false,cond_true,Option.bind_some]
  rw [show VXa (setE t ((e+1:Nat):Int)) (setE t ((e+1:Nat):Int)).C.Expected=_ from hask]
  simp only [Option.bind_some]
  exact h1 _ (by rw [ho1])
 | true=>
  simp only [Bool.not_true,cond_false,Option.bind_some]
  by_cases h0:e=0
  ·have ho1:onP1 t e=askP (setE t ((e+1:Nat):Int)) (e+1):=by unfold onP1;rw [if_pos (.inr h0)]
   rw [show (((e+1:Nat):Int)==1)=true by rw [beq_iff_eq];omega]
   simp only [cond_true]
   rw [show VXa (setE t ((e+1:Nat):Int)) (setE t ((e+1:Nat):Int)).C.Expected=_ from hask]
   simp only [Option.bind_some]
   exact h1 _ (by rw [ho1])
  ·rw [show (((e+1:Nat):Int)==1)=false by rw [beq_eq_false_iff_ne];omega]
   simp only [cond_false]
   show ((bif (((e+1:Nat):Int)==2) then _ else _):Option zea).bind _=_
   by_cases h1' :e=1
   ·have ho1:onP1 t e=Zqa (many t+2) 2 (setE t ((e+1:Nat):Int)):=by unfold onP1;rw [if_neg (by rw [hp];simp [h0]),if_pos h1']
    rw [show (((e+1:Nat):Int)==2)=true by rw [beq_iff_eq];omega]
    simp only [cond_true]
    rw [hloop]
    simp only [Option.bind_some]
    exact h1 _ (by rw [ho1])
   ·have ho1:onP1 t e=setE t ((e+1:Nat):Int):=by unfold onP1;rw [if_neg (by rw [hp];simp [h0]),if_neg h1']
    rw [show (((e+1:Nat):Int)==2)=false by rw [beq_eq_false_iff_ne];omega]
    simp only [cond_false,Option.bind_some]
    exact h1 _ (by rw [ho1])
end Go.Proofs.YtjnmamghadpedaaGreatDoor
namespace Go.Proofs.YtjnmamghadpedaaGreatDoor
open Go.RowKit
set_option maxHeartbeats 1000000
set_option maxRecDepth 20000
def jia (r x:Int):Int:=if x=0 then r else x
def KTa (l:List Int) (r:Int):List Int:=l.map (jia r)
theorem z6b (l:List Int) (r:Int):(KTa l r).length=l.length:=by unfold KTa;simp
def z7b (t:Talk) (r:Int):Talk:=⟨{t.C with Done:=true,Results:=KTa t.C.Results r},t.Out⟩
def V4a (t:Talk) (r:Int):Talk:=⟨(z7b t r).C,KSa t.Out qeb⟩
def anyO (l:List Int):Bool:=l.any fun x=> x==0
def tb (t:Talk) (b:List UInt8):Talk:=⟨{t.C with Buffer:=b},t.Out⟩
def sesR (S:zfa) (l:List Int):zfa:=⟨{S.Client with Results:=l},S.content,S.chunk,S.out⟩
theorem yeb (S:zfa) (r:Int) (hl:S.Client.Results.length≤1048576):kqa S r=some (sesR S (KTa S.Client.Results r)):=by
 have key:∀(q p:List Int),S.Client.Results=p++q→iter (z4a S r) ((p.length:Int),sesR S (p.map (jia r)++q))=some (sesR S (p.map (jia r)++q.map (jia r))):=by
  intro q
  induction q with
  | nil=>
   intro p hp
   refine zHa ?_
   unfold z4a
   dsimp only
   rw [hp,decide_eq_false (by simp)]
   simp
  | cons x q ih=>
   intro p hp
   have hlen:S.Client.Results.length=p.length+(q.length+1):=by rw [hp];simp
   have hpl:(p.map (jia r)).length=p.length:=by simp
   have hi:idx (p.map (jia r)++x::q) (p.length:Int)=some x:=by rw [←hpl];exact JWa _ _ _
   have hset:List.set (p.map (jia r)++x::q) (Int.toNat (p.length:Int)) r=p.map (jia r)++r::q:=by
    rw [Int.toNat_natCast,List.set_append_right _ _ (by simp)]
    simp
   have hstep:z4a S r ((p.length:Int),sesR S (p.map (jia r)++x::q))=some (.cont ((((p++ [x]).length:Nat):Int),sesR S ((p++ [x]).map (jia r)++q))):=by
    unfold z4a
    unfold sesR
    dsimp only
    rw [decide_eq_true (by omega),hi,hset]
    simp only [cond_true,Option.bind_some]
    rw [show w64 ((p.length:Int)+1)=(((p++ [x]).length:Nat):Int) by rw [z0a (by omega) (by omega)];simp]
    by_cases hx:x=0
    ·subst hx;simp [jia]
    ·rw [beq_eq_false_iff_ne.2 hx]
     simp [jia,hx]
   rw [zOa hstep,ih (p++ [x]) (by rw [hp];simp)]
   simp
 have:=key S.Client.Results [] rfl
 unfold kqa
 rw [show iter (z4a S r) (0,S)=_ from this]
 rfl
theorem KKa (t:Talk) (r:Int) (hl:t.C.Results.length≤1048576):Qla t r=some (tb (z7b t r) []):=by
 have:=(WWa t.C.Results (fun i (s:List Int)=> (i,s)) (fun s x=> s++ [jia r x]) id (fun i s=> s.length≤i) (body:=jXa t r)
  (fun s _=> by unfold jXa;simp [z1a]) (fun i x s hx hi=> by
   have hlt:=kca hx
   refine ⟨?_,by simp;omega⟩
   unfold jXa
   dsimp only
   rw [kAa hx,zYa hx]
   simp only [cond_true,Option.bind_some,sc i (by omega)]
   by_cases h0:x=0
   ·subst h0
    simp only [beq_self_eq_true,cond_true,Option.bind_some]
    rw [koa (by simp;omega)]
    simp [jia]
   ·rw [beq_eq_false_iff_ne.2 h0]
    simp only [cond_false,Option.bind_some]
    rw [koa (by simp;omega)]
    simp [jia,h0]) [] (by simp)).1
 have hf:∀(l s:List Int),l.foldl (fun s x=> s++ [jia r x]) s=s++KTa l r:=by
  intro l
  induction l with
  | nil=> intro s;simp [KTa]
  | cons x l ih=> intro s;rw [List.foldl_cons,ih];simp [KTa]
 unfold Qla
 rw [this,hf]
 rfl
theorem z8b (t:Talk) (r:Int) (hl:t.C.Results.length≤1048576):QSa t r=some (tb (z7b t r) []):=KKa t r hl
theorem Q7a (t:Talk) (b:List UInt8) (w:Bool) (r:Int) (hl:t.C.Results.length≤1048576) (ho:t.Out.length≤1000000000000):zJa (ses t b w) r=some (ses (V4a t r) b w):=by
 unfold zJa
 rw [yeb _ r hl]
 simp only [Option.bind_some]
 show ((zFa (ses ⟨{t.C with Results:=KTa t.C.Results r},t.Out⟩ b w) qeb).bind _)=_
 rw [VHa ⟨{t.C with Results:=KTa t.C.Results r},t.Out⟩ b w qeb qgb (by show ([]:Str).length≤_;simp) ho]
 rfl
theorem y7a (t:Talk) (r:Int) (hl:t.C.Results.length≤1048576) (ho:t.Out.length≤1000000000000):ysa t r=some (tb (V4a t r) []):=by
 unfold ysa
 rw [KKa t r hl]
 simp only [Option.bind_some]
 show ((vGa (tb (z7b t r) []) qeb).bind _)=_
 rw [yAa (tb (z7b t r) []) qeb qgb ho]
 rfl
theorem yfb (S:zfa) (hl:S.Client.Results.length≤1048576):kra S=some (!anyO S.Client.Results,S):=by
 unfold kra
 rw [zQa S.Client.Results (fun i x=> if (0==x)=true then some ((i:Nat):Int) else none) (.inl ()) .inr]
 ·simp only [Option.bind_some,Wva]
  rw [WXa (fun x=> 0==x) S.Client.Results 0]
  have:(S.Client.Results.any fun x=> 0==x)=anyO S.Client.Results:=by
   unfold anyO
   congr 1
   funext x
   rw [Bool.eq_iff_iff]
   simp only [beq_iff_eq]
   exact ⟨fun h=> h.symm,fun h=> h.symm⟩
  rw [this]
 ·unfold qca;rw [z1a];rfl
 ·intro i x hx
  have hi:=kca hx
  unfold qca
  rw [kAa hx,zYa hx]
  simp only [cond_true,Option.bind_some,sc i (by omega)]
  cases (0:Int)==x <;> rfl
theorem Joa (c:zla) (hl:c.Results.length≤1048576):yya c=some (anyO c.Results):=by
 unfold yya
 rw [zQa c.Results (fun _ x=> if (x==0)=true then some true else none) (.inl ()) .inr,wia]
 ·unfold anyO
  cases c.Results.any fun x=> x==0 <;> rfl
 ·unfold yta;rw [z1a];rfl
 ·intro i x hx
  have hi:=kca hx
  unfold yta
  rw [kAa hx,zYa hx]
  simp only [cond_true,Option.bind_some,sc i (by omega)]
  cases x==0 <;> rfl
structure CInv (c:zla):Prop where
 good:Good c
 len:c.Results.length=c.Mail.Envelope.To.length
 e0:0≤c.Expected
 e1:c.Expected≤(c.Mail.Envelope.To.length:Int)+4
 rng:∀r∈c.Results,0≤r∧r≤4
structure COpn (c:zla):Prop where
 whole:c.Whole=(decide (c.Expected=(c.Mail.Envelope.To.length:Int)+4) || (rawP c.Mail.Message && c.Pipelined && decide (2≤c.Expected)))
 nr:¬(rawP c.Mail.Message=true∧c.Expected=(c.Mail.Envelope.To.length:Int)+3)
 opn:∀(i:Nat) x,c.Results[i]? =some x→c.Expected≤(i:Int)+3→x=0
def wja (k:Int):Int:=if k=5 then 3 else 2
def setR (t:Talk) (i:Nat) (r:Int):Talk:=⟨{t.C with Results:=t.C.Results.set i r},t.Out⟩
def qkb (b:List UInt8):List UInt8:=y6a (fl [] b).1++ [46,13,10]
def doneP (t:Talk):Talk:=⟨{t.C with Done:=true},t.Out⟩
def bodyT (t:Talk):Talk:=⟨{t.C with Whole:=true,Expected:=((many t+4:Nat):Int)},t.Out++qkb (zsa t.C.Mail.Message)⟩
def kFa (t:Talk) (k:Int) (e:Nat):Talk:=if k=2 then t else setR t (e - 3) (wja k)
def YPa (t:Talk) (k:Int) (e:Nat):Talk:=
 if e≤2 then (if k=2 then kWa t e else V4a t (wja k))
 else if e≤many t+2 then (if e=many t+2∧t.C.Pipelined=false∧anyO (kFa t k e).C.Results=false then V4a (kFa t k e) 2 else kWa (kFa t k e) e)
 else if e=many t+3 then (if k=3 then (if anyO t.C.Results=false then doneP t else bodyT t) else V4a t (wja k))
 else if k=2 then V4a t 1 else V4a t (wja k)
theorem y8a {α β:Type} {o:Option α} {v:α} {f:α→Option β} {r:Option β} (h:o=some v) (h2:f v=r):o.bind f=r:=by rw [h];exact h2
theorem j1a (k:Int):kPa k=some (wja k):=by
 unfold kPa wja
 by_cases h:k=5
 ·rw [if_pos h,h];rfl
 ·rw [if_neg h,beq_eq_false_iff_ne.2 h];rfl
theorem Wza (k:Int):jta k=some (wja k):=j1a k
theorem fl_end {b:List UInt8} (h: [13,10] <:+b):(fl [] b).2= []:=(Jna b []).2 (.inr h)
theorem ygb {m:zxa} (h:rawP m=false): [13,10] <:+zsa m:=by unfold rawP at h;simpa using h
theorem stuff_eq {m:zxa} (h:rawP m=false) (hb:(zsa m).length≤12000):v4a (zsa m)=some (qkb (zsa m),⟨0,0⟩):=by
 rw [YOa,if_neg (by omega),if_neg (by rw [fl_end (ygb h)];simp)]
 rfl
theorem sent_eq {m:zxa} (h:rawP m=false) (hb:(zsa m).length≤12000):Jba (zsa m)=some (qkb (zsa m)):=by
 rw [w7b _ (by omega),fl_end (ygb h),zab]
 rfl
theorem Yka (m:zxa) (hb:(zsa m).length≤12000):(qkb (zsa m)).length≤24003:=by
 have h1:=Yga (fl [] (zsa m)).1
 have h2:=qQb (zsa m)
 have h3:=qPb (fl [] (zsa m)).1
 have h4:(zCa (fl [] (zsa m)).1).length=((fl [] (zsa m)).1.flatMap fun x=> x++ [13,10]).length:=rfl
 unfold qkb
 simp only [List.length_append,List.length_cons,List.length_nil]
 omega
theorem vEb {l:List Int} {r:Int} (h:anyO l=false):KTa l r=l:=by
 unfold anyO at h
 unfold KTa
 rw [List.any_eq_false] at h
 refine (List.map_congr_left fun x hx=> ?_).trans (List.map_id l)
 have:=h x hx
 unfold jia
 rw [if_neg (by simpa using this)]
 rfl
theorem qlb (t:Talk) (k:Int) (e:Nat):(kFa t k e).C={t.C with Results:=(kFa t k e).C.Results}∧(kFa t k e).Out=t.Out:=by
 unfold kFa
 split <;> exact ⟨rfl,rfl⟩
theorem hear_eq (t:Talk) (iv:CInv t.C) (op:COpn t.C) (ho:t.Out.length≤90000000000) (r:kba) (hr:(K7a r).Code=0) (hs:smLn r.Lines) (e:Nat) (he:t.C.Expected=(e:Int)):
  kMa (ses t (zsa t.C.Mail.Message) (rawP t.C.Mail.Message)) r=some (ses (YPa t (iQuo r.Code 100) e) (zsa t.C.Mail.Message) (rawP t.C.Mail.Message)):=by
 have gm:=zZa iv.good.mail
 have hm:=gm.many
 have hmt:many t=t.C.Mail.Envelope.To.length:=rfl
 have hlen:=iv.len
 have h1:=iv.e1
 unfold kMa z9a
 rw [YMa r hs,if_neg (by simp [hr])]
 simp only [Option.bind_some]
 generalize iQuo r.Code 100=k
 show (bif decide (t.C.Expected < 3) then _ else (bif decide (t.C.Expected < (w64 ((t.C.Mail.Envelope.To.length:Int)+3))) then _ else (bif (t.C.Expected==(w64 ((t.C.Mail.Envelope.To.length:Int)+3))) then _ else _)))=_
 have en:w64 ((t.C.Mail.Envelope.To.length:Int)+3)=((many t+3:Nat):Int):=by rw [z0a (by omega) (by omega)];omega
 rw [he,en]
 unfold YPa
 by_cases c1:e≤2
 ·rw [decide_eq_true (by omega),if_pos c1]
  simp only [cond_true]
  by_cases hk:k=2
  ·rw [show (k !=2)=false by rw [hk];rfl,if_pos hk]
   simp only [cond_false]
   rw [show kaa _=_ from z5b t iv.good ho e he (by omega)]
   rfl
  ·rw [show (k !=2)=true by simpa using hk,if_neg hk]
   simp only [cond_true,j1a,Option.bind_some]
   rw [show zJa _ _=_ from Q7a t _ _ (wja k) (by omega) (by omega)]
   rfl
 rw [decide_eq_false (show ¬((e:Int) < 3) by omega),if_neg c1]
 simp only [cond_false]
 by_cases c2:e≤many t+2
 ·rw [decide_eq_true (show (e:Int) < ((many t+3:Nat):Int) by omega),if_pos c2]
  simp only [cond_true]
  have ei:w64 ((e:Int) - 3)=((e - 3:Nat):Int):=by rw [z0a (by omega) (by omega)];omega
  have hj:((bif (k !=2) then (kPa k).bind fun v16=> (idx t.C.Results ((w64 (t.C.Expected - 3)))).bind fun v18=> (idx t.C.Results ((w64 (t.C.Expected - 3)))).bind fun v20=> some (((w64 ((t.C.Mail.Envelope.To.length:Int)+3)),(zfa.mk ((zla.mk t.C.Name t.C.Mail t.C.Pipelined t.C.Buffer t.C.Expected t.C.Whole t.C.Done ((List.set t.C.Results (Int.toNat ((w64 (t.C.Expected - 3)))) v16)))) (zsa t.C.Mail.Message) (rawP t.C.Mail.Message) t.Out))) else some (((w64 ((t.C.Mail.Envelope.To.length:Int)+3)),ses t (zsa t.C.Mail.Message) (rawP t.C.Mail.Message)))):Option (Int × zfa))=
    some (((many t+3:Nat):Int),ses (kFa t k e) (zsa t.C.Mail.Message) (rawP t.C.Mail.Message)):=by
   rw [en,show w64 (t.C.Expected - 3)=((e - 3:Nat):Int) by rw [he];exact ei]
   unfold kFa
   by_cases hk:k=2
   ·rw [show (k !=2)=false by rw [hk];rfl,if_pos hk];rfl
   ·rw [show (k !=2)=true by simpa using hk,if_neg hk,j1a,yga,List.getElem?_eq_getElem (by omega)]
    rfl
  have hR:=qlb t k e
  have hlen2:(kFa t k e).C.Results.length=t.C.Results.length:=by unfold kFa;split <;> simp [setR]
  have g2:Good (kFa t k e).C:=by rw [hR.1];exact ⟨iv.good.name,iv.good.mail⟩
  have hM:(kFa t k e).C.Mail=t.C.Mail:=by rw [hR.1]
  have hE2:(kFa t k e).C.Expected=(e:Int):=by rw [hR.1];exact he
  have hP2:(kFa t k e).C.Pipelined=t.C.Pipelined:=by rw [hR.1]
  have hon:=z5b (kFa t k e) g2 (by rw [hR.2];exact ho) e hE2 (by show e≤(kFa t k e).C.Mail.Envelope.To.length+2;rw [hM];omega)
  have hlv:=Q7a (kFa t k e) (zsa t.C.Mail.Message) (rawP t.C.Mail.Message) 2 (by omega) (by rw [hR.2];omega)
  rw [hM] at hon
  refine y8a hj ?_
  show (((bif ((kFa t k e).C.Expected==w64 (((many t+3:Nat):Int) - 1)) then (bif (!(kFa t k e).C.Pipelined) then (kra (ses (kFa t k e) (zsa t.C.Mail.Message) (rawP t.C.Mail.Message))).bind _ else _) else _):Option (Bool × zfa)).bind _)=_
  rw [hE2,hP2,show w64 (((many t+3:Nat):Int) - 1)=((many t+2:Nat):Int) by rw [z0a (by omega) (by omega)];omega]
  by_cases c3:e=many t+2
  ·rw [show ((e:Int)==((many t+2:Nat):Int))=true by rw [beq_iff_eq];omega]
   simp only [cond_true]
   cases hp:t.C.Pipelined with
   | true=>
    rw [if_neg (fun h=> by cases h.2.1)]
    simp only [Bool.not_true,cond_false,Option.bind_some]
    rw [hon]
    rfl
   | false=>
    simp only [Bool.not_false,cond_true]
    rw [yfb _ (by show (kFa t k e).C.Results.length≤_;omega)]
    simp only [Option.bind_some]
    show (bif (!anyO (kFa t k e).C.Results) then _ else _)=_
    cases ha:anyO (kFa t k e).C.Results with
    | false=>
     rw [if_pos (by refine ⟨c3, ?_, ?_⟩ <;> simp)]
     simp only [Bool.not_false,cond_true]
     rw [hlv]
     rfl
    | true=>
     rw [if_neg (by simp)]
     simp only [Bool.not_true,cond_false]
     rw [hon]
     rfl
  ·rw [show ((e:Int)==((many t+2:Nat):Int))=false by rw [beq_eq_false_iff_ne];omega,if_neg (fun h=> c3 h.1)]
   simp only [cond_false,Option.bind_some]
   rw [hon]
   rfl
 rw [decide_eq_false (show ¬((e:Int) < ((many t+3:Nat):Int)) by omega),if_neg c2]
 simp only [cond_false]
 by_cases c3:e=many t+3
 ·rw [show ((e:Int)==((many t+3:Nat):Int))=true by rw [beq_iff_eq];omega,if_pos c3]
  simp only [cond_true]
  have hnr:rawP t.C.Mail.Message=false:=by
   cases hr:rawP t.C.Mail.Message with
   | false=> rfl
   | true=> exact absurd ⟨hr,by omega⟩ op.nr
  unfold qva
  by_cases hk:k=3
  ·rw [show (k !=3)=false by rw [hk];rfl,if_pos hk]
   simp only [cond_false]
   rw [yfb _ (by show t.C.Results.length≤_;omega)]
   simp only [Option.bind_some]
   show ((bif (!anyO t.C.Results) then _ else _:Option zfa).bind _)=_
   cases ha:anyO t.C.Results with
   | false=> rw [if_pos rfl];rfl
   | true=>
    rw [if_neg (by decide)]
    simp only [Bool.not_true,cond_false]
    have hst:=stuff_eq hnr gm.big
    have hsl:=Yka t.C.Mail.Message gm.big
    show (((v4a (zsa t.C.Mail.Message)).bind fun v9=> (app 140737488355328 t.Out v9.1).bind _).bind _)=_
    rw [hst]
    simp only [Option.bind_some]
    rw [koa (by omega)]
    simp only [Option.bind_some]
    show some (zfa.mk (zla.mk t.C.Name t.C.Mail t.C.Pipelined t.C.Buffer (w64 (t.C.Expected+1)) true t.C.Done t.C.Results) (zsa t.C.Mail.Message) (rawP t.C.Mail.Message) (t.Out++qkb (zsa t.C.Mail.Message)))=_
    rw [show w64 (t.C.Expected+1)=((many t+4:Nat):Int) by rw [he,z0a (by omega) (by omega)];omega]
    rfl
  ·rw [show (k !=3)=true by simpa using hk,if_neg hk]
   simp only [cond_true,j1a,Option.bind_some]
   rw [show zJa _ _=_ from Q7a t _ _ (wja k) (by omega) (by omega)]
   rfl
 ·rw [show ((e:Int)==((many t+3:Nat):Int))=false by rw [beq_eq_false_iff_ne];omega,if_neg c3]
  simp only [cond_false]
  by_cases hk:k=2
  ·rw [show (k==2)=true by rw [hk];rfl,if_pos hk]
   simp only [cond_true]
   rw [show zJa _ _=_ from Q7a t _ _ 1 (by omega) (by omega)]
   rfl
  ·rw [show (k==2)=false by simpa using hk,if_neg hk]
   simp only [cond_false,j1a,Option.bind_some]
   rw [show zJa _ _=_ from Q7a t _ _ (wja k) (by omega) (by omega)]
   rfl
end Go.Proofs.YtjnmamghadpedaaGreatDoor
namespace Go.Proofs.YtjnmamghadpedaaGreatDoor
open Go.RowKit
set_option maxHeartbeats 1000000
set_option maxRecDepth 20000
theorem ask_tb (t:Talk) (b:List UInt8) (k:Nat):askP (tb t b) k=tb (askP t k) b:=by
 unfold askP
 by_cases k1:k=1
 ·rw [if_pos k1,if_pos k1];rfl
 rw [if_neg k1,if_neg k1]
 by_cases k2:k=2
 ·rw [if_pos k2,if_pos k2];rfl
 rw [if_neg k2,if_neg k2]
 show (match t.C.Mail.Envelope.To[k - 3]? with | some r=> (⟨(tb t b).C,KSa t.Out (w9b r)⟩:Talk) | none=> if rawP t.C.Mail.Message=true then ⟨{(tb t b).C with Whole:=true},KSa t.Out (z3b (zsa t.C.Mail.Message).length)++zsa t.C.Mail.Message⟩ else ⟨(tb t b).C,KSa t.Out w8b⟩)=_
 cases t.C.Mail.Envelope.To[k - 3]? with
 | some r=> rfl
 | none=>
  dsimp only
  cases rawP t.C.Mail.Message <;> rfl
theorem yhb (b:List UInt8):∀(m k:Nat) (t:Talk),Zqa m k (tb t b)=tb (Zqa m k t) b
 | 0,_,_=> rfl
 | m+1,k,t=> by show Zqa m (k+1) (askP (tb t b) k)=_;rw [ask_tb,yhb b m];rfl
theorem on1_tb (t:Talk) (b:List UInt8) (e:Nat):onP1 (tb t b) e=tb (onP1 t e) b:=by
 unfold onP1
 show (if t.C.Pipelined=false∨e=0 then askP (tb (setE t ((e+1:Nat):Int)) b) (e+1) else if e=1 then Zqa (many t+2) 2 (tb (setE t ((e+1:Nat):Int)) b) else tb (setE t ((e+1:Nat):Int)) b)=_
 rw [ask_tb,yhb]
 split
 ·rfl
 ·split <;> rfl
theorem z9b (t:Talk) (b:List UInt8) (e:Nat):kWa (tb t b) e=tb (kWa t e) b:=by
 unfold kWa
 rw [on1_tb]
 show (if e+1=many t+3∧rawP t.C.Mail.Message=true then _ else _)=_
 split <;> rfl
theorem rcpt_tb (t:Talk) (b:List UInt8) (k:Int) (e:Nat):kFa (tb t b) k e=tb (kFa t k e) b:=by
 unfold kFa
 split <;> rfl
theorem yib (t:Talk) (b:List UInt8) (k:Int) (e:Nat):YPa (tb t b) k e=tb (YPa t k e) b:=by
 unfold YPa
 rw [rcpt_tb]
 by_cases c1:e≤2
 ·rw [if_pos c1,if_pos c1]
  by_cases hk:k=2
  ·rw [if_pos hk,if_pos hk,z9b]
  ·rw [if_neg hk,if_neg hk];rfl
 rw [if_neg c1,if_neg c1]
 by_cases c2:e≤many t+2
 ·rw [if_pos (show e≤many (tb t b)+2 from c2),if_pos c2]
  by_cases c3:e=many t+2∧t.C.Pipelined=false∧anyO (kFa t k e).C.Results=false
  ·rw [if_pos (show e=many (tb t b)+2∧(tb t b).C.Pipelined=false∧anyO (tb (kFa t k e) b).C.Results=false from c3),if_pos c3];rfl
  ·rw [if_neg (show ¬(e=many (tb t b)+2∧(tb t b).C.Pipelined=false∧anyO (tb (kFa t k e) b).C.Results=false) from c3),if_neg c3,z9b]
 rw [if_neg (show ¬e≤many (tb t b)+2 from c2),if_neg c2]
 by_cases c3:e=many t+3
 ·rw [if_pos (show e=many (tb t b)+3 from c3),if_pos c3]
  by_cases hk:k=3
  ·rw [if_pos hk,if_pos hk]
   by_cases ha:anyO t.C.Results=false
   ·rw [if_pos (show anyO (tb t b).C.Results=false from ha),if_pos ha];rfl
   ·rw [if_neg (show ¬anyO (tb t b).C.Results=false from ha),if_neg ha];rfl
  ·rw [if_neg hk,if_neg hk];rfl
 rw [if_neg (show ¬e=many (tb t b)+3 from c3),if_neg c3]
 by_cases hk:k=2
 ·rw [if_pos hk,if_pos hk];rfl
 ·rw [if_neg hk,if_neg hk];rfl
theorem heard_eq (t:Talk) (iv:CInv t.C) (op:COpn t.C) (ho:t.Out.length≤90000000000) (k:Int) (e:Nat) (he:t.C.Expected=(e:Int)):
  ∃b,KCa t k=some (tb (YPa t k e) b):=by
 have gm:=zZa iv.good.mail
 have hm:=gm.many
 have hmt:many t=t.C.Mail.Envelope.To.length:=rfl
 have hlen:=iv.len
 have h1:=iv.e1
 have e2:w64 ((t.C.Results.length:Int)+2)=((many t+2:Nat):Int):=by rw [z0a (by omega) (by omega)];omega
 have e3:w64 ((t.C.Results.length:Int)+3)=((many t+3:Nat):Int):=by rw [z0a (by omega) (by omega)];omega
 have e4:w64 ((t.C.Results.length:Int)+4)=((many t+4:Nat):Int):=by rw [z0a (by omega) (by omega)];omega
 unfold KCa YPa
 rw [he,e2,e3]
 by_cases c1:e≤2
 ·rw [decide_eq_true (by omega),if_pos c1]
  simp only [cond_true]
  by_cases hk:k=2
  ·rw [show (k !=2)=false by rw [hk];rfl,if_pos hk]
   simp only [cond_false]
   rw [ydb t iv.good ho e he (by omega) hlen]
   exact ⟨(kWa t e).C.Buffer,rfl⟩
  ·rw [show (k !=2)=true by simpa using hk,if_neg hk]
   simp only [cond_true,Wza,Option.bind_some]
   rw [y7a t (wja k) (by omega) (by omega)]
   exact ⟨[],rfl⟩
 rw [decide_eq_false (show ¬((e:Int)≤2) by omega),if_neg c1]
 simp only [cond_false]
 by_cases c2:e≤many t+2
 ·rw [decide_eq_true (show (e:Int)≤((many t+2:Nat):Int) by omega),if_pos c2]
  simp only [cond_true]
  have ei:w64 ((e:Int) - 3)=((e - 3:Nat):Int):=by rw [z0a (by omega) (by omega)];omega
  have hj:((bif (k !=2) then (app 17592186044416 (([]:List Int)) t.C.Results).bind fun v12=> (jta k).bind fun v14=> (idx v12 ((w64 ((e:Int) - 3)))).bind fun v16=> (idx v12 ((w64 ((e:Int) - 3)))).bind fun v18=> some ((zea.mk ((zla.mk t.C.Name t.C.Mail t.C.Pipelined t.C.Buffer ((e:Int)) t.C.Whole t.C.Done ((List.set v12 (Int.toNat ((w64 ((e:Int) - 3)))) v14)))) t.Out)) else some t):Option Talk)=some (kFa t k e):=by
   rw [ei]
   unfold kFa
   by_cases hk:k=2
   ·rw [show (k !=2)=false by rw [hk];rfl,if_pos hk];rfl
   ·rw [show (k !=2)=true by simpa using hk,if_neg hk,Wza,koa (by simp;omega)]
    simp only [cond_true,Option.bind_some,List.nil_append]
    rw [yga,List.getElem?_eq_getElem (by omega),←he]
    rfl
  have hR:=qlb t k e
  have hlen2:(kFa t k e).C.Results.length=t.C.Results.length:=by unfold kFa;split <;> simp [setR]
  have g2:Good (kFa t k e).C:=by rw [hR.1];exact ⟨iv.good.name,iv.good.mail⟩
  have hM:(kFa t k e).C.Mail=t.C.Mail:=by rw [hR.1]
  have hE2:(kFa t k e).C.Expected=(e:Int):=by rw [hR.1];exact he
  have hP2:(kFa t k e).C.Pipelined=t.C.Pipelined:=by rw [hR.1]
  have hmm:many (kFa t k e)=many t:=by show (kFa t k e).C.Mail.Envelope.To.length=_;rw [hM];rfl
  have hon:=ydb (kFa t k e) g2 (by rw [hR.2];exact ho) e hE2 (by omega) (by omega)
  have hlv:=y7a (kFa t k e) 2 (by omega) (by rw [hR.2];omega)
  rw [hj]
  simp only [Option.bind_some]
  rw [hP2]
  by_cases c3:e=many t+2
  ·rw [show ((e:Int)==((many t+2:Nat):Int))=true by rw [beq_iff_eq];omega]
   simp only [cond_true]
   cases hp:t.C.Pipelined with
   | true=>
    rw [if_neg (by simp)]
    simp only [Bool.not_true,cond_false,Option.bind_some]
    rw [hon]
    exact ⟨(kWa (kFa t k e) e).C.Buffer,rfl⟩
   | false=>
    simp only [Bool.not_false,cond_true]
    rw [Joa _ (by omega)]
    simp only [Option.bind_some]
    cases ha:anyO (kFa t k e).C.Results with
    | false=>
     rw [if_pos (by refine ⟨c3, ?_, ?_⟩ <;> simp)]
     simp only [Bool.not_false,cond_true]
     rw [hlv]
     exact ⟨[],rfl⟩
    | true=>
     rw [if_neg (by simp)]
     simp only [Bool.not_true,cond_false]
     rw [hon]
     exact ⟨(kWa (kFa t k e) e).C.Buffer,rfl⟩
  ·rw [show ((e:Int)==((many t+2:Nat):Int))=false by rw [beq_eq_false_iff_ne];omega,if_neg (fun h=> c3 h.1)]
   simp only [cond_false,Option.bind_some]
   rw [hon]
   exact ⟨(kWa (kFa t k e) e).C.Buffer,rfl⟩
 rw [decide_eq_false (show ¬((e:Int)≤((many t+2:Nat):Int)) by omega),if_neg c2]
 simp only [cond_false]
 by_cases c3:e=many t+3
 ·rw [show ((e:Int)==((many t+3:Nat):Int))=true by rw [beq_iff_eq];omega,if_pos c3]
  simp only [cond_true]
  have hnr:rawP t.C.Mail.Message=false:=by
   cases hr:rawP t.C.Mail.Message with
   | false=> rfl
   | true=> exact absurd ⟨hr,by omega⟩ op.nr
  by_cases hk:k=3
  ·rw [show (k !=3)=false by rw [hk];rfl,if_pos hk]
   simp only [cond_false]
   rw [Joa _ (by omega)]
   simp only [Option.bind_some]
   cases ha:anyO t.C.Results with
   | false=>
    rw [if_pos rfl]
    simp only [Bool.not_false,cond_true]
    rw [KKa t 2 (by omega)]
    refine ⟨[], ?_⟩
    simp only [Option.bind_some]
    unfold z7b doneP tb
    rw [vEb ha]
   | true=>
    rw [if_neg (by decide)]
    simp only [Bool.not_true,cond_false]
    have hsl:=Yka t.C.Mail.Message gm.big
    rw [vza t.C.Mail.Message (by have:=gm.body;omega) gm.many60 gm.codes]
    simp only [Option.bind_some]
    rw [sent_eq hnr gm.big]
    simp only [Option.bind_some]
    rw [koa (by omega),e4]
    exact ⟨t.C.Buffer,rfl⟩
  ·rw [show (k !=3)=true by simpa using hk,if_neg hk]
   simp only [cond_true,Wza,Option.bind_some]
   rw [y7a t (wja k) (by omega) (by omega)]
   exact ⟨[],rfl⟩
 ·rw [show ((e:Int)==((many t+3:Nat):Int))=false by rw [beq_eq_false_iff_ne];omega,if_neg c3]
  simp only [cond_false]
  by_cases hk:k=2
  ·rw [show (k==2)=true by rw [hk];rfl,if_pos hk]
   simp only [cond_true]
   rw [y7a t 1 (by omega) (by omega)]
   exact ⟨[],rfl⟩
  ·rw [show (k==2)=false by simpa using hk,if_neg hk]
   simp only [cond_false,Wza,Option.bind_some]
   rw [y7a t (wja k) (by omega) (by omega)]
   exact ⟨[],rfl⟩
theorem kab (k:Int):0≤wja k∧wja k≤4:=by unfold wja;split <;> decide
theorem yjb {r x:Int} (hr:0≤r∧r≤4) (hx:0≤x∧x≤4):0≤jia r x∧jia r x≤4:=by unfold jia;split <;> assumption
theorem qTb {t:Talk} (iv:CInv t.C) {r:Int} (hr:0≤r∧r≤4):CInv (z7b t r).C:=
 ⟨⟨iv.good.name,iv.good.mail⟩,by show (KTa t.C.Results r).length=_;rw [z6b];exact iv.len,iv.e0,iv.e1,fun x hx=> by
  obtain ⟨y,hy,rfl⟩:=List.mem_map.1 (show x∈KTa t.C.Results r from hx)
  exact yjb hr (iv.rng y hy)⟩
def YQa (a b:List Int):Prop:=∀(i:Nat) x,a[i]? =some x→x≠0→b[i]? =some x
theorem yBa (a:List Int):YQa a a:=fun _ _ h _=> h
theorem Yla {a b c:List Int} (h:YQa a b) (h2:YQa b c):YQa a c:=fun i x hx h0=> h2 i x (h i x hx h0) h0
theorem Jpa (l:List Int) (r:Int):YQa l (KTa l r):=fun i x hx h0=> by
 unfold KTa
 rw [List.getElem?_map,hx]
 show some (jia r x)=_
 unfold jia
 rw [if_neg h0]
structure kbb (t u:Talk):Prop where
 inv:CInv u.C
 same:u.C.Name=t.C.Name∧u.C.Mail=t.C.Mail∧u.C.Pipelined=t.C.Pipelined
 stays:YQa t.C.Results u.C.Results
 opn:u.C.Done=true∨(u.C.Done=false∧COpn u.C)
 out:u.Out.length≤t.Out.length+900000
theorem y9a {t:Talk} (iv:CInv t.C) {r:Int} (hr:0≤r∧r≤4):kbb t (V4a t r):=by
 have:=w9a (o:=t.Out) qgb
 exact ⟨qTb iv hr,⟨rfl,rfl,rfl⟩,Jpa _ _, .inl rfl,by show (KSa t.Out qeb).length≤_;omega⟩
theorem kcb (t:Talk) (k:Nat) (h1:1≤k) (h2:k≤many t+3):(askP t k).C.Whole=(t.C.Whole || (decide (k=many t+3) && rawP t.C.Mail.Message)):=by
 have hmt:many t=t.C.Mail.Envelope.To.length:=rfl
 unfold askP
 by_cases k1:k=1
 ·rw [if_pos k1,decide_eq_false (by omega)];simp
 rw [if_neg k1]
 by_cases k2:k=2
 ·rw [if_pos k2,decide_eq_false (by omega)];simp
 rw [if_neg k2]
 by_cases hk:k=many t+3
 ·rw [List.getElem?_eq_none (by omega),decide_eq_true hk]
  dsimp only
  split
  ·rename_i hr;rw [hr];simp
  ·rename_i hr;simp only [Bool.not_eq_true] at hr;rw [hr];simp
 ·rw [List.getElem?_eq_getElem (by omega),decide_eq_false hk];simp
theorem Jqa:∀(m k:Nat) (t:Talk),1≤k→k+m=many t+4→0 < m→(Zqa m k t).C.Whole=(t.C.Whole || rawP t.C.Mail.Message)
 | 0,_,_,_,_,h=> by omega
 | m+1,k,t,h1,h2,_=> by
  show (Zqa m (k+1) (askP t k)).C.Whole=_
  have hw:=kcb t k h1 (by omega)
  have hM:=KJa t k
  have hmm:many (askP t k)=many t:=by show (askP t k).C.Mail.Envelope.To.length=_;rw [hM];rfl
  cases m with
  | zero=>
   show (askP t k).C.Whole=_
   rw [hw,decide_eq_true (by omega)];simp
  | succ m=>
   rw [Jqa (m+1) (k+1) (askP t k) (by omega) (by omega) (by omega),hw,hM,decide_eq_false (by omega)]
   simp
def qmb (c:zla):Prop:=c.Whole=(decide (c.Expected=(c.Mail.Envelope.To.length:Int)+4) || (rawP c.Mail.Message && c.Pipelined && decide (2≤c.Expected)))
theorem ykb (t:Talk) (op:qmb t.C) (e:Nat) (he:t.C.Expected=(e:Int)) (h2:e≤many t+2) (hm:1≤many t):
  (onP1 t e).C.Whole=(rawP t.C.Mail.Message && (decide (e=many t+2) || (t.C.Pipelined && decide (1≤e)))):=by
 have hmt:many t=t.C.Mail.Envelope.To.length:=rfl
 have hw:t.C.Whole=(decide (t.C.Expected=(t.C.Mail.Envelope.To.length:Int)+4) || (rawP t.C.Mail.Message && t.C.Pipelined && decide (2≤t.C.Expected))):=op
 rw [he,decide_eq_false (show ¬(e:Int)=(t.C.Mail.Envelope.To.length:Int)+4 by omega),Bool.false_or] at hw
 have hw' :t.C.Whole=(rawP t.C.Mail.Message && t.C.Pipelined && decide (2≤e)):=by rw [hw];congr 1;rw [Bool.eq_iff_iff];simp;omega
 unfold onP1
 by_cases c1:t.C.Pipelined=false∨e=0
 ·rw [if_pos c1,kcb _ _ (by omega) (by show e+1≤many t+3;omega)]
  show (t.C.Whole || (decide (e+1=many t+3) && rawP t.C.Mail.Message))=_
  rw [hw']
  rcases c1 with hp | h0
  ·rw [hp]
   have:decide (e+1=many t+3)=decide (e=many t+2):=by rw [Bool.eq_iff_iff];simp
   rw [this]
   cases rawP t.C.Mail.Message <;> simp
  ·rw [decide_eq_false (show ¬2≤e by omega),decide_eq_false (show ¬e+1=many t+3 by omega),decide_eq_false (show ¬e=many t+2 by omega),decide_eq_false (show ¬1≤e by omega)]
   simp
 ·rw [if_neg c1]
  have hp:t.C.Pipelined=true:=by cases h:t.C.Pipelined with | true=> rfl | false=> exact absurd (.inl h) c1
  have h0:1≤e:=by have:¬e=0:=fun h=> c1 (.inr h);omega
  rw [hp,decide_eq_true h0]
  by_cases h1:e=1
  ·rw [if_pos h1,Jqa _ _ _ (by omega) (by show 2+(many t+2)=many t+4;omega) (by omega)]
   show (t.C.Whole || rawP t.C.Mail.Message)=_
   rw [hw',decide_eq_false (show ¬2≤e by omega)]
   simp
  ·rw [if_neg h1]
   show t.C.Whole=_
   rw [hw',hp,decide_eq_true (show 2≤e by omega)]
   simp
theorem V5a {t:Talk} (iv:CInv t.C) (op:qmb t.C) (hd:t.C.Done=false) (e:Nat) (he:t.C.Expected=(e:Int)) (h2:e≤many t+2)
  (hx:∀(i:Nat) x,t.C.Results[i]? =some x→(e:Int)+1≤(i:Int)+3→x=0):kbb t (kWa t e):=by
 have hm:=(zZa iv.good.mail).many
 have hmt:many t=t.C.Mail.Envelope.To.length:=rfl
 have hw:=ykb t op e he h2 (by omega)
 have hC:=on1_C t e
 have hl:=vDb iv.good e
 have hC2:(kWa t e).C={t.C with Expected:=(kWa t e).C.Expected,Whole:=(onP1 t e).C.Whole}:=by
  unfold kWa
  split
  ·show ({(onP1 t e).C with Expected:=_}:zla)=_
   rw [hC];rfl
  ·rw [hC]
 have hE:(kWa t e).C.Expected=if e+1=many t+3∧rawP t.C.Mail.Message=true then ((e+2:Nat):Int) else ((e+1:Nat):Int):=by
  unfold kWa
  split
  ·rfl
  ·rw [hC]
 have hle:=iv.len
 refine ⟨?_, ?_, ?_, .inr ⟨?_, ?_⟩,by omega⟩
 ·rw [hC2]
  refine ⟨⟨iv.good.name,iv.good.mail⟩,iv.len, ?_, ?_,iv.rng⟩
  ·show 0≤(kWa t e).C.Expected
   rw [hE];split <;> omega
  ·show (kWa t e).C.Expected≤(t.C.Mail.Envelope.To.length:Int)+4
   rw [hE];split <;> omega
 ·rw [hC2];exact ⟨rfl,rfl,rfl⟩
 ·rw [hC2];exact yBa _
 ·rw [hC2];exact hd
 ·rw [hC2,hE]
  by_cases hc:e+1=many t+3∧rawP t.C.Mail.Message=true
  ·rw [if_pos hc]
   refine ⟨?_, ?_, ?_⟩
   ·show (onP1 t e).C.Whole=(decide (((e+2:Nat):Int)=(t.C.Mail.Envelope.To.length:Int)+4) || _)
    rw [hw,hc.2,decide_eq_true (show ((e+2:Nat):Int)=(t.C.Mail.Envelope.To.length:Int)+4 by omega),decide_eq_true (show e=many t+2 by omega)]
    rfl
   ·show ¬(rawP t.C.Mail.Message=true∧((e+2:Nat):Int)=(t.C.Mail.Envelope.To.length:Int)+3)
    omega
   ·intro i x hi h3
    have h3' :((e+2:Nat):Int)≤(i:Int)+3:=h3
    exact hx i x hi (by omega)
  ·rw [if_neg hc]
   refine ⟨?_, ?_, ?_⟩
   ·show (onP1 t e).C.Whole=(decide (((e+1:Nat):Int)=(t.C.Mail.Envelope.To.length:Int)+4) || (rawP t.C.Mail.Message && t.C.Pipelined && decide (2≤((e+1:Nat):Int))))
    rw [hw,decide_eq_false (show ¬((e+1:Nat):Int)=(t.C.Mail.Envelope.To.length:Int)+4 by omega)]
    have hd2:decide (2≤((e+1:Nat):Int))=decide (1≤e):=by rw [Bool.eq_iff_iff];simp;omega
    rw [hd2]
    cases hr:rawP t.C.Mail.Message with
    | false=> simp
    | true=>
     rw [decide_eq_false (show ¬e=many t+2 by intro h;exact hc ⟨by omega,hr⟩)]
     simp
   ·show ¬(rawP t.C.Mail.Message=true∧((e+1:Nat):Int)=(t.C.Mail.Envelope.To.length:Int)+3)
    rintro ⟨a,b⟩
    exact hc ⟨by omega,a⟩
   ·intro i x hi h3
    have h3' :((e+1:Nat):Int)≤(i:Int)+3:=h3
    exact hx i x hi (by omega)
theorem vFb {t:Talk} (iv:CInv t.C) (k:Int) (e:Nat) (h0:t.C.Results[e - 3]? =some 0):CInv (kFa t k e).C∧YQa t.C.Results (kFa t k e).C.Results:=by
 unfold kFa
 split
 ·exact ⟨iv,yBa _⟩
 ·refine ⟨⟨⟨iv.good.name,iv.good.mail⟩, ?_,iv.e0,iv.e1, ?_⟩, ?_⟩
  ·show (t.C.Results.set (e - 3) (wja k)).length=_
   rw [List.length_set];exact iv.len
  ·intro r hr
   rcases List.mem_or_eq_of_mem_set (show r∈t.C.Results.set (e - 3) (wja k) from hr) with h | h
   ·exact iv.rng r h
   ·rw [h];exact kab k
  ·intro i x hx hn
   show (t.C.Results.set (e - 3) (wja k))[i]? =some x
   rw [List.getElem?_set]
   by_cases hi:e - 3=i
   ·rw [hi] at h0
    rw [hx] at h0
    cases h0
    exact absurd rfl hn
   ·rw [if_neg hi];exact hx
theorem after_of {t u v:Talk} (hs:u.C.Name=t.C.Name∧u.C.Mail=t.C.Mail∧u.C.Pipelined=t.C.Pipelined) (hst:YQa t.C.Results u.C.Results) (hl:u.Out.length=t.Out.length) (h2:kbb u v):kbb t v:=
 ⟨h2.inv,⟨h2.same.1.trans hs.1,h2.same.2.1.trans hs.2.1,h2.same.2.2.trans hs.2.2⟩,Yla hst h2.stays,h2.opn,by have:=h2.out;omega⟩
theorem vGb {t:Talk} (iv:CInv t.C) (op:COpn t.C) (hd:t.C.Done=false) (k:Int) (e:Nat) (he:t.C.Expected=(e:Int)):kbb t (YPa t k e):=by
 have hm:=(zZa iv.good.mail).many
 have gm:=zZa iv.good.mail
 have hmt:many t=t.C.Mail.Envelope.To.length:=rfl
 have hlen:=iv.len
 have hmr:=kab k
 unfold YPa
 by_cases c1:e≤2
 ·rw [if_pos c1]
  split
  ·exact V5a iv op.whole hd e he (by omega) (fun i x hi h=> op.opn i x hi (by omega))
  ·exact y9a iv hmr
 rw [if_neg c1]
 by_cases c2:e≤many t+2
 ·rw [if_pos c2]
  have h0:t.C.Results[e - 3]? =some 0:=by
   rw [List.getElem?_eq_getElem (by omega)]
   congr 1
   exact op.opn (e - 3) _ (List.getElem?_eq_getElem (by omega)) (by omega)
  have hR:=qlb t k e
  obtain ⟨iu,su⟩:=vFb iv k e h0
  have hs:(kFa t k e).C.Name=t.C.Name∧(kFa t k e).C.Mail=t.C.Mail∧(kFa t k e).C.Pipelined=t.C.Pipelined:=by rw [hR.1];exact ⟨rfl,rfl,rfl⟩
  refine after_of hs su (by rw [hR.2]) ?_
  split
  ·exact y9a iu (by decide)
  ·have ow:qmb (kFa t k e).C:=by rw [hR.1];exact op.whole
   have hmm:many (kFa t k e)=many t:=by show (kFa t k e).C.Mail.Envelope.To.length=_;rw [hs.2.1];rfl
   refine V5a iu ow (by rw [hR.1];exact hd) e (by rw [hR.1];exact he) (by omega) (fun i x hi h=> ?_)
   unfold kFa at hi
   split at hi
   ·exact op.opn i x hi (by omega)
   ·refine op.opn i x ?_ (by omega)
    have hi' :(t.C.Results.set (e - 3) (wja k))[i]? =some x:=hi
    rw [List.getElem?_set,if_neg (by omega)] at hi'
    exact hi'
 rw [if_neg c2]
 by_cases c3:e=many t+3
 ·rw [if_pos c3]
  have hnr:rawP t.C.Mail.Message=false:=by
   cases hr:rawP t.C.Mail.Message with
   | false=> rfl
   | true=> exact absurd ⟨hr,by omega⟩ op.nr
  split
  ·split
   ·exact ⟨⟨⟨iv.good.name,iv.good.mail⟩,iv.len,iv.e0,iv.e1,iv.rng⟩,⟨rfl,rfl,rfl⟩,yBa _, .inl rfl,by show t.Out.length≤_;omega⟩
   ·have hsl:=Yka t.C.Mail.Message gm.big
    refine ⟨⟨⟨iv.good.name,iv.good.mail⟩,iv.len, ?_, ?_,iv.rng⟩,⟨rfl,rfl,rfl⟩,yBa _, .inr ⟨hd, ?_, ?_, ?_⟩, ?_⟩
    ·show (0:Int)≤((many t+4:Nat):Int);omega
    ·show ((many t+4:Nat):Int)≤(t.C.Mail.Envelope.To.length:Int)+4;omega
    ·show true=(decide (((many t+4:Nat):Int)=(t.C.Mail.Envelope.To.length:Int)+4) || _)
     rw [decide_eq_true (show ((many t+4:Nat):Int)=(t.C.Mail.Envelope.To.length:Int)+4 by omega)];rfl
    ·show ¬(rawP t.C.Mail.Message=true∧_)
     rw [hnr];simp
    ·intro i x hi h
     have h' :((many t+4:Nat):Int)≤(i:Int)+3:=h
     have:=kca (show t.C.Results[i]? =some x from hi)
     omega
    ·show (t.Out++qkb (zsa t.C.Mail.Message)).length≤_
     simp only [List.length_append];omega
  ·exact y9a iv hmr
 rw [if_neg c3]
 split
 ·exact y9a iv (by decide)
 ·exact y9a iv hmr
end Go.Proofs.YtjnmamghadpedaaGreatDoor
namespace Go.Proofs.YtjnmamghadpedaaGreatDoor
open Go.RowKit
def noCR:Str→Bool
 | c::d::r=> !(c==13 && d==10) && noCR (d::r)
 | _=> true
theorem wka {c d:UInt8} {r:Str}:noCR (c::d::r)=true↔¬(c=13∧d=10)∧noCR (d::r)=true:=by
 rw [noCR,Bool.and_eq_true]
 by_cases h1:c=13 <;> by_cases h2:d=10 <;> simp [h1,h2]
theorem ylb (l:Str):∀cur r,noCR l=true→fl cur (l++13::10::r)=((cur++l)::(fl [] r).1,(fl [] r).2):=by
 induction l with
 | nil=> intro cur r _;simp [qOb]
 | cons c l ih=>
  intro cur r h
  cases l with
  | nil=>
   simp only [List.cons_append,List.nil_append]
   rw [Yda (by rintro ⟨_,h⟩;cases h),qOb]
  | cons d l=>
   obtain ⟨h1,h2⟩:=wka.1 h
   simp only [List.cons_append]
   rw [Yda h1]
   have:=ih (cur++ [c]) r h2
   simp only [List.cons_append] at this
   rw [this]
   simp
theorem ymb (l:Str) (c d:UInt8):noCR (l++ [c])=true→¬(c=13∧d=10)→noCR (l++ [c,d])=true:=by
 induction l with
 | nil=> intro _ h;simp only [List.nil_append];exact wka.2 ⟨h,rfl⟩
 | cons x l ih=>
  intro h1 h2
  cases l with
  | nil=>
   simp only [List.nil_append,List.cons_append] at h1 ih ⊢
   obtain ⟨a,b⟩:=wka.1 h1
   exact wka.2 ⟨a,ih b h2⟩
  | cons y l=>
   simp only [List.cons_append] at h1 ih ⊢
   obtain ⟨a,b⟩:=wka.1 h1
   exact wka.2 ⟨a,ih b h2⟩
theorem noCR_pre (l m:Str):noCR (l++m)=true→noCR l=true:=by
 induction l with
 | nil=> intro _;rfl
 | cons x l ih=>
  intro h
  cases l with
  | nil=> rfl
  | cons y l=>
   simp only [List.cons_append] at h ih
   obtain ⟨a,b⟩:=wka.1 h
   exact wka.2 ⟨a,ih b⟩
theorem fl_lines (l cur:Str):noCR (cur++l.take 1)=true→∀x∈(fl cur l).1,noCR x=true:=by
 fun_induction fl cur l with
 | case1 cur=> simp
 | case2 cur c=> simp
 | case3 cur c d r h ih=>
  intro hc x hx
  rcases List.mem_cons.1 hx with rfl | hx
  ·exact noCR_pre _ _ hc
  ·refine ih ?_ x hx
   cases r <;> rfl
 | case4 cur c d r h ih=>
  intro hc
  refine ih ?_
  have:=ymb cur c d (by simpa using hc) h
  simpa using this
theorem Yma (l:Str):∀x∈(fl [] l).1,noCR x=true:=fl_lines l [] (by cases l <;> rfl)
end Go.Proofs.YtjnmamghadpedaaGreatDoor
namespace Go.Proofs.YtjnmamghadpedaaGreatDoor
open Go.RowKit
set_option maxHeartbeats 1000000
set_option maxRecDepth 20000
theorem rdQ_any {s:Str} {n:Nat} (h:rdQ s=some n):s.any rlnC=false:=by
 unfold rdQ at h
 split at h
 ·split at h
  ·rename_i hc
   simp only [Bool.and_eq_true,Bool.not_eq_true'] at hc
   exact hc.1.2
  ·cases h
 ·cases h
theorem ynb:∀(r:List Str) (i:Nat) (acc:List Str) (prev:Int) (v:PR),parP r i acc prev=some v→v.2.2.Code=0→acc.length=i→i≤20→(∀s∈acc,s.length≤500∧s.any rlnC=false)→ROk v.1
 | [],_,_,_,_,h,_,_,_,_=> by cases h
 | s::r,i,acc,prev,v,h,h0,hl,hi,ha=> by
  rw [parP] at h
  split at h
  ·cases h;cases h0
  ·rename_i h20
   split at h
   ·cases h;cases h0
   ·rename_i n hn
    have hq:=qbb hn
    have hany:=rdQ_any hn
    split at h
    ·cases h;cases h0
    ·rename_i h504
     have hs:(s.drop 4).length≤500∧(s.drop 4).any rlnC=false:=by
      refine ⟨by rw [List.length_drop];omega, ?_⟩
      rw [List.any_eq_false] at hany ⊢
      exact fun x hx=> hany x (List.mem_of_mem_drop hx)
     have ha' :∀x∈acc++ [s.drop 4],x.length≤500∧x.any rlnC=false:=by
      intro x hx
      rcases List.mem_append.1 hx with h | h
      ·exact ha x h
      ·rw [List.mem_singleton.1 h];exact hs
     split at h
     ·cases h;cases h0
     ·split at h
      ·cases h
       exact ⟨⟨n,rfl,hq.2⟩,by simp;omega,ha'⟩
      ·exact ynb r _ _ _ v h h0 (by simp;omega) (by omega) ha'
theorem qUb {l:List Str} (h:(voa l).2.2.Code=0):ROk (voa l).1:=by
 unfold voa at h ⊢
 split at h
 ·cases h
 ·rename_i h300
  rw [if_neg h300]
  cases hp:parP l 0 [] 0 with
  | none=> rw [hp] at h;cases h
  | some v=>
   rw [hp] at h
   exact ynb l 0 [] 0 v hp h rfl (by omega) (fun _ h=> by cases h)
theorem rOk_sm {r:kba} (h:ROk r):smLn r.Lines:=⟨by have:=h.len;omega,fun s hs=> by have:=(h.lines s hs).1;omega⟩
def qYa (l:List Str):Int:=(voa l).2.2.Code
def badL (acc:List Str) (x:Str):Prop:=4000 < x.length∨(qYa (acc++ [x])≠0∧qYa (acc++ [x])≠9)
instance (acc:List Str) (x:Str):Decidable (badL acc x):=inferInstanceAs (Decidable (_∨_))
inductive Scan where
 | wait
 | broken
 | said (r:kba) (ls:List Str)
def Q8a:List Str→List Str→Scan
 | _, []=> .wait
 | acc,x::r=> if badL acc x then .broken else if qYa (acc++ [x])=0 then .said (voa (acc++ [x])).1 r else Q8a (acc++ [x]) r
def k6a (t:Talk) (r:kba):Talk:=YPa t (iQuo r.Code 100) t.C.Expected.toNat
def Wja (t:Talk):Talk:=z7b t (bif t.C.Whole then 4 else 2)
def runP:Talk→List Str→List Str→Talk × List Str
 | t,acc, []=> (t,acc)
 | t,acc,x::r=> if badL acc x then (Wja t, []) else if qYa (acc++ [x])=0 then (if (k6a t (voa (acc++ [x])).1).C.Done=true then (k6a t (voa (acc++ [x])).1, []) else runP (k6a t (voa (acc++ [x])).1) [] r) else runP t (acc++ [x]) r
theorem zfb (t:Talk):∀(ls acc:List Str),runP t acc ls=match Q8a acc ls with
  | .wait=> (t,acc++ls)
  | .broken=> (Wja t, [])
  | .said r q=> if (k6a t r).C.Done=true then (k6a t r, []) else runP (k6a t r) [] q
 | [],acc=> by simp [runP,Q8a]
 | x::r,acc=> by
  rw [runP,Q8a]
  by_cases hb:badL acc x
  ·rw [if_pos hb,if_pos hb]
  rw [if_neg hb,if_neg hb]
  by_cases hc:qYa (acc++ [x])=0
  ·rw [if_pos hc,if_pos hc]
  rw [if_neg hc,if_neg hc,zfb t r (acc++ [x])]
  cases Q8a (acc++ [x]) r <;> simp
theorem Yna:∀(ls acc:List Str) {r:kba} {q:List Str},Q8a acc ls= .said r q→ROk r∧∃p,ls=p++q∧1≤p.length
 | [],acc,r,q,h=> by cases h
 | x::l,acc,r,q,h=> by
  rw [Q8a] at h
  split at h
  ·cases h
  ·split at h
   ·rename_i hc
    cases h
    exact ⟨qUb hc, [x],rfl,by simp⟩
   ·obtain ⟨h1,p,h2,h3⟩:=Yna l _ h
    exact ⟨h1,x::p,by rw [h2];rfl,by simp⟩
theorem vHb {x:Str} (h:noCR x=true) (r:Str):Lib.index (x++13::10::r) [13,10]=(x.length:Int):=by
 have hf:=ylb x [] r h
 have hg:=Lib.index_ge (x++13::10::r) [13,10]
 by_cases hi:Lib.index (x++13::10::r) [13,10]= -1
 ·rw [w4b _ [] hi] at hf
  cases hf
 ·obtain ⟨k,hk⟩:∃k:Nat,Lib.index (x++13::10::r) [13,10]=(k:Int):=⟨(Lib.index (x++13::10::r) [13,10]).toNat,by omega⟩
  obtain ⟨h1,h2⟩:=qcb _ [] k hk
  rw [h2] at hf
  have h3:(x++13::10::r).take k=x:=by
   have:=congrArg (fun p=> p.1.head?) hf
   simpa using this
  have h4:=congrArg List.length h3
  rw [List.length_take] at h4
  rw [hk];omega
theorem vIb {x:Str} (h:(fl [] x).1= []):Lib.index x [13,10]= -1:=by
 have hg:=Lib.index_ge x [13,10]
 by_cases hi:Lib.index x [13,10]= -1
 ·exact hi
 ·obtain ⟨k,hk⟩:∃k:Nat,Lib.index x [13,10]=(k:Int):=⟨(Lib.index x [13,10]).toNat,by omega⟩
  obtain ⟨h1,h2⟩:=qcb _ [] k hk
  rw [h2] at h
  cases h
theorem qnb:∀(ls:List Str),(∀x∈ls,noCR x=true)→∀r,fl [] (zCa ls++r)=(ls++(fl [] r).1,(fl [] r).2)
 | [],_,r=> by simp [zCa]
 | x::ls,h,r=> by
  have e:zCa (x::ls)++r=x++13::10::(zCa ls++r):=by rw [KIa];simp
  rw [e,ylb x [] _ (h x (by simp)),qnb ls (fun y hy=> h y (by simp [hy])) r]
  simp
theorem yob (b:Str):(fl [] (fl [] b).2).1= []:=by
 have h:=qnb (fl [] b).1 (Yma b) (fl [] b).2
 rw [Wxa] at h
 have:=congrArg (fun p=> p.1.length) h
 simp only [List.length_append] at this
 exact List.eq_nil_of_length_eq_zero (by omega)
theorem j2a (a b:List Str):zCa (a++b)=zCa a++zCa b:=by simp [zCa]
theorem kdb {x:Str}:∀{ls:List Str},x∈ls→x.length≤(zCa ls).length
 | y::ls,h=> by
  rw [Yha]
  rcases List.mem_cons.1 h with rfl | h
  ·omega
  ·have:=kdb h;omega
theorem Q9a (ls:List Str):2 * ls.length≤(zCa ls).length:=qPb ls
theorem ypb {ls:List Str} (h:(zCa ls).length≤40000):smLn ls:=⟨by have:=Q9a ls;omega,fun s hs=> by have:=kdb hs;omega⟩
theorem yqb (t:Talk) (b:List UInt8) (w:Bool) (hl:t.C.Results.length≤1048576):kLa (ses t b w)=some (ses (Wja t) b w):=by
 unfold kLa
 have hr:∀r,kqa (ses t b w) r=_:=fun r=> yeb (ses t b w) r hl
 show ((bif t.C.Whole then some 4 else some 2:Option Int).bind _)=_
 unfold Wja
 cases t.C.Whole with
 | true=> simp only [cond_true,Option.bind_some,hr];rfl
 | false=> simp only [cond_false,Option.bind_some,hr];rfl
theorem hearS_eq (t:Talk) (iv:CInv t.C) (op:COpn t.C) (ho:t.Out.length≤90000000000) {r:kba} (hr:ROk r) (b:List UInt8):
  kMa (ses (tb t b) (zsa t.C.Mail.Message) (rawP t.C.Mail.Message)) r=some (ses (tb (k6a t r) b) (zsa t.C.Mail.Message) (rawP t.C.Mail.Message)):=by
 have he:t.C.Expected=((t.C.Expected.toNat:Nat):Int):=by have:=iv.e0;omega
 have iv' :CInv (tb t b).C:=⟨⟨iv.good.name,iv.good.mail⟩,iv.len,iv.e0,iv.e1,iv.rng⟩
 have op' :COpn (tb t b).C:=⟨op.whole,op.nr,op.opn⟩
 have h:=hear_eq (tb t b) iv' op' ho r (by rw [w2b hr]) (rOk_sm hr) _ he
 rw [yib] at h
 exact h
theorem keb (t:Talk) (iv:CInv t.C) (op:COpn t.C) (ho:t.Out.length≤90000000000) (rest:Str) (hrest:(fl [] rest).1= []) (b:Str) (hb:b.length≤40000):∀(ls acc:List Str),b=zCa acc++(zCa ls++rest)→(∀x∈ls,noCR x=true)→
  iter (kna (ses (tb t b) (zsa t.C.Mail.Message) (rawP t.C.Mail.Message))) (((zCa acc).length:Int),acc)=some (match Q8a acc ls with
   | .wait=> (false,ses (tb t b) (zsa t.C.Mail.Message) (rawP t.C.Mail.Message))
   | .broken=> (false,ses (tb (Wja t) b) (zsa t.C.Mail.Message) (rawP t.C.Mail.Message))
   | .said r q=> (true,ses (tb (k6a t r) (zCa q++rest)) (zsa t.C.Mail.Message) (rawP t.C.Mail.Message)))
 | [],acc,h,_=> by
  have hm:=(zZa iv.good.mail).many
  have h' :b=zCa acc++rest:=by rw [h];simp [zCa]
  have hd:b.drop (zCa acc).length=rest:=by rw [h'];exact List.drop_left
  have hl:(zCa acc).length≤b.length:=by rw [h'];simp
  refine zHa ?_
  unfold kna
  show ((cut b ((zCa acc).length:Int) (b.length:Int)).bind _)=_
  rw [y3a hl,hd]
  simp only [Option.bind_some,vfa]
  rw [if_pos (by
        have:rest.length≤b.length:=by (rw [h'];simp)
        exact ⟨by omega,rfl⟩),vIb hrest]
  rfl
 | x::ls,acc,h,hn=> by
  have hm:=(zZa iv.good.mail).many
  have h' :b=zCa acc++(x++13::10::(zCa ls++rest)):=by rw [h,KIa];simp
  have hd:b.drop (zCa acc).length=x++13::10::(zCa ls++rest):=by rw [h'];exact List.drop_left
  have hbl:b.length=(zCa acc).length+x.length+2+(zCa ls).length+rest.length:=by rw [h'];simp;omega
  have hsn:zCa (acc++ [x])=zCa acc++x++ [13,10]:=by rw [j2a];simp [zCa]
  have hsm:smLn (acc++ [x]):=ypb (by rw [hsn];simp;omega)
  have hcut:cut b ((zCa acc).length:Int) (((zCa acc).length+x.length:Nat):Int)=some x:=by
   rw [zOb (by omega) (by omega),hd]
   simp
  have hcut2:cut b (((zCa acc).length+x.length+2:Nat):Int) (b.length:Int)=some (zCa ls++rest):=by
   rw [y3a (by omega)]
   congr 1
   rw [h',show (zCa acc).length+x.length+2=(zCa acc++(x++ [13,10])).length by simp;omega,show zCa acc++(x++13::10::(zCa ls++rest))=(zCa acc++(x++ [13,10]))++(zCa ls++rest) by simp]
   exact List.drop_left
  have hcnt:=Q9a acc
  have hbody:kna (ses (tb t b) (zsa t.C.Mail.Message) (rawP t.C.Mail.Message)) (((zCa acc).length:Int),acc)=
    some (if badL acc x then .out (false,ses (tb (Wja t) b) (zsa t.C.Mail.Message) (rawP t.C.Mail.Message)) else if qYa (acc++ [x])=0 then .out (true,ses (tb (k6a t (voa (acc++ [x])).1) (zCa ls++rest)) (zsa t.C.Mail.Message) (rawP t.C.Mail.Message)) else .cont (((zCa (acc++ [x])).length:Int),acc++ [x])):=by
   unfold kna
   show ((cut b ((zCa acc).length:Int) (b.length:Int)).bind _)=_
   rw [y3a (by omega),hd]
   simp only [Option.bind_some,vfa]
   rw [if_pos ⟨by simp;omega,rfl⟩,vHb (hn x (by simp))]
   simp only [Option.bind_some]
   rw [decide_eq_false (show ¬((x.length:Int) < 0) by omega)]
   simp only [cond_false]
   rw [VZa _ _ (by omega)]
   show ((cut b ((zCa acc).length:Int) (((zCa acc).length+x.length:Nat):Int)).bind _)=_
   rw [hcut]
   simp only [Option.bind_some]
   rw [koa (by simp;omega)]
   simp only [Option.bind_some]
   rw [YNa _ hsm]
   simp only [Option.bind_some]
   rw [Jda _ 2 (by show x.length+2≤_;omega),VZa _ _ (by show (zCa acc).length+(x.length+2)≤_;omega)]
   have hco:(voa (acc++ [x])).2.2.Code=qYa (acc++ [x]):=rfl
   rw [hco]
   have hj:((bif decide (4000 < (x.length:Int)) then some ((((zCa acc).length+(x.length+2):Nat):Int),true) else (bif (qYa (acc++ [x]) !=0) then some ((((zCa acc).length+(x.length+2):Nat):Int),(qYa (acc++ [x]) !=9)) else some ((((zCa acc).length+(x.length+2):Nat):Int),false))):Option (Int × Bool))=some ((((zCa acc).length+(x.length+2):Nat):Int),decide (badL acc x)):=by
    by_cases h1:4000 < x.length
    ·have hb1:badL acc x:=Or.inl h1
     rw [decide_eq_true (show (4000:Int) < (x.length:Int) by omega),decide_eq_true hb1];rfl
    ·rw [decide_eq_false (show ¬(4000:Int) < (x.length:Int) by omega)]
     by_cases h2:qYa (acc++ [x])=0
     ·have hb1:¬badL acc x:=by unfold badL;omega
      rw [show (qYa (acc++ [x]) !=0)=false by simp [h2],decide_eq_false hb1];rfl
     ·rw [show (qYa (acc++ [x]) !=0)=true by simpa using h2]
      by_cases h3:qYa (acc++ [x])=9
      ·have hb1:¬badL acc x:=by unfold badL;omega
       rw [show (qYa (acc++ [x]) !=9)=false by simp [h3],decide_eq_false hb1];rfl
      ·have hb1:badL acc x:=Or.inr ⟨h2,h3⟩
       rw [show (qYa (acc++ [x]) !=9)=true by simpa using h3,decide_eq_true hb1];rfl
   rw [hj]
   simp only [Option.bind_some]
   by_cases hbad:badL acc x
   ·rw [decide_eq_true hbad,if_pos hbad]
    simp only [cond_true]
    rw [yqb (tb t b) _ _ (by show t.C.Results.length≤_;have:=iv.len;omega)]
    rfl
   ·rw [decide_eq_false hbad,if_neg hbad]
    simp only [cond_false]
    by_cases hc:qYa (acc++ [x])=0
    ·rw [show (qYa (acc++ [x])==0)=true by rw [beq_iff_eq];exact hc,if_pos hc]
     simp only [cond_true]
     show ((cut b (((zCa acc).length+x.length+2:Nat):Int) (b.length:Int)).bind _)=_
     rw [hcut2]
     simp only [Option.bind_some]
     exact y8a (hearS_eq t iv op ho (qUb hc) (zCa ls++rest)) rfl
    ·rw [show (qYa (acc++ [x])==0)=false by rw [beq_eq_false_iff_ne];exact hc,if_neg hc]
     simp only [cond_false]
     rw [show (zCa (acc++ [x])).length=(zCa acc).length+(x.length+2) by rw [hsn];simp]
  rw [Q8a]
  by_cases hbad:badL acc x
  ·rw [if_pos hbad] at hbody ⊢
   exact zHa hbody
  rw [if_neg hbad] at hbody ⊢
  by_cases hc:qYa (acc++ [x])=0
  ·rw [if_pos hc] at hbody ⊢
   exact zHa hbody
  rw [if_neg hc] at hbody ⊢
  rw [zOa hbody]
  exact keb t iv op ho rest hrest b hb ls (acc++ [x]) (by rw [hsn,h'];simp) (fun y hy=> hn y (by simp [hy]))
end Go.Proofs.YtjnmamghadpedaaGreatDoor
namespace Go.Proofs.YtjnmamghadpedaaGreatDoor
open Go.RowKit
set_option maxHeartbeats 1000000
set_option maxRecDepth 20000
theorem Qqa {t:Talk} (iv:CInv t.C) (op:COpn t.C) (hd:t.C.Done=false) (r:kba):kbb t (k6a t r):=
 vGb iv op hd _ _ (by have:=iv.e0;omega)
theorem vJb {t:Talk} (iv:CInv t.C):kbb t (Wja t):=by
 have hr:0≤(bif t.C.Whole then (4:Int) else 2)∧(bif t.C.Whole then (4:Int) else 2)≤4:=by cases t.C.Whole <;> decide
 exact ⟨qTb iv hr,⟨rfl,rfl,rfl⟩,Jpa _ _, .inl rfl,by show t.Out.length≤_;omega⟩
theorem next_eq (t:Talk) (iv:CInv t.C) (op:COpn t.C) (ho:t.Out.length≤90000000000) (rest:Str) (hrest:(fl [] rest).1= []) (ls:List Str) (hb:(zCa ls++rest).length≤40000) (hn:∀x∈ls,noCR x=true):
  kNa (ses (tb t (zCa ls++rest)) (zsa t.C.Mail.Message) (rawP t.C.Mail.Message))=some (match Q8a [] ls with
   | .wait=> (false,ses (tb t (zCa ls++rest)) (zsa t.C.Mail.Message) (rawP t.C.Mail.Message))
   | .broken=> (false,ses (tb (Wja t) (zCa ls++rest)) (zsa t.C.Mail.Message) (rawP t.C.Mail.Message))
   | .said r q=> (true,ses (tb (k6a t r) (zCa q++rest)) (zsa t.C.Mail.Message) (rawP t.C.Mail.Message))):=by
 unfold kNa
 exact y8a (keb t iv op ho rest hrest _ hb ls [] (by simp [zCa]) hn) rfl
theorem kfb (S:zfa) (h:S.Client.Done=true):iter qoa S=some S:=by
 refine zHa ?_
 unfold qoa
 rw [h]
 rfl
theorem kgb (rest:Str) (hrest:(fl [] rest).1= []) (m:kea):∀(n:Nat) (ls:List Str) (t:Talk),ls.length≤n→CInv t.C→COpn t.C→t.C.Done=false→t.C.Mail=m→t.Out.length+900000 * ls.length≤90000000000→(zCa ls++rest).length≤40000→(∀x∈ls,noCR x=true)→
  ∃B,iter qoa (ses (tb t (zCa ls++rest)) (zsa m.Message) (rawP m.Message))=some (ses (tb (runP t [] ls).1 B) (zsa m.Message) (rawP m.Message))∧((runP t [] ls).1.C.Done=false→B=zCa (runP t [] ls).2++rest)∧B.length≤40000
 | n,ls,t,hn,iv,op,hd,hm,ho,hb,hc=> by
  subst hm
  have hnx:=next_eq t iv op (by omega) rest hrest ls hb hc
  rw [zfb]
  have hstep:∀p:Bool × zfa,kNa (ses (tb t (zCa ls++rest)) (zsa t.C.Mail.Message) (rawP t.C.Mail.Message))=some p→
    qoa (ses (tb t (zCa ls++rest)) (zsa t.C.Mail.Message) (rawP t.C.Mail.Message))=some (bif p.1 then .cont p.2 else .out p.2):=by
   intro p hp
   unfold qoa
   show (((bif (!t.C.Done) then _ else _:Option (Bool × zfa))).bind _)=_
   rw [hd,hp]
   show (bif p.1 then _ else _)=_
   cases p.1 <;> rfl
  cases hs:Q8a [] ls with
  | wait=>
   rw [hs] at hnx
   exact ⟨zCa ls++rest,zHa (hstep _ hnx),fun _=> rfl,hb⟩
  | broken=>
   rw [hs] at hnx
   exact ⟨zCa ls++rest,zHa (hstep _ hnx),fun h=> (by cases h),hb⟩
  | said r q=>
   rw [hs] at hnx
   have hA:=Qqa iv op hd r
   obtain ⟨_,p,hp,hp1⟩:=Yna ls [] hs
   rw [zOa (hstep _ hnx)]
   dsimp only
   by_cases hdn:(k6a t r).C.Done=true
   ·rw [if_pos hdn]
    have hfl:(zCa ls).length=(zCa p).length+(zCa q).length:=by rw [hp,j2a];simp
    exact ⟨zCa q++rest,kfb _ hdn,fun h=> (by rw [hdn] at h;cases h),by simp only [List.length_append] at hb ⊢;omega⟩
   ·rw [if_neg hdn]
    rcases hA.opn with h | ⟨hd2,op2⟩
    ·exact absurd h hdn
    have hl:ls.length=p.length+q.length:=by rw [hp];simp
    have hout:=hA.out
    cases n with
    | zero=> omega
    | succ n=>
     have hfl:(zCa ls).length=(zCa p).length+(zCa q).length:=by rw [hp,j2a];simp
     have:=kgb rest hrest t.C.Mail n q (k6a t r) (by omega) hA.inv op2 hd2 hA.same.2.1 (by omega) (by simp only [List.length_append] at hb ⊢;omega) (fun x hx=> hc x (by rw [hp];simp [hx]))
     exact this
theorem V6a (c:zla):jWa c=some (bif c.Whole then 4 else 2):=by
 unfold jWa
 cases c.Whole <;> rfl
theorem yrb (t:Talk) (iv:CInv t.C) (op:COpn t.C) (ho:t.Out.length≤90000000000) (r:kba):∃b,KCa t (iQuo r.Code 100)=some (tb (k6a t r) b):=
 heard_eq t iv op ho _ _ (by have:=iv.e0;omega)
theorem Yoa (t:Talk) (iv:CInv t.C) (op:COpn t.C) (ho:t.Out.length≤90000000000) (rest b:Str) (hb:b.length≤40000) (L:List Str):∀(ls acc:List Str),b=zCa acc++(zCa ls++rest)→L=acc++ls→
  ∃B,iter (qpa (L,rest)) (false,((zCa acc).length:Int),(acc.length:Int),t,b)=some (match Q8a acc ls with
   | .wait=> .inl (false,t,b)
   | .broken=> .inr (tb (Wja t) [])
   | .said r q=> .inl (true,tb (k6a t r) B,zCa q++rest))
 | [],acc,h,hL=> by
  refine ⟨[],zHa ?_⟩
  unfold qpa
  dsimp only
  rw [hL,List.append_nil,z1a]
  rfl
 | x::ls,acc,h,hL=> by
  have hm:=(zZa iv.good.mail).many
  have h' :b=zCa acc++(x++13::10::(zCa ls++rest)):=by rw [h,KIa];simp
  have hbl:b.length=(zCa acc).length+x.length+2+(zCa ls).length+rest.length:=by rw [h'];simp;omega
  have hsn:zCa (acc++ [x])=zCa acc++x++ [13,10]:=by rw [j2a];simp [zCa]
  have hsm:smLn (acc++ [x]):=ypb (by rw [hsn];simp;omega)
  have hcut2:cut b (((zCa acc).length+x.length+2:Nat):Int) (b.length:Int)=some (zCa ls++rest):=by
   rw [y3a (by omega)]
   congr 1
   rw [h',show (zCa acc).length+x.length+2=(zCa acc++(x++ [13,10])).length by simp;omega,show zCa acc++(x++13::10::(zCa ls++rest))=(zCa acc++(x++ [13,10]))++(zCa ls++rest) by simp]
   exact List.drop_left
  have hcnt:=Q9a acc
  obtain ⟨B,hB⟩:=yrb t iv op ho (voa (acc++ [x])).1
  have hbody:qpa (L,rest) (false,((zCa acc).length:Int),(acc.length:Int),t,b)=
    some (if badL acc x then .out (.inr (tb (Wja t) [])) else if qYa (acc++ [x])=0 then .cont (true,((zCa (acc++ [x])).length:Int),((acc++ [x]).length:Int),tb (k6a t (voa (acc++ [x])).1) B,zCa ls++rest) else .cont (false,((zCa (acc++ [x])).length:Int),((acc++ [x]).length:Int),t,b)):=by
   have hidx:idx L (acc.length:Int)=some x:=by rw [hL];exact JWa acc x ls
   have hw1:w64 ((acc.length:Int)+1)=((acc++ [x]).length:Int):=by rw [z0a (by omega) (by omega)];simp
   have htk:cut L 0 ((acc++ [x]).length:Int)=some (acc++ [x]):=by
    rw [show L=(acc++ [x])++ls by rw [hL];simp]
    rw [QWa (by simp)]
    congr 1
    exact List.take_left
   unfold qpa
   dsimp only
   rw [show decide ((acc.length:Int) < (L.length:Int))=true by rw [hL];simp;omega]
   simp only [cond_true,Option.bind_some,Bool.not_false]
   rw [hidx,hw1]
   simp only [Option.bind_some]
   rw [htk]
   simp only [Option.bind_some]
   rw [z2b _ hsm]
   simp only [Option.bind_some]
   have hco:(voa (acc++ [x])).2.2.Code=qYa (acc++ [x]):=rfl
   have hw2:w64 (w64 (((zCa acc).length:Int)+(x.length:Int))+2)=((zCa (acc++ [x])).length:Int):=by
    rw [VZa _ _ (by omega),z0a (by omega) (by omega),hsn]
    simp
    omega
   rw [hco,hw2]
   have hj:((bif decide (4000 < (x.length:Int)) then some (((zCa (acc++ [x])).length:Int),true) else (bif (qYa (acc++ [x]) !=0) then some (((zCa (acc++ [x])).length:Int),(qYa (acc++ [x]) !=9)) else some (((zCa (acc++ [x])).length:Int),false))):Option (Int × Bool))=some (((zCa (acc++ [x])).length:Int),decide (badL acc x)):=by
    by_cases h1:4000 < x.length
    ·have hb1:badL acc x:=Or.inl h1
     rw [decide_eq_true (show (4000:Int) < (x.length:Int) by omega),decide_eq_true hb1];rfl
    ·rw [decide_eq_false (show ¬(4000:Int) < (x.length:Int) by omega)]
     by_cases h2:qYa (acc++ [x])=0
     ·have hb1:¬badL acc x:=by unfold badL;omega
      rw [show (qYa (acc++ [x]) !=0)=false by simp [h2],decide_eq_false hb1];rfl
     ·rw [show (qYa (acc++ [x]) !=0)=true by simpa using h2]
      by_cases h3:qYa (acc++ [x])=9
      ·have hb1:¬badL acc x:=by unfold badL;omega
       rw [show (qYa (acc++ [x]) !=9)=false by simp [h3],decide_eq_false hb1];rfl
      ·have hb1:badL acc x:=Or.inr ⟨h2,h3⟩
       rw [show (qYa (acc++ [x]) !=9)=true by simpa using h3,decide_eq_true hb1];rfl
   rw [hj]
   simp only [Option.bind_some]
   by_cases hbad:badL acc x
   ·rw [decide_eq_true hbad,if_pos hbad,V6a]
    simp only [cond_true,Option.bind_some]
    rw [KKa _ _ (by have:=iv.len;omega)]
    rfl
   ·rw [decide_eq_false hbad,if_neg hbad]
    simp only [cond_false]
    unfold y2a
    dsimp only
    rw [hw1]
    by_cases hc:qYa (acc++ [x])=0
    ·rw [show (qYa (acc++ [x])==0)=true by rw [beq_iff_eq];exact hc,if_pos hc]
     simp only [cond_true]
     rw [show (zCa (acc++ [x])).length=(zCa acc).length+x.length+2 by rw [hsn];simp;omega,hcut2]
     simp only [Option.bind_some]
     rw [hB]
     rfl
    ·rw [show (qYa (acc++ [x])==0)=false by rw [beq_eq_false_iff_ne];exact hc,if_neg hc]
     rfl
  rw [Q8a]
  by_cases hbad:badL acc x
  ·rw [if_pos hbad] at hbody ⊢
   exact ⟨B,zHa hbody⟩
  rw [if_neg hbad] at hbody ⊢
  by_cases hc:qYa (acc++ [x])=0
  ·rw [if_pos hc] at hbody ⊢
   refine ⟨B, ?_⟩
   rw [zOa hbody]
   refine zHa ?_
   unfold qpa
   dsimp only
   cases decide (((acc++ [x]).length:Int) < (L.length:Int)) <;> rfl
  rw [if_neg hc] at hbody ⊢
  rw [zOa hbody]
  exact Yoa t iv op ho rest b hb L ls (acc++ [x]) (by rw [hsn,h'];simp) (by rw [hL];simp)
theorem ysb {t:Talk} (iv:CInv t.C) (b:Str):CInv (tb t b).C:=⟨⟨iv.good.name,iv.good.mail⟩,iv.len,iv.e0,iv.e1,iv.rng⟩
theorem opn_tb {t:Talk} (op:COpn t.C) (b:Str):COpn (tb t b).C:=⟨op.whole,op.nr,op.opn⟩
theorem heard_tb (t:Talk) (b:Str) (r:kba):k6a (tb t b) r=tb (k6a t r) b:=yib t b _ _
theorem ytb (b:Str):∀(ls acc:List Str) (t:Talk),runP (tb t b) acc ls=(tb (runP t acc ls).1 b,(runP t acc ls).2)
 | [],acc,t=> rfl
 | x::r,acc,t=> by
  rw [runP,runP,heard_tb]
  by_cases hb:badL acc x
  ·rw [if_pos hb,if_pos hb];rfl
  rw [if_neg hb,if_neg hb]
  by_cases hc:qYa (acc++ [x])=0
  ·rw [if_pos hc,if_pos hc]
   by_cases hd:(k6a t (voa (acc++ [x])).1).C.Done=true
   ·rw [if_pos (show (tb (k6a t (voa (acc++ [x])).1) b).C.Done=true from hd),if_pos hd]
   ·rw [if_neg (show ¬(tb (k6a t (voa (acc++ [x])).1) b).C.Done=true from hd),if_neg hd]
    exact ytb b r [] _
  ·rw [if_neg hc,if_neg hc]
   exact ytb b r _ t
def endB (p:Talk × List Str) (rest:Str):Talk:=tb p.1 (if p.1.C.Done=true then [] else zCa p.2++rest)
def fin (o:Talk ⊕ Talk):Talk:=Sum.elim (fun t=> tb t []) id o
theorem Jra (rest:Str) (hrest:(fl [] rest).1= []):∀(n:Nat) (ls:List Str) (t:Talk),ls.length≤n→CInv t.C→COpn t.C→t.C.Done=false→t.Out.length+900000 * ls.length≤90000000000→(zCa ls++rest).length≤40000→(∀x∈ls,noCR x=true)→
  ∃o,iter qqa (t,zCa ls++rest)=some o∧fin o=endB (runP t [] ls) rest
 | n,ls,t,hn,iv,op,hd,ho,hb,hc=> by
  have hL:Vya (zCa ls++rest)=some (ls,rest):=by
   rw [vAb _ (by omega),qnb ls hc rest]
   have h2:=Wxa rest
   rw [hrest] at h2 ⊢
   rw [show (fl [] rest).2=rest from h2]
   simp
  obtain ⟨B,hB⟩:=Yoa t iv op (by omega) rest (zCa ls++rest) hb ls ls [] (by simp [zCa]) rfl
  rw [zfb]
  cases hs:Q8a [] ls with
  | wait=>
   rw [hs] at hB
   refine ⟨.inr (tb t (zCa ls++rest)),zHa ?_, ?_⟩
   ·unfold qqa
    dsimp only
    rw [hd,hL]
    simp only [Bool.not_false,cond_true,Option.bind_some]
    rw [show iter (qpa (ls,rest)) (false,0,0,t,zCa ls++rest)=_ from hB]
    rfl
   ·show tb t (zCa ls++rest)=tb t (if t.C.Done=true then [] else zCa ([]++ls)++rest)
    rw [if_neg (by rw [hd];decide)]
    rfl
  | broken=>
   rw [hs] at hB
   refine ⟨.inr (tb (Wja t) []),zHa ?_,rfl⟩
   unfold qqa
   dsimp only
   rw [hd,hL]
   simp only [Bool.not_false,cond_true,Option.bind_some]
   rw [show iter (qpa (ls,rest)) (false,0,0,t,zCa ls++rest)=_ from hB]
   rfl
  | said r q=>
   rw [hs] at hB
   have hA:=Qqa iv op hd r
   obtain ⟨_,p,hp,hp1⟩:=Yna ls [] hs
   have hst:qqa (t,zCa ls++rest)=some (.cont (tb (k6a t r) B,zCa q++rest)):=by
    unfold qqa
    dsimp only
    rw [hd,hL]
    simp only [Bool.not_false,cond_true,Option.bind_some]
    rw [show iter (qpa (ls,rest)) (false,0,0,t,zCa ls++rest)=_ from hB]
    rfl
   rw [zOa hst]
   dsimp only
   by_cases hdn:(k6a t r).C.Done=true
   ·rw [if_pos hdn]
    refine ⟨.inl (tb (k6a t r) B),zHa ?_, ?_⟩
    ·unfold qqa
     show (bif (!(k6a t r).C.Done) then _ else _)=_
     rw [hdn]
     rfl
    ·show tb (k6a t r) []=tb (k6a t r) (if (k6a t r).C.Done=true then [] else _)
     rw [if_pos hdn]
   ·rw [if_neg hdn]
    rcases hA.opn with h | ⟨hd2,op2⟩
    ·exact absurd h hdn
    have hl:ls.length=p.length+q.length:=by rw [hp];simp
    have hout:=hA.out
    cases n with
    | zero=> omega
    | succ n=>
     have hfl:(zCa ls).length=(zCa p).length+(zCa q).length:=by rw [hp,j2a];simp
     obtain ⟨o,h1,h2⟩:=Jra rest hrest n q (tb (k6a t r) B) (by omega) (ysb hA.inv B) (opn_tb op2 B) hd2 (by show (k6a t r).Out.length+_≤_;omega) (by simp only [List.length_append] at hb ⊢;omega) (fun x hx=> hc x (by rw [hp];simp [hx]))
     refine ⟨o,h1,h2.trans ?_⟩
     rw [ytb]
     rfl
end Go.Proofs.YtjnmamghadpedaaGreatDoor
namespace Go.Proofs.YtjnmamghadpedaaGreatDoor
open Go.RowKit
set_option maxHeartbeats 1000000
set_option maxRecDepth 20000
theorem iter_or {α:Type} (l:List α) (q:Nat→α→Bool) {body:Bool × Int→Option (Step (Bool × Int) Bool)} (hl:∀b,body (b,(l.length:Int))=some (.out b))
  (hs:∀(i:Nat) x b,l[i]? =some x→body (b,(i:Int))=some (.cont (b || q i x,((i+1:Nat):Int)))) (b:Bool):∃r,iter body (b,0)=some r∧(r=true↔b=true∨∃(i:Nat) (x:α),l[i]? =some x∧q i x=true):=by
 obtain ⟨t,h1,_,h3⟩:=Jfa l (fun i (s:Bool)=> (s,i)) (fun i s x=> s || q i x) id (fun _ _=> True) (body:=body) (fun s _=> hl s) (fun i x s hx _=> ⟨hs i x s hx,trivial⟩) b trivial
 refine ⟨t,h1, ?_⟩
 have hf:∀(z:List (α × Nat)) (b:Bool),(z.foldl (fun s p=> s || q p.2 p.1) b=true↔b=true∨∃p∈z,q p.2 p.1=true):=by
  intro z
  induction z with
  | nil=> intro b;simp
  | cons p z ih=>
   intro b
   rw [List.foldl_cons,ih]
   simp only [Bool.or_eq_true,List.mem_cons,exists_eq_or_imp]
   exact or_assoc
 rw [h3,hf]
 refine or_congr Iff.rfl ⟨?_, ?_⟩
 ·rintro ⟨⟨x,i⟩,hm,hq⟩
  exact ⟨i,x,by simpa using List.mem_zipIdx_iff_getElem?.1 hm,hq⟩
 ·rintro ⟨i,x,hx,hq⟩
  exact ⟨(x,i),List.mem_zipIdx_iff_getElem?.2 hx,hq⟩
def wla (n:Str) (m:kea):zza:=if !jDa n then ⟨10, -20⟩ else jZa m
structure qVb (c:zla):Prop where
 len:c.Results.length=c.Mail.Envelope.To.length
 rng:∀r∈c.Results,0≤r∧r≤4
 e0:0≤c.Expected
 e1:c.Expected≤(c.Mail.Envelope.To.length:Int)+4
 buf:c.Buffer.length≤40000
 opn:c.Done=false→COpn c
open Classical in
noncomputable def cliF (c:zla):zza:=if (wla c.Name c.Mail).Code≠0 then wla c.Name c.Mail else if qVb c then ⟨0,0⟩ else ⟨5, -23⟩
structure yia (c:zla):Prop where
 name:c.Name.length≤1048576
 env:Z6a c.Mail.Envelope
 msg:jYa c.Mail.Message
 res:c.Results.length≤1048576
 buf:c.Buffer.length≤1048576
theorem vKb {m:kea} (h:(jZa m).Code=0):jZa m=⟨0,0⟩:=by
 obtain ⟨h1,h2⟩:=W7a h
 unfold jZa
 rw [h1,h2]
 rfl
theorem qWb (n:Str) (m:kea) (hn:n.length≤1048576) (h1:Z6a m.Envelope) (h2:jYa m.Message):wfa n m=some (wla n m):=by
 unfold wfa wla
 rw [Zoa n hn,VEa m h1 h2]
 cases jDa n <;> rfl
theorem VIa {n:Str} {m:kea} (h:(wla n m).Code=0):jDa n=true∧(jZa m).Code=0:=by
 unfold wla at h
 cases hn:jDa n with
 | false=> rw [hn] at h;cases h
 | true=> rw [hn] at h;exact ⟨rfl,h⟩
theorem write_eq {m:kea} (h:(jZa m).Code=0) (h2:jYa m.Message):wCa m.Message=some (zsa m.Message,⟨0,0⟩):=by
 have gm:=zZa h
 unfold wCa
 rw [y5a _ h2]
 simp only [Option.bind_some,kpa,z6a,(W7a h).2,Zxa m.Message (by have:=gm.body;omega) gm.many60 gm.codes]
 rfl
theorem Jsa {m:kea} (h:(jZa m).Code=0) (h2:jYa m.Message):qXa m.Message=some (zsa m.Message,rawP m.Message):=by
 have gm:=zZa h
 have:=gm.big
 unfold qXa
 rw [write_eq h h2]
 simp only [Option.bind_some]
 rw [K8a _ (by omega)]
 rfl
def openB (c:zla):Bool:=(zUa (fun i x=> if decide (c.Expected≤(i:Int)+3) && x !=0 then some false else none) 0 c.Results).getD true
theorem yub (c:zla):openB c=true↔∀(i:Nat) x,c.Results[i]? =some x→c.Expected≤(i:Int)+3→x=0:=by
 unfold openB
 cases hf:zUa (fun i x=> if decide (c.Expected≤(i:Int)+3) && x !=0 then some false else none) 0 c.Results with
 | none=>
  refine ⟨fun _ i x hx h=> ?_,fun _=> rfl⟩
  have:=v7a.1 hf i x hx
  rw [Nat.zero_add,decide_eq_true h] at this
  simpa using this
 | some b=>
  obtain ⟨i,x,hx,hq⟩:=Zma hf
  rw [Nat.zero_add] at hq
  split at hq
  ·rename_i hc
   cases hq
   simp only [Bool.and_eq_true,decide_eq_true_eq,bne_iff_ne] at hc
   refine ⟨fun h=> (by cases h),fun h=> absurd (h i x hx hc.1) hc.2⟩
  ·cases hq
theorem Ypa (a b:Bool):(bif a then some false else some b:Option Bool)=some (!a && b):=by cases a <;> rfl
theorem open_eq (c:zla) (hs:yia c) (h:(jZa c.Mail).Code=0):∃b,y1a c=some b∧(b=true↔COpn c):=by
 have hm:=(zZa h).many
 have hr:=hs.res
 unfold y1a
 rw [Jsa h hs.msg]
 simp only [Option.bind_some]
 have e4:w64 ((c.Mail.Envelope.To.length:Int)+4)=(c.Mail.Envelope.To.length:Int)+4:=z0a (by omega) (by omega)
 have e3:w64 ((c.Mail.Envelope.To.length:Int)+3)=(c.Mail.Envelope.To.length:Int)+3:=z0a (by omega) (by omega)
 rw [e4,e3]
 have hloop:(iter (vRa c) 0).bind (Sum.elim (fun b14=> some true) (fun b15=> some b15))=some (openB c):=by
  rw [zQa c.Results (fun i x=> if decide (c.Expected≤(i:Int)+3) && x !=0 then some false else none) (.inl ()) .inr]
  ·unfold openB
   cases zUa (fun i x=> if decide (c.Expected≤(i:Int)+3) && x !=0 then some false else none) 0 c.Results <;> rfl
  ·unfold vRa;rw [z1a];rfl
  ·intro i x hx
   have hi:=kca hx
   unfold vRa
   rw [kAa hx,zYa hx]
   simp only [cond_true,Option.bind_some,sc i (by omega),show w64 ((i:Int)+3)=(i:Int)+3 from z0a (by omega) (by omega)]
   cases decide (c.Expected≤(i:Int)+3) <;> cases x !=0 <;> rfl
 rw [hloop]
 have hj:((bif (c.Expected==((c.Mail.Envelope.To.length:Int)+4)) then (bif (c.Whole !=true) then some true else (bif rawP c.Mail.Message then some ((c.Expected==((c.Mail.Envelope.To.length:Int)+3))) else some false)) else (bif rawP c.Mail.Message then (bif c.Pipelined then (bif (c.Whole !=decide (2≤c.Expected)) then some true else some ((c.Expected==((c.Mail.Envelope.To.length:Int)+3)))) else (bif (c.Whole !=false) then some true else some ((c.Expected==((c.Mail.Envelope.To.length:Int)+3))))) else (bif (c.Whole !=false) then some true else some false))):Option Bool)=
   some ((c.Whole !=(decide (c.Expected=(c.Mail.Envelope.To.length:Int)+4) || (rawP c.Mail.Message && c.Pipelined && decide (2≤c.Expected)))) || (rawP c.Mail.Message && decide (c.Expected=(c.Mail.Envelope.To.length:Int)+3))):=by
  have b4:(c.Expected==((c.Mail.Envelope.To.length:Int)+4))=decide (c.Expected=(c.Mail.Envelope.To.length:Int)+4):=by rw [Bool.eq_iff_iff];simp
  have b3:(c.Expected==((c.Mail.Envelope.To.length:Int)+3))=decide (c.Expected=(c.Mail.Envelope.To.length:Int)+3):=by rw [Bool.eq_iff_iff];simp
  rw [b4,b3]
  cases decide (c.Expected=(c.Mail.Envelope.To.length:Int)+4) <;> cases rawP c.Mail.Message <;> cases c.Pipelined <;> cases decide (2≤c.Expected) <;> cases c.Whole <;> cases decide (c.Expected=(c.Mail.Envelope.To.length:Int)+3) <;> rfl
 rw [hj]
 simp only [Option.bind_some]
 have hbi:=yub c
 refine ⟨_,(Ypa _ _), ?_⟩
 rw [Bool.and_eq_true,hbi]
 simp only [Bool.not_eq_true',Bool.or_eq_false_iff,Bool.and_eq_false_iff,bne_eq_false_iff_eq,decide_eq_false_iff_not]
 constructor
 ·rintro ⟨⟨h1,h2⟩,h3⟩
  exact ⟨h1,fun ⟨a,b⟩=> h2.elim (fun h=> by rw [h] at a;cases a) (fun h=> h b),h3⟩
 ·intro o
  refine ⟨⟨o.whole, ?_⟩,o.opn⟩
  cases hr:rawP c.Mail.Message with
  | false=> exact .inl rfl
  | true=> exact .inr fun h=> o.nr ⟨hr,h⟩
theorem qXb (c:zla) (hs:yia c):wga c=some (cliF c):=by
 unfold wga cliF
 rw [qWb _ _ hs.name hs.env hs.msg]
 simp only [Option.bind_some,kpa,zPa,z6a]
 by_cases h0:(wla c.Name c.Mail).Code=0
 ·rw [if_neg (by simp [h0])]
  obtain ⟨hn,hml⟩:=VIa h0
  have hm:=(zZa hml).many
  have hr:=hs.res
  rw [show ((wla c.Name c.Mail).Code !=0)=false by simp [h0]]
  simp only [cond_false]
  have hloop:((iter (vna c) 0).bind (Sum.elim (fun b10=> some ((-1))) (fun b11=> some b11)):Option Int)=some ((zUa (fun i x=> if (decide (x < 0) || decide (4 < x)) then some ((i:Nat):Int) else none) 0 c.Results).getD (-1)):=by
   rw [zQa c.Results (fun i x=> if (decide (x < 0) || decide (4 < x)) then some ((i:Nat):Int) else none) (.inl ()) .inr]
   ·simp only [Option.bind_some,Wva]
   ·unfold vna;rw [z1a];rfl
   ·intro i x hx
    have hi:=kca hx
    unfold vna
    rw [kAa hx,zYa hx]
    simp only [cond_true,Option.bind_some,sc i (by omega)]
    cases decide (x < 0) <;> cases decide (4 < x) <;> rfl
  rw [hloop]
  simp only [Option.bind_some]
  rw [WXa (fun x=> decide (x < 0) || decide (4 < x)) c.Results 0]
  obtain ⟨ob,ho,hoi⟩:=open_eq c hs hml
  rw [ho,show w64 ((c.Mail.Envelope.To.length:Int)+4)=(c.Mail.Envelope.To.length:Int)+4 from z0a (by omega) (by omega)]
  have hj:∃j,((bif ((c.Results.length:Int) !=(c.Mail.Envelope.To.length:Int)) then some true else (bif (c.Results.any fun x=> decide (x < 0) || decide (4 < x)) then some true else (bif decide (c.Expected < 0) then some true else (bif decide ((c.Mail.Envelope.To.length:Int)+4 < c.Expected) then some true else (bif decide (40000 < (c.Buffer.length:Int)) then some true else (bif (!c.Done) then (some ob).bind fun v25=> some (!v25) else some false)))))):Option Bool)=some j∧(j=true↔¬qVb c):=by
   refine ⟨((c.Results.length:Int) !=(c.Mail.Envelope.To.length:Int)) || (c.Results.any fun x=> decide (x < 0) || decide (4 < x)) || decide (c.Expected < 0) || decide ((c.Mail.Envelope.To.length:Int)+4 < c.Expected) || decide (40000 < (c.Buffer.length:Int)) || (!c.Done && !ob), ?_, ?_⟩
   ·cases ((c.Results.length:Int) !=(c.Mail.Envelope.To.length:Int)) <;> cases (c.Results.any fun x=> decide (x < 0) || decide (4 < x)) <;> cases decide (c.Expected < 0) <;> cases decide ((c.Mail.Envelope.To.length:Int)+4 < c.Expected) <;> cases decide (40000 < (c.Buffer.length:Int)) <;> cases c.Done <;> cases ob <;> rfl
   ·rw [←Bool.not_eq_false,not_congr ?_]
    simp only [Bool.or_eq_false_iff,bne_eq_false_iff_eq,List.any_eq_false,Bool.and_eq_false_iff,decide_eq_false_iff_not,Bool.not_eq_false']
    constructor
    ·rintro ⟨⟨⟨⟨⟨h1,h2⟩,h3⟩,h4⟩,h5⟩,h6⟩
     refine ⟨by omega,fun r hr=> ?_,by omega,by omega,by omega,fun hd=> ?_⟩
     ·have:=h2 r hr
      simp only [Bool.or_eq_true,decide_eq_true_eq] at this
      omega
     ·rcases h6 with h6 | h6
      ·rw [hd] at h6;cases h6
      ·exact hoi.1 h6
    ·intro v
     have:=v.len;have:=v.e0;have:=v.e1;have:=v.buf
     refine ⟨⟨⟨⟨⟨by omega,fun r hr=> ?_⟩,by omega⟩,by omega⟩,by omega⟩, ?_⟩
     ·have:=v.rng r hr
      simp only [Bool.or_eq_true,decide_eq_true_eq]
      omega
     ·cases hd:c.Done with
      | true=> exact .inl rfl
      | false=> exact .inr (hoi.2 (v.opn hd))
  obtain ⟨j,hj1,hj2⟩:=hj
  rw [hj1]
  simp only [Option.bind_some]
  cases j with
  | true=> rw [if_neg (hj2.1 rfl)];rfl
  | false=> rw [if_pos (Classical.byContradiction fun h=> by have:=hj2.2 h;cases this)];rfl
 ·rw [if_pos h0,show ((wla c.Name c.Mail).Code !=0)=true by simpa using h0]
  rfl
theorem bind_of3 {α β γ:Type} {o:Option α} {g:α→Option β} {v:β} {f:β→Option γ} {r:Option γ} (h:(o.bind g)=some v) (h2:f v=r):(o.bind fun x=> (g x).bind f)=r:=by
 rw [←Option.bind_assoc];exact y8a h h2
theorem yvb (c:zla) (hs:yia c):vSa c=some (cliF c):=by
 unfold vSa cliF
 rw [W2a _ hs.name,YLa _ hs.env hs.msg]
 simp only [Option.bind_some,jCa]
 unfold wla
 cases hn:jDa c.Name with
 | false=> rfl
 | true=>
  simp only [Bool.not_true,cond_false,Bool.false_eq_true,if_false]
  by_cases h0:(jZa c.Mail).Code=0
  ·rw [if_neg (by simp [h0]),show ((jZa c.Mail).Code !=0)=false by simp [h0]]
   have gm:=zZa h0
   have hm:=gm.many
   have hr:=hs.res
   simp only [cond_false]
   have e4:w64 ((c.Mail.Envelope.To.length:Int)+4)=(c.Mail.Envelope.To.length:Int)+4:=z0a (by omega) (by omega)
   have e3:w64 ((c.Mail.Envelope.To.length:Int)+3)=(c.Mail.Envelope.To.length:Int)+3:=z0a (by omega) (by omega)
   rw [e4,e3,v8a,Yia gm.body gm.many60 gm.codes gm.big]
   simp only [Option.bind_some]
   have hj9:((bif ((c.Results.length:Int) !=(c.Mail.Envelope.To.length:Int)) then some true else (bif (!(decide (0≤c.Expected) && decide (c.Expected≤(c.Mail.Envelope.To.length:Int)+4))) then some true else some (decide (40000 < (c.Buffer.length:Int))))):Option Bool)=
     some (((c.Results.length:Int) !=(c.Mail.Envelope.To.length:Int)) || !(decide (0≤c.Expected) && decide (c.Expected≤(c.Mail.Envelope.To.length:Int)+4)) || decide (40000 < (c.Buffer.length:Int))):=by
    cases ((c.Results.length:Int) !=(c.Mail.Envelope.To.length:Int)) <;> cases (decide (0≤c.Expected) && decide (c.Expected≤(c.Mail.Envelope.To.length:Int)+4)) <;> cases decide (40000 < (c.Buffer.length:Int)) <;> rfl
   rw [hj9]
   simp only [Option.bind_some]
   generalize hB:(((c.Results.length:Int) !=(c.Mail.Envelope.To.length:Int)) || !(decide (0≤c.Expected) && decide (c.Expected≤(c.Mail.Envelope.To.length:Int)+4)) || decide (40000 < (c.Buffer.length:Int)))=B
   obtain ⟨R,hR,hRi⟩:=iter_or c.Results (fun i x=> !(decide (0≤x) && decide (x≤4)) || (!c.Done && decide (c.Expected≤(i:Int)+3) && x !=0)) (body:=qGa c) (fun b=> by unfold qGa;dsimp only;rw [z1a];rfl) (fun i x b hx=> by
    have hi:=kca hx
    unfold qGa
    dsimp only
    rw [kAa hx,zYa hx]
    simp only [cond_true,Option.bind_some,sc i (by omega),v8a,show w64 ((i:Int)+3)=(i:Int)+3 from z0a (by omega) (by omega)]
    cases b <;> cases (decide (0≤x) && decide (x≤4)) <;> cases c.Done <;> cases decide (c.Expected≤(i:Int)+3) <;> cases x !=0 <;> rfl) B
   rw [hR]
   simp only [Option.bind_some]
   have hj:∀W:Bool,((((bif (c.Expected==((c.Mail.Envelope.To.length:Int)+4)) then some true else (bif rawP c.Mail.Message then (bif c.Pipelined then some (decide (2≤c.Expected)) else some false) else some false)):Option Bool).bind fun (j31:Bool)=> (((bif (!c.Done) then (bif (c.Whole !=j31) then some true else (bif rawP c.Mail.Message then some ((c.Expected==((c.Mail.Envelope.To.length:Int)+3))) else some false)) else some false):Option Bool).bind fun (j36:Bool)=> (bif j36 then some true else some W):Option Bool))=
     some (W || (!c.Done && ((c.Whole !=(decide (c.Expected=(c.Mail.Envelope.To.length:Int)+4) || (rawP c.Mail.Message && c.Pipelined && decide (2≤c.Expected)))) || (rawP c.Mail.Message && decide (c.Expected=(c.Mail.Envelope.To.length:Int)+3)))))):=by
    intro W
    have b4:(c.Expected==((c.Mail.Envelope.To.length:Int)+4))=decide (c.Expected=(c.Mail.Envelope.To.length:Int)+4):=by rw [Bool.eq_iff_iff];simp
    have b3:(c.Expected==((c.Mail.Envelope.To.length:Int)+3))=decide (c.Expected=(c.Mail.Envelope.To.length:Int)+3):=by rw [Bool.eq_iff_iff];simp
    rw [b4,b3]
    cases decide (c.Expected=(c.Mail.Envelope.To.length:Int)+4) <;> cases rawP c.Mail.Message <;> cases c.Pipelined <;> cases decide (2≤c.Expected) <;> cases c.Whole <;> cases decide (c.Expected=(c.Mail.Envelope.To.length:Int)+3) <;> cases c.Done <;> cases W <;> rfl
   have hJ:(R || (!c.Done && ((c.Whole !=(decide (c.Expected=(c.Mail.Envelope.To.length:Int)+4) || (rawP c.Mail.Message && c.Pipelined && decide (2≤c.Expected)))) || (rawP c.Mail.Message && decide (c.Expected=(c.Mail.Envelope.To.length:Int)+3)))))=true↔¬qVb c:=by
    rw [Bool.or_eq_true,hRi,←hB]
    constructor
    ·rintro (h | h) v
     ·have h1:=v.len;have h2:=v.e0;have h3:=v.e1;have h4:=v.buf
      rcases h with h | ⟨i,x,hx,h⟩
      ·simp only [Bool.or_eq_true,bne_iff_ne,Bool.not_eq_true',Bool.and_eq_false_iff,decide_eq_false_iff_not,decide_eq_true_eq] at h
       omega
      ·have h5:=v.rng x (List.mem_of_getElem? hx)
       simp only [Bool.or_eq_true,bne_iff_ne,Bool.not_eq_true',Bool.and_eq_true,Bool.and_eq_false_iff,decide_eq_false_iff_not,decide_eq_true_eq] at h
       rcases h with h | ⟨⟨h6,h7⟩,h8⟩
       ·omega
       ·exact h8 ((v.opn h6).opn i x hx h7)
     ·simp only [Bool.and_eq_true,Bool.not_eq_true',Bool.or_eq_true,bne_iff_ne,decide_eq_true_eq] at h
      have o:=v.opn h.1
      rcases h.2 with h | h
      ·exact h (by rw [o.whole])
      ·exact o.nr h
    ·intro hv
     apply Classical.byContradiction
     intro hn
     rw [not_or,not_or] at hn
     obtain ⟨⟨n1,n2⟩,n3⟩:=hn
     simp only [Bool.or_eq_true,bne_iff_ne,Bool.not_eq_true',Bool.and_eq_false_iff,decide_eq_false_iff_not,decide_eq_true_eq] at n1
     have n2' :∀(i:Nat) x,c.Results[i]? =some x→(0≤x∧x≤4)∧(c.Done=false→c.Expected≤(i:Int)+3→x=0):=by
      intro i x hx
      refine ⟨?_,fun hd he=> ?_⟩
      ·apply Classical.byContradiction
       intro h
       refine n2 ⟨i,x,hx, ?_⟩
       rw [Bool.or_eq_true]
       left
       simp only [Bool.not_eq_true',Bool.and_eq_false_iff,decide_eq_false_iff_not]
       omega
      ·apply Classical.byContradiction
       intro h
       refine n2 ⟨i,x,hx, ?_⟩
       rw [hd,decide_eq_true he,show (x !=0)=true by simpa using h]
       simp
     refine hv ⟨by omega,fun r hr=> ?_,by omega,by omega,by omega,fun hd=> ?_⟩
     ·obtain ⟨i,hi⟩:=List.getElem?_of_mem hr
      exact (n2' i r hi).1
     ·rw [hd] at n3
      simp only [Bool.not_false,Bool.true_and,Bool.or_eq_true,bne_iff_ne,Bool.and_eq_true,decide_eq_true_eq,not_or,ne_eq,Classical.not_not] at n3
      exact ⟨n3.1,n3.2,fun i x hx=> (n2' i x hx).2 hd⟩
   refine bind_of3 (hj R) ?_
   generalize (R || (!c.Done && ((c.Whole !=(decide (c.Expected=(c.Mail.Envelope.To.length:Int)+4) || (rawP c.Mail.Message && c.Pipelined && decide (2≤c.Expected)))) || (rawP c.Mail.Message && decide (c.Expected=(c.Mail.Envelope.To.length:Int)+3)))))=J at hJ
   cases J with
   | true=> rw [if_neg (hJ.1 rfl)];rfl
   | false=> rw [if_pos (Classical.byContradiction fun h=> by have:=hJ.2 h;cases this),vKb h0];rfl
  ·rw [if_pos h0,show ((jZa c.Mail).Code !=0)=true by simpa using h0]
   rfl
end Go.Proofs.YtjnmamghadpedaaGreatDoor
namespace Go.Proofs.YtjnmamghadpedaaGreatDoor
open Go.RowKit
set_option maxHeartbeats 1000000
set_option maxRecDepth 20000
theorem jaa {α:Type} {lim:Nat} (l:List α) (h:l.length≤lim):(nilE l.isEmpty (some ([]:List α)) ((app lim ([]:List α) l).bind fun v=> some v))=some l:=by
 rw [koa (by simpa using h)]
 simp only [List.nil_append,Option.bind_some]
 exact wgb _ _ _ (fun he=> by rw [List.isEmpty_iff.1 he])
theorem Yqa (m:kea) (h1:Z6a m.Envelope) (h2:jYa m.Message):qNa m=some m:=by
 obtain ⟨_,_,h1,_⟩:=h1
 obtain ⟨⟨h2,_⟩,h3⟩:=h2
 unfold qNa
 rw [jaa m.Envelope.To (by omega)]
 simp only [Option.bind_some]
 rw [show z8a m.Message.Fields=some m.Message.Fields from jaa _ (by omega),jaa m.Message.Body (by omega)]
 rfl
theorem ywb (a b:List UInt8) (h:a.length+b.length≤2097152):kxa [a,b]=some (a++b):=by
 have l1:iter (kha [a,b]) (0,0)=some ((a.length+b.length:Nat):Int):=by
  have s1:kha [a,b] (0,0)=some (.cont ((a.length:Int),1)):=by
   show (bif decide (w64 ((0:Int)+(a.length:Int)) < 0) then none else some (Step.cont (w64 ((0:Int)+(a.length:Int)),w64 ((0:Int)+1))):Option (Step (Int × Int) Int))=_
   rw [show w64 ((0:Int)+(a.length:Int))=(a.length:Int) by rw [z0a (by omega) (by omega)];omega,decide_eq_false (by omega)]
   rfl
  have s2:kha [a,b] ((a.length:Int),1)=some (.cont (((a.length+b.length:Nat):Int),2)):=by
   show (bif decide (w64 ((a.length:Int)+(b.length:Int)) < 0) then none else some (Step.cont (w64 ((a.length:Int)+(b.length:Int)),w64 ((1:Int)+1))):Option (Step (Int × Int) Int))=_
   rw [VZa _ _ (by omega),decide_eq_false (by omega)]
   rfl
  rw [zOa s1,zOa s2]
  exact zHa rfl
 have hl2:∀s:List UInt8,s.length=0→iter (kia [a,b]) (0,s)=some (a++b):=by
  intro s hs
  have hs0:s= []:=List.eq_nil_of_length_eq_zero hs
  subst hs0
  have s1:kia [a,b] (0, [])=some (.cont (1,a)):=by
   show ((app 140737488355328 [] a).bind fun v20=> some (Step.cont (w64 ((0:Int)+1),v20)):Option (Step (Int × List UInt8) (List UInt8)))=_
   rw [koa (by simp;omega)]
   rfl
  have s2:kia [a,b] (1,a)=some (.cont (2,a++b)):=by
   show ((app 140737488355328 a b).bind fun v20=> some (Step.cont (w64 ((1:Int)+1),v20)):Option (Step (Int × List UInt8) (List UInt8)))=_
   rw [koa (by omega)]
   rfl
  rw [zOa s1,zOa s2]
  exact zHa rfl
 unfold kxa
 rw [l1]
 simp only [Option.bind_some]
 rw [decide_eq_false (show ¬((a.length+b.length:Nat):Int) < 0 by omega),show w64 (((a.length+b.length:Nat):Int) - w64 (0 - 0))=((a.length+b.length:Nat):Int) by rw [show w64 (0 - 0)=0 from rfl,z0a (by omega) (by omega)];omega]
 simp only [cond_false]
 by_cases h0:a.length+b.length=0
 ·rw [decide_eq_false (by omega)]
  have e1:a= []:=List.eq_nil_of_length_eq_zero (by omega)
  have e2:b= []:=List.eq_nil_of_length_eq_zero (by omega)
  subst e1;subst e2
  simp only [cond_false]
  refine y8a (v:= []) ?_ rfl
  rw [zOa (show kCa [([]:List UInt8), []] (0, [])=some (.cont (1, [])) from rfl),zOa (show kCa [([]:List UInt8), []] (1, [])=some (.cont (2, [])) from rfl)]
  exact zHa rfl
 ·rw [decide_eq_true (by omega)]
  simp only [cond_true]
  unfold zrep
  rw [if_pos (by omega)]
  simp only [Option.bind_some]
  rw [show cut (List.replicate ((a.length+b.length:Nat):Int).toNat (0:UInt8)) 0 0=some [] from (QWa (b:=0) (by simp)).trans (by simp)]
  simp only [Option.bind_some]
  rw [hl2 [] rfl]
  rfl
theorem khb (l:List Int) (h:l.length≤1048576):Jca l l=some true:=by
 unfold Jca
 rw [show ((l.length:Int) !=(l.length:Int))=false by simp]
 simp only [cond_false]
 rw [zQa l (fun _ _=> none) (.inl ()) .inr]
 ·have:zUa (fun _ _=> (none:Option Bool)) 0 l=none:=by rw [v7a];intro i x _;rfl
  rw [this];rfl
 ·unfold QTa;rw [z1a];rfl
 ·intro i f hx
  have hi:=kca hx
  unfold QTa
  rw [kAa hx,zYa hx]
  simp only [cond_true,Option.bind_some,sc i (by omega)]
  simp
theorem Yra (c:zla) (h:c.Results.length≤1048576) (h1:c.Mail.Envelope.To.length≤1048576) (h2:c.Mail.Message.Fields.length≤1048576):z5a c c=some true:=by
 unfold z5a
 rw [khb _ h,W8a _ h1 h2]
 simp
def noC:zla:=⟨[],⟨⟨[], [], []⟩,⟨[], []⟩⟩,false, [],0,false,false, []⟩
theorem qYb:z5a noC noC=some true:=Yra _ (by decide) (by decide) (by decide)
def yaa (c:zla) (d:List UInt8):Talk:=if c.Done=true then tb ⟨c, []⟩ [] else endB (runP ⟨c, []⟩ [] (fl [] (c.Buffer++d)).1) (fl [] (c.Buffer++d)).2
noncomputable def kib (c:zla) (d:List UInt8):zla × List UInt8 × zza:=
 if (cliF c).Code≠0 then (noC, [],cliF c) else if 40000 < c.Buffer.length+d.length then (noC, [],⟨1, -1⟩) else ((yaa c d).C,(yaa c d).Out,⟨0,0⟩)
structure Ysa (c:zla):Prop where
 inv:CInv c
 opn:c.Done=false→COpn c
 buf:c.Buffer.length≤40000
 small:yia c
theorem yxb {c:zla} (hs:yia c) (h:(cliF c).Code=0):Ysa c∧cliF c=⟨0,0⟩:=by
 unfold cliF at h ⊢
 by_cases h0:(wla c.Name c.Mail).Code=0
 ·rw [if_neg (by simp [h0])] at h ⊢
  by_cases hv:qVb c
  ·rw [if_pos hv]
   obtain ⟨hn,hm⟩:=VIa h0
   exact ⟨⟨⟨⟨hn,hm⟩,hv.len,hv.e0,hv.e1,hv.rng⟩,hv.opn,hv.buf,hs⟩,rfl⟩
  ·rw [if_neg hv] at h;cases h
 ·rw [if_pos h0] at h;exact absurd h h0
theorem yyb {c:zla} (o:Ysa c):cliF c=⟨0,0⟩:=by
 unfold cliF
 have h0:(wla c.Name c.Mail).Code=0:=by unfold wla;rw [o.inv.good.name];exact o.inv.good.mail
 rw [if_neg (by simp [h0]),if_pos ⟨o.inv.len,o.inv.rng,o.inv.e0,o.inv.e1,o.buf,o.opn⟩]
theorem qob {c:zla} (o:Ysa c) {d:List UInt8} (h:c.Buffer.length+d.length≤40000):(zCa (fl [] (c.Buffer++d)).1++(fl [] (c.Buffer++d)).2)=c.Buffer++d∧(zCa (fl [] (c.Buffer++d)).1++(fl [] (c.Buffer++d)).2).length≤40000∧(fl [] (c.Buffer++d)).1.length≤20000:=by
 have hj:=Wxa (c.Buffer++d)
 have hl:(zCa (fl [] (c.Buffer++d)).1++(fl [] (c.Buffer++d)).2).length≤40000:=by rw [hj];simp;omega
 refine ⟨hj,hl, ?_⟩
 have:=Q9a (fl [] (c.Buffer++d)).1
 simp only [List.length_append] at hl
 omega
theorem qpb (c:zla) (d:List UInt8) (hs:yia c) (hd:d.length≤2097152):v5a c d=some (kib c d):=by
 have hb:=hs.buf
 unfold v5a kib
 rw [qXb c hs]
 simp only [Option.bind_some,kpa,zPa,z6a]
 by_cases h0:(cliF c).Code=0
 ·rw [show ((cliF c).Code !=0)=false by simp [h0],if_neg (by simp [h0])]
  obtain ⟨o,_⟩:=yxb hs h0
  simp only [cond_false]
  rw [VZa _ _ (by omega)]
  by_cases h4:40000 < c.Buffer.length+d.length
  ·rw [if_pos h4,decide_eq_true (show (40000:Int) < ((c.Buffer.length+d.length:Nat):Int) by omega)]
   rfl
  ·rw [if_neg h4,decide_eq_false (show ¬(40000:Int) < ((c.Buffer.length+d.length:Nat):Int) by omega)]
   simp only [cond_false]
   rw [Yqa _ hs.env hs.msg]
   simp only [Option.bind_some]
   rw [show kza c.Results=some c.Results from jaa _ (by have:=hs.res;omega),ywb _ _ (by omega)]
   simp only [Option.bind_some]
   rw [Jsa o.inv.good.mail hs.msg]
   simp only [Option.bind_some]
   obtain ⟨hj,hl,hc⟩:=qob o (d:=d) (by omega)
   have hS:(zfa.mk (zla.mk c.Name c.Mail c.Pipelined (c.Buffer++d) c.Expected c.Whole c.Done c.Results) (zsa c.Mail.Message) (rawP c.Mail.Message) ([]:List UInt8))=ses (tb ⟨c, []⟩ (zCa (fl [] (c.Buffer++d)).1++(fl [] (c.Buffer++d)).2)) (zsa c.Mail.Message) (rawP c.Mail.Message):=by rw [hj];rfl
   rw [hS]
   cases hdn:c.Done with
   | true=>
    rw [kfb _ hdn]
    simp only [Option.bind_some]
    unfold yaa
    rw [if_pos hdn]
    refine y8a (v:=ses (tb ⟨c, []⟩ []) (zsa c.Mail.Message) (rawP c.Mail.Message)) (y8a (jaa (zCa (fl [] (c.Buffer++d)).1++(fl [] (c.Buffer++d)).2) (by omega)) ?_) rfl
    show (bif c.Done then _ else _)=_
    rw [hdn]
    rfl
   | false=>
    obtain ⟨B,h1,h2,h3⟩:=kgb (fl [] (c.Buffer++d)).2 (yob _) c.Mail _ (fl [] (c.Buffer++d)).1 ⟨c, []⟩ (Nat.le_refl _) o.inv (o.opn hdn) hdn rfl (by show 0+_≤_;omega) hl (Yma _)
    rw [h1]
    simp only [Option.bind_some]
    unfold yaa endB
    rw [if_neg (by rw [hdn];decide)]
    refine y8a (v:=ses (tb (runP ⟨c, []⟩ [] (fl [] (c.Buffer++d)).1).1 (if (runP ⟨c, []⟩ [] (fl [] (c.Buffer++d)).1).1.C.Done=true then [] else zCa (runP ⟨c, []⟩ [] (fl [] (c.Buffer++d)).1).2++(fl [] (c.Buffer++d)).2)) (zsa c.Mail.Message) (rawP c.Mail.Message)) (y8a (jaa B (by omega)) ?_) rfl
    show (bif (runP ⟨c, []⟩ [] (fl [] (c.Buffer++d)).1).1.C.Done then _ else _)=_
    cases hd2:(runP ⟨c, []⟩ [] (fl [] (c.Buffer++d)).1).1.C.Done with
    | true=> rw [if_pos rfl];rfl
    | false=> rw [if_neg (by decide),←h2 hd2];rfl
 ·rw [show ((cliF c).Code !=0)=true by simpa using h0,if_pos h0]
  rfl
theorem yzb (c:zla) (d:List UInt8) (o:Ysa c) (h4:c.Buffer.length+d.length≤40000):QRa c d=some (yaa c d):=by
 obtain ⟨hj,hl,hc⟩:=qob o (d:=d) (by omega)
 unfold QRa yaa
 rw [koa (by simp;omega)]
 simp only [Option.bind_some,List.nil_append]
 rw [koa (by omega)]
 simp only [Option.bind_some]
 have hfin:∀o:Talk ⊕ Talk,(Sum.elim (fun b6=> some ((zea.mk ((zla.mk b6.C.Name b6.C.Mail b6.C.Pipelined ([]) b6.C.Expected b6.C.Whole b6.C.Done b6.C.Results)) b6.Out))) (fun b7=> some b7) o:Option Talk)=some (fin o):=by
  intro o
  cases o <;> rfl
 cases hdn:c.Done with
 | true=>
  have:iter qqa ((⟨c, []⟩:Talk),c.Buffer++d)=some (.inl ⟨c, []⟩):=by
   refine zHa ?_
   unfold qqa
   dsimp only
   rw [hdn]
   rfl
  rw [this,if_pos rfl]
  rfl
 | false=>
  rw [if_neg (by decide)]
  obtain ⟨q,h1,h2⟩:=Jra (fl [] (c.Buffer++d)).2 (yob _) _ (fl [] (c.Buffer++d)).1 ⟨c, []⟩ (Nat.le_refl _) o.inv (o.opn hdn) hdn (by show 0+_≤_;omega) hl (Yma _)
  rw [hj] at h1
  rw [h1]
  simp only [Option.bind_some]
  rw [hfin,h2]
def Kaa (c:zla):zla:=(tb (Wja ⟨c, []⟩) []).C
noncomputable def V7a (c:zla):zla × zza:=if (cliF c).Code≠0 then (noC,cliF c) else (Kaa c,⟨0,0⟩)
theorem qZb (c:zla) (hs:yia c):wha c=some (V7a c):=by
 unfold wha V7a
 rw [qXb c hs]
 simp only [Option.bind_some,kpa,zPa,z6a]
 by_cases h0:(cliF c).Code=0
 ·rw [show ((cliF c).Code !=0)=false by simp [h0],if_neg (by simp [h0])]
  simp only [cond_false]
  rw [Yqa _ hs.env hs.msg]
  simp only [Option.bind_some]
  rw [show kza c.Results=some c.Results from jaa _ (by have:=hs.res;omega)]
  simp only [Option.bind_some]
  exact y8a (yqb (tb ⟨c, []⟩ []) [] false (by exact hs.res)) rfl
 ·rw [show ((cliF c).Code !=0)=true by simpa using h0,if_pos h0]
  rfl
theorem vLb (c:zla) (hs:yia c):Z4a c=some (Kaa c):=by
 unfold Z4a
 rw [V6a]
 simp only [Option.bind_some]
 exact y8a (z8b ⟨c, []⟩ _ (by exact hs.res)) rfl
def q0b (n:Str) (m:kea) (p:Bool):zla:=⟨n,m,p, [],0,false,false,List.replicate m.Envelope.To.length 0⟩
def q1b (n:Str) (m:kea) (p:Bool):zla × zza:=if (wla n m).Code≠0 then (noC,wla n m) else (q0b n m p,⟨0,0⟩)
theorem zmk_eq {α:Type} {lim n:Nat} (z:α) (h:n≤lim):zmk lim (n:Int) z=some (List.replicate n z):=by
 unfold zmk
 rw [if_pos (by omega)]
 simp
theorem Start_eq (n:Str) (m:kea) (p:Bool) (hn:n.length≤1048576) (h1:Z6a m.Envelope) (h2:jYa m.Message):w8a n m p=some (q1b n m p):=by
 unfold w8a q1b
 rw [qWb n m hn h1 h2]
 simp only [Option.bind_some,kpa,zPa,z6a]
 by_cases h0:(wla n m).Code=0
 ·rw [show ((wla n m).Code !=0)=false by simp [h0],if_neg (by simp [h0])]
  simp only [cond_false]
  rw [Yqa _ h1 h2]
  simp only [Option.bind_some]
  obtain ⟨_,_,h3,_⟩:=h1
  rw [zmk_eq _ (by omega)]
  rfl
 ·rw [show ((wla n m).Code !=0)=true by simpa using h0,if_pos h0]
  rfl
end Go.Proofs.YtjnmamghadpedaaGreatDoor
namespace Go.Proofs.YtjnmamghadpedaaGreatDoor
open Go.RowKit
set_option maxHeartbeats 1000000
set_option maxRecDepth 20000
structure Ran (t:Talk) (ls:List Str) (p:Talk × List Str):Prop where
 inv:CInv p.1.C
 same:p.1.C.Name=t.C.Name∧p.1.C.Mail=t.C.Mail∧p.1.C.Pipelined=t.C.Pipelined
 stays:YQa t.C.Results p.1.C.Results
 opn:p.1.C.Done=true∨(p.1.C.Done=false∧COpn p.1.C)
 tail:∃q,ls=q++p.2
theorem ran_mono {t u:Talk} {ls q:List Str} {p:Talk × List Str} (h:kbb t u) (r:Ran u q p) (hq:∃z,ls=z++q):Ran t ls p:=by
 obtain ⟨z,hz⟩:=hq
 obtain ⟨y,hy⟩:=r.tail
 exact ⟨r.inv,⟨r.same.1.trans h.same.1,r.same.2.1.trans h.same.2.1,r.same.2.2.trans h.same.2.2⟩,Yla h.stays r.stays,r.opn,z++y,by rw [hz,hy];simp⟩
theorem qqb:∀(ls acc:List Str) (t:Talk),CInv t.C→COpn t.C→t.C.Done=false→Ran t (acc++ls) (runP t acc ls)
 | [],acc,t,iv,op,hd=> ⟨iv,⟨rfl,rfl,rfl⟩,yBa _, .inr ⟨hd,op⟩, [],by simp [runP]⟩
 | x::r,acc,t,iv,op,hd=> by
  rw [runP]
  have hl:=vJb iv
  have hh:=Qqa iv op hd (voa (acc++ [x])).1
  by_cases hb:badL acc x
  ·rw [if_pos hb]
   exact ⟨hl.inv,hl.same,hl.stays, .inl rfl,acc++x::r,by simp⟩
  rw [if_neg hb]
  by_cases hc:qYa (acc++ [x])=0
  ·rw [if_pos hc]
   by_cases hdn:(k6a t (voa (acc++ [x])).1).C.Done=true
   ·rw [if_pos hdn]
    exact ⟨hh.inv,hh.same,hh.stays, .inl hdn,acc++x::r,by simp⟩
   ·rw [if_neg hdn]
    rcases hh.opn with h | ⟨hd2,op2⟩
    ·exact absurd h hdn
    exact ran_mono hh (qqb r [] _ hh.inv op2 hd2) ⟨acc++ [x],by simp⟩
  ·rw [if_neg hc]
   have:=qqb r (acc++ [x]) t iv op hd
   simpa using this
theorem Yta {c:zla} (o:Ysa c) {d:List UInt8} (h4:c.Buffer.length+d.length≤40000):
  Ysa (yaa c d).C∧YQa c.Results (yaa c d).C.Results∧(yaa c d).C.Buffer.length≤c.Buffer.length+d.length∧((yaa c d).C.Done=true→(yaa c d).C.Buffer= []):=by
 obtain ⟨hj,hl,hc⟩:=qob o (d:=d) h4
 have small:∀u:zla,u.Name=c.Name→u.Mail=c.Mail→u.Results.length=u.Mail.Envelope.To.length→u.Buffer.length≤40000→yia u:=by
  intro u h1 h2 h3 h5
  have:=(zZa o.inv.good.mail).many
  exact ⟨by rw [h1];exact o.small.name,by rw [h2];exact o.small.env,by rw [h2];exact o.small.msg,by rw [h3,h2];omega,by omega⟩
 unfold yaa
 cases hdn:c.Done with
 | true=>
  rw [if_pos rfl]
  exact ⟨⟨ysb (t:=⟨c, []⟩) o.inv [],fun h=> (by rw [show (tb ⟨c, []⟩ []).C.Done=c.Done from rfl,hdn] at h;cases h),(by show 0≤40000;omega),small _ rfl rfl o.inv.len (by show 0≤40000;omega)⟩,yBa _,by show 0≤_;omega,fun _=> rfl⟩
 | false=>
  rw [if_neg (by decide)]
  have r:=qqb (fl [] (c.Buffer++d)).1 [] ⟨c, []⟩ o.inv (o.opn hdn) hdn
  generalize runP ⟨c, []⟩ [] (fl [] (c.Buffer++d)).1=p at r
  obtain ⟨q,hq⟩:=r.tail
  have hfl:(zCa (fl [] (c.Buffer++d)).1).length=(zCa q).length+(zCa p.2).length:=by
   rw [List.nil_append] at hq
   have:=congrArg (fun l=> (zCa l).length) hq
   simp only [j2a,List.length_append] at this
   exact this
  have hjl:=congrArg List.length hj
  simp only [List.length_append] at hjl hl
  have hB:(endB p (fl [] (c.Buffer++d)).2).C.Buffer.length≤c.Buffer.length+d.length:=by
   show (if p.1.C.Done=true then [] else zCa p.2++(fl [] (c.Buffer++d)).2).length≤_
   split
   ·show 0≤_;omega
   ·simp only [List.length_append];omega
  refine ⟨⟨ysb r.inv _,fun h=> ?_,by omega,small _ r.same.1 r.same.2.1 r.inv.len (by omega)⟩,r.stays,hB,fun h=> ?_⟩
  ·rcases r.opn with h2 | ⟨_,h2⟩
   ·rw [show (endB p (fl [] (c.Buffer++d)).2).C.Done=p.1.C.Done from rfl,h2] at h;cases h
   ·exact opn_tb h2 _
  ·show (if p.1.C.Done=true then [] else _)=_
   rw [if_pos (show p.1.C.Done=true from h)]
def pre (o:List UInt8) (t:Talk):Talk:=⟨t.C,o++t.Out⟩
theorem start_ok {n:Str} {m:kea} {p:Bool} (h:(wla n m).Code=0) (hn:n.length≤1048576) (h1:Z6a m.Envelope) (h2:jYa m.Message):Ysa (q0b n m p):=by
 obtain ⟨a,b⟩:=VIa h
 have hm:=(zZa b).many
 refine ⟨⟨⟨a,b⟩,by show (List.replicate _ _).length=_;simp [q0b],Int.le_refl 0,by show (0:Int)≤(m.Envelope.To.length:Int)+4;omega,fun r hr=> ?_⟩,fun _=> ⟨?_, ?_,fun i x hx _=> ?_⟩,by show 0≤40000;omega,⟨hn,h1,h2,by show (List.replicate _ _).length≤_;simp;omega,by show 0≤_;omega⟩⟩
 ·rw [(List.mem_replicate.1 hr).2];decide
 ·show false=(decide ((0:Int)=(m.Envelope.To.length:Int)+4) || (rawP m.Message && p && decide ((2:Int)≤0)))
  rw [decide_eq_false (by omega),decide_eq_false (show ¬(2:Int)≤0 by decide)]
  simp
 ·rintro ⟨_,h⟩
  have h' :(0:Int)=(m.Envelope.To.length:Int)+3:=h
  omega
 ·exact (List.mem_replicate.1 (List.mem_of_getElem? hx)).2
def sM:kea:=⟨⟨[115,64,120], [⟨[97,64,121],1⟩], [55]⟩,⟨[], []⟩⟩
theorem yAb:QUa [[97,64,121]]=some sM:=by
 unfold QUa
 rw [zOa (show Zla [[97,64,121]] (0, [])=some (.cont (1, [⟨[97,64,121],1⟩])) from rfl)]
 rw [zHa (show Zla [[97,64,121]] (1, [⟨[97,64,121],1⟩])=some (.out [⟨[97,64,121],1⟩]) from rfl)]
 rfl
theorem WAa:Z6a sM.Envelope∧jYa sM.Message:=
 ⟨⟨by decide,by decide,by decide,fun a ha=> by
  have:∀a∈sM.Envelope.To,a.Address.length≤1048576:=by decide
  exact this a ha⟩,⟨by decide,fun f hf=> by cases hf⟩,by decide⟩
def sC:zla:=q0b [99] sM false
def d1:List UInt8:= [50,50,48,32,109,120,13,10]
def d2:List UInt8:= [50,53,48,45,109,120,13,10,50,53,48,32,111,107,13,10]
theorem yBb:(wla [99] sM).Code=0:=by kernel_rfl
theorem sC_ok:Ysa sC:=start_ok yBb (by decide) WAa.1 WAa.2
def sC1:zla:=⟨[99],sM,false, [],1,false,false, [0]⟩
def sC2:zla:=⟨[99],sM,false, [],2,false,false, [0]⟩
theorem s_one:yaa sC d1=⟨sC1, [104,101,108,108,111,32,99,13,10]⟩:=by kernel_rfl
end Go.Proofs.YtjnmamghadpedaaGreatDoor
namespace Go.Proofs.YtjnmamghadpedaaGreatDoor
open Go.RowKit
set_option maxHeartbeats 1000000
set_option maxRecDepth 20000
theorem dec_2:Lib.decDigits 2= [50]:=yza (by omega)
theorem s_cmd:cmdT (qfb [115,64,120] 2)= [109,97,105,108,32,60,115,64,120,62,32,115,105,122,101,61,50]:=by
 unfold cmdT argT qfb
 simp only [Int.reduceEq,if_true,if_false]
 rw [if_neg (by decide),show ((2:Nat):Int).toNat=2 from rfl,dec_2]
 rfl
theorem s_two:yaa sC1 d2=⟨sC2, [109,97,105,108,32,60,115,64,120,62,32,115,105,122,101,61,50,13,10]⟩:=by
 have hf:fl [] (sC1.Buffer++d2)=([[50,53,48,45,109,120], [50,53,48,32,111,107]], []):=by kernel_rfl
 have hb1:¬badL [] [50,53,48,45,109,120]:=by decide+kernel
 have hc1:¬qYa ([]++ [[50,53,48,45,109,120]])=0:=by decide+kernel
 have hb2:¬badL [[50,53,48,45,109,120]] [50,53,48,32,111,107]:=by decide+kernel
 have hc2:qYa ([[50,53,48,45,109,120]]++ [[50,53,48,32,111,107]])=0:=by decide+kernel
 have hp:voa ([[50,53,48,45,109,120]]++ [[50,53,48,32,111,107]])=(⟨250, [[109,120], [111,107]]⟩,2,⟨0,0⟩):=by kernel_rfl
 have hh:k6a ⟨sC1, []⟩ ⟨250, [[109,120], [111,107]]⟩=⟨sC2,KSa [] (qfb [115,64,120] 2)⟩:=by kernel_rfl
 unfold yaa
 rw [if_neg (by decide),hf]
 rw [runP,if_neg hb1,if_neg hc1,runP,List.nil_append,if_neg hb2,if_pos hc2,hp,hh,if_neg (by decide),runP]
 unfold endB KSa
 rw [s_cmd]
 rfl
theorem s_ok1:Ysa sC1:=by
 have h:=(Yta sC_ok (d:=d1) (by decide)).1
 rw [s_one] at h
 exact h
theorem s_ok2:Ysa sC2:=by
 have h:=(Yta s_ok1 (d:=d2) (by decide)).1
 rw [s_two] at h
 exact h
theorem zgb {c:zla} (o:Ysa c) {d:List UInt8} (h:c.Buffer.length+d.length≤40000):kib c d=((yaa c d).C,(yaa c d).Out,⟨0,0⟩):=by
 unfold kib
 rw [yyb o,if_neg (by simp),if_neg (by omega)]
theorem qrb:KDa=some true:=by
 unfold KDa
 rw [yAb]
 simp only [Option.bind_some]
 rw [Start_eq _ _ _ (by decide) WAa.1 WAa.2,show q1b [99] sM false=(sC,⟨0,0⟩) by unfold q1b;rw [if_neg (by simp [yBb])];rfl]
 simp only [Option.bind_some]
 rw [show ([(50:UInt8),(50:UInt8),(48:UInt8),(32:UInt8),(109:UInt8),(120:UInt8),(13:UInt8),(10:UInt8)]:List UInt8)=d1 from rfl,qpb _ _ sC_ok.small (by decide),zgb sC_ok (by decide),s_one]
 simp only [Option.bind_some]
 rw [show ([(50:UInt8),(53:UInt8),(48:UInt8),(45:UInt8),(109:UInt8),(120:UInt8),(13:UInt8),(10:UInt8),(50:UInt8),(53:UInt8),(48:UInt8),(32:UInt8),(111:UInt8),(107:UInt8),(13:UInt8),(10:UInt8)]:List UInt8)=d2 from rfl,qpb _ _ s_ok1.small (by decide),zgb s_ok1 (by decide),s_two]
 simp only [Option.bind_some]
 rw [qZb _ s_ok2.small,show V7a sC2=(Kaa sC2,⟨0,0⟩) by unfold V7a;rw [yyb s_ok2,if_neg (by simp)]]
 simp only [Option.bind_some]
 rw [show (Kaa sC2).Results= [2] by kernel_rfl,show (Kaa sC2).Done=true from rfl,khb [2] (by decide)]
 kernel_rfl
theorem vMb {c:zla} (h:zla.bk c≤1048576):yia c:=by
 unfold zla.bk kea.bk at h
 dsimp only at h
 have h1:=VAa (bk:=fun _:UInt8=> 1) (fun x=> by simp) c.Buffer
 have h2:=VAa (bk:=fun _:Int=> 1) (fun x=> by simp) c.Results
 exact ⟨by omega,wMb (by omega),wWb (by omega),by omega,by omega⟩
theorem same_ok {c:zla} (s:yia c):z5a c c=some true:=Yra c s.res (by obtain ⟨_,_,h,_⟩:=s.env;exact h) s.msg.1.1
end Go.Proofs.YtjnmamghadpedaaGreatDoor
namespace Go.Proofs.YtjnmamghadpedaaGreatDoor
open Go.RowKit
set_option maxHeartbeats 1000000
theorem jEa (a0:zla) (a1:List UInt8) (o0:zla.ok a0) (o1:okL (fun _=> True) a1) (hk:zla.bk a0+bkL (fun _=> 1) a1≤1048576):qwa a0 a1=some true:=by
 have hs:yia a0:=vMb (by omega)
 have hd:=VAa (bk:=fun _:UInt8=> 1) (fun x=> by simp) a1
 have hb:=hs.buf
 unfold qwa
 rw [yvb a0 hs,qZb a0 hs,qpb a0 a1 hs (by omega),qrb]
 simp only [Option.bind_some,Bool.not_true,cond_false,cond_true]
 by_cases h0:(cliF a0).Code=0
 ·obtain ⟨o,hz⟩:=yxb hs h0
  have ec:V7a a0=(Kaa a0,⟨0,0⟩):=by unfold V7a;rw [if_neg (by simp [h0])]
  have hm:=(zZa o.inv.good.mail).many
  have hsame:z5a (Kaa a0) (Kaa a0)=some true:=Yra _ (by show (KTa a0.Results _).length≤_;rw [z6b];exact hs.res) (by show a0.Mail.Envelope.To.length≤_;omega) hs.msg.1.1
  rw [ec,hz]
  dsimp only
  rw [show q7a [((0:Int)==0),((0:Int)==0)]=true from rfl]
  simp only [Bool.not_true,cond_false,Option.bind_some,show ((0:Int) !=0)=false from rfl]
  rw [vLb a0 hs]
  simp only [Option.bind_some]
  rw [hsame]
  simp only [Option.bind_some,Bool.not_true,cond_false]
  rw [VZa _ _ (by omega)]
  by_cases h4:40000 < a0.Buffer.length+a1.length
  ·have ef:kib a0 a1=(noC, [],⟨1, -1⟩):=by unfold kib;rw [if_neg (by simp [h0]),if_pos h4]
   rw [ef,decide_eq_true (show (40000:Int) < ((a0.Buffer.length+a1.length:Nat):Int) by omega)]
   simp only [cond_true,jCa,Option.bind_some]
   rw [show z5a noC ⟨[],⟨⟨[], [], []⟩,⟨[], []⟩⟩,false, [],0,false,false, []⟩=some true from qYb]
   rfl
  ·obtain ⟨ok2,_⟩:=Yta o (d:=a1) (by omega)
   rw [zgb o (by omega),decide_eq_false (show ¬(40000:Int) < ((a0.Buffer.length+a1.length:Nat):Int) by omega),yzb a0 a1 o (by omega)]
   simp only [cond_false,Option.bind_some]
   rw [same_ok ok2.small]
   simp
 ·have ec:V7a a0=(noC,cliF a0):=by unfold V7a;rw [if_pos h0]
  have ef:kib a0 a1=(noC, [],cliF a0):=by unfold kib;rw [if_pos h0]
  rw [ec,ef]
  dsimp only
  have ha:q7a [((cliF a0).Code==(cliF a0).Code),((cliF a0).Index==(cliF a0).Index)]=true:=by simp [q7a]
  rw [ha,show ((cliF a0).Code !=0)=true by simpa using h0]
  simp only [Bool.not_true,cond_false,cond_true,Option.bind_some]
  rw [show z5a noC ⟨[],⟨⟨[], [], []⟩,⟨[], []⟩⟩,false, [],0,false,false, []⟩=some true from qYb]
  rfl
end Go.Proofs.YtjnmamghadpedaaGreatDoor
namespace Go.Proofs.YtjnmamghadpedaaGreatDoor
open Go.RowKit
set_option maxRecDepth 100000
set_option maxHeartbeats 40000000
theorem kjb (a0:List Str) (r:kea) (hr:QUa a0=some r):Run Tryz.prog 27 [.l cS a0] (.agg [.s r.Envelope.From, .l zca.pc r.Envelope.To, .s r.Envelope.Id, .l zga.pc r.Message.Fields, .l cU r.Message.Body]):=by
 unfold QUa at hr
 refine rf (fn:=Tryz.f27) ⟨Tryz.func27,rfl,by kernel_rfl⟩ rfl (fun _=> rfl) fun g0 hg=> ?_
 refine rn tk 10 rfl ?_
 refine zWa 1003 (o:=3) (j:=1) 85 2 rfl rfl rfl rfl (hO ?_)
 refine rn tk 1 rfl ?_
 refine zWa 2003 (o:=3) (j:=1) 85 2 rfl rfl rfl rfl (hO ?_)
 refine rn tk 9 rfl ?_
 refine al1 hr (fun s1=> [(0, .l cS a0),(2, .ptr 2 0),(3, .ptr 3 0),(4, .i s1.1)]) (fun s1=> [(2003, .row 85 false 2 (List.map zca.pc s1.2)),(3, .cells [.s (([115,64,120]:Str)), .hs 2003 0, .s (([55]:Str)), .l zga.pc ([]), .l cU ([])]),(2, .cells [.s (([]:Str)), .l zca.pc ([]), .s (([]:Str)), .l zga.pc ([]), .l cU ([])])]) (.exit 0) (fun b2=> [(2, .ptr 2 0),(3, .ptr 3 0)]) (fun b2=> [(2003, .row 85 false 2 (List.map zca.pc b2)),(3, .cells [.s (([115,64,120]:Str)), .hs 2003 0, .s (([55]:Str)), .l zga.pc ([]), .l cU ([])]),(2, .cells [.s (([]:Str)), .l zca.pc ([]), .s (([]:Str)), .l zga.pc ([]), .l cU ([])])]) rfl rfl (fun s1 x3 hr=> ?_) (fun b2 hr=> ?_)
 ·
  unfold Zla at hr
  refine rn tk 5 rfl ?_
  refine wn tk rfl rfl rfl ?_
  refine rn tk 3 rfl ?_
  refine ac 10 hr rfl (fun c4 hr=> ?_) (fun c4 hr=> ?_)
  ·
   refine rn tk 4 rfl ?_
   obtain ⟨v5,h6,hr⟩:=zaa hr
   refine dr 9 [(21, .l zca.pc (([(zca.mk v5 1)]:List zca))),(20, .agg [.s v5, .i 1]),(19, .s v5),(18, .ep [pS v5]),(17, .i s1.1),(16, .l cS a0),(15, .hs 2003 0),(14, .ptr 3 1),(13, .ptr 3 0)] mixed (by kernel_rfl) rfl rfl (pq tk rfl (.plain rfl) (pq tk rfl (.plain rfl) (pq tk rfl (.plain rfl) (pq tk rfl (.plain rfl) (pq tk rfl (.plain rfl) (.run (.plain rfl) (qda (wca (f:=cS) rfl rfl kva zDa rfl h6)) (pq tk rfl (.plain rfl) (pq tk rfl (.plain rfl) (.run (.plain rfl) (vEa (F:=zca.pc) (l:=([(zca.mk v5 1)]:List zca)) zLa zVa rfl (fun _=> rfl) rfl rfl) .nil))))))))) rfl ?_
   obtain ⟨v7,h8,hr⟩:=zaa hr
   refine wa tk h8 rfl rfl rfl rfl (fun _=> rfl) rfl rfl ?_
   refine rn tk 11 rfl ?_
   cases hr
   exact atc rfl rfl
  ·
   refine rn tk 2 rfl ?_
   cases hr
   exact ato rfl rfl rfl rfl
 ·
  refine rn tk 8 rfl ?_
  refine Kua (o:=2) (j:=1) (F:=zca.pc) (l:=b2) rfl rfl rfl (hC ?_)
  refine rn tk 1 rfl ?_
  cases hr
  exact kr tk (.inr rfl) rfl rfl
theorem Jta (a0:List Int) (a1:List Int) (r:Bool) (hr:Jca a0 a1=some r):Run Tryz.prog 18 [.l cI a0, .l cI a1] (.bo r):=by
 unfold Jca at hr
 refine rf (fn:=Tryz.f18) ⟨Tryz.func18,rfl,by kernel_rfl⟩ rfl (fun _=> rfl) fun g0 hg=> ?_
 refine rn tk 9 rfl ?_
 refine wn tk rfl rfl rfl ?_
 refine rn tk 1 rfl ?_
 refine wn tk rfl rfl rfl ?_
 refine rn tk 3 rfl ?_
 refine ac 10 hr rfl (fun c1 hr=> ?_) (fun c1 hr=> ?_)
 ·
  refine rn tk 7 rfl ?_
  cases hr
  exact kr tk (.inr rfl) rfl rfl
 ·
  refine rn tk 9 rfl ?_
  refine al2 hr (fun s2=> [(0, .l cI a0),(1, .l cI a1),(5, .i s2)]) (fun s2=> []) (.exit 0) (fun b3=> []) (fun b3=> []) .ret (fun b4=> [(4, .bo b4)]) (fun b4=> []) rfl rfl (fun s2 x6 hr=> ?_) (fun b3 hr=> ?_) (fun b4 hr=> ?_)
  ·
   unfold QTa at hr
   refine rn tk 5 rfl ?_
   refine wn tk rfl rfl rfl ?_
   refine rn tk 3 rfl ?_
   refine ac 14 hr rfl (fun c7 hr=> ?_) (fun c7 hr=> ?_)
   ·
    refine rn tk 5 rfl ?_
    obtain ⟨v8,h9,hr⟩:=zaa hr
    obtain ⟨v10,h11,hr⟩:=zaa hr
    refine dr 8 [(24, .i v10),(23, .ep [pI v10]),(22, .i s2),(21, .l cI a1),(20, .i v8),(19, .ep [pI v8]),(18, .i s2),(17, .l cI a0)] mixed (by kernel_rfl) rfl rfl (pq tk rfl (.plain rfl) (pq tk rfl (.plain rfl) (.run (.plain rfl) (qda (wca (f:=cI) rfl rfl jpa qia rfl h9)) (pq tk rfl (.plain rfl) (pq tk rfl (.plain rfl) (pq tk rfl (.plain rfl) (.run (.plain rfl) (qda (wca (f:=cI) rfl rfl jpa qia rfl h11)) (pq tk rfl (.plain rfl) .nil)))))))) rfl ?_
    refine rn tk 3 rfl ?_
    refine ac 25 hr rfl (fun c12 hr=> ?_) (fun c12 hr=> ?_)
    ·
     refine rn tk 8 rfl ?_
     cases hr
     exact ato rfl rfl rfl rfl
    ·
     refine rn tk 8 rfl ?_
     cases hr
     exact atc rfl rfl
   ·
    refine rn tk 2 rfl ?_
    cases hr
    exact ato rfl rfl rfl rfl
  ·
   refine rn tk 8 rfl ?_
   cases hr
   exact kr tk (.inr rfl) rfl rfl
  ·
   refine rn tk 2 rfl ?_
   cases hr
   exact kr tk (.inr rfl) rfl rfl
theorem z2a (a0:zza) (r:Bool) (hr:kka a0=some r):Run Tryz.prog 20 [.agg [.i a0.Code, .i a0.Index]] (.bo r):=by
 unfold kka at hr
 refine rf (fn:=Tryz.f20) ⟨Tryz.func20,rfl,by kernel_rfl⟩ rfl (fun _=> rfl) fun g0 hg=> ?_
 refine rn tk 15 rfl ?_
 cases hr
 exact kr tk (.inr rfl) rfl rfl
theorem zSa (r:zza) (hr:z7a=some r):Run Tryz.prog 22 [] (.agg [.i r.Code, .i r.Index]):=by
 unfold z7a at hr
 refine rf (fn:=Tryz.f22) ⟨Tryz.func22,rfl,by kernel_rfl⟩ rfl (fun _=> rfl) fun g0 hg=> ?_
 refine rn tk 12 rfl ?_
 cases hr
 exact kr tk (.inr rfl) rfl rfl
theorem vTa (a0:List zga) (r:List zga) (hr:z8a a0=some r):Run Tryz.prog 46 [.l zga.pc a0] (.l zga.pc r):=by
 unfold z8a at hr
 refine rf (fn:=Tryz.f46) ⟨Tryz.func46,rfl,by kernel_rfl⟩ rfl (fun _=> rfl) fun g0 hg=> ?_
 refine rn tk 9 rfl ?_
 refine jMa (d:=3) (F:=zga.pc) (l:=a0) rfl rfl rfl kOa (fun c1=> hO ?_) (hO ?_)
 ·
  replace hr:=QHa c1 hr
  refine rn tk 10 rfl ?_
  cases hr
  exact kr tk (.inr rfl) rfl rfl
 ·
  replace hr:=QIa hr
  refine rn tk 7 rfl ?_
  refine wo (ZRa (k:=5) rfl kOa qha) rfl ?_
  refine rn tk 1 rfl ?_
  obtain ⟨v2,h3,hr⟩:=zaa hr
  refine wo (wYa (k:=7) (F:=zga.pc) (xs:=a0) (lim:=4398046511104) 1002 rfl rfl rfl kOa qha rfl rfl (fun _=> rfl) rfl rfl rfl h3) rfl ?_
  refine rn tk 3 rfl ?_
  refine Zda 1002 rfl (hC ?_)
  refine vba (d:=2) (F:=zga.pc) (l:=v2) rfl rfl (hC ?_)
  refine rn tk 1 rfl ?_
  cases hr
  exact kr tk (.inr rfl) rfl rfl
theorem wSa (a0:kea) (r:kea) (hr:qNa a0=some r):Run Tryz.prog 21 [.agg [.s a0.Envelope.From, .l zca.pc a0.Envelope.To, .s a0.Envelope.Id, .l zga.pc a0.Message.Fields, .l cU a0.Message.Body]] (.agg [.s r.Envelope.From, .l zca.pc r.Envelope.To, .s r.Envelope.Id, .l zga.pc r.Message.Fields, .l cU r.Message.Body]):=by
 unfold qNa at hr
 refine rf (fn:=Tryz.f21) ⟨Tryz.func21,rfl,by kernel_rfl⟩ rfl (fun _=> rfl) fun g0 hg=> ?_
 refine rn tk 11 rfl ?_
 refine ct hr (fun j1=> [(1, .ptr 1 0),(2, .ptr 2 0),(6, .l zca.pc j1)]) (fun j1=> [(2, .cells [.s (([]:Str)), .l zca.pc ([]), .s (([]:Str)), .l zga.pc ([]), .l cU ([])]),(1, .cells [.s a0.Envelope.From, .l zca.pc a0.Envelope.To, .s a0.Envelope.Id, .l zga.pc a0.Message.Fields, .l cU a0.Message.Body])]) (fun j1 hr jump1=> ?_) (fun j1 hr=> ?_)
 ·
  refine il (fn:=Tryz.f45) (args:= [.l zca.pc a0.Envelope.To]) 100000 199999 [(1, .ptr 1 0),(2, .ptr 2 0)] rfl ⟨Tryz.func45,rfl,by kernel_rfl⟩ rfl rfl rfl fun T1 ds1=> ?_
  refine rn tk 9 rfl ?_
  refine jMa (d:=3) (F:=zca.pc) (l:=a0.Envelope.To) rfl rfl rfl zLa (fun c2=> hO ?_) (hO ?_)
  ·
   replace hr:=QHa c2 hr
   refine rn tk 10 rfl ?_
   refine ie tk [.pv (.sl (some true) [])] [(1, .ptr 1 0),(2, .ptr 2 0)] [(2, .cells [.s (([]:Str)), .pv (.sl (some true) []), .s (([]:Str)), .pv (.sl (some true) []), .pv (.sl (some true) [])]),(1, .cells [.s a0.Envelope.From, .l zca.pc a0.Envelope.To, .s a0.Envelope.Id, .l zga.pc a0.Message.Fields, .l cU a0.Message.Body])] (.inr rfl) rfl rfl rfl rfl ?_
   cases hr
   exact jump1 _ _ rfl rfl
  ·
   replace hr:=QIa hr
   refine rn tk 7 rfl ?_
   refine wo (ZRa (k:=5) rfl zLa zVa) rfl ?_
   refine rn tk 1 rfl ?_
   obtain ⟨v3,h4,hr⟩:=zaa hr
   refine wo (wYa (k:=7) (F:=zca.pc) (xs:=a0.Envelope.To) (lim:=5864062014805) 1002 rfl rfl rfl zLa zVa rfl rfl (fun _=> rfl) rfl rfl rfl h4) rfl ?_
   refine rn tk 3 rfl ?_
   refine Zda 1002 rfl (hC ?_)
   refine vba (d:=2) (F:=zca.pc) (l:=v3) rfl rfl (hC ?_)
   refine rn tk 1 rfl ?_
   refine ie tk [.l zca.pc v3] [(1, .ptr 1 0),(2, .ptr 2 0)] [(1002, .row 85 false 2 (List.map zca.pc v3)),(2, .cells [.s (([]:Str)), .pv (.sl (some true) []), .s (([]:Str)), .pv (.sl (some true) []), .pv (.sl (some true) [])]),(1, .cells [.s a0.Envelope.From, .l zca.pc a0.Envelope.To, .s a0.Envelope.Id, .l zga.pc a0.Message.Fields, .l cU a0.Message.Body])] (.inr rfl) rfl rfl rfl rfl ?_
   cases hr
   exact jump1 _ _ rfl rfl
 ·
  refine rn tk 6 rfl ?_
  obtain ⟨v5,h6,hr⟩:=zaa hr
  refine dr 7 [(15, .l cU a0.Message.Body),(14, .ptr 1 4),(13, .ptr 1 3),(12, .l zga.pc v5),(11, .l zga.pc a0.Message.Fields),(10, .ptr 1 3),(9, .ptr 1 3)] mixed (by kernel_rfl) rfl rfl (pq tk rfl (.plain rfl) (pq tk rfl (.plain rfl) (pq tk rfl (.plain rfl) (.run (.plain rfl) (kda (vTa a0.Message.Fields v5 h6) rfl) (pq tk rfl (.plain rfl) (pq tk rfl (.plain rfl) (pq tk rfl (.plain rfl) .nil))))))) rfl ?_
  refine ct hr (fun j7=> [(1, .ptr 1 0),(2, .ptr 2 0),(12, .l zga.pc v5),(16, .l cU j7)]) (fun j7=> [(2, .cells [.s (([]:Str)), .l zca.pc ([]), .s (([]:Str)), .l zga.pc ([]), .l cU ([])]),(1, .cells [.s a0.Envelope.From, .l zca.pc j1, .s a0.Envelope.Id, .l zga.pc a0.Message.Fields, .l cU a0.Message.Body])]) (fun j7 hr jump2=> ?_) (fun j7 hr=> ?_)
  ·
   refine il (fn:=Tryz.f37) (args:= [.l cU a0.Message.Body]) 200000 299999 [(1, .ptr 1 0),(2, .ptr 2 0),(12, .l zga.pc v5)] rfl ⟨Tryz.func37,rfl,by kernel_rfl⟩ rfl rfl rfl fun T2 ds2=> ?_
   refine rn tk 9 rfl ?_
   refine jMa (d:=3) (F:=cU) (l:=a0.Message.Body) rfl rfl rfl zka (fun c8=> hO ?_) (hO ?_)
   ·
    replace hr:=QHa c8 hr
    refine rn tk 10 rfl ?_
    refine ie tk [.pv (.sl (some true) [])] [(1, .ptr 1 0),(2, .ptr 2 0),(12, .l zga.pc v5)] [(2, .cells [.s (([]:Str)), .l zca.pc ([]), .s (([]:Str)), .l zga.pc ([]), .l cU ([])]),(1, .cells [.s a0.Envelope.From, .l zca.pc j1, .s a0.Envelope.Id, .l zga.pc a0.Message.Fields, .l cU a0.Message.Body])] (.inr rfl) rfl rfl rfl rfl ?_
    cases hr
    exact jump2 _ _ rfl rfl
   ·
    replace hr:=QIa hr
    refine rn tk 7 rfl ?_
    refine wo (ZRa (k:=5) rfl zka zua) rfl ?_
    refine rn tk 1 rfl ?_
    obtain ⟨v9,h10,hr⟩:=zaa hr
    refine wo (wYa (k:=7) (F:=cU) (xs:=a0.Message.Body) (lim:=140737488355328) 1002 rfl rfl rfl zka zua rfl rfl (fun _=> rfl) rfl rfl rfl h10) rfl ?_
    refine rn tk 3 rfl ?_
    refine Zda 1002 rfl (hC ?_)
    refine vba (d:=2) (F:=cU) (l:=v9) rfl rfl (hC ?_)
    refine rn tk 1 rfl ?_
    refine ie tk [.l cU v9] [(1, .ptr 1 0),(2, .ptr 2 0),(12, .l zga.pc v5)] [(1002, .row 5 false 1 (List.map cU v9)),(2, .cells [.s (([]:Str)), .l zca.pc ([]), .s (([]:Str)), .l zga.pc ([]), .l cU ([])]),(1, .cells [.s a0.Envelope.From, .l zca.pc j1, .s a0.Envelope.Id, .l zga.pc a0.Message.Fields, .l cU a0.Message.Body])] (.inr rfl) rfl rfl rfl rfl ?_
    cases hr
    exact jump2 _ _ rfl rfl
  ·
   refine rn tk 12 rfl ?_
   cases hr
   exact kr tk (.inr rfl) rfl rfl
theorem wEa (a0:zfa) (a1:Int) (r:zfa) (hr:kqa a0 a1=some r):RunS Tryz.prog 55 [.ptr 90000000 0, .i a1] [(90000000, .cells [.s a0.Client.Name, .s a0.Client.Mail.Envelope.From, .l zca.pc a0.Client.Mail.Envelope.To, .s a0.Client.Mail.Envelope.Id, .l zga.pc a0.Client.Mail.Message.Fields, .l cU a0.Client.Mail.Message.Body, .bo a0.Client.Pipelined, .l cU a0.Client.Buffer, .i a0.Client.Expected, .bo a0.Client.Whole, .bo a0.Client.Done, .hs 90000012 0, .l cU a0.content, .bo a0.chunk, .hs 90000015 0]),(90000012, .row 3 true 1 (List.map cI a0.Client.Results)),(90000015, .row 5 false 1 (List.map cU a0.out))] (.tup []) [(90000000, .cells [.s r.Client.Name, .s r.Client.Mail.Envelope.From, .l zca.pc r.Client.Mail.Envelope.To, .s r.Client.Mail.Envelope.Id, .l zga.pc r.Client.Mail.Message.Fields, .l cU r.Client.Mail.Message.Body, .bo r.Client.Pipelined, .l cU r.Client.Buffer, .i r.Client.Expected, .bo r.Client.Whole, .bo r.Client.Done, .hs 90000012 0, .l cU r.content, .bo r.chunk, .hs 90000015 0]),(90000012, .row 3 true 1 (List.map cI r.Client.Results)),(90000015, .row 5 false 1 (List.map cU r.out))] 90000000 [90000012,90000015]:=by
 unfold kqa at hr
 refine rfS (fn:=Tryz.f55) (H:=90000999) (.ptr 90000000 0) ⟨Tryz.func55,rfl,by kernel_rfl⟩ rfl (hasT rfl) (.inl ⟨rfl,rfl⟩) rfl rfl rfl rfl fun g0 hg S sg T=> ?_
 refine rn tk 7 rfl ?_
 refine wnh tk rfl rfl rfl rfl ?_
 refine rn tk 4 rfl ?_
 refine al1 hr (fun s1=> [(0, .ptr 90000000 0),(1, .i a1),(10, .hs 90000012 0),(11, .i ((a0.Client.Results.length:Int))),(12, .i s1.1)]) (fun s1=> [(90000999, .hold (.ptr 90000000 0) (T.getD 0 undef)),(90000000, .cells [.s s1.2.Client.Name, .s s1.2.Client.Mail.Envelope.From, .l zca.pc s1.2.Client.Mail.Envelope.To, .s s1.2.Client.Mail.Envelope.Id, .l zga.pc s1.2.Client.Mail.Message.Fields, .l cU s1.2.Client.Mail.Message.Body, .bo s1.2.Client.Pipelined, .l cU s1.2.Client.Buffer, .i s1.2.Client.Expected, .bo s1.2.Client.Whole, .bo s1.2.Client.Done, .hs 90000012 0, .l cU s1.2.content, .bo s1.2.chunk, .hs 90000015 0]),(90000012, .row 3 true 1 (List.map cI s1.2.Client.Results)),(90000015, .row 5 false 1 (List.map cU s1.2.out))]) (.exit 0) (fun b2=> []) (fun b2=> [(90000000, .cells [.s b2.Client.Name, .s b2.Client.Mail.Envelope.From, .l zca.pc b2.Client.Mail.Envelope.To, .s b2.Client.Mail.Envelope.Id, .l zga.pc b2.Client.Mail.Message.Fields, .l cU b2.Client.Mail.Message.Body, .bo b2.Client.Pipelined, .l cU b2.Client.Buffer, .i b2.Client.Expected, .bo b2.Client.Whole, .bo b2.Client.Done, .hs 90000012 0, .l cU b2.content, .bo b2.chunk, .hs 90000015 0]),(90000012, .row 3 true 1 (List.map cI b2.Client.Results)),(90000015, .row 5 false 1 (List.map cU b2.out)),(90000999, .hold (.ptr 90000000 0) (T.getD 0 undef))]) rfl rfl (fun s1 x3 hr=> ?_) (fun b2 hr=> ?_)
 ·
  unfold z4a at hr
  refine rn tk 6 rfl ?_
  refine ac 13 hr rfl (fun c4 hr=> ?_) (fun c4 hr=> ?_)
  ·
   refine rn tk 2 rfl ?_
   refine jb hr (fun j5=> [(0, .ptr 90000000 0),(1, .i a1),(10, .hs 90000012 0),(11, .i ((a0.Client.Results.length:Int))),(12, .i s1.1)]) (fun j5=> [(90000000, .cells [.s j5.Client.Name, .s j5.Client.Mail.Envelope.From, .l zca.pc j5.Client.Mail.Envelope.To, .s j5.Client.Mail.Envelope.Id, .l zga.pc j5.Client.Mail.Message.Fields, .l cU j5.Client.Mail.Message.Body, .bo j5.Client.Pipelined, .l cU j5.Client.Buffer, .i j5.Client.Expected, .bo j5.Client.Whole, .bo j5.Client.Done, .hs 90000012 0, .l cU j5.content, .bo j5.chunk, .hs 90000015 0]),(90000012, .row 3 true 1 (List.map cI j5.Client.Results)),(90000015, .row 5 false 1 (List.map cU j5.out)),(90000999, .hold (.ptr 90000000 0) (T.getD 0 undef))]) (fun j5 hr=> ?_) (fun j5 hr=> ?_)
   ·
    refine rn tk 4 rfl ?_
    obtain ⟨v6,h7,hr⟩:=zaa hr
    refine wih tk h7 rfl rfl rfl rfl rfl ?_
    obtain ⟨v8,h9,hr⟩:=zaa hr
    refine wq (qzb (F:=cI) (l:=s1.2.Client.Results) (n:=s1.1) (j:=0) rfl rfl qia rfl h9 rfl) rfl rfl rfl ?_
    refine rn tk 10 rfl ?_
    refine ac 18 hr rfl (fun c10 hr=> ?_) (fun c10 hr=> ?_)
    ·
     refine rn tk 8 rfl ?_
     obtain ⟨v11,h12,hr⟩:=zaa hr
     refine wih tk h12 rfl rfl rfl rfl rfl ?_
     obtain ⟨v13,h14,hr⟩:=zaa hr
     refine wo (Qha (F:=cI) (l:=s1.2.Client.Results) (n:=s1.1) (j:=0) (v:=v13) (v' :=a1) (pcs:= [pI a1]) rfl rfl rfl qia rfl h14 rfl rfl) rfl ?_
     refine rn tk 2 rfl ?_
     cases hr
     exact jn _ rfl rfl rfl
    ·
     refine rn tk 2 rfl ?_
     cases hr
     exact jn _ rfl rfl rfl
   ·
    refine rn tk 4 rfl ?_
    cases hr
    exact atc rfl rfl
  ·
   refine rn tk 2 rfl ?_
   cases hr
   exact ato rfl rfl rfl rfl
 ·
  refine rn tk 1 rfl ?_
  cases hr
  exact krS tk (.inl rfl) rfl rfl (zba rfl (zba rfl (zba rfl (zba rfl zha))))
theorem wFa (a0:zfa) (r:zfa) (hr:kLa a0=some r):RunS Tryz.prog 32 [.ptr 90000000 0] [(90000000, .cells [.s a0.Client.Name, .s a0.Client.Mail.Envelope.From, .l zca.pc a0.Client.Mail.Envelope.To, .s a0.Client.Mail.Envelope.Id, .l zga.pc a0.Client.Mail.Message.Fields, .l cU a0.Client.Mail.Message.Body, .bo a0.Client.Pipelined, .l cU a0.Client.Buffer, .i a0.Client.Expected, .bo a0.Client.Whole, .bo a0.Client.Done, .hs 90000012 0, .l cU a0.content, .bo a0.chunk, .hs 90000015 0]),(90000012, .row 3 true 1 (List.map cI a0.Client.Results)),(90000015, .row 5 false 1 (List.map cU a0.out))] (.tup []) [(90000000, .cells [.s r.Client.Name, .s r.Client.Mail.Envelope.From, .l zca.pc r.Client.Mail.Envelope.To, .s r.Client.Mail.Envelope.Id, .l zga.pc r.Client.Mail.Message.Fields, .l cU r.Client.Mail.Message.Body, .bo r.Client.Pipelined, .l cU r.Client.Buffer, .i r.Client.Expected, .bo r.Client.Whole, .bo r.Client.Done, .hs 90000012 0, .l cU r.content, .bo r.chunk, .hs 90000015 0]),(90000012, .row 3 true 1 (List.map cI r.Client.Results)),(90000015, .row 5 false 1 (List.map cU r.out))] 90000000 [90000012,90000015]:=by
 unfold kLa at hr
 refine rfS (fn:=Tryz.f32) (H:=90000999) (.ptr 90000000 0) ⟨Tryz.func32,rfl,by kernel_rfl⟩ rfl (hasT rfl) (.inl ⟨rfl,rfl⟩) rfl rfl rfl rfl fun g0 hg S sg T=> ?_
 refine rn tk 5 rfl ?_
 refine jb hr (fun j1=> [(0, .ptr 90000000 0),(2, .i j1)]) (fun j1=> [(90000999, .hold (.ptr 90000000 0) (T.getD 0 undef)),(90000000, .cells [.s a0.Client.Name, .s a0.Client.Mail.Envelope.From, .l zca.pc a0.Client.Mail.Envelope.To, .s a0.Client.Mail.Envelope.Id, .l zga.pc a0.Client.Mail.Message.Fields, .l cU a0.Client.Mail.Message.Body, .bo a0.Client.Pipelined, .l cU a0.Client.Buffer, .i a0.Client.Expected, .bo a0.Client.Whole, .bo a0.Client.Done, .hs 90000012 0, .l cU a0.content, .bo a0.chunk, .hs 90000015 0]),(90000012, .row 3 true 1 (List.map cI a0.Client.Results)),(90000015, .row 5 false 1 (List.map cU a0.out))]) (fun j1 hr=> ?_) (fun j1 hr=> ?_)
 ·
  refine rn tk 9 rfl ?_
  refine ac 7 hr rfl (fun c2 hr=> ?_) (fun c2 hr=> ?_)
  ·
   refine rn tk 3 rfl ?_
   cases hr
   exact jn _ rfl rfl rfl
  ·
   refine rn tk 1 rfl ?_
   cases hr
   exact jn _ rfl rfl rfl
 ·
  refine rn tk 4 rfl ?_
  obtain ⟨v3,h4,hr⟩:=zaa hr
  refine wo (zya (k:=10) (wEa a0 j1 v3 h4) rfl rfl (zba rfl (zba rfl (zba rfl zha)))) rfl ?_
  refine rn tk 9 rfl ?_
  cases hr
  exact krS tk (.inl rfl) rfl rfl (zba rfl (zba rfl (zba rfl (zba rfl zha))))
theorem zoa (a0:Int) (a1:Int) (r:zza) (hr:zAa a0 a1=some r):Run Tryz.prog 33 [.i a0, .i a1] (.agg [.i r.Code, .i r.Index]):=by
 unfold zAa at hr
 refine rf (fn:=Tryz.f33) ⟨Tryz.func33,rfl,by kernel_rfl⟩ rfl (fun _=> rfl) fun g0 hg=> ?_
 refine rn tk 14 rfl ?_
 cases hr
 exact kr tk (.inr rfl) rfl rfl
theorem Kba (a0:List UInt8) (a1:List UInt8) (r:Bool) (hr:vea a0 a1=some r):Run Tryz.prog 80 [.l cU a0, .l cU a1] (.bo r):=by
 unfold vea at hr
 refine wKa (fn:=Tryz.f80) ⟨Tryz.func80,rfl,by kernel_rfl⟩ rfl (fun _=> rfl) fun g0 hg=> ?_
 refine zNa ?_
 refine zpa ?_
 refine zia rfl (zja (d:=4) rfl rfl zBa) ?_
 refine zwa ?_
 refine zma ?_
 refine zNa ?_
 refine zpa ?_
 refine zia rfl (zja (d:=5) rfl rfl zqa) ?_
 refine zia rfl (zja (d:=6) rfl rfl (ywa rfl zka zua zDa)) ?_
 refine zia rfl (zja (d:=7) rfl rfl zqa) ?_
 refine zia rfl (zja (d:=8) rfl rfl (ywa rfl zka zua zDa)) ?_
 refine zia rfl (zja (d:=9) rfl rfl (vXb (a:=a0) (b:=a1) rfl rfl)) ?_
 refine zia rfl (zja (d:=4) rfl rfl zBa) ?_
 refine zwa ?_
 refine zma ?_
 refine yda ?_
 cases hr
 exact zrb rfl (.cons (wJa rfl) .nil) rfl
theorem jba (a0:List UInt8) (a1:List UInt8) (r:Bool) (hr:kRa a0 a1=some r):Run Tryz.prog 58 [.l cU a0, .l cU a1] (.bo r):=by
 unfold kRa at hr
 refine wKa (fn:=Tryz.f58) ⟨Tryz.func58,rfl,by kernel_rfl⟩ rfl (fun _=> rfl) fun g0 hg=> ?_
 refine zNa ?_
 refine zpa ?_
 refine zia rfl (zja (d:=4) rfl rfl zBa) ?_
 refine zwa ?_
 refine zma ?_
 obtain ⟨j1,hx,hy⟩:=zaa hr
 refine q0a (fun j1=> [(4, .bo j1)]) (fun j1=> []) (fun z=> j1=z) ?_ ?_
 ·have hr:=hx
  clear hx hy
  refine zpa ?_
  refine zia rfl (zja (d:=5) rfl rfl zqa) ?_
  refine zia rfl (zja (d:=6) rfl rfl (vDa (f:=cU) rfl zka.u)) ?_
  refine zia rfl (zja (d:=7) rfl rfl zqa) ?_
  refine zia rfl (zja (d:=8) rfl rfl (vDa (f:=cU) rfl zka.u)) ?_
  refine zia rfl (zja (d:=9) rfl rfl (vVb rfl rfl)) ?_
  refine zia rfl (zja (d:=10) rfl rfl zqa) ?_
  refine qya (decide ((a1.length:Int)≤(a0.length:Int))) (fun c2=> ?_) (fun c2=> ?_)
  ·replace hr:=vAa c2 hr
   refine zEa (d:=10) rfl rfl rfl c2 (zja (d:=11) rfl rfl zqa) ?_
   refine zEa (d:=10) rfl rfl rfl c2 (zja (d:=12) rfl rfl zqa) ?_
   refine zEa (d:=10) rfl rfl rfl c2 (zja (d:=13) rfl rfl (vDa (f:=cU) rfl zka.u)) ?_
   refine zEa (d:=10) rfl rfl rfl c2 (zja (d:=14) rfl rfl zqa) ?_
   refine zEa (d:=10) rfl rfl rfl c2 (zja (d:=15) rfl rfl (vDa (f:=cU) rfl zka.u)) ?_
   refine zEa (d:=10) rfl rfl rfl c2 (zja (d:=16) rfl rfl (WDa rfl rfl)) ?_
   obtain ⟨v3,h4,hr⟩:=zaa hr
   refine zEa (d:=10) rfl rfl rfl c2 (zja (d:=17) rfl rfl (WFa (F:=cU) rfl rfl zka zua (fun _=> rfl) h4)) ?_
   refine zEa (d:=10) rfl rfl rfl c2 (zja (d:=18) rfl rfl zqa) ?_
   obtain ⟨v5,h6,hr⟩:=zaa hr
   refine zEa (d:=10) rfl rfl rfl c2 (wra (k:=19) (Kba v3 a1 v5 h6) rfl rfl) ?_
   refine zia rfl (zja (d:=20) rfl rfl (qPa rfl c2)) ?_
   refine zia rfl (zja (d:=4) rfl rfl zBa) ?_
   refine zwa ?_
   cases hr
   exact zIa _ rfl (zda rfl zva) zha
  ·replace hr:=vBa c2 hr
   refine zGa (d:=10) rfl rfl rfl c2 ?_
   refine zGa (d:=10) rfl rfl rfl c2 ?_
   refine zGa (d:=10) rfl rfl rfl c2 ?_
   refine zGa (d:=10) rfl rfl rfl c2 ?_
   refine zGa (d:=10) rfl rfl rfl c2 ?_
   refine zGa (d:=10) rfl rfl rfl c2 ?_
   refine zGa (d:=10) rfl rfl rfl c2 ?_
   refine zGa (d:=10) rfl rfl rfl c2 ?_
   refine zGa (d:=10) rfl rfl rfl c2 ?_
   refine zia rfl (zja (d:=20) rfl rfl (qxa rfl c2)) ?_
   refine zia rfl (zja (d:=4) rfl rfl zBa) ?_
   refine zwa ?_
   cases hr
   exact zIa _ rfl (zda rfl zva) zha
 ·rintro _ rfl
  have hr:=hy
  clear hx hy
  refine yda ?_
  cases hr
  exact zrb rfl (.cons (wJa rfl) .nil) rfl
theorem zhb (a0:Str) (r:Bool) (hr:Z1a a0=some r):Run Tryz.prog 117 [.s a0] (.bo r):=by
 unfold Z1a at hr
 refine rf (fn:=Tryz.f117) ⟨Tryz.func117,rfl,by kernel_rfl⟩ rfl (fun _=> rfl) fun g0 hg=> ?_
 refine rn tk 5 rfl ?_
 refine jb hr (fun j1=> [(2, .bo j1)]) (fun j1=> []) (fun j1 hr=> ?_) (fun j1 hr=> ?_)
 ·
  refine rn tk 4 rfl ?_
  refine bs 5 hr rfl (fun c2 hr=> ?_) (fun c2 hr=> ?_)
  ·
   refine rn tk 5 rfl ?_
   refine bs 10 hr rfl (fun c3 hr=> ?_) (fun c3 hr=> ?_)
   ·
    refine rn tk 1 rfl ?_
    refine ug rfl rfl rfl ?_
    refine ct hr (fun j4=> [(10, .bo true),(12, .bo j4)]) (fun j4=> []) (fun j4 hr jump4=> ?_) (fun j4 hr=> ?_)
    ·
     refine il (fn:=Tryz.f69) (args:= [.s a0, .fn (.func 135) [] []]) 400000 499999 [(10, .bo true)] rfl ⟨Tryz.func69,rfl,by kernel_rfl⟩ rfl rfl rfl fun T4 ds4=> ?_
     refine rn tk 14 rfl ?_
     refine al2 hr (fun s5=> [(0, .s a0),(1, .fn (.func 135) [] []),(7, .i ((a0.length:Int))),(8, .i s5)]) (fun s5=> [(499999, .sus g0.w.heap.size ds4),(400010, .hold (.bo true) (T4.getD 10 undef))]) (.exit 0) (fun b6=> []) (fun b6=> [(499999, .sus g0.w.heap.size ds4),(400010, .hold (.bo true) (T4.getD 10 undef))]) .ret (fun b7=> [(4, .bo false)]) (fun b7=> [(499999, .sus g0.w.heap.size ds4),(400010, .hold (.bo true) (T4.getD 10 undef))]) rfl rfl (fun s5 x9 hr=> ?_) (fun b6 hr=> ?_) (fun b7 hr=> ?_)
     ·
      unfold w1a at hr
      refine rn tk 6 rfl ?_
      refine ac 9 hr rfl (fun c10 hr=> ?_) (fun c10 hr=> ?_)
      ·
       refine rn tk 15 rfl ?_
       obtain ⟨v11,h12,hr⟩:=zaa hr
       refine ws tk h12 rfl rfl rfl rfl ?_
       refine il (fn:=Tryz.f135) (args:= [.u8 v11]) 600000 699999 [(0, .s a0),(1, .fn (.func 135) [] []),(7, .i ((a0.length:Int))),(8, .i s5)] rfl ⟨Tryz.func135,rfl,by kernel_rfl⟩ rfl rfl rfl fun T6 ds6=> ?_
       refine rn tk 5 rfl ?_
       refine jb hr (fun j13=> [(2, .bo j13)]) (fun j13=> [(699999, .sus g0.w.heap.size ds6),(600000, .hold (.s a0) (T6.getD 0 undef)),(600001, .hold (.fn (.func 135) [] []) (T6.getD 1 undef)),(600007, .hold (.i ((a0.length:Int))) (T6.getD 7 undef)),(600008, .hold (.i s5) (T6.getD 8 undef)),(499999, .sus g0.w.heap.size ds4),(400010, .hold (.bo true) (T4.getD 10 undef))]) (fun j13 hr=> ?_) (fun j13 hr=> ?_)
       ·
        refine rn tk 4 rfl ?_
        refine bs 5 hr rfl (fun c14 hr=> ?_) (fun c14 hr=> ?_)
        ·
         refine rn tk 4 rfl ?_
         refine bs 9 hr rfl (fun c15 hr=> ?_) (fun c15 hr=> ?_)
         ·
          refine rn tk 5 rfl ?_
          cases hr
          exact jn _ rfl rfl rfl
         ·
          refine rn tk 5 rfl ?_
          cases hr
          exact jn _ rfl rfl rfl
        ·
         refine rn tk 9 rfl ?_
         cases hr
         exact jn _ rfl rfl rfl
       ·
        refine rn tk 1 rfl ?_
        refine ie tk [.bo j13] [(0, .s a0),(1, .fn (.func 135) [] []),(7, .i ((a0.length:Int))),(8, .i s5)] [(499999, .sus g0.w.heap.size ds4),(400010, .hold (.bo true) (T4.getD 10 undef))] (.inr rfl) rfl rfl rfl rfl (hO ?_)
        refine rn tk 3 rfl ?_
        refine ac 16 hr rfl (fun c16 hr=> ?_) (fun c16 hr=> ?_)
        ·
         refine rn tk 8 rfl ?_
         cases hr
         exact ato rfl rfl rfl rfl
        ·
         refine rn tk 7 rfl ?_
         cases hr
         exact atc rfl rfl
      ·
       refine rn tk 2 rfl ?_
       cases hr
       exact ato rfl rfl rfl rfl
     ·
      refine rn tk 8 rfl ?_
      refine ie tk [.bo true] [(10, .bo true)] [] (.inr rfl) rfl rfl rfl rfl ?_
      cases hr
      exact jump4 _ _ rfl rfl
     ·
      refine rn tk 2 rfl ?_
      refine ie tk [.bo false] [(10, .bo true)] [] (.inr rfl) rfl rfl rfl rfl ?_
      cases hr
      exact jump4 _ _ rfl rfl
    ·
     refine rn tk 3 rfl ?_
     cases hr
     exact jn _ rfl rfl rfl
   ·
    refine rn tk 5 rfl ?_
    cases hr
    exact jn _ rfl rfl rfl
  ·
   refine rn tk 10 rfl ?_
   cases hr
   exact jn _ rfl rfl rfl
 ·
  refine rn tk 1 rfl ?_
  cases hr
  exact kr tk (.inr rfl) rfl rfl
theorem wGa (a0:UInt8) (r:Bool) (hr:via a0=some r):Run Tryz.prog 137 [.u8 a0] (.bo r):=by
 unfold via at hr
 refine rf (fn:=Tryz.f137) ⟨Tryz.func137,rfl,by kernel_rfl⟩ rfl (fun _=> rfl) fun g0 hg=> ?_
 refine rn tk 5 rfl ?_
 refine jb hr (fun j1=> [(2, .bo j1)]) (fun j1=> []) (fun j1 hr=> ?_) (fun j1 hr=> ?_)
 ·
  refine rn tk 4 rfl ?_
  refine bs 5 hr rfl (fun c2 hr=> ?_) (fun c2 hr=> ?_)
  ·
   refine rn tk 5 rfl ?_
   cases hr
   exact jn _ rfl rfl rfl
  ·
   refine rn tk 5 rfl ?_
   cases hr
   exact jn _ rfl rfl rfl
 ·
  refine rn tk 1 rfl ?_
  cases hr
  exact kr tk (.inr rfl) rfl rfl
theorem YRa (a0:Str) (a1:Int) (r:Int) (hr:jRa a0 a1=some r):Run Tryz.prog 119 [.s a0, .i a1] (.i r):=by
 unfold jRa at hr
 refine rf (fn:=Tryz.f119) ⟨Tryz.func119,rfl,by kernel_rfl⟩ rfl (fun _=> rfl) fun g0 hg=> ?_
 refine rn tk 14 rfl ?_
 refine wq (ev_max rfl rfl) rfl rfl rfl ?_
 refine rn tk 4 rfl ?_
 refine al1 hr (fun s1=> [(0, .s a0),(5, .i s1.1),(6, .i s1.2)]) (fun s1=> []) (.exit 0) (fun b2=> [(5, .i b2)]) (fun b2=> []) rfl rfl (fun s1 x3 hr=> ?_) (fun b2 hr=> ?_)
 ·
  unfold ypa at hr
  refine rn tk 9 rfl ?_
  refine ac 12 hr rfl (fun c4 hr=> ?_) (fun c4 hr=> ?_)
  ·
   refine rn tk 2 rfl ?_
   refine jk (fun j5=> [(0, .s a0),(5, .i j5),(6, .i s1.2)]) (fun j5=> []) (fun j5=> qMa s1 j5=some x3) ?_ ?_
   ·
    refine rn tk 2 rfl ?_
    refine jb hr (fun j6=> [(0, .s a0),(5, .i s1.1),(6, .i s1.2),(26, .bo j6)]) (fun j6=> []) (fun j6 hr=> ?_) (fun j6 hr=> ?_)
    ·
     refine rn tk 3 rfl ?_
     obtain ⟨v7,h8,hr⟩:=zaa hr
     refine ws tk h8 rfl rfl rfl rfl ?_
     obtain ⟨v9,h10,hr⟩:=zaa hr
     refine cl (wGa _ _ h10) rfl rfl ?_
     refine rn tk 2 rfl ?_
     refine bs 20 hr rfl (fun c11 hr=> ?_) (fun c11 hr=> ?_)
     ·
      refine rn tk 7 rfl ?_
      cases hr
      exact jn _ rfl rfl rfl
     ·
      refine rn tk 3 rfl ?_
      obtain ⟨v12,h13,hr⟩:=zaa hr
      refine ug rfl rfl rfl ?_
      refine ws tk h13 rfl rfl rfl rfl ?_
      obtain ⟨v14,h15,hr⟩:=zaa hr
      refine ug rfl rfl rfl ?_
      refine cl (wGa _ _ h15) rfl rfl ?_
      refine rn tk 2 rfl ?_
      cases hr
      exact jn _ rfl rfl rfl
    ·
     refine ac 26 hr rfl (fun c16 hr=> ?_) (fun c16 hr=> ?_)
     ·
      refine rn tk 3 rfl ?_
      exact jn s1.1 hr rfl rfl
     ·
      refine rn tk 3 rfl ?_
      refine jb hr (fun j17=> [(0, .s a0),(5, .i s1.1),(6, .i s1.2),(32, .bo j17)]) (fun j17=> []) (fun j17 hr=> ?_) (fun j17 hr=> ?_)
      ·
       refine rn tk 4 rfl ?_
       refine bs 29 hr rfl (fun c18 hr=> ?_) (fun c18 hr=> ?_)
       ·
        refine rn tk 4 rfl ?_
        cases hr
        exact jn _ rfl rfl rfl
       ·
        refine rn tk 4 rfl ?_
        cases hr
        exact jn _ rfl rfl rfl
      ·
       refine ac 32 hr rfl (fun c19 hr=> ?_) (fun c19 hr=> ?_)
       ·
        refine rn tk 4 rfl ?_
        cases hr
        exact ato rfl rfl rfl rfl
       ·
        refine rn tk 7 rfl ?_
        exact jn s1.2 hr rfl rfl
   ·
    intro j5 hr
    unfold qMa at hr
    refine rn tk 5 rfl ?_
    cases hr
    exact atc rfl rfl
  ·
   refine rn tk 2 rfl ?_
   cases hr
   exact ato rfl rfl rfl rfl
 ·
  refine rn tk 9 rfl ?_
  cases hr
  exact kr tk (.inr rfl) rfl rfl
end Go.Proofs.YtjnmamghadpedaaGreatDoor
namespace Go.Proofs
open Go.Shelf
def Tryz.lays156_ren:Go.Shelf.Ren:=⟨fun | 156=> 166 | 165=> 175 | 166=> 176 | 169=> 177 | 240=> 183 | 241=> 184 | 276=> 191 | 277=> 192 | n=> n,fun | 31=> 76 | 9=> 9 | 3=> 3 | 4=> 4 | 0=> 0 | 20=> 20 | 72=> 194 | 76=> 131 | 70=> 192 | 37=> 26 | 75=> 130 | 127=> 187 | 164=> 206 | 5=> 5 | 80=> 195 | n=> n,fun | n=> n⟩
theorem Tryz.lays156:Go.Proofs.Lays.n156 Tryz.prog Tryz.lays156_ren:={
 mixed:=by kernel_rfl
 f156:=Tryz.func166.trans (congrArg some (by kernel_rfl))
 f165:=Tryz.func175.trans (congrArg some (by kernel_rfl))
 f166:=Tryz.func176.trans (congrArg some (by kernel_rfl))
 f169:=Tryz.func177.trans (congrArg some (by kernel_rfl))
 f240:=Tryz.func183.trans (congrArg some (by kernel_rfl))
 f241:=Tryz.func184.trans (congrArg some (by kernel_rfl))
 f276:=Tryz.func191.trans (congrArg some (by kernel_rfl))
 f277:=Tryz.func192.trans (congrArg some (by kernel_rfl))
 t0:=Tryz.underlying0
 a0:=Tryz.isAgg0
 z0:=Tryz.sizeOf0
 v0:=Tryz.zeroValue0
 t3:=Tryz.underlying3
 a3:=Tryz.isAgg3
 z3:=Tryz.sizeOf3
 v3:=Tryz.zeroValue3
 t4:=Tryz.underlying4
 a4:=Tryz.isAgg4
 z4:=Tryz.sizeOf4
 v4:=Tryz.zeroValue4
 t9:=Tryz.underlying9
 a9:=Tryz.isAgg9
 z9:=Tryz.sizeOf9
 v9:=Tryz.zeroValue9
 t20:=Tryz.underlying20
 a20:=Tryz.isAgg20
 z20:=Tryz.sizeOf20
 v20:=Tryz.zeroValue20
 t31:=Tryz.underlying76
 a31:=Tryz.isAgg76
 z31:=Tryz.sizeOf76
 v31:=Tryz.zeroValue76
 t37:=Tryz.underlying26
 a37:=Tryz.isAgg26
 z37:=Tryz.sizeOf26
 v37:=Tryz.zeroValue26
 t70:=Tryz.underlying192
 a70:=Tryz.isAgg192
 z70:=Tryz.sizeOf192
 v70:=Tryz.zeroValue192
 t72:=Tryz.underlying194
 a72:=Tryz.isAgg194
 z72:=Tryz.sizeOf194
 v72:=Tryz.zeroValue194
 t75:=Tryz.underlying130
 a75:=Tryz.isAgg130
 z75:=Tryz.sizeOf130
 v75:=Tryz.zeroValue130
 t76:=Tryz.underlying131
 a76:=Tryz.isAgg131
 z76:=Tryz.sizeOf131
 v76:=Tryz.zeroValue131
 t127:=Tryz.underlying187
 a127:=Tryz.isAgg187
 z127:=Tryz.sizeOf187
 v127:=Tryz.zeroValue187
 t164:=Tryz.underlying206
 a164:=Tryz.isAgg206
 z164:=Tryz.sizeOf206
 v164:=Tryz.zeroValue206}
theorem Tryz.Builder_Extra_156:Builder.Extra Tryz.prog Tryz.lays156_ren:={
 sizeBuilder:=by kernel_rfl
 liesBuilder:=by kernel_rfl
 t5:=Tryz.underlying5
 a5:=Tryz.isAgg5
 z5:=Tryz.sizeOf5
 v5:=Tryz.zeroValue5
 infoByte:=by kernel_rfl
 cellsByte:=by kernel_rfl
 sizeByte:=by kernel_rfl
 neB5:=by decide}
open Go.RowKit in
theorem Tryz.strings_Join_none (a:Option Addr) (c:Nat) (sep:ByteArray) (w:World):
 Calls Tryz.prog 166 #[.slice a 0 c, .string sep] w fun e w' => e= .returned (.string ⟨#[]⟩)∧w' =w:=Any.strings_Join_none Tryz.lays156 Tryz.Builder_Extra_156 a c sep w
open Go.RowKit in
theorem Tryz.strings_Join (bk o c:Nat) (xs:List ByteArray) (sep:ByteArray) (w:World) (hcells:∀(j:Nat) x,xs[j]? =some x→w.cell? ⟨bk,o+j,none⟩=some (.string x)) (hbk:bk < w.heap.size) (hN:xs.length≤140737488355328) (hcap:xs.length≤c) (hlen:(Lib.join (xs.map (·.data.toList)) sep.data.toList).length≤140737488355328):
 Calls Tryz.prog 166 #[.slice (some ⟨bk,o,none⟩) xs.length c, .string sep] w fun e w' => e= .returned (.string ⟨(Lib.join (xs.map (·.data.toList)) sep.data.toList).toArray⟩)∧Below w.heap.size w w' :=Any.strings_Join Tryz.lays156 Tryz.Builder_Extra_156 bk o c xs sep w hcells hbk hN hcap hlen
def Tryz.lays137_ren:Go.Shelf.Ren:=⟨fun | 137=> 132 | 217=> 153 | 266=> 168 | n=> n,fun | 9=> 9 | 5=> 5 | 3=> 3 | n=> n,fun | n=> n⟩
theorem Tryz.lays137:Go.Proofs.Lays.n137 Tryz.prog Tryz.lays137_ren:={
 mixed:=by kernel_rfl
 f137:=Tryz.func132.trans (congrArg some (by kernel_rfl))
 f217:=Tryz.func153.trans (congrArg some (by kernel_rfl))
 f266:=Tryz.func168.trans (congrArg some (by kernel_rfl))
 t3:=Tryz.underlying3
 a3:=Tryz.isAgg3
 z3:=Tryz.sizeOf3
 v3:=Tryz.zeroValue3
 t5:=Tryz.underlying5
 a5:=Tryz.isAgg5
 z5:=Tryz.sizeOf5
 v5:=Tryz.zeroValue5
 t9:=Tryz.underlying9
 a9:=Tryz.isAgg9
 z9:=Tryz.sizeOf9
 v9:=Tryz.zeroValue9}
open Go.RowKit in
theorem Tryz.strings_IndexByte (s:ByteArray) (c:Int) (w:World):
 Calls Tryz.prog 132 #[.string s, .int .u8 c] w fun e w' => e= .returned (.int .i64 (Lib.indexByte s.data.toList c.toNat.toUInt8))∧w' =w:=Any.strings_IndexByte Tryz.lays137 s c w
def Tryz.lays172_ren:Go.Shelf.Ren:=⟨fun | 172=> 104 | 244=> 121 | 245=> 122 | 247=> 142 | 279=> 143 | 280=> 144 | 281=> 145 | 282=> 146 | 287=> 160 | 316=> 161 | 171=> 149 | 205=> 162 | 321=> 172 | 322=> 173 | 243=> 164 | 246=> 174 | 283=> 179 | 284=> 180 | 285=> 181 | 286=> 182 | 129=> 187 | 317=> 186 | 318=> 188 | 319=> 189 | 320=> 190 | 337=> 193 | 338=> 194 | n=> n,fun | 9=> 9 | 3=> 3 | 75=> 130 | 76=> 131 | 4=> 4 | 5=> 5 | 167=> 161 | 37=> 26 | 0=> 0 | 85=> 162 | 2=> 2 | 168=> 164 | 53=> 173 | 175=> 174 | 46=> 111 | 210=> 178 | 127=> 187 | 145=> 190 | 143=> 188 | 21=> 21 | 171=> 196 | 173=> 199 | 212=> 203 | 51=> 125 | 20=> 20 | 213=> 204 | 232=> 210 | 233=> 211 | 80=> 195 | n=> n,fun | 15=> 1 | 16=> 2 | 17=> 3 | 18=> 4 | 19=> 5 | n=> n⟩
theorem Tryz.lays172:Go.Proofs.Lays.n172 Tryz.prog Tryz.lays172_ren:={
 mixed:=by kernel_rfl
 f129:=Tryz.func187.trans (congrArg some (by kernel_rfl))
 f171:=Tryz.func149.trans (congrArg some (by kernel_rfl))
 f172:=Tryz.func104.trans (congrArg some (by kernel_rfl))
 f205:=Tryz.func162.trans (congrArg some (by kernel_rfl))
 f243:=Tryz.func164.trans (congrArg some (by kernel_rfl))
 f244:=Tryz.func121.trans (congrArg some (by kernel_rfl))
 f245:=Tryz.func122.trans (congrArg some (by kernel_rfl))
 f246:=Tryz.func174.trans (congrArg some (by kernel_rfl))
 f247:=Tryz.func142.trans (congrArg some (by kernel_rfl))
 f279:=Tryz.func143.trans (congrArg some (by kernel_rfl))
 f280:=Tryz.func144.trans (congrArg some (by kernel_rfl))
 f281:=Tryz.func145.trans (congrArg some (by kernel_rfl))
 f282:=Tryz.func146.trans (congrArg some (by kernel_rfl))
 f283:=Tryz.func179.trans (congrArg some (by kernel_rfl))
 f284:=Tryz.func180.trans (congrArg some (by kernel_rfl))
 f285:=Tryz.func181.trans (congrArg some (by kernel_rfl))
 f286:=Tryz.func182.trans (congrArg some (by kernel_rfl))
 f287:=Tryz.func160.trans (congrArg some (by kernel_rfl))
 f316:=Tryz.func161.trans (congrArg some (by kernel_rfl))
 f317:=Tryz.func186.trans (congrArg some (by kernel_rfl))
 f318:=Tryz.func188.trans (congrArg some (by kernel_rfl))
 f319:=Tryz.func189.trans (congrArg some (by kernel_rfl))
 f320:=Tryz.func190.trans (congrArg some (by kernel_rfl))
 f321:=Tryz.func172.trans (congrArg some (by kernel_rfl))
 f322:=Tryz.func173.trans (congrArg some (by kernel_rfl))
 f337:=Tryz.func193.trans (congrArg some (by kernel_rfl))
 f338:=Tryz.func194.trans (congrArg some (by kernel_rfl))
 t0:=Tryz.underlying0
 a0:=Tryz.isAgg0
 z0:=Tryz.sizeOf0
 v0:=Tryz.zeroValue0
 t2:=Tryz.underlying2
 a2:=Tryz.isAgg2
 z2:=Tryz.sizeOf2
 v2:=Tryz.zeroValue2
 t3:=Tryz.underlying3
 a3:=Tryz.isAgg3
 z3:=Tryz.sizeOf3
 v3:=Tryz.zeroValue3
 t4:=Tryz.underlying4
 a4:=Tryz.isAgg4
 z4:=Tryz.sizeOf4
 v4:=Tryz.zeroValue4
 t5:=Tryz.underlying5
 a5:=Tryz.isAgg5
 z5:=Tryz.sizeOf5
 v5:=Tryz.zeroValue5
 t9:=Tryz.underlying9
 a9:=Tryz.isAgg9
 z9:=Tryz.sizeOf9
 v9:=Tryz.zeroValue9
 t20:=Tryz.underlying20
 a20:=Tryz.isAgg20
 z20:=Tryz.sizeOf20
 v20:=Tryz.zeroValue20
 t21:=Tryz.underlying21
 a21:=Tryz.isAgg21
 z21:=Tryz.sizeOf21
 v21:=Tryz.zeroValue21
 t37:=Tryz.underlying26
 a37:=Tryz.isAgg26
 z37:=Tryz.sizeOf26
 v37:=Tryz.zeroValue26
 t46:=Tryz.underlying111
 a46:=Tryz.isAgg111
 z46:=Tryz.sizeOf111
 v46:=Tryz.zeroValue111
 t51:=Tryz.underlying125
 a51:=Tryz.isAgg125
 z51:=Tryz.sizeOf125
 v51:=Tryz.zeroValue125
 t53:=Tryz.underlying173
 a53:=Tryz.isAgg173
 z53:=Tryz.sizeOf173
 v53:=Tryz.zeroValue173
 t75:=Tryz.underlying130
 a75:=Tryz.isAgg130
 z75:=Tryz.sizeOf130
 v75:=Tryz.zeroValue130
 t76:=Tryz.underlying131
 a76:=Tryz.isAgg131
 z76:=Tryz.sizeOf131
 v76:=Tryz.zeroValue131
 t85:=Tryz.underlying162
 a85:=Tryz.isAgg162
 z85:=Tryz.sizeOf162
 v85:=Tryz.zeroValue162
 t127:=Tryz.underlying187
 a127:=Tryz.isAgg187
 z127:=Tryz.sizeOf187
 v127:=Tryz.zeroValue187
 t143:=Tryz.underlying188
 a143:=Tryz.isAgg188
 z143:=Tryz.sizeOf188
 v143:=Tryz.zeroValue188
 t145:=Tryz.underlying190
 a145:=Tryz.isAgg190
 z145:=Tryz.sizeOf190
 v145:=Tryz.zeroValue190
 t167:=Tryz.underlying161
 a167:=Tryz.isAgg161
 z167:=Tryz.sizeOf161
 v167:=Tryz.zeroValue161
 t168:=Tryz.underlying164
 a168:=Tryz.isAgg164
 z168:=Tryz.sizeOf164
 v168:=Tryz.zeroValue164
 t171:=Tryz.underlying196
 a171:=Tryz.isAgg196
 z171:=Tryz.sizeOf196
 v171:=Tryz.zeroValue196
 t173:=Tryz.underlying199
 a173:=Tryz.isAgg199
 z173:=Tryz.sizeOf199
 v173:=Tryz.zeroValue199
 t175:=Tryz.underlying174
 a175:=Tryz.isAgg174
 z175:=Tryz.sizeOf174
 v175:=Tryz.zeroValue174
 t210:=Tryz.underlying178
 a210:=Tryz.isAgg178
 z210:=Tryz.sizeOf178
 v210:=Tryz.zeroValue178
 t212:=Tryz.underlying203
 a212:=Tryz.isAgg203
 z212:=Tryz.sizeOf203
 v212:=Tryz.zeroValue203
 t213:=Tryz.underlying204
 a213:=Tryz.isAgg204
 z213:=Tryz.sizeOf204
 t232:=Tryz.underlying210
 a232:=Tryz.isAgg210
 z232:=Tryz.sizeOf210
 v232:=Tryz.zeroValue210
 t233:=Tryz.underlying211
 a233:=Tryz.isAgg211
 z233:=Tryz.sizeOf211
 v233:=Tryz.zeroValue211
 g15:=by kernel_rfl
 g16:=by kernel_rfl
 g17:=by kernel_rfl
 g18:=by kernel_rfl
 g19:=by kernel_rfl}
open Go.RowKit in
theorem Tryz.strconv_Atoi (s:ByteArray) (n:Int) (hl:s.size≤18) (h:Lib.atoi s.data.toList=some n) (w:World):
 Calls Tryz.prog 104 #[.string s] w fun e w' => e= .returned (.tuple #[.int .i64 n, .nilIface])∧∃t,w' =Lib.bytesWorld w 5 t:=Any.strconv_Atoi Tryz.lays172 s n hl h w
def Tryz.laysM171_ren:Go.Shelf.Ren:=⟨fun | 171=> 149 | 243=> 164 | 246=> 174 | 283=> 179 | 284=> 180 | 285=> 181 | 286=> 182 | 129=> 187 | 317=> 186 | 318=> 188 | 319=> 189 | 320=> 190 | 337=> 193 | 338=> 194 | n=> n,fun | 3=> 3 | 9=> 9 | 2=> 2 | 4=> 4 | 171=> 196 | 0=> 0 | 53=> 173 | 37=> 26 | 5=> 5 | 173=> 199 | 212=> 203 | 51=> 125 | 20=> 20 | 213=> 204 | 46=> 111 | 232=> 210 | 233=> 211 | n=> n,fun | 17=> 3 | 18=> 4 | 19=> 5 | n=> n⟩
theorem Tryz.laysM171:Go.Proofs.LaysM.n171 Tryz.prog Tryz.laysM171_ren:={
 mixed:=by kernel_rfl
 f129:=Tryz.func187.trans (congrArg some (by kernel_rfl))
 f171:=Tryz.func149.trans (congrArg some (by kernel_rfl))
 f243:=Tryz.func164.trans (congrArg some (by kernel_rfl))
 f246:=Tryz.func174.trans (congrArg some (by kernel_rfl))
 f283:=Tryz.func179.trans (congrArg some (by kernel_rfl))
 f284:=Tryz.func180.trans (congrArg some (by kernel_rfl))
 f285:=Tryz.func181.trans (congrArg some (by kernel_rfl))
 f286:=Tryz.func182.trans (congrArg some (by kernel_rfl))
 f317:=Tryz.func186.trans (congrArg some (by kernel_rfl))
 f318:=Tryz.func188.trans (congrArg some (by kernel_rfl))
 f319:=Tryz.func189.trans (congrArg some (by kernel_rfl))
 f320:=Tryz.func190.trans (congrArg some (by kernel_rfl))
 f337:=Tryz.func193.trans (congrArg some (by kernel_rfl))
 f338:=Tryz.func194.trans (congrArg some (by kernel_rfl))
 t0:=Tryz.underlying0
 a0:=Tryz.isAgg0
 z0:=Tryz.sizeOf0
 v0:=Tryz.zeroValue0
 t2:=Tryz.underlying2
 a2:=Tryz.isAgg2
 z2:=Tryz.sizeOf2
 v2:=Tryz.zeroValue2
 t3:=Tryz.underlying3
 a3:=Tryz.isAgg3
 z3:=Tryz.sizeOf3
 v3:=Tryz.zeroValue3
 t4:=Tryz.underlying4
 a4:=Tryz.isAgg4
 z4:=Tryz.sizeOf4
 v4:=Tryz.zeroValue4
 t5:=Tryz.underlying5
 a5:=Tryz.isAgg5
 z5:=Tryz.sizeOf5
 v5:=Tryz.zeroValue5
 t9:=Tryz.underlying9
 a9:=Tryz.isAgg9
 z9:=Tryz.sizeOf9
 v9:=Tryz.zeroValue9
 t20:=Tryz.underlying20
 a20:=Tryz.isAgg20
 z20:=Tryz.sizeOf20
 v20:=Tryz.zeroValue20
 t37:=Tryz.underlying26
 a37:=Tryz.isAgg26
 z37:=Tryz.sizeOf26
 v37:=Tryz.zeroValue26
 t46:=Tryz.underlying111
 a46:=Tryz.isAgg111
 z46:=Tryz.sizeOf111
 v46:=Tryz.zeroValue111
 t51:=Tryz.underlying125
 a51:=Tryz.isAgg125
 z51:=Tryz.sizeOf125
 v51:=Tryz.zeroValue125
 t53:=Tryz.underlying173
 a53:=Tryz.isAgg173
 z53:=Tryz.sizeOf173
 v53:=Tryz.zeroValue173
 t171:=Tryz.underlying196
 a171:=Tryz.isAgg196
 z171:=Tryz.sizeOf196
 v171:=Tryz.zeroValue196
 t173:=Tryz.underlying199
 a173:=Tryz.isAgg199
 z173:=Tryz.sizeOf199
 v173:=Tryz.zeroValue199
 t212:=Tryz.underlying203
 a212:=Tryz.isAgg203
 z212:=Tryz.sizeOf203
 v212:=Tryz.zeroValue203
 t213:=Tryz.underlying204
 a213:=Tryz.isAgg204
 z213:=Tryz.sizeOf204
 t232:=Tryz.underlying210
 a232:=Tryz.isAgg210
 z232:=Tryz.sizeOf210
 v232:=Tryz.zeroValue210
 t233:=Tryz.underlying211
 a233:=Tryz.isAgg211
 z233:=Tryz.sizeOf211
 v233:=Tryz.zeroValue211
 g17:=by kernel_rfl
 g18:=by kernel_rfl
 g19:=by kernel_rfl
 i0:=by kernel_rfl
 i2:=by kernel_rfl
 i3:=by kernel_rfl
 i4:=by kernel_rfl
 i5:=by kernel_rfl
 i9:=by kernel_rfl
 i20:=by kernel_rfl
 i37:=by kernel_rfl
 i46:=by kernel_rfl
 i51:=by kernel_rfl
 i53:=by kernel_rfl
 i171:=by kernel_rfl
 i173:=by kernel_rfl
 i212:=by kernel_rfl
 i232:=by kernel_rfl
 i233:=by kernel_rfl
 m17:=by kernel_rfl
 m18:=by kernel_rfl
 m19:=by kernel_rfl}
open Go.RowKit Go.Sort Go.Lib in
theorem Tryz.strconv_Itoa (n : Int) (h0 : -9223372036854775808 ≤ n) (h1 : n ≤ 9223372036854775807) (w : World) (htab : Lib.TabIs Tryz.prog w "internal/strconv.uint64pow10" .u64 Lib.pow10Tab) :
 Calls Tryz.prog 149 #[.int .i64 n] w fun e w' => e= .returned (.string ⟨(Lib.itoa n).toArray⟩)∧∃k os,w' =grow (w.drewN k) os:=Any.strconv_Itoa Tryz.laysM171 n h0 h1 w htab
def Tryz.laysC172_ren:Go.Shelf.Ren:=⟨fun | 172=> 104 | 244=> 121 | 245=> 122 | 247=> 142 | 279=> 143 | 280=> 144 | 281=> 145 | 282=> 146 | 287=> 160 | 316=> 161 | 171=> 149 | 205=> 162 | 321=> 172 | 322=> 173 | 243=> 164 | 246=> 174 | 283=> 179 | 284=> 180 | 285=> 181 | 286=> 182 | 129=> 187 | 317=> 186 | 318=> 188 | 319=> 189 | 320=> 190 | 337=> 193 | 338=> 194 | n=> n,fun | 9=> 9 | 3=> 3 | 75=> 130 | 76=> 131 | 4=> 4 | 5=> 5 | 167=> 161 | 37=> 26 | 0=> 0 | 85=> 162 | 2=> 2 | 168=> 164 | 53=> 173 | 175=> 174 | 46=> 111 | 210=> 178 | 127=> 187 | 145=> 190 | 143=> 188 | 21=> 21 | 171=> 196 | 173=> 199 | 212=> 203 | 51=> 125 | 20=> 20 | 213=> 204 | 232=> 210 | 233=> 211 | 80=> 195 | n=> n,fun | 15=> 1 | 16=> 2 | 17=> 3 | 18=> 4 | 19=> 5 | n=> n⟩
theorem Tryz.laysC172:Go.Proofs.LaysC.n172 Tryz.prog Tryz.laysC172_ren:={
 mixed:=by kernel_rfl
 f129:=Tryz.func187.trans (congrArg some (by kernel_rfl))
 f171:=Tryz.func149.trans (congrArg some (by kernel_rfl))
 f172:=Tryz.func104.trans (congrArg some (by kernel_rfl))
 f205:=Tryz.func162.trans (congrArg some (by kernel_rfl))
 f243:=Tryz.func164.trans (congrArg some (by kernel_rfl))
 f244:=Tryz.func121.trans (congrArg some (by kernel_rfl))
 f245:=Tryz.func122.trans (congrArg some (by kernel_rfl))
 f246:=Tryz.func174.trans (congrArg some (by kernel_rfl))
 f247:=Tryz.func142.trans (congrArg some (by kernel_rfl))
 f279:=Tryz.func143.trans (congrArg some (by kernel_rfl))
 f280:=Tryz.func144.trans (congrArg some (by kernel_rfl))
 f281:=Tryz.func145.trans (congrArg some (by kernel_rfl))
 f282:=Tryz.func146.trans (congrArg some (by kernel_rfl))
 f283:=Tryz.func179.trans (congrArg some (by kernel_rfl))
 f284:=Tryz.func180.trans (congrArg some (by kernel_rfl))
 f285:=Tryz.func181.trans (congrArg some (by kernel_rfl))
 f286:=Tryz.func182.trans (congrArg some (by kernel_rfl))
 f287:=Tryz.func160.trans (congrArg some (by kernel_rfl))
 f316:=Tryz.func161.trans (congrArg some (by kernel_rfl))
 f317:=Tryz.func186.trans (congrArg some (by kernel_rfl))
 f318:=Tryz.func188.trans (congrArg some (by kernel_rfl))
 f319:=Tryz.func189.trans (congrArg some (by kernel_rfl))
 f320:=Tryz.func190.trans (congrArg some (by kernel_rfl))
 f321:=Tryz.func172.trans (congrArg some (by kernel_rfl))
 f322:=Tryz.func173.trans (congrArg some (by kernel_rfl))
 f337:=Tryz.func193.trans (congrArg some (by kernel_rfl))
 f338:=Tryz.func194.trans (congrArg some (by kernel_rfl))
 t0:=Tryz.underlying0
 a0:=Tryz.isAgg0
 z0:=Tryz.sizeOf0
 v0:=Tryz.zeroValue0
 t2:=Tryz.underlying2
 a2:=Tryz.isAgg2
 z2:=Tryz.sizeOf2
 v2:=Tryz.zeroValue2
 t3:=Tryz.underlying3
 a3:=Tryz.isAgg3
 z3:=Tryz.sizeOf3
 v3:=Tryz.zeroValue3
 t4:=Tryz.underlying4
 a4:=Tryz.isAgg4
 z4:=Tryz.sizeOf4
 v4:=Tryz.zeroValue4
 t5:=Tryz.underlying5
 a5:=Tryz.isAgg5
 z5:=Tryz.sizeOf5
 v5:=Tryz.zeroValue5
 t9:=Tryz.underlying9
 a9:=Tryz.isAgg9
 z9:=Tryz.sizeOf9
 v9:=Tryz.zeroValue9
 t20:=Tryz.underlying20
 a20:=Tryz.isAgg20
 z20:=Tryz.sizeOf20
 v20:=Tryz.zeroValue20
 t21:=Tryz.underlying21
 a21:=Tryz.isAgg21
 z21:=Tryz.sizeOf21
 v21:=Tryz.zeroValue21
 t37:=Tryz.underlying26
 a37:=Tryz.isAgg26
 z37:=Tryz.sizeOf26
 v37:=Tryz.zeroValue26
 t46:=Tryz.underlying111
 a46:=Tryz.isAgg111
 z46:=Tryz.sizeOf111
 v46:=Tryz.zeroValue111
 t51:=Tryz.underlying125
 a51:=Tryz.isAgg125
 z51:=Tryz.sizeOf125
 v51:=Tryz.zeroValue125
 t53:=Tryz.underlying173
 a53:=Tryz.isAgg173
 z53:=Tryz.sizeOf173
 v53:=Tryz.zeroValue173
 t75:=Tryz.underlying130
 a75:=Tryz.isAgg130
 z75:=Tryz.sizeOf130
 v75:=Tryz.zeroValue130
 t76:=Tryz.underlying131
 a76:=Tryz.isAgg131
 z76:=Tryz.sizeOf131
 v76:=Tryz.zeroValue131
 t85:=Tryz.underlying162
 a85:=Tryz.isAgg162
 z85:=Tryz.sizeOf162
 v85:=Tryz.zeroValue162
 t127:=Tryz.underlying187
 a127:=Tryz.isAgg187
 z127:=Tryz.sizeOf187
 v127:=Tryz.zeroValue187
 t143:=Tryz.underlying188
 a143:=Tryz.isAgg188
 z143:=Tryz.sizeOf188
 v143:=Tryz.zeroValue188
 t145:=Tryz.underlying190
 a145:=Tryz.isAgg190
 z145:=Tryz.sizeOf190
 v145:=Tryz.zeroValue190
 t167:=Tryz.underlying161
 a167:=Tryz.isAgg161
 z167:=Tryz.sizeOf161
 v167:=Tryz.zeroValue161
 t168:=Tryz.underlying164
 a168:=Tryz.isAgg164
 z168:=Tryz.sizeOf164
 v168:=Tryz.zeroValue164
 t171:=Tryz.underlying196
 a171:=Tryz.isAgg196
 z171:=Tryz.sizeOf196
 v171:=Tryz.zeroValue196
 t173:=Tryz.underlying199
 a173:=Tryz.isAgg199
 z173:=Tryz.sizeOf199
 v173:=Tryz.zeroValue199
 t175:=Tryz.underlying174
 a175:=Tryz.isAgg174
 z175:=Tryz.sizeOf174
 v175:=Tryz.zeroValue174
 t210:=Tryz.underlying178
 a210:=Tryz.isAgg178
 z210:=Tryz.sizeOf178
 v210:=Tryz.zeroValue178
 t212:=Tryz.underlying203
 a212:=Tryz.isAgg203
 z212:=Tryz.sizeOf203
 v212:=Tryz.zeroValue203
 t213:=Tryz.underlying204
 a213:=Tryz.isAgg204
 z213:=Tryz.sizeOf204
 t232:=Tryz.underlying210
 a232:=Tryz.isAgg210
 z232:=Tryz.sizeOf210
 v232:=Tryz.zeroValue210
 t233:=Tryz.underlying211
 a233:=Tryz.isAgg211
 z233:=Tryz.sizeOf211
 v233:=Tryz.zeroValue211
 g15:=by kernel_rfl
 g16:=by kernel_rfl
 g17:=by kernel_rfl
 g18:=by kernel_rfl
 g19:=by kernel_rfl
 t80:=Tryz.underlying195
 a80:=Tryz.isAgg195
 z80:=Tryz.sizeOf195
 v80:=Tryz.zeroValue195
 i0:=by kernel_rfl
 i2:=by kernel_rfl
 i3:=by kernel_rfl
 i4:=by kernel_rfl
 i5:=by kernel_rfl
 i9:=by kernel_rfl
 i20:=by kernel_rfl
 i21:=by kernel_rfl
 i37:=by kernel_rfl
 i46:=by kernel_rfl
 i51:=by kernel_rfl
 i53:=by kernel_rfl
 i75:=by kernel_rfl
 i76:=by kernel_rfl
 i80:=by kernel_rfl
 i85:=by kernel_rfl
 i127:=by kernel_rfl
 i143:=by kernel_rfl
 i145:=by kernel_rfl
 i167:=by kernel_rfl
 i168:=by kernel_rfl
 i171:=by kernel_rfl
 i173:=by kernel_rfl
 i175:=by kernel_rfl
 i210:=by kernel_rfl
 i212:=by kernel_rfl
 i232:=by kernel_rfl
 i233:=by kernel_rfl
 m15:=by kernel_rfl
 m16:=by kernel_rfl
 m17:=by kernel_rfl
 m18:=by kernel_rfl
 m19:=by kernel_rfl
 c0:=by kernel_rfl
 c2:=by kernel_rfl
 c3:=by kernel_rfl
 c4:=by kernel_rfl
 c5:=by kernel_rfl
 c9:=by kernel_rfl
 c20:=by kernel_rfl
 c21:=by kernel_rfl
 c37:=by kernel_rfl
 c46:=by kernel_rfl
 c51:=by kernel_rfl
 c53:=by kernel_rfl
 c75:=by kernel_rfl
 c76:=by kernel_rfl
 c80:=by kernel_rfl
 c85:=by kernel_rfl
 c127:=by kernel_rfl
 c143:=by kernel_rfl
 c145:=by kernel_rfl
 c167:=by kernel_rfl
 c168:=by kernel_rfl
 c171:=by kernel_rfl
 c173:=by kernel_rfl
 c175:=by kernel_rfl
 c210:=by kernel_rfl
 c212:=by kernel_rfl
 c213:=by kernel_rfl
 c232:=by kernel_rfl
 c233:=by kernel_rfl}
open Go.RowKit in
theorem Tryz.strconv_Atoi_err_var (s : ByteArray) (hl : s.size ≤ 18) (h : Lib.atoi s.data.toList = none) (tp : TypeId) (p : Value) (w : World) (hvar : w.var? Tryz.prog "strconv.ErrSyntax" = some #[.iface tp p]) :
 Calls Tryz.prog 104 #[.string s] w fun e w' => ∃N,e= .returned (.tuple #[.int .i64 0, .iface 164 (.pointer (some ⟨N,0,none⟩))])∧w.heap.size≤N∧w'.heap[N]? =some (.cells #[.string ⟨#[65,116,111,105]⟩, .string s, .iface tp p] 178 (0,0))∧Below w.heap.size w w' :=Any.strconv_Atoi_err_var Tryz.laysC172 s hl h tp p w hvar
def Tryz.lays144_ren:Go.Shelf.Ren:=⟨fun | 144=> 157 | 143=> 171 | 219=> 167 | 217=> 153 | 225=> 159 | 224=> 83 | 267=> 178 | 266=> 168 | 314=> 185 | n=> n,fun | 9=> 9 | 4=> 4 | 3=> 3 | 5=> 5 | 46=> 111 | 146=> 126 | 51=> 125 | n=> n,fun | 1=> 0 | n=> n⟩
theorem Tryz.lays144:Go.Proofs.Lays.n144 Tryz.prog Tryz.lays144_ren:={
 mixed:=by kernel_rfl
 f143:=Tryz.func171.trans (congrArg some (by kernel_rfl))
 f144:=Tryz.func157.trans (congrArg some (by kernel_rfl))
 f217:=Tryz.func153.trans (congrArg some (by kernel_rfl))
 f219:=Tryz.func167.trans (congrArg some (by kernel_rfl))
 f224:=Tryz.func83.trans (congrArg some (by kernel_rfl))
 f225:=Tryz.func159.trans (congrArg some (by kernel_rfl))
 f266:=Tryz.func168.trans (congrArg some (by kernel_rfl))
 f267:=Tryz.func178.trans (congrArg some (by kernel_rfl))
 f314:=Tryz.func185.trans (congrArg some (by kernel_rfl))
 t3:=Tryz.underlying3
 a3:=Tryz.isAgg3
 z3:=Tryz.sizeOf3
 v3:=Tryz.zeroValue3
 t4:=Tryz.underlying4
 a4:=Tryz.isAgg4
 z4:=Tryz.sizeOf4
 v4:=Tryz.zeroValue4
 t5:=Tryz.underlying5
 a5:=Tryz.isAgg5
 z5:=Tryz.sizeOf5
 v5:=Tryz.zeroValue5
 t9:=Tryz.underlying9
 a9:=Tryz.isAgg9
 z9:=Tryz.sizeOf9
 v9:=Tryz.zeroValue9
 t46:=Tryz.underlying111
 a46:=Tryz.isAgg111
 z46:=Tryz.sizeOf111
 v46:=Tryz.zeroValue111
 t51:=Tryz.underlying125
 a51:=Tryz.isAgg125
 z51:=Tryz.sizeOf125
 v51:=Tryz.zeroValue125
 t146:=Tryz.underlying126
 a146:=Tryz.isAgg126
 z146:=Tryz.sizeOf126
 v146:=Tryz.zeroValue126
 g1:=by kernel_rfl}
open Go.RowKit Go.Lib in
theorem Tryz.strings_Contains (s sub:ByteArray) (m:Int) (w:World) (hs:s.size < 4294967281) (hm:w.cell? ⟨0,0,none⟩=some (.int .i64 m)):
 Calls Tryz.prog 157 #[.string s, .string sub] w fun e w' => e= .returned (.bool (Lib.contains s.data.toList sub.data.toList))∧w' =w:=Any.strings_Contains Tryz.lays144 s sub m w hs hm
def Tryz.lays145_ren:Go.Shelf.Ren:=⟨fun | 145=> 130 | 220=> 152 | 219=> 167 | 217=> 153 | 225=> 159 | 224=> 83 | 267=> 178 | 266=> 168 | 314=> 185 | n=> n,fun | 9=> 9 | 4=> 4 | 59=> 138 | 3=> 3 | 5=> 5 | 46=> 111 | 146=> 126 | 51=> 125 | n=> n,fun | 1=> 0 | n=> n⟩
theorem Tryz.lays145:Go.Proofs.Lays.n145 Tryz.prog Tryz.lays145_ren:={
 mixed:=by kernel_rfl
 f145:=Tryz.func130.trans (congrArg some (by kernel_rfl))
 f217:=Tryz.func153.trans (congrArg some (by kernel_rfl))
 f219:=Tryz.func167.trans (congrArg some (by kernel_rfl))
 f220:=Tryz.func152.trans (congrArg some (by kernel_rfl))
 f224:=Tryz.func83.trans (congrArg some (by kernel_rfl))
 f225:=Tryz.func159.trans (congrArg some (by kernel_rfl))
 f266:=Tryz.func168.trans (congrArg some (by kernel_rfl))
 f267:=Tryz.func178.trans (congrArg some (by kernel_rfl))
 f314:=Tryz.func185.trans (congrArg some (by kernel_rfl))
 t3:=Tryz.underlying3
 a3:=Tryz.isAgg3
 z3:=Tryz.sizeOf3
 v3:=Tryz.zeroValue3
 t4:=Tryz.underlying4
 a4:=Tryz.isAgg4
 z4:=Tryz.sizeOf4
 v4:=Tryz.zeroValue4
 t5:=Tryz.underlying5
 a5:=Tryz.isAgg5
 z5:=Tryz.sizeOf5
 v5:=Tryz.zeroValue5
 t9:=Tryz.underlying9
 a9:=Tryz.isAgg9
 z9:=Tryz.sizeOf9
 v9:=Tryz.zeroValue9
 t46:=Tryz.underlying111
 a46:=Tryz.isAgg111
 z46:=Tryz.sizeOf111
 v46:=Tryz.zeroValue111
 t51:=Tryz.underlying125
 a51:=Tryz.isAgg125
 z51:=Tryz.sizeOf125
 v51:=Tryz.zeroValue125
 t59:=Tryz.underlying138
 a59:=Tryz.isAgg138
 z59:=Tryz.sizeOf138
 v59:=Tryz.zeroValue138
 t146:=Tryz.underlying126
 a146:=Tryz.isAgg126
 z146:=Tryz.sizeOf126
 v146:=Tryz.zeroValue126
 g1:=by kernel_rfl}
open Go.RowKit Go.Lib in
theorem Tryz.strings_Cut (s sep:ByteArray) (m:Int) (w:World) (hs:s.size < 4294967281) (hm:w.cell? ⟨0,0,none⟩=some (.int .i64 m)):
 Calls Tryz.prog 130 #[.string s, .string sep] w fun e w' => e= .returned (.tuple #[.string ⟨(Lib.cut s.data.toList sep.data.toList).1.toArray⟩, .string ⟨(Lib.cut s.data.toList sep.data.toList).2.1.toArray⟩, .bool (Lib.cut s.data.toList sep.data.toList).2.2])∧∃n,w' =w.drewN n:=Any.strings_Cut Tryz.lays145 s sep m w hs hm
def Tryz.lays99_ren:Go.Shelf.Ren:=⟨fun | 99=> 155 | 206=> 169 | n=> n,fun | 9=> 9 | 4=> 4 | 3=> 3 | n=> n,fun | n=> n⟩
theorem Tryz.lays99:Go.Proofs.Lays.n99 Tryz.prog Tryz.lays99_ren:={
 mixed:=by kernel_rfl
 f99:=Tryz.func155.trans (congrArg some (by kernel_rfl))
 f206:=Tryz.func169.trans (congrArg some (by kernel_rfl))
 t3:=Tryz.underlying3
 a3:=Tryz.isAgg3
 z3:=Tryz.sizeOf3
 v3:=Tryz.zeroValue3
 t4:=Tryz.underlying4
 a4:=Tryz.isAgg4
 z4:=Tryz.sizeOf4
 v4:=Tryz.zeroValue4
 t9:=Tryz.underlying9
 a9:=Tryz.isAgg9
 z9:=Tryz.sizeOf9
 v9:=Tryz.zeroValue9}
open Go.RowKit Go.Lib in
theorem Tryz.strings_HasPrefix (s p:ByteArray) (w:World):
 Calls Tryz.prog 155 #[.string s, .string p] w fun e w' => e= .returned (.bool (Lib.hasPrefix s.data.toList p.data.toList))∧w' =w:=Any.strings_HasPrefix Tryz.lays99 s p w
def Tryz.lays100_ren:Go.Shelf.Ren:=⟨fun | 100=> 156 | 207=> 170 | n=> n,fun | 9=> 9 | 4=> 4 | 3=> 3 | n=> n,fun | n=> n⟩
theorem Tryz.lays100:Go.Proofs.Lays.n100 Tryz.prog Tryz.lays100_ren:={
 mixed:=by kernel_rfl
 f100:=Tryz.func156.trans (congrArg some (by kernel_rfl))
 f207:=Tryz.func170.trans (congrArg some (by kernel_rfl))
 t3:=Tryz.underlying3
 a3:=Tryz.isAgg3
 z3:=Tryz.sizeOf3
 v3:=Tryz.zeroValue3
 t4:=Tryz.underlying4
 a4:=Tryz.isAgg4
 z4:=Tryz.sizeOf4
 v4:=Tryz.zeroValue4
 t9:=Tryz.underlying9
 a9:=Tryz.isAgg9
 z9:=Tryz.sizeOf9
 v9:=Tryz.zeroValue9}
open Go.RowKit Go.Lib in
theorem Tryz.strings_HasSuffix (s p:ByteArray) (w:World) (hs:s.size≤9223372036854775807):
 Calls Tryz.prog 156 #[.string s, .string p] w fun e w' => e= .returned (.bool (Lib.hasSuffix s.data.toList p.data.toList))∧w' =w:=Any.strings_HasSuffix Tryz.lays100 s p w hs
def Tryz.lays226_ren:Go.Shelf.Ren:=⟨fun | 226=> 139 | n=> n,fun | 3=> 3 | 4=> 4 | n=> n,fun | n=> n⟩
theorem Tryz.lays226:Go.Proofs.Lays.n226 Tryz.prog Tryz.lays226_ren:={
 mixed:=by kernel_rfl
 f226:=Tryz.func139.trans (congrArg some (by kernel_rfl))
 t3:=Tryz.underlying3
 a3:=Tryz.isAgg3
 z3:=Tryz.sizeOf3
 v3:=Tryz.zeroValue3
 t4:=Tryz.underlying4
 a4:=Tryz.isAgg4
 z4:=Tryz.sizeOf4
 v4:=Tryz.zeroValue4}
open Go.RowKit Go.Lib in
theorem Tryz.strings_shouldUseASCIISet (n:Int) (w:World):
 Calls Tryz.prog 139 #[.int .i64 n] w fun e w' => e= .returned (.bool (decide (8 < n)))∧w' =w:=Any.strings_shouldUseASCIISet Tryz.lays226 n w
def Tryz.lays153_ren:Go.Shelf.Ren:=⟨fun | 153=> 120 | 152=> 138 | 226=> 139 | 227=> 140 | 228=> 141 | 137=> 132 | 119=> 158 | 224=> 83 | 225=> 159 | 217=> 153 | 266=> 168 | n=> n,fun | 9=> 9 | 3=> 3 | 4=> 4 | 5=> 5 | 21=> 21 | 117=> 159 | 116=> 158 | 0=> 0 | 46=> 111 | 124=> 172 | n=> n,fun | n=> n⟩
theorem Tryz.lays153:Go.Proofs.Lays.n153 Tryz.prog Tryz.lays153_ren:={
 mixed:=by kernel_rfl
 f119:=Tryz.func158.trans (congrArg some (by kernel_rfl))
 f137:=Tryz.func132.trans (congrArg some (by kernel_rfl))
 f152:=Tryz.func138.trans (congrArg some (by kernel_rfl))
 f153:=Tryz.func120.trans (congrArg some (by kernel_rfl))
 f217:=Tryz.func153.trans (congrArg some (by kernel_rfl))
 f224:=Tryz.func83.trans (congrArg some (by kernel_rfl))
 f225:=Tryz.func159.trans (congrArg some (by kernel_rfl))
 f226:=Tryz.func139.trans (congrArg some (by kernel_rfl))
 f227:=Tryz.func140.trans (congrArg some (by kernel_rfl))
 f228:=Tryz.func141.trans (congrArg some (by kernel_rfl))
 f266:=Tryz.func168.trans (congrArg some (by kernel_rfl))
 t0:=Tryz.underlying0
 a0:=Tryz.isAgg0
 z0:=Tryz.sizeOf0
 v0:=Tryz.zeroValue0
 t3:=Tryz.underlying3
 a3:=Tryz.isAgg3
 z3:=Tryz.sizeOf3
 v3:=Tryz.zeroValue3
 t4:=Tryz.underlying4
 a4:=Tryz.isAgg4
 z4:=Tryz.sizeOf4
 v4:=Tryz.zeroValue4
 t5:=Tryz.underlying5
 a5:=Tryz.isAgg5
 z5:=Tryz.sizeOf5
 v5:=Tryz.zeroValue5
 t9:=Tryz.underlying9
 a9:=Tryz.isAgg9
 z9:=Tryz.sizeOf9
 v9:=Tryz.zeroValue9
 t21:=Tryz.underlying21
 a21:=Tryz.isAgg21
 z21:=Tryz.sizeOf21
 v21:=Tryz.zeroValue21
 t46:=Tryz.underlying111
 a46:=Tryz.isAgg111
 z46:=Tryz.sizeOf111
 v46:=Tryz.zeroValue111
 t116:=Tryz.underlying158
 a116:=Tryz.isAgg158
 z116:=Tryz.sizeOf158
 t117:=Tryz.underlying159
 a117:=Tryz.isAgg159
 z117:=Tryz.sizeOf159
 v117:=Tryz.zeroValue159
 t124:=Tryz.underlying172
 a124:=Tryz.isAgg172
 z124:=Tryz.sizeOf172
 v124:=Tryz.zeroValue172}
open Go.RowKit Go.Lib in
theorem Tryz.strings_IndexAny_long (hv116:∀w,(zeroValue 158).run Tryz.prog w= .ok (.agg (Array.replicate 256 (.bool false))) w) (s chars:ByteArray) (w:World) (h2:2≤chars.size) (h8:8 < s.size) (hs:s.size < 4294967281) (hcs:chars.size < 4294967281) (hascii:∀(j:Nat) b,chars.data.toList[j]? =some b→b.toNat < 128):
 Calls Tryz.prog 120 #[.string s, .string chars] w fun e w' => e= .returned (.int .i64 (Lib.indexAny s.data.toList chars.data.toList))∧w' =((w.alloc (.cells (Lib.setCells chars.data.toList) 158)).alloc (.cells (Lib.setCells chars.data.toList) 158)):=Any.strings_IndexAny_long Tryz.lays153 hv116 (by kernel_rfl) s chars w h2 h8 hs hcs hascii
open Go.RowKit Go.Lib in
theorem Tryz.strings_IndexAny (hv116:∀w,(zeroValue 158).run Tryz.prog w= .ok (.agg (Array.replicate 256 (.bool false))) w) (s chars:ByteArray) (w:World) (hs:s.size < 4294967281) (hcs:chars.size < 4294967281) (has:∀(j:Nat) b,s.data.toList[j]? =some b→b.toNat < 128) (hac:∀(j:Nat) b,chars.data.toList[j]? =some b→b.toNat < 128):
 Calls Tryz.prog 120 #[.string s, .string chars] w fun e w' => e= .returned (.int .i64 (Lib.indexAny s.data.toList chars.data.toList))∧Below w.heap.size w w' :=Any.strings_IndexAny Tryz.lays153 hv116 (by kernel_rfl) s chars w hs hcs has hac
def Tryz.lays150_ren:Go.Shelf.Ren:=⟨fun | 150=> 103 | 153=> 120 | 152=> 138 | 226=> 139 | 227=> 140 | 228=> 141 | 137=> 132 | 119=> 158 | 224=> 83 | 225=> 159 | 217=> 153 | 266=> 168 | n=> n,fun | 9=> 9 | 4=> 4 | 3=> 3 | 5=> 5 | 21=> 21 | 117=> 159 | 116=> 158 | 0=> 0 | 46=> 111 | 124=> 172 | n=> n,fun | n=> n⟩
theorem Tryz.lays150:Go.Proofs.Lays.n150 Tryz.prog Tryz.lays150_ren:={
 mixed:=by kernel_rfl
 f119:=Tryz.func158.trans (congrArg some (by kernel_rfl))
 f137:=Tryz.func132.trans (congrArg some (by kernel_rfl))
 f150:=Tryz.func103.trans (congrArg some (by kernel_rfl))
 f152:=Tryz.func138.trans (congrArg some (by kernel_rfl))
 f153:=Tryz.func120.trans (congrArg some (by kernel_rfl))
 f217:=Tryz.func153.trans (congrArg some (by kernel_rfl))
 f224:=Tryz.func83.trans (congrArg some (by kernel_rfl))
 f225:=Tryz.func159.trans (congrArg some (by kernel_rfl))
 f226:=Tryz.func139.trans (congrArg some (by kernel_rfl))
 f227:=Tryz.func140.trans (congrArg some (by kernel_rfl))
 f228:=Tryz.func141.trans (congrArg some (by kernel_rfl))
 f266:=Tryz.func168.trans (congrArg some (by kernel_rfl))
 t0:=Tryz.underlying0
 a0:=Tryz.isAgg0
 z0:=Tryz.sizeOf0
 v0:=Tryz.zeroValue0
 t3:=Tryz.underlying3
 a3:=Tryz.isAgg3
 z3:=Tryz.sizeOf3
 v3:=Tryz.zeroValue3
 t4:=Tryz.underlying4
 a4:=Tryz.isAgg4
 z4:=Tryz.sizeOf4
 v4:=Tryz.zeroValue4
 t5:=Tryz.underlying5
 a5:=Tryz.isAgg5
 z5:=Tryz.sizeOf5
 v5:=Tryz.zeroValue5
 t9:=Tryz.underlying9
 a9:=Tryz.isAgg9
 z9:=Tryz.sizeOf9
 v9:=Tryz.zeroValue9
 t21:=Tryz.underlying21
 a21:=Tryz.isAgg21
 z21:=Tryz.sizeOf21
 v21:=Tryz.zeroValue21
 t46:=Tryz.underlying111
 a46:=Tryz.isAgg111
 z46:=Tryz.sizeOf111
 v46:=Tryz.zeroValue111
 t116:=Tryz.underlying158
 a116:=Tryz.isAgg158
 z116:=Tryz.sizeOf158
 t117:=Tryz.underlying159
 a117:=Tryz.isAgg159
 z117:=Tryz.sizeOf159
 v117:=Tryz.zeroValue159
 t124:=Tryz.underlying172
 a124:=Tryz.isAgg172
 z124:=Tryz.sizeOf172
 v124:=Tryz.zeroValue172}
open Go.RowKit Go.Lib in
theorem Tryz.strings_ContainsAny (hv116:∀w,(zeroValue 158).run Tryz.prog w= .ok (.agg (Array.replicate 256 (.bool false))) w) (s chars:ByteArray) (w:World) (hs:s.size < 4294967281) (hcs:chars.size < 4294967281) (has:∀(j:Nat) b,s.data.toList[j]? =some b→b.toNat < 128) (hac:∀(j:Nat) b,chars.data.toList[j]? =some b→b.toNat < 128):
 Calls Tryz.prog 103 #[.string s, .string chars] w fun e w' => e= .returned (.bool (Lib.containsAny s.data.toList chars.data.toList))∧Below w.heap.size w w' :=Any.strings_ContainsAny Tryz.lays150 hv116 (by kernel_rfl) s chars w hs hcs has hac
def Tryz.lays185_ren:Go.Shelf.Ren:=⟨fun | 185=> 59 | 187=> 81 | 115=> 80 | 253=> 82 | 224=> 83 | 254=> 84 | 255=> 100 | 291=> 101 | n=> n,fun | 37=> 26 | 3=> 3 | 4=> 4 | 0=> 0 | 5=> 5 | 46=> 111 | 9=> 9 | 146=> 126 | 51=> 125 | n=> n,fun | 1=> 0 | n=> n⟩
theorem Tryz.lays185:Go.Proofs.Lays.n185 Tryz.prog Tryz.lays185_ren:={
 mixed:=by kernel_rfl
 f115:=Tryz.func80.trans (congrArg some (by kernel_rfl))
 f185:=Tryz.func59.trans (congrArg some (by kernel_rfl))
 f187:=Tryz.func81.trans (congrArg some (by kernel_rfl))
 f224:=Tryz.func83.trans (congrArg some (by kernel_rfl))
 f253:=Tryz.func82.trans (congrArg some (by kernel_rfl))
 f254:=Tryz.func84.trans (congrArg some (by kernel_rfl))
 f255:=Tryz.func100.trans (congrArg some (by kernel_rfl))
 f291:=Tryz.func101.trans (congrArg some (by kernel_rfl))
 t0:=Tryz.underlying0
 a0:=Tryz.isAgg0
 z0:=Tryz.sizeOf0
 v0:=Tryz.zeroValue0
 t3:=Tryz.underlying3
 a3:=Tryz.isAgg3
 z3:=Tryz.sizeOf3
 v3:=Tryz.zeroValue3
 t4:=Tryz.underlying4
 a4:=Tryz.isAgg4
 z4:=Tryz.sizeOf4
 v4:=Tryz.zeroValue4
 t5:=Tryz.underlying5
 a5:=Tryz.isAgg5
 z5:=Tryz.sizeOf5
 v5:=Tryz.zeroValue5
 t9:=Tryz.underlying9
 a9:=Tryz.isAgg9
 z9:=Tryz.sizeOf9
 v9:=Tryz.zeroValue9
 t37:=Tryz.underlying26
 a37:=Tryz.isAgg26
 z37:=Tryz.sizeOf26
 v37:=Tryz.zeroValue26
 t46:=Tryz.underlying111
 a46:=Tryz.isAgg111
 z46:=Tryz.sizeOf111
 v46:=Tryz.zeroValue111
 t51:=Tryz.underlying125
 a51:=Tryz.isAgg125
 z51:=Tryz.sizeOf125
 v51:=Tryz.zeroValue125
 t146:=Tryz.underlying126
 a146:=Tryz.isAgg126
 z146:=Tryz.sizeOf126
 v146:=Tryz.zeroValue126
 g1:=by kernel_rfl}
open Go.RowKit Go.Lib in
theorem Tryz.bytes_Index_longer (p q:Option Addr) (n c m d:Nat) (w:World) (h2:2≤m) (hnm:n < m) (hm:m≤9223372036854775807):
 Calls Tryz.prog 59 #[.slice p n c, .slice q m d] w fun e w' => e= .returned (.int .i64 (-1))∧w' =w:=Any.bytes_Index_longer Tryz.lays185 p q n c m d w h2 hnm hm
def Tryz.lays115_ren:Go.Shelf.Ren:=⟨fun | 115=> 80 | n=> n,fun | 37=> 26 | 4=> 4 | 9=> 9 | 5=> 5 | n=> n,fun | n=> n⟩
theorem Tryz.lays115:Go.Proofs.Lays.n115 Tryz.prog Tryz.lays115_ren:={
 mixed:=by kernel_rfl
 f115:=Tryz.func80.trans (congrArg some (by kernel_rfl))
 t4:=Tryz.underlying4
 a4:=Tryz.isAgg4
 z4:=Tryz.sizeOf4
 v4:=Tryz.zeroValue4
 t9:=Tryz.underlying9
 a9:=Tryz.isAgg9
 z9:=Tryz.sizeOf9
 v9:=Tryz.zeroValue9
 t37:=Tryz.underlying26
 a37:=Tryz.isAgg26
 z37:=Tryz.sizeOf26
 v37:=Tryz.zeroValue26}
open Go.Proofs Go.RowKit Go.Lib in
theorem Tryz.bytes_Index_at (a1 a2:Addr) (n c1 k c2:Nat) (xs ys:List Int) (m:Int) (w:World) (hx:xs.length=n) (hy:ys.length=k) (hr1:∀x∈xs,0≤x∧x < 256) (hr2:∀y∈ys,0≤y∧y < 256) (hc1:∀i,i < n→w.cell? (a1.add i)=some (.int .u8 (xs.getD i 0))) (hc2:∀i,i < k→w.cell? (a2.add i)=some (.int .u8 (ys.getD i 0))) (hcap:n≤c1) (hs:n < 4294967281) (hk:k≤9223372036854775807) (hm:w.cell? ⟨0,0,none⟩=some (.int .i64 m)):
 Calls Tryz.prog 59 #[.slice (some a1) n c1, .slice (some a2) k c2] w fun e w' => e= .returned (.int .i64 (Lib.index (Lib.bytesOf xs) (Lib.bytesOf ys)))∧∃q,w' =w.drewN q:=Any.bytes_Index_at Tryz.lays185 a1 a2 n c1 k c2 xs ys m w hx hy hr1 hr2 hc1 hc2 hcap hs hk hm
def Tryz.laysnb116_ren:Go.Shelf.Ren:=⟨fun | 116=> 126 | 115=> 80 | n=> n,fun | 37=> 26 | 4=> 4 | 3=> 3 | 9=> 9 | 5=> 5 | n=> n,fun | n=> n⟩
theorem Tryz.laysnb116:Go.Proofs.Lays.nb116 Tryz.prog Tryz.laysnb116_ren:={
 mixed:=by kernel_rfl
 f115:=Tryz.func80.trans (congrArg some (by kernel_rfl))
 f116:=Tryz.func126.trans (congrArg some (by kernel_rfl))
 t3:=Tryz.underlying3
 a3:=Tryz.isAgg3
 z3:=Tryz.sizeOf3
 v3:=Tryz.zeroValue3
 t4:=Tryz.underlying4
 a4:=Tryz.isAgg4
 z4:=Tryz.sizeOf4
 v4:=Tryz.zeroValue4
 t9:=Tryz.underlying9
 a9:=Tryz.isAgg9
 z9:=Tryz.sizeOf9
 v9:=Tryz.zeroValue9
 t37:=Tryz.underlying26
 a37:=Tryz.isAgg26
 z37:=Tryz.sizeOf26
 v37:=Tryz.zeroValue26
 t5:=Tryz.underlying5
 a5:=Tryz.isAgg5
 z5:=Tryz.sizeOf5
 v5:=Tryz.zeroValue5}
def Tryz.laysnb117_ren:Go.Shelf.Ren:=⟨fun | 117=> 58 | 115=> 80 | n=> n,fun | 37=> 26 | 4=> 4 | 3=> 3 | 9=> 9 | 5=> 5 | n=> n,fun | n=> n⟩
theorem Tryz.laysnb117:Go.Proofs.Lays.nb117 Tryz.prog Tryz.laysnb117_ren:={
 mixed:=by kernel_rfl
 f115:=Tryz.func80.trans (congrArg some (by kernel_rfl))
 f117:=Tryz.func58.trans (congrArg some (by kernel_rfl))
 t3:=Tryz.underlying3
 a3:=Tryz.isAgg3
 z3:=Tryz.sizeOf3
 v3:=Tryz.zeroValue3
 t4:=Tryz.underlying4
 a4:=Tryz.isAgg4
 z4:=Tryz.sizeOf4
 v4:=Tryz.zeroValue4
 t9:=Tryz.underlying9
 a9:=Tryz.isAgg9
 z9:=Tryz.sizeOf9
 v9:=Tryz.zeroValue9
 t37:=Tryz.underlying26
 a37:=Tryz.isAgg26
 z37:=Tryz.sizeOf26
 v37:=Tryz.zeroValue26
 t5:=Tryz.underlying5
 a5:=Tryz.isAgg5
 z5:=Tryz.sizeOf5
 v5:=Tryz.zeroValue5}
theorem Tryz.bytes_Equal (v1 v2:Value) (xs ys:List Int) (w:World) (h1:(convert 26 9 v1).run Tryz.prog w= .ok (.string (strOfNums xs)) w) (h2:(convert 26 9 v2).run Tryz.prog w= .ok (.string (strOfNums ys)) w):
 Calls Tryz.prog 80 #[v1,v2] w fun e w' => e= .returned (.bool (Lib.bytesOf xs==Lib.bytesOf ys))∧w' =w:=Any.bytes_Equal Tryz.lays115 v1 v2 xs ys w h1 h2
theorem Tryz.bytes_HasPrefix (b1 o1 n c b2 o2 m d:Nat) (xs ys:List Int) (w:World) (hx:xs.length=n) (hy:ys.length=m) (hnc:n≤c) (hc1:∀i,i < n→w.cell? ⟨b1,o1+i,none⟩=some (.int .u8 (xs.getD i 0))) (hc2:∀i,i < m→w.cell? ⟨b2,o2+i,none⟩=some (.int .u8 (ys.getD i 0))):
 Calls Tryz.prog 126 #[.slice (some ⟨b1,o1,none⟩) n c, .slice (some ⟨b2,o2,none⟩) m d] w fun e w' => e= .returned (.bool (Lib.hasPrefix (Lib.bytesOf xs) (Lib.bytesOf ys)))∧w' =w:=Any.bytes_HasPrefix Tryz.laysnb116 b1 o1 n c b2 o2 m d xs ys w hx hy hnc hc1 hc2
theorem Tryz.bytes_HasSuffix (b1 o1 n c b2 o2 m d:Nat) (xs ys:List Int) (w:World) (hx:xs.length=n) (hy:ys.length=m) (hnc:n≤c) (hbig:n≤9223372036854775807) (hc1:∀i,i < n→w.cell? ⟨b1,o1+i,none⟩=some (.int .u8 (xs.getD i 0))) (hc2:∀i,i < m→w.cell? ⟨b2,o2+i,none⟩=some (.int .u8 (ys.getD i 0))):
 Calls Tryz.prog 58 #[.slice (some ⟨b1,o1,none⟩) n c, .slice (some ⟨b2,o2,none⟩) m d] w fun e w' => e= .returned (.bool (Lib.hasSuffix (Lib.bytesOf xs) (Lib.bytesOf ys)))∧w' =w:=Any.bytes_HasSuffix Tryz.laysnb117 b1 o1 n c b2 o2 m d xs ys w hx hy hnc hbig hc1 hc2
end Go.Proofs
namespace Go.Proofs.YtjnmamghadpedaaGreatDoor
open Go.RowKit
set_option maxRecDepth 100000
theorem kkb (g:G) (q:Nat):Old (fun _=> False) g ⟨g.w.drewN q,g.u,g.loc⟩:=
 ⟨rfl,rfl,rfl,⟨Nat.le_refl _,fun _ _=> Nat.le_refl _,fun _ _ _ _=> rfl,fun _ h=> h⟩,fun _ _ _=> ⟨rfl,rfl⟩⟩
theorem Qra {g:G} {s:Str} {v:Value} (h:Rel g (.s s) v):v= .string (strB s):=kBa h
theorem vpa (s:Str) (c:UInt8) (r:Int) (hr:z3a s c=some r):Run Tryz.prog 132 [.s s, .u8 c] (.i r):=by
 unfold z3a at hr
 cases hr
 refine ⟨⟨_,_,⟨Tryz.func132,rfl,by kernel_rfl⟩⟩,fun g vs hw hg ha=> ?_⟩
 obtain ⟨hsz,hrel⟩:=ha
 obtain ⟨l⟩:=vs
 match l,hsz with
 | [x,y],_=>
  obtain rfl:=Qra (hrel 0 _ rfl)
  have e2:y= .int .u8 (c.toNat:Int):=kBa (hrel 1 _ rfl)
  subst e2
  refine callsIn_wide.2 ((Tryz.strings_IndexByte (strB s) (c.toNat:Int) g.w).mono ?_)
  rintro e w' ⟨rfl,rfl⟩
  refine ⟨g,_,rfl,rfl,Old.refl _ g,hw,rfl, ?_⟩
  simp [strB]
  exact .pv (.b rfl)
end Go.Proofs.YtjnmamghadpedaaGreatDoor
namespace Go.Proofs.YtjnmamghadpedaaGreatDoor
open Go.RowKit
set_option maxRecDepth 100000
set_option maxHeartbeats 40000000
theorem jja (a0:Int) (r:Bool) (hr:kDa a0=some r):Run Tryz.prog 158 [.pv (.b (.int .i32 a0))] (.bo r):=by
 unfold kDa at hr
 refine rf (fn:=Tryz.f158) ⟨Tryz.func158,rfl,by kernel_rfl⟩ rfl (fun _=> rfl) fun g0 hg=> ?_
 refine rn tk 7 rfl ?_
 refine jb hr (fun j1=> [(0, .pv (.b (.int .i32 a0))),(3, .bo j1)]) (fun j1=> []) (fun j1 hr=> ?_) (fun j1 hr=> ?_)
 ·
  refine rn tk 4 rfl ?_
  refine bs 6 hr rfl (fun c2 hr=> ?_) (fun c2 hr=> ?_)
  ·
   refine rn tk 5 rfl ?_
   cases hr
   exact jn _ rfl rfl rfl
  ·
   refine rn tk 5 rfl ?_
   cases hr
   exact jn _ rfl rfl rfl
 ·
  refine ac 3 hr rfl (fun c3 hr=> ?_) (fun c3 hr=> ?_)
  ·
   refine rn tk 8 rfl ?_
   cases hr
   exact kr tk (.inr rfl) rfl rfl
  ·
   refine jb hr (fun j4=> [(10, .bo j4)]) (fun j4=> []) (fun j4 hr=> ?_) (fun j4 hr=> ?_)
   ·
    refine rn tk 4 rfl ?_
    refine bs 13 hr rfl (fun c5 hr=> ?_) (fun c5 hr=> ?_)
    ·
     refine rn tk 5 rfl ?_
     cases hr
     exact jn _ rfl rfl rfl
    ·
     refine rn tk 5 rfl ?_
     cases hr
     exact jn _ rfl rfl rfl
   ·
    refine ac 10 hr rfl (fun c6 hr=> ?_) (fun c6 hr=> ?_)
    ·
     refine rn tk 8 rfl ?_
     cases hr
     exact kr tk (.inr rfl) rfl rfl
    ·
     refine rn tk 9 rfl ?_
     cases hr
     exact kr tk (.inr rfl) rfl rfl
theorem yba (a0:Str) (a1:Int) (r:Int) (hr:kta a0 a1=some r):Run Tryz.prog 138 [.s a0, .pv (.b (.int .i32 a1))] (.i r):=by
 unfold kta at hr
 refine rf (fn:=Tryz.f138) ⟨Tryz.func138,rfl,by kernel_rfl⟩ rfl (fun _=> rfl) fun g0 hg=> ?_
 refine rn tk 6 rfl ?_
 refine jb hr (fun j1=> [(0, .s a0),(1, .pv (.b (.int .i32 a1))),(160, .bo j1)]) (fun j1=> []) (fun j1 hr=> ?_) (fun j1 hr=> ?_)
 ·
  refine rn tk 4 rfl ?_
  refine bs 163 hr rfl (fun c2 hr=> ?_) (fun c2 hr=> ?_)
  ·
   refine rn tk 5 rfl ?_
   cases hr
   exact jn _ rfl rfl rfl
  ·
   refine rn tk 5 rfl ?_
   cases hr
   exact jn _ rfl rfl rfl
 ·
  refine ac 160 hr rfl (fun c3 hr=> ?_) (fun c3 hr=> ?_)
  ·
   refine rn tk 5 rfl ?_
   obtain ⟨v4,h5,hr⟩:=zaa hr
   refine cl (vpa _ _ _ h5) rfl rfl ?_
   refine rn tk 5 rfl ?_
   cases hr
   exact kr tk (.inr rfl) rfl rfl
  ·
   refine rn tk 7 rfl ?_
   refine ac 171 hr rfl (fun c6 hr=> ?_) (fun c6 hr=> ?_)
   ·
    refine rn tk 4 rfl ?_
    refine wr 1175 tk rfl rfl rfl rfl ?_
    refine rn tk 3 rfl ?_
    refine al2 hr (fun s7=> [(175, .ptr 1175 0)]) (fun s7=> [(1175, .it (strB a0) s7)]) (.exit 9) (fun b8=> []) (fun b8=> []) .ret (fun b9=> [(4, .i b9)]) (fun b9=> []) rfl rfl (fun s7 x11 hr=> ?_) (fun b8 hr=> ?_) (fun b9 hr=> ?_)
    ·
     unfold qra at hr
     refine rn tk 2 rfl ?_
     refine wnx hr rfl rfl rfl (fun c12 hr=> ?_) (fun c12 hr=> ?_)
     ·
      refine rn tk 22 rfl ?_
      refine ac 181 hr rfl (fun c13 hr=> ?_) (fun c13 hr=> ?_)
      ·
       refine rn tk 8 rfl ?_
       cases hr
       exact ato rfl rfl rfl rfl
      ·
       refine rn tk 2 rfl ?_
       cases hr
       exact atc rfl rfl
     ·
      refine rn tk 7 rfl ?_
      cases hr
      exact ato rfl rfl rfl rfl
    ·
     refine rn tk 9 rfl ?_
     cases hr
     exact kr tk (.inr rfl) rfl rfl
    ·
     refine rn tk 3 rfl ?_
     cases hr
     exact kr tk (.inr rfl) rfl rfl
   ·
    refine rn tk 3 rfl ?_
    obtain ⟨v14,h15,hr⟩:=zaa hr
    refine cl (jja _ _ h15) rfl rfl ?_
    refine rn tk 4 rfl ?_
    refine ac 183 hr rfl (fun c16 hr=> ?_) (fun c16 hr=> ?_)
    ·
     refine rn tk 7 rfl ?_
     cases hr
     exact kr tk (.inr rfl) rfl rfl
    ·
     refine rn tk 29 rfl ?_
     refine al2 hr (fun s17=> [(0, .s a0),(7, .s ((w0a a1))),(8, .i ((w64 ((((w0a a1)).length:Int) - 1)))),(9, .i s17)]) (fun s17=> []) (.exit 1) (fun b18=> []) (fun b18=> []) .ret (fun b19=> [(4, .i b19)]) (fun b19=> []) rfl rfl (fun s17 x21 hr=> ?_) (fun b18 hr=> ?_) (fun b19 hr=> ?_)
     ·
      unfold qta at hr
      refine rn tk 9 rfl ?_
      refine ac 26 hr rfl (fun c22 hr=> ?_) (fun c22 hr=> ?_)
      ·
       refine rn tk 4 rfl ?_
       refine jk (fun j23=> [(0, .s a0),(7, .s ((w0a a1))),(8, .i j23.1),(9, .i j23.2)]) (fun j23=> []) (fun j23=> qsa a0 a1 j23=some x21) ?_ ?_
       ·
        refine rn tk 1 rfl ?_
        obtain ⟨v24,h25,hr⟩:=zaa hr
        obtain ⟨v26,h27,hr⟩:=zaa hr
        refine dr 6 [(32, .u8 v26),(31, .i ((w64 ((((w0a a1)).length:Int) - 1)))),(30, .s ((w0a a1))),(29, .u8 v24),(28, .i s17),(27, .s a0)] mixed (by kernel_rfl) rfl rfl (pq tk rfl (.plain rfl) (pq tk rfl (.plain rfl) (.run (.plain rfl) (qda (ZPa rfl rfl zDa h25)) (pq tk rfl (.plain rfl) (pq tk rfl (.plain rfl) (.run (.plain rfl) (qda (ZPa rfl rfl zDa h27)) .nil)))))) rfl ?_
        refine rn tk 3 rfl ?_
        refine ac 33 hr rfl (fun c28 hr=> ?_) (fun c28 hr=> ?_)
        ·
         refine rn tk 1 rfl ?_
         obtain ⟨v29,h30,hr⟩:=zaa hr
         obtain ⟨v31,h32,hr⟩:=zaa hr
         refine dr 7 [(40, .u8 v31),(39, .i ((w64 ((((w0a a1)).length:Int) - 1)))),(38, .s ((w0a a1))),(37, .s v29),(36, .i ((w64 (s17+1)))),(35, .i s17),(34, .s a0)] mixed (by kernel_rfl) rfl rfl (pq tk rfl (.plain rfl) (pq tk rfl (.plain rfl) (pq tk rfl (.plain rfl) (.run (.plain rfl) (qda (Wra rfl rfl zDa h30)) (pq tk rfl (.plain rfl) (pq tk rfl (.plain rfl) (.run (.plain rfl) (qda (ZPa rfl rfl zDa h32)) .nil))))))) rfl ?_
         obtain ⟨v33,h34,hr⟩:=zaa hr
         refine cl (vpa _ _ _ h34) rfl rfl ?_
         refine rn tk 10 rfl ?_
         refine ac 43 hr rfl (fun c35 hr=> ?_) (fun c35 hr=> ?_)
         ·
          refine rn tk 10 rfl ?_
          cases hr
          exact ato rfl rfl rfl rfl
         ·
          refine rn tk 9 rfl ?_
          exact jn (((w64 ((((w0a a1)).length:Int) - 1)),(w64 (s17+(w64 (v33+1)))))) hr rfl rfl
        ·
         refine rn tk 1 rfl ?_
         exact jn (((w64 ((((w0a a1)).length:Int) - 1)),s17)) hr rfl rfl
       ·
        intro j23 hr
        unfold qsa at hr
        refine rn tk 7 rfl ?_
        refine al1 hr (fun s36=> [(0, .s a0),(7, .s ((w0a a1))),(8, .i j23.1),(9, .i j23.2),(12, .i s36)]) (fun s36=> []) (.exit 3) (fun b37=> [(8, .i j23.1),(9, .i j23.2)]) (fun b37=> []) rfl rfl (fun s36 x38 hr=> ?_) (fun b37 hr=> ?_)
        ·
         unfold yka at hr
         refine rn tk 9 rfl ?_
         refine ac 51 hr rfl (fun c39 hr=> ?_) (fun c39 hr=> ?_)
         ·
          refine rn tk 5 rfl ?_
          obtain ⟨v40,h41,hr⟩:=zaa hr
          obtain ⟨v42,h43,hr⟩:=zaa hr
          refine dr 10 [(63, .u8 v42),(62, .i ((w64 (j23.1 - s36)))),(61, .i s36),(60, .i j23.1),(59, .s ((w0a a1))),(58, .u8 v40),(57, .i ((w64 (j23.2 - s36)))),(56, .i s36),(55, .i j23.2),(54, .s a0)] mixed (by kernel_rfl) rfl rfl (pq tk rfl (.plain rfl) (pq tk rfl (.plain rfl) (pq tk rfl (.plain rfl) (pq tk rfl (.plain rfl) (.run (.plain rfl) (qda (ZPa rfl rfl zDa h41)) (pq tk rfl (.plain rfl) (pq tk rfl (.plain rfl) (pq tk rfl (.plain rfl) (pq tk rfl (.plain rfl) (.run (.plain rfl) (qda (ZPa rfl rfl zDa h43)) .nil)))))))))) rfl ?_
          refine rn tk 3 rfl ?_
          refine ac 64 hr rfl (fun c44 hr=> ?_) (fun c44 hr=> ?_)
          ·
           cases hr
          ·
           refine rn tk 8 rfl ?_
           cases hr
           exact atc rfl rfl
         ·
          refine rn tk 2 rfl ?_
          cases hr
          exact ato rfl rfl rfl rfl
        ·
         refine rn tk 15 rfl ?_
         cases hr
         exact ato rfl rfl rfl rfl
      ·
       refine rn tk 2 rfl ?_
       cases hr
       exact ato rfl rfl rfl rfl
     ·
      refine rn tk 12 rfl ?_
      cases hr
      exact kr tk (.inr rfl) rfl rfl
     ·
      refine rn tk 4 rfl ?_
      cases hr
      exact kr tk (.inr rfl) rfl rfl
theorem yja (a0:Int) (r:Bool) (hr:zTa a0=some r):Run Tryz.prog 139 [.i a0] (.bo r):=by
 unfold zTa at hr
 refine rf (fn:=Tryz.f139) ⟨Tryz.func139,rfl,by kernel_rfl⟩ rfl (fun _=> rfl) fun g0 hg=> ?_
 refine rn tk 13 rfl ?_
 cases hr
 exact kr tk (.inr rfl) rfl rfl
theorem Kca (a0:Str) (a1:Str) (r:Int) (hr:vua a0 a1=some r):Run Tryz.prog 120 [.s a0, .s a1] (.i r):=by
 unfold vua at hr
 refine rf (fn:=Tryz.f120) ⟨Tryz.func120,rfl,by kernel_rfl⟩ rfl (fun _=> rfl) fun g0 hg=> ?_
 refine rn tk 12 rfl ?_
 refine ac 12 hr rfl (fun c1 hr=> ?_) (fun c1 hr=> ?_)
 ·
  refine rn tk 7 rfl ?_
  cases hr
  exact kr tk (.inr rfl) rfl rfl
 ·
  refine rn tk 10 rfl ?_
  refine ac 15 hr rfl (fun c2 hr=> ?_) (fun c2 hr=> ?_)
  ·
   refine rn tk 3 rfl ?_
   obtain ⟨v3,h4,hr⟩:=zaa hr
   refine ws tk h4 rfl rfl rfl rfl ?_
   refine wur tk rfl rfl rfl ?_
   refine rn tk 3 rfl ?_
   refine jb hr (fun j5=> [(0, .s a0),(5, .pv (.b (.int .i32 j5)))]) (fun j5=> []) (fun j5 hr=> ?_) (fun j5 hr=> ?_)
   ·
    refine rn tk 6 rfl ?_
    refine ac 20 hr rfl (fun c6 hr=> ?_) (fun c6 hr=> ?_)
    ·
     refine rn tk 3 rfl ?_
     cases hr
     exact jn _ rfl rfl rfl
    ·
     refine rn tk 1 rfl ?_
     cases hr
     exact jn _ rfl rfl rfl
   ·
    refine rn tk 4 rfl ?_
    obtain ⟨v7,h8,hr⟩:=zaa hr
    refine cl (yba _ _ _ h8) rfl rfl ?_
    refine rn tk 5 rfl ?_
    cases hr
    exact kr tk (.inr rfl) rfl rfl
  ·
   refine rn tk 7 rfl ?_
   obtain ⟨v9,h10,hr⟩:=zaa hr
   refine cl (yja _ _ h10) rfl rfl ?_
   refine rn tk 2 rfl ?_
   refine ac 26 hr rfl (fun c11 hr=> ?_) (fun c11 hr=> ?_)
   ·
    refine rn tk 3 rfl ?_
    cases hr
   ·
    refine rn tk 6 rfl ?_
    refine wr 1045 tk rfl rfl rfl rfl ?_
    refine rn tk 3 rfl ?_
    refine al2 hr (fun s12=> [(1, .s a1),(45, .ptr 1045 0)]) (fun s12=> [(1045, .it (strB a0) s12)]) (.exit 2) (fun b13=> []) (fun b13=> []) .ret (fun b14=> [(4, .i b14)]) (fun b14=> []) rfl rfl (fun s12 x16 hr=> ?_) (fun b13 hr=> ?_) (fun b14 hr=> ?_)
    ·
     unfold qua at hr
     refine rn tk 2 rfl ?_
     refine wnx hr rfl rfl rfl (fun c17 hr=> ?_) (fun c17 hr=> ?_)
     ·
      refine rn tk 20 rfl ?_
      obtain ⟨v18,h19,hr⟩:=zaa hr
      refine cl (yba _ _ _ h19) rfl rfl ?_
      refine rn tk 3 rfl ?_
      refine ac 53 hr rfl (fun c20 hr=> ?_) (fun c20 hr=> ?_)
      ·
       refine rn tk 8 rfl ?_
       cases hr
       exact ato rfl rfl rfl rfl
      ·
       refine rn tk 2 rfl ?_
       cases hr
       exact atc rfl rfl
     ·
      refine rn tk 7 rfl ?_
      cases hr
      exact ato rfl rfl rfl rfl
    ·
     refine rn tk 8 rfl ?_
     cases hr
     exact kr tk (.inr rfl) rfl rfl
    ·
     refine rn tk 2 rfl ?_
     cases hr
     exact kr tk (.inr rfl) rfl rfl
end Go.Proofs.YtjnmamghadpedaaGreatDoor
namespace Go.Proofs.YtjnmamghadpedaaGreatDoor
open Go.RowKit
set_option maxRecDepth 100000
theorem Jua (g:G) (vs:Array Value) (t:TypeId):Old (fun _=> False) g ⟨g.w.alloc (.cells vs t),fun k=> if k=g.w.heap.size then 0 else g.u k,g.loc⟩:=by
 have h:=wXa g vs t 0 0 (g.loc 0)
 have e:(g.alloc vs t 0 0 (g.loc 0))=⟨g.w.alloc (.cells vs t),fun k=> if k=g.w.heap.size then 0 else g.u k,g.loc⟩:=by
  unfold G.alloc
  congr 1
  funext k
  split
  ·rename_i hk;rw [hk]
  ·rfl
 rw [←e];exact h
theorem klb {g:G} (h:Wf g) (vs:Array Value) (t:TypeId):Wf ⟨g.w.alloc (.cells vs t),fun k=> if k=g.w.heap.size then 0 else g.u k,g.loc⟩:=by
 intro k hk
 have hk:g.w.heap.size+1≤k:=by simpa using hk
 show (if k=g.w.heap.size then 0 else g.u k)=0
 rw [if_neg (by omega)]
 exact h k (by omega)
theorem vNb {t:Str} (h:Jaa t=true):∀(j:Nat) b,(strB t).data.toList[j]? =some b→b.toNat < 128:=fun j b hb=> Jia h (List.mem_of_getElem? hb)
theorem KUa (s t:Str) (r:Int) (hr:qea s t=some r):Run Tryz.prog 120 [.s s, .s t] (.i r):=by
 unfold qea at hr
 split at hr
 case isFalse=> cases hr
 rename_i hc
 obtain ⟨h1,h2,h3,h4⟩:=hc
 by_cases h8:s.length≤8
 ·exact Kca s t r (by rw [zSb s t h8 h3 h2 h4];exact hr)
 ·cases hr
  refine ⟨⟨_,_,⟨Tryz.func120,rfl,by kernel_rfl⟩⟩,fun g vs hw hg ha=> ?_⟩
  obtain ⟨hsz,hrel⟩:=ha
  obtain ⟨l⟩:=vs
  match l,hsz with
  | [x,y],_=>
   obtain rfl:=Qra (hrel 0 _ rfl)
   obtain rfl:=Qra (hrel 1 _ rfl)
   have h116:(Tryz.prog.info? 158).map (fun i=> (i.zero,i.size))=some (some (.agg (Array.replicate 256 (.bool false))),256):=by kernel_rfl
   have hz:=(zero_of_info h116).1
   refine callsIn_wide.2 ((Tryz.strings_IndexAny_long hz (strB s) (strB t) g.w (by rw [kga];exact h3) (by rw [kga];omega) (by rw [kga];exact h1) (by rw [kga];exact h2) (vNb h4)).mono ?_)
   rintro e w' ⟨rfl,rfl⟩
   have o1:=Jua g (Lib.setCells t) 158
   have w1:=klb hw (Lib.setCells t) 158
   have o2:=Jua ⟨g.w.alloc (.cells (Lib.setCells t) 158),fun k=> if k=g.w.heap.size then 0 else g.u k,g.loc⟩ (Lib.setCells t) 158
   have w2:=klb w1 (Lib.setCells t) 158
   have o3:Old (fun _=> False) g _:=o1.trans (o2.mono (S' :=fun b=> False∨g.w.heap.size≤b) (by intro b _ hf;exact hf.elim))
   exact ⟨⟨_,_,_⟩,_,rfl,(by rfl),o3,w2,(by rfl), .pv (.b rfl)⟩
end Go.Proofs.YtjnmamghadpedaaGreatDoor
namespace Go.Proofs.YtjnmamghadpedaaGreatDoor
open Go.RowKit
set_option maxRecDepth 100000
set_option maxHeartbeats 40000000
theorem k2a (a0:Str) (a1:Str) (r:Bool) (hr:zRa a0 a1=some r):Run Tryz.prog 103 [.s a0, .s a1] (.bo r):=by
 unfold zRa at hr
 refine rf (fn:=Tryz.f103) ⟨Tryz.func103,rfl,by kernel_rfl⟩ rfl (fun _=> rfl) fun g0 hg=> ?_
 refine rn tk 9 rfl ?_
 obtain ⟨v1,h2,hr⟩:=zaa hr
 refine cl (KUa _ _ _ h2) rfl rfl ?_
 refine rn tk 5 rfl ?_
 cases hr
 exact kr tk (.inr rfl) rfl rfl
theorem zib (a0:Str) (r:Bool) (hr:Z2a a0=some r):Run Tryz.prog 136 [.s a0] (.bo r):=by
 unfold Z2a at hr
 refine rf (fn:=Tryz.f136) ⟨Tryz.func136,rfl,by kernel_rfl⟩ rfl (fun _=> rfl) fun g0 hg=> ?_
 refine rn tk 8 rfl ?_
 obtain ⟨v1,h2,hr⟩:=zaa hr
 refine cl (k2a _ _ _ h2) rfl rfl ?_
 refine rn tk 4 rfl ?_
 cases hr
 exact kr tk (.inr rfl) rfl rfl
theorem YSa (a0:Str) (r:Bool) (hr:jQa a0=some r):Run Tryz.prog 118 [.s a0] (.bo r):=by
 unfold jQa at hr
 refine rf (fn:=Tryz.f118) ⟨Tryz.func118,rfl,by kernel_rfl⟩ rfl (fun _=> rfl) fun g0 hg=> ?_
 refine rn tk 5 rfl ?_
 refine jb hr (fun j1=> [(2, .bo j1)]) (fun j1=> []) (fun j1 hr=> ?_) (fun j1 hr=> ?_)
 ·
  refine rn tk 2 rfl ?_
  obtain ⟨v2,h3,hr⟩:=zaa hr
  refine cl (zib _ _ h3) rfl rfl ?_
  refine rn tk 2 rfl ?_
  refine bs 6 hr rfl (fun c4 hr=> ?_) (fun c4 hr=> ?_)
  ·
   refine rn tk 3 rfl ?_
   refine bs 9 hr rfl (fun c5 hr=> ?_) (fun c5 hr=> ?_)
   ·
    refine rn tk 17 rfl ?_
    cases hr
    exact jn _ rfl rfl rfl
   ·
    refine rn tk 1 rfl ?_
    obtain ⟨v6,h7,hr⟩:=zaa hr
    refine ug rfl rfl rfl ?_
    refine ws tk h7 rfl rfl rfl rfl ?_
    obtain ⟨v8,h9,hr⟩:=zaa hr
    refine ug rfl rfl rfl ?_
    refine cl (wGa _ _ h9) rfl rfl ?_
    refine rn tk 2 rfl ?_
    refine bs 14 hr rfl (fun c10 hr=> ?_) (fun c10 hr=> ?_)
    ·
     refine rn tk 4 rfl ?_
     obtain ⟨v11,h12,hr⟩:=zaa hr
     refine ug rfl rfl rfl ?_
     refine ws tk h12 rfl rfl rfl rfl ?_
     obtain ⟨v13,h14,hr⟩:=zaa hr
     refine ug rfl rfl rfl ?_
     refine cl (wGa _ _ h14) rfl rfl ?_
     refine rn tk 6 rfl ?_
     cases hr
     exact jn _ rfl rfl rfl
    ·
     refine rn tk 12 rfl ?_
     cases hr
     exact jn _ rfl rfl rfl
  ·
   refine rn tk 20 rfl ?_
   cases hr
   exact jn _ rfl rfl rfl
 ·
  refine rn tk 1 rfl ?_
  cases hr
  exact kr tk (.inr rfl) rfl rfl
theorem Vaa (a0:Str) (a1:Str) (r:(List Str) × zza) (hr:jSa a0 a1=some r):Run Tryz.prog 99 [.s a0, .s a1] (.tup [.l cS r.1, .agg [.i r.2.Code, .i r.2.Index]]):=by
 unfold jSa at hr
 refine rf (fn:=Tryz.f99) ⟨Tryz.func99,rfl,by kernel_rfl⟩ rfl (fun _=> rfl) fun g0 hg=> ?_
 refine rn tk 11 rfl ?_
 obtain ⟨v1,h2,hr⟩:=zaa hr
 refine cl (zhb _ _ h2) rfl rfl ?_
 refine rn tk 4 rfl ?_
 refine ac 12 hr rfl (fun c3 hr=> ?_) (fun c3 hr=> ?_)
 ·
  refine rn tk 2 rfl ?_
  obtain ⟨v4,h5,hr⟩:=zaa hr
  refine cl (zoa _ _ _ h5) rfl rfl ?_
  refine rn tk 7 rfl ?_
  cases hr
  exact kr tk (.inr rfl) rfl rfl
 ·
  refine rn tk 8 rfl ?_
  refine ac 17 hr rfl (fun c6 hr=> ?_) (fun c6 hr=> ?_)
  ·
   refine rn tk 2 rfl ?_
   obtain ⟨v7,h8,hr⟩:=zaa hr
   refine cl (zoa _ _ _ h8) rfl rfl ?_
   refine rn tk 7 rfl ?_
   cases hr
   exact kr tk (.inr rfl) rfl rfl
  ·
   refine rn tk 3 rfl ?_
   obtain ⟨v9,h10,hr⟩:=zaa hr
   refine cl (YSa _ _ h10) rfl rfl ?_
   refine rn tk 4 rfl ?_
   refine ac 22 hr rfl (fun c11 hr=> ?_) (fun c11 hr=> ?_)
   ·
    refine rn tk 2 rfl ?_
    obtain ⟨v12,h13,hr⟩:=zaa hr
    refine cl (zoa _ _ _ h13) rfl rfl ?_
    refine rn tk 7 rfl ?_
    cases hr
    exact kr tk (.inr rfl) rfl rfl
   ·
    refine rn tk 6 rfl ?_
    obtain ⟨v14,h15,hr⟩:=zaa hr
    refine wc h15 rfl rfl rfl ?_
    refine rn tk 1 rfl ?_
    obtain ⟨v16,h17,hr⟩:=zaa hr
    refine wc h17 rfl rfl rfl ?_
    refine rn tk 10 rfl ?_
    refine ksa 1008 (d:=8) 9 1 rfl rfl rfl (hO ?_)
    refine rn tk 4 rfl ?_
    refine al1 hr (fun s18=> [(5, .ptr 5 0),(6, .s s18.1),(7, .i s18.2.1),(8, .hs 1008 0)]) (fun s18=> [(1008, .row 9 false 1 (List.map cS s18.2.2)),(5, .cells [.i 0, .i 0])]) (.exit 1) (fun b19=> [(5, .ptr 5 0),(6, .s b19.1),(8, .hs 1008 0)]) (fun b19=> [(1008, .row 9 false 1 (List.map cS b19.2)),(5, .cells [.i 0, .i 0])]) rfl rfl (fun s18 x20 hr=> ?_) (fun b19 hr=> ?_)
    ·
     unfold w2a at hr
     refine rn tk 8 rfl ?_
     refine ac 36 hr rfl (fun c21 hr=> ?_) (fun c21 hr=> ?_)
     ·
      refine rn tk 7 rfl ?_
      obtain ⟨v22,h23,hr⟩:=zaa hr
      refine cl (YRa _ _ _ h23) rfl rfl ?_
      refine rn tk 10 rfl ?_
      refine ac 41 hr rfl (fun c24 hr=> ?_) (fun c24 hr=> ?_)
      ·
       refine rn tk 3 rfl ?_
       cases hr
       exact ato rfl rfl rfl rfl
      ·
       refine rn tk 7 rfl ?_
       obtain ⟨v25,h26,hr⟩:=zaa hr
       refine wscH tk h26 rfl rfl rfl rfl ?_
       refine wz cS ([v25]:List Str) tk rfl rfl (fun _=> rfl) rfl rfl rfl ?_
       obtain ⟨v27,h28,hr⟩:=zaa hr
       refine wa tk h28 rfl rfl rfl rfl (fun _=> rfl) rfl rfl ?_
       refine rn tk 6 rfl ?_
       obtain ⟨v29,h30,hr⟩:=zaa hr
       refine wscL tk h30 rfl rfl rfl rfl ?_
       refine rn tk 4 rfl ?_
       cases hr
       exact atc rfl rfl
     ·
      refine rn tk 2 rfl ?_
      cases hr
      exact ato rfl rfl rfl rfl
    ·
     refine rn tk 6 rfl ?_
     refine wz cS ([b19.1]:List Str) tk rfl rfl (fun _=> rfl) rfl rfl rfl ?_
     obtain ⟨v31,h32,hr⟩:=zaa hr
     refine wa tk h32 rfl rfl rfl rfl (fun _=> rfl) rfl rfl ?_
     refine rn tk 7 rfl ?_
     refine wnh tk rfl rfl rfl rfl ?_
     refine rn tk 4 rfl ?_
     refine vba (d:=55) (F:=cS) (l:=v31) rfl rfl (hC ?_)
     refine al2 hr (fun s34=> [(5, .ptr 5 0),(8, .hs 1008 0),(55, .l cS v31),(56, .i ((v31.length:Int))),(57, .i s34)]) (fun s34=> [(1008, .row 9 false 1 (List.map cS v31)),(5, .cells [.i 0, .i 0])]) (.exit 3) (fun b35=> [(5, .ptr 5 0),(8, .hs 1008 0)]) (fun b35=> [(1008, .row 9 false 1 (List.map cS v31)),(5, .cells [.i 0, .i 0])]) .ret (fun b36=> [(4, .l cS b36.1),(5, .ptr 5 0)]) (fun b36=> [(5, .cells [.i b36.2.Code, .i b36.2.Index])]) rfl rfl (fun s34 x38 hr=> ?_) (fun b35 hr=> ?_) (fun b36 hr=> ?_)
     ·
      unfold jra at hr
      refine rn tk 6 rfl ?_
      refine ac 58 hr rfl (fun c39 hr=> ?_) (fun c39 hr=> ?_)
      ·
       refine rn tk 7 rfl ?_
       obtain ⟨v40,h41,hr⟩:=zaa hr
       refine wi tk h41 rfl rfl rfl rfl rfl ?_
       refine rn tk 12 rfl ?_
       refine ac 64 hr rfl (fun c42 hr=> ?_) (fun c42 hr=> ?_)
       ·
        refine rn tk 3 rfl ?_
        obtain ⟨v43,h44,hr⟩:=zaa hr
        refine cl (zoa _ _ _ h44) rfl rfl ?_
        refine rn tk 7 rfl ?_
        cases hr
        exact ato rfl rfl rfl rfl
       ·
        refine rn tk 7 rfl ?_
        cases hr
        exact atc rfl rfl
      ·
       refine rn tk 2 rfl ?_
       cases hr
       exact ato rfl rfl rfl rfl
     ·
      refine rn tk 5 rfl ?_
      obtain ⟨v45,h46,hr⟩:=zaa hr
      refine cl (zSa _ h46) rfl rfl ?_
      refine rn tk 4 rfl ?_
      refine vba (d:=4) (F:=cS) (l:=v31) rfl rfl (hC ?_)
      refine rn tk 1 rfl ?_
      cases hr
      exact kr tk (.inr rfl) rfl rfl
     ·
      refine rn tk 2 rfl ?_
      cases hr
      exact kr tk (.inr rfl) rfl rfl
theorem Qsa (a0:List zga) (r:zza) (hr:vja a0=some r):Run Tryz.prog 97 [.l zga.pc a0] (.agg [.i r.Code, .i r.Index]):=by
 unfold vja at hr
 refine rf (fn:=Tryz.f97) ⟨Tryz.func97,rfl,by kernel_rfl⟩ rfl (fun _=> rfl) fun g0 hg=> ?_
 refine rn tk 9 rfl ?_
 refine wn tk rfl rfl rfl ?_
 refine rn tk 3 rfl ?_
 refine ac 9 hr rfl (fun c1 hr=> ?_) (fun c1 hr=> ?_)
 ·
  refine rn tk 2 rfl ?_
  obtain ⟨v2,h3,hr⟩:=zaa hr
  refine cl (zoa _ _ _ h3) rfl rfl ?_
  refine rn tk 5 rfl ?_
  cases hr
  exact kr tk (.inr rfl) rfl rfl
 ·
  refine rn tk 6 rfl ?_
  refine wn tk rfl rfl rfl ?_
  refine rn tk 4 rfl ?_
  refine al2 hr (fun s4=> [(2, .ptr 2 0),(11, .l zga.pc a0),(12, .i ((a0.length:Int))),(13, .i s4)]) (fun s4=> [(2, .cells [.i 0, .i 0])]) (.exit 0) (fun b5=> [(2, .ptr 2 0)]) (fun b5=> [(2, .cells [.i 0, .i 0])]) .ret (fun b6=> [(2, .ptr 2 0)]) (fun b6=> [(2, .cells [.i b6.Code, .i b6.Index])]) rfl rfl (fun s4 x8 hr=> ?_) (fun b5 hr=> ?_) (fun b6 hr=> ?_)
  ·
   unfold q3a at hr
   refine rn tk 6 rfl ?_
   refine ac 14 hr rfl (fun c9 hr=> ?_) (fun c9 hr=> ?_)
   ·
    refine rn tk 7 rfl ?_
    obtain ⟨v10,h11,hr⟩:=zaa hr
    refine wi tk h11 rfl rfl rfl rfl rfl ?_
    refine rn tk 12 rfl ?_
    obtain ⟨v12,h13,hr⟩:=zaa hr
    refine cl (Vaa _ _ _ h13) rfl rfl ?_
    refine rn tk 11 rfl ?_
    obtain ⟨v14,h15,hr⟩:=zaa hr
    refine cl (z2a _ _ h15) rfl rfl ?_
    refine rn tk 2 rfl ?_
    refine ac 27 hr rfl (fun c16 hr=> ?_) (fun c16 hr=> ?_)
    ·
     refine rn tk 5 rfl ?_
     obtain ⟨v17,h18,hr⟩:=zaa hr
     refine cl (zoa _ _ _ h18) rfl rfl ?_
     refine rn tk 6 rfl ?_
     cases hr
     exact ato rfl rfl rfl rfl
    ·
     refine rn tk 7 rfl ?_
     cases hr
     exact atc rfl rfl
   ·
    refine rn tk 2 rfl ?_
    cases hr
    exact ato rfl rfl rfl rfl
  ·
   refine rn tk 4 rfl ?_
   obtain ⟨v19,h20,hr⟩:=zaa hr
   refine cl (zSa _ h20) rfl rfl ?_
   refine rn tk 4 rfl ?_
   cases hr
   exact kr tk (.inr rfl) rfl rfl
  ·
   refine rn tk 2 rfl ?_
   cases hr
   exact kr tk (.inr rfl) rfl rfl
theorem YTa (a0:List UInt8) (r:Int) (hr:jTa a0=some r):Run Tryz.prog 116 [.l cU a0] (.i r):=by
 unfold jTa at hr
 refine rf (fn:=Tryz.f116) ⟨Tryz.func116,rfl,by kernel_rfl⟩ rfl (fun _=> rfl) fun g0 hg=> ?_
 refine rn tk 17 rfl ?_
 refine al2 hr (fun s1=> [(0, .l cU a0),(3, .i s1.1),(4, .i s1.2)]) (fun s1=> []) (.exit 0) (fun b2=> []) (fun b2=> []) .ret (fun b3=> [(2, .i b3)]) (fun b3=> []) rfl rfl (fun s1 x5 hr=> ?_) (fun b2 hr=> ?_) (fun b3 hr=> ?_)
 ·
  unfold vwa at hr
  refine rn tk 5 rfl ?_
  refine wn tk rfl rfl rfl ?_
  refine rn tk 3 rfl ?_
  refine ac 9 hr rfl (fun c6 hr=> ?_) (fun c6 hr=> ?_)
  ·
   refine rn tk 2 rfl ?_
   refine jk (fun j7=> [(0, .l cU a0),(3, .i j7.1),(4, .i j7.2)]) (fun j7=> []) (fun j7=> wwa j7=some x5) ?_ ?_
   ·
    refine rn tk 5 rfl ?_
    obtain ⟨v8,h9,hr⟩:=zaa hr
    refine wi tk h9 rfl rfl rfl rfl rfl ?_
    refine rn tk 5 rfl ?_
    refine jb hr (fun j10=> [(0, .l cU a0),(3, .i s1.1),(4, .i s1.2),(5, .u8 v8),(32, .bo j10)]) (fun j10=> []) (fun j10 hr=> ?_) (fun j10 hr=> ?_)
    ·
     refine rn tk 4 rfl ?_
     refine bs 18 hr rfl (fun c11 hr=> ?_) (fun c11 hr=> ?_)
     ·
      refine rn tk 3 rfl ?_
      refine ug rfl rfl rfl ?_
      refine wn tk rfl rfl rfl ?_
      refine rn tk 3 rfl ?_
      refine bs 25 hr rfl (fun c12 hr=> ?_) (fun c12 hr=> ?_)
      ·
       refine rn tk 3 rfl ?_
       obtain ⟨v13,h14,hr⟩:=zaa hr
       refine ug rfl rfl rfl ?_
       refine wi tk h14 rfl rfl rfl rfl rfl ?_
       refine rn tk 4 rfl ?_
       cases hr
       exact jn _ rfl rfl rfl
      ·
       refine rn tk 8 rfl ?_
       cases hr
       exact jn _ rfl rfl rfl
     ·
      refine rn tk 15 rfl ?_
      cases hr
      exact jn _ rfl rfl rfl
    ·
     refine ac 32 hr rfl (fun c15 hr=> ?_) (fun c15 hr=> ?_)
     ·
      refine rn tk 15 rfl ?_
      exact jn ((0,(w64 (s1.2+1)))) hr rfl rfl
     ·
      refine rn tk 3 rfl ?_
      refine jb hr (fun j16=> [(0, .l cU a0),(3, .i s1.1),(4, .i s1.2),(40, .bo j16)]) (fun j16=> []) (fun j16 hr=> ?_) (fun j16 hr=> ?_)
      ·
       refine rn tk 4 rfl ?_
       refine bs 37 hr rfl (fun c17 hr=> ?_) (fun c17 hr=> ?_)
       ·
        refine rn tk 4 rfl ?_
        cases hr
        exact jn _ rfl rfl rfl
       ·
        refine rn tk 4 rfl ?_
        cases hr
        exact jn _ rfl rfl rfl
      ·
       refine ac 40 hr rfl (fun c18 hr=> ?_) (fun c18 hr=> ?_)
       ·
        refine rn tk 9 rfl ?_
        cases hr
        exact ato rfl rfl rfl rfl
       ·
        refine rn tk 15 rfl ?_
        refine ac 44 hr rfl (fun c19 hr=> ?_) (fun c19 hr=> ?_)
        ·
         refine rn tk 8 rfl ?_
         cases hr
         exact ato rfl rfl rfl rfl
        ·
         refine rn tk 2 rfl ?_
         exact jn (((w64 (s1.1+1)),s1.2)) hr rfl rfl
   ·
    intro j7 hr
    unfold wwa at hr
    refine rn tk 5 rfl ?_
    cases hr
    exact atc rfl rfl
  ·
   refine rn tk 2 rfl ?_
   cases hr
   exact ato rfl rfl rfl rfl
 ·
  refine rn tk 8 rfl ?_
  cases hr
  exact kr tk (.inr rfl) rfl rfl
 ·
  refine rn tk 2 rfl ?_
  cases hr
  exact kr tk (.inr rfl) rfl rfl
theorem Wka (a0:List UInt8) (r:zza) (hr:w3a a0=some r):Run Tryz.prog 98 [.l cU a0] (.agg [.i r.Code, .i r.Index]):=by
 unfold w3a at hr
 refine rf (fn:=Tryz.f98) ⟨Tryz.func98,rfl,by kernel_rfl⟩ rfl (fun _=> rfl) fun g0 hg=> ?_
 refine rn tk 9 rfl ?_
 obtain ⟨v1,h2,hr⟩:=zaa hr
 refine cl (YTa _ _ h2) rfl rfl ?_
 refine rn tk 9 rfl ?_
 refine ac 5 hr rfl (fun c3 hr=> ?_) (fun c3 hr=> ?_)
 ·
  refine rn tk 2 rfl ?_
  obtain ⟨v4,h5,hr⟩:=zaa hr
  refine cl (zoa _ _ _ h5) rfl rfl ?_
  refine rn tk 6 rfl ?_
  cases hr
  exact kr tk (.inr rfl) rfl rfl
 ·
  refine rn tk 6 rfl ?_
  refine ac 8 hr rfl (fun c6 hr=> ?_) (fun c6 hr=> ?_)
  ·
   refine rn tk 2 rfl ?_
   obtain ⟨v7,h8,hr⟩:=zaa hr
   refine cl (zoa _ _ _ h8) rfl rfl ?_
   refine rn tk 6 rfl ?_
   cases hr
   exact kr tk (.inr rfl) rfl rfl
  ·
   refine rn tk 5 rfl ?_
   obtain ⟨v9,h10,hr⟩:=zaa hr
   refine cl (zSa _ h10) rfl rfl ?_
   refine rn tk 4 rfl ?_
   cases hr
   exact kr tk (.inr rfl) rfl rfl
theorem j3a (a0:zxa) (r:List UInt8) (hr:vva a0=some r):Run Tryz.prog 79 [.agg [.l zga.pc a0.Fields, .l cU a0.Body]] (.l cU r):=by
 unfold vva at hr
 refine rf (fn:=Tryz.f79) ⟨Tryz.func79,rfl,by kernel_rfl⟩ rfl (fun _=> rfl) fun g0 hg=> ?_
 refine rn tk 9 rfl ?_
 refine ksa 1003 (d:=3) 5 1 rfl rfl rfl (hO ?_)
 refine rn tk 7 rfl ?_
 refine wn tk rfl rfl rfl ?_
 refine rn tk 4 rfl ?_
 refine al1 hr (fun s1=> [(1, .ptr 1 0),(3, .hs 1003 0),(11, .l zga.pc a0.Fields),(12, .i ((a0.Fields.length:Int))),(13, .i s1.1)]) (fun s1=> [(1003, .row 5 false 1 (List.map cU s1.2)),(1, .cells [.l zga.pc a0.Fields, .l cU a0.Body])]) (.exit 0) (fun b2=> [(1, .ptr 1 0),(3, .hs 1003 0)]) (fun b2=> [(1003, .row 5 false 1 (List.map cU b2)),(1, .cells [.l zga.pc a0.Fields, .l cU a0.Body])]) rfl rfl (fun s1 x3 hr=> ?_) (fun b2 hr=> ?_)
 ·
  unfold qUa at hr
  refine rn tk 6 rfl ?_
  refine ac 14 hr rfl (fun c4 hr=> ?_) (fun c4 hr=> ?_)
  ·
   refine rn tk 6 rfl ?_
   obtain ⟨v5,h6,hr⟩:=zaa hr
   refine wi tk h6 rfl rfl rfl rfl rfl ?_
   refine rn tk 11 rfl ?_
   obtain ⟨v7,h8,hr⟩:=zaa hr
   refine cl (Vaa _ _ _ h8) rfl rfl ?_
   refine rn tk 11 rfl ?_
   refine wn tk rfl rfl rfl ?_
   refine rn tk 4 rfl ?_
   refine al1 hr (fun s9=> [(1, .ptr 1 0),(3, .hs 1003 0),(11, .l zga.pc a0.Fields),(12, .i ((a0.Fields.length:Int))),(13, .i s1.1),(25, .l cS v7.1),(26, .i ((v7.1.length:Int))),(27, .i s9.1)]) (fun s9=> [(1003, .row 5 false 1 (List.map cU s9.2)),(1, .cells [.l zga.pc a0.Fields, .l cU a0.Body])]) (.exit 2) (fun b10=> [(1, .ptr 1 0),(3, .hs 1003 0),(11, .l zga.pc a0.Fields),(12, .i ((a0.Fields.length:Int))),(13, .i s1.1)]) (fun b10=> [(1003, .row 5 false 1 (List.map cU b10)),(1, .cells [.l zga.pc a0.Fields, .l cU a0.Body])]) rfl rfl (fun s9 x11 hr=> ?_) (fun b10 hr=> ?_)
   ·
    unfold qTa at hr
    refine rn tk 6 rfl ?_
    refine ac 28 hr rfl (fun c12 hr=> ?_) (fun c12 hr=> ?_)
    ·
     refine rn tk 6 rfl ?_
     obtain ⟨v13,h14,hr⟩:=zaa hr
     refine wi tk h14 rfl rfl rfl rfl rfl ?_
     refine rn tk 7 rfl ?_
     obtain ⟨v15,h16,hr⟩:=zaa hr
     refine wo (vaa (k:=33) (l:=s9.2) (s:=v13) (lim:=140737488355328) rfl rfl rfl rfl zka zDa.u zua rfl h16) rfl ?_
     refine wz cU ([(13:UInt8),(10:UInt8)]:List UInt8) tk rfl rfl (fun _=> rfl) rfl rfl rfl ?_
     obtain ⟨v17,h18,hr⟩:=zaa hr
     refine wa tk h18 rfl rfl rfl rfl (fun _=> rfl) rfl rfl ?_
     refine rn tk 8 rfl ?_
     cases hr
     exact atc rfl rfl
    ·
     refine rn tk 2 rfl ?_
     cases hr
     exact ato rfl rfl rfl rfl
   ·
    refine rn tk 7 rfl ?_
    cases hr
    exact atc rfl rfl
  ·
   refine rn tk 2 rfl ?_
   cases hr
   exact ato rfl rfl rfl rfl
 ·
  refine rn tk 3 rfl ?_
  obtain ⟨v19,h20,hr⟩:=zaa hr
  obtain ⟨v21,h22,hr⟩:=zaa hr
  refine kFb [([false,false,false,false,false,false,false], [(1, .ptr 1 0),(3, .hs 1003 0)], [(1003, .row 5 false 1 (List.map cU b2)),(1, .cells [.l zga.pc a0.Fields, .l cU a0.Body])]),([true,false,false,false,false,false,false], [(1, .ptr 1 0),(3, .hs 1003 0),(38, .hs 1003 0)], [(1003, .row 5 false 1 (List.map cU b2)),(1, .cells [.l zga.pc a0.Fields, .l cU a0.Body])]),([false,true,false,false,false,false,false], [(1, .ptr 1 0),(3, .hs 1003 0),(39, .l cU (([(13:UInt8),(10:UInt8)]:List UInt8)))], [(1003, .row 5 false 1 (List.map cU b2)),(1, .cells [.l zga.pc a0.Fields, .l cU a0.Body])]),([false,false,false,true,false,false,false], [(1, .ptr 1 0),(3, .hs 1003 0),(41, .ptr 1 1)], [(1003, .row 5 false 1 (List.map cU b2)),(1, .cells [.l zga.pc a0.Fields, .l cU a0.Body])]),([true,true,false,false,false,false,false], [(1, .ptr 1 0),(3, .hs 1003 0),(38, .hs 1003 0),(39, .l cU (([(13:UInt8),(10:UInt8)]:List UInt8)))], [(1003, .row 5 false 1 (List.map cU b2)),(1, .cells [.l zga.pc a0.Fields, .l cU a0.Body])]),([true,false,false,true,false,false,false], [(1, .ptr 1 0),(3, .hs 1003 0),(38, .hs 1003 0),(41, .ptr 1 1)], [(1003, .row 5 false 1 (List.map cU b2)),(1, .cells [.l zga.pc a0.Fields, .l cU a0.Body])]),([false,true,false,true,false,false,false], [(1, .ptr 1 0),(3, .hs 1003 0),(39, .l cU (([(13:UInt8),(10:UInt8)]:List UInt8))),(41, .ptr 1 1)], [(1003, .row 5 false 1 (List.map cU b2)),(1, .cells [.l zga.pc a0.Fields, .l cU a0.Body])]),([false,false,false,true,true,false,false], [(1, .ptr 1 0),(3, .hs 1003 0),(41, .ptr 1 1),(42, .l cU a0.Body)], [(1003, .row 5 false 1 (List.map cU b2)),(1, .cells [.l zga.pc a0.Fields, .l cU a0.Body])]),([true,true,true,false,false,false,false], [(1, .ptr 1 0),(39, .l cU (([(13:UInt8),(10:UInt8)]:List UInt8))),(40, .hs 1003 0)], [(1003, .row 5 false 1 (List.map cU v19)),(1, .cells [.l zga.pc a0.Fields, .l cU a0.Body])]),([true,true,false,true,false,false,false], [(1, .ptr 1 0),(3, .hs 1003 0),(38, .hs 1003 0),(39, .l cU (([(13:UInt8),(10:UInt8)]:List UInt8))),(41, .ptr 1 1)], [(1003, .row 5 false 1 (List.map cU b2)),(1, .cells [.l zga.pc a0.Fields, .l cU a0.Body])]),([true,false,false,true,true,false,false], [(1, .ptr 1 0),(3, .hs 1003 0),(38, .hs 1003 0),(41, .ptr 1 1),(42, .l cU a0.Body)], [(1003, .row 5 false 1 (List.map cU b2)),(1, .cells [.l zga.pc a0.Fields, .l cU a0.Body])]),([false,true,false,true,true,false,false], [(1, .ptr 1 0),(3, .hs 1003 0),(39, .l cU (([(13:UInt8),(10:UInt8)]:List UInt8))),(41, .ptr 1 1),(42, .l cU a0.Body)], [(1003, .row 5 false 1 (List.map cU b2)),(1, .cells [.l zga.pc a0.Fields, .l cU a0.Body])]),([true,true,true,true,false,false,false], [(1, .ptr 1 0),(39, .l cU (([(13:UInt8),(10:UInt8)]:List UInt8))),(40, .hs 1003 0),(41, .ptr 1 1)], [(1003, .row 5 false 1 (List.map cU v19)),(1, .cells [.l zga.pc a0.Fields, .l cU a0.Body])]),([true,true,false,true,true,false,false], [(1, .ptr 1 0),(3, .hs 1003 0),(38, .hs 1003 0),(39, .l cU (([(13:UInt8),(10:UInt8)]:List UInt8))),(41, .ptr 1 1),(42, .l cU a0.Body)], [(1003, .row 5 false 1 (List.map cU b2)),(1, .cells [.l zga.pc a0.Fields, .l cU a0.Body])]),([true,true,true,true,true,false,false], [(1, .ptr 1 0),(39, .l cU (([(13:UInt8),(10:UInt8)]:List UInt8))),(40, .hs 1003 0),(41, .ptr 1 1),(42, .l cU a0.Body)], [(1003, .row 5 false 1 (List.map cU v19)),(1, .cells [.l zga.pc a0.Fields, .l cU a0.Body])]),([true,true,true,true,true,true,false], [(1, .ptr 1 0),(39, .l cU (([(13:UInt8),(10:UInt8)]:List UInt8))),(41, .ptr 1 1),(42, .l cU a0.Body),(43, .hs 1003 0)], [(1003, .row 5 false 1 (List.map cU v21)),(1, .cells [.l zga.pc a0.Fields, .l cU a0.Body])]),([true,true,true,true,true,true,true], [(1, .ptr 1 0),(2, .hs 1003 0),(39, .l cU (([(13:UInt8),(10:UInt8)]:List UInt8))),(41, .ptr 1 1),(42, .l cU a0.Body),(43, .hs 1003 0)], [(1003, .row 5 false 1 (List.map cU v21)),(1, .cells [.l zga.pc a0.Fields, .l cU a0.Body])])] mixed (by kernel_rfl) rfl rfl (zda rfl (zda rfl zva)) (zba rfl (zba rfl zha)) (.cons (.step [0,1,3] (by kernel_rfl) rfl (.cons (.yes 1 rfl (zra rfl) (zja (d:=38) rfl rfl zqa) rfl (zda rfl (zda rfl (zda rfl zva))) (zba rfl (zba rfl zha))) (.cons (.yes 2 rfl (zra rfl) (jma (d:=39) rfl rfl (vEa (F:=cU) (l:=([(13:UInt8),(10:UInt8)]:List UInt8)) zka zua rfl (fun _=> rfl) rfl rfl)) rfl (zda rfl (zda rfl (zda rfl zva))) (zba rfl (zba rfl zha))) (.cons (.yes 3 rfl (zra rfl) (zja (d:=41) rfl rfl (wba rfl qna.u rfl zka rfl)) rfl (zda rfl (zda rfl (zda rfl zva))) (zba rfl (zba rfl zha))) .nil)))) (.cons (.step [1,3] (by kernel_rfl) rfl (.cons (.yes 4 rfl (zra rfl) (jma (d:=39) rfl rfl (vEa (F:=cU) (l:=([(13:UInt8),(10:UInt8)]:List UInt8)) zka zua rfl (fun _=> rfl) rfl rfl)) rfl (zda rfl (zda rfl (zda rfl (zda rfl zva)))) (zba rfl (zba rfl zha))) (.cons (.yes 5 rfl (zra rfl) (zja (d:=41) rfl rfl (wba rfl qna.u rfl zka rfl)) rfl (zda rfl (zda rfl (zda rfl (zda rfl zva)))) (zba rfl (zba rfl zha))) .nil))) (.cons (.step [0,3] (by kernel_rfl) rfl (.cons (.yes 4 rfl (zra rfl) (zja (d:=38) rfl rfl zqa) rfl (zda rfl (zda rfl (zda rfl (zda rfl zva)))) (zba rfl (zba rfl zha))) (.cons (.yes 6 rfl (zra rfl) (zja (d:=41) rfl rfl (wba rfl qna.u rfl zka rfl)) rfl (zda rfl (zda rfl (zda rfl (zda rfl zva)))) (zba rfl (zba rfl zha))) .nil))) (.cons (.step [0,1,4] (by kernel_rfl) rfl (.cons (.yes 5 rfl (zra rfl) (zja (d:=38) rfl rfl zqa) rfl (zda rfl (zda rfl (zda rfl (zda rfl zva)))) (zba rfl (zba rfl zha))) (.cons (.yes 6 rfl (zra rfl) (jma (d:=39) rfl rfl (vEa (F:=cU) (l:=([(13:UInt8),(10:UInt8)]:List UInt8)) zka zua rfl (fun _=> rfl) rfl rfl)) rfl (zda rfl (zda rfl (zda rfl (zda rfl zva)))) (zba rfl (zba rfl zha))) (.cons (.yes 7 rfl (zra rfl) (zja (d:=42) rfl rfl (yDa rfl rfl zka rfl rfl)) rfl (zda rfl (zda rfl (zda rfl (zda rfl zva)))) (zba rfl (zba rfl zha))) .nil)))) (.cons (.step [2,3] (by kernel_rfl) rfl (.cons (.yes 8 rfl (zra rfl) (kHa (k:=40) (F:=cU) (l:=b2) (xs:=(([(13:UInt8),(10:UInt8)]:List UInt8))) (lim:=140737488355328) rfl rfl rfl rfl zka zua rfl rfl (fun _=> rfl) rfl h20) rfl (zda rfl (zda rfl (zda rfl zva))) (zba rfl (zba rfl zha))) (.cons (.yes 9 rfl (zra rfl) (zja (d:=41) rfl rfl (wba rfl qna.u rfl zka rfl)) rfl (zda rfl (zda rfl (zda rfl (zda rfl (zda rfl zva))))) (zba rfl (zba rfl zha))) .nil))) (.cons (.step [1,4] (by kernel_rfl) rfl (.cons (.yes 9 rfl (zra rfl) (jma (d:=39) rfl rfl (vEa (F:=cU) (l:=([(13:UInt8),(10:UInt8)]:List UInt8)) zka zua rfl (fun _=> rfl) rfl rfl)) rfl (zda rfl (zda rfl (zda rfl (zda rfl (zda rfl zva))))) (zba rfl (zba rfl zha))) (.cons (.yes 10 rfl (zra rfl) (zja (d:=42) rfl rfl (yDa rfl rfl zka rfl rfl)) rfl (zda rfl (zda rfl (zda rfl (zda rfl (zda rfl zva))))) (zba rfl (zba rfl zha))) .nil))) (.cons (.step [0,4] (by kernel_rfl) rfl (.cons (.yes 9 rfl (zra rfl) (zja (d:=38) rfl rfl zqa) rfl (zda rfl (zda rfl (zda rfl (zda rfl (zda rfl zva))))) (zba rfl (zba rfl zha))) (.cons (.yes 11 rfl (zra rfl) (zja (d:=42) rfl rfl (yDa rfl rfl zka rfl rfl)) rfl (zda rfl (zda rfl (zda rfl (zda rfl (zda rfl zva))))) (zba rfl (zba rfl zha))) .nil))) (.cons (.step [0,1] (by kernel_rfl) rfl (.cons (.yes 10 rfl (zra rfl) (zja (d:=38) rfl rfl zqa) rfl (zda rfl (zda rfl (zda rfl (zda rfl (zda rfl zva))))) (zba rfl (zba rfl zha))) (.cons (.yes 11 rfl (zra rfl) (jma (d:=39) rfl rfl (vEa (F:=cU) (l:=([(13:UInt8),(10:UInt8)]:List UInt8)) zka zua rfl (fun _=> rfl) rfl rfl)) rfl (zda rfl (zda rfl (zda rfl (zda rfl (zda rfl zva))))) (zba rfl (zba rfl zha))) .nil))) (.cons (.step [3] (by kernel_rfl) rfl (.cons (.yes 12 rfl (zra rfl) (zja (d:=41) rfl rfl (wba rfl qna.u rfl zka rfl)) rfl (zda rfl (zda rfl (zda rfl (zda rfl zva)))) (zba rfl (zba rfl zha))) .nil)) (.cons (.step [2,4] (by kernel_rfl) rfl (.cons (.yes 12 rfl (zra rfl) (kHa (k:=40) (F:=cU) (l:=b2) (xs:=(([(13:UInt8),(10:UInt8)]:List UInt8))) (lim:=140737488355328) rfl rfl rfl rfl zka zua rfl rfl (fun _=> rfl) rfl h20) rfl (zda rfl (zda rfl (zda rfl (zda rfl zva)))) (zba rfl (zba rfl zha))) (.cons (.yes 13 rfl (zra rfl) (zja (d:=42) rfl rfl (yDa rfl rfl zka rfl rfl)) rfl (zda rfl (zda rfl (zda rfl (zda rfl (zda rfl (zda rfl zva)))))) (zba rfl (zba rfl zha))) .nil))) (.cons (.step [1] (by kernel_rfl) rfl (.cons (.yes 13 rfl (zra rfl) (jma (d:=39) rfl rfl (vEa (F:=cU) (l:=([(13:UInt8),(10:UInt8)]:List UInt8)) zka zua rfl (fun _=> rfl) rfl rfl)) rfl (zda rfl (zda rfl (zda rfl (zda rfl (zda rfl (zda rfl zva)))))) (zba rfl (zba rfl zha))) .nil)) (.cons (.step [0] (by kernel_rfl) rfl (.cons (.yes 13 rfl (zra rfl) (zja (d:=38) rfl rfl zqa) rfl (zda rfl (zda rfl (zda rfl (zda rfl (zda rfl (zda rfl zva)))))) (zba rfl (zba rfl zha))) .nil)) (.cons (.step [4] (by kernel_rfl) rfl (.cons (.yes 14 rfl (zra rfl) (zja (d:=42) rfl rfl (yDa rfl rfl zka rfl rfl)) rfl (zda rfl (zda rfl (zda rfl (zda rfl (zda rfl zva))))) (zba rfl (zba rfl zha))) .nil)) (.cons (.step [2] (by kernel_rfl) rfl (.cons (.yes 14 rfl (zra rfl) (kHa (k:=40) (F:=cU) (l:=b2) (xs:=(([(13:UInt8),(10:UInt8)]:List UInt8))) (lim:=140737488355328) rfl rfl rfl rfl zka zua rfl rfl (fun _=> rfl) rfl h20) rfl (zda rfl (zda rfl (zda rfl (zda rfl (zda rfl zva))))) (zba rfl (zba rfl zha))) .nil)) (.cons (.step [5] (by kernel_rfl) rfl (.cons (.yes 15 rfl (zra rfl) (kHa (k:=43) (F:=cU) (l:=v19) (xs:=a0.Body) (lim:=140737488355328) rfl rfl rfl rfl zka zua rfl rfl (fun _=> rfl) rfl h22) rfl (zda rfl (zda rfl (zda rfl (zda rfl (zda rfl zva))))) (zba rfl (zba rfl zha))) .nil)) (.cons (.step [6] (by kernel_rfl) rfl (.cons (.yes 16 rfl (zra rfl) (zja (d:=2) rfl rfl zBa) rfl (zda rfl (zda rfl (zda rfl (zda rfl (zda rfl (zda rfl zva)))))) (zba rfl (zba rfl zha))) .nil)) (.cons (.full (by kernel_rfl) (hA ?_)) .nil)))))))))))))))))
  refine rn tk 1 rfl ?_
  refine vba (d:=2) (F:=cU) (l:=v21) rfl rfl (hC ?_)
  refine rn tk 1 rfl ?_
  cases hr
  exact kr tk (.inr rfl) rfl rfl
theorem yoa (a0:zxa) (r:zza) (hr:qfa a0=some r):Run Tryz.prog 73 [.agg [.l zga.pc a0.Fields, .l cU a0.Body]] (.agg [.i r.Code, .i r.Index]):=by
 unfold qfa at hr
 refine rf (fn:=Tryz.f73) ⟨Tryz.func73,rfl,by kernel_rfl⟩ rfl (fun _=> rfl) fun g0 hg=> ?_
 refine rn tk 11 rfl ?_
 obtain ⟨v1,h2,hr⟩:=zaa hr
 refine cl (Qsa _ _ h2) rfl rfl ?_
 refine rn tk 7 rfl ?_
 obtain ⟨v3,h4,hr⟩:=zaa hr
 refine cl (z2a _ _ h4) rfl rfl ?_
 refine rn tk 2 rfl ?_
 refine ac 8 hr rfl (fun c5 hr=> ?_) (fun c5 hr=> ?_)
 ·
  refine rn tk 8 rfl ?_
  cases hr
  exact kr tk (.inr rfl) rfl rfl
 ·
  refine rn tk 6 rfl ?_
  obtain ⟨v6,h7,hr⟩:=zaa hr
  refine cl (j3a _ _ h7) rfl rfl ?_
  refine wn tk rfl rfl rfl ?_
  refine rn tk 3 rfl ?_
  refine ac 13 hr rfl (fun c8 hr=> ?_) (fun c8 hr=> ?_)
  ·
   refine rn tk 2 rfl ?_
   obtain ⟨v9,h10,hr⟩:=zaa hr
   refine cl (zoa _ _ _ h10) rfl rfl ?_
   refine rn tk 5 rfl ?_
   cases hr
   exact kr tk (.inr rfl) rfl rfl
  ·
   refine rn tk 6 rfl ?_
   obtain ⟨v11,h12,hr⟩:=zaa hr
   refine cl (Wka _ _ h12) rfl rfl ?_
   refine rn tk 4 rfl ?_
   cases hr
   exact kr tk (.inr rfl) rfl rfl
theorem VJa (a0:zxa) (r:(List UInt8) × zza) (hr:wCa a0=some r):Run Tryz.prog 57 [.agg [.l zga.pc a0.Fields, .l cU a0.Body]] (.tup [.l cU r.1, .agg [.i r.2.Code, .i r.2.Index]]):=by
 unfold wCa at hr
 refine rf (fn:=Tryz.f57) ⟨Tryz.func57,rfl,by kernel_rfl⟩ rfl (fun _=> rfl) fun g0 hg=> ?_
 refine rn tk 11 rfl ?_
 obtain ⟨v1,h2,hr⟩:=zaa hr
 refine cl (yoa _ _ h2) rfl rfl ?_
 refine rn tk 7 rfl ?_
 obtain ⟨v3,h4,hr⟩:=zaa hr
 refine cl (z2a _ _ h4) rfl rfl ?_
 refine rn tk 2 rfl ?_
 refine ac 8 hr rfl (fun c5 hr=> ?_) (fun c5 hr=> ?_)
 ·
  refine rn tk 1 rfl ?_
  refine dr 2 [(2, .pv (.sl (some true) [])),(9, .agg [.i v1.Code, .i v1.Index])] mixed (by kernel_rfl) rfl rfl (pq tk rfl (.plain rfl) (pq tk rfl (.plain rfl) .nil)) rfl ?_
  refine rn tk 5 rfl ?_
  cases hr
  exact kr tk (.inr rfl) rfl rfl
 ·
  refine rn tk 5 rfl ?_
  obtain ⟨v6,h7,hr⟩:=zaa hr
  refine cl (j3a _ _ h7) rfl rfl ?_
  obtain ⟨v8,h9,hr⟩:=zaa hr
  refine cl (zSa _ h9) rfl rfl ?_
  refine rn tk 5 rfl ?_
  cases hr
  exact kr tk (.inr rfl) rfl rfl
theorem jya (a0:zxa) (r:(List UInt8) × Bool) (hr:qXa a0=some r):Run Tryz.prog 35 [.agg [.l zga.pc a0.Fields, .l cU a0.Body]] (.tup [.l cU r.1, .bo r.2]):=by
 unfold qXa at hr
 refine rf (fn:=Tryz.f35) ⟨Tryz.func35,rfl,by kernel_rfl⟩ rfl (fun _=> rfl) fun g0 hg=> ?_
 refine rn tk 10 rfl ?_
 obtain ⟨v1,h2,hr⟩:=zaa hr
 refine cl (VJa _ _ h2) rfl rfl ?_
 refine rn tk 12 rfl ?_
 refine vda rfl (jna (F:=cU) (l:=([(13:UInt8),(10:UInt8)]:List UInt8)) zka zua rfl (fun _=> rfl) rfl rfl) zka zua (zra rfl) (zra rfl) rfl (hO ?_)
 obtain ⟨v3,h4,hr⟩:=zaa hr
 refine cl (jba _ _ _ h4) rfl rfl ?_
 refine rn tk 6 rfl ?_
 cases hr
 exact kr tk (.inr rfl) rfl rfl
theorem Yua (a0:zla) (r:Bool) (hr:y1a a0=some r):Run Tryz.prog 54 [.agg [.s a0.Name, .s a0.Mail.Envelope.From, .l zca.pc a0.Mail.Envelope.To, .s a0.Mail.Envelope.Id, .l zga.pc a0.Mail.Message.Fields, .l cU a0.Mail.Message.Body, .bo a0.Pipelined, .l cU a0.Buffer, .i a0.Expected, .bo a0.Whole, .bo a0.Done, .l cI a0.Results]] (.bo r):=by
 unfold y1a at hr
 refine rf (fn:=Tryz.f54) ⟨Tryz.func54,rfl,by kernel_rfl⟩ rfl (fun _=> rfl) fun g0 hg=> ?_
 refine rn tk 12 rfl ?_
 refine wn tk rfl rfl rfl ?_
 refine rn tk 8 rfl ?_
 obtain ⟨v1,h2,hr⟩:=zaa hr
 refine cl (jya _ _ h2) rfl rfl ?_
 refine rn tk 8 rfl ?_
 refine jb hr (fun j3=> [(1, .ptr 1 0),(49, .bo j3)]) (fun j3=> [(1, .cells [.s a0.Name, .s a0.Mail.Envelope.From, .l zca.pc a0.Mail.Envelope.To, .s a0.Mail.Envelope.Id, .l zga.pc a0.Mail.Message.Fields, .l cU a0.Mail.Message.Body, .bo a0.Pipelined, .l cU a0.Buffer, .i a0.Expected, .bo a0.Whole, .bo a0.Done, .l cI a0.Results])]) (fun j3 hr=> ?_) (fun j3 hr=> ?_)
 ·
  refine rn tk 9 rfl ?_
  refine bs 27 hr rfl (fun c4 hr=> ?_) (fun c4 hr=> ?_)
  ·
   refine rn tk 13 rfl ?_
   refine bs 40 hr rfl (fun c5 hr=> ?_) (fun c5 hr=> ?_)
   ·
    refine rn tk 10 rfl ?_
    cases hr
    exact jn _ rfl rfl rfl
   ·
    refine rn tk 2 rfl ?_
    refine bs 42 hr rfl (fun c6 hr=> ?_) (fun c6 hr=> ?_)
    ·
     refine rn tk 8 rfl ?_
     cases hr
     exact jn _ rfl rfl rfl
    ·
     refine rn tk 8 rfl ?_
     cases hr
     exact jn _ rfl rfl rfl
  ·
   refine rn tk 2 rfl ?_
   refine bs 29 hr rfl (fun c7 hr=> ?_) (fun c7 hr=> ?_)
   ·
    refine rn tk 4 rfl ?_
    refine bs 33 hr rfl (fun c8 hr=> ?_) (fun c8 hr=> ?_)
    ·
     refine rn tk 7 rfl ?_
     refine bs 40 hr rfl (fun c9 hr=> ?_) (fun c9 hr=> ?_)
     ·
      refine rn tk 10 rfl ?_
      cases hr
      exact jn _ rfl rfl rfl
     ·
      refine rn tk 2 rfl ?_
      refine kn 42 c7 rfl ?_
      refine rn tk 8 rfl ?_
      cases hr
      exact jn _ rfl rfl rfl
    ·
     refine rn tk 7 rfl ?_
     refine bs 40 hr rfl (fun c10 hr=> ?_) (fun c10 hr=> ?_)
     ·
      refine rn tk 10 rfl ?_
      cases hr
      exact jn _ rfl rfl rfl
     ·
      refine rn tk 2 rfl ?_
      refine kn 42 c7 rfl ?_
      refine rn tk 8 rfl ?_
      cases hr
      exact jn _ rfl rfl rfl
   ·
    refine rn tk 11 rfl ?_
    refine bs 40 hr rfl (fun c11 hr=> ?_) (fun c11 hr=> ?_)
    ·
     refine rn tk 10 rfl ?_
     cases hr
     exact jn _ rfl rfl rfl
    ·
     refine rn tk 2 rfl ?_
     refine kn 42 c7 rfl ?_
     refine rn tk 8 rfl ?_
     cases hr
     exact jn _ rfl rfl rfl
 ·
  refine ac 49 hr rfl (fun c12 hr=> ?_) (fun c12 hr=> ?_)
  ·
   refine rn tk 7 rfl ?_
   cases hr
   exact kr tk (.inr rfl) rfl rfl
  ·
   refine rn tk 7 rfl ?_
   refine wn tk rfl rfl rfl ?_
   refine rn tk 4 rfl ?_
   refine al2 hr (fun s13=> [(1, .ptr 1 0),(51, .l cI a0.Results),(52, .i ((a0.Results.length:Int))),(53, .i s13)]) (fun s13=> [(1, .cells [.s a0.Name, .s a0.Mail.Envelope.From, .l zca.pc a0.Mail.Envelope.To, .s a0.Mail.Envelope.Id, .l zga.pc a0.Mail.Message.Fields, .l cU a0.Mail.Message.Body, .bo a0.Pipelined, .l cU a0.Buffer, .i a0.Expected, .bo a0.Whole, .bo a0.Done, .l cI a0.Results])]) (.exit 0) (fun b14=> []) (fun b14=> []) .ret (fun b15=> [(2, .bo b15)]) (fun b15=> []) rfl rfl (fun s13 x17 hr=> ?_) (fun b14 hr=> ?_) (fun b15 hr=> ?_)
   ·
    unfold vRa at hr
    refine rn tk 6 rfl ?_
    refine ac 54 hr rfl (fun c18 hr=> ?_) (fun c18 hr=> ?_)
    ·
     refine rn tk 7 rfl ?_
     obtain ⟨v19,h20,hr⟩:=zaa hr
     refine wi tk h20 rfl rfl rfl rfl rfl ?_
     refine rn tk 5 rfl ?_
     refine jb hr (fun j21=> [(1, .ptr 1 0),(51, .l cI a0.Results),(52, .i ((a0.Results.length:Int))),(53, .i s13),(66, .bo j21)]) (fun j21=> [(1, .cells [.s a0.Name, .s a0.Mail.Envelope.From, .l zca.pc a0.Mail.Envelope.To, .s a0.Mail.Envelope.Id, .l zga.pc a0.Mail.Message.Fields, .l cU a0.Mail.Message.Body, .bo a0.Pipelined, .l cU a0.Buffer, .i a0.Expected, .bo a0.Whole, .bo a0.Done, .l cI a0.Results])]) (fun j21 hr=> ?_) (fun j21 hr=> ?_)
     ·
      refine rn tk 7 rfl ?_
      refine bs 63 hr rfl (fun c22 hr=> ?_) (fun c22 hr=> ?_)
      ·
       refine rn tk 4 rfl ?_
       cases hr
       exact jn _ rfl rfl rfl
      ·
       refine rn tk 4 rfl ?_
       cases hr
       exact jn _ rfl rfl rfl
     ·
      refine ac 66 hr rfl (fun c23 hr=> ?_) (fun c23 hr=> ?_)
      ·
       refine rn tk 8 rfl ?_
       cases hr
       exact ato rfl rfl rfl rfl
      ·
       refine rn tk 7 rfl ?_
       cases hr
       exact atc rfl rfl
    ·
     refine rn tk 2 rfl ?_
     cases hr
     exact ato rfl rfl rfl rfl
   ·
    refine rn tk 8 rfl ?_
    cases hr
    exact kr tk (.inr rfl) rfl rfl
   ·
    refine rn tk 2 rfl ?_
    cases hr
    exact kr tk (.inr rfl) rfl rfl
theorem Zya (a0:UInt8) (r:Bool) (hr:wda a0=some r):Run Tryz.prog 71 [.u8 a0] (.bo r):=by
 unfold wda at hr
 refine rf (fn:=Tryz.f71) ⟨Tryz.func71,rfl,by kernel_rfl⟩ rfl (fun _=> rfl) fun g0 hg=> ?_
 refine rn tk 5 rfl ?_
 refine jb hr (fun j1=> [(2, .bo j1)]) (fun j1=> []) (fun j1 hr=> ?_) (fun j1 hr=> ?_)
 ·
  refine rn tk 4 rfl ?_
  refine bs 5 hr rfl (fun c2 hr=> ?_) (fun c2 hr=> ?_)
  ·
   refine rn tk 4 rfl ?_
   refine bs 9 hr rfl (fun c3 hr=> ?_) (fun c3 hr=> ?_)
   ·
    refine rn tk 17 rfl ?_
    cases hr
    exact jn _ rfl rfl rfl
   ·
    refine rn tk 3 rfl ?_
    refine bs 12 hr rfl (fun c4 hr=> ?_) (fun c4 hr=> ?_)
    ·
     refine rn tk 5 rfl ?_
     refine bs 17 hr rfl (fun c5 hr=> ?_) (fun c5 hr=> ?_)
     ·
      refine rn tk 9 rfl ?_
      cases hr
      exact jn _ rfl rfl rfl
     ·
      refine rn tk 3 rfl ?_
      refine bs 20 hr rfl (fun c6 hr=> ?_) (fun c6 hr=> ?_)
      ·
       refine rn tk 6 rfl ?_
       cases hr
       exact jn _ rfl rfl rfl
      ·
       refine rn tk 6 rfl ?_
       cases hr
       exact jn _ rfl rfl rfl
    ·
     refine rn tk 8 rfl ?_
     refine bs 20 hr rfl (fun c7 hr=> ?_) (fun c7 hr=> ?_)
     ·
      refine rn tk 6 rfl ?_
      cases hr
      exact jn _ rfl rfl rfl
     ·
      refine rn tk 6 rfl ?_
      cases hr
      exact jn _ rfl rfl rfl
  ·
   refine rn tk 7 rfl ?_
   refine bs 12 hr rfl (fun c8 hr=> ?_) (fun c8 hr=> ?_)
   ·
    refine rn tk 5 rfl ?_
    refine bs 17 hr rfl (fun c9 hr=> ?_) (fun c9 hr=> ?_)
    ·
     refine rn tk 9 rfl ?_
     cases hr
     exact jn _ rfl rfl rfl
    ·
     refine rn tk 3 rfl ?_
     refine bs 20 hr rfl (fun c10 hr=> ?_) (fun c10 hr=> ?_)
     ·
      refine rn tk 6 rfl ?_
      cases hr
      exact jn _ rfl rfl rfl
     ·
      refine rn tk 6 rfl ?_
      cases hr
      exact jn _ rfl rfl rfl
   ·
    refine rn tk 8 rfl ?_
    refine bs 20 hr rfl (fun c11 hr=> ?_) (fun c11 hr=> ?_)
    ·
     refine rn tk 6 rfl ?_
     cases hr
     exact jn _ rfl rfl rfl
    ·
     refine rn tk 6 rfl ?_
     cases hr
     exact jn _ rfl rfl rfl
 ·
  refine rn tk 1 rfl ?_
  cases hr
  exact kr tk (.inr rfl) rfl rfl
theorem jFa (a0:Str) (r:Bool) (hr:wNa a0=some r):Run Tryz.prog 43 [.s a0] (.bo r):=by
 unfold wNa at hr
 refine rf (fn:=Tryz.f43) ⟨Tryz.func43,rfl,by kernel_rfl⟩ rfl (fun _=> rfl) fun g0 hg=> ?_
 refine rn tk 5 rfl ?_
 refine jb hr (fun j1=> [(2, .bo j1)]) (fun j1=> []) (fun j1 hr=> ?_) (fun j1 hr=> ?_)
 ·
  refine rn tk 4 rfl ?_
  refine bs 5 hr rfl (fun c2 hr=> ?_) (fun c2 hr=> ?_)
  ·
   refine rn tk 5 rfl ?_
   refine bs 10 hr rfl (fun c3 hr=> ?_) (fun c3 hr=> ?_)
   ·
    refine rn tk 1 rfl ?_
    refine ug rfl rfl rfl ?_
    refine ct hr (fun j4=> [(10, .bo true),(12, .bo j4)]) (fun j4=> []) (fun j4 hr jump4=> ?_) (fun j4 hr=> ?_)
    ·
     refine il (fn:=Tryz.f69) (args:= [.s a0, .fn (.func 70) [] []]) 400000 499999 [(10, .bo true)] rfl ⟨Tryz.func69,rfl,by kernel_rfl⟩ rfl rfl rfl fun T4 ds4=> ?_
     refine rn tk 14 rfl ?_
     refine al2 hr (fun s5=> [(0, .s a0),(1, .fn (.func 70) [] []),(7, .i ((a0.length:Int))),(8, .i s5)]) (fun s5=> [(499999, .sus g0.w.heap.size ds4),(400010, .hold (.bo true) (T4.getD 10 undef))]) (.exit 0) (fun b6=> []) (fun b6=> [(499999, .sus g0.w.heap.size ds4),(400010, .hold (.bo true) (T4.getD 10 undef))]) .ret (fun b7=> [(4, .bo false)]) (fun b7=> [(499999, .sus g0.w.heap.size ds4),(400010, .hold (.bo true) (T4.getD 10 undef))]) rfl rfl (fun s5 x9 hr=> ?_) (fun b6 hr=> ?_) (fun b7 hr=> ?_)
     ·
      unfold wva at hr
      refine rn tk 6 rfl ?_
      refine ac 9 hr rfl (fun c10 hr=> ?_) (fun c10 hr=> ?_)
      ·
       refine rn tk 15 rfl ?_
       obtain ⟨v11,h12,hr⟩:=zaa hr
       refine ws tk h12 rfl rfl rfl rfl ?_
       refine il (fn:=Tryz.f70) (args:= [.u8 v11]) 600000 699999 [(0, .s a0),(1, .fn (.func 70) [] []),(7, .i ((a0.length:Int))),(8, .i s5)] rfl ⟨Tryz.func70,rfl,by kernel_rfl⟩ rfl rfl rfl fun T6 ds6=> ?_
       refine rn tk 5 rfl ?_
       refine jb hr (fun j13=> [(2, .bo j13)]) (fun j13=> [(699999, .sus g0.w.heap.size ds6),(600000, .hold (.s a0) (T6.getD 0 undef)),(600001, .hold (.fn (.func 70) [] []) (T6.getD 1 undef)),(600007, .hold (.i ((a0.length:Int))) (T6.getD 7 undef)),(600008, .hold (.i s5) (T6.getD 8 undef)),(499999, .sus g0.w.heap.size ds4),(400010, .hold (.bo true) (T4.getD 10 undef))]) (fun j13 hr=> ?_) (fun j13 hr=> ?_)
       ·
        refine rn tk 2 rfl ?_
        obtain ⟨v14,h15,hr⟩:=zaa hr
        refine cl (Zya _ _ h15) rfl rfl ?_
        refine rn tk 1 rfl ?_
        refine bs 5 hr rfl (fun c16 hr=> ?_) (fun c16 hr=> ?_)
        ·
         refine rn tk 13 rfl ?_
         cases hr
         exact jn _ rfl rfl rfl
        ·
         refine rn tk 4 rfl ?_
         refine bs 9 hr rfl (fun c17 hr=> ?_) (fun c17 hr=> ?_)
         ·
          refine rn tk 9 rfl ?_
          cases hr
          exact jn _ rfl rfl rfl
         ·
          refine rn tk 4 rfl ?_
          refine bs 13 hr rfl (fun c18 hr=> ?_) (fun c18 hr=> ?_)
          ·
           refine rn tk 5 rfl ?_
           cases hr
           exact jn _ rfl rfl rfl
          ·
           refine rn tk 5 rfl ?_
           cases hr
           exact jn _ rfl rfl rfl
       ·
        refine rn tk 1 rfl ?_
        refine ie tk [.bo j13] [(0, .s a0),(1, .fn (.func 70) [] []),(7, .i ((a0.length:Int))),(8, .i s5)] [(499999, .sus g0.w.heap.size ds4),(400010, .hold (.bo true) (T4.getD 10 undef))] (.inr rfl) rfl rfl rfl rfl (hO ?_)
        refine rn tk 3 rfl ?_
        refine ac 16 hr rfl (fun c19 hr=> ?_) (fun c19 hr=> ?_)
        ·
         refine rn tk 8 rfl ?_
         cases hr
         exact ato rfl rfl rfl rfl
        ·
         refine rn tk 7 rfl ?_
         cases hr
         exact atc rfl rfl
      ·
       refine rn tk 2 rfl ?_
       cases hr
       exact ato rfl rfl rfl rfl
     ·
      refine rn tk 8 rfl ?_
      refine ie tk [.bo true] [(10, .bo true)] [] (.inr rfl) rfl rfl rfl rfl ?_
      cases hr
      exact jump4 _ _ rfl rfl
     ·
      refine rn tk 2 rfl ?_
      refine ie tk [.bo false] [(10, .bo true)] [] (.inr rfl) rfl rfl rfl rfl ?_
      cases hr
      exact jump4 _ _ rfl rfl
    ·
     refine rn tk 3 rfl ?_
     cases hr
     exact jn _ rfl rfl rfl
   ·
    refine rn tk 5 rfl ?_
    cases hr
    exact jn _ rfl rfl rfl
  ·
   refine rn tk 10 rfl ?_
   cases hr
   exact jn _ rfl rfl rfl
 ·
  refine rn tk 1 rfl ?_
  cases hr
  exact kr tk (.inr rfl) rfl rfl
end Go.Proofs.YtjnmamghadpedaaGreatDoor
