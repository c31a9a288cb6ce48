/- Part 4 of the proof of the law ClientStartMatchesSpec: what it needs. -/
import Derived.Test.YtjnmamghadpedaaGreatDoorKClientStartMatchesSpec3
import Derived.Shelf.Strings.Builder1
import Derived.Shelf.Strings.Builder2
import Derived.Shelf.Strings.OnBuilder
import Derived.Shelf.Small.Utf8
import Derived.Shelf.Small.Strs
import Derived.Shelf.Strings.BuilderF
import Derived.Shelf.Strconv.Atoi
import Derived.Shelf.Strconv.Itoa0
import Derived.Shelf.Strconv.Itoa1
import Derived.Shelf.LaysM
import Derived.Shelf.Strconv.Itoa2
import Derived.Shelf.Strconv.Itoa3
import Derived.Shelf.Strconv.AtoiErrFast
import Derived.Shelf.Strconv.ParseIntEmpty
import Derived.Shelf.Strconv.AtoiFail
import Derived.Shelf.Strconv.Clone
import Derived.Shelf.Strconv.SyntaxError
import Derived.Shelf.LaysC
import Derived.Shelf.Strconv.ToError
import Derived.Shelf.Strconv.AtoiErr
import Derived.Shelf.Strconv.ErrVar
import Derived.Shelf.Strings.Search1
import Derived.Shelf.Strings.Search2
import Derived.Shelf.Strings.Search3
import Derived.Shelf.Strings.Cut
import Derived.Shelf.Strings.Shaped
import Derived.Shelf.Strings.Prefix
import Derived.Shelf.Strings.Runes
import Derived.Shelf.Strings.IndexAny
import Derived.Shelf.Strings.AsciiSet
import Derived.Shelf.Strings.IndexAnyAll
import Derived.Ground.Names2Prog
import Derived.Shelf.Slices.Clone
import Derived.Shelf.Bytes.SlIndexSmall
import Derived.Shelf.Bytes.SlIndexAt
import Derived.Shelf.Bytes.SlSearch0
import Derived.Shelf.Bytes.SlSearch1
import Derived.Shelf.Bytes.SlSearch2
import Derived.Shelf.Bytes.SlIndexWhole
import Derived.Ground.SlgnProg
import Derived.Shelf.SlicesE.Clone
import Derived.Shelf.Bytes.SlSmallAll
import Derived.Shelf.Bytes.SlEqualAll
import Derived.Shelf.Bytes.Small
import Derived.Shelf.Bytes.IndexByte
import Derived.Test.YtjnmamghadpedaaGreatDoorProg
set_option linter.unusedVariables false
set_option linter.unusedSimpArgs false
namespace Go.Proofs.YtjnmamghadpedaaGreatDoor
open Go.RowKit
set_option maxHeartbeats 1000000
set_option maxRecDepth 20000
theorem rdQ_any {s:Str} {n:Nat} (h:rdQ s=some n):s.any rlnC=false:=by
 unfold rdQ at h
 split at h
 ·split at h
  ·rename_i hc
   simp only [Bool.and_eq_true,Bool.not_eq_true'] at hc
   exact hc.1.2
  ·cases h
 ·cases h
theorem qNb:∀(r:List Str) (i:Nat) (acc:List Str) (prev:Int) (v:PR),parP r i acc prev=some v→v.2.2.Code=0→acc.length=i→i≤20→(∀s∈acc,s.length≤500∧s.any rlnC=false)→ROk v.1
 | [],_,_,_,_,h,_,_,_,_=> by cases h
 | s::r,i,acc,prev,v,h,h0,hl,hi,ha=> by
  rw [parP] at h
  split at h
  ·cases h;cases h0
  ·rename_i h20
   split at h
   ·cases h;cases h0
   ·rename_i n hn
    have hq:=qrb hn
    have hany:=rdQ_any hn
    split at h
    ·cases h;cases h0
    ·rename_i h504
     have hs:(s.drop 4).length≤500∧(s.drop 4).any rlnC=false:=by
      refine ⟨by rw [List.length_drop];omega, ?_⟩
      rw [List.any_eq_false] at hany ⊢
      exact fun x hx=> hany x (List.mem_of_mem_drop hx)
     have ha' :∀x∈acc++ [s.drop 4],x.length≤500∧x.any rlnC=false:=by
      intro x hx
      rcases List.mem_append.1 hx with h | h
      ·exact ha x h
      ·rw [List.mem_singleton.1 h];exact hs
     split at h
     ·cases h;cases h0
     ·split at h
      ·cases h
       exact ⟨⟨n,rfl,hq.2⟩,by simp;omega,ha'⟩
      ·exact qNb r _ _ _ v h h0 (by simp;omega) (by omega) ha'
theorem zob {l:List Str} (h:(wZa l).2.2.Code=0):ROk (wZa l).1:=by
 unfold wZa at h ⊢
 split at h
 ·cases h
 ·rename_i h300
  rw [if_neg h300]
  cases hp:parP l 0 [] 0 with
  | none=> rw [hp] at h;cases h
  | some v=>
   rw [hp] at h
   exact qNb l 0 [] 0 v hp h rfl (by omega) (fun _ h=> by cases h)
theorem rOk_sm {r:kDa} (h:ROk r):smLn r.Lines:=⟨by have:=h.len;omega,fun s hs=> by have:=(h.lines s hs).1;omega⟩
def yca (l:List Str):Int:=(wZa l).2.2.Code
def badL (acc:List Str) (x:Str):Prop:=4000 < x.length∨(yca (acc++ [x])≠0∧yca (acc++ [x])≠9)
instance (acc:List Str) (x:Str):Decidable (badL acc x):=inferInstanceAs (Decidable (_∨_))
inductive Scan where
 | wait
 | broken
 | said (r:kDa) (ls:List Str)
def Q9a:List Str→List Str→Scan
 | _, []=> .wait
 | acc,x::r=> if badL acc x then .broken else if yca (acc++ [x])=0 then .said (wZa (acc++ [x])).1 r else Q9a (acc++ [x]) r
def w2a (t:Talk) (r:kDa):Talk:=YDa t (iQuo r.Code 100) t.C.Expected.toNat
def WVa (t:Talk):Talk:=restP t (bif t.C.Whole then 4 else 2)
def runP:Talk→List Str→List Str→Talk × List Str
 | t,acc, []=> (t,acc)
 | t,acc,x::r=> if badL acc x then (WVa t, []) else if yca (acc++ [x])=0 then (if (w2a t (wZa (acc++ [x])).1).C.Done=true then (w2a t (wZa (acc++ [x])).1, []) else runP (w2a t (wZa (acc++ [x])).1) [] r) else runP t (acc++ [x]) r
theorem zpb (t:Talk):∀(ls acc:List Str),runP t acc ls=match Q9a acc ls with
  | .wait=> (t,acc++ls)
  | .broken=> (WVa t, [])
  | .said r q=> if (w2a t r).C.Done=true then (w2a t r, []) else runP (w2a t r) [] q
 | [],acc=> by simp [runP,Q9a]
 | x::r,acc=> by
  rw [runP,Q9a]
  by_cases hb:badL acc x
  ·rw [if_pos hb,if_pos hb]
  rw [if_neg hb,if_neg hb]
  by_cases hc:yca (acc++ [x])=0
  ·rw [if_pos hc,if_pos hc]
  rw [if_neg hc,if_neg hc,zpb t r (acc++ [x])]
  cases Q9a (acc++ [x]) r <;> simp
theorem YKa:∀(ls acc:List Str) {r:kDa} {q:List Str},Q9a acc ls= .said r q→ROk r∧∃p,ls=p++q∧1≤p.length
 | [],acc,r,q,h=> by cases h
 | x::l,acc,r,q,h=> by
  rw [Q9a] at h
  split at h
  ·cases h
  ·split at h
   ·rename_i hc
    cases h
    exact ⟨zob hc, [x],rfl,by simp⟩
   ·obtain ⟨h1,p,h2,h3⟩:=YKa l _ h
    exact ⟨h1,x::p,by rw [h2];rfl,by simp⟩
theorem keb {x:Str} (h:noCR x=true) (r:Str):Lib.index (x++13::10::r) [13,10]=(x.length:Int):=by
 have hf:=qLb x [] r h
 have hg:=Lib.index_ge (x++13::10::r) [13,10]
 by_cases hi:Lib.index (x++13::10::r) [13,10]= -1
 ·rw [qub _ [] hi] at hf
  cases hf
 ·obtain ⟨k,hk⟩:∃k:Nat,Lib.index (x++13::10::r) [13,10]=(k:Int):=⟨(Lib.index (x++13::10::r) [13,10]).toNat,by omega⟩
  obtain ⟨h1,h2⟩:=JJa _ [] k hk
  rw [h2] at hf
  have h3:(x++13::10::r).take k=x:=by
   have:=congrArg (fun p=> p.1.head?) hf
   simpa using this
  have h4:=congrArg List.length h3
  rw [List.length_take] at h4
  rw [hk];omega
theorem kfb {x:Str} (h:(fl [] x).1= []):Lib.index x [13,10]= -1:=by
 have hg:=Lib.index_ge x [13,10]
 by_cases hi:Lib.index x [13,10]= -1
 ·exact hi
 ·obtain ⟨k,hk⟩:∃k:Nat,Lib.index x [13,10]=(k:Int):=⟨(Lib.index x [13,10]).toNat,by omega⟩
  obtain ⟨h1,h2⟩:=JJa _ [] k hk
  rw [h2] at h
  cases h
theorem qOb:∀(ls:List Str),(∀x∈ls,noCR x=true)→∀r,fl [] (zEa ls++r)=(ls++(fl [] r).1,(fl [] r).2)
 | [],_,r=> by simp [zEa]
 | x::ls,h,r=> by
  have e:zEa (x::ls)++r=x++13::10::(zEa ls++r):=by rw [KTa];simp
  rw [e,qLb x [] _ (h x (by simp)),qOb ls (fun y hy=> h y (by simp [hy])) r]
  simp
theorem fl_tail (b:Str):(fl [] (fl [] b).2).1= []:=by
 have h:=qOb (fl [] b).1 (YJa b) (fl [] b).2
 rw [WSa] at h
 have:=congrArg (fun p=> p.1.length) h
 simp only [List.length_append] at this
 exact List.eq_nil_of_length_eq_zero (by omega)
theorem Kqa (a b:List Str):zEa (a++b)=zEa a++zEa b:=by simp [zEa]
theorem YLa {x:Str}:∀{ls:List Str},x∈ls→x.length≤(zEa ls).length
 | y::ls,h=> by
  rw [qwb]
  rcases List.mem_cons.1 h with rfl | h
  ·omega
  ·have:=YLa h;omega
theorem Vaa (ls:List Str):2 * ls.length≤(zEa ls).length:=zhb ls
theorem sm_flat {ls:List Str} (h:(zEa ls).length≤40000):smLn ls:=⟨by have:=Vaa ls;omega,fun s hs=> by have:=YLa hs;omega⟩
theorem qPb (t:Talk) (b:List UInt8) (w:Bool) (hl:t.C.Results.length≤1048576):kua (ses t b w)=some (ses (WVa t) b w):=by
 unfold kua
 have hr:∀r,kea (ses t b w) r=_:=fun r=> qFb (ses t b w) r hl
 show ((bif t.C.Whole then some 4 else some 2:Option Int).bind _)=_
 unfold WVa
 cases t.C.Whole with
 | true=> simp only [cond_true,Option.bind_some,hr];rfl
 | false=> simp only [cond_false,Option.bind_some,hr];rfl
theorem hearS_eq (t:Talk) (iv:CInv t.C) (op:COpn t.C) (ho:t.Out.length≤90000000000) {r:kDa} (hr:ROk r) (b:List UInt8):
  kva (ses (tb t b) (zoa t.C.Mail.Message) (rawP t.C.Mail.Message)) r=some (ses (tb (w2a t r) b) (zoa t.C.Mail.Message) (rawP t.C.Mail.Message)):=by
 have he:t.C.Expected=((t.C.Expected.toNat:Nat):Int):=by have:=iv.e0;omega
 have iv' :CInv (tb t b).C:=⟨⟨iv.good.name,iv.good.mail⟩,iv.len,iv.e0,iv.e1,iv.rng⟩
 have op' :COpn (tb t b).C:=⟨op.whole,op.nr,op.opn⟩
 have h:=hear_eq (tb t b) iv' op' ho r (by rw [qqb hr]) (rOk_sm hr) _ he
 rw [hear_tb] at h
 exact h
theorem YMa (t:Talk) (iv:CInv t.C) (op:COpn t.C) (ho:t.Out.length≤90000000000) (rest:Str) (hrest:(fl [] rest).1= []) (b:Str) (hb:b.length≤40000):∀(ls acc:List Str),b=zEa acc++(zEa ls++rest)→(∀x∈ls,noCR x=true)→
  iter (kba (ses (tb t b) (zoa t.C.Mail.Message) (rawP t.C.Mail.Message))) (((zEa acc).length:Int),acc)=some (match Q9a acc ls with
   | .wait=> (false,ses (tb t b) (zoa t.C.Mail.Message) (rawP t.C.Mail.Message))
   | .broken=> (false,ses (tb (WVa t) b) (zoa t.C.Mail.Message) (rawP t.C.Mail.Message))
   | .said r q=> (true,ses (tb (w2a t r) (zEa q++rest)) (zoa t.C.Mail.Message) (rawP t.C.Mail.Message)))
 | [],acc,h,_=> by
  have hm:=(kCa iv.good.mail).many
  have h' :b=zEa acc++rest:=by rw [h];simp [zEa]
  have hd:b.drop (zEa acc).length=rest:=by rw [h'];exact List.drop_left
  have hl:(zEa acc).length≤b.length:=by rw [h'];simp
  refine zIa ?_
  unfold kba
  show ((cut b ((zEa acc).length:Int) (b.length:Int)).bind _)=_
  rw [jca hl,hd]
  simp only [Option.bind_some,qKa]
  rw [if_pos (by
        have:rest.length≤b.length:=by (rw [h'];simp)
        exact ⟨by omega,rfl⟩),kfb hrest]
  rfl
 | x::ls,acc,h,hn=> by
  have hm:=(kCa iv.good.mail).many
  have h' :b=zEa acc++(x++13::10::(zEa ls++rest)):=by rw [h,KTa];simp
  have hd:b.drop (zEa acc).length=x++13::10::(zEa ls++rest):=by rw [h'];exact List.drop_left
  have hbl:b.length=(zEa acc).length+x.length+2+(zEa ls).length+rest.length:=by rw [h'];simp;omega
  have hsn:zEa (acc++ [x])=zEa acc++x++ [13,10]:=by rw [Kqa];simp [zEa]
  have hsm:smLn (acc++ [x]):=sm_flat (by rw [hsn];simp;omega)
  have hcut:cut b ((zEa acc).length:Int) (((zEa acc).length+x.length:Nat):Int)=some x:=by
   rw [J5a (by omega) (by omega),hd]
   simp
  have hcut2:cut b (((zEa acc).length+x.length+2:Nat):Int) (b.length:Int)=some (zEa ls++rest):=by
   rw [jca (by omega)]
   congr 1
   rw [h',show (zEa acc).length+x.length+2=(zEa acc++(x++ [13,10])).length by simp;omega,show zEa acc++(x++13::10::(zEa ls++rest))=(zEa acc++(x++ [13,10]))++(zEa ls++rest) by simp]
   exact List.drop_left
  have hcnt:=Vaa acc
  have hbody:kba (ses (tb t b) (zoa t.C.Mail.Message) (rawP t.C.Mail.Message)) (((zEa acc).length:Int),acc)=
    some (if badL acc x then .out (false,ses (tb (WVa t) b) (zoa t.C.Mail.Message) (rawP t.C.Mail.Message)) else if yca (acc++ [x])=0 then .out (true,ses (tb (w2a t (wZa (acc++ [x])).1) (zEa ls++rest)) (zoa t.C.Mail.Message) (rawP t.C.Mail.Message)) else .cont (((zEa (acc++ [x])).length:Int),acc++ [x])):=by
   unfold kba
   show ((cut b ((zEa acc).length:Int) (b.length:Int)).bind _)=_
   rw [jca (by omega),hd]
   simp only [Option.bind_some,qKa]
   rw [if_pos ⟨by simp;omega,rfl⟩,keb (hn x (by simp))]
   simp only [Option.bind_some]
   rw [decide_eq_false (show ¬((x.length:Int) < 0) by omega)]
   simp only [cond_false]
   rw [VXa _ _ (by omega)]
   show ((cut b ((zEa acc).length:Int) (((zEa acc).length+x.length:Nat):Int)).bind _)=_
   rw [hcut]
   simp only [Option.bind_some]
   rw [qia (by simp;omega)]
   simp only [Option.bind_some]
   rw [Vya _ hsm]
   simp only [Option.bind_some]
   rw [w64_nl _ 2 (by show x.length+2≤_;omega),VXa _ _ (by show (zEa acc).length+(x.length+2)≤_;omega)]
   have hco:(wZa (acc++ [x])).2.2.Code=yca (acc++ [x]):=rfl
   rw [hco]
   have hj:((bif decide (4000 < (x.length:Int)) then some ((((zEa acc).length+(x.length+2):Nat):Int),true) else (bif (yca (acc++ [x]) !=0) then some ((((zEa acc).length+(x.length+2):Nat):Int),(yca (acc++ [x]) !=9)) else some ((((zEa acc).length+(x.length+2):Nat):Int),false))):Option (Int × Bool))=some ((((zEa acc).length+(x.length+2):Nat):Int),decide (badL acc x)):=by
    by_cases h1:4000 < x.length
    ·have hb1:badL acc x:=Or.inl h1
     rw [decide_eq_true (show (4000:Int) < (x.length:Int) by omega),decide_eq_true hb1];rfl
    ·rw [decide_eq_false (show ¬(4000:Int) < (x.length:Int) by omega)]
     by_cases h2:yca (acc++ [x])=0
     ·have hb1:¬badL acc x:=by unfold badL;omega
      rw [show (yca (acc++ [x]) !=0)=false by simp [h2],decide_eq_false hb1];rfl
     ·rw [show (yca (acc++ [x]) !=0)=true by simpa using h2]
      by_cases h3:yca (acc++ [x])=9
      ·have hb1:¬badL acc x:=by unfold badL;omega
       rw [show (yca (acc++ [x]) !=9)=false by simp [h3],decide_eq_false hb1];rfl
      ·have hb1:badL acc x:=Or.inr ⟨h2,h3⟩
       rw [show (yca (acc++ [x]) !=9)=true by simpa using h3,decide_eq_true hb1];rfl
   rw [hj]
   simp only [Option.bind_some]
   by_cases hbad:badL acc x
   ·rw [decide_eq_true hbad,if_pos hbad]
    simp only [cond_true]
    rw [qPb (tb t b) _ _ (by show t.C.Results.length≤_;have:=iv.len;omega)]
    rfl
   ·rw [decide_eq_false hbad,if_neg hbad]
    simp only [cond_false]
    by_cases hc:yca (acc++ [x])=0
    ·rw [show (yca (acc++ [x])==0)=true by rw [beq_iff_eq];exact hc,if_pos hc]
     simp only [cond_true]
     show ((cut b (((zEa acc).length+x.length+2:Nat):Int) (b.length:Int)).bind _)=_
     rw [hcut2]
     simp only [Option.bind_some]
     exact wsa (hearS_eq t iv op ho (zob hc) (zEa ls++rest)) rfl
    ·rw [show (yca (acc++ [x])==0)=false by rw [beq_eq_false_iff_ne];exact hc,if_neg hc]
     simp only [cond_false]
     rw [show (zEa (acc++ [x])).length=(zEa acc).length+(x.length+2) by rw [hsn];simp]
  rw [Q9a]
  by_cases hbad:badL acc x
  ·rw [if_pos hbad] at hbody ⊢
   exact zIa hbody
  rw [if_neg hbad] at hbody ⊢
  by_cases hc:yca (acc++ [x])=0
  ·rw [if_pos hc] at hbody ⊢
   exact zIa hbody
  rw [if_neg hc] at hbody ⊢
  rw [zXa hbody]
  exact YMa t iv op ho rest hrest b hb ls (acc++ [x]) (by rw [hsn,h'];simp) (fun y hy=> hn y (by simp [hy]))
end Go.Proofs.YtjnmamghadpedaaGreatDoor
namespace Go.Proofs.YtjnmamghadpedaaGreatDoor
open Go.RowKit
set_option maxHeartbeats 1000000
set_option maxRecDepth 20000
theorem Vba {t:Talk} (iv:CInv t.C) (op:COpn t.C) (hd:t.C.Done=false) (r:kDa):YHa t (w2a t r):=
 kdb iv op hd _ _ (by have:=iv.e0;omega)
theorem kgb {t:Talk} (iv:CInv t.C):YHa t (WVa t):=by
 have hr:0≤(bif t.C.Whole then (4:Int) else 2)∧(bif t.C.Whole then (4:Int) else 2)≤4:=by cases t.C.Whole <;> decide
 exact ⟨znb iv hr,⟨rfl,rfl,rfl⟩,V8a _ _, .inl rfl,by show t.Out.length≤_;omega⟩
theorem next_eq (t:Talk) (iv:CInv t.C) (op:COpn t.C) (ho:t.Out.length≤90000000000) (rest:Str) (hrest:(fl [] rest).1= []) (ls:List Str) (hb:(zEa ls++rest).length≤40000) (hn:∀x∈ls,noCR x=true):
  kwa (ses (tb t (zEa ls++rest)) (zoa t.C.Mail.Message) (rawP t.C.Mail.Message))=some (match Q9a [] ls with
   | .wait=> (false,ses (tb t (zEa ls++rest)) (zoa t.C.Mail.Message) (rawP t.C.Mail.Message))
   | .broken=> (false,ses (tb (WVa t) (zEa ls++rest)) (zoa t.C.Mail.Message) (rawP t.C.Mail.Message))
   | .said r q=> (true,ses (tb (w2a t r) (zEa q++rest)) (zoa t.C.Mail.Message) (rawP t.C.Mail.Message))):=by
 unfold kwa
 exact wsa (YMa t iv op ho rest hrest _ hb ls [] (by simp [zEa]) hn) rfl
theorem YNa (S:zda) (h:S.Client.Done=true):iter k5a S=some S:=by
 refine zIa ?_
 unfold k5a
 rw [h]
 rfl
theorem YOa (rest:Str) (hrest:(fl [] rest).1= []) (m:zVa):∀(n:Nat) (ls:List Str) (t:Talk),ls.length≤n→CInv t.C→COpn t.C→t.C.Done=false→t.C.Mail=m→t.Out.length+900000 * ls.length≤90000000000→(zEa ls++rest).length≤40000→(∀x∈ls,noCR x=true)→
  ∃B,iter k5a (ses (tb t (zEa ls++rest)) (zoa m.Message) (rawP m.Message))=some (ses (tb (runP t [] ls).1 B) (zoa m.Message) (rawP m.Message))∧((runP t [] ls).1.C.Done=false→B=zEa (runP t [] ls).2++rest)∧B.length≤40000
 | n,ls,t,hn,iv,op,hd,hm,ho,hb,hc=> by
  subst hm
  have hnx:=next_eq t iv op (by omega) rest hrest ls hb hc
  rw [zpb]
  have hstep:∀p:Bool × zda,kwa (ses (tb t (zEa ls++rest)) (zoa t.C.Mail.Message) (rawP t.C.Mail.Message))=some p→
    k5a (ses (tb t (zEa ls++rest)) (zoa t.C.Mail.Message) (rawP t.C.Mail.Message))=some (bif p.1 then .cont p.2 else .out p.2):=by
   intro p hp
   unfold k5a
   show (((bif (!t.C.Done) then _ else _:Option (Bool × zda))).bind _)=_
   rw [hd,hp]
   show (bif p.1 then _ else _)=_
   cases p.1 <;> rfl
  cases hs:Q9a [] ls with
  | wait=>
   rw [hs] at hnx
   exact ⟨zEa ls++rest,zIa (hstep _ hnx),fun _=> rfl,hb⟩
  | broken=>
   rw [hs] at hnx
   exact ⟨zEa ls++rest,zIa (hstep _ hnx),fun h=> (by cases h),hb⟩
  | said r q=>
   rw [hs] at hnx
   have hA:=Vba iv op hd r
   obtain ⟨_,p,hp,hp1⟩:=YKa ls [] hs
   rw [zXa (hstep _ hnx)]
   dsimp only
   by_cases hdn:(w2a t r).C.Done=true
   ·rw [if_pos hdn]
    have hfl:(zEa ls).length=(zEa p).length+(zEa q).length:=by rw [hp,Kqa];simp
    exact ⟨zEa q++rest,YNa _ hdn,fun h=> (by rw [hdn] at h;cases h),by simp only [List.length_append] at hb ⊢;omega⟩
   ·rw [if_neg hdn]
    rcases hA.opn with h | ⟨hd2,op2⟩
    ·exact absurd h hdn
    have hl:ls.length=p.length+q.length:=by rw [hp];simp
    have hout:=hA.out
    cases n with
    | zero=> omega
    | succ n=>
     have hfl:(zEa ls).length=(zEa p).length+(zEa q).length:=by rw [hp,Kqa];simp
     have:=YOa rest hrest t.C.Mail n q (w2a t r) (by omega) hA.inv op2 hd2 hA.same.2.1 (by omega) (by simp only [List.length_append] at hb ⊢;omega) (fun x hx=> hc x (by rw [hp];simp [hx]))
     exact this
theorem inv_tb {t:Talk} (iv:CInv t.C) (b:Str):CInv (tb t b).C:=⟨⟨iv.good.name,iv.good.mail⟩,iv.len,iv.e0,iv.e1,iv.rng⟩
theorem opn_tb {t:Talk} (op:COpn t.C) (b:Str):COpn (tb t b).C:=⟨op.whole,op.nr,op.opn⟩
def endB (p:Talk × List Str) (rest:Str):Talk:=tb p.1 (if p.1.C.Done=true then [] else zEa p.2++rest)
end Go.Proofs.YtjnmamghadpedaaGreatDoor
namespace Go.Proofs.YtjnmamghadpedaaGreatDoor
open Go.RowKit
set_option maxHeartbeats 1000000
set_option maxRecDepth 20000
def kRa (n:Str) (m:zVa):zra:=if !yba n then ⟨10, -20⟩ else y7a m
structure qQb (c:zla):Prop where
 len:c.Results.length=c.Mail.Envelope.To.length
 rng:∀r∈c.Results,0≤r∧r≤4
 e0:0≤c.Expected
 e1:c.Expected≤(c.Mail.Envelope.To.length:Int)+4
 buf:c.Buffer.length≤40000
 opn:c.Done=false→COpn c
open Classical in
noncomputable def cliF (c:zla):zra:=if (kRa c.Name c.Mail).Code≠0 then kRa c.Name c.Mail else if qQb c then ⟨0,0⟩ else ⟨5, -23⟩
structure ZPa (c:zla):Prop where
 name:c.Name.length≤1048576
 env:jea c.Mail.Envelope
 msg:yoa c.Mail.Message
 res:c.Results.length≤1048576
 buf:c.Buffer.length≤1048576
theorem khb {m:zVa} (h:(y7a m).Code=0):y7a m=⟨0,0⟩:=by
 obtain ⟨h1,h2⟩:=QZa h
 unfold y7a
 rw [h1,h2]
 rfl
theorem zqb (n:Str) (m:zVa) (hn:n.length≤1048576) (h1:jea m.Envelope) (h2:yoa m.Message):vxa n m=some (kRa n m):=by
 unfold vxa kRa
 rw [y6a n hn,KPa m h1 h2]
 cases yba n <;> rfl
theorem Zca {n:Str} {m:zVa} (h:(kRa n m).Code=0):yba n=true∧(y7a m).Code=0:=by
 unfold kRa at h
 cases hn:yba n with
 | false=> rw [hn] at h;cases h
 | true=> rw [hn] at h;exact ⟨rfl,h⟩
theorem write_eq {m:zVa} (h:(y7a m).Code=0) (h2:yoa m.Message):vSa m.Message=some (zoa m.Message,⟨0,0⟩):=by
 have gm:=kCa h
 unfold vSa
 rw [wYa _ h2]
 simp only [Option.bind_some,kda,zTa,(QZa h).2,jfa m.Message (by have:=gm.body;omega) gm.many60 gm.codes]
 rfl
theorem Waa {m:zVa} (h:(y7a m).Code=0) (h2:yoa m.Message):qza m.Message=some (zoa m.Message,rawP m.Message):=by
 have gm:=kCa h
 have:=gm.big
 unfold qza
 rw [write_eq h h2]
 simp only [Option.bind_some]
 rw [Zya _ (by omega)]
 rfl
def openB (c:zla):Bool:=(zKa (fun i x=> if decide (c.Expected≤(i:Int)+3) && x !=0 then some false else none) 0 c.Results).getD true
theorem qRb (c:zla):openB c=true↔∀(i:Nat) x,c.Results[i]? =some x→c.Expected≤(i:Int)+3→x=0:=by
 unfold openB
 cases hf:zKa (fun i x=> if decide (c.Expected≤(i:Int)+3) && x !=0 then some false else none) 0 c.Results with
 | none=>
  refine ⟨fun _ i x hx h=> ?_,fun _=> rfl⟩
  have:=vsa.1 hf i x hx
  rw [Nat.zero_add,decide_eq_true h] at this
  simpa using this
 | some b=>
  obtain ⟨i,x,hx,hq⟩:=y4a hf
  rw [Nat.zero_add] at hq
  split at hq
  ·rename_i hc
   cases hq
   simp only [Bool.and_eq_true,decide_eq_true_eq,bne_iff_ne] at hc
   refine ⟨fun h=> (by cases h),fun h=> absurd (h i x hx hc.1) hc.2⟩
  ·cases hq
theorem Vca (a b:Bool):(bif a then some false else some b:Option Bool)=some (!a && b):=by cases a <;> rfl
theorem open_eq (c:zla) (hs:ZPa c) (h:(y7a c.Mail).Code=0):∃b,wVa c=some b∧(b=true↔COpn c):=by
 have hm:=(kCa h).many
 have hr:=hs.res
 unfold wVa
 rw [Waa h hs.msg]
 simp only [Option.bind_some]
 have e4:w64 ((c.Mail.Envelope.To.length:Int)+4)=(c.Mail.Envelope.To.length:Int)+4:=kUa (by omega) (by omega)
 have e3:w64 ((c.Mail.Envelope.To.length:Int)+3)=(c.Mail.Envelope.To.length:Int)+3:=kUa (by omega) (by omega)
 rw [e4,e3]
 have hloop:(iter (vfa c) 0).bind (Sum.elim (fun b14=> some true) (fun b15=> some b15))=some (openB c):=by
  rw [zHa c.Results (fun i x=> if decide (c.Expected≤(i:Int)+3) && x !=0 then some false else none) (.inl ()) .inr]
  ·unfold openB
   cases zKa (fun i x=> if decide (c.Expected≤(i:Int)+3) && x !=0 then some false else none) 0 c.Results <;> rfl
  ·unfold vfa;rw [kca];rfl
  ·intro i x hx
   have hi:=kia hx
   unfold vfa
   rw [kLa hx,z3a hx]
   simp only [cond_true,Option.bind_some,sc i (by omega),show w64 ((i:Int)+3)=(i:Int)+3 from kUa (by omega) (by omega)]
   cases decide (c.Expected≤(i:Int)+3) <;> cases x !=0 <;> rfl
 rw [hloop]
 have hj:((bif (c.Expected==((c.Mail.Envelope.To.length:Int)+4)) then (bif (c.Whole !=true) then some true else (bif rawP c.Mail.Message then some ((c.Expected==((c.Mail.Envelope.To.length:Int)+3))) else some false)) else (bif rawP c.Mail.Message then (bif c.Pipelined then (bif (c.Whole !=decide (2≤c.Expected)) then some true else some ((c.Expected==((c.Mail.Envelope.To.length:Int)+3)))) else (bif (c.Whole !=false) then some true else some ((c.Expected==((c.Mail.Envelope.To.length:Int)+3))))) else (bif (c.Whole !=false) then some true else some false))):Option Bool)=
   some ((c.Whole !=(decide (c.Expected=(c.Mail.Envelope.To.length:Int)+4) || (rawP c.Mail.Message && c.Pipelined && decide (2≤c.Expected)))) || (rawP c.Mail.Message && decide (c.Expected=(c.Mail.Envelope.To.length:Int)+3))):=by
  have b4:(c.Expected==((c.Mail.Envelope.To.length:Int)+4))=decide (c.Expected=(c.Mail.Envelope.To.length:Int)+4):=by rw [Bool.eq_iff_iff];simp
  have b3:(c.Expected==((c.Mail.Envelope.To.length:Int)+3))=decide (c.Expected=(c.Mail.Envelope.To.length:Int)+3):=by rw [Bool.eq_iff_iff];simp
  rw [b4,b3]
  cases decide (c.Expected=(c.Mail.Envelope.To.length:Int)+4) <;> cases rawP c.Mail.Message <;> cases c.Pipelined <;> cases decide (2≤c.Expected) <;> cases c.Whole <;> cases decide (c.Expected=(c.Mail.Envelope.To.length:Int)+3) <;> rfl
 rw [hj]
 simp only [Option.bind_some]
 have hbi:=qRb c
 refine ⟨_,(Vca _ _), ?_⟩
 rw [Bool.and_eq_true,hbi]
 simp only [Bool.not_eq_true',Bool.or_eq_false_iff,Bool.and_eq_false_iff,bne_eq_false_iff_eq,decide_eq_false_iff_not]
 constructor
 ·rintro ⟨⟨h1,h2⟩,h3⟩
  exact ⟨h1,fun ⟨a,b⟩=> h2.elim (fun h=> by rw [h] at a;cases a) (fun h=> h b),h3⟩
 ·intro o
  refine ⟨⟨o.whole, ?_⟩,o.opn⟩
  cases hr:rawP c.Mail.Message with
  | false=> exact .inl rfl
  | true=> exact .inr fun h=> o.nr ⟨hr,h⟩
theorem zrb (c:zla) (hs:ZPa c):vza c=some (cliF c):=by
 unfold vza cliF
 rw [zqb _ _ hs.name hs.env hs.msg]
 simp only [Option.bind_some,kda,zAa,zTa]
 by_cases h0:(kRa c.Name c.Mail).Code=0
 ·rw [if_neg (by simp [h0])]
  obtain ⟨hn,hml⟩:=Zca h0
  have hm:=(kCa hml).many
  have hr:=hs.res
  rw [show ((kRa c.Name c.Mail).Code !=0)=false by simp [h0]]
  simp only [cond_false]
  have hloop:((iter (qSa c) 0).bind (Sum.elim (fun b10=> some ((-1))) (fun b11=> some b11)):Option Int)=some ((zKa (fun i x=> if (decide (x < 0) || decide (4 < x)) then some ((i:Nat):Int) else none) 0 c.Results).getD (-1)):=by
   rw [zHa c.Results (fun i x=> if (decide (x < 0) || decide (4 < x)) then some ((i:Nat):Int) else none) (.inl ()) .inr]
   ·simp only [Option.bind_some,Qua]
   ·unfold qSa;rw [kca];rfl
   ·intro i x hx
    have hi:=kia hx
    unfold qSa
    rw [kLa hx,z3a hx]
    simp only [cond_true,Option.bind_some,sc i (by omega)]
    cases decide (x < 0) <;> cases decide (4 < x) <;> rfl
  rw [hloop]
  simp only [Option.bind_some]
  rw [QOa (fun x=> decide (x < 0) || decide (4 < x)) c.Results 0]
  obtain ⟨ob,ho,hoi⟩:=open_eq c hs hml
  rw [ho,show w64 ((c.Mail.Envelope.To.length:Int)+4)=(c.Mail.Envelope.To.length:Int)+4 from kUa (by omega) (by omega)]
  have hj:∃j,((bif ((c.Results.length:Int) !=(c.Mail.Envelope.To.length:Int)) then some true else (bif (c.Results.any fun x=> decide (x < 0) || decide (4 < x)) then some true else (bif decide (c.Expected < 0) then some true else (bif decide ((c.Mail.Envelope.To.length:Int)+4 < c.Expected) then some true else (bif decide (40000 < (c.Buffer.length:Int)) then some true else (bif (!c.Done) then (some ob).bind fun v25=> some (!v25) else some false)))))):Option Bool)=some j∧(j=true↔¬qQb c):=by
   refine ⟨((c.Results.length:Int) !=(c.Mail.Envelope.To.length:Int)) || (c.Results.any fun x=> decide (x < 0) || decide (4 < x)) || decide (c.Expected < 0) || decide ((c.Mail.Envelope.To.length:Int)+4 < c.Expected) || decide (40000 < (c.Buffer.length:Int)) || (!c.Done && !ob), ?_, ?_⟩
   ·cases ((c.Results.length:Int) !=(c.Mail.Envelope.To.length:Int)) <;> cases (c.Results.any fun x=> decide (x < 0) || decide (4 < x)) <;> cases decide (c.Expected < 0) <;> cases decide ((c.Mail.Envelope.To.length:Int)+4 < c.Expected) <;> cases decide (40000 < (c.Buffer.length:Int)) <;> cases c.Done <;> cases ob <;> rfl
   ·rw [←Bool.not_eq_false,not_congr ?_]
    simp only [Bool.or_eq_false_iff,bne_eq_false_iff_eq,List.any_eq_false,Bool.and_eq_false_iff,decide_eq_false_iff_not,Bool.not_eq_false']
    constructor
    ·rintro ⟨⟨⟨⟨⟨h1,h2⟩,h3⟩,h4⟩,h5⟩,h6⟩
     refine ⟨by omega,fun r hr=> ?_,by omega,by omega,by omega,fun hd=> ?_⟩
     ·have:=h2 r hr
      simp only [Bool.or_eq_true,decide_eq_true_eq] at this
      omega
     ·rcases h6 with h6 | h6
      ·rw [hd] at h6;cases h6
      ·exact hoi.1 h6
    ·intro v
     have:=v.len;have:=v.e0;have:=v.e1;have:=v.buf
     refine ⟨⟨⟨⟨⟨by omega,fun r hr=> ?_⟩,by omega⟩,by omega⟩,by omega⟩, ?_⟩
     ·have:=v.rng r hr
      simp only [Bool.or_eq_true,decide_eq_true_eq]
      omega
     ·cases hd:c.Done with
      | true=> exact .inl rfl
      | false=> exact .inr (hoi.2 (v.opn hd))
  obtain ⟨j,hj1,hj2⟩:=hj
  rw [hj1]
  simp only [Option.bind_some]
  cases j with
  | true=> rw [if_neg (hj2.1 rfl)];rfl
  | false=> rw [if_pos (Classical.byContradiction fun h=> by have:=hj2.2 h;cases this)];rfl
 ·rw [if_pos h0,show ((kRa c.Name c.Mail).Code !=0)=true by simpa using h0]
  rfl
end Go.Proofs.YtjnmamghadpedaaGreatDoor
namespace Go.Proofs.YtjnmamghadpedaaGreatDoor
open Go.RowKit
set_option maxHeartbeats 1000000
set_option maxRecDepth 20000
theorem w3a {α:Type} {lim:Nat} (l:List α) (h:l.length≤lim):(nilE l.isEmpty (some ([]:List α)) ((app lim ([]:List α) l).bind fun v=> some v))=some l:=by
 rw [qia (by simpa using h)]
 simp only [List.nil_append,Option.bind_some]
 exact kIb _ _ _ (fun he=> by rw [List.isEmpty_iff.1 he])
theorem Vda (m:zVa) (h1:jea m.Envelope) (h2:yoa m.Message):qra m=some m:=by
 obtain ⟨_,_,h1,_⟩:=h1
 obtain ⟨⟨h2,_⟩,h3⟩:=h2
 unfold qra
 rw [w3a m.Envelope.To (by omega)]
 simp only [Option.bind_some]
 rw [show zWa m.Message.Fields=some m.Message.Fields from w3a _ (by omega),w3a m.Message.Body (by omega)]
 rfl
theorem qSb (a b:List UInt8) (h:a.length+b.length≤2097152):kla [a,b]=some (a++b):=by
 have l1:iter (z6a [a,b]) (0,0)=some ((a.length+b.length:Nat):Int):=by
  have s1:z6a [a,b] (0,0)=some (.cont ((a.length:Int),1)):=by
   show (bif decide (w64 ((0:Int)+(a.length:Int)) < 0) then none else some (Step.cont (w64 ((0:Int)+(a.length:Int)),w64 ((0:Int)+1))):Option (Step (Int × Int) Int))=_
   rw [show w64 ((0:Int)+(a.length:Int))=(a.length:Int) by rw [kUa (by omega) (by omega)];omega,decide_eq_false (by omega)]
   rfl
  have s2:z6a [a,b] ((a.length:Int),1)=some (.cont (((a.length+b.length:Nat):Int),2)):=by
   show (bif decide (w64 ((a.length:Int)+(b.length:Int)) < 0) then none else some (Step.cont (w64 ((a.length:Int)+(b.length:Int)),w64 ((1:Int)+1))):Option (Step (Int × Int) Int))=_
   rw [VXa _ _ (by omega),decide_eq_false (by omega)]
   rfl
  rw [zXa s1,zXa s2]
  exact zIa rfl
 have hl2:∀s:List UInt8,s.length=0→iter (z7a [a,b]) (0,s)=some (a++b):=by
  intro s hs
  have hs0:s= []:=List.eq_nil_of_length_eq_zero hs
  subst hs0
  have s1:z7a [a,b] (0, [])=some (.cont (1,a)):=by
   show ((app 140737488355328 [] a).bind fun v20=> some (Step.cont (w64 ((0:Int)+1),v20)):Option (Step (Int × List UInt8) (List UInt8)))=_
   rw [qia (by simp;omega)]
   rfl
  have s2:z7a [a,b] (1,a)=some (.cont (2,a++b)):=by
   show ((app 140737488355328 a b).bind fun v20=> some (Step.cont (w64 ((1:Int)+1),v20)):Option (Step (Int × List UInt8) (List UInt8)))=_
   rw [qia (by omega)]
   rfl
  rw [zXa s1,zXa s2]
  exact zIa rfl
 unfold kla
 rw [l1]
 simp only [Option.bind_some]
 rw [decide_eq_false (show ¬((a.length+b.length:Nat):Int) < 0 by omega),show w64 (((a.length+b.length:Nat):Int) - w64 (0 - 0))=((a.length+b.length:Nat):Int) by rw [show w64 (0 - 0)=0 from rfl,kUa (by omega) (by omega)];omega]
 simp only [cond_false]
 by_cases h0:a.length+b.length=0
 ·rw [decide_eq_false (by omega)]
  have e1:a= []:=List.eq_nil_of_length_eq_zero (by omega)
  have e2:b= []:=List.eq_nil_of_length_eq_zero (by omega)
  subst e1;subst e2
  simp only [cond_false]
  refine wsa (v:= []) ?_ rfl
  rw [zXa (show koa [([]:List UInt8), []] (0, [])=some (.cont (1, [])) from rfl),zXa (show koa [([]:List UInt8), []] (1, [])=some (.cont (2, [])) from rfl)]
  exact zIa rfl
 ·rw [decide_eq_true (by omega)]
  simp only [cond_true]
  unfold zrep
  rw [if_pos (by omega)]
  simp only [Option.bind_some]
  rw [show cut (List.replicate ((a.length+b.length:Nat):Int).toNat (0:UInt8)) 0 0=some [] from (K9a (b:=0) (by simp)).trans (by simp)]
  simp only [Option.bind_some]
  rw [hl2 [] rfl]
  rfl
theorem YPa (l:List Int) (h:l.length≤1048576):VWa l l=some true:=by
 unfold VWa
 rw [show ((l.length:Int) !=(l.length:Int))=false by simp]
 simp only [cond_false]
 rw [zHa l (fun _ _=> none) (.inl ()) .inr]
 ·have:zKa (fun _ _=> (none:Option Bool)) 0 l=none:=by rw [vsa];intro i x _;rfl
  rw [this];rfl
 ·unfold Kfa;rw [kca];rfl
 ·intro i f hx
  have hi:=kia hx
  unfold Kfa
  rw [kLa hx,z3a hx]
  simp only [cond_true,Option.bind_some,sc i (by omega)]
  simp
theorem YQa (c:zla) (h:c.Results.length≤1048576) (h1:c.Mail.Envelope.To.length≤1048576) (h2:c.Mail.Message.Fields.length≤1048576):k3a c c=some true:=by
 unfold k3a
 rw [YPa _ h,Q0a _ h1 h2]
 simp
def noC:zla:=⟨[],⟨⟨[], [], []⟩,⟨[], []⟩⟩,false, [],0,false,false, []⟩
theorem noC_same:k3a noC noC=some true:=YQa _ (by decide) (by decide) (by decide)
def w4a (c:zla) (d:List UInt8):Talk:=if c.Done=true then tb ⟨c, []⟩ [] else endB (runP ⟨c, []⟩ [] (fl [] (c.Buffer++d)).1) (fl [] (c.Buffer++d)).2
noncomputable def feedP (c:zla) (d:List UInt8):zla × List UInt8 × zra:=
 if (cliF c).Code≠0 then (noC, [],cliF c) else if 40000 < c.Buffer.length+d.length then (noC, [],⟨1, -1⟩) else ((w4a c d).C,(w4a c d).Out,⟨0,0⟩)
structure VCa (c:zla):Prop where
 inv:CInv c
 opn:c.Done=false→COpn c
 buf:c.Buffer.length≤40000
 small:ZPa c
theorem cliF_ok {c:zla} (hs:ZPa c) (h:(cliF c).Code=0):VCa c∧cliF c=⟨0,0⟩:=by
 unfold cliF at h ⊢
 by_cases h0:(kRa c.Name c.Mail).Code=0
 ·rw [if_neg (by simp [h0])] at h ⊢
  by_cases hv:qQb c
  ·rw [if_pos hv]
   obtain ⟨hn,hm⟩:=Zca h0
   exact ⟨⟨⟨⟨hn,hm⟩,hv.len,hv.e0,hv.e1,hv.rng⟩,hv.opn,hv.buf,hs⟩,rfl⟩
  ·rw [if_neg hv] at h;cases h
 ·rw [if_pos h0] at h;exact absurd h h0
theorem qTb {c:zla} (o:VCa c):cliF c=⟨0,0⟩:=by
 unfold cliF
 have h0:(kRa c.Name c.Mail).Code=0:=by unfold kRa;rw [o.inv.good.name];exact o.inv.good.mail
 rw [if_neg (by simp [h0]),if_pos ⟨o.inv.len,o.inv.rng,o.inv.e0,o.inv.e1,o.buf,o.opn⟩]
theorem qUb {c:zla} (o:VCa c) {d:List UInt8} (h:c.Buffer.length+d.length≤40000):(zEa (fl [] (c.Buffer++d)).1++(fl [] (c.Buffer++d)).2)=c.Buffer++d∧(zEa (fl [] (c.Buffer++d)).1++(fl [] (c.Buffer++d)).2).length≤40000∧(fl [] (c.Buffer++d)).1.length≤20000:=by
 have hj:=WSa (c.Buffer++d)
 have hl:(zEa (fl [] (c.Buffer++d)).1++(fl [] (c.Buffer++d)).2).length≤40000:=by rw [hj];simp;omega
 refine ⟨hj,hl, ?_⟩
 have:=Vaa (fl [] (c.Buffer++d)).1
 simp only [List.length_append] at hl
 omega
theorem qVb (c:zla) (d:List UInt8) (hs:ZPa c) (hd:d.length≤2097152):v7a c d=some (feedP c d):=by
 have hb:=hs.buf
 unfold v7a feedP
 rw [zrb c hs]
 simp only [Option.bind_some,kda,zAa,zTa]
 by_cases h0:(cliF c).Code=0
 ·rw [show ((cliF c).Code !=0)=false by simp [h0],if_neg (by simp [h0])]
  obtain ⟨o,_⟩:=cliF_ok hs h0
  simp only [cond_false]
  rw [VXa _ _ (by omega)]
  by_cases h4:40000 < c.Buffer.length+d.length
  ·rw [if_pos h4,decide_eq_true (show (40000:Int) < ((c.Buffer.length+d.length:Nat):Int) by omega)]
   rfl
  ·rw [if_neg h4,decide_eq_false (show ¬(40000:Int) < ((c.Buffer.length+d.length:Nat):Int) by omega)]
   simp only [cond_false]
   rw [Vda _ hs.env hs.msg]
   simp only [Option.bind_some]
   rw [show kma c.Results=some c.Results from w3a _ (by have:=hs.res;omega),qSb _ _ (by omega)]
   simp only [Option.bind_some]
   rw [Waa o.inv.good.mail hs.msg]
   simp only [Option.bind_some]
   obtain ⟨hj,hl,hc⟩:=qUb o (d:=d) (by omega)
   have hS:(zda.mk (zla.mk c.Name c.Mail c.Pipelined (c.Buffer++d) c.Expected c.Whole c.Done c.Results) (zoa c.Mail.Message) (rawP c.Mail.Message) ([]:List UInt8))=ses (tb ⟨c, []⟩ (zEa (fl [] (c.Buffer++d)).1++(fl [] (c.Buffer++d)).2)) (zoa c.Mail.Message) (rawP c.Mail.Message):=by rw [hj];rfl
   rw [hS]
   cases hdn:c.Done with
   | true=>
    rw [YNa _ hdn]
    simp only [Option.bind_some]
    unfold w4a
    rw [if_pos hdn]
    refine wsa (v:=ses (tb ⟨c, []⟩ []) (zoa c.Mail.Message) (rawP c.Mail.Message)) (wsa (w3a (zEa (fl [] (c.Buffer++d)).1++(fl [] (c.Buffer++d)).2) (by omega)) ?_) rfl
    show (bif c.Done then _ else _)=_
    rw [hdn]
    rfl
   | false=>
    obtain ⟨B,h1,h2,h3⟩:=YOa (fl [] (c.Buffer++d)).2 (fl_tail _) c.Mail _ (fl [] (c.Buffer++d)).1 ⟨c, []⟩ (Nat.le_refl _) o.inv (o.opn hdn) hdn rfl (by show 0+_≤_;omega) hl (YJa _)
    rw [h1]
    simp only [Option.bind_some]
    unfold w4a endB
    rw [if_neg (by rw [hdn];decide)]
    refine wsa (v:=ses (tb (runP ⟨c, []⟩ [] (fl [] (c.Buffer++d)).1).1 (if (runP ⟨c, []⟩ [] (fl [] (c.Buffer++d)).1).1.C.Done=true then [] else zEa (runP ⟨c, []⟩ [] (fl [] (c.Buffer++d)).1).2++(fl [] (c.Buffer++d)).2)) (zoa c.Mail.Message) (rawP c.Mail.Message)) (wsa (w3a B (by omega)) ?_) rfl
    show (bif (runP ⟨c, []⟩ [] (fl [] (c.Buffer++d)).1).1.C.Done then _ else _)=_
    cases hd2:(runP ⟨c, []⟩ [] (fl [] (c.Buffer++d)).1).1.C.Done with
    | true=> rw [if_pos rfl];rfl
    | false=> rw [if_neg (by decide),←h2 hd2];rfl
 ·rw [show ((cliF c).Code !=0)=true by simpa using h0,if_pos h0]
  rfl
def WWa (c:zla):zla:=(tb (WVa ⟨c, []⟩) []).C
noncomputable def zsb (c:zla):zla × zra:=if (cliF c).Code≠0 then (noC,cliF c) else (WWa c,⟨0,0⟩)
theorem close_eq (c:zla) (hs:ZPa c):wma c=some (zsb c):=by
 unfold wma zsb
 rw [zrb c hs]
 simp only [Option.bind_some,kda,zAa,zTa]
 by_cases h0:(cliF c).Code=0
 ·rw [show ((cliF c).Code !=0)=false by simp [h0],if_neg (by simp [h0])]
  simp only [cond_false]
  rw [Vda _ hs.env hs.msg]
  simp only [Option.bind_some]
  rw [show kma c.Results=some c.Results from w3a _ (by have:=hs.res;omega)]
  simp only [Option.bind_some]
  exact wsa (qPb (tb ⟨c, []⟩ []) [] false (by exact hs.res)) rfl
 ·rw [show ((cliF c).Code !=0)=true by simpa using h0,if_pos h0]
  rfl
def Vea (n:Str) (m:zVa) (p:Bool):zla:=⟨n,m,p, [],0,false,false,List.replicate m.Envelope.To.length 0⟩
def Qfa (n:Str) (m:zVa) (p:Bool):zla × zra:=if (kRa n m).Code≠0 then (noC,kRa n m) else (Vea n m p,⟨0,0⟩)
theorem zmk_eq {α:Type} {lim n:Nat} (z:α) (h:n≤lim):zmk lim (n:Int) z=some (List.replicate n z):=by
 unfold zmk
 rw [if_pos (by omega)]
 simp
theorem ztb (n:Str) (m:zVa) (p:Bool) (hn:n.length≤1048576) (h1:jea m.Envelope) (h2:yoa m.Message):vya n m p=some (Qfa n m p):=by
 unfold vya Qfa
 rw [zqb n m hn h1 h2]
 simp only [Option.bind_some,kda,zAa,zTa]
 by_cases h0:(kRa n m).Code=0
 ·rw [show ((kRa n m).Code !=0)=false by simp [h0],if_neg (by simp [h0])]
  simp only [cond_false]
  rw [Vda _ h1 h2]
  simp only [Option.bind_some]
  obtain ⟨_,_,h3,_⟩:=h1
  rw [zmk_eq _ (by omega)]
  rfl
 ·rw [show ((kRa n m).Code !=0)=true by simpa using h0,if_pos h0]
  rfl
end Go.Proofs.YtjnmamghadpedaaGreatDoor
namespace Go.Proofs.YtjnmamghadpedaaGreatDoor
open Go.RowKit
set_option maxHeartbeats 1000000
set_option maxRecDepth 20000
structure Ran (t:Talk) (ls:List Str) (p:Talk × List Str):Prop where
 inv:CInv p.1.C
 same:p.1.C.Name=t.C.Name∧p.1.C.Mail=t.C.Mail∧p.1.C.Pipelined=t.C.Pipelined
 stays:VBa t.C.Results p.1.C.Results
 opn:p.1.C.Done=true∨(p.1.C.Done=false∧COpn p.1.C)
 tail:∃q,ls=q++p.2
theorem ran_mono {t u:Talk} {ls q:List Str} {p:Talk × List Str} (h:YHa t u) (r:Ran u q p) (hq:∃z,ls=z++q):Ran t ls p:=by
 obtain ⟨z,hz⟩:=hq
 obtain ⟨y,hy⟩:=r.tail
 exact ⟨r.inv,⟨r.same.1.trans h.same.1,r.same.2.1.trans h.same.2.1,r.same.2.2.trans h.same.2.2⟩,Q8a h.stays r.stays,r.opn,z++y,by rw [hz,hy];simp⟩
theorem JMa:∀(ls acc:List Str) (t:Talk),CInv t.C→COpn t.C→t.C.Done=false→Ran t (acc++ls) (runP t acc ls)
 | [],acc,t,iv,op,hd=> ⟨iv,⟨rfl,rfl,rfl⟩,wIa _, .inr ⟨hd,op⟩, [],by simp [runP]⟩
 | x::r,acc,t,iv,op,hd=> by
  rw [runP]
  have hl:=kgb iv
  have hh:=Vba iv op hd (wZa (acc++ [x])).1
  by_cases hb:badL acc x
  ·rw [if_pos hb]
   exact ⟨hl.inv,hl.same,hl.stays, .inl rfl,acc++x::r,by simp⟩
  rw [if_neg hb]
  by_cases hc:yca (acc++ [x])=0
  ·rw [if_pos hc]
   by_cases hdn:(w2a t (wZa (acc++ [x])).1).C.Done=true
   ·rw [if_pos hdn]
    exact ⟨hh.inv,hh.same,hh.stays, .inl hdn,acc++x::r,by simp⟩
   ·rw [if_neg hdn]
    rcases hh.opn with h | ⟨hd2,op2⟩
    ·exact absurd h hdn
    exact ran_mono hh (JMa r [] _ hh.inv op2 hd2) ⟨acc++ [x],by simp⟩
  ·rw [if_neg hc]
   have:=JMa r (acc++ [x]) t iv op hd
   simpa using this
theorem YRa {c:zla} (o:VCa c) {d:List UInt8} (h4:c.Buffer.length+d.length≤40000):
  VCa (w4a c d).C∧VBa c.Results (w4a c d).C.Results∧(w4a c d).C.Buffer.length≤c.Buffer.length+d.length∧((w4a c d).C.Done=true→(w4a c d).C.Buffer= []):=by
 obtain ⟨hj,hl,hc⟩:=qUb o (d:=d) h4
 have small:∀u:zla,u.Name=c.Name→u.Mail=c.Mail→u.Results.length=u.Mail.Envelope.To.length→u.Buffer.length≤40000→ZPa u:=by
  intro u h1 h2 h3 h5
  have:=(kCa o.inv.good.mail).many
  exact ⟨by rw [h1];exact o.small.name,by rw [h2];exact o.small.env,by rw [h2];exact o.small.msg,by rw [h3,h2];omega,by omega⟩
 unfold w4a
 cases hdn:c.Done with
 | true=>
  rw [if_pos rfl]
  exact ⟨⟨inv_tb (t:=⟨c, []⟩) o.inv [],fun h=> (by rw [show (tb ⟨c, []⟩ []).C.Done=c.Done from rfl,hdn] at h;cases h),(by show 0≤40000;omega),small _ rfl rfl o.inv.len (by show 0≤40000;omega)⟩,wIa _,by show 0≤_;omega,fun _=> rfl⟩
 | false=>
  rw [if_neg (by decide)]
  have r:=JMa (fl [] (c.Buffer++d)).1 [] ⟨c, []⟩ o.inv (o.opn hdn) hdn
  generalize runP ⟨c, []⟩ [] (fl [] (c.Buffer++d)).1=p at r
  obtain ⟨q,hq⟩:=r.tail
  have hfl:(zEa (fl [] (c.Buffer++d)).1).length=(zEa q).length+(zEa p.2).length:=by
   rw [List.nil_append] at hq
   have:=congrArg (fun l=> (zEa l).length) hq
   simp only [Kqa,List.length_append] at this
   exact this
  have hjl:=congrArg List.length hj
  simp only [List.length_append] at hjl hl
  have hB:(endB p (fl [] (c.Buffer++d)).2).C.Buffer.length≤c.Buffer.length+d.length:=by
   show (if p.1.C.Done=true then [] else zEa p.2++(fl [] (c.Buffer++d)).2).length≤_
   split
   ·show 0≤_;omega
   ·simp only [List.length_append];omega
  refine ⟨⟨inv_tb r.inv _,fun h=> ?_,by omega,small _ r.same.1 r.same.2.1 r.inv.len (by omega)⟩,r.stays,hB,fun h=> ?_⟩
  ·rcases r.opn with h2 | ⟨_,h2⟩
   ·rw [show (endB p (fl [] (c.Buffer++d)).2).C.Done=p.1.C.Done from rfl,h2] at h;cases h
   ·exact opn_tb h2 _
  ·show (if p.1.C.Done=true then [] else _)=_
   rw [if_pos (show p.1.C.Done=true from h)]
def pre (o:List UInt8) (t:Talk):Talk:=⟨t.C,o++t.Out⟩
theorem start_ok {n:Str} {m:zVa} {p:Bool} (h:(kRa n m).Code=0) (hn:n.length≤1048576) (h1:jea m.Envelope) (h2:yoa m.Message):VCa (Vea n m p):=by
 obtain ⟨a,b⟩:=Zca h
 have hm:=(kCa b).many
 refine ⟨⟨⟨a,b⟩,by show (List.replicate _ _).length=_;simp [Vea],Int.le_refl 0,by show (0:Int)≤(m.Envelope.To.length:Int)+4;omega,fun r hr=> ?_⟩,fun _=> ⟨?_, ?_,fun i x hx _=> ?_⟩,by show 0≤40000;omega,⟨hn,h1,h2,by show (List.replicate _ _).length≤_;simp;omega,by show 0≤_;omega⟩⟩
 ·rw [(List.mem_replicate.1 hr).2];decide
 ·show false=(decide ((0:Int)=(m.Envelope.To.length:Int)+4) || (rawP m.Message && p && decide ((2:Int)≤0)))
  rw [decide_eq_false (by omega),decide_eq_false (show ¬(2:Int)≤0 by decide)]
  simp
 ·rintro ⟨_,h⟩
  have h' :(0:Int)=(m.Envelope.To.length:Int)+3:=h
  omega
 ·exact (List.mem_replicate.1 (List.mem_of_getElem? hx)).2
def sM:zVa:=⟨⟨[115,64,120], [⟨[97,64,121],1⟩], [55]⟩,⟨[], []⟩⟩
theorem qWb:Kga [[97,64,121]]=some sM:=by
 unfold Kga
 rw [zXa (show y3a [[97,64,121]] (0, [])=some (.cont (1, [⟨[97,64,121],1⟩])) from rfl)]
 rw [zIa (show y3a [[97,64,121]] (1, [⟨[97,64,121],1⟩])=some (.out [⟨[97,64,121],1⟩]) from rfl)]
 rfl
theorem Qwa:jea sM.Envelope∧yoa sM.Message:=
 ⟨⟨by decide,by decide,by decide,fun a ha=> by
  have:∀a∈sM.Envelope.To,a.Address.length≤1048576:=by decide
  exact this a ha⟩,⟨by decide,fun f hf=> by cases hf⟩,by decide⟩
def sC:zla:=Vea [99] sM false
def d1:List UInt8:= [50,50,48,32,109,120,13,10]
def d2:List UInt8:= [50,53,48,45,109,120,13,10,50,53,48,32,111,107,13,10]
theorem qXb:(kRa [99] sM).Code=0:=by kernel_rfl
theorem sC_ok:VCa sC:=start_ok qXb (by decide) Qwa.1 Qwa.2
def sC1:zla:=⟨[99],sM,false, [],1,false,false, [0]⟩
def sC2:zla:=⟨[99],sM,false, [],2,false,false, [0]⟩
theorem s_one:w4a sC d1=⟨sC1, [104,101,108,108,111,32,99,13,10]⟩:=by kernel_rfl
end Go.Proofs.YtjnmamghadpedaaGreatDoor
namespace Go.Proofs.YtjnmamghadpedaaGreatDoor
open Go.RowKit
set_option maxHeartbeats 1000000
set_option maxRecDepth 20000
theorem dec_2:Lib.decDigits 2= [50]:=yJa (by omega)
theorem s_cmd:cmdT (z9b [115,64,120] 2)= [109,97,105,108,32,60,115,64,120,62,32,115,105,122,101,61,50]:=by
 unfold cmdT argT z9b
 simp only [Int.reduceEq,if_true,if_false]
 rw [if_neg (by decide),show ((2:Nat):Int).toNat=2 from rfl,dec_2]
 rfl
theorem s_two:w4a sC1 d2=⟨sC2, [109,97,105,108,32,60,115,64,120,62,32,115,105,122,101,61,50,13,10]⟩:=by
 have hf:fl [] (sC1.Buffer++d2)=([[50,53,48,45,109,120], [50,53,48,32,111,107]], []):=by kernel_rfl
 have hb1:¬badL [] [50,53,48,45,109,120]:=by decide+kernel
 have hc1:¬yca ([]++ [[50,53,48,45,109,120]])=0:=by decide+kernel
 have hb2:¬badL [[50,53,48,45,109,120]] [50,53,48,32,111,107]:=by decide+kernel
 have hc2:yca ([[50,53,48,45,109,120]]++ [[50,53,48,32,111,107]])=0:=by decide+kernel
 have hp:wZa ([[50,53,48,45,109,120]]++ [[50,53,48,32,111,107]])=(⟨250, [[109,120], [111,107]]⟩,2,⟨0,0⟩):=by kernel_rfl
 have hh:w2a ⟨sC1, []⟩ ⟨250, [[109,120], [111,107]]⟩=⟨sC2,ZOa [] (z9b [115,64,120] 2)⟩:=by kernel_rfl
 unfold w4a
 rw [if_neg (by decide),hf]
 rw [runP,if_neg hb1,if_neg hc1,runP,List.nil_append,if_neg hb2,if_pos hc2,hp,hh,if_neg (by decide),runP]
 unfold endB ZOa
 rw [s_cmd]
 rfl
theorem s_ok1:VCa sC1:=by
 have h:=(YRa sC_ok (d:=d1) (by decide)).1
 rw [s_one] at h
 exact h
theorem s_ok2:VCa sC2:=by
 have h:=(YRa s_ok1 (d:=d2) (by decide)).1
 rw [s_two] at h
 exact h
theorem zub {c:zla} (o:VCa c) {d:List UInt8} (h:c.Buffer.length+d.length≤40000):feedP c d=((w4a c d).C,(w4a c d).Out,⟨0,0⟩):=by
 unfold feedP
 rw [qTb o,if_neg (by simp),if_neg (by omega)]
theorem JNa:Kha=some true:=by
 unfold Kha
 rw [qWb]
 simp only [Option.bind_some]
 rw [ztb _ _ _ (by decide) Qwa.1 Qwa.2,show Qfa [99] sM false=(sC,⟨0,0⟩) by unfold Qfa;rw [if_neg (by simp [qXb])];rfl]
 simp only [Option.bind_some]
 rw [show ([(50:UInt8),(50:UInt8),(48:UInt8),(32:UInt8),(109:UInt8),(120:UInt8),(13:UInt8),(10:UInt8)]:List UInt8)=d1 from rfl,qVb _ _ sC_ok.small (by decide),zub sC_ok (by decide),s_one]
 simp only [Option.bind_some]
 rw [show ([(50:UInt8),(53:UInt8),(48:UInt8),(45:UInt8),(109:UInt8),(120:UInt8),(13:UInt8),(10:UInt8),(50:UInt8),(53:UInt8),(48:UInt8),(32:UInt8),(111:UInt8),(107:UInt8),(13:UInt8),(10:UInt8)]:List UInt8)=d2 from rfl,qVb _ _ s_ok1.small (by decide),zub s_ok1 (by decide),s_two]
 simp only [Option.bind_some]
 rw [close_eq _ s_ok2.small,show zsb sC2=(WWa sC2,⟨0,0⟩) by unfold zsb;rw [qTb s_ok2,if_neg (by simp)]]
 simp only [Option.bind_some]
 rw [show (WWa sC2).Results= [2] by kernel_rfl,show (WWa sC2).Done=true from rfl,YPa [2] (by decide)]
 kernel_rfl
end Go.Proofs.YtjnmamghadpedaaGreatDoor
namespace Go.Proofs.YtjnmamghadpedaaGreatDoor
open Go.RowKit
set_option maxHeartbeats 1000000
theorem woa (a0:Str) (a1:zVa) (a2:Bool) (o0:wQa a0) (o1:zVa.ok a1) (o2:True) (hk:(a0.length+1)+zVa.bk a1+1≤1048576):kza a0 a1 a2=some true:=by
 unfold zVa.bk at hk
 have s1:jea a1.Envelope:=qdb (by omega)
 have s2:yoa a1.Message:=qnb (by omega)
 have hto:a1.Envelope.To.length≤1048576:=by obtain ⟨_,_,h,_⟩:=s1;exact h
 unfold kza
 rw [ztb a0 a1 a2 (by omega) s1 s2,QUa a0 (by omega),Vva a1 s1 s2,JNa,zmk_eq _ (by omega)]
 simp only [Option.bind_some,ZMa,cond_true]
 have hj:((bif (!yba a0) then some ((10:Int),(-20:Int)) else some ((y7a a1).Code,(y7a a1).Index)):Option (Int × Int))=some ((kRa a0 a1).Code,(kRa a0 a1).Index):=by
  unfold kRa
  cases yba a0 <;> rfl
 rw [hj]
 simp only [Option.bind_some]
 by_cases h0:(kRa a0 a1).Code=0
 ·have e:Qfa a0 a1 a2=(Vea a0 a1 a2,⟨0,0⟩):=by unfold Qfa;rw [if_neg (by simp [h0])]
  have hz:kRa a0 a1=⟨0,0⟩:=by
   obtain ⟨hn,hm⟩:=Zca h0
   unfold kRa
   rw [hn]
   exact khb hm
  rw [e,hz]
  dsimp only
  have hs:k3a (Vea a0 a1 a2) ⟨a0,a1,a2, [],0,false,false,List.replicate a1.Envelope.To.length 0⟩=some true:=YQa _ (by show (List.replicate _ _).length≤_;simp;omega) hto s2.1.1
  exact wsa (v:=Vea a0 a1 a2) rfl (wsa (v:=true) (wsa hs rfl) rfl)
 ·have e:Qfa a0 a1 a2=(noC,kRa a0 a1):=by unfold Qfa;rw [if_pos h0]
  rw [e,show ((kRa a0 a1).Code==0)=false by simpa using h0]
  simp only [cond_false,Option.bind_some]
  rw [show wqa [((kRa a0 a1).Code==(kRa a0 a1).Code),((kRa a0 a1).Index==(kRa a0 a1).Index)]=true by simp [wqa]]
  simp only [cond_true]
  rw [show k3a noC ⟨[],⟨⟨[], [], []⟩,⟨[], []⟩⟩,false, [],0,false,false, []⟩=some true from noC_same]
  rfl
end Go.Proofs.YtjnmamghadpedaaGreatDoor
namespace Go.Proofs.YtjnmamghadpedaaGreatDoor
open Go.RowKit
set_option maxRecDepth 100000
set_option maxHeartbeats 40000000
theorem YSa (a0:List Str) (r:zVa) (hr:Kga a0=some r):Run Tryz.prog 27 [.l cS a0] (.agg [.s r.Envelope.From, .l zca.pc r.Envelope.To, .s r.Envelope.Id, .l zfa.pc r.Message.Fields, .l cU r.Message.Body]):=by
 unfold Kga at hr
 refine rf (fn:=Tryz.f27) ⟨Tryz.func27,rfl,by kernel_rfl⟩ rfl (fun _=> rfl) fun g0 hg=> ?_
 refine rn tk 10 rfl ?_
 refine v1a 1003 (o:=3) (j:=1) 85 2 rfl rfl rfl rfl (hO ?_)
 refine rn tk 1 rfl ?_
 refine v1a 2003 (o:=3) (j:=1) 85 2 rfl rfl rfl rfl (hO ?_)
 refine rn tk 9 rfl ?_
 refine al1 hr (fun s1=> [(0, .l cS a0),(2, .ptr 2 0),(3, .ptr 3 0),(4, .i s1.1)]) (fun s1=> [(2003, .row 85 false 2 (List.map zca.pc s1.2)),(3, .cells [.s (([115,64,120]:Str)), .hs 2003 0, .s (([55]:Str)), .l zfa.pc ([]), .l cU ([])]),(2, .cells [.s (([]:Str)), .l zca.pc ([]), .s (([]:Str)), .l zfa.pc ([]), .l cU ([])])]) (.exit 0) (fun b2=> [(2, .ptr 2 0),(3, .ptr 3 0)]) (fun b2=> [(2003, .row 85 false 2 (List.map zca.pc b2)),(3, .cells [.s (([115,64,120]:Str)), .hs 2003 0, .s (([55]:Str)), .l zfa.pc ([]), .l cU ([])]),(2, .cells [.s (([]:Str)), .l zca.pc ([]), .s (([]:Str)), .l zfa.pc ([]), .l cU ([])])]) rfl rfl (fun s1 x3 hr=> ?_) (fun b2 hr=> ?_)
 ·
  unfold y3a at hr
  refine rn tk 5 rfl ?_
  refine wn tk rfl rfl rfl ?_
  refine rn tk 3 rfl ?_
  refine ac 10 hr rfl (fun c4 hr=> ?_) (fun c4 hr=> ?_)
  ·
   refine rn tk 4 rfl ?_
   obtain ⟨v5,h6,hr⟩:=zaa hr
   refine dr 9 [(21, .l zca.pc (([(zca.mk v5 1)]:List zca))),(20, .agg [.s v5, .i 1]),(19, .s v5),(18, .ep [pS v5]),(17, .i s1.1),(16, .l cS a0),(15, .hs 2003 0),(14, .ptr 3 1),(13, .ptr 3 0)] mixed (by kernel_rfl) rfl rfl (pq tk rfl (.plain rfl) (pq tk rfl (.plain rfl) (pq tk rfl (.plain rfl) (pq tk rfl (.plain rfl) (pq tk rfl (.plain rfl) (.run (.plain rfl) (wfa (jxa (f:=cS) rfl rfl QMa zNa rfl h6)) (pq tk rfl (.plain rfl) (pq tk rfl (.plain rfl) (.run (.plain rfl) (yXa (F:=zca.pc) (l:=([(zca.mk v5 1)]:List zca)) zCa z2a rfl (fun _=> rfl) rfl rfl) .nil))))))))) rfl ?_
   obtain ⟨v7,h8,hr⟩:=zaa hr
   refine wa tk h8 rfl rfl rfl rfl (fun _=> rfl) rfl rfl ?_
   refine rn tk 11 rfl ?_
   cases hr
   exact atc rfl rfl
  ·
   refine rn tk 2 rfl ?_
   cases hr
   exact ato rfl rfl rfl rfl
 ·
  refine rn tk 8 rfl ?_
  refine Qsa (o:=2) (j:=1) (F:=zca.pc) (l:=b2) rfl rfl rfl (hC ?_)
  refine rn tk 1 rfl ?_
  cases hr
  exact kr tk (.inr rfl) rfl rfl
theorem Wba (a0:List Int) (a1:List Int) (r:Bool) (hr:VWa a0 a1=some r):Run Tryz.prog 18 [.l cI a0, .l cI a1] (.bo r):=by
 unfold VWa at hr
 refine rf (fn:=Tryz.f18) ⟨Tryz.func18,rfl,by kernel_rfl⟩ rfl (fun _=> rfl) fun g0 hg=> ?_
 refine rn tk 9 rfl ?_
 refine wn tk rfl rfl rfl ?_
 refine rn tk 1 rfl ?_
 refine wn tk rfl rfl rfl ?_
 refine rn tk 3 rfl ?_
 refine ac 10 hr rfl (fun c1 hr=> ?_) (fun c1 hr=> ?_)
 ·
  refine rn tk 7 rfl ?_
  cases hr
  exact kr tk (.inr rfl) rfl rfl
 ·
  refine rn tk 9 rfl ?_
  refine al2 hr (fun s2=> [(0, .l cI a0),(1, .l cI a1),(5, .i s2)]) (fun s2=> []) (.exit 0) (fun b3=> []) (fun b3=> []) .ret (fun b4=> [(4, .bo b4)]) (fun b4=> []) rfl rfl (fun s2 x6 hr=> ?_) (fun b3 hr=> ?_) (fun b4 hr=> ?_)
  ·
   unfold Kfa at hr
   refine rn tk 5 rfl ?_
   refine wn tk rfl rfl rfl ?_
   refine rn tk 3 rfl ?_
   refine ac 14 hr rfl (fun c7 hr=> ?_) (fun c7 hr=> ?_)
   ·
    refine rn tk 5 rfl ?_
    obtain ⟨v8,h9,hr⟩:=zaa hr
    obtain ⟨v10,h11,hr⟩:=zaa hr
    refine dr 8 [(24, .i v10),(23, .ep [pI v10]),(22, .i s2),(21, .l cI a1),(20, .i v8),(19, .ep [pI v8]),(18, .i s2),(17, .l cI a0)] mixed (by kernel_rfl) rfl rfl (pq tk rfl (.plain rfl) (pq tk rfl (.plain rfl) (.run (.plain rfl) (wfa (jxa (f:=cI) rfl rfl yja vLa rfl h9)) (pq tk rfl (.plain rfl) (pq tk rfl (.plain rfl) (pq tk rfl (.plain rfl) (.run (.plain rfl) (wfa (jxa (f:=cI) rfl rfl yja vLa rfl h11)) (pq tk rfl (.plain rfl) .nil)))))))) rfl ?_
    refine rn tk 3 rfl ?_
    refine ac 25 hr rfl (fun c12 hr=> ?_) (fun c12 hr=> ?_)
    ·
     refine rn tk 8 rfl ?_
     cases hr
     exact ato rfl rfl rfl rfl
    ·
     refine rn tk 8 rfl ?_
     cases hr
     exact atc rfl rfl
   ·
    refine rn tk 2 rfl ?_
    cases hr
    exact ato rfl rfl rfl rfl
  ·
   refine rn tk 8 rfl ?_
   cases hr
   exact kr tk (.inr rfl) rfl rfl
  ·
   refine rn tk 2 rfl ?_
   cases hr
   exact kr tk (.inr rfl) rfl rfl
theorem zPa (a0:zra) (r:Bool) (hr:z8a a0=some r):Run Tryz.prog 20 [.agg [.i a0.Code, .i a0.Index]] (.bo r):=by
 unfold z8a at hr
 refine rf (fn:=Tryz.f20) ⟨Tryz.func20,rfl,by kernel_rfl⟩ rfl (fun _=> rfl) fun g0 hg=> ?_
 refine rn tk 15 rfl ?_
 cases hr
 exact kr tk (.inr rfl) rfl rfl
theorem zGa (r:zra) (hr:zUa=some r):Run Tryz.prog 22 [] (.agg [.i r.Code, .i r.Index]):=by
 unfold zUa at hr
 refine rf (fn:=Tryz.f22) ⟨Tryz.func22,rfl,by kernel_rfl⟩ rfl (fun _=> rfl) fun g0 hg=> ?_
 refine rn tk 12 rfl ?_
 cases hr
 exact kr tk (.inr rfl) rfl rfl
theorem vga (a0:List zfa) (r:List zfa) (hr:zWa a0=some r):Run Tryz.prog 46 [.l zfa.pc a0] (.l zfa.pc r):=by
 unfold zWa at hr
 refine rf (fn:=Tryz.f46) ⟨Tryz.func46,rfl,by kernel_rfl⟩ rfl (fun _=> rfl) fun g0 hg=> ?_
 refine rn tk 9 rfl ?_
 refine yza (d:=3) (F:=zfa.pc) (l:=a0) rfl rfl rfl kxa (fun c1=> hO ?_) (hO ?_)
 ·
  replace hr:=Z6a c1 hr
  refine rn tk 10 rfl ?_
  cases hr
  exact kr tk (.inr rfl) rfl rfl
 ·
  replace hr:=Z7a hr
  refine rn tk 7 rfl ?_
  refine wo (jAa (k:=5) rfl kxa k0a) rfl ?_
  refine rn tk 1 rfl ?_
  obtain ⟨v2,h3,hr⟩:=zaa hr
  refine wo (wga (k:=7) (F:=zfa.pc) (xs:=a0) (lim:=4398046511104) 1002 rfl rfl rfl kxa k0a rfl rfl (fun _=> rfl) rfl rfl rfl h3) rfl ?_
  refine rn tk 3 rfl ?_
  refine yYa 1002 rfl (hC ?_)
  refine voa (d:=2) (F:=zfa.pc) (l:=v2) rfl rfl (hC ?_)
  refine rn tk 1 rfl ?_
  cases hr
  exact kr tk (.inr rfl) rfl rfl
theorem waa (a0:zVa) (r:zVa) (hr:qra a0=some r):Run Tryz.prog 21 [.agg [.s a0.Envelope.From, .l zca.pc a0.Envelope.To, .s a0.Envelope.Id, .l zfa.pc a0.Message.Fields, .l cU a0.Message.Body]] (.agg [.s r.Envelope.From, .l zca.pc r.Envelope.To, .s r.Envelope.Id, .l zfa.pc r.Message.Fields, .l cU r.Message.Body]):=by
 unfold qra at hr
 refine rf (fn:=Tryz.f21) ⟨Tryz.func21,rfl,by kernel_rfl⟩ rfl (fun _=> rfl) fun g0 hg=> ?_
 refine rn tk 11 rfl ?_
 refine ct hr (fun j1=> [(1, .ptr 1 0),(2, .ptr 2 0),(6, .l zca.pc j1)]) (fun j1=> [(2, .cells [.s (([]:Str)), .l zca.pc ([]), .s (([]:Str)), .l zfa.pc ([]), .l cU ([])]),(1, .cells [.s a0.Envelope.From, .l zca.pc a0.Envelope.To, .s a0.Envelope.Id, .l zfa.pc a0.Message.Fields, .l cU a0.Message.Body])]) (fun j1 hr jump1=> ?_) (fun j1 hr=> ?_)
 ·
  refine il (fn:=Tryz.f45) (args:= [.l zca.pc a0.Envelope.To]) 100000 199999 [(1, .ptr 1 0),(2, .ptr 2 0)] rfl ⟨Tryz.func45,rfl,by kernel_rfl⟩ rfl rfl rfl fun T1 ds1=> ?_
  refine rn tk 9 rfl ?_
  refine yza (d:=3) (F:=zca.pc) (l:=a0.Envelope.To) rfl rfl rfl zCa (fun c2=> hO ?_) (hO ?_)
  ·
   replace hr:=Z6a c2 hr
   refine rn tk 10 rfl ?_
   refine ie tk [.pv (.sl (some true) [])] [(1, .ptr 1 0),(2, .ptr 2 0)] [(2, .cells [.s (([]:Str)), .pv (.sl (some true) []), .s (([]:Str)), .pv (.sl (some true) []), .pv (.sl (some true) [])]),(1, .cells [.s a0.Envelope.From, .l zca.pc a0.Envelope.To, .s a0.Envelope.Id, .l zfa.pc a0.Message.Fields, .l cU a0.Message.Body])] (.inr rfl) rfl rfl rfl rfl ?_
   cases hr
   exact jump1 _ _ rfl rfl
  ·
   replace hr:=Z7a hr
   refine rn tk 7 rfl ?_
   refine wo (jAa (k:=5) rfl zCa z2a) rfl ?_
   refine rn tk 1 rfl ?_
   obtain ⟨v3,h4,hr⟩:=zaa hr
   refine wo (wga (k:=7) (F:=zca.pc) (xs:=a0.Envelope.To) (lim:=5864062014805) 1002 rfl rfl rfl zCa z2a rfl rfl (fun _=> rfl) rfl rfl rfl h4) rfl ?_
   refine rn tk 3 rfl ?_
   refine yYa 1002 rfl (hC ?_)
   refine voa (d:=2) (F:=zca.pc) (l:=v3) rfl rfl (hC ?_)
   refine rn tk 1 rfl ?_
   refine ie tk [.l zca.pc v3] [(1, .ptr 1 0),(2, .ptr 2 0)] [(1002, .row 85 false 2 (List.map zca.pc v3)),(2, .cells [.s (([]:Str)), .pv (.sl (some true) []), .s (([]:Str)), .pv (.sl (some true) []), .pv (.sl (some true) [])]),(1, .cells [.s a0.Envelope.From, .l zca.pc a0.Envelope.To, .s a0.Envelope.Id, .l zfa.pc a0.Message.Fields, .l cU a0.Message.Body])] (.inr rfl) rfl rfl rfl rfl ?_
   cases hr
   exact jump1 _ _ rfl rfl
 ·
  refine rn tk 6 rfl ?_
  obtain ⟨v5,h6,hr⟩:=zaa hr
  refine dr 7 [(15, .l cU a0.Message.Body),(14, .ptr 1 4),(13, .ptr 1 3),(12, .l zfa.pc v5),(11, .l zfa.pc a0.Message.Fields),(10, .ptr 1 3),(9, .ptr 1 3)] mixed (by kernel_rfl) rfl rfl (pq tk rfl (.plain rfl) (pq tk rfl (.plain rfl) (pq tk rfl (.plain rfl) (.run (.plain rfl) (qVa (vga a0.Message.Fields v5 h6) rfl) (pq tk rfl (.plain rfl) (pq tk rfl (.plain rfl) (pq tk rfl (.plain rfl) .nil))))))) rfl ?_
  refine ct hr (fun j7=> [(1, .ptr 1 0),(2, .ptr 2 0),(12, .l zfa.pc v5),(16, .l cU j7)]) (fun j7=> [(2, .cells [.s (([]:Str)), .l zca.pc ([]), .s (([]:Str)), .l zfa.pc ([]), .l cU ([])]),(1, .cells [.s a0.Envelope.From, .l zca.pc j1, .s a0.Envelope.Id, .l zfa.pc a0.Message.Fields, .l cU a0.Message.Body])]) (fun j7 hr jump2=> ?_) (fun j7 hr=> ?_)
  ·
   refine il (fn:=Tryz.f37) (args:= [.l cU a0.Message.Body]) 200000 299999 [(1, .ptr 1 0),(2, .ptr 2 0),(12, .l zfa.pc v5)] rfl ⟨Tryz.func37,rfl,by kernel_rfl⟩ rfl rfl rfl fun T2 ds2=> ?_
   refine rn tk 9 rfl ?_
   refine yza (d:=3) (F:=cU) (l:=a0.Message.Body) rfl rfl rfl zha (fun c8=> hO ?_) (hO ?_)
   ·
    replace hr:=Z6a c8 hr
    refine rn tk 10 rfl ?_
    refine ie tk [.pv (.sl (some true) [])] [(1, .ptr 1 0),(2, .ptr 2 0),(12, .l zfa.pc v5)] [(2, .cells [.s (([]:Str)), .l zca.pc ([]), .s (([]:Str)), .l zfa.pc ([]), .l cU ([])]),(1, .cells [.s a0.Envelope.From, .l zca.pc j1, .s a0.Envelope.Id, .l zfa.pc a0.Message.Fields, .l cU a0.Message.Body])] (.inr rfl) rfl rfl rfl rfl ?_
    cases hr
    exact jump2 _ _ rfl rfl
   ·
    replace hr:=Z7a hr
    refine rn tk 7 rfl ?_
    refine wo (jAa (k:=5) rfl zha zua) rfl ?_
    refine rn tk 1 rfl ?_
    obtain ⟨v9,h10,hr⟩:=zaa hr
    refine wo (wga (k:=7) (F:=cU) (xs:=a0.Message.Body) (lim:=140737488355328) 1002 rfl rfl rfl zha zua rfl rfl (fun _=> rfl) rfl rfl rfl h10) rfl ?_
    refine rn tk 3 rfl ?_
    refine yYa 1002 rfl (hC ?_)
    refine voa (d:=2) (F:=cU) (l:=v9) rfl rfl (hC ?_)
    refine rn tk 1 rfl ?_
    refine ie tk [.l cU v9] [(1, .ptr 1 0),(2, .ptr 2 0),(12, .l zfa.pc v5)] [(1002, .row 5 false 1 (List.map cU v9)),(2, .cells [.s (([]:Str)), .l zca.pc ([]), .s (([]:Str)), .l zfa.pc ([]), .l cU ([])]),(1, .cells [.s a0.Envelope.From, .l zca.pc j1, .s a0.Envelope.Id, .l zfa.pc a0.Message.Fields, .l cU a0.Message.Body])] (.inr rfl) rfl rfl rfl rfl ?_
    cases hr
    exact jump2 _ _ rfl rfl
  ·
   refine rn tk 12 rfl ?_
   cases hr
   exact kr tk (.inr rfl) rfl rfl
theorem vUa (a0:zda) (a1:Int) (r:zda) (hr:kea a0 a1=some r):RunS Tryz.prog 55 [.ptr 90000000 0, .i a1] [(90000000, .cells [.s a0.Client.Name, .s a0.Client.Mail.Envelope.From, .l zca.pc a0.Client.Mail.Envelope.To, .s a0.Client.Mail.Envelope.Id, .l zfa.pc a0.Client.Mail.Message.Fields, .l cU a0.Client.Mail.Message.Body, .bo a0.Client.Pipelined, .l cU a0.Client.Buffer, .i a0.Client.Expected, .bo a0.Client.Whole, .bo a0.Client.Done, .hs 90000012 0, .l cU a0.content, .bo a0.chunk, .hs 90000015 0]),(90000012, .row 3 true 1 (List.map cI a0.Client.Results)),(90000015, .row 5 false 1 (List.map cU a0.out))] (.tup []) [(90000000, .cells [.s r.Client.Name, .s r.Client.Mail.Envelope.From, .l zca.pc r.Client.Mail.Envelope.To, .s r.Client.Mail.Envelope.Id, .l zfa.pc r.Client.Mail.Message.Fields, .l cU r.Client.Mail.Message.Body, .bo r.Client.Pipelined, .l cU r.Client.Buffer, .i r.Client.Expected, .bo r.Client.Whole, .bo r.Client.Done, .hs 90000012 0, .l cU r.content, .bo r.chunk, .hs 90000015 0]),(90000012, .row 3 true 1 (List.map cI r.Client.Results)),(90000015, .row 5 false 1 (List.map cU r.out))] 90000000 [90000012,90000015]:=by
 unfold kea at hr
 refine rfS (fn:=Tryz.f55) (H:=90000999) (.ptr 90000000 0) ⟨Tryz.func55,rfl,by kernel_rfl⟩ rfl (hasT rfl) (.inl ⟨rfl,rfl⟩) rfl rfl rfl rfl fun g0 hg S sg T=> ?_
 refine rn tk 7 rfl ?_
 refine wnh tk rfl rfl rfl rfl ?_
 refine rn tk 4 rfl ?_
 refine al1 hr (fun s1=> [(0, .ptr 90000000 0),(1, .i a1),(10, .hs 90000012 0),(11, .i ((a0.Client.Results.length:Int))),(12, .i s1.1)]) (fun s1=> [(90000999, .hold (.ptr 90000000 0) (T.getD 0 undef)),(90000000, .cells [.s s1.2.Client.Name, .s s1.2.Client.Mail.Envelope.From, .l zca.pc s1.2.Client.Mail.Envelope.To, .s s1.2.Client.Mail.Envelope.Id, .l zfa.pc s1.2.Client.Mail.Message.Fields, .l cU s1.2.Client.Mail.Message.Body, .bo s1.2.Client.Pipelined, .l cU s1.2.Client.Buffer, .i s1.2.Client.Expected, .bo s1.2.Client.Whole, .bo s1.2.Client.Done, .hs 90000012 0, .l cU s1.2.content, .bo s1.2.chunk, .hs 90000015 0]),(90000012, .row 3 true 1 (List.map cI s1.2.Client.Results)),(90000015, .row 5 false 1 (List.map cU s1.2.out))]) (.exit 0) (fun b2=> []) (fun b2=> [(90000000, .cells [.s b2.Client.Name, .s b2.Client.Mail.Envelope.From, .l zca.pc b2.Client.Mail.Envelope.To, .s b2.Client.Mail.Envelope.Id, .l zfa.pc b2.Client.Mail.Message.Fields, .l cU b2.Client.Mail.Message.Body, .bo b2.Client.Pipelined, .l cU b2.Client.Buffer, .i b2.Client.Expected, .bo b2.Client.Whole, .bo b2.Client.Done, .hs 90000012 0, .l cU b2.content, .bo b2.chunk, .hs 90000015 0]),(90000012, .row 3 true 1 (List.map cI b2.Client.Results)),(90000015, .row 5 false 1 (List.map cU b2.out)),(90000999, .hold (.ptr 90000000 0) (T.getD 0 undef))]) rfl rfl (fun s1 x3 hr=> ?_) (fun b2 hr=> ?_)
 ·
  unfold zSa at hr
  refine rn tk 6 rfl ?_
  refine ac 13 hr rfl (fun c4 hr=> ?_) (fun c4 hr=> ?_)
  ·
   refine rn tk 2 rfl ?_
   refine jb hr (fun j5=> [(0, .ptr 90000000 0),(1, .i a1),(10, .hs 90000012 0),(11, .i ((a0.Client.Results.length:Int))),(12, .i s1.1)]) (fun j5=> [(90000000, .cells [.s j5.Client.Name, .s j5.Client.Mail.Envelope.From, .l zca.pc j5.Client.Mail.Envelope.To, .s j5.Client.Mail.Envelope.Id, .l zfa.pc j5.Client.Mail.Message.Fields, .l cU j5.Client.Mail.Message.Body, .bo j5.Client.Pipelined, .l cU j5.Client.Buffer, .i j5.Client.Expected, .bo j5.Client.Whole, .bo j5.Client.Done, .hs 90000012 0, .l cU j5.content, .bo j5.chunk, .hs 90000015 0]),(90000012, .row 3 true 1 (List.map cI j5.Client.Results)),(90000015, .row 5 false 1 (List.map cU j5.out)),(90000999, .hold (.ptr 90000000 0) (T.getD 0 undef))]) (fun j5 hr=> ?_) (fun j5 hr=> ?_)
   ·
    refine rn tk 4 rfl ?_
    obtain ⟨v6,h7,hr⟩:=zaa hr
    refine wih tk h7 rfl rfl rfl rfl rfl ?_
    obtain ⟨v8,h9,hr⟩:=zaa hr
    refine wq (J0a (F:=cI) (l:=s1.2.Client.Results) (n:=s1.1) (j:=0) rfl rfl vLa rfl h9 rfl) rfl rfl rfl ?_
    refine rn tk 10 rfl ?_
    refine ac 18 hr rfl (fun c10 hr=> ?_) (fun c10 hr=> ?_)
    ·
     refine rn tk 8 rfl ?_
     obtain ⟨v11,h12,hr⟩:=zaa hr
     refine wih tk h12 rfl rfl rfl rfl rfl ?_
     obtain ⟨v13,h14,hr⟩:=zaa hr
     refine wo (QEa (F:=cI) (l:=s1.2.Client.Results) (n:=s1.1) (j:=0) (v:=v13) (v' :=a1) (pcs:= [pI a1]) rfl rfl rfl vLa rfl h14 rfl rfl) rfl ?_
     refine rn tk 2 rfl ?_
     cases hr
     exact jn _ rfl rfl rfl
    ·
     refine rn tk 2 rfl ?_
     cases hr
     exact jn _ rfl rfl rfl
   ·
    refine rn tk 4 rfl ?_
    cases hr
    exact atc rfl rfl
  ·
   refine rn tk 2 rfl ?_
   cases hr
   exact ato rfl rfl rfl rfl
 ·
  refine rn tk 1 rfl ?_
  cases hr
  exact krS tk (.inl rfl) rfl rfl (zba rfl (zba rfl (zba rfl (zba rfl zga))))
theorem vVa (a0:zda) (r:zda) (hr:kua a0=some r):RunS Tryz.prog 32 [.ptr 90000000 0] [(90000000, .cells [.s a0.Client.Name, .s a0.Client.Mail.Envelope.From, .l zca.pc a0.Client.Mail.Envelope.To, .s a0.Client.Mail.Envelope.Id, .l zfa.pc a0.Client.Mail.Message.Fields, .l cU a0.Client.Mail.Message.Body, .bo a0.Client.Pipelined, .l cU a0.Client.Buffer, .i a0.Client.Expected, .bo a0.Client.Whole, .bo a0.Client.Done, .hs 90000012 0, .l cU a0.content, .bo a0.chunk, .hs 90000015 0]),(90000012, .row 3 true 1 (List.map cI a0.Client.Results)),(90000015, .row 5 false 1 (List.map cU a0.out))] (.tup []) [(90000000, .cells [.s r.Client.Name, .s r.Client.Mail.Envelope.From, .l zca.pc r.Client.Mail.Envelope.To, .s r.Client.Mail.Envelope.Id, .l zfa.pc r.Client.Mail.Message.Fields, .l cU r.Client.Mail.Message.Body, .bo r.Client.Pipelined, .l cU r.Client.Buffer, .i r.Client.Expected, .bo r.Client.Whole, .bo r.Client.Done, .hs 90000012 0, .l cU r.content, .bo r.chunk, .hs 90000015 0]),(90000012, .row 3 true 1 (List.map cI r.Client.Results)),(90000015, .row 5 false 1 (List.map cU r.out))] 90000000 [90000012,90000015]:=by
 unfold kua at hr
 refine rfS (fn:=Tryz.f32) (H:=90000999) (.ptr 90000000 0) ⟨Tryz.func32,rfl,by kernel_rfl⟩ rfl (hasT rfl) (.inl ⟨rfl,rfl⟩) rfl rfl rfl rfl fun g0 hg S sg T=> ?_
 refine rn tk 5 rfl ?_
 refine jb hr (fun j1=> [(0, .ptr 90000000 0),(2, .i j1)]) (fun j1=> [(90000999, .hold (.ptr 90000000 0) (T.getD 0 undef)),(90000000, .cells [.s a0.Client.Name, .s a0.Client.Mail.Envelope.From, .l zca.pc a0.Client.Mail.Envelope.To, .s a0.Client.Mail.Envelope.Id, .l zfa.pc a0.Client.Mail.Message.Fields, .l cU a0.Client.Mail.Message.Body, .bo a0.Client.Pipelined, .l cU a0.Client.Buffer, .i a0.Client.Expected, .bo a0.Client.Whole, .bo a0.Client.Done, .hs 90000012 0, .l cU a0.content, .bo a0.chunk, .hs 90000015 0]),(90000012, .row 3 true 1 (List.map cI a0.Client.Results)),(90000015, .row 5 false 1 (List.map cU a0.out))]) (fun j1 hr=> ?_) (fun j1 hr=> ?_)
 ·
  refine rn tk 9 rfl ?_
  refine ac 7 hr rfl (fun c2 hr=> ?_) (fun c2 hr=> ?_)
  ·
   refine rn tk 3 rfl ?_
   cases hr
   exact jn _ rfl rfl rfl
  ·
   refine rn tk 1 rfl ?_
   cases hr
   exact jn _ rfl rfl rfl
 ·
  refine rn tk 4 rfl ?_
  obtain ⟨v3,h4,hr⟩:=zaa hr
  refine wo (zBa (k:=10) (vUa a0 j1 v3 h4) rfl rfl (zba rfl (zba rfl (zba rfl zga)))) rfl ?_
  refine rn tk 9 rfl ?_
  cases hr
  exact krS tk (.inl rfl) rfl rfl (zba rfl (zba rfl (zba rfl (zba rfl zga))))
theorem zka (a0:Int) (a1:Int) (r:zra) (hr:zpa a0 a1=some r):Run Tryz.prog 33 [.i a0, .i a1] (.agg [.i r.Code, .i r.Index]):=by
 unfold zpa at hr
 refine rf (fn:=Tryz.f33) ⟨Tryz.func33,rfl,by kernel_rfl⟩ rfl (fun _=> rfl) fun g0 hg=> ?_
 refine rn tk 14 rfl ?_
 cases hr
 exact kr tk (.inr rfl) rfl rfl
theorem jTa (a0:List UInt8) (a1:List UInt8) (r:Bool) (hr:qJa a0 a1=some r):Run Tryz.prog 80 [.l cU a0, .l cU a1] (.bo r):=by
 unfold qJa at hr
 refine yya (fn:=Tryz.f80) ⟨Tryz.func80,rfl,by kernel_rfl⟩ rfl (fun _=> rfl) fun g0 hg=> ?_
 refine kVa ?_
 refine zFa ?_
 refine zja rfl (zma (d:=4) rfl rfl kga) ?_
 refine zQa ?_
 refine zza ?_
 refine kVa ?_
 refine zFa ?_
 refine zja rfl (zma (d:=5) rfl rfl zMa) ?_
 refine zja rfl (zma (d:=6) rfl rfl (KAa rfl zha zua zNa)) ?_
 refine zja rfl (zma (d:=7) rfl rfl zMa) ?_
 refine zja rfl (zma (d:=8) rfl rfl (KAa rfl zha zua zNa)) ?_
 refine zja rfl (zma (d:=9) rfl rfl (krb (a:=a0) (b:=a1) rfl rfl)) ?_
 refine zja rfl (zma (d:=4) rfl rfl kga) ?_
 refine zQa ?_
 refine zza ?_
 refine yOa ?_
 cases hr
 exact zAb rfl (.cons (jwa rfl) .nil) rfl
theorem w5a (a0:List UInt8) (a1:List UInt8) (r:Bool) (hr:kAa a0 a1=some r):Run Tryz.prog 58 [.l cU a0, .l cU a1] (.bo r):=by
 unfold kAa at hr
 refine yya (fn:=Tryz.f58) ⟨Tryz.func58,rfl,by kernel_rfl⟩ rfl (fun _=> rfl) fun g0 hg=> ?_
 refine kVa ?_
 refine zFa ?_
 refine zja rfl (zma (d:=4) rfl rfl kga) ?_
 refine zQa ?_
 refine zza ?_
 obtain ⟨j1,hx,hy⟩:=zaa hr
 refine yTa (fun j1=> [(4, .bo j1)]) (fun j1=> []) (fun z=> j1=z) ?_ ?_
 ·have hr:=hx
  clear hx hy
  refine zFa ?_
  refine zja rfl (zma (d:=5) rfl rfl zMa) ?_
  refine zja rfl (zma (d:=6) rfl rfl (v0a (f:=cU) rfl zha.u)) ?_
  refine zja rfl (zma (d:=7) rfl rfl zMa) ?_
  refine zja rfl (zma (d:=8) rfl rfl (v0a (f:=cU) rfl zha.u)) ?_
  refine zja rfl (zma (d:=9) rfl rfl (kpb rfl rfl)) ?_
  refine zja rfl (zma (d:=10) rfl rfl zMa) ?_
  refine j5a (decide ((a1.length:Int)≤(a0.length:Int))) (fun c2=> ?_) (fun c2=> ?_)
  ·replace hr:=K1a c2 hr
   refine zOa (d:=10) rfl rfl rfl c2 (zma (d:=11) rfl rfl zMa) ?_
   refine zOa (d:=10) rfl rfl rfl c2 (zma (d:=12) rfl rfl zMa) ?_
   refine zOa (d:=10) rfl rfl rfl c2 (zma (d:=13) rfl rfl (v0a (f:=cU) rfl zha.u)) ?_
   refine zOa (d:=10) rfl rfl rfl c2 (zma (d:=14) rfl rfl zMa) ?_
   refine zOa (d:=10) rfl rfl rfl c2 (zma (d:=15) rfl rfl (v0a (f:=cU) rfl zha.u)) ?_
   refine zOa (d:=10) rfl rfl rfl c2 (zma (d:=16) rfl rfl (ev_sub rfl rfl)) ?_
   obtain ⟨v3,h4,hr⟩:=zaa hr
   refine zOa (d:=10) rfl rfl rfl c2 (zma (d:=17) rfl rfl (Y6a (F:=cU) rfl rfl zha zua (fun _=> rfl) h4)) ?_
   refine zOa (d:=10) rfl rfl rfl c2 (zma (d:=18) rfl rfl zMa) ?_
   obtain ⟨v5,h6,hr⟩:=zaa hr
   refine zOa (d:=10) rfl rfl rfl c2 (vFa (k:=19) (jTa v3 a1 v5 h6) rfl rfl) ?_
   refine zja rfl (zma (d:=20) rfl rfl (jta rfl c2)) ?_
   refine zja rfl (zma (d:=4) rfl rfl kga) ?_
   refine zQa ?_
   cases hr
   exact kIa _ rfl (zea rfl zwa) zga
  ·replace hr:=K2a c2 hr
   refine zYa (d:=10) rfl rfl rfl c2 ?_
   refine zYa (d:=10) rfl rfl rfl c2 ?_
   refine zYa (d:=10) rfl rfl rfl c2 ?_
   refine zYa (d:=10) rfl rfl rfl c2 ?_
   refine zYa (d:=10) rfl rfl rfl c2 ?_
   refine zYa (d:=10) rfl rfl rfl c2 ?_
   refine zYa (d:=10) rfl rfl rfl c2 ?_
   refine zYa (d:=10) rfl rfl rfl c2 ?_
   refine zYa (d:=10) rfl rfl rfl c2 ?_
   refine zja rfl (zma (d:=20) rfl rfl (jua rfl c2)) ?_
   refine zja rfl (zma (d:=4) rfl rfl kga) ?_
   refine zQa ?_
   cases hr
   exact kIa _ rfl (zea rfl zwa) zga
 ·rintro _ rfl
  have hr:=hy
  clear hx hy
  refine yOa ?_
  cases hr
  exact zAb rfl (.cons (jwa rfl) .nil) rfl
theorem WXa (a0:Str) (r:Bool) (hr:jJa a0=some r):Run Tryz.prog 117 [.s a0] (.bo r):=by
 unfold jJa at hr
 refine rf (fn:=Tryz.f117) ⟨Tryz.func117,rfl,by kernel_rfl⟩ rfl (fun _=> rfl) fun g0 hg=> ?_
 refine rn tk 5 rfl ?_
 refine jb hr (fun j1=> [(2, .bo j1)]) (fun j1=> []) (fun j1 hr=> ?_) (fun j1 hr=> ?_)
 ·
  refine rn tk 4 rfl ?_
  refine bs 5 hr rfl (fun c2 hr=> ?_) (fun c2 hr=> ?_)
  ·
   refine rn tk 5 rfl ?_
   refine bs 10 hr rfl (fun c3 hr=> ?_) (fun c3 hr=> ?_)
   ·
    refine rn tk 1 rfl ?_
    refine ug rfl rfl rfl ?_
    refine ct hr (fun j4=> [(10, .bo true),(12, .bo j4)]) (fun j4=> []) (fun j4 hr jump4=> ?_) (fun j4 hr=> ?_)
    ·
     refine il (fn:=Tryz.f69) (args:= [.s a0, .fn (.func 135) [] []]) 400000 499999 [(10, .bo true)] rfl ⟨Tryz.func69,rfl,by kernel_rfl⟩ rfl rfl rfl fun T4 ds4=> ?_
     refine rn tk 14 rfl ?_
     refine al2 hr (fun s5=> [(0, .s a0),(1, .fn (.func 135) [] []),(7, .i ((a0.length:Int))),(8, .i s5)]) (fun s5=> [(499999, .sus g0.w.heap.size ds4),(400010, .hold (.bo true) (T4.getD 10 undef))]) (.exit 0) (fun b6=> []) (fun b6=> [(499999, .sus g0.w.heap.size ds4),(400010, .hold (.bo true) (T4.getD 10 undef))]) .ret (fun b7=> [(4, .bo false)]) (fun b7=> [(499999, .sus g0.w.heap.size ds4),(400010, .hold (.bo true) (T4.getD 10 undef))]) rfl rfl (fun s5 x9 hr=> ?_) (fun b6 hr=> ?_) (fun b7 hr=> ?_)
     ·
      unfold wia at hr
      refine rn tk 6 rfl ?_
      refine ac 9 hr rfl (fun c10 hr=> ?_) (fun c10 hr=> ?_)
      ·
       refine rn tk 15 rfl ?_
       obtain ⟨v11,h12,hr⟩:=zaa hr
       refine ws tk h12 rfl rfl rfl rfl ?_
       refine il (fn:=Tryz.f135) (args:= [.u8 v11]) 600000 699999 [(0, .s a0),(1, .fn (.func 135) [] []),(7, .i ((a0.length:Int))),(8, .i s5)] rfl ⟨Tryz.func135,rfl,by kernel_rfl⟩ rfl rfl rfl fun T6 ds6=> ?_
       refine rn tk 5 rfl ?_
       refine jb hr (fun j13=> [(2, .bo j13)]) (fun j13=> [(699999, .sus g0.w.heap.size ds6),(600000, .hold (.s a0) (T6.getD 0 undef)),(600001, .hold (.fn (.func 135) [] []) (T6.getD 1 undef)),(600007, .hold (.i ((a0.length:Int))) (T6.getD 7 undef)),(600008, .hold (.i s5) (T6.getD 8 undef)),(499999, .sus g0.w.heap.size ds4),(400010, .hold (.bo true) (T4.getD 10 undef))]) (fun j13 hr=> ?_) (fun j13 hr=> ?_)
       ·
        refine rn tk 4 rfl ?_
        refine bs 5 hr rfl (fun c14 hr=> ?_) (fun c14 hr=> ?_)
        ·
         refine rn tk 4 rfl ?_
         refine bs 9 hr rfl (fun c15 hr=> ?_) (fun c15 hr=> ?_)
         ·
          refine rn tk 5 rfl ?_
          cases hr
          exact jn _ rfl rfl rfl
         ·
          refine rn tk 5 rfl ?_
          cases hr
          exact jn _ rfl rfl rfl
        ·
         refine rn tk 9 rfl ?_
         cases hr
         exact jn _ rfl rfl rfl
       ·
        refine rn tk 1 rfl ?_
        refine ie tk [.bo j13] [(0, .s a0),(1, .fn (.func 135) [] []),(7, .i ((a0.length:Int))),(8, .i s5)] [(499999, .sus g0.w.heap.size ds4),(400010, .hold (.bo true) (T4.getD 10 undef))] (.inr rfl) rfl rfl rfl rfl (hO ?_)
        refine rn tk 3 rfl ?_
        refine ac 16 hr rfl (fun c16 hr=> ?_) (fun c16 hr=> ?_)
        ·
         refine rn tk 8 rfl ?_
         cases hr
         exact ato rfl rfl rfl rfl
        ·
         refine rn tk 7 rfl ?_
         cases hr
         exact atc rfl rfl
      ·
       refine rn tk 2 rfl ?_
       cases hr
       exact ato rfl rfl rfl rfl
     ·
      refine rn tk 8 rfl ?_
      refine ie tk [.bo true] [(10, .bo true)] [] (.inr rfl) rfl rfl rfl rfl ?_
      cases hr
      exact jump4 _ _ rfl rfl
     ·
      refine rn tk 2 rfl ?_
      refine ie tk [.bo false] [(10, .bo true)] [] (.inr rfl) rfl rfl rfl rfl ?_
      cases hr
      exact jump4 _ _ rfl rfl
    ·
     refine rn tk 3 rfl ?_
     cases hr
     exact jn _ rfl rfl rfl
   ·
    refine rn tk 5 rfl ?_
    cases hr
    exact jn _ rfl rfl rfl
  ·
   refine rn tk 10 rfl ?_
   cases hr
   exact jn _ rfl rfl rfl
 ·
  refine rn tk 1 rfl ?_
  cases hr
  exact kr tk (.inr rfl) rfl rfl
theorem vWa (a0:UInt8) (r:Bool) (hr:qNa a0=some r):Run Tryz.prog 137 [.u8 a0] (.bo r):=by
 unfold qNa at hr
 refine rf (fn:=Tryz.f137) ⟨Tryz.func137,rfl,by kernel_rfl⟩ rfl (fun _=> rfl) fun g0 hg=> ?_
 refine rn tk 5 rfl ?_
 refine jb hr (fun j1=> [(2, .bo j1)]) (fun j1=> []) (fun j1 hr=> ?_) (fun j1 hr=> ?_)
 ·
  refine rn tk 4 rfl ?_
  refine bs 5 hr rfl (fun c2 hr=> ?_) (fun c2 hr=> ?_)
  ·
   refine rn tk 5 rfl ?_
   cases hr
   exact jn _ rfl rfl rfl
  ·
   refine rn tk 5 rfl ?_
   cases hr
   exact jn _ rfl rfl rfl
 ·
  refine rn tk 1 rfl ?_
  cases hr
  exact kr tk (.inr rfl) rfl rfl
theorem VDa (a0:Str) (a1:Int) (r:Int) (hr:yEa a0 a1=some r):Run Tryz.prog 119 [.s a0, .i a1] (.i r):=by
 unfold yEa at hr
 refine rf (fn:=Tryz.f119) ⟨Tryz.func119,rfl,by kernel_rfl⟩ rfl (fun _=> rfl) fun g0 hg=> ?_
 refine rn tk 14 rfl ?_
 refine wq (ev_max rfl rfl) rfl rfl rfl ?_
 refine rn tk 4 rfl ?_
 refine al1 hr (fun s1=> [(0, .s a0),(5, .i s1.1),(6, .i s1.2)]) (fun s1=> []) (.exit 0) (fun b2=> [(5, .i b2)]) (fun b2=> []) rfl rfl (fun s1 x3 hr=> ?_) (fun b2 hr=> ?_)
 ·
  unfold wBa at hr
  refine rn tk 9 rfl ?_
  refine ac 12 hr rfl (fun c4 hr=> ?_) (fun c4 hr=> ?_)
  ·
   refine rn tk 2 rfl ?_
   refine jk (fun j5=> [(0, .s a0),(5, .i j5),(6, .i s1.2)]) (fun j5=> []) (fun j5=> qqa s1 j5=some x3) ?_ ?_
   ·
    refine rn tk 2 rfl ?_
    refine jb hr (fun j6=> [(0, .s a0),(5, .i s1.1),(6, .i s1.2),(26, .bo j6)]) (fun j6=> []) (fun j6 hr=> ?_) (fun j6 hr=> ?_)
    ·
     refine rn tk 3 rfl ?_
     obtain ⟨v7,h8,hr⟩:=zaa hr
     refine ws tk h8 rfl rfl rfl rfl ?_
     obtain ⟨v9,h10,hr⟩:=zaa hr
     refine cl (vWa _ _ h10) rfl rfl ?_
     refine rn tk 2 rfl ?_
     refine bs 20 hr rfl (fun c11 hr=> ?_) (fun c11 hr=> ?_)
     ·
      refine rn tk 7 rfl ?_
      cases hr
      exact jn _ rfl rfl rfl
     ·
      refine rn tk 3 rfl ?_
      obtain ⟨v12,h13,hr⟩:=zaa hr
      refine ug rfl rfl rfl ?_
      refine ws tk h13 rfl rfl rfl rfl ?_
      obtain ⟨v14,h15,hr⟩:=zaa hr
      refine ug rfl rfl rfl ?_
      refine cl (vWa _ _ h15) rfl rfl ?_
      refine rn tk 2 rfl ?_
      cases hr
      exact jn _ rfl rfl rfl
    ·
     refine ac 26 hr rfl (fun c16 hr=> ?_) (fun c16 hr=> ?_)
     ·
      refine rn tk 3 rfl ?_
      exact jn s1.1 hr rfl rfl
     ·
      refine rn tk 3 rfl ?_
      refine jb hr (fun j17=> [(0, .s a0),(5, .i s1.1),(6, .i s1.2),(32, .bo j17)]) (fun j17=> []) (fun j17 hr=> ?_) (fun j17 hr=> ?_)
      ·
       refine rn tk 4 rfl ?_
       refine bs 29 hr rfl (fun c18 hr=> ?_) (fun c18 hr=> ?_)
       ·
        refine rn tk 4 rfl ?_
        cases hr
        exact jn _ rfl rfl rfl
       ·
        refine rn tk 4 rfl ?_
        cases hr
        exact jn _ rfl rfl rfl
      ·
       refine ac 32 hr rfl (fun c19 hr=> ?_) (fun c19 hr=> ?_)
       ·
        refine rn tk 4 rfl ?_
        cases hr
        exact ato rfl rfl rfl rfl
       ·
        refine rn tk 7 rfl ?_
        exact jn s1.2 hr rfl rfl
   ·
    intro j5 hr
    unfold qqa at hr
    refine rn tk 5 rfl ?_
    cases hr
    exact atc rfl rfl
  ·
   refine rn tk 2 rfl ?_
   cases hr
   exact ato rfl rfl rfl rfl
 ·
  refine rn tk 9 rfl ?_
  cases hr
  exact kr tk (.inr rfl) rfl rfl
end Go.Proofs.YtjnmamghadpedaaGreatDoor
namespace Go.Proofs
open Go.Shelf
def Tryz.lays156_ren:Go.Shelf.Ren:=⟨fun | 156=> 166 | 165=> 175 | 166=> 176 | 169=> 177 | 240=> 183 | 241=> 184 | 276=> 191 | 277=> 192 | n=> n,fun | 31=> 76 | 9=> 9 | 3=> 3 | 4=> 4 | 0=> 0 | 20=> 20 | 72=> 194 | 76=> 131 | 70=> 192 | 37=> 26 | 75=> 130 | 127=> 187 | 164=> 206 | 5=> 5 | 80=> 195 | n=> n,fun | n=> n⟩
theorem Tryz.lays156:Go.Proofs.Lays.n156 Tryz.prog Tryz.lays156_ren:={
 mixed:=by kernel_rfl
 f156:=Tryz.func166.trans (congrArg some (by kernel_rfl))
 f165:=Tryz.func175.trans (congrArg some (by kernel_rfl))
 f166:=Tryz.func176.trans (congrArg some (by kernel_rfl))
 f169:=Tryz.func177.trans (congrArg some (by kernel_rfl))
 f240:=Tryz.func183.trans (congrArg some (by kernel_rfl))
 f241:=Tryz.func184.trans (congrArg some (by kernel_rfl))
 f276:=Tryz.func191.trans (congrArg some (by kernel_rfl))
 f277:=Tryz.func192.trans (congrArg some (by kernel_rfl))
 t0:=Tryz.underlying0
 a0:=Tryz.isAgg0
 z0:=Tryz.sizeOf0
 v0:=Tryz.zeroValue0
 t3:=Tryz.underlying3
 a3:=Tryz.isAgg3
 z3:=Tryz.sizeOf3
 v3:=Tryz.zeroValue3
 t4:=Tryz.underlying4
 a4:=Tryz.isAgg4
 z4:=Tryz.sizeOf4
 v4:=Tryz.zeroValue4
 t9:=Tryz.underlying9
 a9:=Tryz.isAgg9
 z9:=Tryz.sizeOf9
 v9:=Tryz.zeroValue9
 t20:=Tryz.underlying20
 a20:=Tryz.isAgg20
 z20:=Tryz.sizeOf20
 v20:=Tryz.zeroValue20
 t31:=Tryz.underlying76
 a31:=Tryz.isAgg76
 z31:=Tryz.sizeOf76
 v31:=Tryz.zeroValue76
 t37:=Tryz.underlying26
 a37:=Tryz.isAgg26
 z37:=Tryz.sizeOf26
 v37:=Tryz.zeroValue26
 t70:=Tryz.underlying192
 a70:=Tryz.isAgg192
 z70:=Tryz.sizeOf192
 v70:=Tryz.zeroValue192
 t72:=Tryz.underlying194
 a72:=Tryz.isAgg194
 z72:=Tryz.sizeOf194
 v72:=Tryz.zeroValue194
 t75:=Tryz.underlying130
 a75:=Tryz.isAgg130
 z75:=Tryz.sizeOf130
 v75:=Tryz.zeroValue130
 t76:=Tryz.underlying131
 a76:=Tryz.isAgg131
 z76:=Tryz.sizeOf131
 v76:=Tryz.zeroValue131
 t127:=Tryz.underlying187
 a127:=Tryz.isAgg187
 z127:=Tryz.sizeOf187
 v127:=Tryz.zeroValue187
 t164:=Tryz.underlying206
 a164:=Tryz.isAgg206
 z164:=Tryz.sizeOf206
 v164:=Tryz.zeroValue206}
theorem Tryz.Builder_Extra_156:Builder.Extra Tryz.prog Tryz.lays156_ren:={
 sizeBuilder:=by kernel_rfl
 liesBuilder:=by kernel_rfl
 t5:=Tryz.underlying5
 a5:=Tryz.isAgg5
 z5:=Tryz.sizeOf5
 v5:=Tryz.zeroValue5
 infoByte:=by kernel_rfl
 cellsByte:=by kernel_rfl
 sizeByte:=by kernel_rfl
 neB5:=by decide}
open Go.RowKit in
theorem Tryz.strings_Join_none (a:Option Addr) (c:Nat) (sep:ByteArray) (w:World):
 Calls Tryz.prog 166 #[.slice a 0 c, .string sep] w fun e w' => e= .returned (.string ⟨#[]⟩)∧w' =w:=Any.strings_Join_none Tryz.lays156 Tryz.Builder_Extra_156 a c sep w
open Go.RowKit in
theorem Tryz.strings_Join (bk o c:Nat) (xs:List ByteArray) (sep:ByteArray) (w:World) (hcells:∀(j:Nat) x,xs[j]? =some x→w.cell? ⟨bk,o+j,none⟩=some (.string x)) (hbk:bk < w.heap.size) (hN:xs.length≤140737488355328) (hcap:xs.length≤c) (hlen:(Lib.join (xs.map (·.data.toList)) sep.data.toList).length≤140737488355328):
 Calls Tryz.prog 166 #[.slice (some ⟨bk,o,none⟩) xs.length c, .string sep] w fun e w' => e= .returned (.string ⟨(Lib.join (xs.map (·.data.toList)) sep.data.toList).toArray⟩)∧Below w.heap.size w w' :=Any.strings_Join Tryz.lays156 Tryz.Builder_Extra_156 bk o c xs sep w hcells hbk hN hcap hlen
def Tryz.lays137_ren:Go.Shelf.Ren:=⟨fun | 137=> 132 | 217=> 153 | 266=> 168 | n=> n,fun | 9=> 9 | 5=> 5 | 3=> 3 | n=> n,fun | n=> n⟩
theorem Tryz.lays137:Go.Proofs.Lays.n137 Tryz.prog Tryz.lays137_ren:={
 mixed:=by kernel_rfl
 f137:=Tryz.func132.trans (congrArg some (by kernel_rfl))
 f217:=Tryz.func153.trans (congrArg some (by kernel_rfl))
 f266:=Tryz.func168.trans (congrArg some (by kernel_rfl))
 t3:=Tryz.underlying3
 a3:=Tryz.isAgg3
 z3:=Tryz.sizeOf3
 v3:=Tryz.zeroValue3
 t5:=Tryz.underlying5
 a5:=Tryz.isAgg5
 z5:=Tryz.sizeOf5
 v5:=Tryz.zeroValue5
 t9:=Tryz.underlying9
 a9:=Tryz.isAgg9
 z9:=Tryz.sizeOf9
 v9:=Tryz.zeroValue9}
open Go.RowKit in
theorem Tryz.strings_IndexByte (s:ByteArray) (c:Int) (w:World):
 Calls Tryz.prog 132 #[.string s, .int .u8 c] w fun e w' => e= .returned (.int .i64 (Lib.indexByte s.data.toList c.toNat.toUInt8))∧w' =w:=Any.strings_IndexByte Tryz.lays137 s c w
def Tryz.lays172_ren:Go.Shelf.Ren:=⟨fun | 172=> 104 | 244=> 121 | 245=> 122 | 247=> 142 | 279=> 143 | 280=> 144 | 281=> 145 | 282=> 146 | 287=> 160 | 316=> 161 | 171=> 149 | 205=> 162 | 321=> 172 | 322=> 173 | 243=> 164 | 246=> 174 | 283=> 179 | 284=> 180 | 285=> 181 | 286=> 182 | 129=> 187 | 317=> 186 | 318=> 188 | 319=> 189 | 320=> 190 | 337=> 193 | 338=> 194 | n=> n,fun | 9=> 9 | 3=> 3 | 75=> 130 | 76=> 131 | 4=> 4 | 5=> 5 | 167=> 161 | 37=> 26 | 0=> 0 | 85=> 162 | 2=> 2 | 168=> 164 | 53=> 173 | 175=> 174 | 46=> 111 | 210=> 178 | 127=> 187 | 145=> 190 | 143=> 188 | 21=> 21 | 171=> 196 | 173=> 199 | 212=> 203 | 51=> 125 | 20=> 20 | 213=> 204 | 232=> 210 | 233=> 211 | 80=> 195 | n=> n,fun | 15=> 1 | 16=> 2 | 17=> 3 | 18=> 4 | 19=> 5 | n=> n⟩
theorem Tryz.lays172:Go.Proofs.Lays.n172 Tryz.prog Tryz.lays172_ren:={
 mixed:=by kernel_rfl
 f129:=Tryz.func187.trans (congrArg some (by kernel_rfl))
 f171:=Tryz.func149.trans (congrArg some (by kernel_rfl))
 f172:=Tryz.func104.trans (congrArg some (by kernel_rfl))
 f205:=Tryz.func162.trans (congrArg some (by kernel_rfl))
 f243:=Tryz.func164.trans (congrArg some (by kernel_rfl))
 f244:=Tryz.func121.trans (congrArg some (by kernel_rfl))
 f245:=Tryz.func122.trans (congrArg some (by kernel_rfl))
 f246:=Tryz.func174.trans (congrArg some (by kernel_rfl))
 f247:=Tryz.func142.trans (congrArg some (by kernel_rfl))
 f279:=Tryz.func143.trans (congrArg some (by kernel_rfl))
 f280:=Tryz.func144.trans (congrArg some (by kernel_rfl))
 f281:=Tryz.func145.trans (congrArg some (by kernel_rfl))
 f282:=Tryz.func146.trans (congrArg some (by kernel_rfl))
 f283:=Tryz.func179.trans (congrArg some (by kernel_rfl))
 f284:=Tryz.func180.trans (congrArg some (by kernel_rfl))
 f285:=Tryz.func181.trans (congrArg some (by kernel_rfl))
 f286:=Tryz.func182.trans (congrArg some (by kernel_rfl))
 f287:=Tryz.func160.trans (congrArg some (by kernel_rfl))
 f316:=Tryz.func161.trans (congrArg some (by kernel_rfl))
 f317:=Tryz.func186.trans (congrArg some (by kernel_rfl))
 f318:=Tryz.func188.trans (congrArg some (by kernel_rfl))
 f319:=Tryz.func189.trans (congrArg some (by kernel_rfl))
 f320:=Tryz.func190.trans (congrArg some (by kernel_rfl))
 f321:=Tryz.func172.trans (congrArg some (by kernel_rfl))
 f322:=Tryz.func173.trans (congrArg some (by kernel_rfl))
 f337:=Tryz.func193.trans (congrArg some (by kernel_rfl))
 f338:=Tryz.func194.trans (congrArg some (by kernel_rfl))
 t0:=Tryz.underlying0
 a0:=Tryz.isAgg0
 z0:=Tryz.sizeOf0
 v0:=Tryz.zeroValue0
 t2:=Tryz.underlying2
 a2:=Tryz.isAgg2
 z2:=Tryz.sizeOf2
 v2:=Tryz.zeroValue2
 t3:=Tryz.underlying3
 a3:=Tryz.isAgg3
 z3:=Tryz.sizeOf3
 v3:=Tryz.zeroValue3
 t4:=Tryz.underlying4
 a4:=Tryz.isAgg4
 z4:=Tryz.sizeOf4
 v4:=Tryz.zeroValue4
 t5:=Tryz.underlying5
 a5:=Tryz.isAgg5
 z5:=Tryz.sizeOf5
 v5:=Tryz.zeroValue5
 t9:=Tryz.underlying9
 a9:=Tryz.isAgg9
 z9:=Tryz.sizeOf9
 v9:=Tryz.zeroValue9
 t20:=Tryz.underlying20
 a20:=Tryz.isAgg20
 z20:=Tryz.sizeOf20
 v20:=Tryz.zeroValue20
 t21:=Tryz.underlying21
 a21:=Tryz.isAgg21
 z21:=Tryz.sizeOf21
 v21:=Tryz.zeroValue21
 t37:=Tryz.underlying26
 a37:=Tryz.isAgg26
 z37:=Tryz.sizeOf26
 v37:=Tryz.zeroValue26
 t46:=Tryz.underlying111
 a46:=Tryz.isAgg111
 z46:=Tryz.sizeOf111
 v46:=Tryz.zeroValue111
 t51:=Tryz.underlying125
 a51:=Tryz.isAgg125
 z51:=Tryz.sizeOf125
 v51:=Tryz.zeroValue125
 t53:=Tryz.underlying173
 a53:=Tryz.isAgg173
 z53:=Tryz.sizeOf173
 v53:=Tryz.zeroValue173
 t75:=Tryz.underlying130
 a75:=Tryz.isAgg130
 z75:=Tryz.sizeOf130
 v75:=Tryz.zeroValue130
 t76:=Tryz.underlying131
 a76:=Tryz.isAgg131
 z76:=Tryz.sizeOf131
 v76:=Tryz.zeroValue131
 t85:=Tryz.underlying162
 a85:=Tryz.isAgg162
 z85:=Tryz.sizeOf162
 v85:=Tryz.zeroValue162
 t127:=Tryz.underlying187
 a127:=Tryz.isAgg187
 z127:=Tryz.sizeOf187
 v127:=Tryz.zeroValue187
 t143:=Tryz.underlying188
 a143:=Tryz.isAgg188
 z143:=Tryz.sizeOf188
 v143:=Tryz.zeroValue188
 t145:=Tryz.underlying190
 a145:=Tryz.isAgg190
 z145:=Tryz.sizeOf190
 v145:=Tryz.zeroValue190
 t167:=Tryz.underlying161
 a167:=Tryz.isAgg161
 z167:=Tryz.sizeOf161
 v167:=Tryz.zeroValue161
 t168:=Tryz.underlying164
 a168:=Tryz.isAgg164
 z168:=Tryz.sizeOf164
 v168:=Tryz.zeroValue164
 t171:=Tryz.underlying196
 a171:=Tryz.isAgg196
 z171:=Tryz.sizeOf196
 v171:=Tryz.zeroValue196
 t173:=Tryz.underlying199
 a173:=Tryz.isAgg199
 z173:=Tryz.sizeOf199
 v173:=Tryz.zeroValue199
 t175:=Tryz.underlying174
 a175:=Tryz.isAgg174
 z175:=Tryz.sizeOf174
 v175:=Tryz.zeroValue174
 t210:=Tryz.underlying178
 a210:=Tryz.isAgg178
 z210:=Tryz.sizeOf178
 v210:=Tryz.zeroValue178
 t212:=Tryz.underlying203
 a212:=Tryz.isAgg203
 z212:=Tryz.sizeOf203
 v212:=Tryz.zeroValue203
 t213:=Tryz.underlying204
 a213:=Tryz.isAgg204
 z213:=Tryz.sizeOf204
 t232:=Tryz.underlying210
 a232:=Tryz.isAgg210
 z232:=Tryz.sizeOf210
 v232:=Tryz.zeroValue210
 t233:=Tryz.underlying211
 a233:=Tryz.isAgg211
 z233:=Tryz.sizeOf211
 v233:=Tryz.zeroValue211
 g15:=by kernel_rfl
 g16:=by kernel_rfl
 g17:=by kernel_rfl
 g18:=by kernel_rfl
 g19:=by kernel_rfl}
open Go.RowKit in
theorem Tryz.strconv_Atoi (s:ByteArray) (n:Int) (hl:s.size≤18) (h:Lib.atoi s.data.toList=some n) (w:World):
 Calls Tryz.prog 104 #[.string s] w fun e w' => e= .returned (.tuple #[.int .i64 n, .nilIface])∧∃t,w' =Lib.bytesWorld w 5 t:=Any.strconv_Atoi Tryz.lays172 s n hl h w
def Tryz.laysM171_ren:Go.Shelf.Ren:=⟨fun | 171=> 149 | 243=> 164 | 246=> 174 | 283=> 179 | 284=> 180 | 285=> 181 | 286=> 182 | 129=> 187 | 317=> 186 | 318=> 188 | 319=> 189 | 320=> 190 | 337=> 193 | 338=> 194 | n=> n,fun | 3=> 3 | 9=> 9 | 2=> 2 | 4=> 4 | 171=> 196 | 0=> 0 | 53=> 173 | 37=> 26 | 5=> 5 | 173=> 199 | 212=> 203 | 51=> 125 | 20=> 20 | 213=> 204 | 46=> 111 | 232=> 210 | 233=> 211 | n=> n,fun | 17=> 3 | 18=> 4 | 19=> 5 | n=> n⟩
theorem Tryz.laysM171:Go.Proofs.LaysM.n171 Tryz.prog Tryz.laysM171_ren:={
 mixed:=by kernel_rfl
 f129:=Tryz.func187.trans (congrArg some (by kernel_rfl))
 f171:=Tryz.func149.trans (congrArg some (by kernel_rfl))
 f243:=Tryz.func164.trans (congrArg some (by kernel_rfl))
 f246:=Tryz.func174.trans (congrArg some (by kernel_rfl))
 f283:=Tryz.func179.trans (congrArg some (by kernel_rfl))
 f284:=Tryz.func180.trans (congrArg some (by kernel_rfl))
 f285:=Tryz.func181.trans (congrArg some (by kernel_rfl))
 f286:=Tryz.func182.trans (congrArg some (by kernel_rfl))
 f317:=Tryz.func186.trans (congrArg some (by kernel_rfl))
 f318:=Tryz.func188.trans (congrArg some (by kernel_rfl))
 f319:=Tryz.func189.trans (congrArg some (by kernel_rfl))
 f320:=Tryz.func190.trans (congrArg some (by kernel_rfl))
 f337:=Tryz.func193.trans (congrArg some (by kernel_rfl))
 f338:=Tryz.func194.trans (congrArg some (by kernel_rfl))
 t0:=Tryz.underlying0
 a0:=Tryz.isAgg0
 z0:=Tryz.sizeOf0
 v0:=Tryz.zeroValue0
 t2:=Tryz.underlying2
 a2:=Tryz.isAgg2
 z2:=Tryz.sizeOf2
 v2:=Tryz.zeroValue2
 t3:=Tryz.underlying3
 a3:=Tryz.isAgg3
 z3:=Tryz.sizeOf3
 v3:=Tryz.zeroValue3
 t4:=Tryz.underlying4
 a4:=Tryz.isAgg4
 z4:=Tryz.sizeOf4
 v4:=Tryz.zeroValue4
 t5:=Tryz.underlying5
 a5:=Tryz.isAgg5
 z5:=Tryz.sizeOf5
 v5:=Tryz.zeroValue5
 t9:=Tryz.underlying9
 a9:=Tryz.isAgg9
 z9:=Tryz.sizeOf9
 v9:=Tryz.zeroValue9
 t20:=Tryz.underlying20
 a20:=Tryz.isAgg20
 z20:=Tryz.sizeOf20
 v20:=Tryz.zeroValue20
 t37:=Tryz.underlying26
 a37:=Tryz.isAgg26
 z37:=Tryz.sizeOf26
 v37:=Tryz.zeroValue26
 t46:=Tryz.underlying111
 a46:=Tryz.isAgg111
 z46:=Tryz.sizeOf111
 v46:=Tryz.zeroValue111
 t51:=Tryz.underlying125
 a51:=Tryz.isAgg125
 z51:=Tryz.sizeOf125
 v51:=Tryz.zeroValue125
 t53:=Tryz.underlying173
 a53:=Tryz.isAgg173
 z53:=Tryz.sizeOf173
 v53:=Tryz.zeroValue173
 t171:=Tryz.underlying196
 a171:=Tryz.isAgg196
 z171:=Tryz.sizeOf196
 v171:=Tryz.zeroValue196
 t173:=Tryz.underlying199
 a173:=Tryz.isAgg199
 z173:=Tryz.sizeOf199
 v173:=Tryz.zeroValue199
 t212:=Tryz.underlying203
 a212:=Tryz.isAgg203
 z212:=Tryz.sizeOf203
 v212:=Tryz.zeroValue203
 t213:=Tryz.underlying204
 a213:=Tryz.isAgg204
 z213:=Tryz.sizeOf204
 t232:=Tryz.underlying210
 a232:=Tryz.isAgg210
 z232:=Tryz.sizeOf210
 v232:=Tryz.zeroValue210
 t233:=Tryz.underlying211
 a233:=Tryz.isAgg211
 z233:=Tryz.sizeOf211
 v233:=Tryz.zeroValue211
 g17:=by kernel_rfl
 g18:=by kernel_rfl
 g19:=by kernel_rfl
 i0:=by kernel_rfl
 i2:=by kernel_rfl
 i3:=by kernel_rfl
 i4:=by kernel_rfl
 i5:=by kernel_rfl
 i9:=by kernel_rfl
 i20:=by kernel_rfl
 i37:=by kernel_rfl
 i46:=by kernel_rfl
 i51:=by kernel_rfl
 i53:=by kernel_rfl
 i171:=by kernel_rfl
 i173:=by kernel_rfl
 i212:=by kernel_rfl
 i232:=by kernel_rfl
 i233:=by kernel_rfl
 m17:=by kernel_rfl
 m18:=by kernel_rfl
 m19:=by kernel_rfl}
open Go.RowKit Go.Sort Go.Lib in
theorem Tryz.strconv_Itoa (n : Int) (h0 : -9223372036854775808 ≤ n) (h1 : n ≤ 9223372036854775807) (w : World) (htab : Lib.TabIs Tryz.prog w "internal/strconv.uint64pow10" .u64 Lib.pow10Tab) :
 Calls Tryz.prog 149 #[.int .i64 n] w fun e w' => e= .returned (.string ⟨(Lib.itoa n).toArray⟩)∧∃k os,w' =grow (w.drewN k) os:=Any.strconv_Itoa Tryz.laysM171 n h0 h1 w htab
def Tryz.laysC172_ren:Go.Shelf.Ren:=⟨fun | 172=> 104 | 244=> 121 | 245=> 122 | 247=> 142 | 279=> 143 | 280=> 144 | 281=> 145 | 282=> 146 | 287=> 160 | 316=> 161 | 171=> 149 | 205=> 162 | 321=> 172 | 322=> 173 | 243=> 164 | 246=> 174 | 283=> 179 | 284=> 180 | 285=> 181 | 286=> 182 | 129=> 187 | 317=> 186 | 318=> 188 | 319=> 189 | 320=> 190 | 337=> 193 | 338=> 194 | n=> n,fun | 9=> 9 | 3=> 3 | 75=> 130 | 76=> 131 | 4=> 4 | 5=> 5 | 167=> 161 | 37=> 26 | 0=> 0 | 85=> 162 | 2=> 2 | 168=> 164 | 53=> 173 | 175=> 174 | 46=> 111 | 210=> 178 | 127=> 187 | 145=> 190 | 143=> 188 | 21=> 21 | 171=> 196 | 173=> 199 | 212=> 203 | 51=> 125 | 20=> 20 | 213=> 204 | 232=> 210 | 233=> 211 | 80=> 195 | n=> n,fun | 15=> 1 | 16=> 2 | 17=> 3 | 18=> 4 | 19=> 5 | n=> n⟩
theorem Tryz.laysC172:Go.Proofs.LaysC.n172 Tryz.prog Tryz.laysC172_ren:={
 mixed:=by kernel_rfl
 f129:=Tryz.func187.trans (congrArg some (by kernel_rfl))
 f171:=Tryz.func149.trans (congrArg some (by kernel_rfl))
 f172:=Tryz.func104.trans (congrArg some (by kernel_rfl))
 f205:=Tryz.func162.trans (congrArg some (by kernel_rfl))
 f243:=Tryz.func164.trans (congrArg some (by kernel_rfl))
 f244:=Tryz.func121.trans (congrArg some (by kernel_rfl))
 f245:=Tryz.func122.trans (congrArg some (by kernel_rfl))
 f246:=Tryz.func174.trans (congrArg some (by kernel_rfl))
 f247:=Tryz.func142.trans (congrArg some (by kernel_rfl))
 f279:=Tryz.func143.trans (congrArg some (by kernel_rfl))
 f280:=Tryz.func144.trans (congrArg some (by kernel_rfl))
 f281:=Tryz.func145.trans (congrArg some (by kernel_rfl))
 f282:=Tryz.func146.trans (congrArg some (by kernel_rfl))
 f283:=Tryz.func179.trans (congrArg some (by kernel_rfl))
 f284:=Tryz.func180.trans (congrArg some (by kernel_rfl))
 f285:=Tryz.func181.trans (congrArg some (by kernel_rfl))
 f286:=Tryz.func182.trans (congrArg some (by kernel_rfl))
 f287:=Tryz.func160.trans (congrArg some (by kernel_rfl))
 f316:=Tryz.func161.trans (congrArg some (by kernel_rfl))
 f317:=Tryz.func186.trans (congrArg some (by kernel_rfl))
 f318:=Tryz.func188.trans (congrArg some (by kernel_rfl))
 f319:=Tryz.func189.trans (congrArg some (by kernel_rfl))
 f320:=Tryz.func190.trans (congrArg some (by kernel_rfl))
 f321:=Tryz.func172.trans (congrArg some (by kernel_rfl))
 f322:=Tryz.func173.trans (congrArg some (by kernel_rfl))
 f337:=Tryz.func193.trans (congrArg some (by kernel_rfl))
 f338:=Tryz.func194.trans (congrArg some (by kernel_rfl))
 t0:=Tryz.underlying0
 a0:=Tryz.isAgg0
 z0:=Tryz.sizeOf0
 v0:=Tryz.zeroValue0
 t2:=Tryz.underlying2
 a2:=Tryz.isAgg2
 z2:=Tryz.sizeOf2
 v2:=Tryz.zeroValue2
 t3:=Tryz.underlying3
 a3:=Tryz.isAgg3
 z3:=Tryz.sizeOf3
 v3:=Tryz.zeroValue3
 t4:=Tryz.underlying4
 a4:=Tryz.isAgg4
 z4:=Tryz.sizeOf4
 v4:=Tryz.zeroValue4
 t5:=Tryz.underlying5
 a5:=Tryz.isAgg5
 z5:=Tryz.sizeOf5
 v5:=Tryz.zeroValue5
 t9:=Tryz.underlying9
 a9:=Tryz.isAgg9
 z9:=Tryz.sizeOf9
 v9:=Tryz.zeroValue9
 t20:=Tryz.underlying20
 a20:=Tryz.isAgg20
 z20:=Tryz.sizeOf20
 v20:=Tryz.zeroValue20
 t21:=Tryz.underlying21
 a21:=Tryz.isAgg21
 z21:=Tryz.sizeOf21
 v21:=Tryz.zeroValue21
 t37:=Tryz.underlying26
 a37:=Tryz.isAgg26
 z37:=Tryz.sizeOf26
 v37:=Tryz.zeroValue26
 t46:=Tryz.underlying111
 a46:=Tryz.isAgg111
 z46:=Tryz.sizeOf111
 v46:=Tryz.zeroValue111
 t51:=Tryz.underlying125
 a51:=Tryz.isAgg125
 z51:=Tryz.sizeOf125
 v51:=Tryz.zeroValue125
 t53:=Tryz.underlying173
 a53:=Tryz.isAgg173
 z53:=Tryz.sizeOf173
 v53:=Tryz.zeroValue173
 t75:=Tryz.underlying130
 a75:=Tryz.isAgg130
 z75:=Tryz.sizeOf130
 v75:=Tryz.zeroValue130
 t76:=Tryz.underlying131
 a76:=Tryz.isAgg131
 z76:=Tryz.sizeOf131
 v76:=Tryz.zeroValue131
 t85:=Tryz.underlying162
 a85:=Tryz.isAgg162
 z85:=Tryz.sizeOf162
 v85:=Tryz.zeroValue162
 t127:=Tryz.underlying187
 a127:=Tryz.isAgg187
 z127:=Tryz.sizeOf187
 v127:=Tryz.zeroValue187
 t143:=Tryz.underlying188
 a143:=Tryz.isAgg188
 z143:=Tryz.sizeOf188
 v143:=Tryz.zeroValue188
 t145:=Tryz.underlying190
 a145:=Tryz.isAgg190
 z145:=Tryz.sizeOf190
 v145:=Tryz.zeroValue190
 t167:=Tryz.underlying161
 a167:=Tryz.isAgg161
 z167:=Tryz.sizeOf161
 v167:=Tryz.zeroValue161
 t168:=Tryz.underlying164
 a168:=Tryz.isAgg164
 z168:=Tryz.sizeOf164
 v168:=Tryz.zeroValue164
 t171:=Tryz.underlying196
 a171:=Tryz.isAgg196
 z171:=Tryz.sizeOf196
 v171:=Tryz.zeroValue196
 t173:=Tryz.underlying199
 a173:=Tryz.isAgg199
 z173:=Tryz.sizeOf199
 v173:=Tryz.zeroValue199
 t175:=Tryz.underlying174
 a175:=Tryz.isAgg174
 z175:=Tryz.sizeOf174
 v175:=Tryz.zeroValue174
 t210:=Tryz.underlying178
 a210:=Tryz.isAgg178
 z210:=Tryz.sizeOf178
 v210:=Tryz.zeroValue178
 t212:=Tryz.underlying203
 a212:=Tryz.isAgg203
 z212:=Tryz.sizeOf203
 v212:=Tryz.zeroValue203
 t213:=Tryz.underlying204
 a213:=Tryz.isAgg204
 z213:=Tryz.sizeOf204
 t232:=Tryz.underlying210
 a232:=Tryz.isAgg210
 z232:=Tryz.sizeOf210
 v232:=Tryz.zeroValue210
 t233:=Tryz.underlying211
 a233:=Tryz.isAgg211
 z233:=Tryz.sizeOf211
 v233:=Tryz.zeroValue211
 g15:=by kernel_rfl
 g16:=by kernel_rfl
 g17:=by kernel_rfl
 g18:=by kernel_rfl
 g19:=by kernel_rfl
 t80:=Tryz.underlying195
 a80:=Tryz.isAgg195
 z80:=Tryz.sizeOf195
 v80:=Tryz.zeroValue195
 i0:=by kernel_rfl
 i2:=by kernel_rfl
 i3:=by kernel_rfl
 i4:=by kernel_rfl
 i5:=by kernel_rfl
 i9:=by kernel_rfl
 i20:=by kernel_rfl
 i21:=by kernel_rfl
 i37:=by kernel_rfl
 i46:=by kernel_rfl
 i51:=by kernel_rfl
 i53:=by kernel_rfl
 i75:=by kernel_rfl
 i76:=by kernel_rfl
 i80:=by kernel_rfl
 i85:=by kernel_rfl
 i127:=by kernel_rfl
 i143:=by kernel_rfl
 i145:=by kernel_rfl
 i167:=by kernel_rfl
 i168:=by kernel_rfl
 i171:=by kernel_rfl
 i173:=by kernel_rfl
 i175:=by kernel_rfl
 i210:=by kernel_rfl
 i212:=by kernel_rfl
 i232:=by kernel_rfl
 i233:=by kernel_rfl
 m15:=by kernel_rfl
 m16:=by kernel_rfl
 m17:=by kernel_rfl
 m18:=by kernel_rfl
 m19:=by kernel_rfl
 c0:=by kernel_rfl
 c2:=by kernel_rfl
 c3:=by kernel_rfl
 c4:=by kernel_rfl
 c5:=by kernel_rfl
 c9:=by kernel_rfl
 c20:=by kernel_rfl
 c21:=by kernel_rfl
 c37:=by kernel_rfl
 c46:=by kernel_rfl
 c51:=by kernel_rfl
 c53:=by kernel_rfl
 c75:=by kernel_rfl
 c76:=by kernel_rfl
 c80:=by kernel_rfl
 c85:=by kernel_rfl
 c127:=by kernel_rfl
 c143:=by kernel_rfl
 c145:=by kernel_rfl
 c167:=by kernel_rfl
 c168:=by kernel_rfl
 c171:=by kernel_rfl
 c173:=by kernel_rfl
 c175:=by kernel_rfl
 c210:=by kernel_rfl
 c212:=by kernel_rfl
 c213:=by kernel_rfl
 c232:=by kernel_rfl
 c233:=by kernel_rfl}
open Go.RowKit in
theorem Tryz.strconv_Atoi_err_var (s : ByteArray) (hl : s.size ≤ 18) (h : Lib.atoi s.data.toList = none) (tp : TypeId) (p : Value) (w : World) (hvar : w.var? Tryz.prog "strconv.ErrSyntax" = some #[.iface tp p]) :
 Calls Tryz.prog 104 #[.string s] w fun e w' => ∃N,e= .returned (.tuple #[.int .i64 0, .iface 164 (.pointer (some ⟨N,0,none⟩))])∧w.heap.size≤N∧w'.heap[N]? =some (.cells #[.string ⟨#[65,116,111,105]⟩, .string s, .iface tp p] 178 (0,0))∧Below w.heap.size w w' :=Any.strconv_Atoi_err_var Tryz.laysC172 s hl h tp p w hvar
def Tryz.lays144_ren:Go.Shelf.Ren:=⟨fun | 144=> 157 | 143=> 171 | 219=> 167 | 217=> 153 | 225=> 159 | 224=> 83 | 267=> 178 | 266=> 168 | 314=> 185 | n=> n,fun | 9=> 9 | 4=> 4 | 3=> 3 | 5=> 5 | 46=> 111 | 146=> 126 | 51=> 125 | n=> n,fun | 1=> 0 | n=> n⟩
theorem Tryz.lays144:Go.Proofs.Lays.n144 Tryz.prog Tryz.lays144_ren:={
 mixed:=by kernel_rfl
 f143:=Tryz.func171.trans (congrArg some (by kernel_rfl))
 f144:=Tryz.func157.trans (congrArg some (by kernel_rfl))
 f217:=Tryz.func153.trans (congrArg some (by kernel_rfl))
 f219:=Tryz.func167.trans (congrArg some (by kernel_rfl))
 f224:=Tryz.func83.trans (congrArg some (by kernel_rfl))
 f225:=Tryz.func159.trans (congrArg some (by kernel_rfl))
 f266:=Tryz.func168.trans (congrArg some (by kernel_rfl))
 f267:=Tryz.func178.trans (congrArg some (by kernel_rfl))
 f314:=Tryz.func185.trans (congrArg some (by kernel_rfl))
 t3:=Tryz.underlying3
 a3:=Tryz.isAgg3
 z3:=Tryz.sizeOf3
 v3:=Tryz.zeroValue3
 t4:=Tryz.underlying4
 a4:=Tryz.isAgg4
 z4:=Tryz.sizeOf4
 v4:=Tryz.zeroValue4
 t5:=Tryz.underlying5
 a5:=Tryz.isAgg5
 z5:=Tryz.sizeOf5
 v5:=Tryz.zeroValue5
 t9:=Tryz.underlying9
 a9:=Tryz.isAgg9
 z9:=Tryz.sizeOf9
 v9:=Tryz.zeroValue9
 t46:=Tryz.underlying111
 a46:=Tryz.isAgg111
 z46:=Tryz.sizeOf111
 v46:=Tryz.zeroValue111
 t51:=Tryz.underlying125
 a51:=Tryz.isAgg125
 z51:=Tryz.sizeOf125
 v51:=Tryz.zeroValue125
 t146:=Tryz.underlying126
 a146:=Tryz.isAgg126
 z146:=Tryz.sizeOf126
 v146:=Tryz.zeroValue126
 g1:=by kernel_rfl}
open Go.RowKit Go.Lib in
theorem Tryz.strings_Contains (s sub:ByteArray) (m:Int) (w:World) (hs:s.size < 4294967281) (hm:w.cell? ⟨0,0,none⟩=some (.int .i64 m)):
 Calls Tryz.prog 157 #[.string s, .string sub] w fun e w' => e= .returned (.bool (Lib.contains s.data.toList sub.data.toList))∧w' =w:=Any.strings_Contains Tryz.lays144 s sub m w hs hm
def Tryz.lays145_ren:Go.Shelf.Ren:=⟨fun | 145=> 130 | 220=> 152 | 219=> 167 | 217=> 153 | 225=> 159 | 224=> 83 | 267=> 178 | 266=> 168 | 314=> 185 | n=> n,fun | 9=> 9 | 4=> 4 | 59=> 138 | 3=> 3 | 5=> 5 | 46=> 111 | 146=> 126 | 51=> 125 | n=> n,fun | 1=> 0 | n=> n⟩
theorem Tryz.lays145:Go.Proofs.Lays.n145 Tryz.prog Tryz.lays145_ren:={
 mixed:=by kernel_rfl
 f145:=Tryz.func130.trans (congrArg some (by kernel_rfl))
 f217:=Tryz.func153.trans (congrArg some (by kernel_rfl))
 f219:=Tryz.func167.trans (congrArg some (by kernel_rfl))
 f220:=Tryz.func152.trans (congrArg some (by kernel_rfl))
 f224:=Tryz.func83.trans (congrArg some (by kernel_rfl))
 f225:=Tryz.func159.trans (congrArg some (by kernel_rfl))
 f266:=Tryz.func168.trans (congrArg some (by kernel_rfl))
 f267:=Tryz.func178.trans (congrArg some (by kernel_rfl))
 f314:=Tryz.func185.trans (congrArg some (by kernel_rfl))
 t3:=Tryz.underlying3
 a3:=Tryz.isAgg3
 z3:=Tryz.sizeOf3
 v3:=Tryz.zeroValue3
 t4:=Tryz.underlying4
 a4:=Tryz.isAgg4
 z4:=Tryz.sizeOf4
 v4:=Tryz.zeroValue4
 t5:=Tryz.underlying5
 a5:=Tryz.isAgg5
 z5:=Tryz.sizeOf5
 v5:=Tryz.zeroValue5
 t9:=Tryz.underlying9
 a9:=Tryz.isAgg9
 z9:=Tryz.sizeOf9
 v9:=Tryz.zeroValue9
 t46:=Tryz.underlying111
 a46:=Tryz.isAgg111
 z46:=Tryz.sizeOf111
 v46:=Tryz.zeroValue111
 t51:=Tryz.underlying125
 a51:=Tryz.isAgg125
 z51:=Tryz.sizeOf125
 v51:=Tryz.zeroValue125
 t59:=Tryz.underlying138
 a59:=Tryz.isAgg138
 z59:=Tryz.sizeOf138
 v59:=Tryz.zeroValue138
 t146:=Tryz.underlying126
 a146:=Tryz.isAgg126
 z146:=Tryz.sizeOf126
 v146:=Tryz.zeroValue126
 g1:=by kernel_rfl}
open Go.RowKit Go.Lib in
theorem Tryz.strings_Cut (s sep:ByteArray) (m:Int) (w:World) (hs:s.size < 4294967281) (hm:w.cell? ⟨0,0,none⟩=some (.int .i64 m)):
 Calls Tryz.prog 130 #[.string s, .string sep] w fun e w' => e= .returned (.tuple #[.string ⟨(Lib.cut s.data.toList sep.data.toList).1.toArray⟩, .string ⟨(Lib.cut s.data.toList sep.data.toList).2.1.toArray⟩, .bool (Lib.cut s.data.toList sep.data.toList).2.2])∧∃n,w' =w.drewN n:=Any.strings_Cut Tryz.lays145 s sep m w hs hm
def Tryz.lays99_ren:Go.Shelf.Ren:=⟨fun | 99=> 155 | 206=> 169 | n=> n,fun | 9=> 9 | 4=> 4 | 3=> 3 | n=> n,fun | n=> n⟩
theorem Tryz.lays99:Go.Proofs.Lays.n99 Tryz.prog Tryz.lays99_ren:={
 mixed:=by kernel_rfl
 f99:=Tryz.func155.trans (congrArg some (by kernel_rfl))
 f206:=Tryz.func169.trans (congrArg some (by kernel_rfl))
 t3:=Tryz.underlying3
 a3:=Tryz.isAgg3
 z3:=Tryz.sizeOf3
 v3:=Tryz.zeroValue3
 t4:=Tryz.underlying4
 a4:=Tryz.isAgg4
 z4:=Tryz.sizeOf4
 v4:=Tryz.zeroValue4
 t9:=Tryz.underlying9
 a9:=Tryz.isAgg9
 z9:=Tryz.sizeOf9
 v9:=Tryz.zeroValue9}
open Go.RowKit Go.Lib in
theorem Tryz.strings_HasPrefix (s p:ByteArray) (w:World):
 Calls Tryz.prog 155 #[.string s, .string p] w fun e w' => e= .returned (.bool (Lib.hasPrefix s.data.toList p.data.toList))∧w' =w:=Any.strings_HasPrefix Tryz.lays99 s p w
def Tryz.lays100_ren:Go.Shelf.Ren:=⟨fun | 100=> 156 | 207=> 170 | n=> n,fun | 9=> 9 | 4=> 4 | 3=> 3 | n=> n,fun | n=> n⟩
theorem Tryz.lays100:Go.Proofs.Lays.n100 Tryz.prog Tryz.lays100_ren:={
 mixed:=by kernel_rfl
 f100:=Tryz.func156.trans (congrArg some (by kernel_rfl))
 f207:=Tryz.func170.trans (congrArg some (by kernel_rfl))
 t3:=Tryz.underlying3
 a3:=Tryz.isAgg3
 z3:=Tryz.sizeOf3
 v3:=Tryz.zeroValue3
 t4:=Tryz.underlying4
 a4:=Tryz.isAgg4
 z4:=Tryz.sizeOf4
 v4:=Tryz.zeroValue4
 t9:=Tryz.underlying9
 a9:=Tryz.isAgg9
 z9:=Tryz.sizeOf9
 v9:=Tryz.zeroValue9}
open Go.RowKit Go.Lib in
theorem Tryz.strings_HasSuffix (s p:ByteArray) (w:World) (hs:s.size≤9223372036854775807):
 Calls Tryz.prog 156 #[.string s, .string p] w fun e w' => e= .returned (.bool (Lib.hasSuffix s.data.toList p.data.toList))∧w' =w:=Any.strings_HasSuffix Tryz.lays100 s p w hs
def Tryz.lays226_ren:Go.Shelf.Ren:=⟨fun | 226=> 139 | n=> n,fun | 3=> 3 | 4=> 4 | n=> n,fun | n=> n⟩
theorem Tryz.lays226:Go.Proofs.Lays.n226 Tryz.prog Tryz.lays226_ren:={
 mixed:=by kernel_rfl
 f226:=Tryz.func139.trans (congrArg some (by kernel_rfl))
 t3:=Tryz.underlying3
 a3:=Tryz.isAgg3
 z3:=Tryz.sizeOf3
 v3:=Tryz.zeroValue3
 t4:=Tryz.underlying4
 a4:=Tryz.isAgg4
 z4:=Tryz.sizeOf4
 v4:=Tryz.zeroValue4}
open Go.RowKit Go.Lib in
theorem Tryz.strings_shouldUseASCIISet (n:Int) (w:World):
 Calls Tryz.prog 139 #[.int .i64 n] w fun e w' => e= .returned (.bool (decide (8 < n)))∧w' =w:=Any.strings_shouldUseASCIISet Tryz.lays226 n w
def Tryz.lays153_ren:Go.Shelf.Ren:=⟨fun | 153=> 120 | 152=> 138 | 226=> 139 | 227=> 140 | 228=> 141 | 137=> 132 | 119=> 158 | 224=> 83 | 225=> 159 | 217=> 153 | 266=> 168 | n=> n,fun | 9=> 9 | 3=> 3 | 4=> 4 | 5=> 5 | 21=> 21 | 117=> 159 | 116=> 158 | 0=> 0 | 46=> 111 | 124=> 172 | n=> n,fun | n=> n⟩
theorem Tryz.lays153:Go.Proofs.Lays.n153 Tryz.prog Tryz.lays153_ren:={
 mixed:=by kernel_rfl
 f119:=Tryz.func158.trans (congrArg some (by kernel_rfl))
 f137:=Tryz.func132.trans (congrArg some (by kernel_rfl))
 f152:=Tryz.func138.trans (congrArg some (by kernel_rfl))
 f153:=Tryz.func120.trans (congrArg some (by kernel_rfl))
 f217:=Tryz.func153.trans (congrArg some (by kernel_rfl))
 f224:=Tryz.func83.trans (congrArg some (by kernel_rfl))
 f225:=Tryz.func159.trans (congrArg some (by kernel_rfl))
 f226:=Tryz.func139.trans (congrArg some (by kernel_rfl))
 f227:=Tryz.func140.trans (congrArg some (by kernel_rfl))
 f228:=Tryz.func141.trans (congrArg some (by kernel_rfl))
 f266:=Tryz.func168.trans (congrArg some (by kernel_rfl))
 t0:=Tryz.underlying0
 a0:=Tryz.isAgg0
 z0:=Tryz.sizeOf0
 v0:=Tryz.zeroValue0
 t3:=Tryz.underlying3
 a3:=Tryz.isAgg3
 z3:=Tryz.sizeOf3
 v3:=Tryz.zeroValue3
 t4:=Tryz.underlying4
 a4:=Tryz.isAgg4
 z4:=Tryz.sizeOf4
 v4:=Tryz.zeroValue4
 t5:=Tryz.underlying5
 a5:=Tryz.isAgg5
 z5:=Tryz.sizeOf5
 v5:=Tryz.zeroValue5
 t9:=Tryz.underlying9
 a9:=Tryz.isAgg9
 z9:=Tryz.sizeOf9
 v9:=Tryz.zeroValue9
 t21:=Tryz.underlying21
 a21:=Tryz.isAgg21
 z21:=Tryz.sizeOf21
 v21:=Tryz.zeroValue21
 t46:=Tryz.underlying111
 a46:=Tryz.isAgg111
 z46:=Tryz.sizeOf111
 v46:=Tryz.zeroValue111
 t116:=Tryz.underlying158
 a116:=Tryz.isAgg158
 z116:=Tryz.sizeOf158
 t117:=Tryz.underlying159
 a117:=Tryz.isAgg159
 z117:=Tryz.sizeOf159
 v117:=Tryz.zeroValue159
 t124:=Tryz.underlying172
 a124:=Tryz.isAgg172
 z124:=Tryz.sizeOf172
 v124:=Tryz.zeroValue172}
open Go.RowKit Go.Lib in
theorem Tryz.strings_IndexAny_long (hv116:∀w,(zeroValue 158).run Tryz.prog w= .ok (.agg (Array.replicate 256 (.bool false))) w) (s chars:ByteArray) (w:World) (h2:2≤chars.size) (h8:8 < s.size) (hs:s.size < 4294967281) (hcs:chars.size < 4294967281) (hascii:∀(j:Nat) b,chars.data.toList[j]? =some b→b.toNat < 128):
 Calls Tryz.prog 120 #[.string s, .string chars] w fun e w' => e= .returned (.int .i64 (Lib.indexAny s.data.toList chars.data.toList))∧w' =((w.alloc (.cells (Lib.setCells chars.data.toList) 158)).alloc (.cells (Lib.setCells chars.data.toList) 158)):=Any.strings_IndexAny_long Tryz.lays153 hv116 (by kernel_rfl) s chars w h2 h8 hs hcs hascii
open Go.RowKit Go.Lib in
theorem Tryz.strings_IndexAny (hv116:∀w,(zeroValue 158).run Tryz.prog w= .ok (.agg (Array.replicate 256 (.bool false))) w) (s chars:ByteArray) (w:World) (hs:s.size < 4294967281) (hcs:chars.size < 4294967281) (has:∀(j:Nat) b,s.data.toList[j]? =some b→b.toNat < 128) (hac:∀(j:Nat) b,chars.data.toList[j]? =some b→b.toNat < 128):
 Calls Tryz.prog 120 #[.string s, .string chars] w fun e w' => e= .returned (.int .i64 (Lib.indexAny s.data.toList chars.data.toList))∧Below w.heap.size w w' :=Any.strings_IndexAny Tryz.lays153 hv116 (by kernel_rfl) s chars w hs hcs has hac
def Tryz.lays150_ren:Go.Shelf.Ren:=⟨fun | 150=> 103 | 153=> 120 | 152=> 138 | 226=> 139 | 227=> 140 | 228=> 141 | 137=> 132 | 119=> 158 | 224=> 83 | 225=> 159 | 217=> 153 | 266=> 168 | n=> n,fun | 9=> 9 | 4=> 4 | 3=> 3 | 5=> 5 | 21=> 21 | 117=> 159 | 116=> 158 | 0=> 0 | 46=> 111 | 124=> 172 | n=> n,fun | n=> n⟩
theorem Tryz.lays150:Go.Proofs.Lays.n150 Tryz.prog Tryz.lays150_ren:={
 mixed:=by kernel_rfl
 f119:=Tryz.func158.trans (congrArg some (by kernel_rfl))
 f137:=Tryz.func132.trans (congrArg some (by kernel_rfl))
 f150:=Tryz.func103.trans (congrArg some (by kernel_rfl))
 f152:=Tryz.func138.trans (congrArg some (by kernel_rfl))
 f153:=Tryz.func120.trans (congrArg some (by kernel_rfl))
 f217:=Tryz.func153.trans (congrArg some (by kernel_rfl))
 f224:=Tryz.func83.trans (congrArg some (by kernel_rfl))
 f225:=Tryz.func159.trans (congrArg some (by kernel_rfl))
 f226:=Tryz.func139.trans (congrArg some (by kernel_rfl))
 f227:=Tryz.func140.trans (congrArg some (by kernel_rfl))
 f228:=Tryz.func141.trans (congrArg some (by kernel_rfl))
 f266:=Tryz.func168.trans (congrArg some (by kernel_rfl))
 t0:=Tryz.underlying0
 a0:=Tryz.isAgg0
 z0:=Tryz.sizeOf0
 v0:=Tryz.zeroValue0
 t3:=Tryz.underlying3
 a3:=Tryz.isAgg3
 z3:=Tryz.sizeOf3
 v3:=Tryz.zeroValue3
 t4:=Tryz.underlying4
 a4:=Tryz.isAgg4
 z4:=Tryz.sizeOf4
 v4:=Tryz.zeroValue4
 t5:=Tryz.underlying5
 a5:=Tryz.isAgg5
 z5:=Tryz.sizeOf5
 v5:=Tryz.zeroValue5
 t9:=Tryz.underlying9
 a9:=Tryz.isAgg9
 z9:=Tryz.sizeOf9
 v9:=Tryz.zeroValue9
 t21:=Tryz.underlying21
 a21:=Tryz.isAgg21
 z21:=Tryz.sizeOf21
 v21:=Tryz.zeroValue21
 t46:=Tryz.underlying111
 a46:=Tryz.isAgg111
 z46:=Tryz.sizeOf111
 v46:=Tryz.zeroValue111
 t116:=Tryz.underlying158
 a116:=Tryz.isAgg158
 z116:=Tryz.sizeOf158
 t117:=Tryz.underlying159
 a117:=Tryz.isAgg159
 z117:=Tryz.sizeOf159
 v117:=Tryz.zeroValue159
 t124:=Tryz.underlying172
 a124:=Tryz.isAgg172
 z124:=Tryz.sizeOf172
 v124:=Tryz.zeroValue172}
open Go.RowKit Go.Lib in
theorem Tryz.strings_ContainsAny (hv116:∀w,(zeroValue 158).run Tryz.prog w= .ok (.agg (Array.replicate 256 (.bool false))) w) (s chars:ByteArray) (w:World) (hs:s.size < 4294967281) (hcs:chars.size < 4294967281) (has:∀(j:Nat) b,s.data.toList[j]? =some b→b.toNat < 128) (hac:∀(j:Nat) b,chars.data.toList[j]? =some b→b.toNat < 128):
 Calls Tryz.prog 103 #[.string s, .string chars] w fun e w' => e= .returned (.bool (Lib.containsAny s.data.toList chars.data.toList))∧Below w.heap.size w w' :=Any.strings_ContainsAny Tryz.lays150 hv116 (by kernel_rfl) s chars w hs hcs has hac
def Tryz.lays185_ren:Go.Shelf.Ren:=⟨fun | 185=> 59 | 187=> 81 | 115=> 80 | 253=> 82 | 224=> 83 | 254=> 84 | 255=> 100 | 291=> 101 | n=> n,fun | 37=> 26 | 3=> 3 | 4=> 4 | 0=> 0 | 5=> 5 | 46=> 111 | 9=> 9 | 146=> 126 | 51=> 125 | n=> n,fun | 1=> 0 | n=> n⟩
theorem Tryz.lays185:Go.Proofs.Lays.n185 Tryz.prog Tryz.lays185_ren:={
 mixed:=by kernel_rfl
 f115:=Tryz.func80.trans (congrArg some (by kernel_rfl))
 f185:=Tryz.func59.trans (congrArg some (by kernel_rfl))
 f187:=Tryz.func81.trans (congrArg some (by kernel_rfl))
 f224:=Tryz.func83.trans (congrArg some (by kernel_rfl))
 f253:=Tryz.func82.trans (congrArg some (by kernel_rfl))
 f254:=Tryz.func84.trans (congrArg some (by kernel_rfl))
 f255:=Tryz.func100.trans (congrArg some (by kernel_rfl))
 f291:=Tryz.func101.trans (congrArg some (by kernel_rfl))
 t0:=Tryz.underlying0
 a0:=Tryz.isAgg0
 z0:=Tryz.sizeOf0
 v0:=Tryz.zeroValue0
 t3:=Tryz.underlying3
 a3:=Tryz.isAgg3
 z3:=Tryz.sizeOf3
 v3:=Tryz.zeroValue3
 t4:=Tryz.underlying4
 a4:=Tryz.isAgg4
 z4:=Tryz.sizeOf4
 v4:=Tryz.zeroValue4
 t5:=Tryz.underlying5
 a5:=Tryz.isAgg5
 z5:=Tryz.sizeOf5
 v5:=Tryz.zeroValue5
 t9:=Tryz.underlying9
 a9:=Tryz.isAgg9
 z9:=Tryz.sizeOf9
 v9:=Tryz.zeroValue9
 t37:=Tryz.underlying26
 a37:=Tryz.isAgg26
 z37:=Tryz.sizeOf26
 v37:=Tryz.zeroValue26
 t46:=Tryz.underlying111
 a46:=Tryz.isAgg111
 z46:=Tryz.sizeOf111
 v46:=Tryz.zeroValue111
 t51:=Tryz.underlying125
 a51:=Tryz.isAgg125
 z51:=Tryz.sizeOf125
 v51:=Tryz.zeroValue125
 t146:=Tryz.underlying126
 a146:=Tryz.isAgg126
 z146:=Tryz.sizeOf126
 v146:=Tryz.zeroValue126
 g1:=by kernel_rfl}
open Go.RowKit Go.Lib in
theorem Tryz.bytes_Index_longer (p q:Option Addr) (n c m d:Nat) (w:World) (h2:2≤m) (hnm:n < m) (hm:m≤9223372036854775807):
 Calls Tryz.prog 59 #[.slice p n c, .slice q m d] w fun e w' => e= .returned (.int .i64 (-1))∧w' =w:=Any.bytes_Index_longer Tryz.lays185 p q n c m d w h2 hnm hm
def Tryz.lays115_ren:Go.Shelf.Ren:=⟨fun | 115=> 80 | n=> n,fun | 37=> 26 | 4=> 4 | 9=> 9 | 5=> 5 | n=> n,fun | n=> n⟩
theorem Tryz.lays115:Go.Proofs.Lays.n115 Tryz.prog Tryz.lays115_ren:={
 mixed:=by kernel_rfl
 f115:=Tryz.func80.trans (congrArg some (by kernel_rfl))
 t4:=Tryz.underlying4
 a4:=Tryz.isAgg4
 z4:=Tryz.sizeOf4
 v4:=Tryz.zeroValue4
 t9:=Tryz.underlying9
 a9:=Tryz.isAgg9
 z9:=Tryz.sizeOf9
 v9:=Tryz.zeroValue9
 t37:=Tryz.underlying26
 a37:=Tryz.isAgg26
 z37:=Tryz.sizeOf26
 v37:=Tryz.zeroValue26}
open Go.Proofs Go.RowKit Go.Lib in
theorem Tryz.bytes_Index_at (a1 a2:Addr) (n c1 k c2:Nat) (xs ys:List Int) (m:Int) (w:World) (hx:xs.length=n) (hy:ys.length=k) (hr1:∀x∈xs,0≤x∧x < 256) (hr2:∀y∈ys,0≤y∧y < 256) (hc1:∀i,i < n→w.cell? (a1.add i)=some (.int .u8 (xs.getD i 0))) (hc2:∀i,i < k→w.cell? (a2.add i)=some (.int .u8 (ys.getD i 0))) (hcap:n≤c1) (hs:n < 4294967281) (hk:k≤9223372036854775807) (hm:w.cell? ⟨0,0,none⟩=some (.int .i64 m)):
 Calls Tryz.prog 59 #[.slice (some a1) n c1, .slice (some a2) k c2] w fun e w' => e= .returned (.int .i64 (Lib.index (Lib.bytesOf xs) (Lib.bytesOf ys)))∧∃q,w' =w.drewN q:=Any.bytes_Index_at Tryz.lays185 a1 a2 n c1 k c2 xs ys m w hx hy hr1 hr2 hc1 hc2 hcap hs hk hm
def Tryz.laysnb116_ren:Go.Shelf.Ren:=⟨fun | 116=> 126 | 115=> 80 | n=> n,fun | 37=> 26 | 4=> 4 | 3=> 3 | 9=> 9 | 5=> 5 | n=> n,fun | n=> n⟩
theorem Tryz.laysnb116:Go.Proofs.Lays.nb116 Tryz.prog Tryz.laysnb116_ren:={
 mixed:=by kernel_rfl
 f115:=Tryz.func80.trans (congrArg some (by kernel_rfl))
 f116:=Tryz.func126.trans (congrArg some (by kernel_rfl))
 t3:=Tryz.underlying3
 a3:=Tryz.isAgg3
 z3:=Tryz.sizeOf3
 v3:=Tryz.zeroValue3
 t4:=Tryz.underlying4
 a4:=Tryz.isAgg4
 z4:=Tryz.sizeOf4
 v4:=Tryz.zeroValue4
 t9:=Tryz.underlying9
 a9:=Tryz.isAgg9
 z9:=Tryz.sizeOf9
 v9:=Tryz.zeroValue9
 t37:=Tryz.underlying26
 a37:=Tryz.isAgg26
 z37:=Tryz.sizeOf26
 v37:=Tryz.zeroValue26
 t5:=Tryz.underlying5
 a5:=Tryz.isAgg5
 z5:=Tryz.sizeOf5
 v5:=Tryz.zeroValue5}
def Tryz.laysnb117_ren:Go.Shelf.Ren:=⟨fun | 117=> 58 | 115=> 80 | n=> n,fun | 37=> 26 | 4=> 4 | 3=> 3 | 9=> 9 | 5=> 5 | n=> n,fun | n=> n⟩
theorem Tryz.laysnb117:Go.Proofs.Lays.nb117 Tryz.prog Tryz.laysnb117_ren:={
 mixed:=by kernel_rfl
 f115:=Tryz.func80.trans (congrArg some (by kernel_rfl))
 f117:=Tryz.func58.trans (congrArg some (by kernel_rfl))
 t3:=Tryz.underlying3
 a3:=Tryz.isAgg3
 z3:=Tryz.sizeOf3
 v3:=Tryz.zeroValue3
 t4:=Tryz.underlying4
 a4:=Tryz.isAgg4
 z4:=Tryz.sizeOf4
 v4:=Tryz.zeroValue4
 t9:=Tryz.underlying9
 a9:=Tryz.isAgg9
 z9:=Tryz.sizeOf9
 v9:=Tryz.zeroValue9
 t37:=Tryz.underlying26
 a37:=Tryz.isAgg26
 z37:=Tryz.sizeOf26
 v37:=Tryz.zeroValue26
 t5:=Tryz.underlying5
 a5:=Tryz.isAgg5
 z5:=Tryz.sizeOf5
 v5:=Tryz.zeroValue5}
theorem Tryz.bytes_Equal (v1 v2:Value) (xs ys:List Int) (w:World) (h1:(convert 26 9 v1).run Tryz.prog w= .ok (.string (strOfNums xs)) w) (h2:(convert 26 9 v2).run Tryz.prog w= .ok (.string (strOfNums ys)) w):
 Calls Tryz.prog 80 #[v1,v2] w fun e w' => e= .returned (.bool (Lib.bytesOf xs==Lib.bytesOf ys))∧w' =w:=Any.bytes_Equal Tryz.lays115 v1 v2 xs ys w h1 h2
theorem Tryz.bytes_HasPrefix (b1 o1 n c b2 o2 m d:Nat) (xs ys:List Int) (w:World) (hx:xs.length=n) (hy:ys.length=m) (hnc:n≤c) (hc1:∀i,i < n→w.cell? ⟨b1,o1+i,none⟩=some (.int .u8 (xs.getD i 0))) (hc2:∀i,i < m→w.cell? ⟨b2,o2+i,none⟩=some (.int .u8 (ys.getD i 0))):
 Calls Tryz.prog 126 #[.slice (some ⟨b1,o1,none⟩) n c, .slice (some ⟨b2,o2,none⟩) m d] w fun e w' => e= .returned (.bool (Lib.hasPrefix (Lib.bytesOf xs) (Lib.bytesOf ys)))∧w' =w:=Any.bytes_HasPrefix Tryz.laysnb116 b1 o1 n c b2 o2 m d xs ys w hx hy hnc hc1 hc2
theorem Tryz.bytes_HasSuffix (b1 o1 n c b2 o2 m d:Nat) (xs ys:List Int) (w:World) (hx:xs.length=n) (hy:ys.length=m) (hnc:n≤c) (hbig:n≤9223372036854775807) (hc1:∀i,i < n→w.cell? ⟨b1,o1+i,none⟩=some (.int .u8 (xs.getD i 0))) (hc2:∀i,i < m→w.cell? ⟨b2,o2+i,none⟩=some (.int .u8 (ys.getD i 0))):
 Calls Tryz.prog 58 #[.slice (some ⟨b1,o1,none⟩) n c, .slice (some ⟨b2,o2,none⟩) m d] w fun e w' => e= .returned (.bool (Lib.hasSuffix (Lib.bytesOf xs) (Lib.bytesOf ys)))∧w' =w:=Any.bytes_HasSuffix Tryz.laysnb117 b1 o1 n c b2 o2 m d xs ys w hx hy hnc hbig hc1 hc2
end Go.Proofs
namespace Go.Proofs.YtjnmamghadpedaaGreatDoor
open Go.RowKit
set_option maxRecDepth 100000
theorem YTa (g:G) (q:Nat):Old (fun _=> False) g ⟨g.w.drewN q,g.u,g.loc⟩:=
 ⟨rfl,rfl,rfl,⟨Nat.le_refl _,fun _ _=> Nat.le_refl _,fun _ _ _ _=> rfl,fun _ h=> h⟩,fun _ _ _=> ⟨rfl,rfl⟩⟩
theorem ZQa {g:G} {s:Str} {v:Value} (h:Rel g (.s s) v):v= .string (strB s):=kna h
theorem qTa (s:Str) (c:UInt8) (r:Int) (hr:zRa s c=some r):Run Tryz.prog 132 [.s s, .u8 c] (.i r):=by
 unfold zRa at hr
 cases hr
 refine ⟨⟨_,_,⟨Tryz.func132,rfl,by kernel_rfl⟩⟩,fun g vs hw hg ha=> ?_⟩
 obtain ⟨hsz,hrel⟩:=ha
 obtain ⟨l⟩:=vs
 match l,hsz with
 | [x,y],_=>
  obtain rfl:=ZQa (hrel 0 _ rfl)
  have e2:y= .int .u8 (c.toNat:Int):=kna (hrel 1 _ rfl)
  subst e2
  refine callsIn_wide.2 ((Tryz.strings_IndexByte (strB s) (c.toNat:Int) g.w).mono ?_)
  rintro e w' ⟨rfl,rfl⟩
  refine ⟨g,_,rfl,rfl,Old.refl _ g,hw,rfl, ?_⟩
  simp [strB]
  exact .pv (.b rfl)
end Go.Proofs.YtjnmamghadpedaaGreatDoor
namespace Go.Proofs.YtjnmamghadpedaaGreatDoor
open Go.RowKit
set_option maxRecDepth 100000
set_option maxHeartbeats 40000000
theorem yda (a0:Int) (r:Bool) (hr:kpa a0=some r):Run Tryz.prog 158 [.pv (.b (.int .i32 a0))] (.bo r):=by
 unfold kpa at hr
 refine rf (fn:=Tryz.f158) ⟨Tryz.func158,rfl,by kernel_rfl⟩ rfl (fun _=> rfl) fun g0 hg=> ?_
 refine rn tk 7 rfl ?_
 refine jb hr (fun j1=> [(0, .pv (.b (.int .i32 a0))),(3, .bo j1)]) (fun j1=> []) (fun j1 hr=> ?_) (fun j1 hr=> ?_)
 ·
  refine rn tk 4 rfl ?_
  refine bs 6 hr rfl (fun c2 hr=> ?_) (fun c2 hr=> ?_)
  ·
   refine rn tk 5 rfl ?_
   cases hr
   exact jn _ rfl rfl rfl
  ·
   refine rn tk 5 rfl ?_
   cases hr
   exact jn _ rfl rfl rfl
 ·
  refine ac 3 hr rfl (fun c3 hr=> ?_) (fun c3 hr=> ?_)
  ·
   refine rn tk 8 rfl ?_
   cases hr
   exact kr tk (.inr rfl) rfl rfl
  ·
   refine jb hr (fun j4=> [(10, .bo j4)]) (fun j4=> []) (fun j4 hr=> ?_) (fun j4 hr=> ?_)
   ·
    refine rn tk 4 rfl ?_
    refine bs 13 hr rfl (fun c5 hr=> ?_) (fun c5 hr=> ?_)
    ·
     refine rn tk 5 rfl ?_
     cases hr
     exact jn _ rfl rfl rfl
    ·
     refine rn tk 5 rfl ?_
     cases hr
     exact jn _ rfl rfl rfl
   ·
    refine ac 10 hr rfl (fun c6 hr=> ?_) (fun c6 hr=> ?_)
    ·
     refine rn tk 8 rfl ?_
     cases hr
     exact kr tk (.inr rfl) rfl rfl
    ·
     refine rn tk 9 rfl ?_
     cases hr
     exact kr tk (.inr rfl) rfl rfl
theorem wpa (a0:Str) (a1:Int) (r:Int) (hr:kha a0 a1=some r):Run Tryz.prog 138 [.s a0, .pv (.b (.int .i32 a1))] (.i r):=by
 unfold kha at hr
 refine rf (fn:=Tryz.f138) ⟨Tryz.func138,rfl,by kernel_rfl⟩ rfl (fun _=> rfl) fun g0 hg=> ?_
 refine rn tk 6 rfl ?_
 refine jb hr (fun j1=> [(0, .s a0),(1, .pv (.b (.int .i32 a1))),(160, .bo j1)]) (fun j1=> []) (fun j1 hr=> ?_) (fun j1 hr=> ?_)
 ·
  refine rn tk 4 rfl ?_
  refine bs 163 hr rfl (fun c2 hr=> ?_) (fun c2 hr=> ?_)
  ·
   refine rn tk 5 rfl ?_
   cases hr
   exact jn _ rfl rfl rfl
  ·
   refine rn tk 5 rfl ?_
   cases hr
   exact jn _ rfl rfl rfl
 ·
  refine ac 160 hr rfl (fun c3 hr=> ?_) (fun c3 hr=> ?_)
  ·
   refine rn tk 5 rfl ?_
   obtain ⟨v4,h5,hr⟩:=zaa hr
   refine cl (qTa _ _ _ h5) rfl rfl ?_
   refine rn tk 5 rfl ?_
   cases hr
   exact kr tk (.inr rfl) rfl rfl
  ·
   refine rn tk 7 rfl ?_
   refine ac 171 hr rfl (fun c6 hr=> ?_) (fun c6 hr=> ?_)
   ·
    refine rn tk 4 rfl ?_
    refine wr 1175 tk rfl rfl rfl rfl ?_
    refine rn tk 3 rfl ?_
    refine al2 hr (fun s7=> [(175, .ptr 1175 0)]) (fun s7=> [(1175, .it (strB a0) s7)]) (.exit 9) (fun b8=> []) (fun b8=> []) .ret (fun b9=> [(4, .i b9)]) (fun b9=> []) rfl rfl (fun s7 x11 hr=> ?_) (fun b8 hr=> ?_) (fun b9 hr=> ?_)
    ·
     unfold k6a at hr
     refine rn tk 2 rfl ?_
     refine wnx hr rfl rfl rfl (fun c12 hr=> ?_) (fun c12 hr=> ?_)
     ·
      refine rn tk 22 rfl ?_
      refine ac 181 hr rfl (fun c13 hr=> ?_) (fun c13 hr=> ?_)
      ·
       refine rn tk 8 rfl ?_
       cases hr
       exact ato rfl rfl rfl rfl
      ·
       refine rn tk 2 rfl ?_
       cases hr
       exact atc rfl rfl
     ·
      refine rn tk 7 rfl ?_
      cases hr
      exact ato rfl rfl rfl rfl
    ·
     refine rn tk 9 rfl ?_
     cases hr
     exact kr tk (.inr rfl) rfl rfl
    ·
     refine rn tk 3 rfl ?_
     cases hr
     exact kr tk (.inr rfl) rfl rfl
   ·
    refine rn tk 3 rfl ?_
    obtain ⟨v14,h15,hr⟩:=zaa hr
    refine cl (yda _ _ h15) rfl rfl ?_
    refine rn tk 4 rfl ?_
    refine ac 183 hr rfl (fun c16 hr=> ?_) (fun c16 hr=> ?_)
    ·
     refine rn tk 7 rfl ?_
     cases hr
     exact kr tk (.inr rfl) rfl rfl
    ·
     refine rn tk 29 rfl ?_
     refine al2 hr (fun s17=> [(0, .s a0),(7, .s ((wha a1))),(8, .i ((w64 ((((wha a1)).length:Int) - 1)))),(9, .i s17)]) (fun s17=> []) (.exit 1) (fun b18=> []) (fun b18=> []) .ret (fun b19=> [(4, .i b19)]) (fun b19=> []) rfl rfl (fun s17 x21 hr=> ?_) (fun b18 hr=> ?_) (fun b19 hr=> ?_)
     ·
      unfold k8a at hr
      refine rn tk 9 rfl ?_
      refine ac 26 hr rfl (fun c22 hr=> ?_) (fun c22 hr=> ?_)
      ·
       refine rn tk 4 rfl ?_
       refine jk (fun j23=> [(0, .s a0),(7, .s ((wha a1))),(8, .i j23.1),(9, .i j23.2)]) (fun j23=> []) (fun j23=> k7a a0 a1 j23=some x21) ?_ ?_
       ·
        refine rn tk 1 rfl ?_
        obtain ⟨v24,h25,hr⟩:=zaa hr
        obtain ⟨v26,h27,hr⟩:=zaa hr
        refine dr 6 [(32, .u8 v26),(31, .i ((w64 ((((wha a1)).length:Int) - 1)))),(30, .s ((wha a1))),(29, .u8 v24),(28, .i s17),(27, .s a0)] mixed (by kernel_rfl) rfl rfl (pq tk rfl (.plain rfl) (pq tk rfl (.plain rfl) (.run (.plain rfl) (wfa (ZAa rfl rfl zNa h25)) (pq tk rfl (.plain rfl) (pq tk rfl (.plain rfl) (.run (.plain rfl) (wfa (ZAa rfl rfl zNa h27)) .nil)))))) rfl ?_
        refine rn tk 3 rfl ?_
        refine ac 33 hr rfl (fun c28 hr=> ?_) (fun c28 hr=> ?_)
        ·
         refine rn tk 1 rfl ?_
         obtain ⟨v29,h30,hr⟩:=zaa hr
         obtain ⟨v31,h32,hr⟩:=zaa hr
         refine dr 7 [(40, .u8 v31),(39, .i ((w64 ((((wha a1)).length:Int) - 1)))),(38, .s ((wha a1))),(37, .s v29),(36, .i ((w64 (s17+1)))),(35, .i s17),(34, .s a0)] mixed (by kernel_rfl) rfl rfl (pq tk rfl (.plain rfl) (pq tk rfl (.plain rfl) (pq tk rfl (.plain rfl) (.run (.plain rfl) (wfa (Wha rfl rfl zNa h30)) (pq tk rfl (.plain rfl) (pq tk rfl (.plain rfl) (.run (.plain rfl) (wfa (ZAa rfl rfl zNa h32)) .nil))))))) rfl ?_
         obtain ⟨v33,h34,hr⟩:=zaa hr
         refine cl (qTa _ _ _ h34) rfl rfl ?_
         refine rn tk 10 rfl ?_
         refine ac 43 hr rfl (fun c35 hr=> ?_) (fun c35 hr=> ?_)
         ·
          refine rn tk 10 rfl ?_
          cases hr
          exact ato rfl rfl rfl rfl
         ·
          refine rn tk 9 rfl ?_
          exact jn (((w64 ((((wha a1)).length:Int) - 1)),(w64 (s17+(w64 (v33+1)))))) hr rfl rfl
        ·
         refine rn tk 1 rfl ?_
         exact jn (((w64 ((((wha a1)).length:Int) - 1)),s17)) hr rfl rfl
       ·
        intro j23 hr
        unfold k7a at hr
        refine rn tk 7 rfl ?_
        refine al1 hr (fun s36=> [(0, .s a0),(7, .s ((wha a1))),(8, .i j23.1),(9, .i j23.2),(12, .i s36)]) (fun s36=> []) (.exit 3) (fun b37=> [(8, .i j23.1),(9, .i j23.2)]) (fun b37=> []) rfl rfl (fun s36 x38 hr=> ?_) (fun b37 hr=> ?_)
        ·
         unfold wva at hr
         refine rn tk 9 rfl ?_
         refine ac 51 hr rfl (fun c39 hr=> ?_) (fun c39 hr=> ?_)
         ·
          refine rn tk 5 rfl ?_
          obtain ⟨v40,h41,hr⟩:=zaa hr
          obtain ⟨v42,h43,hr⟩:=zaa hr
          refine dr 10 [(63, .u8 v42),(62, .i ((w64 (j23.1 - s36)))),(61, .i s36),(60, .i j23.1),(59, .s ((wha a1))),(58, .u8 v40),(57, .i ((w64 (j23.2 - s36)))),(56, .i s36),(55, .i j23.2),(54, .s a0)] mixed (by kernel_rfl) rfl rfl (pq tk rfl (.plain rfl) (pq tk rfl (.plain rfl) (pq tk rfl (.plain rfl) (pq tk rfl (.plain rfl) (.run (.plain rfl) (wfa (ZAa rfl rfl zNa h41)) (pq tk rfl (.plain rfl) (pq tk rfl (.plain rfl) (pq tk rfl (.plain rfl) (pq tk rfl (.plain rfl) (.run (.plain rfl) (wfa (ZAa rfl rfl zNa h43)) .nil)))))))))) rfl ?_
          refine rn tk 3 rfl ?_
          refine ac 64 hr rfl (fun c44 hr=> ?_) (fun c44 hr=> ?_)
          ·
           cases hr
          ·
           refine rn tk 8 rfl ?_
           cases hr
           exact atc rfl rfl
         ·
          refine rn tk 2 rfl ?_
          cases hr
          exact ato rfl rfl rfl rfl
        ·
         refine rn tk 15 rfl ?_
         cases hr
         exact ato rfl rfl rfl rfl
      ·
       refine rn tk 2 rfl ?_
       cases hr
       exact ato rfl rfl rfl rfl
     ·
      refine rn tk 12 rfl ?_
      cases hr
      exact kr tk (.inr rfl) rfl rfl
     ·
      refine rn tk 4 rfl ?_
      cases hr
      exact kr tk (.inr rfl) rfl rfl
theorem wta (a0:Int) (r:Bool) (hr:zJa a0=some r):Run Tryz.prog 139 [.i a0] (.bo r):=by
 unfold zJa at hr
 refine rf (fn:=Tryz.f139) ⟨Tryz.func139,rfl,by kernel_rfl⟩ rfl (fun _=> rfl) fun g0 hg=> ?_
 refine rn tk 13 rfl ?_
 cases hr
 exact kr tk (.inr rfl) rfl rfl
theorem jUa (a0:Str) (a1:Str) (r:Int) (hr:qXa a0 a1=some r):Run Tryz.prog 120 [.s a0, .s a1] (.i r):=by
 unfold qXa at hr
 refine rf (fn:=Tryz.f120) ⟨Tryz.func120,rfl,by kernel_rfl⟩ rfl (fun _=> rfl) fun g0 hg=> ?_
 refine rn tk 12 rfl ?_
 refine ac 12 hr rfl (fun c1 hr=> ?_) (fun c1 hr=> ?_)
 ·
  refine rn tk 7 rfl ?_
  cases hr
  exact kr tk (.inr rfl) rfl rfl
 ·
  refine rn tk 10 rfl ?_
  refine ac 15 hr rfl (fun c2 hr=> ?_) (fun c2 hr=> ?_)
  ·
   refine rn tk 3 rfl ?_
   obtain ⟨v3,h4,hr⟩:=zaa hr
   refine ws tk h4 rfl rfl rfl rfl ?_
   refine wur tk rfl rfl rfl ?_
   refine rn tk 3 rfl ?_
   refine jb hr (fun j5=> [(0, .s a0),(5, .pv (.b (.int .i32 j5)))]) (fun j5=> []) (fun j5 hr=> ?_) (fun j5 hr=> ?_)
   ·
    refine rn tk 6 rfl ?_
    refine ac 20 hr rfl (fun c6 hr=> ?_) (fun c6 hr=> ?_)
    ·
     refine rn tk 3 rfl ?_
     cases hr
     exact jn _ rfl rfl rfl
    ·
     refine rn tk 1 rfl ?_
     cases hr
     exact jn _ rfl rfl rfl
   ·
    refine rn tk 4 rfl ?_
    obtain ⟨v7,h8,hr⟩:=zaa hr
    refine cl (wpa _ _ _ h8) rfl rfl ?_
    refine rn tk 5 rfl ?_
    cases hr
    exact kr tk (.inr rfl) rfl rfl
  ·
   refine rn tk 7 rfl ?_
   obtain ⟨v9,h10,hr⟩:=zaa hr
   refine cl (wta _ _ h10) rfl rfl ?_
   refine rn tk 2 rfl ?_
   refine ac 26 hr rfl (fun c11 hr=> ?_) (fun c11 hr=> ?_)
   ·
    refine rn tk 3 rfl ?_
    cases hr
   ·
    refine rn tk 6 rfl ?_
    refine wr 1045 tk rfl rfl rfl rfl ?_
    refine rn tk 3 rfl ?_
    refine al2 hr (fun s12=> [(1, .s a1),(45, .ptr 1045 0)]) (fun s12=> [(1045, .it (strB a0) s12)]) (.exit 2) (fun b13=> []) (fun b13=> []) .ret (fun b14=> [(4, .i b14)]) (fun b14=> []) rfl rfl (fun s12 x16 hr=> ?_) (fun b13 hr=> ?_) (fun b14 hr=> ?_)
    ·
     unfold k9a at hr
     refine rn tk 2 rfl ?_
     refine wnx hr rfl rfl rfl (fun c17 hr=> ?_) (fun c17 hr=> ?_)
     ·
      refine rn tk 20 rfl ?_
      obtain ⟨v18,h19,hr⟩:=zaa hr
      refine cl (wpa _ _ _ h19) rfl rfl ?_
      refine rn tk 3 rfl ?_
      refine ac 53 hr rfl (fun c20 hr=> ?_) (fun c20 hr=> ?_)
      ·
       refine rn tk 8 rfl ?_
       cases hr
       exact ato rfl rfl rfl rfl
      ·
       refine rn tk 2 rfl ?_
       cases hr
       exact atc rfl rfl
     ·
      refine rn tk 7 rfl ?_
      cases hr
      exact ato rfl rfl rfl rfl
    ·
     refine rn tk 8 rfl ?_
     cases hr
     exact kr tk (.inr rfl) rfl rfl
    ·
     refine rn tk 2 rfl ?_
     cases hr
     exact kr tk (.inr rfl) rfl rfl
end Go.Proofs.YtjnmamghadpedaaGreatDoor
namespace Go.Proofs.YtjnmamghadpedaaGreatDoor
open Go.RowKit
set_option maxRecDepth 100000
theorem Wca (g:G) (vs:Array Value) (t:TypeId):Old (fun _=> False) g ⟨g.w.alloc (.cells vs t),fun k=> if k=g.w.heap.size then 0 else g.u k,g.loc⟩:=by
 have h:=wMa g vs t 0 0 (g.loc 0)
 have e:(g.alloc vs t 0 0 (g.loc 0))=⟨g.w.alloc (.cells vs t),fun k=> if k=g.w.heap.size then 0 else g.u k,g.loc⟩:=by
  unfold G.alloc
  congr 1
  funext k
  split
  ·rename_i hk;rw [hk]
  ·rfl
 rw [←e];exact h
theorem YUa {g:G} (h:Wf g) (vs:Array Value) (t:TypeId):Wf ⟨g.w.alloc (.cells vs t),fun k=> if k=g.w.heap.size then 0 else g.u k,g.loc⟩:=by
 intro k hk
 have hk:g.w.heap.size+1≤k:=by simpa using hk
 show (if k=g.w.heap.size then 0 else g.u k)=0
 rw [if_neg (by omega)]
 exact h k (by omega)
theorem kib {t:Str} (h:VVa t=true):∀(j:Nat) b,(strB t).data.toList[j]? =some b→b.toNat < 128:=fun j b hb=> V1a h (List.mem_of_getElem? hb)
theorem Zka (s t:Str) (r:Int) (hr:kWa s t=some r):Run Tryz.prog 120 [.s s, .s t] (.i r):=by
 unfold kWa at hr
 split at hr
 case isFalse=> cases hr
 rename_i hc
 obtain ⟨h1,h2,h3,h4⟩:=hc
 by_cases h8:s.length≤8
 ·exact jUa s t r (by rw [Ysa s t h8 h3 h2 h4];exact hr)
 ·cases hr
  refine ⟨⟨_,_,⟨Tryz.func120,rfl,by kernel_rfl⟩⟩,fun g vs hw hg ha=> ?_⟩
  obtain ⟨hsz,hrel⟩:=ha
  obtain ⟨l⟩:=vs
  match l,hsz with
  | [x,y],_=>
   obtain rfl:=ZQa (hrel 0 _ rfl)
   obtain rfl:=ZQa (hrel 1 _ rfl)
   have h116:(Tryz.prog.info? 158).map (fun i=> (i.zero,i.size))=some (some (.agg (Array.replicate 256 (.bool false))),256):=by kernel_rfl
   have hz:=(zero_of_info h116).1
   refine callsIn_wide.2 ((Tryz.strings_IndexAny_long hz (strB s) (strB t) g.w (by rw [z5a];exact h3) (by rw [z5a];omega) (by rw [z5a];exact h1) (by rw [z5a];exact h2) (kib h4)).mono ?_)
   rintro e w' ⟨rfl,rfl⟩
   have o1:=Wca g (Lib.setCells t) 158
   have w1:=YUa hw (Lib.setCells t) 158
   have o2:=Wca ⟨g.w.alloc (.cells (Lib.setCells t) 158),fun k=> if k=g.w.heap.size then 0 else g.u k,g.loc⟩ (Lib.setCells t) 158
   have w2:=YUa w1 (Lib.setCells t) 158
   have o3:Old (fun _=> False) g _:=o1.trans (o2.mono (S' :=fun b=> False∨g.w.heap.size≤b) (by intro b _ hf;exact hf.elim))
   exact ⟨⟨_,_,_⟩,_,rfl,(by rfl),o3,w2,(by rfl), .pv (.b rfl)⟩
end Go.Proofs.YtjnmamghadpedaaGreatDoor
namespace Go.Proofs.YtjnmamghadpedaaGreatDoor
open Go.RowKit
set_option maxRecDepth 100000
set_option maxHeartbeats 40000000
theorem kHa (a0:Str) (a1:Str) (r:Bool) (hr:zDa a0 a1=some r):Run Tryz.prog 103 [.s a0, .s a1] (.bo r):=by
 unfold zDa at hr
 refine rf (fn:=Tryz.f103) ⟨Tryz.func103,rfl,by kernel_rfl⟩ rfl (fun _=> rfl) fun g0 hg=> ?_
 refine rn tk 9 rfl ?_
 obtain ⟨v1,h2,hr⟩:=zaa hr
 refine cl (Zka _ _ _ h2) rfl rfl ?_
 refine rn tk 5 rfl ?_
 cases hr
 exact kr tk (.inr rfl) rfl rfl
theorem WYa (a0:Str) (r:Bool) (hr:jKa a0=some r):Run Tryz.prog 136 [.s a0] (.bo r):=by
 unfold jKa at hr
 refine rf (fn:=Tryz.f136) ⟨Tryz.func136,rfl,by kernel_rfl⟩ rfl (fun _=> rfl) fun g0 hg=> ?_
 refine rn tk 8 rfl ?_
 obtain ⟨v1,h2,hr⟩:=zaa hr
 refine cl (kHa _ _ _ h2) rfl rfl ?_
 refine rn tk 4 rfl ?_
 cases hr
 exact kr tk (.inr rfl) rfl rfl
theorem VEa (a0:Str) (r:Bool) (hr:yDa a0=some r):Run Tryz.prog 118 [.s a0] (.bo r):=by
 unfold yDa at hr
 refine rf (fn:=Tryz.f118) ⟨Tryz.func118,rfl,by kernel_rfl⟩ rfl (fun _=> rfl) fun g0 hg=> ?_
 refine rn tk 5 rfl ?_
 refine jb hr (fun j1=> [(2, .bo j1)]) (fun j1=> []) (fun j1 hr=> ?_) (fun j1 hr=> ?_)
 ·
  refine rn tk 2 rfl ?_
  obtain ⟨v2,h3,hr⟩:=zaa hr
  refine cl (WYa _ _ h3) rfl rfl ?_
  refine rn tk 2 rfl ?_
  refine bs 6 hr rfl (fun c4 hr=> ?_) (fun c4 hr=> ?_)
  ·
   refine rn tk 3 rfl ?_
   refine bs 9 hr rfl (fun c5 hr=> ?_) (fun c5 hr=> ?_)
   ·
    refine rn tk 17 rfl ?_
    cases hr
    exact jn _ rfl rfl rfl
   ·
    refine rn tk 1 rfl ?_
    obtain ⟨v6,h7,hr⟩:=zaa hr
    refine ug rfl rfl rfl ?_
    refine ws tk h7 rfl rfl rfl rfl ?_
    obtain ⟨v8,h9,hr⟩:=zaa hr
    refine ug rfl rfl rfl ?_
    refine cl (vWa _ _ h9) rfl rfl ?_
    refine rn tk 2 rfl ?_
    refine bs 14 hr rfl (fun c10 hr=> ?_) (fun c10 hr=> ?_)
    ·
     refine rn tk 4 rfl ?_
     obtain ⟨v11,h12,hr⟩:=zaa hr
     refine ug rfl rfl rfl ?_
     refine ws tk h12 rfl rfl rfl rfl ?_
     obtain ⟨v13,h14,hr⟩:=zaa hr
     refine ug rfl rfl rfl ?_
     refine cl (vWa _ _ h14) rfl rfl ?_
     refine rn tk 6 rfl ?_
     cases hr
     exact jn _ rfl rfl rfl
    ·
     refine rn tk 12 rfl ?_
     cases hr
     exact jn _ rfl rfl rfl
  ·
   refine rn tk 20 rfl ?_
   cases hr
   exact jn _ rfl rfl rfl
 ·
  refine rn tk 1 rfl ?_
  cases hr
  exact kr tk (.inr rfl) rfl rfl
theorem Kra (a0:Str) (a1:Str) (r:(List Str) × zra) (hr:yFa a0 a1=some r):Run Tryz.prog 99 [.s a0, .s a1] (.tup [.l cS r.1, .agg [.i r.2.Code, .i r.2.Index]]):=by
 unfold yFa at hr
 refine rf (fn:=Tryz.f99) ⟨Tryz.func99,rfl,by kernel_rfl⟩ rfl (fun _=> rfl) fun g0 hg=> ?_
 refine rn tk 11 rfl ?_
 obtain ⟨v1,h2,hr⟩:=zaa hr
 refine cl (WXa _ _ h2) rfl rfl ?_
 refine rn tk 4 rfl ?_
 refine ac 12 hr rfl (fun c3 hr=> ?_) (fun c3 hr=> ?_)
 ·
  refine rn tk 2 rfl ?_
  obtain ⟨v4,h5,hr⟩:=zaa hr
  refine cl (zka _ _ _ h5) rfl rfl ?_
  refine rn tk 7 rfl ?_
  cases hr
  exact kr tk (.inr rfl) rfl rfl
 ·
  refine rn tk 8 rfl ?_
  refine ac 17 hr rfl (fun c6 hr=> ?_) (fun c6 hr=> ?_)
  ·
   refine rn tk 2 rfl ?_
   obtain ⟨v7,h8,hr⟩:=zaa hr
   refine cl (zka _ _ _ h8) rfl rfl ?_
   refine rn tk 7 rfl ?_
   cases hr
   exact kr tk (.inr rfl) rfl rfl
  ·
   refine rn tk 3 rfl ?_
   obtain ⟨v9,h10,hr⟩:=zaa hr
   refine cl (VEa _ _ h10) rfl rfl ?_
   refine rn tk 4 rfl ?_
   refine ac 22 hr rfl (fun c11 hr=> ?_) (fun c11 hr=> ?_)
   ·
    refine rn tk 2 rfl ?_
    obtain ⟨v12,h13,hr⟩:=zaa hr
    refine cl (zka _ _ _ h13) rfl rfl ?_
    refine rn tk 7 rfl ?_
    cases hr
    exact kr tk (.inr rfl) rfl rfl
   ·
    refine rn tk 6 rfl ?_
    obtain ⟨v14,h15,hr⟩:=zaa hr
    refine wc h15 rfl rfl rfl ?_
    refine rn tk 1 rfl ?_
    obtain ⟨v16,h17,hr⟩:=zaa hr
    refine wc h17 rfl rfl rfl ?_
    refine rn tk 10 rfl ?_
    refine qxa 1008 (d:=8) 9 1 rfl rfl rfl (hO ?_)
    refine rn tk 4 rfl ?_
    refine al1 hr (fun s18=> [(5, .ptr 5 0),(6, .s s18.1),(7, .i s18.2.1),(8, .hs 1008 0)]) (fun s18=> [(1008, .row 9 false 1 (List.map cS s18.2.2)),(5, .cells [.i 0, .i 0])]) (.exit 1) (fun b19=> [(5, .ptr 5 0),(6, .s b19.1),(8, .hs 1008 0)]) (fun b19=> [(1008, .row 9 false 1 (List.map cS b19.2)),(5, .cells [.i 0, .i 0])]) rfl rfl (fun s18 x20 hr=> ?_) (fun b19 hr=> ?_)
    ·
     unfold wja at hr
     refine rn tk 8 rfl ?_
     refine ac 36 hr rfl (fun c21 hr=> ?_) (fun c21 hr=> ?_)
     ·
      refine rn tk 7 rfl ?_
      obtain ⟨v22,h23,hr⟩:=zaa hr
      refine cl (VDa _ _ _ h23) rfl rfl ?_
      refine rn tk 10 rfl ?_
      refine ac 41 hr rfl (fun c24 hr=> ?_) (fun c24 hr=> ?_)
      ·
       refine rn tk 3 rfl ?_
       cases hr
       exact ato rfl rfl rfl rfl
      ·
       refine rn tk 7 rfl ?_
       obtain ⟨v25,h26,hr⟩:=zaa hr
       refine wscH tk h26 rfl rfl rfl rfl ?_
       refine wz cS ([v25]:List Str) tk rfl rfl (fun _=> rfl) rfl rfl rfl ?_
       obtain ⟨v27,h28,hr⟩:=zaa hr
       refine wa tk h28 rfl rfl rfl rfl (fun _=> rfl) rfl rfl ?_
       refine rn tk 6 rfl ?_
       obtain ⟨v29,h30,hr⟩:=zaa hr
       refine wscL tk h30 rfl rfl rfl rfl ?_
       refine rn tk 4 rfl ?_
       cases hr
       exact atc rfl rfl
     ·
      refine rn tk 2 rfl ?_
      cases hr
      exact ato rfl rfl rfl rfl
    ·
     refine rn tk 6 rfl ?_
     refine wz cS ([b19.1]:List Str) tk rfl rfl (fun _=> rfl) rfl rfl rfl ?_
     obtain ⟨v31,h32,hr⟩:=zaa hr
     refine wa tk h32 rfl rfl rfl rfl (fun _=> rfl) rfl rfl ?_
     refine rn tk 7 rfl ?_
     refine wnh tk rfl rfl rfl rfl ?_
     refine rn tk 4 rfl ?_
     refine voa (d:=55) (F:=cS) (l:=v31) rfl rfl (hC ?_)
     refine al2 hr (fun s34=> [(5, .ptr 5 0),(8, .hs 1008 0),(55, .l cS v31),(56, .i ((v31.length:Int))),(57, .i s34)]) (fun s34=> [(1008, .row 9 false 1 (List.map cS v31)),(5, .cells [.i 0, .i 0])]) (.exit 3) (fun b35=> [(5, .ptr 5 0),(8, .hs 1008 0)]) (fun b35=> [(1008, .row 9 false 1 (List.map cS v31)),(5, .cells [.i 0, .i 0])]) .ret (fun b36=> [(4, .l cS b36.1),(5, .ptr 5 0)]) (fun b36=> [(5, .cells [.i b36.2.Code, .i b36.2.Index])]) rfl rfl (fun s34 x38 hr=> ?_) (fun b35 hr=> ?_) (fun b36 hr=> ?_)
     ·
      unfold yla at hr
      refine rn tk 6 rfl ?_
      refine ac 58 hr rfl (fun c39 hr=> ?_) (fun c39 hr=> ?_)
      ·
       refine rn tk 7 rfl ?_
       obtain ⟨v40,h41,hr⟩:=zaa hr
       refine wi tk h41 rfl rfl rfl rfl rfl ?_
       refine rn tk 12 rfl ?_
       refine ac 64 hr rfl (fun c42 hr=> ?_) (fun c42 hr=> ?_)
       ·
        refine rn tk 3 rfl ?_
        obtain ⟨v43,h44,hr⟩:=zaa hr
        refine cl (zka _ _ _ h44) rfl rfl ?_
        refine rn tk 7 rfl ?_
        cases hr
        exact ato rfl rfl rfl rfl
       ·
        refine rn tk 7 rfl ?_
        cases hr
        exact atc rfl rfl
      ·
       refine rn tk 2 rfl ?_
       cases hr
       exact ato rfl rfl rfl rfl
     ·
      refine rn tk 5 rfl ?_
      obtain ⟨v45,h46,hr⟩:=zaa hr
      refine cl (zGa _ h46) rfl rfl ?_
      refine rn tk 4 rfl ?_
      refine voa (d:=4) (F:=cS) (l:=v31) rfl rfl (hC ?_)
      refine rn tk 1 rfl ?_
      cases hr
      exact kr tk (.inr rfl) rfl rfl
     ·
      refine rn tk 2 rfl ?_
      cases hr
      exact kr tk (.inr rfl) rfl rfl
theorem ZRa (a0:List zfa) (r:zra) (hr:qOa a0=some r):Run Tryz.prog 97 [.l zfa.pc a0] (.agg [.i r.Code, .i r.Index]):=by
 unfold qOa at hr
 refine rf (fn:=Tryz.f97) ⟨Tryz.func97,rfl,by kernel_rfl⟩ rfl (fun _=> rfl) fun g0 hg=> ?_
 refine rn tk 9 rfl ?_
 refine wn tk rfl rfl rfl ?_
 refine rn tk 3 rfl ?_
 refine ac 9 hr rfl (fun c1 hr=> ?_) (fun c1 hr=> ?_)
 ·
  refine rn tk 2 rfl ?_
  obtain ⟨v2,h3,hr⟩:=zaa hr
  refine cl (zka _ _ _ h3) rfl rfl ?_
  refine rn tk 5 rfl ?_
  cases hr
  exact kr tk (.inr rfl) rfl rfl
 ·
  refine rn tk 6 rfl ?_
  refine wn tk rfl rfl rfl ?_
  refine rn tk 4 rfl ?_
  refine al2 hr (fun s4=> [(2, .ptr 2 0),(11, .l zfa.pc a0),(12, .i ((a0.length:Int))),(13, .i s4)]) (fun s4=> [(2, .cells [.i 0, .i 0])]) (.exit 0) (fun b5=> [(2, .ptr 2 0)]) (fun b5=> [(2, .cells [.i 0, .i 0])]) .ret (fun b6=> [(2, .ptr 2 0)]) (fun b6=> [(2, .cells [.i b6.Code, .i b6.Index])]) rfl rfl (fun s4 x8 hr=> ?_) (fun b5 hr=> ?_) (fun b6 hr=> ?_)
  ·
   unfold qCa at hr
   refine rn tk 6 rfl ?_
   refine ac 14 hr rfl (fun c9 hr=> ?_) (fun c9 hr=> ?_)
   ·
    refine rn tk 7 rfl ?_
    obtain ⟨v10,h11,hr⟩:=zaa hr
    refine wi tk h11 rfl rfl rfl rfl rfl ?_
    refine rn tk 12 rfl ?_
    obtain ⟨v12,h13,hr⟩:=zaa hr
    refine cl (Kra _ _ _ h13) rfl rfl ?_
    refine rn tk 11 rfl ?_
    obtain ⟨v14,h15,hr⟩:=zaa hr
    refine cl (zPa _ _ h15) rfl rfl ?_
    refine rn tk 2 rfl ?_
    refine ac 27 hr rfl (fun c16 hr=> ?_) (fun c16 hr=> ?_)
    ·
     refine rn tk 5 rfl ?_
     obtain ⟨v17,h18,hr⟩:=zaa hr
     refine cl (zka _ _ _ h18) rfl rfl ?_
     refine rn tk 6 rfl ?_
     cases hr
     exact ato rfl rfl rfl rfl
    ·
     refine rn tk 7 rfl ?_
     cases hr
     exact atc rfl rfl
   ·
    refine rn tk 2 rfl ?_
    cases hr
    exact ato rfl rfl rfl rfl
  ·
   refine rn tk 4 rfl ?_
   obtain ⟨v19,h20,hr⟩:=zaa hr
   refine cl (zGa _ h20) rfl rfl ?_
   refine rn tk 4 rfl ?_
   cases hr
   exact kr tk (.inr rfl) rfl rfl
  ·
   refine rn tk 2 rfl ?_
   cases hr
   exact kr tk (.inr rfl) rfl rfl
theorem VFa (a0:List UInt8) (r:Int) (hr:yGa a0=some r):Run Tryz.prog 116 [.l cU a0] (.i r):=by
 unfold yGa at hr
 refine rf (fn:=Tryz.f116) ⟨Tryz.func116,rfl,by kernel_rfl⟩ rfl (fun _=> rfl) fun g0 hg=> ?_
 refine rn tk 17 rfl ?_
 refine al2 hr (fun s1=> [(0, .l cU a0),(3, .i s1.1),(4, .i s1.2)]) (fun s1=> []) (.exit 0) (fun b2=> []) (fun b2=> []) .ret (fun b3=> [(2, .i b3)]) (fun b3=> []) rfl rfl (fun s1 x5 hr=> ?_) (fun b2 hr=> ?_) (fun b3 hr=> ?_)
 ·
  unfold qZa at hr
  refine rn tk 5 rfl ?_
  refine wn tk rfl rfl rfl ?_
  refine rn tk 3 rfl ?_
  refine ac 9 hr rfl (fun c6 hr=> ?_) (fun c6 hr=> ?_)
  ·
   refine rn tk 2 rfl ?_
   refine jk (fun j7=> [(0, .l cU a0),(3, .i j7.1),(4, .i j7.2)]) (fun j7=> []) (fun j7=> vNa j7=some x5) ?_ ?_
   ·
    refine rn tk 5 rfl ?_
    obtain ⟨v8,h9,hr⟩:=zaa hr
    refine wi tk h9 rfl rfl rfl rfl rfl ?_
    refine rn tk 5 rfl ?_
    refine jb hr (fun j10=> [(0, .l cU a0),(3, .i s1.1),(4, .i s1.2),(5, .u8 v8),(32, .bo j10)]) (fun j10=> []) (fun j10 hr=> ?_) (fun j10 hr=> ?_)
    ·
     refine rn tk 4 rfl ?_
     refine bs 18 hr rfl (fun c11 hr=> ?_) (fun c11 hr=> ?_)
     ·
      refine rn tk 3 rfl ?_
      refine ug rfl rfl rfl ?_
      refine wn tk rfl rfl rfl ?_
      refine rn tk 3 rfl ?_
      refine bs 25 hr rfl (fun c12 hr=> ?_) (fun c12 hr=> ?_)
      ·
       refine rn tk 3 rfl ?_
       obtain ⟨v13,h14,hr⟩:=zaa hr
       refine ug rfl rfl rfl ?_
       refine wi tk h14 rfl rfl rfl rfl rfl ?_
       refine rn tk 4 rfl ?_
       cases hr
       exact jn _ rfl rfl rfl
      ·
       refine rn tk 8 rfl ?_
       cases hr
       exact jn _ rfl rfl rfl
     ·
      refine rn tk 15 rfl ?_
      cases hr
      exact jn _ rfl rfl rfl
    ·
     refine ac 32 hr rfl (fun c15 hr=> ?_) (fun c15 hr=> ?_)
     ·
      refine rn tk 15 rfl ?_
      exact jn ((0,(w64 (s1.2+1)))) hr rfl rfl
     ·
      refine rn tk 3 rfl ?_
      refine jb hr (fun j16=> [(0, .l cU a0),(3, .i s1.1),(4, .i s1.2),(40, .bo j16)]) (fun j16=> []) (fun j16 hr=> ?_) (fun j16 hr=> ?_)
      ·
       refine rn tk 4 rfl ?_
       refine bs 37 hr rfl (fun c17 hr=> ?_) (fun c17 hr=> ?_)
       ·
        refine rn tk 4 rfl ?_
        cases hr
        exact jn _ rfl rfl rfl
       ·
        refine rn tk 4 rfl ?_
        cases hr
        exact jn _ rfl rfl rfl
      ·
       refine ac 40 hr rfl (fun c18 hr=> ?_) (fun c18 hr=> ?_)
       ·
        refine rn tk 9 rfl ?_
        cases hr
        exact ato rfl rfl rfl rfl
       ·
        refine rn tk 15 rfl ?_
        refine ac 44 hr rfl (fun c19 hr=> ?_) (fun c19 hr=> ?_)
        ·
         refine rn tk 8 rfl ?_
         cases hr
         exact ato rfl rfl rfl rfl
        ·
         refine rn tk 2 rfl ?_
         exact jn (((w64 (s1.1+1)),s1.2)) hr rfl rfl
   ·
    intro j7 hr
    unfold vNa at hr
    refine rn tk 5 rfl ?_
    cases hr
    exact atc rfl rfl
  ·
   refine rn tk 2 rfl ?_
   cases hr
   exact ato rfl rfl rfl rfl
 ·
  refine rn tk 8 rfl ?_
  cases hr
  exact kr tk (.inr rfl) rfl rfl
 ·
  refine rn tk 2 rfl ?_
  cases hr
  exact kr tk (.inr rfl) rfl rfl
theorem Qna (a0:List UInt8) (r:zra) (hr:wka a0=some r):Run Tryz.prog 98 [.l cU a0] (.agg [.i r.Code, .i r.Index]):=by
 unfold wka at hr
 refine rf (fn:=Tryz.f98) ⟨Tryz.func98,rfl,by kernel_rfl⟩ rfl (fun _=> rfl) fun g0 hg=> ?_
 refine rn tk 9 rfl ?_
 obtain ⟨v1,h2,hr⟩:=zaa hr
 refine cl (VFa _ _ h2) rfl rfl ?_
 refine rn tk 9 rfl ?_
 refine ac 5 hr rfl (fun c3 hr=> ?_) (fun c3 hr=> ?_)
 ·
  refine rn tk 2 rfl ?_
  obtain ⟨v4,h5,hr⟩:=zaa hr
  refine cl (zka _ _ _ h5) rfl rfl ?_
  refine rn tk 6 rfl ?_
  cases hr
  exact kr tk (.inr rfl) rfl rfl
 ·
  refine rn tk 6 rfl ?_
  refine ac 8 hr rfl (fun c6 hr=> ?_) (fun c6 hr=> ?_)
  ·
   refine rn tk 2 rfl ?_
   obtain ⟨v7,h8,hr⟩:=zaa hr
   refine cl (zka _ _ _ h8) rfl rfl ?_
   refine rn tk 6 rfl ?_
   cases hr
   exact kr tk (.inr rfl) rfl rfl
  ·
   refine rn tk 5 rfl ?_
   obtain ⟨v9,h10,hr⟩:=zaa hr
   refine cl (zGa _ h10) rfl rfl ?_
   refine rn tk 4 rfl ?_
   cases hr
   exact kr tk (.inr rfl) rfl rfl
theorem yMa (a0:zqa) (r:List UInt8) (hr:qYa a0=some r):Run Tryz.prog 79 [.agg [.l zfa.pc a0.Fields, .l cU a0.Body]] (.l cU r):=by
 unfold qYa at hr
 refine rf (fn:=Tryz.f79) ⟨Tryz.func79,rfl,by kernel_rfl⟩ rfl (fun _=> rfl) fun g0 hg=> ?_
 refine rn tk 9 rfl ?_
 refine qxa 1003 (d:=3) 5 1 rfl rfl rfl (hO ?_)
 refine rn tk 7 rfl ?_
 refine wn tk rfl rfl rfl ?_
 refine rn tk 4 rfl ?_
 refine al1 hr (fun s1=> [(1, .ptr 1 0),(3, .hs 1003 0),(11, .l zfa.pc a0.Fields),(12, .i ((a0.Fields.length:Int))),(13, .i s1.1)]) (fun s1=> [(1003, .row 5 false 1 (List.map cU s1.2)),(1, .cells [.l zfa.pc a0.Fields, .l cU a0.Body])]) (.exit 0) (fun b2=> [(1, .ptr 1 0),(3, .hs 1003 0)]) (fun b2=> [(1003, .row 5 false 1 (List.map cU b2)),(1, .cells [.l zfa.pc a0.Fields, .l cU a0.Body])]) rfl rfl (fun s1 x3 hr=> ?_) (fun b2 hr=> ?_)
 ·
  unfold qva at hr
  refine rn tk 6 rfl ?_
  refine ac 14 hr rfl (fun c4 hr=> ?_) (fun c4 hr=> ?_)
  ·
   refine rn tk 6 rfl ?_
   obtain ⟨v5,h6,hr⟩:=zaa hr
   refine wi tk h6 rfl rfl rfl rfl rfl ?_
   refine rn tk 11 rfl ?_
   obtain ⟨v7,h8,hr⟩:=zaa hr
   refine cl (Kra _ _ _ h8) rfl rfl ?_
   refine rn tk 11 rfl ?_
   refine wn tk rfl rfl rfl ?_
   refine rn tk 4 rfl ?_
   refine al1 hr (fun s9=> [(1, .ptr 1 0),(3, .hs 1003 0),(11, .l zfa.pc a0.Fields),(12, .i ((a0.Fields.length:Int))),(13, .i s1.1),(25, .l cS v7.1),(26, .i ((v7.1.length:Int))),(27, .i s9.1)]) (fun s9=> [(1003, .row 5 false 1 (List.map cU s9.2)),(1, .cells [.l zfa.pc a0.Fields, .l cU a0.Body])]) (.exit 2) (fun b10=> [(1, .ptr 1 0),(3, .hs 1003 0),(11, .l zfa.pc a0.Fields),(12, .i ((a0.Fields.length:Int))),(13, .i s1.1)]) (fun b10=> [(1003, .row 5 false 1 (List.map cU b10)),(1, .cells [.l zfa.pc a0.Fields, .l cU a0.Body])]) rfl rfl (fun s9 x11 hr=> ?_) (fun b10 hr=> ?_)
   ·
    unfold qua at hr
    refine rn tk 6 rfl ?_
    refine ac 28 hr rfl (fun c12 hr=> ?_) (fun c12 hr=> ?_)
    ·
     refine rn tk 6 rfl ?_
     obtain ⟨v13,h14,hr⟩:=zaa hr
     refine wi tk h14 rfl rfl rfl rfl rfl ?_
     refine rn tk 7 rfl ?_
     obtain ⟨v15,h16,hr⟩:=zaa hr
     refine wo (wea (k:=33) (l:=s9.2) (s:=v13) (lim:=140737488355328) rfl rfl rfl rfl zha zNa.u zua rfl h16) rfl ?_
     refine wz cU ([(13:UInt8),(10:UInt8)]:List UInt8) tk rfl rfl (fun _=> rfl) rfl rfl rfl ?_
     obtain ⟨v17,h18,hr⟩:=zaa hr
     refine wa tk h18 rfl rfl rfl rfl (fun _=> rfl) rfl rfl ?_
     refine rn tk 8 rfl ?_
     cases hr
     exact atc rfl rfl
    ·
     refine rn tk 2 rfl ?_
     cases hr
     exact ato rfl rfl rfl rfl
   ·
    refine rn tk 7 rfl ?_
    cases hr
    exact atc rfl rfl
  ·
   refine rn tk 2 rfl ?_
   cases hr
   exact ato rfl rfl rfl rfl
 ·
  refine rn tk 3 rfl ?_
  obtain ⟨v19,h20,hr⟩:=zaa hr
  obtain ⟨v21,h22,hr⟩:=zaa hr
  refine Jea [([false,false,false,false,false,false,false], [(1, .ptr 1 0),(3, .hs 1003 0)], [(1003, .row 5 false 1 (List.map cU b2)),(1, .cells [.l zfa.pc a0.Fields, .l cU a0.Body])]),([true,false,false,false,false,false,false], [(1, .ptr 1 0),(3, .hs 1003 0),(38, .hs 1003 0)], [(1003, .row 5 false 1 (List.map cU b2)),(1, .cells [.l zfa.pc a0.Fields, .l cU a0.Body])]),([false,true,false,false,false,false,false], [(1, .ptr 1 0),(3, .hs 1003 0),(39, .l cU (([(13:UInt8),(10:UInt8)]:List UInt8)))], [(1003, .row 5 false 1 (List.map cU b2)),(1, .cells [.l zfa.pc a0.Fields, .l cU a0.Body])]),([false,false,false,true,false,false,false], [(1, .ptr 1 0),(3, .hs 1003 0),(41, .ptr 1 1)], [(1003, .row 5 false 1 (List.map cU b2)),(1, .cells [.l zfa.pc a0.Fields, .l cU a0.Body])]),([true,true,false,false,false,false,false], [(1, .ptr 1 0),(3, .hs 1003 0),(38, .hs 1003 0),(39, .l cU (([(13:UInt8),(10:UInt8)]:List UInt8)))], [(1003, .row 5 false 1 (List.map cU b2)),(1, .cells [.l zfa.pc a0.Fields, .l cU a0.Body])]),([true,false,false,true,false,false,false], [(1, .ptr 1 0),(3, .hs 1003 0),(38, .hs 1003 0),(41, .ptr 1 1)], [(1003, .row 5 false 1 (List.map cU b2)),(1, .cells [.l zfa.pc a0.Fields, .l cU a0.Body])]),([false,true,false,true,false,false,false], [(1, .ptr 1 0),(3, .hs 1003 0),(39, .l cU (([(13:UInt8),(10:UInt8)]:List UInt8))),(41, .ptr 1 1)], [(1003, .row 5 false 1 (List.map cU b2)),(1, .cells [.l zfa.pc a0.Fields, .l cU a0.Body])]),([false,false,false,true,true,false,false], [(1, .ptr 1 0),(3, .hs 1003 0),(41, .ptr 1 1),(42, .l cU a0.Body)], [(1003, .row 5 false 1 (List.map cU b2)),(1, .cells [.l zfa.pc a0.Fields, .l cU a0.Body])]),([true,true,true,false,false,false,false], [(1, .ptr 1 0),(39, .l cU (([(13:UInt8),(10:UInt8)]:List UInt8))),(40, .hs 1003 0)], [(1003, .row 5 false 1 (List.map cU v19)),(1, .cells [.l zfa.pc a0.Fields, .l cU a0.Body])]),([true,true,false,true,false,false,false], [(1, .ptr 1 0),(3, .hs 1003 0),(38, .hs 1003 0),(39, .l cU (([(13:UInt8),(10:UInt8)]:List UInt8))),(41, .ptr 1 1)], [(1003, .row 5 false 1 (List.map cU b2)),(1, .cells [.l zfa.pc a0.Fields, .l cU a0.Body])]),([true,false,false,true,true,false,false], [(1, .ptr 1 0),(3, .hs 1003 0),(38, .hs 1003 0),(41, .ptr 1 1),(42, .l cU a0.Body)], [(1003, .row 5 false 1 (List.map cU b2)),(1, .cells [.l zfa.pc a0.Fields, .l cU a0.Body])]),([false,true,false,true,true,false,false], [(1, .ptr 1 0),(3, .hs 1003 0),(39, .l cU (([(13:UInt8),(10:UInt8)]:List UInt8))),(41, .ptr 1 1),(42, .l cU a0.Body)], [(1003, .row 5 false 1 (List.map cU b2)),(1, .cells [.l zfa.pc a0.Fields, .l cU a0.Body])]),([true,true,true,true,false,false,false], [(1, .ptr 1 0),(39, .l cU (([(13:UInt8),(10:UInt8)]:List UInt8))),(40, .hs 1003 0),(41, .ptr 1 1)], [(1003, .row 5 false 1 (List.map cU v19)),(1, .cells [.l zfa.pc a0.Fields, .l cU a0.Body])]),([true,true,false,true,true,false,false], [(1, .ptr 1 0),(3, .hs 1003 0),(38, .hs 1003 0),(39, .l cU (([(13:UInt8),(10:UInt8)]:List UInt8))),(41, .ptr 1 1),(42, .l cU a0.Body)], [(1003, .row 5 false 1 (List.map cU b2)),(1, .cells [.l zfa.pc a0.Fields, .l cU a0.Body])]),([true,true,true,true,true,false,false], [(1, .ptr 1 0),(39, .l cU (([(13:UInt8),(10:UInt8)]:List UInt8))),(40, .hs 1003 0),(41, .ptr 1 1),(42, .l cU a0.Body)], [(1003, .row 5 false 1 (List.map cU v19)),(1, .cells [.l zfa.pc a0.Fields, .l cU a0.Body])]),([true,true,true,true,true,true,false], [(1, .ptr 1 0),(39, .l cU (([(13:UInt8),(10:UInt8)]:List UInt8))),(41, .ptr 1 1),(42, .l cU a0.Body),(43, .hs 1003 0)], [(1003, .row 5 false 1 (List.map cU v21)),(1, .cells [.l zfa.pc a0.Fields, .l cU a0.Body])]),([true,true,true,true,true,true,true], [(1, .ptr 1 0),(2, .hs 1003 0),(39, .l cU (([(13:UInt8),(10:UInt8)]:List UInt8))),(41, .ptr 1 1),(42, .l cU a0.Body),(43, .hs 1003 0)], [(1003, .row 5 false 1 (List.map cU v21)),(1, .cells [.l zfa.pc a0.Fields, .l cU a0.Body])])] mixed (by kernel_rfl) rfl rfl (zea rfl (zea rfl zwa)) (zba rfl (zba rfl zga)) (.cons (.step [0,1,3] (by kernel_rfl) rfl (.cons (.yes 1 rfl (zna rfl) (zma (d:=38) rfl rfl zMa) rfl (zea rfl (zea rfl (zea rfl zwa))) (zba rfl (zba rfl zga))) (.cons (.yes 2 rfl (zna rfl) (K6a (d:=39) rfl rfl (yXa (F:=cU) (l:=([(13:UInt8),(10:UInt8)]:List UInt8)) zha zua rfl (fun _=> rfl) rfl rfl)) rfl (zea rfl (zea rfl (zea rfl zwa))) (zba rfl (zba rfl zga))) (.cons (.yes 3 rfl (zna rfl) (zma (d:=41) rfl rfl (vua rfl k4a.u rfl zha rfl)) rfl (zea rfl (zea rfl (zea rfl zwa))) (zba rfl (zba rfl zga))) .nil)))) (.cons (.step [1,3] (by kernel_rfl) rfl (.cons (.yes 4 rfl (zna rfl) (K6a (d:=39) rfl rfl (yXa (F:=cU) (l:=([(13:UInt8),(10:UInt8)]:List UInt8)) zha zua rfl (fun _=> rfl) rfl rfl)) rfl (zea rfl (zea rfl (zea rfl (zea rfl zwa)))) (zba rfl (zba rfl zga))) (.cons (.yes 5 rfl (zna rfl) (zma (d:=41) rfl rfl (vua rfl k4a.u rfl zha rfl)) rfl (zea rfl (zea rfl (zea rfl (zea rfl zwa)))) (zba rfl (zba rfl zga))) .nil))) (.cons (.step [0,3] (by kernel_rfl) rfl (.cons (.yes 4 rfl (zna rfl) (zma (d:=38) rfl rfl zMa) rfl (zea rfl (zea rfl (zea rfl (zea rfl zwa)))) (zba rfl (zba rfl zga))) (.cons (.yes 6 rfl (zna rfl) (zma (d:=41) rfl rfl (vua rfl k4a.u rfl zha rfl)) rfl (zea rfl (zea rfl (zea rfl (zea rfl zwa)))) (zba rfl (zba rfl zga))) .nil))) (.cons (.step [0,1,4] (by kernel_rfl) rfl (.cons (.yes 5 rfl (zna rfl) (zma (d:=38) rfl rfl zMa) rfl (zea rfl (zea rfl (zea rfl (zea rfl zwa)))) (zba rfl (zba rfl zga))) (.cons (.yes 6 rfl (zna rfl) (K6a (d:=39) rfl rfl (yXa (F:=cU) (l:=([(13:UInt8),(10:UInt8)]:List UInt8)) zha zua rfl (fun _=> rfl) rfl rfl)) rfl (zea rfl (zea rfl (zea rfl (zea rfl zwa)))) (zba rfl (zba rfl zga))) (.cons (.yes 7 rfl (zna rfl) (zma (d:=42) rfl rfl (wLa rfl rfl zha rfl rfl)) rfl (zea rfl (zea rfl (zea rfl (zea rfl zwa)))) (zba rfl (zba rfl zga))) .nil)))) (.cons (.step [2,3] (by kernel_rfl) rfl (.cons (.yes 8 rfl (zna rfl) (vna (k:=40) (F:=cU) (l:=b2) (xs:=(([(13:UInt8),(10:UInt8)]:List UInt8))) (lim:=140737488355328) rfl rfl rfl rfl zha zua rfl rfl (fun _=> rfl) rfl h20) rfl (zea rfl (zea rfl (zea rfl zwa))) (zba rfl (zba rfl zga))) (.cons (.yes 9 rfl (zna rfl) (zma (d:=41) rfl rfl (vua rfl k4a.u rfl zha rfl)) rfl (zea rfl (zea rfl (zea rfl (zea rfl (zea rfl zwa))))) (zba rfl (zba rfl zga))) .nil))) (.cons (.step [1,4] (by kernel_rfl) rfl (.cons (.yes 9 rfl (zna rfl) (K6a (d:=39) rfl rfl (yXa (F:=cU) (l:=([(13:UInt8),(10:UInt8)]:List UInt8)) zha zua rfl (fun _=> rfl) rfl rfl)) rfl (zea rfl (zea rfl (zea rfl (zea rfl (zea rfl zwa))))) (zba rfl (zba rfl zga))) (.cons (.yes 10 rfl (zna rfl) (zma (d:=42) rfl rfl (wLa rfl rfl zha rfl rfl)) rfl (zea rfl (zea rfl (zea rfl (zea rfl (zea rfl zwa))))) (zba rfl (zba rfl zga))) .nil))) (.cons (.step [0,4] (by kernel_rfl) rfl (.cons (.yes 9 rfl (zna rfl) (zma (d:=38) rfl rfl zMa) rfl (zea rfl (zea rfl (zea rfl (zea rfl (zea rfl zwa))))) (zba rfl (zba rfl zga))) (.cons (.yes 11 rfl (zna rfl) (zma (d:=42) rfl rfl (wLa rfl rfl zha rfl rfl)) rfl (zea rfl (zea rfl (zea rfl (zea rfl (zea rfl zwa))))) (zba rfl (zba rfl zga))) .nil))) (.cons (.step [0,1] (by kernel_rfl) rfl (.cons (.yes 10 rfl (zna rfl) (zma (d:=38) rfl rfl zMa) rfl (zea rfl (zea rfl (zea rfl (zea rfl (zea rfl zwa))))) (zba rfl (zba rfl zga))) (.cons (.yes 11 rfl (zna rfl) (K6a (d:=39) rfl rfl (yXa (F:=cU) (l:=([(13:UInt8),(10:UInt8)]:List UInt8)) zha zua rfl (fun _=> rfl) rfl rfl)) rfl (zea rfl (zea rfl (zea rfl (zea rfl (zea rfl zwa))))) (zba rfl (zba rfl zga))) .nil))) (.cons (.step [3] (by kernel_rfl) rfl (.cons (.yes 12 rfl (zna rfl) (zma (d:=41) rfl rfl (vua rfl k4a.u rfl zha rfl)) rfl (zea rfl (zea rfl (zea rfl (zea rfl zwa)))) (zba rfl (zba rfl zga))) .nil)) (.cons (.step [2,4] (by kernel_rfl) rfl (.cons (.yes 12 rfl (zna rfl) (vna (k:=40) (F:=cU) (l:=b2) (xs:=(([(13:UInt8),(10:UInt8)]:List UInt8))) (lim:=140737488355328) rfl rfl rfl rfl zha zua rfl rfl (fun _=> rfl) rfl h20) rfl (zea rfl (zea rfl (zea rfl (zea rfl zwa)))) (zba rfl (zba rfl zga))) (.cons (.yes 13 rfl (zna rfl) (zma (d:=42) rfl rfl (wLa rfl rfl zha rfl rfl)) rfl (zea rfl (zea rfl (zea rfl (zea rfl (zea rfl (zea rfl zwa)))))) (zba rfl (zba rfl zga))) .nil))) (.cons (.step [1] (by kernel_rfl) rfl (.cons (.yes 13 rfl (zna rfl) (K6a (d:=39) rfl rfl (yXa (F:=cU) (l:=([(13:UInt8),(10:UInt8)]:List UInt8)) zha zua rfl (fun _=> rfl) rfl rfl)) rfl (zea rfl (zea rfl (zea rfl (zea rfl (zea rfl (zea rfl zwa)))))) (zba rfl (zba rfl zga))) .nil)) (.cons (.step [0] (by kernel_rfl) rfl (.cons (.yes 13 rfl (zna rfl) (zma (d:=38) rfl rfl zMa) rfl (zea rfl (zea rfl (zea rfl (zea rfl (zea rfl (zea rfl zwa)))))) (zba rfl (zba rfl zga))) .nil)) (.cons (.step [4] (by kernel_rfl) rfl (.cons (.yes 14 rfl (zna rfl) (zma (d:=42) rfl rfl (wLa rfl rfl zha rfl rfl)) rfl (zea rfl (zea rfl (zea rfl (zea rfl (zea rfl zwa))))) (zba rfl (zba rfl zga))) .nil)) (.cons (.step [2] (by kernel_rfl) rfl (.cons (.yes 14 rfl (zna rfl) (vna (k:=40) (F:=cU) (l:=b2) (xs:=(([(13:UInt8),(10:UInt8)]:List UInt8))) (lim:=140737488355328) rfl rfl rfl rfl zha zua rfl rfl (fun _=> rfl) rfl h20) rfl (zea rfl (zea rfl (zea rfl (zea rfl (zea rfl zwa))))) (zba rfl (zba rfl zga))) .nil)) (.cons (.step [5] (by kernel_rfl) rfl (.cons (.yes 15 rfl (zna rfl) (vna (k:=43) (F:=cU) (l:=v19) (xs:=a0.Body) (lim:=140737488355328) rfl rfl rfl rfl zha zua rfl rfl (fun _=> rfl) rfl h22) rfl (zea rfl (zea rfl (zea rfl (zea rfl (zea rfl zwa))))) (zba rfl (zba rfl zga))) .nil)) (.cons (.step [6] (by kernel_rfl) rfl (.cons (.yes 16 rfl (zna rfl) (zma (d:=2) rfl rfl kga) rfl (zea rfl (zea rfl (zea rfl (zea rfl (zea rfl (zea rfl zwa)))))) (zba rfl (zba rfl zga))) .nil)) (.cons (.full (by kernel_rfl) (hA ?_)) .nil)))))))))))))))))
  refine rn tk 1 rfl ?_
  refine voa (d:=2) (F:=cU) (l:=v21) rfl rfl (hC ?_)
  refine rn tk 1 rfl ?_
  cases hr
  exact kr tk (.inr rfl) rfl rfl
theorem wza (a0:zqa) (r:zra) (hr:kXa a0=some r):Run Tryz.prog 73 [.agg [.l zfa.pc a0.Fields, .l cU a0.Body]] (.agg [.i r.Code, .i r.Index]):=by
 unfold kXa at hr
 refine rf (fn:=Tryz.f73) ⟨Tryz.func73,rfl,by kernel_rfl⟩ rfl (fun _=> rfl) fun g0 hg=> ?_
 refine rn tk 11 rfl ?_
 obtain ⟨v1,h2,hr⟩:=zaa hr
 refine cl (ZRa _ _ h2) rfl rfl ?_
 refine rn tk 7 rfl ?_
 obtain ⟨v3,h4,hr⟩:=zaa hr
 refine cl (zPa _ _ h4) rfl rfl ?_
 refine rn tk 2 rfl ?_
 refine ac 8 hr rfl (fun c5 hr=> ?_) (fun c5 hr=> ?_)
 ·
  refine rn tk 8 rfl ?_
  cases hr
  exact kr tk (.inr rfl) rfl rfl
 ·
  refine rn tk 6 rfl ?_
  obtain ⟨v6,h7,hr⟩:=zaa hr
  refine cl (yMa _ _ h7) rfl rfl ?_
  refine wn tk rfl rfl rfl ?_
  refine rn tk 3 rfl ?_
  refine ac 13 hr rfl (fun c8 hr=> ?_) (fun c8 hr=> ?_)
  ·
   refine rn tk 2 rfl ?_
   obtain ⟨v9,h10,hr⟩:=zaa hr
   refine cl (zka _ _ _ h10) rfl rfl ?_
   refine rn tk 5 rfl ?_
   cases hr
   exact kr tk (.inr rfl) rfl rfl
  ·
   refine rn tk 6 rfl ?_
   obtain ⟨v11,h12,hr⟩:=zaa hr
   refine cl (Qna _ _ h12) rfl rfl ?_
   refine rn tk 4 rfl ?_
   cases hr
   exact kr tk (.inr rfl) rfl rfl
theorem KVa (a0:zqa) (r:(List UInt8) × zra) (hr:vSa a0=some r):Run Tryz.prog 57 [.agg [.l zfa.pc a0.Fields, .l cU a0.Body]] (.tup [.l cU r.1, .agg [.i r.2.Code, .i r.2.Index]]):=by
 unfold vSa at hr
 refine rf (fn:=Tryz.f57) ⟨Tryz.func57,rfl,by kernel_rfl⟩ rfl (fun _=> rfl) fun g0 hg=> ?_
 refine rn tk 11 rfl ?_
 obtain ⟨v1,h2,hr⟩:=zaa hr
 refine cl (wza _ _ h2) rfl rfl ?_
 refine rn tk 7 rfl ?_
 obtain ⟨v3,h4,hr⟩:=zaa hr
 refine cl (zPa _ _ h4) rfl rfl ?_
 refine rn tk 2 rfl ?_
 refine ac 8 hr rfl (fun c5 hr=> ?_) (fun c5 hr=> ?_)
 ·
  refine rn tk 1 rfl ?_
  refine dr 2 [(2, .pv (.sl (some true) [])),(9, .agg [.i v1.Code, .i v1.Index])] mixed (by kernel_rfl) rfl rfl (pq tk rfl (.plain rfl) (pq tk rfl (.plain rfl) .nil)) rfl ?_
  refine rn tk 5 rfl ?_
  cases hr
  exact kr tk (.inr rfl) rfl rfl
 ·
  refine rn tk 5 rfl ?_
  obtain ⟨v6,h7,hr⟩:=zaa hr
  refine cl (yMa _ _ h7) rfl rfl ?_
  obtain ⟨v8,h9,hr⟩:=zaa hr
  refine cl (zGa _ h9) rfl rfl ?_
  refine rn tk 5 rfl ?_
  cases hr
  exact kr tk (.inr rfl) rfl rfl
theorem ypa (a0:zqa) (r:(List UInt8) × Bool) (hr:qza a0=some r):Run Tryz.prog 35 [.agg [.l zfa.pc a0.Fields, .l cU a0.Body]] (.tup [.l cU r.1, .bo r.2]):=by
 unfold qza at hr
 refine rf (fn:=Tryz.f35) ⟨Tryz.func35,rfl,by kernel_rfl⟩ rfl (fun _=> rfl) fun g0 hg=> ?_
 refine rn tk 10 rfl ?_
 obtain ⟨v1,h2,hr⟩:=zaa hr
 refine cl (KVa _ _ h2) rfl rfl ?_
 refine rn tk 12 rfl ?_
 refine qGa rfl (yga (F:=cU) (l:=([(13:UInt8),(10:UInt8)]:List UInt8)) zha zua rfl (fun _=> rfl) rfl rfl) zha zua (zna rfl) (zna rfl) rfl (hO ?_)
 obtain ⟨v3,h4,hr⟩:=zaa hr
 refine cl (w5a _ _ _ h4) rfl rfl ?_
 refine rn tk 6 rfl ?_
 cases hr
 exact kr tk (.inr rfl) rfl rfl
theorem Vfa (a0:zla) (r:Bool) (hr:wVa a0=some r):Run Tryz.prog 54 [.agg [.s a0.Name, .s a0.Mail.Envelope.From, .l zca.pc a0.Mail.Envelope.To, .s a0.Mail.Envelope.Id, .l zfa.pc a0.Mail.Message.Fields, .l cU a0.Mail.Message.Body, .bo a0.Pipelined, .l cU a0.Buffer, .i a0.Expected, .bo a0.Whole, .bo a0.Done, .l cI a0.Results]] (.bo r):=by
 unfold wVa at hr
 refine rf (fn:=Tryz.f54) ⟨Tryz.func54,rfl,by kernel_rfl⟩ rfl (fun _=> rfl) fun g0 hg=> ?_
 refine rn tk 12 rfl ?_
 refine wn tk rfl rfl rfl ?_
 refine rn tk 8 rfl ?_
 obtain ⟨v1,h2,hr⟩:=zaa hr
 refine cl (ypa _ _ h2) rfl rfl ?_
 refine rn tk 8 rfl ?_
 refine jb hr (fun j3=> [(1, .ptr 1 0),(49, .bo j3)]) (fun j3=> [(1, .cells [.s a0.Name, .s a0.Mail.Envelope.From, .l zca.pc a0.Mail.Envelope.To, .s a0.Mail.Envelope.Id, .l zfa.pc a0.Mail.Message.Fields, .l cU a0.Mail.Message.Body, .bo a0.Pipelined, .l cU a0.Buffer, .i a0.Expected, .bo a0.Whole, .bo a0.Done, .l cI a0.Results])]) (fun j3 hr=> ?_) (fun j3 hr=> ?_)
 ·
  refine rn tk 9 rfl ?_
  refine bs 27 hr rfl (fun c4 hr=> ?_) (fun c4 hr=> ?_)
  ·
   refine rn tk 13 rfl ?_
   refine bs 40 hr rfl (fun c5 hr=> ?_) (fun c5 hr=> ?_)
   ·
    refine rn tk 10 rfl ?_
    cases hr
    exact jn _ rfl rfl rfl
   ·
    refine rn tk 2 rfl ?_
    refine bs 42 hr rfl (fun c6 hr=> ?_) (fun c6 hr=> ?_)
    ·
     refine rn tk 8 rfl ?_
     cases hr
     exact jn _ rfl rfl rfl
    ·
     refine rn tk 8 rfl ?_
     cases hr
     exact jn _ rfl rfl rfl
  ·
   refine rn tk 2 rfl ?_
   refine bs 29 hr rfl (fun c7 hr=> ?_) (fun c7 hr=> ?_)
   ·
    refine rn tk 4 rfl ?_
    refine bs 33 hr rfl (fun c8 hr=> ?_) (fun c8 hr=> ?_)
    ·
     refine rn tk 7 rfl ?_
     refine bs 40 hr rfl (fun c9 hr=> ?_) (fun c9 hr=> ?_)
     ·
      refine rn tk 10 rfl ?_
      cases hr
      exact jn _ rfl rfl rfl
     ·
      refine rn tk 2 rfl ?_
      refine kn 42 c7 rfl ?_
      refine rn tk 8 rfl ?_
      cases hr
      exact jn _ rfl rfl rfl
    ·
     refine rn tk 7 rfl ?_
     refine bs 40 hr rfl (fun c10 hr=> ?_) (fun c10 hr=> ?_)
     ·
      refine rn tk 10 rfl ?_
      cases hr
      exact jn _ rfl rfl rfl
     ·
      refine rn tk 2 rfl ?_
      refine kn 42 c7 rfl ?_
      refine rn tk 8 rfl ?_
      cases hr
      exact jn _ rfl rfl rfl
   ·
    refine rn tk 11 rfl ?_
    refine bs 40 hr rfl (fun c11 hr=> ?_) (fun c11 hr=> ?_)
    ·
     refine rn tk 10 rfl ?_
     cases hr
     exact jn _ rfl rfl rfl
    ·
     refine rn tk 2 rfl ?_
     refine kn 42 c7 rfl ?_
     refine rn tk 8 rfl ?_
     cases hr
     exact jn _ rfl rfl rfl
 ·
  refine ac 49 hr rfl (fun c12 hr=> ?_) (fun c12 hr=> ?_)
  ·
   refine rn tk 7 rfl ?_
   cases hr
   exact kr tk (.inr rfl) rfl rfl
  ·
   refine rn tk 7 rfl ?_
   refine wn tk rfl rfl rfl ?_
   refine rn tk 4 rfl ?_
   refine al2 hr (fun s13=> [(1, .ptr 1 0),(51, .l cI a0.Results),(52, .i ((a0.Results.length:Int))),(53, .i s13)]) (fun s13=> [(1, .cells [.s a0.Name, .s a0.Mail.Envelope.From, .l zca.pc a0.Mail.Envelope.To, .s a0.Mail.Envelope.Id, .l zfa.pc a0.Mail.Message.Fields, .l cU a0.Mail.Message.Body, .bo a0.Pipelined, .l cU a0.Buffer, .i a0.Expected, .bo a0.Whole, .bo a0.Done, .l cI a0.Results])]) (.exit 0) (fun b14=> []) (fun b14=> []) .ret (fun b15=> [(2, .bo b15)]) (fun b15=> []) rfl rfl (fun s13 x17 hr=> ?_) (fun b14 hr=> ?_) (fun b15 hr=> ?_)
   ·
    unfold vfa at hr
    refine rn tk 6 rfl ?_
    refine ac 54 hr rfl (fun c18 hr=> ?_) (fun c18 hr=> ?_)
    ·
     refine rn tk 7 rfl ?_
     obtain ⟨v19,h20,hr⟩:=zaa hr
     refine wi tk h20 rfl rfl rfl rfl rfl ?_
     refine rn tk 5 rfl ?_
     refine jb hr (fun j21=> [(1, .ptr 1 0),(51, .l cI a0.Results),(52, .i ((a0.Results.length:Int))),(53, .i s13),(66, .bo j21)]) (fun j21=> [(1, .cells [.s a0.Name, .s a0.Mail.Envelope.From, .l zca.pc a0.Mail.Envelope.To, .s a0.Mail.Envelope.Id, .l zfa.pc a0.Mail.Message.Fields, .l cU a0.Mail.Message.Body, .bo a0.Pipelined, .l cU a0.Buffer, .i a0.Expected, .bo a0.Whole, .bo a0.Done, .l cI a0.Results])]) (fun j21 hr=> ?_) (fun j21 hr=> ?_)
     ·
      refine rn tk 7 rfl ?_
      refine bs 63 hr rfl (fun c22 hr=> ?_) (fun c22 hr=> ?_)
      ·
       refine rn tk 4 rfl ?_
       cases hr
       exact jn _ rfl rfl rfl
      ·
       refine rn tk 4 rfl ?_
       cases hr
       exact jn _ rfl rfl rfl
     ·
      refine ac 66 hr rfl (fun c23 hr=> ?_) (fun c23 hr=> ?_)
      ·
       refine rn tk 8 rfl ?_
       cases hr
       exact ato rfl rfl rfl rfl
      ·
       refine rn tk 7 rfl ?_
       cases hr
       exact atc rfl rfl
    ·
     refine rn tk 2 rfl ?_
     cases hr
     exact ato rfl rfl rfl rfl
   ·
    refine rn tk 8 rfl ?_
    cases hr
    exact kr tk (.inr rfl) rfl rfl
   ·
    refine rn tk 2 rfl ?_
    cases hr
    exact kr tk (.inr rfl) rfl rfl
theorem jga (a0:UInt8) (r:Bool) (hr:vva a0=some r):Run Tryz.prog 71 [.u8 a0] (.bo r):=by
 unfold vva at hr
 refine rf (fn:=Tryz.f71) ⟨Tryz.func71,rfl,by kernel_rfl⟩ rfl (fun _=> rfl) fun g0 hg=> ?_
 refine rn tk 5 rfl ?_
 refine jb hr (fun j1=> [(2, .bo j1)]) (fun j1=> []) (fun j1 hr=> ?_) (fun j1 hr=> ?_)
 ·
  refine rn tk 4 rfl ?_
  refine bs 5 hr rfl (fun c2 hr=> ?_) (fun c2 hr=> ?_)
  ·
   refine rn tk 4 rfl ?_
   refine bs 9 hr rfl (fun c3 hr=> ?_) (fun c3 hr=> ?_)
   ·
    refine rn tk 17 rfl ?_
    cases hr
    exact jn _ rfl rfl rfl
   ·
    refine rn tk 3 rfl ?_
    refine bs 12 hr rfl (fun c4 hr=> ?_) (fun c4 hr=> ?_)
    ·
     refine rn tk 5 rfl ?_
     refine bs 17 hr rfl (fun c5 hr=> ?_) (fun c5 hr=> ?_)
     ·
      refine rn tk 9 rfl ?_
      cases hr
      exact jn _ rfl rfl rfl
     ·
      refine rn tk 3 rfl ?_
      refine bs 20 hr rfl (fun c6 hr=> ?_) (fun c6 hr=> ?_)
      ·
       refine rn tk 6 rfl ?_
       cases hr
       exact jn _ rfl rfl rfl
      ·
       refine rn tk 6 rfl ?_
       cases hr
       exact jn _ rfl rfl rfl
    ·
     refine rn tk 8 rfl ?_
     refine bs 20 hr rfl (fun c7 hr=> ?_) (fun c7 hr=> ?_)
     ·
      refine rn tk 6 rfl ?_
      cases hr
      exact jn _ rfl rfl rfl
     ·
      refine rn tk 6 rfl ?_
      cases hr
      exact jn _ rfl rfl rfl
  ·
   refine rn tk 7 rfl ?_
   refine bs 12 hr rfl (fun c8 hr=> ?_) (fun c8 hr=> ?_)
   ·
    refine rn tk 5 rfl ?_
    refine bs 17 hr rfl (fun c9 hr=> ?_) (fun c9 hr=> ?_)
    ·
     refine rn tk 9 rfl ?_
     cases hr
     exact jn _ rfl rfl rfl
    ·
     refine rn tk 3 rfl ?_
     refine bs 20 hr rfl (fun c10 hr=> ?_) (fun c10 hr=> ?_)
     ·
      refine rn tk 6 rfl ?_
      cases hr
      exact jn _ rfl rfl rfl
     ·
      refine rn tk 6 rfl ?_
      cases hr
      exact jn _ rfl rfl rfl
   ·
    refine rn tk 8 rfl ?_
    refine bs 20 hr rfl (fun c11 hr=> ?_) (fun c11 hr=> ?_)
    ·
     refine rn tk 6 rfl ?_
     cases hr
     exact jn _ rfl rfl rfl
    ·
     refine rn tk 6 rfl ?_
     cases hr
     exact jn _ rfl rfl rfl
 ·
  refine rn tk 1 rfl ?_
  cases hr
  exact kr tk (.inr rfl) rfl rfl
theorem yua (a0:Str) (r:Bool) (hr:v5a a0=some r):Run Tryz.prog 43 [.s a0] (.bo r):=by
 unfold v5a at hr
 refine rf (fn:=Tryz.f43) ⟨Tryz.func43,rfl,by kernel_rfl⟩ rfl (fun _=> rfl) fun g0 hg=> ?_
 refine rn tk 5 rfl ?_
 refine jb hr (fun j1=> [(2, .bo j1)]) (fun j1=> []) (fun j1 hr=> ?_) (fun j1 hr=> ?_)
 ·
  refine rn tk 4 rfl ?_
  refine bs 5 hr rfl (fun c2 hr=> ?_) (fun c2 hr=> ?_)
  ·
   refine rn tk 5 rfl ?_
   refine bs 10 hr rfl (fun c3 hr=> ?_) (fun c3 hr=> ?_)
   ·
    refine rn tk 1 rfl ?_
    refine ug rfl rfl rfl ?_
    refine ct hr (fun j4=> [(10, .bo true),(12, .bo j4)]) (fun j4=> []) (fun j4 hr jump4=> ?_) (fun j4 hr=> ?_)
    ·
     refine il (fn:=Tryz.f69) (args:= [.s a0, .fn (.func 70) [] []]) 400000 499999 [(10, .bo true)] rfl ⟨Tryz.func69,rfl,by kernel_rfl⟩ rfl rfl rfl fun T4 ds4=> ?_
     refine rn tk 14 rfl ?_
     refine al2 hr (fun s5=> [(0, .s a0),(1, .fn (.func 70) [] []),(7, .i ((a0.length:Int))),(8, .i s5)]) (fun s5=> [(499999, .sus g0.w.heap.size ds4),(400010, .hold (.bo true) (T4.getD 10 undef))]) (.exit 0) (fun b6=> []) (fun b6=> [(499999, .sus g0.w.heap.size ds4),(400010, .hold (.bo true) (T4.getD 10 undef))]) .ret (fun b7=> [(4, .bo false)]) (fun b7=> [(499999, .sus g0.w.heap.size ds4),(400010, .hold (.bo true) (T4.getD 10 undef))]) rfl rfl (fun s5 x9 hr=> ?_) (fun b6 hr=> ?_) (fun b7 hr=> ?_)
     ·
      unfold vMa at hr
      refine rn tk 6 rfl ?_
      refine ac 9 hr rfl (fun c10 hr=> ?_) (fun c10 hr=> ?_)
      ·
       refine rn tk 15 rfl ?_
       obtain ⟨v11,h12,hr⟩:=zaa hr
       refine ws tk h12 rfl rfl rfl rfl ?_
       refine il (fn:=Tryz.f70) (args:= [.u8 v11]) 600000 699999 [(0, .s a0),(1, .fn (.func 70) [] []),(7, .i ((a0.length:Int))),(8, .i s5)] rfl ⟨Tryz.func70,rfl,by kernel_rfl⟩ rfl rfl rfl fun T6 ds6=> ?_
       refine rn tk 5 rfl ?_
       refine jb hr (fun j13=> [(2, .bo j13)]) (fun j13=> [(699999, .sus g0.w.heap.size ds6),(600000, .hold (.s a0) (T6.getD 0 undef)),(600001, .hold (.fn (.func 70) [] []) (T6.getD 1 undef)),(600007, .hold (.i ((a0.length:Int))) (T6.getD 7 undef)),(600008, .hold (.i s5) (T6.getD 8 undef)),(499999, .sus g0.w.heap.size ds4),(400010, .hold (.bo true) (T4.getD 10 undef))]) (fun j13 hr=> ?_) (fun j13 hr=> ?_)
       ·
        refine rn tk 2 rfl ?_
        obtain ⟨v14,h15,hr⟩:=zaa hr
        refine cl (jga _ _ h15) rfl rfl ?_
        refine rn tk 1 rfl ?_
        refine bs 5 hr rfl (fun c16 hr=> ?_) (fun c16 hr=> ?_)
        ·
         refine rn tk 13 rfl ?_
         cases hr
         exact jn _ rfl rfl rfl
        ·
         refine rn tk 4 rfl ?_
         refine bs 9 hr rfl (fun c17 hr=> ?_) (fun c17 hr=> ?_)
         ·
          refine rn tk 9 rfl ?_
          cases hr
          exact jn _ rfl rfl rfl
         ·
          refine rn tk 4 rfl ?_
          refine bs 13 hr rfl (fun c18 hr=> ?_) (fun c18 hr=> ?_)
          ·
           refine rn tk 5 rfl ?_
           cases hr
           exact jn _ rfl rfl rfl
          ·
           refine rn tk 5 rfl ?_
           cases hr
           exact jn _ rfl rfl rfl
       ·
        refine rn tk 1 rfl ?_
        refine ie tk [.bo j13] [(0, .s a0),(1, .fn (.func 70) [] []),(7, .i ((a0.length:Int))),(8, .i s5)] [(499999, .sus g0.w.heap.size ds4),(400010, .hold (.bo true) (T4.getD 10 undef))] (.inr rfl) rfl rfl rfl rfl (hO ?_)
        refine rn tk 3 rfl ?_
        refine ac 16 hr rfl (fun c19 hr=> ?_) (fun c19 hr=> ?_)
        ·
         refine rn tk 8 rfl ?_
         cases hr
         exact ato rfl rfl rfl rfl
        ·
         refine rn tk 7 rfl ?_
         cases hr
         exact atc rfl rfl
      ·
       refine rn tk 2 rfl ?_
       cases hr
       exact ato rfl rfl rfl rfl
     ·
      refine rn tk 8 rfl ?_
      refine ie tk [.bo true] [(10, .bo true)] [] (.inr rfl) rfl rfl rfl rfl ?_
      cases hr
      exact jump4 _ _ rfl rfl
     ·
      refine rn tk 2 rfl ?_
      refine ie tk [.bo false] [(10, .bo true)] [] (.inr rfl) rfl rfl rfl rfl ?_
      cases hr
      exact jump4 _ _ rfl rfl
    ·
     refine rn tk 3 rfl ?_
     cases hr
     exact jn _ rfl rfl rfl
   ·
    refine rn tk 5 rfl ?_
    cases hr
    exact jn _ rfl rfl rfl
  ·
   refine rn tk 10 rfl ?_
   cases hr
   exact jn _ rfl rfl rfl
 ·
  refine rn tk 1 rfl ?_
  cases hr
  exact kr tk (.inr rfl) rfl rfl
end Go.Proofs.YtjnmamghadpedaaGreatDoor
namespace Go.Proofs.YtjnmamghadpedaaGreatDoor
open Go.RowKit
set_option maxRecDepth 100000
theorem Zla (s t:Str) (r:Bool) (hr:kEa s t=some r):Run Tryz.prog 157 [.s s, .s t] (.bo r):=by
 unfold kEa at hr
 split at hr
 case isFalse=> cases hr
 rename_i hlen
 cases hr
 refine ⟨⟨_,_,⟨Tryz.func157,rfl,by kernel_rfl⟩⟩,fun g vs hw hg ha=> ?_⟩
 obtain ⟨hsz,hrel⟩:=ha
 obtain ⟨l⟩:=vs
 match l,hsz with
 | [x,y],_=>
  obtain rfl:=ZQa (hrel 0 _ rfl)
  obtain rfl:=ZQa (hrel 1 _ rfl)
  obtain ⟨_,_,m,hm⟩:=hg.1 (0,0) (by simp [klb])
  refine callsIn_wide.2 ((Tryz.strings_Contains (strB s) (strB t) m g.w (by rw [z5a];exact hlen) hm).mono ?_)
  rintro e w' ⟨rfl,rfl⟩
  exact ⟨g,_,rfl,rfl,Old.refl _ g,hw,rfl, .pv (.b rfl)⟩
theorem Vga (s t:Str) (r:Str × Str × Bool) (hr:vqa s t=some r):Run Tryz.prog 130 [.s s, .s t] (.tup [.s r.1, .s r.2.1, .bo r.2.2]):=by
 unfold vqa at hr
 split at hr
 case isFalse=> cases hr
 rename_i hlen
 cases hr
 refine ⟨⟨_,_,⟨Tryz.func130,rfl,by kernel_rfl⟩⟩,fun g vs hw hg ha=> ?_⟩
 obtain ⟨hsz,hrel⟩:=ha
 obtain ⟨l⟩:=vs
 match l,hsz with
 | [x,y],_=>
  obtain rfl:=ZQa (hrel 0 _ rfl)
  obtain rfl:=ZQa (hrel 1 _ rfl)
  obtain ⟨_,_,m,hm⟩:=hg.1 (0,0) (by simp [klb])
  refine callsIn_wide.2 ((Tryz.strings_Cut (strB s) (strB t) m g.w (by rw [z5a];exact hlen) hm).mono ?_)
  rintro e w' ⟨rfl,q,rfl⟩
  refine ⟨⟨g.w.drewN q,g.u,g.loc⟩,_,rfl,rfl,YTa g q,hw,rfl, .tup rfl fun i c hi=> ?_⟩
  match i,hi with
  | 0,rfl=> exact .pv (.b rfl)
  | 1,rfl=> exact .pv (.b rfl)
  | 2,rfl=> exact .pv (.b rfl)
end Go.Proofs.YtjnmamghadpedaaGreatDoor
namespace Go.Proofs.YtjnmamghadpedaaGreatDoor
open Go.RowKit
set_option maxRecDepth 100000
set_option maxHeartbeats 40000000
theorem vBa (a0:Str) (a1:Str) (r:Bool) (hr:z9a a0 a1=some r):Run Tryz.prog 169 [.s a0, .s a1] (.bo r):=by
 unfold z9a at hr
 refine rf (fn:=Tryz.f169) ⟨Tryz.func169,rfl,by kernel_rfl⟩ rfl (fun _=> rfl) fun g0 hg=> ?_
 refine rn tk 5 rfl ?_
 refine jb hr (fun j1=> [(4, .bo j1)]) (fun j1=> []) (fun j1 hr=> ?_) (fun j1 hr=> ?_)
 ·
  refine rn tk 7 rfl ?_
  refine bs 10 hr rfl (fun c2 hr=> ?_) (fun c2 hr=> ?_)
  ·
   refine rn tk 3 rfl ?_
   obtain ⟨v3,h4,hr⟩:=zaa hr
   refine ug rfl rfl rfl ?_
   refine wscH tk h4 rfl rfl rfl rfl ?_
   refine rn tk 5 rfl ?_
   cases hr
   exact jn _ rfl rfl rfl
  ·
   refine rn tk 9 rfl ?_
   cases hr
   exact jn _ rfl rfl rfl
 ·
  refine rn tk 1 rfl ?_
  cases hr
  exact kr tk (.inr rfl) rfl rfl
theorem jVa (a0:Str) (a1:Str) (r:Bool) (hr:ksa a0 a1=some r):Run Tryz.prog 155 [.s a0, .s a1] (.bo r):=by
 unfold ksa at hr
 refine rf (fn:=Tryz.f155) ⟨Tryz.func155,rfl,by kernel_rfl⟩ rfl (fun _=> rfl) fun g0 hg=> ?_
 refine rn tk 9 rfl ?_
 obtain ⟨v1,h2,hr⟩:=zaa hr
 refine cl (vBa _ _ _ h2) rfl rfl ?_
 refine rn tk 4 rfl ?_
 cases hr
 exact kr tk (.inr rfl) rfl rfl
theorem vCa (a0:Str) (a1:Str) (r:Bool) (hr:kaa a0 a1=some r):Run Tryz.prog 170 [.s a0, .s a1] (.bo r):=by
 unfold kaa at hr
 refine rf (fn:=Tryz.f170) ⟨Tryz.func170,rfl,by kernel_rfl⟩ rfl (fun _=> rfl) fun g0 hg=> ?_
 refine rn tk 5 rfl ?_
 refine jb hr (fun j1=> [(4, .bo j1)]) (fun j1=> []) (fun j1 hr=> ?_) (fun j1 hr=> ?_)
 ·
  refine rn tk 7 rfl ?_
  refine bs 10 hr rfl (fun c2 hr=> ?_) (fun c2 hr=> ?_)
  ·
   refine rn tk 6 rfl ?_
   obtain ⟨v3,h4,hr⟩:=zaa hr
   refine ug rfl rfl rfl ?_
   refine wscL tk h4 rfl rfl rfl rfl ?_
   refine rn tk 5 rfl ?_
   cases hr
   exact jn _ rfl rfl rfl
  ·
   refine rn tk 12 rfl ?_
   cases hr
   exact jn _ rfl rfl rfl
 ·
  refine rn tk 1 rfl ?_
  cases hr
  exact kr tk (.inr rfl) rfl rfl
theorem jWa (a0:Str) (a1:Str) (r:Bool) (hr:kta a0 a1=some r):Run Tryz.prog 156 [.s a0, .s a1] (.bo r):=by
 unfold kta at hr
 refine rf (fn:=Tryz.f156) ⟨Tryz.func156,rfl,by kernel_rfl⟩ rfl (fun _=> rfl) fun g0 hg=> ?_
 refine rn tk 9 rfl ?_
 obtain ⟨v1,h2,hr⟩:=zaa hr
 refine cl (vCa _ _ _ h2) rfl rfl ?_
 refine rn tk 4 rfl ?_
 cases hr
 exact kr tk (.inr rfl) rfl rfl
theorem ZSa (a0:Str) (r:Bool) (hr:qLa a0=some r):Run Tryz.prog 133 [.s a0] (.bo r):=by
 unfold qLa at hr
 refine rf (fn:=Tryz.f133) ⟨Tryz.func133,rfl,by kernel_rfl⟩ rfl (fun _=> rfl) fun g0 hg=> ?_
 refine rn tk 10 rfl ?_
 refine jb hr (fun j1=> [(2, .bo j1)]) (fun j1=> []) (fun j1 hr=> ?_) (fun j1 hr=> ?_)
 ·
  refine rn tk 4 rfl ?_
  refine bs 6 hr rfl (fun c2 hr=> ?_) (fun c2 hr=> ?_)
  ·
   refine rn tk 5 rfl ?_
   refine bs 11 hr rfl (fun c3 hr=> ?_) (fun c3 hr=> ?_)
   ·
    refine rn tk 2 rfl ?_
    refine ug rfl rfl rfl ?_
    refine ct hr (fun j4=> [(0, .s a0),(11, .bo true),(14, .bo j4)]) (fun j4=> []) (fun j4 hr jump4=> ?_) (fun j4 hr=> ?_)
    ·
     refine il (fn:=Tryz.f69) (args:= [.s a0, .fn (.func 154) [] []]) 400000 499999 [(0, .s a0),(11, .bo true)] rfl ⟨Tryz.func69,rfl,by kernel_rfl⟩ rfl rfl rfl fun T4 ds4=> ?_
     refine rn tk 14 rfl ?_
     refine al2 hr (fun s5=> [(0, .s a0),(1, .fn (.func 154) [] []),(7, .i ((a0.length:Int))),(8, .i s5)]) (fun s5=> [(499999, .sus g0.w.heap.size ds4),(400000, .hold (.s a0) (T4.getD 0 undef)),(400011, .hold (.bo true) (T4.getD 11 undef))]) (.exit 0) (fun b6=> []) (fun b6=> [(499999, .sus g0.w.heap.size ds4),(400000, .hold (.s a0) (T4.getD 0 undef)),(400011, .hold (.bo true) (T4.getD 11 undef))]) .ret (fun b7=> [(4, .bo false)]) (fun b7=> [(499999, .sus g0.w.heap.size ds4),(400000, .hold (.s a0) (T4.getD 0 undef)),(400011, .hold (.bo true) (T4.getD 11 undef))]) rfl rfl (fun s5 x9 hr=> ?_) (fun b6 hr=> ?_) (fun b7 hr=> ?_)
     ·
      unfold k1a at hr
      refine rn tk 6 rfl ?_
      refine ac 9 hr rfl (fun c10 hr=> ?_) (fun c10 hr=> ?_)
      ·
       refine rn tk 15 rfl ?_
       obtain ⟨v11,h12,hr⟩:=zaa hr
       refine ws tk h12 rfl rfl rfl rfl ?_
       refine il (fn:=Tryz.f154) (args:= [.u8 v11]) 600000 699999 [(0, .s a0),(1, .fn (.func 154) [] []),(7, .i ((a0.length:Int))),(8, .i s5)] rfl ⟨Tryz.func154,rfl,by kernel_rfl⟩ rfl rfl rfl fun T6 ds6=> ?_
       refine rn tk 5 rfl ?_
       refine jb hr (fun j13=> [(2, .bo j13)]) (fun j13=> [(699999, .sus g0.w.heap.size ds6),(600000, .hold (.s a0) (T6.getD 0 undef)),(600001, .hold (.fn (.func 154) [] []) (T6.getD 1 undef)),(600007, .hold (.i ((a0.length:Int))) (T6.getD 7 undef)),(600008, .hold (.i s5) (T6.getD 8 undef)),(499999, .sus g0.w.heap.size ds4),(400000, .hold (.s a0) (T4.getD 0 undef)),(400011, .hold (.bo true) (T4.getD 11 undef))]) (fun j13 hr=> ?_) (fun j13 hr=> ?_)
       ·
        refine rn tk 4 rfl ?_
        refine bs 5 hr rfl (fun c14 hr=> ?_) (fun c14 hr=> ?_)
        ·
         refine rn tk 4 rfl ?_
         refine bs 9 hr rfl (fun c15 hr=> ?_) (fun c15 hr=> ?_)
         ·
          refine rn tk 17 rfl ?_
          cases hr
          exact jn _ rfl rfl rfl
         ·
          refine rn tk 3 rfl ?_
          refine bs 12 hr rfl (fun c16 hr=> ?_) (fun c16 hr=> ?_)
          ·
           refine rn tk 5 rfl ?_
           refine bs 17 hr rfl (fun c17 hr=> ?_) (fun c17 hr=> ?_)
           ·
            refine rn tk 9 rfl ?_
            cases hr
            exact jn _ rfl rfl rfl
           ·
            refine rn tk 4 rfl ?_
            refine bs 21 hr rfl (fun c18 hr=> ?_) (fun c18 hr=> ?_)
            ·
             refine rn tk 5 rfl ?_
             cases hr
             exact jn _ rfl rfl rfl
            ·
             refine rn tk 5 rfl ?_
             cases hr
             exact jn _ rfl rfl rfl
          ·
           refine rn tk 9 rfl ?_
           refine bs 21 hr rfl (fun c19 hr=> ?_) (fun c19 hr=> ?_)
           ·
            refine rn tk 5 rfl ?_
            cases hr
            exact jn _ rfl rfl rfl
           ·
            refine rn tk 5 rfl ?_
            cases hr
            exact jn _ rfl rfl rfl
        ·
         refine rn tk 7 rfl ?_
         refine bs 12 hr rfl (fun c20 hr=> ?_) (fun c20 hr=> ?_)
         ·
          refine rn tk 5 rfl ?_
          refine bs 17 hr rfl (fun c21 hr=> ?_) (fun c21 hr=> ?_)
          ·
           refine rn tk 9 rfl ?_
           cases hr
           exact jn _ rfl rfl rfl
          ·
           refine rn tk 4 rfl ?_
           refine bs 21 hr rfl (fun c22 hr=> ?_) (fun c22 hr=> ?_)
           ·
            refine rn tk 5 rfl ?_
            cases hr
            exact jn _ rfl rfl rfl
           ·
            refine rn tk 5 rfl ?_
            cases hr
            exact jn _ rfl rfl rfl
         ·
          refine rn tk 9 rfl ?_
          refine bs 21 hr rfl (fun c23 hr=> ?_) (fun c23 hr=> ?_)
          ·
           refine rn tk 5 rfl ?_
           cases hr
           exact jn _ rfl rfl rfl
          ·
           refine rn tk 5 rfl ?_
           cases hr
           exact jn _ rfl rfl rfl
       ·
        refine rn tk 1 rfl ?_
        refine ie tk [.bo j13] [(0, .s a0),(1, .fn (.func 154) [] []),(7, .i ((a0.length:Int))),(8, .i s5)] [(499999, .sus g0.w.heap.size ds4),(400000, .hold (.s a0) (T4.getD 0 undef)),(400011, .hold (.bo true) (T4.getD 11 undef))] (.inr rfl) rfl rfl rfl rfl (hO ?_)
        refine rn tk 3 rfl ?_
        refine ac 16 hr rfl (fun c24 hr=> ?_) (fun c24 hr=> ?_)
        ·
         refine rn tk 8 rfl ?_
         cases hr
         exact ato rfl rfl rfl rfl
        ·
         refine rn tk 7 rfl ?_
         cases hr
         exact atc rfl rfl
      ·
       refine rn tk 2 rfl ?_
       cases hr
       exact ato rfl rfl rfl rfl
     ·
      refine rn tk 8 rfl ?_
      refine ie tk [.bo true] [(0, .s a0),(11, .bo true)] [] (.inr rfl) rfl rfl rfl rfl ?_
      cases hr
      exact jump4 _ _ rfl rfl
     ·
      refine rn tk 2 rfl ?_
      refine ie tk [.bo false] [(0, .s a0),(11, .bo true)] [] (.inr rfl) rfl rfl rfl rfl ?_
      cases hr
      exact jump4 _ _ rfl rfl
    ·
     refine rn tk 2 rfl ?_
     refine bs 16 hr rfl (fun c25 hr=> ?_) (fun c25 hr=> ?_)
     ·
      refine rn tk 1 rfl ?_
      obtain ⟨v26,h27,hr⟩:=zaa hr
      refine ug rfl rfl rfl ?_
      refine cl (jVa _ _ _ h27) rfl rfl ?_
      refine rn tk 3 rfl ?_
      refine bs 21 hr rfl (fun c28 hr=> ?_) (fun c28 hr=> ?_)
      ·
       refine rn tk 1 rfl ?_
       obtain ⟨v29,h30,hr⟩:=zaa hr
       refine ug rfl rfl rfl ?_
       refine cl (jWa _ _ _ h30) rfl rfl ?_
       refine rn tk 3 rfl ?_
       refine bs 26 hr rfl (fun c31 hr=> ?_) (fun c31 hr=> ?_)
       ·
        refine rn tk 1 rfl ?_
        obtain ⟨v32,h33,hr⟩:=zaa hr
        refine ug rfl rfl rfl ?_
        refine cl (Zla _ _ _ h33) rfl rfl ?_
        refine rn tk 4 rfl ?_
        cases hr
        exact jn _ rfl rfl rfl
       ·
        refine rn tk 6 rfl ?_
        cases hr
        exact jn _ rfl rfl rfl
      ·
       refine rn tk 11 rfl ?_
       cases hr
       exact jn _ rfl rfl rfl
     ·
      refine rn tk 16 rfl ?_
      cases hr
      exact jn _ rfl rfl rfl
   ·
    refine rn tk 21 rfl ?_
    cases hr
    exact jn _ rfl rfl rfl
  ·
   refine rn tk 26 rfl ?_
   cases hr
   exact jn _ rfl rfl rfl
 ·
  refine rn tk 1 rfl ?_
  cases hr
  exact kr tk (.inr rfl) rfl rfl
theorem Ksa (a0:Str) (r:Str × Str × Bool) (hr:q7a a0=some r):Run Tryz.prog 112 [.s a0] (.tup [.s r.1, .s r.2.1, .bo r.2.2]):=by
 unfold q7a at hr
 refine rf (fn:=Tryz.f112) ⟨Tryz.func112,rfl,by kernel_rfl⟩ rfl (fun _=> rfl) fun g0 hg=> ?_
 refine rn tk 10 rfl ?_
 obtain ⟨v1,h2,hr⟩:=zaa hr
 refine cl (Vga _ _ _ h2) rfl rfl ?_
 refine rn tk 14 rfl ?_
 refine jb hr (fun j3=> [(2, .s v1.1),(3, .s v1.2.1),(4, .bo j3)]) (fun j3=> []) (fun j3 hr=> ?_) (fun j3 hr=> ?_)
 ·
  refine rn tk 5 rfl ?_
  refine bs 15 hr rfl (fun c4 hr=> ?_) (fun c4 hr=> ?_)
  ·
   refine rn tk 4 rfl ?_
   refine bs 19 hr rfl (fun c5 hr=> ?_) (fun c5 hr=> ?_)
   ·
    refine rn tk 5 rfl ?_
    refine bs 24 hr rfl (fun c6 hr=> ?_) (fun c6 hr=> ?_)
    ·
     refine rn tk 2 rfl ?_
     refine ug rfl rfl rfl ?_
     refine ct hr (fun j7=> [(3, .s v1.2.1),(12, .s v1.1),(13, .s v1.2.1),(24, .bo true),(27, .bo j7)]) (fun j7=> []) (fun j7 hr jump4=> ?_) (fun j7 hr=> ?_)
     ·
      refine il (fn:=Tryz.f69) (args:= [.s v1.1, .fn (.func 131) [] []]) 400000 499999 [(3, .s v1.2.1),(12, .s v1.1),(13, .s v1.2.1),(24, .bo true)] rfl ⟨Tryz.func69,rfl,by kernel_rfl⟩ rfl rfl rfl fun T4 ds4=> ?_
      refine rn tk 14 rfl ?_
      refine al2 hr (fun s8=> [(0, .s v1.1),(1, .fn (.func 131) [] []),(7, .i ((v1.1.length:Int))),(8, .i s8)]) (fun s8=> [(499999, .sus g0.w.heap.size ds4),(400003, .hold (.s v1.2.1) (T4.getD 3 undef)),(400012, .hold (.s v1.1) (T4.getD 12 undef)),(400013, .hold (.s v1.2.1) (T4.getD 13 undef)),(400024, .hold (.bo true) (T4.getD 24 undef))]) (.exit 0) (fun b9=> []) (fun b9=> [(499999, .sus g0.w.heap.size ds4),(400003, .hold (.s v1.2.1) (T4.getD 3 undef)),(400012, .hold (.s v1.1) (T4.getD 12 undef)),(400013, .hold (.s v1.2.1) (T4.getD 13 undef)),(400024, .hold (.bo true) (T4.getD 24 undef))]) .ret (fun b10=> [(4, .bo false)]) (fun b10=> [(499999, .sus g0.w.heap.size ds4),(400003, .hold (.s v1.2.1) (T4.getD 3 undef)),(400012, .hold (.s v1.1) (T4.getD 12 undef)),(400013, .hold (.s v1.2.1) (T4.getD 13 undef)),(400024, .hold (.bo true) (T4.getD 24 undef))]) rfl rfl (fun s8 x12 hr=> ?_) (fun b9 hr=> ?_) (fun b10 hr=> ?_)
      ·
       unfold qca at hr
       refine rn tk 6 rfl ?_
       refine ac 9 hr rfl (fun c13 hr=> ?_) (fun c13 hr=> ?_)
       ·
        refine rn tk 15 rfl ?_
        obtain ⟨v14,h15,hr⟩:=zaa hr
        refine ws tk h15 rfl rfl rfl rfl ?_
        refine il (fn:=Tryz.f131) (args:= [.u8 v14]) 600000 699999 [(0, .s v1.1),(1, .fn (.func 131) [] []),(7, .i ((v1.1.length:Int))),(8, .i s8)] rfl ⟨Tryz.func131,rfl,by kernel_rfl⟩ rfl rfl rfl fun T6 ds6=> ?_
        refine rn tk 5 rfl ?_
        refine jb hr (fun j16=> [(2, .bo j16)]) (fun j16=> [(699999, .sus g0.w.heap.size ds6),(600000, .hold (.s v1.1) (T6.getD 0 undef)),(600001, .hold (.fn (.func 131) [] []) (T6.getD 1 undef)),(600007, .hold (.i ((v1.1.length:Int))) (T6.getD 7 undef)),(600008, .hold (.i s8) (T6.getD 8 undef)),(499999, .sus g0.w.heap.size ds4),(400003, .hold (.s v1.2.1) (T4.getD 3 undef)),(400012, .hold (.s v1.1) (T4.getD 12 undef)),(400013, .hold (.s v1.2.1) (T4.getD 13 undef)),(400024, .hold (.bo true) (T4.getD 24 undef))]) (fun j16 hr=> ?_) (fun j16 hr=> ?_)
        ·
         refine rn tk 2 rfl ?_
         obtain ⟨v17,h18,hr⟩:=zaa hr
         refine cl (jga _ _ h18) rfl rfl ?_
         refine rn tk 1 rfl ?_
         refine bs 5 hr rfl (fun c19 hr=> ?_) (fun c19 hr=> ?_)
         ·
          refine rn tk 6 rfl ?_
          cases hr
          exact jn _ rfl rfl rfl
         ·
          refine rn tk 1 rfl ?_
          obtain ⟨v20,h21,hr⟩:=zaa hr
          refine ug rfl rfl rfl ?_
          refine cl (qTa _ _ _ h21) rfl rfl ?_
          refine rn tk 4 rfl ?_
          cases hr
          exact jn _ rfl rfl rfl
        ·
         refine rn tk 1 rfl ?_
         refine ie tk [.bo j16] [(0, .s v1.1),(1, .fn (.func 131) [] []),(7, .i ((v1.1.length:Int))),(8, .i s8)] [(499999, .sus g0.w.heap.size ds4),(400003, .hold (.s v1.2.1) (T4.getD 3 undef)),(400012, .hold (.s v1.1) (T4.getD 12 undef)),(400013, .hold (.s v1.2.1) (T4.getD 13 undef)),(400024, .hold (.bo true) (T4.getD 24 undef))] (.inr rfl) rfl rfl rfl rfl (hO ?_)
         refine rn tk 3 rfl ?_
         refine ac 16 hr rfl (fun c22 hr=> ?_) (fun c22 hr=> ?_)
         ·
          refine rn tk 8 rfl ?_
          cases hr
          exact ato rfl rfl rfl rfl
         ·
          refine rn tk 7 rfl ?_
          cases hr
          exact atc rfl rfl
       ·
        refine rn tk 2 rfl ?_
        cases hr
        exact ato rfl rfl rfl rfl
      ·
       refine rn tk 8 rfl ?_
       refine ie tk [.bo true] [(3, .s v1.2.1),(12, .s v1.1),(13, .s v1.2.1),(24, .bo true)] [] (.inr rfl) rfl rfl rfl rfl ?_
       cases hr
       exact jump4 _ _ rfl rfl
      ·
       refine rn tk 2 rfl ?_
       refine ie tk [.bo false] [(3, .s v1.2.1),(12, .s v1.1),(13, .s v1.2.1),(24, .bo true)] [] (.inr rfl) rfl rfl rfl rfl ?_
       cases hr
       exact jump4 _ _ rfl rfl
     ·
      refine rn tk 2 rfl ?_
      refine bs 29 hr rfl (fun c23 hr=> ?_) (fun c23 hr=> ?_)
      ·
       refine rn tk 1 rfl ?_
       obtain ⟨v24,h25,hr⟩:=zaa hr
       refine ug rfl rfl rfl ?_
       refine cl (ZSa _ _ h25) rfl rfl ?_
       refine rn tk 5 rfl ?_
       cases hr
       exact jn _ rfl rfl rfl
      ·
       refine rn tk 7 rfl ?_
       cases hr
       exact jn _ rfl rfl rfl
    ·
     refine rn tk 12 rfl ?_
     cases hr
     exact jn _ rfl rfl rfl
   ·
    refine rn tk 17 rfl ?_
    cases hr
    exact jn _ rfl rfl rfl
  ·
   refine rn tk 21 rfl ?_
   cases hr
   exact jn _ rfl rfl rfl
 ·
  refine rn tk 1 rfl ?_
  cases hr
  exact kr tk (.inr rfl) rfl rfl
theorem q5a (a0:Str) (r:Bool) (hr:kFa a0=some r):Run Tryz.prog 95 [.s a0] (.bo r):=by
 unfold kFa at hr
 refine rf (fn:=Tryz.f95) ⟨Tryz.func95,rfl,by kernel_rfl⟩ rfl (fun _=> rfl) fun g0 hg=> ?_
 refine rn tk 8 rfl ?_
 obtain ⟨v1,h2,hr⟩:=zaa hr
 refine cl (Ksa _ _ h2) rfl rfl ?_
 refine rn tk 16 rfl ?_
 cases hr
 exact kr tk (.inr rfl) rfl rfl
theorem w6a (a0:Int) (r:Bool) (hr:qda a0=some r):Run Tryz.prog 113 [.i a0] (.bo r):=by
 unfold qda at hr
 refine rf (fn:=Tryz.f113) ⟨Tryz.func113,rfl,by kernel_rfl⟩ rfl (fun _=> rfl) fun g0 hg=> ?_
 refine rn tk 5 rfl ?_
 refine jb hr (fun j1=> [(2, .bo j1)]) (fun j1=> []) (fun j1 hr=> ?_) (fun j1 hr=> ?_)
 ·
  refine rn tk 4 rfl ?_
  refine bs 5 hr rfl (fun c2 hr=> ?_) (fun c2 hr=> ?_)
  ·
   refine rn tk 5 rfl ?_
   cases hr
   exact jn _ rfl rfl rfl
  ·
   refine rn tk 5 rfl ?_
   cases hr
   exact jn _ rfl rfl rfl
 ·
  refine rn tk 1 rfl ?_
  cases hr
  exact kr tk (.inr rfl) rfl rfl
theorem y8a (a0:List zca) (r:zra) (hr:kQa a0=some r):Run Tryz.prog 96 [.l zca.pc a0] (.agg [.i r.Code, .i r.Index]):=by
 unfold kQa at hr
 refine rf (fn:=Tryz.f96) ⟨Tryz.func96,rfl,by kernel_rfl⟩ rfl (fun _=> rfl) fun g0 hg=> ?_
 refine rn tk 9 rfl ?_
 refine wn tk rfl rfl rfl ?_
 refine rn tk 4 rfl ?_
 refine al2 hr (fun s1=> [(0, .l zca.pc a0),(2, .ptr 2 0),(5, .l zca.pc a0),(6, .i ((a0.length:Int))),(7, .i s1)]) (fun s1=> [(2, .cells [.i 0, .i 0])]) (.exit 0) (fun b2=> [(2, .ptr 2 0)]) (fun b2=> [(2, .cells [.i 0, .i 0])]) .ret (fun b3=> [(2, .ptr 2 0)]) (fun b3=> [(2, .cells [.i b3.Code, .i b3.Index])]) rfl rfl (fun s1 x5 hr=> ?_) (fun b2 hr=> ?_) (fun b3 hr=> ?_)
 ·
  unfold kSa at hr
  refine rn tk 6 rfl ?_
  refine ac 8 hr rfl (fun c6 hr=> ?_) (fun c6 hr=> ?_)
  ·
   refine rn tk 7 rfl ?_
   obtain ⟨v7,h8,hr⟩:=zaa hr
   refine wi tk h8 rfl rfl rfl rfl rfl ?_
   refine rn tk 11 rfl ?_
   obtain ⟨v9,h10,hr⟩:=zaa hr
   refine cl (q5a _ _ h10) rfl rfl ?_
   refine rn tk 4 rfl ?_
   refine ac 12 hr rfl (fun c11 hr=> ?_) (fun c11 hr=> ?_)
   ·
    refine rn tk 3 rfl ?_
    obtain ⟨v12,h13,hr⟩:=zaa hr
    refine cl (zka _ _ _ h13) rfl rfl ?_
    refine rn tk 7 rfl ?_
    cases hr
    exact ato rfl rfl rfl rfl
   ·
    refine rn tk 4 rfl ?_
    obtain ⟨v14,h15,hr⟩:=zaa hr
    refine cl (w6a _ _ h15) rfl rfl ?_
    refine rn tk 4 rfl ?_
    refine ac 19 hr rfl (fun c16 hr=> ?_) (fun c16 hr=> ?_)
    ·
     refine rn tk 3 rfl ?_
     obtain ⟨v17,h18,hr⟩:=zaa hr
     refine cl (zka _ _ _ h18) rfl rfl ?_
     refine rn tk 7 rfl ?_
     cases hr
     exact ato rfl rfl rfl rfl
    ·
     refine rn tk 4 rfl ?_
     obtain ⟨v19,h20,hr⟩:=zaa hr
     refine wlH tk h20 rfl rfl rfl (fun _=> rfl) rfl ?_
     refine rn tk 1 rfl ?_
     refine il (fn:=Tryz.f114) (args:= [.l zca.pc v19, .fn (.func 115) [] [.ptr 4 0]]) 500000 599999 [(0, .l zca.pc a0),(2, .ptr 2 0),(3, .i s1),(5, .l zca.pc a0),(6, .i ((a0.length:Int))),(7, .i s1)] rfl ⟨Tryz.func114,rfl,by kernel_rfl⟩ rfl rfl rfl fun T5 ds5=> ?_
     refine rn tk 9 rfl ?_
     refine ct hr (fun j21=> [(7, .i j21)]) (fun j21=> [(599999, .sus g0.w.heap.size ds5),(500000, .hold (.l zca.pc a0) (T5.getD 0 undef)),(500002, .hold (.ptr 2 0) (T5.getD 2 undef)),(500005, .hold (.l zca.pc a0) (T5.getD 5 undef)),(500006, .hold (.i ((a0.length:Int))) (T5.getD 6 undef)),(500007, .hold (.i s1) (T5.getD 7 undef)),(500003, .hold (.i s1) (T5.getD 3 undef)),(2, .cells [.i 0, .i 0])]) (fun j21 hr jump6=> ?_) (fun j21 hr=> ?_)
     ·
      refine il (fn:=Tryz.f134) (args:= [.l zca.pc v19, .fn (.func 115) [] [.ptr 4 0]]) 600000 699999 [] rfl ⟨Tryz.func134,rfl,by kernel_rfl⟩ rfl rfl rfl fun T6 ds6=> ?_
      refine rn tk 9 rfl ?_
      refine wn tk rfl rfl rfl ?_
      refine rn tk 4 rfl ?_
      refine al2 hr (fun s22=> [(0, .l zca.pc v19),(1, .fn (.func 115) [] [.ptr 4 0]),(7, .i ((v19.length:Int))),(8, .i s22)]) (fun s22=> [(699999, .sus g0.w.heap.size ds6),(599999, .sus g0.w.heap.size ds5),(500000, .hold (.l zca.pc a0) (T5.getD 0 undef)),(500002, .hold (.ptr 2 0) (T5.getD 2 undef)),(500005, .hold (.l zca.pc a0) (T5.getD 5 undef)),(500006, .hold (.i ((a0.length:Int))) (T5.getD 6 undef)),(500007, .hold (.i s1) (T5.getD 7 undef)),(500003, .hold (.i s1) (T5.getD 3 undef)),(4, .cells [.s v7.Address, .i v7.Notify]),(2, .cells [.i 0, .i 0])]) (.exit 0) (fun b23=> []) (fun b23=> [(699999, .sus g0.w.heap.size ds6),(599999, .sus g0.w.heap.size ds5),(500000, .hold (.l zca.pc a0) (T5.getD 0 undef)),(500002, .hold (.ptr 2 0) (T5.getD 2 undef)),(500005, .hold (.l zca.pc a0) (T5.getD 5 undef)),(500006, .hold (.i ((a0.length:Int))) (T5.getD 6 undef)),(500007, .hold (.i s1) (T5.getD 7 undef)),(500003, .hold (.i s1) (T5.getD 3 undef)),(2, .cells [.i 0, .i 0])]) .ret (fun b24=> [(4, .i b24)]) (fun b24=> [(699999, .sus g0.w.heap.size ds6),(599999, .sus g0.w.heap.size ds5),(500000, .hold (.l zca.pc a0) (T5.getD 0 undef)),(500002, .hold (.ptr 2 0) (T5.getD 2 undef)),(500005, .hold (.l zca.pc a0) (T5.getD 5 undef)),(500006, .hold (.i ((a0.length:Int))) (T5.getD 6 undef)),(500007, .hold (.i s1) (T5.getD 7 undef)),(500003, .hold (.i s1) (T5.getD 3 undef)),(2, .cells [.i 0, .i 0])]) rfl rfl (fun s22 x26 hr=> ?_) (fun b23 hr=> ?_) (fun b24 hr=> ?_)
      ·
       unfold kqa at hr
       refine rn tk 6 rfl ?_
       refine ac 9 hr rfl (fun c27 hr=> ?_) (fun c27 hr=> ?_)
       ·
        refine rn tk 15 rfl ?_
        obtain ⟨v28,h29,hr⟩:=zaa hr
        refine wi tk h29 rfl rfl rfl rfl rfl ?_
        refine rn tk 1 rfl ?_
        refine il (fn:=Tryz.f115) (args:= [.agg [.s v28.Address, .i v28.Notify], .ptr 4 0]) 800000 899999 [(0, .l zca.pc v19),(1, .fn (.func 115) [] [.ptr 4 0]),(5, .i s22),(7, .i ((v19.length:Int))),(8, .i s22)] rfl ⟨Tryz.func115,rfl,by kernel_rfl⟩ rfl rfl rfl fun T8 ds8=> ?_
        refine rn tk 2 rfl ?_
        refine wo (ZZa (k:=2) 1002 rfl rfl rfl rfl rfl) rfl ?_
        refine rn tk 14 rfl ?_
        refine ie tk [.bo ((v28.Address==v7.Address))] [(0, .l zca.pc v19),(1, .fn (.func 115) [] [.ptr 4 0]),(5, .i s22),(7, .i ((v19.length:Int))),(8, .i s22)] [(1002, .cells [.s v28.Address, .i v28.Notify]),(699999, .sus g0.w.heap.size ds6),(599999, .sus g0.w.heap.size ds5),(500000, .hold (.l zca.pc a0) (T5.getD 0 undef)),(500002, .hold (.ptr 2 0) (T5.getD 2 undef)),(500005, .hold (.l zca.pc a0) (T5.getD 5 undef)),(500006, .hold (.i ((a0.length:Int))) (T5.getD 6 undef)),(500007, .hold (.i s1) (T5.getD 7 undef)),(500003, .hold (.i s1) (T5.getD 3 undef)),(4, .cells [.s v7.Address, .i v7.Notify]),(2, .cells [.i 0, .i 0])] (.inr rfl) rfl rfl rfl rfl (hO ?_)
        refine rn tk 2 rfl ?_
        refine ac 16 hr rfl (fun c30 hr=> ?_) (fun c30 hr=> ?_)
        ·
         refine rn tk 9 rfl ?_
         cases hr
         exact ato rfl rfl rfl rfl
        ·
         refine rn tk 7 rfl ?_
         cases hr
         exact atc rfl rfl
       ·
        refine rn tk 2 rfl ?_
        cases hr
        exact ato rfl rfl rfl rfl
      ·
       refine rn tk 8 rfl ?_
       refine ie tk [.i ((-1))] [] [(599999, .sus g0.w.heap.size ds5),(500000, .hold (.l zca.pc a0) (T5.getD 0 undef)),(500002, .hold (.ptr 2 0) (T5.getD 2 undef)),(500005, .hold (.l zca.pc a0) (T5.getD 5 undef)),(500006, .hold (.i ((a0.length:Int))) (T5.getD 6 undef)),(500007, .hold (.i s1) (T5.getD 7 undef)),(500003, .hold (.i s1) (T5.getD 3 undef)),(2, .cells [.i 0, .i 0])] (.inr rfl) rfl rfl rfl rfl ?_
       cases hr
       exact jump6 _ _ rfl rfl
      ·
       refine rn tk 2 rfl ?_
       refine ie tk [.i b24] [] [(599999, .sus g0.w.heap.size ds5),(500000, .hold (.l zca.pc a0) (T5.getD 0 undef)),(500002, .hold (.ptr 2 0) (T5.getD 2 undef)),(500005, .hold (.l zca.pc a0) (T5.getD 5 undef)),(500006, .hold (.i ((a0.length:Int))) (T5.getD 6 undef)),(500007, .hold (.i s1) (T5.getD 7 undef)),(500003, .hold (.i s1) (T5.getD 3 undef)),(2, .cells [.i 0, .i 0])] (.inr rfl) rfl rfl rfl rfl ?_
       cases hr
       exact jump6 _ _ rfl rfl
     ·
      refine rn tk 5 rfl ?_
      refine ie tk [.bo (decide (0≤j21))] [(0, .l zca.pc a0),(2, .ptr 2 0),(3, .i s1),(5, .l zca.pc a0),(6, .i ((a0.length:Int))),(7, .i s1)] [(2, .cells [.i 0, .i 0])] (.inr rfl) rfl rfl rfl rfl (hO ?_)
      refine rn tk 3 rfl ?_
      refine ac 26 hr rfl (fun c31 hr=> ?_) (fun c31 hr=> ?_)
      ·
       refine rn tk 3 rfl ?_
       obtain ⟨v32,h33,hr⟩:=zaa hr
       refine cl (zka _ _ _ h33) rfl rfl ?_
       refine rn tk 7 rfl ?_
       cases hr
       exact ato rfl rfl rfl rfl
      ·
       refine rn tk 8 rfl ?_
       cases hr
       exact atc rfl rfl
  ·
   refine rn tk 2 rfl ?_
   cases hr
   exact ato rfl rfl rfl rfl
 ·
  refine rn tk 4 rfl ?_
  obtain ⟨v34,h35,hr⟩:=zaa hr
  refine cl (zGa _ h35) rfl rfl ?_
  refine rn tk 4 rfl ?_
  cases hr
  exact kr tk (.inr rfl) rfl rfl
 ·
  refine rn tk 2 rfl ?_
  cases hr
  exact kr tk (.inr rfl) rfl rfl
theorem jXa (a0:zxa) (r:zra) (hr:qea a0=some r):Run Tryz.prog 72 [.agg [.s a0.From, .l zca.pc a0.To, .s a0.Id]] (.agg [.i r.Code, .i r.Index]):=by
 unfold qea at hr
 refine rf (fn:=Tryz.f72) ⟨Tryz.func72,rfl,by kernel_rfl⟩ rfl (fun _=> rfl) fun g0 hg=> ?_
 refine rn tk 8 rfl ?_
 refine jb hr (fun j1=> [(1, .ptr 1 0),(2, .ptr 2 0),(3, .bo j1)]) (fun j1=> [(2, .cells [.i 0, .i 0]),(1, .cells [.s a0.From, .l zca.pc a0.To, .s a0.Id])]) (fun j1 hr=> ?_) (fun j1 hr=> ?_)
 ·
  refine rn tk 5 rfl ?_
  refine bs 7 hr rfl (fun c2 hr=> ?_) (fun c2 hr=> ?_)
  ·
   refine rn tk 2 rfl ?_
   obtain ⟨v3,h4,hr⟩:=zaa hr
   refine ug rfl rfl rfl ?_
   refine cl (q5a _ _ h4) rfl rfl ?_
   refine rn tk 4 rfl ?_
   cases hr
   exact jn _ rfl rfl rfl
  ·
   refine rn tk 7 rfl ?_
   cases hr
   exact jn _ rfl rfl rfl
 ·
  refine ac 3 hr rfl (fun c5 hr=> ?_) (fun c5 hr=> ?_)
  ·
   refine rn tk 2 rfl ?_
   obtain ⟨v6,h7,hr⟩:=zaa hr
   refine cl (zka _ _ _ h7) rfl rfl ?_
   refine rn tk 6 rfl ?_
   cases hr
   exact kr tk (.inr rfl) rfl rfl
  ·
   refine jb hr (fun j8=> [(1, .ptr 1 0),(2, .ptr 2 0),(14, .bo j8)]) (fun j8=> [(2, .cells [.i 0, .i 0]),(1, .cells [.s a0.From, .l zca.pc a0.To, .s a0.Id])]) (fun j8 hr=> ?_) (fun j8 hr=> ?_)
   ·
    refine rn tk 3 rfl ?_
    refine wn tk rfl rfl rfl ?_
    refine rn tk 2 rfl ?_
    refine bs 19 hr rfl (fun c9 hr=> ?_) (fun c9 hr=> ?_)
    ·
     refine rn tk 7 rfl ?_
     cases hr
     exact jn _ rfl rfl rfl
    ·
     refine rn tk 2 rfl ?_
     refine ug rfl rfl rfl ?_
     refine wn tk rfl rfl rfl ?_
     refine rn tk 4 rfl ?_
     cases hr
     exact jn _ rfl rfl rfl
   ·
    refine ac 14 hr rfl (fun c10 hr=> ?_) (fun c10 hr=> ?_)
    ·
     refine rn tk 2 rfl ?_
     obtain ⟨v11,h12,hr⟩:=zaa hr
     refine cl (zka _ _ _ h12) rfl rfl ?_
     refine rn tk 6 rfl ?_
     cases hr
     exact kr tk (.inr rfl) rfl rfl
    ·
     refine jb hr (fun j13=> [(1, .ptr 1 0),(2, .ptr 2 0),(26, .bo j13)]) (fun j13=> [(2, .cells [.i 0, .i 0]),(1, .cells [.s a0.From, .l zca.pc a0.To, .s a0.Id])]) (fun j13 hr=> ?_) (fun j13 hr=> ?_)
     ·
      refine rn tk 5 rfl ?_
      refine bs 30 hr rfl (fun c14 hr=> ?_) (fun c14 hr=> ?_)
      ·
       refine rn tk 2 rfl ?_
       obtain ⟨v15,h16,hr⟩:=zaa hr
       refine ug rfl rfl rfl ?_
       refine cl (yua _ _ h16) rfl rfl ?_
       refine rn tk 4 rfl ?_
       cases hr
       exact jn _ rfl rfl rfl
      ·
       refine rn tk 7 rfl ?_
       cases hr
       exact jn _ rfl rfl rfl
     ·
      refine ac 26 hr rfl (fun c17 hr=> ?_) (fun c17 hr=> ?_)
      ·
       refine rn tk 2 rfl ?_
       obtain ⟨v18,h19,hr⟩:=zaa hr
       refine cl (zka _ _ _ h19) rfl rfl ?_
       refine rn tk 6 rfl ?_
       cases hr
       exact kr tk (.inr rfl) rfl rfl
      ·
       refine rn tk 7 rfl ?_
       obtain ⟨v20,h21,hr⟩:=zaa hr
       refine cl (y8a _ _ h21) rfl rfl ?_
       refine rn tk 4 rfl ?_
       cases hr
       exact kr tk (.inr rfl) rfl rfl
theorem Kta (a0:zVa) (r:zra) (hr:q8a a0=some r):Run Tryz.prog 44 [.agg [.s a0.Envelope.From, .l zca.pc a0.Envelope.To, .s a0.Envelope.Id, .l zfa.pc a0.Message.Fields, .l cU a0.Message.Body]] (.agg [.i r.Code, .i r.Index]):=by
 unfold q8a at hr
 refine rf (fn:=Tryz.f44) ⟨Tryz.func44,rfl,by kernel_rfl⟩ rfl (fun _=> rfl) fun g0 hg=> ?_
 refine rn tk 11 rfl ?_
 obtain ⟨v1,h2,hr⟩:=zaa hr
 refine cl (jXa _ _ h2) rfl rfl ?_
 refine rn tk 7 rfl ?_
 obtain ⟨v3,h4,hr⟩:=zaa hr
 refine cl (zPa _ _ h4) rfl rfl ?_
 refine rn tk 2 rfl ?_
 refine ac 9 hr rfl (fun c5 hr=> ?_) (fun c5 hr=> ?_)
 ·
  refine rn tk 8 rfl ?_
  cases hr
  exact kr tk (.inr rfl) rfl rfl
 ·
  refine rn tk 7 rfl ?_
  obtain ⟨v6,h7,hr⟩:=zaa hr
  refine cl (wza _ _ h7) rfl rfl ?_
  refine rn tk 7 rfl ?_
  obtain ⟨v8,h9,hr⟩:=zaa hr
  refine cl (zPa _ _ h9) rfl rfl ?_
  refine rn tk 2 rfl ?_
  refine ac 15 hr rfl (fun c10 hr=> ?_) (fun c10 hr=> ?_)
  ·
   refine rn tk 4 rfl ?_
   obtain ⟨v11,h12,hr⟩:=zaa hr
   refine cl (zka _ _ _ h12) rfl rfl ?_
   refine rn tk 5 rfl ?_
   cases hr
   exact kr tk (.inr rfl) rfl rfl
  ·
   refine rn tk 4 rfl ?_
   obtain ⟨v13,h14,hr⟩:=zaa hr
   refine cl (zGa _ h14) rfl rfl ?_
   refine rn tk 4 rfl ?_
   cases hr
   exact kr tk (.inr rfl) rfl rfl
theorem jha (a0:Str) (a1:zVa) (r:zra) (hr:vxa a0 a1=some r):Run Tryz.prog 19 [.s a0, .agg [.s a1.Envelope.From, .l zca.pc a1.Envelope.To, .s a1.Envelope.Id, .l zfa.pc a1.Message.Fields, .l cU a1.Message.Body]] (.agg [.i r.Code, .i r.Index]):=by
 unfold vxa at hr
 refine rf (fn:=Tryz.f19) ⟨Tryz.func19,rfl,by kernel_rfl⟩ rfl (fun _=> rfl) fun g0 hg=> ?_
 refine rn tk 10 rfl ?_
 obtain ⟨v1,h2,hr⟩:=zaa hr
 refine cl (yua _ _ h2) rfl rfl ?_
 refine rn tk 3 rfl ?_
 refine ac 7 hr rfl (fun c3 hr=> ?_) (fun c3 hr=> ?_)
 ·
  refine rn tk 2 rfl ?_
  obtain ⟨v4,h5,hr⟩:=zaa hr
  refine cl (zka _ _ _ h5) rfl rfl ?_
  refine rn tk 5 rfl ?_
  cases hr
  exact kr tk (.inr rfl) rfl rfl
 ·
  refine rn tk 5 rfl ?_
  obtain ⟨v6,h7,hr⟩:=zaa hr
  refine cl (Kta _ _ h7) rfl rfl ?_
  refine rn tk 4 rfl ?_
  cases hr
  exact kr tk (.inr rfl) rfl rfl
theorem jia (a0:zla) (r:zra) (hr:vza a0=some r):Run Tryz.prog 30 [.agg [.s a0.Name, .s a0.Mail.Envelope.From, .l zca.pc a0.Mail.Envelope.To, .s a0.Mail.Envelope.Id, .l zfa.pc a0.Mail.Message.Fields, .l cU a0.Mail.Message.Body, .bo a0.Pipelined, .l cU a0.Buffer, .i a0.Expected, .bo a0.Whole, .bo a0.Done, .l cI a0.Results]] (.agg [.i r.Code, .i r.Index]):=by
 unfold vza at hr
 refine rf (fn:=Tryz.f30) ⟨Tryz.func30,rfl,by kernel_rfl⟩ rfl (fun _=> rfl) fun g0 hg=> ?_
 refine rn tk 13 rfl ?_
 obtain ⟨v1,h2,hr⟩:=zaa hr
 refine cl (jha _ _ _ h2) rfl rfl ?_
 refine rn tk 7 rfl ?_
 obtain ⟨v3,h4,hr⟩:=zaa hr
 refine cl (zPa _ _ h4) rfl rfl ?_
 refine rn tk 2 rfl ?_
 refine ac 12 hr rfl (fun c5 hr=> ?_) (fun c5 hr=> ?_)
 ·
  refine rn tk 8 rfl ?_
  cases hr
  exact kr tk (.inr rfl) rfl rfl
 ·
  refine rn tk 8 rfl ?_
  refine wn tk rfl rfl rfl ?_
  refine rn tk 9 rfl ?_
  refine jb hr (fun j6=> [(2, .ptr 2 0),(57, .bo j6)]) (fun j6=> [(2, .cells [.i 0, .i 0])]) (fun j6 hr=> ?_) (fun j6 hr=> ?_)
  ·
   refine rn tk 3 rfl ?_
   refine wn tk rfl rfl rfl ?_
   refine rn tk 3 rfl ?_
   refine bs 24 hr rfl (fun c7 hr=> ?_) (fun c7 hr=> ?_)
   ·
    refine rn tk 34 rfl ?_
    cases hr
    exact jn _ rfl rfl rfl
   ·
    refine rn tk 3 rfl ?_
    refine ug rfl rfl rfl ?_
    refine il (fn:=Tryz.f53) (args:= [.l cI a0.Results, .fn (.func 52) [] []]) 500000 599999 [(1, .ptr 1 0),(2, .ptr 2 0),(4, .i ((a0.Mail.Envelope.To.length:Int))),(24, .bo false)] rfl ⟨Tryz.func53,rfl,by kernel_rfl⟩ rfl rfl rfl fun T5 ds5=> ?_
    refine rn tk 9 rfl ?_
    refine ct hr (fun j8=> [(7, .i j8)]) (fun j8=> [(599999, .sus g0.w.heap.size ds5),(500001, .hold (.ptr 1 0) (T5.getD 1 undef)),(500002, .hold (.ptr 2 0) (T5.getD 2 undef)),(500004, .hold (.i ((a0.Mail.Envelope.To.length:Int))) (T5.getD 4 undef)),(500024, .hold (.bo false) (T5.getD 24 undef)),(2, .cells [.i 0, .i 0]),(1, .cells [.s a0.Name, .s a0.Mail.Envelope.From, .l zca.pc a0.Mail.Envelope.To, .s a0.Mail.Envelope.Id, .l zfa.pc a0.Mail.Message.Fields, .l cU a0.Mail.Message.Body, .bo a0.Pipelined, .l cU a0.Buffer, .i a0.Expected, .bo a0.Whole, .bo a0.Done, .l cI a0.Results])]) (fun j8 hr jump6=> ?_) (fun j8 hr=> ?_)
    ·
     refine il (fn:=Tryz.f78) (args:= [.l cI a0.Results, .fn (.func 52) [] []]) 600000 699999 [] rfl ⟨Tryz.func78,rfl,by kernel_rfl⟩ rfl rfl rfl fun T6 ds6=> ?_
     refine rn tk 9 rfl ?_
     refine wn tk rfl rfl rfl ?_
     refine rn tk 4 rfl ?_
     refine al2 hr (fun s9=> [(0, .l cI a0.Results),(1, .fn (.func 52) [] []),(7, .i ((a0.Results.length:Int))),(8, .i s9)]) (fun s9=> [(699999, .sus g0.w.heap.size ds6),(599999, .sus g0.w.heap.size ds5),(500001, .hold (.ptr 1 0) (T5.getD 1 undef)),(500002, .hold (.ptr 2 0) (T5.getD 2 undef)),(500004, .hold (.i ((a0.Mail.Envelope.To.length:Int))) (T5.getD 4 undef)),(500024, .hold (.bo false) (T5.getD 24 undef)),(2, .cells [.i 0, .i 0]),(1, .cells [.s a0.Name, .s a0.Mail.Envelope.From, .l zca.pc a0.Mail.Envelope.To, .s a0.Mail.Envelope.Id, .l zfa.pc a0.Mail.Message.Fields, .l cU a0.Mail.Message.Body, .bo a0.Pipelined, .l cU a0.Buffer, .i a0.Expected, .bo a0.Whole, .bo a0.Done, .l cI a0.Results])]) (.exit 0) (fun b10=> []) (fun b10=> [(699999, .sus g0.w.heap.size ds6),(599999, .sus g0.w.heap.size ds5),(500001, .hold (.ptr 1 0) (T5.getD 1 undef)),(500002, .hold (.ptr 2 0) (T5.getD 2 undef)),(500004, .hold (.i ((a0.Mail.Envelope.To.length:Int))) (T5.getD 4 undef)),(500024, .hold (.bo false) (T5.getD 24 undef)),(2, .cells [.i 0, .i 0]),(1, .cells [.s a0.Name, .s a0.Mail.Envelope.From, .l zca.pc a0.Mail.Envelope.To, .s a0.Mail.Envelope.Id, .l zfa.pc a0.Mail.Message.Fields, .l cU a0.Mail.Message.Body, .bo a0.Pipelined, .l cU a0.Buffer, .i a0.Expected, .bo a0.Whole, .bo a0.Done, .l cI a0.Results])]) .ret (fun b11=> [(4, .i b11)]) (fun b11=> [(699999, .sus g0.w.heap.size ds6),(599999, .sus g0.w.heap.size ds5),(500001, .hold (.ptr 1 0) (T5.getD 1 undef)),(500002, .hold (.ptr 2 0) (T5.getD 2 undef)),(500004, .hold (.i ((a0.Mail.Envelope.To.length:Int))) (T5.getD 4 undef)),(500024, .hold (.bo false) (T5.getD 24 undef)),(2, .cells [.i 0, .i 0]),(1, .cells [.s a0.Name, .s a0.Mail.Envelope.From, .l zca.pc a0.Mail.Envelope.To, .s a0.Mail.Envelope.Id, .l zfa.pc a0.Mail.Message.Fields, .l cU a0.Mail.Message.Body, .bo a0.Pipelined, .l cU a0.Buffer, .i a0.Expected, .bo a0.Whole, .bo a0.Done, .l cI a0.Results])]) rfl rfl (fun s9 x13 hr=> ?_) (fun b10 hr=> ?_) (fun b11 hr=> ?_)
     ·
      unfold qSa at hr
      refine rn tk 6 rfl ?_
      refine ac 9 hr rfl (fun c14 hr=> ?_) (fun c14 hr=> ?_)
      ·
       refine rn tk 15 rfl ?_
       obtain ⟨v15,h16,hr⟩:=zaa hr
       refine wi tk h16 rfl rfl rfl rfl rfl ?_
       refine rn tk 1 rfl ?_
       refine il (fn:=Tryz.f52) (args:= [.i v15]) 800000 899999 [(0, .l cI a0.Results),(1, .fn (.func 52) [] []),(5, .i s9),(7, .i ((a0.Results.length:Int))),(8, .i s9)] rfl ⟨Tryz.func52,rfl,by kernel_rfl⟩ rfl rfl rfl fun T8 ds8=> ?_
       refine rn tk 5 rfl ?_
       refine jb hr (fun j17=> [(2, .bo j17)]) (fun j17=> [(899999, .sus g0.w.heap.size ds8),(800000, .hold (.l cI a0.Results) (T8.getD 0 undef)),(800001, .hold (.fn (.func 52) [] []) (T8.getD 1 undef)),(800007, .hold (.i ((a0.Results.length:Int))) (T8.getD 7 undef)),(800008, .hold (.i s9) (T8.getD 8 undef)),(800005, .hold (.i s9) (T8.getD 5 undef)),(699999, .sus g0.w.heap.size ds6),(599999, .sus g0.w.heap.size ds5),(500001, .hold (.ptr 1 0) (T5.getD 1 undef)),(500002, .hold (.ptr 2 0) (T5.getD 2 undef)),(500004, .hold (.i ((a0.Mail.Envelope.To.length:Int))) (T5.getD 4 undef)),(500024, .hold (.bo false) (T5.getD 24 undef)),(2, .cells [.i 0, .i 0]),(1, .cells [.s a0.Name, .s a0.Mail.Envelope.From, .l zca.pc a0.Mail.Envelope.To, .s a0.Mail.Envelope.Id, .l zfa.pc a0.Mail.Message.Fields, .l cU a0.Mail.Message.Body, .bo a0.Pipelined, .l cU a0.Buffer, .i a0.Expected, .bo a0.Whole, .bo a0.Done, .l cI a0.Results])]) (fun j17 hr=> ?_) (fun j17 hr=> ?_)
       ·
        refine rn tk 4 rfl ?_
        refine bs 5 hr rfl (fun c18 hr=> ?_) (fun c18 hr=> ?_)
        ·
         refine rn tk 5 rfl ?_
         cases hr
         exact jn _ rfl rfl rfl
        ·
         refine rn tk 5 rfl ?_
         cases hr
         exact jn _ rfl rfl rfl
       ·
        refine rn tk 1 rfl ?_
        refine ie tk [.bo j17] [(0, .l cI a0.Results),(1, .fn (.func 52) [] []),(5, .i s9),(7, .i ((a0.Results.length:Int))),(8, .i s9)] [(699999, .sus g0.w.heap.size ds6),(599999, .sus g0.w.heap.size ds5),(500001, .hold (.ptr 1 0) (T5.getD 1 undef)),(500002, .hold (.ptr 2 0) (T5.getD 2 undef)),(500004, .hold (.i ((a0.Mail.Envelope.To.length:Int))) (T5.getD 4 undef)),(500024, .hold (.bo false) (T5.getD 24 undef)),(2, .cells [.i 0, .i 0]),(1, .cells [.s a0.Name, .s a0.Mail.Envelope.From, .l zca.pc a0.Mail.Envelope.To, .s a0.Mail.Envelope.Id, .l zfa.pc a0.Mail.Message.Fields, .l cU a0.Mail.Message.Body, .bo a0.Pipelined, .l cU a0.Buffer, .i a0.Expected, .bo a0.Whole, .bo a0.Done, .l cI a0.Results])] (.inr rfl) rfl rfl rfl rfl (hO ?_)
        refine rn tk 2 rfl ?_
        refine ac 16 hr rfl (fun c19 hr=> ?_) (fun c19 hr=> ?_)
        ·
         refine rn tk 9 rfl ?_
         cases hr
         exact ato rfl rfl rfl rfl
        ·
         refine rn tk 7 rfl ?_
         cases hr
         exact atc rfl rfl
      ·
       refine rn tk 2 rfl ?_
       cases hr
       exact ato rfl rfl rfl rfl
     ·
      refine rn tk 8 rfl ?_
      refine ie tk [.i ((-1))] [] [(599999, .sus g0.w.heap.size ds5),(500001, .hold (.ptr 1 0) (T5.getD 1 undef)),(500002, .hold (.ptr 2 0) (T5.getD 2 undef)),(500004, .hold (.i ((a0.Mail.Envelope.To.length:Int))) (T5.getD 4 undef)),(500024, .hold (.bo false) (T5.getD 24 undef)),(2, .cells [.i 0, .i 0]),(1, .cells [.s a0.Name, .s a0.Mail.Envelope.From, .l zca.pc a0.Mail.Envelope.To, .s a0.Mail.Envelope.Id, .l zfa.pc a0.Mail.Message.Fields, .l cU a0.Mail.Message.Body, .bo a0.Pipelined, .l cU a0.Buffer, .i a0.Expected, .bo a0.Whole, .bo a0.Done, .l cI a0.Results])] (.inr rfl) rfl rfl rfl rfl ?_
      cases hr
      exact jump6 _ _ rfl rfl
     ·
      refine rn tk 2 rfl ?_
      refine ie tk [.i b11] [] [(599999, .sus g0.w.heap.size ds5),(500001, .hold (.ptr 1 0) (T5.getD 1 undef)),(500002, .hold (.ptr 2 0) (T5.getD 2 undef)),(500004, .hold (.i ((a0.Mail.Envelope.To.length:Int))) (T5.getD 4 undef)),(500024, .hold (.bo false) (T5.getD 24 undef)),(2, .cells [.i 0, .i 0]),(1, .cells [.s a0.Name, .s a0.Mail.Envelope.From, .l zca.pc a0.Mail.Envelope.To, .s a0.Mail.Envelope.Id, .l zfa.pc a0.Mail.Message.Fields, .l cU a0.Mail.Message.Body, .bo a0.Pipelined, .l cU a0.Buffer, .i a0.Expected, .bo a0.Whole, .bo a0.Done, .l cI a0.Results])] (.inr rfl) rfl rfl rfl rfl ?_
      cases hr
      exact jump6 _ _ rfl rfl
    ·
     refine rn tk 5 rfl ?_
     refine ie tk [.bo (decide (0≤j8))] [(1, .ptr 1 0),(2, .ptr 2 0),(4, .i ((a0.Mail.Envelope.To.length:Int))),(24, .bo false)] [(2, .cells [.i 0, .i 0]),(1, .cells [.s a0.Name, .s a0.Mail.Envelope.From, .l zca.pc a0.Mail.Envelope.To, .s a0.Mail.Envelope.Id, .l zfa.pc a0.Mail.Message.Fields, .l cU a0.Mail.Message.Body, .bo a0.Pipelined, .l cU a0.Buffer, .i a0.Expected, .bo a0.Whole, .bo a0.Done, .l cI a0.Results])] (.inr rfl) rfl rfl rfl rfl (hO ?_)
     refine rn tk 2 rfl ?_
     refine bs 30 hr rfl (fun c20 hr=> ?_) (fun c20 hr=> ?_)
     ·
      refine rn tk 28 rfl ?_
      cases hr
      exact jn _ rfl rfl rfl
     ·
      refine rn tk 5 rfl ?_
      refine bs 35 hr rfl (fun c21 hr=> ?_) (fun c21 hr=> ?_)
      ·
       refine rn tk 23 rfl ?_
       cases hr
       exact jn _ rfl rfl rfl
      ·
       refine rn tk 7 rfl ?_
       refine bs 42 hr rfl (fun c22 hr=> ?_) (fun c22 hr=> ?_)
       ·
        refine rn tk 16 rfl ?_
        cases hr
        exact jn _ rfl rfl rfl
       ·
        refine rn tk 2 rfl ?_
        refine ug rfl rfl rfl ?_
        refine wn tk rfl rfl rfl ?_
        refine rn tk 3 rfl ?_
        refine bs 48 hr rfl (fun c23 hr=> ?_) (fun c23 hr=> ?_)
        ·
         refine rn tk 10 rfl ?_
         cases hr
         exact jn _ rfl rfl rfl
        ·
         refine rn tk 4 rfl ?_
         refine bs 52 hr rfl (fun c24 hr=> ?_) (fun c24 hr=> ?_)
         ·
          refine rn tk 1 rfl ?_
          obtain ⟨v25,h26,hr⟩:=zaa hr
          refine ug rfl rfl rfl ?_
          refine cl (Vfa _ _ h26) rfl rfl ?_
          refine rn tk 4 rfl ?_
          cases hr
          exact jn _ rfl rfl rfl
         ·
          refine rn tk 6 rfl ?_
          cases hr
          exact jn _ rfl rfl rfl
  ·
   refine ac 57 hr rfl (fun c27 hr=> ?_) (fun c27 hr=> ?_)
   ·
    refine rn tk 2 rfl ?_
    obtain ⟨v28,h29,hr⟩:=zaa hr
    refine cl (zka _ _ _ h29) rfl rfl ?_
    refine rn tk 5 rfl ?_
    cases hr
    exact kr tk (.inr rfl) rfl rfl
   ·
    refine rn tk 4 rfl ?_
    obtain ⟨v30,h31,hr⟩:=zaa hr
    refine cl (zGa _ h31) rfl rfl ?_
    refine rn tk 4 rfl ?_
    cases hr
    exact kr tk (.inr rfl) rfl rfl
theorem vha (a0:List Int) (r:List Int) (hr:kma a0=some r):RunO Tryz.prog 31 [.l cI a0] 3 1 (List.map cI r):=by
 unfold kma at hr
 refine rfO (fn:=Tryz.f31) ⟨Tryz.func31,rfl,by kernel_rfl⟩ rfl fun g0 hg=> ?_
 refine rn tk 3 rfl ?_
 refine Qza 1002 (d:=2) 3 1 rfl rfl rfl (hO ?_)
 refine rn tk 6 rfl ?_
 refine yza (d:=3) (F:=cI) (l:=a0) rfl rfl rfl yja (fun c1=> hO ?_) (hO ?_)
 ·
  replace hr:=Z6a c1 hr
  refine rn tk 6 rfl ?_
  refine Qza 2002 (d:=2) 3 1 rfl rfl rfl (hO ?_)
  refine rn tk 4 rfl ?_
  cases hr
  exact krO tk (.inr rfl) rfl rfl
 ·
  replace hr:=Z7a hr
  refine rn tk 7 rfl ?_
  refine wo (jAa (k:=5) rfl yja vLa) rfl ?_
  refine rn tk 1 rfl ?_
  obtain ⟨v2,h3,hr⟩:=zaa hr
  refine wo (wga (k:=7) (F:=cI) (xs:=a0) (lim:=17592186044416) 2002 rfl rfl rfl yja vLa rfl rfl (fun _=> rfl) rfl rfl rfl h3) rfl ?_
  refine rn tk 4 rfl ?_
  cases hr
  exact krO tk (.inr rfl) rfl rfl
theorem Qoa (a0:zla) (r:zla × zra) (hr:wma a0=some r):Run Tryz.prog 14 [.agg [.s a0.Name, .s a0.Mail.Envelope.From, .l zca.pc a0.Mail.Envelope.To, .s a0.Mail.Envelope.Id, .l zfa.pc a0.Mail.Message.Fields, .l cU a0.Mail.Message.Body, .bo a0.Pipelined, .l cU a0.Buffer, .i a0.Expected, .bo a0.Whole, .bo a0.Done, .l cI a0.Results]] (.tup [.agg [.s r.1.Name, .s r.1.Mail.Envelope.From, .l zca.pc r.1.Mail.Envelope.To, .s r.1.Mail.Envelope.Id, .l zfa.pc r.1.Mail.Message.Fields, .l cU r.1.Mail.Message.Body, .bo r.1.Pipelined, .l cU r.1.Buffer, .i r.1.Expected, .bo r.1.Whole, .bo r.1.Done, .l cI r.1.Results], .agg [.i r.2.Code, .i r.2.Index]]):=by
 unfold wma at hr
 refine rf (fn:=Tryz.f14) ⟨Tryz.func14,rfl,by kernel_rfl⟩ rfl (fun _=> rfl) fun g0 hg=> ?_
 refine rn tk 11 rfl ?_
 obtain ⟨v1,h2,hr⟩:=zaa hr
 refine cl (jia _ _ h2) rfl rfl ?_
 refine rn tk 7 rfl ?_
 obtain ⟨v3,h4,hr⟩:=zaa hr
 refine cl (zPa _ _ h4) rfl rfl ?_
 refine rn tk 2 rfl ?_
 refine ac 9 hr rfl (fun c5 hr=> ?_) (fun c5 hr=> ?_)
 ·
  refine rn tk 1 rfl ?_
  refine drX 2 3 3 3 [1] [(11, .agg [.i v1.Code, .i v1.Index]),(10, .agg [.s (([]:Str)), .s (([]:Str)), .pv (.sl (some true) []), .s (([]:Str)), .pv (.sl (some true) []), .pv (.sl (some true) []), .bo false, .pv (.sl (some true) []), .i 0, .bo false, .bo false, .pv (.sl (some true) [])])] [(2, .ptr 2 0),(3, .ptr 3 0),(11, .agg [.i v1.Code, .i v1.Index])] [(4, .cells [.i v1.Code, .i v1.Index]),(3, .cells [.i 0, .i 0]),(2, .cells [.s (([]:Str)), .s (([]:Str)), .pv (.sl (some true) []), .s (([]:Str)), .pv (.sl (some true) []), .pv (.sl (some true) []), .bo false, .pv (.sl (some true) []), .i 0, .bo false, .bo false, .pv (.sl (some true) [])]),(1, .cells [.s a0.Name, .s a0.Mail.Envelope.From, .l zca.pc a0.Mail.Envelope.To, .s a0.Mail.Envelope.Id, .l zfa.pc a0.Mail.Message.Fields, .l cU a0.Mail.Message.Body, .bo a0.Pipelined, .l cU a0.Buffer, .i a0.Expected, .bo a0.Whole, .bo a0.Done, .l cI a0.Results])] tk mixed (by kernel_rfl) rfl rfl rfl (pqX tk rfl (.plain rfl) (pqX tk rfl (.plain rfl) .nil)) rfl rfl rfl rfl (by kernel_rfl) ?_
  refine rn tk 5 rfl ?_
  cases hr
  exact kr tk (.inr rfl) rfl rfl
 ·
  refine rn tk 3 rfl ?_
  obtain ⟨v6,h7,hr⟩:=zaa hr
  obtain ⟨v8,h9,hr⟩:=zaa hr
  refine drX 7 7 1 1 [] [(18, .ptr 1 1),(17, .hs 1017 0),(16, .l cI a0.Results),(15, .ptr 1 11),(14, .agg [.s v6.Envelope.From, .l zca.pc v6.Envelope.To, .s v6.Envelope.Id, .l zfa.pc v6.Message.Fields, .l cU v6.Message.Body]),(13, .agg [.s a0.Mail.Envelope.From, .l zca.pc a0.Mail.Envelope.To, .s a0.Mail.Envelope.Id, .l zfa.pc a0.Mail.Message.Fields, .l cU a0.Mail.Message.Body]),(12, .ptr 1 1)] [(1, .ptr 1 0),(2, .ptr 2 0),(3, .ptr 3 0),(14, .agg [.s v6.Envelope.From, .l zca.pc v6.Envelope.To, .s v6.Envelope.Id, .l zfa.pc v6.Message.Fields, .l cU v6.Message.Body]),(17, .hs 1017 0),(18, .ptr 1 1)] [(1017, .row 3 true 1 (List.map cI v8)),(4, .cells [.i v1.Code, .i v1.Index]),(3, .cells [.i 0, .i 0]),(2, .cells [.s (([]:Str)), .s (([]:Str)), .pv (.sl (some true) []), .s (([]:Str)), .pv (.sl (some true) []), .pv (.sl (some true) []), .bo false, .pv (.sl (some true) []), .i 0, .bo false, .bo false, .pv (.sl (some true) [])]),(1, .cells [.s a0.Name, .s a0.Mail.Envelope.From, .l zca.pc a0.Mail.Envelope.To, .s a0.Mail.Envelope.Id, .l zfa.pc a0.Mail.Message.Fields, .l cU a0.Mail.Message.Body, .bo a0.Pipelined, .l cU a0.Buffer, .i a0.Expected, .bo a0.Whole, .bo a0.Done, .l cI a0.Results])] tk mixed (by kernel_rfl) rfl rfl rfl (pqX tk rfl (.plain rfl) (pqX tk rfl (.plain rfl) (.run (.plain rfl) (qVa (waa a0.Mail v6 h7) rfl) (pqX tk rfl (.plain rfl) (pqX tk rfl (.plain rfl) (.new 1017 (.plain rfl) (K8a 1017 (vha a0.Results v8 h9) rfl) (pqX tk rfl (.plain rfl) .nil))))))) rfl rfl rfl rfl (by kernel_rfl) ?_
  refine rn tk 11 rfl ?_
  refine wo (ZZa (k:=23) 90000000 rfl rfl rfl rfl rfl) rfl ?_
  refine rn tk 1 rfl ?_
  refine J3a 1017 90000012 rfl rfl rfl rfl rfl rfl (hO ?_)
  refine v1a 90000015 (o:=90000000) (j:=14) 5 1 rfl rfl rfl rfl (hO ?_)
  refine rn tk 5 rfl ?_
  obtain ⟨v10,h11,hr⟩:=zaa hr
  refine wo (zBa (k:=25) (vVa ((zda.mk ((zla.mk a0.Name v6 a0.Pipelined ([]) a0.Expected a0.Whole a0.Done v8)) ([]) false (([]:List UInt8)))) v10 h11) rfl rfl (VKa rfl rfl (zba rfl (zba rfl zga)))) rfl ?_
  refine rn tk 3 rfl ?_
  obtain ⟨v12,h13,hr⟩:=zaa hr
  refine dr 5 [(30, .agg [.i v12.Code, .i v12.Index]),(29, .agg [.s v10.Client.Name, .s v10.Client.Mail.Envelope.From, .l zca.pc v10.Client.Mail.Envelope.To, .s v10.Client.Mail.Envelope.Id, .l zfa.pc v10.Client.Mail.Message.Fields, .l cU v10.Client.Mail.Message.Body, .bo v10.Client.Pipelined, .l cU v10.Client.Buffer, .i v10.Client.Expected, .bo v10.Client.Whole, .bo v10.Client.Done, .hs 90000012 0]),(28, .ptr 90000000 0),(27, .ptr 90000000 0),(26, .ptr 90000000 0)] mixed (by kernel_rfl) rfl rfl (pq tk rfl (.plain rfl) (pq tk rfl (.plain rfl) (pq tk rfl (.plain rfl) (pq tk rfl (.plain rfl) (.run (.plain rfl) (qVa (zGa v12 h13) rfl) .nil))))) rfl ?_
  refine rn tk 4 rfl ?_
  refine yYa 90000012 rfl (hC ?_)
  refine Qsa (o:=2) (j:=11) (F:=cI) (l:=v10.Client.Results) rfl rfl rfl (hC ?_)
  refine rn tk 1 rfl ?_
  cases hr
  exact kr tk (.inr rfl) rfl rfl
end Go.Proofs.YtjnmamghadpedaaGreatDoor
namespace Go.Proofs.YtjnmamghadpedaaGreatDoor
open Go.RowKit
set_option maxRecDepth 100000
def nums (l:List UInt8):List Int:=l.map fun c=> (c.toNat:Int)
theorem Wda (l:List UInt8):Lib.bytesOf (nums l)=l:=by simp [Lib.bytesOf,nums,Function.comp_def]
theorem Wea (l:List UInt8):∀x∈nums l,0≤x∧x < 256:=by
 intro x hx
 obtain ⟨c,_,rfl⟩:=List.mem_map.1 hx
 have:=c.toNat_lt
 omega
theorem qYb (l:List UInt8) (i:Nat) (h:i < l.length):(nums l).getD i 0=(l[i].toNat:Int):=by simp [nums,h]
theorem Vha {g:G} {l:List UInt8} {v:Value} (h:Rel g (.l cU l) v):∃ad cap,v= .slice ad l.length cap∧l.length≤cap∧(l≠ []→∃b off,ad=some ⟨b,off,none⟩∧∀i,i < l.length→g.w.cell? ((⟨b,off,none⟩:Addr).add i)=some (.int .u8 ((nums l).getD i 0))):=by
 cases h with
 | pv h=>
  generalize hE:l.map cU=elems at h
  have hEl:elems.length=l.length:=by rw [←hE];simp
  unfold pL at h
  rw [hE] at h
  cases h with
  | @sl _ _ a cap size b off val hn h0 hc hz ha hu hcell h=>
   refine ⟨a,cap,by rw [hEl],by omega,fun hne=> ⟨b,off,ha (by rw [←hE];simpa using hne),fun i hi=> ?_⟩⟩
   have hget:elems[i]? =some (cU l[i]):=by rw [←hE];simp [hi]
   have hs1:size=1:=by
    have:=hz _ (List.mem_of_getElem? hget)
    simpa [cU] using this.symm
   subst hs1
   rw [vEa,hcell i (by omega),qYb l i hi]
   have:=h i 0 _ (.b (.int .u8 (l[i].toNat:Int))) hget rfl
   simp only [Nat.mul_one,Nat.add_zero] at this
   have e:=kna (g:=g) (.pv this)
   rw [e]
theorem jYa (a b:List UInt8) (r:Int) (hr:qKa a b=some r):Run Tryz.prog 59 [.l cU a, .l cU b] (.i r):=by
 unfold qKa at hr
 split at hr
 case isFalse=> cases hr
 rename_i hlen
 cases hr
 refine ⟨⟨_,_,⟨Tryz.func59,rfl,by kernel_rfl⟩⟩,fun g vs hw hg ha=> ?_⟩
 obtain ⟨hsz,hrel⟩:=ha
 obtain ⟨l⟩:=vs
 match l,hsz with
 | [x,y],_=>
  have h0:Rel g (.l cU a) x:=hrel 0 _ rfl
  have h1:Rel g (.l cU b) y:=hrel 1 _ rfl
  obtain ⟨ad,cap,rfl,hcap,hcell⟩:=Vha h0
  obtain ⟨ad2,cap2,rfl,hcap2,hcell2⟩:=Vha h1
  have hb2:=hlen.2
  obtain ⟨b2,o2,rfl,hc2⟩:=hcell2 (by rintro rfl;simp at hb2)
  refine callsIn_wide.2 ?_
  suffices hs:Calls Tryz.prog 59 #[.slice ad a.length cap, .slice (some ⟨b2,o2,none⟩) b.length cap2] g.w fun e w' => e= .returned (.int .i64 (Lib.index a b))∧∃q,w' =g.w.drewN q by
   refine hs.mono ?_
   rintro e w' ⟨rfl,q,rfl⟩
   exact ⟨⟨g.w.drewN q,g.u,g.loc⟩,_,rfl,rfl,YTa g q,hw,rfl, .pv (.b rfl)⟩
  by_cases hs:a.length < 2
  ·have hi:Lib.index a b= -1:=by
    match a,b,hs,hb2 with
    | [], [p,q],_,_=> rfl
    | [c], [p,q],_,_=> simp [Lib.index]
   rw [hi]
   exact (Tryz.bytes_Index_longer ad (some ⟨b2,o2,none⟩) a.length cap b.length cap2 g.w (by omega) (by omega) (by omega)).mono fun e w' ⟨h1,h2⟩=> ⟨h1,0,h2⟩
  ·obtain ⟨b1,o1,rfl,hc1⟩:=hcell (by rintro rfl;simp at hs)
   obtain ⟨_,_,m,hm⟩:=hg.1 (0,0) (by simp [klb])
   have:=Tryz.bytes_Index_at ⟨b1,o1,none⟩ ⟨b2,o2,none⟩ a.length cap b.length cap2 (nums a) (nums b) m g.w (by simp [nums]) (by simp [nums]) (Wea a) (Wea b) hc1 hc2 hcap hlen.1 (by omega) hm
   rw [Wda,Wda] at this
   exact this
end Go.Proofs.YtjnmamghadpedaaGreatDoor
namespace Go.Proofs.YtjnmamghadpedaaGreatDoor
open Go.RowKit
set_option maxRecDepth 100000
set_option maxHeartbeats 40000000
theorem qEa (a0:Int) (r:Int) (hr:kya a0=some r):Run Tryz.prog 89 [.i a0] (.i r):=by
 unfold kya at hr
 refine rf (fn:=Tryz.f89) ⟨Tryz.func89,rfl,by kernel_rfl⟩ rfl (fun _=> rfl) fun g0 hg=> ?_
 refine rn tk 12 rfl ?_
 refine ac 4 hr rfl (fun c1 hr=> ?_) (fun c1 hr=> ?_)
 ·
  refine rn tk 7 rfl ?_
  cases hr
  exact kr tk (.inr rfl) rfl rfl
 ·
  refine rn tk 8 rfl ?_
  cases hr
  exact kr tk (.inr rfl) rfl rfl
theorem vXa (a0:zda) (r:Bool × zda) (hr:kfa a0=some r):RunS Tryz.prog 91 [.ptr 90000000 0] [(90000000, .cells [.s a0.Client.Name, .s a0.Client.Mail.Envelope.From, .l zca.pc a0.Client.Mail.Envelope.To, .s a0.Client.Mail.Envelope.Id, .l zfa.pc a0.Client.Mail.Message.Fields, .l cU a0.Client.Mail.Message.Body, .bo a0.Client.Pipelined, .l cU a0.Client.Buffer, .i a0.Client.Expected, .bo a0.Client.Whole, .bo a0.Client.Done, .hs 90000012 0, .l cU a0.content, .bo a0.chunk, .hs 90000015 0]),(90000012, .row 3 true 1 (List.map cI a0.Client.Results)),(90000015, .row 5 false 1 (List.map cU a0.out))] (.bo r.1) [(90000000, .cells [.s r.2.Client.Name, .s r.2.Client.Mail.Envelope.From, .l zca.pc r.2.Client.Mail.Envelope.To, .s r.2.Client.Mail.Envelope.Id, .l zfa.pc r.2.Client.Mail.Message.Fields, .l cU r.2.Client.Mail.Message.Body, .bo r.2.Client.Pipelined, .l cU r.2.Client.Buffer, .i r.2.Client.Expected, .bo r.2.Client.Whole, .bo r.2.Client.Done, .hs 90000012 0, .l cU r.2.content, .bo r.2.chunk, .hs 90000015 0]),(90000012, .row 3 true 1 (List.map cI r.2.Client.Results)),(90000015, .row 5 false 1 (List.map cU r.2.out))] 90000000 [90000012,90000015]:=by
 unfold kfa at hr
 refine rfS (fn:=Tryz.f91) (H:=90000999) (.ptr 90000000 0) ⟨Tryz.func91,rfl,by kernel_rfl⟩ rfl (hasT rfl) (.inl ⟨rfl,rfl⟩) rfl rfl rfl rfl fun g0 hg S sg T=> ?_
 refine rn tk 12 rfl ?_
 refine il (fn:=Tryz.f109) (args:= [.hs 90000012 0, .i 0]) 100000 199999 [] rfl ⟨Tryz.func109,rfl,by kernel_rfl⟩ rfl rfl rfl fun T1 ds1=> ?_
 refine rn tk 9 rfl ?_
 refine ct hr (fun j1=> [(7, .i j1)]) (fun j1=> [(199999, .sus g0.w.heap.size ds1),(90000999, .hold (.ptr 90000000 0) (T.getD 0 undef)),(90000000, .cells [.s a0.Client.Name, .s a0.Client.Mail.Envelope.From, .l zca.pc a0.Client.Mail.Envelope.To, .s a0.Client.Mail.Envelope.Id, .l zfa.pc a0.Client.Mail.Message.Fields, .l cU a0.Client.Mail.Message.Body, .bo a0.Client.Pipelined, .l cU a0.Client.Buffer, .i a0.Client.Expected, .bo a0.Client.Whole, .bo a0.Client.Done, .hs 90000012 0, .l cU a0.content, .bo a0.chunk, .hs 90000015 0]),(90000012, .row 3 true 1 (List.map cI a0.Client.Results)),(90000015, .row 5 false 1 (List.map cU a0.out))]) (fun j1 hr jump2=> ?_) (fun j1 hr=> ?_)
 ·
  refine il (fn:=Tryz.f124) (args:= [.hs 90000012 0, .i 0]) 200000 299999 [] rfl ⟨Tryz.func124,rfl,by kernel_rfl⟩ rfl rfl rfl fun T2 ds2=> ?_
  refine rn tk 9 rfl ?_
  refine wnh tk rfl rfl rfl rfl ?_
  refine rn tk 4 rfl ?_
  refine al2 hr (fun s2=> [(0, .hs 90000012 0),(1, .i 0),(7, .i ((a0.Client.Results.length:Int))),(8, .i s2)]) (fun s2=> [(299999, .sus g0.w.heap.size ds2),(199999, .sus g0.w.heap.size ds1),(90000999, .hold (.ptr 90000000 0) (T.getD 0 undef)),(90000000, .cells [.s a0.Client.Name, .s a0.Client.Mail.Envelope.From, .l zca.pc a0.Client.Mail.Envelope.To, .s a0.Client.Mail.Envelope.Id, .l zfa.pc a0.Client.Mail.Message.Fields, .l cU a0.Client.Mail.Message.Body, .bo a0.Client.Pipelined, .l cU a0.Client.Buffer, .i a0.Client.Expected, .bo a0.Client.Whole, .bo a0.Client.Done, .hs 90000012 0, .l cU a0.content, .bo a0.chunk, .hs 90000015 0]),(90000012, .row 3 true 1 (List.map cI a0.Client.Results)),(90000015, .row 5 false 1 (List.map cU a0.out))]) (.exit 0) (fun b3=> []) (fun b3=> [(299999, .sus g0.w.heap.size ds2),(199999, .sus g0.w.heap.size ds1),(90000999, .hold (.ptr 90000000 0) (T.getD 0 undef)),(90000000, .cells [.s a0.Client.Name, .s a0.Client.Mail.Envelope.From, .l zca.pc a0.Client.Mail.Envelope.To, .s a0.Client.Mail.Envelope.Id, .l zfa.pc a0.Client.Mail.Message.Fields, .l cU a0.Client.Mail.Message.Body, .bo a0.Client.Pipelined, .l cU a0.Client.Buffer, .i a0.Client.Expected, .bo a0.Client.Whole, .bo a0.Client.Done, .hs 90000012 0, .l cU a0.content, .bo a0.chunk, .hs 90000015 0]),(90000012, .row 3 true 1 (List.map cI a0.Client.Results)),(90000015, .row 5 false 1 (List.map cU a0.out))]) .ret (fun b4=> [(4, .i b4)]) (fun b4=> [(299999, .sus g0.w.heap.size ds2),(199999, .sus g0.w.heap.size ds1),(90000999, .hold (.ptr 90000000 0) (T.getD 0 undef)),(90000000, .cells [.s a0.Client.Name, .s a0.Client.Mail.Envelope.From, .l zca.pc a0.Client.Mail.Envelope.To, .s a0.Client.Mail.Envelope.Id, .l zfa.pc a0.Client.Mail.Message.Fields, .l cU a0.Client.Mail.Message.Body, .bo a0.Client.Pipelined, .l cU a0.Client.Buffer, .i a0.Client.Expected, .bo a0.Client.Whole, .bo a0.Client.Done, .hs 90000012 0, .l cU a0.content, .bo a0.chunk, .hs 90000015 0]),(90000012, .row 3 true 1 (List.map cI a0.Client.Results)),(90000015, .row 5 false 1 (List.map cU a0.out))]) rfl rfl (fun s2 x6 hr=> ?_) (fun b3 hr=> ?_) (fun b4 hr=> ?_)
  ·
   unfold kTa at hr
   refine rn tk 6 rfl ?_
   refine ac 9 hr rfl (fun c7 hr=> ?_) (fun c7 hr=> ?_)
   ·
    refine rn tk 15 rfl ?_
    obtain ⟨v8,h9,hr⟩:=zaa hr
    refine wih tk h9 rfl rfl rfl rfl rfl ?_
    obtain ⟨v10,h11,hr⟩:=zaa hr
    refine wq (J0a (F:=cI) (l:=a0.Client.Results) (n:=s2) (j:=0) rfl rfl vLa rfl h11 rfl) rfl rfl rfl ?_
    refine rn tk 3 rfl ?_
    refine ac 16 hr rfl (fun c12 hr=> ?_) (fun c12 hr=> ?_)
    ·
     refine rn tk 9 rfl ?_
     cases hr
     exact ato rfl rfl rfl rfl
    ·
     refine rn tk 7 rfl ?_
     cases hr
     exact atc rfl rfl
   ·
    refine rn tk 2 rfl ?_
    cases hr
    exact ato rfl rfl rfl rfl
  ·
   refine rn tk 8 rfl ?_
   refine ie tk [.i ((-1))] [] [(199999, .sus g0.w.heap.size ds1),(90000999, .hold (.ptr 90000000 0) (T.getD 0 undef)),(90000000, .cells [.s a0.Client.Name, .s a0.Client.Mail.Envelope.From, .l zca.pc a0.Client.Mail.Envelope.To, .s a0.Client.Mail.Envelope.Id, .l zfa.pc a0.Client.Mail.Message.Fields, .l cU a0.Client.Mail.Message.Body, .bo a0.Client.Pipelined, .l cU a0.Client.Buffer, .i a0.Client.Expected, .bo a0.Client.Whole, .bo a0.Client.Done, .hs 90000012 0, .l cU a0.content, .bo a0.chunk, .hs 90000015 0]),(90000012, .row 3 true 1 (List.map cI a0.Client.Results)),(90000015, .row 5 false 1 (List.map cU a0.out))] (.inr rfl) rfl rfl rfl rfl ?_
   cases hr
   exact jump2 _ _ rfl rfl
  ·
   refine rn tk 2 rfl ?_
   refine ie tk [.i b4] [] [(199999, .sus g0.w.heap.size ds1),(90000999, .hold (.ptr 90000000 0) (T.getD 0 undef)),(90000000, .cells [.s a0.Client.Name, .s a0.Client.Mail.Envelope.From, .l zca.pc a0.Client.Mail.Envelope.To, .s a0.Client.Mail.Envelope.Id, .l zfa.pc a0.Client.Mail.Message.Fields, .l cU a0.Client.Mail.Message.Body, .bo a0.Client.Pipelined, .l cU a0.Client.Buffer, .i a0.Client.Expected, .bo a0.Client.Whole, .bo a0.Client.Done, .hs 90000012 0, .l cU a0.content, .bo a0.chunk, .hs 90000015 0]),(90000012, .row 3 true 1 (List.map cI a0.Client.Results)),(90000015, .row 5 false 1 (List.map cU a0.out))] (.inr rfl) rfl rfl rfl rfl ?_
   cases hr
   exact jump2 _ _ rfl rfl
 ·
  refine rn tk 5 rfl ?_
  refine ie tk [.bo (decide (0≤j1))] [] [(90000999, .hold (.ptr 90000000 0) (T.getD 0 undef)),(90000000, .cells [.s a0.Client.Name, .s a0.Client.Mail.Envelope.From, .l zca.pc a0.Client.Mail.Envelope.To, .s a0.Client.Mail.Envelope.Id, .l zfa.pc a0.Client.Mail.Message.Fields, .l cU a0.Client.Mail.Message.Body, .bo a0.Client.Pipelined, .l cU a0.Client.Buffer, .i a0.Client.Expected, .bo a0.Client.Whole, .bo a0.Client.Done, .hs 90000012 0, .l cU a0.content, .bo a0.chunk, .hs 90000015 0]),(90000012, .row 3 true 1 (List.map cI a0.Client.Results)),(90000015, .row 5 false 1 (List.map cU a0.out))] (.inr rfl) rfl rfl rfl rfl (hO ?_)
  refine rn tk 5 rfl ?_
  cases hr
  exact krS tk (.inr rfl) rfl rfl (zba rfl (zba rfl (zba rfl (zba rfl zga))))
end Go.Proofs.YtjnmamghadpedaaGreatDoor
namespace Go.Proofs.YtjnmamghadpedaaGreatDoor
open Go.RowKit
set_option maxRecDepth 100000
theorem str_argN {g:G} {s:Str} {v:Value} (h:Rel g (.s s) v):v= .string (strB s):=kna h
theorem pow_tab {g : G} (hg : Gl g) : Lib.TabIs Tryz.prog g.w "internal/strconv.uint64pow10" .u64 Lib.pow10Tab := by
 obtain ⟨t,fz,h⟩:=hg.2.1 (3,(Lib.pow10Tab.map fun z=> Value.int .u64 z).toArray) (by simp [globK])
 have hn : Tryz.prog.globalNamed "internal/strconv.uint64pow10" = some 3 := by kernel_rfl
 unfold Lib.TabIs World.var?
 rw [hn]
 simp only [Option.bind_some]
 simp only at h
 rw [h]
theorem zvb (g:G) (q:Nat) (os:Array Obj):Old (fun _=> False) g ⟨Go.Sort.grow (g.w.drewN q) os,g.u,g.loc⟩:=by
 have hb:∀k,k < g.w.heap.size→(Go.Sort.grow (g.w.drewN q) os).heap[k]? =g.w.heap[k]? :=by
  intro k hk
  show (g.w.heap++os)[k]? =_
  rw [Array.getElem?_append_left hk]
 refine ⟨rfl,rfl,rfl,⟨?_,fun _ _=> Nat.le_refl _,fun k i hk hi=> ?_,fun r hr=> (hb r (kGa hr)).trans hr⟩,fun k hk _=> ⟨hb k hk,rfl⟩⟩
 ·show g.w.heap.size≤(g.w.heap++os).size
  simp
 ·simp only [World.cell?];rw [hb k hk]
end Go.Proofs.YtjnmamghadpedaaGreatDoor
namespace Go.Proofs.YtjnmamghadpedaaGreatDoor
open Go.RowKit
set_option maxRecDepth 100000
theorem jja (n:Int) (r:Str) (hr:kKa n=some r):Run Tryz.prog 149 [.i n] (.s r):=by
 unfold kKa at hr
 split at hr
 case isFalse=> cases hr
 rename_i hlen
 cases hr
 refine ⟨⟨_,_,⟨Tryz.func149,rfl,by kernel_rfl⟩⟩,fun g vs hw hg ha=> ?_⟩
 obtain ⟨hsz,hrel⟩:=ha
 obtain ⟨l⟩:=vs
 match l,hsz with
 | [x],_=>
  have e2:x= .int .i64 n:=kna (hrel 0 _ rfl)
  subst e2
  refine callsIn_wide.2 ((Tryz.strconv_Itoa n hlen.1 hlen.2 g.w (pow_tab hg)).mono ?_)
  rintro e w' ⟨rfl,q,os,rfl⟩
  exact ⟨⟨Go.Sort.grow (g.w.drewN q) os,g.u,g.loc⟩,_,rfl,rfl,zvb g q os,fun k hk=> hw k (Nat.le_trans (zvb g q os).ext.size hk),rfl, .pv (.b rfl)⟩
end Go.Proofs.YtjnmamghadpedaaGreatDoor
namespace Go.Proofs.YtjnmamghadpedaaGreatDoor
open Go.RowKit
set_option maxRecDepth 100000
set_option maxHeartbeats 40000000
theorem Qpa (a0:zta) (r:zta) (hr:wla a0=some r):Run Tryz.prog 163 [.agg [.i a0.Verb, .s a0.Name, .s a0.Address, .i a0.Size, .i a0.Notify, .bo a0.Last]] (.agg [.i r.Verb, .s r.Name, .s r.Address, .i r.Size, .i r.Notify, .bo r.Last]):=by
 unfold wla at hr
 refine rf (fn:=Tryz.f163) ⟨Tryz.func163,rfl,by kernel_rfl⟩ rfl (fun _=> rfl) fun g0 hg=> ?_
 refine rn tk 15 rfl ?_
 refine jb hr (fun j1=> [(2, .ptr 2 0),(3, .ptr 3 0)]) (fun j1=> [(3, .cells [.i a0.Verb, .s j1.1, .s j1.2.1, .i j1.2.2.1, .i j1.2.2.2.1, .bo j1.2.2.2.2]),(2, .cells [.i 0, .s (([]:Str)), .s (([]:Str)), .i 0, .i 0, .bo false])]) (fun j1 hr=> ?_) (fun j1 hr=> ?_)
 ·
  refine rn tk 13 rfl ?_
  refine ac 9 hr rfl (fun c2 hr=> ?_) (fun c2 hr=> ?_)
  ·
   refine rn tk 7 rfl ?_
   cases hr
   exact jn _ rfl rfl rfl
  ·
   refine rn tk 6 rfl ?_
   refine ac 14 hr rfl (fun c3 hr=> ?_) (fun c3 hr=> ?_)
   ·
    refine drX 5 6 4 8 [2,3] [(20, .ptr 3 2),(19, .i a0.Size),(18, .ptr 1 3),(17, .s a0.Address),(16, .ptr 1 2)] [(2, .ptr 2 0),(3, .ptr 3 0),(19, .i a0.Size)] [(3, .cells [.i a0.Verb, .s (([]:Str)), .s a0.Address, .i 0, .i 0, .bo false]),(2, .cells [.i 0, .s (([]:Str)), .s (([]:Str)), .i 0, .i 0, .bo false]),(1, .cells [.i a0.Verb, .s a0.Name, .s a0.Address, .i a0.Size, .i a0.Notify, .bo a0.Last])] tk mixed (by kernel_rfl) rfl rfl rfl (pqX tk rfl (.plain rfl) (pqX tk rfl (.plain rfl) (pqX tk rfl (.plain rfl) (pqX tk rfl (.plain rfl) (pqX tk rfl (.plain rfl) .nil))))) rfl rfl rfl rfl (by kernel_rfl) ?_
    refine rn tk 4 rfl ?_
    cases hr
    exact jn _ rfl rfl rfl
   ·
    refine rn tk 6 rfl ?_
    refine ac 22 hr rfl (fun c4 hr=> ?_) (fun c4 hr=> ?_)
    ·
     refine drX 5 6 4 8 [2,3] [(28, .ptr 3 2),(27, .i a0.Notify),(26, .ptr 1 4),(25, .s a0.Address),(24, .ptr 1 2)] [(2, .ptr 2 0),(3, .ptr 3 0),(27, .i a0.Notify)] [(3, .cells [.i a0.Verb, .s (([]:Str)), .s a0.Address, .i 0, .i 0, .bo false]),(2, .cells [.i 0, .s (([]:Str)), .s (([]:Str)), .i 0, .i 0, .bo false]),(1, .cells [.i a0.Verb, .s a0.Name, .s a0.Address, .i a0.Size, .i a0.Notify, .bo a0.Last])] tk mixed (by kernel_rfl) rfl rfl rfl (pqX tk rfl (.plain rfl) (pqX tk rfl (.plain rfl) (pqX tk rfl (.plain rfl) (pqX tk rfl (.plain rfl) (pqX tk rfl (.plain rfl) .nil))))) rfl rfl rfl rfl (by kernel_rfl) ?_
     refine rn tk 4 rfl ?_
     cases hr
     exact jn _ rfl rfl rfl
    ·
     refine rn tk 6 rfl ?_
     refine ac 30 hr rfl (fun c5 hr=> ?_) (fun c5 hr=> ?_)
     ·
      refine drX 5 6 4 8 [2,3] [(36, .ptr 3 3),(35, .bo a0.Last),(34, .ptr 1 5),(33, .i a0.Size),(32, .ptr 1 3)] [(2, .ptr 2 0),(3, .ptr 3 0),(35, .bo a0.Last)] [(3, .cells [.i a0.Verb, .s (([]:Str)), .s (([]:Str)), .i a0.Size, .i 0, .bo false]),(2, .cells [.i 0, .s (([]:Str)), .s (([]:Str)), .i 0, .i 0, .bo false]),(1, .cells [.i a0.Verb, .s a0.Name, .s a0.Address, .i a0.Size, .i a0.Notify, .bo a0.Last])] tk mixed (by kernel_rfl) rfl rfl rfl (pqX tk rfl (.plain rfl) (pqX tk rfl (.plain rfl) (pqX tk rfl (.plain rfl) (pqX tk rfl (.plain rfl) (pqX tk rfl (.plain rfl) .nil))))) rfl rfl rfl rfl (by kernel_rfl) ?_
      refine rn tk 4 rfl ?_
      cases hr
      exact jn _ rfl rfl rfl
     ·
      refine rn tk 2 rfl ?_
      cases hr
      exact jn _ rfl rfl rfl
 ·
  refine rn tk 7 rfl ?_
  cases hr
  exact kr tk (.inr rfl) rfl rfl
theorem Zma (a0:zta) (r:zra) (hr:qwa a0=some r):Run Tryz.prog 147 [.agg [.i a0.Verb, .s a0.Name, .s a0.Address, .i a0.Size, .i a0.Notify, .bo a0.Last]] (.agg [.i r.Code, .i r.Index]):=by
 unfold qwa at hr
 refine rf (fn:=Tryz.f147) ⟨Tryz.func147,rfl,by kernel_rfl⟩ rfl (fun _=> rfl) fun g0 hg=> ?_
 refine rn tk 6 rfl ?_
 refine jb hr (fun j1=> [(1, .ptr 1 0),(2, .ptr 2 0),(3, .bo j1)]) (fun j1=> [(2, .cells [.i 0, .i 0]),(1, .cells [.i a0.Verb, .s a0.Name, .s a0.Address, .i a0.Size, .i a0.Notify, .bo a0.Last])]) (fun j1 hr=> ?_) (fun j1 hr=> ?_)
 ·
  refine rn tk 5 rfl ?_
  refine bs 7 hr rfl (fun c2 hr=> ?_) (fun c2 hr=> ?_)
  ·
   refine rn tk 11 rfl ?_
   cases hr
   exact jn _ rfl rfl rfl
  ·
   refine rn tk 4 rfl ?_
   refine bs 11 hr rfl (fun c3 hr=> ?_) (fun c3 hr=> ?_)
   ·
    refine rn tk 7 rfl ?_
    cases hr
    exact jn _ rfl rfl rfl
   ·
    refine rn tk 7 rfl ?_
    cases hr
    exact jn _ rfl rfl rfl
 ·
  refine rn tk 2 rfl ?_
  refine jb hr (fun j4=> [(1, .ptr 1 0),(2, .ptr 2 0),(3, .bo j1),(17, .bo j4)]) (fun j4=> [(2, .cells [.i 0, .i 0]),(1, .cells [.i a0.Verb, .s a0.Name, .s a0.Address, .i a0.Size, .i a0.Notify, .bo a0.Last])]) (fun j4 hr=> ?_) (fun j4 hr=> ?_)
  ·
   refine rn tk 5 rfl ?_
   refine bs 21 hr rfl (fun c5 hr=> ?_) (fun c5 hr=> ?_)
   ·
    refine rn tk 6 rfl ?_
    cases hr
    exact jn _ rfl rfl rfl
   ·
    refine rn tk 6 rfl ?_
    cases hr
    exact jn _ rfl rfl rfl
  ·
   refine ac 17 hr rfl (fun c6 hr=> ?_) (fun c6 hr=> ?_)
   ·
    refine rn tk 2 rfl ?_
    obtain ⟨v7,h8,hr⟩:=zaa hr
    refine cl (zka _ _ _ h8) rfl rfl ?_
    refine rn tk 6 rfl ?_
    cases hr
    exact kr tk (.inr rfl) rfl rfl
   ·
    refine rn tk 1 rfl ?_
    obtain ⟨v9,h10,hr⟩:=zaa hr
    refine dr 3 [(30, .agg [.i v9.Verb, .s v9.Name, .s v9.Address, .i v9.Size, .i v9.Notify, .bo v9.Last]),(29, .agg [.i a0.Verb, .s a0.Name, .s a0.Address, .i a0.Size, .i a0.Notify, .bo a0.Last]),(28, .agg [.i a0.Verb, .s a0.Name, .s a0.Address, .i a0.Size, .i a0.Notify, .bo a0.Last])] mixed (by kernel_rfl) rfl rfl (pq tk rfl (.plain rfl) (pq tk rfl (.plain rfl) (.run (.plain rfl) (qVa (Qpa a0 v9 h10) rfl) .nil))) rfl ?_
    refine wq (ZDa rfl rfl Zra QKa (.int rfl (by decide) vLa (.str rfl (by decide) zNa (.str rfl (by decide) zNa (.int rfl (by decide) vLa (.int rfl (by decide) vLa (.bool rfl (by decide) WCa .nil))))))) rfl rfl rfl ?_
    refine rn tk 3 rfl ?_
    refine ac 27 hr rfl (fun c11 hr=> ?_) (fun c11 hr=> ?_)
    ·
     refine rn tk 2 rfl ?_
     obtain ⟨v12,h13,hr⟩:=zaa hr
     refine cl (zka _ _ _ h13) rfl rfl ?_
     refine rn tk 6 rfl ?_
     cases hr
     exact kr tk (.inr rfl) rfl rfl
    ·
     refine jb hr (fun j14=> [(1, .ptr 1 0),(2, .ptr 2 0),(3, .bo j1),(33, .bo j14)]) (fun j14=> [(2, .cells [.i 0, .i 0]),(1, .cells [.i a0.Verb, .s a0.Name, .s a0.Address, .i a0.Size, .i a0.Notify, .bo a0.Last])]) (fun j14 hr=> ?_) (fun j14 hr=> ?_)
     ·
      refine rn tk 5 rfl ?_
      refine bs 37 hr rfl (fun c15 hr=> ?_) (fun c15 hr=> ?_)
      ·
       refine rn tk 2 rfl ?_
       obtain ⟨v16,h17,hr⟩:=zaa hr
       refine ug rfl rfl rfl ?_
       refine cl (yua _ _ h17) rfl rfl ?_
       refine rn tk 4 rfl ?_
       cases hr
       exact jn _ rfl rfl rfl
      ·
       refine rn tk 7 rfl ?_
       cases hr
       exact jn _ rfl rfl rfl
     ·
      refine ac 33 hr rfl (fun c18 hr=> ?_) (fun c18 hr=> ?_)
      ·
       refine rn tk 2 rfl ?_
       obtain ⟨v19,h20,hr⟩:=zaa hr
       refine cl (zka _ _ _ h20) rfl rfl ?_
       refine rn tk 6 rfl ?_
       cases hr
       exact kr tk (.inr rfl) rfl rfl
      ·
       refine jb hr (fun j21=> [(1, .ptr 1 0),(2, .ptr 2 0),(44, .bo j21)]) (fun j21=> [(2, .cells [.i 0, .i 0]),(1, .cells [.i a0.Verb, .s a0.Name, .s a0.Address, .i a0.Size, .i a0.Notify, .bo a0.Last])]) (fun j21 hr=> ?_) (fun j21 hr=> ?_)
       ·
        refine rn tk 3 rfl ?_
        refine bs 46 hr rfl (fun c22 hr=> ?_) (fun c22 hr=> ?_)
        ·
         refine rn tk 2 rfl ?_
         obtain ⟨v23,h24,hr⟩:=zaa hr
         refine ug rfl rfl rfl ?_
         refine cl (q5a _ _ h24) rfl rfl ?_
         refine rn tk 4 rfl ?_
         cases hr
         exact jn _ rfl rfl rfl
        ·
         refine rn tk 7 rfl ?_
         cases hr
         exact jn _ rfl rfl rfl
       ·
        refine ac 44 hr rfl (fun c25 hr=> ?_) (fun c25 hr=> ?_)
        ·
         refine rn tk 2 rfl ?_
         obtain ⟨v26,h27,hr⟩:=zaa hr
         refine cl (zka _ _ _ h27) rfl rfl ?_
         refine rn tk 6 rfl ?_
         cases hr
         exact kr tk (.inr rfl) rfl rfl
        ·
         refine jb hr (fun j28=> [(1, .ptr 1 0),(2, .ptr 2 0),(53, .bo j28)]) (fun j28=> [(2, .cells [.i 0, .i 0]),(1, .cells [.i a0.Verb, .s a0.Name, .s a0.Address, .i a0.Size, .i a0.Notify, .bo a0.Last])]) (fun j28 hr=> ?_) (fun j28 hr=> ?_)
         ·
          refine rn tk 5 rfl ?_
          refine bs 57 hr rfl (fun c29 hr=> ?_) (fun c29 hr=> ?_)
          ·
           refine rn tk 6 rfl ?_
           cases hr
           exact jn _ rfl rfl rfl
          ·
           refine rn tk 6 rfl ?_
           cases hr
           exact jn _ rfl rfl rfl
         ·
          refine ac 53 hr rfl (fun c30 hr=> ?_) (fun c30 hr=> ?_)
          ·
           refine rn tk 2 rfl ?_
           obtain ⟨v31,h32,hr⟩:=zaa hr
           refine cl (zka _ _ _ h32) rfl rfl ?_
           refine rn tk 6 rfl ?_
           cases hr
           exact kr tk (.inr rfl) rfl rfl
          ·
           refine rn tk 4 rfl ?_
           obtain ⟨v33,h34,hr⟩:=zaa hr
           refine cl (w6a _ _ h34) rfl rfl ?_
           refine rn tk 4 rfl ?_
           refine ac 63 hr rfl (fun c35 hr=> ?_) (fun c35 hr=> ?_)
           ·
            refine rn tk 2 rfl ?_
            obtain ⟨v36,h37,hr⟩:=zaa hr
            refine cl (zka _ _ _ h37) rfl rfl ?_
            refine rn tk 6 rfl ?_
            cases hr
            exact kr tk (.inr rfl) rfl rfl
           ·
            refine rn tk 5 rfl ?_
            obtain ⟨v38,h39,hr⟩:=zaa hr
            refine cl (zGa _ h39) rfl rfl ?_
            refine rn tk 4 rfl ?_
            cases hr
            exact kr tk (.inr rfl) rfl rfl
end Go.Proofs.YtjnmamghadpedaaGreatDoor
namespace Go.Proofs.YtjnmamghadpedaaGreatDoor
open Go.RowKit
set_option maxRecDepth 100000
theorem qZb {g:G} {w' :World} (h:Below g.w.heap.size g.w w'):Old (fun _=> False) g ⟨w',g.u,g.loc⟩:=
 ⟨h.os,h.tape,h.output,⟨h.size,fun _ _=> Nat.le_refl _,fun k i hk _=> by simp only [World.cell?];rw [h.block k hk],fun r hr=> (h.block r (kGa hr)).trans hr⟩,fun k hk _=> ⟨h.block k hk,rfl⟩⟩
theorem str_argJ {g:G} {s:Str} {v:Value} (h:Rel g (.s s) v):v= .string (strB s):=kna h
theorem q0b {g:G} {l:List Str} {v:Value} (h:Rel g (.l cS l) v):∃ad cap,v= .slice ad l.length cap∧l.length≤cap∧(l≠ []→∃b off,ad=some ⟨b,off,none⟩∧b < g.w.heap.size∧∀(i:Nat) s,l[i]? =some s→g.w.cell? ⟨b,off+i,none⟩=some (.string (strB s))):=by
 cases h with
 | pv h=>
  generalize hE:l.map cS=elems at h
  have hEl:elems.length=l.length:=by rw [←hE];simp
  unfold pL at h
  rw [hE] at h
  cases h with
  | @sl _ _ a cap size b off val hn h0 hc hz ha hu hcell h=>
   refine ⟨a,cap,by rw [hEl],by omega,fun hne=> ?_⟩
   have hne' :elems≠ []:=by rw [←hE];simpa using hne
   refine ⟨b,off,ha hne',(hu hne').2,fun i s hi=> ?_⟩
   have hget:elems[i]? =some (cS s):=by rw [←hE];simp [hi]
   have hs1:size=1:=by
    have:=hz _ (List.mem_of_getElem? hget)
    simpa [cS] using this.symm
   subst hs1
   have hlt:i < elems.length:=(List.getElem?_eq_some_iff.1 hget).1
   rw [hcell i (by omega)]
   have:=h i 0 _ (.b (.string (strB s))) hget rfl
   simp only [Nat.mul_one,Nat.add_zero] at this
   have e:=kna (g:=g) (.pv this)
   rw [e]
theorem Qqa (l:List Str) (s:Str) (r:Str) (hr:qRa l s=some r):Run Tryz.prog 166 [.l cS l, .s s] (.s r):=by
 unfold qRa at hr
 split at hr
 case isFalse=> cases hr
 rename_i hlen
 cases hr
 refine ⟨⟨_,_,⟨Tryz.func166,rfl,by kernel_rfl⟩⟩,fun g vs hw hg ha=> ?_⟩
 obtain ⟨hsz,hrel⟩:=ha
 obtain ⟨vl⟩:=vs
 match vl,hsz with
 | [x,y],_=>
  have h0:Rel g (.l cS l) x:=hrel 0 _ rfl
  obtain rfl:=str_argJ (hrel 1 _ rfl)
  obtain ⟨ad,cap,rfl,hcap,hcell⟩:=q0b h0
  refine callsIn_wide.2 ?_
  suffices hs:Calls Tryz.prog 166 #[.slice ad l.length cap, .string (strB s)] g.w fun e w' => e= .returned (.string (strB (Lib.join l s)))∧Below g.w.heap.size g.w w' by
   refine hs.mono ?_
   rintro e w' ⟨rfl,hb⟩
   exact ⟨⟨w',g.u,g.loc⟩,_,rfl,rfl,qZb hb,fun k hk=> hw k (Nat.le_trans hb.size hk),rfl, .pv (.b rfl)⟩
  cases l with
  | nil=> exact (Tryz.strings_Join_none ad cap (strB s) g.w).mono fun e w' ⟨he,hw⟩=> ⟨he,hw▸Below.refl _ _⟩
  | cons a l=>
   obtain ⟨b,off,rfl,hb,hc⟩:=hcell (by simp)
   have e1:((a::l).map strB).map (·.data.toList)=a::l:=by
    rw [List.map_map]
    conv=> rhs;rw [←List.map_id (a::l)]
    exact List.map_congr_left fun x _=> rfl
   have:=Tryz.strings_Join b off cap ((a::l).map strB) (strB s) g.w (fun j x hx=> by
    simp only [List.getElem?_map,Option.map_eq_some_iff] at hx
    obtain ⟨y,hy,rfl⟩:=hx
    exact hc j y hy) hb (by rw [List.length_map];exact hlen.1) (by rw [List.length_map];exact hcap) (by rw [e1];exact hlen.2)
   rw [e1,List.length_map] at this
   exact this
end Go.Proofs.YtjnmamghadpedaaGreatDoor
namespace Go.Proofs.YtjnmamghadpedaaGreatDoor
open Go.RowKit
set_option maxRecDepth 100000
set_option maxHeartbeats 40000000
theorem jpa (r:zia × zia × zia) (hr:qDa=some r):Run Tryz.prog 165 [] (.agg [.i r.1.n, .s r.1.word, .i r.2.1.n, .s r.2.1.word, .i r.2.2.n, .s r.2.2.word]):=by
 unfold qDa at hr
 refine rf (fn:=Tryz.f165) ⟨Tryz.func165,rfl,by kernel_rfl⟩ rfl (fun _=> rfl) fun g0 hg=> ?_
 refine rn tk 10 rfl ?_
 refine wq (Yea (cs:= [.i 1, .s (([102,97,105,108,117,114,101]:Str)), .i 2, .s (([100,101,108,97,121]:Str)), .i 4, .s (([115,117,99,99,101,115,115]:Str))]) qoa q4a (.inr ⟨rfl,rfl⟩) (by kernel_rfl)) rfl rfl rfl ?_
 refine rn tk 4 rfl ?_
 cases hr
 exact kr tk (.inr rfl) rfl rfl
theorem Kua (a0:Int) (r:Str) (hr:vea a0=some r):Run Tryz.prog 150 [.i a0] (.s r):=by
 unfold vea at hr
 refine rf (fn:=Tryz.f150) ⟨Tryz.func150,rfl,by kernel_rfl⟩ rfl (fun _=> rfl) fun g0 hg=> ?_
 refine rn tk 8 rfl ?_
 refine qxa 1003 (d:=3) 9 1 rfl rfl rfl (hO ?_)
 refine rn tk 5 rfl ?_
 obtain ⟨v1,h2,hr⟩:=zaa hr
 refine cl (jpa _ h2) rfl rfl ?_
 refine rn tk 4 rfl ?_
 refine al1 hr (fun s3=> [(0, .i a0),(3, .hs 1003 0),(6, .agg [.i v1.1.n, .s v1.1.word, .i v1.2.1.n, .s v1.2.1.word, .i v1.2.2.n, .s v1.2.2.word]),(7, .i s3.1)]) (fun s3=> [(1003, .row 9 false 1 (List.map cS s3.2))]) (.exit 0) (fun b4=> [(3, .hs 1003 0)]) (fun b4=> [(1003, .row 9 false 1 (List.map cS b4))]) rfl rfl (fun s3 x5 hr=> ?_) (fun b4 hr=> ?_)
 ·
  unfold v6a at hr
  refine rn tk 6 rfl ?_
  refine ac 8 hr rfl (fun c6 hr=> ?_) (fun c6 hr=> ?_)
  ·
   refine rn tk 2 rfl ?_
   refine jb hr (fun j7=> [(0, .i a0),(3, .hs 1003 0),(6, .agg [.i v1.1.n, .s v1.1.word, .i v1.2.1.n, .s v1.2.1.word, .i v1.2.2.n, .s v1.2.2.word]),(7, .i s3.1)]) (fun j7=> [(1003, .row 9 false 1 (List.map cS j7))]) (fun j7 hr=> ?_) (fun j7 hr=> ?_)
   ·
    refine rn tk 3 rfl ?_
    obtain ⟨v8,h9,hr⟩:=zaa hr
    refine wq (ev_aidxN (f:=zia.pc) (L:=([v1.1,v1.2.1,v1.2.2]:List zia)) rfl rfl qoa q4a rfl rfl (fun _=> rfl) h9) rfl rfl rfl ?_
    refine rn tk 9 rfl ?_
    refine wq (ev_iand rfl rfl) rfl rfl rfl ?_
    refine rn tk 3 rfl ?_
    refine ac 14 hr rfl (fun c10 hr=> ?_) (fun c10 hr=> ?_)
    ·
     refine rn tk 4 rfl ?_
     refine wz cS ([v8.word]:List Str) tk rfl rfl (fun _=> rfl) rfl rfl rfl ?_
     obtain ⟨v11,h12,hr⟩:=zaa hr
     refine wa tk h12 rfl rfl rfl rfl (fun _=> rfl) rfl rfl ?_
     refine rn tk 3 rfl ?_
     cases hr
     exact jn _ rfl rfl rfl
    ·
     refine rn tk 2 rfl ?_
     cases hr
     exact jn _ rfl rfl rfl
   ·
    refine rn tk 4 rfl ?_
    cases hr
    exact atc rfl rfl
  ·
   refine rn tk 2 rfl ?_
   cases hr
   exact ato rfl rfl rfl rfl
 ·
  refine rn tk 6 rfl ?_
  refine wnh tk rfl rfl rfl rfl ?_
  refine rn tk 3 rfl ?_
  refine ac 23 hr rfl (fun c13 hr=> ?_) (fun c13 hr=> ?_)
  ·
   refine rn tk 7 rfl ?_
   cases hr
   exact kr tk (.inr rfl) rfl rfl
  ·
   refine rn tk 5 rfl ?_
   refine JUa (d:=24) (F:=cS) (l:=b4) rfl rfl (hO ?_)
   obtain ⟨v14,h15,hr⟩:=zaa hr
   refine cl (Qqa _ _ _ h15) rfl rfl ?_
   refine rn tk 4 rfl ?_
   cases hr
   exact kr tk (.inr rfl) rfl rfl
theorem KWa (r:Str × Str × Str × Str × Str × Str × Str × Str) (hr:wDa=some r):Run Tryz.prog 148 [] (.agg [.s r.1, .s r.2.1, .s r.2.2.1, .s r.2.2.2.1, .s r.2.2.2.2.1, .s r.2.2.2.2.2.1, .s r.2.2.2.2.2.2.1, .s r.2.2.2.2.2.2.2]):=by
 unfold wDa at hr
 refine rf (fn:=Tryz.f148) ⟨Tryz.func148,rfl,by kernel_rfl⟩ rfl (fun _=> rfl) fun g0 hg=> ?_
 refine rn tk 7 rfl ?_
 refine wq (Yea (cs:= [.s (([104,101,108,108,111]:Str)), .s (([109,97,105,108]:Str)), .s (([114,99,112,116]:Str)), .s (([100,97,116,97]:Str)), .s (([99,104,117,110,107]:Str)), .s (([114,101,115,101,116]:Str)), .s (([110,111,111,112]:Str)), .s (([113,117,105,116]:Str))]) jFa zNa (.inr ⟨rfl,rfl⟩) (by kernel_rfl)) rfl rfl rfl ?_
 refine rn tk 4 rfl ?_
 cases hr
 exact kr tk (.inr rfl) rfl rfl
theorem KXa (a0:zta) (r:Str × zra) (hr:vRa a0=some r):Run Tryz.prog 123 [.agg [.i a0.Verb, .s a0.Name, .s a0.Address, .i a0.Size, .i a0.Notify, .bo a0.Last]] (.tup [.s r.1, .agg [.i r.2.Code, .i r.2.Index]]):=by
 unfold vRa at hr
 refine rf (fn:=Tryz.f123) ⟨Tryz.func123,rfl,by kernel_rfl⟩ rfl (fun _=> rfl) fun g0 hg=> ?_
 refine rn tk 11 rfl ?_
 obtain ⟨v1,h2,hr⟩:=zaa hr
 refine cl (Zma _ _ h2) rfl rfl ?_
 refine rn tk 7 rfl ?_
 obtain ⟨v3,h4,hr⟩:=zaa hr
 refine cl (zPa _ _ h4) rfl rfl ?_
 refine rn tk 2 rfl ?_
 refine ac 9 hr rfl (fun c5 hr=> ?_) (fun c5 hr=> ?_)
 ·
  refine rn tk 1 rfl ?_
  refine dr 2 [(2, .s (([]:Str))),(10, .agg [.i v1.Code, .i v1.Index])] mixed (by kernel_rfl) rfl rfl (pq tk rfl (.plain rfl) (pq tk rfl (.plain rfl) .nil)) rfl ?_
  refine rn tk 5 rfl ?_
  cases hr
  exact kr tk (.inr rfl) rfl rfl
 ·
  refine rn tk 3 rfl ?_
  obtain ⟨v6,h7,hr⟩:=zaa hr
  refine dr 4 [(14, .i ((w64 (a0.Verb - 1)))),(13, .i a0.Verb),(12, .ptr 1 0),(11, .agg [.s v6.1, .s v6.2.1, .s v6.2.2.1, .s v6.2.2.2.1, .s v6.2.2.2.2.1, .s v6.2.2.2.2.2.1, .s v6.2.2.2.2.2.2.1, .s v6.2.2.2.2.2.2.2])] mixed (by kernel_rfl) rfl rfl (.run (.plain rfl) (qVa (KWa v6 h7) rfl) (pq tk rfl (.plain rfl) (pq tk rfl (.plain rfl) (pq tk rfl (.plain rfl) .nil)))) rfl ?_
  obtain ⟨v8,h9,hr⟩:=zaa hr
  refine wq (ev_aidx (f:=cS) (L:=([v6.1,v6.2.1,v6.2.2.1,v6.2.2.2.1,v6.2.2.2.2.1,v6.2.2.2.2.2.1,v6.2.2.2.2.2.2.1,v6.2.2.2.2.2.2.2]:List Str)) rfl rfl jFa zNa rfl rfl (fun _=> rfl) h9 rfl) rfl rfl rfl ?_
  refine rn tk 3 rfl ?_
  refine jb hr (fun j10=> [(3, .ptr 3 0),(5, .s j10)]) (fun j10=> [(3, .cells [.i 0, .i 0])]) (fun j10 hr=> ?_) (fun j10 hr=> ?_)
  ·
   refine rn tk 13 rfl ?_
   refine ac 18 hr rfl (fun c11 hr=> ?_) (fun c11 hr=> ?_)
   ·
    refine rn tk 4 rfl ?_
    obtain ⟨v12,h13,hr⟩:=zaa hr
    refine wc h13 rfl rfl rfl ?_
    obtain ⟨v14,h15,hr⟩:=zaa hr
    refine wc h15 rfl rfl rfl ?_
    refine rn tk 3 rfl ?_
    cases hr
    exact jn _ rfl rfl rfl
   ·
    refine rn tk 6 rfl ?_
    refine ac 25 hr rfl (fun c16 hr=> ?_) (fun c16 hr=> ?_)
    ·
     refine rn tk 5 rfl ?_
     obtain ⟨v17,h18,hr⟩:=zaa hr
     refine wc h18 rfl rfl rfl ?_
     obtain ⟨v19,h20,hr⟩:=zaa hr
     refine wc h20 rfl rfl rfl ?_
     obtain ⟨v21,h22,hr⟩:=zaa hr
     refine wc h22 rfl rfl rfl ?_
     refine rn tk 10 rfl ?_
     refine ac 35 hr rfl (fun c23 hr=> ?_) (fun c23 hr=> ?_)
     ·
      refine rn tk 4 rfl ?_
      obtain ⟨v24,h25,hr⟩:=zaa hr
      refine cl (jja _ _ h25) rfl rfl ?_
      obtain ⟨v26,h27,hr⟩:=zaa hr
      refine wc h27 rfl rfl rfl ?_
      obtain ⟨v28,h29,hr⟩:=zaa hr
      refine wc h29 rfl rfl rfl ?_
      refine rn tk 3 rfl ?_
      cases hr
      exact jn _ rfl rfl rfl
     ·
      refine rn tk 2 rfl ?_
      cases hr
      exact jn _ rfl rfl rfl
    ·
     refine rn tk 6 rfl ?_
     refine ac 42 hr rfl (fun c30 hr=> ?_) (fun c30 hr=> ?_)
     ·
      refine rn tk 5 rfl ?_
      obtain ⟨v31,h32,hr⟩:=zaa hr
      refine wc h32 rfl rfl rfl ?_
      obtain ⟨v33,h34,hr⟩:=zaa hr
      refine wc h34 rfl rfl rfl ?_
      obtain ⟨v35,h36,hr⟩:=zaa hr
      refine wc h36 rfl rfl rfl ?_
      refine rn tk 10 rfl ?_
      refine ac 52 hr rfl (fun c37 hr=> ?_) (fun c37 hr=> ?_)
      ·
       refine rn tk 4 rfl ?_
       obtain ⟨v38,h39,hr⟩:=zaa hr
       refine cl (Kua _ _ h39) rfl rfl ?_
       obtain ⟨v40,h41,hr⟩:=zaa hr
       refine wc h41 rfl rfl rfl ?_
       obtain ⟨v42,h43,hr⟩:=zaa hr
       refine wc h43 rfl rfl rfl ?_
       refine rn tk 3 rfl ?_
       cases hr
       exact jn _ rfl rfl rfl
      ·
       refine rn tk 2 rfl ?_
       cases hr
       exact jn _ rfl rfl rfl
     ·
      refine rn tk 6 rfl ?_
      refine ac 59 hr rfl (fun c44 hr=> ?_) (fun c44 hr=> ?_)
      ·
       refine rn tk 5 rfl ?_
       obtain ⟨v45,h46,hr⟩:=zaa hr
       refine cl (jja _ _ h46) rfl rfl ?_
       obtain ⟨v47,h48,hr⟩:=zaa hr
       refine wc h48 rfl rfl rfl ?_
       obtain ⟨v49,h50,hr⟩:=zaa hr
       refine wc h50 rfl rfl rfl ?_
       refine rn tk 9 rfl ?_
       refine ac 68 hr rfl (fun c51 hr=> ?_) (fun c51 hr=> ?_)
       ·
        refine rn tk 2 rfl ?_
        obtain ⟨v52,h53,hr⟩:=zaa hr
        refine wc h53 rfl rfl rfl ?_
        refine rn tk 3 rfl ?_
        cases hr
        exact jn _ rfl rfl rfl
       ·
        refine rn tk 2 rfl ?_
        cases hr
        exact jn _ rfl rfl rfl
      ·
       refine rn tk 2 rfl ?_
       cases hr
       exact jn _ rfl rfl rfl
  ·
   refine rn tk 3 rfl ?_
   obtain ⟨v54,h55,hr⟩:=zaa hr
   refine cl (zGa _ h55) rfl rfl ?_
   refine rn tk 5 rfl ?_
   cases hr
   exact kr tk (.inr rfl) rfl rfl
theorem z4a (a0:zda) (a1:zta) (r:zda) (hr:zsa a0 a1=some r):RunS Tryz.prog 107 [.ptr 90000000 0, .agg [.i a1.Verb, .s a1.Name, .s a1.Address, .i a1.Size, .i a1.Notify, .bo a1.Last]] [(90000000, .cells [.s a0.Client.Name, .s a0.Client.Mail.Envelope.From, .l zca.pc a0.Client.Mail.Envelope.To, .s a0.Client.Mail.Envelope.Id, .l zfa.pc a0.Client.Mail.Message.Fields, .l cU a0.Client.Mail.Message.Body, .bo a0.Client.Pipelined, .l cU a0.Client.Buffer, .i a0.Client.Expected, .bo a0.Client.Whole, .bo a0.Client.Done, .hs 90000012 0, .l cU a0.content, .bo a0.chunk, .hs 90000015 0]),(90000012, .row 3 true 1 (List.map cI a0.Client.Results)),(90000015, .row 5 false 1 (List.map cU a0.out))] (.tup []) [(90000000, .cells [.s r.Client.Name, .s r.Client.Mail.Envelope.From, .l zca.pc r.Client.Mail.Envelope.To, .s r.Client.Mail.Envelope.Id, .l zfa.pc r.Client.Mail.Message.Fields, .l cU r.Client.Mail.Message.Body, .bo r.Client.Pipelined, .l cU r.Client.Buffer, .i r.Client.Expected, .bo r.Client.Whole, .bo r.Client.Done, .hs 90000012 0, .l cU r.content, .bo r.chunk, .hs 90000015 0]),(90000012, .row 3 true 1 (List.map cI r.Client.Results)),(90000015, .row 5 false 1 (List.map cU r.out))] 90000000 [90000012,90000015]:=by
 unfold zsa at hr
 refine rfS (fn:=Tryz.f107) (H:=90000999) (.ptr 90000000 0) ⟨Tryz.func107,rfl,by kernel_rfl⟩ rfl (hasT rfl) (.inl ⟨rfl,rfl⟩) rfl rfl rfl rfl fun g0 hg S sg T=> ?_
 refine rn tk 8 rfl ?_
 obtain ⟨v1,h2,hr⟩:=zaa hr
 refine cl (KXa _ _ h2) rfl rfl ?_
 refine rn tk 15 rfl ?_
 obtain ⟨v3,h4,hr⟩:=zaa hr
 refine wo (wea (k:=17) (l:=a0.out) (s:=v1.1) (lim:=140737488355328) rfl rfl rfl rfl zha zNa.u zua rfl h4) rfl ?_
 refine wz cU ([(13:UInt8),(10:UInt8)]:List UInt8) tk rfl rfl (fun _=> rfl) rfl rfl rfl ?_
 obtain ⟨v5,h6,hr⟩:=zaa hr
 refine wa tk h6 rfl rfl rfl rfl (fun _=> rfl) rfl rfl ?_
 refine rn tk 4 rfl ?_
 cases hr
 exact krS tk (.inl rfl) rfl rfl (zba rfl (zba rfl (zba rfl (zba rfl zga))))
theorem kja (a0:zda) (a1:Int) (r:zda) (hr:zva a0 a1=some r):RunS Tryz.prog 88 [.ptr 90000000 0, .i a1] [(90000000, .cells [.s a0.Client.Name, .s a0.Client.Mail.Envelope.From, .l zca.pc a0.Client.Mail.Envelope.To, .s a0.Client.Mail.Envelope.Id, .l zfa.pc a0.Client.Mail.Message.Fields, .l cU a0.Client.Mail.Message.Body, .bo a0.Client.Pipelined, .l cU a0.Client.Buffer, .i a0.Client.Expected, .bo a0.Client.Whole, .bo a0.Client.Done, .hs 90000012 0, .l cU a0.content, .bo a0.chunk, .hs 90000015 0]),(90000012, .row 3 true 1 (List.map cI a0.Client.Results)),(90000015, .row 5 false 1 (List.map cU a0.out))] (.tup []) [(90000000, .cells [.s r.Client.Name, .s r.Client.Mail.Envelope.From, .l zca.pc r.Client.Mail.Envelope.To, .s r.Client.Mail.Envelope.Id, .l zfa.pc r.Client.Mail.Message.Fields, .l cU r.Client.Mail.Message.Body, .bo r.Client.Pipelined, .l cU r.Client.Buffer, .i r.Client.Expected, .bo r.Client.Whole, .bo r.Client.Done, .hs 90000012 0, .l cU r.content, .bo r.chunk, .hs 90000015 0]),(90000012, .row 3 true 1 (List.map cI r.Client.Results)),(90000015, .row 5 false 1 (List.map cU r.out))] 90000000 [90000012,90000015]:=by
 unfold zva at hr
 refine rfS (fn:=Tryz.f88) (H:=90000999) (.ptr 90000000 0) ⟨Tryz.func88,rfl,by kernel_rfl⟩ rfl (hasT rfl) (.inl ⟨rfl,rfl⟩) rfl rfl rfl rfl fun g0 hg S sg T=> ?_
 refine rn tk 4 rfl ?_
 obtain ⟨v1,h2,hr⟩:=zaa hr
 refine wo (zBa (k:=6) (vUa a0 a1 v1 h2) rfl rfl (zba rfl (zba rfl (zba rfl zga)))) rfl ?_
 refine rn tk 6 rfl ?_
 obtain ⟨v3,h4,hr⟩:=zaa hr
 refine wo (zBa (k:=9) (z4a v1 ((zta.mk 8 (([]:Str)) (([]:Str)) 0 0 false)) v3 h4) rfl rfl (zba rfl (zba rfl (zba rfl zga)))) rfl ?_
 refine rn tk 9 rfl ?_
 cases hr
 exact krS tk (.inl rfl) rfl rfl (zba rfl (zba rfl (zba rfl (zba rfl zga))))
theorem ZTa (a0:List UInt8) (a1:List UInt8) (r:Bool) (hr:kPa a0 a1=some r):Run Tryz.prog 126 [.l cU a0, .l cU a1] (.bo r):=by
 unfold kPa at hr
 refine yya (fn:=Tryz.f126) ⟨Tryz.func126,rfl,by kernel_rfl⟩ rfl (fun _=> rfl) fun g0 hg=> ?_
 refine kVa ?_
 refine zFa ?_
 refine zja rfl (zma (d:=4) rfl rfl kga) ?_
 refine zQa ?_
 refine zza ?_
 obtain ⟨j1,hx,hy⟩:=zaa hr
 refine yTa (fun j1=> [(4, .bo j1)]) (fun j1=> []) (fun z=> j1=z) ?_ ?_
 ·have hr:=hx
  clear hx hy
  refine zFa ?_
  refine zja rfl (zma (d:=5) rfl rfl zMa) ?_
  refine zja rfl (zma (d:=6) rfl rfl (v0a (f:=cU) rfl zha.u)) ?_
  refine zja rfl (zma (d:=7) rfl rfl zMa) ?_
  refine zja rfl (zma (d:=8) rfl rfl (v0a (f:=cU) rfl zha.u)) ?_
  refine zja rfl (zma (d:=9) rfl rfl (kpb rfl rfl)) ?_
  refine zja rfl (zma (d:=10) rfl rfl zMa) ?_
  refine j5a (decide ((a1.length:Int)≤(a0.length:Int))) (fun c2=> ?_) (fun c2=> ?_)
  ·replace hr:=K1a c2 hr
   refine zOa (d:=10) rfl rfl rfl c2 (zma (d:=11) rfl rfl zMa) ?_
   refine zOa (d:=10) rfl rfl rfl c2 (zma (d:=12) rfl rfl zMa) ?_
   refine zOa (d:=10) rfl rfl rfl c2 (zma (d:=13) rfl rfl (v0a (f:=cU) rfl zha.u)) ?_
   obtain ⟨v3,h4,hr⟩:=zaa hr
   refine zOa (d:=10) rfl rfl rfl c2 (zma (d:=14) rfl rfl (Y7a (F:=cU) rfl rfl zha zua (fun _=> rfl) h4)) ?_
   refine zOa (d:=10) rfl rfl rfl c2 (zma (d:=15) rfl rfl zMa) ?_
   obtain ⟨v5,h6,hr⟩:=zaa hr
   refine zOa (d:=10) rfl rfl rfl c2 (vFa (k:=16) (jTa v3 a1 v5 h6) rfl rfl) ?_
   refine zja rfl (zma (d:=17) rfl rfl (jta rfl c2)) ?_
   refine zja rfl (zma (d:=4) rfl rfl kga) ?_
   refine zQa ?_
   cases hr
   exact kIa _ rfl (zea rfl zwa) zga
  ·replace hr:=K2a c2 hr
   refine zYa (d:=10) rfl rfl rfl c2 ?_
   refine zYa (d:=10) rfl rfl rfl c2 ?_
   refine zYa (d:=10) rfl rfl rfl c2 ?_
   refine zYa (d:=10) rfl rfl rfl c2 ?_
   refine zYa (d:=10) rfl rfl rfl c2 ?_
   refine zYa (d:=10) rfl rfl rfl c2 ?_
   refine zja rfl (zma (d:=17) rfl rfl (jua rfl c2)) ?_
   refine zja rfl (zma (d:=4) rfl rfl kga) ?_
   refine zQa ?_
   cases hr
   exact kIa _ rfl (zea rfl zwa) zga
 ·rintro _ rfl
  have hr:=hy
  clear hx hy
  refine yOa ?_
  cases hr
  exact zAb rfl (.cons (jwa rfl) .nil) rfl
end Go.Proofs.YtjnmamghadpedaaGreatDoor
