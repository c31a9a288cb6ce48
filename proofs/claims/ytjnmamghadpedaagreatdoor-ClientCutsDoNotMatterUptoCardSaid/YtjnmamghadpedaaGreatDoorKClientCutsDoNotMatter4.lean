/- Part 4 of the proof of the law ClientCutsDoNotMatter: what it needs. -/
import Derived.Test.YtjnmamghadpedaaGreatDoorKClientCutsDoNotMatter3
import Derived.Shelf.Strings.Builder1
import Derived.Shelf.Strings.Builder2
import Derived.Shelf.Strings.OnBuilder
import Derived.Shelf.Small.Utf8
import Derived.Shelf.Small.Strs
import Derived.Shelf.Strings.BuilderF
import Derived.Shelf.Strconv.Atoi
import Derived.Shelf.Strconv.Itoa0
import Derived.Shelf.Strconv.Itoa1
import Derived.Shelf.LaysM
import Derived.Shelf.Strconv.Itoa2
import Derived.Shelf.Strconv.Itoa3
import Derived.Shelf.Strconv.AtoiErrFast
import Derived.Shelf.Strconv.ParseIntEmpty
import Derived.Shelf.Strconv.AtoiFail
import Derived.Shelf.Strconv.Clone
import Derived.Shelf.Strconv.SyntaxError
import Derived.Shelf.LaysC
import Derived.Shelf.Strconv.ToError
import Derived.Shelf.Strconv.AtoiErr
import Derived.Shelf.Strconv.ErrVar
import Derived.Shelf.Strings.Search1
import Derived.Shelf.Strings.Search2
import Derived.Shelf.Strings.Search3
import Derived.Shelf.Strings.Cut
import Derived.Shelf.Strings.Shaped
import Derived.Shelf.Strings.Prefix
import Derived.Shelf.Strings.Runes
import Derived.Shelf.Strings.IndexAny
import Derived.Shelf.Strings.AsciiSet
import Derived.Shelf.Strings.IndexAnyAll
import Derived.Ground.Names2Prog
import Derived.Shelf.Slices.Clone
import Derived.Shelf.Bytes.SlIndexSmall
import Derived.Shelf.Bytes.SlIndexAt
import Derived.Shelf.Bytes.SlSearch0
import Derived.Shelf.Bytes.SlSearch1
import Derived.Shelf.Bytes.SlSearch2
import Derived.Shelf.Bytes.SlIndexWhole
import Derived.Ground.SlgnProg
import Derived.Shelf.SlicesE.Clone
import Derived.Shelf.Bytes.SlSmallAll
import Derived.Shelf.Bytes.SlEqualAll
import Derived.Shelf.Bytes.Small
import Derived.Shelf.Bytes.IndexByte
import Derived.Test.YtjnmamghadpedaaGreatDoorProg
set_option linter.unusedVariables false
set_option linter.unusedSimpArgs false
namespace Go.Proofs.YtjnmamghadpedaaGreatDoor
open Go.RowKit
set_option maxHeartbeats 1000000
set_option maxRecDepth 20000
structure Ran (t:Talk) (ls:List Str) (p:Talk × List Str):Prop where
 inv:CInv p.1.C
 same:p.1.C.Name=t.C.Name∧p.1.C.Mail=t.C.Mail∧p.1.C.Pipelined=t.C.Pipelined
 stays:QIa t.C.Results p.1.C.Results
 opn:p.1.C.Done=true∨(p.1.C.Done=false∧COpn p.1.C)
 tail:∃q,ls=q++p.2
theorem ran_mono {t u:Talk} {ls q:List Str} {p:Talk × List Str} (h:WQa t u) (r:Ran u q p) (hq:∃z,ls=z++q):Ran t ls p:=by
 obtain ⟨z,hz⟩:=hq
 obtain ⟨y,hy⟩:=r.tail
 exact ⟨r.inv,⟨r.same.1.trans h.same.1,r.same.2.1.trans h.same.2.1,r.same.2.2.trans h.same.2.2⟩,Qla h.stays r.stays,r.opn,z++y,by rw [hz,hy];simp⟩
theorem V7a:∀(ls acc:List Str) (t:Talk),CInv t.C→COpn t.C→t.C.Done=false→Ran t (acc++ls) (runP t acc ls)
 | [],acc,t,iv,op,hd=> ⟨iv,⟨rfl,rfl,rfl⟩,wha _, .inr ⟨hd,op⟩, [],by simp [runP]⟩
 | x::r,acc,t,iv,op,hd=> by
  rw [runP]
  have hl:=Vga iv
  have hh:=j0a iv op hd (qta (acc++ [x])).1
  by_cases hb:badL acc x
  ·rw [if_pos hb]
   exact ⟨hl.inv,hl.same,hl.stays, .inl rfl,acc++x::r,by simp⟩
  rw [if_neg hb]
  by_cases hc:vCa (acc++ [x])=0
  ·rw [if_pos hc]
   by_cases hdn:(k8a t (qta (acc++ [x])).1).C.Done=true
   ·rw [if_pos hdn]
    exact ⟨hh.inv,hh.same,hh.stays, .inl hdn,acc++x::r,by simp⟩
   ·rw [if_neg hdn]
    rcases hh.opn with h | ⟨hd2,op2⟩
    ·exact absurd h hdn
    exact ran_mono hh (V7a r [] _ hh.inv op2 hd2) ⟨acc++ [x],by simp⟩
  ·rw [if_neg hc]
   have:=V7a r (acc++ [x]) t iv op hd
   simpa using this
theorem ZBa {c:zia} (o:Kya c) {d:List UInt8} (h4:c.Buffer.length+d.length≤40000):
  Kya (kTa c d).C∧QIa c.Results (kTa c d).C.Results∧(kTa c d).C.Buffer.length≤c.Buffer.length+d.length∧((kTa c d).C.Done=true→(kTa c d).C.Buffer= []):=by
 obtain ⟨hj,hl,hc⟩:=YPa o (d:=d) h4
 have small:∀u:zia,u.Name=c.Name→u.Mail=c.Mail→u.Results.length=u.Mail.Envelope.To.length→u.Buffer.length≤40000→wTa u:=by
  intro u h1 h2 h3 h5
  have:=(kwa o.inv.good.mail).many
  exact ⟨by rw [h1];exact o.small.name,by rw [h2];exact o.small.env,by rw [h2];exact o.small.msg,by rw [h3,h2];omega,by omega⟩
 unfold kTa
 cases hdn:c.Done with
 | true=>
  rw [if_pos rfl]
  exact ⟨⟨inv_tb (t:=⟨c, []⟩) o.inv [],fun h=> (by rw [show (tb ⟨c, []⟩ []).C.Done=c.Done from rfl,hdn] at h;cases h),(by show 0≤40000;omega),small _ rfl rfl o.inv.len (by show 0≤40000;omega)⟩,wha _,by show 0≤_;omega,fun _=> rfl⟩
 | false=>
  rw [if_neg (by decide)]
  have r:=V7a (fl [] (c.Buffer++d)).1 [] ⟨c, []⟩ o.inv (o.opn hdn) hdn
  generalize runP ⟨c, []⟩ [] (fl [] (c.Buffer++d)).1=p at r
  obtain ⟨q,hq⟩:=r.tail
  have hfl:(zBa (fl [] (c.Buffer++d)).1).length=(zBa q).length+(zBa p.2).length:=by
   rw [List.nil_append] at hq
   have:=congrArg (fun l=> (zBa l).length) hq
   simp only [ZAa,List.length_append] at this
   exact this
  have hjl:=congrArg List.length hj
  simp only [List.length_append] at hjl hl
  have hB:(endB p (fl [] (c.Buffer++d)).2).C.Buffer.length≤c.Buffer.length+d.length:=by
   show (if p.1.C.Done=true then [] else zBa p.2++(fl [] (c.Buffer++d)).2).length≤_
   split
   ·show 0≤_;omega
   ·simp only [List.length_append];omega
  refine ⟨⟨inv_tb r.inv _,fun h=> ?_,by omega,small _ r.same.1 r.same.2.1 r.inv.len (by omega)⟩,r.stays,hB,fun h=> ?_⟩
  ·rcases r.opn with h2 | ⟨_,h2⟩
   ·rw [show (endB p (fl [] (c.Buffer++d)).2).C.Done=p.1.C.Done from rfl,h2] at h;cases h
   ·exact opn_tb h2 _
  ·show (if p.1.C.Done=true then [] else _)=_
   rw [if_pos (show p.1.C.Done=true from h)]
def pre (o:List UInt8) (t:Talk):Talk:=⟨t.C,o++t.Out⟩
theorem jpa (o x:List UInt8) (c:zqa):yta (o++x) c=o++yta x c:=by unfold yta;simp
theorem kWb (o:List UInt8) (t:Talk) (k:Nat):askP (pre o t) k=pre o (askP t k):=by
 unfold askP
 by_cases k1:k=1
 ·rw [if_pos k1,if_pos k1];unfold pre;rw [jpa]
 rw [if_neg k1,if_neg k1]
 by_cases k2:k=2
 ·rw [if_pos k2,if_pos k2];unfold pre;rw [jpa]
 rw [if_neg k2,if_neg k2]
 unfold pre
 dsimp only
 cases t.C.Mail.Envelope.To[k - 3]? with
 | some r=> dsimp only;rw [jpa]
 | none=>
  dsimp only
  cases rawP t.C.Mail.Message with
  | true=> rw [if_pos rfl,if_pos rfl,jpa];simp
  | false=> rw [if_neg (by decide),if_neg (by decide),jpa]
theorem Jsa (o:List UInt8):∀(m k:Nat) (t:Talk),w9a m k (pre o t)=pre o (w9a m k t)
 | 0,_,_=> rfl
 | m+1,k,t=> by show w9a m (k+1) (askP (pre o t) k)=_;rw [kWb,Jsa o m];rfl
theorem on1_pre (o:List UInt8) (t:Talk) (e:Nat):onP1 (pre o t) e=pre o (onP1 t e):=by
 unfold onP1
 show (if t.C.Pipelined=false∨e=0 then askP (pre o (setE t ((e+1:Nat):Int))) (e+1) else if e=1 then w9a (many t+2) 2 (pre o (setE t ((e+1:Nat):Int))) else pre o (setE t ((e+1:Nat):Int)))=_
 rw [kWb,Jsa]
 split
 ·rfl
 ·split <;> rfl
theorem Via (o:List UInt8) (t:Talk) (e:Nat):kYa (pre o t) e=pre o (kYa t e):=by
 unfold kYa
 rw [on1_pre]
 show (if e+1=many t+3∧rawP t.C.Mail.Message=true then _ else _)=_
 split <;> rfl
theorem y9a (o:List UInt8) (t:Talk) (r:Int):jKa (pre o t) r=pre o (jKa t r):=by
 unfold jKa
 show (⟨(restP t r).C,yta (o++t.Out) J7a⟩:Talk)=_
 rw [jpa]
 rfl
theorem rcpt_pre (o:List UInt8) (t:Talk) (k:Int) (e:Nat):kMa (pre o t) k e=pre o (kMa t k e):=by
 unfold kMa
 split <;> rfl
theorem body_pre (o:List UInt8) (t:Talk):bodyT (pre o t)=pre o (bodyT t):=by
 unfold bodyT pre
 simp only [List.append_assoc]
 rfl
theorem hear_pre (o:List UInt8) (t:Talk) (k:Int) (e:Nat):Qka (pre o t) k e=pre o (Qka t k e):=by
 unfold Qka
 rw [rcpt_pre]
 by_cases c1:e≤2
 ·rw [if_pos c1,if_pos c1]
  by_cases hk:k=2
  ·rw [if_pos hk,if_pos hk,Via]
  ·rw [if_neg hk,if_neg hk,y9a]
 rw [if_neg c1,if_neg c1]
 by_cases c2:e≤many t+2
 ·rw [if_pos (show e≤many (pre o t)+2 from c2),if_pos c2]
  by_cases c3:e=many t+2∧t.C.Pipelined=false∧anyO (kMa t k e).C.Results=false
  ·rw [if_pos (show e=many (pre o t)+2∧(pre o t).C.Pipelined=false∧anyO (pre o (kMa t k e)).C.Results=false from c3),if_pos c3,y9a]
  ·rw [if_neg (show ¬(e=many (pre o t)+2∧(pre o t).C.Pipelined=false∧anyO (pre o (kMa t k e)).C.Results=false) from c3),if_neg c3,Via]
 rw [if_neg (show ¬e≤many (pre o t)+2 from c2),if_neg c2]
 by_cases c3:e=many t+3
 ·rw [if_pos (show e=many (pre o t)+3 from c3),if_pos c3]
  by_cases hk:k=3
  ·rw [if_pos hk,if_pos hk]
   by_cases ha:anyO t.C.Results=false
   ·rw [if_pos (show anyO (pre o t).C.Results=false from ha),if_pos ha];rfl
   ·rw [if_neg (show ¬anyO (pre o t).C.Results=false from ha),if_neg ha,body_pre]
  ·rw [if_neg hk,if_neg hk,y9a]
 rw [if_neg (show ¬e=many (pre o t)+3 from c3),if_neg c3]
 by_cases hk:k=2
 ·rw [if_pos hk,if_pos hk,y9a]
 ·rw [if_neg hk,if_neg hk,y9a]
theorem kXb (o:List UInt8) (t:Talk) (r:kta):k8a (pre o t) r=pre o (k8a t r):=hear_pre o t _ _
theorem YQa (o:List UInt8):∀(ls acc:List Str) (t:Talk),runP (pre o t) acc ls=(pre o (runP t acc ls).1,(runP t acc ls).2)
 | [],acc,t=> rfl
 | x::r,acc,t=> by
  rw [runP,runP,kXb]
  by_cases hb:badL acc x
  ·rw [if_pos hb,if_pos hb];rfl
  rw [if_neg hb,if_neg hb]
  by_cases hc:vCa (acc++ [x])=0
  ·rw [if_pos hc,if_pos hc]
   by_cases hd:(k8a t (qta (acc++ [x])).1).C.Done=true
   ·rw [if_pos (show (pre o (k8a t (qta (acc++ [x])).1)).C.Done=true from hd),if_pos hd]
   ·rw [if_neg (show ¬(pre o (k8a t (qta (acc++ [x])).1)).C.Done=true from hd),if_neg hd]
    exact YQa o r [] _
  ·rw [if_neg hc,if_neg hc]
   exact YQa o r _ t
theorem YRa (ms:List Str):∀(ls acc:List Str) (t:Talk),t.C.Done=false→runP t acc (ls++ms)=if (runP t acc ls).1.C.Done=true then runP t acc ls else runP (runP t acc ls).1 (runP t acc ls).2 ms
 | [],acc,t,hd=> by rw [List.nil_append,runP,if_neg (by rw [hd];decide)]
 | x::r,acc,t,hd=> by
  rw [List.cons_append,runP,runP]
  by_cases hb:badL acc x
  ·rw [if_pos hb,if_pos hb,if_pos (show (QJa t).C.Done=true from rfl)]
  rw [if_neg hb,if_neg hb]
  by_cases hc:vCa (acc++ [x])=0
  ·rw [if_pos hc,if_pos hc]
   by_cases hd2:(k8a t (qta (acc++ [x])).1).C.Done=true
   ·rw [if_pos hd2,if_pos hd2,if_pos hd2]
   ·rw [if_neg hd2,if_neg hd2]
    exact YRa ms r [] _ (by simpa using hd2)
  ·rw [if_neg hc,if_neg hc]
   exact YRa ms r _ t hd
def zfb (l:List Str):Prop:=∀p x q,l=p++x::q→¬badL p x∧vCa (p++ [x])≠0
theorem kYb {l:List Str} {x:Str} (h:zfb l) (h1:¬badL l x) (h2:vCa (l++ [x])≠0):zfb (l++ [x]):=by
 intro p y q he
 rcases List.eq_nil_or_concat q with rfl | ⟨q',z,rfl⟩
 ·have:=List.append_inj' he rfl
  obtain ⟨rfl,h3⟩:=this
  cases h3
  exact ⟨h1,h2⟩
 ·have:l++ [x]=(p++y::q')++ [z]:=by rw [he];simp
  exact h p y q' (List.append_inj' this rfl).1
theorem V8a:∀(ls acc:List Str) (t:Talk),zfb acc→zfb (runP t acc ls).2
 | [],acc,t,h=> h
 | x::r,acc,t,h=> by
  have hn:zfb []:=fun p y q he=> by simp at he
  rw [runP]
  by_cases hb:badL acc x
  ·rw [if_pos hb];exact hn
  rw [if_neg hb]
  by_cases hc:vCa (acc++ [x])=0
  ·rw [if_pos hc]
   by_cases hd2:(k8a t (qta (acc++ [x])).1).C.Done=true
   ·rw [if_pos hd2];exact hn
   ·rw [if_neg hd2];exact V8a r [] _ hn
  ·rw [if_neg hc]
   exact V8a r _ t (kYb h hb hc)
theorem WYa (t:Talk) (ls:List Str):∀(q p:List Str),zfb (p++q)→runP t p (q++ls)=runP t (p++q) ls
 | [],p,h=> by simp
 | x::q,p,h=> by
  obtain ⟨h1,h2⟩:=h p x q rfl
  rw [List.cons_append,runP,if_neg h1,if_neg h2,WYa t ls q (p++ [x]) (by simpa using h)]
  simp
theorem zgb {c:zia} (o:Kya c) {a b:List UInt8}:kTa c (a++b)=pre (kTa c a).Out (kTa (kTa c a).C b):=by
 unfold kTa
 cases hdn:c.Done with
 | true=> rw [if_pos rfl,if_pos rfl,if_pos (show (tb ⟨c, []⟩ []).C.Done=true from hdn)];rfl
 | false=>
  rw [if_neg (by decide),if_neg (by decide)]
  have hm:=fl_more (c.Buffer++a) b
  rw [List.append_assoc] at hm
  rw [hm]
  dsimp only
  have r:=V7a (fl [] (c.Buffer++a)).1 [] ⟨c, []⟩ o.inv (o.opn hdn) hdn
  have hct:=V8a (fl [] (c.Buffer++a)).1 [] ⟨c, []⟩ (fun p y q he=> by simp at he)
  rw [YRa _ _ _ _ hdn]
  have hno:∀x∈(runP ⟨c, []⟩ [] (fl [] (c.Buffer++a)).1).2,noCR x=true:=by
   obtain ⟨q,hq⟩:=r.tail
   intro x hx
   refine Zza (c.Buffer++a) x ?_
   rw [List.nil_append] at hq
   rw [hq]
   simp [hx]
  generalize runP ⟨c, []⟩ [] (fl [] (c.Buffer++a)).1=p at r hct hno
  generalize (fl [] (c.Buffer++a)).2=rest
  by_cases hd:p.1.C.Done=true
  ·rw [if_pos hd,if_pos (show (endB p rest).C.Done=true from hd)]
   unfold endB
   rw [if_pos hd,if_pos hd]
   show _=pre p.1.Out (tb ⟨(tb p.1 []).C, []⟩ [])
   unfold pre tb
   simp
  ·rw [if_neg hd,if_neg (show ¬(endB p rest).C.Done=true from hd)]
   have hB:(endB p rest).C.Buffer=zBa p.2++rest:=by show (if p.1.C.Done=true then [] else zBa p.2++rest)=_;rw [if_neg hd]
   rw [hB,List.append_assoc,V5a p.2 hno]
   dsimp only
   rw [WYa _ _ p.2 [] (by simpa using hct),List.nil_append]
   have e1:(⟨(endB p rest).C, []⟩:Talk)=tb ⟨p.1.C, []⟩ (zBa p.2++rest):=by rw [←hB];rfl
   have e2:p.1=pre p.1.Out ⟨p.1.C, []⟩:=by unfold pre;simp
   have e3:(endB p rest).Out=p.1.Out:=rfl
   rw [e1,kPb,e3]
   conv=> lhs;rw [e2,YQa]
   rfl
theorem start_ok {n:Str} {m:kca} {p:Bool} (h:(vxa n m).Code=0) (hn:n.length≤1048576) (h1:Zra m.Envelope) (h2:y5a m.Message):Kya (Jqa n m p):=by
 obtain ⟨a,b⟩:=Z4a h
 have hm:=(kwa b).many
 refine ⟨⟨⟨a,b⟩,by show (List.replicate _ _).length=_;simp [Jqa],Int.le_refl 0,by show (0:Int)≤(m.Envelope.To.length:Int)+4;omega,fun r hr=> ?_⟩,fun _=> ⟨?_, ?_,fun i x hx _=> ?_⟩,by show 0≤40000;omega,⟨hn,h1,h2,by show (List.replicate _ _).length≤_;simp;omega,by show 0≤_;omega⟩⟩
 ·rw [(List.mem_replicate.1 hr).2];decide
 ·show false=(decide ((0:Int)=(m.Envelope.To.length:Int)+4) || (rawP m.Message && p && decide ((2:Int)≤0)))
  rw [decide_eq_false (by omega),decide_eq_false (show ¬(2:Int)≤0 by decide)]
  simp
 ·rintro ⟨_,h⟩
  have h' :(0:Int)=(m.Envelope.To.length:Int)+3:=h
  omega
 ·exact (List.mem_replicate.1 (List.mem_of_getElem? hx)).2
def sM:kca:=⟨⟨[115,64,120], [⟨[97,64,121],1⟩], [55]⟩,⟨[], []⟩⟩
theorem kZb:Zoa [[97,64,121]]=some sM:=by
 unfold Zoa
 rw [kaa (show yra [[97,64,121]] (0, [])=some (.cont (1, [⟨[97,64,121],1⟩])) from rfl)]
 rw [zOa (show yra [[97,64,121]] (1, [⟨[97,64,121],1⟩])=some (.out [⟨[97,64,121],1⟩]) from rfl)]
 rfl
theorem KKa:Zra sM.Envelope∧y5a sM.Message:=
 ⟨⟨by decide,by decide,by decide,fun a ha=> by
  have:∀a∈sM.Envelope.To,a.Address.length≤1048576:=by decide
  exact this a ha⟩,⟨by decide,fun f hf=> by cases hf⟩,by decide⟩
def sC:zia:=Jqa [99] sM false
def d1:List UInt8:= [50,50,48,32,109,120,13,10]
def d2:List UInt8:= [50,53,48,45,109,120,13,10,50,53,48,32,111,107,13,10]
theorem k0b:(vxa [99] sM).Code=0:=by kernel_rfl
theorem sC_ok:Kya sC:=start_ok k0b (by decide) KKa.1 KKa.2
def sC1:zia:=⟨[99],sM,false, [],1,false,false, [0]⟩
def sC2:zia:=⟨[99],sM,false, [],2,false,false, [0]⟩
theorem s_one:kTa sC d1=⟨sC1, [104,101,108,108,111,32,99,13,10]⟩:=by kernel_rfl
end Go.Proofs.YtjnmamghadpedaaGreatDoor
namespace Go.Proofs.YtjnmamghadpedaaGreatDoor
open Go.RowKit
set_option maxHeartbeats 1000000
set_option maxRecDepth 20000
theorem dec_2:Lib.decDigits 2= [50]:=w8a (by omega)
theorem s_cmd:cmdT (J8a [115,64,120] 2)= [109,97,105,108,32,60,115,64,120,62,32,115,105,122,101,61,50]:=by
 unfold cmdT argT J8a
 simp only [Int.reduceEq,if_true,if_false]
 rw [if_neg (by decide),show ((2:Nat):Int).toNat=2 from rfl,dec_2]
 rfl
theorem s_two:kTa sC1 d2=⟨sC2, [109,97,105,108,32,60,115,64,120,62,32,115,105,122,101,61,50,13,10]⟩:=by
 have hf:fl [] (sC1.Buffer++d2)=([[50,53,48,45,109,120], [50,53,48,32,111,107]], []):=by kernel_rfl
 have hb1:¬badL [] [50,53,48,45,109,120]:=by decide+kernel
 have hc1:¬vCa ([]++ [[50,53,48,45,109,120]])=0:=by decide+kernel
 have hb2:¬badL [[50,53,48,45,109,120]] [50,53,48,32,111,107]:=by decide+kernel
 have hc2:vCa ([[50,53,48,45,109,120]]++ [[50,53,48,32,111,107]])=0:=by decide+kernel
 have hp:qta ([[50,53,48,45,109,120]]++ [[50,53,48,32,111,107]])=(⟨250, [[109,120], [111,107]]⟩,2,⟨0,0⟩):=by kernel_rfl
 have hh:k8a ⟨sC1, []⟩ ⟨250, [[109,120], [111,107]]⟩=⟨sC2,yta [] (J8a [115,64,120] 2)⟩:=by kernel_rfl
 unfold kTa
 rw [if_neg (by decide),hf]
 rw [runP,if_neg hb1,if_neg hc1,runP,List.nil_append,if_neg hb2,if_pos hc2,hp,hh,if_neg (by decide),runP]
 unfold endB yta
 rw [s_cmd]
 rfl
theorem s_ok1:Kya sC1:=by
 have h:=(ZBa sC_ok (d:=d1) (by decide)).1
 rw [s_one] at h
 exact h
theorem s_ok2:Kya sC2:=by
 have h:=(ZBa s_ok1 (d:=d2) (by decide)).1
 rw [s_two] at h
 exact h
theorem ZCa {c:zia} (o:Kya c) {d:List UInt8} (h:c.Buffer.length+d.length≤40000):QKa c d=((kTa c d).C,(kTa c d).Out,⟨0,0⟩):=by
 unfold QKa
 rw [kVb o,if_neg (by simp),if_neg (by omega)]
theorem YSa:jma=some true:=by
 unfold jma
 rw [kZb]
 simp only [Option.bind_some]
 rw [Start_eq _ _ _ (by decide) KKa.1 KKa.2,show Jra [99] sM false=(sC,⟨0,0⟩) by unfold Jra;rw [if_neg (by simp [k0b])];rfl]
 simp only [Option.bind_some]
 rw [show ([(50:UInt8),(50:UInt8),(48:UInt8),(32:UInt8),(109:UInt8),(120:UInt8),(13:UInt8),(10:UInt8)]:List UInt8)=d1 from rfl,Qqa _ _ sC_ok.small (by decide),ZCa sC_ok (by decide),s_one]
 simp only [Option.bind_some]
 rw [show ([(50:UInt8),(53:UInt8),(48:UInt8),(45:UInt8),(109:UInt8),(120:UInt8),(13:UInt8),(10:UInt8),(50:UInt8),(53:UInt8),(48:UInt8),(32:UInt8),(111:UInt8),(107:UInt8),(13:UInt8),(10:UInt8)]:List UInt8)=d2 from rfl,Qqa _ _ s_ok1.small (by decide),ZCa s_ok1 (by decide),s_two]
 simp only [Option.bind_some]
 rw [close_eq _ s_ok2.small,show Jpa sC2=(V6a sC2,⟨0,0⟩) by unfold Jpa;rw [kVb s_ok2,if_neg (by simp)]]
 simp only [Option.bind_some]
 rw [show (V6a sC2).Results= [2] by kernel_rfl,show (V6a sC2).Done=true from rfl,WXa [2] (by decide)]
 kernel_rfl
theorem zhb {c:zia} (h:zia.bk c≤1048576):wTa c:=by
 unfold zia.bk kca.bk at h
 dsimp only at h
 have h1:=jYa (bk:=fun _:UInt8=> 1) (fun x=> by simp) c.Buffer
 have h2:=jYa (bk:=fun _:Int=> 1) (fun x=> by simp) c.Results
 exact ⟨by omega,kdb (by omega),knb (by omega),by omega,by omega⟩
theorem same_ok {c:zia} (s:wTa c):qSa c c=some true:=kTb c s.res (by obtain ⟨_,_,h,_⟩:=s.env;exact h) s.msg.1.1
end Go.Proofs.YtjnmamghadpedaaGreatDoor
namespace Go.Proofs.YtjnmamghadpedaaGreatDoor
open Go.RowKit
set_option maxHeartbeats 1000000
def bndR:Nat→Nat
 | 0=> 0
 | n+1=> bndR n+900000
theorem WZa (n:Nat):bndR (n+1)=bndR n+900000:=rfl
theorem k1b:∀n,bndR n=n * 900000
 | 0=> rfl
 | n+1=> by rw [WZa,k1b n,Nat.succ_mul]
theorem Vja {c:zia} (o:Kya c) (d:List UInt8) (h:c.Buffer.length+d.length≤40000):(kTa c d).Out.length≤90000000000:=by
 unfold kTa
 cases hd:c.Done with
 | true=> rw [if_pos rfl];show 0≤_;omega
 | false=>
  rw [if_neg (by decide)]
  have hl:∀(ls acc:List Str) (t:Talk),CInv t.C→COpn t.C→t.C.Done=false→(runP t acc ls).1.Out.length≤t.Out.length+bndR ls.length:=by
   intro ls
   induction ls with
   | nil=> intro acc t _ _ _;show t.Out.length≤_;omega
   | cons x r ih=>
    intro acc t iv op hd
    rw [runP]
    have h1:=(Vga iv).out
    have hh:=j0a iv op hd (qta (acc++ [x])).1
    have h2:=hh.out
    have h3:=WZa r.length
    simp only [List.length_cons]
    split
    ·dsimp only;omega
    ·split
     ·split
      ·dsimp only;omega
      ·rename_i hdn
       rcases hh.opn with h | ⟨hd2,op2⟩
       ·exact absurd h hdn
       have:=ih [] _ hh.inv op2 hd2
       omega
     ·have:=ih (acc++ [x]) t iv op hd
      omega
  obtain ⟨_,_,hc⟩:=YPa o (d:=d) h
  have:=hl (fl [] (c.Buffer++d)).1 [] ⟨c, []⟩ o.inv (o.opn hd) hd
  show (runP ⟨c, []⟩ [] (fl [] (c.Buffer++d)).1).1.Out.length≤_
  have e0:(⟨c, []⟩:Talk).Out.length=0:=rfl
  have e4:=k1b (fl [] (c.Buffer++d)).1.length
  omega
theorem v2a (a0:zia) (a1:List UInt8) (a2:List UInt8) (o0:zia.ok a0) (o1:okL (fun _=> True) a1) (o2:okL (fun _=> True) a2) (hk:zia.bk a0+bkL (fun _=> 1) a1+bkL (fun _=> 1) a2≤1048576):kxa a0 a1 a2=some true:=by
 have hs:wTa a0:=zhb (by omega)
 have hd1:=jYa (bk:=fun _:UInt8=> 1) (fun x=> by simp) a1
 have hd2:=jYa (bk:=fun _:UInt8=> 1) (fun x=> by simp) a2
 have hb:=hs.buf
 unfold kxa
 rw [qHa (by simp;omega)]
 simp only [Option.bind_some,List.nil_append]
 rw [qHa (by omega)]
 simp only [Option.bind_some]
 rw [Qqa a0 a1 hs (by omega),Qqa a0 (a1++a2) hs (by simp;omega),YSa]
 simp only [Option.bind_some,Bool.not_true,cond_false,cond_true]
 by_cases h0:(cliF a0).Code=0
 ·obtain ⟨o,hz⟩:=kUb hs h0
  by_cases h4:40000 < a0.Buffer.length+a1.length
  ·have ef:QKa a0 a1=(noC, [],⟨1, -1⟩):=by unfold QKa;rw [if_neg (by simp [h0]),if_pos h4]
   rw [ef]
   rfl
  ·rw [ZCa o (by omega)]
   by_cases h5:40000 < a0.Buffer.length+(a1++a2).length
   ·have ef:QKa a0 (a1++a2)=(noC, [],⟨1, -1⟩):=by unfold QKa;rw [if_neg (by simp [h0]),if_pos h5]
    rw [ef]
    rfl
   ·simp only [List.length_append] at h5
    obtain ⟨ok2,_,hb2,_⟩:=ZBa o (d:=a1) (by omega)
    obtain ⟨ok3,_⟩:=ZBa o (d:=a1++a2) (by simp only [List.length_append];omega)
    rw [ZCa o (by simp only [List.length_append];omega)]
    dsimp only
    simp only [show ((0:Int) !=0)=false from rfl,cond_false,Option.bind_some]
    rw [Qqa _ a2 ok2.small (by omega),ZCa ok2 (by omega)]
    simp only [Option.bind_some,show ((0:Int)==0)=true from rfl,cond_true]
    have hcut:=zgb o (a:=a1) (b:=a2)
    have e1:(kTa a0 (a1++a2)).C=(kTa (kTa a0 a1).C a2).C:=by rw [hcut];rfl
    have e2:(kTa a0 (a1++a2)).Out=(kTa a0 a1).Out++(kTa (kTa a0 a1).C a2).Out:=by rw [hcut];rfl
    rw [←e1,same_ok ok3.small]
    simp only [Option.bind_some,cond_true]
    have l1:=Vja o a1 (by omega)
    have l2:=Vja ok2 a2 (by omega)
    rw [vDa (by omega),←e2]
    simp
 ·have ef:QKa a0 a1=(noC, [],cliF a0):=by unfold QKa;rw [if_pos h0]
  rw [ef]
  dsimp only
  rw [show ((cliF a0).Code !=0)=true by simpa using h0,show ((cliF a0).Code==0)=false by simpa using h0]
  rfl
end Go.Proofs.YtjnmamghadpedaaGreatDoor
namespace Go.Proofs.YtjnmamghadpedaaGreatDoor
open Go.RowKit
set_option maxRecDepth 100000
set_option maxHeartbeats 40000000
theorem W0a (a0:List Str) (r:kca) (hr:Zoa a0=some r):Run Tryz.prog 27 [.l cS a0] (.agg [.s r.Envelope.From, .l zca.pc r.Envelope.To, .s r.Envelope.Id, .l zfa.pc r.Message.Fields, .l cU r.Message.Body]):=by
 unfold Zoa at hr
 refine rf (fn:=Tryz.f27) ⟨Tryz.func27,rfl,by kernel_rfl⟩ rfl (fun _=> rfl) fun g0 hg=> ?_
 refine rn tk 10 rfl ?_
 refine vGa 1003 (o:=3) (j:=1) 85 2 rfl rfl rfl rfl (hO ?_)
 refine rn tk 1 rfl ?_
 refine vGa 2003 (o:=3) (j:=1) 85 2 rfl rfl rfl rfl (hO ?_)
 refine rn tk 9 rfl ?_
 refine al1 hr (fun s1=> [(0, .l cS a0),(2, .ptr 2 0),(3, .ptr 3 0),(4, .i s1.1)]) (fun s1=> [(2003, .row 85 false 2 (List.map zca.pc s1.2)),(3, .cells [.s (([115,64,120]:Str)), .hs 2003 0, .s (([55]:Str)), .l zfa.pc ([]), .l cU ([])]),(2, .cells [.s (([]:Str)), .l zca.pc ([]), .s (([]:Str)), .l zfa.pc ([]), .l cU ([])])]) (.exit 0) (fun b2=> [(2, .ptr 2 0),(3, .ptr 3 0)]) (fun b2=> [(2003, .row 85 false 2 (List.map zca.pc b2)),(3, .cells [.s (([115,64,120]:Str)), .hs 2003 0, .s (([55]:Str)), .l zfa.pc ([]), .l cU ([])]),(2, .cells [.s (([]:Str)), .l zca.pc ([]), .s (([]:Str)), .l zfa.pc ([]), .l cU ([])])]) rfl rfl (fun s1 x3 hr=> ?_) (fun b2 hr=> ?_)
 ·
  unfold yra at hr
  refine rn tk 5 rfl ?_
  refine wn tk rfl rfl rfl ?_
  refine rn tk 3 rfl ?_
  refine ac 10 hr rfl (fun c4 hr=> ?_) (fun c4 hr=> ?_)
  ·
   refine rn tk 4 rfl ?_
   obtain ⟨v5,h6,hr⟩:=zaa hr
   refine dr 9 [(21, .l zca.pc (([(zca.mk v5 1)]:List zca))),(20, .agg [.s v5, .i 1]),(19, .s v5),(18, .ep [pS v5]),(17, .i s1.1),(16, .l cS a0),(15, .hs 2003 0),(14, .ptr 3 1),(13, .ptr 3 0)] mixed (by kernel_rfl) rfl rfl (pq tk rfl (.plain rfl) (pq tk rfl (.plain rfl) (pq tk rfl (.plain rfl) (pq tk rfl (.plain rfl) (pq tk rfl (.plain rfl) (.run (.plain rfl) (wRa (Kda (f:=cS) rfl rfl K1a zQa rfl h6)) (pq tk rfl (.plain rfl) (pq tk rfl (.plain rfl) (.run (.plain rfl) (yla (F:=zca.pc) (l:=([(zca.mk v5 1)]:List zca)) zPa kia rfl (fun _=> rfl) rfl rfl) .nil))))))))) rfl ?_
   obtain ⟨v7,h8,hr⟩:=zaa hr
   refine wa tk h8 rfl rfl rfl rfl (fun _=> rfl) rfl rfl ?_
   refine rn tk 11 rfl ?_
   cases hr
   exact atc rfl rfl
  ·
   refine rn tk 2 rfl ?_
   cases hr
   exact ato rfl rfl rfl rfl
 ·
  refine rn tk 8 rfl ?_
  refine KFa (o:=2) (j:=1) (F:=zca.pc) (l:=b2) rfl rfl rfl (hC ?_)
  refine rn tk 1 rfl ?_
  cases hr
  exact kr tk (.inr rfl) rfl rfl
theorem Vka (a0:List Int) (a1:List Int) (r:Bool) (hr:Q2a a0 a1=some r):Run Tryz.prog 18 [.l cI a0, .l cI a1] (.bo r):=by
 unfold Q2a at hr
 refine rf (fn:=Tryz.f18) ⟨Tryz.func18,rfl,by kernel_rfl⟩ rfl (fun _=> rfl) fun g0 hg=> ?_
 refine rn tk 9 rfl ?_
 refine wn tk rfl rfl rfl ?_
 refine rn tk 1 rfl ?_
 refine wn tk rfl rfl rfl ?_
 refine rn tk 3 rfl ?_
 refine ac 10 hr rfl (fun c1 hr=> ?_) (fun c1 hr=> ?_)
 ·
  refine rn tk 7 rfl ?_
  cases hr
  exact kr tk (.inr rfl) rfl rfl
 ·
  refine rn tk 9 rfl ?_
  refine al2 hr (fun s2=> [(0, .l cI a0),(1, .l cI a1),(5, .i s2)]) (fun s2=> []) (.exit 0) (fun b3=> []) (fun b3=> []) .ret (fun b4=> [(4, .bo b4)]) (fun b4=> []) rfl rfl (fun s2 x6 hr=> ?_) (fun b3 hr=> ?_) (fun b4 hr=> ?_)
  ·
   unfold Zna at hr
   refine rn tk 5 rfl ?_
   refine wn tk rfl rfl rfl ?_
   refine rn tk 3 rfl ?_
   refine ac 14 hr rfl (fun c7 hr=> ?_) (fun c7 hr=> ?_)
   ·
    refine rn tk 5 rfl ?_
    obtain ⟨v8,h9,hr⟩:=zaa hr
    obtain ⟨v10,h11,hr⟩:=zaa hr
    refine dr 8 [(24, .i v10),(23, .ep [pI v10]),(22, .i s2),(21, .l cI a1),(20, .i v8),(19, .ep [pI v8]),(18, .i s2),(17, .l cI a0)] mixed (by kernel_rfl) rfl rfl (pq tk rfl (.plain rfl) (pq tk rfl (.plain rfl) (.run (.plain rfl) (wRa (Kda (f:=cI) rfl rfl wKa v4a rfl h9)) (pq tk rfl (.plain rfl) (pq tk rfl (.plain rfl) (pq tk rfl (.plain rfl) (.run (.plain rfl) (wRa (Kda (f:=cI) rfl rfl wKa v4a rfl h11)) (pq tk rfl (.plain rfl) .nil)))))))) rfl ?_
    refine rn tk 3 rfl ?_
    refine ac 25 hr rfl (fun c12 hr=> ?_) (fun c12 hr=> ?_)
    ·
     refine rn tk 8 rfl ?_
     cases hr
     exact ato rfl rfl rfl rfl
    ·
     refine rn tk 8 rfl ?_
     cases hr
     exact atc rfl rfl
   ·
    refine rn tk 2 rfl ?_
    cases hr
    exact ato rfl rfl rfl rfl
  ·
   refine rn tk 8 rfl ?_
   cases hr
   exact kr tk (.inr rfl) rfl rfl
  ·
   refine rn tk 2 rfl ?_
   cases hr
   exact kr tk (.inr rfl) rfl rfl
theorem zKa (a0:zta) (r:Bool) (hr:z2a a0=some r):Run Tryz.prog 20 [.agg [.i a0.Code, .i a0.Index]] (.bo r):=by
 unfold z2a at hr
 refine rf (fn:=Tryz.f20) ⟨Tryz.func20,rfl,by kernel_rfl⟩ rfl (fun _=> rfl) fun g0 hg=> ?_
 refine rn tk 15 rfl ?_
 cases hr
 exact kr tk (.inr rfl) rfl rfl
theorem zEa (r:zta) (hr:zSa=some r):Run Tryz.prog 22 [] (.agg [.i r.Code, .i r.Index]):=by
 unfold zSa at hr
 refine rf (fn:=Tryz.f22) ⟨Tryz.func22,rfl,by kernel_rfl⟩ rfl (fun _=> rfl) fun g0 hg=> ?_
 refine rn tk 12 rfl ?_
 cases hr
 exact kr tk (.inr rfl) rfl rfl
theorem q1a (a0:List zfa) (r:List zfa) (hr:zTa a0=some r):Run Tryz.prog 46 [.l zfa.pc a0] (.l zfa.pc r):=by
 unfold zTa at hr
 refine rf (fn:=Tryz.f46) ⟨Tryz.func46,rfl,by kernel_rfl⟩ rfl (fun _=> rfl) fun g0 hg=> ?_
 refine rn tk 9 rfl ?_
 refine w0a (d:=3) (F:=zfa.pc) (l:=a0) rfl rfl rfl kVa (fun c1=> hO ?_) (hO ?_)
 ·
  replace hr:=Zga c1 hr
  refine rn tk 10 rfl ?_
  cases hr
  exact kr tk (.inr rfl) rfl rfl
 ·
  replace hr:=Zha hr
  refine rn tk 7 rfl ?_
  refine wo (yQa (k:=5) rfl kVa qya) rfl ?_
  refine rn tk 1 rfl ?_
  obtain ⟨v2,h3,hr⟩:=zaa hr
  refine wo (vRa (k:=7) (F:=zfa.pc) (xs:=a0) (lim:=4398046511104) 1002 rfl rfl rfl kVa qya rfl rfl (fun _=> rfl) rfl rfl rfl h3) rfl ?_
  refine rn tk 3 rfl ?_
  refine yma 1002 rfl (hC ?_)
  refine vHa (d:=2) (F:=zfa.pc) (l:=v2) rfl rfl (hC ?_)
  refine rn tk 1 rfl ?_
  cases hr
  exact kr tk (.inr rfl) rfl rfl
theorem vNa (a0:kca) (r:kca) (hr:qga a0=some r):Run Tryz.prog 21 [.agg [.s a0.Envelope.From, .l zca.pc a0.Envelope.To, .s a0.Envelope.Id, .l zfa.pc a0.Message.Fields, .l cU a0.Message.Body]] (.agg [.s r.Envelope.From, .l zca.pc r.Envelope.To, .s r.Envelope.Id, .l zfa.pc r.Message.Fields, .l cU r.Message.Body]):=by
 unfold qga at hr
 refine rf (fn:=Tryz.f21) ⟨Tryz.func21,rfl,by kernel_rfl⟩ rfl (fun _=> rfl) fun g0 hg=> ?_
 refine rn tk 11 rfl ?_
 refine ct hr (fun j1=> [(1, .ptr 1 0),(2, .ptr 2 0),(6, .l zca.pc j1)]) (fun j1=> [(2, .cells [.s (([]:Str)), .l zca.pc ([]), .s (([]:Str)), .l zfa.pc ([]), .l cU ([])]),(1, .cells [.s a0.Envelope.From, .l zca.pc a0.Envelope.To, .s a0.Envelope.Id, .l zfa.pc a0.Message.Fields, .l cU a0.Message.Body])]) (fun j1 hr jump1=> ?_) (fun j1 hr=> ?_)
 ·
  refine il (fn:=Tryz.f45) (args:= [.l zca.pc a0.Envelope.To]) 100000 199999 [(1, .ptr 1 0),(2, .ptr 2 0)] rfl ⟨Tryz.func45,rfl,by kernel_rfl⟩ rfl rfl rfl fun T1 ds1=> ?_
  refine rn tk 9 rfl ?_
  refine w0a (d:=3) (F:=zca.pc) (l:=a0.Envelope.To) rfl rfl rfl zPa (fun c2=> hO ?_) (hO ?_)
  ·
   replace hr:=Zga c2 hr
   refine rn tk 10 rfl ?_
   refine ie tk [.pv (.sl (some true) [])] [(1, .ptr 1 0),(2, .ptr 2 0)] [(2, .cells [.s (([]:Str)), .pv (.sl (some true) []), .s (([]:Str)), .pv (.sl (some true) []), .pv (.sl (some true) [])]),(1, .cells [.s a0.Envelope.From, .l zca.pc a0.Envelope.To, .s a0.Envelope.Id, .l zfa.pc a0.Message.Fields, .l cU a0.Message.Body])] (.inr rfl) rfl rfl rfl rfl ?_
   cases hr
   exact jump1 _ _ rfl rfl
  ·
   replace hr:=Zha hr
   refine rn tk 7 rfl ?_
   refine wo (yQa (k:=5) rfl zPa kia) rfl ?_
   refine rn tk 1 rfl ?_
   obtain ⟨v3,h4,hr⟩:=zaa hr
   refine wo (vRa (k:=7) (F:=zca.pc) (xs:=a0.Envelope.To) (lim:=5864062014805) 1002 rfl rfl rfl zPa kia rfl rfl (fun _=> rfl) rfl rfl rfl h4) rfl ?_
   refine rn tk 3 rfl ?_
   refine yma 1002 rfl (hC ?_)
   refine vHa (d:=2) (F:=zca.pc) (l:=v3) rfl rfl (hC ?_)
   refine rn tk 1 rfl ?_
   refine ie tk [.l zca.pc v3] [(1, .ptr 1 0),(2, .ptr 2 0)] [(1002, .row 85 false 2 (List.map zca.pc v3)),(2, .cells [.s (([]:Str)), .pv (.sl (some true) []), .s (([]:Str)), .pv (.sl (some true) []), .pv (.sl (some true) [])]),(1, .cells [.s a0.Envelope.From, .l zca.pc a0.Envelope.To, .s a0.Envelope.Id, .l zfa.pc a0.Message.Fields, .l cU a0.Message.Body])] (.inr rfl) rfl rfl rfl rfl ?_
   cases hr
   exact jump1 _ _ rfl rfl
 ·
  refine rn tk 6 rfl ?_
  obtain ⟨v5,h6,hr⟩:=zaa hr
  refine dr 7 [(15, .l cU a0.Message.Body),(14, .ptr 1 4),(13, .ptr 1 3),(12, .l zfa.pc v5),(11, .l zfa.pc a0.Message.Fields),(10, .ptr 1 3),(9, .ptr 1 3)] mixed (by kernel_rfl) rfl rfl (pq tk rfl (.plain rfl) (pq tk rfl (.plain rfl) (pq tk rfl (.plain rfl) (.run (.plain rfl) (qMa (q1a a0.Message.Fields v5 h6) rfl) (pq tk rfl (.plain rfl) (pq tk rfl (.plain rfl) (pq tk rfl (.plain rfl) .nil))))))) rfl ?_
  refine ct hr (fun j7=> [(1, .ptr 1 0),(2, .ptr 2 0),(12, .l zfa.pc v5),(16, .l cU j7)]) (fun j7=> [(2, .cells [.s (([]:Str)), .l zca.pc ([]), .s (([]:Str)), .l zfa.pc ([]), .l cU ([])]),(1, .cells [.s a0.Envelope.From, .l zca.pc j1, .s a0.Envelope.Id, .l zfa.pc a0.Message.Fields, .l cU a0.Message.Body])]) (fun j7 hr jump2=> ?_) (fun j7 hr=> ?_)
  ·
   refine il (fn:=Tryz.f37) (args:= [.l cU a0.Message.Body]) 200000 299999 [(1, .ptr 1 0),(2, .ptr 2 0),(12, .l zfa.pc v5)] rfl ⟨Tryz.func37,rfl,by kernel_rfl⟩ rfl rfl rfl fun T2 ds2=> ?_
   refine rn tk 9 rfl ?_
   refine w0a (d:=3) (F:=cU) (l:=a0.Message.Body) rfl rfl rfl zha (fun c8=> hO ?_) (hO ?_)
   ·
    replace hr:=Zga c8 hr
    refine rn tk 10 rfl ?_
    refine ie tk [.pv (.sl (some true) [])] [(1, .ptr 1 0),(2, .ptr 2 0),(12, .l zfa.pc v5)] [(2, .cells [.s (([]:Str)), .l zca.pc ([]), .s (([]:Str)), .l zfa.pc ([]), .l cU ([])]),(1, .cells [.s a0.Envelope.From, .l zca.pc j1, .s a0.Envelope.Id, .l zfa.pc a0.Message.Fields, .l cU a0.Message.Body])] (.inr rfl) rfl rfl rfl rfl ?_
    cases hr
    exact jump2 _ _ rfl rfl
   ·
    replace hr:=Zha hr
    refine rn tk 7 rfl ?_
    refine wo (yQa (k:=5) rfl zha zva) rfl ?_
    refine rn tk 1 rfl ?_
    obtain ⟨v9,h10,hr⟩:=zaa hr
    refine wo (vRa (k:=7) (F:=cU) (xs:=a0.Message.Body) (lim:=140737488355328) 1002 rfl rfl rfl zha zva rfl rfl (fun _=> rfl) rfl rfl rfl h10) rfl ?_
    refine rn tk 3 rfl ?_
    refine yma 1002 rfl (hC ?_)
    refine vHa (d:=2) (F:=cU) (l:=v9) rfl rfl (hC ?_)
    refine rn tk 1 rfl ?_
    refine ie tk [.l cU v9] [(1, .ptr 1 0),(2, .ptr 2 0),(12, .l zfa.pc v5)] [(1002, .row 5 false 1 (List.map cU v9)),(2, .cells [.s (([]:Str)), .l zca.pc ([]), .s (([]:Str)), .l zfa.pc ([]), .l cU ([])]),(1, .cells [.s a0.Envelope.From, .l zca.pc j1, .s a0.Envelope.Id, .l zfa.pc a0.Message.Fields, .l cU a0.Message.Body])] (.inr rfl) rfl rfl rfl rfl ?_
    cases hr
    exact jump2 _ _ rfl rfl
  ·
   refine rn tk 12 rfl ?_
   cases hr
   exact kr tk (.inr rfl) rfl rfl
theorem vya (a0:zda) (a1:Int) (r:zda) (hr:z8a a0 a1=some r):RunS Tryz.prog 55 [.ptr 90000000 0, .i a1] [(90000000, .cells [.s a0.Client.Name, .s a0.Client.Mail.Envelope.From, .l zca.pc a0.Client.Mail.Envelope.To, .s a0.Client.Mail.Envelope.Id, .l zfa.pc a0.Client.Mail.Message.Fields, .l cU a0.Client.Mail.Message.Body, .bo a0.Client.Pipelined, .l cU a0.Client.Buffer, .i a0.Client.Expected, .bo a0.Client.Whole, .bo a0.Client.Done, .hs 90000012 0, .l cU a0.content, .bo a0.chunk, .hs 90000015 0]),(90000012, .row 3 true 1 (List.map cI a0.Client.Results)),(90000015, .row 5 false 1 (List.map cU a0.out))] (.tup []) [(90000000, .cells [.s r.Client.Name, .s r.Client.Mail.Envelope.From, .l zca.pc r.Client.Mail.Envelope.To, .s r.Client.Mail.Envelope.Id, .l zfa.pc r.Client.Mail.Message.Fields, .l cU r.Client.Mail.Message.Body, .bo r.Client.Pipelined, .l cU r.Client.Buffer, .i r.Client.Expected, .bo r.Client.Whole, .bo r.Client.Done, .hs 90000012 0, .l cU r.content, .bo r.chunk, .hs 90000015 0]),(90000012, .row 3 true 1 (List.map cI r.Client.Results)),(90000015, .row 5 false 1 (List.map cU r.out))] 90000000 [90000012,90000015]:=by
 unfold z8a at hr
 refine rfS (fn:=Tryz.f55) (H:=90000999) (.ptr 90000000 0) ⟨Tryz.func55,rfl,by kernel_rfl⟩ rfl (hasT rfl) (.inl ⟨rfl,rfl⟩) rfl rfl rfl rfl fun g0 hg S sg T=> ?_
 refine rn tk 7 rfl ?_
 refine wnh tk rfl rfl rfl rfl ?_
 refine rn tk 4 rfl ?_
 refine al1 hr (fun s1=> [(0, .ptr 90000000 0),(1, .i a1),(10, .hs 90000012 0),(11, .i ((a0.Client.Results.length:Int))),(12, .i s1.1)]) (fun s1=> [(90000999, .hold (.ptr 90000000 0) (T.getD 0 undef)),(90000000, .cells [.s s1.2.Client.Name, .s s1.2.Client.Mail.Envelope.From, .l zca.pc s1.2.Client.Mail.Envelope.To, .s s1.2.Client.Mail.Envelope.Id, .l zfa.pc s1.2.Client.Mail.Message.Fields, .l cU s1.2.Client.Mail.Message.Body, .bo s1.2.Client.Pipelined, .l cU s1.2.Client.Buffer, .i s1.2.Client.Expected, .bo s1.2.Client.Whole, .bo s1.2.Client.Done, .hs 90000012 0, .l cU s1.2.content, .bo s1.2.chunk, .hs 90000015 0]),(90000012, .row 3 true 1 (List.map cI s1.2.Client.Results)),(90000015, .row 5 false 1 (List.map cU s1.2.out))]) (.exit 0) (fun b2=> []) (fun b2=> [(90000000, .cells [.s b2.Client.Name, .s b2.Client.Mail.Envelope.From, .l zca.pc b2.Client.Mail.Envelope.To, .s b2.Client.Mail.Envelope.Id, .l zfa.pc b2.Client.Mail.Message.Fields, .l cU b2.Client.Mail.Message.Body, .bo b2.Client.Pipelined, .l cU b2.Client.Buffer, .i b2.Client.Expected, .bo b2.Client.Whole, .bo b2.Client.Done, .hs 90000012 0, .l cU b2.content, .bo b2.chunk, .hs 90000015 0]),(90000012, .row 3 true 1 (List.map cI b2.Client.Results)),(90000015, .row 5 false 1 (List.map cU b2.out)),(90000999, .hold (.ptr 90000000 0) (T.getD 0 undef))]) rfl rfl (fun s1 x3 hr=> ?_) (fun b2 hr=> ?_)
 ·
  unfold zNa at hr
  refine rn tk 6 rfl ?_
  refine ac 13 hr rfl (fun c4 hr=> ?_) (fun c4 hr=> ?_)
  ·
   refine rn tk 2 rfl ?_
   refine jb hr (fun j5=> [(0, .ptr 90000000 0),(1, .i a1),(10, .hs 90000012 0),(11, .i ((a0.Client.Results.length:Int))),(12, .i s1.1)]) (fun j5=> [(90000000, .cells [.s j5.Client.Name, .s j5.Client.Mail.Envelope.From, .l zca.pc j5.Client.Mail.Envelope.To, .s j5.Client.Mail.Envelope.Id, .l zfa.pc j5.Client.Mail.Message.Fields, .l cU j5.Client.Mail.Message.Body, .bo j5.Client.Pipelined, .l cU j5.Client.Buffer, .i j5.Client.Expected, .bo j5.Client.Whole, .bo j5.Client.Done, .hs 90000012 0, .l cU j5.content, .bo j5.chunk, .hs 90000015 0]),(90000012, .row 3 true 1 (List.map cI j5.Client.Results)),(90000015, .row 5 false 1 (List.map cU j5.out)),(90000999, .hold (.ptr 90000000 0) (T.getD 0 undef))]) (fun j5 hr=> ?_) (fun j5 hr=> ?_)
   ·
    refine rn tk 4 rfl ?_
    obtain ⟨v6,h7,hr⟩:=zaa hr
    refine wih tk h7 rfl rfl rfl rfl rfl ?_
    obtain ⟨v8,h9,hr⟩:=zaa hr
    refine wq (Y3a (F:=cI) (l:=s1.2.Client.Results) (n:=s1.1) (j:=0) rfl rfl v4a rfl h9 rfl) rfl rfl rfl ?_
    refine rn tk 10 rfl ?_
    refine ac 18 hr rfl (fun c10 hr=> ?_) (fun c10 hr=> ?_)
    ·
     refine rn tk 8 rfl ?_
     obtain ⟨v11,h12,hr⟩:=zaa hr
     refine wih tk h12 rfl rfl rfl rfl rfl ?_
     obtain ⟨v13,h14,hr⟩:=zaa hr
     refine wo (KSa (F:=cI) (l:=s1.2.Client.Results) (n:=s1.1) (j:=0) (v:=v13) (v' :=a1) (pcs:= [pI a1]) rfl rfl rfl v4a rfl h14 rfl rfl) rfl ?_
     refine rn tk 2 rfl ?_
     cases hr
     exact jn _ rfl rfl rfl
    ·
     refine rn tk 2 rfl ?_
     cases hr
     exact jn _ rfl rfl rfl
   ·
    refine rn tk 4 rfl ?_
    cases hr
    exact atc rfl rfl
  ·
   refine rn tk 2 rfl ?_
   cases hr
   exact ato rfl rfl rfl rfl
 ·
  refine rn tk 1 rfl ?_
  cases hr
  exact krS tk (.inl rfl) rfl rfl (zba rfl (zba rfl (zba rfl (zba rfl zga))))
theorem vza (a0:zda) (r:zda) (hr:kqa a0=some r):RunS Tryz.prog 32 [.ptr 90000000 0] [(90000000, .cells [.s a0.Client.Name, .s a0.Client.Mail.Envelope.From, .l zca.pc a0.Client.Mail.Envelope.To, .s a0.Client.Mail.Envelope.Id, .l zfa.pc a0.Client.Mail.Message.Fields, .l cU a0.Client.Mail.Message.Body, .bo a0.Client.Pipelined, .l cU a0.Client.Buffer, .i a0.Client.Expected, .bo a0.Client.Whole, .bo a0.Client.Done, .hs 90000012 0, .l cU a0.content, .bo a0.chunk, .hs 90000015 0]),(90000012, .row 3 true 1 (List.map cI a0.Client.Results)),(90000015, .row 5 false 1 (List.map cU a0.out))] (.tup []) [(90000000, .cells [.s r.Client.Name, .s r.Client.Mail.Envelope.From, .l zca.pc r.Client.Mail.Envelope.To, .s r.Client.Mail.Envelope.Id, .l zfa.pc r.Client.Mail.Message.Fields, .l cU r.Client.Mail.Message.Body, .bo r.Client.Pipelined, .l cU r.Client.Buffer, .i r.Client.Expected, .bo r.Client.Whole, .bo r.Client.Done, .hs 90000012 0, .l cU r.content, .bo r.chunk, .hs 90000015 0]),(90000012, .row 3 true 1 (List.map cI r.Client.Results)),(90000015, .row 5 false 1 (List.map cU r.out))] 90000000 [90000012,90000015]:=by
 unfold kqa at hr
 refine rfS (fn:=Tryz.f32) (H:=90000999) (.ptr 90000000 0) ⟨Tryz.func32,rfl,by kernel_rfl⟩ rfl (hasT rfl) (.inl ⟨rfl,rfl⟩) rfl rfl rfl rfl fun g0 hg S sg T=> ?_
 refine rn tk 5 rfl ?_
 refine jb hr (fun j1=> [(0, .ptr 90000000 0),(2, .i j1)]) (fun j1=> [(90000999, .hold (.ptr 90000000 0) (T.getD 0 undef)),(90000000, .cells [.s a0.Client.Name, .s a0.Client.Mail.Envelope.From, .l zca.pc a0.Client.Mail.Envelope.To, .s a0.Client.Mail.Envelope.Id, .l zfa.pc a0.Client.Mail.Message.Fields, .l cU a0.Client.Mail.Message.Body, .bo a0.Client.Pipelined, .l cU a0.Client.Buffer, .i a0.Client.Expected, .bo a0.Client.Whole, .bo a0.Client.Done, .hs 90000012 0, .l cU a0.content, .bo a0.chunk, .hs 90000015 0]),(90000012, .row 3 true 1 (List.map cI a0.Client.Results)),(90000015, .row 5 false 1 (List.map cU a0.out))]) (fun j1 hr=> ?_) (fun j1 hr=> ?_)
 ·
  refine rn tk 9 rfl ?_
  refine ac 7 hr rfl (fun c2 hr=> ?_) (fun c2 hr=> ?_)
  ·
   refine rn tk 3 rfl ?_
   cases hr
   exact jn _ rfl rfl rfl
  ·
   refine rn tk 1 rfl ?_
   cases hr
   exact jn _ rfl rfl rfl
 ·
  refine rn tk 4 rfl ?_
  obtain ⟨v3,h4,hr⟩:=zaa hr
  refine wo (zAa (k:=10) (vya a0 j1 v3 h4) rfl rfl (zba rfl (zba rfl (zba rfl zga)))) rfl ?_
  refine rn tk 9 rfl ?_
  cases hr
  exact krS tk (.inl rfl) rfl rfl (zba rfl (zba rfl (zba rfl (zba rfl zga))))
theorem zla (a0:Int) (a1:Int) (r:zta) (hr:zpa a0 a1=some r):Run Tryz.prog 33 [.i a0, .i a1] (.agg [.i r.Code, .i r.Index]):=by
 unfold zpa at hr
 refine rf (fn:=Tryz.f33) ⟨Tryz.func33,rfl,by kernel_rfl⟩ rfl (fun _=> rfl) fun g0 hg=> ?_
 refine rn tk 14 rfl ?_
 cases hr
 exact kr tk (.inr rfl) rfl rfl
theorem jaa (a0:List UInt8) (a1:List UInt8) (r:Bool) (hr:qza a0 a1=some r):Run Tryz.prog 80 [.l cU a0, .l cU a1] (.bo r):=by
 unfold qza at hr
 refine wYa (fn:=Tryz.f80) ⟨Tryz.func80,rfl,by kernel_rfl⟩ rfl (fun _=> rfl) fun g0 hg=> ?_
 refine kNa ?_
 refine zDa ?_
 refine zka rfl (zma (d:=4) rfl rfl kba) ?_
 refine zLa ?_
 refine zya ?_
 refine kNa ?_
 refine zDa ?_
 refine zka rfl (zma (d:=5) rfl rfl zIa) ?_
 refine zka rfl (zma (d:=6) rfl rfl (ZLa rfl zha zva zQa)) ?_
 refine zka rfl (zma (d:=7) rfl rfl zIa) ?_
 refine zka rfl (zma (d:=8) rfl rfl (ZLa rfl zha zva zQa)) ?_
 refine zka rfl (zma (d:=9) rfl rfl (zqb (a:=a0) (b:=a1) rfl rfl)) ?_
 refine zka rfl (zma (d:=4) rfl rfl kba) ?_
 refine zLa ?_
 refine zya ?_
 refine yca ?_
 cases hr
 exact Jya rfl (.cons (yNa rfl) .nil) rfl
theorem wwa (a0:List UInt8) (a1:List UInt8) (r:Bool) (hr:kva a0 a1=some r):Run Tryz.prog 58 [.l cU a0, .l cU a1] (.bo r):=by
 unfold kva at hr
 refine wYa (fn:=Tryz.f58) ⟨Tryz.func58,rfl,by kernel_rfl⟩ rfl (fun _=> rfl) fun g0 hg=> ?_
 refine kNa ?_
 refine zDa ?_
 refine zka rfl (zma (d:=4) rfl rfl kba) ?_
 refine zLa ?_
 refine zya ?_
 obtain ⟨j1,hx,hy⟩:=zaa hr
 refine yha (fun j1=> [(4, .bo j1)]) (fun j1=> []) (fun z=> j1=z) ?_ ?_
 ·have hr:=hx
  clear hx hy
  refine zDa ?_
  refine zka rfl (zma (d:=5) rfl rfl zIa) ?_
  refine zka rfl (zma (d:=6) rfl rfl (v0a (f:=cU) rfl zha.u)) ?_
  refine zka rfl (zma (d:=7) rfl rfl zIa) ?_
  refine zka rfl (zma (d:=8) rfl rfl (v0a (f:=cU) rfl zha.u)) ?_
  refine zka rfl (zma (d:=9) rfl rfl (zob rfl rfl)) ?_
  refine zka rfl (zma (d:=10) rfl rfl zIa) ?_
  refine jka (decide ((a1.length:Int)≤(a0.length:Int))) (fun c2=> ?_) (fun c2=> ?_)
  ·replace hr:=Kba c2 hr
   refine zJa (d:=10) rfl rfl rfl c2 (zma (d:=11) rfl rfl zIa) ?_
   refine zJa (d:=10) rfl rfl rfl c2 (zma (d:=12) rfl rfl zIa) ?_
   refine zJa (d:=10) rfl rfl rfl c2 (zma (d:=13) rfl rfl (v0a (f:=cU) rfl zha.u)) ?_
   refine zJa (d:=10) rfl rfl rfl c2 (zma (d:=14) rfl rfl zIa) ?_
   refine zJa (d:=10) rfl rfl rfl c2 (zma (d:=15) rfl rfl (v0a (f:=cU) rfl zha.u)) ?_
   refine zJa (d:=10) rfl rfl rfl c2 (zma (d:=16) rfl rfl (ev_sub rfl rfl)) ?_
   obtain ⟨v3,h4,hr⟩:=zaa hr
   refine zJa (d:=10) rfl rfl rfl c2 (zma (d:=17) rfl rfl (Yda (F:=cU) rfl rfl zha zva (fun _=> rfl) h4)) ?_
   refine zJa (d:=10) rfl rfl rfl c2 (zma (d:=18) rfl rfl zIa) ?_
   obtain ⟨v5,h6,hr⟩:=zaa hr
   refine zJa (d:=10) rfl rfl rfl c2 (vna (k:=19) (jaa v3 a1 v5 h6) rfl rfl) ?_
   refine zka rfl (zma (d:=20) rfl rfl (yKa rfl c2)) ?_
   refine zka rfl (zma (d:=4) rfl rfl kba) ?_
   refine zLa ?_
   cases hr
   exact kDa _ rfl (zea rfl zwa) zga
  ·replace hr:=Kca c2 hr
   refine zUa (d:=10) rfl rfl rfl c2 ?_
   refine zUa (d:=10) rfl rfl rfl c2 ?_
   refine zUa (d:=10) rfl rfl rfl c2 ?_
   refine zUa (d:=10) rfl rfl rfl c2 ?_
   refine zUa (d:=10) rfl rfl rfl c2 ?_
   refine zUa (d:=10) rfl rfl rfl c2 ?_
   refine zUa (d:=10) rfl rfl rfl c2 ?_
   refine zUa (d:=10) rfl rfl rfl c2 ?_
   refine zUa (d:=10) rfl rfl rfl c2 ?_
   refine zka rfl (zma (d:=20) rfl rfl (yLa rfl c2)) ?_
   refine zka rfl (zma (d:=4) rfl rfl kba) ?_
   refine zLa ?_
   cases hr
   exact kDa _ rfl (zea rfl zwa) zga
 ·rintro _ rfl
  have hr:=hy
  clear hx hy
  refine yca ?_
  cases hr
  exact Jya rfl (.cons (yNa rfl) .nil) rfl
theorem V9a (a0:Str) (r:Bool) (hr:yZa a0=some r):Run Tryz.prog 117 [.s a0] (.bo r):=by
 unfold yZa at hr
 refine rf (fn:=Tryz.f117) ⟨Tryz.func117,rfl,by kernel_rfl⟩ rfl (fun _=> rfl) fun g0 hg=> ?_
 refine rn tk 5 rfl ?_
 refine jb hr (fun j1=> [(2, .bo j1)]) (fun j1=> []) (fun j1 hr=> ?_) (fun j1 hr=> ?_)
 ·
  refine rn tk 4 rfl ?_
  refine bs 5 hr rfl (fun c2 hr=> ?_) (fun c2 hr=> ?_)
  ·
   refine rn tk 5 rfl ?_
   refine bs 10 hr rfl (fun c3 hr=> ?_) (fun c3 hr=> ?_)
   ·
    refine rn tk 1 rfl ?_
    refine ug rfl rfl rfl ?_
    refine ct hr (fun j4=> [(10, .bo true),(12, .bo j4)]) (fun j4=> []) (fun j4 hr jump4=> ?_) (fun j4 hr=> ?_)
    ·
     refine il (fn:=Tryz.f69) (args:= [.s a0, .fn (.func 135) [] []]) 400000 499999 [(10, .bo true)] rfl ⟨Tryz.func69,rfl,by kernel_rfl⟩ rfl rfl rfl fun T4 ds4=> ?_
     refine rn tk 14 rfl ?_
     refine al2 hr (fun s5=> [(0, .s a0),(1, .fn (.func 135) [] []),(7, .i ((a0.length:Int))),(8, .i s5)]) (fun s5=> [(499999, .sus g0.w.heap.size ds4),(400010, .hold (.bo true) (T4.getD 10 undef))]) (.exit 0) (fun b6=> []) (fun b6=> [(499999, .sus g0.w.heap.size ds4),(400010, .hold (.bo true) (T4.getD 10 undef))]) .ret (fun b7=> [(4, .bo false)]) (fun b7=> [(499999, .sus g0.w.heap.size ds4),(400010, .hold (.bo true) (T4.getD 10 undef))]) rfl rfl (fun s5 x9 hr=> ?_) (fun b6 hr=> ?_) (fun b7 hr=> ?_)
     ·
      unfold vTa at hr
      refine rn tk 6 rfl ?_
      refine ac 9 hr rfl (fun c10 hr=> ?_) (fun c10 hr=> ?_)
      ·
       refine rn tk 15 rfl ?_
       obtain ⟨v11,h12,hr⟩:=zaa hr
       refine ws tk h12 rfl rfl rfl rfl ?_
       refine il (fn:=Tryz.f135) (args:= [.u8 v11]) 600000 699999 [(0, .s a0),(1, .fn (.func 135) [] []),(7, .i ((a0.length:Int))),(8, .i s5)] rfl ⟨Tryz.func135,rfl,by kernel_rfl⟩ rfl rfl rfl fun T6 ds6=> ?_
       refine rn tk 5 rfl ?_
       refine jb hr (fun j13=> [(2, .bo j13)]) (fun j13=> [(699999, .sus g0.w.heap.size ds6),(600000, .hold (.s a0) (T6.getD 0 undef)),(600001, .hold (.fn (.func 135) [] []) (T6.getD 1 undef)),(600007, .hold (.i ((a0.length:Int))) (T6.getD 7 undef)),(600008, .hold (.i s5) (T6.getD 8 undef)),(499999, .sus g0.w.heap.size ds4),(400010, .hold (.bo true) (T4.getD 10 undef))]) (fun j13 hr=> ?_) (fun j13 hr=> ?_)
       ·
        refine rn tk 4 rfl ?_
        refine bs 5 hr rfl (fun c14 hr=> ?_) (fun c14 hr=> ?_)
        ·
         refine rn tk 4 rfl ?_
         refine bs 9 hr rfl (fun c15 hr=> ?_) (fun c15 hr=> ?_)
         ·
          refine rn tk 5 rfl ?_
          cases hr
          exact jn _ rfl rfl rfl
         ·
          refine rn tk 5 rfl ?_
          cases hr
          exact jn _ rfl rfl rfl
        ·
         refine rn tk 9 rfl ?_
         cases hr
         exact jn _ rfl rfl rfl
       ·
        refine rn tk 1 rfl ?_
        refine ie tk [.bo j13] [(0, .s a0),(1, .fn (.func 135) [] []),(7, .i ((a0.length:Int))),(8, .i s5)] [(499999, .sus g0.w.heap.size ds4),(400010, .hold (.bo true) (T4.getD 10 undef))] (.inr rfl) rfl rfl rfl rfl (hO ?_)
        refine rn tk 3 rfl ?_
        refine ac 16 hr rfl (fun c16 hr=> ?_) (fun c16 hr=> ?_)
        ·
         refine rn tk 8 rfl ?_
         cases hr
         exact ato rfl rfl rfl rfl
        ·
         refine rn tk 7 rfl ?_
         cases hr
         exact atc rfl rfl
      ·
       refine rn tk 2 rfl ?_
       cases hr
       exact ato rfl rfl rfl rfl
     ·
      refine rn tk 8 rfl ?_
      refine ie tk [.bo true] [(10, .bo true)] [] (.inr rfl) rfl rfl rfl rfl ?_
      cases hr
      exact jump4 _ _ rfl rfl
     ·
      refine rn tk 2 rfl ?_
      refine ie tk [.bo false] [(10, .bo true)] [] (.inr rfl) rfl rfl rfl rfl ?_
      cases hr
      exact jump4 _ _ rfl rfl
    ·
     refine rn tk 3 rfl ?_
     cases hr
     exact jn _ rfl rfl rfl
   ·
    refine rn tk 5 rfl ?_
    cases hr
    exact jn _ rfl rfl rfl
  ·
   refine rn tk 10 rfl ?_
   cases hr
   exact jn _ rfl rfl rfl
 ·
  refine rn tk 1 rfl ?_
  cases hr
  exact kr tk (.inr rfl) rfl rfl
theorem vAa (a0:UInt8) (r:Bool) (hr:qCa a0=some r):Run Tryz.prog 137 [.u8 a0] (.bo r):=by
 unfold qCa at hr
 refine rf (fn:=Tryz.f137) ⟨Tryz.func137,rfl,by kernel_rfl⟩ rfl (fun _=> rfl) fun g0 hg=> ?_
 refine rn tk 5 rfl ?_
 refine jb hr (fun j1=> [(2, .bo j1)]) (fun j1=> []) (fun j1 hr=> ?_) (fun j1 hr=> ?_)
 ·
  refine rn tk 4 rfl ?_
  refine bs 5 hr rfl (fun c2 hr=> ?_) (fun c2 hr=> ?_)
  ·
   refine rn tk 5 rfl ?_
   cases hr
   exact jn _ rfl rfl rfl
  ·
   refine rn tk 5 rfl ?_
   cases hr
   exact jn _ rfl rfl rfl
 ·
  refine rn tk 1 rfl ?_
  cases hr
  exact kr tk (.inr rfl) rfl rfl
theorem QLa (a0:Str) (a1:Int) (r:Int) (hr:w3a a0 a1=some r):Run Tryz.prog 119 [.s a0, .i a1] (.i r):=by
 unfold w3a at hr
 refine rf (fn:=Tryz.f119) ⟨Tryz.func119,rfl,by kernel_rfl⟩ rfl (fun _=> rfl) fun g0 hg=> ?_
 refine rn tk 14 rfl ?_
 refine wq (ev_max rfl rfl) rfl rfl rfl ?_
 refine rn tk 4 rfl ?_
 refine al1 hr (fun s1=> [(0, .s a0),(5, .i s1.1),(6, .i s1.2)]) (fun s1=> []) (.exit 0) (fun b2=> [(5, .i b2)]) (fun b2=> []) rfl rfl (fun s1 x3 hr=> ?_) (fun b2 hr=> ?_)
 ·
  unfold v9a at hr
  refine rn tk 9 rfl ?_
  refine ac 12 hr rfl (fun c4 hr=> ?_) (fun c4 hr=> ?_)
  ·
   refine rn tk 2 rfl ?_
   refine jk (fun j5=> [(0, .s a0),(5, .i j5),(6, .i s1.2)]) (fun j5=> []) (fun j5=> qfa s1 j5=some x3) ?_ ?_
   ·
    refine rn tk 2 rfl ?_
    refine jb hr (fun j6=> [(0, .s a0),(5, .i s1.1),(6, .i s1.2),(26, .bo j6)]) (fun j6=> []) (fun j6 hr=> ?_) (fun j6 hr=> ?_)
    ·
     refine rn tk 3 rfl ?_
     obtain ⟨v7,h8,hr⟩:=zaa hr
     refine ws tk h8 rfl rfl rfl rfl ?_
     obtain ⟨v9,h10,hr⟩:=zaa hr
     refine cl (vAa _ _ h10) rfl rfl ?_
     refine rn tk 2 rfl ?_
     refine bs 20 hr rfl (fun c11 hr=> ?_) (fun c11 hr=> ?_)
     ·
      refine rn tk 7 rfl ?_
      cases hr
      exact jn _ rfl rfl rfl
     ·
      refine rn tk 3 rfl ?_
      obtain ⟨v12,h13,hr⟩:=zaa hr
      refine ug rfl rfl rfl ?_
      refine ws tk h13 rfl rfl rfl rfl ?_
      obtain ⟨v14,h15,hr⟩:=zaa hr
      refine ug rfl rfl rfl ?_
      refine cl (vAa _ _ h15) rfl rfl ?_
      refine rn tk 2 rfl ?_
      cases hr
      exact jn _ rfl rfl rfl
    ·
     refine ac 26 hr rfl (fun c16 hr=> ?_) (fun c16 hr=> ?_)
     ·
      refine rn tk 3 rfl ?_
      exact jn s1.1 hr rfl rfl
     ·
      refine rn tk 3 rfl ?_
      refine jb hr (fun j17=> [(0, .s a0),(5, .i s1.1),(6, .i s1.2),(32, .bo j17)]) (fun j17=> []) (fun j17 hr=> ?_) (fun j17 hr=> ?_)
      ·
       refine rn tk 4 rfl ?_
       refine bs 29 hr rfl (fun c18 hr=> ?_) (fun c18 hr=> ?_)
       ·
        refine rn tk 4 rfl ?_
        cases hr
        exact jn _ rfl rfl rfl
       ·
        refine rn tk 4 rfl ?_
        cases hr
        exact jn _ rfl rfl rfl
      ·
       refine ac 32 hr rfl (fun c19 hr=> ?_) (fun c19 hr=> ?_)
       ·
        refine rn tk 4 rfl ?_
        cases hr
        exact ato rfl rfl rfl rfl
       ·
        refine rn tk 7 rfl ?_
        exact jn s1.2 hr rfl rfl
   ·
    intro j5 hr
    unfold qfa at hr
    refine rn tk 5 rfl ?_
    cases hr
    exact atc rfl rfl
  ·
   refine rn tk 2 rfl ?_
   cases hr
   exact ato rfl rfl rfl rfl
 ·
  refine rn tk 9 rfl ?_
  cases hr
  exact kr tk (.inr rfl) rfl rfl
end Go.Proofs.YtjnmamghadpedaaGreatDoor
namespace Go.Proofs
open Go.Shelf
def Tryz.lays156_ren:Go.Shelf.Ren:=⟨fun | 156=> 166 | 165=> 175 | 166=> 176 | 169=> 177 | 240=> 183 | 241=> 184 | 276=> 191 | 277=> 192 | n=> n,fun | 31=> 76 | 9=> 9 | 3=> 3 | 4=> 4 | 0=> 0 | 20=> 20 | 72=> 194 | 76=> 131 | 70=> 192 | 37=> 26 | 75=> 130 | 127=> 187 | 164=> 206 | 5=> 5 | 80=> 195 | n=> n,fun | n=> n⟩
theorem Tryz.lays156:Go.Proofs.Lays.n156 Tryz.prog Tryz.lays156_ren:={
 mixed:=by kernel_rfl
 f156:=Tryz.func166.trans (congrArg some (by kernel_rfl))
 f165:=Tryz.func175.trans (congrArg some (by kernel_rfl))
 f166:=Tryz.func176.trans (congrArg some (by kernel_rfl))
 f169:=Tryz.func177.trans (congrArg some (by kernel_rfl))
 f240:=Tryz.func183.trans (congrArg some (by kernel_rfl))
 f241:=Tryz.func184.trans (congrArg some (by kernel_rfl))
 f276:=Tryz.func191.trans (congrArg some (by kernel_rfl))
 f277:=Tryz.func192.trans (congrArg some (by kernel_rfl))
 t0:=Tryz.underlying0
 a0:=Tryz.isAgg0
 z0:=Tryz.sizeOf0
 v0:=Tryz.zeroValue0
 t3:=Tryz.underlying3
 a3:=Tryz.isAgg3
 z3:=Tryz.sizeOf3
 v3:=Tryz.zeroValue3
 t4:=Tryz.underlying4
 a4:=Tryz.isAgg4
 z4:=Tryz.sizeOf4
 v4:=Tryz.zeroValue4
 t9:=Tryz.underlying9
 a9:=Tryz.isAgg9
 z9:=Tryz.sizeOf9
 v9:=Tryz.zeroValue9
 t20:=Tryz.underlying20
 a20:=Tryz.isAgg20
 z20:=Tryz.sizeOf20
 v20:=Tryz.zeroValue20
 t31:=Tryz.underlying76
 a31:=Tryz.isAgg76
 z31:=Tryz.sizeOf76
 v31:=Tryz.zeroValue76
 t37:=Tryz.underlying26
 a37:=Tryz.isAgg26
 z37:=Tryz.sizeOf26
 v37:=Tryz.zeroValue26
 t70:=Tryz.underlying192
 a70:=Tryz.isAgg192
 z70:=Tryz.sizeOf192
 v70:=Tryz.zeroValue192
 t72:=Tryz.underlying194
 a72:=Tryz.isAgg194
 z72:=Tryz.sizeOf194
 v72:=Tryz.zeroValue194
 t75:=Tryz.underlying130
 a75:=Tryz.isAgg130
 z75:=Tryz.sizeOf130
 v75:=Tryz.zeroValue130
 t76:=Tryz.underlying131
 a76:=Tryz.isAgg131
 z76:=Tryz.sizeOf131
 v76:=Tryz.zeroValue131
 t127:=Tryz.underlying187
 a127:=Tryz.isAgg187
 z127:=Tryz.sizeOf187
 v127:=Tryz.zeroValue187
 t164:=Tryz.underlying206
 a164:=Tryz.isAgg206
 z164:=Tryz.sizeOf206
 v164:=Tryz.zeroValue206}
theorem Tryz.Builder_Extra_156:Builder.Extra Tryz.prog Tryz.lays156_ren:={
 sizeBuilder:=by kernel_rfl
 liesBuilder:=by kernel_rfl
 t5:=Tryz.underlying5
 a5:=Tryz.isAgg5
 z5:=Tryz.sizeOf5
 v5:=Tryz.zeroValue5
 infoByte:=by kernel_rfl
 cellsByte:=by kernel_rfl
 sizeByte:=by kernel_rfl
 neB5:=by decide}
open Go.RowKit in
theorem Tryz.strings_Join_none (a:Option Addr) (c:Nat) (sep:ByteArray) (w:World):
 Calls Tryz.prog 166 #[.slice a 0 c, .string sep] w fun e w' => e= .returned (.string ⟨#[]⟩)∧w' =w:=Any.strings_Join_none Tryz.lays156 Tryz.Builder_Extra_156 a c sep w
open Go.RowKit in
theorem Tryz.strings_Join (bk o c:Nat) (xs:List ByteArray) (sep:ByteArray) (w:World) (hcells:∀(j:Nat) x,xs[j]? =some x→w.cell? ⟨bk,o+j,none⟩=some (.string x)) (hbk:bk < w.heap.size) (hN:xs.length≤140737488355328) (hcap:xs.length≤c) (hlen:(Lib.join (xs.map (·.data.toList)) sep.data.toList).length≤140737488355328):
 Calls Tryz.prog 166 #[.slice (some ⟨bk,o,none⟩) xs.length c, .string sep] w fun e w' => e= .returned (.string ⟨(Lib.join (xs.map (·.data.toList)) sep.data.toList).toArray⟩)∧Below w.heap.size w w' :=Any.strings_Join Tryz.lays156 Tryz.Builder_Extra_156 bk o c xs sep w hcells hbk hN hcap hlen
def Tryz.lays137_ren:Go.Shelf.Ren:=⟨fun | 137=> 132 | 217=> 153 | 266=> 168 | n=> n,fun | 9=> 9 | 5=> 5 | 3=> 3 | n=> n,fun | n=> n⟩
theorem Tryz.lays137:Go.Proofs.Lays.n137 Tryz.prog Tryz.lays137_ren:={
 mixed:=by kernel_rfl
 f137:=Tryz.func132.trans (congrArg some (by kernel_rfl))
 f217:=Tryz.func153.trans (congrArg some (by kernel_rfl))
 f266:=Tryz.func168.trans (congrArg some (by kernel_rfl))
 t3:=Tryz.underlying3
 a3:=Tryz.isAgg3
 z3:=Tryz.sizeOf3
 v3:=Tryz.zeroValue3
 t5:=Tryz.underlying5
 a5:=Tryz.isAgg5
 z5:=Tryz.sizeOf5
 v5:=Tryz.zeroValue5
 t9:=Tryz.underlying9
 a9:=Tryz.isAgg9
 z9:=Tryz.sizeOf9
 v9:=Tryz.zeroValue9}
open Go.RowKit in
theorem Tryz.strings_IndexByte (s:ByteArray) (c:Int) (w:World):
 Calls Tryz.prog 132 #[.string s, .int .u8 c] w fun e w' => e= .returned (.int .i64 (Lib.indexByte s.data.toList c.toNat.toUInt8))∧w' =w:=Any.strings_IndexByte Tryz.lays137 s c w
def Tryz.lays172_ren:Go.Shelf.Ren:=⟨fun | 172=> 104 | 244=> 121 | 245=> 122 | 247=> 142 | 279=> 143 | 280=> 144 | 281=> 145 | 282=> 146 | 287=> 160 | 316=> 161 | 171=> 149 | 205=> 162 | 321=> 172 | 322=> 173 | 243=> 164 | 246=> 174 | 283=> 179 | 284=> 180 | 285=> 181 | 286=> 182 | 129=> 187 | 317=> 186 | 318=> 188 | 319=> 189 | 320=> 190 | 337=> 193 | 338=> 194 | n=> n,fun | 9=> 9 | 3=> 3 | 75=> 130 | 76=> 131 | 4=> 4 | 5=> 5 | 167=> 161 | 37=> 26 | 0=> 0 | 85=> 162 | 2=> 2 | 168=> 164 | 53=> 173 | 175=> 174 | 46=> 111 | 210=> 178 | 127=> 187 | 145=> 190 | 143=> 188 | 21=> 21 | 171=> 196 | 173=> 199 | 212=> 203 | 51=> 125 | 20=> 20 | 213=> 204 | 232=> 210 | 233=> 211 | 80=> 195 | n=> n,fun | 15=> 1 | 16=> 2 | 17=> 3 | 18=> 4 | 19=> 5 | n=> n⟩
theorem Tryz.lays172:Go.Proofs.Lays.n172 Tryz.prog Tryz.lays172_ren:={
 mixed:=by kernel_rfl
 f129:=Tryz.func187.trans (congrArg some (by kernel_rfl))
 f171:=Tryz.func149.trans (congrArg some (by kernel_rfl))
 f172:=Tryz.func104.trans (congrArg some (by kernel_rfl))
 f205:=Tryz.func162.trans (congrArg some (by kernel_rfl))
 f243:=Tryz.func164.trans (congrArg some (by kernel_rfl))
 f244:=Tryz.func121.trans (congrArg some (by kernel_rfl))
 f245:=Tryz.func122.trans (congrArg some (by kernel_rfl))
 f246:=Tryz.func174.trans (congrArg some (by kernel_rfl))
 f247:=Tryz.func142.trans (congrArg some (by kernel_rfl))
 f279:=Tryz.func143.trans (congrArg some (by kernel_rfl))
 f280:=Tryz.func144.trans (congrArg some (by kernel_rfl))
 f281:=Tryz.func145.trans (congrArg some (by kernel_rfl))
 f282:=Tryz.func146.trans (congrArg some (by kernel_rfl))
 f283:=Tryz.func179.trans (congrArg some (by kernel_rfl))
 f284:=Tryz.func180.trans (congrArg some (by kernel_rfl))
 f285:=Tryz.func181.trans (congrArg some (by kernel_rfl))
 f286:=Tryz.func182.trans (congrArg some (by kernel_rfl))
 f287:=Tryz.func160.trans (congrArg some (by kernel_rfl))
 f316:=Tryz.func161.trans (congrArg some (by kernel_rfl))
 f317:=Tryz.func186.trans (congrArg some (by kernel_rfl))
 f318:=Tryz.func188.trans (congrArg some (by kernel_rfl))
 f319:=Tryz.func189.trans (congrArg some (by kernel_rfl))
 f320:=Tryz.func190.trans (congrArg some (by kernel_rfl))
 f321:=Tryz.func172.trans (congrArg some (by kernel_rfl))
 f322:=Tryz.func173.trans (congrArg some (by kernel_rfl))
 f337:=Tryz.func193.trans (congrArg some (by kernel_rfl))
 f338:=Tryz.func194.trans (congrArg some (by kernel_rfl))
 t0:=Tryz.underlying0
 a0:=Tryz.isAgg0
 z0:=Tryz.sizeOf0
 v0:=Tryz.zeroValue0
 t2:=Tryz.underlying2
 a2:=Tryz.isAgg2
 z2:=Tryz.sizeOf2
 v2:=Tryz.zeroValue2
 t3:=Tryz.underlying3
 a3:=Tryz.isAgg3
 z3:=Tryz.sizeOf3
 v3:=Tryz.zeroValue3
 t4:=Tryz.underlying4
 a4:=Tryz.isAgg4
 z4:=Tryz.sizeOf4
 v4:=Tryz.zeroValue4
 t5:=Tryz.underlying5
 a5:=Tryz.isAgg5
 z5:=Tryz.sizeOf5
 v5:=Tryz.zeroValue5
 t9:=Tryz.underlying9
 a9:=Tryz.isAgg9
 z9:=Tryz.sizeOf9
 v9:=Tryz.zeroValue9
 t20:=Tryz.underlying20
 a20:=Tryz.isAgg20
 z20:=Tryz.sizeOf20
 v20:=Tryz.zeroValue20
 t21:=Tryz.underlying21
 a21:=Tryz.isAgg21
 z21:=Tryz.sizeOf21
 v21:=Tryz.zeroValue21
 t37:=Tryz.underlying26
 a37:=Tryz.isAgg26
 z37:=Tryz.sizeOf26
 v37:=Tryz.zeroValue26
 t46:=Tryz.underlying111
 a46:=Tryz.isAgg111
 z46:=Tryz.sizeOf111
 v46:=Tryz.zeroValue111
 t51:=Tryz.underlying125
 a51:=Tryz.isAgg125
 z51:=Tryz.sizeOf125
 v51:=Tryz.zeroValue125
 t53:=Tryz.underlying173
 a53:=Tryz.isAgg173
 z53:=Tryz.sizeOf173
 v53:=Tryz.zeroValue173
 t75:=Tryz.underlying130
 a75:=Tryz.isAgg130
 z75:=Tryz.sizeOf130
 v75:=Tryz.zeroValue130
 t76:=Tryz.underlying131
 a76:=Tryz.isAgg131
 z76:=Tryz.sizeOf131
 v76:=Tryz.zeroValue131
 t85:=Tryz.underlying162
 a85:=Tryz.isAgg162
 z85:=Tryz.sizeOf162
 v85:=Tryz.zeroValue162
 t127:=Tryz.underlying187
 a127:=Tryz.isAgg187
 z127:=Tryz.sizeOf187
 v127:=Tryz.zeroValue187
 t143:=Tryz.underlying188
 a143:=Tryz.isAgg188
 z143:=Tryz.sizeOf188
 v143:=Tryz.zeroValue188
 t145:=Tryz.underlying190
 a145:=Tryz.isAgg190
 z145:=Tryz.sizeOf190
 v145:=Tryz.zeroValue190
 t167:=Tryz.underlying161
 a167:=Tryz.isAgg161
 z167:=Tryz.sizeOf161
 v167:=Tryz.zeroValue161
 t168:=Tryz.underlying164
 a168:=Tryz.isAgg164
 z168:=Tryz.sizeOf164
 v168:=Tryz.zeroValue164
 t171:=Tryz.underlying196
 a171:=Tryz.isAgg196
 z171:=Tryz.sizeOf196
 v171:=Tryz.zeroValue196
 t173:=Tryz.underlying199
 a173:=Tryz.isAgg199
 z173:=Tryz.sizeOf199
 v173:=Tryz.zeroValue199
 t175:=Tryz.underlying174
 a175:=Tryz.isAgg174
 z175:=Tryz.sizeOf174
 v175:=Tryz.zeroValue174
 t210:=Tryz.underlying178
 a210:=Tryz.isAgg178
 z210:=Tryz.sizeOf178
 v210:=Tryz.zeroValue178
 t212:=Tryz.underlying203
 a212:=Tryz.isAgg203
 z212:=Tryz.sizeOf203
 v212:=Tryz.zeroValue203
 t213:=Tryz.underlying204
 a213:=Tryz.isAgg204
 z213:=Tryz.sizeOf204
 t232:=Tryz.underlying210
 a232:=Tryz.isAgg210
 z232:=Tryz.sizeOf210
 v232:=Tryz.zeroValue210
 t233:=Tryz.underlying211
 a233:=Tryz.isAgg211
 z233:=Tryz.sizeOf211
 v233:=Tryz.zeroValue211
 g15:=by kernel_rfl
 g16:=by kernel_rfl
 g17:=by kernel_rfl
 g18:=by kernel_rfl
 g19:=by kernel_rfl}
open Go.RowKit in
theorem Tryz.strconv_Atoi (s:ByteArray) (n:Int) (hl:s.size≤18) (h:Lib.atoi s.data.toList=some n) (w:World):
 Calls Tryz.prog 104 #[.string s] w fun e w' => e= .returned (.tuple #[.int .i64 n, .nilIface])∧∃t,w' =Lib.bytesWorld w 5 t:=Any.strconv_Atoi Tryz.lays172 s n hl h w
def Tryz.laysM171_ren:Go.Shelf.Ren:=⟨fun | 171=> 149 | 243=> 164 | 246=> 174 | 283=> 179 | 284=> 180 | 285=> 181 | 286=> 182 | 129=> 187 | 317=> 186 | 318=> 188 | 319=> 189 | 320=> 190 | 337=> 193 | 338=> 194 | n=> n,fun | 3=> 3 | 9=> 9 | 2=> 2 | 4=> 4 | 171=> 196 | 0=> 0 | 53=> 173 | 37=> 26 | 5=> 5 | 173=> 199 | 212=> 203 | 51=> 125 | 20=> 20 | 213=> 204 | 46=> 111 | 232=> 210 | 233=> 211 | n=> n,fun | 17=> 3 | 18=> 4 | 19=> 5 | n=> n⟩
theorem Tryz.laysM171:Go.Proofs.LaysM.n171 Tryz.prog Tryz.laysM171_ren:={
 mixed:=by kernel_rfl
 f129:=Tryz.func187.trans (congrArg some (by kernel_rfl))
 f171:=Tryz.func149.trans (congrArg some (by kernel_rfl))
 f243:=Tryz.func164.trans (congrArg some (by kernel_rfl))
 f246:=Tryz.func174.trans (congrArg some (by kernel_rfl))
 f283:=Tryz.func179.trans (congrArg some (by kernel_rfl))
 f284:=Tryz.func180.trans (congrArg some (by kernel_rfl))
 f285:=Tryz.func181.trans (congrArg some (by kernel_rfl))
 f286:=Tryz.func182.trans (congrArg some (by kernel_rfl))
 f317:=Tryz.func186.trans (congrArg some (by kernel_rfl))
 f318:=Tryz.func188.trans (congrArg some (by kernel_rfl))
 f319:=Tryz.func189.trans (congrArg some (by kernel_rfl))
 f320:=Tryz.func190.trans (congrArg some (by kernel_rfl))
 f337:=Tryz.func193.trans (congrArg some (by kernel_rfl))
 f338:=Tryz.func194.trans (congrArg some (by kernel_rfl))
 t0:=Tryz.underlying0
 a0:=Tryz.isAgg0
 z0:=Tryz.sizeOf0
 v0:=Tryz.zeroValue0
 t2:=Tryz.underlying2
 a2:=Tryz.isAgg2
 z2:=Tryz.sizeOf2
 v2:=Tryz.zeroValue2
 t3:=Tryz.underlying3
 a3:=Tryz.isAgg3
 z3:=Tryz.sizeOf3
 v3:=Tryz.zeroValue3
 t4:=Tryz.underlying4
 a4:=Tryz.isAgg4
 z4:=Tryz.sizeOf4
 v4:=Tryz.zeroValue4
 t5:=Tryz.underlying5
 a5:=Tryz.isAgg5
 z5:=Tryz.sizeOf5
 v5:=Tryz.zeroValue5
 t9:=Tryz.underlying9
 a9:=Tryz.isAgg9
 z9:=Tryz.sizeOf9
 v9:=Tryz.zeroValue9
 t20:=Tryz.underlying20
 a20:=Tryz.isAgg20
 z20:=Tryz.sizeOf20
 v20:=Tryz.zeroValue20
 t37:=Tryz.underlying26
 a37:=Tryz.isAgg26
 z37:=Tryz.sizeOf26
 v37:=Tryz.zeroValue26
 t46:=Tryz.underlying111
 a46:=Tryz.isAgg111
 z46:=Tryz.sizeOf111
 v46:=Tryz.zeroValue111
 t51:=Tryz.underlying125
 a51:=Tryz.isAgg125
 z51:=Tryz.sizeOf125
 v51:=Tryz.zeroValue125
 t53:=Tryz.underlying173
 a53:=Tryz.isAgg173
 z53:=Tryz.sizeOf173
 v53:=Tryz.zeroValue173
 t171:=Tryz.underlying196
 a171:=Tryz.isAgg196
 z171:=Tryz.sizeOf196
 v171:=Tryz.zeroValue196
 t173:=Tryz.underlying199
 a173:=Tryz.isAgg199
 z173:=Tryz.sizeOf199
 v173:=Tryz.zeroValue199
 t212:=Tryz.underlying203
 a212:=Tryz.isAgg203
 z212:=Tryz.sizeOf203
 v212:=Tryz.zeroValue203
 t213:=Tryz.underlying204
 a213:=Tryz.isAgg204
 z213:=Tryz.sizeOf204
 t232:=Tryz.underlying210
 a232:=Tryz.isAgg210
 z232:=Tryz.sizeOf210
 v232:=Tryz.zeroValue210
 t233:=Tryz.underlying211
 a233:=Tryz.isAgg211
 z233:=Tryz.sizeOf211
 v233:=Tryz.zeroValue211
 g17:=by kernel_rfl
 g18:=by kernel_rfl
 g19:=by kernel_rfl
 i0:=by kernel_rfl
 i2:=by kernel_rfl
 i3:=by kernel_rfl
 i4:=by kernel_rfl
 i5:=by kernel_rfl
 i9:=by kernel_rfl
 i20:=by kernel_rfl
 i37:=by kernel_rfl
 i46:=by kernel_rfl
 i51:=by kernel_rfl
 i53:=by kernel_rfl
 i171:=by kernel_rfl
 i173:=by kernel_rfl
 i212:=by kernel_rfl
 i232:=by kernel_rfl
 i233:=by kernel_rfl
 m17:=by kernel_rfl
 m18:=by kernel_rfl
 m19:=by kernel_rfl}
open Go.RowKit Go.Sort Go.Lib in
theorem Tryz.strconv_Itoa (n : Int) (h0 : -9223372036854775808 ≤ n) (h1 : n ≤ 9223372036854775807) (w : World) (htab : Lib.TabIs Tryz.prog w "internal/strconv.uint64pow10" .u64 Lib.pow10Tab) :
 Calls Tryz.prog 149 #[.int .i64 n] w fun e w' => e= .returned (.string ⟨(Lib.itoa n).toArray⟩)∧∃k os,w' =grow (w.drewN k) os:=Any.strconv_Itoa Tryz.laysM171 n h0 h1 w htab
def Tryz.laysC172_ren:Go.Shelf.Ren:=⟨fun | 172=> 104 | 244=> 121 | 245=> 122 | 247=> 142 | 279=> 143 | 280=> 144 | 281=> 145 | 282=> 146 | 287=> 160 | 316=> 161 | 171=> 149 | 205=> 162 | 321=> 172 | 322=> 173 | 243=> 164 | 246=> 174 | 283=> 179 | 284=> 180 | 285=> 181 | 286=> 182 | 129=> 187 | 317=> 186 | 318=> 188 | 319=> 189 | 320=> 190 | 337=> 193 | 338=> 194 | n=> n,fun | 9=> 9 | 3=> 3 | 75=> 130 | 76=> 131 | 4=> 4 | 5=> 5 | 167=> 161 | 37=> 26 | 0=> 0 | 85=> 162 | 2=> 2 | 168=> 164 | 53=> 173 | 175=> 174 | 46=> 111 | 210=> 178 | 127=> 187 | 145=> 190 | 143=> 188 | 21=> 21 | 171=> 196 | 173=> 199 | 212=> 203 | 51=> 125 | 20=> 20 | 213=> 204 | 232=> 210 | 233=> 211 | 80=> 195 | n=> n,fun | 15=> 1 | 16=> 2 | 17=> 3 | 18=> 4 | 19=> 5 | n=> n⟩
theorem Tryz.laysC172:Go.Proofs.LaysC.n172 Tryz.prog Tryz.laysC172_ren:={
 mixed:=by kernel_rfl
 f129:=Tryz.func187.trans (congrArg some (by kernel_rfl))
 f171:=Tryz.func149.trans (congrArg some (by kernel_rfl))
 f172:=Tryz.func104.trans (congrArg some (by kernel_rfl))
 f205:=Tryz.func162.trans (congrArg some (by kernel_rfl))
 f243:=Tryz.func164.trans (congrArg some (by kernel_rfl))
 f244:=Tryz.func121.trans (congrArg some (by kernel_rfl))
 f245:=Tryz.func122.trans (congrArg some (by kernel_rfl))
 f246:=Tryz.func174.trans (congrArg some (by kernel_rfl))
 f247:=Tryz.func142.trans (congrArg some (by kernel_rfl))
 f279:=Tryz.func143.trans (congrArg some (by kernel_rfl))
 f280:=Tryz.func144.trans (congrArg some (by kernel_rfl))
 f281:=Tryz.func145.trans (congrArg some (by kernel_rfl))
 f282:=Tryz.func146.trans (congrArg some (by kernel_rfl))
 f283:=Tryz.func179.trans (congrArg some (by kernel_rfl))
 f284:=Tryz.func180.trans (congrArg some (by kernel_rfl))
 f285:=Tryz.func181.trans (congrArg some (by kernel_rfl))
 f286:=Tryz.func182.trans (congrArg some (by kernel_rfl))
 f287:=Tryz.func160.trans (congrArg some (by kernel_rfl))
 f316:=Tryz.func161.trans (congrArg some (by kernel_rfl))
 f317:=Tryz.func186.trans (congrArg some (by kernel_rfl))
 f318:=Tryz.func188.trans (congrArg some (by kernel_rfl))
 f319:=Tryz.func189.trans (congrArg some (by kernel_rfl))
 f320:=Tryz.func190.trans (congrArg some (by kernel_rfl))
 f321:=Tryz.func172.trans (congrArg some (by kernel_rfl))
 f322:=Tryz.func173.trans (congrArg some (by kernel_rfl))
 f337:=Tryz.func193.trans (congrArg some (by kernel_rfl))
 f338:=Tryz.func194.trans (congrArg some (by kernel_rfl))
 t0:=Tryz.underlying0
 a0:=Tryz.isAgg0
 z0:=Tryz.sizeOf0
 v0:=Tryz.zeroValue0
 t2:=Tryz.underlying2
 a2:=Tryz.isAgg2
 z2:=Tryz.sizeOf2
 v2:=Tryz.zeroValue2
 t3:=Tryz.underlying3
 a3:=Tryz.isAgg3
 z3:=Tryz.sizeOf3
 v3:=Tryz.zeroValue3
 t4:=Tryz.underlying4
 a4:=Tryz.isAgg4
 z4:=Tryz.sizeOf4
 v4:=Tryz.zeroValue4
 t5:=Tryz.underlying5
 a5:=Tryz.isAgg5
 z5:=Tryz.sizeOf5
 v5:=Tryz.zeroValue5
 t9:=Tryz.underlying9
 a9:=Tryz.isAgg9
 z9:=Tryz.sizeOf9
 v9:=Tryz.zeroValue9
 t20:=Tryz.underlying20
 a20:=Tryz.isAgg20
 z20:=Tryz.sizeOf20
 v20:=Tryz.zeroValue20
 t21:=Tryz.underlying21
 a21:=Tryz.isAgg21
 z21:=Tryz.sizeOf21
 v21:=Tryz.zeroValue21
 t37:=Tryz.underlying26
 a37:=Tryz.isAgg26
 z37:=Tryz.sizeOf26
 v37:=Tryz.zeroValue26
 t46:=Tryz.underlying111
 a46:=Tryz.isAgg111
 z46:=Tryz.sizeOf111
 v46:=Tryz.zeroValue111
 t51:=Tryz.underlying125
 a51:=Tryz.isAgg125
 z51:=Tryz.sizeOf125
 v51:=Tryz.zeroValue125
 t53:=Tryz.underlying173
 a53:=Tryz.isAgg173
 z53:=Tryz.sizeOf173
 v53:=Tryz.zeroValue173
 t75:=Tryz.underlying130
 a75:=Tryz.isAgg130
 z75:=Tryz.sizeOf130
 v75:=Tryz.zeroValue130
 t76:=Tryz.underlying131
 a76:=Tryz.isAgg131
 z76:=Tryz.sizeOf131
 v76:=Tryz.zeroValue131
 t85:=Tryz.underlying162
 a85:=Tryz.isAgg162
 z85:=Tryz.sizeOf162
 v85:=Tryz.zeroValue162
 t127:=Tryz.underlying187
 a127:=Tryz.isAgg187
 z127:=Tryz.sizeOf187
 v127:=Tryz.zeroValue187
 t143:=Tryz.underlying188
 a143:=Tryz.isAgg188
 z143:=Tryz.sizeOf188
 v143:=Tryz.zeroValue188
 t145:=Tryz.underlying190
 a145:=Tryz.isAgg190
 z145:=Tryz.sizeOf190
 v145:=Tryz.zeroValue190
 t167:=Tryz.underlying161
 a167:=Tryz.isAgg161
 z167:=Tryz.sizeOf161
 v167:=Tryz.zeroValue161
 t168:=Tryz.underlying164
 a168:=Tryz.isAgg164
 z168:=Tryz.sizeOf164
 v168:=Tryz.zeroValue164
 t171:=Tryz.underlying196
 a171:=Tryz.isAgg196
 z171:=Tryz.sizeOf196
 v171:=Tryz.zeroValue196
 t173:=Tryz.underlying199
 a173:=Tryz.isAgg199
 z173:=Tryz.sizeOf199
 v173:=Tryz.zeroValue199
 t175:=Tryz.underlying174
 a175:=Tryz.isAgg174
 z175:=Tryz.sizeOf174
 v175:=Tryz.zeroValue174
 t210:=Tryz.underlying178
 a210:=Tryz.isAgg178
 z210:=Tryz.sizeOf178
 v210:=Tryz.zeroValue178
 t212:=Tryz.underlying203
 a212:=Tryz.isAgg203
 z212:=Tryz.sizeOf203
 v212:=Tryz.zeroValue203
 t213:=Tryz.underlying204
 a213:=Tryz.isAgg204
 z213:=Tryz.sizeOf204
 t232:=Tryz.underlying210
 a232:=Tryz.isAgg210
 z232:=Tryz.sizeOf210
 v232:=Tryz.zeroValue210
 t233:=Tryz.underlying211
 a233:=Tryz.isAgg211
 z233:=Tryz.sizeOf211
 v233:=Tryz.zeroValue211
 g15:=by kernel_rfl
 g16:=by kernel_rfl
 g17:=by kernel_rfl
 g18:=by kernel_rfl
 g19:=by kernel_rfl
 t80:=Tryz.underlying195
 a80:=Tryz.isAgg195
 z80:=Tryz.sizeOf195
 v80:=Tryz.zeroValue195
 i0:=by kernel_rfl
 i2:=by kernel_rfl
 i3:=by kernel_rfl
 i4:=by kernel_rfl
 i5:=by kernel_rfl
 i9:=by kernel_rfl
 i20:=by kernel_rfl
 i21:=by kernel_rfl
 i37:=by kernel_rfl
 i46:=by kernel_rfl
 i51:=by kernel_rfl
 i53:=by kernel_rfl
 i75:=by kernel_rfl
 i76:=by kernel_rfl
 i80:=by kernel_rfl
 i85:=by kernel_rfl
 i127:=by kernel_rfl
 i143:=by kernel_rfl
 i145:=by kernel_rfl
 i167:=by kernel_rfl
 i168:=by kernel_rfl
 i171:=by kernel_rfl
 i173:=by kernel_rfl
 i175:=by kernel_rfl
 i210:=by kernel_rfl
 i212:=by kernel_rfl
 i232:=by kernel_rfl
 i233:=by kernel_rfl
 m15:=by kernel_rfl
 m16:=by kernel_rfl
 m17:=by kernel_rfl
 m18:=by kernel_rfl
 m19:=by kernel_rfl
 c0:=by kernel_rfl
 c2:=by kernel_rfl
 c3:=by kernel_rfl
 c4:=by kernel_rfl
 c5:=by kernel_rfl
 c9:=by kernel_rfl
 c20:=by kernel_rfl
 c21:=by kernel_rfl
 c37:=by kernel_rfl
 c46:=by kernel_rfl
 c51:=by kernel_rfl
 c53:=by kernel_rfl
 c75:=by kernel_rfl
 c76:=by kernel_rfl
 c80:=by kernel_rfl
 c85:=by kernel_rfl
 c127:=by kernel_rfl
 c143:=by kernel_rfl
 c145:=by kernel_rfl
 c167:=by kernel_rfl
 c168:=by kernel_rfl
 c171:=by kernel_rfl
 c173:=by kernel_rfl
 c175:=by kernel_rfl
 c210:=by kernel_rfl
 c212:=by kernel_rfl
 c213:=by kernel_rfl
 c232:=by kernel_rfl
 c233:=by kernel_rfl}
open Go.RowKit in
theorem Tryz.strconv_Atoi_err_var (s : ByteArray) (hl : s.size ≤ 18) (h : Lib.atoi s.data.toList = none) (tp : TypeId) (p : Value) (w : World) (hvar : w.var? Tryz.prog "strconv.ErrSyntax" = some #[.iface tp p]) :
 Calls Tryz.prog 104 #[.string s] w fun e w' => ∃N,e= .returned (.tuple #[.int .i64 0, .iface 164 (.pointer (some ⟨N,0,none⟩))])∧w.heap.size≤N∧w'.heap[N]? =some (.cells #[.string ⟨#[65,116,111,105]⟩, .string s, .iface tp p] 178 (0,0))∧Below w.heap.size w w' :=Any.strconv_Atoi_err_var Tryz.laysC172 s hl h tp p w hvar
def Tryz.lays144_ren:Go.Shelf.Ren:=⟨fun | 144=> 157 | 143=> 171 | 219=> 167 | 217=> 153 | 225=> 159 | 224=> 83 | 267=> 178 | 266=> 168 | 314=> 185 | n=> n,fun | 9=> 9 | 4=> 4 | 3=> 3 | 5=> 5 | 46=> 111 | 146=> 126 | 51=> 125 | n=> n,fun | 1=> 0 | n=> n⟩
theorem Tryz.lays144:Go.Proofs.Lays.n144 Tryz.prog Tryz.lays144_ren:={
 mixed:=by kernel_rfl
 f143:=Tryz.func171.trans (congrArg some (by kernel_rfl))
 f144:=Tryz.func157.trans (congrArg some (by kernel_rfl))
 f217:=Tryz.func153.trans (congrArg some (by kernel_rfl))
 f219:=Tryz.func167.trans (congrArg some (by kernel_rfl))
 f224:=Tryz.func83.trans (congrArg some (by kernel_rfl))
 f225:=Tryz.func159.trans (congrArg some (by kernel_rfl))
 f266:=Tryz.func168.trans (congrArg some (by kernel_rfl))
 f267:=Tryz.func178.trans (congrArg some (by kernel_rfl))
 f314:=Tryz.func185.trans (congrArg some (by kernel_rfl))
 t3:=Tryz.underlying3
 a3:=Tryz.isAgg3
 z3:=Tryz.sizeOf3
 v3:=Tryz.zeroValue3
 t4:=Tryz.underlying4
 a4:=Tryz.isAgg4
 z4:=Tryz.sizeOf4
 v4:=Tryz.zeroValue4
 t5:=Tryz.underlying5
 a5:=Tryz.isAgg5
 z5:=Tryz.sizeOf5
 v5:=Tryz.zeroValue5
 t9:=Tryz.underlying9
 a9:=Tryz.isAgg9
 z9:=Tryz.sizeOf9
 v9:=Tryz.zeroValue9
 t46:=Tryz.underlying111
 a46:=Tryz.isAgg111
 z46:=Tryz.sizeOf111
 v46:=Tryz.zeroValue111
 t51:=Tryz.underlying125
 a51:=Tryz.isAgg125
 z51:=Tryz.sizeOf125
 v51:=Tryz.zeroValue125
 t146:=Tryz.underlying126
 a146:=Tryz.isAgg126
 z146:=Tryz.sizeOf126
 v146:=Tryz.zeroValue126
 g1:=by kernel_rfl}
open Go.RowKit Go.Lib in
theorem Tryz.strings_Contains (s sub:ByteArray) (m:Int) (w:World) (hs:s.size < 4294967281) (hm:w.cell? ⟨0,0,none⟩=some (.int .i64 m)):
 Calls Tryz.prog 157 #[.string s, .string sub] w fun e w' => e= .returned (.bool (Lib.contains s.data.toList sub.data.toList))∧w' =w:=Any.strings_Contains Tryz.lays144 s sub m w hs hm
def Tryz.lays145_ren:Go.Shelf.Ren:=⟨fun | 145=> 130 | 220=> 152 | 219=> 167 | 217=> 153 | 225=> 159 | 224=> 83 | 267=> 178 | 266=> 168 | 314=> 185 | n=> n,fun | 9=> 9 | 4=> 4 | 59=> 138 | 3=> 3 | 5=> 5 | 46=> 111 | 146=> 126 | 51=> 125 | n=> n,fun | 1=> 0 | n=> n⟩
theorem Tryz.lays145:Go.Proofs.Lays.n145 Tryz.prog Tryz.lays145_ren:={
 mixed:=by kernel_rfl
 f145:=Tryz.func130.trans (congrArg some (by kernel_rfl))
 f217:=Tryz.func153.trans (congrArg some (by kernel_rfl))
 f219:=Tryz.func167.trans (congrArg some (by kernel_rfl))
 f220:=Tryz.func152.trans (congrArg some (by kernel_rfl))
 f224:=Tryz.func83.trans (congrArg some (by kernel_rfl))
 f225:=Tryz.func159.trans (congrArg some (by kernel_rfl))
 f266:=Tryz.func168.trans (congrArg some (by kernel_rfl))
 f267:=Tryz.func178.trans (congrArg some (by kernel_rfl))
 f314:=Tryz.func185.trans (congrArg some (by kernel_rfl))
 t3:=Tryz.underlying3
 a3:=Tryz.isAgg3
 z3:=Tryz.sizeOf3
 v3:=Tryz.zeroValue3
 t4:=Tryz.underlying4
 a4:=Tryz.isAgg4
 z4:=Tryz.sizeOf4
 v4:=Tryz.zeroValue4
 t5:=Tryz.underlying5
 a5:=Tryz.isAgg5
 z5:=Tryz.sizeOf5
 v5:=Tryz.zeroValue5
 t9:=Tryz.underlying9
 a9:=Tryz.isAgg9
 z9:=Tryz.sizeOf9
 v9:=Tryz.zeroValue9
 t46:=Tryz.underlying111
 a46:=Tryz.isAgg111
 z46:=Tryz.sizeOf111
 v46:=Tryz.zeroValue111
 t51:=Tryz.underlying125
 a51:=Tryz.isAgg125
 z51:=Tryz.sizeOf125
 v51:=Tryz.zeroValue125
 t59:=Tryz.underlying138
 a59:=Tryz.isAgg138
 z59:=Tryz.sizeOf138
 v59:=Tryz.zeroValue138
 t146:=Tryz.underlying126
 a146:=Tryz.isAgg126
 z146:=Tryz.sizeOf126
 v146:=Tryz.zeroValue126
 g1:=by kernel_rfl}
open Go.RowKit Go.Lib in
theorem Tryz.strings_Cut (s sep:ByteArray) (m:Int) (w:World) (hs:s.size < 4294967281) (hm:w.cell? ⟨0,0,none⟩=some (.int .i64 m)):
 Calls Tryz.prog 130 #[.string s, .string sep] w fun e w' => e= .returned (.tuple #[.string ⟨(Lib.cut s.data.toList sep.data.toList).1.toArray⟩, .string ⟨(Lib.cut s.data.toList sep.data.toList).2.1.toArray⟩, .bool (Lib.cut s.data.toList sep.data.toList).2.2])∧∃n,w' =w.drewN n:=Any.strings_Cut Tryz.lays145 s sep m w hs hm
def Tryz.lays99_ren:Go.Shelf.Ren:=⟨fun | 99=> 155 | 206=> 169 | n=> n,fun | 9=> 9 | 4=> 4 | 3=> 3 | n=> n,fun | n=> n⟩
theorem Tryz.lays99:Go.Proofs.Lays.n99 Tryz.prog Tryz.lays99_ren:={
 mixed:=by kernel_rfl
 f99:=Tryz.func155.trans (congrArg some (by kernel_rfl))
 f206:=Tryz.func169.trans (congrArg some (by kernel_rfl))
 t3:=Tryz.underlying3
 a3:=Tryz.isAgg3
 z3:=Tryz.sizeOf3
 v3:=Tryz.zeroValue3
 t4:=Tryz.underlying4
 a4:=Tryz.isAgg4
 z4:=Tryz.sizeOf4
 v4:=Tryz.zeroValue4
 t9:=Tryz.underlying9
 a9:=Tryz.isAgg9
 z9:=Tryz.sizeOf9
 v9:=Tryz.zeroValue9}
open Go.RowKit Go.Lib in
theorem Tryz.strings_HasPrefix (s p:ByteArray) (w:World):
 Calls Tryz.prog 155 #[.string s, .string p] w fun e w' => e= .returned (.bool (Lib.hasPrefix s.data.toList p.data.toList))∧w' =w:=Any.strings_HasPrefix Tryz.lays99 s p w
def Tryz.lays100_ren:Go.Shelf.Ren:=⟨fun | 100=> 156 | 207=> 170 | n=> n,fun | 9=> 9 | 4=> 4 | 3=> 3 | n=> n,fun | n=> n⟩
theorem Tryz.lays100:Go.Proofs.Lays.n100 Tryz.prog Tryz.lays100_ren:={
 mixed:=by kernel_rfl
 f100:=Tryz.func156.trans (congrArg some (by kernel_rfl))
 f207:=Tryz.func170.trans (congrArg some (by kernel_rfl))
 t3:=Tryz.underlying3
 a3:=Tryz.isAgg3
 z3:=Tryz.sizeOf3
 v3:=Tryz.zeroValue3
 t4:=Tryz.underlying4
 a4:=Tryz.isAgg4
 z4:=Tryz.sizeOf4
 v4:=Tryz.zeroValue4
 t9:=Tryz.underlying9
 a9:=Tryz.isAgg9
 z9:=Tryz.sizeOf9
 v9:=Tryz.zeroValue9}
open Go.RowKit Go.Lib in
theorem Tryz.strings_HasSuffix (s p:ByteArray) (w:World) (hs:s.size≤9223372036854775807):
 Calls Tryz.prog 156 #[.string s, .string p] w fun e w' => e= .returned (.bool (Lib.hasSuffix s.data.toList p.data.toList))∧w' =w:=Any.strings_HasSuffix Tryz.lays100 s p w hs
def Tryz.lays226_ren:Go.Shelf.Ren:=⟨fun | 226=> 139 | n=> n,fun | 3=> 3 | 4=> 4 | n=> n,fun | n=> n⟩
theorem Tryz.lays226:Go.Proofs.Lays.n226 Tryz.prog Tryz.lays226_ren:={
 mixed:=by kernel_rfl
 f226:=Tryz.func139.trans (congrArg some (by kernel_rfl))
 t3:=Tryz.underlying3
 a3:=Tryz.isAgg3
 z3:=Tryz.sizeOf3
 v3:=Tryz.zeroValue3
 t4:=Tryz.underlying4
 a4:=Tryz.isAgg4
 z4:=Tryz.sizeOf4
 v4:=Tryz.zeroValue4}
open Go.RowKit Go.Lib in
theorem Tryz.strings_shouldUseASCIISet (n:Int) (w:World):
 Calls Tryz.prog 139 #[.int .i64 n] w fun e w' => e= .returned (.bool (decide (8 < n)))∧w' =w:=Any.strings_shouldUseASCIISet Tryz.lays226 n w
def Tryz.lays153_ren:Go.Shelf.Ren:=⟨fun | 153=> 120 | 152=> 138 | 226=> 139 | 227=> 140 | 228=> 141 | 137=> 132 | 119=> 158 | 224=> 83 | 225=> 159 | 217=> 153 | 266=> 168 | n=> n,fun | 9=> 9 | 3=> 3 | 4=> 4 | 5=> 5 | 21=> 21 | 117=> 159 | 116=> 158 | 0=> 0 | 46=> 111 | 124=> 172 | n=> n,fun | n=> n⟩
theorem Tryz.lays153:Go.Proofs.Lays.n153 Tryz.prog Tryz.lays153_ren:={
 mixed:=by kernel_rfl
 f119:=Tryz.func158.trans (congrArg some (by kernel_rfl))
 f137:=Tryz.func132.trans (congrArg some (by kernel_rfl))
 f152:=Tryz.func138.trans (congrArg some (by kernel_rfl))
 f153:=Tryz.func120.trans (congrArg some (by kernel_rfl))
 f217:=Tryz.func153.trans (congrArg some (by kernel_rfl))
 f224:=Tryz.func83.trans (congrArg some (by kernel_rfl))
 f225:=Tryz.func159.trans (congrArg some (by kernel_rfl))
 f226:=Tryz.func139.trans (congrArg some (by kernel_rfl))
 f227:=Tryz.func140.trans (congrArg some (by kernel_rfl))
 f228:=Tryz.func141.trans (congrArg some (by kernel_rfl))
 f266:=Tryz.func168.trans (congrArg some (by kernel_rfl))
 t0:=Tryz.underlying0
 a0:=Tryz.isAgg0
 z0:=Tryz.sizeOf0
 v0:=Tryz.zeroValue0
 t3:=Tryz.underlying3
 a3:=Tryz.isAgg3
 z3:=Tryz.sizeOf3
 v3:=Tryz.zeroValue3
 t4:=Tryz.underlying4
 a4:=Tryz.isAgg4
 z4:=Tryz.sizeOf4
 v4:=Tryz.zeroValue4
 t5:=Tryz.underlying5
 a5:=Tryz.isAgg5
 z5:=Tryz.sizeOf5
 v5:=Tryz.zeroValue5
 t9:=Tryz.underlying9
 a9:=Tryz.isAgg9
 z9:=Tryz.sizeOf9
 v9:=Tryz.zeroValue9
 t21:=Tryz.underlying21
 a21:=Tryz.isAgg21
 z21:=Tryz.sizeOf21
 v21:=Tryz.zeroValue21
 t46:=Tryz.underlying111
 a46:=Tryz.isAgg111
 z46:=Tryz.sizeOf111
 v46:=Tryz.zeroValue111
 t116:=Tryz.underlying158
 a116:=Tryz.isAgg158
 z116:=Tryz.sizeOf158
 t117:=Tryz.underlying159
 a117:=Tryz.isAgg159
 z117:=Tryz.sizeOf159
 v117:=Tryz.zeroValue159
 t124:=Tryz.underlying172
 a124:=Tryz.isAgg172
 z124:=Tryz.sizeOf172
 v124:=Tryz.zeroValue172}
open Go.RowKit Go.Lib in
theorem Tryz.strings_IndexAny_long (hv116:∀w,(zeroValue 158).run Tryz.prog w= .ok (.agg (Array.replicate 256 (.bool false))) w) (s chars:ByteArray) (w:World) (h2:2≤chars.size) (h8:8 < s.size) (hs:s.size < 4294967281) (hcs:chars.size < 4294967281) (hascii:∀(j:Nat) b,chars.data.toList[j]? =some b→b.toNat < 128):
 Calls Tryz.prog 120 #[.string s, .string chars] w fun e w' => e= .returned (.int .i64 (Lib.indexAny s.data.toList chars.data.toList))∧w' =((w.alloc (.cells (Lib.setCells chars.data.toList) 158)).alloc (.cells (Lib.setCells chars.data.toList) 158)):=Any.strings_IndexAny_long Tryz.lays153 hv116 (by kernel_rfl) s chars w h2 h8 hs hcs hascii
open Go.RowKit Go.Lib in
theorem Tryz.strings_IndexAny (hv116:∀w,(zeroValue 158).run Tryz.prog w= .ok (.agg (Array.replicate 256 (.bool false))) w) (s chars:ByteArray) (w:World) (hs:s.size < 4294967281) (hcs:chars.size < 4294967281) (has:∀(j:Nat) b,s.data.toList[j]? =some b→b.toNat < 128) (hac:∀(j:Nat) b,chars.data.toList[j]? =some b→b.toNat < 128):
 Calls Tryz.prog 120 #[.string s, .string chars] w fun e w' => e= .returned (.int .i64 (Lib.indexAny s.data.toList chars.data.toList))∧Below w.heap.size w w' :=Any.strings_IndexAny Tryz.lays153 hv116 (by kernel_rfl) s chars w hs hcs has hac
def Tryz.lays150_ren:Go.Shelf.Ren:=⟨fun | 150=> 103 | 153=> 120 | 152=> 138 | 226=> 139 | 227=> 140 | 228=> 141 | 137=> 132 | 119=> 158 | 224=> 83 | 225=> 159 | 217=> 153 | 266=> 168 | n=> n,fun | 9=> 9 | 4=> 4 | 3=> 3 | 5=> 5 | 21=> 21 | 117=> 159 | 116=> 158 | 0=> 0 | 46=> 111 | 124=> 172 | n=> n,fun | n=> n⟩
theorem Tryz.lays150:Go.Proofs.Lays.n150 Tryz.prog Tryz.lays150_ren:={
 mixed:=by kernel_rfl
 f119:=Tryz.func158.trans (congrArg some (by kernel_rfl))
 f137:=Tryz.func132.trans (congrArg some (by kernel_rfl))
 f150:=Tryz.func103.trans (congrArg some (by kernel_rfl))
 f152:=Tryz.func138.trans (congrArg some (by kernel_rfl))
 f153:=Tryz.func120.trans (congrArg some (by kernel_rfl))
 f217:=Tryz.func153.trans (congrArg some (by kernel_rfl))
 f224:=Tryz.func83.trans (congrArg some (by kernel_rfl))
 f225:=Tryz.func159.trans (congrArg some (by kernel_rfl))
 f226:=Tryz.func139.trans (congrArg some (by kernel_rfl))
 f227:=Tryz.func140.trans (congrArg some (by kernel_rfl))
 f228:=Tryz.func141.trans (congrArg some (by kernel_rfl))
 f266:=Tryz.func168.trans (congrArg some (by kernel_rfl))
 t0:=Tryz.underlying0
 a0:=Tryz.isAgg0
 z0:=Tryz.sizeOf0
 v0:=Tryz.zeroValue0
 t3:=Tryz.underlying3
 a3:=Tryz.isAgg3
 z3:=Tryz.sizeOf3
 v3:=Tryz.zeroValue3
 t4:=Tryz.underlying4
 a4:=Tryz.isAgg4
 z4:=Tryz.sizeOf4
 v4:=Tryz.zeroValue4
 t5:=Tryz.underlying5
 a5:=Tryz.isAgg5
 z5:=Tryz.sizeOf5
 v5:=Tryz.zeroValue5
 t9:=Tryz.underlying9
 a9:=Tryz.isAgg9
 z9:=Tryz.sizeOf9
 v9:=Tryz.zeroValue9
 t21:=Tryz.underlying21
 a21:=Tryz.isAgg21
 z21:=Tryz.sizeOf21
 v21:=Tryz.zeroValue21
 t46:=Tryz.underlying111
 a46:=Tryz.isAgg111
 z46:=Tryz.sizeOf111
 v46:=Tryz.zeroValue111
 t116:=Tryz.underlying158
 a116:=Tryz.isAgg158
 z116:=Tryz.sizeOf158
 t117:=Tryz.underlying159
 a117:=Tryz.isAgg159
 z117:=Tryz.sizeOf159
 v117:=Tryz.zeroValue159
 t124:=Tryz.underlying172
 a124:=Tryz.isAgg172
 z124:=Tryz.sizeOf172
 v124:=Tryz.zeroValue172}
open Go.RowKit Go.Lib in
theorem Tryz.strings_ContainsAny (hv116:∀w,(zeroValue 158).run Tryz.prog w= .ok (.agg (Array.replicate 256 (.bool false))) w) (s chars:ByteArray) (w:World) (hs:s.size < 4294967281) (hcs:chars.size < 4294967281) (has:∀(j:Nat) b,s.data.toList[j]? =some b→b.toNat < 128) (hac:∀(j:Nat) b,chars.data.toList[j]? =some b→b.toNat < 128):
 Calls Tryz.prog 103 #[.string s, .string chars] w fun e w' => e= .returned (.bool (Lib.containsAny s.data.toList chars.data.toList))∧Below w.heap.size w w' :=Any.strings_ContainsAny Tryz.lays150 hv116 (by kernel_rfl) s chars w hs hcs has hac
def Tryz.lays185_ren:Go.Shelf.Ren:=⟨fun | 185=> 59 | 187=> 81 | 115=> 80 | 253=> 82 | 224=> 83 | 254=> 84 | 255=> 100 | 291=> 101 | n=> n,fun | 37=> 26 | 3=> 3 | 4=> 4 | 0=> 0 | 5=> 5 | 46=> 111 | 9=> 9 | 146=> 126 | 51=> 125 | n=> n,fun | 1=> 0 | n=> n⟩
theorem Tryz.lays185:Go.Proofs.Lays.n185 Tryz.prog Tryz.lays185_ren:={
 mixed:=by kernel_rfl
 f115:=Tryz.func80.trans (congrArg some (by kernel_rfl))
 f185:=Tryz.func59.trans (congrArg some (by kernel_rfl))
 f187:=Tryz.func81.trans (congrArg some (by kernel_rfl))
 f224:=Tryz.func83.trans (congrArg some (by kernel_rfl))
 f253:=Tryz.func82.trans (congrArg some (by kernel_rfl))
 f254:=Tryz.func84.trans (congrArg some (by kernel_rfl))
 f255:=Tryz.func100.trans (congrArg some (by kernel_rfl))
 f291:=Tryz.func101.trans (congrArg some (by kernel_rfl))
 t0:=Tryz.underlying0
 a0:=Tryz.isAgg0
 z0:=Tryz.sizeOf0
 v0:=Tryz.zeroValue0
 t3:=Tryz.underlying3
 a3:=Tryz.isAgg3
 z3:=Tryz.sizeOf3
 v3:=Tryz.zeroValue3
 t4:=Tryz.underlying4
 a4:=Tryz.isAgg4
 z4:=Tryz.sizeOf4
 v4:=Tryz.zeroValue4
 t5:=Tryz.underlying5
 a5:=Tryz.isAgg5
 z5:=Tryz.sizeOf5
 v5:=Tryz.zeroValue5
 t9:=Tryz.underlying9
 a9:=Tryz.isAgg9
 z9:=Tryz.sizeOf9
 v9:=Tryz.zeroValue9
 t37:=Tryz.underlying26
 a37:=Tryz.isAgg26
 z37:=Tryz.sizeOf26
 v37:=Tryz.zeroValue26
 t46:=Tryz.underlying111
 a46:=Tryz.isAgg111
 z46:=Tryz.sizeOf111
 v46:=Tryz.zeroValue111
 t51:=Tryz.underlying125
 a51:=Tryz.isAgg125
 z51:=Tryz.sizeOf125
 v51:=Tryz.zeroValue125
 t146:=Tryz.underlying126
 a146:=Tryz.isAgg126
 z146:=Tryz.sizeOf126
 v146:=Tryz.zeroValue126
 g1:=by kernel_rfl}
open Go.RowKit Go.Lib in
theorem Tryz.bytes_Index_longer (p q:Option Addr) (n c m d:Nat) (w:World) (h2:2≤m) (hnm:n < m) (hm:m≤9223372036854775807):
 Calls Tryz.prog 59 #[.slice p n c, .slice q m d] w fun e w' => e= .returned (.int .i64 (-1))∧w' =w:=Any.bytes_Index_longer Tryz.lays185 p q n c m d w h2 hnm hm
def Tryz.lays115_ren:Go.Shelf.Ren:=⟨fun | 115=> 80 | n=> n,fun | 37=> 26 | 4=> 4 | 9=> 9 | 5=> 5 | n=> n,fun | n=> n⟩
theorem Tryz.lays115:Go.Proofs.Lays.n115 Tryz.prog Tryz.lays115_ren:={
 mixed:=by kernel_rfl
 f115:=Tryz.func80.trans (congrArg some (by kernel_rfl))
 t4:=Tryz.underlying4
 a4:=Tryz.isAgg4
 z4:=Tryz.sizeOf4
 v4:=Tryz.zeroValue4
 t9:=Tryz.underlying9
 a9:=Tryz.isAgg9
 z9:=Tryz.sizeOf9
 v9:=Tryz.zeroValue9
 t37:=Tryz.underlying26
 a37:=Tryz.isAgg26
 z37:=Tryz.sizeOf26
 v37:=Tryz.zeroValue26}
open Go.Proofs Go.RowKit Go.Lib in
theorem Tryz.bytes_Index_at (a1 a2:Addr) (n c1 k c2:Nat) (xs ys:List Int) (m:Int) (w:World) (hx:xs.length=n) (hy:ys.length=k) (hr1:∀x∈xs,0≤x∧x < 256) (hr2:∀y∈ys,0≤y∧y < 256) (hc1:∀i,i < n→w.cell? (a1.add i)=some (.int .u8 (xs.getD i 0))) (hc2:∀i,i < k→w.cell? (a2.add i)=some (.int .u8 (ys.getD i 0))) (hcap:n≤c1) (hs:n < 4294967281) (hk:k≤9223372036854775807) (hm:w.cell? ⟨0,0,none⟩=some (.int .i64 m)):
 Calls Tryz.prog 59 #[.slice (some a1) n c1, .slice (some a2) k c2] w fun e w' => e= .returned (.int .i64 (Lib.index (Lib.bytesOf xs) (Lib.bytesOf ys)))∧∃q,w' =w.drewN q:=Any.bytes_Index_at Tryz.lays185 a1 a2 n c1 k c2 xs ys m w hx hy hr1 hr2 hc1 hc2 hcap hs hk hm
def Tryz.laysnb116_ren:Go.Shelf.Ren:=⟨fun | 116=> 126 | 115=> 80 | n=> n,fun | 37=> 26 | 4=> 4 | 3=> 3 | 9=> 9 | 5=> 5 | n=> n,fun | n=> n⟩
theorem Tryz.laysnb116:Go.Proofs.Lays.nb116 Tryz.prog Tryz.laysnb116_ren:={
 mixed:=by kernel_rfl
 f115:=Tryz.func80.trans (congrArg some (by kernel_rfl))
 f116:=Tryz.func126.trans (congrArg some (by kernel_rfl))
 t3:=Tryz.underlying3
 a3:=Tryz.isAgg3
 z3:=Tryz.sizeOf3
 v3:=Tryz.zeroValue3
 t4:=Tryz.underlying4
 a4:=Tryz.isAgg4
 z4:=Tryz.sizeOf4
 v4:=Tryz.zeroValue4
 t9:=Tryz.underlying9
 a9:=Tryz.isAgg9
 z9:=Tryz.sizeOf9
 v9:=Tryz.zeroValue9
 t37:=Tryz.underlying26
 a37:=Tryz.isAgg26
 z37:=Tryz.sizeOf26
 v37:=Tryz.zeroValue26
 t5:=Tryz.underlying5
 a5:=Tryz.isAgg5
 z5:=Tryz.sizeOf5
 v5:=Tryz.zeroValue5}
def Tryz.laysnb117_ren:Go.Shelf.Ren:=⟨fun | 117=> 58 | 115=> 80 | n=> n,fun | 37=> 26 | 4=> 4 | 3=> 3 | 9=> 9 | 5=> 5 | n=> n,fun | n=> n⟩
theorem Tryz.laysnb117:Go.Proofs.Lays.nb117 Tryz.prog Tryz.laysnb117_ren:={
 mixed:=by kernel_rfl
 f115:=Tryz.func80.trans (congrArg some (by kernel_rfl))
 f117:=Tryz.func58.trans (congrArg some (by kernel_rfl))
 t3:=Tryz.underlying3
 a3:=Tryz.isAgg3
 z3:=Tryz.sizeOf3
 v3:=Tryz.zeroValue3
 t4:=Tryz.underlying4
 a4:=Tryz.isAgg4
 z4:=Tryz.sizeOf4
 v4:=Tryz.zeroValue4
 t9:=Tryz.underlying9
 a9:=Tryz.isAgg9
 z9:=Tryz.sizeOf9
 v9:=Tryz.zeroValue9
 t37:=Tryz.underlying26
 a37:=Tryz.isAgg26
 z37:=Tryz.sizeOf26
 v37:=Tryz.zeroValue26
 t5:=Tryz.underlying5
 a5:=Tryz.isAgg5
 z5:=Tryz.sizeOf5
 v5:=Tryz.zeroValue5}
theorem Tryz.bytes_Equal (v1 v2:Value) (xs ys:List Int) (w:World) (h1:(convert 26 9 v1).run Tryz.prog w= .ok (.string (strOfNums xs)) w) (h2:(convert 26 9 v2).run Tryz.prog w= .ok (.string (strOfNums ys)) w):
 Calls Tryz.prog 80 #[v1,v2] w fun e w' => e= .returned (.bool (Lib.bytesOf xs==Lib.bytesOf ys))∧w' =w:=Any.bytes_Equal Tryz.lays115 v1 v2 xs ys w h1 h2
theorem Tryz.bytes_HasPrefix (b1 o1 n c b2 o2 m d:Nat) (xs ys:List Int) (w:World) (hx:xs.length=n) (hy:ys.length=m) (hnc:n≤c) (hc1:∀i,i < n→w.cell? ⟨b1,o1+i,none⟩=some (.int .u8 (xs.getD i 0))) (hc2:∀i,i < m→w.cell? ⟨b2,o2+i,none⟩=some (.int .u8 (ys.getD i 0))):
 Calls Tryz.prog 126 #[.slice (some ⟨b1,o1,none⟩) n c, .slice (some ⟨b2,o2,none⟩) m d] w fun e w' => e= .returned (.bool (Lib.hasPrefix (Lib.bytesOf xs) (Lib.bytesOf ys)))∧w' =w:=Any.bytes_HasPrefix Tryz.laysnb116 b1 o1 n c b2 o2 m d xs ys w hx hy hnc hc1 hc2
theorem Tryz.bytes_HasSuffix (b1 o1 n c b2 o2 m d:Nat) (xs ys:List Int) (w:World) (hx:xs.length=n) (hy:ys.length=m) (hnc:n≤c) (hbig:n≤9223372036854775807) (hc1:∀i,i < n→w.cell? ⟨b1,o1+i,none⟩=some (.int .u8 (xs.getD i 0))) (hc2:∀i,i < m→w.cell? ⟨b2,o2+i,none⟩=some (.int .u8 (ys.getD i 0))):
 Calls Tryz.prog 58 #[.slice (some ⟨b1,o1,none⟩) n c, .slice (some ⟨b2,o2,none⟩) m d] w fun e w' => e= .returned (.bool (Lib.hasSuffix (Lib.bytesOf xs) (Lib.bytesOf ys)))∧w' =w:=Any.bytes_HasSuffix Tryz.laysnb117 b1 o1 n c b2 o2 m d xs ys w hx hy hnc hbig hc1 hc2
end Go.Proofs
namespace Go.Proofs.YtjnmamghadpedaaGreatDoor
open Go.RowKit
set_option maxRecDepth 100000
theorem W1a (g:G) (q:Nat):Old (fun _=> False) g ⟨g.w.drewN q,g.u,g.loc⟩:=
 ⟨rfl,rfl,rfl,⟨Nat.le_refl _,fun _ _=> Nat.le_refl _,fun _ _ _ _=> rfl,fun _ h=> h⟩,fun _ _ _=> ⟨rfl,rfl⟩⟩
theorem j1a {g:G} {s:Str} {v:Value} (h:Rel g (.s s) v):v= .string (strB s):=kka h
theorem qIa (s:Str) (c:UInt8) (r:Int) (hr:zMa s c=some r):Run Tryz.prog 132 [.s s, .u8 c] (.i r):=by
 unfold zMa at hr
 cases hr
 refine ⟨⟨_,_,⟨Tryz.func132,rfl,by kernel_rfl⟩⟩,fun g vs hw hg ha=> ?_⟩
 obtain ⟨hsz,hrel⟩:=ha
 obtain ⟨l⟩:=vs
 match l,hsz with
 | [x,y],_=>
  obtain rfl:=j1a (hrel 0 _ rfl)
  have e2:y= .int .u8 (c.toNat:Int):=kka (hrel 1 _ rfl)
  subst e2
  refine callsIn_wide.2 ((Tryz.strings_IndexByte (strB s) (c.toNat:Int) g.w).mono ?_)
  rintro e w' ⟨rfl,rfl⟩
  refine ⟨g,_,rfl,rfl,Old.refl _ g,hw,rfl, ?_⟩
  simp [strB]
  exact .pv (.b rfl)
end Go.Proofs.YtjnmamghadpedaaGreatDoor
namespace Go.Proofs.YtjnmamghadpedaaGreatDoor
open Go.RowKit
set_option maxRecDepth 100000
set_option maxHeartbeats 40000000
theorem wDa (a0:Int) (r:Bool) (hr:kla a0=some r):Run Tryz.prog 158 [.pv (.b (.int .i32 a0))] (.bo r):=by
 unfold kla at hr
 refine rf (fn:=Tryz.f158) ⟨Tryz.func158,rfl,by kernel_rfl⟩ rfl (fun _=> rfl) fun g0 hg=> ?_
 refine rn tk 7 rfl ?_
 refine jb hr (fun j1=> [(0, .pv (.b (.int .i32 a0))),(3, .bo j1)]) (fun j1=> []) (fun j1 hr=> ?_) (fun j1 hr=> ?_)
 ·
  refine rn tk 4 rfl ?_
  refine bs 6 hr rfl (fun c2 hr=> ?_) (fun c2 hr=> ?_)
  ·
   refine rn tk 5 rfl ?_
   cases hr
   exact jn _ rfl rfl rfl
  ·
   refine rn tk 5 rfl ?_
   cases hr
   exact jn _ rfl rfl rfl
 ·
  refine ac 3 hr rfl (fun c3 hr=> ?_) (fun c3 hr=> ?_)
  ·
   refine rn tk 8 rfl ?_
   cases hr
   exact kr tk (.inr rfl) rfl rfl
  ·
   refine jb hr (fun j4=> [(10, .bo j4)]) (fun j4=> []) (fun j4 hr=> ?_) (fun j4 hr=> ?_)
   ·
    refine rn tk 4 rfl ?_
    refine bs 13 hr rfl (fun c5 hr=> ?_) (fun c5 hr=> ?_)
    ·
     refine rn tk 5 rfl ?_
     cases hr
     exact jn _ rfl rfl rfl
    ·
     refine rn tk 5 rfl ?_
     cases hr
     exact jn _ rfl rfl rfl
   ·
    refine ac 10 hr rfl (fun c6 hr=> ?_) (fun c6 hr=> ?_)
    ·
     refine rn tk 8 rfl ?_
     cases hr
     exact kr tk (.inr rfl) rfl rfl
    ·
     refine rn tk 9 rfl ?_
     cases hr
     exact kr tk (.inr rfl) rfl rfl
theorem vZa (a0:Str) (a1:Int) (r:Int) (hr:kda a0 a1=some r):Run Tryz.prog 138 [.s a0, .pv (.b (.int .i32 a1))] (.i r):=by
 unfold kda at hr
 refine rf (fn:=Tryz.f138) ⟨Tryz.func138,rfl,by kernel_rfl⟩ rfl (fun _=> rfl) fun g0 hg=> ?_
 refine rn tk 6 rfl ?_
 refine jb hr (fun j1=> [(0, .s a0),(1, .pv (.b (.int .i32 a1))),(160, .bo j1)]) (fun j1=> []) (fun j1 hr=> ?_) (fun j1 hr=> ?_)
 ·
  refine rn tk 4 rfl ?_
  refine bs 163 hr rfl (fun c2 hr=> ?_) (fun c2 hr=> ?_)
  ·
   refine rn tk 5 rfl ?_
   cases hr
   exact jn _ rfl rfl rfl
  ·
   refine rn tk 5 rfl ?_
   cases hr
   exact jn _ rfl rfl rfl
 ·
  refine ac 160 hr rfl (fun c3 hr=> ?_) (fun c3 hr=> ?_)
  ·
   refine rn tk 5 rfl ?_
   obtain ⟨v4,h5,hr⟩:=zaa hr
   refine cl (qIa _ _ _ h5) rfl rfl ?_
   refine rn tk 5 rfl ?_
   cases hr
   exact kr tk (.inr rfl) rfl rfl
  ·
   refine rn tk 7 rfl ?_
   refine ac 171 hr rfl (fun c6 hr=> ?_) (fun c6 hr=> ?_)
   ·
    refine rn tk 4 rfl ?_
    refine wr 1175 tk rfl rfl rfl rfl ?_
    refine rn tk 3 rfl ?_
    refine al2 hr (fun s7=> [(175, .ptr 1175 0)]) (fun s7=> [(1175, .it (strB a0) s7)]) (.exit 9) (fun b8=> []) (fun b8=> []) .ret (fun b9=> [(4, .i b9)]) (fun b9=> []) rfl rfl (fun s7 x11 hr=> ?_) (fun b8 hr=> ?_) (fun b9 hr=> ?_)
    ·
     unfold kZa at hr
     refine rn tk 2 rfl ?_
     refine wnx hr rfl rfl rfl (fun c12 hr=> ?_) (fun c12 hr=> ?_)
     ·
      refine rn tk 22 rfl ?_
      refine ac 181 hr rfl (fun c13 hr=> ?_) (fun c13 hr=> ?_)
      ·
       refine rn tk 8 rfl ?_
       cases hr
       exact ato rfl rfl rfl rfl
      ·
       refine rn tk 2 rfl ?_
       cases hr
       exact atc rfl rfl
     ·
      refine rn tk 7 rfl ?_
      cases hr
      exact ato rfl rfl rfl rfl
    ·
     refine rn tk 9 rfl ?_
     cases hr
     exact kr tk (.inr rfl) rfl rfl
    ·
     refine rn tk 3 rfl ?_
     cases hr
     exact kr tk (.inr rfl) rfl rfl
   ·
    refine rn tk 3 rfl ?_
    obtain ⟨v14,h15,hr⟩:=zaa hr
    refine cl (wDa _ _ h15) rfl rfl ?_
    refine rn tk 4 rfl ?_
    refine ac 183 hr rfl (fun c16 hr=> ?_) (fun c16 hr=> ?_)
    ·
     refine rn tk 7 rfl ?_
     cases hr
     exact kr tk (.inr rfl) rfl rfl
    ·
     refine rn tk 29 rfl ?_
     refine al2 hr (fun s17=> [(0, .s a0),(7, .s ((vSa a1))),(8, .i ((w64 ((((vSa a1)).length:Int) - 1)))),(9, .i s17)]) (fun s17=> []) (.exit 1) (fun b18=> []) (fun b18=> []) .ret (fun b19=> [(4, .i b19)]) (fun b19=> []) rfl rfl (fun s17 x21 hr=> ?_) (fun b18 hr=> ?_) (fun b19 hr=> ?_)
     ·
      unfold k1a at hr
      refine rn tk 9 rfl ?_
      refine ac 26 hr rfl (fun c22 hr=> ?_) (fun c22 hr=> ?_)
      ·
       refine rn tk 4 rfl ?_
       refine jk (fun j23=> [(0, .s a0),(7, .s ((vSa a1))),(8, .i j23.1),(9, .i j23.2)]) (fun j23=> []) (fun j23=> k0a a0 a1 j23=some x21) ?_ ?_
       ·
        refine rn tk 1 rfl ?_
        obtain ⟨v24,h25,hr⟩:=zaa hr
        obtain ⟨v26,h27,hr⟩:=zaa hr
        refine dr 6 [(32, .u8 v26),(31, .i ((w64 ((((vSa a1)).length:Int) - 1)))),(30, .s ((vSa a1))),(29, .u8 v24),(28, .i s17),(27, .s a0)] mixed (by kernel_rfl) rfl rfl (pq tk rfl (.plain rfl) (pq tk rfl (.plain rfl) (.run (.plain rfl) (wRa (jMa rfl rfl zQa h25)) (pq tk rfl (.plain rfl) (pq tk rfl (.plain rfl) (.run (.plain rfl) (wRa (jMa rfl rfl zQa h27)) .nil)))))) rfl ?_
        refine rn tk 3 rfl ?_
        refine ac 33 hr rfl (fun c28 hr=> ?_) (fun c28 hr=> ?_)
        ·
         refine rn tk 1 rfl ?_
         obtain ⟨v29,h30,hr⟩:=zaa hr
         obtain ⟨v31,h32,hr⟩:=zaa hr
         refine dr 7 [(40, .u8 v31),(39, .i ((w64 ((((vSa a1)).length:Int) - 1)))),(38, .s ((vSa a1))),(37, .s v29),(36, .i ((w64 (s17+1)))),(35, .i s17),(34, .s a0)] mixed (by kernel_rfl) rfl rfl (pq tk rfl (.plain rfl) (pq tk rfl (.plain rfl) (pq tk rfl (.plain rfl) (.run (.plain rfl) (wRa (Vqa rfl rfl zQa h30)) (pq tk rfl (.plain rfl) (pq tk rfl (.plain rfl) (.run (.plain rfl) (wRa (jMa rfl rfl zQa h32)) .nil))))))) rfl ?_
         obtain ⟨v33,h34,hr⟩:=zaa hr
         refine cl (qIa _ _ _ h34) rfl rfl ?_
         refine rn tk 10 rfl ?_
         refine ac 43 hr rfl (fun c35 hr=> ?_) (fun c35 hr=> ?_)
         ·
          refine rn tk 10 rfl ?_
          cases hr
          exact ato rfl rfl rfl rfl
         ·
          refine rn tk 9 rfl ?_
          exact jn (((w64 ((((vSa a1)).length:Int) - 1)),(w64 (s17+(w64 (v33+1)))))) hr rfl rfl
        ·
         refine rn tk 1 rfl ?_
         exact jn (((w64 ((((vSa a1)).length:Int) - 1)),s17)) hr rfl rfl
       ·
        intro j23 hr
        unfold k0a at hr
        refine rn tk 7 rfl ?_
        refine al1 hr (fun s36=> [(0, .s a0),(7, .s ((vSa a1))),(8, .i j23.1),(9, .i j23.2),(12, .i s36)]) (fun s36=> []) (.exit 3) (fun b37=> [(8, .i j23.1),(9, .i j23.2)]) (fun b37=> []) rfl rfl (fun s36 x38 hr=> ?_) (fun b37 hr=> ?_)
        ·
         unfold v5a at hr
         refine rn tk 9 rfl ?_
         refine ac 51 hr rfl (fun c39 hr=> ?_) (fun c39 hr=> ?_)
         ·
          refine rn tk 5 rfl ?_
          obtain ⟨v40,h41,hr⟩:=zaa hr
          obtain ⟨v42,h43,hr⟩:=zaa hr
          refine dr 10 [(63, .u8 v42),(62, .i ((w64 (j23.1 - s36)))),(61, .i s36),(60, .i j23.1),(59, .s ((vSa a1))),(58, .u8 v40),(57, .i ((w64 (j23.2 - s36)))),(56, .i s36),(55, .i j23.2),(54, .s a0)] mixed (by kernel_rfl) rfl rfl (pq tk rfl (.plain rfl) (pq tk rfl (.plain rfl) (pq tk rfl (.plain rfl) (pq tk rfl (.plain rfl) (.run (.plain rfl) (wRa (jMa rfl rfl zQa h41)) (pq tk rfl (.plain rfl) (pq tk rfl (.plain rfl) (pq tk rfl (.plain rfl) (pq tk rfl (.plain rfl) (.run (.plain rfl) (wRa (jMa rfl rfl zQa h43)) .nil)))))))))) rfl ?_
          refine rn tk 3 rfl ?_
          refine ac 64 hr rfl (fun c44 hr=> ?_) (fun c44 hr=> ?_)
          ·
           cases hr
          ·
           refine rn tk 8 rfl ?_
           cases hr
           exact atc rfl rfl
         ·
          refine rn tk 2 rfl ?_
          cases hr
          exact ato rfl rfl rfl rfl
        ·
         refine rn tk 15 rfl ?_
         cases hr
         exact ato rfl rfl rfl rfl
      ·
       refine rn tk 2 rfl ?_
       cases hr
       exact ato rfl rfl rfl rfl
     ·
      refine rn tk 12 rfl ?_
      cases hr
      exact kr tk (.inr rfl) rfl rfl
     ·
      refine rn tk 4 rfl ?_
      cases hr
      exact kr tk (.inr rfl) rfl rfl
theorem v3a (a0:Int) (r:Bool) (hr:zGa a0=some r):Run Tryz.prog 139 [.i a0] (.bo r):=by
 unfold zGa at hr
 refine rf (fn:=Tryz.f139) ⟨Tryz.func139,rfl,by kernel_rfl⟩ rfl (fun _=> rfl) fun g0 hg=> ?_
 refine rn tk 13 rfl ?_
 cases hr
 exact kr tk (.inr rfl) rfl rfl
theorem jba (a0:Str) (a1:Str) (r:Int) (hr:qOa a0 a1=some r):Run Tryz.prog 120 [.s a0, .s a1] (.i r):=by
 unfold qOa at hr
 refine rf (fn:=Tryz.f120) ⟨Tryz.func120,rfl,by kernel_rfl⟩ rfl (fun _=> rfl) fun g0 hg=> ?_
 refine rn tk 12 rfl ?_
 refine ac 12 hr rfl (fun c1 hr=> ?_) (fun c1 hr=> ?_)
 ·
  refine rn tk 7 rfl ?_
  cases hr
  exact kr tk (.inr rfl) rfl rfl
 ·
  refine rn tk 10 rfl ?_
  refine ac 15 hr rfl (fun c2 hr=> ?_) (fun c2 hr=> ?_)
  ·
   refine rn tk 3 rfl ?_
   obtain ⟨v3,h4,hr⟩:=zaa hr
   refine ws tk h4 rfl rfl rfl rfl ?_
   refine wur tk rfl rfl rfl ?_
   refine rn tk 3 rfl ?_
   refine jb hr (fun j5=> [(0, .s a0),(5, .pv (.b (.int .i32 j5)))]) (fun j5=> []) (fun j5 hr=> ?_) (fun j5 hr=> ?_)
   ·
    refine rn tk 6 rfl ?_
    refine ac 20 hr rfl (fun c6 hr=> ?_) (fun c6 hr=> ?_)
    ·
     refine rn tk 3 rfl ?_
     cases hr
     exact jn _ rfl rfl rfl
    ·
     refine rn tk 1 rfl ?_
     cases hr
     exact jn _ rfl rfl rfl
   ·
    refine rn tk 4 rfl ?_
    obtain ⟨v7,h8,hr⟩:=zaa hr
    refine cl (vZa _ _ _ h8) rfl rfl ?_
    refine rn tk 5 rfl ?_
    cases hr
    exact kr tk (.inr rfl) rfl rfl
  ·
   refine rn tk 7 rfl ?_
   obtain ⟨v9,h10,hr⟩:=zaa hr
   refine cl (v3a _ _ h10) rfl rfl ?_
   refine rn tk 2 rfl ?_
   refine ac 26 hr rfl (fun c11 hr=> ?_) (fun c11 hr=> ?_)
   ·
    refine rn tk 3 rfl ?_
    cases hr
   ·
    refine rn tk 6 rfl ?_
    refine wr 1045 tk rfl rfl rfl rfl ?_
    refine rn tk 3 rfl ?_
    refine al2 hr (fun s12=> [(1, .s a1),(45, .ptr 1045 0)]) (fun s12=> [(1045, .it (strB a0) s12)]) (.exit 2) (fun b13=> []) (fun b13=> []) .ret (fun b14=> [(4, .i b14)]) (fun b14=> []) rfl rfl (fun s12 x16 hr=> ?_) (fun b13 hr=> ?_) (fun b14 hr=> ?_)
    ·
     unfold k2a at hr
     refine rn tk 2 rfl ?_
     refine wnx hr rfl rfl rfl (fun c17 hr=> ?_) (fun c17 hr=> ?_)
     ·
      refine rn tk 20 rfl ?_
      obtain ⟨v18,h19,hr⟩:=zaa hr
      refine cl (vZa _ _ _ h19) rfl rfl ?_
      refine rn tk 3 rfl ?_
      refine ac 53 hr rfl (fun c20 hr=> ?_) (fun c20 hr=> ?_)
      ·
       refine rn tk 8 rfl ?_
       cases hr
       exact ato rfl rfl rfl rfl
      ·
       refine rn tk 2 rfl ?_
       cases hr
       exact atc rfl rfl
     ·
      refine rn tk 7 rfl ?_
      cases hr
      exact ato rfl rfl rfl rfl
    ·
     refine rn tk 8 rfl ?_
     cases hr
     exact kr tk (.inr rfl) rfl rfl
    ·
     refine rn tk 2 rfl ?_
     cases hr
     exact kr tk (.inr rfl) rfl rfl
end Go.Proofs.YtjnmamghadpedaaGreatDoor
namespace Go.Proofs.YtjnmamghadpedaaGreatDoor
open Go.RowKit
set_option maxRecDepth 100000
theorem Vla (g:G) (vs:Array Value) (t:TypeId):Old (fun _=> False) g ⟨g.w.alloc (.cells vs t),fun k=> if k=g.w.heap.size then 0 else g.u k,g.loc⟩:=by
 have h:=wla g vs t 0 0 (g.loc 0)
 have e:(g.alloc vs t 0 0 (g.loc 0))=⟨g.w.alloc (.cells vs t),fun k=> if k=g.w.heap.size then 0 else g.u k,g.loc⟩:=by
  unfold G.alloc
  congr 1
  funext k
  split
  ·rename_i hk;rw [hk]
  ·rfl
 rw [←e];exact h
theorem W2a {g:G} (h:Wf g) (vs:Array Value) (t:TypeId):Wf ⟨g.w.alloc (.cells vs t),fun k=> if k=g.w.heap.size then 0 else g.u k,g.loc⟩:=by
 intro k hk
 have hk:g.w.heap.size+1≤k:=by simpa using hk
 show (if k=g.w.heap.size then 0 else g.u k)=0
 rw [if_neg (by omega)]
 exact h k (by omega)
theorem zib {t:Str} (h:Q1a t=true):∀(j:Nat) b,(strB t).data.toList[j]? =some b→b.toNat < 128:=fun j b hb=> Q8a h (List.mem_of_getElem? hb)
theorem jva (s t:Str) (r:Int) (hr:kOa s t=some r):Run Tryz.prog 120 [.s s, .s t] (.i r):=by
 unfold kOa at hr
 split at hr
 case isFalse=> cases hr
 rename_i hc
 obtain ⟨h1,h2,h3,h4⟩:=hc
 by_cases h8:s.length≤8
 ·exact jba s t r (by rw [WCa s t h8 h3 h2 h4];exact hr)
 ·cases hr
  refine ⟨⟨_,_,⟨Tryz.func120,rfl,by kernel_rfl⟩⟩,fun g vs hw hg ha=> ?_⟩
  obtain ⟨hsz,hrel⟩:=ha
  obtain ⟨l⟩:=vs
  match l,hsz with
  | [x,y],_=>
   obtain rfl:=j1a (hrel 0 _ rfl)
   obtain rfl:=j1a (hrel 1 _ rfl)
   have h116:(Tryz.prog.info? 158).map (fun i=> (i.zero,i.size))=some (some (.agg (Array.replicate 256 (.bool false))),256):=by kernel_rfl
   have hz:=(zero_of_info h116).1
   refine callsIn_wide.2 ((Tryz.strings_IndexAny_long hz (strB s) (strB t) g.w (by rw [zZa];exact h3) (by rw [zZa];omega) (by rw [zZa];exact h1) (by rw [zZa];exact h2) (zib h4)).mono ?_)
   rintro e w' ⟨rfl,rfl⟩
   have o1:=Vla g (Lib.setCells t) 158
   have w1:=W2a hw (Lib.setCells t) 158
   have o2:=Vla ⟨g.w.alloc (.cells (Lib.setCells t) 158),fun k=> if k=g.w.heap.size then 0 else g.u k,g.loc⟩ (Lib.setCells t) 158
   have w2:=W2a w1 (Lib.setCells t) 158
   have o3:Old (fun _=> False) g _:=o1.trans (o2.mono (S' :=fun b=> False∨g.w.heap.size≤b) (by intro b _ hf;exact hf.elim))
   exact ⟨⟨_,_,_⟩,_,rfl,(by rfl),o3,w2,(by rfl), .pv (.b rfl)⟩
end Go.Proofs.YtjnmamghadpedaaGreatDoor
namespace Go.Proofs.YtjnmamghadpedaaGreatDoor
open Go.RowKit
set_option maxRecDepth 100000
set_option maxHeartbeats 40000000
theorem kCa (a0:Str) (a1:Str) (r:Bool) (hr:zCa a0 a1=some r):Run Tryz.prog 103 [.s a0, .s a1] (.bo r):=by
 unfold zCa at hr
 refine rf (fn:=Tryz.f103) ⟨Tryz.func103,rfl,by kernel_rfl⟩ rfl (fun _=> rfl) fun g0 hg=> ?_
 refine rn tk 9 rfl ?_
 obtain ⟨v1,h2,hr⟩:=zaa hr
 refine cl (jva _ _ _ h2) rfl rfl ?_
 refine rn tk 5 rfl ?_
 cases hr
 exact kr tk (.inr rfl) rfl rfl
theorem Waa (a0:Str) (r:Bool) (hr:y0a a0=some r):Run Tryz.prog 136 [.s a0] (.bo r):=by
 unfold y0a at hr
 refine rf (fn:=Tryz.f136) ⟨Tryz.func136,rfl,by kernel_rfl⟩ rfl (fun _=> rfl) fun g0 hg=> ?_
 refine rn tk 8 rfl ?_
 obtain ⟨v1,h2,hr⟩:=zaa hr
 refine cl (kCa _ _ _ h2) rfl rfl ?_
 refine rn tk 4 rfl ?_
 cases hr
 exact kr tk (.inr rfl) rfl rfl
theorem QMa (a0:Str) (r:Bool) (hr:w2a a0=some r):Run Tryz.prog 118 [.s a0] (.bo r):=by
 unfold w2a at hr
 refine rf (fn:=Tryz.f118) ⟨Tryz.func118,rfl,by kernel_rfl⟩ rfl (fun _=> rfl) fun g0 hg=> ?_
 refine rn tk 5 rfl ?_
 refine jb hr (fun j1=> [(2, .bo j1)]) (fun j1=> []) (fun j1 hr=> ?_) (fun j1 hr=> ?_)
 ·
  refine rn tk 2 rfl ?_
  obtain ⟨v2,h3,hr⟩:=zaa hr
  refine cl (Waa _ _ h3) rfl rfl ?_
  refine rn tk 2 rfl ?_
  refine bs 6 hr rfl (fun c4 hr=> ?_) (fun c4 hr=> ?_)
  ·
   refine rn tk 3 rfl ?_
   refine bs 9 hr rfl (fun c5 hr=> ?_) (fun c5 hr=> ?_)
   ·
    refine rn tk 17 rfl ?_
    cases hr
    exact jn _ rfl rfl rfl
   ·
    refine rn tk 1 rfl ?_
    obtain ⟨v6,h7,hr⟩:=zaa hr
    refine ug rfl rfl rfl ?_
    refine ws tk h7 rfl rfl rfl rfl ?_
    obtain ⟨v8,h9,hr⟩:=zaa hr
    refine ug rfl rfl rfl ?_
    refine cl (vAa _ _ h9) rfl rfl ?_
    refine rn tk 2 rfl ?_
    refine bs 14 hr rfl (fun c10 hr=> ?_) (fun c10 hr=> ?_)
    ·
     refine rn tk 4 rfl ?_
     obtain ⟨v11,h12,hr⟩:=zaa hr
     refine ug rfl rfl rfl ?_
     refine ws tk h12 rfl rfl rfl rfl ?_
     obtain ⟨v13,h14,hr⟩:=zaa hr
     refine ug rfl rfl rfl ?_
     refine cl (vAa _ _ h14) rfl rfl ?_
     refine rn tk 6 rfl ?_
     cases hr
     exact jn _ rfl rfl rfl
    ·
     refine rn tk 12 rfl ?_
     cases hr
     exact jn _ rfl rfl rfl
  ·
   refine rn tk 20 rfl ?_
   cases hr
   exact jn _ rfl rfl rfl
 ·
  refine rn tk 1 rfl ?_
  cases hr
  exact kr tk (.inr rfl) rfl rfl
theorem ZDa (a0:Str) (a1:Str) (r:(List Str) × zta) (hr:w4a a0 a1=some r):Run Tryz.prog 99 [.s a0, .s a1] (.tup [.l cS r.1, .agg [.i r.2.Code, .i r.2.Index]]):=by
 unfold w4a at hr
 refine rf (fn:=Tryz.f99) ⟨Tryz.func99,rfl,by kernel_rfl⟩ rfl (fun _=> rfl) fun g0 hg=> ?_
 refine rn tk 11 rfl ?_
 obtain ⟨v1,h2,hr⟩:=zaa hr
 refine cl (V9a _ _ h2) rfl rfl ?_
 refine rn tk 4 rfl ?_
 refine ac 12 hr rfl (fun c3 hr=> ?_) (fun c3 hr=> ?_)
 ·
  refine rn tk 2 rfl ?_
  obtain ⟨v4,h5,hr⟩:=zaa hr
  refine cl (zla _ _ _ h5) rfl rfl ?_
  refine rn tk 7 rfl ?_
  cases hr
  exact kr tk (.inr rfl) rfl rfl
 ·
  refine rn tk 8 rfl ?_
  refine ac 17 hr rfl (fun c6 hr=> ?_) (fun c6 hr=> ?_)
  ·
   refine rn tk 2 rfl ?_
   obtain ⟨v7,h8,hr⟩:=zaa hr
   refine cl (zla _ _ _ h8) rfl rfl ?_
   refine rn tk 7 rfl ?_
   cases hr
   exact kr tk (.inr rfl) rfl rfl
  ·
   refine rn tk 3 rfl ?_
   obtain ⟨v9,h10,hr⟩:=zaa hr
   refine cl (QMa _ _ h10) rfl rfl ?_
   refine rn tk 4 rfl ?_
   refine ac 22 hr rfl (fun c11 hr=> ?_) (fun c11 hr=> ?_)
   ·
    refine rn tk 2 rfl ?_
    obtain ⟨v12,h13,hr⟩:=zaa hr
    refine cl (zla _ _ _ h13) rfl rfl ?_
    refine rn tk 7 rfl ?_
    cases hr
    exact kr tk (.inr rfl) rfl rfl
   ·
    refine rn tk 6 rfl ?_
    obtain ⟨v14,h15,hr⟩:=zaa hr
    refine wc h15 rfl rfl rfl ?_
    refine rn tk 1 rfl ?_
    obtain ⟨v16,h17,hr⟩:=zaa hr
    refine wc h17 rfl rfl rfl ?_
    refine rn tk 10 rfl ?_
    refine qLa 1008 (d:=8) 9 1 rfl rfl rfl (hO ?_)
    refine rn tk 4 rfl ?_
    refine al1 hr (fun s18=> [(5, .ptr 5 0),(6, .s s18.1),(7, .i s18.2.1),(8, .hs 1008 0)]) (fun s18=> [(1008, .row 9 false 1 (List.map cS s18.2.2)),(5, .cells [.i 0, .i 0])]) (.exit 1) (fun b19=> [(5, .ptr 5 0),(6, .s b19.1),(8, .hs 1008 0)]) (fun b19=> [(1008, .row 9 false 1 (List.map cS b19.2)),(5, .cells [.i 0, .i 0])]) rfl rfl (fun s18 x20 hr=> ?_) (fun b19 hr=> ?_)
    ·
     unfold vUa at hr
     refine rn tk 8 rfl ?_
     refine ac 36 hr rfl (fun c21 hr=> ?_) (fun c21 hr=> ?_)
     ·
      refine rn tk 7 rfl ?_
      obtain ⟨v22,h23,hr⟩:=zaa hr
      refine cl (QLa _ _ _ h23) rfl rfl ?_
      refine rn tk 10 rfl ?_
      refine ac 41 hr rfl (fun c24 hr=> ?_) (fun c24 hr=> ?_)
      ·
       refine rn tk 3 rfl ?_
       cases hr
       exact ato rfl rfl rfl rfl
      ·
       refine rn tk 7 rfl ?_
       obtain ⟨v25,h26,hr⟩:=zaa hr
       refine wscH tk h26 rfl rfl rfl rfl ?_
       refine wz cS ([v25]:List Str) tk rfl rfl (fun _=> rfl) rfl rfl rfl ?_
       obtain ⟨v27,h28,hr⟩:=zaa hr
       refine wa tk h28 rfl rfl rfl rfl (fun _=> rfl) rfl rfl ?_
       refine rn tk 6 rfl ?_
       obtain ⟨v29,h30,hr⟩:=zaa hr
       refine wscL tk h30 rfl rfl rfl rfl ?_
       refine rn tk 4 rfl ?_
       cases hr
       exact atc rfl rfl
     ·
      refine rn tk 2 rfl ?_
      cases hr
      exact ato rfl rfl rfl rfl
    ·
     refine rn tk 6 rfl ?_
     refine wz cS ([b19.1]:List Str) tk rfl rfl (fun _=> rfl) rfl rfl rfl ?_
     obtain ⟨v31,h32,hr⟩:=zaa hr
     refine wa tk h32 rfl rfl rfl rfl (fun _=> rfl) rfl rfl ?_
     refine rn tk 7 rfl ?_
     refine wnh tk rfl rfl rfl rfl ?_
     refine rn tk 4 rfl ?_
     refine vHa (d:=55) (F:=cS) (l:=v31) rfl rfl (hC ?_)
     refine al2 hr (fun s34=> [(5, .ptr 5 0),(8, .hs 1008 0),(55, .l cS v31),(56, .i ((v31.length:Int))),(57, .i s34)]) (fun s34=> [(1008, .row 9 false 1 (List.map cS v31)),(5, .cells [.i 0, .i 0])]) (.exit 3) (fun b35=> [(5, .ptr 5 0),(8, .hs 1008 0)]) (fun b35=> [(1008, .row 9 false 1 (List.map cS v31)),(5, .cells [.i 0, .i 0])]) .ret (fun b36=> [(4, .l cS b36.1),(5, .ptr 5 0)]) (fun b36=> [(5, .cells [.i b36.2.Code, .i b36.2.Index])]) rfl rfl (fun s34 x38 hr=> ?_) (fun b35 hr=> ?_) (fun b36 hr=> ?_)
     ·
      unfold wMa at hr
      refine rn tk 6 rfl ?_
      refine ac 58 hr rfl (fun c39 hr=> ?_) (fun c39 hr=> ?_)
      ·
       refine rn tk 7 rfl ?_
       obtain ⟨v40,h41,hr⟩:=zaa hr
       refine wi tk h41 rfl rfl rfl rfl rfl ?_
       refine rn tk 12 rfl ?_
       refine ac 64 hr rfl (fun c42 hr=> ?_) (fun c42 hr=> ?_)
       ·
        refine rn tk 3 rfl ?_
        obtain ⟨v43,h44,hr⟩:=zaa hr
        refine cl (zla _ _ _ h44) rfl rfl ?_
        refine rn tk 7 rfl ?_
        cases hr
        exact ato rfl rfl rfl rfl
       ·
        refine rn tk 7 rfl ?_
        cases hr
        exact atc rfl rfl
      ·
       refine rn tk 2 rfl ?_
       cases hr
       exact ato rfl rfl rfl rfl
     ·
      refine rn tk 5 rfl ?_
      obtain ⟨v45,h46,hr⟩:=zaa hr
      refine cl (zEa _ h46) rfl rfl ?_
      refine rn tk 4 rfl ?_
      refine vHa (d:=4) (F:=cS) (l:=v31) rfl rfl (hC ?_)
      refine rn tk 1 rfl ?_
      cases hr
      exact kr tk (.inr rfl) rfl rfl
     ·
      refine rn tk 2 rfl ?_
      cases hr
      exact kr tk (.inr rfl) rfl rfl
theorem j2a (a0:List zfa) (r:zta) (hr:qDa a0=some r):Run Tryz.prog 97 [.l zfa.pc a0] (.agg [.i r.Code, .i r.Index]):=by
 unfold qDa at hr
 refine rf (fn:=Tryz.f97) ⟨Tryz.func97,rfl,by kernel_rfl⟩ rfl (fun _=> rfl) fun g0 hg=> ?_
 refine rn tk 9 rfl ?_
 refine wn tk rfl rfl rfl ?_
 refine rn tk 3 rfl ?_
 refine ac 9 hr rfl (fun c1 hr=> ?_) (fun c1 hr=> ?_)
 ·
  refine rn tk 2 rfl ?_
  obtain ⟨v2,h3,hr⟩:=zaa hr
  refine cl (zla _ _ _ h3) rfl rfl ?_
  refine rn tk 5 rfl ?_
  cases hr
  exact kr tk (.inr rfl) rfl rfl
 ·
  refine rn tk 6 rfl ?_
  refine wn tk rfl rfl rfl ?_
  refine rn tk 4 rfl ?_
  refine al2 hr (fun s4=> [(2, .ptr 2 0),(11, .l zfa.pc a0),(12, .i ((a0.length:Int))),(13, .i s4)]) (fun s4=> [(2, .cells [.i 0, .i 0])]) (.exit 0) (fun b5=> [(2, .ptr 2 0)]) (fun b5=> [(2, .cells [.i 0, .i 0])]) .ret (fun b6=> [(2, .ptr 2 0)]) (fun b6=> [(2, .cells [.i b6.Code, .i b6.Index])]) rfl rfl (fun s4 x8 hr=> ?_) (fun b5 hr=> ?_) (fun b6 hr=> ?_)
  ·
   unfold qra at hr
   refine rn tk 6 rfl ?_
   refine ac 14 hr rfl (fun c9 hr=> ?_) (fun c9 hr=> ?_)
   ·
    refine rn tk 7 rfl ?_
    obtain ⟨v10,h11,hr⟩:=zaa hr
    refine wi tk h11 rfl rfl rfl rfl rfl ?_
    refine rn tk 12 rfl ?_
    obtain ⟨v12,h13,hr⟩:=zaa hr
    refine cl (ZDa _ _ _ h13) rfl rfl ?_
    refine rn tk 11 rfl ?_
    obtain ⟨v14,h15,hr⟩:=zaa hr
    refine cl (zKa _ _ h15) rfl rfl ?_
    refine rn tk 2 rfl ?_
    refine ac 27 hr rfl (fun c16 hr=> ?_) (fun c16 hr=> ?_)
    ·
     refine rn tk 5 rfl ?_
     obtain ⟨v17,h18,hr⟩:=zaa hr
     refine cl (zla _ _ _ h18) rfl rfl ?_
     refine rn tk 6 rfl ?_
     cases hr
     exact ato rfl rfl rfl rfl
    ·
     refine rn tk 7 rfl ?_
     cases hr
     exact atc rfl rfl
   ·
    refine rn tk 2 rfl ?_
    cases hr
    exact ato rfl rfl rfl rfl
  ·
   refine rn tk 4 rfl ?_
   obtain ⟨v19,h20,hr⟩:=zaa hr
   refine cl (zEa _ h20) rfl rfl ?_
   refine rn tk 4 rfl ?_
   cases hr
   exact kr tk (.inr rfl) rfl rfl
  ·
   refine rn tk 2 rfl ?_
   cases hr
   exact kr tk (.inr rfl) rfl rfl
theorem QNa (a0:List UInt8) (r:Int) (hr:w5a a0=some r):Run Tryz.prog 116 [.l cU a0] (.i r):=by
 unfold w5a at hr
 refine rf (fn:=Tryz.f116) ⟨Tryz.func116,rfl,by kernel_rfl⟩ rfl (fun _=> rfl) fun g0 hg=> ?_
 refine rn tk 17 rfl ?_
 refine al2 hr (fun s1=> [(0, .l cU a0),(3, .i s1.1),(4, .i s1.2)]) (fun s1=> []) (.exit 0) (fun b2=> []) (fun b2=> []) .ret (fun b3=> [(2, .i b3)]) (fun b3=> []) rfl rfl (fun s1 x5 hr=> ?_) (fun b2 hr=> ?_) (fun b3 hr=> ?_)
 ·
  unfold qQa at hr
  refine rn tk 5 rfl ?_
  refine wn tk rfl rfl rfl ?_
  refine rn tk 3 rfl ?_
  refine ac 9 hr rfl (fun c6 hr=> ?_) (fun c6 hr=> ?_)
  ·
   refine rn tk 2 rfl ?_
   refine jk (fun j7=> [(0, .l cU a0),(3, .i j7.1),(4, .i j7.2)]) (fun j7=> []) (fun j7=> vsa j7=some x5) ?_ ?_
   ·
    refine rn tk 5 rfl ?_
    obtain ⟨v8,h9,hr⟩:=zaa hr
    refine wi tk h9 rfl rfl rfl rfl rfl ?_
    refine rn tk 5 rfl ?_
    refine jb hr (fun j10=> [(0, .l cU a0),(3, .i s1.1),(4, .i s1.2),(5, .u8 v8),(32, .bo j10)]) (fun j10=> []) (fun j10 hr=> ?_) (fun j10 hr=> ?_)
    ·
     refine rn tk 4 rfl ?_
     refine bs 18 hr rfl (fun c11 hr=> ?_) (fun c11 hr=> ?_)
     ·
      refine rn tk 3 rfl ?_
      refine ug rfl rfl rfl ?_
      refine wn tk rfl rfl rfl ?_
      refine rn tk 3 rfl ?_
      refine bs 25 hr rfl (fun c12 hr=> ?_) (fun c12 hr=> ?_)
      ·
       refine rn tk 3 rfl ?_
       obtain ⟨v13,h14,hr⟩:=zaa hr
       refine ug rfl rfl rfl ?_
       refine wi tk h14 rfl rfl rfl rfl rfl ?_
       refine rn tk 4 rfl ?_
       cases hr
       exact jn _ rfl rfl rfl
      ·
       refine rn tk 8 rfl ?_
       cases hr
       exact jn _ rfl rfl rfl
     ·
      refine rn tk 15 rfl ?_
      cases hr
      exact jn _ rfl rfl rfl
    ·
     refine ac 32 hr rfl (fun c15 hr=> ?_) (fun c15 hr=> ?_)
     ·
      refine rn tk 15 rfl ?_
      exact jn ((0,(w64 (s1.2+1)))) hr rfl rfl
     ·
      refine rn tk 3 rfl ?_
      refine jb hr (fun j16=> [(0, .l cU a0),(3, .i s1.1),(4, .i s1.2),(40, .bo j16)]) (fun j16=> []) (fun j16 hr=> ?_) (fun j16 hr=> ?_)
      ·
       refine rn tk 4 rfl ?_
       refine bs 37 hr rfl (fun c17 hr=> ?_) (fun c17 hr=> ?_)
       ·
        refine rn tk 4 rfl ?_
        cases hr
        exact jn _ rfl rfl rfl
       ·
        refine rn tk 4 rfl ?_
        cases hr
        exact jn _ rfl rfl rfl
      ·
       refine ac 40 hr rfl (fun c18 hr=> ?_) (fun c18 hr=> ?_)
       ·
        refine rn tk 9 rfl ?_
        cases hr
        exact ato rfl rfl rfl rfl
       ·
        refine rn tk 15 rfl ?_
        refine ac 44 hr rfl (fun c19 hr=> ?_) (fun c19 hr=> ?_)
        ·
         refine rn tk 8 rfl ?_
         cases hr
         exact ato rfl rfl rfl rfl
        ·
         refine rn tk 2 rfl ?_
         exact jn (((w64 (s1.1+1)),s1.2)) hr rfl rfl
   ·
    intro j7 hr
    unfold vsa at hr
    refine rn tk 5 rfl ?_
    cases hr
    exact atc rfl rfl
  ·
   refine rn tk 2 rfl ?_
   cases hr
   exact ato rfl rfl rfl rfl
 ·
  refine rn tk 8 rfl ?_
  cases hr
  exact kr tk (.inr rfl) rfl rfl
 ·
  refine rn tk 2 rfl ?_
  cases hr
  exact kr tk (.inr rfl) rfl rfl
theorem Kza (a0:List UInt8) (r:zta) (hr:vVa a0=some r):Run Tryz.prog 98 [.l cU a0] (.agg [.i r.Code, .i r.Index]):=by
 unfold vVa at hr
 refine rf (fn:=Tryz.f98) ⟨Tryz.func98,rfl,by kernel_rfl⟩ rfl (fun _=> rfl) fun g0 hg=> ?_
 refine rn tk 9 rfl ?_
 obtain ⟨v1,h2,hr⟩:=zaa hr
 refine cl (QNa _ _ h2) rfl rfl ?_
 refine rn tk 9 rfl ?_
 refine ac 5 hr rfl (fun c3 hr=> ?_) (fun c3 hr=> ?_)
 ·
  refine rn tk 2 rfl ?_
  obtain ⟨v4,h5,hr⟩:=zaa hr
  refine cl (zla _ _ _ h5) rfl rfl ?_
  refine rn tk 6 rfl ?_
  cases hr
  exact kr tk (.inr rfl) rfl rfl
 ·
  refine rn tk 6 rfl ?_
  refine ac 8 hr rfl (fun c6 hr=> ?_) (fun c6 hr=> ?_)
  ·
   refine rn tk 2 rfl ?_
   obtain ⟨v7,h8,hr⟩:=zaa hr
   refine cl (zla _ _ _ h8) rfl rfl ?_
   refine rn tk 6 rfl ?_
   cases hr
   exact kr tk (.inr rfl) rfl rfl
  ·
   refine rn tk 5 rfl ?_
   obtain ⟨v9,h10,hr⟩:=zaa hr
   refine cl (zEa _ h10) rfl rfl ?_
   refine rn tk 4 rfl ?_
   cases hr
   exact kr tk (.inr rfl) rfl rfl
theorem yaa (a0:zsa) (r:List UInt8) (hr:qPa a0=some r):Run Tryz.prog 79 [.agg [.l zfa.pc a0.Fields, .l cU a0.Body]] (.l cU r):=by
 unfold qPa at hr
 refine rf (fn:=Tryz.f79) ⟨Tryz.func79,rfl,by kernel_rfl⟩ rfl (fun _=> rfl) fun g0 hg=> ?_
 refine rn tk 9 rfl ?_
 refine qLa 1003 (d:=3) 5 1 rfl rfl rfl (hO ?_)
 refine rn tk 7 rfl ?_
 refine wn tk rfl rfl rfl ?_
 refine rn tk 4 rfl ?_
 refine al1 hr (fun s1=> [(1, .ptr 1 0),(3, .hs 1003 0),(11, .l zfa.pc a0.Fields),(12, .i ((a0.Fields.length:Int))),(13, .i s1.1)]) (fun s1=> [(1003, .row 5 false 1 (List.map cU s1.2)),(1, .cells [.l zfa.pc a0.Fields, .l cU a0.Body])]) (.exit 0) (fun b2=> [(1, .ptr 1 0),(3, .hs 1003 0)]) (fun b2=> [(1003, .row 5 false 1 (List.map cU b2)),(1, .cells [.l zfa.pc a0.Fields, .l cU a0.Body])]) rfl rfl (fun s1 x3 hr=> ?_) (fun b2 hr=> ?_)
 ·
  unfold qna at hr
  refine rn tk 6 rfl ?_
  refine ac 14 hr rfl (fun c4 hr=> ?_) (fun c4 hr=> ?_)
  ·
   refine rn tk 6 rfl ?_
   obtain ⟨v5,h6,hr⟩:=zaa hr
   refine wi tk h6 rfl rfl rfl rfl rfl ?_
   refine rn tk 11 rfl ?_
   obtain ⟨v7,h8,hr⟩:=zaa hr
   refine cl (ZDa _ _ _ h8) rfl rfl ?_
   refine rn tk 11 rfl ?_
   refine wn tk rfl rfl rfl ?_
   refine rn tk 4 rfl ?_
   refine al1 hr (fun s9=> [(1, .ptr 1 0),(3, .hs 1003 0),(11, .l zfa.pc a0.Fields),(12, .i ((a0.Fields.length:Int))),(13, .i s1.1),(25, .l cS v7.1),(26, .i ((v7.1.length:Int))),(27, .i s9.1)]) (fun s9=> [(1003, .row 5 false 1 (List.map cU s9.2)),(1, .cells [.l zfa.pc a0.Fields, .l cU a0.Body])]) (.exit 2) (fun b10=> [(1, .ptr 1 0),(3, .hs 1003 0),(11, .l zfa.pc a0.Fields),(12, .i ((a0.Fields.length:Int))),(13, .i s1.1)]) (fun b10=> [(1003, .row 5 false 1 (List.map cU b10)),(1, .cells [.l zfa.pc a0.Fields, .l cU a0.Body])]) rfl rfl (fun s9 x11 hr=> ?_) (fun b10 hr=> ?_)
   ·
    unfold qma at hr
    refine rn tk 6 rfl ?_
    refine ac 28 hr rfl (fun c12 hr=> ?_) (fun c12 hr=> ?_)
    ·
     refine rn tk 6 rfl ?_
     obtain ⟨v13,h14,hr⟩:=zaa hr
     refine wi tk h14 rfl rfl rfl rfl rfl ?_
     refine rn tk 7 rfl ?_
     obtain ⟨v15,h16,hr⟩:=zaa hr
     refine wo (wFa (k:=33) (l:=s9.2) (s:=v13) (lim:=140737488355328) rfl rfl rfl rfl zha zQa.u zva rfl h16) rfl ?_
     refine wz cU ([(13:UInt8),(10:UInt8)]:List UInt8) tk rfl rfl (fun _=> rfl) rfl rfl rfl ?_
     obtain ⟨v17,h18,hr⟩:=zaa hr
     refine wa tk h18 rfl rfl rfl rfl (fun _=> rfl) rfl rfl ?_
     refine rn tk 8 rfl ?_
     cases hr
     exact atc rfl rfl
    ·
     refine rn tk 2 rfl ?_
     cases hr
     exact ato rfl rfl rfl rfl
   ·
    refine rn tk 7 rfl ?_
    cases hr
    exact atc rfl rfl
  ·
   refine rn tk 2 rfl ?_
   cases hr
   exact ato rfl rfl rfl rfl
 ·
  refine rn tk 3 rfl ?_
  obtain ⟨v19,h20,hr⟩:=zaa hr
  obtain ⟨v21,h22,hr⟩:=zaa hr
  refine Yia [([false,false,false,false,false,false,false], [(1, .ptr 1 0),(3, .hs 1003 0)], [(1003, .row 5 false 1 (List.map cU b2)),(1, .cells [.l zfa.pc a0.Fields, .l cU a0.Body])]),([true,false,false,false,false,false,false], [(1, .ptr 1 0),(3, .hs 1003 0),(38, .hs 1003 0)], [(1003, .row 5 false 1 (List.map cU b2)),(1, .cells [.l zfa.pc a0.Fields, .l cU a0.Body])]),([false,true,false,false,false,false,false], [(1, .ptr 1 0),(3, .hs 1003 0),(39, .l cU (([(13:UInt8),(10:UInt8)]:List UInt8)))], [(1003, .row 5 false 1 (List.map cU b2)),(1, .cells [.l zfa.pc a0.Fields, .l cU a0.Body])]),([false,false,false,true,false,false,false], [(1, .ptr 1 0),(3, .hs 1003 0),(41, .ptr 1 1)], [(1003, .row 5 false 1 (List.map cU b2)),(1, .cells [.l zfa.pc a0.Fields, .l cU a0.Body])]),([true,true,false,false,false,false,false], [(1, .ptr 1 0),(3, .hs 1003 0),(38, .hs 1003 0),(39, .l cU (([(13:UInt8),(10:UInt8)]:List UInt8)))], [(1003, .row 5 false 1 (List.map cU b2)),(1, .cells [.l zfa.pc a0.Fields, .l cU a0.Body])]),([true,false,false,true,false,false,false], [(1, .ptr 1 0),(3, .hs 1003 0),(38, .hs 1003 0),(41, .ptr 1 1)], [(1003, .row 5 false 1 (List.map cU b2)),(1, .cells [.l zfa.pc a0.Fields, .l cU a0.Body])]),([false,true,false,true,false,false,false], [(1, .ptr 1 0),(3, .hs 1003 0),(39, .l cU (([(13:UInt8),(10:UInt8)]:List UInt8))),(41, .ptr 1 1)], [(1003, .row 5 false 1 (List.map cU b2)),(1, .cells [.l zfa.pc a0.Fields, .l cU a0.Body])]),([false,false,false,true,true,false,false], [(1, .ptr 1 0),(3, .hs 1003 0),(41, .ptr 1 1),(42, .l cU a0.Body)], [(1003, .row 5 false 1 (List.map cU b2)),(1, .cells [.l zfa.pc a0.Fields, .l cU a0.Body])]),([true,true,true,false,false,false,false], [(1, .ptr 1 0),(39, .l cU (([(13:UInt8),(10:UInt8)]:List UInt8))),(40, .hs 1003 0)], [(1003, .row 5 false 1 (List.map cU v19)),(1, .cells [.l zfa.pc a0.Fields, .l cU a0.Body])]),([true,true,false,true,false,false,false], [(1, .ptr 1 0),(3, .hs 1003 0),(38, .hs 1003 0),(39, .l cU (([(13:UInt8),(10:UInt8)]:List UInt8))),(41, .ptr 1 1)], [(1003, .row 5 false 1 (List.map cU b2)),(1, .cells [.l zfa.pc a0.Fields, .l cU a0.Body])]),([true,false,false,true,true,false,false], [(1, .ptr 1 0),(3, .hs 1003 0),(38, .hs 1003 0),(41, .ptr 1 1),(42, .l cU a0.Body)], [(1003, .row 5 false 1 (List.map cU b2)),(1, .cells [.l zfa.pc a0.Fields, .l cU a0.Body])]),([false,true,false,true,true,false,false], [(1, .ptr 1 0),(3, .hs 1003 0),(39, .l cU (([(13:UInt8),(10:UInt8)]:List UInt8))),(41, .ptr 1 1),(42, .l cU a0.Body)], [(1003, .row 5 false 1 (List.map cU b2)),(1, .cells [.l zfa.pc a0.Fields, .l cU a0.Body])]),([true,true,true,true,false,false,false], [(1, .ptr 1 0),(39, .l cU (([(13:UInt8),(10:UInt8)]:List UInt8))),(40, .hs 1003 0),(41, .ptr 1 1)], [(1003, .row 5 false 1 (List.map cU v19)),(1, .cells [.l zfa.pc a0.Fields, .l cU a0.Body])]),([true,true,false,true,true,false,false], [(1, .ptr 1 0),(3, .hs 1003 0),(38, .hs 1003 0),(39, .l cU (([(13:UInt8),(10:UInt8)]:List UInt8))),(41, .ptr 1 1),(42, .l cU a0.Body)], [(1003, .row 5 false 1 (List.map cU b2)),(1, .cells [.l zfa.pc a0.Fields, .l cU a0.Body])]),([true,true,true,true,true,false,false], [(1, .ptr 1 0),(39, .l cU (([(13:UInt8),(10:UInt8)]:List UInt8))),(40, .hs 1003 0),(41, .ptr 1 1),(42, .l cU a0.Body)], [(1003, .row 5 false 1 (List.map cU v19)),(1, .cells [.l zfa.pc a0.Fields, .l cU a0.Body])]),([true,true,true,true,true,true,false], [(1, .ptr 1 0),(39, .l cU (([(13:UInt8),(10:UInt8)]:List UInt8))),(41, .ptr 1 1),(42, .l cU a0.Body),(43, .hs 1003 0)], [(1003, .row 5 false 1 (List.map cU v21)),(1, .cells [.l zfa.pc a0.Fields, .l cU a0.Body])]),([true,true,true,true,true,true,true], [(1, .ptr 1 0),(2, .hs 1003 0),(39, .l cU (([(13:UInt8),(10:UInt8)]:List UInt8))),(41, .ptr 1 1),(42, .l cU a0.Body),(43, .hs 1003 0)], [(1003, .row 5 false 1 (List.map cU v21)),(1, .cells [.l zfa.pc a0.Fields, .l cU a0.Body])])] mixed (by kernel_rfl) rfl rfl (zea rfl (zea rfl zwa)) (zba rfl (zba rfl zga)) (.cons (.step [0,1,3] (by kernel_rfl) rfl (.cons (.yes 1 rfl (zna rfl) (zma (d:=38) rfl rfl zIa) rfl (zea rfl (zea rfl (zea rfl zwa))) (zba rfl (zba rfl zga))) (.cons (.yes 2 rfl (zna rfl) (Kha (d:=39) rfl rfl (yla (F:=cU) (l:=([(13:UInt8),(10:UInt8)]:List UInt8)) zha zva rfl (fun _=> rfl) rfl rfl)) rfl (zea rfl (zea rfl (zea rfl zwa))) (zba rfl (zba rfl zga))) (.cons (.yes 3 rfl (zna rfl) (zma (d:=41) rfl rfl (vda rfl kUa.u rfl zha rfl)) rfl (zea rfl (zea rfl (zea rfl zwa))) (zba rfl (zba rfl zga))) .nil)))) (.cons (.step [1,3] (by kernel_rfl) rfl (.cons (.yes 4 rfl (zna rfl) (Kha (d:=39) rfl rfl (yla (F:=cU) (l:=([(13:UInt8),(10:UInt8)]:List UInt8)) zha zva rfl (fun _=> rfl) rfl rfl)) rfl (zea rfl (zea rfl (zea rfl (zea rfl zwa)))) (zba rfl (zba rfl zga))) (.cons (.yes 5 rfl (zna rfl) (zma (d:=41) rfl rfl (vda rfl kUa.u rfl zha rfl)) rfl (zea rfl (zea rfl (zea rfl (zea rfl zwa)))) (zba rfl (zba rfl zga))) .nil))) (.cons (.step [0,3] (by kernel_rfl) rfl (.cons (.yes 4 rfl (zna rfl) (zma (d:=38) rfl rfl zIa) rfl (zea rfl (zea rfl (zea rfl (zea rfl zwa)))) (zba rfl (zba rfl zga))) (.cons (.yes 6 rfl (zna rfl) (zma (d:=41) rfl rfl (vda rfl kUa.u rfl zha rfl)) rfl (zea rfl (zea rfl (zea rfl (zea rfl zwa)))) (zba rfl (zba rfl zga))) .nil))) (.cons (.step [0,1,4] (by kernel_rfl) rfl (.cons (.yes 5 rfl (zna rfl) (zma (d:=38) rfl rfl zIa) rfl (zea rfl (zea rfl (zea rfl (zea rfl zwa)))) (zba rfl (zba rfl zga))) (.cons (.yes 6 rfl (zna rfl) (Kha (d:=39) rfl rfl (yla (F:=cU) (l:=([(13:UInt8),(10:UInt8)]:List UInt8)) zha zva rfl (fun _=> rfl) rfl rfl)) rfl (zea rfl (zea rfl (zea rfl (zea rfl zwa)))) (zba rfl (zba rfl zga))) (.cons (.yes 7 rfl (zna rfl) (zma (d:=42) rfl rfl (wka rfl rfl zha rfl rfl)) rfl (zea rfl (zea rfl (zea rfl (zea rfl zwa)))) (zba rfl (zba rfl zga))) .nil)))) (.cons (.step [2,3] (by kernel_rfl) rfl (.cons (.yes 8 rfl (zna rfl) (q7a (k:=40) (F:=cU) (l:=b2) (xs:=(([(13:UInt8),(10:UInt8)]:List UInt8))) (lim:=140737488355328) rfl rfl rfl rfl zha zva rfl rfl (fun _=> rfl) rfl h20) rfl (zea rfl (zea rfl (zea rfl zwa))) (zba rfl (zba rfl zga))) (.cons (.yes 9 rfl (zna rfl) (zma (d:=41) rfl rfl (vda rfl kUa.u rfl zha rfl)) rfl (zea rfl (zea rfl (zea rfl (zea rfl (zea rfl zwa))))) (zba rfl (zba rfl zga))) .nil))) (.cons (.step [1,4] (by kernel_rfl) rfl (.cons (.yes 9 rfl (zna rfl) (Kha (d:=39) rfl rfl (yla (F:=cU) (l:=([(13:UInt8),(10:UInt8)]:List UInt8)) zha zva rfl (fun _=> rfl) rfl rfl)) rfl (zea rfl (zea rfl (zea rfl (zea rfl (zea rfl zwa))))) (zba rfl (zba rfl zga))) (.cons (.yes 10 rfl (zna rfl) (zma (d:=42) rfl rfl (wka rfl rfl zha rfl rfl)) rfl (zea rfl (zea rfl (zea rfl (zea rfl (zea rfl zwa))))) (zba rfl (zba rfl zga))) .nil))) (.cons (.step [0,4] (by kernel_rfl) rfl (.cons (.yes 9 rfl (zna rfl) (zma (d:=38) rfl rfl zIa) rfl (zea rfl (zea rfl (zea rfl (zea rfl (zea rfl zwa))))) (zba rfl (zba rfl zga))) (.cons (.yes 11 rfl (zna rfl) (zma (d:=42) rfl rfl (wka rfl rfl zha rfl rfl)) rfl (zea rfl (zea rfl (zea rfl (zea rfl (zea rfl zwa))))) (zba rfl (zba rfl zga))) .nil))) (.cons (.step [0,1] (by kernel_rfl) rfl (.cons (.yes 10 rfl (zna rfl) (zma (d:=38) rfl rfl zIa) rfl (zea rfl (zea rfl (zea rfl (zea rfl (zea rfl zwa))))) (zba rfl (zba rfl zga))) (.cons (.yes 11 rfl (zna rfl) (Kha (d:=39) rfl rfl (yla (F:=cU) (l:=([(13:UInt8),(10:UInt8)]:List UInt8)) zha zva rfl (fun _=> rfl) rfl rfl)) rfl (zea rfl (zea rfl (zea rfl (zea rfl (zea rfl zwa))))) (zba rfl (zba rfl zga))) .nil))) (.cons (.step [3] (by kernel_rfl) rfl (.cons (.yes 12 rfl (zna rfl) (zma (d:=41) rfl rfl (vda rfl kUa.u rfl zha rfl)) rfl (zea rfl (zea rfl (zea rfl (zea rfl zwa)))) (zba rfl (zba rfl zga))) .nil)) (.cons (.step [2,4] (by kernel_rfl) rfl (.cons (.yes 12 rfl (zna rfl) (q7a (k:=40) (F:=cU) (l:=b2) (xs:=(([(13:UInt8),(10:UInt8)]:List UInt8))) (lim:=140737488355328) rfl rfl rfl rfl zha zva rfl rfl (fun _=> rfl) rfl h20) rfl (zea rfl (zea rfl (zea rfl (zea rfl zwa)))) (zba rfl (zba rfl zga))) (.cons (.yes 13 rfl (zna rfl) (zma (d:=42) rfl rfl (wka rfl rfl zha rfl rfl)) rfl (zea rfl (zea rfl (zea rfl (zea rfl (zea rfl (zea rfl zwa)))))) (zba rfl (zba rfl zga))) .nil))) (.cons (.step [1] (by kernel_rfl) rfl (.cons (.yes 13 rfl (zna rfl) (Kha (d:=39) rfl rfl (yla (F:=cU) (l:=([(13:UInt8),(10:UInt8)]:List UInt8)) zha zva rfl (fun _=> rfl) rfl rfl)) rfl (zea rfl (zea rfl (zea rfl (zea rfl (zea rfl (zea rfl zwa)))))) (zba rfl (zba rfl zga))) .nil)) (.cons (.step [0] (by kernel_rfl) rfl (.cons (.yes 13 rfl (zna rfl) (zma (d:=38) rfl rfl zIa) rfl (zea rfl (zea rfl (zea rfl (zea rfl (zea rfl (zea rfl zwa)))))) (zba rfl (zba rfl zga))) .nil)) (.cons (.step [4] (by kernel_rfl) rfl (.cons (.yes 14 rfl (zna rfl) (zma (d:=42) rfl rfl (wka rfl rfl zha rfl rfl)) rfl (zea rfl (zea rfl (zea rfl (zea rfl (zea rfl zwa))))) (zba rfl (zba rfl zga))) .nil)) (.cons (.step [2] (by kernel_rfl) rfl (.cons (.yes 14 rfl (zna rfl) (q7a (k:=40) (F:=cU) (l:=b2) (xs:=(([(13:UInt8),(10:UInt8)]:List UInt8))) (lim:=140737488355328) rfl rfl rfl rfl zha zva rfl rfl (fun _=> rfl) rfl h20) rfl (zea rfl (zea rfl (zea rfl (zea rfl (zea rfl zwa))))) (zba rfl (zba rfl zga))) .nil)) (.cons (.step [5] (by kernel_rfl) rfl (.cons (.yes 15 rfl (zna rfl) (q7a (k:=43) (F:=cU) (l:=v19) (xs:=a0.Body) (lim:=140737488355328) rfl rfl rfl rfl zha zva rfl rfl (fun _=> rfl) rfl h22) rfl (zea rfl (zea rfl (zea rfl (zea rfl (zea rfl zwa))))) (zba rfl (zba rfl zga))) .nil)) (.cons (.step [6] (by kernel_rfl) rfl (.cons (.yes 16 rfl (zna rfl) (zma (d:=2) rfl rfl kba) rfl (zea rfl (zea rfl (zea rfl (zea rfl (zea rfl (zea rfl zwa)))))) (zba rfl (zba rfl zga))) .nil)) (.cons (.full (by kernel_rfl) (hA ?_)) .nil)))))))))))))))))
  refine rn tk 1 rfl ?_
  refine vHa (d:=2) (F:=cU) (l:=v21) rfl rfl (hC ?_)
  refine rn tk 1 rfl ?_
  cases hr
  exact kr tk (.inr rfl) rfl rfl
theorem v7a (a0:zsa) (r:zta) (hr:kPa a0=some r):Run Tryz.prog 73 [.agg [.l zfa.pc a0.Fields, .l cU a0.Body]] (.agg [.i r.Code, .i r.Index]):=by
 unfold kPa at hr
 refine rf (fn:=Tryz.f73) ⟨Tryz.func73,rfl,by kernel_rfl⟩ rfl (fun _=> rfl) fun g0 hg=> ?_
 refine rn tk 11 rfl ?_
 obtain ⟨v1,h2,hr⟩:=zaa hr
 refine cl (j2a _ _ h2) rfl rfl ?_
 refine rn tk 7 rfl ?_
 obtain ⟨v3,h4,hr⟩:=zaa hr
 refine cl (zKa _ _ h4) rfl rfl ?_
 refine rn tk 2 rfl ?_
 refine ac 8 hr rfl (fun c5 hr=> ?_) (fun c5 hr=> ?_)
 ·
  refine rn tk 8 rfl ?_
  cases hr
  exact kr tk (.inr rfl) rfl rfl
 ·
  refine rn tk 6 rfl ?_
  obtain ⟨v6,h7,hr⟩:=zaa hr
  refine cl (yaa _ _ h7) rfl rfl ?_
  refine wn tk rfl rfl rfl ?_
  refine rn tk 3 rfl ?_
  refine ac 13 hr rfl (fun c8 hr=> ?_) (fun c8 hr=> ?_)
  ·
   refine rn tk 2 rfl ?_
   obtain ⟨v9,h10,hr⟩:=zaa hr
   refine cl (zla _ _ _ h10) rfl rfl ?_
   refine rn tk 5 rfl ?_
   cases hr
   exact kr tk (.inr rfl) rfl rfl
  ·
   refine rn tk 6 rfl ?_
   obtain ⟨v11,h12,hr⟩:=zaa hr
   refine cl (Kza _ _ h12) rfl rfl ?_
   refine rn tk 4 rfl ?_
   cases hr
   exact kr tk (.inr rfl) rfl rfl
theorem Z5a (a0:zsa) (r:(List UInt8) × zta) (hr:vwa a0=some r):Run Tryz.prog 57 [.agg [.l zfa.pc a0.Fields, .l cU a0.Body]] (.tup [.l cU r.1, .agg [.i r.2.Code, .i r.2.Index]]):=by
 unfold vwa at hr
 refine rf (fn:=Tryz.f57) ⟨Tryz.func57,rfl,by kernel_rfl⟩ rfl (fun _=> rfl) fun g0 hg=> ?_
 refine rn tk 11 rfl ?_
 obtain ⟨v1,h2,hr⟩:=zaa hr
 refine cl (v7a _ _ h2) rfl rfl ?_
 refine rn tk 7 rfl ?_
 obtain ⟨v3,h4,hr⟩:=zaa hr
 refine cl (zKa _ _ h4) rfl rfl ?_
 refine rn tk 2 rfl ?_
 refine ac 8 hr rfl (fun c5 hr=> ?_) (fun c5 hr=> ?_)
 ·
  refine rn tk 1 rfl ?_
  refine dr 2 [(2, .pv (.sl (some true) [])),(9, .agg [.i v1.Code, .i v1.Index])] mixed (by kernel_rfl) rfl rfl (pq tk rfl (.plain rfl) (pq tk rfl (.plain rfl) .nil)) rfl ?_
  refine rn tk 5 rfl ?_
  cases hr
  exact kr tk (.inr rfl) rfl rfl
 ·
  refine rn tk 5 rfl ?_
  obtain ⟨v6,h7,hr⟩:=zaa hr
  refine cl (yaa _ _ h7) rfl rfl ?_
  obtain ⟨v8,h9,hr⟩:=zaa hr
  refine cl (zEa _ h9) rfl rfl ?_
  refine rn tk 5 rfl ?_
  cases hr
  exact kr tk (.inr rfl) rfl rfl
theorem wOa (a0:zsa) (r:(List UInt8) × Bool) (hr:qpa a0=some r):Run Tryz.prog 35 [.agg [.l zfa.pc a0.Fields, .l cU a0.Body]] (.tup [.l cU r.1, .bo r.2]):=by
 unfold qpa at hr
 refine rf (fn:=Tryz.f35) ⟨Tryz.func35,rfl,by kernel_rfl⟩ rfl (fun _=> rfl) fun g0 hg=> ?_
 refine rn tk 10 rfl ?_
 obtain ⟨v1,h2,hr⟩:=zaa hr
 refine cl (Z5a _ _ h2) rfl rfl ?_
 refine rn tk 12 rfl ?_
 refine qwa rfl (wHa (F:=cU) (l:=([(13:UInt8),(10:UInt8)]:List UInt8)) zha zva rfl (fun _=> rfl) rfl rfl) zha zva (zna rfl) (zna rfl) rfl (hO ?_)
 obtain ⟨v3,h4,hr⟩:=zaa hr
 refine cl (wwa _ _ _ h4) rfl rfl ?_
 refine rn tk 6 rfl ?_
 cases hr
 exact kr tk (.inr rfl) rfl rfl
theorem Qra (a0:zia) (r:Bool) (hr:wra a0=some r):Run Tryz.prog 54 [.agg [.s a0.Name, .s a0.Mail.Envelope.From, .l zca.pc a0.Mail.Envelope.To, .s a0.Mail.Envelope.Id, .l zfa.pc a0.Mail.Message.Fields, .l cU a0.Mail.Message.Body, .bo a0.Pipelined, .l cU a0.Buffer, .i a0.Expected, .bo a0.Whole, .bo a0.Done, .l cI a0.Results]] (.bo r):=by
 unfold wra at hr
 refine rf (fn:=Tryz.f54) ⟨Tryz.func54,rfl,by kernel_rfl⟩ rfl (fun _=> rfl) fun g0 hg=> ?_
 refine rn tk 12 rfl ?_
 refine wn tk rfl rfl rfl ?_
 refine rn tk 8 rfl ?_
 obtain ⟨v1,h2,hr⟩:=zaa hr
 refine cl (wOa _ _ h2) rfl rfl ?_
 refine rn tk 8 rfl ?_
 refine jb hr (fun j3=> [(1, .ptr 1 0),(49, .bo j3)]) (fun j3=> [(1, .cells [.s a0.Name, .s a0.Mail.Envelope.From, .l zca.pc a0.Mail.Envelope.To, .s a0.Mail.Envelope.Id, .l zfa.pc a0.Mail.Message.Fields, .l cU a0.Mail.Message.Body, .bo a0.Pipelined, .l cU a0.Buffer, .i a0.Expected, .bo a0.Whole, .bo a0.Done, .l cI a0.Results])]) (fun j3 hr=> ?_) (fun j3 hr=> ?_)
 ·
  refine rn tk 9 rfl ?_
  refine bs 27 hr rfl (fun c4 hr=> ?_) (fun c4 hr=> ?_)
  ·
   refine rn tk 13 rfl ?_
   refine bs 40 hr rfl (fun c5 hr=> ?_) (fun c5 hr=> ?_)
   ·
    refine rn tk 10 rfl ?_
    cases hr
    exact jn _ rfl rfl rfl
   ·
    refine rn tk 2 rfl ?_
    refine bs 42 hr rfl (fun c6 hr=> ?_) (fun c6 hr=> ?_)
    ·
     refine rn tk 8 rfl ?_
     cases hr
     exact jn _ rfl rfl rfl
    ·
     refine rn tk 8 rfl ?_
     cases hr
     exact jn _ rfl rfl rfl
  ·
   refine rn tk 2 rfl ?_
   refine bs 29 hr rfl (fun c7 hr=> ?_) (fun c7 hr=> ?_)
   ·
    refine rn tk 4 rfl ?_
    refine bs 33 hr rfl (fun c8 hr=> ?_) (fun c8 hr=> ?_)
    ·
     refine rn tk 7 rfl ?_
     refine bs 40 hr rfl (fun c9 hr=> ?_) (fun c9 hr=> ?_)
     ·
      refine rn tk 10 rfl ?_
      cases hr
      exact jn _ rfl rfl rfl
     ·
      refine rn tk 2 rfl ?_
      refine kn 42 c7 rfl ?_
      refine rn tk 8 rfl ?_
      cases hr
      exact jn _ rfl rfl rfl
    ·
     refine rn tk 7 rfl ?_
     refine bs 40 hr rfl (fun c10 hr=> ?_) (fun c10 hr=> ?_)
     ·
      refine rn tk 10 rfl ?_
      cases hr
      exact jn _ rfl rfl rfl
     ·
      refine rn tk 2 rfl ?_
      refine kn 42 c7 rfl ?_
      refine rn tk 8 rfl ?_
      cases hr
      exact jn _ rfl rfl rfl
   ·
    refine rn tk 11 rfl ?_
    refine bs 40 hr rfl (fun c11 hr=> ?_) (fun c11 hr=> ?_)
    ·
     refine rn tk 10 rfl ?_
     cases hr
     exact jn _ rfl rfl rfl
    ·
     refine rn tk 2 rfl ?_
     refine kn 42 c7 rfl ?_
     refine rn tk 8 rfl ?_
     cases hr
     exact jn _ rfl rfl rfl
 ·
  refine ac 49 hr rfl (fun c12 hr=> ?_) (fun c12 hr=> ?_)
  ·
   refine rn tk 7 rfl ?_
   cases hr
   exact kr tk (.inr rfl) rfl rfl
  ·
   refine rn tk 7 rfl ?_
   refine wn tk rfl rfl rfl ?_
   refine rn tk 4 rfl ?_
   refine al2 hr (fun s13=> [(1, .ptr 1 0),(51, .l cI a0.Results),(52, .i ((a0.Results.length:Int))),(53, .i s13)]) (fun s13=> [(1, .cells [.s a0.Name, .s a0.Mail.Envelope.From, .l zca.pc a0.Mail.Envelope.To, .s a0.Mail.Envelope.Id, .l zfa.pc a0.Mail.Message.Fields, .l cU a0.Mail.Message.Body, .bo a0.Pipelined, .l cU a0.Buffer, .i a0.Expected, .bo a0.Whole, .bo a0.Done, .l cI a0.Results])]) (.exit 0) (fun b14=> []) (fun b14=> []) .ret (fun b15=> [(2, .bo b15)]) (fun b15=> []) rfl rfl (fun s13 x17 hr=> ?_) (fun b14 hr=> ?_) (fun b15 hr=> ?_)
   ·
    unfold q0a at hr
    refine rn tk 6 rfl ?_
    refine ac 54 hr rfl (fun c18 hr=> ?_) (fun c18 hr=> ?_)
    ·
     refine rn tk 7 rfl ?_
     obtain ⟨v19,h20,hr⟩:=zaa hr
     refine wi tk h20 rfl rfl rfl rfl rfl ?_
     refine rn tk 5 rfl ?_
     refine jb hr (fun j21=> [(1, .ptr 1 0),(51, .l cI a0.Results),(52, .i ((a0.Results.length:Int))),(53, .i s13),(66, .bo j21)]) (fun j21=> [(1, .cells [.s a0.Name, .s a0.Mail.Envelope.From, .l zca.pc a0.Mail.Envelope.To, .s a0.Mail.Envelope.Id, .l zfa.pc a0.Mail.Message.Fields, .l cU a0.Mail.Message.Body, .bo a0.Pipelined, .l cU a0.Buffer, .i a0.Expected, .bo a0.Whole, .bo a0.Done, .l cI a0.Results])]) (fun j21 hr=> ?_) (fun j21 hr=> ?_)
     ·
      refine rn tk 7 rfl ?_
      refine bs 63 hr rfl (fun c22 hr=> ?_) (fun c22 hr=> ?_)
      ·
       refine rn tk 4 rfl ?_
       cases hr
       exact jn _ rfl rfl rfl
      ·
       refine rn tk 4 rfl ?_
       cases hr
       exact jn _ rfl rfl rfl
     ·
      refine ac 66 hr rfl (fun c23 hr=> ?_) (fun c23 hr=> ?_)
      ·
       refine rn tk 8 rfl ?_
       cases hr
       exact ato rfl rfl rfl rfl
      ·
       refine rn tk 7 rfl ?_
       cases hr
       exact atc rfl rfl
    ·
     refine rn tk 2 rfl ?_
     cases hr
     exact ato rfl rfl rfl rfl
   ·
    refine rn tk 8 rfl ?_
    cases hr
    exact kr tk (.inr rfl) rfl rfl
   ·
    refine rn tk 2 rfl ?_
    cases hr
    exact kr tk (.inr rfl) rfl rfl
theorem yAa (a0:UInt8) (r:Bool) (hr:vea a0=some r):Run Tryz.prog 71 [.u8 a0] (.bo r):=by
 unfold vea at hr
 refine rf (fn:=Tryz.f71) ⟨Tryz.func71,rfl,by kernel_rfl⟩ rfl (fun _=> rfl) fun g0 hg=> ?_
 refine rn tk 5 rfl ?_
 refine jb hr (fun j1=> [(2, .bo j1)]) (fun j1=> []) (fun j1 hr=> ?_) (fun j1 hr=> ?_)
 ·
  refine rn tk 4 rfl ?_
  refine bs 5 hr rfl (fun c2 hr=> ?_) (fun c2 hr=> ?_)
  ·
   refine rn tk 4 rfl ?_
   refine bs 9 hr rfl (fun c3 hr=> ?_) (fun c3 hr=> ?_)
   ·
    refine rn tk 17 rfl ?_
    cases hr
    exact jn _ rfl rfl rfl
   ·
    refine rn tk 3 rfl ?_
    refine bs 12 hr rfl (fun c4 hr=> ?_) (fun c4 hr=> ?_)
    ·
     refine rn tk 5 rfl ?_
     refine bs 17 hr rfl (fun c5 hr=> ?_) (fun c5 hr=> ?_)
     ·
      refine rn tk 9 rfl ?_
      cases hr
      exact jn _ rfl rfl rfl
     ·
      refine rn tk 3 rfl ?_
      refine bs 20 hr rfl (fun c6 hr=> ?_) (fun c6 hr=> ?_)
      ·
       refine rn tk 6 rfl ?_
       cases hr
       exact jn _ rfl rfl rfl
      ·
       refine rn tk 6 rfl ?_
       cases hr
       exact jn _ rfl rfl rfl
    ·
     refine rn tk 8 rfl ?_
     refine bs 20 hr rfl (fun c7 hr=> ?_) (fun c7 hr=> ?_)
     ·
      refine rn tk 6 rfl ?_
      cases hr
      exact jn _ rfl rfl rfl
     ·
      refine rn tk 6 rfl ?_
      cases hr
      exact jn _ rfl rfl rfl
  ·
   refine rn tk 7 rfl ?_
   refine bs 12 hr rfl (fun c8 hr=> ?_) (fun c8 hr=> ?_)
   ·
    refine rn tk 5 rfl ?_
    refine bs 17 hr rfl (fun c9 hr=> ?_) (fun c9 hr=> ?_)
    ·
     refine rn tk 9 rfl ?_
     cases hr
     exact jn _ rfl rfl rfl
    ·
     refine rn tk 3 rfl ?_
     refine bs 20 hr rfl (fun c10 hr=> ?_) (fun c10 hr=> ?_)
     ·
      refine rn tk 6 rfl ?_
      cases hr
      exact jn _ rfl rfl rfl
     ·
      refine rn tk 6 rfl ?_
      cases hr
      exact jn _ rfl rfl rfl
   ·
    refine rn tk 8 rfl ?_
    refine bs 20 hr rfl (fun c11 hr=> ?_) (fun c11 hr=> ?_)
    ·
     refine rn tk 6 rfl ?_
     cases hr
     exact jn _ rfl rfl rfl
    ·
     refine rn tk 6 rfl ?_
     cases hr
     exact jn _ rfl rfl rfl
 ·
  refine rn tk 1 rfl ?_
  cases hr
  exact kr tk (.inr rfl) rfl rfl
theorem wUa (a0:Str) (r:Bool) (hr:vKa a0=some r):Run Tryz.prog 43 [.s a0] (.bo r):=by
 unfold vKa at hr
 refine rf (fn:=Tryz.f43) ⟨Tryz.func43,rfl,by kernel_rfl⟩ rfl (fun _=> rfl) fun g0 hg=> ?_
 refine rn tk 5 rfl ?_
 refine jb hr (fun j1=> [(2, .bo j1)]) (fun j1=> []) (fun j1 hr=> ?_) (fun j1 hr=> ?_)
 ·
  refine rn tk 4 rfl ?_
  refine bs 5 hr rfl (fun c2 hr=> ?_) (fun c2 hr=> ?_)
  ·
   refine rn tk 5 rfl ?_
   refine bs 10 hr rfl (fun c3 hr=> ?_) (fun c3 hr=> ?_)
   ·
    refine rn tk 1 rfl ?_
    refine ug rfl rfl rfl ?_
    refine ct hr (fun j4=> [(10, .bo true),(12, .bo j4)]) (fun j4=> []) (fun j4 hr jump4=> ?_) (fun j4 hr=> ?_)
    ·
     refine il (fn:=Tryz.f69) (args:= [.s a0, .fn (.func 70) [] []]) 400000 499999 [(10, .bo true)] rfl ⟨Tryz.func69,rfl,by kernel_rfl⟩ rfl rfl rfl fun T4 ds4=> ?_
     refine rn tk 14 rfl ?_
     refine al2 hr (fun s5=> [(0, .s a0),(1, .fn (.func 70) [] []),(7, .i ((a0.length:Int))),(8, .i s5)]) (fun s5=> [(499999, .sus g0.w.heap.size ds4),(400010, .hold (.bo true) (T4.getD 10 undef))]) (.exit 0) (fun b6=> []) (fun b6=> [(499999, .sus g0.w.heap.size ds4),(400010, .hold (.bo true) (T4.getD 10 undef))]) .ret (fun b7=> [(4, .bo false)]) (fun b7=> [(499999, .sus g0.w.heap.size ds4),(400010, .hold (.bo true) (T4.getD 10 undef))]) rfl rfl (fun s5 x9 hr=> ?_) (fun b6 hr=> ?_) (fun b7 hr=> ?_)
     ·
      unfold vra at hr
      refine rn tk 6 rfl ?_
      refine ac 9 hr rfl (fun c10 hr=> ?_) (fun c10 hr=> ?_)
      ·
       refine rn tk 15 rfl ?_
       obtain ⟨v11,h12,hr⟩:=zaa hr
       refine ws tk h12 rfl rfl rfl rfl ?_
       refine il (fn:=Tryz.f70) (args:= [.u8 v11]) 600000 699999 [(0, .s a0),(1, .fn (.func 70) [] []),(7, .i ((a0.length:Int))),(8, .i s5)] rfl ⟨Tryz.func70,rfl,by kernel_rfl⟩ rfl rfl rfl fun T6 ds6=> ?_
       refine rn tk 5 rfl ?_
       refine jb hr (fun j13=> [(2, .bo j13)]) (fun j13=> [(699999, .sus g0.w.heap.size ds6),(600000, .hold (.s a0) (T6.getD 0 undef)),(600001, .hold (.fn (.func 70) [] []) (T6.getD 1 undef)),(600007, .hold (.i ((a0.length:Int))) (T6.getD 7 undef)),(600008, .hold (.i s5) (T6.getD 8 undef)),(499999, .sus g0.w.heap.size ds4),(400010, .hold (.bo true) (T4.getD 10 undef))]) (fun j13 hr=> ?_) (fun j13 hr=> ?_)
       ·
        refine rn tk 2 rfl ?_
        obtain ⟨v14,h15,hr⟩:=zaa hr
        refine cl (yAa _ _ h15) rfl rfl ?_
        refine rn tk 1 rfl ?_
        refine bs 5 hr rfl (fun c16 hr=> ?_) (fun c16 hr=> ?_)
        ·
         refine rn tk 13 rfl ?_
         cases hr
         exact jn _ rfl rfl rfl
        ·
         refine rn tk 4 rfl ?_
         refine bs 9 hr rfl (fun c17 hr=> ?_) (fun c17 hr=> ?_)
         ·
          refine rn tk 9 rfl ?_
          cases hr
          exact jn _ rfl rfl rfl
         ·
          refine rn tk 4 rfl ?_
          refine bs 13 hr rfl (fun c18 hr=> ?_) (fun c18 hr=> ?_)
          ·
           refine rn tk 5 rfl ?_
           cases hr
           exact jn _ rfl rfl rfl
          ·
           refine rn tk 5 rfl ?_
           cases hr
           exact jn _ rfl rfl rfl
       ·
        refine rn tk 1 rfl ?_
        refine ie tk [.bo j13] [(0, .s a0),(1, .fn (.func 70) [] []),(7, .i ((a0.length:Int))),(8, .i s5)] [(499999, .sus g0.w.heap.size ds4),(400010, .hold (.bo true) (T4.getD 10 undef))] (.inr rfl) rfl rfl rfl rfl (hO ?_)
        refine rn tk 3 rfl ?_
        refine ac 16 hr rfl (fun c19 hr=> ?_) (fun c19 hr=> ?_)
        ·
         refine rn tk 8 rfl ?_
         cases hr
         exact ato rfl rfl rfl rfl
        ·
         refine rn tk 7 rfl ?_
         cases hr
         exact atc rfl rfl
      ·
       refine rn tk 2 rfl ?_
       cases hr
       exact ato rfl rfl rfl rfl
     ·
      refine rn tk 8 rfl ?_
      refine ie tk [.bo true] [(10, .bo true)] [] (.inr rfl) rfl rfl rfl rfl ?_
      cases hr
      exact jump4 _ _ rfl rfl
     ·
      refine rn tk 2 rfl ?_
      refine ie tk [.bo false] [(10, .bo true)] [] (.inr rfl) rfl rfl rfl rfl ?_
      cases hr
      exact jump4 _ _ rfl rfl
    ·
     refine rn tk 3 rfl ?_
     cases hr
     exact jn _ rfl rfl rfl
   ·
    refine rn tk 5 rfl ?_
    cases hr
    exact jn _ rfl rfl rfl
  ·
   refine rn tk 10 rfl ?_
   cases hr
   exact jn _ rfl rfl rfl
 ·
  refine rn tk 1 rfl ?_
  cases hr
  exact kr tk (.inr rfl) rfl rfl
end Go.Proofs.YtjnmamghadpedaaGreatDoor
namespace Go.Proofs.YtjnmamghadpedaaGreatDoor
open Go.RowKit
set_option maxRecDepth 100000
theorem jwa (s t:Str) (r:Bool) (hr:kya s t=some r):Run Tryz.prog 157 [.s s, .s t] (.bo r):=by
 unfold kya at hr
 split at hr
 case isFalse=> cases hr
 rename_i hlen
 cases hr
 refine ⟨⟨_,_,⟨Tryz.func157,rfl,by kernel_rfl⟩⟩,fun g vs hw hg ha=> ?_⟩
 obtain ⟨hsz,hrel⟩:=ha
 obtain ⟨l⟩:=vs
 match l,hsz with
 | [x,y],_=>
  obtain rfl:=j1a (hrel 0 _ rfl)
  obtain rfl:=j1a (hrel 1 _ rfl)
  obtain ⟨_,_,m,hm⟩:=hg.1 (0,0) (by simp [zkb])
  refine callsIn_wide.2 ((Tryz.strings_Contains (strB s) (strB t) m g.w (by rw [zZa];exact hlen) hm).mono ?_)
  rintro e w' ⟨rfl,rfl⟩
  exact ⟨g,_,rfl,rfl,Old.refl _ g,hw,rfl, .pv (.b rfl)⟩
theorem Qsa (s t:Str) (r:Str × Str × Bool) (hr:q9a s t=some r):Run Tryz.prog 130 [.s s, .s t] (.tup [.s r.1, .s r.2.1, .bo r.2.2]):=by
 unfold q9a at hr
 split at hr
 case isFalse=> cases hr
 rename_i hlen
 cases hr
 refine ⟨⟨_,_,⟨Tryz.func130,rfl,by kernel_rfl⟩⟩,fun g vs hw hg ha=> ?_⟩
 obtain ⟨hsz,hrel⟩:=ha
 obtain ⟨l⟩:=vs
 match l,hsz with
 | [x,y],_=>
  obtain rfl:=j1a (hrel 0 _ rfl)
  obtain rfl:=j1a (hrel 1 _ rfl)
  obtain ⟨_,_,m,hm⟩:=hg.1 (0,0) (by simp [zkb])
  refine callsIn_wide.2 ((Tryz.strings_Cut (strB s) (strB t) m g.w (by rw [zZa];exact hlen) hm).mono ?_)
  rintro e w' ⟨rfl,q,rfl⟩
  refine ⟨⟨g.w.drewN q,g.u,g.loc⟩,_,rfl,rfl,W1a g q,hw,rfl, .tup rfl fun i c hi=> ?_⟩
  match i,hi with
  | 0,rfl=> exact .pv (.b rfl)
  | 1,rfl=> exact .pv (.b rfl)
  | 2,rfl=> exact .pv (.b rfl)
end Go.Proofs.YtjnmamghadpedaaGreatDoor
namespace Go.Proofs.YtjnmamghadpedaaGreatDoor
open Go.RowKit
set_option maxRecDepth 100000
set_option maxHeartbeats 40000000
theorem vja (a0:Str) (a1:Str) (r:Bool) (hr:z3a a0 a1=some r):Run Tryz.prog 169 [.s a0, .s a1] (.bo r):=by
 unfold z3a at hr
 refine rf (fn:=Tryz.f169) ⟨Tryz.func169,rfl,by kernel_rfl⟩ rfl (fun _=> rfl) fun g0 hg=> ?_
 refine rn tk 5 rfl ?_
 refine jb hr (fun j1=> [(4, .bo j1)]) (fun j1=> []) (fun j1 hr=> ?_) (fun j1 hr=> ?_)
 ·
  refine rn tk 7 rfl ?_
  refine bs 10 hr rfl (fun c2 hr=> ?_) (fun c2 hr=> ?_)
  ·
   refine rn tk 3 rfl ?_
   obtain ⟨v3,h4,hr⟩:=zaa hr
   refine ug rfl rfl rfl ?_
   refine wscH tk h4 rfl rfl rfl rfl ?_
   refine rn tk 5 rfl ?_
   cases hr
   exact jn _ rfl rfl rfl
  ·
   refine rn tk 9 rfl ?_
   cases hr
   exact jn _ rfl rfl rfl
 ·
  refine rn tk 1 rfl ?_
  cases hr
  exact kr tk (.inr rfl) rfl rfl
theorem jca (a0:Str) (a1:Str) (r:Bool) (hr:koa a0 a1=some r):Run Tryz.prog 155 [.s a0, .s a1] (.bo r):=by
 unfold koa at hr
 refine rf (fn:=Tryz.f155) ⟨Tryz.func155,rfl,by kernel_rfl⟩ rfl (fun _=> rfl) fun g0 hg=> ?_
 refine rn tk 9 rfl ?_
 obtain ⟨v1,h2,hr⟩:=zaa hr
 refine cl (vja _ _ _ h2) rfl rfl ?_
 refine rn tk 4 rfl ?_
 cases hr
 exact kr tk (.inr rfl) rfl rfl
theorem vka (a0:Str) (a1:Str) (r:Bool) (hr:z4a a0 a1=some r):Run Tryz.prog 170 [.s a0, .s a1] (.bo r):=by
 unfold z4a at hr
 refine rf (fn:=Tryz.f170) ⟨Tryz.func170,rfl,by kernel_rfl⟩ rfl (fun _=> rfl) fun g0 hg=> ?_
 refine rn tk 5 rfl ?_
 refine jb hr (fun j1=> [(4, .bo j1)]) (fun j1=> []) (fun j1 hr=> ?_) (fun j1 hr=> ?_)
 ·
  refine rn tk 7 rfl ?_
  refine bs 10 hr rfl (fun c2 hr=> ?_) (fun c2 hr=> ?_)
  ·
   refine rn tk 6 rfl ?_
   obtain ⟨v3,h4,hr⟩:=zaa hr
   refine ug rfl rfl rfl ?_
   refine wscL tk h4 rfl rfl rfl rfl ?_
   refine rn tk 5 rfl ?_
   cases hr
   exact jn _ rfl rfl rfl
  ·
   refine rn tk 12 rfl ?_
   cases hr
   exact jn _ rfl rfl rfl
 ·
  refine rn tk 1 rfl ?_
  cases hr
  exact kr tk (.inr rfl) rfl rfl
theorem jda (a0:Str) (a1:Str) (r:Bool) (hr:kpa a0 a1=some r):Run Tryz.prog 156 [.s a0, .s a1] (.bo r):=by
 unfold kpa at hr
 refine rf (fn:=Tryz.f156) ⟨Tryz.func156,rfl,by kernel_rfl⟩ rfl (fun _=> rfl) fun g0 hg=> ?_
 refine rn tk 9 rfl ?_
 obtain ⟨v1,h2,hr⟩:=zaa hr
 refine cl (vka _ _ _ h2) rfl rfl ?_
 refine rn tk 4 rfl ?_
 cases hr
 exact kr tk (.inr rfl) rfl rfl
theorem j3a (a0:Str) (r:Bool) (hr:qBa a0=some r):Run Tryz.prog 133 [.s a0] (.bo r):=by
 unfold qBa at hr
 refine rf (fn:=Tryz.f133) ⟨Tryz.func133,rfl,by kernel_rfl⟩ rfl (fun _=> rfl) fun g0 hg=> ?_
 refine rn tk 10 rfl ?_
 refine jb hr (fun j1=> [(2, .bo j1)]) (fun j1=> []) (fun j1 hr=> ?_) (fun j1 hr=> ?_)
 ·
  refine rn tk 4 rfl ?_
  refine bs 6 hr rfl (fun c2 hr=> ?_) (fun c2 hr=> ?_)
  ·
   refine rn tk 5 rfl ?_
   refine bs 11 hr rfl (fun c3 hr=> ?_) (fun c3 hr=> ?_)
   ·
    refine rn tk 2 rfl ?_
    refine ug rfl rfl rfl ?_
    refine ct hr (fun j4=> [(0, .s a0),(11, .bo true),(14, .bo j4)]) (fun j4=> []) (fun j4 hr jump4=> ?_) (fun j4 hr=> ?_)
    ·
     refine il (fn:=Tryz.f69) (args:= [.s a0, .fn (.func 154) [] []]) 400000 499999 [(0, .s a0),(11, .bo true)] rfl ⟨Tryz.func69,rfl,by kernel_rfl⟩ rfl rfl rfl fun T4 ds4=> ?_
     refine rn tk 14 rfl ?_
     refine al2 hr (fun s5=> [(0, .s a0),(1, .fn (.func 154) [] []),(7, .i ((a0.length:Int))),(8, .i s5)]) (fun s5=> [(499999, .sus g0.w.heap.size ds4),(400000, .hold (.s a0) (T4.getD 0 undef)),(400011, .hold (.bo true) (T4.getD 11 undef))]) (.exit 0) (fun b6=> []) (fun b6=> [(499999, .sus g0.w.heap.size ds4),(400000, .hold (.s a0) (T4.getD 0 undef)),(400011, .hold (.bo true) (T4.getD 11 undef))]) .ret (fun b7=> [(4, .bo false)]) (fun b7=> [(499999, .sus g0.w.heap.size ds4),(400000, .hold (.s a0) (T4.getD 0 undef)),(400011, .hold (.bo true) (T4.getD 11 undef))]) rfl rfl (fun s5 x9 hr=> ?_) (fun b6 hr=> ?_) (fun b7 hr=> ?_)
     ·
      unfold kRa at hr
      refine rn tk 6 rfl ?_
      refine ac 9 hr rfl (fun c10 hr=> ?_) (fun c10 hr=> ?_)
      ·
       refine rn tk 15 rfl ?_
       obtain ⟨v11,h12,hr⟩:=zaa hr
       refine ws tk h12 rfl rfl rfl rfl ?_
       refine il (fn:=Tryz.f154) (args:= [.u8 v11]) 600000 699999 [(0, .s a0),(1, .fn (.func 154) [] []),(7, .i ((a0.length:Int))),(8, .i s5)] rfl ⟨Tryz.func154,rfl,by kernel_rfl⟩ rfl rfl rfl fun T6 ds6=> ?_
       refine rn tk 5 rfl ?_
       refine jb hr (fun j13=> [(2, .bo j13)]) (fun j13=> [(699999, .sus g0.w.heap.size ds6),(600000, .hold (.s a0) (T6.getD 0 undef)),(600001, .hold (.fn (.func 154) [] []) (T6.getD 1 undef)),(600007, .hold (.i ((a0.length:Int))) (T6.getD 7 undef)),(600008, .hold (.i s5) (T6.getD 8 undef)),(499999, .sus g0.w.heap.size ds4),(400000, .hold (.s a0) (T4.getD 0 undef)),(400011, .hold (.bo true) (T4.getD 11 undef))]) (fun j13 hr=> ?_) (fun j13 hr=> ?_)
       ·
        refine rn tk 4 rfl ?_
        refine bs 5 hr rfl (fun c14 hr=> ?_) (fun c14 hr=> ?_)
        ·
         refine rn tk 4 rfl ?_
         refine bs 9 hr rfl (fun c15 hr=> ?_) (fun c15 hr=> ?_)
         ·
          refine rn tk 17 rfl ?_
          cases hr
          exact jn _ rfl rfl rfl
         ·
          refine rn tk 3 rfl ?_
          refine bs 12 hr rfl (fun c16 hr=> ?_) (fun c16 hr=> ?_)
          ·
           refine rn tk 5 rfl ?_
           refine bs 17 hr rfl (fun c17 hr=> ?_) (fun c17 hr=> ?_)
           ·
            refine rn tk 9 rfl ?_
            cases hr
            exact jn _ rfl rfl rfl
           ·
            refine rn tk 4 rfl ?_
            refine bs 21 hr rfl (fun c18 hr=> ?_) (fun c18 hr=> ?_)
            ·
             refine rn tk 5 rfl ?_
             cases hr
             exact jn _ rfl rfl rfl
            ·
             refine rn tk 5 rfl ?_
             cases hr
             exact jn _ rfl rfl rfl
          ·
           refine rn tk 9 rfl ?_
           refine bs 21 hr rfl (fun c19 hr=> ?_) (fun c19 hr=> ?_)
           ·
            refine rn tk 5 rfl ?_
            cases hr
            exact jn _ rfl rfl rfl
           ·
            refine rn tk 5 rfl ?_
            cases hr
            exact jn _ rfl rfl rfl
        ·
         refine rn tk 7 rfl ?_
         refine bs 12 hr rfl (fun c20 hr=> ?_) (fun c20 hr=> ?_)
         ·
          refine rn tk 5 rfl ?_
          refine bs 17 hr rfl (fun c21 hr=> ?_) (fun c21 hr=> ?_)
          ·
           refine rn tk 9 rfl ?_
           cases hr
           exact jn _ rfl rfl rfl
          ·
           refine rn tk 4 rfl ?_
           refine bs 21 hr rfl (fun c22 hr=> ?_) (fun c22 hr=> ?_)
           ·
            refine rn tk 5 rfl ?_
            cases hr
            exact jn _ rfl rfl rfl
           ·
            refine rn tk 5 rfl ?_
            cases hr
            exact jn _ rfl rfl rfl
         ·
          refine rn tk 9 rfl ?_
          refine bs 21 hr rfl (fun c23 hr=> ?_) (fun c23 hr=> ?_)
          ·
           refine rn tk 5 rfl ?_
           cases hr
           exact jn _ rfl rfl rfl
          ·
           refine rn tk 5 rfl ?_
           cases hr
           exact jn _ rfl rfl rfl
       ·
        refine rn tk 1 rfl ?_
        refine ie tk [.bo j13] [(0, .s a0),(1, .fn (.func 154) [] []),(7, .i ((a0.length:Int))),(8, .i s5)] [(499999, .sus g0.w.heap.size ds4),(400000, .hold (.s a0) (T4.getD 0 undef)),(400011, .hold (.bo true) (T4.getD 11 undef))] (.inr rfl) rfl rfl rfl rfl (hO ?_)
        refine rn tk 3 rfl ?_
        refine ac 16 hr rfl (fun c24 hr=> ?_) (fun c24 hr=> ?_)
        ·
         refine rn tk 8 rfl ?_
         cases hr
         exact ato rfl rfl rfl rfl
        ·
         refine rn tk 7 rfl ?_
         cases hr
         exact atc rfl rfl
      ·
       refine rn tk 2 rfl ?_
       cases hr
       exact ato rfl rfl rfl rfl
     ·
      refine rn tk 8 rfl ?_
      refine ie tk [.bo true] [(0, .s a0),(11, .bo true)] [] (.inr rfl) rfl rfl rfl rfl ?_
      cases hr
      exact jump4 _ _ rfl rfl
     ·
      refine rn tk 2 rfl ?_
      refine ie tk [.bo false] [(0, .s a0),(11, .bo true)] [] (.inr rfl) rfl rfl rfl rfl ?_
      cases hr
      exact jump4 _ _ rfl rfl
    ·
     refine rn tk 2 rfl ?_
     refine bs 16 hr rfl (fun c25 hr=> ?_) (fun c25 hr=> ?_)
     ·
      refine rn tk 1 rfl ?_
      obtain ⟨v26,h27,hr⟩:=zaa hr
      refine ug rfl rfl rfl ?_
      refine cl (jca _ _ _ h27) rfl rfl ?_
      refine rn tk 3 rfl ?_
      refine bs 21 hr rfl (fun c28 hr=> ?_) (fun c28 hr=> ?_)
      ·
       refine rn tk 1 rfl ?_
       obtain ⟨v29,h30,hr⟩:=zaa hr
       refine ug rfl rfl rfl ?_
       refine cl (jda _ _ _ h30) rfl rfl ?_
       refine rn tk 3 rfl ?_
       refine bs 26 hr rfl (fun c31 hr=> ?_) (fun c31 hr=> ?_)
       ·
        refine rn tk 1 rfl ?_
        obtain ⟨v32,h33,hr⟩:=zaa hr
        refine ug rfl rfl rfl ?_
        refine cl (jwa _ _ _ h33) rfl rfl ?_
        refine rn tk 4 rfl ?_
        cases hr
        exact jn _ rfl rfl rfl
       ·
        refine rn tk 6 rfl ?_
        cases hr
        exact jn _ rfl rfl rfl
      ·
       refine rn tk 11 rfl ?_
       cases hr
       exact jn _ rfl rfl rfl
     ·
      refine rn tk 16 rfl ?_
      cases hr
      exact jn _ rfl rfl rfl
   ·
    refine rn tk 21 rfl ?_
    cases hr
    exact jn _ rfl rfl rfl
  ·
   refine rn tk 26 rfl ?_
   cases hr
   exact jn _ rfl rfl rfl
 ·
  refine rn tk 1 rfl ?_
  cases hr
  exact kr tk (.inr rfl) rfl rfl
theorem ZEa (a0:Str) (r:Str × Str × Bool) (hr:qWa a0=some r):Run Tryz.prog 112 [.s a0] (.tup [.s r.1, .s r.2.1, .bo r.2.2]):=by
 unfold qWa at hr
 refine rf (fn:=Tryz.f112) ⟨Tryz.func112,rfl,by kernel_rfl⟩ rfl (fun _=> rfl) fun g0 hg=> ?_
 refine rn tk 10 rfl ?_
 obtain ⟨v1,h2,hr⟩:=zaa hr
 refine cl (Qsa _ _ _ h2) rfl rfl ?_
 refine rn tk 14 rfl ?_
 refine jb hr (fun j3=> [(2, .s v1.1),(3, .s v1.2.1),(4, .bo j3)]) (fun j3=> []) (fun j3 hr=> ?_) (fun j3 hr=> ?_)
 ·
  refine rn tk 5 rfl ?_
  refine bs 15 hr rfl (fun c4 hr=> ?_) (fun c4 hr=> ?_)
  ·
   refine rn tk 4 rfl ?_
   refine bs 19 hr rfl (fun c5 hr=> ?_) (fun c5 hr=> ?_)
   ·
    refine rn tk 5 rfl ?_
    refine bs 24 hr rfl (fun c6 hr=> ?_) (fun c6 hr=> ?_)
    ·
     refine rn tk 2 rfl ?_
     refine ug rfl rfl rfl ?_
     refine ct hr (fun j7=> [(3, .s v1.2.1),(12, .s v1.1),(13, .s v1.2.1),(24, .bo true),(27, .bo j7)]) (fun j7=> []) (fun j7 hr jump4=> ?_) (fun j7 hr=> ?_)
     ·
      refine il (fn:=Tryz.f69) (args:= [.s v1.1, .fn (.func 131) [] []]) 400000 499999 [(3, .s v1.2.1),(12, .s v1.1),(13, .s v1.2.1),(24, .bo true)] rfl ⟨Tryz.func69,rfl,by kernel_rfl⟩ rfl rfl rfl fun T4 ds4=> ?_
      refine rn tk 14 rfl ?_
      refine al2 hr (fun s8=> [(0, .s v1.1),(1, .fn (.func 131) [] []),(7, .i ((v1.1.length:Int))),(8, .i s8)]) (fun s8=> [(499999, .sus g0.w.heap.size ds4),(400003, .hold (.s v1.2.1) (T4.getD 3 undef)),(400012, .hold (.s v1.1) (T4.getD 12 undef)),(400013, .hold (.s v1.2.1) (T4.getD 13 undef)),(400024, .hold (.bo true) (T4.getD 24 undef))]) (.exit 0) (fun b9=> []) (fun b9=> [(499999, .sus g0.w.heap.size ds4),(400003, .hold (.s v1.2.1) (T4.getD 3 undef)),(400012, .hold (.s v1.1) (T4.getD 12 undef)),(400013, .hold (.s v1.2.1) (T4.getD 13 undef)),(400024, .hold (.bo true) (T4.getD 24 undef))]) .ret (fun b10=> [(4, .bo false)]) (fun b10=> [(499999, .sus g0.w.heap.size ds4),(400003, .hold (.s v1.2.1) (T4.getD 3 undef)),(400012, .hold (.s v1.1) (T4.getD 12 undef)),(400013, .hold (.s v1.2.1) (T4.getD 13 undef)),(400024, .hold (.bo true) (T4.getD 24 undef))]) rfl rfl (fun s8 x12 hr=> ?_) (fun b9 hr=> ?_) (fun b10 hr=> ?_)
      ·
       unfold k4a at hr
       refine rn tk 6 rfl ?_
       refine ac 9 hr rfl (fun c13 hr=> ?_) (fun c13 hr=> ?_)
       ·
        refine rn tk 15 rfl ?_
        obtain ⟨v14,h15,hr⟩:=zaa hr
        refine ws tk h15 rfl rfl rfl rfl ?_
        refine il (fn:=Tryz.f131) (args:= [.u8 v14]) 600000 699999 [(0, .s v1.1),(1, .fn (.func 131) [] []),(7, .i ((v1.1.length:Int))),(8, .i s8)] rfl ⟨Tryz.func131,rfl,by kernel_rfl⟩ rfl rfl rfl fun T6 ds6=> ?_
        refine rn tk 5 rfl ?_
        refine jb hr (fun j16=> [(2, .bo j16)]) (fun j16=> [(699999, .sus g0.w.heap.size ds6),(600000, .hold (.s v1.1) (T6.getD 0 undef)),(600001, .hold (.fn (.func 131) [] []) (T6.getD 1 undef)),(600007, .hold (.i ((v1.1.length:Int))) (T6.getD 7 undef)),(600008, .hold (.i s8) (T6.getD 8 undef)),(499999, .sus g0.w.heap.size ds4),(400003, .hold (.s v1.2.1) (T4.getD 3 undef)),(400012, .hold (.s v1.1) (T4.getD 12 undef)),(400013, .hold (.s v1.2.1) (T4.getD 13 undef)),(400024, .hold (.bo true) (T4.getD 24 undef))]) (fun j16 hr=> ?_) (fun j16 hr=> ?_)
        ·
         refine rn tk 2 rfl ?_
         obtain ⟨v17,h18,hr⟩:=zaa hr
         refine cl (yAa _ _ h18) rfl rfl ?_
         refine rn tk 1 rfl ?_
         refine bs 5 hr rfl (fun c19 hr=> ?_) (fun c19 hr=> ?_)
         ·
          refine rn tk 6 rfl ?_
          cases hr
          exact jn _ rfl rfl rfl
         ·
          refine rn tk 1 rfl ?_
          obtain ⟨v20,h21,hr⟩:=zaa hr
          refine ug rfl rfl rfl ?_
          refine cl (qIa _ _ _ h21) rfl rfl ?_
          refine rn tk 4 rfl ?_
          cases hr
          exact jn _ rfl rfl rfl
        ·
         refine rn tk 1 rfl ?_
         refine ie tk [.bo j16] [(0, .s v1.1),(1, .fn (.func 131) [] []),(7, .i ((v1.1.length:Int))),(8, .i s8)] [(499999, .sus g0.w.heap.size ds4),(400003, .hold (.s v1.2.1) (T4.getD 3 undef)),(400012, .hold (.s v1.1) (T4.getD 12 undef)),(400013, .hold (.s v1.2.1) (T4.getD 13 undef)),(400024, .hold (.bo true) (T4.getD 24 undef))] (.inr rfl) rfl rfl rfl rfl (hO ?_)
         refine rn tk 3 rfl ?_
         refine ac 16 hr rfl (fun c22 hr=> ?_) (fun c22 hr=> ?_)
         ·
          refine rn tk 8 rfl ?_
          cases hr
          exact ato rfl rfl rfl rfl
         ·
          refine rn tk 7 rfl ?_
          cases hr
          exact atc rfl rfl
       ·
        refine rn tk 2 rfl ?_
        cases hr
        exact ato rfl rfl rfl rfl
      ·
       refine rn tk 8 rfl ?_
       refine ie tk [.bo true] [(3, .s v1.2.1),(12, .s v1.1),(13, .s v1.2.1),(24, .bo true)] [] (.inr rfl) rfl rfl rfl rfl ?_
       cases hr
       exact jump4 _ _ rfl rfl
      ·
       refine rn tk 2 rfl ?_
       refine ie tk [.bo false] [(3, .s v1.2.1),(12, .s v1.1),(13, .s v1.2.1),(24, .bo true)] [] (.inr rfl) rfl rfl rfl rfl ?_
       cases hr
       exact jump4 _ _ rfl rfl
     ·
      refine rn tk 2 rfl ?_
      refine bs 29 hr rfl (fun c23 hr=> ?_) (fun c23 hr=> ?_)
      ·
       refine rn tk 1 rfl ?_
       obtain ⟨v24,h25,hr⟩:=zaa hr
       refine ug rfl rfl rfl ?_
       refine cl (j3a _ _ h25) rfl rfl ?_
       refine rn tk 5 rfl ?_
       cases hr
       exact jn _ rfl rfl rfl
      ·
       refine rn tk 7 rfl ?_
       cases hr
       exact jn _ rfl rfl rfl
    ·
     refine rn tk 12 rfl ?_
     cases hr
     exact jn _ rfl rfl rfl
   ·
    refine rn tk 17 rfl ?_
    cases hr
    exact jn _ rfl rfl rfl
  ·
   refine rn tk 21 rfl ?_
   cases hr
   exact jn _ rfl rfl rfl
 ·
  refine rn tk 1 rfl ?_
  cases hr
  exact kr tk (.inr rfl) rfl rfl
theorem qVa (a0:Str) (r:Bool) (hr:kza a0=some r):Run Tryz.prog 95 [.s a0] (.bo r):=by
 unfold kza at hr
 refine rf (fn:=Tryz.f95) ⟨Tryz.func95,rfl,by kernel_rfl⟩ rfl (fun _=> rfl) fun g0 hg=> ?_
 refine rn tk 8 rfl ?_
 obtain ⟨v1,h2,hr⟩:=zaa hr
 refine cl (ZEa _ _ h2) rfl rfl ?_
 refine rn tk 16 rfl ?_
 cases hr
 exact kr tk (.inr rfl) rfl rfl
theorem wxa (a0:Int) (r:Bool) (hr:k5a a0=some r):Run Tryz.prog 113 [.i a0] (.bo r):=by
 unfold k5a at hr
 refine rf (fn:=Tryz.f113) ⟨Tryz.func113,rfl,by kernel_rfl⟩ rfl (fun _=> rfl) fun g0 hg=> ?_
 refine rn tk 5 rfl ?_
 refine jb hr (fun j1=> [(2, .bo j1)]) (fun j1=> []) (fun j1 hr=> ?_) (fun j1 hr=> ?_)
 ·
  refine rn tk 4 rfl ?_
  refine bs 5 hr rfl (fun c2 hr=> ?_) (fun c2 hr=> ?_)
  ·
   refine rn tk 5 rfl ?_
   cases hr
   exact jn _ rfl rfl rfl
  ·
   refine rn tk 5 rfl ?_
   cases hr
   exact jn _ rfl rfl rfl
 ·
  refine rn tk 1 rfl ?_
  cases hr
  exact kr tk (.inr rfl) rfl rfl
theorem yva (a0:List zca) (r:zta) (hr:kJa a0=some r):Run Tryz.prog 96 [.l zca.pc a0] (.agg [.i r.Code, .i r.Index]):=by
 unfold kJa at hr
 refine rf (fn:=Tryz.f96) ⟨Tryz.func96,rfl,by kernel_rfl⟩ rfl (fun _=> rfl) fun g0 hg=> ?_
 refine rn tk 9 rfl ?_
 refine wn tk rfl rfl rfl ?_
 refine rn tk 4 rfl ?_
 refine al2 hr (fun s1=> [(0, .l zca.pc a0),(2, .ptr 2 0),(5, .l zca.pc a0),(6, .i ((a0.length:Int))),(7, .i s1)]) (fun s1=> [(2, .cells [.i 0, .i 0])]) (.exit 0) (fun b2=> [(2, .ptr 2 0)]) (fun b2=> [(2, .cells [.i 0, .i 0])]) .ret (fun b3=> [(2, .ptr 2 0)]) (fun b3=> [(2, .cells [.i b3.Code, .i b3.Index])]) rfl rfl (fun s1 x5 hr=> ?_) (fun b2 hr=> ?_) (fun b3 hr=> ?_)
 ·
  unfold kKa at hr
  refine rn tk 6 rfl ?_
  refine ac 8 hr rfl (fun c6 hr=> ?_) (fun c6 hr=> ?_)
  ·
   refine rn tk 7 rfl ?_
   obtain ⟨v7,h8,hr⟩:=zaa hr
   refine wi tk h8 rfl rfl rfl rfl rfl ?_
   refine rn tk 11 rfl ?_
   obtain ⟨v9,h10,hr⟩:=zaa hr
   refine cl (qVa _ _ h10) rfl rfl ?_
   refine rn tk 4 rfl ?_
   refine ac 12 hr rfl (fun c11 hr=> ?_) (fun c11 hr=> ?_)
   ·
    refine rn tk 3 rfl ?_
    obtain ⟨v12,h13,hr⟩:=zaa hr
    refine cl (zla _ _ _ h13) rfl rfl ?_
    refine rn tk 7 rfl ?_
    cases hr
    exact ato rfl rfl rfl rfl
   ·
    refine rn tk 4 rfl ?_
    obtain ⟨v14,h15,hr⟩:=zaa hr
    refine cl (wxa _ _ h15) rfl rfl ?_
    refine rn tk 4 rfl ?_
    refine ac 19 hr rfl (fun c16 hr=> ?_) (fun c16 hr=> ?_)
    ·
     refine rn tk 3 rfl ?_
     obtain ⟨v17,h18,hr⟩:=zaa hr
     refine cl (zla _ _ _ h18) rfl rfl ?_
     refine rn tk 7 rfl ?_
     cases hr
     exact ato rfl rfl rfl rfl
    ·
     refine rn tk 4 rfl ?_
     obtain ⟨v19,h20,hr⟩:=zaa hr
     refine wlH tk h20 rfl rfl rfl (fun _=> rfl) rfl ?_
     refine rn tk 1 rfl ?_
     refine il (fn:=Tryz.f114) (args:= [.l zca.pc v19, .fn (.func 115) [] [.ptr 4 0]]) 500000 599999 [(0, .l zca.pc a0),(2, .ptr 2 0),(3, .i s1),(5, .l zca.pc a0),(6, .i ((a0.length:Int))),(7, .i s1)] rfl ⟨Tryz.func114,rfl,by kernel_rfl⟩ rfl rfl rfl fun T5 ds5=> ?_
     refine rn tk 9 rfl ?_
     refine ct hr (fun j21=> [(7, .i j21)]) (fun j21=> [(599999, .sus g0.w.heap.size ds5),(500000, .hold (.l zca.pc a0) (T5.getD 0 undef)),(500002, .hold (.ptr 2 0) (T5.getD 2 undef)),(500005, .hold (.l zca.pc a0) (T5.getD 5 undef)),(500006, .hold (.i ((a0.length:Int))) (T5.getD 6 undef)),(500007, .hold (.i s1) (T5.getD 7 undef)),(500003, .hold (.i s1) (T5.getD 3 undef)),(2, .cells [.i 0, .i 0])]) (fun j21 hr jump6=> ?_) (fun j21 hr=> ?_)
     ·
      refine il (fn:=Tryz.f134) (args:= [.l zca.pc v19, .fn (.func 115) [] [.ptr 4 0]]) 600000 699999 [] rfl ⟨Tryz.func134,rfl,by kernel_rfl⟩ rfl rfl rfl fun T6 ds6=> ?_
      refine rn tk 9 rfl ?_
      refine wn tk rfl rfl rfl ?_
      refine rn tk 4 rfl ?_
      refine al2 hr (fun s22=> [(0, .l zca.pc v19),(1, .fn (.func 115) [] [.ptr 4 0]),(7, .i ((v19.length:Int))),(8, .i s22)]) (fun s22=> [(699999, .sus g0.w.heap.size ds6),(599999, .sus g0.w.heap.size ds5),(500000, .hold (.l zca.pc a0) (T5.getD 0 undef)),(500002, .hold (.ptr 2 0) (T5.getD 2 undef)),(500005, .hold (.l zca.pc a0) (T5.getD 5 undef)),(500006, .hold (.i ((a0.length:Int))) (T5.getD 6 undef)),(500007, .hold (.i s1) (T5.getD 7 undef)),(500003, .hold (.i s1) (T5.getD 3 undef)),(4, .cells [.s v7.Address, .i v7.Notify]),(2, .cells [.i 0, .i 0])]) (.exit 0) (fun b23=> []) (fun b23=> [(699999, .sus g0.w.heap.size ds6),(599999, .sus g0.w.heap.size ds5),(500000, .hold (.l zca.pc a0) (T5.getD 0 undef)),(500002, .hold (.ptr 2 0) (T5.getD 2 undef)),(500005, .hold (.l zca.pc a0) (T5.getD 5 undef)),(500006, .hold (.i ((a0.length:Int))) (T5.getD 6 undef)),(500007, .hold (.i s1) (T5.getD 7 undef)),(500003, .hold (.i s1) (T5.getD 3 undef)),(2, .cells [.i 0, .i 0])]) .ret (fun b24=> [(4, .i b24)]) (fun b24=> [(699999, .sus g0.w.heap.size ds6),(599999, .sus g0.w.heap.size ds5),(500000, .hold (.l zca.pc a0) (T5.getD 0 undef)),(500002, .hold (.ptr 2 0) (T5.getD 2 undef)),(500005, .hold (.l zca.pc a0) (T5.getD 5 undef)),(500006, .hold (.i ((a0.length:Int))) (T5.getD 6 undef)),(500007, .hold (.i s1) (T5.getD 7 undef)),(500003, .hold (.i s1) (T5.getD 3 undef)),(2, .cells [.i 0, .i 0])]) rfl rfl (fun s22 x26 hr=> ?_) (fun b23 hr=> ?_) (fun b24 hr=> ?_)
      ·
       unfold kma at hr
       refine rn tk 6 rfl ?_
       refine ac 9 hr rfl (fun c27 hr=> ?_) (fun c27 hr=> ?_)
       ·
        refine rn tk 15 rfl ?_
        obtain ⟨v28,h29,hr⟩:=zaa hr
        refine wi tk h29 rfl rfl rfl rfl rfl ?_
        refine rn tk 1 rfl ?_
        refine il (fn:=Tryz.f115) (args:= [.agg [.s v28.Address, .i v28.Notify], .ptr 4 0]) 800000 899999 [(0, .l zca.pc v19),(1, .fn (.func 115) [] [.ptr 4 0]),(5, .i s22),(7, .i ((v19.length:Int))),(8, .i s22)] rfl ⟨Tryz.func115,rfl,by kernel_rfl⟩ rfl rfl rfl fun T8 ds8=> ?_
        refine rn tk 2 rfl ?_
        refine wo (j9a (k:=2) 1002 rfl rfl rfl rfl rfl) rfl ?_
        refine rn tk 14 rfl ?_
        refine ie tk [.bo ((v28.Address==v7.Address))] [(0, .l zca.pc v19),(1, .fn (.func 115) [] [.ptr 4 0]),(5, .i s22),(7, .i ((v19.length:Int))),(8, .i s22)] [(1002, .cells [.s v28.Address, .i v28.Notify]),(699999, .sus g0.w.heap.size ds6),(599999, .sus g0.w.heap.size ds5),(500000, .hold (.l zca.pc a0) (T5.getD 0 undef)),(500002, .hold (.ptr 2 0) (T5.getD 2 undef)),(500005, .hold (.l zca.pc a0) (T5.getD 5 undef)),(500006, .hold (.i ((a0.length:Int))) (T5.getD 6 undef)),(500007, .hold (.i s1) (T5.getD 7 undef)),(500003, .hold (.i s1) (T5.getD 3 undef)),(4, .cells [.s v7.Address, .i v7.Notify]),(2, .cells [.i 0, .i 0])] (.inr rfl) rfl rfl rfl rfl (hO ?_)
        refine rn tk 2 rfl ?_
        refine ac 16 hr rfl (fun c30 hr=> ?_) (fun c30 hr=> ?_)
        ·
         refine rn tk 9 rfl ?_
         cases hr
         exact ato rfl rfl rfl rfl
        ·
         refine rn tk 7 rfl ?_
         cases hr
         exact atc rfl rfl
       ·
        refine rn tk 2 rfl ?_
        cases hr
        exact ato rfl rfl rfl rfl
      ·
       refine rn tk 8 rfl ?_
       refine ie tk [.i ((-1))] [] [(599999, .sus g0.w.heap.size ds5),(500000, .hold (.l zca.pc a0) (T5.getD 0 undef)),(500002, .hold (.ptr 2 0) (T5.getD 2 undef)),(500005, .hold (.l zca.pc a0) (T5.getD 5 undef)),(500006, .hold (.i ((a0.length:Int))) (T5.getD 6 undef)),(500007, .hold (.i s1) (T5.getD 7 undef)),(500003, .hold (.i s1) (T5.getD 3 undef)),(2, .cells [.i 0, .i 0])] (.inr rfl) rfl rfl rfl rfl ?_
       cases hr
       exact jump6 _ _ rfl rfl
      ·
       refine rn tk 2 rfl ?_
       refine ie tk [.i b24] [] [(599999, .sus g0.w.heap.size ds5),(500000, .hold (.l zca.pc a0) (T5.getD 0 undef)),(500002, .hold (.ptr 2 0) (T5.getD 2 undef)),(500005, .hold (.l zca.pc a0) (T5.getD 5 undef)),(500006, .hold (.i ((a0.length:Int))) (T5.getD 6 undef)),(500007, .hold (.i s1) (T5.getD 7 undef)),(500003, .hold (.i s1) (T5.getD 3 undef)),(2, .cells [.i 0, .i 0])] (.inr rfl) rfl rfl rfl rfl ?_
       cases hr
       exact jump6 _ _ rfl rfl
     ·
      refine rn tk 5 rfl ?_
      refine ie tk [.bo (decide (0≤j21))] [(0, .l zca.pc a0),(2, .ptr 2 0),(3, .i s1),(5, .l zca.pc a0),(6, .i ((a0.length:Int))),(7, .i s1)] [(2, .cells [.i 0, .i 0])] (.inr rfl) rfl rfl rfl rfl (hO ?_)
      refine rn tk 3 rfl ?_
      refine ac 26 hr rfl (fun c31 hr=> ?_) (fun c31 hr=> ?_)
      ·
       refine rn tk 3 rfl ?_
       obtain ⟨v32,h33,hr⟩:=zaa hr
       refine cl (zla _ _ _ h33) rfl rfl ?_
       refine rn tk 7 rfl ?_
       cases hr
       exact ato rfl rfl rfl rfl
      ·
       refine rn tk 8 rfl ?_
       cases hr
       exact atc rfl rfl
  ·
   refine rn tk 2 rfl ?_
   cases hr
   exact ato rfl rfl rfl rfl
 ·
  refine rn tk 4 rfl ?_
  obtain ⟨v34,h35,hr⟩:=zaa hr
  refine cl (zEa _ h35) rfl rfl ?_
  refine rn tk 4 rfl ?_
  cases hr
  exact kr tk (.inr rfl) rfl rfl
 ·
  refine rn tk 2 rfl ?_
  cases hr
  exact kr tk (.inr rfl) rfl rfl
theorem jea (a0:zFa) (r:zta) (hr:k6a a0=some r):Run Tryz.prog 72 [.agg [.s a0.From, .l zca.pc a0.To, .s a0.Id]] (.agg [.i r.Code, .i r.Index]):=by
 unfold k6a at hr
 refine rf (fn:=Tryz.f72) ⟨Tryz.func72,rfl,by kernel_rfl⟩ rfl (fun _=> rfl) fun g0 hg=> ?_
 refine rn tk 8 rfl ?_
 refine jb hr (fun j1=> [(1, .ptr 1 0),(2, .ptr 2 0),(3, .bo j1)]) (fun j1=> [(2, .cells [.i 0, .i 0]),(1, .cells [.s a0.From, .l zca.pc a0.To, .s a0.Id])]) (fun j1 hr=> ?_) (fun j1 hr=> ?_)
 ·
  refine rn tk 5 rfl ?_
  refine bs 7 hr rfl (fun c2 hr=> ?_) (fun c2 hr=> ?_)
  ·
   refine rn tk 2 rfl ?_
   obtain ⟨v3,h4,hr⟩:=zaa hr
   refine ug rfl rfl rfl ?_
   refine cl (qVa _ _ h4) rfl rfl ?_
   refine rn tk 4 rfl ?_
   cases hr
   exact jn _ rfl rfl rfl
  ·
   refine rn tk 7 rfl ?_
   cases hr
   exact jn _ rfl rfl rfl
 ·
  refine ac 3 hr rfl (fun c5 hr=> ?_) (fun c5 hr=> ?_)
  ·
   refine rn tk 2 rfl ?_
   obtain ⟨v6,h7,hr⟩:=zaa hr
   refine cl (zla _ _ _ h7) rfl rfl ?_
   refine rn tk 6 rfl ?_
   cases hr
   exact kr tk (.inr rfl) rfl rfl
  ·
   refine jb hr (fun j8=> [(1, .ptr 1 0),(2, .ptr 2 0),(14, .bo j8)]) (fun j8=> [(2, .cells [.i 0, .i 0]),(1, .cells [.s a0.From, .l zca.pc a0.To, .s a0.Id])]) (fun j8 hr=> ?_) (fun j8 hr=> ?_)
   ·
    refine rn tk 3 rfl ?_
    refine wn tk rfl rfl rfl ?_
    refine rn tk 2 rfl ?_
    refine bs 19 hr rfl (fun c9 hr=> ?_) (fun c9 hr=> ?_)
    ·
     refine rn tk 7 rfl ?_
     cases hr
     exact jn _ rfl rfl rfl
    ·
     refine rn tk 2 rfl ?_
     refine ug rfl rfl rfl ?_
     refine wn tk rfl rfl rfl ?_
     refine rn tk 4 rfl ?_
     cases hr
     exact jn _ rfl rfl rfl
   ·
    refine ac 14 hr rfl (fun c10 hr=> ?_) (fun c10 hr=> ?_)
    ·
     refine rn tk 2 rfl ?_
     obtain ⟨v11,h12,hr⟩:=zaa hr
     refine cl (zla _ _ _ h12) rfl rfl ?_
     refine rn tk 6 rfl ?_
     cases hr
     exact kr tk (.inr rfl) rfl rfl
    ·
     refine jb hr (fun j13=> [(1, .ptr 1 0),(2, .ptr 2 0),(26, .bo j13)]) (fun j13=> [(2, .cells [.i 0, .i 0]),(1, .cells [.s a0.From, .l zca.pc a0.To, .s a0.Id])]) (fun j13 hr=> ?_) (fun j13 hr=> ?_)
     ·
      refine rn tk 5 rfl ?_
      refine bs 30 hr rfl (fun c14 hr=> ?_) (fun c14 hr=> ?_)
      ·
       refine rn tk 2 rfl ?_
       obtain ⟨v15,h16,hr⟩:=zaa hr
       refine ug rfl rfl rfl ?_
       refine cl (wUa _ _ h16) rfl rfl ?_
       refine rn tk 4 rfl ?_
       cases hr
       exact jn _ rfl rfl rfl
      ·
       refine rn tk 7 rfl ?_
       cases hr
       exact jn _ rfl rfl rfl
     ·
      refine ac 26 hr rfl (fun c17 hr=> ?_) (fun c17 hr=> ?_)
      ·
       refine rn tk 2 rfl ?_
       obtain ⟨v18,h19,hr⟩:=zaa hr
       refine cl (zla _ _ _ h19) rfl rfl ?_
       refine rn tk 6 rfl ?_
       cases hr
       exact kr tk (.inr rfl) rfl rfl
      ·
       refine rn tk 7 rfl ?_
       obtain ⟨v20,h21,hr⟩:=zaa hr
       refine cl (yva _ _ h21) rfl rfl ?_
       refine rn tk 4 rfl ?_
       cases hr
       exact kr tk (.inr rfl) rfl rfl
theorem ZFa (a0:kca) (r:zta) (hr:qXa a0=some r):Run Tryz.prog 44 [.agg [.s a0.Envelope.From, .l zca.pc a0.Envelope.To, .s a0.Envelope.Id, .l zfa.pc a0.Message.Fields, .l cU a0.Message.Body]] (.agg [.i r.Code, .i r.Index]):=by
 unfold qXa at hr
 refine rf (fn:=Tryz.f44) ⟨Tryz.func44,rfl,by kernel_rfl⟩ rfl (fun _=> rfl) fun g0 hg=> ?_
 refine rn tk 11 rfl ?_
 obtain ⟨v1,h2,hr⟩:=zaa hr
 refine cl (jea _ _ h2) rfl rfl ?_
 refine rn tk 7 rfl ?_
 obtain ⟨v3,h4,hr⟩:=zaa hr
 refine cl (zKa _ _ h4) rfl rfl ?_
 refine rn tk 2 rfl ?_
 refine ac 9 hr rfl (fun c5 hr=> ?_) (fun c5 hr=> ?_)
 ·
  refine rn tk 8 rfl ?_
  cases hr
  exact kr tk (.inr rfl) rfl rfl
 ·
  refine rn tk 7 rfl ?_
  obtain ⟨v6,h7,hr⟩:=zaa hr
  refine cl (v7a _ _ h7) rfl rfl ?_
  refine rn tk 7 rfl ?_
  obtain ⟨v8,h9,hr⟩:=zaa hr
  refine cl (zKa _ _ h9) rfl rfl ?_
  refine rn tk 2 rfl ?_
  refine ac 15 hr rfl (fun c10 hr=> ?_) (fun c10 hr=> ?_)
  ·
   refine rn tk 4 rfl ?_
   obtain ⟨v11,h12,hr⟩:=zaa hr
   refine cl (zla _ _ _ h12) rfl rfl ?_
   refine rn tk 5 rfl ?_
   cases hr
   exact kr tk (.inr rfl) rfl rfl
  ·
   refine rn tk 4 rfl ?_
   obtain ⟨v13,h14,hr⟩:=zaa hr
   refine cl (zEa _ h14) rfl rfl ?_
   refine rn tk 4 rfl ?_
   cases hr
   exact kr tk (.inr rfl) rfl rfl
theorem yBa (a0:Str) (a1:kca) (r:zta) (hr:vfa a0 a1=some r):Run Tryz.prog 19 [.s a0, .agg [.s a1.Envelope.From, .l zca.pc a1.Envelope.To, .s a1.Envelope.Id, .l zfa.pc a1.Message.Fields, .l cU a1.Message.Body]] (.agg [.i r.Code, .i r.Index]):=by
 unfold vfa at hr
 refine rf (fn:=Tryz.f19) ⟨Tryz.func19,rfl,by kernel_rfl⟩ rfl (fun _=> rfl) fun g0 hg=> ?_
 refine rn tk 10 rfl ?_
 obtain ⟨v1,h2,hr⟩:=zaa hr
 refine cl (wUa _ _ h2) rfl rfl ?_
 refine rn tk 3 rfl ?_
 refine ac 7 hr rfl (fun c3 hr=> ?_) (fun c3 hr=> ?_)
 ·
  refine rn tk 2 rfl ?_
  obtain ⟨v4,h5,hr⟩:=zaa hr
  refine cl (zla _ _ _ h5) rfl rfl ?_
  refine rn tk 5 rfl ?_
  cases hr
  exact kr tk (.inr rfl) rfl rfl
 ·
  refine rn tk 5 rfl ?_
  obtain ⟨v6,h7,hr⟩:=zaa hr
  refine cl (ZFa _ _ h7) rfl rfl ?_
  refine rn tk 4 rfl ?_
  cases hr
  exact kr tk (.inr rfl) rfl rfl
theorem yCa (a0:zia) (r:zta) (hr:vga a0=some r):Run Tryz.prog 30 [.agg [.s a0.Name, .s a0.Mail.Envelope.From, .l zca.pc a0.Mail.Envelope.To, .s a0.Mail.Envelope.Id, .l zfa.pc a0.Mail.Message.Fields, .l cU a0.Mail.Message.Body, .bo a0.Pipelined, .l cU a0.Buffer, .i a0.Expected, .bo a0.Whole, .bo a0.Done, .l cI a0.Results]] (.agg [.i r.Code, .i r.Index]):=by
 unfold vga at hr
 refine rf (fn:=Tryz.f30) ⟨Tryz.func30,rfl,by kernel_rfl⟩ rfl (fun _=> rfl) fun g0 hg=> ?_
 refine rn tk 13 rfl ?_
 obtain ⟨v1,h2,hr⟩:=zaa hr
 refine cl (yBa _ _ _ h2) rfl rfl ?_
 refine rn tk 7 rfl ?_
 obtain ⟨v3,h4,hr⟩:=zaa hr
 refine cl (zKa _ _ h4) rfl rfl ?_
 refine rn tk 2 rfl ?_
 refine ac 12 hr rfl (fun c5 hr=> ?_) (fun c5 hr=> ?_)
 ·
  refine rn tk 8 rfl ?_
  cases hr
  exact kr tk (.inr rfl) rfl rfl
 ·
  refine rn tk 8 rfl ?_
  refine wn tk rfl rfl rfl ?_
  refine rn tk 9 rfl ?_
  refine jb hr (fun j6=> [(2, .ptr 2 0),(57, .bo j6)]) (fun j6=> [(2, .cells [.i 0, .i 0])]) (fun j6 hr=> ?_) (fun j6 hr=> ?_)
  ·
   refine rn tk 3 rfl ?_
   refine wn tk rfl rfl rfl ?_
   refine rn tk 3 rfl ?_
   refine bs 24 hr rfl (fun c7 hr=> ?_) (fun c7 hr=> ?_)
   ·
    refine rn tk 34 rfl ?_
    cases hr
    exact jn _ rfl rfl rfl
   ·
    refine rn tk 3 rfl ?_
    refine ug rfl rfl rfl ?_
    refine il (fn:=Tryz.f53) (args:= [.l cI a0.Results, .fn (.func 52) [] []]) 500000 599999 [(1, .ptr 1 0),(2, .ptr 2 0),(4, .i ((a0.Mail.Envelope.To.length:Int))),(24, .bo false)] rfl ⟨Tryz.func53,rfl,by kernel_rfl⟩ rfl rfl rfl fun T5 ds5=> ?_
    refine rn tk 9 rfl ?_
    refine ct hr (fun j8=> [(7, .i j8)]) (fun j8=> [(599999, .sus g0.w.heap.size ds5),(500001, .hold (.ptr 1 0) (T5.getD 1 undef)),(500002, .hold (.ptr 2 0) (T5.getD 2 undef)),(500004, .hold (.i ((a0.Mail.Envelope.To.length:Int))) (T5.getD 4 undef)),(500024, .hold (.bo false) (T5.getD 24 undef)),(2, .cells [.i 0, .i 0]),(1, .cells [.s a0.Name, .s a0.Mail.Envelope.From, .l zca.pc a0.Mail.Envelope.To, .s a0.Mail.Envelope.Id, .l zfa.pc a0.Mail.Message.Fields, .l cU a0.Mail.Message.Body, .bo a0.Pipelined, .l cU a0.Buffer, .i a0.Expected, .bo a0.Whole, .bo a0.Done, .l cI a0.Results])]) (fun j8 hr jump6=> ?_) (fun j8 hr=> ?_)
    ·
     refine il (fn:=Tryz.f78) (args:= [.l cI a0.Results, .fn (.func 52) [] []]) 600000 699999 [] rfl ⟨Tryz.func78,rfl,by kernel_rfl⟩ rfl rfl rfl fun T6 ds6=> ?_
     refine rn tk 9 rfl ?_
     refine wn tk rfl rfl rfl ?_
     refine rn tk 4 rfl ?_
     refine al2 hr (fun s9=> [(0, .l cI a0.Results),(1, .fn (.func 52) [] []),(7, .i ((a0.Results.length:Int))),(8, .i s9)]) (fun s9=> [(699999, .sus g0.w.heap.size ds6),(599999, .sus g0.w.heap.size ds5),(500001, .hold (.ptr 1 0) (T5.getD 1 undef)),(500002, .hold (.ptr 2 0) (T5.getD 2 undef)),(500004, .hold (.i ((a0.Mail.Envelope.To.length:Int))) (T5.getD 4 undef)),(500024, .hold (.bo false) (T5.getD 24 undef)),(2, .cells [.i 0, .i 0]),(1, .cells [.s a0.Name, .s a0.Mail.Envelope.From, .l zca.pc a0.Mail.Envelope.To, .s a0.Mail.Envelope.Id, .l zfa.pc a0.Mail.Message.Fields, .l cU a0.Mail.Message.Body, .bo a0.Pipelined, .l cU a0.Buffer, .i a0.Expected, .bo a0.Whole, .bo a0.Done, .l cI a0.Results])]) (.exit 0) (fun b10=> []) (fun b10=> [(699999, .sus g0.w.heap.size ds6),(599999, .sus g0.w.heap.size ds5),(500001, .hold (.ptr 1 0) (T5.getD 1 undef)),(500002, .hold (.ptr 2 0) (T5.getD 2 undef)),(500004, .hold (.i ((a0.Mail.Envelope.To.length:Int))) (T5.getD 4 undef)),(500024, .hold (.bo false) (T5.getD 24 undef)),(2, .cells [.i 0, .i 0]),(1, .cells [.s a0.Name, .s a0.Mail.Envelope.From, .l zca.pc a0.Mail.Envelope.To, .s a0.Mail.Envelope.Id, .l zfa.pc a0.Mail.Message.Fields, .l cU a0.Mail.Message.Body, .bo a0.Pipelined, .l cU a0.Buffer, .i a0.Expected, .bo a0.Whole, .bo a0.Done, .l cI a0.Results])]) .ret (fun b11=> [(4, .i b11)]) (fun b11=> [(699999, .sus g0.w.heap.size ds6),(599999, .sus g0.w.heap.size ds5),(500001, .hold (.ptr 1 0) (T5.getD 1 undef)),(500002, .hold (.ptr 2 0) (T5.getD 2 undef)),(500004, .hold (.i ((a0.Mail.Envelope.To.length:Int))) (T5.getD 4 undef)),(500024, .hold (.bo false) (T5.getD 24 undef)),(2, .cells [.i 0, .i 0]),(1, .cells [.s a0.Name, .s a0.Mail.Envelope.From, .l zca.pc a0.Mail.Envelope.To, .s a0.Mail.Envelope.Id, .l zfa.pc a0.Mail.Message.Fields, .l cU a0.Mail.Message.Body, .bo a0.Pipelined, .l cU a0.Buffer, .i a0.Expected, .bo a0.Whole, .bo a0.Done, .l cI a0.Results])]) rfl rfl (fun s9 x13 hr=> ?_) (fun b10 hr=> ?_) (fun b11 hr=> ?_)
     ·
      unfold qGa at hr
      refine rn tk 6 rfl ?_
      refine ac 9 hr rfl (fun c14 hr=> ?_) (fun c14 hr=> ?_)
      ·
       refine rn tk 15 rfl ?_
       obtain ⟨v15,h16,hr⟩:=zaa hr
       refine wi tk h16 rfl rfl rfl rfl rfl ?_
       refine rn tk 1 rfl ?_
       refine il (fn:=Tryz.f52) (args:= [.i v15]) 800000 899999 [(0, .l cI a0.Results),(1, .fn (.func 52) [] []),(5, .i s9),(7, .i ((a0.Results.length:Int))),(8, .i s9)] rfl ⟨Tryz.func52,rfl,by kernel_rfl⟩ rfl rfl rfl fun T8 ds8=> ?_
       refine rn tk 5 rfl ?_
       refine jb hr (fun j17=> [(2, .bo j17)]) (fun j17=> [(899999, .sus g0.w.heap.size ds8),(800000, .hold (.l cI a0.Results) (T8.getD 0 undef)),(800001, .hold (.fn (.func 52) [] []) (T8.getD 1 undef)),(800007, .hold (.i ((a0.Results.length:Int))) (T8.getD 7 undef)),(800008, .hold (.i s9) (T8.getD 8 undef)),(800005, .hold (.i s9) (T8.getD 5 undef)),(699999, .sus g0.w.heap.size ds6),(599999, .sus g0.w.heap.size ds5),(500001, .hold (.ptr 1 0) (T5.getD 1 undef)),(500002, .hold (.ptr 2 0) (T5.getD 2 undef)),(500004, .hold (.i ((a0.Mail.Envelope.To.length:Int))) (T5.getD 4 undef)),(500024, .hold (.bo false) (T5.getD 24 undef)),(2, .cells [.i 0, .i 0]),(1, .cells [.s a0.Name, .s a0.Mail.Envelope.From, .l zca.pc a0.Mail.Envelope.To, .s a0.Mail.Envelope.Id, .l zfa.pc a0.Mail.Message.Fields, .l cU a0.Mail.Message.Body, .bo a0.Pipelined, .l cU a0.Buffer, .i a0.Expected, .bo a0.Whole, .bo a0.Done, .l cI a0.Results])]) (fun j17 hr=> ?_) (fun j17 hr=> ?_)
       ·
        refine rn tk 4 rfl ?_
        refine bs 5 hr rfl (fun c18 hr=> ?_) (fun c18 hr=> ?_)
        ·
         refine rn tk 5 rfl ?_
         cases hr
         exact jn _ rfl rfl rfl
        ·
         refine rn tk 5 rfl ?_
         cases hr
         exact jn _ rfl rfl rfl
       ·
        refine rn tk 1 rfl ?_
        refine ie tk [.bo j17] [(0, .l cI a0.Results),(1, .fn (.func 52) [] []),(5, .i s9),(7, .i ((a0.Results.length:Int))),(8, .i s9)] [(699999, .sus g0.w.heap.size ds6),(599999, .sus g0.w.heap.size ds5),(500001, .hold (.ptr 1 0) (T5.getD 1 undef)),(500002, .hold (.ptr 2 0) (T5.getD 2 undef)),(500004, .hold (.i ((a0.Mail.Envelope.To.length:Int))) (T5.getD 4 undef)),(500024, .hold (.bo false) (T5.getD 24 undef)),(2, .cells [.i 0, .i 0]),(1, .cells [.s a0.Name, .s a0.Mail.Envelope.From, .l zca.pc a0.Mail.Envelope.To, .s a0.Mail.Envelope.Id, .l zfa.pc a0.Mail.Message.Fields, .l cU a0.Mail.Message.Body, .bo a0.Pipelined, .l cU a0.Buffer, .i a0.Expected, .bo a0.Whole, .bo a0.Done, .l cI a0.Results])] (.inr rfl) rfl rfl rfl rfl (hO ?_)
        refine rn tk 2 rfl ?_
        refine ac 16 hr rfl (fun c19 hr=> ?_) (fun c19 hr=> ?_)
        ·
         refine rn tk 9 rfl ?_
         cases hr
         exact ato rfl rfl rfl rfl
        ·
         refine rn tk 7 rfl ?_
         cases hr
         exact atc rfl rfl
      ·
       refine rn tk 2 rfl ?_
       cases hr
       exact ato rfl rfl rfl rfl
     ·
      refine rn tk 8 rfl ?_
      refine ie tk [.i ((-1))] [] [(599999, .sus g0.w.heap.size ds5),(500001, .hold (.ptr 1 0) (T5.getD 1 undef)),(500002, .hold (.ptr 2 0) (T5.getD 2 undef)),(500004, .hold (.i ((a0.Mail.Envelope.To.length:Int))) (T5.getD 4 undef)),(500024, .hold (.bo false) (T5.getD 24 undef)),(2, .cells [.i 0, .i 0]),(1, .cells [.s a0.Name, .s a0.Mail.Envelope.From, .l zca.pc a0.Mail.Envelope.To, .s a0.Mail.Envelope.Id, .l zfa.pc a0.Mail.Message.Fields, .l cU a0.Mail.Message.Body, .bo a0.Pipelined, .l cU a0.Buffer, .i a0.Expected, .bo a0.Whole, .bo a0.Done, .l cI a0.Results])] (.inr rfl) rfl rfl rfl rfl ?_
      cases hr
      exact jump6 _ _ rfl rfl
     ·
      refine rn tk 2 rfl ?_
      refine ie tk [.i b11] [] [(599999, .sus g0.w.heap.size ds5),(500001, .hold (.ptr 1 0) (T5.getD 1 undef)),(500002, .hold (.ptr 2 0) (T5.getD 2 undef)),(500004, .hold (.i ((a0.Mail.Envelope.To.length:Int))) (T5.getD 4 undef)),(500024, .hold (.bo false) (T5.getD 24 undef)),(2, .cells [.i 0, .i 0]),(1, .cells [.s a0.Name, .s a0.Mail.Envelope.From, .l zca.pc a0.Mail.Envelope.To, .s a0.Mail.Envelope.Id, .l zfa.pc a0.Mail.Message.Fields, .l cU a0.Mail.Message.Body, .bo a0.Pipelined, .l cU a0.Buffer, .i a0.Expected, .bo a0.Whole, .bo a0.Done, .l cI a0.Results])] (.inr rfl) rfl rfl rfl rfl ?_
      cases hr
      exact jump6 _ _ rfl rfl
    ·
     refine rn tk 5 rfl ?_
     refine ie tk [.bo (decide (0≤j8))] [(1, .ptr 1 0),(2, .ptr 2 0),(4, .i ((a0.Mail.Envelope.To.length:Int))),(24, .bo false)] [(2, .cells [.i 0, .i 0]),(1, .cells [.s a0.Name, .s a0.Mail.Envelope.From, .l zca.pc a0.Mail.Envelope.To, .s a0.Mail.Envelope.Id, .l zfa.pc a0.Mail.Message.Fields, .l cU a0.Mail.Message.Body, .bo a0.Pipelined, .l cU a0.Buffer, .i a0.Expected, .bo a0.Whole, .bo a0.Done, .l cI a0.Results])] (.inr rfl) rfl rfl rfl rfl (hO ?_)
     refine rn tk 2 rfl ?_
     refine bs 30 hr rfl (fun c20 hr=> ?_) (fun c20 hr=> ?_)
     ·
      refine rn tk 28 rfl ?_
      cases hr
      exact jn _ rfl rfl rfl
     ·
      refine rn tk 5 rfl ?_
      refine bs 35 hr rfl (fun c21 hr=> ?_) (fun c21 hr=> ?_)
      ·
       refine rn tk 23 rfl ?_
       cases hr
       exact jn _ rfl rfl rfl
      ·
       refine rn tk 7 rfl ?_
       refine bs 42 hr rfl (fun c22 hr=> ?_) (fun c22 hr=> ?_)
       ·
        refine rn tk 16 rfl ?_
        cases hr
        exact jn _ rfl rfl rfl
       ·
        refine rn tk 2 rfl ?_
        refine ug rfl rfl rfl ?_
        refine wn tk rfl rfl rfl ?_
        refine rn tk 3 rfl ?_
        refine bs 48 hr rfl (fun c23 hr=> ?_) (fun c23 hr=> ?_)
        ·
         refine rn tk 10 rfl ?_
         cases hr
         exact jn _ rfl rfl rfl
        ·
         refine rn tk 4 rfl ?_
         refine bs 52 hr rfl (fun c24 hr=> ?_) (fun c24 hr=> ?_)
         ·
          refine rn tk 1 rfl ?_
          obtain ⟨v25,h26,hr⟩:=zaa hr
          refine ug rfl rfl rfl ?_
          refine cl (Qra _ _ h26) rfl rfl ?_
          refine rn tk 4 rfl ?_
          cases hr
          exact jn _ rfl rfl rfl
         ·
          refine rn tk 6 rfl ?_
          cases hr
          exact jn _ rfl rfl rfl
  ·
   refine ac 57 hr rfl (fun c27 hr=> ?_) (fun c27 hr=> ?_)
   ·
    refine rn tk 2 rfl ?_
    obtain ⟨v28,h29,hr⟩:=zaa hr
    refine cl (zla _ _ _ h29) rfl rfl ?_
    refine rn tk 5 rfl ?_
    cases hr
    exact kr tk (.inr rfl) rfl rfl
   ·
    refine rn tk 4 rfl ?_
    obtain ⟨v30,h31,hr⟩:=zaa hr
    refine cl (zEa _ h31) rfl rfl ?_
    refine rn tk 4 rfl ?_
    cases hr
    exact kr tk (.inr rfl) rfl rfl
theorem q2a (a0:List Int) (r:List Int) (hr:kga a0=some r):RunO Tryz.prog 31 [.l cI a0] 3 1 (List.map cI r):=by
 unfold kga at hr
 refine rfO (fn:=Tryz.f31) ⟨Tryz.func31,rfl,by kernel_rfl⟩ rfl fun g0 hg=> ?_
 refine rn tk 3 rfl ?_
 refine KNa 1002 (d:=2) 3 1 rfl rfl rfl (hO ?_)
 refine rn tk 6 rfl ?_
 refine w0a (d:=3) (F:=cI) (l:=a0) rfl rfl rfl wKa (fun c1=> hO ?_) (hO ?_)
 ·
  replace hr:=Zga c1 hr
  refine rn tk 6 rfl ?_
  refine KNa 2002 (d:=2) 3 1 rfl rfl rfl (hO ?_)
  refine rn tk 4 rfl ?_
  cases hr
  exact krO tk (.inr rfl) rfl rfl
 ·
  replace hr:=Zha hr
  refine rn tk 7 rfl ?_
  refine wo (yQa (k:=5) rfl wKa v4a) rfl ?_
  refine rn tk 1 rfl ?_
  obtain ⟨v2,h3,hr⟩:=zaa hr
  refine wo (vRa (k:=7) (F:=cI) (xs:=a0) (lim:=17592186044416) 2002 rfl rfl rfl wKa v4a rfl rfl (fun _=> rfl) rfl rfl rfl h3) rfl ?_
  refine rn tk 4 rfl ?_
  cases hr
  exact krO tk (.inr rfl) rfl rfl
theorem KAa (a0:zia) (r:zia × zta) (hr:vYa a0=some r):Run Tryz.prog 14 [.agg [.s a0.Name, .s a0.Mail.Envelope.From, .l zca.pc a0.Mail.Envelope.To, .s a0.Mail.Envelope.Id, .l zfa.pc a0.Mail.Message.Fields, .l cU a0.Mail.Message.Body, .bo a0.Pipelined, .l cU a0.Buffer, .i a0.Expected, .bo a0.Whole, .bo a0.Done, .l cI a0.Results]] (.tup [.agg [.s r.1.Name, .s r.1.Mail.Envelope.From, .l zca.pc r.1.Mail.Envelope.To, .s r.1.Mail.Envelope.Id, .l zfa.pc r.1.Mail.Message.Fields, .l cU r.1.Mail.Message.Body, .bo r.1.Pipelined, .l cU r.1.Buffer, .i r.1.Expected, .bo r.1.Whole, .bo r.1.Done, .l cI r.1.Results], .agg [.i r.2.Code, .i r.2.Index]]):=by
 unfold vYa at hr
 refine rf (fn:=Tryz.f14) ⟨Tryz.func14,rfl,by kernel_rfl⟩ rfl (fun _=> rfl) fun g0 hg=> ?_
 refine rn tk 11 rfl ?_
 obtain ⟨v1,h2,hr⟩:=zaa hr
 refine cl (yCa _ _ h2) rfl rfl ?_
 refine rn tk 7 rfl ?_
 obtain ⟨v3,h4,hr⟩:=zaa hr
 refine cl (zKa _ _ h4) rfl rfl ?_
 refine rn tk 2 rfl ?_
 refine ac 9 hr rfl (fun c5 hr=> ?_) (fun c5 hr=> ?_)
 ·
  refine rn tk 1 rfl ?_
  refine drX 2 3 3 3 [1] [(11, .agg [.i v1.Code, .i v1.Index]),(10, .agg [.s (([]:Str)), .s (([]:Str)), .pv (.sl (some true) []), .s (([]:Str)), .pv (.sl (some true) []), .pv (.sl (some true) []), .bo false, .pv (.sl (some true) []), .i 0, .bo false, .bo false, .pv (.sl (some true) [])])] [(2, .ptr 2 0),(3, .ptr 3 0),(11, .agg [.i v1.Code, .i v1.Index])] [(4, .cells [.i v1.Code, .i v1.Index]),(3, .cells [.i 0, .i 0]),(2, .cells [.s (([]:Str)), .s (([]:Str)), .pv (.sl (some true) []), .s (([]:Str)), .pv (.sl (some true) []), .pv (.sl (some true) []), .bo false, .pv (.sl (some true) []), .i 0, .bo false, .bo false, .pv (.sl (some true) [])]),(1, .cells [.s a0.Name, .s a0.Mail.Envelope.From, .l zca.pc a0.Mail.Envelope.To, .s a0.Mail.Envelope.Id, .l zfa.pc a0.Mail.Message.Fields, .l cU a0.Mail.Message.Body, .bo a0.Pipelined, .l cU a0.Buffer, .i a0.Expected, .bo a0.Whole, .bo a0.Done, .l cI a0.Results])] tk mixed (by kernel_rfl) rfl rfl rfl (pqX tk rfl (.plain rfl) (pqX tk rfl (.plain rfl) .nil)) rfl rfl rfl rfl (by kernel_rfl) ?_
  refine rn tk 5 rfl ?_
  cases hr
  exact kr tk (.inr rfl) rfl rfl
 ·
  refine rn tk 3 rfl ?_
  obtain ⟨v6,h7,hr⟩:=zaa hr
  obtain ⟨v8,h9,hr⟩:=zaa hr
  refine drX 7 7 1 1 [] [(18, .ptr 1 1),(17, .hs 1017 0),(16, .l cI a0.Results),(15, .ptr 1 11),(14, .agg [.s v6.Envelope.From, .l zca.pc v6.Envelope.To, .s v6.Envelope.Id, .l zfa.pc v6.Message.Fields, .l cU v6.Message.Body]),(13, .agg [.s a0.Mail.Envelope.From, .l zca.pc a0.Mail.Envelope.To, .s a0.Mail.Envelope.Id, .l zfa.pc a0.Mail.Message.Fields, .l cU a0.Mail.Message.Body]),(12, .ptr 1 1)] [(1, .ptr 1 0),(2, .ptr 2 0),(3, .ptr 3 0),(14, .agg [.s v6.Envelope.From, .l zca.pc v6.Envelope.To, .s v6.Envelope.Id, .l zfa.pc v6.Message.Fields, .l cU v6.Message.Body]),(17, .hs 1017 0),(18, .ptr 1 1)] [(1017, .row 3 true 1 (List.map cI v8)),(4, .cells [.i v1.Code, .i v1.Index]),(3, .cells [.i 0, .i 0]),(2, .cells [.s (([]:Str)), .s (([]:Str)), .pv (.sl (some true) []), .s (([]:Str)), .pv (.sl (some true) []), .pv (.sl (some true) []), .bo false, .pv (.sl (some true) []), .i 0, .bo false, .bo false, .pv (.sl (some true) [])]),(1, .cells [.s a0.Name, .s a0.Mail.Envelope.From, .l zca.pc a0.Mail.Envelope.To, .s a0.Mail.Envelope.Id, .l zfa.pc a0.Mail.Message.Fields, .l cU a0.Mail.Message.Body, .bo a0.Pipelined, .l cU a0.Buffer, .i a0.Expected, .bo a0.Whole, .bo a0.Done, .l cI a0.Results])] tk mixed (by kernel_rfl) rfl rfl rfl (pqX tk rfl (.plain rfl) (pqX tk rfl (.plain rfl) (.run (.plain rfl) (qMa (vNa a0.Mail v6 h7) rfl) (pqX tk rfl (.plain rfl) (pqX tk rfl (.plain rfl) (.new 1017 (.plain rfl) (Kja 1017 (q2a a0.Results v8 h9) rfl) (pqX tk rfl (.plain rfl) .nil))))))) rfl rfl rfl rfl (by kernel_rfl) ?_
  refine rn tk 11 rfl ?_
  refine wo (j9a (k:=23) 90000000 rfl rfl rfl rfl rfl) rfl ?_
  refine rn tk 1 rfl ?_
  refine Y6a 1017 90000012 rfl rfl rfl rfl rfl rfl (hO ?_)
  refine vGa 90000015 (o:=90000000) (j:=14) 5 1 rfl rfl rfl rfl (hO ?_)
  refine rn tk 5 rfl ?_
  obtain ⟨v10,h11,hr⟩:=zaa hr
  refine wo (zAa (k:=25) (vza ((zda.mk ((zia.mk a0.Name v6 a0.Pipelined ([]) a0.Expected a0.Whole a0.Done v8)) ([]) false (([]:List UInt8)))) v10 h11) rfl rfl (QRa rfl rfl (zba rfl (zba rfl zga)))) rfl ?_
  refine rn tk 3 rfl ?_
  obtain ⟨v12,h13,hr⟩:=zaa hr
  refine dr 5 [(30, .agg [.i v12.Code, .i v12.Index]),(29, .agg [.s v10.Client.Name, .s v10.Client.Mail.Envelope.From, .l zca.pc v10.Client.Mail.Envelope.To, .s v10.Client.Mail.Envelope.Id, .l zfa.pc v10.Client.Mail.Message.Fields, .l cU v10.Client.Mail.Message.Body, .bo v10.Client.Pipelined, .l cU v10.Client.Buffer, .i v10.Client.Expected, .bo v10.Client.Whole, .bo v10.Client.Done, .hs 90000012 0]),(28, .ptr 90000000 0),(27, .ptr 90000000 0),(26, .ptr 90000000 0)] mixed (by kernel_rfl) rfl rfl (pq tk rfl (.plain rfl) (pq tk rfl (.plain rfl) (pq tk rfl (.plain rfl) (pq tk rfl (.plain rfl) (.run (.plain rfl) (qMa (zEa v12 h13) rfl) .nil))))) rfl ?_
  refine rn tk 4 rfl ?_
  refine yma 90000012 rfl (hC ?_)
  refine KFa (o:=2) (j:=11) (F:=cI) (l:=v10.Client.Results) rfl rfl rfl (hC ?_)
  refine rn tk 1 rfl ?_
  cases hr
  exact kr tk (.inr rfl) rfl rfl
end Go.Proofs.YtjnmamghadpedaaGreatDoor
namespace Go.Proofs.YtjnmamghadpedaaGreatDoor
open Go.RowKit
set_option maxRecDepth 100000
def nums (l:List UInt8):List Int:=l.map fun c=> (c.toNat:Int)
theorem Vma (l:List UInt8):Lib.bytesOf (nums l)=l:=by simp [Lib.bytesOf,nums,Function.comp_def]
theorem Vna (l:List UInt8):∀x∈nums l,0≤x∧x < 256:=by
 intro x hx
 obtain ⟨c,_,rfl⟩:=List.mem_map.1 hx
 have:=c.toNat_lt
 omega
theorem k2b (l:List UInt8) (i:Nat) (h:i < l.length):(nums l).getD i 0=(l[i].toNat:Int):=by simp [nums,h]
theorem Qta {g:G} {l:List UInt8} {v:Value} (h:Rel g (.l cU l) v):∃ad cap,v= .slice ad l.length cap∧l.length≤cap∧(l≠ []→∃b off,ad=some ⟨b,off,none⟩∧∀i,i < l.length→g.w.cell? ((⟨b,off,none⟩:Addr).add i)=some (.int .u8 ((nums l).getD i 0))):=by
 cases h with
 | pv h=>
  generalize hE:l.map cU=elems at h
  have hEl:elems.length=l.length:=by rw [←hE];simp
  unfold pL at h
  rw [hE] at h
  cases h with
  | @sl _ _ a cap size b off val hn h0 hc hz ha hu hcell h=>
   refine ⟨a,cap,by rw [hEl],by omega,fun hne=> ⟨b,off,ha (by rw [←hE];simpa using hne),fun i hi=> ?_⟩⟩
   have hget:elems[i]? =some (cU l[i]):=by rw [←hE];simp [hi]
   have hs1:size=1:=by
    have:=hz _ (List.mem_of_getElem? hget)
    simpa [cU] using this.symm
   subst hs1
   rw [vma,hcell i (by omega),k2b l i hi]
   have:=h i 0 _ (.b (.int .u8 (l[i].toNat:Int))) hget rfl
   simp only [Nat.mul_one,Nat.add_zero] at this
   have e:=kka (g:=g) (.pv this)
   rw [e]
theorem jfa (a b:List UInt8) (r:Int) (hr:qAa a b=some r):Run Tryz.prog 59 [.l cU a, .l cU b] (.i r):=by
 unfold qAa at hr
 split at hr
 case isFalse=> cases hr
 rename_i hlen
 cases hr
 refine ⟨⟨_,_,⟨Tryz.func59,rfl,by kernel_rfl⟩⟩,fun g vs hw hg ha=> ?_⟩
 obtain ⟨hsz,hrel⟩:=ha
 obtain ⟨l⟩:=vs
 match l,hsz with
 | [x,y],_=>
  have h0:Rel g (.l cU a) x:=hrel 0 _ rfl
  have h1:Rel g (.l cU b) y:=hrel 1 _ rfl
  obtain ⟨ad,cap,rfl,hcap,hcell⟩:=Qta h0
  obtain ⟨ad2,cap2,rfl,hcap2,hcell2⟩:=Qta h1
  have hb2:=hlen.2
  obtain ⟨b2,o2,rfl,hc2⟩:=hcell2 (by rintro rfl;simp at hb2)
  refine callsIn_wide.2 ?_
  suffices hs:Calls Tryz.prog 59 #[.slice ad a.length cap, .slice (some ⟨b2,o2,none⟩) b.length cap2] g.w fun e w' => e= .returned (.int .i64 (Lib.index a b))∧∃q,w' =g.w.drewN q by
   refine hs.mono ?_
   rintro e w' ⟨rfl,q,rfl⟩
   exact ⟨⟨g.w.drewN q,g.u,g.loc⟩,_,rfl,rfl,W1a g q,hw,rfl, .pv (.b rfl)⟩
  by_cases hs:a.length < 2
  ·have hi:Lib.index a b= -1:=by
    match a,b,hs,hb2 with
    | [], [p,q],_,_=> rfl
    | [c], [p,q],_,_=> simp [Lib.index]
   rw [hi]
   exact (Tryz.bytes_Index_longer ad (some ⟨b2,o2,none⟩) a.length cap b.length cap2 g.w (by omega) (by omega) (by omega)).mono fun e w' ⟨h1,h2⟩=> ⟨h1,0,h2⟩
  ·obtain ⟨b1,o1,rfl,hc1⟩:=hcell (by rintro rfl;simp at hs)
   obtain ⟨_,_,m,hm⟩:=hg.1 (0,0) (by simp [zkb])
   have:=Tryz.bytes_Index_at ⟨b1,o1,none⟩ ⟨b2,o2,none⟩ a.length cap b.length cap2 (nums a) (nums b) m g.w (by simp [nums]) (by simp [nums]) (Vna a) (Vna b) hc1 hc2 hcap hlen.1 (by omega) hm
   rw [Vma,Vma] at this
   exact this
end Go.Proofs.YtjnmamghadpedaaGreatDoor
namespace Go.Proofs.YtjnmamghadpedaaGreatDoor
open Go.RowKit
set_option maxRecDepth 100000
set_option maxHeartbeats 40000000
theorem qua (a0:Int) (r:Int) (hr:kua a0=some r):Run Tryz.prog 89 [.i a0] (.i r):=by
 unfold kua at hr
 refine rf (fn:=Tryz.f89) ⟨Tryz.func89,rfl,by kernel_rfl⟩ rfl (fun _=> rfl) fun g0 hg=> ?_
 refine rn tk 12 rfl ?_
 refine ac 4 hr rfl (fun c1 hr=> ?_) (fun c1 hr=> ?_)
 ·
  refine rn tk 7 rfl ?_
  cases hr
  exact kr tk (.inr rfl) rfl rfl
 ·
  refine rn tk 8 rfl ?_
  cases hr
  exact kr tk (.inr rfl) rfl rfl
theorem vBa (a0:zda) (r:Bool × zda) (hr:z9a a0=some r):RunS Tryz.prog 91 [.ptr 90000000 0] [(90000000, .cells [.s a0.Client.Name, .s a0.Client.Mail.Envelope.From, .l zca.pc a0.Client.Mail.Envelope.To, .s a0.Client.Mail.Envelope.Id, .l zfa.pc a0.Client.Mail.Message.Fields, .l cU a0.Client.Mail.Message.Body, .bo a0.Client.Pipelined, .l cU a0.Client.Buffer, .i a0.Client.Expected, .bo a0.Client.Whole, .bo a0.Client.Done, .hs 90000012 0, .l cU a0.content, .bo a0.chunk, .hs 90000015 0]),(90000012, .row 3 true 1 (List.map cI a0.Client.Results)),(90000015, .row 5 false 1 (List.map cU a0.out))] (.bo r.1) [(90000000, .cells [.s r.2.Client.Name, .s r.2.Client.Mail.Envelope.From, .l zca.pc r.2.Client.Mail.Envelope.To, .s r.2.Client.Mail.Envelope.Id, .l zfa.pc r.2.Client.Mail.Message.Fields, .l cU r.2.Client.Mail.Message.Body, .bo r.2.Client.Pipelined, .l cU r.2.Client.Buffer, .i r.2.Client.Expected, .bo r.2.Client.Whole, .bo r.2.Client.Done, .hs 90000012 0, .l cU r.2.content, .bo r.2.chunk, .hs 90000015 0]),(90000012, .row 3 true 1 (List.map cI r.2.Client.Results)),(90000015, .row 5 false 1 (List.map cU r.2.out))] 90000000 [90000012,90000015]:=by
 unfold z9a at hr
 refine rfS (fn:=Tryz.f91) (H:=90000999) (.ptr 90000000 0) ⟨Tryz.func91,rfl,by kernel_rfl⟩ rfl (hasT rfl) (.inl ⟨rfl,rfl⟩) rfl rfl rfl rfl fun g0 hg S sg T=> ?_
 refine rn tk 12 rfl ?_
 refine il (fn:=Tryz.f109) (args:= [.hs 90000012 0, .i 0]) 100000 199999 [] rfl ⟨Tryz.func109,rfl,by kernel_rfl⟩ rfl rfl rfl fun T1 ds1=> ?_
 refine rn tk 9 rfl ?_
 refine ct hr (fun j1=> [(7, .i j1)]) (fun j1=> [(199999, .sus g0.w.heap.size ds1),(90000999, .hold (.ptr 90000000 0) (T.getD 0 undef)),(90000000, .cells [.s a0.Client.Name, .s a0.Client.Mail.Envelope.From, .l zca.pc a0.Client.Mail.Envelope.To, .s a0.Client.Mail.Envelope.Id, .l zfa.pc a0.Client.Mail.Message.Fields, .l cU a0.Client.Mail.Message.Body, .bo a0.Client.Pipelined, .l cU a0.Client.Buffer, .i a0.Client.Expected, .bo a0.Client.Whole, .bo a0.Client.Done, .hs 90000012 0, .l cU a0.content, .bo a0.chunk, .hs 90000015 0]),(90000012, .row 3 true 1 (List.map cI a0.Client.Results)),(90000015, .row 5 false 1 (List.map cU a0.out))]) (fun j1 hr jump2=> ?_) (fun j1 hr=> ?_)
 ·
  refine il (fn:=Tryz.f124) (args:= [.hs 90000012 0, .i 0]) 200000 299999 [] rfl ⟨Tryz.func124,rfl,by kernel_rfl⟩ rfl rfl rfl fun T2 ds2=> ?_
  refine rn tk 9 rfl ?_
  refine wnh tk rfl rfl rfl rfl ?_
  refine rn tk 4 rfl ?_
  refine al2 hr (fun s2=> [(0, .hs 90000012 0),(1, .i 0),(7, .i ((a0.Client.Results.length:Int))),(8, .i s2)]) (fun s2=> [(299999, .sus g0.w.heap.size ds2),(199999, .sus g0.w.heap.size ds1),(90000999, .hold (.ptr 90000000 0) (T.getD 0 undef)),(90000000, .cells [.s a0.Client.Name, .s a0.Client.Mail.Envelope.From, .l zca.pc a0.Client.Mail.Envelope.To, .s a0.Client.Mail.Envelope.Id, .l zfa.pc a0.Client.Mail.Message.Fields, .l cU a0.Client.Mail.Message.Body, .bo a0.Client.Pipelined, .l cU a0.Client.Buffer, .i a0.Client.Expected, .bo a0.Client.Whole, .bo a0.Client.Done, .hs 90000012 0, .l cU a0.content, .bo a0.chunk, .hs 90000015 0]),(90000012, .row 3 true 1 (List.map cI a0.Client.Results)),(90000015, .row 5 false 1 (List.map cU a0.out))]) (.exit 0) (fun b3=> []) (fun b3=> [(299999, .sus g0.w.heap.size ds2),(199999, .sus g0.w.heap.size ds1),(90000999, .hold (.ptr 90000000 0) (T.getD 0 undef)),(90000000, .cells [.s a0.Client.Name, .s a0.Client.Mail.Envelope.From, .l zca.pc a0.Client.Mail.Envelope.To, .s a0.Client.Mail.Envelope.Id, .l zfa.pc a0.Client.Mail.Message.Fields, .l cU a0.Client.Mail.Message.Body, .bo a0.Client.Pipelined, .l cU a0.Client.Buffer, .i a0.Client.Expected, .bo a0.Client.Whole, .bo a0.Client.Done, .hs 90000012 0, .l cU a0.content, .bo a0.chunk, .hs 90000015 0]),(90000012, .row 3 true 1 (List.map cI a0.Client.Results)),(90000015, .row 5 false 1 (List.map cU a0.out))]) .ret (fun b4=> [(4, .i b4)]) (fun b4=> [(299999, .sus g0.w.heap.size ds2),(199999, .sus g0.w.heap.size ds1),(90000999, .hold (.ptr 90000000 0) (T.getD 0 undef)),(90000000, .cells [.s a0.Client.Name, .s a0.Client.Mail.Envelope.From, .l zca.pc a0.Client.Mail.Envelope.To, .s a0.Client.Mail.Envelope.Id, .l zfa.pc a0.Client.Mail.Message.Fields, .l cU a0.Client.Mail.Message.Body, .bo a0.Client.Pipelined, .l cU a0.Client.Buffer, .i a0.Client.Expected, .bo a0.Client.Whole, .bo a0.Client.Done, .hs 90000012 0, .l cU a0.content, .bo a0.chunk, .hs 90000015 0]),(90000012, .row 3 true 1 (List.map cI a0.Client.Results)),(90000015, .row 5 false 1 (List.map cU a0.out))]) rfl rfl (fun s2 x6 hr=> ?_) (fun b3 hr=> ?_) (fun b4 hr=> ?_)
  ·
   unfold kLa at hr
   refine rn tk 6 rfl ?_
   refine ac 9 hr rfl (fun c7 hr=> ?_) (fun c7 hr=> ?_)
   ·
    refine rn tk 15 rfl ?_
    obtain ⟨v8,h9,hr⟩:=zaa hr
    refine wih tk h9 rfl rfl rfl rfl rfl ?_
    obtain ⟨v10,h11,hr⟩:=zaa hr
    refine wq (Y3a (F:=cI) (l:=a0.Client.Results) (n:=s2) (j:=0) rfl rfl v4a rfl h11 rfl) rfl rfl rfl ?_
    refine rn tk 3 rfl ?_
    refine ac 16 hr rfl (fun c12 hr=> ?_) (fun c12 hr=> ?_)
    ·
     refine rn tk 9 rfl ?_
     cases hr
     exact ato rfl rfl rfl rfl
    ·
     refine rn tk 7 rfl ?_
     cases hr
     exact atc rfl rfl
   ·
    refine rn tk 2 rfl ?_
    cases hr
    exact ato rfl rfl rfl rfl
  ·
   refine rn tk 8 rfl ?_
   refine ie tk [.i ((-1))] [] [(199999, .sus g0.w.heap.size ds1),(90000999, .hold (.ptr 90000000 0) (T.getD 0 undef)),(90000000, .cells [.s a0.Client.Name, .s a0.Client.Mail.Envelope.From, .l zca.pc a0.Client.Mail.Envelope.To, .s a0.Client.Mail.Envelope.Id, .l zfa.pc a0.Client.Mail.Message.Fields, .l cU a0.Client.Mail.Message.Body, .bo a0.Client.Pipelined, .l cU a0.Client.Buffer, .i a0.Client.Expected, .bo a0.Client.Whole, .bo a0.Client.Done, .hs 90000012 0, .l cU a0.content, .bo a0.chunk, .hs 90000015 0]),(90000012, .row 3 true 1 (List.map cI a0.Client.Results)),(90000015, .row 5 false 1 (List.map cU a0.out))] (.inr rfl) rfl rfl rfl rfl ?_
   cases hr
   exact jump2 _ _ rfl rfl
  ·
   refine rn tk 2 rfl ?_
   refine ie tk [.i b4] [] [(199999, .sus g0.w.heap.size ds1),(90000999, .hold (.ptr 90000000 0) (T.getD 0 undef)),(90000000, .cells [.s a0.Client.Name, .s a0.Client.Mail.Envelope.From, .l zca.pc a0.Client.Mail.Envelope.To, .s a0.Client.Mail.Envelope.Id, .l zfa.pc a0.Client.Mail.Message.Fields, .l cU a0.Client.Mail.Message.Body, .bo a0.Client.Pipelined, .l cU a0.Client.Buffer, .i a0.Client.Expected, .bo a0.Client.Whole, .bo a0.Client.Done, .hs 90000012 0, .l cU a0.content, .bo a0.chunk, .hs 90000015 0]),(90000012, .row 3 true 1 (List.map cI a0.Client.Results)),(90000015, .row 5 false 1 (List.map cU a0.out))] (.inr rfl) rfl rfl rfl rfl ?_
   cases hr
   exact jump2 _ _ rfl rfl
 ·
  refine rn tk 5 rfl ?_
  refine ie tk [.bo (decide (0≤j1))] [] [(90000999, .hold (.ptr 90000000 0) (T.getD 0 undef)),(90000000, .cells [.s a0.Client.Name, .s a0.Client.Mail.Envelope.From, .l zca.pc a0.Client.Mail.Envelope.To, .s a0.Client.Mail.Envelope.Id, .l zfa.pc a0.Client.Mail.Message.Fields, .l cU a0.Client.Mail.Message.Body, .bo a0.Client.Pipelined, .l cU a0.Client.Buffer, .i a0.Client.Expected, .bo a0.Client.Whole, .bo a0.Client.Done, .hs 90000012 0, .l cU a0.content, .bo a0.chunk, .hs 90000015 0]),(90000012, .row 3 true 1 (List.map cI a0.Client.Results)),(90000015, .row 5 false 1 (List.map cU a0.out))] (.inr rfl) rfl rfl rfl rfl (hO ?_)
  refine rn tk 5 rfl ?_
  cases hr
  exact krS tk (.inr rfl) rfl rfl (zba rfl (zba rfl (zba rfl (zba rfl zga))))
end Go.Proofs.YtjnmamghadpedaaGreatDoor
namespace Go.Proofs.YtjnmamghadpedaaGreatDoor
open Go.RowKit
set_option maxRecDepth 100000
theorem str_argN {g:G} {s:Str} {v:Value} (h:Rel g (.s s) v):v= .string (strB s):=kka h
theorem pow_tab {g : G} (hg : Gl g) : Lib.TabIs Tryz.prog g.w "internal/strconv.uint64pow10" .u64 Lib.pow10Tab := by
 obtain ⟨t,fz,h⟩:=hg.2.1 (3,(Lib.pow10Tab.map fun z=> Value.int .u64 z).toArray) (by simp [globK])
 have hn : Tryz.prog.globalNamed "internal/strconv.uint64pow10" = some 3 := by kernel_rfl
 unfold Lib.TabIs World.var?
 rw [hn]
 simp only [Option.bind_some]
 simp only at h
 rw [h]
theorem Jta (g:G) (q:Nat) (os:Array Obj):Old (fun _=> False) g ⟨Go.Sort.grow (g.w.drewN q) os,g.u,g.loc⟩:=by
 have hb:∀k,k < g.w.heap.size→(Go.Sort.grow (g.w.drewN q) os).heap[k]? =g.w.heap[k]? :=by
  intro k hk
  show (g.w.heap++os)[k]? =_
  rw [Array.getElem?_append_left hk]
 refine ⟨rfl,rfl,rfl,⟨?_,fun _ _=> Nat.le_refl _,fun k i hk hi=> ?_,fun r hr=> (hb r (kAa hr)).trans hr⟩,fun k hk _=> ⟨hb k hk,rfl⟩⟩
 ·show g.w.heap.size≤(g.w.heap++os).size
  simp
 ·simp only [World.cell?];rw [hb k hk]
end Go.Proofs.YtjnmamghadpedaaGreatDoor
namespace Go.Proofs.YtjnmamghadpedaaGreatDoor
open Go.RowKit
set_option maxRecDepth 100000
theorem yDa (n:Int) (r:Str) (hr:kFa n=some r):Run Tryz.prog 149 [.i n] (.s r):=by
 unfold kFa at hr
 split at hr
 case isFalse=> cases hr
 rename_i hlen
 cases hr
 refine ⟨⟨_,_,⟨Tryz.func149,rfl,by kernel_rfl⟩⟩,fun g vs hw hg ha=> ?_⟩
 obtain ⟨hsz,hrel⟩:=ha
 obtain ⟨l⟩:=vs
 match l,hsz with
 | [x],_=>
  have e2:x= .int .i64 n:=kka (hrel 0 _ rfl)
  subst e2
  refine callsIn_wide.2 ((Tryz.strconv_Itoa n hlen.1 hlen.2 g.w (pow_tab hg)).mono ?_)
  rintro e w' ⟨rfl,q,os,rfl⟩
  exact ⟨⟨Go.Sort.grow (g.w.drewN q) os,g.u,g.loc⟩,_,rfl,rfl,Jta g q os,fun k hk=> hw k (Nat.le_trans (Jta g q os).ext.size hk),rfl, .pv (.b rfl)⟩
end Go.Proofs.YtjnmamghadpedaaGreatDoor
namespace Go.Proofs.YtjnmamghadpedaaGreatDoor
open Go.RowKit
set_option maxRecDepth 100000
set_option maxHeartbeats 40000000
theorem KBa (a0:zqa) (r:zqa) (hr:vWa a0=some r):Run Tryz.prog 163 [.agg [.i a0.Verb, .s a0.Name, .s a0.Address, .i a0.Size, .i a0.Notify, .bo a0.Last]] (.agg [.i r.Verb, .s r.Name, .s r.Address, .i r.Size, .i r.Notify, .bo r.Last]):=by
 unfold vWa at hr
 refine rf (fn:=Tryz.f163) ⟨Tryz.func163,rfl,by kernel_rfl⟩ rfl (fun _=> rfl) fun g0 hg=> ?_
 refine rn tk 15 rfl ?_
 refine jb hr (fun j1=> [(2, .ptr 2 0),(3, .ptr 3 0)]) (fun j1=> [(3, .cells [.i a0.Verb, .s j1.1, .s j1.2.1, .i j1.2.2.1, .i j1.2.2.2.1, .bo j1.2.2.2.2]),(2, .cells [.i 0, .s (([]:Str)), .s (([]:Str)), .i 0, .i 0, .bo false])]) (fun j1 hr=> ?_) (fun j1 hr=> ?_)
 ·
  refine rn tk 13 rfl ?_
  refine ac 9 hr rfl (fun c2 hr=> ?_) (fun c2 hr=> ?_)
  ·
   refine rn tk 7 rfl ?_
   cases hr
   exact jn _ rfl rfl rfl
  ·
   refine rn tk 6 rfl ?_
   refine ac 14 hr rfl (fun c3 hr=> ?_) (fun c3 hr=> ?_)
   ·
    refine drX 5 6 4 8 [2,3] [(20, .ptr 3 2),(19, .i a0.Size),(18, .ptr 1 3),(17, .s a0.Address),(16, .ptr 1 2)] [(2, .ptr 2 0),(3, .ptr 3 0),(19, .i a0.Size)] [(3, .cells [.i a0.Verb, .s (([]:Str)), .s a0.Address, .i 0, .i 0, .bo false]),(2, .cells [.i 0, .s (([]:Str)), .s (([]:Str)), .i 0, .i 0, .bo false]),(1, .cells [.i a0.Verb, .s a0.Name, .s a0.Address, .i a0.Size, .i a0.Notify, .bo a0.Last])] tk mixed (by kernel_rfl) rfl rfl rfl (pqX tk rfl (.plain rfl) (pqX tk rfl (.plain rfl) (pqX tk rfl (.plain rfl) (pqX tk rfl (.plain rfl) (pqX tk rfl (.plain rfl) .nil))))) rfl rfl rfl rfl (by kernel_rfl) ?_
    refine rn tk 4 rfl ?_
    cases hr
    exact jn _ rfl rfl rfl
   ·
    refine rn tk 6 rfl ?_
    refine ac 22 hr rfl (fun c4 hr=> ?_) (fun c4 hr=> ?_)
    ·
     refine drX 5 6 4 8 [2,3] [(28, .ptr 3 2),(27, .i a0.Notify),(26, .ptr 1 4),(25, .s a0.Address),(24, .ptr 1 2)] [(2, .ptr 2 0),(3, .ptr 3 0),(27, .i a0.Notify)] [(3, .cells [.i a0.Verb, .s (([]:Str)), .s a0.Address, .i 0, .i 0, .bo false]),(2, .cells [.i 0, .s (([]:Str)), .s (([]:Str)), .i 0, .i 0, .bo false]),(1, .cells [.i a0.Verb, .s a0.Name, .s a0.Address, .i a0.Size, .i a0.Notify, .bo a0.Last])] tk mixed (by kernel_rfl) rfl rfl rfl (pqX tk rfl (.plain rfl) (pqX tk rfl (.plain rfl) (pqX tk rfl (.plain rfl) (pqX tk rfl (.plain rfl) (pqX tk rfl (.plain rfl) .nil))))) rfl rfl rfl rfl (by kernel_rfl) ?_
     refine rn tk 4 rfl ?_
     cases hr
     exact jn _ rfl rfl rfl
    ·
     refine rn tk 6 rfl ?_
     refine ac 30 hr rfl (fun c5 hr=> ?_) (fun c5 hr=> ?_)
     ·
      refine drX 5 6 4 8 [2,3] [(36, .ptr 3 3),(35, .bo a0.Last),(34, .ptr 1 5),(33, .i a0.Size),(32, .ptr 1 3)] [(2, .ptr 2 0),(3, .ptr 3 0),(35, .bo a0.Last)] [(3, .cells [.i a0.Verb, .s (([]:Str)), .s (([]:Str)), .i a0.Size, .i 0, .bo false]),(2, .cells [.i 0, .s (([]:Str)), .s (([]:Str)), .i 0, .i 0, .bo false]),(1, .cells [.i a0.Verb, .s a0.Name, .s a0.Address, .i a0.Size, .i a0.Notify, .bo a0.Last])] tk mixed (by kernel_rfl) rfl rfl rfl (pqX tk rfl (.plain rfl) (pqX tk rfl (.plain rfl) (pqX tk rfl (.plain rfl) (pqX tk rfl (.plain rfl) (pqX tk rfl (.plain rfl) .nil))))) rfl rfl rfl rfl (by kernel_rfl) ?_
      refine rn tk 4 rfl ?_
      cases hr
      exact jn _ rfl rfl rfl
     ·
      refine rn tk 2 rfl ?_
      cases hr
      exact jn _ rfl rfl rfl
 ·
  refine rn tk 7 rfl ?_
  cases hr
  exact kr tk (.inr rfl) rfl rfl
theorem jxa (a0:zqa) (r:zta) (hr:qoa a0=some r):Run Tryz.prog 147 [.agg [.i a0.Verb, .s a0.Name, .s a0.Address, .i a0.Size, .i a0.Notify, .bo a0.Last]] (.agg [.i r.Code, .i r.Index]):=by
 unfold qoa at hr
 refine rf (fn:=Tryz.f147) ⟨Tryz.func147,rfl,by kernel_rfl⟩ rfl (fun _=> rfl) fun g0 hg=> ?_
 refine rn tk 6 rfl ?_
 refine jb hr (fun j1=> [(1, .ptr 1 0),(2, .ptr 2 0),(3, .bo j1)]) (fun j1=> [(2, .cells [.i 0, .i 0]),(1, .cells [.i a0.Verb, .s a0.Name, .s a0.Address, .i a0.Size, .i a0.Notify, .bo a0.Last])]) (fun j1 hr=> ?_) (fun j1 hr=> ?_)
 ·
  refine rn tk 5 rfl ?_
  refine bs 7 hr rfl (fun c2 hr=> ?_) (fun c2 hr=> ?_)
  ·
   refine rn tk 11 rfl ?_
   cases hr
   exact jn _ rfl rfl rfl
  ·
   refine rn tk 4 rfl ?_
   refine bs 11 hr rfl (fun c3 hr=> ?_) (fun c3 hr=> ?_)
   ·
    refine rn tk 7 rfl ?_
    cases hr
    exact jn _ rfl rfl rfl
   ·
    refine rn tk 7 rfl ?_
    cases hr
    exact jn _ rfl rfl rfl
 ·
  refine rn tk 2 rfl ?_
  refine jb hr (fun j4=> [(1, .ptr 1 0),(2, .ptr 2 0),(3, .bo j1),(17, .bo j4)]) (fun j4=> [(2, .cells [.i 0, .i 0]),(1, .cells [.i a0.Verb, .s a0.Name, .s a0.Address, .i a0.Size, .i a0.Notify, .bo a0.Last])]) (fun j4 hr=> ?_) (fun j4 hr=> ?_)
  ·
   refine rn tk 5 rfl ?_
   refine bs 21 hr rfl (fun c5 hr=> ?_) (fun c5 hr=> ?_)
   ·
    refine rn tk 6 rfl ?_
    cases hr
    exact jn _ rfl rfl rfl
   ·
    refine rn tk 6 rfl ?_
    cases hr
    exact jn _ rfl rfl rfl
  ·
   refine ac 17 hr rfl (fun c6 hr=> ?_) (fun c6 hr=> ?_)
   ·
    refine rn tk 2 rfl ?_
    obtain ⟨v7,h8,hr⟩:=zaa hr
    refine cl (zla _ _ _ h8) rfl rfl ?_
    refine rn tk 6 rfl ?_
    cases hr
    exact kr tk (.inr rfl) rfl rfl
   ·
    refine rn tk 1 rfl ?_
    obtain ⟨v9,h10,hr⟩:=zaa hr
    refine dr 3 [(30, .agg [.i v9.Verb, .s v9.Name, .s v9.Address, .i v9.Size, .i v9.Notify, .bo v9.Last]),(29, .agg [.i a0.Verb, .s a0.Name, .s a0.Address, .i a0.Size, .i a0.Notify, .bo a0.Last]),(28, .agg [.i a0.Verb, .s a0.Name, .s a0.Address, .i a0.Size, .i a0.Notify, .bo a0.Last])] mixed (by kernel_rfl) rfl rfl (pq tk rfl (.plain rfl) (pq tk rfl (.plain rfl) (.run (.plain rfl) (qMa (KBa a0 v9 h10) rfl) .nil))) rfl ?_
    refine wq (jPa rfl rfl jCa KYa (.int rfl (by decide) v4a (.str rfl (by decide) zQa (.str rfl (by decide) zQa (.int rfl (by decide) v4a (.int rfl (by decide) v4a (.bool rfl (by decide) YAa .nil))))))) rfl rfl rfl ?_
    refine rn tk 3 rfl ?_
    refine ac 27 hr rfl (fun c11 hr=> ?_) (fun c11 hr=> ?_)
    ·
     refine rn tk 2 rfl ?_
     obtain ⟨v12,h13,hr⟩:=zaa hr
     refine cl (zla _ _ _ h13) rfl rfl ?_
     refine rn tk 6 rfl ?_
     cases hr
     exact kr tk (.inr rfl) rfl rfl
    ·
     refine jb hr (fun j14=> [(1, .ptr 1 0),(2, .ptr 2 0),(3, .bo j1),(33, .bo j14)]) (fun j14=> [(2, .cells [.i 0, .i 0]),(1, .cells [.i a0.Verb, .s a0.Name, .s a0.Address, .i a0.Size, .i a0.Notify, .bo a0.Last])]) (fun j14 hr=> ?_) (fun j14 hr=> ?_)
     ·
      refine rn tk 5 rfl ?_
      refine bs 37 hr rfl (fun c15 hr=> ?_) (fun c15 hr=> ?_)
      ·
       refine rn tk 2 rfl ?_
       obtain ⟨v16,h17,hr⟩:=zaa hr
       refine ug rfl rfl rfl ?_
       refine cl (wUa _ _ h17) rfl rfl ?_
       refine rn tk 4 rfl ?_
       cases hr
       exact jn _ rfl rfl rfl
      ·
       refine rn tk 7 rfl ?_
       cases hr
       exact jn _ rfl rfl rfl
     ·
      refine ac 33 hr rfl (fun c18 hr=> ?_) (fun c18 hr=> ?_)
      ·
       refine rn tk 2 rfl ?_
       obtain ⟨v19,h20,hr⟩:=zaa hr
       refine cl (zla _ _ _ h20) rfl rfl ?_
       refine rn tk 6 rfl ?_
       cases hr
       exact kr tk (.inr rfl) rfl rfl
      ·
       refine jb hr (fun j21=> [(1, .ptr 1 0),(2, .ptr 2 0),(44, .bo j21)]) (fun j21=> [(2, .cells [.i 0, .i 0]),(1, .cells [.i a0.Verb, .s a0.Name, .s a0.Address, .i a0.Size, .i a0.Notify, .bo a0.Last])]) (fun j21 hr=> ?_) (fun j21 hr=> ?_)
       ·
        refine rn tk 3 rfl ?_
        refine bs 46 hr rfl (fun c22 hr=> ?_) (fun c22 hr=> ?_)
        ·
         refine rn tk 2 rfl ?_
         obtain ⟨v23,h24,hr⟩:=zaa hr
         refine ug rfl rfl rfl ?_
         refine cl (qVa _ _ h24) rfl rfl ?_
         refine rn tk 4 rfl ?_
         cases hr
         exact jn _ rfl rfl rfl
        ·
         refine rn tk 7 rfl ?_
         cases hr
         exact jn _ rfl rfl rfl
       ·
        refine ac 44 hr rfl (fun c25 hr=> ?_) (fun c25 hr=> ?_)
        ·
         refine rn tk 2 rfl ?_
         obtain ⟨v26,h27,hr⟩:=zaa hr
         refine cl (zla _ _ _ h27) rfl rfl ?_
         refine rn tk 6 rfl ?_
         cases hr
         exact kr tk (.inr rfl) rfl rfl
        ·
         refine jb hr (fun j28=> [(1, .ptr 1 0),(2, .ptr 2 0),(53, .bo j28)]) (fun j28=> [(2, .cells [.i 0, .i 0]),(1, .cells [.i a0.Verb, .s a0.Name, .s a0.Address, .i a0.Size, .i a0.Notify, .bo a0.Last])]) (fun j28 hr=> ?_) (fun j28 hr=> ?_)
         ·
          refine rn tk 5 rfl ?_
          refine bs 57 hr rfl (fun c29 hr=> ?_) (fun c29 hr=> ?_)
          ·
           refine rn tk 6 rfl ?_
           cases hr
           exact jn _ rfl rfl rfl
          ·
           refine rn tk 6 rfl ?_
           cases hr
           exact jn _ rfl rfl rfl
         ·
          refine ac 53 hr rfl (fun c30 hr=> ?_) (fun c30 hr=> ?_)
          ·
           refine rn tk 2 rfl ?_
           obtain ⟨v31,h32,hr⟩:=zaa hr
           refine cl (zla _ _ _ h32) rfl rfl ?_
           refine rn tk 6 rfl ?_
           cases hr
           exact kr tk (.inr rfl) rfl rfl
          ·
           refine rn tk 4 rfl ?_
           obtain ⟨v33,h34,hr⟩:=zaa hr
           refine cl (wxa _ _ h34) rfl rfl ?_
           refine rn tk 4 rfl ?_
           refine ac 63 hr rfl (fun c35 hr=> ?_) (fun c35 hr=> ?_)
           ·
            refine rn tk 2 rfl ?_
            obtain ⟨v36,h37,hr⟩:=zaa hr
            refine cl (zla _ _ _ h37) rfl rfl ?_
            refine rn tk 6 rfl ?_
            cases hr
            exact kr tk (.inr rfl) rfl rfl
           ·
            refine rn tk 5 rfl ?_
            obtain ⟨v38,h39,hr⟩:=zaa hr
            refine cl (zEa _ h39) rfl rfl ?_
            refine rn tk 4 rfl ?_
            cases hr
            exact kr tk (.inr rfl) rfl rfl
end Go.Proofs.YtjnmamghadpedaaGreatDoor
namespace Go.Proofs.YtjnmamghadpedaaGreatDoor
open Go.RowKit
set_option maxRecDepth 100000
theorem k3b {g:G} {w' :World} (h:Below g.w.heap.size g.w w'):Old (fun _=> False) g ⟨w',g.u,g.loc⟩:=
 ⟨h.os,h.tape,h.output,⟨h.size,fun _ _=> Nat.le_refl _,fun k i hk _=> by simp only [World.cell?];rw [h.block k hk],fun r hr=> (h.block r (kAa hr)).trans hr⟩,fun k hk _=> ⟨h.block k hk,rfl⟩⟩
theorem str_argJ {g:G} {s:Str} {v:Value} (h:Rel g (.s s) v):v= .string (strB s):=kka h
theorem k4b {g:G} {l:List Str} {v:Value} (h:Rel g (.l cS l) v):∃ad cap,v= .slice ad l.length cap∧l.length≤cap∧(l≠ []→∃b off,ad=some ⟨b,off,none⟩∧b < g.w.heap.size∧∀(i:Nat) s,l[i]? =some s→g.w.cell? ⟨b,off+i,none⟩=some (.string (strB s))):=by
 cases h with
 | pv h=>
  generalize hE:l.map cS=elems at h
  have hEl:elems.length=l.length:=by rw [←hE];simp
  unfold pL at h
  rw [hE] at h
  cases h with
  | @sl _ _ a cap size b off val hn h0 hc hz ha hu hcell h=>
   refine ⟨a,cap,by rw [hEl],by omega,fun hne=> ?_⟩
   have hne' :elems≠ []:=by rw [←hE];simpa using hne
   refine ⟨b,off,ha hne',(hu hne').2,fun i s hi=> ?_⟩
   have hget:elems[i]? =some (cS s):=by rw [←hE];simp [hi]
   have hs1:size=1:=by
    have:=hz _ (List.mem_of_getElem? hget)
    simpa [cS] using this.symm
   subst hs1
   have hlt:i < elems.length:=(List.getElem?_eq_some_iff.1 hget).1
   rw [hcell i (by omega)]
   have:=h i 0 _ (.b (.string (strB s))) hget rfl
   simp only [Nat.mul_one,Nat.add_zero] at this
   have e:=kka (g:=g) (.pv this)
   rw [e]
theorem KCa (l:List Str) (s:Str) (r:Str) (hr:qFa l s=some r):Run Tryz.prog 166 [.l cS l, .s s] (.s r):=by
 unfold qFa at hr
 split at hr
 case isFalse=> cases hr
 rename_i hlen
 cases hr
 refine ⟨⟨_,_,⟨Tryz.func166,rfl,by kernel_rfl⟩⟩,fun g vs hw hg ha=> ?_⟩
 obtain ⟨hsz,hrel⟩:=ha
 obtain ⟨vl⟩:=vs
 match vl,hsz with
 | [x,y],_=>
  have h0:Rel g (.l cS l) x:=hrel 0 _ rfl
  obtain rfl:=str_argJ (hrel 1 _ rfl)
  obtain ⟨ad,cap,rfl,hcap,hcell⟩:=k4b h0
  refine callsIn_wide.2 ?_
  suffices hs:Calls Tryz.prog 166 #[.slice ad l.length cap, .string (strB s)] g.w fun e w' => e= .returned (.string (strB (Lib.join l s)))∧Below g.w.heap.size g.w w' by
   refine hs.mono ?_
   rintro e w' ⟨rfl,hb⟩
   exact ⟨⟨w',g.u,g.loc⟩,_,rfl,rfl,k3b hb,fun k hk=> hw k (Nat.le_trans hb.size hk),rfl, .pv (.b rfl)⟩
  cases l with
  | nil=> exact (Tryz.strings_Join_none ad cap (strB s) g.w).mono fun e w' ⟨he,hw⟩=> ⟨he,hw▸Below.refl _ _⟩
  | cons a l=>
   obtain ⟨b,off,rfl,hb,hc⟩:=hcell (by simp)
   have e1:((a::l).map strB).map (·.data.toList)=a::l:=by
    rw [List.map_map]
    conv=> rhs;rw [←List.map_id (a::l)]
    exact List.map_congr_left fun x _=> rfl
   have:=Tryz.strings_Join b off cap ((a::l).map strB) (strB s) g.w (fun j x hx=> by
    simp only [List.getElem?_map,Option.map_eq_some_iff] at hx
    obtain ⟨y,hy,rfl⟩:=hx
    exact hc j y hy) hb (by rw [List.length_map];exact hlen.1) (by rw [List.length_map];exact hcap) (by rw [e1];exact hlen.2)
   rw [e1,List.length_map] at this
   exact this
end Go.Proofs.YtjnmamghadpedaaGreatDoor
namespace Go.Proofs.YtjnmamghadpedaaGreatDoor
open Go.RowKit
set_option maxRecDepth 100000
set_option maxHeartbeats 40000000
theorem yGa (r:zja × zja × zja) (hr:qsa=some r):Run Tryz.prog 165 [] (.agg [.i r.1.n, .s r.1.word, .i r.2.1.n, .s r.2.1.word, .i r.2.2.n, .s r.2.2.word]):=by
 unfold qsa at hr
 refine rf (fn:=Tryz.f165) ⟨Tryz.func165,rfl,by kernel_rfl⟩ rfl (fun _=> rfl) fun g0 hg=> ?_
 refine rn tk 10 rfl ?_
 refine wq (Wqa (cs:= [.i 1, .s (([102,97,105,108,117,114,101]:Str)), .i 2, .s (([100,101,108,97,121]:Str)), .i 4, .s (([115,117,99,99,101,115,115]:Str))]) qea qUa (.inr ⟨rfl,rfl⟩) (by kernel_rfl)) rfl rfl rfl ?_
 refine rn tk 4 rfl ?_
 cases hr
 exact kr tk (.inr rfl) rfl rfl
theorem ZGa (a0:Int) (r:Str) (hr:qZa a0=some r):Run Tryz.prog 150 [.i a0] (.s r):=by
 unfold qZa at hr
 refine rf (fn:=Tryz.f150) ⟨Tryz.func150,rfl,by kernel_rfl⟩ rfl (fun _=> rfl) fun g0 hg=> ?_
 refine rn tk 8 rfl ?_
 refine qLa 1003 (d:=3) 9 1 rfl rfl rfl (hO ?_)
 refine rn tk 5 rfl ?_
 obtain ⟨v1,h2,hr⟩:=zaa hr
 refine cl (yGa _ h2) rfl rfl ?_
 refine rn tk 4 rfl ?_
 refine al1 hr (fun s3=> [(0, .i a0),(3, .hs 1003 0),(6, .agg [.i v1.1.n, .s v1.1.word, .i v1.2.1.n, .s v1.2.1.word, .i v1.2.2.n, .s v1.2.2.word]),(7, .i s3.1)]) (fun s3=> [(1003, .row 9 false 1 (List.map cS s3.2))]) (.exit 0) (fun b4=> [(3, .hs 1003 0)]) (fun b4=> [(1003, .row 9 false 1 (List.map cS b4))]) rfl rfl (fun s3 x5 hr=> ?_) (fun b4 hr=> ?_)
 ·
  unfold vLa at hr
  refine rn tk 6 rfl ?_
  refine ac 8 hr rfl (fun c6 hr=> ?_) (fun c6 hr=> ?_)
  ·
   refine rn tk 2 rfl ?_
   refine jb hr (fun j7=> [(0, .i a0),(3, .hs 1003 0),(6, .agg [.i v1.1.n, .s v1.1.word, .i v1.2.1.n, .s v1.2.1.word, .i v1.2.2.n, .s v1.2.2.word]),(7, .i s3.1)]) (fun j7=> [(1003, .row 9 false 1 (List.map cS j7))]) (fun j7 hr=> ?_) (fun j7 hr=> ?_)
   ·
    refine rn tk 3 rfl ?_
    obtain ⟨v8,h9,hr⟩:=zaa hr
    refine wq (ev_aidxN (f:=zja.pc) (L:=([v1.1,v1.2.1,v1.2.2]:List zja)) rfl rfl qea qUa rfl rfl (fun _=> rfl) h9) rfl rfl rfl ?_
    refine rn tk 9 rfl ?_
    refine wq (ev_iand rfl rfl) rfl rfl rfl ?_
    refine rn tk 3 rfl ?_
    refine ac 14 hr rfl (fun c10 hr=> ?_) (fun c10 hr=> ?_)
    ·
     refine rn tk 4 rfl ?_
     refine wz cS ([v8.word]:List Str) tk rfl rfl (fun _=> rfl) rfl rfl rfl ?_
     obtain ⟨v11,h12,hr⟩:=zaa hr
     refine wa tk h12 rfl rfl rfl rfl (fun _=> rfl) rfl rfl ?_
     refine rn tk 3 rfl ?_
     cases hr
     exact jn _ rfl rfl rfl
    ·
     refine rn tk 2 rfl ?_
     cases hr
     exact jn _ rfl rfl rfl
   ·
    refine rn tk 4 rfl ?_
    cases hr
    exact atc rfl rfl
  ·
   refine rn tk 2 rfl ?_
   cases hr
   exact ato rfl rfl rfl rfl
 ·
  refine rn tk 6 rfl ?_
  refine wnh tk rfl rfl rfl rfl ?_
  refine rn tk 3 rfl ?_
  refine ac 23 hr rfl (fun c13 hr=> ?_) (fun c13 hr=> ?_)
  ·
   refine rn tk 7 rfl ?_
   cases hr
   exact kr tk (.inr rfl) rfl rfl
  ·
   refine rn tk 5 rfl ?_
   refine Vsa (d:=24) (F:=cS) (l:=b4) rfl rfl (hO ?_)
   obtain ⟨v14,h15,hr⟩:=zaa hr
   refine cl (KCa _ _ _ h15) rfl rfl ?_
   refine rn tk 4 rfl ?_
   cases hr
   exact kr tk (.inr rfl) rfl rfl
theorem Z6a (r:Str × Str × Str × Str × Str × Str × Str × Str) (hr:wba=some r):Run Tryz.prog 148 [] (.agg [.s r.1, .s r.2.1, .s r.2.2.1, .s r.2.2.2.1, .s r.2.2.2.2.1, .s r.2.2.2.2.2.1, .s r.2.2.2.2.2.2.1, .s r.2.2.2.2.2.2.2]):=by
 unfold wba at hr
 refine rf (fn:=Tryz.f148) ⟨Tryz.func148,rfl,by kernel_rfl⟩ rfl (fun _=> rfl) fun g0 hg=> ?_
 refine rn tk 7 rfl ?_
 refine wq (Wqa (cs:= [.s (([104,101,108,108,111]:Str)), .s (([109,97,105,108]:Str)), .s (([114,99,112,116]:Str)), .s (([100,97,116,97]:Str)), .s (([99,104,117,110,107]:Str)), .s (([114,101,115,101,116]:Str)), .s (([110,111,111,112]:Str)), .s (([113,117,105,116]:Str))]) yVa zQa (.inr ⟨rfl,rfl⟩) (by kernel_rfl)) rfl rfl rfl ?_
 refine rn tk 4 rfl ?_
 cases hr
 exact kr tk (.inr rfl) rfl rfl
theorem Z7a (a0:zqa) (r:Str × zta) (hr:vva a0=some r):Run Tryz.prog 123 [.agg [.i a0.Verb, .s a0.Name, .s a0.Address, .i a0.Size, .i a0.Notify, .bo a0.Last]] (.tup [.s r.1, .agg [.i r.2.Code, .i r.2.Index]]):=by
 unfold vva at hr
 refine rf (fn:=Tryz.f123) ⟨Tryz.func123,rfl,by kernel_rfl⟩ rfl (fun _=> rfl) fun g0 hg=> ?_
 refine rn tk 11 rfl ?_
 obtain ⟨v1,h2,hr⟩:=zaa hr
 refine cl (jxa _ _ h2) rfl rfl ?_
 refine rn tk 7 rfl ?_
 obtain ⟨v3,h4,hr⟩:=zaa hr
 refine cl (zKa _ _ h4) rfl rfl ?_
 refine rn tk 2 rfl ?_
 refine ac 9 hr rfl (fun c5 hr=> ?_) (fun c5 hr=> ?_)
 ·
  refine rn tk 1 rfl ?_
  refine dr 2 [(2, .s (([]:Str))),(10, .agg [.i v1.Code, .i v1.Index])] mixed (by kernel_rfl) rfl rfl (pq tk rfl (.plain rfl) (pq tk rfl (.plain rfl) .nil)) rfl ?_
  refine rn tk 5 rfl ?_
  cases hr
  exact kr tk (.inr rfl) rfl rfl
 ·
  refine rn tk 3 rfl ?_
  obtain ⟨v6,h7,hr⟩:=zaa hr
  refine dr 4 [(14, .i ((w64 (a0.Verb - 1)))),(13, .i a0.Verb),(12, .ptr 1 0),(11, .agg [.s v6.1, .s v6.2.1, .s v6.2.2.1, .s v6.2.2.2.1, .s v6.2.2.2.2.1, .s v6.2.2.2.2.2.1, .s v6.2.2.2.2.2.2.1, .s v6.2.2.2.2.2.2.2])] mixed (by kernel_rfl) rfl rfl (.run (.plain rfl) (qMa (Z6a v6 h7) rfl) (pq tk rfl (.plain rfl) (pq tk rfl (.plain rfl) (pq tk rfl (.plain rfl) .nil)))) rfl ?_
  obtain ⟨v8,h9,hr⟩:=zaa hr
  refine wq (ev_aidx (f:=cS) (L:=([v6.1,v6.2.1,v6.2.2.1,v6.2.2.2.1,v6.2.2.2.2.1,v6.2.2.2.2.2.1,v6.2.2.2.2.2.2.1,v6.2.2.2.2.2.2.2]:List Str)) rfl rfl yVa zQa rfl rfl (fun _=> rfl) h9 rfl) rfl rfl rfl ?_
  refine rn tk 3 rfl ?_
  refine jb hr (fun j10=> [(3, .ptr 3 0),(5, .s j10)]) (fun j10=> [(3, .cells [.i 0, .i 0])]) (fun j10 hr=> ?_) (fun j10 hr=> ?_)
  ·
   refine rn tk 13 rfl ?_
   refine ac 18 hr rfl (fun c11 hr=> ?_) (fun c11 hr=> ?_)
   ·
    refine rn tk 4 rfl ?_
    obtain ⟨v12,h13,hr⟩:=zaa hr
    refine wc h13 rfl rfl rfl ?_
    obtain ⟨v14,h15,hr⟩:=zaa hr
    refine wc h15 rfl rfl rfl ?_
    refine rn tk 3 rfl ?_
    cases hr
    exact jn _ rfl rfl rfl
   ·
    refine rn tk 6 rfl ?_
    refine ac 25 hr rfl (fun c16 hr=> ?_) (fun c16 hr=> ?_)
    ·
     refine rn tk 5 rfl ?_
     obtain ⟨v17,h18,hr⟩:=zaa hr
     refine wc h18 rfl rfl rfl ?_
     obtain ⟨v19,h20,hr⟩:=zaa hr
     refine wc h20 rfl rfl rfl ?_
     obtain ⟨v21,h22,hr⟩:=zaa hr
     refine wc h22 rfl rfl rfl ?_
     refine rn tk 10 rfl ?_
     refine ac 35 hr rfl (fun c23 hr=> ?_) (fun c23 hr=> ?_)
     ·
      refine rn tk 4 rfl ?_
      obtain ⟨v24,h25,hr⟩:=zaa hr
      refine cl (yDa _ _ h25) rfl rfl ?_
      obtain ⟨v26,h27,hr⟩:=zaa hr
      refine wc h27 rfl rfl rfl ?_
      obtain ⟨v28,h29,hr⟩:=zaa hr
      refine wc h29 rfl rfl rfl ?_
      refine rn tk 3 rfl ?_
      cases hr
      exact jn _ rfl rfl rfl
     ·
      refine rn tk 2 rfl ?_
      cases hr
      exact jn _ rfl rfl rfl
    ·
     refine rn tk 6 rfl ?_
     refine ac 42 hr rfl (fun c30 hr=> ?_) (fun c30 hr=> ?_)
     ·
      refine rn tk 5 rfl ?_
      obtain ⟨v31,h32,hr⟩:=zaa hr
      refine wc h32 rfl rfl rfl ?_
      obtain ⟨v33,h34,hr⟩:=zaa hr
      refine wc h34 rfl rfl rfl ?_
      obtain ⟨v35,h36,hr⟩:=zaa hr
      refine wc h36 rfl rfl rfl ?_
      refine rn tk 10 rfl ?_
      refine ac 52 hr rfl (fun c37 hr=> ?_) (fun c37 hr=> ?_)
      ·
       refine rn tk 4 rfl ?_
       obtain ⟨v38,h39,hr⟩:=zaa hr
       refine cl (ZGa _ _ h39) rfl rfl ?_
       obtain ⟨v40,h41,hr⟩:=zaa hr
       refine wc h41 rfl rfl rfl ?_
       obtain ⟨v42,h43,hr⟩:=zaa hr
       refine wc h43 rfl rfl rfl ?_
       refine rn tk 3 rfl ?_
       cases hr
       exact jn _ rfl rfl rfl
      ·
       refine rn tk 2 rfl ?_
       cases hr
       exact jn _ rfl rfl rfl
     ·
      refine rn tk 6 rfl ?_
      refine ac 59 hr rfl (fun c44 hr=> ?_) (fun c44 hr=> ?_)
      ·
       refine rn tk 5 rfl ?_
       obtain ⟨v45,h46,hr⟩:=zaa hr
       refine cl (yDa _ _ h46) rfl rfl ?_
       obtain ⟨v47,h48,hr⟩:=zaa hr
       refine wc h48 rfl rfl rfl ?_
       obtain ⟨v49,h50,hr⟩:=zaa hr
       refine wc h50 rfl rfl rfl ?_
       refine rn tk 9 rfl ?_
       refine ac 68 hr rfl (fun c51 hr=> ?_) (fun c51 hr=> ?_)
       ·
        refine rn tk 2 rfl ?_
        obtain ⟨v52,h53,hr⟩:=zaa hr
        refine wc h53 rfl rfl rfl ?_
        refine rn tk 3 rfl ?_
        cases hr
        exact jn _ rfl rfl rfl
       ·
        refine rn tk 2 rfl ?_
        cases hr
        exact jn _ rfl rfl rfl
      ·
       refine rn tk 2 rfl ?_
       cases hr
       exact jn _ rfl rfl rfl
  ·
   refine rn tk 3 rfl ?_
   obtain ⟨v54,h55,hr⟩:=zaa hr
   refine cl (zEa _ h55) rfl rfl ?_
   refine rn tk 5 rfl ?_
   cases hr
   exact kr tk (.inr rfl) rfl rfl
theorem zYa (a0:zda) (a1:zqa) (r:zda) (hr:zra a0 a1=some r):RunS Tryz.prog 107 [.ptr 90000000 0, .agg [.i a1.Verb, .s a1.Name, .s a1.Address, .i a1.Size, .i a1.Notify, .bo a1.Last]] [(90000000, .cells [.s a0.Client.Name, .s a0.Client.Mail.Envelope.From, .l zca.pc a0.Client.Mail.Envelope.To, .s a0.Client.Mail.Envelope.Id, .l zfa.pc a0.Client.Mail.Message.Fields, .l cU a0.Client.Mail.Message.Body, .bo a0.Client.Pipelined, .l cU a0.Client.Buffer, .i a0.Client.Expected, .bo a0.Client.Whole, .bo a0.Client.Done, .hs 90000012 0, .l cU a0.content, .bo a0.chunk, .hs 90000015 0]),(90000012, .row 3 true 1 (List.map cI a0.Client.Results)),(90000015, .row 5 false 1 (List.map cU a0.out))] (.tup []) [(90000000, .cells [.s r.Client.Name, .s r.Client.Mail.Envelope.From, .l zca.pc r.Client.Mail.Envelope.To, .s r.Client.Mail.Envelope.Id, .l zfa.pc r.Client.Mail.Message.Fields, .l cU r.Client.Mail.Message.Body, .bo r.Client.Pipelined, .l cU r.Client.Buffer, .i r.Client.Expected, .bo r.Client.Whole, .bo r.Client.Done, .hs 90000012 0, .l cU r.content, .bo r.chunk, .hs 90000015 0]),(90000012, .row 3 true 1 (List.map cI r.Client.Results)),(90000015, .row 5 false 1 (List.map cU r.out))] 90000000 [90000012,90000015]:=by
 unfold zra at hr
 refine rfS (fn:=Tryz.f107) (H:=90000999) (.ptr 90000000 0) ⟨Tryz.func107,rfl,by kernel_rfl⟩ rfl (hasT rfl) (.inl ⟨rfl,rfl⟩) rfl rfl rfl rfl fun g0 hg S sg T=> ?_
 refine rn tk 8 rfl ?_
 obtain ⟨v1,h2,hr⟩:=zaa hr
 refine cl (Z7a _ _ h2) rfl rfl ?_
 refine rn tk 15 rfl ?_
 obtain ⟨v3,h4,hr⟩:=zaa hr
 refine wo (wFa (k:=17) (l:=a0.out) (s:=v1.1) (lim:=140737488355328) rfl rfl rfl rfl zha zQa.u zva rfl h4) rfl ?_
 refine wz cU ([(13:UInt8),(10:UInt8)]:List UInt8) tk rfl rfl (fun _=> rfl) rfl rfl rfl ?_
 obtain ⟨v5,h6,hr⟩:=zaa hr
 refine wa tk h6 rfl rfl rfl rfl (fun _=> rfl) rfl rfl ?_
 refine rn tk 4 rfl ?_
 cases hr
 exact krS tk (.inl rfl) rfl rfl (zba rfl (zba rfl (zba rfl (zba rfl zga))))
theorem kea (a0:zda) (a1:Int) (r:zda) (hr:zua a0 a1=some r):RunS Tryz.prog 88 [.ptr 90000000 0, .i a1] [(90000000, .cells [.s a0.Client.Name, .s a0.Client.Mail.Envelope.From, .l zca.pc a0.Client.Mail.Envelope.To, .s a0.Client.Mail.Envelope.Id, .l zfa.pc a0.Client.Mail.Message.Fields, .l cU a0.Client.Mail.Message.Body, .bo a0.Client.Pipelined, .l cU a0.Client.Buffer, .i a0.Client.Expected, .bo a0.Client.Whole, .bo a0.Client.Done, .hs 90000012 0, .l cU a0.content, .bo a0.chunk, .hs 90000015 0]),(90000012, .row 3 true 1 (List.map cI a0.Client.Results)),(90000015, .row 5 false 1 (List.map cU a0.out))] (.tup []) [(90000000, .cells [.s r.Client.Name, .s r.Client.Mail.Envelope.From, .l zca.pc r.Client.Mail.Envelope.To, .s r.Client.Mail.Envelope.Id, .l zfa.pc r.Client.Mail.Message.Fields, .l cU r.Client.Mail.Message.Body, .bo r.Client.Pipelined, .l cU r.Client.Buffer, .i r.Client.Expected, .bo r.Client.Whole, .bo r.Client.Done, .hs 90000012 0, .l cU r.content, .bo r.chunk, .hs 90000015 0]),(90000012, .row 3 true 1 (List.map cI r.Client.Results)),(90000015, .row 5 false 1 (List.map cU r.out))] 90000000 [90000012,90000015]:=by
 unfold zua at hr
 refine rfS (fn:=Tryz.f88) (H:=90000999) (.ptr 90000000 0) ⟨Tryz.func88,rfl,by kernel_rfl⟩ rfl (hasT rfl) (.inl ⟨rfl,rfl⟩) rfl rfl rfl rfl fun g0 hg S sg T=> ?_
 refine rn tk 4 rfl ?_
 obtain ⟨v1,h2,hr⟩:=zaa hr
 refine wo (zAa (k:=6) (vya a0 a1 v1 h2) rfl rfl (zba rfl (zba rfl (zba rfl zga)))) rfl ?_
 refine rn tk 6 rfl ?_
 obtain ⟨v3,h4,hr⟩:=zaa hr
 refine wo (zAa (k:=9) (zYa v1 ((zqa.mk 8 (([]:Str)) (([]:Str)) 0 0 false)) v3 h4) rfl rfl (zba rfl (zba rfl (zba rfl zga)))) rfl ?_
 refine rn tk 9 rfl ?_
 cases hr
 exact krS tk (.inl rfl) rfl rfl (zba rfl (zba rfl (zba rfl (zba rfl zga))))
theorem j4a (a0:List UInt8) (a1:List UInt8) (r:Bool) (hr:kIa a0 a1=some r):Run Tryz.prog 126 [.l cU a0, .l cU a1] (.bo r):=by
 unfold kIa at hr
 refine wYa (fn:=Tryz.f126) ⟨Tryz.func126,rfl,by kernel_rfl⟩ rfl (fun _=> rfl) fun g0 hg=> ?_
 refine kNa ?_
 refine zDa ?_
 refine zka rfl (zma (d:=4) rfl rfl kba) ?_
 refine zLa ?_
 refine zya ?_
 obtain ⟨j1,hx,hy⟩:=zaa hr
 refine yha (fun j1=> [(4, .bo j1)]) (fun j1=> []) (fun z=> j1=z) ?_ ?_
 ·have hr:=hx
  clear hx hy
  refine zDa ?_
  refine zka rfl (zma (d:=5) rfl rfl zIa) ?_
  refine zka rfl (zma (d:=6) rfl rfl (v0a (f:=cU) rfl zha.u)) ?_
  refine zka rfl (zma (d:=7) rfl rfl zIa) ?_
  refine zka rfl (zma (d:=8) rfl rfl (v0a (f:=cU) rfl zha.u)) ?_
  refine zka rfl (zma (d:=9) rfl rfl (zob rfl rfl)) ?_
  refine zka rfl (zma (d:=10) rfl rfl zIa) ?_
  refine jka (decide ((a1.length:Int)≤(a0.length:Int))) (fun c2=> ?_) (fun c2=> ?_)
  ·replace hr:=Kba c2 hr
   refine zJa (d:=10) rfl rfl rfl c2 (zma (d:=11) rfl rfl zIa) ?_
   refine zJa (d:=10) rfl rfl rfl c2 (zma (d:=12) rfl rfl zIa) ?_
   refine zJa (d:=10) rfl rfl rfl c2 (zma (d:=13) rfl rfl (v0a (f:=cU) rfl zha.u)) ?_
   obtain ⟨v3,h4,hr⟩:=zaa hr
   refine zJa (d:=10) rfl rfl rfl c2 (zma (d:=14) rfl rfl (zwb (F:=cU) rfl rfl zha zva (fun _=> rfl) h4)) ?_
   refine zJa (d:=10) rfl rfl rfl c2 (zma (d:=15) rfl rfl zIa) ?_
   obtain ⟨v5,h6,hr⟩:=zaa hr
   refine zJa (d:=10) rfl rfl rfl c2 (vna (k:=16) (jaa v3 a1 v5 h6) rfl rfl) ?_
   refine zka rfl (zma (d:=17) rfl rfl (yKa rfl c2)) ?_
   refine zka rfl (zma (d:=4) rfl rfl kba) ?_
   refine zLa ?_
   cases hr
   exact kDa _ rfl (zea rfl zwa) zga
  ·replace hr:=Kca c2 hr
   refine zUa (d:=10) rfl rfl rfl c2 ?_
   refine zUa (d:=10) rfl rfl rfl c2 ?_
   refine zUa (d:=10) rfl rfl rfl c2 ?_
   refine zUa (d:=10) rfl rfl rfl c2 ?_
   refine zUa (d:=10) rfl rfl rfl c2 ?_
   refine zUa (d:=10) rfl rfl rfl c2 ?_
   refine zka rfl (zma (d:=17) rfl rfl (yLa rfl c2)) ?_
   refine zka rfl (zma (d:=4) rfl rfl kba) ?_
   refine zLa ?_
   cases hr
   exact kDa _ rfl (zea rfl zwa) zga
 ·rintro _ rfl
  have hr:=hy
  clear hx hy
  refine yca ?_
  cases hr
  exact Jya rfl (.cons (yNa rfl) .nil) rfl
theorem Qua (a0:List UInt8) (r:(List UInt8) × zta) (hr:vaa a0=some r):Run Tryz.prog 110 [.l cU a0] (.tup [.l cU r.1, .agg [.i r.2.Code, .i r.2.Index]]):=by
 unfold vaa at hr
 refine wYa (fn:=Tryz.f110) ⟨Tryz.func110,rfl,by kernel_rfl⟩ rfl (fun _=> rfl) fun g0 hg=> ?_
 refine kNa ?_
 refine zDa ?_
 refine zka rfl (zma (d:=2) rfl rfl kba) ?_
 refine qLa 1002 (d:=2) 5 1 rfl rfl rfl ?_
 refine zka rfl (ZKa (k:=3) 3 rfl qaa (.inr ⟨rfl,rfl⟩) rfl rfl rfl) ?_
 refine zLa ?_
 refine zya ?_
 refine kNa ?_
 refine kNa ?_
 refine zDa ?_
 refine zka rfl (zma (d:=6) rfl rfl zIa) ?_
 refine zka rfl (zma (d:=7) rfl rfl (v0a (f:=cU) rfl zha.u)) ?_
 refine zka rfl (zma (d:=8) rfl rfl (znb rfl rfl)) ?_
 refine zLa ?_
 refine zya ?_
 refine yea rfl (fun c1=> ?_) (fun c1=> ?_)
 ·replace hr:=Kba c1 hr
  refine kNa ?_
  refine zDa ?_
  obtain ⟨v2,h3,hr⟩:=zaa hr
  refine zka rfl (vna (k:=9) (zla 1 ((-1)) v2 h3) rfl rfl) ?_
  refine zka rfl (zma (d:=2) rfl rfl kba) ?_
  refine qLa 2002 (d:=2) 5 1 rfl rfl rfl ?_
  refine zka rfl (wea rfl rfl rfl qaa rfl rfl) ?_
  refine zLa ?_
  refine zya ?_
  refine vHa (d:=2) (F:=cU) (l:=(([]:List UInt8))) rfl rfl ?_
  refine yca ?_
  refine KLa ?_
  cases hr
  exact Jya rfl (.cons (yNa rfl) (.cons (Zba rfl rfl qaa rfl rfl) .nil)) rfl
 ·replace hr:=Kca c1 hr
  refine j5a ?_
  refine zya ?_
  refine kNa ?_
  obtain ⟨j4,hx,hy⟩:=zaa hr
  refine yha (fun j4=> [(0, .l cU a0),(3, .ptr 3 0),(19, .bo j4)]) (fun j4=> [(3, .cells [.i 0, .i 0])]) (fun z=> j4=z) ?_ ?_
  ·have hr:=hx
   clear hx hy
   refine zDa ?_
   refine zka rfl (zma (d:=10) rfl rfl zIa) ?_
   refine zka rfl (zma (d:=11) rfl rfl (v0a (f:=cU) rfl zha.u)) ?_
   refine zka rfl (zma (d:=12) rfl rfl (znb rfl rfl)) ?_
   refine zka rfl (zma (d:=13) rfl rfl zIa) ?_
   refine jka (decide (0 < (a0.length:Int))) (fun c5=> ?_) (fun c5=> ?_)
   ·replace hr:=Kba c5 hr
    refine zJa (d:=13) rfl rfl rfl c5 (zma (d:=14) rfl rfl zIa) ?_
    refine qwa rfl (wHa (F:=cU) (l:=([(13:UInt8),(10:UInt8)]:List UInt8)) zha zva rfl (fun _=> rfl) rfl rfl) zha zva (ZNa (d:=13) rfl rfl rfl c5) (ZNa (d:=13) rfl rfl rfl c5) rfl ?_
    obtain ⟨v6,h7,hr⟩:=zaa hr
    refine zJa (d:=13) rfl rfl rfl c5 (vna (k:=17) (wwa a0 (([(13:UInt8),(10:UInt8)]:List UInt8)) v6 h7) rfl rfl) ?_
    refine zJa (d:=13) rfl rfl rfl c5 (zma (d:=18) rfl rfl (zrb rfl)) ?_
    refine zka rfl (zma (d:=19) rfl rfl (yKa rfl c5)) ?_
    refine zLa ?_
    cases hr
    exact kDa _ rfl (zea rfl (zea rfl (zea rfl zwa))) (zba rfl zga)
   ·replace hr:=Kca c5 hr
    refine zUa (d:=13) rfl rfl rfl c5 ?_
    refine zUa (d:=13) rfl rfl rfl c5 ?_
    refine zUa (d:=13) rfl rfl rfl c5 ?_
    refine zUa (d:=13) rfl rfl rfl c5 ?_
    refine zUa (d:=13) rfl rfl rfl c5 ?_
    refine zka rfl (zma (d:=19) rfl rfl (yLa rfl c5)) ?_
    refine zLa ?_
    cases hr
    exact kDa _ rfl (zea rfl (zea rfl (zea rfl zwa))) (zba rfl zga)
  ·rintro _ rfl
   have hr:=hy
   clear hx hy
   refine yea rfl (fun c8=> ?_) (fun c8=> ?_)
   ·replace hr:=Kba c8 hr
    refine kNa ?_
    refine zDa ?_
    obtain ⟨v9,h10,hr⟩:=zaa hr
    refine zka rfl (vna (k:=20) (zla 5 ((-2)) v9 h10) rfl rfl) ?_
    refine zka rfl (zma (d:=2) rfl rfl kba) ?_
    refine qLa 1002 (d:=2) 5 1 rfl rfl rfl ?_
    refine zka rfl (wea rfl rfl rfl qaa rfl rfl) ?_
    refine zLa ?_
    refine zya ?_
    refine vHa (d:=2) (F:=cU) (l:=(([]:List UInt8))) rfl rfl ?_
    refine yca ?_
    refine KLa ?_
    cases hr
    exact Jya rfl (.cons (yNa rfl) (.cons (Zba rfl rfl qaa rfl rfl) .nil)) rfl
   ·replace hr:=Kca c8 hr
    refine j5a ?_
    refine zya ?_
    refine kNa ?_
    refine zDa ?_
    refine zka rfl (ZKa (k:=4) 4 rfl zha (.inl rfl) rfl rfl rfl) ?_
    refine vGa 1004 (o:=4) (j:=0) 5 1 rfl rfl rfl rfl ?_
    refine zLa ?_
    refine zya ?_
    refine kNa ?_
    refine kNa ?_
    refine zDa ?_
    refine zka rfl (zma (d:=21) rfl rfl zIa) ?_
    refine Y0a (fn:=Tryz.f125) (args:= [.l cU a0]) 900000 999999 [(3, .ptr 3 0),(4, .ptr 4 0)] (zna rfl) rfl ⟨Tryz.func125,rfl,by kernel_rfl⟩ rfl rfl (.cons rfl (.cons rfl .nil)) fun T9 ds9 hT9=> ?_
    refine kNa ?_
    refine zDa ?_
    refine zka rfl (j9a (k:=1) 1 rfl rfl rfl rfl rfl) ?_
    refine zka rfl (zma (d:=2) rfl rfl kba) ?_
    refine zLa ?_
    refine zya ?_
    refine kNa ?_
    refine zDa ?_
    refine zka rfl (zma (d:=3) rfl rfl (KOa rfl rfl)) ?_
    refine zka rfl (zma (d:=2) rfl rfl kba) ?_
    refine zLa ?_
    refine zya ?_
    refine yca ?_
    refine inlK (cs:= [.fn (.func 151) [] [.ptr 1 0]]) (fr'' := [(3, .ptr 3 0),(4, .ptr 4 0)]) (σ'' := [(1, .cells [.l cU a0]),(1004, .row 5 false 1 (List.map cU (([]:List UInt8)))),(4, .cells [.hs 1004 0]),(3, .cells [.i 0, .i 0])]) (.inl rfl) wia jha (.cons (yNa rfl) .nil) (.cons rfl (.cons rfl .nil)) rfl (zba rfl (zba rfl (zba rfl (zba rfl zga)))) ?_
    refine zLa ?_
    refine zya ?_
    refine yIa ?_
    refine JBa (fn0:=Tryz.f151) 1000000 1099998 1099999 [(3, .ptr 3 0),(4, .ptr 4 0),(22, .fn (.func 151) [] [.ptr 1 0])] rfl rfl rfl ⟨Tryz.func151,rfl,by kernel_rfl⟩ rfl rfl rfl rfl rfl (.cons rfl (.cons rfl (.cons rfl .nil))) fun T10 b10 L10 ds10 hT10 hLs10 hLp10 hLt10 hLq10 hLa10 hLb10=> ?_
    refine kNa ?_
    refine zDa ?_
    refine zka rfl (zma (d:=3) rfl rfl kba) ?_
    refine zLa ?_
    refine zya ?_
    refine yIa ?_
    obtain ⟨b12,hl,hr⟩:=zaa hr
    refine YVa (kEa a0) (fun s11=> [(0, .fn (.yield b10) [] []),(1, .ptr 1 0),(3, .i s11.1)]) (fun s11=> [(1099999, .sus g0.w.heap.size ds10),(1099998, .lp b10 L10),(1000003, .hold (.ptr 3 0) (T10.getD 3 undef)),(1000004, .hold (.ptr 4 0) (T10.getD 4 undef)),(1000022, .hold (.fn (.func 151) [] [.ptr 1 0]) (T10.getD 22 undef)),(1, .cells [.l cU a0]),(1004, .row 5 false 1 (List.map cU s11.2)),(4, .cells [.hs 1004 0]),(3, .cells [.i 0, .i 0])]) (fun b12=> At .ret [] [(1099999, .sus g0.w.heap.size ds10),(1099998, .lp b10 L10),(1000003, .hold (.ptr 3 0) (T10.getD 3 undef)),(1000004, .hold (.ptr 4 0) (T10.getD 4 undef)),(1000022, .hold (.fn (.func 151) [] [.ptr 1 0]) (T10.getD 22 undef)),(1, .cells [.l cU a0]),(1004, .row 5 false 1 (List.map cU b12)),(4, .cells [.hs 1004 0]),(3, .cells [.i 0, .i 0])]) ?_ ((0,([]:List UInt8))) hl (zea rfl (zea rfl (zea rfl zwa))) (zba rfl (zba rfl (zba rfl (zba rfl (zba rfl (zba rfl (zba rfl (zba rfl (zba rfl zga))))))))) ?_
    ·intro s11 x13 hr
     unfold kEa at hr
     refine yIa ?_
     refine kNa ?_
     refine zDa ?_
     refine zka rfl (zma (d:=5) rfl rfl (wka rfl rfl zha rfl rfl)) ?_
     refine zka rfl (zma (d:=6) rfl rfl zIa) ?_
     obtain ⟨v14,h15,hr⟩:=zaa hr
     refine zka rfl (zma (d:=7) rfl rfl (Yda (F:=cU) rfl rfl zha zva (fun _=> rfl) h15)) ?_
     refine qwa rfl (wHa (F:=cU) (l:=([(13:UInt8),(10:UInt8)]:List UInt8)) zha zva rfl (fun _=> rfl) rfl rfl) zha zva (zna rfl) (zna rfl) rfl ?_
     obtain ⟨v16,h17,hr⟩:=zaa hr
     refine zka rfl (vna (k:=10) (jfa v14 (([(13:UInt8),(10:UInt8)]:List UInt8)) v16 h17) rfl rfl) ?_
     refine zka rfl (zma (d:=4) rfl rfl kba) ?_
     refine zLa ?_
     refine zya ?_
     refine kNa ?_
     obtain ⟨j18,hx,hy⟩:=zaa hr
     refine yha (fun j18=> [(0, .fn (.yield b10) [] []),(1, .ptr 1 0),(3, .i s11.1),(4, .i v16),(27, .bo j18.1)]) (fun j18=> [(1099999, .sus g0.w.heap.size ds10),(1099998, .lp b10 L10),(1000003, .hold (.ptr 3 0) (T10.getD 3 undef)),(1000004, .hold (.ptr 4 0) (T10.getD 4 undef)),(1000022, .hold (.fn (.func 151) [] [.ptr 1 0]) (T10.getD 22 undef)),(1, .cells [.l cU a0]),(1004, .row 5 false 1 (List.map cU j18.2)),(4, .cells [.hs 1004 0]),(3, .cells [.i 0, .i 0])]) (fun z=> j18=z) ?_ ?_
     ·have hr:=hx
      clear hx hy
      refine zDa ?_
      refine zka rfl (zma (d:=11) rfl rfl zIa) ?_
      refine zka rfl (zma (d:=12) rfl rfl (ev_lss rfl rfl)) ?_
      refine zka rfl (zma (d:=13) rfl rfl zIa) ?_
      refine jka (decide (v16 < 0)) (fun c19=> ?_) (fun c19=> ?_)
      ·replace hr:=Kba c19 hr
       refine zUa (d:=13) rfl rfl rfl c19 ?_
       refine zUa (d:=13) rfl rfl rfl c19 ?_
       refine zUa (d:=13) rfl rfl rfl c19 ?_
       refine zUa (d:=13) rfl rfl rfl c19 ?_
       refine zUa (d:=13) rfl rfl rfl c19 ?_
       refine zUa (d:=13) rfl rfl rfl c19 ?_
       refine zUa (d:=13) rfl rfl rfl c19 ?_
       refine zUa (d:=13) rfl rfl rfl c19 ?_
       refine zUa (d:=13) rfl rfl rfl c19 ?_
       refine zUa (d:=13) rfl rfl rfl c19 ?_
       refine zUa (d:=13) rfl rfl rfl c19 ?_
       refine zUa (d:=13) rfl rfl rfl c19 ?_
       refine zUa (d:=13) rfl rfl rfl c19 ?_
       refine zka rfl (zma (d:=27) rfl rfl (yKa rfl c19)) ?_
       refine zLa ?_
       cases hr
       exact kDa _ rfl (zea rfl (zea rfl (zea rfl (zea rfl (zea rfl zwa))))) (zba rfl (zba rfl (zba rfl (zba rfl (zba rfl (zba rfl (zba rfl (zba rfl (zba rfl zga)))))))))
      ·replace hr:=Kca c19 hr
       refine zJa (d:=13) rfl rfl rfl c19 (zma (d:=14) rfl rfl zIa) ?_
       refine zJa (d:=13) rfl rfl rfl c19 (zma (d:=15) rfl rfl (wka rfl rfl zha rfl rfl)) ?_
       refine zJa (d:=13) rfl rfl rfl c19 (zma (d:=16) rfl rfl zIa) ?_
       refine zJa (d:=13) rfl rfl rfl c19 (zma (d:=17) rfl rfl zIa) ?_
       refine zJa (d:=13) rfl rfl rfl c19 (zma (d:=18) rfl rfl zIa) ?_
       refine zJa (d:=13) rfl rfl rfl c19 (zma (d:=19) rfl rfl (QSa rfl rfl)) ?_
       obtain ⟨v20,h21,hr⟩:=zaa hr
       refine zJa (d:=13) rfl rfl rfl c19 (zma (d:=20) rfl rfl (YYa (F:=cU) rfl rfl rfl zha zva (fun _=> rfl) h21)) ?_
       refine zJa (d:=13) rfl rfl rfl c19 (zma (d:=21) rfl rfl zIa) ?_
       refine zJa (d:=13) rfl rfl rfl c19 (zma (d:=22) rfl rfl zIa) ?_
       refine zJa (d:=13) rfl rfl rfl c19 (zma (d:=23) rfl rfl (QSa rfl rfl)) ?_
       refine zJa (d:=13) rfl rfl rfl c19 (zma (d:=24) rfl rfl (QSa rfl rfl)) ?_
       refine Yha (ps:= [23,24]) (args:= [.l cU v20, .i ((w64 ((w64 (s11.1+v16))+2)))]) 1000000 1600000 1099998 1699999 [(3, .ptr 3 0),(4, .ptr 4 0),(22, .fn (.func 151) [] [.ptr 1 0])] [(0, .fn (.yield b10) [] []),(1, .ptr 1 0),(3, .i s11.1),(4, .i v16),(13, .bo (decide (v16 < 0))),(14, .fn (.yield b10) [] []),(15, .l cU a0),(16, .i s11.1),(17, .i s11.1),(18, .i v16),(19, .i ((w64 (s11.1+v16)))),(20, .l cU v20),(21, .i s11.1),(22, .i v16),(23, .i ((w64 (s11.1+v16)))),(24, .i ((w64 ((w64 (s11.1+v16))+2))))] (ZNa (d:=13) rfl rfl rfl c19) rfl rfl hLs10 hLp10 hLt10 hLq10 hLa10 hLb10 hT10 rfl rfl rfl rfl (.cons rfl (.cons rfl (.cons rfl (.cons rfl (.cons rfl (.cons rfl (.cons rfl (.cons rfl (.cons rfl (.cons rfl (.cons rfl (.cons rfl (.cons rfl (.cons rfl (.cons rfl (.cons rfl .nil)))))))))))))))) (.cons rfl (.cons rfl (.cons rfl .nil))) fun T16 ds16 hT16=> ?_
       refine zDa ?_
       refine zka rfl (zma (d:=5) rfl rfl kba) ?_
       refine zLa ?_
       refine asgK wia jha rfl ?_
       refine yIa ?_
       obtain ⟨j22,hx,hy⟩:=zaa hr
       refine yha (fun j22=> [(4, .ptr 4 0),(5, .l cU v20)]) (fun j22=> [(1699999, .sus g0.w.heap.size ds16),(1600000, .hold (.fn (.yield b10) [] []) (T16.getD 0 undef)),(1600001, .hold (.ptr 1 0) (T16.getD 1 undef)),(1600003, .hold (.i s11.1) (T16.getD 3 undef)),(1600004, .hold (.i v16) (T16.getD 4 undef)),(1600013, .hold (.bo (decide (v16 < 0))) (T16.getD 13 undef)),(1600014, .hold (.fn (.yield b10) [] []) (T16.getD 14 undef)),(1600015, .hold (.l cU a0) (T16.getD 15 undef)),(1600016, .hold (.i s11.1) (T16.getD 16 undef)),(1600017, .hold (.i s11.1) (T16.getD 17 undef)),(1600018, .hold (.i v16) (T16.getD 18 undef)),(1600019, .hold (.i ((w64 (s11.1+v16)))) (T16.getD 19 undef)),(1600020, .hold (.l cU v20) (T16.getD 20 undef)),(1600021, .hold (.i s11.1) (T16.getD 21 undef)),(1600022, .hold (.i v16) (T16.getD 22 undef)),(1600023, .hold (.i ((w64 (s11.1+v16)))) (T16.getD 23 undef)),(1600024, .hold (.i ((w64 ((w64 (s11.1+v16))+2)))) (T16.getD 24 undef)),(1099999, .sus g0.w.heap.size ds10),(1099998, .lp b10 ((busy L10))),(1000003, .hold (.ptr 3 0) (T10.getD 3 undef)),(1000004, .hold (.ptr 4 0) (T10.getD 4 undef)),(1000022, .hold (.fn (.func 151) [] [.ptr 1 0]) (T10.getD 22 undef)),(1, .cells [.l cU a0]),(1004, .row 5 false 1 (List.map cU j22)),(4, .cells [.hs 1004 0]),(3, .cells [.i 0, .i 0])]) (fun z=> j22=z) ?_ ?_
       ·have hr:=hx
        clear hx hy
        refine kNa ?_
        refine zDa ?_
        refine zka rfl (zma (d:=25) rfl rfl zIa) ?_
        refine qwa rfl (wHa (F:=cU) (l:=([(46:UInt8)]:List UInt8)) zha zva rfl (fun _=> rfl) rfl rfl) zha zva (zna rfl) (zna rfl) rfl ?_
        obtain ⟨v23,h24,hr⟩:=zaa hr
        refine zka rfl (vna (k:=28) (j4a v20 (([(46:UInt8)]:List UInt8)) v23 h24) rfl rfl) ?_
        refine zLa ?_
        refine zya ?_
        refine yea rfl (fun c25=> ?_) (fun c25=> ?_)
        ·replace hr:=Kba c25 hr
         refine zDa ?_
         refine zka rfl (zma (d:=29) rfl rfl (wka rfl rfl zha rfl rfl)) ?_
         refine zka rfl (Kha (d:=30) rfl rfl (yla (F:=cU) (l:=([(46:UInt8)]:List UInt8)) zha zva rfl (fun _=> rfl) rfl rfl)) ?_
         obtain ⟨v26,h27,hr⟩:=zaa hr
         refine zka rfl (q7a (k:=31) (F:=cU) (l:=s11.2) (xs:=(([(46:UInt8)]:List UInt8))) (lim:=140737488355328) rfl rfl rfl rfl zha zva rfl rfl (fun _=> rfl) rfl h27) ?_
         refine zka rfl (wea rfl rfl rfl zha rfl rfl) ?_
         refine zLa ?_
         cases hr
         exact kDa _ rfl (zea rfl (zea rfl zwa)) (zba rfl (zba rfl (zba rfl (zba rfl (zba rfl (zba rfl (zba rfl (zba rfl (zba rfl (zba rfl (zba rfl (zba rfl (zba rfl (zba rfl (zba rfl (zba rfl (zba rfl (zba rfl (zba rfl (zba rfl (zba rfl (zba rfl (zba rfl (zba rfl (zba rfl (zba rfl zga))))))))))))))))))))))))))
        ·replace hr:=Kca c25 hr
         refine j5a ?_
         cases hr
         exact kDa _ rfl (zea rfl (zea rfl zwa)) (zba rfl (zba rfl (zba rfl (zba rfl (zba rfl (zba rfl (zba rfl (zba rfl (zba rfl (zba rfl (zba rfl (zba rfl (zba rfl (zba rfl (zba rfl (zba rfl (zba rfl (zba rfl (zba rfl (zba rfl (zba rfl (zba rfl (zba rfl (zba rfl (zba rfl (zba rfl zga))))))))))))))))))))))))))
       ·rintro _ rfl
        have hr:=hy
        clear hx hy
        refine zDa ?_
        refine zka rfl (zma (d:=32) rfl rfl (wka rfl rfl zha rfl rfl)) ?_
        refine zka rfl (zma (d:=33) rfl rfl zIa) ?_
        obtain ⟨v28,h29,hr⟩:=zaa hr
        refine zka rfl (q7a (k:=34) (F:=cU) (l:=j22) (xs:=v20) (lim:=140737488355328) rfl rfl rfl rfl zha zva rfl rfl (fun _=> rfl) rfl h29) ?_
        obtain ⟨v30,h31,hr⟩:=zaa hr
        refine zka rfl (wFa (k:=35) (l:=v28) (s:=(([13,10]:Str))) (lim:=140737488355328) rfl rfl rfl rfl zha zQa.u zva rfl h31) ?_
        refine zka rfl (wea rfl rfl rfl zha rfl rfl) ?_
        refine zLa ?_
        refine yda ?_
        refine rndK (fr'' := [(0, .fn (.yield b10) [] []),(1, .ptr 1 0),(3, .i s11.1),(4, .i v16),(13, .bo (decide (v16 < 0))),(14, .fn (.yield b10) [] []),(15, .l cU a0),(16, .i s11.1),(17, .i s11.1),(18, .i v16),(19, .i ((w64 (s11.1+v16)))),(20, .l cU v20),(21, .i s11.1),(22, .i v16),(23, .i ((w64 (s11.1+v16)))),(24, .i ((w64 ((w64 (s11.1+v16))+2))))]) (σ'' := [(1099999, .sus g0.w.heap.size ds10),(1099998, .lp b10 L10),(1000003, .hold (.ptr 3 0) (T10.getD 3 undef)),(1000004, .hold (.ptr 4 0) (T10.getD 4 undef)),(1000022, .hold (.fn (.func 151) [] [.ptr 1 0]) (T10.getD 22 undef)),(1, .cells [.l cU a0]),(1004, .row 5 false 1 (List.map cU v30)),(4, .cells [.hs 1004 0]),(3, .cells [.i 0, .i 0])]) .off jha rfl (.cons rfl (.cons rfl (.cons rfl (.cons rfl (.cons rfl (.cons rfl (.cons rfl (.cons rfl (.cons rfl (.cons rfl (.cons rfl (.cons rfl (.cons rfl (.cons rfl (.cons rfl (.cons rfl .nil)))))))))))))))) rfl (zba rfl (zba rfl (zba rfl (zba rfl (zba rfl (zba rfl (zba rfl (zba rfl (zba rfl zga))))))))) ?_
        refine zJa (d:=13) rfl rfl rfl c19 (zma (d:=26) rfl rfl (zrb rfl)) ?_
        refine zka rfl (zma (d:=27) rfl rfl (yLa rfl c19)) ?_
        refine zLa ?_
        cases hr
        exact kDa _ rfl (zea rfl (zea rfl (zea rfl (zea rfl (zea rfl zwa))))) (zba rfl (zba rfl (zba rfl (zba rfl (zba rfl (zba rfl (zba rfl (zba rfl (zba rfl zga)))))))))
     ·rintro _ rfl
      have hr:=hy
      clear hx hy
      refine yea rfl (fun c32=> ?_) (fun c32=> ?_)
      ·replace hr:=Kba c32 hr
       refine yca ?_
       refine KLa ?_
       refine QQa ?_
       cases hr
       exact ⟨by simp,rfl,zwa,(zba rfl (zba rfl (zba rfl (zba rfl (zba rfl (zba rfl (zba rfl (zba rfl (zba rfl zga)))))))))⟩
      ·replace hr:=Kca c32 hr
       refine j5a ?_
       refine zya ?_
       refine zDa ?_
       refine zka rfl (zma (d:=28) rfl rfl zIa) ?_
       refine zka rfl (zma (d:=29) rfl rfl zIa) ?_
       refine zka rfl (zma (d:=30) rfl rfl (QSa rfl rfl)) ?_
       refine zka rfl (zma (d:=31) rfl rfl (QSa rfl rfl)) ?_
       refine zka rfl (zma (d:=3) rfl rfl kba) ?_
       refine zLa ?_
       refine yda ?_
       cases hr
       exact ⟨rfl,(zea rfl (zea rfl (zea rfl zwa))),(zba rfl (zba rfl (zba rfl (zba rfl (zba rfl (zba rfl (zba rfl (zba rfl (zba rfl zga)))))))))⟩
    ·intro e fr2 st2 hq
     obtain ⟨rfl,hf,hs⟩:=hq
     refine QQa ?_
     refine itrK (L' :=L10) (fr'' := [(3, .ptr 3 0),(4, .ptr 4 0),(22, .fn (.func 151) [] [.ptr 1 0])]) (σ'' := [(1, .cells [.l cU a0]),(1004, .row 5 false 1 (List.map cU b12)),(4, .cells [.hs 1004 0]),(3, .cells [.i 0, .i 0])]) (.inl rfl) hs rfl (.cons rfl (.cons rfl (.cons rfl .nil))) rfl (zba rfl (zba rfl (zba rfl (zba rfl zga)))) rfl ?_
     refine .off ?_
     refine yda ?_
     refine zya ?_
     refine kNa ?_
     refine zDa ?_
     refine zka rfl (zma (d:=36) rfl rfl (wka rfl rfl zha rfl rfl)) ?_
     obtain ⟨v33,h34,hr⟩:=zaa hr
     refine zka rfl (wFa (k:=37) (l:=b12) (s:=(([46,13,10]:Str))) (lim:=140737488355328) rfl rfl rfl rfl zha zQa.u zva rfl h34) ?_
     obtain ⟨v35,h36,hr⟩:=zaa hr
     refine zka rfl (vna (k:=38) (zEa v35 h36) rfl rfl) ?_
     refine zka rfl (zma (d:=2) rfl rfl kba) ?_
     refine zka rfl (wea rfl rfl rfl qaa rfl rfl) ?_
     refine zLa ?_
     refine zya ?_
     refine vHa (d:=2) (F:=cU) (l:=v33) rfl rfl ?_
     refine yca ?_
     cases hr
     exact Jya rfl (.cons (yNa rfl) (.cons (Zba rfl rfl qaa rfl rfl) .nil)) rfl
theorem yba (a0:zda) (a1:Int) (r:zda) (hr:k3a a0 a1=some r):RunS Tryz.prog 92 [.ptr 90000000 0, .i a1] [(90000000, .cells [.s a0.Client.Name, .s a0.Client.Mail.Envelope.From, .l zca.pc a0.Client.Mail.Envelope.To, .s a0.Client.Mail.Envelope.Id, .l zfa.pc a0.Client.Mail.Message.Fields, .l cU a0.Client.Mail.Message.Body, .bo a0.Client.Pipelined, .l cU a0.Client.Buffer, .i a0.Client.Expected, .bo a0.Client.Whole, .bo a0.Client.Done, .hs 90000012 0, .l cU a0.content, .bo a0.chunk, .hs 90000015 0]),(90000012, .row 3 true 1 (List.map cI a0.Client.Results)),(90000015, .row 5 false 1 (List.map cU a0.out))] (.tup []) [(90000000, .cells [.s r.Client.Name, .s r.Client.Mail.Envelope.From, .l zca.pc r.Client.Mail.Envelope.To, .s r.Client.Mail.Envelope.Id, .l zfa.pc r.Client.Mail.Message.Fields, .l cU r.Client.Mail.Message.Body, .bo r.Client.Pipelined, .l cU r.Client.Buffer, .i r.Client.Expected, .bo r.Client.Whole, .bo r.Client.Done, .hs 90000012 0, .l cU r.content, .bo r.chunk, .hs 90000015 0]),(90000012, .row 3 true 1 (List.map cI r.Client.Results)),(90000015, .row 5 false 1 (List.map cU r.out))] 90000000 [90000012,90000015]:=by
 unfold k3a at hr
 refine rfS (fn:=Tryz.f92) (H:=90000999) (.ptr 90000000 0) ⟨Tryz.func92,rfl,by kernel_rfl⟩ rfl (hasT rfl) (.inl ⟨rfl,rfl⟩) rfl rfl rfl rfl fun g0 hg S sg T=> ?_
 refine rn tk 8 rfl ?_
 refine ac 36 hr rfl (fun c1 hr=> ?_) (fun c1 hr=> ?_)
 ·
  refine rn tk 3 rfl ?_
  obtain ⟨v2,h3,hr⟩:=zaa hr
  refine cl (qua _ _ h3) rfl rfl ?_
  obtain ⟨v4,h5,hr⟩:=zaa hr
  refine wo (zAa (k:=42) (kea a0 v2 v4 h5) rfl rfl (zba rfl (zba rfl (zba rfl zga)))) rfl ?_
  refine rn tk 2 rfl ?_
  cases hr
  exact krS tk (.inl rfl) rfl rfl (zba rfl (zba rfl (zba rfl (zba rfl zga))))
 ·
  refine rn tk 3 rfl ?_
  obtain ⟨v6,h7,hr⟩:=zaa hr
  refine wo (zAa (k:=45) (vBa a0 v6 h7) rfl rfl (zba rfl (zba rfl (zba rfl zga)))) rfl ?_
  refine rn tk 3 rfl ?_
  refine ac 43 hr rfl (fun c8 hr=> ?_) (fun c8 hr=> ?_)
  ·
   refine rn tk 8 rfl ?_
   cases hr
   exact krS tk (.inl rfl) rfl rfl (zba rfl (zba rfl (zba rfl (zba rfl zga))))
  ·
   refine rn tk 6 rfl ?_
   obtain ⟨v9,h10,hr⟩:=zaa hr
   refine cl (Qua _ _ h10) rfl rfl ?_
   refine rn tk 16 rfl ?_
   obtain ⟨v11,h12,hr⟩:=zaa hr
   refine wa tk h12 rfl rfl rfl rfl (fun _=> rfl) rfl rfl ?_
   refine rn tk 27 rfl ?_
   cases hr
   exact krS tk (.inl rfl) rfl rfl (zba rfl (zba rfl (zba rfl (zba rfl zga))))
theorem qia (a0:zda) (r:Int × zda) (hr:zWa a0=some r):RunS Tryz.prog 87 [.ptr 90000000 0] [(90000000, .cells [.s a0.Client.Name, .s a0.Client.Mail.Envelope.From, .l zca.pc a0.Client.Mail.Envelope.To, .s a0.Client.Mail.Envelope.Id, .l zfa.pc a0.Client.Mail.Message.Fields, .l cU a0.Client.Mail.Message.Body, .bo a0.Client.Pipelined, .l cU a0.Client.Buffer, .i a0.Client.Expected, .bo a0.Client.Whole, .bo a0.Client.Done, .hs 90000012 0, .l cU a0.content, .bo a0.chunk, .hs 90000015 0]),(90000012, .row 3 true 1 (List.map cI a0.Client.Results)),(90000015, .row 5 false 1 (List.map cU a0.out))] (.i r.1) [(90000000, .cells [.s r.2.Client.Name, .s r.2.Client.Mail.Envelope.From, .l zca.pc r.2.Client.Mail.Envelope.To, .s r.2.Client.Mail.Envelope.Id, .l zfa.pc r.2.Client.Mail.Message.Fields, .l cU r.2.Client.Mail.Message.Body, .bo r.2.Client.Pipelined, .l cU r.2.Client.Buffer, .i r.2.Client.Expected, .bo r.2.Client.Whole, .bo r.2.Client.Done, .hs 90000012 0, .l cU r.2.content, .bo r.2.chunk, .hs 90000015 0]),(90000012, .row 3 true 1 (List.map cI r.2.Client.Results)),(90000015, .row 5 false 1 (List.map cU r.2.out))] 90000000 [90000012,90000015]:=by
 unfold zWa at hr
 refine rfS (fn:=Tryz.f87) (H:=90000999) (.ptr 90000000 0) ⟨Tryz.func87,rfl,by kernel_rfl⟩ rfl (hasT rfl) (.inl ⟨rfl,rfl⟩) rfl rfl rfl rfl fun g0 hg S sg T=> ?_
 refine rn tk 14 rfl ?_
 refine wn tk rfl rfl rfl ?_
 refine rn tk 4 rfl ?_
 cases hr
 exact krS tk (.inr rfl) rfl rfl (zba rfl (zba rfl (zba rfl (zba rfl zga))))
theorem qTa (a0:zda) (a1:Int) (r:zda) (hr:zxa a0 a1=some r):RunS Tryz.prog 108 [.ptr 90000000 0, .i a1] [(90000000, .cells [.s a0.Client.Name, .s a0.Client.Mail.Envelope.From, .l zca.pc a0.Client.Mail.Envelope.To, .s a0.Client.Mail.Envelope.Id, .l zfa.pc a0.Client.Mail.Message.Fields, .l cU a0.Client.Mail.Message.Body, .bo a0.Client.Pipelined, .l cU a0.Client.Buffer, .i a0.Client.Expected, .bo a0.Client.Whole, .bo a0.Client.Done, .hs 90000012 0, .l cU a0.content, .bo a0.chunk, .hs 90000015 0]),(90000012, .row 3 true 1 (List.map cI a0.Client.Results)),(90000015, .row 5 false 1 (List.map cU a0.out))] (.tup []) [(90000000, .cells [.s r.Client.Name, .s r.Client.Mail.Envelope.From, .l zca.pc r.Client.Mail.Envelope.To, .s r.Client.Mail.Envelope.Id, .l zfa.pc r.Client.Mail.Message.Fields, .l cU r.Client.Mail.Message.Body, .bo r.Client.Pipelined, .l cU r.Client.Buffer, .i r.Client.Expected, .bo r.Client.Whole, .bo r.Client.Done, .hs 90000012 0, .l cU r.content, .bo r.chunk, .hs 90000015 0]),(90000012, .row 3 true 1 (List.map cI r.Client.Results)),(90000015, .row 5 false 1 (List.map cU r.out))] 90000000 [90000012,90000015]:=by
 unfold zxa at hr
 refine rfS (fn:=Tryz.f108) (H:=90000999) (.ptr 90000000 0) ⟨Tryz.func108,rfl,by kernel_rfl⟩ rfl (hasT rfl) (.inl ⟨rfl,rfl⟩) rfl rfl rfl rfl fun g0 hg S sg T=> ?_
 refine rn tk 20 rfl ?_
 refine ac 15 hr rfl (fun c1 hr=> ?_) (fun c1 hr=> ?_)
 ·
  refine rn tk 8 rfl ?_
  obtain ⟨v2,h3,hr⟩:=zaa hr
  refine wo (zAa (k:=25) (zYa a0 ((zqa.mk 1 a0.Client.Name (([]:Str)) 0 0 false)) v2 h3) rfl rfl (zba rfl (zba rfl (zba rfl zga)))) rfl ?_
  refine rn tk 2 rfl ?_
  cases hr
  exact krS tk (.inl rfl) rfl rfl (zba rfl (zba rfl (zba rfl (zba rfl zga))))
 ·
  refine rn tk 7 rfl ?_
  refine ac 26 hr rfl (fun c4 hr=> ?_) (fun c4 hr=> ?_)
  ·
   refine dr 9 [(37, .agg [.i 2, .s (([]:Str)), .s a0.Client.Mail.Envelope.From, .i ((a0.content.length:Int)), .i 0, .bo false]),(36, .i ((a0.content.length:Int))),(35, .l cU a0.content),(34, .ptr 90000000 12),(33, .ptr 90000000 0),(32, .ptr 90000000 0),(31, .s a0.Client.Mail.Envelope.From),(30, .ptr 4 0),(29, .ptr 90000000 0)] mixed (by kernel_rfl) rfl rfl (pq tk rfl (.plain rfl) (pq tk rfl (.plain rfl) (pq tk rfl (.plain rfl) (pq tk rfl (.plain rfl) (pq tk rfl (.plain rfl) (pq tk rfl (.plain rfl) (pq tk rfl (.plain rfl) (.run (.plain rfl) (wRa (v0a (f:=cU) rfl zha.u)) (pq tk rfl (.plain rfl) .nil))))))))) rfl ?_
   obtain ⟨v5,h6,hr⟩:=zaa hr
   refine wo (zAa (k:=38) (zYa a0 ((zqa.mk 2 (([]:Str)) a0.Client.Mail.Envelope.From ((a0.content.length:Int)) 0 false)) v5 h6) rfl rfl (zba rfl (zba rfl (zba rfl zga)))) rfl ?_
   refine rn tk 2 rfl ?_
   cases hr
   exact krS tk (.inl rfl) rfl rfl (zba rfl (zba rfl (zba rfl (zba rfl zga))))
  ·
   refine rn tk 4 rfl ?_
   obtain ⟨v7,h8,hr⟩:=zaa hr
   refine wo (zAa (k:=42) (qia a0 v7 h8) rfl rfl (zba rfl (zba rfl (zba rfl zga)))) rfl ?_
   refine rn tk 5 rfl ?_
   refine ac 39 hr rfl (fun c9 hr=> ?_) (fun c9 hr=> ?_)
   ·
    refine rn tk 6 rfl ?_
    obtain ⟨v10,h11,hr⟩:=zaa hr
    refine wi tk h11 rfl rfl rfl rfl rfl ?_
    refine rn tk 12 rfl ?_
    obtain ⟨v12,h13,hr⟩:=zaa hr
    refine wo (zAa (k:=57) (zYa v7.2 ((zqa.mk 3 (([]:Str)) v10.Address 0 v10.Notify false)) v12 h13) rfl rfl (zba rfl (zba rfl (zba rfl zga)))) rfl ?_
    refine rn tk 2 rfl ?_
    cases hr
    exact krS tk (.inl rfl) rfl rfl (zba rfl (zba rfl (zba rfl (zba rfl zga))))
   ·
    refine rn tk 9 rfl ?_
    refine ac 58 hr rfl (fun c14 hr=> ?_) (fun c14 hr=> ?_)
    ·
     refine rn tk 7 rfl ?_
     refine wn tk rfl rfl rfl ?_
     refine rn tk 1 rfl ?_
     obtain ⟨v15,h16,hr⟩:=zaa hr
     refine wo (zAa (k:=70) (zYa v7.2 ((zqa.mk 5 (([]:Str)) (([]:Str)) ((v7.2.content.length:Int)) 0 true)) v15 h16) rfl rfl (zba rfl (zba rfl (zba rfl zga)))) rfl ?_
     refine rn tk 3 rfl ?_
     obtain ⟨v17,h18,hr⟩:=zaa hr
     refine drF 9 0 [(79, .l cU v15.content),(78, .ptr 90000000 12),(77, .ptr 90000000 0),(76, .ptr 90000000 0),(75, .hs 90000015 0),(74, .ptr 90000000 14),(73, .ptr 90000000 0),(72, .ptr 90000000 0),(71, .ptr 90000000 0)] [(79, .l cU v15.content),(78, .ptr 90000000 12),(77, .ptr 90000000 0),(76, .ptr 90000000 0),(75, .hs 90000015 0),(74, .ptr 90000000 14),(73, .ptr 90000000 0),(72, .ptr 90000000 0),(71, .any)] [(0, .ptr 90000000 0),(71, .ptr 90000000 0),(80, .hs 90000015 0)] [(90000000, .cells [.s v15.Client.Name, .s v15.Client.Mail.Envelope.From, .l zca.pc v15.Client.Mail.Envelope.To, .s v15.Client.Mail.Envelope.Id, .l zfa.pc v15.Client.Mail.Message.Fields, .l cU v15.Client.Mail.Message.Body, .bo v15.Client.Pipelined, .l cU v15.Client.Buffer, .i v15.Client.Expected, .bo v15.Client.Whole, .bo v15.Client.Done, .hs 90000012 0, .l cU v15.content, .bo v15.chunk, .any]),(90000012, .row 3 true 1 (List.map cI v15.Client.Results)),(90000015, .row 5 false 1 (List.map cU v17)),(4, .cells [.s a0.Client.Mail.Envelope.From, .l zca.pc a0.Client.Mail.Envelope.To, .s a0.Client.Mail.Envelope.Id]),(90000999, .hold (.ptr 90000000 0) (T.getD 0 undef))] mixed (by kernel_rfl) rfl rfl rfl rfl rfl (pqA tk rfl (.plain rfl) (pqA tk rfl (.plain rfl) (pqA tk rfl (.plain rfl) (pqA tk rfl (.plain rfl) (pqA tk rfl (.plain rfl) (pqA tk rfl (.plain rfl) (pqA tk rfl (.plain rfl) (pqA tk rfl (.plain rfl) (pqA tk rfl (.plain rfl) .nil))))))))) rfl rfl rfl rfl rfl (fun hJ=> ?_) (fun hJ=> ?_) ?_
     ·
      refine wa tk h18 rfl rfl rfl rfl (fun _=> rfl) rfl rfl ?_
      exact hJ _ _ rfl rfl
     ·
      refine wa tk h18 rfl rfl rfl rfl (fun _=> rfl) rfl rfl ?_
      refine rn tk 1 rfl ?_
      exact hJ _ _ rfl rfl
     refine rn tk 13 rfl ?_
     cases hr
     exact krS tk (.inl rfl) rfl rfl (zba rfl (zba rfl (zba rfl (zba rfl zga))))
    ·
     refine rn tk 3 rfl ?_
     obtain ⟨v19,h20,hr⟩:=zaa hr
     refine wo (zAa (k:=14) (zYa v7.2 ((zqa.mk 4 (([]:Str)) (([]:Str)) 0 0 false)) v19 h20) rfl rfl (zba rfl (zba rfl (zba rfl zga)))) rfl ?_
     refine rn tk 2 rfl ?_
     cases hr
     exact krS tk (.inl rfl) rfl rfl (zba rfl (zba rfl (zba rfl (zba rfl zga))))
end Go.Proofs.YtjnmamghadpedaaGreatDoor
