/- Part 5 of the proof of the law QueueAttemptsMatchSpec: what it needs. -/
import Derived.Test.YtgajlblehdboiaaGreatKQueueAttemptsMatchSpec4
import Derived.Shelf.Small.Utf8
import Derived.Shelf.Small.Bits
import Derived.Shelf.Small.Strs
import Derived.Shelf.Small.Wraps
import Derived.Shelf.Strconv.Itoa0
import Derived.Shelf.Strings.Search1
import Derived.Shelf.Strings.Search2
import Derived.Shelf.Strings.Search3
import Derived.Shelf.Strings.Cut
import Derived.Shelf.LaysM
import Derived.Shelf.Strings.Shaped
import Derived.Shelf.Strings.Prefix
import Derived.Shelf.Strings.Runes
import Derived.Shelf.Strings.IndexAny
import Derived.Shelf.Strings.AsciiSet
import Derived.Shelf.Strings.IndexAnyAll
import Derived.Ground.Names2Prog
import Derived.Shelf.Slices.SearchI
import Derived.Shelf.SlSortCmp.WholeK
import Derived.Shelf.SlSortCmp.NoneTotal
import Derived.Ground.SlsfProg
import Derived.Test.YtgajlblehdboiaaGreatProg
import Derived.StillTailTactics
import Derived.Sort.Grow
import Derived.Handy
set_option linter.unusedVariables false
set_option linter.unusedSimpArgs false
set_option maxRecDepth 100000
set_option maxHeartbeats 40000000
namespace Go.Proofs.YtgajlblehdboiaaGreat
open Go.RowKit Go.Proofs.Tryz
theorem wsb{L2:List zba}{n:Nat}{x:zba}(hn:n < L2.length)(hl:L2.length<=1048576)(hx:L2[n]? =some x)(hxl:x.To.length<=1048576)(hg:Wya x.To x.Mail.Envelope.To):((idx L2 (n:Int)).bind fun v137=>(qZa v137).bind fun v139=>(bif (!v139) then ((cut3 L2 (n:Int) ((w64 ((n:Int)+1))) ((L2.length:Int))).bind fun v143=>(bif ((n:Int)==(w64 ((n:Int)+1))) then some L2 else (cut L2 0 (n:Int)).bind fun v146=>(cut L2 ((w64 ((n:Int)+1))) (L2.length:Int)).bind fun v148=>(shft L2 (n:Int) ((w64 ((n:Int)+1)))).bind fun v150=>(V4a v150 (((((Int.toNat (n:Int))+(L2.length - (Int.toNat ((w64 ((n:Int)+1)))))):Nat):Int)) ((L2.length:Int))).bind fun v152=>some ((List.take ((Int.toNat (n:Int))+(L2.length - (Int.toNat ((w64 ((n:Int)+1)))))) ((clr0 v150 (Int.toNat (((((Int.toNat (n:Int))+(L2.length - (Int.toNat ((w64 ((n:Int)+1)))))):Nat):Int))) ((zba.mk 0 ((ksa.mk ((zCa.mk (([]:Str)) ([]) (([]:Str)))) ((zua.mk ([]) ([]))))) 0 0 0 ([])))))))):Option (List zba)).bind fun (j142:List zba)=>some j142 else some L2):Option (List zba))=some (if Zda x then L2 else L2.take n++L2.drop (n+1)):=by
 rw[zqa hx];simp only[Option.bind_some];rw[Zna x hxl,qYb hg];simp only[Option.bind_some];cases Zda x with
 | true=>rfl
 | false=>
  simp only[Bool.not_false,cond_true,Bool.false_eq_true,if_false];rw[delAt_eq L2 n _ hn hl];rfl
theorem k6b(rs:List Int)(P:Int->Bool)(hl:rs.length<=1048576){body:Int->Option (Step Int (Unit ⊕ Int))}(hout:body (rs.length:Int)=some (.out (.inl ())))(hb:∀(i:Nat) (v:Int),rs[i]? =some v->body (i:Int)=some (if P v then .out (.inr (i:Int)) else .cont ((i+1:Nat):Int))):
 ∃z:Int,((iter body 0).bind (Sum.elim (fun _=>some ((-1))) (fun b=>some b)):Option Int)=some z/\decide (0<=z)=rs.any P:=by
 refine ⟨_,?_,wrb P rs⟩;rw[zNa rs (fun i x=>if P x then some ((i:Nat):Int) else none) (.inl ()) .inr]
 .simp only[Option.bind_some,Qua]
 .exact hout
 intro i x hx;rw[hb i x hx];cases P x <;> rfl
theorem any_bad(rs:List Int)(hl:rs.length<=1048576):∃z:Int,((iter (wDa rs) 0).bind (Sum.elim (fun _=>some ((-1))) (fun b=>some b)):Option Int)=some z/\decide (0<=z)=rs.any badR:=
 k6b rs badR hl (by unfold wDa;rw[zAa];rfl) (fun i v hv=>by
  have:=zBa hv;unfold wDa;rw[zPa hv,zqa hv];simp only[cond_true,Option.bind_some,badB,sc i (by omega)];cases badR v <;> rfl)
theorem any_late(rs:List Int)(hl:rs.length<=1048576):∃z:Int,((iter (wEa rs) 0).bind (Sum.elim (fun _=>some ((-1))) (fun b=>some b)):Option Int)=some z/\decide (0<=z)=rs.any latR:=
 k6b rs latR hl (by unfold wEa;rw[zAa];rfl) (fun i v hv=>by
  have:=zBa hv;unfold wEa;rw[zPa hv,zqa hv];simp only[cond_true,Option.bind_some,latB,sc i (by omega)];cases latR v <;> rfl)
theorem k7b(e:zba)(rs:List Int)(now:Int):(kYa e rs now).Id=e.Id:=by unfold kYa;split <;> rfl
theorem YKa(e:zba)(rs:List Int)(now:Int):(kYa e rs now).Mail=e.Mail:=by unfold kYa;split <;> rfl
theorem VNa(e:zba)(rs:List Int)(now:Int):wTo (kYa e rs now) e.To=kYa e rs now:=by unfold kYa;split <;> rfl
theorem Jza(e:zba)(a:zka)(rs:List Int)(now:Int):(resP e a rs now).2.length=e.To.length:=by
 unfold resP;have:∀(l:List (Int × Int)) (s:List zja × List zda),(l.foldl (resS (jsa e rs now) a.Entry) s).2.length=s.2.length:=by
  intro l;induction l with
  | nil=>intro s;rfl
  | cons kv l ih=>intro s;rw[List.foldl_cons,ih];exact Jya _ _ _
 rw[this]
theorem zip_bad{ks rs:List Int}(h:∀v∈rs,badR v=false):∀kv∈ks.zip rs,badR kv.2=false:=fun kv hkv=>h kv.2 (List.of_mem_zip hkv).2
theorem QJa(q:zna)(a:zka)(rs:List Int)(now:Int)(hq:vLa q)(hw:ZUa q)(hl:a.To.length<=1048576)(hrs:rs.length<=1048576):yHa q a rs now=some (zvb q a rs now):=by
 unfold yHa zvb;rw[Zoa q a true hq hw hl];simp only[Option.bind_some,kja,zWa,kwa,wIa];by_cases hc:(queF q).Code=0
 .obtain ⟨ok,hF⟩:=Zca hc;have h1:((queF q).Code !=0)=false:=by simp[hc]
  have hn:=ok.n;rw[h1];simp only[Bool.false_eq_true,if_false];by_cases hca:(attP q a true).2.Code=0
  .obtain ⟨n,e,ha,he,hid,ht,t1,t2⟩:=Wxa hca;have hne:=zBa he;have hem:=List.mem_of_getElem? he;obtain ⟨o1,o2,o3,o4,o5⟩:=ok.ent e hem;rw[ha];simp only[bne_self_eq_false,cond_false,Bool.false_eq_true,if_false,Int.toNat_natCast,he,Option.getD_some];by_cases hlen:rs.length=a.To.length
   .rw[show ((rs.length:Int) !=(a.To.length:Int))=false by rw[hlen];simp,if_neg (fun h=>h hlen)];simp only[cond_false];obtain ⟨z,hz,hzd⟩:=any_bad rs hrs;rw[hz];simp only[Option.bind_some,hzd];cases hbad:rs.any badR with
    | true=>rfl
    | false=>
     simp only[cond_false,Bool.false_eq_true,if_false];show (bif !ypa now then _ else _)=_;cases htm:ypa now with
     | false=>rfl
     | true=>
      simp only[Bool.not_true,cond_false,Bool.false_eq_true,if_false,zqa he,Option.bind_some];by_cases hsi:now < e.Since
      .rw[decide_eq_true hsi,if_pos hsi];rfl
      rw[decide_eq_false hsi,if_neg hsi];simp only[cond_false];rw[qha _ (by omega)];simp only[Option.bind_some];rw[show iter (j6a q.Entries) (0,0,q.Entries)=some (q.Entries,q.Entries.length) from QFa q.Entries (yJa hq ok)];simp only[Option.bind_some,zqa he];have hbads:∀v∈rs,badR v=false:=fun v hv=>by rw[List.any_eq_false]at hbad;simpa using hbad v hv
      have hg:Wya (wTo (kYa e rs now) (resP e a rs now).2).To (wTo (kYa e rs now) (resP e a rs now).2).Mail.Envelope.To:=by
       show Wya (resP e a rs now).2 (kYa e rs now).Mail.Envelope.To;rw[YKa];exact YJa _ _ (zip_bad hbads) (QIa o5).1
      have hto:=(hw e hem).1;have htail:=wsb (L2:=q.Entries.set n (wTo (kYa e rs now) (resP e a rs now).2)) (n:=n) (x:=wTo (kYa e rs now) (resP e a rs now).2) (by simpa using hne) (by simp;omega) (by simp[hne]) (by show (resP e a rs now).2.length<=_;rw[Jza];omega) hg;have hfil:=qZb (L:=q.Entries) (x:=wTo (kYa e rs now) (resP e a rs now).2) hne (fun y hy=>(QIa (ok.ent y hy).2.2.2.2).2);have hfil2:(if Zda (wTo (kYa e rs now) (resP e a rs now).2) then q.Entries.set n (wTo (kYa e rs now) (resP e a rs now).2) else (q.Entries.set n (wTo (kYa e rs now) (resP e a rs now).2)).take n++(q.Entries.set n (wTo (kYa e rs now) (resP e a rs now).2)).drop (n+1))=(q.Entries.set n (wTo (kYa e rs now) (resP e a rs now).2)).filter Zda:=by
       rw[hfil];split
       .rfl
       rw[zxb _ hne];have hln:(q.Entries.take n).length=n:=by simp;omega
       rw[List.take_append_of_le_length (by omega),List.take_of_length_le (by omega),List.drop_append,hln,List.drop_of_length_le (by omega)];simp
      rw[hfil2]at htail;simp only[Int.toNat_natCast]at htail;obtain ⟨y,hy,hyd⟩:=any_late rs hrs;rw[hy];simp only[Option.bind_some,hyd];have hrng:=o4;unfold rngQ at hrng;simp only[Bool.and_eq_true,decide_eq_true_eq]at hrng;have htr:1<=k2a e/\k2a e<=1000000:=by unfold k2a;omega
      have hid1:(kYa e rs now).Id=a.Entry:=by rw[k7b,hid]
      cases hlat:rs.any latR with
      | false=>
       simp only[cond_false,Option.bind_some];have hs:kYa e rs now=e:=by unfold kYa;rw[hlat];rfl
       have hlp:=QHa (a:=a) (rs:=rs) (f:=⟨0,0⟩) (L:=q.Entries) (n:=n) (e:=e) (e1:=kYa e rs now) (again:=jsa e rs now) (j3:=((n:Int),0,0)) (j60:=(true,q.Entries)) (j63:=(0,[])) (b:=(q.Entries,q.Entries.length)) (m:=0) hne hne hl hlen hbads hid1 rfl (fun h=>by rw[hlat]at h;cases h) (fun h=>by rw[hlat]at h;cases h) (.inl rfl) a.To [] rs [] (-1) [] e.To rfl rfl rfl (by omega) ht rfl (fun j _=>rfl) (Nat.le_refl _);have hs0:q.Entries.set n (kYa e rs now)=q.Entries:=by rw[hs,QCa he]
       rw[VNa,hs0]at hlp;rw[show iter (q0a a rs ((n:Int),⟨0,0⟩) (q.Entries,q.Entries.length) (true,q.Entries)) (0,([]:List zja),q.Entries)=some ((resP e a rs now).1,q.Entries.set n (wTo (kYa e rs now) (resP e a rs now).2)) from hlp];simp only[Option.bind_some];rw[htail];rfl
      | true=>
       have hw64:w64 (e.Tries+1)=e.Tries+1:=qGa (by omega) (by omega);simp only[cond_true,Option.bind_some,wXa hne,hw64,Int.toNat_natCast,List.set_set];rw[show min (e.Tries+1) 1000000=k2a e from rfl];rw[Jwa e.Since (k2a e) now hrng.1.1.1 htm htr (by omega)];simp only[Option.bind_some];have hag:jsa e rs now=(vMa e.Since (k2a e) now).2:=by unfold jsa;rw[hlat];rfl
       have hj:∀X:List zba,X=q.Entries.set n (kYa e rs now)->iter (q0a a rs ((n:Int),⟨0,0⟩) (q.Entries,q.Entries.length) ((vMa e.Since (k2a e) now).2,X)) (0,([]:List zja),X)=some ((resP e a rs now).1,q.Entries.set n (wTo (kYa e rs now) (resP e a rs now).2)):=by
        rintro X rfl;have hlp:=QHa (a:=a) (rs:=rs) (f:=⟨0,0⟩) (L:=q.Entries) (n:=n) (e:=e) (e1:=kYa e rs now) (again:=jsa e rs now) (j3:=((n:Int),0,0)) (j60:=((vMa e.Since (k2a e) now).2,q.Entries.set n (kYa e rs now))) (j63:=(if jsa e rs now then 0 else 3,[])) (b:=(q.Entries,q.Entries.length)) (m:=0) hne hne hl hlen hbads hid1 rfl (fun h=>hag.symm) (fun h=>rfl) (.inl rfl) a.To [] rs [] (-1) [] e.To rfl rfl rfl (by omega) ht rfl (fun j _=>rfl) (Nat.le_refl _);rw[VNa]at hlp;exact hlp
       have hlate:kYa e rs now=⟨e.Id,e.Mail,e.Since,k2a e,if (vMa e.Since (k2a e) now).2 then max (vMa e.Since (k2a e) now).1 e.Due else e.Due,e.To⟩:=by unfold kYa;rw[hlat];rfl
       cases hg2:(vMa e.Since (k2a e) now).2 with
       | true=>
        rw[hg2]at hj hlate;simp only[cond_true,Option.bind_some,wXa hne,List.set_set,Int.toNat_natCast];rw[hj _ (by rw[hlate];rfl)];simp only[Option.bind_some];rw[htail];rfl
       | false=>
        rw[hg2]at hj hlate;simp only[cond_false,Option.bind_some];rw[hj _ (by rw[hlate];rfl)];simp only[Option.bind_some];rw[htail];rfl
   rw[show ((rs.length:Int) !=(a.To.length:Int))=true by simp;omega,if_pos hlen];rfl
  have h2:((attP q a true).2.Code !=0)=true:=by simpa using hca
  rw[h2];rfl
 have h1:((queF q).Code !=0)=true:=by simpa using hc
 rw[h1];simp only[if_true,h1,cond_true]
theorem ZVa(rs:List Int)(fl:Bool)(c d:Int)(hc:(c==0)=false):iter (kua rs) (fl,0,c,d)=some (fl,c,d):=by
 refine zEa ?_;unfold kua;dsimp only;rw[hc];cases decide ((0:Int) < (rs.length:Int)) <;> rfl
theorem W2a(q:zna)(a:zka)(rs:List Int)(now:Int)(hq:vLa q)(hw:ZUa q)(hl:a.To.length<=1048576)(hrs:rs.length<=1048576):y5a q a rs now=some (zvb q a rs now):=by
 unfold y5a zvb;rw[yqa q hq];simp only[Option.bind_some,wVa,QEa];by_cases hc:(queF q).Code=0
 .obtain ⟨ok,hF⟩:=Zca hc;have h1:((queF q).Code !=0)=false:=by simp[hc]
  have h2:((queF q).Code==0)=true:=by simp[hc]
  have hn:=ok.n;rw[h1,h2];simp only[cond_true,Bool.false_eq_true,if_false];rw[jqa q a true ok hw hl];simp only[Option.bind_some];by_cases hca:(attP q a true).2.Code=0
  .obtain ⟨n,e,ha,he,hid,ht,t1,t2⟩:=Wxa hca;have hne:=zBa he;have hem:=List.mem_of_getElem? he;obtain ⟨o1,o2,o3,o4,o5⟩:=ok.ent e hem;rw[ha];simp only[beq_self_eq_true,bne_self_eq_false,cond_true,cond_false,Bool.false_eq_true,if_false,Int.toNat_natCast,he,Option.getD_some,Option.bind_some];by_cases hlen:rs.length=a.To.length
   .rw[show ((rs.length:Int) !=(a.To.length:Int))=false by rw[hlen];simp,if_neg (fun h=>h hlen)];simp only[cond_false,Option.bind_some];obtain ⟨fl,hfl,hfl2⟩:=zyb rs hrs rs [] false rfl;rw[show iter (kua rs) (false,0,0,0)=_ from hfl];simp only[Option.bind_some];cases hbad:rs.any badR with
    | true=>rfl
    | false=>
     have hflv:fl=rs.any latR:=by rw[hfl2 hbad];simp
     simp only[Bool.false_eq_true,if_false,beq_self_eq_true,cond_true,Option.bind_some];cases htm:ypa now with
     | false=>rfl
     | true=>
      simp only[Bool.not_true,cond_false,Bool.false_eq_true,if_false,beq_self_eq_true,cond_true,zqa he,Option.bind_some];by_cases hsi:now < e.Since
      .rw[decide_eq_true hsi,if_pos hsi];rfl
      rw[decide_eq_false hsi,if_neg hsi];simp only[cond_false,Option.bind_some,bne_self_eq_false];rw[show iter (jAa q) (0,0,([]:List zba))=some (q.Entries,q.Entries.length) from Vaa q (yJa hq ok)];simp only[Option.bind_some,zqa he];have hbads:∀v∈rs,badR v=false:=fun v hv=>by rw[List.any_eq_false]at hbad;simpa using hbad v hv
      have hto:=(hw e hem).1;have hfil:∀o:List zja,iter (qua (o,q.Entries.set n (wTo (kYa e rs now) (resP e a rs now).2))) (0,([]:List zba))=some ((q.Entries.set n (wTo (kYa e rs now) (resP e a rs now).2)).filter Zda):=fun o=>kyb o _ (by simp;omega) (fun y hy=>by
       rcases List.mem_or_eq_of_mem_set hy with hy | rfl
       .exact (hq.2 y hy).2
       show (resP e a rs now).2.length<=_;rw[Jza];omega)
      have hrng:=o4;unfold rngQ at hrng;simp only[Bool.and_eq_true,decide_eq_true_eq]at hrng;have htr:1<=k2a e/\k2a e<=1000000:=by unfold k2a;omega
      have hid1:(kYa e rs now).Id=a.Entry:=by rw[k7b,hid]
      rw[hflv];cases hlat:rs.any latR with
      | false=>
       simp only[cond_false,Option.bind_some];have hs:kYa e rs now=e:=by unfold kYa;rw[hlat];rfl
       have hlp:=QHa (a:=a) (rs:=rs) (f:=⟨0,0⟩) (L:=q.Entries) (n:=n) (e:=e) (e1:=kYa e rs now) (again:=jsa e rs now) (j3:=((n:Int),0,0)) (j60:=(true,q.Entries)) (j63:=(3,q.Entries)) (b:=(q.Entries,q.Entries.length)) (m:=0) hne hne hl hlen hbads hid1 rfl (fun h=>by rw[hlat]at h;cases h) (fun h=>by rw[hlat]at h;cases h) (.inr rfl) a.To [] rs [] (-1) [] e.To rfl rfl rfl (by omega) ht rfl (fun j _=>rfl) (Nat.le_refl _);have hs0:q.Entries.set n (kYa e rs now)=q.Entries:=by rw[hs,QCa he]
       rw[VNa,hs0]at hlp;rw[show iter (qta a rs ((n:Int),0,0) (q.Entries,q.Entries.length) (3,q.Entries)) (0,([]:List zja),q.Entries)=some ((resP e a rs now).1,q.Entries.set n (wTo (kYa e rs now) (resP e a rs now).2)) from hlp];simp only[Option.bind_some,hfil];rfl
      | true=>
       have hw64:w64 (e.Tries+1)=e.Tries+1:=qGa (by omega) (by omega);have htp:((bif decide (1000000 < e.Tries+1) then some 1000000 else some (e.Tries+1)):Option Int)=some (k2a e):=by
        unfold k2a;by_cases h:1000000 < e.Tries+1
        .rw[decide_eq_true h,Int.min_eq_right (by omega)];rfl
        rw[decide_eq_false h,Int.min_eq_left (by omega)];rfl
       simp only[cond_true,Option.bind_some,hw64,htp];rw[qWb e.Since (k2a e) now hrng.1.1.1 htm htr (by omega)];simp only[Option.bind_some];have hag:jsa e rs now=(vMa e.Since (k2a e) now).2:=by unfold jsa;rw[hlat];rfl
       have hj:∀X:List zba,X=q.Entries.set n (kYa e rs now)->iter (qta a rs ((n:Int),0,0) (q.Entries,q.Entries.length) ((if (vMa e.Since (k2a e) now).2 then 0 else 3),X)) (0,([]:List zja),X)=some ((resP e a rs now).1,q.Entries.set n (wTo (kYa e rs now) (resP e a rs now).2)):=by
        rintro X rfl;have hlp:=QHa (a:=a) (rs:=rs) (f:=⟨0,0⟩) (L:=q.Entries) (n:=n) (e:=e) (e1:=kYa e rs now) (again:=jsa e rs now) (j3:=((n:Int),0,0)) (j60:=(jsa e rs now,[])) (j63:=(if (vMa e.Since (k2a e) now).2 then 0 else 3,q.Entries.set n (kYa e rs now))) (b:=(q.Entries,q.Entries.length)) (m:=0) hne hne hl hlen hbads hid1 rfl (fun h=>rfl) (fun h=>by rw[hag]) (.inr rfl) a.To [] rs [] (-1) [] e.To rfl rfl rfl (by omega) ht rfl (fun j _=>rfl) (Nat.le_refl _);rw[VNa]at hlp;exact hlp
       have hlate:kYa e rs now=⟨e.Id,e.Mail,e.Since,k2a e,if (vMa e.Since (k2a e) now).2 then max (vMa e.Since (k2a e) now).1 e.Due else e.Due,e.To⟩:=by unfold kYa;rw[hlat];rfl
       cases hg2:(vMa e.Since (k2a e) now).2 with
       | true=>
        rw[hg2]at hj hlate;simp only[cond_true,Option.bind_some,if_true]at hj hlate ⊢;by_cases hdue:e.Due < (vMa e.Since (k2a e) now).1
        .rw[decide_eq_true hdue];simp only[cond_true,Option.bind_some,wXa hne,List.set_set,Int.toNat_natCast];rw[hj _ (by rw[hlate,Int.max_eq_left (by omega)])];simp only[Option.bind_some,hfil];rfl
        rw[decide_eq_false hdue];simp only[cond_false,Option.bind_some,Int.toNat_natCast];rw[hj _ (by rw[hlate,Int.max_eq_right (by omega)])];simp only[Option.bind_some,hfil];rfl
       | false=>
        rw[hg2]at hj hlate;simp only[cond_false,Option.bind_some,Bool.false_eq_true,if_false]at hj hlate ⊢;rw[hj _ (by rw[hlate])];simp only[Option.bind_some,hfil];rfl
   rw[show ((rs.length:Int) !=(a.To.length:Int))=true by simp;omega,if_pos hlen];simp only[cond_true,Option.bind_some];rw[ZVa rs false 9 (-6) rfl];rfl
  have h3:((attP q a true).2.Code !=0)=true:=by simpa using hca
  have h4:((attP q a true).2.Code==0)=false:=by simpa using hca
  rw[h3,h4];simp only[cond_false,Option.bind_some];rw[ZVa rs false _ _ h4];simp only[Option.bind_some,h4,cond_false,h3,cond_true,if_true]
 have h1:((queF q).Code !=0)=true:=by simpa using hc
 have h2:((queF q).Code==0)=false:=by simpa using hc
 rw[h1,h2];simp only[cond_false,Option.bind_some,h2];rw[ZVa rs false _ _ h2];simp only[Option.bind_some,h2,cond_false,h1,cond_true,if_true]
theorem yfa{q:zna}(h:zna.bk q<=1048576):vLa q/\ZUa q:=by
 have h0:zna.bk q=bkL zba.bk q.Entries+1+1:=rfl;have h1:=KTa (bk:=zba.bk) (fun x=>by unfold zba.bk;omega) q.Entries;have key:∀e∈q.Entries,KWa e.Mail/\jba e.To:=fun e he=>by
  have h2:=Jla (bk:=zba.bk) he;have h3:zba.bk e=1+ksa.bk e.Mail+1+1+1+bkL zda.bk e.To+1:=rfl;have h4:=KTa (bk:=zda.bk) (fun x=>by unfold zda.bk;omega) e.To;refine ⟨YFa (by omega),by omega,fun w hw=>?_⟩;have h5:=Jla (bk:=zda.bk) hw;have h6:zda.bk w=(w.Recipient.Address.length+1+1+1)+1+1+1:=rfl;omega
 exact ⟨⟨by omega,fun e he=>⟨(key e he).1,(key e he).2.1⟩⟩,fun e he=>(key e he).2⟩
theorem q1b(l:List Int)(h:l.length<=1048576):Yta l l=some true:=by
 unfold Yta;simp only[bne_self_eq_false,cond_false];rw[zNa l (fun _ _=>(none:Option Bool)) (.inl ()) .inr]
 .rw[qva.2 (fun _ _ _=>rfl)];rfl
 .unfold Qma;rw[zAa];rfl
 intro k w hw;have hk:=zBa hw;unfold Qma;rw[zPa hw,zqa hw];simp only[cond_true,Option.bind_some,bne_self_eq_false,cond_false,sc k (by omega)];rfl
theorem yxa(l:List zja)(h:l.length<=1048576):vxa l l=some true:=by
 unfold vxa;simp only[bne_self_eq_false,cond_false];rw[zNa l (fun _ _=>(none:Option Bool)) (.inl ()) .inr]
 .rw[qva.2 (fun _ _ _=>rfl)];rfl
 .unfold vja;rw[zAa];rfl
 intro k w hw;have hk:=zBa hw;unfold vja;rw[zPa hw,zqa hw];simp only[cond_true,Option.bind_some,beq_self_eq_true,sc k (by omega)];rfl
theorem wtb(l:List Str)(hl:l.length<=1048576):Qna l=some ⟨⟨[115,64,120],l.map (fun s=>⟨s,1⟩),[55]⟩,⟨[],[]⟩⟩:=by
 unfold Qna;have:=(Qsa l (fun i (s:List zca)=>(i,s)) (fun s x=>s++ [(⟨x,1⟩:zca)]) id (fun i s=>s.length<=i) (body:=y0a l)
  (fun s _=>by unfold y0a;simp[zAa]) (fun i x s hx hi=>by
   have hlt:=zBa hx;refine ⟨?_,by simp;omega⟩;unfold y0a;dsimp only;rw[zPa hx,zqa hx];simp only[cond_true,Option.bind_some,sc i (by omega)];rw[vka (by simp;omega)];rfl) [] (by simp)).1
 rw[this,k2b];rfl
def exM:ksa:=⟨⟨[115,64,120],[⟨[97,64,121],1⟩,⟨[98,64,121],1⟩,⟨[99,64,122],1⟩],[55]⟩,⟨[],[]⟩⟩
def exQ:zna:=⟨[⟨0,exM,0,0,0,[⟨⟨[97,64,121],1⟩,0,false⟩,⟨⟨[98,64,121],1⟩,0,false⟩,⟨⟨[99,64,122],1⟩,0,false⟩]⟩],1⟩
def exQ2:zna:=⟨[⟨0,exM,0,0,0,[⟨⟨[97,64,121],1⟩,0,true⟩,⟨⟨[98,64,121],1⟩,0,true⟩,⟨⟨[99,64,122],1⟩,0,false⟩]⟩],1⟩
def exQ3:zna:=⟨[⟨0,exM,0,1,70,[⟨⟨[97,64,121],1⟩,1,false⟩,⟨⟨[98,64,121],1⟩,0,false⟩,⟨⟨[99,64,122],1⟩,0,false⟩]⟩],1⟩
def exA:zka:=⟨0,[121],[0,1]⟩
theorem ex_add:addP ⟨[],0⟩ exM 0=(exQ,0,⟨0,0⟩):=by rfl
theorem ex_ready:wnb exQ 0=([exA,⟨0,[122],[2]⟩],⟨0,0⟩):=by rfl
theorem ex_take:kub exQ exA=(exQ2,⟨0,0⟩):=by rfl
theorem ex_done:zvb exQ2 exA [1,2] 10=(exQ3,[⟨0,0,1⟩],⟨0,0⟩):=by rfl
theorem kzb:Qra=some exQ:=by
 unfold Qra;rw[wtb _ (by decide)];simp only[Option.bind_some];rw[show (ksa.mk ⟨[115,64,120],([[97,64,121],[98,64,121],[99,64,122]]:List Str).map (fun s=>(⟨s,1⟩:zca)),[55]⟩ ⟨[],[]⟩)=exM from rfl];rw[zlb _ _ _ (yfa (by decide)).1 (YFa (by decide)),ex_add];rfl
theorem W3a:ZMa=some true:=by
 unfold ZMa;rw[kzb];simp only[Option.bind_some];rw[W1a _ _ (yfa (q:=exQ) (by decide)).1 (yfa (q:=exQ) (by decide)).2,ex_ready];simp only[Option.bind_some];rw[show (idx ([exA,⟨0,[122],[2]⟩]:List zka) 0)=some exA from rfl];simp only[Option.bind_some];rw[QGa _ _ (yfa (q:=exQ) (by decide)).1 (yfa (q:=exQ) (by decide)).2 (by decide),ex_take];simp only[Option.bind_some];rw[QJa _ _ _ _ (yfa (q:=exQ2) (by decide)).1 (yfa (q:=exQ2) (by decide)).2 (by decide) (by decide),ex_done];simp only[Option.bind_some];rw[show Yta exA.To [0,1]=some true from q1b [0,1] (by decide)];rfl
theorem kSa:vLa ⟨[],0⟩:=⟨by simp,fun e he=>by cases he⟩
theorem Wza(q:zna)(a:zka)(hq:vLa q):vLa (kub q a).1:=by
 unfold kub;split
 .exact kSa
 split
 .exact kSa
 split
 .exact kSa
 show vLa ⟨zsb _ _ _,_⟩;unfold zsb;split
 .rename_i e he;refine ⟨by simp;exact hq.1,fun y hy=>?_⟩;rcases List.mem_or_eq_of_mem_set hy with hy | rfl
  .exact hq.2 y hy
  have hm:=hq.2 e (List.mem_of_getElem? he);refine ⟨hm.1,?_⟩;show (a.To.foldl onK e.To).length<=_;have:∀(l:List Int) (T:List zda),(l.foldl onK T).length=T.length:=by
   intro l;induction l with
   | nil=>intro T;rfl
   | cons k l ih=>intro T;rw[List.foldl_cons,ih,wpb]
  rw[this];exact hm.2
 exact hq
theorem zzb(again:Bool)(id:Int):∀(l:List (Int × Int)) (s:List zja × List zda),(l.foldl (resS again id) s).1.length<=s.1.length+l.length
 | [],s=>by simp
 | kv::l,s=>by
  rw[List.foldl_cons];have:=zzb again id l (resS again id s kv);have h2:(resS again id s kv).1.length<=s.1.length+1:=by unfold resS;dsimp only;split <;> simp
  simp only[List.length_cons];omega
theorem kAb(q:zna)(a:zka)(rs:List Int)(now:Int)(hq:vLa q)(hl:a.To.length<=1048576):vLa (zvb q a rs now).1/\(zvb q a rs now).2.1.length<=1048576:=by
 unfold zvb;split
 .exact ⟨kSa,by simp⟩
 split
 .exact ⟨kSa,by simp⟩
 rename_i h1 h2;obtain ⟨n,e,ha,he,_⟩:=Wxa (q:=q) (a:=a) (on:=true) (by simpa using h2);split
 .exact ⟨kSa,by simp⟩
 split
 .exact ⟨kSa,by simp⟩
 split
 .exact ⟨kSa,by simp⟩
 split
 .exact ⟨kSa,by simp⟩
 rw[ha];simp only[Int.toNat_natCast,he,Option.getD_some];unfold endP;have hm:=hq.2 e (List.mem_of_getElem? he);refine ⟨⟨?_,fun y hy=>?_⟩,?_⟩
 .have:=List.length_filter_le Zda (q.Entries.set n (wTo (kYa e rs now) (resP e a rs now).2));rw[List.length_set]at this;exact Nat.le_trans this hq.1
 .rcases List.mem_or_eq_of_mem_set (List.mem_filter.1 hy).1 with hy | rfl
  .exact hq.2 y hy
  refine ⟨?_,?_⟩
  .show KWa (kYa e rs now).Mail;rw[YKa];exact hm.1
  show (resP e a rs now).2.length<=_;rw[Jza];exact hm.2
 have h3:=zzb (jsa e rs now) a.Entry (a.To.zip rs) ([],e.To);have h4:(a.To.zip rs).length<=a.To.length:=by rw[List.length_zip];omega
 show ((a.To.zip rs).foldl (resS (jsa e rs now) a.Entry) ([],e.To)).1.length<=_;simp only[List.length_nil]at h3;omega
theorem kBb(q:zna)(hq:vLa q):vLa (kwb q):=by
 refine ⟨by unfold kwb;simp;exact hq.1,fun y hy=>?_⟩;obtain ⟨e,he,rfl⟩:=List.mem_map.1 hy;have hm:=hq.2 e he;refine ⟨hm.1,?_⟩;show (e.To.map offW).length<=_;rw[List.length_map];exact hm.2
theorem yga(a0:zna)(a1:zka)(a2:List Int)(a3:Int)(o0:zna.ok a0)(o1:zka.ok a1)(o2:okL ok64 a2)(o3:ok64 a3)(hk:zna.bk a0+zka.bk a1+bkL (fun _=>1) a2+1<=1048576):kHa a0 a1 a2 a3=some true:=by
 obtain ⟨hq,hw⟩:=yfa (q:=a0) (by omega);have h1:zka.bk a1=1+(a1.Domain.length+1)+bkL (fun _=>1) a1.To+1:=rfl;have h2:=KTa (bk:=fun _:Int=>1) (fun x=>by simp) a1.To;have h3:=KTa (bk:=fun _:Int=>1) (fun x=>by simp) a2;have hl:a1.To.length<=1048576:=by omega
 obtain ⟨d1,d2⟩:=kAb a0 a1 a2 a3 hq hl;unfold kHa;rw[QGa a0 a1 hq hw hl,kvb a0 a1 hq hw hl,QJa a0 a1 a2 a3 hq hw hl (by omega),W2a a0 a1 a2 a3 hq hw hl (by omega),Jxa a0 hq,yqa a0 hq,W3a];simp only[Option.bind_some,cond_true];by_cases hc:(queF a0).Code=0
 .obtain ⟨ok,hF⟩:=Zca hc;have e1:((queF a0).Code !=0)=false:=by simp[hc]
  rw[e1,kxb a0 hq ok,hF];simp only[beq_self_eq_true,cond_true,Option.bind_some,Bool.false_eq_true,if_false];rw[kVa _ (Wza a0 a1 hq),kVa _ d1,yxa _ d2];simp only[Option.bind_some];rw[show (zna.mk (kwb a0).Entries (kwb a0).Next)=kwb a0 from rfl,kVa _ (kBb a0 hq)];rfl
 have e1:((queF a0).Code !=0)=true:=by simpa using hc
 have e2:((queF a0).Code==0)=false:=by simpa using hc
 rw[e1,e2];simp only[beq_self_eq_true,cond_true,cond_false,Option.bind_some,if_true];rw[kVa _ (Wza a0 a1 hq),kVa _ d1,yxa _ d2];simp only[Option.bind_some];rw[kVa _ kSa];rfl
theorem zAb(a0:List Str)(r:ksa)(hr:Qna a0=some r):Run prog 72 [.l cS a0] (.agg [.s r.Envelope.From,.l zca.pc r.Envelope.To,.s r.Envelope.Id,.l zha.pc r.Message.Fields,.l cU r.Message.Body]):=by
 unfold Qna at hr;refine rf (fn:=f72) ⟨func72,rfl,by kernel_rfl⟩ rfl (fun _=>rfl) fun g0 hg=>?_
 refine rn tk 10 rfl ?_;refine KLa 1003 (o:=3) (j:=1) 61 2 rfl rfl rfl rfl (hO ?_);refine rn tk 1 rfl ?_;refine KLa 2003 (o:=3) (j:=1) 61 2 rfl rfl rfl rfl (hO ?_);refine rn tk 9 rfl<|al1 hr (fun s1=>[(0,.l cS a0),(2,.ptr 2 0),(3,.ptr 3 0),(4,.i s1.1)]) (fun s1=>[(2003,.row 61 false 2 (List.map zca.pc s1.2)),(3,.cells [.s (([115,64,120]:Str)),.hs 2003 0,.s (([55]:Str)),.l zha.pc ([]),.l cU ([])]),(2,.cells [.s (([]:Str)),.l zca.pc ([]),.s (([]:Str)),.l zha.pc ([]),.l cU ([])])]) (.exit 0) (fun b2=>[(2,.ptr 2 0),(3,.ptr 3 0)]) (fun b2=>[(2003,.row 61 false 2 (List.map zca.pc b2)),(3,.cells [.s (([115,64,120]:Str)),.hs 2003 0,.s (([55]:Str)),.l zha.pc ([]),.l cU ([])]),(2,.cells [.s (([]:Str)),.l zca.pc ([]),.s (([]:Str)),.l zha.pc ([]),.l cU ([])])]) rfl rfl (fun s1 x3 hr=>?_) (fun b2 hr=>?_)
 .unfold y0a at hr;refine rn tk 5 rfl<|wn tk rfl rfl rfl<|rn tk 3 rfl<|ac 10 hr rfl (fun c4 hr=>?_) (fun c4 hr=>?_)
  .refine rn tk 4 rfl ?_;obtain ⟨v5,h6,hr⟩:=zaa hr;refine dr 9 [(21,.l zca.pc (([(zca.mk v5 1)]:List zca))),(20,.agg [.s v5,.i 1]),(19,.s v5),(18,.ep [pS v5]),(17,.i s1.1),(16,.l cS a0),(15,.hs 2003 0),(14,.ptr 3 1),(13,.ptr 3 0)] mixed (by kernel_rfl) rfl rfl (pq tk rfl (.plain rfl) (pq tk rfl (.plain rfl) (pq tk rfl (.plain rfl) (pq tk rfl (.plain rfl) (pq tk rfl (.plain rfl) (.run (.plain rfl) (zva (qFa (f:=cS) rfl rfl Wda zIa rfl h6)) (pq tk rfl (.plain rfl) (pq tk rfl (.plain rfl) (.run (.plain rfl) (jya (F:=zca.pc) (l:=([(zca.mk v5 1)]:List zca)) zOa zJa rfl (fun _=>rfl) rfl rfl) .nil))))))))) rfl ?_;obtain ⟨v7,h8,hr⟩:=zaa hr;refine wa tk h8 rfl rfl rfl rfl (fun _=>rfl) rfl rfl<|rn tk 11 rfl ?_;cases hr;exact atc rfl rfl
  refine rn tk 2 rfl ?_;cases hr;exact ato rfl rfl rfl rfl
 refine rn tk 8 rfl ?_;refine jia (o:=2) (j:=1) (F:=zca.pc) (l:=b2) rfl rfl rfl (hC ?_);refine rn tk 1 rfl ?_;cases hr;exact kr tk (.inr rfl) rfl rfl
theorem z1a(a0:zpa)(r:Bool)(hr:kba a0=some r):Run prog 27 [.agg [.i a0.Code,.i a0.Index]] (.bo r):=by
 unfold kba at hr;refine rf (fn:=Tryz.f27) ⟨func27,rfl,by kernel_rfl⟩ rfl (fun _=>rfl) fun g0 hg=>?_
 refine rn tk 15 rfl ?_;cases hr;exact kr tk (.inr rfl) rfl rfl
theorem zma(a0:Int)(a1:Int)(r:zpa)(hr:zra a0 a1=some r):Run prog 29 [.i a0,.i a1] (.agg [.i r.Code,.i r.Index]):=by
 unfold zra at hr;refine rf (fn:=Tryz.f29) ⟨func29,rfl,by kernel_rfl⟩ rfl (fun _=>rfl) fun g0 hg=>?_
 refine rn tk 14 rfl ?_;cases hr;exact kr tk (.inr rfl) rfl rfl
theorem zLa(r:zpa)(hr:kqa=some r):Run prog 33 [] (.agg [.i r.Code,.i r.Index]):=by
 unfold kqa at hr;refine rf (fn:=f33) ⟨func33,rfl,by kernel_rfl⟩ rfl (fun _=>rfl) fun g0 hg=>?_
 refine rn tk 12 rfl ?_;cases hr;exact kr tk (.inr rfl) rfl rfl
theorem vga(a0:Int)(r:Bool)(hr:qKa a0=some r):Run prog 30 [.i a0] (.bo r):=by
 unfold qKa at hr;refine QRa (fn:=f30) ⟨func30,rfl,by kernel_rfl⟩ rfl (fun _=>rfl) fun g0 hg=>?_
 refine woa ?_;refine k3a ?_;refine zUa rfl (zXa (d:=2) rfl rfl wra) ?_;refine vBa<|kna ?_;obtain ⟨j1,hx,hy⟩:=zaa hr;refine YWa (fun j1=>[(2,.bo j1)]) (fun j1=>[]) (fun z=>j1=z) ?_ ?_
 .have hr:=hx;clear hx hy;refine k3a ?_;refine zUa rfl (zXa (d:=3) rfl rfl wqa) ?_;refine zUa rfl (zXa (d:=4) rfl rfl (ev_geq rfl rfl)) ?_;refine zUa rfl (zXa (d:=5) rfl rfl wqa)<|vaa (decide ((-68719476736)<=a0)) (fun c2=>?_) (fun c2=>?_)
  .replace hr:=Zha c2 hr
   refine YRa (d:=5) rfl rfl rfl c2 (zXa (d:=6) rfl rfl wqa) ?_;refine YRa (d:=5) rfl rfl rfl c2 (zXa (d:=7) rfl rfl (ev_leq rfl rfl)) ?_;refine zUa rfl (zXa (d:=8) rfl rfl (zTa rfl c2)) ?_;refine zUa rfl (zXa (d:=2) rfl rfl wra) ?_;refine vBa ?_;cases hr;exact Vga _ rfl (zea rfl zRa) zDa
  replace hr:=Zia c2 hr
  refine YSa (d:=5) rfl rfl rfl c2 ?_;refine YSa (d:=5) rfl rfl rfl c2 ?_;refine zUa rfl (zXa (d:=8) rfl rfl (w1a rfl c2)) ?_;refine zUa rfl (zXa (d:=2) rfl rfl wra) ?_;refine vBa ?_;cases hr;exact Vga _ rfl (zea rfl zRa) zDa
 rintro _ rfl;have hr:=hy;clear hx hy;refine YOa ?_;cases hr;exact kret' rfl (.cons (YUa rfl) .nil) rfl
theorem Zpa(a0:UInt8)(r:Bool)(hr:wia a0=some r):Run prog 111 [.u8 a0] (.bo r):=by
 unfold wia at hr;refine rf (fn:=f111) ⟨func111,rfl,by kernel_rfl⟩ rfl (fun _=>rfl) fun g0 hg=>?_
 refine rn tk 5 rfl<|jb hr (fun j1=>[(2,.bo j1)]) (fun j1=>[]) (fun j1 hr=>?_) (fun j1 hr=>?_)
 .refine rn tk 4 rfl<|bs 5 hr rfl (fun c2 hr=>?_) (fun c2 hr=>?_)
  .refine rn tk 4 rfl<|bs 9 hr rfl (fun c3 hr=>?_) (fun c3 hr=>?_)
   .refine rn tk 17 rfl ?_;cases hr;exact jn _ rfl rfl rfl
   refine rn tk 3 rfl<|bs 12 hr rfl (fun c4 hr=>?_) (fun c4 hr=>?_)
   .refine rn tk 5 rfl<|bs 17 hr rfl (fun c5 hr=>?_) (fun c5 hr=>?_)
    .refine rn tk 9 rfl ?_;cases hr;exact jn _ rfl rfl rfl
    refine rn tk 3 rfl<|bs 20 hr rfl (fun c6 hr=>?_) (fun c6 hr=>?_)
    .refine rn tk 6 rfl ?_;cases hr;exact jn _ rfl rfl rfl
    refine rn tk 6 rfl ?_;cases hr;exact jn _ rfl rfl rfl
   refine rn tk 8 rfl<|bs 20 hr rfl (fun c7 hr=>?_) (fun c7 hr=>?_)
   .refine rn tk 6 rfl ?_;cases hr;exact jn _ rfl rfl rfl
   refine rn tk 6 rfl ?_;cases hr;exact jn _ rfl rfl rfl
  refine rn tk 7 rfl<|bs 12 hr rfl (fun c8 hr=>?_) (fun c8 hr=>?_)
  .refine rn tk 5 rfl<|bs 17 hr rfl (fun c9 hr=>?_) (fun c9 hr=>?_)
   .refine rn tk 9 rfl ?_;cases hr;exact jn _ rfl rfl rfl
   refine rn tk 3 rfl<|bs 20 hr rfl (fun c10 hr=>?_) (fun c10 hr=>?_)
   .refine rn tk 6 rfl ?_;cases hr;exact jn _ rfl rfl rfl
   refine rn tk 6 rfl ?_;cases hr;exact jn _ rfl rfl rfl
  refine rn tk 8 rfl<|bs 20 hr rfl (fun c11 hr=>?_) (fun c11 hr=>?_)
  .refine rn tk 6 rfl ?_;cases hr;exact jn _ rfl rfl rfl
  refine rn tk 6 rfl ?_;cases hr;exact jn _ rfl rfl rfl
 refine rn tk 1 rfl ?_;cases hr;exact kr tk (.inr rfl) rfl rfl
theorem W4a(a0:Str)(r:Bool)(hr:jIa a0=some r):Run prog 86 [.s a0] (.bo r):=by
 unfold jIa at hr;refine rf (fn:=f86) ⟨func86,rfl,by kernel_rfl⟩ rfl (fun _=>rfl) fun g0 hg=>?_
 refine rn tk 5 rfl<|jb hr (fun j1=>[(2,.bo j1)]) (fun j1=>[]) (fun j1 hr=>?_) (fun j1 hr=>?_)
 .refine rn tk 4 rfl<|bs 5 hr rfl (fun c2 hr=>?_) (fun c2 hr=>?_)
  .refine rn tk 5 rfl<|bs 10 hr rfl (fun c3 hr=>?_) (fun c3 hr=>?_)
   .refine rn tk 1 rfl<|ug rfl rfl rfl<|ct hr (fun j4=>[(10,.bo true),(12,.bo j4)]) (fun j4=>[]) (fun j4 hr jump4=>?_) (fun j4 hr=>?_)
    .refine il (fn:=f109) (args:=[.s a0,.fn (.func 110) [] []]) 400000 499999 [(10,.bo true)] rfl ⟨func109,rfl,by kernel_rfl⟩ rfl rfl rfl fun T4 ds4=>?_
     refine rn tk 14 rfl<|al2 hr (fun s5=>[(0,.s a0),(1,.fn (.func 110) [] []),(7,.i ((a0.length:Int))),(8,.i s5)]) (fun s5=>[(499999,.sus g0.w.heap.size ds4),(400010,.hold (.bo true) (T4.getD 10 undef))]) (.exit 0) (fun b6=>[]) (fun b6=>[(499999,.sus g0.w.heap.size ds4),(400010,.hold (.bo true) (T4.getD 10 undef))]) .ret (fun b7=>[(4,.bo false)]) (fun b7=>[(499999,.sus g0.w.heap.size ds4),(400010,.hold (.bo true) (T4.getD 10 undef))]) rfl rfl (fun s5 x9 hr=>?_) (fun b6 hr=>?_) (fun b7 hr=>?_)
     .unfold wxa at hr;refine rn tk 6 rfl<|ac 9 hr rfl (fun c10 hr=>?_) (fun c10 hr=>?_)
      .refine rn tk 15 rfl ?_;obtain ⟨v11,h12,hr⟩:=zaa hr;refine ws tk h12 rfl rfl rfl rfl<|il (fn:=f110) (args:=[.u8 v11]) 600000 699999 [(0,.s a0),(1,.fn (.func 110) [] []),(7,.i ((a0.length:Int))),(8,.i s5)] rfl ⟨func110,rfl,by kernel_rfl⟩ rfl rfl rfl fun T6 ds6=>?_
       refine rn tk 5 rfl<|jb hr (fun j13=>[(2,.bo j13)]) (fun j13=>[(699999,.sus g0.w.heap.size ds6),(600000,.hold (.s a0) (T6.getD 0 undef)),(600001,.hold (.fn (.func 110) [] []) (T6.getD 1 undef)),(600007,.hold (.i ((a0.length:Int))) (T6.getD 7 undef)),(600008,.hold (.i s5) (T6.getD 8 undef)),(499999,.sus g0.w.heap.size ds4),(400010,.hold (.bo true) (T4.getD 10 undef))]) (fun j13 hr=>?_) (fun j13 hr=>?_)
       .refine rn tk 2 rfl ?_;obtain ⟨v14,h15,hr⟩:=zaa hr;refine cl (Zpa _ _ h15) rfl rfl<|rn tk 1 rfl<|bs 5 hr rfl (fun c16 hr=>?_) (fun c16 hr=>?_)
        .refine rn tk 13 rfl ?_;cases hr;exact jn _ rfl rfl rfl
        refine rn tk 4 rfl<|bs 9 hr rfl (fun c17 hr=>?_) (fun c17 hr=>?_)
        .refine rn tk 9 rfl ?_;cases hr;exact jn _ rfl rfl rfl
        refine rn tk 4 rfl<|bs 13 hr rfl (fun c18 hr=>?_) (fun c18 hr=>?_)
        .refine rn tk 5 rfl ?_;cases hr;exact jn _ rfl rfl rfl
        refine rn tk 5 rfl ?_;cases hr;exact jn _ rfl rfl rfl
       refine rn tk 1 rfl ?_;refine ie tk [.bo j13] [(0,.s a0),(1,.fn (.func 110) [] []),(7,.i ((a0.length:Int))),(8,.i s5)] [(499999,.sus g0.w.heap.size ds4),(400010,.hold (.bo true) (T4.getD 10 undef))] (.inr rfl) rfl rfl rfl rfl (hO ?_);refine rn tk 3 rfl<|ac 16 hr rfl (fun c19 hr=>?_) (fun c19 hr=>?_)
       .refine rn tk 8 rfl ?_;cases hr;exact ato rfl rfl rfl rfl
       refine rn tk 7 rfl ?_;cases hr;exact atc rfl rfl
      refine rn tk 2 rfl ?_;cases hr;exact ato rfl rfl rfl rfl
     .refine rn tk 8 rfl ?_;refine ie tk [.bo true] [(10,.bo true)] [] (.inr rfl) rfl rfl rfl rfl ?_;cases hr;exact jump4 _ _ rfl rfl
     refine rn tk 2 rfl ?_;refine ie tk [.bo false] [(10,.bo true)] [] (.inr rfl) rfl rfl rfl rfl ?_;cases hr;exact jump4 _ _ rfl rfl
    refine rn tk 3 rfl ?_;cases hr;exact jn _ rfl rfl rfl
   refine rn tk 5 rfl ?_;cases hr;exact jn _ rfl rfl rfl
  refine rn tk 10 rfl ?_;cases hr;exact jn _ rfl rfl rfl
 refine rn tk 1 rfl ?_;cases hr;exact kr tk (.inr rfl) rfl rfl
end Go.Proofs.YtgajlblehdboiaaGreat
namespace Go.Proofs
open Go.Shelf
def Tryz.lays137_ren:Go.Shelf.Ren:=⟨fun | 137=>128 | 217=>136 | 266=>145 | n=>n,fun | 9=>9 | 5=>5 | 3=>3 | n=>n,fun | n=>n⟩
theorem Tryz.cqz{α:Type}{a:Option α}{x y:α}(h:a=some x)(e:x=y):a=some y:=h.trans (congrArg some e)
theorem Tryz.lays137:Go.Proofs.Lays.n137 prog Tryz.lays137_ren:=⟨by kernel_rfl,cqz func128 (by kernel_rfl),cqz func136 (by kernel_rfl),cqz func145 (by kernel_rfl),underlying3,isAgg3,sizeOf3,zeroValue3,underlying5,isAgg5,sizeOf5,zeroValue5,underlying9,isAgg9,sizeOf9,zeroValue9⟩
open Go.RowKit in
theorem Tryz.strings_IndexByte(s:ByteArray)(c:Int)(w:World):
 Calls prog 128 #[.string s,.int .u8 c] w fun e w' =>e=.returned (.int .i64 (Lib.indexByte s.data.toList c.toNat.toUInt8))/\w' =w:=Any.strings_IndexByte Tryz.lays137 s c w
def Tryz.lays122_ren:Go.Shelf.Ren:=⟨fun | 122=>49 | 215=>77 | n=>n,fun | 3=>3 | 4=>4 | n=>n,fun | n=>n⟩
theorem Tryz.lays122:Go.Proofs.Lays.n122 prog Tryz.lays122_ren:=⟨by kernel_rfl,cqz func49 (by kernel_rfl),cqz func77 (by kernel_rfl),underlying3,isAgg3,sizeOf3,zeroValue3,underlying4,isAgg4,sizeOf4,zeroValue4⟩
open Go.RowKit in
theorem Tryz.cmp_Compare_int(x y:Int)(w:World):
 Calls prog 49 #[.int .i64 x,.int .i64 y] w fun e w' =>e=.returned (.int .i64 (Lib.compareInt x y))/\w' =w:=Any.cmp_Compare_int Tryz.lays122 x y w
def Tryz.lays144_ren:Go.Shelf.Ren:=⟨fun | 144=>140 | 143=>148 | 219=>144 | 217=>136 | 225=>150 | 224=>151 | 267=>152 | 266=>145 | 314=>154 | n=>n,fun | 9=>9 | 4=>4 | 3=>3 | 5=>5 | 46=>124 | 146=>176 | 51=>146 | n=>n,fun | 1=>0 | n=>n⟩
theorem Tryz.lays144:Go.Proofs.Lays.n144 prog Tryz.lays144_ren:=⟨by kernel_rfl,cqz func148 (by kernel_rfl),cqz func140 (by kernel_rfl),cqz func136 (by kernel_rfl),cqz func144 (by kernel_rfl),cqz func151 (by kernel_rfl),cqz func150 (by kernel_rfl),cqz func145 (by kernel_rfl),cqz func152 (by kernel_rfl),cqz func154 (by kernel_rfl),underlying3,isAgg3,sizeOf3,zeroValue3,underlying4,isAgg4,sizeOf4,zeroValue4,underlying5,isAgg5,sizeOf5,zeroValue5,underlying9,isAgg9,sizeOf9,zeroValue9,underlying124,isAgg124,sizeOf124,zeroValue124,underlying146,isAgg146,sizeOf146,zeroValue146,underlying176,isAgg176,sizeOf176,zeroValue176,by kernel_rfl⟩
open Go.RowKit Go.Lib in
theorem Tryz.strings_Contains(s sub:ByteArray)(m:Int)(w:World)(hs:s.size < 4294967281)(hm:w.cell? ⟨0,0,none⟩=some (.int .i64 m)):
 Calls prog 140 #[.string s,.string sub] w fun e w' =>e=.returned (.bool (Lib.contains s.data.toList sub.data.toList))/\w' =w:=Any.strings_Contains Tryz.lays144 s sub m w hs hm
def Tryz.lays145_ren:Go.Shelf.Ren:=⟨fun | 145=>126 | 220=>135 | 219=>144 | 217=>136 | 225=>150 | 224=>151 | 267=>152 | 266=>145 | 314=>154 | n=>n,fun | 9=>9 | 4=>4 | 59=>149 | 3=>3 | 5=>5 | 46=>124 | 146=>176 | 51=>146 | n=>n,fun | 1=>0 | n=>n⟩
theorem Tryz.lays145:Go.Proofs.Lays.n145 prog Tryz.lays145_ren:=⟨by kernel_rfl,cqz func126 (by kernel_rfl),cqz func136 (by kernel_rfl),cqz func144 (by kernel_rfl),cqz func135 (by kernel_rfl),cqz func151 (by kernel_rfl),cqz func150 (by kernel_rfl),cqz func145 (by kernel_rfl),cqz func152 (by kernel_rfl),cqz func154 (by kernel_rfl),underlying3,isAgg3,sizeOf3,zeroValue3,underlying4,isAgg4,sizeOf4,zeroValue4,underlying5,isAgg5,sizeOf5,zeroValue5,underlying9,isAgg9,sizeOf9,zeroValue9,underlying124,isAgg124,sizeOf124,zeroValue124,underlying146,isAgg146,sizeOf146,zeroValue146,underlying149,isAgg149,sizeOf149,zeroValue149,underlying176,isAgg176,sizeOf176,zeroValue176,by kernel_rfl⟩
open Go.RowKit Go.Lib in
theorem Tryz.strings_Cut(s sep:ByteArray)(m:Int)(w:World)(hs:s.size < 4294967281)(hm:w.cell? ⟨0,0,none⟩=some (.int .i64 m)):
 Calls prog 126 #[.string s,.string sep] w fun e w' =>e=.returned (.tuple #[.string ⟨(Lib.cut s.data.toList sep.data.toList).1.toArray⟩,.string ⟨(Lib.cut s.data.toList sep.data.toList).2.1.toArray⟩,.bool (Lib.cut s.data.toList sep.data.toList).2.2])/\∃n,w' =w.drewN n:=Any.strings_Cut Tryz.lays145 s sep m w hs hm
def Tryz.lays99_ren:Go.Shelf.Ren:=⟨fun | 99=>138 | 206=>146 | n=>n,fun | 9=>9 | 4=>4 | 3=>3 | n=>n,fun | n=>n⟩
theorem Tryz.lays99:Go.Proofs.Lays.n99 prog Tryz.lays99_ren:=⟨by kernel_rfl,cqz func138 (by kernel_rfl),cqz func146 (by kernel_rfl),underlying3,isAgg3,sizeOf3,zeroValue3,underlying4,isAgg4,sizeOf4,zeroValue4,underlying9,isAgg9,sizeOf9,zeroValue9⟩
open Go.RowKit Go.Lib in
theorem Tryz.strings_HasPrefix(s p:ByteArray)(w:World):
 Calls prog 138 #[.string s,.string p] w fun e w' =>e=.returned (.bool (Lib.hasPrefix s.data.toList p.data.toList))/\w' =w:=Any.strings_HasPrefix Tryz.lays99 s p w
def Tryz.lays100_ren:Go.Shelf.Ren:=⟨fun | 100=>139 | 207=>147 | n=>n,fun | 9=>9 | 4=>4 | 3=>3 | n=>n,fun | n=>n⟩
theorem Tryz.lays100:Go.Proofs.Lays.n100 prog Tryz.lays100_ren:=⟨by kernel_rfl,cqz func139 (by kernel_rfl),cqz func147 (by kernel_rfl),underlying3,isAgg3,sizeOf3,zeroValue3,underlying4,isAgg4,sizeOf4,zeroValue4,underlying9,isAgg9,sizeOf9,zeroValue9⟩
open Go.RowKit Go.Lib in
theorem Tryz.strings_HasSuffix(s p:ByteArray)(w:World)(hs:s.size<=9223372036854775807):
 Calls prog 139 #[.string s,.string p] w fun e w' =>e=.returned (.bool (Lib.hasSuffix s.data.toList p.data.toList))/\w' =w:=Any.strings_HasSuffix Tryz.lays100 s p w hs
def Tryz.lays226_ren:Go.Shelf.Ren:=⟨fun | 226=>156 | n=>n,fun | 3=>3 | 4=>4 | n=>n,fun | n=>n⟩
theorem Tryz.lays226:Go.Proofs.Lays.n226 prog Tryz.lays226_ren:=⟨by kernel_rfl,cqz func156 (by kernel_rfl),underlying3,isAgg3,sizeOf3,zeroValue3,underlying4,isAgg4,sizeOf4,zeroValue4⟩
open Go.RowKit Go.Lib in
theorem Tryz.strings_shouldUseASCIISet(n:Int)(w:World):
 Calls prog 156 #[.int .i64 n] w fun e w' =>e=.returned (.bool (decide (8 < n)))/\w' =w:=Any.strings_shouldUseASCIISet Tryz.lays226 n w
def Tryz.lays153_ren:Go.Shelf.Ren:=⟨fun | 153=>153 | 152=>155 | 226=>156 | 227=>157 | 228=>158 | 137=>128 | 119=>159 | 224=>151 | 225=>150 | 217=>136 | 266=>145 | n=>n,fun | 9=>9 | 3=>3 | 4=>4 | 5=>5 | 21=>21 | 117=>181 | 116=>180 | 0=>0 | 46=>124 | 124=>184 | n=>n,fun | n=>n⟩
theorem Tryz.lays153:Go.Proofs.Lays.n153 prog Tryz.lays153_ren:=⟨by kernel_rfl,cqz func159 (by kernel_rfl),cqz func128 (by kernel_rfl),cqz func155 (by kernel_rfl),cqz func153 (by kernel_rfl),cqz func136 (by kernel_rfl),cqz func151 (by kernel_rfl),cqz func150 (by kernel_rfl),cqz func156 (by kernel_rfl),cqz func157 (by kernel_rfl),cqz func158 (by kernel_rfl),cqz func145 (by kernel_rfl),underlying0,isAgg0,sizeOf0,zeroValue0,underlying3,isAgg3,sizeOf3,zeroValue3,underlying4,isAgg4,sizeOf4,zeroValue4,underlying5,isAgg5,sizeOf5,zeroValue5,underlying9,isAgg9,sizeOf9,zeroValue9,underlying21,isAgg21,sizeOf21,zeroValue21,underlying124,isAgg124,sizeOf124,zeroValue124,underlying180,isAgg180,sizeOf180,underlying181,isAgg181,sizeOf181,zeroValue181,underlying184,isAgg184,sizeOf184,zeroValue184⟩
open Go.RowKit Go.Lib in
theorem Tryz.strings_IndexAny_long(hv116:∀w,(zeroValue 180).run prog w=.ok (.agg (Array.replicate 256 (.bool false))) w)(s chars:ByteArray)(w:World)(h2:2<=chars.size)(h8:8 < s.size)(hs:s.size < 4294967281)(hcs:chars.size < 4294967281)(hascii:∀(j:Nat) b,chars.data.toList[j]? =some b->b.toNat < 128):
 Calls prog 153 #[.string s,.string chars] w fun e w' =>e=.returned (.int .i64 (Lib.indexAny s.data.toList chars.data.toList))/\w' =((w.alloc (.cells (Lib.setCells chars.data.toList) 180)).alloc (.cells (Lib.setCells chars.data.toList) 180)):=Any.strings_IndexAny_long Tryz.lays153 hv116 (by kernel_rfl) s chars w h2 h8 hs hcs hascii
open Go.RowKit Go.Lib in
theorem Tryz.strings_IndexAny(hv116:∀w,(zeroValue 180).run prog w=.ok (.agg (Array.replicate 256 (.bool false))) w)(s chars:ByteArray)(w:World)(hs:s.size < 4294967281)(hcs:chars.size < 4294967281)(has:∀(j:Nat) b,s.data.toList[j]? =some b->b.toNat < 128)(hac:∀(j:Nat) b,chars.data.toList[j]? =some b->b.toNat < 128):
 Calls prog 153 #[.string s,.string chars] w fun e w' =>e=.returned (.int .i64 (Lib.indexAny s.data.toList chars.data.toList))/\Below w.heap.size w w' :=Any.strings_IndexAny Tryz.lays153 hv116 (by kernel_rfl) s chars w hs hcs has hac
def Tryz.lays150_ren:Go.Shelf.Ren:=⟨fun | 150=>149 | 153=>153 | 152=>155 | 226=>156 | 227=>157 | 228=>158 | 137=>128 | 119=>159 | 224=>151 | 225=>150 | 217=>136 | 266=>145 | n=>n,fun | 9=>9 | 4=>4 | 3=>3 | 5=>5 | 21=>21 | 117=>181 | 116=>180 | 0=>0 | 46=>124 | 124=>184 | n=>n,fun | n=>n⟩
theorem Tryz.lays150:Go.Proofs.Lays.n150 prog Tryz.lays150_ren:=⟨by kernel_rfl,cqz func159 (by kernel_rfl),cqz func128 (by kernel_rfl),cqz func149 (by kernel_rfl),cqz func155 (by kernel_rfl),cqz func153 (by kernel_rfl),cqz func136 (by kernel_rfl),cqz func151 (by kernel_rfl),cqz func150 (by kernel_rfl),cqz func156 (by kernel_rfl),cqz func157 (by kernel_rfl),cqz func158 (by kernel_rfl),cqz func145 (by kernel_rfl),underlying0,isAgg0,sizeOf0,zeroValue0,underlying3,isAgg3,sizeOf3,zeroValue3,underlying4,isAgg4,sizeOf4,zeroValue4,underlying5,isAgg5,sizeOf5,zeroValue5,underlying9,isAgg9,sizeOf9,zeroValue9,underlying21,isAgg21,sizeOf21,zeroValue21,underlying124,isAgg124,sizeOf124,zeroValue124,underlying180,isAgg180,sizeOf180,underlying181,isAgg181,sizeOf181,zeroValue181,underlying184,isAgg184,sizeOf184,zeroValue184⟩
open Go.RowKit Go.Lib in
theorem Tryz.strings_ContainsAny(hv116:∀w,(zeroValue 180).run prog w=.ok (.agg (Array.replicate 256 (.bool false))) w)(s chars:ByteArray)(w:World)(hs:s.size < 4294967281)(hcs:chars.size < 4294967281)(has:∀(j:Nat) b,s.data.toList[j]? =some b->b.toNat < 128)(hac:∀(j:Nat) b,chars.data.toList[j]? =some b->b.toNat < 128):
 Calls prog 149 #[.string s,.string chars] w fun e w' =>e=.returned (.bool (Lib.containsAny s.data.toList chars.data.toList))/\Below w.heap.size w w' :=Any.strings_ContainsAny Tryz.lays150 hv116 (by kernel_rfl) s chars w hs hcs has hac
def Tryz.sortEntry_ren:Go.Shelf.Ren:=⟨fun | 6=>46 | 15=>76 | 14=>75 | 28=>104 | 29=>105 | 20=>96 | 21=>97 | 22=>98 | 23=>99 | 24=>100 | 25=>101 | 26=>102 | 27=>103 | 46=>121 | 47=>122 | 48=>123 | 49=>124 | 50=>125 | 57=>134 | n=>n,fun | 22=>22 | 24=>57 | 25=>87 | 3=>3 | 39=>124 | 0=>0 | 53=>146 | 55=>148 | 4=>4 | 46=>139 | 45=>138 | 50=>143 | 5=>5 | 9=>9 | 66=>161 | 70=>165 | 76=>171 | 77=>172 | n=>n,fun | n=>n⟩
theorem Tryz.sortEntry:Go.Proofs.SlLaysF0.n6 prog Tryz.sortEntry_ren:={mixed:=by kernel_rfl,f6:=⟨Tryz.f46.name,by decide,func46.trans (congrArg some (by kernel_rfl))⟩,f14:=⟨f75.name,by decide,func75.trans (congrArg some (by kernel_rfl))⟩,f15:=cqz func76 (by kernel_rfl),f20:=⟨f96.name,by decide,func96.trans (congrArg some (by kernel_rfl))⟩,f21:=⟨f97.name,by decide,func97.trans (congrArg some (by kernel_rfl))⟩,f22:=⟨f98.name,by decide,func98.trans (congrArg some (by kernel_rfl))⟩,f23:=⟨Tryz.f99.name,by decide,func99.trans (congrArg some (by kernel_rfl))⟩,f24:=⟨Tryz.f100.name,by decide,func100.trans (congrArg some (by kernel_rfl))⟩,f25:=⟨f101.name,by decide,func101.trans (congrArg some (by kernel_rfl))⟩,f26:=⟨f102.name,by decide,func102.trans (congrArg some (by kernel_rfl))⟩,f27:=⟨f103.name,by decide,func103.trans (congrArg some (by kernel_rfl))⟩,f28:=cqz func104 (by kernel_rfl),f29:=cqz func105 (by kernel_rfl),f46:=⟨f121.name,by decide,func121.trans (congrArg some (by kernel_rfl))⟩,f47:=cqz func122 (by kernel_rfl),f48:=cqz func123 (by kernel_rfl),f49:=⟨f124.name,by decide,func124.trans (congrArg some (by kernel_rfl))⟩,f50:=⟨f125.name,by decide,func125.trans (congrArg some (by kernel_rfl))⟩,f57:=⟨f134.name,by decide,func134.trans (congrArg some (by kernel_rfl))⟩,t0:=underlying0,a0:=isAgg0,z0:=sizeOf0,v0:=zeroValue0,t3:=underlying3,a3:=isAgg3,z3:=sizeOf3,v3:=zeroValue3,t4:=underlying4,a4:=isAgg4,z4:=sizeOf4,v4:=zeroValue4,t5:=underlying5,a5:=isAgg5,z5:=sizeOf5,v5:=zeroValue5,t9:=underlying9,a9:=isAgg9,z9:=sizeOf9,v9:=zeroValue9,t22:=underlying22,a22:=isAgg22,z22:=sizeOf22,v22:=zeroValue22,t25:=underlying87,a25:=isAgg87,z25:=sizeOf87,v25:=zeroValue87,t39:=underlying124,a39:=isAgg124,z39:=sizeOf124,v39:=zeroValue124,t45:=underlying138,a45:=isAgg138,z45:=sizeOf138,v45:=zeroValue138,t46:=underlying139,a46:=isAgg139,z46:=sizeOf139,v46:=zeroValue139,t50:=underlying143,a50:=isAgg143,z50:=sizeOf143,v50:=zeroValue143,t53:=underlying146,a53:=isAgg146,z53:=sizeOf146,v53:=zeroValue146,t55:=underlying148,a55:=isAgg148,z55:=sizeOf148,v55:=zeroValue148,t66:=underlying161,a66:=isAgg161,z66:=sizeOf161,v66:=zeroValue161,t70:=underlying165,a70:=isAgg165,z70:=sizeOf165,v70:=zeroValue165,t76:=underlying171,a76:=isAgg171,z76:=sizeOf171,v76:=zeroValue171,t77:=underlying172,a77:=isAgg172,z77:=sizeOf172,v77:=zeroValue172}
end Go.Proofs
namespace Go.Proofs.YtgajlblehdboiaaGreat
open Go.RowKit Go.Proofs.Tryz
theorem wub(g:G)(q:Nat):Old (fun _=>False) g ⟨g.w.drewN q,g.u,g.loc⟩:=
 ⟨rfl,rfl,rfl,⟨Nat.le_refl _,fun _ _=>Nat.le_refl _,fun _ _ _ _=>rfl,fun _ h=>h⟩,fun _ _ _=>⟨rfl,rfl⟩⟩
theorem KZa{g:G}{s:Str}{v:Value}(h:Rel g (.s s) v):v=.string (strB s):=kda h
theorem WAa(s t:Str)(r:Str × Str × Bool)(hr:wca s t=some r):Run prog 126 [.s s,.s t] (.tup [.s r.1,.s r.2.1,.bo r.2.2]):=by
 unfold wca at hr;split at hr
 case isFalse=>cases hr
 rename_i hlen;cases hr;refine ⟨⟨_,_,⟨func126,rfl,by kernel_rfl⟩⟩,fun g vs hw hg ha=>?_⟩;obtain ⟨hsz,hrel⟩:=ha;obtain ⟨l⟩:=vs
 match l,hsz with
 | [x,y],_=>
  obtain rfl:=KZa (hrel 0 _ rfl);obtain rfl:=KZa (hrel 1 _ rfl);obtain ⟨_,_,m,hm⟩:=hg.1 (0,0) (by simp[globs]);refine callsIn_wide.2 ((Tryz.strings_Cut (strB s) (strB t) m g.w (by rw[koa];exact hlen) hm).mono ?_);rintro e w' ⟨rfl,q,rfl⟩;refine ⟨⟨g.w.drewN q,g.u,g.loc⟩,_,rfl,rfl,wub g q,hw,rfl,.tup rfl fun i c hi=>?_⟩
  match i,hi with
  | 0,rfl=>exact .pv (.b rfl)
  | 1,rfl=>exact .pv (.b rfl)
  | 2,rfl=>exact .pv (.b rfl)
theorem vza(s:Str)(c:UInt8)(r:Int)(hr:z5a s c=some r):Run prog 128 [.s s,.u8 c] (.i r):=by
 unfold z5a at hr;cases hr;refine ⟨⟨_,_,⟨func128,rfl,by kernel_rfl⟩⟩,fun g vs hw hg ha=>?_⟩;obtain ⟨hsz,hrel⟩:=ha;obtain ⟨l⟩:=vs
 match l,hsz with
 | [x,y],_=>
  obtain rfl:=KZa (hrel 0 _ rfl);have e2:y=.int .u8 (c.toNat:Int):=kda (hrel 1 _ rfl);subst e2;refine callsIn_wide.2 ((Tryz.strings_IndexByte (strB s) (c.toNat:Int) g.w).mono ?_);rintro e w' ⟨rfl,rfl⟩;refine ⟨g,_,rfl,rfl,Old.refl _ g,hw,rfl,?_⟩;simp[strB];exact .pv (.b rfl)
theorem Kpa(s t:Str)(r:Bool)(hr:kMa s t=some r):Run prog 140 [.s s,.s t] (.bo r):=by
 unfold kMa at hr;split at hr
 case isFalse=>cases hr
 rename_i hlen;cases hr;refine ⟨⟨_,_,⟨func140,rfl,by kernel_rfl⟩⟩,fun g vs hw hg ha=>?_⟩;obtain ⟨hsz,hrel⟩:=ha;obtain ⟨l⟩:=vs
 match l,hsz with
 | [x,y],_=>
  obtain rfl:=KZa (hrel 0 _ rfl);obtain rfl:=KZa (hrel 1 _ rfl);obtain ⟨_,_,m,hm⟩:=hg.1 (0,0) (by simp[globs]);refine callsIn_wide.2 ((Tryz.strings_Contains (strB s) (strB t) m g.w (by rw[koa];exact hlen) hm).mono ?_);rintro e w' ⟨rfl,rfl⟩;exact ⟨g,_,rfl,rfl,Old.refl _ g,hw,rfl,.pv (.b rfl)⟩
theorem wma(a0:Str)(a1:Str)(r:Bool)(hr:kfa a0 a1=some r):Run prog 146 [.s a0,.s a1] (.bo r):=by
 unfold kfa at hr;refine rf (fn:=f146) ⟨func146,rfl,by kernel_rfl⟩ rfl (fun _=>rfl) fun g0 hg=>?_
 refine rn tk 5 rfl<|jb hr (fun j1=>[(4,.bo j1)]) (fun j1=>[]) (fun j1 hr=>?_) (fun j1 hr=>?_)
 .refine rn tk 7 rfl<|bs 10 hr rfl (fun c2 hr=>?_) (fun c2 hr=>?_)
  .refine rn tk 3 rfl ?_;obtain ⟨v3,h4,hr⟩:=zaa hr;refine ug rfl rfl rfl<|wscH tk h4 rfl rfl rfl rfl<|rn tk 5 rfl ?_;cases hr;exact jn _ rfl rfl rfl
  refine rn tk 9 rfl ?_;cases hr;exact jn _ rfl rfl rfl
 refine rn tk 1 rfl ?_;cases hr;exact kr tk (.inr rfl) rfl rfl
theorem ZWa(a0:Str)(a1:Str)(r:Bool)(hr:kDa a0 a1=some r):Run prog 138 [.s a0,.s a1] (.bo r):=by
 unfold kDa at hr;refine rf (fn:=f138) ⟨func138,rfl,by kernel_rfl⟩ rfl (fun _=>rfl) fun g0 hg=>?_
 refine rn tk 9 rfl ?_;obtain ⟨v1,h2,hr⟩:=zaa hr;refine cl (wma _ _ _ h2) rfl rfl<|rn tk 4 rfl ?_;cases hr;exact kr tk (.inr rfl) rfl rfl
theorem wna(a0:Str)(a1:Str)(r:Bool)(hr:kga a0 a1=some r):Run prog 147 [.s a0,.s a1] (.bo r):=by
 unfold kga at hr;refine rf (fn:=f147) ⟨func147,rfl,by kernel_rfl⟩ rfl (fun _=>rfl) fun g0 hg=>?_
 refine rn tk 5 rfl<|jb hr (fun j1=>[(4,.bo j1)]) (fun j1=>[]) (fun j1 hr=>?_) (fun j1 hr=>?_)
 .refine rn tk 7 rfl<|bs 10 hr rfl (fun c2 hr=>?_) (fun c2 hr=>?_)
  .refine rn tk 6 rfl ?_;obtain ⟨v3,h4,hr⟩:=zaa hr;refine ug rfl rfl rfl<|wscL tk h4 rfl rfl rfl rfl<|rn tk 5 rfl ?_;cases hr;exact jn _ rfl rfl rfl
  refine rn tk 12 rfl ?_;cases hr;exact jn _ rfl rfl rfl
 refine rn tk 1 rfl ?_;cases hr;exact kr tk (.inr rfl) rfl rfl
theorem ZXa(a0:Str)(a1:Str)(r:Bool)(hr:kEa a0 a1=some r):Run prog 139 [.s a0,.s a1] (.bo r):=by
 unfold kEa at hr;refine rf (fn:=f139) ⟨func139,rfl,by kernel_rfl⟩ rfl (fun _=>rfl) fun g0 hg=>?_
 refine rn tk 9 rfl ?_;obtain ⟨v1,h2,hr⟩:=zaa hr;refine cl (wna _ _ _ h2) rfl rfl<|rn tk 4 rfl ?_;cases hr;exact kr tk (.inr rfl) rfl rfl
theorem K0a(a0:Str)(r:Bool)(hr:voa a0=some r):Run prog 129 [.s a0] (.bo r):=by
 unfold voa at hr;refine rf (fn:=f129) ⟨func129,rfl,by kernel_rfl⟩ rfl (fun _=>rfl) fun g0 hg=>?_
 refine rn tk 10 rfl<|jb hr (fun j1=>[(2,.bo j1)]) (fun j1=>[]) (fun j1 hr=>?_) (fun j1 hr=>?_)
 .refine rn tk 4 rfl<|bs 6 hr rfl (fun c2 hr=>?_) (fun c2 hr=>?_)
  .refine rn tk 5 rfl<|bs 11 hr rfl (fun c3 hr=>?_) (fun c3 hr=>?_)
   .refine rn tk 2 rfl<|ug rfl rfl rfl<|ct hr (fun j4=>[(0,.s a0),(11,.bo true),(14,.bo j4)]) (fun j4=>[]) (fun j4 hr jump4=>?_) (fun j4 hr=>?_)
    .refine il (fn:=f109) (args:=[.s a0,.fn (.func 137) [] []]) 400000 499999 [(0,.s a0),(11,.bo true)] rfl ⟨func109,rfl,by kernel_rfl⟩ rfl rfl rfl fun T4 ds4=>?_
     refine rn tk 14 rfl<|al2 hr (fun s5=>[(0,.s a0),(1,.fn (.func 137) [] []),(7,.i ((a0.length:Int))),(8,.i s5)]) (fun s5=>[(499999,.sus g0.w.heap.size ds4),(400000,.hold (.s a0) (T4.getD 0 undef)),(400011,.hold (.bo true) (T4.getD 11 undef))]) (.exit 0) (fun b6=>[]) (fun b6=>[(499999,.sus g0.w.heap.size ds4),(400000,.hold (.s a0) (T4.getD 0 undef)),(400011,.hold (.bo true) (T4.getD 11 undef))]) .ret (fun b7=>[(4,.bo false)]) (fun b7=>[(499999,.sus g0.w.heap.size ds4),(400000,.hold (.s a0) (T4.getD 0 undef)),(400011,.hold (.bo true) (T4.getD 11 undef))]) rfl rfl (fun s5 x9 hr=>?_) (fun b6 hr=>?_) (fun b7 hr=>?_)
     .unfold qda at hr;refine rn tk 6 rfl<|ac 9 hr rfl (fun c10 hr=>?_) (fun c10 hr=>?_)
      .refine rn tk 15 rfl ?_;obtain ⟨v11,h12,hr⟩:=zaa hr;refine ws tk h12 rfl rfl rfl rfl<|il (fn:=Tryz.f137) (args:=[.u8 v11]) 600000 699999 [(0,.s a0),(1,.fn (.func 137) [] []),(7,.i ((a0.length:Int))),(8,.i s5)] rfl ⟨func137,rfl,by kernel_rfl⟩ rfl rfl rfl fun T6 ds6=>?_
       refine rn tk 5 rfl<|jb hr (fun j13=>[(2,.bo j13)]) (fun j13=>[(699999,.sus g0.w.heap.size ds6),(600000,.hold (.s a0) (T6.getD 0 undef)),(600001,.hold (.fn (.func 137) [] []) (T6.getD 1 undef)),(600007,.hold (.i ((a0.length:Int))) (T6.getD 7 undef)),(600008,.hold (.i s5) (T6.getD 8 undef)),(499999,.sus g0.w.heap.size ds4),(400000,.hold (.s a0) (T4.getD 0 undef)),(400011,.hold (.bo true) (T4.getD 11 undef))]) (fun j13 hr=>?_) (fun j13 hr=>?_)
       .refine rn tk 4 rfl<|bs 5 hr rfl (fun c14 hr=>?_) (fun c14 hr=>?_)
        .refine rn tk 4 rfl<|bs 9 hr rfl (fun c15 hr=>?_) (fun c15 hr=>?_)
         .refine rn tk 17 rfl ?_;cases hr;exact jn _ rfl rfl rfl
         refine rn tk 3 rfl<|bs 12 hr rfl (fun c16 hr=>?_) (fun c16 hr=>?_)
         .refine rn tk 5 rfl<|bs 17 hr rfl (fun c17 hr=>?_) (fun c17 hr=>?_)
          .refine rn tk 9 rfl ?_;cases hr;exact jn _ rfl rfl rfl
          refine rn tk 4 rfl<|bs 21 hr rfl (fun c18 hr=>?_) (fun c18 hr=>?_)
          .refine rn tk 5 rfl ?_;cases hr;exact jn _ rfl rfl rfl
          refine rn tk 5 rfl ?_;cases hr;exact jn _ rfl rfl rfl
         refine rn tk 9 rfl<|bs 21 hr rfl (fun c19 hr=>?_) (fun c19 hr=>?_)
         .refine rn tk 5 rfl ?_;cases hr;exact jn _ rfl rfl rfl
         refine rn tk 5 rfl ?_;cases hr;exact jn _ rfl rfl rfl
        refine rn tk 7 rfl<|bs 12 hr rfl (fun c20 hr=>?_) (fun c20 hr=>?_)
        .refine rn tk 5 rfl<|bs 17 hr rfl (fun c21 hr=>?_) (fun c21 hr=>?_)
         .refine rn tk 9 rfl ?_;cases hr;exact jn _ rfl rfl rfl
         refine rn tk 4 rfl<|bs 21 hr rfl (fun c22 hr=>?_) (fun c22 hr=>?_)
         .refine rn tk 5 rfl ?_;cases hr;exact jn _ rfl rfl rfl
         refine rn tk 5 rfl ?_;cases hr;exact jn _ rfl rfl rfl
        refine rn tk 9 rfl<|bs 21 hr rfl (fun c23 hr=>?_) (fun c23 hr=>?_)
        .refine rn tk 5 rfl ?_;cases hr;exact jn _ rfl rfl rfl
        refine rn tk 5 rfl ?_;cases hr;exact jn _ rfl rfl rfl
       refine rn tk 1 rfl ?_;refine ie tk [.bo j13] [(0,.s a0),(1,.fn (.func 137) [] []),(7,.i ((a0.length:Int))),(8,.i s5)] [(499999,.sus g0.w.heap.size ds4),(400000,.hold (.s a0) (T4.getD 0 undef)),(400011,.hold (.bo true) (T4.getD 11 undef))] (.inr rfl) rfl rfl rfl rfl (hO ?_);refine rn tk 3 rfl<|ac 16 hr rfl (fun c24 hr=>?_) (fun c24 hr=>?_)
       .refine rn tk 8 rfl ?_;cases hr;exact ato rfl rfl rfl rfl
       refine rn tk 7 rfl ?_;cases hr;exact atc rfl rfl
      refine rn tk 2 rfl ?_;cases hr;exact ato rfl rfl rfl rfl
     .refine rn tk 8 rfl ?_;refine ie tk [.bo true] [(0,.s a0),(11,.bo true)] [] (.inr rfl) rfl rfl rfl rfl ?_;cases hr;exact jump4 _ _ rfl rfl
     refine rn tk 2 rfl ?_;refine ie tk [.bo false] [(0,.s a0),(11,.bo true)] [] (.inr rfl) rfl rfl rfl rfl ?_;cases hr;exact jump4 _ _ rfl rfl
    refine rn tk 2 rfl<|bs 16 hr rfl (fun c25 hr=>?_) (fun c25 hr=>?_)
    .refine rn tk 1 rfl ?_;obtain ⟨v26,h27,hr⟩:=zaa hr;refine ug rfl rfl rfl<|cl (ZWa _ _ _ h27) rfl rfl<|rn tk 3 rfl<|bs 21 hr rfl (fun c28 hr=>?_) (fun c28 hr=>?_)
     .refine rn tk 1 rfl ?_;obtain ⟨v29,h30,hr⟩:=zaa hr;refine ug rfl rfl rfl<|cl (ZXa _ _ _ h30) rfl rfl<|rn tk 3 rfl<|bs 26 hr rfl (fun c31 hr=>?_) (fun c31 hr=>?_)
      .refine rn tk 1 rfl ?_;obtain ⟨v32,h33,hr⟩:=zaa hr;refine ug rfl rfl rfl<|cl (Kpa _ _ _ h33) rfl rfl<|rn tk 4 rfl ?_;cases hr;exact jn _ rfl rfl rfl
      refine rn tk 6 rfl ?_;cases hr;exact jn _ rfl rfl rfl
     refine rn tk 11 rfl ?_;cases hr;exact jn _ rfl rfl rfl
    refine rn tk 16 rfl ?_;cases hr;exact jn _ rfl rfl rfl
   refine rn tk 21 rfl ?_;cases hr;exact jn _ rfl rfl rfl
  refine rn tk 26 rfl ?_;cases hr;exact jn _ rfl rfl rfl
 refine rn tk 1 rfl ?_;cases hr;exact kr tk (.inr rfl) rfl rfl
theorem jta(a0:Str)(r:Str × Str × Bool)(hr:vca a0=some r):Run prog 106 [.s a0] (.tup [.s r.1,.s r.2.1,.bo r.2.2]):=by
 unfold vca at hr;refine rf (fn:=f106) ⟨func106,rfl,by kernel_rfl⟩ rfl (fun _=>rfl) fun g0 hg=>?_
 refine rn tk 10 rfl ?_;obtain ⟨v1,h2,hr⟩:=zaa hr;refine cl (WAa _ _ _ h2) rfl rfl<|rn tk 14 rfl<|jb hr (fun j3=>[(2,.s v1.1),(3,.s v1.2.1),(4,.bo j3)]) (fun j3=>[]) (fun j3 hr=>?_) (fun j3 hr=>?_)
 .refine rn tk 5 rfl<|bs 15 hr rfl (fun c4 hr=>?_) (fun c4 hr=>?_)
  .refine rn tk 4 rfl<|bs 19 hr rfl (fun c5 hr=>?_) (fun c5 hr=>?_)
   .refine rn tk 5 rfl<|bs 24 hr rfl (fun c6 hr=>?_) (fun c6 hr=>?_)
    .refine rn tk 2 rfl<|ug rfl rfl rfl<|ct hr (fun j7=>[(3,.s v1.2.1),(12,.s v1.1),(13,.s v1.2.1),(24,.bo true),(27,.bo j7)]) (fun j7=>[]) (fun j7 hr jump4=>?_) (fun j7 hr=>?_)
     .refine il (fn:=f109) (args:=[.s v1.1,.fn (.func 127) [] []]) 400000 499999 [(3,.s v1.2.1),(12,.s v1.1),(13,.s v1.2.1),(24,.bo true)] rfl ⟨func109,rfl,by kernel_rfl⟩ rfl rfl rfl fun T4 ds4=>?_
      refine rn tk 14 rfl<|al2 hr (fun s8=>[(0,.s v1.1),(1,.fn (.func 127) [] []),(7,.i ((v1.1.length:Int))),(8,.i s8)]) (fun s8=>[(499999,.sus g0.w.heap.size ds4),(400003,.hold (.s v1.2.1) (T4.getD 3 undef)),(400012,.hold (.s v1.1) (T4.getD 12 undef)),(400013,.hold (.s v1.2.1) (T4.getD 13 undef)),(400024,.hold (.bo true) (T4.getD 24 undef))]) (.exit 0) (fun b9=>[]) (fun b9=>[(499999,.sus g0.w.heap.size ds4),(400003,.hold (.s v1.2.1) (T4.getD 3 undef)),(400012,.hold (.s v1.1) (T4.getD 12 undef)),(400013,.hold (.s v1.2.1) (T4.getD 13 undef)),(400024,.hold (.bo true) (T4.getD 24 undef))]) .ret (fun b10=>[(4,.bo false)]) (fun b10=>[(499999,.sus g0.w.heap.size ds4),(400003,.hold (.s v1.2.1) (T4.getD 3 undef)),(400012,.hold (.s v1.1) (T4.getD 12 undef)),(400013,.hold (.s v1.2.1) (T4.getD 13 undef)),(400024,.hold (.bo true) (T4.getD 24 undef))]) rfl rfl (fun s8 x12 hr=>?_) (fun b9 hr=>?_) (fun b10 hr=>?_)
      .unfold qLa at hr;refine rn tk 6 rfl<|ac 9 hr rfl (fun c13 hr=>?_) (fun c13 hr=>?_)
       .refine rn tk 15 rfl ?_;obtain ⟨v14,h15,hr⟩:=zaa hr;refine ws tk h15 rfl rfl rfl rfl<|il (fn:=f127) (args:=[.u8 v14]) 600000 699999 [(0,.s v1.1),(1,.fn (.func 127) [] []),(7,.i ((v1.1.length:Int))),(8,.i s8)] rfl ⟨func127,rfl,by kernel_rfl⟩ rfl rfl rfl fun T6 ds6=>?_
        refine rn tk 5 rfl<|jb hr (fun j16=>[(2,.bo j16)]) (fun j16=>[(699999,.sus g0.w.heap.size ds6),(600000,.hold (.s v1.1) (T6.getD 0 undef)),(600001,.hold (.fn (.func 127) [] []) (T6.getD 1 undef)),(600007,.hold (.i ((v1.1.length:Int))) (T6.getD 7 undef)),(600008,.hold (.i s8) (T6.getD 8 undef)),(499999,.sus g0.w.heap.size ds4),(400003,.hold (.s v1.2.1) (T4.getD 3 undef)),(400012,.hold (.s v1.1) (T4.getD 12 undef)),(400013,.hold (.s v1.2.1) (T4.getD 13 undef)),(400024,.hold (.bo true) (T4.getD 24 undef))]) (fun j16 hr=>?_) (fun j16 hr=>?_)
        .refine rn tk 2 rfl ?_;obtain ⟨v17,h18,hr⟩:=zaa hr;refine cl (Zpa _ _ h18) rfl rfl<|rn tk 1 rfl<|bs 5 hr rfl (fun c19 hr=>?_) (fun c19 hr=>?_)
         .refine rn tk 6 rfl ?_;cases hr;exact jn _ rfl rfl rfl
         refine rn tk 1 rfl ?_;obtain ⟨v20,h21,hr⟩:=zaa hr;refine ug rfl rfl rfl<|cl (vza _ _ _ h21) rfl rfl<|rn tk 4 rfl ?_;cases hr;exact jn _ rfl rfl rfl
        refine rn tk 1 rfl ?_;refine ie tk [.bo j16] [(0,.s v1.1),(1,.fn (.func 127) [] []),(7,.i ((v1.1.length:Int))),(8,.i s8)] [(499999,.sus g0.w.heap.size ds4),(400003,.hold (.s v1.2.1) (T4.getD 3 undef)),(400012,.hold (.s v1.1) (T4.getD 12 undef)),(400013,.hold (.s v1.2.1) (T4.getD 13 undef)),(400024,.hold (.bo true) (T4.getD 24 undef))] (.inr rfl) rfl rfl rfl rfl (hO ?_);refine rn tk 3 rfl<|ac 16 hr rfl (fun c22 hr=>?_) (fun c22 hr=>?_)
        .refine rn tk 8 rfl ?_;cases hr;exact ato rfl rfl rfl rfl
        refine rn tk 7 rfl ?_;cases hr;exact atc rfl rfl
       refine rn tk 2 rfl ?_;cases hr;exact ato rfl rfl rfl rfl
      .refine rn tk 8 rfl ?_;refine ie tk [.bo true] [(3,.s v1.2.1),(12,.s v1.1),(13,.s v1.2.1),(24,.bo true)] [] (.inr rfl) rfl rfl rfl rfl ?_;cases hr;exact jump4 _ _ rfl rfl
      refine rn tk 2 rfl ?_;refine ie tk [.bo false] [(3,.s v1.2.1),(12,.s v1.1),(13,.s v1.2.1),(24,.bo true)] [] (.inr rfl) rfl rfl rfl rfl ?_;cases hr;exact jump4 _ _ rfl rfl
     refine rn tk 2 rfl<|bs 29 hr rfl (fun c23 hr=>?_) (fun c23 hr=>?_)
     .refine rn tk 1 rfl ?_;obtain ⟨v24,h25,hr⟩:=zaa hr;refine ug rfl rfl rfl<|cl (K0a _ _ h25) rfl rfl<|rn tk 5 rfl ?_;cases hr;exact jn _ rfl rfl rfl
     refine rn tk 7 rfl ?_;cases hr;exact jn _ rfl rfl rfl
    refine rn tk 12 rfl ?_;cases hr;exact jn _ rfl rfl rfl
   refine rn tk 17 rfl ?_;cases hr;exact jn _ rfl rfl rfl
  refine rn tk 21 rfl ?_;cases hr;exact jn _ rfl rfl rfl
 refine rn tk 1 rfl ?_;cases hr;exact kr tk (.inr rfl) rfl rfl
theorem yya(a0:Str)(r:Bool)(hr:k6a a0=some r):Run prog 85 [.s a0] (.bo r):=by
 unfold k6a at hr;refine rf (fn:=f85) ⟨func85,rfl,by kernel_rfl⟩ rfl (fun _=>rfl) fun g0 hg=>?_
 refine rn tk 8 rfl ?_;obtain ⟨v1,h2,hr⟩:=zaa hr;refine cl (jta _ _ h2) rfl rfl<|rn tk 16 rfl ?_;cases hr;exact kr tk (.inr rfl) rfl rfl
theorem K1a(a0:Int)(r:Bool)(hr:vqa a0=some r):Run prog 112 [.i a0] (.bo r):=by
 unfold vqa at hr;refine rf (fn:=f112) ⟨func112,rfl,by kernel_rfl⟩ rfl (fun _=>rfl) fun g0 hg=>?_
 refine rn tk 5 rfl<|jb hr (fun j1=>[(2,.bo j1)]) (fun j1=>[]) (fun j1 hr=>?_) (fun j1 hr=>?_)
 .refine rn tk 4 rfl<|bs 5 hr rfl (fun c2 hr=>?_) (fun c2 hr=>?_)
  .refine rn tk 5 rfl ?_;cases hr;exact jn _ rfl rfl rfl
  refine rn tk 5 rfl ?_;cases hr;exact jn _ rfl rfl rfl
 refine rn tk 1 rfl ?_;cases hr;exact kr tk (.inr rfl) rfl rfl
theorem Zea(a0:List zca)(r:zpa)(hr:kXa a0=some r):Run prog 87 [.l zca.pc a0] (.agg [.i r.Code,.i r.Index]):=by
 unfold kXa at hr;refine rf (fn:=f87) ⟨func87,rfl,by kernel_rfl⟩ rfl (fun _=>rfl) fun g0 hg=>?_
 refine rn tk 9 rfl<|wn tk rfl rfl rfl<|rn tk 4 rfl<|al2 hr (fun s1=>[(0,.l zca.pc a0),(2,.ptr 2 0),(5,.l zca.pc a0),(6,.i ((a0.length:Int))),(7,.i s1)]) (fun s1=>[(2,.cells [.i 0,.i 0])]) (.exit 0) (fun b2=>[(2,.ptr 2 0)]) (fun b2=>[(2,.cells [.i 0,.i 0])]) .ret (fun b3=>[(2,.ptr 2 0)]) (fun b3=>[(2,.cells [.i b3.Code,.i b3.Index])]) rfl rfl (fun s1 x5 hr=>?_) (fun b2 hr=>?_) (fun b3 hr=>?_)
 .unfold k1a at hr;refine rn tk 6 rfl<|ac 8 hr rfl (fun c6 hr=>?_) (fun c6 hr=>?_)
  .refine rn tk 7 rfl ?_;obtain ⟨v7,h8,hr⟩:=zaa hr;refine wi tk h8 rfl rfl rfl rfl rfl<|rn tk 11 rfl ?_;obtain ⟨v9,h10,hr⟩:=zaa hr;refine cl (yya _ _ h10) rfl rfl<|rn tk 4 rfl<|ac 12 hr rfl (fun c11 hr=>?_) (fun c11 hr=>?_)
   .refine rn tk 3 rfl ?_;obtain ⟨v12,h13,hr⟩:=zaa hr;refine cl (zma _ _ _ h13) rfl rfl<|rn tk 7 rfl ?_;cases hr;exact ato rfl rfl rfl rfl
   refine rn tk 4 rfl ?_;obtain ⟨v14,h15,hr⟩:=zaa hr;refine cl (K1a _ _ h15) rfl rfl<|rn tk 4 rfl<|ac 19 hr rfl (fun c16 hr=>?_) (fun c16 hr=>?_)
   .refine rn tk 3 rfl ?_;obtain ⟨v17,h18,hr⟩:=zaa hr;refine cl (zma _ _ _ h18) rfl rfl<|rn tk 7 rfl ?_;cases hr;exact ato rfl rfl rfl rfl
   refine rn tk 4 rfl ?_;obtain ⟨v19,h20,hr⟩:=zaa hr;refine wlH tk h20 rfl rfl rfl (fun _=>rfl) rfl<|rn tk 1 rfl<|il (fn:=f113) (args:=[.l zca.pc v19,.fn (.func 114) [] [.ptr 4 0]]) 500000 599999 [(0,.l zca.pc a0),(2,.ptr 2 0),(3,.i s1),(5,.l zca.pc a0),(6,.i ((a0.length:Int))),(7,.i s1)] rfl ⟨func113,rfl,by kernel_rfl⟩ rfl rfl rfl fun T5 ds5=>?_
   refine rn tk 9 rfl<|ct hr (fun j21=>[(7,.i j21)]) (fun j21=>[(599999,.sus g0.w.heap.size ds5),(500000,.hold (.l zca.pc a0) (T5.getD 0 undef)),(500002,.hold (.ptr 2 0) (T5.getD 2 undef)),(500005,.hold (.l zca.pc a0) (T5.getD 5 undef)),(500006,.hold (.i ((a0.length:Int))) (T5.getD 6 undef)),(500007,.hold (.i s1) (T5.getD 7 undef)),(500003,.hold (.i s1) (T5.getD 3 undef)),(2,.cells [.i 0,.i 0])]) (fun j21 hr jump6=>?_) (fun j21 hr=>?_)
   .refine il (fn:=f130) (args:=[.l zca.pc v19,.fn (.func 114) [] [.ptr 4 0]]) 600000 699999 [] rfl ⟨func130,rfl,by kernel_rfl⟩ rfl rfl rfl fun T6 ds6=>?_
    refine rn tk 9 rfl<|wn tk rfl rfl rfl<|rn tk 4 rfl<|al2 hr (fun s22=>[(0,.l zca.pc v19),(1,.fn (.func 114) [] [.ptr 4 0]),(7,.i ((v19.length:Int))),(8,.i s22)]) (fun s22=>[(699999,.sus g0.w.heap.size ds6),(599999,.sus g0.w.heap.size ds5),(500000,.hold (.l zca.pc a0) (T5.getD 0 undef)),(500002,.hold (.ptr 2 0) (T5.getD 2 undef)),(500005,.hold (.l zca.pc a0) (T5.getD 5 undef)),(500006,.hold (.i ((a0.length:Int))) (T5.getD 6 undef)),(500007,.hold (.i s1) (T5.getD 7 undef)),(500003,.hold (.i s1) (T5.getD 3 undef)),(4,.cells [.s v7.Address,.i v7.Notify]),(2,.cells [.i 0,.i 0])]) (.exit 0) (fun b23=>[]) (fun b23=>[(699999,.sus g0.w.heap.size ds6),(599999,.sus g0.w.heap.size ds5),(500000,.hold (.l zca.pc a0) (T5.getD 0 undef)),(500002,.hold (.ptr 2 0) (T5.getD 2 undef)),(500005,.hold (.l zca.pc a0) (T5.getD 5 undef)),(500006,.hold (.i ((a0.length:Int))) (T5.getD 6 undef)),(500007,.hold (.i s1) (T5.getD 7 undef)),(500003,.hold (.i s1) (T5.getD 3 undef)),(2,.cells [.i 0,.i 0])]) .ret (fun b24=>[(4,.i b24)]) (fun b24=>[(699999,.sus g0.w.heap.size ds6),(599999,.sus g0.w.heap.size ds5),(500000,.hold (.l zca.pc a0) (T5.getD 0 undef)),(500002,.hold (.ptr 2 0) (T5.getD 2 undef)),(500005,.hold (.l zca.pc a0) (T5.getD 5 undef)),(500006,.hold (.i ((a0.length:Int))) (T5.getD 6 undef)),(500007,.hold (.i s1) (T5.getD 7 undef)),(500003,.hold (.i s1) (T5.getD 3 undef)),(2,.cells [.i 0,.i 0])]) rfl rfl (fun s22 x26 hr=>?_) (fun b23 hr=>?_) (fun b24 hr=>?_)
    .unfold kBa at hr;refine rn tk 6 rfl<|ac 9 hr rfl (fun c27 hr=>?_) (fun c27 hr=>?_)
     .refine rn tk 15 rfl ?_;obtain ⟨v28,h29,hr⟩:=zaa hr;refine wi tk h29 rfl rfl rfl rfl rfl<|rn tk 1 rfl<|il (fn:=f114) (args:=[.agg [.s v28.Address,.i v28.Notify],.ptr 4 0]) 800000 899999 [(0,.l zca.pc v19),(1,.fn (.func 114) [] [.ptr 4 0]),(5,.i s22),(7,.i ((v19.length:Int))),(8,.i s22)] rfl ⟨func114,rfl,by kernel_rfl⟩ rfl rfl rfl fun T8 ds8=>?_
      refine rn tk 2 rfl<|wo (Z6a (k:=2) 1002 rfl rfl rfl rfl rfl) rfl<|rn tk 14 rfl ?_;refine ie tk [.bo ((v28.Address==v7.Address))] [(0,.l zca.pc v19),(1,.fn (.func 114) [] [.ptr 4 0]),(5,.i s22),(7,.i ((v19.length:Int))),(8,.i s22)] [(1002,.cells [.s v28.Address,.i v28.Notify]),(699999,.sus g0.w.heap.size ds6),(599999,.sus g0.w.heap.size ds5),(500000,.hold (.l zca.pc a0) (T5.getD 0 undef)),(500002,.hold (.ptr 2 0) (T5.getD 2 undef)),(500005,.hold (.l zca.pc a0) (T5.getD 5 undef)),(500006,.hold (.i ((a0.length:Int))) (T5.getD 6 undef)),(500007,.hold (.i s1) (T5.getD 7 undef)),(500003,.hold (.i s1) (T5.getD 3 undef)),(4,.cells [.s v7.Address,.i v7.Notify]),(2,.cells [.i 0,.i 0])] (.inr rfl) rfl rfl rfl rfl (hO ?_);refine rn tk 2 rfl<|ac 16 hr rfl (fun c30 hr=>?_) (fun c30 hr=>?_)
      .refine rn tk 9 rfl ?_;cases hr;exact ato rfl rfl rfl rfl
      refine rn tk 7 rfl ?_;cases hr;exact atc rfl rfl
     refine rn tk 2 rfl ?_;cases hr;exact ato rfl rfl rfl rfl
    .refine rn tk 8 rfl ?_;refine ie tk [.i ((-1))] [] [(599999,.sus g0.w.heap.size ds5),(500000,.hold (.l zca.pc a0) (T5.getD 0 undef)),(500002,.hold (.ptr 2 0) (T5.getD 2 undef)),(500005,.hold (.l zca.pc a0) (T5.getD 5 undef)),(500006,.hold (.i ((a0.length:Int))) (T5.getD 6 undef)),(500007,.hold (.i s1) (T5.getD 7 undef)),(500003,.hold (.i s1) (T5.getD 3 undef)),(2,.cells [.i 0,.i 0])] (.inr rfl) rfl rfl rfl rfl ?_;cases hr;exact jump6 _ _ rfl rfl
    refine rn tk 2 rfl ?_;refine ie tk [.i b24] [] [(599999,.sus g0.w.heap.size ds5),(500000,.hold (.l zca.pc a0) (T5.getD 0 undef)),(500002,.hold (.ptr 2 0) (T5.getD 2 undef)),(500005,.hold (.l zca.pc a0) (T5.getD 5 undef)),(500006,.hold (.i ((a0.length:Int))) (T5.getD 6 undef)),(500007,.hold (.i s1) (T5.getD 7 undef)),(500003,.hold (.i s1) (T5.getD 3 undef)),(2,.cells [.i 0,.i 0])] (.inr rfl) rfl rfl rfl rfl ?_;cases hr;exact jump6 _ _ rfl rfl
   refine rn tk 5 rfl ?_;refine ie tk [.bo (decide (0<=j21))] [(0,.l zca.pc a0),(2,.ptr 2 0),(3,.i s1),(5,.l zca.pc a0),(6,.i ((a0.length:Int))),(7,.i s1)] [(2,.cells [.i 0,.i 0])] (.inr rfl) rfl rfl rfl rfl (hO ?_);refine rn tk 3 rfl<|ac 26 hr rfl (fun c31 hr=>?_) (fun c31 hr=>?_)
   .refine rn tk 3 rfl ?_;obtain ⟨v32,h33,hr⟩:=zaa hr;refine cl (zma _ _ _ h33) rfl rfl<|rn tk 7 rfl ?_;cases hr;exact ato rfl rfl rfl rfl
   refine rn tk 8 rfl ?_;cases hr;exact atc rfl rfl
  refine rn tk 2 rfl ?_;cases hr;exact ato rfl rfl rfl rfl
 .refine rn tk 4 rfl ?_;obtain ⟨v34,h35,hr⟩:=zaa hr;refine cl (zLa _ h35) rfl rfl<|rn tk 4 rfl ?_;cases hr;exact kr tk (.inr rfl) rfl rfl
 refine rn tk 2 rfl ?_;cases hr;exact kr tk (.inr rfl) rfl rfl
theorem ZYa(a0:zCa)(r:zpa)(hr:qMa a0=some r):Run prog 64 [.agg [.s a0.From,.l zca.pc a0.To,.s a0.Id]] (.agg [.i r.Code,.i r.Index]):=by
 unfold qMa at hr;refine rf (fn:=f64) ⟨func64,rfl,by kernel_rfl⟩ rfl (fun _=>rfl) fun g0 hg=>?_
 refine rn tk 8 rfl<|jb hr (fun j1=>[(1,.ptr 1 0),(2,.ptr 2 0),(3,.bo j1)]) (fun j1=>[(2,.cells [.i 0,.i 0]),(1,.cells [.s a0.From,.l zca.pc a0.To,.s a0.Id])]) (fun j1 hr=>?_) (fun j1 hr=>?_)
 .refine rn tk 5 rfl<|bs 7 hr rfl (fun c2 hr=>?_) (fun c2 hr=>?_)
  .refine rn tk 2 rfl ?_;obtain ⟨v3,h4,hr⟩:=zaa hr;refine ug rfl rfl rfl<|cl (yya _ _ h4) rfl rfl<|rn tk 4 rfl ?_;cases hr;exact jn _ rfl rfl rfl
  refine rn tk 7 rfl ?_;cases hr;exact jn _ rfl rfl rfl
 refine ac 3 hr rfl (fun c5 hr=>?_) (fun c5 hr=>?_)
 .refine rn tk 2 rfl ?_;obtain ⟨v6,h7,hr⟩:=zaa hr;refine cl (zma _ _ _ h7) rfl rfl<|rn tk 6 rfl ?_;cases hr;exact kr tk (.inr rfl) rfl rfl
 refine jb hr (fun j8=>[(1,.ptr 1 0),(2,.ptr 2 0),(14,.bo j8)]) (fun j8=>[(2,.cells [.i 0,.i 0]),(1,.cells [.s a0.From,.l zca.pc a0.To,.s a0.Id])]) (fun j8 hr=>?_) (fun j8 hr=>?_)
 .refine rn tk 3 rfl<|wn tk rfl rfl rfl<|rn tk 2 rfl<|bs 19 hr rfl (fun c9 hr=>?_) (fun c9 hr=>?_)
  .refine rn tk 7 rfl ?_;cases hr;exact jn _ rfl rfl rfl
  refine rn tk 2 rfl<|ug rfl rfl rfl<|wn tk rfl rfl rfl<|rn tk 4 rfl ?_;cases hr;exact jn _ rfl rfl rfl
 refine ac 14 hr rfl (fun c10 hr=>?_) (fun c10 hr=>?_)
 .refine rn tk 2 rfl ?_;obtain ⟨v11,h12,hr⟩:=zaa hr;refine cl (zma _ _ _ h12) rfl rfl<|rn tk 6 rfl ?_;cases hr;exact kr tk (.inr rfl) rfl rfl
 refine jb hr (fun j13=>[(1,.ptr 1 0),(2,.ptr 2 0),(26,.bo j13)]) (fun j13=>[(2,.cells [.i 0,.i 0]),(1,.cells [.s a0.From,.l zca.pc a0.To,.s a0.Id])]) (fun j13 hr=>?_) (fun j13 hr=>?_)
 .refine rn tk 5 rfl<|bs 30 hr rfl (fun c14 hr=>?_) (fun c14 hr=>?_)
  .refine rn tk 2 rfl ?_;obtain ⟨v15,h16,hr⟩:=zaa hr;refine ug rfl rfl rfl<|cl (W4a _ _ h16) rfl rfl<|rn tk 4 rfl ?_;cases hr;exact jn _ rfl rfl rfl
  refine rn tk 7 rfl ?_;cases hr;exact jn _ rfl rfl rfl
 refine ac 26 hr rfl (fun c17 hr=>?_) (fun c17 hr=>?_)
 .refine rn tk 2 rfl ?_;obtain ⟨v18,h19,hr⟩:=zaa hr;refine cl (zma _ _ _ h19) rfl rfl<|rn tk 6 rfl ?_;cases hr;exact kr tk (.inr rfl) rfl rfl
 refine rn tk 7 rfl ?_;obtain ⟨v20,h21,hr⟩:=zaa hr;refine cl (Zea _ _ h21) rfl rfl<|rn tk 4 rfl ?_;cases hr;exact kr tk (.inr rfl) rfl rfl
theorem JAa(a0:Str)(r:Bool)(hr:ZJa a0=some r):Run prog 131 [.s a0] (.bo r):=by
 unfold ZJa at hr;refine rf (fn:=f131) ⟨func131,rfl,by kernel_rfl⟩ rfl (fun _=>rfl) fun g0 hg=>?_
 refine rn tk 5 rfl<|jb hr (fun j1=>[(2,.bo j1)]) (fun j1=>[]) (fun j1 hr=>?_) (fun j1 hr=>?_)
 .refine rn tk 4 rfl<|bs 5 hr rfl (fun c2 hr=>?_) (fun c2 hr=>?_)
  .refine rn tk 5 rfl<|bs 10 hr rfl (fun c3 hr=>?_) (fun c3 hr=>?_)
   .refine rn tk 1 rfl<|ug rfl rfl rfl<|ct hr (fun j4=>[(10,.bo true),(12,.bo j4)]) (fun j4=>[]) (fun j4 hr jump4=>?_) (fun j4 hr=>?_)
    .refine il (fn:=f109) (args:=[.s a0,.fn (.func 141) [] []]) 400000 499999 [(10,.bo true)] rfl ⟨func109,rfl,by kernel_rfl⟩ rfl rfl rfl fun T4 ds4=>?_
     refine rn tk 14 rfl<|al2 hr (fun s5=>[(0,.s a0),(1,.fn (.func 141) [] []),(7,.i ((a0.length:Int))),(8,.i s5)]) (fun s5=>[(499999,.sus g0.w.heap.size ds4),(400010,.hold (.bo true) (T4.getD 10 undef))]) (.exit 0) (fun b6=>[]) (fun b6=>[(499999,.sus g0.w.heap.size ds4),(400010,.hold (.bo true) (T4.getD 10 undef))]) .ret (fun b7=>[(4,.bo false)]) (fun b7=>[(499999,.sus g0.w.heap.size ds4),(400010,.hold (.bo true) (T4.getD 10 undef))]) rfl rfl (fun s5 x9 hr=>?_) (fun b6 hr=>?_) (fun b7 hr=>?_)
     .unfold yba at hr;refine rn tk 6 rfl<|ac 9 hr rfl (fun c10 hr=>?_) (fun c10 hr=>?_)
      .refine rn tk 15 rfl ?_;obtain ⟨v11,h12,hr⟩:=zaa hr;refine ws tk h12 rfl rfl rfl rfl<|il (fn:=f141) (args:=[.u8 v11]) 600000 699999 [(0,.s a0),(1,.fn (.func 141) [] []),(7,.i ((a0.length:Int))),(8,.i s5)] rfl ⟨func141,rfl,by kernel_rfl⟩ rfl rfl rfl fun T6 ds6=>?_
       refine rn tk 5 rfl<|jb hr (fun j13=>[(2,.bo j13)]) (fun j13=>[(699999,.sus g0.w.heap.size ds6),(600000,.hold (.s a0) (T6.getD 0 undef)),(600001,.hold (.fn (.func 141) [] []) (T6.getD 1 undef)),(600007,.hold (.i ((a0.length:Int))) (T6.getD 7 undef)),(600008,.hold (.i s5) (T6.getD 8 undef)),(499999,.sus g0.w.heap.size ds4),(400010,.hold (.bo true) (T4.getD 10 undef))]) (fun j13 hr=>?_) (fun j13 hr=>?_)
       .refine rn tk 4 rfl<|bs 5 hr rfl (fun c14 hr=>?_) (fun c14 hr=>?_)
        .refine rn tk 4 rfl<|bs 9 hr rfl (fun c15 hr=>?_) (fun c15 hr=>?_)
         .refine rn tk 5 rfl ?_;cases hr;exact jn _ rfl rfl rfl
         refine rn tk 5 rfl ?_;cases hr;exact jn _ rfl rfl rfl
        refine rn tk 9 rfl ?_;cases hr;exact jn _ rfl rfl rfl
       refine rn tk 1 rfl ?_;refine ie tk [.bo j13] [(0,.s a0),(1,.fn (.func 141) [] []),(7,.i ((a0.length:Int))),(8,.i s5)] [(499999,.sus g0.w.heap.size ds4),(400010,.hold (.bo true) (T4.getD 10 undef))] (.inr rfl) rfl rfl rfl rfl (hO ?_);refine rn tk 3 rfl<|ac 16 hr rfl (fun c16 hr=>?_) (fun c16 hr=>?_)
       .refine rn tk 8 rfl ?_;cases hr;exact ato rfl rfl rfl rfl
       refine rn tk 7 rfl ?_;cases hr;exact atc rfl rfl
      refine rn tk 2 rfl ?_;cases hr;exact ato rfl rfl rfl rfl
     .refine rn tk 8 rfl ?_;refine ie tk [.bo true] [(10,.bo true)] [] (.inr rfl) rfl rfl rfl rfl ?_;cases hr;exact jump4 _ _ rfl rfl
     refine rn tk 2 rfl ?_;refine ie tk [.bo false] [(10,.bo true)] [] (.inr rfl) rfl rfl rfl rfl ?_;cases hr;exact jump4 _ _ rfl rfl
    refine rn tk 3 rfl ?_;cases hr;exact jn _ rfl rfl rfl
   refine rn tk 5 rfl ?_;cases hr;exact jn _ rfl rfl rfl
  refine rn tk 10 rfl ?_;cases hr;exact jn _ rfl rfl rfl
 refine rn tk 1 rfl ?_;cases hr;exact kr tk (.inr rfl) rfl rfl
theorem wKa(a0:UInt8)(r:Bool)(hr:vra a0=some r):Run prog 143 [.u8 a0] (.bo r):=by
 unfold vra at hr;refine rf (fn:=Tryz.f143) ⟨func143,rfl,by kernel_rfl⟩ rfl (fun _=>rfl) fun g0 hg=>?_
 refine rn tk 5 rfl<|jb hr (fun j1=>[(2,.bo j1)]) (fun j1=>[]) (fun j1 hr=>?_) (fun j1 hr=>?_)
 .refine rn tk 4 rfl<|bs 5 hr rfl (fun c2 hr=>?_) (fun c2 hr=>?_)
  .refine rn tk 5 rfl ?_;cases hr;exact jn _ rfl rfl rfl
  refine rn tk 5 rfl ?_;cases hr;exact jn _ rfl rfl rfl
 refine rn tk 1 rfl ?_;cases hr;exact kr tk (.inr rfl) rfl rfl
theorem W5a(a0:Str)(a1:Int)(r:Int)(hr:jLa a0 a1=some r):Run prog 133 [.s a0,.i a1] (.i r):=by
 unfold jLa at hr;refine rf (fn:=f133) ⟨func133,rfl,by kernel_rfl⟩ rfl (fun _=>rfl) fun g0 hg=>?_
 refine rn tk 14 rfl<|wq (ev_max rfl rfl) rfl rfl rfl<|rn tk 4 rfl<|al1 hr (fun s1=>[(0,.s a0),(5,.i s1.1),(6,.i s1.2)]) (fun s1=>[]) (.exit 0) (fun b2=>[(5,.i b2)]) (fun b2=>[]) rfl rfl (fun s1 x3 hr=>?_) (fun b2 hr=>?_)
 .unfold yBa at hr;refine rn tk 9 rfl<|ac 12 hr rfl (fun c4 hr=>?_) (fun c4 hr=>?_)
  .refine rn tk 2 rfl<|jk (fun j5=>[(0,.s a0),(5,.i j5),(6,.i s1.2)]) (fun j5=>[]) (fun j5=>qYa s1 j5=some x3) ?_ ?_
   .refine rn tk 2 rfl<|jb hr (fun j6=>[(0,.s a0),(5,.i s1.1),(6,.i s1.2),(26,.bo j6)]) (fun j6=>[]) (fun j6 hr=>?_) (fun j6 hr=>?_)
    .refine rn tk 3 rfl ?_;obtain ⟨v7,h8,hr⟩:=zaa hr;refine ws tk h8 rfl rfl rfl rfl ?_;obtain ⟨v9,h10,hr⟩:=zaa hr;refine cl (wKa _ _ h10) rfl rfl<|rn tk 2 rfl<|bs 20 hr rfl (fun c11 hr=>?_) (fun c11 hr=>?_)
     .refine rn tk 7 rfl ?_;cases hr;exact jn _ rfl rfl rfl
     refine rn tk 3 rfl ?_;obtain ⟨v12,h13,hr⟩:=zaa hr;refine ug rfl rfl rfl<|ws tk h13 rfl rfl rfl rfl ?_;obtain ⟨v14,h15,hr⟩:=zaa hr;refine ug rfl rfl rfl<|cl (wKa _ _ h15) rfl rfl<|rn tk 2 rfl ?_;cases hr;exact jn _ rfl rfl rfl
    refine ac 26 hr rfl (fun c16 hr=>?_) (fun c16 hr=>?_)
    .refine rn tk 3 rfl<|jn s1.1 hr rfl rfl
    refine rn tk 3 rfl<|jb hr (fun j17=>[(0,.s a0),(5,.i s1.1),(6,.i s1.2),(32,.bo j17)]) (fun j17=>[]) (fun j17 hr=>?_) (fun j17 hr=>?_)
    .refine rn tk 4 rfl<|bs 29 hr rfl (fun c18 hr=>?_) (fun c18 hr=>?_)
     .refine rn tk 4 rfl ?_;cases hr;exact jn _ rfl rfl rfl
     refine rn tk 4 rfl ?_;cases hr;exact jn _ rfl rfl rfl
    refine ac 32 hr rfl (fun c19 hr=>?_) (fun c19 hr=>?_)
    .refine rn tk 4 rfl ?_;cases hr;exact ato rfl rfl rfl rfl
    refine rn tk 7 rfl<|jn s1.2 hr rfl rfl
   intro j5 hr;unfold qYa at hr;refine rn tk 5 rfl ?_;cases hr;exact atc rfl rfl
  refine rn tk 2 rfl ?_;cases hr;exact ato rfl rfl rfl rfl
 refine rn tk 9 rfl ?_;cases hr;exact kr tk (.inr rfl) rfl rfl
theorem jga(a0:Int)(r:Bool)(hr:kAa a0=some r):Run prog 159 [.pv (.b (.int .i32 a0))] (.bo r):=by
 unfold kAa at hr;refine rf (fn:=f159) ⟨func159,rfl,by kernel_rfl⟩ rfl (fun _=>rfl) fun g0 hg=>?_
 refine rn tk 7 rfl<|jb hr (fun j1=>[(0,.pv (.b (.int .i32 a0))),(3,.bo j1)]) (fun j1=>[]) (fun j1 hr=>?_) (fun j1 hr=>?_)
 .refine rn tk 4 rfl<|bs 6 hr rfl (fun c2 hr=>?_) (fun c2 hr=>?_)
  .refine rn tk 5 rfl ?_;cases hr;exact jn _ rfl rfl rfl
  refine rn tk 5 rfl ?_;cases hr;exact jn _ rfl rfl rfl
 refine ac 3 hr rfl (fun c3 hr=>?_) (fun c3 hr=>?_)
 .refine rn tk 8 rfl ?_;cases hr;exact kr tk (.inr rfl) rfl rfl
 refine jb hr (fun j4=>[(10,.bo j4)]) (fun j4=>[]) (fun j4 hr=>?_) (fun j4 hr=>?_)
 .refine rn tk 4 rfl<|bs 13 hr rfl (fun c5 hr=>?_) (fun c5 hr=>?_)
  .refine rn tk 5 rfl ?_;cases hr;exact jn _ rfl rfl rfl
  refine rn tk 5 rfl ?_;cases hr;exact jn _ rfl rfl rfl
 refine ac 10 hr rfl (fun c6 hr=>?_) (fun c6 hr=>?_)
 .refine rn tk 8 rfl ?_;cases hr;exact kr tk (.inr rfl) rfl rfl
 refine rn tk 9 rfl ?_;cases hr;exact kr tk (.inr rfl) rfl rfl
theorem yha(a0:Str)(a1:Int)(r:Int)(hr:kra a0 a1=some r):Run prog 155 [.s a0,.pv (.b (.int .i32 a1))] (.i r):=by
 unfold kra at hr;refine rf (fn:=f155) ⟨func155,rfl,by kernel_rfl⟩ rfl (fun _=>rfl) fun g0 hg=>?_
 refine rn tk 6 rfl<|jb hr (fun j1=>[(0,.s a0),(1,.pv (.b (.int .i32 a1))),(160,.bo j1)]) (fun j1=>[]) (fun j1 hr=>?_) (fun j1 hr=>?_)
 .refine rn tk 4 rfl<|bs 163 hr rfl (fun c2 hr=>?_) (fun c2 hr=>?_)
  .refine rn tk 5 rfl ?_;cases hr;exact jn _ rfl rfl rfl
  refine rn tk 5 rfl ?_;cases hr;exact jn _ rfl rfl rfl
 refine ac 160 hr rfl (fun c3 hr=>?_) (fun c3 hr=>?_)
 .refine rn tk 5 rfl ?_;obtain ⟨v4,h5,hr⟩:=zaa hr;refine cl (vza _ _ _ h5) rfl rfl<|rn tk 5 rfl ?_;cases hr;exact kr tk (.inr rfl) rfl rfl
 refine rn tk 7 rfl<|ac 171 hr rfl (fun c6 hr=>?_) (fun c6 hr=>?_)
 .refine rn tk 4 rfl<|wr 1175 tk rfl rfl rfl rfl<|rn tk 3 rfl<|al2 hr (fun s7=>[(175,.ptr 1175 0)]) (fun s7=>[(1175,.it (strB a0) s7)]) (.exit 9) (fun b8=>[]) (fun b8=>[]) .ret (fun b9=>[(4,.i b9)]) (fun b9=>[]) rfl rfl (fun s7 x11 hr=>?_) (fun b8 hr=>?_) (fun b9 hr=>?_)
  .unfold qza at hr;refine rn tk 2 rfl<|wnx hr rfl rfl rfl (fun c12 hr=>?_) (fun c12 hr=>?_)
   .refine rn tk 22 rfl<|ac 181 hr rfl (fun c13 hr=>?_) (fun c13 hr=>?_)
    .refine rn tk 8 rfl ?_;cases hr;exact ato rfl rfl rfl rfl
    refine rn tk 2 rfl ?_;cases hr;exact atc rfl rfl
   refine rn tk 7 rfl ?_;cases hr;exact ato rfl rfl rfl rfl
  .refine rn tk 9 rfl ?_;cases hr;exact kr tk (.inr rfl) rfl rfl
  refine rn tk 3 rfl ?_;cases hr;exact kr tk (.inr rfl) rfl rfl
 refine rn tk 3 rfl ?_;obtain ⟨v14,h15,hr⟩:=zaa hr;refine cl (jga _ _ h15) rfl rfl<|rn tk 4 rfl<|ac 183 hr rfl (fun c16 hr=>?_) (fun c16 hr=>?_)
 .refine rn tk 7 rfl ?_;cases hr;exact kr tk (.inr rfl) rfl rfl
 refine rn tk 29 rfl<|al2 hr (fun s17=>[(0,.s a0),(7,.s ((w6a a1))),(8,.i ((w64 ((((w6a a1)).length:Int) - 1)))),(9,.i s17)]) (fun s17=>[]) (.exit 1) (fun b18=>[]) (fun b18=>[]) .ret (fun b19=>[(4,.i b19)]) (fun b19=>[]) rfl rfl (fun s17 x21 hr=>?_) (fun b18 hr=>?_) (fun b19 hr=>?_)
 .unfold qBa at hr;refine rn tk 9 rfl<|ac 26 hr rfl (fun c22 hr=>?_) (fun c22 hr=>?_)
  .refine rn tk 4 rfl<|jk (fun j23=>[(0,.s a0),(7,.s ((w6a a1))),(8,.i j23.1),(9,.i j23.2)]) (fun j23=>[]) (fun j23=>qAa a0 a1 j23=some x21) ?_ ?_
   .refine rn tk 1 rfl ?_;obtain ⟨v24,h25,hr⟩:=zaa hr;obtain ⟨v26,h27,hr⟩:=zaa hr;refine dr 6 [(32,.u8 v26),(31,.i ((w64 ((((w6a a1)).length:Int) - 1)))),(30,.s ((w6a a1))),(29,.u8 v24),(28,.i s17),(27,.s a0)] mixed (by kernel_rfl) rfl rfl (pq tk rfl (.plain rfl) (pq tk rfl (.plain rfl) (.run (.plain rfl) (zva (QSa rfl rfl zIa h25)) (pq tk rfl (.plain rfl) (pq tk rfl (.plain rfl) (.run (.plain rfl) (zva (QSa rfl rfl zIa h27)) .nil)))))) rfl<|rn tk 3 rfl<|ac 33 hr rfl (fun c28 hr=>?_) (fun c28 hr=>?_)
    .refine rn tk 1 rfl ?_;obtain ⟨v29,h30,hr⟩:=zaa hr;obtain ⟨v31,h32,hr⟩:=zaa hr;refine dr 7 [(40,.u8 v31),(39,.i ((w64 ((((w6a a1)).length:Int) - 1)))),(38,.s ((w6a a1))),(37,.s v29),(36,.i ((w64 (s17+1)))),(35,.i s17),(34,.s a0)] mixed (by kernel_rfl) rfl rfl (pq tk rfl (.plain rfl) (pq tk rfl (.plain rfl) (pq tk rfl (.plain rfl) (.run (.plain rfl) (zva (kJb rfl rfl zIa h30)) (pq tk rfl (.plain rfl) (pq tk rfl (.plain rfl) (.run (.plain rfl) (zva (QSa rfl rfl zIa h32)) .nil))))))) rfl ?_;obtain ⟨v33,h34,hr⟩:=zaa hr;refine cl (vza _ _ _ h34) rfl rfl<|rn tk 10 rfl<|ac 43 hr rfl (fun c35 hr=>?_) (fun c35 hr=>?_)
     .refine rn tk 10 rfl ?_;cases hr;exact ato rfl rfl rfl rfl
     refine rn tk 9 rfl<|jn (((w64 ((((w6a a1)).length:Int) - 1)),(w64 (s17+(w64 (v33+1)))))) hr rfl rfl
    refine rn tk 1 rfl<|jn (((w64 ((((w6a a1)).length:Int) - 1)),s17)) hr rfl rfl
   intro j23 hr;unfold qAa at hr;refine rn tk 7 rfl<|al1 hr (fun s36=>[(0,.s a0),(7,.s ((w6a a1))),(8,.i j23.1),(9,.i j23.2),(12,.i s36)]) (fun s36=>[]) (.exit 3) (fun b37=>[(8,.i j23.1),(9,.i j23.2)]) (fun b37=>[]) rfl rfl (fun s36 x38 hr=>?_) (fun b37 hr=>?_)
   .unfold yua at hr;refine rn tk 9 rfl<|ac 51 hr rfl (fun c39 hr=>?_) (fun c39 hr=>?_)
    .refine rn tk 5 rfl ?_;obtain ⟨v40,h41,hr⟩:=zaa hr;obtain ⟨v42,h43,hr⟩:=zaa hr;refine dr 10 [(63,.u8 v42),(62,.i ((w64 (j23.1 - s36)))),(61,.i s36),(60,.i j23.1),(59,.s ((w6a a1))),(58,.u8 v40),(57,.i ((w64 (j23.2 - s36)))),(56,.i s36),(55,.i j23.2),(54,.s a0)] mixed (by kernel_rfl) rfl rfl (pq tk rfl (.plain rfl) (pq tk rfl (.plain rfl) (pq tk rfl (.plain rfl) (pq tk rfl (.plain rfl) (.run (.plain rfl) (zva (QSa rfl rfl zIa h41)) (pq tk rfl (.plain rfl) (pq tk rfl (.plain rfl) (pq tk rfl (.plain rfl) (pq tk rfl (.plain rfl) (.run (.plain rfl) (zva (QSa rfl rfl zIa h43)) .nil)))))))))) rfl<|rn tk 3 rfl<|ac 64 hr rfl (fun c44 hr=>?_) (fun c44 hr=>?_)
     .cases hr
     refine rn tk 8 rfl ?_;cases hr;exact atc rfl rfl
    refine rn tk 2 rfl ?_;cases hr;exact ato rfl rfl rfl rfl
   refine rn tk 15 rfl ?_;cases hr;exact ato rfl rfl rfl rfl
  refine rn tk 2 rfl ?_;cases hr;exact ato rfl rfl rfl rfl
 .refine rn tk 12 rfl ?_;cases hr;exact kr tk (.inr rfl) rfl rfl
 refine rn tk 4 rfl ?_;cases hr;exact kr tk (.inr rfl) rfl rfl
theorem yra(a0:Int)(r:Bool)(hr:zVa a0=some r):Run prog 156 [.i a0] (.bo r):=by
 unfold zVa at hr;refine rf (fn:=f156) ⟨func156,rfl,by kernel_rfl⟩ rfl (fun _=>rfl) fun g0 hg=>?_
 refine rn tk 13 rfl ?_;cases hr;exact kr tk (.inr rfl) rfl rfl
theorem ZZa(a0:Str)(a1:Str)(r:Int)(hr:vGa a0 a1=some r):Run prog 153 [.s a0,.s a1] (.i r):=by
 unfold vGa at hr;refine rf (fn:=Tryz.f153) ⟨func153,rfl,by kernel_rfl⟩ rfl (fun _=>rfl) fun g0 hg=>?_
 refine rn tk 12 rfl<|ac 12 hr rfl (fun c1 hr=>?_) (fun c1 hr=>?_)
 .refine rn tk 7 rfl ?_;cases hr;exact kr tk (.inr rfl) rfl rfl
 refine rn tk 10 rfl<|ac 15 hr rfl (fun c2 hr=>?_) (fun c2 hr=>?_)
 .refine rn tk 3 rfl ?_;obtain ⟨v3,h4,hr⟩:=zaa hr;refine ws tk h4 rfl rfl rfl rfl<|wur tk rfl rfl rfl<|rn tk 3 rfl<|jb hr (fun j5=>[(0,.s a0),(5,.pv (.b (.int .i32 j5)))]) (fun j5=>[]) (fun j5 hr=>?_) (fun j5 hr=>?_)
  .refine rn tk 6 rfl<|ac 20 hr rfl (fun c6 hr=>?_) (fun c6 hr=>?_)
   .refine rn tk 3 rfl ?_;cases hr;exact jn _ rfl rfl rfl
   refine rn tk 1 rfl ?_;cases hr;exact jn _ rfl rfl rfl
  refine rn tk 4 rfl ?_;obtain ⟨v7,h8,hr⟩:=zaa hr;refine cl (yha _ _ _ h8) rfl rfl<|rn tk 5 rfl ?_;cases hr;exact kr tk (.inr rfl) rfl rfl
 refine rn tk 7 rfl ?_;obtain ⟨v9,h10,hr⟩:=zaa hr;refine cl (yra _ _ h10) rfl rfl<|rn tk 2 rfl<|ac 26 hr rfl (fun c11 hr=>?_) (fun c11 hr=>?_)
 .refine rn tk 3 rfl ?_;cases hr
 refine rn tk 6 rfl<|wr 1045 tk rfl rfl rfl rfl<|rn tk 3 rfl<|al2 hr (fun s12=>[(1,.s a1),(45,.ptr 1045 0)]) (fun s12=>[(1045,.it (strB a0) s12)]) (.exit 2) (fun b13=>[]) (fun b13=>[]) .ret (fun b14=>[(4,.i b14)]) (fun b14=>[]) rfl rfl (fun s12 x16 hr=>?_) (fun b13 hr=>?_) (fun b14 hr=>?_)
 .unfold qCa at hr;refine rn tk 2 rfl<|wnx hr rfl rfl rfl (fun c17 hr=>?_) (fun c17 hr=>?_)
  .refine rn tk 20 rfl ?_;obtain ⟨v18,h19,hr⟩:=zaa hr;refine cl (yha _ _ _ h19) rfl rfl<|rn tk 3 rfl<|ac 53 hr rfl (fun c20 hr=>?_) (fun c20 hr=>?_)
   .refine rn tk 8 rfl ?_;cases hr;exact ato rfl rfl rfl rfl
   refine rn tk 2 rfl ?_;cases hr;exact atc rfl rfl
  refine rn tk 7 rfl ?_;cases hr;exact ato rfl rfl rfl rfl
 .refine rn tk 8 rfl ?_;cases hr;exact kr tk (.inr rfl) rfl rfl
 refine rn tk 2 rfl ?_;cases hr;exact kr tk (.inr rfl) rfl rfl
theorem YLa(g:G)(vs:Array Value)(t:TypeId):Old (fun _=>False) g ⟨g.w.alloc (.cells vs t),fun k=>if k=g.w.heap.size then 0 else g.u k,g.loc⟩:=by
 have h:=yLa g vs t 0 0 (g.loc 0);have e:(g.alloc vs t 0 0 (g.loc 0))=⟨g.w.alloc (.cells vs t),fun k=>if k=g.w.heap.size then 0 else g.u k,g.loc⟩:=by
  unfold G.alloc
  congr 1
  funext k;split
  .rename_i hk;rw[hk]
  rfl
 rw[<-e];exact h
theorem zBb{g:G}(h:Wf g)(vs:Array Value)(t:TypeId):Wf ⟨g.w.alloc (.cells vs t),fun k=>if k=g.w.heap.size then 0 else g.u k,g.loc⟩:=by
 intro k hk;have hk:g.w.heap.size+1<=k:=by simpa using hk
 show (if k=g.w.heap.size then 0 else g.u k)=0;rw[if_neg (by omega)];exact h k (by omega)
theorem q2b{t:Str}(h:Ysa t=true):∀(j:Nat) b,(strB t).data.toList[j]? =some b->b.toNat < 128:=fun j b hb=>Yza h (List.mem_of_getElem? hb)
theorem Kqa(s t:Str)(r:Int)(hr:k5a s t=some r):Run prog 153 [.s s,.s t] (.i r):=by
 unfold k5a at hr;split at hr
 case isFalse=>cases hr
 rename_i hc;obtain ⟨h1,h2,h3,h4⟩:=hc;by_cases h8:s.length<=8
 .exact ZZa s t r (by rw[zdb s t h8 h3 h2 h4];exact hr)
 cases hr;refine ⟨⟨_,_,⟨func153,rfl,by kernel_rfl⟩⟩,fun g vs hw hg ha=>?_⟩;obtain ⟨hsz,hrel⟩:=ha;obtain ⟨l⟩:=vs
 match l,hsz with
 | [x,y],_=>
  obtain rfl:=KZa (hrel 0 _ rfl);obtain rfl:=KZa (hrel 1 _ rfl);have h116:(prog.info? 180).map (fun i=>(i.zero,i.size))=some (some (.agg (Array.replicate 256 (.bool false))),256):=by kernel_rfl
  have hz:=(zero_of_info h116).1;refine callsIn_wide.2 ((Tryz.strings_IndexAny_long hz (strB s) (strB t) g.w (by rw[koa];exact h3) (by rw[koa];omega) (by rw[koa];exact h1) (by rw[koa];exact h2) (q2b h4)).mono ?_);rintro e w' ⟨rfl,rfl⟩;have o1:=YLa g (Lib.setCells t) 180;have w1:=zBb hw (Lib.setCells t) 180;have o2:=YLa ⟨g.w.alloc (.cells (Lib.setCells t) 180),fun k=>if k=g.w.heap.size then 0 else g.u k,g.loc⟩ (Lib.setCells t) 180;have w2:=zBb w1 (Lib.setCells t) 180;have o3:Old (fun _=>False) g _:=o1.trans (o2.mono (S' :=fun b=>False∨g.w.heap.size<=b) (by intro b _ hf;exact hf.elim));exact ⟨⟨_,_,_⟩,_,rfl,(by rfl),o3,w2,(by rfl),.pv (.b rfl)⟩
theorem Zfa(a0:Str)(a1:Str)(r:Bool)(hr:kma a0 a1=some r):Run prog 149 [.s a0,.s a1] (.bo r):=by
 unfold kma at hr;refine rf (fn:=f149) ⟨func149,rfl,by kernel_rfl⟩ rfl (fun _=>rfl) fun g0 hg=>?_
 refine rn tk 9 rfl ?_;obtain ⟨v1,h2,hr⟩:=zaa hr;refine cl (Kqa _ _ _ h2) rfl rfl<|rn tk 5 rfl ?_;cases hr;exact kr tk (.inr rfl) rfl rfl
theorem JBa(a0:Str)(r:Bool)(hr:ZKa a0=some r):Run prog 142 [.s a0] (.bo r):=by
 unfold ZKa at hr;refine rf (fn:=f142) ⟨func142,rfl,by kernel_rfl⟩ rfl (fun _=>rfl) fun g0 hg=>?_
 refine rn tk 8 rfl ?_;obtain ⟨v1,h2,hr⟩:=zaa hr;refine cl (Zfa _ _ _ h2) rfl rfl<|rn tk 4 rfl ?_;cases hr;exact kr tk (.inr rfl) rfl rfl
theorem W6a(a0:Str)(r:Bool)(hr:jKa a0=some r):Run prog 132 [.s a0] (.bo r):=by
 unfold jKa at hr;refine rf (fn:=f132) ⟨func132,rfl,by kernel_rfl⟩ rfl (fun _=>rfl) fun g0 hg=>?_
 refine rn tk 5 rfl<|jb hr (fun j1=>[(2,.bo j1)]) (fun j1=>[]) (fun j1 hr=>?_) (fun j1 hr=>?_)
 .refine rn tk 2 rfl ?_;obtain ⟨v2,h3,hr⟩:=zaa hr;refine cl (JBa _ _ h3) rfl rfl<|rn tk 2 rfl<|bs 6 hr rfl (fun c4 hr=>?_) (fun c4 hr=>?_)
  .refine rn tk 3 rfl<|bs 9 hr rfl (fun c5 hr=>?_) (fun c5 hr=>?_)
   .refine rn tk 17 rfl ?_;cases hr;exact jn _ rfl rfl rfl
   refine rn tk 1 rfl ?_;obtain ⟨v6,h7,hr⟩:=zaa hr;refine ug rfl rfl rfl<|ws tk h7 rfl rfl rfl rfl ?_;obtain ⟨v8,h9,hr⟩:=zaa hr;refine ug rfl rfl rfl<|cl (wKa _ _ h9) rfl rfl<|rn tk 2 rfl<|bs 14 hr rfl (fun c10 hr=>?_) (fun c10 hr=>?_)
   .refine rn tk 4 rfl ?_;obtain ⟨v11,h12,hr⟩:=zaa hr;refine ug rfl rfl rfl<|ws tk h12 rfl rfl rfl rfl ?_;obtain ⟨v13,h14,hr⟩:=zaa hr;refine ug rfl rfl rfl<|cl (wKa _ _ h14) rfl rfl<|rn tk 6 rfl ?_;cases hr;exact jn _ rfl rfl rfl
   refine rn tk 12 rfl ?_;cases hr;exact jn _ rfl rfl rfl
  refine rn tk 20 rfl ?_;cases hr;exact jn _ rfl rfl rfl
 refine rn tk 1 rfl ?_;cases hr;exact kr tk (.inr rfl) rfl rfl
theorem QKa(a0:Str)(a1:Str)(r:(List Str) × zpa)(hr:jMa a0 a1=some r):Run prog 115 [.s a0,.s a1] (.tup [.l cS r.1,.agg [.i r.2.Code,.i r.2.Index]]):=by
 unfold jMa at hr;refine rf (fn:=f115) ⟨func115,rfl,by kernel_rfl⟩ rfl (fun _=>rfl) fun g0 hg=>?_
 refine rn tk 11 rfl ?_;obtain ⟨v1,h2,hr⟩:=zaa hr;refine cl (JAa _ _ h2) rfl rfl<|rn tk 4 rfl<|ac 12 hr rfl (fun c3 hr=>?_) (fun c3 hr=>?_)
 .refine rn tk 2 rfl ?_;obtain ⟨v4,h5,hr⟩:=zaa hr;refine cl (zma _ _ _ h5) rfl rfl<|rn tk 7 rfl ?_;cases hr;exact kr tk (.inr rfl) rfl rfl
 refine rn tk 8 rfl<|ac 17 hr rfl (fun c6 hr=>?_) (fun c6 hr=>?_)
 .refine rn tk 2 rfl ?_;obtain ⟨v7,h8,hr⟩:=zaa hr;refine cl (zma _ _ _ h8) rfl rfl<|rn tk 7 rfl ?_;cases hr;exact kr tk (.inr rfl) rfl rfl
 refine rn tk 3 rfl ?_;obtain ⟨v9,h10,hr⟩:=zaa hr;refine cl (W6a _ _ h10) rfl rfl<|rn tk 4 rfl<|ac 22 hr rfl (fun c11 hr=>?_) (fun c11 hr=>?_)
 .refine rn tk 2 rfl ?_;obtain ⟨v12,h13,hr⟩:=zaa hr;refine cl (zma _ _ _ h13) rfl rfl<|rn tk 7 rfl ?_;cases hr;exact kr tk (.inr rfl) rfl rfl
 refine rn tk 6 rfl ?_;obtain ⟨v14,h15,hr⟩:=zaa hr;refine wc h15 rfl rfl rfl<|rn tk 1 rfl ?_;obtain ⟨v16,h17,hr⟩:=zaa hr;refine wc h17 rfl rfl rfl<|rn tk 10 rfl ?_;refine wNa 1008 (d:=8) 9 1 rfl rfl rfl (hO ?_);refine rn tk 4 rfl<|al1 hr (fun s18=>[(5,.ptr 5 0),(6,.s s18.1),(7,.i s18.2.1),(8,.hs 1008 0)]) (fun s18=>[(1008,.row 9 false 1 (List.map cS s18.2.2)),(5,.cells [.i 0,.i 0])]) (.exit 1) (fun b19=>[(5,.ptr 5 0),(6,.s b19.1),(8,.hs 1008 0)]) (fun b19=>[(1008,.row 9 false 1 (List.map cS b19.2)),(5,.cells [.i 0,.i 0])]) rfl rfl (fun s18 x20 hr=>?_) (fun b19 hr=>?_)
 .unfold yca at hr;refine rn tk 8 rfl<|ac 36 hr rfl (fun c21 hr=>?_) (fun c21 hr=>?_)
  .refine rn tk 7 rfl ?_;obtain ⟨v22,h23,hr⟩:=zaa hr;refine cl (W5a _ _ _ h23) rfl rfl<|rn tk 10 rfl<|ac 41 hr rfl (fun c24 hr=>?_) (fun c24 hr=>?_)
   .refine rn tk 3 rfl ?_;cases hr;exact ato rfl rfl rfl rfl
   refine rn tk 7 rfl ?_;obtain ⟨v25,h26,hr⟩:=zaa hr;refine wscH tk h26 rfl rfl rfl rfl<|wz cS ([v25]:List Str) tk rfl rfl (fun _=>rfl) rfl rfl rfl ?_;obtain ⟨v27,h28,hr⟩:=zaa hr;refine wa tk h28 rfl rfl rfl rfl (fun _=>rfl) rfl rfl<|rn tk 6 rfl ?_;obtain ⟨v29,h30,hr⟩:=zaa hr;refine wscL tk h30 rfl rfl rfl rfl<|rn tk 4 rfl ?_;cases hr;exact atc rfl rfl
  refine rn tk 2 rfl ?_;cases hr;exact ato rfl rfl rfl rfl
 refine rn tk 6 rfl<|wz cS ([b19.1]:List Str) tk rfl rfl (fun _=>rfl) rfl rfl rfl ?_;obtain ⟨v31,h32,hr⟩:=zaa hr;refine wa tk h32 rfl rfl rfl rfl (fun _=>rfl) rfl rfl<|rn tk 7 rfl<|wnh tk rfl rfl rfl rfl<|rn tk 4 rfl ?_;refine yja (d:=55) (F:=cS) (l:=v31) rfl rfl (hC ?_);refine al2 hr (fun s34=>[(5,.ptr 5 0),(8,.hs 1008 0),(55,.l cS v31),(56,.i ((v31.length:Int))),(57,.i s34)]) (fun s34=>[(1008,.row 9 false 1 (List.map cS v31)),(5,.cells [.i 0,.i 0])]) (.exit 3) (fun b35=>[(5,.ptr 5 0),(8,.hs 1008 0)]) (fun b35=>[(1008,.row 9 false 1 (List.map cS v31)),(5,.cells [.i 0,.i 0])]) .ret (fun b36=>[(4,.l cS b36.1),(5,.ptr 5 0)]) (fun b36=>[(5,.cells [.i b36.2.Code,.i b36.2.Index])]) rfl rfl (fun s34 x38 hr=>?_) (fun b35 hr=>?_) (fun b36 hr=>?_)
 .unfold joa at hr;refine rn tk 6 rfl<|ac 58 hr rfl (fun c39 hr=>?_) (fun c39 hr=>?_)
  .refine rn tk 7 rfl ?_;obtain ⟨v40,h41,hr⟩:=zaa hr;refine wi tk h41 rfl rfl rfl rfl rfl<|rn tk 12 rfl<|ac 64 hr rfl (fun c42 hr=>?_) (fun c42 hr=>?_)
   .refine rn tk 3 rfl ?_;obtain ⟨v43,h44,hr⟩:=zaa hr;refine cl (zma _ _ _ h44) rfl rfl<|rn tk 7 rfl ?_;cases hr;exact ato rfl rfl rfl rfl
   refine rn tk 7 rfl ?_;cases hr;exact atc rfl rfl
  refine rn tk 2 rfl ?_;cases hr;exact ato rfl rfl rfl rfl
 .refine rn tk 5 rfl ?_;obtain ⟨v45,h46,hr⟩:=zaa hr;refine cl (zLa _ h46) rfl rfl<|rn tk 4 rfl ?_;refine yja (d:=4) (F:=cS) (l:=v31) rfl rfl (hC ?_);refine rn tk 1 rfl ?_;cases hr;exact kr tk (.inr rfl) rfl rfl
 refine rn tk 2 rfl ?_;cases hr;exact kr tk (.inr rfl) rfl rfl
theorem K2a(a0:List zha)(r:zpa)(hr:vsa a0=some r):Run prog 88 [.l zha.pc a0] (.agg [.i r.Code,.i r.Index]):=by
 unfold vsa at hr;refine rf (fn:=f88) ⟨func88,rfl,by kernel_rfl⟩ rfl (fun _=>rfl) fun g0 hg=>?_
 refine rn tk 9 rfl<|wn tk rfl rfl rfl<|rn tk 3 rfl<|ac 9 hr rfl (fun c1 hr=>?_) (fun c1 hr=>?_)
 .refine rn tk 2 rfl ?_;obtain ⟨v2,h3,hr⟩:=zaa hr;refine cl (zma _ _ _ h3) rfl rfl<|rn tk 5 rfl ?_;cases hr;exact kr tk (.inr rfl) rfl rfl
 refine rn tk 6 rfl<|wn tk rfl rfl rfl<|rn tk 4 rfl<|al2 hr (fun s4=>[(2,.ptr 2 0),(11,.l zha.pc a0),(12,.i ((a0.length:Int))),(13,.i s4)]) (fun s4=>[(2,.cells [.i 0,.i 0])]) (.exit 0) (fun b5=>[(2,.ptr 2 0)]) (fun b5=>[(2,.cells [.i 0,.i 0])]) .ret (fun b6=>[(2,.ptr 2 0)]) (fun b6=>[(2,.cells [.i b6.Code,.i b6.Index])]) rfl rfl (fun s4 x8 hr=>?_) (fun b5 hr=>?_) (fun b6 hr=>?_)
 .unfold via at hr;refine rn tk 6 rfl<|ac 14 hr rfl (fun c9 hr=>?_) (fun c9 hr=>?_)
  .refine rn tk 7 rfl ?_;obtain ⟨v10,h11,hr⟩:=zaa hr;refine wi tk h11 rfl rfl rfl rfl rfl<|rn tk 12 rfl ?_;obtain ⟨v12,h13,hr⟩:=zaa hr;refine cl (QKa _ _ _ h13) rfl rfl<|rn tk 11 rfl ?_;obtain ⟨v14,h15,hr⟩:=zaa hr;refine cl (z1a _ _ h15) rfl rfl<|rn tk 2 rfl<|ac 27 hr rfl (fun c16 hr=>?_) (fun c16 hr=>?_)
   .refine rn tk 5 rfl ?_;obtain ⟨v17,h18,hr⟩:=zaa hr;refine cl (zma _ _ _ h18) rfl rfl<|rn tk 6 rfl ?_;cases hr;exact ato rfl rfl rfl rfl
   refine rn tk 7 rfl ?_;cases hr;exact atc rfl rfl
  refine rn tk 2 rfl ?_;cases hr;exact ato rfl rfl rfl rfl
 .refine rn tk 4 rfl ?_;obtain ⟨v19,h20,hr⟩:=zaa hr;refine cl (zLa _ h20) rfl rfl<|rn tk 4 rfl ?_;cases hr;exact kr tk (.inr rfl) rfl rfl
 refine rn tk 2 rfl ?_;cases hr;exact kr tk (.inr rfl) rfl rfl
theorem W7a(a0:List UInt8)(r:Int)(hr:jNa a0=some r):Run prog 116 [.l cU a0] (.i r):=by
 unfold jNa at hr;refine rf (fn:=f116) ⟨func116,rfl,by kernel_rfl⟩ rfl (fun _=>rfl) fun g0 hg=>?_
 refine rn tk 17 rfl<|al2 hr (fun s1=>[(0,.l cU a0),(3,.i s1.1),(4,.i s1.2)]) (fun s1=>[]) (.exit 0) (fun b2=>[]) (fun b2=>[]) .ret (fun b3=>[(2,.i b3)]) (fun b3=>[]) rfl rfl (fun s1 x5 hr=>?_) (fun b2 hr=>?_) (fun b3 hr=>?_)
 .unfold vHa at hr;refine rn tk 5 rfl<|wn tk rfl rfl rfl<|rn tk 3 rfl<|ac 9 hr rfl (fun c6 hr=>?_) (fun c6 hr=>?_)
  .refine rn tk 2 rfl<|jk (fun j7=>[(0,.l cU a0),(3,.i j7.1),(4,.i j7.2)]) (fun j7=>[]) (fun j7=>wza j7=some x5) ?_ ?_
   .refine rn tk 5 rfl ?_;obtain ⟨v8,h9,hr⟩:=zaa hr;refine wi tk h9 rfl rfl rfl rfl rfl<|rn tk 5 rfl<|jb hr (fun j10=>[(0,.l cU a0),(3,.i s1.1),(4,.i s1.2),(5,.u8 v8),(32,.bo j10)]) (fun j10=>[]) (fun j10 hr=>?_) (fun j10 hr=>?_)
    .refine rn tk 4 rfl<|bs 18 hr rfl (fun c11 hr=>?_) (fun c11 hr=>?_)
     .refine rn tk 3 rfl<|ug rfl rfl rfl<|wn tk rfl rfl rfl<|rn tk 3 rfl<|bs 25 hr rfl (fun c12 hr=>?_) (fun c12 hr=>?_)
      .refine rn tk 3 rfl ?_;obtain ⟨v13,h14,hr⟩:=zaa hr;refine ug rfl rfl rfl<|wi tk h14 rfl rfl rfl rfl rfl<|rn tk 4 rfl ?_;cases hr;exact jn _ rfl rfl rfl
      refine rn tk 8 rfl ?_;cases hr;exact jn _ rfl rfl rfl
     refine rn tk 15 rfl ?_;cases hr;exact jn _ rfl rfl rfl
    refine ac 32 hr rfl (fun c15 hr=>?_) (fun c15 hr=>?_)
    .refine rn tk 15 rfl<|jn ((0,(w64 (s1.2+1)))) hr rfl rfl
    refine rn tk 3 rfl<|jb hr (fun j16=>[(0,.l cU a0),(3,.i s1.1),(4,.i s1.2),(40,.bo j16)]) (fun j16=>[]) (fun j16 hr=>?_) (fun j16 hr=>?_)
    .refine rn tk 4 rfl<|bs 37 hr rfl (fun c17 hr=>?_) (fun c17 hr=>?_)
     .refine rn tk 4 rfl ?_;cases hr;exact jn _ rfl rfl rfl
     refine rn tk 4 rfl ?_;cases hr;exact jn _ rfl rfl rfl
    refine ac 40 hr rfl (fun c18 hr=>?_) (fun c18 hr=>?_)
    .refine rn tk 9 rfl ?_;cases hr;exact ato rfl rfl rfl rfl
    refine rn tk 15 rfl<|ac 44 hr rfl (fun c19 hr=>?_) (fun c19 hr=>?_)
    .refine rn tk 8 rfl ?_;cases hr;exact ato rfl rfl rfl rfl
    refine rn tk 2 rfl<|jn (((w64 (s1.1+1)),s1.2)) hr rfl rfl
   intro j7 hr;unfold wza at hr;refine rn tk 5 rfl ?_;cases hr;exact atc rfl rfl
  refine rn tk 2 rfl ?_;cases hr;exact ato rfl rfl rfl rfl
 .refine rn tk 8 rfl ?_;cases hr;exact kr tk (.inr rfl) rfl rfl
 refine rn tk 2 rfl ?_;cases hr;exact kr tk (.inr rfl) rfl rfl
theorem VBa(a0:List UInt8)(r:zpa)(hr:yda a0=some r):Run prog 90 [.l cU a0] (.agg [.i r.Code,.i r.Index]):=by
 unfold yda at hr;refine rf (fn:=f90) ⟨func90,rfl,by kernel_rfl⟩ rfl (fun _=>rfl) fun g0 hg=>?_
 refine rn tk 9 rfl ?_;obtain ⟨v1,h2,hr⟩:=zaa hr;refine cl (W7a _ _ h2) rfl rfl<|rn tk 9 rfl<|ac 5 hr rfl (fun c3 hr=>?_) (fun c3 hr=>?_)
 .refine rn tk 2 rfl ?_;obtain ⟨v4,h5,hr⟩:=zaa hr;refine cl (zma _ _ _ h5) rfl rfl<|rn tk 6 rfl ?_;cases hr;exact kr tk (.inr rfl) rfl rfl
 refine rn tk 6 rfl<|ac 8 hr rfl (fun c6 hr=>?_) (fun c6 hr=>?_)
 .refine rn tk 2 rfl ?_;obtain ⟨v7,h8,hr⟩:=zaa hr;refine cl (zma _ _ _ h8) rfl rfl<|rn tk 6 rfl ?_;cases hr;exact kr tk (.inr rfl) rfl rfl
 refine rn tk 5 rfl ?_;obtain ⟨v9,h10,hr⟩:=zaa hr;refine cl (zLa _ h10) rfl rfl<|rn tk 4 rfl ?_;cases hr;exact kr tk (.inr rfl) rfl rfl
theorem Vda(a0:zua)(r:List UInt8)(hr:wya a0=some r):Run prog 89 [.agg [.l zha.pc a0.Fields,.l cU a0.Body]] (.l cU r):=by
 unfold wya at hr;refine rf (fn:=f89) ⟨func89,rfl,by kernel_rfl⟩ rfl (fun _=>rfl) fun g0 hg=>?_
 refine rn tk 9 rfl ?_;refine wNa 1003 (d:=3) 5 1 rfl rfl rfl (hO ?_);refine rn tk 7 rfl<|wn tk rfl rfl rfl<|rn tk 4 rfl<|al1 hr (fun s1=>[(1,.ptr 1 0),(3,.hs 1003 0),(11,.l zha.pc a0.Fields),(12,.i ((a0.Fields.length:Int))),(13,.i s1.1)]) (fun s1=>[(1003,.row 5 false 1 (List.map cU s1.2)),(1,.cells [.l zha.pc a0.Fields,.l cU a0.Body])]) (.exit 0) (fun b2=>[(1,.ptr 1 0),(3,.hs 1003 0)]) (fun b2=>[(1003,.row 5 false 1 (List.map cU b2)),(1,.cells [.l zha.pc a0.Fields,.l cU a0.Body])]) rfl rfl (fun s1 x3 hr=>?_) (fun b2 hr=>?_)
 .unfold q5a at hr;refine rn tk 6 rfl<|ac 14 hr rfl (fun c4 hr=>?_) (fun c4 hr=>?_)
  .refine rn tk 6 rfl ?_;obtain ⟨v5,h6,hr⟩:=zaa hr;refine wi tk h6 rfl rfl rfl rfl rfl<|rn tk 11 rfl ?_;obtain ⟨v7,h8,hr⟩:=zaa hr;refine cl (QKa _ _ _ h8) rfl rfl<|rn tk 11 rfl<|wn tk rfl rfl rfl<|rn tk 4 rfl<|al1 hr (fun s9=>[(1,.ptr 1 0),(3,.hs 1003 0),(11,.l zha.pc a0.Fields),(12,.i ((a0.Fields.length:Int))),(13,.i s1.1),(25,.l cS v7.1),(26,.i ((v7.1.length:Int))),(27,.i s9.1)]) (fun s9=>[(1003,.row 5 false 1 (List.map cU s9.2)),(1,.cells [.l zha.pc a0.Fields,.l cU a0.Body])]) (.exit 2) (fun b10=>[(1,.ptr 1 0),(3,.hs 1003 0),(11,.l zha.pc a0.Fields),(12,.i ((a0.Fields.length:Int))),(13,.i s1.1)]) (fun b10=>[(1003,.row 5 false 1 (List.map cU b10)),(1,.cells [.l zha.pc a0.Fields,.l cU a0.Body])]) rfl rfl (fun s9 x11 hr=>?_) (fun b10 hr=>?_)
   .unfold q4a at hr;refine rn tk 6 rfl<|ac 28 hr rfl (fun c12 hr=>?_) (fun c12 hr=>?_)
    .refine rn tk 6 rfl ?_;obtain ⟨v13,h14,hr⟩:=zaa hr;refine wi tk h14 rfl rfl rfl rfl rfl<|rn tk 7 rfl ?_;obtain ⟨v15,h16,hr⟩:=zaa hr;refine wo (Vja (k:=33) (l:=s9.2) (s:=v13) (lim:=140737488355328) rfl rfl rfl rfl zMa zIa.u qya rfl h16) rfl<|wz cU ([(13:UInt8),(10:UInt8)]:List UInt8) tk rfl rfl (fun _=>rfl) rfl rfl rfl ?_;obtain ⟨v17,h18,hr⟩:=zaa hr;refine wa tk h18 rfl rfl rfl rfl (fun _=>rfl) rfl rfl<|rn tk 8 rfl ?_;cases hr;exact atc rfl rfl
    refine rn tk 2 rfl ?_;cases hr;exact ato rfl rfl rfl rfl
   refine rn tk 7 rfl ?_;cases hr;exact atc rfl rfl
  refine rn tk 2 rfl ?_;cases hr;exact ato rfl rfl rfl rfl
 refine rn tk 3 rfl ?_;obtain ⟨v19,h20,hr⟩:=zaa hr;obtain ⟨v21,h22,hr⟩:=zaa hr;refine zQb [([false,false,false,false,false,false,false],[(1,.ptr 1 0),(3,.hs 1003 0)],[(1003,.row 5 false 1 (List.map cU b2)),(1,.cells [.l zha.pc a0.Fields,.l cU a0.Body])]),([true,false,false,false,false,false,false],[(1,.ptr 1 0),(3,.hs 1003 0),(38,.hs 1003 0)],[(1003,.row 5 false 1 (List.map cU b2)),(1,.cells [.l zha.pc a0.Fields,.l cU a0.Body])]),([false,true,false,false,false,false,false],[(1,.ptr 1 0),(3,.hs 1003 0),(39,.l cU (([(13:UInt8),(10:UInt8)]:List UInt8)))],[(1003,.row 5 false 1 (List.map cU b2)),(1,.cells [.l zha.pc a0.Fields,.l cU a0.Body])]),([false,false,false,true,false,false,false],[(1,.ptr 1 0),(3,.hs 1003 0),(41,.ptr 1 1)],[(1003,.row 5 false 1 (List.map cU b2)),(1,.cells [.l zha.pc a0.Fields,.l cU a0.Body])]),([true,true,false,false,false,false,false],[(1,.ptr 1 0),(3,.hs 1003 0),(38,.hs 1003 0),(39,.l cU (([(13:UInt8),(10:UInt8)]:List UInt8)))],[(1003,.row 5 false 1 (List.map cU b2)),(1,.cells [.l zha.pc a0.Fields,.l cU a0.Body])]),([true,false,false,true,false,false,false],[(1,.ptr 1 0),(3,.hs 1003 0),(38,.hs 1003 0),(41,.ptr 1 1)],[(1003,.row 5 false 1 (List.map cU b2)),(1,.cells [.l zha.pc a0.Fields,.l cU a0.Body])]),([false,true,false,true,false,false,false],[(1,.ptr 1 0),(3,.hs 1003 0),(39,.l cU (([(13:UInt8),(10:UInt8)]:List UInt8))),(41,.ptr 1 1)],[(1003,.row 5 false 1 (List.map cU b2)),(1,.cells [.l zha.pc a0.Fields,.l cU a0.Body])]),([false,false,false,true,true,false,false],[(1,.ptr 1 0),(3,.hs 1003 0),(41,.ptr 1 1),(42,.l cU a0.Body)],[(1003,.row 5 false 1 (List.map cU b2)),(1,.cells [.l zha.pc a0.Fields,.l cU a0.Body])]),([true,true,true,false,false,false,false],[(1,.ptr 1 0),(39,.l cU (([(13:UInt8),(10:UInt8)]:List UInt8))),(40,.hs 1003 0)],[(1003,.row 5 false 1 (List.map cU v19)),(1,.cells [.l zha.pc a0.Fields,.l cU a0.Body])]),([true,true,false,true,false,false,false],[(1,.ptr 1 0),(3,.hs 1003 0),(38,.hs 1003 0),(39,.l cU (([(13:UInt8),(10:UInt8)]:List UInt8))),(41,.ptr 1 1)],[(1003,.row 5 false 1 (List.map cU b2)),(1,.cells [.l zha.pc a0.Fields,.l cU a0.Body])]),([true,false,false,true,true,false,false],[(1,.ptr 1 0),(3,.hs 1003 0),(38,.hs 1003 0),(41,.ptr 1 1),(42,.l cU a0.Body)],[(1003,.row 5 false 1 (List.map cU b2)),(1,.cells [.l zha.pc a0.Fields,.l cU a0.Body])]),([false,true,false,true,true,false,false],[(1,.ptr 1 0),(3,.hs 1003 0),(39,.l cU (([(13:UInt8),(10:UInt8)]:List UInt8))),(41,.ptr 1 1),(42,.l cU a0.Body)],[(1003,.row 5 false 1 (List.map cU b2)),(1,.cells [.l zha.pc a0.Fields,.l cU a0.Body])]),([true,true,true,true,false,false,false],[(1,.ptr 1 0),(39,.l cU (([(13:UInt8),(10:UInt8)]:List UInt8))),(40,.hs 1003 0),(41,.ptr 1 1)],[(1003,.row 5 false 1 (List.map cU v19)),(1,.cells [.l zha.pc a0.Fields,.l cU a0.Body])]),([true,true,false,true,true,false,false],[(1,.ptr 1 0),(3,.hs 1003 0),(38,.hs 1003 0),(39,.l cU (([(13:UInt8),(10:UInt8)]:List UInt8))),(41,.ptr 1 1),(42,.l cU a0.Body)],[(1003,.row 5 false 1 (List.map cU b2)),(1,.cells [.l zha.pc a0.Fields,.l cU a0.Body])]),([true,true,true,true,true,false,false],[(1,.ptr 1 0),(39,.l cU (([(13:UInt8),(10:UInt8)]:List UInt8))),(40,.hs 1003 0),(41,.ptr 1 1),(42,.l cU a0.Body)],[(1003,.row 5 false 1 (List.map cU v19)),(1,.cells [.l zha.pc a0.Fields,.l cU a0.Body])]),([true,true,true,true,true,true,false],[(1,.ptr 1 0),(39,.l cU (([(13:UInt8),(10:UInt8)]:List UInt8))),(41,.ptr 1 1),(42,.l cU a0.Body),(43,.hs 1003 0)],[(1003,.row 5 false 1 (List.map cU v21)),(1,.cells [.l zha.pc a0.Fields,.l cU a0.Body])]),([true,true,true,true,true,true,true],[(1,.ptr 1 0),(2,.hs 1003 0),(39,.l cU (([(13:UInt8),(10:UInt8)]:List UInt8))),(41,.ptr 1 1),(42,.l cU a0.Body),(43,.hs 1003 0)],[(1003,.row 5 false 1 (List.map cU v21)),(1,.cells [.l zha.pc a0.Fields,.l cU a0.Body])])] mixed (by kernel_rfl) rfl rfl (zea rfl (zea rfl zRa)) (zfa rfl (zfa rfl zDa)) (.cons (.step [0,1,3] (by kernel_rfl) rfl (.cons (.yes 1 rfl (zxa rfl) (zXa (d:=38) rfl rfl wqa) rfl (zea rfl (zea rfl (zea rfl zRa))) (zfa rfl (zfa rfl zDa))) (.cons (.yes 2 rfl (zxa rfl) (VWa (d:=39) rfl rfl (jya (F:=cU) (l:=([(13:UInt8),(10:UInt8)]:List UInt8)) zMa qya rfl (fun _=>rfl) rfl rfl)) rfl (zea rfl (zea rfl (zea rfl zRa))) (zfa rfl (zfa rfl zDa))) (.cons (.yes 3 rfl (zxa rfl) (zXa (d:=41) rfl rfl (wga rfl qma.u rfl zMa rfl)) rfl (zea rfl (zea rfl (zea rfl zRa))) (zfa rfl (zfa rfl zDa))) .nil)))) (.cons (.step [1,3] (by kernel_rfl) rfl (.cons (.yes 4 rfl (zxa rfl) (VWa (d:=39) rfl rfl (jya (F:=cU) (l:=([(13:UInt8),(10:UInt8)]:List UInt8)) zMa qya rfl (fun _=>rfl) rfl rfl)) rfl (zea rfl (zea rfl (zea rfl (zea rfl zRa)))) (zfa rfl (zfa rfl zDa))) (.cons (.yes 5 rfl (zxa rfl) (zXa (d:=41) rfl rfl (wga rfl qma.u rfl zMa rfl)) rfl (zea rfl (zea rfl (zea rfl (zea rfl zRa)))) (zfa rfl (zfa rfl zDa))) .nil))) (.cons (.step [0,3] (by kernel_rfl) rfl (.cons (.yes 4 rfl (zxa rfl) (zXa (d:=38) rfl rfl wqa) rfl (zea rfl (zea rfl (zea rfl (zea rfl zRa)))) (zfa rfl (zfa rfl zDa))) (.cons (.yes 6 rfl (zxa rfl) (zXa (d:=41) rfl rfl (wga rfl qma.u rfl zMa rfl)) rfl (zea rfl (zea rfl (zea rfl (zea rfl zRa)))) (zfa rfl (zfa rfl zDa))) .nil))) (.cons (.step [0,1,4] (by kernel_rfl) rfl (.cons (.yes 5 rfl (zxa rfl) (zXa (d:=38) rfl rfl wqa) rfl (zea rfl (zea rfl (zea rfl (zea rfl zRa)))) (zfa rfl (zfa rfl zDa))) (.cons (.yes 6 rfl (zxa rfl) (VWa (d:=39) rfl rfl (jya (F:=cU) (l:=([(13:UInt8),(10:UInt8)]:List UInt8)) zMa qya rfl (fun _=>rfl) rfl rfl)) rfl (zea rfl (zea rfl (zea rfl (zea rfl zRa)))) (zfa rfl (zfa rfl zDa))) (.cons (.yes 7 rfl (zxa rfl) (zXa (d:=42) rfl rfl (QPa rfl rfl zMa rfl rfl)) rfl (zea rfl (zea rfl (zea rfl (zea rfl zRa)))) (zfa rfl (zfa rfl zDa))) .nil)))) (.cons (.step [2,3] (by kernel_rfl) rfl (.cons (.yes 8 rfl (zxa rfl) (yPa (k:=40) (F:=cU) (l:=b2) (xs:=(([(13:UInt8),(10:UInt8)]:List UInt8))) (lim:=140737488355328) rfl rfl rfl rfl zMa qya rfl rfl (fun _=>rfl) rfl h20) rfl (zea rfl (zea rfl (zea rfl zRa))) (zfa rfl (zfa rfl zDa))) (.cons (.yes 9 rfl (zxa rfl) (zXa (d:=41) rfl rfl (wga rfl qma.u rfl zMa rfl)) rfl (zea rfl (zea rfl (zea rfl (zea rfl (zea rfl zRa))))) (zfa rfl (zfa rfl zDa))) .nil))) (.cons (.step [1,4] (by kernel_rfl) rfl (.cons (.yes 9 rfl (zxa rfl) (VWa (d:=39) rfl rfl (jya (F:=cU) (l:=([(13:UInt8),(10:UInt8)]:List UInt8)) zMa qya rfl (fun _=>rfl) rfl rfl)) rfl (zea rfl (zea rfl (zea rfl (zea rfl (zea rfl zRa))))) (zfa rfl (zfa rfl zDa))) (.cons (.yes 10 rfl (zxa rfl) (zXa (d:=42) rfl rfl (QPa rfl rfl zMa rfl rfl)) rfl (zea rfl (zea rfl (zea rfl (zea rfl (zea rfl zRa))))) (zfa rfl (zfa rfl zDa))) .nil))) (.cons (.step [0,4] (by kernel_rfl) rfl (.cons (.yes 9 rfl (zxa rfl) (zXa (d:=38) rfl rfl wqa) rfl (zea rfl (zea rfl (zea rfl (zea rfl (zea rfl zRa))))) (zfa rfl (zfa rfl zDa))) (.cons (.yes 11 rfl (zxa rfl) (zXa (d:=42) rfl rfl (QPa rfl rfl zMa rfl rfl)) rfl (zea rfl (zea rfl (zea rfl (zea rfl (zea rfl zRa))))) (zfa rfl (zfa rfl zDa))) .nil))) (.cons (.step [0,1] (by kernel_rfl) rfl (.cons (.yes 10 rfl (zxa rfl) (zXa (d:=38) rfl rfl wqa) rfl (zea rfl (zea rfl (zea rfl (zea rfl (zea rfl zRa))))) (zfa rfl (zfa rfl zDa))) (.cons (.yes 11 rfl (zxa rfl) (VWa (d:=39) rfl rfl (jya (F:=cU) (l:=([(13:UInt8),(10:UInt8)]:List UInt8)) zMa qya rfl (fun _=>rfl) rfl rfl)) rfl (zea rfl (zea rfl (zea rfl (zea rfl (zea rfl zRa))))) (zfa rfl (zfa rfl zDa))) .nil))) (.cons (.step [3] (by kernel_rfl) rfl (.cons (.yes 12 rfl (zxa rfl) (zXa (d:=41) rfl rfl (wga rfl qma.u rfl zMa rfl)) rfl (zea rfl (zea rfl (zea rfl (zea rfl zRa)))) (zfa rfl (zfa rfl zDa))) .nil)) (.cons (.step [2,4] (by kernel_rfl) rfl (.cons (.yes 12 rfl (zxa rfl) (yPa (k:=40) (F:=cU) (l:=b2) (xs:=(([(13:UInt8),(10:UInt8)]:List UInt8))) (lim:=140737488355328) rfl rfl rfl rfl zMa qya rfl rfl (fun _=>rfl) rfl h20) rfl (zea rfl (zea rfl (zea rfl (zea rfl zRa)))) (zfa rfl (zfa rfl zDa))) (.cons (.yes 13 rfl (zxa rfl) (zXa (d:=42) rfl rfl (QPa rfl rfl zMa rfl rfl)) rfl (zea rfl (zea rfl (zea rfl (zea rfl (zea rfl (zea rfl zRa)))))) (zfa rfl (zfa rfl zDa))) .nil))) (.cons (.step [1] (by kernel_rfl) rfl (.cons (.yes 13 rfl (zxa rfl) (VWa (d:=39) rfl rfl (jya (F:=cU) (l:=([(13:UInt8),(10:UInt8)]:List UInt8)) zMa qya rfl (fun _=>rfl) rfl rfl)) rfl (zea rfl (zea rfl (zea rfl (zea rfl (zea rfl (zea rfl zRa)))))) (zfa rfl (zfa rfl zDa))) .nil)) (.cons (.step [0] (by kernel_rfl) rfl (.cons (.yes 13 rfl (zxa rfl) (zXa (d:=38) rfl rfl wqa) rfl (zea rfl (zea rfl (zea rfl (zea rfl (zea rfl (zea rfl zRa)))))) (zfa rfl (zfa rfl zDa))) .nil)) (.cons (.step [4] (by kernel_rfl) rfl (.cons (.yes 14 rfl (zxa rfl) (zXa (d:=42) rfl rfl (QPa rfl rfl zMa rfl rfl)) rfl (zea rfl (zea rfl (zea rfl (zea rfl (zea rfl zRa))))) (zfa rfl (zfa rfl zDa))) .nil)) (.cons (.step [2] (by kernel_rfl) rfl (.cons (.yes 14 rfl (zxa rfl) (yPa (k:=40) (F:=cU) (l:=b2) (xs:=(([(13:UInt8),(10:UInt8)]:List UInt8))) (lim:=140737488355328) rfl rfl rfl rfl zMa qya rfl rfl (fun _=>rfl) rfl h20) rfl (zea rfl (zea rfl (zea rfl (zea rfl (zea rfl zRa))))) (zfa rfl (zfa rfl zDa))) .nil)) (.cons (.step [5] (by kernel_rfl) rfl (.cons (.yes 15 rfl (zxa rfl) (yPa (k:=43) (F:=cU) (l:=v19) (xs:=a0.Body) (lim:=140737488355328) rfl rfl rfl rfl zMa qya rfl rfl (fun _=>rfl) rfl h22) rfl (zea rfl (zea rfl (zea rfl (zea rfl (zea rfl zRa))))) (zfa rfl (zfa rfl zDa))) .nil)) (.cons (.step [6] (by kernel_rfl) rfl (.cons (.yes 16 rfl (zxa rfl) (zXa (d:=2) rfl rfl wra) rfl (zea rfl (zea rfl (zea rfl (zea rfl (zea rfl (zea rfl zRa)))))) (zfa rfl (zfa rfl zDa))) .nil)) (.cons (.full (by kernel_rfl) (hA ?_)) .nil)))))))))))))))));refine rn tk 1 rfl ?_;refine yja (d:=2) (F:=cU) (l:=v21) rfl rfl (hC ?_);refine rn tk 1 rfl ?_;cases hr;exact kr tk (.inr rfl) rfl rfl
theorem Kra(a0:zua)(r:zpa)(hr:q6a a0=some r):Run prog 65 [.agg [.l zha.pc a0.Fields,.l cU a0.Body]] (.agg [.i r.Code,.i r.Index]):=by
 unfold q6a at hr;refine rf (fn:=f65) ⟨func65,rfl,by kernel_rfl⟩ rfl (fun _=>rfl) fun g0 hg=>?_
 refine rn tk 11 rfl ?_;obtain ⟨v1,h2,hr⟩:=zaa hr;refine cl (K2a _ _ h2) rfl rfl<|rn tk 7 rfl ?_;obtain ⟨v3,h4,hr⟩:=zaa hr;refine cl (z1a _ _ h4) rfl rfl<|rn tk 2 rfl<|ac 8 hr rfl (fun c5 hr=>?_) (fun c5 hr=>?_)
 .refine rn tk 8 rfl ?_;cases hr;exact kr tk (.inr rfl) rfl rfl
 refine rn tk 6 rfl ?_;obtain ⟨v6,h7,hr⟩:=zaa hr;refine cl (Vda _ _ h7) rfl rfl<|wn tk rfl rfl rfl<|rn tk 3 rfl<|ac 13 hr rfl (fun c8 hr=>?_) (fun c8 hr=>?_)
 .refine rn tk 2 rfl ?_;obtain ⟨v9,h10,hr⟩:=zaa hr;refine cl (zma _ _ _ h10) rfl rfl<|rn tk 5 rfl ?_;cases hr;exact kr tk (.inr rfl) rfl rfl
 refine rn tk 6 rfl ?_;obtain ⟨v11,h12,hr⟩:=zaa hr;refine cl (VBa _ _ h12) rfl rfl<|rn tk 4 rfl ?_;cases hr;exact kr tk (.inr rfl) rfl rfl
theorem jua(a0:ksa)(r:zpa)(hr:vda a0=some r):Run prog 28 [.agg [.s a0.Envelope.From,.l zca.pc a0.Envelope.To,.s a0.Envelope.Id,.l zha.pc a0.Message.Fields,.l cU a0.Message.Body]] (.agg [.i r.Code,.i r.Index]):=by
 unfold vda at hr;refine rf (fn:=Tryz.f28) ⟨func28,rfl,by kernel_rfl⟩ rfl (fun _=>rfl) fun g0 hg=>?_
 refine rn tk 11 rfl ?_;obtain ⟨v1,h2,hr⟩:=zaa hr;refine cl (ZYa _ _ h2) rfl rfl<|rn tk 7 rfl ?_;obtain ⟨v3,h4,hr⟩:=zaa hr;refine cl (z1a _ _ h4) rfl rfl<|rn tk 2 rfl<|ac 9 hr rfl (fun c5 hr=>?_) (fun c5 hr=>?_)
 .refine rn tk 8 rfl ?_;cases hr;exact kr tk (.inr rfl) rfl rfl
 refine rn tk 7 rfl ?_;obtain ⟨v6,h7,hr⟩:=zaa hr;refine cl (Kra _ _ h7) rfl rfl<|rn tk 7 rfl ?_;obtain ⟨v8,h9,hr⟩:=zaa hr;refine cl (z1a _ _ h9) rfl rfl<|rn tk 2 rfl<|ac 15 hr rfl (fun c10 hr=>?_) (fun c10 hr=>?_)
 .refine rn tk 4 rfl ?_;obtain ⟨v11,h12,hr⟩:=zaa hr;refine cl (zma _ _ _ h12) rfl rfl<|rn tk 5 rfl ?_;cases hr;exact kr tk (.inr rfl) rfl rfl
 refine rn tk 4 rfl ?_;obtain ⟨v13,h14,hr⟩:=zaa hr;refine cl (zLa _ h14) rfl rfl<|rn tk 4 rfl ?_;cases hr;exact kr tk (.inr rfl) rfl rfl
theorem v3a(a0:List zha)(r:List zha)(hr:z8a a0=some r):Run prog 68 [.l zha.pc a0] (.l zha.pc r):=by
 unfold z8a at hr;refine rf (fn:=f68) ⟨func68,rfl,by kernel_rfl⟩ rfl (fun _=>rfl) fun g0 hg=>?_
 refine rn tk 9 rfl ?_;refine yEa (d:=3) (F:=zha.pc) (l:=a0) rfl rfl rfl kFa (fun c1=>hO ?_) (hO ?_)
 .replace hr:=Z9a c1 hr
  refine rn tk 10 rfl ?_;cases hr;exact kr tk (.inr rfl) rfl rfl
 replace hr:=Kaa hr
 refine rn tk 7 rfl<|wo (jEa (k:=5) rfl kFa qba) rfl<|rn tk 1 rfl ?_;obtain ⟨v2,h3,hr⟩:=zaa hr;refine wo (wha (k:=7) (F:=zha.pc) (xs:=a0) (lim:=4398046511104) 1002 rfl rfl rfl kFa qba rfl rfl (fun _=>rfl) rfl rfl rfl h3) rfl<|rn tk 3 rfl ?_;refine wZa 1002 rfl (hC ?_);refine yja (d:=2) (F:=zha.pc) (l:=v2) rfl rfl (hC ?_);refine rn tk 1 rfl ?_;cases hr;exact kr tk (.inr rfl) rfl rfl
theorem qia(a0:ksa)(r:ksa)(hr:kGa a0=some r):Run prog 32 [.agg [.s a0.Envelope.From,.l zca.pc a0.Envelope.To,.s a0.Envelope.Id,.l zha.pc a0.Message.Fields,.l cU a0.Message.Body]] (.agg [.s r.Envelope.From,.l zca.pc r.Envelope.To,.s r.Envelope.Id,.l zha.pc r.Message.Fields,.l cU r.Message.Body]):=by
 unfold kGa at hr;refine rf (fn:=f32) ⟨func32,rfl,by kernel_rfl⟩ rfl (fun _=>rfl) fun g0 hg=>?_
 refine rn tk 11 rfl<|ct hr (fun j1=>[(1,.ptr 1 0),(2,.ptr 2 0),(6,.l zca.pc j1)]) (fun j1=>[(2,.cells [.s (([]:Str)),.l zca.pc ([]),.s (([]:Str)),.l zha.pc ([]),.l cU ([])]),(1,.cells [.s a0.Envelope.From,.l zca.pc a0.Envelope.To,.s a0.Envelope.Id,.l zha.pc a0.Message.Fields,.l cU a0.Message.Body])]) (fun j1 hr jump1=>?_) (fun j1 hr=>?_)
 .refine il (fn:=f67) (args:=[.l zca.pc a0.Envelope.To]) 100000 199999 [(1,.ptr 1 0),(2,.ptr 2 0)] rfl ⟨func67,rfl,by kernel_rfl⟩ rfl rfl rfl fun T1 ds1=>?_
  refine rn tk 9 rfl ?_;refine yEa (d:=3) (F:=zca.pc) (l:=a0.Envelope.To) rfl rfl rfl zOa (fun c2=>hO ?_) (hO ?_)
  .replace hr:=Z9a c2 hr
   refine rn tk 10 rfl ?_;refine ie tk [.pv (.sl (some true) [])] [(1,.ptr 1 0),(2,.ptr 2 0)] [(2,.cells [.s (([]:Str)),.pv (.sl (some true) []),.s (([]:Str)),.pv (.sl (some true) []),.pv (.sl (some true) [])]),(1,.cells [.s a0.Envelope.From,.l zca.pc a0.Envelope.To,.s a0.Envelope.Id,.l zha.pc a0.Message.Fields,.l cU a0.Message.Body])] (.inr rfl) rfl rfl rfl rfl ?_;cases hr;exact jump1 _ _ rfl rfl
  replace hr:=Kaa hr
  refine rn tk 7 rfl<|wo (jEa (k:=5) rfl zOa zJa) rfl<|rn tk 1 rfl ?_;obtain ⟨v3,h4,hr⟩:=zaa hr;refine wo (wha (k:=7) (F:=zca.pc) (xs:=a0.Envelope.To) (lim:=5864062014805) 1002 rfl rfl rfl zOa zJa rfl rfl (fun _=>rfl) rfl rfl rfl h4) rfl<|rn tk 3 rfl ?_;refine wZa 1002 rfl (hC ?_);refine yja (d:=2) (F:=zca.pc) (l:=v3) rfl rfl (hC ?_);refine rn tk 1 rfl ?_;refine ie tk [.l zca.pc v3] [(1,.ptr 1 0),(2,.ptr 2 0)] [(1002,.row 61 false 2 (List.map zca.pc v3)),(2,.cells [.s (([]:Str)),.pv (.sl (some true) []),.s (([]:Str)),.pv (.sl (some true) []),.pv (.sl (some true) [])]),(1,.cells [.s a0.Envelope.From,.l zca.pc a0.Envelope.To,.s a0.Envelope.Id,.l zha.pc a0.Message.Fields,.l cU a0.Message.Body])] (.inr rfl) rfl rfl rfl rfl ?_;cases hr;exact jump1 _ _ rfl rfl
 refine rn tk 6 rfl ?_;obtain ⟨v5,h6,hr⟩:=zaa hr;refine dr 7 [(15,.l cU a0.Message.Body),(14,.ptr 1 4),(13,.ptr 1 3),(12,.l zha.pc v5),(11,.l zha.pc a0.Message.Fields),(10,.ptr 1 3),(9,.ptr 1 3)] mixed (by kernel_rfl) rfl rfl (pq tk rfl (.plain rfl) (pq tk rfl (.plain rfl) (pq tk rfl (.plain rfl) (.run (.plain rfl) (zKa (v3a a0.Message.Fields v5 h6) rfl) (pq tk rfl (.plain rfl) (pq tk rfl (.plain rfl) (pq tk rfl (.plain rfl) .nil))))))) rfl<|ct hr (fun j7=>[(1,.ptr 1 0),(2,.ptr 2 0),(12,.l zha.pc v5),(16,.l cU j7)]) (fun j7=>[(2,.cells [.s (([]:Str)),.l zca.pc ([]),.s (([]:Str)),.l zha.pc ([]),.l cU ([])]),(1,.cells [.s a0.Envelope.From,.l zca.pc j1,.s a0.Envelope.Id,.l zha.pc a0.Message.Fields,.l cU a0.Message.Body])]) (fun j7 hr jump2=>?_) (fun j7 hr=>?_)
 .refine il (fn:=f69) (args:=[.l cU a0.Message.Body]) 200000 299999 [(1,.ptr 1 0),(2,.ptr 2 0),(12,.l zha.pc v5)] rfl ⟨func69,rfl,by kernel_rfl⟩ rfl rfl rfl fun T2 ds2=>?_
  refine rn tk 9 rfl ?_;refine yEa (d:=3) (F:=cU) (l:=a0.Message.Body) rfl rfl rfl zMa (fun c8=>hO ?_) (hO ?_)
  .replace hr:=Z9a c8 hr
   refine rn tk 10 rfl ?_;refine ie tk [.pv (.sl (some true) [])] [(1,.ptr 1 0),(2,.ptr 2 0),(12,.l zha.pc v5)] [(2,.cells [.s (([]:Str)),.l zca.pc ([]),.s (([]:Str)),.l zha.pc ([]),.l cU ([])]),(1,.cells [.s a0.Envelope.From,.l zca.pc j1,.s a0.Envelope.Id,.l zha.pc a0.Message.Fields,.l cU a0.Message.Body])] (.inr rfl) rfl rfl rfl rfl ?_;cases hr;exact jump2 _ _ rfl rfl
  replace hr:=Kaa hr
  refine rn tk 7 rfl<|wo (jEa (k:=5) rfl zMa qya) rfl<|rn tk 1 rfl ?_;obtain ⟨v9,h10,hr⟩:=zaa hr;refine wo (wha (k:=7) (F:=cU) (xs:=a0.Message.Body) (lim:=140737488355328) 1002 rfl rfl rfl zMa qya rfl rfl (fun _=>rfl) rfl rfl rfl h10) rfl<|rn tk 3 rfl ?_;refine wZa 1002 rfl (hC ?_);refine yja (d:=2) (F:=cU) (l:=v9) rfl rfl (hC ?_);refine rn tk 1 rfl ?_;refine ie tk [.l cU v9] [(1,.ptr 1 0),(2,.ptr 2 0),(12,.l zha.pc v5)] [(1002,.row 5 false 1 (List.map cU v9)),(2,.cells [.s (([]:Str)),.l zca.pc ([]),.s (([]:Str)),.l zha.pc ([]),.l cU ([])]),(1,.cells [.s a0.Envelope.From,.l zca.pc j1,.s a0.Envelope.Id,.l zha.pc a0.Message.Fields,.l cU a0.Message.Body])] (.inr rfl) rfl rfl rfl rfl ?_;cases hr;exact jump2 _ _ rfl rfl
 refine rn tk 12 rfl ?_;cases hr;exact kr tk (.inr rfl) rfl rfl
theorem jWa(a0:zba)(r:Bool)(hr:qZa a0=some r):Run prog 40 [.agg [.i a0.Id,.s a0.Mail.Envelope.From,.l zca.pc a0.Mail.Envelope.To,.s a0.Mail.Envelope.Id,.l zha.pc a0.Mail.Message.Fields,.l cU a0.Mail.Message.Body,.i a0.Since,.i a0.Tries,.i a0.Due,.l zda.pc a0.To]] (.bo r):=by
 unfold qZa at hr;refine rf (fn:=f40) ⟨func40,rfl,by kernel_rfl⟩ rfl (fun _=>rfl) fun g0 hg=>?_
 refine rn tk 20 rfl<|wn tk rfl rfl rfl<|rn tk 1 rfl<|wn tk rfl rfl rfl<|rn tk 3 rfl<|ac 16 hr rfl (fun c1 hr=>?_) (fun c1 hr=>?_)
 .refine rn tk 7 rfl ?_;cases hr;exact kr tk (.inr rfl) rfl rfl
 refine rn tk 12 rfl<|wn tk rfl rfl rfl<|rn tk 4 rfl<|al2 hr (fun s2=>[(3,.l zca.pc a0.Mail.Envelope.To),(4,.bo s2.1),(18,.l zda.pc a0.To),(19,.i ((a0.To.length:Int))),(20,.i s2.2)]) (fun s2=>[]) (.exit 0) (fun b3=>[(4,.bo b3)]) (fun b3=>[]) .ret (fun b4=>[(2,.bo b4)]) (fun b4=>[]) rfl rfl (fun s2 x6 hr=>?_) (fun b3 hr=>?_) (fun b4 hr=>?_)
 .unfold k7a at hr;refine rn tk 6 rfl<|ac 21 hr rfl (fun c7 hr=>?_) (fun c7 hr=>?_)
  .refine rn tk 2 rfl<|jk (fun j8=>[(3,.l zca.pc a0.Mail.Envelope.To),(4,.bo j8),(18,.l zda.pc a0.To),(19,.i ((a0.To.length:Int))),(20,.i s2.2)]) (fun j8=>[]) (fun j8=>q7a s2 j8=some x6) ?_ ?_
   .refine rn tk 4 rfl ?_;obtain ⟨v9,h10,hr⟩:=zaa hr;refine wi tk h10 rfl rfl rfl rfl rfl<|rn tk 7 rfl<|jb hr (fun j11=>[(3,.l zca.pc a0.Mail.Envelope.To),(4,.bo s2.1),(6,.ptr 6 0),(18,.l zda.pc a0.To),(19,.i ((a0.To.length:Int))),(20,.i s2.2),(55,.bo j11)]) (fun j11=>[(6,.cells [.s v9.Recipient.Address,.i v9.Recipient.Notify,.i v9.Result,.bo v9.Busy])]) (fun j11 hr=>?_) (fun j11 hr=>?_)
    .obtain ⟨v12,h13,hr⟩:=zaa hr;refine dr 6 [(30,.agg [.s v12.Address,.i v12.Notify]),(29,.ep [pS v12.Address,pI v12.Notify]),(28,.i s2.2),(27,.l zca.pc a0.Mail.Envelope.To),(26,.agg [.s v9.Recipient.Address,.i v9.Recipient.Notify]),(25,.ptr 6 0)] mixed (by kernel_rfl) rfl rfl (pq tk rfl (.plain rfl) (pq tk rfl (.plain rfl) (pq tk rfl (.plain rfl) (pq tk rfl (.plain rfl) (.run (.plain rfl) (zva (qFa (f:=zca.pc) rfl rfl zOa zJa rfl h13)) (pq tk rfl (.plain rfl) .nil)))))) rfl<|wq (yQa rfl rfl zJa vEa (.str rfl (by decide) zIa (.int rfl (by decide) zza .nil))) rfl rfl rfl<|rn tk 1 rfl<|bs 32 hr rfl (fun c14 hr=>?_) (fun c14 hr=>?_)
     .refine rn tk 24 rfl ?_;cases hr;exact jn _ rfl rfl rfl
     refine rn tk 4 rfl<|bs 36 hr rfl (fun c15 hr=>?_) (fun c15 hr=>?_)
     .refine rn tk 5 rfl<|bs 41 hr rfl (fun c16 hr=>?_) (fun c16 hr=>?_)
      .refine rn tk 6 rfl<|bs 47 hr rfl (fun c17 hr=>?_) (fun c17 hr=>?_)
       .refine rn tk 9 rfl ?_;cases hr;exact jn _ rfl rfl rfl
       refine rn tk 3 rfl<|bs 50 hr rfl (fun c18 hr=>?_) (fun c18 hr=>?_)
       .refine rn tk 6 rfl ?_;cases hr;exact jn _ rfl rfl rfl
       refine rn tk 6 rfl ?_;cases hr;exact jn _ rfl rfl rfl
      refine rn tk 9 rfl<|bs 50 hr rfl (fun c19 hr=>?_) (fun c19 hr=>?_)
      .refine rn tk 6 rfl ?_;cases hr;exact jn _ rfl rfl rfl
      refine rn tk 6 rfl ?_;cases hr;exact jn _ rfl rfl rfl
     refine rn tk 14 rfl<|bs 50 hr rfl (fun c20 hr=>?_) (fun c20 hr=>?_)
     .refine rn tk 6 rfl ?_;cases hr;exact jn _ rfl rfl rfl
     refine rn tk 6 rfl ?_;cases hr;exact jn _ rfl rfl rfl
    refine ac 55 hr rfl (fun c21 hr=>?_) (fun c21 hr=>?_)
    .refine rn tk 9 rfl ?_;cases hr;exact ato rfl rfl rfl rfl
    refine rn tk 5 rfl<|bs 57 hr rfl (fun c22 hr=>?_) (fun c22 hr=>?_)
    .refine rn tk 7 rfl<|jn true hr rfl rfl
    refine rn tk 7 rfl<|jn ((v9.Result==0)) hr rfl rfl
   intro j8 hr;unfold q7a at hr;refine rn tk 4 rfl ?_;cases hr;exact atc rfl rfl
  refine rn tk 2 rfl ?_;cases hr;exact ato rfl rfl rfl rfl
 .refine rn tk 9 rfl ?_;cases hr;exact kr tk (.inr rfl) rfl rfl
 refine rn tk 2 rfl ?_;cases hr;exact kr tk (.inr rfl) rfl rfl
theorem vla(a0:zna)(r:zpa)(hr:kRa a0=some r):Run prog 12 [.agg [.l zba.pc a0.Entries,.i a0.Next]] (.agg [.i r.Code,.i r.Index]):=by
 unfold kRa at hr;refine rf (fn:=f12) ⟨func12,rfl,by kernel_rfl⟩ rfl (fun _=>rfl) fun g0 hg=>?_
 refine rn tk 11 rfl<|wn tk rfl rfl rfl<|rn tk 3 rfl<|ac 10 hr rfl (fun c1 hr=>?_) (fun c1 hr=>?_)
 .refine rn tk 2 rfl ?_;obtain ⟨v2,h3,hr⟩:=zaa hr;refine cl (zma _ _ _ h3) rfl rfl<|rn tk 5 rfl ?_;cases hr;exact kr tk (.inr rfl) rfl rfl
 refine rn tk 3 rfl<|jb hr (fun j4=>[(1,.ptr 1 0),(2,.ptr 2 0),(19,.bo j4)]) (fun j4=>[(2,.cells [.i 0,.i 0]),(1,.cells [.l zba.pc a0.Entries,.i a0.Next])]) (fun j4 hr=>?_) (fun j4 hr=>?_)
 .refine rn tk 5 rfl<|bs 15 hr rfl (fun c5 hr=>?_) (fun c5 hr=>?_)
  .refine rn tk 5 rfl ?_;cases hr;exact jn _ rfl rfl rfl
  refine rn tk 5 rfl ?_;cases hr;exact jn _ rfl rfl rfl
 refine ac 19 hr rfl (fun c6 hr=>?_) (fun c6 hr=>?_)
 .refine rn tk 2 rfl ?_;obtain ⟨v7,h8,hr⟩:=zaa hr;refine cl (zma _ _ _ h8) rfl rfl<|rn tk 5 rfl ?_;cases hr;exact kr tk (.inr rfl) rfl rfl
 refine rn tk 12 rfl<|wn tk rfl rfl rfl<|rn tk 4 rfl<|al2 hr (fun s9=>[(1,.ptr 1 0),(2,.ptr 2 0),(3,.i s9.1),(22,.l zba.pc a0.Entries),(23,.i ((a0.Entries.length:Int))),(24,.i s9.2)]) (fun s9=>[(2,.cells [.i 0,.i 0]),(1,.cells [.l zba.pc a0.Entries,.i a0.Next])]) (.exit 0) (fun b10=>[(2,.ptr 2 0)]) (fun b10=>[(2,.cells [.i 0,.i 0])]) .ret (fun b11=>[(2,.ptr 2 0)]) (fun b11=>[(2,.cells [.i b11.Code,.i b11.Index])]) rfl rfl (fun s9 x13 hr=>?_) (fun b10 hr=>?_) (fun b11 hr=>?_)
 .unfold kUa at hr;refine rn tk 6 rfl<|ac 25 hr rfl (fun c14 hr=>?_) (fun c14 hr=>?_)
  .refine rn tk 7 rfl ?_;obtain ⟨v15,h16,hr⟩:=zaa hr;refine wi tk h16 rfl rfl rfl rfl rfl<|rn tk 10 rfl ?_;obtain ⟨v17,h18,hr⟩:=zaa hr;refine cl (jua _ _ h18) rfl rfl<|rn tk 9 rfl ?_;obtain ⟨v19,h20,hr⟩:=zaa hr;refine cl (z1a _ _ h20) rfl rfl<|rn tk 3 rfl<|ac 32 hr rfl (fun c21 hr=>?_) (fun c21 hr=>?_)
   .refine rn tk 5 rfl ?_;obtain ⟨v22,h23,hr⟩:=zaa hr;refine cl (zma _ _ _ h23) rfl rfl<|rn tk 8 rfl ?_;cases hr;exact ato rfl rfl rfl rfl
   refine jb hr (fun j24=>[(1,.ptr 1 0),(2,.ptr 2 0),(4,.i s9.2),(5,.ptr 5 0),(22,.l zba.pc a0.Entries),(23,.i ((a0.Entries.length:Int))),(24,.i s9.2),(39,.bo j24)]) (fun j24=>[(5,.cells [.i v15.Id,.s v15.Mail.Envelope.From,.l zca.pc v15.Mail.Envelope.To,.s v15.Mail.Envelope.Id,.l zha.pc v15.Mail.Message.Fields,.l cU v15.Mail.Message.Body,.i v15.Since,.i v15.Tries,.i v15.Due,.l zda.pc v15.To]),(2,.cells [.i 0,.i 0]),(1,.cells [.l zba.pc a0.Entries,.i a0.Next])]) (fun j24 hr=>?_) (fun j24 hr=>?_)
   .refine rn tk 6 rfl<|bs 44 hr rfl (fun c25 hr=>?_) (fun c25 hr=>?_)
    .refine rn tk 8 rfl ?_;cases hr;exact jn _ rfl rfl rfl
    refine rn tk 8 rfl ?_;cases hr;exact jn _ rfl rfl rfl
   refine ac 39 hr rfl (fun c26 hr=>?_) (fun c26 hr=>?_)
   .refine rn tk 3 rfl ?_;obtain ⟨v27,h28,hr⟩:=zaa hr;refine cl (zma _ _ _ h28) rfl rfl<|rn tk 8 rfl ?_;cases hr;exact ato rfl rfl rfl rfl
   refine jb hr (fun j29=>[(1,.ptr 1 0),(2,.ptr 2 0),(4,.i s9.2),(5,.ptr 5 0),(22,.l zba.pc a0.Entries),(23,.i ((a0.Entries.length:Int))),(24,.i s9.2),(53,.bo j29)]) (fun j29=>[(5,.cells [.i v15.Id,.s v15.Mail.Envelope.From,.l zca.pc v15.Mail.Envelope.To,.s v15.Mail.Envelope.Id,.l zha.pc v15.Mail.Message.Fields,.l cU v15.Mail.Message.Body,.i v15.Since,.i v15.Tries,.i v15.Due,.l zda.pc v15.To]),(2,.cells [.i 0,.i 0]),(1,.cells [.l zba.pc a0.Entries,.i a0.Next])]) (fun j29 hr=>?_) (fun j29 hr=>?_)
   .refine rn tk 3 rfl ?_;obtain ⟨v30,h31,hr⟩:=zaa hr;refine cl (vga _ _ h31) rfl rfl<|rn tk 2 rfl<|bs 58 hr rfl (fun c32 hr=>?_) (fun c32 hr=>?_)
    .refine rn tk 17 rfl ?_;cases hr;exact jn _ rfl rfl rfl
    refine rn tk 2 rfl ?_;obtain ⟨v33,h34,hr⟩:=zaa hr;refine ug rfl rfl rfl<|cl (vga _ _ h34) rfl rfl<|rn tk 3 rfl<|bs 64 hr rfl (fun c35 hr=>?_) (fun c35 hr=>?_)
    .refine rn tk 11 rfl ?_;cases hr;exact jn _ rfl rfl rfl
    refine rn tk 5 rfl<|bs 69 hr rfl (fun c36 hr=>?_) (fun c36 hr=>?_)
    .refine rn tk 6 rfl ?_;cases hr;exact jn _ rfl rfl rfl
    refine rn tk 6 rfl ?_;cases hr;exact jn _ rfl rfl rfl
   refine ac 53 hr rfl (fun c37 hr=>?_) (fun c37 hr=>?_)
   .refine rn tk 3 rfl ?_;obtain ⟨v38,h39,hr⟩:=zaa hr;refine cl (zma _ _ _ h39) rfl rfl<|rn tk 8 rfl ?_;cases hr;exact ato rfl rfl rfl rfl
   refine rn tk 3 rfl ?_;obtain ⟨v40,h41,hr⟩:=zaa hr;refine cl (jWa _ _ h41) rfl rfl<|rn tk 4 rfl<|ac 76 hr rfl (fun c42 hr=>?_) (fun c42 hr=>?_)
   .refine rn tk 3 rfl ?_;obtain ⟨v43,h44,hr⟩:=zaa hr;refine cl (zma _ _ _ h44) rfl rfl<|rn tk 8 rfl ?_;cases hr;exact ato rfl rfl rfl rfl
   refine rn tk 14 rfl ?_;cases hr;exact atc rfl rfl
  refine rn tk 2 rfl ?_;cases hr;exact ato rfl rfl rfl rfl
 .refine rn tk 4 rfl ?_;obtain ⟨v45,h46,hr⟩:=zaa hr;refine cl (zLa _ h46) rfl rfl<|rn tk 4 rfl ?_;cases hr;exact kr tk (.inr rfl) rfl rfl
 refine rn tk 2 rfl ?_;cases hr;exact kr tk (.inr rfl) rfl rfl
theorem z0a(a0:List zba)(r:List zba)(hr:zFa a0=some r):RunO prog 44 [.l zba.pc a0] 57 10 (List.map zba.pc r):=by
 unfold zFa at hr;refine rfO (fn:=f44) ⟨func44,rfl,by kernel_rfl⟩ rfl fun g0 hg=>?_
 refine rn tk 3 rfl ?_;refine kLa 1002 (d:=2) 57 10 rfl rfl rfl (hO ?_);refine rn tk 6 rfl ?_;refine yEa (d:=3) (F:=zba.pc) (l:=a0) rfl rfl rfl zla (fun c1=>hO ?_) (hO ?_)
 .replace hr:=Z9a c1 hr
  refine rn tk 6 rfl ?_;refine kLa 2002 (d:=2) 57 10 rfl rfl rfl (hO ?_);refine rn tk 4 rfl ?_;cases hr;exact krO tk (.inr rfl) rfl rfl
 replace hr:=Kaa hr
 refine rn tk 7 rfl<|wo (jEa (k:=5) rfl zla zga) rfl<|rn tk 1 rfl ?_;obtain ⟨v2,h3,hr⟩:=zaa hr;refine wo (wha (k:=7) (F:=zba.pc) (xs:=a0) (lim:=879609302220) 2002 rfl rfl rfl zla zga rfl rfl (fun _=>rfl) rfl rfl rfl h3) rfl<|rn tk 4 rfl ?_;cases hr;exact krO tk (.inr rfl) rfl rfl
theorem zQa(a0:List zda)(r:List zda)(hr:zya a0=some r):RunO prog 66 [.l zda.pc a0] 63 4 (List.map zda.pc r):=by
 unfold zya at hr;refine rfO (fn:=f66) ⟨func66,rfl,by kernel_rfl⟩ rfl fun g0 hg=>?_
 refine rn tk 3 rfl ?_;refine kLa 1002 (d:=2) 63 4 rfl rfl rfl (hO ?_);refine rn tk 6 rfl ?_;refine yEa (d:=3) (F:=zda.pc) (l:=a0) rfl rfl rfl zia (fun c1=>hO ?_) (hO ?_)
 .replace hr:=Z9a c1 hr
  refine rn tk 6 rfl ?_;refine kLa 2002 (d:=2) 63 4 rfl rfl rfl (hO ?_);refine rn tk 4 rfl ?_;cases hr;exact krO tk (.inr rfl) rfl rfl
 replace hr:=Kaa hr
 refine rn tk 7 rfl<|wo (jEa (k:=5) rfl zia zwa) rfl<|rn tk 1 rfl ?_;obtain ⟨v2,h3,hr⟩:=zaa hr;refine wo (wha (k:=7) (F:=zda.pc) (xs:=a0) (lim:=3518437208883) 2002 rfl rfl rfl zia zwa rfl rfl (fun _=>rfl) rfl rfl rfl h3) rfl<|rn tk 4 rfl ?_;cases hr;exact krO tk (.inr rfl) rfl rfl
theorem JCa(a0:zna)(a1:ksa)(a2:Int)(r:zna × Int × zpa)(hr:ZLa a0 a1 a2=some r):Run prog 9 [.agg [.l zba.pc a0.Entries,.i a0.Next],.agg [.s a1.Envelope.From,.l zca.pc a1.Envelope.To,.s a1.Envelope.Id,.l zha.pc a1.Message.Fields,.l cU a1.Message.Body],.i a2] (.tup [.agg [.l zba.pc r.1.Entries,.i r.1.Next],.i r.2.1,.agg [.i r.2.2.Code,.i r.2.2.Index]]):=by
 unfold ZLa at hr;refine rf (fn:=f9) ⟨func9,rfl,by kernel_rfl⟩ rfl (fun _=>rfl) fun g0 hg=>?_
 refine rn tk 13 rfl ?_;obtain ⟨v1,h2,hr⟩:=zaa hr;refine cl (vla _ _ h2) rfl rfl<|rn tk 7 rfl ?_;obtain ⟨v3,h4,hr⟩:=zaa hr;refine cl (z1a _ _ h4) rfl rfl<|rn tk 2 rfl<|ac 17 hr rfl (fun c5 hr=>?_) (fun c5 hr=>?_)
 .refine rn tk 1 rfl<|drX 2 4 4 4 [1] [(19,.agg [.i v1.Code,.i v1.Index]),(18,.agg [.pv (.sl (some true) []),.i 0])] [(6,.ptr 6 0),(7,.i 0),(8,.ptr 8 0),(19,.agg [.i v1.Code,.i v1.Index])] [(9,.cells [.i v1.Code,.i v1.Index]),(8,.cells [.i 0,.i 0]),(6,.cells [.pv (.sl (some true) []),.i 0]),(4,.cells [.s a1.Envelope.From,.l zca.pc a1.Envelope.To,.s a1.Envelope.Id,.l zha.pc a1.Message.Fields,.l cU a1.Message.Body]),(3,.cells [.l zba.pc a0.Entries,.i a0.Next])] tk mixed (by kernel_rfl) rfl rfl rfl (pqX tk rfl (.plain rfl) (pqX tk rfl (.plain rfl) .nil)) rfl rfl rfl rfl (by kernel_rfl)<|rn tk 5 rfl ?_;cases hr;exact kr tk (.inr rfl) rfl rfl
 refine rn tk 5 rfl ?_;obtain ⟨v6,h7,hr⟩:=zaa hr;refine cl (jua _ _ h7) rfl rfl<|rn tk 9 rfl ?_;obtain ⟨v8,h9,hr⟩:=zaa hr;refine cl (z1a _ _ h9) rfl rfl<|rn tk 3 rfl<|ac 22 hr rfl (fun c10 hr=>?_) (fun c10 hr=>?_)
 .refine rn tk 5 rfl ?_;obtain ⟨v11,h12,hr⟩:=zaa hr;refine cl (zma _ _ _ h12) rfl rfl<|rn tk 8 rfl ?_;cases hr;exact kr tk (.inr rfl) rfl rfl
 refine rn tk 3 rfl ?_;obtain ⟨v13,h14,hr⟩:=zaa hr;refine cl (vga _ _ h14) rfl rfl<|rn tk 4 rfl<|ac 29 hr rfl (fun c15 hr=>?_) (fun c15 hr=>?_)
 .refine rn tk 3 rfl ?_;obtain ⟨v16,h17,hr⟩:=zaa hr;refine cl (zma _ _ _ h17) rfl rfl<|rn tk 8 rfl ?_;cases hr;exact kr tk (.inr rfl) rfl rfl
 refine jb hr (fun j18=>[(2,.i a2),(3,.ptr 3 0),(4,.ptr 4 0),(6,.ptr 6 0),(8,.ptr 8 0),(35,.bo j18)]) (fun j18=>[(8,.cells [.i 0,.i 0]),(6,.cells [.l zba.pc ([]),.i 0]),(4,.cells [.s a1.Envelope.From,.l zca.pc a1.Envelope.To,.s a1.Envelope.Id,.l zha.pc a1.Message.Fields,.l cU a1.Message.Body]),(3,.cells [.l zba.pc a0.Entries,.i a0.Next])]) (fun j18 hr=>?_) (fun j18 hr=>?_)
 .refine rn tk 3 rfl<|wn tk rfl rfl rfl<|rn tk 2 rfl<|bs 40 hr rfl (fun c19 hr=>?_) (fun c19 hr=>?_)
  .refine rn tk 6 rfl ?_;cases hr;exact jn _ rfl rfl rfl
  refine rn tk 6 rfl ?_;cases hr;exact jn _ rfl rfl rfl
 refine ac 35 hr rfl (fun c20 hr=>?_) (fun c20 hr=>?_)
 .refine rn tk 3 rfl ?_;obtain ⟨v21,h22,hr⟩:=zaa hr;refine cl (zma _ _ _ h22) rfl rfl<|rn tk 8 rfl ?_;cases hr;exact kr tk (.inr rfl) rfl rfl
 refine rn tk 6 rfl<|il (fn:=f31) (args:=[.agg [.l zba.pc a0.Entries,.i a0.Next]]) 100000 199999 [(2,.i a2),(3,.ptr 3 0),(4,.ptr 4 0),(6,.ptr 6 0),(8,.ptr 8 0)] rfl ⟨func31,rfl,by kernel_rfl⟩ rfl rfl rfl fun T1 ds1=>?_
 refine rn tk 4 rfl ?_;refine zYa 1002 (o:=2) (j:=0) 57 10 rfl rfl rfl rfl (hO ?_);refine rn tk 6 rfl ?_;obtain ⟨v23,h24,hr⟩:=zaa hr;refine wo (jGa (k:=7) 1007 (z0a a0.Entries v23 h24) rfl rfl rfl rfl) rfl ?_;refine vma 1007 9 63 4 rfl (hO ?_);refine rn tk 9 rfl<|wq (Q2a (F:=zba.pc) (l:=v23) rfl rfl zla.u) rfl rfl rfl<|rn tk 4 rfl<|al1 hr (fun s25=>[(1,.ptr 1 0),(2,.ptr 2 0),(11,.i ((v23.length:Int))),(12,.i s25.1)]) (fun s25=>[(1007,.nrow 57 10 9 63 4 s25.2.1 (List.map zba.pc s25.2.2)),(1002,.row 57 true 10 (List.map zba.pc (([]:List zba)))),(2,.cells [.hs 1002 0,.i 0]),(1,.cells [.ns 1007,.i a0.Next]),(199999,.sus g0.w.heap.size ds1),(100002,.hold (.i a2) (T1.getD 2 undef)),(100003,.hold (.ptr 3 0) (T1.getD 3 undef)),(100004,.hold (.ptr 4 0) (T1.getD 4 undef)),(100006,.hold (.ptr 6 0) (T1.getD 6 undef)),(100008,.hold (.ptr 8 0) (T1.getD 8 undef)),(8,.cells [.i 0,.i 0]),(6,.cells [.l zba.pc ([]),.i 0]),(4,.cells [.s a1.Envelope.From,.l zca.pc a1.Envelope.To,.s a1.Envelope.Id,.l zha.pc a1.Message.Fields,.l cU a1.Message.Body]),(3,.cells [.l zba.pc a0.Entries,.i a0.Next])]) (.exit 0) (fun b26=>[(1,.ptr 1 0),(2,.ptr 2 0)]) (fun b26=>[(1007,.nrow 57 10 9 63 4 b26.2 (List.map zba.pc b26.1)),(1002,.row 57 true 10 (List.map zba.pc (([]:List zba)))),(2,.cells [.hs 1002 0,.i 0]),(1,.cells [.ns 1007,.i a0.Next]),(199999,.sus g0.w.heap.size ds1),(100002,.hold (.i a2) (T1.getD 2 undef)),(100003,.hold (.ptr 3 0) (T1.getD 3 undef)),(100004,.hold (.ptr 4 0) (T1.getD 4 undef)),(100006,.hold (.ptr 6 0) (T1.getD 6 undef)),(100008,.hold (.ptr 8 0) (T1.getD 8 undef)),(8,.cells [.i 0,.i 0]),(6,.cells [.l zba.pc ([]),.i 0]),(4,.cells [.s a1.Envelope.From,.l zca.pc a1.Envelope.To,.s a1.Envelope.Id,.l zha.pc a1.Message.Fields,.l cU a1.Message.Body]),(3,.cells [.l zba.pc a0.Entries,.i a0.Next])]) rfl rfl (fun s25 x27 hr=>?_) (fun b26 hr=>?_)
 .unfold yea at hr;refine rn tk 6 rfl<|ac 13 hr rfl (fun c28 hr=>?_) (fun c28 hr=>?_)
  .refine rn tk 15 rfl ?_;obtain ⟨v29,h30,hr⟩:=zaa hr;refine wq (wva (F:=zba.pc) (l:=s25.2.2) (n:=s25.1) rfl rfl rfl zla zga h30) rfl rfl rfl<|rn tk 3 rfl ?_;obtain ⟨v31,h32,hr⟩:=zaa hr;obtain ⟨v33,h34,hr⟩:=zaa hr;obtain ⟨v35,h36,hr⟩:=zaa hr;obtain ⟨v37,h38,hr⟩:=zaa hr;obtain ⟨v39,h40,hr⟩:=zaa hr;obtain ⟨v41,h42,hr⟩:=zaa hr;obtain ⟨v43,h44,hr⟩:=zaa hr;obtain ⟨v45,h46,hr⟩:=zaa hr;refine mz [some (.np 1007 (Int.toNat s25.1) 0),some (.np 1007 (Int.toNat s25.1) 0),some (.np 1007 (Int.toNat s25.1) 0),some (.np 1007 (Int.toNat s25.1) 0),some (.np 1007 (Int.toNat s25.1) 1),some (.agg [.s v31.Mail.Envelope.From,.l zca.pc v31.Mail.Envelope.To,.s v31.Mail.Envelope.Id,.l zha.pc v31.Mail.Message.Fields,.l cU v31.Mail.Message.Body]),some (.agg [.s v33.Envelope.From,.l zca.pc v33.Envelope.To,.s v33.Envelope.Id,.l zha.pc v33.Message.Fields,.l cU v33.Message.Body]),some (.np 1007 (Int.toNat s25.1) 0),some (.np 1007 (Int.toNat s25.1) 0),some (.np 1007 (Int.toNat s25.1) 9),some (.l zda.pc v37.To),none,some (.np 1007 (Int.toNat s25.1) 0),some (.np 1007 (Int.toNat s25.1) 1),none,some (.np 1007 (Int.toNat s25.1) 0),some (.np 1007 (Int.toNat s25.1) 9),none] (fun f s=>[((bt 18 0),f,s),((bt 18 2048),((30,.hs 1030 0)::f),((1030,.row 63 true 4 (List.map zda.pc v39))::s)),((bt 18 18432),((30,.hs 1030 0)::f),(Sto.upd ((1030,.row 63 true 4 (List.map zda.pc v39))::s) 1007 (.nrow 57 10 9 63 4 s25.2.1 (List.map zba.pc ((List.set s25.2.2 (Int.toNat s25.1) ((zba.mk v41.Id v33 v41.Since v41.Tries v41.Due v41.To)))))))),((bt 18 149504),(Fr.clrs [1030] ((30,.hs 1030 0)::f)),(Sto.upd (Sto.mp (AV.clr 1030) (Sto.dels [1030] (Sto.upd ((1030,.row 63 true 4 (List.map zda.pc v39))::s) 1007 (.nrow 57 10 9 63 4 s25.2.1 (List.map zba.pc ((List.set s25.2.2 (Int.toNat s25.1) ((zba.mk v41.Id v33 v41.Since v41.Tries v41.Due v41.To))))))))) 1007 (.nrow 57 10 9 63 4 ((s25.2.1+1)) (List.map zba.pc ((List.set ((List.set s25.2.2 (Int.toNat s25.1) ((zba.mk v41.Id v33 v41.Since v41.Tries v41.Due v41.To)))) (Int.toNat s25.1) ((zba.mk v45.Id v45.Mail v45.Since v45.Tries v45.Due v39))))))))]) mixed (by kernel_rfl) (.cons (mn tk [3,4,5,6,8,9,10,11] (by kernel_rfl) (.cons (.pure rfl rfl (zva (zta rfl))) (.cons (.pure rfl rfl (zva (zoa (q:=1) rfl zga.u rfl z6a rfl rfl))) (.cons (.pure rfl rfl (zva (Kfa (F:=zba.pc) (l:=s25.2.2) (n:=s25.1) (j0:=1) rfl rfl z6a rfl h32 rfl (.inl rfl)))) (.cons (.pure rfl rfl (zKa (qia v31.Mail v33 h34) rfl)) (.cons (.pure rfl rfl (zva (zta rfl))) (.cons (.pure rfl rfl (zva (zoa (q:=9) rfl zga.u rfl zia rfl rfl))) (.cons (.pure rfl rfl (zva (wwa (F:=zba.pc) (l:=s25.2.2) (n:=s25.1) (j0:=9) rfl rfl zia rfl h38 rfl (.inr (j2a h36))))) (.cons (mdt 1 rfl (VJa 1030 (zQa v37.To v39 h40) rfl rfl rfl rfl) (by kernel_rfl)) .nil))))))))) (.cons (mn tk [12,13,14] (by kernel_rfl) (.cons (.pure rfl rfl (zva (zta rfl))) (.cons (.pure rfl rfl (zva (zoa (q:=1) rfl zga.u rfl z6a rfl rfl))) (.cons (mst 2 rfl (Kga (F:=zba.pc) (l:=s25.2.2) (n:=s25.1) (j0:=1) (v:=v41) (v' :=((zba.mk v41.Id v33 v41.Since v41.Tries v41.Due v41.To))) (pcs:=[pS v33.Envelope.From,pL zca.pc v33.Envelope.To,pS v33.Envelope.Id,pL zha.pc v33.Message.Fields,pL cU v33.Message.Body]) rfl rfl rfl z6a rfl h42 rfl rfl rfl) (by kernel_rfl)) .nil)))) (.cons (mn tk [15,16,17] (by kernel_rfl) (.cons (.pure rfl rfl (zva (zta rfl))) (.cons (.pure rfl rfl (zva (zoa (q:=9) rfl zga.u rfl zia rfl rfl))) (.cons (mpt 3 rfl (VLa (F:=zba.pc) (G2:=zda.pc) (l:=((List.set s25.2.2 (Int.toNat s25.1) ((zba.mk v41.Id v33 v41.Since v41.Tries v41.Due v41.To))))) (l2:=v39) (n:=s25.1) (j0:=9) (v:=v45) (v' :=((zba.mk v45.Id v45.Mail v45.Since v45.Tries v45.Due v39))) rfl rfl rfl rfl rfl zia rfl h46 (Kea h44) rfl rfl) (by kernel_rfl)) .nil)))) (.cons (mf tk [] [(1,.ptr 1 0),(2,.ptr 2 0),(11,.i ((v23.length:Int))),(12,.i s25.1)] (by kernel_rfl) .nil (fc rfl (fc rfl (fc rfl (fc rfl fn)))) (hA ?_)) .nil))));refine rn tk 6 rfl ?_;cases hr;exact atc rfl rfl
  refine rn tk 2 rfl ?_;cases hr;exact ato rfl rfl rfl rfl
 refine rn tk 9 rfl ?_;refine ie tk [.agg [.ns 1007,.i a0.Next]] [(2,.i a2),(3,.ptr 3 0),(4,.ptr 4 0),(6,.ptr 6 0),(8,.ptr 8 0)] [(1007,.nrow 57 10 9 63 4 b26.2 (List.map zba.pc b26.1)),(1002,.row 57 true 10 (List.map zba.pc (([]:List zba)))),(2,.cells [.ns 1007,.i a0.Next]),(1,.cells [.ns 1007,.i a0.Next]),(8,.cells [.i 0,.i 0]),(6,.cells [.l zba.pc ([]),.i 0]),(4,.cells [.s a1.Envelope.From,.l zca.pc a1.Envelope.To,.s a1.Envelope.Id,.l zha.pc a1.Message.Fields,.l cU a1.Message.Body]),(3,.cells [.l zba.pc a0.Entries,.i a0.Next])] (.inr rfl) rfl rfl rfl rfl (hO ?_);refine rn tk 4 rfl ?_;obtain ⟨v47,h48,hr⟩:=zaa hr;refine drA 8 [(11,.ptr 11 0),(55,.agg [.i a0.Next,.s v47.Envelope.From,.l zca.pc v47.Envelope.To,.s v47.Envelope.Id,.l zha.pc v47.Message.Fields,.l cU v47.Message.Body,.i a2,.i 0,.i a2,.pv (.sl (some true) [])]),(54,.i a2),(53,.i a2),(52,.agg [.s v47.Envelope.From,.l zca.pc v47.Envelope.To,.s v47.Envelope.Id,.l zha.pc v47.Message.Fields,.l cU v47.Message.Body]),(51,.agg [.s a1.Envelope.From,.l zca.pc a1.Envelope.To,.s a1.Envelope.Id,.l zha.pc a1.Message.Fields,.l cU a1.Message.Body]),(50,.i a0.Next),(49,.ptr 3 1)] mixed (by kernel_rfl) rfl rfl (pqA tk rfl (.plain rfl) (pqA tk rfl (.plain rfl) (pqA tk rfl (.plain rfl) (.run (.plain rfl) (zKa (qia a1 v47 h48) rfl) (pqA tk rfl (.plain rfl) (pqA tk rfl (.plain rfl) (pqA tk rfl (.plain rfl) (pnA 11 tk rfl rfl rfl (.plain rfl) .nil)))))))) rfl rfl rfl ?_;refine zYa 1011 (o:=11) (j:=9) 63 4 rfl rfl rfl rfl (hO ?_);refine rn tk 1 rfl ?_;refine zYa 2011 (o:=11) (j:=9) 63 4 rfl rfl rfl rfl (hO ?_);refine rn tk 8 rfl<|wn tk rfl rfl rfl<|rn tk 4 rfl<|al1 hr (fun s49=>[(3,.ptr 3 0),(6,.ptr 6 0),(8,.ptr 8 0),(11,.ptr 11 0),(58,.l zca.pc a1.Envelope.To),(59,.i ((a1.Envelope.To.length:Int))),(60,.i s49.1)]) (fun s49=>[(2011,.row 63 true 4 (List.map zda.pc s49.2)),(11,.cells [.i a0.Next,.s v47.Envelope.From,.l zca.pc v47.Envelope.To,.s v47.Envelope.Id,.l zha.pc v47.Message.Fields,.l cU v47.Message.Body,.i a2,.i 0,.i a2,.hs 2011 0]),(1007,.nrow 57 10 9 63 4 b26.2 (List.map zba.pc b26.1)),(8,.cells [.i 0,.i 0]),(6,.cells [.l zba.pc ([]),.i 0]),(3,.cells [.ns 1007,.i a0.Next])]) (.exit 1) (fun b50=>[(3,.ptr 3 0),(6,.ptr 6 0),(8,.ptr 8 0),(11,.ptr 11 0)]) (fun b50=>[(2011,.row 63 true 4 (List.map zda.pc b50)),(11,.cells [.i a0.Next,.s v47.Envelope.From,.l zca.pc v47.Envelope.To,.s v47.Envelope.Id,.l zha.pc v47.Message.Fields,.l cU v47.Message.Body,.i a2,.i 0,.i a2,.hs 2011 0]),(1007,.nrow 57 10 9 63 4 b26.2 (List.map zba.pc b26.1)),(8,.cells [.i 0,.i 0]),(6,.cells [.l zba.pc ([]),.i 0]),(3,.cells [.ns 1007,.i a0.Next])]) rfl rfl (fun s49 x51 hr=>?_) (fun b50 hr=>?_)
 .unfold wka at hr;refine rn tk 6 rfl<|ac 61 hr rfl (fun c52 hr=>?_) (fun c52 hr=>?_)
  .refine rn tk 6 rfl ?_;obtain ⟨v53,h54,hr⟩:=zaa hr;refine wi tk h54 rfl rfl rfl rfl rfl<|rn tk 10 rfl<|wz zda.pc ([(zda.mk v53 0 false)]:List zda) tk rfl rfl (fun _=>rfl) rfl rfl rfl ?_;obtain ⟨v55,h56,hr⟩:=zaa hr;refine wa tk h56 rfl rfl rfl rfl (fun _=>rfl) rfl rfl<|rn tk 9 rfl ?_;cases hr;exact atc rfl rfl
  refine rn tk 2 rfl ?_;cases hr;exact ato rfl rfl rfl rfl
 refine rn tk 7 rfl<|wo (Qja (k:=75) 1075 rfl rfl rfl zla zga rfl rfl rfl) rfl ?_;obtain ⟨v57,h58,hr⟩:=zaa hr;obtain ⟨v59,h60,hr⟩:=zaa hr;refine wo (jma (k:=76) (F:=zba.pc) (G2:=zda.pc) (l:=b26.1) (l2:=b50) (v:=((zba.mk a0.Next v47 a2 0 a2 b50))) (lim:=879609302220) rfl rfl rfl rfl rfl rfl rfl rfl rfl (Qia h58) zla zga rfl rfl (fun _=>rfl) rfl h60) rfl<|rn tk 14 rfl ?_;obtain ⟨v61,h62,hr⟩:=zaa hr;refine drX 4 5 4 8 [1,2] [(85,.agg [.i v61.Code,.i v61.Index]),(84,.i a0.Next),(83,.ptr 11 0),(82,.agg [.ns 1007,.i ((w64 (a0.Next+1)))])] [(6,.ptr 6 0),(8,.ptr 8 0),(84,.i a0.Next),(85,.agg [.i v61.Code,.i v61.Index])] [(11,.cells [.i a0.Next,.s v47.Envelope.From,.l zca.pc v47.Envelope.To,.s v47.Envelope.Id,.l zha.pc v47.Message.Fields,.l cU v47.Message.Body,.i a2,.i 0,.i a2,.any]),(1007,.nrow 57 10 9 63 4 ((b26.2+1)) (List.map zba.pc v59)),(8,.cells [.i 0,.i 0]),(6,.cells [.ns 1007,.i ((w64 (a0.Next+1)))]),(3,.cells [.ns 1007,.i ((w64 (a0.Next+1)))])] tk mixed (by kernel_rfl) rfl rfl rfl (pqX tk rfl (.plain rfl) (pqX tk rfl (.plain rfl) (pqX tk rfl (.plain rfl) (.run (.plain rfl) (zKa (zLa v61 h62) rfl) .nil)))) rfl rfl rfl rfl (by kernel_rfl)<|rn tk 4 rfl ?_;refine yFa 1007 rfl (hC ?_);refine wZa 1007 rfl (hC ?_);refine jia (o:=6) (j:=0) (F:=zba.pc) (l:=v59) rfl rfl rfl (hC ?_);refine rn tk 1 rfl ?_;cases hr;exact kr tk (.inr rfl) rfl rfl
theorem zCb(r:zna)(hr:Qra=some r):Run prog 38 [] (.agg [.l zba.pc r.Entries,.i r.Next]):=by
 unfold Qra at hr;refine rf (fn:=f38) ⟨func38,rfl,by kernel_rfl⟩ rfl (fun _=>rfl) fun g0 hg=>?_
 refine rn tk 8 rfl<|wz cS ([([97,64,121]:Str),([98,64,121]:Str),([99,64,122]:Str)]:List Str) tk rfl rfl (fun _=>rfl) rfl (by kernel_rfl) rfl ?_;obtain ⟨v1,h2,hr⟩:=zaa hr;refine cl (zAb _ _ h2) rfl rfl ?_;obtain ⟨v3,h4,hr⟩:=zaa hr;refine cl (JCa _ _ _ _ h4) rfl rfl<|rn tk 18 rfl ?_;cases hr;exact kr tk (.inr rfl) rfl rfl
theorem q3b(a0:List Int)(a1:List Int)(r:Bool)(hr:Yta a0 a1=some r):Run prog 39 [.l cI a0,.l cI a1] (.bo r):=by
 unfold Yta at hr;refine rf (fn:=f39) ⟨func39,rfl,by kernel_rfl⟩ rfl (fun _=>rfl) fun g0 hg=>?_
 refine rn tk 9 rfl<|wn tk rfl rfl rfl<|rn tk 1 rfl<|wn tk rfl rfl rfl<|rn tk 3 rfl<|ac 10 hr rfl (fun c1 hr=>?_) (fun c1 hr=>?_)
 .refine rn tk 7 rfl ?_;cases hr;exact kr tk (.inr rfl) rfl rfl
 refine rn tk 9 rfl<|al2 hr (fun s2=>[(0,.l cI a0),(1,.l cI a1),(5,.i s2)]) (fun s2=>[]) (.exit 0) (fun b3=>[]) (fun b3=>[]) .ret (fun b4=>[(4,.bo b4)]) (fun b4=>[]) rfl rfl (fun s2 x6 hr=>?_) (fun b3 hr=>?_) (fun b4 hr=>?_)
 .unfold Qma at hr;refine rn tk 5 rfl<|wn tk rfl rfl rfl<|rn tk 3 rfl<|ac 14 hr rfl (fun c7 hr=>?_) (fun c7 hr=>?_)
  .refine rn tk 5 rfl ?_;obtain ⟨v8,h9,hr⟩:=zaa hr;obtain ⟨v10,h11,hr⟩:=zaa hr;refine dr 8 [(24,.i v10),(23,.ep [pI v10]),(22,.i s2),(21,.l cI a1),(20,.i v8),(19,.ep [pI v8]),(18,.i s2),(17,.l cI a0)] mixed (by kernel_rfl) rfl rfl (pq tk rfl (.plain rfl) (pq tk rfl (.plain rfl) (.run (.plain rfl) (zva (qFa (f:=cI) rfl rfl qxa zza rfl h9)) (pq tk rfl (.plain rfl) (pq tk rfl (.plain rfl) (pq tk rfl (.plain rfl) (.run (.plain rfl) (zva (qFa (f:=cI) rfl rfl qxa zza rfl h11)) (pq tk rfl (.plain rfl) .nil)))))))) rfl<|rn tk 3 rfl<|ac 25 hr rfl (fun c12 hr=>?_) (fun c12 hr=>?_)
   .refine rn tk 8 rfl ?_;cases hr;exact ato rfl rfl rfl rfl
   refine rn tk 8 rfl ?_;cases hr;exact atc rfl rfl
  refine rn tk 2 rfl ?_;cases hr;exact ato rfl rfl rfl rfl
 .refine rn tk 8 rfl ?_;cases hr;exact kr tk (.inr rfl) rfl rfl
 refine rn tk 2 rfl ?_;cases hr;exact kr tk (.inr rfl) rfl rfl
theorem v7a(a0:Str)(r:Str)(hr:qTa a0=some r):Run prog 78 [.s a0] (.s r):=by
 unfold qTa at hr;refine rf (fn:=f78) ⟨func78,rfl,by kernel_rfl⟩ rfl (fun _=>rfl) fun g0 hg=>?_
 refine rn tk 8 rfl ?_;obtain ⟨v1,h2,hr⟩:=zaa hr;refine cl (jta _ _ h2) rfl rfl<|rn tk 16 rfl ?_;cases hr;exact kr tk (.inr rfl) rfl rfl
theorem jXa(a0:zna)(a1:zka)(a2:Bool)(r:Int × zpa)(hr:vJa a0 a1 a2=some r):Run prog 56 [.agg [.l zba.pc a0.Entries,.i a0.Next],.agg [.i a1.Entry,.s a1.Domain,.l cI a1.To],.bo a2] (.tup [.i r.1,.agg [.i r.2.Code,.i r.2.Index]]):=by
 unfold vJa at hr;refine rf (fn:=f56) ⟨func56,rfl,by kernel_rfl⟩ rfl (fun _=>rfl) fun g0 hg=>?_
 refine rn tk 12 rfl ?_;obtain ⟨v1,h2,hr⟩:=zaa hr;refine cl (vla _ _ h2) rfl rfl<|rn tk 7 rfl ?_;obtain ⟨v3,h4,hr⟩:=zaa hr;refine cl (z1a _ _ h4) rfl rfl<|rn tk 2 rfl<|ac 16 hr rfl (fun c5 hr=>?_) (fun c5 hr=>?_)
 .refine rn tk 1 rfl<|dr 2 [(6,.i 0),(17,.agg [.i v1.Code,.i v1.Index])] mixed (by kernel_rfl) rfl rfl (pq tk rfl (.plain rfl) (pq tk rfl (.plain rfl) .nil)) rfl<|rn tk 5 rfl ?_;cases hr;exact kr tk (.inr rfl) rfl rfl
 refine rn tk 7 rfl<|ct hr (fun j6=>[(2,.bo a2),(3,.ptr 3 0),(4,.ptr 4 0),(7,.ptr 7 0),(21,.i j6)]) (fun j6=>[(7,.cells [.i 0,.i 0]),(4,.cells [.i a1.Entry,.s a1.Domain,.l cI a1.To]),(3,.cells [.l zba.pc a0.Entries,.i a0.Next])]) (fun j6 hr jump1=>?_) (fun j6 hr=>?_)
 .refine il (fn:=f74) (args:=[.l zba.pc a0.Entries,.fn (.func 81) [] [.ptr 4 0]]) 100000 199999 [(2,.bo a2),(3,.ptr 3 0),(4,.ptr 4 0),(7,.ptr 7 0)] rfl ⟨func74,rfl,by kernel_rfl⟩ rfl rfl rfl fun T1 ds1=>?_
  refine rn tk 9 rfl<|wn tk rfl rfl rfl<|rn tk 4 rfl<|al2 hr (fun s7=>[(0,.l zba.pc a0.Entries),(1,.fn (.func 81) [] [.ptr 4 0]),(7,.i ((a0.Entries.length:Int))),(8,.i s7)]) (fun s7=>[(199999,.sus g0.w.heap.size ds1),(100002,.hold (.bo a2) (T1.getD 2 undef)),(100003,.hold (.ptr 3 0) (T1.getD 3 undef)),(100004,.hold (.ptr 4 0) (T1.getD 4 undef)),(100007,.hold (.ptr 7 0) (T1.getD 7 undef)),(7,.cells [.i 0,.i 0]),(4,.cells [.i a1.Entry,.s a1.Domain,.l cI a1.To]),(3,.cells [.l zba.pc a0.Entries,.i a0.Next])]) (.exit 0) (fun b8=>[]) (fun b8=>[(199999,.sus g0.w.heap.size ds1),(100002,.hold (.bo a2) (T1.getD 2 undef)),(100003,.hold (.ptr 3 0) (T1.getD 3 undef)),(100004,.hold (.ptr 4 0) (T1.getD 4 undef)),(100007,.hold (.ptr 7 0) (T1.getD 7 undef)),(7,.cells [.i 0,.i 0]),(4,.cells [.i a1.Entry,.s a1.Domain,.l cI a1.To]),(3,.cells [.l zba.pc a0.Entries,.i a0.Next])]) .ret (fun b9=>[(4,.i b9)]) (fun b9=>[(199999,.sus g0.w.heap.size ds1),(100002,.hold (.bo a2) (T1.getD 2 undef)),(100003,.hold (.ptr 3 0) (T1.getD 3 undef)),(100004,.hold (.ptr 4 0) (T1.getD 4 undef)),(100007,.hold (.ptr 7 0) (T1.getD 7 undef)),(7,.cells [.i 0,.i 0]),(4,.cells [.i a1.Entry,.s a1.Domain,.l cI a1.To]),(3,.cells [.l zba.pc a0.Entries,.i a0.Next])]) rfl rfl (fun s7 x11 hr=>?_) (fun b8 hr=>?_) (fun b9 hr=>?_)
  .unfold q8a at hr;refine rn tk 6 rfl<|ac 9 hr rfl (fun c12 hr=>?_) (fun c12 hr=>?_)
   .refine rn tk 15 rfl ?_;obtain ⟨v13,h14,hr⟩:=zaa hr;refine wi tk h14 rfl rfl rfl rfl rfl<|rn tk 1 rfl<|il (fn:=f81) (args:=[.agg [.i v13.Id,.s v13.Mail.Envelope.From,.l zca.pc v13.Mail.Envelope.To,.s v13.Mail.Envelope.Id,.l zha.pc v13.Mail.Message.Fields,.l cU v13.Mail.Message.Body,.i v13.Since,.i v13.Tries,.i v13.Due,.l zda.pc v13.To],.ptr 4 0]) 300000 399999 [(0,.l zba.pc a0.Entries),(1,.fn (.func 81) [] [.ptr 4 0]),(5,.i s7),(7,.i ((a0.Entries.length:Int))),(8,.i s7)] rfl ⟨func81,rfl,by kernel_rfl⟩ rfl rfl rfl fun T3 ds3=>?_
    refine rn tk 17 rfl ?_;refine ie tk [.bo ((v13.Id==a1.Entry))] [(0,.l zba.pc a0.Entries),(1,.fn (.func 81) [] [.ptr 4 0]),(5,.i s7),(7,.i ((a0.Entries.length:Int))),(8,.i s7)] [(2,.cells [.i v13.Id,.s v13.Mail.Envelope.From,.l zca.pc v13.Mail.Envelope.To,.s v13.Mail.Envelope.Id,.l zha.pc v13.Mail.Message.Fields,.l cU v13.Mail.Message.Body,.i v13.Since,.i v13.Tries,.i v13.Due,.l zda.pc v13.To]),(199999,.sus g0.w.heap.size ds1),(100002,.hold (.bo a2) (T1.getD 2 undef)),(100003,.hold (.ptr 3 0) (T1.getD 3 undef)),(100004,.hold (.ptr 4 0) (T1.getD 4 undef)),(100007,.hold (.ptr 7 0) (T1.getD 7 undef)),(7,.cells [.i 0,.i 0]),(4,.cells [.i a1.Entry,.s a1.Domain,.l cI a1.To]),(3,.cells [.l zba.pc a0.Entries,.i a0.Next])] (.inr rfl) rfl rfl rfl rfl (hO ?_);refine rn tk 2 rfl<|ac 16 hr rfl (fun c15 hr=>?_) (fun c15 hr=>?_)
    .refine rn tk 9 rfl ?_;cases hr;exact ato rfl rfl rfl rfl
    refine rn tk 7 rfl ?_;cases hr;exact atc rfl rfl
   refine rn tk 2 rfl ?_;cases hr;exact ato rfl rfl rfl rfl
  .refine rn tk 8 rfl ?_;refine ie tk [.i ((-1))] [(2,.bo a2),(3,.ptr 3 0),(4,.ptr 4 0),(7,.ptr 7 0)] [(7,.cells [.i 0,.i 0]),(4,.cells [.i a1.Entry,.s a1.Domain,.l cI a1.To]),(3,.cells [.l zba.pc a0.Entries,.i a0.Next])] (.inr rfl) rfl rfl rfl rfl ?_;cases hr;exact jump1 _ _ rfl rfl
  refine rn tk 2 rfl ?_;refine ie tk [.i b9] [(2,.bo a2),(3,.ptr 3 0),(4,.ptr 4 0),(7,.ptr 7 0)] [(7,.cells [.i 0,.i 0]),(4,.cells [.i a1.Entry,.s a1.Domain,.l cI a1.To]),(3,.cells [.l zba.pc a0.Entries,.i a0.Next])] (.inr rfl) rfl rfl rfl rfl ?_;cases hr;exact jump1 _ _ rfl rfl
 refine rn tk 10 rfl<|ac 23 hr rfl (fun c16 hr=>?_) (fun c16 hr=>?_)
 .refine rn tk 2 rfl ?_;obtain ⟨v17,h18,hr⟩:=zaa hr;refine cl (zma _ _ _ h18) rfl rfl<|rn tk 6 rfl ?_;cases hr;exact kr tk (.inr rfl) rfl rfl
 refine rn tk 7 rfl ?_;obtain ⟨v19,h20,hr⟩:=zaa hr;refine wi tk h20 rfl rfl rfl rfl rfl<|rn tk 6 rfl<|jb hr (fun j21=>[(2,.bo a2),(4,.ptr 4 0),(7,.ptr 7 0),(9,.i j6),(10,.l zda.pc v19.To),(42,.bo j21)]) (fun j21=>[(7,.cells [.i 0,.i 0]),(4,.cells [.i a1.Entry,.s a1.Domain,.l cI a1.To])]) (fun j21 hr=>?_) (fun j21 hr=>?_)
 .refine rn tk 3 rfl<|wn tk rfl rfl rfl<|rn tk 2 rfl<|bs 35 hr rfl (fun c22 hr=>?_) (fun c22 hr=>?_)
  .refine rn tk 8 rfl ?_;cases hr;exact jn _ rfl rfl rfl
  refine rn tk 2 rfl<|ug rfl rfl rfl<|wn tk rfl rfl rfl<|rn tk 1 rfl<|ug rfl rfl rfl<|wn tk rfl rfl rfl<|rn tk 3 rfl ?_;cases hr;exact jn _ rfl rfl rfl
 refine ac 42 hr rfl (fun c23 hr=>?_) (fun c23 hr=>?_)
 .refine rn tk 2 rfl ?_;obtain ⟨v24,h25,hr⟩:=zaa hr;refine cl (zma _ _ _ h25) rfl rfl<|rn tk 6 rfl ?_;cases hr;exact kr tk (.inr rfl) rfl rfl
 refine rn tk 7 rfl<|wn tk rfl rfl rfl<|rn tk 4 rfl<|al2 hr (fun s26=>[(2,.bo a2),(4,.ptr 4 0),(7,.ptr 7 0),(9,.i j6),(10,.l zda.pc v19.To),(45,.l cI a1.To),(46,.i ((a1.To.length:Int))),(47,.i s26)]) (fun s26=>[(7,.cells [.i 0,.i 0]),(4,.cells [.i a1.Entry,.s a1.Domain,.l cI a1.To])]) (.exit 0) (fun b27=>[(7,.ptr 7 0),(9,.i j6)]) (fun b27=>[(7,.cells [.i 0,.i 0])]) .ret (fun b28=>[(6,.i b28.1),(7,.ptr 7 0)]) (fun b28=>[(7,.cells [.i b28.2.Code,.i b28.2.Index])]) rfl rfl (fun s26 x30 hr=>?_) (fun b27 hr=>?_) (fun b28 hr=>?_)
 .unfold kxa at hr;refine rn tk 6 rfl<|ac 48 hr rfl (fun c31 hr=>?_) (fun c31 hr=>?_)
  .refine rn tk 7 rfl ?_;obtain ⟨v32,h33,hr⟩:=zaa hr;refine wi tk h33 rfl rfl rfl rfl rfl<|rn tk 6 rfl<|jb hr (fun j34=>[(2,.bo a2),(4,.ptr 4 0),(7,.ptr 7 0),(9,.i j6),(10,.l zda.pc v19.To),(11,.i s26),(12,.i v32),(45,.l cI a1.To),(46,.i ((a1.To.length:Int))),(47,.i s26),(52,.bo j34)]) (fun j34=>[(7,.cells [.i 0,.i 0]),(4,.cells [.i a1.Entry,.s a1.Domain,.l cI a1.To])]) (fun j34 hr=>?_) (fun j34 hr=>?_)
   .refine rn tk 4 rfl<|bs 55 hr rfl (fun c35 hr=>?_) (fun c35 hr=>?_)
    .refine rn tk 21 rfl ?_;cases hr;exact jn _ rfl rfl rfl
    refine rn tk 2 rfl<|ug rfl rfl rfl<|wn tk rfl rfl rfl<|rn tk 3 rfl<|bs 61 hr rfl (fun c36 hr=>?_) (fun c36 hr=>?_)
    .refine rn tk 15 rfl ?_;cases hr;exact jn _ rfl rfl rfl
    refine rn tk 3 rfl<|bs 64 hr rfl (fun c37 hr=>?_) (fun c37 hr=>?_)
    .refine rn tk 5 rfl ?_;obtain ⟨v38,h39,hr⟩:=zaa hr;refine ug rfl rfl rfl<|wi tk h39 rfl rfl rfl rfl rfl<|rn tk 6 rfl ?_;cases hr;exact jn _ rfl rfl rfl
    refine rn tk 12 rfl ?_;cases hr;exact jn _ rfl rfl rfl
   refine ac 52 hr rfl (fun c40 hr=>?_) (fun c40 hr=>?_)
   .refine rn tk 3 rfl ?_;obtain ⟨v41,h42,hr⟩:=zaa hr;refine cl (zma _ _ _ h42) rfl rfl<|rn tk 8 rfl ?_;cases hr;exact ato rfl rfl rfl rfl
   refine rn tk 1 rfl ?_;obtain ⟨v43,h44,hr⟩:=zaa hr;obtain ⟨v45,h46,hr⟩:=zaa hr;refine dr 9 [(86,.s a1.Domain),(85,.ptr 4 1),(84,.s v45),(83,.s v43.Recipient.Address),(82,.ep [pS v43.Recipient.Address,pI v43.Recipient.Notify,pI v43.Result,pB v43.Busy]),(81,.ep [pS v43.Recipient.Address,pI v43.Recipient.Notify,pI v43.Result,pB v43.Busy]),(80,.ep [pS v43.Recipient.Address,pI v43.Recipient.Notify,pI v43.Result,pB v43.Busy]),(79,.i v32),(78,.l zda.pc v19.To)] mixed (by kernel_rfl) rfl rfl (pq tk rfl (.plain rfl) (pq tk rfl (.plain rfl) (.run (.plain rfl) (zva (qFa (f:=zda.pc) rfl rfl zia zwa rfl h44)) (pq tk rfl (.plain rfl) (pq tk rfl (.plain rfl) (pq tk rfl (.plain rfl) (.run (.plain rfl) (zKa (v7a v43.Recipient.Address v45 h46) rfl) (pq tk rfl (.plain rfl) (pq tk rfl (.plain rfl) .nil))))))))) rfl<|rn tk 4 rfl<|ac 77 hr rfl (fun c47 hr=>?_) (fun c47 hr=>?_)
   .refine rn tk 3 rfl ?_;obtain ⟨v48,h49,hr⟩:=zaa hr;refine cl (zma _ _ _ h49) rfl rfl<|rn tk 8 rfl ?_;cases hr;exact ato rfl rfl rfl rfl
   refine jb hr (fun j50=>[(2,.bo a2),(4,.ptr 4 0),(7,.ptr 7 0),(9,.i j6),(10,.l zda.pc v19.To),(11,.i s26),(45,.l cI a1.To),(46,.i ((a1.To.length:Int))),(47,.i s26),(90,.bo j50)]) (fun j50=>[(7,.cells [.i 0,.i 0]),(4,.cells [.i a1.Entry,.s a1.Domain,.l cI a1.To])]) (fun j50 hr=>?_) (fun j50 hr=>?_)
   .refine rn tk 3 rfl ?_;obtain ⟨v51,h52,hr⟩:=zaa hr;refine wi tk h52 rfl rfl rfl rfl rfl<|rn tk 4 rfl<|bs 97 hr rfl (fun c53 hr=>?_) (fun c53 hr=>?_)
    .refine rn tk 10 rfl ?_;cases hr;exact jn _ rfl rfl rfl
    refine rn tk 2 rfl ?_;obtain ⟨v54,h55,hr⟩:=zaa hr;refine ug rfl rfl rfl<|wi tk h55 rfl rfl rfl rfl rfl<|rn tk 7 rfl ?_;cases hr;exact jn _ rfl rfl rfl
   refine ac 90 hr rfl (fun c56 hr=>?_) (fun c56 hr=>?_)
   .refine rn tk 3 rfl ?_;obtain ⟨v57,h58,hr⟩:=zaa hr;refine cl (zma _ _ _ h58) rfl rfl<|rn tk 8 rfl ?_;cases hr;exact ato rfl rfl rfl rfl
   refine rn tk 8 rfl ?_;cases hr;exact atc rfl rfl
  refine rn tk 2 rfl ?_;cases hr;exact ato rfl rfl rfl rfl
 .refine rn tk 5 rfl ?_;obtain ⟨v59,h60,hr⟩:=zaa hr;refine cl (zLa _ h60) rfl rfl<|rn tk 5 rfl ?_;cases hr;exact kr tk (.inr rfl) rfl rfl
 refine rn tk 2 rfl ?_;cases hr;exact kr tk (.inr rfl) rfl rfl
theorem WBa(a0:List Int)(r:Bool)(hr:yXa a0=some r):Run prog 108 [.l cI a0] (.bo r):=by
 unfold yXa at hr;refine QRa (fn:=f108) ⟨func108,rfl,by kernel_rfl⟩ rfl (fun _=>rfl) fun g0 hg=>?_
 refine woa ?_;refine k3a ?_;refine zUa rfl (zXa (d:=2) rfl rfl wra) ?_;refine vBa<|kna ?_;refine woa ?_;refine woa ?_;refine k3a ?_;refine zUa rfl (zXa (d:=5) rfl rfl wqa) ?_;refine zUa rfl (zXa (d:=6) rfl rfl (vbb (f:=cI) rfl qxa.u)) ?_;refine zUa rfl (zXa (d:=7) rfl rfl wqa) ?_;refine vBa<|kna ?_;refine VPa ?_;obtain ⟨o4,hl,hr⟩:=zaa hr;refine kGb (qna a0) (fun s1=>[(5,.l cI a0),(6,.i ((a0.length:Int))),(7,.i s1)]) (fun s1=>[]) (fun o=>match o with | .inl b2=>At (.exit 0) [] [] | .inr b3=>At .ret [(2,.bo b3)] []) ?_ 0 hl (zea rfl (zea rfl (zea rfl zRa))) zDa ?_
 .intro s1 x5 hr;unfold qna at hr;refine woa ?_;refine k3a ?_;refine zUa rfl (zXa (d:=8) rfl rfl (ev_lss rfl rfl)) ?_;refine vBa<|kna ?_;refine woa ?_;refine K6a rfl (fun c6=>?_) (fun c6=>?_)
  .replace hr:=Zha c6 hr
   refine VCa<|kna ?_;refine woa ?_;refine VPa ?_;refine woa ?_;refine k3a ?_;obtain ⟨v7,h8,hr⟩:=zaa hr;refine zUa rfl (zXa (d:=9) rfl rfl (qFa (f:=cI) rfl rfl qxa zza rfl h8)) ?_;refine zUa rfl (zXa (d:=10) rfl rfl (Yea rfl zza rfl rfl)) ?_;refine zUa rfl (zXa (d:=4) rfl rfl wra) ?_;refine vBa<|kna ?_;refine woa ?_;refine k3a ?_;refine zUa rfl (zXa (d:=11) rfl rfl wqa) ?_;obtain ⟨v9,h10,hr⟩:=zaa hr;refine zUa rfl (JKa (k:=12) (vga v7 v9 h10) rfl rfl) ?_;refine zUa rfl (zXa (d:=13) rfl rfl (ev_not rfl)) ?_;refine vBa<|kna ?_;refine K6a rfl (fun c11=>?_) (fun c11=>?_)
   .replace hr:=Zha c11 hr
    refine woa ?_;refine k3a ?_;refine zUa rfl (zXa (d:=2) rfl rfl wra) ?_;refine vBa<|kna ?_;refine YOa<|Yda<|JDa ?_;cases hr;exact ⟨by simp,rfl,(zea rfl zRa),zDa⟩
   replace hr:=Zia c11 hr
   refine VCa<|YPa<|kna ?_;refine k3a ?_;refine zUa rfl (zXa (d:=14) rfl rfl (ev_add rfl rfl)) ?_;refine zUa rfl (zXa (d:=7) rfl rfl wqa) ?_;refine vBa ?_;cases hr;exact ⟨rfl,(zea rfl (zea rfl (zea rfl zRa))),zDa⟩
  replace hr:=Zia c6 hr
  refine kEb<|qab ?_;cases hr;exact ⟨by simp,rfl,zRa,zDa⟩
 intro e fr2 st2 hq;rcases o4 with b2 | b3
 .obtain ⟨rfl,hf,hs⟩:=hq;refine VQa<|kna ?_;refine JHa hf hs ?_;refine woa ?_;refine k3a ?_;refine zUa rfl (zXa (d:=2) rfl rfl wra) ?_;refine vBa<|kna ?_;refine YOa ?_;cases hr;exact kret' rfl (.cons (YUa rfl) .nil) rfl
 obtain ⟨rfl,hf,hs⟩:=hq;refine Yda<|JDa ?_;cases hr;exact kret' rfl (.cons (vab hf hs (YUa rfl)) .nil) rfl
theorem W8a(a0:Int)(a1:Int)(a2:Int)(r:Int × Bool × zpa)(hr:jPa a0 a1 a2=some r):Run prog 83 [.i a0,.i a1,.i a2] (.tup [.i r.1,.bo r.2.1,.agg [.i r.2.2.Code,.i r.2.2.Index]]):=by
 unfold jPa at hr;refine rf (fn:=f83) ⟨func83,rfl,by kernel_rfl⟩ rfl (fun _=>rfl) fun g0 hg=>?_
 refine rn tk 13 rfl<|wz cI ([a0,a2]:List Int) tk rfl rfl (fun _=>rfl) rfl rfl rfl ?_;obtain ⟨v1,h2,hr⟩:=zaa hr;refine cl (WBa _ _ h2) rfl rfl<|rn tk 4 rfl<|ac 11 hr rfl (fun c3 hr=>?_) (fun c3 hr=>?_)
 .refine rn tk 2 rfl ?_;obtain ⟨v4,h5,hr⟩:=zaa hr;refine cl (zma _ _ _ h5) rfl rfl<|rn tk 8 rfl ?_;cases hr;exact kr tk (.inr rfl) rfl rfl
 refine jb hr (fun j6=>[(0,.i a0),(1,.i a1),(2,.i a2),(8,.ptr 8 0),(18,.bo j6)]) (fun j6=>[(8,.cells [.i 0,.i 0])]) (fun j6 hr=>?_) (fun j6 hr=>?_)
 .refine rn tk 4 rfl<|bs 21 hr rfl (fun c7 hr=>?_) (fun c7 hr=>?_)
  .refine rn tk 5 rfl ?_;cases hr;exact jn _ rfl rfl rfl
  refine rn tk 5 rfl ?_;cases hr;exact jn _ rfl rfl rfl
 refine ac 18 hr rfl (fun c8 hr=>?_) (fun c8 hr=>?_)
 .refine rn tk 2 rfl ?_;obtain ⟨v9,h10,hr⟩:=zaa hr;refine cl (zma _ _ _ h10) rfl rfl<|rn tk 8 rfl ?_;cases hr;exact kr tk (.inr rfl) rfl rfl
 refine rn tk 8 rfl<|ac 26 hr rfl (fun c11 hr=>?_) (fun c11 hr=>?_)
 .refine rn tk 2 rfl ?_;obtain ⟨v12,h13,hr⟩:=zaa hr;refine cl (zma _ _ _ h13) rfl rfl<|rn tk 8 rfl ?_;cases hr;exact kr tk (.inr rfl) rfl rfl
 refine rn tk 9 rfl<|ac 31 hr rfl (fun c14 hr=>?_) (fun c14 hr=>?_)
 .refine rn tk 2 rfl ?_;obtain ⟨v15,h16,hr⟩:=zaa hr;refine cl (zLa _ h16) rfl rfl<|rn tk 8 rfl ?_;cases hr;exact kr tk (.inr rfl) rfl rfl
 refine rn tk 15 rfl<|al1 hr (fun s17=>[(0,.i a0),(1,.i a1),(2,.i a2),(8,.ptr 8 0),(9,.i s17.1),(10,.i s17.2)]) (fun s17=>[(8,.cells [.i 0,.i 0])]) (.exit 1) (fun b18=>[(0,.i a0),(2,.i a2),(8,.ptr 8 0),(9,.i b18)]) (fun b18=>[(8,.cells [.i 0,.i 0])]) rfl rfl (fun s17 x19 hr=>?_) (fun b18 hr=>?_)
 .unfold qfa at hr;refine rn tk 1 rfl<|jb hr (fun j20=>[(0,.i a0),(1,.i a1),(2,.i a2),(8,.ptr 8 0),(9,.i s17.1),(10,.i s17.2),(43,.bo j20)]) (fun j20=>[(8,.cells [.i 0,.i 0])]) (fun j20 hr=>?_) (fun j20 hr=>?_)
  .refine rn tk 5 rfl<|bs 40 hr rfl (fun c21 hr=>?_) (fun c21 hr=>?_)
   .refine rn tk 4 rfl ?_;cases hr;exact jn _ rfl rfl rfl
   refine rn tk 4 rfl ?_;cases hr;exact jn _ rfl rfl rfl
  refine ac 43 hr rfl (fun c22 hr=>?_) (fun c22 hr=>?_)
  .refine rn tk 7 rfl<|wq (ev_min rfl rfl) rfl rfl rfl<|rn tk 9 rfl ?_;cases hr;exact atc rfl rfl
  refine rn tk 2 rfl ?_;cases hr;exact ato rfl rfl rfl rfl
 refine rn tk 9 rfl<|wq (ev_min3 rfl rfl rfl) rfl rfl rfl ?_;obtain ⟨v23,h24,hr⟩:=zaa hr;refine cl (zLa _ h24) rfl rfl<|rn tk 6 rfl ?_;cases hr;exact kr tk (.inr rfl) rfl rfl
theorem KHa(a0:zna)(a1:zka)(a2:List Int)(a3:Int)(r:zna × (List zja) × zpa)(hr:yHa a0 a1 a2 a3=some r):Run prog 19 [.agg [.l zba.pc a0.Entries,.i a0.Next],.agg [.i a1.Entry,.s a1.Domain,.l cI a1.To],.l cI a2,.i a3] (.tup [.agg [.l zba.pc r.1.Entries,.i r.1.Next],.l zja.pc r.2.1,.agg [.i r.2.2.Code,.i r.2.2.Index]]):=by
 unfold yHa at hr;refine rf (fn:=f19) ⟨func19,rfl,by kernel_rfl⟩ rfl (fun _=>rfl) fun g0 hg=>?_
 refine rn tk 13 rfl ?_;obtain ⟨v1,h2,hr⟩:=zaa hr;refine cl (jXa _ _ _ _ h2) rfl rfl<|rn tk 13 rfl ?_;obtain ⟨v3,h4,hr⟩:=zaa hr;refine cl (z1a _ _ h4) rfl rfl<|rn tk 3 rfl<|ac 26 hr rfl (fun c5 hr=>?_) (fun c5 hr=>?_)
 .refine rn tk 1 rfl<|drX 2 4 4 4 [1] [(30,.agg [.i v1.2.Code,.i v1.2.Index]),(29,.agg [.pv (.sl (some true) []),.i 0])] [(8,.ptr 8 0),(9,.pv (.sl (some true) [])),(10,.ptr 10 0),(30,.agg [.i v1.2.Code,.i v1.2.Index])] [(12,.cells [.i v1.2.Code,.i v1.2.Index]),(10,.cells [.i 0,.i 0]),(8,.cells [.pv (.sl (some true) []),.i 0]),(5,.cells [.i a1.Entry,.s a1.Domain,.l cI a1.To]),(4,.cells [.l zba.pc a0.Entries,.i a0.Next])] tk mixed (by kernel_rfl) rfl rfl rfl (pqX tk rfl (.plain rfl) (pqX tk rfl (.plain rfl) .nil)) rfl rfl rfl rfl (by kernel_rfl)<|rn tk 6 rfl ?_;cases hr;exact kr tk (.inr rfl) rfl rfl
 refine rn tk 3 rfl<|wn tk rfl rfl rfl<|rn tk 2 rfl<|wn tk rfl rfl rfl<|rn tk 4 rfl<|ac 31 hr rfl (fun c6 hr=>?_) (fun c6 hr=>?_)
 .refine rn tk 3 rfl ?_;obtain ⟨v7,h8,hr⟩:=zaa hr;refine cl (zma _ _ _ h8) rfl rfl<|rn tk 8 rfl ?_;cases hr;exact kr tk (.inr rfl) rfl rfl
 refine rn tk 3 rfl<|il (fn:=Tryz.f57) (args:=[.l cI a2,.fn (.func 58) [] []]) 100000 199999 [(2,.l cI a2),(3,.i a3),(4,.ptr 4 0),(5,.ptr 5 0),(8,.ptr 8 0),(10,.ptr 10 0),(11,.i v1.1)] rfl ⟨func57,rfl,by kernel_rfl⟩ rfl rfl rfl fun T1 ds1=>?_
 refine rn tk 9 rfl<|ct hr (fun j9=>[(7,.i j9)]) (fun j9=>[(199999,.sus g0.w.heap.size ds1),(100002,.hold (.l cI a2) (T1.getD 2 undef)),(100003,.hold (.i a3) (T1.getD 3 undef)),(100004,.hold (.ptr 4 0) (T1.getD 4 undef)),(100005,.hold (.ptr 5 0) (T1.getD 5 undef)),(100008,.hold (.ptr 8 0) (T1.getD 8 undef)),(100010,.hold (.ptr 10 0) (T1.getD 10 undef)),(100011,.hold (.i v1.1) (T1.getD 11 undef)),(10,.cells [.i 0,.i 0]),(8,.cells [.l zba.pc ([]),.i 0]),(5,.cells [.i a1.Entry,.s a1.Domain,.l cI a1.To]),(4,.cells [.l zba.pc a0.Entries,.i a0.Next])]) (fun j9 hr jump2=>?_) (fun j9 hr=>?_)
 .refine il (fn:=f82) (args:=[.l cI a2,.fn (.func 58) [] []]) 200000 299999 [] rfl ⟨func82,rfl,by kernel_rfl⟩ rfl rfl rfl fun T2 ds2=>?_
  refine rn tk 9 rfl<|wn tk rfl rfl rfl<|rn tk 4 rfl<|al2 hr (fun s10=>[(0,.l cI a2),(1,.fn (.func 58) [] []),(7,.i ((a2.length:Int))),(8,.i s10)]) (fun s10=>[(299999,.sus g0.w.heap.size ds2),(199999,.sus g0.w.heap.size ds1),(100002,.hold (.l cI a2) (T1.getD 2 undef)),(100003,.hold (.i a3) (T1.getD 3 undef)),(100004,.hold (.ptr 4 0) (T1.getD 4 undef)),(100005,.hold (.ptr 5 0) (T1.getD 5 undef)),(100008,.hold (.ptr 8 0) (T1.getD 8 undef)),(100010,.hold (.ptr 10 0) (T1.getD 10 undef)),(100011,.hold (.i v1.1) (T1.getD 11 undef)),(10,.cells [.i 0,.i 0]),(8,.cells [.l zba.pc ([]),.i 0]),(5,.cells [.i a1.Entry,.s a1.Domain,.l cI a1.To]),(4,.cells [.l zba.pc a0.Entries,.i a0.Next])]) (.exit 0) (fun b11=>[]) (fun b11=>[(299999,.sus g0.w.heap.size ds2),(199999,.sus g0.w.heap.size ds1),(100002,.hold (.l cI a2) (T1.getD 2 undef)),(100003,.hold (.i a3) (T1.getD 3 undef)),(100004,.hold (.ptr 4 0) (T1.getD 4 undef)),(100005,.hold (.ptr 5 0) (T1.getD 5 undef)),(100008,.hold (.ptr 8 0) (T1.getD 8 undef)),(100010,.hold (.ptr 10 0) (T1.getD 10 undef)),(100011,.hold (.i v1.1) (T1.getD 11 undef)),(10,.cells [.i 0,.i 0]),(8,.cells [.l zba.pc ([]),.i 0]),(5,.cells [.i a1.Entry,.s a1.Domain,.l cI a1.To]),(4,.cells [.l zba.pc a0.Entries,.i a0.Next])]) .ret (fun b12=>[(4,.i b12)]) (fun b12=>[(299999,.sus g0.w.heap.size ds2),(199999,.sus g0.w.heap.size ds1),(100002,.hold (.l cI a2) (T1.getD 2 undef)),(100003,.hold (.i a3) (T1.getD 3 undef)),(100004,.hold (.ptr 4 0) (T1.getD 4 undef)),(100005,.hold (.ptr 5 0) (T1.getD 5 undef)),(100008,.hold (.ptr 8 0) (T1.getD 8 undef)),(100010,.hold (.ptr 10 0) (T1.getD 10 undef)),(100011,.hold (.i v1.1) (T1.getD 11 undef)),(10,.cells [.i 0,.i 0]),(8,.cells [.l zba.pc ([]),.i 0]),(5,.cells [.i a1.Entry,.s a1.Domain,.l cI a1.To]),(4,.cells [.l zba.pc a0.Entries,.i a0.Next])]) rfl rfl (fun s10 x14 hr=>?_) (fun b11 hr=>?_) (fun b12 hr=>?_)
  .unfold wDa at hr;refine rn tk 6 rfl<|ac 9 hr rfl (fun c15 hr=>?_) (fun c15 hr=>?_)
   .refine rn tk 15 rfl ?_;obtain ⟨v16,h17,hr⟩:=zaa hr;refine wi tk h17 rfl rfl rfl rfl rfl<|rn tk 1 rfl<|il (fn:=f58) (args:=[.i v16]) 400000 499999 [(0,.l cI a2),(1,.fn (.func 58) [] []),(5,.i s10),(7,.i ((a2.length:Int))),(8,.i s10)] rfl ⟨func58,rfl,by kernel_rfl⟩ rfl rfl rfl fun T4 ds4=>?_
    refine rn tk 5 rfl<|jb hr (fun j18=>[(2,.bo j18)]) (fun j18=>[(499999,.sus g0.w.heap.size ds4),(400000,.hold (.l cI a2) (T4.getD 0 undef)),(400001,.hold (.fn (.func 58) [] []) (T4.getD 1 undef)),(400007,.hold (.i ((a2.length:Int))) (T4.getD 7 undef)),(400008,.hold (.i s10) (T4.getD 8 undef)),(400005,.hold (.i s10) (T4.getD 5 undef)),(299999,.sus g0.w.heap.size ds2),(199999,.sus g0.w.heap.size ds1),(100002,.hold (.l cI a2) (T1.getD 2 undef)),(100003,.hold (.i a3) (T1.getD 3 undef)),(100004,.hold (.ptr 4 0) (T1.getD 4 undef)),(100005,.hold (.ptr 5 0) (T1.getD 5 undef)),(100008,.hold (.ptr 8 0) (T1.getD 8 undef)),(100010,.hold (.ptr 10 0) (T1.getD 10 undef)),(100011,.hold (.i v1.1) (T1.getD 11 undef)),(10,.cells [.i 0,.i 0]),(8,.cells [.l zba.pc ([]),.i 0]),(5,.cells [.i a1.Entry,.s a1.Domain,.l cI a1.To]),(4,.cells [.l zba.pc a0.Entries,.i a0.Next])]) (fun j18 hr=>?_) (fun j18 hr=>?_)
    .refine rn tk 4 rfl<|bs 5 hr rfl (fun c19 hr=>?_) (fun c19 hr=>?_)
     .refine rn tk 5 rfl ?_;cases hr;exact jn _ rfl rfl rfl
     refine rn tk 5 rfl ?_;cases hr;exact jn _ rfl rfl rfl
    refine rn tk 1 rfl ?_;refine ie tk [.bo j18] [(0,.l cI a2),(1,.fn (.func 58) [] []),(5,.i s10),(7,.i ((a2.length:Int))),(8,.i s10)] [(299999,.sus g0.w.heap.size ds2),(199999,.sus g0.w.heap.size ds1),(100002,.hold (.l cI a2) (T1.getD 2 undef)),(100003,.hold (.i a3) (T1.getD 3 undef)),(100004,.hold (.ptr 4 0) (T1.getD 4 undef)),(100005,.hold (.ptr 5 0) (T1.getD 5 undef)),(100008,.hold (.ptr 8 0) (T1.getD 8 undef)),(100010,.hold (.ptr 10 0) (T1.getD 10 undef)),(100011,.hold (.i v1.1) (T1.getD 11 undef)),(10,.cells [.i 0,.i 0]),(8,.cells [.l zba.pc ([]),.i 0]),(5,.cells [.i a1.Entry,.s a1.Domain,.l cI a1.To]),(4,.cells [.l zba.pc a0.Entries,.i a0.Next])] (.inr rfl) rfl rfl rfl rfl (hO ?_);refine rn tk 2 rfl<|ac 16 hr rfl (fun c20 hr=>?_) (fun c20 hr=>?_)
    .refine rn tk 9 rfl ?_;cases hr;exact ato rfl rfl rfl rfl
    refine rn tk 7 rfl ?_;cases hr;exact atc rfl rfl
   refine rn tk 2 rfl ?_;cases hr;exact ato rfl rfl rfl rfl
  .refine rn tk 8 rfl ?_;refine ie tk [.i ((-1))] [] [(199999,.sus g0.w.heap.size ds1),(100002,.hold (.l cI a2) (T1.getD 2 undef)),(100003,.hold (.i a3) (T1.getD 3 undef)),(100004,.hold (.ptr 4 0) (T1.getD 4 undef)),(100005,.hold (.ptr 5 0) (T1.getD 5 undef)),(100008,.hold (.ptr 8 0) (T1.getD 8 undef)),(100010,.hold (.ptr 10 0) (T1.getD 10 undef)),(100011,.hold (.i v1.1) (T1.getD 11 undef)),(10,.cells [.i 0,.i 0]),(8,.cells [.l zba.pc ([]),.i 0]),(5,.cells [.i a1.Entry,.s a1.Domain,.l cI a1.To]),(4,.cells [.l zba.pc a0.Entries,.i a0.Next])] (.inr rfl) rfl rfl rfl rfl ?_;cases hr;exact jump2 _ _ rfl rfl
  refine rn tk 2 rfl ?_;refine ie tk [.i b12] [] [(199999,.sus g0.w.heap.size ds1),(100002,.hold (.l cI a2) (T1.getD 2 undef)),(100003,.hold (.i a3) (T1.getD 3 undef)),(100004,.hold (.ptr 4 0) (T1.getD 4 undef)),(100005,.hold (.ptr 5 0) (T1.getD 5 undef)),(100008,.hold (.ptr 8 0) (T1.getD 8 undef)),(100010,.hold (.ptr 10 0) (T1.getD 10 undef)),(100011,.hold (.i v1.1) (T1.getD 11 undef)),(10,.cells [.i 0,.i 0]),(8,.cells [.l zba.pc ([]),.i 0]),(5,.cells [.i a1.Entry,.s a1.Domain,.l cI a1.To]),(4,.cells [.l zba.pc a0.Entries,.i a0.Next])] (.inr rfl) rfl rfl rfl rfl ?_;cases hr;exact jump2 _ _ rfl rfl
 refine rn tk 5 rfl ?_;refine ie tk [.bo (decide (0<=j9))] [(2,.l cI a2),(3,.i a3),(4,.ptr 4 0),(5,.ptr 5 0),(8,.ptr 8 0),(10,.ptr 10 0),(11,.i v1.1)] [(10,.cells [.i 0,.i 0]),(8,.cells [.l zba.pc ([]),.i 0]),(5,.cells [.i a1.Entry,.s a1.Domain,.l cI a1.To]),(4,.cells [.l zba.pc a0.Entries,.i a0.Next])] (.inr rfl) rfl rfl rfl rfl (hO ?_);refine rn tk 3 rfl<|ac 40 hr rfl (fun c21 hr=>?_) (fun c21 hr=>?_)
 .refine rn tk 3 rfl ?_;obtain ⟨v22,h23,hr⟩:=zaa hr;refine cl (zma _ _ _ h23) rfl rfl<|rn tk 8 rfl ?_;cases hr;exact kr tk (.inr rfl) rfl rfl
 refine rn tk 3 rfl ?_;obtain ⟨v24,h25,hr⟩:=zaa hr;refine cl (vga _ _ h25) rfl rfl<|rn tk 4 rfl<|ac 45 hr rfl (fun c26 hr=>?_) (fun c26 hr=>?_)
 .refine rn tk 3 rfl ?_;obtain ⟨v27,h28,hr⟩:=zaa hr;refine cl (zma _ _ _ h28) rfl rfl<|rn tk 8 rfl ?_;cases hr;exact kr tk (.inr rfl) rfl rfl
 refine rn tk 6 rfl ?_;obtain ⟨v29,h30,hr⟩:=zaa hr;refine wi tk h30 rfl rfl rfl rfl rfl<|rn tk 6 rfl<|ac 51 hr rfl (fun c31 hr=>?_) (fun c31 hr=>?_)
 .refine rn tk 3 rfl ?_;obtain ⟨v32,h33,hr⟩:=zaa hr;refine cl (zma _ _ _ h33) rfl rfl<|rn tk 8 rfl ?_;cases hr;exact kr tk (.inr rfl) rfl rfl
 refine rn tk 6 rfl<|il (fn:=f31) (args:=[.agg [.l zba.pc a0.Entries,.i a0.Next]]) 500000 599999 [(2,.l cI a2),(3,.i a3),(4,.ptr 4 0),(5,.ptr 5 0),(8,.ptr 8 0),(10,.ptr 10 0),(11,.i v1.1)] rfl ⟨func31,rfl,by kernel_rfl⟩ rfl rfl rfl fun T5 ds5=>?_
 refine rn tk 4 rfl ?_;refine zYa 1002 (o:=2) (j:=0) 57 10 rfl rfl rfl rfl (hO ?_);refine rn tk 6 rfl ?_;obtain ⟨v34,h35,hr⟩:=zaa hr;refine wo (jGa (k:=7) 1007 (z0a a0.Entries v34 h35) rfl rfl rfl rfl) rfl ?_;refine vma 1007 9 63 4 rfl (hO ?_);refine rn tk 9 rfl<|wq (Q2a (F:=zba.pc) (l:=v34) rfl rfl zla.u) rfl rfl rfl<|rn tk 4 rfl<|al1 hr (fun s36=>[(1,.ptr 1 0),(2,.ptr 2 0),(11,.i ((v34.length:Int))),(12,.i s36.1)]) (fun s36=>[(1007,.nrow 57 10 9 63 4 s36.2.1 (List.map zba.pc s36.2.2)),(1002,.row 57 true 10 (List.map zba.pc (([]:List zba)))),(2,.cells [.hs 1002 0,.i 0]),(1,.cells [.ns 1007,.i a0.Next]),(599999,.sus g0.w.heap.size ds5),(500002,.hold (.l cI a2) (T5.getD 2 undef)),(500003,.hold (.i a3) (T5.getD 3 undef)),(500004,.hold (.ptr 4 0) (T5.getD 4 undef)),(500005,.hold (.ptr 5 0) (T5.getD 5 undef)),(500008,.hold (.ptr 8 0) (T5.getD 8 undef)),(500010,.hold (.ptr 10 0) (T5.getD 10 undef)),(500011,.hold (.i v1.1) (T5.getD 11 undef)),(10,.cells [.i 0,.i 0]),(8,.cells [.l zba.pc ([]),.i 0]),(5,.cells [.i a1.Entry,.s a1.Domain,.l cI a1.To]),(4,.cells [.l zba.pc a0.Entries,.i a0.Next])]) (.exit 0) (fun b37=>[(1,.ptr 1 0),(2,.ptr 2 0)]) (fun b37=>[(1007,.nrow 57 10 9 63 4 b37.2 (List.map zba.pc b37.1)),(1002,.row 57 true 10 (List.map zba.pc (([]:List zba)))),(2,.cells [.hs 1002 0,.i 0]),(1,.cells [.ns 1007,.i a0.Next]),(599999,.sus g0.w.heap.size ds5),(500002,.hold (.l cI a2) (T5.getD 2 undef)),(500003,.hold (.i a3) (T5.getD 3 undef)),(500004,.hold (.ptr 4 0) (T5.getD 4 undef)),(500005,.hold (.ptr 5 0) (T5.getD 5 undef)),(500008,.hold (.ptr 8 0) (T5.getD 8 undef)),(500010,.hold (.ptr 10 0) (T5.getD 10 undef)),(500011,.hold (.i v1.1) (T5.getD 11 undef)),(10,.cells [.i 0,.i 0]),(8,.cells [.l zba.pc ([]),.i 0]),(5,.cells [.i a1.Entry,.s a1.Domain,.l cI a1.To]),(4,.cells [.l zba.pc a0.Entries,.i a0.Next])]) rfl rfl (fun s36 x38 hr=>?_) (fun b37 hr=>?_)
 .unfold j6a at hr;refine rn tk 6 rfl<|ac 13 hr rfl (fun c39 hr=>?_) (fun c39 hr=>?_)
  .refine rn tk 15 rfl ?_;obtain ⟨v40,h41,hr⟩:=zaa hr;refine wq (wva (F:=zba.pc) (l:=s36.2.2) (n:=s36.1) rfl rfl rfl zla zga h41) rfl rfl rfl<|rn tk 3 rfl ?_;obtain ⟨v42,h43,hr⟩:=zaa hr;obtain ⟨v44,h45,hr⟩:=zaa hr;obtain ⟨v46,h47,hr⟩:=zaa hr;obtain ⟨v48,h49,hr⟩:=zaa hr;obtain ⟨v50,h51,hr⟩:=zaa hr;obtain ⟨v52,h53,hr⟩:=zaa hr;obtain ⟨v54,h55,hr⟩:=zaa hr;obtain ⟨v56,h57,hr⟩:=zaa hr;refine mz [some (.np 1007 (Int.toNat s36.1) 0),some (.np 1007 (Int.toNat s36.1) 0),some (.np 1007 (Int.toNat s36.1) 0),some (.np 1007 (Int.toNat s36.1) 0),some (.np 1007 (Int.toNat s36.1) 1),some (.agg [.s v42.Mail.Envelope.From,.l zca.pc v42.Mail.Envelope.To,.s v42.Mail.Envelope.Id,.l zha.pc v42.Mail.Message.Fields,.l cU v42.Mail.Message.Body]),some (.agg [.s v44.Envelope.From,.l zca.pc v44.Envelope.To,.s v44.Envelope.Id,.l zha.pc v44.Message.Fields,.l cU v44.Message.Body]),some (.np 1007 (Int.toNat s36.1) 0),some (.np 1007 (Int.toNat s36.1) 0),some (.np 1007 (Int.toNat s36.1) 9),some (.l zda.pc v48.To),none,some (.np 1007 (Int.toNat s36.1) 0),some (.np 1007 (Int.toNat s36.1) 1),none,some (.np 1007 (Int.toNat s36.1) 0),some (.np 1007 (Int.toNat s36.1) 9),none] (fun f s=>[((bt 18 0),f,s),((bt 18 2048),((30,.hs 1030 0)::f),((1030,.row 63 true 4 (List.map zda.pc v50))::s)),((bt 18 18432),((30,.hs 1030 0)::f),(Sto.upd ((1030,.row 63 true 4 (List.map zda.pc v50))::s) 1007 (.nrow 57 10 9 63 4 s36.2.1 (List.map zba.pc ((List.set s36.2.2 (Int.toNat s36.1) ((zba.mk v52.Id v44 v52.Since v52.Tries v52.Due v52.To)))))))),((bt 18 149504),(Fr.clrs [1030] ((30,.hs 1030 0)::f)),(Sto.upd (Sto.mp (AV.clr 1030) (Sto.dels [1030] (Sto.upd ((1030,.row 63 true 4 (List.map zda.pc v50))::s) 1007 (.nrow 57 10 9 63 4 s36.2.1 (List.map zba.pc ((List.set s36.2.2 (Int.toNat s36.1) ((zba.mk v52.Id v44 v52.Since v52.Tries v52.Due v52.To))))))))) 1007 (.nrow 57 10 9 63 4 ((s36.2.1+1)) (List.map zba.pc ((List.set ((List.set s36.2.2 (Int.toNat s36.1) ((zba.mk v52.Id v44 v52.Since v52.Tries v52.Due v52.To)))) (Int.toNat s36.1) ((zba.mk v56.Id v56.Mail v56.Since v56.Tries v56.Due v50))))))))]) mixed (by kernel_rfl) (.cons (mn tk [3,4,5,6,8,9,10,11] (by kernel_rfl) (.cons (.pure rfl rfl (zva (zta rfl))) (.cons (.pure rfl rfl (zva (zoa (q:=1) rfl zga.u rfl z6a rfl rfl))) (.cons (.pure rfl rfl (zva (Kfa (F:=zba.pc) (l:=s36.2.2) (n:=s36.1) (j0:=1) rfl rfl z6a rfl h43 rfl (.inl rfl)))) (.cons (.pure rfl rfl (zKa (qia v42.Mail v44 h45) rfl)) (.cons (.pure rfl rfl (zva (zta rfl))) (.cons (.pure rfl rfl (zva (zoa (q:=9) rfl zga.u rfl zia rfl rfl))) (.cons (.pure rfl rfl (zva (wwa (F:=zba.pc) (l:=s36.2.2) (n:=s36.1) (j0:=9) rfl rfl zia rfl h49 rfl (.inr (j2a h47))))) (.cons (mdt 1 rfl (VJa 1030 (zQa v48.To v50 h51) rfl rfl rfl rfl) (by kernel_rfl)) .nil))))))))) (.cons (mn tk [12,13,14] (by kernel_rfl) (.cons (.pure rfl rfl (zva (zta rfl))) (.cons (.pure rfl rfl (zva (zoa (q:=1) rfl zga.u rfl z6a rfl rfl))) (.cons (mst 2 rfl (Kga (F:=zba.pc) (l:=s36.2.2) (n:=s36.1) (j0:=1) (v:=v52) (v' :=((zba.mk v52.Id v44 v52.Since v52.Tries v52.Due v52.To))) (pcs:=[pS v44.Envelope.From,pL zca.pc v44.Envelope.To,pS v44.Envelope.Id,pL zha.pc v44.Message.Fields,pL cU v44.Message.Body]) rfl rfl rfl z6a rfl h53 rfl rfl rfl) (by kernel_rfl)) .nil)))) (.cons (mn tk [15,16,17] (by kernel_rfl) (.cons (.pure rfl rfl (zva (zta rfl))) (.cons (.pure rfl rfl (zva (zoa (q:=9) rfl zga.u rfl zia rfl rfl))) (.cons (mpt 3 rfl (VLa (F:=zba.pc) (G2:=zda.pc) (l:=((List.set s36.2.2 (Int.toNat s36.1) ((zba.mk v52.Id v44 v52.Since v52.Tries v52.Due v52.To))))) (l2:=v50) (n:=s36.1) (j0:=9) (v:=v56) (v' :=((zba.mk v56.Id v56.Mail v56.Since v56.Tries v56.Due v50))) rfl rfl rfl rfl rfl zia rfl h57 (Kea h55) rfl rfl) (by kernel_rfl)) .nil)))) (.cons (mf tk [] [(1,.ptr 1 0),(2,.ptr 2 0),(11,.i ((v34.length:Int))),(12,.i s36.1)] (by kernel_rfl) .nil (fc rfl (fc rfl (fc rfl (fc rfl fn)))) (hA ?_)) .nil))));refine rn tk 6 rfl ?_;cases hr;exact atc rfl rfl
  refine rn tk 2 rfl ?_;cases hr;exact ato rfl rfl rfl rfl
 refine rn tk 9 rfl ?_;refine ie tk [.agg [.ns 1007,.i a0.Next]] [(2,.l cI a2),(3,.i a3),(4,.ptr 4 0),(5,.ptr 5 0),(8,.ptr 8 0),(10,.ptr 10 0),(11,.i v1.1)] [(1007,.nrow 57 10 9 63 4 b37.2 (List.map zba.pc b37.1)),(1002,.row 57 true 10 (List.map zba.pc (([]:List zba)))),(2,.cells [.ns 1007,.i a0.Next]),(1,.cells [.ns 1007,.i a0.Next]),(10,.cells [.i 0,.i 0]),(8,.cells [.l zba.pc ([]),.i 0]),(5,.cells [.i a1.Entry,.s a1.Domain,.l cI a1.To]),(4,.cells [.l zba.pc a0.Entries,.i a0.Next])] (.inr rfl) rfl rfl rfl rfl (hO ?_);refine rn tk 8 rfl ?_;obtain ⟨v58,h59,hr⟩:=zaa hr;refine wq (wva (F:=zba.pc) (l:=b37.1) (n:=v1.1) rfl rfl rfl zla zga h59) rfl rfl rfl<|rn tk 13 rfl<|jb hr (fun j60=>[(2,.l cI a2),(4,.ptr 4 0),(5,.ptr 5 0),(8,.ptr 8 0),(10,.ptr 10 0),(11,.i v1.1),(13,.np 1007 (Int.toNat v1.1) 0),(14,.fn (.func 59) [] []),(15,.bo j60.1)]) (fun j60=>[(1007,.nrow 57 10 9 63 4 b37.2 (List.map zba.pc j60.2)),(10,.cells [.i 0,.i 0]),(8,.cells [.l zba.pc ([]),.i 0]),(5,.cells [.i a1.Entry,.s a1.Domain,.l cI a1.To]),(4,.cells [.ns 1007,.i a0.Next])]) (fun j60 hr=>?_) (fun j60 hr=>?_)
 .refine rn tk 4 rfl<|il (fn:=Tryz.f57) (args:=[.l cI a2,.fn (.func 59) [] []]) 1100000 1199999 [(2,.l cI a2),(3,.i a3),(4,.ptr 4 0),(5,.ptr 5 0),(8,.ptr 8 0),(10,.ptr 10 0),(11,.i v1.1),(13,.np 1007 (Int.toNat v1.1) 0),(14,.fn (.func 59) [] []),(15,.bo true)] rfl ⟨func57,rfl,by kernel_rfl⟩ rfl rfl rfl fun T11 ds11=>?_
  refine rn tk 9 rfl<|ct hr (fun j61=>[(7,.i j61)]) (fun j61=>[(1199999,.sus g0.w.heap.size ds11),(1100002,.hold (.l cI a2) (T11.getD 2 undef)),(1100003,.hold (.i a3) (T11.getD 3 undef)),(1100004,.hold (.ptr 4 0) (T11.getD 4 undef)),(1100005,.hold (.ptr 5 0) (T11.getD 5 undef)),(1100008,.hold (.ptr 8 0) (T11.getD 8 undef)),(1100010,.hold (.ptr 10 0) (T11.getD 10 undef)),(1100011,.hold (.i v1.1) (T11.getD 11 undef)),(1100013,.hold (.np 1007 (Int.toNat v1.1) 0) (T11.getD 13 undef)),(1100014,.hold (.fn (.func 59) [] []) (T11.getD 14 undef)),(1100015,.hold (.bo true) (T11.getD 15 undef)),(1007,.nrow 57 10 9 63 4 b37.2 (List.map zba.pc b37.1)),(10,.cells [.i 0,.i 0]),(8,.cells [.l zba.pc ([]),.i 0]),(5,.cells [.i a1.Entry,.s a1.Domain,.l cI a1.To]),(4,.cells [.ns 1007,.i a0.Next])]) (fun j61 hr jump12=>?_) (fun j61 hr=>?_)
  .refine il (fn:=f82) (args:=[.l cI a2,.fn (.func 59) [] []]) 1200000 1299999 [] rfl ⟨func82,rfl,by kernel_rfl⟩ rfl rfl rfl fun T12 ds12=>?_
   refine rn tk 9 rfl<|wn tk rfl rfl rfl<|rn tk 4 rfl<|al2 hr (fun s62=>[(0,.l cI a2),(1,.fn (.func 59) [] []),(7,.i ((a2.length:Int))),(8,.i s62)]) (fun s62=>[(1299999,.sus g0.w.heap.size ds12),(1199999,.sus g0.w.heap.size ds11),(1100002,.hold (.l cI a2) (T11.getD 2 undef)),(1100003,.hold (.i a3) (T11.getD 3 undef)),(1100004,.hold (.ptr 4 0) (T11.getD 4 undef)),(1100005,.hold (.ptr 5 0) (T11.getD 5 undef)),(1100008,.hold (.ptr 8 0) (T11.getD 8 undef)),(1100010,.hold (.ptr 10 0) (T11.getD 10 undef)),(1100011,.hold (.i v1.1) (T11.getD 11 undef)),(1100013,.hold (.np 1007 (Int.toNat v1.1) 0) (T11.getD 13 undef)),(1100014,.hold (.fn (.func 59) [] []) (T11.getD 14 undef)),(1100015,.hold (.bo true) (T11.getD 15 undef)),(1007,.nrow 57 10 9 63 4 b37.2 (List.map zba.pc b37.1)),(10,.cells [.i 0,.i 0]),(8,.cells [.l zba.pc ([]),.i 0]),(5,.cells [.i a1.Entry,.s a1.Domain,.l cI a1.To]),(4,.cells [.ns 1007,.i a0.Next])]) (.exit 0) (fun b63=>[]) (fun b63=>[(1299999,.sus g0.w.heap.size ds12),(1199999,.sus g0.w.heap.size ds11),(1100002,.hold (.l cI a2) (T11.getD 2 undef)),(1100003,.hold (.i a3) (T11.getD 3 undef)),(1100004,.hold (.ptr 4 0) (T11.getD 4 undef)),(1100005,.hold (.ptr 5 0) (T11.getD 5 undef)),(1100008,.hold (.ptr 8 0) (T11.getD 8 undef)),(1100010,.hold (.ptr 10 0) (T11.getD 10 undef)),(1100011,.hold (.i v1.1) (T11.getD 11 undef)),(1100013,.hold (.np 1007 (Int.toNat v1.1) 0) (T11.getD 13 undef)),(1100014,.hold (.fn (.func 59) [] []) (T11.getD 14 undef)),(1100015,.hold (.bo true) (T11.getD 15 undef)),(1007,.nrow 57 10 9 63 4 b37.2 (List.map zba.pc b37.1)),(10,.cells [.i 0,.i 0]),(8,.cells [.l zba.pc ([]),.i 0]),(5,.cells [.i a1.Entry,.s a1.Domain,.l cI a1.To]),(4,.cells [.ns 1007,.i a0.Next])]) .ret (fun b64=>[(4,.i b64)]) (fun b64=>[(1299999,.sus g0.w.heap.size ds12),(1199999,.sus g0.w.heap.size ds11),(1100002,.hold (.l cI a2) (T11.getD 2 undef)),(1100003,.hold (.i a3) (T11.getD 3 undef)),(1100004,.hold (.ptr 4 0) (T11.getD 4 undef)),(1100005,.hold (.ptr 5 0) (T11.getD 5 undef)),(1100008,.hold (.ptr 8 0) (T11.getD 8 undef)),(1100010,.hold (.ptr 10 0) (T11.getD 10 undef)),(1100011,.hold (.i v1.1) (T11.getD 11 undef)),(1100013,.hold (.np 1007 (Int.toNat v1.1) 0) (T11.getD 13 undef)),(1100014,.hold (.fn (.func 59) [] []) (T11.getD 14 undef)),(1100015,.hold (.bo true) (T11.getD 15 undef)),(1007,.nrow 57 10 9 63 4 b37.2 (List.map zba.pc b37.1)),(10,.cells [.i 0,.i 0]),(8,.cells [.l zba.pc ([]),.i 0]),(5,.cells [.i a1.Entry,.s a1.Domain,.l cI a1.To]),(4,.cells [.ns 1007,.i a0.Next])]) rfl rfl (fun s62 x66 hr=>?_) (fun b63 hr=>?_) (fun b64 hr=>?_)
   .unfold wEa at hr;refine rn tk 6 rfl<|ac 9 hr rfl (fun c67 hr=>?_) (fun c67 hr=>?_)
    .refine rn tk 15 rfl ?_;obtain ⟨v68,h69,hr⟩:=zaa hr;refine wi tk h69 rfl rfl rfl rfl rfl<|rn tk 1 rfl<|il (fn:=f59) (args:=[.i v68]) 1400000 1499999 [(0,.l cI a2),(1,.fn (.func 59) [] []),(5,.i s62),(7,.i ((a2.length:Int))),(8,.i s62)] rfl ⟨func59,rfl,by kernel_rfl⟩ rfl rfl rfl fun T14 ds14=>?_
     refine rn tk 5 rfl<|jb hr (fun j70=>[(2,.bo j70)]) (fun j70=>[(1499999,.sus g0.w.heap.size ds14),(1400000,.hold (.l cI a2) (T14.getD 0 undef)),(1400001,.hold (.fn (.func 59) [] []) (T14.getD 1 undef)),(1400007,.hold (.i ((a2.length:Int))) (T14.getD 7 undef)),(1400008,.hold (.i s62) (T14.getD 8 undef)),(1400005,.hold (.i s62) (T14.getD 5 undef)),(1299999,.sus g0.w.heap.size ds12),(1199999,.sus g0.w.heap.size ds11),(1100002,.hold (.l cI a2) (T11.getD 2 undef)),(1100003,.hold (.i a3) (T11.getD 3 undef)),(1100004,.hold (.ptr 4 0) (T11.getD 4 undef)),(1100005,.hold (.ptr 5 0) (T11.getD 5 undef)),(1100008,.hold (.ptr 8 0) (T11.getD 8 undef)),(1100010,.hold (.ptr 10 0) (T11.getD 10 undef)),(1100011,.hold (.i v1.1) (T11.getD 11 undef)),(1100013,.hold (.np 1007 (Int.toNat v1.1) 0) (T11.getD 13 undef)),(1100014,.hold (.fn (.func 59) [] []) (T11.getD 14 undef)),(1100015,.hold (.bo true) (T11.getD 15 undef)),(1007,.nrow 57 10 9 63 4 b37.2 (List.map zba.pc b37.1)),(10,.cells [.i 0,.i 0]),(8,.cells [.l zba.pc ([]),.i 0]),(5,.cells [.i a1.Entry,.s a1.Domain,.l cI a1.To]),(4,.cells [.ns 1007,.i a0.Next])]) (fun j70 hr=>?_) (fun j70 hr=>?_)
     .refine rn tk 4 rfl<|bs 5 hr rfl (fun c71 hr=>?_) (fun c71 hr=>?_)
      .refine rn tk 5 rfl ?_;cases hr;exact jn _ rfl rfl rfl
      refine rn tk 5 rfl ?_;cases hr;exact jn _ rfl rfl rfl
     refine rn tk 1 rfl ?_;refine ie tk [.bo j70] [(0,.l cI a2),(1,.fn (.func 59) [] []),(5,.i s62),(7,.i ((a2.length:Int))),(8,.i s62)] [(1299999,.sus g0.w.heap.size ds12),(1199999,.sus g0.w.heap.size ds11),(1100002,.hold (.l cI a2) (T11.getD 2 undef)),(1100003,.hold (.i a3) (T11.getD 3 undef)),(1100004,.hold (.ptr 4 0) (T11.getD 4 undef)),(1100005,.hold (.ptr 5 0) (T11.getD 5 undef)),(1100008,.hold (.ptr 8 0) (T11.getD 8 undef)),(1100010,.hold (.ptr 10 0) (T11.getD 10 undef)),(1100011,.hold (.i v1.1) (T11.getD 11 undef)),(1100013,.hold (.np 1007 (Int.toNat v1.1) 0) (T11.getD 13 undef)),(1100014,.hold (.fn (.func 59) [] []) (T11.getD 14 undef)),(1100015,.hold (.bo true) (T11.getD 15 undef)),(1007,.nrow 57 10 9 63 4 b37.2 (List.map zba.pc b37.1)),(10,.cells [.i 0,.i 0]),(8,.cells [.l zba.pc ([]),.i 0]),(5,.cells [.i a1.Entry,.s a1.Domain,.l cI a1.To]),(4,.cells [.ns 1007,.i a0.Next])] (.inr rfl) rfl rfl rfl rfl (hO ?_);refine rn tk 2 rfl<|ac 16 hr rfl (fun c72 hr=>?_) (fun c72 hr=>?_)
     .refine rn tk 9 rfl ?_;cases hr;exact ato rfl rfl rfl rfl
     refine rn tk 7 rfl ?_;cases hr;exact atc rfl rfl
    refine rn tk 2 rfl ?_;cases hr;exact ato rfl rfl rfl rfl
   .refine rn tk 8 rfl ?_;refine ie tk [.i ((-1))] [] [(1199999,.sus g0.w.heap.size ds11),(1100002,.hold (.l cI a2) (T11.getD 2 undef)),(1100003,.hold (.i a3) (T11.getD 3 undef)),(1100004,.hold (.ptr 4 0) (T11.getD 4 undef)),(1100005,.hold (.ptr 5 0) (T11.getD 5 undef)),(1100008,.hold (.ptr 8 0) (T11.getD 8 undef)),(1100010,.hold (.ptr 10 0) (T11.getD 10 undef)),(1100011,.hold (.i v1.1) (T11.getD 11 undef)),(1100013,.hold (.np 1007 (Int.toNat v1.1) 0) (T11.getD 13 undef)),(1100014,.hold (.fn (.func 59) [] []) (T11.getD 14 undef)),(1100015,.hold (.bo true) (T11.getD 15 undef)),(1007,.nrow 57 10 9 63 4 b37.2 (List.map zba.pc b37.1)),(10,.cells [.i 0,.i 0]),(8,.cells [.l zba.pc ([]),.i 0]),(5,.cells [.i a1.Entry,.s a1.Domain,.l cI a1.To]),(4,.cells [.ns 1007,.i a0.Next])] (.inr rfl) rfl rfl rfl rfl ?_;cases hr;exact jump12 _ _ rfl rfl
   refine rn tk 2 rfl ?_;refine ie tk [.i b64] [] [(1199999,.sus g0.w.heap.size ds11),(1100002,.hold (.l cI a2) (T11.getD 2 undef)),(1100003,.hold (.i a3) (T11.getD 3 undef)),(1100004,.hold (.ptr 4 0) (T11.getD 4 undef)),(1100005,.hold (.ptr 5 0) (T11.getD 5 undef)),(1100008,.hold (.ptr 8 0) (T11.getD 8 undef)),(1100010,.hold (.ptr 10 0) (T11.getD 10 undef)),(1100011,.hold (.i v1.1) (T11.getD 11 undef)),(1100013,.hold (.np 1007 (Int.toNat v1.1) 0) (T11.getD 13 undef)),(1100014,.hold (.fn (.func 59) [] []) (T11.getD 14 undef)),(1100015,.hold (.bo true) (T11.getD 15 undef)),(1007,.nrow 57 10 9 63 4 b37.2 (List.map zba.pc b37.1)),(10,.cells [.i 0,.i 0]),(8,.cells [.l zba.pc ([]),.i 0]),(5,.cells [.i a1.Entry,.s a1.Domain,.l cI a1.To]),(4,.cells [.ns 1007,.i a0.Next])] (.inr rfl) rfl rfl rfl rfl ?_;cases hr;exact jump12 _ _ rfl rfl
  refine rn tk 5 rfl ?_;refine ie tk [.bo (decide (0<=j61))] [(2,.l cI a2),(3,.i a3),(4,.ptr 4 0),(5,.ptr 5 0),(8,.ptr 8 0),(10,.ptr 10 0),(11,.i v1.1),(13,.np 1007 (Int.toNat v1.1) 0),(14,.fn (.func 59) [] []),(15,.bo true)] [(1007,.nrow 57 10 9 63 4 b37.2 (List.map zba.pc b37.1)),(10,.cells [.i 0,.i 0]),(8,.cells [.l zba.pc ([]),.i 0]),(5,.cells [.i a1.Entry,.s a1.Domain,.l cI a1.To]),(4,.cells [.ns 1007,.i a0.Next])] (.inr rfl) rfl rfl rfl rfl (hO ?_);refine rn tk 2 rfl<|ac 70 hr rfl (fun c73 hr=>?_) (fun c73 hr=>?_)
  .refine rn tk 3 rfl<|il (fn:=f60) (args:=[.np 1007 (Int.toNat v1.1) 0,.i a3]) 1500000 1599999 [(2,.l cI a2),(4,.ptr 4 0),(5,.ptr 5 0),(8,.ptr 8 0),(10,.ptr 10 0),(11,.i v1.1),(13,.np 1007 (Int.toNat v1.1) 0),(14,.fn (.func 59) [] [])] rfl ⟨func60,rfl,by kernel_rfl⟩ rfl rfl rfl fun T15 ds15=>?_
   refine rn tk 9 rfl<|wq (zta rfl) rfl rfl rfl<|wq (zoa (q:=7) rfl zga.u rfl zza rfl rfl) rfl rfl rfl ?_;obtain ⟨v74,h75,hr⟩:=zaa hr;refine wq (wwa (F:=zba.pc) (l:=b37.1) (n:=v1.1) (j0:=7) rfl rfl zza rfl h75 rfl (.inl rfl)) rfl rfl rfl<|rn tk 1 rfl<|wq (ev_min rfl rfl) rfl rfl rfl<|wq (zta rfl) rfl rfl rfl<|wq (zoa (q:=7) rfl zga.u rfl zza rfl rfl) rfl rfl rfl ?_;obtain ⟨v76,h77,hr⟩:=zaa hr;refine wo (w9a (F:=zba.pc) (l:=b37.1) (n:=v1.1) (j0:=7) (v:=v76) (v' :=((zba.mk v76.Id v76.Mail v76.Since ((min ((w64 (v74.Tries+1))) 1000000)) v76.Due v76.To))) (pcs:=[pI ((min ((w64 (v74.Tries+1))) 1000000))]) rfl rfl rfl zza rfl h77 rfl rfl rfl) rfl<|rn tk 3 rfl ?_;obtain ⟨v78,h79,hr⟩:=zaa hr;obtain ⟨v80,h81,hr⟩:=zaa hr;obtain ⟨v82,h83,hr⟩:=zaa hr;refine drA 17 [(6,.bo v82.2.1),(5,.i v82.1),(7,.ptr 7 0),(30,.agg [.i v82.2.2.Code,.i v82.2.2.Index]),(29,.bo v82.2.1),(28,.i v82.1),(17,.tup [.i v82.1,.bo v82.2.1,.agg [.i v82.2.2.Code,.i v82.2.2.Index]]),(27,.tup [.i v82.1,.bo v82.2.1,.agg [.i v82.2.2.Code,.i v82.2.2.Index]]),(26,.i a3),(25,.i v80.Tries),(24,.np 1007 (Int.toNat v1.1) 7),(23,.np 1007 (Int.toNat v1.1) 0),(22,.np 1007 (Int.toNat v1.1) 0),(21,.i v78.Since),(20,.np 1007 (Int.toNat v1.1) 6),(19,.np 1007 (Int.toNat v1.1) 0),(18,.np 1007 (Int.toNat v1.1) 0)] mixed (by kernel_rfl) rfl rfl (pqA tk rfl (.plain rfl) (.run (.plain rfl) (zva (zta rfl)) (.run (.plain rfl) (zva (zoa (q:=6) rfl zga.u rfl zza rfl rfl)) (.run (.plain rfl) (zva (wwa (F:=zba.pc) (l:=((List.set b37.1 (Int.toNat v1.1) ((zba.mk v76.Id v76.Mail v76.Since ((min ((w64 (v74.Tries+1))) 1000000)) v76.Due v76.To))))) (n:=v1.1) (j0:=6) rfl rfl zza rfl h79 rfl (.inl rfl))) (pqA tk rfl (.plain rfl) (.run (.plain rfl) (zva (zta rfl)) (.run (.plain rfl) (zva (zoa (q:=7) rfl zga.u rfl zza rfl rfl)) (.run (.plain rfl) (zva (wwa (F:=zba.pc) (l:=((List.set b37.1 (Int.toNat v1.1) ((zba.mk v76.Id v76.Mail v76.Since ((min ((w64 (v74.Tries+1))) 1000000)) v76.Due v76.To))))) (n:=v1.1) (j0:=7) rfl rfl zza rfl h81 rfl (.inl rfl))) (pqA tk rfl (.plain rfl) (.run (.plain rfl) (zKa (W8a v78.Since v80.Tries a3 v82 h83) rfl) (pqA tk rfl (.plain rfl) (pqA tk rfl (.plain rfl) (pqA tk rfl (.plain rfl) (pqA tk rfl (.plain rfl) (pnA 7 tk rfl rfl rfl (.plain rfl) (pqA tk rfl (.plain rfl) (pqA tk rfl (.plain rfl) .nil))))))))))))))))) rfl rfl rfl<|rn tk 3 rfl<|jb hr (fun j84=>[(6,.bo v82.2.1)]) (fun j84=>[(1599999,.sus g0.w.heap.size ds15),(1500002,.hold (.l cI a2) (T15.getD 2 undef)),(1500004,.hold (.ptr 4 0) (T15.getD 4 undef)),(1500005,.hold (.ptr 5 0) (T15.getD 5 undef)),(1500008,.hold (.ptr 8 0) (T15.getD 8 undef)),(1500010,.hold (.ptr 10 0) (T15.getD 10 undef)),(1500011,.hold (.i v1.1) (T15.getD 11 undef)),(1500013,.hold (.np 1007 (Int.toNat v1.1) 0) (T15.getD 13 undef)),(1500014,.hold (.fn (.func 59) [] []) (T15.getD 14 undef)),(1007,.nrow 57 10 9 63 4 b37.2 (List.map zba.pc j84)),(10,.cells [.i 0,.i 0]),(8,.cells [.l zba.pc ([]),.i 0]),(5,.cells [.i a1.Entry,.s a1.Domain,.l cI a1.To]),(4,.cells [.ns 1007,.i a0.Next])]) (fun j84 hr=>?_) (fun j84 hr=>?_)
   .refine rn tk 5 rfl<|ac 31 hr rfl (fun c85 hr=>?_) (fun c85 hr=>?_)
    .refine rn tk 4 rfl<|wq (zta rfl) rfl rfl rfl<|wq (zoa (q:=8) rfl zga.u rfl zza rfl rfl) rfl rfl rfl ?_;obtain ⟨v86,h87,hr⟩:=zaa hr;refine wq (wwa (F:=zba.pc) (l:=((List.set b37.1 (Int.toNat v1.1) ((zba.mk v76.Id v76.Mail v76.Since ((min ((w64 (v74.Tries+1))) 1000000)) v76.Due v76.To))))) (n:=v1.1) (j0:=8) rfl rfl zza rfl h87 rfl (.inl rfl)) rfl rfl rfl<|wq (ev_max rfl rfl) rfl rfl rfl<|wq (zta rfl) rfl rfl rfl<|wq (zoa (q:=8) rfl zga.u rfl zza rfl rfl) rfl rfl rfl ?_;obtain ⟨v88,h89,hr⟩:=zaa hr;refine wo (w9a (F:=zba.pc) (l:=((List.set b37.1 (Int.toNat v1.1) ((zba.mk v76.Id v76.Mail v76.Since ((min ((w64 (v74.Tries+1))) 1000000)) v76.Due v76.To))))) (n:=v1.1) (j0:=8) (v:=v88) (v' :=((zba.mk v88.Id v88.Mail v88.Since v88.Tries ((max v82.1 v86.Due)) v88.To))) (pcs:=[pI ((max v82.1 v86.Due))]) rfl rfl rfl zza rfl h89 rfl rfl rfl) rfl<|rn tk 1 rfl ?_;cases hr;exact jn _ rfl rfl rfl
    refine rn tk 1 rfl ?_;cases hr;exact jn _ rfl rfl rfl
   refine rn tk 7 rfl ?_;refine ie tk [.bo v82.2.1] [(2,.l cI a2),(4,.ptr 4 0),(5,.ptr 5 0),(8,.ptr 8 0),(10,.ptr 10 0),(11,.i v1.1),(13,.np 1007 (Int.toNat v1.1) 0),(14,.fn (.func 59) [] [])] [(1007,.nrow 57 10 9 63 4 b37.2 (List.map zba.pc j84)),(10,.cells [.i 0,.i 0]),(8,.cells [.l zba.pc ([]),.i 0]),(5,.cells [.i a1.Entry,.s a1.Domain,.l cI a1.To]),(4,.cells [.ns 1007,.i a0.Next])] (.inr rfl) rfl rfl rfl rfl (hO ?_);refine rn tk 2 rfl ?_;cases hr;exact jn _ rfl rfl rfl
  refine rn tk 1 rfl ?_;cases hr;exact jn _ rfl rfl rfl
 refine rn tk 3 rfl ?_;refine wNa 1016 (d:=16) 59 3 rfl rfl rfl (hO ?_);refine rn tk 7 rfl<|wn tk rfl rfl rfl<|rn tk 4 rfl<|al1 hr (fun s90=>[(2,.l cI a2),(4,.ptr 4 0),(8,.ptr 8 0),(10,.ptr 10 0),(11,.i v1.1),(13,.np 1007 (Int.toNat v1.1) 0),(14,.fn (.func 59) [] []),(15,.bo j60.1),(16,.hs 1016 0),(75,.l cI a1.To),(76,.i ((a1.To.length:Int))),(77,.i s90.1)]) (fun s90=>[(1016,.row 59 false 3 (List.map zja.pc s90.2.1)),(1007,.nrow 57 10 9 63 4 b37.2 (List.map zba.pc s90.2.2)),(10,.cells [.i 0,.i 0]),(8,.cells [.l zba.pc ([]),.i 0]),(4,.cells [.ns 1007,.i a0.Next])]) (.exit 1) (fun b91=>[(4,.ptr 4 0),(8,.ptr 8 0),(10,.ptr 10 0),(11,.i v1.1),(13,.np 1007 (Int.toNat v1.1) 0),(16,.hs 1016 0)]) (fun b91=>[(1016,.row 59 false 3 (List.map zja.pc b91.1)),(1007,.nrow 57 10 9 63 4 b37.2 (List.map zba.pc b91.2)),(10,.cells [.i 0,.i 0]),(8,.cells [.l zba.pc ([]),.i 0]),(4,.cells [.ns 1007,.i a0.Next])]) rfl rfl (fun s90 x92 hr=>?_) (fun b91 hr=>?_)
 .unfold q0a at hr;refine rn tk 6 rfl<|ac 78 hr rfl (fun c93 hr=>?_) (fun c93 hr=>?_)
  .refine rn tk 2 rfl<|jb hr (fun j94=>[(2,.l cI a2),(4,.ptr 4 0),(8,.ptr 8 0),(10,.ptr 10 0),(11,.i v1.1),(13,.np 1007 (Int.toNat v1.1) 0),(14,.fn (.func 59) [] []),(15,.bo j60.1),(16,.hs 1016 0),(75,.l cI a1.To),(76,.i ((a1.To.length:Int))),(77,.i s90.1)]) (fun j94=>[(1016,.row 59 false 3 (List.map zja.pc j94.1)),(1007,.nrow 57 10 9 63 4 b37.2 (List.map zba.pc j94.2)),(10,.cells [.i 0,.i 0]),(8,.cells [.l zba.pc ([]),.i 0]),(4,.cells [.ns 1007,.i a0.Next])]) (fun j94 hr=>?_) (fun j94 hr=>?_)
   .refine rn tk 4 rfl ?_;obtain ⟨v95,h96,hr⟩:=zaa hr;refine wi tk h96 rfl rfl rfl rfl rfl<|rn tk 9 rfl ?_;obtain ⟨v97,h98,hr⟩:=zaa hr;refine wi tk h98 rfl rfl rfl rfl rfl<|rn tk 7 rfl<|wq (zta rfl) rfl rfl rfl<|wq (zoa (q:=9) rfl zga.u rfl zia rfl rfl) rfl rfl rfl ?_;obtain ⟨v99,h100,hr⟩:=zaa hr;obtain ⟨v101,h102,hr⟩:=zaa hr;refine wq (jka (F:=zba.pc) (l:=s90.2.2) (n:=v1.1) (j0:=9) rfl rfl zia rfl h102 rfl (wua h100)) rfl rfl rfl<|rn tk 1 rfl ?_;obtain ⟨v103,h104,hr⟩:=zaa hr;obtain ⟨v105,h106,hr⟩:=zaa hr;refine wq (jla (F:=zba.pc) (G2:=zda.pc) (l:=s90.2.2) (l2:=v103.To) (n:=v1.1) (n2:=v95) rfl rfl rfl zia zwa h104 rfl h106) rfl rfl rfl<|wq (kpa (q:=3) rfl zwa.u rfl qWa rfl rfl) rfl rfl rfl ?_;obtain ⟨v107,h108,hr⟩:=zaa hr;obtain ⟨v109,h110,hr⟩:=zaa hr;refine wo (qaa (F:=zba.pc) (G2:=zda.pc) (l:=s90.2.2) (l2:=v107.To) (n:=v1.1) (n2:=v95) (j0:=3) (v:=v107) (v' :=((zba.mk v107.Id v107.Mail v107.Since v107.Tries v107.Due ((List.set v107.To (Int.toNat v95) ((zda.mk v109.Recipient v109.Result false))))))) (w2:=v109) (w2' :=((zda.mk v109.Recipient v109.Result false))) (pcs:=[pB false]) rfl rfl rfl qWa rfl h108 rfl h110 rfl rfl rfl) rfl<|rn tk 3 rfl<|jb hr (fun j111=>[(2,.l cI a2),(4,.ptr 4 0),(8,.ptr 8 0),(10,.ptr 10 0),(11,.i v1.1),(13,.np 1007 (Int.toNat v1.1) 0),(14,.fn (.func 59) [] []),(15,.bo j60.1),(16,.hs 1016 0),(18,.i v95),(19,.i v97),(75,.l cI a1.To),(76,.i ((a1.To.length:Int))),(77,.i s90.1),(98,.bo j111)]) (fun j111=>[(1016,.row 59 false 3 (List.map zja.pc s90.2.1)),(1007,.nrow 57 10 9 63 4 b37.2 (List.map zba.pc ((List.set s90.2.2 (Int.toNat v1.1) ((zba.mk v107.Id v107.Mail v107.Since v107.Tries v107.Due ((List.set v107.To (Int.toNat v95) ((zda.mk v109.Recipient v109.Result false)))))))))),(10,.cells [.i 0,.i 0]),(8,.cells [.l zba.pc ([]),.i 0]),(4,.cells [.ns 1007,.i a0.Next])]) (fun j111 hr=>?_) (fun j111 hr=>?_)
    .refine rn tk 3 rfl<|il (fn:=f59) (args:=[.i v97]) 3700000 3799999 [(2,.l cI a2),(4,.ptr 4 0),(8,.ptr 8 0),(10,.ptr 10 0),(11,.i v1.1),(13,.np 1007 (Int.toNat v1.1) 0),(14,.fn (.func 59) [] []),(15,.bo j60.1),(16,.hs 1016 0),(18,.i v95),(19,.i v97),(75,.l cI a1.To),(76,.i ((a1.To.length:Int))),(77,.i s90.1)] rfl ⟨func59,rfl,by kernel_rfl⟩ rfl rfl rfl fun T37 ds37=>?_
     refine rn tk 5 rfl<|jb hr (fun j112=>[(2,.bo j112)]) (fun j112=>[(3799999,.sus g0.w.heap.size ds37),(3700002,.hold (.l cI a2) (T37.getD 2 undef)),(3700004,.hold (.ptr 4 0) (T37.getD 4 undef)),(3700008,.hold (.ptr 8 0) (T37.getD 8 undef)),(3700010,.hold (.ptr 10 0) (T37.getD 10 undef)),(3700011,.hold (.i v1.1) (T37.getD 11 undef)),(3700013,.hold (.np 1007 (Int.toNat v1.1) 0) (T37.getD 13 undef)),(3700014,.hold (.fn (.func 59) [] []) (T37.getD 14 undef)),(3700015,.hold (.bo j60.1) (T37.getD 15 undef)),(3700016,.hold (.hs 1016 0) (T37.getD 16 undef)),(3700075,.hold (.l cI a1.To) (T37.getD 75 undef)),(3700076,.hold (.i ((a1.To.length:Int))) (T37.getD 76 undef)),(3700077,.hold (.i s90.1) (T37.getD 77 undef)),(3700018,.hold (.i v95) (T37.getD 18 undef)),(3700019,.hold (.i v97) (T37.getD 19 undef)),(1016,.row 59 false 3 (List.map zja.pc s90.2.1)),(1007,.nrow 57 10 9 63 4 b37.2 (List.map zba.pc ((List.set s90.2.2 (Int.toNat v1.1) ((zba.mk v107.Id v107.Mail v107.Since v107.Tries v107.Due ((List.set v107.To (Int.toNat v95) ((zda.mk v109.Recipient v109.Result false)))))))))),(10,.cells [.i 0,.i 0]),(8,.cells [.l zba.pc ([]),.i 0]),(4,.cells [.ns 1007,.i a0.Next])]) (fun j112 hr=>?_) (fun j112 hr=>?_)
     .refine rn tk 4 rfl<|bs 5 hr rfl (fun c113 hr=>?_) (fun c113 hr=>?_)
      .refine rn tk 5 rfl ?_;cases hr;exact jn _ rfl rfl rfl
      refine rn tk 5 rfl ?_;cases hr;exact jn _ rfl rfl rfl
     refine rn tk 1 rfl ?_;refine ie tk [.bo j112] [(2,.l cI a2),(4,.ptr 4 0),(8,.ptr 8 0),(10,.ptr 10 0),(11,.i v1.1),(13,.np 1007 (Int.toNat v1.1) 0),(14,.fn (.func 59) [] []),(15,.bo j60.1),(16,.hs 1016 0),(18,.i v95),(19,.i v97),(75,.l cI a1.To),(76,.i ((a1.To.length:Int))),(77,.i s90.1)] [(1016,.row 59 false 3 (List.map zja.pc s90.2.1)),(1007,.nrow 57 10 9 63 4 b37.2 (List.map zba.pc ((List.set s90.2.2 (Int.toNat v1.1) ((zba.mk v107.Id v107.Mail v107.Since v107.Tries v107.Due ((List.set v107.To (Int.toNat v95) ((zda.mk v109.Recipient v109.Result false)))))))))),(10,.cells [.i 0,.i 0]),(8,.cells [.l zba.pc ([]),.i 0]),(4,.cells [.ns 1007,.i a0.Next])] (.inr rfl) rfl rfl rfl rfl (hO ?_);refine rn tk 1 rfl<|bs 96 hr rfl (fun c114 hr=>?_) (fun c114 hr=>?_)
     .refine rn tk 3 rfl ?_;cases hr;exact jn _ rfl rfl rfl
     refine rn tk 3 rfl ?_;cases hr;exact jn _ rfl rfl rfl
    refine ac 98 hr rfl (fun c115 hr=>?_) (fun c115 hr=>?_)
    .refine rn tk 3 rfl ?_;cases hr;exact jn _ rfl rfl rfl
    refine rn tk 2 rfl<|jb hr (fun j116=>[(2,.l cI a2),(4,.ptr 4 0),(8,.ptr 8 0),(10,.ptr 10 0),(11,.i v1.1),(13,.np 1007 (Int.toNat v1.1) 0),(14,.fn (.func 59) [] []),(15,.bo j60.1),(16,.hs 1016 0),(18,.i v95),(19,.i j116),(75,.l cI a1.To),(76,.i ((a1.To.length:Int))),(77,.i s90.1)]) (fun j116=>[(1016,.row 59 false 3 (List.map zja.pc s90.2.1)),(1007,.nrow 57 10 9 63 4 b37.2 (List.map zba.pc ((List.set s90.2.2 (Int.toNat v1.1) ((zba.mk v107.Id v107.Mail v107.Since v107.Tries v107.Due ((List.set v107.To (Int.toNat v95) ((zda.mk v109.Recipient v109.Result false)))))))))),(10,.cells [.i 0,.i 0]),(8,.cells [.l zba.pc ([]),.i 0]),(4,.cells [.ns 1007,.i a0.Next])]) (fun j116 hr=>?_) (fun j116 hr=>?_)
    .refine rn tk 4 rfl<|il (fn:=f59) (args:=[.i v97]) 3900000 3999999 [(2,.l cI a2),(4,.ptr 4 0),(8,.ptr 8 0),(10,.ptr 10 0),(11,.i v1.1),(13,.np 1007 (Int.toNat v1.1) 0),(14,.fn (.func 59) [] []),(15,.bo j60.1),(16,.hs 1016 0),(18,.i v95),(19,.i v97),(75,.l cI a1.To),(76,.i ((a1.To.length:Int))),(77,.i s90.1)] rfl ⟨func59,rfl,by kernel_rfl⟩ rfl rfl rfl fun T39 ds39=>?_
     refine rn tk 5 rfl<|jb hr (fun j117=>[(2,.bo j117)]) (fun j117=>[(3999999,.sus g0.w.heap.size ds39),(3900002,.hold (.l cI a2) (T39.getD 2 undef)),(3900004,.hold (.ptr 4 0) (T39.getD 4 undef)),(3900008,.hold (.ptr 8 0) (T39.getD 8 undef)),(3900010,.hold (.ptr 10 0) (T39.getD 10 undef)),(3900011,.hold (.i v1.1) (T39.getD 11 undef)),(3900013,.hold (.np 1007 (Int.toNat v1.1) 0) (T39.getD 13 undef)),(3900014,.hold (.fn (.func 59) [] []) (T39.getD 14 undef)),(3900015,.hold (.bo j60.1) (T39.getD 15 undef)),(3900016,.hold (.hs 1016 0) (T39.getD 16 undef)),(3900018,.hold (.i v95) (T39.getD 18 undef)),(3900019,.hold (.i v97) (T39.getD 19 undef)),(3900075,.hold (.l cI a1.To) (T39.getD 75 undef)),(3900076,.hold (.i ((a1.To.length:Int))) (T39.getD 76 undef)),(3900077,.hold (.i s90.1) (T39.getD 77 undef)),(1016,.row 59 false 3 (List.map zja.pc s90.2.1)),(1007,.nrow 57 10 9 63 4 b37.2 (List.map zba.pc ((List.set s90.2.2 (Int.toNat v1.1) ((zba.mk v107.Id v107.Mail v107.Since v107.Tries v107.Due ((List.set v107.To (Int.toNat v95) ((zda.mk v109.Recipient v109.Result false)))))))))),(10,.cells [.i 0,.i 0]),(8,.cells [.l zba.pc ([]),.i 0]),(4,.cells [.ns 1007,.i a0.Next])]) (fun j117 hr=>?_) (fun j117 hr=>?_)
     .refine rn tk 4 rfl<|bs 5 hr rfl (fun c118 hr=>?_) (fun c118 hr=>?_)
      .refine rn tk 5 rfl ?_;cases hr;exact jn _ rfl rfl rfl
      refine rn tk 5 rfl ?_;cases hr;exact jn _ rfl rfl rfl
     refine rn tk 1 rfl ?_;refine ie tk [.bo j117] [(2,.l cI a2),(4,.ptr 4 0),(8,.ptr 8 0),(10,.ptr 10 0),(11,.i v1.1),(13,.np 1007 (Int.toNat v1.1) 0),(14,.fn (.func 59) [] []),(15,.bo j60.1),(16,.hs 1016 0),(18,.i v95),(19,.i v97),(75,.l cI a1.To),(76,.i ((a1.To.length:Int))),(77,.i s90.1)] [(1016,.row 59 false 3 (List.map zja.pc s90.2.1)),(1007,.nrow 57 10 9 63 4 b37.2 (List.map zba.pc ((List.set s90.2.2 (Int.toNat v1.1) ((zba.mk v107.Id v107.Mail v107.Since v107.Tries v107.Due ((List.set v107.To (Int.toNat v95) ((zda.mk v109.Recipient v109.Result false)))))))))),(10,.cells [.i 0,.i 0]),(8,.cells [.l zba.pc ([]),.i 0]),(4,.cells [.ns 1007,.i a0.Next])] (.inr rfl) rfl rfl rfl rfl (hO ?_);refine rn tk 2 rfl<|ac 101 hr rfl (fun c119 hr=>?_) (fun c119 hr=>?_)
     .refine rn tk 3 rfl ?_;cases hr;exact jn _ rfl rfl rfl
     refine rn tk 1 rfl ?_;cases hr;exact jn _ rfl rfl rfl
    refine rn tk 3 rfl<|wq (zta rfl) rfl rfl rfl<|wq (zoa (q:=9) rfl zga.u rfl zia rfl rfl) rfl rfl rfl ?_;obtain ⟨v120,h121,hr⟩:=zaa hr;obtain ⟨v122,h123,hr⟩:=zaa hr;refine wq (jka (F:=zba.pc) (l:=((List.set s90.2.2 (Int.toNat v1.1) ((zba.mk v107.Id v107.Mail v107.Since v107.Tries v107.Due ((List.set v107.To (Int.toNat v95) ((zda.mk v109.Recipient v109.Result false))))))))) (n:=v1.1) (j0:=9) rfl rfl zia rfl h123 rfl (wua h121)) rfl rfl rfl<|rn tk 2 rfl ?_;obtain ⟨v124,h125,hr⟩:=zaa hr;obtain ⟨v126,h127,hr⟩:=zaa hr;refine wq (jla (F:=zba.pc) (G2:=zda.pc) (l:=((List.set s90.2.2 (Int.toNat v1.1) ((zba.mk v107.Id v107.Mail v107.Since v107.Tries v107.Due ((List.set v107.To (Int.toNat v95) ((zda.mk v109.Recipient v109.Result false))))))))) (l2:=v124.To) (n:=v1.1) (n2:=v95) rfl rfl rfl zia zwa h125 rfl h127) rfl rfl rfl<|wq (kpa (q:=2) rfl zwa.u rfl zza rfl rfl) rfl rfl rfl ?_;obtain ⟨v128,h129,hr⟩:=zaa hr;obtain ⟨v130,h131,hr⟩:=zaa hr;refine wo (qaa (F:=zba.pc) (G2:=zda.pc) (l:=((List.set s90.2.2 (Int.toNat v1.1) ((zba.mk v107.Id v107.Mail v107.Since v107.Tries v107.Due ((List.set v107.To (Int.toNat v95) ((zda.mk v109.Recipient v109.Result false))))))))) (l2:=v128.To) (n:=v1.1) (n2:=v95) (j0:=2) (v:=v128) (v' :=((zba.mk v128.Id v128.Mail v128.Since v128.Tries v128.Due ((List.set v128.To (Int.toNat v95) ((zda.mk v130.Recipient j116 v130.Busy))))))) (w2:=v130) (w2' :=((zda.mk v130.Recipient j116 v130.Busy))) (pcs:=[pI j116]) rfl rfl rfl zza rfl h129 rfl h131 rfl rfl rfl) rfl<|rn tk 5 rfl<|wq (zta rfl) rfl rfl rfl<|wq (zoa (q:=0) rfl zga.u rfl zza rfl rfl) rfl rfl rfl ?_;obtain ⟨v132,h133,hr⟩:=zaa hr;refine wq (wwa (F:=zba.pc) (l:=((List.set ((List.set s90.2.2 (Int.toNat v1.1) ((zba.mk v107.Id v107.Mail v107.Since v107.Tries v107.Due ((List.set v107.To (Int.toNat v95) ((zda.mk v109.Recipient v109.Result false)))))))) (Int.toNat v1.1) ((zba.mk v128.Id v128.Mail v128.Since v128.Tries v128.Due ((List.set v128.To (Int.toNat v95) ((zda.mk v130.Recipient j116 v130.Busy))))))))) (n:=v1.1) (j0:=0) rfl rfl zza rfl h133 rfl (.inl rfl)) rfl rfl rfl<|rn tk 3 rfl<|wz zja.pc ([(zja.mk v132.Id v95 j116)]:List zja) tk rfl rfl (fun _=>rfl) rfl rfl rfl ?_;obtain ⟨v134,h135,hr⟩:=zaa hr;refine wa tk h135 rfl rfl rfl rfl (fun _=>rfl) rfl rfl<|rn tk 3 rfl ?_;cases hr;exact jn _ rfl rfl rfl
   refine rn tk 4 rfl ?_;cases hr;exact atc rfl rfl
  refine rn tk 2 rfl ?_;cases hr;exact ato rfl rfl rfl rfl
 refine rn tk 2 rfl<|jb hr (fun j136=>[(4,.ptr 4 0),(8,.ptr 8 0),(10,.ptr 10 0),(16,.hs 1016 0)]) (fun j136=>[(1016,.row 59 false 3 (List.map zja.pc b91.1)),(1007,.row 57 true 10 (List.map zba.pc j136)),(10,.cells [.i 0,.i 0]),(8,.cells [.l zba.pc ([]),.i 0]),(4,.cells [.hs 1007 0,.i a0.Next])]) (fun j136 hr=>?_) (fun j136 hr=>?_)
 .refine rn tk 3 rfl<|wq (zta rfl) rfl rfl rfl ?_;refine z9b 1007 rfl (hO ?_);obtain ⟨v137,h138,hr⟩:=zaa hr;refine wq (Zya (F:=zba.pc) (l:=b91.2) (n:=v1.1) (j:=0) rfl rfl zga rfl h138 rfl) rfl rfl rfl ?_;obtain ⟨v139,h140,hr⟩:=zaa hr;refine cl (jWa _ _ h140) rfl rfl<|rn tk 3 rfl<|ac 125 hr rfl (fun c141 hr=>?_) (fun c141 hr=>?_)
  .refine rn tk 6 rfl<|ct hr (fun j142=>[(4,.ptr 4 0),(8,.ptr 8 0),(10,.ptr 10 0),(16,.hs 1016 0),(131,.hs 1007 0)]) (fun j142=>[(1016,.row 59 false 3 (List.map zja.pc b91.1)),(1007,.row 57 true 10 (List.map zba.pc j142)),(10,.cells [.i 0,.i 0]),(8,.cells [.l zba.pc ([]),.i 0]),(4,.cells [.any,.i a0.Next])]) (fun j142 hr jump41=>?_) (fun j142 hr=>?_)
   .refine il (fn:=f61) (args:=[.hs 1007 0,.i v1.1,.i ((w64 (v1.1+1)))]) 4100000 4199999 [(4,.ptr 4 0),(8,.ptr 8 0),(10,.ptr 10 0),(16,.hs 1016 0)] rfl ⟨func61,rfl,by kernel_rfl⟩ rfl rfl rfl fun T41 ds41=>?_
    refine rn tk 3 rfl ?_;refine kLa 1006 (d:=6) 57 10 rfl rfl rfl (hO ?_);refine rn tk 8 rfl<|wnh tk rfl rfl rfl rfl ?_;obtain ⟨v143,h144,hr⟩:=zaa hr;refine wq (ev_hcut3 (F:=zba.pc) (l:=b91.2) rfl rfl rfl rfl rfl zla zga h144) rfl rfl rfl<|rn tk 10 rfl<|ac 16 hr rfl (fun c145 hr=>?_) (fun c145 hr=>?_)
    .refine rn tk 6 rfl ?_;refine vGb (d' :=6) (F:=zba.pc) (l:=b91.2) rfl rfl (hC ?_);refine rn tk 2 rfl ?_;refine ie tk [.hs 1007 0] [(4,.ptr 4 0),(8,.ptr 8 0),(10,.ptr 10 0),(16,.hs 1016 0)] [(1006,.row 57 true 10 (List.map zba.pc (([]:List zba)))),(1016,.row 59 false 3 (List.map zja.pc b91.1)),(1007,.row 57 true 10 (List.map zba.pc b91.2)),(10,.cells [.i 0,.i 0]),(8,.cells [.l zba.pc ([]),.i 0]),(4,.cells [.any,.i a0.Next])] (.inr rfl) rfl rfl rfl rfl ?_;cases hr;exact jump41 _ _ rfl rfl
    refine rn tk 5 rfl<|wnh tk rfl rfl rfl rfl<|rn tk 4 rfl ?_;obtain ⟨v146,h147,hr⟩:=zaa hr;obtain ⟨v148,h149,hr⟩:=zaa hr;refine dr 6 [(25,.hsub 1007 (Int.toNat ((w64 (v1.1+1))))),(24,.i ((w64 (v1.1+1)))),(23,.hs 1007 0),(22,.hpre 1007 (Int.toNat v1.1)),(21,.i v1.1),(20,.hs 1007 0)] mixed (by kernel_rfl) rfl rfl (pq tk rfl (.plain rfl) (pq tk rfl (.plain rfl) (.run (.plain rfl) (zva (ev_hpre (F:=zba.pc) (l:=b91.2) (q:=v1.1) rfl rfl rfl zla zga h147)) (pq tk rfl (.plain rfl) (pq tk rfl (.plain rfl) (.run (.plain rfl) (zva (vqb (F:=zba.pc) (l:=b91.2) (p:=((w64 (v1.1+1)))) rfl rfl rfl zla zga h149)) .nil)))))) rfl ?_;obtain ⟨v150,h151,hr⟩:=zaa hr;refine wo (qwb (k:=26) (F:=zba.pc) (l:=b91.2) (p:=v1.1) (q:=((w64 (v1.1+1)))) rfl rfl rfl rfl zla zga rfl h151) rfl<|rn tk 7 rfl<|wq (qvb (e:=57) (n:=((Int.toNat v1.1)+(b91.2.length - (Int.toNat ((w64 (v1.1+1))))))) rfl zla.u) rfl rfl rfl<|rn tk 1 rfl ?_;obtain ⟨v152,h153,hr⟩:=zaa hr;refine wq (vFb (F:=zba.pc) (l:=v150) (a:=(((((Int.toNat v1.1)+(b91.2.length - (Int.toNat ((w64 (v1.1+1)))))):Nat):Int))) rfl rfl rfl rfl zla zga h153) rfl rfl rfl<|wo (Yla (F:=zba.pc) (l:=v150) (z:=((zba.mk 0 ((ksa.mk ((zCa.mk (([]:Str)) ([]) (([]:Str)))) ((zua.mk ([]) ([]))))) 0 0 0 ([])))) rfl rfl zla zga rfl rfl) rfl<|rn tk 8 rfl ?_;refine z0b (d' :=6) (F:=zba.pc) (l:=((clr0 v150 (Int.toNat (((((Int.toNat v1.1)+(b91.2.length - (Int.toNat ((w64 (v1.1+1)))))):Nat):Int))) ((zba.mk 0 ((ksa.mk ((zCa.mk (([]:Str)) ([]) (([]:Str)))) ((zua.mk ([]) ([]))))) 0 0 0 ([])))))) rfl rfl (hC ?_);refine rn tk 1 rfl ?_;refine ie tk [.hs 1007 0] [(4,.ptr 4 0),(8,.ptr 8 0),(10,.ptr 10 0),(16,.hs 1016 0)] [(1006,.row 57 true 10 (List.map zba.pc (([]:List zba)))),(1016,.row 59 false 3 (List.map zja.pc b91.1)),(1007,.row 57 true 10 (List.map zba.pc ((List.take ((Int.toNat v1.1)+(b91.2.length - (Int.toNat ((w64 (v1.1+1)))))) ((clr0 v150 (Int.toNat (((((Int.toNat v1.1)+(b91.2.length - (Int.toNat ((w64 (v1.1+1)))))):Nat):Int))) ((zba.mk 0 ((ksa.mk ((zCa.mk (([]:Str)) ([]) (([]:Str)))) ((zua.mk ([]) ([]))))) 0 0 0 ([]))))))))),(10,.cells [.i 0,.i 0]),(8,.cells [.l zba.pc ([]),.i 0]),(4,.cells [.any,.i a0.Next])] (.inr rfl) rfl rfl rfl rfl ?_;cases hr;exact jump41 _ _ rfl rfl
   refine rn tk 3 rfl ?_;cases hr;exact jn _ rfl rfl rfl
  refine rn tk 1 rfl ?_;cases hr;exact jn _ rfl rfl rfl
 refine rn tk 1 rfl ?_;obtain ⟨v154,h155,hr⟩:=zaa hr;refine drX 3 4 3 3 [1] [(135,.agg [.i v154.Code,.i v154.Index]),(134,.hs 1016 0),(133,.agg [.hs 1007 0,.i a0.Next])] [(8,.ptr 8 0),(10,.ptr 10 0),(134,.hs 1016 0),(135,.agg [.i v154.Code,.i v154.Index])] [(1016,.row 59 false 3 (List.map zja.pc b91.1)),(1007,.row 57 true 10 (List.map zba.pc j136)),(10,.cells [.i 0,.i 0]),(8,.cells [.hs 1007 0,.i a0.Next]),(4,.cells [.hs 1007 0,.i a0.Next])] tk mixed (by kernel_rfl) rfl rfl rfl (pqX tk rfl (.plain rfl) (pqX tk rfl (.plain rfl) (.run (.plain rfl) (zKa (zLa v154 h155) rfl) .nil))) rfl rfl rfl rfl (by kernel_rfl)<|rn tk 4 rfl ?_;refine wZa 1007 rfl (hC ?_);refine jia (o:=8) (j:=0) (F:=zba.pc) (l:=j136) rfl rfl rfl (hC ?_);refine yja (d:=9) (F:=zja.pc) (l:=b91.1) rfl rfl (hC ?_);refine rn tk 1 rfl ?_;cases hr;exact kr tk (.inr rfl) rfl rfl
section
open Go.RowKit Go.Lib Go.Sort Go.Proofs.Tryz
def orI(a b:Int):Int:=if a=0 then b else a
theorem zDb(x y:Int)(w:World)(b:Nat)(h0:w.cell? ⟨b,0,none⟩=some (.int .i64 x))(h1:w.cell? ⟨b,1,none⟩=some (.int .i64 y)):
 Calls prog 48 #[.slice (some ⟨b,0,none⟩) 2 2] w fun e w' =>e=.returned (.int .i64 (orI x y))/\w' =w:=by
 unfold orI;by_cases hx:x=0
 .subst hx;by_cases hy:y=0
  .subst hy;go_enter func48,Tryz.ntmps48
   go_wp2
   go_rounds 3
   all_goals (first | go_ret | go_end0)
   all_goals simp
  go_enter func48,Tryz.ntmps48
  go_wp2
  go_rounds 3
  all_goals (first | go_ret | go_end0)
  all_goals simp
 go_enter func48,Tryz.ntmps48
 go_wp2
 go_rounds 3
 all_goals (first | go_ret | go_end0)
 all_goals simp[hx]
theorem ten{l:List Value}(h:l.length=10):∃c0 c1 c2 c3 c4 c5 c6 c7 c8 c9,l=[c0,c1,c2,c3,c4,c5,c6,c7,c8,c9]:=by
 match l,h with
 | [c0,c1,c2,c3,c4,c5,c6,c7,c8,c9],_=>exact ⟨c0,c1,c2,c3,c4,c5,c6,c7,c8,c9,rfl⟩
theorem wvb{W W2:World}{A B:Array Value}{t t' :TypeId}(h:W2.heap=(W.heap.push (.cells A t (0,0))).push (.cells B t' (0,0))):
 (∀(i:Nat) v,A[i]? =some v->W2.cell? ⟨W.heap.size,i,none⟩=some v)/\(∀(i:Nat) v,B[i]? =some v->W2.cell? ⟨W.heap.size+1,i,none⟩=some v):=by
 refine ⟨fun i v hv=>?_,fun i v hv=>?_⟩
 .have e:W2.heap[W.heap.size]? =some (.cells A t (0,0)):=by rw[h,Array.getElem?_push,if_neg (by simp),Array.getElem?_push,if_pos rfl]
  simp only[World.cell?,e];simpa using hv
 have e:W2.heap[W.heap.size+1]? =some (.cells B t' (0,0)):=by rw[h,Array.getElem?_push,if_pos (by simp)]
 simp only[World.cell?,e];simpa using hv
theorem k8b(W:World)(A:Array Value)(t:TypeId)(i:Nat)(v:Value)(h:A[i]? =some v):(W.alloc (.cells A t (0,0))).cell? ⟨W.heap.size,i,none⟩=some v:=by
 have e:(W.alloc (.cells A t (0,0))).heap[W.heap.size]? =some (.cells A t (0,0)):=by
  show (W.heap.push _)[W.heap.size]? =_;rw[Array.getElem?_push,if_pos rfl]
 simp only[World.cell?,e];simpa using h
theorem grow_one{W W2:World}{o:Obj}(h:∃q os',W2=grow (W.drewN q) os'):∃q os',W2.alloc o=grow (W.drewN q) os' :=by
 obtain ⟨q,os',rfl⟩:=h;exact ⟨q,os' ++ #[o],by rw[alloc_eq_grow,grow_grow]⟩
theorem two_grow(W:World)(A B:Obj):({((W.alloc A).alloc B) with drawn:=W.drawn+1}:World)=grow (W.drewN 1) #[A,B]:=by
 rw[alloc_eq_grow,alloc_eq_grow,grow_grow];rfl
theorem wwb(xi xd yi yd:Int)(a1 a2 a3 a4 a5 a6 a7 a9 b1 b2 b3 b4 b5 b6 b7 b9:Value)(W:World):
 Calls prog 47 #[.agg #[.int .i64 xi,a1,a2,a3,a4,a5,a6,a7,.int .i64 xd,a9],.agg #[.int .i64 yi,b1,b2,b3,b4,b5,b6,b7,.int .i64 yd,b9]] W fun e w' =>e=.returned (.int .i64 (orI (compareInt xd yd) (compareInt xi yi)))/\∃q os',w' =grow (W.drewN q) os' :=by
 have mixed:prog.follows Departure.mixedOrders=true:=by kernel_rfl
 have hcon:=fun (x y:Int) W' =>Tryz.cmp_Compare_int x y W'
 go_enter func47,Tryz.ntmps47
 go_wp2
 refine wp_region_still_tail 10 mixed (by kernel_rfl) ?_;generalize hW2:World.mk _ _ _ _ _=W2;obtain ⟨c1,c2⟩:=wvb (W:=W) (W2:=W2) (by rw[<-hW2];rfl);have f1:W2.cell? ⟨W.heap.size,8,none⟩=some (.int .i64 xd):=c1 8 _ rfl;have f2:W2.cell? ⟨W.heap.size+1,8,none⟩=some (.int .i64 yd):=c2 8 _ rfl;have f3:W2.cell? ⟨W.heap.size,0,none⟩=some (.int .i64 xi):=c1 0 _ rfl;have f4:W2.cell? ⟨W.heap.size+1,0,none⟩=some (.int .i64 yi):=c2 0 _ rfl;have g2:∃q os',W2=grow (W.drewN q) os' :=⟨1,_,hW2.symm.trans (two_grow W _ _)⟩;clear c1 c2 hW2;simp only[List.take_succ_cons,List.take_zero,List.drop_succ_cons,List.drop_zero]
 still_step
 still_step
 still_step
 still_step
 still_call (hcon xd yd _)
 still_step
 still_step
 still_step
 still_step
 still_call (hcon xi yi _)
 refine wpStill_nil ?_;generalize hr1:compareInt xd yd=r1;generalize hr2:compareInt xi yi=r2;have hor:∀(W3:World) (o:Obj),o=.cells #[.int .i64 r1,.int .i64 r2] 3 (0,0)->W3=W2.alloc o->Calls prog 48 #[.slice (some ⟨W2.heap.size,0,none⟩) 2 2] W3 fun e w' =>e=.returned (.int .i64 (orI r1 r2))/\w' =W3:=fun W3 o ho hW3=>by
  subst hW3 ho;exact zDb r1 r2 _ _ (k8b W2 _ _ 0 _ rfl) (k8b W2 _ _ 1 _ rfl)
 go_wp2_with (go_at_call 48;refine (hor _ _ rfl rfl).mono ?_;rintro e w' ⟨rfl,rfl⟩)
 go_ret
 exact ⟨by rw[hr1,hr2];rfl,grow_one g2⟩
end
section
open Go.Shelf Go.RowKit Go.Lib Go.Sort Go.Proofs.Tryz
section
variable {α:Type} [Inhabited α] {enc:α->List Value} {k:Nat} {w:World} {b off m:Nat} {d:Array α} {os:Array Obj}
theorem sw_other{q:Nat}(hq:q < w.heap.size)(hne:q≠b):(sortWorldK enc k w b off m d os).heap[q]? =w.heap[q]? :=by
 unfold sortWorldK;rw[heap_grow_old _ _ (by rw[size_putRowK];exact hq)];show (w.heap.modify b _)[q]? =_;rw[Array.getElem?_modify,if_neg (Ne.symm hne)]
theorem sw_blk{vs:Array Value}{e:TypeId}{fr:Nat × Nat}(hb:w.heap[b]? =some (.cells vs e fr)):(sortWorldK enc k w b off m d os).heap[b]? =some (.cells (putCells id off (flatK enc k d) vs) e fr):=by
 have hlt:b < w.heap.size:=(Array.getElem?_eq_some_iff.1 hb).1;unfold sortWorldK;rw[heap_grow_old _ _ (by rw[size_putRowK];exact hlt)];show (w.heap.modify b _)[b]? =_;rw[Array.getElem?_modify,if_pos rfl,hb];rfl
end
theorem lt_cfE(a b:zba):decide (orI (compareInt a.Due b.Due) (compareInt a.Id b.Id) < 0)=ltE a b:=by
 rw[Bool.eq_iff_iff,decide_eq_true_iff,Vba];unfold orI compareInt;by_cases h1:a.Due < b.Due
 .simp[h1]
 by_cases h2:a.Due > b.Due
 .simp[h1,h2];omega
 have h5:a.Due=b.Due:=by omega
 by_cases h3:a.Id < b.Id
 .simp[h1,h2,h3,h5]
 by_cases h4:a.Id > b.Id <;> simp[h1,h2,h3,h4]
theorem zEb(vs:Array Value)(p n j:Nat)(hj:j < n):((vs.toList.drop p).take n).getD j undef=vs.getD (p+j) undef:=by
 rw[List.getD_eq_getElem?_getD,List.getElem?_take_of_lt hj,List.getElem?_drop,Array.getD_eq_getD_getElem?,Array.getElem?_toList]
def HasE(g:G)(p:zba × List Value):Prop:=p.2.length=10/\∀(j:Nat) c,(zba.pc p.1)[j]? =some c->RelP g.w g.u c (p.2.getD j undef)
theorem YMa{g:G}{p:zba × List Value}(h:HasE g p):∃a1 a2 a3 a4 a5 a6 a7 a9,p.2=[.int .i64 p.1.Id,a1,a2,a3,a4,a5,a6,a7,.int .i64 p.1.Due,a9]:=by
 obtain ⟨c0,c1,c2,c3,c4,c5,c6,c7,c8,c9,e⟩:=ten h.1;have h0:=h.2 0 _ rfl;have h8:=h.2 8 _ rfl;rw[e]at h0 h8;have e0:c0=.int .i64 p.1.Id:=by cases h0;rfl
 have e8:c8=.int .i64 p.1.Due:=by cases h8;rfl
 subst e0 e8;exact ⟨c1,c2,c3,c4,c5,c6,c7,c9,e⟩
theorem K3a{k o:Nat}{a ob:AO}(h:Sto.get [(k,a)] o=some ob):o=k/\ob=a:=by
 rw[Sto.get_cons]at h;split at h
 .rename_i e;cases h;exact ⟨e.symm,rfl⟩
 cases h
def EntA(g:G):Type:={p:zba × List Value // HasE g p}
def encA{g:G}(x:EntA g):List Value:=x.1.2
def cfA{g:G}(x y:EntA g):Int:=orI (compareInt x.1.1.Due y.1.1.Due) (compareInt x.1.1.Id y.1.1.Id)
theorem k9b{g:G}(x y:EntA g):ltOf cfA x y=ltE x.1.1 y.1.1:=lt_cfE _ _
theorem swoA{g:G}:SWO (ltOf (cfA (g:=g))):=
 ⟨fun x=>by rw[k9b,ksb];omega,fun x y z h1 h2=>by rw[k9b,Vba]at *;omega,fun x y z h1 h2=>by rw[k9b]at *;exact YGa h1 h2⟩
theorem cmp_at(x y:List Value)(a b:zba)(W:World)(hx:∃a1 a2 a3 a4 a5 a6 a7 a9,x=[.int .i64 a.Id,a1,a2,a3,a4,a5,a6,a7,.int .i64 a.Due,a9])(hy:∃a1 a2 a3 a4 a5 a6 a7 a9,y=[.int .i64 b.Id,a1,a2,a3,a4,a5,a6,a7,.int .i64 b.Due,a9]):
 Calls prog 47 #[.agg x.toArray,.agg y.toArray] W fun e w' =>e=.returned (.int .i64 (orI (compareInt a.Due b.Due) (compareInt a.Id b.Id)))/\∃q os',w' =grow (W.drewN q) os' :=by
 obtain ⟨a1,a2,a3,a4,a5,a6,a7,a9,rfl⟩:=hx;obtain ⟨b1,b2,b3,b4,b5,b6,b7,b9,rfl⟩:=hy;exact wwb _ _ _ _ _ _ _ _ _ _ _ _ _ _ _ _ _ _ _ _ _
theorem cmpA{g:G}[Inhabited (EntA g)](b off n:Nat)(w:World):CmpLays prog 47 #[] (encA (g:=g)) 10 cfA b off n w:=fun m os dk hs x y=>by
 rw[Array.append_empty];exact cmp_at _ _ _ _ _ (YMa x.2) (YMa y.2)
section
variable {g:G} {a0:List zba} {b off cap:Nat} {vs:Array Value} {e:TypeId}
theorem hasA(hn:vs.size=(off+cap) * 10)(hle:a0.length<=cap)(hrel:∀(i j:Nat) (x:List PV) c,(List.map zba.pc a0)[i]? =some x->x[j]? =some c->RelP g.w g.u c (vs.getD ((off+i) * 10+j) undef))(i:Nat)(hi:i < a0.length):
 HasE g (a0[i],(vs.toList.drop ((off+i) * 10)).take 10):=by
 refine ⟨?_,fun j c hj=>?_⟩
 .have h1:(off+i) * 10+10<=vs.size:=by rw[hn];omega
  simp only[List.length_take,List.length_drop,Array.length_toList];omega
 have hj10:j < 10:=(List.getElem?_eq_some_iff.1 hj).1;rw[zEb _ _ _ _ hj10];exact hrel i j (zba.pc a0[i]) c (by rw[List.getElem?_map,List.getElem?_eq_getElem hi];rfl) hj
def dA(h:∀(i:Nat) (hi:i < a0.length),HasE g (a0[i],(vs.toList.drop ((off+i) * 10)).take 10)):Array (EntA g):=Array.ofFn fun i:Fin a0.length=>⟨_,h i.val i.isLt⟩
theorem Zga(h:∀(i:Nat) (hi:i < a0.length),HasE g (a0[i],(vs.toList.drop ((off+i) * 10)).take 10)):(dA h).size=a0.length:=by unfold dA;exact Array.size_ofFn
theorem get_dA[Inhabited (EntA g)](h:∀(i:Nat) (hi:i < a0.length),HasE g (a0[i],(vs.toList.drop ((off+i) * 10)).take 10))(i:Nat)(hi:i < a0.length):(dA h)[i]! =⟨_,h i hi⟩:=by
 rw[getElem!_pos (dA h) i (by rw[Zga];exact hi)];unfold dA;exact Array.getElem_ofFn _
theorem list_dA(h:∀(i:Nat) (hi:i < a0.length),HasE g (a0[i],(vs.toList.drop ((off+i) * 10)).take 10)):(dA h).toList.map (fun x=>x.1.1)=a0:=by
 refine List.ext_getElem (by rw[List.length_map,Array.length_toList,Zga]) fun i h1 h2=>?_
 rw[List.getElem_map,Array.getElem_toList];have e:(dA h)[i]'(by rw[Zga];exact h2)=⟨_,h i h2⟩:=by unfold dA;exact Array.getElem_ofFn _
 rw[e]
theorem holdsA[Inhabited (EntA g)](h:∀(i:Nat) (hi:i < a0.length),HasE g (a0[i],(vs.toList.drop ((off+i) * 10)).take 10))(hn:vs.size=(off+cap) * 10)(hle:a0.length<=cap)(hb:g.w.heap[b]? =some (.cells vs e (0,0))):HoldsK (encA (g:=g)) 10 g.w b (off * 10) (dA h):=fun j hj=>by
 rw[size_flatK,Zga]at hj;have hji:j / 10 < a0.length:=by omega
 have e1:(flatK (encA (g:=g)) 10 (dA h))[j]! =vs.getD (off * 10+j) undef:=by
  rw[get_flatK _ _ _ _ (by rw[Zga];exact hj),get_dA h _ hji];show ((vs.toList.drop ((off+j / 10) * 10)).take 10)[j % 10]! =_;have h10:j % 10 < ((vs.toList.drop ((off+j / 10) * 10)).take 10).length:=by rw[(h _ hji).1];omega
  rw[getElem!_pos ((vs.toList.drop ((off+j / 10) * 10)).take 10) (j % 10) h10];have:=zEb vs ((off+j / 10) * 10) 10 (j % 10) (by omega);rw[List.getD_eq_getElem?_getD,List.getElem?_eq_getElem h10]at this;rw[show off * 10+j=(off+j / 10) * 10+j % 10 by omega,<-this];rfl
 have hjs:off * 10+j < vs.size:=by rw[hn];omega
 refine ⟨?_,?_⟩
 .simp only[World.cell?,hb];rw[e1];simp[hjs]
 simp[World.frozen?,hb]
theorem wxb(x:EntA g):∀v∈encA x,v.oneCell' =true:=fun v hv=>by
 obtain ⟨j,hj⟩:=List.mem_iff_getElem?.1 hv;have hj10:j < 10:=by rw[<-x.2.1];exact (List.getElem?_eq_some_iff.1 hj).1
 have hc:=x.2.2 j _ (List.getElem?_eq_getElem (show j < (zba.pc x.1.1).length from hj10));have e:x.1.2.getD j undef=v:=by rw[List.getD_eq_getElem?_getD];show (encA x)[j]?.getD undef=v;rw[hj];rfl
 rw[e]at hc;exact ZFa (vs:= #[v]) (fun i hi=>by
  have:i=0:=by simpa using hi
  subst this;exact hc.cellV) v (by simp)
theorem q4b(h:∀(i:Nat) (hi:i < a0.length),HasE g (a0[i],(vs.toList.drop ((off+i) * 10)).take 10))(hpos:0 < a0.length)(hl:a0.length<=1048576)(hn:vs.size=(off+cap) * 10)(hle:a0.length<=cap)(hb:g.w.heap[b]? =some (.cells vs e (0,0)))(hpart:WUa a0=true):
 Calls prog 46 #[.slice (some ⟨b,off * 10,none⟩) a0.length cap,.func (.func 47) #[] #[]] g.w fun e' w' =>e' =.returned (.tuple #[])/\w'.os=g.w.os/\w'.tape=g.w.tape/\w'.output=g.w.output/\g.w.heap.size<=w'.heap.size/\(∀q,q < g.w.heap.size->q≠b->w'.heap[q]? =g.w.heap[q]?)/\
  ∃vs' :Array Value,w'.heap[b]? =some (.cells vs' e (0,0))/\vs'.size=vs.size/\∀(i j:Nat) (x:zba) c,(jza a0)[i]? =some x->(zba.pc x)[j]? =some c->RelP g.w g.u c (vs'.getD ((off+i) * 10+j) undef):=by
 letI:Inhabited (EntA g):=⟨⟨_,h 0 hpos⟩⟩
 have hcon:=AnyQ.slices_SortFunc Tryz.sortEntry 10 isAgg57 sizeOf57 (encA (g:=g)) (fun x=>x.2.1) wxb cfA swoA 47 #[] b (off * 10) cap (dA h) g.w (enters_of func47 (by kernel_rfl) rfl) (cmpA b (off * 10) _ g.w) (holdsA h hn hle hb) (Array.getElem?_eq_some_iff.1 hb).1 (by rw[Zga];omega);rw[Zga]at hcon;refine Calls.mono hcon ?_;rintro e' w' ⟨rfl,d',m,os,hP,hS,rfl⟩;obtain ⟨p1,_,p3⟩:=hP;rw[Zga]at p1;have x1:d'.extract 0 a0.length=d' :=by rw[<-p1];exact Array.extract_size
 have x2:(dA h).extract 0 a0.length=dA h:=by
  have:=Array.extract_size (xs:=dA h)
  rwa [Zga]at this
 rw[x1,x2]at p3;have hperm:(d'.toList.map fun x=>x.1.1).Perm a0:=by
  have:=p3.map fun x:EntA g=>x.1.1
  rwa [list_dA]at this
 have hsort:(d'.toList.map fun x=>x.1.1).Pairwise (fun a b=>ltE b a=false):=by
  rw[List.pairwise_iff_getElem];intro i j hi hj hij;simp only[List.length_map,Array.length_toList]at hi hj;have:=hS i j (Nat.zero_le _) hij (by omega);rw[getElem!_pos d' i hi,getElem!_pos d' j hj,k9b]at this;simpa using this
 have hL:=ktb hperm hsort hpart;refine ⟨rfl,rfl,rfl,rfl,size_sortWorldK_c _ _ _ _ _ _ _ _,fun q hq hne=>sw_other hq hne,_,sw_blk hb,by simp[putCells],fun i j x c hi hj=>?_⟩;rw[<-hL,List.getElem?_map]at hi;obtain ⟨y,hy,rfl⟩:=Option.map_eq_some_iff.1 hi;rw[Array.getElem?_toList]at hy;obtain ⟨hid,rfl⟩:=Array.getElem?_eq_some_iff.1 hy;have hj10:j < 10:=(List.getElem?_eq_some_iff.1 hj).1;have hrel:=d'[i].2.2 j c hj;have hlen:d'[i].1.2.length=10:=d'[i].2.1;have hts:(off+i) * 10+j < vs.size:=by rw[hn];omega
 have e1:(putCells id (off * 10) (flatK (encA (g:=g)) 10 d') vs).getD ((off+i) * 10+j) undef=d'[i].1.2.getD j undef:=by
  unfold putCells;rw[Array.getD_eq_getD_getElem?,Array.getElem?_mapIdx,Array.getElem?_eq_getElem hts];simp only[Option.map_some,Option.getD_some,size_flatK];rw[if_pos (by omega)];rw[show (off+i) * 10+j - off * 10=i * 10+j by omega,id,get_flatK _ _ _ _ (by omega)];rw[show (i * 10+j) / 10=i by omega,show (i * 10+j) % 10=j by omega,getElem!_pos d' i hid];show (d'[i].1.2)[j]! =_;rw[getElem!_pos (d'[i].1.2) j (by omega),List.getD_eq_getElem?_getD,List.getElem?_eq_getElem (by omega)];rfl
 rw[e1];exact hrel
end
theorem sort_obj{g' :G}{a0:List zba}{b off cap:Nat}{vs' :Array Value}(hloc:g'.loc 90009000=.row b off cap 10 a0.length)(hb:g'.w.heap[b]? =some (.cells vs' 57 (0,0)))(hn:vs'.size=(off+cap) * 10)(hm:cap<=maxLen)(hle:a0.length<=cap)(hu:g'.u b=0)
 (h:∀(i j:Nat) (x:zba) c,(jza a0)[i]? =some x->(zba.pc x)[j]? =some c->RelP g'.w g'.u c (vs'.getD ((off+i) * 10+j) undef)):RelO g' 90009000 (.row 57 true 10 (List.map zba.pc (jza a0))):=by
 have hlen:(List.map zba.pc (jza a0)).length=a0.length:=by rw[List.length_map,(jVa a0).length_eq]
 refine .row (by rw[hlen];exact hloc) hb hn hm (by rw[hlen];exact hle) (fun x hx=>?_) (by rw[hu];exact Nat.zero_le _) (fun _=>hu) (fun i j x c hi hj=>?_)
 .obtain ⟨y,_,rfl⟩:=List.mem_map.1 hx;rfl
 rw[List.getElem?_map]at hi;obtain ⟨y,hy,rfl⟩:=Option.map_eq_some_iff.1 hi;exact h i j y c hy hj
theorem vAa(a0 r:List zba)(hr:zGa a0=some r):
 RunS prog 46 [.hs 90009000 0,.fn (.func 47) [] []] [(90009000,.row 57 true 10 (List.map zba.pc a0))] (.tup []) [(90009000,.row 57 true 10 (List.map zba.pc r))] 90009000 []:=by
 unfold zGa at hr;have hpart:WUa a0=true/\a0.length<=1048576:=by
  cases h:WUa a0 && decide (a0.length<=1048576) with
  | false=>rw[h]at hr;cases hr
  | true=>simpa using h
 rw[hpart.1,decide_eq_true hpart.2]at hr;cases hr;generalize hE:List.map zba.pc a0=elems;refine ⟨⟨_,_,⟨func46,rfl,by kernel_rfl⟩⟩,rfl,rfl,fun g vs hw hg hown ha=>?_⟩;obtain ⟨hsz,hrel⟩:=ha;obtain ⟨vl⟩:=vs
 match vl,hsz with
 | [x,y],_=>
  have hx:Rel g (.hs 90009000 0) x:=hrel 0 _ rfl;have hy:Rel g (.fn (.func 47) [] []) y:=hrel 1 _ rfl;have hy2:y=.func (.func 47) #[] #[]:=by
   cases hy with
   | @fn f first captured fv cv h1 h2 hf hc=>
    have e1:fv= #[]:=Array.eq_empty_of_size_eq_zero h1;have e2:cv= #[]:=Array.eq_empty_of_size_eq_zero h2;rw[e1,e2]
  subst hy2;have hob:=hown.obj 90009000 _ rfl;have hmap:elems.length=a0.length:=by rw[<-hE];simp
  have none_case:a0=[]->(∃p cap,x=.slice p 0 cap)->CallsIn (fen none) 0 prog 46 #[x,.func (.func 47) #[] #[]] g.w fun e w' =>∃g' v,g'.w=w' /\(∀k,k ∉ ([]:List Nat)->g'.loc k=g.loc k)/\Old (SB g [(90009000,.row 57 true 10 elems)]) g g' /\Wf g' /\e=.returned v/\Rel g' (.tup []) v/\
   (∀o ob,Sto.get [(90009000,.row 57 true 10 (List.map zba.pc (jza a0)))] o=some ob->RelO g' o ob)/\(∀o o' ob ob' b,Sto.get [(90009000,.row 57 true 10 (List.map zba.pc (jza a0)))] o=some ob->Sto.get [(90009000,.row 57 true 10 (List.map zba.pc (jza a0)))] o' =some ob' ->ob.own (g'.loc o) b->ob'.own (g'.loc o') b->o=o')/\
   (∀o ob b,Sto.get [(90009000,.row 57 true 10 (List.map zba.pc (jza a0)))] o=some ob->ob.own (g'.loc o) b->g.w.heap.size<=b∨SB g [(90009000,.row 57 true 10 elems)] b):=by
   rintro h0 ⟨p,cap,rfl⟩;subst h0;obtain rfl:elems=[]:=by rw[<-hE];rfl
   refine callsIn_wide.2 (Calls.mono (AnyF.slices_SortFunc_none Tryz.sortEntry p cap (.func (.func 47) #[] #[]) g.w) ?_);rintro e w' ⟨rfl,rfl⟩;refine ⟨g,_,rfl,fun _ _=>rfl,Old.refl _ _,hw,rfl,.tup rfl (fun i c hi=>by simp at hi),fun o ob ho=>?_,fun o o' ob ob' b ho ho' _ _=>?_,fun o ob b ho hb=>?_⟩
   .obtain ⟨rfl,rfl⟩:=K3a ho;exact hob
   .rw[(K3a ho).1,(K3a ho').1]
   exact .inr ⟨o,ob,ho,hb⟩
  cases hob with
  | nil h1=>
   have h0:a0=[]:=by simpa using hE
   cases hx with
   | hsNil a h2=>exact none_case h0 ⟨_,_,rfl⟩
   | hs h2 h3=>rw[h1]at h2;cases h2
  | @row _ _ _ _ b off cap vs hl hb hn hm hle hz hu hmu hrel2=>
   cases hx with
   | hsNil a h2=>rw[hl]at h2;cases h2
   | @hs _ b' off' cap' size' n' a h2 h3=>
    rw[hl]at h2;cases h2;by_cases h0:a0=[]
    .refine none_case h0 ⟨some a,cap,?_⟩;have:elems.length=0:=by rw[hmap,h0];rfl
     rw[this]
    have hpos:0 < a0.length:=List.length_pos_iff.2 h0;rw[hmap]at hle hl;have ha:=h3 (by omega);subst ha;have hub:g.u b=0:=hmu rfl;have hbs:b < g.w.heap.size:=(Array.getElem?_eq_some_iff.1 hb).1;subst hE;have hC:=q4b (hasA hn hle hrel2) hpos hpart.2 hn hle hb hpart.1;rw[hmap];refine callsIn_wide.2 (Calls.mono hC ?_);rintro e w' ⟨rfl,q1,q2,q3,q4,q5,vs',q6,q7,q8⟩;have hSB:SB g [(90009000,.row 57 true 10 (List.map zba.pc a0))] b:=⟨90009000,_,rfl,by show (g.loc 90009000).block=some b;rw[hl];rfl⟩;have hxt:Ext g.w g.u w' g.u:=⟨q4,fun _ _=>Nat.le_refl _,fun k i hk hi=>by
     have hne:k≠b:=by rintro rfl;omega
     simp only[World.cell?,q5 k hk hne],fun r hr=>by
     have hr2:r < g.w.heap.size:=(Array.getElem?_eq_some_iff.1 hr).1;have hne:r≠b:=by rintro rfl;rw[hb]at hr;cases hr
     rw[q5 r hr2 hne];exact hr⟩
    refine ⟨⟨w',g.u,g.loc⟩,_,rfl,fun _ _=>rfl,⟨q1,q2,q3,hxt,fun k hk hs=>⟨q5 k hk (by rintro rfl;exact hs hSB),rfl⟩⟩,fun k hk=>hw k (Nat.le_trans q4 hk),rfl,.tup rfl (fun i c hi=>by simp at hi),fun o ob ho=>?_,fun o o' ob ob' b ho ho' _ _=>?_,fun o ob b' ho hb' =>?_⟩
    .obtain ⟨rfl,rfl⟩:=K3a ho;exact sort_obj (g' :=⟨w',g.u,g.loc⟩) hl q6 (q7.trans hn) hm hle hub fun i j x c hi hj=>(q8 i j x c hi hj).mono0 hxt.to0
    .rw[(K3a ho).1,(K3a ho').1]
    obtain ⟨rfl,rfl⟩:=K3a ho;exact .inr ⟨90009000,_,rfl,hb'⟩
end
end Go.Proofs.YtgajlblehdboiaaGreat
