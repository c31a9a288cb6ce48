/- Part 5 of the proof of the law ServerTakesWhatIsSent: what it needs. -/
import Derived.Test.YtmmjihadplknjaaGreatDoorKServerTakesWhatIsSent4
import Derived.Test.YtmmjihadplknjaaGreatDoorProg
import Derived.Tactics
import Derived.Tactics2
import Derived.Defers
import Derived.Laws.Pointers
import Derived.Laws.LoneSync
import Derived.RegionTactic
import Derived.RegionCalls
import Derived.ChangeAlike
import Derived.WalkKit
import Derived.Lib.Walk
import Derived.Lib.Strings
import Derived.Lib.IndexBytes
import Derived.Lib.AsciiSet
import Derived.Laws.Strings3
import Derived.Laws.ResultCell
import Derived.Deep.LoopGhost
import Derived.Deep.WholeRow
import Derived.Shelf.RegionOpenPlain
import Derived.Laws.NewBlocks
import Derived.Laws.Cover3
import Derived.Laws.IdiomStrings
import Derived.Laws.BytesArg
import Derived.Lib.TrimByte
import Derived.Shelf.Strings.SlTrimAscii
set_option linter.unusedVariables false
set_option linter.unusedSimpArgs false
set_option maxRecDepth 100000
set_option maxHeartbeats 40000000
namespace Go.Proofs.YtmmjihadplknjaaGreatDoor
open Go.RowKit Go.Proofs.Tryz
theorem QDa(a0:Str)(r:Bool)(hr:vea a0=some r):Run prog 119 [.s a0] (.bo r):=by
 unfold vea at hr;refine rf (fn:=Tryz.f119) ⟨func119,rfl,by kernel_rfl⟩ rfl (fun _=>rfl) fun g0 hg=>?_
 refine rn tk 10 rfl<|jb hr (fun j1=>[(2,.bo j1)]) (fun j1=>[]) (fun j1 hr=>?_) (fun j1 hr=>?_)
 .refine rn tk 4 rfl<|bs 6 hr rfl (fun c2 hr=>?_) (fun c2 hr=>?_)
  .refine rn tk 5 rfl<|bs 11 hr rfl (fun c3 hr=>?_) (fun c3 hr=>?_)
   .refine rn tk 2 rfl<|ug rfl rfl rfl<|ct hr (fun j4=>[(0,.s a0),(11,.bo true),(14,.bo j4)]) (fun j4=>[]) (fun j4 hr jump4=>?_) (fun j4 hr=>?_)
    .refine il (fn:=f82) (args:=[.s a0,.fn (.func 142) [] []]) 400000 499999 [(0,.s a0),(11,.bo true)] rfl ⟨func82,rfl,by kernel_rfl⟩ rfl rfl rfl fun T4 ds4=>?_
     refine rn tk 14 rfl<|al2 hr (fun s5=>[(0,.s a0),(1,.fn (.func 142) [] []),(7,.i ((a0.length:Int))),(8,.i s5)]) (fun s5=>[(499999,.sus g0.w.heap.size ds4),(400000,.hold (.s a0) (T4.getD 0 undef)),(400011,.hold (.bo true) (T4.getD 11 undef))]) (.exit 0) (fun b6=>[]) (fun b6=>[(499999,.sus g0.w.heap.size ds4),(400000,.hold (.s a0) (T4.getD 0 undef)),(400011,.hold (.bo true) (T4.getD 11 undef))]) .ret (fun b7=>[(4,.bo false)]) (fun b7=>[(499999,.sus g0.w.heap.size ds4),(400000,.hold (.s a0) (T4.getD 0 undef)),(400011,.hold (.bo true) (T4.getD 11 undef))]) rfl rfl (fun s5 x9 hr=>?_) (fun b6 hr=>?_) (fun b7 hr=>?_)
     .unfold qda at hr;refine rn tk 6 rfl<|ac 9 hr rfl (fun c10 hr=>?_) (fun c10 hr=>?_)
      .refine rn tk 15 rfl ?_;obtain ⟨v11,h12,hr⟩:=zaa hr;refine ws tk h12 rfl rfl rfl rfl<|il (fn:=Tryz.f142) (args:=[.u8 v11]) 600000 699999 [(0,.s a0),(1,.fn (.func 142) [] []),(7,.i ((a0.length:Int))),(8,.i s5)] rfl ⟨func142,rfl,by kernel_rfl⟩ rfl rfl rfl fun T6 ds6=>?_
       refine rn tk 5 rfl<|jb hr (fun j13=>[(2,.bo j13)]) (fun j13=>[(699999,.sus g0.w.heap.size ds6),(600000,.hold (.s a0) (T6.getD 0 undef)),(600001,.hold (.fn (.func 142) [] []) (T6.getD 1 undef)),(600007,.hold (.i ((a0.length:Int))) (T6.getD 7 undef)),(600008,.hold (.i s5) (T6.getD 8 undef)),(499999,.sus g0.w.heap.size ds4),(400000,.hold (.s a0) (T4.getD 0 undef)),(400011,.hold (.bo true) (T4.getD 11 undef))]) (fun j13 hr=>?_) (fun j13 hr=>?_)
       .refine rn tk 4 rfl<|bs 5 hr rfl (fun c14 hr=>?_) (fun c14 hr=>?_)
        .refine rn tk 4 rfl<|bs 9 hr rfl (fun c15 hr=>?_) (fun c15 hr=>?_)
         .refine rn tk 17 rfl ?_;cases hr;exact jn _ rfl rfl rfl
         refine rn tk 3 rfl<|bs 12 hr rfl (fun c16 hr=>?_) (fun c16 hr=>?_)
         .refine rn tk 5 rfl<|bs 17 hr rfl (fun c17 hr=>?_) (fun c17 hr=>?_)
          .refine rn tk 9 rfl ?_;cases hr;exact jn _ rfl rfl rfl
          refine rn tk 4 rfl<|bs 21 hr rfl (fun c18 hr=>?_) (fun c18 hr=>?_)
          .refine rn tk 5 rfl ?_;cases hr;exact jn _ rfl rfl rfl
          refine rn tk 5 rfl ?_;cases hr;exact jn _ rfl rfl rfl
         refine rn tk 9 rfl<|bs 21 hr rfl (fun c19 hr=>?_) (fun c19 hr=>?_)
         .refine rn tk 5 rfl ?_;cases hr;exact jn _ rfl rfl rfl
         refine rn tk 5 rfl ?_;cases hr;exact jn _ rfl rfl rfl
        refine rn tk 7 rfl<|bs 12 hr rfl (fun c20 hr=>?_) (fun c20 hr=>?_)
        .refine rn tk 5 rfl<|bs 17 hr rfl (fun c21 hr=>?_) (fun c21 hr=>?_)
         .refine rn tk 9 rfl ?_;cases hr;exact jn _ rfl rfl rfl
         refine rn tk 4 rfl<|bs 21 hr rfl (fun c22 hr=>?_) (fun c22 hr=>?_)
         .refine rn tk 5 rfl ?_;cases hr;exact jn _ rfl rfl rfl
         refine rn tk 5 rfl ?_;cases hr;exact jn _ rfl rfl rfl
        refine rn tk 9 rfl<|bs 21 hr rfl (fun c23 hr=>?_) (fun c23 hr=>?_)
        .refine rn tk 5 rfl ?_;cases hr;exact jn _ rfl rfl rfl
        refine rn tk 5 rfl ?_;cases hr;exact jn _ rfl rfl rfl
       refine rn tk 1 rfl ?_;refine ie tk [.bo j13] [(0,.s a0),(1,.fn (.func 142) [] []),(7,.i ((a0.length:Int))),(8,.i s5)] [(499999,.sus g0.w.heap.size ds4),(400000,.hold (.s a0) (T4.getD 0 undef)),(400011,.hold (.bo true) (T4.getD 11 undef))] (.inr rfl) rfl rfl rfl rfl (hO ?_);refine rn tk 3 rfl<|ac 16 hr rfl (fun c24 hr=>?_) (fun c24 hr=>?_)
       .refine rn tk 8 rfl ?_;cases hr;exact ato rfl rfl rfl rfl
       refine rn tk 7 rfl ?_;cases hr;exact atc rfl rfl
      refine rn tk 2 rfl ?_;cases hr;exact ato rfl rfl rfl rfl
     .refine rn tk 8 rfl ?_;refine ie tk [.bo true] [(0,.s a0),(11,.bo true)] [] (.inr rfl) rfl rfl rfl rfl ?_;cases hr;exact jump4 _ _ rfl rfl
     refine rn tk 2 rfl ?_;refine ie tk [.bo false] [(0,.s a0),(11,.bo true)] [] (.inr rfl) rfl rfl rfl rfl ?_;cases hr;exact jump4 _ _ rfl rfl
    refine rn tk 2 rfl<|bs 16 hr rfl (fun c25 hr=>?_) (fun c25 hr=>?_)
    .refine rn tk 1 rfl ?_;obtain ⟨v26,h27,hr⟩:=zaa hr;refine ug rfl rfl rfl<|cl (Kka _ _ _ h27) rfl rfl<|rn tk 3 rfl<|bs 21 hr rfl (fun c28 hr=>?_) (fun c28 hr=>?_)
     .refine rn tk 1 rfl ?_;obtain ⟨v29,h30,hr⟩:=zaa hr;refine ug rfl rfl rfl<|cl (Kla _ _ _ h30) rfl rfl<|rn tk 3 rfl<|bs 26 hr rfl (fun c31 hr=>?_) (fun c31 hr=>?_)
      .refine rn tk 1 rfl ?_;obtain ⟨v32,h33,hr⟩:=zaa hr;refine ug rfl rfl rfl<|cl (KLa _ _ _ h33) rfl rfl<|rn tk 4 rfl ?_;cases hr;exact jn _ rfl rfl rfl
      refine rn tk 6 rfl ?_;cases hr;exact jn _ rfl rfl rfl
     refine rn tk 11 rfl ?_;cases hr;exact jn _ rfl rfl rfl
    refine rn tk 16 rfl ?_;cases hr;exact jn _ rfl rfl rfl
   refine rn tk 21 rfl ?_;cases hr;exact jn _ rfl rfl rfl
  refine rn tk 26 rfl ?_;cases hr;exact jn _ rfl rfl rfl
 refine rn tk 1 rfl ?_;cases hr;exact kr tk (.inr rfl) rfl rfl
theorem Vea(a0:Str)(r:Str × Str × Bool)(hr:vJa a0=some r):Run prog 86 [.s a0] (.tup [.s r.1,.s r.2.1,.bo r.2.2]):=by
 unfold vJa at hr;refine rf (fn:=f86) ⟨func86,rfl,by kernel_rfl⟩ rfl (fun _=>rfl) fun g0 hg=>?_
 refine rn tk 10 rfl ?_;obtain ⟨v1,h2,hr⟩:=zaa hr;refine cl (Kja _ _ _ h2) rfl rfl<|rn tk 14 rfl<|jb hr (fun j3=>[(2,.s v1.1),(3,.s v1.2.1),(4,.bo j3)]) (fun j3=>[]) (fun j3 hr=>?_) (fun j3 hr=>?_)
 .refine rn tk 5 rfl<|bs 15 hr rfl (fun c4 hr=>?_) (fun c4 hr=>?_)
  .refine rn tk 4 rfl<|bs 19 hr rfl (fun c5 hr=>?_) (fun c5 hr=>?_)
   .refine rn tk 5 rfl<|bs 24 hr rfl (fun c6 hr=>?_) (fun c6 hr=>?_)
    .refine rn tk 2 rfl<|ug rfl rfl rfl<|ct hr (fun j7=>[(3,.s v1.2.1),(12,.s v1.1),(13,.s v1.2.1),(24,.bo true),(27,.bo j7)]) (fun j7=>[]) (fun j7 hr jump4=>?_) (fun j7 hr=>?_)
     .refine il (fn:=f82) (args:=[.s v1.1,.fn (.func 117) [] []]) 400000 499999 [(3,.s v1.2.1),(12,.s v1.1),(13,.s v1.2.1),(24,.bo true)] rfl ⟨func82,rfl,by kernel_rfl⟩ rfl rfl rfl fun T4 ds4=>?_
      refine rn tk 14 rfl<|al2 hr (fun s8=>[(0,.s v1.1),(1,.fn (.func 117) [] []),(7,.i ((v1.1.length:Int))),(8,.i s8)]) (fun s8=>[(499999,.sus g0.w.heap.size ds4),(400003,.hold (.s v1.2.1) (T4.getD 3 undef)),(400012,.hold (.s v1.1) (T4.getD 12 undef)),(400013,.hold (.s v1.2.1) (T4.getD 13 undef)),(400024,.hold (.bo true) (T4.getD 24 undef))]) (.exit 0) (fun b9=>[]) (fun b9=>[(499999,.sus g0.w.heap.size ds4),(400003,.hold (.s v1.2.1) (T4.getD 3 undef)),(400012,.hold (.s v1.1) (T4.getD 12 undef)),(400013,.hold (.s v1.2.1) (T4.getD 13 undef)),(400024,.hold (.bo true) (T4.getD 24 undef))]) .ret (fun b10=>[(4,.bo false)]) (fun b10=>[(499999,.sus g0.w.heap.size ds4),(400003,.hold (.s v1.2.1) (T4.getD 3 undef)),(400012,.hold (.s v1.1) (T4.getD 12 undef)),(400013,.hold (.s v1.2.1) (T4.getD 13 undef)),(400024,.hold (.bo true) (T4.getD 24 undef))]) rfl rfl (fun s8 x12 hr=>?_) (fun b9 hr=>?_) (fun b10 hr=>?_)
      .unfold qua at hr;refine rn tk 6 rfl<|ac 9 hr rfl (fun c13 hr=>?_) (fun c13 hr=>?_)
       .refine rn tk 15 rfl ?_;obtain ⟨v14,h15,hr⟩:=zaa hr;refine ws tk h15 rfl rfl rfl rfl<|il (fn:=Tryz.f117) (args:=[.u8 v14]) 600000 699999 [(0,.s v1.1),(1,.fn (.func 117) [] []),(7,.i ((v1.1.length:Int))),(8,.i s8)] rfl ⟨func117,rfl,by kernel_rfl⟩ rfl rfl rfl fun T6 ds6=>?_
        refine rn tk 5 rfl<|jb hr (fun j16=>[(2,.bo j16)]) (fun j16=>[(699999,.sus g0.w.heap.size ds6),(600000,.hold (.s v1.1) (T6.getD 0 undef)),(600001,.hold (.fn (.func 117) [] []) (T6.getD 1 undef)),(600007,.hold (.i ((v1.1.length:Int))) (T6.getD 7 undef)),(600008,.hold (.i s8) (T6.getD 8 undef)),(499999,.sus g0.w.heap.size ds4),(400003,.hold (.s v1.2.1) (T4.getD 3 undef)),(400012,.hold (.s v1.1) (T4.getD 12 undef)),(400013,.hold (.s v1.2.1) (T4.getD 13 undef)),(400024,.hold (.bo true) (T4.getD 24 undef))]) (fun j16 hr=>?_) (fun j16 hr=>?_)
        .refine rn tk 2 rfl ?_;obtain ⟨v17,h18,hr⟩:=zaa hr;refine cl (ZFa _ _ h18) rfl rfl<|rn tk 1 rfl<|bs 5 hr rfl (fun c19 hr=>?_) (fun c19 hr=>?_)
         .refine rn tk 6 rfl ?_;cases hr;exact jn _ rfl rfl rfl
         refine rn tk 1 rfl ?_;obtain ⟨v20,h21,hr⟩:=zaa hr;refine ug rfl rfl rfl<|cl (voa _ _ _ h21) rfl rfl<|rn tk 4 rfl ?_;cases hr;exact jn _ rfl rfl rfl
        refine rn tk 1 rfl ?_;refine ie tk [.bo j16] [(0,.s v1.1),(1,.fn (.func 117) [] []),(7,.i ((v1.1.length:Int))),(8,.i s8)] [(499999,.sus g0.w.heap.size ds4),(400003,.hold (.s v1.2.1) (T4.getD 3 undef)),(400012,.hold (.s v1.1) (T4.getD 12 undef)),(400013,.hold (.s v1.2.1) (T4.getD 13 undef)),(400024,.hold (.bo true) (T4.getD 24 undef))] (.inr rfl) rfl rfl rfl rfl (hO ?_);refine rn tk 3 rfl<|ac 16 hr rfl (fun c22 hr=>?_) (fun c22 hr=>?_)
        .refine rn tk 8 rfl ?_;cases hr;exact ato rfl rfl rfl rfl
        refine rn tk 7 rfl ?_;cases hr;exact atc rfl rfl
       refine rn tk 2 rfl ?_;cases hr;exact ato rfl rfl rfl rfl
      .refine rn tk 8 rfl ?_;refine ie tk [.bo true] [(3,.s v1.2.1),(12,.s v1.1),(13,.s v1.2.1),(24,.bo true)] [] (.inr rfl) rfl rfl rfl rfl ?_;cases hr;exact jump4 _ _ rfl rfl
      refine rn tk 2 rfl ?_;refine ie tk [.bo false] [(3,.s v1.2.1),(12,.s v1.1),(13,.s v1.2.1),(24,.bo true)] [] (.inr rfl) rfl rfl rfl rfl ?_;cases hr;exact jump4 _ _ rfl rfl
     refine rn tk 2 rfl<|bs 29 hr rfl (fun c23 hr=>?_) (fun c23 hr=>?_)
     .refine rn tk 1 rfl ?_;obtain ⟨v24,h25,hr⟩:=zaa hr;refine ug rfl rfl rfl<|cl (QDa _ _ h25) rfl rfl<|rn tk 5 rfl ?_;cases hr;exact jn _ rfl rfl rfl
     refine rn tk 7 rfl ?_;cases hr;exact jn _ rfl rfl rfl
    refine rn tk 12 rfl ?_;cases hr;exact jn _ rfl rfl rfl
   refine rn tk 17 rfl ?_;cases hr;exact jn _ rfl rfl rfl
  refine rn tk 21 rfl ?_;cases hr;exact jn _ rfl rfl rfl
 refine rn tk 1 rfl ?_;cases hr;exact kr tk (.inr rfl) rfl rfl
theorem qqa(a0:Str)(r:Bool)(hr:kua a0=some r):Run prog 59 [.s a0] (.bo r):=by
 unfold kua at hr;refine rf (fn:=f59) ⟨func59,rfl,by kernel_rfl⟩ rfl (fun _=>rfl) fun g0 hg=>?_
 refine rn tk 8 rfl ?_;obtain ⟨v1,h2,hr⟩:=zaa hr;refine cl (Vea _ _ h2) rfl rfl<|rn tk 16 rfl ?_;cases hr;exact kr tk (.inr rfl) rfl rfl
theorem v7a(a0:Int)(r:Bool)(hr:k2a a0=some r):Run prog 87 [.i a0] (.bo r):=by
 unfold k2a at hr;refine rf (fn:=f87) ⟨func87,rfl,by kernel_rfl⟩ rfl (fun _=>rfl) fun g0 hg=>?_
 refine rn tk 5 rfl<|jb hr (fun j1=>[(2,.bo j1)]) (fun j1=>[]) (fun j1 hr=>?_) (fun j1 hr=>?_)
 .refine rn tk 4 rfl<|bs 5 hr rfl (fun c2 hr=>?_) (fun c2 hr=>?_)
  .refine rn tk 5 rfl ?_;cases hr;exact jn _ rfl rfl rfl
  refine rn tk 5 rfl ?_;cases hr;exact jn _ rfl rfl rfl
 refine rn tk 1 rfl ?_;cases hr;exact kr tk (.inr rfl) rfl rfl
theorem wAa(a0:List zca)(r:zva)(hr:kFa a0=some r):Run prog 60 [.l zca.pc a0] (.agg [.i r.Code,.i r.Index]):=by
 unfold kFa at hr;refine rf (fn:=f60) ⟨func60,rfl,by kernel_rfl⟩ rfl (fun _=>rfl) fun g0 hg=>?_
 refine rn tk 9 rfl<|wn tk rfl rfl rfl<|rn tk 4 rfl<|al2 hr (fun s1=>[(0,.l zca.pc a0),(2,.ptr 2 0),(5,.l zca.pc a0),(6,.i ((a0.length:Int))),(7,.i s1)]) (fun s1=>[(2,.cells [.i 0,.i 0])]) (.exit 0) (fun b2=>[(2,.ptr 2 0)]) (fun b2=>[(2,.cells [.i 0,.i 0])]) .ret (fun b3=>[(2,.ptr 2 0)]) (fun b3=>[(2,.cells [.i b3.Code,.i b3.Index])]) rfl rfl (fun s1 x5 hr=>?_) (fun b2 hr=>?_) (fun b3 hr=>?_)
 .unfold k7a at hr;refine rn tk 6 rfl<|ac 8 hr rfl (fun c6 hr=>?_) (fun c6 hr=>?_)
  .refine rn tk 7 rfl ?_;obtain ⟨v7,h8,hr⟩:=zaa hr;refine wi tk h8 rfl rfl rfl rfl rfl<|rn tk 11 rfl ?_;obtain ⟨v9,h10,hr⟩:=zaa hr;refine cl (qqa _ _ h10) rfl rfl<|rn tk 4 rfl<|ac 12 hr rfl (fun c11 hr=>?_) (fun c11 hr=>?_)
   .refine rn tk 3 rfl ?_;obtain ⟨v12,h13,hr⟩:=zaa hr;refine cl (zqa _ _ _ h13) rfl rfl<|rn tk 7 rfl ?_;cases hr;exact ato rfl rfl rfl rfl
   refine rn tk 4 rfl ?_;obtain ⟨v14,h15,hr⟩:=zaa hr;refine cl (v7a _ _ h15) rfl rfl<|rn tk 4 rfl<|ac 19 hr rfl (fun c16 hr=>?_) (fun c16 hr=>?_)
   .refine rn tk 3 rfl ?_;obtain ⟨v17,h18,hr⟩:=zaa hr;refine cl (zqa _ _ _ h18) rfl rfl<|rn tk 7 rfl ?_;cases hr;exact ato rfl rfl rfl rfl
   refine rn tk 4 rfl ?_;obtain ⟨v19,h20,hr⟩:=zaa hr;refine wlH tk h20 rfl rfl rfl (fun _=>rfl) rfl<|rn tk 1 rfl<|il (fn:=f88) (args:=[.l zca.pc v19,.fn (.func 89) [] [.ptr 4 0]]) 500000 599999 [(0,.l zca.pc a0),(2,.ptr 2 0),(3,.i s1),(5,.l zca.pc a0),(6,.i ((a0.length:Int))),(7,.i s1)] rfl ⟨func88,rfl,by kernel_rfl⟩ rfl rfl rfl fun T5 ds5=>?_
   refine rn tk 9 rfl<|ct hr (fun j21=>[(7,.i j21)]) (fun j21=>[(599999,.sus g0.w.heap.size ds5),(500000,.hold (.l zca.pc a0) (T5.getD 0 undef)),(500002,.hold (.ptr 2 0) (T5.getD 2 undef)),(500005,.hold (.l zca.pc a0) (T5.getD 5 undef)),(500006,.hold (.i ((a0.length:Int))) (T5.getD 6 undef)),(500007,.hold (.i s1) (T5.getD 7 undef)),(500003,.hold (.i s1) (T5.getD 3 undef)),(2,.cells [.i 0,.i 0])]) (fun j21 hr jump6=>?_) (fun j21 hr=>?_)
   .refine il (fn:=Tryz.f120) (args:=[.l zca.pc v19,.fn (.func 89) [] [.ptr 4 0]]) 600000 699999 [] rfl ⟨func120,rfl,by kernel_rfl⟩ rfl rfl rfl fun T6 ds6=>?_
    refine rn tk 9 rfl<|wn tk rfl rfl rfl<|rn tk 4 rfl<|al2 hr (fun s22=>[(0,.l zca.pc v19),(1,.fn (.func 89) [] [.ptr 4 0]),(7,.i ((v19.length:Int))),(8,.i s22)]) (fun s22=>[(699999,.sus g0.w.heap.size ds6),(599999,.sus g0.w.heap.size ds5),(500000,.hold (.l zca.pc a0) (T5.getD 0 undef)),(500002,.hold (.ptr 2 0) (T5.getD 2 undef)),(500005,.hold (.l zca.pc a0) (T5.getD 5 undef)),(500006,.hold (.i ((a0.length:Int))) (T5.getD 6 undef)),(500007,.hold (.i s1) (T5.getD 7 undef)),(500003,.hold (.i s1) (T5.getD 3 undef)),(4,.cells [.s v7.Address,.i v7.Notify]),(2,.cells [.i 0,.i 0])]) (.exit 0) (fun b23=>[]) (fun b23=>[(699999,.sus g0.w.heap.size ds6),(599999,.sus g0.w.heap.size ds5),(500000,.hold (.l zca.pc a0) (T5.getD 0 undef)),(500002,.hold (.ptr 2 0) (T5.getD 2 undef)),(500005,.hold (.l zca.pc a0) (T5.getD 5 undef)),(500006,.hold (.i ((a0.length:Int))) (T5.getD 6 undef)),(500007,.hold (.i s1) (T5.getD 7 undef)),(500003,.hold (.i s1) (T5.getD 3 undef)),(2,.cells [.i 0,.i 0])]) .ret (fun b24=>[(4,.i b24)]) (fun b24=>[(699999,.sus g0.w.heap.size ds6),(599999,.sus g0.w.heap.size ds5),(500000,.hold (.l zca.pc a0) (T5.getD 0 undef)),(500002,.hold (.ptr 2 0) (T5.getD 2 undef)),(500005,.hold (.l zca.pc a0) (T5.getD 5 undef)),(500006,.hold (.i ((a0.length:Int))) (T5.getD 6 undef)),(500007,.hold (.i s1) (T5.getD 7 undef)),(500003,.hold (.i s1) (T5.getD 3 undef)),(2,.cells [.i 0,.i 0])]) rfl rfl (fun s22 x26 hr=>?_) (fun b23 hr=>?_) (fun b24 hr=>?_)
    .unfold kya at hr;refine rn tk 6 rfl<|ac 9 hr rfl (fun c27 hr=>?_) (fun c27 hr=>?_)
     .refine rn tk 15 rfl ?_;obtain ⟨v28,h29,hr⟩:=zaa hr;refine wi tk h29 rfl rfl rfl rfl rfl<|rn tk 1 rfl<|il (fn:=f89) (args:=[.agg [.s v28.Address,.i v28.Notify],.ptr 4 0]) 800000 899999 [(0,.l zca.pc v19),(1,.fn (.func 89) [] [.ptr 4 0]),(5,.i s22),(7,.i ((v19.length:Int))),(8,.i s22)] rfl ⟨func89,rfl,by kernel_rfl⟩ rfl rfl rfl fun T8 ds8=>?_
      refine rn tk 2 rfl<|wo (J5a (k:=2) 1002 rfl rfl rfl rfl rfl) rfl<|rn tk 14 rfl ?_;refine ie tk [.bo ((v28.Address==v7.Address))] [(0,.l zca.pc v19),(1,.fn (.func 89) [] [.ptr 4 0]),(5,.i s22),(7,.i ((v19.length:Int))),(8,.i s22)] [(1002,.cells [.s v28.Address,.i v28.Notify]),(699999,.sus g0.w.heap.size ds6),(599999,.sus g0.w.heap.size ds5),(500000,.hold (.l zca.pc a0) (T5.getD 0 undef)),(500002,.hold (.ptr 2 0) (T5.getD 2 undef)),(500005,.hold (.l zca.pc a0) (T5.getD 5 undef)),(500006,.hold (.i ((a0.length:Int))) (T5.getD 6 undef)),(500007,.hold (.i s1) (T5.getD 7 undef)),(500003,.hold (.i s1) (T5.getD 3 undef)),(4,.cells [.s v7.Address,.i v7.Notify]),(2,.cells [.i 0,.i 0])] (.inr rfl) rfl rfl rfl rfl (hO ?_);refine rn tk 2 rfl<|ac 16 hr rfl (fun c30 hr=>?_) (fun c30 hr=>?_)
      .refine rn tk 9 rfl ?_;cases hr;exact ato rfl rfl rfl rfl
      refine rn tk 7 rfl ?_;cases hr;exact atc rfl rfl
     refine rn tk 2 rfl ?_;cases hr;exact ato rfl rfl rfl rfl
    .refine rn tk 8 rfl ?_;refine ie tk [.i ((-1))] [] [(599999,.sus g0.w.heap.size ds5),(500000,.hold (.l zca.pc a0) (T5.getD 0 undef)),(500002,.hold (.ptr 2 0) (T5.getD 2 undef)),(500005,.hold (.l zca.pc a0) (T5.getD 5 undef)),(500006,.hold (.i ((a0.length:Int))) (T5.getD 6 undef)),(500007,.hold (.i s1) (T5.getD 7 undef)),(500003,.hold (.i s1) (T5.getD 3 undef)),(2,.cells [.i 0,.i 0])] (.inr rfl) rfl rfl rfl rfl ?_;cases hr;exact jump6 _ _ rfl rfl
    refine rn tk 2 rfl ?_;refine ie tk [.i b24] [] [(599999,.sus g0.w.heap.size ds5),(500000,.hold (.l zca.pc a0) (T5.getD 0 undef)),(500002,.hold (.ptr 2 0) (T5.getD 2 undef)),(500005,.hold (.l zca.pc a0) (T5.getD 5 undef)),(500006,.hold (.i ((a0.length:Int))) (T5.getD 6 undef)),(500007,.hold (.i s1) (T5.getD 7 undef)),(500003,.hold (.i s1) (T5.getD 3 undef)),(2,.cells [.i 0,.i 0])] (.inr rfl) rfl rfl rfl rfl ?_;cases hr;exact jump6 _ _ rfl rfl
   refine rn tk 5 rfl ?_;refine ie tk [.bo (decide (0<=j21))] [(0,.l zca.pc a0),(2,.ptr 2 0),(3,.i s1),(5,.l zca.pc a0),(6,.i ((a0.length:Int))),(7,.i s1)] [(2,.cells [.i 0,.i 0])] (.inr rfl) rfl rfl rfl rfl (hO ?_);refine rn tk 3 rfl<|ac 26 hr rfl (fun c31 hr=>?_) (fun c31 hr=>?_)
   .refine rn tk 3 rfl ?_;obtain ⟨v32,h33,hr⟩:=zaa hr;refine cl (zqa _ _ _ h33) rfl rfl<|rn tk 7 rfl ?_;cases hr;exact ato rfl rfl rfl rfl
   refine rn tk 8 rfl ?_;cases hr;exact atc rfl rfl
  refine rn tk 2 rfl ?_;cases hr;exact ato rfl rfl rfl rfl
 .refine rn tk 4 rfl ?_;obtain ⟨v34,h35,hr⟩:=zaa hr;refine cl (z2a _ h35) rfl rfl<|rn tk 4 rfl ?_;cases hr;exact kr tk (.inr rfl) rfl rfl
 refine rn tk 2 rfl ?_;cases hr;exact kr tk (.inr rfl) rfl rfl
theorem q8a(a0:Int)(a1:Int)(a2:Int)(r:Bool)(hr:kXa a0 a1 a2=some r):Run prog 61 [.i a0,.i a1,.i a2] (.bo r):=by
 unfold kXa at hr;refine rf (fn:=f61) ⟨func61,rfl,by kernel_rfl⟩ rfl (fun _=>rfl) fun g0 hg=>?_
 refine rn tk 5 rfl<|jb hr (fun j1=>[(6,.bo j1)]) (fun j1=>[]) (fun j1 hr=>?_) (fun j1 hr=>?_)
 .refine rn tk 5 rfl<|bs 10 hr rfl (fun c2 hr=>?_) (fun c2 hr=>?_)
  .refine rn tk 6 rfl ?_;cases hr;exact jn _ rfl rfl rfl
  refine rn tk 6 rfl ?_;cases hr;exact jn _ rfl rfl rfl
 refine rn tk 1 rfl ?_;cases hr;exact kr tk (.inr rfl) rfl rfl
def nums(l:List UInt8):List Int:=l.map fun c=>(c.toNat:Int)
theorem VXa(l:List UInt8):Lib.bytesOf (nums l)=l:=by simp[Lib.bytesOf,nums,Function.comp_def]
theorem JTa(l:List UInt8):∀x∈nums l,0<=x/\x < 256:=by
 intro x hx;obtain ⟨c,_,rfl⟩:=List.mem_map.1 hx;have:=c.toNat_lt;omega
theorem ZJb(l:List UInt8)(i:Nat)(h:i < l.length):(nums l).getD i 0=(l[i].toNat:Int):=by simp[nums,h]
theorem QEa{g:G}{l:List UInt8}{v:Value}(h:Rel g (.l cU l) v):∃ad cap,v=.slice ad l.length cap/\l.length<=cap/\(l≠ []->∃b off,ad=some ⟨b,off,none⟩/\∀i,i < l.length->g.w.cell? ((⟨b,off,none⟩:Addr).add i)=some (.int .u8 ((nums l).getD i 0))):=by
 cases h with
 | pv h=>
  generalize hE:l.map cU=elems at h;have hEl:elems.length=l.length:=by rw[<-hE];simp
  unfold pL at h;rw[hE]at h;cases h with
  | @sl _ _ a cap size b off val hn h0 hc hz ha hu hcell h=>
   refine ⟨a,cap,by rw[hEl],by omega,fun hne=>⟨b,off,ha (by rw[<-hE];simpa using hne),fun i hi=>?_⟩⟩;have hget:elems[i]? =some (cU l[i]):=by rw[<-hE];simp[hi]
   have hs1:size=1:=by
    have:=hz _ (List.mem_of_getElem? hget);simpa[cU]using this.symm
   subst hs1;rw[vta,hcell i (by omega),ZJb l i hi];have:=h i 0 _ (.b (.int .u8 (l[i].toNat:Int))) hget rfl;simp only[Nat.mul_one,Nat.add_zero]at this;have e:=kda (g:=g) (.pv this);rw[e]
theorem YNa(a b:List UInt8)(r:Int)(hr:Zga a b=some r):Run prog 121 [.l cU a,.l cU b] (.i r):=by
 unfold Zga at hr;split at hr
 case isFalse=>cases hr
 rename_i hlen;cases hr;refine ⟨⟨_,_,⟨func121,rfl,by kernel_rfl⟩⟩,fun g vs hw hg ha=>?_⟩;obtain ⟨hsz,hrel⟩:=ha;obtain ⟨l⟩:=vs
 match l,hsz with
 | [x,y],_=>
  have h0:Rel g (.l cU a) x:=hrel 0 _ rfl;have h1:Rel g (.l cU b) y:=hrel 1 _ rfl;obtain ⟨ad,cap,rfl,hcap,hcell⟩:=QEa h0;obtain ⟨ad2,cap2,rfl,hcap2,hcell2⟩:=QEa h1;have hb2:=hlen.2;obtain ⟨b2,o2,rfl,hc2⟩:=hcell2 (by rintro rfl;simp at hb2);refine callsIn_wide.2 ?_
  suffices hs:Calls prog 121 #[.slice ad a.length cap,.slice (some ⟨b2,o2,none⟩) b.length cap2] g.w fun e w' =>e=.returned (.int .i64 (Lib.index a b))/\∃q,w' =g.w.drewN q by
   refine hs.mono ?_;rintro e w' ⟨rfl,q,rfl⟩;exact ⟨⟨g.w.drewN q,g.u,g.loc⟩,_,rfl,rfl,qhb g q,hw,rfl,.pv (.b rfl)⟩
  by_cases hs:a.length < 2
  .have hi:Lib.index a b= -1:=by
    match a,b,hs,hb2 with
    | [],[p,q],_,_=>rfl
    | [c],[p,q],_,_=>simp[Lib.index]
   rw[hi];exact (Tryz.bytes_Index_longer ad (some ⟨b2,o2,none⟩) a.length cap b.length cap2 g.w (by omega) (by omega) (by omega)).mono fun e w' ⟨h1,h2⟩=>⟨h1,0,h2⟩
  obtain ⟨b1,o1,rfl,hc1⟩:=hcell (by rintro rfl;simp at hs);obtain ⟨_,_,m,hm⟩:=hg.1 (0,0) (by simp[yCb]);have:=Tryz.bytes_Index_at ⟨b1,o1,none⟩ ⟨b2,o2,none⟩ a.length cap b.length cap2 (nums a) (nums b) m g.w (by simp[nums]) (by simp[nums]) (JTa a) (JTa b) hc1 hc2 hcap hlen.1 (by omega) hm;rw[VXa,VXa]at this;exact this
theorem Vfa(a0:List UInt8)(a1:List UInt8)(r:Bool)(hr:vTa a0 a1=some r):Run prog 90 [.l cU a0,.l cU a1] (.bo r):=by
 unfold vTa at hr;refine rf (fn:=f90) ⟨func90,rfl,by kernel_rfl⟩ rfl (fun _=>rfl) fun g0 hg=>?_
 refine rn tk 9 rfl ?_;obtain ⟨v1,h2,hr⟩:=zaa hr;refine cl (YNa _ _ _ h2) rfl rfl<|rn tk 5 rfl ?_;cases hr;exact kr tk (.inr rfl) rfl rfl
theorem Wua(a0:zja)(r:Bool)(hr:yia a0=some r):Run prog 62 [.agg (zA2 a0)] (.bo r):=by
 unfold yia at hr;refine rf (fn:=f62) ⟨func62,rfl,by kernel_rfl⟩ rfl (fun _=>rfl) fun g0 hg=>?_
 refine rn tk 6 rfl<|jb hr (fun j1=>[(1,.ptr 1 0),(3,.bo j1)]) (fun j1=>[(1,.cells (zA2 a0))]) (fun j1 hr=>?_) (fun j1 hr=>?_)
 .refine rn tk 5 rfl<|bs 7 hr rfl (fun c2 hr=>?_) (fun c2 hr=>?_)
  .refine rn tk 5 rfl<|bs 12 hr rfl (fun c3 hr=>?_) (fun c3 hr=>?_)
   .refine rn tk 6 rfl ?_;cases hr;exact jn _ rfl rfl rfl
   refine rn tk 6 rfl ?_;cases hr;exact jn _ rfl rfl rfl
  refine rn tk 11 rfl ?_;cases hr;exact jn _ rfl rfl rfl
 refine rn tk 14 rfl<|ac 19 hr rfl (fun c4 hr=>?_) (fun c4 hr=>?_)
 .refine jb hr (fun j5=>[(2,.bo j5)]) (fun j5=>[]) (fun j5 hr=>?_) (fun j5 hr=>?_)
  .refine rn tk 3 rfl<|wn tk rfl rfl rfl<|rn tk 2 rfl<|bs 25 hr rfl (fun c6 hr=>?_) (fun c6 hr=>?_)
   .refine rn tk 2 rfl ?_;refine jba rfl (QQa (F:=cU) (l:=([(13:UInt8),(10:UInt8)]:List UInt8)) zka zAa rfl (fun _=>rfl) rfl rfl) zka zAa (Joa (d:=25) rfl rfl rfl rfl) (Joa (d:=25) rfl rfl rfl rfl) rfl (hO ?_);obtain ⟨v7,h8,hr⟩:=zaa hr;refine ug rfl rfl rfl<|cl (Vfa _ _ _ h8) rfl rfl<|rn tk 3 rfl<|bs 33 hr rfl (fun c9 hr=>?_) (fun c9 hr=>?_)
    .refine rn tk 5 rfl<|bs 38 hr rfl (fun c10 hr=>?_) (fun c10 hr=>?_)
     .refine rn tk 4 rfl ?_;cases hr;exact jn _ rfl rfl rfl
     refine rn tk 4 rfl ?_;cases hr;exact jn _ rfl rfl rfl
    refine rn tk 9 rfl ?_;cases hr;exact jn _ rfl rfl rfl
   refine rn tk 17 rfl ?_;cases hr;exact jn _ rfl rfl rfl
  refine rn tk 3 rfl ?_;cases hr;exact kr tk (.inr rfl) rfl rfl
 refine rn tk 6 rfl<|ac 41 hr rfl (fun c11 hr=>?_) (fun c11 hr=>?_)
 .refine jb hr (fun j12=>[(2,.bo j12)]) (fun j12=>[]) (fun j12 hr=>?_) (fun j12 hr=>?_)
  .refine rn tk 3 rfl<|wn tk rfl rfl rfl<|rn tk 2 rfl<|bs 47 hr rfl (fun c13 hr=>?_) (fun c13 hr=>?_)
   .refine rn tk 5 rfl<|bs 52 hr rfl (fun c14 hr=>?_) (fun c14 hr=>?_)
    .refine rn tk 2 rfl<|ug rfl rfl rfl<|wn tk rfl rfl rfl<|rn tk 3 rfl<|bs 58 hr rfl (fun c15 hr=>?_) (fun c15 hr=>?_)
     .refine rn tk 2 rfl ?_;obtain ⟨v16,h17,hr⟩:=zaa hr;refine ug rfl rfl rfl<|cl (q8a _ _ _ _ h17) rfl rfl<|rn tk 2 rfl<|bs 63 hr rfl (fun c18 hr=>?_) (fun c18 hr=>?_)
      .refine rn tk 4 rfl ?_;cases hr;exact jn _ rfl rfl rfl
      refine rn tk 4 rfl ?_;cases hr;exact jn _ rfl rfl rfl
     refine rn tk 9 rfl ?_;cases hr;exact jn _ rfl rfl rfl
    refine rn tk 15 rfl ?_;cases hr;exact jn _ rfl rfl rfl
   refine rn tk 20 rfl ?_;cases hr;exact jn _ rfl rfl rfl
  refine rn tk 3 rfl ?_;cases hr;exact kr tk (.inr rfl) rfl rfl
 refine rn tk 6 rfl<|ac 66 hr rfl (fun c19 hr=>?_) (fun c19 hr=>?_)
 .refine jb hr (fun j20=>[(2,.bo j20)]) (fun j20=>[]) (fun j20 hr=>?_) (fun j20 hr=>?_)
  .refine rn tk 5 rfl<|wn tk rfl rfl rfl<|rn tk 3 rfl<|bs 75 hr rfl (fun c21 hr=>?_) (fun c21 hr=>?_)
   .refine rn tk 8 rfl<|bs 83 hr rfl (fun c22 hr=>?_) (fun c22 hr=>?_)
    .refine rn tk 2 rfl<|ug rfl rfl rfl<|wn tk rfl rfl rfl<|rn tk 3 rfl<|bs 89 hr rfl (fun c23 hr=>?_) (fun c23 hr=>?_)
     .refine rn tk 5 rfl<|bs 94 hr rfl (fun c24 hr=>?_) (fun c24 hr=>?_)
      .refine rn tk 2 rfl ?_;obtain ⟨v25,h26,hr⟩:=zaa hr;refine ug rfl rfl rfl<|cl (q8a _ _ _ _ h26) rfl rfl<|rn tk 3 rfl ?_;cases hr;exact jn _ rfl rfl rfl
      refine rn tk 6 rfl ?_;cases hr;exact jn _ rfl rfl rfl
     refine rn tk 11 rfl ?_;cases hr;exact jn _ rfl rfl rfl
    refine rn tk 17 rfl ?_;cases hr;exact jn _ rfl rfl rfl
   refine rn tk 25 rfl ?_;cases hr;exact jn _ rfl rfl rfl
  refine rn tk 3 rfl ?_;cases hr;exact kr tk (.inr rfl) rfl rfl
 refine rn tk 6 rfl<|ac 99 hr rfl (fun c27 hr=>?_) (fun c27 hr=>?_)
 .refine jb hr (fun j28=>[(2,.bo j28)]) (fun j28=>[]) (fun j28 hr=>?_) (fun j28 hr=>?_)
  .refine rn tk 5 rfl<|bs 104 hr rfl (fun c29 hr=>?_) (fun c29 hr=>?_)
   .refine rn tk 2 rfl<|ug rfl rfl rfl<|wn tk rfl rfl rfl<|rn tk 3 rfl<|bs 110 hr rfl (fun c30 hr=>?_) (fun c30 hr=>?_)
    .refine rn tk 5 rfl<|bs 115 hr rfl (fun c31 hr=>?_) (fun c31 hr=>?_)
     .refine rn tk 4 rfl ?_;cases hr;exact jn _ rfl rfl rfl
     refine rn tk 4 rfl ?_;cases hr;exact jn _ rfl rfl rfl
    refine rn tk 9 rfl ?_;cases hr;exact jn _ rfl rfl rfl
   refine rn tk 15 rfl ?_;cases hr;exact jn _ rfl rfl rfl
  refine rn tk 3 rfl ?_;cases hr;exact kr tk (.inr rfl) rfl rfl
 refine rn tk 9 rfl ?_;cases hr;exact kr tk (.inr rfl) rfl rfl
theorem VYa(a0:zja)(r:Bool)(hr:wva a0=some r):Run prog 34 [.agg (zA2 a0)] (.bo r):=by
 unfold wva at hr;refine rf (fn:=f34) ⟨func34,rfl,by kernel_rfl⟩ rfl (fun _=>rfl) fun g0 hg=>?_
 refine rn tk 7 rfl<|jb hr (fun j1=>[(1,.ptr 1 0),(25,.bo j1)]) (fun j1=>[(1,.cells (zA2 a0))]) (fun j1 hr=>?_) (fun j1 hr=>?_)
 .refine rn tk 5 rfl<|bs 6 hr rfl (fun c2 hr=>?_) (fun c2 hr=>?_)
  .refine rn tk 2 rfl ?_;obtain ⟨v3,h4,hr⟩:=zaa hr;refine ug rfl rfl rfl<|cl (qqa _ _ h4) rfl rfl<|rn tk 3 rfl<|bs 12 hr rfl (fun c5 hr=>?_) (fun c5 hr=>?_)
   .refine rn tk 14 rfl ?_;cases hr;exact jn _ rfl rfl rfl
   refine rn tk 2 rfl<|ug rfl rfl rfl<|wn tk rfl rfl rfl<|rn tk 5 rfl<|bs 20 hr rfl (fun c6 hr=>?_) (fun c6 hr=>?_)
   .refine rn tk 6 rfl ?_;cases hr;exact jn _ rfl rfl rfl
   refine rn tk 2 rfl ?_;obtain ⟨v7,h8,hr⟩:=zaa hr;refine ug rfl rfl rfl<|cl (wAa _ _ h8) rfl rfl ?_;obtain ⟨v9,h10,hr⟩:=zaa hr;refine ug rfl rfl rfl<|cl (zWa _ _ h10) rfl rfl<|rn tk 2 rfl ?_;cases hr;exact jn _ rfl rfl rfl
  refine rn tk 8 rfl<|ug rfl rfl rfl<|wn tk rfl rfl rfl<|rn tk 5 rfl<|bs 20 hr rfl (fun c11 hr=>?_) (fun c11 hr=>?_)
  .refine rn tk 6 rfl ?_;cases hr;exact jn _ rfl rfl rfl
  refine rn tk 2 rfl ?_;obtain ⟨v12,h13,hr⟩:=zaa hr;refine ug rfl rfl rfl<|cl (wAa _ _ h13) rfl rfl ?_;obtain ⟨v14,h15,hr⟩:=zaa hr;refine ug rfl rfl rfl<|cl (zWa _ _ h15) rfl rfl<|rn tk 2 rfl ?_;cases hr;exact jn _ rfl rfl rfl
 refine ac 25 hr rfl (fun c16 hr=>?_) (fun c16 hr=>?_)
 .refine rn tk 7 rfl ?_;cases hr;exact kr tk (.inr rfl) rfl rfl
 refine rn tk 3 rfl<|jb hr (fun j17=>[(1,.ptr 1 0),(58,.bo j17)]) (fun j17=>[(1,.cells (zA2 a0))]) (fun j17 hr=>?_) (fun j17 hr=>?_)
 .refine rn tk 5 rfl<|bs 29 hr rfl (fun c18 hr=>?_) (fun c18 hr=>?_)
  .refine rn tk 4 rfl<|bs 33 hr rfl (fun c19 hr=>?_) (fun c19 hr=>?_)
   .refine rn tk 26 rfl ?_;cases hr;exact jn _ rfl rfl rfl
   refine rn tk 4 rfl<|bs 37 hr rfl (fun c20 hr=>?_) (fun c20 hr=>?_)
   .refine rn tk 4 rfl<|bs 41 hr rfl (fun c21 hr=>?_) (fun c21 hr=>?_)
    .refine rn tk 18 rfl ?_;cases hr;exact jn _ rfl rfl rfl
    refine rn tk 2 rfl<|ug rfl rfl rfl<|wn tk rfl rfl rfl<|rn tk 5 rfl<|bs 49 hr rfl (fun c22 hr=>?_) (fun c22 hr=>?_)
    .refine rn tk 10 rfl ?_;cases hr;exact jn _ rfl rfl rfl
    refine rn tk 3 rfl<|bs 52 hr rfl (fun c23 hr=>?_) (fun c23 hr=>?_)
    .refine rn tk 2 rfl<|ug rfl rfl rfl<|wn tk rfl rfl rfl<|rn tk 4 rfl ?_;cases hr;exact jn _ rfl rfl rfl
    refine rn tk 7 rfl ?_;cases hr;exact jn _ rfl rfl rfl
   refine rn tk 15 rfl<|bs 52 hr rfl (fun c24 hr=>?_) (fun c24 hr=>?_)
   .refine rn tk 2 rfl<|ug rfl rfl rfl<|wn tk rfl rfl rfl<|rn tk 4 rfl ?_;cases hr;exact jn _ rfl rfl rfl
   refine rn tk 7 rfl ?_;cases hr;exact jn _ rfl rfl rfl
  refine rn tk 8 rfl<|bs 37 hr rfl (fun c25 hr=>?_) (fun c25 hr=>?_)
  .refine rn tk 4 rfl<|bs 41 hr rfl (fun c26 hr=>?_) (fun c26 hr=>?_)
   .refine rn tk 18 rfl ?_;cases hr;exact jn _ rfl rfl rfl
   refine rn tk 2 rfl<|ug rfl rfl rfl<|wn tk rfl rfl rfl<|rn tk 5 rfl<|bs 49 hr rfl (fun c27 hr=>?_) (fun c27 hr=>?_)
   .refine rn tk 10 rfl ?_;cases hr;exact jn _ rfl rfl rfl
   refine rn tk 3 rfl<|bs 52 hr rfl (fun c28 hr=>?_) (fun c28 hr=>?_)
   .refine rn tk 2 rfl<|ug rfl rfl rfl<|wn tk rfl rfl rfl<|rn tk 4 rfl ?_;cases hr;exact jn _ rfl rfl rfl
   refine rn tk 7 rfl ?_;cases hr;exact jn _ rfl rfl rfl
  refine rn tk 15 rfl<|bs 52 hr rfl (fun c29 hr=>?_) (fun c29 hr=>?_)
  .refine rn tk 2 rfl<|ug rfl rfl rfl<|wn tk rfl rfl rfl<|rn tk 4 rfl ?_;cases hr;exact jn _ rfl rfl rfl
  refine rn tk 7 rfl ?_;cases hr;exact jn _ rfl rfl rfl
 refine ac 58 hr rfl (fun c30 hr=>?_) (fun c30 hr=>?_)
 .refine rn tk 7 rfl ?_;cases hr;exact kr tk (.inr rfl) rfl rfl
 refine rn tk 3 rfl<|jb hr (fun j31=>[(1,.ptr 1 0),(76,.bo j31)]) (fun j31=>[(1,.cells (zA2 a0))]) (fun j31 hr=>?_) (fun j31 hr=>?_)
 .refine rn tk 3 rfl<|wn tk rfl rfl rfl<|rn tk 4 rfl<|bs 65 hr rfl (fun c32 hr=>?_) (fun c32 hr=>?_)
  .refine rn tk 12 rfl ?_;cases hr;exact jn _ rfl rfl rfl
  refine rn tk 2 rfl ?_;obtain ⟨v33,h34,hr⟩:=zaa hr;refine ug rfl rfl rfl<|cl (q8a _ _ _ _ h34) rfl rfl<|rn tk 3 rfl<|bs 71 hr rfl (fun c35 hr=>?_) (fun c35 hr=>?_)
  .refine rn tk 6 rfl ?_;cases hr;exact jn _ rfl rfl rfl
  refine rn tk 2 rfl ?_;obtain ⟨v36,h37,hr⟩:=zaa hr;refine ug rfl rfl rfl<|cl (q8a _ _ _ _ h37) rfl rfl<|rn tk 3 rfl ?_;cases hr;exact jn _ rfl rfl rfl
 refine ac 76 hr rfl (fun c38 hr=>?_) (fun c38 hr=>?_)
 .refine rn tk 7 rfl ?_;cases hr;exact kr tk (.inr rfl) rfl rfl
 refine rn tk 3 rfl<|jb hr (fun j39=>[(1,.ptr 1 0),(95,.bo j39)]) (fun j39=>[(1,.cells (zA2 a0))]) (fun j39 hr=>?_) (fun j39 hr=>?_)
 .refine rn tk 3 rfl<|wn tk rfl rfl rfl<|rn tk 2 rfl<|bs 81 hr rfl (fun c40 hr=>?_) (fun c40 hr=>?_)
  .refine rn tk 10 rfl<|bs 91 hr rfl (fun c41 hr=>?_) (fun c41 hr=>?_)
   .refine rn tk 5 rfl ?_;cases hr;exact jn _ rfl rfl rfl
   refine rn tk 5 rfl ?_;cases hr;exact jn _ rfl rfl rfl
  refine rn tk 5 rfl<|bs 86 hr rfl (fun c42 hr=>?_) (fun c42 hr=>?_)
  .refine rn tk 5 rfl<|bs 91 hr rfl (fun c43 hr=>?_) (fun c43 hr=>?_)
   .refine rn tk 5 rfl ?_;cases hr;exact jn _ rfl rfl rfl
   refine rn tk 5 rfl ?_;cases hr;exact jn _ rfl rfl rfl
  refine rn tk 10 rfl ?_;cases hr;exact jn _ rfl rfl rfl
 refine ac 95 hr rfl (fun c44 hr=>?_) (fun c44 hr=>?_)
 .refine rn tk 7 rfl ?_;cases hr;exact kr tk (.inr rfl) rfl rfl
 refine rn tk 5 rfl ?_;obtain ⟨v45,h46,hr⟩:=zaa hr;refine cl (Wua _ _ h46) rfl rfl<|rn tk 4 rfl ?_;cases hr;exact kr tk (.inr rfl) rfl rfl
theorem q2a(a0:zea)(a1:UInt8)(r:zea)(hr:kca a0 a1=some r):RunS prog 39 [.ptr 90002000 0,.u8 a1] (zB0 a0 []) (.tup []) (zB0 r []) 90002000 [90002009,90002010,90002018,90002019]:=by
 unfold kca at hr;refine rfS (fn:=f39) (H:=90002999) (.ptr 90002000 0) ⟨func39,rfl,by kernel_rfl⟩ rfl (hasT rfl) (.inl ⟨rfl,rfl⟩) rfl rfl rfl rfl fun g0 hg S sg T=>?_
 refine rn tk 1 rfl<|dr 11 [(14,.i a0.Server.Size),(13,.ptr 90002000 1),(12,.ptr 90002000 0),(11,.ptr 90002000 0),(10,.ptr 90002000 0),(9,.i ((a0.Server.Data.length:Int))),(8,.hs 90002010 0),(7,.ptr 90002000 9),(6,.ptr 90002000 0),(5,.ptr 90002000 0),(4,.ptr 90002000 0)] mixed (by kernel_rfl) rfl rfl (pq tk rfl (.plain rfl) (pq tk rfl (.plain rfl) (pq tk rfl (.plain rfl) (pq tk rfl (.plain rfl) (pq tk rfl (.plain rfl) (.run (.plain rfl) (k9a (J7a (F:=cU) rfl rfl zka.u)) (pq tk rfl (.plain rfl) (pq tk rfl (.plain rfl) (pq tk rfl (.plain rfl) (pq tk rfl (.plain rfl) (pq tk rfl (.plain rfl) .nil))))))))))) rfl<|rn tk 3 rfl<|ac 15 hr rfl (fun c1 hr=>?_) (fun c1 hr=>?_)
 .refine rn tk 8 rfl<|wz cU ([a1]:List UInt8) tk rfl rfl (fun _=>rfl) rfl rfl rfl ?_;obtain ⟨v2,h3,hr⟩:=zaa hr;refine wa tk h3 rfl rfl rfl rfl (fun _=>rfl) rfl rfl<|rn tk 5 rfl ?_;cases hr;exact krS tk (.inl rfl) rfl rfl (zba rfl (zba rfl (zba rfl (zba rfl (zba rfl (zba rfl zga))))))
 refine rn tk 8 rfl<|wq (ev_min rfl rfl) rfl rfl rfl<|rn tk 5 rfl ?_;cases hr;exact krS tk (.inl rfl) rfl rfl (zba rfl (zba rfl (zba rfl (zba rfl (zba rfl (zba rfl zga))))))
theorem str_argN{g:G}{s:Str}{v:Value}(h:Rel g (.s s) v):v=.string (strB s):=kda h
theorem pow_tab {g : G} (hg : Gl g) : Lib.TabIs prog g.w "internal/strconv.uint64pow10" .u64 Lib.pow10Tab := by
 obtain ⟨t,fz,h⟩:=hg.2.1 (1,(Lib.pow10Tab.map fun z=>Value.int .u64 z).toArray) (by simp[globK]);have hn : prog.globalNamed "internal/strconv.uint64pow10" = some 1 := by kernel_rfl
 unfold Lib.TabIs World.var?;rw[hn];simp only[Option.bind_some];simp only at h;rw[h]
theorem wvb(g:G)(q:Nat)(os:Array Obj):Old (fun _=>False) g ⟨Go.Sort.grow (g.w.drewN q) os,g.u,g.loc⟩:=by
 have hb:∀k,k < g.w.heap.size->(Go.Sort.grow (g.w.drewN q) os).heap[k]? =g.w.heap[k]? :=by
  intro k hk;show (g.w.heap++os)[k]? =_;rw[Array.getElem?_append_left hk]
 refine ⟨rfl,rfl,rfl,⟨?_,fun _ _=>Nat.le_refl _,fun k i hk hi=>?_,fun r hr=>(hb r (z6a hr)).trans hr⟩,fun k hk _=>⟨hb k hk,rfl⟩⟩
 .show g.w.heap.size<=(g.w.heap++os).size;simp
 simp only[World.cell?];rw[hb k hk]
theorem vYa(n:Int)(r:Str)(hr:kba n=some r):Run prog 92 [.i n] (.s r):=by
 unfold kba at hr;split at hr
 case isFalse=>cases hr
 rename_i hlen;cases hr;refine ⟨⟨_,_,⟨func92,rfl,by kernel_rfl⟩⟩,fun g vs hw hg ha=>?_⟩;obtain ⟨hsz,hrel⟩:=ha;obtain ⟨l⟩:=vs
 match l,hsz with
 | [x],_=>
  have e2:x=.int .i64 n:=kda (hrel 0 _ rfl);subst e2;refine callsIn_wide.2 ((Tryz.strconv_Itoa n hlen.1 hlen.2 g.w (pow_tab hg)).mono ?_);rintro e w' ⟨rfl,q,os,rfl⟩;exact ⟨⟨Go.Sort.grow (g.w.drewN q) os,g.u,g.loc⟩,_,rfl,rfl,wvb g q os,fun k hk=>hw k (Nat.le_trans (wvb g q os).ext.size hk),rfl,.pv (.b rfl)⟩
theorem JUa(w:World):(callFunc 241 #[]).run prog w=.ok (.value (.tuple #[])) w:=run_call_mark0 func241 (by kernel_rfl) (by kernel_rfl) (by kernel_rfl) .disable (by kernel_rfl) w
theorem qib(w:World):(callFunc 243 #[]).run prog w=.ok (.value (.tuple #[])) w:=run_call_mark0 func243 (by kernel_rfl) (by kernel_rfl) (by kernel_rfl) .enable (by kernel_rfl) w
theorem yqb(a:Addr)(w:World):(callFunc 244 #[.pointer (some a)]).run prog w=.ok (.value (.tuple #[])) w:=run_call_marked func244 (by kernel_rfl) (by kernel_rfl) (by kernel_rfl) .acquire (by kernel_rfl) a w
theorem YOa(a:Addr)(w:World):(callFunc 246 #[.pointer (some a)]).run prog w=.ok (.value (.tuple #[])) w:=run_call_marked func246 (by kernel_rfl) (by kernel_rfl) (by kernel_rfl) .releaseMerge (by kernel_rfl) a w
theorem VZa(a:Addr)(x:Value)(u:FrameMode)(w:World)(hc:w.cell? a=some x)(hz:w.frozen? a=false):
 CallsD prog 217 #[.pointer (some a),.bool true] u w fun e u' w' =>u' =u/\(e=.returned (.tuple #[])/\w' =w.drew.setCell a (.int .u32 1)):=by
 have hc' :w.drew.cell? a=some x:=by go_simp
 have hz' :w.drew.frozen? a=false:=by go_simp
 have hst:=run_call_store (P:=prog) func232 (by kernel_rfl) (by kernel_rfl) (by kernel_rfl) (by kernel_rfl) (k:=.u32) (y:=1) hc' hz';go_enter_d func217,Tryz.ntmps217
 go_wp2
 go_region_calls
 all_goals (go_end0;exact ⟨rfl,rfl⟩)
theorem Vga(a:Addr)(u:FrameMode)(w:World)(hc:w.cell? a=some (.int .i32 1))(hz:w.frozen? a=false):
 CallsD prog 216 #[.pointer (some a)] u w fun e u' w' =>u' =u/\(e=.returned (.tuple #[])/\w' =w.setCell a (.int .i32 0)):=by
 have hd:=JUa;have he:=qib;have hr:=YOa;have hadd:=run_call_add (P:=prog) func247 (by kernel_rfl) (by kernel_rfl) (by kernel_rfl) .i32 (by kernel_rfl) (y:= -1) (s:=0) hc hz (by simp[go_sem];rfl);have hcv:=run_convert_to_unsafe (P:=prog) (src:=281) (dst:=278) underlying281 underlying278 (by kernel_rfl) hc;go_enter_d func216,Tryz.ntmps216
 go_wp2
 go_end0
 go_wp2
 all_goals (go_end0;all_goals exact ⟨rfl,rfl⟩)
theorem qjb(a:Addr)(w:World)(hc:w.cell? a=some (.int .i32 0))(hz:w.frozen? a=false):
 Calls prog 215 #[.pointer (some a)] w fun e w' =>e=.returned (.tuple #[])/\w' =w.setCell a (.int .i32 1):=by
 have hd:=JUa;have he:=qib;have ha:=yqb;have hcas:=run_call_cas_hit (P:=prog) func242 (by kernel_rfl) (by kernel_rfl) (by kernel_rfl) .i32 (by kernel_rfl) (y:=1) hc hz;have hc' :(w.setCell a (.int .i32 1)).cell? a=some (.int .i32 1):=World.cell?_setCell_same w a _ hc;have hcv:=run_convert_to_unsafe (P:=prog) (src:=281) (dst:=278) underlying281 underlying278 (by kernel_rfl) hc';go_enter func215,Tryz.ntmps215
 go_wp2
 first | go_end0 | (simp only[Exit.inBlock,Exit.then];refine bodyPost_ret (results_none rfl _ _ _) rfl ?_) | refine bodyPost_ret (results_none rfl _ _ _) rfl ?_
 go_wp2
 all_goals (go_end0;all_goals exact ⟨rfl,rfl⟩)
section
open Go.Shelf Go.RowKit Go.Lib Go.Proofs.Tryz
def kva:Array Value:=((List.range 256).map fun k:Nat=>Value.int .u8 (if k=0∨k=13 then 32 else (k:Int))).toArray
def wBa(i:Nat):Array Value:=((List.range 256).map fun k:Nat=>Value.int .u8 (if k < i then (k:Int) else 0)).toArray
structure RpLaid (P:Program):Prop where
 mixed:P.follows Departure.mixedOrders=true
 f:P.funcs[198]? =some f198
 t3:P.underlying 3=some (.int .i64)
 a3:∀w:World,(isAgg 3).run P w=.ok false w
 z3:∀w:World,(Go.sizeOf 3).run P w=.ok 1 w
 v3:∀w:World,(zeroValue 3).run P w=.ok (.int .i64 0) w
 t4:P.underlying 4=some .bool
 a4:∀w:World,(isAgg 4).run P w=.ok false w
 z4:∀w:World,(Go.sizeOf 4).run P w=.ok 1 w
 v4:∀w:World,(zeroValue 4).run P w=.ok (.bool false) w
 t5:P.underlying 5=some (.int .u8)
 a5:∀w:World,(isAgg 5).run P w=.ok false w
 z5:∀w:World,(Go.sizeOf 5).run P w=.ok 1 w
 v5:∀w:World,(zeroValue 5).run P w=.ok (.int .u8 0) w
 t9:P.underlying 9=some .string
 a9:∀w:World,(isAgg 9).run P w=.ok false w
 z9:∀w:World,(Go.sizeOf 9).run P w=.ok 1 w
 v9:∀w:World,(zeroValue 9).run P w=.ok (.string ⟨#[]⟩) w
 t91:P.underlying 26=some (.slice 9)
 a91:∀w:World,(isAgg 26).run P w=.ok false w
 z91:∀w:World,(Go.sizeOf 26).run P w=.ok 1 w
 v91:∀w:World,(zeroValue 26).run P w=.ok (.slice none 0 0) w
 t222:P.underlying 240=some (.array 256 5)
 t170 : P.underlying 190 = some (.struct #[{ name := "once", type := 186, offset := 0, embedded := false, tag := "", pkgPath := "strings", byteOffset := 0 }, { name := "r", type := 188, offset := 3, embedded := false, tag := "", pkgPath := "strings", byteOffset := 16 }, { name := "oldnew", type := 26, offset := 4, embedded := false, tag := "", pkgPath := "strings", byteOffset := 32 }])
 z166:∀w:World,(Go.sizeOf 186).run P w=.ok 3 w
 z168:∀w:World,(Go.sizeOf 188).run P w=.ok 1 w
 hv222:∀w:World,(zeroValue 240).run P w=.ok (.agg (wBa 0)) w
 c223:P.concrete 241=true
 z222:∀w:World,(Go.sizeOf 240).run P w=.ok 256 w
 hi222:(P.info? 240).map (·.size)=some 256
theorem rp_laid:RpLaid prog where
 mixed:=by kernel_rfl
 f:=func198
 t3:=underlying3
 a3:=isAgg3
 z3:=sizeOf3
 v3:=zeroValue3
 t4:=underlying4
 a4:=isAgg4
 z4:=sizeOf4
 v4:=zeroValue4
 t5:=underlying5
 a5:=isAgg5
 z5:=sizeOf5
 v5:=zeroValue5
 t9:=underlying9
 a9:=isAgg9
 z9:=sizeOf9
 v9:=zeroValue9
 t91:=underlying26
 a91:=isAgg26
 z91:=sizeOf26
 v91:=zeroValue26
 t222:=underlying240
 t170:=underlying190
 z166:=sizeOf186
 z168:=sizeOf188
 hv222:=fun w=>(zeroValue240 w).trans (by kernel_rfl)
 c223:=by kernel_rfl
 z222:=sizeOf240
 hi222:=by kernel_rfl
theorem JVa(i k:Nat)(h:k < 256):(wBa i)[k]? =some (.int .u8 (if k < i then (k:Int) else 0)):=by
 unfold wBa;simp only[List.getElem?_toArray,List.getElem?_map,List.getElem?_range h,Option.map_some]
theorem vvb(i:Nat)(h:i < 256):(wBa i).setIfInBounds i (.int .u8 (i:Int))=wBa (i+1):=by
 apply Array.ext_getElem?;intro k;rw[Array.getElem?_setIfInBounds];unfold wBa;simp only[List.getElem?_toArray,List.getElem?_map,List.size_toArray,List.length_map,List.length_range];by_cases hk:i=k
 .subst hk;rw[if_pos rfl,if_pos h,List.getElem?_range h];simp
 rw[if_neg hk];by_cases h2:k < 256
 .rw[List.getElem?_range h2];simp only[Option.map_some];have:(k < i)↔(k < i+1):=by omega
  simp only[this]
 rw[List.getElem?_eq_none (by simp;omega)];rfl
def wwb:Array Value:=(wBa 256).setIfInBounds 13 (.int .u8 32)
theorem yrb:wwb.setIfInBounds 0 (.int .u8 32)=kva:=by kernel_rfl
theorem rp_build{P:Program}(L:RpLaid P)(b d o c:Nat)(w:World)(hr:w.cell? ⟨b,4,none⟩=some (.slice (some ⟨d,o,none⟩) 4 c))(hd:d < w.heap.size)(h0:w.cell? ⟨d,o,none⟩=some (.string ⟨#[0]⟩))(h1:w.cell? ⟨d,o+1,none⟩=some (.string ⟨#[32]⟩))(h2:w.cell? ⟨d,o+2,none⟩=some (.string ⟨#[13]⟩))(h3:w.cell? ⟨d,o+3,none⟩=some (.string ⟨#[32]⟩)):
 Calls P 198 #[.pointer (some ⟨b,0,none⟩)] w fun e w' =>e=.returned (.iface 241 (.pointer (some ⟨w.heap.size,0,none⟩)))/\w' =w.alloc (.cells kva 240):=by
 have t3:=L.t3;have a3:=L.a3;have z3:=L.z3;have v3:=L.v3;have t4:=L.t4;have a4:=L.a4;have z4:=L.z4;have v4:=L.v4;have t5:=L.t5;have a5:=L.a5;have z5:=L.z5;have v5:=L.v5;have t9:=L.t9;have a9:=L.a9;have z9:=L.z9;have v9:=L.v9;have t91:=L.t91;have a91:=L.a91;have z91:=L.z91;have v91:=L.v91;have t170:=L.t170;have z166:=L.z166;have z168:=L.z168;have hv222:=L.hv222;have u222:=run_underlying L.t222;have t222:=L.t222;have u170:=run_underlying L.t170;have u91:=run_underlying L.t91;have u9:=run_underlying L.t9;have u5:=run_underlying L.t5;have u3:=run_underlying L.t3;have u4:=run_underlying L.t4;have hmk:∀(x:Value) (w:World),(Instr.makeInterface 241 x).run P w=.ok (.iface 241 x) w:=fun x w=>run_makeInterface w _ x L.c223
 go_enter L.f,Tryz.ntmps198
 go_wp2
 go_loopg [4,5] 2 (fun g v4 v5 wx=>v4=.bool true/\wx=w/\((g=2/\v5=.int .i64 0)∨(g=1/\v5=.int .i64 2)∨(g=0/\v5=.int .i64 4)))
 case atStart=>exact ⟨rfl,rfl,.inl ⟨rfl,rfl⟩⟩
 case round=>
  obtain ⟨rfl,rfl,hg⟩:=hrel;rcases hg with ⟨rfl,rfl⟩ | ⟨rfl,rfl⟩ | ⟨rfl,rfl⟩
  .go_wp2
   go_roundg 1
   case measure=>omega
   case rel=>exact ⟨rfl,rfl,.inr (.inl ⟨rfl,rfl⟩)⟩
  .go_wp2
   go_roundg 0
   case measure=>omega
   case rel=>exact ⟨rfl,rfl,.inr (.inr ⟨rfl,rfl⟩)⟩
  have hsz:(wBa 0).size=256:=by simp[wBa]
  have hsc:=run_storeCells_new (P:=P) wr 240 (wBa 0) (wBa 0) (by rw[hsz];exact L.hi222) rfl (by decide+kernel);go_wp2
  simp only[L.z222,Result.andThen,↓reduceIte,hsc];rw[Oper.upon_skip];go_wp2
  have k0:∀A:Array Value,(wr.alloc (.cells A 240)).cell? ⟨d,o,none⟩=some (.string ⟨#[0]⟩):=fun A=>by rw[World.cell?_alloc_past _ _ _ hd];exact h0
  have k1:∀A:Array Value,(wr.alloc (.cells A 240)).cell? ⟨d,o+1,none⟩=some (.string ⟨#[32]⟩):=fun A=>by rw[World.cell?_alloc_past _ _ _ hd];exact h1
  have k2:∀A:Array Value,(wr.alloc (.cells A 240)).cell? ⟨d,o+2,none⟩=some (.string ⟨#[13]⟩):=fun A=>by rw[World.cell?_alloc_past _ _ _ hd];exact h2
  have k3:∀A:Array Value,(wr.alloc (.cells A 240)).cell? ⟨d,o+3,none⟩=some (.string ⟨#[32]⟩):=fun A=>by rw[World.cell?_alloc_past _ _ _ hd];exact h3
  go_loopg [61] 256 (fun g v61 wx=>∃i:Nat,i+g=256/\v61=.int .i64 i/\wx=wr.alloc (.cells (wBa i) 240))
  case atStart=>exact ⟨0,rfl,rfl,rfl⟩
  case round=>
   obtain ⟨i,hig,rfl,rfl⟩:=hrel;cases gk with
   | zero=>
    obtain rfl:i=256:=by omega
    have c13:=JVa 256 13 (by omega);have m0:wwb[0]? =some (.int .u8 0):=by kernel_rfl
    have hm1:(wBa 256).setIfInBounds 13 (.int .u8 32)=wwb:=rfl;have hm2:=yrb;go_wp2
    go_loopg [8] 2 (fun g v8 wx=>(g=2/\v8=.int .i64 2/\wx=wr.alloc (.cells (wBa 256) 240))∨(g=1/\v8=.int .i64 0/\wx=wr.alloc (.cells wwb 240))∨(g=0/\v8=.int .i64 (-2)/\wx=wr.alloc (.cells kva 240)))
    case atStart=>exact .inl ⟨rfl,rfl,rfl⟩
    case round=>
     rcases hrel with ⟨rfl,rfl,rfl⟩ | ⟨rfl,rfl,rfl⟩ | ⟨rfl,rfl,rfl⟩
     .go_wp2
      go_roundg 1
      case measure=>omega
      case rel=>exact .inr (.inl ⟨rfl,rfl,by first | rfl | rw[hm1]⟩)
     .go_wp2
      go_roundg 0
      case measure=>omega
      case rel=>exact .inr (.inr ⟨rfl,rfl,by first | rfl | rw[hm2]⟩)
     go_wp2
     go_ret
     exact ⟨rfl,rfl⟩
   | succ g=>
    have hi:(i:Int) < 256:=by omega
    have hset:=vvb i (by omega);have hcell:=JVa i i (by omega);go_wp2
    go_roundg g
    case measure=>omega
    case rel=>exact ⟨i+1,by omega,by first | rfl | simp,by first | rfl | rw[hset]⟩
end
section
open Go.Shelf Go.RowKit Go.Lib Go.Proofs.Tryz
abbrev bI(A:Nat):Value:=.iface 241 (.pointer (some ⟨A,0,none⟩))
theorem vpa{b i j:Nat}(h:i≠j):(⟨b,i,none⟩:Addr)≠⟨b,j,none⟩:=fun e=>h (by cases e;rfl)
theorem JWa{b c i j:Nat}(h:b≠c):(⟨b,i,none⟩:Addr)≠⟨c,j,none⟩:=fun e=>h (by cases e;rfl)
structure ysb (w:World) (b d o c:Nat):Prop where
 hb:b < w.heap.size
 hd:d < w.heap.size
 ne:b≠d
 c0:w.cell? ⟨b,0,none⟩=some (.int .u32 0)
 c1:w.cell? ⟨b,1,none⟩=some (.int .i32 0)
 c3:w.cell? ⟨b,3,none⟩=some .nilIface
 c4:w.cell? ⟨b,4,none⟩=some (.slice (some ⟨d,o,none⟩) 4 c)
 fz:∀i,w.frozen? ⟨b,i,none⟩=false
 s0:w.cell? ⟨d,o,none⟩=some (.string ⟨#[0]⟩)
 s1:w.cell? ⟨d,o+1,none⟩=some (.string ⟨#[32]⟩)
 s2:w.cell? ⟨d,o+2,none⟩=some (.string ⟨#[13]⟩)
 s3:w.cell? ⟨d,o+3,none⟩=some (.string ⟨#[32]⟩)
theorem rp_once(b d o c:Nat)(w:World)(hb:b < w.heap.size)(hd:d < w.heap.size)(c3:w.cell? ⟨b,3,none⟩=some .nilIface)(c4:w.cell? ⟨b,4,none⟩=some (.slice (some ⟨d,o,none⟩) 4 c))(fz:∀i,w.frozen? ⟨b,i,none⟩=false)
 (s0:w.cell? ⟨d,o,none⟩=some (.string ⟨#[0]⟩)) (s1:w.cell? ⟨d,o+1,none⟩=some (.string ⟨#[32]⟩)) (s2:w.cell? ⟨d,o+2,none⟩=some (.string ⟨#[13]⟩)) (s3:w.cell? ⟨d,o+3,none⟩=some (.string ⟨#[32]⟩)):
 Calls prog 179 #[.pointer (some ⟨b,0,none⟩)] w fun e w' =>e=.returned (.tuple #[])/\
  w' =((w.setCell ⟨b,3,none⟩ (bI w.heap.size)).setCell ⟨b,4,none⟩ (.slice none 0 0)).alloc (.cells kva 240):=by
 have a3:(w.alloc (.cells kva 240)).cell? ⟨b,3,none⟩=some .nilIface:=by rw[World.cell?_alloc_past _ _ _ hb];exact c3
 have z3:(w.alloc (.cells kva 240)).frozen? ⟨b,3,none⟩=false:=by rw[World.frozen?_alloc_past _ _ _ hb];exact fz 3
 have a4:((w.alloc (.cells kva 240)).setCell ⟨b,3,none⟩ (bI w.heap.size)).cell? ⟨b,4,none⟩=some (.slice (some ⟨d,o,none⟩) 4 c):=by rw[World.cell?_setCell_other _ _ _ _ (vpa (by decide)),World.cell?_alloc_past _ _ _ hb];exact c4
 have z4:((w.alloc (.cells kva 240)).setCell ⟨b,3,none⟩ (bI w.heap.size)).frozen? ⟨b,4,none⟩=false:=by
  have:=fz 4;have h2:(w.alloc (.cells kva 240)).frozen? ⟨b,4,none⟩=false:=by rw[World.frozen?_alloc_past _ _ _ hb];exact this
  simp[h2]
 go_enter func179,Tryz.ntmps179
 go_wp2_with (go_at_call 198;refine (rp_build rp_laid b d o c _ c4 hd s0 s1 s2 s3).mono ?_;rintro e w' ⟨rfl,rfl⟩)
 go_end0
 exact ⟨rfl,rfl⟩
theorem wxb(a:Addr)(w:World)(h:w.cell? a=some (.int .u32 0)):Calls prog 196 #[.pointer (some a)] w fun e w' =>e=.returned (.bool false)/\w' =w:=by
 have hl:=run_call_load (P:=prog) func214 (by kernel_rfl) (by kernel_rfl) (by kernel_rfl) .u32 (by kernel_rfl) h;go_enter func196,Tryz.ntmps196
 go_wp2
 go_ret
 exact ⟨rfl,rfl⟩
theorem rp_load1(a:Addr)(w:World)(h:w.cell? a=some (.int .u32 1)):Calls prog 196 #[.pointer (some a)] w fun e w' =>e=.returned (.bool true)/\w' =w:=by
 have hl:=run_call_load (P:=prog) func214 (by kernel_rfl) (by kernel_rfl) (by kernel_rfl) .u32 (by kernel_rfl) h;go_enter func196,Tryz.ntmps196
 go_wp2
 go_ret
 exact ⟨rfl,rfl⟩
def ranW(b:Nat)(w:World):World:=(((((w.setCell ⟨b,1,none⟩ (.int .i32 1)).setCell ⟨b,3,none⟩ (bI w.heap.size)).setCell ⟨b,4,none⟩ (.slice none 0 0)).alloc (.cells kva 240)).drew.setCell ⟨b,0,none⟩ (.int .u32 1)).setCell ⟨b,1,none⟩ (.int .i32 0)
theorem rp_slow(b d o c:Nat)(w:World)(F:ysb w b d o c):
 Calls prog 197 #[.pointer (some ⟨b,0,none⟩),.func (.func 179) #[.pointer (some ⟨b,0,none⟩)] #[]] w fun e w' =>e=.returned (.tuple #[])/\w' =ranW b w:=by
 have hw1:(w.setCell ⟨b,1,none⟩ (.int .i32 1)).heap.size=w.heap.size:=by simp
 have hl:(w.setCell ⟨b,1,none⟩ (.int .i32 1)).cell? ⟨b,0,none⟩=some (.int .u32 0):=(World.cell?_setCell_other _ ⟨b,1,none⟩ ⟨b,0,none⟩ _ (by simp)).trans F.c0;have ho:Calls prog 179 #[.pointer (some ⟨b,0,none⟩)] (w.setCell ⟨b,1,none⟩ (.int .i32 1)) fun e w' =>e=.returned (.tuple #[])/\
  w' =(((w.setCell ⟨b,1,none⟩ (.int .i32 1)).setCell ⟨b,3,none⟩ (bI w.heap.size)).setCell ⟨b,4,none⟩ (.slice none 0 0)).alloc (.cells kva 240):=by
  have h:=rp_once b d o c (w.setCell ⟨b,1,none⟩ (.int .i32 1)) (by rw[hw1];exact F.hb) (by rw[hw1];exact F.hd) ((World.cell?_setCell_other _ _ _ _ (vpa (by decide))).trans F.c3) ((World.cell?_setCell_other _ _ _ _ (vpa (by decide))).trans F.c4) (fun i=>by have:=F.fz i;simp[this])
   ((World.cell?_setCell_other _ _ _ _ (JWa F.ne)).trans F.s0) ((World.cell?_setCell_other _ _ _ _ (JWa F.ne)).trans F.s1) ((World.cell?_setCell_other _ _ _ _ (JWa F.ne)).trans F.s2) ((World.cell?_setCell_other _ _ _ _ (JWa F.ne)).trans F.s3)
  rw[hw1]at h;exact h
 have hnot:∀(x:Bool) (w:World),(Op.unary .not (.bool x)).run prog w=.ok (.bool (!x)) w:=fun _ _=>rfl
 have h1:=F.c1;have f1:=F.fz 1;go_enter_defers func197,Tryz.ntmps197
 go_wp2_with (first | (go_at_call 215;refine (qjb ⟨b,1,none⟩ _ (by go_simp) (by go_simp)).mono ?_;rintro e w' ⟨rfl,rfl⟩) | (go_at_call 196;refine (wxb ⟨b,0,none⟩ _ hl).mono ?_;rintro e w' ⟨rfl,rfl⟩) | (go_at_call 179;refine ho.mono ?_;rintro e w' ⟨rfl,rfl⟩))
 go_wp2
 have hA0:((((w.setCell ⟨b,1,none⟩ (.int .i32 1)).setCell ⟨b,3,none⟩ (bI w.heap.size)).setCell ⟨b,4,none⟩ (.slice none 0 0)).alloc (.cells kva 240)).cell? ⟨b,0,none⟩=some (.int .u32 0):=by
  rw[World.cell?_alloc_past _ _ _ (by simp;exact F.hb),World.cell?_setCell_other _ _ _ _ (vpa (by decide)),World.cell?_setCell_other _ _ _ _ (vpa (by decide)),World.cell?_setCell_other _ _ _ _ (vpa (by decide))];exact F.c0
 have hA1:((((w.setCell ⟨b,1,none⟩ (.int .i32 1)).setCell ⟨b,3,none⟩ (bI w.heap.size)).setCell ⟨b,4,none⟩ (.slice none 0 0)).alloc (.cells kva 240)).cell? ⟨b,1,none⟩=some (.int .i32 1):=by
  rw[World.cell?_alloc_past _ _ _ (by simp;exact F.hb),World.cell?_setCell_other _ _ _ _ (vpa (by decide)),World.cell?_setCell_other _ _ _ _ (vpa (by decide))];exact World.cell?_setCell_same w _ _ h1
 have hZ:∀i,((((w.setCell ⟨b,1,none⟩ (.int .i32 1)).setCell ⟨b,3,none⟩ (bI w.heap.size)).setCell ⟨b,4,none⟩ (.slice none 0 0)).alloc (.cells kva 240)).frozen? ⟨b,i,none⟩=false:=fun i=>by
  have:=F.fz i;rw[World.frozen?_alloc_past _ _ _ (by simp;exact F.hb)];simp[this]
 refine leaves_cons (f:=217) (args:= #[.pointer (some ⟨b,0,none⟩),.bool true]) (by simp) (by simp[go_sem])<|(VZa ⟨b,0,none⟩ (.int .u32 0) .returning _ hA0 (hZ 0)).mono ?_;rintro e u' w'' ⟨rfl,rfl,rfl⟩;refine leaves_cons (f:=216) (args:= #[.pointer (some ⟨b,1,none⟩)]) (by simp[settle]) (by simp[go_sem])<|(Vga ⟨b,1,none⟩ _ _ ?_ ?_).mono ?_
 .rw[World.cell?_setCell_other _ _ _ _ (vpa (by decide)),World.cell?_drew];exact hA1
 .have:=hZ 1;simp at this ⊢;exact this
 rintro e u' w'' ⟨rfl,rfl,rfl⟩;simp[Leaves,settle,results,Tryz.results197,ranW]
end
section
open Go.Shelf Go.RowKit Go.Lib Go.Proofs.Tryz
theorem vwb(b d o c:Nat)(w:World)(F:ysb w b d o c):
 Calls prog 178 #[.pointer (some ⟨b,0,none⟩),.func (.func 179) #[.pointer (some ⟨b,0,none⟩)] #[]] w fun e w' =>e=.returned (.tuple #[])/\w' =ranW b w:=by
 have hnot:∀(x:Bool) (w:World),(Op.unary .not (.bool x)).run prog w=.ok (.bool (!x)) w:=fun _ _=>rfl
 go_enter func178,Tryz.ntmps178
 go_wp2_with (first | (go_at_call 196;refine (wxb ⟨b,0,none⟩ _ F.c0).mono ?_;rintro e w' ⟨rfl,rfl⟩) | (go_at_call 197;refine (rp_slow b d o c _ F).mono ?_;rintro e w' ⟨rfl,rfl⟩))
 go_end0
 exact ⟨rfl,rfl⟩
theorem ytb(b:Nat)(fv:Value)(w:World)(h:w.cell? ⟨b,0,none⟩=some (.int .u32 1)):
 Calls prog 178 #[.pointer (some ⟨b,0,none⟩),fv] w fun e w' =>e=.returned (.tuple #[])/\w' =w:=by
 have hnot:∀(x:Bool) (w:World),(Op.unary .not (.bool x)).run prog w=.ok (.bool (!x)) w:=fun _ _=>rfl
 go_enter func178,Tryz.ntmps178
 go_wp2_with (go_at_call 196;refine (rp_load1 ⟨b,0,none⟩ _ h).mono ?_;rintro e w' ⟨rfl,rfl⟩)
 go_end0
 exact ⟨rfl,rfl⟩
def mixL(L:List UInt8)(i:Nat):List UInt8:=(L.take i).map kka++L.drop i
theorem mix_zero(L:List UInt8):mixL L 0=L:=by simp[mixL]
theorem ZKb(L:List UInt8):mixL L L.length=L.map kka:=by simp[mixL]
theorem vxb(L:List UInt8)(i:Nat):(mixL L i).length=L.length:=by simp[mixL];omega
theorem ZLb{L:List UInt8}{i:Nat}{x:UInt8}(h:L[i]? =some x):(mixL L i)[i]? =some x:=by
 have hi:=(List.getElem?_eq_some_iff.1 h).1;unfold mixL;rw[List.getElem?_append_right (by simp;omega)];simp only[List.length_map,List.length_take,List.getElem?_drop];rw[show i+(i - min i L.length)=i by omega];exact h
theorem z1b{L:List UInt8}{i:Nat}{x:UInt8}(h:L[i]? =some x):mixL L (i+1)=(mixL L i).set i (kka x):=by
 have hi:=(List.getElem?_eq_some_iff.1 h).1;have hx:=(List.getElem?_eq_some_iff.1 h).2;unfold mixL;rw[List.set_append_right _ _ (by simp;omega)];simp only[List.length_map,List.length_take];rw[show i - min i L.length=0 by omega,List.take_add_one,h,List.drop_eq_getElem_cons hi,hx];simp
theorem wyb{L:List UInt8}{i:Nat}{x:UInt8}(h:L[i]? =some x)(hc:kka x=x):mixL L (i+1)=mixL L i:=by
 rw[z1b h,hc];apply List.ext_getElem?;intro j;rw[List.getElem?_set];by_cases e:i=j
 .subst e;rw[if_pos rfl,if_pos (by rw[vxb];exact (List.getElem?_eq_some_iff.1 h).1),ZLb h]
 rw[if_neg e]
theorem JXa{x:UInt8}(h:((kka x).toNat:Int)=(x.toNat:Int)):kka x=x:=UInt8.toNat_inj.1 (by omega)
def V0a(C:Array Value)(l:List UInt8):Prop:=∀(j:Nat) x,l[j]? =some x->C[j]? =some (.int .u8 (x.toNat:Int))
theorem qkb{C:Array Value}{l:List UInt8}{i:Nat}{y:UInt8}(h:V0a C l)(hi:i < l.length):V0a (C.setIfInBounds i (.int .u8 (y.toNat:Int))) (l.set i y):=by
 intro j x hx;have hC:=h i _ (List.getElem?_eq_getElem hi);have hsz:=(Array.getElem?_eq_some_iff.1 hC).1;rw[List.getElem?_set]at hx;rw[Array.getElem?_setIfInBounds];by_cases e:i=j
 .subst e;rw[if_pos rfl,if_pos hi]at hx;cases hx;rw[if_pos rfl,if_pos hsz]
 rw[if_neg e]at hx ⊢;exact h j x hx
theorem vyb(s:ByteArray)(cap:Nat):V0a (bytesRow s cap) s.data.toList:=by
 intro j x hx;have hj:=(List.getElem?_eq_some_iff.1 hx).1;unfold bytesRow;rw[Array.getElem?_append_left (by simpa using hj)];simp only[Array.getElem?_map];rw[show s.data[j]? =some x by simpa using hx];rfl
theorem Wha(w:World)(C:Array Value)(t:TypeId)(fz:Nat × Nat)(i:Nat)(v:Value):(w.alloc (.cells C t fz)).setCell ⟨w.heap.size,i,none⟩ v=w.alloc (.cells (C.setIfInBounds i v) t fz):=by
 unfold World.setCell World.alloc
 congr 1
 apply Array.ext_getElem?;intro k;simp only[Array.getElem?_modify,Array.getElem?_push];by_cases hk:k=w.heap.size
 .subst hk;simp
 simp[hk,Ne.symm hk]
theorem wzb(A:Nat)(s:ByteArray)(w:World)(hlen:s.size<=4611686018427387904)(hA:A < w.heap.size)(ht:∀x:UInt8,w.cell? ⟨A,x.toNat,none⟩=some (.int .u8 ((kka x).toNat:Int))):
 Calls prog 282 #[.pointer (some ⟨A,0,none⟩),.string s] w fun e w' =>e=.returned (.string ⟨(s.data.toList.map kka).toArray⟩)/\(w' =w∨∃C fz,w' =(w.alloc (.cells C 5 fz)).drew):=by
 have HT:Aside (∀x:UInt8,w.cell? ⟨A,x.toNat,none⟩=some (.int .u8 ((kka x).toNat:Int))):=ht;clear ht;have HT2:Aside (∀(x:UInt8) (C:Array Value) (fz:Nat × Nat),(w.alloc (.cells C 5 fz)).cell? ⟨A,x.toNat,none⟩=some (.int .u8 ((kka x).toNat:Int))):=fun x C fz=>by
  rw[World.cell?_alloc_past _ _ _ hA];exact HT.out x
 have hcv:(convert 9 23 (.string s)).run prog w=.ok (.slice (some ⟨w.heap.size,0,none⟩) s.size (grownCap w s.size 0 5))
  (w.alloc (.cells (bytesRow s (grownCap w s.size 0 5)) 5 ((bytesRow s (grownCap w s.size 0 5)).size,(bytesRow s (grownCap w s.size 0 5)).size+1))).drew:=run_bytes_of_string (P:=prog) w 9 23 5 s underlying9 underlying23 underlying5
 have hn1:∀w:World,(binOp .eql 23 (.slice none 0 0) (.slice none 0 0)).run prog w=.ok (.bool true) w:=fun w=>by
  simp only[binOp];simp[run_equal_slice_nil w 23 5 none 0 0 underlying23]
 have hn2:∀(a:Addr) (l c:Nat) (w:World),(binOp .eql 23 (.slice (some a) l c) (.slice none 0 0)).run prog w=.ok (.bool false) w:=fun a l c w=>by
  simp only[binOp];simp[run_equal_slice_nil w 23 5 (some a) l c underlying23]
 have hL:Lib.Kept (s.data.toList.length=s.size):=rfl;go_enter func282,Tryz.ntmps282
 go_wp2
 go_loopg [5,6] s.size (fun g v5 v6 wx=>∃i:Nat,i+g=s.size/\v6=.int .i64 i/\((v5=.slice none 0 0/\wx=w/\Lib.Kept (mixL s.data.toList i=s.data.toList))∨∃C cap lo hi,v5=.slice (some ⟨w.heap.size,0,none⟩) s.size cap/\wx=(w.alloc (.cells C 5 (lo,hi))).drew/\Lib.Kept (lo=C.size)/\Lib.Kept (V0a C (mixL s.data.toList i))))
 case atStart=>exact ⟨0,by omega,rfl,.inl ⟨rfl,rfl,mix_zero _⟩⟩
 case round=>
  obtain ⟨i,hig,rfl,hrel⟩:=hrel;cases gk with
  | zero=>
   obtain rfl:i=s.size:=by omega
   have hiz:¬((s.size:Int) < (s.size:Int)):=by omega
   rcases hrel with ⟨rfl,rfl,hk⟩ | ⟨C,cap,lo,hi,rfl,rfl,hz,hrow⟩
   .go_wp2
    go_ret
    refine ⟨?_,.inl rfl⟩;have hk' :mixL s.data.toList s.size=s.data.toList:=hk;rw[show s.size=s.data.toList.length from rfl,ZKb]at hk';rw[hk'];show Ending.returned (Value.string s)=Ending.returned (Value.string ⟨s.data.toList.toArray⟩);simp
   have hback:=run_convert_bytes_back (P:=prog) ((w.alloc (.cells C 5 (lo,hi))).drew) 23 9 5 ⟨w.heap.size,0,none⟩ cap (s.data.toList.map kka) underlying23 underlying5 underlying9 (fun j hj=>by
    have hr:V0a C (mixL s.data.toList s.size):=hrow;rw[show s.size=s.data.toList.length from rfl,ZKb]at hr;have:=hr j _ (List.getElem?_eq_getElem hj);rw[show (⟨w.heap.size,0,none⟩:Addr).add j=⟨w.heap.size,j,none⟩ by unfold Addr.add;split <;> simp_all];rw[World.cell?_drew,World.cell?_alloc_mark];exact this)
   rw[show (s.data.toList.map kka).length=s.size by simp]at hback;clear hrow hz;go_wp2
   go_ret
   first | exact ⟨rfl,.inr ⟨C,(lo,hi),rfl⟩⟩ | exact ⟨rfl,.inr ⟨C,lo,hi,rfl⟩⟩
  | succ g=>
   have hi:i < s.size:=by omega
   have hiz:(i:Int) < (s.size:Int):=by omega
   obtain ⟨x,hx⟩:∃x:UInt8,s[i]'hi=x:=⟨_,rfl⟩;have hxl:Lib.Kept (s.data.toList[i]? =some x):=by rw[<-hx];exact Lib.data_getElem? s i hi
   have hx256:(x.toNat:Int) < 256:=by have:=UInt8.toNat_lt x;omega
   have hwr:wrap64 ((i:Int)+1)=((i:Int)+1):=by unfold wrap64;omega
   rcases hrel with ⟨rfl,rfl,hk⟩ | ⟨C,cap,lo,hi2,rfl,rfl,hz,hrow⟩
   .have hcell:=HT.out x;by_cases hcl:((kka x).toNat:Int)=(x.toNat:Int)
    .go_wp2
     go_roundg g
     case measure=>omega
     case rel=>exact ⟨i+1,by omega,by first | rfl | simp,.inl ⟨rfl,rfl,(wyb hxl (JXa hcl)).trans hk⟩⟩
    have hrow:Lib.Kept (V0a (bytesRow s (grownCap wr s.size 0 5)) (mixL s.data.toList i)):=by
     have hk' :mixL s.data.toList i=s.data.toList:=hk;rw[hk'];exact vyb s _
    generalize bytesRow s (grownCap wr s.size 0 5)=B at hcv hrow;have hBi:B[i]? =some (.int .u8 (x.toNat:Int)):=by
     have hr:V0a B (mixL s.data.toList i):=hrow;exact hr i x (ZLb hxl)
    have hBs:i < B.size:=(Array.getElem?_eq_some_iff.1 hBi).1;have hc2:=HT2.out x B (B.size,B.size+1);have hc1:(wr.alloc (.cells B 5 (B.size,B.size+1))).cell? ⟨wr.heap.size,i,none⟩=some (.int .u8 (x.toNat:Int)):=(World.cell?_alloc_mark wr B 5 _ i).trans hBi;have hf1:(wr.alloc (.cells B 5 (B.size,B.size+1))).frozen? ⟨wr.heap.size,i,none⟩=false:=(World.frozen?_alloc_mark wr B 5 _ _ i).trans (by rw[decide_eq_false (by omega)];rfl);have hs1:=Wha wr B 5 (B.size,B.size+1) i (.int .u8 ((kka x).toNat:Int));have HB:Lib.Kept (B[i]? =some (.int .u8 (x.toNat:Int))):=hBi;clear hBi hBs hk;go_wp2
    go_roundg g
    case measure=>omega
    case rel=>
     refine ⟨i+1,by omega,by first | rfl | simp,.inr ⟨_,_,_,_,rfl,by first | rfl | exact congrArg World.drew hs1,?_,?_⟩⟩
     .show B.size=(B.setIfInBounds i _).size;simp
     have hr:V0a B (mixL s.data.toList i):=hrow;show V0a _ (mixL s.data.toList (i+1));rw[z1b hxl];exact qkb hr (by rw[vxb];exact hi)
   have hBi:C[i]? =some (.int .u8 (x.toNat:Int)):=by
    have hr:V0a C (mixL s.data.toList i):=hrow;exact hr i x (ZLb hxl)
   have hBs:i < C.size:=(Array.getElem?_eq_some_iff.1 hBi).1;have hz' :lo=C.size:=hz;have hc2:=HT2.out x C (lo,hi2);have hc1:(w.alloc (.cells C 5 (lo,hi2))).cell? ⟨w.heap.size,i,none⟩=some (.int .u8 (x.toNat:Int)):=(World.cell?_alloc_mark w C 5 _ i).trans hBi;have hf1:(w.alloc (.cells C 5 (lo,hi2))).frozen? ⟨w.heap.size,i,none⟩=false:=(World.frozen?_alloc_mark w C 5 _ _ i).trans (by rw[decide_eq_false (by omega)];rfl);have hs1:=Wha w C 5 (lo,hi2) i (.int .u8 ((kka x).toNat:Int));clear hBi hBs hz';by_cases hcl:((kka x).toNat:Int)=(x.toNat:Int)
   .go_wp2
    go_roundg g
    case measure=>omega
    case rel=>
     refine ⟨i+1,by omega,by first | rfl | simp,.inr ⟨C,cap,lo,hi2,rfl,rfl,hz,?_⟩⟩;show V0a C (mixL s.data.toList (i+1));rw[wyb hxl (JXa hcl)];exact hrow
   go_wp2
   go_roundg g
   case measure=>omega
   case rel=>
    refine ⟨i+1,by omega,by first | rfl | simp,.inr ⟨_,_,_,_,rfl,by first | rfl | exact congrArg World.drew hs1,?_,?_⟩⟩
    .show lo=(C.setIfInBounds i _).size;rw[Array.size_setIfInBounds];exact hz
    have hr:V0a C (mixL s.data.toList i):=hrow;show V0a _ (mixL s.data.toList (i+1));rw[z1b hxl];exact qkb hr (by rw[vxb];exact hi)
end
section
open Go.Shelf Go.RowKit Go.Lib Go.Proofs.Tryz
structure Built (w:World) (b A:Nat):Prop where
 hb:b < w.heap.size
 hA:A < w.heap.size
 c0:w.cell? ⟨b,0,none⟩=some (.int .u32 1)
 c3:w.cell? ⟨b,3,none⟩=some (bI A)
 tab:∀x:UInt8,w.cell? ⟨A,x.toNat,none⟩=some (.int .u8 ((kka x).toNat:Int))
def ranT(T:Array Value)(b:Nat)(w:World):World:=(((((w.setCell ⟨b,1,none⟩ (.int .i32 1)).setCell ⟨b,3,none⟩ (bI w.heap.size)).setCell ⟨b,4,none⟩ (.slice none 0 0)).alloc (.cells T 240)).drew.setCell ⟨b,0,none⟩ (.int .u32 1)).setCell ⟨b,1,none⟩ (.int .i32 0)
theorem qlb(b:Nat)(w:World):ranW b w=ranT kva b w:=rfl
theorem same0{w:World}{a:Addr}{v v0:Value}(h:w.cell? a=some v0):(w.setCell a v).cell? a=some v:=World.cell?_setCell_same w a v h
theorem JYa{b:Nat}{w:World}(T:Array Value)(hb:b < w.heap.size)(c0:w.cell? ⟨b,0,none⟩=some (.int .u32 0))(c3:w.cell? ⟨b,3,none⟩=some .nilIface):
 (ranT T b w).heap.size=w.heap.size+1/\(ranT T b w).cell? ⟨b,0,none⟩=some (.int .u32 1)/\(ranT T b w).cell? ⟨b,3,none⟩=some (bI w.heap.size)/\∀k,(ranT T b w).cell? ⟨w.heap.size,k,none⟩=T[k]? :=by
 have hne:b≠w.heap.size:=by omega
 refine ⟨by unfold ranT;simp,?_,?_,fun k=>?_⟩
 .unfold ranT;rw[World.cell?_setCell_other _ _ _ _ (vpa (by decide))];refine same0 (v0:=.int .u32 0) ?_;rw[World.cell?_drew,World.cell?_alloc_past _ _ _ (by simp;exact hb),World.cell?_setCell_other _ _ _ _ (vpa (by decide)),World.cell?_setCell_other _ _ _ _ (vpa (by decide)),World.cell?_setCell_other _ _ _ _ (vpa (by decide))];exact c0
 .unfold ranT;rw[World.cell?_setCell_other _ _ _ _ (vpa (by decide)),World.cell?_setCell_other _ _ _ _ (vpa (by decide)),World.cell?_drew,World.cell?_alloc_past _ _ _ (by simp;exact hb),World.cell?_setCell_other _ _ _ _ (vpa (by decide))];refine same0 (v0:=.nilIface) ?_;rw[World.cell?_setCell_other _ _ _ _ (vpa (by decide))];exact c3
 unfold ranT;rw[World.cell?_setCell_other _ _ _ _ (JWa hne),World.cell?_setCell_other _ _ _ _ (JWa hne),World.cell?_drew];exact World.cell?_alloc_at T _ _ k (by simp)
theorem tab_at(x:UInt8):kva[x.toNat]? =some (.int .u8 ((kka x).toNat:Int)):=by
 have hx:=UInt8.toNat_lt x;unfold kva;simp only[List.getElem?_toArray,List.getElem?_map,List.getElem?_range hx,Option.map_some]
 congr 2
 unfold kka;by_cases h:x=0∨x=13
 .rw[if_pos h,if_pos (by rcases h with rfl | rfl <;> decide)];rfl
 rw[if_neg h,if_neg (fun h2=>h (h2.imp (fun e=>UInt8.toNat_inj.1 e) (fun e=>UInt8.toNat_inj.1 e)))]
theorem qmb{b d o c:Nat}{w:World}(F:ysb w b d o c):Built (ranW b w) b w.heap.size:=by
 obtain ⟨h1,h2,h3,h4⟩:=JYa kva F.hb F.c0 F.c3;have hb:=F.hb;rw[qlb];exact ⟨by omega,by omega,h2,h3,fun x=>(h4 _).trans (tab_at x)⟩
theorem qnb (n : Nat) (a : Addr) (w : World) : (method (n + 1) 241 (.pointer (some a)) "Replace").run prog w = .ok (282, .pointer (some a)) w := by kernel_rfl
theorem Wva(b A:Nat)(s:ByteArray)(w:World)(hlen:s.size<=4611686018427387904)(B:Built w b A):
 Calls prog 154 #[.pointer (some ⟨b,0,none⟩),.string s] w fun e w' =>e=.returned (.string ⟨(s.data.toList.map kka).toArray⟩)/\(w' =w∨∃C fz,w' =(w.alloc (.cells C 5 fz)).drew):=by
 have hmf:∀(fn:Fn) (first cap:Array Value) (w:World),(Instr.makeFunc fn first cap).run prog w=.ok (.func fn first cap) w:=fun _ _ _ _=>rfl
 have hme:=qnb;have hc3:=B.c3;go_enter func154,Tryz.ntmps154
 go_wp2_with (first | (go_at_call 178;refine (ytb b _ _ B.c0).mono ?_;rintro e w' ⟨rfl,rfl⟩) | (go_at_call 282;refine (wzb A s _ hlen B.hA B.tab).mono ?_;rintro e w' ⟨rfl,hw'⟩))
 go_ret
 exact ⟨rfl,hw'⟩
theorem Wwa(b d o c:Nat)(s:ByteArray)(w:World)(hlen:s.size<=4611686018427387904)(F:ysb w b d o c):
 Calls prog 154 #[.pointer (some ⟨b,0,none⟩),.string s] w fun e w' =>e=.returned (.string ⟨(s.data.toList.map kka).toArray⟩)/\(w' =ranW b w∨∃C fz,w' =((ranW b w).alloc (.cells C 5 fz)).drew):=by
 have hmf:∀(fn:Fn) (first cap:Array Value) (w:World),(Instr.makeFunc fn first cap).run prog w=.ok (.func fn first cap) w:=fun _ _ _ _=>rfl
 have hme:=qnb;have B:=qmb F;have hc3:=B.c3;go_enter func154,Tryz.ntmps154
 go_wp2_with (first | (go_at_call 178;refine (vwb b d o c _ F).mono ?_;rintro e w' ⟨rfl,rfl⟩) | (go_at_call 282;refine (wzb _ s _ hlen B.hA B.tab).mono ?_;rintro e w' ⟨rfl,hw'⟩))
 go_ret
 exact ⟨rfl,hw'⟩
end
def RpQ(w:World)(u:Nat->Nat)(vs:Array Value):Prop:=
 (vs[0]? =some (.int .u32 0)/\vs[1]? =some (.int .i32 0)/\vs[3]? =some .nilIface/\∃d o c,vs[4]? =some (.slice (some ⟨d,o,none⟩) 4 c)/\d < w.heap.size/\o+4<=u d/\
  w.cell? ⟨d,o,none⟩=some (.string ⟨#[0]⟩)/\w.cell? ⟨d,o+1,none⟩=some (.string ⟨#[32]⟩)/\w.cell? ⟨d,o+2,none⟩=some (.string ⟨#[13]⟩)/\w.cell? ⟨d,o+3,none⟩=some (.string ⟨#[32]⟩))∨
 (vs[0]? =some (.int .u32 1)/\∃A,vs[3]? =some (bI A)/\A < w.heap.size/\256<=u A/\∀x:UInt8,w.cell? ⟨A,x.toNat,none⟩=some (.int .u8 ((kka x).toNat:Int)))
theorem RpQ.mono{w w' :World}{u u' :Nat->Nat}{vs:Array Value}(hx:Ext0 w u w' u')(h:RpQ w u vs):RpQ w' u' vs:=by
 rcases h with ⟨h0,h1,h3,d,o,c,h4,hd,hu,s0,s1,s2,s3⟩ | ⟨h0,A,h3,hA,hu,ht⟩
 .refine .inl ⟨h0,h1,h3,d,o,c,h4,Nat.lt_of_lt_of_le hd hx.size,Nat.le_trans hu (hx.pub d hd),?_,?_,?_,?_⟩
  .rw[hx.cell d _ hd (by omega)];exact s0
  .rw[hx.cell d _ hd (by omega)];exact s1
  .rw[hx.cell d _ hd (by omega)];exact s2
  rw[hx.cell d _ hd (by omega)];exact s3
 refine .inr ⟨h0,A,h3,Nat.lt_of_lt_of_le hA hx.size,Nat.le_trans hu (hx.pub A hA),fun x=>?_⟩;rw[hx.cell A _ hA (by have:=UInt8.toNat_lt x;omega)];exact ht x
theorem KBa{w:World}{b:Nat}{vs:Array Value}{t:TypeId}{fz:Nat × Nat}(h:w.heap[b]? =some (.cells vs t fz))(c i:Nat)(v:Value):∃vs',(w.setCell ⟨c,i,none⟩ v).heap[b]? =some (.cells vs' t fz)/\vs'.size=vs.size:=by
 unfold World.setCell;simp only[Array.getElem?_modify,h];by_cases e:c=b
 .subst e;exact ⟨vs.setIfInBounds i v,by simp,by simp⟩
 exact ⟨vs,by simp[e],rfl⟩
theorem y2a{w:World}{b c:Nat}(h:c≠b)(i:Nat)(v:Value):(w.setCell ⟨c,i,none⟩ v).heap[b]? =w.heap[b]? :=by
 unfold World.setCell;simp only[Array.getElem?_modify];simp[h]
theorem ZMb(T:Array Value){b k:Nat}{w:World}(hk:k < w.heap.size)(hne:b≠k):(ranT T b w).heap[k]? =w.heap[k]? :=by
 unfold ranT;rw[y2a hne,y2a hne];show (World.alloc _ _).heap[k]? =_;rw[Below.heap_alloc _ _ _ (by simpa using hk),y2a hne,y2a hne,y2a hne]
theorem ranT_own(T:Array Value){b:Nat}{w:World}{vs:Array Value}{t:TypeId}{fz:Nat × Nat}(hb:w.heap[b]? =some (.cells vs t fz)):∃vs',(ranT T b w).heap[b]? =some (.cells vs' t fz)/\vs'.size=vs.size:=by
 have hlt:=z6a hb;unfold ranT;obtain ⟨v1,h1,n1⟩:=KBa hb b 1 (.int .i32 1);obtain ⟨v2,h2,n2⟩:=KBa h1 b 3 (bI w.heap.size);obtain ⟨v3,h3,n3⟩:=KBa h2 b 4 (.slice none 0 0);have h4:(((((w.setCell ⟨b,1,none⟩ (.int .i32 1)).setCell ⟨b,3,none⟩ (bI w.heap.size)).setCell ⟨b,4,none⟩ (.slice none 0 0)).alloc (.cells T 240)).drew).heap[b]? =some (.cells v3 t fz):=by
  show (World.alloc _ _).heap[b]? =_;rw[Below.heap_alloc _ _ _ (by simpa using hlt)];exact h3
 obtain ⟨v5,h5,n5⟩:=KBa h4 b 0 (.int .u32 1);obtain ⟨v6,h6,n6⟩:=KBa h5 b 1 (.int .i32 0);exact ⟨v6,h6,by omega⟩
structure RpG (g:G) (b:Nat) (t:TypeId) (g' :G):Prop where
 loc:g'.loc=g.loc
 old:Old (fun k=>k=b) g g'
 wf:Wf g'
 u0:g'.u b=0
 own:∃vs,g'.w.heap[b]? =some (.cells vs t (0,0))/\vs.size=5/\RpQ g'.w g'.u vs
theorem RpG.refl{g:G}{b:Nat}{t:TypeId}{vs:Array Value}(hb:g.w.heap[b]? =some (.cells vs t (0,0)))(hn:vs.size=5)(hu:g.u b=0)(hw:Wf g)(hq:RpQ g.w g.u vs):RpG g b t g:=
 ⟨rfl,Old.refl _ _,hw,hu,vs,hb,hn,hq⟩
theorem RpG.tail{g g1:G}{b:Nat}{t:TypeId}(h:RpG g b t g1)(C:Array Value)(e:TypeId)(fz:Nat × Nat):RpG g b t ⟨(g1.w.alloc (.cells C e fz)).drew,fun k=>if k=g1.w.heap.size then 0 else g1.u k,g1.loc⟩:=by
 obtain ⟨hl,ho,hw,hu,vs,hb,hn,hq⟩:=h;have hlt:=z6a hb;have hz:∀k,k < g1.w.heap.size->((g1.w.alloc (.cells C e fz)).drew).heap[k]? =g1.w.heap[k]? :=fun k hk=>Below.heap_alloc _ _ _ hk
 have hx:Ext g1.w g1.u (g1.w.alloc (.cells C e fz)).drew (fun k=>if k=g1.w.heap.size then 0 else g1.u k):=⟨by simp,fun k hk=>by
  show g1.u k<=if k=g1.w.heap.size then 0 else g1.u k;rw[if_neg (by omega)];exact Nat.le_refl _,fun k i hk _=>by
  simp only[World.cell?];rw[hz k hk],fun r hr=>(hz r (z6a hr)).trans hr⟩
 refine ⟨hl,ho.trans ⟨rfl,rfl,rfl,hx,fun k hk _=>⟨hz k hk,by show (if k=g1.w.heap.size then 0 else g1.u k)=_;rw[if_neg (by omega)]⟩⟩,fun k hk=>?_,?_,vs,(hz b hlt).trans hb,hn,hq.mono hx.to0⟩
 .have hk:g1.w.heap.size+1<=k:=by simpa using hk
  show (if k=g1.w.heap.size then 0 else g1.u k)=0;rw[if_neg (by omega)];exact hw k (by omega)
 show (if b=g1.w.heap.size then 0 else g1.u b)=0;rw[hu];exact ite_self 0
theorem RpG.ran{g:G}{b d o c:Nat}{t:TypeId}{vs:Array Value}(hb:g.w.heap[b]? =some (.cells vs t (0,0)))(hn:vs.size=5)(hu:g.u b=0)(hw:Wf g)(F:ysb g.w b d o c):
 RpG g b t ⟨ranW b g.w,fun k=>if k=g.w.heap.size then 256 else g.u k,g.loc⟩:=by
 have hlt:=z6a hb;have B:=qmb F;obtain ⟨hsz,f0,f3,ft⟩:=JYa kva F.hb F.c0 F.c3;rw[<-qlb]at hsz f0 f3 ft;obtain ⟨vs',hb',hn'⟩:=ranT_own kva hb;rw[<-qlb]at hb';have hz:∀k,k < g.w.heap.size->k≠b->(ranW b g.w).heap[k]? =g.w.heap[k]? :=fun k hk hne=>by rw[qlb];exact ZMb kva hk (Ne.symm hne)
 have hos:(ranW b g.w).os=g.w.os/\(ranW b g.w).tape=g.w.tape/\(ranW b g.w).output=g.w.output:=by
  rw[qlb];generalize kva=T;exact ⟨rfl,rfl,rfl⟩
 have huk:∀k,k < g.w.heap.size->(if k=g.w.heap.size then 256 else g.u k)=g.u k:=fun k hk=>if_neg (by omega)
 have hbu:(if b=g.w.heap.size then 256 else g.u b)=0:=(huk b hlt).trans hu;have hcell:∀i,i < 5->(ranW b g.w).cell? ⟨b,i,none⟩=vs'[i]? :=fun i hi=>by
  simp[World.cell?,hb']
 refine ⟨rfl,⟨hos.1,hos.2.1,hos.2.2,⟨by show g.w.heap.size<=(ranW b g.w).heap.size;omega,fun k hk=>Nat.le_of_eq (huk k hk).symm,fun k i hk hi=>?_,fun r hr=>?_⟩,fun k hk hne=>⟨hz k hk hne,huk k hk⟩⟩,fun k hk=>?_,hbu,vs',hb',hn'.trans hn,.inr ⟨(hcell 0 (by omega)).symm.trans f0,g.w.heap.size,(hcell 3 (by omega)).symm.trans f3,by show g.w.heap.size < (ranW b g.w).heap.size;omega,Nat.le_of_eq (if_pos rfl).symm,B.tab⟩⟩
 .have hne:k≠b:=by rintro rfl;omega
  simp only[World.cell?];rw[hz k hk hne]
 .have hne:r≠b:=by rintro rfl;rw[hb]at hr;cases hr
  exact (hz r (z6a hr) hne).trans hr
 have hk:(ranW b g.w).heap.size<=k:=hk;show (if k=g.w.heap.size then 256 else g.u k)=0;rw[if_neg (by omega)];exact hw k (by omega)
theorem rp_step{g:G}{b:Nat}{t:TypeId}{vs:Array Value}(s:ByteArray)(hlen:s.size<=4611686018427387904)(hb:g.w.heap[b]? =some (.cells vs t (0,0)))(hn:vs.size=5)(hu:g.u b=0)(hw:Wf g)(hq:RpQ g.w g.u vs):
 Calls prog 154 #[.pointer (some ⟨b,0,none⟩),.string s] g.w fun e w' =>e=.returned (.string ⟨(s.data.toList.map kka).toArray⟩)/\∃g',g'.w=w' /\RpG g b t g' :=by
 have hlt:=z6a hb;have hcell:∀i,g.w.cell? ⟨b,i,none⟩=vs[i]? :=fun i=>by simp[World.cell?,hb]
 rcases hq with ⟨h0,h1,h3,d,o,c,h4,hd,hud,s0,s1,s2,s3⟩ | ⟨h0,A,h3,hA,huA,ht⟩
 .have F:ysb g.w b d o c:=⟨hlt,hd,by rintro rfl;omega,(hcell 0).trans h0,(hcell 1).trans h1,(hcell 3).trans h3,(hcell 4).trans h4,fun i=>by simp[World.frozen?,hb],s0,s1,s2,s3⟩;refine (Wwa b d o c s g.w hlen F).mono ?_;rintro e w' ⟨rfl,rfl | ⟨C,fz,rfl⟩⟩
  .exact ⟨rfl,_,rfl,RpG.ran hb hn hu hw F⟩
  exact ⟨rfl,_,rfl,(RpG.ran hb hn hu hw F).tail C _ fz⟩
 refine (Wva b A s g.w hlen ⟨hlt,hA,(hcell 0).trans h0,(hcell 3).trans h3,ht⟩).mono ?_;rintro e w' ⟨rfl,rfl | ⟨C,fz,rfl⟩⟩
 .exact ⟨rfl,g,rfl,RpG.refl hb hn hu hw (.inr ⟨h0,A,h3,hA,huA,ht⟩)⟩
 exact ⟨rfl,_,rfl,(RpG.refl hb hn hu hw (.inr ⟨h0,A,h3,hA,huA,ht⟩)).tail C _ fz⟩
theorem yFa(O:Nat)(s:Str)(r:Str)(hr:z0a s=some r):RunS prog 154 [.ptr O 0,.s s] [(O,.opq 0 5 RpQ)] (.s r) [(O,.opq 0 5 RpQ)] O []:=by
 unfold z0a at hr;split at hr
 case isFalse=>cases hr
 rename_i hlen;cases hr;refine ⟨⟨_,_,⟨func154,rfl,by kernel_rfl⟩⟩,by simp[Sto.okS,AO.okS],by simp[Sto.okS,AO.okS],fun g vs hw hg ho ha=>?_⟩;obtain ⟨hsz,hrel⟩:=ha;obtain ⟨vl⟩:=vs
 match vl,hsz with
 | [x,y],_=>
  have hx:=hrel 0 _ rfl;have hy:y=.string (strB s):=kda (hrel 1 _ rfl);subst hy;have hO:=ho.obj O _ (show Sto.get [(O,AO.opq 0 5 RpQ)] O=some (.opq 0 5 RpQ) by simp[Sto.get]);have hget:∀o ob,Sto.get [(O,AO.opq 0 5 RpQ)] o=some ob->o=O/\ob=.opq 0 5 RpQ:=fun o ob h=>by
   rw[Sto.get_cons]at h;split at h
   .rename_i e;exact ⟨e.symm,(Option.some.inj h).symm⟩
   cases h
  cases hO with
  | @opq t t1 n Q b vs' hl hb hn hu hq=>
   have hx' :x=.pointer (some ⟨b,0,none⟩):=by
    cases hx with
    | ptr hl2=>rw[hl]at hl2;cases hl2;rfl
   subst hx';refine callsIn_wide.2 ((rp_step (strB s) (by rw[zKa];exact hlen) hb hn hu hw (hq _ _ ⟨Nat.le_refl _,fun _ _=>Nat.le_refl _,fun _ _ _ _=>rfl⟩)).mono ?_);rintro e w' ⟨rfl,g',rfl,G'⟩;obtain ⟨hl',hold,hwf,hu',vs2,hb2,hn2,hq2⟩:=G';have hsb:SB g [(O,AO.opq 0 5 RpQ)] b:=⟨O,.opq 0 5 RpQ,by simp[Sto.get],by rw[hl];rfl⟩;refine ⟨g',_,rfl,fun k _=>by rw[hl'],hold.mono fun k _ e=>e▸hsb,hwf,rfl,?_,?_,?_,?_⟩
   .have:(strB s).data.toList.map kka=s.map kka:=by simp[strB]
    rw[this];exact .pv (.b rfl)
   .intro o ob h;obtain ⟨rfl,rfl⟩:=hget o ob h;exact .opq (by rw[hl'];exact hl) hb2 hn2 hu' fun w' u' hx' =>hq2.mono hx'
   .intro o o' ob ob' b' h1 h2 _ _;rw[(hget o ob h1).1,(hget o' ob' h2).1]
   intro o ob b' h1 h2;obtain ⟨rfl,rfl⟩:=hget o ob h1;rw[hl',hl]at h2;cases h2;exact .inr hsb
section
open Go.Shelf Go.RowKit Go.Lib Go.Proofs.Tryz
theorem qob(d o c:Nat)(w:World)(s0:w.cell? ⟨d,o,none⟩=some (.string ⟨#[0]⟩))(s1:w.cell? ⟨d,o+1,none⟩=some (.string ⟨#[32]⟩))(s2:w.cell? ⟨d,o+2,none⟩=some (.string ⟨#[13]⟩))(s3:w.cell? ⟨d,o+3,none⟩=some (.string ⟨#[32]⟩)):
 Calls prog 152 #[.slice (some ⟨d,o,none⟩) 4 c] w fun e w' =>∃(cap:Nat) (z:Array Value),e=.returned (.pointer (some ⟨w.heap.size+1,0,none⟩))/\
  w' =((w.alloc (.cells (#[Value.string ⟨#[0]⟩,.string ⟨#[32]⟩,.string ⟨#[13]⟩,.string ⟨#[32]⟩]++z) 9)).alloc (.cells #[.int .u32 0,.int .i32 0,.int .u32 0,.nilIface,.slice (some ⟨w.heap.size,0,none⟩) 4 cap] 190)).drew:=by
 go_enter func152,Tryz.ntmps152
 go_wp2
 go_ret
 exact ⟨_,_,rfl,rfl⟩
theorem yub{g:G}{v:Value}(h:Rel g (.l cS [[0],[32],[13],[32]]) v):∃d o c,v=.slice (some ⟨d,o,none⟩) 4 c/\g.w.cell? ⟨d,o,none⟩=some (.string ⟨#[0]⟩)/\g.w.cell? ⟨d,o+1,none⟩=some (.string ⟨#[32]⟩)/\g.w.cell? ⟨d,o+2,none⟩=some (.string ⟨#[13]⟩)/\g.w.cell? ⟨d,o+3,none⟩=some (.string ⟨#[32]⟩):=by
 cases h with
 | pv h=>
  unfold pL at h;generalize hE:List.map cS [[0],[32],[13],[32]]=elems at h;cases h with
  | @sl _ _ a cap size b off val hn h0 hc hz ha hu hcell h=>
   have hne:elems≠ []:=by rw[<-hE];simp
   have hs1:size=1:=by
    have:=hz (cS [0]) (by rw[<-hE];simp);simpa[cS]using this.symm
   subst hs1;have hlen:elems.length=4:=by rw[<-hE];rfl
   have key:∀(i:Nat) (s:Str),elems[i]? =some (cS s)->g.w.cell? ⟨b,off+i,none⟩=some (.string (strB s)):=fun i s hi=>by
    have hil:=(List.getElem?_eq_some_iff.1 hi).1;rw[hcell i (by omega)];have:=h i 0 _ (.b (.string (strB s))) hi rfl;simp only[Nat.mul_one,Nat.add_zero]at this;rw[kda (g:=g) (.pv this)]
   refine ⟨b,off,cap,by rw[ha hne,hlen],key 0 [0] (by rw[<-hE];rfl),key 1 [32] (by rw[<-hE];rfl),key 2 [13] (by rw[<-hE];rfl),key 3 [32] (by rw[<-hE];rfl)⟩
theorem Zza(k:Nat):RunS prog 152 [.l cS [[0],[32],[13],[32]]] [] (.ptr k 0) [(k,.opq 0 5 RpQ)] k [k]:=by
 refine ⟨⟨_,_,⟨func152,rfl,by kernel_rfl⟩⟩,by simp[Sto.okS],by simp[Sto.okS,AO.okS],fun g vs hw hg ho ha=>?_⟩;obtain ⟨hsz,hrel⟩:=ha;obtain ⟨vl⟩:=vs
 match vl,hsz with
 | [x],_=>
  obtain ⟨d,o,c,hx,s0,s1,s2,s3⟩:=yub (hrel 0 _ rfl);have hx:x=.slice (some ⟨d,o,none⟩) 4 c:=hx;subst hx;refine callsIn_wide.2 ((qob d o c g.w s0 s1 s2 s3).mono ?_);rintro e w' ⟨cap,z,rfl,rfl⟩;generalize hC: #[Value.string ⟨#[0]⟩,.string ⟨#[32]⟩,.string ⟨#[13]⟩,.string ⟨#[32]⟩]++z=C;generalize hV: #[Value.int .u32 0,.int .i32 0,.int .u32 0,.nilIface,.slice (some ⟨g.w.heap.size,0,none⟩) 4 cap]=V;have hz:∀q,q < g.w.heap.size->(((g.w.alloc (.cells C 9)).alloc (.cells V 190)).drew).heap[q]? =g.w.heap[q]? :=fun q hq=>by
   show (World.alloc _ _).heap[q]? =_;rw[Below.heap_alloc _ _ _ (by simp;omega),Below.heap_alloc _ _ _ hq]
  have h1:(((g.w.alloc (.cells C 9)).alloc (.cells V 190)).drew).heap[g.w.heap.size]? =some (.cells C 9 (0,0)):=by
   show (World.alloc _ _).heap[_]? =_;rw[Below.heap_alloc _ _ _ (by simp)];exact heap_alloc_new g.w _
  have h2:(((g.w.alloc (.cells C 9)).alloc (.cells V 190)).drew).heap[g.w.heap.size+1]? =some (.cells V 190 (0,0)):=by
   show (World.alloc _ _).heap[_]? =_;have:=heap_alloc_new (g.w.alloc (.cells C 9)) (.cells V 190);simpa using this
  have hsize:(((g.w.alloc (.cells C 9)).alloc (.cells V 190)).drew).heap.size=g.w.heap.size+2:=by simp
  generalize hW:((g.w.alloc (.cells C 9)).alloc (.cells V 190)).drew=W at hz h1 h2 hsize;have hos:W.os=g.w.os/\W.tape=g.w.tape/\W.output=g.w.output:=by subst hW;exact ⟨rfl,rfl,rfl⟩
  have hcell:∀i,W.cell? ⟨g.w.heap.size,i,none⟩=C[i]? :=fun i=>by simp[World.cell?,h1]
  have hget:∀o ob,Sto.get [(k,AO.opq 0 5 RpQ)] o=some ob->o=k/\ob=.opq 0 5 RpQ:=fun o ob h=>by
   rw[Sto.get_cons]at h;split at h
   .rename_i e;exact ⟨e.symm,(Option.some.inj h).symm⟩
   cases h
  have hq:RpQ W (fun q=>if q=g.w.heap.size then 4 else if q=g.w.heap.size+1 then 0 else g.u q) V:=by
   subst hV hC;refine .inl ⟨rfl,rfl,rfl,g.w.heap.size,0,cap,rfl,by omega,Nat.le_of_eq (if_pos rfl).symm,?_,?_,?_,?_⟩;all_goals (rw[hcell,Array.getElem?_append_left (by simp)];rfl)
  have huk:∀q,q < g.w.heap.size->(if q=g.w.heap.size then 4 else if q=g.w.heap.size+1 then 0 else g.u q)=g.u q:=fun q hq=>by rw[if_neg (by omega),if_neg (by omega)]
  refine ⟨⟨W,fun q=>if q=g.w.heap.size then 4 else if q=g.w.heap.size+1 then 0 else g.u q,fun q=>if q=k then .blk (g.w.heap.size+1) else g.loc q⟩,_,rfl,fun q hq=>if_neg (by simpa using hq),
   ⟨hos.1,hos.2.1,hos.2.2,⟨by show g.w.heap.size<=W.heap.size;omega,fun q hq=>Nat.le_of_eq (huk q hq).symm,fun q i hq _=>by simp only[World.cell?];rw[hz q hq],fun r hr=>(hz r (z6a hr)).trans hr⟩,fun q hq _=>⟨hz q hq,huk q hq⟩⟩,fun q hq=>?_,rfl,.ptr (if_pos rfl),?_,?_,?_⟩
  .have hq:W.heap.size<=q:=hq;show (if q=g.w.heap.size then 4 else if q=g.w.heap.size+1 then 0 else g.u q)=0;rw[if_neg (by omega),if_neg (by omega)];exact hw q (by omega)
  .intro o ob h;obtain ⟨rfl,rfl⟩:=hget o ob h;refine .opq (if_pos rfl) h2 (by subst hV;rfl) ?_ fun w' u' hx' =>hq.mono hx'
   show (if g.w.heap.size+1=g.w.heap.size then 4 else if g.w.heap.size+1=g.w.heap.size+1 then 0 else g.u _)=0;rw[if_neg (by omega),if_pos rfl]
  .intro o o' ob ob' b' h1 h2 _ _;rw[(hget o ob h1).1,(hget o' ob' h2).1]
  intro o ob b' h1 h2;obtain ⟨rfl,rfl⟩:=hget o ob h1;have h2:AO.blk (.opq 0 5 RpQ) (if o=o then .blk (g.w.heap.size+1) else g.loc o)=some b' :=h2;rw[if_pos rfl]at h2;cases h2;exact .inl (by omega)
end
theorem qpb{g:G}{s:Str}{v:Value}(h:Rel g (.s s) v):v=.string (strB s):=kda h
theorem vzb{g:G}{w' :World}(h:Below g.w.heap.size g.w w'):Old (fun _=>False) g ⟨w',g.u,g.loc⟩:=
 ⟨h.os,h.tape,h.output,⟨h.size,fun _ _=>Nat.le_refl _,fun k i hk _=>by simp only[World.cell?];rw[h.block k hk],fun r hr=>(h.block r (z6a hr)).trans hr⟩,fun k hk _=>⟨h.block k hk,rfl⟩⟩
theorem Wxa(s t:Str)(r:Str)(hr:yfa s t=some r):Run prog 153 [.s s,.s t] (.s r):=by
 unfold yfa at hr;split at hr
 case isFalse=>cases hr
 rename_i hc;obtain ⟨h1,h2,h3⟩:=hc;cases hr;refine ⟨⟨_,_,⟨func153,rfl,by kernel_rfl⟩⟩,fun g vs hw hg ha=>?_⟩;obtain ⟨hsz,hrel⟩:=ha;obtain ⟨l⟩:=vs
 match l,hsz with
 | [x,y],_=>
  obtain rfl:=qpb (hrel 0 _ rfl);obtain rfl:=qpb (hrel 1 _ rfl);have h116:(prog.info? 193).map (fun i=>(i.zero,i.size))=some (some (.agg (Array.replicate 256 (.bool false))),256):=by kernel_rfl
  refine callsIn_wide.2 ((Any.strings_Trim_laid Tryz.lays160 h116 (strB s) (strB t) g.w (by rw[zKa];exact h1) (by rw[zKa];exact h2) (ascii_of_all (by simpa[vZb,strB]using h3))).mono ?_);rintro e w' ⟨rfl,hb⟩;refine ⟨⟨w',g.u,g.loc⟩,_,rfl,(by intros;rfl),vzb hb,fun k hk=>hw k (Nat.le_trans hb.size hk),rfl,?_⟩;rw[show (strB s).data.toList=s by simp[strB],show (strB t).data.toList=t by simp[strB]];exact .pv (.b rfl)
theorem vqa(a0:UInt8)(r:Bool)(hr:qLa a0=some r):Run prog 139 [.u8 a0] (.bo r):=by
 unfold qLa at hr;refine rf (fn:=f139) ⟨func139,rfl,by kernel_rfl⟩ rfl (fun _=>rfl) fun g0 hg=>?_
 refine rn tk 5 rfl<|jb hr (fun j1=>[(2,.bo j1)]) (fun j1=>[]) (fun j1 hr=>?_) (fun j1 hr=>?_)
 .refine rn tk 4 rfl<|bs 5 hr rfl (fun c2 hr=>?_) (fun c2 hr=>?_)
  .refine rn tk 5 rfl ?_;cases hr;exact jn _ rfl rfl rfl
  refine rn tk 5 rfl ?_;cases hr;exact jn _ rfl rfl rfl
 refine rn tk 1 rfl ?_;cases hr;exact kr tk (.inr rfl) rfl rfl
theorem qqb{g:G}{s:Str}{v:Value}(h:Rel g (.s s) v):v=.string (strB s):=kda h
theorem vAb{g:G}{w' :World}(h:Below g.w.heap.size g.w w'):Old (fun _=>False) g ⟨w',g.u,g.loc⟩:=
 ⟨h.os,h.tape,h.output,⟨h.size,fun _ _=>Nat.le_refl _,fun k i hk _=>by simp only[World.cell?];rw[h.block k hk],fun r hr=>(h.block r (z6a hr)).trans hr⟩,fun k hk _=>⟨h.block k hk,rfl⟩⟩
theorem Kma(s t:Str)(r:Str)(hr:qBa s t=some r):Run prog 169 [.s s,.s t] (.s r):=by
 unfold qBa at hr;split at hr
 case isFalse=>cases hr
 rename_i hc;obtain ⟨h1,h2,h3⟩:=hc;cases hr;refine ⟨⟨_,_,⟨func169,rfl,by kernel_rfl⟩⟩,fun g vs hw hg ha=>?_⟩;obtain ⟨hsz,hrel⟩:=ha;obtain ⟨l⟩:=vs
 match l,hsz with
 | [x,y],_=>
  obtain rfl:=qqb (hrel 0 _ rfl);obtain rfl:=qqb (hrel 1 _ rfl);have h116:(prog.info? 193).map (fun i=>(i.zero,i.size))=some (some (.agg (Array.replicate 256 (.bool false))),256):=by kernel_rfl
  refine callsIn_wide.2 ((Any.strings_TrimRight_laid Tryz.lays162 h116 (strB s) (strB t) g.w (by rw[zKa];exact h1) (by rw[zKa];exact h2) (ascii_of_all (by simpa[vZb,strB]using h3))).mono ?_);rintro e w' ⟨rfl,hb⟩;refine ⟨⟨w',g.u,g.loc⟩,_,rfl,(by intros;rfl),vAb hb,fun k hk=>hw k (Nat.le_trans hb.size hk),rfl,?_⟩;rw[show (strB s).data.toList=s by simp[strB],show (strB t).data.toList=t by simp[strB]];exact .pv (.b rfl)
theorem z2b(a0:Str)(r:Bool)(hr:Z5a a0=some r):Run prog 113 [.s a0] (.bo r):=by
 unfold Z5a at hr;refine rf (fn:=f113) ⟨func113,rfl,by kernel_rfl⟩ rfl (fun _=>rfl) fun g0 hg=>?_
 refine rn tk 5 rfl<|jb hr (fun j1=>[(2,.bo j1)]) (fun j1=>[]) (fun j1 hr=>?_) (fun j1 hr=>?_)
 .refine rn tk 4 rfl<|bs 5 hr rfl (fun c2 hr=>?_) (fun c2 hr=>?_)
  .refine rn tk 5 rfl<|bs 10 hr rfl (fun c3 hr=>?_) (fun c3 hr=>?_)
   .refine rn tk 1 rfl<|ug rfl rfl rfl<|ct hr (fun j4=>[(10,.bo true),(12,.bo j4)]) (fun j4=>[]) (fun j4 hr jump4=>?_) (fun j4 hr=>?_)
    .refine il (fn:=f82) (args:=[.s a0,.fn (.func 137) [] []]) 400000 499999 [(10,.bo true)] rfl ⟨func82,rfl,by kernel_rfl⟩ rfl rfl rfl fun T4 ds4=>?_
     refine rn tk 14 rfl<|al2 hr (fun s5=>[(0,.s a0),(1,.fn (.func 137) [] []),(7,.i ((a0.length:Int))),(8,.i s5)]) (fun s5=>[(499999,.sus g0.w.heap.size ds4),(400010,.hold (.bo true) (T4.getD 10 undef))]) (.exit 0) (fun b6=>[]) (fun b6=>[(499999,.sus g0.w.heap.size ds4),(400010,.hold (.bo true) (T4.getD 10 undef))]) .ret (fun b7=>[(4,.bo false)]) (fun b7=>[(499999,.sus g0.w.heap.size ds4),(400010,.hold (.bo true) (T4.getD 10 undef))]) rfl rfl (fun s5 x9 hr=>?_) (fun b6 hr=>?_) (fun b7 hr=>?_)
     .unfold w8a at hr;refine rn tk 6 rfl<|ac 9 hr rfl (fun c10 hr=>?_) (fun c10 hr=>?_)
      .refine rn tk 15 rfl ?_;obtain ⟨v11,h12,hr⟩:=zaa hr;refine ws tk h12 rfl rfl rfl rfl<|il (fn:=Tryz.f137) (args:=[.u8 v11]) 600000 699999 [(0,.s a0),(1,.fn (.func 137) [] []),(7,.i ((a0.length:Int))),(8,.i s5)] rfl ⟨func137,rfl,by kernel_rfl⟩ rfl rfl rfl fun T6 ds6=>?_
       refine rn tk 5 rfl<|jb hr (fun j13=>[(2,.bo j13)]) (fun j13=>[(699999,.sus g0.w.heap.size ds6),(600000,.hold (.s a0) (T6.getD 0 undef)),(600001,.hold (.fn (.func 137) [] []) (T6.getD 1 undef)),(600007,.hold (.i ((a0.length:Int))) (T6.getD 7 undef)),(600008,.hold (.i s5) (T6.getD 8 undef)),(499999,.sus g0.w.heap.size ds4),(400010,.hold (.bo true) (T4.getD 10 undef))]) (fun j13 hr=>?_) (fun j13 hr=>?_)
       .refine rn tk 4 rfl<|bs 5 hr rfl (fun c14 hr=>?_) (fun c14 hr=>?_)
        .refine rn tk 4 rfl<|bs 9 hr rfl (fun c15 hr=>?_) (fun c15 hr=>?_)
         .refine rn tk 5 rfl ?_;cases hr;exact jn _ rfl rfl rfl
         refine rn tk 5 rfl ?_;cases hr;exact jn _ rfl rfl rfl
        refine rn tk 9 rfl ?_;cases hr;exact jn _ rfl rfl rfl
       refine rn tk 1 rfl ?_;refine ie tk [.bo j13] [(0,.s a0),(1,.fn (.func 137) [] []),(7,.i ((a0.length:Int))),(8,.i s5)] [(499999,.sus g0.w.heap.size ds4),(400010,.hold (.bo true) (T4.getD 10 undef))] (.inr rfl) rfl rfl rfl rfl (hO ?_);refine rn tk 3 rfl<|ac 16 hr rfl (fun c16 hr=>?_) (fun c16 hr=>?_)
       .refine rn tk 8 rfl ?_;cases hr;exact ato rfl rfl rfl rfl
       refine rn tk 7 rfl ?_;cases hr;exact atc rfl rfl
      refine rn tk 2 rfl ?_;cases hr;exact ato rfl rfl rfl rfl
     .refine rn tk 8 rfl ?_;refine ie tk [.bo true] [(10,.bo true)] [] (.inr rfl) rfl rfl rfl rfl ?_;cases hr;exact jump4 _ _ rfl rfl
     refine rn tk 2 rfl ?_;refine ie tk [.bo false] [(10,.bo true)] [] (.inr rfl) rfl rfl rfl rfl ?_;cases hr;exact jump4 _ _ rfl rfl
    refine rn tk 3 rfl ?_;cases hr;exact jn _ rfl rfl rfl
   refine rn tk 5 rfl ?_;cases hr;exact jn _ rfl rfl rfl
  refine rn tk 10 rfl ?_;cases hr;exact jn _ rfl rfl rfl
 refine rn tk 1 rfl ?_;cases hr;exact kr tk (.inr rfl) rfl rfl
theorem Y9a(a0:Str)(a1:Int)(r:Int)(hr:jVa a0 a1=some r):Run prog 115 [.s a0,.i a1] (.i r):=by
 unfold jVa at hr;refine rf (fn:=Tryz.f115) ⟨func115,rfl,by kernel_rfl⟩ rfl (fun _=>rfl) fun g0 hg=>?_
 refine rn tk 14 rfl<|wq (ev_max rfl rfl) rfl rfl rfl<|rn tk 4 rfl<|al1 hr (fun s1=>[(0,.s a0),(5,.i s1.1),(6,.i s1.2)]) (fun s1=>[]) (.exit 0) (fun b2=>[(5,.i b2)]) (fun b2=>[]) rfl rfl (fun s1 x3 hr=>?_) (fun b2 hr=>?_)
 .unfold yAa at hr;refine rn tk 9 rfl<|ac 12 hr rfl (fun c4 hr=>?_) (fun c4 hr=>?_)
  .refine rn tk 2 rfl<|jk (fun j5=>[(0,.s a0),(5,.i j5),(6,.i s1.2)]) (fun j5=>[]) (fun j5=>qMa s1 j5=some x3) ?_ ?_
   .refine rn tk 2 rfl<|jb hr (fun j6=>[(0,.s a0),(5,.i s1.1),(6,.i s1.2),(26,.bo j6)]) (fun j6=>[]) (fun j6 hr=>?_) (fun j6 hr=>?_)
    .refine rn tk 3 rfl ?_;obtain ⟨v7,h8,hr⟩:=zaa hr;refine ws tk h8 rfl rfl rfl rfl ?_;obtain ⟨v9,h10,hr⟩:=zaa hr;refine cl (vqa _ _ h10) rfl rfl<|rn tk 2 rfl<|bs 20 hr rfl (fun c11 hr=>?_) (fun c11 hr=>?_)
     .refine rn tk 7 rfl ?_;cases hr;exact jn _ rfl rfl rfl
     refine rn tk 3 rfl ?_;obtain ⟨v12,h13,hr⟩:=zaa hr;refine ug rfl rfl rfl<|ws tk h13 rfl rfl rfl rfl ?_;obtain ⟨v14,h15,hr⟩:=zaa hr;refine ug rfl rfl rfl<|cl (vqa _ _ h15) rfl rfl<|rn tk 2 rfl ?_;cases hr;exact jn _ rfl rfl rfl
    refine ac 26 hr rfl (fun c16 hr=>?_) (fun c16 hr=>?_)
    .refine rn tk 3 rfl<|jn s1.1 hr rfl rfl
    refine rn tk 3 rfl<|jb hr (fun j17=>[(0,.s a0),(5,.i s1.1),(6,.i s1.2),(32,.bo j17)]) (fun j17=>[]) (fun j17 hr=>?_) (fun j17 hr=>?_)
    .refine rn tk 4 rfl<|bs 29 hr rfl (fun c18 hr=>?_) (fun c18 hr=>?_)
     .refine rn tk 4 rfl ?_;cases hr;exact jn _ rfl rfl rfl
     refine rn tk 4 rfl ?_;cases hr;exact jn _ rfl rfl rfl
    refine ac 32 hr rfl (fun c19 hr=>?_) (fun c19 hr=>?_)
    .refine rn tk 4 rfl ?_;cases hr;exact ato rfl rfl rfl rfl
    refine rn tk 7 rfl<|jn s1.2 hr rfl rfl
   intro j5 hr;unfold qMa at hr;refine rn tk 5 rfl ?_;cases hr;exact atc rfl rfl
  refine rn tk 2 rfl ?_;cases hr;exact ato rfl rfl rfl rfl
 refine rn tk 9 rfl ?_;cases hr;exact kr tk (.inr rfl) rfl rfl
theorem y7a(a0:Int)(r:Bool)(hr:kxa a0=some r):Run prog 229 [.pv (.b (.int .i32 a0))] (.bo r):=by
 unfold kxa at hr;refine rf (fn:=Tryz.f229) ⟨func229,rfl,by kernel_rfl⟩ rfl (fun _=>rfl) fun g0 hg=>?_
 refine rn tk 7 rfl<|jb hr (fun j1=>[(0,.pv (.b (.int .i32 a0))),(3,.bo j1)]) (fun j1=>[]) (fun j1 hr=>?_) (fun j1 hr=>?_)
 .refine rn tk 4 rfl<|bs 6 hr rfl (fun c2 hr=>?_) (fun c2 hr=>?_)
  .refine rn tk 5 rfl ?_;cases hr;exact jn _ rfl rfl rfl
  refine rn tk 5 rfl ?_;cases hr;exact jn _ rfl rfl rfl
 refine ac 3 hr rfl (fun c3 hr=>?_) (fun c3 hr=>?_)
 .refine rn tk 8 rfl ?_;cases hr;exact kr tk (.inr rfl) rfl rfl
 refine jb hr (fun j4=>[(10,.bo j4)]) (fun j4=>[]) (fun j4 hr=>?_) (fun j4 hr=>?_)
 .refine rn tk 4 rfl<|bs 13 hr rfl (fun c5 hr=>?_) (fun c5 hr=>?_)
  .refine rn tk 5 rfl ?_;cases hr;exact jn _ rfl rfl rfl
  refine rn tk 5 rfl ?_;cases hr;exact jn _ rfl rfl rfl
 refine ac 10 hr rfl (fun c6 hr=>?_) (fun c6 hr=>?_)
 .refine rn tk 8 rfl ?_;cases hr;exact kr tk (.inr rfl) rfl rfl
 refine rn tk 9 rfl ?_;cases hr;exact kr tk (.inr rfl) rfl rfl
theorem yna(a0:Str)(a1:Int)(r:Int)(hr:kna a0 a1=some r):Run prog 209 [.s a0,.pv (.b (.int .i32 a1))] (.i r):=by
 unfold kna at hr;refine rf (fn:=f209) ⟨func209,rfl,by kernel_rfl⟩ rfl (fun _=>rfl) fun g0 hg=>?_
 refine rn tk 6 rfl<|jb hr (fun j1=>[(0,.s a0),(1,.pv (.b (.int .i32 a1))),(160,.bo j1)]) (fun j1=>[]) (fun j1 hr=>?_) (fun j1 hr=>?_)
 .refine rn tk 4 rfl<|bs 163 hr rfl (fun c2 hr=>?_) (fun c2 hr=>?_)
  .refine rn tk 5 rfl ?_;cases hr;exact jn _ rfl rfl rfl
  refine rn tk 5 rfl ?_;cases hr;exact jn _ rfl rfl rfl
 refine ac 160 hr rfl (fun c3 hr=>?_) (fun c3 hr=>?_)
 .refine rn tk 5 rfl ?_;obtain ⟨v4,h5,hr⟩:=zaa hr;refine cl (voa _ _ _ h5) rfl rfl<|rn tk 5 rfl ?_;cases hr;exact kr tk (.inr rfl) rfl rfl
 refine rn tk 7 rfl<|ac 171 hr rfl (fun c6 hr=>?_) (fun c6 hr=>?_)
 .refine rn tk 4 rfl<|wr 1175 tk rfl rfl rfl rfl<|rn tk 3 rfl<|al2 hr (fun s7=>[(175,.ptr 1175 0)]) (fun s7=>[(1175,.it (strB a0) s7)]) (.exit 9) (fun b8=>[]) (fun b8=>[]) .ret (fun b9=>[(4,.i b9)]) (fun b9=>[]) rfl rfl (fun s7 x11 hr=>?_) (fun b8 hr=>?_) (fun b9 hr=>?_)
  .unfold qma at hr;refine rn tk 2 rfl<|wnx hr rfl rfl rfl (fun c12 hr=>?_) (fun c12 hr=>?_)
   .refine rn tk 22 rfl<|ac 181 hr rfl (fun c13 hr=>?_) (fun c13 hr=>?_)
    .refine rn tk 8 rfl ?_;cases hr;exact ato rfl rfl rfl rfl
    refine rn tk 2 rfl ?_;cases hr;exact atc rfl rfl
   refine rn tk 7 rfl ?_;cases hr;exact ato rfl rfl rfl rfl
  .refine rn tk 9 rfl ?_;cases hr;exact kr tk (.inr rfl) rfl rfl
  refine rn tk 3 rfl ?_;cases hr;exact kr tk (.inr rfl) rfl rfl
 refine rn tk 3 rfl ?_;obtain ⟨v14,h15,hr⟩:=zaa hr;refine cl (y7a _ _ h15) rfl rfl<|rn tk 4 rfl<|ac 183 hr rfl (fun c16 hr=>?_) (fun c16 hr=>?_)
 .refine rn tk 7 rfl ?_;cases hr;exact kr tk (.inr rfl) rfl rfl
 refine rn tk 29 rfl<|al2 hr (fun s17=>[(0,.s a0),(7,.s ((w7a a1))),(8,.i ((w64 ((((w7a a1)).length:Int) - 1)))),(9,.i s17)]) (fun s17=>[]) (.exit 1) (fun b18=>[]) (fun b18=>[]) .ret (fun b19=>[(4,.i b19)]) (fun b19=>[]) rfl rfl (fun s17 x21 hr=>?_) (fun b18 hr=>?_) (fun b19 hr=>?_)
 .unfold qoa at hr;refine rn tk 9 rfl<|ac 26 hr rfl (fun c22 hr=>?_) (fun c22 hr=>?_)
  .refine rn tk 4 rfl<|jk (fun j23=>[(0,.s a0),(7,.s ((w7a a1))),(8,.i j23.1),(9,.i j23.2)]) (fun j23=>[]) (fun j23=>qna a0 a1 j23=some x21) ?_ ?_
   .refine rn tk 1 rfl ?_;obtain ⟨v24,h25,hr⟩:=zaa hr;obtain ⟨v26,h27,hr⟩:=zaa hr;refine dr 6 [(32,.u8 v26),(31,.i ((w64 ((((w7a a1)).length:Int) - 1)))),(30,.s ((w7a a1))),(29,.u8 v24),(28,.i s17),(27,.s a0)] mixed (by kernel_rfl) rfl rfl (pq tk rfl (.plain rfl) (pq tk rfl (.plain rfl) (.run (.plain rfl) (k9a (K8a rfl rfl zwa h25)) (pq tk rfl (.plain rfl) (pq tk rfl (.plain rfl) (.run (.plain rfl) (k9a (K8a rfl rfl zwa h27)) .nil)))))) rfl<|rn tk 3 rfl<|ac 33 hr rfl (fun c28 hr=>?_) (fun c28 hr=>?_)
    .refine rn tk 1 rfl ?_;obtain ⟨v29,h30,hr⟩:=zaa hr;obtain ⟨v31,h32,hr⟩:=zaa hr;refine dr 7 [(40,.u8 v31),(39,.i ((w64 ((((w7a a1)).length:Int) - 1)))),(38,.s ((w7a a1))),(37,.s v29),(36,.i ((w64 (s17+1)))),(35,.i s17),(34,.s a0)] mixed (by kernel_rfl) rfl rfl (pq tk rfl (.plain rfl) (pq tk rfl (.plain rfl) (pq tk rfl (.plain rfl) (.run (.plain rfl) (k9a (vIb rfl rfl zwa h30)) (pq tk rfl (.plain rfl) (pq tk rfl (.plain rfl) (.run (.plain rfl) (k9a (K8a rfl rfl zwa h32)) .nil))))))) rfl ?_;obtain ⟨v33,h34,hr⟩:=zaa hr;refine cl (voa _ _ _ h34) rfl rfl<|rn tk 10 rfl<|ac 43 hr rfl (fun c35 hr=>?_) (fun c35 hr=>?_)
     .refine rn tk 10 rfl ?_;cases hr;exact ato rfl rfl rfl rfl
     refine rn tk 9 rfl<|jn (((w64 ((((w7a a1)).length:Int) - 1)),(w64 (s17+(w64 (v33+1)))))) hr rfl rfl
    refine rn tk 1 rfl<|jn (((w64 ((((w7a a1)).length:Int) - 1)),s17)) hr rfl rfl
   intro j23 hr;unfold qna at hr;refine rn tk 7 rfl<|al1 hr (fun s36=>[(0,.s a0),(7,.s ((w7a a1))),(8,.i j23.1),(9,.i j23.2),(12,.i s36)]) (fun s36=>[]) (.exit 3) (fun b37=>[(8,.i j23.1),(9,.i j23.2)]) (fun b37=>[]) rfl rfl (fun s36 x38 hr=>?_) (fun b37 hr=>?_)
   .unfold yva at hr;refine rn tk 9 rfl<|ac 51 hr rfl (fun c39 hr=>?_) (fun c39 hr=>?_)
    .refine rn tk 5 rfl ?_;obtain ⟨v40,h41,hr⟩:=zaa hr;obtain ⟨v42,h43,hr⟩:=zaa hr;refine dr 10 [(63,.u8 v42),(62,.i ((w64 (j23.1 - s36)))),(61,.i s36),(60,.i j23.1),(59,.s ((w7a a1))),(58,.u8 v40),(57,.i ((w64 (j23.2 - s36)))),(56,.i s36),(55,.i j23.2),(54,.s a0)] mixed (by kernel_rfl) rfl rfl (pq tk rfl (.plain rfl) (pq tk rfl (.plain rfl) (pq tk rfl (.plain rfl) (pq tk rfl (.plain rfl) (.run (.plain rfl) (k9a (K8a rfl rfl zwa h41)) (pq tk rfl (.plain rfl) (pq tk rfl (.plain rfl) (pq tk rfl (.plain rfl) (pq tk rfl (.plain rfl) (.run (.plain rfl) (k9a (K8a rfl rfl zwa h43)) .nil)))))))))) rfl<|rn tk 3 rfl<|ac 64 hr rfl (fun c44 hr=>?_) (fun c44 hr=>?_)
     .cases hr
     refine rn tk 8 rfl ?_;cases hr;exact atc rfl rfl
    refine rn tk 2 rfl ?_;cases hr;exact ato rfl rfl rfl rfl
   refine rn tk 15 rfl ?_;cases hr;exact ato rfl rfl rfl rfl
  refine rn tk 2 rfl ?_;cases hr;exact ato rfl rfl rfl rfl
 .refine rn tk 12 rfl ?_;cases hr;exact kr tk (.inr rfl) rfl rfl
 refine rn tk 4 rfl ?_;cases hr;exact kr tk (.inr rfl) rfl rfl
theorem yta(a0:Int)(r:Bool)(hr:zMa a0=some r):Run prog 210 [.i a0] (.bo r):=by
 unfold zMa at hr;refine rf (fn:=Tryz.f210) ⟨func210,rfl,by kernel_rfl⟩ rfl (fun _=>rfl) fun g0 hg=>?_
 refine rn tk 13 rfl ?_;cases hr;exact kr tk (.inr rfl) rfl rfl
theorem Kna(a0:Str)(a1:Str)(r:Int)(hr:vwa a0 a1=some r):Run prog 189 [.s a0,.s a1] (.i r):=by
 unfold vwa at hr;refine rf (fn:=f189) ⟨func189,rfl,by kernel_rfl⟩ rfl (fun _=>rfl) fun g0 hg=>?_
 refine rn tk 12 rfl<|ac 12 hr rfl (fun c1 hr=>?_) (fun c1 hr=>?_)
 .refine rn tk 7 rfl ?_;cases hr;exact kr tk (.inr rfl) rfl rfl
 refine rn tk 10 rfl<|ac 15 hr rfl (fun c2 hr=>?_) (fun c2 hr=>?_)
 .refine rn tk 3 rfl ?_;obtain ⟨v3,h4,hr⟩:=zaa hr;refine ws tk h4 rfl rfl rfl rfl<|wur tk rfl rfl rfl<|rn tk 3 rfl<|jb hr (fun j5=>[(0,.s a0),(5,.pv (.b (.int .i32 j5)))]) (fun j5=>[]) (fun j5 hr=>?_) (fun j5 hr=>?_)
  .refine rn tk 6 rfl<|ac 20 hr rfl (fun c6 hr=>?_) (fun c6 hr=>?_)
   .refine rn tk 3 rfl ?_;cases hr;exact jn _ rfl rfl rfl
   refine rn tk 1 rfl ?_;cases hr;exact jn _ rfl rfl rfl
  refine rn tk 4 rfl ?_;obtain ⟨v7,h8,hr⟩:=zaa hr;refine cl (yna _ _ _ h8) rfl rfl<|rn tk 5 rfl ?_;cases hr;exact kr tk (.inr rfl) rfl rfl
 refine rn tk 7 rfl ?_;obtain ⟨v9,h10,hr⟩:=zaa hr;refine cl (yta _ _ h10) rfl rfl<|rn tk 2 rfl<|ac 26 hr rfl (fun c11 hr=>?_) (fun c11 hr=>?_)
 .refine rn tk 3 rfl ?_;cases hr
 refine rn tk 6 rfl<|wr 1045 tk rfl rfl rfl rfl<|rn tk 3 rfl<|al2 hr (fun s12=>[(1,.s a1),(45,.ptr 1045 0)]) (fun s12=>[(1045,.it (strB a0) s12)]) (.exit 2) (fun b13=>[]) (fun b13=>[]) .ret (fun b14=>[(4,.i b14)]) (fun b14=>[]) rfl rfl (fun s12 x16 hr=>?_) (fun b13 hr=>?_) (fun b14 hr=>?_)
 .unfold qpa at hr;refine rn tk 2 rfl<|wnx hr rfl rfl rfl (fun c17 hr=>?_) (fun c17 hr=>?_)
  .refine rn tk 20 rfl ?_;obtain ⟨v18,h19,hr⟩:=zaa hr;refine cl (yna _ _ _ h19) rfl rfl<|rn tk 3 rfl<|ac 53 hr rfl (fun c20 hr=>?_) (fun c20 hr=>?_)
   .refine rn tk 8 rfl ?_;cases hr;exact ato rfl rfl rfl rfl
   refine rn tk 2 rfl ?_;cases hr;exact atc rfl rfl
  refine rn tk 7 rfl ?_;cases hr;exact ato rfl rfl rfl rfl
 .refine rn tk 8 rfl ?_;cases hr;exact kr tk (.inr rfl) rfl rfl
 refine rn tk 2 rfl ?_;cases hr;exact kr tk (.inr rfl) rfl rfl
theorem JZa(g:G)(vs:Array Value)(t:TypeId):Old (fun _=>False) g ⟨g.w.alloc (.cells vs t),fun k=>if k=g.w.heap.size then 0 else g.u k,g.loc⟩:=by
 have h:=QMa g vs t 0 0 (g.loc 0);have e:(g.alloc vs t 0 0 (g.loc 0))=⟨g.w.alloc (.cells vs t),fun k=>if k=g.w.heap.size then 0 else g.u k,g.loc⟩:=by
  unfold G.alloc
  congr 1
  funext k;split
  .rename_i hk;rw[hk]
  rfl
 rw[<-e];exact h
theorem qrb{g:G}(h:Wf g)(vs:Array Value)(t:TypeId):Wf ⟨g.w.alloc (.cells vs t),fun k=>if k=g.w.heap.size then 0 else g.u k,g.loc⟩:=by
 intro k hk;have hk:g.w.heap.size+1<=k:=by simpa using hk
 show (if k=g.w.heap.size then 0 else g.u k)=0;rw[if_neg (by omega)];exact h k (by omega)
theorem yvb{t:Str}(h:Jsa t=true):∀(j:Nat) b,(strB t).data.toList[j]? =some b->b.toNat < 128:=fun j b hb=>Jwa h (List.mem_of_getElem? hb)
theorem KMa(s t:Str)(r:Int)(hr:qba s t=some r):Run prog 189 [.s s,.s t] (.i r):=by
 unfold qba at hr;split at hr
 case isFalse=>cases hr
 rename_i hc;obtain ⟨h1,h2,h3,h4⟩:=hc;by_cases h8:s.length<=8
 .exact Kna s t r (by rw[kBb s t h8 h3 h2 h4];exact hr)
 cases hr;refine ⟨⟨_,_,⟨func189,rfl,by kernel_rfl⟩⟩,fun g vs hw hg ha=>?_⟩;obtain ⟨hsz,hrel⟩:=ha;obtain ⟨l⟩:=vs
 match l,hsz with
 | [x,y],_=>
  obtain rfl:=QCa (hrel 0 _ rfl);obtain rfl:=QCa (hrel 1 _ rfl);have h116:(prog.info? 193).map (fun i=>(i.zero,i.size))=some (some (.agg (Array.replicate 256 (.bool false))),256):=by kernel_rfl
  have hz:=(zero_of_info h116).1;refine callsIn_wide.2 ((Tryz.strings_IndexAny_long hz (strB s) (strB t) g.w (by rw[zKa];exact h3) (by rw[zKa];omega) (by rw[zKa];exact h1) (by rw[zKa];exact h2) (yvb h4)).mono ?_);rintro e w' ⟨rfl,rfl⟩;have o1:=JZa g (Lib.setCells t) 193;have w1:=qrb hw (Lib.setCells t) 193;have o2:=JZa ⟨g.w.alloc (.cells (Lib.setCells t) 193),fun k=>if k=g.w.heap.size then 0 else g.u k,g.loc⟩ (Lib.setCells t) 193;have w2:=qrb w1 (Lib.setCells t) 193;have o3:Old (fun _=>False) g _:=o1.trans (o2.mono (S' :=fun b=>False∨g.w.heap.size<=b) (by intro b _ hf;exact hf.elim));exact ⟨⟨_,_,_⟩,_,rfl,(by rfl),o3,w2,(by rfl),.pv (.b rfl)⟩
theorem ZAa(a0:Str)(a1:Str)(r:Bool)(hr:kla a0 a1=some r):Run prog 160 [.s a0,.s a1] (.bo r):=by
 unfold kla at hr;refine rf (fn:=Tryz.f160) ⟨func160,rfl,by kernel_rfl⟩ rfl (fun _=>rfl) fun g0 hg=>?_
 refine rn tk 9 rfl ?_;obtain ⟨v1,h2,hr⟩:=zaa hr;refine cl (KMa _ _ _ h2) rfl rfl<|rn tk 5 rfl ?_;cases hr;exact kr tk (.inr rfl) rfl rfl
theorem z3b(a0:Str)(r:Bool)(hr:Z6a a0=some r):Run prog 138 [.s a0] (.bo r):=by
 unfold Z6a at hr;refine rf (fn:=f138) ⟨func138,rfl,by kernel_rfl⟩ rfl (fun _=>rfl) fun g0 hg=>?_
 refine rn tk 8 rfl ?_;obtain ⟨v1,h2,hr⟩:=zaa hr;refine cl (ZAa _ _ _ h2) rfl rfl<|rn tk 4 rfl ?_;cases hr;exact kr tk (.inr rfl) rfl rfl
theorem Jaa(a0:Str)(r:Bool)(hr:jUa a0=some r):Run prog 114 [.s a0] (.bo r):=by
 unfold jUa at hr;refine rf (fn:=f114) ⟨func114,rfl,by kernel_rfl⟩ rfl (fun _=>rfl) fun g0 hg=>?_
 refine rn tk 5 rfl<|jb hr (fun j1=>[(2,.bo j1)]) (fun j1=>[]) (fun j1 hr=>?_) (fun j1 hr=>?_)
 .refine rn tk 2 rfl ?_;obtain ⟨v2,h3,hr⟩:=zaa hr;refine cl (z3b _ _ h3) rfl rfl<|rn tk 2 rfl<|bs 6 hr rfl (fun c4 hr=>?_) (fun c4 hr=>?_)
  .refine rn tk 3 rfl<|bs 9 hr rfl (fun c5 hr=>?_) (fun c5 hr=>?_)
   .refine rn tk 17 rfl ?_;cases hr;exact jn _ rfl rfl rfl
   refine rn tk 1 rfl ?_;obtain ⟨v6,h7,hr⟩:=zaa hr;refine ug rfl rfl rfl<|ws tk h7 rfl rfl rfl rfl ?_;obtain ⟨v8,h9,hr⟩:=zaa hr;refine ug rfl rfl rfl<|cl (vqa _ _ h9) rfl rfl<|rn tk 2 rfl<|bs 14 hr rfl (fun c10 hr=>?_) (fun c10 hr=>?_)
   .refine rn tk 4 rfl ?_;obtain ⟨v11,h12,hr⟩:=zaa hr;refine ug rfl rfl rfl<|ws tk h12 rfl rfl rfl rfl ?_;obtain ⟨v13,h14,hr⟩:=zaa hr;refine ug rfl rfl rfl<|cl (vqa _ _ h14) rfl rfl<|rn tk 6 rfl ?_;cases hr;exact jn _ rfl rfl rfl
   refine rn tk 12 rfl ?_;cases hr;exact jn _ rfl rfl rfl
  refine rn tk 20 rfl ?_;cases hr;exact jn _ rfl rfl rfl
 refine rn tk 1 rfl ?_;cases hr;exact kr tk (.inr rfl) rfl rfl
theorem ZBa(a0:Str)(a1:Str)(r:(List Str) × zva)(hr:yUa a0 a1=some r):Run prog 81 [.s a0,.s a1] (.tup [.l cS r.1,.agg [.i r.2.Code,.i r.2.Index]]):=by
 unfold yUa at hr;refine rf (fn:=f81) ⟨func81,rfl,by kernel_rfl⟩ rfl (fun _=>rfl) fun g0 hg=>?_
 refine rn tk 11 rfl ?_;obtain ⟨v1,h2,hr⟩:=zaa hr;refine cl (z2b _ _ h2) rfl rfl<|rn tk 4 rfl<|ac 12 hr rfl (fun c3 hr=>?_) (fun c3 hr=>?_)
 .refine rn tk 2 rfl ?_;obtain ⟨v4,h5,hr⟩:=zaa hr;refine cl (zqa _ _ _ h5) rfl rfl<|rn tk 7 rfl ?_;cases hr;exact kr tk (.inr rfl) rfl rfl
 refine rn tk 8 rfl<|ac 17 hr rfl (fun c6 hr=>?_) (fun c6 hr=>?_)
 .refine rn tk 2 rfl ?_;obtain ⟨v7,h8,hr⟩:=zaa hr;refine cl (zqa _ _ _ h8) rfl rfl<|rn tk 7 rfl ?_;cases hr;exact kr tk (.inr rfl) rfl rfl
 refine rn tk 3 rfl ?_;obtain ⟨v9,h10,hr⟩:=zaa hr;refine cl (Jaa _ _ h10) rfl rfl<|rn tk 4 rfl<|ac 22 hr rfl (fun c11 hr=>?_) (fun c11 hr=>?_)
 .refine rn tk 2 rfl ?_;obtain ⟨v12,h13,hr⟩:=zaa hr;refine cl (zqa _ _ _ h13) rfl rfl<|rn tk 7 rfl ?_;cases hr;exact kr tk (.inr rfl) rfl rfl
 refine rn tk 6 rfl ?_;obtain ⟨v14,h15,hr⟩:=zaa hr;refine wc h15 rfl rfl rfl<|rn tk 1 rfl ?_;obtain ⟨v16,h17,hr⟩:=zaa hr;refine wc h17 rfl rfl rfl<|rn tk 10 rfl ?_;refine qUa 1008 (d:=8) 9 1 rfl rfl rfl (hO ?_);refine rn tk 4 rfl<|al1 hr (fun s18=>[(5,.ptr 5 0),(6,.s s18.1),(7,.i s18.2.1),(8,.hs 1008 0)]) (fun s18=>[(1008,.row 9 false 1 (List.map cS s18.2.2)),(5,.cells [.i 0,.i 0])]) (.exit 1) (fun b19=>[(5,.ptr 5 0),(6,.s b19.1),(8,.hs 1008 0)]) (fun b19=>[(1008,.row 9 false 1 (List.map cS b19.2)),(5,.cells [.i 0,.i 0])]) rfl rfl (fun s18 x20 hr=>?_) (fun b19 hr=>?_)
 .unfold w9a at hr;refine rn tk 8 rfl<|ac 36 hr rfl (fun c21 hr=>?_) (fun c21 hr=>?_)
  .refine rn tk 7 rfl ?_;obtain ⟨v22,h23,hr⟩:=zaa hr;refine cl (Y9a _ _ _ h23) rfl rfl<|rn tk 10 rfl<|ac 41 hr rfl (fun c24 hr=>?_) (fun c24 hr=>?_)
   .refine rn tk 3 rfl ?_;cases hr;exact ato rfl rfl rfl rfl
   refine rn tk 7 rfl ?_;obtain ⟨v25,h26,hr⟩:=zaa hr;refine wscH tk h26 rfl rfl rfl rfl<|wz cS ([v25]:List Str) tk rfl rfl (fun _=>rfl) rfl rfl rfl ?_;obtain ⟨v27,h28,hr⟩:=zaa hr;refine wa tk h28 rfl rfl rfl rfl (fun _=>rfl) rfl rfl<|rn tk 6 rfl ?_;obtain ⟨v29,h30,hr⟩:=zaa hr;refine wscL tk h30 rfl rfl rfl rfl<|rn tk 4 rfl ?_;cases hr;exact atc rfl rfl
  refine rn tk 2 rfl ?_;cases hr;exact ato rfl rfl rfl rfl
 refine rn tk 6 rfl<|wz cS ([b19.1]:List Str) tk rfl rfl (fun _=>rfl) rfl rfl rfl ?_;obtain ⟨v31,h32,hr⟩:=zaa hr;refine wa tk h32 rfl rfl rfl rfl (fun _=>rfl) rfl rfl<|rn tk 7 rfl<|wnh tk rfl rfl rfl rfl<|rn tk 4 rfl ?_;refine ypa (d:=55) (F:=cS) (l:=v31) rfl rfl (hC ?_);refine al2 hr (fun s34=>[(5,.ptr 5 0),(8,.hs 1008 0),(55,.l cS v31),(56,.i ((v31.length:Int))),(57,.i s34)]) (fun s34=>[(1008,.row 9 false 1 (List.map cS v31)),(5,.cells [.i 0,.i 0])]) (.exit 3) (fun b35=>[(5,.ptr 5 0),(8,.hs 1008 0)]) (fun b35=>[(1008,.row 9 false 1 (List.map cS v31)),(5,.cells [.i 0,.i 0])]) .ret (fun b36=>[(4,.l cS b36.1),(5,.ptr 5 0)]) (fun b36=>[(5,.cells [.i b36.2.Code,.i b36.2.Index])]) rfl rfl (fun s34 x38 hr=>?_) (fun b35 hr=>?_) (fun b36 hr=>?_)
 .unfold jfa at hr;refine rn tk 6 rfl<|ac 58 hr rfl (fun c39 hr=>?_) (fun c39 hr=>?_)
  .refine rn tk 7 rfl ?_;obtain ⟨v40,h41,hr⟩:=zaa hr;refine wi tk h41 rfl rfl rfl rfl rfl<|rn tk 12 rfl<|ac 64 hr rfl (fun c42 hr=>?_) (fun c42 hr=>?_)
   .refine rn tk 3 rfl ?_;obtain ⟨v43,h44,hr⟩:=zaa hr;refine cl (zqa _ _ _ h44) rfl rfl<|rn tk 7 rfl ?_;cases hr;exact ato rfl rfl rfl rfl
   refine rn tk 7 rfl ?_;cases hr;exact atc rfl rfl
  refine rn tk 2 rfl ?_;cases hr;exact ato rfl rfl rfl rfl
 .refine rn tk 5 rfl ?_;obtain ⟨v45,h46,hr⟩:=zaa hr;refine cl (z2a _ h46) rfl rfl<|rn tk 4 rfl ?_;refine ypa (d:=4) (F:=cS) (l:=v31) rfl rfl (hC ?_);refine rn tk 1 rfl ?_;cases hr;exact kr tk (.inr rfl) rfl rfl
 refine rn tk 2 rfl ?_;cases hr;exact kr tk (.inr rfl) rfl rfl
theorem YPa(a0:Str)(r:Bool)(hr:wNa a0=some r):Run prog 170 [.s a0] (.bo r):=by
 unfold wNa at hr;refine rf (fn:=f170) ⟨func170,rfl,by kernel_rfl⟩ rfl (fun _=>rfl) fun g0 hg=>?_
 refine rn tk 8 rfl ?_;obtain ⟨v1,h2,hr⟩:=zaa hr;refine cl (ZBa _ _ _ h2) rfl rfl<|rn tk 11 rfl ?_;obtain ⟨v3,h4,hr⟩:=zaa hr;refine cl (zWa _ _ h4) rfl rfl<|rn tk 5 rfl ?_;cases hr;exact kr tk (.inr rfl) rfl rfl
theorem V1a(a0:Str)(r:zha × Bool)(hr:wta a0=some r):Run prog 151 [.s a0] (.tup [.agg [.s r.1.Name,.s r.1.Value],.bo r.2]):=by
 unfold wta at hr;refine rf (fn:=Tryz.f151) ⟨func151,rfl,by kernel_rfl⟩ rfl (fun _=>rfl) fun g0 hg=>?_
 refine rn tk 9 rfl ?_;obtain ⟨v1,h2,hr⟩:=zaa hr;refine cl (Kja _ _ _ h2) rfl rfl<|rn tk 12 rfl ?_;obtain ⟨v3,h4,hr⟩:=zaa hr;refine cl (Kma _ _ _ h4) rfl rfl<|rn tk 3 rfl<|jb hr (fun j5=>[(2,.ptr 2 0),(3,.bo j5)]) (fun j5=>[(2,.cells [.s v3,.s v1.2.1])]) (fun j5 hr=>?_) (fun j5 hr=>?_)
 .refine rn tk 6 rfl<|bs 19 hr rfl (fun c6 hr=>?_) (fun c6 hr=>?_)
  .refine rn tk 1 rfl ?_;obtain ⟨v7,h8,hr⟩:=zaa hr;refine ug rfl rfl rfl<|cl (YPa _ _ h8) rfl rfl<|rn tk 4 rfl ?_;cases hr;exact jn _ rfl rfl rfl
  refine rn tk 6 rfl ?_;cases hr;exact jn _ rfl rfl rfl
 refine rn tk 1 rfl ?_;cases hr;exact kr tk (.inr rfl) rfl rfl
theorem ywb{g:G}{l:List UInt8}{v:Value}(h:Rel g (.l cU l) v):∀n cap,v=.slice none n cap->n=0/\cap=0:=by
 intro n cap e;cases h with
 | pv h=>
  unfold pL at h;generalize l.map cU=elems at h;cases h with
  | @sl _ _ a cap2 size b off val hn h0 hc hz ha hu hcell h=>
   cases e;obtain ⟨h1,h2⟩:=h0 rfl;exact ⟨by rw[h2];rfl,h1⟩
theorem QFa(a:List UInt8)(c:UInt8)(r:Int)(hr:qCa a c=some r):Run prog 146 [.l cU a,.u8 c] (.i r):=by
 unfold qCa at hr;cases hr;refine ⟨⟨_,_,⟨func146,rfl,by kernel_rfl⟩⟩,fun g vs hw hg ha=>?_⟩;obtain ⟨hsz,hrel⟩:=ha;obtain ⟨l⟩:=vs
 match l,hsz with
 | [x,y],_=>
  have h0:Rel g (.l cU a) x:=hrel 0 _ rfl;obtain rfl:y=.int .u8 (c.toNat:Int):=kda (hrel 1 _ rfl);obtain ⟨ad,cap,rfl,hcap,hcell⟩:=QEa h0;refine callsIn_wide.2 ?_
  suffices hs:Calls prog 146 #[.slice ad a.length cap,.int .u8 (c.toNat:Int)] g.w fun e w' =>e=.returned (.int .i64 (Lib.indexByte a c))/\w' =g.w by
   refine hs.mono ?_;rintro e w' ⟨rfl,rfl⟩;exact ⟨g,_,rfl,(by intros;rfl),Old.refl _ g,hw,rfl,.pv (.b rfl)⟩
  by_cases hs:a=[]
  .subst hs;cases ad with
   | none=>
    obtain ⟨_,rfl⟩:=ywb h0 _ _ rfl;exact Tryz.bytes_IndexByte_nil _ g.w
   | some ad=>
    have:=Tryz.bytes_IndexByte_at ad 0 cap [] (c.toNat:Int) g.w rfl (fun i hi=>by omega);simpa[Lib.bytesOf]using this
  obtain ⟨b1,o1,rfl,hc1⟩:=hcell hs;have:=Tryz.bytes_IndexByte_at ⟨b1,o1,none⟩ a.length cap (nums a) (c.toNat:Int) g.w (by simp[nums]) hc1;rw[VXa]at this;simpa using this
theorem YQa(a0:List UInt8)(a1:List UInt8)(r:Bool)(hr:wLa a0 a1=some r):Run prog 125 [.l cU a0,.l cU a1] (.bo r):=by
 unfold wLa at hr;refine Ksa (fn:=f125) ⟨func125,rfl,by kernel_rfl⟩ rfl (fun _=>rfl) fun g0 hg=>?_
 refine kNa ?_;refine zHa ?_;refine zia rfl (zla (d:=4) rfl rfl zOa) ?_;refine zSa<|zDa ?_;refine kNa ?_;refine zHa ?_;refine zia rfl (zla (d:=5) rfl rfl zCa) ?_;refine zia rfl (zla (d:=6) rfl rfl (jOa rfl zka zAa zwa)) ?_;refine zia rfl (zla (d:=7) rfl rfl zCa) ?_;refine zia rfl (zla (d:=8) rfl rfl (jOa rfl zka zAa zwa)) ?_;refine zia rfl (zla (d:=9) rfl rfl (yHb (a:=a0) (b:=a1) rfl rfl)) ?_;refine zia rfl (zla (d:=4) rfl rfl zOa) ?_;refine zSa<|zDa ?_;refine WPa ?_;cases hr;exact kret' rfl (.cons (Voa rfl) .nil) rfl
theorem y3a(a0:List UInt8)(a1:List UInt8)(r:Bool)(hr:kJa a0 a1=some r):Run prog 94 [.l cU a0,.l cU a1] (.bo r):=by
 unfold kJa at hr;refine Ksa (fn:=f94) ⟨func94,rfl,by kernel_rfl⟩ rfl (fun _=>rfl) fun g0 hg=>?_
 refine kNa ?_;refine zHa ?_;refine zia rfl (zla (d:=4) rfl rfl zOa) ?_;refine zSa<|zDa ?_;obtain ⟨j1,hx,hy⟩:=zaa hr;refine jaa (fun j1=>[(4,.bo j1)]) (fun j1=>[]) (fun z=>j1=z) ?_ ?_
 .have hr:=hx;clear hx hy;refine zHa ?_;refine zia rfl (zla (d:=5) rfl rfl zCa) ?_;refine zia rfl (zla (d:=6) rfl rfl (jva (f:=cU) rfl zka.u)) ?_;refine zia rfl (zla (d:=7) rfl rfl zCa) ?_;refine zia rfl (zla (d:=8) rfl rfl (jva (f:=cU) rfl zka.u)) ?_;refine zia rfl (zla (d:=9) rfl rfl (ev_geq rfl rfl)) ?_;refine zia rfl (zla (d:=10) rfl rfl zCa)<|yKa (decide ((a1.length:Int)<=(a0.length:Int))) (fun c2=>?_) (fun c2=>?_)
  .replace hr:=ZSa c2 hr
   refine kja (d:=10) rfl rfl rfl c2 (zla (d:=11) rfl rfl zCa) ?_;refine kja (d:=10) rfl rfl rfl c2 (zla (d:=12) rfl rfl zCa) ?_;refine kja (d:=10) rfl rfl rfl c2 (zla (d:=13) rfl rfl (jva (f:=cU) rfl zka.u)) ?_;refine kja (d:=10) rfl rfl rfl c2 (zla (d:=14) rfl rfl zCa) ?_;refine kja (d:=10) rfl rfl rfl c2 (zla (d:=15) rfl rfl (jva (f:=cU) rfl zka.u)) ?_;refine kja (d:=10) rfl rfl rfl c2 (zla (d:=16) rfl rfl (z9b rfl rfl)) ?_;obtain ⟨v3,h4,hr⟩:=zaa hr;refine kja (d:=10) rfl rfl rfl c2 (zla (d:=17) rfl rfl (qEb (F:=cU) rfl rfl zka zAa (fun _=>rfl) h4)) ?_;refine kja (d:=10) rfl rfl rfl c2 (zla (d:=18) rfl rfl zCa) ?_;obtain ⟨v5,h6,hr⟩:=zaa hr;refine kja (d:=10) rfl rfl rfl c2 (WSa (k:=19) (YQa v3 a1 v5 h6) rfl rfl) ?_;refine zia rfl (zla (d:=20) rfl rfl (jLa rfl c2)) ?_;refine zia rfl (zla (d:=4) rfl rfl zOa) ?_;refine zSa ?_;cases hr;exact kma _ rfl (zfa rfl zBa) zga
  replace hr:=ZTa c2 hr
  refine ksa (d:=10) rfl rfl rfl c2 ?_;refine ksa (d:=10) rfl rfl rfl c2 ?_;refine ksa (d:=10) rfl rfl rfl c2 ?_;refine ksa (d:=10) rfl rfl rfl c2 ?_;refine ksa (d:=10) rfl rfl rfl c2 ?_;refine ksa (d:=10) rfl rfl rfl c2 ?_;refine ksa (d:=10) rfl rfl rfl c2 ?_;refine ksa (d:=10) rfl rfl rfl c2 ?_;refine ksa (d:=10) rfl rfl rfl c2 ?_;refine zia rfl (zla (d:=20) rfl rfl (w4a rfl c2)) ?_;refine zia rfl (zla (d:=4) rfl rfl zOa) ?_;refine zSa ?_;cases hr;exact kma _ rfl (zfa rfl zBa) zga
 rintro _ rfl;have hr:=hy;clear hx hy;refine WPa ?_;cases hr;exact kret' rfl (.cons (Voa rfl) .nil) rfl
theorem KNa(a0:List UInt8)(a1:List UInt8)(r:List UInt8)(hr:kQa a0 a1=some r):Run prog 168 [.l cU a0,.l cU a1] (.l cU r):=by
 unfold kQa at hr;refine rf (fn:=f168) ⟨func168,rfl,by kernel_rfl⟩ rfl (fun _=>rfl) fun g0 hg=>?_
 refine rn tk 10 rfl ?_;obtain ⟨v1,h2,hr⟩:=zaa hr;refine cl (y3a _ _ _ h2) rfl rfl<|rn tk 2 rfl<|ac 7 hr rfl (fun c3 hr=>?_) (fun c3 hr=>?_)
 .refine rn tk 4 rfl<|wn tk rfl rfl rfl<|rn tk 1 rfl<|wn tk rfl rfl rfl<|rn tk 1 rfl ?_;obtain ⟨v4,h5,hr⟩:=zaa hr;refine wlH tk h5 rfl rfl rfl (fun _=>rfl) rfl<|rn tk 5 rfl ?_;cases hr;exact kr tk (.inr rfl) rfl rfl
 refine rn tk 9 rfl ?_;cases hr;exact kr tk (.inr rfl) rfl rfl
theorem YRa(a0:List UInt8)(r:Str × Int)(hr:yWa a0=some r):Run prog 150 [.l cU a0] (.tup [.s r.1,.i r.2]):=by
 unfold yWa at hr;refine rf (fn:=Tryz.f150) ⟨func150,rfl,by kernel_rfl⟩ rfl (fun _=>rfl) fun g0 hg=>?_
 refine rn tk 9 rfl ?_;obtain ⟨v1,h2,hr⟩:=zaa hr;refine cl (QFa _ _ _ h2) rfl rfl<|rn tk 10 rfl<|ac 8 hr rfl (fun c3 hr=>?_) (fun c3 hr=>?_)
 .refine rn tk 3 rfl<|wb tk rfl rfl rfl<|rn tk 1 rfl<|wn tk rfl rfl rfl<|rn tk 6 rfl ?_;cases hr;exact kr tk (.inr rfl) rfl rfl
 refine rn tk 6 rfl ?_;obtain ⟨v4,h5,hr⟩:=zaa hr;refine wlH tk h5 rfl rfl rfl (fun _=>rfl) rfl ?_;refine jba rfl (QQa (F:=cU) (l:=([(13:UInt8)]:List UInt8)) zka zAa rfl (fun _=>rfl) rfl rfl) zka zAa (zua rfl) (zua rfl) rfl (hO ?_);obtain ⟨v6,h7,hr⟩:=zaa hr;refine cl (KNa _ _ _ h7) rfl rfl<|wb tk rfl rfl rfl<|rn tk 7 rfl ?_;cases hr;exact kr tk (.inr rfl) rfl rfl
theorem YSa(a0:List UInt8)(r:(List zha) × Int × zva)(hr:Zma a0=some r):Run prog 122 [.l cU a0] (.tup [.l zha.pc r.1,.i r.2.1,.agg [.i r.2.2.Code,.i r.2.2.Index]]):=by
 unfold Zma at hr;refine rf (fn:=f122) ⟨func122,rfl,by kernel_rfl⟩ rfl (fun _=>rfl) fun g0 hg=>?_
 refine rn tk 11 rfl<|wn tk rfl rfl rfl<|rn tk 3 rfl<|ac 16 hr rfl (fun c1 hr=>?_) (fun c1 hr=>?_)
 .refine rn tk 2 rfl ?_;obtain ⟨v2,h3,hr⟩:=zaa hr;refine cl (zqa _ _ _ h3) rfl rfl<|rn tk 7 rfl ?_;cases hr;exact kr tk (.inr rfl) rfl rfl
 refine rn tk 5 rfl ?_;refine wIa 1005 (d:=5) 87 2 rfl rfl rfl (hO ?_);refine rn tk 9 rfl<|al1 hr (fun s4=>[(0,.l cU a0),(4,.ptr 4 0),(5,.hs 1005 0),(6,.i s4.1)]) (fun s4=>[(1005,.row 87 true 2 (List.map zha.pc s4.2)),(4,.cells [.i 0,.i 0])]) (.exit 0) (fun b5=>[(4,.ptr 4 0),(5,.hs 1005 0),(6,.i b5.1)]) (fun b5=>[(1005,.row 87 true 2 (List.map zha.pc b5.2)),(4,.cells [.i 0,.i 0])]) rfl rfl (fun s4 x6 hr=>?_) (fun b5 hr=>?_)
 .unfold vQa at hr;refine rn tk 5 rfl<|wn tk rfl rfl rfl<|rn tk 3 rfl<|ac 21 hr rfl (fun c7 hr=>?_) (fun c7 hr=>?_)
  .refine rn tk 7 rfl ?_;obtain ⟨v8,h9,hr⟩:=zaa hr;refine wlL tk h9 rfl rfl rfl (fun _=>rfl) rfl ?_;obtain ⟨v10,h11,hr⟩:=zaa hr;refine cl (YRa _ _ h11) rfl rfl<|rn tk 14 rfl<|ac 30 hr rfl (fun c12 hr=>?_) (fun c12 hr=>?_)
   .refine rn tk 11 rfl ?_;cases hr;exact ato rfl rfl rfl rfl
   refine rn tk 3 rfl<|jb hr (fun j13=>[(0,.l cU a0),(4,.ptr 4 0),(5,.hs 1005 0),(6,.i s4.1),(7,.s v10.1),(8,.i v10.2),(41,.bo j13)]) (fun j13=>[(1005,.row 87 true 2 (List.map zha.pc s4.2)),(4,.cells [.i 0,.i 0])]) (fun j13 hr=>?_) (fun j13 hr=>?_)
   .refine rn tk 2 rfl ?_;obtain ⟨v14,h15,hr⟩:=zaa hr;refine ws tk h15 rfl rfl rfl rfl ?_;obtain ⟨v16,h17,hr⟩:=zaa hr;refine cl (vqa _ _ h17) rfl rfl<|rn tk 1 rfl<|bs 37 hr rfl (fun c18 hr=>?_) (fun c18 hr=>?_)
    .refine rn tk 1 rfl<|ug rfl rfl rfl<|wnh tk rfl rfl rfl rfl<|rn tk 3 rfl ?_;cases hr;exact jn _ rfl rfl rfl
    refine rn tk 5 rfl ?_;cases hr;exact jn _ rfl rfl rfl
   refine ac 41 hr rfl (fun c19 hr=>?_) (fun c19 hr=>?_)
   .refine rn tk 4 rfl<|wnh tk rfl rfl rfl rfl<|rn tk 1 rfl ?_;obtain ⟨v20,h21,hr⟩:=zaa hr;refine wih tk h21 rfl rfl rfl rfl rfl<|rn tk 1 rfl ?_;obtain ⟨v22,h23,hr⟩:=zaa hr;refine wq (zcb (F:=zha.pc) (l:=s4.2) (n:=((w64 ((s4.2.length:Int) - 1)))) (j:=1) rfl rfl zwa rfl h23 rfl) rfl rfl rfl<|rn tk 1 rfl ?_;obtain ⟨v24,h25,hr⟩:=zaa hr;refine wc h25 rfl rfl rfl ?_;obtain ⟨v26,h27,hr⟩:=zaa hr;refine wih tk h27 rfl rfl rfl rfl rfl<|rn tk 1 rfl ?_;obtain ⟨v28,h29,hr⟩:=zaa hr;refine wo (Qda (F:=zha.pc) (l:=s4.2) (n:=((w64 ((s4.2.length:Int) - 1)))) (j:=1) (v:=v28) (v' :=((zha.mk v28.Name v24))) (pcs:=[pS v24]) rfl rfl rfl zwa rfl h29 rfl rfl) rfl<|rn tk 13 rfl ?_;cases hr;exact atc rfl rfl
   refine rn tk 5 rfl ?_;obtain ⟨v30,h31,hr⟩:=zaa hr;refine cl (V1a _ _ h31) rfl rfl<|rn tk 15 rfl<|ac 62 hr rfl (fun c32 hr=>?_) (fun c32 hr=>?_)
   .refine rn tk 3 rfl ?_;cases hr;exact ato rfl rfl rfl rfl
   refine rn tk 6 rfl<|wz zha.pc ([v30.1]:List zha) tk rfl rfl (fun _=>rfl) rfl rfl rfl ?_;obtain ⟨v33,h34,hr⟩:=zaa hr;refine wa tk h34 rfl rfl rfl rfl (fun _=>rfl) rfl rfl<|rn tk 10 rfl ?_;cases hr;exact atc rfl rfl
  refine rn tk 2 rfl ?_;cases hr;exact ato rfl rfl rfl rfl
 refine rn tk 6 rfl<|wnh tk rfl rfl rfl rfl<|rn tk 3 rfl<|ac 72 hr rfl (fun c35 hr=>?_) (fun c35 hr=>?_)
 .refine rn tk 2 rfl ?_;obtain ⟨v36,h37,hr⟩:=zaa hr;refine cl (zqa _ _ _ h37) rfl rfl<|rn tk 7 rfl ?_;cases hr;exact kr tk (.inr rfl) rfl rfl
 refine rn tk 4 rfl<|wz cS ([([0]:Str),([32]:Str),([13]:Str),([32]:Str)]:List Str) tk rfl rfl (fun _=>rfl) rfl rfl rfl<|wo (zya (k:=75) (Zza 7075) rfl rfl zga) rfl<|rn tk 7 rfl<|wnh tk rfl rfl rfl rfl<|rn tk 4 rfl<|al2 hr (fun s38=>[(4,.ptr 4 0),(5,.hs 1005 0),(6,.i b5.1),(11,.ptr 7075 0),(77,.i ((b5.2.length:Int))),(78,.i s38.1)]) (fun s38=>[(7075,.opq 0 5 RpQ),(1005,.row 87 true 2 (List.map zha.pc s38.2)),(4,.cells [.i 0,.i 0])]) (.exit 2) (fun b39=>[(4,.ptr 4 0),(5,.hs 1005 0),(6,.i b5.1)]) (fun b39=>[(1005,.row 87 true 2 (List.map zha.pc b39)),(4,.cells [.i 0,.i 0])]) .ret (fun b40=>[(2,.l zha.pc b40.1),(3,.i b40.2.1),(4,.ptr 4 0)]) (fun b40=>[(4,.cells [.i b40.2.2.Code,.i b40.2.2.Index])]) rfl rfl (fun s38 x42 hr=>?_) (fun b39 hr=>?_) (fun b40 hr=>?_)
 .unfold vRa at hr;refine rn tk 6 rfl<|ac 79 hr rfl (fun c43 hr=>?_) (fun c43 hr=>?_)
  .refine rn tk 15 rfl ?_;obtain ⟨v44,h45,hr⟩:=zaa hr;refine wih tk h45 rfl rfl rfl rfl rfl<|rn tk 1 rfl ?_;obtain ⟨v46,h47,hr⟩:=zaa hr;refine wq (zcb (F:=zha.pc) (l:=s38.2) (n:=s38.1) (j:=1) rfl rfl zwa rfl h47 rfl) rfl rfl rfl ?_;obtain ⟨v48,h49,hr⟩:=zaa hr;refine wo (zya (k:=87) (yFa 7075 v46.Value v48 h49) rfl rfl (zba rfl zga)) rfl ?_;obtain ⟨v50,h51,hr⟩:=zaa hr;refine cl (Wxa _ _ _ h51) rfl rfl<|rn tk 11 rfl<|ac 91 hr rfl (fun c52 hr=>?_) (fun c52 hr=>?_)
   .refine rn tk 3 rfl ?_;obtain ⟨v53,h54,hr⟩:=zaa hr;refine cl (zqa _ _ _ h54) rfl rfl<|rn tk 9 rfl ?_;cases hr;exact ato rfl rfl rfl rfl
   refine rn tk 6 rfl ?_;obtain ⟨v55,h56,hr⟩:=zaa hr;refine wih tk h56 rfl rfl rfl rfl rfl<|rn tk 1 rfl ?_;obtain ⟨v57,h58,hr⟩:=zaa hr;refine wo (Qda (F:=zha.pc) (l:=s38.2) (n:=s38.1) (j:=1) (v:=v57) (v' :=((zha.mk v57.Name v50))) (pcs:=[pS v50]) rfl rfl rfl zwa rfl h58 rfl rfl) rfl<|rn tk 7 rfl ?_;cases hr;exact atc rfl rfl
  refine rn tk 2 rfl ?_;cases hr;exact ato rfl rfl rfl rfl
 .refine rn tk 6 rfl ?_;obtain ⟨v59,h60,hr⟩:=zaa hr;refine cl (z2a _ h60) rfl rfl<|rn tk 5 rfl ?_;refine zbb 1005 rfl (hC ?_);refine ypa (d:=2) (F:=zha.pc) (l:=b39) rfl rfl (hC ?_);refine rn tk 1 rfl ?_;cases hr;exact kr tk (.inr rfl) rfl rfl
 refine rn tk 2 rfl ?_;cases hr;exact kr tk (.inr rfl) rfl rfl
theorem QGa(a0:List zha)(r:zva)(hr:vga a0=some r):Run prog 79 [.l zha.pc a0] (.agg [.i r.Code,.i r.Index]):=by
 unfold vga at hr;refine rf (fn:=f79) ⟨func79,rfl,by kernel_rfl⟩ rfl (fun _=>rfl) fun g0 hg=>?_
 refine rn tk 9 rfl<|wn tk rfl rfl rfl<|rn tk 3 rfl<|ac 9 hr rfl (fun c1 hr=>?_) (fun c1 hr=>?_)
 .refine rn tk 2 rfl ?_;obtain ⟨v2,h3,hr⟩:=zaa hr;refine cl (zqa _ _ _ h3) rfl rfl<|rn tk 5 rfl ?_;cases hr;exact kr tk (.inr rfl) rfl rfl
 refine rn tk 6 rfl<|wn tk rfl rfl rfl<|rn tk 4 rfl<|al2 hr (fun s4=>[(2,.ptr 2 0),(11,.l zha.pc a0),(12,.i ((a0.length:Int))),(13,.i s4)]) (fun s4=>[(2,.cells [.i 0,.i 0])]) (.exit 0) (fun b5=>[(2,.ptr 2 0)]) (fun b5=>[(2,.cells [.i 0,.i 0])]) .ret (fun b6=>[(2,.ptr 2 0)]) (fun b6=>[(2,.cells [.i b6.Code,.i b6.Index])]) rfl rfl (fun s4 x8 hr=>?_) (fun b5 hr=>?_) (fun b6 hr=>?_)
 .unfold q5a at hr;refine rn tk 6 rfl<|ac 14 hr rfl (fun c9 hr=>?_) (fun c9 hr=>?_)
  .refine rn tk 7 rfl ?_;obtain ⟨v10,h11,hr⟩:=zaa hr;refine wi tk h11 rfl rfl rfl rfl rfl<|rn tk 12 rfl ?_;obtain ⟨v12,h13,hr⟩:=zaa hr;refine cl (ZBa _ _ _ h13) rfl rfl<|rn tk 11 rfl ?_;obtain ⟨v14,h15,hr⟩:=zaa hr;refine cl (zWa _ _ h15) rfl rfl<|rn tk 2 rfl<|ac 27 hr rfl (fun c16 hr=>?_) (fun c16 hr=>?_)
   .refine rn tk 5 rfl ?_;obtain ⟨v17,h18,hr⟩:=zaa hr;refine cl (zqa _ _ _ h18) rfl rfl<|rn tk 6 rfl ?_;cases hr;exact ato rfl rfl rfl rfl
   refine rn tk 7 rfl ?_;cases hr;exact atc rfl rfl
  refine rn tk 2 rfl ?_;cases hr;exact ato rfl rfl rfl rfl
 .refine rn tk 4 rfl ?_;obtain ⟨v19,h20,hr⟩:=zaa hr;refine cl (z2a _ h20) rfl rfl<|rn tk 4 rfl ?_;cases hr;exact kr tk (.inr rfl) rfl rfl
 refine rn tk 2 rfl ?_;cases hr;exact kr tk (.inr rfl) rfl rfl
theorem Jba(a0:List UInt8)(r:Int)(hr:jWa a0=some r):Run prog 112 [.l cU a0] (.i r):=by
 unfold jWa at hr;refine rf (fn:=f112) ⟨func112,rfl,by kernel_rfl⟩ rfl (fun _=>rfl) fun g0 hg=>?_
 refine rn tk 17 rfl<|al2 hr (fun s1=>[(0,.l cU a0),(3,.i s1.1),(4,.i s1.2)]) (fun s1=>[]) (.exit 0) (fun b2=>[]) (fun b2=>[]) .ret (fun b3=>[(2,.i b3)]) (fun b3=>[]) rfl rfl (fun s1 x5 hr=>?_) (fun b2 hr=>?_) (fun b3 hr=>?_)
 .unfold vxa at hr;refine rn tk 5 rfl<|wn tk rfl rfl rfl<|rn tk 3 rfl<|ac 9 hr rfl (fun c6 hr=>?_) (fun c6 hr=>?_)
  .refine rn tk 2 rfl<|jk (fun j7=>[(0,.l cU a0),(3,.i j7.1),(4,.i j7.2)]) (fun j7=>[]) (fun j7=>wqa j7=some x5) ?_ ?_
   .refine rn tk 5 rfl ?_;obtain ⟨v8,h9,hr⟩:=zaa hr;refine wi tk h9 rfl rfl rfl rfl rfl<|rn tk 5 rfl<|jb hr (fun j10=>[(0,.l cU a0),(3,.i s1.1),(4,.i s1.2),(5,.u8 v8),(32,.bo j10)]) (fun j10=>[]) (fun j10 hr=>?_) (fun j10 hr=>?_)
    .refine rn tk 4 rfl<|bs 18 hr rfl (fun c11 hr=>?_) (fun c11 hr=>?_)
     .refine rn tk 3 rfl<|ug rfl rfl rfl<|wn tk rfl rfl rfl<|rn tk 3 rfl<|bs 25 hr rfl (fun c12 hr=>?_) (fun c12 hr=>?_)
      .refine rn tk 3 rfl ?_;obtain ⟨v13,h14,hr⟩:=zaa hr;refine ug rfl rfl rfl<|wi tk h14 rfl rfl rfl rfl rfl<|rn tk 4 rfl ?_;cases hr;exact jn _ rfl rfl rfl
      refine rn tk 8 rfl ?_;cases hr;exact jn _ rfl rfl rfl
     refine rn tk 15 rfl ?_;cases hr;exact jn _ rfl rfl rfl
    refine ac 32 hr rfl (fun c15 hr=>?_) (fun c15 hr=>?_)
    .refine rn tk 15 rfl<|jn ((0,(w64 (s1.2+1)))) hr rfl rfl
    refine rn tk 3 rfl<|jb hr (fun j16=>[(0,.l cU a0),(3,.i s1.1),(4,.i s1.2),(40,.bo j16)]) (fun j16=>[]) (fun j16 hr=>?_) (fun j16 hr=>?_)
    .refine rn tk 4 rfl<|bs 37 hr rfl (fun c17 hr=>?_) (fun c17 hr=>?_)
     .refine rn tk 4 rfl ?_;cases hr;exact jn _ rfl rfl rfl
     refine rn tk 4 rfl ?_;cases hr;exact jn _ rfl rfl rfl
    refine ac 40 hr rfl (fun c18 hr=>?_) (fun c18 hr=>?_)
    .refine rn tk 9 rfl ?_;cases hr;exact ato rfl rfl rfl rfl
    refine rn tk 15 rfl<|ac 44 hr rfl (fun c19 hr=>?_) (fun c19 hr=>?_)
    .refine rn tk 8 rfl ?_;cases hr;exact ato rfl rfl rfl rfl
    refine rn tk 2 rfl<|jn (((w64 (s1.1+1)),s1.2)) hr rfl rfl
   intro j7 hr;unfold wqa at hr;refine rn tk 5 rfl ?_;cases hr;exact atc rfl rfl
  refine rn tk 2 rfl ?_;cases hr;exact ato rfl rfl rfl rfl
 .refine rn tk 8 rfl ?_;cases hr;exact kr tk (.inr rfl) rfl rfl
 refine rn tk 2 rfl ?_;cases hr;exact kr tk (.inr rfl) rfl rfl
theorem Wya(a0:List UInt8)(r:zva)(hr:yaa a0=some r):Run prog 80 [.l cU a0] (.agg [.i r.Code,.i r.Index]):=by
 unfold yaa at hr;refine rf (fn:=f80) ⟨func80,rfl,by kernel_rfl⟩ rfl (fun _=>rfl) fun g0 hg=>?_
 refine rn tk 9 rfl ?_;obtain ⟨v1,h2,hr⟩:=zaa hr;refine cl (Jba _ _ h2) rfl rfl<|rn tk 9 rfl<|ac 5 hr rfl (fun c3 hr=>?_) (fun c3 hr=>?_)
 .refine rn tk 2 rfl ?_;obtain ⟨v4,h5,hr⟩:=zaa hr;refine cl (zqa _ _ _ h5) rfl rfl<|rn tk 6 rfl ?_;cases hr;exact kr tk (.inr rfl) rfl rfl
 refine rn tk 6 rfl<|ac 8 hr rfl (fun c6 hr=>?_) (fun c6 hr=>?_)
 .refine rn tk 2 rfl ?_;obtain ⟨v7,h8,hr⟩:=zaa hr;refine cl (zqa _ _ _ h8) rfl rfl<|rn tk 6 rfl ?_;cases hr;exact kr tk (.inr rfl) rfl rfl
 refine rn tk 5 rfl ?_;obtain ⟨v9,h10,hr⟩:=zaa hr;refine cl (z2a _ h10) rfl rfl<|rn tk 4 rfl ?_;cases hr;exact kr tk (.inr rfl) rfl rfl
theorem V2a(a0:zsa)(r:List UInt8)(hr:wpa a0=some r):Run prog 54 [.agg [.l zha.pc a0.Fields,.l cU a0.Body]] (.l cU r):=by
 unfold wpa at hr;refine rf (fn:=f54) ⟨func54,rfl,by kernel_rfl⟩ rfl (fun _=>rfl) fun g0 hg=>?_
 refine rn tk 9 rfl ?_;refine qUa 1003 (d:=3) 5 1 rfl rfl rfl (hO ?_);refine rn tk 7 rfl<|wn tk rfl rfl rfl<|rn tk 4 rfl<|al1 hr (fun s1=>[(1,.ptr 1 0),(3,.hs 1003 0),(11,.l zha.pc a0.Fields),(12,.i ((a0.Fields.length:Int))),(13,.i s1.1)]) (fun s1=>[(1003,.row 5 false 1 (List.map cU s1.2)),(1,.cells [.l zha.pc a0.Fields,.l cU a0.Body])]) (.exit 0) (fun b2=>[(1,.ptr 1 0),(3,.hs 1003 0)]) (fun b2=>[(1003,.row 5 false 1 (List.map cU b2)),(1,.cells [.l zha.pc a0.Fields,.l cU a0.Body])]) rfl rfl (fun s1 x3 hr=>?_) (fun b2 hr=>?_)
 .unfold qQa at hr;refine rn tk 6 rfl<|ac 14 hr rfl (fun c4 hr=>?_) (fun c4 hr=>?_)
  .refine rn tk 6 rfl ?_;obtain ⟨v5,h6,hr⟩:=zaa hr;refine wi tk h6 rfl rfl rfl rfl rfl<|rn tk 11 rfl ?_;obtain ⟨v7,h8,hr⟩:=zaa hr;refine cl (ZBa _ _ _ h8) rfl rfl<|rn tk 11 rfl<|wn tk rfl rfl rfl<|rn tk 4 rfl<|al1 hr (fun s9=>[(1,.ptr 1 0),(3,.hs 1003 0),(11,.l zha.pc a0.Fields),(12,.i ((a0.Fields.length:Int))),(13,.i s1.1),(25,.l cS v7.1),(26,.i ((v7.1.length:Int))),(27,.i s9.1)]) (fun s9=>[(1003,.row 5 false 1 (List.map cU s9.2)),(1,.cells [.l zha.pc a0.Fields,.l cU a0.Body])]) (.exit 2) (fun b10=>[(1,.ptr 1 0),(3,.hs 1003 0),(11,.l zha.pc a0.Fields),(12,.i ((a0.Fields.length:Int))),(13,.i s1.1)]) (fun b10=>[(1003,.row 5 false 1 (List.map cU b10)),(1,.cells [.l zha.pc a0.Fields,.l cU a0.Body])]) rfl rfl (fun s9 x11 hr=>?_) (fun b10 hr=>?_)
   .unfold qPa at hr;refine rn tk 6 rfl<|ac 28 hr rfl (fun c12 hr=>?_) (fun c12 hr=>?_)
    .refine rn tk 6 rfl ?_;obtain ⟨v13,h14,hr⟩:=zaa hr;refine wi tk h14 rfl rfl rfl rfl rfl<|rn tk 7 rfl ?_;obtain ⟨v15,h16,hr⟩:=zaa hr;refine wo (v9a (k:=33) (l:=s9.2) (s:=v13) (lim:=140737488355328) rfl rfl rfl rfl zka zwa.u zAa rfl h16) rfl<|wz cU ([(13:UInt8),(10:UInt8)]:List UInt8) tk rfl rfl (fun _=>rfl) rfl rfl rfl ?_;obtain ⟨v17,h18,hr⟩:=zaa hr;refine wa tk h18 rfl rfl rfl rfl (fun _=>rfl) rfl rfl<|rn tk 8 rfl ?_;cases hr;exact atc rfl rfl
    refine rn tk 2 rfl ?_;cases hr;exact ato rfl rfl rfl rfl
   refine rn tk 7 rfl ?_;cases hr;exact atc rfl rfl
  refine rn tk 2 rfl ?_;cases hr;exact ato rfl rfl rfl rfl
 refine rn tk 3 rfl ?_;obtain ⟨v19,h20,hr⟩:=zaa hr;obtain ⟨v21,h22,hr⟩:=zaa hr;refine qIb [([false,false,false,false,false,false,false],[(1,.ptr 1 0),(3,.hs 1003 0)],[(1003,.row 5 false 1 (List.map cU b2)),(1,.cells [.l zha.pc a0.Fields,.l cU a0.Body])]),([true,false,false,false,false,false,false],[(1,.ptr 1 0),(3,.hs 1003 0),(38,.hs 1003 0)],[(1003,.row 5 false 1 (List.map cU b2)),(1,.cells [.l zha.pc a0.Fields,.l cU a0.Body])]),([false,true,false,false,false,false,false],[(1,.ptr 1 0),(3,.hs 1003 0),(39,.l cU (([(13:UInt8),(10:UInt8)]:List UInt8)))],[(1003,.row 5 false 1 (List.map cU b2)),(1,.cells [.l zha.pc a0.Fields,.l cU a0.Body])]),([false,false,false,true,false,false,false],[(1,.ptr 1 0),(3,.hs 1003 0),(41,.ptr 1 1)],[(1003,.row 5 false 1 (List.map cU b2)),(1,.cells [.l zha.pc a0.Fields,.l cU a0.Body])]),([true,true,false,false,false,false,false],[(1,.ptr 1 0),(3,.hs 1003 0),(38,.hs 1003 0),(39,.l cU (([(13:UInt8),(10:UInt8)]:List UInt8)))],[(1003,.row 5 false 1 (List.map cU b2)),(1,.cells [.l zha.pc a0.Fields,.l cU a0.Body])]),([true,false,false,true,false,false,false],[(1,.ptr 1 0),(3,.hs 1003 0),(38,.hs 1003 0),(41,.ptr 1 1)],[(1003,.row 5 false 1 (List.map cU b2)),(1,.cells [.l zha.pc a0.Fields,.l cU a0.Body])]),([false,true,false,true,false,false,false],[(1,.ptr 1 0),(3,.hs 1003 0),(39,.l cU (([(13:UInt8),(10:UInt8)]:List UInt8))),(41,.ptr 1 1)],[(1003,.row 5 false 1 (List.map cU b2)),(1,.cells [.l zha.pc a0.Fields,.l cU a0.Body])]),([false,false,false,true,true,false,false],[(1,.ptr 1 0),(3,.hs 1003 0),(41,.ptr 1 1),(42,.l cU a0.Body)],[(1003,.row 5 false 1 (List.map cU b2)),(1,.cells [.l zha.pc a0.Fields,.l cU a0.Body])]),([true,true,true,false,false,false,false],[(1,.ptr 1 0),(39,.l cU (([(13:UInt8),(10:UInt8)]:List UInt8))),(40,.hs 1003 0)],[(1003,.row 5 false 1 (List.map cU v19)),(1,.cells [.l zha.pc a0.Fields,.l cU a0.Body])]),([true,true,false,true,false,false,false],[(1,.ptr 1 0),(3,.hs 1003 0),(38,.hs 1003 0),(39,.l cU (([(13:UInt8),(10:UInt8)]:List UInt8))),(41,.ptr 1 1)],[(1003,.row 5 false 1 (List.map cU b2)),(1,.cells [.l zha.pc a0.Fields,.l cU a0.Body])]),([true,false,false,true,true,false,false],[(1,.ptr 1 0),(3,.hs 1003 0),(38,.hs 1003 0),(41,.ptr 1 1),(42,.l cU a0.Body)],[(1003,.row 5 false 1 (List.map cU b2)),(1,.cells [.l zha.pc a0.Fields,.l cU a0.Body])]),([false,true,false,true,true,false,false],[(1,.ptr 1 0),(3,.hs 1003 0),(39,.l cU (([(13:UInt8),(10:UInt8)]:List UInt8))),(41,.ptr 1 1),(42,.l cU a0.Body)],[(1003,.row 5 false 1 (List.map cU b2)),(1,.cells [.l zha.pc a0.Fields,.l cU a0.Body])]),([true,true,true,true,false,false,false],[(1,.ptr 1 0),(39,.l cU (([(13:UInt8),(10:UInt8)]:List UInt8))),(40,.hs 1003 0),(41,.ptr 1 1)],[(1003,.row 5 false 1 (List.map cU v19)),(1,.cells [.l zha.pc a0.Fields,.l cU a0.Body])]),([true,true,false,true,true,false,false],[(1,.ptr 1 0),(3,.hs 1003 0),(38,.hs 1003 0),(39,.l cU (([(13:UInt8),(10:UInt8)]:List UInt8))),(41,.ptr 1 1),(42,.l cU a0.Body)],[(1003,.row 5 false 1 (List.map cU b2)),(1,.cells [.l zha.pc a0.Fields,.l cU a0.Body])]),([true,true,true,true,true,false,false],[(1,.ptr 1 0),(39,.l cU (([(13:UInt8),(10:UInt8)]:List UInt8))),(40,.hs 1003 0),(41,.ptr 1 1),(42,.l cU a0.Body)],[(1003,.row 5 false 1 (List.map cU v19)),(1,.cells [.l zha.pc a0.Fields,.l cU a0.Body])]),([true,true,true,true,true,true,false],[(1,.ptr 1 0),(39,.l cU (([(13:UInt8),(10:UInt8)]:List UInt8))),(41,.ptr 1 1),(42,.l cU a0.Body),(43,.hs 1003 0)],[(1003,.row 5 false 1 (List.map cU v21)),(1,.cells [.l zha.pc a0.Fields,.l cU a0.Body])]),([true,true,true,true,true,true,true],[(1,.ptr 1 0),(2,.hs 1003 0),(39,.l cU (([(13:UInt8),(10:UInt8)]:List UInt8))),(41,.ptr 1 1),(42,.l cU a0.Body),(43,.hs 1003 0)],[(1003,.row 5 false 1 (List.map cU v21)),(1,.cells [.l zha.pc a0.Fields,.l cU a0.Body])])] mixed (by kernel_rfl) rfl rfl (zfa rfl (zfa rfl zBa)) (zba rfl (zba rfl zga)) (.cons (.step [0,1,3] (by kernel_rfl) rfl (.cons (.yes 1 rfl (zua rfl) (zla (d:=38) rfl rfl zCa) rfl (zfa rfl (zfa rfl (zfa rfl zBa))) (zba rfl (zba rfl zga))) (.cons (.yes 2 rfl (zua rfl) (jPa (d:=39) rfl rfl (qGa (F:=cU) (l:=([(13:UInt8),(10:UInt8)]:List UInt8)) zka zAa rfl (fun _=>rfl) rfl rfl)) rfl (zfa rfl (zfa rfl (zfa rfl zBa))) (zba rfl (zba rfl zga))) (.cons (.yes 3 rfl (zua rfl) (zla (d:=41) rfl rfl (v8a rfl qga.u rfl zka rfl)) rfl (zfa rfl (zfa rfl (zfa rfl zBa))) (zba rfl (zba rfl zga))) .nil)))) (.cons (.step [1,3] (by kernel_rfl) rfl (.cons (.yes 4 rfl (zua rfl) (jPa (d:=39) rfl rfl (qGa (F:=cU) (l:=([(13:UInt8),(10:UInt8)]:List UInt8)) zka zAa rfl (fun _=>rfl) rfl rfl)) rfl (zfa rfl (zfa rfl (zfa rfl (zfa rfl zBa)))) (zba rfl (zba rfl zga))) (.cons (.yes 5 rfl (zua rfl) (zla (d:=41) rfl rfl (v8a rfl qga.u rfl zka rfl)) rfl (zfa rfl (zfa rfl (zfa rfl (zfa rfl zBa)))) (zba rfl (zba rfl zga))) .nil))) (.cons (.step [0,3] (by kernel_rfl) rfl (.cons (.yes 4 rfl (zua rfl) (zla (d:=38) rfl rfl zCa) rfl (zfa rfl (zfa rfl (zfa rfl (zfa rfl zBa)))) (zba rfl (zba rfl zga))) (.cons (.yes 6 rfl (zua rfl) (zla (d:=41) rfl rfl (v8a rfl qga.u rfl zka rfl)) rfl (zfa rfl (zfa rfl (zfa rfl (zfa rfl zBa)))) (zba rfl (zba rfl zga))) .nil))) (.cons (.step [0,1,4] (by kernel_rfl) rfl (.cons (.yes 5 rfl (zua rfl) (zla (d:=38) rfl rfl zCa) rfl (zfa rfl (zfa rfl (zfa rfl (zfa rfl zBa)))) (zba rfl (zba rfl zga))) (.cons (.yes 6 rfl (zua rfl) (jPa (d:=39) rfl rfl (qGa (F:=cU) (l:=([(13:UInt8),(10:UInt8)]:List UInt8)) zka zAa rfl (fun _=>rfl) rfl rfl)) rfl (zfa rfl (zfa rfl (zfa rfl (zfa rfl zBa)))) (zba rfl (zba rfl zga))) (.cons (.yes 7 rfl (zua rfl) (zla (d:=42) rfl rfl (Vna rfl rfl zka rfl rfl)) rfl (zfa rfl (zfa rfl (zfa rfl (zfa rfl zBa)))) (zba rfl (zba rfl zga))) .nil)))) (.cons (.step [2,3] (by kernel_rfl) rfl (.cons (.yes 8 rfl (zua rfl) (k1a (k:=40) (F:=cU) (l:=b2) (xs:=(([(13:UInt8),(10:UInt8)]:List UInt8))) (lim:=140737488355328) rfl rfl rfl rfl zka zAa rfl rfl (fun _=>rfl) rfl h20) rfl (zfa rfl (zfa rfl (zfa rfl zBa))) (zba rfl (zba rfl zga))) (.cons (.yes 9 rfl (zua rfl) (zla (d:=41) rfl rfl (v8a rfl qga.u rfl zka rfl)) rfl (zfa rfl (zfa rfl (zfa rfl (zfa rfl (zfa rfl zBa))))) (zba rfl (zba rfl zga))) .nil))) (.cons (.step [1,4] (by kernel_rfl) rfl (.cons (.yes 9 rfl (zua rfl) (jPa (d:=39) rfl rfl (qGa (F:=cU) (l:=([(13:UInt8),(10:UInt8)]:List UInt8)) zka zAa rfl (fun _=>rfl) rfl rfl)) rfl (zfa rfl (zfa rfl (zfa rfl (zfa rfl (zfa rfl zBa))))) (zba rfl (zba rfl zga))) (.cons (.yes 10 rfl (zua rfl) (zla (d:=42) rfl rfl (Vna rfl rfl zka rfl rfl)) rfl (zfa rfl (zfa rfl (zfa rfl (zfa rfl (zfa rfl zBa))))) (zba rfl (zba rfl zga))) .nil))) (.cons (.step [0,4] (by kernel_rfl) rfl (.cons (.yes 9 rfl (zua rfl) (zla (d:=38) rfl rfl zCa) rfl (zfa rfl (zfa rfl (zfa rfl (zfa rfl (zfa rfl zBa))))) (zba rfl (zba rfl zga))) (.cons (.yes 11 rfl (zua rfl) (zla (d:=42) rfl rfl (Vna rfl rfl zka rfl rfl)) rfl (zfa rfl (zfa rfl (zfa rfl (zfa rfl (zfa rfl zBa))))) (zba rfl (zba rfl zga))) .nil))) (.cons (.step [0,1] (by kernel_rfl) rfl (.cons (.yes 10 rfl (zua rfl) (zla (d:=38) rfl rfl zCa) rfl (zfa rfl (zfa rfl (zfa rfl (zfa rfl (zfa rfl zBa))))) (zba rfl (zba rfl zga))) (.cons (.yes 11 rfl (zua rfl) (jPa (d:=39) rfl rfl (qGa (F:=cU) (l:=([(13:UInt8),(10:UInt8)]:List UInt8)) zka zAa rfl (fun _=>rfl) rfl rfl)) rfl (zfa rfl (zfa rfl (zfa rfl (zfa rfl (zfa rfl zBa))))) (zba rfl (zba rfl zga))) .nil))) (.cons (.step [3] (by kernel_rfl) rfl (.cons (.yes 12 rfl (zua rfl) (zla (d:=41) rfl rfl (v8a rfl qga.u rfl zka rfl)) rfl (zfa rfl (zfa rfl (zfa rfl (zfa rfl zBa)))) (zba rfl (zba rfl zga))) .nil)) (.cons (.step [2,4] (by kernel_rfl) rfl (.cons (.yes 12 rfl (zua rfl) (k1a (k:=40) (F:=cU) (l:=b2) (xs:=(([(13:UInt8),(10:UInt8)]:List UInt8))) (lim:=140737488355328) rfl rfl rfl rfl zka zAa rfl rfl (fun _=>rfl) rfl h20) rfl (zfa rfl (zfa rfl (zfa rfl (zfa rfl zBa)))) (zba rfl (zba rfl zga))) (.cons (.yes 13 rfl (zua rfl) (zla (d:=42) rfl rfl (Vna rfl rfl zka rfl rfl)) rfl (zfa rfl (zfa rfl (zfa rfl (zfa rfl (zfa rfl (zfa rfl zBa)))))) (zba rfl (zba rfl zga))) .nil))) (.cons (.step [1] (by kernel_rfl) rfl (.cons (.yes 13 rfl (zua rfl) (jPa (d:=39) rfl rfl (qGa (F:=cU) (l:=([(13:UInt8),(10:UInt8)]:List UInt8)) zka zAa rfl (fun _=>rfl) rfl rfl)) rfl (zfa rfl (zfa rfl (zfa rfl (zfa rfl (zfa rfl (zfa rfl zBa)))))) (zba rfl (zba rfl zga))) .nil)) (.cons (.step [0] (by kernel_rfl) rfl (.cons (.yes 13 rfl (zua rfl) (zla (d:=38) rfl rfl zCa) rfl (zfa rfl (zfa rfl (zfa rfl (zfa rfl (zfa rfl (zfa rfl zBa)))))) (zba rfl (zba rfl zga))) .nil)) (.cons (.step [4] (by kernel_rfl) rfl (.cons (.yes 14 rfl (zua rfl) (zla (d:=42) rfl rfl (Vna rfl rfl zka rfl rfl)) rfl (zfa rfl (zfa rfl (zfa rfl (zfa rfl (zfa rfl zBa))))) (zba rfl (zba rfl zga))) .nil)) (.cons (.step [2] (by kernel_rfl) rfl (.cons (.yes 14 rfl (zua rfl) (k1a (k:=40) (F:=cU) (l:=b2) (xs:=(([(13:UInt8),(10:UInt8)]:List UInt8))) (lim:=140737488355328) rfl rfl rfl rfl zka zAa rfl rfl (fun _=>rfl) rfl h20) rfl (zfa rfl (zfa rfl (zfa rfl (zfa rfl (zfa rfl zBa))))) (zba rfl (zba rfl zga))) .nil)) (.cons (.step [5] (by kernel_rfl) rfl (.cons (.yes 15 rfl (zua rfl) (k1a (k:=43) (F:=cU) (l:=v19) (xs:=a0.Body) (lim:=140737488355328) rfl rfl rfl rfl zka zAa rfl rfl (fun _=>rfl) rfl h22) rfl (zfa rfl (zfa rfl (zfa rfl (zfa rfl (zfa rfl zBa))))) (zba rfl (zba rfl zga))) .nil)) (.cons (.step [6] (by kernel_rfl) rfl (.cons (.yes 16 rfl (zua rfl) (zla (d:=2) rfl rfl zOa) rfl (zfa rfl (zfa rfl (zfa rfl (zfa rfl (zfa rfl (zfa rfl zBa)))))) (zba rfl (zba rfl zga))) .nil)) (.cons (.full (by kernel_rfl) (hA ?_)) .nil)))))))))))))))));refine rn tk 1 rfl ?_;refine ypa (d:=2) (F:=cU) (l:=v21) rfl rfl (hC ?_);refine rn tk 1 rfl ?_;cases hr;exact kr tk (.inr rfl) rfl rfl
theorem KOa(a0:zsa)(r:zva)(hr:qRa a0=some r):Run prog 53 [.agg [.l zha.pc a0.Fields,.l cU a0.Body]] (.agg [.i r.Code,.i r.Index]):=by
 unfold qRa at hr;refine rf (fn:=f53) ⟨func53,rfl,by kernel_rfl⟩ rfl (fun _=>rfl) fun g0 hg=>?_
 refine rn tk 11 rfl ?_;obtain ⟨v1,h2,hr⟩:=zaa hr;refine cl (QGa _ _ h2) rfl rfl<|rn tk 7 rfl ?_;obtain ⟨v3,h4,hr⟩:=zaa hr;refine cl (zWa _ _ h4) rfl rfl<|rn tk 2 rfl<|ac 8 hr rfl (fun c5 hr=>?_) (fun c5 hr=>?_)
 .refine rn tk 8 rfl ?_;cases hr;exact kr tk (.inr rfl) rfl rfl
 refine rn tk 6 rfl ?_;obtain ⟨v6,h7,hr⟩:=zaa hr;refine cl (V2a _ _ h7) rfl rfl<|wn tk rfl rfl rfl<|rn tk 3 rfl<|ac 13 hr rfl (fun c8 hr=>?_) (fun c8 hr=>?_)
 .refine rn tk 2 rfl ?_;obtain ⟨v9,h10,hr⟩:=zaa hr;refine cl (zqa _ _ _ h10) rfl rfl<|rn tk 5 rfl ?_;cases hr;exact kr tk (.inr rfl) rfl rfl
 refine rn tk 6 rfl ?_;obtain ⟨v11,h12,hr⟩:=zaa hr;refine cl (Wya _ _ h12) rfl rfl<|rn tk 4 rfl ?_;cases hr;exact kr tk (.inr rfl) rfl rfl
theorem V3a(a0:List UInt8)(r:List UInt8)(hr:wua a0=some r):Run prog 123 [.l cU a0] (.l cU r):=by
 unfold wua at hr;refine rf (fn:=f123) ⟨func123,rfl,by kernel_rfl⟩ rfl (fun _=>rfl) fun g0 hg=>?_
 refine rn tk 8 rfl ?_;refine qUa 1003 (d:=3) 5 1 rfl rfl rfl (hO ?_);refine rn tk 9 rfl<|al1 hr (fun s1=>[(0,.l cU a0),(3,.hs 1003 0),(4,.i s1.1)]) (fun s1=>[(1003,.row 5 false 1 (List.map cU s1.2))]) (.exit 0) (fun b2=>[(3,.hs 1003 0)]) (fun b2=>[(1003,.row 5 false 1 (List.map cU b2))]) rfl rfl (fun s1 x3 hr=>?_) (fun b2 hr=>?_)
 .unfold qTa at hr;refine rn tk 5 rfl<|wn tk rfl rfl rfl<|rn tk 3 rfl<|ac 8 hr rfl (fun c4 hr=>?_) (fun c4 hr=>?_)
  .refine rn tk 2 rfl<|jb hr (fun j5=>[(0,.l cU a0),(3,.hs 1003 0),(4,.i j5.1)]) (fun j5=>[(1003,.row 5 false 1 (List.map cU j5.2))]) (fun j5 hr=>?_) (fun j5 hr=>?_)
   .refine rn tk 2 rfl<|jb hr (fun j6=>[(0,.l cU a0),(3,.hs 1003 0),(4,.i s1.1),(18,.bo j6)]) (fun j6=>[(1003,.row 5 false 1 (List.map cU s1.2))]) (fun j6 hr=>?_) (fun j6 hr=>?_)
    .refine rn tk 3 rfl ?_;obtain ⟨v7,h8,hr⟩:=zaa hr;refine wi tk h8 rfl rfl rfl rfl rfl<|rn tk 3 rfl<|bs 24 hr rfl (fun c9 hr=>?_) (fun c9 hr=>?_)
     .refine rn tk 3 rfl<|ug rfl rfl rfl<|wn tk rfl rfl rfl<|rn tk 3 rfl<|bs 31 hr rfl (fun c10 hr=>?_) (fun c10 hr=>?_)
      .refine rn tk 3 rfl ?_;obtain ⟨v11,h12,hr⟩:=zaa hr;refine ug rfl rfl rfl<|wi tk h12 rfl rfl rfl rfl rfl<|rn tk 5 rfl ?_;cases hr;exact jn _ rfl rfl rfl
      refine rn tk 9 rfl ?_;cases hr;exact jn _ rfl rfl rfl
     refine rn tk 16 rfl ?_;cases hr;exact jn _ rfl rfl rfl
    refine ac 18 hr rfl (fun c13 hr=>?_) (fun c13 hr=>?_)
    .refine rn tk 9 rfl<|wz cU ([(13:UInt8),(10:UInt8)]:List UInt8) tk rfl rfl (fun _=>rfl) rfl rfl rfl ?_;obtain ⟨v14,h15,hr⟩:=zaa hr;refine wa tk h15 rfl rfl rfl rfl (fun _=>rfl) rfl rfl<|rn tk 4 rfl ?_;cases hr;exact jn _ rfl rfl rfl
    refine jb hr (fun j16=>[(0,.l cU a0),(3,.hs 1003 0),(4,.i s1.1),(44,.bo j16)]) (fun j16=>[(1003,.row 5 false 1 (List.map cU s1.2))]) (fun j16 hr=>?_) (fun j16 hr=>?_)
    .refine rn tk 3 rfl ?_;obtain ⟨v17,h18,hr⟩:=zaa hr;refine wi tk h18 rfl rfl rfl rfl rfl<|rn tk 3 rfl<|bs 50 hr rfl (fun c19 hr=>?_) (fun c19 hr=>?_)
     .refine rn tk 8 rfl ?_;cases hr;exact jn _ rfl rfl rfl
     refine rn tk 2 rfl ?_;obtain ⟨v20,h21,hr⟩:=zaa hr;refine ug rfl rfl rfl<|wi tk h21 rfl rfl rfl rfl rfl<|rn tk 5 rfl ?_;cases hr;exact jn _ rfl rfl rfl
    refine ac 44 hr rfl (fun c22 hr=>?_) (fun c22 hr=>?_)
    .refine rn tk 2 rfl<|wz cU ([(13:UInt8),(10:UInt8)]:List UInt8) tk rfl rfl (fun _=>rfl) rfl rfl rfl ?_;obtain ⟨v23,h24,hr⟩:=zaa hr;refine wa tk h24 rfl rfl rfl rfl (fun _=>rfl) rfl rfl<|rn tk 4 rfl ?_;cases hr;exact jn _ rfl rfl rfl
    refine rn tk 4 rfl ?_;obtain ⟨v25,h26,hr⟩:=zaa hr;refine wi tk h26 rfl rfl rfl rfl rfl<|rn tk 1 rfl<|wz cU ([v25]:List UInt8) tk rfl rfl (fun _=>rfl) rfl rfl rfl ?_;obtain ⟨v27,h28,hr⟩:=zaa hr;refine wa tk h28 rfl rfl rfl rfl (fun _=>rfl) rfl rfl<|rn tk 4 rfl ?_;cases hr;exact jn _ rfl rfl rfl
   refine rn tk 5 rfl ?_;cases hr;exact atc rfl rfl
  refine rn tk 2 rfl ?_;cases hr;exact ato rfl rfl rfl rfl
 refine rn tk 8 rfl ?_;refine ypa (d:=2) (F:=cU) (l:=b2) rfl rfl (hC ?_);refine rn tk 1 rfl ?_;cases hr;exact kr tk (.inr rfl) rfl rfl
theorem Wza(a0:List UInt8)(r:zsa × zva)(hr:yga a0=some r):Run prog 91 [.l cU a0] (.tup [.agg [.l zha.pc r.1.Fields,.l cU r.1.Body],.agg [.i r.2.Code,.i r.2.Index]]):=by
 unfold yga at hr;refine rf (fn:=f91) ⟨func91,rfl,by kernel_rfl⟩ rfl (fun _=>rfl) fun g0 hg=>?_
 refine rn tk 9 rfl ?_;obtain ⟨v1,h2,hr⟩:=zaa hr;refine cl (YSa _ _ h2) rfl rfl<|rn tk 14 rfl ?_;obtain ⟨v3,h4,hr⟩:=zaa hr;refine cl (zWa _ _ h4) rfl rfl<|rn tk 2 rfl<|ac 16 hr rfl (fun c5 hr=>?_) (fun c5 hr=>?_)
 .refine rn tk 1 rfl ?_;refine mc tk [] [(2,.ptr 2 0),(3,.ptr 3 0)] mixed rfl (by kernel_rfl) .nil (fc rfl (fc rfl fn)) (hA ?_);refine rn tk 3 rfl ?_;cases hr;exact kr tk (.inr rfl) rfl rfl
 refine rn tk 7 rfl ?_;obtain ⟨v6,h7,hr⟩:=zaa hr;refine wlL tk h7 rfl rfl rfl (fun _=>rfl) rfl ?_;obtain ⟨v8,h9,hr⟩:=zaa hr;refine cl (V3a _ _ h9) rfl rfl<|rn tk 9 rfl ?_;obtain ⟨v10,h11,hr⟩:=zaa hr;refine cl (KOa _ _ h11) rfl rfl<|rn tk 7 rfl ?_;obtain ⟨v12,h13,hr⟩:=zaa hr;refine cl (zWa _ _ h13) rfl rfl<|rn tk 2 rfl<|ac 28 hr rfl (fun c14 hr=>?_) (fun c14 hr=>?_)
 .refine rn tk 1 rfl ?_;refine mc tk [] [(2,.ptr 2 0),(3,.ptr 3 0)] mixed rfl (by kernel_rfl) .nil (fc rfl (fc rfl fn)) (hA ?_);refine rn tk 3 rfl ?_;cases hr;exact kr tk (.inr rfl) rfl rfl
 refine rn tk 3 rfl ?_;obtain ⟨v15,h16,hr⟩:=zaa hr;refine mc tk [(1,.agg [.i v15.Code,.i v15.Index])] [(2,.ptr 2 0),(3,.ptr 3 0)] mixed rfl (by kernel_rfl) (.cons rfl rfl (fun _ _=>(vWa (z2a v15 h16) rfl)) .nil) (fc rfl (fc rfl fn)) (hA ?_);refine rn tk 2 rfl ?_;cases hr;exact kr tk (.inr rfl) rfl rfl
theorem kwa(a0:zea)(r:zea)(hr:zZa a0=some r):RunS prog 93 [.ptr 90002000 0] (zB0 a0 []) (.tup []) (zB0 r []) 90002000 [90002009,90002010,90002018,90002019]:=by
 unfold zZa at hr;refine rfS (fn:=f93) (H:=90002999) (.ptr 90002000 0) ⟨func93,rfl,by kernel_rfl⟩ rfl (hasT rfl) (.inl ⟨rfl,rfl⟩) rfl rfl rfl rfl fun g0 hg S sg T=>?_
 refine rn tk 31 rfl ?_;refine W1a 90002010 (hO ?_);refine yPa 90002010 (o:=90002000) (j:=9) 5 1 rfl rfl rfl rfl (hO ?_);refine rn tk 1 rfl ?_;cases hr;exact krS tk (.inl rfl) rfl rfl (zba rfl (Jfa rfl rfl (zba rfl (zba rfl (zba rfl (zba rfl zga))))))
theorem zpa(a0:zea)(a1:Int)(a2:List Str)(r:zea)(hr:zra a0 a1 a2=some r):RunS prog 63 [.ptr 90002000 0,.i a1,.l cS a2] (zB0 a0 []) (.tup []) (zB0 r []) 90002000 [90002009,90002010,90002018,90002019]:=by
 unfold zra at hr;refine rfS (fn:=f63) (H:=90002999) (.ptr 90002000 0) ⟨func63,rfl,by kernel_rfl⟩ rfl (hasT rfl) (.inl ⟨rfl,rfl⟩) rfl rfl rfl rfl fun g0 hg S sg T=>?_
 refine rn tk 9 rfl<|wz zLa.pc ([(zLa.mk a1 a2)]:List zLa) tk rfl rfl (fun _=>rfl) rfl rfl rfl ?_;obtain ⟨v1,h2,hr⟩:=zaa hr;refine wa tk h2 rfl rfl rfl rfl (fun _=>rfl) rfl rfl<|rn tk 4 rfl ?_;cases hr;exact krS tk (.inl rfl) rfl rfl (zba rfl (zba rfl (zba rfl (zba rfl (zba rfl (zba rfl zga))))))
theorem kpa(a0:List zca)(r:List zca)(hr:zta a0=some r):RunO prog 36 [.l zca.pc a0] 60 2 (List.map zca.pc r):=by
 unfold zta at hr;refine rfO (fn:=f36) ⟨func36,rfl,by kernel_rfl⟩ rfl fun g0 hg=>?_
 refine rn tk 3 rfl ?_;refine wIa 1002 (d:=2) 60 2 rfl rfl rfl (hO ?_);refine rn tk 6 rfl ?_;refine Vva (d:=3) (F:=zca.pc) (l:=a0) rfl rfl rfl zoa (fun c1=>hO ?_) (hO ?_)
 .replace hr:=zeb c1 hr
  refine rn tk 6 rfl ?_;refine wIa 2002 (d:=2) 60 2 rfl rfl rfl (hO ?_);refine rn tk 4 rfl ?_;cases hr;exact krO tk (.inr rfl) rfl rfl
 replace hr:=zfb hr
 refine rn tk 7 rfl<|wo (WWa (k:=5) rfl zoa zza) rfl<|rn tk 1 rfl ?_;obtain ⟨v2,h3,hr⟩:=zaa hr;refine wo (ZXa (k:=7) (F:=zca.pc) (xs:=a0) (lim:=5864062014805) 2002 rfl rfl rfl zoa zza rfl rfl (fun _=>rfl) rfl rfl rfl h3) rfl<|rn tk 4 rfl ?_;cases hr;exact krO tk (.inr rfl) rfl rfl
theorem zTa(a0:List zca)(r:List zca)(hr:zta a0=some r):Run prog 36 [.l zca.pc a0] (.l zca.pc r):=by
 unfold zta at hr;refine rf (fn:=f36) ⟨func36,rfl,by kernel_rfl⟩ rfl (fun _=>rfl) fun g0 hg=>?_
 refine rn tk 9 rfl ?_;refine Vva (d:=3) (F:=zca.pc) (l:=a0) rfl rfl rfl zoa (fun c1=>hO ?_) (hO ?_)
 .replace hr:=zeb c1 hr
  refine rn tk 10 rfl ?_;cases hr;exact kr tk (.inr rfl) rfl rfl
 replace hr:=zfb hr
 refine rn tk 7 rfl<|wo (WWa (k:=5) rfl zoa zza) rfl<|rn tk 1 rfl ?_;obtain ⟨v2,h3,hr⟩:=zaa hr;refine wo (ZXa (k:=7) (F:=zca.pc) (xs:=a0) (lim:=5864062014805) 1002 rfl rfl rfl zoa zza rfl rfl (fun _=>rfl) rfl rfl rfl h3) rfl<|rn tk 3 rfl ?_;refine zbb 1002 rfl (hC ?_);refine ypa (d:=2) (F:=zca.pc) (l:=v2) rfl rfl (hC ?_);refine rn tk 1 rfl ?_;cases hr;exact kr tk (.inr rfl) rfl rfl
theorem vra(a0:zea)(r:zea)(hr:z5a a0=some r):RunS prog 64 [.ptr 90002000 0] (zB0 a0 []) (.tup []) (zB0 r []) 90002000 [90002009,90002010,90002018,90002019]:=by
 unfold z5a at hr;refine rfS (fn:=f64) (H:=90002999) (.ptr 90002000 0) ⟨func64,rfl,by kernel_rfl⟩ rfl (hasT rfl) (.inl ⟨rfl,rfl⟩) rfl rfl rfl rfl fun g0 hg S sg T=>?_
 refine rn tk 7 rfl ?_;refine Zaa (d:=10) (F:=cU) (l:=a0.Server.Data) rfl rfl (hO ?_);obtain ⟨v1,h2,hr⟩:=zaa hr;refine cl (Wza _ _ h2) rfl rfl<|rn tk 9 rfl<|jb hr (fun j3=>[(0,.ptr 90002000 0)]) (fun j3=>(zB0 j3 [(90002999,.hold (.ptr 90002000 0) (T.getD 0 undef))])) (fun j3 hr=>?_) (fun j3 hr=>?_)
 .refine rn tk 12 rfl<|ac 64 hr rfl (fun c4 hr=>?_) (fun c4 hr=>?_)
  .refine rn tk 2 rfl<|wz cS ([([108,97,114,103,101]:Str)]:List Str) tk rfl rfl (fun _=>rfl) rfl rfl rfl ?_;obtain ⟨v5,h6,hr⟩:=zaa hr;refine wo (zya (k:=73) (zpa a0 552 (([([108,97,114,103,101]:Str)]:List Str)) v5 h6) rfl rfl (zba rfl (zba rfl (zba rfl (zba rfl (zba rfl zga)))))) rfl<|rn tk 2 rfl ?_;cases hr;exact jn _ rfl rfl rfl
  refine jb hr (fun j7=>[(0,.ptr 90002000 0),(2,.ptr 2 0),(74,.bo j7)]) (fun j7=>((2,.cells [.l zha.pc v1.1.Fields,.l cU v1.1.Body])::(90002999,.hold (.ptr 90002000 0) (T.getD 0 undef))::zB0 a0 [])) (fun j7 hr=>?_) (fun j7 hr=>?_)
  .refine rn tk 2 rfl ?_;obtain ⟨v8,h9,hr⟩:=zaa hr;refine cl (zWa _ _ h9) rfl rfl<|rn tk 1 rfl<|bs 77 hr rfl (fun c10 hr=>?_) (fun c10 hr=>?_)
   .refine rn tk 9 rfl ?_;cases hr;exact jn _ rfl rfl rfl
   refine rn tk 9 rfl ?_;cases hr;exact jn _ rfl rfl rfl
  refine ac 74 hr rfl (fun c11 hr=>?_) (fun c11 hr=>?_)
  .refine rn tk 2 rfl<|wz cS ([([114,101,102,117,115,101,100]:Str)]:List Str) tk rfl rfl (fun _=>rfl) rfl rfl rfl ?_;obtain ⟨v12,h13,hr⟩:=zaa hr;refine wo (zya (k:=87) (zpa a0 554 (([([114,101,102,117,115,101,100]:Str)]:List Str)) v12 h13) rfl rfl (zba rfl (zba rfl (zba rfl (zba rfl (zba rfl zga)))))) rfl<|rn tk 2 rfl ?_;cases hr;exact jn _ rfl rfl rfl
  refine rn tk 15 rfl ?_;obtain ⟨v14,h15,hr⟩:=zaa hr;obtain ⟨v16,h17,hr⟩:=zaa hr;obtain ⟨v18,h19,hr⟩:=zaa hr;refine mc tk [(5,.s v14),(11,.s v16),(12,.s v18)] [(0,.ptr 90002000 0),(2,.ptr 2 0),(4,.s v18)] mixed rfl (by kernel_rfl) (.cons rfl rfl (t0 (k9a (QNa rfl rfl h15))) (.cons rfl rfl (t0 (vWa (vYa ((w64 (a0.Server.Count+1))) v16 h17) rfl)) (.cons rfl rfl (t0 (k9a (QNa rfl rfl h19))) .nil))) (fc rfl (fc rfl (fc rfl fn))) (hA ?_);refine rn tk 2 rfl ?_;obtain ⟨v20,h21,hr⟩:=zaa hr;obtain ⟨v22,h23,hr⟩:=zaa hr;refine mz [some (.ptr 90002000 0),some (.ptr 90002000 0),some (.ptr 90002000 0),some (.ptr 90002000 18),none,some (.ptr 90002000 0),some (.ptr 90002000 0),some (.ptr 90002000 0),some (.ptr 90002000 6),some (.s a0.Server.From),some (.ptr 90002000 0),some (.ptr 90002000 0),some (.ptr 90002000 0),some (.ptr 90002000 7),some (.l zca.pc a0.Server.To),some (.l zca.pc v20),some (.s v18),some (.agg [.s a0.Server.From,.l zca.pc v20,.s v18]),some (.agg [.l zha.pc v1.1.Fields,.l cU v1.1.Body]),some (.agg [.s a0.Server.From,.l zca.pc v20,.s v18,.l zha.pc v1.1.Fields,.l cU v1.1.Body]),some (.l zVa.pc (([(zVa.mk ((zEa.mk a0.Server.From v20 v18)) v1.1)]:List zVa))),none,some (.ptr 90002000 0),some (.ptr 90002000 18),none] (fun f s=>[((bt 25 0),f,s),((bt 25 16),((40,.hs 90002019 0)::f),s),((bt 25 2097168),((57,.hs 90002019 0)::(Fr.clrs [90002019] ((40,.hs 90002019 0)::f))),(Sto.upd (Sto.clr 90002019 s) 90002019 (.row 56 false 5 (List.map zVa.pc v22)))),((bt 25 18874384),((57,.hs 90002019 0)::(Fr.clrs [90002019] ((40,.hs 90002019 0)::f))),(Sto.upd (Sto.upd (Sto.clr 90002019 s) 90002019 (.row 56 false 5 (List.map zVa.pc v22))) 90002000 (.cells [.s a0.Server.Name,.i a0.Server.Size,.i a0.Server.Many,.i a0.Server.Phase,.bo a0.Server.Greeted,.bo a0.Server.Mailing,.s a0.Server.From,.l zca.pc a0.Server.To,.hs 90002009 0,.hs 90002010 0,.i a0.Server.Lost,.i a0.Server.Dots,.bo a0.Server.Chunked,.i a0.Server.Left,.bo a0.Server.Last,.bo a0.Server.Ignore,.i ((w64 (a0.Server.Count+1))),.hs 90002018 0,.hs 90002019 0])))]) mixed (by kernel_rfl) (.cons (mn tk [4,15,20] (by kernel_rfl) (.cons (mdt 1 rfl (hv_g rfl rfl (mqz tk rfl)) (by kernel_rfl)) (.cons (.pure rfl rfl (vWa (zTa a0.Server.To v20 h21) rfl)) (.cons (.pure rfl rfl (qGa (F:=zVa.pc) (l:=([(zVa.mk ((zEa.mk a0.Server.From v20 v18)) v1.1)]:List zVa)) vva v2a rfl (fun _=>rfl) rfl rfl)) .nil)))) (.cons (mn tk [15,20,21] (by kernel_rfl) (.cons (.pure rfl rfl (vWa (zTa a0.Server.To v20 h21) rfl)) (.cons (.pure rfl rfl (qGa (F:=zVa.pc) (l:=([(zVa.mk ((zEa.mk a0.Server.From v20 v18)) v1.1)]:List zVa)) vva v2a rfl (fun _=>rfl) rfl rfl)) (.cons (mdt 2 rfl (W3a (F:=zVa.pc) (l:=a0.mails) (xs:=(([(zVa.mk ((zEa.mk a0.Server.From v20 v18)) v1.1)]:List zVa))) (lim:=1353245080339) rfl rfl rfl rfl vva v2a rfl rfl (fun _=>rfl) rfl h23) (by kernel_rfl)) .nil)))) (.cons (mn tk [24] (by kernel_rfl) (.cons (mst 3 rfl (yza rfl rfl rfl vva rfl rfl) (by kernel_rfl)) .nil)) (.cons (mf tk [] [(0,.ptr 90002000 0),(4,.s v18)] (by kernel_rfl) .nil (fc rfl (fc rfl fn)) (hA ?_)) .nil))));refine rn tk 4 rfl<|wz cS ([v18]:List Str) tk rfl rfl (fun _=>rfl) rfl rfl rfl ?_;obtain ⟨v24,h25,hr⟩:=zaa hr;refine wo (zya (k:=63) (zpa ((zea.mk ((zja.mk a0.Server.Name a0.Server.Size a0.Server.Many a0.Server.Phase a0.Server.Greeted a0.Server.Mailing a0.Server.From a0.Server.To a0.Server.Buffer a0.Server.Data a0.Server.Lost a0.Server.Dots a0.Server.Chunked a0.Server.Left a0.Server.Last a0.Server.Ignore ((w64 (a0.Server.Count+1))))) a0.replies v22)) 250 (([v18]:List Str)) v24 h25) rfl rfl (zba rfl (zba rfl (zba rfl (zba rfl (zba rfl zga)))))) rfl<|rn tk 2 rfl ?_;cases hr;exact jn _ rfl rfl rfl
 refine rn tk 2 rfl ?_;obtain ⟨v26,h27,hr⟩:=zaa hr;refine wo (zya (k:=89) (kwa j3 v26 h27) rfl rfl (zba rfl (zba rfl (zba rfl (zba rfl (zba rfl zga)))))) rfl<|rn tk 1 rfl ?_;cases hr;exact krS tk (.inl rfl) rfl rfl (zba rfl (zba rfl (zba rfl (zba rfl (zba rfl (zba rfl zga))))))
theorem vFa(a0:zea)(r:zea)(hr:kea a0=some r):RunS prog 40 [.ptr 90002000 0] (zB0 a0 []) (.tup []) (zB0 r []) 90002000 [90002009,90002010,90002018,90002019]:=by
 unfold kea at hr;refine rfS (fn:=f40) (H:=90002999) (.ptr 90002000 0) ⟨func40,rfl,by kernel_rfl⟩ rfl (hasT rfl) (.inl ⟨rfl,rfl⟩) rfl rfl rfl rfl fun g0 hg S sg T=>?_
 refine rn tk 1 rfl<|dr 11 [(2,.bo a0.Server.Ignore),(13,.bo a0.Server.Last),(12,.ptr 90002000 14),(11,.ptr 90002000 0),(10,.ptr 90002000 0),(9,.ptr 90002000 0),(8,.bo a0.Server.Ignore),(7,.ptr 90002000 15),(6,.ptr 90002000 0),(5,.ptr 90002000 0),(4,.ptr 90002000 0)] mixed (by kernel_rfl) rfl rfl (pq tk rfl (.plain rfl) (pq tk rfl (.plain rfl) (pq tk rfl (.plain rfl) (pq tk rfl (.plain rfl) (pq tk rfl (.plain rfl) (pq tk rfl (.plain rfl) (pq tk rfl (.plain rfl) (pq tk rfl (.plain rfl) (pq tk rfl (.plain rfl) (pq tk rfl (.plain rfl) (pq tk rfl (.plain rfl) .nil))))))))))) rfl<|rn tk 29 rfl<|ac 29 hr rfl (fun c1 hr=>?_) (fun c1 hr=>?_)
 .refine rn tk 2 rfl<|wz cS ([([111,114,100,101,114]:Str)]:List Str) tk rfl rfl (fun _=>rfl) rfl rfl rfl ?_;obtain ⟨v2,h3,hr⟩:=zaa hr;refine wo (zya (k:=33) (zpa ((zea.mk ((zja.mk a0.Server.Name a0.Server.Size a0.Server.Many 0 a0.Server.Greeted a0.Server.Mailing a0.Server.From a0.Server.To a0.Server.Buffer a0.Server.Data a0.Server.Lost a0.Server.Dots a0.Server.Chunked a0.Server.Left false false a0.Server.Count)) a0.replies a0.mails)) 503 (([([111,114,100,101,114]:Str)]:List Str)) v2 h3) rfl rfl (zba rfl (zba rfl (zba rfl (zba rfl (zba rfl zga)))))) rfl<|rn tk 2 rfl ?_;cases hr;exact krS tk (.inl rfl) rfl rfl (zba rfl (zba rfl (zba rfl (zba rfl (zba rfl (zba rfl zga))))))
 refine rn tk 6 rfl<|ac 34 hr rfl (fun c4 hr=>?_) (fun c4 hr=>?_)
 .refine rn tk 2 rfl ?_;obtain ⟨v5,h6,hr⟩:=zaa hr;refine wo (zya (k:=37) (vra ((zea.mk ((zja.mk a0.Server.Name a0.Server.Size a0.Server.Many 0 a0.Server.Greeted a0.Server.Mailing a0.Server.From a0.Server.To a0.Server.Buffer a0.Server.Data a0.Server.Lost a0.Server.Dots a0.Server.Chunked a0.Server.Left false false a0.Server.Count)) a0.replies a0.mails)) v5 h6) rfl rfl (zba rfl (zba rfl (zba rfl (zba rfl (zba rfl zga)))))) rfl<|rn tk 2 rfl ?_;cases hr;exact krS tk (.inl rfl) rfl rfl (zba rfl (zba rfl (zba rfl (zba rfl (zba rfl (zba rfl zga))))))
 refine rn tk 2 rfl<|wz cS ([([111,107]:Str)]:List Str) tk rfl rfl (fun _=>rfl) rfl rfl rfl ?_;obtain ⟨v7,h8,hr⟩:=zaa hr;refine wo (zya (k:=28) (zpa ((zea.mk ((zja.mk a0.Server.Name a0.Server.Size a0.Server.Many 0 a0.Server.Greeted a0.Server.Mailing a0.Server.From a0.Server.To a0.Server.Buffer a0.Server.Data a0.Server.Lost a0.Server.Dots a0.Server.Chunked a0.Server.Left false false a0.Server.Count)) a0.replies a0.mails)) 250 (([([111,107]:Str)]:List Str)) v7 h8) rfl rfl (zba rfl (zba rfl (zba rfl (zba rfl (zba rfl zga)))))) rfl<|rn tk 2 rfl ?_;cases hr;exact krS tk (.inl rfl) rfl rfl (zba rfl (zba rfl (zba rfl (zba rfl (zba rfl (zba rfl zga))))))
theorem ZCa(a0:zea)(a1:UInt8)(r:zea)(hr:k4a a0 a1=some r):RunS prog 42 [.ptr 90002000 0,.u8 a1] (zB0 a0 []) (.tup []) (zB0 r []) 90002000 [90002009,90002010,90002018,90002019]:=by
 unfold k4a at hr;refine rfS (fn:=f42) (H:=90002999) (.ptr 90002000 0) ⟨func42,rfl,by kernel_rfl⟩ rfl (hasT rfl) (.inl ⟨rfl,rfl⟩) rfl rfl rfl rfl fun g0 hg S sg T=>?_
 refine jk (fun j1=>[(0,.ptr 90002000 0),(1,.u8 a1)]) (fun j1=>(zB0 j1 [(90002999,.hold (.ptr 90002000 0) (T.getD 0 undef))])) (fun j1=>kfa a1 j1=some r) ?_ ?_
 .refine rn tk 1 rfl<|jb hr (fun j8=>[(0,.ptr 90002000 0),(1,.u8 a1),(4,.bo j8)]) (fun j8=>((90002999,.hold (.ptr 90002000 0) (T.getD 0 undef))::zB0 a0 [])) (fun j8 hr=>?_) (fun j8 hr=>?_)
  .refine rn tk 8 rfl<|bs 11 hr rfl (fun c9 hr=>?_) (fun c9 hr=>?_)
   .refine rn tk 5 rfl ?_;cases hr;exact jn _ rfl rfl rfl
   refine rn tk 5 rfl ?_;cases hr;exact jn _ rfl rfl rfl
  refine ac 4 hr rfl (fun c10 hr=>?_) (fun c10 hr=>?_)
  .refine rn tk 12 rfl ?_;cases hr;exact krS tk (.inr rfl) rfl rfl (zba rfl (zba rfl (zba rfl (zba rfl (zba rfl (zba rfl zga))))))
  refine jb hr (fun j11=>[(0,.ptr 90002000 0),(1,.u8 a1),(19,.bo j11)]) (fun j11=>((90002999,.hold (.ptr 90002000 0) (T.getD 0 undef))::zB0 a0 [])) (fun j11 hr=>?_) (fun j11 hr=>?_)
  .refine rn tk 8 rfl<|bs 26 hr rfl (fun c12 hr=>?_) (fun c12 hr=>?_)
   .refine rn tk 5 rfl ?_;cases hr;exact jn _ rfl rfl rfl
   refine rn tk 5 rfl ?_;cases hr;exact jn _ rfl rfl rfl
  refine ac 19 hr rfl (fun c13 hr=>?_) (fun c13 hr=>?_)
  .refine rn tk 12 rfl ?_;cases hr;exact krS tk (.inr rfl) rfl rfl (zba rfl (zba rfl (zba rfl (zba rfl (zba rfl (zba rfl zga))))))
  refine jb hr (fun j14=>[(0,.ptr 90002000 0),(1,.u8 a1),(34,.bo j14)]) (fun j14=>((90002999,.hold (.ptr 90002000 0) (T.getD 0 undef))::zB0 a0 [])) (fun j14 hr=>?_) (fun j14 hr=>?_)
  .refine rn tk 8 rfl<|bs 41 hr rfl (fun c15 hr=>?_) (fun c15 hr=>?_)
   .refine rn tk 5 rfl ?_;cases hr;exact jn _ rfl rfl rfl
   refine rn tk 5 rfl ?_;cases hr;exact jn _ rfl rfl rfl
  refine ac 34 hr rfl (fun c16 hr=>?_) (fun c16 hr=>?_)
  .refine rn tk 17 rfl ?_;obtain ⟨v17,h18,hr⟩:=zaa hr;refine wo (zya (k:=54) (vra ((zea.mk ((zja.mk a0.Server.Name a0.Server.Size a0.Server.Many 0 a0.Server.Greeted a0.Server.Mailing a0.Server.From a0.Server.To a0.Server.Buffer a0.Server.Data a0.Server.Lost 0 a0.Server.Chunked a0.Server.Left a0.Server.Last a0.Server.Ignore a0.Server.Count)) a0.replies a0.mails)) v17 h18) rfl rfl (zba rfl (zba rfl (zba rfl (zba rfl (zba rfl zga)))))) rfl<|rn tk 5 rfl ?_;cases hr;exact krS tk (.inr rfl) rfl rfl (zba rfl (zba rfl (zba rfl (zba rfl (zba rfl (zba rfl zga))))))
  refine rn tk 11 rfl<|ac 55 hr rfl (fun c19 hr=>?_) (fun c19 hr=>?_)
  .refine rn tk 2 rfl ?_;obtain ⟨v20,h21,hr⟩:=zaa hr;refine wo (zya (k:=63) (q2a a0 ((13:UInt8)) v20 h21) rfl rfl (zba rfl (zba rfl (zba rfl (zba rfl (zba rfl zga)))))) rfl<|rn tk 2 rfl<|jn v20 hr rfl rfl
  refine rn tk 2 rfl<|jn a0 hr rfl rfl
 intro j1 hr;unfold kfa at hr;refine rn tk 4 rfl ?_;obtain ⟨v2,h3,hr⟩:=zaa hr;refine wo (zya (k:=66) (q2a j1 a1 v2 h3) rfl rfl (zba rfl (zba rfl (zba rfl (zba rfl (zba rfl zga)))))) rfl<|rn tk 10 rfl<|ac 71 hr rfl (fun c4 hr=>?_) (fun c4 hr=>?_)
 .refine rn tk 8 rfl ?_;cases hr;exact krS tk (.inl rfl) rfl rfl (zba rfl (zba rfl (zba rfl (zba rfl (zba rfl (zba rfl zga))))))
 refine jb hr (fun j5=>[(0,.ptr 90002000 0),(78,.bo j5)]) (fun j5=>(zB0 v2 [(90002999,.hold (.ptr 90002000 0) (T.getD 0 undef))])) (fun j5 hr=>?_) (fun j5 hr=>?_)
 .refine rn tk 4 rfl<|bs 81 hr rfl (fun c6 hr=>?_) (fun c6 hr=>?_)
  .refine rn tk 9 rfl ?_;cases hr;exact jn _ rfl rfl rfl
  refine rn tk 9 rfl ?_;cases hr;exact jn _ rfl rfl rfl
 refine ac 78 hr rfl (fun c7 hr=>?_) (fun c7 hr=>?_)
 .refine rn tk 8 rfl ?_;cases hr;exact krS tk (.inl rfl) rfl rfl (zba rfl (zba rfl (zba rfl (zba rfl (zba rfl (zba rfl zga))))))
 refine rn tk 8 rfl ?_;cases hr;exact krS tk (.inl rfl) rfl rfl (zba rfl (zba rfl (zba rfl (zba rfl (zba rfl (zba rfl zga))))))
theorem QHa(a0:List UInt8)(a1:List UInt8)(r:(List UInt8) × Bool)(hr:qDa a0 a1=some r):Run prog 65 [.l cU a0,.l cU a1] (.tup [.l cU r.1,.bo r.2]):=by
 unfold qDa at hr;refine rf (fn:=f65) ⟨func65,rfl,by kernel_rfl⟩ rfl (fun _=>rfl) fun g0 hg=>?_
 refine rn tk 11 rfl ?_;obtain ⟨v1,h2,hr⟩:=zaa hr;refine cl (y3a _ _ _ h2) rfl rfl<|rn tk 3 rfl<|ac 9 hr rfl (fun c3 hr=>?_) (fun c3 hr=>?_)
 .refine rn tk 9 rfl ?_;cases hr;exact kr tk (.inr rfl) rfl rfl
 refine rn tk 6 rfl<|wn tk rfl rfl rfl<|rn tk 1 rfl<|wn tk rfl rfl rfl<|rn tk 1 rfl ?_;obtain ⟨v4,h5,hr⟩:=zaa hr;refine wlH tk h5 rfl rfl rfl (fun _=>rfl) rfl<|rn tk 5 rfl ?_;cases hr;exact kr tk (.inr rfl) rfl rfl
section
open Go.RowKit Go.Lib Go.Proofs.Tryz
theorem ff_pred(w:World):PredAt prog 96 #[] encR sp32 w:=fun W r _=>by
 unfold FnGives;go_enter func96,Tryz.ntmps96
 go_wp2
 go_ret
 exact ⟨rfl,0,rfl⟩
theorem str_argF{g:G}{s:Str}{v:Value}(h:Rel g (.s s) v):v=.string (strB s):=kda h
theorem yxb{g:G}{w' :World}{A n:Nat}(h:Below g.w.heap.size g.w w')(hA:g.w.heap.size<=A):Old (fun _=>False) g ⟨w',fun k=>if k=A then n else g.u k,g.loc⟩:=
 ⟨h.os,h.tape,h.output,⟨h.size,fun k hk=>by show g.u k<=if k=A then n else g.u k;rw[if_neg (by omega)];exact Nat.le_refl _,fun k i hk _=>by simp only[World.cell?];rw[h.block k hk],fun r hr=>(h.block r (z6a hr)).trans hr⟩,fun k hk _=>⟨h.block k hk,by show (if k=A then n else g.u k)=g.u k;rw[if_neg (by omega)]⟩⟩
theorem jHa(s:Str)(r:List Str)(hr:kLa s=some r):Run prog 95 [.s s,.fn (.func 96) [] []] (.l cS r):=by
 unfold kLa at hr;split at hr
 case isFalse=>cases hr
 rename_i hlen;cases hr;refine ⟨⟨_,_,⟨func95,rfl,by kernel_rfl⟩⟩,fun g vs hw hg ha=>?_⟩;obtain ⟨hsz,hrel⟩:=ha;obtain ⟨vl⟩:=vs
 match vl,hsz with
 | [x,y],_=>
  obtain rfl:=str_argF (hrel 0 _ rfl);have hy:Rel g (.fn (.func 96) [] []) y:=hrel 1 _ rfl;have hy2:y=.func (.func 96) #[] #[]:=by
   cases hy with
   | @fn f first captured fv cv h1 h2 hf hc=>
    have e1:fv= #[]:=Array.eq_empty_of_size_eq_zero h1;have e2:cv= #[]:=Array.eq_empty_of_size_eq_zero h2;rw[e1,e2]
  subst hy2;have hC:=Tryz.strings_FieldsFunc 96 #[] (enters_of func96 (by kernel_rfl) rfl) sp32 (strB s) g.w (by rw[zKa];exact hlen) (ff_pred g.w);generalize Lib.goFieldsP sp32 (strB s)=L at hC ⊢;refine callsIn_wide.2 (hC.mono ?_);rintro e w' ⟨A,rfl,hA,hown,hb⟩;have hlm:(L.map fun b=>b.data.toList).length=L.length:=by simp
  obtain ⟨hl0,hno⟩:=hown;rcases hno with ⟨hc,_⟩ | ⟨g0,cap,cur,hv,_,hheap,hle,_,hcs,htk⟩
  .cases hc
  simp only[Value.slice.injEq,Option.some.injEq,Addr.mk.injEq,and_true,true_and]at hv;obtain ⟨rfl,rfl⟩:=hv;have hlt:A < w'.heap.size:=by
   rcases Nat.lt_or_ge A w'.heap.size with h | h
   .exact h
   rw[Array.getElem?_eq_none h]at hheap;cases hheap
  refine ⟨⟨w',fun k=>if k=A then L.length else g.u k,g.loc⟩,_,rfl,rfl,yxb hb hA,fun k hk=>?_,rfl,?_⟩
  .show (if k=A then L.length else g.u k)=0;have hk' :w'.heap.size<=k:=hk;have:=hb.size;rw[if_neg (by omega)];exact hw k (by omega)
  rw[show (Value.slice (some ⟨A,0,none⟩) L.length L.length)=.slice (some ⟨A,0,none⟩) ((L.map fun b=>b.data.toList).map cS).length L.length by simp];refine .pv (.sl (a:=some ⟨A,0,none⟩) (cap:=L.length) 1 A 0 (fun i=>cur.getD i undef) (fun x hx=>by cases hx) (fun hx=>by cases hx) (by simp) (fun x' hx' =>by obtain ⟨y',hy',rfl⟩:=List.mem_map.1 hx';rfl) (fun _=>rfl) (fun _=>⟨?_,hlt⟩) (fun i hi=>?_) (fun i j e c hi hj=>?_))
  .show 0+_ * 1<=if A=A then L.length else g.u A;rw[if_pos rfl];simp
  .have hi' :i < cur.size:=by simp at hi;omega
   simp only[World.cell?,hheap,Nat.zero_add];simp[Array.getD,hi']
  simp only[List.getElem?_map,Option.map_eq_some_iff]at hi;obtain ⟨q,⟨b,hbq,rfl⟩,rfl⟩:=hi;have hj0:j=0/\c=.b (.string (strB b.data.toList)):=by
   cases j with
   | zero=>exact ⟨rfl,(Option.some.inj hj).symm⟩
   | succ j=>cases hj
  obtain ⟨rfl,rfl⟩:=hj0;have hil:=(List.getElem?_eq_some_iff.1 hbq).1;have h1:(cur.toList.take (L.length * 1))[i]? =some (.string b):=by rw[htk];simp[hbq]
  have h2:cur.getD (i * 1+0) undef=.string (strB b.data.toList):=by
   rw[List.getElem?_take_of_lt (by omega)]at h1;rw[Array.getD_eq_getD_getElem?,Nat.mul_one,Nat.add_zero];rw[Array.getElem?_toList]at h1;rw[h1];rfl
  rw[h2];exact .b rfl
end
theorem y4a(a0:Str)(r:Str)(hr:v3a a0=some r):Run prog 98 [.s a0] (.s r):=by
 unfold v3a at hr;refine rf (fn:=f98) ⟨func98,rfl,by kernel_rfl⟩ rfl (fun _=>rfl) fun g0 hg=>?_
 refine rn tk 8 rfl<|wo (wMb (k:=7) (s:=a0) 1007 rfl rfl rfl rfl zwa zka zAa) rfl<|rn tk 7 rfl<|wq (jbb (l:=a0) rfl rfl zka.u) rfl rfl rfl<|rn tk 4 rfl<|al1 hr (fun s1=>[(3,.hs 1007 0),(8,.hs 1007 0),(9,.i ((a0.length:Int))),(10,.i s1.1)]) (fun s1=>[(1007,.buf s1.2)]) (.exit 0) (fun b2=>[(3,.hs 1007 0)]) (fun b2=>[(1007,.buf b2)]) rfl rfl (fun s1 x3 hr=>?_) (fun b2 hr=>?_)
 .unfold qja at hr;refine rn tk 6 rfl<|ac 11 hr rfl (fun c4 hr=>?_) (fun c4 hr=>?_)
  .refine rn tk 2 rfl<|jb hr (fun j5=>[(3,.hs 1007 0),(8,.hs 1007 0),(9,.i ((a0.length:Int))),(10,.i s1.1)]) (fun j5=>[(1007,.buf j5)]) (fun j5 hr=>?_) (fun j5 hr=>?_)
   .refine rn tk 4 rfl ?_;obtain ⟨v6,h7,hr⟩:=zaa hr;refine wq (kjb (l:=s1.2) (n:=s1.1) rfl rfl rfl zka zAa h7) rfl rfl rfl ?_;obtain ⟨v8,h9,hr⟩:=zaa hr;refine wq (wLb (l:=s1.2) (n:=s1.1) rfl rfl zAa h9) rfl rfl rfl<|rn tk 4 rfl<|jb hr (fun j10=>[(3,.hs 1007 0),(4,.i s1.1),(5,.u8 v8),(8,.hs 1007 0),(9,.i ((a0.length:Int))),(10,.i s1.1),(20,.bo j10)]) (fun j10=>[(1007,.buf s1.2)]) (fun j10 hr=>?_) (fun j10 hr=>?_)
    .refine rn tk 4 rfl<|bs 17 hr rfl (fun c11 hr=>?_) (fun c11 hr=>?_)
     .refine rn tk 4 rfl ?_;cases hr;exact jn _ rfl rfl rfl
     refine rn tk 4 rfl ?_;cases hr;exact jn _ rfl rfl rfl
    refine ac 20 hr rfl (fun c12 hr=>?_) (fun c12 hr=>?_)
    .refine rn tk 4 rfl<|wq (ev_u8add (a:=v8) (b:=(97:UInt8)) rfl rfl) rfl rfl rfl<|wq (ev_u8sub (a:=((v8+(97:UInt8)))) (b:=(65:UInt8)) rfl rfl) rfl rfl rfl ?_;obtain ⟨v13,h14,hr⟩:=zaa hr;refine wq (kjb (l:=s1.2) (n:=s1.1) rfl rfl rfl zka zAa h14) rfl rfl rfl ?_;obtain ⟨v15,h16,hr⟩:=zaa hr;refine wo (zjb (l:=s1.2) (n:=s1.1) (v:=v15) (v' :=(((v8+(97:UInt8)) - (65:UInt8)))) rfl rfl rfl zAa h16) rfl<|rn tk 2 rfl ?_;cases hr;exact jn _ rfl rfl rfl
    refine rn tk 2 rfl ?_;cases hr;exact jn _ rfl rfl rfl
   refine rn tk 4 rfl ?_;cases hr;exact atc rfl rfl
  refine rn tk 2 rfl ?_;cases hr;exact ato rfl rfl rfl rfl
 refine rn tk 5 rfl<|wq (ev_buf2s (l:=b2) rfl rfl zka zAa zwa) rfl rfl rfl<|rn tk 4 rfl ?_;cases hr;exact kr tk (.inr rfl) rfl rfl
theorem WAa(a0:zma)(r:zma)(hr:yba a0=some r):Run prog 131 [.agg (zA1 a0)] (.agg (zA1 r)):=by
 unfold yba at hr;refine rf (fn:=f131) ⟨func131,rfl,by kernel_rfl⟩ rfl (fun _=>rfl) fun g0 hg=>?_
 refine rn tk 15 rfl<|jb hr (fun j1=>[(2,.ptr 2 0),(3,.ptr 3 0)]) (fun j1=>[(3,.cells [.i a0.Verb,.s j1.1,.s j1.2.1,.i j1.2.2.1,.i j1.2.2.2.1,.bo j1.2.2.2.2]),(2,.cells [.i 0,.s (([]:Str)),.s (([]:Str)),.i 0,.i 0,.bo false])]) (fun j1 hr=>?_) (fun j1 hr=>?_)
 .refine rn tk 13 rfl<|ac 9 hr rfl (fun c2 hr=>?_) (fun c2 hr=>?_)
  .refine rn tk 7 rfl ?_;cases hr;exact jn _ rfl rfl rfl
  refine rn tk 6 rfl<|ac 14 hr rfl (fun c3 hr=>?_) (fun c3 hr=>?_)
  .refine mc tk [] [(2,.ptr 2 0),(3,.ptr 3 0)] mixed rfl (by kernel_rfl) .nil (fc rfl (fc rfl fn)) (hA ?_);refine rn tk 1 rfl ?_;cases hr;exact jn _ rfl rfl rfl
  refine rn tk 6 rfl<|ac 22 hr rfl (fun c4 hr=>?_) (fun c4 hr=>?_)
  .refine mc tk [] [(2,.ptr 2 0),(3,.ptr 3 0)] mixed rfl (by kernel_rfl) .nil (fc rfl (fc rfl fn)) (hA ?_);refine rn tk 1 rfl ?_;cases hr;exact jn _ rfl rfl rfl
  refine rn tk 6 rfl<|ac 30 hr rfl (fun c5 hr=>?_) (fun c5 hr=>?_)
  .refine mc tk [] [(2,.ptr 2 0),(3,.ptr 3 0)] mixed rfl (by kernel_rfl) .nil (fc rfl (fc rfl fn)) (hA ?_);refine rn tk 1 rfl ?_;cases hr;exact jn _ rfl rfl rfl
  refine rn tk 2 rfl ?_;cases hr;exact jn _ rfl rfl rfl
 refine rn tk 7 rfl ?_;cases hr;exact kr tk (.inr rfl) rfl rfl
theorem KPa(a0:zma)(r:zva)(hr:qSa a0=some r):Run prog 100 [.agg (zA1 a0)] (.agg [.i r.Code,.i r.Index]):=by
 unfold qSa at hr;refine rf (fn:=Tryz.f100) ⟨func100,rfl,by kernel_rfl⟩ rfl (fun _=>rfl) fun g0 hg=>?_
 refine rn tk 6 rfl<|jb hr (fun j1=>[(1,.ptr 1 0),(2,.ptr 2 0),(3,.bo j1)]) (fun j1=>[(2,.cells [.i 0,.i 0]),(1,.cells (zA1 a0))]) (fun j1 hr=>?_) (fun j1 hr=>?_)
 .refine rn tk 5 rfl<|bs 7 hr rfl (fun c2 hr=>?_) (fun c2 hr=>?_)
  .refine rn tk 11 rfl ?_;cases hr;exact jn _ rfl rfl rfl
  refine rn tk 4 rfl<|bs 11 hr rfl (fun c3 hr=>?_) (fun c3 hr=>?_)
  .refine rn tk 7 rfl ?_;cases hr;exact jn _ rfl rfl rfl
  refine rn tk 7 rfl ?_;cases hr;exact jn _ rfl rfl rfl
 refine rn tk 2 rfl<|jb hr (fun j4=>[(1,.ptr 1 0),(2,.ptr 2 0),(3,.bo j1),(17,.bo j4)]) (fun j4=>[(2,.cells [.i 0,.i 0]),(1,.cells (zA1 a0))]) (fun j4 hr=>?_) (fun j4 hr=>?_)
 .refine rn tk 5 rfl<|bs 21 hr rfl (fun c5 hr=>?_) (fun c5 hr=>?_)
  .refine rn tk 6 rfl ?_;cases hr;exact jn _ rfl rfl rfl
  refine rn tk 6 rfl ?_;cases hr;exact jn _ rfl rfl rfl
 refine ac 17 hr rfl (fun c6 hr=>?_) (fun c6 hr=>?_)
 .refine rn tk 2 rfl ?_;obtain ⟨v7,h8,hr⟩:=zaa hr;refine cl (zqa _ _ _ h8) rfl rfl<|rn tk 6 rfl ?_;cases hr;exact kr tk (.inr rfl) rfl rfl
 refine rn tk 1 rfl ?_;obtain ⟨v9,h10,hr⟩:=zaa hr;refine dr 3 [(30,.agg (zA1 v9)),(29,.agg (zA1 a0)),(28,.agg (zA1 a0))] mixed (by kernel_rfl) rfl rfl (pq tk rfl (.plain rfl) (pq tk rfl (.plain rfl) (.run (.plain rfl) (vWa (WAa a0 v9 h10) rfl) .nil))) rfl<|wq (Zca rfl rfl KXa W4a (.int rfl (by decide) jRa (.str rfl (by decide) zwa (.str rfl (by decide) zwa (.int rfl (by decide) jRa (.int rfl (by decide) jRa (.bool rfl (by decide) zrb .nil))))))) rfl rfl rfl<|rn tk 3 rfl<|ac 27 hr rfl (fun c11 hr=>?_) (fun c11 hr=>?_)
 .refine rn tk 2 rfl ?_;obtain ⟨v12,h13,hr⟩:=zaa hr;refine cl (zqa _ _ _ h13) rfl rfl<|rn tk 6 rfl ?_;cases hr;exact kr tk (.inr rfl) rfl rfl
 refine jb hr (fun j14=>[(1,.ptr 1 0),(2,.ptr 2 0),(3,.bo j1),(33,.bo j14)]) (fun j14=>[(2,.cells [.i 0,.i 0]),(1,.cells (zA1 a0))]) (fun j14 hr=>?_) (fun j14 hr=>?_)
 .refine rn tk 5 rfl<|bs 37 hr rfl (fun c15 hr=>?_) (fun c15 hr=>?_)
  .refine rn tk 2 rfl ?_;obtain ⟨v16,h17,hr⟩:=zaa hr;refine ug rfl rfl rfl<|cl (K6a _ _ h17) rfl rfl<|rn tk 4 rfl ?_;cases hr;exact jn _ rfl rfl rfl
  refine rn tk 7 rfl ?_;cases hr;exact jn _ rfl rfl rfl
 refine ac 33 hr rfl (fun c18 hr=>?_) (fun c18 hr=>?_)
 .refine rn tk 2 rfl ?_;obtain ⟨v19,h20,hr⟩:=zaa hr;refine cl (zqa _ _ _ h20) rfl rfl<|rn tk 6 rfl ?_;cases hr;exact kr tk (.inr rfl) rfl rfl
 refine jb hr (fun j21=>[(1,.ptr 1 0),(2,.ptr 2 0),(44,.bo j21)]) (fun j21=>[(2,.cells [.i 0,.i 0]),(1,.cells (zA1 a0))]) (fun j21 hr=>?_) (fun j21 hr=>?_)
 .refine rn tk 3 rfl<|bs 46 hr rfl (fun c22 hr=>?_) (fun c22 hr=>?_)
  .refine rn tk 2 rfl ?_;obtain ⟨v23,h24,hr⟩:=zaa hr;refine ug rfl rfl rfl<|cl (qqa _ _ h24) rfl rfl<|rn tk 4 rfl ?_;cases hr;exact jn _ rfl rfl rfl
  refine rn tk 7 rfl ?_;cases hr;exact jn _ rfl rfl rfl
 refine ac 44 hr rfl (fun c25 hr=>?_) (fun c25 hr=>?_)
 .refine rn tk 2 rfl ?_;obtain ⟨v26,h27,hr⟩:=zaa hr;refine cl (zqa _ _ _ h27) rfl rfl<|rn tk 6 rfl ?_;cases hr;exact kr tk (.inr rfl) rfl rfl
 refine jb hr (fun j28=>[(1,.ptr 1 0),(2,.ptr 2 0),(53,.bo j28)]) (fun j28=>[(2,.cells [.i 0,.i 0]),(1,.cells (zA1 a0))]) (fun j28 hr=>?_) (fun j28 hr=>?_)
 .refine rn tk 5 rfl<|bs 57 hr rfl (fun c29 hr=>?_) (fun c29 hr=>?_)
  .refine rn tk 6 rfl ?_;cases hr;exact jn _ rfl rfl rfl
  refine rn tk 6 rfl ?_;cases hr;exact jn _ rfl rfl rfl
 refine ac 53 hr rfl (fun c30 hr=>?_) (fun c30 hr=>?_)
 .refine rn tk 2 rfl ?_;obtain ⟨v31,h32,hr⟩:=zaa hr;refine cl (zqa _ _ _ h32) rfl rfl<|rn tk 6 rfl ?_;cases hr;exact kr tk (.inr rfl) rfl rfl
 refine rn tk 4 rfl ?_;obtain ⟨v33,h34,hr⟩:=zaa hr;refine cl (v7a _ _ h34) rfl rfl<|rn tk 4 rfl<|ac 63 hr rfl (fun c35 hr=>?_) (fun c35 hr=>?_)
 .refine rn tk 2 rfl ?_;obtain ⟨v36,h37,hr⟩:=zaa hr;refine cl (zqa _ _ _ h37) rfl rfl<|rn tk 6 rfl ?_;cases hr;exact kr tk (.inr rfl) rfl rfl
 refine rn tk 5 rfl ?_;obtain ⟨v38,h39,hr⟩:=zaa hr;refine cl (z2a _ h39) rfl rfl<|rn tk 4 rfl ?_;cases hr;exact kr tk (.inr rfl) rfl rfl
theorem qsb{g:G}{s:Str}{v:Value}(h:Rel g (.s s) v):v=.string (strB s):=kda h
theorem yoa(s t:Str)(r:Str × Bool)(hr:z3a s t=some r):Run prog 156 [.s s,.s t] (.tup [.s r.1,.bo r.2]):=by
 unfold z3a at hr;cases hr;refine ⟨⟨_,_,⟨func156,rfl,by kernel_rfl⟩⟩,fun g vs hw hg ha=>?_⟩;obtain ⟨hsz,hrel⟩:=ha;obtain ⟨l⟩:=vs
 match l,hsz with
 | [x,y],_=>
  obtain rfl:=qsb (hrel 0 _ rfl);obtain rfl:=qsb (hrel 1 _ rfl);refine callsIn_wide.2 ((Tryz.strings_CutPrefix (strB s) (strB t) g.w).mono ?_);rintro e w' ⟨rfl,rfl⟩;refine ⟨g,_,rfl,rfl,Old.refl _ g,hw,rfl,.tup rfl fun i c hi=>?_⟩
  match i,hi with
  | 0,rfl=>exact .pv (.b rfl)
  | 1,rfl=>exact .pv (.b rfl)
theorem qtb{g:G}{s:Str}{v:Value}(h:Rel g (.s s) v):v=.string (strB s):=kda h
theorem Koa(s t:Str)(r:Str × Bool)(hr:z4a s t=some r):Run prog 157 [.s s,.s t] (.tup [.s r.1,.bo r.2]):=by
 unfold z4a at hr;split at hr
 case isFalse=>cases hr
 rename_i hlen;cases hr;refine ⟨⟨_,_,⟨func157,rfl,by kernel_rfl⟩⟩,fun g vs hw hg ha=>?_⟩;obtain ⟨hsz,hrel⟩:=ha;obtain ⟨l⟩:=vs
 match l,hsz with
 | [x,y],_=>
  obtain rfl:=qtb (hrel 0 _ rfl);obtain rfl:=qtb (hrel 1 _ rfl);refine callsIn_wide.2 ((Tryz.strings_CutSuffix (strB s) (strB t) g.w (by rw[zKa];exact hlen)).mono ?_);rintro e w' ⟨rfl,rfl⟩;refine ⟨g,_,rfl,rfl,Old.refl _ g,hw,rfl,.tup rfl fun i c hi=>?_⟩
  match i,hi with
  | 0,rfl=>exact .pv (.b rfl)
  | 1,rfl=>exact .pv (.b rfl)
theorem y5a(a0:Str)(r:Str × Bool)(hr:qAa a0=some r):Run prog 127 [.s a0] (.tup [.s r.1,.bo r.2]):=by
 unfold qAa at hr;refine rf (fn:=f127) ⟨func127,rfl,by kernel_rfl⟩ rfl (fun _=>rfl) fun g0 hg=>?_
 refine rn tk 9 rfl ?_;obtain ⟨v1,h2,hr⟩:=zaa hr;refine cl (yoa _ _ _ h2) rfl rfl<|rn tk 10 rfl ?_;obtain ⟨v3,h4,hr⟩:=zaa hr;refine cl (Koa _ _ _ h4) rfl rfl<|rn tk 7 rfl<|jb hr (fun j5=>[(2,.s v3.1),(3,.bo j5)]) (fun j5=>[]) (fun j5 hr=>?_) (fun j5 hr=>?_)
 .refine rn tk 4 rfl<|bs 19 hr rfl (fun c6 hr=>?_) (fun c6 hr=>?_)
  .refine rn tk 5 rfl ?_;cases hr;exact jn _ rfl rfl rfl
  refine rn tk 5 rfl ?_;cases hr;exact jn _ rfl rfl rfl
 refine rn tk 1 rfl ?_;cases hr;exact kr tk (.inr rfl) rfl rfl
theorem qub(g:G)(e:TypeId)(s:ByteArray):Old (fun _=>False) g ⟨Lib.bytesWorld g.w e s,g.u,g.loc⟩:=by
 generalize hw:Lib.bytesWorld g.w e s=w';unfold Lib.bytesWorld at hw;have hother:∀q,q < g.w.heap.size->w'.heap[q]? =g.w.heap[q]? :=by
  intro q hq;subst hw;simp only[World.freeze,Nat.one_ne_zero,if_false,Array.getElem?_modify];rw[if_neg (by omega)];exact Below.heap_alloc g.w.drew _ _ hq
 have hws:w'.heap.size=g.w.heap.size+1:=by subst hw;simp[World.freeze]
 refine ⟨by subst hw;first | (simp[World.freeze];done) | (simp[World.freeze];rfl),by subst hw;first | (simp[World.freeze];done) | (simp[World.freeze];rfl),by subst hw;first | (simp[World.freeze];done) | (simp[World.freeze];rfl),⟨by show g.w.heap.size<=w'.heap.size;omega,fun _ _=>Nat.le_refl _,fun k i hk hi=>?_,fun r hr=>(hother r (z6a hr)).trans hr⟩,fun k hk _=>⟨hother k hk,rfl⟩⟩;simp only[World.cell?];rw[hother k hk]
theorem yyb{g:G}{w' :World}(h:Below g.w.heap.size g.w w'):Old (fun _=>False) g ⟨w',g.u,g.loc⟩:=
 ⟨h.os,h.tape,h.output,⟨h.size,fun _ _=>Nat.le_refl _,fun k i hk _=>by simp only[World.cell?];rw[h.block k hk],fun r hr=>(h.block r (z6a hr)).trans hr⟩,fun k hk _=>⟨h.block k hk,rfl⟩⟩
theorem err_var {g : G} (hg : Gl g) : ∃ tp p, g.w.var? prog "strconv.ErrSyntax" = some #[.iface tp p] := by
 obtain ⟨tp,x,t,fz,h⟩:=hg.2.2 6 (by simp[wAb]);have hn : prog.globalNamed "strconv.ErrSyntax" = some 6 := by kernel_rfl
 refine ⟨tp,x,?_⟩;unfold World.var?;rw[hn];simp only[Option.bind_some];rw[h]
theorem WBa(s:Str)(r:Int × Bool)(hr:via s=some r):Run prog 186 [.s s] (.tup [.i r.1,.ifc r.2]):=by
 unfold via at hr;split at hr
 case isFalse=>cases hr
 rename_i hlen;refine ⟨⟨_,_,⟨func186,rfl,by kernel_rfl⟩⟩,fun g vs hw hg ha=>?_⟩;obtain ⟨hsz,hrel⟩:=ha;obtain ⟨l⟩:=vs
 match l,hsz with
 | [x],_=>
  obtain rfl:=str_argN (hrel 0 _ rfl);cases hn:Lib.atoi s with
  | none=>
   rw[hn]at hr;cases hr;obtain ⟨tp,p,hvar⟩:=err_var hg;refine callsIn_wide.2 ((Tryz.strconv_Atoi_err_var (strB s) (by rw[zKa];exact hlen) (by simpa[strB]using hn) tp p g.w hvar).mono ?_);rintro e w' ⟨N,rfl,_,_,hb⟩;exact ⟨⟨w',g.u,g.loc⟩,_,rfl,rfl,yyb hb,fun k hk=>hw k (Nat.le_trans hb.size hk),rfl,.tup rfl fun i c hi=>by
    match i,hi with
    | 0,rfl=>exact .pv (.b rfl)
    | 1,rfl=>exact .ifc rfl⟩
  | some n=>
   rw[hn]at hr;cases hr;refine callsIn_wide.2 ((Tryz.strconv_Atoi (strB s) n (by rw[zKa];exact hlen) (by simpa[strB]using hn) g.w).mono ?_);rintro e w' ⟨rfl,t,rfl⟩;exact ⟨⟨_,g.u,g.loc⟩,_,rfl,rfl,qub g _ _,fun k hk=>hw k (Nat.le_trans (qub g _ _).ext.size hk),rfl,.tup rfl fun i c hi=>by
    match i,hi with
    | 0,rfl=>exact .pv (.b rfl)
    | 1,rfl=>exact .ifc rfl⟩
theorem WCa(a0:Str)(a1:Int)(r:Int × Bool)(hr:yca a0 a1=some r):Run prog 158 [.s a0,.i a1] (.tup [.i r.1,.bo r.2]):=by
 unfold yca at hr;refine rf (fn:=f158) ⟨func158,rfl,by kernel_rfl⟩ rfl (fun _=>rfl) fun g0 hg=>?_
 refine rn tk 9 rfl ?_;obtain ⟨v1,h2,hr⟩:=zaa hr;refine cl (WBa _ _ h2) rfl rfl<|rn tk 8 rfl<|jb hr (fun j3=>[(6,.i v1.1),(29,.bo j3)]) (fun j3=>[]) (fun j3 hr=>?_) (fun j3 hr=>?_)
 .refine rn tk 2 rfl<|wq (ev_ifneq rfl rfl vYb) rfl rfl rfl<|rn tk 1 rfl<|bs 15 hr rfl (fun c4 hr=>?_) (fun c4 hr=>?_)
  .refine rn tk 15 rfl ?_;cases hr;exact jn _ rfl rfl rfl
  refine rn tk 1 rfl ?_;obtain ⟨v5,h6,hr⟩:=zaa hr;refine ug rfl rfl rfl<|cl (vYa _ _ h6) rfl rfl<|rn tk 4 rfl<|bs 21 hr rfl (fun c7 hr=>?_) (fun c7 hr=>?_)
  .refine rn tk 9 rfl ?_;cases hr;exact jn _ rfl rfl rfl
  refine rn tk 4 rfl<|bs 25 hr rfl (fun c8 hr=>?_) (fun c8 hr=>?_)
  .refine rn tk 5 rfl ?_;cases hr;exact jn _ rfl rfl rfl
  refine rn tk 5 rfl ?_;cases hr;exact jn _ rfl rfl rfl
 refine ac 29 hr rfl (fun c9 hr=>?_) (fun c9 hr=>?_)
 .refine rn tk 8 rfl ?_;cases hr;exact kr tk (.inr rfl) rfl rfl
 refine rn tk 10 rfl ?_;cases hr;exact kr tk (.inr rfl) rfl rfl
theorem jra(a0:Str)(r:Int × Bool)(hr:qWa a0=some r):Run prog 129 [.s a0] (.tup [.i r.1,.bo r.2]):=by
 unfold qWa at hr;refine rf (fn:=Tryz.f129) ⟨func129,rfl,by kernel_rfl⟩ rfl (fun _=>rfl) fun g0 hg=>?_
 refine rn tk 14 rfl<|ac 6 hr rfl (fun c1 hr=>?_) (fun c1 hr=>?_)
 .refine rn tk 8 rfl ?_;cases hr;exact kr tk (.inr rfl) rfl rfl
 refine rn tk 5 rfl ?_;obtain ⟨v2,h3,hr⟩:=zaa hr;refine cl (WCa _ _ _ h3) rfl rfl<|rn tk 7 rfl ?_;cases hr;exact kr tk (.inr rfl) rfl rfl
theorem jsa(a0:List Str)(a1:Str)(r:Str × Bool)(hr:kWa a0 a1=some r):Run prog 128 [.l cS a0,.s a1] (.tup [.s r.1,.bo r.2]):=by
 unfold kWa at hr;refine rf (fn:=f128) ⟨func128,rfl,by kernel_rfl⟩ rfl (fun _=>rfl) fun g0 hg=>?_
 refine rn tk 10 rfl<|wn tk rfl rfl rfl<|rn tk 3 rfl<|ac 8 hr rfl (fun c1 hr=>?_) (fun c1 hr=>?_)
 .refine rn tk 8 rfl ?_;cases hr;exact kr tk (.inr rfl) rfl rfl
 refine rn tk 5 rfl ?_;obtain ⟨v2,h3,hr⟩:=zaa hr;refine wi tk h3 rfl rfl rfl rfl rfl<|rn tk 1 rfl ?_;obtain ⟨v4,h5,hr⟩:=zaa hr;refine cl (y4a _ _ h5) rfl rfl<|rn tk 1 rfl ?_;obtain ⟨v6,h7,hr⟩:=zaa hr;refine wc h7 rfl rfl rfl ?_;obtain ⟨v8,h9,hr⟩:=zaa hr;refine cl (yoa _ _ _ h9) rfl rfl<|rn tk 7 rfl ?_;cases hr;exact kr tk (.inr rfl) rfl rfl
theorem Vha(a0:Int)(a1:Int)(c0_0:List Str)(r:Bool)(hr:vPa a0 a1 c0_0=some r):Run prog 126 [.i a0,.i a1,.ep [pL cS c0_0]] (.bo r):=by
 unfold vPa at hr;refine rf (fn:=f126) ⟨func126,rfl,by kernel_rfl⟩ rfl (fun _=>rfl) fun g0 hg=>?_
 refine rn tk 5 rfl<|jb hr (fun j1=>[(5,.bo j1)]) (fun j1=>[]) (fun j1 hr=>?_) (fun j1 hr=>?_)
 .refine rn tk 2 rfl<|wn tk rfl rfl rfl<|rn tk 3 rfl<|bs 10 hr rfl (fun c2 hr=>?_) (fun c2 hr=>?_)
  .refine rn tk 1 rfl<|ug rfl rfl rfl<|wn tk rfl rfl rfl<|rn tk 5 rfl ?_;cases hr;exact jn _ rfl rfl rfl
  refine rn tk 7 rfl ?_;cases hr;exact jn _ rfl rfl rfl
 refine rn tk 1 rfl ?_;cases hr;exact kr tk (.inr rfl) rfl rfl
theorem ZNb{g:G}{w' :World}(h:Below g.w.heap.size g.w w'):Old (fun _=>False) g ⟨w',g.u,g.loc⟩:=
 ⟨h.os,h.tape,h.output,⟨h.size,fun _ _=>Nat.le_refl _,fun k i hk _=>by simp only[World.cell?];rw[h.block k hk],fun r hr=>(h.block r (z6a hr)).trans hr⟩,fun k hk _=>⟨h.block k hk,rfl⟩⟩
theorem str_argJ{g:G}{s:Str}{v:Value}(h:Rel g (.s s) v):v=.string (strB s):=kda h
theorem ZOb{g:G}{l:List Str}{v:Value}(h:Rel g (.l cS l) v):∃ad cap,v=.slice ad l.length cap/\l.length<=cap/\(l≠ []->∃b off,ad=some ⟨b,off,none⟩/\b < g.w.heap.size/\∀(i:Nat) s,l[i]? =some s->g.w.cell? ⟨b,off+i,none⟩=some (.string (strB s))):=by
 cases h with
 | pv h=>
  generalize hE:l.map cS=elems at h;have hEl:elems.length=l.length:=by rw[<-hE];simp
  unfold pL at h;rw[hE]at h;cases h with
  | @sl _ _ a cap size b off val hn h0 hc hz ha hu hcell h=>
   refine ⟨a,cap,by rw[hEl],by omega,fun hne=>?_⟩;have hne' :elems≠ []:=by rw[<-hE];simpa using hne
   refine ⟨b,off,ha hne',(hu hne').2,fun i s hi=>?_⟩;have hget:elems[i]? =some (cS s):=by rw[<-hE];simp[hi]
   have hs1:size=1:=by
    have:=hz _ (List.mem_of_getElem? hget);simpa[cS]using this.symm
   subst hs1;have hlt:i < elems.length:=(List.getElem?_eq_some_iff.1 hget).1;rw[hcell i (by omega)];have:=h i 0 _ (.b (.string (strB s))) hget rfl;simp only[Nat.mul_one,Nat.add_zero]at this;have e:=kda (g:=g) (.pv this);rw[e]
theorem WDa(l:List Str)(s:Str)(r:Str)(hr:vja l s=some r):Run prog 188 [.l cS l,.s s] (.s r):=by
 unfold vja at hr;split at hr
 case isFalse=>cases hr
 rename_i hlen;cases hr;refine ⟨⟨_,_,⟨func188,rfl,by kernel_rfl⟩⟩,fun g vs hw hg ha=>?_⟩;obtain ⟨hsz,hrel⟩:=ha;obtain ⟨vl⟩:=vs
 match vl,hsz with
 | [x,y],_=>
  have h0:Rel g (.l cS l) x:=hrel 0 _ rfl;obtain rfl:=str_argJ (hrel 1 _ rfl);obtain ⟨ad,cap,rfl,hcap,hcell⟩:=ZOb h0;refine callsIn_wide.2 ?_
  suffices hs:Calls prog 188 #[.slice ad l.length cap,.string (strB s)] g.w fun e w' =>e=.returned (.string (strB (Lib.join l s)))/\Below g.w.heap.size g.w w' by
   refine hs.mono ?_;rintro e w' ⟨rfl,hb⟩;exact ⟨⟨w',g.u,g.loc⟩,_,rfl,rfl,ZNb hb,fun k hk=>hw k (Nat.le_trans hb.size hk),rfl,.pv (.b rfl)⟩
  cases l with
  | nil=>exact (Tryz.strings_Join_none ad cap (strB s) g.w).mono fun e w' ⟨he,hw⟩=>⟨he,hw▸Below.refl _ _⟩
  | cons a l=>
   obtain ⟨b,off,rfl,hb,hc⟩:=hcell (by simp);have e1:((a::l).map strB).map (·.data.toList)=a::l:=by
    rw[List.map_map]
    conv=>rhs;rw[<-List.map_id (a::l)]
    exact List.map_congr_left fun x _=>rfl
   have:=Tryz.strings_Join b off cap ((a::l).map strB) (strB s) g.w (fun j x hx=>by
    simp only[List.getElem?_map,Option.map_eq_some_iff]at hx;obtain ⟨y,hy,rfl⟩:=hx;exact hc j y hy) hb (by rw[List.length_map];exact hlen.1) (by rw[List.length_map];exact hcap) (by rw[e1];exact hlen.2)
   rw[e1,List.length_map]at this;exact this
theorem ZOa(r:zna × zna × zna)(hr:q6a=some r):Run prog 187 [] (.agg [.i r.1.n,.s r.1.word,.i r.2.1.n,.s r.2.1.word,.i r.2.2.n,.s r.2.2.word]):=by
 unfold q6a at hr;refine rf (fn:=Tryz.f187) ⟨func187,rfl,by kernel_rfl⟩ rfl (fun _=>rfl) fun g0 hg=>?_
 refine rn tk 10 rfl<|wq (kkb (cs:=[.i 1,.s (([102,97,105,108,117,114,101]:Str)),.i 2,.s (([100,101,108,97,121]:Str)),.i 4,.s (([115,117,99,99,101,115,115]:Str))]) qHa vGa (.inr ⟨rfl,rfl⟩) (by kernel_rfl)) rfl rfl rfl<|rn tk 4 rfl ?_;cases hr;exact kr tk (.inr rfl) rfl rfl
theorem Via(a0:Int)(r:Str)(hr:vOa a0=some r):Run prog 159 [.i a0] (.s r):=by
 unfold vOa at hr;refine rf (fn:=f159) ⟨func159,rfl,by kernel_rfl⟩ rfl (fun _=>rfl) fun g0 hg=>?_
 refine rn tk 8 rfl ?_;refine qUa 1003 (d:=3) 9 1 rfl rfl rfl (hO ?_);refine rn tk 5 rfl ?_;obtain ⟨v1,h2,hr⟩:=zaa hr;refine cl (ZOa _ h2) rfl rfl<|rn tk 4 rfl<|al1 hr (fun s3=>[(0,.i a0),(3,.hs 1003 0),(6,.agg [.i v1.1.n,.s v1.1.word,.i v1.2.1.n,.s v1.2.1.word,.i v1.2.2.n,.s v1.2.2.word]),(7,.i s3.1)]) (fun s3=>[(1003,.row 9 false 1 (List.map cS s3.2))]) (.exit 0) (fun b4=>[(3,.hs 1003 0)]) (fun b4=>[(1003,.row 9 false 1 (List.map cS b4))]) rfl rfl (fun s3 x5 hr=>?_) (fun b4 hr=>?_)
 .unfold wPa at hr;refine rn tk 6 rfl<|ac 8 hr rfl (fun c6 hr=>?_) (fun c6 hr=>?_)
  .refine rn tk 2 rfl<|jb hr (fun j7=>[(0,.i a0),(3,.hs 1003 0),(6,.agg [.i v1.1.n,.s v1.1.word,.i v1.2.1.n,.s v1.2.1.word,.i v1.2.2.n,.s v1.2.2.word]),(7,.i s3.1)]) (fun j7=>[(1003,.row 9 false 1 (List.map cS j7))]) (fun j7 hr=>?_) (fun j7 hr=>?_)
   .refine rn tk 3 rfl ?_;obtain ⟨v8,h9,hr⟩:=zaa hr;refine wq (ev_aidxN (f:=zna.pc) (L:=([v1.1,v1.2.1,v1.2.2]:List zna)) rfl rfl qHa vGa rfl rfl (fun _=>rfl) h9) rfl rfl rfl<|rn tk 9 rfl<|wq (ev_iand rfl rfl) rfl rfl rfl<|rn tk 3 rfl<|ac 14 hr rfl (fun c10 hr=>?_) (fun c10 hr=>?_)
    .refine rn tk 4 rfl<|wz cS ([v8.word]:List Str) tk rfl rfl (fun _=>rfl) rfl rfl rfl ?_;obtain ⟨v11,h12,hr⟩:=zaa hr;refine wa tk h12 rfl rfl rfl rfl (fun _=>rfl) rfl rfl<|rn tk 3 rfl ?_;cases hr;exact jn _ rfl rfl rfl
    refine rn tk 2 rfl ?_;cases hr;exact jn _ rfl rfl rfl
   refine rn tk 4 rfl ?_;cases hr;exact atc rfl rfl
  refine rn tk 2 rfl ?_;cases hr;exact ato rfl rfl rfl rfl
 refine rn tk 6 rfl<|wnh tk rfl rfl rfl rfl<|rn tk 3 rfl<|ac 23 hr rfl (fun c13 hr=>?_) (fun c13 hr=>?_)
 .refine rn tk 7 rfl ?_;cases hr;exact kr tk (.inr rfl) rfl rfl
 refine rn tk 5 rfl ?_;refine Zaa (d:=24) (F:=cS) (l:=b4) rfl rfl (hO ?_);obtain ⟨v14,h15,hr⟩:=zaa hr;refine cl (WDa _ _ _ h15) rfl rfl<|rn tk 4 rfl ?_;cases hr;exact kr tk (.inr rfl) rfl rfl
theorem WEa(a0:Str)(a1:Bool)(r:Int × Bool)(hr:yda a0 a1=some r):Run prog 130 [.s a0,.bo a1] (.tup [.i r.1,.bo r.2]):=by
 unfold yda at hr;refine rf (fn:=f130) ⟨func130,rfl,by kernel_rfl⟩ rfl (fun _=>rfl) fun g0 hg=>?_
 refine rn tk 13 rfl<|al2 hr (fun s1=>[(0,.s a0),(1,.bo a1),(7,.i s1)]) (fun s1=>[]) (.exit 0) (fun b2=>[]) (fun b2=>[]) .ret (fun b3=>[(4,.i b3.1),(5,.bo b3.2)]) (fun b3=>[]) rfl rfl (fun s1 x5 hr=>?_) (fun b2 hr=>?_) (fun b3 hr=>?_)
 .unfold kga at hr;refine rn tk 6 rfl<|ac 8 hr rfl (fun c6 hr=>?_) (fun c6 hr=>?_)
  .refine rn tk 10 rfl<|jb hr (fun j7=>[(0,.s a0),(1,.bo a1),(6,.i s1),(7,.i s1),(16,.bo j7)]) (fun j7=>[]) (fun j7 hr=>?_) (fun j7 hr=>?_)
   .refine rn tk 3 rfl<|bs 11 hr rfl (fun c8 hr=>?_) (fun c8 hr=>?_)
    .refine rn tk 1 rfl ?_;obtain ⟨v9,h10,hr⟩:=zaa hr;refine ug rfl rfl rfl<|cl (Via _ _ h10) rfl rfl<|rn tk 4 rfl ?_;cases hr;exact jn _ rfl rfl rfl
    refine rn tk 6 rfl ?_;cases hr;exact jn _ rfl rfl rfl
   refine ac 16 hr rfl (fun c11 hr=>?_) (fun c11 hr=>?_)
   .refine rn tk 10 rfl ?_;cases hr;exact ato rfl rfl rfl rfl
   refine rn tk 7 rfl ?_;cases hr;exact atc rfl rfl
  refine rn tk 2 rfl ?_;cases hr;exact ato rfl rfl rfl rfl
 .refine rn tk 9 rfl ?_;cases hr;exact kr tk (.inr rfl) rfl rfl
 refine rn tk 2 rfl ?_;cases hr;exact kr tk (.inr rfl) rfl rfl
theorem WFa(a0:Int)(a1:List Str)(r:zma × Bool)(hr:yea a0 a1=some r):Run prog 99 [.i a0,.l cS a1] (.tup [.agg (zA1 r.1),.bo r.2]):=by
 unfold yea at hr;refine rf (fn:=Tryz.f99) ⟨func99,rfl,by kernel_rfl⟩ rfl (fun _=>rfl) fun g0 hg=>?_
 refine rn tk 17 rfl ?_;refine qSb 3 (cs:=[pL cS a1]) rfl rfl (hO ?_);refine rn tk 10 rfl<|jk (fun j1=>[(4,.ptr 4 0),(6,.ptr 6 0),(8,.bo j1.1),(9,.bo j1.2.1)]) (fun j1=>[(6,.cells [.i a0,.s j1.2.2.1,.s j1.2.2.2.1,.i j1.2.2.2.2.1,.i j1.2.2.2.2.2.1,.bo j1.2.2.2.2.2.2]),(4,.cells [.i 0,.s (([]:Str)),.s (([]:Str)),.i 0,.i 0,.bo false])]) (fun j1=>kha a0 j1=some r) ?_ ?_
 .refine rn tk 12 rfl<|ac 19 hr rfl (fun c4 hr=>?_) (fun c4 hr=>?_)
  .refine rn tk 4 rfl<|il (fn:=f126) (args:=[.i 1,.i 1,.ep [pL cS a1]]) 500000 599999 [(3,.ep [pL cS a1]),(4,.ptr 4 0),(6,.ptr 6 0),(8,.bo true),(9,.bo true)] rfl ⟨func126,rfl,by kernel_rfl⟩ rfl rfl rfl fun T5 ds5=>?_
   refine rn tk 5 rfl<|jb hr (fun j5=>[(5,.bo j5)]) (fun j5=>[(599999,.sus g0.w.heap.size ds5),(500003,.hold (.ep [pL cS a1]) (T5.getD 3 undef)),(500004,.hold (.ptr 4 0) (T5.getD 4 undef)),(500006,.hold (.ptr 6 0) (T5.getD 6 undef)),(500008,.hold (.bo true) (T5.getD 8 undef)),(500009,.hold (.bo true) (T5.getD 9 undef)),(6,.cells [.i a0,.s (([]:Str)),.s (([]:Str)),.i 0,.i 0,.bo false]),(4,.cells [.i 0,.s (([]:Str)),.s (([]:Str)),.i 0,.i 0,.bo false])]) (fun j5 hr=>?_) (fun j5 hr=>?_)
   .refine rn tk 2 rfl<|wn tk rfl rfl rfl<|rn tk 3 rfl<|bs 10 hr rfl (fun c6 hr=>?_) (fun c6 hr=>?_)
    .refine rn tk 1 rfl<|ug rfl rfl rfl<|wn tk rfl rfl rfl<|rn tk 5 rfl ?_;cases hr;exact jn _ rfl rfl rfl
    refine rn tk 7 rfl ?_;cases hr;exact jn _ rfl rfl rfl
   refine rn tk 1 rfl ?_;refine ie tk [.bo j5] [(3,.ep [pL cS a1]),(4,.ptr 4 0),(6,.ptr 6 0),(8,.bo true),(9,.bo true)] [(6,.cells [.i a0,.s (([]:Str)),.s (([]:Str)),.i 0,.i 0,.bo false]),(4,.cells [.i 0,.s (([]:Str)),.s (([]:Str)),.i 0,.i 0,.bo false])] (.inr rfl) rfl rfl rfl rfl (hO ?_);refine rn tk 3 rfl<|ac 23 hr rfl (fun c7 hr=>?_) (fun c7 hr=>?_)
   .refine rn tk 11 rfl ?_;cases hr;exact kr tk (.inr rfl) rfl rfl
   refine rn tk 4 rfl ?_;obtain ⟨v8,h9,hr⟩:=zaa hr;refine wi tk h9 rfl rfl rfl rfl rfl<|rn tk 5 rfl<|jn ((true,true,v8,([]:Str),0,0,false)) hr rfl rfl
  refine rn tk 6 rfl<|ac 29 hr rfl (fun c10 hr=>?_) (fun c10 hr=>?_)
  .refine rn tk 4 rfl<|il (fn:=f126) (args:=[.i 1,.i 2,.ep [pL cS a1]]) 600000 699999 [(3,.ep [pL cS a1]),(4,.ptr 4 0),(6,.ptr 6 0),(9,.bo true)] rfl ⟨func126,rfl,by kernel_rfl⟩ rfl rfl rfl fun T6 ds6=>?_
   refine rn tk 5 rfl<|jb hr (fun j11=>[(5,.bo j11)]) (fun j11=>[(699999,.sus g0.w.heap.size ds6),(600003,.hold (.ep [pL cS a1]) (T6.getD 3 undef)),(600004,.hold (.ptr 4 0) (T6.getD 4 undef)),(600006,.hold (.ptr 6 0) (T6.getD 6 undef)),(600009,.hold (.bo true) (T6.getD 9 undef)),(6,.cells [.i a0,.s (([]:Str)),.s (([]:Str)),.i 0,.i 0,.bo false]),(4,.cells [.i 0,.s (([]:Str)),.s (([]:Str)),.i 0,.i 0,.bo false])]) (fun j11 hr=>?_) (fun j11 hr=>?_)
   .refine rn tk 2 rfl<|wn tk rfl rfl rfl<|rn tk 3 rfl<|bs 10 hr rfl (fun c12 hr=>?_) (fun c12 hr=>?_)
    .refine rn tk 1 rfl<|ug rfl rfl rfl<|wn tk rfl rfl rfl<|rn tk 5 rfl ?_;cases hr;exact jn _ rfl rfl rfl
    refine rn tk 7 rfl ?_;cases hr;exact jn _ rfl rfl rfl
   refine rn tk 1 rfl ?_;refine ie tk [.bo j11] [(3,.ep [pL cS a1]),(4,.ptr 4 0),(6,.ptr 6 0),(9,.bo true)] [(6,.cells [.i a0,.s (([]:Str)),.s (([]:Str)),.i 0,.i 0,.bo false]),(4,.cells [.i 0,.s (([]:Str)),.s (([]:Str)),.i 0,.i 0,.bo false])] (.inr rfl) rfl rfl rfl rfl (hO ?_);refine rn tk 3 rfl<|ac 33 hr rfl (fun c13 hr=>?_) (fun c13 hr=>?_)
   .refine rn tk 11 rfl ?_;cases hr;exact kr tk (.inr rfl) rfl rfl
   refine rn tk 5 rfl ?_;obtain ⟨v14,h15,hr⟩:=zaa hr;refine wi tk h15 rfl rfl rfl rfl rfl<|rn tk 1 rfl ?_;obtain ⟨v16,h17,hr⟩:=zaa hr;refine cl (y5a _ _ h17) rfl rfl<|rn tk 11 rfl<|wn tk rfl rfl rfl<|rn tk 3 rfl<|ac 45 hr rfl (fun c18 hr=>?_) (fun c18 hr=>?_)
   .refine rn tk 13 rfl ?_;obtain ⟨v19,h20,hr⟩:=zaa hr;refine wlL tk h20 rfl rfl rfl (fun _=>rfl) rfl ?_;obtain ⟨v21,h22,hr⟩:=zaa hr;refine cl (jsa _ _ _ h22) rfl rfl<|rn tk 10 rfl ?_;obtain ⟨v23,h24,hr⟩:=zaa hr;refine cl (jra _ _ h24) rfl rfl<|rn tk 11 rfl<|bs 59 hr rfl (fun c25 hr=>?_) (fun c25 hr=>?_)
    .refine rn tk 5 rfl<|jn ((v16.2,v21.2,([]:Str),v16.1,v23.1,0,false)) hr rfl rfl
    refine rn tk 5 rfl<|jn ((v16.2,false,([]:Str),v16.1,v23.1,0,false)) hr rfl rfl
   refine rn tk 2 rfl<|jn ((v16.2,true,([]:Str),v16.1,0,0,false)) hr rfl rfl
  refine rn tk 6 rfl<|ac 62 hr rfl (fun c26 hr=>?_) (fun c26 hr=>?_)
  .refine rn tk 4 rfl<|il (fn:=f126) (args:=[.i 1,.i 2,.ep [pL cS a1]]) 700000 799999 [(3,.ep [pL cS a1]),(4,.ptr 4 0),(6,.ptr 6 0),(9,.bo true)] rfl ⟨func126,rfl,by kernel_rfl⟩ rfl rfl rfl fun T7 ds7=>?_
   refine rn tk 5 rfl<|jb hr (fun j27=>[(5,.bo j27)]) (fun j27=>[(799999,.sus g0.w.heap.size ds7),(700003,.hold (.ep [pL cS a1]) (T7.getD 3 undef)),(700004,.hold (.ptr 4 0) (T7.getD 4 undef)),(700006,.hold (.ptr 6 0) (T7.getD 6 undef)),(700009,.hold (.bo true) (T7.getD 9 undef)),(6,.cells [.i a0,.s (([]:Str)),.s (([]:Str)),.i 0,.i 0,.bo false]),(4,.cells [.i 0,.s (([]:Str)),.s (([]:Str)),.i 0,.i 0,.bo false])]) (fun j27 hr=>?_) (fun j27 hr=>?_)
   .refine rn tk 2 rfl<|wn tk rfl rfl rfl<|rn tk 3 rfl<|bs 10 hr rfl (fun c28 hr=>?_) (fun c28 hr=>?_)
    .refine rn tk 1 rfl<|ug rfl rfl rfl<|wn tk rfl rfl rfl<|rn tk 5 rfl ?_;cases hr;exact jn _ rfl rfl rfl
    refine rn tk 7 rfl ?_;cases hr;exact jn _ rfl rfl rfl
   refine rn tk 1 rfl ?_;refine ie tk [.bo j27] [(3,.ep [pL cS a1]),(4,.ptr 4 0),(6,.ptr 6 0),(9,.bo true)] [(6,.cells [.i a0,.s (([]:Str)),.s (([]:Str)),.i 0,.i 0,.bo false]),(4,.cells [.i 0,.s (([]:Str)),.s (([]:Str)),.i 0,.i 0,.bo false])] (.inr rfl) rfl rfl rfl rfl (hO ?_);refine rn tk 3 rfl<|ac 66 hr rfl (fun c29 hr=>?_) (fun c29 hr=>?_)
   .refine rn tk 11 rfl ?_;cases hr;exact kr tk (.inr rfl) rfl rfl
   refine rn tk 5 rfl ?_;obtain ⟨v30,h31,hr⟩:=zaa hr;refine wi tk h31 rfl rfl rfl rfl rfl<|rn tk 1 rfl ?_;obtain ⟨v32,h33,hr⟩:=zaa hr;refine cl (y5a _ _ h33) rfl rfl<|rn tk 17 rfl<|wn tk rfl rfl rfl<|rn tk 3 rfl<|ac 79 hr rfl (fun c34 hr=>?_) (fun c34 hr=>?_)
   .refine rn tk 2 rfl ?_;obtain ⟨v35,h36,hr⟩:=zaa hr;refine wlL tk h36 rfl rfl rfl (fun _=>rfl) rfl ?_;obtain ⟨v37,h38,hr⟩:=zaa hr;refine cl (jsa _ _ _ h38) rfl rfl<|rn tk 2 rfl ?_;obtain ⟨v39,h40,hr⟩:=zaa hr;refine cl (WEa _ _ _ h40) rfl rfl<|rn tk 8 rfl<|jn ((v32.2,v39.2,([]:Str),v32.1,0,v39.1,false)) hr rfl rfl
   refine rn tk 2 rfl<|jn ((v32.2,true,([]:Str),v32.1,0,1,false)) hr rfl rfl
  refine rn tk 6 rfl<|ac 90 hr rfl (fun c41 hr=>?_) (fun c41 hr=>?_)
  .refine rn tk 4 rfl<|il (fn:=f126) (args:=[.i 1,.i 2,.ep [pL cS a1]]) 800000 899999 [(3,.ep [pL cS a1]),(4,.ptr 4 0),(6,.ptr 6 0)] rfl ⟨func126,rfl,by kernel_rfl⟩ rfl rfl rfl fun T8 ds8=>?_
   refine rn tk 5 rfl<|jb hr (fun j42=>[(5,.bo j42)]) (fun j42=>[(899999,.sus g0.w.heap.size ds8),(800003,.hold (.ep [pL cS a1]) (T8.getD 3 undef)),(800004,.hold (.ptr 4 0) (T8.getD 4 undef)),(800006,.hold (.ptr 6 0) (T8.getD 6 undef)),(6,.cells [.i a0,.s (([]:Str)),.s (([]:Str)),.i 0,.i 0,.bo false]),(4,.cells [.i 0,.s (([]:Str)),.s (([]:Str)),.i 0,.i 0,.bo false])]) (fun j42 hr=>?_) (fun j42 hr=>?_)
   .refine rn tk 2 rfl<|wn tk rfl rfl rfl<|rn tk 3 rfl<|bs 10 hr rfl (fun c43 hr=>?_) (fun c43 hr=>?_)
    .refine rn tk 1 rfl<|ug rfl rfl rfl<|wn tk rfl rfl rfl<|rn tk 5 rfl ?_;cases hr;exact jn _ rfl rfl rfl
    refine rn tk 7 rfl ?_;cases hr;exact jn _ rfl rfl rfl
   refine rn tk 1 rfl ?_;refine ie tk [.bo j42] [(3,.ep [pL cS a1]),(4,.ptr 4 0),(6,.ptr 6 0)] [(6,.cells [.i a0,.s (([]:Str)),.s (([]:Str)),.i 0,.i 0,.bo false]),(4,.cells [.i 0,.s (([]:Str)),.s (([]:Str)),.i 0,.i 0,.bo false])] (.inr rfl) rfl rfl rfl rfl (hO ?_);refine rn tk 3 rfl<|ac 94 hr rfl (fun c44 hr=>?_) (fun c44 hr=>?_)
   .refine rn tk 11 rfl ?_;cases hr;exact kr tk (.inr rfl) rfl rfl
   refine rn tk 5 rfl ?_;obtain ⟨v45,h46,hr⟩:=zaa hr;refine wi tk h46 rfl rfl rfl rfl rfl<|rn tk 1 rfl ?_;obtain ⟨v47,h48,hr⟩:=zaa hr;refine cl (jra _ _ h48) rfl rfl<|rn tk 11 rfl<|wn tk rfl rfl rfl<|rn tk 10 rfl<|bs 111 hr rfl (fun c49 hr=>?_) (fun c49 hr=>?_)
   .refine rn tk 9 rfl<|jn ((v47.2,true,([]:Str),([]:Str),v47.1,0,((a1.length:Int)==2))) hr rfl rfl
   refine rn tk 1 rfl ?_;obtain ⟨v50,h51,hr⟩:=zaa hr;refine ug rfl rfl rfl<|wi tk h51 rfl rfl rfl rfl rfl<|rn tk 1 rfl ?_;obtain ⟨v52,h53,hr⟩:=zaa hr;refine ug rfl rfl rfl<|cl (y4a _ _ h53) rfl rfl<|rn tk 5 rfl<|jn ((v47.2,(v52==([108,97,115,116]:Str)),([]:Str),([]:Str),v47.1,0,((a1.length:Int)==2))) hr rfl rfl
  refine rn tk 1 rfl ?_;obtain ⟨v54,h55,hr⟩:=zaa hr;refine dr 3 [(18,.bo v54),(17,.fn (.func 126) [] [.ep [pL cS a1]]),(16,.agg [.i a0,.s (([]:Str)),.s (([]:Str)),.i 0,.i 0,.bo false])] mixed (by kernel_rfl) rfl rfl (pq tk rfl (.plain rfl) (pq tk rfl (.plain rfl) (.run (.plain rfl) (jeb rfl (Vha 0 0 a1 v54 h55) rfl) .nil))) rfl<|rn tk 7 rfl ?_;cases hr;exact kr tk (.inr rfl) rfl rfl
 intro j1 hr;unfold kha at hr;refine jb hr (fun j2=>[(4,.ptr 4 0),(5,.bo j2)]) (fun j2=>[(4,.cells [.i a0,.s j1.2.2.1,.s j1.2.2.2.1,.i j1.2.2.2.2.1,.i j1.2.2.2.2.2.1,.bo j1.2.2.2.2.2.2])]) (fun j2 hr=>?_) (fun j2 hr=>?_)
 .refine rn tk 4 rfl<|bs 120 hr rfl (fun c3 hr=>?_) (fun c3 hr=>?_)
  .refine rn tk 5 rfl ?_;cases hr;exact jn _ rfl rfl rfl
  refine rn tk 5 rfl ?_;cases hr;exact jn _ rfl rfl rfl
 refine rn tk 1 rfl ?_;cases hr;exact kr tk (.inr rfl) rfl rfl
theorem V4a(r:Str × Str × Str × Str × Str × Str × Str × Str)(hr:yCa=some r):Run prog 97 [] (.agg [.s r.1,.s r.2.1,.s r.2.2.1,.s r.2.2.2.1,.s r.2.2.2.2.1,.s r.2.2.2.2.2.1,.s r.2.2.2.2.2.2.1,.s r.2.2.2.2.2.2.2]):=by
 unfold yCa at hr;refine rf (fn:=f97) ⟨func97,rfl,by kernel_rfl⟩ rfl (fun _=>rfl) fun g0 hg=>?_
 refine rn tk 7 rfl<|wq (kkb (cs:=[.s (([104,101,108,108,111]:Str)),.s (([109,97,105,108]:Str)),.s (([114,99,112,116]:Str)),.s (([100,97,116,97]:Str)),.s (([99,104,117,110,107]:Str)),.s (([114,101,115,101,116]:Str)),.s (([110,111,111,112]:Str)),.s (([113,117,105,116]:Str))]) Z0a zwa (.inr ⟨rfl,rfl⟩) (by kernel_rfl)) rfl rfl rfl<|rn tk 4 rfl ?_;cases hr;exact kr tk (.inr rfl) rfl rfl
theorem V5a(a0:Str)(r:zma × zva)(hr:wsa a0=some r):Run prog 67 [.s a0] (.tup [.agg (zA1 r.1),.agg [.i r.2.Code,.i r.2.Index]]):=by
 unfold wsa at hr;refine rf (fn:=f67) ⟨func67,rfl,by kernel_rfl⟩ rfl (fun _=>rfl) fun g0 hg=>?_
 refine rn tk 14 rfl<|ac 13 hr rfl (fun c1 hr=>?_) (fun c1 hr=>?_)
 .refine rn tk 3 rfl ?_;obtain ⟨v2,h3,hr⟩:=zaa hr;refine cl (zqa _ _ _ h3) rfl rfl<|rn tk 6 rfl ?_;cases hr;exact kr tk (.inr rfl) rfl rfl
 refine rn tk 5 rfl ?_;obtain ⟨v4,h5,hr⟩:=zaa hr;refine cl (jHa _ _ h5) rfl rfl<|rn tk 11 rfl ?_;obtain ⟨v6,h7,hr⟩:=zaa hr;refine cl (V4a _ h7) rfl rfl<|rn tk 4 rfl<|al1 hr (fun s8=>[(2,.ptr 2 0),(3,.ptr 3 0),(4,.l cS v4),(5,.i s8.1),(18,.agg [.s v6.1,.s v6.2.1,.s v6.2.2.1,.s v6.2.2.2.1,.s v6.2.2.2.2.1,.s v6.2.2.2.2.2.1,.s v6.2.2.2.2.2.2.1,.s v6.2.2.2.2.2.2.2]),(19,.i s8.2)]) (fun s8=>[(3,.cells [.i 0,.i 0]),(2,.cells [.i 0,.s (([]:Str)),.s (([]:Str)),.i 0,.i 0,.bo false])]) (.exit 0) (fun b9=>[(2,.ptr 2 0),(3,.ptr 3 0),(4,.l cS v4),(5,.i b9)]) (fun b9=>[(3,.cells [.i 0,.i 0]),(2,.cells [.i 0,.s (([]:Str)),.s (([]:Str)),.i 0,.i 0,.bo false])]) rfl rfl (fun s8 x10 hr=>?_) (fun b9 hr=>?_)
 .unfold qca at hr;refine rn tk 6 rfl<|ac 20 hr rfl (fun c11 hr=>?_) (fun c11 hr=>?_)
  .refine rn tk 2 rfl<|jb hr (fun j12=>[(2,.ptr 2 0),(3,.ptr 3 0),(4,.l cS v4),(5,.i j12),(18,.agg [.s v6.1,.s v6.2.1,.s v6.2.2.1,.s v6.2.2.2.1,.s v6.2.2.2.2.1,.s v6.2.2.2.2.2.1,.s v6.2.2.2.2.2.2.1,.s v6.2.2.2.2.2.2.2]),(19,.i s8.2)]) (fun j12=>[(3,.cells [.i 0,.i 0]),(2,.cells [.i 0,.s (([]:Str)),.s (([]:Str)),.i 0,.i 0,.bo false])]) (fun j12 hr=>?_) (fun j12 hr=>?_)
   .refine rn tk 4 rfl ?_;obtain ⟨v13,h14,hr⟩:=zaa hr;refine wq (ev_aidx (f:=cS) (L:=([v6.1,v6.2.1,v6.2.2.1,v6.2.2.2.1,v6.2.2.2.2.1,v6.2.2.2.2.2.1,v6.2.2.2.2.2.2.1,v6.2.2.2.2.2.2.2]:List Str)) rfl rfl Z0a zwa rfl rfl (fun _=>rfl) h14 rfl) rfl rfl rfl<|rn tk 4 rfl<|jb hr (fun j15=>[(2,.ptr 2 0),(3,.ptr 3 0),(4,.l cS v4),(5,.i s8.1),(6,.i s8.2),(18,.agg [.s v6.1,.s v6.2.1,.s v6.2.2.1,.s v6.2.2.2.1,.s v6.2.2.2.2.1,.s v6.2.2.2.2.2.1,.s v6.2.2.2.2.2.2.1,.s v6.2.2.2.2.2.2.2]),(19,.i s8.2),(33,.bo j15)]) (fun j15=>[(3,.cells [.i 0,.i 0]),(2,.cells [.i 0,.s (([]:Str)),.s (([]:Str)),.i 0,.i 0,.bo false])]) (fun j15 hr=>?_) (fun j15 hr=>?_)
    .refine rn tk 2 rfl<|wn tk rfl rfl rfl<|rn tk 2 rfl<|bs 26 hr rfl (fun c16 hr=>?_) (fun c16 hr=>?_)
     .refine rn tk 1 rfl ?_;obtain ⟨v17,h18,hr⟩:=zaa hr;refine ug rfl rfl rfl<|wi tk h18 rfl rfl rfl rfl rfl<|rn tk 1 rfl ?_;obtain ⟨v19,h20,hr⟩:=zaa hr;refine ug rfl rfl rfl<|cl (y4a _ _ h20) rfl rfl<|rn tk 4 rfl ?_;cases hr;exact jn _ rfl rfl rfl
     refine rn tk 8 rfl ?_;cases hr;exact jn _ rfl rfl rfl
    refine ac 33 hr rfl (fun c21 hr=>?_) (fun c21 hr=>?_)
    .refine rn tk 6 rfl ?_;cases hr;exact jn _ rfl rfl rfl
    refine rn tk 2 rfl ?_;cases hr;exact jn _ rfl rfl rfl
   refine rn tk 4 rfl ?_;cases hr;exact atc rfl rfl
  refine rn tk 2 rfl ?_;cases hr;exact ato rfl rfl rfl rfl
 refine rn tk 9 rfl<|ac 38 hr rfl (fun c22 hr=>?_) (fun c22 hr=>?_)
 .refine rn tk 3 rfl ?_;obtain ⟨v23,h24,hr⟩:=zaa hr;refine cl (zqa _ _ _ h24) rfl rfl<|rn tk 6 rfl ?_;cases hr;exact kr tk (.inr rfl) rfl rfl
 refine rn tk 6 rfl ?_;obtain ⟨v25,h26,hr⟩:=zaa hr;refine wlL tk h26 rfl rfl rfl (fun _=>rfl) rfl ?_;obtain ⟨v27,h28,hr⟩:=zaa hr;refine cl (WFa _ _ _ h28) rfl rfl<|rn tk 15 rfl<|ac 49 hr rfl (fun c29 hr=>?_) (fun c29 hr=>?_)
 .refine rn tk 3 rfl ?_;obtain ⟨v30,h31,hr⟩:=zaa hr;refine cl (zqa _ _ _ h31) rfl rfl<|rn tk 6 rfl ?_;cases hr;exact kr tk (.inr rfl) rfl rfl
 refine rn tk 6 rfl ?_;obtain ⟨v32,h33,hr⟩:=zaa hr;refine cl (KPa _ _ h33) rfl rfl<|rn tk 7 rfl ?_;obtain ⟨v34,h35,hr⟩:=zaa hr;refine cl (zWa _ _ h35) rfl rfl<|rn tk 2 rfl<|ac 55 hr rfl (fun c36 hr=>?_) (fun c36 hr=>?_)
 .refine rn tk 1 rfl ?_;refine mc tk [] [(2,.ptr 2 0),(3,.ptr 3 0)] mixed rfl (by kernel_rfl) .nil (fc rfl (fc rfl fn)) (hA ?_);refine rn tk 3 rfl ?_;cases hr;exact kr tk (.inr rfl) rfl rfl
 refine rn tk 3 rfl ?_;obtain ⟨v37,h38,hr⟩:=zaa hr;refine mc tk [(1,.agg [.i v37.Code,.i v37.Index])] [(2,.ptr 2 0),(3,.ptr 3 0)] mixed rfl (by kernel_rfl) (.cons rfl rfl (fun _ _=>(vWa (z2a v37 h38) rfl)) .nil) (fc rfl (fc rfl fn)) (hA ?_);refine rn tk 2 rfl ?_;cases hr;exact kr tk (.inr rfl) rfl rfl
theorem wha(a0:zea)(r:zea)(hr:kSa a0=some r):RunS prog 66 [.ptr 90002000 0] (zB0 a0 []) (.tup []) (zB0 r []) 90002000 [90002009,90002010,90002018,90002019]:=by
 unfold kSa at hr;refine rfS (fn:=f66) (H:=90002999) (.ptr 90002000 0) ⟨func66,rfl,by kernel_rfl⟩ rfl (hasT rfl) (.inl ⟨rfl,rfl⟩) rfl rfl rfl rfl fun g0 hg S sg T=>?_
 refine rn tk 3 rfl ?_;obtain ⟨v1,h2,hr⟩:=zaa hr;refine wo (zya (k:=3) (kwa a0 v1 h2) rfl rfl (zba rfl (zba rfl (zba rfl (zba rfl (zba rfl zga)))))) rfl<|rn tk 13 rfl ?_;refine W1a 90002009 (hO ?_);refine yPa 90002009 (o:=90002000) (j:=8) 5 1 rfl rfl rfl rfl (hO ?_);refine rn tk 1 rfl ?_;cases hr;exact krS tk (.inl rfl) rfl rfl (zba rfl (zba rfl (zba rfl (zba rfl (zba rfl (zba rfl zga))))))
theorem jta(a0:List zca)(r:(List zca) × zva)(hr:vKa a0=some r):Run prog 132 [.l zca.pc a0] (.tup [.l zca.pc r.1,.agg [.i r.2.Code,.i r.2.Index]]):=by
 unfold vKa at hr;refine rf (fn:=f132) ⟨func132,rfl,by kernel_rfl⟩ rfl (fun _=>rfl) fun g0 hg=>?_
 refine rn tk 10 rfl<|wn tk rfl rfl rfl<|rn tk 3 rfl<|ac 12 hr rfl (fun c1 hr=>?_) (fun c1 hr=>?_)
 .refine rn tk 2 rfl ?_;obtain ⟨v2,h3,hr⟩:=zaa hr;refine cl (zqa _ _ _ h3) rfl rfl<|rn tk 6 rfl ?_;cases hr;exact kr tk (.inr rfl) rfl rfl
 refine rn tk 4 rfl<|wo (kgb (k0:=14) 1014 false rfl rfl rfl) rfl<|rn tk 6 rfl ?_;refine wIa 1005 (d:=5) 60 2 rfl rfl rfl (hO ?_);refine rn tk 6 rfl<|wn tk rfl rfl rfl<|rn tk 4 rfl<|al2 hr (fun s4=>[(3,.ptr 3 0),(4,.mp 1014),(5,.hs 1005 0),(15,.l zca.pc a0),(16,.i ((a0.length:Int))),(17,.i s4.1)]) (fun s4=>[(1005,.row 60 true 2 (List.map zca.pc s4.2.1)),(1014,.mapo false (menc keyS cI s4.2.2)),(3,.cells [.i 0,.i 0])]) (.exit 0) (fun b5=>[(3,.ptr 3 0),(5,.hs 1005 0)]) (fun b5=>[(1005,.row 60 true 2 (List.map zca.pc b5)),(3,.cells [.i 0,.i 0])]) .ret (fun b6=>[(2,.l zca.pc b6.1),(3,.ptr 3 0)]) (fun b6=>[(3,.cells [.i b6.2.Code,.i b6.2.Index])]) rfl rfl (fun s4 x8 hr=>?_) (fun b5 hr=>?_) (fun b6 hr=>?_)
 .unfold qwa at hr;refine rn tk 6 rfl<|ac 18 hr rfl (fun c9 hr=>?_) (fun c9 hr=>?_)
  .refine rn tk 2 rfl<|jk (fun j10=>[(3,.ptr 3 0),(4,.mp 1014),(5,.hs 1005 0),(15,.l zca.pc a0),(16,.i ((a0.length:Int))),(17,.i s4.1)]) (fun j10=>[(1005,.row 60 true 2 (List.map zca.pc j10.1)),(1014,.mapo false (menc keyS cI j10.2)),(3,.cells [.i 0,.i 0])]) (fun j10=>qva s4 j10=some x8) ?_ ?_
   .refine rn tk 4 rfl ?_;obtain ⟨v11,h12,hr⟩:=zaa hr;refine wi tk h12 rfl rfl rfl rfl rfl<|rn tk 11 rfl ?_;obtain ⟨v13,h14,hr⟩:=zaa hr;refine cl (qqa _ _ h14) rfl rfl<|rn tk 3 rfl<|ac 25 hr rfl (fun c15 hr=>?_) (fun c15 hr=>?_)
    .refine rn tk 3 rfl ?_;obtain ⟨v16,h17,hr⟩:=zaa hr;refine cl (zqa _ _ _ h17) rfl rfl<|rn tk 8 rfl ?_;cases hr;exact ato rfl rfl rfl rfl
    refine rn tk 7 rfl ?_;obtain ⟨v18,h19,hr⟩:=zaa hr;refine cl (v7a _ _ h19) rfl rfl<|rn tk 3 rfl<|ac 31 hr rfl (fun c20 hr=>?_) (fun c20 hr=>?_)
    .refine rn tk 3 rfl ?_;obtain ⟨v21,h22,hr⟩:=zaa hr;refine cl (zqa _ _ _ h22) rfl rfl<|rn tk 8 rfl ?_;cases hr;exact ato rfl rfl rfl rfl
    refine rn tk 7 rfl<|wq (qKb (KK:=keyS) (F:=cI) (es:=s4.2.2) (k:=v11.Address) (z:=0) rfl rfl rfl wKa.u zwa.u jRa rfl) rfl rfl rfl<|rn tk 13 rfl<|ac 41 hr rfl (fun c23 hr=>?_) (fun c23 hr=>?_)
    .refine rn tk 1 rfl ?_;obtain ⟨v24,h25,hr⟩:=zaa hr;obtain ⟨v26,h27,hr⟩:=zaa hr;refine dr 7 [(48,.i v11.Notify),(47,.ptr 7 1),(46,.i v26.Notify),(45,.hp 1005 (Int.toNat (((mget s4.2.2 v11.Address).getD 0))) 1),(44,.hp 1005 (Int.toNat (((mget s4.2.2 v11.Address).getD 0))) 0),(43,.i (((mget s4.2.2 v11.Address).getD 0))),(42,.hs 1005 0)] mixed (by kernel_rfl) rfl rfl (pq tk rfl (.plain rfl) (pq tk rfl (.plain rfl) (.run (.plain rfl) (k9a (yVb (F:=zca.pc) (l:=s4.2.1) (n:=(((mget s4.2.2 v11.Address).getD 0))) rfl rfl rfl zoa zza h25)) (pq tk rfl (.plain rfl) (.run (.plain rfl) (k9a (zcb (F:=zca.pc) (l:=s4.2.1) (n:=(((mget s4.2.2 v11.Address).getD 0))) (j:=1) rfl rfl jRa rfl h27 rfl)) (pq tk rfl (.plain rfl) (pq tk rfl (.plain rfl) .nil))))))) rfl<|wq (ev_ior rfl rfl) rfl rfl rfl ?_;obtain ⟨v28,h29,hr⟩:=zaa hr;refine wih tk h29 rfl rfl rfl rfl rfl<|rn tk 1 rfl ?_;obtain ⟨v30,h31,hr⟩:=zaa hr;refine wo (Qda (F:=zca.pc) (l:=s4.2.1) (n:=(((mget s4.2.2 v11.Address).getD 0))) (j:=1) (v:=v30) (v' :=((zca.mk v30.Address ((iOr v26.Notify v11.Notify))))) (pcs:=[pI ((iOr v26.Notify v11.Notify))]) rfl rfl rfl jRa rfl h31 rfl rfl) rfl<|rn tk 5 rfl<|jn (((List.set s4.2.1 (Int.toNat (((mget s4.2.2 v11.Address).getD 0))) ((zca.mk v30.Address ((iOr v26.Notify v11.Notify))))),s4.2.2)) hr rfl rfl
    refine rn tk 8 rfl<|wnh tk rfl rfl rfl rfl<|wo (YWa (KK:=keyS) (F:=cI) (es:=s4.2.2) (k:=v11.Address) (v:=((s4.2.1.length:Int))) rfl rfl rfl rfl rfl wKa.u zwa.u) rfl<|rn tk 5 rfl<|wz zca.pc ([v11]:List zca) tk rfl rfl (fun _=>rfl) rfl rfl rfl ?_;obtain ⟨v32,h33,hr⟩:=zaa hr;refine wa tk h33 rfl rfl rfl rfl (fun _=>rfl) rfl rfl<|rn tk 3 rfl<|jn ((v32,(mput s4.2.2 v11.Address ((s4.2.1.length:Int))))) hr rfl rfl
   intro j10 hr;unfold qva at hr;refine rn tk 4 rfl ?_;cases hr;exact atc rfl rfl
  refine rn tk 2 rfl ?_;cases hr;exact ato rfl rfl rfl rfl
 .refine rn tk 5 rfl ?_;obtain ⟨v34,h35,hr⟩:=zaa hr;refine cl (z2a _ h35) rfl rfl<|rn tk 4 rfl ?_;refine zbb 1005 rfl (hC ?_);refine ypa (d:=2) (F:=zca.pc) (l:=b5) rfl rfl (hC ?_);refine rn tk 1 rfl ?_;cases hr;exact kr tk (.inr rfl) rfl rfl
 refine rn tk 2 rfl ?_;cases hr;exact kr tk (.inr rfl) rfl rfl
theorem yGa(a0:zea)(a1:zma)(r:zea)(hr:koa a0 a1=some r):RunS prog 101 [.ptr 90002000 0,.agg (zA1 a1)] (zB0 a0 []) (.tup []) (zB0 r []) 90002000 [90002009,90002010,90002018,90002019]:=by
 unfold koa at hr;refine rfS (fn:=f101) (H:=90002999) (.ptr 90002000 0) ⟨func101,rfl,by kernel_rfl⟩ rfl (hasT rfl) (.inl ⟨rfl,rfl⟩) rfl rfl rfl rfl fun g0 hg S sg T=>?_
 refine rn tk 6 rfl ?_;obtain ⟨v1,h2,hr⟩:=zaa hr;obtain ⟨v3,h4,hr⟩:=zaa hr;obtain ⟨v5,h6,hr⟩:=zaa hr;refine Vxa [some (.ptr 90002000 0),some (.ptr 90002000 0),some (.ptr 90002000 0),some (.ptr 90002000 7),some (.l zca.pc a0.Server.To),none,some (.ptr 3 2),some (.s a1.Address),some (.ptr 3 4),some (.i a1.Notify),some (.agg [.s a1.Address,.i a1.Notify]),some (.l zca.pc (([(zca.mk a1.Address a1.Notify)]:List zca))),none,none,some (.tup [.l zca.pc v5.1,.agg [.i v5.2.Code,.i v5.2.Index]]),some (.l zca.pc v5.1),some (.agg [.i v5.2.Code,.i v5.2.Index]),none,some (.l zca.pc v5.1),none] [((bt 20 0),[(0,.ptr 90002000 0),(3,.ptr 3 0)],((3,.cells (zA1 a1))::(90002999,.hold (.ptr 90002000 0) (T.getD 0 undef))::zB0 a0 [])),((bt 20 32),[(0,.ptr 90002000 0),(3,.ptr 3 0),(12,.hs 1012 0)],((1012,.row 60 true 2 (List.map zca.pc v1))::(3,.cells (zA1 a1))::(90002999,.hold (.ptr 90002000 0) (T.getD 0 undef))::zB0 a0 [])),((bt 20 131072),[(0,.ptr 90002000 0),(3,.ptr 3 0),(5,.ptr 5 0)],((5,.cells [.i 0,.i 0])::(3,.cells (zA1 a1))::(90002999,.hold (.ptr 90002000 0) (T.getD 0 undef))::zB0 a0 [])),((bt 20 4128),[(0,.ptr 90002000 0),(3,.ptr 3 0),(19,.hs 1012 0)],((1012,.row 60 true 2 (List.map zca.pc v3))::(3,.cells (zA1 a1))::(90002999,.hold (.ptr 90002000 0) (T.getD 0 undef))::zB0 a0 [])),((bt 20 131104),[(0,.ptr 90002000 0),(3,.ptr 3 0),(5,.ptr 5 0),(12,.hs 1012 0)],((5,.cells [.i 0,.i 0])::(1012,.row 60 true 2 (List.map zca.pc v1))::(3,.cells (zA1 a1))::(90002999,.hold (.ptr 90002000 0) (T.getD 0 undef))::zB0 a0 [])),((bt 20 12320),[(0,.ptr 90002000 0),(3,.ptr 3 0),(20,.tup [.l zca.pc v5.1,.agg [.i v5.2.Code,.i v5.2.Index]])],((1012,.row 60 false 2 (List.map zca.pc v3))::(3,.cells (zA1 a1))::(90002999,.hold (.ptr 90002000 0) (T.getD 0 undef))::zB0 a0 [])),((bt 20 135200),[(0,.ptr 90002000 0),(3,.ptr 3 0),(5,.ptr 5 0),(19,.hs 1012 0)],((5,.cells [.i 0,.i 0])::(1012,.row 60 true 2 (List.map zca.pc v3))::(3,.cells (zA1 a1))::(90002999,.hold (.ptr 90002000 0) (T.getD 0 undef))::zB0 a0 [])),((bt 20 143392),[(0,.ptr 90002000 0),(3,.ptr 3 0),(5,.ptr 5 0),(20,.tup [.l zca.pc v5.1,.agg [.i v5.2.Code,.i v5.2.Index]])],((5,.cells [.i 0,.i 0])::(1012,.row 60 false 2 (List.map zca.pc v3))::(3,.cells (zA1 a1))::(90002999,.hold (.ptr 90002000 0) (T.getD 0 undef))::zB0 a0 [])),((bt 20 667680),[(0,.ptr 90002000 0),(3,.ptr 3 0),(5,.ptr 5 0),(20,.tup [.l zca.pc v5.1,.agg [.i v5.2.Code,.i v5.2.Index]])],((5,.cells [.i v5.2.Code,.i v5.2.Index])::(1012,.row 60 false 2 (List.map zca.pc v3))::(3,.cells (zA1 a1))::(90002999,.hold (.ptr 90002000 0) (T.getD 0 undef))::zB0 a0 []))] mixed (by kernel_rfl) rfl rfl (fc rfl (fc rfl fn)) (sc2 rfl (sc2 rfl (sc2 rfl (sc2 rfl (sc2 rfl (sc2 rfl (sc2 rfl sn))))))) (.cons (.step [0,1,2,3,4,5,6,7,8,9,10,11,17] (by kernel_rfl) (by kernel_rfl) (.cons (.pure rfl rfl (mqz tk rfl)) (.cons (.pure rfl rfl (mqz tk rfl)) (.cons (.pure rfl rfl (mqz tk rfl)) (.cons (.pure rfl rfl (mqz tk rfl)) (.cons (.pure rfl rfl (mqz tk rfl)) (.cons (.dst 1 rfl rfl (by kernel_rfl) rfl (WIa 1012 (kpa a0.Server.To v1 h2) rfl rfl rfl rfl) rfl (fc rfl (fc rfl (fc rfl fn))) (sc2 rfl (sc2 rfl (sc2 rfl (sc2 rfl (sc2 rfl (sc2 rfl (sc2 rfl (sc2 rfl sn))))))))) (.cons (.pure rfl rfl (mqz tk rfl)) (.cons (.pure rfl rfl (mqz tk rfl)) (.cons (.pure rfl rfl (mqz tk rfl)) (.cons (.pure rfl rfl (mqz tk rfl)) (.cons (.pure rfl rfl (mqz tk rfl)) (.cons (.pure rfl rfl (qGa (F:=zca.pc) (l:=([(zca.mk a1.Address a1.Notify)]:List zca)) zoa zza rfl (fun _=>rfl) rfl rfl)) (.cons (.dst 2 rfl rfl (by kernel_rfl) rfl (WHa 5 rfl vca (.inr ⟨rfl,rfl⟩) rfl rfl rfl) rfl (fc rfl (fc rfl (fc rfl fn))) (sc2 rfl (sc2 rfl (sc2 rfl (sc2 rfl (sc2 rfl (sc2 rfl (sc2 rfl (sc2 rfl sn))))))))) .nil)))))))))))))) (.cons (.step [6,7,8,9,10,11,12,17] (by kernel_rfl) (by kernel_rfl) (.cons (.pure rfl rfl (mqz tk rfl)) (.cons (.pure rfl rfl (mqz tk rfl)) (.cons (.pure rfl rfl (mqz tk rfl)) (.cons (.pure rfl rfl (mqz tk rfl)) (.cons (.pure rfl rfl (mqz tk rfl)) (.cons (.pure rfl rfl (qGa (F:=zca.pc) (l:=([(zca.mk a1.Address a1.Notify)]:List zca)) zoa zza rfl (fun _=>rfl) rfl rfl)) (.cons (.dst 3 rfl rfl (by kernel_rfl) rfl (W3a (F:=zca.pc) (l:=v1) (xs:=(([(zca.mk a1.Address a1.Notify)]:List zca))) (lim:=5864062014805) rfl rfl rfl rfl zoa zza rfl rfl (fun _=>rfl) rfl h4) rfl (fc rfl (fc rfl (fc rfl fn))) (sc2 rfl (sc2 rfl (sc2 rfl (sc2 rfl (sc2 rfl (sc2 rfl (sc2 rfl (sc2 rfl sn))))))))) (.cons (.dst 4 rfl rfl (by kernel_rfl) rfl (WHa 5 rfl vca (.inr ⟨rfl,rfl⟩) rfl rfl rfl) rfl (fc rfl (fc rfl (fc rfl (fc rfl fn)))) (sc2 rfl (sc2 rfl (sc2 rfl (sc2 rfl (sc2 rfl (sc2 rfl (sc2 rfl (sc2 rfl (sc2 rfl sn)))))))))) .nil))))))))) (.cons (.step [0,1,2,3,4,5,6,7,8,9,10,11] (by kernel_rfl) (by kernel_rfl) (.cons (.pure rfl rfl (mqz tk rfl)) (.cons (.pure rfl rfl (mqz tk rfl)) (.cons (.pure rfl rfl (mqz tk rfl)) (.cons (.pure rfl rfl (mqz tk rfl)) (.cons (.pure rfl rfl (mqz tk rfl)) (.cons (.dst 4 rfl rfl (by kernel_rfl) rfl (WIa 1012 (kpa a0.Server.To v1 h2) rfl rfl rfl rfl) rfl (fc rfl (fc rfl (fc rfl (fc rfl fn)))) (sc2 rfl (sc2 rfl (sc2 rfl (sc2 rfl (sc2 rfl (sc2 rfl (sc2 rfl (sc2 rfl (sc2 rfl sn)))))))))) (.cons (.pure rfl rfl (mqz tk rfl)) (.cons (.pure rfl rfl (mqz tk rfl)) (.cons (.pure rfl rfl (mqz tk rfl)) (.cons (.pure rfl rfl (mqz tk rfl)) (.cons (.pure rfl rfl (mqz tk rfl)) (.cons (.pure rfl rfl (qGa (F:=zca.pc) (l:=([(zca.mk a1.Address a1.Notify)]:List zca)) zoa zza rfl (fun _=>rfl) rfl rfl)) .nil))))))))))))) (.cons (.step [13,17] (by kernel_rfl) (by kernel_rfl) (.cons (.dst 5 rfl rfl (by kernel_rfl) rfl (vXb (F:=zca.pc) (l:=v3) 19 (jta v3 v5 h6) rfl rfl rfl rfl rfl) rfl (fc rfl (fc rfl (fc rfl fn))) (sc2 rfl (sc2 rfl (sc2 rfl (sc2 rfl (sc2 rfl (sc2 rfl (sc2 rfl (sc2 rfl sn))))))))) (.cons (.dst 6 rfl rfl (by kernel_rfl) rfl (WHa 5 rfl vca (.inr ⟨rfl,rfl⟩) rfl rfl rfl) rfl (fc rfl (fc rfl (fc rfl (fc rfl fn)))) (sc2 rfl (sc2 rfl (sc2 rfl (sc2 rfl (sc2 rfl (sc2 rfl (sc2 rfl (sc2 rfl (sc2 rfl sn)))))))))) .nil))) (.cons (.step [6,7,8,9,10,11,12] (by kernel_rfl) (by kernel_rfl) (.cons (.pure rfl rfl (mqz tk rfl)) (.cons (.pure rfl rfl (mqz tk rfl)) (.cons (.pure rfl rfl (mqz tk rfl)) (.cons (.pure rfl rfl (mqz tk rfl)) (.cons (.pure rfl rfl (mqz tk rfl)) (.cons (.pure rfl rfl (qGa (F:=zca.pc) (l:=([(zca.mk a1.Address a1.Notify)]:List zca)) zoa zza rfl (fun _=>rfl) rfl rfl)) (.cons (.dst 6 rfl rfl (by kernel_rfl) rfl (W3a (F:=zca.pc) (l:=v1) (xs:=(([(zca.mk a1.Address a1.Notify)]:List zca))) (lim:=5864062014805) rfl rfl rfl rfl zoa zza rfl rfl (fun _=>rfl) rfl h4) rfl (fc rfl (fc rfl (fc rfl (fc rfl fn)))) (sc2 rfl (sc2 rfl (sc2 rfl (sc2 rfl (sc2 rfl (sc2 rfl (sc2 rfl (sc2 rfl (sc2 rfl sn)))))))))) .nil)))))))) (.cons (.step [14,15,16,17] (by kernel_rfl) (by kernel_rfl) (.cons (.pure rfl rfl (mqz tk rfl)) (.cons (.pure rfl rfl (mqz tk rfl)) (.cons (.pure rfl rfl (mqz tk rfl)) (.cons (.dst 7 rfl rfl (by kernel_rfl) rfl (WHa 5 rfl vca (.inr ⟨rfl,rfl⟩) rfl rfl rfl) rfl (fc rfl (fc rfl (fc rfl (fc rfl fn)))) (sc2 rfl (sc2 rfl (sc2 rfl (sc2 rfl (sc2 rfl (sc2 rfl (sc2 rfl (sc2 rfl (sc2 rfl sn)))))))))) .nil))))) (.cons (.step [13] (by kernel_rfl) (by kernel_rfl) (.cons (.dst 7 rfl rfl (by kernel_rfl) rfl (vXb (F:=zca.pc) (l:=v3) 19 (jta v3 v5 h6) rfl rfl rfl rfl rfl) rfl (fc rfl (fc rfl (fc rfl (fc rfl fn)))) (sc2 rfl (sc2 rfl (sc2 rfl (sc2 rfl (sc2 rfl (sc2 rfl (sc2 rfl (sc2 rfl (sc2 rfl sn)))))))))) .nil)) (.cons (.step [14,15,16,18,19] (by kernel_rfl) (by kernel_rfl) (.cons (.pure rfl rfl (mqz tk rfl)) (.cons (.pure rfl rfl (mqz tk rfl)) (.cons (.pure rfl rfl (mqz tk rfl)) (.cons (.pure rfl rfl (mqz tk rfl)) (.cons (.sto 8 rfl rfl (yza rfl rfl rfl vca rfl rfl) rfl (fc rfl (fc rfl (fc rfl (fc rfl fn)))) (sc2 rfl (sc2 rfl (sc2 rfl (sc2 rfl (sc2 rfl (sc2 rfl (sc2 rfl (sc2 rfl (sc2 rfl sn)))))))))) .nil)))))) (.cons (.full (frJ:=[(0,.ptr 90002000 0),(4,.l zca.pc v5.1)]) (σJ:=((5,.cells [.i v5.2.Code,.i v5.2.Index])::(1012,.row 60 false 2 (List.map zca.pc v3))::(3,.cells (zA1 a1))::(90002999,.hold (.ptr 90002000 0) (T.getD 0 undef))::zB0 a0 [])) [] (by kernel_rfl) .nil (fc rfl (fc rfl fn)) (sc2 rfl (sc2 rfl (sc2 rfl (sc2 rfl (sc2 rfl (sc2 rfl (sc2 rfl (sc2 rfl (sc2 rfl sn))))))))) (hA ?_)) .nil)))))))));refine rn tk 2 rfl<|jb hr (fun j7=>[(0,.ptr 90002000 0),(4,.l zca.pc v5.1),(31,.bo j7)]) (fun j7=>((90002999,.hold (.ptr 90002000 0) (T.getD 0 undef))::zB0 a0 [])) (fun j7 hr=>?_) (fun j7 hr=>?_)
 .refine rn tk 8 rfl<|bs 38 hr rfl (fun c8 hr=>?_) (fun c8 hr=>?_)
  .refine rn tk 8 rfl ?_;cases hr;exact jn _ rfl rfl rfl
  refine rn tk 8 rfl ?_;cases hr;exact jn _ rfl rfl rfl
 refine ac 31 hr rfl (fun c9 hr=>?_) (fun c9 hr=>?_)
 .refine rn tk 2 rfl<|wz cS ([([111,114,100,101,114]:Str)]:List Str) tk rfl rfl (fun _=>rfl) rfl rfl rfl ?_;obtain ⟨v10,h11,hr⟩:=zaa hr;refine wo (zya (k:=47) (zpa a0 503 (([([111,114,100,101,114]:Str)]:List Str)) v10 h11) rfl rfl (zba rfl (zba rfl (zba rfl (zba rfl (zba rfl zga)))))) rfl<|rn tk 2 rfl ?_;cases hr;exact krS tk (.inl rfl) rfl rfl (zba rfl (zba rfl (zba rfl (zba rfl (zba rfl (zba rfl zga))))))
 refine rn tk 3 rfl<|wn tk rfl rfl rfl<|rn tk 9 rfl<|ac 48 hr rfl (fun c12 hr=>?_) (fun c12 hr=>?_)
 .refine rn tk 2 rfl<|wz cS ([([109,97,110,121]:Str)]:List Str) tk rfl rfl (fun _=>rfl) rfl rfl rfl ?_;obtain ⟨v13,h14,hr⟩:=zaa hr;refine wo (zya (k:=59) (zpa a0 452 (([([109,97,110,121]:Str)]:List Str)) v13 h14) rfl rfl (zba rfl (zba rfl (zba rfl (zba rfl (zba rfl zga)))))) rfl<|rn tk 2 rfl ?_;cases hr;exact krS tk (.inl rfl) rfl rfl (zba rfl (zba rfl (zba rfl (zba rfl (zba rfl (zba rfl zga))))))
 refine rn tk 12 rfl<|wz cS ([([111,107]:Str)]:List Str) tk rfl rfl (fun _=>rfl) rfl rfl rfl ?_;obtain ⟨v15,h16,hr⟩:=zaa hr;refine wo (zya (k:=30) (zpa ((zea.mk ((zja.mk a0.Server.Name a0.Server.Size a0.Server.Many a0.Server.Phase a0.Server.Greeted a0.Server.Mailing a0.Server.From v5.1 a0.Server.Buffer a0.Server.Data a0.Server.Lost a0.Server.Dots a0.Server.Chunked a0.Server.Left a0.Server.Last a0.Server.Ignore a0.Server.Count)) a0.replies a0.mails)) 250 (([([111,107]:Str)]:List Str)) v15 h16) rfl rfl (zba rfl (zba rfl (zba rfl (zba rfl (zba rfl zga)))))) rfl<|rn tk 2 rfl ?_;cases hr;exact krS tk (.inl rfl) rfl rfl (zba rfl (zba rfl (zba rfl (zba rfl (zba rfl (zba rfl zga))))))
end Go.Proofs.YtmmjihadplknjaaGreatDoor
