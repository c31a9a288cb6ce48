/- Part 6 of the proof of the law WireCutsDoNotMatter: what it needs. -/
import Derived.Test.YtjjgjalfelnclaaGreatDoorKWireCutsDoNotMatter5
import Derived.Test.YtjjgjalfelnclaaGreatDoorProg
import Derived.Tactics
import Derived.Tactics2
import Derived.Defers
import Derived.Laws.Pointers
import Derived.Laws.LoneSync
import Derived.RegionTactic
import Derived.RegionCalls
import Derived.ChangeAlike
import Derived.WalkKit
import Derived.Lib.Walk
import Derived.Lib.Strings
import Derived.Lib.IndexBytes
import Derived.Lib.AsciiSet
import Derived.Laws.Strings3
import Derived.Laws.ResultCell
import Derived.Deep.LoopGhost
import Derived.Deep.WholeRow
import Derived.Shelf.RegionOpenPlain
import Derived.Laws.NewBlocks
import Derived.Laws.Cover3
import Derived.Laws.IdiomStrings
import Derived.Laws.BytesArg
import Derived.Lib.TrimByte
import Derived.Shelf.Strings.SlTrimAscii
set_option linter.unusedVariables false
set_option linter.unusedSimpArgs false
set_option maxRecDepth 100000
set_option maxHeartbeats 40000000
namespace Go.Proofs.YtjjgjalfelnclaaGreatDoor
open Go.RowKit Go.Proofs.Tryz
theorem Vua(a0:Str)(r:Bool)(hr:vYa a0=some r):Run prog 192 [.s a0] (.bo r):=by
 unfold vYa at hr;refine rfx (fn:=f192) func192 fun g0 hg=>?_
 refine jq tk 10 hr [] [] (fun j1=>[(2,.bo j1)]) (fun _=>[]) (fun j1 hr=>?_) (fun j1 hr=>?_)
 .refine bx tk 4 6 hr (fun c2 hr=>?_) fun c2 hr=>?_
  .refine bx tk 5 11 hr (fun c3 hr=>?_) fun c3 hr=>?_
   .refine rn tk 2 rfl<|ug rfl rfl rfl ?_;refine ctq tk 0 hr [0,11] [] (fun j4=>[(14,.bo j4)]) (fun _=>[]) (fun j4 hr jump4=>?_) (fun j4 hr=>?_)
    .refine iq tk 0 400000 [0,11] (fn:=f94) ⟨func94,rfl,by kernel_rfl⟩ fun T4 ds4=>?_
     refine aq2 tk 14 hr [0,1,7] [499999,400000,400011] (fun s5=>[(8,.i s5)]) (fun _=>[]) (.exit 0) [] [499999,400000,400011] (fun _=>[]) (fun _=>[]) .ret [4] [499999,400000,400011] (fun _=>[]) (fun _=>[]) (fun s5 x9 hr=>?_) (fun b6 hr=>?_) (fun b7 hr=>?_)
     .unfold qPa at hr;refine ax tk 6 9 hr (fun hr=>?_) fun hr=>?_
      .refine rn tk 15 rfl ?_;obtain ⟨v11,h12,hr⟩:=zaa hr;refine ws tk h12 rfl rfl rfl rfl ?_;refine iq tk 0 600000 [0,1,7,8] (fn:=f221) ⟨func221,rfl,by kernel_rfl⟩ fun T6 ds6=>?_
       refine jq tk 5 hr [] [699999,600000,600001,600007,600008,499999,400000,400011] (fun j13=>[(2,.bo j13)]) (fun _=>[]) (fun j13 hr=>?_) (fun j13 hr=>?_)
       .refine bx tk 4 5 hr (fun c14 hr=>?_) fun c14 hr=>?_
        .refine bx tk 4 9 hr (fun c15 hr=>?_) fun c15 hr=>?_
         .exact jx tk 17 hr
         refine bx tk 3 12 hr (fun c16 hr=>?_) fun c16 hr=>?_
         .refine bx tk 5 17 hr (fun c17 hr=>?_) fun c17 hr=>?_
          .exact jx tk 9 hr
          refine bx tk 4 21 hr (fun c18 hr=>?_) fun c18 hr=>?_
          .exact jx tk 5 hr
          exact jx tk 5 hr
         refine bx tk 9 21 hr (fun c19 hr=>?_) fun c19 hr=>?_
         .exact jx tk 5 hr
         exact jx tk 5 hr
        refine bx tk 7 12 hr (fun c20 hr=>?_) fun c20 hr=>?_
        .refine bx tk 5 17 hr (fun c21 hr=>?_) fun c21 hr=>?_
         .exact jx tk 9 hr
         refine bx tk 4 21 hr (fun c22 hr=>?_) fun c22 hr=>?_
         .exact jx tk 5 hr
         exact jx tk 5 hr
        refine bx tk 9 21 hr (fun c23 hr=>?_) fun c23 hr=>?_
        .exact jx tk 5 hr
        exact jx tk 5 hr
       refine ieq tk 1 (hO ?_);refine ax tk 3 16 hr (fun hr=>?_) fun hr=>?_
       .exact ox tk 8 hr
       exact cx tk 7 hr
      exact ox tk 2 hr
     .refine ieq tk 8 ?_;cases hr;exact jump4 _ _ rfl rfl
     refine ieq tk 2 ?_;cases hr;exact jump4 _ _ rfl rfl
    refine bx tk 2 16 hr (fun c25 hr=>?_) fun c25 hr=>?_
    .refine rn tk 1 rfl ?_;obtain ⟨v26,h27,hr⟩:=zaa hr;refine ug rfl rfl rfl<|cl (Qca _ _ _ h27) rfl rfl ?_;refine bx tk 3 21 hr (fun c28 hr=>?_) fun c28 hr=>?_
     .refine rn tk 1 rfl ?_;obtain ⟨v29,h30,hr⟩:=zaa hr;refine ug rfl rfl rfl<|cl (Qda _ _ _ h30) rfl rfl ?_;refine bx tk 3 26 hr (fun c31 hr=>?_) fun c31 hr=>?_
      .refine rn tk 1 rfl ?_;obtain ⟨v32,h33,hr⟩:=zaa hr;refine ug rfl rfl rfl<|cl (QRa _ _ _ h33) rfl rfl ?_;exact jx tk 4 hr
      exact jx tk 6 hr
     exact jx tk 11 hr
    exact jx tk 16 hr
   exact jx tk 21 hr
  exact jx tk 26 hr
 exact kx tk 1 hr
theorem Wga(a0:Str)(r:Str × Str × Bool)(hr:wqa a0=some r):Run prog 152 [.s a0] (.tup [.s r.1,.s r.2.1,.bo r.2.2]):=by
 unfold wqa at hr;refine rfx (fn:=Tryz.f152) func152 fun g0 hg=>?_
 refine clx tk 10 hr (Qba _ _) fun v1 _ hr=>?_
 refine jq tk 14 hr [2,3] [] (fun j3=>[(4,.bo j3)]) (fun _=>[]) (fun j3 hr=>?_) (fun j3 hr=>?_)
 .refine bx tk 5 15 hr (fun c4 hr=>?_) fun c4 hr=>?_
  .refine bx tk 4 19 hr (fun c5 hr=>?_) fun c5 hr=>?_
   .refine bx tk 5 24 hr (fun c6 hr=>?_) fun c6 hr=>?_
    .refine rn tk 2 rfl<|ug rfl rfl rfl ?_;refine ctq tk 0 hr [3,12,13,24] [] (fun j7=>[(27,.bo j7)]) (fun _=>[]) (fun j7 hr jump4=>?_) (fun j7 hr=>?_)
     .refine iq tk 0 400000 [3,12,13,24] (fn:=f94) ⟨func94,rfl,by kernel_rfl⟩ fun T4 ds4=>?_
      refine aq2 tk 14 hr [0,1,7] [499999,400003,400012,400013,400024] (fun s8=>[(8,.i s8)]) (fun _=>[]) (.exit 0) [] [499999,400003,400012,400013,400024] (fun _=>[]) (fun _=>[]) .ret [4] [499999,400003,400012,400013,400024] (fun _=>[]) (fun _=>[]) (fun s8 x12 hr=>?_) (fun b9 hr=>?_) (fun b10 hr=>?_)
      .unfold vaa at hr;refine ax tk 6 9 hr (fun hr=>?_) fun hr=>?_
       .refine rn tk 15 rfl ?_;obtain ⟨v14,h15,hr⟩:=zaa hr;refine ws tk h15 rfl rfl rfl rfl ?_;refine iq tk 0 600000 [0,1,7,8] (fn:=f190) ⟨func190,rfl,by kernel_rfl⟩ fun T6 ds6=>?_
        refine jq tk 5 hr [] [699999,600000,600001,600007,600008,499999,400003,400012,400013,400024] (fun j16=>[(2,.bo j16)]) (fun _=>[]) (fun j16 hr=>?_) (fun j16 hr=>?_)
        .refine clx tk 2 hr (Koa _) fun v17 _ hr=>?_
         refine bx tk 1 5 hr (fun c19 hr=>?_) fun c19 hr=>?_
         .exact jx tk 6 hr
         refine rn tk 1 rfl ?_;obtain ⟨v20,h21,hr⟩:=zaa hr;refine ug rfl rfl rfl<|cl (v6a _ _ _ h21) rfl rfl ?_;exact jx tk 4 hr
        refine ieq tk 1 (hO ?_);refine ax tk 3 16 hr (fun hr=>?_) fun hr=>?_
        .exact ox tk 8 hr
        exact cx tk 7 hr
       exact ox tk 2 hr
      .refine ieq tk 8 ?_;cases hr;exact jump4 _ _ rfl rfl
      refine ieq tk 2 ?_;cases hr;exact jump4 _ _ rfl rfl
     refine bx tk 2 29 hr (fun c23 hr=>?_) fun c23 hr=>?_
     .refine rn tk 1 rfl ?_;obtain ⟨v24,h25,hr⟩:=zaa hr;refine ug rfl rfl rfl<|cl (Vua _ _ h25) rfl rfl ?_;exact jx tk 5 hr
     exact jx tk 7 hr
    exact jx tk 12 hr
   exact jx tk 17 hr
  exact jx tk 21 hr
 exact kx tk 1 hr
theorem qoa(a0:Str)(r:Bool)(hr:kxa a0=some r):Run prog 108 [.s a0] (.bo r):=by
 unfold kxa at hr;refine rfx (fn:=f108) func108 fun g0 hg=>?_
 refine clx tk 8 hr (Wga _) fun v1 _ hr=>?_
 exact kx tk 16 hr
theorem wJa(a0:Int)(r:Bool)(hr:qza a0=some r):Run prog 153 [.i a0] (.bo r):=by
 unfold qza at hr;refine rfx (fn:=Tryz.f153) func153 fun g0 hg=>?_
 refine jq tk 5 hr [] [] (fun j1=>[(2,.bo j1)]) (fun _=>[]) (fun j1 hr=>?_) (fun j1 hr=>?_)
 .refine bx tk 4 5 hr (fun c2 hr=>?_) fun c2 hr=>?_
  .exact jx tk 5 hr
  exact jx tk 5 hr
 exact kx tk 1 hr
theorem vBa(a0:List zba)(r:zqa)(hr:kza a0=some r):Run prog 109 [.l zba.pc a0] (.agg [.i r.Code,.i r.Index]):=by
 unfold kza at hr;refine rfx (fn:=f109) func109 fun g0 hg=>?_
 refine rn tk 9 rfl<|wn tk rfl rfl rfl ?_;refine aq2 tk 4 hr [0,2,5,6] [2] (fun s1=>[(7,.i s1)]) (fun _=>[]) (.exit 0) [2] [2] (fun _=>[]) (fun _=>[]) .ret [2] [] (fun _=>[]) (fun b3=>[(2,.cells [.i b3.Code,.i b3.Index])]) (fun s1 x5 hr=>?_) (fun b2 hr=>?_) (fun b3 hr=>?_)
 .unfold qIa at hr;refine ax tk 6 8 hr (fun hr=>?_) fun hr=>?_
  .refine rn tk 7 rfl ?_;obtain ⟨v7,h8,hr⟩:=zaa hr;refine wi tk h8 rfl rfl rfl rfl rfl ?_;refine clx tk 11 hr (qoa _) fun v9 _ hr=>?_
   refine ax tk 4 12 hr (fun hr=>?_) fun hr=>?_
   .refine clx tk 3 hr (zea _ _) fun v12 _ hr=>?_
    exact ox tk 7 hr
   refine clx tk 4 hr (wJa _) fun v14 _ hr=>?_
   refine ax tk 4 19 hr (fun hr=>?_) fun hr=>?_
   .refine clx tk 3 hr (zea _ _) fun v17 _ hr=>?_
    exact ox tk 7 hr
   refine rn tk 4 rfl ?_;obtain ⟨v19,h20,hr⟩:=zaa hr;refine wlH tk h20 rfl rfl rfl (fun _=>rfl) rfl ?_;refine iq tk 1 500000 [0,2,3,5,6,7] (fn:=f154) ⟨func154,rfl,by kernel_rfl⟩ fun T5 ds5=>?_
   refine ctq tk 9 hr [] [599999,500000,500002,500005,500006,500007,500003,2] (fun j21=>[(7,.i j21)]) (fun _=>[]) (fun j21 hr jump6=>?_) (fun j21 hr=>?_)
   .refine iq tk 0 600000 [] (fn:=f193) ⟨func193,rfl,by kernel_rfl⟩ fun T6 ds6=>?_
    refine rn tk 9 rfl<|wn tk rfl rfl rfl ?_;refine aq2 tk 4 hr [0,1,7] [699999,599999,500000,500002,500005,500006,500007,500003,4,2] (fun s22=>[(8,.i s22)]) (fun _=>[]) (.exit 0) [] [699999,599999,500000,500002,500005,500006,500007,500003,2] (fun _=>[]) (fun _=>[]) .ret [] [699999,599999,500000,500002,500005,500006,500007,500003,2] (fun b24=>[(4,.i b24)]) (fun _=>[]) (fun s22 x26 hr=>?_) (fun b23 hr=>?_) (fun b24 hr=>?_)
    .unfold k0a at hr;refine ax tk 6 9 hr (fun hr=>?_) fun hr=>?_
     .refine rn tk 15 rfl ?_;obtain ⟨v28,h29,hr⟩:=zaa hr;refine wi tk h29 rfl rfl rfl rfl rfl ?_;refine iq tk 1 800000 [0,1,5,7,8] (fn:=f155) ⟨func155,rfl,by kernel_rfl⟩ fun T8 ds8=>?_
      refine rn tk 2 rfl<|wo (Qma (k:=2) 1002 rfl rfl rfl rfl rfl) rfl ?_;refine ieq tk 14 (hO ?_);refine ax tk 2 16 hr (fun hr=>?_) fun hr=>?_
      .exact ox tk 9 hr
      exact cx tk 7 hr
     exact ox tk 2 hr
    .refine ieq tk 8 ?_;cases hr;exact jump6 _ _ rfl rfl
    refine ieq tk 2 ?_;cases hr;exact jump6 _ _ rfl rfl
   refine ieq tk 5 (hO ?_);refine ax tk 3 26 hr (fun hr=>?_) fun hr=>?_
   .refine clx tk 3 hr (zea _ _) fun v32 _ hr=>?_
    exact ox tk 7 hr
   exact cx tk 8 hr
  exact ox tk 2 hr
 .refine clx tk 4 hr zya fun v34 _ hr=>?_
  exact kx tk 4 hr
 exact kx tk 2 hr
theorem Qea(a0:zFa)(r:zqa)(hr:vba a0=some r):Run prog 97 [.agg [.s a0.From,.l zba.pc a0.To,.s a0.Id]] (.agg [.i r.Code,.i r.Index]):=by
 unfold vba at hr;refine rfx (fn:=f97) func97 fun g0 hg=>?_
 refine jq tk 8 hr [1,2] [2,1] (fun j1=>[(3,.bo j1)]) (fun _=>[]) (fun j1 hr=>?_) (fun j1 hr=>?_)
 .refine bx tk 5 7 hr (fun c2 hr=>?_) fun c2 hr=>?_
  .refine rn tk 2 rfl ?_;obtain ⟨v3,h4,hr⟩:=zaa hr;refine ug rfl rfl rfl<|cl (qoa _ _ h4) rfl rfl ?_;exact jx tk 4 hr
  exact jx tk 7 hr
 refine ax tk 0 3 hr (fun hr=>?_) fun hr=>?_
 .refine clx tk 2 hr (zea _ _) fun v6 _ hr=>?_
  exact kx tk 6 hr
 refine jq tk 0 hr [1,2] [2,1] (fun j8=>[(14,.bo j8)]) (fun _=>[]) (fun j8 hr=>?_) (fun j8 hr=>?_)
 .refine rn tk 3 rfl<|wn tk rfl rfl rfl ?_;refine bx tk 2 19 hr (fun c9 hr=>?_) fun c9 hr=>?_
  .exact jx tk 7 hr
  refine rn tk 2 rfl<|ug rfl rfl rfl<|wn tk rfl rfl rfl ?_;exact jx tk 4 hr
 refine ax tk 0 14 hr (fun hr=>?_) fun hr=>?_
 .refine clx tk 2 hr (zea _ _) fun v11 _ hr=>?_
  exact kx tk 6 hr
 refine jq tk 0 hr [1,2] [2,1] (fun j13=>[(26,.bo j13)]) (fun _=>[]) (fun j13 hr=>?_) (fun j13 hr=>?_)
 .refine bx tk 5 30 hr (fun c14 hr=>?_) fun c14 hr=>?_
  .refine rn tk 2 rfl ?_;obtain ⟨v15,h16,hr⟩:=zaa hr;refine ug rfl rfl rfl<|cl (yHa _ _ h16) rfl rfl ?_;exact jx tk 4 hr
  exact jx tk 7 hr
 refine ax tk 0 26 hr (fun hr=>?_) fun hr=>?_
 .refine clx tk 2 hr (zea _ _) fun v18 _ hr=>?_
  exact kx tk 6 hr
 refine clx tk 7 hr (vBa _) fun v20 _ hr=>?_
 exact kx tk 4 hr
theorem Wha(a0:zua)(r:zqa)(hr:wsa a0=some r):Run prog 59 [.agg (zN0 a0)] (.agg [.i r.Code,.i r.Index]):=by
 unfold wsa at hr;refine rfx (fn:=f59) func59 fun g0 hg=>?_
 refine clx tk 11 hr (Qea _) fun v1 _ hr=>?_
 refine clx tk 7 hr (zwa _) fun v3 _ hr=>?_
 refine ax tk 2 9 hr (fun hr=>?_) fun hr=>?_
 .exact kx tk 8 hr
 refine clx tk 7 hr (wla _) fun v6 _ hr=>?_
 refine clx tk 7 hr (zwa _) fun v8 _ hr=>?_
 refine ax tk 2 15 hr (fun hr=>?_) fun hr=>?_
 .refine clx tk 4 hr (zea _ _) fun v11 _ hr=>?_
  exact kx tk 5 hr
 refine clx tk 4 hr zya fun v13 _ hr=>?_
 exact kx tk 4 hr
theorem Kpa(a0:Str)(a1:zua)(r:zqa)(hr:wNa a0 a1=some r):Run prog 34 [.s a0,.agg (zN0 a1)] (.agg [.i r.Code,.i r.Index]):=by
 unfold wNa at hr;refine rfx (fn:=f34) func34 fun g0 hg=>?_
 refine clx tk 10 hr (yHa _) fun v1 _ hr=>?_
 refine ax tk 3 7 hr (fun hr=>?_) fun hr=>?_
 .refine clx tk 2 hr (zea _ _) fun v4 _ hr=>?_
  exact kx tk 5 hr
 refine clx tk 5 hr (Wha _) fun v6 _ hr=>?_
 exact kx tk 4 hr
theorem Kqa(a0:zna)(r:zqa)(hr:wOa a0=some r):Run prog 42 [.agg (zN2 a0)] (.agg [.i r.Code,.i r.Index]):=by
 unfold wOa at hr;refine rfx (fn:=f42) func42 fun g0 hg=>?_
 refine clx tk 13 hr (Kpa _ _) fun v1 _ hr=>?_
 refine clx tk 7 hr (zwa _) fun v3 _ hr=>?_
 refine ax tk 2 12 hr (fun hr=>?_) fun hr=>?_
 .exact kx tk 8 hr
 refine rn tk 8 rfl<|wn tk rfl rfl rfl ?_;refine jq tk 9 hr [2] [2] (fun j6=>[(57,.bo j6)]) (fun _=>[]) (fun j6 hr=>?_) (fun j6 hr=>?_)
 .refine rn tk 3 rfl<|wn tk rfl rfl rfl ?_;refine bx tk 3 24 hr (fun c7 hr=>?_) fun c7 hr=>?_
  .exact jx tk 34 hr
  refine rn tk 3 rfl<|ug rfl rfl rfl ?_;refine iq tk 0 500000 [1,2,4,24] (fn:=f19) ⟨func19,rfl,by kernel_rfl⟩ fun T5 ds5=>?_
  refine ctq tk 9 hr [] [599999,500001,500002,500004,500024,2,1] (fun j8=>[(7,.i j8)]) (fun _=>[]) (fun j8 hr jump6=>?_) (fun j8 hr=>?_)
  .refine iq tk 0 600000 [] (fn:=f37) ⟨func37,rfl,by kernel_rfl⟩ fun T6 ds6=>?_
   refine rn tk 9 rfl<|wn tk rfl rfl rfl ?_;refine aq2 tk 4 hr [0,1,7] [699999,599999,500001,500002,500004,500024,2,1] (fun s9=>[(8,.i s9)]) (fun _=>[]) (.exit 0) [] [699999,599999,500001,500002,500004,500024,2,1] (fun _=>[]) (fun _=>[]) .ret [] [699999,599999,500001,500002,500004,500024,2,1] (fun b11=>[(4,.i b11)]) (fun _=>[]) (fun s9 x13 hr=>?_) (fun b10 hr=>?_) (fun b11 hr=>?_)
   .unfold v2a at hr;refine ax tk 6 9 hr (fun hr=>?_) fun hr=>?_
    .refine rn tk 15 rfl ?_;obtain ⟨v15,h16,hr⟩:=zaa hr;refine wi tk h16 rfl rfl rfl rfl rfl ?_;refine iq tk 1 800000 [0,1,5,7,8] (fn:=f74) ⟨func74,rfl,by kernel_rfl⟩ fun T8 ds8=>?_
     refine jq tk 5 hr [] [899999,800000,800001,800007,800008,800005,699999,599999,500001,500002,500004,500024,2,1] (fun j17=>[(2,.bo j17)]) (fun _=>[]) (fun j17 hr=>?_) (fun j17 hr=>?_)
     .refine bx tk 4 5 hr (fun c18 hr=>?_) fun c18 hr=>?_
      .exact jx tk 5 hr
      exact jx tk 5 hr
     refine ieq tk 1 (hO ?_);refine ax tk 2 16 hr (fun hr=>?_) fun hr=>?_
     .exact ox tk 9 hr
     exact cx tk 7 hr
    exact ox tk 2 hr
   .refine ieq tk 8 ?_;cases hr;exact jump6 _ _ rfl rfl
   refine ieq tk 2 ?_;cases hr;exact jump6 _ _ rfl rfl
  refine ieq tk 5 (hO ?_);refine bx tk 2 30 hr (fun c20 hr=>?_) fun c20 hr=>?_
  .exact jx tk 28 hr
  refine bx tk 5 35 hr (fun c21 hr=>?_) fun c21 hr=>?_
  .exact jx tk 23 hr
  refine bx tk 7 42 hr (fun c22 hr=>?_) fun c22 hr=>?_
  .exact jx tk 16 hr
  refine rn tk 2 rfl<|ug rfl rfl rfl<|wn tk rfl rfl rfl ?_;refine bx tk 3 48 hr (fun c23 hr=>?_) fun c23 hr=>?_
  .exact jx tk 10 hr
  refine bx tk 4 52 hr (fun c24 hr=>?_) fun c24 hr=>?_
  .refine rn tk 1 rfl ?_;obtain ⟨v25,h26,hr⟩:=zaa hr;refine ug rfl rfl rfl<|cl (JQa _ _ h26) rfl rfl ?_;exact jx tk 4 hr
  exact jx tk 6 hr
 refine ax tk 0 57 hr (fun hr=>?_) fun hr=>?_
 .refine clx tk 2 hr (zea _ _) fun v28 _ hr=>?_
  exact kx tk 5 hr
 refine clx tk 4 hr zya fun v30 _ hr=>?_
 exact kx tk 4 hr
theorem wBa(a0:List Int)(r:List Int)(hr:kMa a0=some r):RunO prog 43 [.l cI a0] 3 1 (List.map cI r):=by
 unfold kMa at hr;refine rfO (fn:=f43) ⟨func43,rfl,by kernel_rfl⟩ rfl fun g0 hg=>?_
 refine rn tk 3 rfl ?_;refine vWa 1002 (d:=2) 3 1 rfl rfl rfl (hO ?_);refine rn tk 6 rfl ?_;refine wKa (d:=3) (F:=cI) (l:=a0) rfl rfl rfl q3a (fun c1=>hO ?_) (hO ?_)
 .replace hr:=j6a c1 hr
  refine rn tk 6 rfl ?_;refine vWa 2002 (d:=2) 3 1 rfl rfl rfl (hO ?_);refine rn tk 4 rfl ?_;cases hr;exact krO tk (.inr rfl) rfl rfl
 replace hr:=j7a hr
 refine rn tk 7 rfl<|wo (yKa (k:=5) rfl q3a kQa) rfl<|rn tk 1 rfl ?_;obtain ⟨v2,h3,hr⟩:=zaa hr;refine wo (vra (k:=7) (F:=cI) (xs:=a0) (lim:=17592186044416) 2002 rfl rfl rfl q3a kQa rfl rfl (fun _=>rfl) rfl rfl rfl h3) rfl<|rn tk 4 rfl ?_;cases hr;exact krO tk (.inr rfl) rfl rfl
theorem Yna(a0:zna)(r:zna × zqa)(hr:yTa a0=some r):Run prog 23 [.agg (zN2 a0)] (.tup [.agg (zN2 r.1),.agg [.i r.2.Code,.i r.2.Index]]):=by
 unfold yTa at hr;refine rfx (fn:=f23) func23 fun g0 hg=>?_
 refine clx tk 11 hr (Kqa _) fun v1 _ hr=>?_
 refine clx tk 7 hr (zwa _) fun v3 _ hr=>?_
 refine ax tk 2 9 hr (fun hr=>?_) fun hr=>?_
 .refine mdq tk 1 [] [2,3] .nil ?_ mixed;exact kx tk 3 hr
 refine rn tk 3 rfl ?_;obtain ⟨v6,h7,hr⟩:=zaa hr;obtain ⟨v8,h9,hr⟩:=zaa hr;refine mh tk 0 [(2,.agg (zN0 v6))] [(5,fun f s=>((17,.hs 1017 0)::f,((1017,.row 3 true 1 (List.map cI v8))::s))),(7,fun f s=>(f,(Sto.upd s 1 (.cells [.s a0.Name,.s v6.Envelope.From,.l zba.pc v6.Envelope.To,.s v6.Envelope.Id,.l zga.pc v6.Message.Fields,.l cU v6.Message.Body,.bo a0.Pipelined,.l cU a0.Buffer,.i a0.Expected,.bo a0.Whole,.bo a0.Done,.l cI a0.Results])))),(9,fun f s=>(f,(Sto.upd s 1 (.cells [.s a0.Name,.s v6.Envelope.From,.l zba.pc v6.Envelope.To,.s v6.Envelope.Id,.l zga.pc v6.Message.Fields,.l cU v6.Message.Body,.bo a0.Pipelined,.l cU a0.Buffer,.i a0.Expected,.bo a0.Whole,.bo a0.Done,.hs 1017 0])))),(11,fun f s=>(f,(Sto.upd s 1 (.cells [.s a0.Name,.s v6.Envelope.From,.l zba.pc v6.Envelope.To,.s v6.Envelope.Id,.l zga.pc v6.Message.Fields,.l cU v6.Message.Body,.bo a0.Pipelined,.pv (.sl (some true) []),.i a0.Expected,.bo a0.Whole,.bo a0.Done,.hs 1017 0]))))] [[],[5],[5,7],[5,7,9],[5,7,9,11]] ?_ mixed;refine .cons (mnq tk [2,5] (.cons (mpu (zVa (yBa a0.Mail v6 h7) rfl)) (.cons (mdtq 1 (Qra 1017 (wBa a0.Results v8 h9) rfl rfl rfl rfl)) .nil))) (.cons (mnq tk [7] (.cons (mstq 2 (qba rfl rfl rfl qUa rfl rfl)) .nil)) (.cons (mnq tk [9] (.cons (mstq 3 (qba rfl rfl rfl q3a rfl rfl)) .nil)) (.cons (mnq tk [11] (.cons (mstq 4 (qba rfl rfl rfl zja rfl rfl)) .nil)) (.cons (mfq tk [] [1,2,3] .nil (hA ?_)) .nil))));refine rn tk 5 rfl<|wo (Qma (k:=23) 90000000 rfl rfl rfl rfl rfl) rfl<|rn tk 1 rfl ?_;refine YBa 1017 90000012 rfl rfl rfl rfl rfl rfl (hO ?_);refine kJa 90000015 (o:=90000000) (j:=14) 5 1 rfl rfl rfl rfl (hO ?_);refine csx tk 5 hr (yja _) fun v10 _ hr=>?_
 refine rn tk 3 rfl ?_;obtain ⟨v12,h13,hr⟩:=zaa hr;refine mdq tk 0 [(4,.agg [.i v12.Code,.i v12.Index])] [2,3] (.cons rfl rfl (fun _ _=>(zVa (zya v12 h13) rfl)) .nil) ?_ mixed;refine rn tk 1 rfl ?_;refine yDa 90000012 rfl (hC ?_);refine Qna (o:=2) (j:=11) (F:=cI) (l:=v10.Client.Results) rfl rfl rfl (hC ?_);exact kx tk 1 hr
theorem Yoa(a0:Str)(a1:zua)(a2:Bool)(r:zna × zqa)(hr:ySa a0 a1 a2=some r):Run prog 15 [.s a0,.agg (zN0 a1),.bo a2] (.tup [.agg (zN2 r.1),.agg [.i r.2.Code,.i r.2.Index]]):=by
 unfold ySa at hr;refine rfx (fn:=f15) func15 fun g0 hg=>?_
 refine clx tk 12 hr (Kpa _ _) fun v1 _ hr=>?_
 refine clx tk 7 hr (zwa _) fun v3 _ hr=>?_
 refine ax tk 2 13 hr (fun hr=>?_) fun hr=>?_
 .refine mdq tk 1 [] [6,7] .nil ?_ mixed;exact kx tk 3 hr
 refine rn tk 3 rfl ?_;obtain ⟨v6,h7,hr⟩:=zaa hr;obtain ⟨v8,h9,hr⟩:=zaa hr;obtain ⟨v10,h11,hr⟩:=zaa hr;refine dq tk 0 11 [] [(2,.agg (zN0 v6)),(7,.i ((a1.Envelope.To.length:Int))),(8,.l cI v8),(10,.agg [.i v10.Code,.i v10.Index])] .nil (.cons rfl rfl (zVa (yBa a1 v6 h7) rfl) (.cons rfl rfl (kua (yua (f:=zba.pc) rfl zha.u)) (.cons rfl rfl (opG_make (F:=cI) (z:=(0:Int)) (lim:=17592186044416) rfl q3a kQa (fun _=>rfl) rfl rfl rfl h9) (.cons rfl rfl (zVa (zya v10 h11) rfl) .nil)))) ?_ mixed;exact kx tk 5 hr
theorem y4a(a0:Str)(a1:Int)(a2:Int)(r:zqa)(hr:qua a0 a1 a2=some r):Run prog 36 [.s a0,.i a1,.i a2] (.agg [.i r.Code,.i r.Index]):=by
 unfold qua at hr;refine rfx (fn:=f36) func36 fun g0 hg=>?_
 refine jq tk 7 hr [1,2,6] [6] (fun j1=>[(7,.bo j1)]) (fun _=>[]) (fun j1 hr=>?_) (fun j1 hr=>?_)
 .refine clx tk 2 hr (yHa _) fun v2 _ hr=>?_
  refine bx tk 2 11 hr (fun c4 hr=>?_) fun c4 hr=>?_
  .exact jx tk 6 hr
  exact jx tk 6 hr
 refine ax tk 0 7 hr (fun hr=>?_) fun hr=>?_
 .refine clx tk 2 hr (zea _ _) fun v6 _ hr=>?_
  exact kx tk 6 hr
 refine jq tk 0 hr [2,6] [6] (fun j8=>[(17,.bo j8)]) (fun _=>[]) (fun j8 hr=>?_) (fun j8 hr=>?_)
 .refine bx tk 4 20 hr (fun c9 hr=>?_) fun c9 hr=>?_
  .exact jx tk 5 hr
  exact jx tk 5 hr
 refine ax tk 0 17 hr (fun hr=>?_) fun hr=>?_
 .refine clx tk 2 hr (zea _ _) fun v11 _ hr=>?_
  exact kx tk 6 hr
 refine jq tk 0 hr [6] [6] (fun j13=>[(25,.bo j13)]) (fun _=>[]) (fun j13 hr=>?_) (fun j13 hr=>?_)
 .refine bx tk 4 28 hr (fun c14 hr=>?_) fun c14 hr=>?_
  .exact jx tk 5 hr
  exact jx tk 5 hr
 refine ax tk 0 25 hr (fun hr=>?_) fun hr=>?_
 .refine clx tk 2 hr (zea _ _) fun v16 _ hr=>?_
  exact kx tk 6 hr
 refine clx tk 5 hr zya fun v18 _ hr=>?_
 exact kx tk 4 hr
theorem zmb(a0:Str)(a1:Int)(a2:Int)(r:zsa × zra × zqa)(hr:ZNa a0 a1 a2=some r):Run prog 17 [.s a0,.i a1,.i a2] (.tup [.agg (zN3 r.1),.agg [.i r.2.1.Code,.l cS r.2.1.Lines],.agg [.i r.2.2.Code,.i r.2.2.Index]]):=by
 unfold ZNa at hr;refine rfx (fn:=f17) func17 fun g0 hg=>?_
 refine clx tk 13 hr (y4a _ _ _) fun v1 _ hr=>?_
 refine clx tk 7 hr (zwa _) fun v3 _ hr=>?_
 refine ax tk 2 15 hr (fun hr=>?_) fun hr=>?_
 .refine mdq tk 1 [] [6,7,8] .nil ?_ mixed;exact kx tk 3 hr
 refine rn tk 9 rfl<|wz cS ([a0]:List Str) tk rfl rfl (fun _=>rfl) rfl rfl rfl ?_;refine clx tk 1 hr zya fun v6 _ hr=>?_
 exact kx tk 6 hr
section
open Go.RowKit Go.Lib Go.Proofs.Tryz
variable {E:Env} {fr:Fr} {σ:Sto} {K:Post}
def Wia(n:Nat):Loc->Loc
 | .row b off cap size m=>.row b (off+n) (cap - n) size (m - n)
 | l=>l
def AV.adv(r n:Nat):AV->AV
 | .hsub x m=>bif Nat.beq x r then (bif Nat.beq m n then .hs r 0 else .any) else .hsub x m
 | c=>bif c.has r then .any else c
theorem rel_adv{g g' :G}{r n:Nat}(hx:Ext g.w g.u g'.w g'.u)(hk:∀k,k≠r->g'.loc k=g.loc k)(hl:g'.loc r=Wia n (g.loc r)){c:AV}{v:Value}(h:Rel g c v):Rel g' (c.adv r n) v:=by
 cases c
 case hsub x m=>
  cases hb:Nat.beq x r with
  | true=>
   have:x=r:=jAm hb;subst this;cases hm:Nat.beq m n with
   | true=>
    have:m=n:=jAm hm;subst this;rw[show AV.adv x m (.hsub x m)=.hs x 0 by show (bif Nat.beq x x then (bif Nat.beq m m then AV.hs x 0 else .any) else AV.hsub x m)=_;rw[hb,hm];rfl];cases h with
    | hsubNil a h1=>exact .hsNil a (by rw[hl,h1];rfl)
    | hsub h1 h2 h3=>exact .hs (by rw[hl,h1];rfl) (fun h=>h3 (by omega))
   | false=>
    rw[show AV.adv x n (.hsub x m)=.any by show (bif Nat.beq x x then (bif Nat.beq m n then AV.hs x 0 else .any) else AV.hsub x m)=_;rw[hb,hm];rfl];exact .any _
  | false=>
   rw[show AV.adv r n (.hsub x m)=.hsub x m by show (bif Nat.beq x r then (bif Nat.beq m n then AV.hs r 0 else .any) else AV.hsub x m)=_;rw[hb];rfl];have hne:x≠r:=by rintro rfl;simp at hb
   exact h.mono hx fun k hk' =>hk k (by have:=jAm (show Nat.beq x k=true from hk');subst this;exact hne)
 all_goals exact Wva hx hk h
theorem St.adv{g:G}{a:Act}{r n size:Nat}{mu:Bool}{e:TypeId}{elems:List (List PV)}(h:St E g a fr σ)(hr:σ.get r=some (.row e mu size elems))(hn:n<=elems.length):
 St E ⟨g.w,g.u,fun k=>if k=r then Wia n (g.loc r) else g.loc k⟩ a (fr.mp (AV.on (AV.adv r n))) (((σ.dels []).mp (AV.on (AV.adv r n))).upd r (.row e mu size (elems.drop n))):=by
 have hl:(⟨g.w,g.u,fun k=>if k=r then Wia n (g.loc r) else g.loc k⟩:G).loc r=Wia n (g.loc r):=if_pos rfl;have hob:=h.so.obj r _ hr;have hbl:(Wia n (g.loc r)).block=(g.loc r).block:=by
  cases hob with
  | nil h1=>rw[h1];rfl
  | row h1=>rw[h1];rfl
 refine h.turn (g' :=⟨g.w,g.u,fun k=>if k=r then Wia n (g.loc r) else g.loc k⟩) hr [] (by simp) _ rfl (fun c v=>K0b fun c v=>rel_adv (g:=g) (g' :=⟨g.w,g.u,fun k=>if k=r then Wia n (g.loc r) else g.loc k⟩) (Ext.refl _ _) (fun k hk=>if_neg hk) hl) (Ext.refl _ _) (fun k hk=>if_neg hk) rfl rfl rfl (fun _ _ _=>⟨rfl,rfl⟩) h.so.wf ?_ (fun b hb=>.inl ⟨r,_,.inl rfl,hr,?_⟩)
 .cases hob with
  | nil h1=>rw[List.drop_nil];exact .nil (by rw[hl,h1];rfl)
  | @row _ _ _ _ b off cap vs h1 h2 h3 h4 h5 h6 h7 h8 h9=>
   refine .row (b:=b) (off:=off+n) (cap:=cap - n) (vs:=vs) (by rw[hl,h1,jCr];rfl) h2 (by rw[h3];congr 1;omega) (by omega) (by rw[jCr];omega) (fun x hx=>h6 x (List.mem_of_mem_drop hx)) ?_ h8 (fun i j x c hi hj=>?_)
   .rw[jCr,show off+n+(elems.length - n)=off+elems.length by omega];exact h7
   rw[jBo]at hi;have:=h9 (n+i) j x c hi hj
   rwa [show off+(n+i)=off+n+i by omega]at this
 have hb:(Wia n (g.loc r)).block=some b:=by rw[<-hl];exact hb
 rw[hbl]at hb;exact hb
theorem adv_self(r n:Nat):AV.on (AV.adv r n) (.hsub r n)=.hs r 0:=by
 show (bif Nat.beq r r then (bif Nat.beq n n then AV.hs r 0 else .any) else AV.hsub r n)=_;simp
theorem VNb{α:Type}{F:α->List PV}{l v:List α}{c:Code}{size:Nat}{mu:Bool}{e:TypeId}{cs:List AV}(r o j:Nat){p:Int}(hc:cut l p l.length=some v)(hr:σ.get r=some (.row e mu size (l.map F)))
 (ho:Sto.get (((σ.dels []).mp (AV.on (AV.adv r p.toNat))).upd r (.row e mu size (v.map F))) o=some (.cells cs)) (hj:cs[j]? =some (AV.on (AV.adv r p.toNat) (.hsub r p.toNat)))
 (h:AWP E c (fr.mp (AV.on (AV.adv r p.toNat))) ((((σ.dels []).mp (AV.on (AV.adv r p.toNat))).upd r (.row e mu size (v.map F))).upd o (.cells (cs.set j (.hs r 0)))) K):AWP E c fr σ K:=by
 obtain ⟨h0,h1,_,rfl⟩:=VEa hc;rw[jCm (by simp;omega),List.map_drop]at h ho;exact ⟨fun g a hst=>h.go ⟨g.w,g.u,fun k=>if k=r then Wia p.toNat (g.loc r) else g.loc k⟩ a ((hst.adv hr (by simp;omega)).recell ho hj fun v hv=>by rw[adv_self]at hv;exact hv)⟩
end
def nums(l:List UInt8):List Int:=l.map fun c=>(c.toNat:Int)
theorem WQa(l:List UInt8):Lib.bytesOf (nums l)=l:=by simp[Lib.bytesOf,nums,Function.comp_def]
theorem kab(l:List UInt8):∀x∈nums l,0<=x/\x < 256:=by
 intro x hx;obtain ⟨c,_,rfl⟩:=jCd.1 hx;have:=c.toNat_lt;omega
theorem VOb(l:List UInt8)(i:Nat)(h:i < l.length):(nums l).getD i 0=(l[i].toNat:Int):=by simp[nums,h]
theorem Vva{g:G}{l:List UInt8}{v:Value}(h:Rel g (.l cU l) v):∃ad cap,v=.slice ad l.length cap/\l.length<=cap/\(l≠ []->∃b off,ad=some ⟨b,off,none⟩/\∀i,i < l.length->g.w.cell? ((⟨b,off,none⟩:Addr).add i)=some (.int .u8 ((nums l).getD i 0))):=by
 cases h with
 | pv h=>
  generalize hE:l.map cU=elems at h;have hEl:elems.length=l.length:=by rw[<-hE];simp
  unfold pL at h;rw[hE]at h;cases h with
  | @sl _ _ a cap size b off val hn h0 hc hz ha hu hcell h=>
   refine ⟨a,cap,by rw[hEl],by omega,fun hne=>⟨b,off,ha (by rw[<-hE];simpa using hne),fun i hi=>?_⟩⟩;have hget:elems[i]? =some (cU l[i]):=by rw[<-hE];simp[hi]
   have hs1:size=1:=by
    have:=hz _ (jAi hget);simpa[cU]using this.symm
   subst hs1;rw[vsa,hcell i (by omega),VOb l i hi];have:=h i 0 _ (.b (.int .u8 (l[i].toNat:Int))) hget rfl;simp only[jDm,jCy]at this;have e:=z6a (g:=g) (.pv this);rw[e]
theorem jUa(a b:List UInt8)(r:Int)(hr:qWa a b=some r):Run prog 105 [.l cU a,.l cU b] (.i r):=by
 unfold qWa at hr;split at hr
 case isFalse=>cases hr
 rename_i hlen;cases hr;refine ⟨⟨_,_,⟨func105,rfl,by kernel_rfl⟩⟩,fun g vs hw hg ha=>?_⟩;obtain ⟨hsz,hrel⟩:=ha;obtain ⟨l⟩:=vs
 match l,hsz with
 | [x,y],_=>
  have h0:Rel g (.l cU a) x:=hrel 0 _ rfl;have h1:Rel g (.l cU b) y:=hrel 1 _ rfl;obtain ⟨ad,cap,rfl,hcap,hcell⟩:=Vva h0;obtain ⟨ad2,cap2,rfl,hcap2,hcell2⟩:=Vva h1;have hb2:=hlen.2;obtain ⟨b2,o2,rfl,hc2⟩:=hcell2 (by rintro rfl;simp at hb2);refine callsIn_wide.2 ?_
  suffices hs:Calls prog 105 #[.slice ad a.length cap,.slice (some ⟨b2,o2,none⟩) b.length cap2] g.w fun e w' =>e=.returned (.int .i64 (Lib.index a b))/\∃q,w' =g.w.drewN q by
   refine hs.mono ?_;rintro e w' ⟨rfl,q,rfl⟩;exact ⟨⟨g.w.drewN q,g.u,g.loc⟩,_,rfl,rfl,whb g q,hw,rfl,.pv (.b rfl)⟩
  by_cases hs:a.length < 2
  .have hi:Lib.index a b= -1:=by
    match a,b,hs,hb2 with
    | [],[p,q],_,_=>rfl
    | [c],[p,q],_,_=>simp[Lib.index]
   rw[hi];exact (Tryz.bytes_Index_longer ad (some ⟨b2,o2,none⟩) a.length cap b.length cap2 g.w (by omega) (by omega) (by omega)).mono fun e w' ⟨h1,h2⟩=>⟨h1,0,h2⟩
  obtain ⟨b1,o1,rfl,hc1⟩:=hcell (by rintro rfl;simp at hs);obtain ⟨_,_,m,hm⟩:=hg.1 (0,0) (by simp[Kcb]);have:=Tryz.bytes_Index_at ⟨b1,o1,none⟩ ⟨b2,o2,none⟩ a.length cap b.length cap2 (nums a) (nums b) m g.w (by simp[nums]) (by simp[nums]) (kab a) (kab b) hc1 hc2 hcap hlen.1 (by omega) hm;rw[WQa,WQa]at this;exact this
theorem vRa(a0:Int)(r:Int)(hr:qca a0=some r):Run prog 148 [.i a0] (.i r):=by
 unfold qca at hr;refine rfx (fn:=f148) func148 fun g0 hg=>?_
 refine ax tk 12 4 hr (fun hr=>?_) fun hr=>?_
 .exact kx tk 7 hr
 exact kx tk 8 hr
theorem yka(a0:zca)(r:Bool × zca)(hr:kBa a0=some r):RunS prog 150 [.ptr 90000000 0] (zca.sto a0) (.bo r.1) (zca.sto r.2) 90000000 [90000012,90000015]:=by
 unfold kBa at hr;refine rfS (fn:=Tryz.f150) (H:=90000999) (.ptr 90000000 0) ⟨func150,rfl,by kernel_rfl⟩ rfl (hasT rfl) (.inl ⟨rfl,rfl⟩) rfl rfl rfl rfl fun g0 hg S sg T=>?_
 refine iq tk 12 100000 [] (fn:=Tryz.f187) ⟨func187,rfl,by kernel_rfl⟩ fun T1 ds1=>?_
 refine ctq tk 9 hr [] [199999,90000999,90000000,90000012,90000015] (fun j1=>[(7,.i j1)]) (fun _=>[]) (fun j1 hr jump2=>?_) (fun j1 hr=>?_)
 .refine iq tk 0 200000 [] (fn:=f216) ⟨func216,rfl,by kernel_rfl⟩ fun T2 ds2=>?_
  refine rn tk 9 rfl<|wnh tk rfl rfl rfl rfl ?_;refine aq2 tk 4 hr [0,1,7] [299999,199999,90000999,90000000,90000012,90000015] (fun s2=>[(8,.i s2)]) (fun _=>[]) (.exit 0) [] [299999,199999,90000999,90000000,90000012,90000015] (fun _=>[]) (fun _=>[]) .ret [] [299999,199999,90000999,90000000,90000012,90000015] (fun b4=>[(4,.i b4)]) (fun _=>[]) (fun s2 x6 hr=>?_) (fun b3 hr=>?_) (fun b4 hr=>?_)
  .unfold qJa at hr;refine ax tk 6 9 hr (fun hr=>?_) fun hr=>?_
   .refine rn tk 15 rfl ?_;obtain ⟨v8,h9,hr⟩:=zaa hr;refine wih tk h9 rfl rfl rfl rfl rfl ?_;obtain ⟨v10,h11,hr⟩:=zaa hr;refine wq (VJa (F:=cI) (l:=a0.Client.Results) (n:=s2) (j:=0) rfl rfl kQa rfl h11 rfl) rfl rfl rfl ?_;refine ax tk 3 16 hr (fun hr=>?_) fun hr=>?_
    .exact ox tk 9 hr
    exact cx tk 7 hr
   exact ox tk 2 hr
  .refine ieq tk 8 ?_;cases hr;exact jump2 _ _ rfl rfl
  refine ieq tk 2 ?_;cases hr;exact jump2 _ _ rfl rfl
 refine ieq tk 5 (hO ?_);exact sxx tk 5 hr
theorem str_argN{g:G}{s:Str}{v:Value}(h:Rel g (.s s) v):v=.string (strB s):=z6a h
theorem pow_tab {g : G} (hg : Gl g) : Lib.TabIs prog g.w "internal/strconv.uint64pow10" .u64 Lib.pow10Tab := by
 obtain ⟨t,fz,h⟩:=hg.2.1 (1,(Lib.pow10Tab.map fun z=>Value.int .u64 z).toArray) (by simp[globK]);have hn : prog.globalNamed "internal/strconv.uint64pow10" = some 1 := by kernel_rfl
 unfold Lib.TabIs World.var?;rw[hn];simp only[jAc];simp only at h;rw[h]
theorem jOb(g:G)(q:Nat)(os:Array Obj):Old (fun _=>False) g ⟨Go.Sort.grow (g.w.drewN q) os,g.u,g.loc⟩:=by
 have hb:∀k,k < g.w.heap.size->(Go.Sort.grow (g.w.drewN q) os).heap[k]? =g.w.heap[k]? :=by
  intro k hk;show (g.w.heap++os)[k]? =_;rw[jBn hk]
 refine ⟨rfl,rfl,rfl,⟨?_,fun _ _=>jAn _,fun k i hk hi=>?_,fun r hr=>(hb r (zUa hr)).trans hr⟩,fun k hk _=>⟨hb k hk,rfl⟩⟩
 .show g.w.heap.size<=(g.w.heap++os).size;simp
 simp only[World.cell?];rw[hb k hk]
theorem qla(n:Int)(r:Str)(hr:zMa n=some r):Run prog 64 [.i n] (.s r):=by
 unfold zMa at hr;split at hr
 case isFalse=>cases hr
 rename_i hlen;cases hr;refine ⟨⟨_,_,⟨func64,rfl,by kernel_rfl⟩⟩,fun g vs hw hg ha=>?_⟩;obtain ⟨hsz,hrel⟩:=ha;obtain ⟨l⟩:=vs
 match l,hsz with
 | [x],_=>
  have e2:x=.int .i64 n:=z6a (hrel 0 _ rfl);subst e2;refine callsIn_wide.2 ((Tryz.strconv_Itoa n hlen.1 hlen.2 g.w (pow_tab hg)).mono ?_);rintro e w' ⟨rfl,q,os,rfl⟩;exact ⟨⟨Go.Sort.grow (g.w.drewN q) os,g.u,g.loc⟩,_,rfl,rfl,jOb g q os,fun k hk=>hw k (jBp (jOb g q os).ext.size hk),rfl,.pv (.b rfl)⟩
theorem Ypa(a0:zfa)(r:zfa)(hr:yOa a0=some r):Run prog 201 [.agg (zN1 a0)] (.agg (zN1 r)):=by
 unfold yOa at hr;refine rfx (fn:=f201) func201 fun g0 hg=>?_
 refine rn tk 15 rfl<|jb hr (fun j1=>[(2,.ptr 2 0),(3,.ptr 3 0)]) (fun j1=>[(3,.cells [.i a0.Verb,.s j1.1,.s j1.2.1,.i j1.2.2.1,.i j1.2.2.2.1,.bo j1.2.2.2.2]),(2,.cells [.i 0,.s (([]:Str)),.s (([]:Str)),.i 0,.i 0,.bo false])]) (fun j1 hr=>?_) (fun j1 hr=>?_)
 .refine ax tk 13 9 hr (fun hr=>?_) fun hr=>?_
  .exact jx tk 7 hr
  refine ax tk 6 14 hr (fun hr=>?_) fun hr=>?_
  .refine mc tk [] [(2,.ptr 2 0),(3,.ptr 3 0)] mixed rfl (by kernel_rfl) .nil (fc rfl (fc rfl fn)) (hA ?_);exact jx tk 1 hr
  refine ax tk 6 22 hr (fun hr=>?_) fun hr=>?_
  .refine mc tk [] [(2,.ptr 2 0),(3,.ptr 3 0)] mixed rfl (by kernel_rfl) .nil (fc rfl (fc rfl fn)) (hA ?_);exact jx tk 1 hr
  refine ax tk 6 30 hr (fun hr=>?_) fun hr=>?_
  .refine mc tk [] [(2,.ptr 2 0),(3,.ptr 3 0)] mixed rfl (by kernel_rfl) .nil (fc rfl (fc rfl fn)) (hA ?_);exact jx tk 1 hr
  exact jx tk 2 hr
 exact kx tk 7 hr
theorem jda(a0:zfa)(r:zqa)(hr:qMa a0=some r):Run prog 164 [.agg (zN1 a0)] (.agg [.i r.Code,.i r.Index]):=by
 unfold qMa at hr;refine rfx (fn:=f164) func164 fun g0 hg=>?_
 refine jq tk 6 hr [1,2] [2,1] (fun j1=>[(3,.bo j1)]) (fun _=>[]) (fun j1 hr=>?_) (fun j1 hr=>?_)
 .refine bx tk 5 7 hr (fun c2 hr=>?_) fun c2 hr=>?_
  .exact jx tk 11 hr
  refine bx tk 4 11 hr (fun c3 hr=>?_) fun c3 hr=>?_
  .exact jx tk 7 hr
  exact jx tk 7 hr
 refine jq tk 2 hr [1,2,3] [2,1] (fun j4=>[(17,.bo j4)]) (fun _=>[]) (fun j4 hr=>?_) (fun j4 hr=>?_)
 .refine bx tk 5 21 hr (fun c5 hr=>?_) fun c5 hr=>?_
  .exact jx tk 6 hr
  exact jx tk 6 hr
 refine ax tk 0 17 hr (fun hr=>?_) fun hr=>?_
 .refine clx tk 2 hr (zea _ _) fun v7 _ hr=>?_
  exact kx tk 6 hr
 refine rn tk 1 rfl ?_;obtain ⟨v9,h10,hr⟩:=zaa hr;refine mdq tk 0 [(2,.agg (zN1 v9)),(3,.bo ((!(wna [(a0.Verb==v9.Verb),(a0.Name==v9.Name),(a0.Address==v9.Address),(a0.Size==v9.Size),(a0.Notify==v9.Notify),(a0.Last==v9.Last)]))))] [1,2,3,27] (.cons rfl rfl (t0 (zVa (Ypa a0 v9 h10) rfl)) (.cons rfl rfl (t0 (kua (Vca rfl rfl QYa Y0a (.int rfl (by decide) kQa (.str rfl (by decide) zGa (.str rfl (by decide) zGa (.int rfl (by decide) kQa (.int rfl (by decide) kQa (.bool rfl (by decide) WAa .nil))))))))) .nil)) ?_ mixed;refine ax tk 1 27 hr (fun hr=>?_) fun hr=>?_
 .refine clx tk 2 hr (zea _ _) fun v12 _ hr=>?_
  exact kx tk 6 hr
 refine jq tk 0 hr [1,2,3] [2,1] (fun j14=>[(33,.bo j14)]) (fun _=>[]) (fun j14 hr=>?_) (fun j14 hr=>?_)
 .refine bx tk 5 37 hr (fun c15 hr=>?_) fun c15 hr=>?_
  .refine rn tk 2 rfl ?_;obtain ⟨v16,h17,hr⟩:=zaa hr;refine ug rfl rfl rfl<|cl (yHa _ _ h17) rfl rfl ?_;exact jx tk 4 hr
  exact jx tk 7 hr
 refine ax tk 0 33 hr (fun hr=>?_) fun hr=>?_
 .refine clx tk 2 hr (zea _ _) fun v19 _ hr=>?_
  exact kx tk 6 hr
 refine jq tk 0 hr [1,2] [2,1] (fun j21=>[(44,.bo j21)]) (fun _=>[]) (fun j21 hr=>?_) (fun j21 hr=>?_)
 .refine bx tk 3 46 hr (fun c22 hr=>?_) fun c22 hr=>?_
  .refine rn tk 2 rfl ?_;obtain ⟨v23,h24,hr⟩:=zaa hr;refine ug rfl rfl rfl<|cl (qoa _ _ h24) rfl rfl ?_;exact jx tk 4 hr
  exact jx tk 7 hr
 refine ax tk 0 44 hr (fun hr=>?_) fun hr=>?_
 .refine clx tk 2 hr (zea _ _) fun v26 _ hr=>?_
  exact kx tk 6 hr
 refine jq tk 0 hr [1,2] [2,1] (fun j28=>[(53,.bo j28)]) (fun _=>[]) (fun j28 hr=>?_) (fun j28 hr=>?_)
 .refine bx tk 5 57 hr (fun c29 hr=>?_) fun c29 hr=>?_
  .exact jx tk 6 hr
  exact jx tk 6 hr
 refine ax tk 0 53 hr (fun hr=>?_) fun hr=>?_
 .refine clx tk 2 hr (zea _ _) fun v31 _ hr=>?_
  exact kx tk 6 hr
 refine clx tk 4 hr (wJa _) fun v33 _ hr=>?_
 refine ax tk 4 63 hr (fun hr=>?_) fun hr=>?_
 .refine clx tk 2 hr (zea _ _) fun v36 _ hr=>?_
  exact kx tk 6 hr
 refine clx tk 5 hr zya fun v38 _ hr=>?_
 exact kx tk 4 hr
theorem VPb{g:G}{w' :World}(h:Below g.w.heap.size g.w w'):Old (fun _=>False) g ⟨w',g.u,g.loc⟩:=
 ⟨h.os,h.tape,h.output,⟨h.size,fun _ _=>jAn _,fun k i hk _=>by simp only[World.cell?];rw[h.block k hk],fun r hr=>(h.block r (zUa hr)).trans hr⟩,fun k hk _=>⟨h.block k hk,rfl⟩⟩
theorem str_argJ{g:G}{s:Str}{v:Value}(h:Rel g (.s s) v):v=.string (strB s):=z6a h
theorem VQb{g:G}{l:List Str}{v:Value}(h:Rel g (.l cS l) v):∃ad cap,v=.slice ad l.length cap/\l.length<=cap/\(l≠ []->∃b off,ad=some ⟨b,off,none⟩/\b < g.w.heap.size/\∀(i:Nat) s,l[i]? =some s->g.w.cell? ⟨b,off+i,none⟩=some (.string (strB s))):=by
 cases h with
 | pv h=>
  generalize hE:l.map cS=elems at h;have hEl:elems.length=l.length:=by rw[<-hE];simp
  unfold pL at h;rw[hE]at h;cases h with
  | @sl _ _ a cap size b off val hn h0 hc hz ha hu hcell h=>
   refine ⟨a,cap,by rw[hEl],by omega,fun hne=>?_⟩;have hne' :elems≠ []:=by rw[<-hE];simpa using hne
   refine ⟨b,off,ha hne',(hu hne').2,fun i s hi=>?_⟩;have hget:elems[i]? =some (cS s):=by rw[<-hE];simp[hi]
   have hs1:size=1:=by
    have:=hz _ (jAi hget);simpa[cS]using this.symm
   subst hs1;have hlt:i < elems.length:=(jAd.1 hget).1;rw[hcell i (by omega)];have:=h i 0 _ (.b (.string (strB s))) hget rfl;simp only[jDm,jCy]at this;have e:=z6a (g:=g) (.pv this);rw[e]
theorem Yqa(l:List Str)(s:Str)(r:Str)(hr:v1a l s=some r):Run prog 264 [.l cS l,.s s] (.s r):=by
 unfold v1a at hr;split at hr
 case isFalse=>cases hr
 rename_i hlen;cases hr;refine ⟨⟨_,_,⟨func264,rfl,by kernel_rfl⟩⟩,fun g vs hw hg ha=>?_⟩;obtain ⟨hsz,hrel⟩:=ha;obtain ⟨vl⟩:=vs
 match vl,hsz with
 | [x,y],_=>
  have h0:Rel g (.l cS l) x:=hrel 0 _ rfl;obtain rfl:=str_argJ (hrel 1 _ rfl);obtain ⟨ad,cap,rfl,hcap,hcell⟩:=VQb h0;refine callsIn_wide.2 ?_
  suffices hs:Calls prog 264 #[.slice ad l.length cap,.string (strB s)] g.w fun e w' =>e=.returned (.string (strB (Lib.join l s)))/\Below g.w.heap.size g.w w' by
   refine hs.mono ?_;rintro e w' ⟨rfl,hb⟩;exact ⟨⟨w',g.u,g.loc⟩,_,rfl,rfl,VPb hb,fun k hk=>hw k (jBp hb.size hk),rfl,.pv (.b rfl)⟩
  cases l with
  | nil=>exact (Tryz.strings_Join_none ad cap (strB s) g.w).mono fun e w' ⟨he,hw⟩=>⟨he,hw▸Below.refl _ _⟩
  | cons a l=>
   obtain ⟨b,off,rfl,hb,hc⟩:=hcell (by simp);have e1:((a::l).map strB).map (·.data.toList)=a::l:=by
    rw[jEe]
    conv=>rhs;rw[<-List.map_id (a::l)]
    exact jDf fun x _=>rfl
   have:=Tryz.strings_Join b off cap ((a::l).map strB) (strB s) g.w (fun j x hx=>by
    simp only[jAk,jAg]at hx;obtain ⟨y,hy,rfl⟩:=hx;exact hc j y hy) hb (by rw[jBd];exact hlen.1) (by rw[jBd];exact hcap) (by rw[e1];exact hlen.2)
   rw[e1,jBd]at this;exact this
theorem Kwa(r:zla × zla × zla)(hr:vPa=some r):Run prog 263 [] (.agg [.i r.1.n,.s r.1.word,.i r.2.1.n,.s r.2.1.word,.i r.2.2.n,.s r.2.2.word]):=by
 unfold vPa at hr;refine rfx (fn:=f263) func263 fun g0 hg=>?_
 refine rn tk 10 rfl<|wq (qWb (cs:=[.i 1,.s (([102,97,105,108,117,114,101]:Str)),.i 2,.s (([100,101,108,97,121]:Str)),.i 4,.s (([115,117,99,99,101,115,115]:Str))]) vta wka (.inr ⟨rfl,rfl⟩) (by kernel_rfl)) rfl rfl rfl ?_;exact kx tk 4 hr
theorem Zfa(a0:Int)(r:Str)(hr:vIa a0=some r):Run prog 234 [.i a0] (.s r):=by
 unfold vIa at hr;refine rfx (fn:=Tryz.f234) func234 fun g0 hg=>?_
 refine rn tk 8 rfl ?_;refine yva 1003 (d:=3) 9 1 rfl rfl rfl (hO ?_);refine clx tk 5 hr Kwa fun v1 _ hr=>?_
 refine aq1 tk 4 hr [0,3,6] [] (fun s3=>[(7,.i s3.1)]) (fun s3=>[(1003,.row 9 false 1 (List.map cS s3.2))]) (.exit 0) [3] [] (fun _=>[]) (fun b4=>[(1003,.row 9 false 1 (List.map cS b4))]) (fun s3 x5 hr=>?_) (fun b4 hr=>?_)
 .unfold yza at hr;refine ax tk 6 8 hr (fun hr=>?_) fun hr=>?_
  .refine jq tk 2 hr [0,3,6,7] [] (fun _=>[]) (fun j7=>[(1003,.row 9 false 1 (List.map cS j7))]) (fun j7 hr=>?_) (fun j7 hr=>?_)
   .refine rn tk 3 rfl ?_;obtain ⟨v8,h9,hr⟩:=zaa hr;refine wq (ev_aidxN (f:=zla.pc) (L:=([v1.1,v1.2.1,v1.2.2]:List zla)) rfl rfl vta wka rfl rfl (fun _=>rfl) h9) rfl rfl rfl<|rn tk 9 rfl<|wq (ev_iand rfl rfl) rfl rfl rfl ?_;refine ax tk 3 14 hr (fun hr=>?_) fun hr=>?_
    .refine rn tk 4 rfl<|wz cS ([v8.word]:List Str) tk rfl rfl (fun _=>rfl) rfl rfl rfl ?_;obtain ⟨v11,h12,hr⟩:=zaa hr;refine wa tk h12 rfl rfl rfl rfl (fun _=>rfl) rfl rfl ?_;exact jx tk 3 hr
    exact jx tk 2 hr
   exact cx tk 4 hr
  exact ox tk 2 hr
 refine rn tk 6 rfl<|wnh tk rfl rfl rfl rfl ?_;refine ax tk 3 23 hr (fun hr=>?_) fun hr=>?_
 .exact kx tk 7 hr
 refine rn tk 5 rfl ?_;refine Yza (d:=24) (F:=cS) (l:=b4) rfl rfl (hO ?_);refine clx tk 0 hr (Yqa _ _) fun v14 _ hr=>?_
 exact kx tk 4 hr
theorem ZUa(r:Str × Str × Str × Str × Str × Str × Str × Str)(hr:w6a=some r):Run prog 161 [] (.agg [.s r.1,.s r.2.1,.s r.2.2.1,.s r.2.2.2.1,.s r.2.2.2.2.1,.s r.2.2.2.2.2.1,.s r.2.2.2.2.2.2.1,.s r.2.2.2.2.2.2.2]):=by
 unfold w6a at hr;refine rfx (fn:=f161) func161 fun g0 hg=>?_
 refine rn tk 7 rfl<|wq (qWb (cs:=[.s (([104,101,108,108,111]:Str)),.s (([109,97,105,108]:Str)),.s (([114,99,112,116]:Str)),.s (([100,97,116,97]:Str)),.s (([99,104,117,110,107]:Str)),.s (([114,101,115,101,116]:Str)),.s (([110,111,111,112]:Str)),.s (([113,117,105,116]:Str))]) j9a zGa (.inr ⟨rfl,rfl⟩) (by kernel_rfl)) rfl rfl rfl ?_;exact kx tk 4 hr
theorem WRa(a0:zfa)(r:Str × zqa)(hr:w7a a0=some r):Run prog 215 [.agg (zN1 a0)] (.tup [.s r.1,.agg [.i r.2.Code,.i r.2.Index]]):=by
 unfold w7a at hr;refine rfx (fn:=f215) func215 fun g0 hg=>?_
 refine clx tk 11 hr (jda _) fun v1 _ hr=>?_
 refine clx tk 7 hr (zwa _) fun v3 _ hr=>?_
 refine ax tk 2 9 hr (fun hr=>?_) fun hr=>?_
 .refine mdq tk 1 [] [2,3] .nil ?_ mixed;exact kx tk 3 hr
 refine rn tk 3 rfl ?_;obtain ⟨v6,h7,hr⟩:=zaa hr;obtain ⟨v8,h9,hr⟩:=zaa hr;refine mdq tk 0 [(0,.agg [.s v6.1,.s v6.2.1,.s v6.2.2.1,.s v6.2.2.2.1,.s v6.2.2.2.2.1,.s v6.2.2.2.2.2.1,.s v6.2.2.2.2.2.2.1,.s v6.2.2.2.2.2.2.2]),(4,.s v8)] [1,3,5] (.cons rfl rfl (t0 (zVa (ZUa v6 h7) rfl)) (.cons rfl rfl (t0 (kua (KRb (f:=cS) (L:=([v6.1,v6.2.1,v6.2.2.1,v6.2.2.2.1,v6.2.2.2.2.1,v6.2.2.2.2.2.1,v6.2.2.2.2.2.2.1,v6.2.2.2.2.2.2.2]:List Str)) rfl rfl j9a zGa rfl rfl (fun _=>rfl) h9 rfl))) .nil)) ?_ mixed;refine jq tk 1 hr [3] [3] (fun j10=>[(5,.s j10)]) (fun _=>[]) (fun j10 hr=>?_) (fun j10 hr=>?_)
 .refine ax tk 13 18 hr (fun hr=>?_) fun hr=>?_
  .refine rn tk 4 rfl ?_;obtain ⟨v12,h13,hr⟩:=zaa hr;refine wc h13 rfl rfl rfl ?_;obtain ⟨v14,h15,hr⟩:=zaa hr;refine wc h15 rfl rfl rfl ?_;exact jx tk 3 hr
  refine ax tk 6 25 hr (fun hr=>?_) fun hr=>?_
  .refine rn tk 5 rfl ?_;obtain ⟨v17,h18,hr⟩:=zaa hr;refine wc h18 rfl rfl rfl ?_;obtain ⟨v19,h20,hr⟩:=zaa hr;refine wc h20 rfl rfl rfl ?_;obtain ⟨v21,h22,hr⟩:=zaa hr;refine wc h22 rfl rfl rfl ?_;refine ax tk 10 35 hr (fun hr=>?_) fun hr=>?_
   .refine clx tk 4 hr (qla _) fun v24 _ hr=>?_
    obtain ⟨v26,h27,hr⟩:=zaa hr;refine wc h27 rfl rfl rfl ?_;obtain ⟨v28,h29,hr⟩:=zaa hr;refine wc h29 rfl rfl rfl ?_;exact jx tk 3 hr
   exact jx tk 2 hr
  refine ax tk 6 42 hr (fun hr=>?_) fun hr=>?_
  .refine rn tk 5 rfl ?_;obtain ⟨v31,h32,hr⟩:=zaa hr;refine wc h32 rfl rfl rfl ?_;obtain ⟨v33,h34,hr⟩:=zaa hr;refine wc h34 rfl rfl rfl ?_;obtain ⟨v35,h36,hr⟩:=zaa hr;refine wc h36 rfl rfl rfl ?_;refine ax tk 10 52 hr (fun hr=>?_) fun hr=>?_
   .refine clx tk 4 hr (Zfa _) fun v38 _ hr=>?_
    obtain ⟨v40,h41,hr⟩:=zaa hr;refine wc h41 rfl rfl rfl ?_;obtain ⟨v42,h43,hr⟩:=zaa hr;refine wc h43 rfl rfl rfl ?_;exact jx tk 3 hr
   exact jx tk 2 hr
  refine ax tk 6 59 hr (fun hr=>?_) fun hr=>?_
  .refine clx tk 5 hr (qla _) fun v45 _ hr=>?_
   obtain ⟨v47,h48,hr⟩:=zaa hr;refine wc h48 rfl rfl rfl ?_;obtain ⟨v49,h50,hr⟩:=zaa hr;refine wc h50 rfl rfl rfl ?_;refine ax tk 9 68 hr (fun hr=>?_) fun hr=>?_
   .refine rn tk 2 rfl ?_;obtain ⟨v52,h53,hr⟩:=zaa hr;refine wc h53 rfl rfl rfl ?_;exact jx tk 3 hr
   exact jx tk 2 hr
  exact jx tk 2 hr
 refine clx tk 3 hr zya fun v54 _ hr=>?_
 exact kx tk 5 hr
theorem kia(a0:zca)(a1:zfa)(r:zca)(hr:zza a0 a1=some r):RunS prog 185 [.ptr 90000000 0,.agg (zN1 a1)] (zca.sto a0) (.tup []) (zca.sto r) 90000000 [90000012,90000015]:=by
 unfold zza at hr;refine rfS (fn:=Tryz.f185) (H:=90000999) (.ptr 90000000 0) ⟨func185,rfl,by kernel_rfl⟩ rfl (hasT rfl) (.inl ⟨rfl,rfl⟩) rfl rfl rfl rfl fun g0 hg S sg T=>?_
 refine clx tk 8 hr (WRa _) fun v1 _ hr=>?_
 refine rn tk 15 rfl ?_;obtain ⟨v3,h4,hr⟩:=zaa hr;refine wo (yJa (k:=17) (l:=a0.out) (s:=v1.1) (lim:=140737488355328) rfl rfl rfl rfl zja zGa.u zCa rfl h4) rfl<|wz cU ([(13:UInt8),(10:UInt8)]:List UInt8) tk rfl rfl (fun _=>rfl) rfl rfl rfl ?_;obtain ⟨v5,h6,hr⟩:=zaa hr;refine wa tk h6 rfl rfl rfl rfl (fun _=>rfl) rfl rfl ?_;exact sxx tk 4 hr
theorem kHa(a0:zca)(a1:Int)(r:zca)(hr:zEa a0 a1=some r):RunS prog 147 [.ptr 90000000 0,.i a1] (zca.sto a0) (.tup []) (zca.sto r) 90000000 [90000012,90000015]:=by
 unfold zEa at hr;refine rfS (fn:=f147) (H:=90000999) (.ptr 90000000 0) ⟨func147,rfl,by kernel_rfl⟩ rfl (hasT rfl) (.inl ⟨rfl,rfl⟩) rfl rfl rfl rfl fun g0 hg S sg T=>?_
 refine csx tk 4 hr (yia a0 a1) fun v1 _ hr=>?_
 refine csx tk 6 hr (kia _ _) fun v3 _ hr=>?_
 exact sxx tk 9 hr
theorem Vwa(a0:List UInt8)(a1:List UInt8)(r:Bool)(hr:qya a0 a1=some r):Run prog 218 [.l cU a0,.l cU a1] (.bo r):=by
 unfold qya at hr;refine rfx (fn:=f218) func218 fun g0 hg=>?_
 refine jq tk 5 hr [] [] (fun j1=>[(4,.bo j1)]) (fun _=>[]) (fun j1 hr=>?_) (fun j1 hr=>?_)
 .refine rn tk 2 rfl<|wn tk rfl rfl rfl<|rn tk 1 rfl<|wn tk rfl rfl rfl ?_;refine bx tk 2 10 hr (fun c2 hr=>?_) fun c2 hr=>?_
  .refine rn tk 2 rfl<|ug rfl rfl rfl<|wn tk rfl rfl rfl ?_;obtain ⟨v3,h4,hr⟩:=zaa hr;refine ug rfl rfl rfl<|wlH tk h4 rfl rfl rfl (fun _=>rfl) rfl<|rn tk 1 rfl ?_;obtain ⟨v5,h6,hr⟩:=zaa hr;refine ug rfl rfl rfl<|cl (K9a _ _ _ h6) rfl rfl ?_;exact jx tk 3 hr
  exact jx tk 9 hr
 exact kx tk 1 hr
theorem JRa(a0:List UInt8)(r:(List UInt8) × zqa)(hr:wGa a0=some r):Run prog 188 [.l cU a0] (.tup [.l cU r.1,.agg [.i r.2.Code,.i r.2.Index]]):=by
 unfold wGa at hr;refine rfx (fn:=f188) func188 fun g0 hg=>?_
 refine rn tk 10 rfl<|wn tk rfl rfl rfl ?_;refine ax tk 3 8 hr (fun hr=>?_) fun hr=>?_
 .refine clx tk 2 hr (zea _ _) fun v2 _ hr=>?_
  exact kx tk 6 hr
 refine jq tk 3 hr [0,3] [3] (fun j4=>[(19,.bo j4)]) (fun _=>[]) (fun j4 hr=>?_) (fun j4 hr=>?_)
 .refine rn tk 2 rfl<|wn tk rfl rfl rfl ?_;refine bx tk 2 13 hr (fun c5 hr=>?_) fun c5 hr=>?_
  .refine rn tk 1 rfl ?_;refine vqa rfl (jea (F:=cU) (l:=([(13:UInt8),(10:UInt8)]:List UInt8)) zja zCa rfl (fun _=>rfl) rfl rfl) zja zCa (Zza (d:=13) rfl rfl rfl rfl) (Zza (d:=13) rfl rfl rfl rfl) rfl (hO ?_);obtain ⟨v6,h7,hr⟩:=zaa hr;refine ug rfl rfl rfl<|cl (vAa _ _ _ h7) rfl rfl ?_;exact jx tk 3 hr
  exact jx tk 7 hr
 refine ax tk 0 19 hr (fun hr=>?_) fun hr=>?_
 .refine clx tk 2 hr (zea _ _) fun v9 _ hr=>?_
  exact kx tk 6 hr
 refine rn tk 5 rfl ?_;refine kJa 1004 (o:=4) (j:=0) 5 1 rfl rfl rfl rfl (hO ?_);refine iq tk 6 900000 [3,4] (fn:=Tryz.f217) ⟨func217,rfl,by kernel_rfl⟩ fun T9 ds9=>?_
 refine ieq tk 13 (hO ?_);refine rn tk 3 rfl ?_;refine j3b (fn0:=Tryz.f244) 1000000 1099998 1099999 [(3,.ptr 3 0),(4,.ptr 4 0),(22,.fn (.func 244) [] [.ptr 1 0])] rfl rfl rfl ⟨func244,rfl,by kernel_rfl⟩ rfl rfl rfl rfl rfl (.cons rfl (.cons rfl (.cons rfl .nil))) fun T10 rb10 L10 ds10 hT10 hLs10 hLp10 hLt10 hLq10 hLa10 hLb10=>hB mono_itr ?_
 refine aq1 tk 6 hr [0,1] [1099999,1099998,1000003,1000004,1000022,1,4,3] (fun s11=>[(3,.i s11.1)]) (fun s11=>[(1004,.row 5 false 1 (List.map cU s11.2))]) .ret [] [1099999,1099998,1000003,1000004,1000022,1,4,3] (fun _=>[]) (fun b12=>[(1004,.row 5 false 1 (List.map cU b12))]) (fun s11 x13 hr=>?_) (fun b12 hr=>?_)
 .unfold qXa at hr;refine rn tk 5 rfl ?_;obtain ⟨v14,h15,hr⟩:=zaa hr;refine wlL tk h15 rfl rfl rfl (fun _=>rfl) rfl ?_;refine vqa rfl (jea (F:=cU) (l:=([(13:UInt8),(10:UInt8)]:List UInt8)) zja zCa rfl (fun _=>rfl) rfl rfl) zja zCa (kCa rfl) (kCa rfl) rfl (hO ?_);refine clx tk 0 hr (jUa _ _) fun v16 _ hr=>?_
  refine jq tk 4 hr [0,1,3,4] [1099999,1099998,1000003,1000004,1000022,1,4,3] (fun j18=>[(27,.bo j18.1)]) (fun j18=>[(1004,.row 5 false 1 (List.map cU j18.2))]) (fun j18 hr=>?_) (fun j18 hr=>?_)
  .refine bx tk 4 13 hr (fun c19 hr=>?_) fun c19 hr=>?_
   .exact jx tk 15 hr
   refine rn tk 6 rfl ?_;obtain ⟨v20,h21,hr⟩:=zaa hr;refine ug rfl rfl rfl<|wlLH tk h21 rfl rfl rfl rfl (fun _=>rfl) rfl<|rn tk 4 rfl ?_;refine wJb (ps:=[23,24]) (args:=[.l cU v20,.i ((w64 ((w64 (s11.1+v16))+2)))]) 1000000 1600000 1099998 1699999 [(3,.ptr 3 0),(4,.ptr 4 0),(22,.fn (.func 244) [] [.ptr 1 0])] [(0,.fn (.yield rb10) [] []),(1,.ptr 1 0),(3,.i s11.1),(4,.i v16),(13,.bo false),(14,.fn (.yield rb10) [] []),(15,.l cU a0),(16,.i s11.1),(17,.i s11.1),(18,.i v16),(19,.i ((w64 (s11.1+v16)))),(20,.l cU v20),(21,.i s11.1),(22,.i v16),(23,.i ((w64 (s11.1+v16)))),(24,.i ((w64 ((w64 (s11.1+v16))+2))))] (Zza (d:=13) rfl rfl rfl rfl) rfl rfl hLs10 hLp10 hLt10 hLq10 hLa10 hLb10 hT10 rfl rfl rfl rfl (.cons rfl (.cons rfl (.cons rfl (.cons rfl (.cons rfl (.cons rfl (.cons rfl (.cons rfl (.cons rfl (.cons rfl (.cons rfl (.cons rfl (.cons rfl (.cons rfl (.cons rfl (.cons rfl .nil)))))))))))))))) (.cons rfl (.cons rfl (.cons rfl .nil))) fun T16 ds16 hT16=>hB mono_asg ?_
   refine rn tk 3 rfl ?_;refine asgK vTa Qka rfl (hB mono_rnd ?_);refine jq tk 1 hr [4,5] [1699999,1600000,1600001,1600003,1600004,1600013,1600014,1600015,1600016,1600017,1600018,1600020,1600021,1600022,1099999,1099998,1000003,1000004,1000022,1,4,3] (fun _=>[]) (fun j22=>[(1004,.row 5 false 1 (List.map cU j22))]) (fun j22 hr=>?_) (fun j22 hr=>?_)
   .refine rn tk 3 rfl ?_;refine vqa rfl (jea (F:=cU) (l:=([(46:UInt8)]:List UInt8)) zja zCa rfl (fun _=>rfl) rfl rfl) zja zCa (kCa rfl) (kCa rfl) rfl (hO ?_);refine clx tk 0 hr (Vwa _ _) fun v23 _ hr=>?_
    refine ax tk 2 28 hr (fun hr=>?_) fun hr=>?_
    .refine rn tk 2 rfl<|wz cU ([(46:UInt8)]:List UInt8) tk rfl rfl (fun _=>rfl) rfl rfl rfl ?_;obtain ⟨v26,h27,hr⟩:=zaa hr;refine wa tk h27 rfl rfl rfl rfl (fun _=>rfl) rfl rfl ?_;exact jx tk 2 hr
    exact jx tk 1 hr
   refine rn tk 3 rfl ?_;obtain ⟨v28,h29,hr⟩:=zaa hr;refine wa tk h29 rfl rfl rfl rfl (fun _=>rfl) rfl rfl ?_;obtain ⟨v30,h31,hr⟩:=zaa hr;refine wo (yJa (k:=35) (l:=v28) (s:=(([13,10]:Str))) (lim:=140737488355328) rfl rfl rfl rfl zja zGa.u zCa rfl h31) rfl<|rn tk 3 rfl ?_;refine rndK (fr' :=[]) (fr'' :=[(0,.fn (.yield rb10) [] []),(1,.ptr 1 0),(3,.i s11.1),(4,.i v16),(13,.bo false),(14,.fn (.yield rb10) [] []),(15,.l cU a0),(16,.i s11.1),(17,.i s11.1),(18,.i v16),(20,.l cU v20),(21,.i s11.1),(22,.i v16)]) (σ'' :=[(1099999,.sus g0.w.heap.size ds10),(1099998,.lp rb10 L10),(1000003,.hold (.ptr 3 0) (T10.getD 3 undef)),(1000004,.hold (.ptr 4 0) (T10.getD 4 undef)),(1000022,.hold (.fn (.func 244) [] [.ptr 1 0]) (T10.getD 22 undef)),(1,.cells [.l cU a0]),(1004,.row 5 false 1 (List.map cU v30)),(4,.cells [.hs 1004 0]),(3,.cells [.i 0,.i 0])]) .off Qka rfl (.cons rfl (.cons rfl (.cons rfl (.cons rfl (.cons rfl (.cons rfl (.cons rfl (.cons rfl (.cons rfl (.cons rfl (.cons rfl (.cons rfl (.cons rfl .nil))))))))))))) rfl (z0a rfl (z0a rfl (z0a rfl (z0a rfl (z0a rfl (z0a rfl (z0a rfl (z0a rfl (z0a rfl Zua))))))))) (hO ?_);exact jx tk 3 hr
  refine ax tk 0 27 hr (fun hr=>?_) fun hr=>?_
  .exact ox tk 3 hr
  exact cx tk 10 hr
 refine rn tk 1 rfl ?_;refine itrK (fr' :=[]) (L' :=L10) (fr'' :=[(3,.ptr 3 0),(4,.ptr 4 0),(22,.fn (.func 244) [] [.ptr 1 0])]) (σ'' :=[(1,.cells [.l cU a0]),(1004,.row 5 false 1 (List.map cU b12)),(4,.cells [.hs 1004 0]),(3,.cells [.i 0,.i 0])]) (.inl rfl) Qka rfl (.cons rfl (.cons rfl (.cons rfl .nil))) rfl (z0a rfl (z0a rfl (z0a rfl (z0a rfl Zua)))) rfl<|.off (hA ?_);refine rn tk 5 rfl ?_;obtain ⟨v33,h34,hr⟩:=zaa hr;refine wo (yJa (k:=37) (l:=b12) (s:=(([46,13,10]:Str))) (lim:=140737488355328) rfl rfl rfl rfl zja zGa.u zCa rfl h34) rfl ?_;refine clx tk 0 hr zya fun v35 _ hr=>?_
 refine rn tk 4 rfl ?_;refine qTa (d:=2) (F:=cU) (l:=v33) rfl rfl (hC ?_);exact kx tk 1 hr
theorem ZVa(a0:zca)(a1:Int)(r:zca)(hr:q8a a0 a1=some r):RunS prog 151 [.ptr 90000000 0,.i a1] (zca.sto a0) (.tup []) (zca.sto r) 90000000 [90000012,90000015]:=by
 unfold q8a at hr;refine rfS (fn:=Tryz.f151) (H:=90000999) (.ptr 90000000 0) ⟨func151,rfl,by kernel_rfl⟩ rfl (hasT rfl) (.inl ⟨rfl,rfl⟩) rfl rfl rfl rfl fun g0 hg S sg T=>?_
 refine ax tk 8 36 hr (fun hr=>?_) fun hr=>?_
 .refine clx tk 3 hr (vRa _) fun v2 _ hr=>?_
  refine csx tk 0 hr (kHa a0 v2) fun v4 _ hr=>?_
  exact sxx tk 2 hr
 refine csx tk 3 hr (yka a0) fun v6 _ hr=>?_
 refine ax tk 3 43 hr (fun hr=>?_) fun hr=>?_
 .exact sxx tk 8 hr
 refine clx tk 6 hr (JRa _) fun v9 _ hr=>?_
 refine rn tk 16 rfl ?_;obtain ⟨v11,h12,hr⟩:=zaa hr;refine wa tk h12 rfl rfl rfl rfl (fun _=>rfl) rfl rfl ?_;exact sxx tk 27 hr
theorem vCa(a0:zca)(r:Int × zca)(hr:kaa a0=some r):RunS prog 146 [.ptr 90000000 0] (zca.sto a0) (.i r.1) (zca.sto r.2) 90000000 [90000012,90000015]:=by
 unfold kaa at hr;refine rfS (fn:=f146) (H:=90000999) (.ptr 90000000 0) ⟨func146,rfl,by kernel_rfl⟩ rfl (hasT rfl) (.inl ⟨rfl,rfl⟩) rfl rfl rfl rfl fun g0 hg S sg T=>?_
 refine rn tk 14 rfl<|wn tk rfl rfl rfl ?_;exact sxx tk 4 hr
theorem wha(a0:zca)(a1:Int)(r:zca)(hr:zJa a0 a1=some r):RunS prog 186 [.ptr 90000000 0,.i a1] (zca.sto a0) (.tup []) (zca.sto r) 90000000 [90000012,90000015]:=by
 unfold zJa at hr;refine rfS (fn:=f186) (H:=90000999) (.ptr 90000000 0) ⟨func186,rfl,by kernel_rfl⟩ rfl (hasT rfl) (.inl ⟨rfl,rfl⟩) rfl rfl rfl rfl fun g0 hg S sg T=>?_
 refine ax tk 20 15 hr (fun hr=>?_) fun hr=>?_
 .refine csx tk 8 hr (kia _ _) fun v2 _ hr=>?_
  exact sxx tk 2 hr
 refine ax tk 7 26 hr (fun hr=>?_) fun hr=>?_
 .refine dq tk 0 9 [] [(7,.i ((a0.content.length:Int)))] .nil (.cons rfl rfl (kua (yua (f:=cU) rfl zja.u)) .nil) ?_ mixed;refine csx tk 0 hr (kia _ _) fun v5 _ hr=>?_
  exact sxx tk 2 hr
 refine csx tk 4 hr (vCa a0) fun v7 _ hr=>?_
 refine ax tk 5 39 hr (fun hr=>?_) fun hr=>?_
 .refine rn tk 6 rfl ?_;obtain ⟨v10,h11,hr⟩:=zaa hr;refine wi tk h11 rfl rfl rfl rfl rfl ?_;refine csx tk 12 hr (kia _ _) fun v12 _ hr=>?_
  exact sxx tk 2 hr
 refine ax tk 9 58 hr (fun hr=>?_) fun hr=>?_
 .refine rn tk 7 rfl<|wn tk rfl rfl rfl ?_;refine csx tk 1 hr (kia _ _) fun v15 _ hr=>?_
  refine rn tk 3 rfl ?_;obtain ⟨v17,h18,hr⟩:=zaa hr;refine mh tk 0 [] [(4,fun f s=>((75,.hs 90000015 0)::f,s)),(9,fun f s=>((80,.hs 90000015 0)::Fr.clrs [90000015] f,(Sto.upd (Sto.clr 90000015 s) 90000015 (.row 5 false 1 (List.map cU v17))))),(12,fun f s=>(f,(Sto.upd s 90000000 (.cells [.s v15.Client.Name,.s v15.Client.Mail.Envelope.From,.l zba.pc v15.Client.Mail.Envelope.To,.s v15.Client.Mail.Envelope.Id,.l zga.pc v15.Client.Mail.Message.Fields,.l cU v15.Client.Mail.Message.Body,.bo v15.Client.Pipelined,.l cU v15.Client.Buffer,.i v15.Client.Expected,.bo v15.Client.Whole,.bo v15.Client.Done,.hs 90000012 0,.l cU v15.content,.bo v15.chunk,.hs 90000015 0]))))] [[],[4],[4,9],[4,9,12]] ?_ mixed;refine .cons (mnq tk [4] (.cons (mdtq 1 (hv_g rfl rfl (mqz tk rfl))) .nil)) (.cons (mnq tk [9] (.cons (mdtq 2 (jva (F:=cU) (l:=v15.out) (xs:=v15.content) (lim:=140737488355328) rfl rfl rfl rfl zja zCa rfl rfl (fun _=>rfl) rfl h18)) .nil)) (.cons (mnq tk [12] (.cons (mstq 3 (qba rfl rfl rfl zja rfl rfl)) .nil)) (.cons (mfq tk [] [0] .nil (hA ?_)) .nil)));exact sxx tk 9 hr
 refine csx tk 3 hr (kia _ _) fun v19 _ hr=>?_
 exact sxx tk 2 hr
theorem wCa(a0:zca)(r:zca)(hr:kba a0=some r):RunS prog 149 [.ptr 90000000 0] (zca.sto a0) (.tup []) (zca.sto r) 90000000 [90000012,90000015]:=by
 unfold kba at hr;refine rfS (fn:=f149) (H:=90000999) (.ptr 90000000 0) ⟨func149,rfl,by kernel_rfl⟩ rfl (hasT rfl) (.inl ⟨rfl,rfl⟩) rfl rfl rfl rfl fun g0 hg S sg T=>?_
 refine csx tk 17 hr (vCa _) fun v1 _ hr=>?_
 refine jq tk 4 hr [0] [90000999] (fun j3=>[(2,.i j3.1)]) (fun j3=>zca.sto j3.2) (fun j3 hr=>?_) (fun j3 hr=>?_)
 .refine jq tk 1 hr [0] [90000000,90000012,90000015,90000999] (fun j4=>[(2,.i j4.1),(16,.bo j4.2)]) (fun _=>[]) (fun j4 hr=>?_) (fun j4 hr=>?_)
  .refine bx tk 8 23 hr (fun c5 hr=>?_) fun c5 hr=>?_
   .exact jx tk 9 hr
   exact jx tk 9 hr
  refine ax tk 0 16 hr (fun hr=>?_) fun hr=>?_
  .refine csx tk 7 hr (wha v1.2 v1.2.Client.Expected) fun v7 _ hr=>?_
   exact jx tk 2 hr
  refine ax tk 11 38 hr (fun hr=>?_) fun hr=>?_
  .refine aq1 tk 6 hr [0,2] [90000999] (fun s10=>[(3,.i s10.1)]) (fun s10=>zca.sto s10.2) (.exit 1) [0,2] [90000999] (fun _=>[]) (fun b11=>zca.sto b11) (fun s10 x12 hr=>?_) (fun b11 hr=>?_)
   .unfold zTa at hr;refine ax tk 8 47 hr (fun hr=>?_) fun hr=>?_
    .refine csx tk 7 hr (wha s10.2 s10.1) fun v14 _ hr=>?_
     exact cx tk 8 hr
    exact ox tk 2 hr
   exact jx tk 2 hr
  exact jx tk 2 hr
 refine jq tk 0 hr [0] [90000000,90000012,90000015,90000999] (fun j16=>[(65,.bo j16)]) (fun _=>[]) (fun j16 hr=>?_) (fun j16 hr=>?_)
 .refine bx tk 9 60 hr (fun c17 hr=>?_) fun c17 hr=>?_
  .exact jx tk 6 hr
  exact jx tk 6 hr
 refine ax tk 0 65 hr (fun hr=>?_) fun hr=>?_
 .exact sxx tk 12 hr
 exact sxx tk 1 hr
theorem Q8a(a0:Int)(r:Bool)(hr:jna a0=some r):Run prog 99 [.i a0] (.bo r):=by
 unfold jna at hr;refine rfx (fn:=Tryz.f99) func99 fun g0 hg=>?_
 refine jq tk 5 hr [] [] (fun j1=>[(2,.bo j1)]) (fun _=>[]) (fun j1 hr=>?_) (fun j1 hr=>?_)
 .refine bx tk 4 5 hr (fun c2 hr=>?_) fun c2 hr=>?_
  .exact jx tk 5 hr
  exact jx tk 5 hr
 exact kx tk 1 hr
theorem Zga(a0:zra)(r:zqa)(hr:vHa a0=some r):Run prog 63 [.agg [.i a0.Code,.l cS a0.Lines]] (.agg [.i r.Code,.i r.Index]):=by
 unfold vHa at hr;refine rfx (fn:=f63) func63 fun g0 hg=>?_
 refine clx tk 11 hr (Q8a _) fun v1 _ hr=>?_
 refine ax tk 3 8 hr (fun hr=>?_) fun hr=>?_
 .refine clx tk 2 hr (zea _ _) fun v4 _ hr=>?_
  exact kx tk 5 hr
 refine jq tk 3 hr [1,2] [2,1] (fun j6=>[(19,.bo j6)]) (fun _=>[]) (fun j6 hr=>?_) (fun j6 hr=>?_)
 .refine rn tk 3 rfl<|wn tk rfl rfl rfl ?_;refine bx tk 2 14 hr (fun c7 hr=>?_) fun c7 hr=>?_
  .exact jx tk 6 hr
  refine rn tk 2 rfl<|ug rfl rfl rfl<|wn tk rfl rfl rfl ?_;exact jx tk 3 hr
 refine ax tk 0 19 hr (fun hr=>?_) fun hr=>?_
 .refine clx tk 2 hr (zea _ _) fun v9 _ hr=>?_
  exact kx tk 5 hr
 refine rn tk 7 rfl<|wn tk rfl rfl rfl ?_;refine aq2 tk 4 hr [2,22,23] [2] (fun s11=>[(24,.i s11)]) (fun _=>[]) (.exit 0) [2] [2] (fun _=>[]) (fun _=>[]) .ret [2] [] (fun _=>[]) (fun b13=>[(2,.cells [.i b13.Code,.i b13.Index])]) (fun s11 x15 hr=>?_) (fun b12 hr=>?_) (fun b13 hr=>?_)
 .unfold wfa at hr;refine ax tk 6 25 hr (fun hr=>?_) fun hr=>?_
  .refine rn tk 7 rfl ?_;obtain ⟨v17,h18,hr⟩:=zaa hr;refine wi tk h18 rfl rfl rfl rfl rfl ?_;refine ax tk 13 31 hr (fun hr=>?_) fun hr=>?_
   .refine clx tk 3 hr (zea _ _) fun v20 _ hr=>?_
    exact ox tk 7 hr
   refine clx tk 5 hr (qpa _ _) fun v22 _ hr=>?_
   refine ax tk 2 35 hr (fun hr=>?_) fun hr=>?_
   .refine clx tk 3 hr (zea _ _) fun v25 _ hr=>?_
    exact ox tk 6 hr
   exact cx tk 7 hr
  exact ox tk 2 hr
 .refine clx tk 4 hr zya fun v27 _ hr=>?_
  exact kx tk 4 hr
 exact kx tk 2 hr
theorem JSa(a0:zra)(r:Int × zqa)(hr:jAa a0=some r):Run prog 145 [.agg [.i a0.Code,.l cS a0.Lines]] (.tup [.i r.1,.agg [.i r.2.Code,.i r.2.Index]]):=by
 unfold jAa at hr;refine rfx (fn:=Tryz.f145) func145 fun g0 hg=>?_
 refine clx tk 11 hr (Zga _) fun v1 _ hr=>?_
 refine clx tk 7 hr (zwa _) fun v3 _ hr=>?_
 refine ax tk 2 8 hr (fun hr=>?_) fun hr=>?_
 .refine mdq tk 1 [] [2,3] .nil ?_ mixed;exact kx tk 3 hr
 refine rn tk 3 rfl ?_;obtain ⟨v6,h7,hr⟩:=zaa hr;refine mh tk 0 [(2,.i ((iQuo a0.Code 100))),(3,.agg [.i v6.Code,.i v6.Index])] [(5,fun f s=>(f,(Sto.upd s 3 (.cells [.i v6.Code,.i v6.Index]))))] [[],[5]] ?_ mixed;refine .cons (mnq tk [2,3,5] (.cons (mpu (kua (ev_iquo rfl rfl rfl))) (.cons (mpu (zVa (zya v6 h7) rfl)) (.cons (mstq 1 (qba rfl rfl rfl kPa rfl rfl)) .nil)))) (.cons (mfq tk [] [2,3] .nil (hA ?_)) .nil);exact kx tk 2 hr
theorem Kea(a0:zca)(a1:zra)(r:zca)(hr:k8a a0 a1=some r):RunS prog 107 [.ptr 90000000 0,.agg [.i a1.Code,.l cS a1.Lines]] (zca.sto a0) (.tup []) (zca.sto r) 90000000 [90000012,90000015]:=by
 unfold k8a at hr;refine rfS (fn:=f107) (H:=90000999) (.ptr 90000000 0) ⟨func107,rfl,by kernel_rfl⟩ rfl (hasT rfl) (.inl ⟨rfl,rfl⟩) rfl rfl rfl rfl fun g0 hg S sg T=>?_
 refine clx tk 8 hr (JSa _) fun v1 _ hr=>?_
 refine csx tk 11 hr (vCa a0) fun v3 _ hr=>?_
 refine ax tk 16 19 hr (fun hr=>?_) fun hr=>?_
 .refine ax tk 7 27 hr (fun hr=>?_) fun hr=>?_
  .refine clx tk 4 hr (vRa _) fun v7 _ hr=>?_
   refine csx tk 0 hr (kHa v3.2 v7) fun v9 _ hr=>?_
   exact sxx tk 5 hr
  refine csx tk 4 hr (wCa v3.2) fun v11 _ hr=>?_
  exact sxx tk 2 hr
 refine ax tk 12 34 hr (fun hr=>?_) fun hr=>?_
 .refine jq tk 0 hr [0] [90000999] (fun j14=>[(6,.i j14.1)]) (fun j14=>zca.sto j14.2) (fun j14 hr=>?_) (fun j14 hr=>?_)
  .refine ax tk 6 43 hr (fun hr=>?_) fun hr=>?_
   .obtain ⟨v16,h17,hr⟩:=zaa hr;obtain ⟨v18,h19,hr⟩:=zaa hr;obtain ⟨v20,h21,hr⟩:=zaa hr;refine mh tk 0 [(12,.i v16),(13,.hp 90000012 (Int.toNat ((w64 (v3.2.Client.Expected - 3)))) 0)] [(14,fun f s=>(f,(Sto.upd s 90000012 (.row 3 true 1 (List.map cI ((List.set v3.2.Client.Results (Int.toNat ((w64 (v3.2.Client.Expected - 3)))) v16)))))))] [[],[14]] ?_ mixed;refine .cons (mnq tk [12,13,14] (.cons (mpu (zVa (vRa v1.1 v16 h17) rfl)) (.cons (mpu (kua (krb (F:=cI) (l:=v3.2.Client.Results) (n:=((w64 (v3.2.Client.Expected - 3)))) rfl rfl rfl q3a kQa h19))) (.cons (mstq 1 (q1b (F:=cI) (l:=v3.2.Client.Results) (n:=((w64 (v3.2.Client.Expected - 3)))) (j:=0) (v:=v20) (v' :=v16) (pcs:=[pI v16]) rfl rfl rfl kQa rfl h21 rfl rfl)) .nil)))) (.cons (mfq tk [] [0,6] .nil (hA ?_)) .nil);exact jx tk 0 hr
   exact jx tk 1 hr
  refine jq tk 1 hr [0] [90000999] (fun j22=>[(77,.bo j22.1)]) (fun j22=>zca.sto j22.2) (fun j22 hr=>?_) (fun j22 hr=>?_)
  .refine bx tk 10 66 hr (fun c23 hr=>?_) fun c23 hr=>?_
   .refine bx tk 8 74 hr (fun c24 hr=>?_) fun c24 hr=>?_
    .refine rn tk 1 rfl ?_;obtain ⟨v25,h26,hr⟩:=zaa hr;refine ug rfl rfl rfl<|wo (Qqa (k:=76) (yka j14.2 v25 h26) rfl rfl (z0a rfl (z0a rfl (z0a rfl Zua)))) rfl ?_;exact jx tk 2 hr
    exact jx tk 4 hr
   exact jx tk 12 hr
  refine ax tk 0 77 hr (fun hr=>?_) fun hr=>?_
  .refine csx tk 3 hr (kHa j22.2 2) fun v28 _ hr=>?_
   exact sxx tk 5 hr
  refine csx tk 4 hr (wCa j22.2) fun v30 _ hr=>?_
  exact sxx tk 2 hr
 refine ax tk 12 82 hr (fun hr=>?_) fun hr=>?_
 .refine csx tk 3 hr (ZVa v3.2 v1.1) fun v33 _ hr=>?_
  exact sxx tk 2 hr
 refine ax tk 7 93 hr (fun hr=>?_) fun hr=>?_
 .refine csx tk 2 hr (kHa v3.2 1) fun v36 _ hr=>?_
  exact sxx tk 2 hr
 refine clx tk 3 hr (vRa _) fun v38 _ hr=>?_
 refine csx tk 0 hr (kHa v3.2 v38) fun v40 _ hr=>?_
 exact sxx tk 2 hr
theorem wjb(g:G)(e:TypeId)(s:ByteArray):Old (fun _=>False) g ⟨Lib.bytesWorld g.w e s,g.u,g.loc⟩:=by
 generalize hw:Lib.bytesWorld g.w e s=w';unfold Lib.bytesWorld at hw;have hother:∀q,q < g.w.heap.size->w'.heap[q]? =g.w.heap[q]? :=by
  intro q hq;subst hw;simp only[World.freeze,Nat.one_ne_zero,if_false,jBx];rw[if_neg (by omega)];exact Below.heap_alloc g.w.drew _ _ hq
 have hws:w'.heap.size=g.w.heap.size+1:=by subst hw;simp[World.freeze]
 refine ⟨by subst hw;first | (simp[World.freeze];done) | (simp[World.freeze];rfl),by subst hw;first | (simp[World.freeze];done) | (simp[World.freeze];rfl),by subst hw;first | (simp[World.freeze];done) | (simp[World.freeze];rfl),⟨by show g.w.heap.size<=w'.heap.size;omega,fun _ _=>jAn _,fun k i hk hi=>?_,fun r hr=>(hother r (zUa hr)).trans hr⟩,fun k hk _=>⟨hother k hk,rfl⟩⟩;simp only[World.cell?];rw[hother k hk]
theorem Z4b{g:G}{w' :World}(h:Below g.w.heap.size g.w w'):Old (fun _=>False) g ⟨w',g.u,g.loc⟩:=
 ⟨h.os,h.tape,h.output,⟨h.size,fun _ _=>jAn _,fun k i hk _=>by simp only[World.cell?];rw[h.block k hk],fun r hr=>(h.block r (zUa hr)).trans hr⟩,fun k hk _=>⟨h.block k hk,rfl⟩⟩
theorem err_var {g : G} (hg : Gl g) : ∃ tp p, g.w.var? prog "strconv.ErrSyntax" = some #[.iface tp p] := by
 obtain ⟨tp,x,t,fz,h⟩:=hg.2.2 4 (by simp[jTb]);have hn : prog.globalNamed "strconv.ErrSyntax" = some 4 := by kernel_rfl
 refine ⟨tp,x,?_⟩;unfold World.var?;rw[hn];simp only[jAc];rw[h]
theorem Kra(s:Str)(r:Int × Bool)(hr:qqa s=some r):Run prog 184 [.s s] (.tup [.i r.1,.ifc r.2]):=by
 unfold qqa at hr;split at hr
 case isFalse=>cases hr
 rename_i hlen;refine ⟨⟨_,_,⟨func184,rfl,by kernel_rfl⟩⟩,fun g vs hw hg ha=>?_⟩;obtain ⟨hsz,hrel⟩:=ha;obtain ⟨l⟩:=vs
 match l,hsz with
 | [x],_=>
  obtain rfl:=str_argN (hrel 0 _ rfl);cases hn:Lib.atoi s with
  | none=>
   rw[hn]at hr;cases hr;obtain ⟨tp,p,hvar⟩:=err_var hg;refine callsIn_wide.2 ((Tryz.strconv_Atoi_err_var (strB s) (by rw[zNa];exact hlen) (by simpa[strB]using hn) tp p g.w hvar).mono ?_);rintro e w' ⟨N,rfl,_,_,hb⟩;exact ⟨⟨w',g.u,g.loc⟩,_,rfl,rfl,Z4b hb,fun k hk=>hw k (jBp hb.size hk),rfl,.tup rfl fun i c hi=>by
    match i,hi with
    | 0,rfl=>exact .pv (.b rfl)
    | 1,rfl=>exact .ifc rfl⟩
  | some n=>
   rw[hn]at hr;cases hr;refine callsIn_wide.2 ((Tryz.strconv_Atoi (strB s) n (by rw[zNa];exact hlen) (by simpa[strB]using hn) g.w).mono ?_);rintro e w' ⟨rfl,t,rfl⟩;exact ⟨⟨_,g.u,g.loc⟩,_,rfl,rfl,wjb g _ _,fun k hk=>hw k (jBp (wjb g _ _).ext.size hk),rfl,.tup rfl fun i c hi=>by
    match i,hi with
    | 0,rfl=>exact .pv (.b rfl)
    | 1,rfl=>exact .ifc rfl⟩
theorem Ksa(a0:Str)(r:Bool)(hr:v0a a0=some r):Run prog 183 [.s a0] (.bo r):=by
 unfold v0a at hr;refine rfx (fn:=f183) func183 fun g0 hg=>?_
 refine aq2 tk 14 hr [0,5] [] (fun s1=>[(6,.i s1)]) (fun _=>[]) (.exit 0) [0] [] (fun _=>[]) (fun _=>[]) .ret [] [] (fun b3=>[(2,.bo b3)]) (fun _=>[]) (fun s1 x5 hr=>?_) (fun b2 hr=>?_) (fun b3 hr=>?_)
 .unfold w5a at hr;refine ax tk 6 7 hr (fun hr=>?_) fun hr=>?_
  .refine jq tk 10 hr [0,5,6] [] (fun j7=>[(18,.bo j7)]) (fun _=>[]) (fun j7 hr=>?_) (fun j7 hr=>?_)
   .refine rn tk 3 rfl ?_;obtain ⟨v8,h9,hr⟩:=zaa hr;refine ws tk h9 rfl rfl rfl rfl ?_;refine bx tk 2 13 hr (fun c10 hr=>?_) fun c10 hr=>?_
    .exact jx tk 6 hr
    refine rn tk 2 rfl ?_;obtain ⟨v11,h12,hr⟩:=zaa hr;refine ug rfl rfl rfl<|ws tk h12 rfl rfl rfl rfl ?_;exact jx tk 3 hr
   refine ax tk 0 18 hr (fun hr=>?_) fun hr=>?_
   .exact ox tk 8 hr
   exact cx tk 7 hr
  exact ox tk 2 hr
 .exact kx tk 10 hr
 exact kx tk 2 hr
theorem znb(a0:Str)(r:Int × Str × Bool × Bool)(hr:ZHa a0=some r):Run prog 144 [.s a0] (.tup [.i r.1,.s r.2.1,.bo r.2.2.1,.bo r.2.2.2]):=by
 unfold ZHa at hr;refine rfx (fn:=Tryz.f144) func144 fun g0 hg=>?_
 refine jq tk 9 hr [0] [] (fun j1=>[(30,.bo j1)]) (fun _=>[]) (fun j1 hr=>?_) (fun j1 hr=>?_)
 .refine bx tk 5 11 hr (fun c2 hr=>?_) fun c2 hr=>?_
  .exact jx tk 20 hr
  refine rn tk 1 rfl ?_;obtain ⟨v3,h4,hr⟩:=zaa hr;refine ug rfl rfl rfl<|ws tk h4 rfl rfl rfl rfl ?_;refine bx tk 2 15 hr (fun c5 hr=>?_) fun c5 hr=>?_
  .refine rn tk 1 rfl ?_;obtain ⟨v6,h7,hr⟩:=zaa hr;refine ug rfl rfl rfl<|ws tk h7 rfl rfl rfl rfl ?_;refine bx tk 4 21 hr (fun c8 hr=>?_) fun c8 hr=>?_
   .exact jx tk 10 hr
   refine rn tk 1 rfl ?_;obtain ⟨v9,h10,hr⟩:=zaa hr;refine ug rfl rfl rfl<|wscH tk h10 rfl rfl rfl rfl ?_;obtain ⟨v11,h12,hr⟩:=zaa hr;refine ug rfl rfl rfl<|cl (Ksa _ _ h12) rfl rfl ?_;refine bx tk 3 27 hr (fun c13 hr=>?_) fun c13 hr=>?_
   .exact jx tk 4 hr
   refine rn tk 1 rfl ?_;obtain ⟨v14,h15,hr⟩:=zaa hr;refine ug rfl rfl rfl<|cl (qpa _ _ _ h15) rfl rfl ?_;exact jx tk 2 hr
  refine rn tk 7 rfl ?_;obtain ⟨v16,h17,hr⟩:=zaa hr;refine ug rfl rfl rfl<|wscH tk h17 rfl rfl rfl rfl ?_;obtain ⟨v18,h19,hr⟩:=zaa hr;refine ug rfl rfl rfl<|cl (Ksa _ _ h19) rfl rfl ?_;refine bx tk 3 27 hr (fun c20 hr=>?_) fun c20 hr=>?_
  .exact jx tk 4 hr
  refine rn tk 1 rfl ?_;obtain ⟨v21,h22,hr⟩:=zaa hr;refine ug rfl rfl rfl<|cl (qpa _ _ _ h22) rfl rfl ?_;exact jx tk 2 hr
 refine ax tk 0 30 hr (fun hr=>?_) fun hr=>?_
 .exact kx tk 10 hr
 refine rn tk 5 rfl ?_;obtain ⟨v24,h25,hr⟩:=zaa hr;refine wscH tk h25 rfl rfl rfl rfl ?_;refine clx tk 0 hr (Kra _) fun v26 _ hr=>?_
 refine rn tk 8 rfl ?_;obtain ⟨v28,h29,hr⟩:=zaa hr;obtain ⟨v30,h31,hr⟩:=zaa hr;obtain ⟨v32,h33,hr⟩:=zaa hr;refine mdq tk 0 [(2,.s v28),(4,.u8 v30),(7,.bo v32)] [2,3,4,5] (.cons rfl rfl (t0 (kua (kjb rfl rfl zGa h29))) (.cons rfl rfl (t0 (kua (Q9a rfl rfl zGa h31))) (.cons rfl rfl (t0 (zVa (Q8a v26.1 v32 h33) rfl)) .nil))) ?_ mixed;exact kx tk 2 hr
theorem JTa(a0:List Str)(r:zra × Int × zqa)(hr:jza a0=some r):Run prog 106 [.l cS a0] (.tup [.agg [.i r.1.Code,.l cS r.1.Lines],.i r.2.1,.agg [.i r.2.2.Code,.i r.2.2.Index]]):=by
 unfold jza at hr;refine rfx (fn:=f106) func106 fun g0 hg=>?_
 refine rn tk 11 rfl<|wn tk rfl rfl rfl ?_;refine ax tk 3 15 hr (fun hr=>?_) fun hr=>?_
 .refine clx tk 3 hr (zea _ _) fun v2 _ hr=>?_
  exact kx tk 7 hr
 refine rn tk 5 rfl ?_;refine kJa 1005 (o:=5) (j:=1) 9 1 rfl rfl rfl rfl (hO ?_);refine rn tk 6 rfl<|wn tk rfl rfl rfl ?_;refine aq2 tk 4 hr [2,4,5,18,19] [4] (fun s4=>[(20,.i s4.1)]) (fun s4=>[(1005,.row 9 false 1 (List.map cS s4.2.1)),(5,.cells [.i s4.2.2,.hs 1005 0]),(2,.cells [.i 0,.l cS ([])])]) (.exit 0) [2,4] [4] (fun _=>[]) (fun _=>[(2,.cells [.i 0,.l cS ([])])]) .ret [2,4] [] (fun b6=>[(3,.i b6.2.1)]) (fun b6=>[(2,.cells [.i b6.1.Code,.l cS b6.1.Lines]),(4,.cells [.i b6.2.2.Code,.i b6.2.2.Index])]) (fun s4 x8 hr=>?_) (fun b5 hr=>?_) (fun b6 hr=>?_)
 .unfold yFa at hr;refine ax tk 6 21 hr (fun hr=>?_) fun hr=>?_
  .refine rn tk 7 rfl ?_;obtain ⟨v10,h11,hr⟩:=zaa hr;refine wi tk h11 rfl rfl rfl rfl rfl ?_;refine clx tk 8 hr (znb _) fun v12 _ hr=>?_
   refine jq tk 16 hr [2,4,5,6,8,9,10,18,19,20] [1005,5,4,2] (fun j14=>[(12,.i j14)]) (fun _=>[]) (fun j14 hr=>?_) (fun j14 hr=>?_)
   .refine ax tk 8 32 hr (fun hr=>?_) fun hr=>?_
    .exact jx tk 4 hr
    refine ax tk 7 35 hr (fun hr=>?_) fun hr=>?_
    .exact jx tk 4 hr
    refine ax tk 8 38 hr (fun hr=>?_) fun hr=>?_
    .exact jx tk 4 hr
    refine jq tk 0 hr [2,4,5,6,8,9,10,12,18,19,20] [1005,5,4,2] (fun j18=>[(42,.bo j18)]) (fun _=>[]) (fun j18 hr=>?_) (fun j18 hr=>?_)
    .refine bx tk 4 45 hr (fun c19 hr=>?_) fun c19 hr=>?_
     .exact jx tk 7 hr
     exact jx tk 7 hr
    refine ax tk 0 42 hr (fun hr=>?_) fun hr=>?_
    .exact jx tk 4 hr
    exact jx tk 2 hr
   refine ax tk 7 52 hr (fun hr=>?_) fun hr=>?_
   .refine clx tk 5 hr (zea _ _) fun v22 _ hr=>?_
    exact ox tk 9 hr
   refine rn tk 14 rfl<|wz cS ([v12.2.1]:List Str) tk rfl rfl (fun _=>rfl) rfl rfl rfl ?_;obtain ⟨v24,h25,hr⟩:=zaa hr;refine wa tk h25 rfl rfl rfl rfl (fun _=>rfl) rfl rfl ?_;refine ax tk 9 65 hr (fun hr=>?_) fun hr=>?_
   .refine rn tk 1 rfl ?_;obtain ⟨v27,h28,hr⟩:=zaa hr;refine mdq tk 0 [(3,.agg [.i v27.Code,.i v27.Index])] [2,3,4] (.cons rfl rfl (fun _ _=>(zVa (zya v27 h28) rfl)) .nil) ?_ mixed;refine rn tk 1 rfl ?_;refine Qna (o:=2) (j:=1) (F:=cS) (l:=v24) rfl rfl rfl (hC ?_);exact ox tk 3 hr
   exact cx tk 7 hr
  exact ox tk 2 hr
 .refine clx tk 5 hr (zea _ _) fun v29 _ hr=>?_
  exact kx tk 6 hr
 exact kx tk 2 hr
theorem Kfa(a0:zca)(r:Bool × zca)(hr:k9a a0=some r):RunS prog 67 [.ptr 90000000 0] (zca.sto a0) (.bo r.1) (zca.sto r.2) 90000000 [90000012,90000015]:=by
 unfold k9a at hr;refine rfS (fn:=f67) (H:=90000999) (.ptr 90000000 0) ⟨func67,rfl,by kernel_rfl⟩ rfl (hasT rfl) (.inl ⟨rfl,rfl⟩) rfl rfl rfl rfl fun g0 hg S sg T=>?_
 refine rn tk 8 rfl ?_;refine yva 1003 (d:=3) 9 1 rfl rfl rfl (hO ?_);refine aq1 tk 8 hr [0,3] [90000999,90000000,90000012,90000015] (fun s1=>[(4,.i s1.1)]) (fun s1=>[(1003,.row 9 false 1 (List.map cS s1.2))]) .ret [] [90000999] (fun b2=>[(2,.bo b2.1)]) (fun b2=>zca.sto b2.2) (fun s1 x3 hr=>?_) (fun b2 hr=>?_)
 .unfold kra at hr;refine rn tk 9 rfl ?_;obtain ⟨v4,h5,hr⟩:=zaa hr;refine wlL tk h5 rfl rfl rfl (fun _=>rfl) rfl ?_;refine vqa rfl (jea (F:=cU) (l:=([(13:UInt8),(10:UInt8)]:List UInt8)) zja zCa rfl (fun _=>rfl) rfl rfl) zja zCa (kCa rfl) (kCa rfl) rfl (hO ?_);refine clx tk 0 hr (jUa _ _) fun v6 _ hr=>?_
  refine ax tk 10 20 hr (fun hr=>?_) fun hr=>?_
  .exact ox tk 8 hr
  refine rn tk 14 rfl ?_;obtain ⟨v9,h10,hr⟩:=zaa hr;refine wlLH tk h10 rfl rfl rfl rfl (fun _=>rfl) rfl<|wb tk rfl rfl rfl<|wz cS ([v9]:List Str) tk rfl rfl (fun _=>rfl) rfl rfl rfl ?_;obtain ⟨v11,h12,hr⟩:=zaa hr;refine wa tk h12 rfl rfl rfl rfl (fun _=>rfl) rfl rfl<|rn tk 15 rfl ?_;refine Yza (d:=40) (F:=cS) (l:=v11) rfl rfl (hO ?_);refine clx tk 0 hr (JTa _) fun v13 _ hr=>?_
  refine jq tk 12 hr [0,3,6,8] [8,6,1003,90000999,90000000,90000012,90000015] (fun j15=>[(4,.i j15.1),(45,.bo j15.2)]) (fun _=>[]) (fun j15 hr=>?_) (fun j15 hr=>?_)
  .refine bx tk 4 48 hr (fun c16 hr=>?_) fun c16 hr=>?_
   .exact jx tk 11 hr
   refine bx tk 4 52 hr (fun c17 hr=>?_) fun c17 hr=>?_
   .exact jx tk 7 hr
   exact jx tk 7 hr
  refine ax tk 0 45 hr (fun hr=>?_) fun hr=>?_
  .refine csx tk 3 hr (yja a0) fun v19 _ hr=>?_
   exact ox tk 10 hr
  refine ax tk 8 60 hr (fun hr=>?_) fun hr=>?_
  .refine rn tk 9 rfl ?_;obtain ⟨v22,h23,hr⟩:=zaa hr;refine wlL tk h23 rfl rfl rfl (fun _=>rfl) rfl ?_;refine csx tk 10 hr (Kea _ _) fun v24 _ hr=>?_
   exact ox tk 10 hr
  exact cx tk 3 hr
 exact sxx tk 1 hr
theorem jVa(a0:List (List UInt8))(r:List UInt8)(hr:kKa a0=some r):Run prog 65 [.l (cL cU) a0] (.l cU r):=by
 unfold kKa at hr;refine rfx (fn:=f65) func65 fun g0 hg=>?_
 refine rn tk 14 rfl<|wn tk rfl rfl rfl ?_;refine aq1 tk 4 hr [0,9,10] [] (fun s1=>[(3,.i s1.1),(11,.i s1.2)]) (fun _=>[]) (.exit 0) [0] [] (fun b2=>[(3,.i b2)]) (fun _=>[]) (fun s1 x3 hr=>?_) (fun b2 hr=>?_)
 .unfold kja at hr;refine ax tk 6 12 hr (fun hr=>?_) fun hr=>?_
  .refine rn tk 6 rfl ?_;obtain ⟨v5,h6,hr⟩:=zaa hr;refine wi tk h6 rfl rfl rfl rfl rfl<|rn tk 8 rfl<|wn tk rfl rfl rfl ?_;refine ax tk 10 20 hr (fun hr=>?_) fun hr=>?_
   .refine rn tk 1 rfl ?_;cases hr
   exact cx tk 7 hr
  exact ox tk 2 hr
 refine iq tk 5 100000 [0] (fn:=f102) ⟨func102,rfl,by kernel_rfl⟩ fun T1 ds1=>?_
 refine ax tk 12 6 hr (fun hr=>?_) fun hr=>?_
 .refine rn tk 1 rfl ?_;cases hr
 refine rn tk 7 rfl<|wq (qTb rfl zja.u) rfl rfl rfl<|rn tk 1 rfl<|wq (qUb rfl zja.u) rfl rfl rfl ?_;refine ax tk 11 16 hr (fun hr=>?_) fun hr=>?_
 .refine rn tk 3 rfl<|wq (qTb rfl zja.u) rfl rfl rfl<|wq (ev_slnil rfl rfl zja zCa) rfl rfl rfl<|rn tk 1 rfl ?_;obtain ⟨v10,h11,hr⟩:=zaa hr;refine wo (qVb (k:=22) (F:=cU) (z:=((0:UInt8):UInt8)) (lim:=140737488355328) 1022 rfl rfl rfl rfl rfl zja kQa zCa rfl rfl rfl h11) rfl<|rn tk 1 rfl<|wq (qUb rfl zja.u) rfl rfl rfl ?_;obtain ⟨v12,h13,hr⟩:=zaa hr;refine wo (j5b (k:=25) (F:=cU) (l:=v10) rfl rfl rfl rfl zja zCa h13) rfl ?_;refine ieq tk 10 (hO ?_);refine rn tk 7 rfl<|wn tk rfl rfl rfl ?_;refine aq1 tk 4 hr [6,25,26] [] (fun s14=>[(27,.i s14.1)]) (fun s14=>[(1022,.row 5 true 1 (List.map cU s14.2))]) (.exit 2) [6] [] (fun _=>[]) (fun b15=>[(1022,.row 5 true 1 (List.map cU b15))]) (fun s14 x16 hr=>?_) (fun b15 hr=>?_)
  .unfold kka at hr;refine ax tk 6 28 hr (fun hr=>?_) fun hr=>?_
   .refine rn tk 6 rfl ?_;obtain ⟨v18,h19,hr⟩:=zaa hr;refine wi tk h19 rfl rfl rfl rfl rfl<|rn tk 7 rfl ?_;obtain ⟨v20,h21,hr⟩:=zaa hr;refine wa tk h21 rfl rfl rfl rfl (fun _=>rfl) rfl rfl ?_;exact cx tk 8 hr
   exact ox tk 2 hr
  refine rn tk 8 rfl ?_;refine yDa 1022 rfl (hC ?_);refine qTa (d:=2) (F:=cU) (l:=b15) rfl rfl (hC ?_);exact kx tk 1 hr
 refine rn tk 5 rfl ?_;refine yva 1026 (d:=26) 5 1 rfl rfl rfl (hO ?_);refine ieq tk 4 (hO ?_);refine rn tk 7 rfl<|wn tk rfl rfl rfl ?_;refine aq1 tk 4 hr [6,25,26] [] (fun s22=>[(27,.i s22.1)]) (fun s22=>[(1026,.row 5 false 1 (List.map cU s22.2))]) (.exit 2) [6] [] (fun _=>[]) (fun b23=>[(1026,.row 5 false 1 (List.map cU b23))]) (fun s22 x24 hr=>?_) (fun b23 hr=>?_)
 .unfold kVa at hr;refine ax tk 6 28 hr (fun hr=>?_) fun hr=>?_
  .refine rn tk 6 rfl ?_;obtain ⟨v26,h27,hr⟩:=zaa hr;refine wi tk h27 rfl rfl rfl rfl rfl<|rn tk 7 rfl ?_;obtain ⟨v28,h29,hr⟩:=zaa hr;refine wa tk h29 rfl rfl rfl rfl (fun _=>rfl) rfl rfl ?_;exact cx tk 8 hr
  exact ox tk 2 hr
 refine rn tk 8 rfl ?_;refine qTa (d:=2) (F:=cU) (l:=b23) rfl rfl (hC ?_);exact kx tk 1 hr
theorem JUa(a0:zna)(a1:List UInt8)(r:zna × (List UInt8) × zqa)(hr:jCa a0 a1=some r):Run prog 40 [.agg (zN2 a0),.l cU a1] (.tup [.agg (zN2 r.1),.l cU r.2.1,.agg [.i r.2.2.Code,.i r.2.2.Index]]):=by
 unfold jCa at hr;refine rfx (fn:=f40) func40 fun g0 hg=>?_
 refine clx tk 12 hr (Kqa _) fun v1 _ hr=>?_
 refine clx tk 7 hr (zwa _) fun v3 _ hr=>?_
 refine ax tk 2 12 hr (fun hr=>?_) fun hr=>?_
 .refine mdq tk 1 [] [4,5,6] .nil ?_ mixed;exact kx tk 3 hr
 refine rn tk 7 rfl<|wn tk rfl rfl rfl<|rn tk 1 rfl<|wn tk rfl rfl rfl ?_;refine ax tk 4 21 hr (fun hr=>?_) fun hr=>?_
 .refine clx tk 3 hr (zea _ _) fun v7 _ hr=>?_
  exact kx tk 7 hr
 refine rn tk 3 rfl ?_;obtain ⟨v9,h10,hr⟩:=zaa hr;obtain ⟨v11,h12,hr⟩:=zaa hr;refine mh tk 0 [(2,.agg (zN0 v9))] [(5,fun f s=>((29,.hs 1029 0)::f,((1029,.row 3 true 1 (List.map cI v11))::s))),(7,fun f s=>(f,(Sto.upd s 2 (.cells [.s a0.Name,.s v9.Envelope.From,.l zba.pc v9.Envelope.To,.s v9.Envelope.Id,.l zga.pc v9.Message.Fields,.l cU v9.Message.Body,.bo a0.Pipelined,.l cU a0.Buffer,.i a0.Expected,.bo a0.Whole,.bo a0.Done,.l cI a0.Results])))),(9,fun f s=>(f,(Sto.upd s 2 (.cells [.s a0.Name,.s v9.Envelope.From,.l zba.pc v9.Envelope.To,.s v9.Envelope.Id,.l zga.pc v9.Message.Fields,.l cU v9.Message.Body,.bo a0.Pipelined,.l cU a0.Buffer,.i a0.Expected,.bo a0.Whole,.bo a0.Done,.hs 1029 0]))))] [[],[5],[5,7],[5,7,9]] ?_ mixed;refine .cons (mnq tk [2,5] (.cons (mpu (zVa (yBa a0.Mail v9 h10) rfl)) (.cons (mdtq 1 (Qra 1029 (wBa a0.Results v11 h12) rfl rfl rfl rfl)) .nil))) (.cons (mnq tk [7] (.cons (mstq 2 (qba rfl rfl rfl qUa rfl rfl)) .nil)) (.cons (mnq tk [9] (.cons (mstq 3 (qba rfl rfl rfl q3a rfl rfl)) .nil)) (.cons (mfq tk [] [1,2,4,6] .nil (hA ?_)) .nil)));refine rn tk 6 rfl<|wz (cL cU) ([a0.Buffer,a1]:List (List UInt8)) tk rfl rfl (fun _=>rfl) rfl rfl rfl ?_;refine clx tk 0 hr (jVa _) fun v13 _ hr=>?_
 refine rn tk 8 rfl<|wo (Qma (k:=40) 90000000 rfl rfl rfl rfl rfl) rfl<|rn tk 1 rfl ?_;refine YBa 1029 90000012 rfl rfl rfl rfl rfl rfl (hO ?_);refine kJa 90000015 (o:=90000000) (j:=14) 5 1 rfl rfl rfl rfl (hO ?_);refine clx tk 9 hr (Zea _) fun v15 _ hr=>?_
 refine aq1 tk 13 hr [4,6,8] [6] (fun _=>[]) (fun s17=>(zca.sto s17)++ [(4,.cells [.s (([]:Str)),.s (([]:Str)),.l zba.pc ([]),.s (([]:Str)),.l zga.pc ([]),.l cU ([]),.bo false,.l cU ([]),.i 0,.bo false,.bo false,.l cI ([])])]) (.exit 0) [4,6,8] [6] (fun _=>[]) (fun b18=>(zca.sto b18)++ [(4,.cells [.s (([]:Str)),.s (([]:Str)),.l zba.pc ([]),.s (([]:Str)),.l zga.pc ([]),.l cU ([]),.bo false,.l cU ([]),.i 0,.bo false,.bo false,.l cI ([])])]) (fun s17 x19 hr=>?_) (fun b18 hr=>?_)
 .unfold qZa at hr;refine jq tk 1 hr [4,6,8] [6,4] (fun j20=>[(63,.bo j20.1)]) (fun j20=>zca.sto j20.2) (fun j20 hr=>?_) (fun j20 hr=>?_)
  .refine bx tk 8 60 hr (fun c21 hr=>?_) fun c21 hr=>?_
   .refine rn tk 1 rfl ?_;obtain ⟨v22,h23,hr⟩:=zaa hr;refine ug rfl rfl rfl<|wo (Qqa (k:=62) (Kfa s17 v22 h23) rfl rfl (z0a rfl (z0a rfl (z0a rfl Zua)))) rfl ?_;exact jx tk 2 hr
   exact jx tk 4 hr
  refine ax tk 0 63 hr (fun hr=>?_) fun hr=>?_
  .exact cx tk 5 hr
  exact ox tk 2 hr
 refine jq tk 2 hr [4,6,8] [6,4] (fun _=>[]) (fun j25=>zca.sto j25) (fun j25 hr=>?_) (fun j25 hr=>?_)
 .refine ctq tk 8 hr [4,6,8,64] [90000000,90000012,90000015,6,4] (fun j26=>[(70,.l cU j26)]) (fun _=>[]) (fun j26 hr jump2=>?_) (fun j26 hr=>?_)
  .refine iq tk 0 200000 [4,6,8,64] (fn:=f62) ⟨func62,rfl,by kernel_rfl⟩ fun T2 ds2=>?_
   refine rn tk 9 rfl ?_;refine wKa (d:=3) (F:=cU) (l:=b18.Client.Buffer) rfl rfl rfl zja (fun c27=>hO ?_) (hO ?_)
   .replace hr:=j6a c27 hr
    refine ieq tk 10 ?_;cases hr;exact jump2 _ _ rfl rfl
   replace hr:=j7a hr
   refine rn tk 7 rfl<|wo (yKa (k:=5) rfl zja zCa) rfl<|rn tk 1 rfl ?_;obtain ⟨v28,h29,hr⟩:=zaa hr;refine wo (vra (k:=7) (F:=cU) (xs:=b18.Client.Buffer) (lim:=140737488355328) 1002 rfl rfl rfl zja zCa rfl rfl (fun _=>rfl) rfl rfl rfl h29) rfl<|rn tk 3 rfl ?_;refine yDa 1002 rfl (hC ?_);refine qTa (d:=2) (F:=cU) (l:=v28) rfl rfl (hC ?_);refine ieq tk 1 ?_;cases hr;exact jump2 _ _ rfl rfl
  refine ax tk 15 78 hr (fun hr=>?_) fun hr=>?_
  .exact jx tk 7 hr
  exact jx tk 1 hr
 refine rn tk 1 rfl ?_;obtain ⟨v31,h32,hr⟩:=zaa hr;refine mdq tk 0 [(8,.agg [.i v31.Code,.i v31.Index])] [4,5,6] (.cons rfl rfl (fun _ _=>(zVa (zya v31 h32) rfl)) .nil) ?_ mixed;refine rn tk 1 rfl ?_;refine yDa 90000012 rfl (hC ?_);refine Qna (o:=4) (j:=11) (F:=cI) (l:=j25.Client.Results) rfl rfl rfl (hC ?_);refine qTa (d:=5) (F:=cU) (l:=j25.out) rfl rfl (hC ?_);exact kx tk 1 hr
theorem vSa(a0:Int)(a1:Int)(a2:Int)(r:Bool)(hr:qsa a0 a1 a2=some r):Run prog 110 [.i a0,.i a1,.i a2] (.bo r):=by
 unfold qsa at hr;refine rfx (fn:=f110) func110 fun g0 hg=>?_
 refine jq tk 5 hr [] [] (fun j1=>[(6,.bo j1)]) (fun _=>[]) (fun j1 hr=>?_) (fun j1 hr=>?_)
 .refine bx tk 5 10 hr (fun c2 hr=>?_) fun c2 hr=>?_
  .exact jx tk 6 hr
  exact jx tk 6 hr
 exact kx tk 1 hr
theorem Wja(a0:List UInt8)(a1:List UInt8)(r:Bool)(hr:wza a0 a1=some r):Run prog 156 [.l cU a0,.l cU a1] (.bo r):=by
 unfold wza at hr;refine rfx (fn:=Tryz.f156) func156 fun g0 hg=>?_
 refine clx tk 9 hr (jUa _ _) fun v1 _ hr=>?_
 exact kx tk 5 hr
theorem Yra(a0:zsa)(r:Bool)(hr:y1a a0=some r):Run prog 111 [.agg (zN3 a0)] (.bo r):=by
 unfold y1a at hr;refine rfx (fn:=f111) func111 fun g0 hg=>?_
 refine jq tk 6 hr [1] [1] (fun j1=>[(3,.bo j1)]) (fun _=>[]) (fun j1 hr=>?_) (fun j1 hr=>?_)
 .refine bx tk 5 7 hr (fun c2 hr=>?_) fun c2 hr=>?_
  .refine bx tk 5 12 hr (fun c3 hr=>?_) fun c3 hr=>?_
   .exact jx tk 6 hr
   exact jx tk 6 hr
  exact jx tk 11 hr
 refine ax tk 14 19 hr (fun hr=>?_) fun hr=>?_
 .refine jq tk 0 hr [] [] (fun j5=>[(2,.bo j5)]) (fun _=>[]) (fun j5 hr=>?_) (fun j5 hr=>?_)
  .refine rn tk 3 rfl<|wn tk rfl rfl rfl ?_;refine bx tk 2 25 hr (fun c6 hr=>?_) fun c6 hr=>?_
   .refine rn tk 2 rfl ?_;refine vqa rfl (jea (F:=cU) (l:=([(13:UInt8),(10:UInt8)]:List UInt8)) zja zCa rfl (fun _=>rfl) rfl rfl) zja zCa (Zza (d:=25) rfl rfl rfl rfl) (Zza (d:=25) rfl rfl rfl rfl) rfl (hO ?_);obtain ⟨v7,h8,hr⟩:=zaa hr;refine ug rfl rfl rfl<|cl (Wja _ _ _ h8) rfl rfl ?_;refine bx tk 3 33 hr (fun c9 hr=>?_) fun c9 hr=>?_
    .refine bx tk 5 38 hr (fun c10 hr=>?_) fun c10 hr=>?_
     .exact jx tk 4 hr
     exact jx tk 4 hr
    exact jx tk 9 hr
   exact jx tk 17 hr
  exact kx tk 3 hr
 refine ax tk 6 41 hr (fun hr=>?_) fun hr=>?_
 .refine jq tk 0 hr [] [] (fun j12=>[(2,.bo j12)]) (fun _=>[]) (fun j12 hr=>?_) (fun j12 hr=>?_)
  .refine rn tk 3 rfl<|wn tk rfl rfl rfl ?_;refine bx tk 2 47 hr (fun c13 hr=>?_) fun c13 hr=>?_
   .refine bx tk 5 52 hr (fun c14 hr=>?_) fun c14 hr=>?_
    .refine rn tk 2 rfl<|ug rfl rfl rfl<|wn tk rfl rfl rfl ?_;refine bx tk 3 58 hr (fun c15 hr=>?_) fun c15 hr=>?_
     .refine rn tk 2 rfl ?_;obtain ⟨v16,h17,hr⟩:=zaa hr;refine ug rfl rfl rfl<|cl (vSa _ _ _ _ h17) rfl rfl ?_;refine bx tk 2 63 hr (fun c18 hr=>?_) fun c18 hr=>?_
      .exact jx tk 4 hr
      exact jx tk 4 hr
     exact jx tk 9 hr
    exact jx tk 15 hr
   exact jx tk 20 hr
  exact kx tk 3 hr
 refine ax tk 6 66 hr (fun hr=>?_) fun hr=>?_
 .refine jq tk 0 hr [] [] (fun j20=>[(2,.bo j20)]) (fun _=>[]) (fun j20 hr=>?_) (fun j20 hr=>?_)
  .refine rn tk 5 rfl<|wn tk rfl rfl rfl ?_;refine bx tk 3 75 hr (fun c21 hr=>?_) fun c21 hr=>?_
   .refine bx tk 8 83 hr (fun c22 hr=>?_) fun c22 hr=>?_
    .refine rn tk 2 rfl<|ug rfl rfl rfl<|wn tk rfl rfl rfl ?_;refine bx tk 3 89 hr (fun c23 hr=>?_) fun c23 hr=>?_
     .refine bx tk 5 94 hr (fun c24 hr=>?_) fun c24 hr=>?_
      .refine rn tk 2 rfl ?_;obtain ⟨v25,h26,hr⟩:=zaa hr;refine ug rfl rfl rfl<|cl (vSa _ _ _ _ h26) rfl rfl ?_;exact jx tk 3 hr
      exact jx tk 6 hr
     exact jx tk 11 hr
    exact jx tk 17 hr
   exact jx tk 25 hr
  exact kx tk 3 hr
 refine ax tk 6 99 hr (fun hr=>?_) fun hr=>?_
 .refine jq tk 0 hr [] [] (fun j28=>[(2,.bo j28)]) (fun _=>[]) (fun j28 hr=>?_) (fun j28 hr=>?_)
  .refine bx tk 5 104 hr (fun c29 hr=>?_) fun c29 hr=>?_
   .refine rn tk 2 rfl<|ug rfl rfl rfl<|wn tk rfl rfl rfl ?_;refine bx tk 3 110 hr (fun c30 hr=>?_) fun c30 hr=>?_
    .refine bx tk 5 115 hr (fun c31 hr=>?_) fun c31 hr=>?_
     .exact jx tk 4 hr
     exact jx tk 4 hr
    exact jx tk 9 hr
   exact jx tk 15 hr
  exact kx tk 3 hr
 exact kx tk 9 hr
theorem WSa(a0:zsa)(r:Bool)(hr:yfa a0=some r):Run prog 68 [.agg (zN3 a0)] (.bo r):=by
 unfold yfa at hr;refine rfx (fn:=f68) func68 fun g0 hg=>?_
 refine jq tk 7 hr [1] [1] (fun j1=>[(25,.bo j1)]) (fun _=>[]) (fun j1 hr=>?_) (fun j1 hr=>?_)
 .refine bx tk 5 6 hr (fun c2 hr=>?_) fun c2 hr=>?_
  .refine rn tk 2 rfl ?_;obtain ⟨v3,h4,hr⟩:=zaa hr;refine ug rfl rfl rfl<|cl (qoa _ _ h4) rfl rfl ?_;refine bx tk 3 12 hr (fun c5 hr=>?_) fun c5 hr=>?_
   .exact jx tk 14 hr
   refine rn tk 2 rfl<|ug rfl rfl rfl<|wn tk rfl rfl rfl ?_;refine bx tk 5 20 hr (fun c6 hr=>?_) fun c6 hr=>?_
   .exact jx tk 6 hr
   refine rn tk 2 rfl ?_;obtain ⟨v7,h8,hr⟩:=zaa hr;refine ug rfl rfl rfl<|cl (vBa _ _ h8) rfl rfl ?_;obtain ⟨v9,h10,hr⟩:=zaa hr;refine ug rfl rfl rfl<|cl (zwa _ _ h10) rfl rfl ?_;exact jx tk 2 hr
  refine rn tk 8 rfl<|ug rfl rfl rfl<|wn tk rfl rfl rfl ?_;refine bx tk 5 20 hr (fun c11 hr=>?_) fun c11 hr=>?_
  .exact jx tk 6 hr
  refine rn tk 2 rfl ?_;obtain ⟨v12,h13,hr⟩:=zaa hr;refine ug rfl rfl rfl<|cl (vBa _ _ h13) rfl rfl ?_;obtain ⟨v14,h15,hr⟩:=zaa hr;refine ug rfl rfl rfl<|cl (zwa _ _ h15) rfl rfl ?_;exact jx tk 2 hr
 refine ax tk 0 25 hr (fun hr=>?_) fun hr=>?_
 .exact kx tk 7 hr
 refine jq tk 3 hr [1] [1] (fun j17=>[(58,.bo j17)]) (fun _=>[]) (fun j17 hr=>?_) (fun j17 hr=>?_)
 .refine bx tk 5 29 hr (fun c18 hr=>?_) fun c18 hr=>?_
  .refine bx tk 4 33 hr (fun c19 hr=>?_) fun c19 hr=>?_
   .exact jx tk 26 hr
   refine bx tk 4 37 hr (fun c20 hr=>?_) fun c20 hr=>?_
   .refine bx tk 4 41 hr (fun c21 hr=>?_) fun c21 hr=>?_
    .exact jx tk 18 hr
    refine rn tk 2 rfl<|ug rfl rfl rfl<|wn tk rfl rfl rfl ?_;refine bx tk 5 49 hr (fun c22 hr=>?_) fun c22 hr=>?_
    .exact jx tk 10 hr
    refine bx tk 3 52 hr (fun c23 hr=>?_) fun c23 hr=>?_
    .refine rn tk 2 rfl<|ug rfl rfl rfl<|wn tk rfl rfl rfl ?_;exact jx tk 4 hr
    exact jx tk 7 hr
   refine bx tk 15 52 hr (fun c24 hr=>?_) fun c24 hr=>?_
   .refine rn tk 2 rfl<|ug rfl rfl rfl<|wn tk rfl rfl rfl ?_;exact jx tk 4 hr
   exact jx tk 7 hr
  refine bx tk 8 37 hr (fun c25 hr=>?_) fun c25 hr=>?_
  .refine bx tk 4 41 hr (fun c26 hr=>?_) fun c26 hr=>?_
   .exact jx tk 18 hr
   refine rn tk 2 rfl<|ug rfl rfl rfl<|wn tk rfl rfl rfl ?_;refine bx tk 5 49 hr (fun c27 hr=>?_) fun c27 hr=>?_
   .exact jx tk 10 hr
   refine bx tk 3 52 hr (fun c28 hr=>?_) fun c28 hr=>?_
   .refine rn tk 2 rfl<|ug rfl rfl rfl<|wn tk rfl rfl rfl ?_;exact jx tk 4 hr
   exact jx tk 7 hr
  refine bx tk 15 52 hr (fun c29 hr=>?_) fun c29 hr=>?_
  .refine rn tk 2 rfl<|ug rfl rfl rfl<|wn tk rfl rfl rfl ?_;exact jx tk 4 hr
  exact jx tk 7 hr
 refine ax tk 0 58 hr (fun hr=>?_) fun hr=>?_
 .exact kx tk 7 hr
 refine jq tk 3 hr [1] [1] (fun j31=>[(76,.bo j31)]) (fun _=>[]) (fun j31 hr=>?_) (fun j31 hr=>?_)
 .refine rn tk 3 rfl<|wn tk rfl rfl rfl ?_;refine bx tk 4 65 hr (fun c32 hr=>?_) fun c32 hr=>?_
  .exact jx tk 12 hr
  refine rn tk 2 rfl ?_;obtain ⟨v33,h34,hr⟩:=zaa hr;refine ug rfl rfl rfl<|cl (vSa _ _ _ _ h34) rfl rfl ?_;refine bx tk 3 71 hr (fun c35 hr=>?_) fun c35 hr=>?_
  .exact jx tk 6 hr
  refine rn tk 2 rfl ?_;obtain ⟨v36,h37,hr⟩:=zaa hr;refine ug rfl rfl rfl<|cl (vSa _ _ _ _ h37) rfl rfl ?_;exact jx tk 3 hr
 refine ax tk 0 76 hr (fun hr=>?_) fun hr=>?_
 .exact kx tk 7 hr
 refine jq tk 3 hr [1] [1] (fun j39=>[(95,.bo j39)]) (fun _=>[]) (fun j39 hr=>?_) (fun j39 hr=>?_)
 .refine rn tk 3 rfl<|wn tk rfl rfl rfl ?_;refine bx tk 2 81 hr (fun c40 hr=>?_) fun c40 hr=>?_
  .refine bx tk 10 91 hr (fun c41 hr=>?_) fun c41 hr=>?_
   .exact jx tk 5 hr
   exact jx tk 5 hr
  refine bx tk 5 86 hr (fun c42 hr=>?_) fun c42 hr=>?_
  .refine bx tk 5 91 hr (fun c43 hr=>?_) fun c43 hr=>?_
   .exact jx tk 5 hr
   exact jx tk 5 hr
  exact jx tk 10 hr
 refine ax tk 0 95 hr (fun hr=>?_) fun hr=>?_
 .exact kx tk 7 hr
 refine clx tk 5 hr (Yra _) fun v45 _ hr=>?_
 exact kx tk 4 hr
theorem vMa(a0:zda)(a1:UInt8)(r:zda)(hr:kqa a0 a1=some r):RunS prog 70 [.ptr 90002000 0,.u8 a1] (zda.sto a0) (.tup []) (zda.sto r) 90002000 [90002009,90002010,90002018,90002019]:=by
 unfold kqa at hr;refine rfS (fn:=f70) (H:=90002999) (.ptr 90002000 0) ⟨func70,rfl,by kernel_rfl⟩ rfl (hasT rfl) (.inl ⟨rfl,rfl⟩) rfl rfl rfl rfl fun g0 hg S sg T=>?_
 refine mdq tk 1 [(5,.i ((a0.Server.Data.length:Int)))] [0,1,15] (.cons rfl rfl (t0 (kua (kmb (F:=cU) rfl rfl zja.u))) .nil) ?_ mixed;refine ax tk 1 15 hr (fun hr=>?_) fun hr=>?_
 .refine rn tk 8 rfl<|wz cU ([a1]:List UInt8) tk rfl rfl (fun _=>rfl) rfl rfl rfl ?_;obtain ⟨v2,h3,hr⟩:=zaa hr;refine wa tk h3 rfl rfl rfl rfl (fun _=>rfl) rfl rfl ?_;exact sxx tk 5 hr
 refine rn tk 8 rfl<|wq (Kxb rfl rfl) rfl rfl rfl ?_;exact sxx tk 5 hr
theorem kbb(w:World):(callFunc 299 #[]).run prog w=.ok (.value (.tuple #[])) w:=run_call_mark0 func299 (by kernel_rfl) (by kernel_rfl) (by kernel_rfl) .disable (by kernel_rfl) w
theorem wkb(w:World):(callFunc 301 #[]).run prog w=.ok (.value (.tuple #[])) w:=run_call_mark0 func301 (by kernel_rfl) (by kernel_rfl) (by kernel_rfl) .enable (by kernel_rfl) w
theorem Z5b(a:Addr)(w:World):(callFunc 302 #[.pointer (some a)]).run prog w=.ok (.value (.tuple #[])) w:=run_call_marked func302 (by kernel_rfl) (by kernel_rfl) (by kernel_rfl) .acquire (by kernel_rfl) a w
theorem JVa(a:Addr)(w:World):(callFunc 304 #[.pointer (some a)]).run prog w=.ok (.value (.tuple #[])) w:=run_call_marked func304 (by kernel_rfl) (by kernel_rfl) (by kernel_rfl) .releaseMerge (by kernel_rfl) a w
theorem WTa(a:Addr)(x:Value)(u:FrameMode)(w:World)(hc:w.cell? a=some x)(hz:w.frozen? a=false):
 CallsD prog 286 #[.pointer (some a),.bool true] u w fun e u' w' =>u' =u/\(e=.returned (.tuple #[])/\w' =w.drew.setCell a (.int .u32 1)):=by
 have hc' :w.drew.cell? a=some x:=by go_simp
 have hz' :w.drew.frozen? a=false:=by go_simp
 have hst:=run_call_store (P:=prog) func293 (by kernel_rfl) (by kernel_rfl) (by kernel_rfl) (by kernel_rfl) (k:=.u32) (y:=1) hc' hz';go_enter_d func286,Tryz.ntmps286
 go_wp2
 go_region_calls
 all_goals (go_end0;exact ⟨rfl,rfl⟩)
theorem Wka(a:Addr)(u:FrameMode)(w:World)(hc:w.cell? a=some (.int .i32 1))(hz:w.frozen? a=false):
 CallsD prog 285 #[.pointer (some a)] u w fun e u' w' =>u' =u/\(e=.returned (.tuple #[])/\w' =w.setCell a (.int .i32 0)):=by
 have hd:=kbb;have he:=wkb;have hr:=JVa;have hadd:=run_call_add (P:=prog) func305 (by kernel_rfl) (by kernel_rfl) (by kernel_rfl) .i32 (by kernel_rfl) (y:= -1) (s:=0) hc hz (by simp[go_sem];rfl);have hcv:=run_convert_to_unsafe (P:=prog) (src:=341) (dst:=338) underlying341 underlying338 (by kernel_rfl) hc;go_enter_d func285,Tryz.ntmps285
 go_wp2
 go_end0
 go_wp2
 all_goals (go_end0;all_goals exact ⟨rfl,rfl⟩)
theorem wlb(a:Addr)(w:World)(hc:w.cell? a=some (.int .i32 0))(hz:w.frozen? a=false):
 Calls prog 284 #[.pointer (some a)] w fun e w' =>e=.returned (.tuple #[])/\w' =w.setCell a (.int .i32 1):=by
 have hd:=kbb;have he:=wkb;have ha:=Z5b;have hcas:=run_call_cas_hit (P:=prog) func300 (by kernel_rfl) (by kernel_rfl) (by kernel_rfl) .i32 (by kernel_rfl) (y:=1) hc hz;have hc' :(w.setCell a (.int .i32 1)).cell? a=some (.int .i32 1):=World.cell?_setCell_same w a _ hc;have hcv:=run_convert_to_unsafe (P:=prog) (src:=341) (dst:=338) underlying341 underlying338 (by kernel_rfl) hc';go_enter func284,Tryz.ntmps284
 go_wp2
 first | go_end0 | (simp only[Exit.inBlock,Exit.then];refine bodyPost_ret (results_none rfl _ _ _) rfl ?_) | refine bodyPost_ret (results_none rfl _ _ _) rfl ?_
 go_wp2
 all_goals (go_end0;all_goals exact ⟨rfl,rfl⟩)
section
open Go.Shelf Go.RowKit Go.Lib Go.Proofs.Tryz
def kWa:Array Value:=((List.range 256).map fun k:Nat=>Value.int .u8 (if k=0∨k=13 then 32 else (k:Int))).toArray
def yla(i:Nat):Array Value:=((List.range 256).map fun k:Nat=>Value.int .u8 (if k < i then (k:Int) else 0)).toArray
structure RpLaid (P:Program):Prop where
 mixed:P.follows Departure.mixedOrders=true
 f:P.funcs[274]? =some f274
 t3:P.underlying 3=some (.int .i64)
 a3:∀w:World,(isAgg 3).run P w=.ok false w
 z3:∀w:World,(Go.sizeOf 3).run P w=.ok 1 w
 v3:∀w:World,(zeroValue 3).run P w=.ok (.int .i64 0) w
 t4:P.underlying 4=some .bool
 a4:∀w:World,(isAgg 4).run P w=.ok false w
 z4:∀w:World,(Go.sizeOf 4).run P w=.ok 1 w
 v4:∀w:World,(zeroValue 4).run P w=.ok (.bool false) w
 t5:P.underlying 5=some (.int .u8)
 a5:∀w:World,(isAgg 5).run P w=.ok false w
 z5:∀w:World,(Go.sizeOf 5).run P w=.ok 1 w
 v5:∀w:World,(zeroValue 5).run P w=.ok (.int .u8 0) w
 t9:P.underlying 9=some .string
 a9:∀w:World,(isAgg 9).run P w=.ok false w
 z9:∀w:World,(Go.sizeOf 9).run P w=.ok 1 w
 v9:∀w:World,(zeroValue 9).run P w=.ok (.string ⟨#[]⟩) w
 t91:P.underlying 56=some (.slice 9)
 a91:∀w:World,(isAgg 56).run P w=.ok false w
 z91:∀w:World,(Go.sizeOf 56).run P w=.ok 1 w
 v91:∀w:World,(zeroValue 56).run P w=.ok (.slice none 0 0) w
 t222:P.underlying 315=some (.array 256 5)
 t170 : P.underlying 275 = some (.struct #[{ name := "once", type := 271, offset := 0, embedded := false, tag := "", pkgPath := "strings", byteOffset := 0 }, { name := "r", type := 273, offset := 3, embedded := false, tag := "", pkgPath := "strings", byteOffset := 16 }, { name := "oldnew", type := 56, offset := 4, embedded := false, tag := "", pkgPath := "strings", byteOffset := 32 }])
 z166:∀w:World,(Go.sizeOf 271).run P w=.ok 3 w
 z168:∀w:World,(Go.sizeOf 273).run P w=.ok 1 w
 hv222:∀w:World,(zeroValue 315).run P w=.ok (.agg (yla 0)) w
 c223:P.concrete 316=true
 z222:∀w:World,(Go.sizeOf 315).run P w=.ok 256 w
 hi222:(P.info? 315).map (·.size)=some 256
theorem rp_laid:RpLaid prog where
 mixed:=by kernel_rfl
 f:=func274
 t3:=underlying3
 a3:=isAgg3
 z3:=sizeOf3
 v3:=zeroValue3
 t4:=underlying4
 a4:=isAgg4
 z4:=sizeOf4
 v4:=zeroValue4
 t5:=underlying5
 a5:=isAgg5
 z5:=sizeOf5
 v5:=zeroValue5
 t9:=underlying9
 a9:=isAgg9
 z9:=sizeOf9
 v9:=zeroValue9
 t91:=underlying56
 a91:=isAgg56
 z91:=sizeOf56
 v91:=zeroValue56
 t222:=underlying315
 t170:=underlying275
 z166:=sizeOf271
 z168:=sizeOf273
 hv222:=fun w=>(zeroValue315 w).trans (by kernel_rfl)
 c223:=by kernel_rfl
 z222:=sizeOf315
 hi222:=by kernel_rfl
theorem kcb(i k:Nat)(h:k < 256):(yla i)[k]? =some (.int .u8 (if k < i then (k:Int) else 0)):=by
 unfold yla;simp only[jBz,jAk,jEc h,jCp]
theorem yzb(i:Nat)(h:i < 256):(yla i).setIfInBounds i (.int .u8 (i:Int))=yla (i+1):=by
 apply Array.ext_getElem?;intro k;rw[Array.getElem?_setIfInBounds];unfold yla;simp only[jBz,jAk,List.size_toArray,jBd,List.length_range];by_cases hk:i=k
 .subst hk;rw[if_pos rfl,if_pos h,jEc h];simp
 rw[if_neg hk];by_cases h2:k < 256
 .rw[jEc h2];simp only[jCp];have:(k < i)↔(k < i+1):=by omega
  simp only[this]
 rw[jBr (by simp;omega)];rfl
def jPb:Array Value:=(yla 256).setIfInBounds 13 (.int .u8 32)
theorem Z6b:jPb.setIfInBounds 0 (.int .u8 32)=kWa:=by kernel_rfl
theorem rp_build{P:Program}(L:RpLaid P)(b d o c:Nat)(w:World)(hr:w.cell? ⟨b,4,none⟩=some (.slice (some ⟨d,o,none⟩) 4 c))(hd:d < w.heap.size)(h0:w.cell? ⟨d,o,none⟩=some (.string ⟨#[0]⟩))(h1:w.cell? ⟨d,o+1,none⟩=some (.string ⟨#[32]⟩))(h2:w.cell? ⟨d,o+2,none⟩=some (.string ⟨#[13]⟩))(h3:w.cell? ⟨d,o+3,none⟩=some (.string ⟨#[32]⟩)):
 Calls P 274 #[.pointer (some ⟨b,0,none⟩)] w fun e w' =>e=.returned (.iface 316 (.pointer (some ⟨w.heap.size,0,none⟩)))/\w' =w.alloc (.cells kWa 315):=by
 have t3:=L.t3;have a3:=L.a3;have z3:=L.z3;have v3:=L.v3;have t4:=L.t4;have a4:=L.a4;have z4:=L.z4;have v4:=L.v4;have t5:=L.t5;have a5:=L.a5;have z5:=L.z5;have v5:=L.v5;have t9:=L.t9;have a9:=L.a9;have z9:=L.z9;have v9:=L.v9;have t91:=L.t91;have a91:=L.a91;have z91:=L.z91;have v91:=L.v91;have t170:=L.t170;have z166:=L.z166;have z168:=L.z168;have hv222:=L.hv222;have u222:=run_underlying L.t222;have t222:=L.t222;have u170:=run_underlying L.t170;have u91:=run_underlying L.t91;have u9:=run_underlying L.t9;have u5:=run_underlying L.t5;have u3:=run_underlying L.t3;have u4:=run_underlying L.t4;have hmk:∀(x:Value) (w:World),(Instr.makeInterface 316 x).run P w=.ok (.iface 316 x) w:=fun x w=>run_makeInterface w _ x L.c223
 go_enter L.f,Tryz.ntmps274
 go_wp2
 go_loopg [4,5] 2 (fun g v4 v5 wx=>v4=.bool true/\wx=w/\((g=2/\v5=.int .i64 0)∨(g=1/\v5=.int .i64 2)∨(g=0/\v5=.int .i64 4)))
 case atStart=>exact ⟨rfl,rfl,.inl ⟨rfl,rfl⟩⟩
 case round=>
  obtain ⟨rfl,rfl,hg⟩:=hrel;rcases hg with ⟨rfl,rfl⟩ | ⟨rfl,rfl⟩ | ⟨rfl,rfl⟩
  .go_wp2
   go_roundg 1
   case measure=>omega
   case rel=>exact ⟨rfl,rfl,.inr (.inl ⟨rfl,rfl⟩)⟩
  .go_wp2
   go_roundg 0
   case measure=>omega
   case rel=>exact ⟨rfl,rfl,.inr (.inr ⟨rfl,rfl⟩)⟩
  have hsz:(yla 0).size=256:=by simp[yla]
  have hsc:=run_storeCells_new (P:=P) wr 315 (yla 0) (yla 0) (by rw[hsz];exact L.hi222) rfl (by decide+kernel);go_wp2
  simp only[L.z222,Result.andThen,↓reduceIte,hsc];rw[Oper.upon_skip];go_wp2
  have k0:∀A:Array Value,(wr.alloc (.cells A 315)).cell? ⟨d,o,none⟩=some (.string ⟨#[0]⟩):=fun A=>by rw[World.cell?_alloc_past _ _ _ hd];exact h0
  have k1:∀A:Array Value,(wr.alloc (.cells A 315)).cell? ⟨d,o+1,none⟩=some (.string ⟨#[32]⟩):=fun A=>by rw[World.cell?_alloc_past _ _ _ hd];exact h1
  have k2:∀A:Array Value,(wr.alloc (.cells A 315)).cell? ⟨d,o+2,none⟩=some (.string ⟨#[13]⟩):=fun A=>by rw[World.cell?_alloc_past _ _ _ hd];exact h2
  have k3:∀A:Array Value,(wr.alloc (.cells A 315)).cell? ⟨d,o+3,none⟩=some (.string ⟨#[32]⟩):=fun A=>by rw[World.cell?_alloc_past _ _ _ hd];exact h3
  go_loopg [61] 256 (fun g v61 wx=>∃i:Nat,i+g=256/\v61=.int .i64 i/\wx=wr.alloc (.cells (yla i) 315))
  case atStart=>exact ⟨0,rfl,rfl,rfl⟩
  case round=>
   obtain ⟨i,hig,rfl,rfl⟩:=hrel;cases gk with
   | zero=>
    obtain rfl:i=256:=by omega
    have c13:=kcb 256 13 (by omega);have m0:jPb[0]? =some (.int .u8 0):=by kernel_rfl
    have hm1:(yla 256).setIfInBounds 13 (.int .u8 32)=jPb:=rfl;have hm2:=Z6b;go_wp2
    go_loopg [8] 2 (fun g v8 wx=>(g=2/\v8=.int .i64 2/\wx=wr.alloc (.cells (yla 256) 315))∨(g=1/\v8=.int .i64 0/\wx=wr.alloc (.cells jPb 315))∨(g=0/\v8=.int .i64 (-2)/\wx=wr.alloc (.cells kWa 315)))
    case atStart=>exact .inl ⟨rfl,rfl,rfl⟩
    case round=>
     rcases hrel with ⟨rfl,rfl,rfl⟩ | ⟨rfl,rfl,rfl⟩ | ⟨rfl,rfl,rfl⟩
     .go_wp2
      go_roundg 1
      case measure=>omega
      case rel=>exact .inr (.inl ⟨rfl,rfl,by first | rfl | rw[hm1]⟩)
     .go_wp2
      go_roundg 0
      case measure=>omega
      case rel=>exact .inr (.inr ⟨rfl,rfl,by first | rfl | rw[hm2]⟩)
     go_wp2
     go_ret
     exact ⟨rfl,rfl⟩
   | succ g=>
    have hi:(i:Int) < 256:=by omega
    have hset:=yzb i (by omega);have hcell:=kcb i i (by omega);go_wp2
    go_roundg g
    case measure=>omega
    case rel=>exact ⟨i+1,by omega,by first | rfl | simp,by first | rfl | rw[hset]⟩
end
section
open Go.Shelf Go.RowKit Go.Lib Go.Proofs.Tryz
abbrev bI(A:Nat):Value:=.iface 316 (.pointer (some ⟨A,0,none⟩))
theorem v7a{b i j:Nat}(h:i≠j):(⟨b,i,none⟩:Addr)≠⟨b,j,none⟩:=fun e=>h (by cases e;rfl)
theorem kdb{b c i j:Nat}(h:b≠c):(⟨b,i,none⟩:Addr)≠⟨c,j,none⟩:=fun e=>h (by cases e;rfl)
structure Z7b (w:World) (b d o c:Nat):Prop where
 hb:b < w.heap.size
 hd:d < w.heap.size
 ne:b≠d
 c0:w.cell? ⟨b,0,none⟩=some (.int .u32 0)
 c1:w.cell? ⟨b,1,none⟩=some (.int .i32 0)
 c3:w.cell? ⟨b,3,none⟩=some .nilIface
 c4:w.cell? ⟨b,4,none⟩=some (.slice (some ⟨d,o,none⟩) 4 c)
 fz:∀i,w.frozen? ⟨b,i,none⟩=false
 s0:w.cell? ⟨d,o,none⟩=some (.string ⟨#[0]⟩)
 s1:w.cell? ⟨d,o+1,none⟩=some (.string ⟨#[32]⟩)
 s2:w.cell? ⟨d,o+2,none⟩=some (.string ⟨#[13]⟩)
 s3:w.cell? ⟨d,o+3,none⟩=some (.string ⟨#[32]⟩)
theorem rp_once(b d o c:Nat)(w:World)(hb:b < w.heap.size)(hd:d < w.heap.size)(c3:w.cell? ⟨b,3,none⟩=some .nilIface)(c4:w.cell? ⟨b,4,none⟩=some (.slice (some ⟨d,o,none⟩) 4 c))(fz:∀i,w.frozen? ⟨b,i,none⟩=false)
 (s0:w.cell? ⟨d,o,none⟩=some (.string ⟨#[0]⟩)) (s1:w.cell? ⟨d,o+1,none⟩=some (.string ⟨#[32]⟩)) (s2:w.cell? ⟨d,o+2,none⟩=some (.string ⟨#[13]⟩)) (s3:w.cell? ⟨d,o+3,none⟩=some (.string ⟨#[32]⟩)):
 Calls prog 260 #[.pointer (some ⟨b,0,none⟩)] w fun e w' =>e=.returned (.tuple #[])/\
  w' =((w.setCell ⟨b,3,none⟩ (bI w.heap.size)).setCell ⟨b,4,none⟩ (.slice none 0 0)).alloc (.cells kWa 315):=by
 have a3:(w.alloc (.cells kWa 315)).cell? ⟨b,3,none⟩=some .nilIface:=by rw[World.cell?_alloc_past _ _ _ hb];exact c3
 have z3:(w.alloc (.cells kWa 315)).frozen? ⟨b,3,none⟩=false:=by rw[World.frozen?_alloc_past _ _ _ hb];exact fz 3
 have a4:((w.alloc (.cells kWa 315)).setCell ⟨b,3,none⟩ (bI w.heap.size)).cell? ⟨b,4,none⟩=some (.slice (some ⟨d,o,none⟩) 4 c):=by rw[World.cell?_setCell_other _ _ _ _ (v7a (by decide)),World.cell?_alloc_past _ _ _ hb];exact c4
 have z4:((w.alloc (.cells kWa 315)).setCell ⟨b,3,none⟩ (bI w.heap.size)).frozen? ⟨b,4,none⟩=false:=by
  have:=fz 4;have h2:(w.alloc (.cells kWa 315)).frozen? ⟨b,4,none⟩=false:=by rw[World.frozen?_alloc_past _ _ _ hb];exact this
  simp[h2]
 go_enter func260,Tryz.ntmps260
 go_wp2_with (go_at_call 274;refine (rp_build rp_laid b d o c _ c4 hd s0 s1 s2 s3).mono ?_;rintro e w' ⟨rfl,rfl⟩)
 go_end0
 exact ⟨rfl,rfl⟩
theorem jQb(a:Addr)(w:World)(h:w.cell? a=some (.int .u32 0)):Calls prog 272 #[.pointer (some a)] w fun e w' =>e=.returned (.bool false)/\w' =w:=by
 have hl:=run_call_load (P:=prog) func283 (by kernel_rfl) (by kernel_rfl) (by kernel_rfl) .u32 (by kernel_rfl) h;go_enter func272,Tryz.ntmps272
 go_wp2
 go_ret
 exact ⟨rfl,rfl⟩
theorem rp_load1(a:Addr)(w:World)(h:w.cell? a=some (.int .u32 1)):Calls prog 272 #[.pointer (some a)] w fun e w' =>e=.returned (.bool true)/\w' =w:=by
 have hl:=run_call_load (P:=prog) func283 (by kernel_rfl) (by kernel_rfl) (by kernel_rfl) .u32 (by kernel_rfl) h;go_enter func272,Tryz.ntmps272
 go_wp2
 go_ret
 exact ⟨rfl,rfl⟩
def ranW(b:Nat)(w:World):World:=(((((w.setCell ⟨b,1,none⟩ (.int .i32 1)).setCell ⟨b,3,none⟩ (bI w.heap.size)).setCell ⟨b,4,none⟩ (.slice none 0 0)).alloc (.cells kWa 315)).drew.setCell ⟨b,0,none⟩ (.int .u32 1)).setCell ⟨b,1,none⟩ (.int .i32 0)
theorem rp_slow(b d o c:Nat)(w:World)(F:Z7b w b d o c):
 Calls prog 273 #[.pointer (some ⟨b,0,none⟩),.func (.func 260) #[.pointer (some ⟨b,0,none⟩)] #[]] w fun e w' =>e=.returned (.tuple #[])/\w' =ranW b w:=by
 have hw1:(w.setCell ⟨b,1,none⟩ (.int .i32 1)).heap.size=w.heap.size:=by simp
 have hl:(w.setCell ⟨b,1,none⟩ (.int .i32 1)).cell? ⟨b,0,none⟩=some (.int .u32 0):=(World.cell?_setCell_other _ ⟨b,1,none⟩ ⟨b,0,none⟩ _ (by simp)).trans F.c0;have ho:Calls prog 260 #[.pointer (some ⟨b,0,none⟩)] (w.setCell ⟨b,1,none⟩ (.int .i32 1)) fun e w' =>e=.returned (.tuple #[])/\
  w' =(((w.setCell ⟨b,1,none⟩ (.int .i32 1)).setCell ⟨b,3,none⟩ (bI w.heap.size)).setCell ⟨b,4,none⟩ (.slice none 0 0)).alloc (.cells kWa 315):=by
  have h:=rp_once b d o c (w.setCell ⟨b,1,none⟩ (.int .i32 1)) (by rw[hw1];exact F.hb) (by rw[hw1];exact F.hd) ((World.cell?_setCell_other _ _ _ _ (v7a (by decide))).trans F.c3) ((World.cell?_setCell_other _ _ _ _ (v7a (by decide))).trans F.c4) (fun i=>by have:=F.fz i;simp[this])
   ((World.cell?_setCell_other _ _ _ _ (kdb F.ne)).trans F.s0) ((World.cell?_setCell_other _ _ _ _ (kdb F.ne)).trans F.s1) ((World.cell?_setCell_other _ _ _ _ (kdb F.ne)).trans F.s2) ((World.cell?_setCell_other _ _ _ _ (kdb F.ne)).trans F.s3)
  rw[hw1]at h;exact h
 have hnot:∀(x:Bool) (w:World),(Op.unary .not (.bool x)).run prog w=.ok (.bool (!x)) w:=fun _ _=>rfl
 have h1:=F.c1;have f1:=F.fz 1;go_enter_defers func273,Tryz.ntmps273
 go_wp2_with (first | (go_at_call 284;refine (wlb ⟨b,1,none⟩ _ (by go_simp) (by go_simp)).mono ?_;rintro e w' ⟨rfl,rfl⟩) | (go_at_call 272;refine (jQb ⟨b,0,none⟩ _ hl).mono ?_;rintro e w' ⟨rfl,rfl⟩) | (go_at_call 260;refine ho.mono ?_;rintro e w' ⟨rfl,rfl⟩))
 go_wp2
 have hA0:((((w.setCell ⟨b,1,none⟩ (.int .i32 1)).setCell ⟨b,3,none⟩ (bI w.heap.size)).setCell ⟨b,4,none⟩ (.slice none 0 0)).alloc (.cells kWa 315)).cell? ⟨b,0,none⟩=some (.int .u32 0):=by
  rw[World.cell?_alloc_past _ _ _ (by simp;exact F.hb),World.cell?_setCell_other _ _ _ _ (v7a (by decide)),World.cell?_setCell_other _ _ _ _ (v7a (by decide)),World.cell?_setCell_other _ _ _ _ (v7a (by decide))];exact F.c0
 have hA1:((((w.setCell ⟨b,1,none⟩ (.int .i32 1)).setCell ⟨b,3,none⟩ (bI w.heap.size)).setCell ⟨b,4,none⟩ (.slice none 0 0)).alloc (.cells kWa 315)).cell? ⟨b,1,none⟩=some (.int .i32 1):=by
  rw[World.cell?_alloc_past _ _ _ (by simp;exact F.hb),World.cell?_setCell_other _ _ _ _ (v7a (by decide)),World.cell?_setCell_other _ _ _ _ (v7a (by decide))];exact World.cell?_setCell_same w _ _ h1
 have hZ:∀i,((((w.setCell ⟨b,1,none⟩ (.int .i32 1)).setCell ⟨b,3,none⟩ (bI w.heap.size)).setCell ⟨b,4,none⟩ (.slice none 0 0)).alloc (.cells kWa 315)).frozen? ⟨b,i,none⟩=false:=fun i=>by
  have:=F.fz i;rw[World.frozen?_alloc_past _ _ _ (by simp;exact F.hb)];simp[this]
 refine leaves_cons (f:=286) (args:= #[.pointer (some ⟨b,0,none⟩),.bool true]) (by simp) (by simp[go_sem])<|(WTa ⟨b,0,none⟩ (.int .u32 0) .returning _ hA0 (hZ 0)).mono ?_;rintro e u' w'' ⟨rfl,rfl,rfl⟩;refine leaves_cons (f:=285) (args:= #[.pointer (some ⟨b,1,none⟩)]) (by simp[settle]) (by simp[go_sem])<|(Wka ⟨b,1,none⟩ _ _ ?_ ?_).mono ?_
 .rw[World.cell?_setCell_other _ _ _ _ (v7a (by decide)),World.cell?_drew];exact hA1
 .have:=hZ 1;simp at this ⊢;exact this
 rintro e u' w'' ⟨rfl,rfl,rfl⟩;simp[Leaves,settle,results,Tryz.results273,ranW]
end
section
open Go.Shelf Go.RowKit Go.Lib Go.Proofs.Tryz
theorem yAb(b d o c:Nat)(w:World)(F:Z7b w b d o c):
 Calls prog 259 #[.pointer (some ⟨b,0,none⟩),.func (.func 260) #[.pointer (some ⟨b,0,none⟩)] #[]] w fun e w' =>e=.returned (.tuple #[])/\w' =ranW b w:=by
 have hnot:∀(x:Bool) (w:World),(Op.unary .not (.bool x)).run prog w=.ok (.bool (!x)) w:=fun _ _=>rfl
 go_enter func259,Tryz.ntmps259
 go_wp2_with (first | (go_at_call 272;refine (jQb ⟨b,0,none⟩ _ F.c0).mono ?_;rintro e w' ⟨rfl,rfl⟩) | (go_at_call 273;refine (rp_slow b d o c _ F).mono ?_;rintro e w' ⟨rfl,rfl⟩))
 go_end0
 exact ⟨rfl,rfl⟩
theorem Z8b(b:Nat)(fv:Value)(w:World)(h:w.cell? ⟨b,0,none⟩=some (.int .u32 1)):
 Calls prog 259 #[.pointer (some ⟨b,0,none⟩),fv] w fun e w' =>e=.returned (.tuple #[])/\w' =w:=by
 have hnot:∀(x:Bool) (w:World),(Op.unary .not (.bool x)).run prog w=.ok (.bool (!x)) w:=fun _ _=>rfl
 go_enter func259,Tryz.ntmps259
 go_wp2_with (go_at_call 272;refine (rp_load1 ⟨b,0,none⟩ _ h).mono ?_;rintro e w' ⟨rfl,rfl⟩)
 go_end0
 exact ⟨rfl,rfl⟩
def mixL(L:List UInt8)(i:Nat):List UInt8:=(L.take i).map qea++L.drop i
theorem mix_zero(L:List UInt8):mixL L 0=L:=by simp[mixL]
theorem VRb(L:List UInt8):mixL L L.length=L.map qea:=by simp[mixL]
theorem yBb(L:List UInt8)(i:Nat):(mixL L i).length=L.length:=by simp[mixL];omega
theorem VSb{L:List UInt8}{i:Nat}{x:UInt8}(h:L[i]? =some x):(mixL L i)[i]? =some x:=by
 have hi:=(jAd.1 h).1;unfold mixL;rw[jAq (by simp;omega)];simp only[jBd,jBt,jBo];rw[show i+(i - min i L.length)=i by omega];exact h
theorem qwb{L:List UInt8}{i:Nat}{x:UInt8}(h:L[i]? =some x):mixL L (i+1)=(mixL L i).set i (qea x):=by
 have hi:=(jAd.1 h).1;have hx:=(jAd.1 h).2;unfold mixL;rw[List.set_append_right _ _ (by simp;omega)];simp only[jBd,jBt];rw[show i - min i L.length=0 by omega,List.take_add_one,h,jCq hi,hx];simp
theorem jRb{L:List UInt8}{i:Nat}{x:UInt8}(h:L[i]? =some x)(hc:qea x=x):mixL L (i+1)=mixL L i:=by
 rw[qwb h,hc];apply List.ext_getElem?;intro j;rw[jDp];by_cases e:i=j
 .subst e;rw[if_pos rfl,if_pos (by rw[yBb];exact (jAd.1 h).1),VSb h]
 rw[if_neg e]
theorem keb{x:UInt8}(h:((qea x).toNat:Int)=(x.toNat:Int)):qea x=x:=UInt8.toNat_inj.1 (by omega)
def WUa(C:Array Value)(l:List UInt8):Prop:=∀(j:Nat) x,l[j]? =some x->C[j]? =some (.int .u8 (x.toNat:Int))
theorem wmb{C:Array Value}{l:List UInt8}{i:Nat}{y:UInt8}(h:WUa C l)(hi:i < l.length):WUa (C.setIfInBounds i (.int .u8 (y.toNat:Int))) (l.set i y):=by
 intro j x hx;have hC:=h i _ (jAj hi);have hsz:=(jCu.1 hC).1;rw[jDp]at hx;rw[Array.getElem?_setIfInBounds];by_cases e:i=j
 .subst e;rw[if_pos rfl,if_pos hi]at hx;cases hx;rw[if_pos rfl,if_pos hsz]
 rw[if_neg e]at hx ⊢;exact h j x hx
theorem yCb(s:ByteArray)(cap:Nat):WUa (bytesRow s cap) s.data.toList:=by
 intro j x hx;have hj:=(jAd.1 hx).1;unfold bytesRow;rw[jBn (by simpa using hj)];simp only[Array.getElem?_map];rw[show s.data[j]? =some x by simpa using hx];rfl
theorem Yca(w:World)(C:Array Value)(t:TypeId)(fz:Nat × Nat)(i:Nat)(v:Value):(w.alloc (.cells C t fz)).setCell ⟨w.heap.size,i,none⟩ v=w.alloc (.cells (C.setIfInBounds i v) t fz):=by
 unfold World.setCell World.alloc
 congr 1
 apply Array.ext_getElem?;intro k;simp only[jBx,Array.getElem?_push];by_cases hk:k=w.heap.size
 .subst hk;simp
 simp[hk,Ne.symm hk]
theorem jSb(A:Nat)(s:ByteArray)(w:World)(hlen:s.size<=4611686018427387904)(hA:A < w.heap.size)(ht:∀x:UInt8,w.cell? ⟨A,x.toNat,none⟩=some (.int .u8 ((qea x).toNat:Int))):
 Calls prog 341 #[.pointer (some ⟨A,0,none⟩),.string s] w fun e w' =>e=.returned (.string ⟨(s.data.toList.map qea).toArray⟩)/\(w' =w∨∃C fz,w' =(w.alloc (.cells C 5 fz)).drew):=by
 have HT:Aside (∀x:UInt8,w.cell? ⟨A,x.toNat,none⟩=some (.int .u8 ((qea x).toNat:Int))):=ht;clear ht;have HT2:Aside (∀(x:UInt8) (C:Array Value) (fz:Nat × Nat),(w.alloc (.cells C 5 fz)).cell? ⟨A,x.toNat,none⟩=some (.int .u8 ((qea x).toNat:Int))):=fun x C fz=>by
  rw[World.cell?_alloc_past _ _ _ hA];exact HT.out x
 have hcv:(convert 9 26 (.string s)).run prog w=.ok (.slice (some ⟨w.heap.size,0,none⟩) s.size (grownCap w s.size 0 5))
  (w.alloc (.cells (bytesRow s (grownCap w s.size 0 5)) 5 ((bytesRow s (grownCap w s.size 0 5)).size,(bytesRow s (grownCap w s.size 0 5)).size+1))).drew:=run_bytes_of_string (P:=prog) w 9 26 5 s underlying9 underlying26 underlying5
 have hn1:∀w:World,(binOp .eql 26 (.slice none 0 0) (.slice none 0 0)).run prog w=.ok (.bool true) w:=fun w=>by
  simp only[binOp];simp[run_equal_slice_nil w 26 5 none 0 0 underlying26]
 have hn2:∀(a:Addr) (l c:Nat) (w:World),(binOp .eql 26 (.slice (some a) l c) (.slice none 0 0)).run prog w=.ok (.bool false) w:=fun a l c w=>by
  simp only[binOp];simp[run_equal_slice_nil w 26 5 (some a) l c underlying26]
 have hL:Lib.Kept (s.data.toList.length=s.size):=rfl;go_enter func341,Tryz.ntmps341
 go_wp2
 go_loopg [5,6] s.size (fun g v5 v6 wx=>∃i:Nat,i+g=s.size/\v6=.int .i64 i/\((v5=.slice none 0 0/\wx=w/\Lib.Kept (mixL s.data.toList i=s.data.toList))∨∃C cap lo hi,v5=.slice (some ⟨w.heap.size,0,none⟩) s.size cap/\wx=(w.alloc (.cells C 5 (lo,hi))).drew/\Lib.Kept (lo=C.size)/\Lib.Kept (WUa C (mixL s.data.toList i))))
 case atStart=>exact ⟨0,by omega,rfl,.inl ⟨rfl,rfl,mix_zero _⟩⟩
 case round=>
  obtain ⟨i,hig,rfl,hrel⟩:=hrel;cases gk with
  | zero=>
   obtain rfl:i=s.size:=by omega
   have hiz:¬((s.size:Int) < (s.size:Int)):=by omega
   rcases hrel with ⟨rfl,rfl,hk⟩ | ⟨C,cap,lo,hi,rfl,rfl,hz,hrow⟩
   .go_wp2
    go_ret
    refine ⟨?_,.inl rfl⟩;have hk' :mixL s.data.toList s.size=s.data.toList:=hk;rw[show s.size=s.data.toList.length from rfl,VRb]at hk';rw[hk'];show Ending.returned (Value.string s)=Ending.returned (Value.string ⟨s.data.toList.toArray⟩);simp
   have hback:=run_convert_bytes_back (P:=prog) ((w.alloc (.cells C 5 (lo,hi))).drew) 26 9 5 ⟨w.heap.size,0,none⟩ cap (s.data.toList.map qea) underlying26 underlying5 underlying9 (fun j hj=>by
    have hr:WUa C (mixL s.data.toList s.size):=hrow;rw[show s.size=s.data.toList.length from rfl,VRb]at hr;have:=hr j _ (jAj hj);rw[show (⟨w.heap.size,0,none⟩:Addr).add j=⟨w.heap.size,j,none⟩ by unfold Addr.add;split <;> simp_all];rw[World.cell?_drew,World.cell?_alloc_mark];exact this)
   rw[show (s.data.toList.map qea).length=s.size by simp]at hback;clear hrow hz;go_wp2
   go_ret
   first | exact ⟨rfl,.inr ⟨C,(lo,hi),rfl⟩⟩ | exact ⟨rfl,.inr ⟨C,lo,hi,rfl⟩⟩
  | succ g=>
   have hi:i < s.size:=by omega
   have hiz:(i:Int) < (s.size:Int):=by omega
   obtain ⟨x,hx⟩:∃x:UInt8,s[i]'hi=x:=⟨_,rfl⟩;have hxl:Lib.Kept (s.data.toList[i]? =some x):=by rw[<-hx];exact Lib.data_getElem? s i hi
   have hx256:(x.toNat:Int) < 256:=by have:=UInt8.toNat_lt x;omega
   have hwr:wrap64 ((i:Int)+1)=((i:Int)+1):=by unfold wrap64;omega
   rcases hrel with ⟨rfl,rfl,hk⟩ | ⟨C,cap,lo,hi2,rfl,rfl,hz,hrow⟩
   .have hcell:=HT.out x;by_cases hcl:((qea x).toNat:Int)=(x.toNat:Int)
    .go_wp2
     go_roundg g
     case measure=>omega
     case rel=>exact ⟨i+1,by omega,by first | rfl | simp,.inl ⟨rfl,rfl,(jRb hxl (keb hcl)).trans hk⟩⟩
    have hrow:Lib.Kept (WUa (bytesRow s (grownCap wr s.size 0 5)) (mixL s.data.toList i)):=by
     have hk' :mixL s.data.toList i=s.data.toList:=hk;rw[hk'];exact yCb s _
    generalize bytesRow s (grownCap wr s.size 0 5)=B at hcv hrow;have hBi:B[i]? =some (.int .u8 (x.toNat:Int)):=by
     have hr:WUa B (mixL s.data.toList i):=hrow;exact hr i x (VSb hxl)
    have hBs:i < B.size:=(jCu.1 hBi).1;have hc2:=HT2.out x B (B.size,B.size+1);have hc1:(wr.alloc (.cells B 5 (B.size,B.size+1))).cell? ⟨wr.heap.size,i,none⟩=some (.int .u8 (x.toNat:Int)):=(World.cell?_alloc_mark wr B 5 _ i).trans hBi;have hf1:(wr.alloc (.cells B 5 (B.size,B.size+1))).frozen? ⟨wr.heap.size,i,none⟩=false:=(World.frozen?_alloc_mark wr B 5 _ _ i).trans (by rw[decide_eq_false (by omega)];rfl);have hs1:=Yca wr B 5 (B.size,B.size+1) i (.int .u8 ((qea x).toNat:Int));have HB:Lib.Kept (B[i]? =some (.int .u8 (x.toNat:Int))):=hBi;clear hBi hBs hk;go_wp2
    go_roundg g
    case measure=>omega
    case rel=>
     refine ⟨i+1,by omega,by first | rfl | simp,.inr ⟨_,_,_,_,rfl,by first | rfl | exact congrArg World.drew hs1,?_,?_⟩⟩
     .show B.size=(B.setIfInBounds i _).size;simp
     have hr:WUa B (mixL s.data.toList i):=hrow;show WUa _ (mixL s.data.toList (i+1));rw[qwb hxl];exact wmb hr (by rw[yBb];exact hi)
   have hBi:C[i]? =some (.int .u8 (x.toNat:Int)):=by
    have hr:WUa C (mixL s.data.toList i):=hrow;exact hr i x (VSb hxl)
   have hBs:i < C.size:=(jCu.1 hBi).1;have hz' :lo=C.size:=hz;have hc2:=HT2.out x C (lo,hi2);have hc1:(w.alloc (.cells C 5 (lo,hi2))).cell? ⟨w.heap.size,i,none⟩=some (.int .u8 (x.toNat:Int)):=(World.cell?_alloc_mark w C 5 _ i).trans hBi;have hf1:(w.alloc (.cells C 5 (lo,hi2))).frozen? ⟨w.heap.size,i,none⟩=false:=(World.frozen?_alloc_mark w C 5 _ _ i).trans (by rw[decide_eq_false (by omega)];rfl);have hs1:=Yca w C 5 (lo,hi2) i (.int .u8 ((qea x).toNat:Int));clear hBi hBs hz';by_cases hcl:((qea x).toNat:Int)=(x.toNat:Int)
   .go_wp2
    go_roundg g
    case measure=>omega
    case rel=>
     refine ⟨i+1,by omega,by first | rfl | simp,.inr ⟨C,cap,lo,hi2,rfl,rfl,hz,?_⟩⟩;show WUa C (mixL s.data.toList (i+1));rw[jRb hxl (keb hcl)];exact hrow
   go_wp2
   go_roundg g
   case measure=>omega
   case rel=>
    refine ⟨i+1,by omega,by first | rfl | simp,.inr ⟨_,_,_,_,rfl,by first | rfl | exact congrArg World.drew hs1,?_,?_⟩⟩
    .show lo=(C.setIfInBounds i _).size;rw[Array.size_setIfInBounds];exact hz
    have hr:WUa C (mixL s.data.toList i):=hrow;show WUa _ (mixL s.data.toList (i+1));rw[qwb hxl];exact wmb hr (by rw[yBb];exact hi)
end
section
open Go.Shelf Go.RowKit Go.Lib Go.Proofs.Tryz
structure Built (w:World) (b A:Nat):Prop where
 hb:b < w.heap.size
 hA:A < w.heap.size
 c0:w.cell? ⟨b,0,none⟩=some (.int .u32 1)
 c3:w.cell? ⟨b,3,none⟩=some (bI A)
 tab:∀x:UInt8,w.cell? ⟨A,x.toNat,none⟩=some (.int .u8 ((qea x).toNat:Int))
def ranT(T:Array Value)(b:Nat)(w:World):World:=(((((w.setCell ⟨b,1,none⟩ (.int .i32 1)).setCell ⟨b,3,none⟩ (bI w.heap.size)).setCell ⟨b,4,none⟩ (.slice none 0 0)).alloc (.cells T 315)).drew.setCell ⟨b,0,none⟩ (.int .u32 1)).setCell ⟨b,1,none⟩ (.int .i32 0)
theorem wnb(b:Nat)(w:World):ranW b w=ranT kWa b w:=rfl
theorem same0{w:World}{a:Addr}{v v0:Value}(h:w.cell? a=some v0):(w.setCell a v).cell? a=some v:=World.cell?_setCell_same w a v h
theorem kfb{b:Nat}{w:World}(T:Array Value)(hb:b < w.heap.size)(c0:w.cell? ⟨b,0,none⟩=some (.int .u32 0))(c3:w.cell? ⟨b,3,none⟩=some .nilIface):
 (ranT T b w).heap.size=w.heap.size+1/\(ranT T b w).cell? ⟨b,0,none⟩=some (.int .u32 1)/\(ranT T b w).cell? ⟨b,3,none⟩=some (bI w.heap.size)/\∀k,(ranT T b w).cell? ⟨w.heap.size,k,none⟩=T[k]? :=by
 have hne:b≠w.heap.size:=by omega
 refine ⟨by unfold ranT;simp,?_,?_,fun k=>?_⟩
 .unfold ranT;rw[World.cell?_setCell_other _ _ _ _ (v7a (by decide))];refine same0 (v0:=.int .u32 0) ?_;rw[World.cell?_drew,World.cell?_alloc_past _ _ _ (by simp;exact hb),World.cell?_setCell_other _ _ _ _ (v7a (by decide)),World.cell?_setCell_other _ _ _ _ (v7a (by decide)),World.cell?_setCell_other _ _ _ _ (v7a (by decide))];exact c0
 .unfold ranT;rw[World.cell?_setCell_other _ _ _ _ (v7a (by decide)),World.cell?_setCell_other _ _ _ _ (v7a (by decide)),World.cell?_drew,World.cell?_alloc_past _ _ _ (by simp;exact hb),World.cell?_setCell_other _ _ _ _ (v7a (by decide))];refine same0 (v0:=.nilIface) ?_;rw[World.cell?_setCell_other _ _ _ _ (v7a (by decide))];exact c3
 unfold ranT;rw[World.cell?_setCell_other _ _ _ _ (kdb hne),World.cell?_setCell_other _ _ _ _ (kdb hne),World.cell?_drew];exact World.cell?_alloc_at T _ _ k (by simp)
theorem tab_at(x:UInt8):kWa[x.toNat]? =some (.int .u8 ((qea x).toNat:Int)):=by
 have hx:=UInt8.toNat_lt x;unfold kWa;simp only[jBz,jAk,jEc hx,jCp]
 congr 2
 unfold qea;by_cases h:x=0∨x=13
 .rw[if_pos h,if_pos (by rcases h with rfl | rfl <;> decide)];rfl
 rw[if_neg h,if_neg (fun h2=>h (h2.imp (fun e=>UInt8.toNat_inj.1 e) (fun e=>UInt8.toNat_inj.1 e)))]
theorem wob{b d o c:Nat}{w:World}(F:Z7b w b d o c):Built (ranW b w) b w.heap.size:=by
 obtain ⟨h1,h2,h3,h4⟩:=kfb kWa F.hb F.c0 F.c3;have hb:=F.hb;rw[wnb];exact ⟨by omega,by omega,h2,h3,fun x=>(h4 _).trans (tab_at x)⟩
theorem wpb (n : Nat) (a : Addr) (w : World) : (method (n + 1) 316 (.pointer (some a)) "Replace").run prog w = .ok (341, .pointer (some a)) w := by kernel_rfl
theorem Ysa(b A:Nat)(s:ByteArray)(w:World)(hlen:s.size<=4611686018427387904)(B:Built w b A):
 Calls prog 230 #[.pointer (some ⟨b,0,none⟩),.string s] w fun e w' =>e=.returned (.string ⟨(s.data.toList.map qea).toArray⟩)/\(w' =w∨∃C fz,w' =(w.alloc (.cells C 5 fz)).drew):=by
 have hmf:∀(fn:Fn) (first cap:Array Value) (w:World),(Instr.makeFunc fn first cap).run prog w=.ok (.func fn first cap) w:=fun _ _ _ _=>rfl
 have hme:=wpb;have hc3:=B.c3;go_enter func230,Tryz.ntmps230
 go_wp2_with (first | (go_at_call 259;refine (Z8b b _ _ B.c0).mono ?_;rintro e w' ⟨rfl,rfl⟩) | (go_at_call 341;refine (jSb A s _ hlen B.hA B.tab).mono ?_;rintro e w' ⟨rfl,hw'⟩))
 go_ret
 exact ⟨rfl,hw'⟩
theorem Yta(b d o c:Nat)(s:ByteArray)(w:World)(hlen:s.size<=4611686018427387904)(F:Z7b w b d o c):
 Calls prog 230 #[.pointer (some ⟨b,0,none⟩),.string s] w fun e w' =>e=.returned (.string ⟨(s.data.toList.map qea).toArray⟩)/\(w' =ranW b w∨∃C fz,w' =((ranW b w).alloc (.cells C 5 fz)).drew):=by
 have hmf:∀(fn:Fn) (first cap:Array Value) (w:World),(Instr.makeFunc fn first cap).run prog w=.ok (.func fn first cap) w:=fun _ _ _ _=>rfl
 have hme:=wpb;have B:=wob F;have hc3:=B.c3;go_enter func230,Tryz.ntmps230
 go_wp2_with (first | (go_at_call 259;refine (yAb b d o c _ F).mono ?_;rintro e w' ⟨rfl,rfl⟩) | (go_at_call 341;refine (jSb _ s _ hlen B.hA B.tab).mono ?_;rintro e w' ⟨rfl,hw'⟩))
 go_ret
 exact ⟨rfl,hw'⟩
end
def RpQ(w:World)(u:Nat->Nat)(vs:Array Value):Prop:=
 (vs[0]? =some (.int .u32 0)/\vs[1]? =some (.int .i32 0)/\vs[3]? =some .nilIface/\∃d o c,vs[4]? =some (.slice (some ⟨d,o,none⟩) 4 c)/\d < w.heap.size/\o+4<=u d/\
  w.cell? ⟨d,o,none⟩=some (.string ⟨#[0]⟩)/\w.cell? ⟨d,o+1,none⟩=some (.string ⟨#[32]⟩)/\w.cell? ⟨d,o+2,none⟩=some (.string ⟨#[13]⟩)/\w.cell? ⟨d,o+3,none⟩=some (.string ⟨#[32]⟩))∨
 (vs[0]? =some (.int .u32 1)/\∃A,vs[3]? =some (bI A)/\A < w.heap.size/\256<=u A/\∀x:UInt8,w.cell? ⟨A,x.toNat,none⟩=some (.int .u8 ((qea x).toNat:Int)))
theorem RpQ.mono{w w' :World}{u u' :Nat->Nat}{vs:Array Value}(hx:Ext0 w u w' u')(h:RpQ w u vs):RpQ w' u' vs:=by
 rcases h with ⟨h0,h1,h3,d,o,c,h4,hd,hu,s0,s1,s2,s3⟩ | ⟨h0,A,h3,hA,hu,ht⟩
 .refine .inl ⟨h0,h1,h3,d,o,c,h4,jCg hd hx.size,jBp hu (hx.pub d hd),?_,?_,?_,?_⟩
  .rw[hx.cell d _ hd (by omega)];exact s0
  .rw[hx.cell d _ hd (by omega)];exact s1
  .rw[hx.cell d _ hd (by omega)];exact s2
  rw[hx.cell d _ hd (by omega)];exact s3
 refine .inr ⟨h0,A,h3,jCg hA hx.size,jBp hu (hx.pub A hA),fun x=>?_⟩;rw[hx.cell A _ hA (by have:=UInt8.toNat_lt x;omega)];exact ht x
theorem QEa{w:World}{b:Nat}{vs:Array Value}{t:TypeId}{fz:Nat × Nat}(h:w.heap[b]? =some (.cells vs t fz))(c i:Nat)(v:Value):∃vs',(w.setCell ⟨c,i,none⟩ v).heap[b]? =some (.cells vs' t fz)/\vs'.size=vs.size:=by
 unfold World.setCell;simp only[jBx,h];by_cases e:c=b
 .subst e;exact ⟨vs.setIfInBounds i v,by simp,by simp⟩
 exact ⟨vs,by simp[e],rfl⟩
theorem jWa{w:World}{b c:Nat}(h:c≠b)(i:Nat)(v:Value):(w.setCell ⟨c,i,none⟩ v).heap[b]? =w.heap[b]? :=by
 unfold World.setCell;simp only[jBx];simp[h]
theorem VTb(T:Array Value){b k:Nat}{w:World}(hk:k < w.heap.size)(hne:b≠k):(ranT T b w).heap[k]? =w.heap[k]? :=by
 unfold ranT;rw[jWa hne,jWa hne];show (World.alloc _ _).heap[k]? =_;rw[Below.heap_alloc _ _ _ (by simpa using hk),jWa hne,jWa hne,jWa hne]
theorem ranT_own(T:Array Value){b:Nat}{w:World}{vs:Array Value}{t:TypeId}{fz:Nat × Nat}(hb:w.heap[b]? =some (.cells vs t fz)):∃vs',(ranT T b w).heap[b]? =some (.cells vs' t fz)/\vs'.size=vs.size:=by
 have hlt:=zUa hb;unfold ranT;obtain ⟨v1,h1,n1⟩:=QEa hb b 1 (.int .i32 1);obtain ⟨v2,h2,n2⟩:=QEa h1 b 3 (bI w.heap.size);obtain ⟨v3,h3,n3⟩:=QEa h2 b 4 (.slice none 0 0);have h4:(((((w.setCell ⟨b,1,none⟩ (.int .i32 1)).setCell ⟨b,3,none⟩ (bI w.heap.size)).setCell ⟨b,4,none⟩ (.slice none 0 0)).alloc (.cells T 315)).drew).heap[b]? =some (.cells v3 t fz):=by
  show (World.alloc _ _).heap[b]? =_;rw[Below.heap_alloc _ _ _ (by simpa using hlt)];exact h3
 obtain ⟨v5,h5,n5⟩:=QEa h4 b 0 (.int .u32 1);obtain ⟨v6,h6,n6⟩:=QEa h5 b 1 (.int .i32 0);exact ⟨v6,h6,by omega⟩
structure RpG (g:G) (b:Nat) (t:TypeId) (g' :G):Prop where
 loc:g'.loc=g.loc
 old:Old (fun k=>k=b) g g'
 wf:Wf g'
 u0:g'.u b=0
 own:∃vs,g'.w.heap[b]? =some (.cells vs t (0,0))/\vs.size=5/\RpQ g'.w g'.u vs
theorem RpG.refl{g:G}{b:Nat}{t:TypeId}{vs:Array Value}(hb:g.w.heap[b]? =some (.cells vs t (0,0)))(hn:vs.size=5)(hu:g.u b=0)(hw:Wf g)(hq:RpQ g.w g.u vs):RpG g b t g:=
 ⟨rfl,Old.refl _ _,hw,hu,vs,hb,hn,hq⟩
theorem RpG.tail{g g1:G}{b:Nat}{t:TypeId}(h:RpG g b t g1)(C:Array Value)(e:TypeId)(fz:Nat × Nat):RpG g b t ⟨(g1.w.alloc (.cells C e fz)).drew,fun k=>if k=g1.w.heap.size then 0 else g1.u k,g1.loc⟩:=by
 obtain ⟨hl,ho,hw,hu,vs,hb,hn,hq⟩:=h;have hlt:=zUa hb;have hz:∀k,k < g1.w.heap.size->((g1.w.alloc (.cells C e fz)).drew).heap[k]? =g1.w.heap[k]? :=fun k hk=>Below.heap_alloc _ _ _ hk
 have hx:Ext g1.w g1.u (g1.w.alloc (.cells C e fz)).drew (fun k=>if k=g1.w.heap.size then 0 else g1.u k):=⟨by simp,fun k hk=>by
  show g1.u k<=if k=g1.w.heap.size then 0 else g1.u k;rw[if_neg (by omega)];exact jAn _,fun k i hk _=>by
  simp only[World.cell?];rw[hz k hk],fun r hr=>(hz r (zUa hr)).trans hr⟩
 refine ⟨hl,ho.trans ⟨rfl,rfl,rfl,hx,fun k hk _=>⟨hz k hk,by show (if k=g1.w.heap.size then 0 else g1.u k)=_;rw[if_neg (by omega)]⟩⟩,fun k hk=>?_,?_,vs,(hz b hlt).trans hb,hn,hq.mono hx.to0⟩
 .have hk:g1.w.heap.size+1<=k:=by simpa using hk
  show (if k=g1.w.heap.size then 0 else g1.u k)=0;rw[if_neg (by omega)];exact hw k (by omega)
 show (if b=g1.w.heap.size then 0 else g1.u b)=0;rw[hu];exact ite_self 0
theorem RpG.ran{g:G}{b d o c:Nat}{t:TypeId}{vs:Array Value}(hb:g.w.heap[b]? =some (.cells vs t (0,0)))(hn:vs.size=5)(hu:g.u b=0)(hw:Wf g)(F:Z7b g.w b d o c):
 RpG g b t ⟨ranW b g.w,fun k=>if k=g.w.heap.size then 256 else g.u k,g.loc⟩:=by
 have hlt:=zUa hb;have B:=wob F;obtain ⟨hsz,f0,f3,ft⟩:=kfb kWa F.hb F.c0 F.c3;rw[<-wnb]at hsz f0 f3 ft;obtain ⟨vs',hb',hn'⟩:=ranT_own kWa hb;rw[<-wnb]at hb';have hz:∀k,k < g.w.heap.size->k≠b->(ranW b g.w).heap[k]? =g.w.heap[k]? :=fun k hk hne=>by rw[wnb];exact VTb kWa hk (Ne.symm hne)
 have hos:(ranW b g.w).os=g.w.os/\(ranW b g.w).tape=g.w.tape/\(ranW b g.w).output=g.w.output:=by
  rw[wnb];generalize kWa=T;exact ⟨rfl,rfl,rfl⟩
 have huk:∀k,k < g.w.heap.size->(if k=g.w.heap.size then 256 else g.u k)=g.u k:=fun k hk=>if_neg (by omega)
 have hbu:(if b=g.w.heap.size then 256 else g.u b)=0:=(huk b hlt).trans hu;have hcell:∀i,i < 5->(ranW b g.w).cell? ⟨b,i,none⟩=vs'[i]? :=fun i hi=>by
  simp[World.cell?,hb']
 refine ⟨rfl,⟨hos.1,hos.2.1,hos.2.2,⟨by show g.w.heap.size<=(ranW b g.w).heap.size;omega,fun k hk=>jCi (huk k hk).symm,fun k i hk hi=>?_,fun r hr=>?_⟩,fun k hk hne=>⟨hz k hk hne,huk k hk⟩⟩,fun k hk=>?_,hbu,vs',hb',hn'.trans hn,.inr ⟨(hcell 0 (by omega)).symm.trans f0,g.w.heap.size,(hcell 3 (by omega)).symm.trans f3,by show g.w.heap.size < (ranW b g.w).heap.size;omega,jCi (if_pos rfl).symm,B.tab⟩⟩
 .have hne:k≠b:=by rintro rfl;omega
  simp only[World.cell?];rw[hz k hk hne]
 .have hne:r≠b:=by rintro rfl;rw[hb]at hr;cases hr
  exact (hz r (zUa hr) hne).trans hr
 have hk:(ranW b g.w).heap.size<=k:=hk;show (if k=g.w.heap.size then 256 else g.u k)=0;rw[if_neg (by omega)];exact hw k (by omega)
theorem rp_step{g:G}{b:Nat}{t:TypeId}{vs:Array Value}(s:ByteArray)(hlen:s.size<=4611686018427387904)(hb:g.w.heap[b]? =some (.cells vs t (0,0)))(hn:vs.size=5)(hu:g.u b=0)(hw:Wf g)(hq:RpQ g.w g.u vs):
 Calls prog 230 #[.pointer (some ⟨b,0,none⟩),.string s] g.w fun e w' =>e=.returned (.string ⟨(s.data.toList.map qea).toArray⟩)/\∃g',g'.w=w' /\RpG g b t g' :=by
 have hlt:=zUa hb;have hcell:∀i,g.w.cell? ⟨b,i,none⟩=vs[i]? :=fun i=>by simp[World.cell?,hb]
 rcases hq with ⟨h0,h1,h3,d,o,c,h4,hd,hud,s0,s1,s2,s3⟩ | ⟨h0,A,h3,hA,huA,ht⟩
 .have F:Z7b g.w b d o c:=⟨hlt,hd,by rintro rfl;omega,(hcell 0).trans h0,(hcell 1).trans h1,(hcell 3).trans h3,(hcell 4).trans h4,fun i=>by simp[World.frozen?,hb],s0,s1,s2,s3⟩;refine (Yta b d o c s g.w hlen F).mono ?_;rintro e w' ⟨rfl,rfl | ⟨C,fz,rfl⟩⟩
  .exact ⟨rfl,_,rfl,RpG.ran hb hn hu hw F⟩
  exact ⟨rfl,_,rfl,(RpG.ran hb hn hu hw F).tail C _ fz⟩
 refine (Ysa b A s g.w hlen ⟨hlt,hA,(hcell 0).trans h0,(hcell 3).trans h3,ht⟩).mono ?_;rintro e w' ⟨rfl,rfl | ⟨C,fz,rfl⟩⟩
 .exact ⟨rfl,g,rfl,RpG.refl hb hn hu hw (.inr ⟨h0,A,h3,hA,huA,ht⟩)⟩
 exact ⟨rfl,_,rfl,(RpG.refl hb hn hu hw (.inr ⟨h0,A,h3,hA,huA,ht⟩)).tail C _ fz⟩
theorem jja(O:Nat)(s:Str)(r:Str)(hr:z7a s=some r):RunS prog 230 [.ptr O 0,.s s] [(O,.opq 0 5 RpQ)] (.s r) [(O,.opq 0 5 RpQ)] O []:=by
 unfold z7a at hr;split at hr
 case isFalse=>cases hr
 rename_i hlen;cases hr;refine ⟨⟨_,_,⟨func230,rfl,by kernel_rfl⟩⟩,by simp[Sto.okS,AO.okS],by simp[Sto.okS,AO.okS],fun g vs hw hg ho ha=>?_⟩;obtain ⟨hsz,hrel⟩:=ha;obtain ⟨vl⟩:=vs
 match vl,hsz with
 | [x,y],_=>
  have hx:=hrel 0 _ rfl;have hy:y=.string (strB s):=z6a (hrel 1 _ rfl);subst hy;have hO:=ho.obj O _ (show Sto.get [(O,AO.opq 0 5 RpQ)] O=some (.opq 0 5 RpQ) by simp[Sto.get]);have hget:∀o ob,Sto.get [(O,AO.opq 0 5 RpQ)] o=some ob->o=O/\ob=.opq 0 5 RpQ:=fun o ob h=>by
   rw[Sto.get_cons]at h;split at h
   .rename_i e;exact ⟨e.symm,(Option.some.inj h).symm⟩
   cases h
  cases hO with
  | @opq t t1 n Q b vs' hl hb hn hu hq=>
   have hx' :x=.pointer (some ⟨b,0,none⟩):=by
    cases hx with
    | ptr hl2=>rw[hl]at hl2;cases hl2;rfl
   subst hx';refine callsIn_wide.2 ((rp_step (strB s) (by rw[zNa];exact hlen) hb hn hu hw (hq _ _ ⟨jAn _,fun _ _=>jAn _,fun _ _ _ _=>rfl⟩)).mono ?_);rintro e w' ⟨rfl,g',rfl,G'⟩;obtain ⟨hl',hold,hwf,hu',vs2,hb2,hn2,hq2⟩:=G';have hsb:SB g [(O,AO.opq 0 5 RpQ)] b:=⟨O,.opq 0 5 RpQ,by simp[Sto.get],by rw[hl];rfl⟩;refine ⟨g',_,rfl,fun k _=>by rw[hl'],hold.mono fun k _ e=>e▸hsb,hwf,rfl,?_,?_,?_,?_⟩
   .have:(strB s).data.toList.map qea=s.map qea:=by simp[strB]
    rw[this];exact .pv (.b rfl)
   .intro o ob h;obtain ⟨rfl,rfl⟩:=hget o ob h;exact .opq (by rw[hl'];exact hl) hb2 hn2 hu' fun w' u' hx' =>hq2.mono hx'
   .intro o o' ob ob' b' h1 h2 _ _;rw[(hget o ob h1).1,(hget o' ob' h2).1]
   intro o ob b' h1 h2;obtain ⟨rfl,rfl⟩:=hget o ob h1;rw[hl',hl]at h2;cases h2;exact .inr hsb
section
open Go.Shelf Go.RowKit Go.Lib Go.Proofs.Tryz
theorem wqb(d o c:Nat)(w:World)(s0:w.cell? ⟨d,o,none⟩=some (.string ⟨#[0]⟩))(s1:w.cell? ⟨d,o+1,none⟩=some (.string ⟨#[32]⟩))(s2:w.cell? ⟨d,o+2,none⟩=some (.string ⟨#[13]⟩))(s3:w.cell? ⟨d,o+3,none⟩=some (.string ⟨#[32]⟩)):
 Calls prog 228 #[.slice (some ⟨d,o,none⟩) 4 c] w fun e w' =>∃(cap:Nat) (z:Array Value),e=.returned (.pointer (some ⟨w.heap.size+1,0,none⟩))/\
  w' =((w.alloc (.cells (#[Value.string ⟨#[0]⟩,.string ⟨#[32]⟩,.string ⟨#[13]⟩,.string ⟨#[32]⟩]++z) 9)).alloc (.cells #[.int .u32 0,.int .i32 0,.int .u32 0,.nilIface,.slice (some ⟨w.heap.size,0,none⟩) 4 cap] 275)).drew:=by
 go_enter func228,Tryz.ntmps228
 go_wp2
 go_ret
 exact ⟨_,_,rfl,rfl⟩
theorem Z9b{g:G}{v:Value}(h:Rel g (.l cS [[0],[32],[13],[32]]) v):∃d o c,v=.slice (some ⟨d,o,none⟩) 4 c/\g.w.cell? ⟨d,o,none⟩=some (.string ⟨#[0]⟩)/\g.w.cell? ⟨d,o+1,none⟩=some (.string ⟨#[32]⟩)/\g.w.cell? ⟨d,o+2,none⟩=some (.string ⟨#[13]⟩)/\g.w.cell? ⟨d,o+3,none⟩=some (.string ⟨#[32]⟩):=by
 cases h with
 | pv h=>
  unfold pL at h;generalize hE:List.map cS [[0],[32],[13],[32]]=elems at h;cases h with
  | @sl _ _ a cap size b off val hn h0 hc hz ha hu hcell h=>
   have hne:elems≠ []:=by rw[<-hE];simp
   have hs1:size=1:=by
    have:=hz (cS [0]) (by rw[<-hE];simp);simpa[cS]using this.symm
   subst hs1;have hlen:elems.length=4:=by rw[<-hE];rfl
   have key:∀(i:Nat) (s:Str),elems[i]? =some (cS s)->g.w.cell? ⟨b,off+i,none⟩=some (.string (strB s)):=fun i s hi=>by
    have hil:=(jAd.1 hi).1;rw[hcell i (by omega)];have:=h i 0 _ (.b (.string (strB s))) hi rfl;simp only[jDm,jCy]at this;rw[z6a (g:=g) (.pv this)]
   refine ⟨b,off,cap,by rw[ha hne,hlen],key 0 [0] (by rw[<-hE];rfl),key 1 [32] (by rw[<-hE];rfl),key 2 [13] (by rw[<-hE];rfl),key 3 [32] (by rw[<-hE];rfl)⟩
theorem Kga(k:Nat):RunS prog 228 [.l cS [[0],[32],[13],[32]]] [] (.ptr k 0) [(k,.opq 0 5 RpQ)] k [k]:=by
 refine ⟨⟨_,_,⟨func228,rfl,by kernel_rfl⟩⟩,by simp[Sto.okS],by simp[Sto.okS,AO.okS],fun g vs hw hg ho ha=>?_⟩;obtain ⟨hsz,hrel⟩:=ha;obtain ⟨vl⟩:=vs
 match vl,hsz with
 | [x],_=>
  obtain ⟨d,o,c,hx,s0,s1,s2,s3⟩:=Z9b (hrel 0 _ rfl);have hx:x=.slice (some ⟨d,o,none⟩) 4 c:=hx;subst hx;refine callsIn_wide.2 ((wqb d o c g.w s0 s1 s2 s3).mono ?_);rintro e w' ⟨cap,z,rfl,rfl⟩;generalize hC: #[Value.string ⟨#[0]⟩,.string ⟨#[32]⟩,.string ⟨#[13]⟩,.string ⟨#[32]⟩]++z=C;generalize hV: #[Value.int .u32 0,.int .i32 0,.int .u32 0,.nilIface,.slice (some ⟨g.w.heap.size,0,none⟩) 4 cap]=V;have hz:∀q,q < g.w.heap.size->(((g.w.alloc (.cells C 9)).alloc (.cells V 275)).drew).heap[q]? =g.w.heap[q]? :=fun q hq=>by
   show (World.alloc _ _).heap[q]? =_;rw[Below.heap_alloc _ _ _ (by simp;omega),Below.heap_alloc _ _ _ hq]
  have h1:(((g.w.alloc (.cells C 9)).alloc (.cells V 275)).drew).heap[g.w.heap.size]? =some (.cells C 9 (0,0)):=by
   show (World.alloc _ _).heap[_]? =_;rw[Below.heap_alloc _ _ _ (by simp)];exact heap_alloc_new g.w _
  have h2:(((g.w.alloc (.cells C 9)).alloc (.cells V 275)).drew).heap[g.w.heap.size+1]? =some (.cells V 275 (0,0)):=by
   show (World.alloc _ _).heap[_]? =_;have:=heap_alloc_new (g.w.alloc (.cells C 9)) (.cells V 275);simpa using this
  have hsize:(((g.w.alloc (.cells C 9)).alloc (.cells V 275)).drew).heap.size=g.w.heap.size+2:=by simp
  generalize hW:((g.w.alloc (.cells C 9)).alloc (.cells V 275)).drew=W at hz h1 h2 hsize;have hos:W.os=g.w.os/\W.tape=g.w.tape/\W.output=g.w.output:=by subst hW;exact ⟨rfl,rfl,rfl⟩
  have hcell:∀i,W.cell? ⟨g.w.heap.size,i,none⟩=C[i]? :=fun i=>by simp[World.cell?,h1]
  have hget:∀o ob,Sto.get [(k,AO.opq 0 5 RpQ)] o=some ob->o=k/\ob=.opq 0 5 RpQ:=fun o ob h=>by
   rw[Sto.get_cons]at h;split at h
   .rename_i e;exact ⟨e.symm,(Option.some.inj h).symm⟩
   cases h
  have hq:RpQ W (fun q=>if q=g.w.heap.size then 4 else if q=g.w.heap.size+1 then 0 else g.u q) V:=by
   subst hV hC;refine .inl ⟨rfl,rfl,rfl,g.w.heap.size,0,cap,rfl,by omega,jCi (if_pos rfl).symm,?_,?_,?_,?_⟩;all_goals (rw[hcell,jBn (by simp)];rfl)
  have huk:∀q,q < g.w.heap.size->(if q=g.w.heap.size then 4 else if q=g.w.heap.size+1 then 0 else g.u q)=g.u q:=fun q hq=>by rw[if_neg (by omega),if_neg (by omega)]
  refine ⟨⟨W,fun q=>if q=g.w.heap.size then 4 else if q=g.w.heap.size+1 then 0 else g.u q,fun q=>if q=k then .blk (g.w.heap.size+1) else g.loc q⟩,_,rfl,fun q hq=>if_neg (by simpa using hq),
   ⟨hos.1,hos.2.1,hos.2.2,⟨by show g.w.heap.size<=W.heap.size;omega,fun q hq=>jCi (huk q hq).symm,fun q i hq _=>by simp only[World.cell?];rw[hz q hq],fun r hr=>(hz r (zUa hr)).trans hr⟩,fun q hq _=>⟨hz q hq,huk q hq⟩⟩,fun q hq=>?_,rfl,.ptr (if_pos rfl),?_,?_,?_⟩
  .have hq:W.heap.size<=q:=hq;show (if q=g.w.heap.size then 4 else if q=g.w.heap.size+1 then 0 else g.u q)=0;rw[if_neg (by omega),if_neg (by omega)];exact hw q (by omega)
  .intro o ob h;obtain ⟨rfl,rfl⟩:=hget o ob h;refine .opq (if_pos rfl) h2 (by subst hV;rfl) ?_ fun w' u' hx' =>hq.mono hx'
   show (if g.w.heap.size+1=g.w.heap.size then 4 else if g.w.heap.size+1=g.w.heap.size+1 then 0 else g.u _)=0;rw[if_neg (by omega),if_pos rfl]
  .intro o o' ob ob' b' h1 h2 _ _;rw[(hget o ob h1).1,(hget o' ob' h2).1]
  intro o ob b' h1 h2;obtain ⟨rfl,rfl⟩:=hget o ob h1;have h2:AO.own (.opq 0 5 RpQ) (if o=o then .blk (g.w.heap.size+1) else g.loc o) b' :=h2;rw[if_pos rfl]at h2;have h2:some (g.w.heap.size+1)=some b' :=h2;cases h2;exact .inl (by omega)
end
theorem wrb{g:G}{s:Str}{v:Value}(h:Rel g (.s s) v):v=.string (strB s):=z6a h
theorem yDb{g:G}{w' :World}(h:Below g.w.heap.size g.w w'):Old (fun _=>False) g ⟨w',g.u,g.loc⟩:=
 ⟨h.os,h.tape,h.output,⟨h.size,fun _ _=>jAn _,fun k i hk _=>by simp only[World.cell?];rw[h.block k hk],fun r hr=>(h.block r (zUa hr)).trans hr⟩,fun k hk _=>⟨h.block k hk,rfl⟩⟩
theorem Yua(s t:Str)(r:Str)(hr:yZa s t=some r):Run prog 229 [.s s,.s t] (.s r):=by
 unfold yZa at hr;split at hr
 case isFalse=>cases hr
 rename_i hc;obtain ⟨h1,h2,h3⟩:=hc;cases hr;refine ⟨⟨_,_,⟨func229,rfl,by kernel_rfl⟩⟩,fun g vs hw hg ha=>?_⟩;obtain ⟨hsz,hrel⟩:=ha;obtain ⟨l⟩:=vs
 match l,hsz with
 | [x,y],_=>
  obtain rfl:=wrb (hrel 0 _ rfl);obtain rfl:=wrb (hrel 1 _ rfl);have h116:(prog.info? 197).map (fun i=>(i.zero,i.size))=some (some (.agg (Array.replicate 256 (.bool false))),256):=by kernel_rfl
  refine callsIn_wide.2 ((Any.strings_Trim_laid Tryz.lays160 h116 (strB s) (strB t) g.w (by rw[zNa];exact h1) (by rw[zNa];exact h2) (ascii_of_all (by simpa[jnb,strB]using h3))).mono ?_);rintro e w' ⟨rfl,hb⟩;refine ⟨⟨w',g.u,g.loc⟩,_,rfl,(by intros;rfl),yDb hb,fun k hk=>hw k (jBp hb.size hk),rfl,?_⟩;rw[show (strB s).data.toList=s by simp[strB],show (strB t).data.toList=t by simp[strB]];exact .pv (.b rfl)
theorem wsb{g:G}{s:Str}{v:Value}(h:Rel g (.s s) v):v=.string (strB s):=z6a h
theorem yEb{g:G}{w' :World}(h:Below g.w.heap.size g.w w'):Old (fun _=>False) g ⟨w',g.u,g.loc⟩:=
 ⟨h.os,h.tape,h.output,⟨h.size,fun _ _=>jAn _,fun k i hk _=>by simp only[World.cell?];rw[h.block k hk],fun r hr=>(h.block r (zUa hr)).trans hr⟩,fun k hk _=>⟨h.block k hk,rfl⟩⟩
theorem Qfa(s t:Str)(r:Str)(hr:via s t=some r):Run prog 251 [.s s,.s t] (.s r):=by
 unfold via at hr;split at hr
 case isFalse=>cases hr
 rename_i hc;obtain ⟨h1,h2,h3⟩:=hc;cases hr;refine ⟨⟨_,_,⟨func251,rfl,by kernel_rfl⟩⟩,fun g vs hw hg ha=>?_⟩;obtain ⟨hsz,hrel⟩:=ha;obtain ⟨l⟩:=vs
 match l,hsz with
 | [x,y],_=>
  obtain rfl:=wsb (hrel 0 _ rfl);obtain rfl:=wsb (hrel 1 _ rfl);have h116:(prog.info? 197).map (fun i=>(i.zero,i.size))=some (some (.agg (Array.replicate 256 (.bool false))),256):=by kernel_rfl
  refine callsIn_wide.2 ((Any.strings_TrimRight_laid Tryz.lays162 h116 (strB s) (strB t) g.w (by rw[zNa];exact h1) (by rw[zNa];exact h2) (ascii_of_all (by simpa[jnb,strB]using h3))).mono ?_);rintro e w' ⟨rfl,hb⟩;refine ⟨⟨w',g.u,g.loc⟩,_,rfl,(by intros;rfl),yEb hb,fun k hk=>hw k (jBp hb.size hk),rfl,?_⟩;rw[show (strB s).data.toList=s by simp[strB],show (strB t).data.toList=t by simp[strB]];exact .pv (.b rfl)
theorem JWa(a0:Str)(r:Bool)(hr:jxa a0=some r):Run prog 252 [.s a0] (.bo r):=by
 unfold jxa at hr;refine rfx (fn:=f252) func252 fun g0 hg=>?_
 refine clx tk 8 hr (Kda _ _) fun v1 _ hr=>?_
 refine clx tk 11 hr (zwa _) fun v3 _ hr=>?_
 exact kx tk 5 hr
theorem WVa(a0:Str)(r:zga × Bool)(hr:yda a0=some r):Run prog 227 [.s a0] (.tup [.agg [.s r.1.Name,.s r.1.Value],.bo r.2]):=by
 unfold yda at hr;refine rfx (fn:=Tryz.f227) func227 fun g0 hg=>?_
 refine clx tk 9 hr (Qba _ _) fun v1 _ hr=>?_
 refine clx tk 12 hr (Qfa _ _) fun v3 _ hr=>?_
 refine jq tk 3 hr [2] [] (fun j5=>[(3,.bo j5)]) (fun _=>[(2,.cells [.s v3,.s v1.2.1])]) (fun j5 hr=>?_) (fun j5 hr=>?_)
 .refine bx tk 6 19 hr (fun c6 hr=>?_) fun c6 hr=>?_
  .refine rn tk 1 rfl ?_;obtain ⟨v7,h8,hr⟩:=zaa hr;refine ug rfl rfl rfl<|cl (JWa _ _ h8) rfl rfl ?_;exact jx tk 4 hr
  exact jx tk 6 hr
 exact kx tk 1 hr
theorem Kab{g:G}{l:List UInt8}{v:Value}(h:Rel g (.l cU l) v):∀n cap,v=.slice none n cap->n=0/\cap=0:=by
 intro n cap e;cases h with
 | pv h=>
  unfold pL at h;generalize l.map cU=elems at h;cases h with
  | @sl _ _ a cap2 size b off val hn h0 hc hz ha hu hcell h=>
   cases e;obtain ⟨h1,h2⟩:=h0 rfl;exact ⟨by rw[h2];rfl,h1⟩
theorem Vxa(a:List UInt8)(c:UInt8)(r:Int)(hr:vja a c=some r):Run prog 140 [.l cU a,.u8 c] (.i r):=by
 unfold vja at hr;cases hr;refine ⟨⟨_,_,⟨func140,rfl,by kernel_rfl⟩⟩,fun g vs hw hg ha=>?_⟩;obtain ⟨hsz,hrel⟩:=ha;obtain ⟨l⟩:=vs
 match l,hsz with
 | [x,y],_=>
  have h0:Rel g (.l cU a) x:=hrel 0 _ rfl;obtain rfl:y=.int .u8 (c.toNat:Int):=z6a (hrel 1 _ rfl);obtain ⟨ad,cap,rfl,hcap,hcell⟩:=Vva h0;refine callsIn_wide.2 ?_
  suffices hs:Calls prog 140 #[.slice ad a.length cap,.int .u8 (c.toNat:Int)] g.w fun e w' =>e=.returned (.int .i64 (Lib.indexByte a c))/\w' =g.w by
   refine hs.mono ?_;rintro e w' ⟨rfl,rfl⟩;exact ⟨g,_,rfl,(by intros;rfl),Old.refl _ g,hw,rfl,.pv (.b rfl)⟩
  by_cases hs:a=[]
  .subst hs;cases ad with
   | none=>
    obtain ⟨_,rfl⟩:=Kab h0 _ _ rfl;exact Tryz.bytes_IndexByte_nil _ g.w
   | some ad=>
    have:=Tryz.bytes_IndexByte_at ad 0 cap [] (c.toNat:Int) g.w rfl (fun i hi=>by omega);simpa[Lib.bytesOf]using this
  obtain ⟨b1,o1,rfl,hc1⟩:=hcell hs;have:=Tryz.bytes_IndexByte_at ⟨b1,o1,none⟩ a.length cap (nums a) (c.toNat:Int) g.w (by simp[nums]) hc1;rw[WQa]at this;simpa using this
theorem QSa(a0:List UInt8)(a1:List UInt8)(r:List UInt8)(hr:qka a0 a1=some r):Run prog 250 [.l cU a0,.l cU a1] (.l cU r):=by
 unfold qka at hr;refine rfx (fn:=f250) func250 fun g0 hg=>?_
 refine clx tk 10 hr (vAa _ _) fun v1 _ hr=>?_
 refine ax tk 2 7 hr (fun hr=>?_) fun hr=>?_
 .refine rn tk 4 rfl<|wn tk rfl rfl rfl<|rn tk 1 rfl<|wn tk rfl rfl rfl<|rn tk 1 rfl ?_;obtain ⟨v4,h5,hr⟩:=zaa hr;refine wlH tk h5 rfl rfl rfl (fun _=>rfl) rfl ?_;exact kx tk 5 hr
 exact kx tk 9 hr
theorem JXa(a0:List UInt8)(r:Str × Int)(hr:jNa a0=some r):Run prog 225 [.l cU a0] (.tup [.s r.1,.i r.2]):=by
 unfold jNa at hr;refine rfx (fn:=Tryz.f225) func225 fun g0 hg=>?_
 refine clx tk 9 hr (Vxa _ _) fun v1 _ hr=>?_
 refine ax tk 10 8 hr (fun hr=>?_) fun hr=>?_
 .refine rn tk 3 rfl<|wb tk rfl rfl rfl<|rn tk 1 rfl<|wn tk rfl rfl rfl ?_;exact kx tk 6 hr
 refine rn tk 6 rfl ?_;obtain ⟨v4,h5,hr⟩:=zaa hr;refine wlH tk h5 rfl rfl rfl (fun _=>rfl) rfl ?_;refine vqa rfl (jea (F:=cU) (l:=([(13:UInt8)]:List UInt8)) zja zCa rfl (fun _=>rfl) rfl rfl) zja zCa (kCa rfl) (kCa rfl) rfl (hO ?_);refine clx tk 0 hr (QSa _ _) fun v6 _ hr=>?_
 refine wb tk rfl rfl rfl ?_;exact kx tk 7 hr
theorem JYa(a0:List UInt8)(r:(List zga) × Int × zqa)(hr:Kba a0=some r):Run prog 194 [.l cU a0] (.tup [.l zga.pc r.1,.i r.2.1,.agg [.i r.2.2.Code,.i r.2.2.Index]]):=by
 unfold Kba at hr;refine rfx (fn:=f194) func194 fun g0 hg=>?_
 refine rn tk 11 rfl<|wn tk rfl rfl rfl ?_;refine ax tk 3 16 hr (fun hr=>?_) fun hr=>?_
 .refine clx tk 2 hr (zea _ _) fun v2 _ hr=>?_
  exact kx tk 7 hr
 refine rn tk 5 rfl ?_;refine vWa 1005 (d:=5) 84 2 rfl rfl rfl (hO ?_);refine aq1 tk 9 hr [0,4,5] [4] (fun s4=>[(6,.i s4.1)]) (fun s4=>[(1005,.row 84 true 2 (List.map zga.pc s4.2))]) (.exit 0) [4,5] [4] (fun b5=>[(6,.i b5.1)]) (fun b5=>[(1005,.row 84 true 2 (List.map zga.pc b5.2))]) (fun s4 x6 hr=>?_) (fun b5 hr=>?_)
 .unfold wxa at hr;refine rn tk 5 rfl<|wn tk rfl rfl rfl ?_;refine ax tk 3 21 hr (fun hr=>?_) fun hr=>?_
  .refine rn tk 7 rfl ?_;obtain ⟨v8,h9,hr⟩:=zaa hr;refine wlL tk h9 rfl rfl rfl (fun _=>rfl) rfl ?_;refine clx tk 0 hr (JXa _) fun v10 _ hr=>?_
   refine ax tk 14 30 hr (fun hr=>?_) fun hr=>?_
   .exact ox tk 11 hr
   refine jq tk 3 hr [0,4,5,6,7,8] [1005,4] (fun j13=>[(41,.bo j13)]) (fun _=>[]) (fun j13 hr=>?_) (fun j13 hr=>?_)
   .refine rn tk 2 rfl ?_;obtain ⟨v14,h15,hr⟩:=zaa hr;refine ws tk h15 rfl rfl rfl rfl ?_;refine clx tk 0 hr (v5a _) fun v16 _ hr=>?_
    refine bx tk 1 37 hr (fun c18 hr=>?_) fun c18 hr=>?_
    .refine rn tk 1 rfl<|ug rfl rfl rfl<|wnh tk rfl rfl rfl rfl ?_;exact jx tk 3 hr
    exact jx tk 5 hr
   refine ax tk 0 41 hr (fun hr=>?_) fun hr=>?_
   .refine rn tk 4 rfl<|wnh tk rfl rfl rfl rfl<|rn tk 1 rfl ?_;obtain ⟨v20,h21,hr⟩:=zaa hr;refine wih tk h21 rfl rfl rfl rfl rfl<|rn tk 1 rfl ?_;obtain ⟨v22,h23,hr⟩:=zaa hr;refine wq (VJa (F:=zga.pc) (l:=s4.2) (n:=((w64 ((s4.2.length:Int) - 1)))) (j:=1) rfl rfl zGa rfl h23 rfl) rfl rfl rfl<|rn tk 1 rfl ?_;obtain ⟨v24,h25,hr⟩:=zaa hr;refine wc h25 rfl rfl rfl ?_;obtain ⟨v26,h27,hr⟩:=zaa hr;refine wih tk h27 rfl rfl rfl rfl rfl<|rn tk 1 rfl ?_;obtain ⟨v28,h29,hr⟩:=zaa hr;refine wo (Z1a (F:=zga.pc) (l:=s4.2) (n:=((w64 ((s4.2.length:Int) - 1)))) (j:=1) (v:=v28) (v' :=((zga.mk v28.Name v24))) (pcs:=[pS v24]) rfl rfl rfl zGa rfl h29 rfl rfl) rfl ?_;exact cx tk 13 hr
   refine clx tk 5 hr (WVa _) fun v30 _ hr=>?_
   refine ax tk 15 62 hr (fun hr=>?_) fun hr=>?_
   .exact ox tk 3 hr
   refine rn tk 6 rfl<|wz zga.pc ([v30.1]:List zga) tk rfl rfl (fun _=>rfl) rfl rfl rfl ?_;obtain ⟨v33,h34,hr⟩:=zaa hr;refine wa tk h34 rfl rfl rfl rfl (fun _=>rfl) rfl rfl ?_;exact cx tk 10 hr
  exact ox tk 2 hr
 refine rn tk 6 rfl<|wnh tk rfl rfl rfl rfl ?_;refine ax tk 3 72 hr (fun hr=>?_) fun hr=>?_
 .refine clx tk 2 hr (zea _ _) fun v36 _ hr=>?_
  exact kx tk 7 hr
 refine rn tk 4 rfl<|wz cS ([([0]:Str),([32]:Str),([13]:Str),([32]:Str)]:List Str) tk rfl rfl (fun _=>rfl) rfl rfl rfl<|wo (Qqa (k:=75) (Kga 7075) rfl rfl Zua) rfl<|rn tk 7 rfl<|wnh tk rfl rfl rfl rfl ?_;refine aq2 tk 4 hr [4,5,6,11,77] [7075,4] (fun s38=>[(78,.i s38.1)]) (fun s38=>[(1005,.row 84 true 2 (List.map zga.pc s38.2))]) (.exit 2) [4,5,6] [4] (fun _=>[]) (fun b39=>[(1005,.row 84 true 2 (List.map zga.pc b39))]) .ret [4] [] (fun b40=>[(2,.l zga.pc b40.1),(3,.i b40.2.1)]) (fun b40=>[(4,.cells [.i b40.2.2.Code,.i b40.2.2.Index])]) (fun s38 x42 hr=>?_) (fun b39 hr=>?_) (fun b40 hr=>?_)
 .unfold wya at hr;refine ax tk 6 79 hr (fun hr=>?_) fun hr=>?_
  .refine rn tk 15 rfl ?_;obtain ⟨v44,h45,hr⟩:=zaa hr;refine wih tk h45 rfl rfl rfl rfl rfl<|rn tk 1 rfl ?_;obtain ⟨v46,h47,hr⟩:=zaa hr;refine wq (VJa (F:=zga.pc) (l:=s38.2) (n:=s38.1) (j:=1) rfl rfl zGa rfl h47 rfl) rfl rfl rfl ?_;refine csx tk 0 hr (jja 7075 v46.Value) fun v48 _ hr=>?_
   refine clx tk 0 hr (Yua _ _) fun v50 _ hr=>?_
   refine ax tk 11 91 hr (fun hr=>?_) fun hr=>?_
   .refine clx tk 3 hr (zea _ _) fun v53 _ hr=>?_
    exact ox tk 9 hr
   refine rn tk 6 rfl ?_;obtain ⟨v55,h56,hr⟩:=zaa hr;refine wih tk h56 rfl rfl rfl rfl rfl<|rn tk 1 rfl ?_;obtain ⟨v57,h58,hr⟩:=zaa hr;refine wo (Z1a (F:=zga.pc) (l:=s38.2) (n:=s38.1) (j:=1) (v:=v57) (v' :=((zga.mk v57.Name v50))) (pcs:=[pS v50]) rfl rfl rfl zGa rfl h58 rfl rfl) rfl ?_;exact cx tk 7 hr
  exact ox tk 2 hr
 .refine clx tk 6 hr zya fun v59 _ hr=>?_
  refine rn tk 5 rfl ?_;refine yDa 1005 rfl (hC ?_);refine qTa (d:=2) (F:=zga.pc) (l:=b39) rfl rfl (hC ?_);exact kx tk 1 hr
 exact kx tk 2 hr
theorem WWa(a0:List UInt8)(r:List UInt8)(hr:yea a0=some r):Run prog 195 [.l cU a0] (.l cU r):=by
 unfold yea at hr;refine rfx (fn:=f195) func195 fun g0 hg=>?_
 refine rn tk 8 rfl ?_;refine yva 1003 (d:=3) 5 1 rfl rfl rfl (hO ?_);refine aq1 tk 9 hr [0,3] [] (fun s1=>[(4,.i s1.1)]) (fun s1=>[(1003,.row 5 false 1 (List.map cU s1.2))]) (.exit 0) [3] [] (fun _=>[]) (fun b2=>[(1003,.row 5 false 1 (List.map cU b2))]) (fun s1 x3 hr=>?_) (fun b2 hr=>?_)
 .unfold vGa at hr;refine rn tk 5 rfl<|wn tk rfl rfl rfl ?_;refine ax tk 3 8 hr (fun hr=>?_) fun hr=>?_
  .refine jq tk 2 hr [0,3] [] (fun j5=>[(4,.i j5.1)]) (fun j5=>[(1003,.row 5 false 1 (List.map cU j5.2))]) (fun j5 hr=>?_) (fun j5 hr=>?_)
   .refine jq tk 2 hr [0,3,4] [1003] (fun j6=>[(18,.bo j6)]) (fun _=>[]) (fun j6 hr=>?_) (fun j6 hr=>?_)
    .refine rn tk 3 rfl ?_;obtain ⟨v7,h8,hr⟩:=zaa hr;refine wi tk h8 rfl rfl rfl rfl rfl ?_;refine bx tk 3 24 hr (fun c9 hr=>?_) fun c9 hr=>?_
     .refine rn tk 3 rfl<|ug rfl rfl rfl<|wn tk rfl rfl rfl ?_;refine bx tk 3 31 hr (fun c10 hr=>?_) fun c10 hr=>?_
      .refine rn tk 3 rfl ?_;obtain ⟨v11,h12,hr⟩:=zaa hr;refine ug rfl rfl rfl<|wi tk h12 rfl rfl rfl rfl rfl ?_;exact jx tk 5 hr
      exact jx tk 9 hr
     exact jx tk 16 hr
    refine ax tk 0 18 hr (fun hr=>?_) fun hr=>?_
    .refine rn tk 9 rfl<|wz cU ([(13:UInt8),(10:UInt8)]:List UInt8) tk rfl rfl (fun _=>rfl) rfl rfl rfl ?_;obtain ⟨v14,h15,hr⟩:=zaa hr;refine wa tk h15 rfl rfl rfl rfl (fun _=>rfl) rfl rfl ?_;exact jx tk 4 hr
    refine jq tk 0 hr [0,3,4] [1003] (fun j16=>[(44,.bo j16)]) (fun _=>[]) (fun j16 hr=>?_) (fun j16 hr=>?_)
    .refine rn tk 3 rfl ?_;obtain ⟨v17,h18,hr⟩:=zaa hr;refine wi tk h18 rfl rfl rfl rfl rfl ?_;refine bx tk 3 50 hr (fun c19 hr=>?_) fun c19 hr=>?_
     .exact jx tk 8 hr
     refine rn tk 2 rfl ?_;obtain ⟨v20,h21,hr⟩:=zaa hr;refine ug rfl rfl rfl<|wi tk h21 rfl rfl rfl rfl rfl ?_;exact jx tk 5 hr
    refine ax tk 0 44 hr (fun hr=>?_) fun hr=>?_
    .refine rn tk 2 rfl<|wz cU ([(13:UInt8),(10:UInt8)]:List UInt8) tk rfl rfl (fun _=>rfl) rfl rfl rfl ?_;obtain ⟨v23,h24,hr⟩:=zaa hr;refine wa tk h24 rfl rfl rfl rfl (fun _=>rfl) rfl rfl ?_;exact jx tk 4 hr
    refine rn tk 4 rfl ?_;obtain ⟨v25,h26,hr⟩:=zaa hr;refine wi tk h26 rfl rfl rfl rfl rfl<|rn tk 1 rfl<|wz cU ([v25]:List UInt8) tk rfl rfl (fun _=>rfl) rfl rfl rfl ?_;obtain ⟨v27,h28,hr⟩:=zaa hr;refine wa tk h28 rfl rfl rfl rfl (fun _=>rfl) rfl rfl ?_;exact jx tk 4 hr
   exact cx tk 5 hr
  exact ox tk 2 hr
 refine rn tk 8 rfl ?_;refine qTa (d:=2) (F:=cU) (l:=b2) rfl rfl (hC ?_);exact kx tk 1 hr
theorem Yva(a0:List UInt8)(r:zta × zqa)(hr:y0a a0=some r):Run prog 157 [.l cU a0] (.tup [.agg [.l zga.pc r.1.Fields,.l cU r.1.Body],.agg [.i r.2.Code,.i r.2.Index]]):=by
 unfold y0a at hr;refine rfx (fn:=f157) func157 fun g0 hg=>?_
 refine clx tk 9 hr (JYa _) fun v1 _ hr=>?_
 refine clx tk 14 hr (zwa _) fun v3 _ hr=>?_
 refine ax tk 2 16 hr (fun hr=>?_) fun hr=>?_
 .refine mdq tk 1 [] [2,3] .nil ?_ mixed;exact kx tk 3 hr
 refine rn tk 7 rfl ?_;obtain ⟨v6,h7,hr⟩:=zaa hr;refine wlL tk h7 rfl rfl rfl (fun _=>rfl) rfl ?_;refine clx tk 0 hr (WWa _) fun v8 _ hr=>?_
 refine clx tk 9 hr (wla _) fun v10 _ hr=>?_
 refine clx tk 7 hr (zwa _) fun v12 _ hr=>?_
 refine ax tk 2 28 hr (fun hr=>?_) fun hr=>?_
 .refine mdq tk 1 [] [2,3] .nil ?_ mixed;exact kx tk 3 hr
 refine rn tk 3 rfl ?_;obtain ⟨v15,h16,hr⟩:=zaa hr;refine mdq tk 0 [(1,.agg [.i v15.Code,.i v15.Index])] [2,3] (.cons rfl rfl (fun _ _=>(zVa (zya v15 h16) rfl)) .nil) ?_ mixed;exact kx tk 2 hr
theorem kXa(a0:zda)(r:zda)(hr:z4a a0=some r):RunS prog 158 [.ptr 90002000 0] (zda.sto a0) (.tup []) (zda.sto r) 90002000 [90002009,90002010,90002018,90002019]:=by
 unfold z4a at hr;refine rfS (fn:=f158) (H:=90002999) (.ptr 90002000 0) ⟨func158,rfl,by kernel_rfl⟩ rfl (hasT rfl) (.inl ⟨rfl,rfl⟩) rfl rfl rfl rfl fun g0 hg S sg T=>?_
 refine rn tk 31 rfl ?_;refine YYa 90002010 (hO ?_);refine kJa 90002010 (o:=90002000) (j:=9) 5 1 rfl rfl rfl rfl (hO ?_);exact sxx tk 1 hr
theorem zoa(a0:zda)(a1:Int)(a2:List Str)(r:zda)(hr:zpa a0 a1 a2=some r):RunS prog 112 [.ptr 90002000 0,.i a1,.l cS a2] (zda.sto a0) (.tup []) (zda.sto r) 90002000 [90002009,90002010,90002018,90002019]:=by
 unfold zpa at hr;refine rfS (fn:=f112) (H:=90002999) (.ptr 90002000 0) ⟨func112,rfl,by kernel_rfl⟩ rfl (hasT rfl) (.inl ⟨rfl,rfl⟩) rfl rfl rfl rfl fun g0 hg S sg T=>?_
 refine rn tk 9 rfl<|wz zra.pc ([(zra.mk a1 a2)]:List zra) tk rfl rfl (fun _=>rfl) rfl rfl rfl ?_;obtain ⟨v1,h2,hr⟩:=zaa hr;refine wa tk h2 rfl rfl rfl rfl (fun _=>rfl) rfl rfl ?_;exact sxx tk 4 hr
theorem kIa(a0:List zba)(r:List zba)(hr:zva a0=some r):RunO prog 60 [.l zba.pc a0] 43 2 (List.map zba.pc r):=by
 unfold zva at hr;refine rfO (fn:=f60) ⟨func60,rfl,by kernel_rfl⟩ rfl fun g0 hg=>?_
 refine rn tk 3 rfl ?_;refine vWa 1002 (d:=2) 43 2 rfl rfl rfl (hO ?_);refine rn tk 6 rfl ?_;refine wKa (d:=3) (F:=zba.pc) (l:=a0) rfl rfl rfl zha (fun c1=>hO ?_) (hO ?_)
 .replace hr:=j6a c1 hr
  refine rn tk 6 rfl ?_;refine vWa 2002 (d:=2) 43 2 rfl rfl rfl (hO ?_);refine rn tk 4 rfl ?_;cases hr;exact krO tk (.inr rfl) rfl rfl
 replace hr:=j7a hr
 refine rn tk 7 rfl<|wo (yKa (k:=5) rfl zha zxa) rfl<|rn tk 1 rfl ?_;obtain ⟨v2,h3,hr⟩:=zaa hr;refine wo (vra (k:=7) (F:=zba.pc) (xs:=a0) (lim:=5864062014805) 2002 rfl rfl rfl zha zxa rfl rfl (fun _=>rfl) rfl rfl rfl h3) rfl<|rn tk 4 rfl ?_;cases hr;exact krO tk (.inr rfl) rfl rfl
theorem zWa(a0:List zba)(r:List zba)(hr:zva a0=some r):Run prog 60 [.l zba.pc a0] (.l zba.pc r):=by
 unfold zva at hr;refine rfx (fn:=f60) func60 fun g0 hg=>?_
 refine rn tk 9 rfl ?_;refine wKa (d:=3) (F:=zba.pc) (l:=a0) rfl rfl rfl zha (fun c1=>hO ?_) (hO ?_)
 .replace hr:=j6a c1 hr
  exact kx tk 10 hr
 replace hr:=j7a hr
 refine rn tk 7 rfl<|wo (yKa (k:=5) rfl zha zxa) rfl<|rn tk 1 rfl ?_;obtain ⟨v2,h3,hr⟩:=zaa hr;refine wo (vra (k:=7) (F:=zba.pc) (xs:=a0) (lim:=5864062014805) 1002 rfl rfl rfl zha zxa rfl rfl (fun _=>rfl) rfl rfl rfl h3) rfl<|rn tk 3 rfl ?_;refine yDa 1002 rfl (hC ?_);refine qTa (d:=2) (F:=zba.pc) (l:=v2) rfl rfl (hC ?_);exact kx tk 1 hr
theorem v8a(a0:zda)(r:zda)(hr:kha a0=some r):RunS prog 113 [.ptr 90002000 0] (zda.sto a0) (.tup []) (zda.sto r) 90002000 [90002009,90002010,90002018,90002019]:=by
 unfold kha at hr;refine rfS (fn:=f113) (H:=90002999) (.ptr 90002000 0) ⟨func113,rfl,by kernel_rfl⟩ rfl (hasT rfl) (.inl ⟨rfl,rfl⟩) rfl rfl rfl rfl fun g0 hg S sg T=>?_
 refine rn tk 7 rfl ?_;refine Yza (d:=10) (F:=cU) (l:=a0.Server.Data) rfl rfl (hO ?_);refine clx tk 0 hr (Yva _) fun v1 _ hr=>?_
 refine jq tk 9 hr [0] [90002999] (fun _=>[]) (fun j3=>zda.sto j3) (fun j3 hr=>?_) (fun j3 hr=>?_)
 .refine ax tk 12 64 hr (fun hr=>?_) fun hr=>?_
  .refine rn tk 2 rfl<|wz cS ([([108,97,114,103,101]:Str)]:List Str) tk rfl rfl (fun _=>rfl) rfl rfl rfl ?_;refine csx tk 0 hr (zoa _ _ _) fun v5 _ hr=>?_
   exact jx tk 2 hr
  refine jq tk 0 hr [0,2] [2,90002999,90002000,90002009,90002010,90002018,90002019] (fun j7=>[(74,.bo j7)]) (fun _=>[]) (fun j7 hr=>?_) (fun j7 hr=>?_)
  .refine clx tk 2 hr (zwa _) fun v8 _ hr=>?_
   refine bx tk 1 77 hr (fun c10 hr=>?_) fun c10 hr=>?_
   .exact jx tk 9 hr
   exact jx tk 9 hr
  refine ax tk 0 74 hr (fun hr=>?_) fun hr=>?_
  .refine rn tk 2 rfl<|wz cS ([([114,101,102,117,115,101,100]:Str)]:List Str) tk rfl rfl (fun _=>rfl) rfl rfl rfl ?_;refine csx tk 0 hr (zoa _ _ _) fun v12 _ hr=>?_
   exact jx tk 2 hr
  refine rn tk 15 rfl ?_;obtain ⟨v14,h15,hr⟩:=zaa hr;obtain ⟨v16,h17,hr⟩:=zaa hr;obtain ⟨v18,h19,hr⟩:=zaa hr;refine mdq tk 0 [(5,.s v14),(11,.s v16),(12,.s v18)] [0,2,4] (.cons rfl rfl (t0 (kua (qHb rfl rfl h15))) (.cons rfl rfl (t0 (zVa (qla ((w64 (a0.Server.Count+1))) v16 h17) rfl)) (.cons rfl rfl (t0 (kua (qHb rfl rfl h19))) .nil))) ?_ mixed;refine rn tk 2 rfl ?_;obtain ⟨v20,h21,hr⟩:=zaa hr;obtain ⟨v22,h23,hr⟩:=zaa hr;refine mh tk 0 [(15,.l zba.pc v20),(20,.l zua.pc (([(zua.mk ((zFa.mk a0.Server.From v20 v18)) v1.1)]:List zua)))] [(4,fun f s=>((40,.hs 90002019 0)::f,s)),(21,fun f s=>((57,.hs 90002019 0)::Fr.clrs [90002019] f,(Sto.upd (Sto.clr 90002019 s) 90002019 (.row 30 false 5 (List.map zua.pc v22))))),(24,fun f s=>(f,(Sto.upd s 90002000 (.cells [.s a0.Server.Name,.i a0.Server.Size,.i a0.Server.Many,.i a0.Server.Phase,.bo a0.Server.Greeted,.bo a0.Server.Mailing,.s a0.Server.From,.l zba.pc a0.Server.To,.hs 90002009 0,.hs 90002010 0,.i a0.Server.Lost,.i a0.Server.Dots,.bo a0.Server.Chunked,.i a0.Server.Left,.bo a0.Server.Last,.bo a0.Server.Ignore,.i ((w64 (a0.Server.Count+1))),.hs 90002018 0,.hs 90002019 0]))))] [[],[4],[4,21],[4,21,24]] ?_ mixed;refine .cons (mnq tk [4,15,20] (.cons (mdtq 1 (hv_g rfl rfl (mqz tk rfl))) (.cons (mpu (zVa (zWa a0.Server.To v20 h21) rfl)) (.cons (mpu (wja (F:=zua.pc) (l:=([(zua.mk ((zFa.mk a0.Server.From v20 v18)) v1.1)]:List zua)) kda qUa rfl (fun _=>rfl) rfl rfl)) .nil)))) (.cons (mnq tk [15,20,21] (.cons (mpu (zVa (zWa a0.Server.To v20 h21) rfl)) (.cons (mpu (wja (F:=zua.pc) (l:=([(zua.mk ((zFa.mk a0.Server.From v20 v18)) v1.1)]:List zua)) kda qUa rfl (fun _=>rfl) rfl rfl)) (.cons (mdtq 2 (jva (F:=zua.pc) (l:=a0.mails) (xs:=(([(zua.mk ((zFa.mk a0.Server.From v20 v18)) v1.1)]:List zua))) (lim:=1353245080339) rfl rfl rfl rfl kda qUa rfl rfl (fun _=>rfl) rfl h23)) .nil)))) (.cons (mnq tk [24] (.cons (mstq 3 (qba rfl rfl rfl kda rfl rfl)) .nil)) (.cons (mfq tk [] [0,4] .nil (hA ?_)) .nil)));refine rn tk 4 rfl<|wz cS ([v18]:List Str) tk rfl rfl (fun _=>rfl) rfl rfl rfl ?_;refine csx tk 0 hr (zoa _ _ _) fun v24 _ hr=>?_
  exact jx tk 2 hr
 refine csx tk 2 hr (kXa j3) fun v26 _ hr=>?_
 exact sxx tk 1 hr
theorem wia(a0:zda)(r:zda)(hr:ksa a0=some r):RunS prog 71 [.ptr 90002000 0] (zda.sto a0) (.tup []) (zda.sto r) 90002000 [90002009,90002010,90002018,90002019]:=by
 unfold ksa at hr;refine rfS (fn:=f71) (H:=90002999) (.ptr 90002000 0) ⟨func71,rfl,by kernel_rfl⟩ rfl (hasT rfl) (.inl ⟨rfl,rfl⟩) rfl rfl rfl rfl fun g0 hg S sg T=>?_
 refine mdq tk 1 [] [0,2,3] .nil ?_ mixed;refine ax tk 27 29 hr (fun hr=>?_) fun hr=>?_
 .refine rn tk 2 rfl<|wz cS ([([111,114,100,101,114]:Str)]:List Str) tk rfl rfl (fun _=>rfl) rfl rfl rfl ?_;refine csx tk 0 hr (zoa _ _ _) fun v2 _ hr=>?_
  exact sxx tk 2 hr
 refine ax tk 6 34 hr (fun hr=>?_) fun hr=>?_
 .refine csx tk 2 hr (v8a _) fun v5 _ hr=>?_
  exact sxx tk 2 hr
 refine rn tk 2 rfl<|wz cS ([([111,107]:Str)]:List Str) tk rfl rfl (fun _=>rfl) rfl rfl rfl ?_;refine csx tk 0 hr (zoa _ _ _) fun v7 _ hr=>?_
 exact sxx tk 2 hr
theorem Kha(a0:zda)(a1:UInt8)(r:zda)(hr:qFa a0 a1=some r):RunS prog 73 [.ptr 90002000 0,.u8 a1] (zda.sto a0) (.tup []) (zda.sto r) 90002000 [90002009,90002010,90002018,90002019]:=by
 unfold qFa at hr;refine rfS (fn:=f73) (H:=90002999) (.ptr 90002000 0) ⟨func73,rfl,by kernel_rfl⟩ rfl (hasT rfl) (.inl ⟨rfl,rfl⟩) rfl rfl rfl rfl fun g0 hg S sg T=>?_
 refine jkq tk 0 [0,1] [90002999] (fun _=>[]) (fun j1=>zda.sto j1) (fun j1=>kta a1 j1=some r) ?_ ?_
 .refine jq tk 1 hr [0,1] [90002999,90002000,90002009,90002010,90002018,90002019] (fun j8=>[(4,.bo j8)]) (fun _=>[]) (fun j8 hr=>?_) (fun j8 hr=>?_)
  .refine bx tk 8 11 hr (fun c9 hr=>?_) fun c9 hr=>?_
   .exact jx tk 5 hr
   exact jx tk 5 hr
  refine ax tk 0 4 hr (fun hr=>?_) fun hr=>?_
  .exact sxx tk 12 hr
  refine jq tk 0 hr [0,1] [90002999,90002000,90002009,90002010,90002018,90002019] (fun j11=>[(19,.bo j11)]) (fun _=>[]) (fun j11 hr=>?_) (fun j11 hr=>?_)
  .refine bx tk 8 26 hr (fun c12 hr=>?_) fun c12 hr=>?_
   .exact jx tk 5 hr
   exact jx tk 5 hr
  refine ax tk 0 19 hr (fun hr=>?_) fun hr=>?_
  .exact sxx tk 12 hr
  refine jq tk 0 hr [0,1] [90002999,90002000,90002009,90002010,90002018,90002019] (fun j14=>[(34,.bo j14)]) (fun _=>[]) (fun j14 hr=>?_) (fun j14 hr=>?_)
  .refine bx tk 8 41 hr (fun c15 hr=>?_) fun c15 hr=>?_
   .exact jx tk 5 hr
   exact jx tk 5 hr
  refine ax tk 0 34 hr (fun hr=>?_) fun hr=>?_
  .refine csx tk 17 hr (v8a _) fun v17 _ hr=>?_
   exact sxx tk 5 hr
  refine ax tk 11 55 hr (fun hr=>?_) fun hr=>?_
  .refine csx tk 2 hr (vMa _ _) fun v20 _ hr=>?_
   refine rn tk 2 rfl<|jn v20 hr rfl rfl
  refine rn tk 2 rfl<|jn a0 hr rfl rfl
 intro j1 hr;unfold kta at hr;refine csx tk 4 hr (vMa j1 a1) fun v2 _ hr=>?_
 refine ax tk 10 71 hr (fun hr=>?_) fun hr=>?_
 .exact sxx tk 8 hr
 refine jq tk 0 hr [0] [90002000,90002009,90002010,90002018,90002019,90002999] (fun j5=>[(78,.bo j5)]) (fun _=>[]) (fun j5 hr=>?_) (fun j5 hr=>?_)
 .refine bx tk 4 81 hr (fun c6 hr=>?_) fun c6 hr=>?_
  .exact jx tk 9 hr
  exact jx tk 9 hr
 refine ax tk 0 78 hr (fun hr=>?_) fun hr=>?_
 .exact sxx tk 8 hr
 exact sxx tk 8 hr
theorem Vya(a0:List UInt8)(a1:List UInt8)(r:(List UInt8) × Bool)(hr:vka a0 a1=some r):Run prog 114 [.l cU a0,.l cU a1] (.tup [.l cU r.1,.bo r.2]):=by
 unfold vka at hr;refine rfx (fn:=f114) func114 fun g0 hg=>?_
 refine clx tk 11 hr (vAa _ _) fun v1 _ hr=>?_
 refine ax tk 3 9 hr (fun hr=>?_) fun hr=>?_
 .exact kx tk 9 hr
 refine rn tk 6 rfl<|wn tk rfl rfl rfl<|rn tk 1 rfl<|wn tk rfl rfl rfl<|rn tk 1 rfl ?_;obtain ⟨v4,h5,hr⟩:=zaa hr;refine wlH tk h5 rfl rfl rfl (fun _=>rfl) rfl ?_;exact kx tk 5 hr
section
open Go.RowKit Go.Lib Go.Proofs.Tryz
theorem ff_pred(w:World):PredAt prog 160 #[] encR sp32 w:=fun W r _=>by
 unfold FnGives;go_enter func160,Tryz.ntmps160
 go_wp2
 go_ret
 exact ⟨rfl,0,rfl⟩
theorem str_argF{g:G}{s:Str}{v:Value}(h:Rel g (.s s) v):v=.string (strB s):=z6a h
theorem Kbb{g:G}{w' :World}{A n:Nat}(h:Below g.w.heap.size g.w w')(hA:g.w.heap.size<=A):Old (fun _=>False) g ⟨w',fun k=>if k=A then n else g.u k,g.loc⟩:=
 ⟨h.os,h.tape,h.output,⟨h.size,fun k hk=>by show g.u k<=if k=A then n else g.u k;rw[if_neg (by omega)];exact jAn _,fun k i hk _=>by simp only[World.cell?];rw[h.block k hk],fun r hr=>(h.block r (zUa hr)).trans hr⟩,fun k hk _=>⟨h.block k hk,by show (if k=A then n else g.u k)=g.u k;rw[if_neg (by omega)]⟩⟩
theorem Zsa(s:Str)(r:List Str)(hr:qda s=some r):Run prog 159 [.s s,.fn (.func 160) [] []] (.l cS r):=by
 unfold qda at hr;split at hr
 case isFalse=>cases hr
 rename_i hlen;cases hr;refine ⟨⟨_,_,⟨func159,rfl,by kernel_rfl⟩⟩,fun g vs hw hg ha=>?_⟩;obtain ⟨hsz,hrel⟩:=ha;obtain ⟨vl⟩:=vs
 match vl,hsz with
 | [x,y],_=>
  obtain rfl:=str_argF (hrel 0 _ rfl);have hy:Rel g (.fn (.func 160) [] []) y:=hrel 1 _ rfl;have hy2:y=.func (.func 160) #[] #[]:=by
   cases hy with
   | @fn f first captured fv cv h1 h2 hf hc=>
    have e1:fv= #[]:=jCk h1;have e2:cv= #[]:=jCk h2;rw[e1,e2]
  subst hy2;have hC:=Tryz.strings_FieldsFunc 160 #[] (enters_of func160 (by kernel_rfl) rfl) sp32 (strB s) g.w (by rw[zNa];exact hlen) (ff_pred g.w);generalize Lib.goFieldsP sp32 (strB s)=L at hC ⊢;refine callsIn_wide.2 (hC.mono ?_);rintro e w' ⟨A,rfl,hA,hown,hb⟩;have hlm:(L.map fun b=>b.data.toList).length=L.length:=by simp
  obtain ⟨hl0,hno⟩:=hown;rcases hno with ⟨hc,_⟩ | ⟨g0,cap,cur,hv,_,hheap,hle,_,hcs,htk⟩
  .cases hc
  simp only[Value.slice.injEq,Option.some.injEq,Addr.mk.injEq,and_true,true_and]at hv;obtain ⟨rfl,rfl⟩:=hv;have hlt:A < w'.heap.size:=by
   rcases jBq A w'.heap.size with h | h
   .exact h
   rw[jDh h]at hheap;cases hheap
  refine ⟨⟨w',fun k=>if k=A then L.length else g.u k,g.loc⟩,_,rfl,rfl,Kbb hb hA,fun k hk=>?_,rfl,?_⟩
  .show (if k=A then L.length else g.u k)=0;have hk' :w'.heap.size<=k:=hk;have:=hb.size;rw[if_neg (by omega)];exact hw k (by omega)
  rw[show (Value.slice (some ⟨A,0,none⟩) L.length L.length)=.slice (some ⟨A,0,none⟩) ((L.map fun b=>b.data.toList).map cS).length L.length by simp];refine .pv (.sl (a:=some ⟨A,0,none⟩) (cap:=L.length) 1 A 0 (fun i=>cur.getD i undef) (fun x hx=>by cases hx) (fun hx=>by cases hx) (by simp) (fun x' hx' =>by obtain ⟨y',hy',rfl⟩:=jCd.1 hx';rfl) (fun _=>rfl) (fun _=>⟨?_,hlt⟩) (fun i hi=>?_) (fun i j e c hi hj=>?_))
  .show 0+_ * 1<=if A=A then L.length else g.u A;rw[if_pos rfl];simp
  .have hi' :i < cur.size:=by simp at hi;omega
   simp only[World.cell?,hheap,jCs];simp[Array.getD,hi']
  simp only[jAk,jAg]at hi;obtain ⟨q,⟨b,hbq,rfl⟩,rfl⟩:=hi;have hj0:j=0/\c=.b (.string (strB b.data.toList)):=by
   cases j with
   | zero=>exact ⟨rfl,(Option.some.inj hj).symm⟩
   | succ j=>cases hj
  obtain ⟨rfl,rfl⟩:=hj0;have hil:=(jAd.1 hbq).1;have h1:(cur.toList.take (L.length * 1))[i]? =some (.string b):=by rw[htk];simp[hbq]
  have h2:cur.getD (i * 1+0) undef=.string (strB b.data.toList):=by
   rw[jBc (by omega)]at h1;rw[jAe,jDm,jCy];rw[jCz]at h1;rw[h1];rfl
  rw[h2];exact .b rfl
end
theorem jXa(a0:Str)(r:Str)(hr:wHa a0=some r):Run prog 162 [.s a0] (.s r):=by
 unfold wHa at hr;refine rfx (fn:=Tryz.f162) func162 fun g0 hg=>?_
 refine rn tk 8 rfl<|wo (Zdb (k:=7) (s:=a0) 1007 rfl rfl rfl rfl zGa zja zCa) rfl<|rn tk 7 rfl<|wq (KPb (l:=a0) rfl rfl zja.u) rfl rfl rfl ?_;refine aq1 tk 4 hr [3,8,9] [] (fun s1=>[(10,.i s1.1)]) (fun s1=>[(1007,.buf s1.2)]) (.exit 0) [3] [] (fun _=>[]) (fun b2=>[(1007,.buf b2)]) (fun s1 x3 hr=>?_) (fun b2 hr=>?_)
 .unfold qYa at hr;refine ax tk 6 11 hr (fun hr=>?_) fun hr=>?_
  .refine jq tk 2 hr [3,8,9,10] [] (fun _=>[]) (fun j5=>[(1007,.buf j5)]) (fun j5 hr=>?_) (fun j5 hr=>?_)
   .refine rn tk 4 rfl ?_;obtain ⟨v6,h7,hr⟩:=zaa hr;refine wq (qSb (l:=s1.2) (n:=s1.1) rfl rfl rfl zja zCa h7) rfl rfl rfl ?_;obtain ⟨v8,h9,hr⟩:=zaa hr;refine wq (Zcb (l:=s1.2) (n:=s1.1) rfl rfl zCa h9) rfl rfl rfl ?_;refine jq tk 4 hr [3,4,5,8,9,10] [1007] (fun j10=>[(20,.bo j10)]) (fun _=>[]) (fun j10 hr=>?_) (fun j10 hr=>?_)
    .refine bx tk 4 17 hr (fun c11 hr=>?_) fun c11 hr=>?_
     .exact jx tk 4 hr
     exact jx tk 4 hr
    refine ax tk 0 20 hr (fun hr=>?_) fun hr=>?_
    .refine rn tk 4 rfl<|wq (ev_u8add (a:=v8) (b:=(97:UInt8)) rfl rfl) rfl rfl rfl<|wq (ev_u8sub (a:=((v8+(97:UInt8)))) (b:=(65:UInt8)) rfl rfl) rfl rfl rfl ?_;obtain ⟨v13,h14,hr⟩:=zaa hr;refine wq (qSb (l:=s1.2) (n:=s1.1) rfl rfl rfl zja zCa h14) rfl rfl rfl ?_;obtain ⟨v15,h16,hr⟩:=zaa hr;refine wo (kyb (l:=s1.2) (n:=s1.1) (v:=v15) (v' :=(((v8+(97:UInt8)) - (65:UInt8)))) rfl rfl rfl zCa h16) rfl ?_;exact jx tk 2 hr
    exact jx tk 2 hr
   exact cx tk 4 hr
  exact ox tk 2 hr
 refine rn tk 5 rfl<|wq (ev_buf2s (l:=b2) rfl rfl zja zCa zGa) rfl rfl rfl ?_;exact kx tk 4 hr
theorem wtb{g:G}{s:Str}{v:Value}(h:Rel g (.s s) v):v=.string (strB s):=z6a h
theorem y5a(s t:Str)(r:Str × Bool)(hr:kea s t=some r):Run prog 231 [.s s,.s t] (.tup [.s r.1,.bo r.2]):=by
 unfold kea at hr;cases hr;refine ⟨⟨_,_,⟨func231,rfl,by kernel_rfl⟩⟩,fun g vs hw hg ha=>?_⟩;obtain ⟨hsz,hrel⟩:=ha;obtain ⟨l⟩:=vs
 match l,hsz with
 | [x,y],_=>
  obtain rfl:=wtb (hrel 0 _ rfl);obtain rfl:=wtb (hrel 1 _ rfl);refine callsIn_wide.2 ((Tryz.strings_CutPrefix (strB s) (strB t) g.w).mono ?_);rintro e w' ⟨rfl,rfl⟩;refine ⟨g,_,rfl,rfl,Old.refl _ g,hw,rfl,.tup rfl fun i c hi=>?_⟩
  match i,hi with
  | 0,rfl=>exact .pv (.b rfl)
  | 1,rfl=>exact .pv (.b rfl)
theorem wub{g:G}{s:Str}{v:Value}(h:Rel g (.s s) v):v=.string (strB s):=z6a h
theorem Qga(s t:Str)(r:Str × Bool)(hr:kfa s t=some r):Run prog 232 [.s s,.s t] (.tup [.s r.1,.bo r.2]):=by
 unfold kfa at hr;split at hr
 case isFalse=>cases hr
 rename_i hlen;cases hr;refine ⟨⟨_,_,⟨func232,rfl,by kernel_rfl⟩⟩,fun g vs hw hg ha=>?_⟩;obtain ⟨hsz,hrel⟩:=ha;obtain ⟨l⟩:=vs
 match l,hsz with
 | [x,y],_=>
  obtain rfl:=wub (hrel 0 _ rfl);obtain rfl:=wub (hrel 1 _ rfl);refine callsIn_wide.2 ((Tryz.strings_CutSuffix (strB s) (strB t) g.w (by rw[zNa];exact hlen)).mono ?_);rintro e w' ⟨rfl,rfl⟩;refine ⟨g,_,rfl,rfl,Old.refl _ g,hw,rfl,.tup rfl fun i c hi=>?_⟩
  match i,hi with
  | 0,rfl=>exact .pv (.b rfl)
  | 1,rfl=>exact .pv (.b rfl)
theorem jYa(a0:Str)(r:Str × Bool)(hr:vea a0=some r):Run prog 197 [.s a0] (.tup [.s r.1,.bo r.2]):=by
 unfold vea at hr;refine rfx (fn:=Tryz.f197) func197 fun g0 hg=>?_
 refine clx tk 9 hr (y5a _ _) fun v1 _ hr=>?_
 refine clx tk 10 hr (Qga _ _) fun v3 _ hr=>?_
 refine jq tk 7 hr [] [] (fun j5=>[(2,.s v3.1),(3,.bo j5)]) (fun _=>[]) (fun j5 hr=>?_) (fun j5 hr=>?_)
 .refine bx tk 4 19 hr (fun c6 hr=>?_) fun c6 hr=>?_
  .exact jx tk 5 hr
  exact jx tk 5 hr
 exact kx tk 1 hr
theorem Ywa(a0:Str)(a1:Int)(r:Int × Bool)(hr:yPa a0 a1=some r):Run prog 233 [.s a0,.i a1] (.tup [.i r.1,.bo r.2]):=by
 unfold yPa at hr;refine rfx (fn:=Tryz.f233) func233 fun g0 hg=>?_
 refine clx tk 9 hr (Kra _) fun v1 _ hr=>?_
 refine jq tk 8 hr [6] [] (fun j3=>[(29,.bo j3)]) (fun _=>[]) (fun j3 hr=>?_) (fun j3 hr=>?_)
 .refine rn tk 2 rfl<|wq (ev_ifneq rfl rfl yXb) rfl rfl rfl ?_;refine bx tk 1 15 hr (fun c4 hr=>?_) fun c4 hr=>?_
  .exact jx tk 15 hr
  refine rn tk 1 rfl ?_;obtain ⟨v5,h6,hr⟩:=zaa hr;refine ug rfl rfl rfl<|cl (qla _ _ h6) rfl rfl ?_;refine bx tk 4 21 hr (fun c7 hr=>?_) fun c7 hr=>?_
  .exact jx tk 9 hr
  refine bx tk 4 25 hr (fun c8 hr=>?_) fun c8 hr=>?_
  .exact jx tk 5 hr
  exact jx tk 5 hr
 refine ax tk 0 29 hr (fun hr=>?_) fun hr=>?_
 .exact kx tk 8 hr
 exact kx tk 10 hr
theorem Zha(a0:Str)(r:Int × Bool)(hr:vJa a0=some r):Run prog 199 [.s a0] (.tup [.i r.1,.bo r.2]):=by
 unfold vJa at hr;refine rfx (fn:=f199) func199 fun g0 hg=>?_
 refine ax tk 14 6 hr (fun hr=>?_) fun hr=>?_
 .exact kx tk 8 hr
 refine clx tk 5 hr (Ywa _ _) fun v2 _ hr=>?_
 exact kx tk 7 hr
theorem Zia(a0:List Str)(a1:Str)(r:Str × Bool)(hr:qra a0 a1=some r):Run prog 198 [.l cS a0,.s a1] (.tup [.s r.1,.bo r.2]):=by
 unfold qra at hr;refine rfx (fn:=f198) func198 fun g0 hg=>?_
 refine rn tk 10 rfl<|wn tk rfl rfl rfl ?_;refine ax tk 3 8 hr (fun hr=>?_) fun hr=>?_
 .exact kx tk 8 hr
 refine rn tk 5 rfl ?_;obtain ⟨v2,h3,hr⟩:=zaa hr;refine wi tk h3 rfl rfl rfl rfl rfl ?_;refine clx tk 1 hr (jXa _) fun v4 _ hr=>?_
 refine rn tk 1 rfl ?_;obtain ⟨v6,h7,hr⟩:=zaa hr;refine wc h7 rfl rfl rfl ?_;refine clx tk 0 hr (y5a _ _) fun v8 _ hr=>?_
 exact kx tk 7 hr
theorem Wla(a0:Int)(a1:Int)(c0_0:List Str)(r:Bool)(hr:wua a0 a1 c0_0=some r):Run prog 196 [.i a0,.i a1,.ep [pL cS c0_0]] (.bo r):=by
 unfold wua at hr;refine rfx (fn:=f196) func196 fun g0 hg=>?_
 refine rn tk 5 rfl<|jb hr (fun j1=>[(5,.bo j1)]) (fun j1=>[]) (fun j1 hr=>?_) (fun j1 hr=>?_)
 .refine rn tk 2 rfl<|wn tk rfl rfl rfl ?_;refine bx tk 3 10 hr (fun c2 hr=>?_) fun c2 hr=>?_
  .refine rn tk 1 rfl<|ug rfl rfl rfl<|wn tk rfl rfl rfl ?_;exact jx tk 5 hr
  exact jx tk 7 hr
 exact kx tk 1 hr
theorem Yxa(a0:Str)(a1:Bool)(r:Int × Bool)(hr:yQa a0 a1=some r):Run prog 200 [.s a0,.bo a1] (.tup [.i r.1,.bo r.2]):=by
 unfold yQa at hr;refine rfx (fn:=f200) func200 fun g0 hg=>?_
 refine aq2 tk 13 hr [0,1] [] (fun s1=>[(7,.i s1)]) (fun _=>[]) (.exit 0) [] [] (fun _=>[]) (fun _=>[]) .ret [] [] (fun b3=>[(4,.i b3.1),(5,.bo b3.2)]) (fun _=>[]) (fun s1 x5 hr=>?_) (fun b2 hr=>?_) (fun b3 hr=>?_)
 .unfold kva at hr;refine ax tk 6 8 hr (fun hr=>?_) fun hr=>?_
  .refine jq tk 10 hr [0,1,6,7] [] (fun j7=>[(16,.bo j7)]) (fun _=>[]) (fun j7 hr=>?_) (fun j7 hr=>?_)
   .refine bx tk 3 11 hr (fun c8 hr=>?_) fun c8 hr=>?_
    .refine rn tk 1 rfl ?_;obtain ⟨v9,h10,hr⟩:=zaa hr;refine ug rfl rfl rfl<|cl (Zfa _ _ h10) rfl rfl ?_;exact jx tk 4 hr
    exact jx tk 6 hr
   refine ax tk 0 16 hr (fun hr=>?_) fun hr=>?_
   .exact ox tk 10 hr
   exact cx tk 7 hr
  exact ox tk 2 hr
 .exact kx tk 9 hr
 exact kx tk 2 hr
theorem Yya(a0:Int)(a1:List Str)(r:zfa × Bool)(hr:yRa a0 a1=some r):Run prog 163 [.i a0,.l cS a1] (.tup [.agg (zN1 r.1),.bo r.2]):=by
 unfold yRa at hr;refine rfx (fn:=f163) func163 fun g0 hg=>?_
 refine rn tk 17 rfl ?_;refine wRb 3 (cs:=[pL cS a1]) rfl rfl (hO ?_);refine rn tk 10 rfl<|jk (fun j1=>[(4,.ptr 4 0),(6,.ptr 6 0),(8,.bo j1.1),(9,.bo j1.2.1)]) (fun j1=>[(6,.cells [.i a0,.s j1.2.2.1,.s j1.2.2.2.1,.i j1.2.2.2.2.1,.i j1.2.2.2.2.2.1,.bo j1.2.2.2.2.2.2]),(4,.cells [.i 0,.s (([]:Str)),.s (([]:Str)),.i 0,.i 0,.bo false])]) (fun j1=>kwa a0 j1=some r) ?_ ?_
 .refine ax tk 12 19 hr (fun hr=>?_) fun hr=>?_
  .refine rn tk 4 rfl<|il (fn:=f196) (args:=[.i 1,.i 1,.ep [pL cS a1]]) 500000 599999 [(3,.ep [pL cS a1]),(4,.ptr 4 0),(6,.ptr 6 0),(8,.bo true),(9,.bo true)] rfl ⟨func196,rfl,by kernel_rfl⟩ rfl rfl rfl fun T5 ds5=>?_
   refine rn tk 5 rfl<|jb hr (fun j5=>[(5,.bo j5)]) (fun j5=>[(599999,.sus g0.w.heap.size ds5),(500003,.hold (.ep [pL cS a1]) (T5.getD 3 undef)),(500004,.hold (.ptr 4 0) (T5.getD 4 undef)),(500006,.hold (.ptr 6 0) (T5.getD 6 undef)),(500008,.hold (.bo true) (T5.getD 8 undef)),(500009,.hold (.bo true) (T5.getD 9 undef)),(6,.cells [.i a0,.s (([]:Str)),.s (([]:Str)),.i 0,.i 0,.bo false]),(4,.cells [.i 0,.s (([]:Str)),.s (([]:Str)),.i 0,.i 0,.bo false])]) (fun j5 hr=>?_) (fun j5 hr=>?_)
   .refine rn tk 2 rfl<|wn tk rfl rfl rfl ?_;refine bx tk 3 10 hr (fun c6 hr=>?_) fun c6 hr=>?_
    .refine rn tk 1 rfl<|ug rfl rfl rfl<|wn tk rfl rfl rfl ?_;exact jx tk 5 hr
    exact jx tk 7 hr
   refine rn tk 1 rfl ?_;refine ie tk [.bo j5] [(3,.ep [pL cS a1]),(4,.ptr 4 0),(6,.ptr 6 0),(8,.bo true),(9,.bo true)] [(6,.cells [.i a0,.s (([]:Str)),.s (([]:Str)),.i 0,.i 0,.bo false]),(4,.cells [.i 0,.s (([]:Str)),.s (([]:Str)),.i 0,.i 0,.bo false])] (.inr rfl) rfl rfl rfl rfl (hO ?_);refine ax tk 3 23 hr (fun hr=>?_) fun hr=>?_
   .exact kx tk 11 hr
   refine rn tk 4 rfl ?_;obtain ⟨v8,h9,hr⟩:=zaa hr;refine wi tk h9 rfl rfl rfl rfl rfl<|rn tk 5 rfl<|jn ((true,true,v8,([]:Str),0,0,false)) hr rfl rfl
  refine ax tk 6 29 hr (fun hr=>?_) fun hr=>?_
  .refine rn tk 4 rfl<|il (fn:=f196) (args:=[.i 1,.i 2,.ep [pL cS a1]]) 600000 699999 [(3,.ep [pL cS a1]),(4,.ptr 4 0),(6,.ptr 6 0),(9,.bo true)] rfl ⟨func196,rfl,by kernel_rfl⟩ rfl rfl rfl fun T6 ds6=>?_
   refine rn tk 5 rfl<|jb hr (fun j11=>[(5,.bo j11)]) (fun j11=>[(699999,.sus g0.w.heap.size ds6),(600003,.hold (.ep [pL cS a1]) (T6.getD 3 undef)),(600004,.hold (.ptr 4 0) (T6.getD 4 undef)),(600006,.hold (.ptr 6 0) (T6.getD 6 undef)),(600009,.hold (.bo true) (T6.getD 9 undef)),(6,.cells [.i a0,.s (([]:Str)),.s (([]:Str)),.i 0,.i 0,.bo false]),(4,.cells [.i 0,.s (([]:Str)),.s (([]:Str)),.i 0,.i 0,.bo false])]) (fun j11 hr=>?_) (fun j11 hr=>?_)
   .refine rn tk 2 rfl<|wn tk rfl rfl rfl ?_;refine bx tk 3 10 hr (fun c12 hr=>?_) fun c12 hr=>?_
    .refine rn tk 1 rfl<|ug rfl rfl rfl<|wn tk rfl rfl rfl ?_;exact jx tk 5 hr
    exact jx tk 7 hr
   refine rn tk 1 rfl ?_;refine ie tk [.bo j11] [(3,.ep [pL cS a1]),(4,.ptr 4 0),(6,.ptr 6 0),(9,.bo true)] [(6,.cells [.i a0,.s (([]:Str)),.s (([]:Str)),.i 0,.i 0,.bo false]),(4,.cells [.i 0,.s (([]:Str)),.s (([]:Str)),.i 0,.i 0,.bo false])] (.inr rfl) rfl rfl rfl rfl (hO ?_);refine ax tk 3 33 hr (fun hr=>?_) fun hr=>?_
   .exact kx tk 11 hr
   refine rn tk 5 rfl ?_;obtain ⟨v14,h15,hr⟩:=zaa hr;refine wi tk h15 rfl rfl rfl rfl rfl ?_;refine clx tk 1 hr (jYa _) fun v16 _ hr=>?_
   refine rn tk 11 rfl<|wn tk rfl rfl rfl ?_;refine ax tk 3 45 hr (fun hr=>?_) fun hr=>?_
   .refine rn tk 13 rfl ?_;obtain ⟨v19,h20,hr⟩:=zaa hr;refine wlL tk h20 rfl rfl rfl (fun _=>rfl) rfl ?_;refine clx tk 0 hr (Zia _ _) fun v21 _ hr=>?_
    refine clx tk 10 hr (Zha _) fun v23 _ hr=>?_
    refine bx tk 11 59 hr (fun c25 hr=>?_) fun c25 hr=>?_
    .refine rn tk 5 rfl<|jn ((v16.2,v21.2,([]:Str),v16.1,v23.1,0,false)) hr rfl rfl
    refine rn tk 5 rfl<|jn ((v16.2,false,([]:Str),v16.1,v23.1,0,false)) hr rfl rfl
   refine rn tk 2 rfl<|jn ((v16.2,true,([]:Str),v16.1,0,0,false)) hr rfl rfl
  refine ax tk 6 62 hr (fun hr=>?_) fun hr=>?_
  .refine rn tk 4 rfl<|il (fn:=f196) (args:=[.i 1,.i 2,.ep [pL cS a1]]) 700000 799999 [(3,.ep [pL cS a1]),(4,.ptr 4 0),(6,.ptr 6 0),(9,.bo true)] rfl ⟨func196,rfl,by kernel_rfl⟩ rfl rfl rfl fun T7 ds7=>?_
   refine rn tk 5 rfl<|jb hr (fun j27=>[(5,.bo j27)]) (fun j27=>[(799999,.sus g0.w.heap.size ds7),(700003,.hold (.ep [pL cS a1]) (T7.getD 3 undef)),(700004,.hold (.ptr 4 0) (T7.getD 4 undef)),(700006,.hold (.ptr 6 0) (T7.getD 6 undef)),(700009,.hold (.bo true) (T7.getD 9 undef)),(6,.cells [.i a0,.s (([]:Str)),.s (([]:Str)),.i 0,.i 0,.bo false]),(4,.cells [.i 0,.s (([]:Str)),.s (([]:Str)),.i 0,.i 0,.bo false])]) (fun j27 hr=>?_) (fun j27 hr=>?_)
   .refine rn tk 2 rfl<|wn tk rfl rfl rfl ?_;refine bx tk 3 10 hr (fun c28 hr=>?_) fun c28 hr=>?_
    .refine rn tk 1 rfl<|ug rfl rfl rfl<|wn tk rfl rfl rfl ?_;exact jx tk 5 hr
    exact jx tk 7 hr
   refine rn tk 1 rfl ?_;refine ie tk [.bo j27] [(3,.ep [pL cS a1]),(4,.ptr 4 0),(6,.ptr 6 0),(9,.bo true)] [(6,.cells [.i a0,.s (([]:Str)),.s (([]:Str)),.i 0,.i 0,.bo false]),(4,.cells [.i 0,.s (([]:Str)),.s (([]:Str)),.i 0,.i 0,.bo false])] (.inr rfl) rfl rfl rfl rfl (hO ?_);refine ax tk 3 66 hr (fun hr=>?_) fun hr=>?_
   .exact kx tk 11 hr
   refine rn tk 5 rfl ?_;obtain ⟨v30,h31,hr⟩:=zaa hr;refine wi tk h31 rfl rfl rfl rfl rfl ?_;refine clx tk 1 hr (jYa _) fun v32 _ hr=>?_
   refine rn tk 17 rfl<|wn tk rfl rfl rfl ?_;refine ax tk 3 79 hr (fun hr=>?_) fun hr=>?_
   .refine rn tk 2 rfl ?_;obtain ⟨v35,h36,hr⟩:=zaa hr;refine wlL tk h36 rfl rfl rfl (fun _=>rfl) rfl ?_;refine clx tk 0 hr (Zia _ _) fun v37 _ hr=>?_
    refine clx tk 2 hr (Yxa _ _) fun v39 _ hr=>?_
    refine rn tk 8 rfl<|jn ((v32.2,v39.2,([]:Str),v32.1,0,v39.1,false)) hr rfl rfl
   refine rn tk 2 rfl<|jn ((v32.2,true,([]:Str),v32.1,0,1,false)) hr rfl rfl
  refine ax tk 6 90 hr (fun hr=>?_) fun hr=>?_
  .refine rn tk 4 rfl<|il (fn:=f196) (args:=[.i 1,.i 2,.ep [pL cS a1]]) 800000 899999 [(3,.ep [pL cS a1]),(4,.ptr 4 0),(6,.ptr 6 0)] rfl ⟨func196,rfl,by kernel_rfl⟩ rfl rfl rfl fun T8 ds8=>?_
   refine rn tk 5 rfl<|jb hr (fun j42=>[(5,.bo j42)]) (fun j42=>[(899999,.sus g0.w.heap.size ds8),(800003,.hold (.ep [pL cS a1]) (T8.getD 3 undef)),(800004,.hold (.ptr 4 0) (T8.getD 4 undef)),(800006,.hold (.ptr 6 0) (T8.getD 6 undef)),(6,.cells [.i a0,.s (([]:Str)),.s (([]:Str)),.i 0,.i 0,.bo false]),(4,.cells [.i 0,.s (([]:Str)),.s (([]:Str)),.i 0,.i 0,.bo false])]) (fun j42 hr=>?_) (fun j42 hr=>?_)
   .refine rn tk 2 rfl<|wn tk rfl rfl rfl ?_;refine bx tk 3 10 hr (fun c43 hr=>?_) fun c43 hr=>?_
    .refine rn tk 1 rfl<|ug rfl rfl rfl<|wn tk rfl rfl rfl ?_;exact jx tk 5 hr
    exact jx tk 7 hr
   refine rn tk 1 rfl ?_;refine ie tk [.bo j42] [(3,.ep [pL cS a1]),(4,.ptr 4 0),(6,.ptr 6 0)] [(6,.cells [.i a0,.s (([]:Str)),.s (([]:Str)),.i 0,.i 0,.bo false]),(4,.cells [.i 0,.s (([]:Str)),.s (([]:Str)),.i 0,.i 0,.bo false])] (.inr rfl) rfl rfl rfl rfl (hO ?_);refine ax tk 3 94 hr (fun hr=>?_) fun hr=>?_
   .exact kx tk 11 hr
   refine rn tk 5 rfl ?_;obtain ⟨v45,h46,hr⟩:=zaa hr;refine wi tk h46 rfl rfl rfl rfl rfl ?_;refine clx tk 1 hr (Zha _) fun v47 _ hr=>?_
   refine rn tk 11 rfl<|wn tk rfl rfl rfl ?_;refine bx tk 10 111 hr (fun c49 hr=>?_) fun c49 hr=>?_
   .refine rn tk 9 rfl<|jn ((v47.2,true,([]:Str),([]:Str),v47.1,0,((a1.length:Int)==2))) hr rfl rfl
   refine rn tk 1 rfl ?_;obtain ⟨v50,h51,hr⟩:=zaa hr;refine ug rfl rfl rfl<|wi tk h51 rfl rfl rfl rfl rfl<|rn tk 1 rfl ?_;obtain ⟨v52,h53,hr⟩:=zaa hr;refine ug rfl rfl rfl<|cl (jXa _ _ h53) rfl rfl<|rn tk 5 rfl<|jn ((v47.2,(v52==([108,97,115,116]:Str)),([]:Str),([]:Str),v47.1,0,((a1.length:Int)==2))) hr rfl rfl
  refine rn tk 1 rfl ?_;obtain ⟨v54,h55,hr⟩:=zaa hr;refine dq tk 0 3 [] [(2,.bo v54)] .nil (.cons rfl rfl (KTb rfl (Wla 0 0 a1 v54 h55) rfl) .nil) ?_ mixed;exact kx tk 7 hr
 intro j1 hr;unfold kwa at hr;refine jb hr (fun j2=>[(4,.ptr 4 0),(5,.bo j2)]) (fun j2=>[(4,.cells [.i a0,.s j1.2.2.1,.s j1.2.2.2.1,.i j1.2.2.2.2.1,.i j1.2.2.2.2.2.1,.bo j1.2.2.2.2.2.2])]) (fun j2 hr=>?_) (fun j2 hr=>?_)
 .refine bx tk 4 120 hr (fun c3 hr=>?_) fun c3 hr=>?_
  .exact jx tk 5 hr
  exact jx tk 5 hr
 exact kx tk 1 hr
theorem WXa(a0:Str)(r:zfa × zqa)(hr:w8a a0=some r):Run prog 116 [.s a0] (.tup [.agg (zN1 r.1),.agg [.i r.2.Code,.i r.2.Index]]):=by
 unfold w8a at hr;refine rfx (fn:=Tryz.f116) func116 fun g0 hg=>?_
 refine ax tk 14 13 hr (fun hr=>?_) fun hr=>?_
 .refine clx tk 3 hr (zea _ _) fun v2 _ hr=>?_
  exact kx tk 6 hr
 refine clx tk 5 hr (Zsa _) fun v4 _ hr=>?_
 refine clx tk 11 hr ZUa fun v6 _ hr=>?_
 refine aq1 tk 4 hr [2,3,4,18] [3,2] (fun s8=>[(5,.i s8.1),(19,.i s8.2)]) (fun _=>[]) (.exit 0) [2,3,4] [3,2] (fun b9=>[(5,.i b9)]) (fun _=>[]) (fun s8 x10 hr=>?_) (fun b9 hr=>?_)
 .unfold qNa at hr;refine ax tk 6 20 hr (fun hr=>?_) fun hr=>?_
  .refine jq tk 2 hr [2,3,4,18,19] [3,2] (fun j12=>[(5,.i j12)]) (fun _=>[]) (fun j12 hr=>?_) (fun j12 hr=>?_)
   .refine rn tk 4 rfl ?_;obtain ⟨v13,h14,hr⟩:=zaa hr;refine wq (KRb (f:=cS) (L:=([v6.1,v6.2.1,v6.2.2.1,v6.2.2.2.1,v6.2.2.2.2.1,v6.2.2.2.2.2.1,v6.2.2.2.2.2.2.1,v6.2.2.2.2.2.2.2]:List Str)) rfl rfl j9a zGa rfl rfl (fun _=>rfl) h14 rfl) rfl rfl rfl ?_;refine jq tk 4 hr [2,3,4,5,6,18,19] [3,2] (fun j15=>[(33,.bo j15)]) (fun _=>[]) (fun j15 hr=>?_) (fun j15 hr=>?_)
    .refine rn tk 2 rfl<|wn tk rfl rfl rfl ?_;refine bx tk 2 26 hr (fun c16 hr=>?_) fun c16 hr=>?_
     .refine rn tk 1 rfl ?_;obtain ⟨v17,h18,hr⟩:=zaa hr;refine ug rfl rfl rfl<|wi tk h18 rfl rfl rfl rfl rfl<|rn tk 1 rfl ?_;obtain ⟨v19,h20,hr⟩:=zaa hr;refine ug rfl rfl rfl<|cl (jXa _ _ h20) rfl rfl ?_;exact jx tk 4 hr
     exact jx tk 8 hr
    refine ax tk 0 33 hr (fun hr=>?_) fun hr=>?_
    .exact jx tk 6 hr
    exact jx tk 2 hr
   exact cx tk 4 hr
  exact ox tk 2 hr
 refine ax tk 9 38 hr (fun hr=>?_) fun hr=>?_
 .refine clx tk 3 hr (zea _ _) fun v23 _ hr=>?_
  exact kx tk 6 hr
 refine rn tk 6 rfl ?_;obtain ⟨v25,h26,hr⟩:=zaa hr;refine wlL tk h26 rfl rfl rfl (fun _=>rfl) rfl ?_;refine clx tk 0 hr (Yya _ _) fun v27 _ hr=>?_
 refine ax tk 15 49 hr (fun hr=>?_) fun hr=>?_
 .refine clx tk 3 hr (zea _ _) fun v30 _ hr=>?_
  exact kx tk 6 hr
 refine clx tk 6 hr (jda _) fun v32 _ hr=>?_
 refine clx tk 7 hr (zwa _) fun v34 _ hr=>?_
 refine ax tk 2 55 hr (fun hr=>?_) fun hr=>?_
 .refine mdq tk 1 [] [2,3] .nil ?_ mixed;exact kx tk 3 hr
 refine rn tk 3 rfl ?_;obtain ⟨v37,h38,hr⟩:=zaa hr;refine mdq tk 0 [(1,.agg [.i v37.Code,.i v37.Index])] [2,3] (.cons rfl rfl (fun _ _=>(zVa (zya v37 h38) rfl)) .nil) ?_ mixed;exact kx tk 2 hr
theorem wSa(a0:zda)(r:zda)(hr:qma a0=some r):RunS prog 115 [.ptr 90002000 0] (zda.sto a0) (.tup []) (zda.sto r) 90002000 [90002009,90002010,90002018,90002019]:=by
 unfold qma at hr;refine rfS (fn:=Tryz.f115) (H:=90002999) (.ptr 90002000 0) ⟨func115,rfl,by kernel_rfl⟩ rfl (hasT rfl) (.inl ⟨rfl,rfl⟩) rfl rfl rfl rfl fun g0 hg S sg T=>?_
 refine csx tk 3 hr (kXa a0) fun v1 _ hr=>?_
 refine rn tk 13 rfl ?_;refine YYa 90002009 (hO ?_);refine kJa 90002009 (o:=90002000) (j:=8) 5 1 rfl rfl rfl rfl (hO ?_);exact sxx tk 1 hr
theorem Zja(a0:List zba)(r:(List zba) × zqa)(hr:wra a0=some r):Run prog 202 [.l zba.pc a0] (.tup [.l zba.pc r.1,.agg [.i r.2.Code,.i r.2.Index]]):=by
 unfold wra at hr;refine rfx (fn:=f202) func202 fun g0 hg=>?_
 refine rn tk 10 rfl<|wn tk rfl rfl rfl ?_;refine ax tk 3 12 hr (fun hr=>?_) fun hr=>?_
 .refine clx tk 2 hr (zea _ _) fun v2 _ hr=>?_
  exact kx tk 6 hr
 refine rn tk 4 rfl<|wo (qNb (k0:=14) 1014 false rfl rfl rfl) rfl<|rn tk 6 rfl ?_;refine vWa 1005 (d:=5) 43 2 rfl rfl rfl (hO ?_);refine rn tk 6 rfl<|wn tk rfl rfl rfl ?_;refine aq2 tk 4 hr [3,4,5,15,16] [3] (fun s4=>[(17,.i s4.1)]) (fun s4=>[(1005,.row 43 true 2 (List.map zba.pc s4.2.1)),(1014,.mapo false (menc keyS cI s4.2.2))]) (.exit 0) [3,5] [3] (fun _=>[]) (fun b5=>[(1005,.row 43 true 2 (List.map zba.pc b5))]) .ret [3] [] (fun b6=>[(2,.l zba.pc b6.1)]) (fun b6=>[(3,.cells [.i b6.2.Code,.i b6.2.Index])]) (fun s4 x8 hr=>?_) (fun b5 hr=>?_) (fun b6 hr=>?_)
 .unfold vda at hr;refine ax tk 6 18 hr (fun hr=>?_) fun hr=>?_
  .refine jkq tk 2 [3,4,5,15,16,17] [3] (fun _=>[]) (fun j10=>[(1005,.row 43 true 2 (List.map zba.pc j10.1)),(1014,.mapo false (menc keyS cI j10.2))]) (fun j10=>vca s4 j10=some x8) ?_ ?_
   .refine rn tk 4 rfl ?_;obtain ⟨v11,h12,hr⟩:=zaa hr;refine wi tk h12 rfl rfl rfl rfl rfl ?_;refine clx tk 11 hr (qoa _) fun v13 _ hr=>?_
    refine ax tk 3 25 hr (fun hr=>?_) fun hr=>?_
    .refine clx tk 3 hr (zea _ _) fun v16 _ hr=>?_
     exact ox tk 8 hr
    refine clx tk 7 hr (wJa _) fun v18 _ hr=>?_
    refine ax tk 3 31 hr (fun hr=>?_) fun hr=>?_
    .refine clx tk 3 hr (zea _ _) fun v21 _ hr=>?_
     exact ox tk 8 hr
    refine rn tk 7 rfl<|wq (wKb (KK:=keyS) (F:=cI) (es:=s4.2.2) (k:=v11.Address) (z:=0) rfl rfl rfl yxa.u zGa.u kQa rfl) rfl rfl rfl ?_;refine ax tk 13 41 hr (fun hr=>?_) fun hr=>?_
    .refine rn tk 1 rfl ?_;obtain ⟨v24,h25,hr⟩:=zaa hr;obtain ⟨v26,h27,hr⟩:=zaa hr;obtain ⟨v28,h29,hr⟩:=zaa hr;obtain ⟨v30,h31,hr⟩:=zaa hr;refine mh tk 0 [(2,.hp 1005 (Int.toNat (((mget s4.2.2 v11.Address).getD 0))) 0),(4,.i v26.Notify),(7,.i ((iOr v26.Notify v11.Notify))),(8,.hp 1005 (Int.toNat (((mget s4.2.2 v11.Address).getD 0))) 0)] [(10,fun f s=>(f,(Sto.upd s 1005 (.row 43 true 2 (List.map zba.pc ((List.set s4.2.1 (Int.toNat (((mget s4.2.2 v11.Address).getD 0))) ((zba.mk v30.Address ((iOr v26.Notify v11.Notify)))))))))))] [[],[10]] ?_ mixed;refine .cons (mnq tk [2,4,7,8,10] (.cons (mpu (kua (krb (F:=zba.pc) (l:=s4.2.1) (n:=(((mget s4.2.2 v11.Address).getD 0))) rfl rfl rfl zha zxa h25))) (.cons (mpu (kua (VJa (F:=zba.pc) (l:=s4.2.1) (n:=(((mget s4.2.2 v11.Address).getD 0))) (j:=1) rfl rfl kQa rfl h27 rfl))) (.cons (mpu (kua (ev_ior rfl rfl))) (.cons (mpu (kua (krb (F:=zba.pc) (l:=s4.2.1) (n:=(((mget s4.2.2 v11.Address).getD 0))) rfl rfl rfl zha zxa h29))) (.cons (mstq 1 (q1b (F:=zba.pc) (l:=s4.2.1) (n:=(((mget s4.2.2 v11.Address).getD 0))) (j:=1) (v:=v30) (v' :=((zba.mk v30.Address ((iOr v26.Notify v11.Notify))))) (pcs:=[pI ((iOr v26.Notify v11.Notify))]) rfl rfl rfl kQa rfl h31 rfl rfl)) .nil)))))) (.cons (mfq tk [] [3,4,5,15,16,17] .nil (hA ?_)) .nil);refine rn tk 4 rfl<|jn (((List.set s4.2.1 (Int.toNat (((mget s4.2.2 v11.Address).getD 0))) ((zba.mk v30.Address ((iOr v26.Notify v11.Notify))))),s4.2.2)) hr rfl rfl
    refine rn tk 8 rfl<|wnh tk rfl rfl rfl rfl<|wo (J4a (KK:=keyS) (F:=cI) (es:=s4.2.2) (k:=v11.Address) (v:=((s4.2.1.length:Int))) rfl rfl rfl rfl rfl yxa.u zGa.u) rfl<|rn tk 5 rfl<|wz zba.pc ([v11]:List zba) tk rfl rfl (fun _=>rfl) rfl rfl rfl ?_;obtain ⟨v32,h33,hr⟩:=zaa hr;refine wa tk h33 rfl rfl rfl rfl (fun _=>rfl) rfl rfl<|rn tk 3 rfl<|jn ((v32,(mput s4.2.2 v11.Address ((s4.2.1.length:Int))))) hr rfl rfl
   intro j10 hr;unfold vca at hr;exact cx tk 4 hr
  exact ox tk 2 hr
 .refine clx tk 5 hr zya fun v34 _ hr=>?_
  refine rn tk 4 rfl ?_;refine yDa 1005 rfl (hC ?_);refine qTa (d:=2) (F:=zba.pc) (l:=b5) rfl rfl (hC ?_);exact kx tk 1 hr
 exact kx tk 2 hr
theorem jka(a0:zda)(a1:zfa)(r:zda)(hr:kGa a0 a1=some r):RunS prog 165 [.ptr 90002000 0,.agg (zN1 a1)] (zda.sto a0) (.tup []) (zda.sto r) 90002000 [90002009,90002010,90002018,90002019]:=by
 unfold kGa at hr;refine rfS (fn:=Tryz.f165) (H:=90002999) (.ptr 90002000 0) ⟨func165,rfl,by kernel_rfl⟩ rfl (hasT rfl) (.inl ⟨rfl,rfl⟩) rfl rfl rfl rfl fun g0 hg S sg T=>?_
 refine rn tk 6 rfl ?_;obtain ⟨v1,h2,hr⟩:=zaa hr;obtain ⟨v3,h4,hr⟩:=zaa hr;obtain ⟨v5,h6,hr⟩:=zaa hr;refine mh tk 0 [(11,.l zba.pc (([(zba.mk a1.Address a1.Notify)]:List zba)))] [(5,fun f s=>((12,.hs 1012 0)::f,((1012,.row 43 true 2 (List.map zba.pc v1))::s))),(12,fun f s=>((19,.hs 1012 0)::Fr.clrs [1012] f,(Sto.upd (Sto.clr 1012 s) 1012 (.row 43 true 2 (List.map zba.pc v3))))),(13,fun f s=>((20,.tup [.l zba.pc v5.1,.agg [.i v5.2.Code,.i v5.2.Index]])::Fr.clrs [1012] f,(Sto.upd s 1012 (.row 43 false 2 (List.map zba.pc v3))))),(17,fun f s=>((5,.ptr 5 0)::f,((5,.cells [.i 0,.i 0])::s))),(19,fun f s=>(f,(Sto.upd s 5 (.cells [.i v5.2.Code,.i v5.2.Index]))))] [[],[5],[17],[5,12],[5,17],[5,12,13],[5,12,17],[5,12,13,17],[5,12,13,17,19]] ?_ mixed;refine .cons (mnq tk [5,11,17] (.cons (mdtw 1 (Qra 1012 (kIa a0.Server.To v1 h2) rfl rfl rfl rfl)) (.cons (mpu (wja (F:=zba.pc) (l:=([(zba.mk a1.Address a1.Notify)]:List zba)) zha zxa rfl (fun _=>rfl) rfl rfl)) (.cons (mdtw 2 (YCa 5 rfl kPa (.inr ⟨rfl,rfl⟩) rfl rfl rfl)) .nil)))) (.cons (mnq tk [11,12,17] (.cons (mpu (wja (F:=zba.pc) (l:=([(zba.mk a1.Address a1.Notify)]:List zba)) zha zxa rfl (fun _=>rfl) rfl rfl)) (.cons (mdtw 3 (jva (F:=zba.pc) (l:=v1) (xs:=(([(zba.mk a1.Address a1.Notify)]:List zba))) (lim:=5864062014805) rfl rfl rfl rfl zha zxa rfl rfl (fun _=>rfl) rfl h4)) (.cons (mdtw 4 (YCa 5 rfl kPa (.inr ⟨rfl,rfl⟩) rfl rfl rfl)) .nil)))) (.cons (mnq tk [5,11] (.cons (mdtw 4 (Qra 1012 (kIa a0.Server.To v1 h2) rfl rfl rfl rfl)) (.cons (mpu (wja (F:=zba.pc) (l:=([(zba.mk a1.Address a1.Notify)]:List zba)) zha zxa rfl (fun _=>rfl) rfl rfl)) .nil))) (.cons (mnq tk [13,17] (.cons (mdtw 5 (yWb (F:=zba.pc) (l:=v3) 19 (Zja v3 v5 h6) rfl rfl rfl rfl rfl)) (.cons (mdtw 6 (YCa 5 rfl kPa (.inr ⟨rfl,rfl⟩) rfl rfl rfl)) .nil))) (.cons (mnq tk [11,12] (.cons (mpu (wja (F:=zba.pc) (l:=([(zba.mk a1.Address a1.Notify)]:List zba)) zha zxa rfl (fun _=>rfl) rfl rfl)) (.cons (mdtw 6 (jva (F:=zba.pc) (l:=v1) (xs:=(([(zba.mk a1.Address a1.Notify)]:List zba))) (lim:=5864062014805) rfl rfl rfl rfl zha zxa rfl rfl (fun _=>rfl) rfl h4)) .nil))) (.cons (mnq tk [17] (.cons (mdtw 7 (YCa 5 rfl kPa (.inr ⟨rfl,rfl⟩) rfl rfl rfl)) .nil)) (.cons (mnq tk [13] (.cons (mdtw 7 (yWb (F:=zba.pc) (l:=v3) 19 (Zja v3 v5 h6) rfl rfl rfl rfl rfl)) .nil)) (.cons (mnq tk [19] (.cons (mstw 8 (qba rfl rfl rfl kPa rfl rfl)) .nil)) (.cons (mfq tk [] [0,4] .nil (hA ?_)) .nil))))))));refine jq tk 2 hr [0,4] [90002999,90002000,90002009,90002010,90002018,90002019] (fun j7=>[(31,.bo j7)]) (fun _=>[]) (fun j7 hr=>?_) (fun j7 hr=>?_)
 .refine bx tk 8 38 hr (fun c8 hr=>?_) fun c8 hr=>?_
  .exact jx tk 8 hr
  exact jx tk 8 hr
 refine ax tk 0 31 hr (fun hr=>?_) fun hr=>?_
 .refine rn tk 2 rfl<|wz cS ([([111,114,100,101,114]:Str)]:List Str) tk rfl rfl (fun _=>rfl) rfl rfl rfl ?_;refine csx tk 0 hr (zoa _ _ _) fun v10 _ hr=>?_
  exact sxx tk 2 hr
 refine rn tk 3 rfl<|wn tk rfl rfl rfl ?_;refine ax tk 9 48 hr (fun hr=>?_) fun hr=>?_
 .refine rn tk 2 rfl<|wz cS ([([109,97,110,121]:Str)]:List Str) tk rfl rfl (fun _=>rfl) rfl rfl rfl ?_;refine csx tk 0 hr (zoa _ _ _) fun v13 _ hr=>?_
  exact sxx tk 2 hr
 refine rn tk 12 rfl<|wz cS ([([111,107]:Str)]:List Str) tk rfl rfl (fun _=>rfl) rfl rfl rfl ?_;refine csx tk 0 hr (zoa _ _ _) fun v15 _ hr=>?_
 exact sxx tk 2 hr
theorem j3a(a0:zda)(a1:zfa)(r:zda)(hr:k3a a0 a1=some r):RunS prog 117 [.ptr 90002000 0,.agg (zN1 a1)] (zda.sto a0) (.tup []) (zda.sto r) 90002000 [90002009,90002010,90002018,90002019]:=by
 unfold k3a at hr;refine rfS (fn:=Tryz.f117) (H:=90002999) (.ptr 90002000 0) ⟨func117,rfl,by kernel_rfl⟩ rfl (hasT rfl) (.inl ⟨rfl,rfl⟩) rfl rfl rfl rfl fun g0 hg S sg T=>?_
 refine ax tk 18 6 hr (fun hr=>?_) fun hr=>?_
 .refine csx tk 3 hr (kXa a0) fun v2 _ hr=>?_
  refine rn tk 11 rfl ?_;obtain ⟨v4,h5,hr⟩:=zaa hr;obtain ⟨v6,h7,hr⟩:=zaa hr;obtain ⟨v8,h9,hr⟩:=zaa hr;obtain ⟨v10,h11,hr⟩:=zaa hr;refine dq tk 0 21 [] [(11,.s v4),(12,.s v6),(18,.s v8),(19,.s v10),(20,.l cS (([v2.Server.Name,v6,v10]:List Str)))] .nil (.cons rfl rfl (zVa (qla v2.Server.Size v4 h5) rfl) (.cons rfl rfl (kua (qHb rfl rfl h7)) (.cons rfl rfl (zVa (qla v2.Server.Many v8 h9) rfl) (.cons rfl rfl (kua (qHb rfl rfl h11)) (.cons rfl rfl (wja (F:=cS) (l:=([v2.Server.Name,v6,v10]:List Str)) Z4a zGa rfl (fun _=>rfl) rfl rfl) .nil))))) ?_ mixed;refine csx tk 0 hr (zoa _ _ _) fun v12 _ hr=>?_
  exact sxx tk 2 hr
 refine ax tk 6 36 hr (fun hr=>?_) fun hr=>?_
 .refine jq tk 1 hr [0,3] [3,90002999,90002000,90002009,90002010,90002018,90002019] (fun j15=>[(51,.bo j15)]) (fun _=>[]) (fun j15 hr=>?_) (fun j15 hr=>?_)
  .refine bx tk 8 58 hr (fun c16 hr=>?_) fun c16 hr=>?_
   .exact jx tk 8 hr
   exact jx tk 8 hr
  refine ax tk 0 51 hr (fun hr=>?_) fun hr=>?_
  .refine rn tk 2 rfl<|wz cS ([([111,114,100,101,114]:Str)]:List Str) tk rfl rfl (fun _=>rfl) rfl rfl rfl ?_;refine csx tk 0 hr (zoa _ _ _) fun v18 _ hr=>?_
   exact sxx tk 3 hr
  refine mdq tk 1 [] [0,3,68] .nil ?_ mixed;refine ax tk 1 68 hr (fun hr=>?_) fun hr=>?_
  .refine rn tk 2 rfl<|wz cS ([([108,97,114,103,101]:Str)]:List Str) tk rfl rfl (fun _=>rfl) rfl rfl rfl ?_;refine csx tk 0 hr (zoa _ _ _) fun v21 _ hr=>?_
   exact sxx tk 3 hr
  refine mdq tk 1 [] [0] .nil ?_ mixed;refine rn tk 3 rfl<|wz cS ([([111,107]:Str)]:List Str) tk rfl rfl (fun _=>rfl) rfl rfl rfl ?_;refine csx tk 0 hr (zoa _ _ _) fun v23 _ hr=>?_
  exact sxx tk 3 hr
 refine ax tk 6 80 hr (fun hr=>?_) fun hr=>?_
 .refine csx tk 3 hr (jka a0 a1) fun v26 _ hr=>?_
  exact sxx tk 2 hr
 refine ax tk 6 85 hr (fun hr=>?_) fun hr=>?_
 .refine jq tk 1 hr [0] [90002999,90002000,90002009,90002010,90002018,90002019] (fun j29=>[(100,.bo j29)]) (fun _=>[]) (fun j29 hr=>?_) (fun j29 hr=>?_)
  .refine rn tk 6 rfl<|wn tk rfl rfl rfl ?_;refine bx tk 2 94 hr (fun c30 hr=>?_) fun c30 hr=>?_
   .exact jx tk 7 hr
   exact jx tk 7 hr
  refine ax tk 0 100 hr (fun hr=>?_) fun hr=>?_
  .refine rn tk 3 rfl<|wz cS ([([111,114,100,101,114]:Str)]:List Str) tk rfl rfl (fun _=>rfl) rfl rfl rfl ?_;refine csx tk 0 hr (zoa _ _ _) fun v32 _ hr=>?_
   exact sxx tk 5 hr
  refine rn tk 13 rfl<|wz cS ([([103,111,32,111,110]:Str)]:List Str) tk rfl rfl (fun _=>rfl) rfl rfl rfl ?_;refine csx tk 0 hr (zoa _ _ _) fun v34 _ hr=>?_
  exact sxx tk 2 hr
 refine ax tk 6 111 hr (fun hr=>?_) fun hr=>?_
 .refine mh tk 1 [(13,.i ((a0.Server.To.length:Int)))] [(18,fun f s=>(f,(Sto.upd s 90002000 (.cells [.s a0.Server.Name,.i a0.Server.Size,.i a0.Server.Many,.i 2,.bo a0.Server.Greeted,.bo a0.Server.Mailing,.s a0.Server.From,.l zba.pc a0.Server.To,.hs 90002009 0,.hs 90002010 0,.i a0.Server.Lost,.i a0.Server.Dots,.bo a0.Server.Chunked,.i a0.Server.Left,.bo a0.Server.Last,.bo a0.Server.Ignore,.i a0.Server.Count,.hs 90002018 0,.hs 90002019 0])))),(22,fun f s=>(f,(Sto.upd s 90002000 (.cells [.s a0.Server.Name,.i a0.Server.Size,.i a0.Server.Many,.i 2,.bo a0.Server.Greeted,.bo a0.Server.Mailing,.s a0.Server.From,.l zba.pc a0.Server.To,.hs 90002009 0,.hs 90002010 0,.i a0.Server.Lost,.i a0.Server.Dots,.bo a0.Server.Chunked,.i a1.Size,.bo a0.Server.Last,.bo a0.Server.Ignore,.i a0.Server.Count,.hs 90002018 0,.hs 90002019 0])))),(26,fun f s=>(f,(Sto.upd s 90002000 (.cells [.s a0.Server.Name,.i a0.Server.Size,.i a0.Server.Many,.i 2,.bo a0.Server.Greeted,.bo a0.Server.Mailing,.s a0.Server.From,.l zba.pc a0.Server.To,.hs 90002009 0,.hs 90002010 0,.i a0.Server.Lost,.i a0.Server.Dots,.bo a0.Server.Chunked,.i a1.Size,.bo a1.Last,.bo a0.Server.Ignore,.i a0.Server.Count,.hs 90002018 0,.hs 90002019 0])))),(30,fun f s=>(f,(Sto.upd s 90002000 (.cells [.s a0.Server.Name,.i a0.Server.Size,.i a0.Server.Many,.i 2,.bo a0.Server.Greeted,.bo a0.Server.Mailing,.s a0.Server.From,.l zba.pc a0.Server.To,.hs 90002009 0,.hs 90002010 0,.i a0.Server.Lost,.i a0.Server.Dots,.bo a0.Server.Chunked,.i a1.Size,.bo a1.Last,.bo (((a0.Server.To.length:Int)==0)),.i a0.Server.Count,.hs 90002018 0,.hs 90002019 0]))))] [[],[18],[18,22],[18,22,26],[18,22,26,30]] ?_ mixed;refine .cons (mnq tk [13,18] (.cons (mpu (kua (yua (f:=zba.pc) rfl zha.u))) (.cons (mstq 1 (qba rfl rfl rfl kQa rfl rfl)) .nil))) (.cons (mnq tk [13,22] (.cons (mpu (kua (yua (f:=zba.pc) rfl zha.u))) (.cons (mstq 2 (qba rfl rfl rfl kQa rfl rfl)) .nil))) (.cons (mnq tk [13,26] (.cons (mpu (kua (yua (f:=zba.pc) rfl zha.u))) (.cons (mstq 3 (qba rfl rfl rfl WAa rfl rfl)) .nil))) (.cons (mnq tk [13,30] (.cons (mpu (kua (yua (f:=zba.pc) rfl zha.u))) (.cons (mstq 4 (qba rfl rfl rfl WAa rfl rfl)) .nil))) (.cons (mfq tk [] [0] .nil (hA ?_)) .nil))));refine ax tk 26 155 hr (fun hr=>?_) fun hr=>?_
  .refine csx tk 2 hr (wia _) fun v38 _ hr=>?_
   exact sxx tk 2 hr
  exact sxx tk 2 hr
 refine ax tk 6 158 hr (fun hr=>?_) fun hr=>?_
 .refine csx tk 3 hr (kXa a0) fun v41 _ hr=>?_
  refine rn tk 4 rfl<|wz cS ([([111,107]:Str)]:List Str) tk rfl rfl (fun _=>rfl) rfl rfl rfl ?_;refine csx tk 0 hr (zoa _ _ _) fun v43 _ hr=>?_
  exact sxx tk 2 hr
 refine ax tk 6 165 hr (fun hr=>?_) fun hr=>?_
 .refine rn tk 2 rfl<|wz cS ([([111,107]:Str)]:List Str) tk rfl rfl (fun _=>rfl) rfl rfl rfl ?_;refine csx tk 0 hr (zoa _ _ _) fun v46 _ hr=>?_
  exact sxx tk 2 hr
 refine ax tk 6 170 hr (fun hr=>?_) fun hr=>?_
 .refine rn tk 3 rfl<|wz cS ([([98,121,101]:Str)]:List Str) tk rfl rfl (fun _=>rfl) rfl rfl rfl ?_;refine csx tk 0 hr (zoa _ _ _) fun v49 _ hr=>?_
  refine csx tk 4 hr (wSa v49) fun v51 _ hr=>?_
  exact sxx tk 2 hr
 exact sxx tk 2 hr
theorem Kia(a0:zda)(a1:UInt8)(r:zda)(hr:qEa a0 a1=some r):RunS prog 72 [.ptr 90002000 0,.u8 a1] (zda.sto a0) (.tup []) (zda.sto r) 90002000 [90002009,90002010,90002018,90002019]:=by
 unfold qEa at hr;refine rfS (fn:=f72) (H:=90002999) (.ptr 90002000 0) ⟨func72,rfl,by kernel_rfl⟩ rfl (hasT rfl) (.inl ⟨rfl,rfl⟩) rfl rfl rfl rfl fun g0 hg S sg T=>?_
 refine rn tk 9 rfl<|wz cU ([a1]:List UInt8) tk rfl rfl (fun _=>rfl) rfl rfl rfl ?_;obtain ⟨v1,h2,hr⟩:=zaa hr;refine wa tk h2 rfl rfl rfl rfl (fun _=>rfl) rfl rfl<|rn tk 13 rfl ?_;refine vqa rfl (jea (F:=cU) (l:=([(13:UInt8),(10:UInt8)]:List UInt8)) zja zCa rfl (fun _=>rfl) rfl rfl) zja zCa (kCa rfl) (kCa rfl) rfl (hO ?_);refine Yza (d:=25) (F:=cU) (l:=v1) rfl rfl (hO ?_);refine clx tk 0 hr (Vya _ _) fun v3 _ hr=>?_
 refine ax tk 14 32 hr (fun hr=>?_) fun hr=>?_
 .refine jq tk 0 hr [] [90002999] (fun _=>[]) (fun j6=>zda.sto j6) (fun j6 hr=>?_) (fun j6 hr=>?_)
  .refine rn tk 7 rfl<|wnh tk rfl rfl rfl rfl ?_;refine ax tk 3 39 hr (fun hr=>?_) fun hr=>?_
   .refine rn tk 3 rfl<|wz cS ([([117,110,107,110,111,119,110]:Str)]:List Str) tk rfl rfl (fun _=>rfl) rfl rfl rfl ?_;refine csx tk 0 hr (zoa _ _ _) fun v8 _ hr=>?_
    refine csx tk 4 hr (wSa v8) fun v10 _ hr=>?_
    exact jx tk 1 hr
   exact jx tk 1 hr
  exact sxx tk 2 hr
 refine rn tk 9 rfl ?_;refine YYa 90002009 (hO ?_);refine kJa 90002009 (o:=90002000) (j:=8) 5 1 rfl rfl rfl rfl (hO ?_);refine rn tk 5 rfl<|wb tk rfl rfl rfl ?_;refine clx tk 0 hr (WXa _) fun v12 _ hr=>?_
 refine ax tk 22 60 hr (fun hr=>?_) fun hr=>?_
 .refine csx tk 3 hr (j3a _ _) fun v15 _ hr=>?_
  exact sxx tk 2 hr
 refine ax tk 6 65 hr (fun hr=>?_) fun hr=>?_
 .refine rn tk 2 rfl<|wz cS ([([117,110,107,110,111,119,110]:Str)]:List Str) tk rfl rfl (fun _=>rfl) rfl rfl rfl ?_;refine csx tk 0 hr (zoa _ _ _) fun v18 _ hr=>?_
  exact sxx tk 2 hr
 refine rn tk 2 rfl<|wz cS ([([115,121,110,116,97,120]:Str)]:List Str) tk rfl rfl (fun _=>rfl) rfl rfl rfl ?_;refine csx tk 0 hr (zoa _ _ _) fun v20 _ hr=>?_
 exact sxx tk 2 hr
theorem v9a(a0:List UInt8)(r:List UInt8)(hr:k2a a0=some r):RunO prog 62 [.l cU a0] 5 1 (List.map cU r):=by
 unfold k2a at hr;refine rfO (fn:=f62) ⟨func62,rfl,by kernel_rfl⟩ rfl fun g0 hg=>?_
 refine rn tk 3 rfl ?_;refine vWa 1002 (d:=2) 5 1 rfl rfl rfl (hO ?_);refine rn tk 6 rfl ?_;refine wKa (d:=3) (F:=cU) (l:=a0) rfl rfl rfl zja (fun c1=>hO ?_) (hO ?_)
 .replace hr:=j6a c1 hr
  refine rn tk 6 rfl ?_;refine vWa 2002 (d:=2) 5 1 rfl rfl rfl (hO ?_);refine rn tk 4 rfl ?_;cases hr;exact krO tk (.inr rfl) rfl rfl
 replace hr:=j7a hr
 refine rn tk 7 rfl<|wo (yKa (k:=5) rfl zja zCa) rfl<|rn tk 1 rfl ?_;obtain ⟨v2,h3,hr⟩:=zaa hr;refine wo (vra (k:=7) (F:=cU) (xs:=a0) (lim:=140737488355328) 2002 rfl rfl rfl zja zCa rfl rfl (fun _=>rfl) rfl rfl rfl h3) rfl<|rn tk 4 rfl ?_;cases hr;exact krO tk (.inr rfl) rfl rfl
theorem JZa(a0:zsa)(a1:List UInt8)(r:zsa × (List zra) × (List zua) × zqa)(hr:jOa a0 a1=some r):Run prog 41 [.agg (zN3 a0),.l cU a1] (.tup [.agg (zN3 r.1),.l zra.pc r.2.1,.l zua.pc r.2.2.1,.agg [.i r.2.2.2.Code,.i r.2.2.2.Index]]):=by
 unfold jOa at hr;refine rfx (fn:=f41) func41 fun g0 hg=>?_
 refine clx tk 17 hr (y4a _ _ _) fun v1 _ hr=>?_
 refine clx tk 9 hr (zwa _) fun v3 _ hr=>?_
 refine ax tk 3 20 hr (fun hr=>?_) fun hr=>?_
 .refine mdq tk 1 [] [4,5,6,7] .nil ?_ mixed;exact kx tk 4 hr
 refine clx tk 3 hr (WSa _) fun v6 _ hr=>?_
 refine ax tk 4 25 hr (fun hr=>?_) fun hr=>?_
 .refine clx tk 3 hr (zea _ _) fun v9 _ hr=>?_
  exact kx tk 9 hr
 refine rn tk 3 rfl<|wn tk rfl rfl rfl ?_;refine ax tk 4 31 hr (fun hr=>?_) fun hr=>?_
 .refine clx tk 3 hr (zea _ _) fun v12 _ hr=>?_
  exact kx tk 9 hr
 refine rn tk 4 rfl ?_;obtain ⟨v14,h15,hr⟩:=zaa hr;obtain ⟨v16,h17,hr⟩:=zaa hr;obtain ⟨v18,h19,hr⟩:=zaa hr;refine mh tk 0 [(2,.l zba.pc v14)] [(5,fun f s=>((42,.hs 1042 0)::f,((1042,.row 5 true 1 (List.map cU v16))::s))),(8,fun f s=>((45,.hs 1045 0)::f,((1045,.row 5 true 1 (List.map cU v18))::s))),(10,fun f s=>(f,(Sto.upd s 2 (.cells [.s a0.Name,.i a0.Size,.i a0.Many,.i a0.Phase,.bo a0.Greeted,.bo a0.Mailing,.s a0.From,.l zba.pc v14,.l cU a0.Buffer,.l cU a0.Data,.i a0.Lost,.i a0.Dots,.bo a0.Chunked,.i a0.Left,.bo a0.Last,.bo a0.Ignore,.i a0.Count])))),(12,fun f s=>(f,(Sto.upd s 2 (.cells [.s a0.Name,.i a0.Size,.i a0.Many,.i a0.Phase,.bo a0.Greeted,.bo a0.Mailing,.s a0.From,.l zba.pc v14,.hs 1042 0,.l cU a0.Data,.i a0.Lost,.i a0.Dots,.bo a0.Chunked,.i a0.Left,.bo a0.Last,.bo a0.Ignore,.i a0.Count])))),(14,fun f s=>(f,(Sto.upd s 2 (.cells [.s a0.Name,.i a0.Size,.i a0.Many,.i a0.Phase,.bo a0.Greeted,.bo a0.Mailing,.s a0.From,.l zba.pc v14,.hs 1042 0,.hs 1045 0,.i a0.Lost,.i a0.Dots,.bo a0.Chunked,.i a0.Left,.bo a0.Last,.bo a0.Ignore,.i a0.Count]))))] [[],[5],[5,8],[5,8,10],[5,8,10,12],[5,8,10,12,14]] ?_ mixed;refine .cons (mnq tk [2,5] (.cons (mpu (zVa (zWa a0.To v14 h15) rfl)) (.cons (mdtq 1 (Qra 1042 (v9a a0.Buffer v16 h17) rfl rfl rfl rfl)) .nil))) (.cons (mnq tk [8] (.cons (mdtq 2 (Qra 1045 (v9a a0.Data v18 h19) rfl rfl rfl rfl)) .nil)) (.cons (mnq tk [10] (.cons (mstq 3 (qba rfl rfl rfl zha rfl rfl)) .nil)) (.cons (mnq tk [12] (.cons (mstq 4 (qba rfl rfl rfl zja rfl rfl)) .nil)) (.cons (mnq tk [14] (.cons (mstq 5 (qba rfl rfl rfl zja rfl rfl)) .nil)) (.cons (mfq tk [] [1,2,4,7] .nil (hA ?_)) .nil)))));refine rn tk 5 rfl<|wo (Qma (k:=51) 90002000 rfl rfl rfl rfl rfl) rfl<|rn tk 2 rfl ?_;refine YBa 1042 90002009 rfl rfl rfl rfl rfl rfl (hO ?_);refine qLb 90002009 rfl (hO ?_);refine YBa 1045 90002010 rfl rfl rfl rfl rfl rfl (hO ?_);refine qLb 90002010 rfl (hO ?_);refine kJa 90002018 (o:=90002000) (j:=17) 58 2 rfl rfl rfl rfl (hO ?_);refine kJa 90002019 (o:=90002000) (j:=18) 30 5 rfl rfl rfl rfl (hO ?_);refine rn tk 12 rfl<|wn tk rfl rfl rfl ?_;refine aq1 tk 4 hr [4,7,9,10,53,54] [9,7] (fun s20=>[(55,.i s20.1)]) (fun s20=>(zda.sto s20.2)++ [(4,.cells [.s (([]:Str)),.i 0,.i 0,.i 0,.bo false,.bo false,.s (([]:Str)),.l zba.pc ([]),.l cU ([]),.l cU ([]),.i 0,.i 0,.bo false,.i 0,.bo false,.bo false,.i 0])]) (.exit 1) [4,7,9] [9,7] (fun _=>[]) (fun b21=>(zda.sto b21)++ [(4,.cells [.s (([]:Str)),.i 0,.i 0,.i 0,.bo false,.bo false,.s (([]:Str)),.l zba.pc ([]),.l cU ([]),.l cU ([]),.i 0,.i 0,.bo false,.i 0,.bo false,.bo false,.i 0])]) (fun s20 x22 hr=>?_) (fun b21 hr=>?_)
 .unfold q1a at hr;refine ax tk 6 56 hr (fun hr=>?_) fun hr=>?_
  .refine jq tk 2 hr [4,7,9,10,53,54,55] [9,7,4] (fun _=>[]) (fun j24=>zda.sto j24) (fun j24 hr=>?_) (fun j24 hr=>?_)
   .refine rn tk 3 rfl ?_;obtain ⟨v25,h26,hr⟩:=zaa hr;refine wi tk h26 rfl rfl rfl rfl rfl ?_;refine ax tk 20 64 hr (fun hr=>?_) fun hr=>?_
    .refine csx tk 3 hr (Kia s20.2 v25) fun v28 _ hr=>?_
     exact jx tk 3 hr
    refine ax tk 6 69 hr (fun hr=>?_) fun hr=>?_
    .refine csx tk 3 hr (Kha s20.2 v25) fun v31 _ hr=>?_
     exact jx tk 3 hr
    refine ax tk 6 74 hr (fun hr=>?_) fun hr=>?_
    .refine iq tk 3 600000 [4,7,9,10,53,54,55] (fn:=f69) ⟨func69,rfl,by kernel_rfl⟩ fun T6 ds6=>?_
     refine jq tk 0 hr [1] [699999,600004,600007,600009,600010,600053,600054,600055,9,7,4] (fun _=>[]) (fun j34=>zda.sto j34) (fun j34 hr=>?_) (fun j34 hr=>?_)
     .refine ax tk 10 8 hr (fun hr=>?_) fun hr=>?_
      .refine csx tk 3 hr (vMa s20.2 v25) fun v36 _ hr=>?_
       exact jx tk 1 hr
      exact jx tk 1 hr
     refine ax tk 24 26 hr (fun hr=>?_) fun hr=>?_
     .refine csx tk 2 hr (wia _) fun v39 _ hr=>?_
      refine ieq tk 1 (hO ?_);exact jx tk 3 hr
     refine ieq tk 1 (hO ?_);exact jx tk 3 hr
    exact jx tk 3 hr
   exact cx tk 4 hr
  exact ox tk 2 hr
 refine rn tk 3 rfl ?_;obtain ⟨v41,h42,hr⟩:=zaa hr;refine mdq tk 0 [(12,.agg [.i v41.Code,.i v41.Index])] [4,5,6,7] (.cons rfl rfl (fun _ _=>(zVa (zya v41 h42) rfl)) .nil) ?_ mixed;refine rn tk 1 rfl ?_;refine Qna (o:=4) (j:=8) (F:=cU) (l:=b21.Server.Buffer) rfl rfl rfl (hC ?_);refine Qna (o:=4) (j:=9) (F:=cU) (l:=b21.Server.Data) rfl rfl rfl (hC ?_);refine qTa (d:=5) (F:=zra.pc) (l:=b21.replies) rfl rfl (hC ?_);refine qTa (d:=6) (F:=zua.pc) (l:=b21.mails) rfl rfl (hC ?_);exact kx tk 1 hr
theorem J0a(a0:zra)(r:(List Str) × zqa)(hr:yya a0=some r):Run prog 38 [.agg [.i a0.Code,.l cS a0.Lines]] (.tup [.l cS r.1,.agg [.i r.2.Code,.i r.2.Index]]):=by
 unfold yya at hr;refine rfx (fn:=f38) func38 fun g0 hg=>?_
 refine clx tk 11 hr (Zga _) fun v1 _ hr=>?_
 refine clx tk 7 hr (zwa _) fun v3 _ hr=>?_
 refine ax tk 2 12 hr (fun hr=>?_) fun hr=>?_
 .refine mdq tk 1 [] [2,3] .nil ?_ mixed;exact kx tk 3 hr
 refine rn tk 5 rfl ?_;refine yva 1005 (d:=5) 9 1 rfl rfl rfl (hO ?_);refine rn tk 7 rfl<|wn tk rfl rfl rfl ?_;refine aq1 tk 4 hr [1,3,5,15,16] [3,1] (fun s6=>[(17,.i s6.1)]) (fun s6=>[(1005,.row 9 false 1 (List.map cS s6.2))]) (.exit 0) [3,5] [3] (fun _=>[]) (fun b7=>[(1005,.row 9 false 1 (List.map cS b7))]) (fun s6 x8 hr=>?_) (fun b7 hr=>?_)
 .unfold wta at hr;refine ax tk 6 18 hr (fun hr=>?_) fun hr=>?_
  .refine rn tk 7 rfl ?_;obtain ⟨v10,h11,hr⟩:=zaa hr;refine wi tk h11 rfl rfl rfl rfl rfl ?_;refine jq tk 10 hr [1,3,5,7,15,16,17] [1005,3,1] (fun j12=>[(8,.s j12)]) (fun _=>[]) (fun j12 hr=>?_) (fun j12 hr=>?_)
   .refine rn tk 5 rfl<|wn tk rfl rfl rfl ?_;refine ax tk 4 27 hr (fun hr=>?_) fun hr=>?_
    .exact jx tk 3 hr
    exact jx tk 1 hr
   refine clx tk 4 hr (qla _) fun v14 _ hr=>?_
   refine rn tk 1 rfl ?_;obtain ⟨v16,h17,hr⟩:=zaa hr;refine wc h17 rfl rfl rfl<|rn tk 1 rfl ?_;obtain ⟨v18,h19,hr⟩:=zaa hr;refine wc h19 rfl rfl rfl<|wz cS ([v18]:List Str) tk rfl rfl (fun _=>rfl) rfl rfl rfl ?_;obtain ⟨v20,h21,hr⟩:=zaa hr;refine wa tk h21 rfl rfl rfl rfl (fun _=>rfl) rfl rfl ?_;exact cx tk 8 hr
  exact ox tk 2 hr
 refine clx tk 5 hr zya fun v22 _ hr=>?_
 refine rn tk 4 rfl ?_;refine qTa (d:=2) (F:=cS) (l:=b7) rfl rfl (hC ?_);exact kx tk 1 hr
theorem y6a(a0:zma)(a1:List zra)(r:zma)(hr:qva a0 a1=some r):RunS prog 21 [.ptr 90006000 0,.l zra.pc a1] (zma.sto a0) (.tup []) (zma.sto r) 90006000 [90006030,90006031,90006032]:=by
 unfold qva at hr;refine rfS (fn:=f21) (H:=90006999) (.ptr 90006000 0) ⟨func21,rfl,by kernel_rfl⟩ rfl (hasT rfl) (.inl ⟨rfl,rfl⟩) rfl rfl rfl rfl fun g0 hg S sg T=>?_
 refine rn tk 3 rfl<|wn tk rfl rfl rfl ?_;refine aq1 tk 4 hr [0,10,11] [90006999] (fun s1=>[(12,.i s1.1)]) (fun s1=>zma.sto s1.2) (.exit 0) [] [90006999] (fun _=>[]) (fun b2=>zma.sto b2) (fun s1 x3 hr=>?_) (fun b2 hr=>?_)
 .unfold qna at hr;refine ax tk 6 13 hr (fun hr=>?_) fun hr=>?_
  .refine rn tk 6 rfl ?_;obtain ⟨v5,h6,hr⟩:=zaa hr;refine wi tk h6 rfl rfl rfl rfl rfl ?_;refine clx tk 8 hr (J0a _) fun v7 _ hr=>?_
   refine rn tk 11 rfl<|wn tk rfl rfl rfl ?_;refine aq1 tk 4 hr [0,10,11,12,21,22] [90006999] (fun s9=>[(23,.i s9.1)]) (fun s9=>zma.sto s9.2) (.exit 2) [0,10,11,12] [90006999] (fun _=>[]) (fun b10=>zma.sto b10) (fun s9 x11 hr=>?_) (fun b10 hr=>?_)
   .unfold kNa at hr;refine ax tk 6 24 hr (fun hr=>?_) fun hr=>?_
    .refine rn tk 6 rfl ?_;obtain ⟨v13,h14,hr⟩:=zaa hr;refine wi tk h14 rfl rfl rfl rfl rfl<|rn tk 11 rfl ?_;obtain ⟨v15,h16,hr⟩:=zaa hr;refine wo (yJa (k:=33) (l:=s9.2.down) (s:=v13) (lim:=140737488355328) rfl rfl rfl rfl zja zGa.u zCa rfl h16) rfl<|wz cU ([(13:UInt8),(10:UInt8)]:List UInt8) tk rfl rfl (fun _=>rfl) rfl rfl rfl ?_;obtain ⟨v17,h18,hr⟩:=zaa hr;refine wa tk h18 rfl rfl rfl rfl (fun _=>rfl) rfl rfl ?_;exact cx tk 10 hr
    exact ox tk 2 hr
   exact cx tk 7 hr
  exact ox tk 2 hr
 exact sxx tk 1 hr
theorem Qha(a0:zma)(a1:Int)(r:Int × zma)(hr:voa a0 a1=some r):RunS prog 22 [.ptr 90006000 0,.i a1] (zma.sto a0) (.i r.1) (zma.sto r.2) 90006000 [90006030,90006031,90006032]:=by
 unfold voa at hr;refine rfS (fn:=f22) (H:=90006999) (.ptr 90006000 0) ⟨func22,rfl,by kernel_rfl⟩ rfl (hasT rfl) (.inl ⟨rfl,rfl⟩) rfl rfl rfl rfl fun g0 hg S sg T=>?_
 refine rn tk 19 rfl<|wnh tk rfl rfl rfl rfl ?_;refine ax tk 3 23 hr (fun hr=>?_) fun hr=>?_
 .refine iq tk 7 100000 [0] (fn:=f39) ⟨func39,rfl,by kernel_rfl⟩ fun T1 ds1=>?_
  refine rn tk 9 rfl<|wnh tk rfl rfl rfl rfl ?_;refine jq tk 3 hr [0] [199999,100000,90006999,90006000,90006030,90006031,90006032] (fun j2=>[(5,.i j2)]) (fun _=>[]) (fun j2 hr=>?_) (fun j2 hr=>?_)
  .refine ax tk 6 9 hr (fun hr=>?_) fun hr=>?_
   .refine rn tk 3 rfl<|wq (Kxb rfl rfl) rfl rfl rfl ?_;exact jx tk 2 hr
   exact jx tk 1 hr
  refine rn tk 1 rfl ?_;refine qTa (d:=0) (F:=cU) (l:=a0.down) rfl rfl (hC ?_);obtain ⟨v4,h5,hr⟩:=zaa hr;refine mdq tk 0 [(3,.l cU v4)] [3,4] (.cons rfl rfl (t0 (kua (wDb (F:=cU) rfl rfl zja zCa (fun _=>rfl) h5))) .nil) ?_ mixed;refine ieq tk 2 (hO ?_);refine clx tk 14 hr (JUa _ _) fun v6 _ hr=>?_
  refine rn tk 12 rfl ?_;obtain ⟨v8,h9,hr⟩:=zaa hr;refine mh tk 0 [(8,.hsub 90006030 (Int.toNat j2))] [(11,fun f s=>(f,(Sto.upd s 90006000 (.cells [.s v6.1.Name,.s v6.1.Mail.Envelope.From,.l zba.pc v6.1.Mail.Envelope.To,.s v6.1.Mail.Envelope.Id,.l zga.pc v6.1.Mail.Message.Fields,.l cU v6.1.Mail.Message.Body,.bo v6.1.Pipelined,.l cU v6.1.Buffer,.i v6.1.Expected,.bo v6.1.Whole,.bo v6.1.Done,.l cI v6.1.Results,.s a0.server.Name,.i a0.server.Size,.i a0.server.Many,.i a0.server.Phase,.bo a0.server.Greeted,.bo a0.server.Mailing,.s a0.server.From,.l zba.pc a0.server.To,.l cU a0.server.Buffer,.l cU a0.server.Data,.i a0.server.Lost,.i a0.server.Dots,.bo a0.server.Chunked,.i a0.server.Left,.bo a0.server.Last,.bo a0.server.Ignore,.i a0.server.Count,.hs 90006030 0,.hs 90006031 0,.hs 90006032 0])))),(14,fun f s=>(f,(Sto.upd s 90006000 (.cells [.s v6.1.Name,.s v6.1.Mail.Envelope.From,.l zba.pc v6.1.Mail.Envelope.To,.s v6.1.Mail.Envelope.Id,.l zga.pc v6.1.Mail.Message.Fields,.l cU v6.1.Mail.Message.Body,.bo v6.1.Pipelined,.l cU v6.1.Buffer,.i v6.1.Expected,.bo v6.1.Whole,.bo v6.1.Done,.l cI v6.1.Results,.s a0.server.Name,.i a0.server.Size,.i a0.server.Many,.i a0.server.Phase,.bo a0.server.Greeted,.bo a0.server.Mailing,.s a0.server.From,.l zba.pc a0.server.To,.l cU a0.server.Buffer,.l cU a0.server.Data,.i a0.server.Lost,.i a0.server.Dots,.bo a0.server.Chunked,.i a0.server.Left,.bo a0.server.Last,.bo a0.server.Ignore,.i a0.server.Count,.hsub 90006030 (Int.toNat j2),.hs 90006031 0,.hs 90006032 0]))))] [[],[11],[11,14]] ?_ mixed;refine .cons (mnq tk [8,11] (.cons (mpu (kua (ksb (F:=cU) (l:=a0.down) (p:=j2) rfl rfl rfl zja zCa h9))) (.cons (mstq 1 (qba rfl rfl rfl VOa rfl rfl)) .nil))) (.cons (mnq tk [8,14] (.cons (mpu (kua (ksb (F:=cU) (l:=a0.down) (p:=j2) rfl rfl rfl zja zCa h9))) (.cons (mstq 2 (qba rfl rfl rfl zja rfl rfl)) .nil))) (.cons (mfq tk [] [0,6,9] .nil (hA ?_)) .nil));refine rn tk 2 rfl ?_;refine VNb (F:=cU) (l:=a0.down) 90006030 90006000 29 h9 rfl rfl rfl (hC ?_);refine rn tk 7 rfl ?_;obtain ⟨v10,h11,hr⟩:=zaa hr;refine wa tk h11 rfl rfl rfl rfl (fun _=>rfl) rfl rfl ?_;exact sxx tk 13 hr
 refine iq tk 9 200000 [0] (fn:=f39) ⟨func39,rfl,by kernel_rfl⟩ fun T2 ds2=>?_
 refine rn tk 9 rfl<|wnh tk rfl rfl rfl rfl ?_;refine jq tk 3 hr [0] [299999,200000,90006999,90006000,90006030,90006031,90006032] (fun j12=>[(5,.i j12)]) (fun _=>[]) (fun j12 hr=>?_) (fun j12 hr=>?_)
 .refine ax tk 6 9 hr (fun hr=>?_) fun hr=>?_
  .refine rn tk 3 rfl<|wq (Kxb rfl rfl) rfl rfl rfl ?_;exact jx tk 2 hr
  exact jx tk 1 hr
 refine rn tk 1 rfl ?_;refine qTa (d:=0) (F:=cU) (l:=a0.up) rfl rfl (hC ?_);obtain ⟨v14,h15,hr⟩:=zaa hr;refine mdq tk 0 [(3,.l cU v14)] [3,4] (.cons rfl rfl (t0 (kua (wDb (F:=cU) rfl rfl zja zCa (fun _=>rfl) h15))) .nil) ?_ mixed;refine ieq tk 2 (hO ?_);refine clx tk 14 hr (JZa _ _) fun v16 _ hr=>?_
 refine rn tk 14 rfl ?_;obtain ⟨v18,h19,hr⟩:=zaa hr;refine mh tk 0 [(8,.hsub 90006031 (Int.toNat j12))] [(11,fun f s=>(f,(Sto.upd s 90006000 (.cells [.s a0.client.Name,.s a0.client.Mail.Envelope.From,.l zba.pc a0.client.Mail.Envelope.To,.s a0.client.Mail.Envelope.Id,.l zga.pc a0.client.Mail.Message.Fields,.l cU a0.client.Mail.Message.Body,.bo a0.client.Pipelined,.l cU a0.client.Buffer,.i a0.client.Expected,.bo a0.client.Whole,.bo a0.client.Done,.l cI a0.client.Results,.s v16.1.Name,.i v16.1.Size,.i v16.1.Many,.i v16.1.Phase,.bo v16.1.Greeted,.bo v16.1.Mailing,.s v16.1.From,.l zba.pc v16.1.To,.l cU v16.1.Buffer,.l cU v16.1.Data,.i v16.1.Lost,.i v16.1.Dots,.bo v16.1.Chunked,.i v16.1.Left,.bo v16.1.Last,.bo v16.1.Ignore,.i v16.1.Count,.hs 90006030 0,.hs 90006031 0,.hs 90006032 0])))),(14,fun f s=>(f,(Sto.upd s 90006000 (.cells [.s a0.client.Name,.s a0.client.Mail.Envelope.From,.l zba.pc a0.client.Mail.Envelope.To,.s a0.client.Mail.Envelope.Id,.l zga.pc a0.client.Mail.Message.Fields,.l cU a0.client.Mail.Message.Body,.bo a0.client.Pipelined,.l cU a0.client.Buffer,.i a0.client.Expected,.bo a0.client.Whole,.bo a0.client.Done,.l cI a0.client.Results,.s v16.1.Name,.i v16.1.Size,.i v16.1.Many,.i v16.1.Phase,.bo v16.1.Greeted,.bo v16.1.Mailing,.s v16.1.From,.l zba.pc v16.1.To,.l cU v16.1.Buffer,.l cU v16.1.Data,.i v16.1.Lost,.i v16.1.Dots,.bo v16.1.Chunked,.i v16.1.Left,.bo v16.1.Last,.bo v16.1.Ignore,.i v16.1.Count,.hs 90006030 0,.hsub 90006031 (Int.toNat j12),.hs 90006032 0]))))] [[],[11],[11,14]] ?_ mixed;refine .cons (mnq tk [8,11] (.cons (mpu (kua (ksb (F:=cU) (l:=a0.up) (p:=j12) rfl rfl rfl zja zCa h19))) (.cons (mstq 1 (qba rfl rfl rfl VPa rfl rfl)) .nil))) (.cons (mnq tk [8,14] (.cons (mpu (kua (ksb (F:=cU) (l:=a0.up) (p:=j12) rfl rfl rfl zja zCa h19))) (.cons (mstq 2 (qba rfl rfl rfl zja rfl rfl)) .nil))) (.cons (mfq tk [] [0,11,14,15] .nil (hA ?_)) .nil));refine rn tk 2 rfl ?_;refine VNb (F:=cU) (l:=a0.up) 90006031 90006000 30 h19 rfl rfl rfl (hC ?_);refine rn tk 7 rfl ?_;obtain ⟨v20,h21,hr⟩:=zaa hr;refine wa tk h21 rfl rfl rfl rfl (fun _=>rfl) rfl rfl ?_;refine csx tk 9 hr (y6a _ _) fun v22 _ hr=>?_
 exact sxx tk 9 hr
end Go.Proofs.YtjjgjalfelnclaaGreatDoor
