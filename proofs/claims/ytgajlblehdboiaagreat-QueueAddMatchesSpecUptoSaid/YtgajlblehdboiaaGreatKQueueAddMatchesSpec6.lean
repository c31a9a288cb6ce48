/- The law QueueAddMatchesSpec holds for every input of bulk up to the given bound: it returns true and leaves its arguments as they were. Written by program. -/
import Derived.Test.YtgajlblehdboiaaGreatKQueueAddMatchesSpec5
set_option linter.unusedVariables false
set_option linter.unusedSimpArgs false
set_option maxRecDepth 100000
set_option maxHeartbeats 40000000
namespace Go.Proofs.YtgajlblehdboiaaGreat
open Go.RowKit Go.Proofs.Tryz
theorem kUb(a0:Str)(r:Int)(hr:Y9a a0=some r):Run prog 107 [.s a0] (.i r):=by
 unfold Y9a at hr;refine rf (fn:=f107) ⟨func107,rfl,by kernel_rfl⟩ rfl (fun _=>rfl) fun g0 hg=>?_
 refine rn tk 12 rfl<|al2 hr (fun s1=>[(0,.s a0),(3,.i s1)]) (fun s1=>[]) (.exit 0) (fun b2=>[(0,.s a0)]) (fun b2=>[]) .ret (fun b3=>[(2,.i b3)]) (fun b3=>[]) rfl rfl (fun s1 x5 hr=>?_) (fun b2 hr=>?_) (fun b3 hr=>?_)
 .unfold Kma at hr;refine rn tk 9 rfl<|ac 7 hr rfl (fun c6 hr=>?_) (fun c6 hr=>?_)
  .refine rn tk 8 rfl ?_;obtain ⟨v7,h8,hr⟩:=zaa hr;refine ws tk h8 rfl rfl rfl rfl<|rn tk 3 rfl<|ac 13 hr rfl (fun c9 hr=>?_) (fun c9 hr=>?_)
   .refine rn tk 9 rfl ?_;cases hr;exact ato rfl rfl rfl rfl
   refine rn tk 8 rfl ?_;cases hr;exact atc rfl rfl
  refine rn tk 2 rfl ?_;cases hr;exact ato rfl rfl rfl rfl
 .refine rn tk 10 rfl ?_;cases hr;exact kr tk (.inr rfl) rfl rfl
 refine rn tk 2 rfl ?_;cases hr;exact kr tk (.inr rfl) rfl rfl
theorem Zaa(a0:Str)(r:Bool)(hr:wfa a0=some r):Run prog 91 [.s a0] (.bo r):=by
 unfold wfa at hr;refine rf (fn:=f91) ⟨func91,rfl,by kernel_rfl⟩ rfl (fun _=>rfl) fun g0 hg=>?_
 refine rn tk 8 rfl ?_;obtain ⟨v1,h2,hr⟩:=zaa hr;refine cl (kUb _ _ h2) rfl rfl<|rn tk 10 rfl<|al2 hr (fun s3=>[(0,.s a0),(3,.i v1),(4,.i s3)]) (fun s3=>[]) (.exit 0) (fun b4=>[(0,.s a0),(3,.i v1)]) (fun b4=>[]) .ret (fun b5=>[(2,.bo b5)]) (fun b5=>[]) rfl rfl (fun s3 x7 hr=>?_) (fun b4 hr=>?_) (fun b5 hr=>?_)
 .unfold vpa at hr;refine rn tk 8 rfl<|ac 10 hr rfl (fun c8 hr=>?_) (fun c8 hr=>?_)
  .refine rn tk 8 rfl ?_;obtain ⟨v9,h10,hr⟩:=zaa hr;refine ws tk h10 rfl rfl rfl rfl<|rn tk 3 rfl<|jb hr (fun j11=>[(0,.s a0),(3,.i v1),(4,.i s3),(38,.bo j11)]) (fun j11=>[]) (fun j11 hr=>?_) (fun j11 hr=>?_)
   .refine rn tk 2 rfl ?_;obtain ⟨v12,h13,hr⟩:=zaa hr;refine cl (yqa _ _ h13) rfl rfl<|rn tk 2 rfl<|bs 19 hr rfl (fun c14 hr=>?_) (fun c14 hr=>?_)
    .refine rn tk 4 rfl<|bs 23 hr rfl (fun c15 hr=>?_) (fun c15 hr=>?_)
     .refine rn tk 4 rfl<|bs 27 hr rfl (fun c16 hr=>?_) (fun c16 hr=>?_)
      .refine rn tk 4 rfl<|bs 31 hr rfl (fun c17 hr=>?_) (fun c17 hr=>?_)
       .refine rn tk 4 rfl<|bs 35 hr rfl (fun c18 hr=>?_) (fun c18 hr=>?_)
        .refine rn tk 4 rfl ?_;cases hr;exact jn _ rfl rfl rfl
        refine rn tk 4 rfl ?_;cases hr;exact jn _ rfl rfl rfl
       refine rn tk 8 rfl ?_;cases hr;exact jn _ rfl rfl rfl
      refine rn tk 12 rfl ?_;cases hr;exact jn _ rfl rfl rfl
     refine rn tk 16 rfl ?_;cases hr;exact jn _ rfl rfl rfl
    refine rn tk 20 rfl ?_;cases hr;exact jn _ rfl rfl rfl
   refine ac 38 hr rfl (fun c19 hr=>?_) (fun c19 hr=>?_)
   .refine rn tk 8 rfl ?_;cases hr;exact ato rfl rfl rfl rfl
   refine rn tk 8 rfl ?_;cases hr;exact atc rfl rfl
  refine rn tk 2 rfl ?_;cases hr;exact ato rfl rfl rfl rfl
 .refine rn tk 2 rfl<|jb hr (fun j20=>[(2,.bo j20)]) (fun j20=>[]) (fun j20 hr=>?_) (fun j20 hr=>?_)
  .refine rn tk 2 rfl ?_;obtain ⟨v21,h22,hr⟩:=zaa hr;refine cl (qda _ _ _ _ h22) rfl rfl<|rn tk 1 rfl<|bs 41 hr rfl (fun c23 hr=>?_) (fun c23 hr=>?_)
   .refine rn tk 6 rfl<|bs 47 hr rfl (fun c24 hr=>?_) (fun c24 hr=>?_)
    .refine rn tk 3 rfl ?_;obtain ⟨v25,h26,hr⟩:=zaa hr;refine ug rfl rfl rfl<|wscL tk h26 rfl rfl rfl rfl ?_;obtain ⟨v27,h28,hr⟩:=zaa hr;refine ug rfl rfl rfl<|cl (Wba _ _ h28) rfl rfl<|rn tk 3 rfl ?_;cases hr;exact jn _ rfl rfl rfl
    refine rn tk 8 rfl ?_;cases hr;exact jn _ rfl rfl rfl
   refine rn tk 14 rfl ?_;cases hr;exact jn _ rfl rfl rfl
  refine rn tk 1 rfl ?_;cases hr;exact kr tk (.inr rfl) rfl rfl
 refine rn tk 2 rfl ?_;cases hr;exact kr tk (.inr rfl) rfl rfl
theorem zqb(a0:List zca)(a1:Str)(r:Int)(hr:Vja a0 a1=some r):Run prog 93 [.l zca.pc a0,.s a1] (.i r):=by
 unfold Vja at hr;refine rf (fn:=f93) ⟨func93,rfl,by kernel_rfl⟩ rfl (fun _=>rfl) fun g0 hg=>?_
 refine rn tk 12 rfl<|al2 hr (fun s1=>[(0,.l zca.pc a0),(1,.s a1),(5,.i s1)]) (fun s1=>[]) (.exit 0) (fun b2=>[]) (fun b2=>[]) .ret (fun b3=>[(4,.i b3)]) (fun b3=>[]) rfl rfl (fun s1 x5 hr=>?_) (fun b2 hr=>?_) (fun b3 hr=>?_)
 .unfold Zma at hr;refine rn tk 5 rfl<|wn tk rfl rfl rfl<|rn tk 3 rfl<|ac 9 hr rfl (fun c6 hr=>?_) (fun c6 hr=>?_)
  .refine rn tk 8 rfl ?_;obtain ⟨v7,h8,hr⟩:=zaa hr;refine wi tk h8 rfl rfl rfl rfl rfl<|rn tk 6 rfl<|ac 18 hr rfl (fun c9 hr=>?_) (fun c9 hr=>?_)
   .refine rn tk 9 rfl ?_;cases hr;exact ato rfl rfl rfl rfl
   refine rn tk 8 rfl ?_;cases hr;exact atc rfl rfl
  refine rn tk 2 rfl ?_;cases hr;exact ato rfl rfl rfl rfl
 .refine rn tk 8 rfl ?_;cases hr;exact kr tk (.inr rfl) rfl rfl
 refine rn tk 2 rfl ?_;cases hr;exact kr tk (.inr rfl) rfl rfl
theorem JAa(a0:Str)(r:Bool)(hr:Kna a0=some r):Run prog 92 [.s a0] (.bo r):=by
 unfold Kna at hr;refine rf (fn:=f92) ⟨func92,rfl,by kernel_rfl⟩ rfl (fun _=>rfl) fun g0 hg=>?_
 refine rn tk 12 rfl<|al2 hr (fun s1=>[(0,.s a0),(3,.i s1)]) (fun s1=>[]) (.exit 0) (fun b2=>[(0,.s a0)]) (fun b2=>[]) .ret (fun b3=>[(2,.bo b3)]) (fun b3=>[]) rfl rfl (fun s1 x5 hr=>?_) (fun b2 hr=>?_) (fun b3 hr=>?_)
 .unfold jha at hr;refine rn tk 9 rfl<|ac 7 hr rfl (fun c6 hr=>?_) (fun c6 hr=>?_)
  .refine rn tk 4 rfl<|jb hr (fun j7=>[(0,.s a0),(3,.i s1),(32,.bo j7)]) (fun j7=>[]) (fun j7 hr=>?_) (fun j7 hr=>?_)
   .refine rn tk 3 rfl ?_;obtain ⟨v8,h9,hr⟩:=zaa hr;refine ws tk h9 rfl rfl rfl rfl ?_;obtain ⟨v10,h11,hr⟩:=zaa hr;refine cl (yqa _ _ h11) rfl rfl<|rn tk 2 rfl<|bs 15 hr rfl (fun c12 hr=>?_) (fun c12 hr=>?_)
    .refine rn tk 2 rfl ?_;obtain ⟨v13,h14,hr⟩:=zaa hr;refine ug rfl rfl rfl<|ws tk h14 rfl rfl rfl rfl<|rn tk 3 rfl<|bs 21 hr rfl (fun c15 hr=>?_) (fun c15 hr=>?_)
     .refine rn tk 2 rfl ?_;obtain ⟨v16,h17,hr⟩:=zaa hr;refine ug rfl rfl rfl<|ws tk h17 rfl rfl rfl rfl<|rn tk 3 rfl<|bs 27 hr rfl (fun c18 hr=>?_) (fun c18 hr=>?_)
      .refine rn tk 2 rfl ?_;obtain ⟨v19,h20,hr⟩:=zaa hr;refine ug rfl rfl rfl<|ws tk h20 rfl rfl rfl rfl<|rn tk 3 rfl ?_;cases hr;exact jn _ rfl rfl rfl
      refine rn tk 6 rfl ?_;cases hr;exact jn _ rfl rfl rfl
     refine rn tk 12 rfl ?_;cases hr;exact jn _ rfl rfl rfl
    refine rn tk 18 rfl ?_;cases hr;exact jn _ rfl rfl rfl
   refine ac 32 hr rfl (fun c21 hr=>?_) (fun c21 hr=>?_)
   .refine rn tk 8 rfl ?_;cases hr;exact ato rfl rfl rfl rfl
   refine rn tk 8 rfl ?_;cases hr;exact atc rfl rfl
  refine rn tk 2 rfl ?_;cases hr;exact ato rfl rfl rfl rfl
 .refine rn tk 6 rfl ?_;obtain ⟨v22,h23,hr⟩:=zaa hr;refine cl (qda _ _ _ _ h23) rfl rfl<|rn tk 4 rfl ?_;cases hr;exact kr tk (.inr rfl) rfl rfl
 refine rn tk 2 rfl ?_;cases hr;exact kr tk (.inr rfl) rfl rfl
theorem Z6a(a0:zwa)(r:zpa)(hr:qWa a0=some r):Run prog 70 [.agg [.s a0.From,.l zca.pc a0.To,.s a0.Id]] (.agg [.i r.Code,.i r.Index]):=by
 unfold qWa at hr;refine rf (fn:=f70) ⟨func70,rfl,by kernel_rfl⟩ rfl (fun _=>rfl) fun g0 hg=>?_
 refine rn tk 7 rfl<|jb hr (fun j1=>[(1,.ptr 1 0),(2,.ptr 2 0),(12,.bo j1)]) (fun j1=>[(2,.cells [.i 0,.i 0]),(1,.cells [.s a0.From,.l zca.pc a0.To,.s a0.Id])]) (fun j1 hr=>?_) (fun j1 hr=>?_)
 .refine rn tk 5 rfl<|bs 7 hr rfl (fun c2 hr=>?_) (fun c2 hr=>?_)
  .refine rn tk 2 rfl ?_;obtain ⟨v3,h4,hr⟩:=zaa hr;refine ug rfl rfl rfl<|cl (Zaa _ _ h4) rfl rfl<|rn tk 3 rfl ?_;cases hr;exact jn _ rfl rfl rfl
  refine rn tk 6 rfl ?_;cases hr;exact jn _ rfl rfl rfl
 refine ac 12 hr rfl (fun c5 hr=>?_) (fun c5 hr=>?_)
 .refine rn tk 2 rfl ?_;obtain ⟨v6,h7,hr⟩:=zaa hr;refine cl (kxa _ _ _ h7) rfl rfl<|rn tk 5 rfl ?_;cases hr;exact kr tk (.inr rfl) rfl rfl
 refine rn tk 7 rfl<|wn tk rfl rfl rfl ?_;obtain ⟨v8,h9,hr⟩:=zaa hr;refine cl (qda _ _ _ _ h9) rfl rfl<|rn tk 3 rfl<|ac 18 hr rfl (fun c10 hr=>?_) (fun c10 hr=>?_)
 .refine rn tk 2 rfl ?_;obtain ⟨v11,h12,hr⟩:=zaa hr;refine cl (kxa _ _ _ h12) rfl rfl<|rn tk 5 rfl ?_;cases hr;exact kr tk (.inr rfl) rfl rfl
 refine rn tk 3 rfl<|jb hr (fun j13=>[(1,.ptr 1 0),(2,.ptr 2 0),(28,.bo j13)]) (fun j13=>[(2,.cells [.i 0,.i 0]),(1,.cells [.s a0.From,.l zca.pc a0.To,.s a0.Id])]) (fun j13 hr=>?_) (fun j13 hr=>?_)
 .refine rn tk 5 rfl<|bs 23 hr rfl (fun c14 hr=>?_) (fun c14 hr=>?_)
  .refine rn tk 2 rfl ?_;obtain ⟨v15,h16,hr⟩:=zaa hr;refine ug rfl rfl rfl<|cl (JAa _ _ h16) rfl rfl<|rn tk 3 rfl ?_;cases hr;exact jn _ rfl rfl rfl
  refine rn tk 6 rfl ?_;cases hr;exact jn _ rfl rfl rfl
 refine ac 28 hr rfl (fun c17 hr=>?_) (fun c17 hr=>?_)
 .refine rn tk 2 rfl ?_;obtain ⟨v18,h19,hr⟩:=zaa hr;refine cl (kxa _ _ _ h19) rfl rfl<|rn tk 5 rfl ?_;cases hr;exact kr tk (.inr rfl) rfl rfl
 refine rn tk 9 rfl<|al2 hr (fun s20=>[(1,.ptr 1 0),(2,.ptr 2 0),(3,.i s20)]) (fun s20=>[(2,.cells [.i 0,.i 0]),(1,.cells [.s a0.From,.l zca.pc a0.To,.s a0.Id])]) (.exit 0) (fun b21=>[(2,.ptr 2 0)]) (fun b21=>[(2,.cells [.i 0,.i 0])]) .ret (fun b22=>[(2,.ptr 2 0)]) (fun b22=>[(2,.cells [.i b22.Code,.i b22.Index])]) rfl rfl (fun s20 x24 hr=>?_) (fun b21 hr=>?_) (fun b22 hr=>?_)
 .unfold kXa at hr;refine rn tk 6 rfl<|wn tk rfl rfl rfl<|rn tk 3 rfl<|ac 34 hr rfl (fun c25 hr=>?_) (fun c25 hr=>?_)
  .refine rn tk 10 rfl ?_;obtain ⟨v26,h27,hr⟩:=zaa hr;refine wi tk h27 rfl rfl rfl rfl rfl<|rn tk 2 rfl ?_;obtain ⟨v28,h29,hr⟩:=zaa hr;refine cl (Zaa _ _ h29) rfl rfl<|rn tk 3 rfl<|ac 44 hr rfl (fun c30 hr=>?_) (fun c30 hr=>?_)
   .refine rn tk 3 rfl ?_;obtain ⟨v31,h32,hr⟩:=zaa hr;refine cl (kxa _ _ _ h32) rfl rfl<|rn tk 7 rfl ?_;cases hr;exact ato rfl rfl rfl rfl
   refine rn tk 8 rfl ?_;obtain ⟨v33,h34,hr⟩:=zaa hr;refine wi tk h34 rfl rfl rfl rfl rfl<|rn tk 2 rfl ?_;obtain ⟨v35,h36,hr⟩:=zaa hr;refine cl (qda _ _ _ _ h36) rfl rfl<|rn tk 3 rfl<|ac 54 hr rfl (fun c37 hr=>?_) (fun c37 hr=>?_)
   .refine rn tk 3 rfl ?_;obtain ⟨v38,h39,hr⟩:=zaa hr;refine cl (kxa _ _ _ h39) rfl rfl<|rn tk 7 rfl ?_;cases hr;exact ato rfl rfl rfl rfl
   refine rn tk 3 rfl ?_;obtain ⟨v40,h41,hr⟩:=zaa hr;obtain ⟨v42,h43,hr⟩:=zaa hr;refine dr 10 [(66,.s v42.Address),(65,.ep [pS v42.Address,pI v42.Notify]),(64,.ep [pS v42.Address,pI v42.Notify]),(63,.i s20),(62,.l zca.pc a0.To),(61,.ptr 1 1),(60,.l zca.pc v40),(59,.i s20),(58,.l zca.pc a0.To),(57,.ptr 1 1)] mixed (by kernel_rfl) rfl rfl (pq tk rfl (.plain rfl) (pq tk rfl (.plain rfl) (pq tk rfl (.plain rfl) (.run (.plain rfl) (zQa (k2b (F:=zca.pc) rfl rfl zDa zBa (fun _=>rfl) h41)) (pq tk rfl (.plain rfl) (pq tk rfl (.plain rfl) (pq tk rfl (.plain rfl) (.run (.plain rfl) (zQa (vKa (f:=zca.pc) rfl rfl zDa zBa rfl h43)) (pq tk rfl (.plain rfl) (pq tk rfl (.plain rfl) .nil)))))))))) rfl ?_;obtain ⟨v44,h45,hr⟩:=zaa hr;refine cl (zqb _ _ _ h45) rfl rfl<|rn tk 3 rfl<|ac 68 hr rfl (fun c46 hr=>?_) (fun c46 hr=>?_)
   .refine rn tk 3 rfl ?_;obtain ⟨v47,h48,hr⟩:=zaa hr;refine cl (kxa _ _ _ h48) rfl rfl<|rn tk 6 rfl ?_;cases hr;exact ato rfl rfl rfl rfl
   refine rn tk 8 rfl ?_;cases hr;exact atc rfl rfl
  refine rn tk 2 rfl ?_;cases hr;exact ato rfl rfl rfl rfl
 .refine rn tk 9 rfl ?_;cases hr;exact kr tk (.inr rfl) rfl rfl
 refine rn tk 2 rfl ?_;cases hr;exact kr tk (.inr rfl) rfl rfl
theorem wla(a0:UInt8)(r:Bool)(hr:v1a a0=some r):Run prog 119 [.u8 a0] (.bo r):=by
 unfold v1a at hr;refine rf (fn:=Tryz.f119) ⟨func119,rfl,by kernel_rfl⟩ rfl (fun _=>rfl) fun g0 hg=>?_
 refine rn tk 5 rfl<|jb hr (fun j1=>[(2,.bo j1)]) (fun j1=>[]) (fun j1 hr=>?_) (fun j1 hr=>?_)
 .refine rn tk 4 rfl<|bs 5 hr rfl (fun c2 hr=>?_) (fun c2 hr=>?_)
  .refine rn tk 5 rfl ?_;cases hr;exact jn _ rfl rfl rfl
  refine rn tk 5 rfl ?_;cases hr;exact jn _ rfl rfl rfl
 refine rn tk 1 rfl ?_;cases hr;exact kr tk (.inr rfl) rfl rfl
theorem jDa(a0:Str)(a1:Str)(r:List Str)(hr:vNa a0 a1=some r):Run prog 120 [.s a0,.s a1] (.l cS r):=by
 unfold vNa at hr;refine rf (fn:=f120) ⟨func120,rfl,by kernel_rfl⟩ rfl (fun _=>rfl) fun g0 hg=>?_
 refine rn tk 8 rfl ?_;obtain ⟨v1,h2,hr⟩:=zaa hr;refine wc h2 rfl rfl rfl<|rn tk 1 rfl ?_;obtain ⟨v3,h4,hr⟩:=zaa hr;refine wc h4 rfl rfl rfl<|rn tk 14 rfl ?_;refine wYa 1007 (d:=7) 9 1 rfl rfl rfl (hO ?_);refine rn tk 4 rfl<|al1 hr (fun s5=>[(5,.s s5.1),(6,.i s5.2.1),(7,.hs 1007 0)]) (fun s5=>[(1007,.row 9 false 1 (List.map cS s5.2.2))]) (.exit 0) (fun b6=>[(5,.s b6.1),(7,.hs 1007 0)]) (fun b6=>[(1007,.row 9 false 1 (List.map cS b6.2))]) rfl rfl (fun s5 x7 hr=>?_) (fun b6 hr=>?_)
 .unfold q0a at hr;refine rn tk 8 rfl<|ac 20 hr rfl (fun c8 hr=>?_) (fun c8 hr=>?_)
  .refine rn tk 15 rfl<|al1 hr (fun s9=>[(5,.s s5.1),(6,.i s5.2.1),(7,.hs 1007 0),(8,.i s9.1),(9,.i s9.2)]) (fun s9=>[(1007,.row 9 false 1 (List.map cS s5.2.2))]) (.exit 2) (fun b10=>[(5,.s s5.1),(6,.i s5.2.1),(7,.hs 1007 0),(8,.i b10)]) (fun b10=>[(1007,.row 9 false 1 (List.map cS s5.2.2))]) rfl rfl (fun s9 x11 hr=>?_) (fun b10 hr=>?_)
   .unfold kza at hr;refine rn tk 1 rfl<|jb hr (fun j12=>[(5,.s s5.1),(6,.i s5.2.1),(7,.hs 1007 0),(8,.i s9.1),(9,.i s9.2),(26,.bo j12)]) (fun j12=>[(1007,.row 9 false 1 (List.map cS s5.2.2))]) (fun j12 hr=>?_) (fun j12 hr=>?_)
    .refine rn tk 4 rfl<|bs 23 hr rfl (fun c13 hr=>?_) (fun c13 hr=>?_)
     .refine rn tk 4 rfl ?_;cases hr;exact jn _ rfl rfl rfl
     refine rn tk 4 rfl ?_;cases hr;exact jn _ rfl rfl rfl
    refine ac 26 hr rfl (fun c14 hr=>?_) (fun c14 hr=>?_)
    .refine rn tk 2 rfl<|jb hr (fun j15=>[(5,.s s5.1),(6,.i s5.2.1),(7,.hs 1007 0),(8,.i j15),(9,.i s9.2)]) (fun j15=>[(1007,.row 9 false 1 (List.map cS s5.2.2))]) (fun j15 hr=>?_) (fun j15 hr=>?_)
     .refine rn tk 1 rfl<|jb hr (fun j16=>[(5,.s s5.1),(6,.i s5.2.1),(7,.hs 1007 0),(8,.i s9.1),(9,.i s9.2),(45,.bo j16)]) (fun j16=>[(1007,.row 9 false 1 (List.map cS s5.2.2))]) (fun j16 hr=>?_) (fun j16 hr=>?_)
      .refine rn tk 5 rfl<|bs 32 hr rfl (fun c17 hr=>?_) (fun c17 hr=>?_)
       .refine rn tk 2 rfl ?_;obtain ⟨v18,h19,hr⟩:=zaa hr;refine ug rfl rfl rfl<|ws tk h19 rfl rfl rfl rfl ?_;obtain ⟨v20,h21,hr⟩:=zaa hr;refine ug rfl rfl rfl<|cl (wla _ _ h21) rfl rfl<|rn tk 2 rfl<|bs 38 hr rfl (fun c22 hr=>?_) (fun c22 hr=>?_)
        .refine rn tk 3 rfl ?_;obtain ⟨v23,h24,hr⟩:=zaa hr;refine ug rfl rfl rfl<|ws tk h24 rfl rfl rfl rfl ?_;obtain ⟨v25,h26,hr⟩:=zaa hr;refine ug rfl rfl rfl<|cl (wla _ _ h26) rfl rfl<|rn tk 3 rfl ?_;cases hr;exact jn _ rfl rfl rfl
        refine rn tk 8 rfl ?_;cases hr;exact jn _ rfl rfl rfl
       refine rn tk 14 rfl ?_;cases hr;exact jn _ rfl rfl rfl
      refine ac 45 hr rfl (fun c27 hr=>?_) (fun c27 hr=>?_)
      .refine rn tk 5 rfl ?_;cases hr;exact jn _ rfl rfl rfl
      refine rn tk 2 rfl ?_;cases hr;exact jn _ rfl rfl rfl
     refine rn tk 5 rfl ?_;cases hr;exact atc rfl rfl
    refine rn tk 2 rfl ?_;cases hr;exact ato rfl rfl rfl rfl
   refine rn tk 9 rfl<|al1 hr (fun s28=>[(5,.s s5.1),(6,.i s5.2.1),(7,.hs 1007 0),(8,.i s28.1),(10,.i s28.2)]) (fun s28=>[(1007,.row 9 false 1 (List.map cS s5.2.2))]) (.exit 4) (fun b29=>[(5,.s s5.1),(7,.hs 1007 0),(8,.i b29)]) (fun b29=>[(1007,.row 9 false 1 (List.map cS s5.2.2))]) rfl rfl (fun s28 x30 hr=>?_) (fun b29 hr=>?_)
   .unfold kfa at hr;refine rn tk 1 rfl<|jb hr (fun j31=>[(5,.s s5.1),(6,.i s5.2.1),(7,.hs 1007 0),(8,.i s28.1),(10,.i s28.2),(54,.bo j31)]) (fun j31=>[(1007,.row 9 false 1 (List.map cS s5.2.2))]) (fun j31 hr=>?_) (fun j31 hr=>?_)
    .refine rn tk 6 rfl<|bs 51 hr rfl (fun c32 hr=>?_) (fun c32 hr=>?_)
     .refine rn tk 4 rfl ?_;cases hr;exact jn _ rfl rfl rfl
     refine rn tk 4 rfl ?_;cases hr;exact jn _ rfl rfl rfl
    refine ac 54 hr rfl (fun c33 hr=>?_) (fun c33 hr=>?_)
    .refine rn tk 2 rfl<|jb hr (fun j34=>[(5,.s s5.1),(6,.i s5.2.1),(7,.hs 1007 0),(8,.i j34),(10,.i s28.2)]) (fun j34=>[(1007,.row 9 false 1 (List.map cS s5.2.2))]) (fun j34 hr=>?_) (fun j34 hr=>?_)
     .refine rn tk 1 rfl<|jb hr (fun j35=>[(5,.s s5.1),(6,.i s5.2.1),(7,.hs 1007 0),(8,.i s28.1),(10,.i s28.2),(73,.bo j35)]) (fun j35=>[(1007,.row 9 false 1 (List.map cS s5.2.2))]) (fun j35 hr=>?_) (fun j35 hr=>?_)
      .refine rn tk 5 rfl<|bs 60 hr rfl (fun c36 hr=>?_) (fun c36 hr=>?_)
       .refine rn tk 2 rfl ?_;obtain ⟨v37,h38,hr⟩:=zaa hr;refine ug rfl rfl rfl<|ws tk h38 rfl rfl rfl rfl ?_;obtain ⟨v39,h40,hr⟩:=zaa hr;refine ug rfl rfl rfl<|cl (wla _ _ h40) rfl rfl<|rn tk 2 rfl<|bs 66 hr rfl (fun c41 hr=>?_) (fun c41 hr=>?_)
        .refine rn tk 3 rfl ?_;obtain ⟨v42,h43,hr⟩:=zaa hr;refine ug rfl rfl rfl<|ws tk h43 rfl rfl rfl rfl ?_;obtain ⟨v44,h45,hr⟩:=zaa hr;refine ug rfl rfl rfl<|cl (wla _ _ h45) rfl rfl<|rn tk 3 rfl ?_;cases hr;exact jn _ rfl rfl rfl
        refine rn tk 8 rfl ?_;cases hr;exact jn _ rfl rfl rfl
       refine rn tk 14 rfl ?_;cases hr;exact jn _ rfl rfl rfl
      refine ac 73 hr rfl (fun c46 hr=>?_) (fun c46 hr=>?_)
      .refine rn tk 5 rfl ?_;cases hr;exact jn _ rfl rfl rfl
      refine rn tk 2 rfl ?_;cases hr;exact jn _ rfl rfl rfl
     refine rn tk 5 rfl ?_;cases hr;exact atc rfl rfl
    refine rn tk 2 rfl ?_;cases hr;exact ato rfl rfl rfl rfl
   refine rn tk 9 rfl<|ac 76 hr rfl (fun c47 hr=>?_) (fun c47 hr=>?_)
   .refine rn tk 3 rfl ?_;cases hr;exact ato rfl rfl rfl rfl
   refine rn tk 7 rfl ?_;obtain ⟨v48,h49,hr⟩:=zaa hr;refine wscH tk h49 rfl rfl rfl rfl<|wz cS ([v48]:List Str) tk rfl rfl (fun _=>rfl) rfl rfl rfl ?_;obtain ⟨v50,h51,hr⟩:=zaa hr;refine wa tk h51 rfl rfl rfl rfl (fun _=>rfl) rfl rfl<|rn tk 7 rfl ?_;obtain ⟨v52,h53,hr⟩:=zaa hr;refine wscL tk h53 rfl rfl rfl rfl<|rn tk 7 rfl ?_;cases hr;exact atc rfl rfl
  refine rn tk 2 rfl ?_;cases hr;exact ato rfl rfl rfl rfl
 refine rn tk 6 rfl<|wz cS ([b6.1]:List Str) tk rfl rfl (fun _=>rfl) rfl rfl rfl ?_;obtain ⟨v54,h55,hr⟩:=zaa hr;refine wa tk h55 rfl rfl rfl rfl (fun _=>rfl) rfl rfl<|rn tk 3 rfl ?_;refine w6a (d:=4) (F:=cS) (l:=v54) rfl rfl (hC ?_);refine rn tk 1 rfl ?_;cases hr;exact kr tk (.inr rfl) rfl rfl
theorem VJa(a0:zga)(r:Int)(hr:yga a0=some r):Run prog 94 [.agg [.s a0.Name,.s a0.Value]] (.i r):=by
 unfold yga at hr;refine rf (fn:=f94) ⟨func94,rfl,by kernel_rfl⟩ rfl (fun _=>rfl) fun g0 hg=>?_
 refine rn tk 13 rfl<|al2 hr (fun s1=>[(1,.ptr 1 0),(3,.i s1)]) (fun s1=>[(1,.cells [.s a0.Name,.s a0.Value])]) (.exit 0) (fun b2=>[(1,.ptr 1 0)]) (fun b2=>[(1,.cells [.s a0.Name,.s a0.Value])]) .ret (fun b3=>[(2,.i b3)]) (fun b3=>[]) rfl rfl (fun s1 x5 hr=>?_) (fun b2 hr=>?_) (fun b3 hr=>?_)
 .unfold vqa at hr;refine rn tk 10 rfl<|ac 12 hr rfl (fun c6 hr=>?_) (fun c6 hr=>?_)
  .refine rn tk 4 rfl<|jb hr (fun j7=>[(1,.ptr 1 0),(3,.i s1),(28,.bo j7)]) (fun j7=>[(1,.cells [.s a0.Name,.s a0.Value])]) (fun j7 hr=>?_) (fun j7 hr=>?_)
   .refine rn tk 4 rfl ?_;obtain ⟨v8,h9,hr⟩:=zaa hr;refine ws tk h9 rfl rfl rfl rfl<|wu tk rfl rfl rfl ?_;obtain ⟨v10,h11,hr⟩:=zaa hr;refine cl (qda _ _ _ _ h11) rfl rfl<|rn tk 2 rfl<|bs 22 hr rfl (fun c12 hr=>?_) (fun c12 hr=>?_)
    .refine rn tk 7 rfl ?_;cases hr;exact jn _ rfl rfl rfl
    refine rn tk 3 rfl ?_;obtain ⟨v13,h14,hr⟩:=zaa hr;refine ug rfl rfl rfl<|ws tk h14 rfl rfl rfl rfl<|rn tk 3 rfl ?_;cases hr;exact jn _ rfl rfl rfl
   refine ac 28 hr rfl (fun c15 hr=>?_) (fun c15 hr=>?_)
   .refine rn tk 8 rfl ?_;cases hr;exact ato rfl rfl rfl rfl
   refine rn tk 8 rfl ?_;cases hr;exact atc rfl rfl
  refine rn tk 2 rfl ?_;cases hr;exact ato rfl rfl rfl rfl
 .refine rn tk 8 rfl ?_;obtain ⟨v16,h17,hr⟩:=zaa hr;refine cl (qda _ _ _ _ h17) rfl rfl<|rn tk 3 rfl<|ac 33 hr rfl (fun c18 hr=>?_) (fun c18 hr=>?_)
  .refine rn tk 7 rfl ?_;cases hr;exact kr tk (.inr rfl) rfl rfl
  refine rn tk 11 rfl<|ac 37 hr rfl (fun c19 hr=>?_) (fun c19 hr=>?_)
  .refine rn tk 7 rfl ?_;cases hr;exact kr tk (.inr rfl) rfl rfl
  refine rn tk 17 rfl<|al2 hr (fun s20=>[(1,.ptr 1 0),(4,.i ((a0.Value.length:Int))),(5,.i s20)]) (fun s20=>[(1,.cells [.s a0.Name,.s a0.Value])]) (.exit 2) (fun b21=>[(1,.ptr 1 0),(4,.i ((a0.Value.length:Int)))]) (fun b21=>[(1,.cells [.s a0.Name,.s a0.Value])]) .ret (fun b22=>[(2,.i b22)]) (fun b22=>[]) rfl rfl (fun s20 x24 hr=>?_) (fun b21 hr=>?_) (fun b22 hr=>?_)
  .unfold vra at hr;refine rn tk 8 rfl<|ac 43 hr rfl (fun c25 hr=>?_) (fun c25 hr=>?_)
   .refine rn tk 4 rfl<|jb hr (fun j26=>[(1,.ptr 1 0),(4,.i ((a0.Value.length:Int))),(5,.i s20),(64,.bo j26)]) (fun j26=>[(1,.cells [.s a0.Name,.s a0.Value])]) (fun j26 hr=>?_) (fun j26 hr=>?_)
    .refine rn tk 4 rfl ?_;obtain ⟨v27,h28,hr⟩:=zaa hr;refine ws tk h28 rfl rfl rfl rfl<|rn tk 2 rfl<|bs 51 hr rfl (fun c29 hr=>?_) (fun c29 hr=>?_)
     .refine rn tk 14 rfl ?_;cases hr;exact jn _ rfl rfl rfl
     refine rn tk 3 rfl ?_;obtain ⟨v30,h31,hr⟩:=zaa hr;refine ug rfl rfl rfl<|ws tk h31 rfl rfl rfl rfl<|rn tk 3 rfl<|bs 58 hr rfl (fun c32 hr=>?_) (fun c32 hr=>?_)
     .refine rn tk 7 rfl ?_;cases hr;exact jn _ rfl rfl rfl
     refine rn tk 3 rfl ?_;obtain ⟨v33,h34,hr⟩:=zaa hr;refine ug rfl rfl rfl<|ws tk h34 rfl rfl rfl rfl<|rn tk 3 rfl ?_;cases hr;exact jn _ rfl rfl rfl
    refine ac 64 hr rfl (fun c35 hr=>?_) (fun c35 hr=>?_)
    .refine rn tk 8 rfl ?_;cases hr;exact ato rfl rfl rfl rfl
    refine rn tk 8 rfl ?_;cases hr;exact atc rfl rfl
   refine rn tk 2 rfl ?_;cases hr;exact ato rfl rfl rfl rfl
  .refine rn tk 3 rfl<|jb hr (fun j36=>[(1,.ptr 1 0),(80,.bo j36)]) (fun j36=>[(1,.cells [.s a0.Name,.s a0.Value])]) (fun j36 hr=>?_) (fun j36 hr=>?_)
   .refine rn tk 4 rfl<|bs 67 hr rfl (fun c37 hr=>?_) (fun c37 hr=>?_)
    .refine rn tk 2 rfl ?_;obtain ⟨v38,h39,hr⟩:=zaa hr;refine ug rfl rfl rfl<|ws tk h39 rfl rfl rfl rfl ?_;obtain ⟨v40,h41,hr⟩:=zaa hr;refine ug rfl rfl rfl<|cl (wla _ _ h41) rfl rfl<|rn tk 1 rfl<|bs 72 hr rfl (fun c42 hr=>?_) (fun c42 hr=>?_)
     .refine rn tk 9 rfl ?_;cases hr;exact jn _ rfl rfl rfl
     refine rn tk 4 rfl ?_;obtain ⟨v43,h44,hr⟩:=zaa hr;refine ug rfl rfl rfl<|ws tk h44 rfl rfl rfl rfl ?_;obtain ⟨v45,h46,hr⟩:=zaa hr;refine ug rfl rfl rfl<|cl (wla _ _ h46) rfl rfl<|rn tk 3 rfl ?_;cases hr;exact jn _ rfl rfl rfl
    refine rn tk 14 rfl ?_;cases hr;exact jn _ rfl rfl rfl
   refine ac 80 hr rfl (fun c47 hr=>?_) (fun c47 hr=>?_)
   .refine rn tk 7 rfl ?_;cases hr;exact kr tk (.inr rfl) rfl rfl
   refine rn tk 8 rfl ?_;obtain ⟨v48,h49,hr⟩:=zaa hr;refine cl (jDa _ _ _ h49) rfl rfl<|rn tk 10 rfl<|al2 hr (fun s50=>[(6,.l cS v48),(7,.i s50)]) (fun s50=>[]) (.exit 4) (fun b51=>[]) (fun b51=>[]) .ret (fun b52=>[(2,.i b52)]) (fun b52=>[]) rfl rfl (fun s50 x54 hr=>?_) (fun b51 hr=>?_) (fun b52 hr=>?_)
   .unfold vsa at hr;refine rn tk 5 rfl<|wn tk rfl rfl rfl<|rn tk 3 rfl<|ac 89 hr rfl (fun c55 hr=>?_) (fun c55 hr=>?_)
    .refine rn tk 8 rfl ?_;obtain ⟨v56,h57,hr⟩:=zaa hr;refine wi tk h57 rfl rfl rfl rfl rfl<|rn tk 5 rfl<|ac 97 hr rfl (fun c58 hr=>?_) (fun c58 hr=>?_)
     .refine rn tk 8 rfl ?_;cases hr;exact ato rfl rfl rfl rfl
     refine rn tk 8 rfl ?_;cases hr;exact atc rfl rfl
    refine rn tk 2 rfl ?_;cases hr;exact ato rfl rfl rfl rfl
   .refine rn tk 8 rfl ?_;cases hr;exact kr tk (.inr rfl) rfl rfl
   refine rn tk 2 rfl ?_;cases hr;exact kr tk (.inr rfl) rfl rfl
  refine rn tk 2 rfl ?_;cases hr;exact kr tk (.inr rfl) rfl rfl
 refine rn tk 2 rfl ?_;cases hr;exact kr tk (.inr rfl) rfl rfl
theorem KJa(a0:zsa)(r:List UInt8)(hr:vta a0=some r):Run prog 95 [.agg [.l zga.pc a0.Fields,.l cU a0.Body]] (.l cU r):=by
 unfold vta at hr;refine rf (fn:=f95) ⟨func95,rfl,by kernel_rfl⟩ rfl (fun _=>rfl) fun g0 hg=>?_
 refine rn tk 9 rfl ?_;refine wYa 1003 (d:=3) 5 1 rfl rfl rfl (hO ?_);refine rn tk 9 rfl<|al1 hr (fun s1=>[(1,.ptr 1 0),(3,.hs 1003 0),(4,.i s1.1)]) (fun s1=>[(1003,.row 5 false 1 (List.map cU s1.2)),(1,.cells [.l zga.pc a0.Fields,.l cU a0.Body])]) (.exit 0) (fun b2=>[(1,.ptr 1 0),(3,.hs 1003 0)]) (fun b2=>[(1003,.row 5 false 1 (List.map cU b2)),(1,.cells [.l zga.pc a0.Fields,.l cU a0.Body])]) rfl rfl (fun s1 x3 hr=>?_) (fun b2 hr=>?_)
 .unfold qma at hr;refine rn tk 6 rfl<|wn tk rfl rfl rfl<|rn tk 3 rfl<|ac 11 hr rfl (fun c4 hr=>?_) (fun c4 hr=>?_)
  .refine rn tk 5 rfl ?_;obtain ⟨v5,h6,hr⟩:=zaa hr;obtain ⟨v7,h8,hr⟩:=zaa hr;refine dr 12 [(25,.s v7.Value),(24,.ep [pS v7.Value]),(23,.ep [pS v7.Name,pS v7.Value]),(22,.i s1.1),(21,.l zga.pc a0.Fields),(20,.ptr 1 0),(19,.s v5.Name),(18,.ep [pS v5.Name,pS v5.Value]),(17,.ep [pS v5.Name,pS v5.Value]),(16,.i s1.1),(15,.l zga.pc a0.Fields),(14,.ptr 1 0)] mixed (by kernel_rfl) rfl rfl (pq tk rfl (.plain rfl) (pq tk rfl (.plain rfl) (pq tk rfl (.plain rfl) (.run (.plain rfl) (zQa (vKa (f:=zga.pc) rfl rfl kva kVa rfl h6)) (pq tk rfl (.plain rfl) (pq tk rfl (.plain rfl) (pq tk rfl (.plain rfl) (pq tk rfl (.plain rfl) (pq tk rfl (.plain rfl) (.run (.plain rfl) (zQa (vKa (f:=zga.pc) rfl rfl kva kVa rfl h8)) (pq tk rfl (.plain rfl) (pq tk rfl (.plain rfl) .nil)))))))))))) rfl ?_;obtain ⟨v9,h10,hr⟩:=zaa hr;refine cl (jDa _ _ _ h10) rfl rfl<|rn tk 9 rfl<|al1 hr (fun s11=>[(1,.ptr 1 0),(3,.hs 1003 0),(4,.i s1.1),(5,.l cS v9),(6,.i s11.1)]) (fun s11=>[(1003,.row 5 false 1 (List.map cU s11.2)),(1,.cells [.l zga.pc a0.Fields,.l cU a0.Body])]) (.exit 2) (fun b12=>[(1,.ptr 1 0),(3,.hs 1003 0),(4,.i s1.1)]) (fun b12=>[(1003,.row 5 false 1 (List.map cU b12)),(1,.cells [.l zga.pc a0.Fields,.l cU a0.Body])]) rfl rfl (fun s11 x13 hr=>?_) (fun b12 hr=>?_)
   .unfold qla at hr;refine rn tk 5 rfl<|wn tk rfl rfl rfl<|rn tk 3 rfl<|ac 30 hr rfl (fun c14 hr=>?_) (fun c14 hr=>?_)
    .refine rn tk 9 rfl ?_;obtain ⟨v15,h16,hr⟩:=zaa hr;refine wi tk h16 rfl rfl rfl rfl rfl<|rn tk 1 rfl ?_;obtain ⟨v17,h18,hr⟩:=zaa hr;refine wo (Qja (k:=38) (l:=s11.2) (s:=v15) (lim:=140737488355328) rfl rfl rfl rfl zHa zCa.u k8a rfl h18) rfl<|rn tk 5 rfl<|wz cU ([(13:UInt8),(10:UInt8)]:List UInt8) tk rfl rfl (fun _=>rfl) rfl rfl rfl ?_;obtain ⟨v19,h20,hr⟩:=zaa hr;refine wa tk h20 rfl rfl rfl rfl (fun _=>rfl) rfl rfl<|rn tk 9 rfl ?_;cases hr;exact atc rfl rfl
    refine rn tk 2 rfl ?_;cases hr;exact ato rfl rfl rfl rfl
   refine rn tk 8 rfl ?_;cases hr;exact atc rfl rfl
  refine rn tk 2 rfl ?_;cases hr;exact ato rfl rfl rfl rfl
 refine rn tk 5 rfl<|wz cU ([(13:UInt8),(10:UInt8)]:List UInt8) tk rfl rfl (fun _=>rfl) rfl rfl rfl ?_;obtain ⟨v21,h22,hr⟩:=zaa hr;refine wa tk h22 rfl rfl rfl rfl (fun _=>rfl) rfl rfl<|rn tk 8 rfl ?_;obtain ⟨v23,h24,hr⟩:=zaa hr;refine wa tk h24 rfl rfl rfl rfl (fun _=>rfl) rfl rfl<|rn tk 3 rfl ?_;refine w6a (d:=2) (F:=cU) (l:=v23) rfl rfl (hC ?_);refine rn tk 1 rfl ?_;cases hr;exact kr tk (.inr rfl) rfl rfl
theorem yEa(a0:zsa)(r:zpa)(hr:qLa a0=some r):Run prog 71 [.agg [.l zga.pc a0.Fields,.l cU a0.Body]] (.agg [.i r.Code,.i r.Index]):=by
 unfold qLa at hr;refine rf (fn:=f71) ⟨func71,rfl,by kernel_rfl⟩ rfl (fun _=>rfl) fun g0 hg=>?_
 refine rn tk 11 rfl<|wn tk rfl rfl rfl<|rn tk 3 rfl<|ac 11 hr rfl (fun c1 hr=>?_) (fun c1 hr=>?_)
 .refine rn tk 2 rfl ?_;obtain ⟨v2,h3,hr⟩:=zaa hr;refine cl (kxa _ _ _ h3) rfl rfl<|rn tk 5 rfl ?_;cases hr;exact kr tk (.inr rfl) rfl rfl
 refine rn tk 9 rfl<|al2 hr (fun s4=>[(1,.ptr 1 0),(2,.ptr 2 0),(3,.i s4)]) (fun s4=>[(2,.cells [.i 0,.i 0]),(1,.cells [.l zga.pc a0.Fields,.l cU a0.Body])]) (.exit 0) (fun b5=>[(1,.ptr 1 0),(2,.ptr 2 0)]) (fun b5=>[(2,.cells [.i 0,.i 0]),(1,.cells [.l zga.pc a0.Fields,.l cU a0.Body])]) .ret (fun b6=>[(2,.ptr 2 0)]) (fun b6=>[(2,.cells [.i b6.Code,.i b6.Index])]) rfl rfl (fun s4 x8 hr=>?_) (fun b5 hr=>?_) (fun b6 hr=>?_)
 .unfold vca at hr;refine rn tk 6 rfl<|wn tk rfl rfl rfl<|rn tk 3 rfl<|ac 17 hr rfl (fun c9 hr=>?_) (fun c9 hr=>?_)
  .refine rn tk 9 rfl ?_;obtain ⟨v10,h11,hr⟩:=zaa hr;refine wi tk h11 rfl rfl rfl rfl rfl<|rn tk 1 rfl ?_;obtain ⟨v12,h13,hr⟩:=zaa hr;refine cl (VJa _ _ h13) rfl rfl<|rn tk 9 rfl<|ac 27 hr rfl (fun c14 hr=>?_) (fun c14 hr=>?_)
   .refine rn tk 4 rfl ?_;obtain ⟨v15,h16,hr⟩:=zaa hr;refine cl (kxa _ _ _ h16) rfl rfl<|rn tk 6 rfl ?_;cases hr;exact ato rfl rfl rfl rfl
   refine rn tk 8 rfl ?_;cases hr;exact atc rfl rfl
  refine rn tk 2 rfl ?_;cases hr;exact ato rfl rfl rfl rfl
 .refine rn tk 3 rfl<|jb hr (fun j17=>[(1,.ptr 1 0),(2,.ptr 2 0),(40,.bo j17)]) (fun j17=>[(2,.cells [.i 0,.i 0]),(1,.cells [.l zga.pc a0.Fields,.l cU a0.Body])]) (fun j17 hr=>?_) (fun j17 hr=>?_)
  .refine rn tk 3 rfl<|wn tk rfl rfl rfl<|rn tk 2 rfl<|bs 35 hr rfl (fun c18 hr=>?_) (fun c18 hr=>?_)
   .refine rn tk 6 rfl ?_;cases hr;exact jn _ rfl rfl rfl
   refine rn tk 1 rfl ?_;obtain ⟨v19,h20,hr⟩:=zaa hr;refine ug rfl rfl rfl<|cl (KJa _ _ h20) rfl rfl<|ug rfl rfl rfl<|wn tk rfl rfl rfl<|rn tk 3 rfl ?_;cases hr;exact jn _ rfl rfl rfl
  refine ac 40 hr rfl (fun c21 hr=>?_) (fun c21 hr=>?_)
  .refine rn tk 2 rfl ?_;obtain ⟨v22,h23,hr⟩:=zaa hr;refine cl (kxa _ _ _ h23) rfl rfl<|rn tk 5 rfl ?_;cases hr;exact kr tk (.inr rfl) rfl rfl
  refine rn tk 14 rfl<|al2 hr (fun s24=>[(1,.ptr 1 0),(2,.ptr 2 0),(5,.i s24.1),(6,.i s24.2)]) (fun s24=>[(2,.cells [.i 0,.i 0]),(1,.cells [.l zga.pc a0.Fields,.l cU a0.Body])]) (.exit 2) (fun b25=>[(2,.ptr 2 0)]) (fun b25=>[(2,.cells [.i 0,.i 0])]) .ret (fun b26=>[(2,.ptr 2 0)]) (fun b26=>[(2,.cells [.i b26.Code,.i b26.Index])]) rfl rfl (fun s24 x28 hr=>?_) (fun b25 hr=>?_) (fun b26 hr=>?_)
  .unfold kHa at hr;refine rn tk 6 rfl<|wn tk rfl rfl rfl<|rn tk 3 rfl<|ac 46 hr rfl (fun c29 hr=>?_) (fun c29 hr=>?_)
   .refine rn tk 2 rfl<|jk (fun j30=>[(1,.ptr 1 0),(2,.ptr 2 0),(5,.i j30.1),(6,.i j30.2)]) (fun j30=>[(2,.cells [.i 0,.i 0]),(1,.cells [.l zga.pc a0.Fields,.l cU a0.Body])]) (fun j30=>qna j30=some x28) ?_ ?_
    .refine rn tk 6 rfl ?_;obtain ⟨v31,h32,hr⟩:=zaa hr;refine wi tk h32 rfl rfl rfl rfl rfl<|rn tk 5 rfl<|jb hr (fun j33=>[(1,.ptr 1 0),(2,.ptr 2 0),(5,.i s24.1),(6,.i s24.2),(7,.u8 v31),(72,.bo j33)]) (fun j33=>[(2,.cells [.i 0,.i 0]),(1,.cells [.l zga.pc a0.Fields,.l cU a0.Body])]) (fun j33 hr=>?_) (fun j33 hr=>?_)
     .refine rn tk 4 rfl<|bs 56 hr rfl (fun c34 hr=>?_) (fun c34 hr=>?_)
      .refine rn tk 4 rfl<|ug rfl rfl rfl<|wn tk rfl rfl rfl<|rn tk 3 rfl<|bs 64 hr rfl (fun c35 hr=>?_) (fun c35 hr=>?_)
       .refine rn tk 4 rfl ?_;obtain ⟨v36,h37,hr⟩:=zaa hr;refine ug rfl rfl rfl<|wi tk h37 rfl rfl rfl rfl rfl<|rn tk 4 rfl ?_;cases hr;exact jn _ rfl rfl rfl
       refine rn tk 9 rfl ?_;cases hr;exact jn _ rfl rfl rfl
      refine rn tk 17 rfl ?_;cases hr;exact jn _ rfl rfl rfl
     refine ac 72 hr rfl (fun c38 hr=>?_) (fun c38 hr=>?_)
     .refine rn tk 15 rfl<|jn ((0,(w64 (s24.2+1)))) hr rfl rfl
     refine rn tk 3 rfl<|jb hr (fun j39=>[(1,.ptr 1 0),(2,.ptr 2 0),(5,.i s24.1),(6,.i s24.2),(80,.bo j39)]) (fun j39=>[(2,.cells [.i 0,.i 0]),(1,.cells [.l zga.pc a0.Fields,.l cU a0.Body])]) (fun j39 hr=>?_) (fun j39 hr=>?_)
     .refine rn tk 4 rfl<|bs 77 hr rfl (fun c40 hr=>?_) (fun c40 hr=>?_)
      .refine rn tk 4 rfl ?_;cases hr;exact jn _ rfl rfl rfl
      refine rn tk 4 rfl ?_;cases hr;exact jn _ rfl rfl rfl
     refine ac 80 hr rfl (fun c41 hr=>?_) (fun c41 hr=>?_)
     .refine rn tk 2 rfl ?_;obtain ⟨v42,h43,hr⟩:=zaa hr;refine cl (kxa _ _ _ h43) rfl rfl<|rn tk 7 rfl ?_;cases hr;exact ato rfl rfl rfl rfl
     refine rn tk 15 rfl<|ac 85 hr rfl (fun c44 hr=>?_) (fun c44 hr=>?_)
     .refine rn tk 2 rfl ?_;obtain ⟨v45,h46,hr⟩:=zaa hr;refine cl (kxa _ _ _ h46) rfl rfl<|rn tk 6 rfl ?_;cases hr;exact ato rfl rfl rfl rfl
     refine rn tk 2 rfl<|jn (((w64 (s24.1+1)),s24.2)) hr rfl rfl
    intro j30 hr;unfold qna at hr;refine rn tk 5 rfl ?_;cases hr;exact atc rfl rfl
   refine rn tk 2 rfl ?_;cases hr;exact ato rfl rfl rfl rfl
  .refine rn tk 9 rfl ?_;cases hr;exact kr tk (.inr rfl) rfl rfl
  refine rn tk 2 rfl ?_;cases hr;exact kr tk (.inr rfl) rfl rfl
 refine rn tk 2 rfl ?_;cases hr;exact kr tk (.inr rfl) rfl rfl
theorem yra(a0:z0a)(r:zpa)(hr:vGa a0=some r):Run prog 34 [.agg [.s a0.Envelope.From,.l zca.pc a0.Envelope.To,.s a0.Envelope.Id,.l zga.pc a0.Message.Fields,.l cU a0.Message.Body]] (.agg [.i r.Code,.i r.Index]):=by
 unfold vGa at hr;refine rf (fn:=f34) ⟨func34,rfl,by kernel_rfl⟩ rfl (fun _=>rfl) fun g0 hg=>?_
 refine rn tk 10 rfl ?_;obtain ⟨v1,h2,hr⟩:=zaa hr;refine cl (Z6a _ _ h2) rfl rfl<|rn tk 4 rfl<|jb hr (fun j3=>[(2,.ptr 2 0),(3,.ptr 3 0)]) (fun j3=>[(3,.cells [.i j3.1,.i j3.2]),(2,.cells [.i 0,.i 0])]) (fun j3 hr=>?_) (fun j3 hr=>?_)
 .refine jb hr (fun j4=>[(1,.ptr 1 0),(2,.ptr 2 0),(3,.ptr 3 0),(16,.bo j4)]) (fun j4=>[(3,.cells [.i v1.Code,.i v1.Index]),(2,.cells [.i 0,.i 0]),(1,.cells [.s a0.Envelope.From,.l zca.pc a0.Envelope.To,.s a0.Envelope.Id,.l zga.pc a0.Message.Fields,.l cU a0.Message.Body])]) (fun j4 hr=>?_) (fun j4 hr=>?_)
  .refine rn tk 5 rfl<|bs 10 hr rfl (fun c5 hr=>?_) (fun c5 hr=>?_)
   .refine rn tk 2 rfl ?_;obtain ⟨v6,h7,hr⟩:=zaa hr;refine ug rfl rfl rfl<|cl (yEa _ _ h7) rfl rfl<|rn tk 4 rfl ?_;cases hr;exact jn _ rfl rfl rfl
   refine rn tk 7 rfl ?_;cases hr;exact jn _ rfl rfl rfl
  refine ac 16 hr rfl (fun c8 hr=>?_) (fun c8 hr=>?_)
  .refine rn tk 3 rfl ?_;obtain ⟨v9,h10,hr⟩:=zaa hr;refine cl (yEa _ _ h10) rfl rfl<|rn tk 1 rfl ?_;obtain ⟨v11,h12,hr⟩:=zaa hr;refine cl (kxa _ _ _ h12) rfl rfl<|rn tk 2 rfl ?_;cases hr;exact jn _ rfl rfl rfl
  refine rn tk 1 rfl ?_;cases hr;exact jn _ rfl rfl rfl
 refine rn tk 7 rfl ?_;cases hr;exact kr tk (.inr rfl) rfl rfl
theorem qpa(a0:zma)(r:zpa)(hr:vea a0=some r):Run prog 13 [.agg [.l zba.pc a0.Entries,.i a0.Next]] (.agg [.i r.Code,.i r.Index]):=by
 unfold vea at hr;refine rf (fn:=f13) ⟨func13,rfl,by kernel_rfl⟩ rfl (fun _=>rfl) fun g0 hg=>?_
 refine rn tk 11 rfl<|wn tk rfl rfl rfl<|rn tk 3 rfl<|ac 10 hr rfl (fun c1 hr=>?_) (fun c1 hr=>?_)
 .refine rn tk 2 rfl ?_;obtain ⟨v2,h3,hr⟩:=zaa hr;refine cl (kxa _ _ _ h3) rfl rfl<|rn tk 5 rfl ?_;cases hr;exact kr tk (.inr rfl) rfl rfl
 refine rn tk 7 rfl ?_;obtain ⟨v4,h5,hr⟩:=zaa hr;refine cl (qda _ _ _ _ h5) rfl rfl<|rn tk 3 rfl<|ac 15 hr rfl (fun c6 hr=>?_) (fun c6 hr=>?_)
 .refine rn tk 2 rfl ?_;obtain ⟨v7,h8,hr⟩:=zaa hr;refine cl (kxa _ _ _ h8) rfl rfl<|rn tk 5 rfl ?_;cases hr;exact kr tk (.inr rfl) rfl rfl
 refine rn tk 14 rfl<|al2 hr (fun s9=>[(1,.ptr 1 0),(2,.ptr 2 0),(3,.i s9.1),(4,.i s9.2)]) (fun s9=>[(2,.cells [.i 0,.i 0]),(1,.cells [.l zba.pc a0.Entries,.i a0.Next])]) (.exit 0) (fun b10=>[(2,.ptr 2 0)]) (fun b10=>[(2,.cells [.i 0,.i 0])]) .ret (fun b11=>[(2,.ptr 2 0)]) (fun b11=>[(2,.cells [.i b11.Code,.i b11.Index])]) rfl rfl (fun s9 x13 hr=>?_) (fun b10 hr=>?_) (fun b11 hr=>?_)
 .unfold kTa at hr;refine rn tk 6 rfl<|wn tk rfl rfl rfl<|rn tk 3 rfl<|ac 21 hr rfl (fun c14 hr=>?_) (fun c14 hr=>?_)
  .refine rn tk 9 rfl ?_;obtain ⟨v15,h16,hr⟩:=zaa hr;refine wi tk h16 rfl rfl rfl rfl rfl<|rn tk 9 rfl ?_;obtain ⟨v17,h18,hr⟩:=zaa hr;refine cl (yra _ _ h18) rfl rfl<|rn tk 12 rfl<|ac 34 hr rfl (fun c19 hr=>?_) (fun c19 hr=>?_)
   .refine rn tk 5 rfl ?_;obtain ⟨v20,h21,hr⟩:=zaa hr;refine cl (kxa _ _ _ h21) rfl rfl<|rn tk 7 rfl ?_;cases hr;exact ato rfl rfl rfl rfl
   refine rn tk 12 rfl ?_;obtain ⟨v22,h23,hr⟩:=zaa hr;refine cl (qda _ _ _ _ h23) rfl rfl<|rn tk 3 rfl<|ac 47 hr rfl (fun c24 hr=>?_) (fun c24 hr=>?_)
   .refine rn tk 3 rfl ?_;obtain ⟨v25,h26,hr⟩:=zaa hr;refine cl (kxa _ _ _ h26) rfl rfl<|rn tk 7 rfl ?_;cases hr;exact ato rfl rfl rfl rfl
   refine rn tk 10 rfl<|jb hr (fun j27=>[(1,.ptr 1 0),(2,.ptr 2 0),(3,.i v15.Id),(4,.i s9.2),(5,.ptr 5 0),(67,.bo j27)]) (fun j27=>[(5,.cells [.i v15.Id,.s v15.Mail.Envelope.From,.l zca.pc v15.Mail.Envelope.To,.s v15.Mail.Envelope.Id,.l zga.pc v15.Mail.Message.Fields,.l cU v15.Mail.Message.Body,.i v15.Since,.i v15.Tries,.i v15.Due,.l zda.pc v15.To]),(2,.cells [.i 0,.i 0]),(1,.cells [.l zba.pc a0.Entries,.i a0.Next])]) (fun j27 hr=>?_) (fun j27 hr=>?_)
   .refine rn tk 3 rfl ?_;obtain ⟨v28,h29,hr⟩:=zaa hr;refine cl (yLa _ _ h29) rfl rfl<|rn tk 2 rfl<|bs 56 hr rfl (fun c30 hr=>?_) (fun c30 hr=>?_)
    .refine rn tk 12 rfl ?_;cases hr;exact jn _ rfl rfl rfl
    refine rn tk 2 rfl ?_;obtain ⟨v31,h32,hr⟩:=zaa hr;refine ug rfl rfl rfl<|cl (yLa _ _ h32) rfl rfl<|rn tk 3 rfl<|bs 62 hr rfl (fun c33 hr=>?_) (fun c33 hr=>?_)
    .refine rn tk 6 rfl ?_;cases hr;exact jn _ rfl rfl rfl
    refine rn tk 2 rfl ?_;obtain ⟨v34,h35,hr⟩:=zaa hr;refine ug rfl rfl rfl<|cl (qda _ _ _ _ h35) rfl rfl<|rn tk 3 rfl ?_;cases hr;exact jn _ rfl rfl rfl
   refine ac 67 hr rfl (fun c36 hr=>?_) (fun c36 hr=>?_)
   .refine rn tk 3 rfl ?_;obtain ⟨v37,h38,hr⟩:=zaa hr;refine cl (kxa _ _ _ h38) rfl rfl<|rn tk 7 rfl ?_;cases hr;exact ato rfl rfl rfl rfl
   refine rn tk 5 rfl ?_;obtain ⟨v39,h40,hr⟩:=zaa hr;refine cl (jCa _ _ h40) rfl rfl<|rn tk 3 rfl<|ac 72 hr rfl (fun c41 hr=>?_) (fun c41 hr=>?_)
   .refine rn tk 3 rfl ?_;obtain ⟨v42,h43,hr⟩:=zaa hr;refine cl (jCa _ _ h43) rfl rfl<|rn tk 1 rfl ?_;obtain ⟨v44,h45,hr⟩:=zaa hr;refine cl (kxa _ _ _ h45) rfl rfl<|rn tk 6 rfl ?_;cases hr;exact ato rfl rfl rfl rfl
   refine rn tk 8 rfl ?_;cases hr;exact atc rfl rfl
  refine rn tk 2 rfl ?_;cases hr;exact ato rfl rfl rfl rfl
 .refine rn tk 9 rfl ?_;cases hr;exact kr tk (.inr rfl) rfl rfl
 refine rn tk 2 rfl ?_;cases hr;exact kr tk (.inr rfl) rfl rfl
theorem JBa(a0:zma)(a1:z0a)(a2:Int)(r:zma × Int × zpa)(hr:Kra a0 a1 a2=some r):Run prog 10 [.agg [.l zba.pc a0.Entries,.i a0.Next],.agg [.s a1.Envelope.From,.l zca.pc a1.Envelope.To,.s a1.Envelope.Id,.l zga.pc a1.Message.Fields,.l cU a1.Message.Body],.i a2] (.tup [.agg [.l zba.pc r.1.Entries,.i r.1.Next],.i r.2.1,.agg [.i r.2.2.Code,.i r.2.2.Index]]):=by
 unfold Kra at hr;refine rf (fn:=f10) ⟨func10,rfl,by kernel_rfl⟩ rfl (fun _=>rfl) fun g0 hg=>?_
 refine rn tk 12 rfl ?_;obtain ⟨v1,h2,hr⟩:=zaa hr;refine cl (qpa _ _ h2) rfl rfl<|rn tk 4 rfl<|jb hr (fun j3=>[(2,.i a2),(3,.ptr 3 0),(4,.ptr 4 0),(6,.ptr 6 0),(8,.ptr 8 0),(9,.ptr 9 0)]) (fun j3=>[(9,.cells [.i j3.1,.i j3.2]),(8,.cells [.i 0,.i 0]),(6,.cells [.l zba.pc ([]),.i 0]),(4,.cells [.s a1.Envelope.From,.l zca.pc a1.Envelope.To,.s a1.Envelope.Id,.l zga.pc a1.Message.Fields,.l cU a1.Message.Body]),(3,.cells [.l zba.pc a0.Entries,.i a0.Next])]) (fun j3 hr=>?_) (fun j3 hr=>?_)
 .refine jb hr (fun j4=>[(2,.i a2),(3,.ptr 3 0),(4,.ptr 4 0),(6,.ptr 6 0),(8,.ptr 8 0),(9,.ptr 9 0),(23,.bo j4)]) (fun j4=>[(9,.cells [.i v1.Code,.i v1.Index]),(8,.cells [.i 0,.i 0]),(6,.cells [.l zba.pc ([]),.i 0]),(4,.cells [.s a1.Envelope.From,.l zca.pc a1.Envelope.To,.s a1.Envelope.Id,.l zga.pc a1.Message.Fields,.l cU a1.Message.Body]),(3,.cells [.l zba.pc a0.Entries,.i a0.Next])]) (fun j4 hr=>?_) (fun j4 hr=>?_)
  .refine rn tk 5 rfl<|bs 18 hr rfl (fun c5 hr=>?_) (fun c5 hr=>?_)
   .refine rn tk 1 rfl ?_;obtain ⟨v6,h7,hr⟩:=zaa hr;refine ug rfl rfl rfl<|cl (yra _ _ h7) rfl rfl<|rn tk 4 rfl ?_;cases hr;exact jn _ rfl rfl rfl
   refine rn tk 6 rfl ?_;cases hr;exact jn _ rfl rfl rfl
  refine ac 23 hr rfl (fun c8 hr=>?_) (fun c8 hr=>?_)
  .refine rn tk 2 rfl ?_;obtain ⟨v9,h10,hr⟩:=zaa hr;refine cl (yra _ _ h10) rfl rfl<|rn tk 1 rfl ?_;obtain ⟨v11,h12,hr⟩:=zaa hr;refine cl (kxa _ _ _ h12) rfl rfl<|rn tk 2 rfl ?_;cases hr;exact jn _ rfl rfl rfl
  refine rn tk 1 rfl ?_;cases hr;exact jn _ rfl rfl rfl
 refine jb hr (fun j13=>[(2,.i a2),(3,.ptr 3 0),(4,.ptr 4 0),(6,.ptr 6 0),(8,.ptr 8 0),(9,.ptr 9 0)]) (fun j13=>[(9,.cells [.i j13.1,.i j13.2]),(8,.cells [.i 0,.i 0]),(6,.cells [.l zba.pc ([]),.i 0]),(4,.cells [.s a1.Envelope.From,.l zca.pc a1.Envelope.To,.s a1.Envelope.Id,.l zga.pc a1.Message.Fields,.l cU a1.Message.Body]),(3,.cells [.l zba.pc a0.Entries,.i a0.Next])]) (fun j13 hr=>?_) (fun j13 hr=>?_)
 .refine jb hr (fun j14=>[(2,.i a2),(3,.ptr 3 0),(4,.ptr 4 0),(6,.ptr 6 0),(8,.ptr 8 0),(9,.ptr 9 0),(35,.bo j14)]) (fun j14=>[(9,.cells [.i j3.1,.i j3.2]),(8,.cells [.i 0,.i 0]),(6,.cells [.l zba.pc ([]),.i 0]),(4,.cells [.s a1.Envelope.From,.l zca.pc a1.Envelope.To,.s a1.Envelope.Id,.l zga.pc a1.Message.Fields,.l cU a1.Message.Body]),(3,.cells [.l zba.pc a0.Entries,.i a0.Next])]) (fun j14 hr=>?_) (fun j14 hr=>?_)
  .refine rn tk 5 rfl<|bs 31 hr rfl (fun c15 hr=>?_) (fun c15 hr=>?_)
   .refine rn tk 1 rfl ?_;obtain ⟨v16,h17,hr⟩:=zaa hr;refine ug rfl rfl rfl<|cl (yLa _ _ h17) rfl rfl<|rn tk 3 rfl ?_;cases hr;exact jn _ rfl rfl rfl
   refine rn tk 5 rfl ?_;cases hr;exact jn _ rfl rfl rfl
  refine ac 35 hr rfl (fun c18 hr=>?_) (fun c18 hr=>?_)
  .refine rn tk 1 rfl ?_;obtain ⟨v19,h20,hr⟩:=zaa hr;refine cl (kxa _ _ _ h20) rfl rfl<|rn tk 2 rfl ?_;cases hr;exact jn _ rfl rfl rfl
  refine rn tk 1 rfl ?_;cases hr;exact jn _ rfl rfl rfl
 refine jb hr (fun j21=>[(2,.i a2),(3,.ptr 3 0),(4,.ptr 4 0),(6,.ptr 6 0),(8,.ptr 8 0),(9,.ptr 9 0)]) (fun j21=>[(9,.cells [.i j21.1,.i j21.2]),(8,.cells [.i 0,.i 0]),(6,.cells [.l zba.pc ([]),.i 0]),(4,.cells [.s a1.Envelope.From,.l zca.pc a1.Envelope.To,.s a1.Envelope.Id,.l zga.pc a1.Message.Fields,.l cU a1.Message.Body]),(3,.cells [.l zba.pc a0.Entries,.i a0.Next])]) (fun j21 hr=>?_) (fun j21 hr=>?_)
 .refine jb hr (fun j22=>[(2,.i a2),(3,.ptr 3 0),(4,.ptr 4 0),(6,.ptr 6 0),(8,.ptr 8 0),(9,.ptr 9 0),(50,.bo j22)]) (fun j22=>[(9,.cells [.i j13.1,.i j13.2]),(8,.cells [.i 0,.i 0]),(6,.cells [.l zba.pc ([]),.i 0]),(4,.cells [.s a1.Envelope.From,.l zca.pc a1.Envelope.To,.s a1.Envelope.Id,.l zga.pc a1.Message.Fields,.l cU a1.Message.Body]),(3,.cells [.l zba.pc a0.Entries,.i a0.Next])]) (fun j22 hr=>?_) (fun j22 hr=>?_)
  .refine rn tk 5 rfl<|bs 40 hr rfl (fun c23 hr=>?_) (fun c23 hr=>?_)
   .refine rn tk 2 rfl<|ug rfl rfl rfl<|wn tk rfl rfl rfl<|rn tk 2 rfl<|bs 45 hr rfl (fun c24 hr=>?_) (fun c24 hr=>?_)
    .refine rn tk 6 rfl ?_;cases hr;exact jn _ rfl rfl rfl
    refine rn tk 6 rfl ?_;cases hr;exact jn _ rfl rfl rfl
   refine rn tk 11 rfl ?_;cases hr;exact jn _ rfl rfl rfl
  refine ac 50 hr rfl (fun c25 hr=>?_) (fun c25 hr=>?_)
  .refine rn tk 1 rfl ?_;obtain ⟨v26,h27,hr⟩:=zaa hr;refine cl (kxa _ _ _ h27) rfl rfl<|rn tk 2 rfl ?_;cases hr;exact jn _ rfl rfl rfl
  refine rn tk 1 rfl ?_;cases hr;exact jn _ rfl rfl rfl
 refine rn tk 8 rfl<|ac 54 hr rfl (fun c28 hr=>?_) (fun c28 hr=>?_)
 .refine rn tk 1 rfl<|drX 2 4 4 4 [1] [(56,.agg [.i j21.1,.i j21.2]),(55,.agg [.pv (.sl (some true) []),.i 0])] [(6,.ptr 6 0),(7,.i 0),(8,.ptr 8 0),(56,.agg [.i j21.1,.i j21.2])] [(9,.cells [.i j21.1,.i j21.2]),(8,.cells [.i 0,.i 0]),(6,.cells [.pv (.sl (some true) []),.i 0]),(4,.cells [.s a1.Envelope.From,.l zca.pc a1.Envelope.To,.s a1.Envelope.Id,.l zga.pc a1.Message.Fields,.l cU a1.Message.Body]),(3,.cells [.l zba.pc a0.Entries,.i a0.Next])] tk mixed (by kernel_rfl) rfl rfl rfl (pqX tk rfl (.plain rfl) (pqX tk rfl (.plain rfl) .nil)) rfl rfl rfl rfl (by kernel_rfl)<|rn tk 5 rfl ?_;cases hr;exact kr tk (.inr rfl) rfl rfl
 refine rn tk 5 rfl<|il (fn:=f37) (args:=[.agg [.l zba.pc a0.Entries,.i a0.Next]]) 100000 199999 [(2,.i a2),(3,.ptr 3 0),(4,.ptr 4 0),(6,.ptr 6 0),(8,.ptr 8 0),(9,.ptr 9 0)] rfl ⟨func37,rfl,by kernel_rfl⟩ rfl rfl rfl fun T1 ds1=>?_
 refine rn tk 4 rfl ?_;refine kma 1002 (o:=2) (j:=0) 57 10 rfl rfl rfl rfl (hO ?_);refine yRa 1002 9 63 4 rfl (hO ?_);refine rn tk 7 rfl<|wo (KNa (k:=3) 1003 rfl wya (.inr ⟨rfl,rfl⟩) rfl rfl rfl) rfl ?_;refine kma 2003 (o:=1003) (j:=0) 57 10 rfl rfl rfl rfl (hO ?_);refine yRa 2003 9 63 4 rfl (hO ?_);refine rn tk 1 rfl ?_;refine kma 3003 (o:=1003) (j:=0) 57 10 rfl rfl rfl rfl (hO ?_);refine yRa 3003 9 63 4 rfl (hO ?_);refine rn tk 9 rfl<|al1 hr (fun s29=>[(1,.ptr 1 0),(2,.ptr 2 0),(3,.ptr 1003 0),(4,.i s29.1)]) (fun s29=>[(3003,.nrow 57 10 9 63 4 s29.2.1 (List.map zba.pc s29.2.2)),(1003,.cells [.ns 3003,.i a0.Next]),(1002,.nrow 57 10 9 63 4 0 (List.map zba.pc (([]:List zba)))),(2,.cells [.ns 1002,.i 0]),(1,.cells [.l zba.pc a0.Entries,.i a0.Next]),(199999,.sus g0.w.heap.size ds1),(100002,.hold (.i a2) (T1.getD 2 undef)),(100003,.hold (.ptr 3 0) (T1.getD 3 undef)),(100004,.hold (.ptr 4 0) (T1.getD 4 undef)),(100006,.hold (.ptr 6 0) (T1.getD 6 undef)),(100008,.hold (.ptr 8 0) (T1.getD 8 undef)),(100009,.hold (.ptr 9 0) (T1.getD 9 undef)),(9,.cells [.i j21.1,.i j21.2]),(8,.cells [.i 0,.i 0]),(6,.cells [.l zba.pc ([]),.i 0]),(4,.cells [.s a1.Envelope.From,.l zca.pc a1.Envelope.To,.s a1.Envelope.Id,.l zga.pc a1.Message.Fields,.l cU a1.Message.Body]),(3,.cells [.l zba.pc a0.Entries,.i a0.Next])]) (.exit 0) (fun b30=>[(2,.ptr 2 0),(3,.ptr 1003 0)]) (fun b30=>[(3003,.nrow 57 10 9 63 4 b30.2 (List.map zba.pc b30.1)),(1003,.cells [.ns 3003,.i a0.Next]),(1002,.nrow 57 10 9 63 4 0 (List.map zba.pc (([]:List zba)))),(2,.cells [.ns 1002,.i 0]),(199999,.sus g0.w.heap.size ds1),(100002,.hold (.i a2) (T1.getD 2 undef)),(100003,.hold (.ptr 3 0) (T1.getD 3 undef)),(100004,.hold (.ptr 4 0) (T1.getD 4 undef)),(100006,.hold (.ptr 6 0) (T1.getD 6 undef)),(100008,.hold (.ptr 8 0) (T1.getD 8 undef)),(100009,.hold (.ptr 9 0) (T1.getD 9 undef)),(9,.cells [.i j21.1,.i j21.2]),(8,.cells [.i 0,.i 0]),(6,.cells [.l zba.pc ([]),.i 0]),(4,.cells [.s a1.Envelope.From,.l zca.pc a1.Envelope.To,.s a1.Envelope.Id,.l zga.pc a1.Message.Fields,.l cU a1.Message.Body]),(3,.cells [.l zba.pc a0.Entries,.i a0.Next])]) rfl rfl (fun s29 x31 hr=>?_) (fun b30 hr=>?_)
 .unfold vHa at hr;refine rn tk 6 rfl<|wn tk rfl rfl rfl<|rn tk 3 rfl<|ac 14 hr rfl (fun c32 hr=>?_) (fun c32 hr=>?_)
  .refine rn tk 9 rfl ?_;obtain ⟨v33,h34,hr⟩:=zaa hr;refine wi tk h34 rfl rfl rfl rfl rfl<|rn tk 2 rfl ?_;refine kma 1005 (o:=5) (j:=9) 63 4 rfl rfl rfl rfl (hO ?_);refine rn tk 6 rfl ?_;refine qva 1006 (d:=6) 63 4 rfl rfl rfl (hO ?_);refine rn tk 7 rfl ?_;obtain ⟨v35,h36,hr⟩:=zaa hr;refine wa tk h36 rfl rfl rfl rfl (fun _=>rfl) rfl rfl<|rn tk 14 rfl<|wo (Vca (k:=31) 1031 rfl rfl rfl zla zha rfl rfl rfl) rfl ?_;obtain ⟨v37,h38,hr⟩:=zaa hr;obtain ⟨v39,h40,hr⟩:=zaa hr;refine wo (jTa (k:=32) (F:=zba.pc) (G2:=zda.pc) (l:=s29.2.2) (l2:=v35) (v:=((zba.mk v33.Id v33.Mail v33.Since v33.Tries v33.Due v35))) (lim:=879609302220) rfl rfl rfl rfl rfl rfl rfl rfl rfl (Vba h38) zla zha rfl rfl (fun _=>rfl) rfl h40) rfl<|rn tk 10 rfl ?_;cases hr;exact atc rfl rfl
  refine rn tk 2 rfl ?_;cases hr;exact ato rfl rfl rfl rfl
 refine rn tk 9 rfl ?_;refine ie tk [.agg [.ns 3003,.i a0.Next]] [(2,.i a2),(3,.ptr 3 0),(4,.ptr 4 0),(6,.ptr 6 0),(8,.ptr 8 0),(9,.ptr 9 0)] [(3003,.nrow 57 10 9 63 4 b30.2 (List.map zba.pc b30.1)),(1003,.cells [.ns 3003,.i a0.Next]),(1002,.nrow 57 10 9 63 4 0 (List.map zba.pc (([]:List zba)))),(2,.cells [.ns 3003,.i a0.Next]),(9,.cells [.i j21.1,.i j21.2]),(8,.cells [.i 0,.i 0]),(6,.cells [.l zba.pc ([]),.i 0]),(4,.cells [.s a1.Envelope.From,.l zca.pc a1.Envelope.To,.s a1.Envelope.Id,.l zga.pc a1.Message.Fields,.l cU a1.Message.Body]),(3,.cells [.l zba.pc a0.Entries,.i a0.Next])] (.inr rfl) rfl rfl rfl rfl (hO ?_);refine rn tk 1 rfl ?_;refine kma 1010 (o:=10) (j:=0) 57 10 rfl rfl rfl rfl (hO ?_);refine rn tk 12 rfl ?_;refine kma 1011 (o:=11) (j:=9) 63 4 rfl rfl rfl rfl (hO ?_);refine rn tk 1 rfl ?_;refine kma 2011 (o:=11) (j:=9) 63 4 rfl rfl rfl rfl (hO ?_);refine rn tk 9 rfl<|al1 hr (fun s41=>[(3,.ptr 3 0),(4,.ptr 4 0),(6,.ptr 6 0),(8,.ptr 8 0),(9,.ptr 9 0),(10,.ptr 10 0),(11,.ptr 11 0),(12,.i s41.1)]) (fun s41=>[(2011,.row 63 true 4 (List.map zda.pc s41.2)),(11,.cells [.i a0.Next,.s a1.Envelope.From,.l zca.pc a1.Envelope.To,.s a1.Envelope.Id,.l zga.pc a1.Message.Fields,.l cU a1.Message.Body,.i a2,.i 0,.i a2,.hs 2011 0]),(10,.cells [.ns 3003,.i a0.Next]),(3003,.nrow 57 10 9 63 4 b30.2 (List.map zba.pc b30.1)),(9,.cells [.i j21.1,.i j21.2]),(8,.cells [.i 0,.i 0]),(6,.cells [.l zba.pc ([]),.i 0]),(4,.cells [.s a1.Envelope.From,.l zca.pc a1.Envelope.To,.s a1.Envelope.Id,.l zga.pc a1.Message.Fields,.l cU a1.Message.Body]),(3,.cells [.l zba.pc a0.Entries,.i a0.Next])]) (.exit 0) (fun b42=>[(3,.ptr 3 0),(6,.ptr 6 0),(8,.ptr 8 0),(9,.ptr 9 0),(10,.ptr 10 0),(11,.ptr 11 0)]) (fun b42=>[(2011,.row 63 true 4 (List.map zda.pc b42)),(11,.cells [.i a0.Next,.s a1.Envelope.From,.l zca.pc a1.Envelope.To,.s a1.Envelope.Id,.l zga.pc a1.Message.Fields,.l cU a1.Message.Body,.i a2,.i 0,.i a2,.hs 2011 0]),(10,.cells [.ns 3003,.i a0.Next]),(3003,.nrow 57 10 9 63 4 b30.2 (List.map zba.pc b30.1)),(9,.cells [.i j21.1,.i j21.2]),(8,.cells [.i 0,.i 0]),(6,.cells [.l zba.pc ([]),.i 0]),(3,.cells [.l zba.pc a0.Entries,.i a0.Next])]) rfl rfl (fun s41 x43 hr=>?_) (fun b42 hr=>?_)
 .unfold ZVa at hr;refine rn tk 7 rfl<|wn tk rfl rfl rfl<|rn tk 3 rfl<|ac 70 hr rfl (fun c44 hr=>?_) (fun c44 hr=>?_)
  .refine rn tk 4 rfl ?_;obtain ⟨v45,h46,hr⟩:=zaa hr;refine dr 10 [(82,.l zda.pc (([(zda.mk v45 0 false)]:List zda))),(81,.agg [.s v45.Address,.i v45.Notify,.i 0,.bo false]),(80,.agg [.s v45.Address,.i v45.Notify]),(79,.ep [pS v45.Address,pI v45.Notify]),(78,.i s41.1),(77,.l zca.pc a1.Envelope.To),(76,.ptr 4 1),(75,.ptr 4 0),(74,.hs 2011 0),(73,.ptr 11 9)] mixed (by kernel_rfl) rfl rfl (pq tk rfl (.plain rfl) (pq tk rfl (.plain rfl) (pq tk rfl (.plain rfl) (pq tk rfl (.plain rfl) (pq tk rfl (.plain rfl) (pq tk rfl (.plain rfl) (.run (.plain rfl) (zQa (vKa (f:=zca.pc) rfl rfl zDa zBa rfl h46)) (pq tk rfl (.plain rfl) (pq tk rfl (.plain rfl) (.run (.plain rfl) (yHa (F:=zda.pc) (l:=([(zda.mk v45 0 false)]:List zda)) zka zMa rfl (fun _=>rfl) rfl rfl) .nil)))))))))) rfl ?_;obtain ⟨v47,h48,hr⟩:=zaa hr;refine wa tk h48 rfl rfl rfl rfl (fun _=>rfl) rfl rfl<|rn tk 10 rfl ?_;cases hr;exact atc rfl rfl
  refine rn tk 2 rfl ?_;cases hr;exact ato rfl rfl rfl rfl
 refine rn tk 7 rfl<|wo (Vca (k:=88) 1088 rfl rfl rfl zla zha rfl rfl rfl) rfl ?_;obtain ⟨v49,h50,hr⟩:=zaa hr;obtain ⟨v51,h52,hr⟩:=zaa hr;refine wo (jTa (k:=89) (F:=zba.pc) (G2:=zda.pc) (l:=b30.1) (l2:=b42) (v:=((zba.mk a0.Next a1 a2 0 a2 b42))) (lim:=879609302220) rfl rfl rfl rfl rfl rfl rfl rfl rfl (Vba h50) zla zha rfl rfl (fun _=>rfl) rfl h52) rfl<|rn tk 14 rfl<|drX 4 6 6 42 [1,2,3] [(98,.agg [.i j21.1,.i j21.2]),(97,.i a0.Next),(96,.ptr 11 0),(95,.agg [.ns 3003,.i ((w64 (a0.Next+1)))])] [(6,.ptr 6 0),(7,.i a0.Next),(8,.ptr 8 0),(98,.agg [.i j21.1,.i j21.2])] [(11,.cells [.i a0.Next,.s a1.Envelope.From,.l zca.pc a1.Envelope.To,.s a1.Envelope.Id,.l zga.pc a1.Message.Fields,.l cU a1.Message.Body,.i a2,.i 0,.i a2,.any]),(10,.cells [.ns 3003,.i ((w64 (a0.Next+1)))]),(3003,.nrow 57 10 9 63 4 ((b30.2+1)) (List.map zba.pc v51)),(9,.cells [.i j21.1,.i j21.2]),(8,.cells [.i 0,.i 0]),(6,.cells [.ns 3003,.i ((w64 (a0.Next+1)))]),(3,.cells [.l zba.pc a0.Entries,.i a0.Next])] tk mixed (by kernel_rfl) rfl rfl rfl (pqX tk rfl (.plain rfl) (pqX tk rfl (.plain rfl) (pqX tk rfl (.plain rfl) (pqX tk rfl (.plain rfl) .nil)))) rfl rfl rfl rfl (by kernel_rfl)<|rn tk 3 rfl ?_;refine KYa 3003 rfl (hC ?_);refine jca 3003 rfl (hC ?_);refine Kca (o:=6) (j:=0) (F:=zba.pc) (l:=v51) rfl rfl rfl (hC ?_);refine rn tk 1 rfl ?_;cases hr;exact kr tk (.inr rfl) rfl rfl
theorem Qea(a0:zsa)(a1:zsa)(r:Bool)(hr:v2a a0 a1=some r):Run prog 73 [.agg [.l zga.pc a0.Fields,.l cU a0.Body],.agg [.l zga.pc a1.Fields,.l cU a1.Body]] (.bo r):=by
 unfold v2a at hr;refine rf (fn:=f73) ⟨func73,rfl,by kernel_rfl⟩ rfl (fun _=>rfl) fun g0 hg=>?_
 refine rn tk 8 rfl<|jb hr (fun j1=>[(2,.ptr 2 0),(3,.ptr 3 0),(21,.bo j1)]) (fun j1=>[(3,.cells [.l zga.pc a1.Fields,.l cU a1.Body]),(2,.cells [.l zga.pc a0.Fields,.l cU a0.Body])]) (fun j1 hr=>?_) (fun j1 hr=>?_)
 .refine rn tk 3 rfl<|wn tk rfl rfl rfl<|rn tk 2 rfl<|wn tk rfl rfl rfl<|rn tk 2 rfl<|bs 13 hr rfl (fun c2 hr=>?_) (fun c2 hr=>?_)
  .refine rn tk 9 rfl ?_;cases hr;exact jn _ rfl rfl rfl
  refine rn tk 2 rfl<|ug rfl rfl rfl<|wb tk rfl rfl rfl<|rn tk 2 rfl<|ug rfl rfl rfl<|wb tk rfl rfl rfl<|rn tk 3 rfl ?_;cases hr;exact jn _ rfl rfl rfl
 refine ac 21 hr rfl (fun c3 hr=>?_) (fun c3 hr=>?_)
 .refine rn tk 7 rfl ?_;cases hr;exact kr tk (.inr rfl) rfl rfl
 refine rn tk 9 rfl<|al2 hr (fun s4=>[(2,.ptr 2 0),(3,.ptr 3 0),(5,.i s4)]) (fun s4=>[(3,.cells [.l zga.pc a1.Fields,.l cU a1.Body]),(2,.cells [.l zga.pc a0.Fields,.l cU a0.Body])]) (.exit 0) (fun b5=>[]) (fun b5=>[]) .ret (fun b6=>[(4,.bo b6)]) (fun b6=>[]) rfl rfl (fun s4 x8 hr=>?_) (fun b5 hr=>?_) (fun b6 hr=>?_)
 .unfold vza at hr;refine rn tk 6 rfl<|wn tk rfl rfl rfl<|rn tk 3 rfl<|ac 26 hr rfl (fun c9 hr=>?_) (fun c9 hr=>?_)
  .refine rn tk 5 rfl ?_;obtain ⟨v10,h11,hr⟩:=zaa hr;obtain ⟨v12,h13,hr⟩:=zaa hr;refine dr 10 [(38,.agg [.s v12.Name,.s v12.Value]),(37,.ep [pS v12.Name,pS v12.Value]),(36,.i s4),(35,.l zga.pc a1.Fields),(34,.ptr 3 0),(33,.agg [.s v10.Name,.s v10.Value]),(32,.ep [pS v10.Name,pS v10.Value]),(31,.i s4),(30,.l zga.pc a0.Fields),(29,.ptr 2 0)] mixed (by kernel_rfl) rfl rfl (pq tk rfl (.plain rfl) (pq tk rfl (.plain rfl) (pq tk rfl (.plain rfl) (.run (.plain rfl) (zQa (vKa (f:=zga.pc) rfl rfl kva kVa rfl h11)) (pq tk rfl (.plain rfl) (pq tk rfl (.plain rfl) (pq tk rfl (.plain rfl) (pq tk rfl (.plain rfl) (.run (.plain rfl) (zQa (vKa (f:=zga.pc) rfl rfl kva kVa rfl h13)) (pq tk rfl (.plain rfl) .nil)))))))))) rfl<|wq (jba rfl rfl kVa Yea (.str rfl (by decide) zCa (.str rfl (by decide) zCa .nil))) rfl rfl rfl<|rn tk 2 rfl<|ac 39 hr rfl (fun c14 hr=>?_) (fun c14 hr=>?_)
   .refine rn tk 8 rfl ?_;cases hr;exact ato rfl rfl rfl rfl
   refine rn tk 8 rfl ?_;cases hr;exact atc rfl rfl
  refine rn tk 2 rfl ?_;cases hr;exact ato rfl rfl rfl rfl
 .refine rn tk 8 rfl ?_;cases hr;exact kr tk (.inr rfl) rfl rfl
 refine rn tk 2 rfl ?_;cases hr;exact kr tk (.inr rfl) rfl rfl
theorem Wca(a0:z0a)(a1:z0a)(r:Bool)(hr:yYa a0 a1=some r):Run prog 42 [.agg [.s a0.Envelope.From,.l zca.pc a0.Envelope.To,.s a0.Envelope.Id,.l zga.pc a0.Message.Fields,.l cU a0.Message.Body],.agg [.s a1.Envelope.From,.l zca.pc a1.Envelope.To,.s a1.Envelope.Id,.l zga.pc a1.Message.Fields,.l cU a1.Message.Body]] (.bo r):=by
 unfold yYa at hr;refine rf (fn:=f42) ⟨func42,rfl,by kernel_rfl⟩ rfl (fun _=>rfl) fun g0 hg=>?_
 refine rn tk 8 rfl<|jb hr (fun j1=>[(2,.ptr 2 0),(3,.ptr 3 0),(32,.bo j1)]) (fun j1=>[(3,.cells [.s a1.Envelope.From,.l zca.pc a1.Envelope.To,.s a1.Envelope.Id,.l zga.pc a1.Message.Fields,.l cU a1.Message.Body]),(2,.cells [.s a0.Envelope.From,.l zca.pc a0.Envelope.To,.s a0.Envelope.Id,.l zga.pc a0.Message.Fields,.l cU a0.Message.Body])]) (fun j1 hr=>?_) (fun j1 hr=>?_)
 .refine rn tk 9 rfl<|bs 13 hr rfl (fun c2 hr=>?_) (fun c2 hr=>?_)
  .refine rn tk 20 rfl ?_;cases hr;exact jn _ rfl rfl rfl
  refine rn tk 9 rfl<|bs 22 hr rfl (fun c3 hr=>?_) (fun c3 hr=>?_)
  .refine rn tk 11 rfl ?_;cases hr;exact jn _ rfl rfl rfl
  refine rn tk 3 rfl<|ug rfl rfl rfl<|wn tk rfl rfl rfl<|rn tk 3 rfl<|ug rfl rfl rfl<|wn tk rfl rfl rfl<|rn tk 3 rfl ?_;cases hr;exact jn _ rfl rfl rfl
 refine ac 32 hr rfl (fun c4 hr=>?_) (fun c4 hr=>?_)
 .refine rn tk 7 rfl ?_;cases hr;exact kr tk (.inr rfl) rfl rfl
 refine rn tk 9 rfl<|al2 hr (fun s5=>[(2,.ptr 2 0),(3,.ptr 3 0),(5,.i s5)]) (fun s5=>[(3,.cells [.s a1.Envelope.From,.l zca.pc a1.Envelope.To,.s a1.Envelope.Id,.l zga.pc a1.Message.Fields,.l cU a1.Message.Body]),(2,.cells [.s a0.Envelope.From,.l zca.pc a0.Envelope.To,.s a0.Envelope.Id,.l zga.pc a0.Message.Fields,.l cU a0.Message.Body])]) (.exit 0) (fun b6=>[(2,.ptr 2 0),(3,.ptr 3 0)]) (fun b6=>[(3,.cells [.s a1.Envelope.From,.l zca.pc a1.Envelope.To,.s a1.Envelope.Id,.l zga.pc a1.Message.Fields,.l cU a1.Message.Body]),(2,.cells [.s a0.Envelope.From,.l zca.pc a0.Envelope.To,.s a0.Envelope.Id,.l zga.pc a0.Message.Fields,.l cU a0.Message.Body])]) .ret (fun b7=>[(4,.bo b7)]) (fun b7=>[]) rfl rfl (fun s5 x9 hr=>?_) (fun b6 hr=>?_) (fun b7 hr=>?_)
 .unfold wWa at hr;refine rn tk 7 rfl<|wn tk rfl rfl rfl<|rn tk 3 rfl<|ac 38 hr rfl (fun c10 hr=>?_) (fun c10 hr=>?_)
  .refine rn tk 5 rfl ?_;obtain ⟨v11,h12,hr⟩:=zaa hr;obtain ⟨v13,h14,hr⟩:=zaa hr;refine dr 12 [(52,.agg [.s v13.Address,.i v13.Notify]),(51,.ep [pS v13.Address,pI v13.Notify]),(50,.i s5),(49,.l zca.pc a1.Envelope.To),(48,.ptr 3 1),(47,.ptr 3 0),(46,.agg [.s v11.Address,.i v11.Notify]),(45,.ep [pS v11.Address,pI v11.Notify]),(44,.i s5),(43,.l zca.pc a0.Envelope.To),(42,.ptr 2 1),(41,.ptr 2 0)] mixed (by kernel_rfl) rfl rfl (pq tk rfl (.plain rfl) (pq tk rfl (.plain rfl) (pq tk rfl (.plain rfl) (pq tk rfl (.plain rfl) (.run (.plain rfl) (zQa (vKa (f:=zca.pc) rfl rfl zDa zBa rfl h12)) (pq tk rfl (.plain rfl) (pq tk rfl (.plain rfl) (pq tk rfl (.plain rfl) (pq tk rfl (.plain rfl) (pq tk rfl (.plain rfl) (.run (.plain rfl) (zQa (vKa (f:=zca.pc) rfl rfl zDa zBa rfl h14)) (pq tk rfl (.plain rfl) .nil)))))))))))) rfl<|wq (jba rfl rfl zBa q8a (.str rfl (by decide) zCa (.int rfl (by decide) zRa .nil))) rfl rfl rfl<|rn tk 2 rfl<|ac 53 hr rfl (fun c15 hr=>?_) (fun c15 hr=>?_)
   .refine rn tk 8 rfl ?_;cases hr;exact ato rfl rfl rfl rfl
   refine rn tk 8 rfl ?_;cases hr;exact atc rfl rfl
  refine rn tk 2 rfl ?_;cases hr;exact ato rfl rfl rfl rfl
 .refine rn tk 8 rfl ?_;obtain ⟨v16,h17,hr⟩:=zaa hr;refine cl (Qea _ _ _ h17) rfl rfl<|rn tk 4 rfl ?_;cases hr;exact kr tk (.inr rfl) rfl rfl
 refine rn tk 2 rfl ?_;cases hr;exact kr tk (.inr rfl) rfl rfl
theorem QDa(a0:zma)(a1:zma)(r:Bool)(hr:wDa a0 a1=some r):Run prog 14 [.agg [.l zba.pc a0.Entries,.i a0.Next],.agg [.l zba.pc a1.Entries,.i a1.Next]] (.bo r):=by
 unfold wDa at hr;refine rf (fn:=Tryz.f14) ⟨func14,rfl,by kernel_rfl⟩ rfl (fun _=>rfl) fun g0 hg=>?_
 refine rn tk 8 rfl<|jb hr (fun j1=>[(2,.ptr 2 0),(3,.ptr 3 0),(22,.bo j1)]) (fun j1=>[(3,.cells [.l zba.pc a1.Entries,.i a1.Next]),(2,.cells [.l zba.pc a0.Entries,.i a0.Next])]) (fun j1 hr=>?_) (fun j1 hr=>?_)
 .refine rn tk 7 rfl<|bs 14 hr rfl (fun c2 hr=>?_) (fun c2 hr=>?_)
  .refine rn tk 9 rfl ?_;cases hr;exact jn _ rfl rfl rfl
  refine rn tk 2 rfl<|ug rfl rfl rfl<|wn tk rfl rfl rfl<|rn tk 2 rfl<|ug rfl rfl rfl<|wn tk rfl rfl rfl<|rn tk 3 rfl ?_;cases hr;exact jn _ rfl rfl rfl
 refine ac 22 hr rfl (fun c3 hr=>?_) (fun c3 hr=>?_)
 .refine rn tk 7 rfl ?_;cases hr;exact kr tk (.inr rfl) rfl rfl
 refine rn tk 9 rfl<|al2 hr (fun s4=>[(2,.ptr 2 0),(3,.ptr 3 0),(5,.i s4)]) (fun s4=>[(3,.cells [.l zba.pc a1.Entries,.i a1.Next]),(2,.cells [.l zba.pc a0.Entries,.i a0.Next])]) (.exit 0) (fun b5=>[]) (fun b5=>[]) .ret (fun b6=>[(4,.bo b6)]) (fun b6=>[]) rfl rfl (fun s4 x8 hr=>?_) (fun b5 hr=>?_) (fun b6 hr=>?_)
 .unfold v6a at hr;refine rn tk 6 rfl<|wn tk rfl rfl rfl<|rn tk 3 rfl<|ac 27 hr rfl (fun c9 hr=>?_) (fun c9 hr=>?_)
  .refine rn tk 9 rfl ?_;obtain ⟨v10,h11,hr⟩:=zaa hr;refine wi tk h11 rfl rfl rfl rfl rfl<|rn tk 10 rfl ?_;obtain ⟨v12,h13,hr⟩:=zaa hr;refine wi tk h13 rfl rfl rfl rfl rfl<|rn tk 6 rfl<|jb hr (fun j14=>[(2,.ptr 2 0),(3,.ptr 3 0),(5,.i s4),(6,.ptr 6 0),(7,.ptr 7 0),(82,.bo j14)]) (fun j14=>[(7,.cells [.i v12.Id,.s v12.Mail.Envelope.From,.l zca.pc v12.Mail.Envelope.To,.s v12.Mail.Envelope.Id,.l zga.pc v12.Mail.Message.Fields,.l cU v12.Mail.Message.Body,.i v12.Since,.i v12.Tries,.i v12.Due,.l zda.pc v12.To]),(6,.cells [.i v10.Id,.s v10.Mail.Envelope.From,.l zca.pc v10.Mail.Envelope.To,.s v10.Mail.Envelope.Id,.l zga.pc v10.Mail.Message.Fields,.l cU v10.Mail.Message.Body,.i v10.Since,.i v10.Tries,.i v10.Due,.l zda.pc v10.To]),(3,.cells [.l zba.pc a1.Entries,.i a1.Next]),(2,.cells [.l zba.pc a0.Entries,.i a0.Next])]) (fun j14 hr=>?_) (fun j14 hr=>?_)
   .refine rn tk 7 rfl<|bs 45 hr rfl (fun c15 hr=>?_) (fun c15 hr=>?_)
    .refine rn tk 38 rfl ?_;cases hr;exact jn _ rfl rfl rfl
    refine rn tk 7 rfl<|bs 52 hr rfl (fun c16 hr=>?_) (fun c16 hr=>?_)
    .refine rn tk 31 rfl ?_;cases hr;exact jn _ rfl rfl rfl
    refine rn tk 7 rfl<|bs 59 hr rfl (fun c17 hr=>?_) (fun c17 hr=>?_)
    .refine rn tk 24 rfl ?_;cases hr;exact jn _ rfl rfl rfl
    refine rn tk 7 rfl<|bs 66 hr rfl (fun c18 hr=>?_) (fun c18 hr=>?_)
    .refine rn tk 17 rfl ?_;cases hr;exact jn _ rfl rfl rfl
    refine rn tk 2 rfl<|ug rfl rfl rfl<|wn tk rfl rfl rfl<|rn tk 2 rfl<|ug rfl rfl rfl<|wn tk rfl rfl rfl<|rn tk 3 rfl<|bs 75 hr rfl (fun c19 hr=>?_) (fun c19 hr=>?_)
    .refine rn tk 8 rfl ?_;cases hr;exact jn _ rfl rfl rfl
    refine rn tk 4 rfl ?_;obtain ⟨v20,h21,hr⟩:=zaa hr;refine ug rfl rfl rfl<|cl (Wca _ _ _ h21) rfl rfl<|rn tk 3 rfl ?_;cases hr;exact jn _ rfl rfl rfl
   refine ac 82 hr rfl (fun c22 hr=>?_) (fun c22 hr=>?_)
   .refine rn tk 9 rfl ?_;cases hr;exact ato rfl rfl rfl rfl
   refine rn tk 8 rfl<|al2 hr (fun s23=>[(2,.ptr 2 0),(3,.ptr 3 0),(5,.i s4),(6,.ptr 6 0),(7,.ptr 7 0),(8,.i s23)]) (fun s23=>[(7,.cells [.i v12.Id,.s v12.Mail.Envelope.From,.l zca.pc v12.Mail.Envelope.To,.s v12.Mail.Envelope.Id,.l zga.pc v12.Mail.Message.Fields,.l cU v12.Mail.Message.Body,.i v12.Since,.i v12.Tries,.i v12.Due,.l zda.pc v12.To]),(6,.cells [.i v10.Id,.s v10.Mail.Envelope.From,.l zca.pc v10.Mail.Envelope.To,.s v10.Mail.Envelope.Id,.l zga.pc v10.Mail.Message.Fields,.l cU v10.Mail.Message.Body,.i v10.Since,.i v10.Tries,.i v10.Due,.l zda.pc v10.To]),(3,.cells [.l zba.pc a1.Entries,.i a1.Next]),(2,.cells [.l zba.pc a0.Entries,.i a0.Next])]) (.exit 2) (fun b24=>[(2,.ptr 2 0),(3,.ptr 3 0),(5,.i s4)]) (fun b24=>[(3,.cells [.l zba.pc a1.Entries,.i a1.Next]),(2,.cells [.l zba.pc a0.Entries,.i a0.Next])]) .ret (fun b25=>[(4,.bo b25)]) (fun b25=>[]) rfl rfl (fun s23 x27 hr=>?_) (fun b24 hr=>?_) (fun b25 hr=>?_)
   .unfold q2a at hr;refine rn tk 6 rfl<|wn tk rfl rfl rfl<|rn tk 3 rfl<|ac 87 hr rfl (fun c28 hr=>?_) (fun c28 hr=>?_)
    .refine rn tk 5 rfl ?_;obtain ⟨v29,h30,hr⟩:=zaa hr;obtain ⟨v31,h32,hr⟩:=zaa hr;refine dr 10 [(99,.agg [.s v31.Recipient.Address,.i v31.Recipient.Notify,.i v31.Result,.bo v31.Busy]),(98,.ep [pS v31.Recipient.Address,pI v31.Recipient.Notify,pI v31.Result,pB v31.Busy]),(97,.i s23),(96,.l zda.pc v12.To),(95,.ptr 7 9),(94,.agg [.s v29.Recipient.Address,.i v29.Recipient.Notify,.i v29.Result,.bo v29.Busy]),(93,.ep [pS v29.Recipient.Address,pI v29.Recipient.Notify,pI v29.Result,pB v29.Busy]),(92,.i s23),(91,.l zda.pc v10.To),(90,.ptr 6 9)] mixed (by kernel_rfl) rfl rfl (pq tk rfl (.plain rfl) (pq tk rfl (.plain rfl) (pq tk rfl (.plain rfl) (.run (.plain rfl) (zQa (vKa (f:=zda.pc) rfl rfl zka zMa rfl h30)) (pq tk rfl (.plain rfl) (pq tk rfl (.plain rfl) (pq tk rfl (.plain rfl) (pq tk rfl (.plain rfl) (.run (.plain rfl) (zQa (vKa (f:=zda.pc) rfl rfl zka zMa rfl h32)) (pq tk rfl (.plain rfl) .nil)))))))))) rfl<|wq (Y0a rfl rfl zMa Vga (.st rfl (by decide) zBa rfl q8a rfl (.str rfl (by decide) zCa (.int rfl (by decide) zRa .nil)) (.int rfl (by decide) zRa (.bool rfl (by decide) yda .nil)))) rfl rfl rfl<|rn tk 2 rfl<|ac 100 hr rfl (fun c33 hr=>?_) (fun c33 hr=>?_)
     .refine rn tk 8 rfl ?_;cases hr;exact ato rfl rfl rfl rfl
     refine rn tk 8 rfl ?_;cases hr;exact atc rfl rfl
    refine rn tk 2 rfl ?_;cases hr;exact ato rfl rfl rfl rfl
   .refine rn tk 8 rfl ?_;cases hr;exact atc rfl rfl
   refine rn tk 3 rfl ?_;cases hr;exact ato rfl rfl rfl rfl
  refine rn tk 2 rfl ?_;cases hr;exact ato rfl rfl rfl rfl
 .refine rn tk 8 rfl ?_;cases hr;exact kr tk (.inr rfl) rfl rfl
 refine rn tk 2 rfl ?_;cases hr;exact kr tk (.inr rfl) rfl rfl
theorem yua(a0:zma)(a1:z0a)(a2:Int)(r:Bool)(hr:kNa a0 a1 a2=some r):Run prog 3 [.agg [.l zba.pc a0.Entries,.i a0.Next],.agg [.s a1.Envelope.From,.l zca.pc a1.Envelope.To,.s a1.Envelope.Id,.l zga.pc a1.Message.Fields,.l cU a1.Message.Body],.i a2] (.bo r):=by
 unfold kNa at hr;refine rf (fn:=Tryz.f3) ⟨func3,rfl,by kernel_rfl⟩ rfl (fun _=>rfl) fun g0 hg=>?_
 refine rn tk 12 rfl ?_;obtain ⟨v1,h2,hr⟩:=zaa hr;refine cl (KIa _ _ _ _ h2) rfl rfl<|rn tk 16 rfl ?_;obtain ⟨v3,h4,hr⟩:=zaa hr;refine cl (JBa _ _ _ _ h4) rfl rfl<|rn tk 11 rfl<|jb hr (fun j5=>[(6,.bo j5)]) (fun j5=>[]) (fun j5 hr=>?_) (fun j5 hr=>?_)
 .obtain ⟨v6,h7,hr⟩:=zaa hr;refine yPa v6 (fun c8=>?_) (fun c8=>?_)
  .replace hr:=QRa c8 hr
   obtain ⟨v9,h10,hr⟩:=zaa hr;obtain ⟨v11,h12,hr⟩:=zaa hr;refine yPa ((kja [(v9.Code==v11.Code),(v9.Index==v11.Index)])) (fun c13=>?_) (fun c13=>?_)
   .replace hr:=QRa c13 hr
    refine yPa ((kja [(v1.2.2.Code==v3.2.2.Code),(v1.2.2.Index==v3.2.2.Index)])) (fun c14=>?_) (fun c14=>?_)
    .replace hr:=QRa c14 hr
     refine yPa ((v1.2.1==v3.2.1)) (fun c15=>?_) (fun c15=>?_)
     .replace hr:=QRa c15 hr
      refine dr 21 [(49,.agg [.l zba.pc v3.1.Entries,.i v3.1.Next]),(48,.agg [.l zba.pc v1.1.Entries,.i v1.1.Next]),(47,.bo ((v1.2.1==v3.2.1))),(46,.bo ((v1.2.1==v3.2.1))),(45,.bo ((v1.2.1==v3.2.1))),(44,.i v3.2.1),(43,.i v1.2.1),(42,.bo ((kja [(v1.2.2.Code==v3.2.2.Code),(v1.2.2.Index==v3.2.2.Index)]))),(41,.bo ((kja [(v1.2.2.Code==v3.2.2.Code),(v1.2.2.Index==v3.2.2.Index)]))),(40,.bo ((kja [(v1.2.2.Code==v3.2.2.Code),(v1.2.2.Index==v3.2.2.Index)]))),(39,.agg [.i v3.2.2.Code,.i v3.2.2.Index]),(38,.agg [.i v1.2.2.Code,.i v1.2.2.Index]),(37,.bo ((kja [(v9.Code==v11.Code),(v9.Index==v11.Index)]))),(36,.bo ((kja [(v9.Code==v11.Code),(v9.Index==v11.Index)]))),(35,.bo ((kja [(v9.Code==v11.Code),(v9.Index==v11.Index)]))),(34,.agg [.i v11.Code,.i v11.Index]),(33,.agg [.l zba.pc a0.Entries,.i a0.Next]),(32,.agg [.i v9.Code,.i v9.Index]),(31,.agg [.l zba.pc a0.Entries,.i a0.Next]),(30,.bo v6),(29,.bo v6)] mixed (by kernel_rfl) rfl rfl (.run (.plain rfl) (z4a (waa v6 h7) rfl) (pq tk rfl (.plain rfl) (pq tk rfl (.yes (d:=30) rfl rfl rfl c8) (.run (.yes (d:=30) rfl rfl rfl c8) (z4a (kha a0 v9 h10) rfl) (pq tk rfl (.yes (d:=30) rfl rfl rfl c8) (.run (.yes (d:=30) rfl rfl rfl c8) (z4a (qpa a0 v11 h12) rfl) (.run (.yes (d:=30) rfl rfl rfl c8) (zQa (qTa rfl rfl qqa qwa (.int rfl (by decide) zRa (.int rfl (by decide) zRa .nil)))) (.run (.plain rfl) (zQa (qRa rfl c8)) (pq tk rfl (.plain rfl) (pq tk rfl (.yes (d:=37) rfl rfl rfl c13) (pq tk rfl (.yes (d:=37) rfl rfl rfl c13) (.run (.yes (d:=37) rfl rfl rfl c13) (zQa (qTa rfl rfl qqa qwa (.int rfl (by decide) zRa (.int rfl (by decide) zRa .nil)))) (.run (.plain rfl) (zQa (qRa rfl c13)) (pq tk rfl (.plain rfl) (pq tk rfl (.yes (d:=42) rfl rfl rfl c14) (pq tk rfl (.yes (d:=42) rfl rfl rfl c14) (pq tk rfl (.yes (d:=42) rfl rfl rfl c14) (.run (.plain rfl) (zQa (qRa rfl c14)) (pq tk rfl (.plain rfl) (pq tk rfl (.yes (d:=47) rfl rfl rfl c15) (pq tk rfl (.yes (d:=47) rfl rfl rfl c15) .nil))))))))))))))))))))) rfl<|kn 47 c15 rfl ?_;obtain ⟨v16,h17,hr⟩:=zaa hr;refine ug rfl rfl rfl<|cl (QDa _ _ _ h17) rfl rfl<|rn tk 3 rfl ?_;cases hr;exact jn _ rfl rfl rfl
     replace hr:=QSa c15 hr
     refine dr 21 [(49,.tup []),(48,.tup []),(47,.bo ((v1.2.1==v3.2.1))),(46,.bo ((v1.2.1==v3.2.1))),(45,.bo ((v1.2.1==v3.2.1))),(44,.i v3.2.1),(43,.i v1.2.1),(42,.bo ((kja [(v1.2.2.Code==v3.2.2.Code),(v1.2.2.Index==v3.2.2.Index)]))),(41,.bo ((kja [(v1.2.2.Code==v3.2.2.Code),(v1.2.2.Index==v3.2.2.Index)]))),(40,.bo ((kja [(v1.2.2.Code==v3.2.2.Code),(v1.2.2.Index==v3.2.2.Index)]))),(39,.agg [.i v3.2.2.Code,.i v3.2.2.Index]),(38,.agg [.i v1.2.2.Code,.i v1.2.2.Index]),(37,.bo ((kja [(v9.Code==v11.Code),(v9.Index==v11.Index)]))),(36,.bo ((kja [(v9.Code==v11.Code),(v9.Index==v11.Index)]))),(35,.bo ((kja [(v9.Code==v11.Code),(v9.Index==v11.Index)]))),(34,.agg [.i v11.Code,.i v11.Index]),(33,.agg [.l zba.pc a0.Entries,.i a0.Next]),(32,.agg [.i v9.Code,.i v9.Index]),(31,.agg [.l zba.pc a0.Entries,.i a0.Next]),(30,.bo v6),(29,.bo v6)] mixed (by kernel_rfl) rfl rfl (.run (.plain rfl) (z4a (waa v6 h7) rfl) (pq tk rfl (.plain rfl) (pq tk rfl (.yes (d:=30) rfl rfl rfl c8) (.run (.yes (d:=30) rfl rfl rfl c8) (z4a (kha a0 v9 h10) rfl) (pq tk rfl (.yes (d:=30) rfl rfl rfl c8) (.run (.yes (d:=30) rfl rfl rfl c8) (z4a (qpa a0 v11 h12) rfl) (.run (.yes (d:=30) rfl rfl rfl c8) (zQa (qTa rfl rfl qqa qwa (.int rfl (by decide) zRa (.int rfl (by decide) zRa .nil)))) (.run (.plain rfl) (zQa (qRa rfl c8)) (pq tk rfl (.plain rfl) (pq tk rfl (.yes (d:=37) rfl rfl rfl c13) (pq tk rfl (.yes (d:=37) rfl rfl rfl c13) (.run (.yes (d:=37) rfl rfl rfl c13) (zQa (qTa rfl rfl qqa qwa (.int rfl (by decide) zRa (.int rfl (by decide) zRa .nil)))) (.run (.plain rfl) (zQa (qRa rfl c13)) (pq tk rfl (.plain rfl) (pq tk rfl (.yes (d:=42) rfl rfl rfl c14) (pq tk rfl (.yes (d:=42) rfl rfl rfl c14) (pq tk rfl (.yes (d:=42) rfl rfl rfl c14) (.run (.plain rfl) (zQa (qRa rfl c14)) (pq tk rfl (.plain rfl) (.skip (.no (d:=47) rfl rfl rfl c15) (.skip (.no (d:=47) rfl rfl rfl c15) .nil))))))))))))))))))))) rfl<|kn 47 c15 rfl<|rn tk 4 rfl ?_;cases hr;exact jn _ rfl rfl rfl
    replace hr:=QSa c14 hr
    refine dr 21 [(49,.tup []),(48,.tup []),(47,.bo false),(46,.bo false),(45,.tup []),(44,.tup []),(43,.tup []),(42,.bo ((kja [(v1.2.2.Code==v3.2.2.Code),(v1.2.2.Index==v3.2.2.Index)]))),(41,.bo ((kja [(v1.2.2.Code==v3.2.2.Code),(v1.2.2.Index==v3.2.2.Index)]))),(40,.bo ((kja [(v1.2.2.Code==v3.2.2.Code),(v1.2.2.Index==v3.2.2.Index)]))),(39,.agg [.i v3.2.2.Code,.i v3.2.2.Index]),(38,.agg [.i v1.2.2.Code,.i v1.2.2.Index]),(37,.bo ((kja [(v9.Code==v11.Code),(v9.Index==v11.Index)]))),(36,.bo ((kja [(v9.Code==v11.Code),(v9.Index==v11.Index)]))),(35,.bo ((kja [(v9.Code==v11.Code),(v9.Index==v11.Index)]))),(34,.agg [.i v11.Code,.i v11.Index]),(33,.agg [.l zba.pc a0.Entries,.i a0.Next]),(32,.agg [.i v9.Code,.i v9.Index]),(31,.agg [.l zba.pc a0.Entries,.i a0.Next]),(30,.bo v6),(29,.bo v6)] mixed (by kernel_rfl) rfl rfl (.run (.plain rfl) (z4a (waa v6 h7) rfl) (pq tk rfl (.plain rfl) (pq tk rfl (.yes (d:=30) rfl rfl rfl c8) (.run (.yes (d:=30) rfl rfl rfl c8) (z4a (kha a0 v9 h10) rfl) (pq tk rfl (.yes (d:=30) rfl rfl rfl c8) (.run (.yes (d:=30) rfl rfl rfl c8) (z4a (qpa a0 v11 h12) rfl) (.run (.yes (d:=30) rfl rfl rfl c8) (zQa (qTa rfl rfl qqa qwa (.int rfl (by decide) zRa (.int rfl (by decide) zRa .nil)))) (.run (.plain rfl) (zQa (qRa rfl c8)) (pq tk rfl (.plain rfl) (pq tk rfl (.yes (d:=37) rfl rfl rfl c13) (pq tk rfl (.yes (d:=37) rfl rfl rfl c13) (.run (.yes (d:=37) rfl rfl rfl c13) (zQa (qTa rfl rfl qqa qwa (.int rfl (by decide) zRa (.int rfl (by decide) zRa .nil)))) (.run (.plain rfl) (zQa (qRa rfl c13)) (pq tk rfl (.plain rfl) (.skip (.no (d:=42) rfl rfl rfl c14) (.skip (.no (d:=42) rfl rfl rfl c14) (.skip (.no (d:=42) rfl rfl rfl c14) (.run (.plain rfl) (zQa (jIa rfl c14)) (pq tk rfl (.plain rfl) (.skip (.no (d:=47) rfl rfl rfl rfl) (.skip (.no (d:=47) rfl rfl rfl rfl) .nil))))))))))))))))))))) rfl<|rn tk 4 rfl ?_;cases hr;exact jn _ rfl rfl rfl
   replace hr:=QSa c13 hr
   refine dr 21 [(49,.tup []),(48,.tup []),(47,.bo false),(46,.bo false),(45,.tup []),(44,.tup []),(43,.tup []),(42,.bo false),(41,.bo false),(40,.tup []),(39,.tup []),(38,.tup []),(37,.bo ((kja [(v9.Code==v11.Code),(v9.Index==v11.Index)]))),(36,.bo ((kja [(v9.Code==v11.Code),(v9.Index==v11.Index)]))),(35,.bo ((kja [(v9.Code==v11.Code),(v9.Index==v11.Index)]))),(34,.agg [.i v11.Code,.i v11.Index]),(33,.agg [.l zba.pc a0.Entries,.i a0.Next]),(32,.agg [.i v9.Code,.i v9.Index]),(31,.agg [.l zba.pc a0.Entries,.i a0.Next]),(30,.bo v6),(29,.bo v6)] mixed (by kernel_rfl) rfl rfl (.run (.plain rfl) (z4a (waa v6 h7) rfl) (pq tk rfl (.plain rfl) (pq tk rfl (.yes (d:=30) rfl rfl rfl c8) (.run (.yes (d:=30) rfl rfl rfl c8) (z4a (kha a0 v9 h10) rfl) (pq tk rfl (.yes (d:=30) rfl rfl rfl c8) (.run (.yes (d:=30) rfl rfl rfl c8) (z4a (qpa a0 v11 h12) rfl) (.run (.yes (d:=30) rfl rfl rfl c8) (zQa (qTa rfl rfl qqa qwa (.int rfl (by decide) zRa (.int rfl (by decide) zRa .nil)))) (.run (.plain rfl) (zQa (qRa rfl c8)) (pq tk rfl (.plain rfl) (.skip (.no (d:=37) rfl rfl rfl c13) (.skip (.no (d:=37) rfl rfl rfl c13) (.skip (.no (d:=37) rfl rfl rfl c13) (.run (.plain rfl) (zQa (jIa rfl c13)) (pq tk rfl (.plain rfl) (.skip (.no (d:=42) rfl rfl rfl rfl) (.skip (.no (d:=42) rfl rfl rfl rfl) (.skip (.no (d:=42) rfl rfl rfl rfl) (pq tk rfl (.plain rfl) (pq tk rfl (.plain rfl) (.skip (.no (d:=47) rfl rfl rfl rfl) (.skip (.no (d:=47) rfl rfl rfl rfl) .nil))))))))))))))))))))) rfl<|rn tk 4 rfl ?_;cases hr;exact jn _ rfl rfl rfl
  replace hr:=QSa c8 hr
  refine dr 21 [(49,.tup []),(48,.tup []),(47,.bo false),(46,.bo false),(45,.tup []),(44,.tup []),(43,.tup []),(42,.bo false),(41,.bo false),(40,.tup []),(39,.tup []),(38,.tup []),(37,.bo false),(36,.bo false),(35,.tup []),(34,.tup []),(33,.tup []),(32,.tup []),(31,.tup []),(30,.bo v6),(29,.bo v6)] mixed (by kernel_rfl) rfl rfl (.run (.plain rfl) (z4a (waa v6 h7) rfl) (pq tk rfl (.plain rfl) (.skip (.no (d:=30) rfl rfl rfl c8) (.skip (.no (d:=30) rfl rfl rfl c8) (.skip (.no (d:=30) rfl rfl rfl c8) (.skip (.no (d:=30) rfl rfl rfl c8) (.skip (.no (d:=30) rfl rfl rfl c8) (.run (.plain rfl) (zQa (jIa rfl c8)) (pq tk rfl (.plain rfl) (.skip (.no (d:=37) rfl rfl rfl rfl) (.skip (.no (d:=37) rfl rfl rfl rfl) (.skip (.no (d:=37) rfl rfl rfl rfl) (pq tk rfl (.plain rfl) (pq tk rfl (.plain rfl) (.skip (.no (d:=42) rfl rfl rfl rfl) (.skip (.no (d:=42) rfl rfl rfl rfl) (.skip (.no (d:=42) rfl rfl rfl rfl) (pq tk rfl (.plain rfl) (pq tk rfl (.plain rfl) (.skip (.no (d:=47) rfl rfl rfl rfl) (.skip (.no (d:=47) rfl rfl rfl rfl) .nil))))))))))))))))))))) rfl<|rn tk 4 rfl ?_;cases hr;exact jn _ rfl rfl rfl
 refine rn tk 1 rfl ?_;cases hr;exact kr tk (.inr rfl) rfl rfl
end Go.Proofs.YtgajlblehdboiaaGreat
namespace Go.Proofs.YtgajlblehdboiaaGreat.queueAddMatchesSpec
open Go.ChangeShapes Go.WideShapes Go.ChangeAt Go.RowKit Go.Proofs.Tryz
theorem contract(H:Type)(enc:TypeId × Value->H)(W:World)(base:Nat)(args:Array Value)(ds gs:List (DataW H))(before:List MemPlace)
 (hval:∀(j:Nat) t v,Tryz.f3.params[j]? =some t->args[j]? =some v->Value.okWide prog W .any base t v)
 (hW:DataW.Whole enc prog Tryz.f3.params.toList Rows.queueAddMatchesSpecSpec.vars false W args.toList ds gs before) (hk:Rows.uptoSmall H (ds++gs)=true) (hgl:Gl (gAll W)):
 Calls prog 3 args W fun e W' =>∃v,e=.returned v/\Rows.queueAddMatchesSpecSpec.post enc prog Tryz.f3 false true false false W args v W' :=by
 have hW' :=hW;obtain ⟨p,q,hA0,hV,rfl,hfz,hnd⟩:=hW;have hA:DataW.TrodAll enc prog W 0 (fun _=>true) true Tryz.f3.params.toList args.toList ds p:=hA0;rw[Tryz.params3]at hA hval;obtain ⟨v0,vs0,d0,ds0,p0,q0,hargs,rfl,rfl,h0,r0⟩:=trodAll_cons hA;obtain ⟨v1,vs1,d1,ds1,p1,q1,rfl,rfl,rfl,h1,r1⟩:=trodAll_cons r0;obtain ⟨v2,vs2,d2,ds2,p2,q2,rfl,rfl,rfl,h2,r2⟩:=trodAll_cons r1;obtain ⟨rfl,rfl,rfl⟩:=trodAll_nil r2;obtain rfl:args= #[v0,v1,v2]:=by cases args;simp_all
 obtain ⟨rfl,rfl⟩:=trodVars_none hV;obtain ⟨a0,e0,o0,k0⟩:=qAb Y8a (by obtain ⟨cs,h,_⟩:=okWide_struct wya.u (hval 0 _ v0 rfl rfl);exact ⟨cs,h⟩) h0;obtain ⟨a1,e1,o1,k1⟩:=qAb ZUa (by obtain ⟨cs,h,_⟩:=okWide_struct kaa.u (hval 1 _ v1 rfl rfl);exact ⟨cs,h⟩) h1;obtain ⟨a2,e2,o2,k2⟩:=arg_one yea (by obtain ⟨_,h⟩:=okWide_int zRa.u (hval 2 _ v2 rfl rfl);rw[h];rfl) h2;have hk2:=of_decide_eq_true hk;simp only[List.append_nil,Rows.uptoBulkAll]at hk2;have ht:=ypa a0 a1 a2 o0 o1 o2 (by (try dsimp only);omega);have key:Calls prog 3 #[v0,v1,v2] W fun e W' =>e=.returned (.bool true)/\Below W.heap.size W W' :=YVa (yua a0 a1 a2 true ht) hgl (kmb (.cons e0 (.cons e1 (.cons (e2 _ rfl) .nil))))
 refine key.mono fun e W' ⟨he,hb⟩=>⟨_,he,?_⟩
 exact qBb laidOut (by kernel_rfl) underlying4 (by kernel_rfl) rfl rfl hW' hb
theorem lifted(os:Os)(started:os.Started)(H:Type)(enc:TypeId × Value->H)(F:Stop.Interp):
 ReturnsInHanded {} Tryz.checked os 3 .any ((Rows.OpenSpec.upto Rows.queueAddMatchesSpecSpec).pre6 enc prog Tryz.f3 Rows.queueAddMatchesSpecUptoRow.domain false) (((Rows.OpenSpec.upto Rows.queueAddMatchesSpecSpec).at F).post enc prog Tryz.f3 false true false false):=by
 refine wua (C:=Tryz.checked) (s:=Rows.OpenSpec.upto Rows.queueAddMatchesSpecSpec) (k:=Rows.uptoSmall) rfl own started (by kernel_rfl) func3
  (OpenSpec.witness (enc:=enc) (C:=Tryz.checked) (s:=Rows.OpenSpec.upto Rows.queueAddMatchesSpecSpec) (k:=Rows.uptoSmall) rfl false ⟨#[], #[.agg #[.slice none 0 0,.int .i64 0],.agg #[.string ⟨#[]⟩,.slice none 0 0,.string ⟨#[]⟩,.slice none 0 0,.slice none 0 0],.int .i64 0],[]⟩ 8 (by kernel_rfl) (by kernel_rfl) (by kernel_rfl)
   (x:=([.agg [.nil,.lit (.int .i64 0)],.agg [.agg [.lit (.string []),.nil,.lit (.string [])],.agg [.nil,.nil]],.lit (.int .i64 0)],[],[])) (by kernel_rfl) rfl (by kernel_rfl)) ?_
 intro W base args ds gs before hval hW _ hk hsh _;exact contract H enc W base args ds gs before hval hW hk (YWa hsh)
theorem over:Rows.queueAddMatchesSpecUptoRow.holds Tryz.pinned (Rows.OpenSpec.upto Rows.queueAddMatchesSpecSpec):=
 OpenClaim.holds_of_cond 3 Tryz.f3 rfl rfl rfl rfl rfl rfl rfl ⟨rfl,rfl,rfl,rfl,rfl⟩ rfl rfl rfl rfl rfl (by kernel_rfl) func3 (by kernel_rfl)
  (of_decide_eq_true (by kernel_rfl)) (by unfold Func.isWrapper;first | (rw[if_pos (by decide+kernel)];kernel_rfl) | (rw[if_neg (by decide+kernel)];exact ⟨rfl,rfl⟩))
  (fun os started H enc _ F=>lifted os started H enc F)
theorem proved:Rows.QueueAddMatchesSpecUptoSaid:=over
#print axioms proved
end Go.Proofs.YtgajlblehdboiaaGreat.queueAddMatchesSpec
