/- The law QueueReadyMatchesSpec holds for every input of bulk up to the given bound: it returns true and leaves its arguments as they were. Written by program. -/
import Derived.Test.YtgajlblehdboiaaGreatKQueueReadyMatchesSpec5
set_option linter.unusedVariables false
set_option linter.unusedSimpArgs false
set_option maxRecDepth 100000
set_option maxHeartbeats 40000000
namespace Go.Proofs.YtgajlblehdboiaaGreat
open Go.RowKit Go.Proofs.Tryz
theorem Y0a(r:Bool)(hr:jZa=some r):Run prog 11 [] (.bo r):=by
 unfold jZa at hr;refine rf (fn:=f11) ⟨func11,rfl,by kernel_rfl⟩ rfl (fun _=>rfl) fun g0 hg=>?_
 refine rn tk 7 rfl ?_;obtain ⟨v1,h2,hr⟩:=zaa hr;refine cl (JWa _ h2) rfl rfl<|rn tk 7 rfl ?_;obtain ⟨v3,h4,hr⟩:=zaa hr;refine cl (Zba _ _ _ h4) rfl rfl<|rn tk 9 rfl<|jb hr (fun j5=>[(1,.ptr 1 0),(2,.l zea.pc v3.1),(28,.bo j5)]) (fun j5=>[(1,.cells [.l zba.pc v1.Entries,.i v1.Next])]) (fun j5 hr=>?_) (fun j5 hr=>?_)
 .refine rn tk 5 rfl<|bs 18 hr rfl (fun c6 hr=>?_) (fun c6 hr=>?_)
  .refine rn tk 11 rfl ?_;cases hr;exact jn _ rfl rfl rfl
  refine rn tk 1 rfl<|ug rfl rfl rfl<|wn tk rfl rfl rfl<|rn tk 3 rfl<|bs 23 hr rfl (fun c7 hr=>?_) (fun c7 hr=>?_)
  .refine rn tk 6 rfl ?_;cases hr;exact jn _ rfl rfl rfl
  refine rn tk 2 rfl<|ug rfl rfl rfl<|wn tk rfl rfl rfl<|rn tk 3 rfl ?_;cases hr;exact jn _ rfl rfl rfl
 refine ac 28 hr rfl (fun c8 hr=>?_) (fun c8 hr=>?_)
 .refine rn tk 7 rfl ?_;cases hr;exact kr tk (.inr rfl) rfl rfl
 refine rn tk 3 rfl ?_;obtain ⟨v9,h10,hr⟩:=zaa hr;obtain ⟨v11,h12,hr⟩:=zaa hr;refine drX 10 11 3 3 [7] [(5,.ptr 5 0),(4,.ptr 4 0),(36,.agg [.i v11.2.Code,.i v11.2.Index]),(35,.agg [.l zba.pc v11.1.Entries,.i v11.1.Next]),(29,.tup [.agg [.l zba.pc v11.1.Entries,.i v11.1.Next],.agg [.i v11.2.Code,.i v11.2.Index]]),(34,.tup [.agg [.l zba.pc v11.1.Entries,.i v11.1.Next],.agg [.i v11.2.Code,.i v11.2.Index]]),(33,.agg [.i v9.Entry,.s v9.Domain,.l cI v9.To]),(32,.ep [pI v9.Entry,pS v9.Domain,pL cI v9.To]),(31,.l zea.pc v3.1),(30,.agg [.l zba.pc v1.Entries,.i v1.Next])] [(2,.l zea.pc v3.1),(4,.ptr 4 0),(5,.ptr 5 0),(36,.agg [.i v11.2.Code,.i v11.2.Index])] [(5,.cells [.i 0,.i 0]),(4,.cells [.l zba.pc v11.1.Entries,.i v11.1.Next]),(1,.cells [.l zba.pc v1.Entries,.i v1.Next])] tk mixed (by kernel_rfl) rfl rfl rfl (pqX tk rfl (.plain rfl) (pqX tk rfl (.plain rfl) (.run (.plain rfl) (zJa (kKa (f:=zea.pc) rfl rfl zBa zIa rfl h10)) (pqX tk rfl (.plain rfl) (.run (.plain rfl) (qLa (Wna v1 v9 v11 h12) rfl) (pqX tk rfl (.plain rfl) (pqX tk rfl (.plain rfl) (pqX tk rfl (.plain rfl) (pnX 4 tk rfl rfl rfl (.plain rfl) (pnX 5 tk rfl rfl rfl (.plain rfl) .nil)))))))))) rfl rfl rfl rfl (by kernel_rfl)<|rn tk 4 rfl ?_;obtain ⟨v13,h14,hr⟩:=zaa hr;obtain ⟨v15,h16,hr⟩:=zaa hr;refine drX 12 14 5 14 [8,9] [(8,.ptr 8 0),(6,.ptr 6 0),(46,.agg [.i v15.2.2.Code,.i v15.2.2.Index]),(45,.l zra.pc v15.2.1),(44,.agg [.l zba.pc v15.1.Entries,.i v15.1.Next]),(37,.tup [.agg [.l zba.pc v15.1.Entries,.i v15.1.Next],.l zra.pc v15.2.1,.agg [.i v15.2.2.Code,.i v15.2.2.Index]]),(43,.tup [.agg [.l zba.pc v15.1.Entries,.i v15.1.Next],.l zra.pc v15.2.1,.agg [.i v15.2.2.Code,.i v15.2.2.Index]]),(42,.l cI (([1,2]:List Int))),(41,.agg [.i v13.Entry,.s v13.Domain,.l cI v13.To]),(40,.ep [pI v13.Entry,pS v13.Domain,pL cI v13.To]),(39,.l zea.pc v3.1),(38,.agg [.l zba.pc v11.1.Entries,.i v11.1.Next])] [(2,.l zea.pc v3.1),(5,.ptr 5 0),(6,.ptr 6 0),(7,.l zra.pc v15.2.1),(8,.ptr 8 0),(46,.agg [.i v15.2.2.Code,.i v15.2.2.Index])] [(8,.cells [.i 0,.i 0]),(6,.cells [.l zba.pc v15.1.Entries,.i v15.1.Next]),(5,.cells [.i v11.2.Code,.i v11.2.Index]),(4,.cells [.l zba.pc v11.1.Entries,.i v11.1.Next]),(1,.cells [.l zba.pc v1.Entries,.i v1.Next])] tk mixed (by kernel_rfl) rfl rfl rfl (pqX tk rfl (.plain rfl) (pqX tk rfl (.plain rfl) (.run (.plain rfl) (zJa (kKa (f:=zea.pc) rfl rfl zBa zIa rfl h14)) (pqX tk rfl (.plain rfl) (.run (.plain rfl) (yKa (F:=cI) (l:=([1,2]:List Int)) woa z8a rfl (fun _=>rfl) rfl rfl) (.run (.plain rfl) (qLa (Wma v11.1 v13 (([1,2]:List Int)) 10 v15 h16) rfl) (pqX tk rfl (.plain rfl) (pqX tk rfl (.plain rfl) (pqX tk rfl (.plain rfl) (pqX tk rfl (.plain rfl) (pnX 6 tk rfl rfl rfl (.plain rfl) (pnX 8 tk rfl rfl rfl (.plain rfl) .nil)))))))))))) rfl rfl rfl rfl (by kernel_rfl)<|rn tk 4 rfl<|jb hr (fun j17=>[(2,.l zea.pc v3.1),(6,.ptr 6 0),(7,.l zra.pc v15.2.1),(65,.bo j17)]) (fun j17=>[(6,.cells [.l zba.pc v15.1.Entries,.i v15.1.Next])]) (fun j17 hr=>?_) (fun j17 hr=>?_)
 .refine rn tk 5 rfl<|bs 50 hr rfl (fun c18 hr=>?_) (fun c18 hr=>?_)
  .refine rn tk 16 rfl ?_;cases hr;exact jn _ rfl rfl rfl
  refine rn tk 5 rfl<|bs 55 hr rfl (fun c19 hr=>?_) (fun c19 hr=>?_)
  .refine rn tk 11 rfl ?_;cases hr;exact jn _ rfl rfl rfl
  refine rn tk 2 rfl<|ug rfl rfl rfl<|wn tk rfl rfl rfl<|rn tk 3 rfl<|bs 61 hr rfl (fun c20 hr=>?_) (fun c20 hr=>?_)
  .refine rn tk 5 rfl ?_;cases hr;exact jn _ rfl rfl rfl
  refine rn tk 1 rfl<|ug rfl rfl rfl<|wn tk rfl rfl rfl<|rn tk 3 rfl ?_;cases hr;exact jn _ rfl rfl rfl
 refine ac 65 hr rfl (fun c21 hr=>?_) (fun c21 hr=>?_)
 .refine rn tk 7 rfl ?_;cases hr;exact kr tk (.inr rfl) rfl rfl
 refine rn tk 2 rfl<|jb hr (fun j22=>[(0,.bo j22)]) (fun j22=>[]) (fun j22 hr=>?_) (fun j22 hr=>?_)
 .refine rn tk 2 rfl ?_;obtain ⟨v23,h24,hr⟩:=zaa hr;refine wi tk h24 rfl rfl rfl rfl rfl<|rn tk 4 rfl<|bs 71 hr rfl (fun c25 hr=>?_) (fun c25 hr=>?_)
  .refine rn tk 1 rfl ?_;obtain ⟨v26,h27,hr⟩:=zaa hr;refine ug rfl rfl rfl<|wi tk h27 rfl rfl rfl rfl rfl<|rn tk 2 rfl<|ug rfl rfl rfl<|wz cI ([0,1]:List Int) tk rfl rfl (fun _=>rfl) rfl rfl rfl ?_;obtain ⟨v28,h29,hr⟩:=zaa hr;refine ug rfl rfl rfl<|cl (W2a _ _ _ h29) rfl rfl<|rn tk 2 rfl<|bs 79 hr rfl (fun c30 hr=>?_) (fun c30 hr=>?_)
   .refine rn tk 1 rfl ?_;obtain ⟨v31,h32,hr⟩:=zaa hr;refine ug rfl rfl rfl<|wi tk h32 rfl rfl rfl rfl rfl<|rn tk 2 rfl<|ug rfl rfl rfl<|wq (QXa rfl rfl ZHa Vka (.int rfl (by decide) z8a (.int rfl (by decide) z8a (.int rfl (by decide) z8a .nil)))) rfl rfl rfl<|rn tk 2 rfl<|bs 86 hr rfl (fun c33 hr=>?_) (fun c33 hr=>?_)
    .refine rn tk 2 rfl ?_;obtain ⟨v34,h35,hr⟩:=zaa hr;refine ug rfl rfl rfl<|wi tk h35 rfl rfl rfl rfl rfl<|rn tk 5 rfl<|bs 94 hr rfl (fun c36 hr=>?_) (fun c36 hr=>?_)
     .refine rn tk 2 rfl ?_;obtain ⟨v37,h38,hr⟩:=zaa hr;refine ug rfl rfl rfl<|wi tk h38 rfl rfl rfl rfl rfl<|rn tk 6 rfl ?_;cases hr;exact jn _ rfl rfl rfl
     refine rn tk 9 rfl ?_;cases hr;exact jn _ rfl rfl rfl
    refine rn tk 17 rfl ?_;cases hr;exact jn _ rfl rfl rfl
   refine rn tk 24 rfl ?_;cases hr;exact jn _ rfl rfl rfl
  refine rn tk 32 rfl ?_;cases hr;exact jn _ rfl rfl rfl
 refine rn tk 1 rfl ?_;cases hr;exact kr tk (.inr rfl) rfl rfl
theorem W4a(a0:Str)(r:Int)(hr:WHa a0=some r):Run prog 107 [.s a0] (.i r):=by
 unfold WHa at hr;refine rf (fn:=f107) ⟨func107,rfl,by kernel_rfl⟩ rfl (fun _=>rfl) fun g0 hg=>?_
 refine rn tk 12 rfl<|al2 hr (fun s1=>[(0,.s a0),(3,.i s1)]) (fun s1=>[]) (.exit 0) (fun b2=>[(0,.s a0)]) (fun b2=>[]) .ret (fun b3=>[(2,.i b3)]) (fun b3=>[]) rfl rfl (fun s1 x5 hr=>?_) (fun b2 hr=>?_) (fun b3 hr=>?_)
 .unfold Ksa at hr;refine rn tk 9 rfl<|ac 7 hr rfl (fun c6 hr=>?_) (fun c6 hr=>?_)
  .refine rn tk 8 rfl ?_;obtain ⟨v7,h8,hr⟩:=zaa hr;refine ws tk h8 rfl rfl rfl rfl<|rn tk 3 rfl<|ac 13 hr rfl (fun c9 hr=>?_) (fun c9 hr=>?_)
   .refine rn tk 9 rfl ?_;cases hr;exact ato rfl rfl rfl rfl
   refine rn tk 8 rfl ?_;cases hr;exact atc rfl rfl
  refine rn tk 2 rfl ?_;cases hr;exact ato rfl rfl rfl rfl
 .refine rn tk 10 rfl ?_;cases hr;exact kr tk (.inr rfl) rfl rfl
 refine rn tk 2 rfl ?_;cases hr;exact kr tk (.inr rfl) rfl rfl
theorem Woa(a0:Str)(r:Str)(hr:yWa a0=some r):Run prog 80 [.s a0] (.s r):=by
 unfold yWa at hr;refine rf (fn:=f80) ⟨func80,rfl,by kernel_rfl⟩ rfl (fun _=>rfl) fun g0 hg=>?_
 refine rn tk 8 rfl ?_;obtain ⟨v1,h2,hr⟩:=zaa hr;refine cl (W4a _ _ h2) rfl rfl<|rn tk 12 rfl<|ac 9 hr rfl (fun c3 hr=>?_) (fun c3 hr=>?_)
 .refine rn tk 7 rfl ?_;cases hr;exact kr tk (.inr rfl) rfl rfl
 refine rn tk 7 rfl ?_;obtain ⟨v4,h5,hr⟩:=zaa hr;refine wscL tk h5 rfl rfl rfl rfl<|rn tk 4 rfl ?_;cases hr;exact kr tk (.inr rfl) rfl rfl
theorem jua(a0:zba)(a1:Int)(r:Str)(hr:yla a0 a1=some r):Run prog 52 [.agg [.i a0.Id,.s a0.Mail.Envelope.From,.l zca.pc a0.Mail.Envelope.To,.s a0.Mail.Envelope.Id,.l zha.pc a0.Mail.Message.Fields,.l cU a0.Mail.Message.Body,.i a0.Since,.i a0.Tries,.i a0.Due,.l zda.pc a0.To],.i a1] (.s r):=by
 unfold yla at hr;refine rf (fn:=f52) ⟨func52,rfl,by kernel_rfl⟩ rfl (fun _=>rfl) fun g0 hg=>?_
 refine rn tk 11 rfl ?_;obtain ⟨v1,h2,hr⟩:=zaa hr;refine wi tk h2 rfl rfl rfl rfl rfl<|rn tk 3 rfl ?_;obtain ⟨v3,h4,hr⟩:=zaa hr;refine cl (Woa _ _ h4) rfl rfl<|rn tk 4 rfl ?_;cases hr;exact kr tk (.inr rfl) rfl rfl
theorem Zca(a0:zba)(a1:Str)(r:Bool)(hr:wfa a0 a1=some r):Run prog 54 [.agg [.i a0.Id,.s a0.Mail.Envelope.From,.l zca.pc a0.Mail.Envelope.To,.s a0.Mail.Envelope.Id,.l zha.pc a0.Mail.Message.Fields,.l cU a0.Mail.Message.Body,.i a0.Since,.i a0.Tries,.i a0.Due,.l zda.pc a0.To],.s a1] (.bo r):=by
 unfold wfa at hr;refine rf (fn:=f54) ⟨func54,rfl,by kernel_rfl⟩ rfl (fun _=>rfl) fun g0 hg=>?_
 refine rn tk 13 rfl<|al2 hr (fun s1=>[(1,.s a1),(2,.ptr 2 0),(5,.i s1)]) (fun s1=>[(2,.cells [.i a0.Id,.s a0.Mail.Envelope.From,.l zca.pc a0.Mail.Envelope.To,.s a0.Mail.Envelope.Id,.l zha.pc a0.Mail.Message.Fields,.l cU a0.Mail.Message.Body,.i a0.Since,.i a0.Tries,.i a0.Due,.l zda.pc a0.To])]) (.exit 0) (fun b2=>[]) (fun b2=>[]) .ret (fun b3=>[(4,.bo b3)]) (fun b3=>[]) rfl rfl (fun s1 x5 hr=>?_) (fun b2 hr=>?_) (fun b3 hr=>?_)
 .unfold wpa at hr;refine rn tk 6 rfl<|wn tk rfl rfl rfl<|rn tk 3 rfl<|ac 10 hr rfl (fun c6 hr=>?_) (fun c6 hr=>?_)
  .refine rn tk 4 rfl<|jb hr (fun j7=>[(1,.s a1),(2,.ptr 2 0),(5,.i s1),(25,.bo j7)]) (fun j7=>[(2,.cells [.i a0.Id,.s a0.Mail.Envelope.From,.l zca.pc a0.Mail.Envelope.To,.s a0.Mail.Envelope.Id,.l zha.pc a0.Mail.Message.Fields,.l cU a0.Mail.Message.Body,.i a0.Since,.i a0.Tries,.i a0.Due,.l zda.pc a0.To])]) (fun j7 hr=>?_) (fun j7 hr=>?_)
   .refine rn tk 4 rfl ?_;obtain ⟨v8,h9,hr⟩:=zaa hr;refine wi tk h9 rfl rfl rfl rfl rfl<|rn tk 3 rfl<|bs 19 hr rfl (fun c10 hr=>?_) (fun c10 hr=>?_)
    .refine rn tk 2 rfl ?_;obtain ⟨v11,h12,hr⟩:=zaa hr;refine ug rfl rfl rfl<|cl (jua _ _ _ h12) rfl rfl<|rn tk 4 rfl ?_;cases hr;exact jn _ rfl rfl rfl
    refine rn tk 7 rfl ?_;cases hr;exact jn _ rfl rfl rfl
   refine ac 25 hr rfl (fun c13 hr=>?_) (fun c13 hr=>?_)
   .refine rn tk 8 rfl ?_;cases hr;exact ato rfl rfl rfl rfl
   refine rn tk 8 rfl ?_;cases hr;exact atc rfl rfl
  refine rn tk 2 rfl ?_;cases hr;exact ato rfl rfl rfl rfl
 .refine rn tk 8 rfl ?_;cases hr;exact kr tk (.inr rfl) rfl rfl
 refine rn tk 2 rfl ?_;cases hr;exact kr tk (.inr rfl) rfl rfl
theorem VSa(a0:zna)(a1:Str)(r:Int)(hr:yma a0 a1=some r):Run prog 20 [.agg [.l zba.pc a0.Entries,.i a0.Next],.s a1] (.i r):=by
 unfold yma at hr;refine rf (fn:=Tryz.f20) ⟨func20,rfl,by kernel_rfl⟩ rfl (fun _=>rfl) fun g0 hg=>?_
 refine rn tk 18 rfl<|al1 hr (fun s1=>[(1,.s a1),(2,.ptr 2 0),(5,.i s1.1),(6,.i s1.2)]) (fun s1=>[(2,.cells [.l zba.pc a0.Entries,.i a0.Next])]) (.exit 0) (fun b2=>[(5,.i b2)]) (fun b2=>[]) rfl rfl (fun s1 x3 hr=>?_) (fun b2 hr=>?_)
 .unfold vta at hr;refine rn tk 6 rfl<|wn tk rfl rfl rfl<|rn tk 3 rfl<|ac 11 hr rfl (fun c4 hr=>?_) (fun c4 hr=>?_)
  .refine rn tk 2 rfl<|jb hr (fun j5=>[(1,.s a1),(2,.ptr 2 0),(5,.i j5),(6,.i s1.2)]) (fun j5=>[(2,.cells [.l zba.pc a0.Entries,.i a0.Next])]) (fun j5 hr=>?_) (fun j5 hr=>?_)
   .refine rn tk 6 rfl ?_;obtain ⟨v6,h7,hr⟩:=zaa hr;refine wi tk h7 rfl rfl rfl rfl rfl<|rn tk 2 rfl ?_;obtain ⟨v8,h9,hr⟩:=zaa hr;refine cl (Zca _ _ _ h9) rfl rfl<|rn tk 2 rfl<|ac 20 hr rfl (fun c10 hr=>?_) (fun c10 hr=>?_)
    .refine rn tk 6 rfl ?_;cases hr;exact jn _ rfl rfl rfl
    refine rn tk 2 rfl ?_;cases hr;exact jn _ rfl rfl rfl
   refine rn tk 5 rfl ?_;cases hr;exact atc rfl rfl
  refine rn tk 2 rfl ?_;cases hr;exact ato rfl rfl rfl rfl
 refine rn tk 9 rfl ?_;cases hr;exact kr tk (.inr rfl) rfl rfl
theorem jDa(a0:zba)(r:Int)(hr:vJa a0=some r):Run prog 41 [.agg [.i a0.Id,.s a0.Mail.Envelope.From,.l zca.pc a0.Mail.Envelope.To,.s a0.Mail.Envelope.Id,.l zha.pc a0.Mail.Message.Fields,.l cU a0.Mail.Message.Body,.i a0.Since,.i a0.Tries,.i a0.Due,.l zda.pc a0.To]] (.i r):=by
 unfold vJa at hr;refine rf (fn:=f41) ⟨func41,rfl,by kernel_rfl⟩ rfl (fun _=>rfl) fun g0 hg=>?_
 refine rn tk 20 rfl<|wn tk rfl rfl rfl<|rn tk 1 rfl<|wn tk rfl rfl rfl<|rn tk 3 rfl<|ac 16 hr rfl (fun c1 hr=>?_) (fun c1 hr=>?_)
 .refine rn tk 7 rfl ?_;cases hr;exact kr tk (.inr rfl) rfl rfl
 refine rn tk 14 rfl<|al2 hr (fun s2=>[(1,.ptr 1 0),(3,.l zca.pc a0.Mail.Envelope.To),(4,.i s2.1),(5,.i s2.2)]) (fun s2=>[(1,.cells [.i a0.Id,.s a0.Mail.Envelope.From,.l zca.pc a0.Mail.Envelope.To,.s a0.Mail.Envelope.Id,.l zha.pc a0.Mail.Message.Fields,.l cU a0.Mail.Message.Body,.i a0.Since,.i a0.Tries,.i a0.Due,.l zda.pc a0.To])]) (.exit 0) (fun b3=>[(4,.i b3)]) (fun b3=>[]) .ret (fun b4=>[(2,.i b4)]) (fun b4=>[]) rfl rfl (fun s2 x6 hr=>?_) (fun b3 hr=>?_) (fun b4 hr=>?_)
 .unfold qoa at hr;refine rn tk 5 rfl<|wn tk rfl rfl rfl<|rn tk 3 rfl<|ac 20 hr rfl (fun c7 hr=>?_) (fun c7 hr=>?_)
  .refine rn tk 2 rfl<|jk (fun j8=>[(1,.ptr 1 0),(3,.l zca.pc a0.Mail.Envelope.To),(4,.i j8),(5,.i s2.2)]) (fun j8=>[(1,.cells [.i a0.Id,.s a0.Mail.Envelope.From,.l zca.pc a0.Mail.Envelope.To,.s a0.Mail.Envelope.Id,.l zha.pc a0.Mail.Message.Fields,.l cU a0.Mail.Message.Body,.i a0.Since,.i a0.Tries,.i a0.Due,.l zda.pc a0.To])]) (fun j8=>qYa s2 j8=some x6) ?_ ?_
   .refine rn tk 6 rfl ?_;obtain ⟨v9,h10,hr⟩:=zaa hr;refine wi tk h10 rfl rfl rfl rfl rfl<|rn tk 6 rfl<|jb hr (fun j11=>[(1,.ptr 1 0),(3,.l zca.pc a0.Mail.Envelope.To),(4,.i s2.1),(5,.i s2.2),(6,.ptr 6 0),(58,.bo j11)]) (fun j11=>[(6,.cells [.s v9.Recipient.Address,.i v9.Recipient.Notify,.i v9.Result,.bo v9.Busy]),(1,.cells [.i a0.Id,.s a0.Mail.Envelope.From,.l zca.pc a0.Mail.Envelope.To,.s a0.Mail.Envelope.Id,.l zha.pc a0.Mail.Message.Fields,.l cU a0.Mail.Message.Body,.i a0.Since,.i a0.Tries,.i a0.Due,.l zda.pc a0.To])]) (fun j11 hr=>?_) (fun j11 hr=>?_)
    .obtain ⟨v12,h13,hr⟩:=zaa hr;refine dr 6 [(33,.agg [.s v12.Address,.i v12.Notify]),(32,.ep [pS v12.Address,pI v12.Notify]),(31,.i s2.2),(30,.l zca.pc a0.Mail.Envelope.To),(29,.agg [.s v9.Recipient.Address,.i v9.Recipient.Notify]),(28,.ptr 6 0)] mixed (by kernel_rfl) rfl rfl (pq tk rfl (.plain rfl) (pq tk rfl (.plain rfl) (pq tk rfl (.plain rfl) (pq tk rfl (.plain rfl) (.run (.plain rfl) (zJa (kKa (f:=zca.pc) rfl rfl zSa zVa rfl h13)) (pq tk rfl (.plain rfl) .nil)))))) rfl<|wq (QYa rfl rfl zVa ySa (.str rfl (by decide) zHa (.int rfl (by decide) z8a .nil))) rfl rfl rfl<|rn tk 1 rfl<|bs 35 hr rfl (fun c14 hr=>?_) (fun c14 hr=>?_)
     .refine rn tk 24 rfl ?_;cases hr;exact jn _ rfl rfl rfl
     refine rn tk 4 rfl<|bs 39 hr rfl (fun c15 hr=>?_) (fun c15 hr=>?_)
     .refine rn tk 5 rfl<|bs 44 hr rfl (fun c16 hr=>?_) (fun c16 hr=>?_)
      .refine rn tk 6 rfl<|bs 50 hr rfl (fun c17 hr=>?_) (fun c17 hr=>?_)
       .refine rn tk 9 rfl ?_;cases hr;exact jn _ rfl rfl rfl
       refine rn tk 3 rfl<|bs 53 hr rfl (fun c18 hr=>?_) (fun c18 hr=>?_)
       .refine rn tk 6 rfl ?_;cases hr;exact jn _ rfl rfl rfl
       refine rn tk 6 rfl ?_;cases hr;exact jn _ rfl rfl rfl
      refine rn tk 9 rfl<|bs 53 hr rfl (fun c19 hr=>?_) (fun c19 hr=>?_)
      .refine rn tk 6 rfl ?_;cases hr;exact jn _ rfl rfl rfl
      refine rn tk 6 rfl ?_;cases hr;exact jn _ rfl rfl rfl
     refine rn tk 14 rfl<|bs 53 hr rfl (fun c20 hr=>?_) (fun c20 hr=>?_)
     .refine rn tk 6 rfl ?_;cases hr;exact jn _ rfl rfl rfl
     refine rn tk 6 rfl ?_;cases hr;exact jn _ rfl rfl rfl
    refine ac 58 hr rfl (fun c21 hr=>?_) (fun c21 hr=>?_)
    .refine rn tk 9 rfl ?_;cases hr;exact ato rfl rfl rfl rfl
    refine rn tk 9 rfl<|ac 61 hr rfl (fun c22 hr=>?_) (fun c22 hr=>?_)
    .refine rn tk 6 rfl<|jn ((w64 (s2.1+1))) hr rfl rfl
    refine rn tk 2 rfl<|jn s2.1 hr rfl rfl
   intro j8 hr;unfold qYa at hr;refine rn tk 5 rfl ?_;cases hr;exact atc rfl rfl
  refine rn tk 2 rfl ?_;cases hr;exact ato rfl rfl rfl rfl
 .refine rn tk 9 rfl<|ac 65 hr rfl (fun c23 hr=>?_) (fun c23 hr=>?_)
  .refine rn tk 7 rfl ?_;cases hr;exact kr tk (.inr rfl) rfl rfl
  refine rn tk 8 rfl ?_;cases hr;exact kr tk (.inr rfl) rfl rfl
 refine rn tk 2 rfl ?_;cases hr;exact kr tk (.inr rfl) rfl rfl
theorem qca(a0:Int)(a1:Int)(a2:Int)(r:Bool)(hr:R_In a0 a1 a2=some r):Run prog 21 [.i a0,.i a1,.i a2] (.bo r):=by
 unfold R_In at hr;refine rf (fn:=Tryz.f21) ⟨func21,rfl,by kernel_rfl⟩ rfl (fun _=>rfl) fun g0 hg=>?_
 refine rn tk 5 rfl<|jb hr (fun j1=>[(6,.bo j1)]) (fun j1=>[]) (fun j1 hr=>?_) (fun j1 hr=>?_)
 .refine rn tk 5 rfl<|bs 10 hr rfl (fun c2 hr=>?_) (fun c2 hr=>?_)
  .refine rn tk 6 rfl ?_;cases hr;exact jn _ rfl rfl rfl
  refine rn tk 6 rfl ?_;cases hr;exact jn _ rfl rfl rfl
 refine rn tk 1 rfl ?_;cases hr;exact kr tk (.inr rfl) rfl rfl
theorem yMa(a0:Int)(r:Bool)(hr:wea a0=some r):Run prog 36 [.i a0] (.bo r):=by
 unfold wea at hr;refine rf (fn:=f36) ⟨func36,rfl,by kernel_rfl⟩ rfl (fun _=>rfl) fun g0 hg=>?_
 refine rn tk 8 rfl ?_;obtain ⟨v1,h2,hr⟩:=zaa hr;refine cl (qca _ _ _ _ h2) rfl rfl<|rn tk 4 rfl ?_;cases hr;exact kr tk (.inr rfl) rfl rfl
theorem kCa(a0:Int)(a1:Int)(r:zpa)(hr:R_At a0 a1=some r):Run prog 35 [.i a0,.i a1] (.agg [.i r.Code,.i r.Index]):=by
 unfold R_At at hr;refine rf (fn:=f35) ⟨func35,rfl,by kernel_rfl⟩ rfl (fun _=>rfl) fun g0 hg=>?_
 refine rn tk 14 rfl ?_;cases hr;exact kr tk (.inr rfl) rfl rfl
theorem Wpa(a0:Str)(r:Bool)(hr:yUa a0=some r):Run prog 118 [.s a0] (.bo r):=by
 unfold yUa at hr;refine rf (fn:=f118) ⟨func118,rfl,by kernel_rfl⟩ rfl (fun _=>rfl) fun g0 hg=>?_
 refine rn tk 12 rfl<|al2 hr (fun s1=>[(0,.s a0),(3,.i s1)]) (fun s1=>[]) (.exit 0) (fun b2=>[(0,.s a0)]) (fun b2=>[]) .ret (fun b3=>[(2,.bo b3)]) (fun b3=>[]) rfl rfl (fun s1 x5 hr=>?_) (fun b2 hr=>?_) (fun b3 hr=>?_)
 .unfold qta at hr;refine rn tk 9 rfl<|ac 8 hr rfl (fun c6 hr=>?_) (fun c6 hr=>?_)
  .refine rn tk 8 rfl ?_;obtain ⟨v7,h8,hr⟩:=zaa hr;refine ws tk h8 rfl rfl rfl rfl<|wu tk rfl rfl rfl<|rn tk 4 rfl<|jb hr (fun j9=>[(0,.s a0),(3,.i s1),(4,.i ((v7.toNat:Int))),(36,.bo j9)]) (fun j9=>[]) (fun j9 hr=>?_) (fun j9 hr=>?_)
   .refine rn tk 3 rfl ?_;obtain ⟨v10,h11,hr⟩:=zaa hr;refine ws tk h11 rfl rfl rfl rfl<|rn tk 2 rfl<|bs 19 hr rfl (fun c12 hr=>?_) (fun c12 hr=>?_)
    .refine rn tk 3 rfl<|bs 22 hr rfl (fun c13 hr=>?_) (fun c13 hr=>?_)
     .refine rn tk 15 rfl ?_;cases hr;exact jn _ rfl rfl rfl
     refine rn tk 7 rfl<|bs 29 hr rfl (fun c14 hr=>?_) (fun c14 hr=>?_)
     .refine rn tk 8 rfl ?_;cases hr;exact jn _ rfl rfl rfl
     refine rn tk 3 rfl ?_;obtain ⟨v15,h16,hr⟩:=zaa hr;refine ug rfl rfl rfl<|ws tk h16 rfl rfl rfl rfl<|rn tk 4 rfl ?_;cases hr;exact jn _ rfl rfl rfl
    refine rn tk 18 rfl ?_;cases hr;exact jn _ rfl rfl rfl
   refine ac 36 hr rfl (fun c17 hr=>?_) (fun c17 hr=>?_)
   .refine rn tk 9 rfl ?_;cases hr;exact ato rfl rfl rfl rfl
   refine rn tk 2 rfl<|jb hr (fun j18=>[(0,.s a0),(3,.i s1),(56,.bo j18)]) (fun j18=>[]) (fun j18 hr=>?_) (fun j18 hr=>?_)
   .refine rn tk 2 rfl ?_;obtain ⟨v19,h20,hr⟩:=zaa hr;refine cl (qca _ _ _ _ h20) rfl rfl<|rn tk 2 rfl<|bs 40 hr rfl (fun c21 hr=>?_) (fun c21 hr=>?_)
    .refine rn tk 1 rfl ?_;obtain ⟨v22,h23,hr⟩:=zaa hr;refine ug rfl rfl rfl<|cl (qca _ _ _ _ h23) rfl rfl<|rn tk 3 rfl<|bs 45 hr rfl (fun c24 hr=>?_) (fun c24 hr=>?_)
     .refine rn tk 2 rfl ?_;obtain ⟨v25,h26,hr⟩:=zaa hr;refine ug rfl rfl rfl<|ws tk h26 rfl rfl rfl rfl<|rn tk 3 rfl<|bs 51 hr rfl (fun c27 hr=>?_) (fun c27 hr=>?_)
      .refine rn tk 2 rfl ?_;obtain ⟨v28,h29,hr⟩:=zaa hr;refine ug rfl rfl rfl<|ws tk h29 rfl rfl rfl rfl<|rn tk 3 rfl ?_;cases hr;exact jn _ rfl rfl rfl
      refine rn tk 6 rfl ?_;cases hr;exact jn _ rfl rfl rfl
     refine rn tk 12 rfl ?_;cases hr;exact jn _ rfl rfl rfl
    refine rn tk 17 rfl ?_;cases hr;exact jn _ rfl rfl rfl
   refine ac 56 hr rfl (fun c30 hr=>?_) (fun c30 hr=>?_)
   .refine rn tk 8 rfl ?_;cases hr;exact ato rfl rfl rfl rfl
   refine rn tk 8 rfl ?_;cases hr;exact atc rfl rfl
  refine rn tk 2 rfl ?_;cases hr;exact ato rfl rfl rfl rfl
 .refine rn tk 6 rfl ?_;obtain ⟨v31,h32,hr⟩:=zaa hr;refine cl (qca _ _ _ _ h32) rfl rfl<|rn tk 4 rfl ?_;cases hr;exact kr tk (.inr rfl) rfl rfl
 refine rn tk 2 rfl ?_;cases hr;exact kr tk (.inr rfl) rfl rfl
theorem ysa(a0:UInt8)(r:Bool)(hr:qha a0=some r):Run prog 117 [.u8 a0] (.bo r):=by
 unfold qha at hr;refine rf (fn:=f117) ⟨func117,rfl,by kernel_rfl⟩ rfl (fun _=>rfl) fun g0 hg=>?_
 refine rn tk 8 rfl<|wu tk rfl rfl rfl<|rn tk 3 rfl<|jb hr (fun j1=>[(2,.bo j1)]) (fun j1=>[]) (fun j1 hr=>?_) (fun j1 hr=>?_)
 .refine rn tk 2 rfl ?_;obtain ⟨v2,h3,hr⟩:=zaa hr;refine cl (qca _ _ _ _ h3) rfl rfl<|rn tk 1 rfl<|bs 8 hr rfl (fun c4 hr=>?_) (fun c4 hr=>?_)
  .refine rn tk 9 rfl ?_;cases hr;exact jn _ rfl rfl rfl
  refine rn tk 1 rfl ?_;obtain ⟨v5,h6,hr⟩:=zaa hr;refine ug rfl rfl rfl<|cl (qca _ _ _ _ h6) rfl rfl<|rn tk 2 rfl<|bs 12 hr rfl (fun c7 hr=>?_) (fun c7 hr=>?_)
  .refine rn tk 5 rfl ?_;cases hr;exact jn _ rfl rfl rfl
  refine rn tk 1 rfl ?_;obtain ⟨v8,h9,hr⟩:=zaa hr;refine ug rfl rfl rfl<|cl (qca _ _ _ _ h9) rfl rfl<|rn tk 3 rfl ?_;cases hr;exact jn _ rfl rfl rfl
 refine rn tk 1 rfl ?_;cases hr;exact kr tk (.inr rfl) rfl rfl
theorem Zda(a0:Str)(r:Bool)(hr:wba a0=some r):Run prog 91 [.s a0] (.bo r):=by
 unfold wba at hr;refine rf (fn:=f91) ⟨func91,rfl,by kernel_rfl⟩ rfl (fun _=>rfl) fun g0 hg=>?_
 refine rn tk 8 rfl ?_;obtain ⟨v1,h2,hr⟩:=zaa hr;refine cl (W4a _ _ h2) rfl rfl<|rn tk 10 rfl<|al2 hr (fun s3=>[(0,.s a0),(3,.i v1),(4,.i s3)]) (fun s3=>[]) (.exit 0) (fun b4=>[(0,.s a0),(3,.i v1)]) (fun b4=>[]) .ret (fun b5=>[(2,.bo b5)]) (fun b5=>[]) rfl rfl (fun s3 x7 hr=>?_) (fun b4 hr=>?_) (fun b5 hr=>?_)
 .unfold vma at hr;refine rn tk 8 rfl<|ac 10 hr rfl (fun c8 hr=>?_) (fun c8 hr=>?_)
  .refine rn tk 8 rfl ?_;obtain ⟨v9,h10,hr⟩:=zaa hr;refine ws tk h10 rfl rfl rfl rfl<|rn tk 3 rfl<|jb hr (fun j11=>[(0,.s a0),(3,.i v1),(4,.i s3),(38,.bo j11)]) (fun j11=>[]) (fun j11 hr=>?_) (fun j11 hr=>?_)
   .refine rn tk 2 rfl ?_;obtain ⟨v12,h13,hr⟩:=zaa hr;refine cl (ysa _ _ h13) rfl rfl<|rn tk 2 rfl<|bs 19 hr rfl (fun c14 hr=>?_) (fun c14 hr=>?_)
    .refine rn tk 4 rfl<|bs 23 hr rfl (fun c15 hr=>?_) (fun c15 hr=>?_)
     .refine rn tk 4 rfl<|bs 27 hr rfl (fun c16 hr=>?_) (fun c16 hr=>?_)
      .refine rn tk 4 rfl<|bs 31 hr rfl (fun c17 hr=>?_) (fun c17 hr=>?_)
       .refine rn tk 4 rfl<|bs 35 hr rfl (fun c18 hr=>?_) (fun c18 hr=>?_)
        .refine rn tk 4 rfl ?_;cases hr;exact jn _ rfl rfl rfl
        refine rn tk 4 rfl ?_;cases hr;exact jn _ rfl rfl rfl
       refine rn tk 8 rfl ?_;cases hr;exact jn _ rfl rfl rfl
      refine rn tk 12 rfl ?_;cases hr;exact jn _ rfl rfl rfl
     refine rn tk 16 rfl ?_;cases hr;exact jn _ rfl rfl rfl
    refine rn tk 20 rfl ?_;cases hr;exact jn _ rfl rfl rfl
   refine ac 38 hr rfl (fun c19 hr=>?_) (fun c19 hr=>?_)
   .refine rn tk 8 rfl ?_;cases hr;exact ato rfl rfl rfl rfl
   refine rn tk 8 rfl ?_;cases hr;exact atc rfl rfl
  refine rn tk 2 rfl ?_;cases hr;exact ato rfl rfl rfl rfl
 .refine rn tk 2 rfl<|jb hr (fun j20=>[(2,.bo j20)]) (fun j20=>[]) (fun j20 hr=>?_) (fun j20 hr=>?_)
  .refine rn tk 2 rfl ?_;obtain ⟨v21,h22,hr⟩:=zaa hr;refine cl (qca _ _ _ _ h22) rfl rfl<|rn tk 1 rfl<|bs 41 hr rfl (fun c23 hr=>?_) (fun c23 hr=>?_)
   .refine rn tk 6 rfl<|bs 47 hr rfl (fun c24 hr=>?_) (fun c24 hr=>?_)
    .refine rn tk 3 rfl ?_;obtain ⟨v25,h26,hr⟩:=zaa hr;refine ug rfl rfl rfl<|wscL tk h26 rfl rfl rfl rfl ?_;obtain ⟨v27,h28,hr⟩:=zaa hr;refine ug rfl rfl rfl<|cl (Wpa _ _ h28) rfl rfl<|rn tk 3 rfl ?_;cases hr;exact jn _ rfl rfl rfl
    refine rn tk 8 rfl ?_;cases hr;exact jn _ rfl rfl rfl
   refine rn tk 14 rfl ?_;cases hr;exact jn _ rfl rfl rfl
  refine rn tk 1 rfl ?_;cases hr;exact kr tk (.inr rfl) rfl rfl
 refine rn tk 2 rfl ?_;cases hr;exact kr tk (.inr rfl) rfl rfl
theorem zMb(a0:List zca)(a1:Str)(r:Int)(hr:Voa a0 a1=some r):Run prog 93 [.l zca.pc a0,.s a1] (.i r):=by
 unfold Voa at hr;refine rf (fn:=f93) ⟨func93,rfl,by kernel_rfl⟩ rfl (fun _=>rfl) fun g0 hg=>?_
 refine rn tk 12 rfl<|al2 hr (fun s1=>[(0,.l zca.pc a0),(1,.s a1),(5,.i s1)]) (fun s1=>[]) (.exit 0) (fun b2=>[]) (fun b2=>[]) .ret (fun b3=>[(4,.i b3)]) (fun b3=>[]) rfl rfl (fun s1 x5 hr=>?_) (fun b2 hr=>?_) (fun b3 hr=>?_)
 .unfold Zqa at hr;refine rn tk 5 rfl<|wn tk rfl rfl rfl<|rn tk 3 rfl<|ac 9 hr rfl (fun c6 hr=>?_) (fun c6 hr=>?_)
  .refine rn tk 8 rfl ?_;obtain ⟨v7,h8,hr⟩:=zaa hr;refine wi tk h8 rfl rfl rfl rfl rfl<|rn tk 6 rfl<|ac 18 hr rfl (fun c9 hr=>?_) (fun c9 hr=>?_)
   .refine rn tk 9 rfl ?_;cases hr;exact ato rfl rfl rfl rfl
   refine rn tk 8 rfl ?_;cases hr;exact atc rfl rfl
  refine rn tk 2 rfl ?_;cases hr;exact ato rfl rfl rfl rfl
 .refine rn tk 8 rfl ?_;cases hr;exact kr tk (.inr rfl) rfl rfl
 refine rn tk 2 rfl ?_;cases hr;exact kr tk (.inr rfl) rfl rfl
theorem JZa(a0:Str)(r:Bool)(hr:Kta a0=some r):Run prog 92 [.s a0] (.bo r):=by
 unfold Kta at hr;refine rf (fn:=f92) ⟨func92,rfl,by kernel_rfl⟩ rfl (fun _=>rfl) fun g0 hg=>?_
 refine rn tk 12 rfl<|al2 hr (fun s1=>[(0,.s a0),(3,.i s1)]) (fun s1=>[]) (.exit 0) (fun b2=>[(0,.s a0)]) (fun b2=>[]) .ret (fun b3=>[(2,.bo b3)]) (fun b3=>[]) rfl rfl (fun s1 x5 hr=>?_) (fun b2 hr=>?_) (fun b3 hr=>?_)
 .unfold jha at hr;refine rn tk 9 rfl<|ac 7 hr rfl (fun c6 hr=>?_) (fun c6 hr=>?_)
  .refine rn tk 4 rfl<|jb hr (fun j7=>[(0,.s a0),(3,.i s1),(32,.bo j7)]) (fun j7=>[]) (fun j7 hr=>?_) (fun j7 hr=>?_)
   .refine rn tk 3 rfl ?_;obtain ⟨v8,h9,hr⟩:=zaa hr;refine ws tk h9 rfl rfl rfl rfl ?_;obtain ⟨v10,h11,hr⟩:=zaa hr;refine cl (ysa _ _ h11) rfl rfl<|rn tk 2 rfl<|bs 15 hr rfl (fun c12 hr=>?_) (fun c12 hr=>?_)
    .refine rn tk 2 rfl ?_;obtain ⟨v13,h14,hr⟩:=zaa hr;refine ug rfl rfl rfl<|ws tk h14 rfl rfl rfl rfl<|rn tk 3 rfl<|bs 21 hr rfl (fun c15 hr=>?_) (fun c15 hr=>?_)
     .refine rn tk 2 rfl ?_;obtain ⟨v16,h17,hr⟩:=zaa hr;refine ug rfl rfl rfl<|ws tk h17 rfl rfl rfl rfl<|rn tk 3 rfl<|bs 27 hr rfl (fun c18 hr=>?_) (fun c18 hr=>?_)
      .refine rn tk 2 rfl ?_;obtain ⟨v19,h20,hr⟩:=zaa hr;refine ug rfl rfl rfl<|ws tk h20 rfl rfl rfl rfl<|rn tk 3 rfl ?_;cases hr;exact jn _ rfl rfl rfl
      refine rn tk 6 rfl ?_;cases hr;exact jn _ rfl rfl rfl
     refine rn tk 12 rfl ?_;cases hr;exact jn _ rfl rfl rfl
    refine rn tk 18 rfl ?_;cases hr;exact jn _ rfl rfl rfl
   refine ac 32 hr rfl (fun c21 hr=>?_) (fun c21 hr=>?_)
   .refine rn tk 8 rfl ?_;cases hr;exact ato rfl rfl rfl rfl
   refine rn tk 8 rfl ?_;cases hr;exact atc rfl rfl
  refine rn tk 2 rfl ?_;cases hr;exact ato rfl rfl rfl rfl
 .refine rn tk 6 rfl ?_;obtain ⟨v22,h23,hr⟩:=zaa hr;refine cl (qca _ _ _ _ h23) rfl rfl<|rn tk 4 rfl ?_;cases hr;exact kr tk (.inr rfl) rfl rfl
 refine rn tk 2 rfl ?_;cases hr;exact kr tk (.inr rfl) rfl rfl
theorem Kda(a0:zwa)(r:zpa)(hr:qTa a0=some r):Run prog 70 [.agg [.s a0.From,.l zca.pc a0.To,.s a0.Id]] (.agg [.i r.Code,.i r.Index]):=by
 unfold qTa at hr;refine rf (fn:=f70) ⟨func70,rfl,by kernel_rfl⟩ rfl (fun _=>rfl) fun g0 hg=>?_
 refine rn tk 7 rfl<|jb hr (fun j1=>[(1,.ptr 1 0),(2,.ptr 2 0),(12,.bo j1)]) (fun j1=>[(2,.cells [.i 0,.i 0]),(1,.cells [.s a0.From,.l zca.pc a0.To,.s a0.Id])]) (fun j1 hr=>?_) (fun j1 hr=>?_)
 .refine rn tk 5 rfl<|bs 7 hr rfl (fun c2 hr=>?_) (fun c2 hr=>?_)
  .refine rn tk 2 rfl ?_;obtain ⟨v3,h4,hr⟩:=zaa hr;refine ug rfl rfl rfl<|cl (Zda _ _ h4) rfl rfl<|rn tk 3 rfl ?_;cases hr;exact jn _ rfl rfl rfl
  refine rn tk 6 rfl ?_;cases hr;exact jn _ rfl rfl rfl
 refine ac 12 hr rfl (fun c5 hr=>?_) (fun c5 hr=>?_)
 .refine rn tk 2 rfl ?_;obtain ⟨v6,h7,hr⟩:=zaa hr;refine cl (kCa _ _ _ h7) rfl rfl<|rn tk 5 rfl ?_;cases hr;exact kr tk (.inr rfl) rfl rfl
 refine rn tk 7 rfl<|wn tk rfl rfl rfl ?_;obtain ⟨v8,h9,hr⟩:=zaa hr;refine cl (qca _ _ _ _ h9) rfl rfl<|rn tk 3 rfl<|ac 18 hr rfl (fun c10 hr=>?_) (fun c10 hr=>?_)
 .refine rn tk 2 rfl ?_;obtain ⟨v11,h12,hr⟩:=zaa hr;refine cl (kCa _ _ _ h12) rfl rfl<|rn tk 5 rfl ?_;cases hr;exact kr tk (.inr rfl) rfl rfl
 refine rn tk 3 rfl<|jb hr (fun j13=>[(1,.ptr 1 0),(2,.ptr 2 0),(28,.bo j13)]) (fun j13=>[(2,.cells [.i 0,.i 0]),(1,.cells [.s a0.From,.l zca.pc a0.To,.s a0.Id])]) (fun j13 hr=>?_) (fun j13 hr=>?_)
 .refine rn tk 5 rfl<|bs 23 hr rfl (fun c14 hr=>?_) (fun c14 hr=>?_)
  .refine rn tk 2 rfl ?_;obtain ⟨v15,h16,hr⟩:=zaa hr;refine ug rfl rfl rfl<|cl (JZa _ _ h16) rfl rfl<|rn tk 3 rfl ?_;cases hr;exact jn _ rfl rfl rfl
  refine rn tk 6 rfl ?_;cases hr;exact jn _ rfl rfl rfl
 refine ac 28 hr rfl (fun c17 hr=>?_) (fun c17 hr=>?_)
 .refine rn tk 2 rfl ?_;obtain ⟨v18,h19,hr⟩:=zaa hr;refine cl (kCa _ _ _ h19) rfl rfl<|rn tk 5 rfl ?_;cases hr;exact kr tk (.inr rfl) rfl rfl
 refine rn tk 9 rfl<|al2 hr (fun s20=>[(1,.ptr 1 0),(2,.ptr 2 0),(3,.i s20)]) (fun s20=>[(2,.cells [.i 0,.i 0]),(1,.cells [.s a0.From,.l zca.pc a0.To,.s a0.Id])]) (.exit 0) (fun b21=>[(2,.ptr 2 0)]) (fun b21=>[(2,.cells [.i 0,.i 0])]) .ret (fun b22=>[(2,.ptr 2 0)]) (fun b22=>[(2,.cells [.i b22.Code,.i b22.Index])]) rfl rfl (fun s20 x24 hr=>?_) (fun b21 hr=>?_) (fun b22 hr=>?_)
 .unfold kTa at hr;refine rn tk 6 rfl<|wn tk rfl rfl rfl<|rn tk 3 rfl<|ac 34 hr rfl (fun c25 hr=>?_) (fun c25 hr=>?_)
  .refine rn tk 10 rfl ?_;obtain ⟨v26,h27,hr⟩:=zaa hr;refine wi tk h27 rfl rfl rfl rfl rfl<|rn tk 2 rfl ?_;obtain ⟨v28,h29,hr⟩:=zaa hr;refine cl (Zda _ _ h29) rfl rfl<|rn tk 3 rfl<|ac 44 hr rfl (fun c30 hr=>?_) (fun c30 hr=>?_)
   .refine rn tk 3 rfl ?_;obtain ⟨v31,h32,hr⟩:=zaa hr;refine cl (kCa _ _ _ h32) rfl rfl<|rn tk 7 rfl ?_;cases hr;exact ato rfl rfl rfl rfl
   refine rn tk 8 rfl ?_;obtain ⟨v33,h34,hr⟩:=zaa hr;refine wi tk h34 rfl rfl rfl rfl rfl<|rn tk 2 rfl ?_;obtain ⟨v35,h36,hr⟩:=zaa hr;refine cl (qca _ _ _ _ h36) rfl rfl<|rn tk 3 rfl<|ac 54 hr rfl (fun c37 hr=>?_) (fun c37 hr=>?_)
   .refine rn tk 3 rfl ?_;obtain ⟨v38,h39,hr⟩:=zaa hr;refine cl (kCa _ _ _ h39) rfl rfl<|rn tk 7 rfl ?_;cases hr;exact ato rfl rfl rfl rfl
   refine rn tk 3 rfl ?_;obtain ⟨v40,h41,hr⟩:=zaa hr;obtain ⟨v42,h43,hr⟩:=zaa hr;refine dr 10 [(66,.s v42.Address),(65,.ep [pS v42.Address,pI v42.Notify]),(64,.ep [pS v42.Address,pI v42.Notify]),(63,.i s20),(62,.l zca.pc a0.To),(61,.ptr 1 1),(60,.l zca.pc v40),(59,.i s20),(58,.l zca.pc a0.To),(57,.ptr 1 1)] mixed (by kernel_rfl) rfl rfl (pq tk rfl (.plain rfl) (pq tk rfl (.plain rfl) (pq tk rfl (.plain rfl) (.run (.plain rfl) (zJa (qjb (F:=zca.pc) rfl rfl zSa zVa (fun _=>rfl) h41)) (pq tk rfl (.plain rfl) (pq tk rfl (.plain rfl) (pq tk rfl (.plain rfl) (.run (.plain rfl) (zJa (kKa (f:=zca.pc) rfl rfl zSa zVa rfl h43)) (pq tk rfl (.plain rfl) (pq tk rfl (.plain rfl) .nil)))))))))) rfl ?_;obtain ⟨v44,h45,hr⟩:=zaa hr;refine cl (zMb _ _ _ h45) rfl rfl<|rn tk 3 rfl<|ac 68 hr rfl (fun c46 hr=>?_) (fun c46 hr=>?_)
   .refine rn tk 3 rfl ?_;obtain ⟨v47,h48,hr⟩:=zaa hr;refine cl (kCa _ _ _ h48) rfl rfl<|rn tk 6 rfl ?_;cases hr;exact ato rfl rfl rfl rfl
   refine rn tk 8 rfl ?_;cases hr;exact atc rfl rfl
  refine rn tk 2 rfl ?_;cases hr;exact ato rfl rfl rfl rfl
 .refine rn tk 9 rfl ?_;cases hr;exact kr tk (.inr rfl) rfl rfl
 refine rn tk 2 rfl ?_;cases hr;exact kr tk (.inr rfl) rfl rfl
theorem wna(a0:UInt8)(r:Bool)(hr:vXa a0=some r):Run prog 119 [.u8 a0] (.bo r):=by
 unfold vXa at hr;refine rf (fn:=Tryz.f119) ⟨func119,rfl,by kernel_rfl⟩ rfl (fun _=>rfl) fun g0 hg=>?_
 refine rn tk 5 rfl<|jb hr (fun j1=>[(2,.bo j1)]) (fun j1=>[]) (fun j1 hr=>?_) (fun j1 hr=>?_)
 .refine rn tk 4 rfl<|bs 5 hr rfl (fun c2 hr=>?_) (fun c2 hr=>?_)
  .refine rn tk 5 rfl ?_;cases hr;exact jn _ rfl rfl rfl
  refine rn tk 5 rfl ?_;cases hr;exact jn _ rfl rfl rfl
 refine rn tk 1 rfl ?_;cases hr;exact kr tk (.inr rfl) rfl rfl
theorem jEa(a0:Str)(a1:Str)(r:List Str)(hr:vHa a0 a1=some r):Run prog 120 [.s a0,.s a1] (.l cS r):=by
 unfold vHa at hr;refine rf (fn:=f120) ⟨func120,rfl,by kernel_rfl⟩ rfl (fun _=>rfl) fun g0 hg=>?_
 refine rn tk 8 rfl ?_;obtain ⟨v1,h2,hr⟩:=zaa hr;refine wc h2 rfl rfl rfl<|rn tk 1 rfl ?_;obtain ⟨v3,h4,hr⟩:=zaa hr;refine wc h4 rfl rfl rfl<|rn tk 14 rfl ?_;refine q5a 1007 (d:=7) 9 1 rfl rfl rfl (hO ?_);refine rn tk 4 rfl<|al1 hr (fun s5=>[(5,.s s5.1),(6,.i s5.2.1),(7,.hs 1007 0)]) (fun s5=>[(1007,.row 9 false 1 (List.map cS s5.2.2))]) (.exit 0) (fun b6=>[(5,.s b6.1),(7,.hs 1007 0)]) (fun b6=>[(1007,.row 9 false 1 (List.map cS b6.2))]) rfl rfl (fun s5 x7 hr=>?_) (fun b6 hr=>?_)
 .unfold qXa at hr;refine rn tk 8 rfl<|ac 20 hr rfl (fun c8 hr=>?_) (fun c8 hr=>?_)
  .refine rn tk 15 rfl<|al1 hr (fun s9=>[(5,.s s5.1),(6,.i s5.2.1),(7,.hs 1007 0),(8,.i s9.1),(9,.i s9.2)]) (fun s9=>[(1007,.row 9 false 1 (List.map cS s5.2.2))]) (.exit 2) (fun b10=>[(5,.s s5.1),(6,.i s5.2.1),(7,.hs 1007 0),(8,.i b10)]) (fun b10=>[(1007,.row 9 false 1 (List.map cS s5.2.2))]) rfl rfl (fun s9 x11 hr=>?_) (fun b10 hr=>?_)
   .unfold kva at hr;refine rn tk 1 rfl<|jb hr (fun j12=>[(5,.s s5.1),(6,.i s5.2.1),(7,.hs 1007 0),(8,.i s9.1),(9,.i s9.2),(26,.bo j12)]) (fun j12=>[(1007,.row 9 false 1 (List.map cS s5.2.2))]) (fun j12 hr=>?_) (fun j12 hr=>?_)
    .refine rn tk 4 rfl<|bs 23 hr rfl (fun c13 hr=>?_) (fun c13 hr=>?_)
     .refine rn tk 4 rfl ?_;cases hr;exact jn _ rfl rfl rfl
     refine rn tk 4 rfl ?_;cases hr;exact jn _ rfl rfl rfl
    refine ac 26 hr rfl (fun c14 hr=>?_) (fun c14 hr=>?_)
    .refine rn tk 2 rfl<|jb hr (fun j15=>[(5,.s s5.1),(6,.i s5.2.1),(7,.hs 1007 0),(8,.i j15),(9,.i s9.2)]) (fun j15=>[(1007,.row 9 false 1 (List.map cS s5.2.2))]) (fun j15 hr=>?_) (fun j15 hr=>?_)
     .refine rn tk 1 rfl<|jb hr (fun j16=>[(5,.s s5.1),(6,.i s5.2.1),(7,.hs 1007 0),(8,.i s9.1),(9,.i s9.2),(45,.bo j16)]) (fun j16=>[(1007,.row 9 false 1 (List.map cS s5.2.2))]) (fun j16 hr=>?_) (fun j16 hr=>?_)
      .refine rn tk 5 rfl<|bs 32 hr rfl (fun c17 hr=>?_) (fun c17 hr=>?_)
       .refine rn tk 2 rfl ?_;obtain ⟨v18,h19,hr⟩:=zaa hr;refine ug rfl rfl rfl<|ws tk h19 rfl rfl rfl rfl ?_;obtain ⟨v20,h21,hr⟩:=zaa hr;refine ug rfl rfl rfl<|cl (wna _ _ h21) rfl rfl<|rn tk 2 rfl<|bs 38 hr rfl (fun c22 hr=>?_) (fun c22 hr=>?_)
        .refine rn tk 3 rfl ?_;obtain ⟨v23,h24,hr⟩:=zaa hr;refine ug rfl rfl rfl<|ws tk h24 rfl rfl rfl rfl ?_;obtain ⟨v25,h26,hr⟩:=zaa hr;refine ug rfl rfl rfl<|cl (wna _ _ h26) rfl rfl<|rn tk 3 rfl ?_;cases hr;exact jn _ rfl rfl rfl
        refine rn tk 8 rfl ?_;cases hr;exact jn _ rfl rfl rfl
       refine rn tk 14 rfl ?_;cases hr;exact jn _ rfl rfl rfl
      refine ac 45 hr rfl (fun c27 hr=>?_) (fun c27 hr=>?_)
      .refine rn tk 5 rfl ?_;cases hr;exact jn _ rfl rfl rfl
      refine rn tk 2 rfl ?_;cases hr;exact jn _ rfl rfl rfl
     refine rn tk 5 rfl ?_;cases hr;exact atc rfl rfl
    refine rn tk 2 rfl ?_;cases hr;exact ato rfl rfl rfl rfl
   refine rn tk 9 rfl<|al1 hr (fun s28=>[(5,.s s5.1),(6,.i s5.2.1),(7,.hs 1007 0),(8,.i s28.1),(10,.i s28.2)]) (fun s28=>[(1007,.row 9 false 1 (List.map cS s5.2.2))]) (.exit 4) (fun b29=>[(5,.s s5.1),(7,.hs 1007 0),(8,.i b29)]) (fun b29=>[(1007,.row 9 false 1 (List.map cS s5.2.2))]) rfl rfl (fun s28 x30 hr=>?_) (fun b29 hr=>?_)
   .unfold kga at hr;refine rn tk 1 rfl<|jb hr (fun j31=>[(5,.s s5.1),(6,.i s5.2.1),(7,.hs 1007 0),(8,.i s28.1),(10,.i s28.2),(54,.bo j31)]) (fun j31=>[(1007,.row 9 false 1 (List.map cS s5.2.2))]) (fun j31 hr=>?_) (fun j31 hr=>?_)
    .refine rn tk 6 rfl<|bs 51 hr rfl (fun c32 hr=>?_) (fun c32 hr=>?_)
     .refine rn tk 4 rfl ?_;cases hr;exact jn _ rfl rfl rfl
     refine rn tk 4 rfl ?_;cases hr;exact jn _ rfl rfl rfl
    refine ac 54 hr rfl (fun c33 hr=>?_) (fun c33 hr=>?_)
    .refine rn tk 2 rfl<|jb hr (fun j34=>[(5,.s s5.1),(6,.i s5.2.1),(7,.hs 1007 0),(8,.i j34),(10,.i s28.2)]) (fun j34=>[(1007,.row 9 false 1 (List.map cS s5.2.2))]) (fun j34 hr=>?_) (fun j34 hr=>?_)
     .refine rn tk 1 rfl<|jb hr (fun j35=>[(5,.s s5.1),(6,.i s5.2.1),(7,.hs 1007 0),(8,.i s28.1),(10,.i s28.2),(73,.bo j35)]) (fun j35=>[(1007,.row 9 false 1 (List.map cS s5.2.2))]) (fun j35 hr=>?_) (fun j35 hr=>?_)
      .refine rn tk 5 rfl<|bs 60 hr rfl (fun c36 hr=>?_) (fun c36 hr=>?_)
       .refine rn tk 2 rfl ?_;obtain ⟨v37,h38,hr⟩:=zaa hr;refine ug rfl rfl rfl<|ws tk h38 rfl rfl rfl rfl ?_;obtain ⟨v39,h40,hr⟩:=zaa hr;refine ug rfl rfl rfl<|cl (wna _ _ h40) rfl rfl<|rn tk 2 rfl<|bs 66 hr rfl (fun c41 hr=>?_) (fun c41 hr=>?_)
        .refine rn tk 3 rfl ?_;obtain ⟨v42,h43,hr⟩:=zaa hr;refine ug rfl rfl rfl<|ws tk h43 rfl rfl rfl rfl ?_;obtain ⟨v44,h45,hr⟩:=zaa hr;refine ug rfl rfl rfl<|cl (wna _ _ h45) rfl rfl<|rn tk 3 rfl ?_;cases hr;exact jn _ rfl rfl rfl
        refine rn tk 8 rfl ?_;cases hr;exact jn _ rfl rfl rfl
       refine rn tk 14 rfl ?_;cases hr;exact jn _ rfl rfl rfl
      refine ac 73 hr rfl (fun c46 hr=>?_) (fun c46 hr=>?_)
      .refine rn tk 5 rfl ?_;cases hr;exact jn _ rfl rfl rfl
      refine rn tk 2 rfl ?_;cases hr;exact jn _ rfl rfl rfl
     refine rn tk 5 rfl ?_;cases hr;exact atc rfl rfl
    refine rn tk 2 rfl ?_;cases hr;exact ato rfl rfl rfl rfl
   refine rn tk 9 rfl<|ac 76 hr rfl (fun c47 hr=>?_) (fun c47 hr=>?_)
   .refine rn tk 3 rfl ?_;cases hr;exact ato rfl rfl rfl rfl
   refine rn tk 7 rfl ?_;obtain ⟨v48,h49,hr⟩:=zaa hr;refine wscH tk h49 rfl rfl rfl rfl<|wz cS ([v48]:List Str) tk rfl rfl (fun _=>rfl) rfl rfl rfl ?_;obtain ⟨v50,h51,hr⟩:=zaa hr;refine wa tk h51 rfl rfl rfl rfl (fun _=>rfl) rfl rfl<|rn tk 7 rfl ?_;obtain ⟨v52,h53,hr⟩:=zaa hr;refine wscL tk h53 rfl rfl rfl rfl<|rn tk 7 rfl ?_;cases hr;exact atc rfl rfl
  refine rn tk 2 rfl ?_;cases hr;exact ato rfl rfl rfl rfl
 refine rn tk 6 rfl<|wz cS ([b6.1]:List Str) tk rfl rfl (fun _=>rfl) rfl rfl rfl ?_;obtain ⟨v54,h55,hr⟩:=zaa hr;refine wa tk h55 rfl rfl rfl rfl (fun _=>rfl) rfl rfl<|rn tk 3 rfl ?_;refine v7a (d:=4) (F:=cS) (l:=v54) rfl rfl (hC ?_);refine rn tk 1 rfl ?_;cases hr;exact kr tk (.inr rfl) rfl rfl
theorem VTa(a0:zha)(r:Int)(hr:yia a0=some r):Run prog 94 [.agg [.s a0.Name,.s a0.Value]] (.i r):=by
 unfold yia at hr;refine rf (fn:=f94) ⟨func94,rfl,by kernel_rfl⟩ rfl (fun _=>rfl) fun g0 hg=>?_
 refine rn tk 13 rfl<|al2 hr (fun s1=>[(1,.ptr 1 0),(3,.i s1)]) (fun s1=>[(1,.cells [.s a0.Name,.s a0.Value])]) (.exit 0) (fun b2=>[(1,.ptr 1 0)]) (fun b2=>[(1,.cells [.s a0.Name,.s a0.Value])]) .ret (fun b3=>[(2,.i b3)]) (fun b3=>[]) rfl rfl (fun s1 x5 hr=>?_) (fun b2 hr=>?_) (fun b3 hr=>?_)
 .unfold vna at hr;refine rn tk 10 rfl<|ac 12 hr rfl (fun c6 hr=>?_) (fun c6 hr=>?_)
  .refine rn tk 4 rfl<|jb hr (fun j7=>[(1,.ptr 1 0),(3,.i s1),(28,.bo j7)]) (fun j7=>[(1,.cells [.s a0.Name,.s a0.Value])]) (fun j7 hr=>?_) (fun j7 hr=>?_)
   .refine rn tk 4 rfl ?_;obtain ⟨v8,h9,hr⟩:=zaa hr;refine ws tk h9 rfl rfl rfl rfl<|wu tk rfl rfl rfl ?_;obtain ⟨v10,h11,hr⟩:=zaa hr;refine cl (qca _ _ _ _ h11) rfl rfl<|rn tk 2 rfl<|bs 22 hr rfl (fun c12 hr=>?_) (fun c12 hr=>?_)
    .refine rn tk 7 rfl ?_;cases hr;exact jn _ rfl rfl rfl
    refine rn tk 3 rfl ?_;obtain ⟨v13,h14,hr⟩:=zaa hr;refine ug rfl rfl rfl<|ws tk h14 rfl rfl rfl rfl<|rn tk 3 rfl ?_;cases hr;exact jn _ rfl rfl rfl
   refine ac 28 hr rfl (fun c15 hr=>?_) (fun c15 hr=>?_)
   .refine rn tk 8 rfl ?_;cases hr;exact ato rfl rfl rfl rfl
   refine rn tk 8 rfl ?_;cases hr;exact atc rfl rfl
  refine rn tk 2 rfl ?_;cases hr;exact ato rfl rfl rfl rfl
 .refine rn tk 8 rfl ?_;obtain ⟨v16,h17,hr⟩:=zaa hr;refine cl (qca _ _ _ _ h17) rfl rfl<|rn tk 3 rfl<|ac 33 hr rfl (fun c18 hr=>?_) (fun c18 hr=>?_)
  .refine rn tk 7 rfl ?_;cases hr;exact kr tk (.inr rfl) rfl rfl
  refine rn tk 11 rfl<|ac 37 hr rfl (fun c19 hr=>?_) (fun c19 hr=>?_)
  .refine rn tk 7 rfl ?_;cases hr;exact kr tk (.inr rfl) rfl rfl
  refine rn tk 17 rfl<|al2 hr (fun s20=>[(1,.ptr 1 0),(4,.i ((a0.Value.length:Int))),(5,.i s20)]) (fun s20=>[(1,.cells [.s a0.Name,.s a0.Value])]) (.exit 2) (fun b21=>[(1,.ptr 1 0),(4,.i ((a0.Value.length:Int)))]) (fun b21=>[(1,.cells [.s a0.Name,.s a0.Value])]) .ret (fun b22=>[(2,.i b22)]) (fun b22=>[]) rfl rfl (fun s20 x24 hr=>?_) (fun b21 hr=>?_) (fun b22 hr=>?_)
  .unfold voa at hr;refine rn tk 8 rfl<|ac 43 hr rfl (fun c25 hr=>?_) (fun c25 hr=>?_)
   .refine rn tk 4 rfl<|jb hr (fun j26=>[(1,.ptr 1 0),(4,.i ((a0.Value.length:Int))),(5,.i s20),(64,.bo j26)]) (fun j26=>[(1,.cells [.s a0.Name,.s a0.Value])]) (fun j26 hr=>?_) (fun j26 hr=>?_)
    .refine rn tk 4 rfl ?_;obtain ⟨v27,h28,hr⟩:=zaa hr;refine ws tk h28 rfl rfl rfl rfl<|rn tk 2 rfl<|bs 51 hr rfl (fun c29 hr=>?_) (fun c29 hr=>?_)
     .refine rn tk 14 rfl ?_;cases hr;exact jn _ rfl rfl rfl
     refine rn tk 3 rfl ?_;obtain ⟨v30,h31,hr⟩:=zaa hr;refine ug rfl rfl rfl<|ws tk h31 rfl rfl rfl rfl<|rn tk 3 rfl<|bs 58 hr rfl (fun c32 hr=>?_) (fun c32 hr=>?_)
     .refine rn tk 7 rfl ?_;cases hr;exact jn _ rfl rfl rfl
     refine rn tk 3 rfl ?_;obtain ⟨v33,h34,hr⟩:=zaa hr;refine ug rfl rfl rfl<|ws tk h34 rfl rfl rfl rfl<|rn tk 3 rfl ?_;cases hr;exact jn _ rfl rfl rfl
    refine ac 64 hr rfl (fun c35 hr=>?_) (fun c35 hr=>?_)
    .refine rn tk 8 rfl ?_;cases hr;exact ato rfl rfl rfl rfl
    refine rn tk 8 rfl ?_;cases hr;exact atc rfl rfl
   refine rn tk 2 rfl ?_;cases hr;exact ato rfl rfl rfl rfl
  .refine rn tk 3 rfl<|jb hr (fun j36=>[(1,.ptr 1 0),(80,.bo j36)]) (fun j36=>[(1,.cells [.s a0.Name,.s a0.Value])]) (fun j36 hr=>?_) (fun j36 hr=>?_)
   .refine rn tk 4 rfl<|bs 67 hr rfl (fun c37 hr=>?_) (fun c37 hr=>?_)
    .refine rn tk 2 rfl ?_;obtain ⟨v38,h39,hr⟩:=zaa hr;refine ug rfl rfl rfl<|ws tk h39 rfl rfl rfl rfl ?_;obtain ⟨v40,h41,hr⟩:=zaa hr;refine ug rfl rfl rfl<|cl (wna _ _ h41) rfl rfl<|rn tk 1 rfl<|bs 72 hr rfl (fun c42 hr=>?_) (fun c42 hr=>?_)
     .refine rn tk 9 rfl ?_;cases hr;exact jn _ rfl rfl rfl
     refine rn tk 4 rfl ?_;obtain ⟨v43,h44,hr⟩:=zaa hr;refine ug rfl rfl rfl<|ws tk h44 rfl rfl rfl rfl ?_;obtain ⟨v45,h46,hr⟩:=zaa hr;refine ug rfl rfl rfl<|cl (wna _ _ h46) rfl rfl<|rn tk 3 rfl ?_;cases hr;exact jn _ rfl rfl rfl
    refine rn tk 14 rfl ?_;cases hr;exact jn _ rfl rfl rfl
   refine ac 80 hr rfl (fun c47 hr=>?_) (fun c47 hr=>?_)
   .refine rn tk 7 rfl ?_;cases hr;exact kr tk (.inr rfl) rfl rfl
   refine rn tk 8 rfl ?_;obtain ⟨v48,h49,hr⟩:=zaa hr;refine cl (jEa _ _ _ h49) rfl rfl<|rn tk 10 rfl<|al2 hr (fun s50=>[(6,.l cS v48),(7,.i s50)]) (fun s50=>[]) (.exit 4) (fun b51=>[]) (fun b51=>[]) .ret (fun b52=>[(2,.i b52)]) (fun b52=>[]) rfl rfl (fun s50 x54 hr=>?_) (fun b51 hr=>?_) (fun b52 hr=>?_)
   .unfold vpa at hr;refine rn tk 5 rfl<|wn tk rfl rfl rfl<|rn tk 3 rfl<|ac 89 hr rfl (fun c55 hr=>?_) (fun c55 hr=>?_)
    .refine rn tk 8 rfl ?_;obtain ⟨v56,h57,hr⟩:=zaa hr;refine wi tk h57 rfl rfl rfl rfl rfl<|rn tk 5 rfl<|ac 97 hr rfl (fun c58 hr=>?_) (fun c58 hr=>?_)
     .refine rn tk 8 rfl ?_;cases hr;exact ato rfl rfl rfl rfl
     refine rn tk 8 rfl ?_;cases hr;exact atc rfl rfl
    refine rn tk 2 rfl ?_;cases hr;exact ato rfl rfl rfl rfl
   .refine rn tk 8 rfl ?_;cases hr;exact kr tk (.inr rfl) rfl rfl
   refine rn tk 2 rfl ?_;cases hr;exact kr tk (.inr rfl) rfl rfl
  refine rn tk 2 rfl ?_;cases hr;exact kr tk (.inr rfl) rfl rfl
 refine rn tk 2 rfl ?_;cases hr;exact kr tk (.inr rfl) rfl rfl
theorem KMa(a0:zva)(r:List UInt8)(hr:vqa a0=some r):Run prog 95 [.agg [.l zha.pc a0.Fields,.l cU a0.Body]] (.l cU r):=by
 unfold vqa at hr;refine rf (fn:=f95) ⟨func95,rfl,by kernel_rfl⟩ rfl (fun _=>rfl) fun g0 hg=>?_
 refine rn tk 9 rfl ?_;refine q5a 1003 (d:=3) 5 1 rfl rfl rfl (hO ?_);refine rn tk 9 rfl<|al1 hr (fun s1=>[(1,.ptr 1 0),(3,.hs 1003 0),(4,.i s1.1)]) (fun s1=>[(1003,.row 5 false 1 (List.map cU s1.2)),(1,.cells [.l zha.pc a0.Fields,.l cU a0.Body])]) (.exit 0) (fun b2=>[(1,.ptr 1 0),(3,.hs 1003 0)]) (fun b2=>[(1003,.row 5 false 1 (List.map cU b2)),(1,.cells [.l zha.pc a0.Fields,.l cU a0.Body])]) rfl rfl (fun s1 x3 hr=>?_) (fun b2 hr=>?_)
 .unfold qma at hr;refine rn tk 6 rfl<|wn tk rfl rfl rfl<|rn tk 3 rfl<|ac 11 hr rfl (fun c4 hr=>?_) (fun c4 hr=>?_)
  .refine rn tk 5 rfl ?_;obtain ⟨v5,h6,hr⟩:=zaa hr;obtain ⟨v7,h8,hr⟩:=zaa hr;refine dr 12 [(25,.s v7.Value),(24,.ep [pS v7.Value]),(23,.ep [pS v7.Name,pS v7.Value]),(22,.i s1.1),(21,.l zha.pc a0.Fields),(20,.ptr 1 0),(19,.s v5.Name),(18,.ep [pS v5.Name,pS v5.Value]),(17,.ep [pS v5.Name,pS v5.Value]),(16,.i s1.1),(15,.l zha.pc a0.Fields),(14,.ptr 1 0)] mixed (by kernel_rfl) rfl rfl (pq tk rfl (.plain rfl) (pq tk rfl (.plain rfl) (pq tk rfl (.plain rfl) (.run (.plain rfl) (zJa (kKa (f:=zha.pc) rfl rfl kXa vFa rfl h6)) (pq tk rfl (.plain rfl) (pq tk rfl (.plain rfl) (pq tk rfl (.plain rfl) (pq tk rfl (.plain rfl) (pq tk rfl (.plain rfl) (.run (.plain rfl) (zJa (kKa (f:=zha.pc) rfl rfl kXa vFa rfl h8)) (pq tk rfl (.plain rfl) (pq tk rfl (.plain rfl) .nil)))))))))))) rfl ?_;obtain ⟨v9,h10,hr⟩:=zaa hr;refine cl (jEa _ _ _ h10) rfl rfl<|rn tk 9 rfl<|al1 hr (fun s11=>[(1,.ptr 1 0),(3,.hs 1003 0),(4,.i s1.1),(5,.l cS v9),(6,.i s11.1)]) (fun s11=>[(1003,.row 5 false 1 (List.map cU s11.2)),(1,.cells [.l zha.pc a0.Fields,.l cU a0.Body])]) (.exit 2) (fun b12=>[(1,.ptr 1 0),(3,.hs 1003 0),(4,.i s1.1)]) (fun b12=>[(1003,.row 5 false 1 (List.map cU b12)),(1,.cells [.l zha.pc a0.Fields,.l cU a0.Body])]) rfl rfl (fun s11 x13 hr=>?_) (fun b12 hr=>?_)
   .unfold qla at hr;refine rn tk 5 rfl<|wn tk rfl rfl rfl<|rn tk 3 rfl<|ac 30 hr rfl (fun c14 hr=>?_) (fun c14 hr=>?_)
    .refine rn tk 9 rfl ?_;obtain ⟨v15,h16,hr⟩:=zaa hr;refine wi tk h16 rfl rfl rfl rfl rfl<|rn tk 1 rfl ?_;obtain ⟨v17,h18,hr⟩:=zaa hr;refine wo (Qia (k:=38) (l:=s11.2) (s:=v15) (lim:=140737488355328) rfl rfl rfl rfl zGa zHa.u k7a rfl h18) rfl<|rn tk 5 rfl<|wz cU ([(13:UInt8),(10:UInt8)]:List UInt8) tk rfl rfl (fun _=>rfl) rfl rfl rfl ?_;obtain ⟨v19,h20,hr⟩:=zaa hr;refine wa tk h20 rfl rfl rfl rfl (fun _=>rfl) rfl rfl<|rn tk 9 rfl ?_;cases hr;exact atc rfl rfl
    refine rn tk 2 rfl ?_;cases hr;exact ato rfl rfl rfl rfl
   refine rn tk 8 rfl ?_;cases hr;exact atc rfl rfl
  refine rn tk 2 rfl ?_;cases hr;exact ato rfl rfl rfl rfl
 refine rn tk 5 rfl<|wz cU ([(13:UInt8),(10:UInt8)]:List UInt8) tk rfl rfl (fun _=>rfl) rfl rfl rfl ?_;obtain ⟨v21,h22,hr⟩:=zaa hr;refine wa tk h22 rfl rfl rfl rfl (fun _=>rfl) rfl rfl<|rn tk 8 rfl ?_;obtain ⟨v23,h24,hr⟩:=zaa hr;refine wa tk h24 rfl rfl rfl rfl (fun _=>rfl) rfl rfl<|rn tk 3 rfl ?_;refine v7a (d:=2) (F:=cU) (l:=v23) rfl rfl (hC ?_);refine rn tk 1 rfl ?_;cases hr;exact kr tk (.inr rfl) rfl rfl
theorem yHa(a0:zva)(r:zpa)(hr:qJa a0=some r):Run prog 71 [.agg [.l zha.pc a0.Fields,.l cU a0.Body]] (.agg [.i r.Code,.i r.Index]):=by
 unfold qJa at hr;refine rf (fn:=f71) ⟨func71,rfl,by kernel_rfl⟩ rfl (fun _=>rfl) fun g0 hg=>?_
 refine rn tk 11 rfl<|wn tk rfl rfl rfl<|rn tk 3 rfl<|ac 11 hr rfl (fun c1 hr=>?_) (fun c1 hr=>?_)
 .refine rn tk 2 rfl ?_;obtain ⟨v2,h3,hr⟩:=zaa hr;refine cl (kCa _ _ _ h3) rfl rfl<|rn tk 5 rfl ?_;cases hr;exact kr tk (.inr rfl) rfl rfl
 refine rn tk 9 rfl<|al2 hr (fun s4=>[(1,.ptr 1 0),(2,.ptr 2 0),(3,.i s4)]) (fun s4=>[(2,.cells [.i 0,.i 0]),(1,.cells [.l zha.pc a0.Fields,.l cU a0.Body])]) (.exit 0) (fun b5=>[(1,.ptr 1 0),(2,.ptr 2 0)]) (fun b5=>[(2,.cells [.i 0,.i 0]),(1,.cells [.l zha.pc a0.Fields,.l cU a0.Body])]) .ret (fun b6=>[(2,.ptr 2 0)]) (fun b6=>[(2,.cells [.i b6.Code,.i b6.Index])]) rfl rfl (fun s4 x8 hr=>?_) (fun b5 hr=>?_) (fun b6 hr=>?_)
 .unfold vaa at hr;refine rn tk 6 rfl<|wn tk rfl rfl rfl<|rn tk 3 rfl<|ac 17 hr rfl (fun c9 hr=>?_) (fun c9 hr=>?_)
  .refine rn tk 9 rfl ?_;obtain ⟨v10,h11,hr⟩:=zaa hr;refine wi tk h11 rfl rfl rfl rfl rfl<|rn tk 1 rfl ?_;obtain ⟨v12,h13,hr⟩:=zaa hr;refine cl (VTa _ _ h13) rfl rfl<|rn tk 9 rfl<|ac 27 hr rfl (fun c14 hr=>?_) (fun c14 hr=>?_)
   .refine rn tk 4 rfl ?_;obtain ⟨v15,h16,hr⟩:=zaa hr;refine cl (kCa _ _ _ h16) rfl rfl<|rn tk 6 rfl ?_;cases hr;exact ato rfl rfl rfl rfl
   refine rn tk 8 rfl ?_;cases hr;exact atc rfl rfl
  refine rn tk 2 rfl ?_;cases hr;exact ato rfl rfl rfl rfl
 .refine rn tk 3 rfl<|jb hr (fun j17=>[(1,.ptr 1 0),(2,.ptr 2 0),(40,.bo j17)]) (fun j17=>[(2,.cells [.i 0,.i 0]),(1,.cells [.l zha.pc a0.Fields,.l cU a0.Body])]) (fun j17 hr=>?_) (fun j17 hr=>?_)
  .refine rn tk 3 rfl<|wn tk rfl rfl rfl<|rn tk 2 rfl<|bs 35 hr rfl (fun c18 hr=>?_) (fun c18 hr=>?_)
   .refine rn tk 6 rfl ?_;cases hr;exact jn _ rfl rfl rfl
   refine rn tk 1 rfl ?_;obtain ⟨v19,h20,hr⟩:=zaa hr;refine ug rfl rfl rfl<|cl (KMa _ _ h20) rfl rfl<|ug rfl rfl rfl<|wn tk rfl rfl rfl<|rn tk 3 rfl ?_;cases hr;exact jn _ rfl rfl rfl
  refine ac 40 hr rfl (fun c21 hr=>?_) (fun c21 hr=>?_)
  .refine rn tk 2 rfl ?_;obtain ⟨v22,h23,hr⟩:=zaa hr;refine cl (kCa _ _ _ h23) rfl rfl<|rn tk 5 rfl ?_;cases hr;exact kr tk (.inr rfl) rfl rfl
  refine rn tk 14 rfl<|al2 hr (fun s24=>[(1,.ptr 1 0),(2,.ptr 2 0),(5,.i s24.1),(6,.i s24.2)]) (fun s24=>[(2,.cells [.i 0,.i 0]),(1,.cells [.l zha.pc a0.Fields,.l cU a0.Body])]) (.exit 2) (fun b25=>[(2,.ptr 2 0)]) (fun b25=>[(2,.cells [.i 0,.i 0])]) .ret (fun b26=>[(2,.ptr 2 0)]) (fun b26=>[(2,.cells [.i b26.Code,.i b26.Index])]) rfl rfl (fun s24 x28 hr=>?_) (fun b25 hr=>?_) (fun b26 hr=>?_)
  .unfold kEa at hr;refine rn tk 6 rfl<|wn tk rfl rfl rfl<|rn tk 3 rfl<|ac 46 hr rfl (fun c29 hr=>?_) (fun c29 hr=>?_)
   .refine rn tk 2 rfl<|jk (fun j30=>[(1,.ptr 1 0),(2,.ptr 2 0),(5,.i j30.1),(6,.i j30.2)]) (fun j30=>[(2,.cells [.i 0,.i 0]),(1,.cells [.l zha.pc a0.Fields,.l cU a0.Body])]) (fun j30=>qna j30=some x28) ?_ ?_
    .refine rn tk 6 rfl ?_;obtain ⟨v31,h32,hr⟩:=zaa hr;refine wi tk h32 rfl rfl rfl rfl rfl<|rn tk 5 rfl<|jb hr (fun j33=>[(1,.ptr 1 0),(2,.ptr 2 0),(5,.i s24.1),(6,.i s24.2),(7,.u8 v31),(72,.bo j33)]) (fun j33=>[(2,.cells [.i 0,.i 0]),(1,.cells [.l zha.pc a0.Fields,.l cU a0.Body])]) (fun j33 hr=>?_) (fun j33 hr=>?_)
     .refine rn tk 4 rfl<|bs 56 hr rfl (fun c34 hr=>?_) (fun c34 hr=>?_)
      .refine rn tk 4 rfl<|ug rfl rfl rfl<|wn tk rfl rfl rfl<|rn tk 3 rfl<|bs 64 hr rfl (fun c35 hr=>?_) (fun c35 hr=>?_)
       .refine rn tk 4 rfl ?_;obtain ⟨v36,h37,hr⟩:=zaa hr;refine ug rfl rfl rfl<|wi tk h37 rfl rfl rfl rfl rfl<|rn tk 4 rfl ?_;cases hr;exact jn _ rfl rfl rfl
       refine rn tk 9 rfl ?_;cases hr;exact jn _ rfl rfl rfl
      refine rn tk 17 rfl ?_;cases hr;exact jn _ rfl rfl rfl
     refine ac 72 hr rfl (fun c38 hr=>?_) (fun c38 hr=>?_)
     .refine rn tk 15 rfl<|jn ((0,(w64 (s24.2+1)))) hr rfl rfl
     refine rn tk 3 rfl<|jb hr (fun j39=>[(1,.ptr 1 0),(2,.ptr 2 0),(5,.i s24.1),(6,.i s24.2),(80,.bo j39)]) (fun j39=>[(2,.cells [.i 0,.i 0]),(1,.cells [.l zha.pc a0.Fields,.l cU a0.Body])]) (fun j39 hr=>?_) (fun j39 hr=>?_)
     .refine rn tk 4 rfl<|bs 77 hr rfl (fun c40 hr=>?_) (fun c40 hr=>?_)
      .refine rn tk 4 rfl ?_;cases hr;exact jn _ rfl rfl rfl
      refine rn tk 4 rfl ?_;cases hr;exact jn _ rfl rfl rfl
     refine ac 80 hr rfl (fun c41 hr=>?_) (fun c41 hr=>?_)
     .refine rn tk 2 rfl ?_;obtain ⟨v42,h43,hr⟩:=zaa hr;refine cl (kCa _ _ _ h43) rfl rfl<|rn tk 7 rfl ?_;cases hr;exact ato rfl rfl rfl rfl
     refine rn tk 15 rfl<|ac 85 hr rfl (fun c44 hr=>?_) (fun c44 hr=>?_)
     .refine rn tk 2 rfl ?_;obtain ⟨v45,h46,hr⟩:=zaa hr;refine cl (kCa _ _ _ h46) rfl rfl<|rn tk 6 rfl ?_;cases hr;exact ato rfl rfl rfl rfl
     refine rn tk 2 rfl<|jn (((w64 (s24.1+1)),s24.2)) hr rfl rfl
    intro j30 hr;unfold qna at hr;refine rn tk 5 rfl ?_;cases hr;exact atc rfl rfl
   refine rn tk 2 rfl ?_;cases hr;exact ato rfl rfl rfl rfl
  .refine rn tk 9 rfl ?_;cases hr;exact kr tk (.inr rfl) rfl rfl
  refine rn tk 2 rfl ?_;cases hr;exact kr tk (.inr rfl) rfl rfl
 refine rn tk 2 rfl ?_;cases hr;exact kr tk (.inr rfl) rfl rfl
theorem VUa(a0:ksa)(r:zpa)(hr:yja a0=some r):Run prog 34 [.agg [.s a0.Envelope.From,.l zca.pc a0.Envelope.To,.s a0.Envelope.Id,.l zha.pc a0.Message.Fields,.l cU a0.Message.Body]] (.agg [.i r.Code,.i r.Index]):=by
 unfold yja at hr;refine rf (fn:=f34) ⟨func34,rfl,by kernel_rfl⟩ rfl (fun _=>rfl) fun g0 hg=>?_
 refine rn tk 10 rfl ?_;obtain ⟨v1,h2,hr⟩:=zaa hr;refine cl (Kda _ _ h2) rfl rfl<|rn tk 4 rfl<|jb hr (fun j3=>[(2,.ptr 2 0),(3,.ptr 3 0)]) (fun j3=>[(3,.cells [.i j3.1,.i j3.2]),(2,.cells [.i 0,.i 0])]) (fun j3 hr=>?_) (fun j3 hr=>?_)
 .refine jb hr (fun j4=>[(1,.ptr 1 0),(2,.ptr 2 0),(3,.ptr 3 0),(16,.bo j4)]) (fun j4=>[(3,.cells [.i v1.Code,.i v1.Index]),(2,.cells [.i 0,.i 0]),(1,.cells [.s a0.Envelope.From,.l zca.pc a0.Envelope.To,.s a0.Envelope.Id,.l zha.pc a0.Message.Fields,.l cU a0.Message.Body])]) (fun j4 hr=>?_) (fun j4 hr=>?_)
  .refine rn tk 5 rfl<|bs 10 hr rfl (fun c5 hr=>?_) (fun c5 hr=>?_)
   .refine rn tk 2 rfl ?_;obtain ⟨v6,h7,hr⟩:=zaa hr;refine ug rfl rfl rfl<|cl (yHa _ _ h7) rfl rfl<|rn tk 4 rfl ?_;cases hr;exact jn _ rfl rfl rfl
   refine rn tk 7 rfl ?_;cases hr;exact jn _ rfl rfl rfl
  refine ac 16 hr rfl (fun c8 hr=>?_) (fun c8 hr=>?_)
  .refine rn tk 3 rfl ?_;obtain ⟨v9,h10,hr⟩:=zaa hr;refine cl (yHa _ _ h10) rfl rfl<|rn tk 1 rfl ?_;obtain ⟨v11,h12,hr⟩:=zaa hr;refine cl (kCa _ _ _ h12) rfl rfl<|rn tk 2 rfl ?_;cases hr;exact jn _ rfl rfl rfl
  refine rn tk 1 rfl ?_;cases hr;exact jn _ rfl rfl rfl
 refine rn tk 7 rfl ?_;cases hr;exact kr tk (.inr rfl) rfl rfl
theorem Qba(a0:zna)(r:zpa)(hr:v1a a0=some r):Run prog 13 [.agg [.l zba.pc a0.Entries,.i a0.Next]] (.agg [.i r.Code,.i r.Index]):=by
 unfold v1a at hr;refine rf (fn:=f13) ⟨func13,rfl,by kernel_rfl⟩ rfl (fun _=>rfl) fun g0 hg=>?_
 refine rn tk 11 rfl<|wn tk rfl rfl rfl<|rn tk 3 rfl<|ac 10 hr rfl (fun c1 hr=>?_) (fun c1 hr=>?_)
 .refine rn tk 2 rfl ?_;obtain ⟨v2,h3,hr⟩:=zaa hr;refine cl (kCa _ _ _ h3) rfl rfl<|rn tk 5 rfl ?_;cases hr;exact kr tk (.inr rfl) rfl rfl
 refine rn tk 7 rfl ?_;obtain ⟨v4,h5,hr⟩:=zaa hr;refine cl (qca _ _ _ _ h5) rfl rfl<|rn tk 3 rfl<|ac 15 hr rfl (fun c6 hr=>?_) (fun c6 hr=>?_)
 .refine rn tk 2 rfl ?_;obtain ⟨v7,h8,hr⟩:=zaa hr;refine cl (kCa _ _ _ h8) rfl rfl<|rn tk 5 rfl ?_;cases hr;exact kr tk (.inr rfl) rfl rfl
 refine rn tk 14 rfl<|al2 hr (fun s9=>[(1,.ptr 1 0),(2,.ptr 2 0),(3,.i s9.1),(4,.i s9.2)]) (fun s9=>[(2,.cells [.i 0,.i 0]),(1,.cells [.l zba.pc a0.Entries,.i a0.Next])]) (.exit 0) (fun b10=>[(2,.ptr 2 0)]) (fun b10=>[(2,.cells [.i 0,.i 0])]) .ret (fun b11=>[(2,.ptr 2 0)]) (fun b11=>[(2,.cells [.i b11.Code,.i b11.Index])]) rfl rfl (fun s9 x13 hr=>?_) (fun b10 hr=>?_) (fun b11 hr=>?_)
 .unfold kQa at hr;refine rn tk 6 rfl<|wn tk rfl rfl rfl<|rn tk 3 rfl<|ac 21 hr rfl (fun c14 hr=>?_) (fun c14 hr=>?_)
  .refine rn tk 9 rfl ?_;obtain ⟨v15,h16,hr⟩:=zaa hr;refine wi tk h16 rfl rfl rfl rfl rfl<|rn tk 9 rfl ?_;obtain ⟨v17,h18,hr⟩:=zaa hr;refine cl (VUa _ _ h18) rfl rfl<|rn tk 12 rfl<|ac 34 hr rfl (fun c19 hr=>?_) (fun c19 hr=>?_)
   .refine rn tk 5 rfl ?_;obtain ⟨v20,h21,hr⟩:=zaa hr;refine cl (kCa _ _ _ h21) rfl rfl<|rn tk 7 rfl ?_;cases hr;exact ato rfl rfl rfl rfl
   refine rn tk 12 rfl ?_;obtain ⟨v22,h23,hr⟩:=zaa hr;refine cl (qca _ _ _ _ h23) rfl rfl<|rn tk 3 rfl<|ac 47 hr rfl (fun c24 hr=>?_) (fun c24 hr=>?_)
   .refine rn tk 3 rfl ?_;obtain ⟨v25,h26,hr⟩:=zaa hr;refine cl (kCa _ _ _ h26) rfl rfl<|rn tk 7 rfl ?_;cases hr;exact ato rfl rfl rfl rfl
   refine rn tk 10 rfl<|jb hr (fun j27=>[(1,.ptr 1 0),(2,.ptr 2 0),(3,.i v15.Id),(4,.i s9.2),(5,.ptr 5 0),(67,.bo j27)]) (fun j27=>[(5,.cells [.i v15.Id,.s v15.Mail.Envelope.From,.l zca.pc v15.Mail.Envelope.To,.s v15.Mail.Envelope.Id,.l zha.pc v15.Mail.Message.Fields,.l cU v15.Mail.Message.Body,.i v15.Since,.i v15.Tries,.i v15.Due,.l zda.pc v15.To]),(2,.cells [.i 0,.i 0]),(1,.cells [.l zba.pc a0.Entries,.i a0.Next])]) (fun j27 hr=>?_) (fun j27 hr=>?_)
   .refine rn tk 3 rfl ?_;obtain ⟨v28,h29,hr⟩:=zaa hr;refine cl (yMa _ _ h29) rfl rfl<|rn tk 2 rfl<|bs 56 hr rfl (fun c30 hr=>?_) (fun c30 hr=>?_)
    .refine rn tk 12 rfl ?_;cases hr;exact jn _ rfl rfl rfl
    refine rn tk 2 rfl ?_;obtain ⟨v31,h32,hr⟩:=zaa hr;refine ug rfl rfl rfl<|cl (yMa _ _ h32) rfl rfl<|rn tk 3 rfl<|bs 62 hr rfl (fun c33 hr=>?_) (fun c33 hr=>?_)
    .refine rn tk 6 rfl ?_;cases hr;exact jn _ rfl rfl rfl
    refine rn tk 2 rfl ?_;obtain ⟨v34,h35,hr⟩:=zaa hr;refine ug rfl rfl rfl<|cl (qca _ _ _ _ h35) rfl rfl<|rn tk 3 rfl ?_;cases hr;exact jn _ rfl rfl rfl
   refine ac 67 hr rfl (fun c36 hr=>?_) (fun c36 hr=>?_)
   .refine rn tk 3 rfl ?_;obtain ⟨v37,h38,hr⟩:=zaa hr;refine cl (kCa _ _ _ h38) rfl rfl<|rn tk 7 rfl ?_;cases hr;exact ato rfl rfl rfl rfl
   refine rn tk 5 rfl ?_;obtain ⟨v39,h40,hr⟩:=zaa hr;refine cl (jDa _ _ h40) rfl rfl<|rn tk 3 rfl<|ac 72 hr rfl (fun c41 hr=>?_) (fun c41 hr=>?_)
   .refine rn tk 3 rfl ?_;obtain ⟨v42,h43,hr⟩:=zaa hr;refine cl (jDa _ _ h43) rfl rfl<|rn tk 1 rfl ?_;obtain ⟨v44,h45,hr⟩:=zaa hr;refine cl (kCa _ _ _ h45) rfl rfl<|rn tk 6 rfl ?_;cases hr;exact ato rfl rfl rfl rfl
   refine rn tk 8 rfl ?_;cases hr;exact atc rfl rfl
  refine rn tk 2 rfl ?_;cases hr;exact ato rfl rfl rfl rfl
 .refine rn tk 9 rfl ?_;cases hr;exact kr tk (.inr rfl) rfl rfl
 refine rn tk 2 rfl ?_;cases hr;exact kr tk (.inr rfl) rfl rfl
theorem Y1a(a0:zba)(a1:Str)(r:List Int)(hr:jYa a0 a1=some r):Run prog 55 [.agg [.i a0.Id,.s a0.Mail.Envelope.From,.l zca.pc a0.Mail.Envelope.To,.s a0.Mail.Envelope.Id,.l zha.pc a0.Mail.Message.Fields,.l cU a0.Mail.Message.Body,.i a0.Since,.i a0.Tries,.i a0.Due,.l zda.pc a0.To],.s a1] (.l cI r):=by
 unfold jYa at hr;refine rf (fn:=f55) ⟨func55,rfl,by kernel_rfl⟩ rfl (fun _=>rfl) fun g0 hg=>?_
 refine rn tk 9 rfl ?_;refine q5a 1005 (d:=5) 3 1 rfl rfl rfl (hO ?_);refine rn tk 9 rfl<|al1 hr (fun s1=>[(1,.s a1),(2,.ptr 2 0),(5,.hs 1005 0),(6,.i s1.1)]) (fun s1=>[(1005,.row 3 false 1 (List.map cI s1.2)),(2,.cells [.i a0.Id,.s a0.Mail.Envelope.From,.l zca.pc a0.Mail.Envelope.To,.s a0.Mail.Envelope.Id,.l zha.pc a0.Mail.Message.Fields,.l cU a0.Mail.Message.Body,.i a0.Since,.i a0.Tries,.i a0.Due,.l zda.pc a0.To])]) (.exit 0) (fun b2=>[(5,.hs 1005 0)]) (fun b2=>[(1005,.row 3 false 1 (List.map cI b2))]) rfl rfl (fun s1 x3 hr=>?_) (fun b2 hr=>?_)
 .unfold wHa at hr;refine rn tk 6 rfl<|wn tk rfl rfl rfl<|rn tk 3 rfl<|ac 11 hr rfl (fun c4 hr=>?_) (fun c4 hr=>?_)
  .refine rn tk 2 rfl<|jb hr (fun j5=>[(1,.s a1),(2,.ptr 2 0),(5,.hs 1005 0),(6,.i s1.1)]) (fun j5=>[(1005,.row 3 false 1 (List.map cI j5)),(2,.cells [.i a0.Id,.s a0.Mail.Envelope.From,.l zca.pc a0.Mail.Envelope.To,.s a0.Mail.Envelope.Id,.l zha.pc a0.Mail.Message.Fields,.l cU a0.Mail.Message.Body,.i a0.Since,.i a0.Tries,.i a0.Due,.l zda.pc a0.To])]) (fun j5 hr=>?_) (fun j5 hr=>?_)
   .refine rn tk 1 rfl<|jb hr (fun j6=>[(1,.s a1),(2,.ptr 2 0),(5,.hs 1005 0),(6,.i s1.1),(27,.bo j6)]) (fun j6=>[(1005,.row 3 false 1 (List.map cI s1.2)),(2,.cells [.i a0.Id,.s a0.Mail.Envelope.From,.l zca.pc a0.Mail.Envelope.To,.s a0.Mail.Envelope.Id,.l zha.pc a0.Mail.Message.Fields,.l cU a0.Mail.Message.Body,.i a0.Since,.i a0.Tries,.i a0.Due,.l zda.pc a0.To])]) (fun j6 hr=>?_) (fun j6 hr=>?_)
    .refine rn tk 4 rfl ?_;obtain ⟨v7,h8,hr⟩:=zaa hr;refine wi tk h8 rfl rfl rfl rfl rfl<|rn tk 4 rfl<|bs 21 hr rfl (fun c9 hr=>?_) (fun c9 hr=>?_)
     .refine rn tk 2 rfl ?_;obtain ⟨v10,h11,hr⟩:=zaa hr;refine ug rfl rfl rfl<|cl (jua _ _ _ h11) rfl rfl<|rn tk 4 rfl ?_;cases hr;exact jn _ rfl rfl rfl
     refine rn tk 7 rfl ?_;cases hr;exact jn _ rfl rfl rfl
    refine ac 27 hr rfl (fun c12 hr=>?_) (fun c12 hr=>?_)
    .refine rn tk 3 rfl<|wz cI ([s1.1]:List Int) tk rfl rfl (fun _=>rfl) rfl rfl rfl ?_;obtain ⟨v13,h14,hr⟩:=zaa hr;refine wa tk h14 rfl rfl rfl rfl (fun _=>rfl) rfl rfl<|rn tk 3 rfl ?_;cases hr;exact jn _ rfl rfl rfl
    refine rn tk 2 rfl ?_;cases hr;exact jn _ rfl rfl rfl
   refine rn tk 5 rfl ?_;cases hr;exact atc rfl rfl
  refine rn tk 2 rfl ?_;cases hr;exact ato rfl rfl rfl rfl
 refine rn tk 8 rfl ?_;refine v7a (d:=4) (F:=cI) (l:=b2) rfl rfl (hC ?_);refine rn tk 1 rfl ?_;cases hr;exact kr tk (.inr rfl) rfl rfl
theorem vCb(a0:List Str)(a1:Str)(r:Bool)(hr:q4b a0 a1=some r):Run prog 53 [.l cS a0,.s a1] (.bo r):=by
 unfold q4b at hr;refine rf (fn:=f53) ⟨func53,rfl,by kernel_rfl⟩ rfl (fun _=>rfl) fun g0 hg=>?_
 refine rn tk 12 rfl<|al2 hr (fun s1=>[(0,.l cS a0),(1,.s a1),(5,.i s1)]) (fun s1=>[]) (.exit 0) (fun b2=>[]) (fun b2=>[]) .ret (fun b3=>[(4,.bo b3)]) (fun b3=>[]) rfl rfl (fun s1 x5 hr=>?_) (fun b2 hr=>?_) (fun b3 hr=>?_)
 .unfold QPa at hr;refine rn tk 5 rfl<|wn tk rfl rfl rfl<|rn tk 3 rfl<|ac 9 hr rfl (fun c6 hr=>?_) (fun c6 hr=>?_)
  .refine rn tk 8 rfl ?_;obtain ⟨v7,h8,hr⟩:=zaa hr;refine wi tk h8 rfl rfl rfl rfl rfl<|rn tk 5 rfl<|ac 17 hr rfl (fun c9 hr=>?_) (fun c9 hr=>?_)
   .refine rn tk 8 rfl ?_;cases hr;exact ato rfl rfl rfl rfl
   refine rn tk 8 rfl ?_;cases hr;exact atc rfl rfl
  refine rn tk 2 rfl ?_;cases hr;exact ato rfl rfl rfl rfl
 .refine rn tk 8 rfl ?_;cases hr;exact kr tk (.inr rfl) rfl rfl
 refine rn tk 2 rfl ?_;cases hr;exact kr tk (.inr rfl) rfl rfl
theorem Wqa(a0:zna)(a1:Int)(r:(List zea) × zpa)(hr:y4a a0 a1=some r):Run prog 16 [.agg [.l zba.pc a0.Entries,.i a0.Next],.i a1] (.tup [.l zea.pc r.1,.agg [.i r.2.Code,.i r.2.Index]]):=by
 unfold y4a at hr;refine rf (fn:=f16) ⟨func16,rfl,by kernel_rfl⟩ rfl (fun _=>rfl) fun g0 hg=>?_
 refine rn tk 10 rfl ?_;obtain ⟨v1,h2,hr⟩:=zaa hr;refine cl (Qba _ _ h2) rfl rfl<|rn tk 4 rfl<|jb hr (fun j3=>[(1,.i a1),(2,.ptr 2 0),(5,.ptr 5 0),(6,.ptr 6 0)]) (fun j3=>[(6,.cells [.i j3.1,.i j3.2]),(5,.cells [.i 0,.i 0]),(2,.cells [.l zba.pc a0.Entries,.i a0.Next])]) (fun j3 hr=>?_) (fun j3 hr=>?_)
 .refine jb hr (fun j4=>[(1,.i a1),(2,.ptr 2 0),(5,.ptr 5 0),(6,.ptr 6 0),(26,.bo j4)]) (fun j4=>[(6,.cells [.i v1.Code,.i v1.Index]),(5,.cells [.i 0,.i 0]),(2,.cells [.l zba.pc a0.Entries,.i a0.Next])]) (fun j4 hr=>?_) (fun j4 hr=>?_)
  .refine rn tk 5 rfl<|bs 22 hr rfl (fun c5 hr=>?_) (fun c5 hr=>?_)
   .refine rn tk 1 rfl ?_;obtain ⟨v6,h7,hr⟩:=zaa hr;refine ug rfl rfl rfl<|cl (yMa _ _ h7) rfl rfl<|rn tk 3 rfl ?_;cases hr;exact jn _ rfl rfl rfl
   refine rn tk 5 rfl ?_;cases hr;exact jn _ rfl rfl rfl
  refine ac 26 hr rfl (fun c8 hr=>?_) (fun c8 hr=>?_)
  .refine rn tk 1 rfl ?_;obtain ⟨v9,h10,hr⟩:=zaa hr;refine cl (kCa _ _ _ h10) rfl rfl<|rn tk 2 rfl ?_;cases hr;exact jn _ rfl rfl rfl
  refine rn tk 1 rfl ?_;cases hr;exact jn _ rfl rfl rfl
 refine rn tk 8 rfl<|ac 30 hr rfl (fun c11 hr=>?_) (fun c11 hr=>?_)
 .refine rn tk 1 rfl<|dr 2 [(4,.pv (.sl (some true) [])),(31,.agg [.i j3.1,.i j3.2])] mixed (by kernel_rfl) rfl rfl (pq tk rfl (.plain rfl) (pq tk rfl (.plain rfl) .nil)) rfl<|rn tk 5 rfl ?_;cases hr;exact kr tk (.inr rfl) rfl rfl
 refine rn tk 5 rfl ?_;refine q5a 1007 (d:=7) 51 3 rfl rfl rfl (hO ?_);refine rn tk 6 rfl<|wn tk rfl rfl rfl ?_;obtain ⟨v12,h13,hr⟩:=zaa hr;refine wo (qUb (k:=35) (F:=cB) (z:=(false:Bool)) (lim:=140737488355328) 1035 rfl rfl rfl rfl yTa qga rfl rfl rfl h13) rfl<|rn tk 4 rfl<|al1 hr (fun s14=>[(1,.i a1),(2,.ptr 2 0),(5,.ptr 5 0),(6,.ptr 6 0),(7,.hs 1007 0),(8,.hs 1035 0)]) (fun s14=>[(1035,.row 4 true 1 (List.map cB s14.1)),(1007,.row 51 false 3 (List.map zea.pc s14.2)),(6,.cells [.i j3.1,.i j3.2]),(5,.cells [.i 0,.i 0]),(2,.cells [.l zba.pc a0.Entries,.i a0.Next])]) .ret (fun b15=>[(4,.l zea.pc b15.1),(5,.ptr 5 0)]) (fun b15=>[(5,.cells [.i b15.2.Code,.i b15.2.Index])]) rfl rfl (fun s14 x16 hr=>?_) (fun b15 hr=>?_)
 .unfold qza at hr;refine rn tk 13 rfl<|al1 hr (fun s17=>[(1,.i a1),(2,.ptr 2 0),(5,.ptr 5 0),(6,.ptr 6 0),(7,.hs 1007 0),(8,.hs 1035 0),(9,.i s17.1),(10,.i s17.2)]) (fun s17=>[(1035,.row 4 true 1 (List.map cB s14.1)),(1007,.row 51 false 3 (List.map zea.pc s14.2)),(6,.cells [.i j3.1,.i j3.2]),(5,.cells [.i 0,.i 0]),(2,.cells [.l zba.pc a0.Entries,.i a0.Next])]) (.exit 2) (fun b18=>[(1,.i a1),(2,.ptr 2 0),(5,.ptr 5 0),(6,.ptr 6 0),(7,.hs 1007 0),(8,.hs 1035 0),(9,.i b18)]) (fun b18=>[(1035,.row 4 true 1 (List.map cB s14.1)),(1007,.row 51 false 3 (List.map zea.pc s14.2)),(6,.cells [.i j3.1,.i j3.2]),(5,.cells [.i 0,.i 0]),(2,.cells [.l zba.pc a0.Entries,.i a0.Next])]) rfl rfl (fun s17 x19 hr=>?_) (fun b18 hr=>?_)
  .unfold qxa at hr;refine rn tk 6 rfl<|wn tk rfl rfl rfl<|rn tk 3 rfl<|ac 40 hr rfl (fun c20 hr=>?_) (fun c20 hr=>?_)
   .refine rn tk 2 rfl<|jb hr (fun j21=>[(1,.i a1),(2,.ptr 2 0),(5,.ptr 5 0),(6,.ptr 6 0),(7,.hs 1007 0),(8,.hs 1035 0),(9,.i j21),(10,.i s17.2)]) (fun j21=>[(1035,.row 4 true 1 (List.map cB s14.1)),(1007,.row 51 false 3 (List.map zea.pc s14.2)),(6,.cells [.i j3.1,.i j3.2]),(5,.cells [.i 0,.i 0]),(2,.cells [.l zba.pc a0.Entries,.i a0.Next])]) (fun j21 hr=>?_) (fun j21 hr=>?_)
    .refine rn tk 1 rfl<|jb hr (fun j22=>[(1,.i a1),(2,.ptr 2 0),(5,.ptr 5 0),(6,.ptr 6 0),(7,.hs 1007 0),(8,.hs 1035 0),(9,.i s17.1),(10,.i s17.2),(76,.bo j22)]) (fun j22=>[(1035,.row 4 true 1 (List.map cB s14.1)),(1007,.row 51 false 3 (List.map zea.pc s14.2)),(6,.cells [.i j3.1,.i j3.2]),(5,.cells [.i 0,.i 0]),(2,.cells [.l zba.pc a0.Entries,.i a0.Next])]) (fun j22 hr=>?_) (fun j22 hr=>?_)
     .obtain ⟨v23,h24,hr⟩:=zaa hr;obtain ⟨v25,h26,hr⟩:=zaa hr;refine w4a ((!v25)) (fun c27=>?_) (fun c27=>?_)
      .replace hr:=Qda c27 hr
       obtain ⟨v28,h29,hr⟩:=zaa hr;refine w4a (decide (v28.Due<=a1)) (fun c30=>?_) (fun c30=>?_)
       .replace hr:=Qda c30 hr
        refine w4a (decide (s17.1 < 0)) (fun c31=>?_) (fun c31=>?_)
        .replace hr:=Qda c31 hr
         refine dr 31 [(73,.tup []),(72,.tup []),(71,.tup []),(70,.tup []),(69,.tup []),(68,.tup []),(67,.tup []),(66,.tup []),(65,.tup []),(64,.tup []),(63,.tup []),(62,.tup []),(61,.bo (decide (s17.1 < 0))),(60,.bo (decide (s17.1 < 0))),(59,.i s17.1),(58,.bo (decide (v28.Due<=a1))),(57,.bo (decide (v28.Due<=a1))),(56,.bo (decide (v28.Due<=a1))),(55,.i a1),(54,.i v28.Due),(53,.ep [pI v28.Due,pL zda.pc v28.To]),(52,.ep [pI v28.Id,pS v28.Mail.Envelope.From,pL zca.pc v28.Mail.Envelope.To,pS v28.Mail.Envelope.Id,pL zha.pc v28.Mail.Message.Fields,pL cU v28.Mail.Message.Body,pI v28.Since,pI v28.Tries,pI v28.Due,pL zda.pc v28.To]),(51,.i s17.2),(50,.l zba.pc a0.Entries),(49,.ptr 2 0),(48,.bo ((!v25))),(47,.bo ((!v25))),(46,.bo v25),(45,.hp 1035 (Int.toNat s17.2) 0),(44,.i s17.2),(43,.hs 1035 0)] mixed (by kernel_rfl) rfl rfl (pq tk rfl (.plain rfl) (pq tk rfl (.plain rfl) (.run (.plain rfl) (zJa (Q4a (F:=cB) (l:=s14.1) (n:=s17.2) rfl rfl rfl yTa qga h24)) (.run (.plain rfl) (zJa (QKa (F:=cB) (l:=s14.1) (n:=s17.2) (j:=0) rfl rfl qga rfl h26 rfl)) (pq tk rfl (.plain rfl) (pq tk rfl (.plain rfl) (pq tk rfl (.yes (d:=48) rfl rfl rfl c27) (pq tk rfl (.yes (d:=48) rfl rfl rfl c27) (pq tk rfl (.yes (d:=48) rfl rfl rfl c27) (.run (.yes (d:=48) rfl rfl rfl c27) (zJa (kKa (f:=zba.pc) rfl rfl zka zia rfl h29)) (pq tk rfl (.yes (d:=48) rfl rfl rfl c27) (pq tk rfl (.yes (d:=48) rfl rfl rfl c27) (pq tk rfl (.yes (d:=48) rfl rfl rfl c27) (pq tk rfl (.yes (d:=48) rfl rfl rfl c27) (.run (.plain rfl) (zJa (yOa rfl c27)) (pq tk rfl (.plain rfl) (pq tk rfl (.yes (d:=58) rfl rfl rfl c30) (pq tk rfl (.yes (d:=58) rfl rfl rfl c30) (pq tk rfl (.yes (d:=58) rfl rfl rfl c30) (.skip (.no (d:=61) rfl rfl rfl c31) (.skip (.no (d:=61) rfl rfl rfl c31) (.skip (.no (d:=61) rfl rfl rfl c31) (.skip (.no (d:=61) rfl rfl rfl c31) (.skip (.no (d:=61) rfl rfl rfl c31) (.skip (.no (d:=61) rfl rfl rfl c31) (.skip (.no (d:=61) rfl rfl rfl c31) (.skip (.no (d:=61) rfl rfl rfl c31) (.skip (.no (d:=61) rfl rfl rfl c31) (.skip (.no (d:=61) rfl rfl rfl c31) (.skip (.no (d:=61) rfl rfl rfl c31) (.skip (.no (d:=61) rfl rfl rfl c31) .nil))))))))))))))))))))))))))))))) rfl<|kn 61 c31 rfl<|rn tk 1 rfl<|kn 58 c30 rfl<|rn tk 3 rfl ?_;cases hr;exact jn _ rfl rfl rfl
        replace hr:=Qea c31 hr
        obtain ⟨v32,h33,hr⟩:=zaa hr;obtain ⟨v34,h35,hr⟩:=zaa hr;refine dr 31 [(73,.i v34.Due),(72,.ep [pI v34.Due,pL zda.pc v34.To]),(71,.ep [pI v34.Id,pS v34.Mail.Envelope.From,pL zca.pc v34.Mail.Envelope.To,pS v34.Mail.Envelope.Id,pL zha.pc v34.Mail.Message.Fields,pL cU v34.Mail.Message.Body,pI v34.Since,pI v34.Tries,pI v34.Due,pL zda.pc v34.To]),(70,.i s17.1),(69,.l zba.pc a0.Entries),(68,.ptr 2 0),(67,.i v32.Due),(66,.ep [pI v32.Due,pL zda.pc v32.To]),(65,.ep [pI v32.Id,pS v32.Mail.Envelope.From,pL zca.pc v32.Mail.Envelope.To,pS v32.Mail.Envelope.Id,pL zha.pc v32.Mail.Message.Fields,pL cU v32.Mail.Message.Body,pI v32.Since,pI v32.Tries,pI v32.Due,pL zda.pc v32.To]),(64,.i s17.2),(63,.l zba.pc a0.Entries),(62,.ptr 2 0),(61,.bo (decide (s17.1 < 0))),(60,.bo (decide (s17.1 < 0))),(59,.i s17.1),(58,.bo (decide (v28.Due<=a1))),(57,.bo (decide (v28.Due<=a1))),(56,.bo (decide (v28.Due<=a1))),(55,.i a1),(54,.i v28.Due),(53,.ep [pI v28.Due,pL zda.pc v28.To]),(52,.ep [pI v28.Id,pS v28.Mail.Envelope.From,pL zca.pc v28.Mail.Envelope.To,pS v28.Mail.Envelope.Id,pL zha.pc v28.Mail.Message.Fields,pL cU v28.Mail.Message.Body,pI v28.Since,pI v28.Tries,pI v28.Due,pL zda.pc v28.To]),(51,.i s17.2),(50,.l zba.pc a0.Entries),(49,.ptr 2 0),(48,.bo ((!v25))),(47,.bo ((!v25))),(46,.bo v25),(45,.hp 1035 (Int.toNat s17.2) 0),(44,.i s17.2),(43,.hs 1035 0)] mixed (by kernel_rfl) rfl rfl (pq tk rfl (.plain rfl) (pq tk rfl (.plain rfl) (.run (.plain rfl) (zJa (Q4a (F:=cB) (l:=s14.1) (n:=s17.2) rfl rfl rfl yTa qga h24)) (.run (.plain rfl) (zJa (QKa (F:=cB) (l:=s14.1) (n:=s17.2) (j:=0) rfl rfl qga rfl h26 rfl)) (pq tk rfl (.plain rfl) (pq tk rfl (.plain rfl) (pq tk rfl (.yes (d:=48) rfl rfl rfl c27) (pq tk rfl (.yes (d:=48) rfl rfl rfl c27) (pq tk rfl (.yes (d:=48) rfl rfl rfl c27) (.run (.yes (d:=48) rfl rfl rfl c27) (zJa (kKa (f:=zba.pc) rfl rfl zka zia rfl h29)) (pq tk rfl (.yes (d:=48) rfl rfl rfl c27) (pq tk rfl (.yes (d:=48) rfl rfl rfl c27) (pq tk rfl (.yes (d:=48) rfl rfl rfl c27) (pq tk rfl (.yes (d:=48) rfl rfl rfl c27) (.run (.plain rfl) (zJa (yOa rfl c27)) (pq tk rfl (.plain rfl) (pq tk rfl (.yes (d:=58) rfl rfl rfl c30) (pq tk rfl (.yes (d:=58) rfl rfl rfl c30) (pq tk rfl (.yes (d:=58) rfl rfl rfl c30) (pq tk rfl (.yes (d:=61) rfl rfl rfl c31) (pq tk rfl (.yes (d:=61) rfl rfl rfl c31) (pq tk rfl (.yes (d:=61) rfl rfl rfl c31) (.run (.yes (d:=61) rfl rfl rfl c31) (zJa (kKa (f:=zba.pc) rfl rfl zka zia rfl h33)) (pq tk rfl (.yes (d:=61) rfl rfl rfl c31) (pq tk rfl (.yes (d:=61) rfl rfl rfl c31) (pq tk rfl (.yes (d:=61) rfl rfl rfl c31) (pq tk rfl (.yes (d:=61) rfl rfl rfl c31) (pq tk rfl (.yes (d:=61) rfl rfl rfl c31) (.run (.yes (d:=61) rfl rfl rfl c31) (zJa (kKa (f:=zba.pc) rfl rfl zka zia rfl h35)) (pq tk rfl (.yes (d:=61) rfl rfl rfl c31) (pq tk rfl (.yes (d:=61) rfl rfl rfl c31) .nil))))))))))))))))))))))))))))))) rfl<|kn 61 c31 rfl<|rn tk 1 rfl<|kn 58 c30 rfl<|rn tk 3 rfl ?_;cases hr;exact jn _ rfl rfl rfl
       replace hr:=Qea c30 hr
       refine dr 31 [(73,.tup []),(72,.tup []),(71,.tup []),(70,.tup []),(69,.tup []),(68,.tup []),(67,.tup []),(66,.tup []),(65,.tup []),(64,.tup []),(63,.tup []),(62,.tup []),(61,.tup []),(60,.tup []),(59,.tup []),(58,.bo (decide (v28.Due<=a1))),(57,.bo (decide (v28.Due<=a1))),(56,.bo (decide (v28.Due<=a1))),(55,.i a1),(54,.i v28.Due),(53,.ep [pI v28.Due,pL zda.pc v28.To]),(52,.ep [pI v28.Id,pS v28.Mail.Envelope.From,pL zca.pc v28.Mail.Envelope.To,pS v28.Mail.Envelope.Id,pL zha.pc v28.Mail.Message.Fields,pL cU v28.Mail.Message.Body,pI v28.Since,pI v28.Tries,pI v28.Due,pL zda.pc v28.To]),(51,.i s17.2),(50,.l zba.pc a0.Entries),(49,.ptr 2 0),(48,.bo ((!v25))),(47,.bo ((!v25))),(46,.bo v25),(45,.hp 1035 (Int.toNat s17.2) 0),(44,.i s17.2),(43,.hs 1035 0)] mixed (by kernel_rfl) rfl rfl (pq tk rfl (.plain rfl) (pq tk rfl (.plain rfl) (.run (.plain rfl) (zJa (Q4a (F:=cB) (l:=s14.1) (n:=s17.2) rfl rfl rfl yTa qga h24)) (.run (.plain rfl) (zJa (QKa (F:=cB) (l:=s14.1) (n:=s17.2) (j:=0) rfl rfl qga rfl h26 rfl)) (pq tk rfl (.plain rfl) (pq tk rfl (.plain rfl) (pq tk rfl (.yes (d:=48) rfl rfl rfl c27) (pq tk rfl (.yes (d:=48) rfl rfl rfl c27) (pq tk rfl (.yes (d:=48) rfl rfl rfl c27) (.run (.yes (d:=48) rfl rfl rfl c27) (zJa (kKa (f:=zba.pc) rfl rfl zka zia rfl h29)) (pq tk rfl (.yes (d:=48) rfl rfl rfl c27) (pq tk rfl (.yes (d:=48) rfl rfl rfl c27) (pq tk rfl (.yes (d:=48) rfl rfl rfl c27) (pq tk rfl (.yes (d:=48) rfl rfl rfl c27) (.run (.plain rfl) (zJa (yOa rfl c27)) (pq tk rfl (.plain rfl) (.skip (.no (d:=58) rfl rfl rfl c30) (.skip (.no (d:=58) rfl rfl rfl c30) (.skip (.no (d:=58) rfl rfl rfl c30) (.skip (.none (d:=61) rfl rfl rfl) (.skip (.none (d:=61) rfl rfl rfl) (.skip (.none (d:=61) rfl rfl rfl) (.skip (.none (d:=61) rfl rfl rfl) (.skip (.none (d:=61) rfl rfl rfl) (.skip (.none (d:=61) rfl rfl rfl) (.skip (.none (d:=61) rfl rfl rfl) (.skip (.none (d:=61) rfl rfl rfl) (.skip (.none (d:=61) rfl rfl rfl) (.skip (.none (d:=61) rfl rfl rfl) (.skip (.none (d:=61) rfl rfl rfl) (.skip (.none (d:=61) rfl rfl rfl) .nil))))))))))))))))))))))))))))))) rfl<|rn tk 1 rfl<|kn 58 c30 rfl<|rn tk 3 rfl ?_;cases hr;exact jn _ rfl rfl rfl
      replace hr:=Qea c27 hr
      refine dr 31 [(73,.tup []),(72,.tup []),(71,.tup []),(70,.tup []),(69,.tup []),(68,.tup []),(67,.tup []),(66,.tup []),(65,.tup []),(64,.tup []),(63,.tup []),(62,.tup []),(61,.tup []),(60,.tup []),(59,.tup []),(58,.bo false),(57,.bo false),(56,.tup []),(55,.tup []),(54,.tup []),(53,.tup []),(52,.tup []),(51,.tup []),(50,.tup []),(49,.tup []),(48,.bo ((!v25))),(47,.bo ((!v25))),(46,.bo v25),(45,.hp 1035 (Int.toNat s17.2) 0),(44,.i s17.2),(43,.hs 1035 0)] mixed (by kernel_rfl) rfl rfl (pq tk rfl (.plain rfl) (pq tk rfl (.plain rfl) (.run (.plain rfl) (zJa (Q4a (F:=cB) (l:=s14.1) (n:=s17.2) rfl rfl rfl yTa qga h24)) (.run (.plain rfl) (zJa (QKa (F:=cB) (l:=s14.1) (n:=s17.2) (j:=0) rfl rfl qga rfl h26 rfl)) (pq tk rfl (.plain rfl) (pq tk rfl (.plain rfl) (.skip (.no (d:=48) rfl rfl rfl c27) (.skip (.no (d:=48) rfl rfl rfl c27) (.skip (.no (d:=48) rfl rfl rfl c27) (.skip (.no (d:=48) rfl rfl rfl c27) (.skip (.no (d:=48) rfl rfl rfl c27) (.skip (.no (d:=48) rfl rfl rfl c27) (.skip (.no (d:=48) rfl rfl rfl c27) (.skip (.no (d:=48) rfl rfl rfl c27) (.run (.plain rfl) (zJa (jJa rfl c27)) (pq tk rfl (.plain rfl) (.skip (.no (d:=58) rfl rfl rfl rfl) (.skip (.no (d:=58) rfl rfl rfl rfl) (.skip (.no (d:=58) rfl rfl rfl rfl) (.skip (.none (d:=61) rfl rfl rfl) (.skip (.none (d:=61) rfl rfl rfl) (.skip (.none (d:=61) rfl rfl rfl) (.skip (.none (d:=61) rfl rfl rfl) (.skip (.none (d:=61) rfl rfl rfl) (.skip (.none (d:=61) rfl rfl rfl) (.skip (.none (d:=61) rfl rfl rfl) (.skip (.none (d:=61) rfl rfl rfl) (.skip (.none (d:=61) rfl rfl rfl) (.skip (.none (d:=61) rfl rfl rfl) (.skip (.none (d:=61) rfl rfl rfl) (.skip (.none (d:=61) rfl rfl rfl) .nil))))))))))))))))))))))))))))))) rfl<|rn tk 4 rfl ?_;cases hr;exact jn _ rfl rfl rfl
     refine ac 76 hr rfl (fun c36 hr=>?_) (fun c36 hr=>?_)
     .refine rn tk 5 rfl ?_;cases hr;exact jn _ rfl rfl rfl
     refine rn tk 2 rfl ?_;cases hr;exact jn _ rfl rfl rfl
    refine rn tk 5 rfl ?_;cases hr;exact atc rfl rfl
   refine rn tk 2 rfl ?_;cases hr;exact ato rfl rfl rfl rfl
  refine rn tk 9 rfl<|ac 79 hr rfl (fun c37 hr=>?_) (fun c37 hr=>?_)
  .refine rn tk 1 rfl<|dr 3 [(4,.hs 1007 0),(81,.agg [.i j3.1,.i j3.2]),(80,.hs 1007 0)] mixed (by kernel_rfl) rfl rfl (pq tk rfl (.plain rfl) (pq tk rfl (.plain rfl) (pq tk rfl (.plain rfl) .nil))) rfl<|rn tk 3 rfl ?_;refine v7a (d:=4) (F:=zea.pc) (l:=s14.2) rfl rfl (hC ?_);refine rn tk 3 rfl ?_;cases hr;exact ato rfl rfl rfl rfl
  refine rn tk 6 rfl ?_;obtain ⟨v38,h39,hr⟩:=zaa hr;refine wih tk h39 rfl rfl rfl rfl rfl ?_;obtain ⟨v40,h41,hr⟩:=zaa hr;refine wo (Q6a (F:=cB) (l:=s14.1) (n:=b18) (j:=0) (v:=v40) (v' :=true) (pcs:=[pB true]) rfl rfl rfl qga rfl h41 rfl rfl) rfl<|rn tk 7 rfl ?_;obtain ⟨v42,h43,hr⟩:=zaa hr;refine wi tk h43 rfl rfl rfl rfl rfl<|rn tk 8 rfl ?_;refine q5a 1012 (d:=12) 9 1 rfl rfl rfl (hO ?_);refine rn tk 8 rfl<|al1 hr (fun s44=>[(1,.i a1),(2,.ptr 2 0),(5,.ptr 5 0),(6,.ptr 6 0),(7,.hs 1007 0),(8,.hs 1035 0),(11,.ptr 11 0),(12,.hs 1012 0),(13,.i s44.1)]) (fun s44=>[(1012,.row 9 false 1 (List.map cS s44.2.1)),(11,.cells [.i v42.Id,.s v42.Mail.Envelope.From,.l zca.pc v42.Mail.Envelope.To,.s v42.Mail.Envelope.Id,.l zha.pc v42.Mail.Message.Fields,.l cU v42.Mail.Message.Body,.i v42.Since,.i v42.Tries,.i v42.Due,.l zda.pc v42.To]),(1035,.row 4 true 1 (List.map cB ((List.set s14.1 (Int.toNat b18) true)))),(1007,.row 51 false 3 (List.map zea.pc s44.2.2)),(6,.cells [.i j3.1,.i j3.2]),(5,.cells [.i 0,.i 0]),(2,.cells [.l zba.pc a0.Entries,.i a0.Next])]) (.exit 4) (fun b45=>[(1,.i a1),(2,.ptr 2 0),(5,.ptr 5 0),(6,.ptr 6 0),(7,.hs 1007 0),(8,.hs 1035 0)]) (fun b45=>[(1035,.row 4 true 1 (List.map cB ((List.set s14.1 (Int.toNat b18) true)))),(1007,.row 51 false 3 (List.map zea.pc b45)),(6,.cells [.i j3.1,.i j3.2]),(5,.cells [.i 0,.i 0]),(2,.cells [.l zba.pc a0.Entries,.i a0.Next])]) rfl rfl (fun s44 x46 hr=>?_) (fun b45 hr=>?_)
  .unfold qya at hr;refine rn tk 6 rfl<|wn tk rfl rfl rfl<|rn tk 3 rfl<|ac 94 hr rfl (fun c47 hr=>?_) (fun c47 hr=>?_)
   .refine rn tk 2 rfl<|jb hr (fun j48=>[(1,.i a1),(2,.ptr 2 0),(5,.ptr 5 0),(6,.ptr 6 0),(7,.hs 1007 0),(8,.hs 1035 0),(11,.ptr 11 0),(12,.hs 1012 0),(13,.i s44.1)]) (fun j48=>[(1012,.row 9 false 1 (List.map cS j48.1)),(11,.cells [.i v42.Id,.s v42.Mail.Envelope.From,.l zca.pc v42.Mail.Envelope.To,.s v42.Mail.Envelope.Id,.l zha.pc v42.Mail.Message.Fields,.l cU v42.Mail.Message.Body,.i v42.Since,.i v42.Tries,.i v42.Due,.l zda.pc v42.To]),(1035,.row 4 true 1 (List.map cB ((List.set s14.1 (Int.toNat b18) true)))),(1007,.row 51 false 3 (List.map zea.pc j48.2)),(6,.cells [.i j3.1,.i j3.2]),(5,.cells [.i 0,.i 0]),(2,.cells [.l zba.pc a0.Entries,.i a0.Next])]) (fun j48 hr=>?_) (fun j48 hr=>?_)
    .refine rn tk 5 rfl ?_;obtain ⟨v49,h50,hr⟩:=zaa hr;refine cl (jua _ _ _ h50) rfl rfl<|rn tk 4 rfl<|jb hr (fun j51=>[(1,.i a1),(2,.ptr 2 0),(5,.ptr 5 0),(6,.ptr 6 0),(7,.hs 1007 0),(8,.hs 1035 0),(11,.ptr 11 0),(12,.hs 1012 0),(13,.i s44.1),(14,.s v49),(111,.bo j51)]) (fun j51=>[(1012,.row 9 false 1 (List.map cS s44.2.1)),(11,.cells [.i v42.Id,.s v42.Mail.Envelope.From,.l zca.pc v42.Mail.Envelope.To,.s v42.Mail.Envelope.Id,.l zha.pc v42.Mail.Message.Fields,.l cU v42.Mail.Message.Body,.i v42.Since,.i v42.Tries,.i v42.Due,.l zda.pc v42.To]),(1035,.row 4 true 1 (List.map cB ((List.set s14.1 (Int.toNat b18) true)))),(1007,.row 51 false 3 (List.map zea.pc s44.2.2)),(6,.cells [.i j3.1,.i j3.2]),(5,.cells [.i 0,.i 0]),(2,.cells [.l zba.pc a0.Entries,.i a0.Next])]) (fun j51 hr=>?_) (fun j51 hr=>?_)
     .refine rn tk 4 rfl ?_;obtain ⟨v52,h53,hr⟩:=zaa hr;refine wi tk h53 rfl rfl rfl rfl rfl<|rn tk 4 rfl<|bs 107 hr rfl (fun c54 hr=>?_) (fun c54 hr=>?_)
      .refine rn tk 5 rfl ?_;cases hr;exact jn _ rfl rfl rfl
      refine rn tk 2 rfl ?_;refine zTb (d:=108) (F:=cS) (l:=s44.2.1) rfl rfl (hO ?_);obtain ⟨v55,h56,hr⟩:=zaa hr;refine ug rfl rfl rfl<|cl (vCb _ _ _ h56) rfl rfl<|rn tk 2 rfl ?_;cases hr;exact jn _ rfl rfl rfl
     refine ac 111 hr rfl (fun c57 hr=>?_) (fun c57 hr=>?_)
     .refine rn tk 3 rfl ?_;cases hr;exact jn _ rfl rfl rfl
     refine rn tk 6 rfl<|wz cS ([v49]:List Str) tk rfl rfl (fun _=>rfl) rfl rfl rfl ?_;obtain ⟨v58,h59,hr⟩:=zaa hr;refine wa tk h59 rfl rfl rfl rfl (fun _=>rfl) rfl rfl<|rn tk 7 rfl ?_;obtain ⟨v60,h61,hr⟩:=zaa hr;refine cl (VSa _ _ _ h61) rfl rfl<|rn tk 10 rfl<|al1 hr (fun s62=>[(1,.i a1),(2,.ptr 2 0),(5,.ptr 5 0),(6,.ptr 6 0),(7,.hs 1007 0),(8,.hs 1035 0),(11,.ptr 11 0),(12,.hs 1012 0),(13,.i s44.1),(14,.s v49),(15,.i s62.1),(16,.i s62.2)]) (fun s62=>[(1012,.row 9 false 1 (List.map cS v58)),(11,.cells [.i v42.Id,.s v42.Mail.Envelope.From,.l zca.pc v42.Mail.Envelope.To,.s v42.Mail.Envelope.Id,.l zha.pc v42.Mail.Message.Fields,.l cU v42.Mail.Message.Body,.i v42.Since,.i v42.Tries,.i v42.Due,.l zda.pc v42.To]),(1035,.row 4 true 1 (List.map cB ((List.set s14.1 (Int.toNat b18) true)))),(1007,.row 51 false 3 (List.map zea.pc s44.2.2)),(6,.cells [.i j3.1,.i j3.2]),(5,.cells [.i 0,.i 0]),(2,.cells [.l zba.pc a0.Entries,.i a0.Next])]) (.exit 6) (fun b63=>[(1,.i a1),(2,.ptr 2 0),(5,.ptr 5 0),(6,.ptr 6 0),(7,.hs 1007 0),(8,.hs 1035 0),(11,.ptr 11 0),(12,.hs 1012 0),(13,.i s44.1),(14,.s v49),(15,.i b63)]) (fun b63=>[(1012,.row 9 false 1 (List.map cS v58)),(11,.cells [.i v42.Id,.s v42.Mail.Envelope.From,.l zca.pc v42.Mail.Envelope.To,.s v42.Mail.Envelope.Id,.l zha.pc v42.Mail.Message.Fields,.l cU v42.Mail.Message.Body,.i v42.Since,.i v42.Tries,.i v42.Due,.l zda.pc v42.To]),(1035,.row 4 true 1 (List.map cB ((List.set s14.1 (Int.toNat b18) true)))),(1007,.row 51 false 3 (List.map zea.pc s44.2.2)),(6,.cells [.i j3.1,.i j3.2]),(5,.cells [.i 0,.i 0]),(2,.cells [.l zba.pc a0.Entries,.i a0.Next])]) rfl rfl (fun s62 x64 hr=>?_) (fun b63 hr=>?_)
     .unfold vca at hr;refine rn tk 5 rfl<|wnh tk rfl rfl rfl rfl<|rn tk 3 rfl<|ac 122 hr rfl (fun c65 hr=>?_) (fun c65 hr=>?_)
      .refine rn tk 2 rfl<|jb hr (fun j66=>[(1,.i a1),(2,.ptr 2 0),(5,.ptr 5 0),(6,.ptr 6 0),(7,.hs 1007 0),(8,.hs 1035 0),(11,.ptr 11 0),(12,.hs 1012 0),(13,.i s44.1),(14,.s v49),(15,.i j66),(16,.i s62.2)]) (fun j66=>[(1012,.row 9 false 1 (List.map cS v58)),(11,.cells [.i v42.Id,.s v42.Mail.Envelope.From,.l zca.pc v42.Mail.Envelope.To,.s v42.Mail.Envelope.Id,.l zha.pc v42.Mail.Message.Fields,.l cU v42.Mail.Message.Body,.i v42.Since,.i v42.Tries,.i v42.Due,.l zda.pc v42.To]),(1035,.row 4 true 1 (List.map cB ((List.set s14.1 (Int.toNat b18) true)))),(1007,.row 51 false 3 (List.map zea.pc s44.2.2)),(6,.cells [.i j3.1,.i j3.2]),(5,.cells [.i 0,.i 0]),(2,.cells [.l zba.pc a0.Entries,.i a0.Next])]) (fun j66 hr=>?_) (fun j66 hr=>?_)
       .refine rn tk 5 rfl ?_;refine zTb (d:=125) (F:=zea.pc) (l:=s44.2.2) rfl rfl (hO ?_);obtain ⟨v67,h68,hr⟩:=zaa hr;refine wi tk h68 rfl rfl rfl rfl rfl<|rn tk 6 rfl<|ac 131 hr rfl (fun c69 hr=>?_) (fun c69 hr=>?_)
        .refine rn tk 6 rfl ?_;cases hr;exact jn _ rfl rfl rfl
        refine rn tk 2 rfl ?_;cases hr;exact jn _ rfl rfl rfl
       refine rn tk 5 rfl ?_;cases hr;exact atc rfl rfl
      refine rn tk 2 rfl ?_;cases hr;exact ato rfl rfl rfl rfl
     refine rn tk 2 rfl<|jb hr (fun j70=>[(1,.i a1),(2,.ptr 2 0),(5,.ptr 5 0),(6,.ptr 6 0),(7,.hs 1007 0),(8,.hs 1035 0),(11,.ptr 11 0),(12,.hs 1012 0),(13,.i s44.1),(14,.s v49),(141,.bo j70)]) (fun j70=>[(1012,.row 9 false 1 (List.map cS v58)),(11,.cells [.i v42.Id,.s v42.Mail.Envelope.From,.l zca.pc v42.Mail.Envelope.To,.s v42.Mail.Envelope.Id,.l zha.pc v42.Mail.Message.Fields,.l cU v42.Mail.Message.Body,.i v42.Since,.i v42.Tries,.i v42.Due,.l zda.pc v42.To]),(1035,.row 4 true 1 (List.map cB ((List.set s14.1 (Int.toNat b18) true)))),(1007,.row 51 false 3 (List.map zea.pc s44.2.2)),(6,.cells [.i j3.1,.i j3.2]),(5,.cells [.i 0,.i 0]),(2,.cells [.l zba.pc a0.Entries,.i a0.Next])]) (fun j70 hr=>?_) (fun j70 hr=>?_)
     .refine rn tk 3 rfl ?_;obtain ⟨v71,h72,hr⟩:=zaa hr;refine cl (Zca _ _ _ h72) rfl rfl<|rn tk 2 rfl<|bs 138 hr rfl (fun c73 hr=>?_) (fun c73 hr=>?_)
      .refine rn tk 4 rfl ?_;cases hr;exact jn _ rfl rfl rfl
      refine rn tk 4 rfl ?_;cases hr;exact jn _ rfl rfl rfl
     refine ac 141 hr rfl (fun c74 hr=>?_) (fun c74 hr=>?_)
     .obtain ⟨v75,h76,hr⟩:=zaa hr;refine dr 9 [(150,.l zea.pc (([(zea.mk v42.Id v49 v75)]:List zea))),(149,.agg [.i v42.Id,.s v49,.l cI v75]),(148,.l cI v75),(147,.s v49),(146,.agg [.i v42.Id,.s v42.Mail.Envelope.From,.l zca.pc v42.Mail.Envelope.To,.s v42.Mail.Envelope.Id,.l zha.pc v42.Mail.Message.Fields,.l cU v42.Mail.Message.Body,.i v42.Since,.i v42.Tries,.i v42.Due,.l zda.pc v42.To]),(145,.s v49),(144,.i v42.Id),(143,.ptr 11 0),(142,.hs 1007 0)] mixed (by kernel_rfl) rfl rfl (pq tk rfl (.plain rfl) (pq tk rfl (.plain rfl) (pq tk rfl (.plain rfl) (pq tk rfl (.plain rfl) (pq tk rfl (.plain rfl) (pq tk rfl (.plain rfl) (.run (.plain rfl) (qLa (Y1a v42 v49 v75 h76) rfl) (pq tk rfl (.plain rfl) (.run (.plain rfl) (yKa (F:=zea.pc) (l:=([(zea.mk v42.Id v49 v75)]:List zea)) zBa zIa rfl (fun _=>rfl) rfl rfl) .nil))))))))) rfl ?_;obtain ⟨v77,h78,hr⟩:=zaa hr;refine wa tk h78 rfl rfl rfl rfl (fun _=>rfl) rfl rfl<|rn tk 3 rfl ?_;cases hr;exact jn _ rfl rfl rfl
     refine rn tk 2 rfl ?_;cases hr;exact jn _ rfl rfl rfl
    refine rn tk 5 rfl ?_;cases hr;exact atc rfl rfl
   refine rn tk 2 rfl ?_;cases hr;exact ato rfl rfl rfl rfl
  refine rn tk 2 rfl ?_;cases hr;exact atc rfl rfl
 refine rn tk 1 rfl ?_;cases hr;exact kr tk (.inr rfl) rfl rfl
theorem Kea(a0:List zea)(a1:List zea)(r:Bool)(hr:qZa a0 a1=some r):Run prog 17 [.l zea.pc a0,.l zea.pc a1] (.bo r):=by
 unfold qZa at hr;refine rf (fn:=f17) ⟨func17,rfl,by kernel_rfl⟩ rfl (fun _=>rfl) fun g0 hg=>?_
 refine rn tk 9 rfl<|wn tk rfl rfl rfl<|rn tk 1 rfl<|wn tk rfl rfl rfl<|rn tk 3 rfl<|ac 10 hr rfl (fun c1 hr=>?_) (fun c1 hr=>?_)
 .refine rn tk 7 rfl ?_;cases hr;exact kr tk (.inr rfl) rfl rfl
 refine rn tk 9 rfl<|al2 hr (fun s2=>[(0,.l zea.pc a0),(1,.l zea.pc a1),(5,.i s2)]) (fun s2=>[]) (.exit 0) (fun b3=>[]) (fun b3=>[]) .ret (fun b4=>[(4,.bo b4)]) (fun b4=>[]) rfl rfl (fun s2 x6 hr=>?_) (fun b3 hr=>?_) (fun b4 hr=>?_)
 .unfold qNa at hr;refine rn tk 5 rfl<|wn tk rfl rfl rfl<|rn tk 3 rfl<|ac 14 hr rfl (fun c7 hr=>?_) (fun c7 hr=>?_)
  .refine rn tk 4 rfl<|jb hr (fun j8=>[(0,.l zea.pc a0),(1,.l zea.pc a1),(5,.i s2),(54,.bo j8)]) (fun j8=>[]) (fun j8 hr=>?_) (fun j8 hr=>?_)
   .obtain ⟨v9,h10,hr⟩:=zaa hr;obtain ⟨v11,h12,hr⟩:=zaa hr;refine w4a ((v9.Entry !=v11.Entry)) (fun c13=>?_) (fun c13=>?_)
    .replace hr:=Qda c13 hr
     refine dr 35 [(51,.tup []),(50,.tup []),(49,.tup []),(48,.tup []),(47,.tup []),(46,.tup []),(45,.tup []),(44,.tup []),(43,.tup []),(42,.tup []),(41,.bo true),(40,.bo true),(39,.tup []),(38,.tup []),(37,.tup []),(36,.tup []),(35,.tup []),(34,.tup []),(33,.tup []),(32,.tup []),(31,.tup []),(30,.tup []),(29,.tup []),(28,.bo ((v9.Entry !=v11.Entry))),(27,.bo ((v9.Entry !=v11.Entry))),(26,.i v11.Entry),(25,.ep [pI v11.Entry,pS v11.Domain,pL cI v11.To]),(24,.ep [pI v11.Entry,pS v11.Domain,pL cI v11.To]),(23,.i s2),(22,.l zea.pc a1),(21,.i v9.Entry),(20,.ep [pI v9.Entry,pS v9.Domain,pL cI v9.To]),(19,.ep [pI v9.Entry,pS v9.Domain,pL cI v9.To]),(18,.i s2),(17,.l zea.pc a0)] mixed (by kernel_rfl) rfl rfl (pq tk rfl (.plain rfl) (pq tk rfl (.plain rfl) (.run (.plain rfl) (zJa (kKa (f:=zea.pc) rfl rfl zBa zIa rfl h10)) (pq tk rfl (.plain rfl) (pq tk rfl (.plain rfl) (pq tk rfl (.plain rfl) (pq tk rfl (.plain rfl) (.run (.plain rfl) (zJa (kKa (f:=zea.pc) rfl rfl zBa zIa rfl h12)) (pq tk rfl (.plain rfl) (pq tk rfl (.plain rfl) (pq tk rfl (.plain rfl) (pq tk rfl (.plain rfl) (.skip (.no (d:=28) rfl rfl rfl c13) (.skip (.no (d:=28) rfl rfl rfl c13) (.skip (.no (d:=28) rfl rfl rfl c13) (.skip (.no (d:=28) rfl rfl rfl c13) (.skip (.no (d:=28) rfl rfl rfl c13) (.skip (.no (d:=28) rfl rfl rfl c13) (.skip (.no (d:=28) rfl rfl rfl c13) (.skip (.no (d:=28) rfl rfl rfl c13) (.skip (.no (d:=28) rfl rfl rfl c13) (.skip (.no (d:=28) rfl rfl rfl c13) (.skip (.no (d:=28) rfl rfl rfl c13) (.run (.plain rfl) (zJa (yOa rfl c13)) (pq tk rfl (.plain rfl) (.skip (.no (d:=41) rfl rfl rfl rfl) (.skip (.no (d:=41) rfl rfl rfl rfl) (.skip (.no (d:=41) rfl rfl rfl rfl) (.skip (.no (d:=41) rfl rfl rfl rfl) (.skip (.no (d:=41) rfl rfl rfl rfl) (.skip (.no (d:=41) rfl rfl rfl rfl) (.skip (.no (d:=41) rfl rfl rfl rfl) (.skip (.no (d:=41) rfl rfl rfl rfl) (.skip (.no (d:=41) rfl rfl rfl rfl) (.skip (.no (d:=41) rfl rfl rfl rfl) .nil))))))))))))))))))))))))))))))))))) rfl<|rn tk 4 rfl ?_;cases hr;exact jn _ rfl rfl rfl
    replace hr:=Qea c13 hr
    obtain ⟨v14,h15,hr⟩:=zaa hr;obtain ⟨v16,h17,hr⟩:=zaa hr;refine w4a ((v14.Domain !=v16.Domain)) (fun c18=>?_) (fun c18=>?_)
    .replace hr:=Qda c18 hr
     refine dr 35 [(51,.tup []),(50,.tup []),(49,.tup []),(48,.tup []),(47,.tup []),(46,.tup []),(45,.tup []),(44,.tup []),(43,.tup []),(42,.tup []),(41,.bo ((v14.Domain !=v16.Domain))),(40,.bo ((v14.Domain !=v16.Domain))),(39,.bo ((v14.Domain !=v16.Domain))),(38,.s v16.Domain),(37,.ep [pS v16.Domain,pL cI v16.To]),(36,.ep [pI v16.Entry,pS v16.Domain,pL cI v16.To]),(35,.i s2),(34,.l zea.pc a1),(33,.s v14.Domain),(32,.ep [pS v14.Domain,pL cI v14.To]),(31,.ep [pI v14.Entry,pS v14.Domain,pL cI v14.To]),(30,.i s2),(29,.l zea.pc a0),(28,.bo ((v9.Entry !=v11.Entry))),(27,.bo ((v9.Entry !=v11.Entry))),(26,.i v11.Entry),(25,.ep [pI v11.Entry,pS v11.Domain,pL cI v11.To]),(24,.ep [pI v11.Entry,pS v11.Domain,pL cI v11.To]),(23,.i s2),(22,.l zea.pc a1),(21,.i v9.Entry),(20,.ep [pI v9.Entry,pS v9.Domain,pL cI v9.To]),(19,.ep [pI v9.Entry,pS v9.Domain,pL cI v9.To]),(18,.i s2),(17,.l zea.pc a0)] mixed (by kernel_rfl) rfl rfl (pq tk rfl (.plain rfl) (pq tk rfl (.plain rfl) (.run (.plain rfl) (zJa (kKa (f:=zea.pc) rfl rfl zBa zIa rfl h10)) (pq tk rfl (.plain rfl) (pq tk rfl (.plain rfl) (pq tk rfl (.plain rfl) (pq tk rfl (.plain rfl) (.run (.plain rfl) (zJa (kKa (f:=zea.pc) rfl rfl zBa zIa rfl h12)) (pq tk rfl (.plain rfl) (pq tk rfl (.plain rfl) (pq tk rfl (.plain rfl) (pq tk rfl (.plain rfl) (pq tk rfl (.yes (d:=28) rfl rfl rfl c13) (pq tk rfl (.yes (d:=28) rfl rfl rfl c13) (.run (.yes (d:=28) rfl rfl rfl c13) (zJa (kKa (f:=zea.pc) rfl rfl zBa zIa rfl h15)) (pq tk rfl (.yes (d:=28) rfl rfl rfl c13) (pq tk rfl (.yes (d:=28) rfl rfl rfl c13) (pq tk rfl (.yes (d:=28) rfl rfl rfl c13) (pq tk rfl (.yes (d:=28) rfl rfl rfl c13) (.run (.yes (d:=28) rfl rfl rfl c13) (zJa (kKa (f:=zea.pc) rfl rfl zBa zIa rfl h17)) (pq tk rfl (.yes (d:=28) rfl rfl rfl c13) (pq tk rfl (.yes (d:=28) rfl rfl rfl c13) (pq tk rfl (.yes (d:=28) rfl rfl rfl c13) (.run (.plain rfl) (zJa (jJa rfl c13)) (pq tk rfl (.plain rfl) (.skip (.no (d:=41) rfl rfl rfl c18) (.skip (.no (d:=41) rfl rfl rfl c18) (.skip (.no (d:=41) rfl rfl rfl c18) (.skip (.no (d:=41) rfl rfl rfl c18) (.skip (.no (d:=41) rfl rfl rfl c18) (.skip (.no (d:=41) rfl rfl rfl c18) (.skip (.no (d:=41) rfl rfl rfl c18) (.skip (.no (d:=41) rfl rfl rfl c18) (.skip (.no (d:=41) rfl rfl rfl c18) (.skip (.no (d:=41) rfl rfl rfl c18) .nil))))))))))))))))))))))))))))))))))) rfl<|kn 41 c18 rfl<|rn tk 4 rfl ?_;cases hr;exact jn _ rfl rfl rfl
    replace hr:=Qea c18 hr
    obtain ⟨v19,h20,hr⟩:=zaa hr;obtain ⟨v21,h22,hr⟩:=zaa hr;refine dr 35 [(51,.l cI v21.To),(50,.ep [pL cI v21.To]),(49,.ep [pI v21.Entry,pS v21.Domain,pL cI v21.To]),(48,.i s2),(47,.l zea.pc a1),(46,.l cI v19.To),(45,.ep [pL cI v19.To]),(44,.ep [pI v19.Entry,pS v19.Domain,pL cI v19.To]),(43,.i s2),(42,.l zea.pc a0),(41,.bo ((v14.Domain !=v16.Domain))),(40,.bo ((v14.Domain !=v16.Domain))),(39,.bo ((v14.Domain !=v16.Domain))),(38,.s v16.Domain),(37,.ep [pS v16.Domain,pL cI v16.To]),(36,.ep [pI v16.Entry,pS v16.Domain,pL cI v16.To]),(35,.i s2),(34,.l zea.pc a1),(33,.s v14.Domain),(32,.ep [pS v14.Domain,pL cI v14.To]),(31,.ep [pI v14.Entry,pS v14.Domain,pL cI v14.To]),(30,.i s2),(29,.l zea.pc a0),(28,.bo ((v9.Entry !=v11.Entry))),(27,.bo ((v9.Entry !=v11.Entry))),(26,.i v11.Entry),(25,.ep [pI v11.Entry,pS v11.Domain,pL cI v11.To]),(24,.ep [pI v11.Entry,pS v11.Domain,pL cI v11.To]),(23,.i s2),(22,.l zea.pc a1),(21,.i v9.Entry),(20,.ep [pI v9.Entry,pS v9.Domain,pL cI v9.To]),(19,.ep [pI v9.Entry,pS v9.Domain,pL cI v9.To]),(18,.i s2),(17,.l zea.pc a0)] mixed (by kernel_rfl) rfl rfl (pq tk rfl (.plain rfl) (pq tk rfl (.plain rfl) (.run (.plain rfl) (zJa (kKa (f:=zea.pc) rfl rfl zBa zIa rfl h10)) (pq tk rfl (.plain rfl) (pq tk rfl (.plain rfl) (pq tk rfl (.plain rfl) (pq tk rfl (.plain rfl) (.run (.plain rfl) (zJa (kKa (f:=zea.pc) rfl rfl zBa zIa rfl h12)) (pq tk rfl (.plain rfl) (pq tk rfl (.plain rfl) (pq tk rfl (.plain rfl) (pq tk rfl (.plain rfl) (pq tk rfl (.yes (d:=28) rfl rfl rfl c13) (pq tk rfl (.yes (d:=28) rfl rfl rfl c13) (.run (.yes (d:=28) rfl rfl rfl c13) (zJa (kKa (f:=zea.pc) rfl rfl zBa zIa rfl h15)) (pq tk rfl (.yes (d:=28) rfl rfl rfl c13) (pq tk rfl (.yes (d:=28) rfl rfl rfl c13) (pq tk rfl (.yes (d:=28) rfl rfl rfl c13) (pq tk rfl (.yes (d:=28) rfl rfl rfl c13) (.run (.yes (d:=28) rfl rfl rfl c13) (zJa (kKa (f:=zea.pc) rfl rfl zBa zIa rfl h17)) (pq tk rfl (.yes (d:=28) rfl rfl rfl c13) (pq tk rfl (.yes (d:=28) rfl rfl rfl c13) (pq tk rfl (.yes (d:=28) rfl rfl rfl c13) (.run (.plain rfl) (zJa (jJa rfl c13)) (pq tk rfl (.plain rfl) (pq tk rfl (.yes (d:=41) rfl rfl rfl c18) (pq tk rfl (.yes (d:=41) rfl rfl rfl c18) (.run (.yes (d:=41) rfl rfl rfl c18) (zJa (kKa (f:=zea.pc) rfl rfl zBa zIa rfl h20)) (pq tk rfl (.yes (d:=41) rfl rfl rfl c18) (pq tk rfl (.yes (d:=41) rfl rfl rfl c18) (pq tk rfl (.yes (d:=41) rfl rfl rfl c18) (pq tk rfl (.yes (d:=41) rfl rfl rfl c18) (.run (.yes (d:=41) rfl rfl rfl c18) (zJa (kKa (f:=zea.pc) rfl rfl zBa zIa rfl h22)) (pq tk rfl (.yes (d:=41) rfl rfl rfl c18) (pq tk rfl (.yes (d:=41) rfl rfl rfl c18) .nil))))))))))))))))))))))))))))))))))) rfl<|kn 41 c18 rfl ?_;obtain ⟨v23,h24,hr⟩:=zaa hr;refine ug rfl rfl rfl<|cl (W2a _ _ _ h24) rfl rfl<|rn tk 3 rfl ?_;cases hr;exact jn _ rfl rfl rfl
   refine ac 54 hr rfl (fun c25 hr=>?_) (fun c25 hr=>?_)
   .refine rn tk 8 rfl ?_;cases hr;exact ato rfl rfl rfl rfl
   refine rn tk 8 rfl ?_;cases hr;exact atc rfl rfl
  refine rn tk 2 rfl ?_;cases hr;exact ato rfl rfl rfl rfl
 .refine rn tk 8 rfl ?_;cases hr;exact kr tk (.inr rfl) rfl rfl
 refine rn tk 2 rfl ?_;cases hr;exact kr tk (.inr rfl) rfl rfl
theorem w1a(a0:zna)(a1:Int)(r:Bool)(hr:kwa a0 a1=some r):Run prog 4 [.agg [.l zba.pc a0.Entries,.i a0.Next],.i a1] (.bo r):=by
 unfold kwa at hr;refine rf (fn:=Tryz.f4) ⟨func4,rfl,by kernel_rfl⟩ rfl (fun _=>rfl) fun g0 hg=>?_
 refine rn tk 10 rfl ?_;obtain ⟨v1,h2,hr⟩:=zaa hr;refine cl (Zba _ _ _ h2) rfl rfl<|rn tk 12 rfl ?_;obtain ⟨v3,h4,hr⟩:=zaa hr;refine cl (Wqa _ _ _ h4) rfl rfl<|rn tk 8 rfl<|jb hr (fun j5=>[(4,.bo j5)]) (fun j5=>[]) (fun j5 hr=>?_) (fun j5 hr=>?_)
 .refine rn tk 1 rfl ?_;obtain ⟨v6,h7,hr⟩:=zaa hr;refine cl (Y0a _ h7) rfl rfl<|rn tk 1 rfl<|bs 22 hr rfl (fun c8 hr=>?_) (fun c8 hr=>?_)
  .refine rn tk 2 rfl<|ug rfl rfl rfl<|wq (QXa rfl rfl Qma Yza (.int rfl (by decide) z8a (.int rfl (by decide) z8a .nil))) rfl rfl rfl<|rn tk 2 rfl<|bs 27 hr rfl (fun c9 hr=>?_) (fun c9 hr=>?_)
   .refine rn tk 2 rfl ?_;obtain ⟨v10,h11,hr⟩:=zaa hr;refine ug rfl rfl rfl<|cl (Kea _ _ _ h11) rfl rfl<|rn tk 3 rfl ?_;cases hr;exact jn _ rfl rfl rfl
   refine rn tk 6 rfl ?_;cases hr;exact jn _ rfl rfl rfl
  refine rn tk 11 rfl ?_;cases hr;exact jn _ rfl rfl rfl
 refine rn tk 1 rfl ?_;cases hr;exact kr tk (.inr rfl) rfl rfl
end Go.Proofs.YtgajlblehdboiaaGreat
namespace Go.Proofs.YtgajlblehdboiaaGreat.queueReadyMatchesSpec
open Go.ChangeShapes Go.WideShapes Go.ChangeAt Go.RowKit Go.Proofs.Tryz
theorem contract(H:Type)(enc:TypeId × Value->H)(W:World)(base:Nat)(args:Array Value)(ds gs:List (DataW H))(before:List MemPlace)
 (hval:∀(j:Nat) t v,Tryz.f4.params[j]? =some t->args[j]? =some v->Value.okWide prog W .any base t v)
 (hW:DataW.Whole enc prog Tryz.f4.params.toList Rows.queueReadyMatchesSpecSpec.vars false W args.toList ds gs before) (hk:Rows.uptoSmall H (ds++gs)=true) (hgl:Gl (gAll W)):
 Calls prog 4 args W fun e W' =>∃v,e=.returned v/\Rows.queueReadyMatchesSpecSpec.post enc prog Tryz.f4 false true false false W args v W' :=by
 have hW' :=hW;obtain ⟨p,q,hA0,hV,rfl,hfz,hnd⟩:=hW;have hA:DataW.TrodAll enc prog W 0 (fun _=>true) true Tryz.f4.params.toList args.toList ds p:=hA0;rw[Tryz.params4]at hA hval;obtain ⟨v0,vs0,d0,ds0,p0,q0,hargs,rfl,rfl,h0,r0⟩:=trodAll_cons hA;obtain ⟨v1,vs1,d1,ds1,p1,q1,rfl,rfl,rfl,h1,r1⟩:=trodAll_cons r0;obtain ⟨rfl,rfl,rfl⟩:=trodAll_nil r1;obtain rfl:args= #[v0,v1]:=by cases args;simp_all
 obtain ⟨rfl,rfl⟩:=trodVars_none hV;obtain ⟨a0,e0,o0,k0⟩:=arg_agg Jxa (by obtain ⟨cs,h,_⟩:=okWide_struct yBa.u (hval 0 _ v0 rfl rfl);exact ⟨cs,h⟩) h0;obtain ⟨a1,e1,o1,k1⟩:=arg_one yga (by obtain ⟨_,h⟩:=okWide_int z8a.u (hval 1 _ v1 rfl rfl);rw[h];rfl) h1;have hk2:=of_decide_eq_true hk;simp only[List.append_nil,Rows.uptoBulkAll]at hk2;have ht:=wQa a0 a1 o0 o1 (by (try dsimp only);omega);have key:Calls prog 4 #[v0,v1] W fun e W' =>e=.returned (.bool true)/\Below W.heap.size W W' :=Jka (w1a a0 a1 true ht) hgl (kIb (.cons e0 (.cons (e1 _ rfl) .nil)))
 refine key.mono fun e W' ⟨he,hb⟩=>⟨_,he,?_⟩
 exact qRb laidOut (by kernel_rfl) underlying4 (by kernel_rfl) rfl rfl hW' hb
theorem lifted(os:Os)(started:os.Started)(H:Type)(enc:TypeId × Value->H)(F:Stop.Interp):
 ReturnsInHanded {} Tryz.checked os 4 .any ((Rows.OpenSpec.upto Rows.queueReadyMatchesSpecSpec).pre6 enc prog Tryz.f4 Rows.queueReadyMatchesSpecUptoRow.domain false) (((Rows.OpenSpec.upto Rows.queueReadyMatchesSpecSpec).at F).post enc prog Tryz.f4 false true false false):=by
 refine wza (C:=Tryz.checked) (s:=Rows.OpenSpec.upto Rows.queueReadyMatchesSpecSpec) (k:=Rows.uptoSmall) rfl own started (by kernel_rfl) func4
  (OpenSpec.witness (enc:=enc) (C:=Tryz.checked) (s:=Rows.OpenSpec.upto Rows.queueReadyMatchesSpecSpec) (k:=Rows.uptoSmall) rfl false ⟨#[], #[.agg #[.slice none 0 0,.int .i64 0],.int .i64 0],[]⟩ 8 (by kernel_rfl) (by kernel_rfl) (by kernel_rfl)
   (x:=([.agg [.nil,.lit (.int .i64 0)],.lit (.int .i64 0)],[],[])) (by kernel_rfl) rfl (by kernel_rfl)) ?_
 intro W base args ds gs before hval hW _ hk hsh _;exact contract H enc W base args ds gs before hval hW hk (Jla hsh)
theorem over:Rows.queueReadyMatchesSpecUptoRow.holds Tryz.pinned (Rows.OpenSpec.upto Rows.queueReadyMatchesSpecSpec):=
 OpenClaim.holds_of_cond 4 Tryz.f4 rfl rfl rfl rfl rfl rfl rfl ⟨rfl,rfl,rfl,rfl,rfl⟩ rfl rfl rfl rfl rfl (by kernel_rfl) func4 (by kernel_rfl)
  (of_decide_eq_true (by kernel_rfl)) (by unfold Func.isWrapper;first | (rw[if_pos (by decide+kernel)];kernel_rfl) | (rw[if_neg (by decide+kernel)];exact ⟨rfl,rfl⟩))
  (fun os started H enc _ F=>lifted os started H enc F)
theorem proved:Rows.QueueReadyMatchesSpecUptoSaid:=over
#print axioms proved
end Go.Proofs.YtgajlblehdboiaaGreat.queueReadyMatchesSpec
