/- The law ListsMatchSpec holds for every input of bulk up to the given bound: it returns true and leaves its arguments as they were. Written by program. -/
import Derived.Test.YtkoijpogjobgjaaGreatKListsMatchSpec3
set_option linter.unusedVariables false
set_option linter.unusedSimpArgs false
namespace Go.Proofs.YtkoijpogjobgjaaGreat
open Go.RowKit
set_option maxRecDepth 100000
set_option maxHeartbeats 40000000
set_option linter.unusedVariables false
theorem R_SameList_run (a0 : TList) (a1 : TList) (r : Bool) (hr : R_SameList a0 a1 = some r) : Run Tryz.prog 11 [.agg [.s a0.Address, .s a0.Owner, .bo a0.Open, .l cS a0.Subscribers, .l cS a0.Moderators, .l THeld.pc a0.Held, .i a0.Next], .agg [.s a1.Address, .s a1.Owner, .bo a1.Open, .l cS a1.Subscribers, .l cS a1.Moderators, .l THeld.pc a1.Held, .i a1.Next]] (.bo r) := by
 unfold R_SameList at hr
 refine rf (fn := Tryz.f11) ⟨Tryz.func11, rfl, by kernel_rfl⟩ rfl (fun _ => rfl) fun g0 hg => ?_
 refine rn tk 8 rfl ?_
 refine jb hr (fun j1 => [(2, .ptr 2 0), (3, .ptr 3 0), (56, .bo j1)]) (fun j1 => [(3, .cells [.s a1.Address, .s a1.Owner, .bo a1.Open, .l cS a1.Subscribers, .l cS a1.Moderators, .l THeld.pc a1.Held, .i a1.Next]), (2, .cells [.s a0.Address, .s a0.Owner, .bo a0.Open, .l cS a0.Subscribers, .l cS a0.Moderators, .l THeld.pc a0.Held, .i a0.Next])]) (fun j1 hr => ?_) (fun j1 hr => ?_)
 ·
  refine rn tk 7 rfl ?_
  refine bs 11 hr rfl (fun c2 hr => ?_) (fun c2 hr => ?_)
  ·
   refine rn tk 46 rfl ?_
   cases hr
   exact jn _ rfl rfl rfl
  ·
   refine rn tk 7 rfl ?_
   refine bs 18 hr rfl (fun c3 hr => ?_) (fun c3 hr => ?_)
   ·
    refine rn tk 39 rfl ?_
    cases hr
    exact jn _ rfl rfl rfl
   ·
    refine rn tk 7 rfl ?_
    refine bs 25 hr rfl (fun c4 hr => ?_) (fun c4 hr => ?_)
    ·
     refine rn tk 32 rfl ?_
     cases hr
     exact jn _ rfl rfl rfl
    ·
     refine rn tk 7 rfl ?_
     refine bs 32 hr rfl (fun c5 hr => ?_) (fun c5 hr => ?_)
     ·
      refine rn tk 25 rfl ?_
      cases hr
      exact jn _ rfl rfl rfl
     ·
      refine rn tk 4 rfl ?_
      obtain ⟨v6, h7, hr⟩ := bind_some hr
      refine ug rfl rfl rfl ?_
      refine cl (R_Strings_run _ _ _ h7) rfl rfl ?_
      refine rn tk 3 rfl ?_
      refine bs 40 hr rfl (fun c8 hr => ?_) (fun c8 hr => ?_)
      ·
       refine rn tk 17 rfl ?_
       cases hr
       exact jn _ rfl rfl rfl
      ·
       refine rn tk 4 rfl ?_
       obtain ⟨v9, h10, hr⟩ := bind_some hr
       refine ug rfl rfl rfl ?_
       refine cl (R_Strings_run _ _ _ h10) rfl rfl ?_
       refine rn tk 3 rfl ?_
       refine bs 48 hr rfl (fun c11 hr => ?_) (fun c11 hr => ?_)
       ·
        refine rn tk 9 rfl ?_
        cases hr
        exact jn _ rfl rfl rfl
       ·
        refine rn tk 2 rfl ?_
        refine ug rfl rfl rfl ?_
        refine wn tk rfl rfl rfl ?_
        refine rn tk 2 rfl ?_
        refine ug rfl rfl rfl ?_
        refine wn tk rfl rfl rfl ?_
        refine rn tk 3 rfl ?_
        cases hr
        exact jn _ rfl rfl rfl
 ·
  refine ac 56 hr rfl (fun c12 hr => ?_) (fun c12 hr => ?_)
  ·
   refine rn tk 7 rfl ?_
   cases hr
   exact kr tk (.inr rfl) rfl rfl
  ·
   refine rn tk 9 rfl ?_
   refine al2 hr (fun s13 => [(2, .ptr 2 0), (3, .ptr 3 0), (5, .i s13)]) (fun s13 => [(3, .cells [.s a1.Address, .s a1.Owner, .bo a1.Open, .l cS a1.Subscribers, .l cS a1.Moderators, .l THeld.pc a1.Held, .i a1.Next]), (2, .cells [.s a0.Address, .s a0.Owner, .bo a0.Open, .l cS a0.Subscribers, .l cS a0.Moderators, .l THeld.pc a0.Held, .i a0.Next])]) (.exit 0) (fun b14 => []) (fun b14 => []) .ret (fun b15 => [(4, .bo b15)]) (fun b15 => []) rfl rfl (fun s13 x17 hr => ?_) (fun b14 hr => ?_) (fun b15 hr => ?_)
   ·
    unfold R_SameList_l1 at hr
    refine rn tk 6 rfl ?_
    refine wn tk rfl rfl rfl ?_
    refine rn tk 3 rfl ?_
    refine ac 61 hr rfl (fun c18 hr => ?_) (fun c18 hr => ?_)
    ·
     refine rn tk 4 rfl ?_
     refine jb hr (fun j19 => [(2, .ptr 2 0), (3, .ptr 3 0), (5, .i s13), (92, .bo j19)]) (fun j19 => [(3, .cells [.s a1.Address, .s a1.Owner, .bo a1.Open, .l cS a1.Subscribers, .l cS a1.Moderators, .l THeld.pc a1.Held, .i a1.Next]), (2, .cells [.s a0.Address, .s a0.Owner, .bo a0.Open, .l cS a0.Subscribers, .l cS a0.Moderators, .l THeld.pc a0.Held, .i a0.Next])]) (fun j19 hr => ?_) (fun j19 hr => ?_)
     ·
      obtain ⟨v20, h21, hr⟩ := bind_some hr
      obtain ⟨v22, h23, hr⟩ := bind_some hr
      refine bool_split ((v20.Number != v22.Number)) (fun c24 => ?_) (fun c24 => ?_)
      ·
       replace hr := cond_t c24 hr
       refine dr 26 [(89, .tup []), (88, .tup []), (87, .tup []), (86, .tup []), (85, .tup []), (84, .tup []), (83, .tup []), (82, .tup []), (81, .tup []), (80, .tup []), (79, .tup []), (78, .tup []), (77, .bo ((v20.Number != v22.Number))), (76, .bo ((v20.Number != v22.Number))), (75, .i v22.Number), (74, .ep [pI v22.Number, pS v22.Mail.Envelope.From, pL TRecipient.pc v22.Mail.Envelope.To, pS v22.Mail.Envelope.Id, pL TField.pc v22.Mail.Message.Fields, pL cU v22.Mail.Message.Body]), (73, .ep [pI v22.Number, pS v22.Mail.Envelope.From, pL TRecipient.pc v22.Mail.Envelope.To, pS v22.Mail.Envelope.Id, pL TField.pc v22.Mail.Message.Fields, pL cU v22.Mail.Message.Body]), (72, .i s13), (71, .l THeld.pc a1.Held), (70, .ptr 3 5), (69, .i v20.Number), (68, .ep [pI v20.Number, pS v20.Mail.Envelope.From, pL TRecipient.pc v20.Mail.Envelope.To, pS v20.Mail.Envelope.Id, pL TField.pc v20.Mail.Message.Fields, pL cU v20.Mail.Message.Body]), (67, .ep [pI v20.Number, pS v20.Mail.Envelope.From, pL TRecipient.pc v20.Mail.Envelope.To, pS v20.Mail.Envelope.Id, pL TField.pc v20.Mail.Message.Fields, pL cU v20.Mail.Message.Body]), (66, .i s13), (65, .l THeld.pc a0.Held), (64, .ptr 2 5)] mixed (by kernel_rfl) rfl rfl (pq tk rfl (.plain rfl) (pq tk rfl (.plain rfl) (pq tk rfl (.plain rfl) (.run (.plain rfl) (opG_q (ev_idx (f := THeld.pc) rfl rfl ty_s_api_Held ty_api_Held rfl h21)) (pq tk rfl (.plain rfl) (pq tk rfl (.plain rfl) (pq tk rfl (.plain rfl) (pq tk rfl (.plain rfl) (pq tk rfl (.plain rfl) (.run (.plain rfl) (opG_q (ev_idx (f := THeld.pc) rfl rfl ty_s_api_Held ty_api_Held rfl h23)) (pq tk rfl (.plain rfl) (pq tk rfl (.plain rfl) (pq tk rfl (.plain rfl) (pq tk rfl (.plain rfl) (.skip (.no (d := 77) rfl rfl rfl c24) (.skip (.no (d := 77) rfl rfl rfl c24) (.skip (.no (d := 77) rfl rfl rfl c24) (.skip (.no (d := 77) rfl rfl rfl c24) (.skip (.no (d := 77) rfl rfl rfl c24) (.skip (.no (d := 77) rfl rfl rfl c24) (.skip (.no (d := 77) rfl rfl rfl c24) (.skip (.no (d := 77) rfl rfl rfl c24) (.skip (.no (d := 77) rfl rfl rfl c24) (.skip (.no (d := 77) rfl rfl rfl c24) (.skip (.no (d := 77) rfl rfl rfl c24) (.skip (.no (d := 77) rfl rfl rfl c24) .nil)))))))))))))))))))))))))) rfl ?_
       refine kn 77 c24 rfl ?_
       refine rn tk 4 rfl ?_
       cases hr
       exact jn _ rfl rfl rfl
      ·
       replace hr := cond_f c24 hr
       obtain ⟨v25, h26, hr⟩ := bind_some hr
       obtain ⟨v27, h28, hr⟩ := bind_some hr
       refine dr 26 [(89, .agg [.s v27.Mail.Envelope.From, .l TRecipient.pc v27.Mail.Envelope.To, .s v27.Mail.Envelope.Id, .l TField.pc v27.Mail.Message.Fields, .l cU v27.Mail.Message.Body]), (88, .ep [pS v27.Mail.Envelope.From, pL TRecipient.pc v27.Mail.Envelope.To, pS v27.Mail.Envelope.Id, pL TField.pc v27.Mail.Message.Fields, pL cU v27.Mail.Message.Body]), (87, .ep [pI v27.Number, pS v27.Mail.Envelope.From, pL TRecipient.pc v27.Mail.Envelope.To, pS v27.Mail.Envelope.Id, pL TField.pc v27.Mail.Message.Fields, pL cU v27.Mail.Message.Body]), (86, .i s13), (85, .l THeld.pc a1.Held), (84, .ptr 3 5), (83, .agg [.s v25.Mail.Envelope.From, .l TRecipient.pc v25.Mail.Envelope.To, .s v25.Mail.Envelope.Id, .l TField.pc v25.Mail.Message.Fields, .l cU v25.Mail.Message.Body]), (82, .ep [pS v25.Mail.Envelope.From, pL TRecipient.pc v25.Mail.Envelope.To, pS v25.Mail.Envelope.Id, pL TField.pc v25.Mail.Message.Fields, pL cU v25.Mail.Message.Body]), (81, .ep [pI v25.Number, pS v25.Mail.Envelope.From, pL TRecipient.pc v25.Mail.Envelope.To, pS v25.Mail.Envelope.Id, pL TField.pc v25.Mail.Message.Fields, pL cU v25.Mail.Message.Body]), (80, .i s13), (79, .l THeld.pc a0.Held), (78, .ptr 2 5), (77, .bo ((v20.Number != v22.Number))), (76, .bo ((v20.Number != v22.Number))), (75, .i v22.Number), (74, .ep [pI v22.Number, pS v22.Mail.Envelope.From, pL TRecipient.pc v22.Mail.Envelope.To, pS v22.Mail.Envelope.Id, pL TField.pc v22.Mail.Message.Fields, pL cU v22.Mail.Message.Body]), (73, .ep [pI v22.Number, pS v22.Mail.Envelope.From, pL TRecipient.pc v22.Mail.Envelope.To, pS v22.Mail.Envelope.Id, pL TField.pc v22.Mail.Message.Fields, pL cU v22.Mail.Message.Body]), (72, .i s13), (71, .l THeld.pc a1.Held), (70, .ptr 3 5), (69, .i v20.Number), (68, .ep [pI v20.Number, pS v20.Mail.Envelope.From, pL TRecipient.pc v20.Mail.Envelope.To, pS v20.Mail.Envelope.Id, pL TField.pc v20.Mail.Message.Fields, pL cU v20.Mail.Message.Body]), (67, .ep [pI v20.Number, pS v20.Mail.Envelope.From, pL TRecipient.pc v20.Mail.Envelope.To, pS v20.Mail.Envelope.Id, pL TField.pc v20.Mail.Message.Fields, pL cU v20.Mail.Message.Body]), (66, .i s13), (65, .l THeld.pc a0.Held), (64, .ptr 2 5)] mixed (by kernel_rfl) rfl rfl (pq tk rfl (.plain rfl) (pq tk rfl (.plain rfl) (pq tk rfl (.plain rfl) (.run (.plain rfl) (opG_q (ev_idx (f := THeld.pc) rfl rfl ty_s_api_Held ty_api_Held rfl h21)) (pq tk rfl (.plain rfl) (pq tk rfl (.plain rfl) (pq tk rfl (.plain rfl) (pq tk rfl (.plain rfl) (pq tk rfl (.plain rfl) (.run (.plain rfl) (opG_q (ev_idx (f := THeld.pc) rfl rfl ty_s_api_Held ty_api_Held rfl h23)) (pq tk rfl (.plain rfl) (pq tk rfl (.plain rfl) (pq tk rfl (.plain rfl) (pq tk rfl (.plain rfl) (pq tk rfl (.yes (d := 77) rfl rfl rfl c24) (pq tk rfl (.yes (d := 77) rfl rfl rfl c24) (pq tk rfl (.yes (d := 77) rfl rfl rfl c24) (.run (.yes (d := 77) rfl rfl rfl c24) (opG_q (ev_idx (f := THeld.pc) rfl rfl ty_s_api_Held ty_api_Held rfl h26)) (pq tk rfl (.yes (d := 77) rfl rfl rfl c24) (pq tk rfl (.yes (d := 77) rfl rfl rfl c24) (pq tk rfl (.yes (d := 77) rfl rfl rfl c24) (pq tk rfl (.yes (d := 77) rfl rfl rfl c24) (pq tk rfl (.yes (d := 77) rfl rfl rfl c24) (.run (.yes (d := 77) rfl rfl rfl c24) (opG_q (ev_idx (f := THeld.pc) rfl rfl ty_s_api_Held ty_api_Held rfl h28)) (pq tk rfl (.yes (d := 77) rfl rfl rfl c24) (pq tk rfl (.yes (d := 77) rfl rfl rfl c24) .nil)))))))))))))))))))))))))) rfl ?_
       refine kn 77 c24 rfl ?_
       obtain ⟨v29, h30, hr⟩ := bind_some hr
       refine ug rfl rfl rfl ?_
       refine cl (R_SameMail_run _ _ _ h30) rfl rfl ?_
       refine rn tk 3 rfl ?_
       cases hr
       exact jn _ rfl rfl rfl
     ·
      refine ac 92 hr rfl (fun c31 hr => ?_) (fun c31 hr => ?_)
      ·
       refine rn tk 8 rfl ?_
       cases hr
       exact ato rfl rfl rfl rfl
      ·
       refine rn tk 8 rfl ?_
       cases hr
       exact atc rfl rfl
    ·
     refine rn tk 2 rfl ?_
     cases hr
     exact ato rfl rfl rfl rfl
   ·
    refine rn tk 8 rfl ?_
    cases hr
    exact kr tk (.inr rfl) rfl rfl
   ·
    refine rn tk 2 rfl ?_
    cases hr
    exact kr tk (.inr rfl) rfl rfl
theorem R_SameMails_run (a0 : List TMail) (a1 : List TMail) (r : Bool) (hr : R_SameMails a0 a1 = some r) : Run Tryz.prog 12 [.l TMail.pc a0, .l TMail.pc a1] (.bo r) := by
 unfold R_SameMails at hr
 refine rf (fn := Tryz.f12) ⟨Tryz.func12, rfl, by kernel_rfl⟩ rfl (fun _ => rfl) fun g0 hg => ?_
 refine rn tk 9 rfl ?_
 refine wn tk rfl rfl rfl ?_
 refine rn tk 1 rfl ?_
 refine wn tk rfl rfl rfl ?_
 refine rn tk 3 rfl ?_
 refine ac 10 hr rfl (fun c1 hr => ?_) (fun c1 hr => ?_)
 ·
  refine rn tk 7 rfl ?_
  cases hr
  exact kr tk (.inr rfl) rfl rfl
 ·
  refine rn tk 9 rfl ?_
  refine al2 hr (fun s2 => [(0, .l TMail.pc a0), (1, .l TMail.pc a1), (5, .i s2)]) (fun s2 => []) (.exit 0) (fun b3 => []) (fun b3 => []) .ret (fun b4 => [(4, .bo b4)]) (fun b4 => []) rfl rfl (fun s2 x6 hr => ?_) (fun b3 hr => ?_) (fun b4 hr => ?_)
  ·
   unfold R_SameMails_l1 at hr
   refine rn tk 5 rfl ?_
   refine wn tk rfl rfl rfl ?_
   refine rn tk 3 rfl ?_
   refine ac 14 hr rfl (fun c7 hr => ?_) (fun c7 hr => ?_)
   ·
    refine rn tk 5 rfl ?_
    obtain ⟨v8, h9, hr⟩ := bind_some hr
    obtain ⟨v10, h11, hr⟩ := bind_some hr
    refine dr 8 [(24, .agg [.s v10.Envelope.From, .l TRecipient.pc v10.Envelope.To, .s v10.Envelope.Id, .l TField.pc v10.Message.Fields, .l cU v10.Message.Body]), (23, .ep [pS v10.Envelope.From, pL TRecipient.pc v10.Envelope.To, pS v10.Envelope.Id, pL TField.pc v10.Message.Fields, pL cU v10.Message.Body]), (22, .i s2), (21, .l TMail.pc a1), (20, .agg [.s v8.Envelope.From, .l TRecipient.pc v8.Envelope.To, .s v8.Envelope.Id, .l TField.pc v8.Message.Fields, .l cU v8.Message.Body]), (19, .ep [pS v8.Envelope.From, pL TRecipient.pc v8.Envelope.To, pS v8.Envelope.Id, pL TField.pc v8.Message.Fields, pL cU v8.Message.Body]), (18, .i s2), (17, .l TMail.pc a0)] mixed (by kernel_rfl) rfl rfl (pq tk rfl (.plain rfl) (pq tk rfl (.plain rfl) (.run (.plain rfl) (opG_q (ev_idx (f := TMail.pc) rfl rfl ty_s_api_Mail ty_api_Mail rfl h9)) (pq tk rfl (.plain rfl) (pq tk rfl (.plain rfl) (pq tk rfl (.plain rfl) (.run (.plain rfl) (opG_q (ev_idx (f := TMail.pc) rfl rfl ty_s_api_Mail ty_api_Mail rfl h11)) (pq tk rfl (.plain rfl) .nil)))))))) rfl ?_
    obtain ⟨v12, h13, hr⟩ := bind_some hr
    refine cl (R_SameMail_run _ _ _ h13) rfl rfl ?_
    refine rn tk 3 rfl ?_
    refine ac 26 hr rfl (fun c14 hr => ?_) (fun c14 hr => ?_)
    ·
     refine rn tk 8 rfl ?_
     cases hr
     exact ato rfl rfl rfl rfl
    ·
     refine rn tk 8 rfl ?_
     cases hr
     exact atc rfl rfl
   ·
    refine rn tk 2 rfl ?_
    cases hr
    exact ato rfl rfl rfl rfl
  ·
   refine rn tk 8 rfl ?_
   cases hr
   exact kr tk (.inr rfl) rfl rfl
  ·
   refine rn tk 2 rfl ?_
   cases hr
   exact kr tk (.inr rfl) rfl rfl
theorem L_ListsMatchSpec_run (a0 : TList) (a1 : TMail) (r : Bool) (hr : L_ListsMatchSpec a0 a1 = some r) : Run Tryz.prog 3 [.agg [.s a0.Address, .s a0.Owner, .bo a0.Open, .l cS a0.Subscribers, .l cS a0.Moderators, .l THeld.pc a0.Held, .i a0.Next], .agg [.s a1.Envelope.From, .l TRecipient.pc a1.Envelope.To, .s a1.Envelope.Id, .l TField.pc a1.Message.Fields, .l cU a1.Message.Body]] (.bo r) := by
 unfold L_ListsMatchSpec at hr
 refine rf (fn := Tryz.f3) ⟨Tryz.func3, rfl, by kernel_rfl⟩ rfl (fun _ => rfl) fun g0 hg => ?_
 refine rn tk 11 rfl ?_
 obtain ⟨v1, h2, hr⟩ := bind_some hr
 refine cl (lists_Post_run _ _ _ h2) rfl rfl ?_
 refine rn tk 15 rfl ?_
 obtain ⟨v3, h4, hr⟩ := bind_some hr
 refine cl (R_Posted_run _ _ _ h4) rfl rfl ?_
 refine rn tk 11 rfl ?_
 refine jb hr (fun j5 => [(4, .bo j5)]) (fun j5 => []) (fun j5 hr => ?_) (fun j5 hr => ?_)
 ·
  obtain ⟨v6, h7, hr⟩ := bind_some hr
  refine bool_split v6 (fun c8 => ?_) (fun c8 => ?_)
  ·
   replace hr := cond_t c8 hr
   obtain ⟨v9, h10, hr⟩ := bind_some hr
   obtain ⟨v11, h12, hr⟩ := bind_some hr
   refine bool_split ((allEq [(v9.Code == v11.Code), (v9.Index == v11.Index)])) (fun c13 => ?_) (fun c13 => ?_)
   ·
    replace hr := cond_t c13 hr
    refine bool_split ((allEq [(v1.2.2.Code == v3.2.2.Code), (v1.2.2.Index == v3.2.2.Index)])) (fun c14 => ?_) (fun c14 => ?_)
    ·
     replace hr := cond_t c14 hr
     obtain ⟨v15, h16, hr⟩ := bind_some hr
     refine bool_split v15 (fun c17 => ?_) (fun c17 => ?_)
     ·
      replace hr := cond_t c17 hr
      refine dr 21 [(45, .l TMail.pc v3.2.1), (44, .l TMail.pc v1.2.1), (43, .bo v15), (42, .bo v15), (41, .bo v15), (40, .agg [.s v3.1.Address, .s v3.1.Owner, .bo v3.1.Open, .l cS v3.1.Subscribers, .l cS v3.1.Moderators, .l THeld.pc v3.1.Held, .i v3.1.Next]), (39, .agg [.s v1.1.Address, .s v1.1.Owner, .bo v1.1.Open, .l cS v1.1.Subscribers, .l cS v1.1.Moderators, .l THeld.pc v1.1.Held, .i v1.1.Next]), (38, .bo ((allEq [(v1.2.2.Code == v3.2.2.Code), (v1.2.2.Index == v3.2.2.Index)]))), (37, .bo ((allEq [(v1.2.2.Code == v3.2.2.Code), (v1.2.2.Index == v3.2.2.Index)]))), (36, .bo ((allEq [(v1.2.2.Code == v3.2.2.Code), (v1.2.2.Index == v3.2.2.Index)]))), (35, .agg [.i v3.2.2.Code, .i v3.2.2.Index]), (34, .agg [.i v1.2.2.Code, .i v1.2.2.Index]), (33, .bo ((allEq [(v9.Code == v11.Code), (v9.Index == v11.Index)]))), (32, .bo ((allEq [(v9.Code == v11.Code), (v9.Index == v11.Index)]))), (31, .bo ((allEq [(v9.Code == v11.Code), (v9.Index == v11.Index)]))), (30, .agg [.i v11.Code, .i v11.Index]), (29, .agg [.s a0.Address, .s a0.Owner, .bo a0.Open, .l cS a0.Subscribers, .l cS a0.Moderators, .l THeld.pc a0.Held, .i a0.Next]), (28, .agg [.i v9.Code, .i v9.Index]), (27, .agg [.s a0.Address, .s a0.Owner, .bo a0.Open, .l cS a0.Subscribers, .l cS a0.Moderators, .l THeld.pc a0.Held, .i a0.Next]), (26, .bo v6), (25, .bo v6)] mixed (by kernel_rfl) rfl rfl (.run (.plain rfl) (opG_call (L_posts_run  v6 h7) rfl) (pq tk rfl (.plain rfl) (pq tk rfl (.yes (d := 26) rfl rfl rfl c8) (.run (.yes (d := 26) rfl rfl rfl c8) (opG_call (lists_Validate_run a0 v9 h10) rfl) (pq tk rfl (.yes (d := 26) rfl rfl rfl c8) (.run (.yes (d := 26) rfl rfl rfl c8) (opG_call (R_ListFault_run a0 v11 h12) rfl) (.run (.yes (d := 26) rfl rfl rfl c8) (opG_q (ev_structeq rfl rfl ty_api_Fault cmp_api_Fault (.int rfl (by decide) ty_int (.int rfl (by decide) ty_int .nil)))) (.run (.plain rfl) (opG_q (ev_pick_t rfl c8)) (pq tk rfl (.plain rfl) (pq tk rfl (.yes (d := 33) rfl rfl rfl c13) (pq tk rfl (.yes (d := 33) rfl rfl rfl c13) (.run (.yes (d := 33) rfl rfl rfl c13) (opG_q (ev_structeq rfl rfl ty_api_Fault cmp_api_Fault (.int rfl (by decide) ty_int (.int rfl (by decide) ty_int .nil)))) (.run (.plain rfl) (opG_q (ev_pick_t rfl c13)) (pq tk rfl (.plain rfl) (pq tk rfl (.yes (d := 38) rfl rfl rfl c14) (pq tk rfl (.yes (d := 38) rfl rfl rfl c14) (.run (.yes (d := 38) rfl rfl rfl c14) (opG_call (R_SameList_run v1.1 v3.1 v15 h16) rfl) (.run (.plain rfl) (opG_q (ev_pick_t rfl c14)) (pq tk rfl (.plain rfl) (pq tk rfl (.yes (d := 43) rfl rfl rfl c17) (pq tk rfl (.yes (d := 43) rfl rfl rfl c17) .nil))))))))))))))))))))) rfl ?_
      refine kn 43 c17 rfl ?_
      obtain ⟨v18, h19, hr⟩ := bind_some hr
      refine ug rfl rfl rfl ?_
      refine cl (R_SameMails_run _ _ _ h19) rfl rfl ?_
      refine rn tk 3 rfl ?_
      cases hr
      exact jn _ rfl rfl rfl
     ·
      replace hr := cond_f c17 hr
      refine dr 21 [(45, .tup []), (44, .tup []), (43, .bo v15), (42, .bo v15), (41, .bo v15), (40, .agg [.s v3.1.Address, .s v3.1.Owner, .bo v3.1.Open, .l cS v3.1.Subscribers, .l cS v3.1.Moderators, .l THeld.pc v3.1.Held, .i v3.1.Next]), (39, .agg [.s v1.1.Address, .s v1.1.Owner, .bo v1.1.Open, .l cS v1.1.Subscribers, .l cS v1.1.Moderators, .l THeld.pc v1.1.Held, .i v1.1.Next]), (38, .bo ((allEq [(v1.2.2.Code == v3.2.2.Code), (v1.2.2.Index == v3.2.2.Index)]))), (37, .bo ((allEq [(v1.2.2.Code == v3.2.2.Code), (v1.2.2.Index == v3.2.2.Index)]))), (36, .bo ((allEq [(v1.2.2.Code == v3.2.2.Code), (v1.2.2.Index == v3.2.2.Index)]))), (35, .agg [.i v3.2.2.Code, .i v3.2.2.Index]), (34, .agg [.i v1.2.2.Code, .i v1.2.2.Index]), (33, .bo ((allEq [(v9.Code == v11.Code), (v9.Index == v11.Index)]))), (32, .bo ((allEq [(v9.Code == v11.Code), (v9.Index == v11.Index)]))), (31, .bo ((allEq [(v9.Code == v11.Code), (v9.Index == v11.Index)]))), (30, .agg [.i v11.Code, .i v11.Index]), (29, .agg [.s a0.Address, .s a0.Owner, .bo a0.Open, .l cS a0.Subscribers, .l cS a0.Moderators, .l THeld.pc a0.Held, .i a0.Next]), (28, .agg [.i v9.Code, .i v9.Index]), (27, .agg [.s a0.Address, .s a0.Owner, .bo a0.Open, .l cS a0.Subscribers, .l cS a0.Moderators, .l THeld.pc a0.Held, .i a0.Next]), (26, .bo v6), (25, .bo v6)] mixed (by kernel_rfl) rfl rfl (.run (.plain rfl) (opG_call (L_posts_run  v6 h7) rfl) (pq tk rfl (.plain rfl) (pq tk rfl (.yes (d := 26) rfl rfl rfl c8) (.run (.yes (d := 26) rfl rfl rfl c8) (opG_call (lists_Validate_run a0 v9 h10) rfl) (pq tk rfl (.yes (d := 26) rfl rfl rfl c8) (.run (.yes (d := 26) rfl rfl rfl c8) (opG_call (R_ListFault_run a0 v11 h12) rfl) (.run (.yes (d := 26) rfl rfl rfl c8) (opG_q (ev_structeq rfl rfl ty_api_Fault cmp_api_Fault (.int rfl (by decide) ty_int (.int rfl (by decide) ty_int .nil)))) (.run (.plain rfl) (opG_q (ev_pick_t rfl c8)) (pq tk rfl (.plain rfl) (pq tk rfl (.yes (d := 33) rfl rfl rfl c13) (pq tk rfl (.yes (d := 33) rfl rfl rfl c13) (.run (.yes (d := 33) rfl rfl rfl c13) (opG_q (ev_structeq rfl rfl ty_api_Fault cmp_api_Fault (.int rfl (by decide) ty_int (.int rfl (by decide) ty_int .nil)))) (.run (.plain rfl) (opG_q (ev_pick_t rfl c13)) (pq tk rfl (.plain rfl) (pq tk rfl (.yes (d := 38) rfl rfl rfl c14) (pq tk rfl (.yes (d := 38) rfl rfl rfl c14) (.run (.yes (d := 38) rfl rfl rfl c14) (opG_call (R_SameList_run v1.1 v3.1 v15 h16) rfl) (.run (.plain rfl) (opG_q (ev_pick_t rfl c14)) (pq tk rfl (.plain rfl) (.skip (.no (d := 43) rfl rfl rfl c17) (.skip (.no (d := 43) rfl rfl rfl c17) .nil))))))))))))))))))))) rfl ?_
      refine kn 43 c17 rfl ?_
      refine rn tk 4 rfl ?_
      cases hr
      exact jn _ rfl rfl rfl
    ·
     replace hr := cond_f c14 hr
     refine dr 21 [(45, .tup []), (44, .tup []), (43, .bo false), (42, .bo false), (41, .tup []), (40, .tup []), (39, .tup []), (38, .bo ((allEq [(v1.2.2.Code == v3.2.2.Code), (v1.2.2.Index == v3.2.2.Index)]))), (37, .bo ((allEq [(v1.2.2.Code == v3.2.2.Code), (v1.2.2.Index == v3.2.2.Index)]))), (36, .bo ((allEq [(v1.2.2.Code == v3.2.2.Code), (v1.2.2.Index == v3.2.2.Index)]))), (35, .agg [.i v3.2.2.Code, .i v3.2.2.Index]), (34, .agg [.i v1.2.2.Code, .i v1.2.2.Index]), (33, .bo ((allEq [(v9.Code == v11.Code), (v9.Index == v11.Index)]))), (32, .bo ((allEq [(v9.Code == v11.Code), (v9.Index == v11.Index)]))), (31, .bo ((allEq [(v9.Code == v11.Code), (v9.Index == v11.Index)]))), (30, .agg [.i v11.Code, .i v11.Index]), (29, .agg [.s a0.Address, .s a0.Owner, .bo a0.Open, .l cS a0.Subscribers, .l cS a0.Moderators, .l THeld.pc a0.Held, .i a0.Next]), (28, .agg [.i v9.Code, .i v9.Index]), (27, .agg [.s a0.Address, .s a0.Owner, .bo a0.Open, .l cS a0.Subscribers, .l cS a0.Moderators, .l THeld.pc a0.Held, .i a0.Next]), (26, .bo v6), (25, .bo v6)] mixed (by kernel_rfl) rfl rfl (.run (.plain rfl) (opG_call (L_posts_run  v6 h7) rfl) (pq tk rfl (.plain rfl) (pq tk rfl (.yes (d := 26) rfl rfl rfl c8) (.run (.yes (d := 26) rfl rfl rfl c8) (opG_call (lists_Validate_run a0 v9 h10) rfl) (pq tk rfl (.yes (d := 26) rfl rfl rfl c8) (.run (.yes (d := 26) rfl rfl rfl c8) (opG_call (R_ListFault_run a0 v11 h12) rfl) (.run (.yes (d := 26) rfl rfl rfl c8) (opG_q (ev_structeq rfl rfl ty_api_Fault cmp_api_Fault (.int rfl (by decide) ty_int (.int rfl (by decide) ty_int .nil)))) (.run (.plain rfl) (opG_q (ev_pick_t rfl c8)) (pq tk rfl (.plain rfl) (pq tk rfl (.yes (d := 33) rfl rfl rfl c13) (pq tk rfl (.yes (d := 33) rfl rfl rfl c13) (.run (.yes (d := 33) rfl rfl rfl c13) (opG_q (ev_structeq rfl rfl ty_api_Fault cmp_api_Fault (.int rfl (by decide) ty_int (.int rfl (by decide) ty_int .nil)))) (.run (.plain rfl) (opG_q (ev_pick_t rfl c13)) (pq tk rfl (.plain rfl) (.skip (.no (d := 38) rfl rfl rfl c14) (.skip (.no (d := 38) rfl rfl rfl c14) (.skip (.no (d := 38) rfl rfl rfl c14) (.run (.plain rfl) (opG_q (ev_pick_f rfl c14)) (pq tk rfl (.plain rfl) (.skip (.no (d := 43) rfl rfl rfl rfl) (.skip (.no (d := 43) rfl rfl rfl rfl) .nil))))))))))))))))))))) rfl ?_
     refine rn tk 4 rfl ?_
     cases hr
     exact jn _ rfl rfl rfl
   ·
    replace hr := cond_f c13 hr
    refine dr 21 [(45, .tup []), (44, .tup []), (43, .bo false), (42, .bo false), (41, .tup []), (40, .tup []), (39, .tup []), (38, .bo false), (37, .bo false), (36, .tup []), (35, .tup []), (34, .tup []), (33, .bo ((allEq [(v9.Code == v11.Code), (v9.Index == v11.Index)]))), (32, .bo ((allEq [(v9.Code == v11.Code), (v9.Index == v11.Index)]))), (31, .bo ((allEq [(v9.Code == v11.Code), (v9.Index == v11.Index)]))), (30, .agg [.i v11.Code, .i v11.Index]), (29, .agg [.s a0.Address, .s a0.Owner, .bo a0.Open, .l cS a0.Subscribers, .l cS a0.Moderators, .l THeld.pc a0.Held, .i a0.Next]), (28, .agg [.i v9.Code, .i v9.Index]), (27, .agg [.s a0.Address, .s a0.Owner, .bo a0.Open, .l cS a0.Subscribers, .l cS a0.Moderators, .l THeld.pc a0.Held, .i a0.Next]), (26, .bo v6), (25, .bo v6)] mixed (by kernel_rfl) rfl rfl (.run (.plain rfl) (opG_call (L_posts_run  v6 h7) rfl) (pq tk rfl (.plain rfl) (pq tk rfl (.yes (d := 26) rfl rfl rfl c8) (.run (.yes (d := 26) rfl rfl rfl c8) (opG_call (lists_Validate_run a0 v9 h10) rfl) (pq tk rfl (.yes (d := 26) rfl rfl rfl c8) (.run (.yes (d := 26) rfl rfl rfl c8) (opG_call (R_ListFault_run a0 v11 h12) rfl) (.run (.yes (d := 26) rfl rfl rfl c8) (opG_q (ev_structeq rfl rfl ty_api_Fault cmp_api_Fault (.int rfl (by decide) ty_int (.int rfl (by decide) ty_int .nil)))) (.run (.plain rfl) (opG_q (ev_pick_t rfl c8)) (pq tk rfl (.plain rfl) (.skip (.no (d := 33) rfl rfl rfl c13) (.skip (.no (d := 33) rfl rfl rfl c13) (.skip (.no (d := 33) rfl rfl rfl c13) (.run (.plain rfl) (opG_q (ev_pick_f rfl c13)) (pq tk rfl (.plain rfl) (.skip (.no (d := 38) rfl rfl rfl rfl) (.skip (.no (d := 38) rfl rfl rfl rfl) (.skip (.no (d := 38) rfl rfl rfl rfl) (pq tk rfl (.plain rfl) (pq tk rfl (.plain rfl) (.skip (.no (d := 43) rfl rfl rfl rfl) (.skip (.no (d := 43) rfl rfl rfl rfl) .nil))))))))))))))))))))) rfl ?_
    refine rn tk 4 rfl ?_
    cases hr
    exact jn _ rfl rfl rfl
  ·
   replace hr := cond_f c8 hr
   refine dr 21 [(45, .tup []), (44, .tup []), (43, .bo false), (42, .bo false), (41, .tup []), (40, .tup []), (39, .tup []), (38, .bo false), (37, .bo false), (36, .tup []), (35, .tup []), (34, .tup []), (33, .bo false), (32, .bo false), (31, .tup []), (30, .tup []), (29, .tup []), (28, .tup []), (27, .tup []), (26, .bo v6), (25, .bo v6)] mixed (by kernel_rfl) rfl rfl (.run (.plain rfl) (opG_call (L_posts_run  v6 h7) rfl) (pq tk rfl (.plain rfl) (.skip (.no (d := 26) rfl rfl rfl c8) (.skip (.no (d := 26) rfl rfl rfl c8) (.skip (.no (d := 26) rfl rfl rfl c8) (.skip (.no (d := 26) rfl rfl rfl c8) (.skip (.no (d := 26) rfl rfl rfl c8) (.run (.plain rfl) (opG_q (ev_pick_f rfl c8)) (pq tk rfl (.plain rfl) (.skip (.no (d := 33) rfl rfl rfl rfl) (.skip (.no (d := 33) rfl rfl rfl rfl) (.skip (.no (d := 33) rfl rfl rfl rfl) (pq tk rfl (.plain rfl) (pq tk rfl (.plain rfl) (.skip (.no (d := 38) rfl rfl rfl rfl) (.skip (.no (d := 38) rfl rfl rfl rfl) (.skip (.no (d := 38) rfl rfl rfl rfl) (pq tk rfl (.plain rfl) (pq tk rfl (.plain rfl) (.skip (.no (d := 43) rfl rfl rfl rfl) (.skip (.no (d := 43) rfl rfl rfl rfl) .nil))))))))))))))))))))) rfl ?_
   refine rn tk 4 rfl ?_
   cases hr
   exact jn _ rfl rfl rfl
 ·
  refine rn tk 1 rfl ?_
  cases hr
  exact kr tk (.inr rfl) rfl rfl
end Go.Proofs.YtkoijpogjobgjaaGreat

namespace Go.Proofs.YtkoijpogjobgjaaGreat.listsMatchSpec
open Go.ChangeShapes Go.WideShapes Go.ChangeAt Go.RowKit
set_option linter.unusedVariables false
set_option maxRecDepth 100000

theorem contract (H : Type) (enc : TypeId × Value → H) (W : World) (base : Nat) (args : Array Value) (ds gs : List (DataW H)) (before : List MemPlace)
    (hval : ∀ (j : Nat) t v, Tryz.f3.params[j]? = some t → args[j]? = some v → Value.okWide Tryz.prog W .any base t v)
    (hW : DataW.Whole enc Tryz.prog Tryz.f3.params.toList Rows.listsMatchSpecSpec.vars false W args.toList ds gs before) (hk : Rows.uptoSmall H (ds ++ gs) = true) (hgl : Gl (gAll W)) :
    Calls Tryz.prog 3 args W fun e W' => ∃ v, e = .returned v ∧ Rows.listsMatchSpecSpec.post enc Tryz.prog Tryz.f3 false true false false W args v W' := by
  have hW' := hW
  obtain ⟨p, q, hA0, hV, rfl, hfz, hnd⟩ := hW
  have hA : DataW.TrodAll enc Tryz.prog W 0 (fun _ => true) true Tryz.f3.params.toList args.toList ds p := hA0
  rw [Tryz.params3] at hA hval
  obtain ⟨v0, vs0, d0, ds0, p0, q0, hargs, rfl, rfl, h0, r0⟩ := trodAll_cons hA
  obtain ⟨v1, vs1, d1, ds1, p1, q1, rfl, rfl, rfl, h1, r1⟩ := trodAll_cons r0
  obtain ⟨rfl, rfl, rfl⟩ := trodAll_nil r1
  obtain rfl : args = #[v0, v1] := by cases args; simp_all
  obtain ⟨rfl, rfl⟩ := trodVars_none hV
  obtain ⟨a0, e0, o0, k0⟩ := arg_agg op_api_List (by obtain ⟨cs, h, _⟩ := okWide_struct ty_api_List.u (hval 0 _ v0 rfl rfl); exact ⟨cs, h⟩) h0
  obtain ⟨a1, e1, o1, k1⟩ := arg_agg op_api_Mail (by obtain ⟨cs, h, _⟩ := okWide_struct ty_api_Mail.u (hval 1 _ v1 rfl rfl); exact ⟨cs, h⟩) h1
  have hk2 := of_decide_eq_true hk
  simp only [List.append_nil, Rows.uptoBulkAll] at hk2
  have ht := L_ListsMatchSpec_true a0 a1 o0 o1 (by (try dsimp only); omega)
  have key : Calls Tryz.prog 3 #[v0, v1] W fun e W' => e = .returned (.bool true) ∧ Below W.heap.size W W' := calls_of_run (L_ListsMatchSpec_run a0 a1 true ht) hgl (relArgs_of (.cons e0 (.cons e1 .nil)))
  refine key.mono fun e W' ⟨he, hb⟩ => ⟨_, he, ?_⟩
  exact post_true laidOut (by kernel_rfl) Tryz.underlying4 (by kernel_rfl) rfl rfl hW' hb

theorem lifted (os : Os) (started : os.Started) (H : Type) (enc : TypeId × Value → H) (F : Stop.Interp) :
    ReturnsInHanded {} Tryz.checked os 3 .any ((Rows.OpenSpec.upto Rows.listsMatchSpecSpec).pre6 enc Tryz.prog Tryz.f3 Rows.listsMatchSpecUptoRow.domain false) (((Rows.OpenSpec.upto Rows.listsMatchSpecSpec).at F).post enc Tryz.prog Tryz.f3 false true false false) := by
  refine returnsInHanded_of_cond_shaped (C := Tryz.checked) (s := Rows.OpenSpec.upto Rows.listsMatchSpecSpec) (k := Rows.uptoSmall) rfl own started (by kernel_rfl) Tryz.func3
    (OpenSpec.witness (enc := enc) (C := Tryz.checked) (s := Rows.OpenSpec.upto Rows.listsMatchSpecSpec) (k := Rows.uptoSmall) rfl false ⟨#[], #[.agg #[.string ⟨#[]⟩, .string ⟨#[]⟩, .bool false, .slice none 0 0, .slice none 0 0, .slice none 0 0, .int .i64 0], .agg #[.string ⟨#[]⟩, .slice none 0 0, .string ⟨#[]⟩, .slice none 0 0, .slice none 0 0]], []⟩ 8 (by kernel_rfl) (by kernel_rfl) (by kernel_rfl)
      (x := ([.agg [.lit (.string []), .lit (.string []), .lit (.bool false), .nil, .nil, .nil, .lit (.int .i64 0)], .agg [.agg [.lit (.string []), .nil, .lit (.string [])], .agg [.nil, .nil]]], [], [])) (by kernel_rfl) rfl (by kernel_rfl)) ?_
  intro W base args ds gs before hval hW _ hk hsh _
  exact contract H enc W base args ds gs before hval hW hk (gl_of_shaped hsh)

theorem over : Rows.listsMatchSpecUptoRow.holds Tryz.pinned (Rows.OpenSpec.upto Rows.listsMatchSpecSpec) :=
  OpenClaim.holds_of_cond 3 Tryz.f3 rfl rfl rfl rfl rfl rfl rfl ⟨rfl, rfl, rfl, rfl, rfl⟩ rfl rfl rfl rfl rfl (by kernel_rfl) Tryz.func3 (by kernel_rfl)
    (of_decide_eq_true (by kernel_rfl)) (by unfold Func.isWrapper; first | (rw [if_pos (by decide +kernel)]; kernel_rfl) | (rw [if_neg (by decide +kernel)]; exact ⟨rfl, rfl⟩))
    (fun os started H enc _ F => lifted os started H enc F)

theorem proved : Rows.ListsMatchSpecUptoSaid := over
#print axioms proved
end Go.Proofs.YtkoijpogjobgjaaGreat.listsMatchSpec
