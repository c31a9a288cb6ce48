/- The law ListsDoNotLoop holds for every input of bulk up to the given bound: it returns true and leaves its arguments as they were. Written by program. -/
import Derived.Test.YtkoijpogjobgjaaKListsDoNotLoop2
set_option linter.unusedVariables false
set_option linter.unusedSimpArgs false
namespace Go.Proofs.Ytkoijpogjobgjaa
open Go.RowKit
set_option maxRecDepth 100000
set_option maxHeartbeats 40000000
set_option linter.unusedVariables false
theorem lists_Post_run (a0 : TList) (a1 : TMail) (r : TList × (List TMail) × TFault) (hr : lists_Post a0 a1 = some r) : Run Try.prog 17 [.agg [.s a0.Address, .s a0.Owner, .bo a0.Open, .l cS a0.Subscribers, .l cS a0.Moderators, .l THeld.pc a0.Held, .i a0.Next], .agg [.s a1.Envelope.From, .l TRecipient.pc a1.Envelope.To, .s a1.Envelope.Id, .l TField.pc a1.Message.Fields, .l cU a1.Message.Body]] (.tup [.agg [.s r.1.Address, .s r.1.Owner, .bo r.1.Open, .l cS r.1.Subscribers, .l cS r.1.Moderators, .l THeld.pc r.1.Held, .i r.1.Next], .l TMail.pc r.2.1, .agg [.i r.2.2.Code, .i r.2.2.Index]]) := by
 unfold lists_Post at hr
 refine rf (fn := Try.f17) ⟨Try.func17, rfl, by kernel_rfl⟩ rfl (fun _ => rfl) fun g0 hg => ?_
 refine rn tk 13 rfl ?_
 obtain ⟨v1, h2, hr⟩ := bind_some hr
 refine cl (lists_Validate_run _ _ h2) rfl rfl ?_
 refine rn tk 7 rfl ?_
 obtain ⟨v3, h4, hr⟩ := bind_some hr
 refine cl (basic_Failed_run _ _ h4) rfl rfl ?_
 refine rn tk 2 rfl ?_
 refine ac 20 hr rfl (fun c5 hr => ?_) (fun c5 hr => ?_)
 ·
  refine rn tk 1 rfl ?_
  refine drX 2 4 4 4 [1] [(22, .agg [.i v1.Code, .i v1.Index]), (21, .agg [.s (([] : Str)), .s (([] : Str)), .bo false, .pv (.sl (some true) []), .pv (.sl (some true) []), .pv (.sl (some true) []), .i 0])] [(4, .ptr 4 0), (5, .pv (.sl (some true) [])), (6, .ptr 6 0), (22, .agg [.i v1.Code, .i v1.Index])] [(7, .cells [.i v1.Code, .i v1.Index]), (6, .cells [.i 0, .i 0]), (4, .cells [.s (([] : Str)), .s (([] : Str)), .bo false, .pv (.sl (some true) []), .pv (.sl (some true) []), .pv (.sl (some true) []), .i 0]), (3, .cells [.s a1.Envelope.From, .l TRecipient.pc a1.Envelope.To, .s a1.Envelope.Id, .l TField.pc a1.Message.Fields, .l cU a1.Message.Body]), (2, .cells [.s a0.Address, .s a0.Owner, .bo a0.Open, .l cS a0.Subscribers, .l cS a0.Moderators, .l THeld.pc a0.Held, .i a0.Next])] tk mixed (by kernel_rfl) rfl rfl rfl (pqX tk rfl (.plain rfl) (pqX tk rfl (.plain rfl) .nil)) rfl rfl rfl rfl (by kernel_rfl) ?_
  refine rn tk 5 rfl ?_
  cases hr
  exact kr tk (.inr rfl) rfl rfl
 ·
  refine rn tk 6 rfl ?_
  obtain ⟨v6, h7, hr⟩ := bind_some hr
  refine cl (envelope_Check_run _ _ h7) rfl rfl ?_
  refine rn tk 7 rfl ?_
  obtain ⟨v8, h9, hr⟩ := bind_some hr
  refine cl (basic_Failed_run _ _ h9) rfl rfl ?_
  refine rn tk 2 rfl ?_
  refine ac 26 hr rfl (fun c10 hr => ?_) (fun c10 hr => ?_)
  ·
   refine rn tk 5 rfl ?_
   obtain ⟨v11, h12, hr⟩ := bind_some hr
   refine cl (basic_Fault_run _ _ _ h12) rfl rfl ?_
   refine rn tk 7 rfl ?_
   cases hr
   exact kr tk (.inr rfl) rfl rfl
  ·
   refine rn tk 15 rfl ?_
   obtain ⟨v13, h14, hr⟩ := bind_some hr
   refine cl (header_Get_run _ _ _ h14) rfl rfl ?_
   refine rn tk 8 rfl ?_
   refine jb hr (fun j15 => [(2, .ptr 2 0), (3, .ptr 3 0), (4, .ptr 4 0), (6, .ptr 6 0), (9, .s a1.Envelope.From), (10, .l cS v13.1), (12, .bo j15)]) (fun j15 => [(6, .cells [.i 0, .i 0]), (4, .cells [.s (([] : Str)), .s (([] : Str)), .bo false, .l cS ([]), .l cS ([]), .l THeld.pc ([]), .i 0]), (3, .cells [.s a1.Envelope.From, .l TRecipient.pc a1.Envelope.To, .s a1.Envelope.Id, .l TField.pc a1.Message.Fields, .l cU a1.Message.Body]), (2, .cells [.s a0.Address, .s a0.Owner, .bo a0.Open, .l cS a0.Subscribers, .l cS a0.Moderators, .l THeld.pc a0.Held, .i a0.Next])]) (fun j15 hr => ?_) (fun j15 hr => ?_)
   ·
    refine rn tk 4 rfl ?_
    refine bs 43 hr rfl (fun c16 hr => ?_) (fun c16 hr => ?_)
    ·
     refine rn tk 13 rfl ?_
     cases hr
     exact jn _ rfl rfl rfl
    ·
     refine rn tk 3 rfl ?_
     obtain ⟨v17, h18, hr⟩ := bind_some hr
     refine ug rfl rfl rfl ?_
     refine cl (slices_Contains_string_string_run _ _ _ h18) rfl rfl ?_
     refine rn tk 2 rfl ?_
     refine bs 49 hr rfl (fun c19 hr => ?_) (fun c19 hr => ?_)
     ·
      refine rn tk 7 rfl ?_
      cases hr
      exact jn _ rfl rfl rfl
     ·
      refine rn tk 3 rfl ?_
      obtain ⟨v20, h21, hr⟩ := bind_some hr
      refine ug rfl rfl rfl ?_
      refine cl (slices_Contains_string_string_run _ _ _ h21) rfl rfl ?_
      refine rn tk 3 rfl ?_
      cases hr
      exact jn _ rfl rfl rfl
   ·
    refine rn tk 9 rfl ?_
    refine ac 55 hr rfl (fun c22 hr => ?_) (fun c22 hr => ?_)
    ·
     refine rn tk 3 rfl ?_
     obtain ⟨v23, h24, hr⟩ := bind_some hr
     refine cl (basic_Fault_run _ _ _ h24) rfl rfl ?_
     refine rn tk 8 rfl ?_
     cases hr
     exact kr tk (.inr rfl) rfl rfl
    ·
     refine rn tk 5 rfl ?_
     obtain ⟨v25, h26, hr⟩ := bind_some hr
     refine cl (slices_Contains_string_string_run _ _ _ h26) rfl rfl ?_
     refine rn tk 3 rfl ?_
     refine ac 60 hr rfl (fun c27 hr => ?_) (fun c27 hr => ?_)
     ·
      refine rn tk 3 rfl ?_
      obtain ⟨v28, h29, hr⟩ := bind_some hr
      refine cl (basic_Fault_run _ _ _ h29) rfl rfl ?_
      refine rn tk 8 rfl ?_
      cases hr
      exact kr tk (.inr rfl) rfl rfl
     ·
      refine jb hr (fun j30 => [(2, .ptr 2 0), (3, .ptr 3 0), (4, .ptr 4 0), (6, .ptr 6 0), (12, .bo j15), (67, .bo j30)]) (fun j30 => [(6, .cells [.i 0, .i 0]), (4, .cells [.s (([] : Str)), .s (([] : Str)), .bo false, .l cS ([]), .l cS ([]), .l THeld.pc ([]), .i 0]), (3, .cells [.s a1.Envelope.From, .l TRecipient.pc a1.Envelope.To, .s a1.Envelope.Id, .l TField.pc a1.Message.Fields, .l cU a1.Message.Body]), (2, .cells [.s a0.Address, .s a0.Owner, .bo a0.Open, .l cS a0.Subscribers, .l cS a0.Moderators, .l THeld.pc a0.Held, .i a0.Next])]) (fun j30 hr => ?_) (fun j30 hr => ?_)
      ·
       refine rn tk 4 rfl ?_
       refine bs 70 hr rfl (fun c31 hr => ?_) (fun c31 hr => ?_)
       ·
        refine rn tk 2 rfl ?_
        refine ug rfl rfl rfl ?_
        refine wn tk rfl rfl rfl ?_
        refine rn tk 4 rfl ?_
        cases hr
        exact jn _ rfl rfl rfl
       ·
        refine rn tk 7 rfl ?_
        cases hr
        exact jn _ rfl rfl rfl
      ·
       refine ac 67 hr rfl (fun c32 hr => ?_) (fun c32 hr => ?_)
       ·
        refine rn tk 3 rfl ?_
        obtain ⟨v33, h34, hr⟩ := bind_some hr
        refine cl (basic_Fault_run _ _ _ h34) rfl rfl ?_
        refine rn tk 8 rfl ?_
        cases hr
        exact kr tk (.inr rfl) rfl rfl
       ·
        refine jb hr (fun j35 => [(2, .ptr 2 0), (3, .ptr 3 0), (4, .ptr 4 0), (6, .ptr 6 0), (12, .bo j15), (78, .bo j35)]) (fun j35 => [(6, .cells [.i 0, .i 0]), (4, .cells [.s (([] : Str)), .s (([] : Str)), .bo false, .l cS ([]), .l cS ([]), .l THeld.pc ([]), .i 0]), (3, .cells [.s a1.Envelope.From, .l TRecipient.pc a1.Envelope.To, .s a1.Envelope.Id, .l TField.pc a1.Message.Fields, .l cU a1.Message.Body]), (2, .cells [.s a0.Address, .s a0.Owner, .bo a0.Open, .l cS a0.Subscribers, .l cS a0.Moderators, .l THeld.pc a0.Held, .i a0.Next])]) (fun j35 hr => ?_) (fun j35 hr => ?_)
        ·
         refine rn tk 4 rfl ?_
         refine bs 81 hr rfl (fun c36 hr => ?_) (fun c36 hr => ?_)
         ·
          refine rn tk 2 rfl ?_
          refine ug rfl rfl rfl ?_
          refine wn tk rfl rfl rfl ?_
          refine rn tk 2 rfl ?_
          refine bs 86 hr rfl (fun c37 hr => ?_) (fun c37 hr => ?_)
          ·
           refine rn tk 7 rfl ?_
           cases hr
           exact jn _ rfl rfl rfl
          ·
           refine rn tk 7 rfl ?_
           cases hr
           exact jn _ rfl rfl rfl
         ·
          refine rn tk 12 rfl ?_
          cases hr
          exact jn _ rfl rfl rfl
        ·
         refine ac 78 hr rfl (fun c38 hr => ?_) (fun c38 hr => ?_)
         ·
          refine rn tk 3 rfl ?_
          obtain ⟨v39, h40, hr⟩ := bind_some hr
          refine cl (basic_Fault_run _ _ _ h40) rfl rfl ?_
          refine rn tk 8 rfl ?_
          cases hr
          exact kr tk (.inr rfl) rfl rfl
         ·
          refine rn tk 6 rfl ?_
          refine il (fn := Try.f39) (args := [.agg [.s a0.Address, .s a0.Owner, .bo a0.Open, .l cS a0.Subscribers, .l cS a0.Moderators, .l THeld.pc a0.Held, .i a0.Next]]) 100000 199999 [(2, .ptr 2 0), (3, .ptr 3 0), (4, .ptr 4 0), (6, .ptr 6 0), (12, .bo j15)] rfl ⟨Try.func39, rfl, by kernel_rfl⟩ rfl rfl rfl fun T1 ds1 => ?_
          refine rn tk 3 rfl ?_
          refine wo (opTo_alloc (k := 2) 1002 rfl ty_api_List (.inr ⟨rfl, rfl⟩) rfl rfl rfl) rfl ?_
          refine awpl_adoptCM 2002 (o := 1002) (j := 5) 78 6 rfl rfl rfl rfl (hO ?_)
          refine rn tk 3 rfl ?_
          obtain ⟨v41, h42, hr⟩ := bind_some hr
          obtain ⟨v43, h44, hr⟩ := bind_some hr
          obtain ⟨v45, h46, hr⟩ := bind_some hr
          refine drX 10 10 1 1 [] [(13, .ptr 1 3), (12, .hs 1012 0), (11, .l THeld.pc a0.Held), (10, .ptr 1 5), (9, .l cS v43), (8, .l cS a0.Moderators), (7, .ptr 1 4), (6, .l cS v41), (5, .l cS a0.Subscribers), (4, .ptr 1 3)] [(1, .ptr 1 0), (2, .ptr 1002 0), (6, .l cS v41), (9, .l cS v43), (12, .hs 1012 0), (13, .ptr 1 3)] [(1012, .row 78 true 6 (List.map THeld.pc v45)), (2002, .row 78 true 6 (List.map THeld.pc (([] : List THeld)))), (1002, .cells [.s (([] : Str)), .s (([] : Str)), .bo false, .pv (.sl (some true) []), .pv (.sl (some true) []), .hs 2002 0, .i 0]), (1, .cells [.s a0.Address, .s a0.Owner, .bo a0.Open, .l cS a0.Subscribers, .l cS a0.Moderators, .l THeld.pc a0.Held, .i a0.Next]), (199999, .sus g0.w.heap.size ds1), (100002, .hold (.ptr 2 0) (T1.getD 2 undef)), (100003, .hold (.ptr 3 0) (T1.getD 3 undef)), (100004, .hold (.ptr 4 0) (T1.getD 4 undef)), (100006, .hold (.ptr 6 0) (T1.getD 6 undef)), (100012, .hold (.bo j15) (T1.getD 12 undef)), (6, .cells [.i 0, .i 0]), (4, .cells [.s (([] : Str)), .s (([] : Str)), .bo false, .l cS ([]), .l cS ([]), .l THeld.pc ([]), .i 0]), (3, .cells [.s a1.Envelope.From, .l TRecipient.pc a1.Envelope.To, .s a1.Envelope.Id, .l TField.pc a1.Message.Fields, .l cU a1.Message.Body]), (2, .cells [.s a0.Address, .s a0.Owner, .bo a0.Open, .l cS a0.Subscribers, .l cS a0.Moderators, .l THeld.pc a0.Held, .i a0.Next])] tk mixed (by kernel_rfl) rfl rfl rfl (pqX tk rfl (.plain rfl) (pqX tk rfl (.plain rfl) (.run (.plain rfl) (opG_call (slices_Clone_string_string_run a0.Subscribers v41 h42) rfl) (pqX tk rfl (.plain rfl) (pqX tk rfl (.plain rfl) (.run (.plain rfl) (opG_call (slices_Clone_string_string_run a0.Moderators v43 h44) rfl) (pqX tk rfl (.plain rfl) (pqX tk rfl (.plain rfl) (.new 1012 (.plain rfl) (opNewX_callO 1012 (slices_Clone_api_Held_api_Held_runO a0.Held v45 h46) rfl) (pqX tk rfl (.plain rfl) .nil)))))))))) rfl rfl rfl rfl (by kernel_rfl) ?_
          refine rn tk 12 rfl ?_
          refine wnh tk rfl rfl rfl rfl ?_
          refine rn tk 4 rfl ?_
          refine al1 hr (fun s47 => [(1, .ptr 1 0), (2, .ptr 1002 0), (18, .i ((v45.length : Int))), (19, .i s47.1)]) (fun s47 => [(1012, .row 78 true 6 (List.map THeld.pc s47.2)), (2002, .row 78 true 6 (List.map THeld.pc (([] : List THeld)))), (1002, .cells [.s (([] : Str)), .s (([] : Str)), .bo false, .l cS ([]), .l cS ([]), .hs 2002 0, .i 0]), (1, .cells [.s a0.Address, .s a0.Owner, .bo a0.Open, .l cS v41, .l cS v43, .hs 1012 0, .i a0.Next]), (199999, .sus g0.w.heap.size ds1), (100002, .hold (.ptr 2 0) (T1.getD 2 undef)), (100003, .hold (.ptr 3 0) (T1.getD 3 undef)), (100004, .hold (.ptr 4 0) (T1.getD 4 undef)), (100006, .hold (.ptr 6 0) (T1.getD 6 undef)), (100012, .hold (.bo j15) (T1.getD 12 undef)), (6, .cells [.i 0, .i 0]), (4, .cells [.s (([] : Str)), .s (([] : Str)), .bo false, .l cS ([]), .l cS ([]), .l THeld.pc ([]), .i 0]), (3, .cells [.s a1.Envelope.From, .l TRecipient.pc a1.Envelope.To, .s a1.Envelope.Id, .l TField.pc a1.Message.Fields, .l cU a1.Message.Body]), (2, .cells [.s a0.Address, .s a0.Owner, .bo a0.Open, .l cS a0.Subscribers, .l cS a0.Moderators, .l THeld.pc a0.Held, .i a0.Next])]) (.exit 0) (fun b48 => [(1, .ptr 1 0), (2, .ptr 1002 0)]) (fun b48 => [(1012, .row 78 true 6 (List.map THeld.pc b48)), (2002, .row 78 true 6 (List.map THeld.pc (([] : List THeld)))), (1002, .cells [.s (([] : Str)), .s (([] : Str)), .bo false, .l cS ([]), .l cS ([]), .hs 2002 0, .i 0]), (1, .cells [.s a0.Address, .s a0.Owner, .bo a0.Open, .l cS v41, .l cS v43, .hs 1012 0, .i a0.Next]), (199999, .sus g0.w.heap.size ds1), (100002, .hold (.ptr 2 0) (T1.getD 2 undef)), (100003, .hold (.ptr 3 0) (T1.getD 3 undef)), (100004, .hold (.ptr 4 0) (T1.getD 4 undef)), (100006, .hold (.ptr 6 0) (T1.getD 6 undef)), (100012, .hold (.bo j15) (T1.getD 12 undef)), (6, .cells [.i 0, .i 0]), (4, .cells [.s (([] : Str)), .s (([] : Str)), .bo false, .l cS ([]), .l cS ([]), .l THeld.pc ([]), .i 0]), (3, .cells [.s a1.Envelope.From, .l TRecipient.pc a1.Envelope.To, .s a1.Envelope.Id, .l TField.pc a1.Message.Fields, .l cU a1.Message.Body]), (2, .cells [.s a0.Address, .s a0.Owner, .bo a0.Open, .l cS a0.Subscribers, .l cS a0.Moderators, .l THeld.pc a0.Held, .i a0.Next])]) rfl rfl (fun s47 x49 hr => ?_) (fun b48 hr => ?_)
          ·
           unfold lists_Post_l1 at hr
           refine rn tk 6 rfl ?_
           refine ac 20 hr rfl (fun c50 hr => ?_) (fun c50 hr => ?_)
           ·
            refine rn tk 10 rfl ?_
            obtain ⟨v51, h52, hr⟩ := bind_some hr
            obtain ⟨v53, h54, hr⟩ := bind_some hr
            obtain ⟨v55, h56, hr⟩ := bind_some hr
            refine dr 10 [(31, .agg [.s v55.Envelope.From, .l TRecipient.pc v55.Envelope.To, .s v55.Envelope.Id, .l TField.pc v55.Message.Fields, .l cU v55.Message.Body]), (30, .agg [.s v53.Mail.Envelope.From, .l TRecipient.pc v53.Mail.Envelope.To, .s v53.Mail.Envelope.Id, .l TField.pc v53.Mail.Message.Fields, .l cU v53.Mail.Message.Body]), (29, .hp 1012 (Int.toNat s47.1) 1), (28, .hp 1012 (Int.toNat s47.1) 0), (27, .i s47.1), (26, .hs 1012 0), (25, .ptr 1 5), (24, .i s47.1), (23, .hs 1012 0), (22, .ptr 1 5)] mixed (by kernel_rfl) rfl rfl (pq tk rfl (.plain rfl) (pq tk rfl (.plain rfl) (pq tk rfl (.plain rfl) (pq tk rfl (.plain rfl) (pq tk rfl (.plain rfl) (pq tk rfl (.plain rfl) (.run (.plain rfl) (opG_q (ev_hidx (F := THeld.pc) (l := s47.2) (n := s47.1) rfl rfl rfl ty_s_api_Held ty_api_Held h52)) (pq tk rfl (.plain rfl) (.run (.plain rfl) (opG_q (ev_hloadN (F := THeld.pc) (l := s47.2) (n := s47.1) (j := 1) rfl rfl ty_api_Mail rfl h54 rfl)) (.run (.plain rfl) (opG_call (queue_CopyMail_run v53.Mail v55 h56) rfl) .nil)))))))))) rfl ?_
            obtain ⟨v57, h58, hr⟩ := bind_some hr
            refine wih tk h58 rfl rfl rfl rfl rfl ?_
            refine rn tk 1 rfl ?_
            obtain ⟨v59, h60, hr⟩ := bind_some hr
            refine wo (opTo_hstore (F := THeld.pc) (l := s47.2) (n := s47.1) (j := 1) (v := v59) (v' := ((THeld.mk v59.Number v55))) (pcs := [pS v55.Envelope.From, pL TRecipient.pc v55.Envelope.To, pS v55.Envelope.Id, pL TField.pc v55.Message.Fields, pL cU v55.Message.Body]) rfl rfl rfl ty_api_Mail rfl h60 rfl rfl) rfl ?_
            refine rn tk 7 rfl ?_
            cases hr
            exact atc rfl rfl
           ·
            refine rn tk 2 rfl ?_
            cases hr
            exact ato rfl rfl rfl rfl
          ·
           refine rn tk 9 rfl ?_
           refine ie tk [.agg [.s a0.Address, .s a0.Owner, .bo a0.Open, .l cS v41, .l cS v43, .hs 1012 0, .i a0.Next]] [(2, .ptr 2 0), (3, .ptr 3 0), (4, .ptr 4 0), (6, .ptr 6 0), (12, .bo j15)] [(1012, .row 78 true 6 (List.map THeld.pc b48)), (2002, .row 78 true 6 (List.map THeld.pc (([] : List THeld)))), (1002, .cells [.s a0.Address, .s a0.Owner, .bo a0.Open, .l cS v41, .l cS v43, .hs 1012 0, .i a0.Next]), (1, .cells [.s a0.Address, .s a0.Owner, .bo a0.Open, .l cS v41, .l cS v43, .hs 1012 0, .i a0.Next]), (6, .cells [.i 0, .i 0]), (4, .cells [.s (([] : Str)), .s (([] : Str)), .bo false, .l cS ([]), .l cS ([]), .l THeld.pc ([]), .i 0]), (3, .cells [.s a1.Envelope.From, .l TRecipient.pc a1.Envelope.To, .s a1.Envelope.Id, .l TField.pc a1.Message.Fields, .l cU a1.Message.Body]), (2, .cells [.s a0.Address, .s a0.Owner, .bo a0.Open, .l cS a0.Subscribers, .l cS a0.Moderators, .l THeld.pc a0.Held, .i a0.Next])] (.inr rfl) rfl rfl rfl rfl (hO ?_)
           refine rn tk 9 rfl ?_
           refine ac 96 hr rfl (fun c61 hr => ?_) (fun c61 hr => ?_)
           ·
            refine rn tk 4 rfl ?_
            refine awpl_unmu 1012 rfl (hO ?_)
            refine awpl_pubA (d' := 98) (j := 5) (F := THeld.pc) (l := b48) rfl rfl rfl (hO ?_)
            obtain ⟨v62, h63, hr⟩ := bind_some hr
            refine cl (lists_distribute_run _ _ _ h63) rfl rfl ?_
            refine rn tk 12 rfl ?_
            obtain ⟨v64, h65, hr⟩ := bind_some hr
            refine cl (basic_Failed_run _ _ h65) rfl rfl ?_
            refine rn tk 2 rfl ?_
            refine ac 104 hr rfl (fun c66 hr => ?_) (fun c66 hr => ?_)
            ·
             refine rn tk 1 rfl ?_
             refine drX 2 4 4 4 [1] [(106, .agg [.i v62.2.Code, .i v62.2.Index]), (105, .agg [.s (([] : Str)), .s (([] : Str)), .bo false, .pv (.sl (some true) []), .pv (.sl (some true) []), .pv (.sl (some true) []), .i 0])] [(4, .ptr 4 0), (5, .pv (.sl (some true) [])), (6, .ptr 6 0), (106, .agg [.i v62.2.Code, .i v62.2.Index])] [(14, .cells [.i v62.2.Code, .i v62.2.Index]), (1012, .row 78 false 6 (List.map THeld.pc b48)), (2002, .row 78 true 6 (List.map THeld.pc (([] : List THeld)))), (1002, .cells [.s a0.Address, .s a0.Owner, .bo a0.Open, .l cS v41, .l cS v43, .hs 1012 0, .i a0.Next]), (1, .cells [.s a0.Address, .s a0.Owner, .bo a0.Open, .l cS v41, .l cS v43, .hs 1012 0, .i a0.Next]), (6, .cells [.i 0, .i 0]), (4, .cells [.s (([] : Str)), .s (([] : Str)), .bo false, .pv (.sl (some true) []), .pv (.sl (some true) []), .pv (.sl (some true) []), .i 0]), (3, .cells [.s a1.Envelope.From, .l TRecipient.pc a1.Envelope.To, .s a1.Envelope.Id, .l TField.pc a1.Message.Fields, .l cU a1.Message.Body]), (2, .cells [.s a0.Address, .s a0.Owner, .bo a0.Open, .l cS v41, .l cS v43, .hs 1012 0, .i a0.Next])] tk mixed (by kernel_rfl) rfl rfl rfl (pqX tk rfl (.plain rfl) (pqX tk rfl (.plain rfl) .nil)) rfl rfl rfl rfl (by kernel_rfl) ?_
             refine rn tk 6 rfl ?_
             cases hr
             exact kr tk (.inr rfl) rfl rfl
            ·
             refine rn tk 3 rfl ?_
             refine drX 3 5 5 14 [1, 2] [(109, .agg [.i v62.2.Code, .i v62.2.Index]), (108, .l TMail.pc v62.1), (107, .agg [.s a0.Address, .s a0.Owner, .bo a0.Open, .l cS v41, .l cS v43, .hs 1012 0, .i a0.Next])] [(4, .ptr 4 0), (5, .l TMail.pc v62.1), (6, .ptr 6 0), (109, .agg [.i v62.2.Code, .i v62.2.Index])] [(14, .cells [.i v62.2.Code, .i v62.2.Index]), (1012, .row 78 false 6 (List.map THeld.pc b48)), (2002, .row 78 true 6 (List.map THeld.pc (([] : List THeld)))), (1002, .cells [.s a0.Address, .s a0.Owner, .bo a0.Open, .l cS v41, .l cS v43, .hs 1012 0, .i a0.Next]), (1, .cells [.s a0.Address, .s a0.Owner, .bo a0.Open, .l cS v41, .l cS v43, .hs 1012 0, .i a0.Next]), (6, .cells [.i 0, .i 0]), (4, .cells [.s a0.Address, .s a0.Owner, .bo a0.Open, .l cS v41, .l cS v43, .hs 1012 0, .i a0.Next]), (3, .cells [.s a1.Envelope.From, .l TRecipient.pc a1.Envelope.To, .s a1.Envelope.Id, .l TField.pc a1.Message.Fields, .l cU a1.Message.Body]), (2, .cells [.s a0.Address, .s a0.Owner, .bo a0.Open, .l cS v41, .l cS v43, .hs 1012 0, .i a0.Next])] tk mixed (by kernel_rfl) rfl rfl rfl (pqX tk rfl (.plain rfl) (pqX tk rfl (.plain rfl) (pqX tk rfl (.plain rfl) .nil))) rfl rfl rfl rfl (by kernel_rfl) ?_
             refine rn tk 3 rfl ?_
             refine awp_pubC (o := 4) (j := 5) (F := THeld.pc) (l := b48) rfl rfl rfl (hC ?_)
             refine rn tk 2 rfl ?_
             cases hr
             exact kr tk (.inr rfl) rfl rfl
           ·
            refine rn tk 8 rfl ?_
            refine awpl_unmu 1012 rfl (hO ?_)
            refine awpl_pubA (d' := 111) (j := 5) (F := THeld.pc) (l := b48) rfl rfl rfl (hO ?_)
            obtain ⟨v67, h68, hr⟩ := bind_some hr
            refine cl (lists_mail_run _ _ _ _ _ h68) rfl rfl ?_
            refine rn tk 12 rfl ?_
            obtain ⟨v69, h70, hr⟩ := bind_some hr
            refine cl (basic_Failed_run _ _ h70) rfl rfl ?_
            refine rn tk 2 rfl ?_
            refine ac 119 hr rfl (fun c71 hr => ?_) (fun c71 hr => ?_)
            ·
             refine rn tk 1 rfl ?_
             refine drX 2 4 4 4 [1] [(121, .agg [.i v67.2.Code, .i v67.2.Index]), (120, .agg [.s (([] : Str)), .s (([] : Str)), .bo false, .pv (.sl (some true) []), .pv (.sl (some true) []), .pv (.sl (some true) []), .i 0])] [(4, .ptr 4 0), (5, .pv (.sl (some true) [])), (6, .ptr 6 0), (121, .agg [.i v67.2.Code, .i v67.2.Index])] [(16, .cells [.i v67.2.Code, .i v67.2.Index]), (1012, .row 78 false 6 (List.map THeld.pc b48)), (2002, .row 78 true 6 (List.map THeld.pc (([] : List THeld)))), (1002, .cells [.s a0.Address, .s a0.Owner, .bo a0.Open, .l cS v41, .l cS v43, .hs 1012 0, .i a0.Next]), (1, .cells [.s a0.Address, .s a0.Owner, .bo a0.Open, .l cS v41, .l cS v43, .hs 1012 0, .i a0.Next]), (6, .cells [.i 0, .i 0]), (4, .cells [.s (([] : Str)), .s (([] : Str)), .bo false, .pv (.sl (some true) []), .pv (.sl (some true) []), .pv (.sl (some true) []), .i 0]), (3, .cells [.s a1.Envelope.From, .l TRecipient.pc a1.Envelope.To, .s a1.Envelope.Id, .l TField.pc a1.Message.Fields, .l cU a1.Message.Body]), (2, .cells [.s a0.Address, .s a0.Owner, .bo a0.Open, .l cS v41, .l cS v43, .hs 1012 0, .i a0.Next])] tk mixed (by kernel_rfl) rfl rfl rfl (pqX tk rfl (.plain rfl) (pqX tk rfl (.plain rfl) .nil)) rfl rfl rfl rfl (by kernel_rfl) ?_
             refine rn tk 5 rfl ?_
             cases hr
             exact kr tk (.inr rfl) rfl rfl
            ·
             refine rn tk 3 rfl ?_
             obtain ⟨v72, h73, hr⟩ := bind_some hr
             refine dr 8 [(129, .l THeld.pc (([(THeld.mk a0.Next v72)] : List THeld))), (128, .agg [.i a0.Next, .s v72.Envelope.From, .l TRecipient.pc v72.Envelope.To, .s v72.Envelope.Id, .l TField.pc v72.Message.Fields, .l cU v72.Message.Body]), (127, .agg [.s v72.Envelope.From, .l TRecipient.pc v72.Envelope.To, .s v72.Envelope.Id, .l TField.pc v72.Message.Fields, .l cU v72.Message.Body]), (126, .agg [.s a1.Envelope.From, .l TRecipient.pc a1.Envelope.To, .s a1.Envelope.Id, .l TField.pc a1.Message.Fields, .l cU a1.Message.Body]), (125, .i a0.Next), (124, .ptr 2 6), (123, .hs 1012 0), (122, .ptr 2 5)] mixed (by kernel_rfl) rfl rfl (pq tk rfl (.plain rfl) (pq tk rfl (.plain rfl) (pq tk rfl (.plain rfl) (pq tk rfl (.plain rfl) (pq tk rfl (.plain rfl) (.run (.plain rfl) (opG_call (queue_CopyMail_run a1 v72 h73) rfl) (pq tk rfl (.plain rfl) (.run (.plain rfl) (opG_lit (F := THeld.pc) (l := ([(THeld.mk a0.Next v72)] : List THeld)) ty_s_api_Held ty_api_Held rfl (fun _ => rfl) rfl rfl) .nil)))))))) rfl ?_
             obtain ⟨v74, h75, hr⟩ := bind_some hr
             refine wa tk h75 rfl rfl rfl rfl (fun _ => rfl) rfl rfl ?_
             refine rn tk 14 rfl ?_
             refine drX 3 5 5 14 [1, 2] [(138, .agg [.i v67.2.Code, .i v67.2.Index]), (137, .l TMail.pc v67.1), (136, .agg [.s a0.Address, .s a0.Owner, .bo a0.Open, .l cS v41, .l cS v43, .hs 1012 0, .i ((w64 (a0.Next + 1)))])] [(4, .ptr 4 0), (5, .l TMail.pc v67.1), (6, .ptr 6 0), (138, .agg [.i v67.2.Code, .i v67.2.Index])] [(16, .cells [.i v67.2.Code, .i v67.2.Index]), (1012, .row 78 false 6 (List.map THeld.pc v74)), (2002, .row 78 true 6 (List.map THeld.pc (([] : List THeld)))), (1002, .cells [.s a0.Address, .s a0.Owner, .bo a0.Open, .l cS v41, .l cS v43, .any, .i a0.Next]), (1, .cells [.s a0.Address, .s a0.Owner, .bo a0.Open, .l cS v41, .l cS v43, .any, .i a0.Next]), (6, .cells [.i 0, .i 0]), (4, .cells [.s a0.Address, .s a0.Owner, .bo a0.Open, .l cS v41, .l cS v43, .hs 1012 0, .i ((w64 (a0.Next + 1)))]), (3, .cells [.s a1.Envelope.From, .l TRecipient.pc a1.Envelope.To, .s a1.Envelope.Id, .l TField.pc a1.Message.Fields, .l cU a1.Message.Body]), (2, .cells [.s a0.Address, .s a0.Owner, .bo a0.Open, .l cS v41, .l cS v43, .hs 1012 0, .i ((w64 (a0.Next + 1)))])] tk mixed (by kernel_rfl) rfl rfl rfl (pqX tk rfl (.plain rfl) (pqX tk rfl (.plain rfl) (pqX tk rfl (.plain rfl) .nil))) rfl rfl rfl rfl (by kernel_rfl) ?_
             refine rn tk 3 rfl ?_
             refine awp_pubC (o := 4) (j := 5) (F := THeld.pc) (l := v74) rfl rfl rfl (hC ?_)
             refine rn tk 1 rfl ?_
             cases hr
             exact kr tk (.inr rfl) rfl rfl
theorem lists_Reject_run (a0 : TList) (a1 : Str) (a2 : Int) (r : TList × TFault) (hr : lists_Reject a0 a1 a2 = some r) : Run Try.prog 44 [.agg [.s a0.Address, .s a0.Owner, .bo a0.Open, .l cS a0.Subscribers, .l cS a0.Moderators, .l THeld.pc a0.Held, .i a0.Next], .s a1, .i a2] (.tup [.agg [.s r.1.Address, .s r.1.Owner, .bo r.1.Open, .l cS r.1.Subscribers, .l cS r.1.Moderators, .l THeld.pc r.1.Held, .i r.1.Next], .agg [.i r.2.Code, .i r.2.Index]]) := by
 unfold lists_Reject at hr
 refine rf (fn := Try.f44) ⟨Try.func44, rfl, by kernel_rfl⟩ rfl (fun _ => rfl) fun g0 hg => ?_
 refine rn tk 12 rfl ?_
 obtain ⟨v1, h2, hr⟩ := bind_some hr
 refine cl (lists_find_run _ _ _ _ h2) rfl rfl ?_
 refine rn tk 12 rfl ?_
 obtain ⟨v3, h4, hr⟩ := bind_some hr
 refine cl (basic_Failed_run _ _ h4) rfl rfl ?_
 refine rn tk 2 rfl ?_
 refine ac 18 hr rfl (fun c5 hr => ?_) (fun c5 hr => ?_)
 ·
  refine rn tk 1 rfl ?_
  refine drX 2 3 3 3 [1] [(20, .agg [.i v1.2.Code, .i v1.2.Index]), (19, .agg [.s (([] : Str)), .s (([] : Str)), .bo false, .pv (.sl (some true) []), .pv (.sl (some true) []), .pv (.sl (some true) []), .i 0])] [(6, .ptr 6 0), (7, .ptr 7 0), (20, .agg [.i v1.2.Code, .i v1.2.Index])] [(9, .cells [.i v1.2.Code, .i v1.2.Index]), (7, .cells [.i 0, .i 0]), (6, .cells [.s (([] : Str)), .s (([] : Str)), .bo false, .pv (.sl (some true) []), .pv (.sl (some true) []), .pv (.sl (some true) []), .i 0]), (3, .cells [.s a0.Address, .s a0.Owner, .bo a0.Open, .l cS a0.Subscribers, .l cS a0.Moderators, .l THeld.pc a0.Held, .i a0.Next])] tk mixed (by kernel_rfl) rfl rfl rfl (pqX tk rfl (.plain rfl) (pqX tk rfl (.plain rfl) .nil)) rfl rfl rfl rfl (by kernel_rfl) ?_
  refine rn tk 5 rfl ?_
  cases hr
  exact kr tk (.inr rfl) rfl rfl
 ·
  refine rn tk 5 rfl ?_
  refine il (fn := Try.f39) (args := [.agg [.s a0.Address, .s a0.Owner, .bo a0.Open, .l cS a0.Subscribers, .l cS a0.Moderators, .l THeld.pc a0.Held, .i a0.Next]]) 100000 199999 [(3, .ptr 3 0), (6, .ptr 6 0), (7, .ptr 7 0), (8, .i v1.1), (9, .ptr 9 0)] rfl ⟨Try.func39, rfl, by kernel_rfl⟩ rfl rfl rfl fun T1 ds1 => ?_
  refine rn tk 4 rfl ?_
  refine awpl_adoptCM 1002 (o := 2) (j := 5) 78 6 rfl rfl rfl rfl (hO ?_)
  refine rn tk 3 rfl ?_
  obtain ⟨v6, h7, hr⟩ := bind_some hr
  obtain ⟨v8, h9, hr⟩ := bind_some hr
  obtain ⟨v10, h11, hr⟩ := bind_some hr
  refine drX 10 10 1 1 [] [(13, .ptr 1 3), (12, .hs 1012 0), (11, .l THeld.pc a0.Held), (10, .ptr 1 5), (9, .l cS v8), (8, .l cS a0.Moderators), (7, .ptr 1 4), (6, .l cS v6), (5, .l cS a0.Subscribers), (4, .ptr 1 3)] [(1, .ptr 1 0), (2, .ptr 2 0), (6, .l cS v6), (9, .l cS v8), (12, .hs 1012 0), (13, .ptr 1 3)] [(1012, .row 78 true 6 (List.map THeld.pc v10)), (1002, .row 78 true 6 (List.map THeld.pc (([] : List THeld)))), (2, .cells [.s (([] : Str)), .s (([] : Str)), .bo false, .pv (.sl (some true) []), .pv (.sl (some true) []), .hs 1002 0, .i 0]), (1, .cells [.s a0.Address, .s a0.Owner, .bo a0.Open, .l cS a0.Subscribers, .l cS a0.Moderators, .l THeld.pc a0.Held, .i a0.Next]), (199999, .sus g0.w.heap.size ds1), (100003, .hold (.ptr 3 0) (T1.getD 3 undef)), (100006, .hold (.ptr 6 0) (T1.getD 6 undef)), (100007, .hold (.ptr 7 0) (T1.getD 7 undef)), (100009, .hold (.ptr 9 0) (T1.getD 9 undef)), (100008, .hold (.i v1.1) (T1.getD 8 undef)), (9, .cells [.i v1.2.Code, .i v1.2.Index]), (7, .cells [.i 0, .i 0]), (6, .cells [.s (([] : Str)), .s (([] : Str)), .bo false, .pv (.sl (some true) []), .pv (.sl (some true) []), .pv (.sl (some true) []), .i 0]), (3, .cells [.s a0.Address, .s a0.Owner, .bo a0.Open, .l cS a0.Subscribers, .l cS a0.Moderators, .l THeld.pc a0.Held, .i a0.Next])] tk mixed (by kernel_rfl) rfl rfl rfl (pqX tk rfl (.plain rfl) (pqX tk rfl (.plain rfl) (.run (.plain rfl) (opG_call (slices_Clone_string_string_run a0.Subscribers v6 h7) rfl) (pqX tk rfl (.plain rfl) (pqX tk rfl (.plain rfl) (.run (.plain rfl) (opG_call (slices_Clone_string_string_run a0.Moderators v8 h9) rfl) (pqX tk rfl (.plain rfl) (pqX tk rfl (.plain rfl) (.new 1012 (.plain rfl) (opNewX_callO 1012 (slices_Clone_api_Held_api_Held_runO a0.Held v10 h11) rfl) (pqX tk rfl (.plain rfl) .nil)))))))))) rfl rfl rfl rfl (by kernel_rfl) ?_
  refine rn tk 12 rfl ?_
  refine wnh tk rfl rfl rfl rfl ?_
  refine rn tk 4 rfl ?_
  refine al1 hr (fun s12 => [(1, .ptr 1 0), (2, .ptr 2 0), (18, .i ((v10.length : Int))), (19, .i s12.1)]) (fun s12 => [(1012, .row 78 true 6 (List.map THeld.pc s12.2)), (1002, .row 78 true 6 (List.map THeld.pc (([] : List THeld)))), (2, .cells [.s (([] : Str)), .s (([] : Str)), .bo false, .l cS ([]), .l cS ([]), .hs 1002 0, .i 0]), (1, .cells [.s a0.Address, .s a0.Owner, .bo a0.Open, .l cS v6, .l cS v8, .hs 1012 0, .i a0.Next]), (199999, .sus g0.w.heap.size ds1), (100003, .hold (.ptr 3 0) (T1.getD 3 undef)), (100006, .hold (.ptr 6 0) (T1.getD 6 undef)), (100007, .hold (.ptr 7 0) (T1.getD 7 undef)), (100009, .hold (.ptr 9 0) (T1.getD 9 undef)), (100008, .hold (.i v1.1) (T1.getD 8 undef)), (9, .cells [.i v1.2.Code, .i v1.2.Index]), (7, .cells [.i 0, .i 0]), (6, .cells [.s (([] : Str)), .s (([] : Str)), .bo false, .l cS ([]), .l cS ([]), .l THeld.pc ([]), .i 0]), (3, .cells [.s a0.Address, .s a0.Owner, .bo a0.Open, .l cS a0.Subscribers, .l cS a0.Moderators, .l THeld.pc a0.Held, .i a0.Next])]) (.exit 0) (fun b13 => [(1, .ptr 1 0), (2, .ptr 2 0)]) (fun b13 => [(1012, .row 78 true 6 (List.map THeld.pc b13)), (1002, .row 78 true 6 (List.map THeld.pc (([] : List THeld)))), (2, .cells [.s (([] : Str)), .s (([] : Str)), .bo false, .l cS ([]), .l cS ([]), .hs 1002 0, .i 0]), (1, .cells [.s a0.Address, .s a0.Owner, .bo a0.Open, .l cS v6, .l cS v8, .hs 1012 0, .i a0.Next]), (199999, .sus g0.w.heap.size ds1), (100003, .hold (.ptr 3 0) (T1.getD 3 undef)), (100006, .hold (.ptr 6 0) (T1.getD 6 undef)), (100007, .hold (.ptr 7 0) (T1.getD 7 undef)), (100009, .hold (.ptr 9 0) (T1.getD 9 undef)), (100008, .hold (.i v1.1) (T1.getD 8 undef)), (9, .cells [.i v1.2.Code, .i v1.2.Index]), (7, .cells [.i 0, .i 0]), (6, .cells [.s (([] : Str)), .s (([] : Str)), .bo false, .l cS ([]), .l cS ([]), .l THeld.pc ([]), .i 0]), (3, .cells [.s a0.Address, .s a0.Owner, .bo a0.Open, .l cS a0.Subscribers, .l cS a0.Moderators, .l THeld.pc a0.Held, .i a0.Next])]) rfl rfl (fun s12 x14 hr => ?_) (fun b13 hr => ?_)
  ·
   unfold lists_Reject_l1 at hr
   refine rn tk 6 rfl ?_
   refine ac 20 hr rfl (fun c15 hr => ?_) (fun c15 hr => ?_)
   ·
    refine rn tk 10 rfl ?_
    obtain ⟨v16, h17, hr⟩ := bind_some hr
    obtain ⟨v18, h19, hr⟩ := bind_some hr
    obtain ⟨v20, h21, hr⟩ := bind_some hr
    refine dr 10 [(31, .agg [.s v20.Envelope.From, .l TRecipient.pc v20.Envelope.To, .s v20.Envelope.Id, .l TField.pc v20.Message.Fields, .l cU v20.Message.Body]), (30, .agg [.s v18.Mail.Envelope.From, .l TRecipient.pc v18.Mail.Envelope.To, .s v18.Mail.Envelope.Id, .l TField.pc v18.Mail.Message.Fields, .l cU v18.Mail.Message.Body]), (29, .hp 1012 (Int.toNat s12.1) 1), (28, .hp 1012 (Int.toNat s12.1) 0), (27, .i s12.1), (26, .hs 1012 0), (25, .ptr 1 5), (24, .i s12.1), (23, .hs 1012 0), (22, .ptr 1 5)] mixed (by kernel_rfl) rfl rfl (pq tk rfl (.plain rfl) (pq tk rfl (.plain rfl) (pq tk rfl (.plain rfl) (pq tk rfl (.plain rfl) (pq tk rfl (.plain rfl) (pq tk rfl (.plain rfl) (.run (.plain rfl) (opG_q (ev_hidx (F := THeld.pc) (l := s12.2) (n := s12.1) rfl rfl rfl ty_s_api_Held ty_api_Held h17)) (pq tk rfl (.plain rfl) (.run (.plain rfl) (opG_q (ev_hloadN (F := THeld.pc) (l := s12.2) (n := s12.1) (j := 1) rfl rfl ty_api_Mail rfl h19 rfl)) (.run (.plain rfl) (opG_call (queue_CopyMail_run v18.Mail v20 h21) rfl) .nil)))))))))) rfl ?_
    obtain ⟨v22, h23, hr⟩ := bind_some hr
    refine wih tk h23 rfl rfl rfl rfl rfl ?_
    refine rn tk 1 rfl ?_
    obtain ⟨v24, h25, hr⟩ := bind_some hr
    refine wo (opTo_hstore (F := THeld.pc) (l := s12.2) (n := s12.1) (j := 1) (v := v24) (v' := ((THeld.mk v24.Number v20))) (pcs := [pS v20.Envelope.From, pL TRecipient.pc v20.Envelope.To, pS v20.Envelope.Id, pL TField.pc v20.Message.Fields, pL cU v20.Message.Body]) rfl rfl rfl ty_api_Mail rfl h25 rfl rfl) rfl ?_
    refine rn tk 7 rfl ?_
    cases hr
    exact atc rfl rfl
   ·
    refine rn tk 2 rfl ?_
    cases hr
    exact ato rfl rfl rfl rfl
  ·
   refine rn tk 9 rfl ?_
   refine ie tk [.agg [.s a0.Address, .s a0.Owner, .bo a0.Open, .l cS v6, .l cS v8, .hs 1012 0, .i a0.Next]] [(3, .ptr 3 0), (6, .ptr 6 0), (7, .ptr 7 0), (8, .i v1.1), (9, .ptr 9 0)] [(1012, .row 78 true 6 (List.map THeld.pc b13)), (1002, .row 78 true 6 (List.map THeld.pc (([] : List THeld)))), (2, .cells [.s a0.Address, .s a0.Owner, .bo a0.Open, .l cS v6, .l cS v8, .hs 1012 0, .i a0.Next]), (1, .cells [.s a0.Address, .s a0.Owner, .bo a0.Open, .l cS v6, .l cS v8, .hs 1012 0, .i a0.Next]), (9, .cells [.i v1.2.Code, .i v1.2.Index]), (7, .cells [.i 0, .i 0]), (6, .cells [.s (([] : Str)), .s (([] : Str)), .bo false, .l cS ([]), .l cS ([]), .l THeld.pc ([]), .i 0]), (3, .cells [.s a0.Address, .s a0.Owner, .bo a0.Open, .l cS a0.Subscribers, .l cS a0.Moderators, .l THeld.pc a0.Held, .i a0.Next])] (.inr rfl) rfl rfl rfl rfl (hO ?_)
   refine rn tk 10 rfl ?_
   refine ct hr (fun j26 => [(3, .ptr 3 0), (6, .ptr 6 0), (7, .ptr 7 0), (9, .ptr 9 0), (28, .hs 1012 0)]) (fun j26 => [(1012, .row 78 true 6 (List.map THeld.pc j26)), (9, .cells [.i v1.2.Code, .i v1.2.Index]), (7, .cells [.i 0, .i 0]), (6, .cells [.s (([] : Str)), .s (([] : Str)), .bo false, .l cS ([]), .l cS ([]), .l THeld.pc ([]), .i 0]), (3, .cells [.s a0.Address, .s a0.Owner, .bo a0.Open, .l cS v6, .l cS v8, .any, .i a0.Next])]) (fun j26 hr jump2 => ?_) (fun j26 hr => ?_)
   ·
    refine il (fn := Try.f48) (args := [.hs 1012 0, .i v1.1, .i ((w64 (v1.1 + 1)))]) 200000 299999 [(3, .ptr 3 0), (6, .ptr 6 0), (7, .ptr 7 0), (9, .ptr 9 0)] rfl ⟨Try.func48, rfl, by kernel_rfl⟩ rfl rfl rfl fun T2 ds2 => ?_
    refine rn tk 3 rfl ?_
    refine awpl_adoptM 1006 (d := 6) 78 6 rfl rfl rfl (hO ?_)
    refine rn tk 8 rfl ?_
    refine wnh tk rfl rfl rfl rfl ?_
    obtain ⟨v27, h28, hr⟩ := bind_some hr
    refine wq (ev_hcut3 (F := THeld.pc) (l := b13) rfl rfl rfl rfl rfl ty_s_api_Held ty_api_Held h28) rfl rfl rfl ?_
    refine rn tk 10 rfl ?_
    refine ac 16 hr rfl (fun c29 hr => ?_) (fun c29 hr => ?_)
    ·
     refine rn tk 6 rfl ?_
     refine awp_hsclr (d' := 6) (F := THeld.pc) (l := b13) rfl rfl (hC ?_)
     refine rn tk 2 rfl ?_
     refine ie tk [.hs 1012 0] [(3, .ptr 3 0), (6, .ptr 6 0), (7, .ptr 7 0), (9, .ptr 9 0)] [(1006, .row 78 true 6 (List.map THeld.pc (([] : List THeld)))), (1012, .row 78 true 6 (List.map THeld.pc b13)), (1002, .row 78 true 6 (List.map THeld.pc (([] : List THeld)))), (2, .cells [.s a0.Address, .s a0.Owner, .bo a0.Open, .l cS v6, .l cS v8, .any, .i a0.Next]), (1, .cells [.s a0.Address, .s a0.Owner, .bo a0.Open, .l cS v6, .l cS v8, .any, .i a0.Next]), (9, .cells [.i v1.2.Code, .i v1.2.Index]), (7, .cells [.i 0, .i 0]), (6, .cells [.s (([] : Str)), .s (([] : Str)), .bo false, .l cS ([]), .l cS ([]), .l THeld.pc ([]), .i 0]), (3, .cells [.s a0.Address, .s a0.Owner, .bo a0.Open, .l cS v6, .l cS v8, .any, .i a0.Next])] (.inr rfl) rfl rfl rfl rfl ?_
     cases hr
     exact jump2 _ _ rfl rfl
    ·
     refine rn tk 5 rfl ?_
     refine wnh tk rfl rfl rfl rfl ?_
     refine rn tk 4 rfl ?_
     obtain ⟨v30, h31, hr⟩ := bind_some hr
     obtain ⟨v32, h33, hr⟩ := bind_some hr
     refine dr 6 [(25, .hsub 1012 (Int.toNat ((w64 (v1.1 + 1))))), (24, .i ((w64 (v1.1 + 1)))), (23, .hs 1012 0), (22, .hpre 1012 (Int.toNat v1.1)), (21, .i v1.1), (20, .hs 1012 0)] mixed (by kernel_rfl) rfl rfl (pq tk rfl (.plain rfl) (pq tk rfl (.plain rfl) (.run (.plain rfl) (opG_q (ev_hpre (F := THeld.pc) (l := b13) (q := v1.1) rfl rfl rfl ty_s_api_Held ty_api_Held h31)) (pq tk rfl (.plain rfl) (pq tk rfl (.plain rfl) (.run (.plain rfl) (opG_q (ev_hsub (F := THeld.pc) (l := b13) (p := ((w64 (v1.1 + 1)))) rfl rfl rfl ty_s_api_Held ty_api_Held h33)) .nil)))))) rfl ?_
     obtain ⟨v34, h35, hr⟩ := bind_some hr
     refine wo (opTo_shift (k := 26) (F := THeld.pc) (l := b13) (p := v1.1) (q := ((w64 (v1.1 + 1)))) rfl rfl rfl rfl ty_s_api_Held ty_api_Held rfl h35) rfl ?_
     refine rn tk 7 rfl ?_
     refine wq (ev_hprelen (e := 78) (n := ((Int.toNat v1.1) + (b13.length - (Int.toNat ((w64 (v1.1 + 1))))))) rfl ty_s_api_Held.u) rfl rfl rfl ?_
     refine rn tk 1 rfl ?_
     obtain ⟨v36, h37, hr⟩ := bind_some hr
     refine wq (ev_hprest (F := THeld.pc) (l := v34) (a := (((((Int.toNat v1.1) + (b13.length - (Int.toNat ((w64 (v1.1 + 1)))))) : Nat) : Int))) rfl rfl rfl rfl ty_s_api_Held ty_api_Held h37) rfl rfl rfl ?_
     refine wo (opTo_clear (F := THeld.pc) (l := v34) (z := ((THeld.mk 0 ((TMail.mk ((TEnvelope.mk (([] : Str)) ([]) (([] : Str)))) ((TMessage.mk ([]) ([])))))))) rfl rfl ty_s_api_Held ty_api_Held rfl rfl) rfl ?_
     refine rn tk 8 rfl ?_
     refine awp_hprecut (d' := 6) (F := THeld.pc) (l := ((clr0 v34 (Int.toNat (((((Int.toNat v1.1) + (b13.length - (Int.toNat ((w64 (v1.1 + 1)))))) : Nat) : Int))) ((THeld.mk 0 ((TMail.mk ((TEnvelope.mk (([] : Str)) ([]) (([] : Str)))) ((TMessage.mk ([]) ([])))))))))) rfl rfl (hC ?_)
     refine rn tk 1 rfl ?_
     refine ie tk [.hs 1012 0] [(3, .ptr 3 0), (6, .ptr 6 0), (7, .ptr 7 0), (9, .ptr 9 0)] [(1006, .row 78 true 6 (List.map THeld.pc (([] : List THeld)))), (1012, .row 78 true 6 (List.map THeld.pc ((List.take ((Int.toNat v1.1) + (b13.length - (Int.toNat ((w64 (v1.1 + 1)))))) ((clr0 v34 (Int.toNat (((((Int.toNat v1.1) + (b13.length - (Int.toNat ((w64 (v1.1 + 1)))))) : Nat) : Int))) ((THeld.mk 0 ((TMail.mk ((TEnvelope.mk (([] : Str)) ([]) (([] : Str)))) ((TMessage.mk ([]) ([]))))))))))))), (1002, .row 78 true 6 (List.map THeld.pc (([] : List THeld)))), (2, .cells [.s a0.Address, .s a0.Owner, .bo a0.Open, .l cS v6, .l cS v8, .any, .i a0.Next]), (1, .cells [.s a0.Address, .s a0.Owner, .bo a0.Open, .l cS v6, .l cS v8, .any, .i a0.Next]), (9, .cells [.i v1.2.Code, .i v1.2.Index]), (7, .cells [.i 0, .i 0]), (6, .cells [.s (([] : Str)), .s (([] : Str)), .bo false, .l cS ([]), .l cS ([]), .l THeld.pc ([]), .i 0]), (3, .cells [.s a0.Address, .s a0.Owner, .bo a0.Open, .l cS v6, .l cS v8, .any, .i a0.Next])] (.inr rfl) rfl rfl rfl rfl ?_
     cases hr
     exact jump2 _ _ rfl rfl
   ·
    refine rn tk 5 rfl ?_
    refine drX 2 3 3 3 [1] [(31, .agg [.i v1.2.Code, .i v1.2.Index]), (30, .agg [.s a0.Address, .s a0.Owner, .bo a0.Open, .l cS v6, .l cS v8, .hs 1012 0, .i a0.Next])] [(6, .ptr 6 0), (7, .ptr 7 0), (31, .agg [.i v1.2.Code, .i v1.2.Index])] [(1012, .row 78 true 6 (List.map THeld.pc j26)), (9, .cells [.i v1.2.Code, .i v1.2.Index]), (7, .cells [.i 0, .i 0]), (6, .cells [.s a0.Address, .s a0.Owner, .bo a0.Open, .l cS v6, .l cS v8, .hs 1012 0, .i a0.Next]), (3, .cells [.s a0.Address, .s a0.Owner, .bo a0.Open, .l cS v6, .l cS v8, .hs 1012 0, .i a0.Next])] tk mixed (by kernel_rfl) rfl rfl rfl (pqX tk rfl (.plain rfl) (pqX tk rfl (.plain rfl) .nil)) rfl rfl rfl rfl (by kernel_rfl) ?_
    refine rn tk 3 rfl ?_
    refine awp_unmu 1012 rfl (hC ?_)
    refine awp_pubC (o := 6) (j := 5) (F := THeld.pc) (l := j26) rfl rfl rfl (hC ?_)
    refine rn tk 1 rfl ?_
    cases hr
    exact kr tk (.inr rfl) rfl rfl
theorem lists_Subscribe_run (a0 : TList) (a1 : Str) (r : TList × TFault) (hr : lists_Subscribe a0 a1 = some r) : Run Try.prog 45 [.agg [.s a0.Address, .s a0.Owner, .bo a0.Open, .l cS a0.Subscribers, .l cS a0.Moderators, .l THeld.pc a0.Held, .i a0.Next], .s a1] (.tup [.agg [.s r.1.Address, .s r.1.Owner, .bo r.1.Open, .l cS r.1.Subscribers, .l cS r.1.Moderators, .l THeld.pc r.1.Held, .i r.1.Next], .agg [.i r.2.Code, .i r.2.Index]]) := by
 unfold lists_Subscribe at hr
 refine rf (fn := Try.f45) ⟨Try.func45, rfl, by kernel_rfl⟩ rfl (fun _ => rfl) fun g0 hg => ?_
 refine rn tk 11 rfl ?_
 obtain ⟨v1, h2, hr⟩ := bind_some hr
 refine cl (lists_Validate_run _ _ h2) rfl rfl ?_
 refine rn tk 7 rfl ?_
 obtain ⟨v3, h4, hr⟩ := bind_some hr
 refine cl (basic_Failed_run _ _ h4) rfl rfl ?_
 refine rn tk 2 rfl ?_
 refine ac 10 hr rfl (fun c5 hr => ?_) (fun c5 hr => ?_)
 ·
  refine rn tk 1 rfl ?_
  refine drX 2 3 3 3 [1] [(12, .agg [.i v1.Code, .i v1.Index]), (11, .agg [.s (([] : Str)), .s (([] : Str)), .bo false, .pv (.sl (some true) []), .pv (.sl (some true) []), .pv (.sl (some true) []), .i 0])] [(4, .ptr 4 0), (5, .ptr 5 0), (12, .agg [.i v1.Code, .i v1.Index])] [(6, .cells [.i v1.Code, .i v1.Index]), (5, .cells [.i 0, .i 0]), (4, .cells [.s (([] : Str)), .s (([] : Str)), .bo false, .pv (.sl (some true) []), .pv (.sl (some true) []), .pv (.sl (some true) []), .i 0]), (2, .cells [.s a0.Address, .s a0.Owner, .bo a0.Open, .l cS a0.Subscribers, .l cS a0.Moderators, .l THeld.pc a0.Held, .i a0.Next])] tk mixed (by kernel_rfl) rfl rfl rfl (pqX tk rfl (.plain rfl) (pqX tk rfl (.plain rfl) .nil)) rfl rfl rfl rfl (by kernel_rfl) ?_
  refine rn tk 5 rfl ?_
  cases hr
  exact kr tk (.inr rfl) rfl rfl
 ·
  refine rn tk 7 rfl ?_
  obtain ⟨v6, h7, hr⟩ := bind_some hr
  refine cl (envelope_Address_run _ _ h7) rfl rfl ?_
  refine rn tk 4 rfl ?_
  refine ac 13 hr rfl (fun c8 hr => ?_) (fun c8 hr => ?_)
  ·
   refine rn tk 3 rfl ?_
   obtain ⟨v9, h10, hr⟩ := bind_some hr
   refine cl (basic_Fault_run _ _ _ h10) rfl rfl ?_
   refine rn tk 7 rfl ?_
   cases hr
   exact kr tk (.inr rfl) rfl rfl
  ·
   refine rn tk 5 rfl ?_
   obtain ⟨v11, h12, hr⟩ := bind_some hr
   refine cl (slices_Contains_string_string_run _ _ _ h12) rfl rfl ?_
   refine rn tk 3 rfl ?_
   refine ac 19 hr rfl (fun c13 hr => ?_) (fun c13 hr => ?_)
   ·
    refine rn tk 3 rfl ?_
    obtain ⟨v14, h15, hr⟩ := bind_some hr
    refine cl (basic_Fault_run _ _ _ h15) rfl rfl ?_
    refine rn tk 7 rfl ?_
    cases hr
    exact kr tk (.inr rfl) rfl rfl
   ·
    refine rn tk 4 rfl ?_
    refine wn tk rfl rfl rfl ?_
    refine rn tk 4 rfl ?_
    refine ac 26 hr rfl (fun c16 hr => ?_) (fun c16 hr => ?_)
    ·
     refine rn tk 3 rfl ?_
     obtain ⟨v17, h18, hr⟩ := bind_some hr
     refine cl (basic_Fault_run _ _ _ h18) rfl rfl ?_
     refine rn tk 7 rfl ?_
     cases hr
     exact kr tk (.inr rfl) rfl rfl
    ·
     refine rn tk 6 rfl ?_
     refine il (fn := Try.f39) (args := [.agg [.s a0.Address, .s a0.Owner, .bo a0.Open, .l cS a0.Subscribers, .l cS a0.Moderators, .l THeld.pc a0.Held, .i a0.Next]]) 100000 199999 [(1, .s a1), (2, .ptr 2 0), (4, .ptr 4 0), (5, .ptr 5 0)] rfl ⟨Try.func39, rfl, by kernel_rfl⟩ rfl rfl rfl fun T1 ds1 => ?_
     refine rn tk 3 rfl ?_
     refine wo (opTo_alloc (k := 2) 1002 rfl ty_api_List (.inr ⟨rfl, rfl⟩) rfl rfl rfl) rfl ?_
     refine awpl_adoptC 2002 (o := 1002) (j := 3) 9 1 rfl rfl rfl rfl (hO ?_)
     refine awpl_adoptCM 3002 (o := 1002) (j := 5) 78 6 rfl rfl rfl rfl (hO ?_)
     refine rn tk 3 rfl ?_
     obtain ⟨v19, h20, hr⟩ := bind_some hr
     obtain ⟨v21, h22, hr⟩ := bind_some hr
     obtain ⟨v23, h24, hr⟩ := bind_some hr
     refine drX 10 10 1 1 [] [(13, .ptr 1 3), (12, .hs 1012 0), (11, .l THeld.pc a0.Held), (10, .ptr 1 5), (9, .l cS v21), (8, .l cS a0.Moderators), (7, .ptr 1 4), (6, .hs 1006 0), (5, .l cS a0.Subscribers), (4, .ptr 1 3)] [(1, .ptr 1 0), (2, .ptr 1002 0), (6, .hs 1006 0), (9, .l cS v21), (12, .hs 1012 0), (13, .ptr 1 3)] [(1012, .row 78 true 6 (List.map THeld.pc v23)), (1006, .row 9 true 1 (List.map cS v19)), (3002, .row 78 true 6 (List.map THeld.pc (([] : List THeld)))), (2002, .row 9 false 1 (List.map cS (([] : List Str)))), (1002, .cells [.s (([] : Str)), .s (([] : Str)), .bo false, .hs 2002 0, .pv (.sl (some true) []), .hs 3002 0, .i 0]), (1, .cells [.s a0.Address, .s a0.Owner, .bo a0.Open, .l cS a0.Subscribers, .l cS a0.Moderators, .l THeld.pc a0.Held, .i a0.Next]), (199999, .sus g0.w.heap.size ds1), (100001, .hold (.s a1) (T1.getD 1 undef)), (100002, .hold (.ptr 2 0) (T1.getD 2 undef)), (100004, .hold (.ptr 4 0) (T1.getD 4 undef)), (100005, .hold (.ptr 5 0) (T1.getD 5 undef)), (6, .cells [.i v1.Code, .i v1.Index]), (5, .cells [.i 0, .i 0]), (4, .cells [.s (([] : Str)), .s (([] : Str)), .bo false, .pv (.sl (some true) []), .pv (.sl (some true) []), .pv (.sl (some true) []), .i 0]), (2, .cells [.s a0.Address, .s a0.Owner, .bo a0.Open, .l cS a0.Subscribers, .l cS a0.Moderators, .l THeld.pc a0.Held, .i a0.Next])] tk mixed (by kernel_rfl) rfl rfl rfl (pqX tk rfl (.plain rfl) (pqX tk rfl (.plain rfl) (.new 1006 (.plain rfl) (opNewX_callO 1006 (slices_Clone_string_string_runO a0.Subscribers v19 h20) rfl) (pqX tk rfl (.plain rfl) (pqX tk rfl (.plain rfl) (.run (.plain rfl) (opG_call (slices_Clone_string_string_run a0.Moderators v21 h22) rfl) (pqX tk rfl (.plain rfl) (pqX tk rfl (.plain rfl) (.new 1012 (.plain rfl) (opNewX_callO 1012 (slices_Clone_api_Held_api_Held_runO a0.Held v23 h24) rfl) (pqX tk rfl (.plain rfl) .nil)))))))))) rfl rfl rfl rfl (by kernel_rfl) ?_
     refine rn tk 12 rfl ?_
     refine wnh tk rfl rfl rfl rfl ?_
     refine rn tk 4 rfl ?_
     refine al1 hr (fun s25 => [(1, .ptr 1 0), (2, .ptr 1002 0), (18, .i ((v23.length : Int))), (19, .i s25.1)]) (fun s25 => [(1012, .row 78 true 6 (List.map THeld.pc s25.2)), (1006, .row 9 true 1 (List.map cS v19)), (3002, .row 78 true 6 (List.map THeld.pc (([] : List THeld)))), (2002, .row 9 false 1 (List.map cS (([] : List Str)))), (1002, .cells [.s (([] : Str)), .s (([] : Str)), .bo false, .hs 2002 0, .l cS ([]), .hs 3002 0, .i 0]), (1, .cells [.s a0.Address, .s a0.Owner, .bo a0.Open, .hs 1006 0, .l cS v21, .hs 1012 0, .i a0.Next]), (199999, .sus g0.w.heap.size ds1), (100001, .hold (.s a1) (T1.getD 1 undef)), (100002, .hold (.ptr 2 0) (T1.getD 2 undef)), (100004, .hold (.ptr 4 0) (T1.getD 4 undef)), (100005, .hold (.ptr 5 0) (T1.getD 5 undef)), (5, .cells [.i 0, .i 0]), (4, .cells [.s (([] : Str)), .s (([] : Str)), .bo false, .l cS ([]), .l cS ([]), .l THeld.pc ([]), .i 0]), (2, .cells [.s a0.Address, .s a0.Owner, .bo a0.Open, .l cS a0.Subscribers, .l cS a0.Moderators, .l THeld.pc a0.Held, .i a0.Next])]) (.exit 0) (fun b26 => [(1, .ptr 1 0), (2, .ptr 1002 0)]) (fun b26 => [(1012, .row 78 true 6 (List.map THeld.pc b26)), (1006, .row 9 true 1 (List.map cS v19)), (3002, .row 78 true 6 (List.map THeld.pc (([] : List THeld)))), (2002, .row 9 false 1 (List.map cS (([] : List Str)))), (1002, .cells [.s (([] : Str)), .s (([] : Str)), .bo false, .hs 2002 0, .l cS ([]), .hs 3002 0, .i 0]), (1, .cells [.s a0.Address, .s a0.Owner, .bo a0.Open, .hs 1006 0, .l cS v21, .hs 1012 0, .i a0.Next]), (199999, .sus g0.w.heap.size ds1), (100001, .hold (.s a1) (T1.getD 1 undef)), (100002, .hold (.ptr 2 0) (T1.getD 2 undef)), (100004, .hold (.ptr 4 0) (T1.getD 4 undef)), (100005, .hold (.ptr 5 0) (T1.getD 5 undef)), (5, .cells [.i 0, .i 0]), (4, .cells [.s (([] : Str)), .s (([] : Str)), .bo false, .l cS ([]), .l cS ([]), .l THeld.pc ([]), .i 0]), (2, .cells [.s a0.Address, .s a0.Owner, .bo a0.Open, .l cS a0.Subscribers, .l cS a0.Moderators, .l THeld.pc a0.Held, .i a0.Next])]) rfl rfl (fun s25 x27 hr => ?_) (fun b26 hr => ?_)
     ·
      unfold lists_Subscribe_l1 at hr
      refine rn tk 6 rfl ?_
      refine ac 20 hr rfl (fun c28 hr => ?_) (fun c28 hr => ?_)
      ·
       refine rn tk 10 rfl ?_
       obtain ⟨v29, h30, hr⟩ := bind_some hr
       obtain ⟨v31, h32, hr⟩ := bind_some hr
       obtain ⟨v33, h34, hr⟩ := bind_some hr
       refine dr 10 [(31, .agg [.s v33.Envelope.From, .l TRecipient.pc v33.Envelope.To, .s v33.Envelope.Id, .l TField.pc v33.Message.Fields, .l cU v33.Message.Body]), (30, .agg [.s v31.Mail.Envelope.From, .l TRecipient.pc v31.Mail.Envelope.To, .s v31.Mail.Envelope.Id, .l TField.pc v31.Mail.Message.Fields, .l cU v31.Mail.Message.Body]), (29, .hp 1012 (Int.toNat s25.1) 1), (28, .hp 1012 (Int.toNat s25.1) 0), (27, .i s25.1), (26, .hs 1012 0), (25, .ptr 1 5), (24, .i s25.1), (23, .hs 1012 0), (22, .ptr 1 5)] mixed (by kernel_rfl) rfl rfl (pq tk rfl (.plain rfl) (pq tk rfl (.plain rfl) (pq tk rfl (.plain rfl) (pq tk rfl (.plain rfl) (pq tk rfl (.plain rfl) (pq tk rfl (.plain rfl) (.run (.plain rfl) (opG_q (ev_hidx (F := THeld.pc) (l := s25.2) (n := s25.1) rfl rfl rfl ty_s_api_Held ty_api_Held h30)) (pq tk rfl (.plain rfl) (.run (.plain rfl) (opG_q (ev_hloadN (F := THeld.pc) (l := s25.2) (n := s25.1) (j := 1) rfl rfl ty_api_Mail rfl h32 rfl)) (.run (.plain rfl) (opG_call (queue_CopyMail_run v31.Mail v33 h34) rfl) .nil)))))))))) rfl ?_
       obtain ⟨v35, h36, hr⟩ := bind_some hr
       refine wih tk h36 rfl rfl rfl rfl rfl ?_
       refine rn tk 1 rfl ?_
       obtain ⟨v37, h38, hr⟩ := bind_some hr
       refine wo (opTo_hstore (F := THeld.pc) (l := s25.2) (n := s25.1) (j := 1) (v := v37) (v' := ((THeld.mk v37.Number v33))) (pcs := [pS v33.Envelope.From, pL TRecipient.pc v33.Envelope.To, pS v33.Envelope.Id, pL TField.pc v33.Message.Fields, pL cU v33.Message.Body]) rfl rfl rfl ty_api_Mail rfl h38 rfl rfl) rfl ?_
       refine rn tk 7 rfl ?_
       cases hr
       exact atc rfl rfl
      ·
       refine rn tk 2 rfl ?_
       cases hr
       exact ato rfl rfl rfl rfl
     ·
      refine rn tk 9 rfl ?_
      refine ie tk [.agg [.s a0.Address, .s a0.Owner, .bo a0.Open, .hs 1006 0, .l cS v21, .hs 1012 0, .i a0.Next]] [(1, .s a1), (2, .ptr 2 0), (4, .ptr 4 0), (5, .ptr 5 0)] [(1012, .row 78 true 6 (List.map THeld.pc b26)), (1006, .row 9 true 1 (List.map cS v19)), (3002, .row 78 true 6 (List.map THeld.pc (([] : List THeld)))), (2002, .row 9 false 1 (List.map cS (([] : List Str)))), (1002, .cells [.s a0.Address, .s a0.Owner, .bo a0.Open, .hs 1006 0, .l cS v21, .hs 1012 0, .i a0.Next]), (1, .cells [.s a0.Address, .s a0.Owner, .bo a0.Open, .hs 1006 0, .l cS v21, .hs 1012 0, .i a0.Next]), (5, .cells [.i 0, .i 0]), (4, .cells [.s (([] : Str)), .s (([] : Str)), .bo false, .l cS ([]), .l cS ([]), .l THeld.pc ([]), .i 0]), (2, .cells [.s a0.Address, .s a0.Owner, .bo a0.Open, .l cS a0.Subscribers, .l cS a0.Moderators, .l THeld.pc a0.Held, .i a0.Next])] (.inr rfl) rfl rfl rfl rfl (hO ?_)
      refine rn tk 8 rfl ?_
      refine wz cS ([a1] : List Str) tk rfl rfl (fun _ => rfl) rfl rfl rfl ?_
      obtain ⟨v39, h40, hr⟩ := bind_some hr
      refine wa tk h40 rfl rfl rfl rfl (fun _ => rfl) rfl rfl ?_
      refine rn tk 5 rfl ?_
      obtain ⟨v41, h42, hr⟩ := bind_some hr
      refine dr 2 [(42, .agg [.i v41.Code, .i v41.Index]), (41, .agg [.s a0.Address, .s a0.Owner, .bo a0.Open, .hs 1006 0, .l cS v21, .hs 1012 0, .i a0.Next])] mixed (by kernel_rfl) rfl rfl (pq tk rfl (.plain rfl) (.run (.plain rfl) (opG_call (basic_None_run  v41 h42) rfl) .nil)) rfl ?_
      refine rn tk 4 rfl ?_
      refine awp_unmu 1006 rfl (hC ?_)
      refine awp_pubC (o := 4) (j := 3) (F := cS) (l := v39) rfl rfl rfl (hC ?_)
      refine awp_unmu 1012 rfl (hC ?_)
      refine awp_pubC (o := 4) (j := 5) (F := THeld.pc) (l := b26) rfl rfl rfl (hC ?_)
      refine rn tk 1 rfl ?_
      cases hr
      exact kr tk (.inr rfl) rfl rfl
theorem L_posts_run  (r : Bool) (hr : L_posts = some r) : Run Try.prog 18 [] (.bo r) := by
 unfold L_posts at hr
 refine rf (fn := Try.f18) ⟨Try.func18, rfl, by kernel_rfl⟩ rfl (fun _ => rfl) fun g0 hg => ?_
 refine rn tk 7 rfl ?_
 refine wz cS ([([115, 64, 120] : Str), ([116, 64, 120] : Str)] : List Str) tk rfl rfl (fun _ => rfl) rfl rfl rfl ?_
 refine wz cS ([([109, 64, 120] : Str)] : List Str) tk rfl rfl (fun _ => rfl) rfl rfl rfl ?_
 refine rn tk 6 rfl ?_
 obtain ⟨v1, h2, hr⟩ := bind_some hr
 obtain ⟨v3, h4, hr⟩ := bind_some hr
 refine drX 10 12 5 14 [6, 7] [(4, .ptr 4 0), (2, .ptr 2 0), (26, .agg [.i v3.2.2.Code, .i v3.2.2.Index]), (25, .l TMail.pc v3.2.1), (24, .agg [.s v3.1.Address, .s v3.1.Owner, .bo v3.1.Open, .l cS v3.1.Subscribers, .l cS v3.1.Moderators, .l THeld.pc v3.1.Held, .i v3.1.Next]), (19, .tup [.agg [.s v3.1.Address, .s v3.1.Owner, .bo v3.1.Open, .l cS v3.1.Subscribers, .l cS v3.1.Moderators, .l THeld.pc v3.1.Held, .i v3.1.Next], .l TMail.pc v3.2.1, .agg [.i v3.2.2.Code, .i v3.2.2.Index]]), (23, .tup [.agg [.s v3.1.Address, .s v3.1.Owner, .bo v3.1.Open, .l cS v3.1.Subscribers, .l cS v3.1.Moderators, .l THeld.pc v3.1.Held, .i v3.1.Next], .l TMail.pc v3.2.1, .agg [.i v3.2.2.Code, .i v3.2.2.Index]]), (22, .agg [.s v1.Envelope.From, .l TRecipient.pc v1.Envelope.To, .s v1.Envelope.Id, .l TField.pc v1.Message.Fields, .l cU v1.Message.Body]), (21, .l cS (([([108, 64, 120] : Str)] : List Str))), (20, .agg [.s (([108, 64, 120] : Str)), .s (([111, 64, 120] : Str)), .bo false, .l cS (([([115, 64, 120] : Str), ([116, 64, 120] : Str)] : List Str)), .l cS (([([109, 64, 120] : Str)] : List Str)), .pv (.sl (some true) []), .i 0])] [(1, .ptr 1 0), (3, .l TMail.pc v3.2.1), (4, .ptr 4 0), (26, .agg [.i v3.2.2.Code, .i v3.2.2.Index])] [(4, .cells [.i 0, .i 0]), (2, .cells [.s v3.1.Address, .s v3.1.Owner, .bo v3.1.Open, .l cS v3.1.Subscribers, .l cS v3.1.Moderators, .l THeld.pc v3.1.Held, .i v3.1.Next]), (1, .cells [.s (([108, 64, 120] : Str)), .s (([111, 64, 120] : Str)), .bo false, .l cS (([([115, 64, 120] : Str), ([116, 64, 120] : Str)] : List Str)), .l cS (([([109, 64, 120] : Str)] : List Str)), .pv (.sl (some true) []), .i 0])] tk mixed (by kernel_rfl) rfl rfl rfl (pqX tk rfl (.plain rfl) (.run (.plain rfl) (opG_lit (F := cS) (l := ([([108, 64, 120] : Str)] : List Str)) ty_s_string ty_string rfl (fun _ => rfl) rfl rfl) (.run (.plain rfl) (opG_call (L_plain_run (([([108, 64, 120] : Str)] : List Str)) v1 h2) rfl) (.run (.plain rfl) (opG_call (lists_Post_run ((TList.mk (([108, 64, 120] : Str)) (([111, 64, 120] : Str)) false (([([115, 64, 120] : Str), ([116, 64, 120] : Str)] : List Str)) (([([109, 64, 120] : Str)] : List Str)) ([]) 0)) v1 v3 h4) rfl) (pqX tk rfl (.plain rfl) (pqX tk rfl (.plain rfl) (pqX tk rfl (.plain rfl) (pqX tk rfl (.plain rfl) (pnX 2 tk rfl rfl rfl (.plain rfl) (pnX 4 tk rfl rfl rfl (.plain rfl) .nil)))))))))) rfl rfl rfl rfl (by kernel_rfl) ?_
 refine rn tk 5 rfl ?_
 refine wz cS ([([108, 64, 120] : Str)] : List Str) tk rfl rfl (fun _ => rfl) rfl rfl rfl ?_
 obtain ⟨v5, h6, hr⟩ := bind_some hr
 refine cl (L_plain_run _ _ h6) rfl rfl ?_
 refine rn tk 15 rfl ?_
 obtain ⟨v7, h8, hr⟩ := bind_some hr
 refine cl (lists_Post_run _ _ _ h8) rfl rfl ?_
 refine rn tk 12 rfl ?_
 refine jb hr (fun j9 => [(1, .ptr 1 0), (3, .l TMail.pc v3.2.1), (6, .ptr 6 0), (7, .l TMail.pc v7.2.1), (61, .bo j9)]) (fun j9 => [(6, .cells [.s v7.1.Address, .s v7.1.Owner, .bo v7.1.Open, .l cS v7.1.Subscribers, .l cS v7.1.Moderators, .l THeld.pc v7.1.Held, .i v7.1.Next]), (1, .cells [.s (([108, 64, 120] : Str)), .s (([111, 64, 120] : Str)), .bo false, .l cS (([([115, 64, 120] : Str), ([116, 64, 120] : Str)] : List Str)), .l cS (([([109, 64, 120] : Str)] : List Str)), .l THeld.pc ([]), .i 0])]) (fun j9 hr => ?_) (fun j9 hr => ?_)
 ·
  refine rn tk 5 rfl ?_
  refine bs 41 hr rfl (fun c10 hr => ?_) (fun c10 hr => ?_)
  ·
   refine rn tk 21 rfl ?_
   cases hr
   exact jn _ rfl rfl rfl
  ·
   refine rn tk 5 rfl ?_
   refine bs 46 hr rfl (fun c11 hr => ?_) (fun c11 hr => ?_)
   ·
    refine rn tk 16 rfl ?_
    cases hr
    exact jn _ rfl rfl rfl
   ·
    refine rn tk 1 rfl ?_
    refine ug rfl rfl rfl ?_
    refine wn tk rfl rfl rfl ?_
    refine rn tk 3 rfl ?_
    refine bs 51 hr rfl (fun c12 hr => ?_) (fun c12 hr => ?_)
    ·
     refine rn tk 11 rfl ?_
     cases hr
     exact jn _ rfl rfl rfl
    ·
     refine rn tk 1 rfl ?_
     refine ug rfl rfl rfl ?_
     refine wn tk rfl rfl rfl ?_
     refine rn tk 3 rfl ?_
     refine bs 56 hr rfl (fun c13 hr => ?_) (fun c13 hr => ?_)
     ·
      refine rn tk 6 rfl ?_
      cases hr
      exact jn _ rfl rfl rfl
     ·
      refine rn tk 2 rfl ?_
      refine ug rfl rfl rfl ?_
      refine wn tk rfl rfl rfl ?_
      refine rn tk 3 rfl ?_
      cases hr
      exact jn _ rfl rfl rfl
 ·
  refine ac 61 hr rfl (fun c14 hr => ?_) (fun c14 hr => ?_)
  ·
   refine rn tk 7 rfl ?_
   cases hr
   exact kr tk (.inr rfl) rfl rfl
  ·
   refine rn tk 5 rfl ?_
   obtain ⟨v15, h16, hr⟩ := bind_some hr
   refine cl (lists_Approve_run _ _ _ _ h16) rfl rfl ?_
   refine rn tk 14 rfl ?_
   obtain ⟨v17, h18, hr⟩ := bind_some hr
   refine cl (lists_Reject_run _ _ _ _ h18) rfl rfl ?_
   refine rn tk 12 rfl ?_
   obtain ⟨v19, h20, hr⟩ := bind_some hr
   refine cl (lists_Subscribe_run _ _ _ h20) rfl rfl ?_
   refine rn tk 10 rfl ?_
   refine jb hr (fun j21 => [(3, .l TMail.pc v3.2.1), (7, .l TMail.pc v7.2.1), (10, .l TMail.pc v15.2.1), (107, .bo j21)]) (fun j21 => []) (fun j21 hr => ?_) (fun j21 hr => ?_)
   ·
    refine bool_split ((v15.2.2.Code != 0)) (fun c22 => ?_) (fun c22 => ?_)
    ·
     replace hr := cond_t c22 hr
     refine dr 11 [(88, .tup []), (87, .tup []), (86, .bo true), (85, .bo true), (84, .tup []), (83, .tup []), (82, .tup []), (81, .bo ((v15.2.2.Code != 0))), (80, .bo ((v15.2.2.Code != 0))), (79, .i v15.2.2.Code), (78, .ptr 11 0)] mixed (by kernel_rfl) rfl rfl (pq tk rfl (.plain rfl) (pq tk rfl (.plain rfl) (pq tk rfl (.plain rfl) (pq tk rfl (.plain rfl) (.skip (.no (d := 81) rfl rfl rfl c22) (.skip (.no (d := 81) rfl rfl rfl c22) (.skip (.no (d := 81) rfl rfl rfl c22) (.run (.plain rfl) (opG_q (ev_pick_t rfl c22)) (pq tk rfl (.plain rfl) (.skip (.no (d := 86) rfl rfl rfl rfl) (.skip (.no (d := 86) rfl rfl rfl rfl) .nil))))))))))) rfl ?_
     refine rn tk 20 rfl ?_
     cases hr
     exact jn _ rfl rfl rfl
    ·
     replace hr := cond_f c22 hr
     refine bool_split ((v19.2.Code != 0)) (fun c23 => ?_) (fun c23 => ?_)
     ·
      replace hr := cond_t c23 hr
      refine dr 11 [(88, .tup []), (87, .tup []), (86, .bo ((v19.2.Code != 0))), (85, .bo ((v19.2.Code != 0))), (84, .bo ((v19.2.Code != 0))), (83, .i v19.2.Code), (82, .ptr 15 0), (81, .bo ((v15.2.2.Code != 0))), (80, .bo ((v15.2.2.Code != 0))), (79, .i v15.2.2.Code), (78, .ptr 11 0)] mixed (by kernel_rfl) rfl rfl (pq tk rfl (.plain rfl) (pq tk rfl (.plain rfl) (pq tk rfl (.plain rfl) (pq tk rfl (.plain rfl) (pq tk rfl (.yes (d := 81) rfl rfl rfl c22) (pq tk rfl (.yes (d := 81) rfl rfl rfl c22) (pq tk rfl (.yes (d := 81) rfl rfl rfl c22) (.run (.plain rfl) (opG_q (ev_pick_f rfl c22)) (pq tk rfl (.plain rfl) (.skip (.no (d := 86) rfl rfl rfl c23) (.skip (.no (d := 86) rfl rfl rfl c23) .nil))))))))))) rfl ?_
      refine kn 86 c23 rfl ?_
      refine rn tk 20 rfl ?_
      cases hr
      exact jn _ rfl rfl rfl
     ·
      replace hr := cond_f c23 hr
      obtain ⟨v24, h25, hr⟩ := bind_some hr
      refine dr 11 [(88, .agg [.i v24.Code, .i v24.Index]), (87, .agg [.i v17.2.Code, .i v17.2.Index]), (86, .bo ((v19.2.Code != 0))), (85, .bo ((v19.2.Code != 0))), (84, .bo ((v19.2.Code != 0))), (83, .i v19.2.Code), (82, .ptr 15 0), (81, .bo ((v15.2.2.Code != 0))), (80, .bo ((v15.2.2.Code != 0))), (79, .i v15.2.2.Code), (78, .ptr 11 0)] mixed (by kernel_rfl) rfl rfl (pq tk rfl (.plain rfl) (pq tk rfl (.plain rfl) (pq tk rfl (.plain rfl) (pq tk rfl (.plain rfl) (pq tk rfl (.yes (d := 81) rfl rfl rfl c22) (pq tk rfl (.yes (d := 81) rfl rfl rfl c22) (pq tk rfl (.yes (d := 81) rfl rfl rfl c22) (.run (.plain rfl) (opG_q (ev_pick_f rfl c22)) (pq tk rfl (.plain rfl) (pq tk rfl (.yes (d := 86) rfl rfl rfl c23) (.run (.yes (d := 86) rfl rfl rfl c23) (opG_call (R_At_run 17 ((-19)) v24 h25) rfl) .nil))))))))))) rfl ?_
      refine kn 86 c23 rfl ?_
      refine ug rfl rfl rfl ?_
      refine wq (ev_structne rfl rfl ty_api_Fault cmp_api_Fault (.int rfl (by decide) ty_int (.int rfl (by decide) ty_int .nil))) rfl rfl rfl ?_
      refine rn tk 2 rfl ?_
      refine bs 91 hr rfl (fun c26 hr => ?_) (fun c26 hr => ?_)
      ·
       refine rn tk 17 rfl ?_
       cases hr
       exact jn _ rfl rfl rfl
      ·
       refine rn tk 1 rfl ?_
       refine ug rfl rfl rfl ?_
       refine wn tk rfl rfl rfl ?_
       refine rn tk 3 rfl ?_
       refine bs 96 hr rfl (fun c27 hr => ?_) (fun c27 hr => ?_)
       ·
        refine rn tk 12 rfl ?_
        cases hr
        exact jn _ rfl rfl rfl
       ·
        refine rn tk 2 rfl ?_
        refine ug rfl rfl rfl ?_
        refine wn tk rfl rfl rfl ?_
        refine rn tk 3 rfl ?_
        refine bs 102 hr rfl (fun c28 hr => ?_) (fun c28 hr => ?_)
        ·
         refine rn tk 6 rfl ?_
         cases hr
         exact jn _ rfl rfl rfl
        ·
         refine rn tk 2 rfl ?_
         refine ug rfl rfl rfl ?_
         refine wn tk rfl rfl rfl ?_
         refine rn tk 3 rfl ?_
         cases hr
         exact jn _ rfl rfl rfl
   ·
    refine ac 107 hr rfl (fun c29 hr => ?_) (fun c29 hr => ?_)
    ·
     refine rn tk 7 rfl ?_
     cases hr
     exact kr tk (.inr rfl) rfl rfl
    ·
     refine rn tk 2 rfl ?_
     refine jb hr (fun j30 => [(0, .bo j30)]) (fun j30 => []) (fun j30 hr => ?_) (fun j30 hr => ?_)
     ·
      refine rn tk 2 rfl ?_
      obtain ⟨v31, h32, hr⟩ := bind_some hr
      refine wi tk h32 rfl rfl rfl rfl rfl ?_
      refine rn tk 4 rfl ?_
      refine wz TRecipient.pc ([(TRecipient.mk (([116, 64, 120] : Str)) 0)] : List TRecipient) tk rfl rfl (fun _ => rfl) rfl rfl rfl ?_
      obtain ⟨v33, h34, hr⟩ := bind_some hr
      refine cl (R_SameRecipients_run _ _ _ h34) rfl rfl ?_
      refine rn tk 1 rfl ?_
      refine bs 116 hr rfl (fun c35 hr => ?_) (fun c35 hr => ?_)
      ·
       refine rn tk 1 rfl ?_
       obtain ⟨v36, h37, hr⟩ := bind_some hr
       refine ug rfl rfl rfl ?_
       refine wi tk h37 rfl rfl rfl rfl rfl ?_
       refine rn tk 4 rfl ?_
       refine ug rfl rfl rfl ?_
       refine wz TRecipient.pc ([(TRecipient.mk (([109, 64, 120] : Str)) 0)] : List TRecipient) tk rfl rfl (fun _ => rfl) rfl rfl rfl ?_
       obtain ⟨v38, h39, hr⟩ := bind_some hr
       refine ug rfl rfl rfl ?_
       refine cl (R_SameRecipients_run _ _ _ h39) rfl rfl ?_
       refine rn tk 2 rfl ?_
       refine bs 126 hr rfl (fun c40 hr => ?_) (fun c40 hr => ?_)
       ·
        refine rn tk 1 rfl ?_
        obtain ⟨v41, h42, hr⟩ := bind_some hr
        refine ug rfl rfl rfl ?_
        refine wi tk h42 rfl rfl rfl rfl rfl ?_
        refine rn tk 3 rfl ?_
        refine ug rfl rfl rfl ?_
        refine wn tk rfl rfl rfl ?_
        refine rn tk 3 rfl ?_
        refine bs 135 hr rfl (fun c43 hr => ?_) (fun c43 hr => ?_)
        ·
         refine rn tk 1 rfl ?_
         obtain ⟨v44, h45, hr⟩ := bind_some hr
         refine ug rfl rfl rfl ?_
         refine wi tk h45 rfl rfl rfl rfl rfl ?_
         refine rn tk 7 rfl ?_
         cases hr
         exact jn _ rfl rfl rfl
        ·
         refine rn tk 9 rfl ?_
         cases hr
         exact jn _ rfl rfl rfl
       ·
        refine rn tk 18 rfl ?_
        cases hr
        exact jn _ rfl rfl rfl
      ·
       refine rn tk 28 rfl ?_
       cases hr
       exact jn _ rfl rfl rfl
     ·
      refine rn tk 1 rfl ?_
      cases hr
      exact kr tk (.inr rfl) rfl rfl
theorem R_Has_run (a0 : List Str) (a1 : Str) (r : Bool) (hr : R_Has a0 a1 = some r) : Run Try.prog 16 [.l cS a0, .s a1] (.bo r) := by
 unfold R_Has at hr
 refine rf (fn := Try.f16) ⟨Try.func16, rfl, by kernel_rfl⟩ rfl (fun _ => rfl) fun g0 hg => ?_
 refine rn tk 12 rfl ?_
 refine al2 hr (fun s1 => [(0, .l cS a0), (1, .s a1), (5, .i s1)]) (fun s1 => []) (.exit 0) (fun b2 => []) (fun b2 => []) .ret (fun b3 => [(4, .bo b3)]) (fun b3 => []) rfl rfl (fun s1 x5 hr => ?_) (fun b2 hr => ?_) (fun b3 hr => ?_)
 ·
  unfold R_Has_l1 at hr
  refine rn tk 5 rfl ?_
  refine wn tk rfl rfl rfl ?_
  refine rn tk 3 rfl ?_
  refine ac 9 hr rfl (fun c6 hr => ?_) (fun c6 hr => ?_)
  ·
   refine rn tk 8 rfl ?_
   obtain ⟨v7, h8, hr⟩ := bind_some hr
   refine wi tk h8 rfl rfl rfl rfl rfl ?_
   refine rn tk 5 rfl ?_
   refine ac 17 hr rfl (fun c9 hr => ?_) (fun c9 hr => ?_)
   ·
    refine rn tk 8 rfl ?_
    cases hr
    exact ato rfl rfl rfl rfl
   ·
    refine rn tk 8 rfl ?_
    cases hr
    exact atc rfl rfl
  ·
   refine rn tk 2 rfl ?_
   cases hr
   exact ato rfl rfl rfl rfl
 ·
  refine rn tk 8 rfl ?_
  cases hr
  exact kr tk (.inr rfl) rfl rfl
 ·
  refine rn tk 2 rfl ?_
  cases hr
  exact kr tk (.inr rfl) rfl rfl
theorem R_MayPost_run (a0 : TList) (a1 : Str) (r : Bool) (hr : R_MayPost a0 a1 = some r) : Run Try.prog 19 [.agg [.s a0.Address, .s a0.Owner, .bo a0.Open, .l cS a0.Subscribers, .l cS a0.Moderators, .l THeld.pc a0.Held, .i a0.Next], .s a1] (.bo r) := by
 unfold R_MayPost at hr
 refine rf (fn := Try.f19) ⟨Try.func19, rfl, by kernel_rfl⟩ rfl (fun _ => rfl) fun g0 hg => ?_
 refine rn tk 6 rfl ?_
 refine jb hr (fun j1 => [(4, .bo j1)]) (fun j1 => []) (fun j1 hr => ?_) (fun j1 hr => ?_)
 ·
  refine rn tk 4 rfl ?_
  refine bs 7 hr rfl (fun c2 hr => ?_) (fun c2 hr => ?_)
  ·
   refine rn tk 13 rfl ?_
   cases hr
   exact jn _ rfl rfl rfl
  ·
   refine rn tk 3 rfl ?_
   obtain ⟨v3, h4, hr⟩ := bind_some hr
   refine ug rfl rfl rfl ?_
   refine cl (R_Has_run _ _ _ h4) rfl rfl ?_
   refine rn tk 2 rfl ?_
   refine bs 13 hr rfl (fun c5 hr => ?_) (fun c5 hr => ?_)
   ·
    refine rn tk 7 rfl ?_
    cases hr
    exact jn _ rfl rfl rfl
   ·
    refine rn tk 3 rfl ?_
    obtain ⟨v6, h7, hr⟩ := bind_some hr
    refine ug rfl rfl rfl ?_
    refine cl (R_Has_run _ _ _ h7) rfl rfl ?_
    refine rn tk 3 rfl ?_
    cases hr
    exact jn _ rfl rfl rfl
 ·
  refine rn tk 1 rfl ?_
  cases hr
  exact kr tk (.inr rfl) rfl rfl
theorem L_ListsDoNotLoop_run (a0 : TList) (a1 : TMail) (r : Bool) (hr : L_ListsDoNotLoop a0 a1 = some r) : Run Try.prog 6 [.agg [.s a0.Address, .s a0.Owner, .bo a0.Open, .l cS a0.Subscribers, .l cS a0.Moderators, .l THeld.pc a0.Held, .i a0.Next], .agg [.s a1.Envelope.From, .l TRecipient.pc a1.Envelope.To, .s a1.Envelope.Id, .l TField.pc a1.Message.Fields, .l cU a1.Message.Body]] (.bo r) := by
 unfold L_ListsDoNotLoop at hr
 refine rf (fn := Try.f6) ⟨Try.func6, rfl, by kernel_rfl⟩ rfl (fun _ => rfl) fun g0 hg => ?_
 refine rn tk 11 rfl ?_
 obtain ⟨v1, h2, hr⟩ := bind_some hr
 refine cl (lists_Post_run _ _ _ h2) rfl rfl ?_
 refine rn tk 12 rfl ?_
 refine jb hr (fun j3 => [(2, .ptr 2 0), (3, .ptr 3 0), (6, .l TMail.pc v1.2.1), (25, .bo j3)]) (fun j3 => [(3, .cells [.s a1.Envelope.From, .l TRecipient.pc a1.Envelope.To, .s a1.Envelope.Id, .l TField.pc a1.Message.Fields, .l cU a1.Message.Body]), (2, .cells [.s a0.Address, .s a0.Owner, .bo a0.Open, .l cS a0.Subscribers, .l cS a0.Moderators, .l THeld.pc a0.Held, .i a0.Next])]) (fun j3 hr => ?_) (fun j3 hr => ?_)
 ·
  refine rn tk 1 rfl ?_
  obtain ⟨v4, h5, hr⟩ := bind_some hr
  refine cl (L_posts_run _ h5) rfl rfl ?_
  refine rn tk 2 rfl ?_
  refine bs 21 hr rfl (fun c6 hr => ?_) (fun c6 hr => ?_)
  ·
   refine rn tk 5 rfl ?_
   cases hr
   exact jn _ rfl rfl rfl
  ·
   refine rn tk 5 rfl ?_
   cases hr
   exact jn _ rfl rfl rfl
 ·
  refine ac 25 hr rfl (fun c7 hr => ?_) (fun c7 hr => ?_)
  ·
   refine jb hr (fun j8 => [(4, .bo j8)]) (fun j8 => []) (fun j8 hr => ?_) (fun j8 hr => ?_)
   ·
    refine rn tk 1 rfl ?_
    obtain ⟨v9, h10, hr⟩ := bind_some hr
    refine cl (L_posts_run _ h10) rfl rfl ?_
    refine rn tk 1 rfl ?_
    refine bs 27 hr rfl (fun c11 hr => ?_) (fun c11 hr => ?_)
    ·
     refine rn tk 1 rfl ?_
     refine ug rfl rfl rfl ?_
     refine wn tk rfl rfl rfl ?_
     refine rn tk 4 rfl ?_
     cases hr
     exact jn _ rfl rfl rfl
    ·
     refine rn tk 6 rfl ?_
     cases hr
     exact jn _ rfl rfl rfl
   ·
    refine rn tk 2 rfl ?_
    cases hr
    exact kr tk (.inr rfl) rfl rfl
  ·
   refine rn tk 9 rfl ?_
   refine al2 hr (fun s12 => [(2, .ptr 2 0), (3, .ptr 3 0), (6, .l TMail.pc v1.2.1), (8, .i s12)]) (fun s12 => [(3, .cells [.s a1.Envelope.From, .l TRecipient.pc a1.Envelope.To, .s a1.Envelope.Id, .l TField.pc a1.Message.Fields, .l cU a1.Message.Body]), (2, .cells [.s a0.Address, .s a0.Owner, .bo a0.Open, .l cS a0.Subscribers, .l cS a0.Moderators, .l THeld.pc a0.Held, .i a0.Next])]) (.exit 0) (fun b13 => [(6, .l TMail.pc v1.2.1)]) (fun b13 => []) .ret (fun b14 => [(4, .bo b14)]) (fun b14 => []) rfl rfl (fun s12 x16 hr => ?_) (fun b13 hr => ?_) (fun b14 hr => ?_)
   ·
    unfold L_ListsDoNotLoop_l1 at hr
    refine rn tk 5 rfl ?_
    refine wn tk rfl rfl rfl ?_
    refine rn tk 3 rfl ?_
    refine ac 35 hr rfl (fun c17 hr => ?_) (fun c17 hr => ?_)
    ·
     refine rn tk 5 rfl ?_
     obtain ⟨v18, h19, hr⟩ := bind_some hr
     obtain ⟨v20, h21, hr⟩ := bind_some hr
     refine drX 12 14 5 14 [8, 9] [(11, .ptr 11 0), (9, .ptr 9 0), (47, .agg [.i v20.2.2.Code, .i v20.2.2.Index]), (46, .l TMail.pc v20.2.1), (45, .agg [.s v20.1.Address, .s v20.1.Owner, .bo v20.1.Open, .l cS v20.1.Subscribers, .l cS v20.1.Moderators, .l THeld.pc v20.1.Held, .i v20.1.Next]), (38, .tup [.agg [.s v20.1.Address, .s v20.1.Owner, .bo v20.1.Open, .l cS v20.1.Subscribers, .l cS v20.1.Moderators, .l THeld.pc v20.1.Held, .i v20.1.Next], .l TMail.pc v20.2.1, .agg [.i v20.2.2.Code, .i v20.2.2.Index]]), (44, .tup [.agg [.s v20.1.Address, .s v20.1.Owner, .bo v20.1.Open, .l cS v20.1.Subscribers, .l cS v20.1.Moderators, .l THeld.pc v20.1.Held, .i v20.1.Next], .l TMail.pc v20.2.1, .agg [.i v20.2.2.Code, .i v20.2.2.Index]]), (43, .agg [.s v18.Envelope.From, .l TRecipient.pc v18.Envelope.To, .s v18.Envelope.Id, .l TField.pc v18.Message.Fields, .l cU v18.Message.Body]), (42, .ep [pS v18.Envelope.From, pL TRecipient.pc v18.Envelope.To, pS v18.Envelope.Id, pL TField.pc v18.Message.Fields, pL cU v18.Message.Body]), (41, .i s12), (40, .l TMail.pc v1.2.1), (39, .agg [.s a0.Address, .s a0.Owner, .bo a0.Open, .l cS a0.Subscribers, .l cS a0.Moderators, .l THeld.pc a0.Held, .i a0.Next])] [(2, .ptr 2 0), (3, .ptr 3 0), (6, .l TMail.pc v1.2.1), (8, .i s12), (11, .ptr 11 0), (47, .agg [.i v20.2.2.Code, .i v20.2.2.Index])] [(11, .cells [.i 0, .i 0]), (9, .cells [.s v20.1.Address, .s v20.1.Owner, .bo v20.1.Open, .l cS v20.1.Subscribers, .l cS v20.1.Moderators, .l THeld.pc v20.1.Held, .i v20.1.Next]), (3, .cells [.s a1.Envelope.From, .l TRecipient.pc a1.Envelope.To, .s a1.Envelope.Id, .l TField.pc a1.Message.Fields, .l cU a1.Message.Body]), (2, .cells [.s a0.Address, .s a0.Owner, .bo a0.Open, .l cS a0.Subscribers, .l cS a0.Moderators, .l THeld.pc a0.Held, .i a0.Next])] tk mixed (by kernel_rfl) rfl rfl rfl (pqX tk rfl (.plain rfl) (pqX tk rfl (.plain rfl) (pqX tk rfl (.plain rfl) (.run (.plain rfl) (opG_q (ev_idx (f := TMail.pc) rfl rfl ty_s_api_Mail ty_api_Mail rfl h19)) (pqX tk rfl (.plain rfl) (.run (.plain rfl) (opG_call (lists_Post_run a0 v18 v20 h21) rfl) (pqX tk rfl (.plain rfl) (pqX tk rfl (.plain rfl) (pqX tk rfl (.plain rfl) (pqX tk rfl (.plain rfl) (pnX 9 tk rfl rfl rfl (.plain rfl) (pnX 11 tk rfl rfl rfl (.plain rfl) .nil)))))))))))) rfl rfl rfl rfl (by kernel_rfl) ?_
     refine rn tk 3 rfl ?_
     refine jb hr (fun j22 => [(2, .ptr 2 0), (3, .ptr 3 0), (6, .l TMail.pc v1.2.1), (8, .i s12), (57, .bo j22)]) (fun j22 => [(3, .cells [.s a1.Envelope.From, .l TRecipient.pc a1.Envelope.To, .s a1.Envelope.Id, .l TField.pc a1.Message.Fields, .l cU a1.Message.Body]), (2, .cells [.s a0.Address, .s a0.Owner, .bo a0.Open, .l cS a0.Subscribers, .l cS a0.Moderators, .l THeld.pc a0.Held, .i a0.Next])]) (fun j22 hr => ?_) (fun j22 hr => ?_)
     ·
      refine rn tk 5 rfl ?_
      obtain ⟨v23, h24, hr⟩ := bind_some hr
      refine cl (R_MayPost_run _ _ _ h24) rfl rfl ?_
      refine rn tk 1 rfl ?_
      refine bs 53 hr rfl (fun c25 hr => ?_) (fun c25 hr => ?_)
      ·
       refine rn tk 5 rfl ?_
       cases hr
       exact jn _ rfl rfl rfl
      ·
       refine rn tk 5 rfl ?_
       cases hr
       exact jn _ rfl rfl rfl
     ·
      refine ac 57 hr rfl (fun c26 hr => ?_) (fun c26 hr => ?_)
      ·
       refine rn tk 8 rfl ?_
       cases hr
       exact ato rfl rfl rfl rfl
      ·
       refine rn tk 8 rfl ?_
       cases hr
       exact atc rfl rfl
    ·
     refine rn tk 2 rfl ?_
     cases hr
     exact ato rfl rfl rfl rfl
   ·
    refine rn tk 5 rfl ?_
    refine wn tk rfl rfl rfl ?_
    refine rn tk 5 rfl ?_
    cases hr
    exact kr tk (.inr rfl) rfl rfl
   ·
    refine rn tk 2 rfl ?_
    cases hr
    exact kr tk (.inr rfl) rfl rfl
end Go.Proofs.Ytkoijpogjobgjaa

namespace Go.Proofs.Ytkoijpogjobgjaa.listsDoNotLoop
open Go.ChangeShapes Go.WideShapes Go.ChangeAt Go.RowKit
set_option linter.unusedVariables false
set_option maxRecDepth 100000

theorem contract (H : Type) (enc : TypeId × Value → H) (W : World) (base : Nat) (args : Array Value) (ds gs : List (DataW H)) (before : List MemPlace)
    (hval : ∀ (j : Nat) t v, Try.f6.params[j]? = some t → args[j]? = some v → Value.okWide Try.prog W .any base t v)
    (hW : DataW.Whole enc Try.prog Try.f6.params.toList Rows.listsDoNotLoopSpec.vars false W args.toList ds gs before) (hk : Rows.uptoSmall H (ds ++ gs) = true) (hgl : Gl (gAll W)) :
    Calls Try.prog 6 args W fun e W' => ∃ v, e = .returned v ∧ Rows.listsDoNotLoopSpec.post enc Try.prog Try.f6 false true false false W args v W' := by
  have hW' := hW
  obtain ⟨p, q, hA0, hV, rfl, hfz, hnd⟩ := hW
  have hA : DataW.TrodAll enc Try.prog W 0 (fun _ => true) true Try.f6.params.toList args.toList ds p := hA0
  rw [Try.params6] at hA hval
  obtain ⟨v0, vs0, d0, ds0, p0, q0, hargs, rfl, rfl, h0, r0⟩ := trodAll_cons hA
  obtain ⟨v1, vs1, d1, ds1, p1, q1, rfl, rfl, rfl, h1, r1⟩ := trodAll_cons r0
  obtain ⟨rfl, rfl, rfl⟩ := trodAll_nil r1
  obtain rfl : args = #[v0, v1] := by cases args; simp_all
  obtain ⟨rfl, rfl⟩ := trodVars_none hV
  obtain ⟨a0, e0, o0, k0⟩ := arg_agg op_api_List (by obtain ⟨cs, h, _⟩ := okWide_struct ty_api_List.u (hval 0 _ v0 rfl rfl); exact ⟨cs, h⟩) h0
  obtain ⟨a1, e1, o1, k1⟩ := arg_agg op_api_Mail (by obtain ⟨cs, h, _⟩ := okWide_struct ty_api_Mail.u (hval 1 _ v1 rfl rfl); exact ⟨cs, h⟩) h1
  have hk2 := of_decide_eq_true hk
  simp only [List.append_nil, Rows.uptoBulkAll] at hk2
  have ht := L_ListsDoNotLoop_true a0 a1 o0 o1 (by (try dsimp only); omega)
  have key : Calls Try.prog 6 #[v0, v1] W fun e W' => e = .returned (.bool true) ∧ Below W.heap.size W W' := calls_of_run (L_ListsDoNotLoop_run a0 a1 true ht) hgl (relArgs_of (.cons e0 (.cons e1 .nil)))
  refine key.mono fun e W' ⟨he, hb⟩ => ⟨_, he, ?_⟩
  exact post_true laidOut (by kernel_rfl) Try.underlying4 (by kernel_rfl) rfl rfl hW' hb

theorem lifted (os : Os) (started : os.Started) (H : Type) (enc : TypeId × Value → H) (F : Stop.Interp) :
    ReturnsInHanded {} Try.checked os 6 .any ((Rows.OpenSpec.upto Rows.listsDoNotLoopSpec).pre6 enc Try.prog Try.f6 Rows.listsDoNotLoopUptoRow.domain false) (((Rows.OpenSpec.upto Rows.listsDoNotLoopSpec).at F).post enc Try.prog Try.f6 false true false false) := by
  refine returnsInHanded_of_cond_shaped (C := Try.checked) (s := Rows.OpenSpec.upto Rows.listsDoNotLoopSpec) (k := Rows.uptoSmall) rfl own started (by kernel_rfl) Try.func6
    (OpenSpec.witness (enc := enc) (C := Try.checked) (s := Rows.OpenSpec.upto Rows.listsDoNotLoopSpec) (k := Rows.uptoSmall) rfl false ⟨#[], #[.agg #[.string ⟨#[]⟩, .string ⟨#[]⟩, .bool false, .slice none 0 0, .slice none 0 0, .slice none 0 0, .int .i64 0], .agg #[.string ⟨#[]⟩, .slice none 0 0, .string ⟨#[]⟩, .slice none 0 0, .slice none 0 0]], []⟩ 8 (by kernel_rfl) (by kernel_rfl) (by kernel_rfl)
      (x := ([.agg [.lit (.string []), .lit (.string []), .lit (.bool false), .nil, .nil, .nil, .lit (.int .i64 0)], .agg [.agg [.lit (.string []), .nil, .lit (.string [])], .agg [.nil, .nil]]], [], [])) (by kernel_rfl) rfl (by kernel_rfl)) ?_
  intro W base args ds gs before hval hW _ hk hsh _
  exact contract H enc W base args ds gs before hval hW hk (gl_of_shaped hsh)

theorem over : Rows.listsDoNotLoopUptoRow.holds Try.pinned (Rows.OpenSpec.upto Rows.listsDoNotLoopSpec) :=
  OpenClaim.holds_of_cond 6 Try.f6 rfl rfl rfl rfl rfl rfl rfl ⟨rfl, rfl, rfl, rfl, rfl⟩ rfl rfl rfl rfl rfl (by kernel_rfl) Try.func6 (by kernel_rfl)
    (of_decide_eq_true (by kernel_rfl)) (by unfold Func.isWrapper; first | (rw [if_pos (by decide +kernel)]; kernel_rfl) | (rw [if_neg (by decide +kernel)]; exact ⟨rfl, rfl⟩))
    (fun os started H enc _ F => lifted os started H enc F)

theorem proved : Rows.ListsDoNotLoopUptoSaid := over
#print axioms proved
end Go.Proofs.Ytkoijpogjobgjaa.listsDoNotLoop
