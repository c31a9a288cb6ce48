/- Part 3 of the proof of the law ListsMembersMatchSpec: what it needs. -/
import Derived.Test.YtkoijpogjobgjaaGreatKListsMembersMatchSpec2
set_option linter.unusedVariables false
set_option linter.unusedSimpArgs false
namespace Go.Proofs.YtkoijpogjobgjaaGreat
open Go.RowKit
set_option maxRecDepth 100000
set_option maxHeartbeats 40000000
set_option linter.unusedVariables false
theorem lists_find_run (a0 : TList) (a1 : Str) (a2 : Int) (r : Int × TFault) (hr : lists_find a0 a1 a2 = some r) : Run Tryz.prog 44 [.agg [.s a0.Address, .s a0.Owner, .bo a0.Open, .l cS a0.Subscribers, .l cS a0.Moderators, .l THeld.pc a0.Held, .i a0.Next], .s a1, .i a2] (.tup [.i r.1, .agg [.i r.2.Code, .i r.2.Index]]) := by
 unfold lists_find at hr
 refine rf (fn := Tryz.f44) ⟨Tryz.func44, rfl, by kernel_rfl⟩ rfl (fun _ => rfl) fun g0 hg => ?_
 refine rn tk 12 rfl ?_
 obtain ⟨v1, h2, hr⟩ := bind_some hr
 refine cl (lists_Validate_run _ _ h2) rfl rfl ?_
 refine rn tk 7 rfl ?_
 obtain ⟨v3, h4, hr⟩ := bind_some hr
 refine cl (basic_Failed_run _ _ h4) rfl rfl ?_
 refine rn tk 2 rfl ?_
 refine ac 13 hr rfl (fun c5 hr => ?_) (fun c5 hr => ?_)
 ·
  refine rn tk 1 rfl ?_
  refine dr 2 [(6, .i 0), (14, .agg [.i v1.Code, .i v1.Index])] mixed (by kernel_rfl) rfl rfl (pq tk rfl (.plain rfl) (pq tk rfl (.plain rfl) .nil)) rfl ?_
  refine rn tk 5 rfl ?_
  cases hr
  exact kr tk (.inr rfl) rfl rfl
 ·
  refine rn tk 8 rfl ?_
  obtain ⟨v6, h7, hr⟩ := bind_some hr
  refine cl (slices_Contains_string_string_run _ _ _ h7) rfl rfl ?_
  refine rn tk 3 rfl ?_
  refine ac 19 hr rfl (fun c8 hr => ?_) (fun c8 hr => ?_)
  ·
   refine rn tk 2 rfl ?_
   obtain ⟨v9, h10, hr⟩ := bind_some hr
   refine cl (basic_Fault_run _ _ _ h10) rfl rfl ?_
   refine rn tk 6 rfl ?_
   cases hr
   exact kr tk (.inr rfl) rfl rfl
  ·
   refine rn tk 7 rfl ?_
   refine ct hr (fun j11 => [(7, .ptr 7 0), (24, .i j11)]) (fun j11 => [(7, .cells [.i 0, .i 0])]) (fun j11 hr jump1 => ?_) (fun j11 hr => ?_)
   ·
    refine il (fn := Tryz.f71) (args := [.l THeld.pc a0.Held, .fn (.func 72) [] [.ptr 5 0]]) 100000 199999 [(7, .ptr 7 0)] rfl ⟨Tryz.func71, rfl, by kernel_rfl⟩ rfl rfl rfl fun T1 ds1 => ?_
    refine rn tk 9 rfl ?_
    refine wn tk rfl rfl rfl ?_
    refine rn tk 4 rfl ?_
    refine al2 hr (fun s12 => [(0, .l THeld.pc a0.Held), (1, .fn (.func 72) [] [.ptr 5 0]), (7, .i ((a0.Held.length : Int))), (8, .i s12)]) (fun s12 => [(199999, .sus g0.w.heap.size ds1), (100007, .hold (.ptr 7 0) (T1.getD 7 undef)), (7, .cells [.i 0, .i 0]), (5, .cells [.i a2])]) (.exit 0) (fun b13 => []) (fun b13 => [(199999, .sus g0.w.heap.size ds1), (100007, .hold (.ptr 7 0) (T1.getD 7 undef)), (7, .cells [.i 0, .i 0])]) .ret (fun b14 => [(4, .i b14)]) (fun b14 => [(199999, .sus g0.w.heap.size ds1), (100007, .hold (.ptr 7 0) (T1.getD 7 undef)), (7, .cells [.i 0, .i 0])]) rfl rfl (fun s12 x16 hr => ?_) (fun b13 hr => ?_) (fun b14 hr => ?_)
    ·
     unfold lists_find_l1 at hr
     refine rn tk 6 rfl ?_
     refine ac 9 hr rfl (fun c17 hr => ?_) (fun c17 hr => ?_)
     ·
      refine rn tk 15 rfl ?_
      obtain ⟨v18, h19, hr⟩ := bind_some hr
      refine wi tk h19 rfl rfl rfl rfl rfl ?_
      refine rn tk 1 rfl ?_
      refine il (fn := Tryz.f72) (args := [.agg [.i v18.Number, .s v18.Mail.Envelope.From, .l TRecipient.pc v18.Mail.Envelope.To, .s v18.Mail.Envelope.Id, .l TField.pc v18.Mail.Message.Fields, .l cU v18.Mail.Message.Body], .ptr 5 0]) 300000 399999 [(0, .l THeld.pc a0.Held), (1, .fn (.func 72) [] [.ptr 5 0]), (5, .i s12), (7, .i ((a0.Held.length : Int))), (8, .i s12)] rfl ⟨Tryz.func72, rfl, by kernel_rfl⟩ rfl rfl rfl fun T3 ds3 => ?_
      refine rn tk 16 rfl ?_
      refine ie tk [.bo ((v18.Number == a2))] [(0, .l THeld.pc a0.Held), (1, .fn (.func 72) [] [.ptr 5 0]), (5, .i s12), (7, .i ((a0.Held.length : Int))), (8, .i s12)] [(2, .cells [.i v18.Number, .s v18.Mail.Envelope.From, .l TRecipient.pc v18.Mail.Envelope.To, .s v18.Mail.Envelope.Id, .l TField.pc v18.Mail.Message.Fields, .l cU v18.Mail.Message.Body]), (199999, .sus g0.w.heap.size ds1), (100007, .hold (.ptr 7 0) (T1.getD 7 undef)), (7, .cells [.i 0, .i 0]), (5, .cells [.i a2])] (.inr rfl) rfl rfl rfl rfl (hO ?_)
      refine rn tk 2 rfl ?_
      refine ac 16 hr rfl (fun c20 hr => ?_) (fun c20 hr => ?_)
      ·
       refine rn tk 9 rfl ?_
       cases hr
       exact ato rfl rfl rfl rfl
      ·
       refine rn tk 7 rfl ?_
       cases hr
       exact atc rfl rfl
     ·
      refine rn tk 2 rfl ?_
      cases hr
      exact ato rfl rfl rfl rfl
    ·
     refine rn tk 8 rfl ?_
     refine ie tk [.i ((-1))] [(7, .ptr 7 0)] [(7, .cells [.i 0, .i 0])] (.inr rfl) rfl rfl rfl rfl ?_
     cases hr
     exact jump1 _ _ rfl rfl
    ·
     refine rn tk 2 rfl ?_
     refine ie tk [.i b14] [(7, .ptr 7 0)] [(7, .cells [.i 0, .i 0])] (.inr rfl) rfl rfl rfl rfl ?_
     cases hr
     exact jump1 _ _ rfl rfl
   ·
    refine rn tk 10 rfl ?_
    refine ac 26 hr rfl (fun c21 hr => ?_) (fun c21 hr => ?_)
    ·
     refine rn tk 2 rfl ?_
     obtain ⟨v22, h23, hr⟩ := bind_some hr
     refine cl (basic_Fault_run _ _ _ h23) rfl rfl ?_
     refine rn tk 6 rfl ?_
     cases hr
     exact kr tk (.inr rfl) rfl rfl
    ·
     refine rn tk 5 rfl ?_
     obtain ⟨v24, h25, hr⟩ := bind_some hr
     refine cl (basic_None_run _ h25) rfl rfl ?_
     refine rn tk 5 rfl ?_
     cases hr
     exact kr tk (.inr rfl) rfl rfl
theorem slices_Clone_api_Field_api_Field_run (a0 : List TField) (r : List TField) (hr : slices_Clone_api_Field_api_Field a0 = some r) : Run Tryz.prog 62 [.l TField.pc a0] (.l TField.pc r) := by
 unfold slices_Clone_api_Field_api_Field at hr
 refine rf (fn := Tryz.f62) ⟨Tryz.func62, rfl, by kernel_rfl⟩ rfl (fun _ => rfl) fun g0 hg => ?_
 refine rn tk 9 rfl ?_
 refine awpl_isnil (d := 3) (F := TField.pc) (l := a0) rfl rfl rfl ty_s_api_Field (fun c1 => hO ?_) (hO ?_)
 ·
  replace hr := nilE_nil c1 hr
  refine rn tk 10 rfl ?_
  cases hr
  exact kr tk (.inr rfl) rfl rfl
 ·
  replace hr := nilE_not hr
  refine rn tk 7 rfl ?_
  refine wo (opTo_litz (k := 5) rfl ty_s_api_Field ty_api_Field) rfl ?_
  refine rn tk 1 rfl ?_
  obtain ⟨v2, h3, hr⟩ := bind_some hr
  refine wo (opTo_appendz (k := 7) (F := TField.pc) (xs := a0) (lim := 4398046511104) 1002 rfl rfl rfl ty_s_api_Field ty_api_Field rfl rfl (fun _ => rfl) rfl rfl rfl h3) rfl ?_
  refine rn tk 3 rfl ?_
  refine awp_unmu 1002 rfl (hC ?_)
  refine awp_pub (d := 2) (F := TField.pc) (l := v2) rfl rfl (hC ?_)
  refine rn tk 1 rfl ?_
  cases hr
  exact kr tk (.inr rfl) rfl rfl
theorem queue_CopyMail_run (a0 : TMail) (r : TMail) (hr : queue_CopyMail a0 = some r) : Run Tryz.prog 29 [.agg [.s a0.Envelope.From, .l TRecipient.pc a0.Envelope.To, .s a0.Envelope.Id, .l TField.pc a0.Message.Fields, .l cU a0.Message.Body]] (.agg [.s r.Envelope.From, .l TRecipient.pc r.Envelope.To, .s r.Envelope.Id, .l TField.pc r.Message.Fields, .l cU r.Message.Body]) := by
 unfold queue_CopyMail at hr
 refine rf (fn := Tryz.f29) ⟨Tryz.func29, rfl, by kernel_rfl⟩ rfl (fun _ => rfl) fun g0 hg => ?_
 refine rn tk 11 rfl ?_
 refine ct hr (fun j1 => [(1, .ptr 1 0), (2, .ptr 2 0), (6, .l TRecipient.pc j1)]) (fun j1 => [(2, .cells [.s (([] : Str)), .l TRecipient.pc ([]), .s (([] : Str)), .l TField.pc ([]), .l cU ([])]), (1, .cells [.s a0.Envelope.From, .l TRecipient.pc a0.Envelope.To, .s a0.Envelope.Id, .l TField.pc a0.Message.Fields, .l cU a0.Message.Body])]) (fun j1 hr jump1 => ?_) (fun j1 hr => ?_)
 ·
  refine il (fn := Tryz.f61) (args := [.l TRecipient.pc a0.Envelope.To]) 100000 199999 [(1, .ptr 1 0), (2, .ptr 2 0)] rfl ⟨Tryz.func61, rfl, by kernel_rfl⟩ rfl rfl rfl fun T1 ds1 => ?_
  refine rn tk 9 rfl ?_
  refine awpl_isnil (d := 3) (F := TRecipient.pc) (l := a0.Envelope.To) rfl rfl rfl ty_s_api_Recipient (fun c2 => hO ?_) (hO ?_)
  ·
   replace hr := nilE_nil c2 hr
   refine rn tk 10 rfl ?_
   refine ie tk [.pv (.sl (some true) [])] [(1, .ptr 1 0), (2, .ptr 2 0)] [(2, .cells [.s (([] : Str)), .pv (.sl (some true) []), .s (([] : Str)), .pv (.sl (some true) []), .pv (.sl (some true) [])]), (1, .cells [.s a0.Envelope.From, .l TRecipient.pc a0.Envelope.To, .s a0.Envelope.Id, .l TField.pc a0.Message.Fields, .l cU a0.Message.Body])] (.inr rfl) rfl rfl rfl rfl ?_
   cases hr
   exact jump1 _ _ rfl rfl
  ·
   replace hr := nilE_not hr
   refine rn tk 7 rfl ?_
   refine wo (opTo_litz (k := 5) rfl ty_s_api_Recipient ty_api_Recipient) rfl ?_
   refine rn tk 1 rfl ?_
   obtain ⟨v3, h4, hr⟩ := bind_some hr
   refine wo (opTo_appendz (k := 7) (F := TRecipient.pc) (xs := a0.Envelope.To) (lim := 5864062014805) 1002 rfl rfl rfl ty_s_api_Recipient ty_api_Recipient rfl rfl (fun _ => rfl) rfl rfl rfl h4) rfl ?_
   refine rn tk 3 rfl ?_
   refine awp_unmu 1002 rfl (hC ?_)
   refine awp_pub (d := 2) (F := TRecipient.pc) (l := v3) rfl rfl (hC ?_)
   refine rn tk 1 rfl ?_
   refine ie tk [.l TRecipient.pc v3] [(1, .ptr 1 0), (2, .ptr 2 0)] [(1002, .row 70 false 2 (List.map TRecipient.pc v3)), (2, .cells [.s (([] : Str)), .pv (.sl (some true) []), .s (([] : Str)), .pv (.sl (some true) []), .pv (.sl (some true) [])]), (1, .cells [.s a0.Envelope.From, .l TRecipient.pc a0.Envelope.To, .s a0.Envelope.Id, .l TField.pc a0.Message.Fields, .l cU a0.Message.Body])] (.inr rfl) rfl rfl rfl rfl ?_
   cases hr
   exact jump1 _ _ rfl rfl
 ·
  refine rn tk 6 rfl ?_
  obtain ⟨v5, h6, hr⟩ := bind_some hr
  refine dr 7 [(15, .l cU a0.Message.Body), (14, .ptr 1 4), (13, .ptr 1 3), (12, .l TField.pc v5), (11, .l TField.pc a0.Message.Fields), (10, .ptr 1 3), (9, .ptr 1 3)] mixed (by kernel_rfl) rfl rfl (pq tk rfl (.plain rfl) (pq tk rfl (.plain rfl) (pq tk rfl (.plain rfl) (.run (.plain rfl) (opG_call (slices_Clone_api_Field_api_Field_run a0.Message.Fields v5 h6) rfl) (pq tk rfl (.plain rfl) (pq tk rfl (.plain rfl) (pq tk rfl (.plain rfl) .nil))))))) rfl ?_
  refine ct hr (fun j7 => [(1, .ptr 1 0), (2, .ptr 2 0), (12, .l TField.pc v5), (16, .l cU j7)]) (fun j7 => [(2, .cells [.s (([] : Str)), .l TRecipient.pc ([]), .s (([] : Str)), .l TField.pc ([]), .l cU ([])]), (1, .cells [.s a0.Envelope.From, .l TRecipient.pc j1, .s a0.Envelope.Id, .l TField.pc a0.Message.Fields, .l cU a0.Message.Body])]) (fun j7 hr jump2 => ?_) (fun j7 hr => ?_)
  ·
   refine il (fn := Tryz.f63) (args := [.l cU a0.Message.Body]) 200000 299999 [(1, .ptr 1 0), (2, .ptr 2 0), (12, .l TField.pc v5)] rfl ⟨Tryz.func63, rfl, by kernel_rfl⟩ rfl rfl rfl fun T2 ds2 => ?_
   refine rn tk 9 rfl ?_
   refine awpl_isnil (d := 3) (F := cU) (l := a0.Message.Body) rfl rfl rfl ty_s_uint8 (fun c8 => hO ?_) (hO ?_)
   ·
    replace hr := nilE_nil c8 hr
    refine rn tk 10 rfl ?_
    refine ie tk [.pv (.sl (some true) [])] [(1, .ptr 1 0), (2, .ptr 2 0), (12, .l TField.pc v5)] [(2, .cells [.s (([] : Str)), .l TRecipient.pc ([]), .s (([] : Str)), .l TField.pc ([]), .l cU ([])]), (1, .cells [.s a0.Envelope.From, .l TRecipient.pc j1, .s a0.Envelope.Id, .l TField.pc a0.Message.Fields, .l cU a0.Message.Body])] (.inr rfl) rfl rfl rfl rfl ?_
    cases hr
    exact jump2 _ _ rfl rfl
   ·
    replace hr := nilE_not hr
    refine rn tk 7 rfl ?_
    refine wo (opTo_litz (k := 5) rfl ty_s_uint8 ty_uint8) rfl ?_
    refine rn tk 1 rfl ?_
    obtain ⟨v9, h10, hr⟩ := bind_some hr
    refine wo (opTo_appendz (k := 7) (F := cU) (xs := a0.Message.Body) (lim := 140737488355328) 1002 rfl rfl rfl ty_s_uint8 ty_uint8 rfl rfl (fun _ => rfl) rfl rfl rfl h10) rfl ?_
    refine rn tk 3 rfl ?_
    refine awp_unmu 1002 rfl (hC ?_)
    refine awp_pub (d := 2) (F := cU) (l := v9) rfl rfl (hC ?_)
    refine rn tk 1 rfl ?_
    refine ie tk [.l cU v9] [(1, .ptr 1 0), (2, .ptr 2 0), (12, .l TField.pc v5)] [(1002, .row 5 false 1 (List.map cU v9)), (2, .cells [.s (([] : Str)), .l TRecipient.pc ([]), .s (([] : Str)), .l TField.pc ([]), .l cU ([])]), (1, .cells [.s a0.Envelope.From, .l TRecipient.pc j1, .s a0.Envelope.Id, .l TField.pc a0.Message.Fields, .l cU a0.Message.Body])] (.inr rfl) rfl rfl rfl rfl ?_
    cases hr
    exact jump2 _ _ rfl rfl
  ·
   refine rn tk 12 rfl ?_
   cases hr
   exact kr tk (.inr rfl) rfl rfl
theorem slices_Clone_api_Held_api_Held_runO (a0 : List THeld) (r : List THeld) (hr : slices_Clone_api_Held_api_Held a0 = some r) : RunO Tryz.prog 57 [.l THeld.pc a0] 65 6 (List.map THeld.pc r) := by
 unfold slices_Clone_api_Held_api_Held at hr
 refine rfO (fn := Tryz.f57) ⟨Tryz.func57, rfl, by kernel_rfl⟩ rfl fun g0 hg => ?_
 refine rn tk 3 rfl ?_
 refine awpl_adoptM 1002 (d := 2) 65 6 rfl rfl rfl (hO ?_)
 refine rn tk 6 rfl ?_
 refine awpl_isnil (d := 3) (F := THeld.pc) (l := a0) rfl rfl rfl ty_s_api_Held (fun c1 => hO ?_) (hO ?_)
 ·
  replace hr := nilE_nil c1 hr
  refine rn tk 6 rfl ?_
  refine awpl_adoptM 2002 (d := 2) 65 6 rfl rfl rfl (hO ?_)
  refine rn tk 4 rfl ?_
  cases hr
  exact krO tk (.inr rfl) rfl rfl
 ·
  replace hr := nilE_not hr
  refine rn tk 7 rfl ?_
  refine wo (opTo_litz (k := 5) rfl ty_s_api_Held ty_api_Held) rfl ?_
  refine rn tk 1 rfl ?_
  obtain ⟨v2, h3, hr⟩ := bind_some hr
  refine wo (opTo_appendz (k := 7) (F := THeld.pc) (xs := a0) (lim := 1256584717458) 2002 rfl rfl rfl ty_s_api_Held ty_api_Held rfl rfl (fun _ => rfl) rfl rfl rfl h3) rfl ?_
  refine rn tk 4 rfl ?_
  cases hr
  exact krO tk (.inr rfl) rfl rfl
theorem slices_Clone_string_string_runO (a0 : List Str) (r : List Str) (hr : slices_Clone_string_string a0 = some r) : RunO Tryz.prog 56 [.l cS a0] 9 1 (List.map cS r) := by
 unfold slices_Clone_string_string at hr
 refine rfO (fn := Tryz.f56) ⟨Tryz.func56, rfl, by kernel_rfl⟩ rfl fun g0 hg => ?_
 refine rn tk 3 rfl ?_
 refine awpl_adoptM 1002 (d := 2) 9 1 rfl rfl rfl (hO ?_)
 refine rn tk 6 rfl ?_
 refine awpl_isnil (d := 3) (F := cS) (l := a0) rfl rfl rfl ty_s_string (fun c1 => hO ?_) (hO ?_)
 ·
  replace hr := nilE_nil c1 hr
  refine rn tk 6 rfl ?_
  refine awpl_adoptM 2002 (d := 2) 9 1 rfl rfl rfl (hO ?_)
  refine rn tk 4 rfl ?_
  cases hr
  exact krO tk (.inr rfl) rfl rfl
 ·
  replace hr := nilE_not hr
  refine rn tk 7 rfl ?_
  refine wo (opTo_litz (k := 5) rfl ty_s_string ty_string) rfl ?_
  refine rn tk 1 rfl ?_
  obtain ⟨v2, h3, hr⟩ := bind_some hr
  refine wo (opTo_appendz (k := 7) (F := cS) (xs := a0) (lim := 8796093022208) 2002 rfl rfl rfl ty_s_string ty_string rfl rfl (fun _ => rfl) rfl rfl rfl h3) rfl ?_
  refine rn tk 4 rfl ?_
  cases hr
  exact krO tk (.inr rfl) rfl rfl
theorem slices_Clone_string_string_run (a0 : List Str) (r : List Str) (hr : slices_Clone_string_string a0 = some r) : Run Tryz.prog 56 [.l cS a0] (.l cS r) := by
 unfold slices_Clone_string_string at hr
 refine rf (fn := Tryz.f56) ⟨Tryz.func56, rfl, by kernel_rfl⟩ rfl (fun _ => rfl) fun g0 hg => ?_
 refine rn tk 9 rfl ?_
 refine awpl_isnil (d := 3) (F := cS) (l := a0) rfl rfl rfl ty_s_string (fun c1 => hO ?_) (hO ?_)
 ·
  replace hr := nilE_nil c1 hr
  refine rn tk 10 rfl ?_
  cases hr
  exact kr tk (.inr rfl) rfl rfl
 ·
  replace hr := nilE_not hr
  refine rn tk 7 rfl ?_
  refine wo (opTo_litz (k := 5) rfl ty_s_string ty_string) rfl ?_
  refine rn tk 1 rfl ?_
  obtain ⟨v2, h3, hr⟩ := bind_some hr
  refine wo (opTo_appendz (k := 7) (F := cS) (xs := a0) (lim := 8796093022208) 1002 rfl rfl rfl ty_s_string ty_string rfl rfl (fun _ => rfl) rfl rfl rfl h3) rfl ?_
  refine rn tk 3 rfl ?_
  refine awp_unmu 1002 rfl (hC ?_)
  refine awp_pub (d := 2) (F := cS) (l := v2) rfl rfl (hC ?_)
  refine rn tk 1 rfl ?_
  cases hr
  exact kr tk (.inr rfl) rfl rfl
theorem lists_Approve_run (a0 : TList) (a1 : Str) (a2 : Int) (r : TList × (List TMail) × TFault) (hr : lists_Approve a0 a1 a2 = some r) : Run Tryz.prog 13 [.agg [.s a0.Address, .s a0.Owner, .bo a0.Open, .l cS a0.Subscribers, .l cS a0.Moderators, .l THeld.pc a0.Held, .i a0.Next], .s a1, .i a2] (.tup [.agg [.s r.1.Address, .s r.1.Owner, .bo r.1.Open, .l cS r.1.Subscribers, .l cS r.1.Moderators, .l THeld.pc r.1.Held, .i r.1.Next], .l TMail.pc r.2.1, .agg [.i r.2.2.Code, .i r.2.2.Index]]) := by
 unfold lists_Approve at hr
 refine rf (fn := Tryz.f13) ⟨Tryz.func13, rfl, by kernel_rfl⟩ rfl (fun _ => rfl) fun g0 hg => ?_
 refine rn tk 13 rfl ?_
 obtain ⟨v1, h2, hr⟩ := bind_some hr
 refine cl (lists_find_run _ _ _ _ h2) rfl rfl ?_
 refine rn tk 12 rfl ?_
 obtain ⟨v3, h4, hr⟩ := bind_some hr
 refine cl (basic_Failed_run _ _ h4) rfl rfl ?_
 refine rn tk 2 rfl ?_
 refine ac 20 hr rfl (fun c5 hr => ?_) (fun c5 hr => ?_)
 ·
  refine rn tk 1 rfl ?_
  refine drX 2 4 4 4 [1] [(22, .agg [.i v1.2.Code, .i v1.2.Index]), (21, .agg [.s (([] : Str)), .s (([] : Str)), .bo false, .pv (.sl (some true) []), .pv (.sl (some true) []), .pv (.sl (some true) []), .i 0])] [(6, .ptr 6 0), (7, .pv (.sl (some true) [])), (8, .ptr 8 0), (22, .agg [.i v1.2.Code, .i v1.2.Index])] [(10, .cells [.i v1.2.Code, .i v1.2.Index]), (8, .cells [.i 0, .i 0]), (6, .cells [.s (([] : Str)), .s (([] : Str)), .bo false, .pv (.sl (some true) []), .pv (.sl (some true) []), .pv (.sl (some true) []), .i 0]), (3, .cells [.s a0.Address, .s a0.Owner, .bo a0.Open, .l cS a0.Subscribers, .l cS a0.Moderators, .l THeld.pc a0.Held, .i a0.Next])] tk mixed (by kernel_rfl) rfl rfl rfl (pqX tk rfl (.plain rfl) (pqX tk rfl (.plain rfl) .nil)) rfl rfl rfl rfl (by kernel_rfl) ?_
  refine rn tk 5 rfl ?_
  cases hr
  exact kr tk (.inr rfl) rfl rfl
 ·
  refine rn tk 3 rfl ?_
  obtain ⟨v6, h7, hr⟩ := bind_some hr
  obtain ⟨v8, h9, hr⟩ := bind_some hr
  refine dr 12 [(11, .l TMail.pc v8.1), (33, .agg [.i v8.2.Code, .i v8.2.Index]), (32, .l TMail.pc v8.1), (23, .tup [.l TMail.pc v8.1, .agg [.i v8.2.Code, .i v8.2.Index]]), (31, .tup [.l TMail.pc v8.1, .agg [.i v8.2.Code, .i v8.2.Index]]), (30, .agg [.s v6.Mail.Envelope.From, .l TRecipient.pc v6.Mail.Envelope.To, .s v6.Mail.Envelope.Id, .l TField.pc v6.Mail.Message.Fields, .l cU v6.Mail.Message.Body]), (29, .ep [pS v6.Mail.Envelope.From, pL TRecipient.pc v6.Mail.Envelope.To, pS v6.Mail.Envelope.Id, pL TField.pc v6.Mail.Message.Fields, pL cU v6.Mail.Message.Body]), (28, .ep [pI v6.Number, pS v6.Mail.Envelope.From, pL TRecipient.pc v6.Mail.Envelope.To, pS v6.Mail.Envelope.Id, pL TField.pc v6.Mail.Message.Fields, pL cU v6.Mail.Message.Body]), (27, .i v1.1), (26, .l THeld.pc a0.Held), (25, .ptr 3 5), (24, .agg [.s a0.Address, .s a0.Owner, .bo a0.Open, .l cS a0.Subscribers, .l cS a0.Moderators, .l THeld.pc a0.Held, .i a0.Next])] mixed (by kernel_rfl) rfl rfl (pq tk rfl (.plain rfl) (pq tk rfl (.plain rfl) (pq tk rfl (.plain rfl) (pq tk rfl (.plain rfl) (.run (.plain rfl) (opG_q (ev_idx (f := THeld.pc) rfl rfl ty_s_api_Held ty_api_Held rfl h7)) (pq tk rfl (.plain rfl) (pq tk rfl (.plain rfl) (.run (.plain rfl) (opG_call (lists_distribute_run a0 v6.Mail v8 h9) rfl) (pq tk rfl (.plain rfl) (pq tk rfl (.plain rfl) (pq tk rfl (.plain rfl) (pq tk rfl (.plain rfl) .nil)))))))))))) rfl ?_
  refine rn tk 7 rfl ?_
  obtain ⟨v10, h11, hr⟩ := bind_some hr
  refine cl (basic_Failed_run _ _ h11) rfl rfl ?_
  refine rn tk 2 rfl ?_
  refine ac 35 hr rfl (fun c12 hr => ?_) (fun c12 hr => ?_)
  ·
   refine rn tk 1 rfl ?_
   refine drX 2 4 4 4 [1] [(37, .agg [.i v8.2.Code, .i v8.2.Index]), (36, .agg [.s (([] : Str)), .s (([] : Str)), .bo false, .pv (.sl (some true) []), .pv (.sl (some true) []), .pv (.sl (some true) []), .i 0])] [(6, .ptr 6 0), (7, .pv (.sl (some true) [])), (8, .ptr 8 0), (37, .agg [.i v8.2.Code, .i v8.2.Index])] [(10, .cells [.i v8.2.Code, .i v8.2.Index]), (8, .cells [.i 0, .i 0]), (6, .cells [.s (([] : Str)), .s (([] : Str)), .bo false, .pv (.sl (some true) []), .pv (.sl (some true) []), .pv (.sl (some true) []), .i 0]), (3, .cells [.s a0.Address, .s a0.Owner, .bo a0.Open, .l cS a0.Subscribers, .l cS a0.Moderators, .l THeld.pc a0.Held, .i a0.Next])] tk mixed (by kernel_rfl) rfl rfl rfl (pqX tk rfl (.plain rfl) (pqX tk rfl (.plain rfl) .nil)) rfl rfl rfl rfl (by kernel_rfl) ?_
   refine rn tk 5 rfl ?_
   cases hr
   exact kr tk (.inr rfl) rfl rfl
  ·
   refine rn tk 5 rfl ?_
   refine il (fn := Tryz.f26) (args := [.agg [.s a0.Address, .s a0.Owner, .bo a0.Open, .l cS a0.Subscribers, .l cS a0.Moderators, .l THeld.pc a0.Held, .i a0.Next]]) 100000 199999 [(3, .ptr 3 0), (6, .ptr 6 0), (8, .ptr 8 0), (9, .i v1.1), (10, .ptr 10 0), (11, .l TMail.pc v8.1)] rfl ⟨Tryz.func26, rfl, by kernel_rfl⟩ rfl rfl rfl fun T1 ds1 => ?_
   refine rn tk 4 rfl ?_
   refine awpl_adoptCM 1002 (o := 2) (j := 5) 65 6 rfl rfl rfl rfl (hO ?_)
   refine rn tk 3 rfl ?_
   obtain ⟨v13, h14, hr⟩ := bind_some hr
   obtain ⟨v15, h16, hr⟩ := bind_some hr
   obtain ⟨v17, h18, hr⟩ := bind_some hr
   refine drX 10 10 1 1 [] [(13, .ptr 1 3), (12, .hs 1012 0), (11, .l THeld.pc a0.Held), (10, .ptr 1 5), (9, .l cS v15), (8, .l cS a0.Moderators), (7, .ptr 1 4), (6, .l cS v13), (5, .l cS a0.Subscribers), (4, .ptr 1 3)] [(1, .ptr 1 0), (2, .ptr 2 0), (6, .l cS v13), (9, .l cS v15), (12, .hs 1012 0), (13, .ptr 1 3)] [(1012, .row 65 true 6 (List.map THeld.pc v17)), (1002, .row 65 true 6 (List.map THeld.pc (([] : List THeld)))), (2, .cells [.s (([] : Str)), .s (([] : Str)), .bo false, .pv (.sl (some true) []), .pv (.sl (some true) []), .hs 1002 0, .i 0]), (1, .cells [.s a0.Address, .s a0.Owner, .bo a0.Open, .l cS a0.Subscribers, .l cS a0.Moderators, .l THeld.pc a0.Held, .i a0.Next]), (199999, .sus g0.w.heap.size ds1), (100003, .hold (.ptr 3 0) (T1.getD 3 undef)), (100006, .hold (.ptr 6 0) (T1.getD 6 undef)), (100008, .hold (.ptr 8 0) (T1.getD 8 undef)), (100010, .hold (.ptr 10 0) (T1.getD 10 undef)), (100009, .hold (.i v1.1) (T1.getD 9 undef)), (100011, .hold (.l TMail.pc v8.1) (T1.getD 11 undef)), (10, .cells [.i v8.2.Code, .i v8.2.Index]), (8, .cells [.i 0, .i 0]), (6, .cells [.s (([] : Str)), .s (([] : Str)), .bo false, .pv (.sl (some true) []), .pv (.sl (some true) []), .pv (.sl (some true) []), .i 0]), (3, .cells [.s a0.Address, .s a0.Owner, .bo a0.Open, .l cS a0.Subscribers, .l cS a0.Moderators, .l THeld.pc a0.Held, .i a0.Next])] tk mixed (by kernel_rfl) rfl rfl rfl (pqX tk rfl (.plain rfl) (pqX tk rfl (.plain rfl) (.run (.plain rfl) (opG_call (slices_Clone_string_string_run a0.Subscribers v13 h14) rfl) (pqX tk rfl (.plain rfl) (pqX tk rfl (.plain rfl) (.run (.plain rfl) (opG_call (slices_Clone_string_string_run a0.Moderators v15 h16) rfl) (pqX tk rfl (.plain rfl) (pqX tk rfl (.plain rfl) (.new 1012 (.plain rfl) (opNewX_callO 1012 (slices_Clone_api_Held_api_Held_runO a0.Held v17 h18) rfl) (pqX tk rfl (.plain rfl) .nil)))))))))) rfl rfl rfl rfl (by kernel_rfl) ?_
   refine rn tk 12 rfl ?_
   refine wnh tk rfl rfl rfl rfl ?_
   refine rn tk 4 rfl ?_
   refine al1 hr (fun s19 => [(1, .ptr 1 0), (2, .ptr 2 0), (18, .i ((v17.length : Int))), (19, .i s19.1)]) (fun s19 => [(1012, .row 65 true 6 (List.map THeld.pc s19.2)), (1002, .row 65 true 6 (List.map THeld.pc (([] : List THeld)))), (2, .cells [.s (([] : Str)), .s (([] : Str)), .bo false, .l cS ([]), .l cS ([]), .hs 1002 0, .i 0]), (1, .cells [.s a0.Address, .s a0.Owner, .bo a0.Open, .l cS v13, .l cS v15, .hs 1012 0, .i a0.Next]), (199999, .sus g0.w.heap.size ds1), (100003, .hold (.ptr 3 0) (T1.getD 3 undef)), (100006, .hold (.ptr 6 0) (T1.getD 6 undef)), (100008, .hold (.ptr 8 0) (T1.getD 8 undef)), (100010, .hold (.ptr 10 0) (T1.getD 10 undef)), (100009, .hold (.i v1.1) (T1.getD 9 undef)), (100011, .hold (.l TMail.pc v8.1) (T1.getD 11 undef)), (10, .cells [.i v8.2.Code, .i v8.2.Index]), (8, .cells [.i 0, .i 0]), (6, .cells [.s (([] : Str)), .s (([] : Str)), .bo false, .l cS ([]), .l cS ([]), .l THeld.pc ([]), .i 0]), (3, .cells [.s a0.Address, .s a0.Owner, .bo a0.Open, .l cS a0.Subscribers, .l cS a0.Moderators, .l THeld.pc a0.Held, .i a0.Next])]) (.exit 0) (fun b20 => [(1, .ptr 1 0), (2, .ptr 2 0)]) (fun b20 => [(1012, .row 65 true 6 (List.map THeld.pc b20)), (1002, .row 65 true 6 (List.map THeld.pc (([] : List THeld)))), (2, .cells [.s (([] : Str)), .s (([] : Str)), .bo false, .l cS ([]), .l cS ([]), .hs 1002 0, .i 0]), (1, .cells [.s a0.Address, .s a0.Owner, .bo a0.Open, .l cS v13, .l cS v15, .hs 1012 0, .i a0.Next]), (199999, .sus g0.w.heap.size ds1), (100003, .hold (.ptr 3 0) (T1.getD 3 undef)), (100006, .hold (.ptr 6 0) (T1.getD 6 undef)), (100008, .hold (.ptr 8 0) (T1.getD 8 undef)), (100010, .hold (.ptr 10 0) (T1.getD 10 undef)), (100009, .hold (.i v1.1) (T1.getD 9 undef)), (100011, .hold (.l TMail.pc v8.1) (T1.getD 11 undef)), (10, .cells [.i v8.2.Code, .i v8.2.Index]), (8, .cells [.i 0, .i 0]), (6, .cells [.s (([] : Str)), .s (([] : Str)), .bo false, .l cS ([]), .l cS ([]), .l THeld.pc ([]), .i 0]), (3, .cells [.s a0.Address, .s a0.Owner, .bo a0.Open, .l cS a0.Subscribers, .l cS a0.Moderators, .l THeld.pc a0.Held, .i a0.Next])]) rfl rfl (fun s19 x21 hr => ?_) (fun b20 hr => ?_)
   ·
    unfold lists_Approve_l1 at hr
    refine rn tk 6 rfl ?_
    refine ac 20 hr rfl (fun c22 hr => ?_) (fun c22 hr => ?_)
    ·
     refine rn tk 10 rfl ?_
     obtain ⟨v23, h24, hr⟩ := bind_some hr
     obtain ⟨v25, h26, hr⟩ := bind_some hr
     obtain ⟨v27, h28, hr⟩ := bind_some hr
     refine dr 10 [(31, .agg [.s v27.Envelope.From, .l TRecipient.pc v27.Envelope.To, .s v27.Envelope.Id, .l TField.pc v27.Message.Fields, .l cU v27.Message.Body]), (30, .agg [.s v25.Mail.Envelope.From, .l TRecipient.pc v25.Mail.Envelope.To, .s v25.Mail.Envelope.Id, .l TField.pc v25.Mail.Message.Fields, .l cU v25.Mail.Message.Body]), (29, .hp 1012 (Int.toNat s19.1) 1), (28, .hp 1012 (Int.toNat s19.1) 0), (27, .i s19.1), (26, .hs 1012 0), (25, .ptr 1 5), (24, .i s19.1), (23, .hs 1012 0), (22, .ptr 1 5)] mixed (by kernel_rfl) rfl rfl (pq tk rfl (.plain rfl) (pq tk rfl (.plain rfl) (pq tk rfl (.plain rfl) (pq tk rfl (.plain rfl) (pq tk rfl (.plain rfl) (pq tk rfl (.plain rfl) (.run (.plain rfl) (opG_q (ev_hidx (F := THeld.pc) (l := s19.2) (n := s19.1) rfl rfl rfl ty_s_api_Held ty_api_Held h24)) (pq tk rfl (.plain rfl) (.run (.plain rfl) (opG_q (ev_hloadN (F := THeld.pc) (l := s19.2) (n := s19.1) (j := 1) rfl rfl ty_api_Mail rfl h26 rfl)) (.run (.plain rfl) (opG_call (queue_CopyMail_run v25.Mail v27 h28) rfl) .nil)))))))))) rfl ?_
     obtain ⟨v29, h30, hr⟩ := bind_some hr
     refine wih tk h30 rfl rfl rfl rfl rfl ?_
     refine rn tk 1 rfl ?_
     obtain ⟨v31, h32, hr⟩ := bind_some hr
     refine wo (opTo_hstore (F := THeld.pc) (l := s19.2) (n := s19.1) (j := 1) (v := v31) (v' := ((THeld.mk v31.Number v27))) (pcs := [pS v27.Envelope.From, pL TRecipient.pc v27.Envelope.To, pS v27.Envelope.Id, pL TField.pc v27.Message.Fields, pL cU v27.Message.Body]) rfl rfl rfl ty_api_Mail rfl h32 rfl rfl) rfl ?_
     refine rn tk 7 rfl ?_
     cases hr
     exact atc rfl rfl
    ·
     refine rn tk 2 rfl ?_
     cases hr
     exact ato rfl rfl rfl rfl
   ·
    refine rn tk 9 rfl ?_
    refine ie tk [.agg [.s a0.Address, .s a0.Owner, .bo a0.Open, .l cS v13, .l cS v15, .hs 1012 0, .i a0.Next]] [(3, .ptr 3 0), (6, .ptr 6 0), (8, .ptr 8 0), (9, .i v1.1), (10, .ptr 10 0), (11, .l TMail.pc v8.1)] [(1012, .row 65 true 6 (List.map THeld.pc b20)), (1002, .row 65 true 6 (List.map THeld.pc (([] : List THeld)))), (2, .cells [.s a0.Address, .s a0.Owner, .bo a0.Open, .l cS v13, .l cS v15, .hs 1012 0, .i a0.Next]), (1, .cells [.s a0.Address, .s a0.Owner, .bo a0.Open, .l cS v13, .l cS v15, .hs 1012 0, .i a0.Next]), (10, .cells [.i v8.2.Code, .i v8.2.Index]), (8, .cells [.i 0, .i 0]), (6, .cells [.s (([] : Str)), .s (([] : Str)), .bo false, .l cS ([]), .l cS ([]), .l THeld.pc ([]), .i 0]), (3, .cells [.s a0.Address, .s a0.Owner, .bo a0.Open, .l cS a0.Subscribers, .l cS a0.Moderators, .l THeld.pc a0.Held, .i a0.Next])] (.inr rfl) rfl rfl rfl rfl (hO ?_)
    refine rn tk 10 rfl ?_
    refine ct hr (fun j33 => [(3, .ptr 3 0), (6, .ptr 6 0), (8, .ptr 8 0), (10, .ptr 10 0), (11, .l TMail.pc v8.1), (45, .hs 1012 0)]) (fun j33 => [(1012, .row 65 true 6 (List.map THeld.pc j33)), (10, .cells [.i v8.2.Code, .i v8.2.Index]), (8, .cells [.i 0, .i 0]), (6, .cells [.s (([] : Str)), .s (([] : Str)), .bo false, .l cS ([]), .l cS ([]), .l THeld.pc ([]), .i 0]), (3, .cells [.s a0.Address, .s a0.Owner, .bo a0.Open, .l cS v13, .l cS v15, .any, .i a0.Next])]) (fun j33 hr jump2 => ?_) (fun j33 hr => ?_)
    ·
     refine il (fn := Tryz.f45) (args := [.hs 1012 0, .i v1.1, .i ((w64 (v1.1 + 1)))]) 200000 299999 [(3, .ptr 3 0), (6, .ptr 6 0), (8, .ptr 8 0), (10, .ptr 10 0), (11, .l TMail.pc v8.1)] rfl ⟨Tryz.func45, rfl, by kernel_rfl⟩ rfl rfl rfl fun T2 ds2 => ?_
     refine rn tk 3 rfl ?_
     refine awpl_adoptM 1006 (d := 6) 65 6 rfl rfl rfl (hO ?_)
     refine rn tk 8 rfl ?_
     refine wnh tk rfl rfl rfl rfl ?_
     obtain ⟨v34, h35, hr⟩ := bind_some hr
     refine wq (ev_hcut3 (F := THeld.pc) (l := b20) rfl rfl rfl rfl rfl ty_s_api_Held ty_api_Held h35) rfl rfl rfl ?_
     refine rn tk 10 rfl ?_
     refine ac 16 hr rfl (fun c36 hr => ?_) (fun c36 hr => ?_)
     ·
      refine rn tk 6 rfl ?_
      refine awp_hsclr (d' := 6) (F := THeld.pc) (l := b20) rfl rfl (hC ?_)
      refine rn tk 2 rfl ?_
      refine ie tk [.hs 1012 0] [(3, .ptr 3 0), (6, .ptr 6 0), (8, .ptr 8 0), (10, .ptr 10 0), (11, .l TMail.pc v8.1)] [(1006, .row 65 true 6 (List.map THeld.pc (([] : List THeld)))), (1012, .row 65 true 6 (List.map THeld.pc b20)), (1002, .row 65 true 6 (List.map THeld.pc (([] : List THeld)))), (2, .cells [.s a0.Address, .s a0.Owner, .bo a0.Open, .l cS v13, .l cS v15, .any, .i a0.Next]), (1, .cells [.s a0.Address, .s a0.Owner, .bo a0.Open, .l cS v13, .l cS v15, .any, .i a0.Next]), (10, .cells [.i v8.2.Code, .i v8.2.Index]), (8, .cells [.i 0, .i 0]), (6, .cells [.s (([] : Str)), .s (([] : Str)), .bo false, .l cS ([]), .l cS ([]), .l THeld.pc ([]), .i 0]), (3, .cells [.s a0.Address, .s a0.Owner, .bo a0.Open, .l cS v13, .l cS v15, .any, .i a0.Next])] (.inr rfl) rfl rfl rfl rfl ?_
      cases hr
      exact jump2 _ _ rfl rfl
     ·
      refine rn tk 5 rfl ?_
      refine wnh tk rfl rfl rfl rfl ?_
      refine rn tk 4 rfl ?_
      obtain ⟨v37, h38, hr⟩ := bind_some hr
      obtain ⟨v39, h40, hr⟩ := bind_some hr
      refine dr 6 [(25, .hsub 1012 (Int.toNat ((w64 (v1.1 + 1))))), (24, .i ((w64 (v1.1 + 1)))), (23, .hs 1012 0), (22, .hpre 1012 (Int.toNat v1.1)), (21, .i v1.1), (20, .hs 1012 0)] mixed (by kernel_rfl) rfl rfl (pq tk rfl (.plain rfl) (pq tk rfl (.plain rfl) (.run (.plain rfl) (opG_q (ev_hpre (F := THeld.pc) (l := b20) (q := v1.1) rfl rfl rfl ty_s_api_Held ty_api_Held h38)) (pq tk rfl (.plain rfl) (pq tk rfl (.plain rfl) (.run (.plain rfl) (opG_q (ev_hsub (F := THeld.pc) (l := b20) (p := ((w64 (v1.1 + 1)))) rfl rfl rfl ty_s_api_Held ty_api_Held h40)) .nil)))))) rfl ?_
      obtain ⟨v41, h42, hr⟩ := bind_some hr
      refine wo (opTo_shift (k := 26) (F := THeld.pc) (l := b20) (p := v1.1) (q := ((w64 (v1.1 + 1)))) rfl rfl rfl rfl ty_s_api_Held ty_api_Held rfl h42) rfl ?_
      refine rn tk 7 rfl ?_
      refine wq (ev_hprelen (e := 65) (n := ((Int.toNat v1.1) + (b20.length - (Int.toNat ((w64 (v1.1 + 1))))))) rfl ty_s_api_Held.u) rfl rfl rfl ?_
      refine rn tk 1 rfl ?_
      obtain ⟨v43, h44, hr⟩ := bind_some hr
      refine wq (ev_hprest (F := THeld.pc) (l := v41) (a := (((((Int.toNat v1.1) + (b20.length - (Int.toNat ((w64 (v1.1 + 1)))))) : Nat) : Int))) rfl rfl rfl rfl ty_s_api_Held ty_api_Held h44) rfl rfl rfl ?_
      refine wo (opTo_clear (F := THeld.pc) (l := v41) (z := ((THeld.mk 0 ((TMail.mk ((TEnvelope.mk (([] : Str)) ([]) (([] : Str)))) ((TMessage.mk ([]) ([])))))))) rfl rfl ty_s_api_Held ty_api_Held rfl rfl) rfl ?_
      refine rn tk 8 rfl ?_
      refine awp_hprecut (d' := 6) (F := THeld.pc) (l := ((clr0 v41 (Int.toNat (((((Int.toNat v1.1) + (b20.length - (Int.toNat ((w64 (v1.1 + 1)))))) : Nat) : Int))) ((THeld.mk 0 ((TMail.mk ((TEnvelope.mk (([] : Str)) ([]) (([] : Str)))) ((TMessage.mk ([]) ([])))))))))) rfl rfl (hC ?_)
      refine rn tk 1 rfl ?_
      refine ie tk [.hs 1012 0] [(3, .ptr 3 0), (6, .ptr 6 0), (8, .ptr 8 0), (10, .ptr 10 0), (11, .l TMail.pc v8.1)] [(1006, .row 65 true 6 (List.map THeld.pc (([] : List THeld)))), (1012, .row 65 true 6 (List.map THeld.pc ((List.take ((Int.toNat v1.1) + (b20.length - (Int.toNat ((w64 (v1.1 + 1)))))) ((clr0 v41 (Int.toNat (((((Int.toNat v1.1) + (b20.length - (Int.toNat ((w64 (v1.1 + 1)))))) : Nat) : Int))) ((THeld.mk 0 ((TMail.mk ((TEnvelope.mk (([] : Str)) ([]) (([] : Str)))) ((TMessage.mk ([]) ([]))))))))))))), (1002, .row 65 true 6 (List.map THeld.pc (([] : List THeld)))), (2, .cells [.s a0.Address, .s a0.Owner, .bo a0.Open, .l cS v13, .l cS v15, .any, .i a0.Next]), (1, .cells [.s a0.Address, .s a0.Owner, .bo a0.Open, .l cS v13, .l cS v15, .any, .i a0.Next]), (10, .cells [.i v8.2.Code, .i v8.2.Index]), (8, .cells [.i 0, .i 0]), (6, .cells [.s (([] : Str)), .s (([] : Str)), .bo false, .l cS ([]), .l cS ([]), .l THeld.pc ([]), .i 0]), (3, .cells [.s a0.Address, .s a0.Owner, .bo a0.Open, .l cS v13, .l cS v15, .any, .i a0.Next])] (.inr rfl) rfl rfl rfl rfl ?_
      cases hr
      exact jump2 _ _ rfl rfl
    ·
     refine rn tk 5 rfl ?_
     refine drX 3 5 5 14 [1, 2] [(49, .agg [.i v8.2.Code, .i v8.2.Index]), (48, .l TMail.pc v8.1), (47, .agg [.s a0.Address, .s a0.Owner, .bo a0.Open, .l cS v13, .l cS v15, .hs 1012 0, .i a0.Next])] [(6, .ptr 6 0), (7, .l TMail.pc v8.1), (8, .ptr 8 0), (49, .agg [.i v8.2.Code, .i v8.2.Index])] [(1012, .row 65 true 6 (List.map THeld.pc j33)), (10, .cells [.i v8.2.Code, .i v8.2.Index]), (8, .cells [.i 0, .i 0]), (6, .cells [.s a0.Address, .s a0.Owner, .bo a0.Open, .l cS v13, .l cS v15, .hs 1012 0, .i a0.Next]), (3, .cells [.s a0.Address, .s a0.Owner, .bo a0.Open, .l cS v13, .l cS v15, .hs 1012 0, .i a0.Next])] tk mixed (by kernel_rfl) rfl rfl rfl (pqX tk rfl (.plain rfl) (pqX tk rfl (.plain rfl) (pqX tk rfl (.plain rfl) .nil))) rfl rfl rfl rfl (by kernel_rfl) ?_
     refine rn tk 3 rfl ?_
     refine awp_unmu 1012 rfl (hC ?_)
     refine awp_pubC (o := 6) (j := 5) (F := THeld.pc) (l := j33) rfl rfl rfl (hC ?_)
     refine rn tk 1 rfl ?_
     cases hr
     exact kr tk (.inr rfl) rfl rfl
theorem basic_Lower_run (a0 : Str) (r : Str) (hr : basic_Lower a0 = some r) : Run Tryz.prog 79 [.s a0] (.s r) := by
 unfold basic_Lower at hr
 refine rf (fn := Tryz.f79) ⟨Tryz.func79, rfl, by kernel_rfl⟩ rfl (fun _ => rfl) fun g0 hg => ?_
 refine rn tk 8 rfl ?_
 refine wo (opTo_s2buf (k := 7) (s := a0) 1007 rfl rfl rfl rfl ty_string ty_s_uint8 ty_uint8) rfl ?_
 refine rn tk 7 rfl ?_
 refine wq (ev_buflen (l := a0) rfl rfl ty_s_uint8.u) rfl rfl rfl ?_
 refine rn tk 4 rfl ?_
 refine al1 hr (fun s1 => [(3, .hs 1007 0), (8, .hs 1007 0), (9, .i ((a0.length : Int))), (10, .i s1.1)]) (fun s1 => [(1007, .buf s1.2)]) (.exit 0) (fun b2 => [(3, .hs 1007 0)]) (fun b2 => [(1007, .buf b2)]) rfl rfl (fun s1 x3 hr => ?_) (fun b2 hr => ?_)
 ·
  unfold basic_Lower_l1 at hr
  refine rn tk 6 rfl ?_
  refine ac 11 hr rfl (fun c4 hr => ?_) (fun c4 hr => ?_)
  ·
   refine rn tk 2 rfl ?_
   refine jb hr (fun j5 => [(3, .hs 1007 0), (8, .hs 1007 0), (9, .i ((a0.length : Int))), (10, .i s1.1)]) (fun j5 => [(1007, .buf j5)]) (fun j5 hr => ?_) (fun j5 hr => ?_)
   ·
    refine rn tk 4 rfl ?_
    obtain ⟨v6, h7, hr⟩ := bind_some hr
    refine wq (ev_bufidx (l := s1.2) (n := s1.1) rfl rfl rfl ty_s_uint8 ty_uint8 h7) rfl rfl rfl ?_
    obtain ⟨v8, h9, hr⟩ := bind_some hr
    refine wq (ev_bufload (l := s1.2) (n := s1.1) rfl rfl ty_uint8 h9) rfl rfl rfl ?_
    refine rn tk 4 rfl ?_
    refine jb hr (fun j10 => [(3, .hs 1007 0), (4, .i s1.1), (5, .u8 v8), (8, .hs 1007 0), (9, .i ((a0.length : Int))), (10, .i s1.1), (20, .bo j10)]) (fun j10 => [(1007, .buf s1.2)]) (fun j10 hr => ?_) (fun j10 hr => ?_)
    ·
     refine rn tk 4 rfl ?_
     refine bs 17 hr rfl (fun c11 hr => ?_) (fun c11 hr => ?_)
     ·
      refine rn tk 4 rfl ?_
      cases hr
      exact jn _ rfl rfl rfl
     ·
      refine rn tk 4 rfl ?_
      cases hr
      exact jn _ rfl rfl rfl
    ·
     refine ac 20 hr rfl (fun c12 hr => ?_) (fun c12 hr => ?_)
     ·
      refine rn tk 4 rfl ?_
      refine wq (ev_u8add (a := v8) (b := (97 : UInt8)) rfl rfl) rfl rfl rfl ?_
      refine wq (ev_u8sub (a := ((v8 + (97 : UInt8)))) (b := (65 : UInt8)) rfl rfl) rfl rfl rfl ?_
      obtain ⟨v13, h14, hr⟩ := bind_some hr
      refine wq (ev_bufidx (l := s1.2) (n := s1.1) rfl rfl rfl ty_s_uint8 ty_uint8 h14) rfl rfl rfl ?_
      obtain ⟨v15, h16, hr⟩ := bind_some hr
      refine wo (opTo_bufstore (l := s1.2) (n := s1.1) (v := v15) (v' := (((v8 + (97 : UInt8)) - (65 : UInt8)))) rfl rfl rfl ty_uint8 h16) rfl ?_
      refine rn tk 2 rfl ?_
      cases hr
      exact jn _ rfl rfl rfl
     ·
      refine rn tk 2 rfl ?_
      cases hr
      exact jn _ rfl rfl rfl
   ·
    refine rn tk 4 rfl ?_
    cases hr
    exact atc rfl rfl
  ·
   refine rn tk 2 rfl ?_
   cases hr
   exact ato rfl rfl rfl rfl
 ·
  refine rn tk 5 rfl ?_
  refine wq (ev_buf2s (l := b2) rfl rfl ty_s_uint8 ty_uint8 ty_string) rfl rfl rfl ?_
  refine rn tk 4 rfl ?_
  cases hr
  exact kr tk (.inr rfl) rfl rfl
theorem basic_Same_run (a0 : Str) (a1 : Str) (r : Bool) (hr : basic_Same a0 a1 = some r) : Run Tryz.prog 55 [.s a0, .s a1] (.bo r) := by
 unfold basic_Same at hr
 refine rf (fn := Tryz.f55) ⟨Tryz.func55, rfl, by kernel_rfl⟩ rfl (fun _ => rfl) fun g0 hg => ?_
 refine rn tk 5 rfl ?_
 refine jb hr (fun j1 => [(4, .bo j1)]) (fun j1 => []) (fun j1 hr => ?_) (fun j1 hr => ?_)
 ·
  refine rn tk 7 rfl ?_
  refine bs 10 hr rfl (fun c2 hr => ?_) (fun c2 hr => ?_)
  ·
   refine rn tk 1 rfl ?_
   obtain ⟨v3, h4, hr⟩ := bind_some hr
   refine ug rfl rfl rfl ?_
   refine cl (basic_Lower_run _ _ h4) rfl rfl ?_
   refine rn tk 1 rfl ?_
   obtain ⟨v5, h6, hr⟩ := bind_some hr
   refine ug rfl rfl rfl ?_
   refine cl (basic_Lower_run _ _ h6) rfl rfl ?_
   refine rn tk 4 rfl ?_
   cases hr
   exact jn _ rfl rfl rfl
  ·
   refine rn tk 8 rfl ?_
   cases hr
   exact jn _ rfl rfl rfl
 ·
  refine rn tk 1 rfl ?_
  cases hr
  exact kr tk (.inr rfl) rfl rfl
theorem header_name_run (a0 : Str) (r : Bool) (hr : header_name a0 = some r) : Run Tryz.prog 78 [.s a0] (.bo r) := by
 unfold header_name at hr
 refine rf (fn := Tryz.f78) ⟨Tryz.func78, rfl, by kernel_rfl⟩ rfl (fun _ => rfl) fun g0 hg => ?_
 refine rn tk 8 rfl ?_
 obtain ⟨v1, h2, hr⟩ := bind_some hr
 refine cl (fold_Fold_run _ _ _ h2) rfl rfl ?_
 refine rn tk 11 rfl ?_
 obtain ⟨v3, h4, hr⟩ := bind_some hr
 refine cl (basic_Failed_run _ _ h4) rfl rfl ?_
 refine rn tk 5 rfl ?_
 cases hr
 exact kr tk (.inr rfl) rfl rfl
theorem header_valid_run (a0 : List TField) (a1 : Str) (r : TFault) (hr : header_valid a0 a1 = some r) : Run Tryz.prog 54 [.l TField.pc a0, .s a1] (.agg [.i r.Code, .i r.Index]) := by
 unfold header_valid at hr
 refine rf (fn := Tryz.f54) ⟨Tryz.func54, rfl, by kernel_rfl⟩ rfl (fun _ => rfl) fun g0 hg => ?_
 refine rn tk 9 rfl ?_
 obtain ⟨v1, h2, hr⟩ := bind_some hr
 refine cl (header_Validate_run _ _ h2) rfl rfl ?_
 refine rn tk 7 rfl ?_
 obtain ⟨v3, h4, hr⟩ := bind_some hr
 refine cl (basic_Failed_run _ _ h4) rfl rfl ?_
 refine rn tk 2 rfl ?_
 refine ac 9 hr rfl (fun c5 hr => ?_) (fun c5 hr => ?_)
 ·
  refine rn tk 8 rfl ?_
  cases hr
  exact kr tk (.inr rfl) rfl rfl
 ·
  refine rn tk 6 rfl ?_
  obtain ⟨v6, h7, hr⟩ := bind_some hr
  refine cl (header_name_run _ _ h7) rfl rfl ?_
  refine rn tk 3 rfl ?_
  refine ac 13 hr rfl (fun c8 hr => ?_) (fun c8 hr => ?_)
  ·
   refine rn tk 2 rfl ?_
   obtain ⟨v9, h10, hr⟩ := bind_some hr
   refine cl (basic_Fault_run _ _ _ h10) rfl rfl ?_
   refine rn tk 5 rfl ?_
   cases hr
   exact kr tk (.inr rfl) rfl rfl
  ·
   refine rn tk 4 rfl ?_
   obtain ⟨v11, h12, hr⟩ := bind_some hr
   refine cl (basic_None_run _ h12) rfl rfl ?_
   refine rn tk 4 rfl ?_
   cases hr
   exact kr tk (.inr rfl) rfl rfl
theorem header_Get_run (a0 : List TField) (a1 : Str) (r : (List Str) × TFault) (hr : header_Get a0 a1 = some r) : Run Tryz.prog 24 [.l TField.pc a0, .s a1] (.tup [.l cS r.1, .agg [.i r.2.Code, .i r.2.Index]]) := by
 unfold header_Get at hr
 refine rf (fn := Tryz.f24) ⟨Tryz.func24, rfl, by kernel_rfl⟩ rfl (fun _ => rfl) fun g0 hg => ?_
 refine rn tk 11 rfl ?_
 obtain ⟨v1, h2, hr⟩ := bind_some hr
 refine cl (header_valid_run _ _ _ h2) rfl rfl ?_
 refine rn tk 7 rfl ?_
 obtain ⟨v3, h4, hr⟩ := bind_some hr
 refine cl (basic_Failed_run _ _ h4) rfl rfl ?_
 refine rn tk 2 rfl ?_
 refine ac 14 hr rfl (fun c5 hr => ?_) (fun c5 hr => ?_)
 ·
  refine rn tk 1 rfl ?_
  refine dr 2 [(4, .pv (.sl (some true) [])), (15, .agg [.i v1.Code, .i v1.Index])] mixed (by kernel_rfl) rfl rfl (pq tk rfl (.plain rfl) (pq tk rfl (.plain rfl) .nil)) rfl ?_
  refine rn tk 5 rfl ?_
  cases hr
  exact kr tk (.inr rfl) rfl rfl
 ·
  refine rn tk 5 rfl ?_
  refine awpl_adopt 1007 (d := 7) 9 1 rfl rfl rfl (hO ?_)
  refine rn tk 6 rfl ?_
  refine wn tk rfl rfl rfl ?_
  refine rn tk 4 rfl ?_
  refine al1 hr (fun s6 => [(1, .s a1), (5, .ptr 5 0), (7, .hs 1007 0), (16, .l TField.pc a0), (17, .i ((a0.length : Int))), (18, .i s6.1)]) (fun s6 => [(1007, .row 9 false 1 (List.map cS s6.2)), (5, .cells [.i 0, .i 0])]) (.exit 0) (fun b7 => [(5, .ptr 5 0), (7, .hs 1007 0)]) (fun b7 => [(1007, .row 9 false 1 (List.map cS b7)), (5, .cells [.i 0, .i 0])]) rfl rfl (fun s6 x8 hr => ?_) (fun b7 hr => ?_)
  ·
   unfold header_Get_l1 at hr
   refine rn tk 6 rfl ?_
   refine ac 19 hr rfl (fun c9 hr => ?_) (fun c9 hr => ?_)
   ·
    refine rn tk 2 rfl ?_
    refine jb hr (fun j10 => [(1, .s a1), (5, .ptr 5 0), (7, .hs 1007 0), (16, .l TField.pc a0), (17, .i ((a0.length : Int))), (18, .i s6.1)]) (fun j10 => [(1007, .row 9 false 1 (List.map cS j10)), (5, .cells [.i 0, .i 0])]) (fun j10 hr => ?_) (fun j10 hr => ?_)
    ·
     refine rn tk 3 rfl ?_
     obtain ⟨v11, h12, hr⟩ := bind_some hr
     refine wi tk h12 rfl rfl rfl rfl rfl ?_
     refine rn tk 10 rfl ?_
     obtain ⟨v13, h14, hr⟩ := bind_some hr
     refine cl (basic_Same_run _ _ _ h14) rfl rfl ?_
     refine rn tk 2 rfl ?_
     refine ac 25 hr rfl (fun c15 hr => ?_) (fun c15 hr => ?_)
     ·
      refine rn tk 4 rfl ?_
      refine wz cS ([v11.Value] : List Str) tk rfl rfl (fun _ => rfl) rfl rfl rfl ?_
      obtain ⟨v16, h17, hr⟩ := bind_some hr
      refine wa tk h17 rfl rfl rfl rfl (fun _ => rfl) rfl rfl ?_
      refine rn tk 3 rfl ?_
      cases hr
      exact jn _ rfl rfl rfl
     ·
      refine rn tk 2 rfl ?_
      cases hr
      exact jn _ rfl rfl rfl
    ·
     refine rn tk 4 rfl ?_
     cases hr
     exact atc rfl rfl
   ·
    refine rn tk 2 rfl ?_
    cases hr
    exact ato rfl rfl rfl rfl
  ·
   refine rn tk 5 rfl ?_
   obtain ⟨v18, h19, hr⟩ := bind_some hr
   refine cl (basic_None_run _ h19) rfl rfl ?_
   refine rn tk 4 rfl ?_
   refine awp_pub (d := 4) (F := cS) (l := b7) rfl rfl (hC ?_)
   refine rn tk 1 rfl ?_
   cases hr
   exact kr tk (.inr rfl) rfl rfl
theorem lists_Post_run (a0 : TList) (a1 : TMail) (r : TList × (List TMail) × TFault) (hr : lists_Post a0 a1 = some r) : Run Tryz.prog 6 [.agg [.s a0.Address, .s a0.Owner, .bo a0.Open, .l cS a0.Subscribers, .l cS a0.Moderators, .l THeld.pc a0.Held, .i a0.Next], .agg [.s a1.Envelope.From, .l TRecipient.pc a1.Envelope.To, .s a1.Envelope.Id, .l TField.pc a1.Message.Fields, .l cU a1.Message.Body]] (.tup [.agg [.s r.1.Address, .s r.1.Owner, .bo r.1.Open, .l cS r.1.Subscribers, .l cS r.1.Moderators, .l THeld.pc r.1.Held, .i r.1.Next], .l TMail.pc r.2.1, .agg [.i r.2.2.Code, .i r.2.2.Index]]) := by
 unfold lists_Post at hr
 refine rf (fn := Tryz.f6) ⟨Tryz.func6, rfl, by kernel_rfl⟩ rfl (fun _ => rfl) fun g0 hg => ?_
 refine rn tk 13 rfl ?_
 obtain ⟨v1, h2, hr⟩ := bind_some hr
 refine cl (lists_Validate_run _ _ h2) rfl rfl ?_
 refine rn tk 7 rfl ?_
 obtain ⟨v3, h4, hr⟩ := bind_some hr
 refine cl (basic_Failed_run _ _ h4) rfl rfl ?_
 refine rn tk 2 rfl ?_
 refine ac 20 hr rfl (fun c5 hr => ?_) (fun c5 hr => ?_)
 ·
  refine rn tk 1 rfl ?_
  refine drX 2 4 4 4 [1] [(22, .agg [.i v1.Code, .i v1.Index]), (21, .agg [.s (([] : Str)), .s (([] : Str)), .bo false, .pv (.sl (some true) []), .pv (.sl (some true) []), .pv (.sl (some true) []), .i 0])] [(4, .ptr 4 0), (5, .pv (.sl (some true) [])), (6, .ptr 6 0), (22, .agg [.i v1.Code, .i v1.Index])] [(7, .cells [.i v1.Code, .i v1.Index]), (6, .cells [.i 0, .i 0]), (4, .cells [.s (([] : Str)), .s (([] : Str)), .bo false, .pv (.sl (some true) []), .pv (.sl (some true) []), .pv (.sl (some true) []), .i 0]), (3, .cells [.s a1.Envelope.From, .l TRecipient.pc a1.Envelope.To, .s a1.Envelope.Id, .l TField.pc a1.Message.Fields, .l cU a1.Message.Body]), (2, .cells [.s a0.Address, .s a0.Owner, .bo a0.Open, .l cS a0.Subscribers, .l cS a0.Moderators, .l THeld.pc a0.Held, .i a0.Next])] tk mixed (by kernel_rfl) rfl rfl rfl (pqX tk rfl (.plain rfl) (pqX tk rfl (.plain rfl) .nil)) rfl rfl rfl rfl (by kernel_rfl) ?_
  refine rn tk 5 rfl ?_
  cases hr
  exact kr tk (.inr rfl) rfl rfl
 ·
  refine rn tk 6 rfl ?_
  obtain ⟨v6, h7, hr⟩ := bind_some hr
  refine cl (envelope_Check_run _ _ h7) rfl rfl ?_
  refine rn tk 7 rfl ?_
  obtain ⟨v8, h9, hr⟩ := bind_some hr
  refine cl (basic_Failed_run _ _ h9) rfl rfl ?_
  refine rn tk 2 rfl ?_
  refine ac 26 hr rfl (fun c10 hr => ?_) (fun c10 hr => ?_)
  ·
   refine rn tk 5 rfl ?_
   obtain ⟨v11, h12, hr⟩ := bind_some hr
   refine cl (basic_Fault_run _ _ _ h12) rfl rfl ?_
   refine rn tk 7 rfl ?_
   cases hr
   exact kr tk (.inr rfl) rfl rfl
  ·
   refine rn tk 15 rfl ?_
   obtain ⟨v13, h14, hr⟩ := bind_some hr
   refine cl (header_Get_run _ _ _ h14) rfl rfl ?_
   refine rn tk 8 rfl ?_
   refine jb hr (fun j15 => [(2, .ptr 2 0), (3, .ptr 3 0), (4, .ptr 4 0), (6, .ptr 6 0), (9, .s a1.Envelope.From), (10, .l cS v13.1), (12, .bo j15)]) (fun j15 => [(6, .cells [.i 0, .i 0]), (4, .cells [.s (([] : Str)), .s (([] : Str)), .bo false, .l cS ([]), .l cS ([]), .l THeld.pc ([]), .i 0]), (3, .cells [.s a1.Envelope.From, .l TRecipient.pc a1.Envelope.To, .s a1.Envelope.Id, .l TField.pc a1.Message.Fields, .l cU a1.Message.Body]), (2, .cells [.s a0.Address, .s a0.Owner, .bo a0.Open, .l cS a0.Subscribers, .l cS a0.Moderators, .l THeld.pc a0.Held, .i a0.Next])]) (fun j15 hr => ?_) (fun j15 hr => ?_)
   ·
    refine rn tk 4 rfl ?_
    refine bs 43 hr rfl (fun c16 hr => ?_) (fun c16 hr => ?_)
    ·
     refine rn tk 13 rfl ?_
     cases hr
     exact jn _ rfl rfl rfl
    ·
     refine rn tk 3 rfl ?_
     obtain ⟨v17, h18, hr⟩ := bind_some hr
     refine ug rfl rfl rfl ?_
     refine cl (slices_Contains_string_string_run _ _ _ h18) rfl rfl ?_
     refine rn tk 2 rfl ?_
     refine bs 49 hr rfl (fun c19 hr => ?_) (fun c19 hr => ?_)
     ·
      refine rn tk 7 rfl ?_
      cases hr
      exact jn _ rfl rfl rfl
     ·
      refine rn tk 3 rfl ?_
      obtain ⟨v20, h21, hr⟩ := bind_some hr
      refine ug rfl rfl rfl ?_
      refine cl (slices_Contains_string_string_run _ _ _ h21) rfl rfl ?_
      refine rn tk 3 rfl ?_
      cases hr
      exact jn _ rfl rfl rfl
   ·
    refine rn tk 9 rfl ?_
    refine ac 55 hr rfl (fun c22 hr => ?_) (fun c22 hr => ?_)
    ·
     refine rn tk 3 rfl ?_
     obtain ⟨v23, h24, hr⟩ := bind_some hr
     refine cl (basic_Fault_run _ _ _ h24) rfl rfl ?_
     refine rn tk 8 rfl ?_
     cases hr
     exact kr tk (.inr rfl) rfl rfl
    ·
     refine rn tk 5 rfl ?_
     obtain ⟨v25, h26, hr⟩ := bind_some hr
     refine cl (slices_Contains_string_string_run _ _ _ h26) rfl rfl ?_
     refine rn tk 3 rfl ?_
     refine ac 60 hr rfl (fun c27 hr => ?_) (fun c27 hr => ?_)
     ·
      refine rn tk 3 rfl ?_
      obtain ⟨v28, h29, hr⟩ := bind_some hr
      refine cl (basic_Fault_run _ _ _ h29) rfl rfl ?_
      refine rn tk 8 rfl ?_
      cases hr
      exact kr tk (.inr rfl) rfl rfl
     ·
      refine jb hr (fun j30 => [(2, .ptr 2 0), (3, .ptr 3 0), (4, .ptr 4 0), (6, .ptr 6 0), (12, .bo j15), (67, .bo j30)]) (fun j30 => [(6, .cells [.i 0, .i 0]), (4, .cells [.s (([] : Str)), .s (([] : Str)), .bo false, .l cS ([]), .l cS ([]), .l THeld.pc ([]), .i 0]), (3, .cells [.s a1.Envelope.From, .l TRecipient.pc a1.Envelope.To, .s a1.Envelope.Id, .l TField.pc a1.Message.Fields, .l cU a1.Message.Body]), (2, .cells [.s a0.Address, .s a0.Owner, .bo a0.Open, .l cS a0.Subscribers, .l cS a0.Moderators, .l THeld.pc a0.Held, .i a0.Next])]) (fun j30 hr => ?_) (fun j30 hr => ?_)
      ·
       refine rn tk 4 rfl ?_
       refine bs 70 hr rfl (fun c31 hr => ?_) (fun c31 hr => ?_)
       ·
        refine rn tk 2 rfl ?_
        refine ug rfl rfl rfl ?_
        refine wn tk rfl rfl rfl ?_
        refine rn tk 4 rfl ?_
        cases hr
        exact jn _ rfl rfl rfl
       ·
        refine rn tk 7 rfl ?_
        cases hr
        exact jn _ rfl rfl rfl
      ·
       refine ac 67 hr rfl (fun c32 hr => ?_) (fun c32 hr => ?_)
       ·
        refine rn tk 3 rfl ?_
        obtain ⟨v33, h34, hr⟩ := bind_some hr
        refine cl (basic_Fault_run _ _ _ h34) rfl rfl ?_
        refine rn tk 8 rfl ?_
        cases hr
        exact kr tk (.inr rfl) rfl rfl
       ·
        refine jb hr (fun j35 => [(2, .ptr 2 0), (3, .ptr 3 0), (4, .ptr 4 0), (6, .ptr 6 0), (12, .bo j15), (78, .bo j35)]) (fun j35 => [(6, .cells [.i 0, .i 0]), (4, .cells [.s (([] : Str)), .s (([] : Str)), .bo false, .l cS ([]), .l cS ([]), .l THeld.pc ([]), .i 0]), (3, .cells [.s a1.Envelope.From, .l TRecipient.pc a1.Envelope.To, .s a1.Envelope.Id, .l TField.pc a1.Message.Fields, .l cU a1.Message.Body]), (2, .cells [.s a0.Address, .s a0.Owner, .bo a0.Open, .l cS a0.Subscribers, .l cS a0.Moderators, .l THeld.pc a0.Held, .i a0.Next])]) (fun j35 hr => ?_) (fun j35 hr => ?_)
        ·
         refine rn tk 4 rfl ?_
         refine bs 81 hr rfl (fun c36 hr => ?_) (fun c36 hr => ?_)
         ·
          refine rn tk 2 rfl ?_
          refine ug rfl rfl rfl ?_
          refine wn tk rfl rfl rfl ?_
          refine rn tk 2 rfl ?_
          refine bs 86 hr rfl (fun c37 hr => ?_) (fun c37 hr => ?_)
          ·
           refine rn tk 7 rfl ?_
           cases hr
           exact jn _ rfl rfl rfl
          ·
           refine rn tk 7 rfl ?_
           cases hr
           exact jn _ rfl rfl rfl
         ·
          refine rn tk 12 rfl ?_
          cases hr
          exact jn _ rfl rfl rfl
        ·
         refine ac 78 hr rfl (fun c38 hr => ?_) (fun c38 hr => ?_)
         ·
          refine rn tk 3 rfl ?_
          obtain ⟨v39, h40, hr⟩ := bind_some hr
          refine cl (basic_Fault_run _ _ _ h40) rfl rfl ?_
          refine rn tk 8 rfl ?_
          cases hr
          exact kr tk (.inr rfl) rfl rfl
         ·
          refine rn tk 6 rfl ?_
          refine il (fn := Tryz.f26) (args := [.agg [.s a0.Address, .s a0.Owner, .bo a0.Open, .l cS a0.Subscribers, .l cS a0.Moderators, .l THeld.pc a0.Held, .i a0.Next]]) 100000 199999 [(2, .ptr 2 0), (3, .ptr 3 0), (4, .ptr 4 0), (6, .ptr 6 0), (12, .bo j15)] rfl ⟨Tryz.func26, rfl, by kernel_rfl⟩ rfl rfl rfl fun T1 ds1 => ?_
          refine rn tk 3 rfl ?_
          refine wo (opTo_alloc (k := 2) 1002 rfl ty_api_List (.inr ⟨rfl, rfl⟩) rfl rfl rfl) rfl ?_
          refine awpl_adoptCM 2002 (o := 1002) (j := 5) 65 6 rfl rfl rfl rfl (hO ?_)
          refine rn tk 3 rfl ?_
          obtain ⟨v41, h42, hr⟩ := bind_some hr
          obtain ⟨v43, h44, hr⟩ := bind_some hr
          obtain ⟨v45, h46, hr⟩ := bind_some hr
          refine drX 10 10 1 1 [] [(13, .ptr 1 3), (12, .hs 1012 0), (11, .l THeld.pc a0.Held), (10, .ptr 1 5), (9, .l cS v43), (8, .l cS a0.Moderators), (7, .ptr 1 4), (6, .l cS v41), (5, .l cS a0.Subscribers), (4, .ptr 1 3)] [(1, .ptr 1 0), (2, .ptr 1002 0), (6, .l cS v41), (9, .l cS v43), (12, .hs 1012 0), (13, .ptr 1 3)] [(1012, .row 65 true 6 (List.map THeld.pc v45)), (2002, .row 65 true 6 (List.map THeld.pc (([] : List THeld)))), (1002, .cells [.s (([] : Str)), .s (([] : Str)), .bo false, .pv (.sl (some true) []), .pv (.sl (some true) []), .hs 2002 0, .i 0]), (1, .cells [.s a0.Address, .s a0.Owner, .bo a0.Open, .l cS a0.Subscribers, .l cS a0.Moderators, .l THeld.pc a0.Held, .i a0.Next]), (199999, .sus g0.w.heap.size ds1), (100002, .hold (.ptr 2 0) (T1.getD 2 undef)), (100003, .hold (.ptr 3 0) (T1.getD 3 undef)), (100004, .hold (.ptr 4 0) (T1.getD 4 undef)), (100006, .hold (.ptr 6 0) (T1.getD 6 undef)), (100012, .hold (.bo j15) (T1.getD 12 undef)), (6, .cells [.i 0, .i 0]), (4, .cells [.s (([] : Str)), .s (([] : Str)), .bo false, .l cS ([]), .l cS ([]), .l THeld.pc ([]), .i 0]), (3, .cells [.s a1.Envelope.From, .l TRecipient.pc a1.Envelope.To, .s a1.Envelope.Id, .l TField.pc a1.Message.Fields, .l cU a1.Message.Body]), (2, .cells [.s a0.Address, .s a0.Owner, .bo a0.Open, .l cS a0.Subscribers, .l cS a0.Moderators, .l THeld.pc a0.Held, .i a0.Next])] tk mixed (by kernel_rfl) rfl rfl rfl (pqX tk rfl (.plain rfl) (pqX tk rfl (.plain rfl) (.run (.plain rfl) (opG_call (slices_Clone_string_string_run a0.Subscribers v41 h42) rfl) (pqX tk rfl (.plain rfl) (pqX tk rfl (.plain rfl) (.run (.plain rfl) (opG_call (slices_Clone_string_string_run a0.Moderators v43 h44) rfl) (pqX tk rfl (.plain rfl) (pqX tk rfl (.plain rfl) (.new 1012 (.plain rfl) (opNewX_callO 1012 (slices_Clone_api_Held_api_Held_runO a0.Held v45 h46) rfl) (pqX tk rfl (.plain rfl) .nil)))))))))) rfl rfl rfl rfl (by kernel_rfl) ?_
          refine rn tk 12 rfl ?_
          refine wnh tk rfl rfl rfl rfl ?_
          refine rn tk 4 rfl ?_
          refine al1 hr (fun s47 => [(1, .ptr 1 0), (2, .ptr 1002 0), (18, .i ((v45.length : Int))), (19, .i s47.1)]) (fun s47 => [(1012, .row 65 true 6 (List.map THeld.pc s47.2)), (2002, .row 65 true 6 (List.map THeld.pc (([] : List THeld)))), (1002, .cells [.s (([] : Str)), .s (([] : Str)), .bo false, .l cS ([]), .l cS ([]), .hs 2002 0, .i 0]), (1, .cells [.s a0.Address, .s a0.Owner, .bo a0.Open, .l cS v41, .l cS v43, .hs 1012 0, .i a0.Next]), (199999, .sus g0.w.heap.size ds1), (100002, .hold (.ptr 2 0) (T1.getD 2 undef)), (100003, .hold (.ptr 3 0) (T1.getD 3 undef)), (100004, .hold (.ptr 4 0) (T1.getD 4 undef)), (100006, .hold (.ptr 6 0) (T1.getD 6 undef)), (100012, .hold (.bo j15) (T1.getD 12 undef)), (6, .cells [.i 0, .i 0]), (4, .cells [.s (([] : Str)), .s (([] : Str)), .bo false, .l cS ([]), .l cS ([]), .l THeld.pc ([]), .i 0]), (3, .cells [.s a1.Envelope.From, .l TRecipient.pc a1.Envelope.To, .s a1.Envelope.Id, .l TField.pc a1.Message.Fields, .l cU a1.Message.Body]), (2, .cells [.s a0.Address, .s a0.Owner, .bo a0.Open, .l cS a0.Subscribers, .l cS a0.Moderators, .l THeld.pc a0.Held, .i a0.Next])]) (.exit 0) (fun b48 => [(1, .ptr 1 0), (2, .ptr 1002 0)]) (fun b48 => [(1012, .row 65 true 6 (List.map THeld.pc b48)), (2002, .row 65 true 6 (List.map THeld.pc (([] : List THeld)))), (1002, .cells [.s (([] : Str)), .s (([] : Str)), .bo false, .l cS ([]), .l cS ([]), .hs 2002 0, .i 0]), (1, .cells [.s a0.Address, .s a0.Owner, .bo a0.Open, .l cS v41, .l cS v43, .hs 1012 0, .i a0.Next]), (199999, .sus g0.w.heap.size ds1), (100002, .hold (.ptr 2 0) (T1.getD 2 undef)), (100003, .hold (.ptr 3 0) (T1.getD 3 undef)), (100004, .hold (.ptr 4 0) (T1.getD 4 undef)), (100006, .hold (.ptr 6 0) (T1.getD 6 undef)), (100012, .hold (.bo j15) (T1.getD 12 undef)), (6, .cells [.i 0, .i 0]), (4, .cells [.s (([] : Str)), .s (([] : Str)), .bo false, .l cS ([]), .l cS ([]), .l THeld.pc ([]), .i 0]), (3, .cells [.s a1.Envelope.From, .l TRecipient.pc a1.Envelope.To, .s a1.Envelope.Id, .l TField.pc a1.Message.Fields, .l cU a1.Message.Body]), (2, .cells [.s a0.Address, .s a0.Owner, .bo a0.Open, .l cS a0.Subscribers, .l cS a0.Moderators, .l THeld.pc a0.Held, .i a0.Next])]) rfl rfl (fun s47 x49 hr => ?_) (fun b48 hr => ?_)
          ·
           unfold lists_Post_l1 at hr
           refine rn tk 6 rfl ?_
           refine ac 20 hr rfl (fun c50 hr => ?_) (fun c50 hr => ?_)
           ·
            refine rn tk 10 rfl ?_
            obtain ⟨v51, h52, hr⟩ := bind_some hr
            obtain ⟨v53, h54, hr⟩ := bind_some hr
            obtain ⟨v55, h56, hr⟩ := bind_some hr
            refine dr 10 [(31, .agg [.s v55.Envelope.From, .l TRecipient.pc v55.Envelope.To, .s v55.Envelope.Id, .l TField.pc v55.Message.Fields, .l cU v55.Message.Body]), (30, .agg [.s v53.Mail.Envelope.From, .l TRecipient.pc v53.Mail.Envelope.To, .s v53.Mail.Envelope.Id, .l TField.pc v53.Mail.Message.Fields, .l cU v53.Mail.Message.Body]), (29, .hp 1012 (Int.toNat s47.1) 1), (28, .hp 1012 (Int.toNat s47.1) 0), (27, .i s47.1), (26, .hs 1012 0), (25, .ptr 1 5), (24, .i s47.1), (23, .hs 1012 0), (22, .ptr 1 5)] mixed (by kernel_rfl) rfl rfl (pq tk rfl (.plain rfl) (pq tk rfl (.plain rfl) (pq tk rfl (.plain rfl) (pq tk rfl (.plain rfl) (pq tk rfl (.plain rfl) (pq tk rfl (.plain rfl) (.run (.plain rfl) (opG_q (ev_hidx (F := THeld.pc) (l := s47.2) (n := s47.1) rfl rfl rfl ty_s_api_Held ty_api_Held h52)) (pq tk rfl (.plain rfl) (.run (.plain rfl) (opG_q (ev_hloadN (F := THeld.pc) (l := s47.2) (n := s47.1) (j := 1) rfl rfl ty_api_Mail rfl h54 rfl)) (.run (.plain rfl) (opG_call (queue_CopyMail_run v53.Mail v55 h56) rfl) .nil)))))))))) rfl ?_
            obtain ⟨v57, h58, hr⟩ := bind_some hr
            refine wih tk h58 rfl rfl rfl rfl rfl ?_
            refine rn tk 1 rfl ?_
            obtain ⟨v59, h60, hr⟩ := bind_some hr
            refine wo (opTo_hstore (F := THeld.pc) (l := s47.2) (n := s47.1) (j := 1) (v := v59) (v' := ((THeld.mk v59.Number v55))) (pcs := [pS v55.Envelope.From, pL TRecipient.pc v55.Envelope.To, pS v55.Envelope.Id, pL TField.pc v55.Message.Fields, pL cU v55.Message.Body]) rfl rfl rfl ty_api_Mail rfl h60 rfl rfl) rfl ?_
            refine rn tk 7 rfl ?_
            cases hr
            exact atc rfl rfl
           ·
            refine rn tk 2 rfl ?_
            cases hr
            exact ato rfl rfl rfl rfl
          ·
           refine rn tk 9 rfl ?_
           refine ie tk [.agg [.s a0.Address, .s a0.Owner, .bo a0.Open, .l cS v41, .l cS v43, .hs 1012 0, .i a0.Next]] [(2, .ptr 2 0), (3, .ptr 3 0), (4, .ptr 4 0), (6, .ptr 6 0), (12, .bo j15)] [(1012, .row 65 true 6 (List.map THeld.pc b48)), (2002, .row 65 true 6 (List.map THeld.pc (([] : List THeld)))), (1002, .cells [.s a0.Address, .s a0.Owner, .bo a0.Open, .l cS v41, .l cS v43, .hs 1012 0, .i a0.Next]), (1, .cells [.s a0.Address, .s a0.Owner, .bo a0.Open, .l cS v41, .l cS v43, .hs 1012 0, .i a0.Next]), (6, .cells [.i 0, .i 0]), (4, .cells [.s (([] : Str)), .s (([] : Str)), .bo false, .l cS ([]), .l cS ([]), .l THeld.pc ([]), .i 0]), (3, .cells [.s a1.Envelope.From, .l TRecipient.pc a1.Envelope.To, .s a1.Envelope.Id, .l TField.pc a1.Message.Fields, .l cU a1.Message.Body]), (2, .cells [.s a0.Address, .s a0.Owner, .bo a0.Open, .l cS a0.Subscribers, .l cS a0.Moderators, .l THeld.pc a0.Held, .i a0.Next])] (.inr rfl) rfl rfl rfl rfl (hO ?_)
           refine rn tk 9 rfl ?_
           refine ac 96 hr rfl (fun c61 hr => ?_) (fun c61 hr => ?_)
           ·
            refine rn tk 4 rfl ?_
            refine awpl_unmu 1012 rfl (hO ?_)
            refine awpl_pubA (d' := 98) (j := 5) (F := THeld.pc) (l := b48) rfl rfl rfl (hO ?_)
            obtain ⟨v62, h63, hr⟩ := bind_some hr
            refine cl (lists_distribute_run _ _ _ h63) rfl rfl ?_
            refine rn tk 12 rfl ?_
            obtain ⟨v64, h65, hr⟩ := bind_some hr
            refine cl (basic_Failed_run _ _ h65) rfl rfl ?_
            refine rn tk 2 rfl ?_
            refine ac 104 hr rfl (fun c66 hr => ?_) (fun c66 hr => ?_)
            ·
             refine rn tk 1 rfl ?_
             refine drX 2 4 4 4 [1] [(106, .agg [.i v62.2.Code, .i v62.2.Index]), (105, .agg [.s (([] : Str)), .s (([] : Str)), .bo false, .pv (.sl (some true) []), .pv (.sl (some true) []), .pv (.sl (some true) []), .i 0])] [(4, .ptr 4 0), (5, .pv (.sl (some true) [])), (6, .ptr 6 0), (106, .agg [.i v62.2.Code, .i v62.2.Index])] [(14, .cells [.i v62.2.Code, .i v62.2.Index]), (1012, .row 65 false 6 (List.map THeld.pc b48)), (2002, .row 65 true 6 (List.map THeld.pc (([] : List THeld)))), (1002, .cells [.s a0.Address, .s a0.Owner, .bo a0.Open, .l cS v41, .l cS v43, .hs 1012 0, .i a0.Next]), (1, .cells [.s a0.Address, .s a0.Owner, .bo a0.Open, .l cS v41, .l cS v43, .hs 1012 0, .i a0.Next]), (6, .cells [.i 0, .i 0]), (4, .cells [.s (([] : Str)), .s (([] : Str)), .bo false, .pv (.sl (some true) []), .pv (.sl (some true) []), .pv (.sl (some true) []), .i 0]), (3, .cells [.s a1.Envelope.From, .l TRecipient.pc a1.Envelope.To, .s a1.Envelope.Id, .l TField.pc a1.Message.Fields, .l cU a1.Message.Body]), (2, .cells [.s a0.Address, .s a0.Owner, .bo a0.Open, .l cS v41, .l cS v43, .hs 1012 0, .i a0.Next])] tk mixed (by kernel_rfl) rfl rfl rfl (pqX tk rfl (.plain rfl) (pqX tk rfl (.plain rfl) .nil)) rfl rfl rfl rfl (by kernel_rfl) ?_
             refine rn tk 6 rfl ?_
             cases hr
             exact kr tk (.inr rfl) rfl rfl
            ·
             refine rn tk 3 rfl ?_
             refine drX 3 5 5 14 [1, 2] [(109, .agg [.i v62.2.Code, .i v62.2.Index]), (108, .l TMail.pc v62.1), (107, .agg [.s a0.Address, .s a0.Owner, .bo a0.Open, .l cS v41, .l cS v43, .hs 1012 0, .i a0.Next])] [(4, .ptr 4 0), (5, .l TMail.pc v62.1), (6, .ptr 6 0), (109, .agg [.i v62.2.Code, .i v62.2.Index])] [(14, .cells [.i v62.2.Code, .i v62.2.Index]), (1012, .row 65 false 6 (List.map THeld.pc b48)), (2002, .row 65 true 6 (List.map THeld.pc (([] : List THeld)))), (1002, .cells [.s a0.Address, .s a0.Owner, .bo a0.Open, .l cS v41, .l cS v43, .hs 1012 0, .i a0.Next]), (1, .cells [.s a0.Address, .s a0.Owner, .bo a0.Open, .l cS v41, .l cS v43, .hs 1012 0, .i a0.Next]), (6, .cells [.i 0, .i 0]), (4, .cells [.s a0.Address, .s a0.Owner, .bo a0.Open, .l cS v41, .l cS v43, .hs 1012 0, .i a0.Next]), (3, .cells [.s a1.Envelope.From, .l TRecipient.pc a1.Envelope.To, .s a1.Envelope.Id, .l TField.pc a1.Message.Fields, .l cU a1.Message.Body]), (2, .cells [.s a0.Address, .s a0.Owner, .bo a0.Open, .l cS v41, .l cS v43, .hs 1012 0, .i a0.Next])] tk mixed (by kernel_rfl) rfl rfl rfl (pqX tk rfl (.plain rfl) (pqX tk rfl (.plain rfl) (pqX tk rfl (.plain rfl) .nil))) rfl rfl rfl rfl (by kernel_rfl) ?_
             refine rn tk 3 rfl ?_
             refine awp_pubC (o := 4) (j := 5) (F := THeld.pc) (l := b48) rfl rfl rfl (hC ?_)
             refine rn tk 2 rfl ?_
             cases hr
             exact kr tk (.inr rfl) rfl rfl
           ·
            refine rn tk 8 rfl ?_
            refine awpl_unmu 1012 rfl (hO ?_)
            refine awpl_pubA (d' := 111) (j := 5) (F := THeld.pc) (l := b48) rfl rfl rfl (hO ?_)
            obtain ⟨v67, h68, hr⟩ := bind_some hr
            refine cl (lists_mail_run _ _ _ _ _ h68) rfl rfl ?_
            refine rn tk 12 rfl ?_
            obtain ⟨v69, h70, hr⟩ := bind_some hr
            refine cl (basic_Failed_run _ _ h70) rfl rfl ?_
            refine rn tk 2 rfl ?_
            refine ac 119 hr rfl (fun c71 hr => ?_) (fun c71 hr => ?_)
            ·
             refine rn tk 1 rfl ?_
             refine drX 2 4 4 4 [1] [(121, .agg [.i v67.2.Code, .i v67.2.Index]), (120, .agg [.s (([] : Str)), .s (([] : Str)), .bo false, .pv (.sl (some true) []), .pv (.sl (some true) []), .pv (.sl (some true) []), .i 0])] [(4, .ptr 4 0), (5, .pv (.sl (some true) [])), (6, .ptr 6 0), (121, .agg [.i v67.2.Code, .i v67.2.Index])] [(16, .cells [.i v67.2.Code, .i v67.2.Index]), (1012, .row 65 false 6 (List.map THeld.pc b48)), (2002, .row 65 true 6 (List.map THeld.pc (([] : List THeld)))), (1002, .cells [.s a0.Address, .s a0.Owner, .bo a0.Open, .l cS v41, .l cS v43, .hs 1012 0, .i a0.Next]), (1, .cells [.s a0.Address, .s a0.Owner, .bo a0.Open, .l cS v41, .l cS v43, .hs 1012 0, .i a0.Next]), (6, .cells [.i 0, .i 0]), (4, .cells [.s (([] : Str)), .s (([] : Str)), .bo false, .pv (.sl (some true) []), .pv (.sl (some true) []), .pv (.sl (some true) []), .i 0]), (3, .cells [.s a1.Envelope.From, .l TRecipient.pc a1.Envelope.To, .s a1.Envelope.Id, .l TField.pc a1.Message.Fields, .l cU a1.Message.Body]), (2, .cells [.s a0.Address, .s a0.Owner, .bo a0.Open, .l cS v41, .l cS v43, .hs 1012 0, .i a0.Next])] tk mixed (by kernel_rfl) rfl rfl rfl (pqX tk rfl (.plain rfl) (pqX tk rfl (.plain rfl) .nil)) rfl rfl rfl rfl (by kernel_rfl) ?_
             refine rn tk 5 rfl ?_
             cases hr
             exact kr tk (.inr rfl) rfl rfl
            ·
             refine rn tk 3 rfl ?_
             obtain ⟨v72, h73, hr⟩ := bind_some hr
             refine dr 8 [(129, .l THeld.pc (([(THeld.mk a0.Next v72)] : List THeld))), (128, .agg [.i a0.Next, .s v72.Envelope.From, .l TRecipient.pc v72.Envelope.To, .s v72.Envelope.Id, .l TField.pc v72.Message.Fields, .l cU v72.Message.Body]), (127, .agg [.s v72.Envelope.From, .l TRecipient.pc v72.Envelope.To, .s v72.Envelope.Id, .l TField.pc v72.Message.Fields, .l cU v72.Message.Body]), (126, .agg [.s a1.Envelope.From, .l TRecipient.pc a1.Envelope.To, .s a1.Envelope.Id, .l TField.pc a1.Message.Fields, .l cU a1.Message.Body]), (125, .i a0.Next), (124, .ptr 2 6), (123, .hs 1012 0), (122, .ptr 2 5)] mixed (by kernel_rfl) rfl rfl (pq tk rfl (.plain rfl) (pq tk rfl (.plain rfl) (pq tk rfl (.plain rfl) (pq tk rfl (.plain rfl) (pq tk rfl (.plain rfl) (.run (.plain rfl) (opG_call (queue_CopyMail_run a1 v72 h73) rfl) (pq tk rfl (.plain rfl) (.run (.plain rfl) (opG_lit (F := THeld.pc) (l := ([(THeld.mk a0.Next v72)] : List THeld)) ty_s_api_Held ty_api_Held rfl (fun _ => rfl) rfl rfl) .nil)))))))) rfl ?_
             obtain ⟨v74, h75, hr⟩ := bind_some hr
             refine wa tk h75 rfl rfl rfl rfl (fun _ => rfl) rfl rfl ?_
             refine rn tk 14 rfl ?_
             refine drX 3 5 5 14 [1, 2] [(138, .agg [.i v67.2.Code, .i v67.2.Index]), (137, .l TMail.pc v67.1), (136, .agg [.s a0.Address, .s a0.Owner, .bo a0.Open, .l cS v41, .l cS v43, .hs 1012 0, .i ((w64 (a0.Next + 1)))])] [(4, .ptr 4 0), (5, .l TMail.pc v67.1), (6, .ptr 6 0), (138, .agg [.i v67.2.Code, .i v67.2.Index])] [(16, .cells [.i v67.2.Code, .i v67.2.Index]), (1012, .row 65 false 6 (List.map THeld.pc v74)), (2002, .row 65 true 6 (List.map THeld.pc (([] : List THeld)))), (1002, .cells [.s a0.Address, .s a0.Owner, .bo a0.Open, .l cS v41, .l cS v43, .any, .i a0.Next]), (1, .cells [.s a0.Address, .s a0.Owner, .bo a0.Open, .l cS v41, .l cS v43, .any, .i a0.Next]), (6, .cells [.i 0, .i 0]), (4, .cells [.s a0.Address, .s a0.Owner, .bo a0.Open, .l cS v41, .l cS v43, .hs 1012 0, .i ((w64 (a0.Next + 1)))]), (3, .cells [.s a1.Envelope.From, .l TRecipient.pc a1.Envelope.To, .s a1.Envelope.Id, .l TField.pc a1.Message.Fields, .l cU a1.Message.Body]), (2, .cells [.s a0.Address, .s a0.Owner, .bo a0.Open, .l cS v41, .l cS v43, .hs 1012 0, .i ((w64 (a0.Next + 1)))])] tk mixed (by kernel_rfl) rfl rfl rfl (pqX tk rfl (.plain rfl) (pqX tk rfl (.plain rfl) (pqX tk rfl (.plain rfl) .nil))) rfl rfl rfl rfl (by kernel_rfl) ?_
             refine rn tk 3 rfl ?_
             refine awp_pubC (o := 4) (j := 5) (F := THeld.pc) (l := v74) rfl rfl rfl (hC ?_)
             refine rn tk 1 rfl ?_
             cases hr
             exact kr tk (.inr rfl) rfl rfl
theorem lists_Reject_run (a0 : TList) (a1 : Str) (a2 : Int) (r : TList × TFault) (hr : lists_Reject a0 a1 a2 = some r) : Run Tryz.prog 15 [.agg [.s a0.Address, .s a0.Owner, .bo a0.Open, .l cS a0.Subscribers, .l cS a0.Moderators, .l THeld.pc a0.Held, .i a0.Next], .s a1, .i a2] (.tup [.agg [.s r.1.Address, .s r.1.Owner, .bo r.1.Open, .l cS r.1.Subscribers, .l cS r.1.Moderators, .l THeld.pc r.1.Held, .i r.1.Next], .agg [.i r.2.Code, .i r.2.Index]]) := by
 unfold lists_Reject at hr
 refine rf (fn := Tryz.f15) ⟨Tryz.func15, rfl, by kernel_rfl⟩ rfl (fun _ => rfl) fun g0 hg => ?_
 refine rn tk 12 rfl ?_
 obtain ⟨v1, h2, hr⟩ := bind_some hr
 refine cl (lists_find_run _ _ _ _ h2) rfl rfl ?_
 refine rn tk 12 rfl ?_
 obtain ⟨v3, h4, hr⟩ := bind_some hr
 refine cl (basic_Failed_run _ _ h4) rfl rfl ?_
 refine rn tk 2 rfl ?_
 refine ac 18 hr rfl (fun c5 hr => ?_) (fun c5 hr => ?_)
 ·
  refine rn tk 1 rfl ?_
  refine drX 2 3 3 3 [1] [(20, .agg [.i v1.2.Code, .i v1.2.Index]), (19, .agg [.s (([] : Str)), .s (([] : Str)), .bo false, .pv (.sl (some true) []), .pv (.sl (some true) []), .pv (.sl (some true) []), .i 0])] [(6, .ptr 6 0), (7, .ptr 7 0), (20, .agg [.i v1.2.Code, .i v1.2.Index])] [(9, .cells [.i v1.2.Code, .i v1.2.Index]), (7, .cells [.i 0, .i 0]), (6, .cells [.s (([] : Str)), .s (([] : Str)), .bo false, .pv (.sl (some true) []), .pv (.sl (some true) []), .pv (.sl (some true) []), .i 0]), (3, .cells [.s a0.Address, .s a0.Owner, .bo a0.Open, .l cS a0.Subscribers, .l cS a0.Moderators, .l THeld.pc a0.Held, .i a0.Next])] tk mixed (by kernel_rfl) rfl rfl rfl (pqX tk rfl (.plain rfl) (pqX tk rfl (.plain rfl) .nil)) rfl rfl rfl rfl (by kernel_rfl) ?_
  refine rn tk 5 rfl ?_
  cases hr
  exact kr tk (.inr rfl) rfl rfl
 ·
  refine rn tk 5 rfl ?_
  refine il (fn := Tryz.f26) (args := [.agg [.s a0.Address, .s a0.Owner, .bo a0.Open, .l cS a0.Subscribers, .l cS a0.Moderators, .l THeld.pc a0.Held, .i a0.Next]]) 100000 199999 [(3, .ptr 3 0), (6, .ptr 6 0), (7, .ptr 7 0), (8, .i v1.1), (9, .ptr 9 0)] rfl ⟨Tryz.func26, rfl, by kernel_rfl⟩ rfl rfl rfl fun T1 ds1 => ?_
  refine rn tk 4 rfl ?_
  refine awpl_adoptCM 1002 (o := 2) (j := 5) 65 6 rfl rfl rfl rfl (hO ?_)
  refine rn tk 3 rfl ?_
  obtain ⟨v6, h7, hr⟩ := bind_some hr
  obtain ⟨v8, h9, hr⟩ := bind_some hr
  obtain ⟨v10, h11, hr⟩ := bind_some hr
  refine drX 10 10 1 1 [] [(13, .ptr 1 3), (12, .hs 1012 0), (11, .l THeld.pc a0.Held), (10, .ptr 1 5), (9, .l cS v8), (8, .l cS a0.Moderators), (7, .ptr 1 4), (6, .l cS v6), (5, .l cS a0.Subscribers), (4, .ptr 1 3)] [(1, .ptr 1 0), (2, .ptr 2 0), (6, .l cS v6), (9, .l cS v8), (12, .hs 1012 0), (13, .ptr 1 3)] [(1012, .row 65 true 6 (List.map THeld.pc v10)), (1002, .row 65 true 6 (List.map THeld.pc (([] : List THeld)))), (2, .cells [.s (([] : Str)), .s (([] : Str)), .bo false, .pv (.sl (some true) []), .pv (.sl (some true) []), .hs 1002 0, .i 0]), (1, .cells [.s a0.Address, .s a0.Owner, .bo a0.Open, .l cS a0.Subscribers, .l cS a0.Moderators, .l THeld.pc a0.Held, .i a0.Next]), (199999, .sus g0.w.heap.size ds1), (100003, .hold (.ptr 3 0) (T1.getD 3 undef)), (100006, .hold (.ptr 6 0) (T1.getD 6 undef)), (100007, .hold (.ptr 7 0) (T1.getD 7 undef)), (100009, .hold (.ptr 9 0) (T1.getD 9 undef)), (100008, .hold (.i v1.1) (T1.getD 8 undef)), (9, .cells [.i v1.2.Code, .i v1.2.Index]), (7, .cells [.i 0, .i 0]), (6, .cells [.s (([] : Str)), .s (([] : Str)), .bo false, .pv (.sl (some true) []), .pv (.sl (some true) []), .pv (.sl (some true) []), .i 0]), (3, .cells [.s a0.Address, .s a0.Owner, .bo a0.Open, .l cS a0.Subscribers, .l cS a0.Moderators, .l THeld.pc a0.Held, .i a0.Next])] tk mixed (by kernel_rfl) rfl rfl rfl (pqX tk rfl (.plain rfl) (pqX tk rfl (.plain rfl) (.run (.plain rfl) (opG_call (slices_Clone_string_string_run a0.Subscribers v6 h7) rfl) (pqX tk rfl (.plain rfl) (pqX tk rfl (.plain rfl) (.run (.plain rfl) (opG_call (slices_Clone_string_string_run a0.Moderators v8 h9) rfl) (pqX tk rfl (.plain rfl) (pqX tk rfl (.plain rfl) (.new 1012 (.plain rfl) (opNewX_callO 1012 (slices_Clone_api_Held_api_Held_runO a0.Held v10 h11) rfl) (pqX tk rfl (.plain rfl) .nil)))))))))) rfl rfl rfl rfl (by kernel_rfl) ?_
  refine rn tk 12 rfl ?_
  refine wnh tk rfl rfl rfl rfl ?_
  refine rn tk 4 rfl ?_
  refine al1 hr (fun s12 => [(1, .ptr 1 0), (2, .ptr 2 0), (18, .i ((v10.length : Int))), (19, .i s12.1)]) (fun s12 => [(1012, .row 65 true 6 (List.map THeld.pc s12.2)), (1002, .row 65 true 6 (List.map THeld.pc (([] : List THeld)))), (2, .cells [.s (([] : Str)), .s (([] : Str)), .bo false, .l cS ([]), .l cS ([]), .hs 1002 0, .i 0]), (1, .cells [.s a0.Address, .s a0.Owner, .bo a0.Open, .l cS v6, .l cS v8, .hs 1012 0, .i a0.Next]), (199999, .sus g0.w.heap.size ds1), (100003, .hold (.ptr 3 0) (T1.getD 3 undef)), (100006, .hold (.ptr 6 0) (T1.getD 6 undef)), (100007, .hold (.ptr 7 0) (T1.getD 7 undef)), (100009, .hold (.ptr 9 0) (T1.getD 9 undef)), (100008, .hold (.i v1.1) (T1.getD 8 undef)), (9, .cells [.i v1.2.Code, .i v1.2.Index]), (7, .cells [.i 0, .i 0]), (6, .cells [.s (([] : Str)), .s (([] : Str)), .bo false, .l cS ([]), .l cS ([]), .l THeld.pc ([]), .i 0]), (3, .cells [.s a0.Address, .s a0.Owner, .bo a0.Open, .l cS a0.Subscribers, .l cS a0.Moderators, .l THeld.pc a0.Held, .i a0.Next])]) (.exit 0) (fun b13 => [(1, .ptr 1 0), (2, .ptr 2 0)]) (fun b13 => [(1012, .row 65 true 6 (List.map THeld.pc b13)), (1002, .row 65 true 6 (List.map THeld.pc (([] : List THeld)))), (2, .cells [.s (([] : Str)), .s (([] : Str)), .bo false, .l cS ([]), .l cS ([]), .hs 1002 0, .i 0]), (1, .cells [.s a0.Address, .s a0.Owner, .bo a0.Open, .l cS v6, .l cS v8, .hs 1012 0, .i a0.Next]), (199999, .sus g0.w.heap.size ds1), (100003, .hold (.ptr 3 0) (T1.getD 3 undef)), (100006, .hold (.ptr 6 0) (T1.getD 6 undef)), (100007, .hold (.ptr 7 0) (T1.getD 7 undef)), (100009, .hold (.ptr 9 0) (T1.getD 9 undef)), (100008, .hold (.i v1.1) (T1.getD 8 undef)), (9, .cells [.i v1.2.Code, .i v1.2.Index]), (7, .cells [.i 0, .i 0]), (6, .cells [.s (([] : Str)), .s (([] : Str)), .bo false, .l cS ([]), .l cS ([]), .l THeld.pc ([]), .i 0]), (3, .cells [.s a0.Address, .s a0.Owner, .bo a0.Open, .l cS a0.Subscribers, .l cS a0.Moderators, .l THeld.pc a0.Held, .i a0.Next])]) rfl rfl (fun s12 x14 hr => ?_) (fun b13 hr => ?_)
  ·
   unfold lists_Reject_l1 at hr
   refine rn tk 6 rfl ?_
   refine ac 20 hr rfl (fun c15 hr => ?_) (fun c15 hr => ?_)
   ·
    refine rn tk 10 rfl ?_
    obtain ⟨v16, h17, hr⟩ := bind_some hr
    obtain ⟨v18, h19, hr⟩ := bind_some hr
    obtain ⟨v20, h21, hr⟩ := bind_some hr
    refine dr 10 [(31, .agg [.s v20.Envelope.From, .l TRecipient.pc v20.Envelope.To, .s v20.Envelope.Id, .l TField.pc v20.Message.Fields, .l cU v20.Message.Body]), (30, .agg [.s v18.Mail.Envelope.From, .l TRecipient.pc v18.Mail.Envelope.To, .s v18.Mail.Envelope.Id, .l TField.pc v18.Mail.Message.Fields, .l cU v18.Mail.Message.Body]), (29, .hp 1012 (Int.toNat s12.1) 1), (28, .hp 1012 (Int.toNat s12.1) 0), (27, .i s12.1), (26, .hs 1012 0), (25, .ptr 1 5), (24, .i s12.1), (23, .hs 1012 0), (22, .ptr 1 5)] mixed (by kernel_rfl) rfl rfl (pq tk rfl (.plain rfl) (pq tk rfl (.plain rfl) (pq tk rfl (.plain rfl) (pq tk rfl (.plain rfl) (pq tk rfl (.plain rfl) (pq tk rfl (.plain rfl) (.run (.plain rfl) (opG_q (ev_hidx (F := THeld.pc) (l := s12.2) (n := s12.1) rfl rfl rfl ty_s_api_Held ty_api_Held h17)) (pq tk rfl (.plain rfl) (.run (.plain rfl) (opG_q (ev_hloadN (F := THeld.pc) (l := s12.2) (n := s12.1) (j := 1) rfl rfl ty_api_Mail rfl h19 rfl)) (.run (.plain rfl) (opG_call (queue_CopyMail_run v18.Mail v20 h21) rfl) .nil)))))))))) rfl ?_
    obtain ⟨v22, h23, hr⟩ := bind_some hr
    refine wih tk h23 rfl rfl rfl rfl rfl ?_
    refine rn tk 1 rfl ?_
    obtain ⟨v24, h25, hr⟩ := bind_some hr
    refine wo (opTo_hstore (F := THeld.pc) (l := s12.2) (n := s12.1) (j := 1) (v := v24) (v' := ((THeld.mk v24.Number v20))) (pcs := [pS v20.Envelope.From, pL TRecipient.pc v20.Envelope.To, pS v20.Envelope.Id, pL TField.pc v20.Message.Fields, pL cU v20.Message.Body]) rfl rfl rfl ty_api_Mail rfl h25 rfl rfl) rfl ?_
    refine rn tk 7 rfl ?_
    cases hr
    exact atc rfl rfl
   ·
    refine rn tk 2 rfl ?_
    cases hr
    exact ato rfl rfl rfl rfl
  ·
   refine rn tk 9 rfl ?_
   refine ie tk [.agg [.s a0.Address, .s a0.Owner, .bo a0.Open, .l cS v6, .l cS v8, .hs 1012 0, .i a0.Next]] [(3, .ptr 3 0), (6, .ptr 6 0), (7, .ptr 7 0), (8, .i v1.1), (9, .ptr 9 0)] [(1012, .row 65 true 6 (List.map THeld.pc b13)), (1002, .row 65 true 6 (List.map THeld.pc (([] : List THeld)))), (2, .cells [.s a0.Address, .s a0.Owner, .bo a0.Open, .l cS v6, .l cS v8, .hs 1012 0, .i a0.Next]), (1, .cells [.s a0.Address, .s a0.Owner, .bo a0.Open, .l cS v6, .l cS v8, .hs 1012 0, .i a0.Next]), (9, .cells [.i v1.2.Code, .i v1.2.Index]), (7, .cells [.i 0, .i 0]), (6, .cells [.s (([] : Str)), .s (([] : Str)), .bo false, .l cS ([]), .l cS ([]), .l THeld.pc ([]), .i 0]), (3, .cells [.s a0.Address, .s a0.Owner, .bo a0.Open, .l cS a0.Subscribers, .l cS a0.Moderators, .l THeld.pc a0.Held, .i a0.Next])] (.inr rfl) rfl rfl rfl rfl (hO ?_)
   refine rn tk 10 rfl ?_
   refine ct hr (fun j26 => [(3, .ptr 3 0), (6, .ptr 6 0), (7, .ptr 7 0), (9, .ptr 9 0), (28, .hs 1012 0)]) (fun j26 => [(1012, .row 65 true 6 (List.map THeld.pc j26)), (9, .cells [.i v1.2.Code, .i v1.2.Index]), (7, .cells [.i 0, .i 0]), (6, .cells [.s (([] : Str)), .s (([] : Str)), .bo false, .l cS ([]), .l cS ([]), .l THeld.pc ([]), .i 0]), (3, .cells [.s a0.Address, .s a0.Owner, .bo a0.Open, .l cS v6, .l cS v8, .any, .i a0.Next])]) (fun j26 hr jump2 => ?_) (fun j26 hr => ?_)
   ·
    refine il (fn := Tryz.f45) (args := [.hs 1012 0, .i v1.1, .i ((w64 (v1.1 + 1)))]) 200000 299999 [(3, .ptr 3 0), (6, .ptr 6 0), (7, .ptr 7 0), (9, .ptr 9 0)] rfl ⟨Tryz.func45, rfl, by kernel_rfl⟩ rfl rfl rfl fun T2 ds2 => ?_
    refine rn tk 3 rfl ?_
    refine awpl_adoptM 1006 (d := 6) 65 6 rfl rfl rfl (hO ?_)
    refine rn tk 8 rfl ?_
    refine wnh tk rfl rfl rfl rfl ?_
    obtain ⟨v27, h28, hr⟩ := bind_some hr
    refine wq (ev_hcut3 (F := THeld.pc) (l := b13) rfl rfl rfl rfl rfl ty_s_api_Held ty_api_Held h28) rfl rfl rfl ?_
    refine rn tk 10 rfl ?_
    refine ac 16 hr rfl (fun c29 hr => ?_) (fun c29 hr => ?_)
    ·
     refine rn tk 6 rfl ?_
     refine awp_hsclr (d' := 6) (F := THeld.pc) (l := b13) rfl rfl (hC ?_)
     refine rn tk 2 rfl ?_
     refine ie tk [.hs 1012 0] [(3, .ptr 3 0), (6, .ptr 6 0), (7, .ptr 7 0), (9, .ptr 9 0)] [(1006, .row 65 true 6 (List.map THeld.pc (([] : List THeld)))), (1012, .row 65 true 6 (List.map THeld.pc b13)), (1002, .row 65 true 6 (List.map THeld.pc (([] : List THeld)))), (2, .cells [.s a0.Address, .s a0.Owner, .bo a0.Open, .l cS v6, .l cS v8, .any, .i a0.Next]), (1, .cells [.s a0.Address, .s a0.Owner, .bo a0.Open, .l cS v6, .l cS v8, .any, .i a0.Next]), (9, .cells [.i v1.2.Code, .i v1.2.Index]), (7, .cells [.i 0, .i 0]), (6, .cells [.s (([] : Str)), .s (([] : Str)), .bo false, .l cS ([]), .l cS ([]), .l THeld.pc ([]), .i 0]), (3, .cells [.s a0.Address, .s a0.Owner, .bo a0.Open, .l cS v6, .l cS v8, .any, .i a0.Next])] (.inr rfl) rfl rfl rfl rfl ?_
     cases hr
     exact jump2 _ _ rfl rfl
    ·
     refine rn tk 5 rfl ?_
     refine wnh tk rfl rfl rfl rfl ?_
     refine rn tk 4 rfl ?_
     obtain ⟨v30, h31, hr⟩ := bind_some hr
     obtain ⟨v32, h33, hr⟩ := bind_some hr
     refine dr 6 [(25, .hsub 1012 (Int.toNat ((w64 (v1.1 + 1))))), (24, .i ((w64 (v1.1 + 1)))), (23, .hs 1012 0), (22, .hpre 1012 (Int.toNat v1.1)), (21, .i v1.1), (20, .hs 1012 0)] mixed (by kernel_rfl) rfl rfl (pq tk rfl (.plain rfl) (pq tk rfl (.plain rfl) (.run (.plain rfl) (opG_q (ev_hpre (F := THeld.pc) (l := b13) (q := v1.1) rfl rfl rfl ty_s_api_Held ty_api_Held h31)) (pq tk rfl (.plain rfl) (pq tk rfl (.plain rfl) (.run (.plain rfl) (opG_q (ev_hsub (F := THeld.pc) (l := b13) (p := ((w64 (v1.1 + 1)))) rfl rfl rfl ty_s_api_Held ty_api_Held h33)) .nil)))))) rfl ?_
     obtain ⟨v34, h35, hr⟩ := bind_some hr
     refine wo (opTo_shift (k := 26) (F := THeld.pc) (l := b13) (p := v1.1) (q := ((w64 (v1.1 + 1)))) rfl rfl rfl rfl ty_s_api_Held ty_api_Held rfl h35) rfl ?_
     refine rn tk 7 rfl ?_
     refine wq (ev_hprelen (e := 65) (n := ((Int.toNat v1.1) + (b13.length - (Int.toNat ((w64 (v1.1 + 1))))))) rfl ty_s_api_Held.u) rfl rfl rfl ?_
     refine rn tk 1 rfl ?_
     obtain ⟨v36, h37, hr⟩ := bind_some hr
     refine wq (ev_hprest (F := THeld.pc) (l := v34) (a := (((((Int.toNat v1.1) + (b13.length - (Int.toNat ((w64 (v1.1 + 1)))))) : Nat) : Int))) rfl rfl rfl rfl ty_s_api_Held ty_api_Held h37) rfl rfl rfl ?_
     refine wo (opTo_clear (F := THeld.pc) (l := v34) (z := ((THeld.mk 0 ((TMail.mk ((TEnvelope.mk (([] : Str)) ([]) (([] : Str)))) ((TMessage.mk ([]) ([])))))))) rfl rfl ty_s_api_Held ty_api_Held rfl rfl) rfl ?_
     refine rn tk 8 rfl ?_
     refine awp_hprecut (d' := 6) (F := THeld.pc) (l := ((clr0 v34 (Int.toNat (((((Int.toNat v1.1) + (b13.length - (Int.toNat ((w64 (v1.1 + 1)))))) : Nat) : Int))) ((THeld.mk 0 ((TMail.mk ((TEnvelope.mk (([] : Str)) ([]) (([] : Str)))) ((TMessage.mk ([]) ([])))))))))) rfl rfl (hC ?_)
     refine rn tk 1 rfl ?_
     refine ie tk [.hs 1012 0] [(3, .ptr 3 0), (6, .ptr 6 0), (7, .ptr 7 0), (9, .ptr 9 0)] [(1006, .row 65 true 6 (List.map THeld.pc (([] : List THeld)))), (1012, .row 65 true 6 (List.map THeld.pc ((List.take ((Int.toNat v1.1) + (b13.length - (Int.toNat ((w64 (v1.1 + 1)))))) ((clr0 v34 (Int.toNat (((((Int.toNat v1.1) + (b13.length - (Int.toNat ((w64 (v1.1 + 1)))))) : Nat) : Int))) ((THeld.mk 0 ((TMail.mk ((TEnvelope.mk (([] : Str)) ([]) (([] : Str)))) ((TMessage.mk ([]) ([]))))))))))))), (1002, .row 65 true 6 (List.map THeld.pc (([] : List THeld)))), (2, .cells [.s a0.Address, .s a0.Owner, .bo a0.Open, .l cS v6, .l cS v8, .any, .i a0.Next]), (1, .cells [.s a0.Address, .s a0.Owner, .bo a0.Open, .l cS v6, .l cS v8, .any, .i a0.Next]), (9, .cells [.i v1.2.Code, .i v1.2.Index]), (7, .cells [.i 0, .i 0]), (6, .cells [.s (([] : Str)), .s (([] : Str)), .bo false, .l cS ([]), .l cS ([]), .l THeld.pc ([]), .i 0]), (3, .cells [.s a0.Address, .s a0.Owner, .bo a0.Open, .l cS v6, .l cS v8, .any, .i a0.Next])] (.inr rfl) rfl rfl rfl rfl ?_
     cases hr
     exact jump2 _ _ rfl rfl
   ·
    refine rn tk 5 rfl ?_
    refine drX 2 3 3 3 [1] [(31, .agg [.i v1.2.Code, .i v1.2.Index]), (30, .agg [.s a0.Address, .s a0.Owner, .bo a0.Open, .l cS v6, .l cS v8, .hs 1012 0, .i a0.Next])] [(6, .ptr 6 0), (7, .ptr 7 0), (31, .agg [.i v1.2.Code, .i v1.2.Index])] [(1012, .row 65 true 6 (List.map THeld.pc j26)), (9, .cells [.i v1.2.Code, .i v1.2.Index]), (7, .cells [.i 0, .i 0]), (6, .cells [.s a0.Address, .s a0.Owner, .bo a0.Open, .l cS v6, .l cS v8, .hs 1012 0, .i a0.Next]), (3, .cells [.s a0.Address, .s a0.Owner, .bo a0.Open, .l cS v6, .l cS v8, .hs 1012 0, .i a0.Next])] tk mixed (by kernel_rfl) rfl rfl rfl (pqX tk rfl (.plain rfl) (pqX tk rfl (.plain rfl) .nil)) rfl rfl rfl rfl (by kernel_rfl) ?_
    refine rn tk 3 rfl ?_
    refine awp_unmu 1012 rfl (hC ?_)
    refine awp_pubC (o := 6) (j := 5) (F := THeld.pc) (l := j26) rfl rfl rfl (hC ?_)
    refine rn tk 1 rfl ?_
    cases hr
    exact kr tk (.inr rfl) rfl rfl
theorem lists_Subscribe_run (a0 : TList) (a1 : Str) (r : TList × TFault) (hr : lists_Subscribe a0 a1 = some r) : Run Tryz.prog 16 [.agg [.s a0.Address, .s a0.Owner, .bo a0.Open, .l cS a0.Subscribers, .l cS a0.Moderators, .l THeld.pc a0.Held, .i a0.Next], .s a1] (.tup [.agg [.s r.1.Address, .s r.1.Owner, .bo r.1.Open, .l cS r.1.Subscribers, .l cS r.1.Moderators, .l THeld.pc r.1.Held, .i r.1.Next], .agg [.i r.2.Code, .i r.2.Index]]) := by
 unfold lists_Subscribe at hr
 refine rf (fn := Tryz.f16) ⟨Tryz.func16, rfl, by kernel_rfl⟩ rfl (fun _ => rfl) fun g0 hg => ?_
 refine rn tk 11 rfl ?_
 obtain ⟨v1, h2, hr⟩ := bind_some hr
 refine cl (lists_Validate_run _ _ h2) rfl rfl ?_
 refine rn tk 7 rfl ?_
 obtain ⟨v3, h4, hr⟩ := bind_some hr
 refine cl (basic_Failed_run _ _ h4) rfl rfl ?_
 refine rn tk 2 rfl ?_
 refine ac 10 hr rfl (fun c5 hr => ?_) (fun c5 hr => ?_)
 ·
  refine rn tk 1 rfl ?_
  refine drX 2 3 3 3 [1] [(12, .agg [.i v1.Code, .i v1.Index]), (11, .agg [.s (([] : Str)), .s (([] : Str)), .bo false, .pv (.sl (some true) []), .pv (.sl (some true) []), .pv (.sl (some true) []), .i 0])] [(4, .ptr 4 0), (5, .ptr 5 0), (12, .agg [.i v1.Code, .i v1.Index])] [(6, .cells [.i v1.Code, .i v1.Index]), (5, .cells [.i 0, .i 0]), (4, .cells [.s (([] : Str)), .s (([] : Str)), .bo false, .pv (.sl (some true) []), .pv (.sl (some true) []), .pv (.sl (some true) []), .i 0]), (2, .cells [.s a0.Address, .s a0.Owner, .bo a0.Open, .l cS a0.Subscribers, .l cS a0.Moderators, .l THeld.pc a0.Held, .i a0.Next])] tk mixed (by kernel_rfl) rfl rfl rfl (pqX tk rfl (.plain rfl) (pqX tk rfl (.plain rfl) .nil)) rfl rfl rfl rfl (by kernel_rfl) ?_
  refine rn tk 5 rfl ?_
  cases hr
  exact kr tk (.inr rfl) rfl rfl
 ·
  refine rn tk 7 rfl ?_
  obtain ⟨v6, h7, hr⟩ := bind_some hr
  refine cl (envelope_Address_run _ _ h7) rfl rfl ?_
  refine rn tk 4 rfl ?_
  refine ac 13 hr rfl (fun c8 hr => ?_) (fun c8 hr => ?_)
  ·
   refine rn tk 3 rfl ?_
   obtain ⟨v9, h10, hr⟩ := bind_some hr
   refine cl (basic_Fault_run _ _ _ h10) rfl rfl ?_
   refine rn tk 7 rfl ?_
   cases hr
   exact kr tk (.inr rfl) rfl rfl
  ·
   refine rn tk 5 rfl ?_
   obtain ⟨v11, h12, hr⟩ := bind_some hr
   refine cl (slices_Contains_string_string_run _ _ _ h12) rfl rfl ?_
   refine rn tk 3 rfl ?_
   refine ac 19 hr rfl (fun c13 hr => ?_) (fun c13 hr => ?_)
   ·
    refine rn tk 3 rfl ?_
    obtain ⟨v14, h15, hr⟩ := bind_some hr
    refine cl (basic_Fault_run _ _ _ h15) rfl rfl ?_
    refine rn tk 7 rfl ?_
    cases hr
    exact kr tk (.inr rfl) rfl rfl
   ·
    refine rn tk 4 rfl ?_
    refine wn tk rfl rfl rfl ?_
    refine rn tk 4 rfl ?_
    refine ac 26 hr rfl (fun c16 hr => ?_) (fun c16 hr => ?_)
    ·
     refine rn tk 3 rfl ?_
     obtain ⟨v17, h18, hr⟩ := bind_some hr
     refine cl (basic_Fault_run _ _ _ h18) rfl rfl ?_
     refine rn tk 7 rfl ?_
     cases hr
     exact kr tk (.inr rfl) rfl rfl
    ·
     refine rn tk 6 rfl ?_
     refine il (fn := Tryz.f26) (args := [.agg [.s a0.Address, .s a0.Owner, .bo a0.Open, .l cS a0.Subscribers, .l cS a0.Moderators, .l THeld.pc a0.Held, .i a0.Next]]) 100000 199999 [(1, .s a1), (2, .ptr 2 0), (4, .ptr 4 0), (5, .ptr 5 0)] rfl ⟨Tryz.func26, rfl, by kernel_rfl⟩ rfl rfl rfl fun T1 ds1 => ?_
     refine rn tk 3 rfl ?_
     refine wo (opTo_alloc (k := 2) 1002 rfl ty_api_List (.inr ⟨rfl, rfl⟩) rfl rfl rfl) rfl ?_
     refine awpl_adoptC 2002 (o := 1002) (j := 3) 9 1 rfl rfl rfl rfl (hO ?_)
     refine awpl_adoptCM 3002 (o := 1002) (j := 5) 65 6 rfl rfl rfl rfl (hO ?_)
     refine rn tk 3 rfl ?_
     obtain ⟨v19, h20, hr⟩ := bind_some hr
     obtain ⟨v21, h22, hr⟩ := bind_some hr
     obtain ⟨v23, h24, hr⟩ := bind_some hr
     refine drX 10 10 1 1 [] [(13, .ptr 1 3), (12, .hs 1012 0), (11, .l THeld.pc a0.Held), (10, .ptr 1 5), (9, .l cS v21), (8, .l cS a0.Moderators), (7, .ptr 1 4), (6, .hs 1006 0), (5, .l cS a0.Subscribers), (4, .ptr 1 3)] [(1, .ptr 1 0), (2, .ptr 1002 0), (6, .hs 1006 0), (9, .l cS v21), (12, .hs 1012 0), (13, .ptr 1 3)] [(1012, .row 65 true 6 (List.map THeld.pc v23)), (1006, .row 9 true 1 (List.map cS v19)), (3002, .row 65 true 6 (List.map THeld.pc (([] : List THeld)))), (2002, .row 9 false 1 (List.map cS (([] : List Str)))), (1002, .cells [.s (([] : Str)), .s (([] : Str)), .bo false, .hs 2002 0, .pv (.sl (some true) []), .hs 3002 0, .i 0]), (1, .cells [.s a0.Address, .s a0.Owner, .bo a0.Open, .l cS a0.Subscribers, .l cS a0.Moderators, .l THeld.pc a0.Held, .i a0.Next]), (199999, .sus g0.w.heap.size ds1), (100001, .hold (.s a1) (T1.getD 1 undef)), (100002, .hold (.ptr 2 0) (T1.getD 2 undef)), (100004, .hold (.ptr 4 0) (T1.getD 4 undef)), (100005, .hold (.ptr 5 0) (T1.getD 5 undef)), (6, .cells [.i v1.Code, .i v1.Index]), (5, .cells [.i 0, .i 0]), (4, .cells [.s (([] : Str)), .s (([] : Str)), .bo false, .pv (.sl (some true) []), .pv (.sl (some true) []), .pv (.sl (some true) []), .i 0]), (2, .cells [.s a0.Address, .s a0.Owner, .bo a0.Open, .l cS a0.Subscribers, .l cS a0.Moderators, .l THeld.pc a0.Held, .i a0.Next])] tk mixed (by kernel_rfl) rfl rfl rfl (pqX tk rfl (.plain rfl) (pqX tk rfl (.plain rfl) (.new 1006 (.plain rfl) (opNewX_callO 1006 (slices_Clone_string_string_runO a0.Subscribers v19 h20) rfl) (pqX tk rfl (.plain rfl) (pqX tk rfl (.plain rfl) (.run (.plain rfl) (opG_call (slices_Clone_string_string_run a0.Moderators v21 h22) rfl) (pqX tk rfl (.plain rfl) (pqX tk rfl (.plain rfl) (.new 1012 (.plain rfl) (opNewX_callO 1012 (slices_Clone_api_Held_api_Held_runO a0.Held v23 h24) rfl) (pqX tk rfl (.plain rfl) .nil)))))))))) rfl rfl rfl rfl (by kernel_rfl) ?_
     refine rn tk 12 rfl ?_
     refine wnh tk rfl rfl rfl rfl ?_
     refine rn tk 4 rfl ?_
     refine al1 hr (fun s25 => [(1, .ptr 1 0), (2, .ptr 1002 0), (18, .i ((v23.length : Int))), (19, .i s25.1)]) (fun s25 => [(1012, .row 65 true 6 (List.map THeld.pc s25.2)), (1006, .row 9 true 1 (List.map cS v19)), (3002, .row 65 true 6 (List.map THeld.pc (([] : List THeld)))), (2002, .row 9 false 1 (List.map cS (([] : List Str)))), (1002, .cells [.s (([] : Str)), .s (([] : Str)), .bo false, .hs 2002 0, .l cS ([]), .hs 3002 0, .i 0]), (1, .cells [.s a0.Address, .s a0.Owner, .bo a0.Open, .hs 1006 0, .l cS v21, .hs 1012 0, .i a0.Next]), (199999, .sus g0.w.heap.size ds1), (100001, .hold (.s a1) (T1.getD 1 undef)), (100002, .hold (.ptr 2 0) (T1.getD 2 undef)), (100004, .hold (.ptr 4 0) (T1.getD 4 undef)), (100005, .hold (.ptr 5 0) (T1.getD 5 undef)), (5, .cells [.i 0, .i 0]), (4, .cells [.s (([] : Str)), .s (([] : Str)), .bo false, .l cS ([]), .l cS ([]), .l THeld.pc ([]), .i 0]), (2, .cells [.s a0.Address, .s a0.Owner, .bo a0.Open, .l cS a0.Subscribers, .l cS a0.Moderators, .l THeld.pc a0.Held, .i a0.Next])]) (.exit 0) (fun b26 => [(1, .ptr 1 0), (2, .ptr 1002 0)]) (fun b26 => [(1012, .row 65 true 6 (List.map THeld.pc b26)), (1006, .row 9 true 1 (List.map cS v19)), (3002, .row 65 true 6 (List.map THeld.pc (([] : List THeld)))), (2002, .row 9 false 1 (List.map cS (([] : List Str)))), (1002, .cells [.s (([] : Str)), .s (([] : Str)), .bo false, .hs 2002 0, .l cS ([]), .hs 3002 0, .i 0]), (1, .cells [.s a0.Address, .s a0.Owner, .bo a0.Open, .hs 1006 0, .l cS v21, .hs 1012 0, .i a0.Next]), (199999, .sus g0.w.heap.size ds1), (100001, .hold (.s a1) (T1.getD 1 undef)), (100002, .hold (.ptr 2 0) (T1.getD 2 undef)), (100004, .hold (.ptr 4 0) (T1.getD 4 undef)), (100005, .hold (.ptr 5 0) (T1.getD 5 undef)), (5, .cells [.i 0, .i 0]), (4, .cells [.s (([] : Str)), .s (([] : Str)), .bo false, .l cS ([]), .l cS ([]), .l THeld.pc ([]), .i 0]), (2, .cells [.s a0.Address, .s a0.Owner, .bo a0.Open, .l cS a0.Subscribers, .l cS a0.Moderators, .l THeld.pc a0.Held, .i a0.Next])]) rfl rfl (fun s25 x27 hr => ?_) (fun b26 hr => ?_)
     ·
      unfold lists_Subscribe_l1 at hr
      refine rn tk 6 rfl ?_
      refine ac 20 hr rfl (fun c28 hr => ?_) (fun c28 hr => ?_)
      ·
       refine rn tk 10 rfl ?_
       obtain ⟨v29, h30, hr⟩ := bind_some hr
       obtain ⟨v31, h32, hr⟩ := bind_some hr
       obtain ⟨v33, h34, hr⟩ := bind_some hr
       refine dr 10 [(31, .agg [.s v33.Envelope.From, .l TRecipient.pc v33.Envelope.To, .s v33.Envelope.Id, .l TField.pc v33.Message.Fields, .l cU v33.Message.Body]), (30, .agg [.s v31.Mail.Envelope.From, .l TRecipient.pc v31.Mail.Envelope.To, .s v31.Mail.Envelope.Id, .l TField.pc v31.Mail.Message.Fields, .l cU v31.Mail.Message.Body]), (29, .hp 1012 (Int.toNat s25.1) 1), (28, .hp 1012 (Int.toNat s25.1) 0), (27, .i s25.1), (26, .hs 1012 0), (25, .ptr 1 5), (24, .i s25.1), (23, .hs 1012 0), (22, .ptr 1 5)] mixed (by kernel_rfl) rfl rfl (pq tk rfl (.plain rfl) (pq tk rfl (.plain rfl) (pq tk rfl (.plain rfl) (pq tk rfl (.plain rfl) (pq tk rfl (.plain rfl) (pq tk rfl (.plain rfl) (.run (.plain rfl) (opG_q (ev_hidx (F := THeld.pc) (l := s25.2) (n := s25.1) rfl rfl rfl ty_s_api_Held ty_api_Held h30)) (pq tk rfl (.plain rfl) (.run (.plain rfl) (opG_q (ev_hloadN (F := THeld.pc) (l := s25.2) (n := s25.1) (j := 1) rfl rfl ty_api_Mail rfl h32 rfl)) (.run (.plain rfl) (opG_call (queue_CopyMail_run v31.Mail v33 h34) rfl) .nil)))))))))) rfl ?_
       obtain ⟨v35, h36, hr⟩ := bind_some hr
       refine wih tk h36 rfl rfl rfl rfl rfl ?_
       refine rn tk 1 rfl ?_
       obtain ⟨v37, h38, hr⟩ := bind_some hr
       refine wo (opTo_hstore (F := THeld.pc) (l := s25.2) (n := s25.1) (j := 1) (v := v37) (v' := ((THeld.mk v37.Number v33))) (pcs := [pS v33.Envelope.From, pL TRecipient.pc v33.Envelope.To, pS v33.Envelope.Id, pL TField.pc v33.Message.Fields, pL cU v33.Message.Body]) rfl rfl rfl ty_api_Mail rfl h38 rfl rfl) rfl ?_
       refine rn tk 7 rfl ?_
       cases hr
       exact atc rfl rfl
      ·
       refine rn tk 2 rfl ?_
       cases hr
       exact ato rfl rfl rfl rfl
     ·
      refine rn tk 9 rfl ?_
      refine ie tk [.agg [.s a0.Address, .s a0.Owner, .bo a0.Open, .hs 1006 0, .l cS v21, .hs 1012 0, .i a0.Next]] [(1, .s a1), (2, .ptr 2 0), (4, .ptr 4 0), (5, .ptr 5 0)] [(1012, .row 65 true 6 (List.map THeld.pc b26)), (1006, .row 9 true 1 (List.map cS v19)), (3002, .row 65 true 6 (List.map THeld.pc (([] : List THeld)))), (2002, .row 9 false 1 (List.map cS (([] : List Str)))), (1002, .cells [.s a0.Address, .s a0.Owner, .bo a0.Open, .hs 1006 0, .l cS v21, .hs 1012 0, .i a0.Next]), (1, .cells [.s a0.Address, .s a0.Owner, .bo a0.Open, .hs 1006 0, .l cS v21, .hs 1012 0, .i a0.Next]), (5, .cells [.i 0, .i 0]), (4, .cells [.s (([] : Str)), .s (([] : Str)), .bo false, .l cS ([]), .l cS ([]), .l THeld.pc ([]), .i 0]), (2, .cells [.s a0.Address, .s a0.Owner, .bo a0.Open, .l cS a0.Subscribers, .l cS a0.Moderators, .l THeld.pc a0.Held, .i a0.Next])] (.inr rfl) rfl rfl rfl rfl (hO ?_)
      refine rn tk 8 rfl ?_
      refine wz cS ([a1] : List Str) tk rfl rfl (fun _ => rfl) rfl rfl rfl ?_
      obtain ⟨v39, h40, hr⟩ := bind_some hr
      refine wa tk h40 rfl rfl rfl rfl (fun _ => rfl) rfl rfl ?_
      refine rn tk 5 rfl ?_
      obtain ⟨v41, h42, hr⟩ := bind_some hr
      refine dr 2 [(42, .agg [.i v41.Code, .i v41.Index]), (41, .agg [.s a0.Address, .s a0.Owner, .bo a0.Open, .hs 1006 0, .l cS v21, .hs 1012 0, .i a0.Next])] mixed (by kernel_rfl) rfl rfl (pq tk rfl (.plain rfl) (.run (.plain rfl) (opG_call (basic_None_run  v41 h42) rfl) .nil)) rfl ?_
      refine rn tk 4 rfl ?_
      refine awp_unmu 1006 rfl (hC ?_)
      refine awp_pubC (o := 4) (j := 3) (F := cS) (l := v39) rfl rfl rfl (hC ?_)
      refine awp_unmu 1012 rfl (hC ?_)
      refine awp_pubC (o := 4) (j := 5) (F := THeld.pc) (l := b26) rfl rfl rfl (hC ?_)
      refine rn tk 1 rfl ?_
      cases hr
      exact kr tk (.inr rfl) rfl rfl
theorem L_posts_run  (r : Bool) (hr : L_posts = some r) : Run Tryz.prog 8 [] (.bo r) := by
 unfold L_posts at hr
 refine rf (fn := Tryz.f8) ⟨Tryz.func8, rfl, by kernel_rfl⟩ rfl (fun _ => rfl) fun g0 hg => ?_
 refine rn tk 7 rfl ?_
 refine wz cS ([([115, 64, 120] : Str), ([116, 64, 120] : Str)] : List Str) tk rfl rfl (fun _ => rfl) rfl rfl rfl ?_
 refine wz cS ([([109, 64, 120] : Str)] : List Str) tk rfl rfl (fun _ => rfl) rfl rfl rfl ?_
 refine rn tk 6 rfl ?_
 obtain ⟨v1, h2, hr⟩ := bind_some hr
 obtain ⟨v3, h4, hr⟩ := bind_some hr
 refine drX 10 12 5 14 [6, 7] [(4, .ptr 4 0), (2, .ptr 2 0), (26, .agg [.i v3.2.2.Code, .i v3.2.2.Index]), (25, .l TMail.pc v3.2.1), (24, .agg [.s v3.1.Address, .s v3.1.Owner, .bo v3.1.Open, .l cS v3.1.Subscribers, .l cS v3.1.Moderators, .l THeld.pc v3.1.Held, .i v3.1.Next]), (19, .tup [.agg [.s v3.1.Address, .s v3.1.Owner, .bo v3.1.Open, .l cS v3.1.Subscribers, .l cS v3.1.Moderators, .l THeld.pc v3.1.Held, .i v3.1.Next], .l TMail.pc v3.2.1, .agg [.i v3.2.2.Code, .i v3.2.2.Index]]), (23, .tup [.agg [.s v3.1.Address, .s v3.1.Owner, .bo v3.1.Open, .l cS v3.1.Subscribers, .l cS v3.1.Moderators, .l THeld.pc v3.1.Held, .i v3.1.Next], .l TMail.pc v3.2.1, .agg [.i v3.2.2.Code, .i v3.2.2.Index]]), (22, .agg [.s v1.Envelope.From, .l TRecipient.pc v1.Envelope.To, .s v1.Envelope.Id, .l TField.pc v1.Message.Fields, .l cU v1.Message.Body]), (21, .l cS (([([108, 64, 120] : Str)] : List Str))), (20, .agg [.s (([108, 64, 120] : Str)), .s (([111, 64, 120] : Str)), .bo false, .l cS (([([115, 64, 120] : Str), ([116, 64, 120] : Str)] : List Str)), .l cS (([([109, 64, 120] : Str)] : List Str)), .pv (.sl (some true) []), .i 0])] [(1, .ptr 1 0), (3, .l TMail.pc v3.2.1), (4, .ptr 4 0), (26, .agg [.i v3.2.2.Code, .i v3.2.2.Index])] [(4, .cells [.i 0, .i 0]), (2, .cells [.s v3.1.Address, .s v3.1.Owner, .bo v3.1.Open, .l cS v3.1.Subscribers, .l cS v3.1.Moderators, .l THeld.pc v3.1.Held, .i v3.1.Next]), (1, .cells [.s (([108, 64, 120] : Str)), .s (([111, 64, 120] : Str)), .bo false, .l cS (([([115, 64, 120] : Str), ([116, 64, 120] : Str)] : List Str)), .l cS (([([109, 64, 120] : Str)] : List Str)), .pv (.sl (some true) []), .i 0])] tk mixed (by kernel_rfl) rfl rfl rfl (pqX tk rfl (.plain rfl) (.run (.plain rfl) (opG_lit (F := cS) (l := ([([108, 64, 120] : Str)] : List Str)) ty_s_string ty_string rfl (fun _ => rfl) rfl rfl) (.run (.plain rfl) (opG_call (L_plain_run (([([108, 64, 120] : Str)] : List Str)) v1 h2) rfl) (.run (.plain rfl) (opG_call (lists_Post_run ((TList.mk (([108, 64, 120] : Str)) (([111, 64, 120] : Str)) false (([([115, 64, 120] : Str), ([116, 64, 120] : Str)] : List Str)) (([([109, 64, 120] : Str)] : List Str)) ([]) 0)) v1 v3 h4) rfl) (pqX tk rfl (.plain rfl) (pqX tk rfl (.plain rfl) (pqX tk rfl (.plain rfl) (pqX tk rfl (.plain rfl) (pnX 2 tk rfl rfl rfl (.plain rfl) (pnX 4 tk rfl rfl rfl (.plain rfl) .nil)))))))))) rfl rfl rfl rfl (by kernel_rfl) ?_
 refine rn tk 5 rfl ?_
 refine wz cS ([([108, 64, 120] : Str)] : List Str) tk rfl rfl (fun _ => rfl) rfl rfl rfl ?_
 obtain ⟨v5, h6, hr⟩ := bind_some hr
 refine cl (L_plain_run _ _ h6) rfl rfl ?_
 refine rn tk 15 rfl ?_
 obtain ⟨v7, h8, hr⟩ := bind_some hr
 refine cl (lists_Post_run _ _ _ h8) rfl rfl ?_
 refine rn tk 12 rfl ?_
 refine jb hr (fun j9 => [(1, .ptr 1 0), (3, .l TMail.pc v3.2.1), (6, .ptr 6 0), (7, .l TMail.pc v7.2.1), (61, .bo j9)]) (fun j9 => [(6, .cells [.s v7.1.Address, .s v7.1.Owner, .bo v7.1.Open, .l cS v7.1.Subscribers, .l cS v7.1.Moderators, .l THeld.pc v7.1.Held, .i v7.1.Next]), (1, .cells [.s (([108, 64, 120] : Str)), .s (([111, 64, 120] : Str)), .bo false, .l cS (([([115, 64, 120] : Str), ([116, 64, 120] : Str)] : List Str)), .l cS (([([109, 64, 120] : Str)] : List Str)), .l THeld.pc ([]), .i 0])]) (fun j9 hr => ?_) (fun j9 hr => ?_)
 ·
  refine rn tk 5 rfl ?_
  refine bs 41 hr rfl (fun c10 hr => ?_) (fun c10 hr => ?_)
  ·
   refine rn tk 21 rfl ?_
   cases hr
   exact jn _ rfl rfl rfl
  ·
   refine rn tk 5 rfl ?_
   refine bs 46 hr rfl (fun c11 hr => ?_) (fun c11 hr => ?_)
   ·
    refine rn tk 16 rfl ?_
    cases hr
    exact jn _ rfl rfl rfl
   ·
    refine rn tk 1 rfl ?_
    refine ug rfl rfl rfl ?_
    refine wn tk rfl rfl rfl ?_
    refine rn tk 3 rfl ?_
    refine bs 51 hr rfl (fun c12 hr => ?_) (fun c12 hr => ?_)
    ·
     refine rn tk 11 rfl ?_
     cases hr
     exact jn _ rfl rfl rfl
    ·
     refine rn tk 1 rfl ?_
     refine ug rfl rfl rfl ?_
     refine wn tk rfl rfl rfl ?_
     refine rn tk 3 rfl ?_
     refine bs 56 hr rfl (fun c13 hr => ?_) (fun c13 hr => ?_)
     ·
      refine rn tk 6 rfl ?_
      cases hr
      exact jn _ rfl rfl rfl
     ·
      refine rn tk 2 rfl ?_
      refine ug rfl rfl rfl ?_
      refine wn tk rfl rfl rfl ?_
      refine rn tk 3 rfl ?_
      cases hr
      exact jn _ rfl rfl rfl
 ·
  refine ac 61 hr rfl (fun c14 hr => ?_) (fun c14 hr => ?_)
  ·
   refine rn tk 7 rfl ?_
   cases hr
   exact kr tk (.inr rfl) rfl rfl
  ·
   refine rn tk 5 rfl ?_
   obtain ⟨v15, h16, hr⟩ := bind_some hr
   refine cl (lists_Approve_run _ _ _ _ h16) rfl rfl ?_
   refine rn tk 14 rfl ?_
   obtain ⟨v17, h18, hr⟩ := bind_some hr
   refine cl (lists_Reject_run _ _ _ _ h18) rfl rfl ?_
   refine rn tk 12 rfl ?_
   obtain ⟨v19, h20, hr⟩ := bind_some hr
   refine cl (lists_Subscribe_run _ _ _ h20) rfl rfl ?_
   refine rn tk 10 rfl ?_
   refine jb hr (fun j21 => [(3, .l TMail.pc v3.2.1), (7, .l TMail.pc v7.2.1), (10, .l TMail.pc v15.2.1), (107, .bo j21)]) (fun j21 => []) (fun j21 hr => ?_) (fun j21 hr => ?_)
   ·
    refine bool_split ((v15.2.2.Code != 0)) (fun c22 => ?_) (fun c22 => ?_)
    ·
     replace hr := cond_t c22 hr
     refine dr 11 [(88, .tup []), (87, .tup []), (86, .bo true), (85, .bo true), (84, .tup []), (83, .tup []), (82, .tup []), (81, .bo ((v15.2.2.Code != 0))), (80, .bo ((v15.2.2.Code != 0))), (79, .i v15.2.2.Code), (78, .ptr 11 0)] mixed (by kernel_rfl) rfl rfl (pq tk rfl (.plain rfl) (pq tk rfl (.plain rfl) (pq tk rfl (.plain rfl) (pq tk rfl (.plain rfl) (.skip (.no (d := 81) rfl rfl rfl c22) (.skip (.no (d := 81) rfl rfl rfl c22) (.skip (.no (d := 81) rfl rfl rfl c22) (.run (.plain rfl) (opG_q (ev_pick_t rfl c22)) (pq tk rfl (.plain rfl) (.skip (.no (d := 86) rfl rfl rfl rfl) (.skip (.no (d := 86) rfl rfl rfl rfl) .nil))))))))))) rfl ?_
     refine rn tk 20 rfl ?_
     cases hr
     exact jn _ rfl rfl rfl
    ·
     replace hr := cond_f c22 hr
     refine bool_split ((v19.2.Code != 0)) (fun c23 => ?_) (fun c23 => ?_)
     ·
      replace hr := cond_t c23 hr
      refine dr 11 [(88, .tup []), (87, .tup []), (86, .bo ((v19.2.Code != 0))), (85, .bo ((v19.2.Code != 0))), (84, .bo ((v19.2.Code != 0))), (83, .i v19.2.Code), (82, .ptr 15 0), (81, .bo ((v15.2.2.Code != 0))), (80, .bo ((v15.2.2.Code != 0))), (79, .i v15.2.2.Code), (78, .ptr 11 0)] mixed (by kernel_rfl) rfl rfl (pq tk rfl (.plain rfl) (pq tk rfl (.plain rfl) (pq tk rfl (.plain rfl) (pq tk rfl (.plain rfl) (pq tk rfl (.yes (d := 81) rfl rfl rfl c22) (pq tk rfl (.yes (d := 81) rfl rfl rfl c22) (pq tk rfl (.yes (d := 81) rfl rfl rfl c22) (.run (.plain rfl) (opG_q (ev_pick_f rfl c22)) (pq tk rfl (.plain rfl) (.skip (.no (d := 86) rfl rfl rfl c23) (.skip (.no (d := 86) rfl rfl rfl c23) .nil))))))))))) rfl ?_
      refine kn 86 c23 rfl ?_
      refine rn tk 20 rfl ?_
      cases hr
      exact jn _ rfl rfl rfl
     ·
      replace hr := cond_f c23 hr
      obtain ⟨v24, h25, hr⟩ := bind_some hr
      refine dr 11 [(88, .agg [.i v24.Code, .i v24.Index]), (87, .agg [.i v17.2.Code, .i v17.2.Index]), (86, .bo ((v19.2.Code != 0))), (85, .bo ((v19.2.Code != 0))), (84, .bo ((v19.2.Code != 0))), (83, .i v19.2.Code), (82, .ptr 15 0), (81, .bo ((v15.2.2.Code != 0))), (80, .bo ((v15.2.2.Code != 0))), (79, .i v15.2.2.Code), (78, .ptr 11 0)] mixed (by kernel_rfl) rfl rfl (pq tk rfl (.plain rfl) (pq tk rfl (.plain rfl) (pq tk rfl (.plain rfl) (pq tk rfl (.plain rfl) (pq tk rfl (.yes (d := 81) rfl rfl rfl c22) (pq tk rfl (.yes (d := 81) rfl rfl rfl c22) (pq tk rfl (.yes (d := 81) rfl rfl rfl c22) (.run (.plain rfl) (opG_q (ev_pick_f rfl c22)) (pq tk rfl (.plain rfl) (pq tk rfl (.yes (d := 86) rfl rfl rfl c23) (.run (.yes (d := 86) rfl rfl rfl c23) (opG_call (R_At_run 17 ((-19)) v24 h25) rfl) .nil))))))))))) rfl ?_
      refine kn 86 c23 rfl ?_
      refine ug rfl rfl rfl ?_
      refine wq (ev_structne rfl rfl ty_api_Fault cmp_api_Fault (.int rfl (by decide) ty_int (.int rfl (by decide) ty_int .nil))) rfl rfl rfl ?_
      refine rn tk 2 rfl ?_
      refine bs 91 hr rfl (fun c26 hr => ?_) (fun c26 hr => ?_)
      ·
       refine rn tk 17 rfl ?_
       cases hr
       exact jn _ rfl rfl rfl
      ·
       refine rn tk 1 rfl ?_
       refine ug rfl rfl rfl ?_
       refine wn tk rfl rfl rfl ?_
       refine rn tk 3 rfl ?_
       refine bs 96 hr rfl (fun c27 hr => ?_) (fun c27 hr => ?_)
       ·
        refine rn tk 12 rfl ?_
        cases hr
        exact jn _ rfl rfl rfl
       ·
        refine rn tk 2 rfl ?_
        refine ug rfl rfl rfl ?_
        refine wn tk rfl rfl rfl ?_
        refine rn tk 3 rfl ?_
        refine bs 102 hr rfl (fun c28 hr => ?_) (fun c28 hr => ?_)
        ·
         refine rn tk 6 rfl ?_
         cases hr
         exact jn _ rfl rfl rfl
        ·
         refine rn tk 2 rfl ?_
         refine ug rfl rfl rfl ?_
         refine wn tk rfl rfl rfl ?_
         refine rn tk 3 rfl ?_
         cases hr
         exact jn _ rfl rfl rfl
   ·
    refine ac 107 hr rfl (fun c29 hr => ?_) (fun c29 hr => ?_)
    ·
     refine rn tk 7 rfl ?_
     cases hr
     exact kr tk (.inr rfl) rfl rfl
    ·
     refine rn tk 2 rfl ?_
     refine jb hr (fun j30 => [(0, .bo j30)]) (fun j30 => []) (fun j30 hr => ?_) (fun j30 hr => ?_)
     ·
      refine rn tk 2 rfl ?_
      obtain ⟨v31, h32, hr⟩ := bind_some hr
      refine wi tk h32 rfl rfl rfl rfl rfl ?_
      refine rn tk 4 rfl ?_
      refine wz TRecipient.pc ([(TRecipient.mk (([116, 64, 120] : Str)) 0)] : List TRecipient) tk rfl rfl (fun _ => rfl) rfl rfl rfl ?_
      obtain ⟨v33, h34, hr⟩ := bind_some hr
      refine cl (R_SameRecipients_run _ _ _ h34) rfl rfl ?_
      refine rn tk 1 rfl ?_
      refine bs 116 hr rfl (fun c35 hr => ?_) (fun c35 hr => ?_)
      ·
       refine rn tk 1 rfl ?_
       obtain ⟨v36, h37, hr⟩ := bind_some hr
       refine ug rfl rfl rfl ?_
       refine wi tk h37 rfl rfl rfl rfl rfl ?_
       refine rn tk 4 rfl ?_
       refine ug rfl rfl rfl ?_
       refine wz TRecipient.pc ([(TRecipient.mk (([109, 64, 120] : Str)) 0)] : List TRecipient) tk rfl rfl (fun _ => rfl) rfl rfl rfl ?_
       obtain ⟨v38, h39, hr⟩ := bind_some hr
       refine ug rfl rfl rfl ?_
       refine cl (R_SameRecipients_run _ _ _ h39) rfl rfl ?_
       refine rn tk 2 rfl ?_
       refine bs 126 hr rfl (fun c40 hr => ?_) (fun c40 hr => ?_)
       ·
        refine rn tk 1 rfl ?_
        obtain ⟨v41, h42, hr⟩ := bind_some hr
        refine ug rfl rfl rfl ?_
        refine wi tk h42 rfl rfl rfl rfl rfl ?_
        refine rn tk 3 rfl ?_
        refine ug rfl rfl rfl ?_
        refine wn tk rfl rfl rfl ?_
        refine rn tk 3 rfl ?_
        refine bs 135 hr rfl (fun c43 hr => ?_) (fun c43 hr => ?_)
        ·
         refine rn tk 1 rfl ?_
         obtain ⟨v44, h45, hr⟩ := bind_some hr
         refine ug rfl rfl rfl ?_
         refine wi tk h45 rfl rfl rfl rfl rfl ?_
         refine rn tk 7 rfl ?_
         cases hr
         exact jn _ rfl rfl rfl
        ·
         refine rn tk 9 rfl ?_
         cases hr
         exact jn _ rfl rfl rfl
       ·
        refine rn tk 18 rfl ?_
        cases hr
        exact jn _ rfl rfl rfl
      ·
       refine rn tk 28 rfl ?_
       cases hr
       exact jn _ rfl rfl rfl
     ·
      refine rn tk 1 rfl ?_
      cases hr
      exact kr tk (.inr rfl) rfl rfl
theorem R_In_run (a0 : Int) (a1 : Int) (a2 : Int) (r : Bool) (hr : R_In a0 a1 a2 = some r) : Run Tryz.prog 41 [.i a0, .i a1, .i a2] (.bo r) := by
 unfold R_In at hr
 refine rf (fn := Tryz.f41) ⟨Tryz.func41, rfl, by kernel_rfl⟩ rfl (fun _ => rfl) fun g0 hg => ?_
 refine rn tk 5 rfl ?_
 refine jb hr (fun j1 => [(6, .bo j1)]) (fun j1 => []) (fun j1 hr => ?_) (fun j1 hr => ?_)
 ·
  refine rn tk 5 rfl ?_
  refine bs 10 hr rfl (fun c2 hr => ?_) (fun c2 hr => ?_)
  ·
   refine rn tk 6 rfl ?_
   cases hr
   exact jn _ rfl rfl rfl
  ·
   refine rn tk 6 rfl ?_
   cases hr
   exact jn _ rfl rfl rfl
 ·
  refine rn tk 1 rfl ?_
  cases hr
  exact kr tk (.inr rfl) rfl rfl
theorem R_DomainOk_run (a0 : Str) (r : Bool) (hr : R_DomainOk a0 = some r) : Run Tryz.prog 51 [.s a0] (.bo r) := by
 unfold R_DomainOk at hr
 refine rf (fn := Tryz.f51) ⟨Tryz.func51, rfl, by kernel_rfl⟩ rfl (fun _ => rfl) fun g0 hg => ?_
 refine rn tk 12 rfl ?_
 refine al2 hr (fun s1 => [(0, .s a0), (3, .i s1)]) (fun s1 => []) (.exit 0) (fun b2 => [(0, .s a0)]) (fun b2 => []) .ret (fun b3 => [(2, .bo b3)]) (fun b3 => []) rfl rfl (fun s1 x5 hr => ?_) (fun b2 hr => ?_) (fun b3 hr => ?_)
 ·
  unfold R_DomainOk_l1 at hr
  refine rn tk 9 rfl ?_
  refine ac 8 hr rfl (fun c6 hr => ?_) (fun c6 hr => ?_)
  ·
   refine rn tk 8 rfl ?_
   obtain ⟨v7, h8, hr⟩ := bind_some hr
   refine ws tk h8 rfl rfl rfl rfl ?_
   refine wu tk rfl rfl rfl ?_
   refine rn tk 4 rfl ?_
   refine jb hr (fun j9 => [(0, .s a0), (3, .i s1), (4, .i ((v7.toNat : Int))), (36, .bo j9)]) (fun j9 => []) (fun j9 hr => ?_) (fun j9 hr => ?_)
   ·
    refine rn tk 3 rfl ?_
    obtain ⟨v10, h11, hr⟩ := bind_some hr
    refine ws tk h11 rfl rfl rfl rfl ?_
    refine rn tk 2 rfl ?_
    refine bs 19 hr rfl (fun c12 hr => ?_) (fun c12 hr => ?_)
    ·
     refine rn tk 3 rfl ?_
     refine bs 22 hr rfl (fun c13 hr => ?_) (fun c13 hr => ?_)
     ·
      refine rn tk 15 rfl ?_
      cases hr
      exact jn _ rfl rfl rfl
     ·
      refine rn tk 7 rfl ?_
      refine bs 29 hr rfl (fun c14 hr => ?_) (fun c14 hr => ?_)
      ·
       refine rn tk 8 rfl ?_
       cases hr
       exact jn _ rfl rfl rfl
      ·
       refine rn tk 3 rfl ?_
       obtain ⟨v15, h16, hr⟩ := bind_some hr
       refine ug rfl rfl rfl ?_
       refine ws tk h16 rfl rfl rfl rfl ?_
       refine rn tk 4 rfl ?_
       cases hr
       exact jn _ rfl rfl rfl
    ·
     refine rn tk 18 rfl ?_
     cases hr
     exact jn _ rfl rfl rfl
   ·
    refine ac 36 hr rfl (fun c17 hr => ?_) (fun c17 hr => ?_)
    ·
     refine rn tk 9 rfl ?_
     cases hr
     exact ato rfl rfl rfl rfl
    ·
     refine rn tk 2 rfl ?_
     refine jb hr (fun j18 => [(0, .s a0), (3, .i s1), (56, .bo j18)]) (fun j18 => []) (fun j18 hr => ?_) (fun j18 hr => ?_)
     ·
      refine rn tk 2 rfl ?_
      obtain ⟨v19, h20, hr⟩ := bind_some hr
      refine cl (R_In_run _ _ _ _ h20) rfl rfl ?_
      refine rn tk 2 rfl ?_
      refine bs 40 hr rfl (fun c21 hr => ?_) (fun c21 hr => ?_)
      ·
       refine rn tk 1 rfl ?_
       obtain ⟨v22, h23, hr⟩ := bind_some hr
       refine ug rfl rfl rfl ?_
       refine cl (R_In_run _ _ _ _ h23) rfl rfl ?_
       refine rn tk 3 rfl ?_
       refine bs 45 hr rfl (fun c24 hr => ?_) (fun c24 hr => ?_)
       ·
        refine rn tk 2 rfl ?_
        obtain ⟨v25, h26, hr⟩ := bind_some hr
        refine ug rfl rfl rfl ?_
        refine ws tk h26 rfl rfl rfl rfl ?_
        refine rn tk 3 rfl ?_
        refine bs 51 hr rfl (fun c27 hr => ?_) (fun c27 hr => ?_)
        ·
         refine rn tk 2 rfl ?_
         obtain ⟨v28, h29, hr⟩ := bind_some hr
         refine ug rfl rfl rfl ?_
         refine ws tk h29 rfl rfl rfl rfl ?_
         refine rn tk 3 rfl ?_
         cases hr
         exact jn _ rfl rfl rfl
        ·
         refine rn tk 6 rfl ?_
         cases hr
         exact jn _ rfl rfl rfl
       ·
        refine rn tk 12 rfl ?_
        cases hr
        exact jn _ rfl rfl rfl
      ·
       refine rn tk 17 rfl ?_
       cases hr
       exact jn _ rfl rfl rfl
     ·
      refine ac 56 hr rfl (fun c30 hr => ?_) (fun c30 hr => ?_)
      ·
       refine rn tk 8 rfl ?_
       cases hr
       exact ato rfl rfl rfl rfl
      ·
       refine rn tk 8 rfl ?_
       cases hr
       exact atc rfl rfl
  ·
   refine rn tk 2 rfl ?_
   cases hr
   exact ato rfl rfl rfl rfl
 ·
  refine rn tk 6 rfl ?_
  obtain ⟨v31, h32, hr⟩ := bind_some hr
  refine cl (R_In_run _ _ _ _ h32) rfl rfl ?_
  refine rn tk 4 rfl ?_
  cases hr
  exact kr tk (.inr rfl) rfl rfl
 ·
  refine rn tk 2 rfl ?_
  cases hr
  exact kr tk (.inr rfl) rfl rfl
theorem R_letterOrDigit_run (a0 : UInt8) (r : Bool) (hr : R_letterOrDigit a0 = some r) : Run Tryz.prog 50 [.u8 a0] (.bo r) := by
 unfold R_letterOrDigit at hr
 refine rf (fn := Tryz.f50) ⟨Tryz.func50, rfl, by kernel_rfl⟩ rfl (fun _ => rfl) fun g0 hg => ?_
 refine rn tk 8 rfl ?_
 refine wu tk rfl rfl rfl ?_
 refine rn tk 3 rfl ?_
 refine jb hr (fun j1 => [(2, .bo j1)]) (fun j1 => []) (fun j1 hr => ?_) (fun j1 hr => ?_)
 ·
  refine rn tk 2 rfl ?_
  obtain ⟨v2, h3, hr⟩ := bind_some hr
  refine cl (R_In_run _ _ _ _ h3) rfl rfl ?_
  refine rn tk 1 rfl ?_
  refine bs 8 hr rfl (fun c4 hr => ?_) (fun c4 hr => ?_)
  ·
   refine rn tk 9 rfl ?_
   cases hr
   exact jn _ rfl rfl rfl
  ·
   refine rn tk 1 rfl ?_
   obtain ⟨v5, h6, hr⟩ := bind_some hr
   refine ug rfl rfl rfl ?_
   refine cl (R_In_run _ _ _ _ h6) rfl rfl ?_
   refine rn tk 2 rfl ?_
   refine bs 12 hr rfl (fun c7 hr => ?_) (fun c7 hr => ?_)
   ·
    refine rn tk 5 rfl ?_
    cases hr
    exact jn _ rfl rfl rfl
   ·
    refine rn tk 1 rfl ?_
    obtain ⟨v8, h9, hr⟩ := bind_some hr
    refine ug rfl rfl rfl ?_
    refine cl (R_In_run _ _ _ _ h9) rfl rfl ?_
    refine rn tk 3 rfl ?_
    cases hr
    exact jn _ rfl rfl rfl
 ·
  refine rn tk 1 rfl ?_
  cases hr
  exact kr tk (.inr rfl) rfl rfl
theorem R_sign_run (a0 : Str) (r : Int) (hr : R_sign a0 = some r) : Run Tryz.prog 49 [.s a0] (.i r) := by
 unfold R_sign at hr
 refine rf (fn := Tryz.f49) ⟨Tryz.func49, rfl, by kernel_rfl⟩ rfl (fun _ => rfl) fun g0 hg => ?_
 refine rn tk 12 rfl ?_
 refine al2 hr (fun s1 => [(0, .s a0), (3, .i s1)]) (fun s1 => []) (.exit 0) (fun b2 => [(0, .s a0)]) (fun b2 => []) .ret (fun b3 => [(2, .i b3)]) (fun b3 => []) rfl rfl (fun s1 x5 hr => ?_) (fun b2 hr => ?_) (fun b3 hr => ?_)
 ·
  unfold R_sign_l1 at hr
  refine rn tk 9 rfl ?_
  refine ac 7 hr rfl (fun c6 hr => ?_) (fun c6 hr => ?_)
  ·
   refine rn tk 8 rfl ?_
   obtain ⟨v7, h8, hr⟩ := bind_some hr
   refine ws tk h8 rfl rfl rfl rfl ?_
   refine rn tk 3 rfl ?_
   refine ac 13 hr rfl (fun c9 hr => ?_) (fun c9 hr => ?_)
   ·
    refine rn tk 9 rfl ?_
    cases hr
    exact ato rfl rfl rfl rfl
   ·
    refine rn tk 8 rfl ?_
    cases hr
    exact atc rfl rfl
  ·
   refine rn tk 2 rfl ?_
   cases hr
   exact ato rfl rfl rfl rfl
 ·
  refine rn tk 10 rfl ?_
  cases hr
  exact kr tk (.inr rfl) rfl rfl
 ·
  refine rn tk 2 rfl ?_
  cases hr
  exact kr tk (.inr rfl) rfl rfl
theorem R_AddressOk_run (a0 : Str) (r : Bool) (hr : R_AddressOk a0 = some r) : Run Tryz.prog 18 [.s a0] (.bo r) := by
 unfold R_AddressOk at hr
 refine rf (fn := Tryz.f18) ⟨Tryz.func18, rfl, by kernel_rfl⟩ rfl (fun _ => rfl) fun g0 hg => ?_
 refine rn tk 8 rfl ?_
 obtain ⟨v1, h2, hr⟩ := bind_some hr
 refine cl (R_sign_run _ _ h2) rfl rfl ?_
 refine rn tk 10 rfl ?_
 refine al2 hr (fun s3 => [(0, .s a0), (3, .i v1), (4, .i s3)]) (fun s3 => []) (.exit 0) (fun b4 => [(0, .s a0), (3, .i v1)]) (fun b4 => []) .ret (fun b5 => [(2, .bo b5)]) (fun b5 => []) rfl rfl (fun s3 x7 hr => ?_) (fun b4 hr => ?_) (fun b5 hr => ?_)
 ·
  unfold R_AddressOk_l1 at hr
  refine rn tk 8 rfl ?_
  refine ac 10 hr rfl (fun c8 hr => ?_) (fun c8 hr => ?_)
  ·
   refine rn tk 8 rfl ?_
   obtain ⟨v9, h10, hr⟩ := bind_some hr
   refine ws tk h10 rfl rfl rfl rfl ?_
   refine rn tk 3 rfl ?_
   refine jb hr (fun j11 => [(0, .s a0), (3, .i v1), (4, .i s3), (38, .bo j11)]) (fun j11 => []) (fun j11 hr => ?_) (fun j11 hr => ?_)
   ·
    refine rn tk 2 rfl ?_
    obtain ⟨v12, h13, hr⟩ := bind_some hr
    refine cl (R_letterOrDigit_run _ _ h13) rfl rfl ?_
    refine rn tk 2 rfl ?_
    refine bs 19 hr rfl (fun c14 hr => ?_) (fun c14 hr => ?_)
    ·
     refine rn tk 4 rfl ?_
     refine bs 23 hr rfl (fun c15 hr => ?_) (fun c15 hr => ?_)
     ·
      refine rn tk 4 rfl ?_
      refine bs 27 hr rfl (fun c16 hr => ?_) (fun c16 hr => ?_)
      ·
       refine rn tk 4 rfl ?_
       refine bs 31 hr rfl (fun c17 hr => ?_) (fun c17 hr => ?_)
       ·
        refine rn tk 4 rfl ?_
        refine bs 35 hr rfl (fun c18 hr => ?_) (fun c18 hr => ?_)
        ·
         refine rn tk 4 rfl ?_
         cases hr
         exact jn _ rfl rfl rfl
        ·
         refine rn tk 4 rfl ?_
         cases hr
         exact jn _ rfl rfl rfl
       ·
        refine rn tk 8 rfl ?_
        cases hr
        exact jn _ rfl rfl rfl
      ·
       refine rn tk 12 rfl ?_
       cases hr
       exact jn _ rfl rfl rfl
     ·
      refine rn tk 16 rfl ?_
      cases hr
      exact jn _ rfl rfl rfl
    ·
     refine rn tk 20 rfl ?_
     cases hr
     exact jn _ rfl rfl rfl
   ·
    refine ac 38 hr rfl (fun c19 hr => ?_) (fun c19 hr => ?_)
    ·
     refine rn tk 8 rfl ?_
     cases hr
     exact ato rfl rfl rfl rfl
    ·
     refine rn tk 8 rfl ?_
     cases hr
     exact atc rfl rfl
  ·
   refine rn tk 2 rfl ?_
   cases hr
   exact ato rfl rfl rfl rfl
 ·
  refine rn tk 2 rfl ?_
  refine jb hr (fun j20 => [(2, .bo j20)]) (fun j20 => []) (fun j20 hr => ?_) (fun j20 hr => ?_)
  ·
   refine rn tk 2 rfl ?_
   obtain ⟨v21, h22, hr⟩ := bind_some hr
   refine cl (R_In_run _ _ _ _ h22) rfl rfl ?_
   refine rn tk 1 rfl ?_
   refine bs 41 hr rfl (fun c23 hr => ?_) (fun c23 hr => ?_)
   ·
    refine rn tk 6 rfl ?_
    refine bs 47 hr rfl (fun c24 hr => ?_) (fun c24 hr => ?_)
    ·
     refine rn tk 3 rfl ?_
     obtain ⟨v25, h26, hr⟩ := bind_some hr
     refine ug rfl rfl rfl ?_
     refine wscL tk h26 rfl rfl rfl rfl ?_
     obtain ⟨v27, h28, hr⟩ := bind_some hr
     refine ug rfl rfl rfl ?_
     refine cl (R_DomainOk_run _ _ h28) rfl rfl ?_
     refine rn tk 3 rfl ?_
     cases hr
     exact jn _ rfl rfl rfl
    ·
     refine rn tk 8 rfl ?_
     cases hr
     exact jn _ rfl rfl rfl
   ·
    refine rn tk 14 rfl ?_
    cases hr
    exact jn _ rfl rfl rfl
  ·
   refine rn tk 1 rfl ?_
   cases hr
   exact kr tk (.inr rfl) rfl rfl
 ·
  refine rn tk 2 rfl ?_
  cases hr
  exact kr tk (.inr rfl) rfl rfl
theorem R_Has_run (a0 : List Str) (a1 : Str) (r : Bool) (hr : R_Has a0 a1 = some r) : Run Tryz.prog 20 [.l cS a0, .s a1] (.bo r) := by
 unfold R_Has at hr
 refine rf (fn := Tryz.f20) ⟨Tryz.func20, rfl, by kernel_rfl⟩ rfl (fun _ => rfl) fun g0 hg => ?_
 refine rn tk 12 rfl ?_
 refine al2 hr (fun s1 => [(0, .l cS a0), (1, .s a1), (5, .i s1)]) (fun s1 => []) (.exit 0) (fun b2 => []) (fun b2 => []) .ret (fun b3 => [(4, .bo b3)]) (fun b3 => []) rfl rfl (fun s1 x5 hr => ?_) (fun b2 hr => ?_) (fun b3 hr => ?_)
 ·
  unfold R_Has_l1 at hr
  refine rn tk 5 rfl ?_
  refine wn tk rfl rfl rfl ?_
  refine rn tk 3 rfl ?_
  refine ac 9 hr rfl (fun c6 hr => ?_) (fun c6 hr => ?_)
  ·
   refine rn tk 8 rfl ?_
   obtain ⟨v7, h8, hr⟩ := bind_some hr
   refine wi tk h8 rfl rfl rfl rfl rfl ?_
   refine rn tk 5 rfl ?_
   refine ac 17 hr rfl (fun c9 hr => ?_) (fun c9 hr => ?_)
   ·
    refine rn tk 8 rfl ?_
    cases hr
    exact ato rfl rfl rfl rfl
   ·
    refine rn tk 8 rfl ?_
    cases hr
    exact atc rfl rfl
  ·
   refine rn tk 2 rfl ?_
   cases hr
   exact ato rfl rfl rfl rfl
 ·
  refine rn tk 8 rfl ?_
  cases hr
  exact kr tk (.inr rfl) rfl rfl
 ·
  refine rn tk 2 rfl ?_
  cases hr
  exact kr tk (.inr rfl) rfl rfl
theorem R_Known_run (a0 : List TRecipient) (a1 : Str) (r : Int) (hr : R_Known a0 a1 = some r) : Run Tryz.prog 83 [.l TRecipient.pc a0, .s a1] (.i r) := by
 unfold R_Known at hr
 refine rf (fn := Tryz.f83) ⟨Tryz.func83, rfl, by kernel_rfl⟩ rfl (fun _ => rfl) fun g0 hg => ?_
 refine rn tk 12 rfl ?_
 refine al2 hr (fun s1 => [(0, .l TRecipient.pc a0), (1, .s a1), (5, .i s1)]) (fun s1 => []) (.exit 0) (fun b2 => []) (fun b2 => []) .ret (fun b3 => [(4, .i b3)]) (fun b3 => []) rfl rfl (fun s1 x5 hr => ?_) (fun b2 hr => ?_) (fun b3 hr => ?_)
 ·
  unfold R_Known_l1 at hr
  refine rn tk 5 rfl ?_
  refine wn tk rfl rfl rfl ?_
  refine rn tk 3 rfl ?_
  refine ac 9 hr rfl (fun c6 hr => ?_) (fun c6 hr => ?_)
  ·
   refine rn tk 8 rfl ?_
   obtain ⟨v7, h8, hr⟩ := bind_some hr
   refine wi tk h8 rfl rfl rfl rfl rfl ?_
   refine rn tk 6 rfl ?_
   refine ac 18 hr rfl (fun c9 hr => ?_) (fun c9 hr => ?_)
   ·
    refine rn tk 9 rfl ?_
    cases hr
    exact ato rfl rfl rfl rfl
   ·
    refine rn tk 8 rfl ?_
    cases hr
    exact atc rfl rfl
  ·
   refine rn tk 2 rfl ?_
   cases hr
   exact ato rfl rfl rfl rfl
 ·
  refine rn tk 8 rfl ?_
  cases hr
  exact kr tk (.inr rfl) rfl rfl
 ·
  refine rn tk 2 rfl ?_
  cases hr
  exact kr tk (.inr rfl) rfl rfl
theorem R_NameOk_run (a0 : Str) (r : Bool) (hr : R_NameOk a0 = some r) : Run Tryz.prog 82 [.s a0] (.bo r) := by
 unfold R_NameOk at hr
 refine rf (fn := Tryz.f82) ⟨Tryz.func82, rfl, by kernel_rfl⟩ rfl (fun _ => rfl) fun g0 hg => ?_
 refine rn tk 12 rfl ?_
 refine al2 hr (fun s1 => [(0, .s a0), (3, .i s1)]) (fun s1 => []) (.exit 0) (fun b2 => [(0, .s a0)]) (fun b2 => []) .ret (fun b3 => [(2, .bo b3)]) (fun b3 => []) rfl rfl (fun s1 x5 hr => ?_) (fun b2 hr => ?_) (fun b3 hr => ?_)
 ·
  unfold R_NameOk_l1 at hr
  refine rn tk 9 rfl ?_
  refine ac 7 hr rfl (fun c6 hr => ?_) (fun c6 hr => ?_)
  ·
   refine rn tk 4 rfl ?_
   refine jb hr (fun j7 => [(0, .s a0), (3, .i s1), (32, .bo j7)]) (fun j7 => []) (fun j7 hr => ?_) (fun j7 hr => ?_)
   ·
    refine rn tk 3 rfl ?_
    obtain ⟨v8, h9, hr⟩ := bind_some hr
    refine ws tk h9 rfl rfl rfl rfl ?_
    obtain ⟨v10, h11, hr⟩ := bind_some hr
    refine cl (R_letterOrDigit_run _ _ h11) rfl rfl ?_
    refine rn tk 2 rfl ?_
    refine bs 15 hr rfl (fun c12 hr => ?_) (fun c12 hr => ?_)
    ·
     refine rn tk 2 rfl ?_
     obtain ⟨v13, h14, hr⟩ := bind_some hr
     refine ug rfl rfl rfl ?_
     refine ws tk h14 rfl rfl rfl rfl ?_
     refine rn tk 3 rfl ?_
     refine bs 21 hr rfl (fun c15 hr => ?_) (fun c15 hr => ?_)
     ·
      refine rn tk 2 rfl ?_
      obtain ⟨v16, h17, hr⟩ := bind_some hr
      refine ug rfl rfl rfl ?_
      refine ws tk h17 rfl rfl rfl rfl ?_
      refine rn tk 3 rfl ?_
      refine bs 27 hr rfl (fun c18 hr => ?_) (fun c18 hr => ?_)
      ·
       refine rn tk 2 rfl ?_
       obtain ⟨v19, h20, hr⟩ := bind_some hr
       refine ug rfl rfl rfl ?_
       refine ws tk h20 rfl rfl rfl rfl ?_
       refine rn tk 3 rfl ?_
       cases hr
       exact jn _ rfl rfl rfl
      ·
       refine rn tk 6 rfl ?_
       cases hr
       exact jn _ rfl rfl rfl
     ·
      refine rn tk 12 rfl ?_
      cases hr
      exact jn _ rfl rfl rfl
    ·
     refine rn tk 18 rfl ?_
     cases hr
     exact jn _ rfl rfl rfl
   ·
    refine ac 32 hr rfl (fun c21 hr => ?_) (fun c21 hr => ?_)
    ·
     refine rn tk 8 rfl ?_
     cases hr
     exact ato rfl rfl rfl rfl
    ·
     refine rn tk 8 rfl ?_
     cases hr
     exact atc rfl rfl
  ·
   refine rn tk 2 rfl ?_
   cases hr
   exact ato rfl rfl rfl rfl
 ·
  refine rn tk 6 rfl ?_
  obtain ⟨v22, h23, hr⟩ := bind_some hr
  refine cl (R_In_run _ _ _ _ h23) rfl rfl ?_
  refine rn tk 4 rfl ?_
  cases hr
  exact kr tk (.inr rfl) rfl rfl
 ·
  refine rn tk 2 rfl ?_
  cases hr
  exact kr tk (.inr rfl) rfl rfl
theorem R_EnvelopeFault_run (a0 : TEnvelope) (r : TFault) (hr : R_EnvelopeFault a0 = some r) : Run Tryz.prog 64 [.agg [.s a0.From, .l TRecipient.pc a0.To, .s a0.Id]] (.agg [.i r.Code, .i r.Index]) := by
 unfold R_EnvelopeFault at hr
 refine rf (fn := Tryz.f64) ⟨Tryz.func64, rfl, by kernel_rfl⟩ rfl (fun _ => rfl) fun g0 hg => ?_
 refine rn tk 7 rfl ?_
 refine jb hr (fun j1 => [(1, .ptr 1 0), (2, .ptr 2 0), (12, .bo j1)]) (fun j1 => [(2, .cells [.i 0, .i 0]), (1, .cells [.s a0.From, .l TRecipient.pc a0.To, .s a0.Id])]) (fun j1 hr => ?_) (fun j1 hr => ?_)
 ·
  refine rn tk 5 rfl ?_
  refine bs 7 hr rfl (fun c2 hr => ?_) (fun c2 hr => ?_)
  ·
   refine rn tk 2 rfl ?_
   obtain ⟨v3, h4, hr⟩ := bind_some hr
   refine ug rfl rfl rfl ?_
   refine cl (R_AddressOk_run _ _ h4) rfl rfl ?_
   refine rn tk 3 rfl ?_
   cases hr
   exact jn _ rfl rfl rfl
  ·
   refine rn tk 6 rfl ?_
   cases hr
   exact jn _ rfl rfl rfl
 ·
  refine ac 12 hr rfl (fun c5 hr => ?_) (fun c5 hr => ?_)
  ·
   refine rn tk 2 rfl ?_
   obtain ⟨v6, h7, hr⟩ := bind_some hr
   refine cl (R_At_run _ _ _ h7) rfl rfl ?_
   refine rn tk 5 rfl ?_
   cases hr
   exact kr tk (.inr rfl) rfl rfl
  ·
   refine rn tk 7 rfl ?_
   refine wn tk rfl rfl rfl ?_
   obtain ⟨v8, h9, hr⟩ := bind_some hr
   refine cl (R_In_run _ _ _ _ h9) rfl rfl ?_
   refine rn tk 3 rfl ?_
   refine ac 18 hr rfl (fun c10 hr => ?_) (fun c10 hr => ?_)
   ·
    refine rn tk 2 rfl ?_
    obtain ⟨v11, h12, hr⟩ := bind_some hr
    refine cl (R_At_run _ _ _ h12) rfl rfl ?_
    refine rn tk 5 rfl ?_
    cases hr
    exact kr tk (.inr rfl) rfl rfl
   ·
    refine rn tk 3 rfl ?_
    refine jb hr (fun j13 => [(1, .ptr 1 0), (2, .ptr 2 0), (28, .bo j13)]) (fun j13 => [(2, .cells [.i 0, .i 0]), (1, .cells [.s a0.From, .l TRecipient.pc a0.To, .s a0.Id])]) (fun j13 hr => ?_) (fun j13 hr => ?_)
    ·
     refine rn tk 5 rfl ?_
     refine bs 23 hr rfl (fun c14 hr => ?_) (fun c14 hr => ?_)
     ·
      refine rn tk 2 rfl ?_
      obtain ⟨v15, h16, hr⟩ := bind_some hr
      refine ug rfl rfl rfl ?_
      refine cl (R_NameOk_run _ _ h16) rfl rfl ?_
      refine rn tk 3 rfl ?_
      cases hr
      exact jn _ rfl rfl rfl
     ·
      refine rn tk 6 rfl ?_
      cases hr
      exact jn _ rfl rfl rfl
    ·
     refine ac 28 hr rfl (fun c17 hr => ?_) (fun c17 hr => ?_)
     ·
      refine rn tk 2 rfl ?_
      obtain ⟨v18, h19, hr⟩ := bind_some hr
      refine cl (R_At_run _ _ _ h19) rfl rfl ?_
      refine rn tk 5 rfl ?_
      cases hr
      exact kr tk (.inr rfl) rfl rfl
     ·
      refine rn tk 9 rfl ?_
      refine al2 hr (fun s20 => [(1, .ptr 1 0), (2, .ptr 2 0), (3, .i s20)]) (fun s20 => [(2, .cells [.i 0, .i 0]), (1, .cells [.s a0.From, .l TRecipient.pc a0.To, .s a0.Id])]) (.exit 0) (fun b21 => [(2, .ptr 2 0)]) (fun b21 => [(2, .cells [.i 0, .i 0])]) .ret (fun b22 => [(2, .ptr 2 0)]) (fun b22 => [(2, .cells [.i b22.Code, .i b22.Index])]) rfl rfl (fun s20 x24 hr => ?_) (fun b21 hr => ?_) (fun b22 hr => ?_)
      ·
       unfold R_EnvelopeFault_l1 at hr
       refine rn tk 6 rfl ?_
       refine wn tk rfl rfl rfl ?_
       refine rn tk 3 rfl ?_
       refine ac 34 hr rfl (fun c25 hr => ?_) (fun c25 hr => ?_)
       ·
        refine rn tk 10 rfl ?_
        obtain ⟨v26, h27, hr⟩ := bind_some hr
        refine wi tk h27 rfl rfl rfl rfl rfl ?_
        refine rn tk 2 rfl ?_
        obtain ⟨v28, h29, hr⟩ := bind_some hr
        refine cl (R_AddressOk_run _ _ h29) rfl rfl ?_
        refine rn tk 3 rfl ?_
        refine ac 44 hr rfl (fun c30 hr => ?_) (fun c30 hr => ?_)
        ·
         refine rn tk 3 rfl ?_
         obtain ⟨v31, h32, hr⟩ := bind_some hr
         refine cl (R_At_run _ _ _ h32) rfl rfl ?_
         refine rn tk 7 rfl ?_
         cases hr
         exact ato rfl rfl rfl rfl
        ·
         refine rn tk 8 rfl ?_
         obtain ⟨v33, h34, hr⟩ := bind_some hr
         refine wi tk h34 rfl rfl rfl rfl rfl ?_
         refine rn tk 2 rfl ?_
         obtain ⟨v35, h36, hr⟩ := bind_some hr
         refine cl (R_In_run _ _ _ _ h36) rfl rfl ?_
         refine rn tk 3 rfl ?_
         refine ac 54 hr rfl (fun c37 hr => ?_) (fun c37 hr => ?_)
         ·
          refine rn tk 3 rfl ?_
          obtain ⟨v38, h39, hr⟩ := bind_some hr
          refine cl (R_At_run _ _ _ h39) rfl rfl ?_
          refine rn tk 7 rfl ?_
          cases hr
          exact ato rfl rfl rfl rfl
         ·
          refine rn tk 3 rfl ?_
          obtain ⟨v40, h41, hr⟩ := bind_some hr
          obtain ⟨v42, h43, hr⟩ := bind_some hr
          refine dr 10 [(66, .s v42.Address), (65, .ep [pS v42.Address, pI v42.Notify]), (64, .ep [pS v42.Address, pI v42.Notify]), (63, .i s20), (62, .l TRecipient.pc a0.To), (61, .ptr 1 1), (60, .l TRecipient.pc v40), (59, .i s20), (58, .l TRecipient.pc a0.To), (57, .ptr 1 1)] mixed (by kernel_rfl) rfl rfl (pq tk rfl (.plain rfl) (pq tk rfl (.plain rfl) (pq tk rfl (.plain rfl) (.run (.plain rfl) (opG_q (ev_cutH (F := TRecipient.pc) rfl rfl ty_s_api_Recipient ty_api_Recipient (fun _ => rfl) h41)) (pq tk rfl (.plain rfl) (pq tk rfl (.plain rfl) (pq tk rfl (.plain rfl) (.run (.plain rfl) (opG_q (ev_idx (f := TRecipient.pc) rfl rfl ty_s_api_Recipient ty_api_Recipient rfl h43)) (pq tk rfl (.plain rfl) (pq tk rfl (.plain rfl) .nil)))))))))) rfl ?_
          obtain ⟨v44, h45, hr⟩ := bind_some hr
          refine cl (R_Known_run _ _ _ h45) rfl rfl ?_
          refine rn tk 3 rfl ?_
          refine ac 68 hr rfl (fun c46 hr => ?_) (fun c46 hr => ?_)
          ·
           refine rn tk 3 rfl ?_
           obtain ⟨v47, h48, hr⟩ := bind_some hr
           refine cl (R_At_run _ _ _ h48) rfl rfl ?_
           refine rn tk 6 rfl ?_
           cases hr
           exact ato rfl rfl rfl rfl
          ·
           refine rn tk 8 rfl ?_
           cases hr
           exact atc rfl rfl
       ·
        refine rn tk 2 rfl ?_
        cases hr
        exact ato rfl rfl rfl rfl
      ·
       refine rn tk 9 rfl ?_
       cases hr
       exact kr tk (.inr rfl) rfl rfl
      ·
       refine rn tk 2 rfl ?_
       cases hr
       exact kr tk (.inr rfl) rfl rfl
theorem R_blank_run (a0 : UInt8) (r : Bool) (hr : R_blank a0 = some r) : Run Tryz.prog 100 [.u8 a0] (.bo r) := by
 unfold R_blank at hr
 refine rf (fn := Tryz.f100) ⟨Tryz.func100, rfl, by kernel_rfl⟩ rfl (fun _ => rfl) fun g0 hg => ?_
 refine rn tk 5 rfl ?_
 refine jb hr (fun j1 => [(2, .bo j1)]) (fun j1 => []) (fun j1 hr => ?_) (fun j1 hr => ?_)
 ·
  refine rn tk 4 rfl ?_
  refine bs 5 hr rfl (fun c2 hr => ?_) (fun c2 hr => ?_)
  ·
   refine rn tk 5 rfl ?_
   cases hr
   exact jn _ rfl rfl rfl
  ·
   refine rn tk 5 rfl ?_
   cases hr
   exact jn _ rfl rfl rfl
 ·
  refine rn tk 1 rfl ?_
  cases hr
  exact kr tk (.inr rfl) rfl rfl
theorem R_FieldLines_run (a0 : Str) (a1 : Str) (r : List Str) (hr : R_FieldLines a0 a1 = some r) : Run Tryz.prog 101 [.s a0, .s a1] (.l cS r) := by
 unfold R_FieldLines at hr
 refine rf (fn := Tryz.f101) ⟨Tryz.func101, rfl, by kernel_rfl⟩ rfl (fun _ => rfl) fun g0 hg => ?_
 refine rn tk 8 rfl ?_
 obtain ⟨v1, h2, hr⟩ := bind_some hr
 refine wc h2 rfl rfl rfl ?_
 refine rn tk 1 rfl ?_
 obtain ⟨v3, h4, hr⟩ := bind_some hr
 refine wc h4 rfl rfl rfl ?_
 refine rn tk 14 rfl ?_
 refine awpl_adopt 1007 (d := 7) 9 1 rfl rfl rfl (hO ?_)
 refine rn tk 4 rfl ?_
 refine al1 hr (fun s5 => [(5, .s s5.1), (6, .i s5.2.1), (7, .hs 1007 0)]) (fun s5 => [(1007, .row 9 false 1 (List.map cS s5.2.2))]) (.exit 0) (fun b6 => [(5, .s b6.1), (7, .hs 1007 0)]) (fun b6 => [(1007, .row 9 false 1 (List.map cS b6.2))]) rfl rfl (fun s5 x7 hr => ?_) (fun b6 hr => ?_)
 ·
  unfold R_FieldLines_l1 at hr
  refine rn tk 8 rfl ?_
  refine ac 20 hr rfl (fun c8 hr => ?_) (fun c8 hr => ?_)
  ·
   refine rn tk 15 rfl ?_
   refine al1 hr (fun s9 => [(5, .s s5.1), (6, .i s5.2.1), (7, .hs 1007 0), (8, .i s9.1), (9, .i s9.2)]) (fun s9 => [(1007, .row 9 false 1 (List.map cS s5.2.2))]) (.exit 2) (fun b10 => [(5, .s s5.1), (6, .i s5.2.1), (7, .hs 1007 0), (8, .i b10)]) (fun b10 => [(1007, .row 9 false 1 (List.map cS s5.2.2))]) rfl rfl (fun s9 x11 hr => ?_) (fun b10 hr => ?_)
   ·
    unfold R_FieldLines_l2 at hr
    refine rn tk 1 rfl ?_
    refine jb hr (fun j12 => [(5, .s s5.1), (6, .i s5.2.1), (7, .hs 1007 0), (8, .i s9.1), (9, .i s9.2), (26, .bo j12)]) (fun j12 => [(1007, .row 9 false 1 (List.map cS s5.2.2))]) (fun j12 hr => ?_) (fun j12 hr => ?_)
    ·
     refine rn tk 4 rfl ?_
     refine bs 23 hr rfl (fun c13 hr => ?_) (fun c13 hr => ?_)
     ·
      refine rn tk 4 rfl ?_
      cases hr
      exact jn _ rfl rfl rfl
     ·
      refine rn tk 4 rfl ?_
      cases hr
      exact jn _ rfl rfl rfl
    ·
     refine ac 26 hr rfl (fun c14 hr => ?_) (fun c14 hr => ?_)
     ·
      refine rn tk 2 rfl ?_
      refine jb hr (fun j15 => [(5, .s s5.1), (6, .i s5.2.1), (7, .hs 1007 0), (8, .i j15), (9, .i s9.2)]) (fun j15 => [(1007, .row 9 false 1 (List.map cS s5.2.2))]) (fun j15 hr => ?_) (fun j15 hr => ?_)
      ·
       refine rn tk 1 rfl ?_
       refine jb hr (fun j16 => [(5, .s s5.1), (6, .i s5.2.1), (7, .hs 1007 0), (8, .i s9.1), (9, .i s9.2), (45, .bo j16)]) (fun j16 => [(1007, .row 9 false 1 (List.map cS s5.2.2))]) (fun j16 hr => ?_) (fun j16 hr => ?_)
       ·
        refine rn tk 5 rfl ?_
        refine bs 32 hr rfl (fun c17 hr => ?_) (fun c17 hr => ?_)
        ·
         refine rn tk 2 rfl ?_
         obtain ⟨v18, h19, hr⟩ := bind_some hr
         refine ug rfl rfl rfl ?_
         refine ws tk h19 rfl rfl rfl rfl ?_
         obtain ⟨v20, h21, hr⟩ := bind_some hr
         refine ug rfl rfl rfl ?_
         refine cl (R_blank_run _ _ h21) rfl rfl ?_
         refine rn tk 2 rfl ?_
         refine bs 38 hr rfl (fun c22 hr => ?_) (fun c22 hr => ?_)
         ·
          refine rn tk 3 rfl ?_
          obtain ⟨v23, h24, hr⟩ := bind_some hr
          refine ug rfl rfl rfl ?_
          refine ws tk h24 rfl rfl rfl rfl ?_
          obtain ⟨v25, h26, hr⟩ := bind_some hr
          refine ug rfl rfl rfl ?_
          refine cl (R_blank_run _ _ h26) rfl rfl ?_
          refine rn tk 3 rfl ?_
          cases hr
          exact jn _ rfl rfl rfl
         ·
          refine rn tk 8 rfl ?_
          cases hr
          exact jn _ rfl rfl rfl
        ·
         refine rn tk 14 rfl ?_
         cases hr
         exact jn _ rfl rfl rfl
       ·
        refine ac 45 hr rfl (fun c27 hr => ?_) (fun c27 hr => ?_)
        ·
         refine rn tk 5 rfl ?_
         cases hr
         exact jn _ rfl rfl rfl
        ·
         refine rn tk 2 rfl ?_
         cases hr
         exact jn _ rfl rfl rfl
      ·
       refine rn tk 5 rfl ?_
       cases hr
       exact atc rfl rfl
     ·
      refine rn tk 2 rfl ?_
      cases hr
      exact ato rfl rfl rfl rfl
   ·
    refine rn tk 9 rfl ?_
    refine al1 hr (fun s28 => [(5, .s s5.1), (6, .i s5.2.1), (7, .hs 1007 0), (8, .i s28.1), (10, .i s28.2)]) (fun s28 => [(1007, .row 9 false 1 (List.map cS s5.2.2))]) (.exit 4) (fun b29 => [(5, .s s5.1), (7, .hs 1007 0), (8, .i b29)]) (fun b29 => [(1007, .row 9 false 1 (List.map cS s5.2.2))]) rfl rfl (fun s28 x30 hr => ?_) (fun b29 hr => ?_)
    ·
     unfold R_FieldLines_l3 at hr
     refine rn tk 1 rfl ?_
     refine jb hr (fun j31 => [(5, .s s5.1), (6, .i s5.2.1), (7, .hs 1007 0), (8, .i s28.1), (10, .i s28.2), (54, .bo j31)]) (fun j31 => [(1007, .row 9 false 1 (List.map cS s5.2.2))]) (fun j31 hr => ?_) (fun j31 hr => ?_)
     ·
      refine rn tk 6 rfl ?_
      refine bs 51 hr rfl (fun c32 hr => ?_) (fun c32 hr => ?_)
      ·
       refine rn tk 4 rfl ?_
       cases hr
       exact jn _ rfl rfl rfl
      ·
       refine rn tk 4 rfl ?_
       cases hr
       exact jn _ rfl rfl rfl
     ·
      refine ac 54 hr rfl (fun c33 hr => ?_) (fun c33 hr => ?_)
      ·
       refine rn tk 2 rfl ?_
       refine jb hr (fun j34 => [(5, .s s5.1), (6, .i s5.2.1), (7, .hs 1007 0), (8, .i j34), (10, .i s28.2)]) (fun j34 => [(1007, .row 9 false 1 (List.map cS s5.2.2))]) (fun j34 hr => ?_) (fun j34 hr => ?_)
       ·
        refine rn tk 1 rfl ?_
        refine jb hr (fun j35 => [(5, .s s5.1), (6, .i s5.2.1), (7, .hs 1007 0), (8, .i s28.1), (10, .i s28.2), (73, .bo j35)]) (fun j35 => [(1007, .row 9 false 1 (List.map cS s5.2.2))]) (fun j35 hr => ?_) (fun j35 hr => ?_)
        ·
         refine rn tk 5 rfl ?_
         refine bs 60 hr rfl (fun c36 hr => ?_) (fun c36 hr => ?_)
         ·
          refine rn tk 2 rfl ?_
          obtain ⟨v37, h38, hr⟩ := bind_some hr
          refine ug rfl rfl rfl ?_
          refine ws tk h38 rfl rfl rfl rfl ?_
          obtain ⟨v39, h40, hr⟩ := bind_some hr
          refine ug rfl rfl rfl ?_
          refine cl (R_blank_run _ _ h40) rfl rfl ?_
          refine rn tk 2 rfl ?_
          refine bs 66 hr rfl (fun c41 hr => ?_) (fun c41 hr => ?_)
          ·
           refine rn tk 3 rfl ?_
           obtain ⟨v42, h43, hr⟩ := bind_some hr
           refine ug rfl rfl rfl ?_
           refine ws tk h43 rfl rfl rfl rfl ?_
           obtain ⟨v44, h45, hr⟩ := bind_some hr
           refine ug rfl rfl rfl ?_
           refine cl (R_blank_run _ _ h45) rfl rfl ?_
           refine rn tk 3 rfl ?_
           cases hr
           exact jn _ rfl rfl rfl
          ·
           refine rn tk 8 rfl ?_
           cases hr
           exact jn _ rfl rfl rfl
         ·
          refine rn tk 14 rfl ?_
          cases hr
          exact jn _ rfl rfl rfl
        ·
         refine ac 73 hr rfl (fun c46 hr => ?_) (fun c46 hr => ?_)
         ·
          refine rn tk 5 rfl ?_
          cases hr
          exact jn _ rfl rfl rfl
         ·
          refine rn tk 2 rfl ?_
          cases hr
          exact jn _ rfl rfl rfl
       ·
        refine rn tk 5 rfl ?_
        cases hr
        exact atc rfl rfl
      ·
       refine rn tk 2 rfl ?_
       cases hr
       exact ato rfl rfl rfl rfl
    ·
     refine rn tk 9 rfl ?_
     refine ac 76 hr rfl (fun c47 hr => ?_) (fun c47 hr => ?_)
     ·
      refine rn tk 3 rfl ?_
      cases hr
      exact ato rfl rfl rfl rfl
     ·
      refine rn tk 7 rfl ?_
      obtain ⟨v48, h49, hr⟩ := bind_some hr
      refine wscH tk h49 rfl rfl rfl rfl ?_
      refine wz cS ([v48] : List Str) tk rfl rfl (fun _ => rfl) rfl rfl rfl ?_
      obtain ⟨v50, h51, hr⟩ := bind_some hr
      refine wa tk h51 rfl rfl rfl rfl (fun _ => rfl) rfl rfl ?_
      refine rn tk 7 rfl ?_
      obtain ⟨v52, h53, hr⟩ := bind_some hr
      refine wscL tk h53 rfl rfl rfl rfl ?_
      refine rn tk 7 rfl ?_
      cases hr
      exact atc rfl rfl
  ·
   refine rn tk 2 rfl ?_
   cases hr
   exact ato rfl rfl rfl rfl
 ·
  refine rn tk 6 rfl ?_
  refine wz cS ([b6.1] : List Str) tk rfl rfl (fun _ => rfl) rfl rfl rfl ?_
  obtain ⟨v54, h55, hr⟩ := bind_some hr
  refine wa tk h55 rfl rfl rfl rfl (fun _ => rfl) rfl rfl ?_
  refine rn tk 3 rfl ?_
  refine awp_pub (d := 4) (F := cS) (l := v54) rfl rfl (hC ?_)
  refine rn tk 1 rfl ?_
  cases hr
  exact kr tk (.inr rfl) rfl rfl
theorem R_FieldCode_run (a0 : TField) (r : Int) (hr : R_FieldCode a0 = some r) : Run Tryz.prog 84 [.agg [.s a0.Name, .s a0.Value]] (.i r) := by
 unfold R_FieldCode at hr
 refine rf (fn := Tryz.f84) ⟨Tryz.func84, rfl, by kernel_rfl⟩ rfl (fun _ => rfl) fun g0 hg => ?_
 refine rn tk 13 rfl ?_
 refine al2 hr (fun s1 => [(1, .ptr 1 0), (3, .i s1)]) (fun s1 => [(1, .cells [.s a0.Name, .s a0.Value])]) (.exit 0) (fun b2 => [(1, .ptr 1 0)]) (fun b2 => [(1, .cells [.s a0.Name, .s a0.Value])]) .ret (fun b3 => [(2, .i b3)]) (fun b3 => []) rfl rfl (fun s1 x5 hr => ?_) (fun b2 hr => ?_) (fun b3 hr => ?_)
 ·
  unfold R_FieldCode_l1 at hr
  refine rn tk 10 rfl ?_
  refine ac 12 hr rfl (fun c6 hr => ?_) (fun c6 hr => ?_)
  ·
   refine rn tk 4 rfl ?_
   refine jb hr (fun j7 => [(1, .ptr 1 0), (3, .i s1), (28, .bo j7)]) (fun j7 => [(1, .cells [.s a0.Name, .s a0.Value])]) (fun j7 hr => ?_) (fun j7 hr => ?_)
   ·
    refine rn tk 4 rfl ?_
    obtain ⟨v8, h9, hr⟩ := bind_some hr
    refine ws tk h9 rfl rfl rfl rfl ?_
    refine wu tk rfl rfl rfl ?_
    obtain ⟨v10, h11, hr⟩ := bind_some hr
    refine cl (R_In_run _ _ _ _ h11) rfl rfl ?_
    refine rn tk 2 rfl ?_
    refine bs 22 hr rfl (fun c12 hr => ?_) (fun c12 hr => ?_)
    ·
     refine rn tk 7 rfl ?_
     cases hr
     exact jn _ rfl rfl rfl
    ·
     refine rn tk 3 rfl ?_
     obtain ⟨v13, h14, hr⟩ := bind_some hr
     refine ug rfl rfl rfl ?_
     refine ws tk h14 rfl rfl rfl rfl ?_
     refine rn tk 3 rfl ?_
     cases hr
     exact jn _ rfl rfl rfl
   ·
    refine ac 28 hr rfl (fun c15 hr => ?_) (fun c15 hr => ?_)
    ·
     refine rn tk 8 rfl ?_
     cases hr
     exact ato rfl rfl rfl rfl
    ·
     refine rn tk 8 rfl ?_
     cases hr
     exact atc rfl rfl
  ·
   refine rn tk 2 rfl ?_
   cases hr
   exact ato rfl rfl rfl rfl
 ·
  refine rn tk 8 rfl ?_
  obtain ⟨v16, h17, hr⟩ := bind_some hr
  refine cl (R_In_run _ _ _ _ h17) rfl rfl ?_
  refine rn tk 3 rfl ?_
  refine ac 33 hr rfl (fun c18 hr => ?_) (fun c18 hr => ?_)
  ·
   refine rn tk 7 rfl ?_
   cases hr
   exact kr tk (.inr rfl) rfl rfl
  ·
   refine rn tk 11 rfl ?_
   refine ac 37 hr rfl (fun c19 hr => ?_) (fun c19 hr => ?_)
   ·
    refine rn tk 7 rfl ?_
    cases hr
    exact kr tk (.inr rfl) rfl rfl
   ·
    refine rn tk 17 rfl ?_
    refine al2 hr (fun s20 => [(1, .ptr 1 0), (4, .i ((a0.Value.length : Int))), (5, .i s20)]) (fun s20 => [(1, .cells [.s a0.Name, .s a0.Value])]) (.exit 2) (fun b21 => [(1, .ptr 1 0), (4, .i ((a0.Value.length : Int)))]) (fun b21 => [(1, .cells [.s a0.Name, .s a0.Value])]) .ret (fun b22 => [(2, .i b22)]) (fun b22 => []) rfl rfl (fun s20 x24 hr => ?_) (fun b21 hr => ?_) (fun b22 hr => ?_)
    ·
     unfold R_FieldCode_l2 at hr
     refine rn tk 8 rfl ?_
     refine ac 43 hr rfl (fun c25 hr => ?_) (fun c25 hr => ?_)
     ·
      refine rn tk 4 rfl ?_
      refine jb hr (fun j26 => [(1, .ptr 1 0), (4, .i ((a0.Value.length : Int))), (5, .i s20), (64, .bo j26)]) (fun j26 => [(1, .cells [.s a0.Name, .s a0.Value])]) (fun j26 hr => ?_) (fun j26 hr => ?_)
      ·
       refine rn tk 4 rfl ?_
       obtain ⟨v27, h28, hr⟩ := bind_some hr
       refine ws tk h28 rfl rfl rfl rfl ?_
       refine rn tk 2 rfl ?_
       refine bs 51 hr rfl (fun c29 hr => ?_) (fun c29 hr => ?_)
       ·
        refine rn tk 14 rfl ?_
        cases hr
        exact jn _ rfl rfl rfl
       ·
        refine rn tk 3 rfl ?_
        obtain ⟨v30, h31, hr⟩ := bind_some hr
        refine ug rfl rfl rfl ?_
        refine ws tk h31 rfl rfl rfl rfl ?_
        refine rn tk 3 rfl ?_
        refine bs 58 hr rfl (fun c32 hr => ?_) (fun c32 hr => ?_)
        ·
         refine rn tk 7 rfl ?_
         cases hr
         exact jn _ rfl rfl rfl
        ·
         refine rn tk 3 rfl ?_
         obtain ⟨v33, h34, hr⟩ := bind_some hr
         refine ug rfl rfl rfl ?_
         refine ws tk h34 rfl rfl rfl rfl ?_
         refine rn tk 3 rfl ?_
         cases hr
         exact jn _ rfl rfl rfl
      ·
       refine ac 64 hr rfl (fun c35 hr => ?_) (fun c35 hr => ?_)
       ·
        refine rn tk 8 rfl ?_
        cases hr
        exact ato rfl rfl rfl rfl
       ·
        refine rn tk 8 rfl ?_
        cases hr
        exact atc rfl rfl
     ·
      refine rn tk 2 rfl ?_
      cases hr
      exact ato rfl rfl rfl rfl
    ·
     refine rn tk 3 rfl ?_
     refine jb hr (fun j36 => [(1, .ptr 1 0), (80, .bo j36)]) (fun j36 => [(1, .cells [.s a0.Name, .s a0.Value])]) (fun j36 hr => ?_) (fun j36 hr => ?_)
     ·
      refine rn tk 4 rfl ?_
      refine bs 67 hr rfl (fun c37 hr => ?_) (fun c37 hr => ?_)
      ·
       refine rn tk 2 rfl ?_
       obtain ⟨v38, h39, hr⟩ := bind_some hr
       refine ug rfl rfl rfl ?_
       refine ws tk h39 rfl rfl rfl rfl ?_
       obtain ⟨v40, h41, hr⟩ := bind_some hr
       refine ug rfl rfl rfl ?_
       refine cl (R_blank_run _ _ h41) rfl rfl ?_
       refine rn tk 1 rfl ?_
       refine bs 72 hr rfl (fun c42 hr => ?_) (fun c42 hr => ?_)
       ·
        refine rn tk 9 rfl ?_
        cases hr
        exact jn _ rfl rfl rfl
       ·
        refine rn tk 4 rfl ?_
        obtain ⟨v43, h44, hr⟩ := bind_some hr
        refine ug rfl rfl rfl ?_
        refine ws tk h44 rfl rfl rfl rfl ?_
        obtain ⟨v45, h46, hr⟩ := bind_some hr
        refine ug rfl rfl rfl ?_
        refine cl (R_blank_run _ _ h46) rfl rfl ?_
        refine rn tk 3 rfl ?_
        cases hr
        exact jn _ rfl rfl rfl
      ·
       refine rn tk 14 rfl ?_
       cases hr
       exact jn _ rfl rfl rfl
     ·
      refine ac 80 hr rfl (fun c47 hr => ?_) (fun c47 hr => ?_)
      ·
       refine rn tk 7 rfl ?_
       cases hr
       exact kr tk (.inr rfl) rfl rfl
      ·
       refine rn tk 8 rfl ?_
       obtain ⟨v48, h49, hr⟩ := bind_some hr
       refine cl (R_FieldLines_run _ _ _ h49) rfl rfl ?_
       refine rn tk 10 rfl ?_
       refine al2 hr (fun s50 => [(6, .l cS v48), (7, .i s50)]) (fun s50 => []) (.exit 4) (fun b51 => []) (fun b51 => []) .ret (fun b52 => [(2, .i b52)]) (fun b52 => []) rfl rfl (fun s50 x54 hr => ?_) (fun b51 hr => ?_) (fun b52 hr => ?_)
       ·
        unfold R_FieldCode_l3 at hr
        refine rn tk 5 rfl ?_
        refine wn tk rfl rfl rfl ?_
        refine rn tk 3 rfl ?_
        refine ac 89 hr rfl (fun c55 hr => ?_) (fun c55 hr => ?_)
        ·
         refine rn tk 8 rfl ?_
         obtain ⟨v56, h57, hr⟩ := bind_some hr
         refine wi tk h57 rfl rfl rfl rfl rfl ?_
         refine rn tk 5 rfl ?_
         refine ac 97 hr rfl (fun c58 hr => ?_) (fun c58 hr => ?_)
         ·
          refine rn tk 8 rfl ?_
          cases hr
          exact ato rfl rfl rfl rfl
         ·
          refine rn tk 8 rfl ?_
          cases hr
          exact atc rfl rfl
        ·
         refine rn tk 2 rfl ?_
         cases hr
         exact ato rfl rfl rfl rfl
       ·
        refine rn tk 8 rfl ?_
        cases hr
        exact kr tk (.inr rfl) rfl rfl
       ·
        refine rn tk 2 rfl ?_
        cases hr
        exact kr tk (.inr rfl) rfl rfl
    ·
     refine rn tk 2 rfl ?_
     cases hr
     exact kr tk (.inr rfl) rfl rfl
 ·
  refine rn tk 2 rfl ?_
  cases hr
  exact kr tk (.inr rfl) rfl rfl
theorem R_MessageBytes_run (a0 : TMessage) (r : List UInt8) (hr : R_MessageBytes a0 = some r) : Run Tryz.prog 85 [.agg [.l TField.pc a0.Fields, .l cU a0.Body]] (.l cU r) := by
 unfold R_MessageBytes at hr
 refine rf (fn := Tryz.f85) ⟨Tryz.func85, rfl, by kernel_rfl⟩ rfl (fun _ => rfl) fun g0 hg => ?_
 refine rn tk 9 rfl ?_
 refine awpl_adopt 1003 (d := 3) 5 1 rfl rfl rfl (hO ?_)
 refine rn tk 9 rfl ?_
 refine al1 hr (fun s1 => [(1, .ptr 1 0), (3, .hs 1003 0), (4, .i s1.1)]) (fun s1 => [(1003, .row 5 false 1 (List.map cU s1.2)), (1, .cells [.l TField.pc a0.Fields, .l cU a0.Body])]) (.exit 0) (fun b2 => [(1, .ptr 1 0), (3, .hs 1003 0)]) (fun b2 => [(1003, .row 5 false 1 (List.map cU b2)), (1, .cells [.l TField.pc a0.Fields, .l cU a0.Body])]) rfl rfl (fun s1 x3 hr => ?_) (fun b2 hr => ?_)
 ·
  unfold R_MessageBytes_l1 at hr
  refine rn tk 6 rfl ?_
  refine wn tk rfl rfl rfl ?_
  refine rn tk 3 rfl ?_
  refine ac 11 hr rfl (fun c4 hr => ?_) (fun c4 hr => ?_)
  ·
   refine rn tk 5 rfl ?_
   obtain ⟨v5, h6, hr⟩ := bind_some hr
   obtain ⟨v7, h8, hr⟩ := bind_some hr
   refine dr 12 [(25, .s v7.Value), (24, .ep [pS v7.Value]), (23, .ep [pS v7.Name, pS v7.Value]), (22, .i s1.1), (21, .l TField.pc a0.Fields), (20, .ptr 1 0), (19, .s v5.Name), (18, .ep [pS v5.Name, pS v5.Value]), (17, .ep [pS v5.Name, pS v5.Value]), (16, .i s1.1), (15, .l TField.pc a0.Fields), (14, .ptr 1 0)] mixed (by kernel_rfl) rfl rfl (pq tk rfl (.plain rfl) (pq tk rfl (.plain rfl) (pq tk rfl (.plain rfl) (.run (.plain rfl) (opG_q (ev_idx (f := TField.pc) rfl rfl ty_s_api_Field ty_api_Field rfl h6)) (pq tk rfl (.plain rfl) (pq tk rfl (.plain rfl) (pq tk rfl (.plain rfl) (pq tk rfl (.plain rfl) (pq tk rfl (.plain rfl) (.run (.plain rfl) (opG_q (ev_idx (f := TField.pc) rfl rfl ty_s_api_Field ty_api_Field rfl h8)) (pq tk rfl (.plain rfl) (pq tk rfl (.plain rfl) .nil)))))))))))) rfl ?_
   obtain ⟨v9, h10, hr⟩ := bind_some hr
   refine cl (R_FieldLines_run _ _ _ h10) rfl rfl ?_
   refine rn tk 9 rfl ?_
   refine al1 hr (fun s11 => [(1, .ptr 1 0), (3, .hs 1003 0), (4, .i s1.1), (5, .l cS v9), (6, .i s11.1)]) (fun s11 => [(1003, .row 5 false 1 (List.map cU s11.2)), (1, .cells [.l TField.pc a0.Fields, .l cU a0.Body])]) (.exit 2) (fun b12 => [(1, .ptr 1 0), (3, .hs 1003 0), (4, .i s1.1)]) (fun b12 => [(1003, .row 5 false 1 (List.map cU b12)), (1, .cells [.l TField.pc a0.Fields, .l cU a0.Body])]) rfl rfl (fun s11 x13 hr => ?_) (fun b12 hr => ?_)
   ·
    unfold R_MessageBytes_l2 at hr
    refine rn tk 5 rfl ?_
    refine wn tk rfl rfl rfl ?_
    refine rn tk 3 rfl ?_
    refine ac 30 hr rfl (fun c14 hr => ?_) (fun c14 hr => ?_)
    ·
     refine rn tk 9 rfl ?_
     obtain ⟨v15, h16, hr⟩ := bind_some hr
     refine wi tk h16 rfl rfl rfl rfl rfl ?_
     refine rn tk 1 rfl ?_
     obtain ⟨v17, h18, hr⟩ := bind_some hr
     refine wo (opTo_appends (k := 38) (l := s11.2) (s := v15) (lim := 140737488355328) rfl rfl rfl rfl ty_s_uint8 ty_string.u ty_uint8 rfl h18) rfl ?_
     refine rn tk 5 rfl ?_
     refine wz cU ([(13 : UInt8), (10 : UInt8)] : List UInt8) tk rfl rfl (fun _ => rfl) rfl rfl rfl ?_
     obtain ⟨v19, h20, hr⟩ := bind_some hr
     refine wa tk h20 rfl rfl rfl rfl (fun _ => rfl) rfl rfl ?_
     refine rn tk 9 rfl ?_
     cases hr
     exact atc rfl rfl
    ·
     refine rn tk 2 rfl ?_
     cases hr
     exact ato rfl rfl rfl rfl
   ·
    refine rn tk 8 rfl ?_
    cases hr
    exact atc rfl rfl
  ·
   refine rn tk 2 rfl ?_
   cases hr
   exact ato rfl rfl rfl rfl
 ·
  refine rn tk 5 rfl ?_
  refine wz cU ([(13 : UInt8), (10 : UInt8)] : List UInt8) tk rfl rfl (fun _ => rfl) rfl rfl rfl ?_
  obtain ⟨v21, h22, hr⟩ := bind_some hr
  refine wa tk h22 rfl rfl rfl rfl (fun _ => rfl) rfl rfl ?_
  refine rn tk 8 rfl ?_
  obtain ⟨v23, h24, hr⟩ := bind_some hr
  refine wa tk h24 rfl rfl rfl rfl (fun _ => rfl) rfl rfl ?_
  refine rn tk 3 rfl ?_
  refine awp_pub (d := 2) (F := cU) (l := v23) rfl rfl (hC ?_)
  refine rn tk 1 rfl ?_
  cases hr
  exact kr tk (.inr rfl) rfl rfl
theorem R_MessageFault_run (a0 : TMessage) (r : TFault) (hr : R_MessageFault a0 = some r) : Run Tryz.prog 65 [.agg [.l TField.pc a0.Fields, .l cU a0.Body]] (.agg [.i r.Code, .i r.Index]) := by
 unfold R_MessageFault at hr
 refine rf (fn := Tryz.f65) ⟨Tryz.func65, rfl, by kernel_rfl⟩ rfl (fun _ => rfl) fun g0 hg => ?_
 refine rn tk 11 rfl ?_
 refine wn tk rfl rfl rfl ?_
 refine rn tk 3 rfl ?_
 refine ac 11 hr rfl (fun c1 hr => ?_) (fun c1 hr => ?_)
 ·
  refine rn tk 2 rfl ?_
  obtain ⟨v2, h3, hr⟩ := bind_some hr
  refine cl (R_At_run _ _ _ h3) rfl rfl ?_
  refine rn tk 5 rfl ?_
  cases hr
  exact kr tk (.inr rfl) rfl rfl
 ·
  refine rn tk 9 rfl ?_
  refine al2 hr (fun s4 => [(1, .ptr 1 0), (2, .ptr 2 0), (3, .i s4)]) (fun s4 => [(2, .cells [.i 0, .i 0]), (1, .cells [.l TField.pc a0.Fields, .l cU a0.Body])]) (.exit 0) (fun b5 => [(1, .ptr 1 0), (2, .ptr 2 0)]) (fun b5 => [(2, .cells [.i 0, .i 0]), (1, .cells [.l TField.pc a0.Fields, .l cU a0.Body])]) .ret (fun b6 => [(2, .ptr 2 0)]) (fun b6 => [(2, .cells [.i b6.Code, .i b6.Index])]) rfl rfl (fun s4 x8 hr => ?_) (fun b5 hr => ?_) (fun b6 hr => ?_)
  ·
   unfold R_MessageFault_l1 at hr
   refine rn tk 6 rfl ?_
   refine wn tk rfl rfl rfl ?_
   refine rn tk 3 rfl ?_
   refine ac 17 hr rfl (fun c9 hr => ?_) (fun c9 hr => ?_)
   ·
    refine rn tk 9 rfl ?_
    obtain ⟨v10, h11, hr⟩ := bind_some hr
    refine wi tk h11 rfl rfl rfl rfl rfl ?_
    refine rn tk 1 rfl ?_
    obtain ⟨v12, h13, hr⟩ := bind_some hr
    refine cl (R_FieldCode_run _ _ h13) rfl rfl ?_
    refine rn tk 9 rfl ?_
    refine ac 27 hr rfl (fun c14 hr => ?_) (fun c14 hr => ?_)
    ·
     refine rn tk 4 rfl ?_
     obtain ⟨v15, h16, hr⟩ := bind_some hr
     refine cl (R_At_run _ _ _ h16) rfl rfl ?_
     refine rn tk 6 rfl ?_
     cases hr
     exact ato rfl rfl rfl rfl
    ·
     refine rn tk 8 rfl ?_
     cases hr
     exact atc rfl rfl
   ·
    refine rn tk 2 rfl ?_
    cases hr
    exact ato rfl rfl rfl rfl
  ·
   refine rn tk 3 rfl ?_
   refine jb hr (fun j17 => [(1, .ptr 1 0), (2, .ptr 2 0), (40, .bo j17)]) (fun j17 => [(2, .cells [.i 0, .i 0]), (1, .cells [.l TField.pc a0.Fields, .l cU a0.Body])]) (fun j17 hr => ?_) (fun j17 hr => ?_)
   ·
    refine rn tk 3 rfl ?_
    refine wn tk rfl rfl rfl ?_
    refine rn tk 2 rfl ?_
    refine bs 35 hr rfl (fun c18 hr => ?_) (fun c18 hr => ?_)
    ·
     refine rn tk 6 rfl ?_
     cases hr
     exact jn _ rfl rfl rfl
    ·
     refine rn tk 1 rfl ?_
     obtain ⟨v19, h20, hr⟩ := bind_some hr
     refine ug rfl rfl rfl ?_
     refine cl (R_MessageBytes_run _ _ h20) rfl rfl ?_
     refine ug rfl rfl rfl ?_
     refine wn tk rfl rfl rfl ?_
     refine rn tk 3 rfl ?_
     cases hr
     exact jn _ rfl rfl rfl
   ·
    refine ac 40 hr rfl (fun c21 hr => ?_) (fun c21 hr => ?_)
    ·
     refine rn tk 2 rfl ?_
     obtain ⟨v22, h23, hr⟩ := bind_some hr
     refine cl (R_At_run _ _ _ h23) rfl rfl ?_
     refine rn tk 5 rfl ?_
     cases hr
     exact kr tk (.inr rfl) rfl rfl
    ·
     refine rn tk 14 rfl ?_
     refine al2 hr (fun s24 => [(1, .ptr 1 0), (2, .ptr 2 0), (5, .i s24.1), (6, .i s24.2)]) (fun s24 => [(2, .cells [.i 0, .i 0]), (1, .cells [.l TField.pc a0.Fields, .l cU a0.Body])]) (.exit 2) (fun b25 => [(2, .ptr 2 0)]) (fun b25 => [(2, .cells [.i 0, .i 0])]) .ret (fun b26 => [(2, .ptr 2 0)]) (fun b26 => [(2, .cells [.i b26.Code, .i b26.Index])]) rfl rfl (fun s24 x28 hr => ?_) (fun b25 hr => ?_) (fun b26 hr => ?_)
     ·
      unfold R_MessageFault_l2 at hr
      refine rn tk 6 rfl ?_
      refine wn tk rfl rfl rfl ?_
      refine rn tk 3 rfl ?_
      refine ac 46 hr rfl (fun c29 hr => ?_) (fun c29 hr => ?_)
      ·
       refine rn tk 2 rfl ?_
       refine jk (fun j30 => [(1, .ptr 1 0), (2, .ptr 2 0), (5, .i j30.1), (6, .i j30.2)]) (fun j30 => [(2, .cells [.i 0, .i 0]), (1, .cells [.l TField.pc a0.Fields, .l cU a0.Body])]) (fun j30 => R_MessageFault_k3  j30 = some x28) ?_ ?_
       ·
        refine rn tk 6 rfl ?_
        obtain ⟨v31, h32, hr⟩ := bind_some hr
        refine wi tk h32 rfl rfl rfl rfl rfl ?_
        refine rn tk 5 rfl ?_
        refine jb hr (fun j33 => [(1, .ptr 1 0), (2, .ptr 2 0), (5, .i s24.1), (6, .i s24.2), (7, .u8 v31), (72, .bo j33)]) (fun j33 => [(2, .cells [.i 0, .i 0]), (1, .cells [.l TField.pc a0.Fields, .l cU a0.Body])]) (fun j33 hr => ?_) (fun j33 hr => ?_)
        ·
         refine rn tk 4 rfl ?_
         refine bs 56 hr rfl (fun c34 hr => ?_) (fun c34 hr => ?_)
         ·
          refine rn tk 4 rfl ?_
          refine ug rfl rfl rfl ?_
          refine wn tk rfl rfl rfl ?_
          refine rn tk 3 rfl ?_
          refine bs 64 hr rfl (fun c35 hr => ?_) (fun c35 hr => ?_)
          ·
           refine rn tk 4 rfl ?_
           obtain ⟨v36, h37, hr⟩ := bind_some hr
           refine ug rfl rfl rfl ?_
           refine wi tk h37 rfl rfl rfl rfl rfl ?_
           refine rn tk 4 rfl ?_
           cases hr
           exact jn _ rfl rfl rfl
          ·
           refine rn tk 9 rfl ?_
           cases hr
           exact jn _ rfl rfl rfl
         ·
          refine rn tk 17 rfl ?_
          cases hr
          exact jn _ rfl rfl rfl
        ·
         refine ac 72 hr rfl (fun c38 hr => ?_) (fun c38 hr => ?_)
         ·
          refine rn tk 15 rfl ?_
          exact jn ((0, (w64 (s24.2 + 1)))) hr rfl rfl
         ·
          refine rn tk 3 rfl ?_
          refine jb hr (fun j39 => [(1, .ptr 1 0), (2, .ptr 2 0), (5, .i s24.1), (6, .i s24.2), (80, .bo j39)]) (fun j39 => [(2, .cells [.i 0, .i 0]), (1, .cells [.l TField.pc a0.Fields, .l cU a0.Body])]) (fun j39 hr => ?_) (fun j39 hr => ?_)
          ·
           refine rn tk 4 rfl ?_
           refine bs 77 hr rfl (fun c40 hr => ?_) (fun c40 hr => ?_)
           ·
            refine rn tk 4 rfl ?_
            cases hr
            exact jn _ rfl rfl rfl
           ·
            refine rn tk 4 rfl ?_
            cases hr
            exact jn _ rfl rfl rfl
          ·
           refine ac 80 hr rfl (fun c41 hr => ?_) (fun c41 hr => ?_)
           ·
            refine rn tk 2 rfl ?_
            obtain ⟨v42, h43, hr⟩ := bind_some hr
            refine cl (R_At_run _ _ _ h43) rfl rfl ?_
            refine rn tk 7 rfl ?_
            cases hr
            exact ato rfl rfl rfl rfl
           ·
            refine rn tk 15 rfl ?_
            refine ac 85 hr rfl (fun c44 hr => ?_) (fun c44 hr => ?_)
            ·
             refine rn tk 2 rfl ?_
             obtain ⟨v45, h46, hr⟩ := bind_some hr
             refine cl (R_At_run _ _ _ h46) rfl rfl ?_
             refine rn tk 6 rfl ?_
             cases hr
             exact ato rfl rfl rfl rfl
            ·
             refine rn tk 2 rfl ?_
             exact jn (((w64 (s24.1 + 1)), s24.2)) hr rfl rfl
       ·
        intro j30 hr
        unfold R_MessageFault_k3 at hr
        refine rn tk 5 rfl ?_
        cases hr
        exact atc rfl rfl
      ·
       refine rn tk 2 rfl ?_
       cases hr
       exact ato rfl rfl rfl rfl
     ·
      refine rn tk 9 rfl ?_
      cases hr
      exact kr tk (.inr rfl) rfl rfl
     ·
      refine rn tk 2 rfl ?_
      cases hr
      exact kr tk (.inr rfl) rfl rfl
  ·
   refine rn tk 2 rfl ?_
   cases hr
   exact kr tk (.inr rfl) rfl rfl
theorem R_MailFault_run (a0 : TMail) (r : TFault) (hr : R_MailFault a0 = some r) : Run Tryz.prog 30 [.agg [.s a0.Envelope.From, .l TRecipient.pc a0.Envelope.To, .s a0.Envelope.Id, .l TField.pc a0.Message.Fields, .l cU a0.Message.Body]] (.agg [.i r.Code, .i r.Index]) := by
 unfold R_MailFault at hr
 refine rf (fn := Tryz.f30) ⟨Tryz.func30, rfl, by kernel_rfl⟩ rfl (fun _ => rfl) fun g0 hg => ?_
 refine rn tk 10 rfl ?_
 obtain ⟨v1, h2, hr⟩ := bind_some hr
 refine cl (R_EnvelopeFault_run _ _ h2) rfl rfl ?_
 refine rn tk 4 rfl ?_
 refine jb hr (fun j3 => [(2, .ptr 2 0), (3, .ptr 3 0)]) (fun j3 => [(3, .cells [.i j3.1, .i j3.2]), (2, .cells [.i 0, .i 0])]) (fun j3 hr => ?_) (fun j3 hr => ?_)
 ·
  refine jb hr (fun j4 => [(1, .ptr 1 0), (2, .ptr 2 0), (3, .ptr 3 0), (16, .bo j4)]) (fun j4 => [(3, .cells [.i v1.Code, .i v1.Index]), (2, .cells [.i 0, .i 0]), (1, .cells [.s a0.Envelope.From, .l TRecipient.pc a0.Envelope.To, .s a0.Envelope.Id, .l TField.pc a0.Message.Fields, .l cU a0.Message.Body])]) (fun j4 hr => ?_) (fun j4 hr => ?_)
  ·
   refine rn tk 5 rfl ?_
   refine bs 10 hr rfl (fun c5 hr => ?_) (fun c5 hr => ?_)
   ·
    refine rn tk 2 rfl ?_
    obtain ⟨v6, h7, hr⟩ := bind_some hr
    refine ug rfl rfl rfl ?_
    refine cl (R_MessageFault_run _ _ h7) rfl rfl ?_
    refine rn tk 4 rfl ?_
    cases hr
    exact jn _ rfl rfl rfl
   ·
    refine rn tk 7 rfl ?_
    cases hr
    exact jn _ rfl rfl rfl
  ·
   refine ac 16 hr rfl (fun c8 hr => ?_) (fun c8 hr => ?_)
   ·
    refine rn tk 3 rfl ?_
    obtain ⟨v9, h10, hr⟩ := bind_some hr
    refine cl (R_MessageFault_run _ _ h10) rfl rfl ?_
    refine rn tk 1 rfl ?_
    obtain ⟨v11, h12, hr⟩ := bind_some hr
    refine cl (R_At_run _ _ _ h12) rfl rfl ?_
    refine rn tk 2 rfl ?_
    cases hr
    exact jn _ rfl rfl rfl
   ·
    refine rn tk 1 rfl ?_
    cases hr
    exact jn _ rfl rfl rfl
 ·
  refine rn tk 7 rfl ?_
  cases hr
  exact kr tk (.inr rfl) rfl rfl
theorem R_membersFault_run (a0 : List Str) (a1 : Int) (r : TFault) (hr : R_membersFault a0 a1 = some r) : Run Tryz.prog 40 [.l cS a0, .i a1] (.agg [.i r.Code, .i r.Index]) := by
 unfold R_membersFault at hr
 refine rf (fn := Tryz.f40) ⟨Tryz.func40, rfl, by kernel_rfl⟩ rfl (fun _ => rfl) fun g0 hg => ?_
 refine rn tk 9 rfl ?_
 refine wn tk rfl rfl rfl ?_
 refine rn tk 3 rfl ?_
 refine ac 8 hr rfl (fun c1 hr => ?_) (fun c1 hr => ?_)
 ·
  refine rn tk 2 rfl ?_
  obtain ⟨v2, h3, hr⟩ := bind_some hr
  refine cl (R_At_run _ _ _ h3) rfl rfl ?_
  refine rn tk 5 rfl ?_
  cases hr
  exact kr tk (.inr rfl) rfl rfl
 ·
  refine rn tk 9 rfl ?_
  refine al2 hr (fun s4 => [(0, .l cS a0), (1, .i a1), (4, .ptr 4 0), (5, .i s4)]) (fun s4 => [(4, .cells [.i 0, .i 0])]) (.exit 0) (fun b5 => [(4, .ptr 4 0)]) (fun b5 => [(4, .cells [.i 0, .i 0])]) .ret (fun b6 => [(4, .ptr 4 0)]) (fun b6 => [(4, .cells [.i b6.Code, .i b6.Index])]) rfl rfl (fun s4 x8 hr => ?_) (fun b5 hr => ?_) (fun b6 hr => ?_)
  ·
   unfold R_membersFault_l1 at hr
   refine rn tk 5 rfl ?_
   refine wn tk rfl rfl rfl ?_
   refine rn tk 3 rfl ?_
   refine ac 13 hr rfl (fun c9 hr => ?_) (fun c9 hr => ?_)
   ·
    refine rn tk 9 rfl ?_
    obtain ⟨v10, h11, hr⟩ := bind_some hr
    refine wi tk h11 rfl rfl rfl rfl rfl ?_
    refine rn tk 1 rfl ?_
    obtain ⟨v12, h13, hr⟩ := bind_some hr
    refine cl (R_AddressOk_run _ _ h13) rfl rfl ?_
    refine rn tk 3 rfl ?_
    refine ac 21 hr rfl (fun c14 hr => ?_) (fun c14 hr => ?_)
    ·
     refine rn tk 5 rfl ?_
     obtain ⟨v15, h16, hr⟩ := bind_some hr
     refine cl (R_At_run _ _ _ h16) rfl rfl ?_
     refine rn tk 7 rfl ?_
     cases hr
     exact ato rfl rfl rfl rfl
    ·
     refine rn tk 3 rfl ?_
     obtain ⟨v17, h18, hr⟩ := bind_some hr
     obtain ⟨v19, h20, hr⟩ := bind_some hr
     refine dr 7 [(32, .s v19), (31, .ep [pS v19]), (30, .i s4), (29, .l cS a0), (28, .l cS v17), (27, .i s4), (26, .l cS a0)] mixed (by kernel_rfl) rfl rfl (pq tk rfl (.plain rfl) (pq tk rfl (.plain rfl) (.run (.plain rfl) (opG_q (ev_cutH (F := cS) rfl rfl ty_s_string ty_string (fun _ => rfl) h18)) (pq tk rfl (.plain rfl) (pq tk rfl (.plain rfl) (.run (.plain rfl) (opG_q (ev_idx (f := cS) rfl rfl ty_s_string ty_string rfl h20)) (pq tk rfl (.plain rfl) .nil))))))) rfl ?_
     obtain ⟨v21, h22, hr⟩ := bind_some hr
     refine cl (R_Has_run _ _ _ h22) rfl rfl ?_
     refine rn tk 2 rfl ?_
     refine ac 33 hr rfl (fun c23 hr => ?_) (fun c23 hr => ?_)
     ·
      refine rn tk 5 rfl ?_
      obtain ⟨v24, h25, hr⟩ := bind_some hr
      refine cl (R_At_run _ _ _ h25) rfl rfl ?_
      refine rn tk 6 rfl ?_
      cases hr
      exact ato rfl rfl rfl rfl
     ·
      refine rn tk 8 rfl ?_
      cases hr
      exact atc rfl rfl
   ·
    refine rn tk 2 rfl ?_
    cases hr
    exact ato rfl rfl rfl rfl
  ·
   refine rn tk 9 rfl ?_
   cases hr
   exact kr tk (.inr rfl) rfl rfl
  ·
   refine rn tk 2 rfl ?_
   cases hr
   exact kr tk (.inr rfl) rfl rfl
theorem R_ListFault_run (a0 : TList) (r : TFault) (hr : R_ListFault a0 = some r) : Run Tryz.prog 10 [.agg [.s a0.Address, .s a0.Owner, .bo a0.Open, .l cS a0.Subscribers, .l cS a0.Moderators, .l THeld.pc a0.Held, .i a0.Next]] (.agg [.i r.Code, .i r.Index]) := by
 unfold R_ListFault at hr
 refine rf (fn := Tryz.f10) ⟨Tryz.func10, rfl, by kernel_rfl⟩ rfl (fun _ => rfl) fun g0 hg => ?_
 refine rn tk 11 rfl ?_
 obtain ⟨v1, h2, hr⟩ := bind_some hr
 refine cl (R_AddressOk_run _ _ h2) rfl rfl ?_
 refine rn tk 3 rfl ?_
 refine ac 9 hr rfl (fun c3 hr => ?_) (fun c3 hr => ?_)
 ·
  refine rn tk 2 rfl ?_
  obtain ⟨v4, h5, hr⟩ := bind_some hr
  refine cl (R_At_run _ _ _ h5) rfl rfl ?_
  refine rn tk 5 rfl ?_
  cases hr
  exact kr tk (.inr rfl) rfl rfl
 ·
  refine rn tk 7 rfl ?_
  obtain ⟨v6, h7, hr⟩ := bind_some hr
  refine cl (R_AddressOk_run _ _ h7) rfl rfl ?_
  refine rn tk 3 rfl ?_
  refine ac 14 hr rfl (fun c8 hr => ?_) (fun c8 hr => ?_)
  ·
   refine rn tk 2 rfl ?_
   obtain ⟨v9, h10, hr⟩ := bind_some hr
   refine cl (R_At_run _ _ _ h10) rfl rfl ?_
   refine rn tk 5 rfl ?_
   cases hr
   exact kr tk (.inr rfl) rfl rfl
  ·
   refine rn tk 6 rfl ?_
   obtain ⟨v11, h12, hr⟩ := bind_some hr
   refine cl (R_membersFault_run _ _ _ h12) rfl rfl ?_
   refine rn tk 4 rfl ?_
   refine jb hr (fun j13 => [(1, .ptr 1 0), (2, .ptr 2 0), (3, .ptr 3 0)]) (fun j13 => [(3, .cells [.i j13.1, .i j13.2]), (2, .cells [.i 0, .i 0]), (1, .cells [.s a0.Address, .s a0.Owner, .bo a0.Open, .l cS a0.Subscribers, .l cS a0.Moderators, .l THeld.pc a0.Held, .i a0.Next])]) (fun j13 hr => ?_) (fun j13 hr => ?_)
   ·
    refine rn tk 7 rfl ?_
    refine ac 21 hr rfl (fun c14 hr => ?_) (fun c14 hr => ?_)
    ·
     refine rn tk 3 rfl ?_
     obtain ⟨v15, h16, hr⟩ := bind_some hr
     refine cl (R_membersFault_run _ _ _ h16) rfl rfl ?_
     refine rn tk 2 rfl ?_
     cases hr
     exact jn _ rfl rfl rfl
    ·
     refine rn tk 1 rfl ?_
     cases hr
     exact jn _ rfl rfl rfl
   ·
    refine rn tk 8 rfl ?_
    refine ac 27 hr rfl (fun c17 hr => ?_) (fun c17 hr => ?_)
    ·
     refine rn tk 8 rfl ?_
     cases hr
     exact kr tk (.inr rfl) rfl rfl
    ·
     refine rn tk 7 rfl ?_
     refine wn tk rfl rfl rfl ?_
     refine rn tk 3 rfl ?_
     refine ac 32 hr rfl (fun c18 hr => ?_) (fun c18 hr => ?_)
     ·
      refine rn tk 2 rfl ?_
      obtain ⟨v19, h20, hr⟩ := bind_some hr
      refine cl (R_At_run _ _ _ h20) rfl rfl ?_
      refine rn tk 5 rfl ?_
      cases hr
      exact kr tk (.inr rfl) rfl rfl
     ·
      refine rn tk 7 rfl ?_
      obtain ⟨v21, h22, hr⟩ := bind_some hr
      refine cl (R_In_run _ _ _ _ h22) rfl rfl ?_
      refine rn tk 3 rfl ?_
      refine ac 37 hr rfl (fun c23 hr => ?_) (fun c23 hr => ?_)
      ·
       refine rn tk 2 rfl ?_
       obtain ⟨v24, h25, hr⟩ := bind_some hr
       refine cl (R_At_run _ _ _ h25) rfl rfl ?_
       refine rn tk 5 rfl ?_
       cases hr
       exact kr tk (.inr rfl) rfl rfl
      ·
       refine rn tk 14 rfl ?_
       refine al2 hr (fun s26 => [(1, .ptr 1 0), (2, .ptr 2 0), (3, .ptr 3 0), (4, .i s26.1), (5, .i s26.2)]) (fun s26 => [(3, .cells [.i j13.1, .i j13.2]), (2, .cells [.i 0, .i 0]), (1, .cells [.s a0.Address, .s a0.Owner, .bo a0.Open, .l cS a0.Subscribers, .l cS a0.Moderators, .l THeld.pc a0.Held, .i a0.Next])]) (.exit 0) (fun b27 => [(2, .ptr 2 0), (3, .ptr 3 0)]) (fun b27 => [(3, .cells [.i j13.1, .i j13.2]), (2, .cells [.i 0, .i 0])]) .ret (fun b28 => [(2, .ptr 2 0)]) (fun b28 => [(2, .cells [.i b28.Code, .i b28.Index])]) rfl rfl (fun s26 x30 hr => ?_) (fun b27 hr => ?_) (fun b28 hr => ?_)
       ·
        unfold R_ListFault_l1 at hr
        refine rn tk 6 rfl ?_
        refine wn tk rfl rfl rfl ?_
        refine rn tk 3 rfl ?_
        refine ac 43 hr rfl (fun c31 hr => ?_) (fun c31 hr => ?_)
        ·
         refine rn tk 6 rfl ?_
         obtain ⟨v32, h33, hr⟩ := bind_some hr
         refine dr 11 [(56, .i ((w64 (a0.Next - 1)))), (55, .i a0.Next), (54, .ptr 1 6), (53, .i ((w64 (s26.1 + 1)))), (52, .i s26.1), (51, .i v32.Number), (50, .ep [pI v32.Number, pS v32.Mail.Envelope.From, pL TRecipient.pc v32.Mail.Envelope.To, pS v32.Mail.Envelope.Id, pL TField.pc v32.Mail.Message.Fields, pL cU v32.Mail.Message.Body]), (49, .ep [pI v32.Number, pS v32.Mail.Envelope.From, pL TRecipient.pc v32.Mail.Envelope.To, pS v32.Mail.Envelope.Id, pL TField.pc v32.Mail.Message.Fields, pL cU v32.Mail.Message.Body]), (48, .i s26.2), (47, .l THeld.pc a0.Held), (46, .ptr 1 5)] mixed (by kernel_rfl) rfl rfl (pq tk rfl (.plain rfl) (pq tk rfl (.plain rfl) (pq tk rfl (.plain rfl) (.run (.plain rfl) (opG_q (ev_idx (f := THeld.pc) rfl rfl ty_s_api_Held ty_api_Held rfl h33)) (pq tk rfl (.plain rfl) (pq tk rfl (.plain rfl) (pq tk rfl (.plain rfl) (pq tk rfl (.plain rfl) (pq tk rfl (.plain rfl) (pq tk rfl (.plain rfl) (pq tk rfl (.plain rfl) .nil))))))))))) rfl ?_
         obtain ⟨v34, h35, hr⟩ := bind_some hr
         refine cl (R_In_run _ _ _ _ h35) rfl rfl ?_
         refine rn tk 3 rfl ?_
         refine ac 58 hr rfl (fun c36 hr => ?_) (fun c36 hr => ?_)
         ·
          refine rn tk 4 rfl ?_
          obtain ⟨v37, h38, hr⟩ := bind_some hr
          refine cl (R_At_run _ _ _ h38) rfl rfl ?_
          refine rn tk 7 rfl ?_
          cases hr
          exact ato rfl rfl rfl rfl
         ·
          refine rn tk 7 rfl ?_
          obtain ⟨v39, h40, hr⟩ := bind_some hr
          refine wi tk h40 rfl rfl rfl rfl rfl ?_
          refine rn tk 10 rfl ?_
          obtain ⟨v41, h42, hr⟩ := bind_some hr
          refine wi tk h42 rfl rfl rfl rfl rfl ?_
          refine rn tk 2 rfl ?_
          obtain ⟨v43, h44, hr⟩ := bind_some hr
          refine cl (R_MailFault_run _ _ h44) rfl rfl ?_
          refine rn tk 4 rfl ?_
          refine ac 76 hr rfl (fun c45 hr => ?_) (fun c45 hr => ?_)
          ·
           refine rn tk 5 rfl ?_
           obtain ⟨v46, h47, hr⟩ := bind_some hr
           refine wi tk h47 rfl rfl rfl rfl rfl ?_
           refine rn tk 2 rfl ?_
           obtain ⟨v48, h49, hr⟩ := bind_some hr
           refine cl (R_MailFault_run _ _ h49) rfl rfl ?_
           refine rn tk 3 rfl ?_
           obtain ⟨v50, h51, hr⟩ := bind_some hr
           refine cl (R_At_run _ _ _ h51) rfl rfl ?_
           refine rn tk 6 rfl ?_
           cases hr
           exact ato rfl rfl rfl rfl
          ·
           refine rn tk 8 rfl ?_
           cases hr
           exact atc rfl rfl
        ·
         refine rn tk 2 rfl ?_
         cases hr
         exact ato rfl rfl rfl rfl
       ·
        refine rn tk 9 rfl ?_
        cases hr
        exact kr tk (.inr rfl) rfl rfl
       ·
        refine rn tk 2 rfl ?_
        cases hr
        exact kr tk (.inr rfl) rfl rfl
theorem R_SameMessage_run (a0 : TMessage) (a1 : TMessage) (r : Bool) (hr : R_SameMessage a0 a1 = some r) : Run Tryz.prog 70 [.agg [.l TField.pc a0.Fields, .l cU a0.Body], .agg [.l TField.pc a1.Fields, .l cU a1.Body]] (.bo r) := by
 unfold R_SameMessage at hr
 refine rf (fn := Tryz.f70) ⟨Tryz.func70, rfl, by kernel_rfl⟩ rfl (fun _ => rfl) fun g0 hg => ?_
 refine rn tk 8 rfl ?_
 refine jb hr (fun j1 => [(2, .ptr 2 0), (3, .ptr 3 0), (21, .bo j1)]) (fun j1 => [(3, .cells [.l TField.pc a1.Fields, .l cU a1.Body]), (2, .cells [.l TField.pc a0.Fields, .l cU a0.Body])]) (fun j1 hr => ?_) (fun j1 hr => ?_)
 ·
  refine rn tk 3 rfl ?_
  refine wn tk rfl rfl rfl ?_
  refine rn tk 2 rfl ?_
  refine wn tk rfl rfl rfl ?_
  refine rn tk 2 rfl ?_
  refine bs 13 hr rfl (fun c2 hr => ?_) (fun c2 hr => ?_)
  ·
   refine rn tk 9 rfl ?_
   cases hr
   exact jn _ rfl rfl rfl
  ·
   refine rn tk 2 rfl ?_
   refine ug rfl rfl rfl ?_
   refine wb tk rfl rfl rfl ?_
   refine rn tk 2 rfl ?_
   refine ug rfl rfl rfl ?_
   refine wb tk rfl rfl rfl ?_
   refine rn tk 3 rfl ?_
   cases hr
   exact jn _ rfl rfl rfl
 ·
  refine ac 21 hr rfl (fun c3 hr => ?_) (fun c3 hr => ?_)
  ·
   refine rn tk 7 rfl ?_
   cases hr
   exact kr tk (.inr rfl) rfl rfl
  ·
   refine rn tk 9 rfl ?_
   refine al2 hr (fun s4 => [(2, .ptr 2 0), (3, .ptr 3 0), (5, .i s4)]) (fun s4 => [(3, .cells [.l TField.pc a1.Fields, .l cU a1.Body]), (2, .cells [.l TField.pc a0.Fields, .l cU a0.Body])]) (.exit 0) (fun b5 => []) (fun b5 => []) .ret (fun b6 => [(4, .bo b6)]) (fun b6 => []) rfl rfl (fun s4 x8 hr => ?_) (fun b5 hr => ?_) (fun b6 hr => ?_)
   ·
    unfold R_SameMessage_l1 at hr
    refine rn tk 6 rfl ?_
    refine wn tk rfl rfl rfl ?_
    refine rn tk 3 rfl ?_
    refine ac 26 hr rfl (fun c9 hr => ?_) (fun c9 hr => ?_)
    ·
     refine rn tk 5 rfl ?_
     obtain ⟨v10, h11, hr⟩ := bind_some hr
     obtain ⟨v12, h13, hr⟩ := bind_some hr
     refine dr 10 [(38, .agg [.s v12.Name, .s v12.Value]), (37, .ep [pS v12.Name, pS v12.Value]), (36, .i s4), (35, .l TField.pc a1.Fields), (34, .ptr 3 0), (33, .agg [.s v10.Name, .s v10.Value]), (32, .ep [pS v10.Name, pS v10.Value]), (31, .i s4), (30, .l TField.pc a0.Fields), (29, .ptr 2 0)] mixed (by kernel_rfl) rfl rfl (pq tk rfl (.plain rfl) (pq tk rfl (.plain rfl) (pq tk rfl (.plain rfl) (.run (.plain rfl) (opG_q (ev_idx (f := TField.pc) rfl rfl ty_s_api_Field ty_api_Field rfl h11)) (pq tk rfl (.plain rfl) (pq tk rfl (.plain rfl) (pq tk rfl (.plain rfl) (pq tk rfl (.plain rfl) (.run (.plain rfl) (opG_q (ev_idx (f := TField.pc) rfl rfl ty_s_api_Field ty_api_Field rfl h13)) (pq tk rfl (.plain rfl) .nil)))))))))) rfl ?_
     refine wq (ev_structne rfl rfl ty_api_Field cmp_api_Field (.str rfl (by decide) ty_string (.str rfl (by decide) ty_string .nil))) rfl rfl rfl ?_
     refine rn tk 2 rfl ?_
     refine ac 39 hr rfl (fun c14 hr => ?_) (fun c14 hr => ?_)
     ·
      refine rn tk 8 rfl ?_
      cases hr
      exact ato rfl rfl rfl rfl
     ·
      refine rn tk 8 rfl ?_
      cases hr
      exact atc rfl rfl
    ·
     refine rn tk 2 rfl ?_
     cases hr
     exact ato rfl rfl rfl rfl
   ·
    refine rn tk 8 rfl ?_
    cases hr
    exact kr tk (.inr rfl) rfl rfl
   ·
    refine rn tk 2 rfl ?_
    cases hr
    exact kr tk (.inr rfl) rfl rfl
theorem R_SameMail_run (a0 : TMail) (a1 : TMail) (r : Bool) (hr : R_SameMail a0 a1 = some r) : Run Tryz.prog 43 [.agg [.s a0.Envelope.From, .l TRecipient.pc a0.Envelope.To, .s a0.Envelope.Id, .l TField.pc a0.Message.Fields, .l cU a0.Message.Body], .agg [.s a1.Envelope.From, .l TRecipient.pc a1.Envelope.To, .s a1.Envelope.Id, .l TField.pc a1.Message.Fields, .l cU a1.Message.Body]] (.bo r) := by
 unfold R_SameMail at hr
 refine rf (fn := Tryz.f43) ⟨Tryz.func43, rfl, by kernel_rfl⟩ rfl (fun _ => rfl) fun g0 hg => ?_
 refine rn tk 8 rfl ?_
 refine jb hr (fun j1 => [(2, .ptr 2 0), (3, .ptr 3 0), (32, .bo j1)]) (fun j1 => [(3, .cells [.s a1.Envelope.From, .l TRecipient.pc a1.Envelope.To, .s a1.Envelope.Id, .l TField.pc a1.Message.Fields, .l cU a1.Message.Body]), (2, .cells [.s a0.Envelope.From, .l TRecipient.pc a0.Envelope.To, .s a0.Envelope.Id, .l TField.pc a0.Message.Fields, .l cU a0.Message.Body])]) (fun j1 hr => ?_) (fun j1 hr => ?_)
 ·
  refine rn tk 9 rfl ?_
  refine bs 13 hr rfl (fun c2 hr => ?_) (fun c2 hr => ?_)
  ·
   refine rn tk 20 rfl ?_
   cases hr
   exact jn _ rfl rfl rfl
  ·
   refine rn tk 9 rfl ?_
   refine bs 22 hr rfl (fun c3 hr => ?_) (fun c3 hr => ?_)
   ·
    refine rn tk 11 rfl ?_
    cases hr
    exact jn _ rfl rfl rfl
   ·
    refine rn tk 3 rfl ?_
    refine ug rfl rfl rfl ?_
    refine wn tk rfl rfl rfl ?_
    refine rn tk 3 rfl ?_
    refine ug rfl rfl rfl ?_
    refine wn tk rfl rfl rfl ?_
    refine rn tk 3 rfl ?_
    cases hr
    exact jn _ rfl rfl rfl
 ·
  refine ac 32 hr rfl (fun c4 hr => ?_) (fun c4 hr => ?_)
  ·
   refine rn tk 7 rfl ?_
   cases hr
   exact kr tk (.inr rfl) rfl rfl
  ·
   refine rn tk 9 rfl ?_
   refine al2 hr (fun s5 => [(2, .ptr 2 0), (3, .ptr 3 0), (5, .i s5)]) (fun s5 => [(3, .cells [.s a1.Envelope.From, .l TRecipient.pc a1.Envelope.To, .s a1.Envelope.Id, .l TField.pc a1.Message.Fields, .l cU a1.Message.Body]), (2, .cells [.s a0.Envelope.From, .l TRecipient.pc a0.Envelope.To, .s a0.Envelope.Id, .l TField.pc a0.Message.Fields, .l cU a0.Message.Body])]) (.exit 0) (fun b6 => [(2, .ptr 2 0), (3, .ptr 3 0)]) (fun b6 => [(3, .cells [.s a1.Envelope.From, .l TRecipient.pc a1.Envelope.To, .s a1.Envelope.Id, .l TField.pc a1.Message.Fields, .l cU a1.Message.Body]), (2, .cells [.s a0.Envelope.From, .l TRecipient.pc a0.Envelope.To, .s a0.Envelope.Id, .l TField.pc a0.Message.Fields, .l cU a0.Message.Body])]) .ret (fun b7 => [(4, .bo b7)]) (fun b7 => []) rfl rfl (fun s5 x9 hr => ?_) (fun b6 hr => ?_) (fun b7 hr => ?_)
   ·
    unfold R_SameMail_l1 at hr
    refine rn tk 7 rfl ?_
    refine wn tk rfl rfl rfl ?_
    refine rn tk 3 rfl ?_
    refine ac 38 hr rfl (fun c10 hr => ?_) (fun c10 hr => ?_)
    ·
     refine rn tk 5 rfl ?_
     obtain ⟨v11, h12, hr⟩ := bind_some hr
     obtain ⟨v13, h14, hr⟩ := bind_some hr
     refine dr 12 [(52, .agg [.s v13.Address, .i v13.Notify]), (51, .ep [pS v13.Address, pI v13.Notify]), (50, .i s5), (49, .l TRecipient.pc a1.Envelope.To), (48, .ptr 3 1), (47, .ptr 3 0), (46, .agg [.s v11.Address, .i v11.Notify]), (45, .ep [pS v11.Address, pI v11.Notify]), (44, .i s5), (43, .l TRecipient.pc a0.Envelope.To), (42, .ptr 2 1), (41, .ptr 2 0)] mixed (by kernel_rfl) rfl rfl (pq tk rfl (.plain rfl) (pq tk rfl (.plain rfl) (pq tk rfl (.plain rfl) (pq tk rfl (.plain rfl) (.run (.plain rfl) (opG_q (ev_idx (f := TRecipient.pc) rfl rfl ty_s_api_Recipient ty_api_Recipient rfl h12)) (pq tk rfl (.plain rfl) (pq tk rfl (.plain rfl) (pq tk rfl (.plain rfl) (pq tk rfl (.plain rfl) (pq tk rfl (.plain rfl) (.run (.plain rfl) (opG_q (ev_idx (f := TRecipient.pc) rfl rfl ty_s_api_Recipient ty_api_Recipient rfl h14)) (pq tk rfl (.plain rfl) .nil)))))))))))) rfl ?_
     refine wq (ev_structne rfl rfl ty_api_Recipient cmp_api_Recipient (.str rfl (by decide) ty_string (.int rfl (by decide) ty_int .nil))) rfl rfl rfl ?_
     refine rn tk 2 rfl ?_
     refine ac 53 hr rfl (fun c15 hr => ?_) (fun c15 hr => ?_)
     ·
      refine rn tk 8 rfl ?_
      cases hr
      exact ato rfl rfl rfl rfl
     ·
      refine rn tk 8 rfl ?_
      cases hr
      exact atc rfl rfl
    ·
     refine rn tk 2 rfl ?_
     cases hr
     exact ato rfl rfl rfl rfl
   ·
    refine rn tk 8 rfl ?_
    obtain ⟨v16, h17, hr⟩ := bind_some hr
    refine cl (R_SameMessage_run _ _ _ h17) rfl rfl ?_
    refine rn tk 4 rfl ?_
    cases hr
    exact kr tk (.inr rfl) rfl rfl
   ·
    refine rn tk 2 rfl ?_
    cases hr
    exact kr tk (.inr rfl) rfl rfl
theorem R_Strings_run (a0 : List Str) (a1 : List Str) (r : Bool) (hr : R_Strings a0 a1 = some r) : Run Tryz.prog 42 [.l cS a0, .l cS a1] (.bo r) := by
 unfold R_Strings at hr
 refine rf (fn := Tryz.f42) ⟨Tryz.func42, rfl, by kernel_rfl⟩ rfl (fun _ => rfl) fun g0 hg => ?_
 refine rn tk 9 rfl ?_
 refine wn tk rfl rfl rfl ?_
 refine rn tk 1 rfl ?_
 refine wn tk rfl rfl rfl ?_
 refine rn tk 3 rfl ?_
 refine ac 10 hr rfl (fun c1 hr => ?_) (fun c1 hr => ?_)
 ·
  refine rn tk 7 rfl ?_
  cases hr
  exact kr tk (.inr rfl) rfl rfl
 ·
  refine rn tk 9 rfl ?_
  refine al2 hr (fun s2 => [(0, .l cS a0), (1, .l cS a1), (5, .i s2)]) (fun s2 => []) (.exit 0) (fun b3 => []) (fun b3 => []) .ret (fun b4 => [(4, .bo b4)]) (fun b4 => []) rfl rfl (fun s2 x6 hr => ?_) (fun b3 hr => ?_) (fun b4 hr => ?_)
  ·
   unfold R_Strings_l1 at hr
   refine rn tk 5 rfl ?_
   refine wn tk rfl rfl rfl ?_
   refine rn tk 3 rfl ?_
   refine ac 14 hr rfl (fun c7 hr => ?_) (fun c7 hr => ?_)
   ·
    refine rn tk 5 rfl ?_
    obtain ⟨v8, h9, hr⟩ := bind_some hr
    obtain ⟨v10, h11, hr⟩ := bind_some hr
    refine dr 8 [(24, .s v10), (23, .ep [pS v10]), (22, .i s2), (21, .l cS a1), (20, .s v8), (19, .ep [pS v8]), (18, .i s2), (17, .l cS a0)] mixed (by kernel_rfl) rfl rfl (pq tk rfl (.plain rfl) (pq tk rfl (.plain rfl) (.run (.plain rfl) (opG_q (ev_idx (f := cS) rfl rfl ty_s_string ty_string rfl h9)) (pq tk rfl (.plain rfl) (pq tk rfl (.plain rfl) (pq tk rfl (.plain rfl) (.run (.plain rfl) (opG_q (ev_idx (f := cS) rfl rfl ty_s_string ty_string rfl h11)) (pq tk rfl (.plain rfl) .nil)))))))) rfl ?_
    refine rn tk 3 rfl ?_
    refine ac 25 hr rfl (fun c12 hr => ?_) (fun c12 hr => ?_)
    ·
     refine rn tk 8 rfl ?_
     cases hr
     exact ato rfl rfl rfl rfl
    ·
     refine rn tk 8 rfl ?_
     cases hr
     exact atc rfl rfl
   ·
    refine rn tk 2 rfl ?_
    cases hr
    exact ato rfl rfl rfl rfl
  ·
   refine rn tk 8 rfl ?_
   cases hr
   exact kr tk (.inr rfl) rfl rfl
  ·
   refine rn tk 2 rfl ?_
   cases hr
   exact kr tk (.inr rfl) rfl rfl
theorem R_SameList_run (a0 : TList) (a1 : TList) (r : Bool) (hr : R_SameList a0 a1 = some r) : Run Tryz.prog 11 [.agg [.s a0.Address, .s a0.Owner, .bo a0.Open, .l cS a0.Subscribers, .l cS a0.Moderators, .l THeld.pc a0.Held, .i a0.Next], .agg [.s a1.Address, .s a1.Owner, .bo a1.Open, .l cS a1.Subscribers, .l cS a1.Moderators, .l THeld.pc a1.Held, .i a1.Next]] (.bo r) := by
 unfold R_SameList at hr
 refine rf (fn := Tryz.f11) ⟨Tryz.func11, rfl, by kernel_rfl⟩ rfl (fun _ => rfl) fun g0 hg => ?_
 refine rn tk 8 rfl ?_
 refine jb hr (fun j1 => [(2, .ptr 2 0), (3, .ptr 3 0), (56, .bo j1)]) (fun j1 => [(3, .cells [.s a1.Address, .s a1.Owner, .bo a1.Open, .l cS a1.Subscribers, .l cS a1.Moderators, .l THeld.pc a1.Held, .i a1.Next]), (2, .cells [.s a0.Address, .s a0.Owner, .bo a0.Open, .l cS a0.Subscribers, .l cS a0.Moderators, .l THeld.pc a0.Held, .i a0.Next])]) (fun j1 hr => ?_) (fun j1 hr => ?_)
 ·
  refine rn tk 7 rfl ?_
  refine bs 11 hr rfl (fun c2 hr => ?_) (fun c2 hr => ?_)
  ·
   refine rn tk 46 rfl ?_
   cases hr
   exact jn _ rfl rfl rfl
  ·
   refine rn tk 7 rfl ?_
   refine bs 18 hr rfl (fun c3 hr => ?_) (fun c3 hr => ?_)
   ·
    refine rn tk 39 rfl ?_
    cases hr
    exact jn _ rfl rfl rfl
   ·
    refine rn tk 7 rfl ?_
    refine bs 25 hr rfl (fun c4 hr => ?_) (fun c4 hr => ?_)
    ·
     refine rn tk 32 rfl ?_
     cases hr
     exact jn _ rfl rfl rfl
    ·
     refine rn tk 7 rfl ?_
     refine bs 32 hr rfl (fun c5 hr => ?_) (fun c5 hr => ?_)
     ·
      refine rn tk 25 rfl ?_
      cases hr
      exact jn _ rfl rfl rfl
     ·
      refine rn tk 4 rfl ?_
      obtain ⟨v6, h7, hr⟩ := bind_some hr
      refine ug rfl rfl rfl ?_
      refine cl (R_Strings_run _ _ _ h7) rfl rfl ?_
      refine rn tk 3 rfl ?_
      refine bs 40 hr rfl (fun c8 hr => ?_) (fun c8 hr => ?_)
      ·
       refine rn tk 17 rfl ?_
       cases hr
       exact jn _ rfl rfl rfl
      ·
       refine rn tk 4 rfl ?_
       obtain ⟨v9, h10, hr⟩ := bind_some hr
       refine ug rfl rfl rfl ?_
       refine cl (R_Strings_run _ _ _ h10) rfl rfl ?_
       refine rn tk 3 rfl ?_
       refine bs 48 hr rfl (fun c11 hr => ?_) (fun c11 hr => ?_)
       ·
        refine rn tk 9 rfl ?_
        cases hr
        exact jn _ rfl rfl rfl
       ·
        refine rn tk 2 rfl ?_
        refine ug rfl rfl rfl ?_
        refine wn tk rfl rfl rfl ?_
        refine rn tk 2 rfl ?_
        refine ug rfl rfl rfl ?_
        refine wn tk rfl rfl rfl ?_
        refine rn tk 3 rfl ?_
        cases hr
        exact jn _ rfl rfl rfl
 ·
  refine ac 56 hr rfl (fun c12 hr => ?_) (fun c12 hr => ?_)
  ·
   refine rn tk 7 rfl ?_
   cases hr
   exact kr tk (.inr rfl) rfl rfl
  ·
   refine rn tk 9 rfl ?_
   refine al2 hr (fun s13 => [(2, .ptr 2 0), (3, .ptr 3 0), (5, .i s13)]) (fun s13 => [(3, .cells [.s a1.Address, .s a1.Owner, .bo a1.Open, .l cS a1.Subscribers, .l cS a1.Moderators, .l THeld.pc a1.Held, .i a1.Next]), (2, .cells [.s a0.Address, .s a0.Owner, .bo a0.Open, .l cS a0.Subscribers, .l cS a0.Moderators, .l THeld.pc a0.Held, .i a0.Next])]) (.exit 0) (fun b14 => []) (fun b14 => []) .ret (fun b15 => [(4, .bo b15)]) (fun b15 => []) rfl rfl (fun s13 x17 hr => ?_) (fun b14 hr => ?_) (fun b15 hr => ?_)
   ·
    unfold R_SameList_l1 at hr
    refine rn tk 6 rfl ?_
    refine wn tk rfl rfl rfl ?_
    refine rn tk 3 rfl ?_
    refine ac 61 hr rfl (fun c18 hr => ?_) (fun c18 hr => ?_)
    ·
     refine rn tk 4 rfl ?_
     refine jb hr (fun j19 => [(2, .ptr 2 0), (3, .ptr 3 0), (5, .i s13), (92, .bo j19)]) (fun j19 => [(3, .cells [.s a1.Address, .s a1.Owner, .bo a1.Open, .l cS a1.Subscribers, .l cS a1.Moderators, .l THeld.pc a1.Held, .i a1.Next]), (2, .cells [.s a0.Address, .s a0.Owner, .bo a0.Open, .l cS a0.Subscribers, .l cS a0.Moderators, .l THeld.pc a0.Held, .i a0.Next])]) (fun j19 hr => ?_) (fun j19 hr => ?_)
     ·
      obtain ⟨v20, h21, hr⟩ := bind_some hr
      obtain ⟨v22, h23, hr⟩ := bind_some hr
      refine bool_split ((v20.Number != v22.Number)) (fun c24 => ?_) (fun c24 => ?_)
      ·
       replace hr := cond_t c24 hr
       refine dr 26 [(89, .tup []), (88, .tup []), (87, .tup []), (86, .tup []), (85, .tup []), (84, .tup []), (83, .tup []), (82, .tup []), (81, .tup []), (80, .tup []), (79, .tup []), (78, .tup []), (77, .bo ((v20.Number != v22.Number))), (76, .bo ((v20.Number != v22.Number))), (75, .i v22.Number), (74, .ep [pI v22.Number, pS v22.Mail.Envelope.From, pL TRecipient.pc v22.Mail.Envelope.To, pS v22.Mail.Envelope.Id, pL TField.pc v22.Mail.Message.Fields, pL cU v22.Mail.Message.Body]), (73, .ep [pI v22.Number, pS v22.Mail.Envelope.From, pL TRecipient.pc v22.Mail.Envelope.To, pS v22.Mail.Envelope.Id, pL TField.pc v22.Mail.Message.Fields, pL cU v22.Mail.Message.Body]), (72, .i s13), (71, .l THeld.pc a1.Held), (70, .ptr 3 5), (69, .i v20.Number), (68, .ep [pI v20.Number, pS v20.Mail.Envelope.From, pL TRecipient.pc v20.Mail.Envelope.To, pS v20.Mail.Envelope.Id, pL TField.pc v20.Mail.Message.Fields, pL cU v20.Mail.Message.Body]), (67, .ep [pI v20.Number, pS v20.Mail.Envelope.From, pL TRecipient.pc v20.Mail.Envelope.To, pS v20.Mail.Envelope.Id, pL TField.pc v20.Mail.Message.Fields, pL cU v20.Mail.Message.Body]), (66, .i s13), (65, .l THeld.pc a0.Held), (64, .ptr 2 5)] mixed (by kernel_rfl) rfl rfl (pq tk rfl (.plain rfl) (pq tk rfl (.plain rfl) (pq tk rfl (.plain rfl) (.run (.plain rfl) (opG_q (ev_idx (f := THeld.pc) rfl rfl ty_s_api_Held ty_api_Held rfl h21)) (pq tk rfl (.plain rfl) (pq tk rfl (.plain rfl) (pq tk rfl (.plain rfl) (pq tk rfl (.plain rfl) (pq tk rfl (.plain rfl) (.run (.plain rfl) (opG_q (ev_idx (f := THeld.pc) rfl rfl ty_s_api_Held ty_api_Held rfl h23)) (pq tk rfl (.plain rfl) (pq tk rfl (.plain rfl) (pq tk rfl (.plain rfl) (pq tk rfl (.plain rfl) (.skip (.no (d := 77) rfl rfl rfl c24) (.skip (.no (d := 77) rfl rfl rfl c24) (.skip (.no (d := 77) rfl rfl rfl c24) (.skip (.no (d := 77) rfl rfl rfl c24) (.skip (.no (d := 77) rfl rfl rfl c24) (.skip (.no (d := 77) rfl rfl rfl c24) (.skip (.no (d := 77) rfl rfl rfl c24) (.skip (.no (d := 77) rfl rfl rfl c24) (.skip (.no (d := 77) rfl rfl rfl c24) (.skip (.no (d := 77) rfl rfl rfl c24) (.skip (.no (d := 77) rfl rfl rfl c24) (.skip (.no (d := 77) rfl rfl rfl c24) .nil)))))))))))))))))))))))))) rfl ?_
       refine kn 77 c24 rfl ?_
       refine rn tk 4 rfl ?_
       cases hr
       exact jn _ rfl rfl rfl
      ·
       replace hr := cond_f c24 hr
       obtain ⟨v25, h26, hr⟩ := bind_some hr
       obtain ⟨v27, h28, hr⟩ := bind_some hr
       refine dr 26 [(89, .agg [.s v27.Mail.Envelope.From, .l TRecipient.pc v27.Mail.Envelope.To, .s v27.Mail.Envelope.Id, .l TField.pc v27.Mail.Message.Fields, .l cU v27.Mail.Message.Body]), (88, .ep [pS v27.Mail.Envelope.From, pL TRecipient.pc v27.Mail.Envelope.To, pS v27.Mail.Envelope.Id, pL TField.pc v27.Mail.Message.Fields, pL cU v27.Mail.Message.Body]), (87, .ep [pI v27.Number, pS v27.Mail.Envelope.From, pL TRecipient.pc v27.Mail.Envelope.To, pS v27.Mail.Envelope.Id, pL TField.pc v27.Mail.Message.Fields, pL cU v27.Mail.Message.Body]), (86, .i s13), (85, .l THeld.pc a1.Held), (84, .ptr 3 5), (83, .agg [.s v25.Mail.Envelope.From, .l TRecipient.pc v25.Mail.Envelope.To, .s v25.Mail.Envelope.Id, .l TField.pc v25.Mail.Message.Fields, .l cU v25.Mail.Message.Body]), (82, .ep [pS v25.Mail.Envelope.From, pL TRecipient.pc v25.Mail.Envelope.To, pS v25.Mail.Envelope.Id, pL TField.pc v25.Mail.Message.Fields, pL cU v25.Mail.Message.Body]), (81, .ep [pI v25.Number, pS v25.Mail.Envelope.From, pL TRecipient.pc v25.Mail.Envelope.To, pS v25.Mail.Envelope.Id, pL TField.pc v25.Mail.Message.Fields, pL cU v25.Mail.Message.Body]), (80, .i s13), (79, .l THeld.pc a0.Held), (78, .ptr 2 5), (77, .bo ((v20.Number != v22.Number))), (76, .bo ((v20.Number != v22.Number))), (75, .i v22.Number), (74, .ep [pI v22.Number, pS v22.Mail.Envelope.From, pL TRecipient.pc v22.Mail.Envelope.To, pS v22.Mail.Envelope.Id, pL TField.pc v22.Mail.Message.Fields, pL cU v22.Mail.Message.Body]), (73, .ep [pI v22.Number, pS v22.Mail.Envelope.From, pL TRecipient.pc v22.Mail.Envelope.To, pS v22.Mail.Envelope.Id, pL TField.pc v22.Mail.Message.Fields, pL cU v22.Mail.Message.Body]), (72, .i s13), (71, .l THeld.pc a1.Held), (70, .ptr 3 5), (69, .i v20.Number), (68, .ep [pI v20.Number, pS v20.Mail.Envelope.From, pL TRecipient.pc v20.Mail.Envelope.To, pS v20.Mail.Envelope.Id, pL TField.pc v20.Mail.Message.Fields, pL cU v20.Mail.Message.Body]), (67, .ep [pI v20.Number, pS v20.Mail.Envelope.From, pL TRecipient.pc v20.Mail.Envelope.To, pS v20.Mail.Envelope.Id, pL TField.pc v20.Mail.Message.Fields, pL cU v20.Mail.Message.Body]), (66, .i s13), (65, .l THeld.pc a0.Held), (64, .ptr 2 5)] mixed (by kernel_rfl) rfl rfl (pq tk rfl (.plain rfl) (pq tk rfl (.plain rfl) (pq tk rfl (.plain rfl) (.run (.plain rfl) (opG_q (ev_idx (f := THeld.pc) rfl rfl ty_s_api_Held ty_api_Held rfl h21)) (pq tk rfl (.plain rfl) (pq tk rfl (.plain rfl) (pq tk rfl (.plain rfl) (pq tk rfl (.plain rfl) (pq tk rfl (.plain rfl) (.run (.plain rfl) (opG_q (ev_idx (f := THeld.pc) rfl rfl ty_s_api_Held ty_api_Held rfl h23)) (pq tk rfl (.plain rfl) (pq tk rfl (.plain rfl) (pq tk rfl (.plain rfl) (pq tk rfl (.plain rfl) (pq tk rfl (.yes (d := 77) rfl rfl rfl c24) (pq tk rfl (.yes (d := 77) rfl rfl rfl c24) (pq tk rfl (.yes (d := 77) rfl rfl rfl c24) (.run (.yes (d := 77) rfl rfl rfl c24) (opG_q (ev_idx (f := THeld.pc) rfl rfl ty_s_api_Held ty_api_Held rfl h26)) (pq tk rfl (.yes (d := 77) rfl rfl rfl c24) (pq tk rfl (.yes (d := 77) rfl rfl rfl c24) (pq tk rfl (.yes (d := 77) rfl rfl rfl c24) (pq tk rfl (.yes (d := 77) rfl rfl rfl c24) (pq tk rfl (.yes (d := 77) rfl rfl rfl c24) (.run (.yes (d := 77) rfl rfl rfl c24) (opG_q (ev_idx (f := THeld.pc) rfl rfl ty_s_api_Held ty_api_Held rfl h28)) (pq tk rfl (.yes (d := 77) rfl rfl rfl c24) (pq tk rfl (.yes (d := 77) rfl rfl rfl c24) .nil)))))))))))))))))))))))))) rfl ?_
       refine kn 77 c24 rfl ?_
       obtain ⟨v29, h30, hr⟩ := bind_some hr
       refine ug rfl rfl rfl ?_
       refine cl (R_SameMail_run _ _ _ h30) rfl rfl ?_
       refine rn tk 3 rfl ?_
       cases hr
       exact jn _ rfl rfl rfl
     ·
      refine ac 92 hr rfl (fun c31 hr => ?_) (fun c31 hr => ?_)
      ·
       refine rn tk 8 rfl ?_
       cases hr
       exact ato rfl rfl rfl rfl
      ·
       refine rn tk 8 rfl ?_
       cases hr
       exact atc rfl rfl
    ·
     refine rn tk 2 rfl ?_
     cases hr
     exact ato rfl rfl rfl rfl
   ·
    refine rn tk 8 rfl ?_
    cases hr
    exact kr tk (.inr rfl) rfl rfl
   ·
    refine rn tk 2 rfl ?_
    cases hr
    exact kr tk (.inr rfl) rfl rfl
theorem lists_Unsubscribe_run (a0 : TList) (a1 : Str) (r : TList × TFault) (hr : lists_Unsubscribe a0 a1 = some r) : Run Tryz.prog 17 [.agg [.s a0.Address, .s a0.Owner, .bo a0.Open, .l cS a0.Subscribers, .l cS a0.Moderators, .l THeld.pc a0.Held, .i a0.Next], .s a1] (.tup [.agg [.s r.1.Address, .s r.1.Owner, .bo r.1.Open, .l cS r.1.Subscribers, .l cS r.1.Moderators, .l THeld.pc r.1.Held, .i r.1.Next], .agg [.i r.2.Code, .i r.2.Index]]) := by
 unfold lists_Unsubscribe at hr
 refine rf (fn := Tryz.f17) ⟨Tryz.func17, rfl, by kernel_rfl⟩ rfl (fun _ => rfl) fun g0 hg => ?_
 refine rn tk 11 rfl ?_
 obtain ⟨v1, h2, hr⟩ := bind_some hr
 refine cl (lists_Validate_run _ _ h2) rfl rfl ?_
 refine rn tk 7 rfl ?_
 obtain ⟨v3, h4, hr⟩ := bind_some hr
 refine cl (basic_Failed_run _ _ h4) rfl rfl ?_
 refine rn tk 2 rfl ?_
 refine ac 11 hr rfl (fun c5 hr => ?_) (fun c5 hr => ?_)
 ·
  refine rn tk 1 rfl ?_
  refine drX 2 3 3 3 [1] [(13, .agg [.i v1.Code, .i v1.Index]), (12, .agg [.s (([] : Str)), .s (([] : Str)), .bo false, .pv (.sl (some true) []), .pv (.sl (some true) []), .pv (.sl (some true) []), .i 0])] [(4, .ptr 4 0), (5, .ptr 5 0), (13, .agg [.i v1.Code, .i v1.Index])] [(6, .cells [.i v1.Code, .i v1.Index]), (5, .cells [.i 0, .i 0]), (4, .cells [.s (([] : Str)), .s (([] : Str)), .bo false, .pv (.sl (some true) []), .pv (.sl (some true) []), .pv (.sl (some true) []), .i 0]), (2, .cells [.s a0.Address, .s a0.Owner, .bo a0.Open, .l cS a0.Subscribers, .l cS a0.Moderators, .l THeld.pc a0.Held, .i a0.Next])] tk mixed (by kernel_rfl) rfl rfl rfl (pqX tk rfl (.plain rfl) (pqX tk rfl (.plain rfl) .nil)) rfl rfl rfl rfl (by kernel_rfl) ?_
  refine rn tk 5 rfl ?_
  cases hr
  exact kr tk (.inr rfl) rfl rfl
 ·
  refine rn tk 7 rfl ?_
  obtain ⟨v6, h7, hr⟩ := bind_some hr
  refine cl (slices_Index_string_string_run _ _ _ h7) rfl rfl ?_
  refine rn tk 10 rfl ?_
  refine ac 19 hr rfl (fun c8 hr => ?_) (fun c8 hr => ?_)
  ·
   refine rn tk 3 rfl ?_
   obtain ⟨v9, h10, hr⟩ := bind_some hr
   refine cl (basic_Fault_run _ _ _ h10) rfl rfl ?_
   refine rn tk 6 rfl ?_
   cases hr
   exact kr tk (.inr rfl) rfl rfl
  ·
   refine rn tk 5 rfl ?_
   refine il (fn := Tryz.f26) (args := [.agg [.s a0.Address, .s a0.Owner, .bo a0.Open, .l cS a0.Subscribers, .l cS a0.Moderators, .l THeld.pc a0.Held, .i a0.Next]]) 100000 199999 [(2, .ptr 2 0), (4, .ptr 4 0), (5, .ptr 5 0), (7, .i v6)] rfl ⟨Tryz.func26, rfl, by kernel_rfl⟩ rfl rfl rfl fun T1 ds1 => ?_
   refine rn tk 3 rfl ?_
   refine wo (opTo_alloc (k := 2) 1002 rfl ty_api_List (.inr ⟨rfl, rfl⟩) rfl rfl rfl) rfl ?_
   refine awpl_adoptCM 2002 (o := 1002) (j := 3) 9 1 rfl rfl rfl rfl (hO ?_)
   refine awpl_adoptCM 3002 (o := 1002) (j := 5) 65 6 rfl rfl rfl rfl (hO ?_)
   refine rn tk 3 rfl ?_
   obtain ⟨v11, h12, hr⟩ := bind_some hr
   obtain ⟨v13, h14, hr⟩ := bind_some hr
   obtain ⟨v15, h16, hr⟩ := bind_some hr
   refine drX 10 10 1 1 [] [(13, .ptr 1 3), (12, .hs 1012 0), (11, .l THeld.pc a0.Held), (10, .ptr 1 5), (9, .l cS v13), (8, .l cS a0.Moderators), (7, .ptr 1 4), (6, .hs 1006 0), (5, .l cS a0.Subscribers), (4, .ptr 1 3)] [(1, .ptr 1 0), (2, .ptr 1002 0), (6, .hs 1006 0), (9, .l cS v13), (12, .hs 1012 0), (13, .ptr 1 3)] [(1012, .row 65 true 6 (List.map THeld.pc v15)), (1006, .row 9 true 1 (List.map cS v11)), (3002, .row 65 true 6 (List.map THeld.pc (([] : List THeld)))), (2002, .row 9 true 1 (List.map cS (([] : List Str)))), (1002, .cells [.s (([] : Str)), .s (([] : Str)), .bo false, .hs 2002 0, .pv (.sl (some true) []), .hs 3002 0, .i 0]), (1, .cells [.s a0.Address, .s a0.Owner, .bo a0.Open, .l cS a0.Subscribers, .l cS a0.Moderators, .l THeld.pc a0.Held, .i a0.Next]), (199999, .sus g0.w.heap.size ds1), (100002, .hold (.ptr 2 0) (T1.getD 2 undef)), (100004, .hold (.ptr 4 0) (T1.getD 4 undef)), (100005, .hold (.ptr 5 0) (T1.getD 5 undef)), (100007, .hold (.i v6) (T1.getD 7 undef)), (6, .cells [.i v1.Code, .i v1.Index]), (5, .cells [.i 0, .i 0]), (4, .cells [.s (([] : Str)), .s (([] : Str)), .bo false, .pv (.sl (some true) []), .pv (.sl (some true) []), .pv (.sl (some true) []), .i 0]), (2, .cells [.s a0.Address, .s a0.Owner, .bo a0.Open, .l cS a0.Subscribers, .l cS a0.Moderators, .l THeld.pc a0.Held, .i a0.Next])] tk mixed (by kernel_rfl) rfl rfl rfl (pqX tk rfl (.plain rfl) (pqX tk rfl (.plain rfl) (.new 1006 (.plain rfl) (opNewX_callO 1006 (slices_Clone_string_string_runO a0.Subscribers v11 h12) rfl) (pqX tk rfl (.plain rfl) (pqX tk rfl (.plain rfl) (.run (.plain rfl) (opG_call (slices_Clone_string_string_run a0.Moderators v13 h14) rfl) (pqX tk rfl (.plain rfl) (pqX tk rfl (.plain rfl) (.new 1012 (.plain rfl) (opNewX_callO 1012 (slices_Clone_api_Held_api_Held_runO a0.Held v15 h16) rfl) (pqX tk rfl (.plain rfl) .nil)))))))))) rfl rfl rfl rfl (by kernel_rfl) ?_
   refine rn tk 12 rfl ?_
   refine wnh tk rfl rfl rfl rfl ?_
   refine rn tk 4 rfl ?_
   refine al1 hr (fun s17 => [(1, .ptr 1 0), (2, .ptr 1002 0), (18, .i ((v15.length : Int))), (19, .i s17.1)]) (fun s17 => [(1012, .row 65 true 6 (List.map THeld.pc s17.2)), (1006, .row 9 true 1 (List.map cS v11)), (3002, .row 65 true 6 (List.map THeld.pc (([] : List THeld)))), (2002, .row 9 true 1 (List.map cS (([] : List Str)))), (1002, .cells [.s (([] : Str)), .s (([] : Str)), .bo false, .hs 2002 0, .l cS ([]), .hs 3002 0, .i 0]), (1, .cells [.s a0.Address, .s a0.Owner, .bo a0.Open, .hs 1006 0, .l cS v13, .hs 1012 0, .i a0.Next]), (199999, .sus g0.w.heap.size ds1), (100002, .hold (.ptr 2 0) (T1.getD 2 undef)), (100004, .hold (.ptr 4 0) (T1.getD 4 undef)), (100005, .hold (.ptr 5 0) (T1.getD 5 undef)), (100007, .hold (.i v6) (T1.getD 7 undef)), (5, .cells [.i 0, .i 0]), (4, .cells [.s (([] : Str)), .s (([] : Str)), .bo false, .l cS ([]), .l cS ([]), .l THeld.pc ([]), .i 0]), (2, .cells [.s a0.Address, .s a0.Owner, .bo a0.Open, .l cS a0.Subscribers, .l cS a0.Moderators, .l THeld.pc a0.Held, .i a0.Next])]) (.exit 0) (fun b18 => [(1, .ptr 1 0), (2, .ptr 1002 0)]) (fun b18 => [(1012, .row 65 true 6 (List.map THeld.pc b18)), (1006, .row 9 true 1 (List.map cS v11)), (3002, .row 65 true 6 (List.map THeld.pc (([] : List THeld)))), (2002, .row 9 true 1 (List.map cS (([] : List Str)))), (1002, .cells [.s (([] : Str)), .s (([] : Str)), .bo false, .hs 2002 0, .l cS ([]), .hs 3002 0, .i 0]), (1, .cells [.s a0.Address, .s a0.Owner, .bo a0.Open, .hs 1006 0, .l cS v13, .hs 1012 0, .i a0.Next]), (199999, .sus g0.w.heap.size ds1), (100002, .hold (.ptr 2 0) (T1.getD 2 undef)), (100004, .hold (.ptr 4 0) (T1.getD 4 undef)), (100005, .hold (.ptr 5 0) (T1.getD 5 undef)), (100007, .hold (.i v6) (T1.getD 7 undef)), (5, .cells [.i 0, .i 0]), (4, .cells [.s (([] : Str)), .s (([] : Str)), .bo false, .l cS ([]), .l cS ([]), .l THeld.pc ([]), .i 0]), (2, .cells [.s a0.Address, .s a0.Owner, .bo a0.Open, .l cS a0.Subscribers, .l cS a0.Moderators, .l THeld.pc a0.Held, .i a0.Next])]) rfl rfl (fun s17 x19 hr => ?_) (fun b18 hr => ?_)
   ·
    unfold lists_Unsubscribe_l1 at hr
    refine rn tk 6 rfl ?_
    refine ac 20 hr rfl (fun c20 hr => ?_) (fun c20 hr => ?_)
    ·
     refine rn tk 10 rfl ?_
     obtain ⟨v21, h22, hr⟩ := bind_some hr
     obtain ⟨v23, h24, hr⟩ := bind_some hr
     obtain ⟨v25, h26, hr⟩ := bind_some hr
     refine dr 10 [(31, .agg [.s v25.Envelope.From, .l TRecipient.pc v25.Envelope.To, .s v25.Envelope.Id, .l TField.pc v25.Message.Fields, .l cU v25.Message.Body]), (30, .agg [.s v23.Mail.Envelope.From, .l TRecipient.pc v23.Mail.Envelope.To, .s v23.Mail.Envelope.Id, .l TField.pc v23.Mail.Message.Fields, .l cU v23.Mail.Message.Body]), (29, .hp 1012 (Int.toNat s17.1) 1), (28, .hp 1012 (Int.toNat s17.1) 0), (27, .i s17.1), (26, .hs 1012 0), (25, .ptr 1 5), (24, .i s17.1), (23, .hs 1012 0), (22, .ptr 1 5)] mixed (by kernel_rfl) rfl rfl (pq tk rfl (.plain rfl) (pq tk rfl (.plain rfl) (pq tk rfl (.plain rfl) (pq tk rfl (.plain rfl) (pq tk rfl (.plain rfl) (pq tk rfl (.plain rfl) (.run (.plain rfl) (opG_q (ev_hidx (F := THeld.pc) (l := s17.2) (n := s17.1) rfl rfl rfl ty_s_api_Held ty_api_Held h22)) (pq tk rfl (.plain rfl) (.run (.plain rfl) (opG_q (ev_hloadN (F := THeld.pc) (l := s17.2) (n := s17.1) (j := 1) rfl rfl ty_api_Mail rfl h24 rfl)) (.run (.plain rfl) (opG_call (queue_CopyMail_run v23.Mail v25 h26) rfl) .nil)))))))))) rfl ?_
     obtain ⟨v27, h28, hr⟩ := bind_some hr
     refine wih tk h28 rfl rfl rfl rfl rfl ?_
     refine rn tk 1 rfl ?_
     obtain ⟨v29, h30, hr⟩ := bind_some hr
     refine wo (opTo_hstore (F := THeld.pc) (l := s17.2) (n := s17.1) (j := 1) (v := v29) (v' := ((THeld.mk v29.Number v25))) (pcs := [pS v25.Envelope.From, pL TRecipient.pc v25.Envelope.To, pS v25.Envelope.Id, pL TField.pc v25.Message.Fields, pL cU v25.Message.Body]) rfl rfl rfl ty_api_Mail rfl h30 rfl rfl) rfl ?_
     refine rn tk 7 rfl ?_
     cases hr
     exact atc rfl rfl
    ·
     refine rn tk 2 rfl ?_
     cases hr
     exact ato rfl rfl rfl rfl
   ·
    refine rn tk 9 rfl ?_
    refine ie tk [.agg [.s a0.Address, .s a0.Owner, .bo a0.Open, .hs 1006 0, .l cS v13, .hs 1012 0, .i a0.Next]] [(2, .ptr 2 0), (4, .ptr 4 0), (5, .ptr 5 0), (7, .i v6)] [(1012, .row 65 true 6 (List.map THeld.pc b18)), (1006, .row 9 true 1 (List.map cS v11)), (3002, .row 65 true 6 (List.map THeld.pc (([] : List THeld)))), (2002, .row 9 true 1 (List.map cS (([] : List Str)))), (1002, .cells [.s a0.Address, .s a0.Owner, .bo a0.Open, .hs 1006 0, .l cS v13, .hs 1012 0, .i a0.Next]), (1, .cells [.s a0.Address, .s a0.Owner, .bo a0.Open, .hs 1006 0, .l cS v13, .hs 1012 0, .i a0.Next]), (5, .cells [.i 0, .i 0]), (4, .cells [.s (([] : Str)), .s (([] : Str)), .bo false, .l cS ([]), .l cS ([]), .l THeld.pc ([]), .i 0]), (2, .cells [.s a0.Address, .s a0.Owner, .bo a0.Open, .l cS a0.Subscribers, .l cS a0.Moderators, .l THeld.pc a0.Held, .i a0.Next])] (.inr rfl) rfl rfl rfl rfl (hO ?_)
    refine rn tk 10 rfl ?_
    refine ct hr (fun j31 => [(2, .ptr 2 0), (4, .ptr 4 0), (5, .ptr 5 0), (29, .hs 1006 0)]) (fun j31 => [(1012, .row 65 true 6 (List.map THeld.pc b18)), (1006, .row 9 true 1 (List.map cS j31)), (5, .cells [.i 0, .i 0]), (4, .cells [.s (([] : Str)), .s (([] : Str)), .bo false, .l cS ([]), .l cS ([]), .l THeld.pc ([]), .i 0]), (2, .cells [.s a0.Address, .s a0.Owner, .bo a0.Open, .any, .l cS v13, .hs 1012 0, .i a0.Next])]) (fun j31 hr jump2 => ?_) (fun j31 hr => ?_)
    ·
     refine il (fn := Tryz.f48) (args := [.hs 1006 0, .i v6, .i ((w64 (v6 + 1)))]) 200000 299999 [(2, .ptr 2 0), (4, .ptr 4 0), (5, .ptr 5 0)] rfl ⟨Tryz.func48, rfl, by kernel_rfl⟩ rfl rfl rfl fun T2 ds2 => ?_
     refine rn tk 3 rfl ?_
     refine awpl_adoptM 2006 (d := 6) 9 1 rfl rfl rfl (hO ?_)
     refine rn tk 8 rfl ?_
     refine wnh tk rfl rfl rfl rfl ?_
     obtain ⟨v32, h33, hr⟩ := bind_some hr
     refine wq (ev_hcut3 (F := cS) (l := v11) rfl rfl rfl rfl rfl ty_s_string ty_string h33) rfl rfl rfl ?_
     refine rn tk 10 rfl ?_
     refine ac 16 hr rfl (fun c34 hr => ?_) (fun c34 hr => ?_)
     ·
      refine rn tk 6 rfl ?_
      refine awp_hsclr (d' := 6) (F := cS) (l := v11) rfl rfl (hC ?_)
      refine rn tk 2 rfl ?_
      refine ie tk [.hs 1006 0] [(2, .ptr 2 0), (4, .ptr 4 0), (5, .ptr 5 0)] [(2006, .row 9 true 1 (List.map cS (([] : List Str)))), (1012, .row 65 true 6 (List.map THeld.pc b18)), (1006, .row 9 true 1 (List.map cS v11)), (3002, .row 65 true 6 (List.map THeld.pc (([] : List THeld)))), (2002, .row 9 true 1 (List.map cS (([] : List Str)))), (1002, .cells [.s a0.Address, .s a0.Owner, .bo a0.Open, .any, .l cS v13, .hs 1012 0, .i a0.Next]), (1, .cells [.s a0.Address, .s a0.Owner, .bo a0.Open, .any, .l cS v13, .hs 1012 0, .i a0.Next]), (5, .cells [.i 0, .i 0]), (4, .cells [.s (([] : Str)), .s (([] : Str)), .bo false, .l cS ([]), .l cS ([]), .l THeld.pc ([]), .i 0]), (2, .cells [.s a0.Address, .s a0.Owner, .bo a0.Open, .any, .l cS v13, .hs 1012 0, .i a0.Next])] (.inr rfl) rfl rfl rfl rfl ?_
      cases hr
      exact jump2 _ _ rfl rfl
     ·
      refine rn tk 5 rfl ?_
      refine wnh tk rfl rfl rfl rfl ?_
      refine rn tk 4 rfl ?_
      obtain ⟨v35, h36, hr⟩ := bind_some hr
      obtain ⟨v37, h38, hr⟩ := bind_some hr
      refine dr 6 [(25, .hsub 1006 (Int.toNat ((w64 (v6 + 1))))), (24, .i ((w64 (v6 + 1)))), (23, .hs 1006 0), (22, .hpre 1006 (Int.toNat v6)), (21, .i v6), (20, .hs 1006 0)] mixed (by kernel_rfl) rfl rfl (pq tk rfl (.plain rfl) (pq tk rfl (.plain rfl) (.run (.plain rfl) (opG_q (ev_hpre (F := cS) (l := v11) (q := v6) rfl rfl rfl ty_s_string ty_string h36)) (pq tk rfl (.plain rfl) (pq tk rfl (.plain rfl) (.run (.plain rfl) (opG_q (ev_hsub (F := cS) (l := v11) (p := ((w64 (v6 + 1)))) rfl rfl rfl ty_s_string ty_string h38)) .nil)))))) rfl ?_
      obtain ⟨v39, h40, hr⟩ := bind_some hr
      refine wo (opTo_shift (k := 26) (F := cS) (l := v11) (p := v6) (q := ((w64 (v6 + 1)))) rfl rfl rfl rfl ty_s_string ty_string rfl h40) rfl ?_
      refine rn tk 7 rfl ?_
      refine wq (ev_hprelen (e := 9) (n := ((Int.toNat v6) + (v11.length - (Int.toNat ((w64 (v6 + 1))))))) rfl ty_s_string.u) rfl rfl rfl ?_
      refine rn tk 1 rfl ?_
      obtain ⟨v41, h42, hr⟩ := bind_some hr
      refine wq (ev_hprest (F := cS) (l := v39) (a := (((((Int.toNat v6) + (v11.length - (Int.toNat ((w64 (v6 + 1)))))) : Nat) : Int))) rfl rfl rfl rfl ty_s_string ty_string h42) rfl rfl rfl ?_
      refine wo (opTo_clear (F := cS) (l := v39) (z := (([] : Str))) rfl rfl ty_s_string ty_string rfl rfl) rfl ?_
      refine rn tk 8 rfl ?_
      refine awp_hprecut (d' := 6) (F := cS) (l := ((clr0 v39 (Int.toNat (((((Int.toNat v6) + (v11.length - (Int.toNat ((w64 (v6 + 1)))))) : Nat) : Int))) (([] : Str))))) rfl rfl (hC ?_)
      refine rn tk 1 rfl ?_
      refine ie tk [.hs 1006 0] [(2, .ptr 2 0), (4, .ptr 4 0), (5, .ptr 5 0)] [(2006, .row 9 true 1 (List.map cS (([] : List Str)))), (1012, .row 65 true 6 (List.map THeld.pc b18)), (1006, .row 9 true 1 (List.map cS ((List.take ((Int.toNat v6) + (v11.length - (Int.toNat ((w64 (v6 + 1)))))) ((clr0 v39 (Int.toNat (((((Int.toNat v6) + (v11.length - (Int.toNat ((w64 (v6 + 1)))))) : Nat) : Int))) (([] : Str)))))))), (3002, .row 65 true 6 (List.map THeld.pc (([] : List THeld)))), (2002, .row 9 true 1 (List.map cS (([] : List Str)))), (1002, .cells [.s a0.Address, .s a0.Owner, .bo a0.Open, .any, .l cS v13, .hs 1012 0, .i a0.Next]), (1, .cells [.s a0.Address, .s a0.Owner, .bo a0.Open, .any, .l cS v13, .hs 1012 0, .i a0.Next]), (5, .cells [.i 0, .i 0]), (4, .cells [.s (([] : Str)), .s (([] : Str)), .bo false, .l cS ([]), .l cS ([]), .l THeld.pc ([]), .i 0]), (2, .cells [.s a0.Address, .s a0.Owner, .bo a0.Open, .any, .l cS v13, .hs 1012 0, .i a0.Next])] (.inr rfl) rfl rfl rfl rfl ?_
      cases hr
      exact jump2 _ _ rfl rfl
    ·
     refine rn tk 5 rfl ?_
     obtain ⟨v43, h44, hr⟩ := bind_some hr
     refine dr 2 [(32, .agg [.i v43.Code, .i v43.Index]), (31, .agg [.s a0.Address, .s a0.Owner, .bo a0.Open, .hs 1006 0, .l cS v13, .hs 1012 0, .i a0.Next])] mixed (by kernel_rfl) rfl rfl (pq tk rfl (.plain rfl) (.run (.plain rfl) (opG_call (basic_None_run  v43 h44) rfl) .nil)) rfl ?_
     refine rn tk 4 rfl ?_
     refine awp_unmu 1006 rfl (hC ?_)
     refine awp_pubC (o := 4) (j := 3) (F := cS) (l := j31) rfl rfl rfl (hC ?_)
     refine awp_unmu 1012 rfl (hC ?_)
     refine awp_pubC (o := 4) (j := 5) (F := THeld.pc) (l := b18) rfl rfl rfl (hC ?_)
     refine rn tk 1 rfl ?_
     cases hr
     exact kr tk (.inr rfl) rfl rfl
end Go.Proofs.YtkoijpogjobgjaaGreat
