/- The law EnvelopeMatchesSpec holds for every input of bulk up to the given bound: it returns true and leaves its arguments as they were. Written by program. -/
import Derived.Test.YtfhfjckjmacekaaKEnvelopeMatchesSpec2
set_option linter.unusedVariables false
set_option linter.unusedSimpArgs false
namespace Go.Proofs.Ytfhfjckjmacekaa
open Go.RowKit
set_option maxRecDepth 100000
set_option maxHeartbeats 40000000
set_option linter.unusedVariables false
theorem message_write_run (a0 : TMessage) (r : List UInt8) (hr : message_write a0 = some r) : Run Try.prog 68 [.agg [.l TField.pc a0.Fields, .l cU a0.Body]] (.l cU r) := by
 unfold message_write at hr
 refine rf (fn := Try.f68) ⟨Try.func68, rfl, by kernel_rfl⟩ rfl (fun _ => rfl) fun g0 hg => ?_
 refine rn tk 9 rfl ?_
 refine awpl_adopt 1003 (d := 3) 5 1 rfl rfl rfl (hO ?_)
 refine rn tk 7 rfl ?_
 refine wn tk rfl rfl rfl ?_
 refine rn tk 4 rfl ?_
 refine al1 hr (fun s1 => [(1, .ptr 1 0), (3, .hs 1003 0), (11, .l TField.pc a0.Fields), (12, .i ((a0.Fields.length : Int))), (13, .i s1.1)]) (fun s1 => [(1003, .row 5 false 1 (List.map cU s1.2)), (1, .cells [.l TField.pc a0.Fields, .l cU a0.Body])]) (.exit 0) (fun b2 => [(1, .ptr 1 0), (3, .hs 1003 0)]) (fun b2 => [(1003, .row 5 false 1 (List.map cU b2)), (1, .cells [.l TField.pc a0.Fields, .l cU a0.Body])]) rfl rfl (fun s1 x3 hr => ?_) (fun b2 hr => ?_)
 ·
  unfold message_write_l1 at hr
  refine rn tk 6 rfl ?_
  refine ac 14 hr rfl (fun c4 hr => ?_) (fun c4 hr => ?_)
  ·
   refine rn tk 6 rfl ?_
   obtain ⟨v5, h6, hr⟩ := bind_some hr
   refine wi tk h6 rfl rfl rfl rfl rfl ?_
   refine rn tk 11 rfl ?_
   obtain ⟨v7, h8, hr⟩ := bind_some hr
   refine cl (fold_Fold_run _ _ _ h8) rfl rfl ?_
   refine rn tk 11 rfl ?_
   refine wn tk rfl rfl rfl ?_
   refine rn tk 4 rfl ?_
   refine al1 hr (fun s9 => [(1, .ptr 1 0), (3, .hs 1003 0), (11, .l TField.pc a0.Fields), (12, .i ((a0.Fields.length : Int))), (13, .i s1.1), (25, .l cS v7.1), (26, .i ((v7.1.length : Int))), (27, .i s9.1)]) (fun s9 => [(1003, .row 5 false 1 (List.map cU s9.2)), (1, .cells [.l TField.pc a0.Fields, .l cU a0.Body])]) (.exit 2) (fun b10 => [(1, .ptr 1 0), (3, .hs 1003 0), (11, .l TField.pc a0.Fields), (12, .i ((a0.Fields.length : Int))), (13, .i s1.1)]) (fun b10 => [(1003, .row 5 false 1 (List.map cU b10)), (1, .cells [.l TField.pc a0.Fields, .l cU a0.Body])]) rfl rfl (fun s9 x11 hr => ?_) (fun b10 hr => ?_)
   ·
    unfold message_write_l2 at hr
    refine rn tk 6 rfl ?_
    refine ac 28 hr rfl (fun c12 hr => ?_) (fun c12 hr => ?_)
    ·
     refine rn tk 6 rfl ?_
     obtain ⟨v13, h14, hr⟩ := bind_some hr
     refine wi tk h14 rfl rfl rfl rfl rfl ?_
     refine rn tk 7 rfl ?_
     obtain ⟨v15, h16, hr⟩ := bind_some hr
     refine wo (opTo_appends (k := 33) (l := s9.2) (s := v13) (lim := 140737488355328) rfl rfl rfl rfl ty_s_uint8 ty_string.u ty_uint8 rfl h16) rfl ?_
     refine wz cU ([(13 : UInt8), (10 : UInt8)] : List UInt8) tk rfl rfl (fun _ => rfl) rfl rfl rfl ?_
     obtain ⟨v17, h18, hr⟩ := bind_some hr
     refine wa tk h18 rfl rfl rfl rfl (fun _ => rfl) rfl rfl ?_
     refine rn tk 8 rfl ?_
     cases hr
     exact atc rfl rfl
    ·
     refine rn tk 2 rfl ?_
     cases hr
     exact ato rfl rfl rfl rfl
   ·
    refine rn tk 7 rfl ?_
    cases hr
    exact atc rfl rfl
  ·
   refine rn tk 2 rfl ?_
   cases hr
   exact ato rfl rfl rfl rfl
 ·
  refine rn tk 3 rfl ?_
  obtain ⟨v19, h20, hr⟩ := bind_some hr
  obtain ⟨v21, h22, hr⟩ := bind_some hr
  refine awp_explore [([false, false, false, false, false, false, false], [(1, .ptr 1 0), (3, .hs 1003 0)], [(1003, .row 5 false 1 (List.map cU b2)), (1, .cells [.l TField.pc a0.Fields, .l cU a0.Body])]), ([true, false, false, false, false, false, false], [(1, .ptr 1 0), (3, .hs 1003 0), (38, .hs 1003 0)], [(1003, .row 5 false 1 (List.map cU b2)), (1, .cells [.l TField.pc a0.Fields, .l cU a0.Body])]), ([false, true, false, false, false, false, false], [(1, .ptr 1 0), (3, .hs 1003 0), (39, .l cU (([(13 : UInt8), (10 : UInt8)] : List UInt8)))], [(1003, .row 5 false 1 (List.map cU b2)), (1, .cells [.l TField.pc a0.Fields, .l cU a0.Body])]), ([false, false, false, true, false, false, false], [(1, .ptr 1 0), (3, .hs 1003 0), (41, .ptr 1 1)], [(1003, .row 5 false 1 (List.map cU b2)), (1, .cells [.l TField.pc a0.Fields, .l cU a0.Body])]), ([true, true, false, false, false, false, false], [(1, .ptr 1 0), (3, .hs 1003 0), (38, .hs 1003 0), (39, .l cU (([(13 : UInt8), (10 : UInt8)] : List UInt8)))], [(1003, .row 5 false 1 (List.map cU b2)), (1, .cells [.l TField.pc a0.Fields, .l cU a0.Body])]), ([true, false, false, true, false, false, false], [(1, .ptr 1 0), (3, .hs 1003 0), (38, .hs 1003 0), (41, .ptr 1 1)], [(1003, .row 5 false 1 (List.map cU b2)), (1, .cells [.l TField.pc a0.Fields, .l cU a0.Body])]), ([false, true, false, true, false, false, false], [(1, .ptr 1 0), (3, .hs 1003 0), (39, .l cU (([(13 : UInt8), (10 : UInt8)] : List UInt8))), (41, .ptr 1 1)], [(1003, .row 5 false 1 (List.map cU b2)), (1, .cells [.l TField.pc a0.Fields, .l cU a0.Body])]), ([false, false, false, true, true, false, false], [(1, .ptr 1 0), (3, .hs 1003 0), (41, .ptr 1 1), (42, .l cU a0.Body)], [(1003, .row 5 false 1 (List.map cU b2)), (1, .cells [.l TField.pc a0.Fields, .l cU a0.Body])]), ([true, true, true, false, false, false, false], [(1, .ptr 1 0), (39, .l cU (([(13 : UInt8), (10 : UInt8)] : List UInt8))), (40, .hs 1003 0)], [(1003, .row 5 false 1 (List.map cU v19)), (1, .cells [.l TField.pc a0.Fields, .l cU a0.Body])]), ([true, true, false, true, false, false, false], [(1, .ptr 1 0), (3, .hs 1003 0), (38, .hs 1003 0), (39, .l cU (([(13 : UInt8), (10 : UInt8)] : List UInt8))), (41, .ptr 1 1)], [(1003, .row 5 false 1 (List.map cU b2)), (1, .cells [.l TField.pc a0.Fields, .l cU a0.Body])]), ([true, false, false, true, true, false, false], [(1, .ptr 1 0), (3, .hs 1003 0), (38, .hs 1003 0), (41, .ptr 1 1), (42, .l cU a0.Body)], [(1003, .row 5 false 1 (List.map cU b2)), (1, .cells [.l TField.pc a0.Fields, .l cU a0.Body])]), ([false, true, false, true, true, false, false], [(1, .ptr 1 0), (3, .hs 1003 0), (39, .l cU (([(13 : UInt8), (10 : UInt8)] : List UInt8))), (41, .ptr 1 1), (42, .l cU a0.Body)], [(1003, .row 5 false 1 (List.map cU b2)), (1, .cells [.l TField.pc a0.Fields, .l cU a0.Body])]), ([true, true, true, true, false, false, false], [(1, .ptr 1 0), (39, .l cU (([(13 : UInt8), (10 : UInt8)] : List UInt8))), (40, .hs 1003 0), (41, .ptr 1 1)], [(1003, .row 5 false 1 (List.map cU v19)), (1, .cells [.l TField.pc a0.Fields, .l cU a0.Body])]), ([true, true, false, true, true, false, false], [(1, .ptr 1 0), (3, .hs 1003 0), (38, .hs 1003 0), (39, .l cU (([(13 : UInt8), (10 : UInt8)] : List UInt8))), (41, .ptr 1 1), (42, .l cU a0.Body)], [(1003, .row 5 false 1 (List.map cU b2)), (1, .cells [.l TField.pc a0.Fields, .l cU a0.Body])]), ([true, true, true, true, true, false, false], [(1, .ptr 1 0), (39, .l cU (([(13 : UInt8), (10 : UInt8)] : List UInt8))), (40, .hs 1003 0), (41, .ptr 1 1), (42, .l cU a0.Body)], [(1003, .row 5 false 1 (List.map cU v19)), (1, .cells [.l TField.pc a0.Fields, .l cU a0.Body])]), ([true, true, true, true, true, true, false], [(1, .ptr 1 0), (39, .l cU (([(13 : UInt8), (10 : UInt8)] : List UInt8))), (41, .ptr 1 1), (42, .l cU a0.Body), (43, .hs 1003 0)], [(1003, .row 5 false 1 (List.map cU v21)), (1, .cells [.l TField.pc a0.Fields, .l cU a0.Body])]), ([true, true, true, true, true, true, true], [(1, .ptr 1 0), (2, .hs 1003 0), (39, .l cU (([(13 : UInt8), (10 : UInt8)] : List UInt8))), (41, .ptr 1 1), (42, .l cU a0.Body), (43, .hs 1003 0)], [(1003, .row 5 false 1 (List.map cU v21)), (1, .cells [.l TField.pc a0.Fields, .l cU a0.Body])])] mixed (by kernel_rfl) rfl rfl (frLe_cons rfl (frLe_cons rfl frLe_nil)) (stoLe_cons rfl (stoLe_cons rfl stoLe_nil)) (.cons (.step [0, 1, 3] (by kernel_rfl) rfl (.cons (.yes 1 rfl (wanted_plain rfl) (opTo_q (d := 38) rfl rfl ev_move) rfl (frLe_cons rfl (frLe_cons rfl (frLe_cons rfl frLe_nil))) (stoLe_cons rfl (stoLe_cons rfl stoLe_nil))) (.cons (.yes 2 rfl (wanted_plain rfl) (opTo_g (d := 39) rfl rfl (opG_lit (F := cU) (l := ([(13 : UInt8), (10 : UInt8)] : List UInt8)) ty_s_uint8 ty_uint8 rfl (fun _ => rfl) rfl rfl)) rfl (frLe_cons rfl (frLe_cons rfl (frLe_cons rfl frLe_nil))) (stoLe_cons rfl (stoLe_cons rfl stoLe_nil))) (.cons (.yes 3 rfl (wanted_plain rfl) (opTo_q (d := 41) rfl rfl (ev_fieldAddr rfl ty_api_Message.u rfl ty_s_uint8 rfl)) rfl (frLe_cons rfl (frLe_cons rfl (frLe_cons rfl frLe_nil))) (stoLe_cons rfl (stoLe_cons rfl stoLe_nil))) .nil)))) (.cons (.step [1, 3] (by kernel_rfl) rfl (.cons (.yes 4 rfl (wanted_plain rfl) (opTo_g (d := 39) rfl rfl (opG_lit (F := cU) (l := ([(13 : UInt8), (10 : UInt8)] : List UInt8)) ty_s_uint8 ty_uint8 rfl (fun _ => rfl) rfl rfl)) rfl (frLe_cons rfl (frLe_cons rfl (frLe_cons rfl (frLe_cons rfl frLe_nil)))) (stoLe_cons rfl (stoLe_cons rfl stoLe_nil))) (.cons (.yes 5 rfl (wanted_plain rfl) (opTo_q (d := 41) rfl rfl (ev_fieldAddr rfl ty_api_Message.u rfl ty_s_uint8 rfl)) rfl (frLe_cons rfl (frLe_cons rfl (frLe_cons rfl (frLe_cons rfl frLe_nil)))) (stoLe_cons rfl (stoLe_cons rfl stoLe_nil))) .nil))) (.cons (.step [0, 3] (by kernel_rfl) rfl (.cons (.yes 4 rfl (wanted_plain rfl) (opTo_q (d := 38) rfl rfl ev_move) rfl (frLe_cons rfl (frLe_cons rfl (frLe_cons rfl (frLe_cons rfl frLe_nil)))) (stoLe_cons rfl (stoLe_cons rfl stoLe_nil))) (.cons (.yes 6 rfl (wanted_plain rfl) (opTo_q (d := 41) rfl rfl (ev_fieldAddr rfl ty_api_Message.u rfl ty_s_uint8 rfl)) rfl (frLe_cons rfl (frLe_cons rfl (frLe_cons rfl (frLe_cons rfl frLe_nil)))) (stoLe_cons rfl (stoLe_cons rfl stoLe_nil))) .nil))) (.cons (.step [0, 1, 4] (by kernel_rfl) rfl (.cons (.yes 5 rfl (wanted_plain rfl) (opTo_q (d := 38) rfl rfl ev_move) rfl (frLe_cons rfl (frLe_cons rfl (frLe_cons rfl (frLe_cons rfl frLe_nil)))) (stoLe_cons rfl (stoLe_cons rfl stoLe_nil))) (.cons (.yes 6 rfl (wanted_plain rfl) (opTo_g (d := 39) rfl rfl (opG_lit (F := cU) (l := ([(13 : UInt8), (10 : UInt8)] : List UInt8)) ty_s_uint8 ty_uint8 rfl (fun _ => rfl) rfl rfl)) rfl (frLe_cons rfl (frLe_cons rfl (frLe_cons rfl (frLe_cons rfl frLe_nil)))) (stoLe_cons rfl (stoLe_cons rfl stoLe_nil))) (.cons (.yes 7 rfl (wanted_plain rfl) (opTo_q (d := 42) rfl rfl (ev_load rfl rfl ty_s_uint8 rfl rfl)) rfl (frLe_cons rfl (frLe_cons rfl (frLe_cons rfl (frLe_cons rfl frLe_nil)))) (stoLe_cons rfl (stoLe_cons rfl stoLe_nil))) .nil)))) (.cons (.step [2, 3] (by kernel_rfl) rfl (.cons (.yes 8 rfl (wanted_plain rfl) (opTo_append (k := 40) (F := cU) (l := b2) (xs := (([(13 : UInt8), (10 : UInt8)] : List UInt8))) (lim := 140737488355328) rfl rfl rfl rfl ty_s_uint8 ty_uint8 rfl rfl (fun _ => rfl) rfl h20) rfl (frLe_cons rfl (frLe_cons rfl (frLe_cons rfl frLe_nil))) (stoLe_cons rfl (stoLe_cons rfl stoLe_nil))) (.cons (.yes 9 rfl (wanted_plain rfl) (opTo_q (d := 41) rfl rfl (ev_fieldAddr rfl ty_api_Message.u rfl ty_s_uint8 rfl)) rfl (frLe_cons rfl (frLe_cons rfl (frLe_cons rfl (frLe_cons rfl (frLe_cons rfl frLe_nil))))) (stoLe_cons rfl (stoLe_cons rfl stoLe_nil))) .nil))) (.cons (.step [1, 4] (by kernel_rfl) rfl (.cons (.yes 9 rfl (wanted_plain rfl) (opTo_g (d := 39) rfl rfl (opG_lit (F := cU) (l := ([(13 : UInt8), (10 : UInt8)] : List UInt8)) ty_s_uint8 ty_uint8 rfl (fun _ => rfl) rfl rfl)) rfl (frLe_cons rfl (frLe_cons rfl (frLe_cons rfl (frLe_cons rfl (frLe_cons rfl frLe_nil))))) (stoLe_cons rfl (stoLe_cons rfl stoLe_nil))) (.cons (.yes 10 rfl (wanted_plain rfl) (opTo_q (d := 42) rfl rfl (ev_load rfl rfl ty_s_uint8 rfl rfl)) rfl (frLe_cons rfl (frLe_cons rfl (frLe_cons rfl (frLe_cons rfl (frLe_cons rfl frLe_nil))))) (stoLe_cons rfl (stoLe_cons rfl stoLe_nil))) .nil))) (.cons (.step [0, 4] (by kernel_rfl) rfl (.cons (.yes 9 rfl (wanted_plain rfl) (opTo_q (d := 38) rfl rfl ev_move) rfl (frLe_cons rfl (frLe_cons rfl (frLe_cons rfl (frLe_cons rfl (frLe_cons rfl frLe_nil))))) (stoLe_cons rfl (stoLe_cons rfl stoLe_nil))) (.cons (.yes 11 rfl (wanted_plain rfl) (opTo_q (d := 42) rfl rfl (ev_load rfl rfl ty_s_uint8 rfl rfl)) rfl (frLe_cons rfl (frLe_cons rfl (frLe_cons rfl (frLe_cons rfl (frLe_cons rfl frLe_nil))))) (stoLe_cons rfl (stoLe_cons rfl stoLe_nil))) .nil))) (.cons (.step [0, 1] (by kernel_rfl) rfl (.cons (.yes 10 rfl (wanted_plain rfl) (opTo_q (d := 38) rfl rfl ev_move) rfl (frLe_cons rfl (frLe_cons rfl (frLe_cons rfl (frLe_cons rfl (frLe_cons rfl frLe_nil))))) (stoLe_cons rfl (stoLe_cons rfl stoLe_nil))) (.cons (.yes 11 rfl (wanted_plain rfl) (opTo_g (d := 39) rfl rfl (opG_lit (F := cU) (l := ([(13 : UInt8), (10 : UInt8)] : List UInt8)) ty_s_uint8 ty_uint8 rfl (fun _ => rfl) rfl rfl)) rfl (frLe_cons rfl (frLe_cons rfl (frLe_cons rfl (frLe_cons rfl (frLe_cons rfl frLe_nil))))) (stoLe_cons rfl (stoLe_cons rfl stoLe_nil))) .nil))) (.cons (.step [3] (by kernel_rfl) rfl (.cons (.yes 12 rfl (wanted_plain rfl) (opTo_q (d := 41) rfl rfl (ev_fieldAddr rfl ty_api_Message.u rfl ty_s_uint8 rfl)) rfl (frLe_cons rfl (frLe_cons rfl (frLe_cons rfl (frLe_cons rfl frLe_nil)))) (stoLe_cons rfl (stoLe_cons rfl stoLe_nil))) .nil)) (.cons (.step [2, 4] (by kernel_rfl) rfl (.cons (.yes 12 rfl (wanted_plain rfl) (opTo_append (k := 40) (F := cU) (l := b2) (xs := (([(13 : UInt8), (10 : UInt8)] : List UInt8))) (lim := 140737488355328) rfl rfl rfl rfl ty_s_uint8 ty_uint8 rfl rfl (fun _ => rfl) rfl h20) rfl (frLe_cons rfl (frLe_cons rfl (frLe_cons rfl (frLe_cons rfl frLe_nil)))) (stoLe_cons rfl (stoLe_cons rfl stoLe_nil))) (.cons (.yes 13 rfl (wanted_plain rfl) (opTo_q (d := 42) rfl rfl (ev_load rfl rfl ty_s_uint8 rfl rfl)) rfl (frLe_cons rfl (frLe_cons rfl (frLe_cons rfl (frLe_cons rfl (frLe_cons rfl (frLe_cons rfl frLe_nil)))))) (stoLe_cons rfl (stoLe_cons rfl stoLe_nil))) .nil))) (.cons (.step [1] (by kernel_rfl) rfl (.cons (.yes 13 rfl (wanted_plain rfl) (opTo_g (d := 39) rfl rfl (opG_lit (F := cU) (l := ([(13 : UInt8), (10 : UInt8)] : List UInt8)) ty_s_uint8 ty_uint8 rfl (fun _ => rfl) rfl rfl)) rfl (frLe_cons rfl (frLe_cons rfl (frLe_cons rfl (frLe_cons rfl (frLe_cons rfl (frLe_cons rfl frLe_nil)))))) (stoLe_cons rfl (stoLe_cons rfl stoLe_nil))) .nil)) (.cons (.step [0] (by kernel_rfl) rfl (.cons (.yes 13 rfl (wanted_plain rfl) (opTo_q (d := 38) rfl rfl ev_move) rfl (frLe_cons rfl (frLe_cons rfl (frLe_cons rfl (frLe_cons rfl (frLe_cons rfl (frLe_cons rfl frLe_nil)))))) (stoLe_cons rfl (stoLe_cons rfl stoLe_nil))) .nil)) (.cons (.step [4] (by kernel_rfl) rfl (.cons (.yes 14 rfl (wanted_plain rfl) (opTo_q (d := 42) rfl rfl (ev_load rfl rfl ty_s_uint8 rfl rfl)) rfl (frLe_cons rfl (frLe_cons rfl (frLe_cons rfl (frLe_cons rfl (frLe_cons rfl frLe_nil))))) (stoLe_cons rfl (stoLe_cons rfl stoLe_nil))) .nil)) (.cons (.step [2] (by kernel_rfl) rfl (.cons (.yes 14 rfl (wanted_plain rfl) (opTo_append (k := 40) (F := cU) (l := b2) (xs := (([(13 : UInt8), (10 : UInt8)] : List UInt8))) (lim := 140737488355328) rfl rfl rfl rfl ty_s_uint8 ty_uint8 rfl rfl (fun _ => rfl) rfl h20) rfl (frLe_cons rfl (frLe_cons rfl (frLe_cons rfl (frLe_cons rfl (frLe_cons rfl frLe_nil))))) (stoLe_cons rfl (stoLe_cons rfl stoLe_nil))) .nil)) (.cons (.step [5] (by kernel_rfl) rfl (.cons (.yes 15 rfl (wanted_plain rfl) (opTo_append (k := 43) (F := cU) (l := v19) (xs := a0.Body) (lim := 140737488355328) rfl rfl rfl rfl ty_s_uint8 ty_uint8 rfl rfl (fun _ => rfl) rfl h22) rfl (frLe_cons rfl (frLe_cons rfl (frLe_cons rfl (frLe_cons rfl (frLe_cons rfl frLe_nil))))) (stoLe_cons rfl (stoLe_cons rfl stoLe_nil))) .nil)) (.cons (.step [6] (by kernel_rfl) rfl (.cons (.yes 16 rfl (wanted_plain rfl) (opTo_q (d := 2) rfl rfl ev_assign) rfl (frLe_cons rfl (frLe_cons rfl (frLe_cons rfl (frLe_cons rfl (frLe_cons rfl (frLe_cons rfl frLe_nil)))))) (stoLe_cons rfl (stoLe_cons rfl stoLe_nil))) .nil)) (.cons (.full (by kernel_rfl) (hA ?_)) .nil)))))))))))))))))
  refine rn tk 1 rfl ?_
  refine awp_pub (d := 2) (F := cU) (l := v21) rfl rfl (hC ?_)
  refine rn tk 1 rfl ?_
  cases hr
  exact kr tk (.inr rfl) rfl rfl
theorem message_Validate_run (a0 : TMessage) (r : TFault) (hr : message_Validate a0 = some r) : Run Try.prog 48 [.agg [.l TField.pc a0.Fields, .l cU a0.Body]] (.agg [.i r.Code, .i r.Index]) := by
 unfold message_Validate at hr
 refine rf (fn := Try.f48) ⟨Try.func48, rfl, by kernel_rfl⟩ rfl (fun _ => rfl) fun g0 hg => ?_
 refine rn tk 11 rfl ?_
 obtain ⟨v1, h2, hr⟩ := bind_some hr
 refine cl (header_Validate_run _ _ h2) rfl rfl ?_
 refine rn tk 7 rfl ?_
 obtain ⟨v3, h4, hr⟩ := bind_some hr
 refine cl (basic_Failed_run _ _ h4) rfl rfl ?_
 refine rn tk 2 rfl ?_
 refine ac 8 hr rfl (fun c5 hr => ?_) (fun c5 hr => ?_)
 ·
  refine rn tk 8 rfl ?_
  cases hr
  exact kr tk (.inr rfl) rfl rfl
 ·
  refine rn tk 6 rfl ?_
  obtain ⟨v6, h7, hr⟩ := bind_some hr
  refine cl (message_write_run _ _ h7) rfl rfl ?_
  refine wn tk rfl rfl rfl ?_
  refine rn tk 3 rfl ?_
  refine ac 13 hr rfl (fun c8 hr => ?_) (fun c8 hr => ?_)
  ·
   refine rn tk 2 rfl ?_
   obtain ⟨v9, h10, hr⟩ := bind_some hr
   refine cl (basic_Fault_run _ _ _ h10) rfl rfl ?_
   refine rn tk 5 rfl ?_
   cases hr
   exact kr tk (.inr rfl) rfl rfl
  ·
   refine rn tk 6 rfl ?_
   obtain ⟨v11, h12, hr⟩ := bind_some hr
   refine cl (message_body_run _ _ h12) rfl rfl ?_
   refine rn tk 4 rfl ?_
   cases hr
   exact kr tk (.inr rfl) rfl rfl
theorem envelope_Check_run (a0 : TMail) (r : TFault) (hr : envelope_Check a0 = some r) : Run Try.prog 24 [.agg [.s a0.Envelope.From, .l TRecipient.pc a0.Envelope.To, .s a0.Envelope.Id, .l TField.pc a0.Message.Fields, .l cU a0.Message.Body]] (.agg [.i r.Code, .i r.Index]) := by
 unfold envelope_Check at hr
 refine rf (fn := Try.f24) ⟨Try.func24, rfl, by kernel_rfl⟩ rfl (fun _ => rfl) fun g0 hg => ?_
 refine rn tk 11 rfl ?_
 obtain ⟨v1, h2, hr⟩ := bind_some hr
 refine cl (envelope_Validate_run _ _ h2) rfl rfl ?_
 refine rn tk 7 rfl ?_
 obtain ⟨v3, h4, hr⟩ := bind_some hr
 refine cl (basic_Failed_run _ _ h4) rfl rfl ?_
 refine rn tk 2 rfl ?_
 refine ac 9 hr rfl (fun c5 hr => ?_) (fun c5 hr => ?_)
 ·
  refine rn tk 8 rfl ?_
  cases hr
  exact kr tk (.inr rfl) rfl rfl
 ·
  refine rn tk 7 rfl ?_
  obtain ⟨v6, h7, hr⟩ := bind_some hr
  refine cl (message_Validate_run _ _ h7) rfl rfl ?_
  refine rn tk 7 rfl ?_
  obtain ⟨v8, h9, hr⟩ := bind_some hr
  refine cl (basic_Failed_run _ _ h9) rfl rfl ?_
  refine rn tk 2 rfl ?_
  refine ac 15 hr rfl (fun c10 hr => ?_) (fun c10 hr => ?_)
  ·
   refine rn tk 4 rfl ?_
   obtain ⟨v11, h12, hr⟩ := bind_some hr
   refine cl (basic_Fault_run _ _ _ h12) rfl rfl ?_
   refine rn tk 5 rfl ?_
   cases hr
   exact kr tk (.inr rfl) rfl rfl
  ·
   refine rn tk 4 rfl ?_
   obtain ⟨v13, h14, hr⟩ := bind_some hr
   refine cl (basic_None_run _ h14) rfl rfl ?_
   refine rn tk 4 rfl ?_
   cases hr
   exact kr tk (.inr rfl) rfl rfl
theorem L_EnvelopeMatchesSpec_run (a0 : TMail) (r : Bool) (hr : L_EnvelopeMatchesSpec a0 = some r) : Run Try.prog 6 [.agg [.s a0.Envelope.From, .l TRecipient.pc a0.Envelope.To, .s a0.Envelope.Id, .l TField.pc a0.Message.Fields, .l cU a0.Message.Body]] (.bo r) := by
 unfold L_EnvelopeMatchesSpec at hr
 refine rf (fn := Try.f6) ⟨Try.func6, rfl, by kernel_rfl⟩ rfl (fun _ => rfl) fun g0 hg => ?_
 refine rn tk 6 rfl ?_
 refine jb hr (fun j1 => [(2, .bo j1)]) (fun j1 => []) (fun j1 hr => ?_) (fun j1 hr => ?_)
 ·
  obtain ⟨v2, h3, hr⟩ := bind_some hr
  refine bool_split v2 (fun c4 => ?_) (fun c4 => ?_)
  ·
   replace hr := cond_t c4 hr
   obtain ⟨v5, h6, hr⟩ := bind_some hr
   obtain ⟨v7, h8, hr⟩ := bind_some hr
   refine bool_split ((allEq [(v5.Code == v7.Code), (v5.Index == v7.Index)])) (fun c9 => ?_) (fun c9 => ?_)
   ·
    replace hr := cond_t c9 hr
    obtain ⟨v10, h11, hr⟩ := bind_some hr
    refine dr 14 [(16, .agg [.s a0.Envelope.From, .l TRecipient.pc a0.Envelope.To, .s a0.Envelope.Id, .l TField.pc a0.Message.Fields, .l cU a0.Message.Body]), (15, .agg [.i v10.Code, .i v10.Index]), (14, .agg [.s a0.Envelope.From, .l TRecipient.pc a0.Envelope.To, .s a0.Envelope.Id, .l TField.pc a0.Message.Fields, .l cU a0.Message.Body]), (13, .bo ((allEq [(v5.Code == v7.Code), (v5.Index == v7.Index)]))), (12, .bo ((allEq [(v5.Code == v7.Code), (v5.Index == v7.Index)]))), (11, .bo ((allEq [(v5.Code == v7.Code), (v5.Index == v7.Index)]))), (10, .agg [.i v7.Code, .i v7.Index]), (9, .agg [.s a0.Envelope.From, .l TRecipient.pc a0.Envelope.To, .s a0.Envelope.Id]), (8, .ptr 1 0), (7, .agg [.i v5.Code, .i v5.Index]), (6, .agg [.s a0.Envelope.From, .l TRecipient.pc a0.Envelope.To, .s a0.Envelope.Id]), (5, .ptr 1 0), (4, .bo v2), (3, .bo v2)] mixed (by kernel_rfl) rfl rfl (.run (.plain rfl) (opG_call (L_envelopes_run  v2 h3) rfl) (pq tk rfl (.plain rfl) (pq tk rfl (.yes (d := 4) rfl rfl rfl c4) (pq tk rfl (.yes (d := 4) rfl rfl rfl c4) (.run (.yes (d := 4) rfl rfl rfl c4) (opG_call (envelope_Validate_run a0.Envelope v5 h6) rfl) (pq tk rfl (.yes (d := 4) rfl rfl rfl c4) (pq tk rfl (.yes (d := 4) rfl rfl rfl c4) (.run (.yes (d := 4) rfl rfl rfl c4) (opG_call (R_EnvelopeFault_run a0.Envelope v7 h8) rfl) (.run (.yes (d := 4) rfl rfl rfl c4) (opG_q (ev_structeq rfl rfl ty_api_Fault cmp_api_Fault (.int rfl (by decide) ty_int (.int rfl (by decide) ty_int .nil)))) (.run (.plain rfl) (opG_q (ev_pick_t rfl c4)) (pq tk rfl (.plain rfl) (pq tk rfl (.yes (d := 13) rfl rfl rfl c9) (.run (.yes (d := 13) rfl rfl rfl c9) (opG_call (envelope_Check_run a0 v10 h11) rfl) (pq tk rfl (.yes (d := 13) rfl rfl rfl c9) .nil)))))))))))))) rfl ?_
    refine kn 13 c9 rfl ?_
    obtain ⟨v12, h13, hr⟩ := bind_some hr
    refine ug rfl rfl rfl ?_
    refine cl (R_MailFault_run _ _ h13) rfl rfl ?_
    refine ug rfl rfl rfl ?_
    refine wq (ev_structeq rfl rfl ty_api_Fault cmp_api_Fault (.int rfl (by decide) ty_int (.int rfl (by decide) ty_int .nil))) rfl rfl rfl ?_
    refine rn tk 3 rfl ?_
    cases hr
    exact jn _ rfl rfl rfl
   ·
    replace hr := cond_f c9 hr
    refine dr 14 [(16, .tup []), (15, .tup []), (14, .tup []), (13, .bo ((allEq [(v5.Code == v7.Code), (v5.Index == v7.Index)]))), (12, .bo ((allEq [(v5.Code == v7.Code), (v5.Index == v7.Index)]))), (11, .bo ((allEq [(v5.Code == v7.Code), (v5.Index == v7.Index)]))), (10, .agg [.i v7.Code, .i v7.Index]), (9, .agg [.s a0.Envelope.From, .l TRecipient.pc a0.Envelope.To, .s a0.Envelope.Id]), (8, .ptr 1 0), (7, .agg [.i v5.Code, .i v5.Index]), (6, .agg [.s a0.Envelope.From, .l TRecipient.pc a0.Envelope.To, .s a0.Envelope.Id]), (5, .ptr 1 0), (4, .bo v2), (3, .bo v2)] mixed (by kernel_rfl) rfl rfl (.run (.plain rfl) (opG_call (L_envelopes_run  v2 h3) rfl) (pq tk rfl (.plain rfl) (pq tk rfl (.yes (d := 4) rfl rfl rfl c4) (pq tk rfl (.yes (d := 4) rfl rfl rfl c4) (.run (.yes (d := 4) rfl rfl rfl c4) (opG_call (envelope_Validate_run a0.Envelope v5 h6) rfl) (pq tk rfl (.yes (d := 4) rfl rfl rfl c4) (pq tk rfl (.yes (d := 4) rfl rfl rfl c4) (.run (.yes (d := 4) rfl rfl rfl c4) (opG_call (R_EnvelopeFault_run a0.Envelope v7 h8) rfl) (.run (.yes (d := 4) rfl rfl rfl c4) (opG_q (ev_structeq rfl rfl ty_api_Fault cmp_api_Fault (.int rfl (by decide) ty_int (.int rfl (by decide) ty_int .nil)))) (.run (.plain rfl) (opG_q (ev_pick_t rfl c4)) (pq tk rfl (.plain rfl) (.skip (.no (d := 13) rfl rfl rfl c9) (.skip (.no (d := 13) rfl rfl rfl c9) (.skip (.no (d := 13) rfl rfl rfl c9) .nil)))))))))))))) rfl ?_
    refine kn 13 c9 rfl ?_
    refine rn tk 5 rfl ?_
    cases hr
    exact jn _ rfl rfl rfl
  ·
   replace hr := cond_f c4 hr
   refine dr 14 [(16, .tup []), (15, .tup []), (14, .tup []), (13, .bo false), (12, .bo false), (11, .tup []), (10, .tup []), (9, .tup []), (8, .tup []), (7, .tup []), (6, .tup []), (5, .tup []), (4, .bo v2), (3, .bo v2)] mixed (by kernel_rfl) rfl rfl (.run (.plain rfl) (opG_call (L_envelopes_run  v2 h3) rfl) (pq tk rfl (.plain rfl) (.skip (.no (d := 4) rfl rfl rfl c4) (.skip (.no (d := 4) rfl rfl rfl c4) (.skip (.no (d := 4) rfl rfl rfl c4) (.skip (.no (d := 4) rfl rfl rfl c4) (.skip (.no (d := 4) rfl rfl rfl c4) (.skip (.no (d := 4) rfl rfl rfl c4) (.skip (.no (d := 4) rfl rfl rfl c4) (.run (.plain rfl) (opG_q (ev_pick_f rfl c4)) (pq tk rfl (.plain rfl) (.skip (.no (d := 13) rfl rfl rfl rfl) (.skip (.no (d := 13) rfl rfl rfl rfl) (.skip (.no (d := 13) rfl rfl rfl rfl) .nil)))))))))))))) rfl ?_
   refine rn tk 5 rfl ?_
   cases hr
   exact jn _ rfl rfl rfl
 ·
  refine rn tk 1 rfl ?_
  cases hr
  exact kr tk (.inr rfl) rfl rfl
end Go.Proofs.Ytfhfjckjmacekaa

namespace Go.Proofs.Ytfhfjckjmacekaa.envelopeMatchesSpec
open Go.ChangeShapes Go.WideShapes Go.ChangeAt Go.RowKit
set_option linter.unusedVariables false
set_option maxRecDepth 100000

theorem contract (H : Type) (enc : TypeId × Value → H) (W : World) (base : Nat) (args : Array Value) (ds gs : List (DataW H)) (before : List MemPlace)
    (hval : ∀ (j : Nat) t v, Try.f6.params[j]? = some t → args[j]? = some v → Value.okWide Try.prog W .any base t v)
    (hW : DataW.Whole enc Try.prog Try.f6.params.toList Rows.envelopeMatchesSpecSpec.vars false W args.toList ds gs before) (hk : Rows.uptoSmall H (ds ++ gs) = true) (hgl : Gl (gAll W)) :
    Calls Try.prog 6 args W fun e W' => ∃ v, e = .returned v ∧ Rows.envelopeMatchesSpecSpec.post enc Try.prog Try.f6 false true false false W args v W' := by
  have hW' := hW
  obtain ⟨p, q, hA0, hV, rfl, hfz, hnd⟩ := hW
  have hA : DataW.TrodAll enc Try.prog W 0 (fun _ => true) true Try.f6.params.toList args.toList ds p := hA0
  rw [Try.params6] at hA hval
  obtain ⟨v0, vs0, d0, ds0, p0, q0, hargs, rfl, rfl, h0, r0⟩ := trodAll_cons hA
  obtain ⟨rfl, rfl, rfl⟩ := trodAll_nil r0
  obtain rfl : args = #[v0] := by cases args; simp_all
  obtain ⟨rfl, rfl⟩ := trodVars_none hV
  obtain ⟨a0, e0, o0, k0⟩ := arg_agg op_api_Mail (by obtain ⟨cs, h, _⟩ := okWide_struct ty_api_Mail.u (hval 0 _ v0 rfl rfl); exact ⟨cs, h⟩) h0
  have hk2 := of_decide_eq_true hk
  simp only [List.append_nil, Rows.uptoBulkAll] at hk2
  have ht := L_EnvelopeMatchesSpec_true a0 o0 (by (try dsimp only); omega)
  have key : Calls Try.prog 6 #[v0] W fun e W' => e = .returned (.bool true) ∧ Below W.heap.size W W' := calls_of_run (L_EnvelopeMatchesSpec_run a0 true ht) hgl (relArgs_of (.cons e0 .nil))
  refine key.mono fun e W' ⟨he, hb⟩ => ⟨_, he, ?_⟩
  exact post_true laidOut (by kernel_rfl) Try.underlying4 (by kernel_rfl) rfl rfl hW' hb

theorem lifted (os : Os) (started : os.Started) (H : Type) (enc : TypeId × Value → H) (F : Stop.Interp) :
    ReturnsInHanded {} Try.checked os 6 .any ((Rows.OpenSpec.upto Rows.envelopeMatchesSpecSpec).pre6 enc Try.prog Try.f6 Rows.envelopeMatchesSpecUptoRow.domain false) (((Rows.OpenSpec.upto Rows.envelopeMatchesSpecSpec).at F).post enc Try.prog Try.f6 false true false false) := by
  refine returnsInHanded_of_cond_shaped (C := Try.checked) (s := Rows.OpenSpec.upto Rows.envelopeMatchesSpecSpec) (k := Rows.uptoSmall) rfl own started (by kernel_rfl) Try.func6
    (OpenSpec.witness (enc := enc) (C := Try.checked) (s := Rows.OpenSpec.upto Rows.envelopeMatchesSpecSpec) (k := Rows.uptoSmall) rfl false ⟨#[], #[.agg #[.string ⟨#[]⟩, .slice none 0 0, .string ⟨#[]⟩, .slice none 0 0, .slice none 0 0]], []⟩ 8 (by kernel_rfl) (by kernel_rfl) (by kernel_rfl)
      (x := ([.agg [.agg [.lit (.string []), .nil, .lit (.string [])], .agg [.nil, .nil]]], [], [])) (by kernel_rfl) rfl (by kernel_rfl)) ?_
  intro W base args ds gs before hval hW _ hk hsh _
  exact contract H enc W base args ds gs before hval hW hk (gl_of_shaped hsh)

theorem over : Rows.envelopeMatchesSpecUptoRow.holds Try.pinned (Rows.OpenSpec.upto Rows.envelopeMatchesSpecSpec) :=
  OpenClaim.holds_of_cond 6 Try.f6 rfl rfl rfl rfl rfl rfl rfl ⟨rfl, rfl, rfl, rfl, rfl⟩ rfl rfl rfl rfl rfl (by kernel_rfl) Try.func6 (by kernel_rfl)
    (of_decide_eq_true (by kernel_rfl)) (by unfold Func.isWrapper; first | (rw [if_pos (by decide +kernel)]; kernel_rfl) | (rw [if_neg (by decide +kernel)]; exact ⟨rfl, rfl⟩))
    (fun os started H enc _ F => lifted os started H enc F)

theorem proved : Rows.EnvelopeMatchesSpecUptoSaid := over
#print axioms proved
end Go.Proofs.Ytfhfjckjmacekaa.envelopeMatchesSpec
