/- The law TraceHopsMatchSpec holds for every input of bulk up to the given bound: it returns true and leaves its arguments as they were. Written by program. -/
import Derived.Test.YtpbanomkkkongaaGreatDoorKTraceHopsMatchSpec2
set_option linter.unusedVariables false
set_option linter.unusedSimpArgs false
namespace Go.Proofs.YtpbanomkkkongaaGreatDoor
open Go.RowKit
set_option maxRecDepth 100000
set_option maxHeartbeats 40000000
set_option linter.unusedVariables false
theorem R_MessageBytes_run (a0 : TMessage) (r : List UInt8) (hr : R_MessageBytes a0 = some r) : Run Tryz.prog 28 [.agg [.l TField.pc a0.Fields, .l cU a0.Body]] (.l cU r) := by
 unfold R_MessageBytes at hr
 refine rf (fn := Tryz.f28) ⟨Tryz.func28, rfl, by kernel_rfl⟩ rfl (fun _ => rfl) fun g0 hg => ?_
 refine rn tk 9 rfl ?_
 refine awpl_adopt 1003 (d := 3) 5 1 rfl rfl rfl (hO ?_)
 refine rn tk 9 rfl ?_
 refine al1 hr (fun s1 => [(1, .ptr 1 0), (3, .hs 1003 0), (4, .i s1.1)]) (fun s1 => [(1003, .row 5 false 1 (List.map cU s1.2)), (1, .cells [.l TField.pc a0.Fields, .l cU a0.Body])]) (.exit 0) (fun b2 => [(1, .ptr 1 0), (3, .hs 1003 0)]) (fun b2 => [(1003, .row 5 false 1 (List.map cU b2)), (1, .cells [.l TField.pc a0.Fields, .l cU a0.Body])]) rfl rfl (fun s1 x3 hr => ?_) (fun b2 hr => ?_)
 ·
  unfold R_MessageBytes_l1 at hr
  refine rn tk 6 rfl ?_
  refine wn tk rfl rfl rfl ?_
  refine rn tk 3 rfl ?_
  refine ac 11 hr rfl (fun c4 hr => ?_) (fun c4 hr => ?_)
  ·
   refine rn tk 5 rfl ?_
   obtain ⟨v5, h6, hr⟩ := bind_some hr
   obtain ⟨v7, h8, hr⟩ := bind_some hr
   refine dr 12 [(25, .s v7.Value), (24, .ep [pS v7.Value]), (23, .ep [pS v7.Name, pS v7.Value]), (22, .i s1.1), (21, .l TField.pc a0.Fields), (20, .ptr 1 0), (19, .s v5.Name), (18, .ep [pS v5.Name, pS v5.Value]), (17, .ep [pS v5.Name, pS v5.Value]), (16, .i s1.1), (15, .l TField.pc a0.Fields), (14, .ptr 1 0)] mixed (by kernel_rfl) rfl rfl (pq tk rfl (.plain rfl) (pq tk rfl (.plain rfl) (pq tk rfl (.plain rfl) (.run (.plain rfl) (opG_q (ev_idx (f := TField.pc) rfl rfl ty_s_api_Field ty_api_Field rfl h6)) (pq tk rfl (.plain rfl) (pq tk rfl (.plain rfl) (pq tk rfl (.plain rfl) (pq tk rfl (.plain rfl) (pq tk rfl (.plain rfl) (.run (.plain rfl) (opG_q (ev_idx (f := TField.pc) rfl rfl ty_s_api_Field ty_api_Field rfl h8)) (pq tk rfl (.plain rfl) (pq tk rfl (.plain rfl) .nil)))))))))))) rfl ?_
   obtain ⟨v9, h10, hr⟩ := bind_some hr
   refine cl (R_FieldLines_run _ _ _ h10) rfl rfl ?_
   refine rn tk 9 rfl ?_
   refine al1 hr (fun s11 => [(1, .ptr 1 0), (3, .hs 1003 0), (4, .i s1.1), (5, .l cS v9), (6, .i s11.1)]) (fun s11 => [(1003, .row 5 false 1 (List.map cU s11.2)), (1, .cells [.l TField.pc a0.Fields, .l cU a0.Body])]) (.exit 2) (fun b12 => [(1, .ptr 1 0), (3, .hs 1003 0), (4, .i s1.1)]) (fun b12 => [(1003, .row 5 false 1 (List.map cU b12)), (1, .cells [.l TField.pc a0.Fields, .l cU a0.Body])]) rfl rfl (fun s11 x13 hr => ?_) (fun b12 hr => ?_)
   ·
    unfold R_MessageBytes_l2 at hr
    refine rn tk 5 rfl ?_
    refine wn tk rfl rfl rfl ?_
    refine rn tk 3 rfl ?_
    refine ac 30 hr rfl (fun c14 hr => ?_) (fun c14 hr => ?_)
    ·
     refine rn tk 9 rfl ?_
     obtain ⟨v15, h16, hr⟩ := bind_some hr
     refine wi tk h16 rfl rfl rfl rfl rfl ?_
     refine rn tk 1 rfl ?_
     obtain ⟨v17, h18, hr⟩ := bind_some hr
     refine wo (opTo_appends (k := 38) (l := s11.2) (s := v15) (lim := 140737488355328) rfl rfl rfl rfl ty_s_uint8 ty_string.u ty_uint8 rfl h18) rfl ?_
     refine rn tk 5 rfl ?_
     refine wz cU ([(13 : UInt8), (10 : UInt8)] : List UInt8) tk rfl rfl (fun _ => rfl) rfl rfl rfl ?_
     obtain ⟨v19, h20, hr⟩ := bind_some hr
     refine wa tk h20 rfl rfl rfl rfl (fun _ => rfl) rfl rfl ?_
     refine rn tk 9 rfl ?_
     cases hr
     exact atc rfl rfl
    ·
     refine rn tk 2 rfl ?_
     cases hr
     exact ato rfl rfl rfl rfl
   ·
    refine rn tk 8 rfl ?_
    cases hr
    exact atc rfl rfl
  ·
   refine rn tk 2 rfl ?_
   cases hr
   exact ato rfl rfl rfl rfl
 ·
  refine rn tk 5 rfl ?_
  refine wz cU ([(13 : UInt8), (10 : UInt8)] : List UInt8) tk rfl rfl (fun _ => rfl) rfl rfl rfl ?_
  obtain ⟨v21, h22, hr⟩ := bind_some hr
  refine wa tk h22 rfl rfl rfl rfl (fun _ => rfl) rfl rfl ?_
  refine rn tk 8 rfl ?_
  obtain ⟨v23, h24, hr⟩ := bind_some hr
  refine wa tk h24 rfl rfl rfl rfl (fun _ => rfl) rfl rfl ?_
  refine rn tk 3 rfl ?_
  refine awp_pub (d := 2) (F := cU) (l := v23) rfl rfl (hC ?_)
  refine rn tk 1 rfl ?_
  cases hr
  exact kr tk (.inr rfl) rfl rfl
theorem R_MessageFault_run (a0 : TMessage) (r : TFault) (hr : R_MessageFault a0 = some r) : Run Tryz.prog 10 [.agg [.l TField.pc a0.Fields, .l cU a0.Body]] (.agg [.i r.Code, .i r.Index]) := by
 unfold R_MessageFault at hr
 refine rf (fn := Tryz.f10) ⟨Tryz.func10, rfl, by kernel_rfl⟩ rfl (fun _ => rfl) fun g0 hg => ?_
 refine rn tk 11 rfl ?_
 refine wn tk rfl rfl rfl ?_
 refine rn tk 3 rfl ?_
 refine ac 11 hr rfl (fun c1 hr => ?_) (fun c1 hr => ?_)
 ·
  refine rn tk 2 rfl ?_
  obtain ⟨v2, h3, hr⟩ := bind_some hr
  refine cl (R_At_run _ _ _ h3) rfl rfl ?_
  refine rn tk 5 rfl ?_
  cases hr
  exact kr tk (.inr rfl) rfl rfl
 ·
  refine rn tk 9 rfl ?_
  refine al2 hr (fun s4 => [(1, .ptr 1 0), (2, .ptr 2 0), (3, .i s4)]) (fun s4 => [(2, .cells [.i 0, .i 0]), (1, .cells [.l TField.pc a0.Fields, .l cU a0.Body])]) (.exit 0) (fun b5 => [(1, .ptr 1 0), (2, .ptr 2 0)]) (fun b5 => [(2, .cells [.i 0, .i 0]), (1, .cells [.l TField.pc a0.Fields, .l cU a0.Body])]) .ret (fun b6 => [(2, .ptr 2 0)]) (fun b6 => [(2, .cells [.i b6.Code, .i b6.Index])]) rfl rfl (fun s4 x8 hr => ?_) (fun b5 hr => ?_) (fun b6 hr => ?_)
  ·
   unfold R_MessageFault_l1 at hr
   refine rn tk 6 rfl ?_
   refine wn tk rfl rfl rfl ?_
   refine rn tk 3 rfl ?_
   refine ac 17 hr rfl (fun c9 hr => ?_) (fun c9 hr => ?_)
   ·
    refine rn tk 9 rfl ?_
    obtain ⟨v10, h11, hr⟩ := bind_some hr
    refine wi tk h11 rfl rfl rfl rfl rfl ?_
    refine rn tk 1 rfl ?_
    obtain ⟨v12, h13, hr⟩ := bind_some hr
    refine cl (R_FieldCode_run _ _ h13) rfl rfl ?_
    refine rn tk 9 rfl ?_
    refine ac 27 hr rfl (fun c14 hr => ?_) (fun c14 hr => ?_)
    ·
     refine rn tk 4 rfl ?_
     obtain ⟨v15, h16, hr⟩ := bind_some hr
     refine cl (R_At_run _ _ _ h16) rfl rfl ?_
     refine rn tk 6 rfl ?_
     cases hr
     exact ato rfl rfl rfl rfl
    ·
     refine rn tk 8 rfl ?_
     cases hr
     exact atc rfl rfl
   ·
    refine rn tk 2 rfl ?_
    cases hr
    exact ato rfl rfl rfl rfl
  ·
   refine rn tk 3 rfl ?_
   refine jb hr (fun j17 => [(1, .ptr 1 0), (2, .ptr 2 0), (40, .bo j17)]) (fun j17 => [(2, .cells [.i 0, .i 0]), (1, .cells [.l TField.pc a0.Fields, .l cU a0.Body])]) (fun j17 hr => ?_) (fun j17 hr => ?_)
   ·
    refine rn tk 3 rfl ?_
    refine wn tk rfl rfl rfl ?_
    refine rn tk 2 rfl ?_
    refine bs 35 hr rfl (fun c18 hr => ?_) (fun c18 hr => ?_)
    ·
     refine rn tk 6 rfl ?_
     cases hr
     exact jn _ rfl rfl rfl
    ·
     refine rn tk 1 rfl ?_
     obtain ⟨v19, h20, hr⟩ := bind_some hr
     refine ug rfl rfl rfl ?_
     refine cl (R_MessageBytes_run _ _ h20) rfl rfl ?_
     refine ug rfl rfl rfl ?_
     refine wn tk rfl rfl rfl ?_
     refine rn tk 3 rfl ?_
     cases hr
     exact jn _ rfl rfl rfl
   ·
    refine ac 40 hr rfl (fun c21 hr => ?_) (fun c21 hr => ?_)
    ·
     refine rn tk 2 rfl ?_
     obtain ⟨v22, h23, hr⟩ := bind_some hr
     refine cl (R_At_run _ _ _ h23) rfl rfl ?_
     refine rn tk 5 rfl ?_
     cases hr
     exact kr tk (.inr rfl) rfl rfl
    ·
     refine rn tk 14 rfl ?_
     refine al2 hr (fun s24 => [(1, .ptr 1 0), (2, .ptr 2 0), (5, .i s24.1), (6, .i s24.2)]) (fun s24 => [(2, .cells [.i 0, .i 0]), (1, .cells [.l TField.pc a0.Fields, .l cU a0.Body])]) (.exit 2) (fun b25 => [(2, .ptr 2 0)]) (fun b25 => [(2, .cells [.i 0, .i 0])]) .ret (fun b26 => [(2, .ptr 2 0)]) (fun b26 => [(2, .cells [.i b26.Code, .i b26.Index])]) rfl rfl (fun s24 x28 hr => ?_) (fun b25 hr => ?_) (fun b26 hr => ?_)
     ·
      unfold R_MessageFault_l2 at hr
      refine rn tk 6 rfl ?_
      refine wn tk rfl rfl rfl ?_
      refine rn tk 3 rfl ?_
      refine ac 46 hr rfl (fun c29 hr => ?_) (fun c29 hr => ?_)
      ·
       refine rn tk 2 rfl ?_
       refine jk (fun j30 => [(1, .ptr 1 0), (2, .ptr 2 0), (5, .i j30.1), (6, .i j30.2)]) (fun j30 => [(2, .cells [.i 0, .i 0]), (1, .cells [.l TField.pc a0.Fields, .l cU a0.Body])]) (fun j30 => R_MessageFault_k3  j30 = some x28) ?_ ?_
       ·
        refine rn tk 6 rfl ?_
        obtain ⟨v31, h32, hr⟩ := bind_some hr
        refine wi tk h32 rfl rfl rfl rfl rfl ?_
        refine rn tk 5 rfl ?_
        refine jb hr (fun j33 => [(1, .ptr 1 0), (2, .ptr 2 0), (5, .i s24.1), (6, .i s24.2), (7, .u8 v31), (72, .bo j33)]) (fun j33 => [(2, .cells [.i 0, .i 0]), (1, .cells [.l TField.pc a0.Fields, .l cU a0.Body])]) (fun j33 hr => ?_) (fun j33 hr => ?_)
        ·
         refine rn tk 4 rfl ?_
         refine bs 56 hr rfl (fun c34 hr => ?_) (fun c34 hr => ?_)
         ·
          refine rn tk 4 rfl ?_
          refine ug rfl rfl rfl ?_
          refine wn tk rfl rfl rfl ?_
          refine rn tk 3 rfl ?_
          refine bs 64 hr rfl (fun c35 hr => ?_) (fun c35 hr => ?_)
          ·
           refine rn tk 4 rfl ?_
           obtain ⟨v36, h37, hr⟩ := bind_some hr
           refine ug rfl rfl rfl ?_
           refine wi tk h37 rfl rfl rfl rfl rfl ?_
           refine rn tk 4 rfl ?_
           cases hr
           exact jn _ rfl rfl rfl
          ·
           refine rn tk 9 rfl ?_
           cases hr
           exact jn _ rfl rfl rfl
         ·
          refine rn tk 17 rfl ?_
          cases hr
          exact jn _ rfl rfl rfl
        ·
         refine ac 72 hr rfl (fun c38 hr => ?_) (fun c38 hr => ?_)
         ·
          refine rn tk 15 rfl ?_
          exact jn ((0, (w64 (s24.2 + 1)))) hr rfl rfl
         ·
          refine rn tk 3 rfl ?_
          refine jb hr (fun j39 => [(1, .ptr 1 0), (2, .ptr 2 0), (5, .i s24.1), (6, .i s24.2), (80, .bo j39)]) (fun j39 => [(2, .cells [.i 0, .i 0]), (1, .cells [.l TField.pc a0.Fields, .l cU a0.Body])]) (fun j39 hr => ?_) (fun j39 hr => ?_)
          ·
           refine rn tk 4 rfl ?_
           refine bs 77 hr rfl (fun c40 hr => ?_) (fun c40 hr => ?_)
           ·
            refine rn tk 4 rfl ?_
            cases hr
            exact jn _ rfl rfl rfl
           ·
            refine rn tk 4 rfl ?_
            cases hr
            exact jn _ rfl rfl rfl
          ·
           refine ac 80 hr rfl (fun c41 hr => ?_) (fun c41 hr => ?_)
           ·
            refine rn tk 2 rfl ?_
            obtain ⟨v42, h43, hr⟩ := bind_some hr
            refine cl (R_At_run _ _ _ h43) rfl rfl ?_
            refine rn tk 7 rfl ?_
            cases hr
            exact ato rfl rfl rfl rfl
           ·
            refine rn tk 15 rfl ?_
            refine ac 85 hr rfl (fun c44 hr => ?_) (fun c44 hr => ?_)
            ·
             refine rn tk 2 rfl ?_
             obtain ⟨v45, h46, hr⟩ := bind_some hr
             refine cl (R_At_run _ _ _ h46) rfl rfl ?_
             refine rn tk 6 rfl ?_
             cases hr
             exact ato rfl rfl rfl rfl
            ·
             refine rn tk 2 rfl ?_
             exact jn (((w64 (s24.1 + 1)), s24.2)) hr rfl rfl
       ·
        intro j30 hr
        unfold R_MessageFault_k3 at hr
        refine rn tk 5 rfl ?_
        cases hr
        exact atc rfl rfl
      ·
       refine rn tk 2 rfl ?_
       cases hr
       exact ato rfl rfl rfl rfl
     ·
      refine rn tk 9 rfl ?_
      cases hr
      exact kr tk (.inr rfl) rfl rfl
     ·
      refine rn tk 2 rfl ?_
      cases hr
      exact kr tk (.inr rfl) rfl rfl
  ·
   refine rn tk 2 rfl ?_
   cases hr
   exact kr tk (.inr rfl) rfl rfl
theorem L_TraceHopsMatchSpec_run (a0 : TMessage) (a1 : Str) (r : Bool) (hr : L_TraceHopsMatchSpec a0 a1 = some r) : Run Tryz.prog 4 [.agg [.l TField.pc a0.Fields, .l cU a0.Body], .s a1] (.bo r) := by
 unfold L_TraceHopsMatchSpec at hr
 refine rf (fn := Tryz.f4) ⟨Tryz.func4, rfl, by kernel_rfl⟩ rfl (fun _ => rfl) fun g0 hg => ?_
 refine rn tk 9 rfl ?_
 obtain ⟨v1, h2, hr⟩ := bind_some hr
 refine cl (R_MessageFault_run _ _ h2) rfl rfl ?_
 refine rn tk 7 rfl ?_
 obtain ⟨v3, h4, hr⟩ := bind_some hr
 refine cl (trace_Hops_run _ _ h4) rfl rfl ?_
 refine rn tk 12 rfl ?_
 obtain ⟨v5, h6, hr⟩ := bind_some hr
 refine cl (trace_Loops_run _ _ _ h6) rfl rfl ?_
 refine rn tk 9 rfl ?_
 refine jb hr (fun j7 => [(1, .s a1), (2, .ptr 2 0), (5, .ptr 5 0), (6, .l cS v3.1), (7, .ptr 7 0), (8, .bo v5.1), (9, .ptr 9 0), (37, .bo j7)]) (fun j7 => [(9, .cells [.i v5.2.Code, .i v5.2.Index]), (7, .cells [.i v3.2.Code, .i v3.2.Index]), (5, .cells [.i v1.Code, .i v1.Index]), (2, .cells [.l TField.pc a0.Fields, .l cU a0.Body])]) (fun j7 hr => ?_) (fun j7 hr => ?_)
 ·
  refine rn tk 1 rfl ?_
  obtain ⟨v8, h9, hr⟩ := bind_some hr
  refine cl (L_stamps_run _ h9) rfl rfl ?_
  refine rn tk 2 rfl ?_
  refine bs 28 hr rfl (fun c10 hr => ?_) (fun c10 hr => ?_)
  ·
   refine rn tk 10 rfl ?_
   cases hr
   exact jn _ rfl rfl rfl
  ·
   refine rn tk 2 rfl ?_
   refine ug rfl rfl rfl ?_
   refine wq (ev_structne rfl rfl ty_api_Fault cmp_api_Fault (.int rfl (by decide) ty_int (.int rfl (by decide) ty_int .nil))) rfl rfl rfl ?_
   refine rn tk 2 rfl ?_
   refine bs 33 hr rfl (fun c11 hr => ?_) (fun c11 hr => ?_)
   ·
    refine rn tk 5 rfl ?_
    cases hr
    exact jn _ rfl rfl rfl
   ·
    refine rn tk 5 rfl ?_
    cases hr
    exact jn _ rfl rfl rfl
 ·
  refine ac 37 hr rfl (fun c12 hr => ?_) (fun c12 hr => ?_)
  ·
   refine jb hr (fun j13 => [(4, .bo j13)]) (fun j13 => []) (fun j13 hr => ?_) (fun j13 hr => ?_)
   ·
    refine rn tk 1 rfl ?_
    obtain ⟨v14, h15, hr⟩ := bind_some hr
    refine cl (L_stamps_run _ h15) rfl rfl ?_
    refine rn tk 1 rfl ?_
    refine bs 39 hr rfl (fun c16 hr => ?_) (fun c16 hr => ?_)
    ·
     refine rn tk 2 rfl ?_
     refine ug rfl rfl rfl ?_
     refine wq (ev_structeq rfl rfl ty_api_Fault cmp_api_Fault (.int rfl (by decide) ty_int (.int rfl (by decide) ty_int .nil))) rfl rfl rfl ?_
     refine rn tk 2 rfl ?_
     refine bs 44 hr rfl (fun c17 hr => ?_) (fun c17 hr => ?_)
     ·
      refine rn tk 2 rfl ?_
      refine ug rfl rfl rfl ?_
      refine wq (ev_structeq rfl rfl ty_api_Fault cmp_api_Fault (.int rfl (by decide) ty_int (.int rfl (by decide) ty_int .nil))) rfl rfl rfl ?_
      refine rn tk 2 rfl ?_
      refine bs 49 hr rfl (fun c18 hr => ?_) (fun c18 hr => ?_)
      ·
       refine rn tk 1 rfl ?_
       refine ug rfl rfl rfl ?_
       refine wn tk rfl rfl rfl ?_
       refine rn tk 3 rfl ?_
       refine bs 54 hr rfl (fun c19 hr => ?_) (fun c19 hr => ?_)
       ·
        refine rn tk 5 rfl ?_
        cases hr
        exact jn _ rfl rfl rfl
       ·
        refine rn tk 5 rfl ?_
        cases hr
        exact jn _ rfl rfl rfl
      ·
       refine rn tk 10 rfl ?_
       cases hr
       exact jn _ rfl rfl rfl
     ·
      refine rn tk 15 rfl ?_
      cases hr
      exact jn _ rfl rfl rfl
    ·
     refine rn tk 20 rfl ?_
     cases hr
     exact jn _ rfl rfl rfl
   ·
    refine rn tk 2 rfl ?_
    cases hr
    exact kr tk (.inr rfl) rfl rfl
  ·
   refine rn tk 5 rfl ?_
   obtain ⟨v20, h21, hr⟩ := bind_some hr
   refine cl (R_HostsOf_run _ _ h21) rfl rfl ?_
   refine rn tk 7 rfl ?_
   obtain ⟨v22, h23, hr⟩ := bind_some hr
   refine cl (R_NameOk_run _ _ h23) rfl rfl ?_
   refine rn tk 3 rfl ?_
   refine ac 62 hr rfl (fun c24 hr => ?_) (fun c24 hr => ?_)
   ·
    refine jb hr (fun j25 => [(4, .bo j25)]) (fun j25 => []) (fun j25 hr => ?_) (fun j25 hr => ?_)
    ·
     obtain ⟨v26, h27, hr⟩ := bind_some hr
     refine bool_split v26 (fun c28 => ?_) (fun c28 => ?_)
     ·
      replace hr := cond_t c28 hr
      obtain ⟨v29, h30, hr⟩ := bind_some hr
      refine dr 6 [(68, .agg [.i v29.Code, .i v29.Index]), (67, .agg [.i v5.2.Code, .i v5.2.Index]), (66, .bo v26), (65, .bo v26), (64, .l cS v20), (63, .l cS v3.1)] mixed (by kernel_rfl) rfl rfl (pq tk rfl (.plain rfl) (pq tk rfl (.plain rfl) (.run (.plain rfl) (opG_call (R_Strings_run v3.1 v20 v26 h27) rfl) (pq tk rfl (.plain rfl) (pq tk rfl (.yes (d := 66) rfl rfl rfl c28) (.run (.yes (d := 66) rfl rfl rfl c28) (opG_call (R_At_run 10 ((-10)) v29 h30) rfl) .nil)))))) rfl ?_
      refine kn 66 c28 rfl ?_
      refine ug rfl rfl rfl ?_
      refine wq (ev_structeq rfl rfl ty_api_Fault cmp_api_Fault (.int rfl (by decide) ty_int (.int rfl (by decide) ty_int .nil))) rfl rfl rfl ?_
      refine rn tk 2 rfl ?_
      refine bs 71 hr rfl (fun c31 hr => ?_) (fun c31 hr => ?_)
      ·
       refine rn tk 5 rfl ?_
       cases hr
       exact jn _ rfl rfl rfl
      ·
       refine rn tk 5 rfl ?_
       cases hr
       exact jn _ rfl rfl rfl
     ·
      replace hr := cond_f c28 hr
      refine dr 6 [(68, .tup []), (67, .tup []), (66, .bo v26), (65, .bo v26), (64, .l cS v20), (63, .l cS v3.1)] mixed (by kernel_rfl) rfl rfl (pq tk rfl (.plain rfl) (pq tk rfl (.plain rfl) (.run (.plain rfl) (opG_call (R_Strings_run v3.1 v20 v26 h27) rfl) (pq tk rfl (.plain rfl) (.skip (.no (d := 66) rfl rfl rfl c28) (.skip (.no (d := 66) rfl rfl rfl c28) .nil)))))) rfl ?_
      refine kn 66 c28 rfl ?_
      refine rn tk 8 rfl ?_
      cases hr
      exact jn _ rfl rfl rfl
    ·
     refine rn tk 2 rfl ?_
     cases hr
     exact kr tk (.inr rfl) rfl rfl
   ·
    refine rn tk 14 rfl ?_
    refine al1 hr (fun s32 => [(1, .s a1), (6, .l cS v3.1), (8, .bo v5.1), (9, .ptr 9 0), (10, .l cS v20), (11, .i s32.1), (12, .i s32.2)]) (fun s32 => [(9, .cells [.i v5.2.Code, .i v5.2.Index])]) (.exit 0) (fun b33 => [(6, .l cS v3.1), (8, .bo v5.1), (9, .ptr 9 0), (10, .l cS v20), (11, .i b33)]) (fun b33 => [(9, .cells [.i v5.2.Code, .i v5.2.Index])]) rfl rfl (fun s32 x34 hr => ?_) (fun b33 hr => ?_)
    ·
     unfold L_TraceHopsMatchSpec_l1 at hr
     refine rn tk 5 rfl ?_
     refine wn tk rfl rfl rfl ?_
     refine rn tk 3 rfl ?_
     refine ac 78 hr rfl (fun c35 hr => ?_) (fun c35 hr => ?_)
     ·
      refine rn tk 2 rfl ?_
      refine jb hr (fun j36 => [(1, .s a1), (6, .l cS v3.1), (8, .bo v5.1), (9, .ptr 9 0), (10, .l cS v20), (11, .i j36), (12, .i s32.2)]) (fun j36 => [(9, .cells [.i v5.2.Code, .i v5.2.Index])]) (fun j36 hr => ?_) (fun j36 hr => ?_)
      ·
       refine rn tk 5 rfl ?_
       obtain ⟨v37, h38, hr⟩ := bind_some hr
       refine wi tk h38 rfl rfl rfl rfl rfl ?_
       refine rn tk 5 rfl ?_
       refine ac 86 hr rfl (fun c39 hr => ?_) (fun c39 hr => ?_)
       ·
        refine rn tk 6 rfl ?_
        cases hr
        exact jn _ rfl rfl rfl
       ·
        refine rn tk 2 rfl ?_
        cases hr
        exact jn _ rfl rfl rfl
      ·
       refine rn tk 5 rfl ?_
       cases hr
       exact atc rfl rfl
     ·
      refine rn tk 2 rfl ?_
      cases hr
      exact ato rfl rfl rfl rfl
    ·
     refine rn tk 2 rfl ?_
     refine jb hr (fun j40 => [(4, .bo j40)]) (fun j40 => []) (fun j40 hr => ?_) (fun j40 hr => ?_)
     ·
      refine rn tk 3 rfl ?_
      obtain ⟨v41, h42, hr⟩ := bind_some hr
      refine cl (R_Strings_run _ _ _ h42) rfl rfl ?_
      refine rn tk 1 rfl ?_
      refine bs 92 hr rfl (fun c43 hr => ?_) (fun c43 hr => ?_)
      ·
       refine rn tk 5 rfl ?_
       refine bs 97 hr rfl (fun c44 hr => ?_) (fun c44 hr => ?_)
       ·
        refine rn tk 2 rfl ?_
        refine ug rfl rfl rfl ?_
        refine wn tk rfl rfl rfl ?_
        refine rn tk 2 rfl ?_
        refine bs 102 hr rfl (fun c45 hr => ?_) (fun c45 hr => ?_)
        ·
         refine rn tk 7 rfl ?_
         cases hr
         exact jn _ rfl rfl rfl
        ·
         refine rn tk 7 rfl ?_
         cases hr
         exact jn _ rfl rfl rfl
       ·
        refine rn tk 12 rfl ?_
        cases hr
        exact jn _ rfl rfl rfl
      ·
       refine rn tk 17 rfl ?_
       cases hr
       exact jn _ rfl rfl rfl
     ·
      refine rn tk 1 rfl ?_
      cases hr
      exact kr tk (.inr rfl) rfl rfl
end Go.Proofs.YtpbanomkkkongaaGreatDoor

namespace Go.Proofs.YtpbanomkkkongaaGreatDoor.traceHopsMatchSpec
open Go.ChangeShapes Go.WideShapes Go.ChangeAt Go.RowKit
set_option linter.unusedVariables false
set_option maxRecDepth 100000

theorem contract (H : Type) (enc : TypeId × Value → H) (W : World) (base : Nat) (args : Array Value) (ds gs : List (DataW H)) (before : List MemPlace)
    (hval : ∀ (j : Nat) t v, Tryz.f4.params[j]? = some t → args[j]? = some v → Value.okWide Tryz.prog W .any base t v)
    (hW : DataW.Whole enc Tryz.prog Tryz.f4.params.toList Rows.traceHopsMatchSpecSpec.vars false W args.toList ds gs before) (hk : Rows.uptoSmall H (ds ++ gs) = true) (hgl : Gl (gAll W)) :
    Calls Tryz.prog 4 args W fun e W' => ∃ v, e = .returned v ∧ Rows.traceHopsMatchSpecSpec.post enc Tryz.prog Tryz.f4 false true false false W args v W' := by
  have hW' := hW
  obtain ⟨p, q, hA0, hV, rfl, hfz, hnd⟩ := hW
  have hA : DataW.TrodAll enc Tryz.prog W 0 (fun _ => true) true Tryz.f4.params.toList args.toList ds p := hA0
  rw [Tryz.params4] at hA hval
  obtain ⟨v0, vs0, d0, ds0, p0, q0, hargs, rfl, rfl, h0, r0⟩ := trodAll_cons hA
  obtain ⟨v1, vs1, d1, ds1, p1, q1, rfl, rfl, rfl, h1, r1⟩ := trodAll_cons r0
  obtain ⟨rfl, rfl, rfl⟩ := trodAll_nil r1
  obtain rfl : args = #[v0, v1] := by cases args; simp_all
  obtain ⟨rfl, rfl⟩ := trodVars_none hV
  obtain ⟨a0, e0, o0, k0⟩ := arg_agg op_api_Message (by obtain ⟨cs, h, _⟩ := okWide_struct ty_api_Message.u (hval 0 _ v0 rfl rfl); exact ⟨cs, h⟩) h0
  obtain ⟨a1, e1, o1, k1⟩ := arg_one op_string (by obtain ⟨_, h⟩ := okWide_string ty_string.u (hval 1 _ v1 rfl rfl); rw [h]; rfl) h1
  have hk2 := of_decide_eq_true hk
  simp only [List.append_nil, Rows.uptoBulkAll] at hk2
  have ht := L_TraceHopsMatchSpec_true a0 a1 o0 o1 (by (try dsimp only); omega)
  have key : Calls Tryz.prog 4 #[v0, v1] W fun e W' => e = .returned (.bool true) ∧ Below W.heap.size W W' := calls_of_run (L_TraceHopsMatchSpec_run a0 a1 true ht) hgl (relArgs_of (.cons e0 (.cons (e1 _ rfl) .nil)))
  refine key.mono fun e W' ⟨he, hb⟩ => ⟨_, he, ?_⟩
  exact post_true laidOut (by kernel_rfl) Tryz.underlying4 (by kernel_rfl) rfl rfl hW' hb

/-- a world for the witness -/
noncomputable def wit (os : Os) : World := let w0 := World.doorLaid Tryz.prog 34 os
  { w0 with heap := w0.heap.modify 2 fun
    | .cells _ t fz => .cells (Lib.firstTab.map fun z => Value.int .u8 z).toArray t fz
    | o => o }
theorem reads (os : Os) {H : Type} (enc : TypeId × Value → H) : ∃ places, DataW.whole enc Tryz.prog ((wit os).forCall (fun _ _ => 0) ⟨#[], #[.agg #[.slice none 0 0, .slice none 0 0], .string ⟨#[]⟩], []⟩).memory Tryz.f4.params.toList (Rows.OpenSpec.upto Rows.traceHopsMatchSpecSpec).vars false (#[.agg #[.slice none 0 0, .slice none 0 0], .string ⟨#[]⟩] : Array Value).toList 8 = some ([.agg [.nil, .nil], .lit (.string [])], [], places) :=
  ⟨[], by kernel_rfl⟩
theorem lifted (os : Os) (started : os.Started) (H : Type) (enc : TypeId × Value → H) (F : Stop.Interp) :
    ReturnsInHanded {} Tryz.checked os 4 .any ((Rows.OpenSpec.upto Rows.traceHopsMatchSpecSpec).preRow enc Tryz.prog Tryz.f4 Rows.traceHopsMatchSpecUptoRow.domain false Rows.traceHopsMatchSpecUptoRow.laid) (((Rows.OpenSpec.upto Rows.traceHopsMatchSpecSpec).at F).post enc Tryz.prog Tryz.f4 false true false false) := by
  obtain ⟨places, hx⟩ := reads os enc
  refine returnsInHanded_of_row (C := Tryz.checked) (s := Rows.OpenSpec.upto Rows.traceHopsMatchSpecSpec) own started (by kernel_rfl) Tryz.func4
    (witness_row_atRef (enc := enc) (C := Tryz.checked) false (wit os) #[.agg #[.slice none 0 0, .slice none 0 0], .string ⟨#[]⟩] rfl (by kernel_rfl) (by kernel_rfl) (by kernel_rfl)
      (OpenSpec.preRow_of_cond 8 hx (by kernel_rfl) (fun k hk => by cases hk; kernel_rfl) (by kernel_rfl) (laidMet_of_run' 8 (by kernel_rfl) (by kernel_rfl)))) ?_
  intro W base args ds gs before hval hW _ hk _ hL hsh _
  exact contract H enc W base args ds gs before hval hW (hk _ rfl) (gl_of_laid (rest := Rows.traceHopsMatchSpecUptoRow.laid.drop 3) hsh (by kernel_rfl) hL)

theorem j0 : jf0 Tryz.pinned.checked.prog 4 Tryz.f4 (Rows.OpenSpec.upto Rows.traceHopsMatchSpecSpec).bare Rows.traceHopsMatchSpecUptoRow = true := by kernel_rfl
theorem j1 : jf1 Tryz.pinned.checked.prog 4 Tryz.f4 (Rows.OpenSpec.upto Rows.traceHopsMatchSpecSpec).bare Rows.traceHopsMatchSpecUptoRow = true := by kernel_rfl
theorem j2 : jf2 Tryz.pinned.checked.prog 4 Tryz.f4 (Rows.OpenSpec.upto Rows.traceHopsMatchSpecSpec).bare Rows.traceHopsMatchSpecUptoRow = true := by kernel_rfl
theorem j3 : jf3 Tryz.pinned.checked.prog 4 Tryz.f4 (Rows.OpenSpec.upto Rows.traceHopsMatchSpecSpec).bare Rows.traceHopsMatchSpecUptoRow = true := by kernel_rfl
theorem j4 : jf4 Tryz.pinned.checked.prog 4 Tryz.f4 (Rows.OpenSpec.upto Rows.traceHopsMatchSpecSpec).bare Rows.traceHopsMatchSpecUptoRow = true := by kernel_rfl
theorem j5 : jf5 Tryz.pinned.checked.prog 4 Tryz.f4 (Rows.OpenSpec.upto Rows.traceHopsMatchSpecSpec).bare Rows.traceHopsMatchSpecUptoRow = true := by kernel_rfl
theorem j6 : jf6 Tryz.pinned.checked.prog 4 Tryz.f4 (Rows.OpenSpec.upto Rows.traceHopsMatchSpecSpec).bare Rows.traceHopsMatchSpecUptoRow = true := by kernel_rfl
theorem j7 : jf7 Tryz.pinned.checked.prog 4 Tryz.f4 (Rows.OpenSpec.upto Rows.traceHopsMatchSpecSpec).bare Rows.traceHopsMatchSpecUptoRow = true := by kernel_rfl
theorem j8 : jf8 Tryz.pinned.checked.prog 4 Tryz.f4 (Rows.OpenSpec.upto Rows.traceHopsMatchSpecSpec).bare Rows.traceHopsMatchSpecUptoRow = true := by kernel_rfl
theorem j9 : jf9 Tryz.pinned.checked.prog 4 Tryz.f4 (Rows.OpenSpec.upto Rows.traceHopsMatchSpecSpec).bare Rows.traceHopsMatchSpecUptoRow = true := by kernel_rfl
theorem j10 : jf10 Tryz.pinned.checked.prog 4 Tryz.f4 (Rows.OpenSpec.upto Rows.traceHopsMatchSpecSpec).bare Rows.traceHopsMatchSpecUptoRow = true := by kernel_rfl
theorem j11 : jf11 Tryz.pinned.checked.prog 4 Tryz.f4 (Rows.OpenSpec.upto Rows.traceHopsMatchSpecSpec).bare Rows.traceHopsMatchSpecUptoRow = true := by kernel_rfl
theorem j12 : jf12 Tryz.pinned.checked.prog 4 Tryz.f4 (Rows.OpenSpec.upto Rows.traceHopsMatchSpecSpec).bare Rows.traceHopsMatchSpecUptoRow = true := by kernel_rfl
theorem j13 : jf13 Tryz.pinned.checked.prog 4 Tryz.f4 (Rows.OpenSpec.upto Rows.traceHopsMatchSpecSpec).bare Rows.traceHopsMatchSpecUptoRow = true := by kernel_rfl
theorem j14 : jf14 Tryz.pinned.checked.prog 4 Tryz.f4 (Rows.OpenSpec.upto Rows.traceHopsMatchSpecSpec).bare Rows.traceHopsMatchSpecUptoRow = true := by kernel_rfl
theorem j15 : jf15 Tryz.pinned.checked.prog 4 Tryz.f4 (Rows.OpenSpec.upto Rows.traceHopsMatchSpecSpec).bare Rows.traceHopsMatchSpecUptoRow = true := by kernel_rfl
theorem j16 : jf16 Tryz.pinned.checked.prog 4 Tryz.f4 (Rows.OpenSpec.upto Rows.traceHopsMatchSpecSpec).bare Rows.traceHopsMatchSpecUptoRow = true := by kernel_rfl
theorem j17 : jf17 Tryz.pinned.checked.prog 4 Tryz.f4 (Rows.OpenSpec.upto Rows.traceHopsMatchSpecSpec).bare Rows.traceHopsMatchSpecUptoRow = true := by kernel_rfl
theorem j18 : jf18 Tryz.pinned.checked.prog 4 Tryz.f4 (Rows.OpenSpec.upto Rows.traceHopsMatchSpecSpec).bare Rows.traceHopsMatchSpecUptoRow = true := by kernel_rfl
theorem j19 : jf19 Tryz.pinned.checked.prog 4 Tryz.f4 (Rows.OpenSpec.upto Rows.traceHopsMatchSpecSpec).bare Rows.traceHopsMatchSpecUptoRow = true := by kernel_rfl
theorem j20 : jf20 Tryz.pinned.checked.prog 4 Tryz.f4 (Rows.OpenSpec.upto Rows.traceHopsMatchSpecSpec).bare Rows.traceHopsMatchSpecUptoRow = true := by kernel_rfl
theorem j21 : jf21 Tryz.pinned.checked.prog 4 Tryz.f4 (Rows.OpenSpec.upto Rows.traceHopsMatchSpecSpec).bare Rows.traceHopsMatchSpecUptoRow = true := by kernel_rfl
theorem j22 : jf22 Tryz.pinned.checked.prog 4 Tryz.f4 (Rows.OpenSpec.upto Rows.traceHopsMatchSpecSpec).bare Rows.traceHopsMatchSpecUptoRow = true := by kernel_rfl
theorem j23 : jf23 Tryz.pinned.checked.prog 4 Tryz.f4 (Rows.OpenSpec.upto Rows.traceHopsMatchSpecSpec).bare Rows.traceHopsMatchSpecUptoRow = true := by kernel_rfl
theorem j24 : jf24 Tryz.pinned.checked.prog 4 Tryz.f4 (Rows.OpenSpec.upto Rows.traceHopsMatchSpecSpec).bare Rows.traceHopsMatchSpecUptoRow = true := by kernel_rfl
theorem j25 : jf25 Tryz.pinned.checked.prog 4 Tryz.f4 (Rows.OpenSpec.upto Rows.traceHopsMatchSpecSpec).bare Rows.traceHopsMatchSpecUptoRow = true := by kernel_rfl
theorem j26 : jf26 Tryz.pinned.checked.prog 4 Tryz.f4 (Rows.OpenSpec.upto Rows.traceHopsMatchSpecSpec).bare Rows.traceHopsMatchSpecUptoRow = true := by kernel_rfl
theorem j27 : jf27 Tryz.pinned.checked.prog 4 Tryz.f4 (Rows.OpenSpec.upto Rows.traceHopsMatchSpecSpec).bare Rows.traceHopsMatchSpecUptoRow = true := by kernel_rfl
theorem j28 : jf28 Tryz.pinned.checked.prog 4 Tryz.f4 (Rows.OpenSpec.upto Rows.traceHopsMatchSpecSpec).bare Rows.traceHopsMatchSpecUptoRow = true := by kernel_rfl
theorem j29 : jf29 Tryz.pinned.checked.prog 4 Tryz.f4 (Rows.OpenSpec.upto Rows.traceHopsMatchSpecSpec).bare Rows.traceHopsMatchSpecUptoRow = true := by kernel_rfl
theorem j30 : jf30 Tryz.pinned.checked.prog 4 Tryz.f4 (Rows.OpenSpec.upto Rows.traceHopsMatchSpecSpec).bare Rows.traceHopsMatchSpecUptoRow = true := by kernel_rfl
theorem j31 : jf31 Tryz.pinned.checked.prog 4 Tryz.f4 (Rows.OpenSpec.upto Rows.traceHopsMatchSpecSpec).bare Rows.traceHopsMatchSpecUptoRow = true := by kernel_rfl
theorem said : Rows.traceHopsMatchSpecUptoRow.holds Tryz.pinned (Rows.OpenSpec.upto Rows.traceHopsMatchSpecSpec) :=
  OpenClaim.holds_of_cond 4 Tryz.f4 rfl rfl rfl rfl rfl rfl rfl ⟨rfl, rfl, rfl, rfl, rfl⟩ rfl rfl rfl rfl rfl (by kernel_rfl) Tryz.func4 (joined_of j0 j1 j2 j3 j4 j5 j6 j7 j8 j9 j10 j11 j12 j13 j14 j15 j16 j17 j18 j19 j20 j21 j22 j23 j24 j25 j26 j27 j28 j29 j30 j31)
    (of_decide_eq_true (by kernel_rfl)) (by unfold Func.isWrapper; first | (rw [if_pos (by decide +kernel)]; kernel_rfl) | (rw [if_neg (by decide +kernel)]; exact ⟨rfl, rfl⟩))
    (fun os started H enc _ F => by rw [OpenClaim.pre_eq_preRow]; exact lifted os started H enc F)

theorem plain (f : FuncId) (fn : Func) (hf : Tryz.pinned.checked.prog.funcNamed "posthouse/posthouselaw3.TraceHopsMatchSpec" = some f) (hfn : Tryz.pinned.checked.prog.funcs[f]? = some fn) :
    false = Tryz.pinned.checked.prog.looks [] ∧ ∀ (j : Nat) t, fn.params[j]? = some t → Tryz.pinned.checked.prog.wantsStandIn t = false := by
  obtain rfl : f = 4 := Option.some.inj ((show Tryz.prog.funcNamed "posthouse/posthouselaw3.TraceHopsMatchSpec" = some 4 by kernel_rfl).symm.trans hf) |>.symm
  obtain rfl : fn = Tryz.f4 := (Option.some.inj (Tryz.func4.symm.trans hfn)).symm
  refine ⟨by kernel_rfl, fun j t ht => ?_⟩
  rw [Tryz.params4] at ht
  have hm := Array.mem_of_getElem? ht
  simp only [List.mem_toArray, List.mem_cons, List.not_mem_nil, or_false] at hm
  rcases hm with rfl | rfl
  · exact (show Tryz.prog.wantsStandIn 25 = false by kernel_rfl)
  · exact (show Tryz.prog.wantsStandIn 9 = false by kernel_rfl)
theorem proved : Rows.TraceHopsMatchSpecUptoCardSaid :=
  Claim7.holds_tied_plain_at .later [] _ _ _ _ said (fun _ h => by cases h) (by kernel_rfl) (fun _ h => by cases h) traceHopsMatchSpecUpto_row_tie rfl ⟨rfl, rfl⟩ (by kernel_rfl) rfl plain (by kernel_rfl)
#print axioms proved
end Go.Proofs.YtpbanomkkkongaaGreatDoor.traceHopsMatchSpec
