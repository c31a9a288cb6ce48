/- The law NoticeMatchesSpec holds for every input of bulk up to the given bound: it returns true and leaves its arguments as they were. Written by program. -/
import Derived.Test.YtfkgmcilaiblfaaGreatDoorKNoticeMatchesSpec5
set_option linter.unusedVariables false
set_option linter.unusedSimpArgs false
namespace Go.Proofs.YtfkgmcilaiblfaaGreatDoor
open Go.RowKit
set_option maxRecDepth 100000
set_option maxHeartbeats 40000000
set_option linter.unusedVariables false
theorem R_FieldLines_run (a0 : Str) (a1 : Str) (r : List Str) (hr : R_FieldLines a0 a1 = some r) : Run Tryz.prog 149 [.s a0, .s a1] (.l cS r) := by
 unfold R_FieldLines at hr
 refine rf (fn := Tryz.f149) ⟨Tryz.func149, rfl, by kernel_rfl⟩ rfl (fun _ => rfl) fun g0 hg => ?_
 refine rn tk 8 rfl ?_
 obtain ⟨v1, h2, hr⟩ := bind_some hr
 refine wc h2 rfl rfl rfl ?_
 refine rn tk 1 rfl ?_
 obtain ⟨v3, h4, hr⟩ := bind_some hr
 refine wc h4 rfl rfl rfl ?_
 refine rn tk 14 rfl ?_
 refine awpl_adopt 1007 (d := 7) 9 1 rfl rfl rfl (hO ?_)
 refine rn tk 4 rfl ?_
 refine al1 hr (fun s5 => [(5, .s s5.1), (6, .i s5.2.1), (7, .hs 1007 0)]) (fun s5 => [(1007, .row 9 false 1 (List.map cS s5.2.2))]) (.exit 0) (fun b6 => [(5, .s b6.1), (7, .hs 1007 0)]) (fun b6 => [(1007, .row 9 false 1 (List.map cS b6.2))]) rfl rfl (fun s5 x7 hr => ?_) (fun b6 hr => ?_)
 ·
  unfold R_FieldLines_l1 at hr
  refine rn tk 8 rfl ?_
  refine ac 20 hr rfl (fun c8 hr => ?_) (fun c8 hr => ?_)
  ·
   refine rn tk 15 rfl ?_
   refine al1 hr (fun s9 => [(5, .s s5.1), (6, .i s5.2.1), (7, .hs 1007 0), (8, .i s9.1), (9, .i s9.2)]) (fun s9 => [(1007, .row 9 false 1 (List.map cS s5.2.2))]) (.exit 2) (fun b10 => [(5, .s s5.1), (6, .i s5.2.1), (7, .hs 1007 0), (8, .i b10)]) (fun b10 => [(1007, .row 9 false 1 (List.map cS s5.2.2))]) rfl rfl (fun s9 x11 hr => ?_) (fun b10 hr => ?_)
   ·
    unfold R_FieldLines_l2 at hr
    refine rn tk 1 rfl ?_
    refine jb hr (fun j12 => [(5, .s s5.1), (6, .i s5.2.1), (7, .hs 1007 0), (8, .i s9.1), (9, .i s9.2), (26, .bo j12)]) (fun j12 => [(1007, .row 9 false 1 (List.map cS s5.2.2))]) (fun j12 hr => ?_) (fun j12 hr => ?_)
    ·
     refine rn tk 4 rfl ?_
     refine bs 23 hr rfl (fun c13 hr => ?_) (fun c13 hr => ?_)
     ·
      refine rn tk 4 rfl ?_
      cases hr
      exact jn _ rfl rfl rfl
     ·
      refine rn tk 4 rfl ?_
      cases hr
      exact jn _ rfl rfl rfl
    ·
     refine ac 26 hr rfl (fun c14 hr => ?_) (fun c14 hr => ?_)
     ·
      refine rn tk 2 rfl ?_
      refine jb hr (fun j15 => [(5, .s s5.1), (6, .i s5.2.1), (7, .hs 1007 0), (8, .i j15), (9, .i s9.2)]) (fun j15 => [(1007, .row 9 false 1 (List.map cS s5.2.2))]) (fun j15 hr => ?_) (fun j15 hr => ?_)
      ·
       refine rn tk 1 rfl ?_
       refine jb hr (fun j16 => [(5, .s s5.1), (6, .i s5.2.1), (7, .hs 1007 0), (8, .i s9.1), (9, .i s9.2), (45, .bo j16)]) (fun j16 => [(1007, .row 9 false 1 (List.map cS s5.2.2))]) (fun j16 hr => ?_) (fun j16 hr => ?_)
       ·
        refine rn tk 5 rfl ?_
        refine bs 32 hr rfl (fun c17 hr => ?_) (fun c17 hr => ?_)
        ·
         refine rn tk 2 rfl ?_
         obtain ⟨v18, h19, hr⟩ := bind_some hr
         refine ug rfl rfl rfl ?_
         refine ws tk h19 rfl rfl rfl rfl ?_
         obtain ⟨v20, h21, hr⟩ := bind_some hr
         refine ug rfl rfl rfl ?_
         refine cl (R_blank_run _ _ h21) rfl rfl ?_
         refine rn tk 2 rfl ?_
         refine bs 38 hr rfl (fun c22 hr => ?_) (fun c22 hr => ?_)
         ·
          refine rn tk 3 rfl ?_
          obtain ⟨v23, h24, hr⟩ := bind_some hr
          refine ug rfl rfl rfl ?_
          refine ws tk h24 rfl rfl rfl rfl ?_
          obtain ⟨v25, h26, hr⟩ := bind_some hr
          refine ug rfl rfl rfl ?_
          refine cl (R_blank_run _ _ h26) rfl rfl ?_
          refine rn tk 3 rfl ?_
          cases hr
          exact jn _ rfl rfl rfl
         ·
          refine rn tk 8 rfl ?_
          cases hr
          exact jn _ rfl rfl rfl
        ·
         refine rn tk 14 rfl ?_
         cases hr
         exact jn _ rfl rfl rfl
       ·
        refine ac 45 hr rfl (fun c27 hr => ?_) (fun c27 hr => ?_)
        ·
         refine rn tk 5 rfl ?_
         cases hr
         exact jn _ rfl rfl rfl
        ·
         refine rn tk 2 rfl ?_
         cases hr
         exact jn _ rfl rfl rfl
      ·
       refine rn tk 5 rfl ?_
       cases hr
       exact atc rfl rfl
     ·
      refine rn tk 2 rfl ?_
      cases hr
      exact ato rfl rfl rfl rfl
   ·
    refine rn tk 9 rfl ?_
    refine al1 hr (fun s28 => [(5, .s s5.1), (6, .i s5.2.1), (7, .hs 1007 0), (8, .i s28.1), (10, .i s28.2)]) (fun s28 => [(1007, .row 9 false 1 (List.map cS s5.2.2))]) (.exit 4) (fun b29 => [(5, .s s5.1), (7, .hs 1007 0), (8, .i b29)]) (fun b29 => [(1007, .row 9 false 1 (List.map cS s5.2.2))]) rfl rfl (fun s28 x30 hr => ?_) (fun b29 hr => ?_)
    ·
     unfold R_FieldLines_l3 at hr
     refine rn tk 1 rfl ?_
     refine jb hr (fun j31 => [(5, .s s5.1), (6, .i s5.2.1), (7, .hs 1007 0), (8, .i s28.1), (10, .i s28.2), (54, .bo j31)]) (fun j31 => [(1007, .row 9 false 1 (List.map cS s5.2.2))]) (fun j31 hr => ?_) (fun j31 hr => ?_)
     ·
      refine rn tk 6 rfl ?_
      refine bs 51 hr rfl (fun c32 hr => ?_) (fun c32 hr => ?_)
      ·
       refine rn tk 4 rfl ?_
       cases hr
       exact jn _ rfl rfl rfl
      ·
       refine rn tk 4 rfl ?_
       cases hr
       exact jn _ rfl rfl rfl
     ·
      refine ac 54 hr rfl (fun c33 hr => ?_) (fun c33 hr => ?_)
      ·
       refine rn tk 2 rfl ?_
       refine jb hr (fun j34 => [(5, .s s5.1), (6, .i s5.2.1), (7, .hs 1007 0), (8, .i j34), (10, .i s28.2)]) (fun j34 => [(1007, .row 9 false 1 (List.map cS s5.2.2))]) (fun j34 hr => ?_) (fun j34 hr => ?_)
       ·
        refine rn tk 1 rfl ?_
        refine jb hr (fun j35 => [(5, .s s5.1), (6, .i s5.2.1), (7, .hs 1007 0), (8, .i s28.1), (10, .i s28.2), (73, .bo j35)]) (fun j35 => [(1007, .row 9 false 1 (List.map cS s5.2.2))]) (fun j35 hr => ?_) (fun j35 hr => ?_)
        ·
         refine rn tk 5 rfl ?_
         refine bs 60 hr rfl (fun c36 hr => ?_) (fun c36 hr => ?_)
         ·
          refine rn tk 2 rfl ?_
          obtain ⟨v37, h38, hr⟩ := bind_some hr
          refine ug rfl rfl rfl ?_
          refine ws tk h38 rfl rfl rfl rfl ?_
          obtain ⟨v39, h40, hr⟩ := bind_some hr
          refine ug rfl rfl rfl ?_
          refine cl (R_blank_run _ _ h40) rfl rfl ?_
          refine rn tk 2 rfl ?_
          refine bs 66 hr rfl (fun c41 hr => ?_) (fun c41 hr => ?_)
          ·
           refine rn tk 3 rfl ?_
           obtain ⟨v42, h43, hr⟩ := bind_some hr
           refine ug rfl rfl rfl ?_
           refine ws tk h43 rfl rfl rfl rfl ?_
           obtain ⟨v44, h45, hr⟩ := bind_some hr
           refine ug rfl rfl rfl ?_
           refine cl (R_blank_run _ _ h45) rfl rfl ?_
           refine rn tk 3 rfl ?_
           cases hr
           exact jn _ rfl rfl rfl
          ·
           refine rn tk 8 rfl ?_
           cases hr
           exact jn _ rfl rfl rfl
         ·
          refine rn tk 14 rfl ?_
          cases hr
          exact jn _ rfl rfl rfl
        ·
         refine ac 73 hr rfl (fun c46 hr => ?_) (fun c46 hr => ?_)
         ·
          refine rn tk 5 rfl ?_
          cases hr
          exact jn _ rfl rfl rfl
         ·
          refine rn tk 2 rfl ?_
          cases hr
          exact jn _ rfl rfl rfl
       ·
        refine rn tk 5 rfl ?_
        cases hr
        exact atc rfl rfl
      ·
       refine rn tk 2 rfl ?_
       cases hr
       exact ato rfl rfl rfl rfl
    ·
     refine rn tk 9 rfl ?_
     refine ac 76 hr rfl (fun c47 hr => ?_) (fun c47 hr => ?_)
     ·
      refine rn tk 3 rfl ?_
      cases hr
      exact ato rfl rfl rfl rfl
     ·
      refine rn tk 7 rfl ?_
      obtain ⟨v48, h49, hr⟩ := bind_some hr
      refine wscH tk h49 rfl rfl rfl rfl ?_
      refine wz cS ([v48] : List Str) tk rfl rfl (fun _ => rfl) rfl rfl rfl ?_
      obtain ⟨v50, h51, hr⟩ := bind_some hr
      refine wa tk h51 rfl rfl rfl rfl (fun _ => rfl) rfl rfl ?_
      refine rn tk 7 rfl ?_
      obtain ⟨v52, h53, hr⟩ := bind_some hr
      refine wscL tk h53 rfl rfl rfl rfl ?_
      refine rn tk 7 rfl ?_
      cases hr
      exact atc rfl rfl
  ·
   refine rn tk 2 rfl ?_
   cases hr
   exact ato rfl rfl rfl rfl
 ·
  refine rn tk 6 rfl ?_
  refine wz cS ([b6.1] : List Str) tk rfl rfl (fun _ => rfl) rfl rfl rfl ?_
  obtain ⟨v54, h55, hr⟩ := bind_some hr
  refine wa tk h55 rfl rfl rfl rfl (fun _ => rfl) rfl rfl ?_
  refine rn tk 3 rfl ?_
  refine awp_pub (d := 4) (F := cS) (l := v54) rfl rfl (hC ?_)
  refine rn tk 1 rfl ?_
  cases hr
  exact kr tk (.inr rfl) rfl rfl
theorem R_FieldCode_run (a0 : TField) (r : Int) (hr : R_FieldCode a0 = some r) : Run Tryz.prog 111 [.agg [.s a0.Name, .s a0.Value]] (.i r) := by
 unfold R_FieldCode at hr
 refine rf (fn := Tryz.f111) ⟨Tryz.func111, rfl, by kernel_rfl⟩ rfl (fun _ => rfl) fun g0 hg => ?_
 refine rn tk 13 rfl ?_
 refine al2 hr (fun s1 => [(1, .ptr 1 0), (3, .i s1)]) (fun s1 => [(1, .cells [.s a0.Name, .s a0.Value])]) (.exit 0) (fun b2 => [(1, .ptr 1 0)]) (fun b2 => [(1, .cells [.s a0.Name, .s a0.Value])]) .ret (fun b3 => [(2, .i b3)]) (fun b3 => []) rfl rfl (fun s1 x5 hr => ?_) (fun b2 hr => ?_) (fun b3 hr => ?_)
 ·
  unfold R_FieldCode_l1 at hr
  refine rn tk 10 rfl ?_
  refine ac 12 hr rfl (fun c6 hr => ?_) (fun c6 hr => ?_)
  ·
   refine rn tk 4 rfl ?_
   refine jb hr (fun j7 => [(1, .ptr 1 0), (3, .i s1), (28, .bo j7)]) (fun j7 => [(1, .cells [.s a0.Name, .s a0.Value])]) (fun j7 hr => ?_) (fun j7 hr => ?_)
   ·
    refine rn tk 4 rfl ?_
    obtain ⟨v8, h9, hr⟩ := bind_some hr
    refine ws tk h9 rfl rfl rfl rfl ?_
    refine wu tk rfl rfl rfl ?_
    obtain ⟨v10, h11, hr⟩ := bind_some hr
    refine cl (R_In_run _ _ _ _ h11) rfl rfl ?_
    refine rn tk 2 rfl ?_
    refine bs 22 hr rfl (fun c12 hr => ?_) (fun c12 hr => ?_)
    ·
     refine rn tk 7 rfl ?_
     cases hr
     exact jn _ rfl rfl rfl
    ·
     refine rn tk 3 rfl ?_
     obtain ⟨v13, h14, hr⟩ := bind_some hr
     refine ug rfl rfl rfl ?_
     refine ws tk h14 rfl rfl rfl rfl ?_
     refine rn tk 3 rfl ?_
     cases hr
     exact jn _ rfl rfl rfl
   ·
    refine ac 28 hr rfl (fun c15 hr => ?_) (fun c15 hr => ?_)
    ·
     refine rn tk 8 rfl ?_
     cases hr
     exact ato rfl rfl rfl rfl
    ·
     refine rn tk 8 rfl ?_
     cases hr
     exact atc rfl rfl
  ·
   refine rn tk 2 rfl ?_
   cases hr
   exact ato rfl rfl rfl rfl
 ·
  refine rn tk 8 rfl ?_
  obtain ⟨v16, h17, hr⟩ := bind_some hr
  refine cl (R_In_run _ _ _ _ h17) rfl rfl ?_
  refine rn tk 3 rfl ?_
  refine ac 33 hr rfl (fun c18 hr => ?_) (fun c18 hr => ?_)
  ·
   refine rn tk 7 rfl ?_
   cases hr
   exact kr tk (.inr rfl) rfl rfl
  ·
   refine rn tk 11 rfl ?_
   refine ac 37 hr rfl (fun c19 hr => ?_) (fun c19 hr => ?_)
   ·
    refine rn tk 7 rfl ?_
    cases hr
    exact kr tk (.inr rfl) rfl rfl
   ·
    refine rn tk 17 rfl ?_
    refine al2 hr (fun s20 => [(1, .ptr 1 0), (4, .i ((a0.Value.length : Int))), (5, .i s20)]) (fun s20 => [(1, .cells [.s a0.Name, .s a0.Value])]) (.exit 2) (fun b21 => [(1, .ptr 1 0), (4, .i ((a0.Value.length : Int)))]) (fun b21 => [(1, .cells [.s a0.Name, .s a0.Value])]) .ret (fun b22 => [(2, .i b22)]) (fun b22 => []) rfl rfl (fun s20 x24 hr => ?_) (fun b21 hr => ?_) (fun b22 hr => ?_)
    ·
     unfold R_FieldCode_l2 at hr
     refine rn tk 8 rfl ?_
     refine ac 43 hr rfl (fun c25 hr => ?_) (fun c25 hr => ?_)
     ·
      refine rn tk 4 rfl ?_
      refine jb hr (fun j26 => [(1, .ptr 1 0), (4, .i ((a0.Value.length : Int))), (5, .i s20), (64, .bo j26)]) (fun j26 => [(1, .cells [.s a0.Name, .s a0.Value])]) (fun j26 hr => ?_) (fun j26 hr => ?_)
      ·
       refine rn tk 4 rfl ?_
       obtain ⟨v27, h28, hr⟩ := bind_some hr
       refine ws tk h28 rfl rfl rfl rfl ?_
       refine rn tk 2 rfl ?_
       refine bs 51 hr rfl (fun c29 hr => ?_) (fun c29 hr => ?_)
       ·
        refine rn tk 14 rfl ?_
        cases hr
        exact jn _ rfl rfl rfl
       ·
        refine rn tk 3 rfl ?_
        obtain ⟨v30, h31, hr⟩ := bind_some hr
        refine ug rfl rfl rfl ?_
        refine ws tk h31 rfl rfl rfl rfl ?_
        refine rn tk 3 rfl ?_
        refine bs 58 hr rfl (fun c32 hr => ?_) (fun c32 hr => ?_)
        ·
         refine rn tk 7 rfl ?_
         cases hr
         exact jn _ rfl rfl rfl
        ·
         refine rn tk 3 rfl ?_
         obtain ⟨v33, h34, hr⟩ := bind_some hr
         refine ug rfl rfl rfl ?_
         refine ws tk h34 rfl rfl rfl rfl ?_
         refine rn tk 3 rfl ?_
         cases hr
         exact jn _ rfl rfl rfl
      ·
       refine ac 64 hr rfl (fun c35 hr => ?_) (fun c35 hr => ?_)
       ·
        refine rn tk 8 rfl ?_
        cases hr
        exact ato rfl rfl rfl rfl
       ·
        refine rn tk 8 rfl ?_
        cases hr
        exact atc rfl rfl
     ·
      refine rn tk 2 rfl ?_
      cases hr
      exact ato rfl rfl rfl rfl
    ·
     refine rn tk 3 rfl ?_
     refine jb hr (fun j36 => [(1, .ptr 1 0), (80, .bo j36)]) (fun j36 => [(1, .cells [.s a0.Name, .s a0.Value])]) (fun j36 hr => ?_) (fun j36 hr => ?_)
     ·
      refine rn tk 4 rfl ?_
      refine bs 67 hr rfl (fun c37 hr => ?_) (fun c37 hr => ?_)
      ·
       refine rn tk 2 rfl ?_
       obtain ⟨v38, h39, hr⟩ := bind_some hr
       refine ug rfl rfl rfl ?_
       refine ws tk h39 rfl rfl rfl rfl ?_
       obtain ⟨v40, h41, hr⟩ := bind_some hr
       refine ug rfl rfl rfl ?_
       refine cl (R_blank_run _ _ h41) rfl rfl ?_
       refine rn tk 1 rfl ?_
       refine bs 72 hr rfl (fun c42 hr => ?_) (fun c42 hr => ?_)
       ·
        refine rn tk 9 rfl ?_
        cases hr
        exact jn _ rfl rfl rfl
       ·
        refine rn tk 4 rfl ?_
        obtain ⟨v43, h44, hr⟩ := bind_some hr
        refine ug rfl rfl rfl ?_
        refine ws tk h44 rfl rfl rfl rfl ?_
        obtain ⟨v45, h46, hr⟩ := bind_some hr
        refine ug rfl rfl rfl ?_
        refine cl (R_blank_run _ _ h46) rfl rfl ?_
        refine rn tk 3 rfl ?_
        cases hr
        exact jn _ rfl rfl rfl
      ·
       refine rn tk 14 rfl ?_
       cases hr
       exact jn _ rfl rfl rfl
     ·
      refine ac 80 hr rfl (fun c47 hr => ?_) (fun c47 hr => ?_)
      ·
       refine rn tk 7 rfl ?_
       cases hr
       exact kr tk (.inr rfl) rfl rfl
      ·
       refine rn tk 8 rfl ?_
       obtain ⟨v48, h49, hr⟩ := bind_some hr
       refine cl (R_FieldLines_run _ _ _ h49) rfl rfl ?_
       refine rn tk 10 rfl ?_
       refine al2 hr (fun s50 => [(6, .l cS v48), (7, .i s50)]) (fun s50 => []) (.exit 4) (fun b51 => []) (fun b51 => []) .ret (fun b52 => [(2, .i b52)]) (fun b52 => []) rfl rfl (fun s50 x54 hr => ?_) (fun b51 hr => ?_) (fun b52 hr => ?_)
       ·
        unfold R_FieldCode_l3 at hr
        refine rn tk 5 rfl ?_
        refine wn tk rfl rfl rfl ?_
        refine rn tk 3 rfl ?_
        refine ac 89 hr rfl (fun c55 hr => ?_) (fun c55 hr => ?_)
        ·
         refine rn tk 8 rfl ?_
         obtain ⟨v56, h57, hr⟩ := bind_some hr
         refine wi tk h57 rfl rfl rfl rfl rfl ?_
         refine rn tk 5 rfl ?_
         refine ac 97 hr rfl (fun c58 hr => ?_) (fun c58 hr => ?_)
         ·
          refine rn tk 8 rfl ?_
          cases hr
          exact ato rfl rfl rfl rfl
         ·
          refine rn tk 8 rfl ?_
          cases hr
          exact atc rfl rfl
        ·
         refine rn tk 2 rfl ?_
         cases hr
         exact ato rfl rfl rfl rfl
       ·
        refine rn tk 8 rfl ?_
        cases hr
        exact kr tk (.inr rfl) rfl rfl
       ·
        refine rn tk 2 rfl ?_
        cases hr
        exact kr tk (.inr rfl) rfl rfl
    ·
     refine rn tk 2 rfl ?_
     cases hr
     exact kr tk (.inr rfl) rfl rfl
 ·
  refine rn tk 2 rfl ?_
  cases hr
  exact kr tk (.inr rfl) rfl rfl
theorem R_MessageBytes_run (a0 : TMessage) (r : List UInt8) (hr : R_MessageBytes a0 = some r) : Run Tryz.prog 112 [.agg [.l TField.pc a0.Fields, .l cU a0.Body]] (.l cU r) := by
 unfold R_MessageBytes at hr
 refine rf (fn := Tryz.f112) ⟨Tryz.func112, rfl, by kernel_rfl⟩ rfl (fun _ => rfl) fun g0 hg => ?_
 refine rn tk 9 rfl ?_
 refine awpl_adopt 1003 (d := 3) 5 1 rfl rfl rfl (hO ?_)
 refine rn tk 9 rfl ?_
 refine al1 hr (fun s1 => [(1, .ptr 1 0), (3, .hs 1003 0), (4, .i s1.1)]) (fun s1 => [(1003, .row 5 false 1 (List.map cU s1.2)), (1, .cells [.l TField.pc a0.Fields, .l cU a0.Body])]) (.exit 0) (fun b2 => [(1, .ptr 1 0), (3, .hs 1003 0)]) (fun b2 => [(1003, .row 5 false 1 (List.map cU b2)), (1, .cells [.l TField.pc a0.Fields, .l cU a0.Body])]) rfl rfl (fun s1 x3 hr => ?_) (fun b2 hr => ?_)
 ·
  unfold R_MessageBytes_l1 at hr
  refine rn tk 6 rfl ?_
  refine wn tk rfl rfl rfl ?_
  refine rn tk 3 rfl ?_
  refine ac 11 hr rfl (fun c4 hr => ?_) (fun c4 hr => ?_)
  ·
   refine rn tk 5 rfl ?_
   obtain ⟨v5, h6, hr⟩ := bind_some hr
   obtain ⟨v7, h8, hr⟩ := bind_some hr
   refine dr 12 [(25, .s v7.Value), (24, .ep [pS v7.Value]), (23, .ep [pS v7.Name, pS v7.Value]), (22, .i s1.1), (21, .l TField.pc a0.Fields), (20, .ptr 1 0), (19, .s v5.Name), (18, .ep [pS v5.Name, pS v5.Value]), (17, .ep [pS v5.Name, pS v5.Value]), (16, .i s1.1), (15, .l TField.pc a0.Fields), (14, .ptr 1 0)] mixed (by kernel_rfl) rfl rfl (pq tk rfl (.plain rfl) (pq tk rfl (.plain rfl) (pq tk rfl (.plain rfl) (.run (.plain rfl) (opG_q (ev_idx (f := TField.pc) rfl rfl ty_s_api_Field ty_api_Field rfl h6)) (pq tk rfl (.plain rfl) (pq tk rfl (.plain rfl) (pq tk rfl (.plain rfl) (pq tk rfl (.plain rfl) (pq tk rfl (.plain rfl) (.run (.plain rfl) (opG_q (ev_idx (f := TField.pc) rfl rfl ty_s_api_Field ty_api_Field rfl h8)) (pq tk rfl (.plain rfl) (pq tk rfl (.plain rfl) .nil)))))))))))) rfl ?_
   obtain ⟨v9, h10, hr⟩ := bind_some hr
   refine cl (R_FieldLines_run _ _ _ h10) rfl rfl ?_
   refine rn tk 9 rfl ?_
   refine al1 hr (fun s11 => [(1, .ptr 1 0), (3, .hs 1003 0), (4, .i s1.1), (5, .l cS v9), (6, .i s11.1)]) (fun s11 => [(1003, .row 5 false 1 (List.map cU s11.2)), (1, .cells [.l TField.pc a0.Fields, .l cU a0.Body])]) (.exit 2) (fun b12 => [(1, .ptr 1 0), (3, .hs 1003 0), (4, .i s1.1)]) (fun b12 => [(1003, .row 5 false 1 (List.map cU b12)), (1, .cells [.l TField.pc a0.Fields, .l cU a0.Body])]) rfl rfl (fun s11 x13 hr => ?_) (fun b12 hr => ?_)
   ·
    unfold R_MessageBytes_l2 at hr
    refine rn tk 5 rfl ?_
    refine wn tk rfl rfl rfl ?_
    refine rn tk 3 rfl ?_
    refine ac 30 hr rfl (fun c14 hr => ?_) (fun c14 hr => ?_)
    ·
     refine rn tk 9 rfl ?_
     obtain ⟨v15, h16, hr⟩ := bind_some hr
     refine wi tk h16 rfl rfl rfl rfl rfl ?_
     refine rn tk 1 rfl ?_
     obtain ⟨v17, h18, hr⟩ := bind_some hr
     refine wo (opTo_appends (k := 38) (l := s11.2) (s := v15) (lim := 140737488355328) rfl rfl rfl rfl ty_s_uint8 ty_string.u ty_uint8 rfl h18) rfl ?_
     refine rn tk 5 rfl ?_
     refine wz cU ([(13 : UInt8), (10 : UInt8)] : List UInt8) tk rfl rfl (fun _ => rfl) rfl rfl rfl ?_
     obtain ⟨v19, h20, hr⟩ := bind_some hr
     refine wa tk h20 rfl rfl rfl rfl (fun _ => rfl) rfl rfl ?_
     refine rn tk 9 rfl ?_
     cases hr
     exact atc rfl rfl
    ·
     refine rn tk 2 rfl ?_
     cases hr
     exact ato rfl rfl rfl rfl
   ·
    refine rn tk 8 rfl ?_
    cases hr
    exact atc rfl rfl
  ·
   refine rn tk 2 rfl ?_
   cases hr
   exact ato rfl rfl rfl rfl
 ·
  refine rn tk 5 rfl ?_
  refine wz cU ([(13 : UInt8), (10 : UInt8)] : List UInt8) tk rfl rfl (fun _ => rfl) rfl rfl rfl ?_
  obtain ⟨v21, h22, hr⟩ := bind_some hr
  refine wa tk h22 rfl rfl rfl rfl (fun _ => rfl) rfl rfl ?_
  refine rn tk 8 rfl ?_
  obtain ⟨v23, h24, hr⟩ := bind_some hr
  refine wa tk h24 rfl rfl rfl rfl (fun _ => rfl) rfl rfl ?_
  refine rn tk 3 rfl ?_
  refine awp_pub (d := 2) (F := cU) (l := v23) rfl rfl (hC ?_)
  refine rn tk 1 rfl ?_
  cases hr
  exact kr tk (.inr rfl) rfl rfl
theorem R_MessageFault_run (a0 : TMessage) (r : TFault) (hr : R_MessageFault a0 = some r) : Run Tryz.prog 73 [.agg [.l TField.pc a0.Fields, .l cU a0.Body]] (.agg [.i r.Code, .i r.Index]) := by
 unfold R_MessageFault at hr
 refine rf (fn := Tryz.f73) ⟨Tryz.func73, rfl, by kernel_rfl⟩ rfl (fun _ => rfl) fun g0 hg => ?_
 refine rn tk 11 rfl ?_
 refine wn tk rfl rfl rfl ?_
 refine rn tk 3 rfl ?_
 refine ac 11 hr rfl (fun c1 hr => ?_) (fun c1 hr => ?_)
 ·
  refine rn tk 2 rfl ?_
  obtain ⟨v2, h3, hr⟩ := bind_some hr
  refine cl (R_At_run _ _ _ h3) rfl rfl ?_
  refine rn tk 5 rfl ?_
  cases hr
  exact kr tk (.inr rfl) rfl rfl
 ·
  refine rn tk 9 rfl ?_
  refine al2 hr (fun s4 => [(1, .ptr 1 0), (2, .ptr 2 0), (3, .i s4)]) (fun s4 => [(2, .cells [.i 0, .i 0]), (1, .cells [.l TField.pc a0.Fields, .l cU a0.Body])]) (.exit 0) (fun b5 => [(1, .ptr 1 0), (2, .ptr 2 0)]) (fun b5 => [(2, .cells [.i 0, .i 0]), (1, .cells [.l TField.pc a0.Fields, .l cU a0.Body])]) .ret (fun b6 => [(2, .ptr 2 0)]) (fun b6 => [(2, .cells [.i b6.Code, .i b6.Index])]) rfl rfl (fun s4 x8 hr => ?_) (fun b5 hr => ?_) (fun b6 hr => ?_)
  ·
   unfold R_MessageFault_l1 at hr
   refine rn tk 6 rfl ?_
   refine wn tk rfl rfl rfl ?_
   refine rn tk 3 rfl ?_
   refine ac 17 hr rfl (fun c9 hr => ?_) (fun c9 hr => ?_)
   ·
    refine rn tk 9 rfl ?_
    obtain ⟨v10, h11, hr⟩ := bind_some hr
    refine wi tk h11 rfl rfl rfl rfl rfl ?_
    refine rn tk 1 rfl ?_
    obtain ⟨v12, h13, hr⟩ := bind_some hr
    refine cl (R_FieldCode_run _ _ h13) rfl rfl ?_
    refine rn tk 9 rfl ?_
    refine ac 27 hr rfl (fun c14 hr => ?_) (fun c14 hr => ?_)
    ·
     refine rn tk 4 rfl ?_
     obtain ⟨v15, h16, hr⟩ := bind_some hr
     refine cl (R_At_run _ _ _ h16) rfl rfl ?_
     refine rn tk 6 rfl ?_
     cases hr
     exact ato rfl rfl rfl rfl
    ·
     refine rn tk 8 rfl ?_
     cases hr
     exact atc rfl rfl
   ·
    refine rn tk 2 rfl ?_
    cases hr
    exact ato rfl rfl rfl rfl
  ·
   refine rn tk 3 rfl ?_
   refine jb hr (fun j17 => [(1, .ptr 1 0), (2, .ptr 2 0), (40, .bo j17)]) (fun j17 => [(2, .cells [.i 0, .i 0]), (1, .cells [.l TField.pc a0.Fields, .l cU a0.Body])]) (fun j17 hr => ?_) (fun j17 hr => ?_)
   ·
    refine rn tk 3 rfl ?_
    refine wn tk rfl rfl rfl ?_
    refine rn tk 2 rfl ?_
    refine bs 35 hr rfl (fun c18 hr => ?_) (fun c18 hr => ?_)
    ·
     refine rn tk 6 rfl ?_
     cases hr
     exact jn _ rfl rfl rfl
    ·
     refine rn tk 1 rfl ?_
     obtain ⟨v19, h20, hr⟩ := bind_some hr
     refine ug rfl rfl rfl ?_
     refine cl (R_MessageBytes_run _ _ h20) rfl rfl ?_
     refine ug rfl rfl rfl ?_
     refine wn tk rfl rfl rfl ?_
     refine rn tk 3 rfl ?_
     cases hr
     exact jn _ rfl rfl rfl
   ·
    refine ac 40 hr rfl (fun c21 hr => ?_) (fun c21 hr => ?_)
    ·
     refine rn tk 2 rfl ?_
     obtain ⟨v22, h23, hr⟩ := bind_some hr
     refine cl (R_At_run _ _ _ h23) rfl rfl ?_
     refine rn tk 5 rfl ?_
     cases hr
     exact kr tk (.inr rfl) rfl rfl
    ·
     refine rn tk 14 rfl ?_
     refine al2 hr (fun s24 => [(1, .ptr 1 0), (2, .ptr 2 0), (5, .i s24.1), (6, .i s24.2)]) (fun s24 => [(2, .cells [.i 0, .i 0]), (1, .cells [.l TField.pc a0.Fields, .l cU a0.Body])]) (.exit 2) (fun b25 => [(2, .ptr 2 0)]) (fun b25 => [(2, .cells [.i 0, .i 0])]) .ret (fun b26 => [(2, .ptr 2 0)]) (fun b26 => [(2, .cells [.i b26.Code, .i b26.Index])]) rfl rfl (fun s24 x28 hr => ?_) (fun b25 hr => ?_) (fun b26 hr => ?_)
     ·
      unfold R_MessageFault_l2 at hr
      refine rn tk 6 rfl ?_
      refine wn tk rfl rfl rfl ?_
      refine rn tk 3 rfl ?_
      refine ac 46 hr rfl (fun c29 hr => ?_) (fun c29 hr => ?_)
      ·
       refine rn tk 2 rfl ?_
       refine jk (fun j30 => [(1, .ptr 1 0), (2, .ptr 2 0), (5, .i j30.1), (6, .i j30.2)]) (fun j30 => [(2, .cells [.i 0, .i 0]), (1, .cells [.l TField.pc a0.Fields, .l cU a0.Body])]) (fun j30 => R_MessageFault_k3  j30 = some x28) ?_ ?_
       ·
        refine rn tk 6 rfl ?_
        obtain ⟨v31, h32, hr⟩ := bind_some hr
        refine wi tk h32 rfl rfl rfl rfl rfl ?_
        refine rn tk 5 rfl ?_
        refine jb hr (fun j33 => [(1, .ptr 1 0), (2, .ptr 2 0), (5, .i s24.1), (6, .i s24.2), (7, .u8 v31), (72, .bo j33)]) (fun j33 => [(2, .cells [.i 0, .i 0]), (1, .cells [.l TField.pc a0.Fields, .l cU a0.Body])]) (fun j33 hr => ?_) (fun j33 hr => ?_)
        ·
         refine rn tk 4 rfl ?_
         refine bs 56 hr rfl (fun c34 hr => ?_) (fun c34 hr => ?_)
         ·
          refine rn tk 4 rfl ?_
          refine ug rfl rfl rfl ?_
          refine wn tk rfl rfl rfl ?_
          refine rn tk 3 rfl ?_
          refine bs 64 hr rfl (fun c35 hr => ?_) (fun c35 hr => ?_)
          ·
           refine rn tk 4 rfl ?_
           obtain ⟨v36, h37, hr⟩ := bind_some hr
           refine ug rfl rfl rfl ?_
           refine wi tk h37 rfl rfl rfl rfl rfl ?_
           refine rn tk 4 rfl ?_
           cases hr
           exact jn _ rfl rfl rfl
          ·
           refine rn tk 9 rfl ?_
           cases hr
           exact jn _ rfl rfl rfl
         ·
          refine rn tk 17 rfl ?_
          cases hr
          exact jn _ rfl rfl rfl
        ·
         refine ac 72 hr rfl (fun c38 hr => ?_) (fun c38 hr => ?_)
         ·
          refine rn tk 15 rfl ?_
          exact jn ((0, (w64 (s24.2 + 1)))) hr rfl rfl
         ·
          refine rn tk 3 rfl ?_
          refine jb hr (fun j39 => [(1, .ptr 1 0), (2, .ptr 2 0), (5, .i s24.1), (6, .i s24.2), (80, .bo j39)]) (fun j39 => [(2, .cells [.i 0, .i 0]), (1, .cells [.l TField.pc a0.Fields, .l cU a0.Body])]) (fun j39 hr => ?_) (fun j39 hr => ?_)
          ·
           refine rn tk 4 rfl ?_
           refine bs 77 hr rfl (fun c40 hr => ?_) (fun c40 hr => ?_)
           ·
            refine rn tk 4 rfl ?_
            cases hr
            exact jn _ rfl rfl rfl
           ·
            refine rn tk 4 rfl ?_
            cases hr
            exact jn _ rfl rfl rfl
          ·
           refine ac 80 hr rfl (fun c41 hr => ?_) (fun c41 hr => ?_)
           ·
            refine rn tk 2 rfl ?_
            obtain ⟨v42, h43, hr⟩ := bind_some hr
            refine cl (R_At_run _ _ _ h43) rfl rfl ?_
            refine rn tk 7 rfl ?_
            cases hr
            exact ato rfl rfl rfl rfl
           ·
            refine rn tk 15 rfl ?_
            refine ac 85 hr rfl (fun c44 hr => ?_) (fun c44 hr => ?_)
            ·
             refine rn tk 2 rfl ?_
             obtain ⟨v45, h46, hr⟩ := bind_some hr
             refine cl (R_At_run _ _ _ h46) rfl rfl ?_
             refine rn tk 6 rfl ?_
             cases hr
             exact ato rfl rfl rfl rfl
            ·
             refine rn tk 2 rfl ?_
             exact jn (((w64 (s24.1 + 1)), s24.2)) hr rfl rfl
       ·
        intro j30 hr
        unfold R_MessageFault_k3 at hr
        refine rn tk 5 rfl ?_
        cases hr
        exact atc rfl rfl
      ·
       refine rn tk 2 rfl ?_
       cases hr
       exact ato rfl rfl rfl rfl
     ·
      refine rn tk 9 rfl ?_
      cases hr
      exact kr tk (.inr rfl) rfl rfl
     ·
      refine rn tk 2 rfl ?_
      cases hr
      exact kr tk (.inr rfl) rfl rfl
  ·
   refine rn tk 2 rfl ?_
   cases hr
   exact kr tk (.inr rfl) rfl rfl
theorem R_MailFault_run (a0 : TMail) (r : TFault) (hr : R_MailFault a0 = some r) : Run Tryz.prog 32 [.agg [.s a0.Envelope.From, .l TRecipient.pc a0.Envelope.To, .s a0.Envelope.Id, .l TField.pc a0.Message.Fields, .l cU a0.Message.Body]] (.agg [.i r.Code, .i r.Index]) := by
 unfold R_MailFault at hr
 refine rf (fn := Tryz.f32) ⟨Tryz.func32, rfl, by kernel_rfl⟩ rfl (fun _ => rfl) fun g0 hg => ?_
 refine rn tk 10 rfl ?_
 obtain ⟨v1, h2, hr⟩ := bind_some hr
 refine cl (R_EnvelopeFault_run _ _ h2) rfl rfl ?_
 refine rn tk 4 rfl ?_
 refine jb hr (fun j3 => [(2, .ptr 2 0), (3, .ptr 3 0)]) (fun j3 => [(3, .cells [.i j3.1, .i j3.2]), (2, .cells [.i 0, .i 0])]) (fun j3 hr => ?_) (fun j3 hr => ?_)
 ·
  refine jb hr (fun j4 => [(1, .ptr 1 0), (2, .ptr 2 0), (3, .ptr 3 0), (16, .bo j4)]) (fun j4 => [(3, .cells [.i v1.Code, .i v1.Index]), (2, .cells [.i 0, .i 0]), (1, .cells [.s a0.Envelope.From, .l TRecipient.pc a0.Envelope.To, .s a0.Envelope.Id, .l TField.pc a0.Message.Fields, .l cU a0.Message.Body])]) (fun j4 hr => ?_) (fun j4 hr => ?_)
  ·
   refine rn tk 5 rfl ?_
   refine bs 10 hr rfl (fun c5 hr => ?_) (fun c5 hr => ?_)
   ·
    refine rn tk 2 rfl ?_
    obtain ⟨v6, h7, hr⟩ := bind_some hr
    refine ug rfl rfl rfl ?_
    refine cl (R_MessageFault_run _ _ h7) rfl rfl ?_
    refine rn tk 4 rfl ?_
    cases hr
    exact jn _ rfl rfl rfl
   ·
    refine rn tk 7 rfl ?_
    cases hr
    exact jn _ rfl rfl rfl
  ·
   refine ac 16 hr rfl (fun c8 hr => ?_) (fun c8 hr => ?_)
   ·
    refine rn tk 3 rfl ?_
    obtain ⟨v9, h10, hr⟩ := bind_some hr
    refine cl (R_MessageFault_run _ _ h10) rfl rfl ?_
    refine rn tk 1 rfl ?_
    obtain ⟨v11, h12, hr⟩ := bind_some hr
    refine cl (R_At_run _ _ _ h12) rfl rfl ?_
    refine rn tk 2 rfl ?_
    cases hr
    exact jn _ rfl rfl rfl
   ·
    refine rn tk 1 rfl ?_
    cases hr
    exact jn _ rfl rfl rfl
 ·
  refine rn tk 7 rfl ?_
  cases hr
  exact kr tk (.inr rfl) rfl rfl
theorem R_ToldFault_run (a0 : List TTold) (r : TFault) (hr : R_ToldFault a0 = some r) : Run Tryz.prog 35 [.l TTold.pc a0] (.agg [.i r.Code, .i r.Index]) := by
 unfold R_ToldFault at hr
 refine rf (fn := Tryz.f35) ⟨Tryz.func35, rfl, by kernel_rfl⟩ rfl (fun _ => rfl) fun g0 hg => ?_
 refine rn tk 9 rfl ?_
 refine wn tk rfl rfl rfl ?_
 obtain ⟨v1, h2, hr⟩ := bind_some hr
 refine cl (R_In_run _ _ _ _ h2) rfl rfl ?_
 refine rn tk 3 rfl ?_
 refine ac 7 hr rfl (fun c3 hr => ?_) (fun c3 hr => ?_)
 ·
  refine rn tk 2 rfl ?_
  obtain ⟨v4, h5, hr⟩ := bind_some hr
  refine cl (R_At_run _ _ _ h5) rfl rfl ?_
  refine rn tk 5 rfl ?_
  cases hr
  exact kr tk (.inr rfl) rfl rfl
 ·
  refine rn tk 9 rfl ?_
  refine al2 hr (fun s6 => [(0, .l TTold.pc a0), (2, .ptr 2 0), (3, .i s6)]) (fun s6 => [(2, .cells [.i 0, .i 0])]) (.exit 0) (fun b7 => [(2, .ptr 2 0)]) (fun b7 => [(2, .cells [.i 0, .i 0])]) .ret (fun b8 => [(2, .ptr 2 0)]) (fun b8 => [(2, .cells [.i b8.Code, .i b8.Index])]) rfl rfl (fun s6 x10 hr => ?_) (fun b7 hr => ?_) (fun b8 hr => ?_)
  ·
   unfold R_ToldFault_l1 at hr
   refine rn tk 5 rfl ?_
   refine wn tk rfl rfl rfl ?_
   refine rn tk 3 rfl ?_
   refine ac 12 hr rfl (fun c11 hr => ?_) (fun c11 hr => ?_)
   ·
    refine rn tk 9 rfl ?_
    obtain ⟨v12, h13, hr⟩ := bind_some hr
    refine wi tk h13 rfl rfl rfl rfl rfl ?_
    refine rn tk 2 rfl ?_
    obtain ⟨v14, h15, hr⟩ := bind_some hr
    refine cl (R_AddressOk_run _ _ h15) rfl rfl ?_
    refine rn tk 3 rfl ?_
    refine ac 21 hr rfl (fun c16 hr => ?_) (fun c16 hr => ?_)
    ·
     refine rn tk 3 rfl ?_
     obtain ⟨v17, h18, hr⟩ := bind_some hr
     refine cl (R_At_run _ _ _ h18) rfl rfl ?_
     refine rn tk 7 rfl ?_
     cases hr
     exact ato rfl rfl rfl rfl
    ·
     refine rn tk 6 rfl ?_
     obtain ⟨v19, h20, hr⟩ := bind_some hr
     refine wi tk h20 rfl rfl rfl rfl rfl ?_
     refine rn tk 2 rfl ?_
     obtain ⟨v21, h22, hr⟩ := bind_some hr
     refine cl (R_In_run _ _ _ _ h22) rfl rfl ?_
     refine rn tk 3 rfl ?_
     refine ac 30 hr rfl (fun c23 hr => ?_) (fun c23 hr => ?_)
     ·
      refine rn tk 3 rfl ?_
      obtain ⟨v24, h25, hr⟩ := bind_some hr
      refine cl (R_At_run _ _ _ h25) rfl rfl ?_
      refine rn tk 6 rfl ?_
      cases hr
      exact ato rfl rfl rfl rfl
     ·
      refine rn tk 8 rfl ?_
      cases hr
      exact atc rfl rfl
   ·
    refine rn tk 2 rfl ?_
    cases hr
    exact ato rfl rfl rfl rfl
  ·
   refine rn tk 9 rfl ?_
   cases hr
   exact kr tk (.inr rfl) rfl rfl
  ·
   refine rn tk 2 rfl ?_
   cases hr
   exact kr tk (.inr rfl) rfl rfl
theorem R_Fill_run (a0 : Int) (a1 : Int) (r : Str) (hr : R_Fill a0 a1 = some r) : Run Tryz.prog 77 [.i a0, .i a1] (.s r) := by
 unfold R_Fill at hr
 refine rf (fn := Tryz.f77) ⟨Tryz.func77, rfl, by kernel_rfl⟩ rfl (fun _ => rfl) fun g0 hg => ?_
 refine rn tk 8 rfl ?_
 obtain ⟨v1, h2, hr⟩ := bind_some hr
 refine cl (R_Digits_run _ _ h2) rfl rfl ?_
 refine rn tk 5 rfl ?_
 refine al1 hr (fun s3 => [(1, .i a1), (5, .s s3)]) (fun s3 => []) (.exit 0) (fun b4 => [(5, .s b4)]) (fun b4 => []) rfl rfl (fun s3 x5 hr => ?_) (fun b4 hr => ?_)
 ·
  unfold R_Fill_l1 at hr
  refine rn tk 9 rfl ?_
  refine ac 11 hr rfl (fun c6 hr => ?_) (fun c6 hr => ?_)
  ·
   refine rn tk 5 rfl ?_
   obtain ⟨v7, h8, hr⟩ := bind_some hr
   refine wc h8 rfl rfl rfl ?_
   refine rn tk 3 rfl ?_
   cases hr
   exact atc rfl rfl
  ·
   refine rn tk 2 rfl ?_
   cases hr
   exact ato rfl rfl rfl rfl
 ·
  refine rn tk 9 rfl ?_
  cases hr
  exact kr tk (.inr rfl) rfl rfl
theorem R_leap_run (a0 : Int) (r : Bool) (hr : R_leap a0 = some r) : Run Tryz.prog 75 [.i a0] (.bo r) := by
 unfold R_leap at hr
 refine rf (fn := Tryz.f75) ⟨Tryz.func75, rfl, by kernel_rfl⟩ rfl (fun _ => rfl) fun g0 hg => ?_
 refine rn tk 5 rfl ?_
 refine jb hr (fun j1 => [(2, .bo j1)]) (fun j1 => []) (fun j1 hr => ?_) (fun j1 hr => ?_)
 ·
  refine rn tk 2 rfl ?_
  refine wq (ev_irem rfl rfl rfl) rfl rfl rfl ?_
  refine rn tk 2 rfl ?_
  refine bs 6 hr rfl (fun c2 hr => ?_) (fun c2 hr => ?_)
  ·
   refine rn tk 1 rfl ?_
   refine ug rfl rfl rfl ?_
   refine wq (ev_irem rfl rfl rfl) rfl rfl rfl ?_
   refine rn tk 3 rfl ?_
   refine bs 11 hr rfl (fun c3 hr => ?_) (fun c3 hr => ?_)
   ·
    refine rn tk 6 rfl ?_
    cases hr
    exact jn _ rfl rfl rfl
   ·
    refine rn tk 1 rfl ?_
    refine ug rfl rfl rfl ?_
    refine wq (ev_irem rfl rfl rfl) rfl rfl rfl ?_
    refine rn tk 4 rfl ?_
    cases hr
    exact jn _ rfl rfl rfl
  ·
   refine rn tk 6 rfl ?_
   refine ug rfl rfl rfl ?_
   refine wq (ev_irem rfl rfl rfl) rfl rfl rfl ?_
   refine rn tk 4 rfl ?_
   cases hr
   exact jn _ rfl rfl rfl
 ·
  refine rn tk 1 rfl ?_
  cases hr
  exact kr tk (.inr rfl) rfl rfl
theorem R_days_run (a0 : Int) (a1 : Int) (r : Int) (hr : R_days a0 a1 = some r) : Run Tryz.prog 76 [.i a0, .i a1] (.i r) := by
 unfold R_days at hr
 refine rf (fn := Tryz.f76) ⟨Tryz.func76, rfl, by kernel_rfl⟩ rfl (fun _ => rfl) fun g0 hg => ?_
 refine rn tk 6 rfl ?_
 refine jb hr (fun j1 => [(1, .i a1), (11, .bo j1)]) (fun j1 => []) (fun j1 hr => ?_) (fun j1 hr => ?_)
 ·
  refine rn tk 4 rfl ?_
  refine bs 8 hr rfl (fun c2 hr => ?_) (fun c2 hr => ?_)
  ·
   refine rn tk 1 rfl ?_
   obtain ⟨v3, h4, hr⟩ := bind_some hr
   refine ug rfl rfl rfl ?_
   refine cl (R_leap_run _ _ h4) rfl rfl ?_
   refine rn tk 2 rfl ?_
   cases hr
   exact jn _ rfl rfl rfl
  ·
   refine rn tk 4 rfl ?_
   cases hr
   exact jn _ rfl rfl rfl
 ·
  refine ac 11 hr rfl (fun c5 hr => ?_) (fun c5 hr => ?_)
  ·
   refine rn tk 7 rfl ?_
   cases hr
   exact kr tk (.inr rfl) rfl rfl
  ·
   refine rn tk 4 rfl ?_
   refine wz cI ([31, 28, 31, 30, 31, 30, 31, 31, 30, 31, 30, 31] : List Int) tk rfl rfl (fun _ => rfl) rfl (by kernel_rfl) rfl ?_
   refine rn tk 8 rfl ?_
   obtain ⟨v6, h7, hr⟩ := bind_some hr
   refine wi tk h7 rfl rfl rfl rfl rfl ?_
   refine rn tk 5 rfl ?_
   cases hr
   exact kr tk (.inr rfl) rfl rfl
theorem R_When_run (a0 : Int) (r : Str × Bool) (hr : R_When a0 = some r) : Run Tryz.prog 36 [.i a0] (.tup [.s r.1, .bo r.2]) := by
 unfold R_When at hr
 refine rf (fn := Tryz.f36) ⟨Tryz.func36, rfl, by kernel_rfl⟩ rfl (fun _ => rfl) fun g0 hg => ?_
 refine rn tk 10 rfl ?_
 obtain ⟨v1, h2, hr⟩ := bind_some hr
 refine cl (R_In_run _ _ _ _ h2) rfl rfl ?_
 refine rn tk 3 rfl ?_
 refine ac 15 hr rfl (fun c3 hr => ?_) (fun c3 hr => ?_)
 ·
  refine rn tk 8 rfl ?_
  cases hr
  exact kr tk (.inr rfl) rfl rfl
 ·
  refine rn tk 9 rfl ?_
  refine al1 hr (fun s4 => [(0, .i s4.1), (4, .i s4.2)]) (fun s4 => []) (.exit 0) (fun b5 => [(0, .i b5.1), (4, .i b5.2)]) (fun b5 => []) rfl rfl (fun s4 x6 hr => ?_) (fun b5 hr => ?_)
  ·
   unfold R_When_l1 at hr
   refine rn tk 7 rfl ?_
   refine ac 17 hr rfl (fun c7 hr => ?_) (fun c7 hr => ?_)
   ·
    refine rn tk 16 rfl ?_
    cases hr
    exact atc rfl rfl
   ·
    refine rn tk 2 rfl ?_
    cases hr
    exact ato rfl rfl rfl rfl
  ·
   refine rn tk 6 rfl ?_
   refine wq (ev_iquo rfl rfl rfl) rfl rfl rfl ?_
   refine rn tk 7 rfl ?_
   refine wq (ev_irem rfl rfl rfl) rfl rfl rfl ?_
   refine rn tk 10 rfl ?_
   refine al1 hr (fun s8 => [(0, .i ((iRem b5.1 86400))), (4, .i s8.1), (5, .i s8.2)]) (fun s8 => []) (.exit 2) (fun b9 => [(0, .i ((iRem b5.1 86400))), (4, .i b9.1), (5, .i b9.2)]) (fun b9 => []) rfl rfl (fun s8 x10 hr => ?_) (fun b9 hr => ?_)
   ·
    unfold R_When_l2 at hr
    refine rn tk 7 rfl ?_
    refine ac 29 hr rfl (fun c11 hr => ?_) (fun c11 hr => ?_)
    ·
     refine rn tk 20 rfl ?_
     obtain ⟨v12, h13, hr⟩ := bind_some hr
     refine cl (R_leap_run _ _ h13) rfl rfl ?_
     refine rn tk 2 rfl ?_
     refine ac 35 hr rfl (fun c14 hr => ?_) (fun c14 hr => ?_)
     ·
      refine rn tk 6 rfl ?_
      cases hr
      exact atc rfl rfl
     ·
      refine rn tk 2 rfl ?_
      cases hr
      exact atc rfl rfl
    ·
     refine rn tk 2 rfl ?_
     cases hr
     exact ato rfl rfl rfl rfl
   ·
    refine rn tk 4 rfl ?_
    refine al1 hr (fun s15 => [(0, .i ((iRem b5.1 86400))), (4, .i s15.1), (5, .i s15.2)]) (fun s15 => []) (.exit 4) (fun b16 => [(0, .i ((iRem b5.1 86400))), (4, .i b16.1), (5, .i b16.2)]) (fun b16 => []) rfl rfl (fun s15 x17 hr => ?_) (fun b16 hr => ?_)
    ·
     unfold R_When_l3 at hr
     refine rn tk 6 rfl ?_
     refine jb hr (fun j18 => [(0, .i ((iRem b5.1 86400))), (4, .i s15.1), (5, .i s15.2), (6, .i j18)]) (fun j18 => []) (fun j18 hr => ?_) (fun j18 hr => ?_)
     ·
      refine rn tk 3 rfl ?_
      obtain ⟨v19, h20, hr⟩ := bind_some hr
      refine cl (R_leap_run _ _ h20) rfl rfl ?_
      refine rn tk 2 rfl ?_
      refine ac 39 hr rfl (fun c21 hr => ?_) (fun c21 hr => ?_)
      ·
       refine rn tk 3 rfl ?_
       cases hr
       exact jn _ rfl rfl rfl
      ·
       refine rn tk 1 rfl ?_
       cases hr
       exact jn _ rfl rfl rfl
     ·
      refine rn tk 8 rfl ?_
      refine ac 42 hr rfl (fun c22 hr => ?_) (fun c22 hr => ?_)
      ·
       refine rn tk 3 rfl ?_
       cases hr
       exact ato rfl rfl rfl rfl
      ·
       refine rn tk 16 rfl ?_
       cases hr
       exact atc rfl rfl
    ·
     refine rn tk 6 rfl ?_
     obtain ⟨v23, h24, hr⟩ := bind_some hr
     refine cl (R_In_run _ _ _ _ h24) rfl rfl ?_
     refine rn tk 3 rfl ?_
     refine ac 50 hr rfl (fun c25 hr => ?_) (fun c25 hr => ?_)
     ·
      refine rn tk 8 rfl ?_
      cases hr
      exact kr tk (.inr rfl) rfl rfl
     ·
      refine rn tk 15 rfl ?_
      refine al1 hr (fun s26 => [(0, .i ((iRem b5.1 86400))), (4, .i b16.1), (5, .i b16.2), (7, .i s26.1), (8, .i s26.2)]) (fun s26 => []) (.exit 6) (fun b27 => [(0, .i ((iRem b5.1 86400))), (4, .i b16.1), (5, .i b16.2), (7, .i b27.1), (8, .i b27.2)]) (fun b27 => []) rfl rfl (fun s26 x28 hr => ?_) (fun b27 hr => ?_)
      ·
       unfold R_When_l4 at hr
       refine rn tk 6 rfl ?_
       obtain ⟨v29, h30, hr⟩ := bind_some hr
       refine cl (R_days_run _ _ _ h30) rfl rfl ?_
       refine rn tk 3 rfl ?_
       refine ac 56 hr rfl (fun c31 hr => ?_) (fun c31 hr => ?_)
       ·
        refine rn tk 8 rfl ?_
        obtain ⟨v32, h33, hr⟩ := bind_some hr
        refine cl (R_days_run _ _ _ h33) rfl rfl ?_
        refine rn tk 10 rfl ?_
        cases hr
        exact atc rfl rfl
       ·
        refine rn tk 2 rfl ?_
        cases hr
        exact ato rfl rfl rfl rfl
      ·
       refine rn tk 14 rfl ?_
       refine al1 hr (fun s34 => [(0, .i ((iRem b5.1 86400))), (4, .i b16.1), (5, .i b16.2), (7, .i b27.1), (8, .i b27.2), (9, .i s34.1), (10, .i s34.2)]) (fun s34 => []) (.exit 8) (fun b35 => [(0, .i ((iRem b5.1 86400))), (4, .i b16.1), (5, .i b16.2), (7, .i b27.1), (8, .i b27.2), (9, .i b35)]) (fun b35 => []) rfl rfl (fun s34 x36 hr => ?_) (fun b35 hr => ?_)
       ·
        unfold R_When_l5 at hr
        refine rn tk 8 rfl ?_
        refine ac 66 hr rfl (fun c37 hr => ?_) (fun c37 hr => ?_)
        ·
         refine rn tk 2 rfl ?_
         refine jb hr (fun j38 => [(0, .i ((iRem b5.1 86400))), (4, .i b16.1), (5, .i b16.2), (7, .i b27.1), (8, .i b27.2), (9, .i j38), (10, .i s34.2)]) (fun j38 => []) (fun j38 hr => ?_) (fun j38 hr => ?_)
         ·
          refine rn tk 11 rfl ?_
          obtain ⟨v39, h40, hr⟩ := bind_some hr
          refine cl (R_leap_run _ _ h40) rfl rfl ?_
          refine rn tk 2 rfl ?_
          refine ac 72 hr rfl (fun c41 hr => ?_) (fun c41 hr => ?_)
          ·
           refine rn tk 6 rfl ?_
           cases hr
           exact jn _ rfl rfl rfl
          ·
           refine rn tk 2 rfl ?_
           cases hr
           exact jn _ rfl rfl rfl
         ·
          refine rn tk 5 rfl ?_
          cases hr
          exact atc rfl rfl
        ·
         refine rn tk 2 rfl ?_
         cases hr
         exact ato rfl rfl rfl rfl
       ·
        refine rn tk 7 rfl ?_
        refine wq (ev_irem rfl rfl rfl) rfl rfl rfl ?_
        refine rn tk 14 rfl ?_
        obtain ⟨v42, h43, hr⟩ := bind_some hr
        obtain ⟨v44, h45, hr⟩ := bind_some hr
        obtain ⟨v46, h47, hr⟩ := bind_some hr
        obtain ⟨v48, h49, hr⟩ := bind_some hr
        obtain ⟨v50, h51, hr⟩ := bind_some hr
        obtain ⟨v52, h53, hr⟩ := bind_some hr
        obtain ⟨v54, h55, hr⟩ := bind_some hr
        obtain ⟨v56, h57, hr⟩ := bind_some hr
        obtain ⟨v58, h59, hr⟩ := bind_some hr
        obtain ⟨v60, h61, hr⟩ := bind_some hr
        obtain ⟨v62, h63, hr⟩ := bind_some hr
        obtain ⟨v64, h65, hr⟩ := bind_some hr
        obtain ⟨v66, h67, hr⟩ := bind_some hr
        obtain ⟨v68, h69, hr⟩ := bind_some hr
        obtain ⟨v70, h71, hr⟩ := bind_some hr
        obtain ⟨v72, h73, hr⟩ := bind_some hr
        obtain ⟨v74, h75, hr⟩ := bind_some hr
        obtain ⟨v76, h77, hr⟩ := bind_some hr
        refine dr 40 [(118, .s v76), (117, .i ((iRem ((iRem b5.1 86400)) 60))), (116, .i ((iRem b5.1 86400))), (115, .s v74), (114, .s v72), (113, .s v70), (112, .i ((iRem ((iQuo ((iRem b5.1 86400)) 60)) 60))), (111, .i ((iQuo ((iRem b5.1 86400)) 60))), (110, .i ((iRem b5.1 86400))), (109, .s v68), (108, .s v66), (107, .s v64), (106, .i ((iQuo ((iRem b5.1 86400)) 3600))), (105, .i ((iRem b5.1 86400))), (104, .s v62), (103, .s v60), (102, .s v58), (101, .i b16.2), (100, .s v56), (99, .s v54), (98, .s v52), (97, .i ((w64 (3 * b27.1)))), (96, .i b27.1), (95, .i ((w64 ((w64 (3 * b27.1)) - 3)))), (94, .i ((w64 (3 * b27.1)))), (93, .i b27.1), (92, .s (([74, 97, 110, 70, 101, 98, 77, 97, 114, 65, 112, 114, 77, 97, 121, 74, 117, 110, 74, 117, 108, 65, 117, 103, 83, 101, 112, 79, 99, 116, 78, 111, 118, 68, 101, 99] : Str))), (91, .s v50), (90, .s v48), (89, .s v46), (88, .i ((w64 (b27.2 + 1)))), (87, .i b27.2), (86, .s v44), (85, .s v42), (84, .i ((w64 ((w64 (3 * (iRem ((w64 (b35 + b16.1))) 7))) + 3)))), (83, .i ((w64 (3 * (iRem ((w64 (b35 + b16.1))) 7))))), (82, .i ((iRem ((w64 (b35 + b16.1))) 7))), (81, .i ((w64 (3 * (iRem ((w64 (b35 + b16.1))) 7))))), (80, .i ((iRem ((w64 (b35 + b16.1))) 7))), (79, .s (([83, 117, 110, 77, 111, 110, 84, 117, 101, 87, 101, 100, 84, 104, 117, 70, 114, 105, 83, 97, 116] : Str)))] mixed (by kernel_rfl) rfl rfl (pq tk rfl (.plain rfl) (pq tk rfl (.plain rfl) (pq tk rfl (.plain rfl) (pq tk rfl (.plain rfl) (pq tk rfl (.plain rfl) (pq tk rfl (.plain rfl) (.run (.plain rfl) (opG_q (ev_scutLH rfl rfl rfl ty_string h43)) (.run (.plain rfl) (opG_q (ev_cat rfl rfl h45)) (pq tk rfl (.plain rfl) (pq tk rfl (.plain rfl) (.run (.plain rfl) (opG_call (R_Fill_run ((w64 (b27.2 + 1))) 2 v46 h47) rfl) (.run (.plain rfl) (opG_q (ev_cat rfl rfl h49)) (.run (.plain rfl) (opG_q (ev_cat rfl rfl h51)) (pq tk rfl (.plain rfl) (pq tk rfl (.plain rfl) (pq tk rfl (.plain rfl) (pq tk rfl (.plain rfl) (pq tk rfl (.plain rfl) (pq tk rfl (.plain rfl) (.run (.plain rfl) (opG_q (ev_scutLH rfl rfl rfl ty_string h53)) (.run (.plain rfl) (opG_q (ev_cat rfl rfl h55)) (.run (.plain rfl) (opG_q (ev_cat rfl rfl h57)) (pq tk rfl (.plain rfl) (.run (.plain rfl) (opG_call (R_Fill_run b16.2 4 v58 h59) rfl) (.run (.plain rfl) (opG_q (ev_cat rfl rfl h61)) (.run (.plain rfl) (opG_q (ev_cat rfl rfl h63)) (pq tk rfl (.plain rfl) (.run (.plain rfl) (opG_q (ev_iquo rfl rfl rfl)) (.run (.plain rfl) (opG_call (R_Fill_run ((iQuo ((iRem b5.1 86400)) 3600)) 2 v64 h65) rfl) (.run (.plain rfl) (opG_q (ev_cat rfl rfl h67)) (.run (.plain rfl) (opG_q (ev_cat rfl rfl h69)) (pq tk rfl (.plain rfl) (.run (.plain rfl) (opG_q (ev_iquo rfl rfl rfl)) (.run (.plain rfl) (opG_q (ev_irem rfl rfl rfl)) (.run (.plain rfl) (opG_call (R_Fill_run ((iRem ((iQuo ((iRem b5.1 86400)) 60)) 60)) 2 v70 h71) rfl) (.run (.plain rfl) (opG_q (ev_cat rfl rfl h73)) (.run (.plain rfl) (opG_q (ev_cat rfl rfl h75)) (pq tk rfl (.plain rfl) (.run (.plain rfl) (opG_q (ev_irem rfl rfl rfl)) (.run (.plain rfl) (opG_call (R_Fill_run ((iRem ((iRem b5.1 86400)) 60)) 2 v76 h77) rfl) .nil)))))))))))))))))))))))))))))))))))))))) rfl ?_
        obtain ⟨v78, h79, hr⟩ := bind_some hr
        refine wc h79 rfl rfl rfl ?_
        obtain ⟨v80, h81, hr⟩ := bind_some hr
        refine wc h81 rfl rfl rfl ?_
        refine rn tk 5 rfl ?_
        cases hr
        exact kr tk (.inr rfl) rfl rfl
theorem R_kindWord_run (a0 : Int) (r : Str) (hr : R_kindWord a0 = some r) : Run Tryz.prog 34 [.i a0] (.s r) := by
 unfold R_kindWord at hr
 refine rf (fn := Tryz.f34) ⟨Tryz.func34, rfl, by kernel_rfl⟩ rfl (fun _ => rfl) fun g0 hg => ?_
 refine rn tk 18 rfl ?_
 refine ac 4 hr rfl (fun c1 hr => ?_) (fun c1 hr => ?_)
 ·
  refine rn tk 8 rfl ?_
  cases hr
  exact kr tk (.inr rfl) rfl rfl
 ·
  refine rn tk 6 rfl ?_
  refine ac 6 hr rfl (fun c2 hr => ?_) (fun c2 hr => ?_)
  ·
   refine rn tk 8 rfl ?_
   cases hr
   exact kr tk (.inr rfl) rfl rfl
  ·
   refine rn tk 6 rfl ?_
   refine ac 8 hr rfl (fun c3 hr => ?_) (fun c3 hr => ?_)
   ·
    refine rn tk 8 rfl ?_
    cases hr
    exact kr tk (.inr rfl) rfl rfl
   ·
    refine rn tk 9 rfl ?_
    cases hr
    exact kr tk (.inr rfl) rfl rfl
theorem R_resultWord_run (a0 : Int) (r : Str) (hr : R_resultWord a0 = some r) : Run Tryz.prog 39 [.i a0] (.s r) := by
 unfold R_resultWord at hr
 refine rf (fn := Tryz.f39) ⟨Tryz.func39, rfl, by kernel_rfl⟩ rfl (fun _ => rfl) fun g0 hg => ?_
 refine rn tk 7 rfl ?_
 refine wz cS ([([] : Str), ([115, 101, 110, 116] : Str), ([108, 97, 116, 101, 114] : Str), ([102, 97, 105, 108, 101, 100] : Str)] : List Str) tk rfl rfl (fun _ => rfl) rfl (by kernel_rfl) rfl ?_
 refine rn tk 7 rfl ?_
 obtain ⟨v1, h2, hr⟩ := bind_some hr
 refine wi tk h2 rfl rfl rfl rfl rfl ?_
 refine rn tk 5 rfl ?_
 cases hr
 exact kr tk (.inr rfl) rfl rfl
theorem R_NoticeOf_run (a0 : TMail) (a1 : Int) (a2 : List TTold) (a3 : Int) (r : TMail × TFault) (hr : R_NoticeOf a0 a1 a2 a3 = some r) : Run Tryz.prog 8 [.agg [.s a0.Envelope.From, .l TRecipient.pc a0.Envelope.To, .s a0.Envelope.Id, .l TField.pc a0.Message.Fields, .l cU a0.Message.Body], .i a1, .l TTold.pc a2, .i a3] (.tup [.agg [.s r.1.Envelope.From, .l TRecipient.pc r.1.Envelope.To, .s r.1.Envelope.Id, .l TField.pc r.1.Message.Fields, .l cU r.1.Message.Body], .agg [.i r.2.Code, .i r.2.Index]]) := by
 unfold R_NoticeOf at hr
 refine rf (fn := Tryz.f8) ⟨Tryz.func8, rfl, by kernel_rfl⟩ rfl (fun _ => rfl) fun g0 hg => ?_
 refine rn tk 17 rfl ?_
 obtain ⟨v1, h2, hr⟩ := bind_some hr
 refine cl (R_MailFault_run _ _ h2) rfl rfl ?_
 refine rn tk 12 rfl ?_
 refine ac 24 hr rfl (fun c3 hr => ?_) (fun c3 hr => ?_)
 ·
  refine rn tk 1 rfl ?_
  refine drX 2 3 3 3 [1] [(26, .agg [.i v1.Code, .i v1.Index]), (25, .agg [.s (([] : Str)), .pv (.sl (some true) []), .s (([] : Str)), .pv (.sl (some true) []), .pv (.sl (some true) [])])] [(8, .ptr 8 0), (9, .ptr 9 0), (26, .agg [.i v1.Code, .i v1.Index])] [(11, .cells [.i v1.Code, .i v1.Index]), (10, .cells [.s (([] : Str)), .pv (.sl (some true) []), .s (([] : Str)), .pv (.sl (some true) []), .pv (.sl (some true) [])]), (9, .cells [.i 0, .i 0]), (8, .cells [.s (([] : Str)), .pv (.sl (some true) []), .s (([] : Str)), .pv (.sl (some true) []), .pv (.sl (some true) [])]), (4, .cells [.s a0.Envelope.From, .l TRecipient.pc a0.Envelope.To, .s a0.Envelope.Id, .l TField.pc a0.Message.Fields, .l cU a0.Message.Body])] tk mixed (by kernel_rfl) rfl rfl rfl (pqX tk rfl (.plain rfl) (pqX tk rfl (.plain rfl) .nil)) rfl rfl rfl rfl (by kernel_rfl) ?_
  refine rn tk 5 rfl ?_
  cases hr
  exact kr tk (.inr rfl) rfl rfl
 ·
  refine rn tk 11 rfl ?_
  refine ac 30 hr rfl (fun c4 hr => ?_) (fun c4 hr => ?_)
  ·
   refine rn tk 1 rfl ?_
   obtain ⟨v5, h6, hr⟩ := bind_some hr
   refine dr 2 [(32, .agg [.i v5.Code, .i v5.Index]), (31, .agg [.s (([] : Str)), .pv (.sl (some true) []), .s (([] : Str)), .pv (.sl (some true) []), .pv (.sl (some true) [])])] mixed (by kernel_rfl) rfl rfl (pq tk rfl (.plain rfl) (.run (.plain rfl) (opG_call (R_At_run 8 ((-13)) v5 h6) rfl) .nil)) rfl ?_
   refine rn tk 6 rfl ?_
   cases hr
   exact kr tk (.inr rfl) rfl rfl
  ·
   refine rn tk 6 rfl ?_
   obtain ⟨v7, h8, hr⟩ := bind_some hr
   refine cl (R_kindWord_run _ _ h8) rfl rfl ?_
   refine rn tk 3 rfl ?_
   refine ac 35 hr rfl (fun c9 hr => ?_) (fun c9 hr => ?_)
   ·
    refine rn tk 1 rfl ?_
    obtain ⟨v10, h11, hr⟩ := bind_some hr
    refine dr 2 [(37, .agg [.i v10.Code, .i v10.Index]), (36, .agg [.s (([] : Str)), .pv (.sl (some true) []), .s (([] : Str)), .pv (.sl (some true) []), .pv (.sl (some true) [])])] mixed (by kernel_rfl) rfl rfl (pq tk rfl (.plain rfl) (.run (.plain rfl) (opG_call (R_At_run 4 ((-14)) v10 h11) rfl) .nil)) rfl ?_
    refine rn tk 6 rfl ?_
    cases hr
    exact kr tk (.inr rfl) rfl rfl
   ·
    refine rn tk 12 rfl ?_
    refine ac 42 hr rfl (fun c12 hr => ?_) (fun c12 hr => ?_)
    ·
     refine rn tk 1 rfl ?_
     obtain ⟨v13, h14, hr⟩ := bind_some hr
     refine dr 2 [(44, .agg [.i v13.Code, .i v13.Index]), (43, .agg [.s (([] : Str)), .pv (.sl (some true) []), .s (([] : Str)), .pv (.sl (some true) []), .pv (.sl (some true) [])])] mixed (by kernel_rfl) rfl rfl (pq tk rfl (.plain rfl) (.run (.plain rfl) (opG_call (R_At_run 1 ((-16)) v13 h14) rfl) .nil)) rfl ?_
     refine rn tk 6 rfl ?_
     cases hr
     exact kr tk (.inr rfl) rfl rfl
    ·
     refine rn tk 5 rfl ?_
     obtain ⟨v15, h16, hr⟩ := bind_some hr
     refine cl (R_ToldFault_run _ _ h16) rfl rfl ?_
     refine rn tk 11 rfl ?_
     refine ac 49 hr rfl (fun c17 hr => ?_) (fun c17 hr => ?_)
     ·
      refine rn tk 1 rfl ?_
      refine drX 2 3 3 3 [1] [(51, .agg [.i v15.Code, .i v15.Index]), (50, .agg [.s (([] : Str)), .pv (.sl (some true) []), .s (([] : Str)), .pv (.sl (some true) []), .pv (.sl (some true) [])])] [(8, .ptr 8 0), (9, .ptr 9 0), (51, .agg [.i v15.Code, .i v15.Index])] [(11, .cells [.i v15.Code, .i v15.Index]), (10, .cells [.s (([] : Str)), .pv (.sl (some true) []), .s (([] : Str)), .pv (.sl (some true) []), .pv (.sl (some true) [])]), (9, .cells [.i 0, .i 0]), (8, .cells [.s (([] : Str)), .pv (.sl (some true) []), .s (([] : Str)), .pv (.sl (some true) []), .pv (.sl (some true) [])]), (4, .cells [.s a0.Envelope.From, .l TRecipient.pc a0.Envelope.To, .s a0.Envelope.Id, .l TField.pc a0.Message.Fields, .l cU a0.Message.Body])] tk mixed (by kernel_rfl) rfl rfl rfl (pqX tk rfl (.plain rfl) (pqX tk rfl (.plain rfl) .nil)) rfl rfl rfl rfl (by kernel_rfl) ?_
      refine rn tk 5 rfl ?_
      cases hr
      exact kr tk (.inr rfl) rfl rfl
     ·
      refine rn tk 5 rfl ?_
      obtain ⟨v18, h19, hr⟩ := bind_some hr
      refine cl (R_When_run _ _ h19) rfl rfl ?_
      refine rn tk 14 rfl ?_
      refine ac 58 hr rfl (fun c20 hr => ?_) (fun c20 hr => ?_)
      ·
       refine rn tk 1 rfl ?_
       obtain ⟨v21, h22, hr⟩ := bind_some hr
       refine dr 2 [(60, .agg [.i v21.Code, .i v21.Index]), (59, .agg [.s (([] : Str)), .pv (.sl (some true) []), .s (([] : Str)), .pv (.sl (some true) []), .pv (.sl (some true) [])])] mixed (by kernel_rfl) rfl rfl (pq tk rfl (.plain rfl) (.run (.plain rfl) (opG_call (R_At_run 3 ((-2)) v21 h22) rfl) .nil)) rfl ?_
       refine rn tk 6 rfl ?_
       cases hr
       exact kr tk (.inr rfl) rfl rfl
      ·
       refine rn tk 13 rfl ?_
       obtain ⟨v23, h24, hr⟩ := bind_some hr
       refine cl (R_kindWord_run _ _ h24) rfl rfl ?_
       refine rn tk 3 rfl ?_
       refine jb hr (fun j25 => [(1, .i a1), (2, .l TTold.pc a2), (4, .ptr 4 0), (8, .ptr 8 0), (9, .ptr 9 0), (11, .ptr 11 0), (12, .s v18.1), (14, .s a0.Envelope.From), (15, .s j25)]) (fun j25 => [(11, .cells [.i v15.Code, .i v15.Index]), (9, .cells [.i 0, .i 0]), (8, .cells [.s (([] : Str)), .l TRecipient.pc ([]), .s (([] : Str)), .l TField.pc ([]), .l cU ([])]), (4, .cells [.s a0.Envelope.From, .l TRecipient.pc a0.Envelope.To, .s a0.Envelope.Id, .l TField.pc a0.Message.Fields, .l cU a0.Message.Body])]) (fun j25 hr => ?_) (fun j25 hr => ?_)
       ·
        refine rn tk 8 rfl ?_
        refine ac 69 hr rfl (fun c26 hr => ?_) (fun c26 hr => ?_)
        ·
         refine rn tk 2 rfl ?_
         obtain ⟨v27, h28, hr⟩ := bind_some hr
         refine wc h28 rfl rfl rfl ?_
         refine rn tk 3 rfl ?_
         obtain ⟨v29, h30, hr⟩ := bind_some hr
         refine wc h30 rfl rfl rfl ?_
         refine rn tk 2 rfl ?_
         cases hr
         exact jn _ rfl rfl rfl
        ·
         refine rn tk 1 rfl ?_
         cases hr
         exact jn _ rfl rfl rfl
       ·
        refine rn tk 1 rfl ?_
        obtain ⟨v31, h32, hr⟩ := bind_some hr
        obtain ⟨v33, h34, hr⟩ := bind_some hr
        obtain ⟨v35, h36, hr⟩ := bind_some hr
        refine drA 13 [(16, .ptr 16 0), (87, .agg [.s (([] : Str)), .l TRecipient.pc (([(TRecipient.mk a0.Envelope.From 0)] : List TRecipient)), .s v35, .pv (.sl (some true) []), .pv (.sl (some true) [])]), (86, .agg [.s (([] : Str)), .l TRecipient.pc (([(TRecipient.mk a0.Envelope.From 0)] : List TRecipient)), .s v35]), (85, .l TRecipient.pc (([(TRecipient.mk a0.Envelope.From 0)] : List TRecipient))), (84, .agg [.s a0.Envelope.From, .i 0]), (83, .s a0.Envelope.From), (82, .s v35), (81, .s v33), (80, .i a1), (79, .s v31), (78, .s a0.Envelope.Id), (77, .ptr 4 2), (76, .ptr 4 0)] mixed (by kernel_rfl) rfl rfl (pqA tk rfl (.plain rfl) (pqA tk rfl (.plain rfl) (pqA tk rfl (.plain rfl) (.run (.plain rfl) (opG_q (ev_cat rfl rfl h32)) (pqA tk rfl (.plain rfl) (.run (.plain rfl) (opG_call (R_Digits_run a1 v33 h34) rfl) (.run (.plain rfl) (opG_q (ev_cat rfl rfl h36)) (pqA tk rfl (.plain rfl) (pqA tk rfl (.plain rfl) (.run (.plain rfl) (opG_lit (F := TRecipient.pc) (l := ([(TRecipient.mk a0.Envelope.From 0)] : List TRecipient)) ty_s_api_Recipient ty_api_Recipient rfl (fun _ => rfl) rfl rfl) (pqA tk rfl (.plain rfl) (pqA tk rfl (.plain rfl) (pnA 16 tk rfl rfl rfl (.plain rfl) .nil))))))))))))) rfl rfl rfl ?_
        refine rn tk 6 rfl ?_
        obtain ⟨v37, h38, hr⟩ := bind_some hr
        refine cl (R_DomainOf_run _ _ h38) rfl rfl ?_
        obtain ⟨v39, h40, hr⟩ := bind_some hr
        refine wc h40 rfl rfl rfl ?_
        refine rn tk 4 rfl ?_
        obtain ⟨v41, h42, hr⟩ := bind_some hr
        refine cl (R_kindWord_run _ _ h42) rfl rfl ?_
        obtain ⟨v43, h44, hr⟩ := bind_some hr
        refine wc h44 rfl rfl rfl ?_
        refine rn tk 5 rfl ?_
        refine wz TField.pc ([(TField.mk (([70, 114, 111, 109] : Str)) v39), (TField.mk (([84, 111] : Str)) a0.Envelope.From), (TField.mk (([83, 117, 98, 106, 101, 99, 116] : Str)) v43), (TField.mk (([68, 97, 116, 101] : Str)) v18.1), (TField.mk (([88, 45, 78, 111, 116, 105, 99, 101] : Str)) j25)] : List TField) tk rfl rfl (fun _ => rfl) rfl (by kernel_rfl) rfl ?_
        refine rn tk 17 rfl ?_
        refine al1 hr (fun s45 => [(2, .l TTold.pc a2), (8, .ptr 8 0), (9, .ptr 9 0), (11, .ptr 11 0), (16, .ptr 16 0), (17, .s s45.1), (18, .i s45.2)]) (fun s45 => [(16, .cells [.s (([] : Str)), .l TRecipient.pc (([(TRecipient.mk a0.Envelope.From 0)] : List TRecipient)), .s v35, .l TField.pc (([(TField.mk (([70, 114, 111, 109] : Str)) v39), (TField.mk (([84, 111] : Str)) a0.Envelope.From), (TField.mk (([83, 117, 98, 106, 101, 99, 116] : Str)) v43), (TField.mk (([68, 97, 116, 101] : Str)) v18.1), (TField.mk (([88, 45, 78, 111, 116, 105, 99, 101] : Str)) j25)] : List TField)), .l cU ([])]), (11, .cells [.i v15.Code, .i v15.Index]), (9, .cells [.i 0, .i 0]), (8, .cells [.s (([] : Str)), .l TRecipient.pc ([]), .s (([] : Str)), .l TField.pc ([]), .l cU ([])])]) (.exit 0) (fun b46 => [(8, .ptr 8 0), (9, .ptr 9 0), (11, .ptr 11 0), (16, .ptr 16 0), (17, .s b46)]) (fun b46 => [(16, .cells [.s (([] : Str)), .l TRecipient.pc (([(TRecipient.mk a0.Envelope.From 0)] : List TRecipient)), .s v35, .l TField.pc (([(TField.mk (([70, 114, 111, 109] : Str)) v39), (TField.mk (([84, 111] : Str)) a0.Envelope.From), (TField.mk (([83, 117, 98, 106, 101, 99, 116] : Str)) v43), (TField.mk (([68, 97, 116, 101] : Str)) v18.1), (TField.mk (([88, 45, 78, 111, 116, 105, 99, 101] : Str)) j25)] : List TField)), .l cU ([])]), (11, .cells [.i v15.Code, .i v15.Index]), (9, .cells [.i 0, .i 0]), (8, .cells [.s (([] : Str)), .l TRecipient.pc ([]), .s (([] : Str)), .l TField.pc ([]), .l cU ([])])]) rfl rfl (fun s45 x47 hr => ?_) (fun b46 hr => ?_)
        ·
         unfold R_NoticeOf_l1 at hr
         refine rn tk 5 rfl ?_
         refine wn tk rfl rfl rfl ?_
         refine rn tk 3 rfl ?_
         refine ac 108 hr rfl (fun c48 hr => ?_) (fun c48 hr => ?_)
         ·
          refine rn tk 4 rfl ?_
          obtain ⟨v49, h50, hr⟩ := bind_some hr
          obtain ⟨v51, h52, hr⟩ := bind_some hr
          obtain ⟨v53, h54, hr⟩ := bind_some hr
          obtain ⟨v55, h56, hr⟩ := bind_some hr
          obtain ⟨v57, h58, hr⟩ := bind_some hr
          refine dr 14 [(124, .s v57.Address), (123, .ep [pS v57.Address, pI v57.Result]), (122, .ep [pS v57.Address, pI v57.Result]), (121, .i s45.2), (120, .l TTold.pc a2), (119, .s v55), (118, .s v53), (117, .s v51), (116, .i v49.Result), (115, .ep [pI v49.Result]), (114, .ep [pS v49.Address, pI v49.Result]), (113, .i s45.2), (112, .l TTold.pc a2), (111, .s s45.1)] mixed (by kernel_rfl) rfl rfl (pq tk rfl (.plain rfl) (pq tk rfl (.plain rfl) (pq tk rfl (.plain rfl) (.run (.plain rfl) (opG_q (ev_idx (f := TTold.pc) rfl rfl ty_s_api_Told ty_api_Told rfl h50)) (pq tk rfl (.plain rfl) (pq tk rfl (.plain rfl) (.run (.plain rfl) (opG_call (R_resultWord_run v49.Result v51 h52) rfl) (.run (.plain rfl) (opG_q (ev_cat rfl rfl h54)) (.run (.plain rfl) (opG_q (ev_cat rfl rfl h56)) (pq tk rfl (.plain rfl) (pq tk rfl (.plain rfl) (.run (.plain rfl) (opG_q (ev_idx (f := TTold.pc) rfl rfl ty_s_api_Told ty_api_Told rfl h58)) (pq tk rfl (.plain rfl) (pq tk rfl (.plain rfl) .nil)))))))))))))) rfl ?_
          obtain ⟨v59, h60, hr⟩ := bind_some hr
          refine wc h60 rfl rfl rfl ?_
          obtain ⟨v61, h62, hr⟩ := bind_some hr
          refine wc h62 rfl rfl rfl ?_
          refine rn tk 9 rfl ?_
          cases hr
          exact atc rfl rfl
         ·
          refine rn tk 2 rfl ?_
          cases hr
          exact ato rfl rfl rfl rfl
        ·
         refine rn tk 5 rfl ?_
         refine wo (opTo_g (d := 128) rfl rfl (opG_s2bytes (k := 0) rfl ty_string ty_s_uint8 ty_uint8)) rfl ?_
         refine rn tk 6 rfl ?_
         refine drX 2 3 3 3 [1] [(132, .agg [.i v15.Code, .i v15.Index]), (131, .agg [.s (([] : Str)), .l TRecipient.pc (([(TRecipient.mk a0.Envelope.From 0)] : List TRecipient)), .s v35, .l TField.pc (([(TField.mk (([70, 114, 111, 109] : Str)) v39), (TField.mk (([84, 111] : Str)) a0.Envelope.From), (TField.mk (([83, 117, 98, 106, 101, 99, 116] : Str)) v43), (TField.mk (([68, 97, 116, 101] : Str)) v18.1), (TField.mk (([88, 45, 78, 111, 116, 105, 99, 101] : Str)) j25)] : List TField)), .l cU b46])] [(8, .ptr 8 0), (9, .ptr 9 0), (132, .agg [.i v15.Code, .i v15.Index])] [(16, .cells [.s (([] : Str)), .l TRecipient.pc (([(TRecipient.mk a0.Envelope.From 0)] : List TRecipient)), .s v35, .l TField.pc (([(TField.mk (([70, 114, 111, 109] : Str)) v39), (TField.mk (([84, 111] : Str)) a0.Envelope.From), (TField.mk (([83, 117, 98, 106, 101, 99, 116] : Str)) v43), (TField.mk (([68, 97, 116, 101] : Str)) v18.1), (TField.mk (([88, 45, 78, 111, 116, 105, 99, 101] : Str)) j25)] : List TField)), .l cU b46]), (11, .cells [.i v15.Code, .i v15.Index]), (9, .cells [.i 0, .i 0]), (8, .cells [.s (([] : Str)), .l TRecipient.pc (([(TRecipient.mk a0.Envelope.From 0)] : List TRecipient)), .s v35, .l TField.pc (([(TField.mk (([70, 114, 111, 109] : Str)) v39), (TField.mk (([84, 111] : Str)) a0.Envelope.From), (TField.mk (([83, 117, 98, 106, 101, 99, 116] : Str)) v43), (TField.mk (([68, 97, 116, 101] : Str)) v18.1), (TField.mk (([88, 45, 78, 111, 116, 105, 99, 101] : Str)) j25)] : List TField)), .l cU b46])] tk mixed (by kernel_rfl) rfl rfl rfl (pqX tk rfl (.plain rfl) (pqX tk rfl (.plain rfl) .nil)) rfl rfl rfl rfl (by kernel_rfl) ?_
         refine rn tk 4 rfl ?_
         cases hr
         exact kr tk (.inr rfl) rfl rfl
theorem R_SameMessage_run (a0 : TMessage) (a1 : TMessage) (r : Bool) (hr : R_SameMessage a0 a1 = some r) : Run Tryz.prog 41 [.agg [.l TField.pc a0.Fields, .l cU a0.Body], .agg [.l TField.pc a1.Fields, .l cU a1.Body]] (.bo r) := by
 unfold R_SameMessage at hr
 refine rf (fn := Tryz.f41) ⟨Tryz.func41, rfl, by kernel_rfl⟩ rfl (fun _ => rfl) fun g0 hg => ?_
 refine rn tk 8 rfl ?_
 refine jb hr (fun j1 => [(2, .ptr 2 0), (3, .ptr 3 0), (21, .bo j1)]) (fun j1 => [(3, .cells [.l TField.pc a1.Fields, .l cU a1.Body]), (2, .cells [.l TField.pc a0.Fields, .l cU a0.Body])]) (fun j1 hr => ?_) (fun j1 hr => ?_)
 ·
  refine rn tk 3 rfl ?_
  refine wn tk rfl rfl rfl ?_
  refine rn tk 2 rfl ?_
  refine wn tk rfl rfl rfl ?_
  refine rn tk 2 rfl ?_
  refine bs 13 hr rfl (fun c2 hr => ?_) (fun c2 hr => ?_)
  ·
   refine rn tk 9 rfl ?_
   cases hr
   exact jn _ rfl rfl rfl
  ·
   refine rn tk 2 rfl ?_
   refine ug rfl rfl rfl ?_
   refine wb tk rfl rfl rfl ?_
   refine rn tk 2 rfl ?_
   refine ug rfl rfl rfl ?_
   refine wb tk rfl rfl rfl ?_
   refine rn tk 3 rfl ?_
   cases hr
   exact jn _ rfl rfl rfl
 ·
  refine ac 21 hr rfl (fun c3 hr => ?_) (fun c3 hr => ?_)
  ·
   refine rn tk 7 rfl ?_
   cases hr
   exact kr tk (.inr rfl) rfl rfl
  ·
   refine rn tk 9 rfl ?_
   refine al2 hr (fun s4 => [(2, .ptr 2 0), (3, .ptr 3 0), (5, .i s4)]) (fun s4 => [(3, .cells [.l TField.pc a1.Fields, .l cU a1.Body]), (2, .cells [.l TField.pc a0.Fields, .l cU a0.Body])]) (.exit 0) (fun b5 => []) (fun b5 => []) .ret (fun b6 => [(4, .bo b6)]) (fun b6 => []) rfl rfl (fun s4 x8 hr => ?_) (fun b5 hr => ?_) (fun b6 hr => ?_)
   ·
    unfold R_SameMessage_l1 at hr
    refine rn tk 6 rfl ?_
    refine wn tk rfl rfl rfl ?_
    refine rn tk 3 rfl ?_
    refine ac 26 hr rfl (fun c9 hr => ?_) (fun c9 hr => ?_)
    ·
     refine rn tk 5 rfl ?_
     obtain ⟨v10, h11, hr⟩ := bind_some hr
     obtain ⟨v12, h13, hr⟩ := bind_some hr
     refine dr 10 [(38, .agg [.s v12.Name, .s v12.Value]), (37, .ep [pS v12.Name, pS v12.Value]), (36, .i s4), (35, .l TField.pc a1.Fields), (34, .ptr 3 0), (33, .agg [.s v10.Name, .s v10.Value]), (32, .ep [pS v10.Name, pS v10.Value]), (31, .i s4), (30, .l TField.pc a0.Fields), (29, .ptr 2 0)] mixed (by kernel_rfl) rfl rfl (pq tk rfl (.plain rfl) (pq tk rfl (.plain rfl) (pq tk rfl (.plain rfl) (.run (.plain rfl) (opG_q (ev_idx (f := TField.pc) rfl rfl ty_s_api_Field ty_api_Field rfl h11)) (pq tk rfl (.plain rfl) (pq tk rfl (.plain rfl) (pq tk rfl (.plain rfl) (pq tk rfl (.plain rfl) (.run (.plain rfl) (opG_q (ev_idx (f := TField.pc) rfl rfl ty_s_api_Field ty_api_Field rfl h13)) (pq tk rfl (.plain rfl) .nil)))))))))) rfl ?_
     refine wq (ev_structne rfl rfl ty_api_Field cmp_api_Field (.str rfl (by decide) ty_string (.str rfl (by decide) ty_string .nil))) rfl rfl rfl ?_
     refine rn tk 2 rfl ?_
     refine ac 39 hr rfl (fun c14 hr => ?_) (fun c14 hr => ?_)
     ·
      refine rn tk 8 rfl ?_
      cases hr
      exact ato rfl rfl rfl rfl
     ·
      refine rn tk 8 rfl ?_
      cases hr
      exact atc rfl rfl
    ·
     refine rn tk 2 rfl ?_
     cases hr
     exact ato rfl rfl rfl rfl
   ·
    refine rn tk 8 rfl ?_
    cases hr
    exact kr tk (.inr rfl) rfl rfl
   ·
    refine rn tk 2 rfl ?_
    cases hr
    exact kr tk (.inr rfl) rfl rfl
theorem R_SameMail_run (a0 : TMail) (a1 : TMail) (r : Bool) (hr : R_SameMail a0 a1 = some r) : Run Tryz.prog 10 [.agg [.s a0.Envelope.From, .l TRecipient.pc a0.Envelope.To, .s a0.Envelope.Id, .l TField.pc a0.Message.Fields, .l cU a0.Message.Body], .agg [.s a1.Envelope.From, .l TRecipient.pc a1.Envelope.To, .s a1.Envelope.Id, .l TField.pc a1.Message.Fields, .l cU a1.Message.Body]] (.bo r) := by
 unfold R_SameMail at hr
 refine rf (fn := Tryz.f10) ⟨Tryz.func10, rfl, by kernel_rfl⟩ rfl (fun _ => rfl) fun g0 hg => ?_
 refine rn tk 8 rfl ?_
 refine jb hr (fun j1 => [(2, .ptr 2 0), (3, .ptr 3 0), (32, .bo j1)]) (fun j1 => [(3, .cells [.s a1.Envelope.From, .l TRecipient.pc a1.Envelope.To, .s a1.Envelope.Id, .l TField.pc a1.Message.Fields, .l cU a1.Message.Body]), (2, .cells [.s a0.Envelope.From, .l TRecipient.pc a0.Envelope.To, .s a0.Envelope.Id, .l TField.pc a0.Message.Fields, .l cU a0.Message.Body])]) (fun j1 hr => ?_) (fun j1 hr => ?_)
 ·
  refine rn tk 9 rfl ?_
  refine bs 13 hr rfl (fun c2 hr => ?_) (fun c2 hr => ?_)
  ·
   refine rn tk 20 rfl ?_
   cases hr
   exact jn _ rfl rfl rfl
  ·
   refine rn tk 9 rfl ?_
   refine bs 22 hr rfl (fun c3 hr => ?_) (fun c3 hr => ?_)
   ·
    refine rn tk 11 rfl ?_
    cases hr
    exact jn _ rfl rfl rfl
   ·
    refine rn tk 3 rfl ?_
    refine ug rfl rfl rfl ?_
    refine wn tk rfl rfl rfl ?_
    refine rn tk 3 rfl ?_
    refine ug rfl rfl rfl ?_
    refine wn tk rfl rfl rfl ?_
    refine rn tk 3 rfl ?_
    cases hr
    exact jn _ rfl rfl rfl
 ·
  refine ac 32 hr rfl (fun c4 hr => ?_) (fun c4 hr => ?_)
  ·
   refine rn tk 7 rfl ?_
   cases hr
   exact kr tk (.inr rfl) rfl rfl
  ·
   refine rn tk 9 rfl ?_
   refine al2 hr (fun s5 => [(2, .ptr 2 0), (3, .ptr 3 0), (5, .i s5)]) (fun s5 => [(3, .cells [.s a1.Envelope.From, .l TRecipient.pc a1.Envelope.To, .s a1.Envelope.Id, .l TField.pc a1.Message.Fields, .l cU a1.Message.Body]), (2, .cells [.s a0.Envelope.From, .l TRecipient.pc a0.Envelope.To, .s a0.Envelope.Id, .l TField.pc a0.Message.Fields, .l cU a0.Message.Body])]) (.exit 0) (fun b6 => [(2, .ptr 2 0), (3, .ptr 3 0)]) (fun b6 => [(3, .cells [.s a1.Envelope.From, .l TRecipient.pc a1.Envelope.To, .s a1.Envelope.Id, .l TField.pc a1.Message.Fields, .l cU a1.Message.Body]), (2, .cells [.s a0.Envelope.From, .l TRecipient.pc a0.Envelope.To, .s a0.Envelope.Id, .l TField.pc a0.Message.Fields, .l cU a0.Message.Body])]) .ret (fun b7 => [(4, .bo b7)]) (fun b7 => []) rfl rfl (fun s5 x9 hr => ?_) (fun b6 hr => ?_) (fun b7 hr => ?_)
   ·
    unfold R_SameMail_l1 at hr
    refine rn tk 7 rfl ?_
    refine wn tk rfl rfl rfl ?_
    refine rn tk 3 rfl ?_
    refine ac 38 hr rfl (fun c10 hr => ?_) (fun c10 hr => ?_)
    ·
     refine rn tk 5 rfl ?_
     obtain ⟨v11, h12, hr⟩ := bind_some hr
     obtain ⟨v13, h14, hr⟩ := bind_some hr
     refine dr 12 [(52, .agg [.s v13.Address, .i v13.Notify]), (51, .ep [pS v13.Address, pI v13.Notify]), (50, .i s5), (49, .l TRecipient.pc a1.Envelope.To), (48, .ptr 3 1), (47, .ptr 3 0), (46, .agg [.s v11.Address, .i v11.Notify]), (45, .ep [pS v11.Address, pI v11.Notify]), (44, .i s5), (43, .l TRecipient.pc a0.Envelope.To), (42, .ptr 2 1), (41, .ptr 2 0)] mixed (by kernel_rfl) rfl rfl (pq tk rfl (.plain rfl) (pq tk rfl (.plain rfl) (pq tk rfl (.plain rfl) (pq tk rfl (.plain rfl) (.run (.plain rfl) (opG_q (ev_idx (f := TRecipient.pc) rfl rfl ty_s_api_Recipient ty_api_Recipient rfl h12)) (pq tk rfl (.plain rfl) (pq tk rfl (.plain rfl) (pq tk rfl (.plain rfl) (pq tk rfl (.plain rfl) (pq tk rfl (.plain rfl) (.run (.plain rfl) (opG_q (ev_idx (f := TRecipient.pc) rfl rfl ty_s_api_Recipient ty_api_Recipient rfl h14)) (pq tk rfl (.plain rfl) .nil)))))))))))) rfl ?_
     refine wq (ev_structne rfl rfl ty_api_Recipient cmp_api_Recipient (.str rfl (by decide) ty_string (.int rfl (by decide) ty_int .nil))) rfl rfl rfl ?_
     refine rn tk 2 rfl ?_
     refine ac 53 hr rfl (fun c15 hr => ?_) (fun c15 hr => ?_)
     ·
      refine rn tk 8 rfl ?_
      cases hr
      exact ato rfl rfl rfl rfl
     ·
      refine rn tk 8 rfl ?_
      cases hr
      exact atc rfl rfl
    ·
     refine rn tk 2 rfl ?_
     cases hr
     exact ato rfl rfl rfl rfl
   ·
    refine rn tk 8 rfl ?_
    obtain ⟨v16, h17, hr⟩ := bind_some hr
    refine cl (R_SameMessage_run _ _ _ h17) rfl rfl ?_
    refine rn tk 4 rfl ?_
    cases hr
    exact kr tk (.inr rfl) rfl rfl
   ·
    refine rn tk 2 rfl ?_
    cases hr
    exact kr tk (.inr rfl) rfl rfl
theorem L_NoticeMatchesSpec_run (a0 : TMail) (a1 : Int) (a2 : List TTold) (a3 : Int) (r : Bool) (hr : L_NoticeMatchesSpec a0 a1 a2 a3 = some r) : Run Tryz.prog 3 [.agg [.s a0.Envelope.From, .l TRecipient.pc a0.Envelope.To, .s a0.Envelope.Id, .l TField.pc a0.Message.Fields, .l cU a0.Message.Body], .i a1, .l TTold.pc a2, .i a3] (.bo r) := by
 unfold L_NoticeMatchesSpec at hr
 refine rf (fn := Tryz.f3) ⟨Tryz.func3, rfl, by kernel_rfl⟩ rfl (fun _ => rfl) fun g0 hg => ?_
 refine rn tk 12 rfl ?_
 obtain ⟨v1, h2, hr⟩ := bind_some hr
 refine cl (notice_Make_run _ _ _ _ _ h2) rfl rfl ?_
 refine rn tk 15 rfl ?_
 obtain ⟨v3, h4, hr⟩ := bind_some hr
 refine cl (R_NoticeOf_run _ _ _ _ _ h4) rfl rfl ?_
 refine rn tk 9 rfl ?_
 refine jb hr (fun j5 => [(8, .bo j5)]) (fun j5 => []) (fun j5 hr => ?_) (fun j5 hr => ?_)
 ·
  refine rn tk 1 rfl ?_
  obtain ⟨v6, h7, hr⟩ := bind_some hr
  refine cl (L_tells_run _ h7) rfl rfl ?_
  refine rn tk 1 rfl ?_
  refine bs 30 hr rfl (fun c8 hr => ?_) (fun c8 hr => ?_)
  ·
   refine rn tk 2 rfl ?_
   refine ug rfl rfl rfl ?_
   refine wq (ev_structeq rfl rfl ty_api_Fault cmp_api_Fault (.int rfl (by decide) ty_int (.int rfl (by decide) ty_int .nil))) rfl rfl rfl ?_
   refine rn tk 2 rfl ?_
   refine bs 35 hr rfl (fun c9 hr => ?_) (fun c9 hr => ?_)
   ·
    refine rn tk 2 rfl ?_
    obtain ⟨v10, h11, hr⟩ := bind_some hr
    refine ug rfl rfl rfl ?_
    refine cl (R_SameMail_run _ _ _ h11) rfl rfl ?_
    refine rn tk 3 rfl ?_
    cases hr
    exact jn _ rfl rfl rfl
   ·
    refine rn tk 6 rfl ?_
    cases hr
    exact jn _ rfl rfl rfl
  ·
   refine rn tk 11 rfl ?_
   cases hr
   exact jn _ rfl rfl rfl
 ·
  refine rn tk 1 rfl ?_
  cases hr
  exact kr tk (.inr rfl) rfl rfl
end Go.Proofs.YtfkgmcilaiblfaaGreatDoor

namespace Go.Proofs.YtfkgmcilaiblfaaGreatDoor.noticeMatchesSpec
open Go.ChangeShapes Go.WideShapes Go.ChangeAt Go.RowKit
set_option linter.unusedVariables false
set_option maxRecDepth 100000

theorem contract (H : Type) (enc : TypeId × Value → H) (W : World) (base : Nat) (args : Array Value) (ds gs : List (DataW H)) (before : List MemPlace)
    (hval : ∀ (j : Nat) t v, Tryz.f3.params[j]? = some t → args[j]? = some v → Value.okWide Tryz.prog W .any base t v)
    (hW : DataW.Whole enc Tryz.prog Tryz.f3.params.toList Rows.noticeMatchesSpecSpec.vars false W args.toList ds gs before) (hk : Rows.uptoSmall H (ds ++ gs) = true) (hgl : Gl (gAll W)) :
    Calls Tryz.prog 3 args W fun e W' => ∃ v, e = .returned v ∧ Rows.noticeMatchesSpecSpec.post enc Tryz.prog Tryz.f3 false true false false W args v W' := by
  have hW' := hW
  obtain ⟨p, q, hA0, hV, rfl, hfz, hnd⟩ := hW
  have hA : DataW.TrodAll enc Tryz.prog W 0 (fun _ => true) true Tryz.f3.params.toList args.toList ds p := hA0
  rw [Tryz.params3] at hA hval
  obtain ⟨v0, vs0, d0, ds0, p0, q0, hargs, rfl, rfl, h0, r0⟩ := trodAll_cons hA
  obtain ⟨v1, vs1, d1, ds1, p1, q1, rfl, rfl, rfl, h1, r1⟩ := trodAll_cons r0
  obtain ⟨v2, vs2, d2, ds2, p2, q2, rfl, rfl, rfl, h2, r2⟩ := trodAll_cons r1
  obtain ⟨v3, vs3, d3, ds3, p3, q3, rfl, rfl, rfl, h3, r3⟩ := trodAll_cons r2
  obtain ⟨rfl, rfl, rfl⟩ := trodAll_nil r3
  obtain rfl : args = #[v0, v1, v2, v3] := by cases args; simp_all
  obtain ⟨rfl, rfl⟩ := trodVars_none hV
  obtain ⟨a0, e0, o0, k0⟩ := arg_agg op_api_Mail (by obtain ⟨cs, h, _⟩ := okWide_struct ty_api_Mail.u (hval 0 _ v0 rfl rfl); exact ⟨cs, h⟩) h0
  obtain ⟨a1, e1, o1, k1⟩ := arg_one op_int (by obtain ⟨_, h⟩ := okWide_int ty_int.u (hval 1 _ v1 rfl rfl); rw [h]; rfl) h1
  obtain ⟨a2, e2, o2, k2⟩ := arg_one op_s_api_Told (by obtain ⟨_, _, _, h⟩ := okWide_slice ty_s_api_Told.u (hval 2 _ v2 rfl rfl); rw [h]; rfl) h2
  obtain ⟨a3, e3, o3, k3⟩ := arg_one op_int (by obtain ⟨_, h⟩ := okWide_int ty_int.u (hval 3 _ v3 rfl rfl); rw [h]; rfl) h3
  have hk2 := of_decide_eq_true hk
  simp only [List.append_nil, Rows.uptoBulkAll] at hk2
  have ht := L_NoticeMatchesSpec_true a0 a1 a2 a3 o0 o1 o2 o3 (by (try dsimp only); omega)
  have key : Calls Tryz.prog 3 #[v0, v1, v2, v3] W fun e W' => e = .returned (.bool true) ∧ Below W.heap.size W W' := calls_of_run (L_NoticeMatchesSpec_run a0 a1 a2 a3 true ht) hgl (relArgs_of (.cons e0 (.cons (e1 _ rfl) (.cons (e2 _ rfl) (.cons (e3 _ rfl) .nil)))))
  refine key.mono fun e W' ⟨he, hb⟩ => ⟨_, he, ?_⟩
  exact post_true laidOut (by kernel_rfl) Tryz.underlying4 (by kernel_rfl) rfl rfl hW' hb

/-- a world for the witness -/
noncomputable def wit (os : Os) : World := World.doorLaid Tryz.prog 34 os
theorem reads (os : Os) {H : Type} (enc : TypeId × Value → H) : ∃ places, DataW.whole enc Tryz.prog ((wit os).forCall (fun _ _ => 0) ⟨#[], #[.agg #[.string ⟨#[]⟩, .slice none 0 0, .string ⟨#[]⟩, .slice none 0 0, .slice none 0 0], .int .i64 0, .slice none 0 0, .int .i64 0], []⟩).memory Tryz.f3.params.toList (Rows.OpenSpec.upto Rows.noticeMatchesSpecSpec).vars false (#[.agg #[.string ⟨#[]⟩, .slice none 0 0, .string ⟨#[]⟩, .slice none 0 0, .slice none 0 0], .int .i64 0, .slice none 0 0, .int .i64 0] : Array Value).toList 8 = some ([.agg [.agg [.lit (.string []), .nil, .lit (.string [])], .agg [.nil, .nil]], .lit (.int .i64 0), .nil, .lit (.int .i64 0)], [], places) :=
  ⟨[], by kernel_rfl⟩
theorem lifted (os : Os) (started : os.Started) (H : Type) (enc : TypeId × Value → H) (F : Stop.Interp) :
    ReturnsInHanded {} Tryz.checked os 3 .any ((Rows.OpenSpec.upto Rows.noticeMatchesSpecSpec).preRow enc Tryz.prog Tryz.f3 Rows.noticeMatchesSpecUptoRow.domain false Rows.noticeMatchesSpecUptoRow.laid) (((Rows.OpenSpec.upto Rows.noticeMatchesSpecSpec).at F).post enc Tryz.prog Tryz.f3 false true false false) := by
  obtain ⟨places, hx⟩ := reads os enc
  refine returnsInHanded_of_row (C := Tryz.checked) (s := Rows.OpenSpec.upto Rows.noticeMatchesSpecSpec) own started (by kernel_rfl) Tryz.func3
    (witness_row_atRef (enc := enc) (C := Tryz.checked) false (wit os) #[.agg #[.string ⟨#[]⟩, .slice none 0 0, .string ⟨#[]⟩, .slice none 0 0, .slice none 0 0], .int .i64 0, .slice none 0 0, .int .i64 0] rfl (by kernel_rfl) (by kernel_rfl) (by kernel_rfl)
      (OpenSpec.preRow_of_cond 8 hx (by kernel_rfl) (fun k hk => by cases hk; kernel_rfl) (by kernel_rfl) (laidMet_of_run' 8 (by kernel_rfl) (by kernel_rfl)))) ?_
  intro W base args ds gs before hval hW _ hk _ hL hsh _
  exact contract H enc W base args ds gs before hval hW (hk _ rfl) (gl_of_laid (rest := Rows.noticeMatchesSpecUptoRow.laid.drop 3) hsh (by kernel_rfl) hL (fun _ k hk => by simp [globI] at hk))

theorem j0 : jf0 Tryz.pinned.checked.prog 3 Tryz.f3 (Rows.OpenSpec.upto Rows.noticeMatchesSpecSpec).bare Rows.noticeMatchesSpecUptoRow = true := by kernel_rfl
theorem j1 : jf1 Tryz.pinned.checked.prog 3 Tryz.f3 (Rows.OpenSpec.upto Rows.noticeMatchesSpecSpec).bare Rows.noticeMatchesSpecUptoRow = true := by kernel_rfl
theorem j2 : jf2 Tryz.pinned.checked.prog 3 Tryz.f3 (Rows.OpenSpec.upto Rows.noticeMatchesSpecSpec).bare Rows.noticeMatchesSpecUptoRow = true := by kernel_rfl
theorem j3 : jf3 Tryz.pinned.checked.prog 3 Tryz.f3 (Rows.OpenSpec.upto Rows.noticeMatchesSpecSpec).bare Rows.noticeMatchesSpecUptoRow = true := by kernel_rfl
theorem j4 : jf4 Tryz.pinned.checked.prog 3 Tryz.f3 (Rows.OpenSpec.upto Rows.noticeMatchesSpecSpec).bare Rows.noticeMatchesSpecUptoRow = true := by kernel_rfl
theorem j5 : jf5 Tryz.pinned.checked.prog 3 Tryz.f3 (Rows.OpenSpec.upto Rows.noticeMatchesSpecSpec).bare Rows.noticeMatchesSpecUptoRow = true := by kernel_rfl
theorem j6 : jf6 Tryz.pinned.checked.prog 3 Tryz.f3 (Rows.OpenSpec.upto Rows.noticeMatchesSpecSpec).bare Rows.noticeMatchesSpecUptoRow = true := by kernel_rfl
theorem j7 : jf7 Tryz.pinned.checked.prog 3 Tryz.f3 (Rows.OpenSpec.upto Rows.noticeMatchesSpecSpec).bare Rows.noticeMatchesSpecUptoRow = true := by kernel_rfl
theorem j8 : jf8 Tryz.pinned.checked.prog 3 Tryz.f3 (Rows.OpenSpec.upto Rows.noticeMatchesSpecSpec).bare Rows.noticeMatchesSpecUptoRow = true := by kernel_rfl
theorem j9 : jf9 Tryz.pinned.checked.prog 3 Tryz.f3 (Rows.OpenSpec.upto Rows.noticeMatchesSpecSpec).bare Rows.noticeMatchesSpecUptoRow = true := by kernel_rfl
theorem j10 : jf10 Tryz.pinned.checked.prog 3 Tryz.f3 (Rows.OpenSpec.upto Rows.noticeMatchesSpecSpec).bare Rows.noticeMatchesSpecUptoRow = true := by kernel_rfl
theorem j11 : jf11 Tryz.pinned.checked.prog 3 Tryz.f3 (Rows.OpenSpec.upto Rows.noticeMatchesSpecSpec).bare Rows.noticeMatchesSpecUptoRow = true := by kernel_rfl
theorem j12 : jf12 Tryz.pinned.checked.prog 3 Tryz.f3 (Rows.OpenSpec.upto Rows.noticeMatchesSpecSpec).bare Rows.noticeMatchesSpecUptoRow = true := by kernel_rfl
theorem j13 : jf13 Tryz.pinned.checked.prog 3 Tryz.f3 (Rows.OpenSpec.upto Rows.noticeMatchesSpecSpec).bare Rows.noticeMatchesSpecUptoRow = true := by kernel_rfl
theorem j14 : jf14 Tryz.pinned.checked.prog 3 Tryz.f3 (Rows.OpenSpec.upto Rows.noticeMatchesSpecSpec).bare Rows.noticeMatchesSpecUptoRow = true := by kernel_rfl
theorem j15 : jf15 Tryz.pinned.checked.prog 3 Tryz.f3 (Rows.OpenSpec.upto Rows.noticeMatchesSpecSpec).bare Rows.noticeMatchesSpecUptoRow = true := by kernel_rfl
theorem j16 : jf16 Tryz.pinned.checked.prog 3 Tryz.f3 (Rows.OpenSpec.upto Rows.noticeMatchesSpecSpec).bare Rows.noticeMatchesSpecUptoRow = true := by kernel_rfl
theorem j17 : jf17 Tryz.pinned.checked.prog 3 Tryz.f3 (Rows.OpenSpec.upto Rows.noticeMatchesSpecSpec).bare Rows.noticeMatchesSpecUptoRow = true := by kernel_rfl
theorem j18 : jf18 Tryz.pinned.checked.prog 3 Tryz.f3 (Rows.OpenSpec.upto Rows.noticeMatchesSpecSpec).bare Rows.noticeMatchesSpecUptoRow = true := by kernel_rfl
theorem j19 : jf19 Tryz.pinned.checked.prog 3 Tryz.f3 (Rows.OpenSpec.upto Rows.noticeMatchesSpecSpec).bare Rows.noticeMatchesSpecUptoRow = true := by kernel_rfl
theorem j20 : jf20 Tryz.pinned.checked.prog 3 Tryz.f3 (Rows.OpenSpec.upto Rows.noticeMatchesSpecSpec).bare Rows.noticeMatchesSpecUptoRow = true := by kernel_rfl
theorem j21 : jf21 Tryz.pinned.checked.prog 3 Tryz.f3 (Rows.OpenSpec.upto Rows.noticeMatchesSpecSpec).bare Rows.noticeMatchesSpecUptoRow = true := by kernel_rfl
theorem j22 : jf22 Tryz.pinned.checked.prog 3 Tryz.f3 (Rows.OpenSpec.upto Rows.noticeMatchesSpecSpec).bare Rows.noticeMatchesSpecUptoRow = true := by kernel_rfl
theorem j23 : jf23 Tryz.pinned.checked.prog 3 Tryz.f3 (Rows.OpenSpec.upto Rows.noticeMatchesSpecSpec).bare Rows.noticeMatchesSpecUptoRow = true := by kernel_rfl
theorem j24 : jf24 Tryz.pinned.checked.prog 3 Tryz.f3 (Rows.OpenSpec.upto Rows.noticeMatchesSpecSpec).bare Rows.noticeMatchesSpecUptoRow = true := by kernel_rfl
theorem j25 : jf25 Tryz.pinned.checked.prog 3 Tryz.f3 (Rows.OpenSpec.upto Rows.noticeMatchesSpecSpec).bare Rows.noticeMatchesSpecUptoRow = true := by kernel_rfl
theorem j26 : jf26 Tryz.pinned.checked.prog 3 Tryz.f3 (Rows.OpenSpec.upto Rows.noticeMatchesSpecSpec).bare Rows.noticeMatchesSpecUptoRow = true := by kernel_rfl
theorem j27 : jf27 Tryz.pinned.checked.prog 3 Tryz.f3 (Rows.OpenSpec.upto Rows.noticeMatchesSpecSpec).bare Rows.noticeMatchesSpecUptoRow = true := by kernel_rfl
theorem j28 : jf28 Tryz.pinned.checked.prog 3 Tryz.f3 (Rows.OpenSpec.upto Rows.noticeMatchesSpecSpec).bare Rows.noticeMatchesSpecUptoRow = true := by kernel_rfl
theorem j29 : jf29 Tryz.pinned.checked.prog 3 Tryz.f3 (Rows.OpenSpec.upto Rows.noticeMatchesSpecSpec).bare Rows.noticeMatchesSpecUptoRow = true := by kernel_rfl
theorem j30 : jf30 Tryz.pinned.checked.prog 3 Tryz.f3 (Rows.OpenSpec.upto Rows.noticeMatchesSpecSpec).bare Rows.noticeMatchesSpecUptoRow = true := by kernel_rfl
theorem j31 : jf31 Tryz.pinned.checked.prog 3 Tryz.f3 (Rows.OpenSpec.upto Rows.noticeMatchesSpecSpec).bare Rows.noticeMatchesSpecUptoRow = true := by kernel_rfl
theorem said : Rows.noticeMatchesSpecUptoRow.holds Tryz.pinned (Rows.OpenSpec.upto Rows.noticeMatchesSpecSpec) :=
  OpenClaim.holds_of_cond 3 Tryz.f3 rfl rfl rfl rfl rfl rfl rfl ⟨rfl, rfl, rfl, rfl, rfl⟩ rfl rfl rfl rfl rfl (by kernel_rfl) Tryz.func3 (joined_of j0 j1 j2 j3 j4 j5 j6 j7 j8 j9 j10 j11 j12 j13 j14 j15 j16 j17 j18 j19 j20 j21 j22 j23 j24 j25 j26 j27 j28 j29 j30 j31)
    (of_decide_eq_true (by kernel_rfl)) (by unfold Func.isWrapper; first | (rw [if_pos (by decide +kernel)]; kernel_rfl) | (rw [if_neg (by decide +kernel)]; exact ⟨rfl, rfl⟩))
    (fun os started H enc _ F => by rw [OpenClaim.pre_eq_preRow]; exact lifted os started H enc F)

theorem plain (f : FuncId) (fn : Func) (hf : Tryz.pinned.checked.prog.funcNamed "posthouse/posthouselaw3.NoticeMatchesSpec" = some f) (hfn : Tryz.pinned.checked.prog.funcs[f]? = some fn) :
    true = Tryz.pinned.checked.prog.looks [] ∧ ∀ (j : Nat) t, fn.params[j]? = some t → Tryz.pinned.checked.prog.wantsStandIn t = false := by
  obtain rfl : f = 3 := Option.some.inj ((show Tryz.prog.funcNamed "posthouse/posthouselaw3.NoticeMatchesSpec" = some 3 by kernel_rfl).symm.trans hf) |>.symm
  obtain rfl : fn = Tryz.f3 := (Option.some.inj (Tryz.func3.symm.trans hfn)).symm
  refine ⟨by kernel_rfl, fun j t ht => ?_⟩
  rw [Tryz.params3] at ht
  have hm := Array.mem_of_getElem? ht
  simp only [List.mem_toArray, List.mem_cons, List.not_mem_nil, or_false] at hm
  rcases hm with rfl | rfl | rfl | rfl
  · exact (show Tryz.prog.wantsStandIn 30 = false by kernel_rfl)
  · exact (show Tryz.prog.wantsStandIn 3 = false by kernel_rfl)
  · exact (show Tryz.prog.wantsStandIn 31 = false by kernel_rfl)
  · exact (show Tryz.prog.wantsStandIn 3 = false by kernel_rfl)
theorem proved : Rows.NoticeMatchesSpecUptoCardSaid :=
  Claim7.holds_tied_plain_at .later [] _ _ _ _ said (fun _ h => by cases h) (by kernel_rfl) (fun _ h => by cases h) noticeMatchesSpecUpto_row_tie rfl ⟨rfl, rfl⟩ (by kernel_rfl) rfl plain (by kernel_rfl)
#print axioms proved
end Go.Proofs.YtfkgmcilaiblfaaGreatDoor.noticeMatchesSpec
