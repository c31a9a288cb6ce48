/- The law ForwardStepMatchesSpec holds for every input of bulk up to the given bound: it returns true and leaves its arguments as they were. Written by program. -/
import Derived.Test.YtfhfjckjmacekaaGreatKForwardStepMatchesSpec3
set_option linter.unusedVariables false
set_option linter.unusedSimpArgs false
namespace Go.Proofs.YtfhfjckjmacekaaGreat
open Go.RowKit
set_option maxRecDepth 100000
set_option maxHeartbeats 40000000
set_option linter.unusedVariables false
theorem R_FieldLines_run (a0 : Str) (a1 : Str) (r : List Str) (hr : R_FieldLines a0 a1 = some r) : Run Tryz.prog 93 [.s a0, .s a1] (.l cS r) := by
 unfold R_FieldLines at hr
 refine rf (fn := Tryz.f93) ⟨Tryz.func93, rfl, by kernel_rfl⟩ rfl (fun _ => rfl) fun g0 hg => ?_
 refine rn tk 8 rfl ?_
 obtain ⟨v1, h2, hr⟩ := bind_some hr
 refine wc h2 rfl rfl rfl ?_
 refine rn tk 1 rfl ?_
 obtain ⟨v3, h4, hr⟩ := bind_some hr
 refine wc h4 rfl rfl rfl ?_
 refine rn tk 14 rfl ?_
 refine awpl_adopt 1007 (d := 7) 9 1 rfl rfl rfl (hO ?_)
 refine rn tk 4 rfl ?_
 refine al1 hr (fun s5 => [(5, .s s5.1), (6, .i s5.2.1), (7, .hs 1007 0)]) (fun s5 => [(1007, .row 9 false 1 (List.map cS s5.2.2))]) (.exit 0) (fun b6 => [(5, .s b6.1), (7, .hs 1007 0)]) (fun b6 => [(1007, .row 9 false 1 (List.map cS b6.2))]) rfl rfl (fun s5 x7 hr => ?_) (fun b6 hr => ?_)
 ·
  unfold R_FieldLines_l1 at hr
  refine rn tk 8 rfl ?_
  refine ac 20 hr rfl (fun c8 hr => ?_) (fun c8 hr => ?_)
  ·
   refine rn tk 15 rfl ?_
   refine al1 hr (fun s9 => [(5, .s s5.1), (6, .i s5.2.1), (7, .hs 1007 0), (8, .i s9.1), (9, .i s9.2)]) (fun s9 => [(1007, .row 9 false 1 (List.map cS s5.2.2))]) (.exit 2) (fun b10 => [(5, .s s5.1), (6, .i s5.2.1), (7, .hs 1007 0), (8, .i b10)]) (fun b10 => [(1007, .row 9 false 1 (List.map cS s5.2.2))]) rfl rfl (fun s9 x11 hr => ?_) (fun b10 hr => ?_)
   ·
    unfold R_FieldLines_l2 at hr
    refine rn tk 1 rfl ?_
    refine jb hr (fun j12 => [(5, .s s5.1), (6, .i s5.2.1), (7, .hs 1007 0), (8, .i s9.1), (9, .i s9.2), (26, .bo j12)]) (fun j12 => [(1007, .row 9 false 1 (List.map cS s5.2.2))]) (fun j12 hr => ?_) (fun j12 hr => ?_)
    ·
     refine rn tk 4 rfl ?_
     refine bs 23 hr rfl (fun c13 hr => ?_) (fun c13 hr => ?_)
     ·
      refine rn tk 4 rfl ?_
      cases hr
      exact jn _ rfl rfl rfl
     ·
      refine rn tk 4 rfl ?_
      cases hr
      exact jn _ rfl rfl rfl
    ·
     refine ac 26 hr rfl (fun c14 hr => ?_) (fun c14 hr => ?_)
     ·
      refine rn tk 2 rfl ?_
      refine jb hr (fun j15 => [(5, .s s5.1), (6, .i s5.2.1), (7, .hs 1007 0), (8, .i j15), (9, .i s9.2)]) (fun j15 => [(1007, .row 9 false 1 (List.map cS s5.2.2))]) (fun j15 hr => ?_) (fun j15 hr => ?_)
      ·
       refine rn tk 1 rfl ?_
       refine jb hr (fun j16 => [(5, .s s5.1), (6, .i s5.2.1), (7, .hs 1007 0), (8, .i s9.1), (9, .i s9.2), (45, .bo j16)]) (fun j16 => [(1007, .row 9 false 1 (List.map cS s5.2.2))]) (fun j16 hr => ?_) (fun j16 hr => ?_)
       ·
        refine rn tk 5 rfl ?_
        refine bs 32 hr rfl (fun c17 hr => ?_) (fun c17 hr => ?_)
        ·
         refine rn tk 2 rfl ?_
         obtain ⟨v18, h19, hr⟩ := bind_some hr
         refine ug rfl rfl rfl ?_
         refine ws tk h19 rfl rfl rfl rfl ?_
         obtain ⟨v20, h21, hr⟩ := bind_some hr
         refine ug rfl rfl rfl ?_
         refine cl (R_blank_run _ _ h21) rfl rfl ?_
         refine rn tk 2 rfl ?_
         refine bs 38 hr rfl (fun c22 hr => ?_) (fun c22 hr => ?_)
         ·
          refine rn tk 3 rfl ?_
          obtain ⟨v23, h24, hr⟩ := bind_some hr
          refine ug rfl rfl rfl ?_
          refine ws tk h24 rfl rfl rfl rfl ?_
          obtain ⟨v25, h26, hr⟩ := bind_some hr
          refine ug rfl rfl rfl ?_
          refine cl (R_blank_run _ _ h26) rfl rfl ?_
          refine rn tk 3 rfl ?_
          cases hr
          exact jn _ rfl rfl rfl
         ·
          refine rn tk 8 rfl ?_
          cases hr
          exact jn _ rfl rfl rfl
        ·
         refine rn tk 14 rfl ?_
         cases hr
         exact jn _ rfl rfl rfl
       ·
        refine ac 45 hr rfl (fun c27 hr => ?_) (fun c27 hr => ?_)
        ·
         refine rn tk 5 rfl ?_
         cases hr
         exact jn _ rfl rfl rfl
        ·
         refine rn tk 2 rfl ?_
         cases hr
         exact jn _ rfl rfl rfl
      ·
       refine rn tk 5 rfl ?_
       cases hr
       exact atc rfl rfl
     ·
      refine rn tk 2 rfl ?_
      cases hr
      exact ato rfl rfl rfl rfl
   ·
    refine rn tk 9 rfl ?_
    refine al1 hr (fun s28 => [(5, .s s5.1), (6, .i s5.2.1), (7, .hs 1007 0), (8, .i s28.1), (10, .i s28.2)]) (fun s28 => [(1007, .row 9 false 1 (List.map cS s5.2.2))]) (.exit 4) (fun b29 => [(5, .s s5.1), (7, .hs 1007 0), (8, .i b29)]) (fun b29 => [(1007, .row 9 false 1 (List.map cS s5.2.2))]) rfl rfl (fun s28 x30 hr => ?_) (fun b29 hr => ?_)
    ·
     unfold R_FieldLines_l3 at hr
     refine rn tk 1 rfl ?_
     refine jb hr (fun j31 => [(5, .s s5.1), (6, .i s5.2.1), (7, .hs 1007 0), (8, .i s28.1), (10, .i s28.2), (54, .bo j31)]) (fun j31 => [(1007, .row 9 false 1 (List.map cS s5.2.2))]) (fun j31 hr => ?_) (fun j31 hr => ?_)
     ·
      refine rn tk 6 rfl ?_
      refine bs 51 hr rfl (fun c32 hr => ?_) (fun c32 hr => ?_)
      ·
       refine rn tk 4 rfl ?_
       cases hr
       exact jn _ rfl rfl rfl
      ·
       refine rn tk 4 rfl ?_
       cases hr
       exact jn _ rfl rfl rfl
     ·
      refine ac 54 hr rfl (fun c33 hr => ?_) (fun c33 hr => ?_)
      ·
       refine rn tk 2 rfl ?_
       refine jb hr (fun j34 => [(5, .s s5.1), (6, .i s5.2.1), (7, .hs 1007 0), (8, .i j34), (10, .i s28.2)]) (fun j34 => [(1007, .row 9 false 1 (List.map cS s5.2.2))]) (fun j34 hr => ?_) (fun j34 hr => ?_)
       ·
        refine rn tk 1 rfl ?_
        refine jb hr (fun j35 => [(5, .s s5.1), (6, .i s5.2.1), (7, .hs 1007 0), (8, .i s28.1), (10, .i s28.2), (73, .bo j35)]) (fun j35 => [(1007, .row 9 false 1 (List.map cS s5.2.2))]) (fun j35 hr => ?_) (fun j35 hr => ?_)
        ·
         refine rn tk 5 rfl ?_
         refine bs 60 hr rfl (fun c36 hr => ?_) (fun c36 hr => ?_)
         ·
          refine rn tk 2 rfl ?_
          obtain ⟨v37, h38, hr⟩ := bind_some hr
          refine ug rfl rfl rfl ?_
          refine ws tk h38 rfl rfl rfl rfl ?_
          obtain ⟨v39, h40, hr⟩ := bind_some hr
          refine ug rfl rfl rfl ?_
          refine cl (R_blank_run _ _ h40) rfl rfl ?_
          refine rn tk 2 rfl ?_
          refine bs 66 hr rfl (fun c41 hr => ?_) (fun c41 hr => ?_)
          ·
           refine rn tk 3 rfl ?_
           obtain ⟨v42, h43, hr⟩ := bind_some hr
           refine ug rfl rfl rfl ?_
           refine ws tk h43 rfl rfl rfl rfl ?_
           obtain ⟨v44, h45, hr⟩ := bind_some hr
           refine ug rfl rfl rfl ?_
           refine cl (R_blank_run _ _ h45) rfl rfl ?_
           refine rn tk 3 rfl ?_
           cases hr
           exact jn _ rfl rfl rfl
          ·
           refine rn tk 8 rfl ?_
           cases hr
           exact jn _ rfl rfl rfl
         ·
          refine rn tk 14 rfl ?_
          cases hr
          exact jn _ rfl rfl rfl
        ·
         refine ac 73 hr rfl (fun c46 hr => ?_) (fun c46 hr => ?_)
         ·
          refine rn tk 5 rfl ?_
          cases hr
          exact jn _ rfl rfl rfl
         ·
          refine rn tk 2 rfl ?_
          cases hr
          exact jn _ rfl rfl rfl
       ·
        refine rn tk 5 rfl ?_
        cases hr
        exact atc rfl rfl
      ·
       refine rn tk 2 rfl ?_
       cases hr
       exact ato rfl rfl rfl rfl
    ·
     refine rn tk 9 rfl ?_
     refine ac 76 hr rfl (fun c47 hr => ?_) (fun c47 hr => ?_)
     ·
      refine rn tk 3 rfl ?_
      cases hr
      exact ato rfl rfl rfl rfl
     ·
      refine rn tk 7 rfl ?_
      obtain ⟨v48, h49, hr⟩ := bind_some hr
      refine wscH tk h49 rfl rfl rfl rfl ?_
      refine wz cS ([v48] : List Str) tk rfl rfl (fun _ => rfl) rfl rfl rfl ?_
      obtain ⟨v50, h51, hr⟩ := bind_some hr
      refine wa tk h51 rfl rfl rfl rfl (fun _ => rfl) rfl rfl ?_
      refine rn tk 7 rfl ?_
      obtain ⟨v52, h53, hr⟩ := bind_some hr
      refine wscL tk h53 rfl rfl rfl rfl ?_
      refine rn tk 7 rfl ?_
      cases hr
      exact atc rfl rfl
  ·
   refine rn tk 2 rfl ?_
   cases hr
   exact ato rfl rfl rfl rfl
 ·
  refine rn tk 6 rfl ?_
  refine wz cS ([b6.1] : List Str) tk rfl rfl (fun _ => rfl) rfl rfl rfl ?_
  obtain ⟨v54, h55, hr⟩ := bind_some hr
  refine wa tk h55 rfl rfl rfl rfl (fun _ => rfl) rfl rfl ?_
  refine rn tk 3 rfl ?_
  refine awp_pub (d := 4) (F := cS) (l := v54) rfl rfl (hC ?_)
  refine rn tk 1 rfl ?_
  cases hr
  exact kr tk (.inr rfl) rfl rfl
theorem R_FieldCode_run (a0 : TField) (r : Int) (hr : R_FieldCode a0 = some r) : Run Tryz.prog 70 [.agg [.s a0.Name, .s a0.Value]] (.i r) := by
 unfold R_FieldCode at hr
 refine rf (fn := Tryz.f70) ⟨Tryz.func70, rfl, by kernel_rfl⟩ rfl (fun _ => rfl) fun g0 hg => ?_
 refine rn tk 13 rfl ?_
 refine al2 hr (fun s1 => [(1, .ptr 1 0), (3, .i s1)]) (fun s1 => [(1, .cells [.s a0.Name, .s a0.Value])]) (.exit 0) (fun b2 => [(1, .ptr 1 0)]) (fun b2 => [(1, .cells [.s a0.Name, .s a0.Value])]) .ret (fun b3 => [(2, .i b3)]) (fun b3 => []) rfl rfl (fun s1 x5 hr => ?_) (fun b2 hr => ?_) (fun b3 hr => ?_)
 ·
  unfold R_FieldCode_l1 at hr
  refine rn tk 10 rfl ?_
  refine ac 12 hr rfl (fun c6 hr => ?_) (fun c6 hr => ?_)
  ·
   refine rn tk 4 rfl ?_
   refine jb hr (fun j7 => [(1, .ptr 1 0), (3, .i s1), (28, .bo j7)]) (fun j7 => [(1, .cells [.s a0.Name, .s a0.Value])]) (fun j7 hr => ?_) (fun j7 hr => ?_)
   ·
    refine rn tk 4 rfl ?_
    obtain ⟨v8, h9, hr⟩ := bind_some hr
    refine ws tk h9 rfl rfl rfl rfl ?_
    refine wu tk rfl rfl rfl ?_
    obtain ⟨v10, h11, hr⟩ := bind_some hr
    refine cl (R_In_run _ _ _ _ h11) rfl rfl ?_
    refine rn tk 2 rfl ?_
    refine bs 22 hr rfl (fun c12 hr => ?_) (fun c12 hr => ?_)
    ·
     refine rn tk 7 rfl ?_
     cases hr
     exact jn _ rfl rfl rfl
    ·
     refine rn tk 3 rfl ?_
     obtain ⟨v13, h14, hr⟩ := bind_some hr
     refine ug rfl rfl rfl ?_
     refine ws tk h14 rfl rfl rfl rfl ?_
     refine rn tk 3 rfl ?_
     cases hr
     exact jn _ rfl rfl rfl
   ·
    refine ac 28 hr rfl (fun c15 hr => ?_) (fun c15 hr => ?_)
    ·
     refine rn tk 8 rfl ?_
     cases hr
     exact ato rfl rfl rfl rfl
    ·
     refine rn tk 8 rfl ?_
     cases hr
     exact atc rfl rfl
  ·
   refine rn tk 2 rfl ?_
   cases hr
   exact ato rfl rfl rfl rfl
 ·
  refine rn tk 8 rfl ?_
  obtain ⟨v16, h17, hr⟩ := bind_some hr
  refine cl (R_In_run _ _ _ _ h17) rfl rfl ?_
  refine rn tk 3 rfl ?_
  refine ac 33 hr rfl (fun c18 hr => ?_) (fun c18 hr => ?_)
  ·
   refine rn tk 7 rfl ?_
   cases hr
   exact kr tk (.inr rfl) rfl rfl
  ·
   refine rn tk 11 rfl ?_
   refine ac 37 hr rfl (fun c19 hr => ?_) (fun c19 hr => ?_)
   ·
    refine rn tk 7 rfl ?_
    cases hr
    exact kr tk (.inr rfl) rfl rfl
   ·
    refine rn tk 17 rfl ?_
    refine al2 hr (fun s20 => [(1, .ptr 1 0), (4, .i ((a0.Value.length : Int))), (5, .i s20)]) (fun s20 => [(1, .cells [.s a0.Name, .s a0.Value])]) (.exit 2) (fun b21 => [(1, .ptr 1 0), (4, .i ((a0.Value.length : Int)))]) (fun b21 => [(1, .cells [.s a0.Name, .s a0.Value])]) .ret (fun b22 => [(2, .i b22)]) (fun b22 => []) rfl rfl (fun s20 x24 hr => ?_) (fun b21 hr => ?_) (fun b22 hr => ?_)
    ·
     unfold R_FieldCode_l2 at hr
     refine rn tk 8 rfl ?_
     refine ac 43 hr rfl (fun c25 hr => ?_) (fun c25 hr => ?_)
     ·
      refine rn tk 4 rfl ?_
      refine jb hr (fun j26 => [(1, .ptr 1 0), (4, .i ((a0.Value.length : Int))), (5, .i s20), (64, .bo j26)]) (fun j26 => [(1, .cells [.s a0.Name, .s a0.Value])]) (fun j26 hr => ?_) (fun j26 hr => ?_)
      ·
       refine rn tk 4 rfl ?_
       obtain ⟨v27, h28, hr⟩ := bind_some hr
       refine ws tk h28 rfl rfl rfl rfl ?_
       refine rn tk 2 rfl ?_
       refine bs 51 hr rfl (fun c29 hr => ?_) (fun c29 hr => ?_)
       ·
        refine rn tk 14 rfl ?_
        cases hr
        exact jn _ rfl rfl rfl
       ·
        refine rn tk 3 rfl ?_
        obtain ⟨v30, h31, hr⟩ := bind_some hr
        refine ug rfl rfl rfl ?_
        refine ws tk h31 rfl rfl rfl rfl ?_
        refine rn tk 3 rfl ?_
        refine bs 58 hr rfl (fun c32 hr => ?_) (fun c32 hr => ?_)
        ·
         refine rn tk 7 rfl ?_
         cases hr
         exact jn _ rfl rfl rfl
        ·
         refine rn tk 3 rfl ?_
         obtain ⟨v33, h34, hr⟩ := bind_some hr
         refine ug rfl rfl rfl ?_
         refine ws tk h34 rfl rfl rfl rfl ?_
         refine rn tk 3 rfl ?_
         cases hr
         exact jn _ rfl rfl rfl
      ·
       refine ac 64 hr rfl (fun c35 hr => ?_) (fun c35 hr => ?_)
       ·
        refine rn tk 8 rfl ?_
        cases hr
        exact ato rfl rfl rfl rfl
       ·
        refine rn tk 8 rfl ?_
        cases hr
        exact atc rfl rfl
     ·
      refine rn tk 2 rfl ?_
      cases hr
      exact ato rfl rfl rfl rfl
    ·
     refine rn tk 3 rfl ?_
     refine jb hr (fun j36 => [(1, .ptr 1 0), (80, .bo j36)]) (fun j36 => [(1, .cells [.s a0.Name, .s a0.Value])]) (fun j36 hr => ?_) (fun j36 hr => ?_)
     ·
      refine rn tk 4 rfl ?_
      refine bs 67 hr rfl (fun c37 hr => ?_) (fun c37 hr => ?_)
      ·
       refine rn tk 2 rfl ?_
       obtain ⟨v38, h39, hr⟩ := bind_some hr
       refine ug rfl rfl rfl ?_
       refine ws tk h39 rfl rfl rfl rfl ?_
       obtain ⟨v40, h41, hr⟩ := bind_some hr
       refine ug rfl rfl rfl ?_
       refine cl (R_blank_run _ _ h41) rfl rfl ?_
       refine rn tk 1 rfl ?_
       refine bs 72 hr rfl (fun c42 hr => ?_) (fun c42 hr => ?_)
       ·
        refine rn tk 9 rfl ?_
        cases hr
        exact jn _ rfl rfl rfl
       ·
        refine rn tk 4 rfl ?_
        obtain ⟨v43, h44, hr⟩ := bind_some hr
        refine ug rfl rfl rfl ?_
        refine ws tk h44 rfl rfl rfl rfl ?_
        obtain ⟨v45, h46, hr⟩ := bind_some hr
        refine ug rfl rfl rfl ?_
        refine cl (R_blank_run _ _ h46) rfl rfl ?_
        refine rn tk 3 rfl ?_
        cases hr
        exact jn _ rfl rfl rfl
      ·
       refine rn tk 14 rfl ?_
       cases hr
       exact jn _ rfl rfl rfl
     ·
      refine ac 80 hr rfl (fun c47 hr => ?_) (fun c47 hr => ?_)
      ·
       refine rn tk 7 rfl ?_
       cases hr
       exact kr tk (.inr rfl) rfl rfl
      ·
       refine rn tk 8 rfl ?_
       obtain ⟨v48, h49, hr⟩ := bind_some hr
       refine cl (R_FieldLines_run _ _ _ h49) rfl rfl ?_
       refine rn tk 10 rfl ?_
       refine al2 hr (fun s50 => [(6, .l cS v48), (7, .i s50)]) (fun s50 => []) (.exit 4) (fun b51 => []) (fun b51 => []) .ret (fun b52 => [(2, .i b52)]) (fun b52 => []) rfl rfl (fun s50 x54 hr => ?_) (fun b51 hr => ?_) (fun b52 hr => ?_)
       ·
        unfold R_FieldCode_l3 at hr
        refine rn tk 5 rfl ?_
        refine wn tk rfl rfl rfl ?_
        refine rn tk 3 rfl ?_
        refine ac 89 hr rfl (fun c55 hr => ?_) (fun c55 hr => ?_)
        ·
         refine rn tk 8 rfl ?_
         obtain ⟨v56, h57, hr⟩ := bind_some hr
         refine wi tk h57 rfl rfl rfl rfl rfl ?_
         refine rn tk 5 rfl ?_
         refine ac 97 hr rfl (fun c58 hr => ?_) (fun c58 hr => ?_)
         ·
          refine rn tk 8 rfl ?_
          cases hr
          exact ato rfl rfl rfl rfl
         ·
          refine rn tk 8 rfl ?_
          cases hr
          exact atc rfl rfl
        ·
         refine rn tk 2 rfl ?_
         cases hr
         exact ato rfl rfl rfl rfl
       ·
        refine rn tk 8 rfl ?_
        cases hr
        exact kr tk (.inr rfl) rfl rfl
       ·
        refine rn tk 2 rfl ?_
        cases hr
        exact kr tk (.inr rfl) rfl rfl
    ·
     refine rn tk 2 rfl ?_
     cases hr
     exact kr tk (.inr rfl) rfl rfl
 ·
  refine rn tk 2 rfl ?_
  cases hr
  exact kr tk (.inr rfl) rfl rfl
theorem R_MessageBytes_run (a0 : TMessage) (r : List UInt8) (hr : R_MessageBytes a0 = some r) : Run Tryz.prog 71 [.agg [.l TField.pc a0.Fields, .l cU a0.Body]] (.l cU r) := by
 unfold R_MessageBytes at hr
 refine rf (fn := Tryz.f71) ⟨Tryz.func71, rfl, by kernel_rfl⟩ rfl (fun _ => rfl) fun g0 hg => ?_
 refine rn tk 9 rfl ?_
 refine awpl_adopt 1003 (d := 3) 5 1 rfl rfl rfl (hO ?_)
 refine rn tk 9 rfl ?_
 refine al1 hr (fun s1 => [(1, .ptr 1 0), (3, .hs 1003 0), (4, .i s1.1)]) (fun s1 => [(1003, .row 5 false 1 (List.map cU s1.2)), (1, .cells [.l TField.pc a0.Fields, .l cU a0.Body])]) (.exit 0) (fun b2 => [(1, .ptr 1 0), (3, .hs 1003 0)]) (fun b2 => [(1003, .row 5 false 1 (List.map cU b2)), (1, .cells [.l TField.pc a0.Fields, .l cU a0.Body])]) rfl rfl (fun s1 x3 hr => ?_) (fun b2 hr => ?_)
 ·
  unfold R_MessageBytes_l1 at hr
  refine rn tk 6 rfl ?_
  refine wn tk rfl rfl rfl ?_
  refine rn tk 3 rfl ?_
  refine ac 11 hr rfl (fun c4 hr => ?_) (fun c4 hr => ?_)
  ·
   refine rn tk 5 rfl ?_
   obtain ⟨v5, h6, hr⟩ := bind_some hr
   obtain ⟨v7, h8, hr⟩ := bind_some hr
   refine dr 12 [(25, .s v7.Value), (24, .ep [pS v7.Value]), (23, .ep [pS v7.Name, pS v7.Value]), (22, .i s1.1), (21, .l TField.pc a0.Fields), (20, .ptr 1 0), (19, .s v5.Name), (18, .ep [pS v5.Name, pS v5.Value]), (17, .ep [pS v5.Name, pS v5.Value]), (16, .i s1.1), (15, .l TField.pc a0.Fields), (14, .ptr 1 0)] mixed (by kernel_rfl) rfl rfl (pq tk rfl (.plain rfl) (pq tk rfl (.plain rfl) (pq tk rfl (.plain rfl) (.run (.plain rfl) (opG_q (ev_idx (f := TField.pc) rfl rfl ty_s_api_Field ty_api_Field rfl h6)) (pq tk rfl (.plain rfl) (pq tk rfl (.plain rfl) (pq tk rfl (.plain rfl) (pq tk rfl (.plain rfl) (pq tk rfl (.plain rfl) (.run (.plain rfl) (opG_q (ev_idx (f := TField.pc) rfl rfl ty_s_api_Field ty_api_Field rfl h8)) (pq tk rfl (.plain rfl) (pq tk rfl (.plain rfl) .nil)))))))))))) rfl ?_
   obtain ⟨v9, h10, hr⟩ := bind_some hr
   refine cl (R_FieldLines_run _ _ _ h10) rfl rfl ?_
   refine rn tk 9 rfl ?_
   refine al1 hr (fun s11 => [(1, .ptr 1 0), (3, .hs 1003 0), (4, .i s1.1), (5, .l cS v9), (6, .i s11.1)]) (fun s11 => [(1003, .row 5 false 1 (List.map cU s11.2)), (1, .cells [.l TField.pc a0.Fields, .l cU a0.Body])]) (.exit 2) (fun b12 => [(1, .ptr 1 0), (3, .hs 1003 0), (4, .i s1.1)]) (fun b12 => [(1003, .row 5 false 1 (List.map cU b12)), (1, .cells [.l TField.pc a0.Fields, .l cU a0.Body])]) rfl rfl (fun s11 x13 hr => ?_) (fun b12 hr => ?_)
   ·
    unfold R_MessageBytes_l2 at hr
    refine rn tk 5 rfl ?_
    refine wn tk rfl rfl rfl ?_
    refine rn tk 3 rfl ?_
    refine ac 30 hr rfl (fun c14 hr => ?_) (fun c14 hr => ?_)
    ·
     refine rn tk 9 rfl ?_
     obtain ⟨v15, h16, hr⟩ := bind_some hr
     refine wi tk h16 rfl rfl rfl rfl rfl ?_
     refine rn tk 1 rfl ?_
     obtain ⟨v17, h18, hr⟩ := bind_some hr
     refine wo (opTo_appends (k := 38) (l := s11.2) (s := v15) (lim := 140737488355328) rfl rfl rfl rfl ty_s_uint8 ty_string.u ty_uint8 rfl h18) rfl ?_
     refine rn tk 5 rfl ?_
     refine wz cU ([(13 : UInt8), (10 : UInt8)] : List UInt8) tk rfl rfl (fun _ => rfl) rfl rfl rfl ?_
     obtain ⟨v19, h20, hr⟩ := bind_some hr
     refine wa tk h20 rfl rfl rfl rfl (fun _ => rfl) rfl rfl ?_
     refine rn tk 9 rfl ?_
     cases hr
     exact atc rfl rfl
    ·
     refine rn tk 2 rfl ?_
     cases hr
     exact ato rfl rfl rfl rfl
   ·
    refine rn tk 8 rfl ?_
    cases hr
    exact atc rfl rfl
  ·
   refine rn tk 2 rfl ?_
   cases hr
   exact ato rfl rfl rfl rfl
 ·
  refine rn tk 5 rfl ?_
  refine wz cU ([(13 : UInt8), (10 : UInt8)] : List UInt8) tk rfl rfl (fun _ => rfl) rfl rfl rfl ?_
  obtain ⟨v21, h22, hr⟩ := bind_some hr
  refine wa tk h22 rfl rfl rfl rfl (fun _ => rfl) rfl rfl ?_
  refine rn tk 8 rfl ?_
  obtain ⟨v23, h24, hr⟩ := bind_some hr
  refine wa tk h24 rfl rfl rfl rfl (fun _ => rfl) rfl rfl ?_
  refine rn tk 3 rfl ?_
  refine awp_pub (d := 2) (F := cU) (l := v23) rfl rfl (hC ?_)
  refine rn tk 1 rfl ?_
  cases hr
  exact kr tk (.inr rfl) rfl rfl
theorem R_MessageFault_run (a0 : TMessage) (r : TFault) (hr : R_MessageFault a0 = some r) : Run Tryz.prog 43 [.agg [.l TField.pc a0.Fields, .l cU a0.Body]] (.agg [.i r.Code, .i r.Index]) := by
 unfold R_MessageFault at hr
 refine rf (fn := Tryz.f43) ⟨Tryz.func43, rfl, by kernel_rfl⟩ rfl (fun _ => rfl) fun g0 hg => ?_
 refine rn tk 11 rfl ?_
 refine wn tk rfl rfl rfl ?_
 refine rn tk 3 rfl ?_
 refine ac 11 hr rfl (fun c1 hr => ?_) (fun c1 hr => ?_)
 ·
  refine rn tk 2 rfl ?_
  obtain ⟨v2, h3, hr⟩ := bind_some hr
  refine cl (R_At_run _ _ _ h3) rfl rfl ?_
  refine rn tk 5 rfl ?_
  cases hr
  exact kr tk (.inr rfl) rfl rfl
 ·
  refine rn tk 9 rfl ?_
  refine al2 hr (fun s4 => [(1, .ptr 1 0), (2, .ptr 2 0), (3, .i s4)]) (fun s4 => [(2, .cells [.i 0, .i 0]), (1, .cells [.l TField.pc a0.Fields, .l cU a0.Body])]) (.exit 0) (fun b5 => [(1, .ptr 1 0), (2, .ptr 2 0)]) (fun b5 => [(2, .cells [.i 0, .i 0]), (1, .cells [.l TField.pc a0.Fields, .l cU a0.Body])]) .ret (fun b6 => [(2, .ptr 2 0)]) (fun b6 => [(2, .cells [.i b6.Code, .i b6.Index])]) rfl rfl (fun s4 x8 hr => ?_) (fun b5 hr => ?_) (fun b6 hr => ?_)
  ·
   unfold R_MessageFault_l1 at hr
   refine rn tk 6 rfl ?_
   refine wn tk rfl rfl rfl ?_
   refine rn tk 3 rfl ?_
   refine ac 17 hr rfl (fun c9 hr => ?_) (fun c9 hr => ?_)
   ·
    refine rn tk 9 rfl ?_
    obtain ⟨v10, h11, hr⟩ := bind_some hr
    refine wi tk h11 rfl rfl rfl rfl rfl ?_
    refine rn tk 1 rfl ?_
    obtain ⟨v12, h13, hr⟩ := bind_some hr
    refine cl (R_FieldCode_run _ _ h13) rfl rfl ?_
    refine rn tk 9 rfl ?_
    refine ac 27 hr rfl (fun c14 hr => ?_) (fun c14 hr => ?_)
    ·
     refine rn tk 4 rfl ?_
     obtain ⟨v15, h16, hr⟩ := bind_some hr
     refine cl (R_At_run _ _ _ h16) rfl rfl ?_
     refine rn tk 6 rfl ?_
     cases hr
     exact ato rfl rfl rfl rfl
    ·
     refine rn tk 8 rfl ?_
     cases hr
     exact atc rfl rfl
   ·
    refine rn tk 2 rfl ?_
    cases hr
    exact ato rfl rfl rfl rfl
  ·
   refine rn tk 3 rfl ?_
   refine jb hr (fun j17 => [(1, .ptr 1 0), (2, .ptr 2 0), (40, .bo j17)]) (fun j17 => [(2, .cells [.i 0, .i 0]), (1, .cells [.l TField.pc a0.Fields, .l cU a0.Body])]) (fun j17 hr => ?_) (fun j17 hr => ?_)
   ·
    refine rn tk 3 rfl ?_
    refine wn tk rfl rfl rfl ?_
    refine rn tk 2 rfl ?_
    refine bs 35 hr rfl (fun c18 hr => ?_) (fun c18 hr => ?_)
    ·
     refine rn tk 6 rfl ?_
     cases hr
     exact jn _ rfl rfl rfl
    ·
     refine rn tk 1 rfl ?_
     obtain ⟨v19, h20, hr⟩ := bind_some hr
     refine ug rfl rfl rfl ?_
     refine cl (R_MessageBytes_run _ _ h20) rfl rfl ?_
     refine ug rfl rfl rfl ?_
     refine wn tk rfl rfl rfl ?_
     refine rn tk 3 rfl ?_
     cases hr
     exact jn _ rfl rfl rfl
   ·
    refine ac 40 hr rfl (fun c21 hr => ?_) (fun c21 hr => ?_)
    ·
     refine rn tk 2 rfl ?_
     obtain ⟨v22, h23, hr⟩ := bind_some hr
     refine cl (R_At_run _ _ _ h23) rfl rfl ?_
     refine rn tk 5 rfl ?_
     cases hr
     exact kr tk (.inr rfl) rfl rfl
    ·
     refine rn tk 14 rfl ?_
     refine al2 hr (fun s24 => [(1, .ptr 1 0), (2, .ptr 2 0), (5, .i s24.1), (6, .i s24.2)]) (fun s24 => [(2, .cells [.i 0, .i 0]), (1, .cells [.l TField.pc a0.Fields, .l cU a0.Body])]) (.exit 2) (fun b25 => [(2, .ptr 2 0)]) (fun b25 => [(2, .cells [.i 0, .i 0])]) .ret (fun b26 => [(2, .ptr 2 0)]) (fun b26 => [(2, .cells [.i b26.Code, .i b26.Index])]) rfl rfl (fun s24 x28 hr => ?_) (fun b25 hr => ?_) (fun b26 hr => ?_)
     ·
      unfold R_MessageFault_l2 at hr
      refine rn tk 6 rfl ?_
      refine wn tk rfl rfl rfl ?_
      refine rn tk 3 rfl ?_
      refine ac 46 hr rfl (fun c29 hr => ?_) (fun c29 hr => ?_)
      ·
       refine rn tk 2 rfl ?_
       refine jk (fun j30 => [(1, .ptr 1 0), (2, .ptr 2 0), (5, .i j30.1), (6, .i j30.2)]) (fun j30 => [(2, .cells [.i 0, .i 0]), (1, .cells [.l TField.pc a0.Fields, .l cU a0.Body])]) (fun j30 => R_MessageFault_k3  j30 = some x28) ?_ ?_
       ·
        refine rn tk 6 rfl ?_
        obtain ⟨v31, h32, hr⟩ := bind_some hr
        refine wi tk h32 rfl rfl rfl rfl rfl ?_
        refine rn tk 5 rfl ?_
        refine jb hr (fun j33 => [(1, .ptr 1 0), (2, .ptr 2 0), (5, .i s24.1), (6, .i s24.2), (7, .u8 v31), (72, .bo j33)]) (fun j33 => [(2, .cells [.i 0, .i 0]), (1, .cells [.l TField.pc a0.Fields, .l cU a0.Body])]) (fun j33 hr => ?_) (fun j33 hr => ?_)
        ·
         refine rn tk 4 rfl ?_
         refine bs 56 hr rfl (fun c34 hr => ?_) (fun c34 hr => ?_)
         ·
          refine rn tk 4 rfl ?_
          refine ug rfl rfl rfl ?_
          refine wn tk rfl rfl rfl ?_
          refine rn tk 3 rfl ?_
          refine bs 64 hr rfl (fun c35 hr => ?_) (fun c35 hr => ?_)
          ·
           refine rn tk 4 rfl ?_
           obtain ⟨v36, h37, hr⟩ := bind_some hr
           refine ug rfl rfl rfl ?_
           refine wi tk h37 rfl rfl rfl rfl rfl ?_
           refine rn tk 4 rfl ?_
           cases hr
           exact jn _ rfl rfl rfl
          ·
           refine rn tk 9 rfl ?_
           cases hr
           exact jn _ rfl rfl rfl
         ·
          refine rn tk 17 rfl ?_
          cases hr
          exact jn _ rfl rfl rfl
        ·
         refine ac 72 hr rfl (fun c38 hr => ?_) (fun c38 hr => ?_)
         ·
          refine rn tk 15 rfl ?_
          exact jn ((0, (w64 (s24.2 + 1)))) hr rfl rfl
         ·
          refine rn tk 3 rfl ?_
          refine jb hr (fun j39 => [(1, .ptr 1 0), (2, .ptr 2 0), (5, .i s24.1), (6, .i s24.2), (80, .bo j39)]) (fun j39 => [(2, .cells [.i 0, .i 0]), (1, .cells [.l TField.pc a0.Fields, .l cU a0.Body])]) (fun j39 hr => ?_) (fun j39 hr => ?_)
          ·
           refine rn tk 4 rfl ?_
           refine bs 77 hr rfl (fun c40 hr => ?_) (fun c40 hr => ?_)
           ·
            refine rn tk 4 rfl ?_
            cases hr
            exact jn _ rfl rfl rfl
           ·
            refine rn tk 4 rfl ?_
            cases hr
            exact jn _ rfl rfl rfl
          ·
           refine ac 80 hr rfl (fun c41 hr => ?_) (fun c41 hr => ?_)
           ·
            refine rn tk 2 rfl ?_
            obtain ⟨v42, h43, hr⟩ := bind_some hr
            refine cl (R_At_run _ _ _ h43) rfl rfl ?_
            refine rn tk 7 rfl ?_
            cases hr
            exact ato rfl rfl rfl rfl
           ·
            refine rn tk 15 rfl ?_
            refine ac 85 hr rfl (fun c44 hr => ?_) (fun c44 hr => ?_)
            ·
             refine rn tk 2 rfl ?_
             obtain ⟨v45, h46, hr⟩ := bind_some hr
             refine cl (R_At_run _ _ _ h46) rfl rfl ?_
             refine rn tk 6 rfl ?_
             cases hr
             exact ato rfl rfl rfl rfl
            ·
             refine rn tk 2 rfl ?_
             exact jn (((w64 (s24.1 + 1)), s24.2)) hr rfl rfl
       ·
        intro j30 hr
        unfold R_MessageFault_k3 at hr
        refine rn tk 5 rfl ?_
        cases hr
        exact atc rfl rfl
      ·
       refine rn tk 2 rfl ?_
       cases hr
       exact ato rfl rfl rfl rfl
     ·
      refine rn tk 9 rfl ?_
      cases hr
      exact kr tk (.inr rfl) rfl rfl
     ·
      refine rn tk 2 rfl ?_
      cases hr
      exact kr tk (.inr rfl) rfl rfl
  ·
   refine rn tk 2 rfl ?_
   cases hr
   exact kr tk (.inr rfl) rfl rfl
theorem R_MailFault_run (a0 : TMail) (r : TFault) (hr : R_MailFault a0 = some r) : Run Tryz.prog 38 [.agg [.s a0.Envelope.From, .l TRecipient.pc a0.Envelope.To, .s a0.Envelope.Id, .l TField.pc a0.Message.Fields, .l cU a0.Message.Body]] (.agg [.i r.Code, .i r.Index]) := by
 unfold R_MailFault at hr
 refine rf (fn := Tryz.f38) ⟨Tryz.func38, rfl, by kernel_rfl⟩ rfl (fun _ => rfl) fun g0 hg => ?_
 refine rn tk 10 rfl ?_
 obtain ⟨v1, h2, hr⟩ := bind_some hr
 refine cl (R_EnvelopeFault_run _ _ h2) rfl rfl ?_
 refine rn tk 4 rfl ?_
 refine jb hr (fun j3 => [(2, .ptr 2 0), (3, .ptr 3 0)]) (fun j3 => [(3, .cells [.i j3.1, .i j3.2]), (2, .cells [.i 0, .i 0])]) (fun j3 hr => ?_) (fun j3 hr => ?_)
 ·
  refine jb hr (fun j4 => [(1, .ptr 1 0), (2, .ptr 2 0), (3, .ptr 3 0), (16, .bo j4)]) (fun j4 => [(3, .cells [.i v1.Code, .i v1.Index]), (2, .cells [.i 0, .i 0]), (1, .cells [.s a0.Envelope.From, .l TRecipient.pc a0.Envelope.To, .s a0.Envelope.Id, .l TField.pc a0.Message.Fields, .l cU a0.Message.Body])]) (fun j4 hr => ?_) (fun j4 hr => ?_)
  ·
   refine rn tk 5 rfl ?_
   refine bs 10 hr rfl (fun c5 hr => ?_) (fun c5 hr => ?_)
   ·
    refine rn tk 2 rfl ?_
    obtain ⟨v6, h7, hr⟩ := bind_some hr
    refine ug rfl rfl rfl ?_
    refine cl (R_MessageFault_run _ _ h7) rfl rfl ?_
    refine rn tk 4 rfl ?_
    cases hr
    exact jn _ rfl rfl rfl
   ·
    refine rn tk 7 rfl ?_
    cases hr
    exact jn _ rfl rfl rfl
  ·
   refine ac 16 hr rfl (fun c8 hr => ?_) (fun c8 hr => ?_)
   ·
    refine rn tk 3 rfl ?_
    obtain ⟨v9, h10, hr⟩ := bind_some hr
    refine cl (R_MessageFault_run _ _ h10) rfl rfl ?_
    refine rn tk 1 rfl ?_
    obtain ⟨v11, h12, hr⟩ := bind_some hr
    refine cl (R_At_run _ _ _ h12) rfl rfl ?_
    refine rn tk 2 rfl ?_
    cases hr
    exact jn _ rfl rfl rfl
   ·
    refine rn tk 1 rfl ?_
    cases hr
    exact jn _ rfl rfl rfl
 ·
  refine rn tk 7 rfl ?_
  cases hr
  exact kr tk (.inr rfl) rfl rfl
theorem R_RuleFor_run (a0 : List TForward) (a1 : Str) (r : Int) (hr : R_RuleFor a0 a1 = some r) : Run Tryz.prog 32 [.l TForward.pc a0, .s a1] (.i r) := by
 unfold R_RuleFor at hr
 refine rf (fn := Tryz.f32) ⟨Tryz.func32, rfl, by kernel_rfl⟩ rfl (fun _ => rfl) fun g0 hg => ?_
 refine rn tk 12 rfl ?_
 refine al2 hr (fun s1 => [(0, .l TForward.pc a0), (1, .s a1), (5, .i s1)]) (fun s1 => []) (.exit 0) (fun b2 => []) (fun b2 => []) .ret (fun b3 => [(4, .i b3)]) (fun b3 => []) rfl rfl (fun s1 x5 hr => ?_) (fun b2 hr => ?_) (fun b3 hr => ?_)
 ·
  unfold R_RuleFor_l1 at hr
  refine rn tk 5 rfl ?_
  refine wn tk rfl rfl rfl ?_
  refine rn tk 3 rfl ?_
  refine ac 9 hr rfl (fun c6 hr => ?_) (fun c6 hr => ?_)
  ·
   refine rn tk 8 rfl ?_
   obtain ⟨v7, h8, hr⟩ := bind_some hr
   refine wi tk h8 rfl rfl rfl rfl rfl ?_
   refine rn tk 6 rfl ?_
   refine ac 18 hr rfl (fun c9 hr => ?_) (fun c9 hr => ?_)
   ·
    refine rn tk 9 rfl ?_
    cases hr
    exact ato rfl rfl rfl rfl
   ·
    refine rn tk 8 rfl ?_
    cases hr
    exact atc rfl rfl
  ·
   refine rn tk 2 rfl ?_
   cases hr
   exact ato rfl rfl rfl rfl
 ·
  refine rn tk 8 rfl ?_
  cases hr
  exact kr tk (.inr rfl) rfl rfl
 ·
  refine rn tk 2 rfl ?_
  cases hr
  exact kr tk (.inr rfl) rfl rfl
theorem R_Small_run (a0 : Str) (r : Str) (hr : R_Small a0 = some r) : Run Tryz.prog 91 [.s a0] (.s r) := by
 unfold R_Small at hr
 refine rf (fn := Tryz.f91) ⟨Tryz.func91, rfl, by kernel_rfl⟩ rfl (fun _ => rfl) fun g0 hg => ?_
 refine rn tk 8 rfl ?_
 refine awpl_adopt 1003 (d := 3) 5 1 rfl rfl rfl (hO ?_)
 refine rn tk 9 rfl ?_
 refine al1 hr (fun s1 => [(0, .s a0), (3, .hs 1003 0), (4, .i s1.1)]) (fun s1 => [(1003, .row 5 false 1 (List.map cU s1.2))]) (.exit 0) (fun b2 => [(3, .hs 1003 0)]) (fun b2 => [(1003, .row 5 false 1 (List.map cU b2))]) rfl rfl (fun s1 x3 hr => ?_) (fun b2 hr => ?_)
 ·
  unfold R_Small_l1 at hr
  refine rn tk 9 rfl ?_
  refine ac 9 hr rfl (fun c4 hr => ?_) (fun c4 hr => ?_)
  ·
   refine rn tk 8 rfl ?_
   obtain ⟨v5, h6, hr⟩ := bind_some hr
   refine ws tk h6 rfl rfl rfl rfl ?_
   refine rn tk 3 rfl ?_
   refine jb hr (fun j7 => [(0, .s a0), (3, .hs 1003 0), (4, .i s1.1), (5, .u8 j7)]) (fun j7 => [(1003, .row 5 false 1 (List.map cU s1.2))]) (fun j7 hr => ?_) (fun j7 hr => ?_)
   ·
    refine rn tk 3 rfl ?_
    refine wu tk rfl rfl rfl ?_
    obtain ⟨v8, h9, hr⟩ := bind_some hr
    refine cl (R_In_run _ _ _ _ h9) rfl rfl ?_
    refine rn tk 2 rfl ?_
    refine ac 17 hr rfl (fun c10 hr => ?_) (fun c10 hr => ?_)
    ·
     refine rn tk 2 rfl ?_
     refine wq (ev_u8add (a := v5) (b := (32 : UInt8)) rfl rfl) rfl rfl rfl ?_
     refine rn tk 2 rfl ?_
     cases hr
     exact jn _ rfl rfl rfl
    ·
     refine rn tk 1 rfl ?_
     cases hr
     exact jn _ rfl rfl rfl
   ·
    refine rn tk 3 rfl ?_
    refine wz cU ([j7] : List UInt8) tk rfl rfl (fun _ => rfl) rfl rfl rfl ?_
    obtain ⟨v11, h12, hr⟩ := bind_some hr
    refine wa tk h12 rfl rfl rfl rfl (fun _ => rfl) rfl rfl ?_
    refine rn tk 9 rfl ?_
    cases hr
    exact atc rfl rfl
  ·
   refine rn tk 2 rfl ?_
   cases hr
   exact ato rfl rfl rfl rfl
 ·
  refine rn tk 5 rfl ?_
  refine awpl_pub (d := 24) (F := cU) (l := b2) rfl rfl (hO ?_)
  refine wb tk rfl rfl rfl ?_
  refine rn tk 4 rfl ?_
  cases hr
  exact kr tk (.inr rfl) rfl rfl
theorem R_same_run (a0 : Str) (a1 : Str) (r : Bool) (hr : R_same a0 a1 = some r) : Run Tryz.prog 68 [.s a0, .s a1] (.bo r) := by
 unfold R_same at hr
 refine rf (fn := Tryz.f68) ⟨Tryz.func68, rfl, by kernel_rfl⟩ rfl (fun _ => rfl) fun g0 hg => ?_
 refine rn tk 8 rfl ?_
 obtain ⟨v1, h2, hr⟩ := bind_some hr
 refine cl (R_Small_run _ _ h2) rfl rfl ?_
 refine rn tk 1 rfl ?_
 obtain ⟨v3, h4, hr⟩ := bind_some hr
 refine cl (R_Small_run _ _ h4) rfl rfl ?_
 refine rn tk 5 rfl ?_
 cases hr
 exact kr tk (.inr rfl) rfl rfl
theorem R_Values_run (a0 : TMessage) (a1 : Str) (r : List Str) (hr : R_Values a0 a1 = some r) : Run Tryz.prog 40 [.agg [.l TField.pc a0.Fields, .l cU a0.Body], .s a1] (.l cS r) := by
 unfold R_Values at hr
 refine rf (fn := Tryz.f40) ⟨Tryz.func40, rfl, by kernel_rfl⟩ rfl (fun _ => rfl) fun g0 hg => ?_
 refine rn tk 9 rfl ?_
 refine awpl_adopt 1005 (d := 5) 9 1 rfl rfl rfl (hO ?_)
 refine rn tk 9 rfl ?_
 refine al1 hr (fun s1 => [(1, .s a1), (2, .ptr 2 0), (5, .hs 1005 0), (6, .i s1.1)]) (fun s1 => [(1005, .row 9 false 1 (List.map cS s1.2)), (2, .cells [.l TField.pc a0.Fields, .l cU a0.Body])]) (.exit 0) (fun b2 => [(5, .hs 1005 0)]) (fun b2 => [(1005, .row 9 false 1 (List.map cS b2))]) rfl rfl (fun s1 x3 hr => ?_) (fun b2 hr => ?_)
 ·
  unfold R_Values_l1 at hr
  refine rn tk 6 rfl ?_
  refine wn tk rfl rfl rfl ?_
  refine rn tk 3 rfl ?_
  refine ac 11 hr rfl (fun c4 hr => ?_) (fun c4 hr => ?_)
  ·
   refine rn tk 2 rfl ?_
   refine jb hr (fun j5 => [(1, .s a1), (2, .ptr 2 0), (5, .hs 1005 0), (6, .i s1.1)]) (fun j5 => [(1005, .row 9 false 1 (List.map cS j5)), (2, .cells [.l TField.pc a0.Fields, .l cU a0.Body])]) (fun j5 hr => ?_) (fun j5 hr => ?_)
   ·
    refine rn tk 6 rfl ?_
    obtain ⟨v6, h7, hr⟩ := bind_some hr
    refine wi tk h7 rfl rfl rfl rfl rfl ?_
    refine rn tk 3 rfl ?_
    obtain ⟨v8, h9, hr⟩ := bind_some hr
    refine cl (R_same_run _ _ _ h9) rfl rfl ?_
    refine rn tk 2 rfl ?_
    refine ac 21 hr rfl (fun c10 hr => ?_) (fun c10 hr => ?_)
    ·
     refine rn tk 5 rfl ?_
     obtain ⟨v11, h12, hr⟩ := bind_some hr
     refine wi tk h12 rfl rfl rfl rfl rfl ?_
     refine rn tk 2 rfl ?_
     refine wz cS ([v11.Value] : List Str) tk rfl rfl (fun _ => rfl) rfl rfl rfl ?_
     obtain ⟨v13, h14, hr⟩ := bind_some hr
     refine wa tk h14 rfl rfl rfl rfl (fun _ => rfl) rfl rfl ?_
     refine rn tk 3 rfl ?_
     cases hr
     exact jn _ rfl rfl rfl
    ·
     refine rn tk 2 rfl ?_
     cases hr
     exact jn _ rfl rfl rfl
   ·
    refine rn tk 5 rfl ?_
    cases hr
    exact atc rfl rfl
  ·
   refine rn tk 2 rfl ?_
   cases hr
   exact ato rfl rfl rfl rfl
 ·
  refine rn tk 8 rfl ?_
  refine awp_pub (d := 4) (F := cS) (l := b2) rfl rfl (hC ?_)
  refine rn tk 1 rfl ?_
  cases hr
  exact kr tk (.inr rfl) rfl rfl
theorem R_recipients_run (a0 : List Str) (r : List TRecipient) (hr : R_recipients a0 = some r) : Run Tryz.prog 41 [.l cS a0] (.l TRecipient.pc r) := by
 unfold R_recipients at hr
 refine rf (fn := Tryz.f41) ⟨Tryz.func41, rfl, by kernel_rfl⟩ rfl (fun _ => rfl) fun g0 hg => ?_
 refine rn tk 8 rfl ?_
 refine awpl_adopt 1003 (d := 3) 64 2 rfl rfl rfl (hO ?_)
 refine rn tk 9 rfl ?_
 refine al1 hr (fun s1 => [(0, .l cS a0), (3, .hs 1003 0), (4, .i s1.1)]) (fun s1 => [(1003, .row 64 false 2 (List.map TRecipient.pc s1.2))]) (.exit 0) (fun b2 => [(3, .hs 1003 0)]) (fun b2 => [(1003, .row 64 false 2 (List.map TRecipient.pc b2))]) rfl rfl (fun s1 x3 hr => ?_) (fun b2 hr => ?_)
 ·
  unfold R_recipients_l1 at hr
  refine rn tk 5 rfl ?_
  refine wn tk rfl rfl rfl ?_
  refine rn tk 3 rfl ?_
  refine ac 8 hr rfl (fun c4 hr => ?_) (fun c4 hr => ?_)
  ·
   refine rn tk 2 rfl ?_
   refine jb hr (fun j5 => [(0, .l cS a0), (3, .hs 1003 0), (4, .i s1.1)]) (fun j5 => [(1003, .row 64 false 2 (List.map TRecipient.pc j5))]) (fun j5 hr => ?_) (fun j5 hr => ?_)
   ·
    refine rn tk 6 rfl ?_
    obtain ⟨v6, h7, hr⟩ := bind_some hr
    refine wi tk h7 rfl rfl rfl rfl rfl ?_
    refine rn tk 1 rfl ?_
    refine awpl_pub (d := 11) (F := TRecipient.pc) (l := s1.2) rfl rfl (hO ?_)
    obtain ⟨v8, h9, hr⟩ := bind_some hr
    refine cl (R_Known_run _ _ _ h9) rfl rfl ?_
    refine rn tk 3 rfl ?_
    refine ac 17 hr rfl (fun c10 hr => ?_) (fun c10 hr => ?_)
    ·
     refine rn tk 4 rfl ?_
     obtain ⟨v11, h12, hr⟩ := bind_some hr
     refine wi tk h12 rfl rfl rfl rfl rfl ?_
     refine rn tk 2 rfl ?_
     refine wz TRecipient.pc ([(TRecipient.mk v11 0)] : List TRecipient) tk rfl rfl (fun _ => rfl) rfl rfl rfl ?_
     obtain ⟨v13, h14, hr⟩ := bind_some hr
     refine wa tk h14 rfl rfl rfl rfl (fun _ => rfl) rfl rfl ?_
     refine rn tk 3 rfl ?_
     cases hr
     exact jn _ rfl rfl rfl
    ·
     refine rn tk 2 rfl ?_
     cases hr
     exact jn _ rfl rfl rfl
   ·
    refine rn tk 5 rfl ?_
    cases hr
    exact atc rfl rfl
  ·
   refine rn tk 2 rfl ?_
   cases hr
   exact ato rfl rfl rfl rfl
 ·
  refine rn tk 8 rfl ?_
  refine awp_pub (d := 2) (F := TRecipient.pc) (l := b2) rfl rfl (hC ?_)
  refine rn tk 1 rfl ?_
  cases hr
  exact kr tk (.inr rfl) rfl rfl
theorem R_Onward_run (a0 : List TForward) (a1 : TMail) (r : (List Str) × (List TMail) × (List Str) × TFault) (hr : R_Onward a0 a1 = some r) : Run Tryz.prog 14 [.l TForward.pc a0, .agg [.s a1.Envelope.From, .l TRecipient.pc a1.Envelope.To, .s a1.Envelope.Id, .l TField.pc a1.Message.Fields, .l cU a1.Message.Body]] (.tup [.l cS r.1, .l TMail.pc r.2.1, .l cS r.2.2.1, .agg [.i r.2.2.2.Code, .i r.2.2.2.Index]]) := by
 unfold R_Onward at hr
 refine rf (fn := Tryz.f14) ⟨Tryz.func14, rfl, by kernel_rfl⟩ rfl (fun _ => rfl) fun g0 hg => ?_
 refine rn tk 12 rfl ?_
 obtain ⟨v1, h2, hr⟩ := bind_some hr
 refine cl (R_ForwardsFault_run _ _ h2) rfl rfl ?_
 refine rn tk 12 rfl ?_
 refine ac 21 hr rfl (fun c3 hr => ?_) (fun c3 hr => ?_)
 ·
  refine rn tk 1 rfl ?_
  refine dr 4 [(6, .pv (.sl (some true) [])), (5, .pv (.sl (some true) [])), (4, .pv (.sl (some true) [])), (22, .agg [.i v1.Code, .i v1.Index])] mixed (by kernel_rfl) rfl rfl (pq tk rfl (.plain rfl) (pq tk rfl (.plain rfl) (pq tk rfl (.plain rfl) (pq tk rfl (.plain rfl) .nil)))) rfl ?_
  refine rn tk 5 rfl ?_
  cases hr
  exact kr tk (.inr rfl) rfl rfl
 ·
  refine rn tk 6 rfl ?_
  obtain ⟨v4, h5, hr⟩ := bind_some hr
  refine cl (R_MailFault_run _ _ h5) rfl rfl ?_
  refine rn tk 4 rfl ?_
  refine ac 26 hr rfl (fun c6 hr => ?_) (fun c6 hr => ?_)
  ·
   refine rn tk 3 rfl ?_
   obtain ⟨v7, h8, hr⟩ := bind_some hr
   refine cl (R_MailFault_run _ _ h8) rfl rfl ?_
   refine rn tk 1 rfl ?_
   obtain ⟨v9, h10, hr⟩ := bind_some hr
   refine cl (R_At_run _ _ _ h10) rfl rfl ?_
   refine rn tk 8 rfl ?_
   cases hr
   exact kr tk (.inr rfl) rfl rfl
  ·
   refine rn tk 5 rfl ?_
   refine awpl_adopt 1009 (d := 9) 9 1 rfl rfl rfl (hO ?_)
   refine rn tk 5 rfl ?_
   refine awpl_adopt 1010 (d := 10) 43 5 rfl rfl rfl (hO ?_)
   refine rn tk 5 rfl ?_
   refine awpl_adopt 1011 (d := 11) 9 1 rfl rfl rfl (hO ?_)
   refine rn tk 9 rfl ?_
   refine al2 hr (fun s11 => [(0, .l TForward.pc a0), (3, .ptr 3 0), (7, .ptr 7 0), (8, .ptr 8 0), (9, .hs 1009 0), (10, .hs 1010 0), (11, .hs 1011 0), (12, .i s11.1)]) (fun s11 => [(1011, .row 9 false 1 (List.map cS s11.2.1)), (1010, .row 43 false 5 (List.map TMail.pc s11.2.2.1)), (1009, .row 9 false 1 (List.map cS s11.2.2.2)), (8, .cells [.i v1.Code, .i v1.Index]), (7, .cells [.i 0, .i 0]), (3, .cells [.s a1.Envelope.From, .l TRecipient.pc a1.Envelope.To, .s a1.Envelope.Id, .l TField.pc a1.Message.Fields, .l cU a1.Message.Body])]) (.exit 0) (fun b12 => [(7, .ptr 7 0), (8, .ptr 8 0), (9, .hs 1009 0), (10, .hs 1010 0), (11, .hs 1011 0)]) (fun b12 => [(1011, .row 9 false 1 (List.map cS b12.1)), (1010, .row 43 false 5 (List.map TMail.pc b12.2.1)), (1009, .row 9 false 1 (List.map cS b12.2.2)), (8, .cells [.i v1.Code, .i v1.Index]), (7, .cells [.i 0, .i 0])]) .ret (fun b13 => [(4, .l cS b13.1), (5, .l TMail.pc b13.2.1), (6, .l cS b13.2.2.1), (7, .ptr 7 0)]) (fun b13 => [(7, .cells [.i b13.2.2.2.Code, .i b13.2.2.2.Index])]) rfl rfl (fun s11 x15 hr => ?_) (fun b12 hr => ?_) (fun b13 hr => ?_)
   ·
    unfold R_Onward_l1 at hr
    refine rn tk 7 rfl ?_
    refine wn tk rfl rfl rfl ?_
    refine rn tk 3 rfl ?_
    refine ac 36 hr rfl (fun c16 hr => ?_) (fun c16 hr => ?_)
    ·
     refine rn tk 2 rfl ?_
     refine jk (fun j17 => [(0, .l TForward.pc a0), (3, .ptr 3 0), (7, .ptr 7 0), (8, .ptr 8 0), (9, .hs 1009 0), (10, .hs 1010 0), (11, .hs 1011 0), (12, .i s11.1)]) (fun j17 => [(1011, .row 9 false 1 (List.map cS j17.1)), (1010, .row 43 false 5 (List.map TMail.pc j17.2.1)), (1009, .row 9 false 1 (List.map cS j17.2.2)), (8, .cells [.i v1.Code, .i v1.Index]), (7, .cells [.i 0, .i 0]), (3, .cells [.s a1.Envelope.From, .l TRecipient.pc a1.Envelope.To, .s a1.Envelope.Id, .l TField.pc a1.Message.Fields, .l cU a1.Message.Body])]) (fun j17 => R_Onward_k2 s11 j17 = some x15) ?_ ?_
     ·
      refine rn tk 7 rfl ?_
      obtain ⟨v18, h19, hr⟩ := bind_some hr
      refine wi tk h19 rfl rfl rfl rfl rfl ?_
      refine rn tk 9 rfl ?_
      obtain ⟨v20, h21, hr⟩ := bind_some hr
      refine cl (R_RuleFor_run _ _ _ h21) rfl rfl ?_
      refine rn tk 10 rfl ?_
      refine ac 50 hr rfl (fun c22 hr => ?_) (fun c22 hr => ?_)
      ·
       refine rn tk 4 rfl ?_
       refine wz cS ([v18.Address] : List Str) tk rfl rfl (fun _ => rfl) rfl rfl rfl ?_
       obtain ⟨v23, h24, hr⟩ := bind_some hr
       refine wa tk h24 rfl rfl rfl rfl (fun _ => rfl) rfl rfl ?_
       refine rn tk 6 rfl ?_
       exact jn ((s11.2.1, s11.2.2.1, v23)) hr rfl rfl
      ·
       refine rn tk 7 rfl ?_
       obtain ⟨v25, h26, hr⟩ := bind_some hr
       refine cl (R_Values_run _ _ _ h26) rfl rfl ?_
       refine rn tk 1 rfl ?_
       obtain ⟨v27, h28, hr⟩ := bind_some hr
       refine cl (R_Has_run _ _ _ h28) rfl rfl ?_
       refine rn tk 2 rfl ?_
       refine ac 59 hr rfl (fun c29 hr => ?_) (fun c29 hr => ?_)
       ·
        refine rn tk 4 rfl ?_
        refine wz cS ([v18.Address] : List Str) tk rfl rfl (fun _ => rfl) rfl rfl rfl ?_
        obtain ⟨v30, h31, hr⟩ := bind_some hr
        refine wa tk h31 rfl rfl rfl rfl (fun _ => rfl) rfl rfl ?_
        refine rn tk 6 rfl ?_
        exact jn ((v30, s11.2.2.1, s11.2.2.2)) hr rfl rfl
       ·
        refine rn tk 2 rfl ?_
        refine jb hr (fun j32 => [(0, .l TForward.pc a0), (3, .ptr 3 0), (7, .ptr 7 0), (8, .ptr 8 0), (9, .hs 1009 0), (10, .hs 1010 0), (11, .hs 1011 0), (12, .i s11.1), (13, .s v18.Address), (14, .i v20)]) (fun j32 => [(1011, .row 9 false 1 (List.map cS s11.2.1)), (1010, .row 43 false 5 (List.map TMail.pc s11.2.2.1)), (1009, .row 9 false 1 (List.map cS j32)), (8, .cells [.i v1.Code, .i v1.Index]), (7, .cells [.i 0, .i 0]), (3, .cells [.s a1.Envelope.From, .l TRecipient.pc a1.Envelope.To, .s a1.Envelope.Id, .l TField.pc a1.Message.Fields, .l cU a1.Message.Body])]) (fun j32 hr => ?_) (fun j32 hr => ?_)
        ·
         refine rn tk 4 rfl ?_
         obtain ⟨v33, h34, hr⟩ := bind_some hr
         refine wi tk h34 rfl rfl rfl rfl rfl ?_
         refine rn tk 4 rfl ?_
         refine ac 68 hr rfl (fun c35 hr => ?_) (fun c35 hr => ?_)
         ·
          refine rn tk 3 rfl ?_
          refine wz cS ([v18.Address] : List Str) tk rfl rfl (fun _ => rfl) rfl rfl rfl ?_
          obtain ⟨v36, h37, hr⟩ := bind_some hr
          refine wa tk h37 rfl rfl rfl rfl (fun _ => rfl) rfl rfl ?_
          refine rn tk 2 rfl ?_
          cases hr
          exact jn _ rfl rfl rfl
         ·
          refine rn tk 1 rfl ?_
          cases hr
          exact jn _ rfl rfl rfl
        ·
         refine rn tk 1 rfl ?_
         obtain ⟨v38, h39, hr⟩ := bind_some hr
         obtain ⟨v40, h41, hr⟩ := bind_some hr
         obtain ⟨v42, h43, hr⟩ := bind_some hr
         refine drA 19 [(15, .ptr 15 0), (90, .agg [.s a1.Envelope.From, .l TRecipient.pc v40, .s a1.Envelope.Id, .l TField.pc v42.Fields, .l cU v42.Body]), (89, .agg [.l TField.pc v42.Fields, .l cU v42.Body]), (88, .s v18.Address), (87, .agg [.l TField.pc a1.Message.Fields, .l cU a1.Message.Body]), (86, .ptr 3 3), (85, .agg [.s a1.Envelope.From, .l TRecipient.pc v40, .s a1.Envelope.Id]), (84, .l TRecipient.pc v40), (83, .l cS v38.To), (82, .ep [pL cS v38.To, pB v38.Keep]), (81, .ep [pS v38.Address, pL cS v38.To, pB v38.Keep]), (80, .i v20), (79, .l TForward.pc a0), (78, .s a1.Envelope.Id), (77, .ptr 3 2), (76, .ptr 3 0), (75, .s a1.Envelope.From), (74, .ptr 3 0), (73, .ptr 3 0)] mixed (by kernel_rfl) rfl rfl (pqA tk rfl (.plain rfl) (pqA tk rfl (.plain rfl) (pqA tk rfl (.plain rfl) (pqA tk rfl (.plain rfl) (pqA tk rfl (.plain rfl) (pqA tk rfl (.plain rfl) (pqA tk rfl (.plain rfl) (pqA tk rfl (.plain rfl) (.run (.plain rfl) (opG_q (ev_idx (f := TForward.pc) rfl rfl ty_s_api_Forward ty_api_Forward rfl h39)) (pqA tk rfl (.plain rfl) (pqA tk rfl (.plain rfl) (.run (.plain rfl) (opG_call (R_recipients_run v38.To v40 h41) rfl) (pqA tk rfl (.plain rfl) (pqA tk rfl (.plain rfl) (pqA tk rfl (.plain rfl) (pqA tk rfl (.plain rfl) (.run (.plain rfl) (opG_call (R_Fronted_run a1.Message (([68, 101, 108, 105, 118, 101, 114, 101, 100, 45, 84, 111] : Str)) v18.Address v42 h43) rfl) (pqA tk rfl (.plain rfl) (pnA 15 tk rfl rfl rfl (.plain rfl) .nil))))))))))))))))))) rfl rfl rfl ?_
         refine rn tk 7 rfl ?_
         obtain ⟨v44, h45, hr⟩ := bind_some hr
         refine cl (R_MessageFault_run _ _ h45) rfl rfl ?_
         refine rn tk 12 rfl ?_
         refine ac 96 hr rfl (fun c46 hr => ?_) (fun c46 hr => ?_)
         ·
          refine rn tk 4 rfl ?_
          obtain ⟨v47, h48, hr⟩ := bind_some hr
          refine cl (R_At_run _ _ _ h48) rfl rfl ?_
          refine rn tk 10 rfl ?_
          cases hr
          exact ato rfl rfl rfl rfl
         ·
          refine rn tk 5 rfl ?_
          refine wz TMail.pc ([(TMail.mk ((TEnvelope.mk a1.Envelope.From v40 a1.Envelope.Id)) v42)] : List TMail) tk rfl rfl (fun _ => rfl) rfl rfl rfl ?_
          obtain ⟨v49, h50, hr⟩ := bind_some hr
          refine wa tk h50 rfl rfl rfl rfl (fun _ => rfl) rfl rfl ?_
          refine rn tk 3 rfl ?_
          exact jn ((s11.2.1, v49, j32)) hr rfl rfl
     ·
      intro j17 hr
      unfold R_Onward_k2 at hr
      refine rn tk 5 rfl ?_
      cases hr
      exact atc rfl rfl
    ·
     refine rn tk 2 rfl ?_
     cases hr
     exact ato rfl rfl rfl rfl
   ·
    refine rn tk 3 rfl ?_
    refine dr 7 [(6, .hs 1011 0), (5, .hs 1010 0), (4, .hs 1009 0), (107, .agg [.i v1.Code, .i v1.Index]), (106, .hs 1011 0), (105, .hs 1010 0), (104, .hs 1009 0)] mixed (by kernel_rfl) rfl rfl (pq tk rfl (.plain rfl) (pq tk rfl (.plain rfl) (pq tk rfl (.plain rfl) (pq tk rfl (.plain rfl) (pq tk rfl (.plain rfl) (pq tk rfl (.plain rfl) (pq tk rfl (.plain rfl) .nil))))))) rfl ?_
    refine rn tk 3 rfl ?_
    refine awp_pub (d := 4) (F := cS) (l := b12.2.2) rfl rfl (hC ?_)
    refine awp_pub (d := 5) (F := TMail.pc) (l := b12.2.1) rfl rfl (hC ?_)
    refine awp_pub (d := 6) (F := cS) (l := b12.1) rfl rfl (hC ?_)
    refine rn tk 1 rfl ?_
    cases hr
    exact kr tk (.inr rfl) rfl rfl
   ·
    refine rn tk 2 rfl ?_
    cases hr
    exact kr tk (.inr rfl) rfl rfl
theorem R_SameMessage_run (a0 : TMessage) (a1 : TMessage) (r : Bool) (hr : R_SameMessage a0 a1 = some r) : Run Tryz.prog 72 [.agg [.l TField.pc a0.Fields, .l cU a0.Body], .agg [.l TField.pc a1.Fields, .l cU a1.Body]] (.bo r) := by
 unfold R_SameMessage at hr
 refine rf (fn := Tryz.f72) ⟨Tryz.func72, rfl, by kernel_rfl⟩ rfl (fun _ => rfl) fun g0 hg => ?_
 refine rn tk 8 rfl ?_
 refine jb hr (fun j1 => [(2, .ptr 2 0), (3, .ptr 3 0), (21, .bo j1)]) (fun j1 => [(3, .cells [.l TField.pc a1.Fields, .l cU a1.Body]), (2, .cells [.l TField.pc a0.Fields, .l cU a0.Body])]) (fun j1 hr => ?_) (fun j1 hr => ?_)
 ·
  refine rn tk 3 rfl ?_
  refine wn tk rfl rfl rfl ?_
  refine rn tk 2 rfl ?_
  refine wn tk rfl rfl rfl ?_
  refine rn tk 2 rfl ?_
  refine bs 13 hr rfl (fun c2 hr => ?_) (fun c2 hr => ?_)
  ·
   refine rn tk 9 rfl ?_
   cases hr
   exact jn _ rfl rfl rfl
  ·
   refine rn tk 2 rfl ?_
   refine ug rfl rfl rfl ?_
   refine wb tk rfl rfl rfl ?_
   refine rn tk 2 rfl ?_
   refine ug rfl rfl rfl ?_
   refine wb tk rfl rfl rfl ?_
   refine rn tk 3 rfl ?_
   cases hr
   exact jn _ rfl rfl rfl
 ·
  refine ac 21 hr rfl (fun c3 hr => ?_) (fun c3 hr => ?_)
  ·
   refine rn tk 7 rfl ?_
   cases hr
   exact kr tk (.inr rfl) rfl rfl
  ·
   refine rn tk 9 rfl ?_
   refine al2 hr (fun s4 => [(2, .ptr 2 0), (3, .ptr 3 0), (5, .i s4)]) (fun s4 => [(3, .cells [.l TField.pc a1.Fields, .l cU a1.Body]), (2, .cells [.l TField.pc a0.Fields, .l cU a0.Body])]) (.exit 0) (fun b5 => []) (fun b5 => []) .ret (fun b6 => [(4, .bo b6)]) (fun b6 => []) rfl rfl (fun s4 x8 hr => ?_) (fun b5 hr => ?_) (fun b6 hr => ?_)
   ·
    unfold R_SameMessage_l1 at hr
    refine rn tk 6 rfl ?_
    refine wn tk rfl rfl rfl ?_
    refine rn tk 3 rfl ?_
    refine ac 26 hr rfl (fun c9 hr => ?_) (fun c9 hr => ?_)
    ·
     refine rn tk 5 rfl ?_
     obtain ⟨v10, h11, hr⟩ := bind_some hr
     obtain ⟨v12, h13, hr⟩ := bind_some hr
     refine dr 10 [(38, .agg [.s v12.Name, .s v12.Value]), (37, .ep [pS v12.Name, pS v12.Value]), (36, .i s4), (35, .l TField.pc a1.Fields), (34, .ptr 3 0), (33, .agg [.s v10.Name, .s v10.Value]), (32, .ep [pS v10.Name, pS v10.Value]), (31, .i s4), (30, .l TField.pc a0.Fields), (29, .ptr 2 0)] mixed (by kernel_rfl) rfl rfl (pq tk rfl (.plain rfl) (pq tk rfl (.plain rfl) (pq tk rfl (.plain rfl) (.run (.plain rfl) (opG_q (ev_idx (f := TField.pc) rfl rfl ty_s_api_Field ty_api_Field rfl h11)) (pq tk rfl (.plain rfl) (pq tk rfl (.plain rfl) (pq tk rfl (.plain rfl) (pq tk rfl (.plain rfl) (.run (.plain rfl) (opG_q (ev_idx (f := TField.pc) rfl rfl ty_s_api_Field ty_api_Field rfl h13)) (pq tk rfl (.plain rfl) .nil)))))))))) rfl ?_
     refine wq (ev_structne rfl rfl ty_api_Field cmp_api_Field (.str rfl (by decide) ty_string (.str rfl (by decide) ty_string .nil))) rfl rfl rfl ?_
     refine rn tk 2 rfl ?_
     refine ac 39 hr rfl (fun c14 hr => ?_) (fun c14 hr => ?_)
     ·
      refine rn tk 8 rfl ?_
      cases hr
      exact ato rfl rfl rfl rfl
     ·
      refine rn tk 8 rfl ?_
      cases hr
      exact atc rfl rfl
    ·
     refine rn tk 2 rfl ?_
     cases hr
     exact ato rfl rfl rfl rfl
   ·
    refine rn tk 8 rfl ?_
    cases hr
    exact kr tk (.inr rfl) rfl rfl
   ·
    refine rn tk 2 rfl ?_
    cases hr
    exact kr tk (.inr rfl) rfl rfl
theorem R_SameMail_run (a0 : TMail) (a1 : TMail) (r : Bool) (hr : R_SameMail a0 a1 = some r) : Run Tryz.prog 44 [.agg [.s a0.Envelope.From, .l TRecipient.pc a0.Envelope.To, .s a0.Envelope.Id, .l TField.pc a0.Message.Fields, .l cU a0.Message.Body], .agg [.s a1.Envelope.From, .l TRecipient.pc a1.Envelope.To, .s a1.Envelope.Id, .l TField.pc a1.Message.Fields, .l cU a1.Message.Body]] (.bo r) := by
 unfold R_SameMail at hr
 refine rf (fn := Tryz.f44) ⟨Tryz.func44, rfl, by kernel_rfl⟩ rfl (fun _ => rfl) fun g0 hg => ?_
 refine rn tk 8 rfl ?_
 refine jb hr (fun j1 => [(2, .ptr 2 0), (3, .ptr 3 0), (32, .bo j1)]) (fun j1 => [(3, .cells [.s a1.Envelope.From, .l TRecipient.pc a1.Envelope.To, .s a1.Envelope.Id, .l TField.pc a1.Message.Fields, .l cU a1.Message.Body]), (2, .cells [.s a0.Envelope.From, .l TRecipient.pc a0.Envelope.To, .s a0.Envelope.Id, .l TField.pc a0.Message.Fields, .l cU a0.Message.Body])]) (fun j1 hr => ?_) (fun j1 hr => ?_)
 ·
  refine rn tk 9 rfl ?_
  refine bs 13 hr rfl (fun c2 hr => ?_) (fun c2 hr => ?_)
  ·
   refine rn tk 20 rfl ?_
   cases hr
   exact jn _ rfl rfl rfl
  ·
   refine rn tk 9 rfl ?_
   refine bs 22 hr rfl (fun c3 hr => ?_) (fun c3 hr => ?_)
   ·
    refine rn tk 11 rfl ?_
    cases hr
    exact jn _ rfl rfl rfl
   ·
    refine rn tk 3 rfl ?_
    refine ug rfl rfl rfl ?_
    refine wn tk rfl rfl rfl ?_
    refine rn tk 3 rfl ?_
    refine ug rfl rfl rfl ?_
    refine wn tk rfl rfl rfl ?_
    refine rn tk 3 rfl ?_
    cases hr
    exact jn _ rfl rfl rfl
 ·
  refine ac 32 hr rfl (fun c4 hr => ?_) (fun c4 hr => ?_)
  ·
   refine rn tk 7 rfl ?_
   cases hr
   exact kr tk (.inr rfl) rfl rfl
  ·
   refine rn tk 9 rfl ?_
   refine al2 hr (fun s5 => [(2, .ptr 2 0), (3, .ptr 3 0), (5, .i s5)]) (fun s5 => [(3, .cells [.s a1.Envelope.From, .l TRecipient.pc a1.Envelope.To, .s a1.Envelope.Id, .l TField.pc a1.Message.Fields, .l cU a1.Message.Body]), (2, .cells [.s a0.Envelope.From, .l TRecipient.pc a0.Envelope.To, .s a0.Envelope.Id, .l TField.pc a0.Message.Fields, .l cU a0.Message.Body])]) (.exit 0) (fun b6 => [(2, .ptr 2 0), (3, .ptr 3 0)]) (fun b6 => [(3, .cells [.s a1.Envelope.From, .l TRecipient.pc a1.Envelope.To, .s a1.Envelope.Id, .l TField.pc a1.Message.Fields, .l cU a1.Message.Body]), (2, .cells [.s a0.Envelope.From, .l TRecipient.pc a0.Envelope.To, .s a0.Envelope.Id, .l TField.pc a0.Message.Fields, .l cU a0.Message.Body])]) .ret (fun b7 => [(4, .bo b7)]) (fun b7 => []) rfl rfl (fun s5 x9 hr => ?_) (fun b6 hr => ?_) (fun b7 hr => ?_)
   ·
    unfold R_SameMail_l1 at hr
    refine rn tk 7 rfl ?_
    refine wn tk rfl rfl rfl ?_
    refine rn tk 3 rfl ?_
    refine ac 38 hr rfl (fun c10 hr => ?_) (fun c10 hr => ?_)
    ·
     refine rn tk 5 rfl ?_
     obtain ⟨v11, h12, hr⟩ := bind_some hr
     obtain ⟨v13, h14, hr⟩ := bind_some hr
     refine dr 12 [(52, .agg [.s v13.Address, .i v13.Notify]), (51, .ep [pS v13.Address, pI v13.Notify]), (50, .i s5), (49, .l TRecipient.pc a1.Envelope.To), (48, .ptr 3 1), (47, .ptr 3 0), (46, .agg [.s v11.Address, .i v11.Notify]), (45, .ep [pS v11.Address, pI v11.Notify]), (44, .i s5), (43, .l TRecipient.pc a0.Envelope.To), (42, .ptr 2 1), (41, .ptr 2 0)] mixed (by kernel_rfl) rfl rfl (pq tk rfl (.plain rfl) (pq tk rfl (.plain rfl) (pq tk rfl (.plain rfl) (pq tk rfl (.plain rfl) (.run (.plain rfl) (opG_q (ev_idx (f := TRecipient.pc) rfl rfl ty_s_api_Recipient ty_api_Recipient rfl h12)) (pq tk rfl (.plain rfl) (pq tk rfl (.plain rfl) (pq tk rfl (.plain rfl) (pq tk rfl (.plain rfl) (pq tk rfl (.plain rfl) (.run (.plain rfl) (opG_q (ev_idx (f := TRecipient.pc) rfl rfl ty_s_api_Recipient ty_api_Recipient rfl h14)) (pq tk rfl (.plain rfl) .nil)))))))))))) rfl ?_
     refine wq (ev_structne rfl rfl ty_api_Recipient cmp_api_Recipient (.str rfl (by decide) ty_string (.int rfl (by decide) ty_int .nil))) rfl rfl rfl ?_
     refine rn tk 2 rfl ?_
     refine ac 53 hr rfl (fun c15 hr => ?_) (fun c15 hr => ?_)
     ·
      refine rn tk 8 rfl ?_
      cases hr
      exact ato rfl rfl rfl rfl
     ·
      refine rn tk 8 rfl ?_
      cases hr
      exact atc rfl rfl
    ·
     refine rn tk 2 rfl ?_
     cases hr
     exact ato rfl rfl rfl rfl
   ·
    refine rn tk 8 rfl ?_
    obtain ⟨v16, h17, hr⟩ := bind_some hr
    refine cl (R_SameMessage_run _ _ _ h17) rfl rfl ?_
    refine rn tk 4 rfl ?_
    cases hr
    exact kr tk (.inr rfl) rfl rfl
   ·
    refine rn tk 2 rfl ?_
    cases hr
    exact kr tk (.inr rfl) rfl rfl
theorem R_SameMails_run (a0 : List TMail) (a1 : List TMail) (r : Bool) (hr : R_SameMails a0 a1 = some r) : Run Tryz.prog 15 [.l TMail.pc a0, .l TMail.pc a1] (.bo r) := by
 unfold R_SameMails at hr
 refine rf (fn := Tryz.f15) ⟨Tryz.func15, rfl, by kernel_rfl⟩ rfl (fun _ => rfl) fun g0 hg => ?_
 refine rn tk 9 rfl ?_
 refine wn tk rfl rfl rfl ?_
 refine rn tk 1 rfl ?_
 refine wn tk rfl rfl rfl ?_
 refine rn tk 3 rfl ?_
 refine ac 10 hr rfl (fun c1 hr => ?_) (fun c1 hr => ?_)
 ·
  refine rn tk 7 rfl ?_
  cases hr
  exact kr tk (.inr rfl) rfl rfl
 ·
  refine rn tk 9 rfl ?_
  refine al2 hr (fun s2 => [(0, .l TMail.pc a0), (1, .l TMail.pc a1), (5, .i s2)]) (fun s2 => []) (.exit 0) (fun b3 => []) (fun b3 => []) .ret (fun b4 => [(4, .bo b4)]) (fun b4 => []) rfl rfl (fun s2 x6 hr => ?_) (fun b3 hr => ?_) (fun b4 hr => ?_)
  ·
   unfold R_SameMails_l1 at hr
   refine rn tk 5 rfl ?_
   refine wn tk rfl rfl rfl ?_
   refine rn tk 3 rfl ?_
   refine ac 14 hr rfl (fun c7 hr => ?_) (fun c7 hr => ?_)
   ·
    refine rn tk 5 rfl ?_
    obtain ⟨v8, h9, hr⟩ := bind_some hr
    obtain ⟨v10, h11, hr⟩ := bind_some hr
    refine dr 8 [(24, .agg [.s v10.Envelope.From, .l TRecipient.pc v10.Envelope.To, .s v10.Envelope.Id, .l TField.pc v10.Message.Fields, .l cU v10.Message.Body]), (23, .ep [pS v10.Envelope.From, pL TRecipient.pc v10.Envelope.To, pS v10.Envelope.Id, pL TField.pc v10.Message.Fields, pL cU v10.Message.Body]), (22, .i s2), (21, .l TMail.pc a1), (20, .agg [.s v8.Envelope.From, .l TRecipient.pc v8.Envelope.To, .s v8.Envelope.Id, .l TField.pc v8.Message.Fields, .l cU v8.Message.Body]), (19, .ep [pS v8.Envelope.From, pL TRecipient.pc v8.Envelope.To, pS v8.Envelope.Id, pL TField.pc v8.Message.Fields, pL cU v8.Message.Body]), (18, .i s2), (17, .l TMail.pc a0)] mixed (by kernel_rfl) rfl rfl (pq tk rfl (.plain rfl) (pq tk rfl (.plain rfl) (.run (.plain rfl) (opG_q (ev_idx (f := TMail.pc) rfl rfl ty_s_api_Mail ty_api_Mail rfl h9)) (pq tk rfl (.plain rfl) (pq tk rfl (.plain rfl) (pq tk rfl (.plain rfl) (.run (.plain rfl) (opG_q (ev_idx (f := TMail.pc) rfl rfl ty_s_api_Mail ty_api_Mail rfl h11)) (pq tk rfl (.plain rfl) .nil)))))))) rfl ?_
    obtain ⟨v12, h13, hr⟩ := bind_some hr
    refine cl (R_SameMail_run _ _ _ h13) rfl rfl ?_
    refine rn tk 3 rfl ?_
    refine ac 26 hr rfl (fun c14 hr => ?_) (fun c14 hr => ?_)
    ·
     refine rn tk 8 rfl ?_
     cases hr
     exact ato rfl rfl rfl rfl
    ·
     refine rn tk 8 rfl ?_
     cases hr
     exact atc rfl rfl
   ·
    refine rn tk 2 rfl ?_
    cases hr
    exact ato rfl rfl rfl rfl
  ·
   refine rn tk 8 rfl ?_
   cases hr
   exact kr tk (.inr rfl) rfl rfl
  ·
   refine rn tk 2 rfl ?_
   cases hr
   exact kr tk (.inr rfl) rfl rfl
theorem L_ForwardStepMatchesSpec_run (a0 : List TForward) (a1 : TMail) (r : Bool) (hr : L_ForwardStepMatchesSpec a0 a1 = some r) : Run Tryz.prog 4 [.l TForward.pc a0, .agg [.s a1.Envelope.From, .l TRecipient.pc a1.Envelope.To, .s a1.Envelope.Id, .l TField.pc a1.Message.Fields, .l cU a1.Message.Body]] (.bo r) := by
 unfold L_ForwardStepMatchesSpec at hr
 refine rf (fn := Tryz.f4) ⟨Tryz.func4, rfl, by kernel_rfl⟩ rfl (fun _ => rfl) fun g0 hg => ?_
 refine rn tk 10 rfl ?_
 obtain ⟨v1, h2, hr⟩ := bind_some hr
 refine cl (forward_Step_run _ _ _ h2) rfl rfl ?_
 refine rn tk 16 rfl ?_
 obtain ⟨v3, h4, hr⟩ := bind_some hr
 refine cl (R_Onward_run _ _ _ h4) rfl rfl ?_
 refine rn tk 12 rfl ?_
 refine jb hr (fun j5 => [(4, .bo j5)]) (fun j5 => []) (fun j5 hr => ?_) (fun j5 hr => ?_)
 ·
  refine rn tk 1 rfl ?_
  obtain ⟨v6, h7, hr⟩ := bind_some hr
  refine cl (L_forwards_run _ h7) rfl rfl ?_
  refine rn tk 1 rfl ?_
  refine bs 30 hr rfl (fun c8 hr => ?_) (fun c8 hr => ?_)
  ·
   refine rn tk 2 rfl ?_
   refine ug rfl rfl rfl ?_
   refine wq (ev_structeq rfl rfl ty_api_Fault cmp_api_Fault (.int rfl (by decide) ty_int (.int rfl (by decide) ty_int .nil))) rfl rfl rfl ?_
   refine rn tk 2 rfl ?_
   refine bs 35 hr rfl (fun c9 hr => ?_) (fun c9 hr => ?_)
   ·
    refine rn tk 2 rfl ?_
    obtain ⟨v10, h11, hr⟩ := bind_some hr
    refine ug rfl rfl rfl ?_
    refine cl (R_Strings_run _ _ _ h11) rfl rfl ?_
    refine rn tk 2 rfl ?_
    refine bs 40 hr rfl (fun c12 hr => ?_) (fun c12 hr => ?_)
    ·
     refine rn tk 2 rfl ?_
     obtain ⟨v13, h14, hr⟩ := bind_some hr
     refine ug rfl rfl rfl ?_
     refine cl (R_SameMails_run _ _ _ h14) rfl rfl ?_
     refine rn tk 2 rfl ?_
     refine bs 45 hr rfl (fun c15 hr => ?_) (fun c15 hr => ?_)
     ·
      refine rn tk 2 rfl ?_
      obtain ⟨v16, h17, hr⟩ := bind_some hr
      refine ug rfl rfl rfl ?_
      refine cl (R_Strings_run _ _ _ h17) rfl rfl ?_
      refine rn tk 3 rfl ?_
      cases hr
      exact jn _ rfl rfl rfl
     ·
      refine rn tk 6 rfl ?_
      cases hr
      exact jn _ rfl rfl rfl
    ·
     refine rn tk 11 rfl ?_
     cases hr
     exact jn _ rfl rfl rfl
   ·
    refine rn tk 16 rfl ?_
    cases hr
    exact jn _ rfl rfl rfl
  ·
   refine rn tk 21 rfl ?_
   cases hr
   exact jn _ rfl rfl rfl
 ·
  refine rn tk 1 rfl ?_
  cases hr
  exact kr tk (.inr rfl) rfl rfl
end Go.Proofs.YtfhfjckjmacekaaGreat

namespace Go.Proofs.YtfhfjckjmacekaaGreat.forwardStepMatchesSpec
open Go.ChangeShapes Go.WideShapes Go.ChangeAt Go.RowKit
set_option linter.unusedVariables false
set_option maxRecDepth 100000

theorem contract (H : Type) (enc : TypeId × Value → H) (W : World) (base : Nat) (args : Array Value) (ds gs : List (DataW H)) (before : List MemPlace)
    (hval : ∀ (j : Nat) t v, Tryz.f4.params[j]? = some t → args[j]? = some v → Value.okWide Tryz.prog W .any base t v)
    (hW : DataW.Whole enc Tryz.prog Tryz.f4.params.toList Rows.forwardStepMatchesSpecSpec.vars false W args.toList ds gs before) (hk : Rows.uptoSmall H (ds ++ gs) = true) (hgl : Gl (gAll W)) :
    Calls Tryz.prog 4 args W fun e W' => ∃ v, e = .returned v ∧ Rows.forwardStepMatchesSpecSpec.post enc Tryz.prog Tryz.f4 false true false false W args v W' := by
  have hW' := hW
  obtain ⟨p, q, hA0, hV, rfl, hfz, hnd⟩ := hW
  have hA : DataW.TrodAll enc Tryz.prog W 0 (fun _ => true) true Tryz.f4.params.toList args.toList ds p := hA0
  rw [Tryz.params4] at hA hval
  obtain ⟨v0, vs0, d0, ds0, p0, q0, hargs, rfl, rfl, h0, r0⟩ := trodAll_cons hA
  obtain ⟨v1, vs1, d1, ds1, p1, q1, rfl, rfl, rfl, h1, r1⟩ := trodAll_cons r0
  obtain ⟨rfl, rfl, rfl⟩ := trodAll_nil r1
  obtain rfl : args = #[v0, v1] := by cases args; simp_all
  obtain ⟨rfl, rfl⟩ := trodVars_none hV
  obtain ⟨a0, e0, o0, k0⟩ := arg_one op_s_api_Forward (by obtain ⟨_, _, _, h⟩ := okWide_slice ty_s_api_Forward.u (hval 0 _ v0 rfl rfl); rw [h]; rfl) h0
  obtain ⟨a1, e1, o1, k1⟩ := arg_agg op_api_Mail (by obtain ⟨cs, h, _⟩ := okWide_struct ty_api_Mail.u (hval 1 _ v1 rfl rfl); exact ⟨cs, h⟩) h1
  have hk2 := of_decide_eq_true hk
  simp only [List.append_nil, Rows.uptoBulkAll] at hk2
  have ht := L_ForwardStepMatchesSpec_true a0 a1 o0 o1 (by (try dsimp only); omega)
  have key : Calls Tryz.prog 4 #[v0, v1] W fun e W' => e = .returned (.bool true) ∧ Below W.heap.size W W' := calls_of_run (L_ForwardStepMatchesSpec_run a0 a1 true ht) hgl (relArgs_of (.cons (e0 _ rfl) (.cons e1 .nil)))
  refine key.mono fun e W' ⟨he, hb⟩ => ⟨_, he, ?_⟩
  exact post_true laidOut (by kernel_rfl) Tryz.underlying4 (by kernel_rfl) rfl rfl hW' hb

theorem lifted (os : Os) (started : os.Started) (H : Type) (enc : TypeId × Value → H) (F : Stop.Interp) :
    ReturnsInHanded {} Tryz.checked os 4 .any ((Rows.OpenSpec.upto Rows.forwardStepMatchesSpecSpec).pre6 enc Tryz.prog Tryz.f4 Rows.forwardStepMatchesSpecUptoRow.domain false) (((Rows.OpenSpec.upto Rows.forwardStepMatchesSpecSpec).at F).post enc Tryz.prog Tryz.f4 false true false false) := by
  refine returnsInHanded_of_cond_shaped (C := Tryz.checked) (s := Rows.OpenSpec.upto Rows.forwardStepMatchesSpecSpec) (k := Rows.uptoSmall) rfl own started (by kernel_rfl) Tryz.func4
    (OpenSpec.witness (enc := enc) (C := Tryz.checked) (s := Rows.OpenSpec.upto Rows.forwardStepMatchesSpecSpec) (k := Rows.uptoSmall) rfl false ⟨#[], #[.slice none 0 0, .agg #[.string ⟨#[]⟩, .slice none 0 0, .string ⟨#[]⟩, .slice none 0 0, .slice none 0 0]], []⟩ 8 (by kernel_rfl) (by kernel_rfl) (by kernel_rfl)
      (x := ([.nil, .agg [.agg [.lit (.string []), .nil, .lit (.string [])], .agg [.nil, .nil]]], [], [])) (by kernel_rfl) rfl (by kernel_rfl)) ?_
  intro W base args ds gs before hval hW _ hk hsh _
  exact contract H enc W base args ds gs before hval hW hk (gl_of_shaped hsh)

theorem over : Rows.forwardStepMatchesSpecUptoRow.holds Tryz.pinned (Rows.OpenSpec.upto Rows.forwardStepMatchesSpecSpec) :=
  OpenClaim.holds_of_cond 4 Tryz.f4 rfl rfl rfl rfl rfl rfl rfl ⟨rfl, rfl, rfl, rfl, rfl⟩ rfl rfl rfl rfl rfl (by kernel_rfl) Tryz.func4 (by kernel_rfl)
    (of_decide_eq_true (by kernel_rfl)) (by unfold Func.isWrapper; first | (rw [if_pos (by decide +kernel)]; kernel_rfl) | (rw [if_neg (by decide +kernel)]; exact ⟨rfl, rfl⟩))
    (fun os started H enc _ F => lifted os started H enc F)

theorem proved : Rows.ForwardStepMatchesSpecUptoSaid := over
#print axioms proved
end Go.Proofs.YtfhfjckjmacekaaGreat.forwardStepMatchesSpec
