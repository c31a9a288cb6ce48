/- The law ListsMembersMatchSpec holds for every input of bulk up to the given bound: it returns true and leaves its arguments as they were. Written by program. -/
import Derived.Test.YtkoijpogjobgjaaGreatKListsMembersMatchSpec3
set_option linter.unusedVariables false
set_option linter.unusedSimpArgs false
namespace Go.Proofs.YtkoijpogjobgjaaGreat
open Go.RowKit
set_option maxRecDepth 100000
set_option maxHeartbeats 40000000
set_option linter.unusedVariables false
theorem L_ListsMembersMatchSpec_run (a0 : TList) (a1 : Str) (r : Bool) (hr : L_ListsMembersMatchSpec a0 a1 = some r) : Run Tryz.prog 5 [.agg [.s a0.Address, .s a0.Owner, .bo a0.Open, .l cS a0.Subscribers, .l cS a0.Moderators, .l THeld.pc a0.Held, .i a0.Next], .s a1] (.bo r) := by
 unfold L_ListsMembersMatchSpec at hr
 refine rf (fn := Tryz.f5) ⟨Tryz.func5, rfl, by kernel_rfl⟩ rfl (fun _ => rfl) fun g0 hg => ?_
 refine rn tk 10 rfl ?_
 obtain ⟨v1, h2, hr⟩ := bind_some hr
 refine cl (lists_Subscribe_run _ _ _ h2) rfl rfl ?_
 refine rn tk 13 rfl ?_
 obtain ⟨v3, h4, hr⟩ := bind_some hr
 refine cl (lists_Unsubscribe_run _ _ _ h4) rfl rfl ?_
 refine rn tk 12 rfl ?_
 obtain ⟨v5, h6, hr⟩ := bind_some hr
 refine cl (R_ListFault_run _ _ h6) rfl rfl ?_
 refine rn tk 11 rfl ?_
 refine jb hr (fun j7 => [(1, .s a1), (2, .ptr 2 0), (5, .ptr 5 0), (6, .ptr 6 0), (7, .ptr 7 0), (8, .ptr 8 0), (9, .ptr 9 0), (10, .ptr 10 0)]) (fun j7 => [(10, .cells [.i v5.Code, .i v5.Index]), (9, .cells [.i j7.1, .i j7.2]), (8, .cells [.i v3.2.Code, .i v3.2.Index]), (7, .cells [.s v3.1.Address, .s v3.1.Owner, .bo v3.1.Open, .l cS v3.1.Subscribers, .l cS v3.1.Moderators, .l THeld.pc v3.1.Held, .i v3.1.Next]), (6, .cells [.i v1.2.Code, .i v1.2.Index]), (5, .cells [.s v1.1.Address, .s v1.1.Owner, .bo v1.1.Open, .l cS v1.1.Subscribers, .l cS v1.1.Moderators, .l THeld.pc v1.1.Held, .i v1.1.Next]), (2, .cells [.s a0.Address, .s a0.Owner, .bo a0.Open, .l cS a0.Subscribers, .l cS a0.Moderators, .l THeld.pc a0.Held, .i a0.Next])]) (fun j7 hr => ?_) (fun j7 hr => ?_)
 ·
  refine jb hr (fun j8 => [(1, .s a1), (2, .ptr 2 0), (5, .ptr 5 0), (6, .ptr 6 0), (7, .ptr 7 0), (8, .ptr 8 0), (9, .ptr 9 0), (10, .ptr 10 0), (36, .bo j8)]) (fun j8 => [(10, .cells [.i v5.Code, .i v5.Index]), (9, .cells [.i v5.Code, .i v5.Index]), (8, .cells [.i v3.2.Code, .i v3.2.Index]), (7, .cells [.s v3.1.Address, .s v3.1.Owner, .bo v3.1.Open, .l cS v3.1.Subscribers, .l cS v3.1.Moderators, .l THeld.pc v3.1.Held, .i v3.1.Next]), (6, .cells [.i v1.2.Code, .i v1.2.Index]), (5, .cells [.s v1.1.Address, .s v1.1.Owner, .bo v1.1.Open, .l cS v1.1.Subscribers, .l cS v1.1.Moderators, .l THeld.pc v1.1.Held, .i v1.1.Next]), (2, .cells [.s a0.Address, .s a0.Owner, .bo a0.Open, .l cS a0.Subscribers, .l cS a0.Moderators, .l THeld.pc a0.Held, .i a0.Next])]) (fun j8 hr => ?_) (fun j8 hr => ?_)
  ·
   refine rn tk 5 rfl ?_
   refine bs 32 hr rfl (fun c9 hr => ?_) (fun c9 hr => ?_)
   ·
    refine rn tk 1 rfl ?_
    obtain ⟨v10, h11, hr⟩ := bind_some hr
    refine ug rfl rfl rfl ?_
    refine cl (R_AddressOk_run _ _ h11) rfl rfl ?_
    refine rn tk 3 rfl ?_
    cases hr
    exact jn _ rfl rfl rfl
   ·
    refine rn tk 5 rfl ?_
    cases hr
    exact jn _ rfl rfl rfl
  ·
   refine ac 36 hr rfl (fun c12 hr => ?_) (fun c12 hr => ?_)
   ·
    refine rn tk 1 rfl ?_
    obtain ⟨v13, h14, hr⟩ := bind_some hr
    refine cl (R_At_run _ _ _ h14) rfl rfl ?_
    refine rn tk 2 rfl ?_
    cases hr
    exact jn _ rfl rfl rfl
   ·
    refine rn tk 1 rfl ?_
    cases hr
    exact jn _ rfl rfl rfl
 ·
  refine jb hr (fun j15 => [(1, .s a1), (2, .ptr 2 0), (5, .ptr 5 0), (6, .ptr 6 0), (7, .ptr 7 0), (8, .ptr 8 0), (9, .ptr 9 0), (10, .ptr 10 0)]) (fun j15 => [(10, .cells [.i v5.Code, .i v5.Index]), (9, .cells [.i j15.1, .i j15.2]), (8, .cells [.i v3.2.Code, .i v3.2.Index]), (7, .cells [.s v3.1.Address, .s v3.1.Owner, .bo v3.1.Open, .l cS v3.1.Subscribers, .l cS v3.1.Moderators, .l THeld.pc v3.1.Held, .i v3.1.Next]), (6, .cells [.i v1.2.Code, .i v1.2.Index]), (5, .cells [.s v1.1.Address, .s v1.1.Owner, .bo v1.1.Open, .l cS v1.1.Subscribers, .l cS v1.1.Moderators, .l THeld.pc v1.1.Held, .i v1.1.Next]), (2, .cells [.s a0.Address, .s a0.Owner, .bo a0.Open, .l cS a0.Subscribers, .l cS a0.Moderators, .l THeld.pc a0.Held, .i a0.Next])]) (fun j15 hr => ?_) (fun j15 hr => ?_)
  ·
   refine jb hr (fun j16 => [(1, .s a1), (2, .ptr 2 0), (5, .ptr 5 0), (6, .ptr 6 0), (7, .ptr 7 0), (8, .ptr 8 0), (9, .ptr 9 0), (10, .ptr 10 0), (46, .bo j16)]) (fun j16 => [(10, .cells [.i v5.Code, .i v5.Index]), (9, .cells [.i j7.1, .i j7.2]), (8, .cells [.i v3.2.Code, .i v3.2.Index]), (7, .cells [.s v3.1.Address, .s v3.1.Owner, .bo v3.1.Open, .l cS v3.1.Subscribers, .l cS v3.1.Moderators, .l THeld.pc v3.1.Held, .i v3.1.Next]), (6, .cells [.i v1.2.Code, .i v1.2.Index]), (5, .cells [.s v1.1.Address, .s v1.1.Owner, .bo v1.1.Open, .l cS v1.1.Subscribers, .l cS v1.1.Moderators, .l THeld.pc v1.1.Held, .i v1.1.Next]), (2, .cells [.s a0.Address, .s a0.Owner, .bo a0.Open, .l cS a0.Subscribers, .l cS a0.Moderators, .l THeld.pc a0.Held, .i a0.Next])]) (fun j16 hr => ?_) (fun j16 hr => ?_)
   ·
    refine rn tk 5 rfl ?_
    refine bs 41 hr rfl (fun c17 hr => ?_) (fun c17 hr => ?_)
    ·
     refine rn tk 3 rfl ?_
     obtain ⟨v18, h19, hr⟩ := bind_some hr
     refine ug rfl rfl rfl ?_
     refine cl (R_Has_run _ _ _ h19) rfl rfl ?_
     refine rn tk 2 rfl ?_
     cases hr
     exact jn _ rfl rfl rfl
    ·
     refine rn tk 6 rfl ?_
     cases hr
     exact jn _ rfl rfl rfl
   ·
    refine ac 46 hr rfl (fun c20 hr => ?_) (fun c20 hr => ?_)
    ·
     refine rn tk 1 rfl ?_
     obtain ⟨v21, h22, hr⟩ := bind_some hr
     refine cl (R_At_run _ _ _ h22) rfl rfl ?_
     refine rn tk 2 rfl ?_
     cases hr
     exact jn _ rfl rfl rfl
    ·
     refine rn tk 1 rfl ?_
     cases hr
     exact jn _ rfl rfl rfl
  ·
   refine jb hr (fun j23 => [(1, .s a1), (2, .ptr 2 0), (5, .ptr 5 0), (6, .ptr 6 0), (7, .ptr 7 0), (8, .ptr 8 0), (9, .ptr 9 0), (10, .ptr 10 0)]) (fun j23 => [(10, .cells [.i v5.Code, .i v5.Index]), (9, .cells [.i j23.1, .i j23.2]), (8, .cells [.i v3.2.Code, .i v3.2.Index]), (7, .cells [.s v3.1.Address, .s v3.1.Owner, .bo v3.1.Open, .l cS v3.1.Subscribers, .l cS v3.1.Moderators, .l THeld.pc v3.1.Held, .i v3.1.Next]), (6, .cells [.i v1.2.Code, .i v1.2.Index]), (5, .cells [.s v1.1.Address, .s v1.1.Owner, .bo v1.1.Open, .l cS v1.1.Subscribers, .l cS v1.1.Moderators, .l THeld.pc v1.1.Held, .i v1.1.Next]), (2, .cells [.s a0.Address, .s a0.Owner, .bo a0.Open, .l cS a0.Subscribers, .l cS a0.Moderators, .l THeld.pc a0.Held, .i a0.Next])]) (fun j23 hr => ?_) (fun j23 hr => ?_)
   ·
    refine jb hr (fun j24 => [(1, .s a1), (2, .ptr 2 0), (5, .ptr 5 0), (6, .ptr 6 0), (7, .ptr 7 0), (8, .ptr 8 0), (9, .ptr 9 0), (10, .ptr 10 0), (56, .bo j24)]) (fun j24 => [(10, .cells [.i v5.Code, .i v5.Index]), (9, .cells [.i j15.1, .i j15.2]), (8, .cells [.i v3.2.Code, .i v3.2.Index]), (7, .cells [.s v3.1.Address, .s v3.1.Owner, .bo v3.1.Open, .l cS v3.1.Subscribers, .l cS v3.1.Moderators, .l THeld.pc v3.1.Held, .i v3.1.Next]), (6, .cells [.i v1.2.Code, .i v1.2.Index]), (5, .cells [.s v1.1.Address, .s v1.1.Owner, .bo v1.1.Open, .l cS v1.1.Subscribers, .l cS v1.1.Moderators, .l THeld.pc v1.1.Held, .i v1.1.Next]), (2, .cells [.s a0.Address, .s a0.Owner, .bo a0.Open, .l cS a0.Subscribers, .l cS a0.Moderators, .l THeld.pc a0.Held, .i a0.Next])]) (fun j24 hr => ?_) (fun j24 hr => ?_)
    ·
     refine rn tk 5 rfl ?_
     refine bs 51 hr rfl (fun c25 hr => ?_) (fun c25 hr => ?_)
     ·
      refine rn tk 2 rfl ?_
      refine ug rfl rfl rfl ?_
      refine wn tk rfl rfl rfl ?_
      refine rn tk 3 rfl ?_
      cases hr
      exact jn _ rfl rfl rfl
     ·
      refine rn tk 6 rfl ?_
      cases hr
      exact jn _ rfl rfl rfl
    ·
     refine ac 56 hr rfl (fun c26 hr => ?_) (fun c26 hr => ?_)
     ·
      refine rn tk 1 rfl ?_
      obtain ⟨v27, h28, hr⟩ := bind_some hr
      refine cl (R_At_run _ _ _ h28) rfl rfl ?_
      refine rn tk 2 rfl ?_
      cases hr
      exact jn _ rfl rfl rfl
     ·
      refine rn tk 1 rfl ?_
      cases hr
      exact jn _ rfl rfl rfl
   ·
    refine jb hr (fun j29 => [(1, .s a1), (2, .ptr 2 0), (5, .ptr 5 0), (6, .ptr 6 0), (7, .ptr 7 0), (8, .ptr 8 0), (9, .ptr 9 0), (10, .ptr 10 0)]) (fun j29 => [(10, .cells [.i j29.1, .i j29.2]), (9, .cells [.i j23.1, .i j23.2]), (8, .cells [.i v3.2.Code, .i v3.2.Index]), (7, .cells [.s v3.1.Address, .s v3.1.Owner, .bo v3.1.Open, .l cS v3.1.Subscribers, .l cS v3.1.Moderators, .l THeld.pc v3.1.Held, .i v3.1.Next]), (6, .cells [.i v1.2.Code, .i v1.2.Index]), (5, .cells [.s v1.1.Address, .s v1.1.Owner, .bo v1.1.Open, .l cS v1.1.Subscribers, .l cS v1.1.Moderators, .l THeld.pc v1.1.Held, .i v1.1.Next]), (2, .cells [.s a0.Address, .s a0.Owner, .bo a0.Open, .l cS a0.Subscribers, .l cS a0.Moderators, .l THeld.pc a0.Held, .i a0.Next])]) (fun j29 hr => ?_) (fun j29 hr => ?_)
    ·
     refine jb hr (fun j30 => [(1, .s a1), (2, .ptr 2 0), (5, .ptr 5 0), (6, .ptr 6 0), (7, .ptr 7 0), (8, .ptr 8 0), (9, .ptr 9 0), (10, .ptr 10 0), (67, .bo j30)]) (fun j30 => [(10, .cells [.i v5.Code, .i v5.Index]), (9, .cells [.i j23.1, .i j23.2]), (8, .cells [.i v3.2.Code, .i v3.2.Index]), (7, .cells [.s v3.1.Address, .s v3.1.Owner, .bo v3.1.Open, .l cS v3.1.Subscribers, .l cS v3.1.Moderators, .l THeld.pc v3.1.Held, .i v3.1.Next]), (6, .cells [.i v1.2.Code, .i v1.2.Index]), (5, .cells [.s v1.1.Address, .s v1.1.Owner, .bo v1.1.Open, .l cS v1.1.Subscribers, .l cS v1.1.Moderators, .l THeld.pc v1.1.Held, .i v1.1.Next]), (2, .cells [.s a0.Address, .s a0.Owner, .bo a0.Open, .l cS a0.Subscribers, .l cS a0.Moderators, .l THeld.pc a0.Held, .i a0.Next])]) (fun j30 hr => ?_) (fun j30 hr => ?_)
     ·
      refine rn tk 5 rfl ?_
      refine bs 61 hr rfl (fun c31 hr => ?_) (fun c31 hr => ?_)
      ·
       refine rn tk 3 rfl ?_
       obtain ⟨v32, h33, hr⟩ := bind_some hr
       refine ug rfl rfl rfl ?_
       refine cl (R_Has_run _ _ _ h33) rfl rfl ?_
       refine rn tk 3 rfl ?_
       cases hr
       exact jn _ rfl rfl rfl
      ·
       refine rn tk 7 rfl ?_
       cases hr
       exact jn _ rfl rfl rfl
     ·
      refine ac 67 hr rfl (fun c34 hr => ?_) (fun c34 hr => ?_)
      ·
       refine rn tk 1 rfl ?_
       obtain ⟨v35, h36, hr⟩ := bind_some hr
       refine cl (R_At_run _ _ _ h36) rfl rfl ?_
       refine rn tk 2 rfl ?_
       cases hr
       exact jn _ rfl rfl rfl
      ·
       refine rn tk 1 rfl ?_
       cases hr
       exact jn _ rfl rfl rfl
    ·
     refine rn tk 4 rfl ?_
     refine awpl_adoptC 1011 (o := 11) (j := 3) 9 1 rfl rfl rfl rfl (hO ?_)
     refine rn tk 1 rfl ?_
     refine awpl_adoptC 2011 (o := 11) (j := 3) 9 1 rfl rfl rfl rfl (hO ?_)
     refine rn tk 6 rfl ?_
     refine awpl_adoptC 1012 (o := 12) (j := 3) 9 1 rfl rfl rfl rfl (hO ?_)
     refine rn tk 1 rfl ?_
     refine awpl_adoptC 2012 (o := 12) (j := 3) 9 1 rfl rfl rfl rfl (hO ?_)
     refine rn tk 10 rfl ?_
     refine ac 73 hr rfl (fun c37 hr => ?_) (fun c37 hr => ?_)
     ·
      refine rn tk 8 rfl ?_
      refine wo (opTo_litz (k := 75) rfl ty_s_string ty_string) rfl ?_
      refine rn tk 2 rfl ?_
      obtain ⟨v38, h39, hr⟩ := bind_some hr
      refine wo (opTo_appendz (k := 78) (F := cS) (xs := a0.Subscribers) (lim := 8796093022208) 1078 rfl rfl rfl ty_s_string ty_string rfl rfl (fun _ => rfl) rfl rfl rfl h39) rfl ?_
      refine rn tk 8 rfl ?_
      refine wz cS ([a1] : List Str) tk rfl rfl (fun _ => rfl) rfl rfl rfl ?_
      obtain ⟨v40, h41, hr⟩ := bind_some hr
      refine wa tk h41 rfl rfl rfl rfl (fun _ => rfl) rfl rfl ?_
      refine rn tk 12 rfl ?_
      refine ac 88 hr rfl (fun c42 hr => ?_) (fun c42 hr => ?_)
      ·
       refine rn tk 10 rfl ?_
       refine awpl_adoptC 3012 (o := 12) (j := 3) 9 1 rfl rfl rfl rfl (hO ?_)
       refine rn tk 8 rfl ?_
       refine al1 hr (fun s43 => [(1, .s a1), (2, .ptr 2 0), (5, .ptr 5 0), (6, .ptr 6 0), (7, .ptr 7 0), (8, .ptr 8 0), (9, .ptr 9 0), (10, .ptr 10 0), (11, .ptr 11 0), (12, .ptr 12 0), (13, .i s43.1)]) (fun s43 => [(3012, .row 9 false 1 (List.map cS s43.2)), (1078, .row 9 true 1 (List.map cS v40)), (12, .cells [.s a0.Address, .s a0.Owner, .bo a0.Open, .hs 3012 0, .l cS a0.Moderators, .l THeld.pc a0.Held, .i a0.Next]), (11, .cells [.s a0.Address, .s a0.Owner, .bo a0.Open, .hs 1078 0, .l cS a0.Moderators, .l THeld.pc a0.Held, .i a0.Next]), (10, .cells [.i j29.1, .i j29.2]), (9, .cells [.i j23.1, .i j23.2]), (8, .cells [.i v3.2.Code, .i v3.2.Index]), (7, .cells [.s v3.1.Address, .s v3.1.Owner, .bo v3.1.Open, .l cS v3.1.Subscribers, .l cS v3.1.Moderators, .l THeld.pc v3.1.Held, .i v3.1.Next]), (6, .cells [.i v1.2.Code, .i v1.2.Index]), (5, .cells [.s v1.1.Address, .s v1.1.Owner, .bo v1.1.Open, .l cS v1.1.Subscribers, .l cS v1.1.Moderators, .l THeld.pc v1.1.Held, .i v1.1.Next]), (2, .cells [.s a0.Address, .s a0.Owner, .bo a0.Open, .l cS a0.Subscribers, .l cS a0.Moderators, .l THeld.pc a0.Held, .i a0.Next])]) (.exit 0) (fun b44 => [(5, .ptr 5 0), (6, .ptr 6 0), (7, .ptr 7 0), (8, .ptr 8 0), (9, .ptr 9 0), (10, .ptr 10 0), (11, .ptr 11 0), (12, .ptr 12 0)]) (fun b44 => [(3012, .row 9 false 1 (List.map cS b44)), (1078, .row 9 true 1 (List.map cS v40)), (12, .cells [.s a0.Address, .s a0.Owner, .bo a0.Open, .hs 3012 0, .l cS a0.Moderators, .l THeld.pc a0.Held, .i a0.Next]), (11, .cells [.s a0.Address, .s a0.Owner, .bo a0.Open, .hs 1078 0, .l cS a0.Moderators, .l THeld.pc a0.Held, .i a0.Next]), (10, .cells [.i j29.1, .i j29.2]), (9, .cells [.i j23.1, .i j23.2]), (8, .cells [.i v3.2.Code, .i v3.2.Index]), (7, .cells [.s v3.1.Address, .s v3.1.Owner, .bo v3.1.Open, .l cS v3.1.Subscribers, .l cS v3.1.Moderators, .l THeld.pc v3.1.Held, .i v3.1.Next]), (6, .cells [.i v1.2.Code, .i v1.2.Index]), (5, .cells [.s v1.1.Address, .s v1.1.Owner, .bo v1.1.Open, .l cS v1.1.Subscribers, .l cS v1.1.Moderators, .l THeld.pc v1.1.Held, .i v1.1.Next])]) rfl rfl (fun s43 x45 hr => ?_) (fun b44 hr => ?_)
       ·
        unfold L_ListsMembersMatchSpec_l1 at hr
        refine rn tk 6 rfl ?_
        refine wn tk rfl rfl rfl ?_
        refine rn tk 3 rfl ?_
        refine ac 95 hr rfl (fun c46 hr => ?_) (fun c46 hr => ?_)
        ·
         refine rn tk 2 rfl ?_
         refine jb hr (fun j47 => [(1, .s a1), (2, .ptr 2 0), (5, .ptr 5 0), (6, .ptr 6 0), (7, .ptr 7 0), (8, .ptr 8 0), (9, .ptr 9 0), (10, .ptr 10 0), (11, .ptr 11 0), (12, .ptr 12 0), (13, .i s43.1)]) (fun j47 => [(3012, .row 9 false 1 (List.map cS j47)), (1078, .row 9 true 1 (List.map cS v40)), (12, .cells [.s a0.Address, .s a0.Owner, .bo a0.Open, .hs 3012 0, .l cS a0.Moderators, .l THeld.pc a0.Held, .i a0.Next]), (11, .cells [.s a0.Address, .s a0.Owner, .bo a0.Open, .hs 1078 0, .l cS a0.Moderators, .l THeld.pc a0.Held, .i a0.Next]), (10, .cells [.i j29.1, .i j29.2]), (9, .cells [.i j23.1, .i j23.2]), (8, .cells [.i v3.2.Code, .i v3.2.Index]), (7, .cells [.s v3.1.Address, .s v3.1.Owner, .bo v3.1.Open, .l cS v3.1.Subscribers, .l cS v3.1.Moderators, .l THeld.pc v3.1.Held, .i v3.1.Next]), (6, .cells [.i v1.2.Code, .i v1.2.Index]), (5, .cells [.s v1.1.Address, .s v1.1.Owner, .bo v1.1.Open, .l cS v1.1.Subscribers, .l cS v1.1.Moderators, .l THeld.pc v1.1.Held, .i v1.1.Next]), (2, .cells [.s a0.Address, .s a0.Owner, .bo a0.Open, .l cS a0.Subscribers, .l cS a0.Moderators, .l THeld.pc a0.Held, .i a0.Next])]) (fun j47 hr => ?_) (fun j47 hr => ?_)
         ·
          refine rn tk 6 rfl ?_
          obtain ⟨v48, h49, hr⟩ := bind_some hr
          refine wi tk h49 rfl rfl rfl rfl rfl ?_
          refine rn tk 5 rfl ?_
          refine ac 104 hr rfl (fun c50 hr => ?_) (fun c50 hr => ?_)
          ·
           obtain ⟨v51, h52, hr⟩ := bind_some hr
           refine dr 8 [(112, .l cS (([v51] : List Str))), (111, .s v51), (110, .ep [pS v51]), (109, .i s43.1), (108, .l cS a0.Subscribers), (107, .ptr 2 3), (106, .hs 3012 0), (105, .ptr 12 3)] mixed (by kernel_rfl) rfl rfl (pq tk rfl (.plain rfl) (pq tk rfl (.plain rfl) (pq tk rfl (.plain rfl) (pq tk rfl (.plain rfl) (pq tk rfl (.plain rfl) (.run (.plain rfl) (opG_q (ev_idx (f := cS) rfl rfl ty_s_string ty_string rfl h52)) (pq tk rfl (.plain rfl) (.run (.plain rfl) (opG_lit (F := cS) (l := ([v51] : List Str)) ty_s_string ty_string rfl (fun _ => rfl) rfl rfl) .nil)))))))) rfl ?_
           obtain ⟨v53, h54, hr⟩ := bind_some hr
           refine wa tk h54 rfl rfl rfl rfl (fun _ => rfl) rfl rfl ?_
           refine rn tk 4 rfl ?_
           cases hr
           exact jn _ rfl rfl rfl
          ·
           refine rn tk 2 rfl ?_
           cases hr
           exact jn _ rfl rfl rfl
         ·
          refine rn tk 5 rfl ?_
          cases hr
          exact atc rfl rfl
        ·
         refine rn tk 2 rfl ?_
         cases hr
         exact ato rfl rfl rfl rfl
       ·
        refine rn tk 2 rfl ?_
        refine jb hr (fun j55 => [(4, .bo j55)]) (fun j55 => []) (fun j55 hr => ?_) (fun j55 hr => ?_)
        ·
         refine rn tk 1 rfl ?_
         obtain ⟨v56, h57, hr⟩ := bind_some hr
         refine cl (L_posts_run _ h57) rfl rfl ?_
         refine rn tk 1 rfl ?_
         refine bs 116 hr rfl (fun c58 hr => ?_) (fun c58 hr => ?_)
         ·
          refine rn tk 2 rfl ?_
          refine ug rfl rfl rfl ?_
          refine wq (ev_structeq rfl rfl ty_api_Fault cmp_api_Fault (.int rfl (by decide) ty_int (.int rfl (by decide) ty_int .nil))) rfl rfl rfl ?_
          refine rn tk 2 rfl ?_
          refine bs 121 hr rfl (fun c59 hr => ?_) (fun c59 hr => ?_)
          ·
           refine rn tk 2 rfl ?_
           refine ug rfl rfl rfl ?_
           refine wq (ev_structeq rfl rfl ty_api_Fault cmp_api_Fault (.int rfl (by decide) ty_int (.int rfl (by decide) ty_int .nil))) rfl rfl rfl ?_
           refine rn tk 2 rfl ?_
           refine bs 126 hr rfl (fun c60 hr => ?_) (fun c60 hr => ?_)
           ·
            refine rn tk 2 rfl ?_
            refine awpl_unmu 1078 rfl (hO ?_)
            refine awpl_pubA (d' := 128) (j := 3) (F := cS) (l := v40) rfl rfl rfl (hO ?_)
            obtain ⟨v61, h62, hr⟩ := bind_some hr
            refine ug rfl rfl rfl ?_
            refine cl (R_SameList_run _ _ _ h62) rfl rfl ?_
            refine rn tk 2 rfl ?_
            refine bs 131 hr rfl (fun c63 hr => ?_) (fun c63 hr => ?_)
            ·
             refine rn tk 2 rfl ?_
             refine awpl_pubA (d' := 133) (j := 3) (F := cS) (l := b44) rfl rfl rfl (hO ?_)
             obtain ⟨v64, h65, hr⟩ := bind_some hr
             refine ug rfl rfl rfl ?_
             refine cl (R_SameList_run _ _ _ h65) rfl rfl ?_
             refine rn tk 3 rfl ?_
             cases hr
             exact jn _ rfl rfl rfl
            ·
             refine rn tk 6 rfl ?_
             cases hr
             exact jn _ rfl rfl rfl
           ·
            refine rn tk 11 rfl ?_
            cases hr
            exact jn _ rfl rfl rfl
          ·
           refine rn tk 16 rfl ?_
           cases hr
           exact jn _ rfl rfl rfl
         ·
          refine rn tk 21 rfl ?_
          cases hr
          exact jn _ rfl rfl rfl
        ·
         refine rn tk 1 rfl ?_
         cases hr
         exact kr tk (.inr rfl) rfl rfl
      ·
       refine rn tk 2 rfl ?_
       refine jb hr (fun j66 => [(4, .bo j66)]) (fun j66 => []) (fun j66 hr => ?_) (fun j66 hr => ?_)
       ·
        refine rn tk 1 rfl ?_
        obtain ⟨v67, h68, hr⟩ := bind_some hr
        refine cl (L_posts_run _ h68) rfl rfl ?_
        refine rn tk 1 rfl ?_
        refine bs 116 hr rfl (fun c69 hr => ?_) (fun c69 hr => ?_)
        ·
         refine rn tk 2 rfl ?_
         refine ug rfl rfl rfl ?_
         refine wq (ev_structeq rfl rfl ty_api_Fault cmp_api_Fault (.int rfl (by decide) ty_int (.int rfl (by decide) ty_int .nil))) rfl rfl rfl ?_
         refine rn tk 2 rfl ?_
         refine bs 121 hr rfl (fun c70 hr => ?_) (fun c70 hr => ?_)
         ·
          refine rn tk 2 rfl ?_
          refine ug rfl rfl rfl ?_
          refine wq (ev_structeq rfl rfl ty_api_Fault cmp_api_Fault (.int rfl (by decide) ty_int (.int rfl (by decide) ty_int .nil))) rfl rfl rfl ?_
          refine rn tk 2 rfl ?_
          refine bs 126 hr rfl (fun c71 hr => ?_) (fun c71 hr => ?_)
          ·
           refine rn tk 2 rfl ?_
           refine awpl_unmu 1078 rfl (hO ?_)
           refine awpl_pubA (d' := 128) (j := 3) (F := cS) (l := v40) rfl rfl rfl (hO ?_)
           obtain ⟨v72, h73, hr⟩ := bind_some hr
           refine ug rfl rfl rfl ?_
           refine cl (R_SameList_run _ _ _ h73) rfl rfl ?_
           refine rn tk 2 rfl ?_
           refine bs 131 hr rfl (fun c74 hr => ?_) (fun c74 hr => ?_)
           ·
            refine rn tk 2 rfl ?_
            refine awpl_pubA (d' := 133) (j := 3) (F := cS) (l := (([] : List Str))) rfl rfl rfl (hO ?_)
            obtain ⟨v75, h76, hr⟩ := bind_some hr
            refine ug rfl rfl rfl ?_
            refine cl (R_SameList_run _ _ _ h76) rfl rfl ?_
            refine rn tk 3 rfl ?_
            cases hr
            exact jn _ rfl rfl rfl
           ·
            refine rn tk 6 rfl ?_
            cases hr
            exact jn _ rfl rfl rfl
          ·
           refine rn tk 11 rfl ?_
           cases hr
           exact jn _ rfl rfl rfl
         ·
          refine rn tk 16 rfl ?_
          cases hr
          exact jn _ rfl rfl rfl
        ·
         refine rn tk 21 rfl ?_
         cases hr
         exact jn _ rfl rfl rfl
       ·
        refine rn tk 1 rfl ?_
        cases hr
        exact kr tk (.inr rfl) rfl rfl
     ·
      refine rn tk 10 rfl ?_
      refine ac 88 hr rfl (fun c77 hr => ?_) (fun c77 hr => ?_)
      ·
       refine rn tk 10 rfl ?_
       refine awpl_adoptC 3012 (o := 12) (j := 3) 9 1 rfl rfl rfl rfl (hO ?_)
       refine rn tk 8 rfl ?_
       refine al1 hr (fun s78 => [(1, .s a1), (2, .ptr 2 0), (5, .ptr 5 0), (6, .ptr 6 0), (7, .ptr 7 0), (8, .ptr 8 0), (9, .ptr 9 0), (10, .ptr 10 0), (11, .ptr 11 0), (12, .ptr 12 0), (13, .i s78.1)]) (fun s78 => [(3012, .row 9 false 1 (List.map cS s78.2)), (12, .cells [.s a0.Address, .s a0.Owner, .bo a0.Open, .hs 3012 0, .l cS a0.Moderators, .l THeld.pc a0.Held, .i a0.Next]), (2011, .row 9 false 1 (List.map cS (([] : List Str)))), (11, .cells [.s (([] : Str)), .s (([] : Str)), .bo false, .hs 2011 0, .l cS ([]), .l THeld.pc ([]), .i 0]), (10, .cells [.i j29.1, .i j29.2]), (9, .cells [.i j23.1, .i j23.2]), (8, .cells [.i v3.2.Code, .i v3.2.Index]), (7, .cells [.s v3.1.Address, .s v3.1.Owner, .bo v3.1.Open, .l cS v3.1.Subscribers, .l cS v3.1.Moderators, .l THeld.pc v3.1.Held, .i v3.1.Next]), (6, .cells [.i v1.2.Code, .i v1.2.Index]), (5, .cells [.s v1.1.Address, .s v1.1.Owner, .bo v1.1.Open, .l cS v1.1.Subscribers, .l cS v1.1.Moderators, .l THeld.pc v1.1.Held, .i v1.1.Next]), (2, .cells [.s a0.Address, .s a0.Owner, .bo a0.Open, .l cS a0.Subscribers, .l cS a0.Moderators, .l THeld.pc a0.Held, .i a0.Next])]) (.exit 0) (fun b79 => [(5, .ptr 5 0), (6, .ptr 6 0), (7, .ptr 7 0), (8, .ptr 8 0), (9, .ptr 9 0), (10, .ptr 10 0), (11, .ptr 11 0), (12, .ptr 12 0)]) (fun b79 => [(3012, .row 9 false 1 (List.map cS b79)), (12, .cells [.s a0.Address, .s a0.Owner, .bo a0.Open, .hs 3012 0, .l cS a0.Moderators, .l THeld.pc a0.Held, .i a0.Next]), (2011, .row 9 false 1 (List.map cS (([] : List Str)))), (11, .cells [.s (([] : Str)), .s (([] : Str)), .bo false, .hs 2011 0, .l cS ([]), .l THeld.pc ([]), .i 0]), (10, .cells [.i j29.1, .i j29.2]), (9, .cells [.i j23.1, .i j23.2]), (8, .cells [.i v3.2.Code, .i v3.2.Index]), (7, .cells [.s v3.1.Address, .s v3.1.Owner, .bo v3.1.Open, .l cS v3.1.Subscribers, .l cS v3.1.Moderators, .l THeld.pc v3.1.Held, .i v3.1.Next]), (6, .cells [.i v1.2.Code, .i v1.2.Index]), (5, .cells [.s v1.1.Address, .s v1.1.Owner, .bo v1.1.Open, .l cS v1.1.Subscribers, .l cS v1.1.Moderators, .l THeld.pc v1.1.Held, .i v1.1.Next])]) rfl rfl (fun s78 x80 hr => ?_) (fun b79 hr => ?_)
       ·
        unfold L_ListsMembersMatchSpec_l2 at hr
        refine rn tk 6 rfl ?_
        refine wn tk rfl rfl rfl ?_
        refine rn tk 3 rfl ?_
        refine ac 95 hr rfl (fun c81 hr => ?_) (fun c81 hr => ?_)
        ·
         refine rn tk 2 rfl ?_
         refine jb hr (fun j82 => [(1, .s a1), (2, .ptr 2 0), (5, .ptr 5 0), (6, .ptr 6 0), (7, .ptr 7 0), (8, .ptr 8 0), (9, .ptr 9 0), (10, .ptr 10 0), (11, .ptr 11 0), (12, .ptr 12 0), (13, .i s78.1)]) (fun j82 => [(3012, .row 9 false 1 (List.map cS j82)), (12, .cells [.s a0.Address, .s a0.Owner, .bo a0.Open, .hs 3012 0, .l cS a0.Moderators, .l THeld.pc a0.Held, .i a0.Next]), (2011, .row 9 false 1 (List.map cS (([] : List Str)))), (11, .cells [.s (([] : Str)), .s (([] : Str)), .bo false, .hs 2011 0, .l cS ([]), .l THeld.pc ([]), .i 0]), (10, .cells [.i j29.1, .i j29.2]), (9, .cells [.i j23.1, .i j23.2]), (8, .cells [.i v3.2.Code, .i v3.2.Index]), (7, .cells [.s v3.1.Address, .s v3.1.Owner, .bo v3.1.Open, .l cS v3.1.Subscribers, .l cS v3.1.Moderators, .l THeld.pc v3.1.Held, .i v3.1.Next]), (6, .cells [.i v1.2.Code, .i v1.2.Index]), (5, .cells [.s v1.1.Address, .s v1.1.Owner, .bo v1.1.Open, .l cS v1.1.Subscribers, .l cS v1.1.Moderators, .l THeld.pc v1.1.Held, .i v1.1.Next]), (2, .cells [.s a0.Address, .s a0.Owner, .bo a0.Open, .l cS a0.Subscribers, .l cS a0.Moderators, .l THeld.pc a0.Held, .i a0.Next])]) (fun j82 hr => ?_) (fun j82 hr => ?_)
         ·
          refine rn tk 6 rfl ?_
          obtain ⟨v83, h84, hr⟩ := bind_some hr
          refine wi tk h84 rfl rfl rfl rfl rfl ?_
          refine rn tk 5 rfl ?_
          refine ac 104 hr rfl (fun c85 hr => ?_) (fun c85 hr => ?_)
          ·
           obtain ⟨v86, h87, hr⟩ := bind_some hr
           refine dr 8 [(112, .l cS (([v86] : List Str))), (111, .s v86), (110, .ep [pS v86]), (109, .i s78.1), (108, .l cS a0.Subscribers), (107, .ptr 2 3), (106, .hs 3012 0), (105, .ptr 12 3)] mixed (by kernel_rfl) rfl rfl (pq tk rfl (.plain rfl) (pq tk rfl (.plain rfl) (pq tk rfl (.plain rfl) (pq tk rfl (.plain rfl) (pq tk rfl (.plain rfl) (.run (.plain rfl) (opG_q (ev_idx (f := cS) rfl rfl ty_s_string ty_string rfl h87)) (pq tk rfl (.plain rfl) (.run (.plain rfl) (opG_lit (F := cS) (l := ([v86] : List Str)) ty_s_string ty_string rfl (fun _ => rfl) rfl rfl) .nil)))))))) rfl ?_
           obtain ⟨v88, h89, hr⟩ := bind_some hr
           refine wa tk h89 rfl rfl rfl rfl (fun _ => rfl) rfl rfl ?_
           refine rn tk 4 rfl ?_
           cases hr
           exact jn _ rfl rfl rfl
          ·
           refine rn tk 2 rfl ?_
           cases hr
           exact jn _ rfl rfl rfl
         ·
          refine rn tk 5 rfl ?_
          cases hr
          exact atc rfl rfl
        ·
         refine rn tk 2 rfl ?_
         cases hr
         exact ato rfl rfl rfl rfl
       ·
        refine rn tk 2 rfl ?_
        refine jb hr (fun j90 => [(4, .bo j90)]) (fun j90 => []) (fun j90 hr => ?_) (fun j90 hr => ?_)
        ·
         refine rn tk 1 rfl ?_
         obtain ⟨v91, h92, hr⟩ := bind_some hr
         refine cl (L_posts_run _ h92) rfl rfl ?_
         refine rn tk 1 rfl ?_
         refine bs 116 hr rfl (fun c93 hr => ?_) (fun c93 hr => ?_)
         ·
          refine rn tk 2 rfl ?_
          refine ug rfl rfl rfl ?_
          refine wq (ev_structeq rfl rfl ty_api_Fault cmp_api_Fault (.int rfl (by decide) ty_int (.int rfl (by decide) ty_int .nil))) rfl rfl rfl ?_
          refine rn tk 2 rfl ?_
          refine bs 121 hr rfl (fun c94 hr => ?_) (fun c94 hr => ?_)
          ·
           refine rn tk 2 rfl ?_
           refine ug rfl rfl rfl ?_
           refine wq (ev_structeq rfl rfl ty_api_Fault cmp_api_Fault (.int rfl (by decide) ty_int (.int rfl (by decide) ty_int .nil))) rfl rfl rfl ?_
           refine rn tk 2 rfl ?_
           refine bs 126 hr rfl (fun c95 hr => ?_) (fun c95 hr => ?_)
           ·
            refine rn tk 2 rfl ?_
            refine awpl_pubA (d' := 128) (j := 3) (F := cS) (l := (([] : List Str))) rfl rfl rfl (hO ?_)
            obtain ⟨v96, h97, hr⟩ := bind_some hr
            refine ug rfl rfl rfl ?_
            refine cl (R_SameList_run _ _ _ h97) rfl rfl ?_
            refine rn tk 2 rfl ?_
            refine bs 131 hr rfl (fun c98 hr => ?_) (fun c98 hr => ?_)
            ·
             refine rn tk 2 rfl ?_
             refine awpl_pubA (d' := 133) (j := 3) (F := cS) (l := b79) rfl rfl rfl (hO ?_)
             obtain ⟨v99, h100, hr⟩ := bind_some hr
             refine ug rfl rfl rfl ?_
             refine cl (R_SameList_run _ _ _ h100) rfl rfl ?_
             refine rn tk 3 rfl ?_
             cases hr
             exact jn _ rfl rfl rfl
            ·
             refine rn tk 6 rfl ?_
             cases hr
             exact jn _ rfl rfl rfl
           ·
            refine rn tk 11 rfl ?_
            cases hr
            exact jn _ rfl rfl rfl
          ·
           refine rn tk 16 rfl ?_
           cases hr
           exact jn _ rfl rfl rfl
         ·
          refine rn tk 21 rfl ?_
          cases hr
          exact jn _ rfl rfl rfl
        ·
         refine rn tk 1 rfl ?_
         cases hr
         exact kr tk (.inr rfl) rfl rfl
      ·
       refine rn tk 2 rfl ?_
       refine jb hr (fun j101 => [(4, .bo j101)]) (fun j101 => []) (fun j101 hr => ?_) (fun j101 hr => ?_)
       ·
        refine rn tk 1 rfl ?_
        obtain ⟨v102, h103, hr⟩ := bind_some hr
        refine cl (L_posts_run _ h103) rfl rfl ?_
        refine rn tk 1 rfl ?_
        refine bs 116 hr rfl (fun c104 hr => ?_) (fun c104 hr => ?_)
        ·
         refine rn tk 2 rfl ?_
         refine ug rfl rfl rfl ?_
         refine wq (ev_structeq rfl rfl ty_api_Fault cmp_api_Fault (.int rfl (by decide) ty_int (.int rfl (by decide) ty_int .nil))) rfl rfl rfl ?_
         refine rn tk 2 rfl ?_
         refine bs 121 hr rfl (fun c105 hr => ?_) (fun c105 hr => ?_)
         ·
          refine rn tk 2 rfl ?_
          refine ug rfl rfl rfl ?_
          refine wq (ev_structeq rfl rfl ty_api_Fault cmp_api_Fault (.int rfl (by decide) ty_int (.int rfl (by decide) ty_int .nil))) rfl rfl rfl ?_
          refine rn tk 2 rfl ?_
          refine bs 126 hr rfl (fun c106 hr => ?_) (fun c106 hr => ?_)
          ·
           refine rn tk 2 rfl ?_
           refine awpl_pubA (d' := 128) (j := 3) (F := cS) (l := (([] : List Str))) rfl rfl rfl (hO ?_)
           obtain ⟨v107, h108, hr⟩ := bind_some hr
           refine ug rfl rfl rfl ?_
           refine cl (R_SameList_run _ _ _ h108) rfl rfl ?_
           refine rn tk 2 rfl ?_
           refine bs 131 hr rfl (fun c109 hr => ?_) (fun c109 hr => ?_)
           ·
            refine rn tk 2 rfl ?_
            refine awpl_pubA (d' := 133) (j := 3) (F := cS) (l := (([] : List Str))) rfl rfl rfl (hO ?_)
            obtain ⟨v110, h111, hr⟩ := bind_some hr
            refine ug rfl rfl rfl ?_
            refine cl (R_SameList_run _ _ _ h111) rfl rfl ?_
            refine rn tk 3 rfl ?_
            cases hr
            exact jn _ rfl rfl rfl
           ·
            refine rn tk 6 rfl ?_
            cases hr
            exact jn _ rfl rfl rfl
          ·
           refine rn tk 11 rfl ?_
           cases hr
           exact jn _ rfl rfl rfl
         ·
          refine rn tk 16 rfl ?_
          cases hr
          exact jn _ rfl rfl rfl
        ·
         refine rn tk 21 rfl ?_
         cases hr
         exact jn _ rfl rfl rfl
       ·
        refine rn tk 1 rfl ?_
        cases hr
        exact kr tk (.inr rfl) rfl rfl
end Go.Proofs.YtkoijpogjobgjaaGreat

namespace Go.Proofs.YtkoijpogjobgjaaGreat.listsMembersMatchSpec
open Go.ChangeShapes Go.WideShapes Go.ChangeAt Go.RowKit
set_option linter.unusedVariables false
set_option maxRecDepth 100000

theorem contract (H : Type) (enc : TypeId × Value → H) (W : World) (base : Nat) (args : Array Value) (ds gs : List (DataW H)) (before : List MemPlace)
    (hval : ∀ (j : Nat) t v, Tryz.f5.params[j]? = some t → args[j]? = some v → Value.okWide Tryz.prog W .any base t v)
    (hW : DataW.Whole enc Tryz.prog Tryz.f5.params.toList Rows.listsMembersMatchSpecSpec.vars false W args.toList ds gs before) (hk : Rows.uptoSmall H (ds ++ gs) = true) (hgl : Gl (gAll W)) :
    Calls Tryz.prog 5 args W fun e W' => ∃ v, e = .returned v ∧ Rows.listsMembersMatchSpecSpec.post enc Tryz.prog Tryz.f5 false true false false W args v W' := by
  have hW' := hW
  obtain ⟨p, q, hA0, hV, rfl, hfz, hnd⟩ := hW
  have hA : DataW.TrodAll enc Tryz.prog W 0 (fun _ => true) true Tryz.f5.params.toList args.toList ds p := hA0
  rw [Tryz.params5] at hA hval
  obtain ⟨v0, vs0, d0, ds0, p0, q0, hargs, rfl, rfl, h0, r0⟩ := trodAll_cons hA
  obtain ⟨v1, vs1, d1, ds1, p1, q1, rfl, rfl, rfl, h1, r1⟩ := trodAll_cons r0
  obtain ⟨rfl, rfl, rfl⟩ := trodAll_nil r1
  obtain rfl : args = #[v0, v1] := by cases args; simp_all
  obtain ⟨rfl, rfl⟩ := trodVars_none hV
  obtain ⟨a0, e0, o0, k0⟩ := arg_agg op_api_List (by obtain ⟨cs, h, _⟩ := okWide_struct ty_api_List.u (hval 0 _ v0 rfl rfl); exact ⟨cs, h⟩) h0
  obtain ⟨a1, e1, o1, k1⟩ := arg_one op_string (by obtain ⟨_, h⟩ := okWide_string ty_string.u (hval 1 _ v1 rfl rfl); rw [h]; rfl) h1
  have hk2 := of_decide_eq_true hk
  simp only [List.append_nil, Rows.uptoBulkAll] at hk2
  have ht := L_ListsMembersMatchSpec_true a0 a1 o0 o1 (by (try dsimp only); omega)
  have key : Calls Tryz.prog 5 #[v0, v1] W fun e W' => e = .returned (.bool true) ∧ Below W.heap.size W W' := calls_of_run (L_ListsMembersMatchSpec_run a0 a1 true ht) hgl (relArgs_of (.cons e0 (.cons (e1 _ rfl) .nil)))
  refine key.mono fun e W' ⟨he, hb⟩ => ⟨_, he, ?_⟩
  exact post_true laidOut (by kernel_rfl) Tryz.underlying4 (by kernel_rfl) rfl rfl hW' hb

theorem lifted (os : Os) (started : os.Started) (H : Type) (enc : TypeId × Value → H) (F : Stop.Interp) :
    ReturnsInHanded {} Tryz.checked os 5 .any ((Rows.OpenSpec.upto Rows.listsMembersMatchSpecSpec).pre6 enc Tryz.prog Tryz.f5 Rows.listsMembersMatchSpecUptoRow.domain false) (((Rows.OpenSpec.upto Rows.listsMembersMatchSpecSpec).at F).post enc Tryz.prog Tryz.f5 false true false false) := by
  refine returnsInHanded_of_cond_shaped (C := Tryz.checked) (s := Rows.OpenSpec.upto Rows.listsMembersMatchSpecSpec) (k := Rows.uptoSmall) rfl own started (by kernel_rfl) Tryz.func5
    (OpenSpec.witness (enc := enc) (C := Tryz.checked) (s := Rows.OpenSpec.upto Rows.listsMembersMatchSpecSpec) (k := Rows.uptoSmall) rfl false ⟨#[], #[.agg #[.string ⟨#[]⟩, .string ⟨#[]⟩, .bool false, .slice none 0 0, .slice none 0 0, .slice none 0 0, .int .i64 0], .string ⟨#[]⟩], []⟩ 8 (by kernel_rfl) (by kernel_rfl) (by kernel_rfl)
      (x := ([.agg [.lit (.string []), .lit (.string []), .lit (.bool false), .nil, .nil, .nil, .lit (.int .i64 0)], .lit (.string [])], [], [])) (by kernel_rfl) rfl (by kernel_rfl)) ?_
  intro W base args ds gs before hval hW _ hk hsh _
  exact contract H enc W base args ds gs before hval hW hk (gl_of_shaped hsh)

theorem over : Rows.listsMembersMatchSpecUptoRow.holds Tryz.pinned (Rows.OpenSpec.upto Rows.listsMembersMatchSpecSpec) :=
  OpenClaim.holds_of_cond 5 Tryz.f5 rfl rfl rfl rfl rfl rfl rfl ⟨rfl, rfl, rfl, rfl, rfl⟩ rfl rfl rfl rfl rfl (by kernel_rfl) Tryz.func5 (by kernel_rfl)
    (of_decide_eq_true (by kernel_rfl)) (by unfold Func.isWrapper; first | (rw [if_pos (by decide +kernel)]; kernel_rfl) | (rw [if_neg (by decide +kernel)]; exact ⟨rfl, rfl⟩))
    (fun os started H enc _ F => lifted os started H enc F)

theorem proved : Rows.ListsMembersMatchSpecUptoSaid := over
#print axioms proved
end Go.Proofs.YtkoijpogjobgjaaGreat.listsMembersMatchSpec
