/- The law ForwardTreeMatchesSpec holds for every input of bulk up to the given bound: it returns true and leaves its arguments as they were. Written by program. -/
import Derived.Test.YtfhfjckjmacekaaGreatKForwardTreeMatchesSpec3
set_option linter.unusedVariables false
set_option linter.unusedSimpArgs false
namespace Go.Proofs.YtfhfjckjmacekaaGreat
open Go.RowKit
set_option maxRecDepth 100000
set_option maxHeartbeats 40000000
set_option linter.unusedVariables false
theorem R_Reached_run (a0 : List TAlias) (a1 : List Str) (r : List Str) (hr : R_Reached a0 a1 = some r) : Run Tryz.prog 31 [.l TAlias.pc a0, .l cS a1] (.l cS r) := by
  unfold R_Reached at hr
  refine run_of_awp (fn := Tryz.f31) ⟨Tryz.func31, rfl, by kernel_rfl⟩ rfl (fun _ => rfl) fun g0 hg => ?_
  refine awp_seq ?_
  refine awp_region ?_
  refine awpl_op rfl (opTo_q (d := 4) rfl rfl ev_assign) ?_
  refine awpl_nil ?_
  refine kthen_normal ?_
  refine awp_seq ?_
  refine awp_region ?_
  refine awpl_op rfl (opTo_q (d := 5) rfl rfl ev_assign) ?_
  refine awpl_adopt 1005 (d := 5) 9 1 rfl rfl rfl ?_
  refine awpl_nil ?_
  refine kthen_normal ?_
  refine awp_seq ?_
  refine awp_seq ?_
  refine awp_region ?_
  refine awpl_op rfl (opTo_q (d := 6) rfl rfl ev_assign) ?_
  refine awpl_nil ?_
  refine kthen_normal ?_
  refine awp_block ?_
  obtain ⟨b2, hl, hr⟩ := bind_some hr
  refine awp_loop (R_Reached_l1 a1) (fun s1 => [(0, .l TAlias.pc a0), (1, .l cS a1), (5, .hs 1005 0), (6, .i s1.1)]) (fun s1 => [(1005, .row 9 false 1 (List.map cS s1.2))]) (fun b2 => At (.exit 0) [(0, .l TAlias.pc a0), (5, .hs 1005 0)] [(1005, .row 9 false 1 (List.map cS b2))]) ?_ ((0, ([] : List Str))) hl (frLe_cons rfl (frLe_cons rfl (frLe_cons rfl (frLe_cons rfl frLe_nil)))) (stoLe_cons rfl stoLe_nil) ?_
  · intro s1 x3 hr
    unfold R_Reached_l1 at hr
    refine awp_seq ?_
    refine awp_seq ?_
    refine awp_region ?_
    refine awpl_op rfl (opTo_q (d := 11) rfl rfl ev_move) ?_
    refine awpl_op rfl (opTo_q (d := 12) rfl rfl ev_move) ?_
    refine awpl_op rfl (opTo_q (d := 13) rfl rfl (ev_llen (f := cS) rfl ty_s_string.u)) ?_
    refine awpl_op rfl (opTo_q (d := 14) rfl rfl (ev_lss rfl rfl)) ?_
    refine awpl_nil ?_
    refine kthen_normal ?_
    refine awp_cond rfl (fun c4 => ?_) (fun c4 => ?_)
    · replace hr := cond_t c4 hr
      refine awp_skip ?_
      refine kthen_normal ?_
      obtain ⟨j5, hx, hy⟩ := bind_some hr
      refine awp_join (fun j5 => [(0, .l TAlias.pc a0), (1, .l cS a1), (5, .hs 1005 0), (6, .i s1.1)]) (fun j5 => [(1005, .row 9 false 1 (List.map cS j5))]) (fun z => j5 = z) ?_ ?_
      · have hr := hx
        clear hx hy
        refine awp_block ?_
        refine awp_seq ?_
        refine awp_region ?_
        refine awpl_op rfl (opTo_q (d := 17) rfl rfl ev_move) ?_
        refine awpl_op rfl (opTo_q (d := 18) rfl rfl ev_move) ?_
        refine awpl_op rfl (opTo_q (d := 19) rfl rfl ev_move) ?_
        obtain ⟨v6, h7, hr⟩ := bind_some hr
        refine awpl_op rfl (opTo_q (d := 20) rfl rfl (ev_idx (f := cS) rfl rfl ty_s_string ty_string rfl h7)) ?_
        refine awpl_op rfl (opTo_q (d := 21) rfl rfl (ev_load_ep rfl ty_string rfl rfl)) ?_
        refine awpl_pub (d := 17) (F := cS) (l := s1.2) rfl rfl ?_
        obtain ⟨v8, h9, hr⟩ := bind_some hr
        refine awpl_op rfl (opTo_call (k := 22) (R_Has_run s1.2 v6 v8 h9) rfl rfl) ?_
        refine awpl_op rfl (opTo_q (d := 23) rfl rfl (ev_not rfl)) ?_
        refine awpl_nil ?_
        refine kthen_normal ?_
        refine awp_cond rfl (fun c10 => ?_) (fun c10 => ?_)
        · replace hr := cond_t c10 hr
          refine awp_region ?_
          refine awpl_op rfl (opTo_q (d := 24) rfl rfl ev_move) ?_
          refine awpl_op rfl (opTo_q (d := 25) rfl rfl ev_move) ?_
          refine awpl_op rfl (opTo_q (d := 26) rfl rfl ev_move) ?_
          obtain ⟨v11, h12, hr⟩ := bind_some hr
          refine awpl_op rfl (opTo_q (d := 27) rfl rfl (ev_idx (f := cS) rfl rfl ty_s_string ty_string rfl h12)) ?_
          refine awpl_op rfl (opTo_q (d := 28) rfl rfl (ev_load_ep rfl ty_string rfl rfl)) ?_
          refine awpl_op rfl (opTo_g (d := 29) rfl rfl (opG_lit (F := cS) (l := ([v11] : List Str)) ty_s_string ty_string rfl (fun _ => rfl) rfl rfl)) ?_
          obtain ⟨v13, h14, hr⟩ := bind_some hr
          refine awpl_op rfl (opTo_append (k := 30) (F := cS) (l := s1.2) (xs := (([v11] : List Str))) (lim := 8796093022208) rfl rfl rfl rfl ty_s_string ty_string rfl rfl (fun _ => rfl) rfl h14) ?_
          refine awpl_op rfl (opTo_q (d := 5) rfl rfl ev_assign) ?_
          refine awpl_nil ?_
          refine kblock_normal ?_
          cases hr
          exact joinK_normal _ rfl (frLe_cons rfl (frLe_cons rfl (frLe_cons rfl (frLe_cons rfl frLe_nil)))) (stoLe_cons rfl stoLe_nil)
        · replace hr := cond_f c10 hr
          refine awp_skip ?_
          refine kblock_normal ?_
          cases hr
          exact joinK_normal _ rfl (frLe_cons rfl (frLe_cons rfl (frLe_cons rfl (frLe_cons rfl frLe_nil)))) (stoLe_cons rfl stoLe_nil)
      · rintro _ rfl
        have hr := hy
        clear hx hy
        refine awp_region ?_
        refine awpl_op rfl (opTo_q (d := 15) rfl rfl ev_move) ?_
        refine awpl_op rfl (opTo_q (d := 16) rfl rfl (ev_add rfl rfl)) ?_
        refine awpl_op rfl (opTo_q (d := 6) rfl rfl ev_assign) ?_
        refine awpl_nil ?_
        cases hr
        exact ⟨rfl, (frLe_cons rfl (frLe_cons rfl (frLe_cons rfl (frLe_cons rfl frLe_nil)))), (stoLe_cons rfl stoLe_nil)⟩
    · replace hr := cond_f c4 hr
      refine awp_exit ?_
      refine kthen_exit ?_
      cases hr
      exact ⟨by simp, rfl, (frLe_cons rfl (frLe_cons rfl frLe_nil)), (stoLe_cons rfl stoLe_nil)⟩
  · intro e fr2 st2 hq
    obtain ⟨rfl, hf, hs⟩ := hq
    refine kblock_exit ?_
    refine kthen_normal ?_
    refine awp_le hf hs ?_
    refine awp_seq ?_
    refine awp_seq ?_
    refine awp_region ?_
    refine awpl_op rfl (opTo_q (d := 7) rfl rfl ev_assign) ?_
    refine awpl_nil ?_
    refine kthen_normal ?_
    refine awp_block ?_
    obtain ⟨b16, hl, hr⟩ := bind_some hr
    refine awp_loop (R_Reached_l2 a0) (fun s15 => [(0, .l TAlias.pc a0), (5, .hs 1005 0), (7, .i s15.1)]) (fun s15 => [(1005, .row 9 false 1 (List.map cS s15.2))]) (fun b16 => At (.exit 2) [(5, .hs 1005 0)] [(1005, .row 9 false 1 (List.map cS b16))]) ?_ ((0, b2)) hl (frLe_cons rfl (frLe_cons rfl (frLe_cons rfl frLe_nil))) (stoLe_cons rfl stoLe_nil) ?_
    · intro s15 x17 hr
      unfold R_Reached_l2 at hr
      refine awp_seq ?_
      refine awp_seq ?_
      refine awp_region ?_
      refine awpl_op rfl (opTo_q (d := 31) rfl rfl ev_move) ?_
      refine awpl_op rfl (opTo_q (d := 32) rfl rfl ev_move) ?_
      refine awpl_op rfl (opTo_q (d := 33) rfl rfl (ev_hlen (F := cS) rfl rfl ty_s_string.u)) ?_
      refine awpl_op rfl (opTo_q (d := 34) rfl rfl (ev_lss rfl rfl)) ?_
      refine awpl_nil ?_
      refine kthen_normal ?_
      refine awp_cond rfl (fun c18 => ?_) (fun c18 => ?_)
      · replace hr := cond_t c18 hr
        refine awp_skip ?_
        refine kthen_normal ?_
        refine awp_seq ?_
        refine awp_block ?_
        refine awp_seq ?_
        refine awp_region ?_
        refine awpl_op rfl (opTo_q (d := 38) rfl rfl ev_move) ?_
        refine awpl_op rfl (opTo_q (d := 39) rfl rfl ev_move) ?_
        refine awpl_op rfl (opTo_q (d := 40) rfl rfl ev_move) ?_
        refine awpl_pub (d := 39) (F := cS) (l := s15.2) rfl rfl ?_
        obtain ⟨v19, h20, hr⟩ := bind_some hr
        refine awpl_op rfl (opTo_q (d := 41) rfl rfl (ev_idx (f := cS) rfl rfl ty_s_string ty_string rfl h20)) ?_
        refine awpl_op rfl (opTo_q (d := 42) rfl rfl (ev_load_ep rfl ty_string rfl rfl)) ?_
        obtain ⟨v21, h22, hr⟩ := bind_some hr
        refine awpl_op rfl (opTo_call (k := 43) (R_targets_run a0 v19 v21 h22) rfl rfl) ?_
        refine awpl_op rfl (opTo_q (d := 37) rfl rfl ev_move) ?_
        refine awpl_op rfl (opTo_q (d := 44) rfl rfl (ev_extract rfl rfl)) ?_
        refine awpl_op rfl (opTo_q (d := 45) rfl rfl (ev_extract rfl rfl)) ?_
        refine awpl_op rfl (opTo_q (d := 8) rfl rfl ev_assign) ?_
        refine awpl_op rfl (opTo_q (d := 9) rfl rfl ev_assign) ?_
        refine awpl_nil ?_
        refine kthen_normal ?_
        refine awp_seq ?_
        refine awp_region ?_
        refine awpl_op rfl (opTo_q (d := 10) rfl rfl ev_assign) ?_
        refine awpl_nil ?_
        refine kthen_normal ?_
        refine awp_block ?_
        obtain ⟨b24, hl, hr⟩ := bind_some hr
        refine awp_loop (R_Reached_l3 v21) (fun s23 => [(0, .l TAlias.pc a0), (5, .hs 1005 0), (7, .i s15.1), (8, .l cS v21.1), (10, .i s23.1)]) (fun s23 => [(1005, .row 9 false 1 (List.map cS s23.2))]) (fun b24 => At (.exit 4) [(0, .l TAlias.pc a0), (5, .hs 1005 0), (7, .i s15.1)] [(1005, .row 9 false 1 (List.map cS b24))]) ?_ ((0, s15.2)) hl (frLe_cons rfl (frLe_cons rfl (frLe_cons rfl (frLe_cons rfl (frLe_cons rfl frLe_nil))))) (stoLe_cons rfl stoLe_nil) ?_
        · intro s23 x25 hr
          unfold R_Reached_l3 at hr
          refine awp_seq ?_
          refine awp_seq ?_
          refine awp_region ?_
          refine awpl_op rfl (opTo_q (d := 46) rfl rfl ev_move) ?_
          refine awpl_op rfl (opTo_q (d := 47) rfl rfl ev_move) ?_
          refine awpl_op rfl (opTo_q (d := 48) rfl rfl (ev_llen (f := cS) rfl ty_s_string.u)) ?_
          refine awpl_op rfl (opTo_q (d := 49) rfl rfl (ev_lss rfl rfl)) ?_
          refine awpl_nil ?_
          refine kthen_normal ?_
          refine awp_cond rfl (fun c26 => ?_) (fun c26 => ?_)
          · replace hr := cond_t c26 hr
            refine awp_skip ?_
            refine kthen_normal ?_
            obtain ⟨j27, hx, hy⟩ := bind_some hr
            refine awp_join (fun j27 => [(0, .l TAlias.pc a0), (5, .hs 1005 0), (7, .i s15.1), (8, .l cS v21.1), (10, .i s23.1)]) (fun j27 => [(1005, .row 9 false 1 (List.map cS j27))]) (fun z => j27 = z) ?_ ?_
            · have hr := hx
              clear hx hy
              refine awp_block ?_
              refine awp_seq ?_
              refine awp_region ?_
              refine awpl_op rfl (opTo_q (d := 52) rfl rfl ev_move) ?_
              refine awpl_op rfl (opTo_q (d := 53) rfl rfl ev_move) ?_
              refine awpl_op rfl (opTo_q (d := 54) rfl rfl ev_move) ?_
              obtain ⟨v28, h29, hr⟩ := bind_some hr
              refine awpl_op rfl (opTo_q (d := 55) rfl rfl (ev_idx (f := cS) rfl rfl ty_s_string ty_string rfl h29)) ?_
              refine awpl_op rfl (opTo_q (d := 56) rfl rfl (ev_load_ep rfl ty_string rfl rfl)) ?_
              refine awpl_pub (d := 52) (F := cS) (l := s23.2) rfl rfl ?_
              obtain ⟨v30, h31, hr⟩ := bind_some hr
              refine awpl_op rfl (opTo_call (k := 57) (R_Has_run s23.2 v28 v30 h31) rfl rfl) ?_
              refine awpl_op rfl (opTo_q (d := 58) rfl rfl (ev_not rfl)) ?_
              refine awpl_nil ?_
              refine kthen_normal ?_
              refine awp_cond rfl (fun c32 => ?_) (fun c32 => ?_)
              · replace hr := cond_t c32 hr
                refine awp_region ?_
                refine awpl_op rfl (opTo_q (d := 59) rfl rfl ev_move) ?_
                refine awpl_op rfl (opTo_q (d := 60) rfl rfl ev_move) ?_
                refine awpl_op rfl (opTo_q (d := 61) rfl rfl ev_move) ?_
                obtain ⟨v33, h34, hr⟩ := bind_some hr
                refine awpl_op rfl (opTo_q (d := 62) rfl rfl (ev_idx (f := cS) rfl rfl ty_s_string ty_string rfl h34)) ?_
                refine awpl_op rfl (opTo_q (d := 63) rfl rfl (ev_load_ep rfl ty_string rfl rfl)) ?_
                refine awpl_op rfl (opTo_g (d := 64) rfl rfl (opG_lit (F := cS) (l := ([v33] : List Str)) ty_s_string ty_string rfl (fun _ => rfl) rfl rfl)) ?_
                obtain ⟨v35, h36, hr⟩ := bind_some hr
                refine awpl_op rfl (opTo_append (k := 65) (F := cS) (l := s23.2) (xs := (([v33] : List Str))) (lim := 8796093022208) rfl rfl rfl rfl ty_s_string ty_string rfl rfl (fun _ => rfl) rfl h36) ?_
                refine awpl_op rfl (opTo_q (d := 5) rfl rfl ev_assign) ?_
                refine awpl_nil ?_
                refine kblock_normal ?_
                cases hr
                exact joinK_normal _ rfl (frLe_cons rfl (frLe_cons rfl (frLe_cons rfl (frLe_cons rfl (frLe_cons rfl frLe_nil))))) (stoLe_cons rfl stoLe_nil)
              · replace hr := cond_f c32 hr
                refine awp_skip ?_
                refine kblock_normal ?_
                cases hr
                exact joinK_normal _ rfl (frLe_cons rfl (frLe_cons rfl (frLe_cons rfl (frLe_cons rfl (frLe_cons rfl frLe_nil))))) (stoLe_cons rfl stoLe_nil)
            · rintro _ rfl
              have hr := hy
              clear hx hy
              refine awp_region ?_
              refine awpl_op rfl (opTo_q (d := 50) rfl rfl ev_move) ?_
              refine awpl_op rfl (opTo_q (d := 51) rfl rfl (ev_add rfl rfl)) ?_
              refine awpl_op rfl (opTo_q (d := 10) rfl rfl ev_assign) ?_
              refine awpl_nil ?_
              cases hr
              exact ⟨rfl, (frLe_cons rfl (frLe_cons rfl (frLe_cons rfl (frLe_cons rfl (frLe_cons rfl frLe_nil))))), (stoLe_cons rfl stoLe_nil)⟩
          · replace hr := cond_f c26 hr
            refine awp_exit ?_
            refine kthen_exit ?_
            cases hr
            exact ⟨by simp, rfl, (frLe_cons rfl (frLe_cons rfl (frLe_cons rfl frLe_nil))), (stoLe_cons rfl stoLe_nil)⟩
        · intro e fr2 st2 hq
          obtain ⟨rfl, hf, hs⟩ := hq
          refine kblock_exit ?_
          refine kblock_normal ?_
          refine kthen_normal ?_
          refine awp_le hf hs ?_
          refine awp_region ?_
          refine awpl_op rfl (opTo_q (d := 35) rfl rfl ev_move) ?_
          refine awpl_op rfl (opTo_q (d := 36) rfl rfl (ev_add rfl rfl)) ?_
          refine awpl_op rfl (opTo_q (d := 7) rfl rfl ev_assign) ?_
          refine awpl_nil ?_
          cases hr
          exact ⟨rfl, (frLe_cons rfl (frLe_cons rfl (frLe_cons rfl frLe_nil))), (stoLe_cons rfl stoLe_nil)⟩
      · replace hr := cond_f c18 hr
        refine awp_exit ?_
        refine kthen_exit ?_
        cases hr
        exact ⟨by simp, rfl, (frLe_cons rfl frLe_nil), (stoLe_cons rfl stoLe_nil)⟩
    · intro e fr2 st2 hq
      obtain ⟨rfl, hf, hs⟩ := hq
      refine kblock_exit ?_
      refine kthen_normal ?_
      refine awp_le hf hs ?_
      refine awp_seq ?_
      refine awp_region ?_
      refine awpl_op rfl (opTo_q (d := 66) rfl rfl ev_move) ?_
      refine awpl_op rfl (opTo_q (d := 4) rfl rfl ev_assign) ?_
      refine awpl_nil ?_
      refine kthen_normal ?_
      refine awp_pub (d := 4) (F := cS) (l := b16) rfl rfl ?_
      refine awp_ret ?_
      cases hr
      exact kret' rfl (.cons (res_tmp rfl) .nil) rfl
theorem R_RuleFor_run (a0 : List TForward) (a1 : Str) (r : Int) (hr : R_RuleFor a0 a1 = some r) : Run Tryz.prog 32 [.l TForward.pc a0, .s a1] (.i r) := by
 unfold R_RuleFor at hr
 refine rf (fn := Tryz.f32) ⟨Tryz.func32, rfl, by kernel_rfl⟩ rfl (fun _ => rfl) fun g0 hg => ?_
 refine rn tk 12 rfl ?_
 refine al2 hr (fun s1 => [(0, .l TForward.pc a0), (1, .s a1), (5, .i s1)]) (fun s1 => []) (.exit 0) (fun b2 => []) (fun b2 => []) .ret (fun b3 => [(4, .i b3)]) (fun b3 => []) rfl rfl (fun s1 x5 hr => ?_) (fun b2 hr => ?_) (fun b3 hr => ?_)
 ·
  unfold R_RuleFor_l1 at hr
  refine rn tk 5 rfl ?_
  refine wn tk rfl rfl rfl ?_
  refine rn tk 3 rfl ?_
  refine ac 9 hr rfl (fun c6 hr => ?_) (fun c6 hr => ?_)
  ·
   refine rn tk 8 rfl ?_
   obtain ⟨v7, h8, hr⟩ := bind_some hr
   refine wi tk h8 rfl rfl rfl rfl rfl ?_
   refine rn tk 6 rfl ?_
   refine ac 18 hr rfl (fun c9 hr => ?_) (fun c9 hr => ?_)
   ·
    refine rn tk 9 rfl ?_
    cases hr
    exact ato rfl rfl rfl rfl
   ·
    refine rn tk 8 rfl ?_
    cases hr
    exact atc rfl rfl
  ·
   refine rn tk 2 rfl ?_
   cases hr
   exact ato rfl rfl rfl rfl
 ·
  refine rn tk 8 rfl ?_
  cases hr
  exact kr tk (.inr rfl) rfl rfl
 ·
  refine rn tk 2 rfl ?_
  cases hr
  exact kr tk (.inr rfl) rfl rfl
theorem R_KeptAt_run (a0 : List TForward) (a1 : Str) (r : List Str) (hr : R_KeptAt a0 a1 = some r) : Run Tryz.prog 11 [.l TForward.pc a0, .s a1] (.l cS r) := by
 unfold R_KeptAt at hr
 refine rf (fn := Tryz.f11) ⟨Tryz.func11, rfl, by kernel_rfl⟩ rfl (fun _ => rfl) fun g0 hg => ?_
 refine rn tk 8 rfl ?_
 obtain ⟨v1, h2, hr⟩ := bind_some hr
 refine cl (R_asAliases_run _ _ h2) rfl rfl ?_
 refine rn tk 1 rfl ?_
 refine wz cS ([a1] : List Str) tk rfl rfl (fun _ => rfl) rfl rfl rfl ?_
 obtain ⟨v3, h4, hr⟩ := bind_some hr
 refine cl (R_Reached_run _ _ _ h4) rfl rfl ?_
 refine rn tk 6 rfl ?_
 refine awpl_adopt 1006 (d := 6) 9 1 rfl rfl rfl (hO ?_)
 refine rn tk 9 rfl ?_
 refine al1 hr (fun s5 => [(0, .l TForward.pc a0), (5, .l cS v3), (6, .hs 1006 0), (7, .i s5.1)]) (fun s5 => [(1006, .row 9 false 1 (List.map cS s5.2))]) (.exit 0) (fun b6 => [(6, .hs 1006 0)]) (fun b6 => [(1006, .row 9 false 1 (List.map cS b6))]) rfl rfl (fun s5 x7 hr => ?_) (fun b6 hr => ?_)
 ·
  unfold R_KeptAt_l1 at hr
  refine rn tk 5 rfl ?_
  refine wn tk rfl rfl rfl ?_
  refine rn tk 3 rfl ?_
  refine ac 17 hr rfl (fun c8 hr => ?_) (fun c8 hr => ?_)
  ·
   refine rn tk 2 rfl ?_
   refine jb hr (fun j9 => [(0, .l TForward.pc a0), (5, .l cS v3), (6, .hs 1006 0), (7, .i s5.1)]) (fun j9 => [(1006, .row 9 false 1 (List.map cS j9))]) (fun j9 hr => ?_) (fun j9 hr => ?_)
   ·
    refine rn tk 6 rfl ?_
    obtain ⟨v10, h11, hr⟩ := bind_some hr
    refine wi tk h11 rfl rfl rfl rfl rfl ?_
    refine rn tk 1 rfl ?_
    obtain ⟨v12, h13, hr⟩ := bind_some hr
    refine cl (R_RuleFor_run _ _ _ h13) rfl rfl ?_
    refine rn tk 3 rfl ?_
    refine jb hr (fun j14 => [(0, .l TForward.pc a0), (5, .l cS v3), (6, .hs 1006 0), (7, .i s5.1), (34, .bo j14)]) (fun j14 => [(1006, .row 9 false 1 (List.map cS s5.2))]) (fun j14 hr => ?_) (fun j14 hr => ?_)
    ·
     refine rn tk 4 rfl ?_
     refine bs 28 hr rfl (fun c15 hr => ?_) (fun c15 hr => ?_)
     ·
      refine rn tk 7 rfl ?_
      cases hr
      exact jn _ rfl rfl rfl
     ·
      refine rn tk 2 rfl ?_
      obtain ⟨v16, h17, hr⟩ := bind_some hr
      refine ug rfl rfl rfl ?_
      refine wi tk h17 rfl rfl rfl rfl rfl ?_
      refine rn tk 4 rfl ?_
      cases hr
      exact jn _ rfl rfl rfl
    ·
     refine ac 34 hr rfl (fun c18 hr => ?_) (fun c18 hr => ?_)
     ·
      refine rn tk 4 rfl ?_
      obtain ⟨v19, h20, hr⟩ := bind_some hr
      refine wi tk h20 rfl rfl rfl rfl rfl ?_
      refine rn tk 1 rfl ?_
      refine wz cS ([v19] : List Str) tk rfl rfl (fun _ => rfl) rfl rfl rfl ?_
      obtain ⟨v21, h22, hr⟩ := bind_some hr
      refine wa tk h22 rfl rfl rfl rfl (fun _ => rfl) rfl rfl ?_
      refine rn tk 3 rfl ?_
      cases hr
      exact jn _ rfl rfl rfl
     ·
      refine rn tk 2 rfl ?_
      cases hr
      exact jn _ rfl rfl rfl
   ·
    refine rn tk 5 rfl ?_
    cases hr
    exact atc rfl rfl
  ·
   refine rn tk 2 rfl ?_
   cases hr
   exact ato rfl rfl rfl rfl
 ·
  refine rn tk 8 rfl ?_
  refine awp_pub (d := 4) (F := cS) (l := b6) rfl rfl (hC ?_)
  refine rn tk 1 rfl ?_
  cases hr
  exact kr tk (.inr rfl) rfl rfl
theorem L_ForwardTreeMatchesSpec_run (a0 : List TForward) (a1 : Str) (r : Bool) (hr : L_ForwardTreeMatchesSpec a0 a1 = some r) : Run Tryz.prog 3 [.l TForward.pc a0, .s a1] (.bo r) := by
 unfold L_ForwardTreeMatchesSpec at hr
 refine rf (fn := Tryz.f3) ⟨Tryz.func3, rfl, by kernel_rfl⟩ rfl (fun _ => rfl) fun g0 hg => ?_
 refine rn tk 8 rfl ?_
 obtain ⟨v1, h2, hr⟩ := bind_some hr
 refine cl (R_ForwardsFault_run _ _ h2) rfl rfl ?_
 refine rn tk 8 rfl ?_
 obtain ⟨v3, h4, hr⟩ := bind_some hr
 refine cl (forward_Tree_run _ _ _ h4) rfl rfl ?_
 refine rn tk 9 rfl ?_
 refine jb hr (fun j5 => [(0, .l TForward.pc a0), (1, .s a1), (5, .ptr 5 0), (6, .l cS v3.1), (7, .ptr 7 0), (24, .bo j5)]) (fun j5 => [(7, .cells [.i v3.2.Code, .i v3.2.Index]), (5, .cells [.i v1.Code, .i v1.Index])]) (fun j5 hr => ?_) (fun j5 hr => ?_)
 ·
  obtain ⟨v6, h7, hr⟩ := bind_some hr
  refine bool_split ((!v6)) (fun c8 => ?_) (fun c8 => ?_)
  ·
   replace hr := cond_t c8 hr
   refine dr 6 [(22, .tup []), (21, .tup []), (20, .tup []), (19, .bo ((!v6))), (18, .bo ((!v6))), (17, .bo v6)] mixed (by kernel_rfl) rfl rfl (.run (.plain rfl) (opG_call (L_forwards_run  v6 h7) rfl) (pq tk rfl (.plain rfl) (pq tk rfl (.plain rfl) (.skip (.no (d := 19) rfl rfl rfl c8) (.skip (.no (d := 19) rfl rfl rfl c8) (.skip (.no (d := 19) rfl rfl rfl c8) .nil)))))) rfl ?_
   refine kn 19 c8 rfl ?_
   refine rn tk 3 rfl ?_
   cases hr
   exact jn _ rfl rfl rfl
  ·
   replace hr := cond_f c8 hr
   obtain ⟨v9, h10, hr⟩ := bind_some hr
   refine dr 6 [(22, .agg [.i v1.Code, .i v1.Index]), (21, .agg [.i v9.Code, .i v9.Index]), (20, .l TForward.pc a0), (19, .bo ((!v6))), (18, .bo ((!v6))), (17, .bo v6)] mixed (by kernel_rfl) rfl rfl (.run (.plain rfl) (opG_call (L_forwards_run  v6 h7) rfl) (pq tk rfl (.plain rfl) (pq tk rfl (.plain rfl) (pq tk rfl (.yes (d := 19) rfl rfl rfl c8) (.run (.yes (d := 19) rfl rfl rfl c8) (opG_call (forward_Validate_run a0 v9 h10) rfl) (pq tk rfl (.yes (d := 19) rfl rfl rfl c8) .nil)))))) rfl ?_
   refine kn 19 c8 rfl ?_
   refine ug rfl rfl rfl ?_
   refine wq (ev_structne rfl rfl ty_api_Fault cmp_api_Fault (.int rfl (by decide) ty_int (.int rfl (by decide) ty_int .nil))) rfl rfl rfl ?_
   refine rn tk 2 rfl ?_
   cases hr
   exact jn _ rfl rfl rfl
 ·
  refine ac 24 hr rfl (fun c11 hr => ?_) (fun c11 hr => ?_)
  ·
   refine rn tk 7 rfl ?_
   cases hr
   exact kr tk (.inr rfl) rfl rfl
  ·
   refine rn tk 2 rfl ?_
   refine jb hr (fun j12 => [(0, .l TForward.pc a0), (1, .s a1), (5, .ptr 5 0), (6, .l cS v3.1), (7, .ptr 7 0)]) (fun j12 => [(7, .cells [.i v3.2.Code, .i v3.2.Index]), (5, .cells [.i j12.1, .i j12.2])]) (fun j12 hr => ?_) (fun j12 hr => ?_)
   ·
    refine jb hr (fun j13 => [(0, .l TForward.pc a0), (1, .s a1), (5, .ptr 5 0), (6, .l cS v3.1), (7, .ptr 7 0), (32, .bo j13)]) (fun j13 => [(7, .cells [.i v3.2.Code, .i v3.2.Index]), (5, .cells [.i v1.Code, .i v1.Index])]) (fun j13 hr => ?_) (fun j13 hr => ?_)
    ·
     refine rn tk 5 rfl ?_
     refine bs 28 hr rfl (fun c14 hr => ?_) (fun c14 hr => ?_)
     ·
      refine rn tk 1 rfl ?_
      obtain ⟨v15, h16, hr⟩ := bind_some hr
      refine ug rfl rfl rfl ?_
      refine cl (R_AddressOk_run _ _ h16) rfl rfl ?_
      refine rn tk 3 rfl ?_
      cases hr
      exact jn _ rfl rfl rfl
     ·
      refine rn tk 5 rfl ?_
      cases hr
      exact jn _ rfl rfl rfl
    ·
     refine ac 32 hr rfl (fun c17 hr => ?_) (fun c17 hr => ?_)
     ·
      refine rn tk 1 rfl ?_
      obtain ⟨v18, h19, hr⟩ := bind_some hr
      refine cl (R_At_run _ _ _ h19) rfl rfl ?_
      refine rn tk 2 rfl ?_
      cases hr
      exact jn _ rfl rfl rfl
     ·
      refine rn tk 1 rfl ?_
      cases hr
      exact jn _ rfl rfl rfl
   ·
    refine rn tk 5 rfl ?_
    refine jb hr (fun j20 => [(5, .ptr 5 0), (6, .l cS v3.1), (7, .ptr 7 0), (8, .l cS j20)]) (fun j20 => [(7, .cells [.i v3.2.Code, .i v3.2.Index]), (5, .cells [.i j12.1, .i j12.2])]) (fun j20 hr => ?_) (fun j20 hr => ?_)
    ·
     refine rn tk 7 rfl ?_
     refine ac 36 hr rfl (fun c21 hr => ?_) (fun c21 hr => ?_)
     ·
      refine rn tk 3 rfl ?_
      obtain ⟨v22, h23, hr⟩ := bind_some hr
      refine cl (R_KeptAt_run _ _ _ h23) rfl rfl ?_
      refine rn tk 2 rfl ?_
      cases hr
      exact jn _ rfl rfl rfl
     ·
      refine rn tk 1 rfl ?_
      cases hr
      exact jn _ rfl rfl rfl
    ·
     refine jb hr (fun j24 => [(4, .bo j24)]) (fun j24 => []) (fun j24 hr => ?_) (fun j24 hr => ?_)
     ·
      refine rn tk 3 rfl ?_
      refine wq (ev_structeq rfl rfl ty_api_Fault cmp_api_Fault (.int rfl (by decide) ty_int (.int rfl (by decide) ty_int .nil))) rfl rfl rfl ?_
      refine rn tk 1 rfl ?_
      refine bs 43 hr rfl (fun c25 hr => ?_) (fun c25 hr => ?_)
      ·
       refine rn tk 2 rfl ?_
       obtain ⟨v26, h27, hr⟩ := bind_some hr
       refine ug rfl rfl rfl ?_
       refine cl (R_Strings_run _ _ _ h27) rfl rfl ?_
       refine rn tk 3 rfl ?_
       cases hr
       exact jn _ rfl rfl rfl
      ·
       refine rn tk 6 rfl ?_
       cases hr
       exact jn _ rfl rfl rfl
     ·
      refine rn tk 1 rfl ?_
      cases hr
      exact kr tk (.inr rfl) rfl rfl
end Go.Proofs.YtfhfjckjmacekaaGreat

namespace Go.Proofs.YtfhfjckjmacekaaGreat.forwardTreeMatchesSpec
open Go.ChangeShapes Go.WideShapes Go.ChangeAt Go.RowKit
set_option linter.unusedVariables false
set_option maxRecDepth 100000

theorem contract (H : Type) (enc : TypeId × Value → H) (W : World) (base : Nat) (args : Array Value) (ds gs : List (DataW H)) (before : List MemPlace)
    (hval : ∀ (j : Nat) t v, Tryz.f3.params[j]? = some t → args[j]? = some v → Value.okWide Tryz.prog W .any base t v)
    (hW : DataW.Whole enc Tryz.prog Tryz.f3.params.toList Rows.forwardTreeMatchesSpecSpec.vars false W args.toList ds gs before) (hk : Rows.uptoSmall H (ds ++ gs) = true) (hgl : Gl (gAll W)) :
    Calls Tryz.prog 3 args W fun e W' => ∃ v, e = .returned v ∧ Rows.forwardTreeMatchesSpecSpec.post enc Tryz.prog Tryz.f3 false true false false W args v W' := by
  have hW' := hW
  obtain ⟨p, q, hA0, hV, rfl, hfz, hnd⟩ := hW
  have hA : DataW.TrodAll enc Tryz.prog W 0 (fun _ => true) true Tryz.f3.params.toList args.toList ds p := hA0
  rw [Tryz.params3] at hA hval
  obtain ⟨v0, vs0, d0, ds0, p0, q0, hargs, rfl, rfl, h0, r0⟩ := trodAll_cons hA
  obtain ⟨v1, vs1, d1, ds1, p1, q1, rfl, rfl, rfl, h1, r1⟩ := trodAll_cons r0
  obtain ⟨rfl, rfl, rfl⟩ := trodAll_nil r1
  obtain rfl : args = #[v0, v1] := by cases args; simp_all
  obtain ⟨rfl, rfl⟩ := trodVars_none hV
  obtain ⟨a0, e0, o0, k0⟩ := arg_one op_s_api_Forward (by obtain ⟨_, _, _, h⟩ := okWide_slice ty_s_api_Forward.u (hval 0 _ v0 rfl rfl); rw [h]; rfl) h0
  obtain ⟨a1, e1, o1, k1⟩ := arg_one op_string (by obtain ⟨_, h⟩ := okWide_string ty_string.u (hval 1 _ v1 rfl rfl); rw [h]; rfl) h1
  have hk2 := of_decide_eq_true hk
  simp only [List.append_nil, Rows.uptoBulkAll] at hk2
  have ht := L_ForwardTreeMatchesSpec_true a0 a1 o0 o1 (by (try dsimp only); omega)
  have key : Calls Tryz.prog 3 #[v0, v1] W fun e W' => e = .returned (.bool true) ∧ Below W.heap.size W W' := calls_of_run (L_ForwardTreeMatchesSpec_run a0 a1 true ht) hgl (relArgs_of (.cons (e0 _ rfl) (.cons (e1 _ rfl) .nil)))
  refine key.mono fun e W' ⟨he, hb⟩ => ⟨_, he, ?_⟩
  exact post_true laidOut (by kernel_rfl) Tryz.underlying4 (by kernel_rfl) rfl rfl hW' hb

theorem lifted (os : Os) (started : os.Started) (H : Type) (enc : TypeId × Value → H) (F : Stop.Interp) :
    ReturnsInHanded {} Tryz.checked os 3 .any ((Rows.OpenSpec.upto Rows.forwardTreeMatchesSpecSpec).pre6 enc Tryz.prog Tryz.f3 Rows.forwardTreeMatchesSpecUptoRow.domain false) (((Rows.OpenSpec.upto Rows.forwardTreeMatchesSpecSpec).at F).post enc Tryz.prog Tryz.f3 false true false false) := by
  refine returnsInHanded_of_cond_shaped (C := Tryz.checked) (s := Rows.OpenSpec.upto Rows.forwardTreeMatchesSpecSpec) (k := Rows.uptoSmall) rfl own started (by kernel_rfl) Tryz.func3
    (OpenSpec.witness (enc := enc) (C := Tryz.checked) (s := Rows.OpenSpec.upto Rows.forwardTreeMatchesSpecSpec) (k := Rows.uptoSmall) rfl false ⟨#[], #[.slice none 0 0, .string ⟨#[]⟩], []⟩ 8 (by kernel_rfl) (by kernel_rfl) (by kernel_rfl)
      (x := ([.nil, .lit (.string [])], [], [])) (by kernel_rfl) rfl (by kernel_rfl)) ?_
  intro W base args ds gs before hval hW _ hk hsh _
  exact contract H enc W base args ds gs before hval hW hk (gl_of_shaped hsh)

theorem over : Rows.forwardTreeMatchesSpecUptoRow.holds Tryz.pinned (Rows.OpenSpec.upto Rows.forwardTreeMatchesSpecSpec) :=
  OpenClaim.holds_of_cond 3 Tryz.f3 rfl rfl rfl rfl rfl rfl rfl ⟨rfl, rfl, rfl, rfl, rfl⟩ rfl rfl rfl rfl rfl (by kernel_rfl) Tryz.func3 (by kernel_rfl)
    (of_decide_eq_true (by kernel_rfl)) (by unfold Func.isWrapper; first | (rw [if_pos (by decide +kernel)]; kernel_rfl) | (rw [if_neg (by decide +kernel)]; exact ⟨rfl, rfl⟩))
    (fun os started H enc _ F => lifted os started H enc F)

theorem proved : Rows.ForwardTreeMatchesSpecUptoSaid := over
#print axioms proved
end Go.Proofs.YtfhfjckjmacekaaGreat.forwardTreeMatchesSpec
