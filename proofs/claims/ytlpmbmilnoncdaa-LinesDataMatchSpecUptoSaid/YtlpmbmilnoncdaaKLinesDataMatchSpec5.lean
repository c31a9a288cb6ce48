/- The law LinesDataMatchSpec holds for every input of bulk up to the given bound: it returns true and leaves its arguments as they were. Written by program. -/
import Derived.Test.YtlpmbmilnoncdaaKLinesDataMatchSpec4
import Derived.WalkKit
import Derived.WalkSpells
import Derived.WalkLawsBesides
import Derived.Deep.QuietTactic
import Derived.BigQuiet
import Derived.Lib.Hide
import Derived.Handy
import Derived.Deep.RegionHeld3
import Derived.Test.YtlpmbmilnoncdaaRows
import Derived.ProofKit
import Derived.OpenShut
import Derived.ShutString
import Derived.ChangeOld
import Derived.Below
import Derived.JoinedCond
import Derived.HandedShaped
import Derived.Shelf.Vars
/- A function of the program computes what its Lean function does. Written by program. -/
namespace Go.Proofs.Ytlpmbmilnoncdaa
open Go.RowKit
set_option maxRecDepth 100000
set_option maxHeartbeats 40000000
set_option linter.unusedVariables false
theorem R_Sent_run (a0 : List UInt8) (r : List UInt8) (hr : R_Sent a0 = some r) : Run Try.prog 26 [.l cU a0] (.l cU r) := by
  unfold R_Sent at hr
  refine run_of_awp (fn := Try.f26) ⟨Try.func26, rfl, by kernel_rfl⟩ rfl (fun _ => rfl) fun g0 hg => ?_
  refine awp_seq ?_
  refine awp_region ?_
  refine awpl_op rfl (opTo_q (d := 2) rfl rfl ev_assign) ?_
  refine awpl_adopt 1002 (d := 2) 5 1 rfl rfl rfl ?_
  refine awpl_nil ?_
  refine kthen_normal ?_
  refine awp_seq ?_
  refine awp_region ?_
  refine awpl_op rfl (opTo_q (d := 8) rfl rfl ev_move) ?_
  refine awpl_inl (fn := Try.f22) (args := [.l cU a0]) 100000 199999 [] (wanted_plain rfl) rfl ⟨Try.func22, rfl, by kernel_rfl⟩ rfl rfl .nil fun T1 ds1 hT1 => ?_
  refine awp_seq ?_
  refine awp_region ?_
  refine awpl_op rfl (opTo_q (d := 2) rfl rfl ev_assign) ?_
  refine awpl_op rfl (opTo_q (d := 3) rfl rfl ev_assign) ?_
  refine awpl_nil ?_
  refine kthen_normal ?_
  refine awp_seq ?_
  refine awp_region ?_
  refine awpl_op rfl (opTo_q (d := 4) rfl rfl ev_assign) ?_
  refine awpl_adopt 1004 (d := 4) 9 1 rfl rfl rfl ?_
  refine awpl_nil ?_
  refine kthen_normal ?_
  refine awp_seq ?_
  refine awp_region ?_
  refine awpl_op rfl (opTo_q (d := 5) rfl rfl ev_assign) ?_
  refine awpl_nil ?_
  refine kthen_normal ?_
  refine awp_seq ?_
  refine awp_seq ?_
  refine awp_region ?_
  refine awpl_op rfl (opTo_q (d := 6) rfl rfl ev_assign) ?_
  refine awpl_nil ?_
  refine kthen_normal ?_
  refine awp_block ?_
  obtain ⟨b2, hl, hr⟩ := bind_some hr
  refine awp_loop (R_Sent_l1 a0) (fun s1 => [(0, .l cU a0), (4, .hs 1004 0), (5, .i s1.1), (6, .i s1.2.1)]) (fun s1 => [(1004, .row 9 false 1 (List.map cS s1.2.2)), (199999, .sus g0.w.heap.size ds1)]) (fun b2 => At (.exit 0) [(0, .l cU a0), (4, .hs 1004 0), (5, .i b2.1)] [(1004, .row 9 false 1 (List.map cS b2.2)), (199999, .sus g0.w.heap.size ds1)]) ?_ ((0, 1, ([] : List Str))) hl (frLe_cons rfl (frLe_cons rfl (frLe_cons rfl (frLe_cons rfl frLe_nil)))) (stoLe_cons rfl (stoLe_cons rfl stoLe_nil)) ?_
  · intro s1 x3 hr
    unfold R_Sent_l1 at hr
    refine awp_seq ?_
    refine awp_seq ?_
    refine awp_region ?_
    refine awpl_op rfl (opTo_q (d := 7) rfl rfl ev_move) ?_
    refine awpl_op rfl (opTo_q (d := 8) rfl rfl ev_move) ?_
    refine awpl_op rfl (opTo_q (d := 9) rfl rfl (ev_llen (f := cU) rfl ty_s_uint8.u)) ?_
    refine awpl_op rfl (opTo_q (d := 10) rfl rfl (ev_lss rfl rfl)) ?_
    refine awpl_nil ?_
    refine kthen_normal ?_
    refine awp_cond rfl (fun c4 => ?_) (fun c4 => ?_)
    · replace hr := cond_t c4 hr
      refine awp_skip ?_
      refine kthen_normal ?_
      obtain ⟨j5, hx, hy⟩ := bind_some hr
      refine awp_join (fun j5 => [(0, .l cU a0), (4, .hs 1004 0), (5, .i j5.1), (6, .i s1.2.1)]) (fun j5 => [(1004, .row 9 false 1 (List.map cS j5.2)), (199999, .sus g0.w.heap.size ds1)]) (fun z => j5 = z) ?_ ?_
      · have hr := hx
        clear hx hy
        refine awp_block ?_
        obtain ⟨j6, hx, hy⟩ := bind_some hr
        refine awp_join (fun j6 => [(0, .l cU a0), (4, .hs 1004 0), (5, .i s1.1), (6, .i s1.2.1), (30, .bo j6)]) (fun j6 => [(1004, .row 9 false 1 (List.map cS s1.2.2)), (199999, .sus g0.w.heap.size ds1)]) (fun z => j6 = z) ?_ ?_
        · have hr := hx
          clear hx hy
          refine awp_region ?_
          refine awpl_op rfl (opTo_q (d := 13) rfl rfl ev_move) ?_
          refine awpl_op rfl (opTo_q (d := 14) rfl rfl ev_move) ?_
          obtain ⟨v7, h8, hr⟩ := bind_some hr
          refine awpl_op rfl (opTo_q (d := 15) rfl rfl (ev_idx (f := cU) rfl rfl ty_s_uint8 ty_uint8 rfl h8)) ?_
          refine awpl_op rfl (opTo_q (d := 16) rfl rfl (ev_load_ep rfl ty_uint8 rfl rfl)) ?_
          refine awpl_op rfl (opTo_q (d := 17) rfl rfl (ev_eql rfl rfl)) ?_
          refine awpl_op rfl (opTo_q (d := 18) rfl rfl ev_move) ?_
          refine bool_split (((v7.toNat : Int) == 10)) (fun c9 => ?_) (fun c9 => ?_)
          · replace hr := cond_t c9 hr
            refine awpl_yes (d := 18) rfl rfl rfl c9 (opTo_q (d := 19) rfl rfl ev_move) ?_
            refine awpl_yes (d := 18) rfl rfl rfl c9 (opTo_q (d := 20) rfl rfl ev_move) ?_
            refine awpl_yes (d := 18) rfl rfl rfl c9 (opTo_q (d := 21) rfl rfl (ev_sub rfl rfl)) ?_
            obtain ⟨v10, h11, hr⟩ := bind_some hr
            refine awpl_yes (d := 18) rfl rfl rfl c9 (opTo_q (d := 22) rfl rfl (ev_idx (f := cU) rfl rfl ty_s_uint8 ty_uint8 rfl h11)) ?_
            refine awpl_yes (d := 18) rfl rfl rfl c9 (opTo_q (d := 23) rfl rfl (ev_load_ep rfl ty_uint8 rfl rfl)) ?_
            refine awpl_yes (d := 18) rfl rfl rfl c9 (opTo_q (d := 24) rfl rfl (ev_eql rfl rfl)) ?_
            refine awpl_op rfl (opTo_q (d := 25) rfl rfl (ev_pick_t rfl c9)) ?_
            refine awpl_op rfl (opTo_q (d := 26) rfl rfl ev_move) ?_
            refine bool_split (((v10.toNat : Int) == 13)) (fun c12 => ?_) (fun c12 => ?_)
            · replace hr := cond_t c12 hr
              refine awpl_yes (d := 26) rfl rfl rfl c12 (opTo_q (d := 27) rfl rfl ev_move) ?_
              refine awpl_yes (d := 26) rfl rfl rfl c12 (opTo_q (d := 28) rfl rfl ev_move) ?_
              refine awpl_yes (d := 26) rfl rfl rfl c12 (opTo_q (d := 29) rfl rfl (ev_gtr rfl rfl)) ?_
              refine awpl_op rfl (opTo_q (d := 30) rfl rfl (ev_pick_t rfl c12)) ?_
              refine awpl_nil ?_
              cases hr
              exact joinK_normal _ rfl (frLe_cons rfl (frLe_cons rfl (frLe_cons rfl (frLe_cons rfl (frLe_cons rfl frLe_nil))))) (stoLe_cons rfl (stoLe_cons rfl stoLe_nil))
            · replace hr := cond_f c12 hr
              refine awpl_no (d := 26) rfl rfl rfl c12 ?_
              refine awpl_no (d := 26) rfl rfl rfl c12 ?_
              refine awpl_no (d := 26) rfl rfl rfl c12 ?_
              refine awpl_op rfl (opTo_q (d := 30) rfl rfl (ev_pick_f rfl c12)) ?_
              refine awpl_nil ?_
              cases hr
              exact joinK_normal _ rfl (frLe_cons rfl (frLe_cons rfl (frLe_cons rfl (frLe_cons rfl (frLe_cons rfl frLe_nil))))) (stoLe_cons rfl (stoLe_cons rfl stoLe_nil))
          · replace hr := cond_f c9 hr
            refine awpl_no (d := 18) rfl rfl rfl c9 ?_
            refine awpl_no (d := 18) rfl rfl rfl c9 ?_
            refine awpl_no (d := 18) rfl rfl rfl c9 ?_
            refine awpl_no (d := 18) rfl rfl rfl c9 ?_
            refine awpl_no (d := 18) rfl rfl rfl c9 ?_
            refine awpl_no (d := 18) rfl rfl rfl c9 ?_
            refine awpl_op rfl (opTo_q (d := 25) rfl rfl (ev_pick_f rfl c9)) ?_
            refine awpl_op rfl (opTo_q (d := 26) rfl rfl ev_move) ?_
            refine awpl_no (d := 26) rfl rfl rfl rfl ?_
            refine awpl_no (d := 26) rfl rfl rfl rfl ?_
            refine awpl_no (d := 26) rfl rfl rfl rfl ?_
            refine awpl_op rfl (opTo_q (d := 30) rfl rfl (ev_pick_f rfl rfl)) ?_
            refine awpl_nil ?_
            cases hr
            exact joinK_normal _ rfl (frLe_cons rfl (frLe_cons rfl (frLe_cons rfl (frLe_cons rfl (frLe_cons rfl frLe_nil))))) (stoLe_cons rfl (stoLe_cons rfl stoLe_nil))
        · rintro _ rfl
          have hr := hy
          clear hx hy
          refine awp_cond rfl (fun c13 => ?_) (fun c13 => ?_)
          · replace hr := cond_t c13 hr
            refine awp_seq ?_
            refine awp_region ?_
            refine awpl_op rfl (opTo_q (d := 31) rfl rfl ev_move) ?_
            refine awpl_op rfl (opTo_q (d := 32) rfl rfl ev_move) ?_
            refine awpl_op rfl (opTo_q (d := 33) rfl rfl ev_move) ?_
            refine awpl_op rfl (opTo_q (d := 34) rfl rfl ev_move) ?_
            refine awpl_op rfl (opTo_q (d := 35) rfl rfl (ev_sub rfl rfl)) ?_
            obtain ⟨v14, h15, hr⟩ := bind_some hr
            refine awpl_op rfl (opTo_q (d := 36) rfl rfl (ev_cutLH (F := cU) rfl rfl rfl ty_s_uint8 ty_uint8 (fun _ => rfl) h15)) ?_
            refine awpl_op rfl (opTo_q (d := 37) rfl rfl (ev_bytes2s rfl ty_s_uint8 ty_uint8 ty_string)) ?_
            refine awpl_op rfl (opTo_g (d := 38) rfl rfl (opG_lit (F := cS) (l := ([v14] : List Str)) ty_s_string ty_string rfl (fun _ => rfl) rfl rfl)) ?_
            obtain ⟨v16, h17, hr⟩ := bind_some hr
            refine awpl_op rfl (opTo_append (k := 39) (F := cS) (l := s1.2.2) (xs := (([v14] : List Str))) (lim := 8796093022208) rfl rfl rfl rfl ty_s_string ty_string rfl rfl (fun _ => rfl) rfl h17) ?_
            refine awpl_op rfl (opTo_q (d := 4) rfl rfl ev_assign) ?_
            refine awpl_nil ?_
            refine kthen_normal ?_
            refine awp_region ?_
            refine awpl_op rfl (opTo_q (d := 40) rfl rfl ev_move) ?_
            refine awpl_op rfl (opTo_q (d := 41) rfl rfl (ev_add rfl rfl)) ?_
            refine awpl_op rfl (opTo_q (d := 5) rfl rfl ev_assign) ?_
            refine awpl_nil ?_
            refine kblock_normal ?_
            cases hr
            exact joinK_normal _ rfl (frLe_cons rfl (frLe_cons rfl (frLe_cons rfl (frLe_cons rfl frLe_nil)))) (stoLe_cons rfl (stoLe_cons rfl stoLe_nil))
          · replace hr := cond_f c13 hr
            refine awp_skip ?_
            refine kblock_normal ?_
            cases hr
            exact joinK_normal _ rfl (frLe_cons rfl (frLe_cons rfl (frLe_cons rfl (frLe_cons rfl frLe_nil)))) (stoLe_cons rfl (stoLe_cons rfl stoLe_nil))
      · rintro _ rfl
        have hr := hy
        clear hx hy
        refine awp_region ?_
        refine awpl_op rfl (opTo_q (d := 11) rfl rfl ev_move) ?_
        refine awpl_op rfl (opTo_q (d := 12) rfl rfl (ev_add rfl rfl)) ?_
        refine awpl_op rfl (opTo_q (d := 6) rfl rfl ev_assign) ?_
        refine awpl_nil ?_
        cases hr
        exact ⟨rfl, (frLe_cons rfl (frLe_cons rfl (frLe_cons rfl (frLe_cons rfl frLe_nil)))), (stoLe_cons rfl (stoLe_cons rfl stoLe_nil))⟩
    · replace hr := cond_f c4 hr
      refine awp_exit ?_
      refine kthen_exit ?_
      cases hr
      exact ⟨by simp, rfl, (frLe_cons rfl (frLe_cons rfl (frLe_cons rfl frLe_nil))), (stoLe_cons rfl (stoLe_cons rfl stoLe_nil))⟩
  · intro e fr2 st2 hq
    obtain ⟨rfl, hf, hs⟩ := hq
    refine kblock_exit ?_
    refine kthen_normal ?_
    refine awp_le hf hs ?_
    refine awp_seq ?_
    obtain ⟨v18, h19, hr⟩ := bind_some hr
    refine awp_drawn 5 [(2, .hs 1004 0), (45, .l cU v18), (44, .i b2.1), (43, .l cU a0), (42, .hs 1004 0)] mixed (by kernel_rfl) rfl rfl (.run (.plain rfl) (opG_q ev_move) (.run (.plain rfl) (opG_q ev_move) (.run (.plain rfl) (opG_q ev_move) (.run (.plain rfl) (opG_q (ev_cutL (F := cU) rfl rfl ty_s_uint8 ty_uint8 (fun _ => rfl) h19)) (.run (.plain rfl) (opG_q ev_assign) .nil))))) rfl ?_
    refine awpl_op rfl (opTo_q (d := 3) rfl rfl ev_assign) ?_
    refine awpl_nil ?_
    refine kthen_normal ?_
    refine awp_ret ?_
    refine inlK (cs := [.hs 1004 0, .l cU v18]) (fr'' := []) (σ'' := [(1004, .row 9 false 1 (List.map cS b2.2))]) (.inl rfl) frLe_refl stoLe_refl (.cons (res_tmp rfl) (.cons (res_tmp rfl) .nil)) .nil rfl (stoLe_cons rfl stoLe_nil) ?_
    refine awpl_op rfl (opTo_q (d := 7) rfl rfl ev_move) ?_
    refine awpl_op rfl (opTo_q (d := 10) rfl rfl (ev_extract rfl rfl)) ?_
    refine awpl_op rfl (opTo_q (d := 11) rfl rfl (ev_extract rfl rfl)) ?_
    refine awpl_op rfl (opTo_q (d := 3) rfl rfl ev_assign) ?_
    refine awpl_op rfl (opTo_q (d := 4) rfl rfl ev_assign) ?_
    refine awpl_nil ?_
    refine kthen_normal ?_
    refine awp_seq ?_
    refine awp_region ?_
    refine awpl_op rfl (opTo_q (d := 12) rfl rfl ev_move) ?_
    refine awpl_op rfl (opTo_q (d := 13) rfl rfl ev_move) ?_
    refine awpl_op rfl (opTo_q (d := 14) rfl rfl (ev_bytes2s rfl ty_s_uint8 ty_uint8 ty_string)) ?_
    refine awpl_op rfl (opTo_g (d := 15) rfl rfl (opG_lit (F := cS) (l := ([v18] : List Str)) ty_s_string ty_string rfl (fun _ => rfl) rfl rfl)) ?_
    obtain ⟨v20, h21, hr⟩ := bind_some hr
    refine awpl_op rfl (opTo_append (k := 16) (F := cS) (l := b2.2) (xs := (([v18] : List Str))) (lim := 8796093022208) rfl rfl rfl rfl ty_s_string ty_string rfl rfl (fun _ => rfl) rfl h21) ?_
    refine awpl_op rfl (opTo_q (d := 3) rfl rfl ev_assign) ?_
    refine awpl_nil ?_
    refine kthen_normal ?_
    refine awp_seq ?_
    refine awp_region ?_
    refine awpl_op rfl (opTo_q (d := 5) rfl rfl ev_assign) ?_
    refine awpl_adopt 1005 (d := 5) 5 1 rfl rfl rfl ?_
    refine awpl_nil ?_
    refine kthen_normal ?_
    refine awp_seq ?_
    refine awp_seq ?_
    refine awp_region ?_
    refine awpl_op rfl (opTo_q (d := 6) rfl rfl ev_assign) ?_
    refine awpl_nil ?_
    refine kthen_normal ?_
    refine awp_block ?_
    obtain ⟨b23, hl, hr⟩ := bind_some hr
    refine awp_loop (R_Sent_l2 v20) (fun s22 => [(3, .hs 1004 0), (5, .hs 1005 0), (6, .i s22.1)]) (fun s22 => [(1005, .row 5 false 1 (List.map cU s22.2)), (1004, .row 9 false 1 (List.map cS v20))]) (fun b23 => At (.exit 0) [(5, .hs 1005 0)] [(1005, .row 5 false 1 (List.map cU b23))]) ?_ ((0, ([] : List UInt8))) hl (frLe_cons rfl (frLe_cons rfl (frLe_cons rfl frLe_nil))) (stoLe_cons rfl (stoLe_cons rfl stoLe_nil)) ?_
    · intro s22 x24 hr
      unfold R_Sent_l2 at hr
      refine awp_seq ?_
      refine awp_seq ?_
      refine awp_region ?_
      refine awpl_op rfl (opTo_q (d := 17) rfl rfl ev_move) ?_
      refine awpl_op rfl (opTo_q (d := 18) rfl rfl ev_move) ?_
      refine awpl_op rfl (opTo_q (d := 19) rfl rfl (ev_hlen (F := cS) rfl rfl ty_s_string.u)) ?_
      refine awpl_op rfl (opTo_q (d := 20) rfl rfl (ev_lss rfl rfl)) ?_
      refine awpl_nil ?_
      refine kthen_normal ?_
      refine awp_cond rfl (fun c25 => ?_) (fun c25 => ?_)
      · replace hr := cond_t c25 hr
        refine awp_skip ?_
        refine kthen_normal ?_
        obtain ⟨j26, hx, hy⟩ := bind_some hr
        refine awp_join (fun j26 => [(3, .hs 1004 0), (5, .hs 1005 0), (6, .i s22.1)]) (fun j26 => [(1005, .row 5 false 1 (List.map cU j26)), (1004, .row 9 false 1 (List.map cS v20))]) (fun z => j26 = z) ?_ ?_
        · have hr := hx
          clear hx hy
          refine awp_block ?_
          obtain ⟨j27, hx, hy⟩ := bind_some hr
          refine awp_join (fun j27 => [(3, .hs 1004 0), (5, .hs 1005 0), (6, .i s22.1)]) (fun j27 => [(1005, .row 5 false 1 (List.map cU j27)), (1004, .row 9 false 1 (List.map cS v20))]) (fun z => j27 = z) ?_ ?_
          · have hr := hx
            clear hx hy
            obtain ⟨j28, hx, hy⟩ := bind_some hr
            refine awp_join (fun j28 => [(3, .hs 1004 0), (5, .hs 1005 0), (6, .i s22.1), (36, .bo j28)]) (fun j28 => [(1005, .row 5 false 1 (List.map cU s22.2)), (1004, .row 9 false 1 (List.map cS v20))]) (fun z => j28 = z) ?_ ?_
            · have hr := hx
              clear hx hy
              refine awp_region ?_
              refine awpl_op rfl (opTo_q (d := 23) rfl rfl ev_move) ?_
              refine awpl_op rfl (opTo_q (d := 24) rfl rfl ev_move) ?_
              refine awpl_pub (d := 23) (F := cS) (l := v20) rfl rfl ?_
              obtain ⟨v29, h30, hr⟩ := bind_some hr
              refine awpl_op rfl (opTo_q (d := 25) rfl rfl (ev_idx (f := cS) rfl rfl ty_s_string ty_string rfl h30)) ?_
              refine awpl_op rfl (opTo_q (d := 26) rfl rfl (ev_load_ep rfl ty_string rfl rfl)) ?_
              refine awpl_op rfl (opTo_q (d := 27) rfl rfl (ev_slen rfl ty_string.u)) ?_
              refine awpl_op rfl (opTo_q (d := 28) rfl rfl (ev_gtr rfl rfl)) ?_
              refine awpl_op rfl (opTo_q (d := 29) rfl rfl ev_move) ?_
              refine bool_split (decide (0 < (v29.length : Int))) (fun c31 => ?_) (fun c31 => ?_)
              · replace hr := cond_t c31 hr
                refine awpl_yes (d := 29) rfl rfl rfl c31 (opTo_q (d := 30) rfl rfl ev_move) ?_
                refine awpl_yes (d := 29) rfl rfl rfl c31 (opTo_q (d := 31) rfl rfl ev_move) ?_
                refine awpl_pub (d := 30) (F := cS) (l := v20) rfl rfl ?_
                obtain ⟨v32, h33, hr⟩ := bind_some hr
                refine awpl_yes (d := 29) rfl rfl rfl c31 (opTo_q (d := 32) rfl rfl (ev_idx (f := cS) rfl rfl ty_s_string ty_string rfl h33)) ?_
                refine awpl_yes (d := 29) rfl rfl rfl c31 (opTo_q (d := 33) rfl rfl (ev_load_ep rfl ty_string rfl rfl)) ?_
                obtain ⟨v34, h35, hr⟩ := bind_some hr
                refine awpl_yes (d := 29) rfl rfl rfl c31 (opTo_q (d := 34) rfl rfl (ev_sidx rfl rfl ty_string h35)) ?_
                refine awpl_yes (d := 29) rfl rfl rfl c31 (opTo_q (d := 35) rfl rfl (ev_eql rfl rfl)) ?_
                refine awpl_op rfl (opTo_q (d := 36) rfl rfl (ev_pick_t rfl c31)) ?_
                refine awpl_nil ?_
                cases hr
                exact joinK_normal _ rfl (frLe_cons rfl (frLe_cons rfl (frLe_cons rfl (frLe_cons rfl frLe_nil)))) (stoLe_cons rfl (stoLe_cons rfl stoLe_nil))
              · replace hr := cond_f c31 hr
                refine awpl_no (d := 29) rfl rfl rfl c31 ?_
                refine awpl_no (d := 29) rfl rfl rfl c31 ?_
                refine awpl_no (d := 29) rfl rfl rfl c31 ?_
                refine awpl_no (d := 29) rfl rfl rfl c31 ?_
                refine awpl_no (d := 29) rfl rfl rfl c31 ?_
                refine awpl_no (d := 29) rfl rfl rfl c31 ?_
                refine awpl_op rfl (opTo_q (d := 36) rfl rfl (ev_pick_f rfl c31)) ?_
                refine awpl_nil ?_
                cases hr
                exact joinK_normal _ rfl (frLe_cons rfl (frLe_cons rfl (frLe_cons rfl (frLe_cons rfl frLe_nil)))) (stoLe_cons rfl (stoLe_cons rfl stoLe_nil))
            · rintro _ rfl
              have hr := hy
              clear hx hy
              refine awp_cond rfl (fun c36 => ?_) (fun c36 => ?_)
              · replace hr := cond_t c36 hr
                refine awp_region ?_
                refine awpl_op rfl (opTo_q (d := 37) rfl rfl ev_move) ?_
                refine awpl_op rfl (opTo_g (d := 38) rfl rfl (opG_lit (F := cU) (l := ([(46 : UInt8)] : List UInt8)) ty_s_uint8 ty_uint8 rfl (fun _ => rfl) rfl rfl)) ?_
                obtain ⟨v37, h38, hr⟩ := bind_some hr
                refine awpl_op rfl (opTo_append (k := 39) (F := cU) (l := s22.2) (xs := (([(46 : UInt8)] : List UInt8))) (lim := 140737488355328) rfl rfl rfl rfl ty_s_uint8 ty_uint8 rfl rfl (fun _ => rfl) rfl h38) ?_
                refine awpl_op rfl (opTo_q (d := 5) rfl rfl ev_assign) ?_
                refine awpl_nil ?_
                cases hr
                exact joinK_normal _ rfl (frLe_cons rfl (frLe_cons rfl (frLe_cons rfl frLe_nil))) (stoLe_cons rfl (stoLe_cons rfl stoLe_nil))
              · replace hr := cond_f c36 hr
                refine awp_skip ?_
                cases hr
                exact joinK_normal _ rfl (frLe_cons rfl (frLe_cons rfl (frLe_cons rfl frLe_nil))) (stoLe_cons rfl (stoLe_cons rfl stoLe_nil))
          · rintro _ rfl
            have hr := hy
            clear hx hy
            refine awp_seq ?_
            refine awp_region ?_
            refine awpl_op rfl (opTo_q (d := 40) rfl rfl ev_move) ?_
            refine awpl_op rfl (opTo_q (d := 41) rfl rfl ev_move) ?_
            refine awpl_op rfl (opTo_q (d := 42) rfl rfl ev_move) ?_
            refine awpl_pub (d := 41) (F := cS) (l := v20) rfl rfl ?_
            obtain ⟨v39, h40, hr⟩ := bind_some hr
            refine awpl_op rfl (opTo_q (d := 43) rfl rfl (ev_idx (f := cS) rfl rfl ty_s_string ty_string rfl h40)) ?_
            refine awpl_op rfl (opTo_q (d := 44) rfl rfl (ev_load_ep rfl ty_string rfl rfl)) ?_
            obtain ⟨v41, h42, hr⟩ := bind_some hr
            refine awpl_op rfl (opTo_appends (k := 45) (l := j27) (s := v39) (lim := 140737488355328) rfl rfl rfl rfl ty_s_uint8 ty_string.u ty_uint8 rfl h42) ?_
            refine awpl_op rfl (opTo_q (d := 5) rfl rfl ev_assign) ?_
            refine awpl_nil ?_
            refine kthen_normal ?_
            refine awp_seq ?_
            refine awp_region ?_
            refine awpl_op rfl (opTo_q (d := 46) rfl rfl ev_move) ?_
            refine awpl_op rfl (opTo_q (d := 47) rfl rfl (ev_add rfl rfl)) ?_
            refine awpl_op rfl (opTo_q (d := 48) rfl rfl ev_move) ?_
            refine awpl_op rfl (opTo_q (d := 49) rfl rfl (ev_hlen (F := cS) rfl rfl ty_s_string.u)) ?_
            refine awpl_op rfl (opTo_q (d := 50) rfl rfl (ev_lss rfl rfl)) ?_
            refine awpl_nil ?_
            refine kthen_normal ?_
            refine awp_cond rfl (fun c43 => ?_) (fun c43 => ?_)
            · replace hr := cond_t c43 hr
              refine awp_region ?_
              refine awpl_op rfl (opTo_q (d := 51) rfl rfl ev_move) ?_
              refine awpl_op rfl (opTo_g (d := 52) rfl rfl (opG_lit (F := cU) (l := ([(13 : UInt8), (10 : UInt8)] : List UInt8)) ty_s_uint8 ty_uint8 rfl (fun _ => rfl) rfl rfl)) ?_
              obtain ⟨v44, h45, hr⟩ := bind_some hr
              refine awpl_op rfl (opTo_append (k := 53) (F := cU) (l := v41) (xs := (([(13 : UInt8), (10 : UInt8)] : List UInt8))) (lim := 140737488355328) rfl rfl rfl rfl ty_s_uint8 ty_uint8 rfl rfl (fun _ => rfl) rfl h45) ?_
              refine awpl_op rfl (opTo_q (d := 5) rfl rfl ev_assign) ?_
              refine awpl_nil ?_
              refine kblock_normal ?_
              cases hr
              exact joinK_normal _ rfl (frLe_cons rfl (frLe_cons rfl (frLe_cons rfl frLe_nil))) (stoLe_cons rfl (stoLe_cons rfl stoLe_nil))
            · replace hr := cond_f c43 hr
              refine awp_skip ?_
              refine kblock_normal ?_
              cases hr
              exact joinK_normal _ rfl (frLe_cons rfl (frLe_cons rfl (frLe_cons rfl frLe_nil))) (stoLe_cons rfl (stoLe_cons rfl stoLe_nil))
        · rintro _ rfl
          have hr := hy
          clear hx hy
          refine awp_region ?_
          refine awpl_op rfl (opTo_q (d := 21) rfl rfl ev_move) ?_
          refine awpl_op rfl (opTo_q (d := 22) rfl rfl (ev_add rfl rfl)) ?_
          refine awpl_op rfl (opTo_q (d := 6) rfl rfl ev_assign) ?_
          refine awpl_nil ?_
          cases hr
          exact ⟨rfl, (frLe_cons rfl (frLe_cons rfl (frLe_cons rfl frLe_nil))), (stoLe_cons rfl (stoLe_cons rfl stoLe_nil))⟩
      · replace hr := cond_f c25 hr
        refine awp_exit ?_
        refine kthen_exit ?_
        cases hr
        exact ⟨by simp, rfl, (frLe_cons rfl frLe_nil), (stoLe_cons rfl stoLe_nil)⟩
    · intro e fr2 st2 hq
      obtain ⟨rfl, hf, hs⟩ := hq
      refine kblock_exit ?_
      refine kthen_normal ?_
      refine awp_le hf hs ?_
      refine awp_seq ?_
      refine awp_region ?_
      refine awpl_op rfl (opTo_q (d := 54) rfl rfl ev_move) ?_
      refine awpl_op rfl (opTo_g (d := 55) rfl rfl (opG_lit (F := cU) (l := ([(46 : UInt8), (13 : UInt8), (10 : UInt8)] : List UInt8)) ty_s_uint8 ty_uint8 rfl (fun _ => rfl) rfl rfl)) ?_
      obtain ⟨v46, h47, hr⟩ := bind_some hr
      refine awpl_op rfl (opTo_append (k := 56) (F := cU) (l := b23) (xs := (([(46 : UInt8), (13 : UInt8), (10 : UInt8)] : List UInt8))) (lim := 140737488355328) rfl rfl rfl rfl ty_s_uint8 ty_uint8 rfl rfl (fun _ => rfl) rfl h47) ?_
      refine awpl_op rfl (opTo_q (d := 2) rfl rfl ev_assign) ?_
      refine awpl_nil ?_
      refine kthen_normal ?_
      refine awp_pub (d := 2) (F := cU) (l := v46) rfl rfl ?_
      refine awp_ret ?_
      cases hr
      exact kret' rfl (.cons (res_tmp rfl) .nil) rfl
end Go.Proofs.Ytlpmbmilnoncdaa

/- A function of the program computes what its Lean function does. Written by program. -/
namespace Go.Proofs.Ytlpmbmilnoncdaa
open Go.RowKit
set_option maxRecDepth 100000
set_option maxHeartbeats 40000000
set_option linter.unusedVariables false
theorem L_LinesDataMatchSpec_run (a0 : List UInt8) (r : Bool) (hr : L_LinesDataMatchSpec a0 = some r) : Run Try.prog 7 [.l cU a0] (.bo r) := by
  unfold L_LinesDataMatchSpec at hr
  refine run_of_awp (fn := Try.f7) ⟨Try.func7, rfl, by kernel_rfl⟩ rfl (fun _ => rfl) fun g0 hg => ?_
  refine awp_seq ?_
  refine awp_region ?_
  refine awpl_op rfl (opTo_q (d := 2) rfl rfl ev_assign) ?_
  refine awpl_nil ?_
  refine kthen_normal ?_
  refine awp_seq ?_
  refine awp_region ?_
  refine awpl_op rfl (opTo_q (d := 16) rfl rfl ev_move) ?_
  obtain ⟨v1, h2, hr⟩ := bind_some hr
  refine awpl_op rfl (opTo_call (k := 17) (lines_Stuff_run a0 v1 h2) rfl rfl) ?_
  refine awpl_op rfl (opTo_q (d := 15) rfl rfl ev_move) ?_
  refine awpl_op rfl (opTo_q (d := 18) rfl rfl (ev_extract rfl rfl)) ?_
  refine awpl_op rfl (opTo_q (d := 19) rfl rfl (ev_extract rfl rfl)) ?_
  refine awpl_op rfl (opTo_alloc (k := 4) 4 rfl ty_api_Fault (.inr ⟨rfl, rfl⟩) rfl rfl rfl) ?_
  refine awpl_op rfl (opTo_q (d := 3) rfl rfl ev_assign) ?_
  refine awpl_op rfl (opTo_store rfl rfl rfl ty_api_Fault rfl rfl) ?_
  refine awpl_nil ?_
  refine kthen_normal ?_
  refine awp_seq ?_
  refine awp_region ?_
  refine awpl_op rfl (opTo_q (d := 21) rfl rfl ev_move) ?_
  obtain ⟨v3, h4, hr⟩ := bind_some hr
  refine awpl_op rfl (opTo_call (k := 22) (lines_Unstuff_run a0 v3 h4) rfl rfl) ?_
  refine awpl_op rfl (opTo_q (d := 20) rfl rfl ev_move) ?_
  refine awpl_op rfl (opTo_q (d := 23) rfl rfl (ev_extract rfl rfl)) ?_
  refine awpl_op rfl (opTo_q (d := 24) rfl rfl (ev_extract rfl rfl)) ?_
  refine awpl_op rfl (opTo_q (d := 25) rfl rfl (ev_extract rfl rfl)) ?_
  refine awpl_op rfl (opTo_q (d := 26) rfl rfl (ev_extract rfl rfl)) ?_
  refine awpl_op rfl (opTo_alloc (k := 8) 8 rfl ty_api_Fault (.inr ⟨rfl, rfl⟩) rfl rfl rfl) ?_
  refine awpl_op rfl (opTo_q (d := 5) rfl rfl ev_assign) ?_
  refine awpl_op rfl (opTo_q (d := 6) rfl rfl ev_assign) ?_
  refine awpl_op rfl (opTo_q (d := 7) rfl rfl ev_assign) ?_
  refine awpl_op rfl (opTo_store rfl rfl rfl ty_api_Fault rfl rfl) ?_
  refine awpl_nil ?_
  refine kthen_normal ?_
  refine awp_seq ?_
  refine awp_seq ?_
  refine awp_region ?_
  obtain ⟨v5, h6, hr⟩ := bind_some hr
  refine awpl_op rfl (opTo_call (k := 27) (L_splits_run  v5 h6) rfl rfl) ?_
  refine awpl_op rfl (opTo_q (d := 28) rfl rfl (ev_not rfl)) ?_
  refine awpl_nil ?_
  refine kthen_normal ?_
  refine awp_cond rfl (fun c7 => ?_) (fun c7 => ?_)
  · replace hr := cond_t c7 hr
    refine awp_seq ?_
    refine awp_region ?_
    refine awpl_op rfl (opTo_q (d := 2) rfl rfl ev_assign) ?_
    refine awpl_nil ?_
    refine kthen_normal ?_
    refine awp_ret ?_
    refine kthen_ret ?_
    cases hr
    exact kret' rfl (.cons (res_tmp rfl) .nil) rfl
  · replace hr := cond_f c7 hr
    refine awp_skip ?_
    refine kthen_normal ?_
    refine awp_seq ?_
    refine awp_region ?_
    refine awpl_op rfl (opTo_q (d := 30) rfl rfl ev_move) ?_
    obtain ⟨v8, h9, hr⟩ := bind_some hr
    refine awpl_op rfl (opTo_call (k := 31) (R_Lines_run a0 v8 h9) rfl rfl) ?_
    refine awpl_op rfl (opTo_q (d := 29) rfl rfl ev_move) ?_
    refine awpl_op rfl (opTo_q (d := 32) rfl rfl (ev_extract rfl rfl)) ?_
    refine awpl_op rfl (opTo_q (d := 33) rfl rfl (ev_extract rfl rfl)) ?_
    refine awpl_op rfl (opTo_q (d := 9) rfl rfl ev_assign) ?_
    refine awpl_op rfl (opTo_q (d := 10) rfl rfl ev_assign) ?_
    refine awpl_nil ?_
    refine kthen_normal ?_
    refine awp_seq ?_
    refine awp_region ?_
    refine awpl_op rfl (opTo_q (d := 34) rfl rfl (ev_build ty_api_Fault pl_api_Fault (.inr ⟨rfl, rfl⟩) rfl)) ?_
    refine awpl_op rfl (opTo_alloc (k := 11) 11 rfl ty_api_Fault (.inr ⟨rfl, rfl⟩) rfl rfl rfl) ?_
    refine awpl_op rfl (opTo_store rfl rfl rfl ty_api_Fault rfl rfl) ?_
    refine awpl_nil ?_
    refine kthen_normal ?_
    obtain ⟨j10, hx, hy⟩ := bind_some hr
    refine awp_join (fun j10 => [(0, .l cU a0), (3, .l cU v1.1), (4, .ptr 4 0), (5, .l cU v3.1), (6, .i v3.2.1), (7, .bo v3.2.2.1), (8, .ptr 8 0), (11, .ptr 11 0)]) (fun j10 => [(11, .cells [.i j10.1, .i j10.2]), (8, .cells [.i v3.2.2.2.Code, .i v3.2.2.2.Index]), (4, .cells [.i v1.2.Code, .i v1.2.Index])]) (fun z => j10 = z) ?_ ?_
    · have hr := hx
      clear hx hy
      refine awp_seq ?_
      refine awp_region ?_
      refine awpl_op rfl (opTo_q (d := 35) rfl rfl ev_move) ?_
      refine awpl_op rfl (opTo_q (d := 36) rfl rfl (ev_llen (f := cU) rfl ty_s_uint8.u)) ?_
      refine awpl_op rfl (opTo_q (d := 37) rfl rfl (ev_gtr rfl rfl)) ?_
      refine awpl_nil ?_
      refine kthen_normal ?_
      refine awp_cond rfl (fun c11 => ?_) (fun c11 => ?_)
      · replace hr := cond_t c11 hr
        refine awp_region ?_
        obtain ⟨v12, h13, hr⟩ := bind_some hr
        refine awpl_op rfl (opTo_call (k := 38) (R_At_run 1 ((-1)) v12 h13) rfl rfl) ?_
        refine awpl_op rfl (opTo_store rfl rfl rfl ty_api_Fault rfl rfl) ?_
        refine awpl_nil ?_
        cases hr
        exact joinK_normal _ rfl (frLe_cons rfl (frLe_cons rfl (frLe_cons rfl (frLe_cons rfl (frLe_cons rfl (frLe_cons rfl (frLe_cons rfl (frLe_cons rfl frLe_nil)))))))) (stoLe_cons rfl (stoLe_cons rfl (stoLe_cons rfl stoLe_nil)))
      · replace hr := cond_f c11 hr
        refine awp_seq ?_
        refine awp_region ?_
        refine awpl_op rfl (opTo_q (d := 39) rfl rfl ev_move) ?_
        refine awpl_op rfl (opTo_q (d := 40) rfl rfl (ev_llen (f := cU) rfl ty_s_uint8.u)) ?_
        refine awpl_op rfl (opTo_q (d := 41) rfl rfl (ev_gtr rfl rfl)) ?_
        refine awpl_nil ?_
        refine kthen_normal ?_
        refine awp_cond rfl (fun c14 => ?_) (fun c14 => ?_)
        · replace hr := cond_t c14 hr
          refine awp_region ?_
          obtain ⟨v15, h16, hr⟩ := bind_some hr
          refine awpl_op rfl (opTo_call (k := 42) (R_At_run 5 ((-2)) v15 h16) rfl rfl) ?_
          refine awpl_op rfl (opTo_store rfl rfl rfl ty_api_Fault rfl rfl) ?_
          refine awpl_nil ?_
          cases hr
          exact joinK_normal _ rfl (frLe_cons rfl (frLe_cons rfl (frLe_cons rfl (frLe_cons rfl (frLe_cons rfl (frLe_cons rfl (frLe_cons rfl (frLe_cons rfl frLe_nil)))))))) (stoLe_cons rfl (stoLe_cons rfl (stoLe_cons rfl stoLe_nil)))
        · replace hr := cond_f c14 hr
          refine awp_skip ?_
          cases hr
          exact joinK_normal _ rfl (frLe_cons rfl (frLe_cons rfl (frLe_cons rfl (frLe_cons rfl (frLe_cons rfl (frLe_cons rfl (frLe_cons rfl (frLe_cons rfl frLe_nil)))))))) (stoLe_cons rfl (stoLe_cons rfl (stoLe_cons rfl stoLe_nil)))
    · rintro _ rfl
      have hr := hy
      clear hx hy
      refine awp_seq ?_
      obtain ⟨j17, hx, hy⟩ := bind_some hr
      refine awp_join (fun j17 => [(0, .l cU a0), (5, .l cU v3.1), (6, .i v3.2.1), (7, .bo v3.2.2.1), (8, .ptr 8 0), (68, .bo j17)]) (fun j17 => [(8, .cells [.i v3.2.2.2.Code, .i v3.2.2.2.Index])]) (fun z => j17 = z) ?_ ?_
      · have hr := hx
        clear hx hy
        refine bool_split ((!(allEq [(v1.2.Code == j10.1), (v1.2.Index == j10.2)]))) (fun c18 => ?_) (fun c18 => ?_)
        · replace hr := cond_t c18 hr
          refine awp_drawn 23 [(65, .tup []), (64, .tup []), (63, .tup []), (62, .tup []), (61, .tup []), (60, .tup []), (59, .tup []), (58, .tup []), (57, .tup []), (56, .bo true), (55, .bo true), (54, .tup []), (53, .tup []), (52, .tup []), (51, .tup []), (50, .tup []), (49, .tup []), (48, .tup []), (47, .tup []), (46, .bo ((!(allEq [(v1.2.Code == j10.1), (v1.2.Index == j10.2)])))), (45, .bo ((!(allEq [(v1.2.Code == j10.1), (v1.2.Index == j10.2)])))), (44, .agg [.i j10.1, .i j10.2]), (43, .agg [.i v1.2.Code, .i v1.2.Index])] mixed (by kernel_rfl) rfl rfl (.run (.plain rfl) (opG_q (ev_loadN rfl rfl ty_api_Fault rfl rfl)) (.run (.plain rfl) (opG_q (ev_loadN rfl rfl ty_api_Fault rfl rfl)) (.run (.plain rfl) (opG_q (ev_structne rfl rfl ty_api_Fault cmp_api_Fault (.int rfl (by decide) ty_int (.int rfl (by decide) ty_int .nil)))) (.run (.plain rfl) (opG_q ev_move) (.skip (.no (d := 46) rfl rfl rfl c18) (.skip (.no (d := 46) rfl rfl rfl c18) (.skip (.no (d := 46) rfl rfl rfl c18) (.skip (.no (d := 46) rfl rfl rfl c18) (.skip (.none (d := 50) rfl rfl rfl) (.skip (.none (d := 50) rfl rfl rfl) (.skip (.none (d := 50) rfl rfl rfl) (.skip (.no (d := 46) rfl rfl rfl c18) (.run (.plain rfl) (opG_q (ev_pick_t rfl c18)) (.run (.plain rfl) (opG_q ev_move) (.skip (.no (d := 56) rfl rfl rfl rfl) (.skip (.no (d := 56) rfl rfl rfl rfl) (.skip (.no (d := 56) rfl rfl rfl rfl) (.skip (.no (d := 56) rfl rfl rfl rfl) (.skip (.none (d := 60) rfl rfl rfl) (.skip (.none (d := 60) rfl rfl rfl) (.skip (.none (d := 60) rfl rfl rfl) (.skip (.none (d := 60) rfl rfl rfl) (.skip (.none (d := 60) rfl rfl rfl) .nil))))))))))))))))))))))) rfl ?_
          refine awpl_none (d := 60) rfl rfl rfl ?_
          refine awpl_no (d := 56) rfl rfl rfl rfl ?_
          refine awpl_op rfl (opTo_q (d := 68) rfl rfl (ev_pick_t rfl rfl)) ?_
          refine awpl_nil ?_
          cases hr
          exact joinK_normal _ rfl (frLe_cons rfl (frLe_cons rfl (frLe_cons rfl (frLe_cons rfl (frLe_cons rfl (frLe_cons rfl frLe_nil)))))) (stoLe_cons rfl stoLe_nil)
        · replace hr := cond_f c18 hr
          refine bool_split ((j10.1 != 0)) (fun c19 => ?_) (fun c19 => ?_)
          · replace hr := cond_t c19 hr
            refine bool_split (decide (0 < (v1.1.length : Int))) (fun c20 => ?_) (fun c20 => ?_)
            · replace hr := cond_t c20 hr
              refine awp_drawn 23 [(65, .tup []), (64, .tup []), (63, .tup []), (62, .tup []), (61, .tup []), (60, .tup []), (59, .tup []), (58, .tup []), (57, .tup []), (56, .bo (decide (0 < (v1.1.length : Int)))), (55, .bo (decide (0 < (v1.1.length : Int)))), (54, .bo (decide (0 < (v1.1.length : Int)))), (53, .bo (decide (0 < (v1.1.length : Int)))), (52, .i ((v1.1.length : Int))), (51, .l cU v1.1), (50, .bo ((j10.1 != 0))), (49, .bo ((j10.1 != 0))), (48, .i j10.1), (47, .ptr 11 0), (46, .bo ((!(allEq [(v1.2.Code == j10.1), (v1.2.Index == j10.2)])))), (45, .bo ((!(allEq [(v1.2.Code == j10.1), (v1.2.Index == j10.2)])))), (44, .agg [.i j10.1, .i j10.2]), (43, .agg [.i v1.2.Code, .i v1.2.Index])] mixed (by kernel_rfl) rfl rfl (.run (.plain rfl) (opG_q (ev_loadN rfl rfl ty_api_Fault rfl rfl)) (.run (.plain rfl) (opG_q (ev_loadN rfl rfl ty_api_Fault rfl rfl)) (.run (.plain rfl) (opG_q (ev_structne rfl rfl ty_api_Fault cmp_api_Fault (.int rfl (by decide) ty_int (.int rfl (by decide) ty_int .nil)))) (.run (.plain rfl) (opG_q ev_move) (.run (.yes (d := 46) rfl rfl rfl c18) (opG_q (ev_fieldAddr rfl ty_api_Fault.u rfl ty_int rfl)) (.run (.yes (d := 46) rfl rfl rfl c18) (opG_q (ev_load rfl rfl ty_int rfl rfl)) (.run (.yes (d := 46) rfl rfl rfl c18) (opG_q (ev_neq rfl rfl)) (.run (.yes (d := 46) rfl rfl rfl c18) (opG_q ev_move) (.run (.yes (d := 50) rfl rfl rfl c19) (opG_q ev_move) (.run (.yes (d := 50) rfl rfl rfl c19) (opG_q (ev_llen (f := cU) rfl ty_s_uint8.u)) (.run (.yes (d := 50) rfl rfl rfl c19) (opG_q (ev_gtr rfl rfl)) (.run (.yes (d := 46) rfl rfl rfl c18) (opG_q (ev_pick_t rfl c19)) (.run (.plain rfl) (opG_q (ev_pick_f rfl c18)) (.run (.plain rfl) (opG_q ev_move) (.skip (.no (d := 56) rfl rfl rfl c20) (.skip (.no (d := 56) rfl rfl rfl c20) (.skip (.no (d := 56) rfl rfl rfl c20) (.skip (.no (d := 56) rfl rfl rfl c20) (.skip (.none (d := 60) rfl rfl rfl) (.skip (.none (d := 60) rfl rfl rfl) (.skip (.none (d := 60) rfl rfl rfl) (.skip (.none (d := 60) rfl rfl rfl) (.skip (.none (d := 60) rfl rfl rfl) .nil))))))))))))))))))))))) rfl ?_
              refine awpl_none (d := 60) rfl rfl rfl ?_
              refine awpl_no (d := 56) rfl rfl rfl c20 ?_
              refine awpl_op rfl (opTo_q (d := 68) rfl rfl (ev_pick_t rfl c20)) ?_
              refine awpl_nil ?_
              cases hr
              exact joinK_normal _ rfl (frLe_cons rfl (frLe_cons rfl (frLe_cons rfl (frLe_cons rfl (frLe_cons rfl (frLe_cons rfl frLe_nil)))))) (stoLe_cons rfl stoLe_nil)
            · replace hr := cond_f c20 hr
              refine bool_split ((j10.1 == 0)) (fun c21 => ?_) (fun c21 => ?_)
              · replace hr := cond_t c21 hr
                obtain ⟨v22, h23, hr⟩ := bind_some hr
                refine awp_drawn 23 [(65, .s v22), (64, .l cU v22), (63, .l cU a0), (62, .s v1.1), (61, .l cU v1.1), (60, .bo ((j10.1 == 0))), (59, .bo ((j10.1 == 0))), (58, .i j10.1), (57, .ptr 11 0), (56, .bo (decide (0 < (v1.1.length : Int)))), (55, .bo (decide (0 < (v1.1.length : Int)))), (54, .bo (decide (0 < (v1.1.length : Int)))), (53, .bo (decide (0 < (v1.1.length : Int)))), (52, .i ((v1.1.length : Int))), (51, .l cU v1.1), (50, .bo ((j10.1 != 0))), (49, .bo ((j10.1 != 0))), (48, .i j10.1), (47, .ptr 11 0), (46, .bo ((!(allEq [(v1.2.Code == j10.1), (v1.2.Index == j10.2)])))), (45, .bo ((!(allEq [(v1.2.Code == j10.1), (v1.2.Index == j10.2)])))), (44, .agg [.i j10.1, .i j10.2]), (43, .agg [.i v1.2.Code, .i v1.2.Index])] mixed (by kernel_rfl) rfl rfl (.run (.plain rfl) (opG_q (ev_loadN rfl rfl ty_api_Fault rfl rfl)) (.run (.plain rfl) (opG_q (ev_loadN rfl rfl ty_api_Fault rfl rfl)) (.run (.plain rfl) (opG_q (ev_structne rfl rfl ty_api_Fault cmp_api_Fault (.int rfl (by decide) ty_int (.int rfl (by decide) ty_int .nil)))) (.run (.plain rfl) (opG_q ev_move) (.run (.yes (d := 46) rfl rfl rfl c18) (opG_q (ev_fieldAddr rfl ty_api_Fault.u rfl ty_int rfl)) (.run (.yes (d := 46) rfl rfl rfl c18) (opG_q (ev_load rfl rfl ty_int rfl rfl)) (.run (.yes (d := 46) rfl rfl rfl c18) (opG_q (ev_neq rfl rfl)) (.run (.yes (d := 46) rfl rfl rfl c18) (opG_q ev_move) (.run (.yes (d := 50) rfl rfl rfl c19) (opG_q ev_move) (.run (.yes (d := 50) rfl rfl rfl c19) (opG_q (ev_llen (f := cU) rfl ty_s_uint8.u)) (.run (.yes (d := 50) rfl rfl rfl c19) (opG_q (ev_gtr rfl rfl)) (.run (.yes (d := 46) rfl rfl rfl c18) (opG_q (ev_pick_t rfl c19)) (.run (.plain rfl) (opG_q (ev_pick_f rfl c18)) (.run (.plain rfl) (opG_q ev_move) (.run (.yes (d := 56) rfl rfl rfl c20) (opG_q (ev_fieldAddr rfl ty_api_Fault.u rfl ty_int rfl)) (.run (.yes (d := 56) rfl rfl rfl c20) (opG_q (ev_load rfl rfl ty_int rfl rfl)) (.run (.yes (d := 56) rfl rfl rfl c20) (opG_q (ev_eql rfl rfl)) (.run (.yes (d := 56) rfl rfl rfl c20) (opG_q ev_move) (.run (.yes (d := 60) rfl rfl rfl c21) (opG_q ev_move) (.run (.yes (d := 60) rfl rfl rfl c21) (opG_q (ev_bytes2s rfl ty_s_uint8 ty_uint8 ty_string)) (.run (.yes (d := 60) rfl rfl rfl c21) (opG_q ev_move) (.run (.yes (d := 60) rfl rfl rfl c21) (opG_call (R_Sent_run a0 v22 h23) rfl) (.run (.yes (d := 60) rfl rfl rfl c21) (opG_q (ev_bytes2s rfl ty_s_uint8 ty_uint8 ty_string)) .nil))))))))))))))))))))))) rfl ?_
                refine awpl_yes (d := 60) rfl rfl rfl c21 (opTo_q (d := 66) rfl rfl (ev_sneq (a := v1.1) (b := v22) rfl rfl)) ?_
                refine awpl_yes (d := 56) rfl rfl rfl c20 (opTo_q (d := 67) rfl rfl (ev_pick_t rfl c21)) ?_
                refine awpl_op rfl (opTo_q (d := 68) rfl rfl (ev_pick_f rfl c20)) ?_
                refine awpl_nil ?_
                cases hr
                exact joinK_normal _ rfl (frLe_cons rfl (frLe_cons rfl (frLe_cons rfl (frLe_cons rfl (frLe_cons rfl (frLe_cons rfl frLe_nil)))))) (stoLe_cons rfl stoLe_nil)
              · replace hr := cond_f c21 hr
                refine awp_drawn 23 [(65, .tup []), (64, .tup []), (63, .tup []), (62, .tup []), (61, .tup []), (60, .bo ((j10.1 == 0))), (59, .bo ((j10.1 == 0))), (58, .i j10.1), (57, .ptr 11 0), (56, .bo (decide (0 < (v1.1.length : Int)))), (55, .bo (decide (0 < (v1.1.length : Int)))), (54, .bo (decide (0 < (v1.1.length : Int)))), (53, .bo (decide (0 < (v1.1.length : Int)))), (52, .i ((v1.1.length : Int))), (51, .l cU v1.1), (50, .bo ((j10.1 != 0))), (49, .bo ((j10.1 != 0))), (48, .i j10.1), (47, .ptr 11 0), (46, .bo ((!(allEq [(v1.2.Code == j10.1), (v1.2.Index == j10.2)])))), (45, .bo ((!(allEq [(v1.2.Code == j10.1), (v1.2.Index == j10.2)])))), (44, .agg [.i j10.1, .i j10.2]), (43, .agg [.i v1.2.Code, .i v1.2.Index])] mixed (by kernel_rfl) rfl rfl (.run (.plain rfl) (opG_q (ev_loadN rfl rfl ty_api_Fault rfl rfl)) (.run (.plain rfl) (opG_q (ev_loadN rfl rfl ty_api_Fault rfl rfl)) (.run (.plain rfl) (opG_q (ev_structne rfl rfl ty_api_Fault cmp_api_Fault (.int rfl (by decide) ty_int (.int rfl (by decide) ty_int .nil)))) (.run (.plain rfl) (opG_q ev_move) (.run (.yes (d := 46) rfl rfl rfl c18) (opG_q (ev_fieldAddr rfl ty_api_Fault.u rfl ty_int rfl)) (.run (.yes (d := 46) rfl rfl rfl c18) (opG_q (ev_load rfl rfl ty_int rfl rfl)) (.run (.yes (d := 46) rfl rfl rfl c18) (opG_q (ev_neq rfl rfl)) (.run (.yes (d := 46) rfl rfl rfl c18) (opG_q ev_move) (.run (.yes (d := 50) rfl rfl rfl c19) (opG_q ev_move) (.run (.yes (d := 50) rfl rfl rfl c19) (opG_q (ev_llen (f := cU) rfl ty_s_uint8.u)) (.run (.yes (d := 50) rfl rfl rfl c19) (opG_q (ev_gtr rfl rfl)) (.run (.yes (d := 46) rfl rfl rfl c18) (opG_q (ev_pick_t rfl c19)) (.run (.plain rfl) (opG_q (ev_pick_f rfl c18)) (.run (.plain rfl) (opG_q ev_move) (.run (.yes (d := 56) rfl rfl rfl c20) (opG_q (ev_fieldAddr rfl ty_api_Fault.u rfl ty_int rfl)) (.run (.yes (d := 56) rfl rfl rfl c20) (opG_q (ev_load rfl rfl ty_int rfl rfl)) (.run (.yes (d := 56) rfl rfl rfl c20) (opG_q (ev_eql rfl rfl)) (.run (.yes (d := 56) rfl rfl rfl c20) (opG_q ev_move) (.skip (.no (d := 60) rfl rfl rfl c21) (.skip (.no (d := 60) rfl rfl rfl c21) (.skip (.no (d := 60) rfl rfl rfl c21) (.skip (.no (d := 60) rfl rfl rfl c21) (.skip (.no (d := 60) rfl rfl rfl c21) .nil))))))))))))))))))))))) rfl ?_
                refine awpl_no (d := 60) rfl rfl rfl c21 ?_
                refine awpl_yes (d := 56) rfl rfl rfl c20 (opTo_q (d := 67) rfl rfl (ev_pick_f rfl c21)) ?_
                refine awpl_op rfl (opTo_q (d := 68) rfl rfl (ev_pick_f rfl c20)) ?_
                refine awpl_nil ?_
                cases hr
                exact joinK_normal _ rfl (frLe_cons rfl (frLe_cons rfl (frLe_cons rfl (frLe_cons rfl (frLe_cons rfl (frLe_cons rfl frLe_nil)))))) (stoLe_cons rfl stoLe_nil)
          · replace hr := cond_f c19 hr
            refine bool_split ((j10.1 == 0)) (fun c24 => ?_) (fun c24 => ?_)
            · replace hr := cond_t c24 hr
              obtain ⟨v25, h26, hr⟩ := bind_some hr
              refine awp_drawn 23 [(65, .s v25), (64, .l cU v25), (63, .l cU a0), (62, .s v1.1), (61, .l cU v1.1), (60, .bo ((j10.1 == 0))), (59, .bo ((j10.1 == 0))), (58, .i j10.1), (57, .ptr 11 0), (56, .bo false), (55, .bo false), (54, .bo false), (53, .tup []), (52, .tup []), (51, .tup []), (50, .bo ((j10.1 != 0))), (49, .bo ((j10.1 != 0))), (48, .i j10.1), (47, .ptr 11 0), (46, .bo ((!(allEq [(v1.2.Code == j10.1), (v1.2.Index == j10.2)])))), (45, .bo ((!(allEq [(v1.2.Code == j10.1), (v1.2.Index == j10.2)])))), (44, .agg [.i j10.1, .i j10.2]), (43, .agg [.i v1.2.Code, .i v1.2.Index])] mixed (by kernel_rfl) rfl rfl (.run (.plain rfl) (opG_q (ev_loadN rfl rfl ty_api_Fault rfl rfl)) (.run (.plain rfl) (opG_q (ev_loadN rfl rfl ty_api_Fault rfl rfl)) (.run (.plain rfl) (opG_q (ev_structne rfl rfl ty_api_Fault cmp_api_Fault (.int rfl (by decide) ty_int (.int rfl (by decide) ty_int .nil)))) (.run (.plain rfl) (opG_q ev_move) (.run (.yes (d := 46) rfl rfl rfl c18) (opG_q (ev_fieldAddr rfl ty_api_Fault.u rfl ty_int rfl)) (.run (.yes (d := 46) rfl rfl rfl c18) (opG_q (ev_load rfl rfl ty_int rfl rfl)) (.run (.yes (d := 46) rfl rfl rfl c18) (opG_q (ev_neq rfl rfl)) (.run (.yes (d := 46) rfl rfl rfl c18) (opG_q ev_move) (.skip (.no (d := 50) rfl rfl rfl c19) (.skip (.no (d := 50) rfl rfl rfl c19) (.skip (.no (d := 50) rfl rfl rfl c19) (.run (.yes (d := 46) rfl rfl rfl c18) (opG_q (ev_pick_f rfl c19)) (.run (.plain rfl) (opG_q (ev_pick_f rfl c18)) (.run (.plain rfl) (opG_q ev_move) (.run (.yes (d := 56) rfl rfl rfl rfl) (opG_q (ev_fieldAddr rfl ty_api_Fault.u rfl ty_int rfl)) (.run (.yes (d := 56) rfl rfl rfl rfl) (opG_q (ev_load rfl rfl ty_int rfl rfl)) (.run (.yes (d := 56) rfl rfl rfl rfl) (opG_q (ev_eql rfl rfl)) (.run (.yes (d := 56) rfl rfl rfl rfl) (opG_q ev_move) (.run (.yes (d := 60) rfl rfl rfl c24) (opG_q ev_move) (.run (.yes (d := 60) rfl rfl rfl c24) (opG_q (ev_bytes2s rfl ty_s_uint8 ty_uint8 ty_string)) (.run (.yes (d := 60) rfl rfl rfl c24) (opG_q ev_move) (.run (.yes (d := 60) rfl rfl rfl c24) (opG_call (R_Sent_run a0 v25 h26) rfl) (.run (.yes (d := 60) rfl rfl rfl c24) (opG_q (ev_bytes2s rfl ty_s_uint8 ty_uint8 ty_string)) .nil))))))))))))))))))))))) rfl ?_
              refine awpl_yes (d := 60) rfl rfl rfl c24 (opTo_q (d := 66) rfl rfl (ev_sneq (a := v1.1) (b := v25) rfl rfl)) ?_
              refine awpl_yes (d := 56) rfl rfl rfl rfl (opTo_q (d := 67) rfl rfl (ev_pick_t rfl c24)) ?_
              refine awpl_op rfl (opTo_q (d := 68) rfl rfl (ev_pick_f rfl rfl)) ?_
              refine awpl_nil ?_
              cases hr
              exact joinK_normal _ rfl (frLe_cons rfl (frLe_cons rfl (frLe_cons rfl (frLe_cons rfl (frLe_cons rfl (frLe_cons rfl frLe_nil)))))) (stoLe_cons rfl stoLe_nil)
            · replace hr := cond_f c24 hr
              refine awp_drawn 23 [(65, .tup []), (64, .tup []), (63, .tup []), (62, .tup []), (61, .tup []), (60, .bo ((j10.1 == 0))), (59, .bo ((j10.1 == 0))), (58, .i j10.1), (57, .ptr 11 0), (56, .bo false), (55, .bo false), (54, .bo false), (53, .tup []), (52, .tup []), (51, .tup []), (50, .bo ((j10.1 != 0))), (49, .bo ((j10.1 != 0))), (48, .i j10.1), (47, .ptr 11 0), (46, .bo ((!(allEq [(v1.2.Code == j10.1), (v1.2.Index == j10.2)])))), (45, .bo ((!(allEq [(v1.2.Code == j10.1), (v1.2.Index == j10.2)])))), (44, .agg [.i j10.1, .i j10.2]), (43, .agg [.i v1.2.Code, .i v1.2.Index])] mixed (by kernel_rfl) rfl rfl (.run (.plain rfl) (opG_q (ev_loadN rfl rfl ty_api_Fault rfl rfl)) (.run (.plain rfl) (opG_q (ev_loadN rfl rfl ty_api_Fault rfl rfl)) (.run (.plain rfl) (opG_q (ev_structne rfl rfl ty_api_Fault cmp_api_Fault (.int rfl (by decide) ty_int (.int rfl (by decide) ty_int .nil)))) (.run (.plain rfl) (opG_q ev_move) (.run (.yes (d := 46) rfl rfl rfl c18) (opG_q (ev_fieldAddr rfl ty_api_Fault.u rfl ty_int rfl)) (.run (.yes (d := 46) rfl rfl rfl c18) (opG_q (ev_load rfl rfl ty_int rfl rfl)) (.run (.yes (d := 46) rfl rfl rfl c18) (opG_q (ev_neq rfl rfl)) (.run (.yes (d := 46) rfl rfl rfl c18) (opG_q ev_move) (.skip (.no (d := 50) rfl rfl rfl c19) (.skip (.no (d := 50) rfl rfl rfl c19) (.skip (.no (d := 50) rfl rfl rfl c19) (.run (.yes (d := 46) rfl rfl rfl c18) (opG_q (ev_pick_f rfl c19)) (.run (.plain rfl) (opG_q (ev_pick_f rfl c18)) (.run (.plain rfl) (opG_q ev_move) (.run (.yes (d := 56) rfl rfl rfl rfl) (opG_q (ev_fieldAddr rfl ty_api_Fault.u rfl ty_int rfl)) (.run (.yes (d := 56) rfl rfl rfl rfl) (opG_q (ev_load rfl rfl ty_int rfl rfl)) (.run (.yes (d := 56) rfl rfl rfl rfl) (opG_q (ev_eql rfl rfl)) (.run (.yes (d := 56) rfl rfl rfl rfl) (opG_q ev_move) (.skip (.no (d := 60) rfl rfl rfl c24) (.skip (.no (d := 60) rfl rfl rfl c24) (.skip (.no (d := 60) rfl rfl rfl c24) (.skip (.no (d := 60) rfl rfl rfl c24) (.skip (.no (d := 60) rfl rfl rfl c24) .nil))))))))))))))))))))))) rfl ?_
              refine awpl_no (d := 60) rfl rfl rfl c24 ?_
              refine awpl_yes (d := 56) rfl rfl rfl rfl (opTo_q (d := 67) rfl rfl (ev_pick_f rfl c24)) ?_
              refine awpl_op rfl (opTo_q (d := 68) rfl rfl (ev_pick_f rfl rfl)) ?_
              refine awpl_nil ?_
              cases hr
              exact joinK_normal _ rfl (frLe_cons rfl (frLe_cons rfl (frLe_cons rfl (frLe_cons rfl (frLe_cons rfl (frLe_cons rfl frLe_nil)))))) (stoLe_cons rfl stoLe_nil)
      · rintro _ rfl
        have hr := hy
        clear hx hy
        refine awp_cond rfl (fun c27 => ?_) (fun c27 => ?_)
        · replace hr := cond_t c27 hr
          refine awp_seq ?_
          refine awp_region ?_
          refine awpl_op rfl (opTo_q (d := 2) rfl rfl ev_assign) ?_
          refine awpl_nil ?_
          refine kthen_normal ?_
          refine awp_ret ?_
          refine kthen_ret ?_
          cases hr
          exact kret' rfl (.cons (res_tmp rfl) .nil) rfl
        · replace hr := cond_f c27 hr
          refine awp_skip ?_
          refine kthen_normal ?_
          refine awp_seq ?_
          refine awp_seq ?_
          refine awp_region ?_
          refine awpl_op rfl (opTo_q (d := 69) rfl rfl ev_move) ?_
          refine awpl_op rfl (opTo_q (d := 70) rfl rfl (ev_llen (f := cU) rfl ty_s_uint8.u)) ?_
          refine awpl_op rfl (opTo_q (d := 71) rfl rfl (ev_gtr rfl rfl)) ?_
          refine awpl_nil ?_
          refine kthen_normal ?_
          refine awp_cond rfl (fun c28 => ?_) (fun c28 => ?_)
          · replace hr := cond_t c28 hr
            obtain ⟨j29, hx, hy⟩ := bind_some hr
            refine awp_join (fun j29 => [(2, .bo j29)]) (fun j29 => []) (fun z => j29 = z) ?_ ?_
            · have hr := hx
              clear hx hy
              obtain ⟨v30, h31, hr⟩ := bind_some hr
              refine awp_drawn 2 [(73, .agg [.i v30.Code, .i v30.Index]), (72, .agg [.i v3.2.2.2.Code, .i v3.2.2.2.Index])] mixed (by kernel_rfl) rfl rfl (.run (.plain rfl) (opG_q (ev_loadN rfl rfl ty_api_Fault rfl rfl)) (.run (.plain rfl) (opG_call (R_At_run 1 ((-1)) v30 h31) rfl) .nil)) rfl ?_
              refine awpl_op rfl (opTo_q (d := 74) rfl rfl (ev_structeq rfl rfl ty_api_Fault cmp_api_Fault (.int rfl (by decide) ty_int (.int rfl (by decide) ty_int .nil)))) ?_
              refine awpl_op rfl (opTo_q (d := 75) rfl rfl ev_move) ?_
              refine bool_split ((allEq [(v3.2.2.2.Code == v30.Code), (v3.2.2.2.Index == v30.Index)])) (fun c32 => ?_) (fun c32 => ?_)
              · replace hr := cond_t c32 hr
                refine awpl_yes (d := 75) rfl rfl rfl c32 (opTo_q (d := 76) rfl rfl ev_move) ?_
                refine awpl_yes (d := 75) rfl rfl rfl c32 (opTo_q (d := 77) rfl rfl (ev_llen (f := cU) rfl ty_s_uint8.u)) ?_
                refine awpl_yes (d := 75) rfl rfl rfl c32 (opTo_q (d := 78) rfl rfl (ev_eql rfl rfl)) ?_
                refine awpl_op rfl (opTo_q (d := 79) rfl rfl (ev_pick_t rfl c32)) ?_
                refine awpl_op rfl (opTo_q (d := 80) rfl rfl ev_move) ?_
                refine bool_split (((v3.1.length : Int) == 0)) (fun c33 => ?_) (fun c33 => ?_)
                · replace hr := cond_t c33 hr
                  refine awpl_yes (d := 80) rfl rfl rfl c33 (opTo_q (d := 81) rfl rfl ev_move) ?_
                  refine awpl_yes (d := 80) rfl rfl rfl c33 (opTo_q (d := 82) rfl rfl (ev_eql rfl rfl)) ?_
                  refine awpl_op rfl (opTo_q (d := 83) rfl rfl (ev_pick_t rfl c33)) ?_
                  refine awpl_op rfl (opTo_q (d := 84) rfl rfl ev_move) ?_
                  refine bool_split ((v3.2.1 == 0)) (fun c34 => ?_) (fun c34 => ?_)
                  · replace hr := cond_t c34 hr
                    refine awpl_yes (d := 84) rfl rfl rfl c34 (opTo_q (d := 85) rfl rfl ev_move) ?_
                    refine awpl_yes (d := 84) rfl rfl rfl c34 (opTo_q (d := 86) rfl rfl (ev_not rfl)) ?_
                    refine awpl_op rfl (opTo_q (d := 87) rfl rfl (ev_pick_t rfl c34)) ?_
                    refine awpl_op rfl (opTo_q (d := 2) rfl rfl ev_assign) ?_
                    refine awpl_nil ?_
                    cases hr
                    exact joinK_normal _ rfl (frLe_cons rfl frLe_nil) stoLe_nil
                  · replace hr := cond_f c34 hr
                    refine awpl_no (d := 84) rfl rfl rfl c34 ?_
                    refine awpl_no (d := 84) rfl rfl rfl c34 ?_
                    refine awpl_op rfl (opTo_q (d := 87) rfl rfl (ev_pick_f rfl c34)) ?_
                    refine awpl_op rfl (opTo_q (d := 2) rfl rfl ev_assign) ?_
                    refine awpl_nil ?_
                    cases hr
                    exact joinK_normal _ rfl (frLe_cons rfl frLe_nil) stoLe_nil
                · replace hr := cond_f c33 hr
                  refine awpl_no (d := 80) rfl rfl rfl c33 ?_
                  refine awpl_no (d := 80) rfl rfl rfl c33 ?_
                  refine awpl_op rfl (opTo_q (d := 83) rfl rfl (ev_pick_f rfl c33)) ?_
                  refine awpl_op rfl (opTo_q (d := 84) rfl rfl ev_move) ?_
                  refine awpl_no (d := 84) rfl rfl rfl rfl ?_
                  refine awpl_no (d := 84) rfl rfl rfl rfl ?_
                  refine awpl_op rfl (opTo_q (d := 87) rfl rfl (ev_pick_f rfl rfl)) ?_
                  refine awpl_op rfl (opTo_q (d := 2) rfl rfl ev_assign) ?_
                  refine awpl_nil ?_
                  cases hr
                  exact joinK_normal _ rfl (frLe_cons rfl frLe_nil) stoLe_nil
              · replace hr := cond_f c32 hr
                refine awpl_no (d := 75) rfl rfl rfl c32 ?_
                refine awpl_no (d := 75) rfl rfl rfl c32 ?_
                refine awpl_no (d := 75) rfl rfl rfl c32 ?_
                refine awpl_op rfl (opTo_q (d := 79) rfl rfl (ev_pick_f rfl c32)) ?_
                refine awpl_op rfl (opTo_q (d := 80) rfl rfl ev_move) ?_
                refine awpl_no (d := 80) rfl rfl rfl rfl ?_
                refine awpl_no (d := 80) rfl rfl rfl rfl ?_
                refine awpl_op rfl (opTo_q (d := 83) rfl rfl (ev_pick_f rfl rfl)) ?_
                refine awpl_op rfl (opTo_q (d := 84) rfl rfl ev_move) ?_
                refine awpl_no (d := 84) rfl rfl rfl rfl ?_
                refine awpl_no (d := 84) rfl rfl rfl rfl ?_
                refine awpl_op rfl (opTo_q (d := 87) rfl rfl (ev_pick_f rfl rfl)) ?_
                refine awpl_op rfl (opTo_q (d := 2) rfl rfl ev_assign) ?_
                refine awpl_nil ?_
                cases hr
                exact joinK_normal _ rfl (frLe_cons rfl frLe_nil) stoLe_nil
            · rintro _ rfl
              have hr := hy
              clear hx hy
              refine awp_ret ?_
              refine kthen_ret ?_
              cases hr
              exact kret' rfl (.cons (res_tmp rfl) .nil) rfl
          · replace hr := cond_f c28 hr
            refine awp_skip ?_
            refine kthen_normal ?_
            refine awp_seq ?_
            refine awp_region ?_
            refine awpl_op rfl (opTo_q (d := 89) rfl rfl ev_move) ?_
            obtain ⟨v35, h36, hr⟩ := bind_some hr
            refine awpl_op rfl (opTo_call (k := 90) (R_Received_run a0 v35 h36) rfl rfl) ?_
            refine awpl_op rfl (opTo_q (d := 88) rfl rfl ev_move) ?_
            refine awpl_op rfl (opTo_q (d := 91) rfl rfl (ev_extract rfl rfl)) ?_
            refine awpl_op rfl (opTo_q (d := 92) rfl rfl (ev_extract rfl rfl)) ?_
            refine awpl_op rfl (opTo_q (d := 93) rfl rfl (ev_extract rfl rfl)) ?_
            refine awpl_op rfl (opTo_q (d := 12) rfl rfl ev_assign) ?_
            refine awpl_op rfl (opTo_q (d := 13) rfl rfl ev_assign) ?_
            refine awpl_op rfl (opTo_q (d := 14) rfl rfl ev_assign) ?_
            refine awpl_nil ?_
            refine kthen_normal ?_
            refine awp_seq ?_
            refine awp_seq ?_
            refine awp_region ?_
            refine awpl_op rfl (opTo_q (d := 94) rfl rfl ev_move) ?_
            refine awpl_nil ?_
            refine kthen_normal ?_
            refine awp_cond rfl (fun c37 => ?_) (fun c37 => ?_)
            · replace hr := cond_t c37 hr
              obtain ⟨j38, hx, hy⟩ := bind_some hr
              refine awp_join (fun j38 => [(2, .bo j38)]) (fun j38 => []) (fun z => j38 = z) ?_ ?_
              · have hr := hx
                clear hx hy
                obtain ⟨v39, h40, hr⟩ := bind_some hr
                refine awp_drawn 2 [(96, .agg [.i v39.Code, .i v39.Index]), (95, .agg [.i v3.2.2.2.Code, .i v3.2.2.2.Index])] mixed (by kernel_rfl) rfl rfl (.run (.plain rfl) (opG_q (ev_loadN rfl rfl ty_api_Fault rfl rfl)) (.run (.plain rfl) (opG_call (R_At_run 1 ((-2)) v39 h40) rfl) .nil)) rfl ?_
                refine awpl_op rfl (opTo_q (d := 97) rfl rfl (ev_structeq rfl rfl ty_api_Fault cmp_api_Fault (.int rfl (by decide) ty_int (.int rfl (by decide) ty_int .nil)))) ?_
                refine awpl_op rfl (opTo_q (d := 98) rfl rfl ev_move) ?_
                refine bool_split ((allEq [(v3.2.2.2.Code == v39.Code), (v3.2.2.2.Index == v39.Index)])) (fun c41 => ?_) (fun c41 => ?_)
                · replace hr := cond_t c41 hr
                  refine awpl_yes (d := 98) rfl rfl rfl c41 (opTo_q (d := 99) rfl rfl ev_move) ?_
                  refine awpl_yes (d := 98) rfl rfl rfl c41 (opTo_q (d := 100) rfl rfl (ev_llen (f := cU) rfl ty_s_uint8.u)) ?_
                  refine awpl_yes (d := 98) rfl rfl rfl c41 (opTo_q (d := 101) rfl rfl (ev_eql rfl rfl)) ?_
                  refine awpl_op rfl (opTo_q (d := 102) rfl rfl (ev_pick_t rfl c41)) ?_
                  refine awpl_op rfl (opTo_q (d := 103) rfl rfl ev_move) ?_
                  refine bool_split (((v3.1.length : Int) == 0)) (fun c42 => ?_) (fun c42 => ?_)
                  · replace hr := cond_t c42 hr
                    refine awpl_yes (d := 103) rfl rfl rfl c42 (opTo_q (d := 104) rfl rfl ev_move) ?_
                    refine awpl_yes (d := 103) rfl rfl rfl c42 (opTo_q (d := 105) rfl rfl (ev_eql rfl rfl)) ?_
                    refine awpl_op rfl (opTo_q (d := 106) rfl rfl (ev_pick_t rfl c42)) ?_
                    refine awpl_op rfl (opTo_q (d := 107) rfl rfl ev_move) ?_
                    refine bool_split ((v3.2.1 == 0)) (fun c43 => ?_) (fun c43 => ?_)
                    · replace hr := cond_t c43 hr
                      refine awpl_yes (d := 107) rfl rfl rfl c43 (opTo_q (d := 108) rfl rfl ev_move) ?_
                      refine awpl_yes (d := 107) rfl rfl rfl c43 (opTo_q (d := 109) rfl rfl (ev_not rfl)) ?_
                      refine awpl_op rfl (opTo_q (d := 110) rfl rfl (ev_pick_t rfl c43)) ?_
                      refine awpl_op rfl (opTo_q (d := 2) rfl rfl ev_assign) ?_
                      refine awpl_nil ?_
                      cases hr
                      exact joinK_normal _ rfl (frLe_cons rfl frLe_nil) stoLe_nil
                    · replace hr := cond_f c43 hr
                      refine awpl_no (d := 107) rfl rfl rfl c43 ?_
                      refine awpl_no (d := 107) rfl rfl rfl c43 ?_
                      refine awpl_op rfl (opTo_q (d := 110) rfl rfl (ev_pick_f rfl c43)) ?_
                      refine awpl_op rfl (opTo_q (d := 2) rfl rfl ev_assign) ?_
                      refine awpl_nil ?_
                      cases hr
                      exact joinK_normal _ rfl (frLe_cons rfl frLe_nil) stoLe_nil
                  · replace hr := cond_f c42 hr
                    refine awpl_no (d := 103) rfl rfl rfl c42 ?_
                    refine awpl_no (d := 103) rfl rfl rfl c42 ?_
                    refine awpl_op rfl (opTo_q (d := 106) rfl rfl (ev_pick_f rfl c42)) ?_
                    refine awpl_op rfl (opTo_q (d := 107) rfl rfl ev_move) ?_
                    refine awpl_no (d := 107) rfl rfl rfl rfl ?_
                    refine awpl_no (d := 107) rfl rfl rfl rfl ?_
                    refine awpl_op rfl (opTo_q (d := 110) rfl rfl (ev_pick_f rfl rfl)) ?_
                    refine awpl_op rfl (opTo_q (d := 2) rfl rfl ev_assign) ?_
                    refine awpl_nil ?_
                    cases hr
                    exact joinK_normal _ rfl (frLe_cons rfl frLe_nil) stoLe_nil
                · replace hr := cond_f c41 hr
                  refine awpl_no (d := 98) rfl rfl rfl c41 ?_
                  refine awpl_no (d := 98) rfl rfl rfl c41 ?_
                  refine awpl_no (d := 98) rfl rfl rfl c41 ?_
                  refine awpl_op rfl (opTo_q (d := 102) rfl rfl (ev_pick_f rfl c41)) ?_
                  refine awpl_op rfl (opTo_q (d := 103) rfl rfl ev_move) ?_
                  refine awpl_no (d := 103) rfl rfl rfl rfl ?_
                  refine awpl_no (d := 103) rfl rfl rfl rfl ?_
                  refine awpl_op rfl (opTo_q (d := 106) rfl rfl (ev_pick_f rfl rfl)) ?_
                  refine awpl_op rfl (opTo_q (d := 107) rfl rfl ev_move) ?_
                  refine awpl_no (d := 107) rfl rfl rfl rfl ?_
                  refine awpl_no (d := 107) rfl rfl rfl rfl ?_
                  refine awpl_op rfl (opTo_q (d := 110) rfl rfl (ev_pick_f rfl rfl)) ?_
                  refine awpl_op rfl (opTo_q (d := 2) rfl rfl ev_assign) ?_
                  refine awpl_nil ?_
                  cases hr
                  exact joinK_normal _ rfl (frLe_cons rfl frLe_nil) stoLe_nil
              · rintro _ rfl
                have hr := hy
                clear hx hy
                refine awp_ret ?_
                refine kthen_ret ?_
                cases hr
                exact kret' rfl (.cons (res_tmp rfl) .nil) rfl
            · replace hr := cond_f c37 hr
              refine awp_skip ?_
              refine kthen_normal ?_
              obtain ⟨j44, hx, hy⟩ := bind_some hr
              refine awp_join (fun j44 => [(2, .bo j44)]) (fun j44 => []) (fun z => j44 = z) ?_ ?_
              · have hr := hx
                clear hx hy
                refine awp_region ?_
                refine awpl_op rfl (opTo_q (d := 111) rfl rfl (ev_fieldAddr rfl ty_api_Fault.u rfl ty_int rfl)) ?_
                refine awpl_op rfl (opTo_q (d := 112) rfl rfl (ev_load rfl rfl ty_int rfl rfl)) ?_
                refine awpl_op rfl (opTo_q (d := 113) rfl rfl (ev_eql rfl rfl)) ?_
                refine awpl_op rfl (opTo_q (d := 114) rfl rfl ev_move) ?_
                refine bool_split ((v3.2.2.2.Code == 0)) (fun c45 => ?_) (fun c45 => ?_)
                · replace hr := cond_t c45 hr
                  refine awpl_yes (d := 114) rfl rfl rfl c45 (opTo_q (d := 115) rfl rfl ev_move) ?_
                  refine awpl_yes (d := 114) rfl rfl rfl c45 (opTo_q (d := 116) rfl rfl ev_move) ?_
                  refine awpl_yes (d := 114) rfl rfl rfl c45 (opTo_q (d := 117) rfl rfl (ev_gtr rfl rfl)) ?_
                  refine awpl_yes (d := 114) rfl rfl rfl c45 (opTo_q (d := 118) rfl rfl (ev_beql rfl rfl ty_bool)) ?_
                  refine awpl_op rfl (opTo_q (d := 119) rfl rfl (ev_pick_t rfl c45)) ?_
                  refine awpl_op rfl (opTo_q (d := 120) rfl rfl ev_move) ?_
                  refine bool_split ((v3.2.2.1 == decide (0 < v35.2.1))) (fun c46 => ?_) (fun c46 => ?_)
                  · replace hr := cond_t c46 hr
                    refine awpl_yes (d := 120) rfl rfl rfl c46 (opTo_q (d := 121) rfl rfl ev_move) ?_
                    refine awpl_yes (d := 120) rfl rfl rfl c46 (opTo_q (d := 122) rfl rfl ev_move) ?_
                    refine awpl_yes (d := 120) rfl rfl rfl c46 (opTo_q (d := 123) rfl rfl (ev_eql rfl rfl)) ?_
                    refine awpl_op rfl (opTo_q (d := 124) rfl rfl (ev_pick_t rfl c46)) ?_
                    refine awpl_op rfl (opTo_q (d := 125) rfl rfl ev_move) ?_
                    refine bool_split ((v3.2.1 == v35.2.1)) (fun c47 => ?_) (fun c47 => ?_)
                    · replace hr := cond_t c47 hr
                      refine awpl_yes (d := 125) rfl rfl rfl c47 (opTo_q (d := 126) rfl rfl ev_move) ?_
                      refine awpl_yes (d := 125) rfl rfl rfl c47 (opTo_q (d := 127) rfl rfl (ev_bytes2s rfl ty_s_uint8 ty_uint8 ty_string)) ?_
                      refine awpl_yes (d := 125) rfl rfl rfl c47 (opTo_q (d := 128) rfl rfl ev_move) ?_
                      refine awpl_yes (d := 125) rfl rfl rfl c47 (opTo_q (d := 129) rfl rfl (ev_bytes2s rfl ty_s_uint8 ty_uint8 ty_string)) ?_
                      refine awpl_yes (d := 125) rfl rfl rfl c47 (opTo_q (d := 130) rfl rfl (ev_seql (a := v3.1) (b := v35.1) rfl rfl)) ?_
                      refine awpl_op rfl (opTo_q (d := 131) rfl rfl (ev_pick_t rfl c47)) ?_
                      refine awpl_op rfl (opTo_q (d := 2) rfl rfl ev_assign) ?_
                      refine awpl_nil ?_
                      cases hr
                      exact joinK_normal _ rfl (frLe_cons rfl frLe_nil) stoLe_nil
                    · replace hr := cond_f c47 hr
                      refine awpl_no (d := 125) rfl rfl rfl c47 ?_
                      refine awpl_no (d := 125) rfl rfl rfl c47 ?_
                      refine awpl_no (d := 125) rfl rfl rfl c47 ?_
                      refine awpl_no (d := 125) rfl rfl rfl c47 ?_
                      refine awpl_no (d := 125) rfl rfl rfl c47 ?_
                      refine awpl_op rfl (opTo_q (d := 131) rfl rfl (ev_pick_f rfl c47)) ?_
                      refine awpl_op rfl (opTo_q (d := 2) rfl rfl ev_assign) ?_
                      refine awpl_nil ?_
                      cases hr
                      exact joinK_normal _ rfl (frLe_cons rfl frLe_nil) stoLe_nil
                  · replace hr := cond_f c46 hr
                    refine awpl_no (d := 120) rfl rfl rfl c46 ?_
                    refine awpl_no (d := 120) rfl rfl rfl c46 ?_
                    refine awpl_no (d := 120) rfl rfl rfl c46 ?_
                    refine awpl_op rfl (opTo_q (d := 124) rfl rfl (ev_pick_f rfl c46)) ?_
                    refine awpl_op rfl (opTo_q (d := 125) rfl rfl ev_move) ?_
                    refine awpl_no (d := 125) rfl rfl rfl rfl ?_
                    refine awpl_no (d := 125) rfl rfl rfl rfl ?_
                    refine awpl_no (d := 125) rfl rfl rfl rfl ?_
                    refine awpl_no (d := 125) rfl rfl rfl rfl ?_
                    refine awpl_no (d := 125) rfl rfl rfl rfl ?_
                    refine awpl_op rfl (opTo_q (d := 131) rfl rfl (ev_pick_f rfl rfl)) ?_
                    refine awpl_op rfl (opTo_q (d := 2) rfl rfl ev_assign) ?_
                    refine awpl_nil ?_
                    cases hr
                    exact joinK_normal _ rfl (frLe_cons rfl frLe_nil) stoLe_nil
                · replace hr := cond_f c45 hr
                  refine awpl_no (d := 114) rfl rfl rfl c45 ?_
                  refine awpl_no (d := 114) rfl rfl rfl c45 ?_
                  refine awpl_no (d := 114) rfl rfl rfl c45 ?_
                  refine awpl_no (d := 114) rfl rfl rfl c45 ?_
                  refine awpl_op rfl (opTo_q (d := 119) rfl rfl (ev_pick_f rfl c45)) ?_
                  refine awpl_op rfl (opTo_q (d := 120) rfl rfl ev_move) ?_
                  refine awpl_no (d := 120) rfl rfl rfl rfl ?_
                  refine awpl_no (d := 120) rfl rfl rfl rfl ?_
                  refine awpl_no (d := 120) rfl rfl rfl rfl ?_
                  refine awpl_op rfl (opTo_q (d := 124) rfl rfl (ev_pick_f rfl rfl)) ?_
                  refine awpl_op rfl (opTo_q (d := 125) rfl rfl ev_move) ?_
                  refine awpl_no (d := 125) rfl rfl rfl rfl ?_
                  refine awpl_no (d := 125) rfl rfl rfl rfl ?_
                  refine awpl_no (d := 125) rfl rfl rfl rfl ?_
                  refine awpl_no (d := 125) rfl rfl rfl rfl ?_
                  refine awpl_no (d := 125) rfl rfl rfl rfl ?_
                  refine awpl_op rfl (opTo_q (d := 131) rfl rfl (ev_pick_f rfl rfl)) ?_
                  refine awpl_op rfl (opTo_q (d := 2) rfl rfl ev_assign) ?_
                  refine awpl_nil ?_
                  cases hr
                  exact joinK_normal _ rfl (frLe_cons rfl frLe_nil) stoLe_nil
              · rintro _ rfl
                have hr := hy
                clear hx hy
                refine awp_ret ?_
                cases hr
                exact kret' rfl (.cons (res_tmp rfl) .nil) rfl
end Go.Proofs.Ytlpmbmilnoncdaa

/- Small facts that all my walks use: endings, blocks, rows, frames. No program is named. -/
namespace Go.Proofs.Ytlpmbmilnoncdaa
open Go.RowKit

theorem ret_bool {a b : Bool} (h : a = b) : Ending.returned (.bool a) = .returned (.bool b) := by rw [h]
theorem ret_int {k : IntKind} {a b : Int} (h : a = b) : Ending.returned (.int k a) = .returned (.int k b) := by rw [h]

theorem take_all {α : Type} (p : α → Bool) (l : List α) (k : Nat) (h : k < l.length) : (l.take (k + 1)).all p = ((l.take k).all p && p l[k]) := by
  rw [List.take_succ_eq_append_getElem h, List.all_append]; simp
theorem all_false {α : Type} (p : α → Bool) (l : List α) (k : Nat) (h : k < l.length) (hp : p l[k] = false) : l.all p = false := by
  rw [List.all_eq_false]; exact ⟨l[k], List.getElem_mem h, by simp [hp]⟩

theorem bcell {W w1 : World} (hb : Below W.heap.size W w1) : (∀ b o, b < W.heap.size → w1.cell? ⟨b, o, none⟩ = W.cell? ⟨b, o, none⟩) ∧ (∀ b o, b < W.heap.size → w1.frozen? ⟨b, o, none⟩ = W.frozen? ⟨b, o, none⟩) :=
  ⟨fun b o h => hb.cell (p := ⟨b, o, none⟩) h, fun b o h => hb.frozen (p := ⟨b, o, none⟩) h⟩


/-- block b is just these cells, none frozen -/
def Blk (w : World) (b : Nat) (t : TypeId) (cs : Array Value) : Prop := w.heap[b]? = some (.cells cs t (0, 0))
theorem Blk.lt {w : World} {b : Nat} {t : TypeId} {cs : Array Value} (h : Blk w b t cs) : b < w.heap.size := by
  rcases Nat.lt_or_ge b w.heap.size with hlt | hge
  · exact hlt
  · unfold Blk at h; rw [Array.getElem?_eq_none hge] at h; cases h
theorem Blk.two {w : World} {b : Nat} {t : TypeId} {x y : Value} (h : Blk w b t #[x, y]) :
    w.cell? ⟨b, 0, none⟩ = some x ∧ w.cell? ⟨b, 1, none⟩ = some y ∧ w.frozen? ⟨b, 0, none⟩ = false ∧ w.frozen? ⟨b, 1, none⟩ = false ∧ b < w.heap.size := by
  refine ⟨?_, ?_, ?_, ?_, h.lt⟩ <;> unfold Blk at h <;> simp [World.cell?, World.frozen?, h]
theorem Blk.new (w : World) (t : TypeId) (cs : Array Value) : Blk (w.alloc (.cells cs t)) w.heap.size t cs := heap_alloc_new w _
theorem Blk.alloc {w : World} {b : Nat} {t : TypeId} {cs : Array Value} (h : Blk w b t cs) (o : Obj) : Blk (w.alloc o) b t cs := (Below.heap_alloc w o b h.lt).trans h
theorem Blk.below {w w' : World} {b : Nat} {t : TypeId} {cs : Array Value} {B : Nat} (h : Blk w b t cs) (hb : Below B w w') (hg : b < B) : Blk w' b t cs := (hb.block b hg).trans h

theorem val_int {k : IntKind} {a b : Int} (h : a = b) : Value.int k a = .int k b := by rw [h]
theorem tup3 {k : IntKind} {a b : Int} {x y : Value} (h : a = b) : Ending.returned (.tuple #[.int k a, x, y]) = .returned (.tuple #[.int k b, x, y]) := by rw [h]
section
variable {w1 w2 : World} {b t : Nat} {cs : Array Value} {o : Obj}
theorem Blk.step_new (hb : Below (w1.alloc (.cells cs t)).heap.size (w1.alloc (.cells cs t)) w2) : Blk w2 w1.heap.size t cs :=
  (Blk.new w1 t cs).below hb (by simp)
theorem Blk.step_old (h : Blk w1 b t cs) (hb : Below (w1.alloc o).heap.size (w1.alloc o) w2) : Blk w2 b t cs :=
  (h.alloc o).below hb (by have := h.lt; simp; omega)
end
theorem below_step {w w1 w2 : World} {o : Obj} (h : Below w.heap.size w w1) (hb : Below (w1.alloc o).heap.size (w1.alloc o) w2) : Below w.heap.size w w2 :=
  (h.alloc h.size o).trans (hb.mono (by have := h.size; simp; omega))
theorem below_trans {w w1 w2 : World} (h : Below w.heap.size w w1) (hb : Below w1.heap.size w1 w2) : Below w.heap.size w w2 :=
  h.trans (hb.mono h.size)

theorem keep2 {W w5 w6 : World} {b : Nat} {x y : Value} (h : w5.cell? ⟨b, 0, none⟩ = some x ∧ w5.cell? ⟨b, 1, none⟩ = some y ∧ Below W.heap.size W w5) (hb : b < W.heap.size) (k : Below w5.heap.size w5 w6) :
    w6.cell? ⟨b, 0, none⟩ = some x ∧ w6.cell? ⟨b, 1, none⟩ = some y ∧ Below W.heap.size W w6 := by
  have hs := h.2.2.size
  exact ⟨(k.cell (p := ⟨b, 0, none⟩) (Nat.lt_of_lt_of_le hb hs)).trans h.1, (k.cell (p := ⟨b, 1, none⟩) (Nat.lt_of_lt_of_le hb hs)).trans h.2.1, below_trans h.2.2 k⟩

/-- a slice of cells, one a value: it holds these values -/
def Row (w : World) (a : Option Addr) (len : Nat) (vs : List Value) : Prop :=
  vs.length = len ∧ (len = 0 ∨ ∃ b off, a = some ⟨b, off, none⟩ ∧ ∀ i v, vs[i]? = some v → w.cell? ⟨b, off + i, none⟩ = some v)


end Go.Proofs.Ytlpmbmilnoncdaa

/- What every law's row wants at its end: arguments of any shape read as they did where nothing that was there has turned. -/
namespace Go.Proofs.Ytlpmbmilnoncdaa
open Go.ChangeShapes Go.WideShapes Go.ChangeAt Go.RowKit
open Go.ChangeMaps (open_string shut_string)

theorem own : ownKnob Try.prog.godebug = none := by kernel_rfl
theorem laidOut : laidOutB Try.prog = true := by kernel_rfl

theorem trodAll_stays {H : Type} {enc : TypeId × Value → H} {P : Program} (hl : laidOutB P = true) {W W' : World} (hb : Below W.heap.size W W') :
    ∀ (ts : List TypeId) (vs : List Value) (ds : List (DataW H)) (ps : List MemPlace), (ts.all fun t => P.readableRec t && decide (t < P.types.size)) = true →
      DataW.TrodAll enc P W 0 (fun _ => true) true ts vs ds ps → DataW.TrodAll enc P W' 0 (fun b => decide (b < W.heap.size)) true ts vs ds ps
  | [], [], [], _, _, h => h
  | t :: ts, v :: vs, d :: ds, ps, hts, ⟨p, q, h, hs, e⟩ => by
    simp only [List.all_cons, Bool.and_eq_true, decide_eq_true_eq] at hts
    have lt : ∀ x ∈ p, x.block < W.heap.size := by obtain ⟨m, hm⟩ := h; exact DataW.trod_lt m _ _ _ hm
    exact ⟨p, q, Below.trod hl hts.1.1 hts.1.2 h hb lt, trodAll_stays hl hb ts vs ds q hts.2 hs, e⟩

/-- THE POST of a law: it returned true, and nothing that was there has turned. -/
theorem post_true {H : Type} {enc : TypeId × Value → H} {P : Program} {f : Func} {s : ChangeSpec} {t : TypeId} (hl : laidOutB P = true) (hres : f.resultTypes = #[t]) (ht : P.underlying t = some .bool)
    (hts : (f.params.toList.all fun t => P.readableRec t && decide (t < P.types.size)) = true) {W W' : World} {args : Array Value} {ds gs : List (DataW H)} {before : List MemPlace} (hv : s.vars = [])
    (hspec : s.fn H (ds ++ gs) = { results := [.lit (.bool true)], args := ds, vars := [] })
    (hW : DataW.Whole enc P f.params.toList s.vars false W args.toList ds gs before) (hb : Below W.heap.size W W') :
    s.post enc P f false true false false W args (.bool true) W' := by
  have hW' := hW
  obtain ⟨p, q, hA, hV, hbe, hfz, hnd⟩ := hW
  refine ⟨ds, gs, before, [], p, [], hW', ?_, ?_, ?_, ?_, fun h => by cases h⟩
  · rw [hspec, hres]; exact trodAll_mk1 (shut_bool ht _)
  · rw [hspec]; exact trodAll_stays hl hb _ _ _ _ hts hA
  · rw [hspec, hv]; rfl
  · have hq : q = [] := by rw [hv] at hV; cases gs with
      | nil => exact hV
      | cons g gs => exact hV.elim
    refine World.keptBut_mono (fun p hp => ⟨hp, ?_⟩) (hb.frame (· ∈ before))
    rw [hbe, hq, List.append_nil] at hp
    exact .inr (.inl hp)

/-- a slice of integers that came in -/
theorem open_row_int {H : Type} {enc : TypeId × Value → H} {P : Program} {W : World} {base : Nat} {t e : TypeId} {k : IntKind} {v : Value} {d : DataW H} {p : List MemPlace} (ht : P.underlying t = some (.slice e)) (he : P.underlying e = some (.int k)) (hc : P.cellsOf e = 1)
    (hok : Value.okWide P W .any base t v) (h : DataW.Trod enc P W 0 (fun _ => true) true t v d p) :
    ∃ (a : Option Addr) (len cap : Nat) (zs : List Int), v = .slice a len cap ∧ len ≤ maxLen ∧ Row W a len (zs.map (Value.int k)) ∧ ∀ z ∈ zs, (Lit.int k z).wf = true := by
  obtain ⟨a, len, cap, rfl⟩ := okWide_slice ht hok
  obtain ⟨fuel, hf⟩ := h
  rcases open_ints ht he hc hf with ⟨hcs, _⟩ | ⟨x, l, c, zs, hcs, _, hl, hm, hz, _, hcell, hwz⟩
  · simp [Value.cells] at hcs
    obtain ⟨rfl, rfl, rfl⟩ := hcs
    exact ⟨none, 0, 0, [], rfl, Nat.zero_le _, ⟨rfl, .inl rfl⟩, by simp⟩
  · simp [Value.cells] at hcs
    obtain ⟨rfl, rfl, rfl⟩ := hcs
    have hz : zs.length = cap := by simpa using hz
    refine ⟨_, len, cap, zs.take len, rfl, Nat.le_trans hl hm, ⟨by simp; omega, ?_⟩, fun z hz => hwz z (List.mem_of_mem_take hz)⟩
    by_cases h0 : len = 0
    · exact .inl h0
    obtain ⟨b, off, spot⟩ := x
    have hc0 := hcell 0 (by omega)
    have hspot : spot = none := by simpa [Addr.add] using World.cell?_spot hc0
    subst hspot
    refine .inr ⟨b, off, rfl, fun i v hv => ?_⟩
    rw [List.getElem?_map, List.getElem?_take] at hv
    by_cases hi : i < len
    · rw [if_pos hi] at hv
      have hi2 : i < zs.length := by omega
      have := hcell i hi2
      rw [List.getElem?_eq_getElem hi2] at hv
      simp only [Option.map_some, Option.some.injEq] at hv
      subst hv
      have ea : (⟨b, off, none⟩ : Addr).add i = ⟨b, off + i, none⟩ := by
        unfold Addr.add
        by_cases h0 : i = 0
        · simp [h0]
        · simp [h0]
      rw [ea] at this
      rw [this]
      simp [hi2]
    · rw [if_neg hi] at hv
      simp at hv

end Go.Proofs.Ytlpmbmilnoncdaa

/- A row's frame for laws that read package variables of the library: the shape of the first world is handed over. -/
namespace Go.Proofs.Ytlpmbmilnoncdaa
open Go.ChangeShapes Go.WideShapes Go.ChangeAt Go.RowKit
theorem returnsInHanded_of_cond_shaped {H : Type} {enc : TypeId × Value → H} {a : Assume} {C : Checked} {os : Os} {f : FuncId} {fn : Func} {s : OpenSpec} {k : (H : Type) → List (DataW H) → Bool} (hk : s.cond = some k) {F : Stop.Interp} {conds : List PathCond} {apart fresh handsOn again : Bool}
    (own : ownKnob C.prog.godebug = none) (started : os.Started) (noInit : C.prog.inits.idxOf? f = none) (hfn : C.prog.funcs[f]? = some fn)
    (witness : ∃ (w : World) (tape : Tape) (i : Input), w.os = os ∧ (w.forCall tape i).Shaped C.prog ∧ i.vars = [] ∧ Input.okWide C.prog (w.forCall tape i) .any w.heap.size f i ∧
      s.pre6 enc C.prog fn conds apart (w.forCall tape i).memory i.args ∧ a.holds C.prog (lone (Frame.enter C.prog f i.args .normal) [] (w.forCall tape i)))
    (contract : ∀ (W : World) (base : Nat) (args : Array Value) (ds gs : List (DataW H)) (before : List MemPlace),
      (∀ (j : Nat) t v, fn.params[j]? = some t → args[j]? = some v → Value.okWide C.prog W .any base t v) →
      DataW.Whole enc C.prog fn.params.toList s.vars apart W args.toList ds gs before →
      conds.all (PathCond.test C.prog ⟨fn.params.toList, ds, s.bare.plain.varTypes C.prog, gs⟩) = true → k H (ds ++ gs) = true →
      W.ShapedOpen C.prog →
      a.holds C.prog (lone (Frame.enter C.prog f args .normal) [] W) →
      Calls C.prog f args W fun e W' => ∃ v, e = .returned v ∧ (s.at F).post enc C.prog fn apart fresh handsOn again W args v W') :
    ReturnsInHanded a C os f .any (s.pre6 enc C.prog fn conds apart) ((s.at F).post enc C.prog fn apart fresh handsOn again) := by
  refine returnsInHanded_of_calls own started noInit witness ?_
  intro w tape i _ hsh _ hok hpre hholds
  obtain ⟨_, _, _, fn', hfn', _, _, _, _, hval⟩ := hok
  have e : fn' = fn := Option.some.inj (hfn'.symm.trans hfn)
  subst e
  obtain ⟨ds, gs, before, hw, hc, hkk⟩ := (OpenSpec.pre_some hk conds apart _ _).1 hpre.1
  refine (contract (w.forCall tape i) w.heap.size i.args ds gs before hval (DataW.Whole.of_heap (w' := w.forCall tape i) (by rfl) hw) hc hkk hsh hholds).mono fun e W' ⟨v, he, hp⟩ => ?_
  subst he
  exact ChangeSpec.post_blind hp
theorem gl_of_shaped {W : World} (h : W.ShapedOpen Try.prog) : Gl (gAll W) := by
  intro p hp
  simp only [globs, List.mem_cons, List.not_mem_nil, or_false] at hp
  subst hp
  obtain ⟨m, hm⟩ := cell_of_shapedOpen_int (P := Try.prog) (g := 0) (t := 3) (zero := #[.int .i64 0]) h (of_decide_eq_true (by kernel_rfl)) (by kernel_rfl) rfl (by kernel_rfl) (by kernel_rfl) Try.underlying3
  obtain ⟨h1, h2⟩ := uAll_lt hm
  exact ⟨h2, h1, m, hm⟩
end Go.Proofs.Ytlpmbmilnoncdaa

namespace Go.Proofs.Ytlpmbmilnoncdaa.linesDataMatchSpec
open Go.ChangeShapes Go.WideShapes Go.ChangeAt Go.RowKit
set_option linter.unusedVariables false
set_option maxRecDepth 100000

theorem contract (H : Type) (enc : TypeId × Value → H) (W : World) (base : Nat) (args : Array Value) (ds gs : List (DataW H)) (before : List MemPlace)
    (hval : ∀ (j : Nat) t v, Try.f7.params[j]? = some t → args[j]? = some v → Value.okWide Try.prog W .any base t v)
    (hW : DataW.Whole enc Try.prog Try.f7.params.toList Rows.linesDataMatchSpecSpec.vars false W args.toList ds gs before) (hk : Rows.uptoSmall H (ds ++ gs) = true) (hgl : Gl (gAll W)) :
    Calls Try.prog 7 args W fun e W' => ∃ v, e = .returned v ∧ Rows.linesDataMatchSpecSpec.post enc Try.prog Try.f7 false true false false W args v W' := by
  have hW' := hW
  obtain ⟨p, q, hA0, hV, rfl, hfz, hnd⟩ := hW
  have hA : DataW.TrodAll enc Try.prog W 0 (fun _ => true) true Try.f7.params.toList args.toList ds p := hA0
  rw [Try.params7] at hA hval
  obtain ⟨v0, vs0, d0, ds0, p0, q0, hargs, rfl, rfl, h0, r0⟩ := trodAll_cons hA
  obtain ⟨rfl, rfl, rfl⟩ := trodAll_nil r0
  obtain rfl : args = #[v0] := by cases args; simp_all
  obtain ⟨rfl, rfl⟩ := trodVars_none hV
  obtain ⟨a0, e0, o0, k0⟩ := arg_one op_s_uint8 (by obtain ⟨_, _, _, h⟩ := okWide_slice ty_s_uint8.u (hval 0 _ v0 rfl rfl); rw [h]; rfl) h0
  have hk2 := of_decide_eq_true hk
  simp only [List.append_nil, Rows.uptoBulkAll] at hk2
  have ht := L_LinesDataMatchSpec_true a0 o0 (by omega)
  have key : Calls Try.prog 7 #[v0] W fun e W' => e = .returned (.bool true) ∧ Below W.heap.size W W' := calls_of_run (L_LinesDataMatchSpec_run a0 true ht) hgl (relArgs_of (.cons (e0 _ rfl) .nil))
  refine key.mono fun e W' ⟨he, hb⟩ => ⟨_, he, ?_⟩
  exact post_true laidOut (by kernel_rfl) Try.underlying4 (by kernel_rfl) rfl rfl hW' hb

theorem lifted (os : Os) (started : os.Started) (H : Type) (enc : TypeId × Value → H) (F : Stop.Interp) :
    ReturnsInHanded {} Try.checked os 7 .any ((Rows.OpenSpec.upto Rows.linesDataMatchSpecSpec).pre6 enc Try.prog Try.f7 Rows.linesDataMatchSpecUptoRow.domain false) (((Rows.OpenSpec.upto Rows.linesDataMatchSpecSpec).at F).post enc Try.prog Try.f7 false true false false) := by
  refine returnsInHanded_of_cond_shaped (C := Try.checked) (s := Rows.OpenSpec.upto Rows.linesDataMatchSpecSpec) (k := Rows.uptoSmall) rfl own started (by kernel_rfl) Try.func7
    (OpenSpec.witness (enc := enc) (C := Try.checked) (s := Rows.OpenSpec.upto Rows.linesDataMatchSpecSpec) (k := Rows.uptoSmall) rfl false ⟨#[], #[.slice none 0 0], []⟩ 8 (by kernel_rfl) (by kernel_rfl) (by kernel_rfl)
      (x := ([.nil], [], [])) (by kernel_rfl) rfl (by kernel_rfl)) ?_
  intro W base args ds gs before hval hW _ hk hsh _
  exact contract H enc W base args ds gs before hval hW hk (gl_of_shaped hsh)

theorem over : Rows.linesDataMatchSpecUptoRow.holds Try.pinned (Rows.OpenSpec.upto Rows.linesDataMatchSpecSpec) :=
  OpenClaim.holds_of_cond 7 Try.f7 rfl rfl rfl rfl rfl rfl rfl ⟨rfl, rfl, rfl, rfl, rfl⟩ rfl rfl rfl rfl rfl (by kernel_rfl) Try.func7 (by kernel_rfl)
    (of_decide_eq_true (by kernel_rfl)) (by unfold Func.isWrapper; first | (rw [if_pos (by decide +kernel)]; kernel_rfl) | (rw [if_neg (by decide +kernel)]; exact ⟨rfl, rfl⟩))
    (fun os started H enc _ F => lifted os started H enc F)

theorem proved : Rows.LinesDataMatchSpecUptoSaid := over
#print axioms proved
end Go.Proofs.Ytlpmbmilnoncdaa.linesDataMatchSpec
