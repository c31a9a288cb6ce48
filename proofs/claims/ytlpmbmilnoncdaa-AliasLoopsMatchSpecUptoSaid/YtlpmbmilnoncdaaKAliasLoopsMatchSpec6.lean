/- The law AliasLoopsMatchSpec holds for every input of bulk up to the given bound: it returns true and leaves its arguments as they were. Written by program. -/
import Derived.Test.YtlpmbmilnoncdaaKAliasLoopsMatchSpec5
import Derived.WalkKit
import Derived.WalkSpells
import Derived.WalkLawsBesides
import Derived.Deep.QuietTactic
import Derived.BigQuiet
import Derived.Lib.Hide
import Derived.Handy
import Derived.Deep.RegionHeld3
import Derived.Test.YtlpmbmilnoncdaaRows
import Derived.ProofKit
import Derived.OpenShut
import Derived.ShutString
import Derived.ChangeOld
import Derived.Below
import Derived.JoinedCond
import Derived.HandedShaped
import Derived.Shelf.Vars
/- A function of the program computes what its Lean function does. Written by program. -/
namespace Go.Proofs.Ytlpmbmilnoncdaa
open Go.RowKit
set_option maxRecDepth 100000
set_option maxHeartbeats 40000000
set_option linter.unusedVariables false
theorem R_AddressesOk_run (a0 : List Str) (r : Bool) (hr : R_AddressesOk a0 = some r) : Run Try.prog 55 [.l cS a0] (.bo r) := by
  unfold R_AddressesOk at hr
  refine run_of_awp (fn := Try.f55) ⟨Try.func55, rfl, by kernel_rfl⟩ rfl (fun _ => rfl) fun g0 hg => ?_
  refine awp_seq ?_
  refine awp_region ?_
  refine awpl_op rfl (opTo_q (d := 2) rfl rfl ev_assign) ?_
  refine awpl_nil ?_
  refine kthen_normal ?_
  refine awp_seq ?_
  refine awp_seq ?_
  refine awp_region ?_
  refine awpl_op rfl (opTo_q (d := 3) rfl rfl ev_assign) ?_
  refine awpl_nil ?_
  refine kthen_normal ?_
  refine awp_block ?_
  obtain ⟨o4, hl, hr⟩ := bind_some hr
  refine awp_loop (R_AddressesOk_l1 a0) (fun s1 => [(0, .l cS a0), (3, .i s1)]) (fun s1 => []) (fun o => match o with | .inl b2 => At (.exit 0) [] [] | .inr b3 => At .ret [(2, .bo b3)] []) ?_ 0 hl (frLe_cons rfl (frLe_cons rfl frLe_nil)) stoLe_nil ?_
  · intro s1 x5 hr
    unfold R_AddressesOk_l1 at hr
    refine awp_seq ?_
    refine awp_seq ?_
    refine awp_region ?_
    refine awpl_op rfl (opTo_q (d := 4) rfl rfl ev_move) ?_
    refine awpl_op rfl (opTo_q (d := 5) rfl rfl ev_move) ?_
    refine awpl_op rfl (opTo_q (d := 6) rfl rfl (ev_llen (f := cS) rfl ty_s_string.u)) ?_
    refine awpl_op rfl (opTo_q (d := 7) rfl rfl (ev_lss rfl rfl)) ?_
    refine awpl_nil ?_
    refine kthen_normal ?_
    refine awp_cond rfl (fun c6 => ?_) (fun c6 => ?_)
    · replace hr := cond_t c6 hr
      refine awp_skip ?_
      refine kthen_normal ?_
      refine awp_seq ?_
      refine awp_block ?_
      refine awp_seq ?_
      refine awp_region ?_
      refine awpl_op rfl (opTo_q (d := 10) rfl rfl ev_move) ?_
      refine awpl_op rfl (opTo_q (d := 11) rfl rfl ev_move) ?_
      obtain ⟨v7, h8, hr⟩ := bind_some hr
      refine awpl_op rfl (opTo_q (d := 12) rfl rfl (ev_idx (f := cS) rfl rfl ty_s_string ty_string rfl h8)) ?_
      refine awpl_op rfl (opTo_q (d := 13) rfl rfl (ev_load_ep rfl ty_string rfl rfl)) ?_
      obtain ⟨v9, h10, hr⟩ := bind_some hr
      refine awpl_op rfl (opTo_call (k := 14) (R_AddressOk_run v7 v9 h10) rfl rfl) ?_
      refine awpl_op rfl (opTo_q (d := 15) rfl rfl (ev_not rfl)) ?_
      refine awpl_nil ?_
      refine kthen_normal ?_
      refine awp_cond rfl (fun c11 => ?_) (fun c11 => ?_)
      · replace hr := cond_t c11 hr
        refine awp_seq ?_
        refine awp_region ?_
        refine awpl_op rfl (opTo_q (d := 2) rfl rfl ev_assign) ?_
        refine awpl_nil ?_
        refine kthen_normal ?_
        refine awp_ret ?_
        refine kblock_ret ?_
        refine kthen_ret ?_
        cases hr
        exact ⟨by simp, rfl, (frLe_cons rfl frLe_nil), stoLe_nil⟩
      · replace hr := cond_f c11 hr
        refine awp_skip ?_
        refine kblock_normal ?_
        refine kthen_normal ?_
        refine awp_region ?_
        refine awpl_op rfl (opTo_q (d := 8) rfl rfl ev_move) ?_
        refine awpl_op rfl (opTo_q (d := 9) rfl rfl (ev_add rfl rfl)) ?_
        refine awpl_op rfl (opTo_q (d := 3) rfl rfl ev_assign) ?_
        refine awpl_nil ?_
        cases hr
        exact ⟨rfl, (frLe_cons rfl (frLe_cons rfl frLe_nil)), stoLe_nil⟩
    · replace hr := cond_f c6 hr
      refine awp_exit ?_
      refine kthen_exit ?_
      cases hr
      exact ⟨by simp, rfl, frLe_nil, stoLe_nil⟩
  · intro e fr2 st2 hq
    rcases o4 with b2 | b3
    · obtain ⟨rfl, hf, hs⟩ := hq
      refine kblock_exit ?_
      refine kthen_normal ?_
      refine awp_le hf hs ?_
      refine awp_seq ?_
      refine awp_region ?_
      refine awpl_op rfl (opTo_q (d := 2) rfl rfl ev_assign) ?_
      refine awpl_nil ?_
      refine kthen_normal ?_
      refine awp_ret ?_
      cases hr
      exact kret' rfl (.cons (res_tmp rfl) .nil) rfl
    · obtain ⟨rfl, hf, hs⟩ := hq
      refine kblock_ret ?_
      refine kthen_ret ?_
      cases hr
      exact kret' rfl (.cons (res1_le hf hs (res_tmp rfl)) .nil) rfl
end Go.Proofs.Ytlpmbmilnoncdaa

/- A function of the program computes what its Lean function does. Written by program. -/
namespace Go.Proofs.Ytlpmbmilnoncdaa
open Go.RowKit
set_option maxRecDepth 100000
set_option maxHeartbeats 40000000
set_option linter.unusedVariables false
theorem R_AliasesFault_run (a0 : List TAlias) (r : TFault) (hr : R_AliasesFault a0 = some r) : Run Try.prog 32 [.l TAlias.pc a0] (.agg [.i r.Code, .i r.Index]) := by
  unfold R_AliasesFault at hr
  refine run_of_awp (fn := Try.f32) ⟨Try.func32, rfl, by kernel_rfl⟩ rfl (fun _ => rfl) fun g0 hg => ?_
  refine awp_seq ?_
  refine awp_region ?_
  refine awpl_op rfl (opTo_alloc (k := 2) 2 rfl ty_api_Fault (.inr ⟨rfl, rfl⟩) rfl rfl rfl) ?_
  refine awpl_nil ?_
  refine kthen_normal ?_
  refine awp_seq ?_
  refine awp_seq ?_
  refine awp_region ?_
  refine awpl_op rfl (opTo_q (d := 5) rfl rfl ev_move) ?_
  refine awpl_op rfl (opTo_q (d := 6) rfl rfl (ev_llen (f := TAlias.pc) rfl ty_s_api_Alias.u)) ?_
  refine awpl_op rfl (opTo_q (d := 7) rfl rfl (ev_gtr rfl rfl)) ?_
  refine awpl_nil ?_
  refine kthen_normal ?_
  refine awp_cond rfl (fun c1 => ?_) (fun c1 => ?_)
  · replace hr := cond_t c1 hr
    refine awp_seq ?_
    refine awp_region ?_
    obtain ⟨v2, h3, hr⟩ := bind_some hr
    refine awpl_op rfl (opTo_call (k := 8) (R_At_run 2 ((-1)) v2 h3) rfl rfl) ?_
    refine awpl_op rfl (opTo_store rfl rfl rfl ty_api_Fault rfl rfl) ?_
    refine awpl_nil ?_
    refine kthen_normal ?_
    refine awp_ret ?_
    refine kthen_ret ?_
    cases hr
    exact kret' rfl (.cons (res_cellN rfl rfl ty_api_Fault rfl rfl) .nil) rfl
  · replace hr := cond_f c1 hr
    refine awp_skip ?_
    refine kthen_normal ?_
    refine awp_seq ?_
    refine awp_seq ?_
    refine awp_region ?_
    refine awpl_op rfl (opTo_q (d := 3) rfl rfl ev_assign) ?_
    refine awpl_nil ?_
    refine kthen_normal ?_
    refine awp_block ?_
    obtain ⟨o7, hl, hr⟩ := bind_some hr
    refine awp_loop (R_AliasesFault_l1 a0) (fun s4 => [(0, .l TAlias.pc a0), (2, .ptr 2 0), (3, .i s4)]) (fun s4 => [(2, .cells [.i 0, .i 0])]) (fun o => match o with | .inl b5 => At (.exit 0) [(2, .ptr 2 0)] [(2, .cells [.i 0, .i 0])] | .inr b6 => At .ret [(2, .ptr 2 0)] [(2, .cells [.i b6.Code, .i b6.Index])]) ?_ 0 hl (frLe_cons rfl (frLe_cons rfl (frLe_cons rfl frLe_nil))) (stoLe_cons rfl stoLe_nil) ?_
    · intro s4 x8 hr
      unfold R_AliasesFault_l1 at hr
      refine awp_seq ?_
      refine awp_seq ?_
      refine awp_region ?_
      refine awpl_op rfl (opTo_q (d := 9) rfl rfl ev_move) ?_
      refine awpl_op rfl (opTo_q (d := 10) rfl rfl ev_move) ?_
      refine awpl_op rfl (opTo_q (d := 11) rfl rfl (ev_llen (f := TAlias.pc) rfl ty_s_api_Alias.u)) ?_
      refine awpl_op rfl (opTo_q (d := 12) rfl rfl (ev_lss rfl rfl)) ?_
      refine awpl_nil ?_
      refine kthen_normal ?_
      refine awp_cond rfl (fun c9 => ?_) (fun c9 => ?_)
      · replace hr := cond_t c9 hr
        refine awp_skip ?_
        refine kthen_normal ?_
        refine awp_seq ?_
        refine awp_block ?_
        refine awp_seq ?_
        refine awp_seq ?_
        refine awp_region ?_
        refine awpl_op rfl (opTo_q (d := 15) rfl rfl ev_move) ?_
        refine awpl_op rfl (opTo_q (d := 16) rfl rfl ev_move) ?_
        obtain ⟨v10, h11, hr⟩ := bind_some hr
        refine awpl_op rfl (opTo_q (d := 17) rfl rfl (ev_idx (f := TAlias.pc) rfl rfl ty_s_api_Alias ty_api_Alias rfl h11)) ?_
        refine awpl_op rfl (opTo_q (d := 18) rfl rfl (ev_fieldAddr_ep rfl ty_api_Alias.u rfl ty_string rfl rfl)) ?_
        refine awpl_op rfl (opTo_q (d := 19) rfl rfl (ev_load_ep rfl ty_string rfl rfl)) ?_
        obtain ⟨v12, h13, hr⟩ := bind_some hr
        refine awpl_op rfl (opTo_call (k := 20) (R_AddressOk_run v10.Address v12 h13) rfl rfl) ?_
        refine awpl_op rfl (opTo_q (d := 21) rfl rfl (ev_not rfl)) ?_
        refine awpl_nil ?_
        refine kthen_normal ?_
        refine awp_cond rfl (fun c14 => ?_) (fun c14 => ?_)
        · replace hr := cond_t c14 hr
          refine awp_seq ?_
          refine awp_region ?_
          refine awpl_op rfl (opTo_q (d := 22) rfl rfl ev_move) ?_
          obtain ⟨v15, h16, hr⟩ := bind_some hr
          refine awpl_op rfl (opTo_call (k := 23) (R_At_run 10 s4 v15 h16) rfl rfl) ?_
          refine awpl_op rfl (opTo_store rfl rfl rfl ty_api_Fault rfl rfl) ?_
          refine awpl_nil ?_
          refine kthen_normal ?_
          refine awp_ret ?_
          refine kthen_ret ?_
          refine kblock_ret ?_
          refine kthen_ret ?_
          cases hr
          exact ⟨by simp, rfl, (frLe_cons rfl frLe_nil), (stoLe_cons rfl stoLe_nil)⟩
        · replace hr := cond_f c14 hr
          refine awp_skip ?_
          refine kthen_normal ?_
          refine awp_seq ?_
          refine awp_seq ?_
          refine awp_region ?_
          refine awpl_op rfl (opTo_q (d := 24) rfl rfl ev_move) ?_
          refine awpl_op rfl (opTo_q (d := 25) rfl rfl ev_move) ?_
          obtain ⟨v17, h18, hr⟩ := bind_some hr
          refine awpl_op rfl (opTo_q (d := 26) rfl rfl (ev_idx (f := TAlias.pc) rfl rfl ty_s_api_Alias ty_api_Alias rfl h18)) ?_
          refine awpl_op rfl (opTo_q (d := 27) rfl rfl (ev_fieldAddr_ep rfl ty_api_Alias.u rfl ty_s_string rfl rfl)) ?_
          refine awpl_op rfl (opTo_q (d := 28) rfl rfl (ev_load_ep rfl ty_s_string rfl rfl)) ?_
          refine awpl_op rfl (opTo_q (d := 29) rfl rfl (ev_llen (f := cS) rfl ty_s_string.u)) ?_
          obtain ⟨v19, h20, hr⟩ := bind_some hr
          refine awpl_op rfl (opTo_call (k := 30) (R_In_run ((v17.To.length : Int)) 1 60 v19 h20) rfl rfl) ?_
          refine awpl_op rfl (opTo_q (d := 31) rfl rfl (ev_not rfl)) ?_
          refine awpl_nil ?_
          refine kthen_normal ?_
          refine awp_cond rfl (fun c21 => ?_) (fun c21 => ?_)
          · replace hr := cond_t c21 hr
            refine awp_seq ?_
            refine awp_region ?_
            refine awpl_op rfl (opTo_q (d := 32) rfl rfl ev_move) ?_
            obtain ⟨v22, h23, hr⟩ := bind_some hr
            refine awpl_op rfl (opTo_call (k := 33) (R_At_run 2 s4 v22 h23) rfl rfl) ?_
            refine awpl_op rfl (opTo_store rfl rfl rfl ty_api_Fault rfl rfl) ?_
            refine awpl_nil ?_
            refine kthen_normal ?_
            refine awp_ret ?_
            refine kthen_ret ?_
            refine kblock_ret ?_
            refine kthen_ret ?_
            cases hr
            exact ⟨by simp, rfl, (frLe_cons rfl frLe_nil), (stoLe_cons rfl stoLe_nil)⟩
          · replace hr := cond_f c21 hr
            refine awp_skip ?_
            refine kthen_normal ?_
            refine awp_seq ?_
            refine awp_seq ?_
            refine awp_region ?_
            refine awpl_op rfl (opTo_q (d := 34) rfl rfl ev_move) ?_
            refine awpl_op rfl (opTo_q (d := 35) rfl rfl ev_move) ?_
            obtain ⟨v24, h25, hr⟩ := bind_some hr
            refine awpl_op rfl (opTo_q (d := 36) rfl rfl (ev_idx (f := TAlias.pc) rfl rfl ty_s_api_Alias ty_api_Alias rfl h25)) ?_
            refine awpl_op rfl (opTo_q (d := 37) rfl rfl (ev_fieldAddr_ep rfl ty_api_Alias.u rfl ty_s_string rfl rfl)) ?_
            refine awpl_op rfl (opTo_q (d := 38) rfl rfl (ev_load_ep rfl ty_s_string rfl rfl)) ?_
            obtain ⟨v26, h27, hr⟩ := bind_some hr
            refine awpl_op rfl (opTo_call (k := 39) (R_AddressesOk_run v24.To v26 h27) rfl rfl) ?_
            refine awpl_op rfl (opTo_q (d := 40) rfl rfl (ev_not rfl)) ?_
            refine awpl_nil ?_
            refine kthen_normal ?_
            refine awp_cond rfl (fun c28 => ?_) (fun c28 => ?_)
            · replace hr := cond_t c28 hr
              refine awp_seq ?_
              refine awp_region ?_
              refine awpl_op rfl (opTo_q (d := 41) rfl rfl ev_move) ?_
              obtain ⟨v29, h30, hr⟩ := bind_some hr
              refine awpl_op rfl (opTo_call (k := 42) (R_At_run 10 s4 v29 h30) rfl rfl) ?_
              refine awpl_op rfl (opTo_store rfl rfl rfl ty_api_Fault rfl rfl) ?_
              refine awpl_nil ?_
              refine kthen_normal ?_
              refine awp_ret ?_
              refine kthen_ret ?_
              refine kblock_ret ?_
              refine kthen_ret ?_
              cases hr
              exact ⟨by simp, rfl, (frLe_cons rfl frLe_nil), (stoLe_cons rfl stoLe_nil)⟩
            · replace hr := cond_f c28 hr
              refine awp_skip ?_
              refine kthen_normal ?_
              refine awp_seq ?_
              refine awp_region ?_
              refine awpl_op rfl (opTo_q (d := 4) rfl rfl ev_assign) ?_
              refine awpl_nil ?_
              refine kthen_normal ?_
              refine awp_block ?_
              obtain ⟨o34, hl, hr⟩ := bind_some hr
              refine awp_loop (R_AliasesFault_l2 a0 s4) (fun s31 => [(0, .l TAlias.pc a0), (2, .ptr 2 0), (3, .i s4), (4, .i s31)]) (fun s31 => [(2, .cells [.i 0, .i 0])]) (fun o => match o with | .inl b32 => At (.exit 2) [(0, .l TAlias.pc a0), (2, .ptr 2 0), (3, .i s4)] [(2, .cells [.i 0, .i 0])] | .inr b33 => At .ret [(2, .ptr 2 0)] [(2, .cells [.i b33.Code, .i b33.Index])]) ?_ 0 hl (frLe_cons rfl (frLe_cons rfl (frLe_cons rfl (frLe_cons rfl frLe_nil)))) (stoLe_cons rfl stoLe_nil) ?_
              · intro s31 x35 hr
                unfold R_AliasesFault_l2 at hr
                refine awp_seq ?_
                refine awp_seq ?_
                refine awp_region ?_
                refine awpl_op rfl (opTo_q (d := 43) rfl rfl ev_move) ?_
                refine awpl_op rfl (opTo_q (d := 44) rfl rfl ev_move) ?_
                refine awpl_op rfl (opTo_q (d := 45) rfl rfl (ev_lss rfl rfl)) ?_
                refine awpl_nil ?_
                refine kthen_normal ?_
                refine awp_cond rfl (fun c36 => ?_) (fun c36 => ?_)
                · replace hr := cond_t c36 hr
                  refine awp_skip ?_
                  refine kthen_normal ?_
                  refine awp_seq ?_
                  refine awp_block ?_
                  refine awp_seq ?_
                  obtain ⟨v37, h38, hr⟩ := bind_some hr
                  obtain ⟨v39, h40, hr⟩ := bind_some hr
                  refine awp_drawn 10 [(57, .s v39.Address), (56, .ep [pS v39.Address, pL cS v39.To]), (55, .ep [pS v39.Address, pL cS v39.To]), (54, .i s4), (53, .l TAlias.pc a0), (52, .s v37.Address), (51, .ep [pS v37.Address, pL cS v37.To]), (50, .ep [pS v37.Address, pL cS v37.To]), (49, .i s31), (48, .l TAlias.pc a0)] mixed (by kernel_rfl) rfl rfl (.run (.plain rfl) (opG_q ev_move) (.run (.plain rfl) (opG_q ev_move) (.run (.plain rfl) (opG_q (ev_idx (f := TAlias.pc) rfl rfl ty_s_api_Alias ty_api_Alias rfl h38)) (.run (.plain rfl) (opG_q (ev_fieldAddr_ep rfl ty_api_Alias.u rfl ty_string rfl rfl)) (.run (.plain rfl) (opG_q (ev_load_ep rfl ty_string rfl rfl)) (.run (.plain rfl) (opG_q ev_move) (.run (.plain rfl) (opG_q ev_move) (.run (.plain rfl) (opG_q (ev_idx (f := TAlias.pc) rfl rfl ty_s_api_Alias ty_api_Alias rfl h40)) (.run (.plain rfl) (opG_q (ev_fieldAddr_ep rfl ty_api_Alias.u rfl ty_string rfl rfl)) (.run (.plain rfl) (opG_q (ev_load_ep rfl ty_string rfl rfl)) .nil)))))))))) rfl ?_
                  refine awpl_op rfl (opTo_q (d := 58) rfl rfl (ev_seql (a := v37.Address) (b := v39.Address) rfl rfl)) ?_
                  refine awpl_nil ?_
                  refine kthen_normal ?_
                  refine awp_cond rfl (fun c41 => ?_) (fun c41 => ?_)
                  · replace hr := cond_t c41 hr
                    refine awp_seq ?_
                    refine awp_region ?_
                    refine awpl_op rfl (opTo_q (d := 59) rfl rfl ev_move) ?_
                    obtain ⟨v42, h43, hr⟩ := bind_some hr
                    refine awpl_op rfl (opTo_call (k := 60) (R_At_run 7 s4 v42 h43) rfl rfl) ?_
                    refine awpl_op rfl (opTo_store rfl rfl rfl ty_api_Fault rfl rfl) ?_
                    refine awpl_nil ?_
                    refine kthen_normal ?_
                    refine awp_ret ?_
                    refine kblock_ret ?_
                    refine kthen_ret ?_
                    cases hr
                    exact ⟨by simp, rfl, (frLe_cons rfl frLe_nil), (stoLe_cons rfl stoLe_nil)⟩
                  · replace hr := cond_f c41 hr
                    refine awp_skip ?_
                    refine kblock_normal ?_
                    refine kthen_normal ?_
                    refine awp_region ?_
                    refine awpl_op rfl (opTo_q (d := 46) rfl rfl ev_move) ?_
                    refine awpl_op rfl (opTo_q (d := 47) rfl rfl (ev_add rfl rfl)) ?_
                    refine awpl_op rfl (opTo_q (d := 4) rfl rfl ev_assign) ?_
                    refine awpl_nil ?_
                    cases hr
                    exact ⟨rfl, (frLe_cons rfl (frLe_cons rfl (frLe_cons rfl (frLe_cons rfl frLe_nil)))), (stoLe_cons rfl stoLe_nil)⟩
                · replace hr := cond_f c36 hr
                  refine awp_exit ?_
                  refine kthen_exit ?_
                  cases hr
                  exact ⟨by simp, rfl, (frLe_cons rfl (frLe_cons rfl (frLe_cons rfl frLe_nil))), (stoLe_cons rfl stoLe_nil)⟩
              · intro e fr2 st2 hq
                rcases o34 with b32 | b33
                · obtain ⟨rfl, hf, hs⟩ := hq
                  refine kblock_exit ?_
                  refine kblock_normal ?_
                  refine kthen_normal ?_
                  refine awp_le hf hs ?_
                  refine awp_region ?_
                  refine awpl_op rfl (opTo_q (d := 13) rfl rfl ev_move) ?_
                  refine awpl_op rfl (opTo_q (d := 14) rfl rfl (ev_add rfl rfl)) ?_
                  refine awpl_op rfl (opTo_q (d := 3) rfl rfl ev_assign) ?_
                  refine awpl_nil ?_
                  cases hr
                  exact ⟨rfl, (frLe_cons rfl (frLe_cons rfl (frLe_cons rfl frLe_nil))), (stoLe_cons rfl stoLe_nil)⟩
                · obtain ⟨rfl, hf, hs⟩ := hq
                  refine kblock_ret ?_
                  refine kblock_ret ?_
                  refine kthen_ret ?_
                  cases hr
                  exact ⟨by simp, rfl, (frLe_trans hf (frLe_cons rfl frLe_nil)), (stoLe_trans hs (stoLe_cons rfl stoLe_nil))⟩
      · replace hr := cond_f c9 hr
        refine awp_exit ?_
        refine kthen_exit ?_
        cases hr
        exact ⟨by simp, rfl, (frLe_cons rfl frLe_nil), (stoLe_cons rfl stoLe_nil)⟩
    · intro e fr2 st2 hq
      rcases o7 with b5 | b6
      · obtain ⟨rfl, hf, hs⟩ := hq
        refine kblock_exit ?_
        refine kthen_normal ?_
        refine awp_le hf hs ?_
        refine awp_seq ?_
        refine awp_region ?_
        refine awpl_op rfl (opTo_q (d := 61) rfl rfl (ev_build ty_api_Fault pl_api_Fault (.inr ⟨rfl, rfl⟩) rfl)) ?_
        refine awpl_op rfl (opTo_store rfl rfl rfl ty_api_Fault rfl rfl) ?_
        refine awpl_nil ?_
        refine kthen_normal ?_
        refine awp_ret ?_
        cases hr
        exact kret' rfl (.cons (res_cellN rfl rfl ty_api_Fault rfl rfl) .nil) rfl
      · obtain ⟨rfl, hf, hs⟩ := hq
        refine kblock_ret ?_
        refine kthen_ret ?_
        cases hr
        exact kret' rfl (.cons (res1_le hf hs (res_cellN rfl rfl ty_api_Fault rfl rfl)) .nil) rfl
end Go.Proofs.Ytlpmbmilnoncdaa

/- A function of the program computes what its Lean function does. Written by program. -/
namespace Go.Proofs.Ytlpmbmilnoncdaa
open Go.RowKit
set_option maxRecDepth 100000
set_option maxHeartbeats 40000000
set_option linter.unusedVariables false
theorem R_Has_run (a0 : List Str) (a1 : Str) (r : Bool) (hr : R_Has a0 a1 = some r) : Run Try.prog 34 [.l cS a0, .s a1] (.bo r) := by
  unfold R_Has at hr
  refine run_of_awp (fn := Try.f34) ⟨Try.func34, rfl, by kernel_rfl⟩ rfl (fun _ => rfl) fun g0 hg => ?_
  refine awp_seq ?_
  refine awp_region ?_
  refine awpl_op rfl (opTo_q (d := 4) rfl rfl ev_assign) ?_
  refine awpl_nil ?_
  refine kthen_normal ?_
  refine awp_seq ?_
  refine awp_seq ?_
  refine awp_region ?_
  refine awpl_op rfl (opTo_q (d := 5) rfl rfl ev_assign) ?_
  refine awpl_nil ?_
  refine kthen_normal ?_
  refine awp_block ?_
  obtain ⟨o4, hl, hr⟩ := bind_some hr
  refine awp_loop (R_Has_l1 a0 a1) (fun s1 => [(0, .l cS a0), (1, .s a1), (5, .i s1)]) (fun s1 => []) (fun o => match o with | .inl b2 => At (.exit 0) [] [] | .inr b3 => At .ret [(4, .bo b3)] []) ?_ 0 hl (frLe_cons rfl (frLe_cons rfl (frLe_cons rfl frLe_nil))) stoLe_nil ?_
  · intro s1 x5 hr
    unfold R_Has_l1 at hr
    refine awp_seq ?_
    refine awp_seq ?_
    refine awp_region ?_
    refine awpl_op rfl (opTo_q (d := 6) rfl rfl ev_move) ?_
    refine awpl_op rfl (opTo_q (d := 7) rfl rfl ev_move) ?_
    refine awpl_op rfl (opTo_q (d := 8) rfl rfl (ev_llen (f := cS) rfl ty_s_string.u)) ?_
    refine awpl_op rfl (opTo_q (d := 9) rfl rfl (ev_lss rfl rfl)) ?_
    refine awpl_nil ?_
    refine kthen_normal ?_
    refine awp_cond rfl (fun c6 => ?_) (fun c6 => ?_)
    · replace hr := cond_t c6 hr
      refine awp_skip ?_
      refine kthen_normal ?_
      refine awp_seq ?_
      refine awp_block ?_
      refine awp_seq ?_
      refine awp_region ?_
      refine awpl_op rfl (opTo_q (d := 12) rfl rfl ev_move) ?_
      refine awpl_op rfl (opTo_q (d := 13) rfl rfl ev_move) ?_
      obtain ⟨v7, h8, hr⟩ := bind_some hr
      refine awpl_op rfl (opTo_q (d := 14) rfl rfl (ev_idx (f := cS) rfl rfl ty_s_string ty_string rfl h8)) ?_
      refine awpl_op rfl (opTo_q (d := 15) rfl rfl (ev_load_ep rfl ty_string rfl rfl)) ?_
      refine awpl_op rfl (opTo_q (d := 16) rfl rfl ev_move) ?_
      refine awpl_op rfl (opTo_q (d := 17) rfl rfl (ev_seql (a := v7) (b := a1) rfl rfl)) ?_
      refine awpl_nil ?_
      refine kthen_normal ?_
      refine awp_cond rfl (fun c9 => ?_) (fun c9 => ?_)
      · replace hr := cond_t c9 hr
        refine awp_seq ?_
        refine awp_region ?_
        refine awpl_op rfl (opTo_q (d := 4) rfl rfl ev_assign) ?_
        refine awpl_nil ?_
        refine kthen_normal ?_
        refine awp_ret ?_
        refine kblock_ret ?_
        refine kthen_ret ?_
        cases hr
        exact ⟨by simp, rfl, (frLe_cons rfl frLe_nil), stoLe_nil⟩
      · replace hr := cond_f c9 hr
        refine awp_skip ?_
        refine kblock_normal ?_
        refine kthen_normal ?_
        refine awp_region ?_
        refine awpl_op rfl (opTo_q (d := 10) rfl rfl ev_move) ?_
        refine awpl_op rfl (opTo_q (d := 11) rfl rfl (ev_add rfl rfl)) ?_
        refine awpl_op rfl (opTo_q (d := 5) rfl rfl ev_assign) ?_
        refine awpl_nil ?_
        cases hr
        exact ⟨rfl, (frLe_cons rfl (frLe_cons rfl (frLe_cons rfl frLe_nil))), stoLe_nil⟩
    · replace hr := cond_f c6 hr
      refine awp_exit ?_
      refine kthen_exit ?_
      cases hr
      exact ⟨by simp, rfl, frLe_nil, stoLe_nil⟩
  · intro e fr2 st2 hq
    rcases o4 with b2 | b3
    · obtain ⟨rfl, hf, hs⟩ := hq
      refine kblock_exit ?_
      refine kthen_normal ?_
      refine awp_le hf hs ?_
      refine awp_seq ?_
      refine awp_region ?_
      refine awpl_op rfl (opTo_q (d := 4) rfl rfl ev_assign) ?_
      refine awpl_nil ?_
      refine kthen_normal ?_
      refine awp_ret ?_
      cases hr
      exact kret' rfl (.cons (res_tmp rfl) .nil) rfl
    · obtain ⟨rfl, hf, hs⟩ := hq
      refine kblock_ret ?_
      refine kthen_ret ?_
      cases hr
      exact kret' rfl (.cons (res1_le hf hs (res_tmp rfl)) .nil) rfl
end Go.Proofs.Ytlpmbmilnoncdaa

/- A function of the program computes what its Lean function does. Written by program. -/
namespace Go.Proofs.Ytlpmbmilnoncdaa
open Go.RowKit
set_option maxRecDepth 100000
set_option maxHeartbeats 40000000
set_option linter.unusedVariables false
theorem R_targets_run (a0 : List TAlias) (a1 : Str) (r : (List Str) × Bool) (hr : R_targets a0 a1 = some r) : Run Try.prog 50 [.l TAlias.pc a0, .s a1] (.tup [.l cS r.1, .bo r.2]) := by
  unfold R_targets at hr
  refine run_of_awp (fn := Try.f50) ⟨Try.func50, rfl, by kernel_rfl⟩ rfl (fun _ => rfl) fun g0 hg => ?_
  refine awp_seq ?_
  refine awp_region ?_
  refine awpl_op rfl (opTo_q (d := 4) rfl rfl ev_assign) ?_
  refine awpl_op rfl (opTo_q (d := 5) rfl rfl ev_assign) ?_
  refine awpl_nil ?_
  refine kthen_normal ?_
  refine awp_seq ?_
  refine awp_seq ?_
  refine awp_region ?_
  refine awpl_op rfl (opTo_q (d := 6) rfl rfl ev_assign) ?_
  refine awpl_nil ?_
  refine kthen_normal ?_
  refine awp_block ?_
  obtain ⟨o4, hl, hr⟩ := bind_some hr
  refine awp_loop (R_targets_l1 a0 a1) (fun s1 => [(0, .l TAlias.pc a0), (1, .s a1), (6, .i s1)]) (fun s1 => []) (fun o => match o with | .inl b2 => At (.exit 0) [] [] | .inr b3 => At .ret [(4, .l cS b3.1), (5, .bo b3.2)] []) ?_ 0 hl (frLe_cons rfl (frLe_cons rfl (frLe_cons rfl frLe_nil))) stoLe_nil ?_
  · intro s1 x5 hr
    unfold R_targets_l1 at hr
    refine awp_seq ?_
    refine awp_seq ?_
    refine awp_region ?_
    refine awpl_op rfl (opTo_q (d := 7) rfl rfl ev_move) ?_
    refine awpl_op rfl (opTo_q (d := 8) rfl rfl ev_move) ?_
    refine awpl_op rfl (opTo_q (d := 9) rfl rfl (ev_llen (f := TAlias.pc) rfl ty_s_api_Alias.u)) ?_
    refine awpl_op rfl (opTo_q (d := 10) rfl rfl (ev_lss rfl rfl)) ?_
    refine awpl_nil ?_
    refine kthen_normal ?_
    refine awp_cond rfl (fun c6 => ?_) (fun c6 => ?_)
    · replace hr := cond_t c6 hr
      refine awp_skip ?_
      refine kthen_normal ?_
      refine awp_seq ?_
      refine awp_block ?_
      refine awp_seq ?_
      refine awp_region ?_
      refine awpl_op rfl (opTo_q (d := 13) rfl rfl ev_move) ?_
      refine awpl_op rfl (opTo_q (d := 14) rfl rfl ev_move) ?_
      obtain ⟨v7, h8, hr⟩ := bind_some hr
      refine awpl_op rfl (opTo_q (d := 15) rfl rfl (ev_idx (f := TAlias.pc) rfl rfl ty_s_api_Alias ty_api_Alias rfl h8)) ?_
      refine awpl_op rfl (opTo_q (d := 16) rfl rfl (ev_fieldAddr_ep rfl ty_api_Alias.u rfl ty_string rfl rfl)) ?_
      refine awpl_op rfl (opTo_q (d := 17) rfl rfl (ev_load_ep rfl ty_string rfl rfl)) ?_
      refine awpl_op rfl (opTo_q (d := 18) rfl rfl ev_move) ?_
      refine awpl_op rfl (opTo_q (d := 19) rfl rfl (ev_seql (a := v7.Address) (b := a1) rfl rfl)) ?_
      refine awpl_nil ?_
      refine kthen_normal ?_
      refine awp_cond rfl (fun c9 => ?_) (fun c9 => ?_)
      · replace hr := cond_t c9 hr
        refine awp_seq ?_
        refine awp_region ?_
        refine awpl_op rfl (opTo_q (d := 20) rfl rfl ev_move) ?_
        refine awpl_op rfl (opTo_q (d := 21) rfl rfl ev_move) ?_
        obtain ⟨v10, h11, hr⟩ := bind_some hr
        refine awpl_op rfl (opTo_q (d := 22) rfl rfl (ev_idx (f := TAlias.pc) rfl rfl ty_s_api_Alias ty_api_Alias rfl h11)) ?_
        refine awpl_op rfl (opTo_q (d := 23) rfl rfl (ev_fieldAddr_ep rfl ty_api_Alias.u rfl ty_s_string rfl rfl)) ?_
        refine awpl_op rfl (opTo_q (d := 24) rfl rfl (ev_load_ep rfl ty_s_string rfl rfl)) ?_
        refine awpl_op rfl (opTo_q (d := 4) rfl rfl ev_assign) ?_
        refine awpl_op rfl (opTo_q (d := 5) rfl rfl ev_assign) ?_
        refine awpl_nil ?_
        refine kthen_normal ?_
        refine awp_ret ?_
        refine kblock_ret ?_
        refine kthen_ret ?_
        cases hr
        exact ⟨by simp, rfl, (frLe_cons rfl (frLe_cons rfl frLe_nil)), stoLe_nil⟩
      · replace hr := cond_f c9 hr
        refine awp_skip ?_
        refine kblock_normal ?_
        refine kthen_normal ?_
        refine awp_region ?_
        refine awpl_op rfl (opTo_q (d := 11) rfl rfl ev_move) ?_
        refine awpl_op rfl (opTo_q (d := 12) rfl rfl (ev_add rfl rfl)) ?_
        refine awpl_op rfl (opTo_q (d := 6) rfl rfl ev_assign) ?_
        refine awpl_nil ?_
        cases hr
        exact ⟨rfl, (frLe_cons rfl (frLe_cons rfl (frLe_cons rfl frLe_nil))), stoLe_nil⟩
    · replace hr := cond_f c6 hr
      refine awp_exit ?_
      refine kthen_exit ?_
      cases hr
      exact ⟨by simp, rfl, frLe_nil, stoLe_nil⟩
  · intro e fr2 st2 hq
    rcases o4 with b2 | b3
    · obtain ⟨rfl, hf, hs⟩ := hq
      refine kblock_exit ?_
      refine kthen_normal ?_
      refine awp_le hf hs ?_
      refine awp_seq ?_
      refine awp_region ?_
      refine awpl_op rfl (opTo_q (d := 4) rfl rfl ev_assign) ?_
      refine awpl_op rfl (opTo_q (d := 5) rfl rfl ev_assign) ?_
      refine awpl_nil ?_
      refine kthen_normal ?_
      refine awp_ret ?_
      cases hr
      exact kret' rfl (.cons (res_tmp rfl) (.cons (res_tmp rfl) .nil)) rfl
    · obtain ⟨rfl, hf, hs⟩ := hq
      refine kblock_ret ?_
      refine kthen_ret ?_
      cases hr
      exact kret' rfl (.cons (res1_le hf hs (res_tmp rfl)) (.cons (res1_le hf hs (res_tmp rfl)) .nil)) rfl
end Go.Proofs.Ytlpmbmilnoncdaa

/- A function of the program computes what its Lean function does. Written by program. -/
namespace Go.Proofs.Ytlpmbmilnoncdaa
open Go.RowKit
set_option maxRecDepth 100000
set_option maxHeartbeats 40000000
set_option linter.unusedVariables false
theorem R_Reached_run (a0 : List TAlias) (a1 : List Str) (r : List Str) (hr : R_Reached a0 a1 = some r) : Run Try.prog 35 [.l TAlias.pc a0, .l cS a1] (.l cS r) := by
  unfold R_Reached at hr
  refine run_of_awp (fn := Try.f35) ⟨Try.func35, rfl, by kernel_rfl⟩ rfl (fun _ => rfl) fun g0 hg => ?_
  refine awp_seq ?_
  refine awp_region ?_
  refine awpl_op rfl (opTo_q (d := 4) rfl rfl ev_assign) ?_
  refine awpl_nil ?_
  refine kthen_normal ?_
  refine awp_seq ?_
  refine awp_region ?_
  refine awpl_op rfl (opTo_q (d := 5) rfl rfl ev_assign) ?_
  refine awpl_adopt 1005 (d := 5) 9 1 rfl rfl rfl ?_
  refine awpl_nil ?_
  refine kthen_normal ?_
  refine awp_seq ?_
  refine awp_seq ?_
  refine awp_region ?_
  refine awpl_op rfl (opTo_q (d := 6) rfl rfl ev_assign) ?_
  refine awpl_nil ?_
  refine kthen_normal ?_
  refine awp_block ?_
  obtain ⟨b2, hl, hr⟩ := bind_some hr
  refine awp_loop (R_Reached_l1 a1) (fun s1 => [(0, .l TAlias.pc a0), (1, .l cS a1), (5, .hs 1005 0), (6, .i s1.1)]) (fun s1 => [(1005, .row 9 false 1 (List.map cS s1.2))]) (fun b2 => At (.exit 0) [(0, .l TAlias.pc a0), (5, .hs 1005 0)] [(1005, .row 9 false 1 (List.map cS b2))]) ?_ ((0, ([] : List Str))) hl (frLe_cons rfl (frLe_cons rfl (frLe_cons rfl (frLe_cons rfl frLe_nil)))) (stoLe_cons rfl stoLe_nil) ?_
  · intro s1 x3 hr
    unfold R_Reached_l1 at hr
    refine awp_seq ?_
    refine awp_seq ?_
    refine awp_region ?_
    refine awpl_op rfl (opTo_q (d := 11) rfl rfl ev_move) ?_
    refine awpl_op rfl (opTo_q (d := 12) rfl rfl ev_move) ?_
    refine awpl_op rfl (opTo_q (d := 13) rfl rfl (ev_llen (f := cS) rfl ty_s_string.u)) ?_
    refine awpl_op rfl (opTo_q (d := 14) rfl rfl (ev_lss rfl rfl)) ?_
    refine awpl_nil ?_
    refine kthen_normal ?_
    refine awp_cond rfl (fun c4 => ?_) (fun c4 => ?_)
    · replace hr := cond_t c4 hr
      refine awp_skip ?_
      refine kthen_normal ?_
      obtain ⟨j5, hx, hy⟩ := bind_some hr
      refine awp_join (fun j5 => [(0, .l TAlias.pc a0), (1, .l cS a1), (5, .hs 1005 0), (6, .i s1.1)]) (fun j5 => [(1005, .row 9 false 1 (List.map cS j5))]) (fun z => j5 = z) ?_ ?_
      · have hr := hx
        clear hx hy
        refine awp_block ?_
        refine awp_seq ?_
        refine awp_region ?_
        refine awpl_op rfl (opTo_q (d := 17) rfl rfl ev_move) ?_
        refine awpl_op rfl (opTo_q (d := 18) rfl rfl ev_move) ?_
        refine awpl_op rfl (opTo_q (d := 19) rfl rfl ev_move) ?_
        obtain ⟨v6, h7, hr⟩ := bind_some hr
        refine awpl_op rfl (opTo_q (d := 20) rfl rfl (ev_idx (f := cS) rfl rfl ty_s_string ty_string rfl h7)) ?_
        refine awpl_op rfl (opTo_q (d := 21) rfl rfl (ev_load_ep rfl ty_string rfl rfl)) ?_
        refine awpl_pub (d := 17) (F := cS) (l := s1.2) rfl rfl ?_
        obtain ⟨v8, h9, hr⟩ := bind_some hr
        refine awpl_op rfl (opTo_call (k := 22) (R_Has_run s1.2 v6 v8 h9) rfl rfl) ?_
        refine awpl_op rfl (opTo_q (d := 23) rfl rfl (ev_not rfl)) ?_
        refine awpl_nil ?_
        refine kthen_normal ?_
        refine awp_cond rfl (fun c10 => ?_) (fun c10 => ?_)
        · replace hr := cond_t c10 hr
          refine awp_region ?_
          refine awpl_op rfl (opTo_q (d := 24) rfl rfl ev_move) ?_
          refine awpl_op rfl (opTo_q (d := 25) rfl rfl ev_move) ?_
          refine awpl_op rfl (opTo_q (d := 26) rfl rfl ev_move) ?_
          obtain ⟨v11, h12, hr⟩ := bind_some hr
          refine awpl_op rfl (opTo_q (d := 27) rfl rfl (ev_idx (f := cS) rfl rfl ty_s_string ty_string rfl h12)) ?_
          refine awpl_op rfl (opTo_q (d := 28) rfl rfl (ev_load_ep rfl ty_string rfl rfl)) ?_
          refine awpl_op rfl (opTo_g (d := 29) rfl rfl (opG_lit (F := cS) (l := ([v11] : List Str)) ty_s_string ty_string rfl (fun _ => rfl) rfl rfl)) ?_
          obtain ⟨v13, h14, hr⟩ := bind_some hr
          refine awpl_op rfl (opTo_append (k := 30) (F := cS) (l := s1.2) (xs := (([v11] : List Str))) (lim := 8796093022208) rfl rfl rfl rfl ty_s_string ty_string rfl rfl (fun _ => rfl) rfl h14) ?_
          refine awpl_op rfl (opTo_q (d := 5) rfl rfl ev_assign) ?_
          refine awpl_nil ?_
          refine kblock_normal ?_
          cases hr
          exact joinK_normal _ rfl (frLe_cons rfl (frLe_cons rfl (frLe_cons rfl (frLe_cons rfl frLe_nil)))) (stoLe_cons rfl stoLe_nil)
        · replace hr := cond_f c10 hr
          refine awp_skip ?_
          refine kblock_normal ?_
          cases hr
          exact joinK_normal _ rfl (frLe_cons rfl (frLe_cons rfl (frLe_cons rfl (frLe_cons rfl frLe_nil)))) (stoLe_cons rfl stoLe_nil)
      · rintro _ rfl
        have hr := hy
        clear hx hy
        refine awp_region ?_
        refine awpl_op rfl (opTo_q (d := 15) rfl rfl ev_move) ?_
        refine awpl_op rfl (opTo_q (d := 16) rfl rfl (ev_add rfl rfl)) ?_
        refine awpl_op rfl (opTo_q (d := 6) rfl rfl ev_assign) ?_
        refine awpl_nil ?_
        cases hr
        exact ⟨rfl, (frLe_cons rfl (frLe_cons rfl (frLe_cons rfl (frLe_cons rfl frLe_nil)))), (stoLe_cons rfl stoLe_nil)⟩
    · replace hr := cond_f c4 hr
      refine awp_exit ?_
      refine kthen_exit ?_
      cases hr
      exact ⟨by simp, rfl, (frLe_cons rfl (frLe_cons rfl frLe_nil)), (stoLe_cons rfl stoLe_nil)⟩
  · intro e fr2 st2 hq
    obtain ⟨rfl, hf, hs⟩ := hq
    refine kblock_exit ?_
    refine kthen_normal ?_
    refine awp_le hf hs ?_
    refine awp_seq ?_
    refine awp_seq ?_
    refine awp_region ?_
    refine awpl_op rfl (opTo_q (d := 7) rfl rfl ev_assign) ?_
    refine awpl_nil ?_
    refine kthen_normal ?_
    refine awp_block ?_
    obtain ⟨b16, hl, hr⟩ := bind_some hr
    refine awp_loop (R_Reached_l2 a0) (fun s15 => [(0, .l TAlias.pc a0), (5, .hs 1005 0), (7, .i s15.1)]) (fun s15 => [(1005, .row 9 false 1 (List.map cS s15.2))]) (fun b16 => At (.exit 2) [(5, .hs 1005 0)] [(1005, .row 9 false 1 (List.map cS b16))]) ?_ ((0, b2)) hl (frLe_cons rfl (frLe_cons rfl (frLe_cons rfl frLe_nil))) (stoLe_cons rfl stoLe_nil) ?_
    · intro s15 x17 hr
      unfold R_Reached_l2 at hr
      refine awp_seq ?_
      refine awp_seq ?_
      refine awp_region ?_
      refine awpl_op rfl (opTo_q (d := 31) rfl rfl ev_move) ?_
      refine awpl_op rfl (opTo_q (d := 32) rfl rfl ev_move) ?_
      refine awpl_op rfl (opTo_q (d := 33) rfl rfl (ev_hlen (F := cS) rfl rfl ty_s_string.u)) ?_
      refine awpl_op rfl (opTo_q (d := 34) rfl rfl (ev_lss rfl rfl)) ?_
      refine awpl_nil ?_
      refine kthen_normal ?_
      refine awp_cond rfl (fun c18 => ?_) (fun c18 => ?_)
      · replace hr := cond_t c18 hr
        refine awp_skip ?_
        refine kthen_normal ?_
        refine awp_seq ?_
        refine awp_block ?_
        refine awp_seq ?_
        refine awp_region ?_
        refine awpl_op rfl (opTo_q (d := 38) rfl rfl ev_move) ?_
        refine awpl_op rfl (opTo_q (d := 39) rfl rfl ev_move) ?_
        refine awpl_op rfl (opTo_q (d := 40) rfl rfl ev_move) ?_
        refine awpl_pub (d := 39) (F := cS) (l := s15.2) rfl rfl ?_
        obtain ⟨v19, h20, hr⟩ := bind_some hr
        refine awpl_op rfl (opTo_q (d := 41) rfl rfl (ev_idx (f := cS) rfl rfl ty_s_string ty_string rfl h20)) ?_
        refine awpl_op rfl (opTo_q (d := 42) rfl rfl (ev_load_ep rfl ty_string rfl rfl)) ?_
        obtain ⟨v21, h22, hr⟩ := bind_some hr
        refine awpl_op rfl (opTo_call (k := 43) (R_targets_run a0 v19 v21 h22) rfl rfl) ?_
        refine awpl_op rfl (opTo_q (d := 37) rfl rfl ev_move) ?_
        refine awpl_op rfl (opTo_q (d := 44) rfl rfl (ev_extract rfl rfl)) ?_
        refine awpl_op rfl (opTo_q (d := 45) rfl rfl (ev_extract rfl rfl)) ?_
        refine awpl_op rfl (opTo_q (d := 8) rfl rfl ev_assign) ?_
        refine awpl_op rfl (opTo_q (d := 9) rfl rfl ev_assign) ?_
        refine awpl_nil ?_
        refine kthen_normal ?_
        refine awp_seq ?_
        refine awp_region ?_
        refine awpl_op rfl (opTo_q (d := 10) rfl rfl ev_assign) ?_
        refine awpl_nil ?_
        refine kthen_normal ?_
        refine awp_block ?_
        obtain ⟨b24, hl, hr⟩ := bind_some hr
        refine awp_loop (R_Reached_l3 v21) (fun s23 => [(0, .l TAlias.pc a0), (5, .hs 1005 0), (7, .i s15.1), (8, .l cS v21.1), (10, .i s23.1)]) (fun s23 => [(1005, .row 9 false 1 (List.map cS s23.2))]) (fun b24 => At (.exit 4) [(0, .l TAlias.pc a0), (5, .hs 1005 0), (7, .i s15.1)] [(1005, .row 9 false 1 (List.map cS b24))]) ?_ ((0, s15.2)) hl (frLe_cons rfl (frLe_cons rfl (frLe_cons rfl (frLe_cons rfl (frLe_cons rfl frLe_nil))))) (stoLe_cons rfl stoLe_nil) ?_
        · intro s23 x25 hr
          unfold R_Reached_l3 at hr
          refine awp_seq ?_
          refine awp_seq ?_
          refine awp_region ?_
          refine awpl_op rfl (opTo_q (d := 46) rfl rfl ev_move) ?_
          refine awpl_op rfl (opTo_q (d := 47) rfl rfl ev_move) ?_
          refine awpl_op rfl (opTo_q (d := 48) rfl rfl (ev_llen (f := cS) rfl ty_s_string.u)) ?_
          refine awpl_op rfl (opTo_q (d := 49) rfl rfl (ev_lss rfl rfl)) ?_
          refine awpl_nil ?_
          refine kthen_normal ?_
          refine awp_cond rfl (fun c26 => ?_) (fun c26 => ?_)
          · replace hr := cond_t c26 hr
            refine awp_skip ?_
            refine kthen_normal ?_
            obtain ⟨j27, hx, hy⟩ := bind_some hr
            refine awp_join (fun j27 => [(0, .l TAlias.pc a0), (5, .hs 1005 0), (7, .i s15.1), (8, .l cS v21.1), (10, .i s23.1)]) (fun j27 => [(1005, .row 9 false 1 (List.map cS j27))]) (fun z => j27 = z) ?_ ?_
            · have hr := hx
              clear hx hy
              refine awp_block ?_
              refine awp_seq ?_
              refine awp_region ?_
              refine awpl_op rfl (opTo_q (d := 52) rfl rfl ev_move) ?_
              refine awpl_op rfl (opTo_q (d := 53) rfl rfl ev_move) ?_
              refine awpl_op rfl (opTo_q (d := 54) rfl rfl ev_move) ?_
              obtain ⟨v28, h29, hr⟩ := bind_some hr
              refine awpl_op rfl (opTo_q (d := 55) rfl rfl (ev_idx (f := cS) rfl rfl ty_s_string ty_string rfl h29)) ?_
              refine awpl_op rfl (opTo_q (d := 56) rfl rfl (ev_load_ep rfl ty_string rfl rfl)) ?_
              refine awpl_pub (d := 52) (F := cS) (l := s23.2) rfl rfl ?_
              obtain ⟨v30, h31, hr⟩ := bind_some hr
              refine awpl_op rfl (opTo_call (k := 57) (R_Has_run s23.2 v28 v30 h31) rfl rfl) ?_
              refine awpl_op rfl (opTo_q (d := 58) rfl rfl (ev_not rfl)) ?_
              refine awpl_nil ?_
              refine kthen_normal ?_
              refine awp_cond rfl (fun c32 => ?_) (fun c32 => ?_)
              · replace hr := cond_t c32 hr
                refine awp_region ?_
                refine awpl_op rfl (opTo_q (d := 59) rfl rfl ev_move) ?_
                refine awpl_op rfl (opTo_q (d := 60) rfl rfl ev_move) ?_
                refine awpl_op rfl (opTo_q (d := 61) rfl rfl ev_move) ?_
                obtain ⟨v33, h34, hr⟩ := bind_some hr
                refine awpl_op rfl (opTo_q (d := 62) rfl rfl (ev_idx (f := cS) rfl rfl ty_s_string ty_string rfl h34)) ?_
                refine awpl_op rfl (opTo_q (d := 63) rfl rfl (ev_load_ep rfl ty_string rfl rfl)) ?_
                refine awpl_op rfl (opTo_g (d := 64) rfl rfl (opG_lit (F := cS) (l := ([v33] : List Str)) ty_s_string ty_string rfl (fun _ => rfl) rfl rfl)) ?_
                obtain ⟨v35, h36, hr⟩ := bind_some hr
                refine awpl_op rfl (opTo_append (k := 65) (F := cS) (l := s23.2) (xs := (([v33] : List Str))) (lim := 8796093022208) rfl rfl rfl rfl ty_s_string ty_string rfl rfl (fun _ => rfl) rfl h36) ?_
                refine awpl_op rfl (opTo_q (d := 5) rfl rfl ev_assign) ?_
                refine awpl_nil ?_
                refine kblock_normal ?_
                cases hr
                exact joinK_normal _ rfl (frLe_cons rfl (frLe_cons rfl (frLe_cons rfl (frLe_cons rfl (frLe_cons rfl frLe_nil))))) (stoLe_cons rfl stoLe_nil)
              · replace hr := cond_f c32 hr
                refine awp_skip ?_
                refine kblock_normal ?_
                cases hr
                exact joinK_normal _ rfl (frLe_cons rfl (frLe_cons rfl (frLe_cons rfl (frLe_cons rfl (frLe_cons rfl frLe_nil))))) (stoLe_cons rfl stoLe_nil)
            · rintro _ rfl
              have hr := hy
              clear hx hy
              refine awp_region ?_
              refine awpl_op rfl (opTo_q (d := 50) rfl rfl ev_move) ?_
              refine awpl_op rfl (opTo_q (d := 51) rfl rfl (ev_add rfl rfl)) ?_
              refine awpl_op rfl (opTo_q (d := 10) rfl rfl ev_assign) ?_
              refine awpl_nil ?_
              cases hr
              exact ⟨rfl, (frLe_cons rfl (frLe_cons rfl (frLe_cons rfl (frLe_cons rfl (frLe_cons rfl frLe_nil))))), (stoLe_cons rfl stoLe_nil)⟩
          · replace hr := cond_f c26 hr
            refine awp_exit ?_
            refine kthen_exit ?_
            cases hr
            exact ⟨by simp, rfl, (frLe_cons rfl (frLe_cons rfl (frLe_cons rfl frLe_nil))), (stoLe_cons rfl stoLe_nil)⟩
        · intro e fr2 st2 hq
          obtain ⟨rfl, hf, hs⟩ := hq
          refine kblock_exit ?_
          refine kblock_normal ?_
          refine kthen_normal ?_
          refine awp_le hf hs ?_
          refine awp_region ?_
          refine awpl_op rfl (opTo_q (d := 35) rfl rfl ev_move) ?_
          refine awpl_op rfl (opTo_q (d := 36) rfl rfl (ev_add rfl rfl)) ?_
          refine awpl_op rfl (opTo_q (d := 7) rfl rfl ev_assign) ?_
          refine awpl_nil ?_
          cases hr
          exact ⟨rfl, (frLe_cons rfl (frLe_cons rfl (frLe_cons rfl frLe_nil))), (stoLe_cons rfl stoLe_nil)⟩
      · replace hr := cond_f c18 hr
        refine awp_exit ?_
        refine kthen_exit ?_
        cases hr
        exact ⟨by simp, rfl, (frLe_cons rfl frLe_nil), (stoLe_cons rfl stoLe_nil)⟩
    · intro e fr2 st2 hq
      obtain ⟨rfl, hf, hs⟩ := hq
      refine kblock_exit ?_
      refine kthen_normal ?_
      refine awp_le hf hs ?_
      refine awp_seq ?_
      refine awp_region ?_
      refine awpl_op rfl (opTo_q (d := 66) rfl rfl ev_move) ?_
      refine awpl_op rfl (opTo_q (d := 4) rfl rfl ev_assign) ?_
      refine awpl_nil ?_
      refine kthen_normal ?_
      refine awp_pub (d := 4) (F := cS) (l := b16) rfl rfl ?_
      refine awp_ret ?_
      cases hr
      exact kret' rfl (.cons (res_tmp rfl) .nil) rfl
end Go.Proofs.Ytlpmbmilnoncdaa

/- A function of the program computes what its Lean function does. Written by program. -/
namespace Go.Proofs.Ytlpmbmilnoncdaa
open Go.RowKit
set_option maxRecDepth 100000
set_option maxHeartbeats 40000000
set_option linter.unusedVariables false
theorem L_AliasLoopsMatchSpec_run (a0 : List TAlias) (r : Bool) (hr : L_AliasLoopsMatchSpec a0 = some r) : Run Try.prog 11 [.l TAlias.pc a0] (.bo r) := by
  unfold L_AliasLoopsMatchSpec at hr
  refine run_of_awp (fn := Try.f11) ⟨Try.func11, rfl, by kernel_rfl⟩ rfl (fun _ => rfl) fun g0 hg => ?_
  refine awp_seq ?_
  refine awp_region ?_
  refine awpl_op rfl (opTo_q (d := 2) rfl rfl ev_assign) ?_
  refine awpl_nil ?_
  refine kthen_normal ?_
  refine awp_seq ?_
  refine awp_region ?_
  refine awpl_op rfl (opTo_q (d := 8) rfl rfl ev_move) ?_
  obtain ⟨v1, h2, hr⟩ := bind_some hr
  refine awpl_op rfl (opTo_call (k := 9) (R_AliasesFault_run a0 v1 h2) rfl rfl) ?_
  refine awpl_op rfl (opTo_alloc (k := 3) 3 rfl ty_api_Fault (.inr ⟨rfl, rfl⟩) rfl rfl rfl) ?_
  refine awpl_op rfl (opTo_store rfl rfl rfl ty_api_Fault rfl rfl) ?_
  refine awpl_nil ?_
  refine kthen_normal ?_
  refine awp_seq ?_
  refine awp_region ?_
  refine awpl_op rfl (opTo_q (d := 11) rfl rfl ev_move) ?_
  obtain ⟨v3, h4, hr⟩ := bind_some hr
  refine awpl_op rfl (opTo_call (k := 12) (alias_Loops_run a0 v3 h4) rfl rfl) ?_
  refine awpl_op rfl (opTo_q (d := 10) rfl rfl ev_move) ?_
  refine awpl_op rfl (opTo_q (d := 13) rfl rfl (ev_extract rfl rfl)) ?_
  refine awpl_op rfl (opTo_q (d := 14) rfl rfl (ev_extract rfl rfl)) ?_
  refine awpl_op rfl (opTo_alloc (k := 5) 5 rfl ty_api_Fault (.inr ⟨rfl, rfl⟩) rfl rfl rfl) ?_
  refine awpl_op rfl (opTo_q (d := 4) rfl rfl ev_assign) ?_
  refine awpl_op rfl (opTo_store rfl rfl rfl ty_api_Fault rfl rfl) ?_
  refine awpl_nil ?_
  refine kthen_normal ?_
  refine awp_seq ?_
  refine awp_region ?_
  refine awpl_op rfl (opTo_q (d := 6) rfl rfl ev_assign) ?_
  refine awpl_adopt 1006 (d := 6) 9 1 rfl rfl rfl ?_
  refine awpl_nil ?_
  refine kthen_normal ?_
  refine awp_seq ?_
  refine awp_seq ?_
  refine awp_region ?_
  refine awpl_op rfl (opTo_q (d := 7) rfl rfl ev_assign) ?_
  refine awpl_nil ?_
  refine kthen_normal ?_
  refine awp_block ?_
  obtain ⟨b6, hl, hr⟩ := bind_some hr
  refine awp_loop (L_AliasLoopsMatchSpec_l1 a0 v1) (fun s5 => [(0, .l TAlias.pc a0), (3, .ptr 3 0), (4, .l cS v3.1), (5, .ptr 5 0), (6, .hs 1006 0), (7, .i s5.1)]) (fun s5 => [(1006, .row 9 false 1 (List.map cS s5.2)), (5, .cells [.i v3.2.Code, .i v3.2.Index]), (3, .cells [.i v1.Code, .i v1.Index])]) (fun b6 => At (.exit 0) [(3, .ptr 3 0), (4, .l cS v3.1), (5, .ptr 5 0), (6, .hs 1006 0)] [(1006, .row 9 false 1 (List.map cS b6)), (5, .cells [.i v3.2.Code, .i v3.2.Index]), (3, .cells [.i v1.Code, .i v1.Index])]) ?_ ((0, ([] : List Str))) hl (frLe_cons rfl (frLe_cons rfl (frLe_cons rfl (frLe_cons rfl (frLe_cons rfl (frLe_cons rfl frLe_nil)))))) (stoLe_cons rfl (stoLe_cons rfl (stoLe_cons rfl stoLe_nil))) ?_
  · intro s5 x7 hr
    unfold L_AliasLoopsMatchSpec_l1 at hr
    refine awp_seq ?_
    obtain ⟨j8, hx, hy⟩ := bind_some hr
    refine awp_join (fun j8 => [(0, .l TAlias.pc a0), (3, .ptr 3 0), (4, .l cS v3.1), (5, .ptr 5 0), (6, .hs 1006 0), (7, .i s5.1), (23, .bo j8)]) (fun j8 => [(1006, .row 9 false 1 (List.map cS s5.2)), (5, .cells [.i v3.2.Code, .i v3.2.Index]), (3, .cells [.i v1.Code, .i v1.Index])]) (fun z => j8 = z) ?_ ?_
    · have hr := hx
      clear hx hy
      refine awp_region ?_
      refine awpl_op rfl (opTo_q (d := 15) rfl rfl ev_move) ?_
      refine awpl_op rfl (opTo_q (d := 16) rfl rfl ev_move) ?_
      refine awpl_op rfl (opTo_q (d := 17) rfl rfl (ev_llen (f := TAlias.pc) rfl ty_s_api_Alias.u)) ?_
      refine awpl_op rfl (opTo_q (d := 18) rfl rfl (ev_lss rfl rfl)) ?_
      refine awpl_op rfl (opTo_q (d := 19) rfl rfl ev_move) ?_
      refine bool_split (decide (s5.1 < (a0.length : Int))) (fun c9 => ?_) (fun c9 => ?_)
      · replace hr := cond_t c9 hr
        refine awpl_yes (d := 19) rfl rfl rfl c9 (opTo_q (d := 20) rfl rfl (ev_fieldAddr rfl ty_api_Fault.u rfl ty_int rfl)) ?_
        refine awpl_yes (d := 19) rfl rfl rfl c9 (opTo_q (d := 21) rfl rfl (ev_load rfl rfl ty_int rfl rfl)) ?_
        refine awpl_yes (d := 19) rfl rfl rfl c9 (opTo_q (d := 22) rfl rfl (ev_eql rfl rfl)) ?_
        refine awpl_op rfl (opTo_q (d := 23) rfl rfl (ev_pick_t rfl c9)) ?_
        refine awpl_nil ?_
        cases hr
        exact joinK_normal _ rfl (frLe_cons rfl (frLe_cons rfl (frLe_cons rfl (frLe_cons rfl (frLe_cons rfl (frLe_cons rfl (frLe_cons rfl frLe_nil))))))) (stoLe_cons rfl (stoLe_cons rfl (stoLe_cons rfl stoLe_nil)))
      · replace hr := cond_f c9 hr
        refine awpl_no (d := 19) rfl rfl rfl c9 ?_
        refine awpl_no (d := 19) rfl rfl rfl c9 ?_
        refine awpl_no (d := 19) rfl rfl rfl c9 ?_
        refine awpl_op rfl (opTo_q (d := 23) rfl rfl (ev_pick_f rfl c9)) ?_
        refine awpl_nil ?_
        cases hr
        exact joinK_normal _ rfl (frLe_cons rfl (frLe_cons rfl (frLe_cons rfl (frLe_cons rfl (frLe_cons rfl (frLe_cons rfl (frLe_cons rfl frLe_nil))))))) (stoLe_cons rfl (stoLe_cons rfl (stoLe_cons rfl stoLe_nil)))
    · rintro _ rfl
      have hr := hy
      clear hx hy
      refine awp_cond rfl (fun c10 => ?_) (fun c10 => ?_)
      · replace hr := cond_t c10 hr
        refine awp_skip ?_
        refine kthen_normal ?_
        obtain ⟨j11, hx, hy⟩ := bind_some hr
        refine awp_join (fun j11 => [(0, .l TAlias.pc a0), (3, .ptr 3 0), (4, .l cS v3.1), (5, .ptr 5 0), (6, .hs 1006 0), (7, .i s5.1)]) (fun j11 => [(1006, .row 9 false 1 (List.map cS j11)), (5, .cells [.i v3.2.Code, .i v3.2.Index]), (3, .cells [.i v1.Code, .i v1.Index])]) (fun z => j11 = z) ?_ ?_
        · have hr := hx
          clear hx hy
          refine awp_block ?_
          refine awp_seq ?_
          obtain ⟨v12, h13, hr⟩ := bind_some hr
          obtain ⟨v14, h15, hr⟩ := bind_some hr
          obtain ⟨v16, h17, hr⟩ := bind_some hr
          refine awp_drawn 12 [(37, .s v16.Address), (36, .ep [pS v16.Address, pL cS v16.To]), (35, .ep [pS v16.Address, pL cS v16.To]), (34, .i s5.1), (33, .l TAlias.pc a0), (32, .l cS v14), (31, .l cS v12.To), (30, .ep [pL cS v12.To]), (29, .ep [pS v12.Address, pL cS v12.To]), (28, .i s5.1), (27, .l TAlias.pc a0), (26, .l TAlias.pc a0)] mixed (by kernel_rfl) rfl rfl (.run (.plain rfl) (opG_q ev_move) (.run (.plain rfl) (opG_q ev_move) (.run (.plain rfl) (opG_q ev_move) (.run (.plain rfl) (opG_q (ev_idx (f := TAlias.pc) rfl rfl ty_s_api_Alias ty_api_Alias rfl h13)) (.run (.plain rfl) (opG_q (ev_fieldAddr_ep rfl ty_api_Alias.u rfl ty_s_string rfl rfl)) (.run (.plain rfl) (opG_q (ev_load_ep rfl ty_s_string rfl rfl)) (.run (.plain rfl) (opG_call (R_Reached_run a0 v12.To v14 h15) rfl) (.run (.plain rfl) (opG_q ev_move) (.run (.plain rfl) (opG_q ev_move) (.run (.plain rfl) (opG_q (ev_idx (f := TAlias.pc) rfl rfl ty_s_api_Alias ty_api_Alias rfl h17)) (.run (.plain rfl) (opG_q (ev_fieldAddr_ep rfl ty_api_Alias.u rfl ty_string rfl rfl)) (.run (.plain rfl) (opG_q (ev_load_ep rfl ty_string rfl rfl)) .nil)))))))))))) rfl ?_
          obtain ⟨v18, h19, hr⟩ := bind_some hr
          refine awpl_op rfl (opTo_call (k := 38) (R_Has_run v14 v16.Address v18 h19) rfl rfl) ?_
          refine awpl_nil ?_
          refine kthen_normal ?_
          refine awp_cond rfl (fun c20 => ?_) (fun c20 => ?_)
          · replace hr := cond_t c20 hr
            refine awp_region ?_
            refine awpl_op rfl (opTo_q (d := 39) rfl rfl ev_move) ?_
            refine awpl_op rfl (opTo_q (d := 40) rfl rfl ev_move) ?_
            refine awpl_op rfl (opTo_q (d := 41) rfl rfl ev_move) ?_
            obtain ⟨v21, h22, hr⟩ := bind_some hr
            refine awpl_op rfl (opTo_q (d := 42) rfl rfl (ev_idx (f := TAlias.pc) rfl rfl ty_s_api_Alias ty_api_Alias rfl h22)) ?_
            refine awpl_op rfl (opTo_q (d := 43) rfl rfl (ev_fieldAddr_ep rfl ty_api_Alias.u rfl ty_string rfl rfl)) ?_
            refine awpl_op rfl (opTo_q (d := 44) rfl rfl (ev_load_ep rfl ty_string rfl rfl)) ?_
            refine awpl_op rfl (opTo_g (d := 45) rfl rfl (opG_lit (F := cS) (l := ([v21.Address] : List Str)) ty_s_string ty_string rfl (fun _ => rfl) rfl rfl)) ?_
            obtain ⟨v23, h24, hr⟩ := bind_some hr
            refine awpl_op rfl (opTo_append (k := 46) (F := cS) (l := s5.2) (xs := (([v21.Address] : List Str))) (lim := 8796093022208) rfl rfl rfl rfl ty_s_string ty_string rfl rfl (fun _ => rfl) rfl h24) ?_
            refine awpl_op rfl (opTo_q (d := 6) rfl rfl ev_assign) ?_
            refine awpl_nil ?_
            refine kblock_normal ?_
            cases hr
            exact joinK_normal _ rfl (frLe_cons rfl (frLe_cons rfl (frLe_cons rfl (frLe_cons rfl (frLe_cons rfl (frLe_cons rfl frLe_nil)))))) (stoLe_cons rfl (stoLe_cons rfl (stoLe_cons rfl stoLe_nil)))
          · replace hr := cond_f c20 hr
            refine awp_skip ?_
            refine kblock_normal ?_
            cases hr
            exact joinK_normal _ rfl (frLe_cons rfl (frLe_cons rfl (frLe_cons rfl (frLe_cons rfl (frLe_cons rfl (frLe_cons rfl frLe_nil)))))) (stoLe_cons rfl (stoLe_cons rfl (stoLe_cons rfl stoLe_nil)))
        · rintro _ rfl
          have hr := hy
          clear hx hy
          refine awp_region ?_
          refine awpl_op rfl (opTo_q (d := 24) rfl rfl ev_move) ?_
          refine awpl_op rfl (opTo_q (d := 25) rfl rfl (ev_add rfl rfl)) ?_
          refine awpl_op rfl (opTo_q (d := 7) rfl rfl ev_assign) ?_
          refine awpl_nil ?_
          cases hr
          exact ⟨rfl, (frLe_cons rfl (frLe_cons rfl (frLe_cons rfl (frLe_cons rfl (frLe_cons rfl (frLe_cons rfl frLe_nil)))))), (stoLe_cons rfl (stoLe_cons rfl (stoLe_cons rfl stoLe_nil)))⟩
      · replace hr := cond_f c10 hr
        refine awp_exit ?_
        refine kthen_exit ?_
        cases hr
        exact ⟨by simp, rfl, (frLe_cons rfl (frLe_cons rfl (frLe_cons rfl (frLe_cons rfl frLe_nil)))), (stoLe_cons rfl (stoLe_cons rfl (stoLe_cons rfl stoLe_nil)))⟩
  · intro e fr2 st2 hq
    obtain ⟨rfl, hf, hs⟩ := hq
    refine kblock_exit ?_
    refine kthen_normal ?_
    refine awp_le hf hs ?_
    obtain ⟨j25, hx, hy⟩ := bind_some hr
    refine awp_join (fun j25 => [(2, .bo j25)]) (fun j25 => []) (fun z => j25 = z) ?_ ?_
    · have hr := hx
      clear hx hy
      refine awp_region ?_
      obtain ⟨v26, h27, hr⟩ := bind_some hr
      refine awpl_op rfl (opTo_call (k := 47) (L_expands_run  v26 h27) rfl rfl) ?_
      refine awpl_op rfl (opTo_q (d := 48) rfl rfl ev_move) ?_
      refine bool_split v26 (fun c28 => ?_) (fun c28 => ?_)
      · replace hr := cond_t c28 hr
        refine awpl_yes (d := 48) rfl rfl rfl c28 (opTo_q (d := 49) rfl rfl (ev_loadN rfl rfl ty_api_Fault rfl rfl)) ?_
        refine awpl_yes (d := 48) rfl rfl rfl c28 (opTo_q (d := 50) rfl rfl (ev_loadN rfl rfl ty_api_Fault rfl rfl)) ?_
        refine awpl_yes (d := 48) rfl rfl rfl c28 (opTo_q (d := 51) rfl rfl (ev_structeq rfl rfl ty_api_Fault cmp_api_Fault (.int rfl (by decide) ty_int (.int rfl (by decide) ty_int .nil)))) ?_
        refine awpl_op rfl (opTo_q (d := 52) rfl rfl (ev_pick_t rfl c28)) ?_
        refine awpl_op rfl (opTo_q (d := 53) rfl rfl ev_move) ?_
        refine bool_split ((allEq [(v3.2.Code == v1.Code), (v3.2.Index == v1.Index)])) (fun c29 => ?_) (fun c29 => ?_)
        · replace hr := cond_t c29 hr
          refine awpl_yes (d := 53) rfl rfl rfl c29 (opTo_q (d := 54) rfl rfl ev_move) ?_
          refine awpl_yes (d := 53) rfl rfl rfl c29 (opTo_q (d := 55) rfl rfl ev_move) ?_
          refine awpl_pub (d := 55) (F := cS) (l := b6) rfl rfl ?_
          obtain ⟨v30, h31, hr⟩ := bind_some hr
          refine awpl_yes (d := 53) rfl rfl rfl c29 (opTo_call (k := 56) (R_Strings_run v3.1 b6 v30 h31) rfl rfl) ?_
          refine awpl_op rfl (opTo_q (d := 57) rfl rfl (ev_pick_t rfl c29)) ?_
          refine awpl_op rfl (opTo_q (d := 2) rfl rfl ev_assign) ?_
          refine awpl_nil ?_
          cases hr
          exact joinK_normal _ rfl (frLe_cons rfl frLe_nil) stoLe_nil
        · replace hr := cond_f c29 hr
          refine awpl_no (d := 53) rfl rfl rfl c29 ?_
          refine awpl_no (d := 53) rfl rfl rfl c29 ?_
          refine awpl_no (d := 53) rfl rfl rfl c29 ?_
          refine awpl_op rfl (opTo_q (d := 57) rfl rfl (ev_pick_f rfl c29)) ?_
          refine awpl_op rfl (opTo_q (d := 2) rfl rfl ev_assign) ?_
          refine awpl_nil ?_
          cases hr
          exact joinK_normal _ rfl (frLe_cons rfl frLe_nil) stoLe_nil
      · replace hr := cond_f c28 hr
        refine awpl_no (d := 48) rfl rfl rfl c28 ?_
        refine awpl_no (d := 48) rfl rfl rfl c28 ?_
        refine awpl_no (d := 48) rfl rfl rfl c28 ?_
        refine awpl_op rfl (opTo_q (d := 52) rfl rfl (ev_pick_f rfl c28)) ?_
        refine awpl_op rfl (opTo_q (d := 53) rfl rfl ev_move) ?_
        refine awpl_no (d := 53) rfl rfl rfl rfl ?_
        refine awpl_no (d := 53) rfl rfl rfl rfl ?_
        refine awpl_no (d := 53) rfl rfl rfl rfl ?_
        refine awpl_op rfl (opTo_q (d := 57) rfl rfl (ev_pick_f rfl rfl)) ?_
        refine awpl_op rfl (opTo_q (d := 2) rfl rfl ev_assign) ?_
        refine awpl_nil ?_
        cases hr
        exact joinK_normal _ rfl (frLe_cons rfl frLe_nil) stoLe_nil
    · rintro _ rfl
      have hr := hy
      clear hx hy
      refine awp_ret ?_
      cases hr
      exact kret' rfl (.cons (res_tmp rfl) .nil) rfl
end Go.Proofs.Ytlpmbmilnoncdaa

/- Small facts that all my walks use: endings, blocks, rows, frames. No program is named. -/
namespace Go.Proofs.Ytlpmbmilnoncdaa
open Go.RowKit

theorem ret_bool {a b : Bool} (h : a = b) : Ending.returned (.bool a) = .returned (.bool b) := by rw [h]
theorem ret_int {k : IntKind} {a b : Int} (h : a = b) : Ending.returned (.int k a) = .returned (.int k b) := by rw [h]

theorem take_all {α : Type} (p : α → Bool) (l : List α) (k : Nat) (h : k < l.length) : (l.take (k + 1)).all p = ((l.take k).all p && p l[k]) := by
  rw [List.take_succ_eq_append_getElem h, List.all_append]; simp
theorem all_false {α : Type} (p : α → Bool) (l : List α) (k : Nat) (h : k < l.length) (hp : p l[k] = false) : l.all p = false := by
  rw [List.all_eq_false]; exact ⟨l[k], List.getElem_mem h, by simp [hp]⟩

theorem bcell {W w1 : World} (hb : Below W.heap.size W w1) : (∀ b o, b < W.heap.size → w1.cell? ⟨b, o, none⟩ = W.cell? ⟨b, o, none⟩) ∧ (∀ b o, b < W.heap.size → w1.frozen? ⟨b, o, none⟩ = W.frozen? ⟨b, o, none⟩) :=
  ⟨fun b o h => hb.cell (p := ⟨b, o, none⟩) h, fun b o h => hb.frozen (p := ⟨b, o, none⟩) h⟩


/-- block b is just these cells, none frozen -/
def Blk (w : World) (b : Nat) (t : TypeId) (cs : Array Value) : Prop := w.heap[b]? = some (.cells cs t (0, 0))
theorem Blk.lt {w : World} {b : Nat} {t : TypeId} {cs : Array Value} (h : Blk w b t cs) : b < w.heap.size := by
  rcases Nat.lt_or_ge b w.heap.size with hlt | hge
  · exact hlt
  · unfold Blk at h; rw [Array.getElem?_eq_none hge] at h; cases h
theorem Blk.two {w : World} {b : Nat} {t : TypeId} {x y : Value} (h : Blk w b t #[x, y]) :
    w.cell? ⟨b, 0, none⟩ = some x ∧ w.cell? ⟨b, 1, none⟩ = some y ∧ w.frozen? ⟨b, 0, none⟩ = false ∧ w.frozen? ⟨b, 1, none⟩ = false ∧ b < w.heap.size := by
  refine ⟨?_, ?_, ?_, ?_, h.lt⟩ <;> unfold Blk at h <;> simp [World.cell?, World.frozen?, h]
theorem Blk.new (w : World) (t : TypeId) (cs : Array Value) : Blk (w.alloc (.cells cs t)) w.heap.size t cs := heap_alloc_new w _
theorem Blk.alloc {w : World} {b : Nat} {t : TypeId} {cs : Array Value} (h : Blk w b t cs) (o : Obj) : Blk (w.alloc o) b t cs := (Below.heap_alloc w o b h.lt).trans h
theorem Blk.below {w w' : World} {b : Nat} {t : TypeId} {cs : Array Value} {B : Nat} (h : Blk w b t cs) (hb : Below B w w') (hg : b < B) : Blk w' b t cs := (hb.block b hg).trans h

theorem val_int {k : IntKind} {a b : Int} (h : a = b) : Value.int k a = .int k b := by rw [h]
theorem tup3 {k : IntKind} {a b : Int} {x y : Value} (h : a = b) : Ending.returned (.tuple #[.int k a, x, y]) = .returned (.tuple #[.int k b, x, y]) := by rw [h]
section
variable {w1 w2 : World} {b t : Nat} {cs : Array Value} {o : Obj}
theorem Blk.step_new (hb : Below (w1.alloc (.cells cs t)).heap.size (w1.alloc (.cells cs t)) w2) : Blk w2 w1.heap.size t cs :=
  (Blk.new w1 t cs).below hb (by simp)
theorem Blk.step_old (h : Blk w1 b t cs) (hb : Below (w1.alloc o).heap.size (w1.alloc o) w2) : Blk w2 b t cs :=
  (h.alloc o).below hb (by have := h.lt; simp; omega)
end
theorem below_step {w w1 w2 : World} {o : Obj} (h : Below w.heap.size w w1) (hb : Below (w1.alloc o).heap.size (w1.alloc o) w2) : Below w.heap.size w w2 :=
  (h.alloc h.size o).trans (hb.mono (by have := h.size; simp; omega))
theorem below_trans {w w1 w2 : World} (h : Below w.heap.size w w1) (hb : Below w1.heap.size w1 w2) : Below w.heap.size w w2 :=
  h.trans (hb.mono h.size)

theorem keep2 {W w5 w6 : World} {b : Nat} {x y : Value} (h : w5.cell? ⟨b, 0, none⟩ = some x ∧ w5.cell? ⟨b, 1, none⟩ = some y ∧ Below W.heap.size W w5) (hb : b < W.heap.size) (k : Below w5.heap.size w5 w6) :
    w6.cell? ⟨b, 0, none⟩ = some x ∧ w6.cell? ⟨b, 1, none⟩ = some y ∧ Below W.heap.size W w6 := by
  have hs := h.2.2.size
  exact ⟨(k.cell (p := ⟨b, 0, none⟩) (Nat.lt_of_lt_of_le hb hs)).trans h.1, (k.cell (p := ⟨b, 1, none⟩) (Nat.lt_of_lt_of_le hb hs)).trans h.2.1, below_trans h.2.2 k⟩

/-- a slice of cells, one a value: it holds these values -/
def Row (w : World) (a : Option Addr) (len : Nat) (vs : List Value) : Prop :=
  vs.length = len ∧ (len = 0 ∨ ∃ b off, a = some ⟨b, off, none⟩ ∧ ∀ i v, vs[i]? = some v → w.cell? ⟨b, off + i, none⟩ = some v)


end Go.Proofs.Ytlpmbmilnoncdaa

/- What every law's row wants at its end: arguments of any shape read as they did where nothing that was there has turned. -/
namespace Go.Proofs.Ytlpmbmilnoncdaa
open Go.ChangeShapes Go.WideShapes Go.ChangeAt Go.RowKit
open Go.ChangeMaps (open_string shut_string)

theorem own : ownKnob Try.prog.godebug = none := by kernel_rfl
theorem laidOut : laidOutB Try.prog = true := by kernel_rfl

theorem trodAll_stays {H : Type} {enc : TypeId × Value → H} {P : Program} (hl : laidOutB P = true) {W W' : World} (hb : Below W.heap.size W W') :
    ∀ (ts : List TypeId) (vs : List Value) (ds : List (DataW H)) (ps : List MemPlace), (ts.all fun t => P.readableRec t && decide (t < P.types.size)) = true →
      DataW.TrodAll enc P W 0 (fun _ => true) true ts vs ds ps → DataW.TrodAll enc P W' 0 (fun b => decide (b < W.heap.size)) true ts vs ds ps
  | [], [], [], _, _, h => h
  | t :: ts, v :: vs, d :: ds, ps, hts, ⟨p, q, h, hs, e⟩ => by
    simp only [List.all_cons, Bool.and_eq_true, decide_eq_true_eq] at hts
    have lt : ∀ x ∈ p, x.block < W.heap.size := by obtain ⟨m, hm⟩ := h; exact DataW.trod_lt m _ _ _ hm
    exact ⟨p, q, Below.trod hl hts.1.1 hts.1.2 h hb lt, trodAll_stays hl hb ts vs ds q hts.2 hs, e⟩

/-- THE POST of a law: it returned true, and nothing that was there has turned. -/
theorem post_true {H : Type} {enc : TypeId × Value → H} {P : Program} {f : Func} {s : ChangeSpec} {t : TypeId} (hl : laidOutB P = true) (hres : f.resultTypes = #[t]) (ht : P.underlying t = some .bool)
    (hts : (f.params.toList.all fun t => P.readableRec t && decide (t < P.types.size)) = true) {W W' : World} {args : Array Value} {ds gs : List (DataW H)} {before : List MemPlace} (hv : s.vars = [])
    (hspec : s.fn H (ds ++ gs) = { results := [.lit (.bool true)], args := ds, vars := [] })
    (hW : DataW.Whole enc P f.params.toList s.vars false W args.toList ds gs before) (hb : Below W.heap.size W W') :
    s.post enc P f false true false false W args (.bool true) W' := by
  have hW' := hW
  obtain ⟨p, q, hA, hV, hbe, hfz, hnd⟩ := hW
  refine ⟨ds, gs, before, [], p, [], hW', ?_, ?_, ?_, ?_, fun h => by cases h⟩
  · rw [hspec, hres]; exact trodAll_mk1 (shut_bool ht _)
  · rw [hspec]; exact trodAll_stays hl hb _ _ _ _ hts hA
  · rw [hspec, hv]; rfl
  · have hq : q = [] := by rw [hv] at hV; cases gs with
      | nil => exact hV
      | cons g gs => exact hV.elim
    refine World.keptBut_mono (fun p hp => ⟨hp, ?_⟩) (hb.frame (· ∈ before))
    rw [hbe, hq, List.append_nil] at hp
    exact .inr (.inl hp)

/-- a slice of integers that came in -/
theorem open_row_int {H : Type} {enc : TypeId × Value → H} {P : Program} {W : World} {base : Nat} {t e : TypeId} {k : IntKind} {v : Value} {d : DataW H} {p : List MemPlace} (ht : P.underlying t = some (.slice e)) (he : P.underlying e = some (.int k)) (hc : P.cellsOf e = 1)
    (hok : Value.okWide P W .any base t v) (h : DataW.Trod enc P W 0 (fun _ => true) true t v d p) :
    ∃ (a : Option Addr) (len cap : Nat) (zs : List Int), v = .slice a len cap ∧ len ≤ maxLen ∧ Row W a len (zs.map (Value.int k)) ∧ ∀ z ∈ zs, (Lit.int k z).wf = true := by
  obtain ⟨a, len, cap, rfl⟩ := okWide_slice ht hok
  obtain ⟨fuel, hf⟩ := h
  rcases open_ints ht he hc hf with ⟨hcs, _⟩ | ⟨x, l, c, zs, hcs, _, hl, hm, hz, _, hcell, hwz⟩
  · simp [Value.cells] at hcs
    obtain ⟨rfl, rfl, rfl⟩ := hcs
    exact ⟨none, 0, 0, [], rfl, Nat.zero_le _, ⟨rfl, .inl rfl⟩, by simp⟩
  · simp [Value.cells] at hcs
    obtain ⟨rfl, rfl, rfl⟩ := hcs
    have hz : zs.length = cap := by simpa using hz
    refine ⟨_, len, cap, zs.take len, rfl, Nat.le_trans hl hm, ⟨by simp; omega, ?_⟩, fun z hz => hwz z (List.mem_of_mem_take hz)⟩
    by_cases h0 : len = 0
    · exact .inl h0
    obtain ⟨b, off, spot⟩ := x
    have hc0 := hcell 0 (by omega)
    have hspot : spot = none := by simpa [Addr.add] using World.cell?_spot hc0
    subst hspot
    refine .inr ⟨b, off, rfl, fun i v hv => ?_⟩
    rw [List.getElem?_map, List.getElem?_take] at hv
    by_cases hi : i < len
    · rw [if_pos hi] at hv
      have hi2 : i < zs.length := by omega
      have := hcell i hi2
      rw [List.getElem?_eq_getElem hi2] at hv
      simp only [Option.map_some, Option.some.injEq] at hv
      subst hv
      have ea : (⟨b, off, none⟩ : Addr).add i = ⟨b, off + i, none⟩ := by
        unfold Addr.add
        by_cases h0 : i = 0
        · simp [h0]
        · simp [h0]
      rw [ea] at this
      rw [this]
      simp [hi2]
    · rw [if_neg hi] at hv
      simp at hv

end Go.Proofs.Ytlpmbmilnoncdaa

/- A row's frame for laws that read package variables of the library: the shape of the first world is handed over. -/
namespace Go.Proofs.Ytlpmbmilnoncdaa
open Go.ChangeShapes Go.WideShapes Go.ChangeAt Go.RowKit
theorem returnsInHanded_of_cond_shaped {H : Type} {enc : TypeId × Value → H} {a : Assume} {C : Checked} {os : Os} {f : FuncId} {fn : Func} {s : OpenSpec} {k : (H : Type) → List (DataW H) → Bool} (hk : s.cond = some k) {F : Stop.Interp} {conds : List PathCond} {apart fresh handsOn again : Bool}
    (own : ownKnob C.prog.godebug = none) (started : os.Started) (noInit : C.prog.inits.idxOf? f = none) (hfn : C.prog.funcs[f]? = some fn)
    (witness : ∃ (w : World) (tape : Tape) (i : Input), w.os = os ∧ (w.forCall tape i).Shaped C.prog ∧ i.vars = [] ∧ Input.okWide C.prog (w.forCall tape i) .any w.heap.size f i ∧
      s.pre6 enc C.prog fn conds apart (w.forCall tape i).memory i.args ∧ a.holds C.prog (lone (Frame.enter C.prog f i.args .normal) [] (w.forCall tape i)))
    (contract : ∀ (W : World) (base : Nat) (args : Array Value) (ds gs : List (DataW H)) (before : List MemPlace),
      (∀ (j : Nat) t v, fn.params[j]? = some t → args[j]? = some v → Value.okWide C.prog W .any base t v) →
      DataW.Whole enc C.prog fn.params.toList s.vars apart W args.toList ds gs before →
      conds.all (PathCond.test C.prog ⟨fn.params.toList, ds, s.bare.plain.varTypes C.prog, gs⟩) = true → k H (ds ++ gs) = true →
      W.ShapedOpen C.prog →
      a.holds C.prog (lone (Frame.enter C.prog f args .normal) [] W) →
      Calls C.prog f args W fun e W' => ∃ v, e = .returned v ∧ (s.at F).post enc C.prog fn apart fresh handsOn again W args v W') :
    ReturnsInHanded a C os f .any (s.pre6 enc C.prog fn conds apart) ((s.at F).post enc C.prog fn apart fresh handsOn again) := by
  refine returnsInHanded_of_calls own started noInit witness ?_
  intro w tape i _ hsh _ hok hpre hholds
  obtain ⟨_, _, _, fn', hfn', _, _, _, _, hval⟩ := hok
  have e : fn' = fn := Option.some.inj (hfn'.symm.trans hfn)
  subst e
  obtain ⟨ds, gs, before, hw, hc, hkk⟩ := (OpenSpec.pre_some hk conds apart _ _).1 hpre.1
  refine (contract (w.forCall tape i) w.heap.size i.args ds gs before hval (DataW.Whole.of_heap (w' := w.forCall tape i) (by rfl) hw) hc hkk hsh hholds).mono fun e W' ⟨v, he, hp⟩ => ?_
  subst he
  exact ChangeSpec.post_blind hp
theorem gl_of_shaped {W : World} (h : W.ShapedOpen Try.prog) : Gl (gAll W) := by
  intro p hp
  simp only [globs, List.mem_cons, List.not_mem_nil, or_false] at hp
  subst hp
  obtain ⟨m, hm⟩ := cell_of_shapedOpen_int (P := Try.prog) (g := 0) (t := 3) (zero := #[.int .i64 0]) h (of_decide_eq_true (by kernel_rfl)) (by kernel_rfl) rfl (by kernel_rfl) (by kernel_rfl) Try.underlying3
  obtain ⟨h1, h2⟩ := uAll_lt hm
  exact ⟨h2, h1, m, hm⟩
end Go.Proofs.Ytlpmbmilnoncdaa

namespace Go.Proofs.Ytlpmbmilnoncdaa.aliasLoopsMatchSpec
open Go.ChangeShapes Go.WideShapes Go.ChangeAt Go.RowKit
set_option linter.unusedVariables false
set_option maxRecDepth 100000

theorem contract (H : Type) (enc : TypeId × Value → H) (W : World) (base : Nat) (args : Array Value) (ds gs : List (DataW H)) (before : List MemPlace)
    (hval : ∀ (j : Nat) t v, Try.f11.params[j]? = some t → args[j]? = some v → Value.okWide Try.prog W .any base t v)
    (hW : DataW.Whole enc Try.prog Try.f11.params.toList Rows.aliasLoopsMatchSpecSpec.vars false W args.toList ds gs before) (hk : Rows.uptoSmall H (ds ++ gs) = true) (hgl : Gl (gAll W)) :
    Calls Try.prog 11 args W fun e W' => ∃ v, e = .returned v ∧ Rows.aliasLoopsMatchSpecSpec.post enc Try.prog Try.f11 false true false false W args v W' := by
  have hW' := hW
  obtain ⟨p, q, hA0, hV, rfl, hfz, hnd⟩ := hW
  have hA : DataW.TrodAll enc Try.prog W 0 (fun _ => true) true Try.f11.params.toList args.toList ds p := hA0
  rw [Try.params11] at hA hval
  obtain ⟨v0, vs0, d0, ds0, p0, q0, hargs, rfl, rfl, h0, r0⟩ := trodAll_cons hA
  obtain ⟨rfl, rfl, rfl⟩ := trodAll_nil r0
  obtain rfl : args = #[v0] := by cases args; simp_all
  obtain ⟨rfl, rfl⟩ := trodVars_none hV
  obtain ⟨a0, e0, o0, k0⟩ := arg_one op_s_api_Alias (by obtain ⟨_, _, _, h⟩ := okWide_slice ty_s_api_Alias.u (hval 0 _ v0 rfl rfl); rw [h]; rfl) h0
  have hk2 := of_decide_eq_true hk
  simp only [List.append_nil, Rows.uptoBulkAll] at hk2
  have ht := L_AliasLoopsMatchSpec_true a0 o0 (by (try dsimp only); omega)
  have key : Calls Try.prog 11 #[v0] W fun e W' => e = .returned (.bool true) ∧ Below W.heap.size W W' := calls_of_run (L_AliasLoopsMatchSpec_run a0 true ht) hgl (relArgs_of (.cons (e0 _ rfl) .nil))
  refine key.mono fun e W' ⟨he, hb⟩ => ⟨_, he, ?_⟩
  exact post_true laidOut (by kernel_rfl) Try.underlying4 (by kernel_rfl) rfl rfl hW' hb

theorem lifted (os : Os) (started : os.Started) (H : Type) (enc : TypeId × Value → H) (F : Stop.Interp) :
    ReturnsInHanded {} Try.checked os 11 .any ((Rows.OpenSpec.upto Rows.aliasLoopsMatchSpecSpec).pre6 enc Try.prog Try.f11 Rows.aliasLoopsMatchSpecUptoRow.domain false) (((Rows.OpenSpec.upto Rows.aliasLoopsMatchSpecSpec).at F).post enc Try.prog Try.f11 false true false false) := by
  refine returnsInHanded_of_cond_shaped (C := Try.checked) (s := Rows.OpenSpec.upto Rows.aliasLoopsMatchSpecSpec) (k := Rows.uptoSmall) rfl own started (by kernel_rfl) Try.func11
    (OpenSpec.witness (enc := enc) (C := Try.checked) (s := Rows.OpenSpec.upto Rows.aliasLoopsMatchSpecSpec) (k := Rows.uptoSmall) rfl false ⟨#[], #[.slice none 0 0], []⟩ 8 (by kernel_rfl) (by kernel_rfl) (by kernel_rfl)
      (x := ([.nil], [], [])) (by kernel_rfl) rfl (by kernel_rfl)) ?_
  intro W base args ds gs before hval hW _ hk hsh _
  exact contract H enc W base args ds gs before hval hW hk (gl_of_shaped hsh)

theorem over : Rows.aliasLoopsMatchSpecUptoRow.holds Try.pinned (Rows.OpenSpec.upto Rows.aliasLoopsMatchSpecSpec) :=
  OpenClaim.holds_of_cond 11 Try.f11 rfl rfl rfl rfl rfl rfl rfl ⟨rfl, rfl, rfl, rfl, rfl⟩ rfl rfl rfl rfl rfl (by kernel_rfl) Try.func11 (by kernel_rfl)
    (of_decide_eq_true (by kernel_rfl)) (by unfold Func.isWrapper; first | (rw [if_pos (by decide +kernel)]; kernel_rfl) | (rw [if_neg (by decide +kernel)]; exact ⟨rfl, rfl⟩))
    (fun os started H enc _ F => lifted os started H enc F)

theorem proved : Rows.AliasLoopsMatchSpecUptoSaid := over
#print axioms proved
end Go.Proofs.Ytlpmbmilnoncdaa.aliasLoopsMatchSpec
